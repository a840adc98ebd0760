/- Texts for the law SeekerRolled (chapters 8 and 9), part 10. It holds of every program, tape and world that the statements name, as each theorem says. -/
import Derived.Conc.CrowdSel
import Derived.Laws.Sem
import Derived.Test.YtclnbamaepgfiaaGreatDoorR1
import Derived.Test.YtclnbamaepgfiaaGreatDoorR3
import Derived.Test.YtclnbamaepgfiaaGreatDoorR4
import Derived.Test.YtclnbamaepgfiaaGreatDoorR5
import Derived.Test.YtclnbamaepgfiaaGreatDoorR7
import Derived.Test.YtclnbamaepgfiaaGreatDoorR8
open Go renaming Goroutine -> gG, TypeId -> gT, Operand -> gO, Program -> gP, FuncId -> gF, Value -> gV, World -> gW, Oper -> gB
open Bool renaming true -> tt, false -> ff
section
set_option linter.all false
set_option maxRecDepth 20000
set_option maxHeartbeats 60000000
open Go.Proofs.Tryz renaming prog -> tp
open List renaming getElem?_eq_getElem -> lA, getElem?_eq_some_iff -> lD, length_append -> lF, perm_append_comm -> lH, mem_cons -> lI, eq_nil_of_length_eq_zero -> lK, mem_cons_of_mem -> lL, mem_of_getElem? -> lN, getElem?_set_ne -> lP, getElem?_map -> lQ, mem_singleton -> lS, mem_map -> lY, length_cons -> lZ, replicate -> mB
open List.Mem renaming head -> mC
open Array renaming getElem?_eq_getElem -> mD, getElem?_setIfInBounds_ne -> mE, getElem?_setIfInBounds_self_of_lt -> mF, getElem?_eq_some_iff -> mG, getElem?_map -> mJ
open Nat renaming le_refl -> mL, zero_le -> mN, eq_zero_or_pos -> mP, lt_or_ge -> mR, le_trans -> mT
open Bool renaming and_eq_true -> mX
open Option renaming map_eq_some_iff -> mY
open Int renaming toNat_natCast -> mZ
open Go.Vel.TK renaming maskL -> bA, rt -> bB, kp -> bC, cl -> bD, loopN -> bE, dq -> bL
open Go.Vel.TD renaming norm -> bS
namespace Go.Vel
open Go Go.Conc
theorem zdR{P:gP}{q:Question}{n:Nat}(hn:0<n)(hq:q=.select n\/∃ s,q=.extern s n)(w:gW):∃ a d,a<n/\(choose q).run P w=.ok a (w.at d):=by
 by_cases hf:q.forced=tt
 ·exact⟨0,w.drawn,hn,by simp only[choose,Sem.run,hf,if_true];rfl⟩
 ·refine⟨q.cut (w.tape w.drawn q),w.drawn+1,?_,by simp only[choose,Sem.run,hf];rfl⟩;rcases hq with rfl|⟨s,rfl⟩
  ·exact Nat.mod_lt _ hn
  ·simp only[Question.cut];rw[if_neg oQ];exact Nat.mod_lt _ hn
theorem zbS{α β:Type}{P:gP}{s:Sem α}{f:α->Sem β}{w w':gW}{a:α}(h:s.run P w=.ok a w'):(s >>= f).run P w=(f a).run P w':=by
 show(Sem.bind s f).run P w=_;rw[Sem.run_bind',h];rfl
section
variable {P:gP}{gs:Array gG}{w w₁:gW}{sl:Option (Nat×Nat)}{i:Nat}{g g₂:gG}{es:Array Event}{shape:CommShape}{blocking:Bool}{cases:Array CommCase}
theorem zdD(hi:gs[i]? =some g)(h:stepG P (i==0) g w=.comm g₂ cases blocking shape w₁ es)
  (hcs:∀(q:Nat)(cc:CommCase),cases[q]? =some cc->∃ ch z s r tm,cc=rcase ch z/\w₁.heap[ch]? =some (.chan 0 #[] ff s r tm))
  (hall:∀ ch j k,(j,k)∈partners (gs.setIfInBounds i ph) ch tt->k=0/\j≠i/\∃ gj vj zj shj,gs[j]? =some (parked gj #[scase ch vj zj] shj))
  (hne:∃(q ch:Nat)(z:gV),cases[q]? =some (rcase ch z)/\partners (gs.setIfInBounds i ph) ch tt≠[]) :
  ∃(q ch:Nat)(z:gV)(s r:Nat)(tm:Bool)(j:Nat)(gj:gG)(vj zj:gV)(shj:CommShape)(d:Nat),cases[q]? =some (rcase ch z)/\w₁.heap[ch]? =some (.chan 0 #[] ff s r tm)/\j≠i /\
   gs[j]? =some (parked gj #[scase ch vj zj] shj) /\
   runT P (crowd gs w sl) i=(.next (crowd ((gs.setIfInBounds j (gj.finishComm P #[scase ch vj zj] shj 0 undef ff)).setIfInBounds i (g₂.finishComm P cases shape q vj tt)) ((w₁.at d).setChan ch 0 #[] ff (s+1) (r+1) tm) sl),
    MemOp.ofEvents i g.frame.fn g.frame.place es++#[{ g:=j,fn:=gj.frame.fn,pos:=gj.frame.place,act:=.send ch s },{ g:=i,fn:=g₂.frame.fn,pos:=g₂.frame.place,act:=.recv ch r 0 },
     { g:=j,fn:=gj.frame.fn,pos:=gj.frame.place,act:=.sendDone ch s },{ g:=i,fn:=g₂.frame.fn,pos:=g₂.frame.place,act:=.recvDone ch r }]):=by
 have hways:∀(q:Nat)(cc:CommCase),cases[q]? =some cc->∀ ch z,cc=rcase ch z->ways w₁ (gs.setIfInBounds i ph) cc=(partners (gs.setIfInBounds i ph) ch tt).map fun(h,k)=>Way.partner h k:=by
  intro q cc hq ch z e;obtain⟨ch',z',s,r,tm,e',hc⟩:=hcs q cc hq;rw[e]at e';simp only[rcase,CommCase.mk.injEq,Value.chan.injEq,Option.some.injEq]at e';obtain⟨rfl,_,rfl⟩:=e';subst e;simp only[ways,rcase,hc];cases partners (gs.setIfInBounds i ph) ch tt with
  | nil=>simp
  | cons p ps=>simp
 generalize hready:((cases.zipIdx.toList.map fun(c,k)=>(k,c,ways w₁ (gs.setIfInBounds i ph) c)).filter fun(_,_,ws) => !ws.isEmpty)=ready;have hin:∀ x∈ready,cases[x.1]? =some x.2.1/\x.2.2=ways w₁ (gs.setIfInBounds i ph) x.2.1/\x.2.2≠[]:=by
  intro x hx;rw[<- hready]at hx;obtain⟨hx1,hx2⟩:=List.mem_filter.1 hx;obtain⟨⟨c,k⟩,hck,rfl⟩:=lY.1 hx1;exact⟨mem_of_zipIdx hck,rfl,by simpa using hx2⟩
 have Qx:0<ready.length:=by
  obtain⟨q,ch,z,hq,hp⟩:=hne;have:(q,rcase ch z,ways w₁ (gs.setIfInBounds i ph) (rcase ch z))∈ready:=by
   rw[<- hready];refine List.mem_filter.2 ⟨lY.2 ⟨(rcase ch z,q),?_,rfl⟩,?_⟩
   ·exact Array.mem_toList_iff.2 (Array.mem_zipIdx_iff_getElem?.2 (by simpa using hq))
   ·rw[hways q _ hq ch z rfl];simpa using hp
  exact List.length_pos_of_mem this
 obtain⟨a,d1,ha,hrun1⟩:=zdR (P:=P) Qx (.inl rfl) w₁;obtain⟨x,hx⟩:∃ x,ready[a]? =some x:=⟨ready[a],lA ha⟩;obtain⟨q,cc,ws⟩:=x;obtain⟨hq,hws,hwne⟩:=hin _ (lN hx);simp only at hq hws hwne;obtain⟨ch,z,s,r,tm,rfl,hc⟩:=hcs q cc hq;rw[hways q _ hq ch z rfl]at hws
 obtain⟨b,d2,hb,hrun2⟩:=zdR (P:=P) (q:=.extern "which waiting goroutine is the partner" ws.length) (List.length_pos_iff.2 hwne) (.inr ⟨_,rfl⟩) (w₁.at d1)
 have hb':b<(partners (gs.setIfInBounds i ph) ch tt).length:=by rw[hws]at hb;simpa using hb
 obtain⟨⟨j,k⟩,hjk⟩:∃ p,(partners (gs.setIfInBounds i ph) ch tt)[b]? =some p:=⟨_,lA hb'⟩;obtain⟨rfl,hij,gj,vj,zj,shj,hj⟩:=hall ch j k (lN hjk);have hway:ws.getD b .closed=.partner j 0:=by rw[hws];exact getD_map_partner _ b (j,0) hjk
 refine⟨q,ch,z,s,r,tm,j,gj,vj,zj,shj,d2,hq,hc,hij,hj,?_⟩;rw[runT_crowd_comm hi h];have hj':=stand_get (i:=i) hij hj;have hfp:=finishPartner_at P (gs.setIfInBounds i ph) hj' (cs:=#[scase ch vj zj]) (sh:=shj) rfl 0 undef;have hgd:(gs.setIfInBounds i ph).getD j default=parked gj #[scase ch vj zj] shj:=by rw[Array.getD_eq_getD_getElem?,hj'];rfl
 have hov:offeredValue (gs.setIfInBounds i ph) j 0=vj:=by simp[offeredValue,hj',parked,scase]
 have hnot:¬ cases.any (illMade w₁)=tt:=by
  rw[Bool.not_eq_true];refine any_ill fun x hx=>?_;obtain⟨m,Qp,e⟩:=Array.mem_iff_getElem.1 hx;obtain⟨ch',z',s',r',tm',rfl,hc'⟩:=hcs m x (by rw[<- e];exact mD Qp);exact made_recv z' hc'
 have hemp:ready.isEmpty=ff:=by cases ready with
  | nil=>simp at Qx
  | cons=>rfl
 have hgd2:ready.getD a (0,default,[])=(q,rcase ch z,ws):=by simp[List.getD,hx]
 have hpick:(do
    let a <- choose (.select ready.length)
    let (k,c,ws):=ready.getD a (0,default,[])
    let b <- choose (.extern "which waiting goroutine is the partner" ws.length)
    pure (k,c,ws.getD b .closed):Sem (Nat×CommCase×Way)).run P w₁=.ok (q,rcase ch z,.partner j 0) ((w₁.at d1).at d2):=by
  rw[zbS hrun1];simp only[hgd2];rw[zbS hrun2];simp only[pure,Sem.run,hway]
 unfold communicate;simp only[hready,hemp,Bool.false_eq_true,if_false,hpick];rw[if_neg (by exact hnot)];simp[rcase,crowd,hc,hfp,hgd,hov,set_stand2,scase,parked,World.setChan,World.at];rfl
end
end Go.Vel
namespace Go.Vel.Gt
open Go Go.Conc
open Go.ConcN (sumTo upd upd_ne upd_same)
inductive TreeW(P:gP)(S:gG->Hp->Prop):gG->Hp->Prop
 | stop {g:gG} {H:Hp}:S g H->TreeW P S g H
 | step {g:gG} {H:Hp}:g.status=.running->(∀ w,z5 H w->∃ g' w' es,stepG P ff g w=.go g' w' es/\StepH H w w' es/\g'.status=.running) ->
   (∀ w g' w' es,z5 H w->stepG P ff g w=.go g' w' es->TreeW P S g' (H.next w w'))->TreeW P S g H
def AtSend(P:gP)(m:Nat×gV)(g:gG)(H:Hp):Prop :=
 ∃(g₂:gG)(z:gV)(n:Nat),g.status=.running/\QuitsD P n 0 (Go.Conc.served g₂ undef) /\
  ∀ w,z5 H w->∃ es,stepG P ff g w=.comm g₂ #[scase m.1 m.2 z] tt .send w es/\∀ e∈es,EvH H e
def sel2(cg cn:Nat)(z1 z2:gV):Array CommCase:=#[rcase cg z1,rcase cn z2]
inductive MainT(P:gP)(cg cn:Nat)(msg:Nat->Nat×gV)(Stop:gG->Hp->Prop):Nat->(Nat->Bool)->gG->Hp->Prop
 | stop {j:Nat} {R:Nat->Bool} {g:gG} {H:Hp}:g.status=.running->(∀ i,i<j->R i=tt)->Stop g H->MainT P cg cn msg Stop j R g H
 | step {j:Nat} {R:Nat->Bool} {g:gG} {H:Hp}:g.status=.running->(∀ w,z5 H w->∃ g' w' es,stepG P tt g w=.go g' w' es/\StepH H w w' es/\g'.status=.running) ->
   (∀ w g' w' es,z5 H w->stepG P tt g w=.go g' w' es->MainT P cg cn msg Stop j R g' (H.next w w'))->MainT P cg cn msg Stop j R g H
 | spawn {j:Nat} {R:Nat->Bool} {g:gG} {H:Hp} (g' ch:gG) (H₂ Hc:Hp):g.status=.running ->
   (∀ w,z5 H w->∃ es,stepG P tt g w=.spawn g' ch w es/\∀ e∈es,EvH H e)->g'.status=.running->ch.status=.running->R j=ff ->
   (∀ b rw o,H₂ b=some (rw,o)->∃ rw',H b=some (rw',o)/\(rw=tt->rw'=tt)) ->
   (∀ b rw o,Hc b=some (rw,o)->rw=ff/\∃ rw',H b=some (rw',o)) ->
   (∀ b o,H₂ b=some (tt,o)->Hc b=none) ->
   TreeW P (AtSend P (msg j)) ch Hc->MainT P cg cn msg Stop (j+1) R g' H₂->MainT P cg cn msg Stop j R g H
 | recv {j:Nat} {R:Nat->Bool} {g:gG} {H:Hp} (g₂:gG) (z1 z2:gV):g.status=.running->(∃ i,i<j/\R i=ff) ->
   (∀ w,z5 H w->∃ es,stepG P tt g w=.comm g₂ (sel2 cg cn z1 z2) tt .select w es/\∀ e∈es,EvH H e) ->
   (∀ i,i<j->R i=ff->∀ q:Nat,q=(if (msg i).1=cg then 0 else 1)->MainT P cg cn msg Stop j (upd R i tt) (g₂.finishComm P (sel2 cg cn z1 z2) .select q (msg i).2 tt) H)->MainT P cg cn msg Stop j R g H
inductive WS where
 | walk (g:gG) (H:Hp)
 | park (g:gG) (H:Hp) (z:gV) (n:Nat)
 | left (n:Nat)
def WS.hp:WS->Hp
 | .walk _ H=>H
 | .park _ H _ _=>H
 | .left _=>fun _=>none
def WS.act:WS->Prop
 | .left _=>False
 | _=>True
inductive WR(P:gP):WS->WS->Prop
 | slip (n:Nat):WR P (.left n) (.left (n+1))
 | walk {g g':gG} {H:Hp} {w w':gW} {es:Array Event}:z5 H w->stepG P ff g w=.go g' w' es->WR P (.walk g' (H.next w w')) (.walk g H)
 | park {g g':gG} {H H':Hp} {z:gV} {n:Nat}:WR P (.park g' H' z n) (.walk g H)
theorem wl(P:gP):∀ n,Acc (WR P) (.left n)
 | 0=>⟨_,fun y h=>by cases h⟩
 | n+1=>⟨_,fun y h=>by cases h;exact wl P n⟩
theorem zb0(P:gP)(g:gG)(H:Hp)(z:gV)(n:Nat):Acc (WR P) (.park g H z n):=⟨_,fun y h=>by cases h⟩
theorem zkP{P:gP}{m:Nat×gV}{g:gG}{H:Hp}(h:TreeW P (AtSend P m) g H):Acc (WR P) (.walk g H):=by
 induction h with
 | stop hs =>
  obtain⟨g₂,z,n,_,_,hst⟩:=hs;refine⟨_,fun y hy=>?_⟩;cases hy with
  | walk hf hgo =>
   obtain⟨es,e,_⟩:=hst _ hf;rw[hgo]at e;cases e
  | park=>exact zb0 P _ _ _ _
 | step _ _ _ ih =>
  refine⟨_,fun y hy=>?_⟩;cases hy with
  | walk hf hgo=>exact ih _ _ _ _ hf hgo
  | park=>exact zb0 P _ _ _ _
def hpOf(H:Hp)(f:Nat->WS)(i:Nat):Hp:=if i=0 then H else(f i).hp
theorem vO(H:Hp)(f:Nat->WS):hpOf H f 0=H:=rfl
theorem yJ(H:Hp)(f:Nat->WS){i:Nat}(h:0<i):hpOf H f i=(f i).hp:=by unfold hpOf;rw[if_neg oQ]
def WsOk(P:gP)(msg:Nat->Nat×gV)(m0:Nat)(t:Trace)(w:gW)(i:Nat)(x:gG):WS->Prop
 | .walk g H=>x=g/\m0<=i/\g.status=.running/\TreeW P (AtSend P (msg (i - m0))) g H/\z5 H w
 | .park g H z n=>x=parked g #[scase (msg (i - m0)).1 (msg (i - m0)).2 z] .send/\m0<=i/\QuitsD P n 0 (Go.Conc.served g undef)/\z5 H w
 | .left n=>QuitsD P n (Deaf t i) x
def Chans(cg cn:Nat)(w:gW):Prop:=∃ k1 t1 k2 t2,w.heap[cg]? =some (.chan 0 #[] ff k1 k1 t1)/\w.heap[cn]? =some (.chan 0 #[] ff k2 k2 t2)
structure GInv(P:gP)(Sb:Nat->Prop)(cg cn:Nat)(msg:Nat->Nat×gV)(m0:Nat)(gs:Array gG)(w:gW)(t:Trace)(j:Nat)(R:Nat->Bool)(H:Hp)(f:Nat->WS):Prop where
 pos:0<m0
 size:gs.size=m0+j
 fits:z5 H w
 ws:∀ i x,0<i->gs[i]? =some x->WsOk P msg m0 t w i x (f i)
 out:∀ i,gs.size<=i->f i=.left 0
 above:∀ k,gs.size<=k->Deaf t k=0
 tr:TInv Sb t w.heap.size (hpOf H f) (fun i=>0<i/\(f i).act)
 ch:Chans cg cn w
 noch:∀ i,i=0\/(f i).act->hpOf H f i cg=none/\hpOf H f i cn=none
 old:∀ i,i<j->(R i=tt↔¬ (f (m0+i)).act)
 young:∀ i,0<i->i<m0->¬ (f i).act
 new:∀ i,j<=i->R i=ff
section
variable {P:gP}{Sb:Nat->Prop}{cg cn:Nat}{msg:Nat->Nat×gV}{m0:Nat}{gs:Array gG}{w w':gW}{t:Trace}{j:Nat}{R:Nat->Bool}{H:Hp}{f:Nat->WS}
theorem GInv.fitsOf(h:GInv P Sb cg cn msg m0 gs w t j R H f)(i:Nat)(hi:i=0\/(0<i/\(f i).act)):z5 (hpOf H f i) w:=by
 rcases hi with rfl|⟨Qx,hact⟩
 ·exact h.fits
 ·rw[yJ H f Qx];have Qp:i<gs.size:=by
   apply Classical.byContradiction;intro hn;rw[h.out i oQ]at hact;exact hact
  have:=h.ws i _ Qx (mD Qp);cases e:f i with
  | walk g K=>rw[e]at this;exact this.2.2.2.2
  | park g K z n=>rw[e]at this;exact this.2.2.2
  | left n=>rw[e]at hact;exact hact.elim
theorem wj{t':Trace}{i:Nat}{x:gG}{s:WS}(h:WsOk P msg m0 t w i x s)(hd:Deaf t' i=Deaf t i)(hf:s.act->z5 s.hp w'):WsOk P msg m0 t' w' i x s:=by
 cases s with
 | walk g K=>exact⟨h.1,h.2.1,h.2.2.1,h.2.2.2.1,hf trivial⟩
 | park g K z n=>exact⟨h.1,h.2.1,h.2.2.1,hf trivial⟩
 | left n =>
  show QuitsD P n (Deaf t' i) x;rw[hd];exact h
theorem zcx{t:Trace}{a a':gG}{i:Nat}{x:gG}{s:WS}(hmsg:∀ i,(msg i).1=cg\/(msg i).1=cn)(h:WsOk P msg m0 t w i x s)(hc:Chans cg cn w'):woken P a a' w' x=x:=by
 cases s with
 | walk g K=>obtain⟨rfl,_,hr,_⟩:=h;exact woken_run hr
 | park g K z n =>
  obtain⟨rfl,_⟩:=h;obtain⟨k1,t1,k2,t2,h1,h2⟩:=hc;rcases hmsg (i - m0)with e|e
  ·rw[e];exact woken_send_open _ _ h1
  ·rw[e];exact woken_send_open _ _ h2
 | left n=>exact woken_quitsD h
theorem Chans.lt1(h:Chans cg cn w):cg<w.heap.size:=by
 obtain⟨_,_,_,_,h1,_⟩:=h;exact(mG.1 h1).1
theorem Chans.lt2(h:Chans cg cn w):cn<w.heap.size:=by
 obtain⟨_,_,_,_,_,h2⟩:=h;exact(mG.1 h2).1
theorem zcF{es:Array Event}{K:Hp}(h:Chans cg cn w)(hs:StepH K w w' es)(hk:K cg=none/\K cn=none):Chans cg cn w':=by
 obtain⟨k1,t1,k2,t2,h1,h2⟩:=h;refine⟨k1,t1,k2,t2,?_,?_⟩
 ·rw[hs.kept cg (mG.1 h1).1 (fun o e=>by rw[hk.1]at e;cases e)];exact h1
 ·rw[hs.kept cn (mG.1 h2).1 (fun o e=>by rw[hk.2]at e;cases e)];exact h2
theorem vd{K:Hp}{e:Event}(h:EvH K e)(a:Addr):MemAct.ofEvent e≠.mark (.release a):=by
 obtain⟨loc,wr,sy⟩:=e;cases loc with
 | mark m =>
  rcases h with h|⟨g,h⟩
  ·subst h;simp[MemAct.ofEvent]
  ·subst h;simp[MemAct.ofEvent]
 | cell b=>cases wr <;> cases sy <;> simp[MemAct.ofEvent]
 | obj r=>cases wr <;> cases sy <;> simp[MemAct.ofEvent]
 | _=>exact h.elim
theorem zbW{hp hp':Nat->Hp}{act:Nat->Prop}{es:Array Event}{fn:gF}{pos:String}(h:TInv Sb t w.heap.size hp act){i:Nat}(hi:i=0\/act i)(hf:∀ k,k=0\/act k->z5 (hp k) w)(hs:StepH (hp i) w w' es)
  (hoth:∀ k,k≠i->hp' k=hp k) (hown:hp' i=(hp i).next w w'):TInv Sb (t++MemOp.ofEvents i fn pos es) w'.heap.size hp' act:=by
 have hf':=(hf i hi).next hs;refine h.appOwn hi hs.size hoth (fun b rw o hb=>?_) (fun b wr hl=>?_) (fun k hk b x hb=>(hf k hk).lt hb) (fun op Qw=>by obtain⟨e,_,rfl⟩:=Go.Conc.mem_ofEvents Qw;rfl) ?_ (fun op Qw=>?_) (fun op Qw b hb hm=>?_) (fun op Qw=>by obtain⟨e,he,rfl⟩:=Go.Conc.mem_ofEvents Qw;exact vd (hs.evs e he))
 ·rw[hown]at hb;exact uJ hb
 ·rw[hown];exact zba (hf i hi) hs hl
 ·rw[Deaf_own];exact deafBehind_still (fun e he=>vw (hs.evs e he)) _
 ·obtain⟨e,he,rfl⟩:=Go.Conc.mem_ofEvents Qw;exact zac hf' (hs.evs e he)
 ·obtain⟨e,he,rfl⟩:=Go.Conc.mem_ofEvents Qw;rw[hown];exact vL (hs.evs e he) hb hm
theorem ub{hp:Nat->Hp}{act:Nat->Prop}{es:Array Event}{fn:gF}{pos:String}(h:TInv Sb t w.heap.size hp act){i:Nat}(hi:i=0\/act i)(hf:∀ k,k=0\/act k->z5 (hp k) w)(hs:∀ e∈es,EvH (hp i) e) :
  TInv Sb (t++MemOp.ofEvents i fn pos es) w.heap.size hp act:=by
 refine h.appOwn hi (mL _) (fun _ _=>rfl) (fun b rw o hb=>.inl ⟨o,hb⟩) (fun b wr hl=>hl) (fun k hk b x hb=>(hf k hk).lt hb) (fun op Qw=>by obtain⟨e,_,rfl⟩:=Go.Conc.mem_ofEvents Qw;rfl) ?_ (fun op Qw=>?_) (fun op Qw b hb hm=>?_) (fun op Qw=>by obtain⟨e,he,rfl⟩:=Go.Conc.mem_ofEvents Qw;exact vd (hs e he))
 ·rw[Deaf_own];exact deafBehind_still (fun e he=>vw (hs e he)) _
 ·obtain⟨e,he,rfl⟩:=Go.Conc.mem_ofEvents Qw;exact zac (hf i hi) (hs e he)
 ·obtain⟨e,he,rfl⟩:=Go.Conc.mem_ofEvents Qw;exact vL (hs e he) hb hm
theorem wA{i k:Nat}{g:gG}{K:Hp}(hact:(f i).act):(upd f i (.walk g K) k).act↔(f k).act:=by
 by_cases hk:k=i
 ·subst hk;rw[upd_same];exact⟨fun _=>hact,fun _=>trivial⟩
 ·rw[upd_ne f _ hk]
theorem wz{i k:Nat}{g:gG}{K:Hp}{z:gV}{n:Nat}(hact:(f i).act):(upd f i (.park g K z n) k).act↔(f k).act:=by
 by_cases hk:k=i
 ·subst hk;rw[upd_same];exact⟨fun _=>hact,fun _=>trivial⟩
 ·rw[upd_ne f _ hk]
theorem GInv.apart(h:GInv P Sb cg cn msg m0 gs w t j R H f){i k:Nat}(hi:i=0\/(0<i/\(f i).act))(hk:0<k/\(f k).act)(hne:i≠k):∀ b o,hpOf H f i b=some (tt,o)->(f k).hp b=none:=fun b o hb=>by
 have:=h.tr.disj i k b o hi (.inr hk) hne hb;rwa[yJ H f hk.1]at this
theorem zdt{i k:Nat}{x' y:gG}{F:gG->gG}(hy:((gs.map F).setIfInBounds i x')[k]? =some y)(Qp:i<gs.size):(k=i/\y=x')\/(k≠i/\∃ x,gs[k]? =some x/\y=F x):=by
 by_cases hk:i=k
 ·subst hk;rw[mF (by simpa using Qp)]at hy;exact .inl ⟨rfl,(Option.some.inj hy).symm⟩
 ·rw[mE hk,mJ]at hy;obtain⟨x,hx,rfl⟩:=mY.1 hy;exact .inr ⟨fun e=>hk e.symm,x,hx,rfl⟩
theorem zd2(hmsg:∀ i,(msg i).1=cg\/(msg i).1=cn)(h:GInv P Sb cg cn msg m0 gs w t j R H f){i:Nat}(hi:0<i){x x':gG}(hx:gs[i]? =some x){K:Hp}(hfi:f i=.walk x K){es:Array Event}
  (hs:StepH K w w' es) (hrun:x'.status=.running) (hT:TreeW P (AtSend P (msg (i - m0))) x' (K.next w w')) :
  GInv P Sb cg cn msg m0 ((gs.map (woken P x x' w')).setIfInBounds i x') w' (t++MemOp.ofEvents i x.frame.fn x.frame.place es) j R H (upd f i (.walk x' (K.next w w'))):=by
 have Qp:i<gs.size:=(mG.1 hx).1;have hact:(f i).act:=by rw[hfi];trivial
 have hi0:i≠0:=by omega
 have hhp:hpOf H f i=K:=by rw[yJ H f hi,hfi];rfl
 have hws:=h.ws i x hi hx;rw[hfi]at hws;obtain⟨_,hm0,_,_,hK⟩:=hws;have hnoc:=h.noch i (.inr hact);rw[hhp]at hnoc;have hc':=zcF h.ch hs hnoc;have hapart:∀ k,(k=0\/(0<k/\(f k).act))->k≠i->z5 (hpOf H f k) w':=fun k hk hki=>by
  refine(h.fitsOf k hk).other hs fun b o hb=>?_;rw[<- hhp]at hb;exact h.tr.disj i k b o (.inr ⟨hi,hact⟩) hk (Ne.symm hki) hb
 refine⟨h.pos,by simpa using h.size,?_,fun k y hk hy=>?_,fun k hk=>?_,fun k hk=>?_,?_,hc',fun k hk=>?_,fun k hk=>?_,fun k hk hk'=>?_,h.new⟩
 ·have:=hapart 0 (.inl rfl) (Ne.symm hi0);exact this
 ·rcases zdt hy Qp with⟨rfl,rfl⟩|⟨hki,y',hy',rfl⟩
  ·rw[upd_same];exact⟨rfl,hm0,hrun,hT,hK.next hs⟩
  ·rw[upd_ne f _ hki];have hk':=h.ws k y' hk hy';rw[zcx hmsg hk' hc'];refine wj hk' (Deaf_other t (Ne.symm hki) _ ya) fun hka=>?_;have:=hapart k (.inr ⟨hk,hka⟩) hki;rwa[yJ H f hk]at this
 ·have:k≠i:=by simp at hk;omega
  rw[upd_ne f _ this];exact h.out k (by simpa using hk)
 ·rw[Deaf_other t (g':=i) (by simp at hk;omega) _ ya];exact h.above k (by simpa using hk)
 ·have hTr:=zbW (hp':=hpOf H (upd f i (.walk x' (K.next w w')))) (fn:=x.frame.fn) (pos:=x.frame.place) h.tr (i:=i) (.inr ⟨hi,hact⟩) h.fitsOf (by rw[hhp];exact hs) (fun k hk=>by
   unfold hpOf;rw[upd_ne f _ hk]) (by rw[hhp,yJ _ _ hi,upd_same];rfl)
  exact hTr.re (fun k=>⟨fun x=>⟨x.1,(wA hact).1 x.2⟩,fun x=>⟨x.1,(wA hact).2 x.2⟩⟩) fun _ _=>rfl
 ·by_cases hki:k=i
  ·subst hki;rw[yJ _ _ hi,upd_same];refine⟨?_,?_⟩
   ·have hlt1:=Chans.lt1 h.ch;show K.next w w' cg=none;unfold Hp.next;rw[hnoc.1,if_neg oQ]
   ·have hlt2:=Chans.lt2 h.ch;show K.next w w' cn=none;unfold Hp.next;rw[hnoc.2,if_neg oQ]
  ·have:=h.noch k (hk.imp id fun x=>(wA hact).1 x);unfold hpOf at this ⊢;rwa[upd_ne f _ hki]
 ·rw[wA hact];exact h.old k hk
 ·rw[wA hact];exact h.young k hk hk'
theorem vx(h:GInv P Sb cg cn msg m0 gs w t j R H f)(d:Nat):GInv P Sb cg cn msg m0 gs (w.at d) t j R H f :=
 ⟨h.pos,h.size,h.fits,fun i x hi hx=>wj (h.ws i x hi hx) rfl fun ha=>by
  have:=h.fitsOf i (.inr ⟨hi,ha⟩);rw[yJ H f hi]at this;exact this,h.out,h.above,h.tr,h.ch,h.noch,h.old,h.young,h.new⟩
theorem zd1(hmsg:∀ i,(msg i).1=cg\/(msg i).1=cn)(h:GInv P Sb cg cn msg m0 gs w t j R H f){i n:Nat}(hi:0<i){x x':gG}(hx:gs[i]? =some x)(hfi:f i=.left (n+1)){es:Array Event}
  (hm:∀ e∈es,e.mute=tt) (hq:QuitsD P n (deafBehind (Deaf t i) es) x') :
  GInv P Sb cg cn msg m0 ((gs.map (woken P x x' w)).setIfInBounds i x') w (t++MemOp.ofEvents i x.frame.fn x.frame.place es) j R H (upd f i (.left n)):=by
 have Qp:i<gs.size:=(mG.1 hx).1;have hact:∀ k,(upd f i (.left n) k).act↔(f k).act:=fun k=>by
  by_cases hk:k=i
  ·subst hk;rw[upd_same,hfi];exact Iff.rfl
  ·rw[upd_ne f _ hk]
 have hhp:∀ k,k=0\/(f k).act->hpOf H (upd f i (.left n)) k=hpOf H f k:=fun k hk=>by
  unfold hpOf;by_cases hki:k=i
  ·subst hki;rcases hk with rfl|hk
   ·omega
   ·rw[hfi]at hk;exact hk.elim
  ·rw[upd_ne f _ hki]
 refine⟨h.pos,by simpa using h.size,h.fits,fun k y hk hy=>?_,fun k hk=>?_,fun k hk=>?_,?_,h.ch,fun k hk=>?_,fun k hk=>?_,fun k hk hk'=>?_,h.new⟩
 ·rcases zdt hy Qp with⟨rfl,rfl⟩|⟨hki,y',hy',rfl⟩
  ·rw[upd_same];show QuitsD P n (Deaf _ k) y;rw[Deaf_own];exact hq
  ·rw[upd_ne f _ hki];have hk':=h.ws k y' hk hy';rw[zcx hmsg hk' h.ch];refine wj hk' (Deaf_other t (Ne.symm hki) _ ya) fun hka=>?_;have:=h.fitsOf k (.inr ⟨hk,hka⟩);rwa[yJ H f hk]at this
 ·have:k≠i:=by simp at hk;omega
  rw[upd_ne f _ this];exact h.out k (by simpa using hk)
 ·rw[Deaf_other t (g':=i) (by simp at hk;omega) _ ya];exact h.above k (by simpa using hk)
 ·have hTr:=h.tr.appStill (u:=MemOp.ofEvents i x.frame.fn x.frame.place es) (fun op Qw=>by obtain⟨e,he,rfl⟩:=Go.Conc.mem_ofEvents Qw;exact touch_mute (hm e he)) (fun k hk=>Deaf_other t (fun e=>by
   subst e;rcases hk with rfl|hk
   ·omega
   ·rw[hfi]at hk;exact hk.2.elim) _ ya) (fun op Qw=>by obtain⟨e,he,rfl⟩:=Go.Conc.mem_ofEvents Qw;exact low_mute (hm e he) _) (fun op Qw=>by obtain⟨e,he,rfl⟩:=Go.Conc.mem_ofEvents Qw;exact v8 (hm e he))
  exact hTr.re (fun k=>⟨fun x=>⟨x.1,(hact k).1 x.2⟩,fun x=>⟨x.1,(hact k).2 x.2⟩⟩) fun k hk=>hhp k (hk.imp id And.right)
 ·have hk':=hk.imp id (hact k).1;rw[hhp k hk'];exact h.noch k hk'
 ·rw[hact];exact h.old k hk
 ·rw[hact];exact h.young k hk hk'
theorem zjq(hmsg:∀ i,(msg i).1=cg\/(msg i).1=cn)(h:GInv P Sb cg cn msg m0 gs w t j R H f){x x':gG}(hx:gs[0]? =some x){es:Array Event}(hs:StepH H w w' es) :
  GInv P Sb cg cn msg m0 ((gs.map (woken P x x' w')).setIfInBounds 0 x') w' (t++MemOp.ofEvents 0 x.frame.fn x.frame.place es) j R (H.next w w') f:=by
 have Qp:0<gs.size:=(mG.1 hx).1;have hnoc:=h.noch 0 (.inl rfl);rw[vO]at hnoc;have hc':=zcF h.ch hs hnoc;have hapart:∀ k,0<k->(f k).act->z5 (f k).hp w':=fun k hk ha=>by
  have hf:=h.fitsOf k (.inr ⟨hk,ha⟩);rw[yJ H f hk]at hf;exact hf.other hs fun b o hb=>h.apart (.inl rfl) ⟨hk,ha⟩ oQ b o hb
 refine⟨h.pos,by simpa using h.size,h.fits.next hs,fun k y hk hy=>?_,fun k hk=>?_,fun k hk=>?_,?_,hc',fun k hk=>?_,h.old,h.young,h.new⟩
 ·rcases zdt hy Qp with⟨rfl,rfl⟩|⟨hki,y',hy',rfl⟩
  ·omega
  ·have hk':=h.ws k y' hk hy';rw[zcx hmsg hk' hc'];exact wj hk' (Deaf_other t oQ _ ya) fun hka=>hapart k hk hka
 ·exact h.out k (by simpa using hk)
 ·rw[Deaf_other t (g':=0) (by simp at hk;omega) _ ya];exact h.above k (by simpa using hk)
 ·exact zbW h.tr (i:=0) (.inl rfl) h.fitsOf hs (fun k hk=>by unfold hpOf;rw[if_neg hk,if_neg hk]) rfl
 ·rcases mP k with rfl|Qx
  ·have hlt1:=Chans.lt1 h.ch;have hlt2:=Chans.lt2 h.ch;refine⟨?_,?_⟩
   ·show H.next w w' cg=none;unfold Hp.next;rw[hnoc.1,if_neg oQ]
   ·show H.next w w' cn=none;unfold Hp.next;rw[hnoc.2,if_neg oQ]
  ·have:=h.noch k hk;rwa[yJ _ _ Qx]at this ⊢
theorem zjr(h:GInv P Sb cg cn msg m0 gs w t j R H f){i:Nat}(hi:0<i){x g₂:gG}(hx:gs[i]? =some x){K:Hp}(hfi:f i=.walk x K){es:Array Event}{z:gV}{n:Nat}
  (hes:∀ e∈es,EvH K e) (hq:QuitsD P n 0 (Go.Conc.served g₂ undef)) :
  GInv P Sb cg cn msg m0 (gs.setIfInBounds i (parked g₂ #[scase (msg (i - m0)).1 (msg (i - m0)).2 z] .send)) w (t++MemOp.ofEvents i x.frame.fn x.frame.place es) j R H (upd f i (.park g₂ K z n)):=by
 have Qp:i<gs.size:=(mG.1 hx).1;have hact:(f i).act:=by rw[hfi];trivial
 have hhp:hpOf H f i=K:=by rw[yJ H f hi,hfi];rfl
 have hws:=h.ws i x hi hx;rw[hfi]at hws;obtain⟨_,hm0,_,_,hK⟩:=hws;have hsame:∀ k,hpOf H (upd f i (.park g₂ K z n)) k=hpOf H f k:=fun k=>by
  by_cases hki:k=i
  ·subst hki;rw[yJ _ _ hi,upd_same,hhp];rfl
  ·unfold hpOf;rw[upd_ne f _ hki]
 refine⟨h.pos,by simpa using h.size,h.fits,fun k y hk hy=>?_,fun k hk=>?_,fun k hk=>?_,?_,h.ch,fun k hk=>?_,fun k hk=>?_,fun k hk hk'=>?_,h.new⟩
 ·by_cases hki:i=k
  ·subst hki;rw[mF Qp]at hy;cases hy;rw[upd_same];exact⟨rfl,hm0,hq,hK⟩
  ·rw[mE hki]at hy;rw[upd_ne f _ (Ne.symm hki)];refine wj (h.ws k y hk hy) (Deaf_other t hki _ ya) fun hka=>?_;have:=h.fitsOf k (.inr ⟨hk,hka⟩);rwa[yJ H f hk]at this
 ·have:k≠i:=by simp at hk;omega
  rw[upd_ne f _ this];exact h.out k (by simpa using hk)
 ·rw[Deaf_other t (g':=i) (by simp at hk;omega) _ ya];exact h.above k (by simpa using hk)
 ·have hTr:=ub (fn:=x.frame.fn) (pos:=x.frame.place) h.tr (i:=i) (.inr ⟨hi,hact⟩) h.fitsOf (by rw[hhp];exact hes);rw[show hpOf H (upd f i (.park g₂ K z n))=hpOf H f from funext hsame];exact hTr.re (fun k=>⟨fun x=>⟨x.1,(wz hact).1 x.2⟩,fun x=>⟨x.1,(wz hact).2 x.2⟩⟩) fun _ _=>rfl
 ·rw[hsame];exact h.noch k (hk.imp id (wz hact).1)
 ·rw[wz hact];exact h.old k hk
 ·rw[wz hact];exact h.young k hk hk'
theorem kX{i k n:Nat}:(upd f i (.left n) k).act↔(f k).act/\k≠i:=by
 by_cases hk:k=i
 ·subst hk;rw[upd_same];exact⟨fun x=>x.elim,fun x=>absurd rfl x.2⟩
 ·rw[upd_ne f _ hk];exact⟨fun x=>⟨x,hk⟩,And.left⟩
theorem zfk{K:Hp}(h:z5 K w){c:Nat}(hc:K c=none)(d:Nat)(o:Obj):z5 K { w.at d with heap:=w.heap.setIfInBounds c o }:=fun b rw' o' hb=>by
 have hne:c≠b:=fun e=>by rw[<- e,hc]at hb;cases hb
 show(w.heap.setIfInBounds c o)[b]? =some o';rw[mE hne];exact h b rw' o' hb
theorem zd0(h:GInv P Sb cg cn msg m0 gs w t j R H f)(hne:cg≠cn){i:Nat}(hi:0<i)(hm0:m0<=i)(hact:(f i).act){s:Nat}(hs:s=i\/s=0){es:Array Event}(hes:∀ e∈es,EvH (hpOf H f s) e){gs':Array gG}(hsz:gs'.size=gs.size)
  {y:gG} {n:Nat} (hgi:gs'[i]? =some y) (hq:QuitsD P n 0 y) (hgo:∀ k,0<k->k≠i->gs'[k]? =gs[k]?) {c kk d:Nat} {tm:Bool} {fn:gF} {pos:String} (hc:c=cg\/c=cn) (hch:w.heap[c]? =some (.chan 0 #[] ff kk kk tm))
  {x1 x2 x3 x4:MemOp} (h1:x1.g=i/\x1.act=.send c kk) (h2:x2.act=.recv c kk 0) (h3:x3.act=.sendDone c kk) (h4:x4.g=0/\x4.act=.recvDone c kk) :
  GInv P Sb cg cn msg m0 gs' ((w.at d).setChan c 0 #[] ff (kk+1) (kk+1) tm) (t++(MemOp.ofEvents s fn pos es++#[x1,x2,x3,x4])) j (upd R (i - m0) tt) H (upd f i (.left n)):=by
 have hsz':((w.at d).setChan c 0 #[] ff (kk+1) (kk+1) tm).heap.size=w.heap.size:=by simp[World.setChan,World.at]
 have hclt:c<w.heap.size:=(mG.1 hch).1;have hact':s=0\/(0<s/\(f s).act):=hs.elim (fun e=>.inr (e ▸ ⟨hi,hact⟩)) .inl;have hkeep:∀ k,(k=0\/(0<k/\(f k).act))->z5 (hpOf H f k) ((w.at d).setChan c 0 #[] ff (kk+1) (kk+1) tm):=fun k hk=>by
  refine zfk (h.fitsOf k hk) ?_ d _;have:=h.noch k (hk.imp id And.right);rcases hc with rfl|rfl
  ·exact this.1
  ·exact this.2
 have hT1:=ub (fn:=fn) (pos:=pos) h.tr (i:=s) hact' h.fitsOf hes;have hT2:=hT1.comm (i:=i) ⟨hi,hact⟩ hclt (cap:=0) h1 h2 h3 h4;have hdeaf:∀ k,k≠0->k≠i->Deaf (t++(MemOp.ofEvents s fn pos es++#[x1,x2,x3,x4])) k=Deaf t k:=fun k hk0 hki=>by
  rw[<- Array.append_assoc];have hm:∀ op∈(#[x1,x2,x3,x4]:Array MemOp),op.act≠.mark .disable/\op.act≠.mark .enable:=fun op Qw=>by
   simp only[List.mem_toArray,lI,List.not_mem_nil,or_false]at Qw;rcases Qw with rfl|rfl|rfl|rfl
   ·rw[h1.2];exact⟨by simp,by simp⟩
   ·rw[h2];exact⟨by simp,by simp⟩
   ·rw[h3];exact⟨by simp,by simp⟩
   ·rw[h4.2];exact⟨by simp,by simp⟩
  rw[yS hm,Deaf_other t (g':=s) (by rcases hs with rfl|rfl <;> omega) _ ya]
 have hdeafi:Deaf (t++(MemOp.ofEvents s fn pos es++#[x1,x2,x3,x4])) i=0:=by
  rw[<- Array.append_assoc];have hm:∀ op∈(#[x1,x2,x3,x4]:Array MemOp),op.act≠.mark .disable/\op.act≠.mark .enable:=fun op Qw=>by
   simp only[List.mem_toArray,lI,List.not_mem_nil,or_false]at Qw;rcases Qw with rfl|rfl|rfl|rfl
   ·rw[h1.2];exact⟨by simp,by simp⟩
   ·rw[h2];exact⟨by simp,by simp⟩
   ·rw[h3];exact⟨by simp,by simp⟩
   ·rw[h4.2];exact⟨by simp,by simp⟩
  rw[yS hm];exact hT1.deaf i ⟨hi,hact⟩
 have hilt:i<gs.size:=by
  rw[<- hsz];exact(mG.1 hgi).1
 have hj:i - m0<j:=by have:=h.size;omega
 have hhp:∀ k,k=0\/((f k).act/\k≠i)->hpOf H (upd f i (.left n)) k=hpOf H f k:=fun k hk=>by
  unfold hpOf;rcases hk with rfl|⟨_,hki⟩
  ·rfl
  ·rw[upd_ne f _ hki]
 refine⟨h.pos,by rw[hsz];exact h.size,?_,fun k x hk hx=>?_,fun k hk=>?_,fun k hk=>?_,?_,?_,fun k hk=>?_,fun k hk=>?_,fun k hk hk'=>?_,fun k hk=>?_⟩
 ·exact hkeep 0 (.inl rfl)
 ·by_cases hki:k=i
  ·subst hki;rw[hgi]at hx;cases hx;rw[upd_same];show QuitsD P n _ y;rw[hdeafi];exact hq
  ·rw[hgo k hk hki]at hx;rw[upd_ne f _ hki];refine wj (h.ws k x hk hx) (hdeaf k oQ hki) fun hka=>?_;have:=hkeep k (.inr ⟨hk,hka⟩);rwa[yJ H f hk]at this
 ·have:k≠i:=by omega
  rw[upd_ne f _ this];exact h.out k oQ
 ·rw[hdeaf k oQ oQ];exact h.above k oQ
 ·rw[hsz',<- Array.append_assoc];exact hT2.re (fun k=>⟨fun x=>⟨⟨x.1,(kX.1 x.2).1⟩,(kX.1 x.2).2⟩,fun x=>⟨x.1.1,kX.2 ⟨x.1.2,x.2⟩⟩⟩) fun k hk=>hhp k (hk.imp id fun x=>⟨x.1.2,x.2⟩)
 ·obtain⟨k1,t1,k2,t2,g1,g2⟩:=h.ch;rcases hc with rfl|rfl
  ·refine⟨kk+1,tm,k2,t2,by simp[World.setChan,World.at,hclt],?_⟩;simp only[World.setChan,World.at];rw[mE hne];exact g2
  ·refine⟨k1,t1,kk+1,tm,?_,by simp[World.setChan,World.at,hclt]⟩;simp only[World.setChan,World.at];rw[mE (Ne.symm hne)];exact g1
 ·have hk':=hk.imp id kX.1;rw[hhp k hk'];exact h.noch k (hk'.imp id And.left)
 ·rw[kX];by_cases hki:k=i - m0
  ·subst hki;rw[upd_same];exact⟨fun _ x=>x.2 oQ,fun _=>rfl⟩
  ·rw[upd_ne R _ hki,h.old k hk];exact⟨fun x y=>x y.1,fun x y=>x ⟨y,oQ⟩⟩
 ·rw[kX];exact fun x=>h.young k hk hk' x.1
 ·rw[upd_ne R _ oQ];exact h.new k hk
theorem zh4(h:GInv P Sb cg cn msg m0 gs w t j R H f){x g' ch:gG}(hx:gs[0]? =some x){es:Array Event}(hes:∀ e∈es,EvH H e){H₂ Hc:Hp}(hrun:ch.status=.running)(hR:R j=ff)
  (h2:∀ b rw o,H₂ b=some (rw,o)->∃ rw',H b=some (rw',o)/\(rw=tt->rw'=tt))
  (h3:∀ b rw o,Hc b=some (rw,o)->rw=ff/\∃ rw',H b=some (rw',o))
  (h4:∀ b o,H₂ b=some (tt,o)->Hc b=none) (hT:TreeW P (AtSend P (msg j)) ch Hc) {fn fn':gF} {pos pos':String} :
  GInv P Sb cg cn msg m0 ((gs.setIfInBounds 0 g').push ch) w (t++((MemOp.ofEvents 0 fn pos es).push { g:=0,fn,pos,act:=.go gs.size }).push { g:=gs.size,fn:=fn',pos:=pos',act:=.start }) (j+1) R H₂ (upd f gs.size (.walk ch Hc)):=by
 have Qp:0<gs.size:=(mG.1 hx).1;have hgs:gs.size=m0+j:=h.size;have hnact:¬ (f gs.size).act:=by rw[h.out _ (mL _)];exact fun x=>x
 have hactiff:∀ k,(upd f gs.size (.walk ch Hc) k).act↔((f k).act\/k=gs.size):=fun k=>by
  by_cases hk:k=gs.size
  ·subst hk;rw[upd_same];exact⟨fun _=>.inr rfl,fun _=>trivial⟩
  ·rw[upd_ne f _ hk];exact⟨.inl,fun x=>x.elim id fun e=>absurd e hk⟩
 have hfc:z5 Hc w:=fun b rw o hb=>by
  obtain⟨_,rw',h0⟩:=h3 b rw o hb;exact h.fits b _ _ h0
 have hf2:z5 H₂ w:=fun b rw o hb=>by
  obtain⟨rw',h0,_⟩:=h2 b rw o hb;exact h.fits b _ _ h0
 have et:t++((MemOp.ofEvents 0 fn pos es).push { g:=0,fn,pos,act:=.go gs.size }).push { g:=gs.size,fn:=fn',pos:=pos',act:=.start }=t++MemOp.ofEvents 0 fn pos es++#[{ g:=0,fn,pos,act:=.go gs.size }]++#[{ g:=gs.size,fn:=fn',pos:=pos',act:=.start }]:=by
  simp only[Array.push_eq_append,Array.append_assoc]
 have hdeaf:∀ k,k≠0->Deaf (t++MemOp.ofEvents 0 fn pos es++#[{ g:=0,fn,pos,act:=.go gs.size }]++#[{ g:=gs.size,fn:=fn',pos:=pos',act:=.start }]) k=Deaf t k:=fun k hk=>by
  rw[yS (u:=#[_]) (fun op Qw=>by simp only[List.mem_toArray,lS]at Qw;subst Qw;exact⟨by simp,by simp⟩),yS (u:=#[_]) (fun op Qw=>by simp only[List.mem_toArray,lS]at Qw;subst Qw;exact⟨by simp,by simp⟩),Deaf_other t (Ne.symm hk) _ ya]
 have hT1:=ub (fn:=fn) (pos:=pos) h.tr (i:=0) (.inl rfl) h.fitsOf (by rw[vO];exact hes);have hT2:=hT1.spawn (hp':=hpOf H₂ (upd f gs.size (.walk ch Hc))) (c:=gs.size) Qp (fun x=>hnact x.2) (by rw[Deaf_other t (g':=0) oQ _ ya];exact h.above _ (mL _)) (x:={ g:=0,fn,pos,act:=.go gs.size }) (y:={ g:=gs.size,fn:=fn',pos:=pos',act:=.start }) ⟨rfl,rfl⟩ ⟨rfl,rfl⟩
  (fun k hk0 hkc=>by unfold hpOf;rw[if_neg hk0,if_neg hk0,upd_ne f _ hkc])
  (fun b rw o hb=>by
   obtain⟨rw',h0,himp⟩:=h2 b rw o hb;exact⟨rw',o,h0,himp⟩)
  (fun b rw o hb=>by
   rw[yJ _ _ Qp,upd_same]at hb;obtain⟨e,rw',h0⟩:=h3 b rw o hb;exact⟨e,rw',o,h0⟩)
  (fun b o hb=>by
   rw[yJ _ _ Qp,upd_same];exact h4 b o hb)
 rw[et];refine⟨h.pos,by simp;omega,hf2,fun k y hk hy=>?_,fun k hk=>?_,fun k hk=>?_,?_,h.ch,fun k hk=>?_,fun k hk=>?_,fun k hk hk'=>?_,fun k hk=>h.new k oQ⟩
 ·rw[Array.getElem?_push]at hy;split at hy
  ·rename_i hkg;cases hy;have hkg':k=gs.size:=by simpa using hkg
   subst hkg';rw[upd_same];refine⟨rfl,oQ,hrun,?_,hfc⟩;rw[show gs.size - m0=j by omega];exact hT
  ·rename_i hkg;have hkg':k≠gs.size:=by simpa using hkg
   rw[mE oQ]at hy;rw[upd_ne f _ hkg'];refine wj (h.ws k y hk hy) (hdeaf k oQ) fun hka=>?_;have:=h.fitsOf k (.inr ⟨hk,hka⟩);rwa[yJ H f hk]at this
 ·have hk':gs.size+1<=k:=by simpa using hk
  rw[upd_ne f _ oQ];exact h.out k oQ
 ·have hk':gs.size+1<=k:=by simpa using hk
  rw[hdeaf k oQ];exact h.above k oQ
 ·have hcv:∀ k,(0<k/\(upd f gs.size (.walk ch Hc) k).act)↔((0<k/\(f k).act)\/k=gs.size):=fun k=>by
   rw[hactiff];exact⟨fun x=>x.2.elim (fun y=>.inl ⟨x.1,y⟩) .inr,fun x=>x.elim (fun y=>⟨y.1,.inl y.2⟩) fun e=>⟨by omega,.inr e⟩⟩
  exact hT2.re hcv fun _ _=>rfl
 ·have h0:=h.noch 0 (.inl rfl);rw[vO]at h0;have Qv:∀ b,H b=none->H₂ b=none/\Hc b=none:=fun b hb=>by
   refine⟨?_,?_⟩
   ·cases e:H₂ b with
    | none=>rfl
    | some z=>obtain⟨_,h',_⟩:=h2 b z.1 z.2 e;rw[hb]at h';cases h'
   ·cases e:Hc b with
    | none=>rfl
    | some z=>obtain⟨_,_,h'⟩:=h3 b z.1 z.2 e;rw[hb]at h';cases h'
  rcases mP k with rfl|Qx
  ·exact⟨(Qv cg h0.1).1,(Qv cn h0.2).1⟩
  ·rw[yJ _ _ Qx];by_cases hkg:k=gs.size
   ·subst hkg;rw[upd_same];exact⟨(Qv cg h0.1).2,(Qv cn h0.2).2⟩
   ·rw[upd_ne f _ hkg];have:=h.noch k (hk.imp id fun x=>((hactiff k).1 x).elim id fun e=>absurd e hkg);rwa[yJ _ _ Qx]at this
 ·rw[hactiff];rcases mR k j with hkj|hkj
  ·rw[h.old k hkj];exact⟨fun x y=>y.elim x fun e=>by omega,fun x y=>x (.inl y)⟩
  ·obtain rfl:k=j:=by omega
   rw[hR];exact⟨fun x=>(by cases x),fun x=>absurd (.inr oQ) x⟩
 ·rw[hactiff];exact fun x=>x.elim (h.young k hk hk') fun e=>by omega
end
end Go.Vel.Gt
namespace Go.Vel.Gt
open Go Go.Conc
open Go.ConcN (sumTo upd upd_ne upd_same)
section
variable {P:gP}{Sb:Nat->Prop}{cg cn:Nat}{msg:Nat->Nat×gV}{m0:Nat}{gs:Array gG}{w w':gW}{t:Trace}{j:Nat}{R:Nat->Bool}{H:Hp}{f:Nat->WS}{sl:Option (Nat×Nat)}
theorem zei{i:Nat}{x:gG}{s:WS}(h:WsOk P msg m0 t w i x s)(c:Nat):offersAt x c ff=[]:=by
 cases s with
 | walk g K=>obtain⟨rfl,_,hr,_⟩:=h;exact offersAt_of_not_blocked (by rw[hr];simp) _ _
 | park g K z n=>obtain⟨rfl,_⟩:=h;exact offersAt_parked_send' _ _ _ _ _ _
 | left n=>exact offersAt_of_not_blocked (by rcases QuitsD.status h with e|e <;> rw[e] <;> simp) _ _
theorem zfL(h:GInv P Sb cg cn msg m0 gs w t j R H f){a:gG}(h0:gs[0]? =some a)(ha:a.status=.running)(i c:Nat):partners (gs.setIfInBounds i ph) c ff=[]:=by
 refine partners_nil fun k x hx=>?_;rcases getElem?_stand gs i k x hx with⟨_,rfl⟩|⟨hk,hx⟩
 ·rfl
 ·rcases mP k with rfl|Qx
  ·rw[h0]at hx;cases hx;exact offersAt_of_not_blocked (by rw[ha];simp) _ _
  ·exact zei (h.ws k x Qx hx) c
theorem uU(hmsg:∀ i,(msg i).1=cg\/(msg i).1=cn)(h:GInv P Sb cg cn msg m0 gs w t j R H f){a:gG}(h0:gs[0]? =some a)(ha:a.status=.running){i:Nat}(hi:0<i){x:gG}(hx:gs[i]? =some x)(hr:x.status=.running) :
  ∃ gs' w' u y,runT P (crowd gs w sl) i=(.next (crowd gs' w' sl),u)/\WR P y (f i)/\GInv P Sb cg cn msg m0 gs' w' (t++u) j R H (upd f i y)/\gs'[0]? =some a/\w'.tape=w.tape/\w'.os=w.os/\w'.output=w.output:=by
 have hws:=h.ws i x hi hx;have hi0:(i==0)=ff:=by simp;omega
 have hne:i≠0:=by omega
 cases hfi:f i with
 | park g K z n =>
  rw[hfi]at hws;obtain⟨rfl,_⟩:=hws;cases hr
 | left n =>
  rw[hfi]at hws;cases n with
  | zero=>rw[hws.1]at hr;cases hr
  | succ n =>
   rcases hws with⟨hf,_⟩|⟨_,x',es,hm,hst,hq⟩
   ·rw[hf]at hr;cases hr
   refine⟨_,_,_,.left n,runT_crowd_go hx (by rw[hi0];exact hst w),.slip n,zd1 hmsg h hi hx hfi hm hq,?_,rfl,rfl,rfl⟩;rw[mE hne,mJ,h0];simp[woken_run ha]
 | walk g K =>
  rw[hfi]at hws;obtain⟨rfl,hm0,_,hT,hK⟩:=hws;cases hT with
  | step _ hgo Wj =>
   obtain⟨x',w',es,hst,hs,hrun⟩:=hgo w hK;refine⟨_,_,_,.walk x' (K.next w w'),runT_crowd_go hx (by rw[hi0];exact hst),.walk hK hst,zd2 hmsg h hi hx hfi hs hrun (Wj w x' w' es hK hst),?_,hs.tape,hs.os,hs.out⟩;rw[mE hne,mJ,h0];simp[woken_run ha]
  | stop hS =>
   obtain⟨g₂,z,n,_,hq,hst⟩:=hS;obtain⟨es,hst,hes⟩:=hst w hK;have hno:∀ cc∈(#[scase (msg (i - m0)).1 (msg (i - m0)).2 z]:Array CommCase),NoWays w (gs.setIfInBounds i ph) cc:=fun cc hcc=>by
    simp only[List.mem_toArray,lS]at hcc;subst hcc;obtain⟨k1,t1,k2,t2,h1,h2⟩:=h.ch;have hp:=zfL h h0 ha i (msg (i - m0)).1;rcases hmsg (i - m0)with e|e
    ·rw[e]at hp ⊢;exact⟨made_send _ _ h1,by simp[ways,scase,h1,hp]⟩
    ·rw[e]at hp ⊢;exact⟨made_send _ _ h2,by simp[ways,scase,h2,hp]⟩
   refine⟨_,_,_,.park g₂ K z n,crowd_waits hx (by rw[hi0];exact hst) hno,.park,zjr h hi hx hfi hes hq,?_,rfl,rfl,rfl⟩;rw[mE hne];exact h0
def atSel(cg cn:Nat)(g₂:gG)(z1 z2:gV):gG:=parked g₂ (sel2 cg cn z1 z2) .select
theorem zeG{a a' g₂:gG}{z1 z2:gV}(h:Chans cg cn w):woken P a a' w (atSel cg cn g₂ z1 z2)=atSel cg cn g₂ z1 z2:=by
 unfold woken;split
 ·refine again_all_open fun cc hcc=>?_;obtain⟨k1,t1,k2,t2,h1,h2⟩:=h;simp only[sel2,List.mem_toArray,lI,List.not_mem_nil,or_false]at hcc;rcases hcc with rfl|rfl
  ·exact⟨_,_,_,_,_,_,_,rfl,h1⟩
  ·exact⟨_,_,_,_,_,_,_,rfl,h2⟩
 ·rfl
def caseNo(cg c:Nat):Nat:=if c=cg then 0 else 1
theorem zcq(hne:cg≠cn){c:Nat}(hc:c=cg\/c=cn)(z1 z2:gV):∃ z,(sel2 cg cn z1 z2)[caseNo cg c]? =some (rcase c z):=by
 rcases hc with rfl|rfl
 ·exact⟨z1,by simp[sel2,caseNo]⟩
 ·exact⟨z2,by simp[sel2,caseNo,Ne.symm hne]⟩
theorem zik(hne:cg≠cn){c:Nat}(hc:c=cg\/c=cn)(g₂:gG)(z1 z2:gV):offersAt (atSel cg cn g₂ z1 z2) c ff=[caseNo cg c]:=by
 obtain⟨z,hz⟩:=zcq hne hc z1 z2;refine offersAt_parked_at hz fun m cc hm hcc=>?_;have hm2:m=0\/m=1:=by
  have:=(mG.1 hcc).1;simp[sel2]at this;omega
 rcases hc with rfl|rfl
 ·rcases hm2 with rfl|rfl
  ·simp[caseNo]at hm
  ·simp[sel2]at hcc;subst hcc;simp[rcase,Ne.symm hne]
 ·rcases hm2 with rfl|rfl
  ·simp[sel2]at hcc;subst hcc;simp[rcase,hne]
  ·simp[caseNo,Ne.symm hne]at hm
theorem zcY(hmsg:∀ i,(msg i).1=cg\/(msg i).1=cn)(hne:cg≠cn)(h:GInv P Sb cg cn msg m0 gs w t j R H f){g₂:gG}{z1 z2:gV}(h0:gs[0]? =some (atSel cg cn g₂ z1 z2))(hnp:∀ i,0<i->∀ g K z n,f i≠.park g K z n)
  {i:Nat} (hi:0<i) {x:gG} (hx:gs[i]? =some x) (hr:x.status=.running) :
  (∃ gs' w' u y,runT P (crowd gs w sl) i=(.next (crowd gs' w' sl),u)/\WR P y (f i)/\(∀ g K z n,y≠.park g K z n)/\GInv P Sb cg cn msg m0 gs' w' (t++u) j R H (upd f i y)/\gs'[0]? =some (atSel cg cn g₂ z1 z2)/\w'.tape=w.tape/\w'.os=w.os/\w'.output=w.output) \/
  (∃ gs' w' u n,runT P (crowd gs w sl) i=(.next (crowd gs' w' sl),u)/\m0<=i/\i - m0<j/\R (i - m0)=ff/\GInv P Sb cg cn msg m0 gs' w' (t++u) j (upd R (i - m0) tt) H (upd f i (.left n)) /\
   gs'[0]? =some (g₂.finishComm P (sel2 cg cn z1 z2) .select (caseNo cg (msg (i - m0)).1:Nat) (msg (i - m0)).2 tt)/\w'.tape=w.tape/\w'.os=w.os/\w'.output=w.output):=by
 have hws:=h.ws i x hi hx;have hi0:(i==0)=ff:=by simp;omega
 have hne0:i≠0:=by omega
 have hlt0:0<gs.size:=(mG.1 h0).1;have Qp:i<gs.size:=(mG.1 hx).1;cases hfi:f i with
 | park g K z n=>exact absurd hfi (hnp i hi g K z n)
 | left n =>
  left;rw[hfi]at hws;cases n with
  | zero=>rw[hws.1]at hr;cases hr
  | succ n =>
   rcases hws with⟨hf,_⟩|⟨_,x',es,hm,hst,hq⟩
   ·rw[hf]at hr;cases hr
   refine⟨_,_,_,.left n,runT_crowd_go hx (by rw[hi0];exact hst w),.slip n,by simp,zd1 hmsg h hi hx hfi hm hq,?_,rfl,rfl,rfl⟩;rw[mE hne0,mJ,h0];simp[zeG h.ch]
 | walk g K =>
  have hact:(f i).act:=by rw[hfi];trivial
  have hhp:hpOf H f i=K:=by rw[yJ H f hi,hfi];rfl
  rw[hfi]at hws;obtain⟨rfl,hm0,_,hT,hK⟩:=hws;cases hT with
  | step _ hgo Wj =>
   left;obtain⟨x',w',es,hst,hs,hrun⟩:=hgo w hK;have hG:=zd2 hmsg h hi hx hfi hs hrun (Wj w x' w' es hK hst);refine⟨_,_,_,.walk x' (K.next w w'),runT_crowd_go hx (by rw[hi0];exact hst),.walk hK hst,by simp,hG,?_,hs.tape,hs.os,hs.out⟩;rw[mE hne0,mJ,h0];simp[zeG hG.ch]
  | stop hS =>
   right;obtain⟨gs₂,z,n,_,hq,hst⟩:=hS;obtain⟨es,hst,hes⟩:=hst w hK;have hR:i - m0<j/\R (i - m0)=ff:=by
    have hsz:=h.size;have hj:i - m0<j:=by omega
    refine⟨hj,?_⟩;have:=h.old (i - m0) hj;rw[show m0+(i - m0)=i by omega]at this;cases e:R (i - m0)with
    | false=>rfl
    | true=>exact absurd hact (this.1 e)
   have hp:partners (gs.setIfInBounds i ph) (msg (i - m0)).1 ff=[(0,caseNo cg (msg (i - m0)).1)]:=by
    rw[partners_one (j:=0) (g:=atSel cg cn g₂ z1 z2) (by rw[mE hne0];exact h0) fun k y hk hy=>?_,zik hne (hmsg _)]
    ·rfl
    ·rcases getElem?_stand gs i k y hy with⟨_,rfl⟩|⟨hki,hy⟩
     ·rfl
     ·exact zei (h.ws k y oQ hy) _
   obtain⟨zc,hzc⟩:=zcq hne (hmsg (i - m0)) z1 z2;obtain⟨kk,tm,hch⟩:∃ kk tm,w.heap[(msg (i - m0)).1]? =some (.chan 0 #[] ff kk kk tm):=by
    obtain⟨k1,t1,k2,t2,h1,h2⟩:=h.ch;rcases hmsg (i - m0)with e|e
    ·rw[e];exact⟨_,_,h1⟩
    ·rw[e];exact⟨_,_,h2⟩
   have hrun:=crowd_send_meets_sel (P:=P) (sl:=sl) (i:=i) (j:=0) hx (by rw[hi0];exact hst) hch (Ne.symm hne0) h0 hzc hp;refine⟨_,_,_,n,hrun,hm0,hR.1,hR.2,?_,?_,rfl,rfl,rfl⟩
   ·refine zd0 (s:=i) (d:=w.drawn) h hne hi hm0 hact (.inl Z) (by rw[hhp];exact hes) sQ (y:=Go.Conc.served gs₂ undef) ?_ hq (fun k hk hki=>?_) (hmsg _) hch ⟨rfl,rfl⟩ rfl rfl ⟨rfl,rfl⟩
    ·rw[mF (by simpa using Qp)];rfl
    ·rw[mE (Ne.symm hki),mE oQ]
   ·rw[mE hne0,mF hlt0]
end
end Go.Vel.Gt
namespace Go.Vel.Gt
open Go Go.Conc
open Go.ConcN (sumTo upd upd_ne upd_same)
def Gathered(P:gP)(Sb:Nat->Prop)(cg cn:Nat)(Stop:gG->Hp->Prop)(w₀:gW)(m:Machine)(t:Trace):Prop :=
 ∃(N:Nat)(gs':Array gG)(w':gW)(sl':Option (Nat×Nat))(t':Trace)(q':Nat->Nat)(a':gG)(H':Hp),
  runNT P N m t=(.next (crowd gs' w' sl'),t')/\gs'[0]? =some a'/\a'.status=.running/\Stop a' H'/\z5 H' w'/\Leavers P t' gs' q'/\Past (fun l=>Sb (blk l)) w'.heap.size t'/\NoRel t'/\(∀ b x,H' b=some x->¬ Sb b)/\(∀ b,Sb b->b<w'.heap.size)/\Chans cg cn w'/\w'.tape=w₀.tape/\w'.os=w₀.os/\w'.output=w₀.output
section
variable {P:gP}{Sb:Nat->Prop}{cg cn:Nat}{msg:Nat->Nat×gV}{m0:Nat}{Stop:gG->Hp->Prop}
theorem Gathered.step{w₀:gW}{m m':Machine}{t u:Trace}(h:stepT P m=(.next m',u))(h':Gathered P Sb cg cn Stop w₀ m' (t++u)):Gathered P Sb cg cn Stop w₀ m t:=by
 obtain⟨N,gs',w',sl',t',q',a',H',hr,r⟩:=h';exact⟨N+1,gs',w',sl',t',q',a',H',by simp only[runNT,h];exact hr,r⟩
theorem Gathered.world{w₀ w₁:gW}{m:Machine}{t:Trace}(h:Gathered P Sb cg cn Stop w₁ m t)(h1:w₁.tape=w₀.tape)(h2:w₁.os=w₀.os)(h3:w₁.output=w₀.output):Gathered P Sb cg cn Stop w₀ m t:=by
 obtain⟨N,gs',w',sl',t',q',a',H',hr,r0,r1,r2,r3,r4,r5,rn,rs,rb,r6,r7,r8,r9⟩:=h;exact⟨N,gs',w',sl',t',q',a',H',hr,r0,r1,r2,r3,r4,r5,rn,rs,rb,r6,r7.trans h1,r8.trans h2,r9.trans h3⟩
variable {gs:Array gG}{w:gW}{t:Trace}{j:Nat}{R:Nat->Bool}{H:Hp}{f:Nat->WS}
theorem GInv.accs(h:GInv P Sb cg cn msg m0 gs w t j R H f)(i:Nat)(hi:0<i):Acc (WR P) (f i):=by
 by_cases Qp:i<gs.size
 ·have hws:=h.ws i _ hi (mD Qp);cases e:f i with
  | walk g K =>
   rw[e]at hws;exact zkP hws.2.2.2.1
  | park g K z n=>exact zb0 P _ _ _ _
  | left n=>exact wl P n
 ·rw[h.out i oQ];exact wl P 0
theorem GInv.awake(h:GInv P Sb cg cn msg m0 gs w t j R H f){a:gG}(h0:gs[0]? =some a)(ha:∀ s,a.status≠.sleeping s):∀ g∈gs,Go.Conc.awake g:=fun g hg=>by
 obtain⟨i,hi,rfl⟩:=Array.mem_iff_getElem.1 hg;rcases mP i with rfl|Qx
 ·have e:gs[0]=a:=by simpa[mD hi]using h0
  rw[e];exact ha
 ·have hws:=h.ws i _ Qx (mD hi);intro s hs;cases e:f i with
  | walk g K =>
   rw[e]at hws;obtain⟨e',_,hr,_⟩:=hws;rw[e',hr]at hs;cases hs
  | park g K z n =>
   rw[e]at hws;rw[hws.1]at hs;cases hs
  | left n =>
   rw[e]at hws;rcases QuitsD.status hws with e'|e' <;> rw[e']at hs <;> cases hs
theorem vF(C:Array gG->gW->Option (Nat×Nat)->Trace->(Nat->WS)->Prop)(hC:∀ gs w sl t f,C gs w sl t f->GInv P Sb cg cn msg m0 gs w t j R H f)
  (goal:Array gG->gW->Option (Nat×Nat)->Trace->Prop)
  (hstep:∀ gs w sl t f,C gs w sl t f->goal gs w sl t\/∃ gs' w' sl' u i y,0<i/\i<gs.size/\WR P y (f i)/\C gs' w' sl' (t++u) (upd f i y)/\(goal gs' w' sl' (t++u)->goal gs w sl t)) :
  ∀ gs w sl t f,C gs w sl t f->goal gs w sl t:=by
 intro gs w sl t f hc;have hsz:gs.size=m0+j:=(hC _ _ _ _ _ hc).size;have key:∀ f:Nat->WS,(∀ i,i<m0+j->Acc (WR P) ((fun k=>if k=0 then WS.left 0 else f k) i))->∀ gs w sl t,gs.size=m0+j->C gs w sl t f->goal gs w sl t:=by
  intro f hf;have:=zbg (WR P) (m0+j) (fun F=>∀ f:Nat->WS,(∀ k,0<k->F k=f k)->∀ gs w sl t,gs.size=m0+j->C gs w sl t f->goal gs w sl t) (fun F hF f hFf gs w sl t hs hc=>?_) (fun k=>if k=0 then WS.left 0 else f k) hf f (fun k hk=>if_neg oQ)
  ·exact this
  rcases hstep gs w sl t f hc with hg|⟨gs',w',sl',u,i,y,hi,Qp,hy,hc',hback⟩
  ·exact hg
  ·refine hback (hF i oQ y (by rw[hFf i hi];exact hy) (upd f i y) (fun k hk=>?_) gs' w' sl' (t++u) (hC _ _ _ _ _ hc').size hc');by_cases hki:k=i
   ·subst hki;rw[upd_same,upd_same]
   ·rw[upd_ne _ _ hki,upd_ne _ _ hki];exact hFf k hk
 refine key f (fun i _=>?_) gs w sl t hsz hc;by_cases hi:i=0
 ·subst hi;exact wl P 0
 ·simp only[if_neg hi];exact(hC _ _ _ _ _ hc).accs i oQ
theorem zcb(h:GInv P Sb cg cn msg m0 gs w t j R H f){a:gG}(h0:gs[0]? =some a)(ha:a.status=.running)(hR:∀ i,i<j->R i=tt)(hS:Stop a H)(sl:Option (Nat×Nat)):Gathered P Sb cg cn Stop w (crowd gs w sl) t:=by
 have hno:∀ i,¬ (0<i/\(f i).act):=by
  rintro i ⟨hi,hact⟩;by_cases Qp:i<gs.size
  ·rcases mR i m0 with hm|hm
   ·exact h.young i hi hm hact
   ·have hsz:=h.size;have:=h.old (i - m0) oQ;rw[show m0+(i - m0)=i by omega]at this;exact this.1 (hR _ oQ) hact
  ·rw[h.out i oQ]at hact;exact hact
 refine⟨0,gs,w,sl,t,fun i=>match f i with|.left n=>n|_=>0,a,H,rfl,h0,ha,hS,h.fits,⟨fun i g hi hg=>?_,h.above⟩,zf1 h.tr hno,h.tr.norel,h.tr.sb 0 (.inl rfl),h.tr.sbn,h.ch,rfl,rfl,rfl⟩;have hws:=h.ws i g hi hg;cases e:f i with
 | left n=>rw[e]at hws;exact hws
 | walk g K=>exact absurd ⟨hi,by rw[e];trivial⟩ (hno i)
 | park g K z n=>exact absurd ⟨hi,by rw[e];trivial⟩ (hno i)
theorem zgG(h:GInv P Sb cg cn msg m0 gs w t j R H f){x:gG}(hx:gs[0]? =some x){y:gG}{es:Array Event}(hes:∀ e∈es,EvH H e){fn:gF}{pos:String} :
  GInv P Sb cg cn msg m0 (gs.setIfInBounds 0 y) w (t++MemOp.ofEvents 0 fn pos es) j R H f:=by
 have Qp:0<gs.size:=(mG.1 hx).1;refine⟨h.pos,by simpa using h.size,h.fits,fun k z hk hz=>?_,fun k hk=>h.out k (by simpa using hk),fun k hk=>?_,ub h.tr (i:=0) (.inl rfl) h.fitsOf (by rw[vO];exact hes),h.ch,h.noch,h.old,h.young,h.new⟩
 ·rw[mE oQ]at hz;refine wj (h.ws k z hk hz) (Deaf_other t oQ _ ya) fun hka=>?_;have:=h.fitsOf k (.inr ⟨hk,hka⟩);rwa[yJ H f hk]at this
 ·rw[Deaf_other t (g':=0) (by simp at hk;omega) _ ya];exact h.above k (by simpa using hk)
theorem zis{a b:gG}{cs cs':Array CommCase}{sh sh':CommShape}(h:parked a cs sh=parked b cs' sh'):cs=cs'/\sh=sh'/\a.frame=b.frame/\a.callers=b.callers/\a.dying=b.dying:=by
 obtain⟨fr,cl,st,dy,of⟩:=a;obtain⟨fr',cl',st',dy',of'⟩:=b;simp only[parked,Goroutine.mk.injEq,Option.some.injEq,Prod.mk.injEq,true_and]at h;exact⟨h.2.2.2.1,h.2.2.2.2,h.1,h.2.1,h.2.2.1⟩
theorem zkr{a b:gG}(h1:a.frame=b.frame)(h2:a.callers=b.callers)(h3:a.dying=b.dying)(v:gV):Go.Conc.served a v=Go.Conc.served b v:=by
 obtain⟨fr,cl,st,dy,of⟩:=a;obtain⟨fr',cl',st',dy',of'⟩:=b;simp only at h1 h2 h3;subst h1 h2 h3;rfl
theorem senders(h:GInv P Sb cg cn msg m0 gs w t j R H f){ch k q:Nat}(hm:(k,q)∈partners (gs.setIfInBounds 0 ph) ch tt):q=0/\0<k/\∃ g K z n,f k=.park g K z n/\(msg (k - m0)).1=ch/\m0<=k/\QuitsD P n 0 (Go.Conc.served g undef)/\gs[k]? =some (parked g #[scase ch (msg (k - m0)).2 z] .send):=by
 obtain⟨x,hx,hq⟩:=mem_partners.1 hm;rcases getElem?_stand gs 0 k x hx with⟨_,rfl⟩|⟨hk,hx⟩
 ·simp[offersAt_ph]at hq
 have Qx:0<k:=by omega
 have hws:=h.ws k x Qx hx;cases e:f k with
 | walk g K =>
  rw[e]at hws;obtain⟨rfl,_,hr,_⟩:=hws;rw[offersAt_of_not_blocked (by rw[hr];simp)]at hq;cases hq
 | left n =>
  rw[e]at hws;rw[offersAt_of_not_blocked (by rcases QuitsD.status hws with e'|e' <;> rw[e'] <;> simp)]at hq;cases hq
 | park g K z n =>
  rw[e]at hws;obtain⟨rfl,hm0,hqd,_⟩:=hws;rw[offersAt_parked_send]at hq;split at hq
  ·rename_i hc;simp only[lS]at hq;subst hc;exact⟨hq,Qx,g,K,z,n,rfl,rfl,hm0,hqd,hx⟩
  ·cases hq
theorem GInv.worker(h:GInv P Sb cg cn msg m0 gs w t j R H f){i:Nat}(hm0:m0<=i)(Qp:i<gs.size)(hact:(f i).act):i - m0<j/\R (i - m0)=ff:=by
 have hsz:=h.size;have hj:i - m0<j:=by omega
 refine⟨hj,?_⟩;have:=h.old (i - m0) hj;rw[show m0+(i - m0)=i by omega]at this;cases e:R (i - m0)with
 | false=>rfl
 | true=>exact absurd hact (this.1 e)
theorem gather(hmsg:∀ i,(msg i).1=cg\/(msg i).1=cn)(hne:cg≠cn){g:gG}(hM:MainT P cg cn msg Stop j R g H) :
  ∀(gs:Array gG)(w:gW)(sl:Option (Nat×Nat))(t:Trace)(f:Nat->WS),GInv P Sb cg cn msg m0 gs w t j R H f->gs[0]? =some g->Gathered P Sb cg cn Stop w (crowd gs w sl) t:=by
 induction hM with
 | stop hs hR hS=>exact fun gs w sl t f h h0=>zcb h h0 hs hR hS sl
 | @step j R g H hs hgo hT ih =>
  intro gs w sl t f h h0;refine vF (C:=fun gs w sl t f=>GInv P Sb cg cn msg m0 gs w t j R H f/\gs[0]? =some g) (fun _ _ _ _ _ x=>x.1) (fun gs w sl t=>Gathered P Sb cg cn Stop w (crowd gs w sl) t) (fun gs w sl t f hc=>?_) gs w sl t f ⟨h,h0⟩;obtain⟨h,h0⟩:=hc;obtain⟨i,x,d,sl',hi,hx,hst⟩:=crowd_pick (P:=P) (w:=w) (sl:=sl) (h.awake h0 (by rw[hs];simp)) ⟨0,g,h0,hs⟩;rcases mP i with rfl|Qx
  ·left;obtain rfl:x=g:=by rw[h0]at hi;exact(Option.some.inj hi).symm
   have h':=vx h d;obtain⟨g',w',es,hgo',hsH,hrun⟩:=hgo (w.at d) h'.fits;have hG:=zjq hmsg h' (x':=g') h0 hsH;have Qp:0<gs.size:=(mG.1 h0).1;refine Gathered.step (hst.trans (runT_crowd_go (i:=0) h0 hgo')) ?_;exact(ih (w.at d) g' w' es h'.fits hgo' _ w' sl' _ f hG (by simp[Qp])).world hsH.tape hsH.os hsH.out
  ·right;obtain⟨gs',w',u,y,hr,hy,hG,h0',e1,e2,e3⟩:=uU (sl:=sl') hmsg (vx h d) h0 hs Qx hi hx;refine⟨gs',w',sl',u,i,y,Qx,(mG.1 hi).1,hy,⟨hG,h0'⟩,fun hg=>?_⟩;exact Gathered.step (hst.trans hr) (hg.world e1 e2 e3)
 | @spawn j R g H g' ch H₂ Hc hs hgo hrun' hrunc hR h2 h3 h4 hTW hT ih =>
  intro gs w sl t f h h0;refine vF (C:=fun gs w sl t f=>GInv P Sb cg cn msg m0 gs w t j R H f/\gs[0]? =some g) (fun _ _ _ _ _ x=>x.1) (fun gs w sl t=>Gathered P Sb cg cn Stop w (crowd gs w sl) t) (fun gs w sl t f hc=>?_) gs w sl t f ⟨h,h0⟩;obtain⟨h,h0⟩:=hc;obtain⟨i,x,d,sl',hi,hx,hst⟩:=crowd_pick (P:=P) (w:=w) (sl:=sl) (h.awake h0 (by rw[hs];simp)) ⟨0,g,h0,hs⟩;rcases mP i with rfl|Qx
  ·left;obtain rfl:x=g:=by rw[h0]at hi;exact(Option.some.inj hi).symm
   have h':=vx h d;obtain⟨es,hgo',hes⟩:=hgo (w.at d) h'.fits;have hG:=zh4 (g':=g') (fn:=x.frame.fn) (pos:=x.frame.place) (fn':=ch.frame.fn) (pos':=x.frame.place) h' h0 hes hrunc hR h2 h3 h4 hTW;have Qp:0<gs.size:=(mG.1 h0).1;refine Gathered.step (hst.trans (runT_crowd_spawn (i:=0) h0 hgo')) ?_;refine(ih _ (w.at d) sl' _ _ hG ?_).world Z Z rfl;rw[Array.getElem?_push];rw[if_neg (by simp;omega)];simp[Qp]
  ·right;obtain⟨gs',w',u,y,hr,hy,hG,h0',e1,e2,e3⟩:=uU (sl:=sl') hmsg (vx h d) h0 hs Qx hi hx;refine⟨gs',w',sl',u,i,y,Qx,(mG.1 hi).1,hy,⟨hG,h0'⟩,fun hg=>?_⟩;exact Gathered.step (hst.trans hr) (hg.world e1 e2 e3)
 | @recv j R g H g₂ z1 z2 hs hsome hgo hT ih =>
  have hpark:∀(gs:Array gG)(w:gW)(sl:Option (Nat×Nat))(t:Trace)(f:Nat->WS),(GInv P Sb cg cn msg m0 gs w t j R H f/\gs[0]? =some (atSel cg cn g₂ z1 z2)/\∀ i,0<i->∀ g K z n,f i≠.park g K z n)->Gathered P Sb cg cn Stop w (crowd gs w sl) t:=by
   refine vF (C:=fun gs w sl t f=>GInv P Sb cg cn msg m0 gs w t j R H f/\gs[0]? =some (atSel cg cn g₂ z1 z2)/\∀ i,0<i->∀ g K z n,f i≠.park g K z n) (fun _ _ _ _ _ x=>x.1) (fun gs w sl t=>Gathered P Sb cg cn Stop w (crowd gs w sl) t) (fun gs w sl t f hc=>?_);obtain⟨h,h0,hnp⟩:=hc;obtain⟨k,hk,hRk⟩:=hsome;have hka:(f (m0+k)).act:=by
    apply Classical.byContradiction;intro hx;rw[(h.old k hk).2 hx]at hRk;cases hRk
   have hklt:m0+k<gs.size:=by have:=h.size;omega
   have hkrun:gs[m0+k].status=.running:=by
    have hws:=h.ws (m0+k) _ (by have:=h.pos;omega) (mD hklt);cases e:f (m0+k)with
    | walk g K=>rw[e]at hws;rw[hws.1];exact hws.2.2.1
    | park g K z n=>exact absurd e (hnp _ (by have:=h.pos;omega) _ _ _ _)
    | left n=>rw[e]at hka;exact hka.elim
   obtain⟨i,x,d,sl',hi,hx,hst⟩:=crowd_pick (P:=P) (w:=w) (sl:=sl) (h.awake h0 (fun s hs=>by cases hs)) ⟨m0+k,_,mD hklt,hkrun⟩;rcases mP i with rfl|Qx
   ·rw[h0]at hi;cases hi;cases hx
   ·rcases zcY (sl:=sl') hmsg hne (vx h d) h0 hnp Qx hi hx with⟨gs',w',u,y,hr,hy,hyn,hG,h0',e1,e2,e3⟩|⟨gs',w',u,n,hr,hm0,hj,hR,hG,h0',e1,e2,e3⟩
    ·right;refine⟨gs',w',sl',u,i,y,Qx,(mG.1 hi).1,hy,⟨hG,h0',fun l hl0 g K z n=>?_⟩,fun hg=>Gathered.step (hst.trans hr) (hg.world e1 e2 e3)⟩;by_cases hl:l=i
     ·subst hl;rw[upd_same];exact hyn g K z n
     ·rw[upd_ne _ _ hl];exact hnp l hl0 g K z n
    ·left;exact Gathered.step (hst.trans hr) ((ih (i - m0) hj hR _ rfl gs' w' sl' _ _ hG h0').world e1 e2 e3)
  intro gs w sl t f h h0;refine vF (C:=fun gs w sl t f=>GInv P Sb cg cn msg m0 gs w t j R H f/\gs[0]? =some g) (fun _ _ _ _ _ x=>x.1) (fun gs w sl t=>Gathered P Sb cg cn Stop w (crowd gs w sl) t) (fun gs w sl t f hc=>?_) gs w sl t f ⟨h,h0⟩;obtain⟨h,h0⟩:=hc;obtain⟨i,x,d,sl',hi,hx,hst⟩:=crowd_pick (P:=P) (w:=w) (sl:=sl) (h.awake h0 (by rw[hs];simp)) ⟨0,g,h0,hs⟩;rcases mP i with rfl|Qx
  ·left;obtain rfl:x=g:=by rw[h0]at hi;exact(Option.some.inj hi).symm
   have h':=vx h d;have Qp:0<gs.size:=(mG.1 h0).1;obtain⟨es,hgo',hes⟩:=hgo (w.at d) h'.fits;obtain⟨k1,t1,k2,t2,Jx,hc2⟩:=h'.ch;by_cases hp:∃ k g' K z n,0<k/\f k=.park g' K z n
   ·obtain⟨k,g',K,z,n,hk0,hk⟩:=hp;have hkact:(f k).act:=by rw[hk];trivial
    have hklt:k<gs.size:=by
     apply Classical.byContradiction;intro hn;rw[h.out k oQ]at hk;cases hk
    have hkw:=h.ws k _ hk0 (mD hklt);rw[hk]at hkw;obtain⟨hkx,hkm,_,_⟩:=hkw;obtain⟨q,ch,zc,s,r,tm,jj,gj,vj,zj,shj,dd,hq,hch,hjj,hgj,hrun⟩:=zdD (P:=P) (sl:=sl') (i:=0) (w₁:=w.at d) h0 hgo' (fun q cc hcc=>by
     have hq2:q=0\/q=1:=by
      have:=(mG.1 hcc).1;simp[sel2]at this;omega
     rcases hq2 with rfl|rfl
     ·simp[sel2]at hcc;subst hcc;exact⟨_,_,_,_,_,rfl,Jx⟩
     ·simp[sel2]at hcc;subst hcc;exact⟨_,_,_,_,_,rfl,hc2⟩)
     (fun ch jj q hm=>by
      obtain⟨e,Qx,g',K',z',n',_,_,_,_,hx⟩:=senders h' hm;exact⟨e,oQ,_,_,_,_,hx⟩)
     (by
      obtain⟨zc,hzc⟩:=zcq hne (hmsg (k - m0)) z1 z2;refine⟨_,_,zc,hzc,fun e=>?_⟩;have:(k,0)∈partners (gs.setIfInBounds 0 ph) (msg (k - m0)).1 tt:=mem_partners.2 ⟨gs[k],by rw[mE oQ];exact mD hklt,by rw[hkx,offersAt_parked_send];simp⟩;rw[e]at this;cases this)
    have hm:(jj,0)∈partners (gs.setIfInBounds 0 ph) ch tt:=mem_partners.2 ⟨_,by rw[mE oQ];exact hgj,by rw[offersAt_parked_send];simp⟩;obtain⟨_,hjpos,g3,K3,z3,n3,hf3,hch3,hm03,hq3,hx3⟩:=senders h' hm;rw[hgj]at hx3;obtain⟨hcs,hsh,e1,e2,e3⟩:=zis (Option.some.inj hx3);have hvj:vj=(msg (jj - m0)).2:=by
     simp[scase]at hcs;exact hcs.1
    subst hsh;subst hvj;have hact:(f jj).act:=by rw[hf3];trivial
    have hw:=h'.worker hm03 (mG.1 hgj).1 hact;have hchc:ch=cg\/ch=cn:=by rw[<- hch3];exact hmsg _
    have hsr:s=r:=by
     rcases hchc with rfl|rfl
     ·rw[Jx]at hch;simp at hch;omega
     ·rw[hc2]at hch;simp at hch;omega
    subst hsr;have hqq:q=caseNo cg ch:=by
     have hq2:q=0\/q=1:=by
      have:=(mG.1 hq).1;simp[sel2]at this;omega
     rcases hq2 with rfl|rfl
     ·simp[sel2,rcase]at hq;simp[caseNo,hq.1]
     ·simp[sel2,rcase]at hq;simp[caseNo,<- hq.1,Ne.symm hne]
    have hG:=zd0 (s:=0) (d:=dd) (n:=n3) (gs':=(gs.setIfInBounds jj (gj.finishComm P #[scase ch (msg (jj - m0)).2 zj] .send 0 undef ff)).setIfInBounds 0 (g₂.finishComm P (sel2 cg cn z1 z2) .select q (msg (jj - m0)).2 tt)) h' hne hjpos hm03 hact (.inr rfl) (by rw[vO];exact hes) sQ (y:=Go.Conc.served gj undef)
     (by rw[mE oQ,mF (mG.1 hgj).1];rfl) (by rw[zkr e1 e2 e3];exact hq3)
     (fun k hk hki=>by rw[mE oQ,mE (Ne.symm hki)]) hchc hch (fn:=x.frame.fn) (pos:=x.frame.place)
     (x1:={ g:=jj,fn:=gj.frame.fn,pos:=gj.frame.place,act:=.send ch s }) (x2:={ g:=0,fn:=g₂.frame.fn,pos:=g₂.frame.place,act:=.recv ch s 0 }) (x3:={ g:=jj,fn:=gj.frame.fn,pos:=gj.frame.place,act:=.sendDone ch s }) (x4:={ g:=0,fn:=g₂.frame.fn,pos:=g₂.frame.place,act:=.recvDone ch s }) ⟨rfl,rfl⟩ rfl rfl ⟨rfl,rfl⟩
    refine Gathered.step (hst.trans hrun) ?_;exact(ih (jj - m0) hw.1 hw.2 q (by rw[hqq,<- hch3];rfl) _ _ sl' _ _ hG (by simp[Qp])).world rfl rfl rfl
   ·have hnp:∀ i,0<i->∀ g K z n,f i≠.park g K z n:=fun i hi g K z n e=>hp ⟨i,g,K,z,n,hi,e⟩;have hnil:∀ ch,partners (gs.setIfInBounds 0 ph) ch tt=[]:=fun ch=>by
     apply List.eq_nil_iff_forall_not_mem.2;rintro⟨k,q⟩ hm;obtain⟨_,Qx,g',K',z',n',e,_⟩:=senders h' hm;exact hnp _ Qx _ _ _ _ e
    have hno:∀ cc∈sel2 cg cn z1 z2,NoWays (w.at d) (gs.setIfInBounds 0 ph) cc:=fun cc hcc=>by
     simp only[sel2,List.mem_toArray,lI,List.not_mem_nil,or_false]at hcc;rcases hcc with rfl|rfl
     ·exact⟨made_recv _ Jx,by simp[ways,rcase,Jx,hnil]⟩
     ·exact⟨made_recv _ hc2,by simp[ways,rcase,hc2,hnil]⟩
    refine Gathered.step (hst.trans (crowd_waits (i:=0) h0 hgo' hno)) ?_;exact(hpark _ (w.at d) sl' _ f ⟨zgG h' h0 hes,by simp[Qp,atSel],hnp⟩).world rfl rfl rfl
  ·right;obtain⟨gs',w',u,y,hr,hy,hG,h0',e1,e2,e3⟩:=uU (sl:=sl') hmsg (vx h d) h0 hs Qx hi hx;refine⟨gs',w',sl',u,i,y,Qx,(mG.1 hi).1,hy,⟨hG,h0'⟩,fun hg=>?_⟩;exact Gathered.step (hst.trans hr) (hg.world e1 e2 e3)
end
end Go.Vel.Gt
namespace Go.Vel.Gt
open Go Go.Conc
section
variable {P:gP}{cg cn:Nat}{msg:Nat->Nat×gV}
theorem zhS{Ψ:gG->gW->Prop}(hmsg:∀ i,(msg i).1=cg\/(msg i).1=cn)(hne:cg≠cn){g:gG}{H H':Hp}{t1 t2:Bool}(hg:H cg=some (tt,.chan 0 #[] ff 0 0 t1))(hn:H cn=some (tt,.chan 0 #[] ff 0 0 t2))
  (Qv:∀ b rw o,H' b=some (rw,o)->∃ rw',H b=some (rw',o)) (hno:H' cg=none/\H' cn=none)
  (hM:MainT P cg cn msg (BT P Ψ) 0 (fun _=>ff) g H'):BT P Ψ g H:=by
 intro w D hf hD hB gs sl t q h0 hL hP hN;have hfits:z5 H' w:=fun b rw' o hb=>let ⟨_,h⟩:=Qv b rw' o hb;hf b _ o h;have hsz:0<gs.size:=(mG.1 h0).1;have hact:∀ i,¬ ((fun i:Nat=>if i<gs.size then WS.left (q i)else WS.left 0) i).act:=fun i=>by
  dsimp only;split <;> exact fun h=>h
 have hG:GInv P D cg cn msg gs.size gs w t 0 (fun _=>ff) H' (fun i=>if i<gs.size then .left (q i)else .left 0):=by
  refine⟨hsz,rfl,hfits,fun i x hi hx=>?_,fun i hi=>?_,hL.above,?_,⟨0,t1,0,t2,hf _ _ _ hg,hf _ _ _ hn⟩,fun i hi=>?_,fun i hi=>absurd hi (Nat.not_lt_zero _),fun i _ _=>hact i,fun _ _=>rfl⟩
  ·have Qp:i<gs.size:=(mG.1 hx).1;rw[if_pos Qp];exact hL.old i x hi hx
  ·rw[if_neg oQ]
  ·have hk:=zgp hP hN H' (fun b x hb=>let ⟨r,h⟩:=Qv b x.1 x.2 hb;hD b _ h) hB;exact hk.re (fun i=>⟨fun x=>absurd x.2 (hact i),fun x=>x.elim⟩) fun i hi=>by
    rcases hi with rfl|hi
    ·rfl
    ·exact hi.elim
  ·rcases hi with rfl|hi
   ·exact hno
   ·exact absurd hi (hact i)
 obtain⟨N,gs',w',sl',t',q',a',H2,hr,h0',_,hBT,hf',hL',hP',hN',hs',hb',_,htp,hos,hout⟩:=gather hmsg hne hM gs w sl t _ hG h0;obtain⟨M,gs2,a2,w2,sl2,t2',q2,D2,r2,g2,hψ,L2,P2,o2,u2⟩:=hBT w' D hf' hs' hb' gs' sl' t' q' h0' hL' hP' hN';exact⟨N+M,gs2,a2,w2,sl2,t2',q2,D2,by rw[vV N M _ _ _ _ hr];exact r2,g2,hψ,L2,P2,by rw[<- hos];exact o2,u2.trans hout⟩
end
end Go.Vel.Gt
namespace Go.Vel.Gt
open Go Go.Conc
section
variable {P:gP}
theorem zdc(P:gP)(S:gG->Hp->Prop):zo P ff (TreeW P S):=fun g H hr h=>by
 refine .step hr (fun w hw=>?_) fun w g' w' es hw he=>?_
 ·obtain⟨g',w',es,h1,h2,h3,_⟩:=h w hw;exact⟨g',w',es,h1,h2,h3⟩
 ·obtain⟨g'',w'',es',h1,_,_,h4⟩:=h w hw;rw[he]at h1;cases h1;exact h4
theorem ziA(P:gP)(cg cn:Nat)(msg:Nat->Nat×gV)(Stop:gG->Hp->Prop)(j:Nat)(R:Nat->Bool):zo P tt (MainT P cg cn msg Stop j R):=fun g H hr h=>by
 refine .step hr (fun w hw=>?_) fun w g' w' es hw he=>?_
 ·obtain⟨g',w',es,h1,h2,h3,_⟩:=h w hw;exact⟨g',w',es,h1,h2,h3⟩
 ·obtain⟨g'',w'',es',h1,_,_,h4⟩:=h w hw;rw[he]at h1;cases h1;exact h4
variable {gm:Nat->Option Nat}{m:Nat×gV}{Y:KX P gm (TreeW P (AtSend P m))}{Wq:List AV}{K:KV}{Qy:Array gB}{i:Nat}{o:gB}{k:List Item}
theorem TK.sendW{c x:gO}{u:AV}(ho:Qy[i]? =some o)(Qw:o.op=.send c x)(hw:zM Qy Wq o=some tt)(hc:zn gm Wq c=some (.v (.chan (some m.1))))(hx:zn gm Wq x=some u)(hu:toV u=some m.2)
  (hkd:Y.X.kd=.deferred) (hdd:Y.X.dd=[]) (hro:Y.X.ro=none) (hcs:Y.X.cs=[bot P]) (hq:∀ ts,QuitsD P 5 0 (G (fr .deferred Y.X.f none ts [] (.inRegion Qy []::k)) [bot P])):TK Y [] (.inRegion Qy [i]::k) Wq K:=fun A hA φ H ts h1 h2 h3 h4 h5 h6=>by
 refine .stop ⟨G (fr Y.X.kd Y.X.f Y.X.ro ts (dsC φ []++Y.X.dd) (.inRegion Qy [i]::k)) Y.X.cs,.tuple #[],5,rfl,?_,fun w hf=>⟨#[],?_,fun e he=>by simp at he⟩⟩
 ·have Qj:=yZ Y.X.kd Y.X.f Y.X.ro ts (dsC φ []++Y.X.dd) Qy i [] k undef;simp only[Go.Conc.served,G]at *
  rw[Qj,hkd,hro,hcs,hdd];exact hq _
 ·have e1:=zy (a:=⟨ts,[]⟩) h3 h6 c;rw[zq hc]at e1;have e2:=zy (a:=⟨ts,[]⟩) h3 h6 x;rw[zq hx]at e2;have e1':evT ts c=.chan (some m.1):=inv_v e1;have e2':evT ts x=m.2:=zao hu e2;rw[wN Y.X.hkd ho (zO h6 hw) (by rw[Qw];rfl)];have hex:execOp (evT ts) o=pure (.comm #[scase m.1 m.2 (.tuple #[])] tt .send):=by
   unfold execOp;rw[Qw];dsimp only;rw[e1',e2'];rfl
  rw[hex];simp[stepG.apply,Sem.runT,fr,GStep.after,seen,pure];rfl
end
end Go.Vel.Gt
namespace Go.Vel.Gt
open Go Go.Conc
open Go.ConcN (upd)
theorem zc2{α:Type}{P:gP}:∀(s:Sem α){a:α},zL P s=some a->∀(w:gW)(es:Array Event),s.runT P w es=(.ok a w,es):=by
 intro s
 induction s with
 | pure b=>intro a h w es;cases h;rfl
 | program k ih=>intro a h w es;exact ih P h w es
 | _=>intro a h;cases h
theorem pureS_pure'{α:Type}{P:gP}(a:α):zL P (pure a)=some a:=rfl
section
variable {P:gP}{gm:Nat->Option Nat}{T:gG->Hp->Prop}{cg cn:Nat}{msg:Nat->Nat×gV}{Stop:gG->Hp->Prop}{Y:KX P gm T}{ds:List Nat}{k:List Item}{Wq Wk:List AV}{K K':KV}{Qy:Array gB}{i:Nat}{Wp:List Nat}{o:gB}{φ0:Nat->Loc3}{n0 j:Nat}{R:Nat->Bool}
def phX(Y:KX P gm T)(cg cn:Nat)(msg:Nat->Nat×gV)(Stop:gG->Hp->Prop)(j:Nat)(R:Nat->Bool)(φ0:Nat->Loc3)(n0:Nat):KX P gm (MainT P cg cn msg Stop j R) :=
 ⟨{ main:=tt,hT:=ziA P cg cn msg Stop j R,φ0,n0,F:=Y.X.F,hF0:=Y.X.hF0,kd:=Y.X.kd,hkd:=Y.X.hkd,f:=Y.X.f,ro:=Y.X.ro,cs:=Y.X.cs,dd:=Y.X.dd,L:=fun _ _ _ _=>False,hL:=fun _ _ _ _ _ _ _ _ _ h=>h.elim },Y.A0,Y.K0⟩
theorem kn_ph{j':Nat}{R':Nat->Bool}{A:List AObj}(h:Kn (phX Y cg cn msg Stop j R φ0 n0) K A):Kn (phX Y cg cn msg Stop j' R' φ0 n0) K A:=⟨h.view,h.nd,h.own,h.kept,h.len⟩
theorem TK.recv{c1 c2:gO}{e1 e2:gT}{t1 t2:TypeInfo}{z1 z2:gV}(ho:Qy[i]? =some o)(Qw:o.op=.select #[{ chan:=c1,send:=none,elem:=e1 },{ chan:=c2,send:=none,elem:=e2 }] tt)(hw:zM Qy Wq o=some tt)(Jx:zn gm Wq c1=some (.v (.chan (some cg))))(hc2:zn gm Wq c2=some (.v (.chan (some cn))))
  (hi1:P.info? e1=some t1) (hz1:t1.zero=some z1) (hi2:P.info? e2=some t2) (hz2:t2.zero=some z2) (hex:∃ q,q<j/\R q=ff)
  (h:∀ q,q<j->R q=ff->TK (phX Y cg cn msg Stop j (upd R q tt) φ0 n0) ds (.inRegion Qy Wp::k) (zV Wq o.dst (.tup (if (msg q).1=cg then [.v (.int .i64 0),.v (.bool tt),.v (msg q).2,.v z2]else [.v (.int .i64 1),.v (.bool tt),.v z1,.v (msg q).2]))) K) :
  TK (phX Y cg cn msg Stop j R φ0 n0) ds (.inRegion Qy (i::Wp)::k) Wq K:=fun A hA φ H ts h1 h2 h3 h4 h5 h6=>by
 have q1:=zy (a:=⟨ts,[]⟩) h3 h6 c1;rw[zq Jx]at q1;have q2:=zy (a:=⟨ts,[]⟩) h3 h6 c2;rw[zq hc2]at q2;have q1':evT ts c1=.chan (some cg):=inv_v q1;have q2':evT ts c2=.chan (some cn):=inv_v q2;have hz:∀{t:gT}{ti:TypeInfo}{z:gV},P.info? t=some ti->ti.zero=some z->zL P (zeroValue t)=some z:=fun {t ti z} hi hz=>by
  unfold zeroValue typeInfo
  show zL P ((match P.info? t with|some i=>pure i|none=>stuck "no such type") >>= _)=_
  rw[hi];show zL P (match ti.zero with|some z=>_|none=>_)=_;rw[hz];rfl
 have hpure:zL P (execOp (evT ts) o)=some (.comm (sel2 cg cn z1 z2) tt .select):=by
  unfold execOp;rw[Qw];dsimp only;rw[Array.mapM_eq_mapM_toList];simp only[List.mapM_cons,List.mapM_nil];have b1:∀{α β:Type}{s:Sem α}{f:α->Sem β}{a:α}{b:β},zL P s=some a->zL P (f a)=some b->zL P (s >>= f)=some b:=fun h1 h2=>zJ h1 h2;rw[q1',q2'];refine b1 (a:=sel2 cg cn z1 z2) ?_ rfl;refine b1 (a:=[rcase cg z1,rcase cn z2]) ?_ rfl;refine b1 (a:=rcase cg z1) (b1 (hz hi1 hz1) Z) ?_;refine b1 (a:=[rcase cn z2]) ?_ rfl;exact b1 (a:=rcase cn z2) (b1 (hz hi2 hz2) rfl) rfl
 refine .recv (G (fr Y.X.kd Y.X.f Y.X.ro ts (dsC φ ds++Y.X.dd) (.inRegion Qy (i::Wp)::k)) Y.X.cs) z1 z2 Z hex (fun w hf=>⟨#[],?_,fun e he=>by simp at he⟩) fun q hq hR p hp=>?_
 ·show stepG P tt (G (fr Y.X.kd Y.X.f Y.X.ro ts (dsC φ ds++Y.X.dd) (.inRegion Qy (i::Wp)::k)) Y.X.cs) w=_;rw[wN Y.X.hkd ho (zO h6 hw) (by rw[Qw];rfl)];obtain⟨r1,r2⟩:=km (zc2 _ hpure w #[]);simp[stepG.apply,Sem.runT_eq,r1,r2,fr,GStep.after,seen];rfl
 ·have Qj:=yZ Y.X.kd Y.X.f Y.X.ro ts (dsC φ ds++Y.X.dd) Qy i Wp k (commResult (sel2 cg cn z1 z2) .select p (msg q).2 tt);simp only[ho,Option.bind_some]at Qj;show MainT P cg cn msg Stop j (upd R q tt) (G ((fr Y.X.kd Y.X.f Y.X.ro ts (dsC φ ds++Y.X.dd) (.inRegion Qy (i::Wp)::k)).finish (commResult (sel2 cg cn z1 z2) .select p (msg q).2 tt)) Y.X.cs) H;rw[Qj];refine h q hq hR A (kn_ph hA) φ H _ h1 h2 h3 h4 h5 (yF (a:=⟨ts,[]⟩) h6 ?_ o.dst);have htup:∀(a b c d:gV),RelV φ A.length (.tup [.v a,.v b,.v c,.v d]) (.tuple #[a,b,c,d]):=fun a b c d=>.tup rfl fun t x y hx hy=>by
   rcases t with _|_|_|_|t <;> simp at hx hy <;> subst hx hy <;> exact .v _
  have c0:∀ v,commResult (sel2 cg cn z1 z2) .select ((0:Nat):Int) v tt=.tuple #[.int .i64 0,.bool tt,v,z2]:=fun v=>by
   simp[commResult,sel2,rcase,goInt,Array.zipIdx]
  have c1:∀ v,commResult (sel2 cg cn z1 z2) .select ((1:Nat):Int) v tt=.tuple #[.int .i64 1,.bool tt,z1,v]:=fun v=>by
   simp[commResult,sel2,rcase,goInt,Array.zipIdx]
  by_cases e:(msg q).1=cg
  ·rw[if_pos e]at hp ⊢;subst hp;rw[c0];exact htup (.int .i64 0) (.bool tt) (msg q).2 z2
  ·rw[if_neg e]at hp ⊢;subst hp;rw[c1];exact htup (.int .i64 1) (.bool tt) z1 (msg q).2
theorem TK.stopM{Ψ:gG->gW->Prop}{Y:KX P gm (BT P Ψ)}(hR:∀ q,q<j->R q=tt)(hag:Agr Y.X.φ0 φ0 Y.X.n0)(hn:Y.X.n0<=n0)(h:TK Y ds k Wq K) :
  TK (phX Y cg cn msg (BT P Ψ) j R φ0 n0) ds k Wq K:=fun A hA φ H ts h1 h2 h3 h4 h5 h6 =>
 .stop rfl hR (h A ⟨hA.view,hA.nd,hA.own,hA.kept,hA.len⟩ φ H ts (hag.trans h1 hn) (mT hn h2) h3 h4 h5 h6)
theorem TK.spawn{fo:gO}{at_:Array gT}{g:gF}{cp:List AV}{S:KV}{j9:Nat}{l9:List AV}{e9:gT}(ho:Qy[i]? =some o)(Qw:o.op=.go { callee:=.value fo,args:=#[],argTypes:=at_ })(hw:zM Qy Wq o=some tt)(hf:zn gm Wq fo=some (.fn g [] cp))(hR:R j=ff)
  (hS:∀ x∈S,x∈K/\x.1<n0/\Y.X.F (φ0 x.1).blk=none/\∃ l e,l≠[]/\x.2=.cells l e ff) (hu:Rem K (j9,.cells l9 e9 tt) K') (hl9:l9≠[])
  (hchild:∀(φ:Nat->Loc3)(A:List AObj)(Hc:Hp)(vs:Array gV),zU ((j9,.cells l9 e9 ff)::S) A->RelG gm φ A.length->RelH φ A (fun _=>none) Hc->zN φ A.length cp vs->TreeW P (AtSend P (msg j)) (born P { target:=.fn (.func g) vs,args:=#[] }) Hc)
  (h:TK (phX Y cg cn msg Stop (j+1) R φ0 n0) ds (.inRegion Qy Wp::k) (zV Wq o.dst (.v undef)) K') :
  TK (phX Y cg cn msg Stop j R φ0 n0) ds (.inRegion Qy (i::Wp)::k) Wq K:=fun A hA φ H ts h1 h2 h3 h4 h5 h6=>by
 have hperm:=hu.perm;have hmem9:(j9,AObj.cells l9 e9 tt)∈K:=hperm.symm.subset sQ;have hj9:=hA.view.get hmem9;have hj9l:j9<A.length:=(lD.1 hj9).1;have hne9:∀ x∈S,x.1≠j9:=fun x hx e=>by
  obtain⟨hxK,_,_,l,e',_,hx2⟩:=hS x hx;have h9:=hA.view x hxK;rw[e,hj9,hx2]at h9;cases h9
 obtain⟨rw9,cur9,fz9,hb9,hfz9,hc9⟩:=h5.obj j9 _ hj9 hl9;have hfo:=zy (a:=⟨ts,[]⟩) h3 h6 fo;rw[zq hf]at hfo;obtain⟨xs,ys,ev,hr1,hr2⟩:=uu hfo;have hxs:xs=#[]:=by
  have:=hr1.1;exact Array.eq_empty_of_size_eq_zero this.symm
 subst hxs
 let Bs:List Nat:=(φ j9).blk::S.map fun x=>(φ x.1).blk
 have hφS:∀ x∈S,φ x.1=φ0 x.1:=fun x hx=>h1 x.1 (hS x hx).2.1;have hFB:∀ b,b∈Bs->Y.X.F b=none:=fun b hb=>by
  rcases lI.1 hb with rfl|hb
  ·exact h5.frx j9 _ hj9 rfl hl9
  ·obtain⟨x,hx,rfl⟩:=lY.1 hb;rw[hφS x hx];exact(hS x hx).2.2.1
 have hdrop:=h5.drop j9;have hcaller:RelH φ (A.set j9 .gone) Y.X.F (lend Bs [] H):=by
  refine hdrop.lend Bs [] (fun t q ht hl hs=>⟨by simp,fun hx hm=>?_⟩) fun b hb=>hFB b (hb.resolve_right sQ);by_cases htj:j9=t
  ·subst htj;rw[List.getElem?_set_self hj9l]at ht;cases ht;cases hl
  ·rw[lP htj]at ht;rcases lI.1 hm with hm|hm
   ·exact h5.apart t j9 q _ ht hj9 (fun e=>htj e.symm) hx rfl hs hl9 hm
   ·obtain⟨x,hx',hm⟩:=lY.1 hm;obtain⟨hxK,_,_,l,e',hl0,hx2⟩:=hS x hx';have hax:=hA.view x hxK;rw[hx2]at hax;by_cases htx:t=x.1
    ·subst htx;rw[ht]at hax;cases hax;cases hx
    ·exact h5.apart t x.1 q _ ht hax htx hx rfl hs hl0 hm.symm
 have hkn:Kn (phX Y cg cn msg Stop (j+1) R φ0 n0) K' (A.set j9 .gone):=by
  have hnd:=(zW hperm).nodup_iff.1 hA.nd;rw[wd,List.nodup_cons]at hnd;refine⟨fun x hx=>?_,hnd.2,fun t ht=>hA.own t ((zW hperm).symm.subset (lL _ ht)),fun t ht1 ht2=>?_,by rw[List.length_set];exact hA.len⟩
  ·have hne:j9≠x.1:=fun e=>hnd.1 (by show j9∈keys K';rw[e];exact yN hx);rw[lP hne];exact hA.view x (hperm.symm.subset (lL _ hx))
  ·have hne:j9≠t:=fun e=>by
    subst e;rcases hA.own j9 (mem_keys' hmem9)with h|h
    ·exact ht2 h
    ·exact absurd ht1 (Nat.not_lt.2 h)
   rw[lP hne];exact hA.kept t ht1 ht2
 let Ac:List AObj:=(List.range A.length).map fun t=>if t=j9 then .cells l9 e9 ff else if (S.map (·.1)).elem t then(A[t]?).getD .gone else .gone
 have hAcl:Ac.length=A.length:=by simp[Ac]
 have hAc:∀(t:Nat)(q:AObj),Ac[t]? =some q->q.live=tt->(t=j9/\q=.cells l9 e9 ff)\/∃ x∈S,x.1=t/\x.2=q:=fun t q ht hl=>by
  have Qp:t<A.length:=by rw[<- hAcl];exact(lD.1 ht).1
  simp only[Ac,lQ,List.getElem?_range Qp,Option.map_some,Option.some.injEq]at ht;split at ht
  ·rename_i e;exact .inl ⟨e,ht.symm⟩
  ·split at ht
   ·rename_i hm;simp only[List.elem_eq_mem,dT_]at hm;obtain⟨x,hx,e⟩:=lY.1 hm;have hax:=hA.view x (hS x hx).1;rw[e]at hax;rw[hax]at ht;exact .inr ⟨x,hx,e,ht⟩
   ·subst ht;cases hl
 let Hc:Hp:=fun b=>if Bs.elem b then(H b).map fun x=>(ff,x.2)else none
 have hHc:∀ b r o,b∈Bs->H b=some (r,o)->Hc b=some (ff,o):=fun b r o hb hx=>by
  simp only[Hc];rw[if_pos (by simpa using hb),hx];rfl
 have hRc:RelH φ Ac (fun _=>none) Hc:=by
  have hne:∀(t:Nat)(q:AObj),Ac[t]? =some q->q.excl=ff:=fun t q ht=>by
   cases hl:q.live with
   | false=>cases q <;> first|rfl|cases hl
   | true =>
    rcases hAc t q ht hl with⟨_,rfl⟩|⟨x,hx,_,hq⟩
    ·rfl
    ·obtain⟨_,_,_,l,e',_,hx2⟩:=hS x hx;rw[<- hq,hx2];rfl
  refine⟨fun t q ht=>?_,fun t t' q q' ht _ _ he=>absurd he (by rw[hne t q ht];decide),(fun b x hx=>by cases hx),fun t q ht he=>absurd he (by rw[hne t q ht];decide)⟩;rw[hAcl];cases hl:q.live with
  | false=>cases q <;> first|trivial|cases hl
  | true =>
   rcases hAc t q ht hl with⟨rfl,rfl⟩|⟨x,hx,rfl,rfl⟩
   ·intro _;exact⟨ff,cur9,fz9,hHc _ _ _ List.mem_cons_self hb9,(fun h=>by cases h),hc9⟩
   ·obtain⟨hxK,_,_,l,e',hl0,hx2⟩:=hS x hx;have hax:=hA.view x hxK;rw[hx2]at hax ⊢;intro _;obtain⟨r,cur,fz,p1,_,p3⟩:=h5.obj x.1 _ hax hl0;exact⟨ff,cur,fz,hHc _ _ _ (lL _ (List.mem_map_of_mem hx)) p1,(fun h=>by cases h),p3⟩
 have hVc:zU ((j9,.cells l9 e9 ff)::S) Ac:=fun x hx=>by
  rcases lI.1 hx with rfl|hx
  ·simp[Ac,hj9l]
  ·have hax:=hA.view x (hS x hx).1;have Qp:x.1<A.length:=(lD.1 hax).1;simp only[Ac,lQ,List.getElem?_range Qp,Option.map_some];rw[if_neg (hne9 x hx),if_pos (by simpa using ⟨x.2,hx⟩),hax];rfl
 have hch:=hchild φ Ac Hc ys hVc (by rw[hAcl];exact h3) hRc (by rw[hAcl];exact hr2);have Qj:=yZ Y.X.kd Y.X.f Y.X.ro ts (dsC φ ds++Y.X.dd) Qy i Wp k undef;simp only[ho,Option.bind_some]at Qj;refine .spawn (G (fr Y.X.kd Y.X.f Y.X.ro (putT ts o.dst undef) (dsC φ ds++Y.X.dd) (.inRegion Qy Wp::k)) Y.X.cs) (born P { target:=.fn (.func g) ys,args:=#[] }) (lend Bs [] H) Hc Z (fun w hf=>⟨#[],?_,fun e he=>by simp at he⟩) rfl rfl hR (fun b r q hb=>zce hb) (fun b r q hb=>?_) (fun b q hb=>?_) hch ?_
 ·show stepG P tt (G (fr Y.X.kd Y.X.f Y.X.ro ts (dsC φ ds++Y.X.dd) (.inRegion Qy (i::Wp)::k)) Y.X.cs) w=_;rw[wN Y.X.hkd ho (zO h6 hw) (by rw[Qw];rfl)];have hpure:zL P (execOp (evT ts) o)=some (.spawn { target:=.fn (.func g) ys,args:=#[] }):=by
   unfold execOp;rw[Qw];dsimp only;have ev':evT ts fo=.func (.func g) #[] ys:=ev;refine zJ (a:={ target:=.fn (.func g) ys,args:=#[] }) ?_ rfl;show zL P (Deferred.ofValue (evT ts fo) ((#[]:Array gO).map (evT ts)))=_;rw[ev'];simp[Deferred.ofValue,pureS_pure']
  obtain⟨r1,r2⟩:=km (zc2 _ hpure w #[]);simp only[fr]at Qj;simp[stepG.apply,Sem.runT_eq,r1,r2,fr,GStep.after,seen,Qj,born];rfl
 ·simp only[Hc]at hb;split at hb
  ·obtain⟨x,hx,e⟩:=mY.1 hb;cases e;exact⟨rfl,x.1,hx⟩
  ·cases hb
 ·simp only[Hc];split
  ·rename_i hm;exfalso;unfold lend at hb;rw[if_neg sQ,if_pos hm]at hb;obtain⟨x,_,e⟩:=mY.1 hb;cases e
  ·rfl
 ·have hA9l:(A.set j9 .gone).length=A.length:=by simp
  refine h (A.set j9 .gone) hkn φ _ _ h1 (by rw[hA9l];exact h2) (by rw[hA9l];exact h3) (by rw[hA9l];exact h4) hcaller ?_;rw[hA9l];exact yF (a:=⟨ts,[]⟩) h6 (.v undef) o.dst
end
end Go.Vel.Gt
namespace Go.Vel.Gt
open Go Go.Conc
def Turned(φ:Nat->Loc3)(A A':List AObj):Prop:=∀(t:Nat)(o:AObj),A'[t]? =some o->∃ o',A[t]? =some o'/\(o.excl=tt->o'.excl=tt)/\(o.live=tt->o'.live=tt)/\(sol (φ t) o->sol (φ t) o')
theorem Turned.refl(φ:Nat->Loc3)(A:List AObj):Turned φ A A:=fun _ o h=>⟨o,h,id,id,id⟩
theorem Turned.trans{φ:Nat->Loc3}{A B C:List AObj}(h:Turned φ A B)(k:Turned φ B C):Turned φ A C:=fun t o ht=>by
 obtain⟨o1,h1,a1,a2,a3⟩:=k t o ht;obtain⟨o2,h2,b1,b2,b3⟩:=h t o1 h1;exact⟨o2,h2,fun x=>b1 (a1 x),fun x=>b2 (a2 x),fun x=>b3 (a3 x)⟩
section
variable {P:gP}{gm:Nat->Option Nat}{T:gG->Hp->Prop}{Y:KX P gm T}{ds:List Nat}{k:List Item}{Wq Wk:List AV}{K K':KV}
theorem w9{φ:Nat->Loc3}{A A0:List AObj}{F H:Hp}{j:Nat}{o o':AObj}(hA:Kn Y K A)(hH:RelH φ A F H)(hT:Turned φ A0 A)(hl0:A.length=A0.length)(hu:Upd K j o j o' K')(ho:RelO φ A0.length (φ j) H o->RelO φ A0.length (φ j) H o')(hx:o'.excl=tt->o.excl=tt)(hl:o'.live=tt->o.live=tt)(hs:sol (φ j) o'->sol (φ j) o) :
  ∃ A',Kn Y K' A'/\RelH φ A' F H/\Turned φ A0 A'/\A'.length=A0.length:=by
 have hj:=hA.view.get hu.mem;refine⟨A.set j o',hA.step (.set hA.view hA.nd hu),hH.turn hj (by rw[hl0];exact ho) hx hl hs,hT.trans fun t q ht=>?_,by rw[List.length_set,hl0]⟩;by_cases e:j=t
 ·subst e;rw[List.getElem?_set_self (lD.1 hj).1]at ht;cases ht;exact⟨o,hj,hx,hl,hs⟩
 ·rw[lP e]at ht;exact⟨q,ht,id,id,id⟩
theorem TK.phase{Ψ:gG->gW->Prop}{Y:KX P gm (BT P Ψ)}{jc1 jc2 j7 j8 jx jb jl:Nat}{e7 e8 ex eb el:gT}{sl:Nat}{lx lb l:List AV}{Kr:KV}(msgf:Nat->Nat->Nat->Nat×gV)(hmsg:∀ cg cn i,(msgf cg cn i).1=cg\/(msgf cg cn i).1=cn)(hlx:lx≠[])(hlb:lb≠[])(hl:l≠[])
  (h:∀(φ0:Nat->Loc3)(n0 cg cn:Nat),cg≠cn->Agr Y.X.φ0 φ0 Y.X.n0->Y.X.n0<=n0->(∀ t∈[j7,j8,jx,jb,jl],t<n0/\Y.X.F (φ0 t).blk=none) ->
   TK (phX Y cg cn (msgf cg cn) (BT P Ψ) 0 (fun _=>ff) φ0 n0) ds k Wq ((jc1,.gone)::(jc2,.gone)::(j7,.cells [.v (.chan (some cg))] e7 ff)::(j8,.cells [.v (.chan (some cn))] e8 ff)::(jx,.cells (lx.map (unrow jl)) ex ff)::(jb,.cells lb eb ff)::(jl,.cells l el ff)::Kr)) :
  TK Y ds k Wq ((jc1,.raw (.chan 0 #[] ff 0 0 ff))::(jc2,.raw (.chan 0 #[] ff 0 0 ff))::(j7,.cells [.chan jc1] e7 tt)::(j8,.cells [.chan jc2] e8 tt)::(jx,.cells lx ex tt)::(jb,.cells lb eb tt)::(jl,.row l el sl)::Kr):=fun A hA φ H ts h1 h2 h3 h4 h5 h6=>by
 have g1:=hA.view.get (show(jc1,AObj.raw (.chan 0 #[] ff 0 0 ff))∈_ from .head _);have g2:=hA.view.get (show(jc2,AObj.raw (.chan 0 #[] ff 0 0 ff))∈_ from .tail _ (.head _));have g3:=hA.view.get (show(j7,AObj.cells [.chan jc1] e7 tt)∈_ from .tail _ (.tail _ (.head _)));have g4:=hA.view.get (show(j8,AObj.cells [.chan jc2] e8 tt)∈_ from .tail _ (.tail _ (.tail _ (.head _))));have g5:=hA.view.get (show(jx,AObj.cells lx ex tt)∈_ from .tail _ (.tail _ (.tail _ (.tail _ (.head _)))));have g6:=hA.view.get (show(jb,AObj.cells lb eb tt)∈_ from .tail _ (.tail _ (.tail _ (.tail _ (.tail _ (.head _))))));have g7:=hA.view.get (show(jl,AObj.row l el sl)∈_ from .tail _ (.tail _ (.tail _ (.tail _ (.tail _ (.tail _ (.head _)))))));have hnd:=hA.nd;have hsl:sol (φ jl) (.row l el sl):=by
  show 0<(φ jl).cap;rcases mP (φ jl).cap with e|e
  ·exact absurd ((h5.obj jl _ g7).1 e) hl
  ·exact e
 have hbase:(φ jl).base=0:=(h5.obj jl _ g7).2.1;have hfalse:∀{l':List AV}{e':gT}{jt:Nat},RelO φ A.length (φ jt) H (.cells l' e' tt)->RelO φ A.length (φ jt) H (.cells l' e' ff):=fun ho hl0=>by
  obtain⟨r,cur,fz,p1,_,p3⟩:=ho hl0;exact⟨r,cur,fz,p1,(fun h=>by cases h),p3⟩
 have hone:∀{jt jc:Nat}{e':gT},RelO φ A.length (φ jt) H (.cells [.chan jc] e' tt)->RelO φ A.length (φ jt) H (.cells [.v (.chan (some (φ jc).blk))] e' ff):=fun ho hl0=>by
  obtain⟨r,cur,fz,p1,_,p3⟩:=ho sQ;refine⟨r,cur,fz,p1,(fun h=>by cases h),fun t a ha=>?_⟩;cases t with
  | zero =>
   simp at ha;subst ha;obtain⟨y,hy,hr⟩:=p3 0 _ rfl;exact⟨y,hy,by rw[(zlu hr).2];exact .v _⟩
  | succ t=>simp at ha
 obtain⟨A1,k1,r1,t1,n1⟩:=w9 (o':=.gone) hA h5 (Turned.refl φ A) rfl .head (fun _=>trivial) (fun h=>by cases h) (fun h=>by cases h) (fun _=>trivial);obtain⟨A2,k2,r2,t2,n2⟩:=w9 (o':=.gone) k1 r1 t1 n1 (.tail .head) (fun _=>trivial) (fun h=>by cases h) (fun h=>by cases h) (fun _=>trivial);obtain⟨A3,k3,r3,t3,n3⟩:=w9 (o':=.cells [.v (.chan (some (φ jc1).blk))] e7 ff) k2 r2 t2 n2 (.tail (.tail .head)) hone (fun h=>by cases h) (fun _=>rfl) (fun _=>by simp[sol]);obtain⟨A4,k4,r4,t4,n4⟩:=w9 (o':=.cells [.v (.chan (some (φ jc2).blk))] e8 ff) k3 r3 t3 n3 (.tail (.tail (.tail .head))) hone (fun h=>by cases h) (fun _=>rfl) (fun _=>by simp[sol]);obtain⟨A5,k5,r5,t5,n5⟩:=w9 (o':=.cells (lx.map (unrow jl)) ex ff) k4 r4 t4 n4 (.tail (.tail (.tail (.tail .head)))) (fun ho hl0=>by
  obtain⟨r,cur,fz,p1,_,p3⟩:=ho hlx;refine⟨r,cur,fz,p1,(fun h=>by cases h),fun t a ha=>?_⟩;rw[lQ]at ha;cases e:lx[t]? with
  | none=>rw[e]at ha;cases ha
  | some a0 =>
   rw[e]at ha;cases ha;obtain⟨y,hy,hr⟩:=p3 t a0 e;exact⟨y,hy,wJ hbase hr⟩) (fun h=>by cases h) (fun _=>rfl) (fun _=>hlx)
 obtain⟨A6,k6,r6,t6,n6⟩:=w9 (o':=.cells lb eb ff) k5 r5 t5 n5 (.tail (.tail (.tail (.tail (.tail .head))))) hfalse (fun h=>by cases h) (fun _=>rfl) (fun h=>h);obtain⟨A7,k7,r7,t7,n7⟩:=w9 (o':=.cells l el ff) k6 r6 t6 n6 (.tail (.tail (.tail (.tail (.tail (.tail .head)))))) (fun ho hl0=>by
  obtain⟨cur,q1,q2,q3,q4,q5⟩:=ho.2.2 hsl;exact⟨tt,cur,(_,0,0),q1,(fun h=>by cases h),fun t u hu=>by rw[hbase,Nat.zero_add];exact q5 t u hu⟩) (fun h=>by cases h) (fun _=>rfl) (fun _=>hsl)
 have v7:=k7.view;have w1:=v7.get (show(jc1,AObj.gone)∈_ from .head _);have w2:=v7.get (show(jc2,AObj.gone)∈_ from .tail _ (.head _));have w3:=v7.get (show(j7,AObj.cells [.v (.chan (some (φ jc1).blk))] e7 ff)∈_ from .tail _ (.tail _ (.head _)));have w4:=v7.get (show(j8,AObj.cells [.v (.chan (some (φ jc2).blk))] e8 ff)∈_ from .tail _ (.tail _ (.tail _ (.head _))));have w5:=v7.get (show(jx,AObj.cells (lx.map (unrow jl)) ex ff)∈_ from .tail _ (.tail _ (.tail _ (.tail _ (.head _)))));have w6:=v7.get (show(jb,AObj.cells lb eb ff)∈_ from .tail _ (.tail _ (.tail _ (.tail _ (.tail _ (.head _))))));have w7:=v7.get (show(jl,AObj.cells l el ff)∈_ from .tail _ (.tail _ (.tail _ (.tail _ (.tail _ (.tail _ (.head _)))))))
 let Bs:List Nat:=[(φ j7).blk,(φ j8).blk,(φ jx).blk,(φ jb).blk,(φ jl).blk]
 have f1:=h5.frx jc1 _ g1 rfl trivial;have f2:=h5.frx jc2 _ g2 rfl trivial;have f3:=h5.frx j7 _ g3 rfl (by simp[sol]);have f4:=h5.frx j8 _ g4 rfl (by simp[sol]);have f5:=h5.frx jx _ g5 rfl hlx;have f6:=h5.frx jb _ g6 rfl hlb;have f7:=h5.frx jl _ g7 rfl hsl;have hF:∀ b,b∈Bs\/b∈[(φ jc1).blk,(φ jc2).blk]->Y.X.F b=none:=fun b hb=>by
  simp only[Bs,lI,List.not_mem_nil,or_false]at hb;rcases hb with(rfl|rfl|rfl|rfl|rfl)|(rfl|rfl) <;> assumption
 have hne12:(φ jc1).blk≠(φ jc2).blk:=by
  refine h5.apart jc1 jc2 _ _ g1 g2 (fun e=>?_) rfl rfl trivial trivial;subst e;simp[keys]at hnd
 have hrel:=r7.lend Bs [(φ jc1).blk,(φ jc2).blk] (fun t o ht hlv hs=>by
  obtain⟨o',ho',x1,x2,x3⟩:=t7 t o ht;have y2:=x2 hlv;have y3:=x3 hs;have d1:jc1≠t:=fun e=>by subst e;rw[w1]at ht;cases ht;cases hlv
  have d2:jc2≠t:=fun e=>by subst e;rw[w2]at ht;cases ht;cases hlv
  refine⟨?_,fun hx=>?_⟩
  ·simp only[lI,List.not_mem_nil,or_false,not_or];exact⟨fun e=>h5.apart jc1 t _ o' g1 ho' d1 rfl y2 trivial y3 e.symm,fun e=>h5.apart jc2 t _ o' g2 ho' d2 rfl y2 trivial y3 e.symm⟩
  ·have y1:=x1 hx;simp only[Bs,lI,List.not_mem_nil,or_false,not_or];have dd:∀{jt:Nat}{lt:List AV}{et:gT},A7[jt]? =some (.cells lt et ff)->t≠jt:=fun hw e=>by subst e;rw[hw]at ht;cases ht;cases hx
   exact⟨h5.apart t j7 o' _ ho' g3 (dd w3) y1 rfl y3 (by simp[sol]),h5.apart t j8 o' _ ho' g4 (dd w4) y1 rfl y3 (by simp[sol]),h5.apart t jx o' _ ho' g5 (dd w5) y1 rfl y3 hlx,h5.apart t jb o' _ ho' g6 (dd w6) y1 rfl y3 hlb,h5.apart t jl o' _ ho' g7 (dd w7) y1 rfl y3 hsl⟩) hF
 have lt:=fun {t:Nat} {q:AObj} (hq:A[t]? =some q)=>(lD.1 hq).1;refine zhS (cg:=(φ jc1).blk) (cn:=(φ jc2).blk) (msg:=msgf _ _) (H':=lend Bs [(φ jc1).blk,(φ jc2).blk] H) (hmsg _ _) hne12 (h5.obj jc1 _ g1) (h5.obj jc2 _ g2) (fun b rw' o hb=>let ⟨r,hr,_⟩:=zce hb;⟨r,hr⟩) ⟨by simp[lend],by simp[lend]⟩ ?_;refine h φ A.length _ _ hne12 h1 h2 (fun t ht=>?_) A7 ⟨k7.view,k7.nd,k7.own,k7.kept,k7.len⟩ φ _ ts (Agr.refl _ _) (by show A.length<=A7.length;omega) (by rw[n7];exact h3) (by rw[n7];exact h4) hrel (by rw[n7];exact h6);simp only[lI,List.not_mem_nil,or_false]at ht;rcases ht with rfl|rfl|rfl|rfl|rfl
 ·exact⟨lt g3,f3⟩
 ·exact⟨lt g4,f4⟩
 ·exact⟨lt g5,f5⟩
 ·exact⟨lt g6,f6⟩
 ·exact⟨lt g7,f7⟩
end
end Go.Vel.Gt
namespace Go.Vel
open Go Go.Conc Go.Vel.Gt Go.Proofs
def rowO(Ls:List (List Int)):AObj:=.row (Ls.flatMap yb) 114 4
theorem zlC(Ls:List (List Int))(i:Nat)(h:i<Ls.length):z6 (rowO Ls) ((i:Int).toNat*4) 4=some (yb Ls[i]):=by
 have hle:(i+1)*4<=Ls.length*4:=Nat.mul_le_mul_right _ h;simp only[z6,AObj.look,rowO,mZ];rw[if_pos ⟨by omega,by rw[yW yb 4 (fun _=>rfl)];omega⟩,kS yb 4 (fun _=>rfl) _ _ h]
def arcK(b:Bk)(low:Nat):Option Nat:=(List.range b.sP.toNat).find? fun k=>decide ((withinM b (zd b) low ((k:Int)+1)).1>0)
def arcA(b:Bk)(low:Nat):Option (Int×Int):=(arcK b low).map fun k=>((low:Int),(k:Int)+1)
def msgN(b:Bk)(cg cn low:Nat):Nat×gV:=match arcK b low with
 | some k=>(cg,.agg #[.int .i64 low,.int .i64 ((k:Int)+1)])
 | none=>(cn,.bool tt)
def arcsOf(b:Bk)(rec:List Nat):List (Int×Int):=rec.filterMap (arcA b)
def arcC(x:Int×Int):List AV:=[za x.1,za x.2]
def narrowM(b:Bk):Int×Int:=ye ltArc ((arcsOf b (List.range b.sP.toNat)).headD (0,0)) ((arcsOf b (List.range b.sP.toNat)).drop 1)
theorem uI(a c:Int×Int):ltArc a c=tt↔a.2<c.2\/(a.2=c.2/\a.1<c.1):=by
 unfold ltArc;simp
theorem zay{o:Int×Int}{xs:List (Int×Int)}:∀ y∈o::xs,ltArc y (ye ltArc o xs)=ff:=by
 induction xs generalizing o with
 | nil =>
  intro y hy;simp only[lS]at hy;subst hy;unfold ye ltArc;simp
 | cons x xs ih =>
  intro y hy;show ltArc y (ye ltArc (if ltArc x o=tt then x else o) xs)=ff;have h0:=ih (o:=if ltArc x o=tt then x else o);generalize ye ltArc (if ltArc x o=tt then x else o) xs=m at h0;rcases lI.1 hy with rfl|hy
  ·by_cases hc:ltArc x y=tt
   ·rw[if_pos hc]at h0;have h1:=h0 x List.mem_cons_self;rw[Bool.eq_false_iff]at h1 ⊢;intro h2;apply h1;rw[uI]at hc h2 ⊢;omega
   ·rw[if_neg hc]at h0;exact h0 y List.mem_cons_self
  ·rcases lI.1 hy with rfl|hy
   ·by_cases hc:ltArc y o=tt
    ·rw[if_pos hc]at h0;exact h0 y List.mem_cons_self
    ·rw[if_neg hc]at h0;have h1:=h0 o List.mem_cons_self;rw[Bool.eq_false_iff]at h1 ⊢;intro h2;apply h1;rw[uI]at hc h2 ⊢;omega
   ·exact h0 y (lL _ hy)
theorem zgD{o o':Int×Int}{xs xs':List (Int×Int)}(h:∀ y,y∈o::xs↔y∈o'::xs'):ye ltArc o xs=ye ltArc o' xs':=by
 have h1:=zay (o:=o) (xs:=xs) _ ((h _).2 (wo (lt:=ltArc) (o:=o') (xs:=xs')));have h2:=zay (o:=o') (xs:=xs') _ ((h _).1 (wo (lt:=ltArc) (o:=o) (xs:=xs)));rw[Bool.eq_false_iff,ne_eq,uI]at h1 h2;exact Prod.ext oQ oQ
theorem uL:∀{l1 l2:List Nat},l1.Nodup->(∀ x∈l1,x∈l2)->l1.length<=l2.length
 | [],_,_,_=>mN _
 | x::l1,l2,hn,hs=>by
  obtain⟨h1,h2⟩:=List.nodup_cons.1 hn;have hx:x∈l2:=hs x sQ;have:=uL (l1:=l1) (l2:=l2.erase x) h2 fun y hy=>by
   have hne:y≠x:=fun e=>h1 (e ▸ hy);exact(List.mem_erase_of_ne hne).2 (hs y (by simp[hy]))
  rw[List.length_erase_of_mem hx]at this;have:0<l2.length:=List.length_pos_of_mem hx;simp;omega
theorem zmc{N:Nat}{rec:List Nat}(hn:rec.Nodup)(Qp:rec.length<N):∃ q,q<N/\q∉rec:=by
 refine Classical.byContradiction fun h=>?_;have hall:∀ q∈List.range N,q∈rec:=fun q hq=>Classical.byContradiction fun hm=>h ⟨q,List.mem_range.1 hq,hm⟩;have:=uL (List.nodup_range (n:=N)) hall;rw[List.length_range]at this;omega
theorem znT{N:Nat}{rec:List Nat}(hn:rec.Nodup)(hs:∀ q∈rec,q<N)(hl:rec.length=N):∀ q,q<N->q∈rec:=fun q hq=>Classical.byContradiction fun hm=>by
 have:=uL (l1:=q::rec) (l2:=List.range N) (List.nodup_cons.2 ⟨hm,hn⟩) fun x hx=>by
  rcases lI.1 hx with rfl|hx
  ·exact List.mem_range.2 hq
  ·exact List.mem_range.2 (hs x hx)
 rw[List.length_range]at this;simp at this;omega
theorem zgx{b:Bk}{rec:List Nat}{N:Nat}(h:∀ q,q∈rec↔q<N)(y:Int×Int):y∈arcsOf b rec↔y∈arcsOf b (List.range N):=by
 unfold arcsOf;simp only[List.mem_filterMap,List.mem_range,h]
theorem zhP(b:Bk)(rec:List Nat):(arcsOf b rec).length<=rec.length:=List.length_filterMap_le _ _
theorem zeT{b:Bk}{rec:List Nat}{q:Nat}{x:Int×Int}(h:arcA b q=some x):arcsOf b (rec++[q])=arcsOf b rec++[x]:=by
 unfold arcsOf;rw[List.filterMap_append];simp[h]
theorem zeS{b:Bk}{rec:List Nat}{q:Nat}(h:arcA b q=none):arcsOf b (rec++[q])=arcsOf b rec:=by
 unfold arcsOf;rw[List.filterMap_append];simp[h]
theorem zb2{xs:List (Int×Int)}{k:Nat}(h:k<xs.length){e:gT}{sz:Nat}:z6 (.row (xs.flatMap arcC) e sz) (k*2) 2=some [za xs[k].1,za xs[k].2]:=by
 have hle:(k+1)*2<=xs.length*2:=Nat.mul_le_mul_right _ h;have hl:=yW arcC 2 (fun _=>rfl) xs;simp only[z6,AObj.look];rw[if_pos ⟨by omega,oQ⟩,kS arcC 2 (fun _=>rfl) _ _ h];rfl
section
variable {P:gP}{gm:Nat->Option Nat}{T:gG->Hp->Prop}{cg cn:Nat}{msg:Nat->Nat×gV}{Stop:gG->Hp->Prop}{Y:KX P gm T}{ds:List Nat}{k:List Item}{Wq:List AV}{K:KV}{φ0:Nat->Loc3}{n0:Nat}
theorem TK.loopJ{R:Nat->Bool}{c:Code}(I:Nat->List AV->KV->Prop)(N:Nat)(h0:I 0 Wq K)(round:∀ j Wq K,j<=N->I j Wq K->(∀ Wk K',j<N->I (j+1) Wk K'->TK (phX Y cg cn msg Stop (j+1) R φ0 n0) ds (.inLoop c::k) Wk K')->TK (phX Y cg cn msg Stop j R φ0 n0) ds (.code c::.inLoop c::k) Wq K) :
  TK (phX Y cg cn msg Stop 0 R φ0 n0) ds (.code (.loop c)::k) Wq K:=by
 have key:∀ q j Wq K,N - j=q->j<=N->I j Wq K->TK (phX Y cg cn msg Stop j R φ0 n0) ds (.code c::.inLoop c::k) Wq K:=by
  intro q
  induction q with
  | zero=>exact fun j Wq K hq hj hI=>round j Wq K hj hI fun Wk K' Qp=>absurd Qp oQ
  | succ q ih=>exact fun j Wq K hq hj hI=>round j Wq K hj hI fun Wk K' Qp hI'=>TK.inLoop (ih (j+1) Wk K' oQ oQ hI')
 exact TK.loop (key N 0 Wq K rfl (mN _) h0)
theorem TK.loopRz{j:Nat}{R:Nat->Bool}{c:Code}(I:Nat->(Nat->Bool)->List AV->KV->Prop)(n:Nat)(h0:I n R Wq K)(round:∀ n R Wq K,I n R Wq K->(∀ n' R' Wk K',n'<n->I n' R' Wk K'->TK (phX Y cg cn msg Stop j R' φ0 n0) ds (.inLoop c::k) Wk K')->TK (phX Y cg cn msg Stop j R φ0 n0) ds (.code c::.inLoop c::k) Wq K) :
  TK (phX Y cg cn msg Stop j R φ0 n0) ds (.code (.loop c)::k) Wq K:=by
 have key:∀ n R Wq K,I n R Wq K->TK (phX Y cg cn msg Stop j R φ0 n0) ds (.code c::.inLoop c::k) Wq K:=by
  intro n
  induction n using Nat.strongRecOn with
  | _ n ih=>exact fun R Wq K hI=>round n R Wq K hI fun n' R' Wk K' Qp hI'=>TK.inLoop (ih n' Qp R' Wk K' hI')
 exact TK.loop (key n R Wq K h0)
theorem zjm{f:gF}{fn:Func}{c:Code}(args:Array gV)(hf:P.funcs[f]? =some fn)(hb:fn.body=some c):Frame.enter P f args .deferred=fr .deferred f none (args++Array.replicate (fn.ntmps - args.size) undef) [] [.code c]:=by
 simp[Frame.enter,hf,hb,fr]
theorem zoa{m:Nat×gV}{g:gF}{fn:Func}{c:Code}{cp:List AV}{K:KV}{φ:Nat->Loc3}{A:List AObj}{Hc:Hp}{vs:Array gV}(hg:yk P g=tt)(hf:P.funcs[g]? =some fn)(hb:fn.body=some c)(hv:zU K A)(hn:(keys K).Nodup)(h3:RelG gm φ A.length)(h5:RelH φ A (fun _=>none) Hc)(h6:zN φ A.length cp vs)
  (h:∀ Y:KX P gm (TreeW P (AtSend P m)),Y.X.kd=.deferred->Y.X.dd=[]->Y.X.ro=none->Y.X.cs=[bot P]->Y.X.f=g->TK Y [] [.code c] (cp++mB (fn.ntmps - cp.length) .any) K):TreeW P (AtSend P m) (born P { target:=.fn (.func g) vs,args:=#[] }) Hc:=by
 have hT:=zdc P (AtSend P m);refine hT.ctl Z (fun w=>birth hg #[] vs w) rfl ?_;rw[Array.empty_append,zjm vs hf hb]
 let X:Cx P gm (TreeW P (AtSend P m)):={ main:=ff,hT,φ0:=φ,n0:=A.length,F:=fun _=>none,hF0:=rfl,kd:=.deferred,hkd:=(fun h=>by cases h),f:=g,ro:=none,cs:=[bot P],L:=fun _ _ _ _=>False,hL:=fun _ _ _ _ _ _ _ _ _ h=>h.elim }
 exact h ⟨X,A,keys K⟩ rfl rfl rfl rfl rfl A ⟨hv,hn,fun i hi=>.inl hi,fun _ _ _=>rfl,mL _⟩ φ Hc _ (Agr.refl _ _) (mL _) h3 (fun d hd=>by cases hd) h5 (ke h6 _)
end
theorem zmL{main:Bool}{T:gG->Hp->Prop}(hT:zo tp main T){b:Bk}{s e:Nat}{yv:AV}{t:Bool}{Kt:KV}(hse:s≠e)(hn:∀ x∈b.kE,x.name.size<=1000)(hl:b.seen.length<=1000)(hy1:oneA yv=tt)(hth:BkOk b->CallFK tp T gmR yv [.agg (zA b s e)] Kt (fun r K'=>r=zr t/\K'=Kt)) :
  zl tp T gmR 60 [.agg (zA b s e),yv] ((0,zx)::(1,zC)::(s,zu b)::(e,zw b)::Kt) (fun r K'=>(askM b t≠0/\r=.tup [.agg zeroKn,za (askM b t)]/\K'=(0,zx)::(1,zC)::(s,zu b)::(e,zw b)::Kt)\/(∃ jl m om,askM b t=0/\MapOk om (oftM (zd b))/\r=.tup [.agg (yq b s e (.row jl (zd b).length) m),za 0]/\K'=(jl,rowO (zd b))::(m,.raw om)::(0,zx)::(1,zC)::(s,zu b)::(e,zw b)::Kt)):=by
 refine zh 59 hT Tryz.func60 fun Y Wz=>?_;refine au 21042 ?_;intro jb hjb;refine au 220 ?_;intro jk hjk;refine au 68042235 ?_;refine TK.clE Z Z Z Z (kR hT (b:=b) (s:=s) (e:=e) hn hl) ?_;refine au 93714235 ?_;apply aI<;>intro Jz
 ·refine au 35170145042 ?_;refine bB Wz (((0,zx)::(1,zC)::(s,zu b)::(e,zw b)::Kt)) ?_;have ha:askM b t=zF b:=if_pos (by simpa using Jz);exact .inl ⟨by rw[ha];simpa using Jz,by rw[ha] <;> rfl,rfl⟩
 have Jx:zF b=0:=by simpa using Jz
 have hb:=yH Jx;refine au 43068042120 ?_;refine TK.newM Z Z Z (zed Z) (fun _=>zD rfl tQ) fun jm hjm=>?_;refine au 220450 ?_;intro jx hjx;refine au 68067014223170 ?_;refine TK.callF' Z Z Z Z Z (hth hb) (.right (.right (.right (.right (.right (.right (.right (.right (.all _))))))))) fun r4 K5 h6=>?_;obtain⟨rfl,hK⟩:=h6;refine au 0 ?_;rw[hK];refine TK.perm (K':=(jx,_)::(jm,_)::(0,_)::(s,_)::(e,_)::(jk,_)::(jb,_)::(1,_)::Kt) (lH (l₁:=Kt)) ?_;refine au 93300 ?_;apply aI<;>intro hc2
 ·have ht:t=ff:=by simpa using hc2
  refine au 3517045042 ?_;refine bB Wz (((0,zx)::(1,zC)::(s,zu b)::(e,zw b)::Kt)) ?_;have ha:askM b t=6:=by unfold askM;rw[if_neg (by simpa using Jx),ht,if_pos rfl]
  exact .inl ⟨by rw[ha];decide,by rw[ha] <;> rfl,rfl⟩
 have ht:t=tt:=by simpa using hc2
 refine au 680670422120 ?_;refine bD Z Z Z Z (zaR hT hse hb) ?_;rintro r7 K8 ⟨jl,rfl,rfl⟩;refine au 937280690670423170670 ?_;apply aI<;>intro hc3
 ·have hst:zd b=[]:=lK (by have h:((zd b).length:Int)=0:=(by simpa using hc3);omega);refine au 3517045042 ?_;refine bB Wz (((0,zx)::(1,zC)::(s,zu b)::(e,zw b)::Kt)) ?_;have ha:askM b t=9:=by unfold askM;rw[if_neg (by simpa using Jx),ht,if_neg dQ,if_pos hst]
  exact .inl ⟨by rw[ha];decide,by rw[ha] <;> rfl,rfl⟩
 have hst:zd b≠[]:=fun h=>by rw[h]at hc3;exact absurd hc3 dQ
 have hLo:=yU hb;have hLn:=yP hb;refine au 13031280690670422120 ?_;refine bA [4,7,38,39,40] ?_;refine bC (((jx,_)::(jm,_)::(jl,_)::(jk,_)::(0,_)::(1,_)::(s,_)::(e,_)::Kt)) ?_;refine bE (fun n Wq K=>∃(i:Nat)(om:Obj),n=(zd b).length - i/\i<=(zd b).length/\MapOk om (fun q=>(((zd b).take i).flatten.count q:Nat))/\Wq=ym 59 [(4,.ptr jk 0),(7,.ptr jx 0),(38,.row jl (zd b).length),(39,za (zd b).length),(40,za i)]/\K=(jx,.cells (yq b s e (.row jl (zd b).length) jm) 125 tt)::(jm,.raw om)::(jl,rowO (zd b))::(jk,.cells zeroKn 125 tt)::(0,zx)::(1,zC)::(s,zu b)::(e,zw b)::Kt) (zd b).length ⟨0,_,rfl,mN _,zec,rfl,rfl⟩ fun n Wq K hI' Wj=>?_;obtain⟨i,om,rfl,hi,hom,rfl,rfl⟩:=hI';refine au 923742 ?_;refine⟨fun hc=>?_,fun hc=>?_⟩
 ·simp only[dT_]at hc;have Qb:i<(zd b).length:=by omega
  have hSm:=hLo _ (List.getElem_mem Qb);refine au 370421302120 ?_;refine TK.a Z (zK Z Z ze.h mQ (zlC (zd b) i Qb)) ?_;refine au 220 ?_;intro j9 hj9;refine au 680423170 ?_;refine bD Z Z Z Z (zbD hT hSm.len fun x hx=>⟨(hSm.mem x hx).1,by have:=(hSm.mem x hx).2;have:=hb.sP;omega⟩) ?_;rintro r10 K11 ⟨jr,rfl,rfl⟩;refine au 13031280 ?_;refine bA [4,7,38,39,40,45,46,47] ?_;refine bC (((jr,_)::(jx,_)::(jm,_)::(jl,_)::(jk,_)::(0,_)::(1,_)::(s,_)::(e,_)::Kt)) ?_;refine bE (fun n Wq K=>∃(q:Nat)(om2:Obj),n=(zd b)[i].length - q/\q<=(zd b)[i].length/\MapOk om2 (fun z=>(((((zd b).take i).flatten++(zd b)[i].take q).count z:Nat):Int))/\Wq=ym 59 [(4,.ptr jk 0),(7,.ptr jx 0),(38,.row jl (zd b).length),(39,za (zd b).length),(40,za i),(45,.row jr (zd b)[i].length),(46,za (zd b)[i].length),(47,za q)]/\K=(jr,.row ((zd b)[i].map za) 3 1)::(jx,.cells (yq b s e (.row jl (zd b).length) jm) 125 tt)::(jm,.raw om2)::(jl,rowO (zd b))::(jk,.cells zeroKn 125 tt)::(0,zx)::(1,zC)::(s,zu b)::(e,zw b)::Kt) (zd b)[i].length ⟨0,om,rfl,mN _,by simpa using hom,rfl,rfl⟩ fun n Wq K hI' hnext2=>?_;obtain⟨q,om2,rfl,hq,hom2,rfl,rfl⟩:=hI';refine au 923742 ?_;refine⟨fun hcq=>?_,fun hcq=>?_⟩
  ·simp only[dT_]at hcq;have hlen3:=hSm.len;have hql:q<(zd b)[i].length:=by omega
   have hcnt:(((zd b).take i).flatten++(zd b)[i].take q).count (zd b)[i][q]<=200000:=mT List.count_le_length (by
    have h1:=uS (Ls:=(zd b).take i) (fun R hR=>(hLo R (List.mem_of_mem_take hR)).len);have h2:((zd b).take i).length<=65536:=by rw[List.length_take];omega
    have h3:=hSm.len;rw[lF,List.length_take];omega)
   refine au 370421302120 ?_;refine TK.a Z (zg Z Z ze.h mQ (zco (i:=q) hql Z)) ?_;refine au 1690670435 ?_;refine TK.a Z (uy Z Z Z Und.h Und.h InfO.h Z mQ hom2) ?_;refine au 230 ?_;refine TK.st Z Z Z (zbT Z Z Z Z Und.h Und.h mQ hom2) uQ (putN Z) ?_;refine au 3123041403 ?_;refine bA [4,7,38,39,40,45,46,47] ?_;refine bC (((jr,_)::(jx,_)::(jm,_)::(jl,_)::(jk,_)::(0,_)::(1,_)::(s,_)::(e,_)::Kt)) ?_;exact hnext2 _ _ _ oQ ⟨q+1,_,rfl,oQ,vE (zkH hom2) (fun z=>(zfP Qb hql z).symm),rfl,rfl⟩
  simp only[dF_]at hcq;obtain rfl:q=(zd b)[i].length:=by omega
  refine au 312304140160 ?_;refine bA [4,7,38,39,40] ?_;refine bC (((jx,_)::(jm,_)::(jl,_)::(jk,_)::(0,_)::(1,_)::(s,_)::(e,_)::Kt)) ?_;exact Wj _ _ _ oQ ⟨i+1,om2,rfl,oQ,vE hom2 (fun q=>by rw[zfO Qb]),rfl,rfl⟩
 simp only[dF_]at hc;obtain rfl:i=(zd b).length:=by omega
 refine au 3517068042160 ?_;refine bB Wz (((jl,_)::(jm,_)::(0,zx)::(1,zC)::(s,zu b)::(e,zw b)::Kt)) ?_;have ha:askM b t=0:=by unfold askM;rw[if_neg (by simpa using Jx),ht,if_neg dQ,if_neg hst]
 rw[List.take_length]at hom;exact .inr ⟨jl,jm,_,ha,hom,rfl,rfl⟩
theorem ziN{gm:Nat->Option Nat}{m:Nat×gV}{b:Bk}{s e j9 j7 j8 jx jb jl jm low cg cn:Nat}(hb:BkOk b)(hlow:low<b.sP.toNat)(hm:m=msgN b cg cn low)(Y:KX tp gm (TreeW tp (AtSend tp m)))(hkd:Y.X.kd=.deferred)(hdd:Y.X.dd=[])(hro:Y.X.ro=none)(hcs:Y.X.cs=[bot tp])(hf:Y.X.f=71) :
  TK Y [] [.code ((Tryz.f71.body).getD .skip)] ([.ptr jb 0,.ptr jx 0,.ptr j9 0,.ptr j7 0,.ptr j8 0]++mB (Tryz.f71.ntmps - 5) .any) [(j9,.cells [za low] 3 ff),(j7,.cells [.v (.chan (some cg))] 134 ff),(j8,.cells [.v (.chan (some cn))] 135 ff),(jx,.cells (yq b s e (.sl jl 0 (zd b).length) jm) 125 ff),(jb,.cells (zA b s e) 27 ff),(jl,listO (zd b))]:=by
 have hT:=zdc tp (AtSend tp m);have hLo:=yU hb;have hLn:=yP hb;have hst16:=hb.sP;refine TK.norm (he:=rfl) (Wk:=[_,_,_,_,_,_,_,_,_,_,_,_,_,_,_,_,_,_,_,_,_,_,_]) ?_;refine au 13035422 ?_;refine bA [0,1,2,3,4,5] ?_;refine bE (fun n Wq K=>∃(i:Nat),n=b.sP.toNat - i/\i<=b.sP.toNat/\(∀ q,q<i->¬ (withinM b (zd b) low ((q:Int)+1)).1>0)/\Wq=ym 23 [(0,.ptr jb 0),(1,.ptr jx 0),(2,.ptr j9 0),(3,.ptr j7 0),(4,.ptr j8 0),(5,za ((i:Int)+1))]/\K=[(j9,.cells [za low] 3 ff),(j7,.cells [.v (.chan (some cg))] 134 ff),(j8,.cells [.v (.chan (some cn))] 135 ff),(jx,.cells (yq b s e (.sl jl 0 (zd b).length) jm) 125 ff),(jb,.cells (zA b s e) 27 ff),(jl,listO (zd b))]) b.sP.toNat ⟨0,rfl,mN _,fun q hq=>absurd hq (Nat.not_lt_zero _),rfl,rfl⟩ fun n Wq K hI' Wj=>?_;obtain⟨i,rfl,hi,hno,rfl,rfl⟩:=hI';refine au 9376906701422 ?_;refine⟨fun hc=>?_,fun hc=>?_⟩
 ·simp only[dT_]at hc;have Qb:i<b.sP.toNat:=by omega
  refine au 1690680421302120 ?_;refine TK.clE Z Z Z Z (zeF hT (b:=b) (s:=s) (e:=e) (lo:=low) (w:=(i:Int)+1) hb.sP hLo hLn oQ) ?_;refine au 937310 ?_;apply aI<;>intro Jx
  ·have hak:arcK b low=some i:=List.find?_range_eq_some.2 ⟨by simpa using Jx,List.mem_range.2 Qb,fun q hq=>by have:=hno q hq;simpa using this⟩;obtain rfl:m=(cg,.agg #[.int .i64 low,.int .i64 ((i:Int)+1)]):=by rw[hm];unfold msgN;rw[hak]
   refine au 390169069042 ?_;exact TK.sendW rfl rfl rfl rfl rfl rfl hkd hdd hro hcs fun ts=>by rw[hf];exact zka Tryz.func71 rfl
  refine au 3523014140120 ?_;refine bA [0,1,2,3,4,5] ?_;refine bC [(j9,_),(j7,_),(j8,_),(jx,_),(jb,_),(jl,_)] ?_;exact Wj _ _ _ oQ ⟨i+1,rfl,oQ,fun q hq=>by
   rcases mR q i with h|h
   ·exact hno q h
   ·obtain rfl:q=i:=by omega
    simpa using Jx,rfl,rfl⟩
 simp only[dF_]at hc;obtain rfl:i=b.sP.toNat:=by omega
 have hak:arcK b low=none:=List.find?_eq_none.2 fun q hq=>by have:=hno q (List.mem_range.1 hq);simpa using this
 obtain rfl:m=(cn,.bool tt):=by rw[hm];unfold msgN;rw[hak]
 refine au 6904160 ?_;exact TK.sendW rfl rfl rfl rfl rfl rfl hkd hdd hro hcs fun ts=>by rw[hf];exact zj9 Tryz.func71 rfl
end Go.Vel
namespace Go.Vel
open Go Go.Conc Go.Proofs
def AllM(Q:Nat->Prop):List Nat->Prop
 | []=>True
 | m::M=>Q m/\AllM Q M
theorem AllM.mem{Q:Nat->Prop}:∀{M:List Nat},AllM Q M->∀ m∈M,Q m
 | [],_,m,h=>by cases h
 | x::M,h,m,hm=>by
  rcases lI.1 hm with rfl|hm
  ·exact h.1
  ·exact h.2.mem m hm
def readyL(Qy:Array gB)(L:List Nat):List Nat:=L.filter fun j => !((edgesOf .any Qy j).any fun e=>L.elem e)
section
variable {P:gP}{gm:Nat->Option Nat}{T:gG->Hp->Prop}{Y:KX P gm T}{ds:List Nat}{k:List Item}{Wq Wk:List AV}{K K':KV}{Qy:Array gB}{i d:Nat}{L:List Nat}{o:gB}{r:AV}{Wy Wx:List Pd}
def Nx(Y:KX P gm T)(ds:List Nat)(Qy:Array gB)(k:List Item)(Wy:List Pd)(L:List Nat)(Wq:List AV)(K:KV)(m:Nat):Prop :=
 ∃(s:List Nat)(o:gB)(Wx:List Pd),Qy[m]? =some o/\zM Qy (onl s Wq) o=some tt/\pendOf Qy m Wy=Wx/\(rawOk Qy m s&&dstOk Wx Qy o.dst)=tt/\ExK Y (onl s Wq) K o fun r K'=>(∀ p∈Wx,∀ x∈p.V,x∈K')/\TD Y ds Qy k Wx (L.filter fun j=>j !=m) (zV Wq o.dst r) K'
theorem TD.cA(hM:(readyL Qy L).isEmpty=ff)(h:AllM (Nx Y ds Qy k Wy L Wq K) (readyL Qy L)):TD Y ds Qy k Wy L Wq K :=
 TD.cM (readyL Qy L) (by
  simp only[mX,List.all_eq_true,Bool.or_eq_true,List.elem_eq_mem,dT_,Bool.not_eq_true'];refine⟨⟨hM,fun j hj=>(List.mem_filter.1 hj).1⟩,fun j hj=>?_⟩;cases e:(edgesOf .any Qy j).any fun e=>L.elem e with
  | true=>exact .inr (by simpa[List.elem_eq_mem]using e)
  | false=>exact .inl (List.mem_filter.2 ⟨hj,by rw[e] <;> rfl⟩)) fun m hm=>by
  obtain⟨s,o,Wx,h1,h2,h3,h4,h5⟩:=h.mem m hm;refine⟨s,o,Wx,_,h1,h2,h3,?_,h5⟩;rw[h4,Bool.true_and];simp only[mX,List.all_eq_true,List.elem_eq_mem,dT_,List.mem_filter,Bool.or_eq_true,beq_iff_eq];refine⟨fun j hj=>hj,fun j hj=>?_⟩;by_cases e:j=m
  ·exact .inl e
  ·exact .inr ⟨hj,by simpa using e⟩
theorem Nx.go(m:Nat)(s:List Nat)(Wx:List Pd)(ho:Qy[m]? =some o)(hw:zM Qy (onl s Wq) o=some tt)(hp:pendOf Qy m Wy=Wx)(hc:(rawOk Qy m s&&dstOk Wx Qy o.dst)=tt)(h:ExK Y (onl s Wq) K o fun r K'=>(∀ p∈Wx,∀ x∈p.V,x∈K')/\TD Y ds Qy k Wx (L.filter fun j=>j !=m) (zV Wq o.dst r) K'):Nx Y ds Qy k Wy L Wq K m:=⟨s,o,Wx,ho,hw,hp,hc,h⟩
end
section
variable {P:gP}{gm:Nat->Option Nat}{T:gG->Hp->Prop}{Y:KX P gm T}{ds:List Nat}{k:List Item}{Wq:List AV}{K:KV}
theorem TK.share{c:Code}(E:Nat->Nat->Nat->Nat->List AV)(KK:Nat->Nat->Nat->Nat->KV)(h:(∀ a b c d,TK Y ds k (E a b c d) (KK a b c d))->TK Y ds (.code c::k) Wq K)(hc:∀ a b c d,TK Y ds k (E a b c d) (KK a b c d)):TK Y ds (.code c::k) Wq K:=h hc
end
def narrowApi(b:Bk):(Int×Int)×Bool×Int:=if askM b tt≠0 then((0,0),ff,askM b tt)else if arcsOf b (List.range b.sP.toNat)=[]then((0,0),ff,0)else(narrowM b,tt,0)
theorem zha{Ls:List (List Int)}(h:Ls≠[]):Ls.flatMap yb≠[]:=by
 cases Ls with
 | nil=>exact absurd rfl h
 | cons S Ls=>rw[List.flatMap_cons];unfold yb;simp
theorem znn(b:Bk)(cg cn i:Nat):(msgN b cg cn i).1=cg\/(msgN b cg cn i).1=cn:=by
 unfold msgN;split
 ·exact .inl rfl
 ·exact .inr rfl
theorem zoE{b:Bk}{cg cn q w:Nat}(h:arcK b q=some w):msgN b cg cn q=(cg,.agg #[.int .i64 q,.int .i64 ((w:Int)+1)])/\arcA b q=some ((q:Int),(w:Int)+1):=by
 unfold msgN arcA;rw[h];exact⟨rfl,rfl⟩
theorem zoD{b:Bk}{cg cn q:Nat}(h:arcK b q=none):msgN b cg cn q=(cn,.bool tt)/\arcA b q=none:=by
 unfold msgN arcA;rw[h];exact⟨rfl,rfl⟩
attribute [local irreducible] TD Nx
theorem vR{Ψ:gG->gW->Prop}{b:Bk}{s e:Nat}(hse:s≠e)(hn:∀ x∈b.kE,x.name.size<=1000)(hl:b.seen.length<=1000):zl tp (BT tp Ψ) gmR 26 [.agg (zA b s e)] [(0,zx),(1,zC),(s,zu b),(e,zw b)] (fun r K'=>r=.tup [za (narrowApi b).1.1,za (narrowApi b).1.2,zr (narrowApi b).2.1,za (narrowApi b).2.2]/\K'=[(0,zx),(1,zC),(s,zu b),(e,zw b)]):=by
 have hT:=kI (P:=tp) Ψ;refine zh 59 hT Tryz.func26 fun Y Wz=>?_;refine au 21042 ?_;intro jb hjb;refine au 6804235555 ?_;refine bD Z Z Z Z (zmL hT (b:=b) (s:=s) (e:=e) (t:=tt) hse hn hl Z (fun hb=>yC Cal.h (vb hT))) ?_;rintro r1 K2 h3;rcases h3 with⟨hb0,rfl,rfl⟩|⟨jl,jm,om,hb0,hom,rfl,rfl⟩
 ·refine au 220661 ?_;intro jx hjx;refine au 937142235170 ?_;apply aI<;>intro Jz
  ·
   refine au 35555142 ?_;refine bB Wz [(0,_),(1,_),(s,_),(e,_)] ?_;exact⟨by unfold narrowApi;rw[if_pos hb0] <;> rfl,rfl⟩
  exact absurd (by simpa using Jz) hb0
 ·refine au 220661 ?_;intro jx hjx;refine au 937142235170 ?_;apply aI<;>intro Jz
  ·exact absurd Jz dQ
  obtain⟨hck,hth,hne⟩:=wm hb0;have hb:=yH hck;have hLo:=yU hb;have hLn:=yP hb;refine au 2120 ?_;refine TK.share (fun jc1 jc2 j7 j8=>ym 59 [(1,.ptr jb 0),(6,.ptr jx 0),(7,.ptr j7 0),(8,.ptr j8 0)]) (fun jc1 jc2 j7 j8=>(jc1,.raw (.chan 0 #[] ff 0 0 ff))::(jc2,.raw (.chan 0 #[] ff 0 0 ff))::(j7,.cells [.chan jc1] 134 tt)::(j8,.cells [.chan jc2] 135 tt)::(jx,.cells (yq b s e (.row jl (zd b).length) jm) 125 tt)::(jb,.cells (zA b s e) 27 tt)::(jl,rowO (zd b))::(0,zx)::(1,zC)::(s,zu b)::(e,zw b)::[]) (fun hcont=>?_) (fun jc1 jc2 j7 j8=>?_)
  ·refine bL [0,1,2,3,4,5] ?_
   repeat' first
    | exact True.intro
    | refine And.intro ?_ ?_
    | (refine Nx.go 0 [] [] rfl rfl rfl rfl ?_;refine zfg rfl (zcU rfl Und.h InfO.h) (fun _=>zD rfl tQ) sQ fun jc1 hjc1=>?_)
    | (refine Nx.go 1 [] [] rfl rfl rfl rfl ?_;refine zfg rfl (zcU rfl Und.h InfO.h) (fun _=>zD rfl tQ) sQ fun jc2 hjc2=>?_)
    | (refine Nx.go 2 [] [] rfl rfl rfl rfl ?_;refine kK rfl (yA rfl TyZA.h) (fun _=>zD rfl tQ) sQ fun j7 hj7=>?_)
    | (refine Nx.go 3 [] [] rfl rfl rfl rfl ?_;refine kK rfl (yA rfl TyZA.h) (fun _=>zD rfl tQ) sQ fun j8 hj8=>?_)
    | (refine Nx.go 4 [7,21] [] rfl rfl rfl rfl ?_;refine zjd rfl (zz rfl rfl ze.h rfl rfl mQ rfl) uQ (putN rfl) sQ ?_)
    | (refine Nx.go 5 [8,22] [] rfl rfl rfl rfl ?_;refine zjd rfl (zz rfl rfl ze.h rfl rfl mQ rfl) uQ (putN rfl) sQ ?_)
    | (refine Go.Vel.TD.fin ?_;refine bA [1,6,7,8] ?_;refine bC ((jc1,_)::(jc2,_)::(j7,_)::(j8,_)::(jx,_)::(jb,_)::(jl,_)::(0,_)::(1,_)::(s,_)::(e,_)::[]) ?_;exact hcont jc1 jc2 j7 j8)
    | refine TD.cA rfl ?_
  ·refine Gt.TK.phase (fun cg cn=>msgN b cg cn) (znn b) (by simp[yq]) (by simp[zA]) (zha hne) fun φ0 n0 cg cn hcc hag hn0 hsh=>?_;refine bC ((j7,_)::(j8,_)::(jx,_)::(jb,_)::(jl,_)::(0,_)::(1,_)::(s,_)::(e,_)::[]) ?_;refine TK.normK (K':=(j7,.cells [.v (.chan (some cg))] 134 ff)::(j8,.cells [.v (.chan (some cn))] 135 ff)::(jx,.cells (yq b s e (.sl jl 0 (zd b).length) jm) 125 ff)::(jb,.cells (zA b s e) 27 ff)::(jl,listO (zd b))::(0,zx)::(1,zC)::(s,zu b)::(e,zw b)::[]) (by simp[yq,unrow,za];rfl) ?_;refine au 13031690670422 ?_;refine bA [1,6,7,8,24,25] ?_;refine TK.loopJ (fun q Wq K=>Wq=ym 59 [(1,.ptr jb 0),(6,.ptr jx 0),(7,.ptr j7 0),(8,.ptr j8 0),(24,za b.sP),(25,za q)]/\K=(j7,.cells [.v (.chan (some cg))] 134 ff)::(j8,.cells [.v (.chan (some cn))] 135 ff)::(jx,.cells (yq b s e (.sl jl 0 (zd b).length) jm) 125 ff)::(jb,.cells (zA b s e) 27 ff)::(jl,listO (zd b))::(0,zx)::(1,zC)::(s,zu b)::(e,zw b)::[]) b.sP.toNat ⟨rfl,rfl⟩ fun q Wq K hq hI' Wj=>?_;obtain⟨rfl,rfl⟩:=hI';refine au 923742 ?_;apply aI<;>intro Jx
   ·simp only[dT_]at Jx;have hql:q<b.sP.toNat:=by omega
    have hst16:=hb.sP;refine au 2201421302120 ?_;intro j9 hj9;refine au 32043170 ?_;refine TK.ndz fun hnd=>?_;refine Gt.TK.spawn (j9:=j9) (l9:=[za (q:Int)]) (e9:=3) (K':=(j7,.cells [.v (.chan (some cg))] 134 ff)::(j8,.cells [.v (.chan (some cn))] 135 ff)::(jx,.cells (yq b s e (.sl jl 0 (zd b).length) jm) 125 ff)::(jb,.cells (zA b s e) 27 ff)::(jl,listO (zd b))::(0,zx)::(1,zC)::(s,zu b)::(e,zw b)::[]) Z Z Z Z Z (S:=[(j7,.cells [.v (.chan (some cg))] 134 ff),(j8,.cells [.v (.chan (some cn))] 135 ff),(jx,.cells (yq b s e (.sl jl 0 (zd b).length) jm) 125 ff),(jb,.cells (zA b s e) 27 ff),(jl,listO (zd b))]) (fun x hx=>?_) .head sQ (fun φ A Hc vs hv hg hr hrel=>?_) ?_;rotate_left 2
    ·refine au 3123041403 ?_;refine bA [1,6,7,8,24,25] ?_;refine bC (((j7,_)::(j8,_)::(jx,_)::(jb,_)::(jl,_)::(0,_)::(1,_)::(s,_)::(e,_)::[])) ?_;exact Wj _ _ hql ⟨rfl,rfl⟩
    ·simp only[lI,List.not_mem_nil,or_false]at hx;rcases hx with rfl|rfl|rfl|rfl|rfl
     ·exact⟨by simp,(hsh j7 sQ).1,(hsh j7 sQ).2,_,_,by simp,rfl⟩
     ·exact⟨by simp,(hsh j8 sQ).1,(hsh j8 sQ).2,_,_,by simp,rfl⟩
     ·exact⟨by simp,(hsh jx sQ).1,(hsh jx sQ).2,_,_,by simp[yq],rfl⟩
     ·exact⟨by simp,(hsh jb sQ).1,(hsh jb sQ).2,_,_,by simp[zA],rfl⟩
     ·exact⟨by simp,(hsh jl sQ).1,(hsh jl sQ).2,_,_,zha hne,rfl⟩
    ·refine zoa (K:=(j9,.cells [za (q:Int)] 3 ff)::[(j7,.cells [.v (.chan (some cg))] 134 ff),(j8,.cells [.v (.chan (some cn))] 135 ff),(jx,.cells (yq b s e (.sl jl 0 (zd b).length) jm) 125 ff),(jb,.cells (zA b s e) 27 ff),(jl,listO (zd b))]) Cal.h Tryz.func71 Z hv ?_ hg hr hrel fun Y2 k1 k0 k2 k3 k4=>ziN hb hql rfl Y2 k1 k0 k2 k3 k4;simp only[keys,List.map_cons,List.map_nil,List.nodup_cons,lI,List.not_mem_nil,or_false,not_or]at hnd ⊢;obtain⟨⟨a1,a2,a3,a4,a5,_⟩,⟨b1,b2,b3,b4,_⟩,⟨c1,c2,c3,_⟩,⟨d1,d2,_⟩,⟨g1,_⟩,_⟩:=hnd;exact⟨⟨a1,a2,a3,a4,a5⟩,⟨b1,b2,b3,b4⟩,⟨c1,c2,c3⟩,⟨d1,d2⟩,g1,not_false,List.nodup_nil⟩
   simp only[dF_]at Jx;obtain rfl:q=b.sP.toNat:=by omega
   refine au 542160 ?_;refine TK.virt 10 137 2 Z fun ja0 hja0=>?_;refine au 130316906704223 ?_;refine bA [1,6,7,8,10,31,32] ?_;refine TK.loopRz (fun n R Wq K=>∃(rec:List Nat)(ja:Nat),n=b.sP.toNat - rec.length/\rec.Nodup/\(∀ q,R q=tt↔q∈rec)/\(∀ q∈rec,q<b.sP.toNat)/\Wq=ym 59 [(1,.ptr jb 0),(6,.ptr jx 0),(7,.ptr j7 0),(8,.ptr j8 0),(10,.row ja (arcsOf b rec).length),(31,za b.sP),(32,za rec.length)]/\K=(ja,.row ((arcsOf b rec).flatMap arcC) 137 2)::(j7,.cells [.v (.chan (some cg))] 134 ff)::(j8,.cells [.v (.chan (some cn))] 135 ff)::(jx,.cells (yq b s e (.sl jl 0 (zd b).length) jm) 125 ff)::(jb,.cells (zA b s e) 27 ff)::(jl,listO (zd b))::(0,zx)::(1,zC)::(s,zu b)::(e,zw b)::[]) b.sP.toNat ⟨[],ja0,rfl,List.nodup_nil,by simp,by simp,rfl,rfl⟩ fun n R Wq K hI' Wj=>?_;obtain⟨rec,ja,rfl,hrn,hRr,hrl,rfl,rfl⟩:=hI';have hal:=zhP b rec;refine au 923742 ?_;apply aI<;>intro hc2
   ·simp only[dT_]at hc2;have hrlt:rec.length<b.sP.toNat:=by omega
    have hst16b:=hb.sP;refine au 423690436904221302120 ?_;refine Gt.TK.recv Z Z Z Z Z InfO.h Z InfO.h Z (by obtain⟨q,h1,h2⟩:=zmc hrn hrlt;exact⟨q,h1,by rw[Bool.eq_false_iff];exact fun h=>h2 ((hRr q).1 h)⟩) fun q hq hRq=>?_;have hqr:q∉rec:=fun h=>by rw[(hRr q).2 h]at hRq;cases hRq
    have hrn2:(rec++[q]).Nodup:=List.nodup_append.2 ⟨hrn,by simp,fun x hx y hy=>by rw[lS.1 hy];exact fun h=>hqr (h ▸ hx)⟩;have hR2:∀ x,Go.ConcN.upd R q tt x=tt↔x∈rec++[q]:=fun x=>by
     by_cases hx:x=q
     ·subst hx;simp[Go.ConcN.upd]
     ·simp[Go.ConcN.upd,hx,hRr]
    have hrl2:∀ x∈rec++[q],x<b.sP.toNat:=fun x hx=>by
     rcases List.mem_append.1 hx with hx|hx
     ·exact hrl x hx
     ·rw[lS.1 hx];exact hq
    rcases hak:arcK b q with _|wq;rotate_left
    ·have hma:=zoE (cg:=cg) (cn:=cn) hak;rw[hma.1,if_pos rfl];refine au 91303776 ?_;apply aI<;>intro hc3
     ·
      refine au 220642 ?_;intro j11 hj11;refine au 680143170 ?_;refine TK.newR Z Z Z (zH (l:=[_,_]) Z zp.h TyZ.h dQ dQ Z) (fun _=>zD rfl tQ) fun j4 hj4=>?_;refine TK.appR Z Z Z (a_app Z ApOf.h Z mQ (yW arcC 2 (fun _=>rfl) _) rfl (yO (ln:=[_,_]) mQ dQ sQ rfl) oQ rfl (by unfold maxLen;omega) oQ) (fun _=>uQ) (fun _=>zD rfl tQ) fun ja2=>?_;refine au 31230414014035 ?_;refine bA [1,6,7,8,10,31,32] ?_;refine bC (((ja2,_)::(j7,_)::(j8,_)::(jx,_)::(jb,_)::(jl,_)::(0,_)::(1,_)::(s,_)::(e,_)::[])) ?_;exact Wj _ _ _ _ (by rw[lF];simp;omega) ⟨rec++[q],ja2,rfl,hrn2,hR2,hrl2,by rw[zeT hma.2,lF,lF] <;> rfl,by rw[zeT hma.2,List.flatMap_append] <;> rfl⟩
     exact absurd hc3 dQ
    ·have hma:=zoD (cg:=cg) (cn:=cn) hak;rw[hma.1,if_neg (fun h=>hcc h.symm)];refine au 91303776 ?_;apply aI<;>intro hc3
     ·exact absurd hc3 dQ
     refine au 9 ?_;apply aI<;>intro hc4
     ·
      refine au 312304140140120 ?_;refine bA [1,6,7,8,10,31,32] ?_;refine bC (((ja,_)::(j7,_)::(j8,_)::(jx,_)::(jb,_)::(jl,_)::(0,_)::(1,_)::(s,_)::(e,_)::[])) ?_;exact Wj _ _ _ _ (by rw[lF];simp;omega) ⟨rec++[q],ja,rfl,hrn2,hR2,hrl2,by rw[zeS hma.2,lF] <;> rfl,by rw[zeS hma.2]⟩
     exact absurd hc4 dQ
   simp only[dF_]at hc2;have hrle:rec.length<=b.sP.toNat:=by have:=uL (l2:=List.range b.sP.toNat) hrn (fun x hx=>List.mem_range.2 (hrl x hx));rwa[List.length_range]at this
   have hrall:=znT hrn hrl oQ;refine Gt.TK.stopM (fun q hq=>(hRr q).2 (hrall q hq)) hag hn0 ?_;have hsame:=zgx (b:=b) (rec:=rec) (N:=b.sP.toNat) fun q=>⟨hrl q,hrall q⟩;have hst16c:=hb.sP;refine au 9372801422160 ?_;apply aI<;>intro hc5
   ·have hnone:arcsOf b (List.range b.sP.toNat)=[]:=List.eq_nil_iff_forall_not_mem.2 fun y hy=>by
     have h0:arcsOf b rec=[]:=lK (by have h:((arcsOf b rec).length:Int)=0:=(by simpa using hc5);omega);have:=(hsame y).2 hy;rw[h0]at this;cases this
    refine au 3555542 ?_;refine bB Wz [(0,_),(1,_),(s,_),(e,_)] ?_;exact⟨by unfold narrowApi;rw[if_neg (show ¬ (askM b tt≠0) by rw[hb0];decide),if_pos hnone] <;> rfl,rfl⟩
   obtain⟨p,ps,hps⟩:∃ p ps,arcsOf b rec=p::ps:=by
    cases h:arcsOf b rec with
    | nil=>rw[h]at hc5;exact absurd hc5 dQ
    | cons p ps=>exact⟨p,ps,rfl⟩
   obtain⟨p2,ps2,hps2⟩:∃ p ps,arcsOf b (List.range b.sP.toNat)=p::ps:=by
    cases h:arcsOf b (List.range b.sP.toNat)with
    | nil =>
     have:=(hsame p).1 (by rw[hps];simp);rw[h]at this;cases this
    | cons p ps=>exact⟨p,ps,rfl⟩
   have hsome:arcsOf b (List.range b.sP.toNat)≠[]:=by rw[hps2];simp
   have hres:ye ltArc p ps=narrowM b:=by
    unfold narrowM;rw[hps2];show ye ltArc p ps=ye ltArc p2 ps2;exact zgD fun y=>by rw[<- hps,<- hps2];exact hsame y
   rw[hps]at hal ⊢;refine au 2120 ?_;refine bL [0,1,2,3,4,5,6,7] ?_;refine ad [[1,10]] ?_;refine TD.y [49] Z (hq:=kT Z Z Z zp.h (mC _) (by first|omega|(simp only[lZ];omega)) (by first|omega|(simp only[lZ];omega))) (h:=?_);refine TD.y [50] Z (hq:=zK Z Z ze.h (mC _) (zb2 (k:=0) sQ)) (h:=?_);refine ad [[1,10]] ?_;refine TD.y [52] Z (hq:=wp Z Z zp.h (mC _) Z Z (by first|omega|(simp only[lZ];omega)) (by first|omega|(simp only[lZ];omega)) Z) (h:=?_);refine TD.c2 (i1:=5) (i2:=6) (pend1:=[_,_,_]) (pend2:=[_,_,_,_,_]) (L1:=[6,7]) (L2:=[5,7]) [51,53] [] Z Z Z Z Z Z Z ?_ ?_
   ·refine vM Z Z Cal.h Z (zbO hT (o:=p) (xs:=ps) (lt:=ltArc) (fv:=.fn 73 [] []) (jo:=ja) (off:=2) (obo:=.row ((p::ps).flatMap arcC) 137 2) (K:=[(ja,.row ((p::ps).flatMap arcC) 137 2)]) (by simp at hal;omega) sQ (fun k hk=>by rw[show 2+((k:Int)).toNat*2=(k+1)*2 by rw[mZ];omega];exact zb2 (xs:=p::ps) (k:=k+1) (by simpa using hk)) (fun x hx y hy=>CallFK.frame (.none _) (yC Cal.h (zcV hT)))) vQ fun r5 K6 h7=>⟨?_,?_⟩
    ·rcases h7 with⟨rfl,rfl⟩
     all_goals simp
    obtain⟨rfl,rfl⟩:=h7;try simp only[cA]
    refine bS (Wk:=[_,_,_,_,_,_,_,_,_,_,_,_,_,_,_,_,_,_,_,_,_,_,_,_,_,_,_,_,_,_,_,_,_,_,_,_,_,_,_,_,_,_,_,_,_,_,_,_,_,_,_,_,_,_,_,_,_,_,_]) Z ?_;refine TD.cnewP (Wx:=[_,_,_]) [] Z Z Z Z Z (yA Z TyZA.h) (fun _=>zD rfl tQ) sQ fun j12 hj12=>?_;refine TD.s (Wx:=[]) [12,54] Z Z (zz Z Z ze.h Z Z mQ Z) ?_;refine ad [[14]] ?_;refine au 2 ?_;refine bL [0,1,4,2,3,5,6,7] ?_;refine ad [[3,12],[10,55],[3,12],[10,57]] ?_;refine TD.as (Wx:=[_,_]) [56] Z Z (zI Z Z) ?_;refine ad [[13,58],[13],[13],[14]] ?_;refine au 0 ?_;refine bB Wz [(0,_),(1,_),(s,_),(e,_)] ?_;exact⟨by unfold narrowApi;rw[if_neg (show ¬ (askM b tt≠0) by rw[hb0];decide),if_neg hsome,<- hres] <;> rfl,rfl⟩
   ·refine kK Z (yA Z TyZA.h) (fun _=>zD rfl tQ) sQ fun j12 hj12=>?_;refine TD.cl (Wx:=[_,_,_]) [51,53] Z Z Z Z Z (zbO hT (o:=p) (xs:=ps) (lt:=ltArc) (fv:=.fn 73 [] []) (jo:=ja) (off:=2) (obo:=.row ((p::ps).flatMap arcC) 137 2) (K:=[(ja,.row ((p::ps).flatMap arcC) 137 2)]) (by simp at hal;omega) sQ (fun k hk=>by rw[show 2+((k:Int)).toNat*2=(k+1)*2 by rw[mZ];omega];exact zb2 (xs:=p::ps) (k:=k+1) (by simpa using hk)) (fun x hx y hy=>CallFK.frame (.none _) (yC Cal.h (zcV hT)))) (fun r8 K9 h10=>⟨?_,?_⟩)
    ·rcases h10 with⟨rfl,rfl⟩
     all_goals simp
    obtain⟨rfl,rfl⟩:=h10;try simp only[cA]
    refine bS tQ ?_;refine TD.s (Wx:=[]) [12,54] Z Z (zz Z Z ze.h Z Z mQ Z) ?_;refine ad [[14]] ?_;refine au 2 ?_;refine bL [0,1,4,2,3,5,6,7] ?_;refine ad [[3,12],[10,55],[3,12],[10,57]] ?_;refine TD.as (Wx:=[_,_]) [56] Z Z (zI Z Z) ?_;refine ad [[13,58],[13],[13],[14]] ?_;refine au 0 ?_;refine bB Wz [(0,_),(1,_),(s,_),(e,_)] ?_;exact⟨by unfold narrowApi;rw[if_neg (show ¬ (askM b tt≠0) by rw[hb0];decide),if_neg hsome,<- hres] <;> rfl,rfl⟩
end Go.Vel
namespace Go.Vel
open Go Go.Conc Go.Proofs
theorem zfM(n:Int):∀ k,(numsF n k).length=k
 | 0=>rfl
 | k+1=>by unfold numsF;rw[lZ,zfM (n+1) k]
theorem zfm{b:RBk}:∀(r:List RBand)(p:List Int),(∀ x∈r,(numsM x).length<=3)->(fromM b p r).length<=3 ^ r.length
 | [],p,_=>by unfold fromM;split <;> simp
 | x::r,p,h=>by
  unfold fromM;have h1:=h x sQ;have key:∀(l:List Int),(l.flatMap fun n=>fromM b (p++[n]) r).length<=l.length*3 ^ r.length:=fun l=>by
   induction l with
   | nil=>simp
   | cons a l ih =>
    rw[List.flatMap_cons,lF,lZ,Nat.succ_mul];have:=zfm (b:=b) r (p++[a]) fun y hy=>h y (by simp[hy]);omega
  have h2:=key (numsM x);have h3:(numsM x).length*3 ^ r.length<=3*3 ^ r.length:=Nat.mul_le_mul_right _ h1;rw[lZ,Nat.pow_succ];omega
theorem zde{b:RBk}(hb:ROk b):(z8 b).length<=243:=by
 have h1:=zfm (b:=b) b.sH [] fun x hx=>by
  obtain⟨i,hi,rfl⟩:=List.mem_iff_getElem.1 hx;have hi2:i<b.sE.length:=by have:=hb.cls.len;omega
  have e:b.sH[i]=bd b i:=by have:=kJ (b:=b) hi;rw[lA hi]at this;exact Option.some.inj this
  have:=hb.cls.bnd i hi2;unfold numsM;rw[zfM,e];omega
 have h2:3 ^ b.sH.length<=3 ^ 5:=Nat.pow_le_pow_right dQ (by have:=hb.cls.len;have:=hb.sms.len;omega);exact mT h1 h2
theorem znM{b:RBk}(hb:ROk b){pre:List (List Int)}(h:pre <+: z8 b):pre.length<=243:=mT h.length_le (zde hb)
theorem za7{α:Type}(f:α->List AV)(xs:List α)(x:α):(xs++[x]).flatMap f=xs.flatMap f++f x:=by rw[List.flatMap_append];simp
abbrev allO(all:List (List Int)):AObj:=.cells (all.flatMap stC) 160 ff
def knownC(b:RBk)(s h e a n:Nat):List AV:=[za b.sP,za b.round,za b.roll,za b.rolls,.sl s 0 b.sE.length,.sl h 0 b.sH.length,.sl e 0 b.mE.length,.sl a 0 n]
def z8R:List AV:=[za 0,za 0,za 0,za 0,.v (.slice none 0 0),.v (.slice none 0 0),.v (.slice none 0 0),.v (.slice none 0 0)]
theorem ziS{x y:Int}(h:bar2 x y=0):x=0:=by
 unfold bar2 at h;split at h
 ·rename_i h1;exact absurd h h1
 ·rename_i h1;simpa using h1
def KnownR(b:RBk)(s h e:Nat)(bar:Int)(K:KV)(r:AV)(K':KV):Prop :=
 (bar≠0/\r=.tup [.agg z8R,za bar]/\K'=K)\/(bar=0/\z8 b=[]/\r=.tup [.agg z8R,za 9]/\K'=K)\/(bar=0/\z8 b≠[]/\∃ a,r=.tup [.agg (knownC b s h e a (z8 b).length),za 0]/\K'=(a,allO (z8 b))::K)
theorem zhs(a b c d e f:Nat×AObj){R:KV}:((c::d::e::f::R)++[a,b]).Perm (c::d::e::f::a::b::R):=by
 have q:(R++[a,b]).Perm ([a,b]++R):=lH;exact(((q.cons f).cons e).cons d).cons c
instance:ApOf tp 89 160 5 40:={}
instance:BlOf tp 91 [(0,7),(7,1)]:={}
instance:zm tp 91 1 7 ff 1:={}
instance:zp tp 89 160 5:={}
instance:ze tp 89 ff 1:={}
instance:TyZ tp 160 [.int .i64 0,.int .i64 0,.int .i64 0,.int .i64 0,.int .i64 0]:={}
instance:TyZ tp 91 [.int .i64 0,.int .i64 0,.int .i64 0,.int .i64 0,.slice none 0 0,.slice none 0 0,.slice none 0 0,.slice none 0 0]:={}
instance:TyZA tp 91 [.v (.int .i64 0),.v (.int .i64 0),.v (.int .i64 0),.v (.int .i64 0),.v (.slice none 0 0),.v (.slice none 0 0),.v (.slice none 0 0),.v (.slice none 0 0)]:={}
instance:Und tp 89 (.slice 160):={}
theorem zeR{main T}(hT:zo tp main T){gm}{b:RBk}{s h e:Nat}(hb:ROk b) :
  zl tp T gm 119 [.v (.slice none 0 0),.fn 93 [.agg (zP b s h e)] []] [(s,zt b),(h,zX b),(e,zG b)] (fun r K'=>∃ j,r=.row j (z8 b).length/\K'=[(s,zt b),(h,zX b),(e,zG b),(j,.row ((z8 b).flatMap stC) 160 5)]):=by
 refine vc 13 hT Tryz.func119 fun Y hro Wz=>?_;refine au 21042 ?_;intro jl hjl;refine TK.virtAt (i:=0) (e:=160) (size:=5) Z (fun _=>uQ) fun j0 hj0=>?_;refine au 1303142235 ?_;refine TK.rangeStates hT hb (s:=s) (h:=h) (e:=e) (J:=fun pre K1=>∃ j,K1=[(jl,.cells [.row j pre.length] 89 tt),(j,.row (pre.flatMap stC) 160 5)]) (D:=fun _ _=>False) rfl hro rfl vQ ⟨j0,rfl⟩ (fun Y' l lo lb pre S K1 hbegin Qj hout hpre hJ=>?_) (fun d K2 hJ=>?_) (fun d c K2 hD=>?_)
 ·obtain⟨j,rfl⟩:=hJ;have hpl:=znM hb ((List.prefix_append _ _).trans hpre);have hfl:=kz stC 5 (fun _=>rfl) pre;refine au 2204 ?_;intro j5 hj5;refine au 3170 ?_;refine hbegin _ _ _ _ _ uQ ?_;refine au 6806904130 ?_;refine TK.newR Z Z Z (zH (l:=[_,_,_,_,_]) Z zp.h TyZ.h dQ dQ Z) (fun _=>zD rfl tQ) fun j1 hj1=>?_;refine TK.appR Z Z Z (a_app Z ApOf.h Z mQ oQ Z (yO (ln:=[_,_,_,_,_]) mQ dQ sQ Z) oQ Z (by unfold maxLen;omega) oQ) (fun _=>uQ) (fun _=>zD rfl tQ) fun j2=>?_;refine au 1403170 ?_;exact Qj _ _ [(jl,_),(j2,_)] _ vQ ⟨j2,by rw[za7,lF] <;> rfl⟩
 ·obtain⟨j,rfl⟩:=hJ;simp only[cA];refine au 3569042140 ?_;refine TK.leave (.ret _) fun A hA=>Wz _ _ _ _ ([(s,_),(h,_),(e,_),(j,_)]) ([(s,_),(h,_),(e,_),(j,_)]) _ _ _ (.inr rfl) vQ sQ sQ vQ (yR (zQ Z)) ?_ A hA;exact⟨j,rfl,rfl⟩
 ·exact hD.elim
theorem zcH{main T}(hT:zo tp main T){gm}{b:RBk}{s h e:Nat}(hb:ROk b) :
  zl tp T gm 92 [.fn 93 [.agg (zP b s h e)] []] [(s,zt b),(h,zX b),(e,zG b)] (fun r K'=>∃ j,r=.row j (z8 b).length/\K'=[(s,zt b),(h,zX b),(e,zG b),(j,.row ((z8 b).flatMap stC) 160 5)]):=by
 refine zh 5 hT Tryz.func92 fun Y Wz=>?_;refine au 1423542 ?_;refine bD Z Z Z Z (zeR hT hb) ?_;rintro r1 K2 ⟨j,rfl,rfl⟩;refine au 35 ?_;refine bB Wz [(s,_),(h,_),(e,_),(j,_)] ?_;exact⟨j,rfl,rfl⟩
theorem zd9{main:Bool}{T:gG->Hp->Prop}(hT:zo tp main T){b:RBk}{s h e:Nat}{Kx:KV}(hl:b.sE.length<=100)(hm:b.mE.length<=100) :
  zl tp T gmR 41 [.agg (zP b s h e),.v (.slice none 0 0)] ((2,checksG)::(s,zt b)::(h,zX b)::(e,zG b)::Kx) (fun r K'=>KnownR b s h e (checkM b) ((2,checksG)::(s,zt b)::(h,zX b)::(e,zG b)::Kx) r K'):=by
 refine zh 30 hT Tryz.func41 fun Y Wz=>?_;refine au 21042 ?_;intro jb hjb;refine au 220 ?_;intro jr hjr;refine au 16804235 ?_;refine bD Z Z Z Z (ziq hT hl hm) ?_ (hs:=(.right (.right (.all _))));rintro r1 K2 h3;rcases h3 with⟨⟨Wv,rfl⟩|⟨Wv,rfl⟩,rfl⟩
 ·refine au 0 ?_;refine TK.perm (K':=(2,_)::(s,_)::(h,_)::(e,_)::(jr,_)::(jb,_)::Kx) (zhs _ _ _ _ _ _ ) ?_;refine au 220661 ?_;intro j6 hj6;refine au 937142235170 ?_;apply aI<;>intro Jz
  ·exact absurd Jz sQ
  have hbb:=kQ (Wv);refine au 2120 ?_;refine bL [0,1,2,3,4,5,6] ?_;refine ad [[12,6],[12,6]] ?_;refine TD.z [20] Z (zc4 Z Z Z) ?_;refine TD.c2 (i1:=3) (i2:=5) (pend1:=[_,_]) (pend2:=[_,_,_]) (L1:=[4,5,6]) (L2:=[3,4,6]) [21] [] Z Z Z Z Z Z Z ?_ ?_
  ·refine vM Z Z Cal.h Z (zcH hT hbb) (.right (.right (.left (.left (.left (.none _)))))) fun r4 K5 h6=>⟨?_,?_⟩
   ·rcases h6 with⟨a,rfl,rfl⟩
    all_goals simp
   obtain⟨a,rfl,rfl⟩:=h6;try simp only[cA]
   refine bS (Wk:=[_,_,_,_,_,_,_,_,_,_,_,_,_,_,_,_,_,_,_,_,_,_,_,_,_,_,_,_,_,_]) Z ?_;refine TD.z [19,22] Z (kh (l:=[_,_,_,_,_,_,_,_]) Z TyZ.h BlOf.h Z) ?_;refine TD.cnewP (Wx:=[_,_,_]) [] Z Z Z Z Z (yA Z TyZA.h) (fun _=>zD rfl tQ) sQ fun j8 hj8=>?_;refine TD.s (Wx:=[]) [8,23] Z Z (zz Z Z ze.h Z Z mQ Z) ?_;refine ad [[14]] ?_;refine au 22 ?_;refine TK.unrowAt (c:=j8) (i:=7) (j:=a) Z mQ uQ ?_;refine TK.frzRow (j:=a) ?_;refine au 9372806906704 ?_;apply aI<;>intro Jx
   ·have hnil:z8 b=[]:=List.length_eq_zero_iff.1 (by have:=eq_of_beq Jx;omega);refine au 3517045042 ?_;refine bB Wz ((2,_)::(s,_)::(h,_)::(e,_)::Kx) ?_;exact .inr (.inl ⟨Wv,hnil,rfl,rfl⟩)
   have hne:z8 b≠[]:=fun e=>by rw[e]at Jx;simp at Jx
   refine au 3517068042120 ?_;refine bB Wz ((a,_)::(2,_)::(s,_)::(h,_)::(e,_)::Kx) ?_;exact .inr (.inr ⟨Wv,hne,a,rfl,rfl⟩)
  ·refine kK Z (yA Z TyZA.h) (fun _=>zD rfl tQ) sQ fun j8 hj8=>?_;refine TD.cl (Wx:=[_,_]) [21] Z Z Z Z Z (zcH hT hbb) (fun r7 K8 h9=>⟨?_,?_⟩) (hs:=(.right (.right (.right (.left (.left (.left (.none _))))))))
   ·rcases h9 with⟨a,rfl,rfl⟩
    all_goals simp
   obtain⟨a,rfl,rfl⟩:=h9;try simp only[cA]
   refine bS tQ ?_;refine TD.z [19,22] Z (kh (l:=[_,_,_,_,_,_,_,_]) Z TyZ.h BlOf.h Z) ?_;refine TD.s (Wx:=[]) [8,23] Z Z (zz Z Z ze.h Z Z mQ Z) ?_;refine ad [[14]] ?_;refine au 22 ?_;refine TK.unrowAt (c:=j8) (i:=7) (j:=a) Z mQ uQ ?_;refine TK.frzRow (j:=a) ?_;refine au 9372806906704 ?_;apply aI<;>intro Jx
   ·have hnil:z8 b=[]:=List.length_eq_zero_iff.1 (by have:=eq_of_beq Jx;omega);refine au 3517045042 ?_;refine bB Wz ((2,_)::(s,_)::(h,_)::(e,_)::Kx) ?_;exact .inr (.inl ⟨Wv,hnil,rfl,rfl⟩)
   have hne:z8 b≠[]:=fun e=>by rw[e]at Jx;simp at Jx
   refine au 3517068042120 ?_;refine bB Wz ((a,_)::(2,_)::(s,_)::(h,_)::(e,_)::Kx) ?_;exact .inr (.inr ⟨Wv,hne,a,rfl,rfl⟩)
 ·refine au 0 ?_;refine TK.perm (K':=(2,_)::(s,_)::(h,_)::(e,_)::(jr,_)::(jb,_)::Kx) (zhs _ _ _ _ _ _ ) ?_;refine au 220661 ?_;intro j6 hj6;refine au 937142235170 ?_;apply aI<;>intro Jz
  ·
   refine au 35170145042 ?_;refine bB Wz ((2,_)::(s,_)::(h,_)::(e,_)::Kx) ?_;exact .inl ⟨Wv,rfl,rfl⟩
  exact absurd Wv (by simpa using Jz)
end Go.Vel
end
