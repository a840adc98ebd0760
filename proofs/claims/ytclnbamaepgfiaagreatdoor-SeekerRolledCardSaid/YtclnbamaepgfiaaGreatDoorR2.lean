/- Texts for the law SeekerRolled (chapters 8 and 9), part 3. It holds of every program, tape and world that the statements name, as each theorem says. -/
import Derived.Conc.MuSpec
import Derived.Test.YtclnbamaepgfiaaGreatDoorR0
import Derived.Test.YtclnbamaepgfiaaGreatDoorR1
open Go renaming Goroutine -> gG, Program -> gP, World -> gW
open Bool renaming true -> tt, false -> ff
section
set_option linter.all false
set_option maxRecDepth 20000
set_option maxHeartbeats 60000000
open List renaming mem_singleton -> lS
open Array renaming getElem?_eq_getElem -> mD, getElem?_setIfInBounds_ne -> mE, getElem?_setIfInBounds_self_of_lt -> mF, getElem?_eq_some_iff -> mG, mem_of_getElem? -> mH, getElem?_map -> mJ
open Nat renaming le_refl -> mL, lt_of_lt_of_le -> mM, lt_or_ge -> mR, le_trans -> mT
open Bool renaming false_eq_true -> mU
open Option renaming map_eq_some_iff -> mY
namespace Go.Vel.Mx
def Nm(H A K W U R C l k z w ms:Nat):Prop :=
 l<=1/\k<=1/\H=l/\K+W+U+ms<=1/\((z=0/\k=K+W+U+ms/\A=w+U+ms/\C=0/\(l=0->k=0->1<=w->1<=R))\/(z=1/\k=0/\K+W+U+ms+l=1/\K=0/\1<=w/\A+W=w))
theorem bits(x:Nat):x=lk x+2*wk x+4*st x+8*wt x:=by simp only[lk,wk,st,wt];omega
theorem zab{x l k z w:Nat}(h1:l<=1)(h2:k<=1)(h3:z<=1)(h:x=l+2*k+4*z+8*w):lk x=l/\wk x=k/\st x=z/\wt x=w:=by
 subst h;simp only[lk,wk,st,wt];omega
theorem kY(x:Nat):lk x<=1/\wk x<=1/\st x<=1:=by simp only[lk,wk,st];omega
theorem Inv.nm{n:Nat}{f:Nat->Th}{s:Sh}(h:Inv n f s):Nm (S hl f n) (S wa f n) (S kl f n) (S kw f n) (S ku f n) (S ua f n) (S ka f n) (lk s.mu) (wk s.mu) (st s.mu) (wt s.mu) s.ms:=by
 obtain⟨b1,b2,b3⟩:=kY s.mu;refine⟨b1,b2,h.hold,h.one,?_⟩;rcases(show st s.mu=0\/st s.mu=1 by omega)with e|e
 ·exact .inl ⟨e,h.nrm e,(h.wn e).1,(h.wn e).2,h.resp e⟩
 ·obtain⟨c1,c2,c3,c4⟩:=h.stv e;exact .inr ⟨e,c1,c2,c3,c4,h.ws e⟩
theorem zjA{n:Nat}{f:Nat->Th}{s:Sh}(hl':∀ i,i<n->Loc (f i))(q:Nm (S hl f n) (S wa f n) (S kl f n) (S kw f n) (S ku f n) (S ua f n) (S ka f n) (lk s.mu) (wk s.mu) (st s.mu) (wt s.mu) s.ms)(ha:∀ i,i<n->(f i).pc=.a1->(f i).nw=0->2<=wt s.mu):Inv n f s:=by
 obtain⟨b1,b2,q1,q2,q3⟩:=q;refine⟨hl',q1,q2,fun e=>?_,fun e=>?_,fun e=>?_,fun e=>?_,fun e=>?_,ha⟩;all_goals (rcases q3 with⟨z,c1,c2,c3,c4⟩|⟨z,c1,c2,c3,c4,c5⟩)
 ·exact c1
 ·omega
 ·omega
 ·exact⟨c1,c2,c3,c4⟩
 ·exact⟨c2,c3⟩
 ·omega
 ·omega
 ·exact c5
 ·exact c4
 ·omega
def Hx(f:Nat->Th)(i:Nat)(s s':Sh)(T':Th):Prop:=∀ H A K W U R C H' A' K' W' U' R' C' l k z w,s.mu=l+2*k+4*z+8*w->lk s.mu=l->wk s.mu=k->st s.mu=z->wt s.mu=w->z<=1->Nm H A K W U R C l k z w s.ms->H'+hl (f i)=H+hl T'->A'+wa (f i)=A+wa T'->K'+kl (f i)=K+kl T'->W'+kw (f i)=W+kw T'->U'+ku (f i)=U+ku T'->R'+ua (f i)=R+ua T'->C'+ka (f i)=C+ka T'->hl (f i)<=H->wa (f i)<=A->kl (f i)<=K->kw (f i)<=W->ku (f i)<=U->ua (f i)<=R->ka (f i)<=C->C<=W ->
   ∃ l' k' z' w',s'.mu=l'+2*k'+4*z'+8*w'/\z'<=1/\Nm H' A' K' W' U' R' C' l' k' z' w' s'.ms
def Hb(f:Nat->Th)(i:Nat)(s s':Sh):Prop:=∀ H A K W U R C,Nm H A K W U R C (lk s.mu) (wk s.mu) (st s.mu) (wt s.mu) s.ms->1<=C->1+kw (f i)<=W->2<=wt s.mu->kl (f i)<=K->ku (f i)<=U->hl (f i)<=H->2<=wt s'.mu
theorem kq{n:Nat}{f:Nat->Th}{s s':Sh}{i:Nat}{T':Th}(h:Inv n f s)(hi:i<n)(hloc:Loc T')
  (hx:Hx f i s s' T')
  (ha:T'.pc=.a1->T'.nw=0->2<=wt s'.mu)
  (hb:Hb f i s s'):Inv n (upd f i T') s':=by
 obtain⟨l',k',z',w',p1,p2,q⟩:=hx _ _ _ _ _ _ _ _ _ _ _ _ _ _ _ _ _ _ (bits _) rfl rfl rfl rfl (kY _).2.2 h.nm (S_upd hi) (S_upd hi) (S_upd hi) (S_upd hi) (S_upd hi) (S_upd hi) (S_upd hi) (S_get hi) (S_get hi) (S_get hi) (S_get hi) (S_get hi) (S_get hi) (S_get hi) (S_le (fun T=>by unfold ka kw;cases T.pc <;> simp) n);obtain⟨r1,r2,r3,r4⟩:=zab q.1 q.2.1 p2 p1;refine zjA (fun k hk=>?_) (by rw[r1,r2,r3,r4];exact q) (fun k hk hp hz=>?_)
 ·unfold upd;split
  ·exact hloc
  ·exact h.loc k hk
 ·unfold upd at hp hz;split at hp
  ·rename_i e;rw[if_pos e]at hz;exact ha hp hz
  ·rename_i e;rw[if_neg e]at hz;have c1:=S_get (p:=ka) (f:=f) hk;have c2:=S_two (p:=kw) (f:=f) hk hi e;have e1:ka (f k)=1:=by simp[ka,hp]
   have e2:kw (f k)=1:=by simp[kw,hp]
   exact hb _ _ _ _ _ _ _ h.nm oQ oQ (h.a1w k hk hp hz) (S_get hi) (S_get hi) (S_get hi)
theorem uh{x l k z w:Nat}(aw sv:Bool)(h1:lk x=l)(h2:wk x=k)(h3:st x=z)(h4:wt x=w):newOf x aw sv=(if z=0 then 1 else l)+2*(if aw then 0 else k)+4*(if sv/\l=1 then 1 else z)+8*(if l=1\/z=1 then w+1 else w):=by
 unfold newOf;rw[h1,h2,h3,h4]
theorem yD{n:Nat}{f:Nat->Th}{s s':Sh}{i:Nat}{T':Th}(hI:Inv n f s)(hi:i<n)(hloc:Loc T') (hx:Hx f i s s' T':=by
 intro H A K W U R C H' A' K' W' U' R' C' l k z w b0 b1 b2 b3 b4 b5 q e1 e2 e3 e4 e5 e6 e7 g1 g2 g3 g4 g5 g6 g7 g8;clear hI hi;simp only[hl,wa,kl,kw,ku,ua,ka,h,mU,if_false]at e1 e2 e3 e4 e5 e6 e7 g1 g2 g3 g4 g5 g6 g7;simp only[Nm]at q ⊢;exact⟨l,k,z,w,by first|rfl|omega,oQ,oQ⟩) (hb:Hb f i s s':=by intro _ _ _ _ _ _ _ q c1 c2 c3 c4 c5 c6;exact c3) (ha:T'.pc=.a1->T'.nw=0->2<=wt s'.mu:=by simp):Inv n (upd f i T') s':=kq hI hi hloc hx ha hb
section
variable {n:Nat}{f:Nat->Th}{s:Sh}{i:Nat}(hI:Inv n f s)(hi:i<n)
include hI hi
theorem mv_ld(h:(f i).pc=.ld)  : Inv n (upd f i { pc:=.l0 }) s:=yD hI hi (by simp[Loc])
theorem zoK(h:(f i).pc=.l0)(h1:s.mu=0):Inv n (upd f i { pc:=.le }) { s with mu:=1 }:=by
 refine kq hI hi (by simp[Loc]) (fun H A K W U R C H' A' K' W' U' R' C' l k z w b0 b1 b2 b3 b4 b5 q e1 e2 e3 e4 e5 e6 e7 g1 g2 g3 g4 g5 g6 g7 g8=>?_) sQ (fun _ _ _ _ _ _ _ q c1 c2 c3 c4 c5 c6=>by simp only[h1]at c3;simp[wt]at c3);clear hI hi;simp only[hl,wa,kl,kw,ku,ua,ka,h,mU,if_false]at e1 e2 e3 e4 e5 e6 e7 g1 g2 g3 g4 g5 g6 g7;simp only[Nm]at q ⊢;exact⟨1,0,0,0,by first|rfl|omega,oQ,oQ⟩
theorem zoL(h:(f i).pc=.l0)  : Inv n (upd f i { pc:=.r0 }) s:=yD hI hi (by simp[Loc])
theorem zoN(h:(f i).pc=.r0)(hc:lk s.mu=1/\st s.mu=0):Inv n (upd f i { ({ pc:=.r0,old:=s.mu }:Th)with pc:=.sq }) s:=yD hI hi (by simp[Loc,hc])
theorem zoO(h:(f i).pc=.r0)(hc:¬ (lk s.mu=1/\st s.mu=0)):Inv n (upd f i { ({ pc:=.r0,old:=s.mu }:Th)with pc:=.c2,nw:=newOf s.mu ff ff }) s:=yD hI hi (by simp[Loc])
theorem zoP(h:(f i).pc=.r1)(hc:lk s.mu=1/\st s.mu=0):Inv n (upd f i { { (f i)with old:=s.mu,it:=(f i).it+1 } with pc:=.sq }) s:=by
 have hL:=hI.loc i hi;simp only[Loc,h]at hL
 replace hL:=hL.1
 have hw:(f i).aw=tt->wk s.mu=1:=fun ha=>by
  have g3:=S_get (p:=kl) (f:=f) hi;have q:=hI.nm;simp only[kl,h,ha,if_true]at g3;simp only[Nm]at q;omega
 exact yD hI hi (by simp only[Loc];exact⟨hc.1,hc.2,hw,hL⟩)
theorem zoQ(h:(f i).pc=.r1)(hc:¬ (lk s.mu=1/\st s.mu=0)):Inv n (upd f i { { (f i)with old:=s.mu,it:=(f i).it+1 } with pc:=.c2,nw:=newOf s.mu (f i).aw (f i).sv }) s:=by
 have hL:=hI.loc i hi;simp only[Loc,h]at hL
 replace hL:=hL.1
 have hw:(f i).aw=tt->wk s.mu=1:=fun ha=>by
  have g3:=S_get (p:=kl) (f:=f) hi;have q:=hI.nm;simp only[kl,h,ha,if_true]at g3;simp only[Nm]at q;omega
 exact yD hI hi (by simp only[Loc];exact⟨hw,hL,trivial⟩)
theorem zoS(h:(f i).pc=.r3)(hc:lk s.mu=1/\st s.mu=0):Inv n (upd f i { { (f i)with old:=s.mu } with pc:=.sq }) s:=by
 have hL:=hI.loc i hi;simp only[Loc,h]at hL;have hw:(f i).aw=tt->wk s.mu=1:=fun ha=>by
  have g3:=S_get (p:=kl) (f:=f) hi;have q:=hI.nm;simp only[kl,h,ha,if_true]at g3;simp only[Nm]at q;omega
 exact yD hI hi (by simp only[Loc];exact⟨hc.1,hc.2,hw,hL⟩)
theorem zoT(h:(f i).pc=.r3)(hc:¬ (lk s.mu=1/\st s.mu=0)):Inv n (upd f i { { (f i)with old:=s.mu } with pc:=.c2,nw:=newOf s.mu (f i).aw (f i).sv }) s:=by
 have hL:=hI.loc i hi;simp only[Loc,h]at hL;have hw:(f i).aw=tt->wk s.mu=1:=fun ha=>by
  have g3:=S_get (p:=kl) (f:=f) hi;have q:=hI.nm;simp only[kl,h,ha,if_true]at g3;simp only[Nm]at q;omega
 exact yD hI hi (by simp only[Loc];exact⟨hw,hL,trivial⟩)
theorem zoW(h:(f i).pc=.sq)  : Inv n (upd f i { (f i)with pc:=.c2,nw:=newOf (f i).old (f i).aw (f i).sv }) s:=by
 have hL:=hI.loc i hi;simp only[Loc,h]at hL;exact yD hI hi (by simp only[Loc];exact⟨hL.2.2.1,hL.2.2.2,trivial⟩)
theorem zoV(h:(f i).pc=.sq)(h0:(f i).it<4)(h1:(f i).aw=ff)(h2:wk (f i).old=0)(h3:wt (f i).old≠0):Inv n (upd f i { (f i)with pc:=.c1 }) s:=by
 have hL:=hI.loc i hi;simp only[Loc,h]at hL;exact yD hI hi (by simp only[Loc];exact⟨hL.1,hL.2.1,h1,(by cases hs:(f i).sv with|false=>rfl|true=>exact absurd (hL.2.2.2 hs) (by rw[h1];decide)),h2,h3,h0⟩)
theorem zoX(h:(f i).pc=.sq)(h0:(f i).it<4):Inv n (upd f i { (f i)with pc:=.r1 }) s:=by
 have hL:=hI.loc i hi;simp only[Loc,h]at hL;exact yD hI hi (by simp only[Loc];exact⟨hL.2.2.2,h0⟩)
theorem zoG(h:(f i).pc=.c1)(h1:s.mu=(f i).old):Inv n (upd f i { (f i)with pc:=.r1,aw:=tt }) { s with mu:=(f i).old+2 }:=by
 have hL:=hI.loc i hi;simp only[Loc,h]at hL;obtain⟨l1,l2,l3,l4,l5,l6,l7⟩:=hL;rw[<- h1]at l1 l2 l5;refine kq hI hi (by simp[Loc,l7]) (fun H A K W U R C H' A' K' W' U' R' C' l k z w b0 b1 b2 b3 b4 b5 q e1 e2 e3 e4 e5 e6 e7 g1 g2 g3 g4 g5 g6 g7 g8=>?_) sQ (fun _ _ _ _ _ _ _ q c1 c2 c3 c4 c5 c6=>by rw[h1]at c3;simp only[wt]at *;omega);clear hI hi;simp only[hl,wa,kl,kw,ku,ua,ka,h,mU,if_false,l3,if_true]at e1 e2 e3 e4 e5 e6 e7 g1 g2 g3 g4 g5 g6 g7;simp only[Nm]at q ⊢;exact⟨l,1,z,w,by first|rfl|omega,oQ,oQ⟩
theorem zoH(h:(f i).pc=.c1)  : Inv n (upd f i { (f i)with pc:=.r1 }) s:=by
 have hL:=hI.loc i hi;simp only[Loc,h]at hL;exact yD hI hi (by simp only[Loc];rw[hL.2.2.2.1];exact⟨by simp,hL.2.2.2.2.2.2⟩)
theorem zoJ(h:(f i).pc=.c2)(h1:s.mu=(f i).old)(h2:lk (f i).old=0)(h3:st (f i).old=0):Inv n (upd f i { pc:=.le }) { s with mu:=(f i).nw }:=by
 have hL:=hI.loc i hi;simp only[Loc,h]at hL;obtain⟨l1,l2,l3⟩:=hL;refine kq hI hi (by simp[Loc]) (fun H A K W U R C H' A' K' W' U' R' C' l k z w b0 b1 b2 b3 b4 b5 q e1 e2 e3 e4 e5 e6 e7 g1 g2 g3 g4 g5 g6 g7 g8=>?_) sQ (fun _ _ _ _ _ _ _ q c1 c2 c3 c4 c5 c6=>by have hv:=zab (x:=newOf (f i).old (f i).aw (f i).sv) (by have:=kY (f i).old;split <;> omega) (by have:=kY (f i).old;split <;> omega) (by have:=kY (f i).old;split <;> omega) (uh (f i).aw (f i).sv rfl rfl rfl rfl);rw[h1]at c3;simp only[l3];rw[hv.2.2.2];split <;> omega);clear hI hi;simp only[hl,wa,kl,kw,ku,ua,ka,h,mU,if_false]at e1 e2 e3 e4 e5 e6 e7 g1 g2 g3 g4 g5 g6 g7;simp only[Nm]at q ⊢;rw[<- h1]at l1 l3 h2 h3;have nv:=uh (f i).aw (f i).sv b1 b2 b3 b4;have hl1:(if z=0 then 1 else l)=1:=if_pos oQ;have hz1:(if (f i).sv=tt/\l=1 then 1 else z)=0:=by rw[if_neg (fun h=>by omega)];omega
 have hw1:(if l=1\/z=1 then w+1 else w)=w:=if_neg oQ;rw[<- l3,hl1,hz1,hw1]at nv;cases ha:(f i).aw <;> (rw[ha]at nv e3 g3;simp only[if_true,mU,if_false]at nv e3 g3)
 ·exact⟨1,k,0,w,oQ,oQ,oQ⟩
 exact⟨1,0,0,w,by first|rfl|omega,oQ,oQ⟩
theorem zlK(h:(f i).pc=.c2)(h1:s.mu=(f i).old)(h2:lk (f i).old=1\/st (f i).old=1):Inv n (upd f i { (f i)with pc:=.t1 }) { s with mu:=(f i).nw }:=by
 have hL:=hI.loc i hi;simp only[Loc,h]at hL;obtain⟨l1,l2,l3⟩:=hL;refine kq hI hi (by simp[Loc]) (fun H A K W U R C H' A' K' W' U' R' C' l k z w b0 b1 b2 b3 b4 b5 q e1 e2 e3 e4 e5 e6 e7 g1 g2 g3 g4 g5 g6 g7 g8=>?_) sQ (fun _ _ _ _ _ _ _ q c1 c2 c3 c4 c5 c6=>by have hv:=zab (x:=newOf (f i).old (f i).aw (f i).sv) (by have:=kY (f i).old;split <;> omega) (by have:=kY (f i).old;split <;> omega) (by have:=kY (f i).old;split <;> omega) (uh (f i).aw (f i).sv rfl rfl rfl rfl);rw[h1]at c3;simp only[l3];rw[hv.2.2.2];split <;> omega);clear hI hi;simp only[hl,wa,kl,kw,ku,ua,ka,h,mU,if_false]at e1 e2 e3 e4 e5 e6 e7 g1 g2 g3 g4 g5 g6 g7;simp only[Nm]at q ⊢;rw[<- h1]at l1 l3 h2;have nv:=uh (f i).aw (f i).sv b1 b2 b3 b4;have hl1:(if z=0 then 1 else l)=l:=by split <;> omega
 rw[<- l3,hl1,if_pos (show l=1\/z=1 by omega)]at nv;cases ha:(f i).aw with
 | false =>
  rw[ha]at nv e3 g3 l2;simp only[if_true,mU,if_false]at nv e3 g3;have hsv:(f i).sv=ff:=by
   cases hs:(f i).sv with
   | false=>rfl
   | true=>exact absurd (l2 hs) dQ
  rw[hsv]at nv;simp only[mU,false_and,if_false]at nv;exact⟨l,k,z,w+1,oQ,oQ,oQ⟩
 | true =>
 rw[ha]at nv e3 g3 l1;simp only[if_true]at nv e3 g3;have l1:=l1 rfl;have hz:z=0:=by omega
 have hl2:l=1:=by omega
 cases hs:(f i).sv <;> (rw[hs,hl2,hz]at nv;simp only[true_and,mU,false_and,if_false,if_true,and_self]at nv)
 ·exact⟨1,0,0,w+1,oQ,oQ,oQ⟩
 exact⟨1,0,1,w+1,by first|rfl|omega,oQ,oQ⟩
theorem zlJ(h:(f i).pc=.c2)(h1:s.mu=(f i).old)(h2:lk (f i).old=1\/st (f i).old=1):Inv n (upd f i { (f i)with pc:=.s1 }) { s with mu:=(f i).nw }:=by
 have hL:=hI.loc i hi;simp only[Loc,h]at hL;obtain⟨l1,l2,l3⟩:=hL;refine kq hI hi (by simp[Loc]) (fun H A K W U R C H' A' K' W' U' R' C' l k z w b0 b1 b2 b3 b4 b5 q e1 e2 e3 e4 e5 e6 e7 g1 g2 g3 g4 g5 g6 g7 g8=>?_) sQ (fun _ _ _ _ _ _ _ q c1 c2 c3 c4 c5 c6=>by have hv:=zab (x:=newOf (f i).old (f i).aw (f i).sv) (by have:=kY (f i).old;split <;> omega) (by have:=kY (f i).old;split <;> omega) (by have:=kY (f i).old;split <;> omega) (uh (f i).aw (f i).sv rfl rfl rfl rfl);rw[h1]at c3;simp only[l3];rw[hv.2.2.2];split <;> omega);clear hI hi;simp only[hl,wa,kl,kw,ku,ua,ka,h,mU,if_false]at e1 e2 e3 e4 e5 e6 e7 g1 g2 g3 g4 g5 g6 g7;simp only[Nm]at q ⊢;rw[<- h1]at l1 l3 h2;have nv:=uh (f i).aw (f i).sv b1 b2 b3 b4;have hl1:(if z=0 then 1 else l)=l:=by split <;> omega
 rw[<- l3,hl1,if_pos (show l=1\/z=1 by omega)]at nv;cases ha:(f i).aw with
 | false =>
  rw[ha]at nv e3 g3 l2;simp only[if_true,mU,if_false]at nv e3 g3;have hsv:(f i).sv=ff:=by
   cases hs:(f i).sv with
   | false=>rfl
   | true=>exact absurd (l2 hs) dQ
  rw[hsv]at nv;simp only[mU,false_and,if_false]at nv;exact⟨l,k,z,w+1,oQ,oQ,oQ⟩
 | true =>
 rw[ha]at nv e3 g3 l1;simp only[if_true]at nv e3 g3;have l1:=l1 rfl;have hz:z=0:=by omega
 have hl2:l=1:=by omega
 cases hs:(f i).sv <;> (rw[hs,hl2,hz]at nv;simp only[true_and,mU,false_and,if_false,if_true,and_self]at nv)
 ·exact⟨1,0,0,w+1,oQ,oQ,oQ⟩
 exact⟨1,0,1,w+1,by first|rfl|omega,oQ,oQ⟩
theorem zoI(h:(f i).pc=.c2)  : Inv n (upd f i { (f i)with pc:=.r3 }) s:=by
 have hL:=hI.loc i hi;simp only[Loc,h]at hL;exact yD hI hi (by simp only[Loc];exact hL.2.1)
theorem mv_t1(h:(f i).pc=.t1)  : Inv n (upd f i { (f i)with pc:=.s1 }) s:=yD hI hi (by simp[Loc])
theorem mv_s1(h:(f i).pc=.s1)(h1:s.ms≠0):Inv n (upd f i { (f i)with pc:=.t2 }) { s with ms:=s.ms - 1 }:=yD hI hi (by simp[Loc])
theorem zoU(h:(f i).pc=.s1)(h1:s.ms≠0):Inv n (upd f i { (f i)with pc:=.r2 }) { s with ms:=s.ms - 1 }:=yD hI hi (by simp[Loc])
theorem mv_t2(h:(f i).pc=.t2){b:Bool}:Inv n (upd f i { (f i)with pc:=.r2,sv:=b }) s:=yD hI hi (by simp[Loc])
theorem znq(h:(f i).pc=.r2)(h1:st s.mu=0)(hc:lk s.mu=1/\st s.mu=0):Inv n (upd f i { (f i)with old:=s.mu,aw:=tt,it:=0,pc:=.sq }) s:=by
 have hw:wk s.mu=1:=by
  have g3:=S_get (p:=kw) (f:=f) hi;have q:=hI.nm;simp only[kw,h]at g3;simp only[Nm]at q;omega
 refine kq hI hi (by simp only[Loc];exact⟨hc.1,hc.2,fun _=>hw,fun _=>trivial⟩) (fun H A K W U R C H' A' K' W' U' R' C' l k z w b0 b1 b2 b3 b4 b5 q e1 e2 e3 e4 e5 e6 e7 g1 g2 g3 g4 g5 g6 g7 g8=>?_) sQ (fun _ _ _ _ _ _ _ q c1 c2 c3 c4 c5 c6=>c3);clear hI hi;simp only[hl,wa,kl,kw,ku,ua,ka,h,mU,if_false,if_true]at e1 e2 e3 e4 e5 e6 e7 g1 g2 g3 g4 g5 g6 g7;simp only[Nm]at q ⊢;exact⟨l,k,z,w,by first|rfl|omega,oQ,oQ⟩
theorem znr(h:(f i).pc=.r2)(h1:st s.mu=0):Inv n (upd f i { (f i)with old:=s.mu,aw:=tt,it:=0,pc:=.c2,nw:=newOf s.mu tt (f i).sv }) s:=by
 have hw:wk s.mu=1:=by
  have g3:=S_get (p:=kw) (f:=f) hi;have q:=hI.nm;simp only[kw,h]at g3;simp only[Nm]at q;omega
 refine kq hI hi (by simp only[Loc];exact⟨fun _=>hw,fun _=>trivial,trivial⟩) (fun H A K W U R C H' A' K' W' U' R' C' l k z w b0 b1 b2 b3 b4 b5 q e1 e2 e3 e4 e5 e6 e7 g1 g2 g3 g4 g5 g6 g7 g8=>?_) sQ (fun _ _ _ _ _ _ _ q c1 c2 c3 c4 c5 c6=>c3);clear hI hi;simp only[hl,wa,kl,kw,ku,ua,ka,h,mU,if_false,if_true]at e1 e2 e3 e4 e5 e6 e7 g1 g2 g3 g4 g5 g6 g7;simp only[Nm]at q ⊢;exact⟨l,k,z,w,by first|rfl|omega,oQ,oQ⟩
theorem zoR(h:(f i).pc=.r2)(h1:st s.mu=1):Inv n (upd f i { (f i)with pc:=.a1,nw:=if (f i).sv=ff\/wt s.mu=1 then 1 else 0 }) s:=by
 refine kq hI hi (by simp only[Loc];split <;> omega) (fun H A K W U R C H' A' K' W' U' R' C' l k z w b0 b1 b2 b3 b4 b5 q e1 e2 e3 e4 e5 e6 e7 g1 g2 g3 g4 g5 g6 g7 g8=>?_) (fun _ hz=>by
  have hk:=hI.stv h1;simp only at hz;split at hz
  ·cases hz
  ·rename_i hn;simp only[not_or]at hn;omega) (fun _ _ _ _ _ _ _ q c1 c2 c3 c4 c5 c6=>c3)
 clear hI hi;simp only[hl,wa,kl,kw,ku,ua,ka,h,mU,if_false]at e1 e2 e3 e4 e5 e6 e7 g1 g2 g3 g4 g5 g6 g7;simp only[Nm]at q ⊢;exact⟨l,k,z,w,by first|rfl|omega,oQ,oQ⟩
theorem mv_a1(h:(f i).pc=.a1)  : Inv n (upd f i { pc:=.le }) { s with mu:=s.mu+1 - 8 - 4*(f i).nw }:=by
 have hL:=hI.loc i hi;simp only[Loc,h]at hL;have hw:=hI.a1w i hi h;refine kq hI hi (by simp[Loc]) (fun H A K W U R C H' A' K' W' U' R' C' l k z w b0 b1 b2 b3 b4 b5 q e1 e2 e3 e4 e5 e6 e7 g1 g2 g3 g4 g5 g6 g7 g8=>?_) sQ (fun _ _ _ _ _ _ _ q c1 c2 c3 c4 c5 c6=>by simp only[Nm]at q;simp only[kw,h]at c2;omega);clear hI hi;simp only[hl,wa,kl,kw,ku,ua,ka,h,mU,if_false]at e1 e2 e3 e4 e5 e6 e7 g1 g2 g3 g4 g5 g6 g7;simp only[Nm]at q ⊢;rcases(show(f i).nw=0\/(f i).nw=1 by omega)with hn|hn
 ·have hw:=hw hn;rw[hn];exact⟨1,k,1,w - 1,oQ,oQ,oQ⟩
 rw[hn];exact⟨1,k,0,w - 1,by first|rfl|omega,oQ,oQ⟩
theorem mv_le(h:(f i).pc=.le)  : Inv n (upd f i { pc:=.la }) s:=yD hI hi (by simp[Loc])
theorem mv_la(h:(f i).pc=.la)  : Inv n (upd f i { pc:=.ur }) s:=yD hI hi (by simp[Loc])
theorem mv_ur(h:(f i).pc=.ur)  : Inv n (upd f i { pc:=.ud }) s:=yD hI hi (by simp[Loc])
theorem mv_ud(h:(f i).pc=.ud)  : Inv n (upd f i { pc:=.u0 }) s:=yD hI hi (by simp[Loc])
theorem mv_ue(h:(f i).pc=.ue)  : Inv n (upd f i { pc:=.wr }) s:=yD hI hi (by simp[Loc])
theorem mv_wr(h:(f i).pc=.wr)  : Inv n (upd f i { pc:=.wk }) s:=yD hI hi (by simp[Loc])
theorem mv_wk(h:(f i).pc=.wk)  : Inv n (upd f i { pc:=.d1 }) s:=yD hI hi (by simp[Loc])
theorem mv_d2(h:(f i).pc=.d2)  : Inv n (upd f i { pc:=.d3 }) s:=yD hI hi (by simp[Loc])
theorem mv_d3(h:(f i).pc=.d3)  : Inv n (upd f i { pc:=.d4 }) s:=yD hI hi (by simp[Loc])
theorem mv_d4(h:(f i).pc=.d4)  : Inv n (upd f i { pc:=.quit }) s:=yD hI hi (by simp[Loc])
theorem zno(h:(f i).pc=.d1)  : Inv n (upd f i { pc:=.d2 }) s:=yD hI hi (by simp[Loc])
theorem zjH(h:(f i).pc=.d1)  : Inv n (upd f i { pc:=.quit }) s:=yD hI hi (by simp[Loc])
theorem zoZ(h:(f i).pc=.u0)(h1:s.mu=1):Inv n (upd f i { pc:=.ue }) { s with mu:=0 }:=by
 refine kq hI hi (by simp[Loc]) (fun H A K W U R C H' A' K' W' U' R' C' l k z w b0 b1 b2 b3 b4 b5 q e1 e2 e3 e4 e5 e6 e7 g1 g2 g3 g4 g5 g6 g7 g8=>?_) sQ (fun _ _ _ _ _ _ _ q c1 c2 c3 c4 c5 c6=>by simp only[h1]at c3;simp[wt]at c3);clear hI hi;simp only[hl,wa,kl,kw,ku,ua,ka,h,mU,if_false]at e1 e2 e3 e4 e5 e6 e7 g1 g2 g3 g4 g5 g6 g7;simp only[Nm]at q ⊢;exact⟨0,0,0,0,by first|rfl|omega,oQ,oQ⟩
theorem zoY(h:(f i).pc=.u0)(h1:s.mu≠1)(h2:st s.mu=1):Inv n (upd f i { pc:=.us }) { s with mu:=s.mu - 1 }:=by
 refine kq hI hi (by simp[Loc]) (fun H A K W U R C H' A' K' W' U' R' C' l k z w b0 b1 b2 b3 b4 b5 q e1 e2 e3 e4 e5 e6 e7 g1 g2 g3 g4 g5 g6 g7 g8=>?_) sQ (fun _ _ _ _ _ _ _ q c1 c2 c3 c4 c5 c6=>by have:=q.2.2.1;simp only[hl,h]at c6;simp only[lk,wk,st,wt]at *;omega);clear hI hi;simp only[hl,wa,kl,kw,ku,ua,ka,h,mU,if_false]at e1 e2 e3 e4 e5 e6 e7 g1 g2 g3 g4 g5 g6 g7;simp only[Nm]at q ⊢;exact⟨0,k,z,w,by first|rfl|omega,oQ,oQ⟩
theorem zns(h:(f i).pc=.u0)(h1:s.mu≠1)(h2:st s.mu=0)(hc:wt (s.mu - 1)=0\/(s.mu - 1) % 8≠0):Inv n (upd f i { pc:=.ue }) { s with mu:=s.mu - 1 }:=by
 refine kq hI hi (by simp[Loc]) (fun H A K W U R C H' A' K' W' U' R' C' l k z w b0 b1 b2 b3 b4 b5 q e1 e2 e3 e4 e5 e6 e7 g1 g2 g3 g4 g5 g6 g7 g8=>?_) sQ (fun _ _ _ _ _ _ _ q c1 c2 c3 c4 c5 c6=>by have:=q.2.2.1;simp only[hl,h]at c6;simp only[lk,wk,st,wt]at *;omega);clear hI hi;simp only[hl,wa,kl,kw,ku,ua,ka,h,mU,if_false]at e1 e2 e3 e4 e5 e6 e7 g1 g2 g3 g4 g5 g6 g7;simp only[Nm]at q ⊢;have c1:=zab (x:=s.mu - 1) (l:=0) (k:=k) (z:=z) (w:=w) oQ oQ oQ oQ;exact⟨0,k,z,w,by first|rfl|omega,oQ,oQ⟩
theorem znt(h:(f i).pc=.u0)(h1:s.mu≠1)(h2:st s.mu=0)(hc:¬ (wt (s.mu - 1)=0\/(s.mu - 1) % 8≠0)):Inv n (upd f i { pc:=.uc,old:=s.mu - 1,nw:=s.mu - 1 - 8+2 }) { s with mu:=s.mu - 1 }:=by
 refine kq hI hi (by simp only[Loc];simp only[not_or,Decidable.not_not]at hc;exact⟨by omega,hc.2,trivial⟩) (fun H A K W U R C H' A' K' W' U' R' C' l k z w b0 b1 b2 b3 b4 b5 q e1 e2 e3 e4 e5 e6 e7 g1 g2 g3 g4 g5 g6 g7 g8=>?_) sQ (fun _ _ _ _ _ _ _ q c1 c2 c3 c4 c5 c6=>by have:=q.2.2.1;simp only[hl,h]at c6;simp only[lk,wk,st,wt]at *;omega);clear hI hi;simp only[hl,wa,kl,kw,ku,ua,ka,h,mU,if_false]at e1 e2 e3 e4 e5 e6 e7 g1 g2 g3 g4 g5 g6 g7;simp only[Nm]at q ⊢;exact⟨0,k,z,w,by first|rfl|omega,oQ,oQ⟩
theorem zo0(h:(f i).pc=.uc)(h1:s.mu=(f i).old):Inv n (upd f i { pc:=.us }) { s with mu:=(f i).nw }:=by
 have hL:=hI.loc i hi;simp only[Loc,h]at hL;obtain⟨l1,l2,l3⟩:=hL;rw[<- h1]at l1 l2 l3;refine kq hI hi (by simp[Loc]) (fun H A K W U R C H' A' K' W' U' R' C' l k z w b0 b1 b2 b3 b4 b5 q e1 e2 e3 e4 e5 e6 e7 g1 g2 g3 g4 g5 g6 g7 g8=>?_) sQ (fun _ _ _ _ _ _ _ q c1 c2 c3 c4 c5 c6=>by simp only[Nm]at q;simp only[lk,wk,st,wt]at *;omega);clear hI hi;simp only[hl,wa,kl,kw,ku,ua,ka,h,mU,if_false]at e1 e2 e3 e4 e5 e6 e7 g1 g2 g3 g4 g5 g6 g7;simp only[Nm]at q ⊢;exact⟨0,1,0,w - 1,by first|rfl|omega,oQ,oQ⟩
theorem zo1(h:(f i).pc=.uc)  : Inv n (upd f i { pc:=.ux }) s:=yD hI hi (by simp[Loc])
theorem zo2(h:(f i).pc=.ux)(hc:wt s.mu=0\/s.mu % 8≠0):Inv n (upd f i { pc:=.ue }) s:=yD hI hi (by simp[Loc])
theorem zo3(h:(f i).pc=.ux)(hc:¬ (wt s.mu=0\/s.mu % 8≠0)):Inv n (upd f i { pc:=.uc,old:=s.mu,nw:=s.mu - 8+2 }) s:=yD hI hi (by simp only[Loc];simp only[not_or,Decidable.not_not]at hc;exact⟨by omega,hc.2,trivial⟩)
theorem mv_us(h:(f i).pc=.us)  : Inv n (upd f i { pc:=.ue }) { s with ms:=s.ms+1 }:=yD hI hi (by simp[Loc])
end
theorem Inv.move{n:Nat}{f:Nat->Th}{s s':Sh}{i:Nat}{T':Th}(hI:Inv n f s)(hi:i<n)(hm:Mv (f i) s T' s'):Inv n (upd f i T') s':=by
 cases hm with
 | ld h=>exact mv_ld hI hi h
 | l0h h h1=>exact zoK hI hi h h1
 | l0m h h1=>exact zoL hI hi h
 | r0 h=>unfold hd;split;(rename_i hc;exact zoN hI hi h hc);(rename_i hc;exact zoO hI hi h hc)
 | sqn h=>exact zoW hI hi h
 | sqc h h0 h1 h2 h3=>exact zoV hI hi h h0 h1 h2 h3
 | sqr h h0 h1=>exact zoX hI hi h h0
 | c1h h h1=>exact zoG hI hi h h1
 | c1m h h1=>exact zoH hI hi h
 | r1 h=>unfold hd;split;(rename_i hc;exact zoP hI hi h hc);(rename_i hc;exact zoQ hI hi h hc)
 | c2t h h1 h2 h3=>exact zoJ hI hi h h1 h2 h3
 | c2r p hp h h1 h2=>rcases hp with rfl|rfl;(exact zlK hI hi h h1 h2);(exact zlJ hI hi h h1 h2)
 | c2m h h1=>exact zoI hI hi h
 | t1 h=>exact mv_t1 hI hi h
 | s1 h h1=>exact mv_s1 hI hi h h1
 | s1s h h1 h2=>exact zoU hI hi h h1
 | t2 b h=>exact mv_t2 hI hi h
 | r2n h h1=>unfold hd;split;(rename_i hc;exact znq hI hi h h1 hc);(exact znr hI hi h h1)
 | r2s h h1=>exact zoR hI hi h h1
 | a1 h=>exact mv_a1 hI hi h
 | r3 h=>unfold hd;split;(rename_i hc;exact zoS hI hi h hc);(rename_i hc;exact zoT hI hi h hc)
 | le h=>exact mv_le hI hi h
 | la h=>exact mv_la hI hi h
 | ur h=>exact mv_ur hI hi h
 | ud h=>exact mv_ud hI hi h
 | u0z h h1=>exact zoZ hI hi h h1
 | u0s h h1 h2=>exact zoY hI hi h h1 h2
 | u0n h h1 h2=>unfold hdU;split;(rename_i hc;exact zns hI hi h h1 h2 hc);(rename_i hc;exact znt hI hi h h1 h2 hc)
 | uch h h1=>exact zo0 hI hi h h1
 | ucm h h1=>exact zo1 hI hi h
 | ux h=>unfold hdU;split;(rename_i hc;exact zo2 hI hi h hc);(rename_i hc;exact zo3 hI hi h hc)
 | us h=>exact mv_us hI hi h
 | ue h=>exact mv_ue hI hi h
 | wr h=>exact mv_wr hI hi h
 | wk h=>exact mv_wk hI hi h
 | d1 p hp h=>rcases hp with rfl|rfl;(exact zno hI hi h);(exact zjH hI hi h)
 | d2 h=>exact mv_d2 hI hi h
 | d3 h=>exact mv_d3 hI hi h
 | d4 h=>exact mv_d4 hI hi h
end Go.Vel.Mx
namespace Go.Vel.Mx
def wn(T:Th):Nat:=match T.pc with
 | .ld|.l0|.r0=>4
 | .sq|.c1|.r1|.c2|.r3=>if T.aw then 3 else 4
 | .t2|.r2|.a1=>3
 | .t1|.s1|.le|.la|.ur|.ud|.u0=>2
 | .uc|.ux=>1
 | _=>0
def rln(T:Th):Nat:=match T.pc with
 | .ue|.wr|.wk|.d1|.d2|.d3|.d4|.quit=>0
 | _=>1
def lcn(T:Th):Nat:=match T.pc with
 | .ld=>200|.l0=>199|.r0=>198|.t1=>190|.s1=>189|.t2=>188|.r2=>187|.a1=>186|.r3=>160
 | .sq=>105+10*(4 - T.it)|.c1=>104+10*(4 - T.it)|.r1=>103+10*(4 - T.it)|.c2=>50
 | .le=>40|.la=>39|.ur=>38|.ud=>37|.u0=>36|.ux=>31|.uc=>30|.us=>20|.ue=>19|.wr=>18|.wk=>17|.d1=>16|.d2=>15|.d3=>14|.d4=>13|.quit=>0
def cnt(T:Th):Nat:=match T.pc with
 | .d2|.d3|.d4|.quit=>0
 | _=>1
def stl(mu:Nat)(T:Th):Nat:=match T.pc with
 | .sq|.c2|.uc=>if T.old=mu then 0 else 1
 | _=>0
def pn(T:Th):Nat:=5200*(wn T+2*rln T)+lcn T+200*cnt T
def Fm(j:Nat)(g:Nat->Th)(s:Sh):Nat:=S pn g j+10400*s.ms+150*S (stl s.mu) g j
theorem zpu(mu:Nat)(T:Th):stl mu T<=1:=by unfold stl;split <;> first|omega|(split <;> omega)
section
variable {j i:Nat}{g:Nat->Th}{T':Th}{mu mu' ms ms':Nat}
theorem zhc(hi:i<j)(k:Nat)(h:pn T'+10400*ms'+150*stl mu T'+k<pn (g i)+10400*ms+150*stl mu (g i)):Fm j (upd g i T') ⟨mu,ms'⟩+k<Fm j g ⟨mu,ms⟩:=by
 have e1:=S_upd (p:=pn) (f:=g) (T:=T') hi;have e2:=S_upd (p:=stl mu) (f:=g) (T:=T') hi;simp only[Fm];omega
theorem zld(hj:j<=31)(hi:i<j)(h:pn T'+10400*ms'+4650<pn (g i)+10400*ms):Fm j (upd g i T') ⟨mu',ms'⟩<Fm j g ⟨mu,ms⟩:=by
 have e1:=S_upd (p:=pn) (f:=g) (T:=T') hi;have e2:=S_one (f:=upd g i T') (zpu mu') j;simp only[Fm];omega
theorem zhb{s s':Sh}(hj:j<=31)(hi:i<j)(hI:Inv j g s)(hm:Mv (g i) s T' s'):Fm j (upd g i T') s'<Fm j g s:=by
 obtain⟨mu,ms⟩:=s;have hL:=hI.loc i hi;have same:∀{T2:Th}{ms':Nat},pn T2+10400*ms'+150*stl mu T2<pn (g i)+10400*ms+150*stl mu (g i)->Fm j (upd g i T2) ⟨mu,ms'⟩<Fm j g ⟨mu,ms⟩:=fun h=>zhc hi 0 h;have write:∀{T2:Th}{mu' ms':Nat},pn T2+10400*ms'+4650<pn (g i)+10400*ms->Fm j (upd g i T2) ⟨mu',ms'⟩<Fm j g ⟨mu,ms⟩:=fun h=>zld hj hi h;cases hm with
 | l0h h h1|c2t h h1 h2 h3|a1 h|u0z h h1|u0s h h1 h2|uch h h1=>exact write (by simp only[pn,wn,rln,lcn,cnt,h];(try split) <;> omega)
 | c1h h h1=>simp only[Loc,h]at hL;exact write (by simp only[pn,wn,rln,lcn,cnt,h,hL.2.2.1,if_true,mU,if_false];omega)
 | c2r p hp h h1 h2=>rcases hp with rfl|rfl <;> exact write (by simp only[pn,wn,rln,lcn,cnt,h];(try split) <;> omega)
 | u0n h h1 h2=>unfold hdU;split <;> exact write (by simp only[pn,wn,rln,lcn,cnt,h];omega)
 | ld h|l0m h h1|le h|la h|ur h|ud h|ue h|wr h|wk h|d2 h|d3 h|d4 h|t1 h=>exact same (by simp only[pn,wn,rln,lcn,cnt,stl,h];omega)
 | d1 p hp h=>rcases hp with rfl|rfl <;> exact same (by simp only[pn,wn,rln,lcn,cnt,stl,h];omega)
 | t2 b h=>exact same (by simp only[pn,wn,rln,lcn,cnt,stl,h];omega)
 | s1 h h1=>exact same (by simp only[pn,wn,rln,lcn,cnt,stl,h]at h1 ⊢;omega)
 | s1s h h1 h2=>exact same (by simp only[pn,wn,rln,lcn,cnt,stl,h]at h1 ⊢;omega)
 | us h=>exact same (by simp only[pn,wn,rln,lcn,cnt,stl,h];omega)
 | r0 h=>unfold hd;split <;> exact same (by simp only[pn,wn,rln,lcn,cnt,stl,h];simp)
 | r1 h=>simp only[Loc,h]at hL;unfold hd;split <;> exact same (by simp only[pn,wn,rln,lcn,cnt,stl,h,if_true];omega)
 | r3 h=>unfold hd;split <;> exact same (by simp only[pn,wn,rln,lcn,cnt,stl,h,if_true];omega)
 | r2n h h1=>unfold hd;split <;> exact same (by simp only[pn,wn,rln,lcn,cnt,stl,h,if_true];omega)
 | r2s h h1=>exact same (by simp only[pn,wn,rln,lcn,cnt,stl,h];omega)
 | sqn h=>exact same (by simp only[pn,wn,rln,lcn,cnt,stl,h];omega)
 | sqc h h0 h1 h2 h3=>exact same (by simp only[pn,wn,rln,lcn,cnt,stl,h];omega)
 | sqr h h0 h1=>exact same (by simp only[pn,wn,rln,lcn,cnt,stl,h];omega)
 | c1m h h1=>exact same (by simp only[pn,wn,rln,lcn,cnt,stl,h];omega)
 | c2m h h1=>exact same (by simp only[pn,wn,rln,lcn,cnt,stl,h,if_neg (Ne.symm h1)];omega)
 | ucm h h1=>exact same (by simp only[pn,wn,rln,lcn,cnt,stl,h,if_neg (Ne.symm h1)];omega)
 | ux h=>unfold hdU;split <;> exact same (by simp only[pn,wn,rln,lcn,cnt,stl,h,if_true];omega)
end
end Go.Vel.Mx
namespace Go.Vel
open Go Go.Conc
def Rel(t:Trace)(a:Addr)(idx:Nat):Prop:=∃ p,t.act? p=some (.mark (.releaseMerge a))/\t.heard p/\Before t idx p
theorem Rel.app{t:Trace}{a:Addr}{idx:Nat}(u:Trace)(h:Rel t a idx):Rel (t++u) a idx:=by
 obtain⟨p,h1,h2,h3⟩:=h;have hp:=lt_of_act? h1;exact⟨p,by rw[act?_old hp];exact h1,(heard_old hp).2 h2,h3.app u⟩
def Hp.join(H K:Hp):Hp:=fun b=>(H b).or (K b)
def Hp.Sub(H' H:Hp):Prop:=∀ b rw o,H' b=some (rw,o)->∃ rw',H b=some (rw',o)/\(rw=tt->rw'=tt)
def Hp.Dis(H K:Hp):Prop:=(∀ b o,H b=some (tt,o)->K b=none)/\(∀ b o,K b=some (tt,o)->H b=none)
structure TI(Sb:Nat->Prop)(aM aW:Addr)(t:Trace)(n:Nat)(hp:Nat->Hp)(act live:Nat->Prop)(L:Option Hp):Prop where
 clean:∀ said,¬ Race said t
 low:∀ op∈t,op.act.low n
 quiet:∀ idx a,touchAt t idx=some a->a.loc.isMemory=tt->Sb (blk a.loc)->(a.kind≠.plain/\(a.kind=.said->t.g? idx=some 0))\/∀ h,live h->Knows t h idx
 fin:∀ idx a,touchAt t idx=some a->a.loc.isMemory=tt->Knows t 0 idx\/(∃ i,t.g? idx=some i/\act i)\/Rel t aW idx\/(a.kind=.atomic/\¬ t.heard idx/\Sb (blk a.loc))
 hk:∀ h,act h->∀ idx a,touchAt t idx=some a->a.loc.isMemory=tt->∀ rw o,hp h (blk a.loc)=some (rw,o)->(rw=tt\/a.write=tt)->Knows t h idx
 lk:∀ K,L=some K->∀ idx a,touchAt t idx=some a->a.loc.isMemory=tt->∀ rw o,K (blk a.loc)=some (rw,o)->(rw=tt\/a.write=tt)->(∀ h,act h->Knows t h idx)\/Rel t aM idx
 disj:∀ h k b o,act h->act k->h≠k->hp h b=some (tt,o)->hp k b=none
 dl:∀ K,L=some K->∀ h,act h->(hp h).Dis K
 norel:∀ k a,t.act? k≠some (.mark (.release a))
 sb:∀ h,act h->∀ b x,hp h b=some x->¬ Sb b
 sbL:∀ K,L=some K->∀ b x,K b=some x->¬ Sb b
 sbn:∀ b,Sb b->b<n
 al:∀ h,act h->live h
section
variable {Sb:Nat->Prop}{aM aW:Addr}{t u:Trace}{n n':Nat}{hp hp':Nat->Hp}{act live:Nat->Prop}{L:Option Hp}
theorem zdv{idx i:Nat}(h:t.g? idx=some i):Knows t i idx:=by
 obtain⟨z,hz,rfl⟩:=mY.1 h;exact knows_own hz
theorem zbk{z:MemOp}(hn:z.act.touch? =none):∀ op∈(#[z]:Array MemOp),op.act.touch? =none:=fun op Qw=>by
 have e:op=z:=by simpa using Qw
 rw[e];exact hn
theorem TI.app(h:TI Sb aM aW t n hp act live L){i:Nat}(hi:∀ op∈u,∀ b,op.act.touch? =some b->live i)(hn:n<=n')
  (hoth:∀ k,k≠i->hp' k=hp k)
  (hback:act i->∀ b rw o,hp' i b=some (rw,o)->(∃ o',hp i b=some (rw,o'))\/n<=b)
  (hdom:∀ k,act k->∀ b x,hp k b=some x->b<n) (hdomL:∀ K,L=some K->∀ b x,K b=some x->b<n)
  (hu:∀ op∈u,op.g=i) (hl:∀ op∈u,op.act.low n') (hnr:∀ op∈u,∀ a,op.act≠.mark (.release a))
  (ht:∀ q op,u[q]? =some op->∀ b,op.act.touch? =some b->b.loc.isMemory=tt->(¬ Sb (blk b.loc)/\act i/\(hp' i).lets (blk b.loc) b.write)\/(Sb (blk b.loc)/\b.kind≠.plain/\(b.kind=.said->i=0)/\(act i\/(b.kind=.atomic/\¬ (t++u).heard (t.size+q))))) :
  TI Sb aM aW (t++u) n' hp' act live L:=by
 have ht':∀ op∈u,∀ b,op.act.touch? =some b->b.loc.isMemory=tt->(¬ Sb (blk b.loc)/\act i/\(hp' i).lets (blk b.loc) b.write)\/(Sb (blk b.loc)/\b.kind≠.plain/\(b.kind=.said->i=0)):=fun op Qw b hb hm=>by
  obtain⟨q,hq,rfl⟩:=Array.mem_iff_getElem.1 Qw;rcases ht q _ (mD hq) b hb hm with hx|⟨h1,h2,h3,_⟩
  ·exact .inl hx
  ·exact .inr ⟨h1,h2,h3⟩
 have hconf:∀ said idx a,touchAt t idx=some a->∀ op∈u,∀ b,op.act.touch? =some b->a.conflicts said b->Knows t i idx:=by
  intro said idx a ha op Qw b hb hc;obtain⟨hloc,hm,hw,hk⟩:=hc;rcases ht' op Qw b hb (by rw[<- hloc];exact hm)with⟨_,hact,rw',o,hrw,himp⟩|⟨hs,hnp,hsd⟩
  ·rw[<- hloc]at hrw;rcases hback hact _ _ _ hrw with⟨o',hold⟩|hge
   ·refine h.hk i hact idx a ha hm rw' o' hold ?_;rcases hw with hw|hw
    ·exact .inr hw
    ·exact .inl (himp hw)
   ·have:=vD h.low ha hm;omega
  ·rcases h.quiet idx a ha hm (by rw[hloc];exact hs)with⟨hka,hsa⟩|hall
   ·rcases hk with hk|hk|⟨_,hk1,hk2⟩
    ·exact absurd hk hka
    ·exact absurd hk hnp
    ·have:=zdv (hsa hk1);rw[hsd hk2];exact this
   ·exact hall i (hi op Qw b hb)
 have hcases:∀ idx a,touchAt (t++u) idx=some a->(touchAt t idx=some a/\idx<t.size)\/∃ q op,idx=t.size+q/\u[q]? =some op/\op.act.touch? =some a/\(t++u)[idx]? =some op:=fun idx a ha=>by
  obtain⟨x,hx,hxa⟩:=touch_of ha;rcases mR idx t.size with Qp|hge
  ·left;rw[getElem?_append_old Qp]at hx;exact⟨by rw[touchAt_of hx];exact hxa,Qp⟩
  ·right;refine⟨idx - t.size,x,oQ,?_,hxa,hx⟩;rw[Array.getElem?_append_right hge]at hx;exact hx
 have hnew:∀(q:Nat)(op:MemOp)(b:Touch),u[q]? =some op->op.act.touch? =some b->b.loc.isMemory=tt->∀(K:Hp),(∀ c x,K c=some x->c<n)->(∀ c x,K c=some x->¬ Sb c)->(act i->(hp i).Dis K)->∀ rw o,K (blk b.loc)=some (rw,o)->(rw=tt\/b.write=tt)->False:=by
  intro q op b hq hb hm K hKn hKs hD rw o hK hor;rcases ht' op (mH hq) b hb hm with⟨_,hact,rw',o',hrw,himp⟩|⟨hs,_⟩
  ·rcases hback hact _ _ _ hrw with⟨o'',hold⟩|hge
   ·rcases hor with rfl|hw
    ·rw[(hD hact).2 _ _ hK]at hold;cases hold
    ·have:=himp hw;subst this;rw[(hD hact).1 _ _ hold]at hK;cases hK
   ·have:=hKn _ _ hK;omega
  ·exact hKs _ _ hK hs
 refine⟨fun said=>noRace_append (h.clean said) hu fun idx a ha op Qw b hb hc=>hconf said idx a ha op Qw b hb hc,seen_app (fun op Qw=>MemAct.low_mono hn (h.low op Qw)) hl,fun idx a ha hm hs=>?_,fun idx a ha hm=>?_,fun k hk idx a ha hm rw o hb hor=>?_,fun K hK idx a ha hm rw o hb hor=>?_,fun k l b o hk hl' hne hb=>?_,fun K hK k hk=>?_,fun k=>?_,fun k hk b x hb=>?_,h.sbL,fun b hb=>mM (h.sbn b hb) hn,h.al⟩
 ·rcases hcases idx a ha with⟨ha',Qp⟩|⟨q,op,rfl,hq,hqa,hx⟩
  ·rcases h.quiet idx a ha' hm hs with⟨h1,h2⟩|h1
   ·exact .inl ⟨h1,fun e=>by rw[g?_old Qp];exact h2 e⟩
   ·exact .inr fun k hk=>(h1 k hk).app u
  ·left;rcases ht' op (mH hq) a hqa hm with⟨hns,_⟩|⟨_,h1,h2⟩
   ·exact absurd hs hns
   ·refine⟨h1,fun e=>?_⟩;unfold Trace.g?;rw[hx,Option.map_some,hu op (mH hq),h2 e]
 ·rcases hcases idx a ha with⟨ha',Qp⟩|⟨q,op,rfl,hq,hqa,hx⟩
  ·rcases h.fin idx a ha' hm with h1|⟨k,h1,h2⟩|h1|⟨h1,h2,h3⟩
   ·exact .inl (h1.app u)
   ·exact .inr (.inl ⟨k,by rw[g?_old Qp];exact h1,h2⟩)
   ·exact .inr (.inr (.inl (h1.app u)))
   ·exact .inr (.inr (.inr ⟨h1,fun e=>h2 ((heard_old Qp).1 e),h3⟩))
  ·have hg:(t++u).g? (t.size+q)=some i:=by
    unfold Trace.g?;rw[hx,Option.map_some,hu op (mH hq)]
   rcases ht q op hq a hqa hm with⟨_,hact,_⟩|⟨hs,_,_,hact|⟨h1,h2⟩⟩
   ·exact .inr (.inl ⟨i,hg,hact⟩)
   ·exact .inr (.inl ⟨i,hg,hact⟩)
   ·exact .inr (.inr (.inr ⟨h1,h2,hs⟩))
 ·rcases hcases idx a ha with⟨ha',Qp⟩|⟨q,op,rfl,hq,hqa,hx⟩
  ·by_cases hki:k=i
   ·subst hki;rcases hback hk _ _ _ hb with⟨o',hold⟩|hge
    ·exact(h.hk k hk idx a ha' hm rw o' hold hor).app u
    ·have:=vD h.low ha' hm;omega
   ·rw[hoth k hki]at hb;exact(h.hk k hk idx a ha' hm rw o hb hor).app u
  ·by_cases hki:k=i
   ·subst hki;have:=knows_own hx;rwa[hu op (mH hq)]at this
   ·exfalso;rw[hoth k hki]at hb;exact hnew q op a hq hqa hm (hp k) (hdom k hk) (h.sb k hk) (fun hact=>⟨fun c o' hc=>h.disj i k c o' hact hk (Ne.symm hki) hc,fun c o' hc=>h.disj k i c o' hk hact hki hc⟩) rw o hb hor
 ·rcases hcases idx a ha with⟨ha',Qp⟩|⟨q,op,rfl,hq,hqa,hx⟩
  ·rcases h.lk K hK idx a ha' hm rw o hb hor with h1|h1
   ·exact .inl fun k hk=>(h1 k hk).app u
   ·exact .inr (h1.app u)
  ·exact(hnew q op a hq hqa hm K (hdomL K hK) (h.sbL K hK) (fun hact=>h.dl K hK i hact) rw o hb hor).elim
 ·by_cases hki:k=i
  ·subst hki;rw[hoth l (Ne.symm hne)];rcases hback hk _ _ _ hb with⟨o',hold⟩|hge
   ·exact h.disj k l b _ hk hl' hne hold
   ·cases e:hp l b with
    | none=>rfl
    | some x=>have:=hdom l hl' b x e;omega
  ·rw[hoth k hki]at hb;by_cases hli:l=i
   ·subst hli;cases e:hp' l b with
    | none=>rfl
    | some x =>
     obtain⟨rw',o'⟩:=x;rcases hback hl' _ _ _ e with⟨o'',hold⟩|hge
     ·rw[h.disj k l b _ hk hl' hne hb]at hold;cases hold
     ·have:=hdom k hk b _ hb;omega
   ·rw[hoth l hli];exact h.disj k l b _ hk hl' hne hb
 ·by_cases hki:k=i
  ·subst hki;refine⟨fun b o hb=>?_,fun b o hb=>?_⟩
   ·rcases hback hk _ _ _ hb with⟨o',hold⟩|hge
    ·exact(h.dl K hK k hk).1 b _ hold
    ·cases e:K b with
     | none=>rfl
     | some x=>have:=hdomL K hK b x e;omega
   ·cases e:hp' k b with
    | none=>rfl
    | some x =>
     obtain⟨rw',o'⟩:=x;rcases hback hk _ _ _ e with⟨o'',hold⟩|hge
     ·rw[(h.dl K hK k hk).2 b _ hb]at hold;cases hold
     ·have:=hdomL K hK b _ hb;omega
  ·rw[hoth k hki];exact h.dl K hK k hk
 ·rcases mR k t.size with Qp|hge
  ·rw[act?_old Qp];exact h.norel k
  ·have e:∀ z,(t++u).act? k=some z->∃ op∈u,op.act=z:=fun z hz=>by
    obtain⟨op,ho,he⟩:=mY.1 hz;rw[Array.getElem?_append_right hge]at ho;exact⟨op,mH ho,he⟩
   intro a hz;obtain⟨op,ho,he⟩:=e _ hz;exact hnr op ho a he
 ·by_cases hki:k=i
  ·subst hki;obtain⟨rw',o'⟩:=x;rcases hback hk _ _ _ hb with⟨o'',hold⟩|hge
   ·exact h.sb k hk b _ hold
   ·exact fun hs=>by have:=h.sbn b hs;omega
  ·rw[hoth k hki]at hb;exact h.sb k hk b x hb
theorem TI.still(h:TI Sb aM aW t n hp act live L)(hdom:∀ k,act k->∀ b x,hp k b=some x->b<n)(hdomL:∀ K,L=some K->∀ b x,K b=some x->b<n){z:MemOp}(hn:z.act.touch? =none)(hl:z.act.low n)
  (hr:∀ a,z.act≠.mark (.release a)):TI Sb aM aW (t++#[z]) n hp act live L:=by
 have e:∀ op∈(#[z]:Array MemOp),op=z:=fun op Qw=>by simpa using Qw
 refine h.app (i:=z.g) (fun op Qw b hb=>by rw[e op Qw,hn]at hb;cases hb) (mL _) (fun _ _=>rfl) (fun _ b rw o hb=>.inl ⟨o,hb⟩) hdom hdomL (fun op Qw=>by rw[e op Qw]) (fun op Qw=>by rw[e op Qw];exact hl) (fun op Qw=>by rw[e op Qw];exact hr) (fun q op hq b hb=>?_);rw[e op (mH hq),hn]at hb;cases hb
theorem zg7{a:Addr}{idx:Nat}{z:MemOp}(hr:Rel t a idx)(hn:∀ k,t.act? k≠some (.mark (.release a)))(hz:z.act=.mark (.acquire a))(hd:Deaf t z.g=0):Knows (t++#[z]) z.g idx:=by
 obtain⟨p,h1,h2,h3⟩:=hr;have hp:=lt_of_act? h1;have hq:(t++#[z])[t.size]? =some z:=by simp
 have hno:∀ k,(t++#[z]).act? k≠some (.mark (.release a)):=fun k e=>by
  rcases mR k t.size with Qp|hge
  ·rw[act?_old Qp]at e;exact hn k e
  ·obtain⟨op,ho,he⟩:=mY.1 e;rw[Array.getElem?_append_right hge]at ho;have:op=z:=by simpa using mH ho
   rw[this,hz]at he;cases he
 have edge:HappensBefore (t++#[z]) p t.size:=.single (.inr ⟨.marked hp (.inr (by rw[act?_old hp];exact h1)) (by rw[act?_of hq,hz]) (fun k _ _=>hno k),(heard_old hp).2 h2,⟨z.g,by simp[Trace.g?],by rw[deaf_old (mL _)];exact hd⟩⟩);exact⟨t.size,z,hq,rfl,.inr ((h3.app #[z]).hb edge)⟩
theorem zke{a:Addr}{idx:Nat}{z:MemOp}(hk:Knows t z.g idx)(hz:z.act=.mark (.releaseMerge a))(hd:Deaf t z.g=0):Rel (t++#[z]) a idx:=by
 obtain⟨q,y,h1,h2,h3⟩:=hk;have hq:(t++#[z])[t.size]? =some z:=by simp
 have hqlt:=lt_size_of_getElem? h1;refine⟨t.size,by rw[act?_of hq,hz],⟨z.g,by simp[Trace.g?],by rw[deaf_old (mL _)];exact hd⟩,.inr ((h3.app #[z]).hb (hb_po hqlt (by rw[getElem?_append_old hqlt];exact h1) hq h2))⟩
theorem zjC{H K:Hp}{b:Nat}{x:Bool×Obj}(h:H b=some x):H.join K b=some x:=by simp[Hp.join,h]
theorem zcQ{H K:Hp}{b:Nat}(h:H b=none):H.join K b=K b:=by simp[Hp.join,h]
theorem vm{H K:Hp}{b:Nat}{x:Bool×Obj}(h:H.join K b=some x):H b=some x\/(H b=none/\K b=some x):=by
 cases e:H b with
 | none=>rw[zcQ e]at h;exact .inr ⟨rfl,h⟩
 | some y=>rw[zjC e]at h;exact .inl (by cases h;rfl)
theorem TI.acqM{K:Hp}(h:TI Sb aM aW t n hp act live (some K))(hdom:∀ k,act k->∀ b x,hp k b=some x->b<n)(hdomL:∀ b x,K b=some x->b<n){z:MemOp}(hg:act z.g)(hz:z.act=.mark (.acquire aM))(hd:Deaf t z.g=0)(hl:aM.block<n) :
  TI Sb aM aW (t++#[z]) n (fun k=>if k=z.g then(hp z.g).join K else hp k) act live none:=by
 have hn:z.act.touch? =none:=by rw[hz];rfl
 have h1:=h.still hdom (fun K' e=>by cases e;exact hdomL) hn (by rw[hz];exact hl) (by rw[hz];simp);have hold:∀ idx a,touchAt (t++#[z]) idx=some a->touchAt t idx=some a:=fun idx a ha=>(yI (u:=#[z]) (zbk hn) ha).1;refine⟨h1.clean,h1.low,h1.quiet,h1.fin,fun k hk idx a ha hm rw o hb hor=>?_,fun _ e=>(by cases e),fun k l b o hk hl' hne hb=>?_,fun _ e=>(by cases e),h1.norel,fun k hk b x hb=>?_,fun _ e=>(by cases e),h.sbn,h.al⟩
 ·by_cases e:k=z.g
  ·subst e;rw[if_pos rfl]at hb;rcases vm hb with hb|⟨_,hb⟩
   ·exact h1.hk _ hk idx a ha hm rw o hb hor
   ·rcases h.lk K rfl idx a (hold idx a ha) hm rw o hb hor with hx|hx
    ·exact(hx _ hk).app _
    ·exact zg7 hx (fun k=>h.norel k _) hz hd
  ·rw[if_neg e]at hb;exact h1.hk k hk idx a ha hm rw o hb hor
 ·by_cases e:k=z.g
  ·subst e;rw[if_pos rfl]at hb;rw[if_neg (Ne.symm hne)];rcases vm hb with hb|⟨_,hb⟩
   ·exact h.disj _ l b o hk hl' hne hb
   ·exact(h.dl K rfl l hl').2 b o hb
  ·rw[if_neg e]at hb;by_cases e2:l=z.g
   ·subst e2;rw[if_pos rfl];rw[zcQ (h.disj k _ b o hk hl' hne hb)];exact(h.dl K rfl k hk).1 b o hb
   ·rw[if_neg e2];exact h.disj k l b o hk hl' hne hb
 ·by_cases e:k=z.g
  ·subst e;rw[if_pos rfl]at hb;rcases vm hb with hb|⟨_,hb⟩
   ·exact h.sb _ hk b x hb
   ·exact h.sbL K rfl b x hb
  ·rw[if_neg e]at hb;exact h.sb k hk b x hb
theorem TI.relM(h:TI Sb aM aW t n hp act live none)(hdom:∀ k,act k->∀ b x,hp k b=some x->b<n){z:MemOp}(hg:act z.g)(hz:z.act=.mark (.releaseMerge aM))(hd:Deaf t z.g=0)(hl:aM.block<n){H' L':Hp}(h1:H'.Sub (hp z.g))(h2:L'.Sub (hp z.g))(h3:H'.Dis L') :
  TI Sb aM aW (t++#[z]) n (fun k=>if k=z.g then H' else hp k) act live (some L'):=by
 have hn:z.act.touch? =none:=by rw[hz];rfl
 have hS:=h.still hdom (fun _ e=>by cases e) hn (by rw[hz];exact hl) (by rw[hz];simp);have hold:∀ idx a,touchAt (t++#[z]) idx=some a->touchAt t idx=some a:=fun idx a ha=>(yI (u:=#[z]) (zbk hn) ha).1;have hnone:∀{K:Hp},K.Sub (hp z.g)->∀ b,hp z.g b=none->K b=none:=fun hK b hb=>by
  rename_i K;cases e:K b with
  | none=>rfl
  | some x=>obtain⟨rw',hx,_⟩:=hK b x.1 x.2 e;rw[hb]at hx;cases hx
 refine⟨hS.clean,hS.low,hS.quiet,hS.fin,fun k hk idx a ha hm rw o hb hor=>?_,fun K e idx a ha hm rw o hb hor=>?_,fun k l b o hk hl' hne hb=>?_,fun K e k hk=>?_,hS.norel,fun k hk b x hb=>?_,fun K e b x hb=>?_,h.sbn,h.al⟩
 ·by_cases e:k=z.g
  ·subst e;rw[if_pos rfl]at hb;obtain⟨rw',hx,himp⟩:=h1 _ _ _ hb;exact hS.hk _ hk idx a ha hm rw' o hx (hor.imp himp id)
  ·rw[if_neg e]at hb;exact hS.hk k hk idx a ha hm rw o hb hor
 ·cases e;obtain⟨rw',hx,himp⟩:=h2 _ _ _ hb;exact .inr (zke (h.hk _ hg idx a (hold idx a ha) hm rw' o hx (hor.imp himp id)) hz hd)
 ·by_cases e:k=z.g
  ·subst e;rw[if_pos rfl]at hb;rw[if_neg (Ne.symm hne)];obtain⟨rw',hx,himp⟩:=h1 _ _ _ hb;have:=himp rfl;subst this;exact h.disj _ l b o hk hl' hne hx
  ·rw[if_neg e]at hb;by_cases e2:l=z.g
   ·subst e2;rw[if_pos rfl];exact hnone h1 b (h.disj k _ b o hk hl' hne hb)
   ·rw[if_neg e2];exact h.disj k l b o hk hl' hne hb
 ·cases e;by_cases e:k=z.g
  ·subst e;rw[if_pos rfl];exact h3
  ·rw[if_neg e];refine⟨fun b o hb=>hnone h2 b (h.disj k _ b o hk hg e hb),fun b o hb=>?_⟩;obtain⟨rw',hx,himp⟩:=h2 _ _ _ hb;have:=himp rfl;subst this;exact h.disj _ k b o hg hk (Ne.symm e) hx
 ·by_cases e:k=z.g
  ·subst e;rw[if_pos rfl]at hb;obtain⟨rw',hx,_⟩:=h1 b x.1 x.2 hb;exact h.sb _ hk b _ hx
  ·rw[if_neg e]at hb;exact h.sb k hk b x hb
 ·cases e;obtain⟨rw',hx,_⟩:=h2 b x.1 x.2 hb;exact h.sb _ hg b _ hx
theorem TI.relW(h:TI Sb aM aW t n hp act live L)(hdom:∀ k,act k->∀ b x,hp k b=some x->b<n)(hdomL:∀ K,L=some K->∀ b x,K b=some x->b<n){z:MemOp}(hg:act z.g)(hz:z.act=.mark (.releaseMerge aW))(hd:Deaf t z.g=0)(hl:aW.block<n){act':Nat->Prop}(ha':∀ k,act' k↔act k/\k≠z.g)
  (hoth:∀ k,k≠z.g->hp' k=hp k):TI Sb aM aW (t++#[z]) n hp' act' live L:=by
 have hn:z.act.touch? =none:=by rw[hz];rfl
 have hS:=h.still hdom hdomL hn (by rw[hz];exact hl) (by rw[hz];simp);refine⟨hS.clean,hS.low,hS.quiet,fun idx a ha hm=>?_,fun k hk idx a ha hm rw o hb hor=>?_,fun K e idx a ha hm rw o hb hor=>(hS.lk K e idx a ha hm rw o hb hor).imp (fun x k hk=>x k ((ha' k).1 hk).1) id,fun k l b o hk hl' hne hb=>?_,fun K e k hk=>?_,hS.norel,fun k hk b x hb=>?_,hS.sbL,h.sbn,fun k hk=>h.al k ((ha' k).1 hk).1⟩
 ·rcases hS.fin idx a ha hm with h1|⟨k,h1,h2⟩|h1
  ·exact .inl h1
  ·by_cases e:k=z.g
   ·right;right;left;obtain⟨ha0,Qp⟩:=yI (u:=#[z]) (zbk hn) ha;rw[g?_old Qp]at h1;exact zke (by rw[<- e];exact zdv h1) hz hd
   ·exact .inr (.inl ⟨k,h1,(ha' k).2 ⟨h2,e⟩⟩)
  ·exact .inr (.inr h1)
 ·rw[hoth k ((ha' k).1 hk).2]at hb;exact hS.hk k ((ha' k).1 hk).1 idx a ha hm rw o hb hor
 ·rw[hoth k ((ha' k).1 hk).2]at hb;rw[hoth l ((ha' l).1 hl').2];exact h.disj k l b o ((ha' k).1 hk).1 ((ha' l).1 hl').1 hne hb
 ·rw[hoth k ((ha' k).1 hk).2];exact h.dl K e k ((ha' k).1 hk).1
 ·rw[hoth k ((ha' k).1 hk).2]at hb;exact h.sb k ((ha' k).1 hk).1 b x hb
theorem TI.acqW(h:TI Sb aM aW t n hp act live L)(ha:∀ k,act k->k=0){z:MemOp}(hg:z.g=0)(hz:z.act=.mark (.acquire aW))(hd:Deaf t 0=0)(hl:aW.block<n):Past (fun l=>Sb (blk l)) n (t++#[z]):=by
 have hn:z.act.touch? =none:=by rw[hz];rfl
 have hu:∀ op∈(#[z]:Array MemOp),op=z:=fun op Qw=>by simpa using Qw
 have hkn:∀ idx a,touchAt (t++#[z]) idx=some a->a.loc.isMemory=tt->Knows (t++#[z]) 0 idx\/(a.kind=.atomic/\¬ (t++#[z]).heard idx/\Sb (blk a.loc)):=fun idx a hx hm=>by
  obtain⟨hx0,Qp⟩:=yI (u:=#[z]) (fun op Qw=>by rw[hu op Qw];exact hn) hx;rcases h.fin idx a hx0 hm with h1|⟨k,h1,h2⟩|h1|⟨h1,h2,h3⟩
  ·exact .inl (h1.app _)
  ·left;have:=zdv h1;rw[ha k h2]at this;exact this.app _
  ·left;have:=zg7 (z:=z) h1 (fun k=>h.norel k _) hz (by rw[hg];exact hd);rwa[hg]at this
  ·exact .inr ⟨h1,fun e=>h2 ((heard_old Qp).1 e),h3⟩
 refine⟨fun said=>wb (h.clean said) fun op Qw=>by rw[hu op Qw];exact hn,fun idx a hx hm=>(hkn idx a hx hm).imp id fun⟨h1,_,h3⟩=>⟨h3,h1⟩,fun idx g hgi hne hc=>?_,?_,seen_app h.low fun op Qw=>by rw[hu op Qw,hz];exact hl⟩
 ·obtain⟨a,hx,hm,hc⟩:=hc;rcases hkn idx a hx hm with⟨q,y,hq,hy,hb⟩|⟨h1,h2,_⟩
  ·refine⟨q,by unfold Trace.g?;rw[hq,Option.map_some,hy],?_⟩;rcases hb with rfl|hb
   ·have:(t++#[z]).g? idx=some 0:=by unfold Trace.g?;rw[hq,Option.map_some,hy]
    rw[this]at hgi;cases hgi;exact absurd rfl hne
   ·exact hb
  ·exact hc.elim (absurd h1) (absurd · h2)
 ·rw[yS (fun op Qw=>by rw[hu op Qw,hz];exact⟨by simp,by simp⟩)];exact hd
theorem TI.spawn(h:TI Sb aM aW t n hp act live L)(hdom:∀ k,act k->∀ b x,hp k b=some x->b<n)(hdomL:∀ K,L=some K->∀ b x,K b=some x->b<n)(h0:act 0){c:Nat}(hc:0<c)(hca:¬ live c)(hd0:Deaf t 0=0)(hdc:Deaf t c=0){x y:MemOp}(hx:x.g=0/\x.act=.go c)(hy:y.g=c/\y.act=.start){act' live':Nat->Prop}(ha':∀ k,act' k↔act k\/k=c)(hl':∀ k,live' k↔live k\/k=c)
  (hoth:∀ k,k≠0->k≠c->hp' k=hp k) (h2:(hp' 0).Sub (hp 0)) (h3:(hp' c).Sub (hp 0)) (h4:(hp' 0).Dis (hp' c)):TI Sb aM aW (t++#[x]++#[y]) n hp' act' live' L:=by
 have hnx:x.act.touch? =none:=by rw[hx.2];rfl
 have hny:y.act.touch? =none:=by rw[hy.2];rfl
 have hux:∀ op∈(#[x]:Array MemOp),op=x:=fun op Qw=>by simpa using Qw
 have huy:∀ op∈(#[y]:Array MemOp),op=y:=fun op Qw=>by simpa using Qw
 have hold:∀ idx a,touchAt (t++#[x]++#[y]) idx=some a->touchAt t idx=some a/\idx<t.size:=fun idx a ha =>
  yI (u:=#[x]) (fun op Qw=>by rw[hux op Qw];exact hnx) (yI (u:=#[y]) (fun op Qw=>by rw[huy op Qw];exact hny) ha).1
 have e2:(t++#[x]++#[y])[t.size]? =some x:=by rw[getElem?_append_old sQ];simp
 have e3:(t++#[x]++#[y])[t.size+1]? =some y:=by
  have e:(t++#[x]++#[y])[(t++#[x]).size]? =some y:=by simp only[<- Array.push_eq_append,Array.getElem?_push_size]
  rwa[show(t++#[x]).size=t.size+1 by simp]at e
 have hmx:∀ op∈(#[x]:Array MemOp),op.act≠.mark .disable/\op.act≠.mark .enable:=fun op Qw=>by rw[hux op Qw,hx.2];exact⟨by simp,by simp⟩
 have know:∀ idx,Knows t 0 idx->Knows (t++#[x]++#[y]) c idx:=fun idx hk=>by
  obtain⟨q,z,hq,hz,hbef⟩:=hk;have hqlt:=lt_size_of_getElem? hq;have e1:(t++#[x]++#[y])[q]? =some z:=by rw[getElem?_append_old (by simp;omega),getElem?_append_old hqlt];exact hq
  have hpo:HappensBefore (t++#[x]++#[y]) q t.size:=hb_po hqlt e1 e2 (hz.trans hx.1.symm);have hsp:HappensBefore (t++#[x]++#[y]) t.size (t.size+1):=by
   refine .single (.inr ⟨.spawn (child:=c) (by rw[act?_of e2,hx.2]) (by rw[act?_of e3,hy.2]) (by unfold Trace.g?;rw[e3,Option.map_some,hy.1]),vz hx.1 hd0,?_⟩);have:=vz (t:=t++#[x]) (u:=#[]) hy.1 (by rw[yS hmx];exact hdc);simpa using this
  exact⟨t.size+1,y,e3,hy.1,.inr (((hbef.app #[x]).app #[y]).hb (hpo.trans hsp))⟩
 have keep:∀{g idx},Knows t g idx->Knows (t++#[x]++#[y]) g idx:=fun hk=>(hk.app _).app _;have hne:∀ k,act k->k≠c:=fun k hk e=>hca (e ▸ h.al k hk);have hsubn:∀{K:Hp},K.Sub (hp 0)->∀ b,hp 0 b=none->K b=none:=fun hK b hb=>by
  rename_i K;cases e:K b with
  | none=>rfl
  | some x=>obtain⟨rw',hx,_⟩:=hK b x.1 x.2 e;rw[hb]at hx;cases hx
 refine⟨fun said=>wb (wb (h.clean said) fun op Qw=>by rw[hux op Qw];exact hnx) fun op Qw=>by rw[huy op Qw];exact hny,seen_app (seen_app h.low fun op Qw=>by rw[hux op Qw,hx.2];trivial) fun op Qw=>by rw[huy op Qw,hy.2];trivial,
  fun idx a ha hm hs=>?_,fun idx a ha hm=>?_,fun k hk idx a ha hm rw o hb hor=>?_,fun K e idx a ha hm rw o hb hor=>?_,fun k l b o hk hl hkl hb=>?_,fun K e k hk=>?_,fun k=>?_,fun k hk b z hb=>?_,h.sbL,h.sbn,fun k hk=>(hl' k).2 (((ha' k).1 hk).imp (h.al k) id)⟩
 ·obtain⟨ha0,Qp⟩:=hold idx a ha;rcases h.quiet idx a ha0 hm hs with⟨h1,h5⟩|h1
  ·exact .inl ⟨h1,fun e=>by rw[g?_old (by simp;omega),g?_old Qp];exact h5 e⟩
  ·right;intro k hk;rcases(hl' k).1 hk with hk|rfl
   ·exact keep (h1 k hk)
   ·exact know _ (h1 0 (h.al 0 h0))
 ·obtain⟨ha0,Qp⟩:=hold idx a ha;rcases h.fin idx a ha0 hm with h1|⟨k,h1,h5⟩|h1|⟨h1,h5,h6⟩
  ·exact .inl (keep h1)
  ·exact .inr (.inl ⟨k,by rw[g?_old (by simp;omega),g?_old Qp];exact h1,(ha' k).2 (.inl h5)⟩)
  ·exact .inr (.inr (.inl ((h1.app _).app _)))
  ·exact .inr (.inr (.inr ⟨h1,fun e=>h5 ((heard_old Qp).1 ((heard_old (u:=#[y]) (by simp;omega)).1 e)),h6⟩))
 ·obtain⟨ha0,Qp⟩:=hold idx a ha;rcases(ha' k).1 hk with hk|rfl
  ·by_cases e:k=0
   ·subst e;obtain⟨rw',hb',himp⟩:=h2 _ _ _ hb;exact keep (h.hk 0 h0 idx a ha0 hm rw' o hb' (hor.imp himp id))
   ·rw[hoth k e (hne k hk)]at hb;exact keep (h.hk k hk idx a ha0 hm rw o hb hor)
  ·obtain⟨rw',hb',himp⟩:=h3 _ _ _ hb;exact know _ (h.hk 0 h0 idx a ha0 hm rw' o hb' (hor.imp himp id))
 ·obtain⟨ha0,Qp⟩:=hold idx a ha;rcases h.lk K e idx a ha0 hm rw o hb hor with h1|h1
  ·left;intro k hk;rcases(ha' k).1 hk with hk|rfl
   ·exact keep (h1 k hk)
   ·exact know _ (h1 0 h0)
  ·exact .inr ((h1.app _).app _)
 ·
  have key:∀ m,m=0\/m=c->(hp' m).Sub (hp 0):=fun m hm=>by rcases hm with rfl|rfl <;> assumption
  have hold':∀ m,act' m->(m=0\/m=c)\/(act m/\m≠0/\m≠c):=fun m hm=>by
   rcases(ha' m).1 hm with hm|hm
   ·by_cases e:m=0
    ·exact .inl (.inl e)
    ·exact .inr ⟨hm,e,hne m hm⟩
   ·exact .inl (.inr hm)
  rcases hold' k hk with hk1|⟨hk1,hk2,hk3⟩
  ·rcases hold' l hl with hl1|⟨hl1,hl2,hl3⟩
   ·rcases hk1 with rfl|rfl <;> rcases hl1 with rfl|rfl
    ·exact absurd rfl hkl
    ·exact h4.1 b o hb
    ·exact h4.2 b o hb
    ·exact absurd rfl hkl
   ·obtain⟨rw',hb',himp⟩:=key k hk1 _ _ _ hb;have:=himp rfl;subst this;rw[hoth l hl2 hl3];exact h.disj 0 l b o h0 hl1 (Ne.symm hl2) hb'
  ·rw[hoth k hk2 hk3]at hb;rcases hold' l hl with hl1|⟨hl1,hl2,hl3⟩
   ·exact hsubn (key l hl1) b (h.disj k 0 b o hk1 h0 hk2 hb)
   ·rw[hoth l hl2 hl3];exact h.disj k l b o hk1 hl1 hkl hb
 ·have sub:∀ m,(hp' m).Sub (hp 0)->(hp' m).Dis K:=fun m hm=>⟨fun b o hb=>by
   obtain⟨rw',hb',himp⟩:=hm _ _ _ hb;have:=himp rfl;subst this;exact(h.dl K e 0 h0).1 b o hb',fun b o hb=>hsubn hm b ((h.dl K e 0 h0).2 b o hb)⟩
  rcases(ha' k).1 hk with hk|rfl
  ·by_cases e0:k=0
   ·subst e0;exact sub 0 h2
   ·rw[hoth k e0 (hne k hk)];exact h.dl K e k hk
  ·exact sub _ h3
 ·have hz:∀ a,(t++#[x]++#[y]).act? k=some (.mark (.release a))->t.act? k=some (.mark (.release a)):=fun a he=>by
   rcases mR k t.size with Qp|hge
   ·rwa[act?_old (by simp;omega),act?_old Qp]at he
   ·exfalso;obtain⟨op,ho,hoe⟩:=mY.1 he;rw[Array.append_assoc,Array.getElem?_append_right hge]at ho;have hm:=mH ho;simp at hm;rcases hm with rfl|rfl
    ·rw[hx.2]at hoe;cases hoe
    ·rw[hy.2]at hoe;cases hoe
  exact fun a e=>h.norel k a (hz _ e)
 ·rcases(ha' k).1 hk with hk|rfl
  ·by_cases e0:k=0
   ·subst e0;obtain⟨rw',hb',_⟩:=h2 b z.1 z.2 hb;exact h.sb 0 h0 b _ hb'
   ·rw[hoth k e0 (hne k hk)]at hb;exact h.sb k hk b z hb
  ·obtain⟨rw',hb',_⟩:=h3 b z.1 z.2 hb;exact h.sb 0 h0 b _ hb'
theorem TI.init{Sh:Loc->Prop}(h:Past Sh n t)(hSh:∀ l,Sh l->Sb (blk l)){H L:Hp}(hD:H.Dis L)(hH:∀ b x,H b=some x->¬ Sb b)(hL:∀ b x,L b=some x->¬ Sb b)(hn:∀ b,Sb b->b<n)(hr:∀ k a,t.act? k≠some (.mark (.release a))):TI Sb aM aW t n (fun _=>H) (fun k=>k=0) (fun k=>k=0) (some L):=by
 have hkn:∀ idx a,touchAt t idx=some a->a.loc.isMemory=tt->Knows t 0 idx\/(a.kind=.atomic/\¬ t.heard idx/\Sh a.loc):=fun idx a ha hm=>by
  rcases h.known idx a ha hm with hk|⟨h1,h2⟩
  ·exact .inl hk
  ·by_cases hh:t.heard idx
   ·left;obtain⟨x,hx,hxa⟩:=touch_of ha;by_cases e:x.g=0
    ·have:=knows_own hx;rwa[e]at this
    ·obtain⟨j,hj,hb⟩:=h.over idx x.g (by simp[Trace.g?,hx]) e ⟨a,ha,hm,.inr hh⟩;obtain⟨z,hz,hz0⟩:=mY.1 hj;exact⟨j,z,hz,hz0,.inr hb⟩
   ·exact .inr ⟨h2,hh,h1⟩
 refine⟨h.clean,h.seen,fun idx a ha hm hs=>?_,fun idx a ha hm=>?_,fun k hk idx a ha hm rw o hb hor=>?_,fun K e idx a ha hm rw o hb hor=>?_,fun k l b o hk hl hkl=>?_,fun K e k hk=>?_,hr,fun k hk b x hb=>hH b x hb,fun K e b x hb=>?_,hn,fun k hk=>hk⟩
 ·rcases hkn idx a ha hm with hk|⟨h1,_⟩
  ·exact .inr fun k hk=>hk ▸ hk.symm ▸ (by rw[hk];exact ‹Knows t 0 idx›)
  ·exact .inl ⟨by rw[h1];simp,fun e=>by rw[h1]at e;cases e⟩
 ·rcases hkn idx a ha hm with hk|⟨h1,h2,h3⟩
  ·exact .inl hk
  ·exact .inr (.inr (.inr ⟨h1,h2,hSh _ h3⟩))
 ·rcases hkn idx a ha hm with hkk|⟨_,_,h3⟩
  ·rw[hk];exact hkk
  ·exact absurd (hSh _ h3) (hH _ _ hb)
 ·cases e;rcases hkn idx a ha hm with hkk|⟨_,_,h3⟩
  ·exact .inl fun k hk=>by rw[hk];exact hkk
  ·exact absurd (hSh _ h3) (hL _ _ hb)
 ·rw[hk,hl]at hkl;exact absurd rfl hkl
 ·cases e;exact hD
 ·cases e;exact hL b x hb
end
end Go.Vel
namespace Go.Vel
open Go Go.Conc
open Go.ConcN (sumTo upd upd_ne upd_same)
open Go.ConcM (OsLater)
inductive Kd where|book|acqL|relL|relW|fork|acqW|quit
 deriving DecidableEq
structure Aut where
 T:Type
 S:Type
 kd:T->Kd
 dl:T->Nat
 mv:T->S->T->S->Prop
 bl:T->S->Prop
 ok:T->S->Prop
 nx:T->T
 ix:T->Nat
 st:Nat->T
 wk:T->Prop
 aft:T->Bool
 past:T->Bool
inductive Seg(P:gP)(main qt:Bool)(Live:gW->Prop)(S:gG->Hp->Prop):gG->Hp->Prop
 | stop {g:gG} {H:Hp}:S g H->Seg P main qt Live S g H
 | step {g:gG} {H:Hp}:g.status=.running->(∀ w,z5 H w->Live w->∃ g' w' es,stepG P main g w=.go g' w' es/\StepH H w w' es/\g'.status=.running/\(qt=tt->es=#[]/\w'=w)) ->
   (∀ w g' w' es,z5 H w->Live w->stepG P main g w=.go g' w' es->Seg P main qt Live S g' (H.next w w'))->Seg P main qt Live S g H
structure Eff(S2:Nat->Prop)(w w':gW):Prop where
 tape:w'.tape=w.tape
 output:w'.output=w.output
 size:w'.heap.size=w.heap.size
 os:OsLater w.os w'.os
 block:∀ b,¬ S2 b->w'.heap[b]? =w.heap[b]?
def Tch(main:Bool)(S2:Nat->Prop)(e:Event):Prop:=(∃ a x,e=⟨.cell a,x,tt⟩/\S2 a.block)\/(main=tt/\∃ a,(e.loc=.mark (.read a)\/e.loc=.mark (.write a))/\S2 a.block)
structure EvB(main:Bool)(S2:Nat->Prop)(d d':Nat)(es:Array Event):Prop where
 deaf:deafBehind d es=d'
 all:∀ e∈es,e.mute=tt\/Tch main S2 e
 heard:∀ j e,es[j]? =some e->(MemAct.ofEvent e).touch? =none\/0<deafBehind d (es.extract 0 j)
section
variable (P:gP)(A:Aut)(shAt:gW->A.S->Prop)(S2:Nat->Prop)(aM aW:Addr)(GI:(Nat->Bool)->Hp->Prop)(all:Nat->Bool)(Stop:gG->Hp->Prop)
def LiveS(w:gW):Prop:=∃ s,shAt w s
def Agrees(H L:Hp):Prop:=∀ b r1 o1 r2 o2,H b=some (r1,o1)->L b=some (r2,o2)->o1=o2
def Law(main:Bool)(Ch:Nat->gG->Hp->Prop)(Nx:A.T->(Nat->Bool)->gG->Hp->Prop)(i:Nat)(T:A.T)(x:Nat->Bool)(g:gG)(H:Hp):Prop :=
 g.status=.running/\g.offers=none/\(A.wk T->mayWake P g=tt) /\
 match A.kd T with
 | .book=>∀ w s,z5 H w->shAt w s->A.ok T s ->
   (A.bl T s->stepG P main g w=.go { g with status:=.blocked } w #[]) /\
   (¬ A.bl T s->∃ T' s' g' w' es,A.mv T s T' s'/\stepG P main g w=.go g' w' es/\Eff S2 w w'/\shAt w' s'/\EvB main S2 (A.dl T) (A.dl T') es /\
    ((A.kd T'=.quit/\∃ n,QuitsD P n (A.dl T') g')\/(A.kd T'≠.quit/\g'.status=.running/\Seg P main (A.aft T') (LiveS A shAt) (Nx T' x) g' H)))
 | .acqL=>∃ g',g'.status=.running/\(∀ w,z5 H w->stepG P main g w=.go g' w #[Go.ConcR.mk (.acquire aM)]) /\
   ∀ x' L,GI x' L->x' i=ff->H.Dis L->Agrees H L->Seg P main ff (LiveS A shAt) (Nx (A.nx T) x') g' (H.join L)
 | .relL=>∃ g' H' L',g'.status=.running/\(∀ w,z5 H w->stepG P main g w=.go g' w #[Go.ConcR.mk (.releaseMerge aM)])/\H'.Sub H/\L'.Sub H/\H'.Dis L'/\GI (upd x i tt) L'/\Seg P main ff (LiveS A shAt) (Nx (A.nx T) x) g' H'
 | .relW=>∀ w s,z5 H w->shAt w s->∃ g',g'.status=.running/\stepG P main g w=.go g' w #[Go.ConcR.mk (.releaseMerge aW)]/\Seg P main tt (LiveS A shAt) (Nx (A.nx T) x) g' (fun _=>none)
 | .fork=>∃ g' ch H₂ Hc,g'.status=.running/\ch.status=.running/\(∀ w,z5 H w->∃ es,stepG P main g w=.spawn g' ch w es/\∀ e∈es,EvH H e)/\H₂.Sub H/\Hc.Sub H/\H₂.Dis Hc/\Ch (A.ix T) ch Hc/\Seg P main ff (LiveS A shAt) (Nx (A.nx T) x) g' H₂
 | .acqW=>∃ g',g'.status=.running/\(∀ w,z5 H w->stepG P main g w=.go g' w #[Go.ConcR.mk (.acquire aW)])/\∀ L,GI all L->H.Dis L->Agrees H L->Stop g' (H.join L)
 | .quit=>False
def AtD(main:Bool)(Ch:Nat->gG->Hp->Prop):Nat->Nat->A.T->(Nat->Bool)->gG->Hp->Prop
 | 0,_,_,_,_,_=>True
 | k+1,i,T,x,g,H=>Law P A shAt S2 aM aW GI all Stop main Ch (AtD main Ch k i) i T x g H
def AtW(k i:Nat)(T:A.T)(x:Nat->Bool):gG->Hp->Prop:=AtD P A shAt S2 aM aW GI all Stop ff (fun _ _ _=>False) k i T x
def AtM(k:Nat)(T:A.T)(x:Nat->Bool):gG->Hp->Prop:=AtD P A shAt S2 aM aW GI all Stop tt (fun j ch Hc=>∀ k x,Seg P ff ff (LiveS A shAt) (AtW P A shAt S2 aM aW GI all Stop k j (A.st j) x) ch Hc) k 0 T x
def Sq(m0 i k:Nat)(T:A.T)(x:Nat->Bool):gG->Hp->Prop:=if i=0 then AtM P A shAt S2 aM aW GI all Stop k T x else AtW P A shAt S2 aM aW GI all Stop k (i - m0) T x
end
structure AOk(A:Aut)(all:Nat->Bool)(I:Nat->(Nat->A.T)->A.S->Prop)(Φ:Nat->(Nat->A.T)->A.S->Nat):Prop where
 ok:∀{j f s q},I j f s->q<=j->A.kd (f q)=.book->A.ok (f q) s
 mv:∀{j f s q T' s'},I j f s->q<=j->A.kd (f q)=.book->A.mv (f q) s T' s'->I j (upd f q T') s'/\Φ j (upd f q T') s'<Φ j f s/\(∀ r,r<=j->r≠q->A.bl (f r) s->A.bl (f r) s'\/A.wk (f q))/\A.kd T'≠.relL/\A.past T'=A.past (f q)/\(A.aft T'=A.aft (f q))
 nx:∀{j f s q},I j f s->q<=j->(A.kd (f q)=.acqL\/A.kd (f q)=.relL\/A.kd (f q)=.relW)->I j (upd f q (A.nx (f q))) s/\Φ j (upd f q (A.nx (f q))) s<Φ j f s/\1<=q/\A.dl (f q)=0/\A.dl (A.nx (f q))=0/\A.kd (A.nx (f q))≠.quit/\A.aft (f q)=ff
 acqL:∀{j f s q},I j f s->q<=j->A.kd (f q)=.acqL->(∀ r,r<=j->A.kd (f r)≠.relL)/\A.kd (A.nx (f q))=.relL/\A.past (f q)=ff/\A.past (A.nx (f q))=ff/\A.aft (A.nx (f q))=ff
 relL:∀{j f s q},I j f s->q<=j->A.kd (f q)=.relL->(∀ r,r<=j->r≠q->A.kd (f r)≠.relL)/\A.kd (A.nx (f q))≠.relL/\A.past (A.nx (f q))=tt/\A.aft (A.nx (f q))=ff/\all (q - 1)=tt
 relW:∀{j f s q},I j f s->q<=j->A.kd (f q)=.relW->A.kd (A.nx (f q))≠.relL/\A.past (A.nx (f q))=A.past (f q)/\A.aft (A.nx (f q))=tt
 fork:∀{j f s},I j f s->A.kd (f 0)=.fork->A.ix (f 0)=j/\I (j+1) (upd (upd f 0 (A.nx (f 0))) (j+1) (A.st j)) s/\Φ (j+1) (upd (upd f 0 (A.nx (f 0))) (j+1) (A.st j)) s<Φ j f s/\A.kd (A.nx (f 0))≠.relL/\A.kd (A.nx (f 0))≠.quit/\A.aft (A.nx (f 0))=ff/\A.dl (f 0)=0/\A.dl (A.nx (f 0))=0 /\
  A.kd (A.st j)≠.relL/\A.kd (A.st j)≠.quit/\A.aft (A.st j)=ff/\A.dl (A.st j)=0/\(all j&&A.past (A.st j))=ff
 main:∀{j f s},I j f s->A.aft (f 0)=ff/\A.kd (f 0)≠.quit
 work:∀{j f s q},I j f s->q<=j->1<=q->A.kd (f q)≠.fork/\A.kd (f q)≠.acqW
 acqW:∀{j f s},I j f s->A.kd (f 0)=.acqW->(∀ r,1<=r->r<=j->A.kd (f r)=.quit)/\A.dl (f 0)=0/\∀ i,j<=i->all i=ff
 quit:∀{T},A.kd T=.quit->A.past T=tt/\A.aft T=tt
 bl:∀{T s},A.bl T s->A.kd T=.book
 prog:∀{j f s},I j f s->∃ q,q<=j/\A.kd (f q)≠.quit/\¬ A.bl (f q) s
inductive WS where
 | go (main qt:Bool) (S:gG->Hp->Prop) (g:gG) (H:Hp)
 | left (n:Nat)
def WS.hp:WS->Hp
 | .go _ _ _ _ H=>H
 | .left _=>fun _=>none
inductive WR(P:gP)(Live:gW->Prop):WS->WS->Prop
 | slip (n:Nat):WR P Live (.left n) (.left (n+1))
 | go {main qt:Bool} {S:gG->Hp->Prop} {g g':gG} {H:Hp} {w w':gW} {es:Array Event}:¬ S g H->z5 H w->Live w->stepG P main g w=.go g' w' es->WR P Live (.go main qt S g' (H.next w w')) (.go main qt S g H)
theorem wl(P:gP)(Live:gW->Prop):∀ n,Acc (WR P Live) (.left n)
 | 0=>⟨_,fun y h=>by cases h⟩
 | n+1=>⟨_,fun y h=>by cases h;exact wl P Live n⟩
theorem zg2{P:gP}{Live:gW->Prop}{main qt:Bool}{S:gG->Hp->Prop}{g:gG}{H:Hp}(h:Seg P main qt Live S g H):Acc (WR P Live) (.go main qt S g H):=by
 induction h with
 | stop hs=>exact⟨_,fun y hy=>by cases hy with|go hn=>exact absurd hs hn⟩
 | step _ _ _ ih =>
  refine⟨_,fun y hy=>?_⟩;cases hy with
  | go _ hf hl hgo=>exact ih _ _ _ _ hf hl hgo
def gid(m0 q:Nat):Nat:=if q=0 then 0 else m0+(q - 1)
def qid(m0 i:Nat):Nat:=if i=0 then 0 else i - m0+1
def Thr(m0 j i:Nat):Prop:=i=0\/(m0<=i/\i<m0+j)
theorem y7{m0 j i:Nat}(h0:0<m0)(h:Thr m0 j i):gid m0 (qid m0 i)=i/\qid m0 i<=j:=by
 unfold gid qid;rcases h with rfl|⟨h1,h2⟩
 ·simp
 ·have:¬ i=0:=by omega
  simp only[if_neg this,Nat.add_one_sub_one];rw[if_neg oQ];omega
theorem zn8{m0 j q:Nat}(h:q<=j):Thr m0 j (gid m0 q):=by
 unfold gid Thr;by_cases e:q=0
 ·left;rw[if_pos e]
 ·right;rw[if_neg e];omega
theorem zm9{m0 q i j:Nat}(h0:0<m0)(h:Thr m0 j i)(e:gid m0 q=i):q=qid m0 i:=by
 unfold gid at e;unfold qid;rcases h with rfl|⟨h1,h2⟩
 ·split at e
  ·rename_i e2;rw[e2,if_pos rfl]
  ·omega
 ·rw[if_neg oQ];split at e
  ·omega
  ·omega
theorem ug{X:Type}{m0 j i:Nat}(h0:0<m0)(h:Thr m0 j i)(f:Nat->X)(T:X):(fun q=>upd f i T (gid m0 q))=upd (fun q=>f (gid m0 q)) (qid m0 i) T:=by
 funext q;by_cases e:q=qid m0 i
 ·subst e;rw[upd_same,(y7 h0 h).1,upd_same]
 ·rw[upd_ne (fun q=>f (gid m0 q)) T e,upd_ne f T (fun x=>e (zm9 h0 h x))]
section
variable {P:gP}{A:Aut}{shAt:gW->A.S->Prop}{S2:Nat->Prop}{aM aW:Addr}{GI:(Nat->Bool)->Hp->Prop}{all:Nat->Bool}{Stop:gG->Hp->Prop}
variable {Sb:Nat->Prop}{I:Nat->(Nat->A.T)->A.S->Prop}{Φ:Nat->(Nat->A.T)->A.S->Nat}
variable (P A shAt S2 aM aW GI all Stop) in
def OkT(m0 i:Nat)(t:Trace)(w:gW)(s:A.S)(T:A.T)(y:gG)(done:Nat->Bool)(φ:Nat):WS->Prop
 | .go main qt S g H=>main=(i==0)/\qt=A.aft T/\A.kd T≠.quit/\Deaf t i=A.dl T/\z5 H w/\(A.aft T=tt->H=fun _=>none)/\∃ k x,S=Sq P A shAt S2 aM aW GI all Stop m0 i k T x/\φ<k/\(A.kd T=.relL->x=done) /\
   ((y=g/\g.status=.running/\Seg P main qt (LiveS A shAt) S g H)\/(y={ g with status:=.blocked }/\S g H/\A.bl T s))
 | .left n=>A.kd T=.quit/\QuitsD P n (Deaf t i) y
variable (P A shAt S2 aM aW GI all Stop Sb I Φ) in
structure MI(m0:Nat)(gs:Array gG)(w:gW)(t:Trace)(j:Nat)(s:A.S)(f:Nat->A.T)(F:Nat->WS)(L:Option Hp)(done:Nat->Bool)(φ:Nat):Prop where
 pos:0<m0
 size:gs.size=m0+j
 sh:shAt w s
 inv:I j (fun q=>f (gid m0 q)) s
 phi:Φ j (fun q=>f (gid m0 q)) s<=φ
 th:∀ i y,gs[i]? =some y->Thr m0 j i->OkT P A shAt S2 aM aW GI all Stop m0 i t w s (f i) y done φ (F i)
 old:∀ i y,gs[i]? =some y->0<i->i<m0->∃ n,F i=.left n/\QuitsD P n (Deaf t i) y
 out:∀ i,gs.size<=i->F i=.left 0
 above:∀ k,gs.size<=k->Deaf t k=0
 tr:TI Sb aM aW t w.heap.size (fun i=>(F i).hp) (fun i=>Thr m0 j i/\A.aft (f i)=ff) (Thr m0 j) L
 tok:(∃ K,L=some K/\GI done K/\z5 K w/\∀ i,Thr m0 j i->A.kd (f i)≠.relL)\/(L=none/\∃ i,Thr m0 j i/\A.kd (f i)=.relL)
 dn:∀ i,i<j->done i=(all i&&A.past (f (m0+i)))
 new:∀ i,j<=i->done i=ff
variable {m0:Nat}{gs:Array gG}{w w':gW}{t u:Trace}{j:Nat}{s s':A.S}{f f':Nat->A.T}{F F':Nat->WS}{L L':Option Hp}{done done':Nat->Bool}{φ φ':Nat}{sl:Option (Nat×Nat)}
theorem MI.lt(h:MI P A shAt S2 aM aW GI all Stop Sb I Φ m0 gs w t j s f F L done φ){i:Nat}(hi:Thr m0 j i):i<gs.size:=by
 have:=h.size;have:=h.pos;rcases hi with rfl|hi <;> omega
theorem MI.thr(h:MI P A shAt S2 aM aW GI all Stop Sb I Φ m0 gs w t j s f F L done φ){i:Nat}(hi:i<gs.size):Thr m0 j i\/(0<i/\i<m0):=by
 have:=h.size;unfold Thr;omega
theorem MI.fits(h:MI P A shAt S2 aM aW GI all Stop Sb I Φ m0 gs w t j s f F L done φ){i:Nat}(hi:Thr m0 j i):z5 (F i).hp w:=by
 have:=h.th i _ (mD (h.lt hi)) hi;cases e:F i with
 | go main qt S g H=>rw[e]at this;exact this.2.2.2.2.1
 | left n=>intro b rw o hb;cases hb
theorem MI.hpn(h:MI P A shAt S2 aM aW GI all Stop Sb I Φ m0 gs w t j s f F L done φ){i:Nat}(hi:Thr m0 j i)(ha:A.aft (f i)=tt):(F i).hp=fun _=>none:=by
 have:=h.th i _ (mD (h.lt hi)) hi;cases e:F i with
 | go main qt S g H=>rw[e]at this;exact this.2.2.2.2.2.1 ha
 | left n=>rfl
theorem zhh{main:Bool}{Ch:Nat->gG->Hp->Prop}{k i:Nat}{T:A.T}{x:Nat->Bool}{g:gG}{H:Hp}(h:AtD P A shAt S2 aM aW GI all Stop main Ch (k+1) i T x g H):g.status=.running/\g.offers=none/\(A.wk T->mayWake P g=tt):=⟨h.1,h.2.1,h.2.2.1⟩
theorem zpr{m0 i k:Nat}{T:A.T}{x:Nat->Bool}{g:gG}{H:Hp}(h:Sq P A shAt S2 aM aW GI all Stop m0 i (k+1) T x g H):g.status=.running/\g.offers=none/\(A.wk T->mayWake P g=tt):=by
 unfold Sq at h;split at h
 ·exact zhh h
 ·exact zhh h
theorem woken_by_blocked'{x x':gG}(hx:x'.status=.blocked)(o:gG):woken P x x' w' o=o:=by
 unfold Go.Conc.woken;rw[if_neg];rw[hx];simp
theorem zej{i:Nat}{T:A.T}{y:gG}{W:WS}(h:OkT P A shAt S2 aM aW GI all Stop m0 i t w s T y done φ W){x x':gG}(hx':x'.status=.running\/x'.status=.finished)
  (hf:z5 W.hp w->z5 W.hp w') (hd:Deaf u i=Deaf t i) (hbl:A.bl T s->A.bl T s'\/mayWake P x=tt) (hrel:A.kd T=.relL->done'=done) (hφ:φ'<=φ) :
  OkT P A shAt S2 aM aW GI all Stop m0 i u w' s' T (woken P x x' w' y) done' φ' W:=by
 cases W with
 | left n =>
  obtain⟨h1,h2⟩:=h;refine⟨h1,?_⟩;rw[woken_quitsD h2,hd];exact h2
 | go main qt S g H =>
  obtain⟨h1,h2,h3,h4,h5,h6,k,x0,h7,h8,h9,h10⟩:=h;refine⟨h1,h2,h3,hd.trans h4,hf h5,h6,k,x0,h7,oQ,fun e=>(h9 e).trans (hrel e).symm,?_⟩;rcases h10 with⟨rfl,hr,hS⟩|⟨rfl,hS,hb⟩
  ·exact .inl ⟨woken_run hr,hr,hS⟩
  ·obtain⟨k',rfl⟩:∃ k',k=k'+1:=⟨k - 1,oQ⟩;have hS':=hS;rw[h7]at hS';obtain⟨r1,r2,_⟩:=zpr hS';by_cases hc:(mayWake P x&&x'.status !=.blocked&&x'.status !=.waiting)=tt
   ·left;refine⟨?_,r1,.stop hS⟩;unfold Go.Conc.woken;rw[if_pos hc];exact Go.ConcR.again_blocked r1 r2 _
   ·right;have e:woken P x x' w' { g with status:=.blocked }={ g with status:=.blocked }:=by
     unfold Go.Conc.woken;rw[if_neg hc]
    refine⟨e,hS,?_⟩;rcases hbl hb with hb'|hw
    ·exact hb'
    ·exfalso;apply hc;rw[hw];rcases hx' with e|e <;> rw[e] <;> rfl
theorem MI.move(h:MI P A shAt S2 aM aW GI all Stop Sb I Φ m0 gs w t j s f F L done φ){i:Nat}{x x':gG}(hi:Thr m0 j i)(hx':x'.status=.running\/x'.status=.finished)(hu:∀ op∈u,op.g=i)
  (hfo:∀ k,k≠i->f' k=f k) (hFo:∀ k,k≠i->F' k=F k) (hsh:shAt w' s') (Qz:I j (fun q=>f' (gid m0 q)) s') (hphi:Φ j (fun q=>f' (gid m0 q)) s'<=φ') (hle:φ'<=φ)
  (hown:OkT P A shAt S2 aM aW GI all Stop m0 i (t++u) w' s' (f' i) x' done' φ' (F' i))
  (hfit:∀ k,k≠i->Thr m0 j k->z5 (F k).hp w->z5 (F k).hp w') (hbl:∀ k,k≠i->Thr m0 j k->A.bl (f k) s->A.bl (f k) s'\/mayWake P x=tt) (hrel:∀ k,k≠i->Thr m0 j k->A.kd (f k)=.relL->done'=done)
  (htr:TI Sb aM aW (t++u) w'.heap.size (fun k=>(F' k).hp) (fun k=>Thr m0 j k/\A.aft (f' k)=ff) (Thr m0 j) L')
  (htok:(∃ K,L'=some K/\GI done' K/\z5 K w'/\∀ k,Thr m0 j k->A.kd (f' k)≠.relL)\/(L'=none/\∃ k,Thr m0 j k/\A.kd (f' k)=.relL))
  (hdn:∀ k,k<j->done' k=(all k&&A.past (f' (m0+k)))) (hnew:∀ k,j<=k->done' k=ff) :
  MI P A shAt S2 aM aW GI all Stop Sb I Φ m0 ((gs.map (woken P x x' w')).setIfInBounds i x') w' (t++u) j s' f' F' L' done' φ':=by
 have hsz:((gs.map (woken P x x' w')).setIfInBounds i x').size=gs.size:=by simp
 have Qp:=h.lt hi;have hdf:∀ k,k≠i->Deaf (t++u) k=Deaf t k:=fun k hk=>Deaf_other t (Ne.symm hk) _ hu;refine⟨h.pos,hsz.trans h.size,hsh,Qz,hphi,fun k y hy hk=>?_,fun k y hy h0 hm=>?_,fun k hk=>?_,fun k hk=>?_,htr,htok,hdn,hnew⟩
 ·by_cases e:k=i
  ·subst e;rw[mF (by simpa using Qp)]at hy;cases hy;exact hown
  ·rw[mE (Ne.symm e),mJ]at hy;obtain⟨z,hz,rfl⟩:=mY.1 hy;rw[hfo k e,hFo k e];exact zej (h.th k z hz hk) hx' (hfit k e hk) (hdf k e) (hbl k e hk) (hrel k e hk) hle
 ·have e:k≠i:=fun e=>by subst e;rcases hi with rfl|hi <;> omega
  rw[mE (Ne.symm e),mJ]at hy;obtain⟨z,hz,rfl⟩:=mY.1 hy;obtain⟨n,h1,h2⟩:=h.old k z hz h0 hm;exact⟨n,by rw[hFo k e];exact h1,by rw[woken_quitsD h2,hdf k e];exact h2⟩
 ·rw[hsz]at hk;rw[hFo k oQ];exact h.out k hk
 ·rw[hsz]at hk;rw[hdf k oQ];exact h.above k hk
theorem MI.block(h:MI P A shAt S2 aM aW GI all Stop Sb I Φ m0 gs w t j s f F L done φ){i:Nat}{x:gG}(hi:Thr m0 j i){main qt:Bool}{S:gG->Hp->Prop}{H:Hp}(hF:F i=.go main qt S x H)(hS:S x H)(hb:A.bl (f i) s) :
  MI P A shAt S2 aM aW GI all Stop Sb I Φ m0 ((gs.map (woken P x { x with status:=.blocked } w)).setIfInBounds i { x with status:=.blocked }) w t j s f F L done φ:=by
 have hsz:((gs.map (woken P x { x with status:=.blocked } w)).setIfInBounds i { x with status:=.blocked }).size=gs.size:=by simp
 have Qp:=h.lt hi;have hth:=h.th i _ (mD Qp) hi;rw[hF]at hth;obtain⟨h1,h2,h3,h4,h5,h6,k,x0,h7,h8,h9,h10⟩:=hth;have hget:∀ k y,k≠i->((gs.map (woken P x { x with status:=.blocked } w)).setIfInBounds i { x with status:=.blocked })[k]? =some y->gs[k]? =some y:=fun k y e hy=>by
  rw[mE (Ne.symm e),mJ]at hy;obtain⟨z,hz,rfl⟩:=mY.1 hy;rw[woken_by_blocked' rfl];exact hz
 refine⟨h.pos,hsz.trans h.size,h.sh,h.inv,h.phi,fun k y hy hk=>?_,fun k y hy h0 hm=>?_,fun k hk=>h.out k (by rwa[hsz]at hk),fun k hk=>h.above k (by rwa[hsz]at hk),h.tr,h.tok,h.dn,h.new⟩
 ·by_cases e:k=i
  ·subst e;rw[mF (by simpa using Qp)]at hy;cases hy;rw[hF];exact⟨h1,h2,h3,h4,h5,h6,_,x0,h7,h8,h9,.inr ⟨rfl,hS,hb⟩⟩
  ·exact h.th k y (hget k y e hy) hk
 ·exact h.old k y (hget k y (fun e=>by subst e;rcases hi with rfl|hi <;> omega) hy) h0 hm
end
theorem vd{K:Hp}{e:Event}(h:EvH K e)(a:Addr):MemAct.ofEvent e≠.mark (.release a):=by
 obtain⟨loc,wr,sy⟩:=e;cases loc with
 | mark m =>
  rcases h with h|⟨g,h⟩
  ·subst h;simp[MemAct.ofEvent]
  ·subst h;simp[MemAct.ofEvent]
 | obj r=>obtain⟨hs,_⟩:=h;simp only at hs;subst hs;cases wr <;> simp[MemAct.ofEvent]
 | cell a=>simp[MemAct.ofEvent]
 | _=>exact h.elim
theorem v8{e:Event}(h:e.mute=tt)(a:Addr):MemAct.ofEvent e≠.mark (.release a):=by
 obtain⟨loc,wr,sy⟩:=e;cases loc <;> simp_all[Event.mute];rename_i m;cases m <;> simp_all[MemAct.ofEvent]
theorem wX{i:Nat}{fn:FuncId}{pos:String}{es:Array Event}{q:Nat}{op:MemOp}(h:(MemOp.ofEvents i fn pos es)[q]? =some op):∃ e,es[q]? =some e/\op={ g:=i,fn,pos,act:=.ofEvent e }:=by
 rw[ofEvents_eq,mJ]at h;obtain⟨e,he,rfl⟩:=mY.1 h;exact⟨e,he,rfl⟩
section
variable {P:gP}{A:Aut}{shAt:gW->A.S->Prop}{S2:Nat->Prop}{aM aW:Addr}{GI:(Nat->Bool)->Hp->Prop}{all:Nat->Bool}{Stop:gG->Hp->Prop}
variable {Sb:Nat->Prop}{I:Nat->(Nat->A.T)->A.S->Prop}{Φ:Nat->(Nat->A.T)->A.S->Nat}
variable {m0:Nat}{gs:Array gG}{w w':gW}{t u:Trace}{j:Nat}{s s':A.S}{f:Nat->A.T}{F:Nat->WS}{L:Option Hp}{done:Nat->Bool}{φ:Nat}{sl:Option (Nat×Nat)}
def ShBy(S2:Nat->Prop){S:Type}(shAt:gW->S->Prop):Prop:=∀ w w' s,shAt w s->(∀ b,S2 b->w'.heap[b]? =w.heap[b]?)->shAt w' s
theorem MI.at(hs:ShBy S2 shAt)(h:(MI P A shAt S2 aM aW GI all Stop Sb I Φ) m0 gs w t j s f F L done φ)(d:Nat):(MI P A shAt S2 aM aW GI all Stop Sb I Φ) m0 gs (w.at d) t j s f F L done φ:=by
 refine⟨h.pos,h.size,hs w _ s h.sh fun b _=>rfl,h.inv,h.phi,fun i y hy hi=>?_,h.old,h.out,h.above,h.tr,h.tok,h.dn,h.new⟩;have:=h.th i y hy hi;cases e:F i with
 | go main qt S g H=>rw[e]at this;exact this
 | left n=>rw[e]at this;exact this
theorem MI.dom(h:(MI P A shAt S2 aM aW GI all Stop Sb I Φ) m0 gs w t j s f F L done φ):∀ k,(Thr m0 j k/\A.aft (f k)=ff)->∀ b x,(F k).hp b=some x->b<w.heap.size:=fun k hk b x hb=>(h.fits hk.1).lt hb
theorem MI.domL(h:(MI P A shAt S2 aM aW GI all Stop Sb I Φ) m0 gs w t j s f F L done φ):∀ K,L=some K->∀ b x,K b=some x->b<w.heap.size:=fun K hK b x hb=>by
 rcases h.tok with⟨K',h1,_,h2,_⟩|⟨h1,_⟩
 ·rw[h1]at hK;cases hK;exact h2.lt hb
 ·rw[h1]at hK;cases hK
theorem MI.local(hs:ShBy S2 shAt)(hSb:∀ b,S2 b->Sb b)(h:(MI P A shAt S2 aM aW GI all Stop Sb I Φ) m0 gs w t j s f F L done φ){i:Nat}(hi:Thr m0 j i){x x':gG}{main qt:Bool}{S:gG->Hp->Prop}{K:Hp}(hF:F i=.go main qt S x K)(hx:gs[i]? =some x){es:Array Event}
  (hS:StepH K w w' es) (hq:qt=tt->es=#[]/\w'=w) (hr:x'.status=.running) (hseg:Seg P main qt (LiveS A shAt) S x' (K.next w w')) :
  (MI P A shAt S2 aM aW GI all Stop Sb I Φ) m0 ((gs.map (woken P x x' w')).setIfInBounds i x') w' (t++MemOp.ofEvents i x.frame.fn x.frame.place es) j s f (upd F i (.go main qt S x' (K.next w w'))) L done φ:=by
 have hth:=h.th i x hx hi;rw[hF]at hth;obtain⟨h1,h2,h3,h4,h5,h6,k,x0,h7,h8,h9,h10⟩:=hth;have hq':A.aft (f i)=tt->es=#[]/\w'=w/\K.next w w'=fun _=>none:=fun ha=>by
  obtain⟨e1,e2⟩:=hq (h2.trans ha);refine⟨e1,e2,?_⟩;subst e2;rw[h6 ha];funext b;unfold Hp.next;simp only;split
  ·rename_i hge;rw[Array.getElem?_eq_none hge];rfl
  ·rfl
 have hfn:=h5.next hS;have hKs:∀ b x,K b=some x->¬ Sb b:=fun b z hb=>by
  cases ha:A.aft (f i)with
  | true=>rw[h6 ha]at hb;cases hb
  | false=>exact h.tr.sb i ⟨hi,ha⟩ b z (by rw[hF];exact hb)
 have hsh:shAt w' s:=hs w w' s h.sh fun b hb=>hS.kept b (h.tr.sbn b (hSb b hb)) fun o e=>hKs b _ e (hSb b hb);refine h.move hi (.inl hr) ya (fun _ _=>rfl) (fun k hk=>upd_ne F _ hk) hsh h.inv h.phi (mL _) ?_ (fun k' hk' ht' hf'=>?_) (fun _ _ _ hb=>.inl hb) (fun _ _ _ _=>rfl) ?_ ?_ h.dn h.new
 ·rw[upd_same];refine⟨h1,h2,h3,?_,hfn,fun ha=>(hq' ha).2.2,k,x0,h7,h8,h9,.inl ⟨rfl,hr,hseg⟩⟩;rw[Deaf_own];rw[deafBehind_still (fun e he=>vw (hS.evs e he))];exact h4
 ·refine hf'.other hS fun b o hb=>?_;cases ha:A.aft (f i)with
  | true=>rw[h6 ha]at hb;cases hb
  | false =>
   cases ha':A.aft (f k')with
   | true=>rw[h.hpn ht' ha']
   | false =>
    have:=h.tr.disj i k' b o ⟨hi,ha⟩ ⟨ht',ha'⟩ (Ne.symm hk') (by rw[hF];exact hb);exact this
 ·have hup:∀ k,(upd F i (.go main qt S x' (K.next w w')) k).hp=if k=i then K.next w w' else(F k).hp:=fun k=>by
   by_cases e:k=i
   ·subst e;rw[upd_same,if_pos rfl];rfl
   ·rw[upd_ne F _ e,if_neg e]
  refine h.tr.app (i:=i) (fun _ _ _ _=>hi) hS.size (fun k hk=>by rw[hup,if_neg hk]) (fun _ b rw' o hb=>?_) h.dom h.domL ya (fun op Qw=>?_) (fun op Qw=>?_) fun q op Qw b hb hm=>?_
  ·rw[hup,if_pos rfl]at hb;rw[hF];exact uJ hb
  ·obtain⟨e,he,rfl⟩:=Go.Conc.mem_ofEvents Qw;exact zac hfn (hS.evs e he)
  ·obtain⟨e,he,rfl⟩:=Go.Conc.mem_ofEvents Qw;exact vd (hS.evs e he)
  ·obtain⟨e,he,rfl⟩:=wX Qw;cases ha:A.aft (f i)with
   | true=>rw[(hq' ha).1]at he;simp at he
   | false =>
    left;have hl:=vL (hS.evs e (mH he)) hb hm;refine⟨?_,⟨hi,rfl⟩,by rw[hup,if_pos rfl];exact hl⟩;obtain⟨rw',o,hx',_⟩:=hl;rcases uJ hx' with⟨o',hold⟩|hge
    ·exact hKs _ _ hold
    ·exact fun hsb=>by have:=h.tr.sbn _ hsb;omega
 ·rcases h.tok with⟨K',h1',h2',h3',h4'⟩|ht
  ·refine .inl ⟨K',h1',h2',h3'.other hS fun b o hb=>?_,h4'⟩;cases ha:A.aft (f i)with
   | true=>rw[h6 ha]at hb;cases hb
   | false=>exact(h.tr.dl K' h1' i ⟨hi,ha⟩).1 b o (by rw[hF];exact hb)
  ·exact .inr ht
theorem MI.slip(h:(MI P A shAt S2 aM aW GI all Stop Sb I Φ) m0 gs w t j s f F L done φ){i:Nat}{x x':gG}(hi0:0<i)(hx:gs[i]? =some x){n:Nat}(hF:F i=.left (n+1)){es:Array Event}(hm:∀ e∈es,e.mute=tt)(hq:QuitsD P n (deafBehind (Deaf t i) es) x') :
  (MI P A shAt S2 aM aW GI all Stop Sb I Φ) m0 ((gs.map (woken P x x' w)).setIfInBounds i x') w (t++MemOp.ofEvents i x.frame.fn x.frame.place es) j s f (upd F i (.left n)) L done φ:=by
 have hsz:((gs.map (woken P x x' w)).setIfInBounds i x').size=gs.size:=by simp
 have Qp:=(mG.1 hx).1;have hdf:∀ k,k≠i->Deaf (t++MemOp.ofEvents i x.frame.fn x.frame.place es) k=Deaf t k:=fun k hk=>Deaf_other t (Ne.symm hk) _ ya;have hst:=QuitsD.status hq;have hhp:(fun k=>(upd F i (.left n) k).hp)=fun k=>(F k).hp:=by
  funext k;by_cases e:k=i
  ·subst e;rw[upd_same,hF];rfl
  ·rw[upd_ne F _ e]
 refine⟨h.pos,hsz.trans h.size,h.sh,h.inv,h.phi,fun k y hy hk=>?_,fun k y hy h0 hm0=>?_,fun k hk=>?_,fun k hk=>?_,?_,h.tok,h.dn,h.new⟩
 ·by_cases e:k=i
  ·subst e;rw[mF (by simpa using Qp)]at hy;cases hy;rw[upd_same];have:=h.th k x hx hk;rw[hF]at this;exact⟨this.1,by rw[Deaf_own];exact hq⟩
  ·rw[mE (Ne.symm e),mJ]at hy;obtain⟨z,hz,rfl⟩:=mY.1 hy;rw[upd_ne F _ e];exact zej (h.th k z hz hk) hst id (hdf k e) .inl (fun _=>rfl) (mL _)
 ·by_cases e:k=i
  ·subst e;rw[mF (by simpa using Qp)]at hy;cases hy;exact⟨n,upd_same F _ _,by rw[Deaf_own];exact hq⟩
  ·rw[mE (Ne.symm e),mJ]at hy;obtain⟨z,hz,rfl⟩:=mY.1 hy;obtain⟨n',h1,h2⟩:=h.old k z hz h0 hm0;exact⟨n',by rw[upd_ne F _ e];exact h1,by rw[woken_quitsD h2,hdf k e];exact h2⟩
 ·rw[hsz]at hk;rw[upd_ne F _ oQ];exact h.out k hk
 ·rw[hsz]at hk;rw[hdf k oQ];exact h.above k hk
 ·rw[hhp];have hnt:∀ op∈MemOp.ofEvents i x.frame.fn x.frame.place es,op.act.touch? =none:=fun op Qw=>by
   obtain⟨e,he,rfl⟩:=Go.Conc.mem_ofEvents Qw;exact touch_mute (hm e he)
  refine h.tr.app (i:=i) (fun op Qw b hb=>by rw[hnt op Qw]at hb;cases hb) (mL _) (fun _ _=>rfl) (fun _ b rw' o hb=>.inl ⟨o,hb⟩) h.dom h.domL ya (fun op Qw=>?_) (fun op Qw=>?_) fun q op Qw b hb=>by rw[hnt op (mH Qw)]at hb;cases hb
  ·obtain⟨e,he,rfl⟩:=Go.Conc.mem_ofEvents Qw;exact low_mute (hm e he) _
  ·obtain⟨e,he,rfl⟩:=Go.Conc.mem_ofEvents Qw;exact v8 (hm e he)
theorem zkF{main:Bool}{e:Event}(h:Tch main S2 e){b:Touch}(hb:(MemAct.ofEvent e).touch? =some b):S2 (blk b.loc)/\b.kind≠.plain/\(b.kind=.said->main=tt)/\(main=ff->b.kind=.atomic):=by
 rcases h with⟨a,x,rfl,ha⟩|⟨hm,a,hl,ha⟩
 ·have e1:(MemAct.ofEvent ⟨.cell a,x,tt⟩).touch? =some ⟨.cell a,x,.atomic⟩:=by simp[MemAct.ofEvent,MemAct.touch?]
  rw[e1]at hb;cases hb;exact⟨ha,by simp,fun e=>by simp at e,fun _=>rfl⟩
 ·obtain⟨loc,wr,sy⟩:=e;simp only at hl;subst hm;rcases hl with rfl|rfl
  ·simp only[MemAct.ofEvent,MemAct.touch?,Option.some.injEq]at hb;subst hb;exact⟨ha,by simp,fun _=>rfl,fun e=>by cases e⟩
  ·simp only[MemAct.ofEvent,MemAct.touch?,Option.some.injEq]at hb;subst hb;exact⟨ha,by simp,fun _=>rfl,fun e=>by cases e⟩
theorem zhG{main:Bool}{e:Event}(h:Tch main S2 e){n:Nat}(hn:∀ b,S2 b->b<n):(MemAct.ofEvent e).low n/\∀ a,MemAct.ofEvent e≠.mark (.release a):=by
 rcases h with⟨a,x,rfl,ha⟩|⟨hm,a,hl,ha⟩
 ·exact⟨hn _ ha,fun _=>by simp[MemAct.ofEvent]⟩
 ·obtain⟨loc,wr,sy⟩:=e;simp only at hl;rcases hl with rfl|rfl
  ·exact⟨hn _ ha,fun _=>by simp[MemAct.ofEvent]⟩
  ·exact⟨hn _ ha,fun _=>by simp[MemAct.ofEvent]⟩
theorem zmS{i k:Nat}{T:A.T}{x:Nat->Bool}{g:gG}{H:Hp}(h:(Sq P A shAt S2 aM aW GI all Stop) m0 i (k+1) T x g H) :
  Law P A shAt S2 aM aW GI all Stop (i==0) (if i=0 then(fun j ch Hc=>∀ k x,Seg P ff ff (LiveS A shAt) (AtW P A shAt S2 aM aW GI all Stop k j (A.st j) x) ch Hc)else fun _ _ _=>False) ((Sq P A shAt S2 aM aW GI all Stop) m0 i k) (if i=0 then 0 else i - m0) T x g H:=by
 unfold Sq at h ⊢;by_cases e:i=0
 ·subst e;exact h
 ·simp only[if_neg e]at h ⊢;rw[show(i==0)=ff by simp[e]];exact h
theorem MI.book(O:AOk A all I Φ)(hSb:∀ b,S2 b->Sb b)(h:(MI P A shAt S2 aM aW GI all Stop Sb I Φ) m0 gs w t j s f F L done φ){i:Nat}(hi:Thr m0 j i){x x':gG}{qt:Bool}{S:gG->Hp->Prop}{K:Hp}(hF:F i=.go (i==0) qt S x K)(hx:gs[i]? =some x){es:Array Event}{T':A.T}
  (hbk:A.kd (f i)=.book) (hmv:A.mv (f i) s T' s') (hE:Eff S2 w w') (hsh:shAt w' s') (hB:EvB (i==0) S2 (A.dl (f i)) (A.dl T') es) {k':Nat} {x0:Nat->Bool} (hk:φ<=k') (hx0:A.kd (f i)=.relL->x0=done) (hwk:A.wk (f i)->mayWake P x=tt)
  (hnx:(A.kd T'=.quit/\∃ n,QuitsD P n (A.dl T') x')\/(A.kd T'≠.quit/\x'.status=.running/\Seg P (i==0) (A.aft T') (LiveS A shAt) ((Sq P A shAt S2 aM aW GI all Stop) m0 i k' T' x0) x' K)) :
  ∃ F' φ',φ'<φ/\(MI P A shAt S2 aM aW GI all Stop Sb I Φ) m0 ((gs.map (woken P x x' w')).setIfInBounds i x') w' (t++MemOp.ofEvents i x.frame.fn x.frame.place es) j s' (upd f i T') F' L done φ':=by
 have hth:=h.th i x hx hi;rw[hF]at hth;obtain⟨h1,h2,h3,h4,h5,h6,k,x1,h7,h8,h9,h10⟩:=hth;obtain⟨hgq,hql⟩:=y7 h.pos hi;have hbk':A.kd ((fun q=>f (gid m0 q)) (qid m0 i))=.book:=by simp only[hgq];exact hbk
 obtain⟨i1,i2,i3,i4,i5,i6⟩:=O.mv h.inv hql hbk' (by simp only[hgq];exact hmv);rw[<- ug h.pos hi f T']at i1 i2;simp only[hgq]at i3 i5 i6;have Qp:=h.lt hi;have hs2:∀ b,S2 b->b<w.heap.size:=fun b hb=>h.tr.sbn b (hSb b hb);have hfit:∀{H:Hp},(∀ b x,H b=some x->¬ Sb b)->z5 H w->z5 H w':=fun hn hf b rw' o hb=>by
  rw[hE.block b fun hs=>hn b _ hb (hSb b hs)];exact hf b rw' o hb
 have hKs:∀ k,Thr m0 j k->∀ b z,(F k).hp b=some z->¬ Sb b:=fun k hk b z hb=>by
  cases ha:A.aft (f k)with
  | true=>rw[h.hpn hk ha]at hb;cases hb
  | false=>exact h.tr.sb k ⟨hk,ha⟩ b z hb
 have hact:(fun k=>Thr m0 j k/\A.aft (upd f i T' k)=ff)=fun k=>Thr m0 j k/\A.aft (f k)=ff:=by
  funext k;by_cases e:k=i
  ·subst e;rw[upd_same,i6]
  ·rw[upd_ne f _ e]
 have hg0:A.aft (f i)=tt->(i==0)=ff:=fun ha=>by
  by_cases e:i=0
  ·subst e;have:=(O.main h.inv).1;have e0:gid m0 0=0:=rfl;simp only[e0,ha]at this;cases this
  ·simp[e]
 have hE':∀ e∈es,∀ b,(MemAct.ofEvent e).touch? =some b->Tch (i==0) S2 e:=fun e he b hb=>(hB.all e he).elim (fun hm=>by rw[touch_mute hm]at hb;cases hb) id;have htr:∀ F':Nat->WS,(∀ k,k≠i->(F' k).hp=(F k).hp)->(A.aft (f i)=ff->(F' i).hp=(F i).hp)->TI Sb aM aW (t++MemOp.ofEvents i x.frame.fn x.frame.place es) w'.heap.size (fun k=>(F' k).hp) (fun k=>Thr m0 j k/\A.aft (upd f i T' k)=ff) (Thr m0 j) L:=fun F' e1 e2=>by
  rw[hact,hE.size];refine h.tr.app (i:=i) (fun _ _ _ _=>hi) (mL _) (fun k hk=>e1 k hk) (fun ha b rw' o hb=>.inl ⟨o,by rw[<- e2 ha.2];exact hb⟩) h.dom h.domL ya (fun op Qw=>?_) (fun op Qw=>?_) fun q op Qw b hb hm=>?_
  ·obtain⟨e,he,rfl⟩:=Go.Conc.mem_ofEvents Qw;exact(hB.all e he).elim (low_mute · _) fun ht=>(zhG ht hs2).1
  ·obtain⟨e,he,rfl⟩:=Go.Conc.mem_ofEvents Qw;exact(hB.all e he).elim v8 fun ht=>(zhG ht hs2).2
  ·obtain⟨e,he,rfl⟩:=wX Qw;obtain⟨t1,t2,t3,t4⟩:=zkF (hE' e (mH he) b hb) hb;right;refine⟨hSb _ t1,t2,fun hsd=>by simpa using t3 hsd,?_⟩;cases ha:A.aft (f i)with
   | false=>exact .inl ⟨hi,rfl⟩
   | true =>
    refine .inr ⟨t4 (hg0 ha),fun hh=>?_⟩;obtain⟨g,hg,hd0⟩:=hh;have hqs:q<es.size:=(mG.1 he).1;have hgi:g=i:=by
     unfold Trace.g? at hg;rw[Array.getElem?_append_right oQ,Nat.add_sub_cancel_left,Qw]at hg;simpa using hg.symm
    subst hgi;rw[deaf_inside t g _ _ es q (Nat.le_of_lt hqs),h4]at hd0;rcases hB.heard q e he with hn|hp
    ·rw[hn]at hb;cases hb
    ·omega
 have htok:(∃ K',L=some K'/\GI done K'/\z5 K' w'/\∀ k,Thr m0 j k->A.kd (upd f i T' k)≠.relL)\/(L=none/\∃ k,Thr m0 j k/\A.kd (upd f i T' k)=.relL):=by
  rcases h.tok with⟨K',g1,g2,g3,g4⟩|⟨g1,k0,g2,g3⟩
  ·refine .inl ⟨K',g1,g2,hfit (h.tr.sbL K' g1) g3,fun k hk=>?_⟩;by_cases e:k=i
   ·subst e;rw[upd_same];exact i4
   ·rw[upd_ne f _ e];exact g4 k hk
  ·refine .inr ⟨g1,k0,g2,?_⟩;rw[upd_ne f _ (fun e=>by subst e;rw[hbk]at g3;cases g3)];exact g3
 have hdn:∀ k,k<j->done k=(all k&&A.past (upd f i T' (m0+k))):=fun k hk=>by
  by_cases e:m0+k=i
  ·rw[e,upd_same,i5,<- e];exact h.dn k hk
  ·rw[upd_ne f _ e];exact h.dn k hk
 have hbl:∀ k,k≠i->Thr m0 j k->A.bl (f k) s->A.bl (f k) s'\/mayWake P x=tt:=fun k hk hkt hb=>by
  have:=i3 (qid m0 k) (y7 h.pos hkt).2 (fun e=>hk (by rw[<- (y7 h.pos hkt).1,e,hgq])) (by rw[(y7 h.pos hkt).1];exact hb);rw[(y7 h.pos hkt).1]at this;exact this.imp id hwk
 have hde:Deaf (t++MemOp.ofEvents i x.frame.fn x.frame.place es) i=A.dl T':=by rw[Deaf_own,h4];exact hB.deaf
 refine⟨?_,Φ j (fun q=>upd f i T' (gid m0 q)) s',mM i2 h.phi,?_⟩
 ·exact upd F i (open Classical in if hq:A.kd T'=.quit/\∃ n,QuitsD P n (A.dl T') x' then .left hq.2.choose else .go (i==0) (A.aft T') ((Sq P A shAt S2 aM aW GI all Stop) m0 i k' T' x0) x' K)
 have hst:x'.status=.running\/x'.status=.finished:=by
  rcases hnx with⟨_,n,hq⟩|⟨_,hr,_⟩
  ·exact QuitsD.status hq
  ·exact .inl hr
 refine h.move hi hst ya (fun k hk=>upd_ne f _ hk) (fun k hk=>upd_ne F _ hk) hsh i1 (mL _) (mT (Nat.le_of_lt i2) h.phi) ?_ (fun k hk ht hf=>hfit (hKs k ht) hf) hbl (fun _ _ _ _=>rfl) (htr _ (fun k hk=>by rw[upd_ne F _ hk]) fun ha=>?_) htok hdn h.new
 ·rw[upd_same,upd_same];split
  ·rename_i hq;exact⟨hq.1,by rw[hde];exact hq.2.choose_spec⟩
  ·rename_i hq;rcases hnx with hq'|⟨g1,g2,g3⟩
   ·exact absurd hq' hq
   ·refine⟨rfl,rfl,g1,hde,hfit (fun b z hb=>hKs i hi b z (by rw[hF];exact hb)) h5,fun ha=>h6 (by rw[<- i6];exact ha),k',x0,rfl,?_,fun e=>absurd e i4,.inl ⟨rfl,g2,g3⟩⟩;exact mM (mM i2 h.phi) hk
 ·rw[upd_same];split
  ·rename_i hq;have:=(O.quit hq.1).2;rw[i6,ha]at this;cases this
  ·rw[hF];rfl
end
section
variable {P:gP}{A:Aut}{shAt:gW->A.S->Prop}{S2:Nat->Prop}{aM aW:Addr}{GI:(Nat->Bool)->Hp->Prop}{all:Nat->Bool}{Stop:gG->Hp->Prop}
variable {Sb:Nat->Prop}{I:Nat->(Nat->A.T)->A.S->Prop}{Φ:Nat->(Nat->A.T)->A.S->Nat}
variable {m0:Nat}{gs:Array gG}{w w':gW}{t u:Trace}{j:Nat}{s s':A.S}{f:Nat->A.T}{F:Nat->WS}{L:Option Hp}{done:Nat->Bool}{φ:Nat}{sl:Option (Nat×Nat)}
theorem vo(g:Nat)(fn:FuncId)(pos:String)(m:Mark):MemOp.ofEvents g fn pos #[Go.ConcR.mk m]=#[{ g,fn,pos,act:=.mark m }]:=by rw[ofEvents_eq];simp[Go.ConcR.mk,MemAct.ofEvent]
theorem zb7(t:Trace)(i:Nat)(fn:FuncId)(pos:String){m:Mark}(h1:m≠.disable)(h2:m≠.enable):Deaf (t++MemOp.ofEvents i fn pos #[Go.ConcR.mk m]) i=Deaf t i:=by
 rw[Deaf_own];exact deafBehind_still (fun e he=>by
  have:e=Go.ConcR.mk m:=by simpa using he
  rw[this];exact⟨fun x=>h1 (by simpa[Go.ConcR.mk]using x),fun x=>h2 (by simpa[Go.ConcR.mk]using x)⟩) _
theorem u9{H K:Hp}(h1:z5 H w)(h2:z5 K w):Agrees H K:=fun b r1 o1 r2 o2 e1 e2=>by
 have:=h1 b r1 o1 e1;rw[h2 b r2 o2 e2]at this;exact(Option.some.inj this).symm
theorem zdY{H K:Hp}(h1:z5 H w)(h2:z5 K w):z5 (H.join K) w:=fun b rw' o hb=>by
 rcases vm hb with hb|⟨_,hb⟩
 ·exact h1 b rw' o hb
 ·exact h2 b rw' o hb
theorem zaA{H K:Hp}(h1:z5 H w)(h2:K.Sub H):z5 K w:=fun b rw' o hb=>by
 obtain⟨r,hx,_⟩:=h2 b rw' o hb;exact h1 b r o hx
theorem MI.acqL(O:AOk A all I Φ)(hM:∀ b,b=aM.block->Sb b)(h:(MI P A shAt S2 aM aW GI all Stop Sb I Φ) m0 gs w t j s f F L done φ){i:Nat}(hi:Thr m0 j i){x x':gG}{main qt:Bool}{S:gG->Hp->Prop}{K:Hp}(hF:F i=.go main qt S x K)(hx:gs[i]? =some x)
  (hkd:A.kd (f i)=.acqL) {k':Nat} (hk:φ<=k') (hr:x'.status=.running) (hnx:∀ L',GI done L'->done (i - m0)=ff->K.Dis L'->Agrees K L'->Seg P main ff (LiveS A shAt) ((Sq P A shAt S2 aM aW GI all Stop) m0 i k' (A.nx (f i)) done) x' (K.join L')) :
  ∃ F' L' φ',φ'<φ/\(MI P A shAt S2 aM aW GI all Stop Sb I Φ) m0 ((gs.map (woken P x x' w)).setIfInBounds i x') w (t++MemOp.ofEvents i x.frame.fn x.frame.place #[Go.ConcR.mk (.acquire aM)]) j s (upd f i (A.nx (f i))) F' L' done φ':=by
 have hth:=h.th i x hx hi;rw[hF]at hth;obtain⟨h1,h2,h3,h4,h5,h6,k,x1,h7,h8,h9,h10⟩:=hth;obtain⟨hgq,hql⟩:=y7 h.pos hi;have hkd':A.kd ((fun q=>f (gid m0 q)) (qid m0 i))=.acqL:=by simp only[hgq];exact hkd
 obtain⟨i1,i2,i3,i4,i5,i6,i7⟩:=O.nx h.inv hql (.inl hkd');obtain⟨n1,n2,n3,n4,n5⟩:=O.acqL h.inv hql hkd';simp only[hgq]at i1 i2 i4 i5 i6 i7 n2 n3 n4 n5;rw[<- ug h.pos hi f (A.nx (f i))]at i1 i2;have hi0:m0<=i/\i<m0+j:=by
  rcases hi with rfl|hi
  ·simp[qid]at i3
  ·exact hi
 obtain⟨K',t1,t2,t3,_⟩:∃ K',L=some K'/\GI done K'/\z5 K' w/\∀ i,Thr m0 j i->A.kd (f i)≠.relL:=by
  rcases h.tok with ht|⟨_,k0,g2,g3⟩
  ·exact ht
  ·exact absurd (by simp only[(y7 h.pos g2).1];exact g3) (n1 _ (y7 h.pos g2).2)
 subst t1;have hdi:K.Dis K':=by
  have:=h.tr.dl K' rfl i ⟨hi,i7⟩;rw[hF]at this;exact this
 have hdone:done (i - m0)=ff:=by
  rw[h.dn (i - m0) oQ,show m0+(i - m0)=i by omega,n3,Bool.and_false]
 have hseg:=hnx K' t2 hdone hdi (u9 h5 t3);have hhp:(fun k=>(upd F i (.go main ff ((Sq P A shAt S2 aM aW GI all Stop) m0 i k' (A.nx (f i)) done) x' (K.join K')) k).hp)=fun k=>if k=i then(F i).hp.join K' else(F k).hp:=by
  funext k;by_cases e:k=i
  ·subst e;rw[upd_same,if_pos rfl,hF];rfl
  ·rw[upd_ne F _ e,if_neg e]
 refine⟨upd F i (.go main ff ((Sq P A shAt S2 aM aW GI all Stop) m0 i k' (A.nx (f i)) done) x' (K.join K')),none,Φ j (fun q=>upd f i (A.nx (f i)) (gid m0 q)) s,mM i2 h.phi,?_⟩;refine h.move hi (.inl hr) ya (fun k hk=>upd_ne f _ hk) (fun k hk=>upd_ne F _ hk) h.sh i1 (mL _) (mT (Nat.le_of_lt i2) h.phi) ?_ (fun _ _ _=>id) (fun _ _ _=>.inl) (fun _ _ _ _=>rfl) ?_ (.inr ⟨rfl,i,hi,by rw[upd_same];exact n2⟩) (fun k hk=>?_) h.new
 ·rw[upd_same,upd_same];refine⟨h1,n5.symm,i6,?_,zdY h5 t3,fun ha=>absurd ha (by rw[n5];simp),k',done,rfl,mM (mM i2 h.phi) hk,fun _=>rfl,.inl ⟨rfl,hr,hseg⟩⟩;rw[zb7 t i _ _ sQ sQ,h4,i4,i5]
 ·rw[hhp,vo];have:=h.tr.acqM (z:={ g:=i,fn:=x.frame.fn,pos:=x.frame.place,act:=.mark (.acquire aM) }) h.dom (h.domL K' rfl) ⟨hi,i7⟩ rfl (by show Deaf t i=0;rw[h4,i4]) (h.tr.sbn _ (hM _ rfl));have hact:(fun k=>Thr m0 j k/\A.aft (upd f i (A.nx (f i)) k)=ff)=fun k=>Thr m0 j k/\A.aft (f k)=ff:=by
   funext k;by_cases e:k=i
   ·subst e;rw[upd_same,n5,i7]
   ·rw[upd_ne f _ e]
  rw[hact];exact this
 ·by_cases e:m0+k=i
  ·rw[h.dn k hk,e,upd_same,n3,n4]
  ·rw[upd_ne f _ e];exact h.dn k hk
theorem MI.relL(O:AOk A all I Φ)(hM:∀ b,b=aM.block->Sb b)(h:(MI P A shAt S2 aM aW GI all Stop Sb I Φ) m0 gs w t j s f F L done φ){i:Nat}(hi:Thr m0 j i){x x':gG}{main qt:Bool}{S:gG->Hp->Prop}{K H' L':Hp}(hF:F i=.go main qt S x K)(hx:gs[i]? =some x)
  (hkd:A.kd (f i)=.relL) {k':Nat} (hk:φ<=k') (hr:x'.status=.running) (e1:H'.Sub K) (e2:L'.Sub K) (e3:H'.Dis L') (hG:GI (upd done (i - m0) tt) L') {x0:Nat->Bool} (hnx:Seg P main ff (LiveS A shAt) ((Sq P A shAt S2 aM aW GI all Stop) m0 i k' (A.nx (f i)) x0) x' H') :
  ∃ F' L' done' φ',φ'<φ/\(MI P A shAt S2 aM aW GI all Stop Sb I Φ) m0 ((gs.map (woken P x x' w)).setIfInBounds i x') w (t++MemOp.ofEvents i x.frame.fn x.frame.place #[Go.ConcR.mk (.releaseMerge aM)]) j s (upd f i (A.nx (f i))) F' L' done' φ':=by
 have hth:=h.th i x hx hi;rw[hF]at hth;obtain⟨h1,h2,h3,h4,h5,h6,k,x1,h7,h8,h9,h10⟩:=hth;obtain⟨hgq,hql⟩:=y7 h.pos hi;have hkd':A.kd ((fun q=>f (gid m0 q)) (qid m0 i))=.relL:=by simp only[hgq];exact hkd
 obtain⟨i1,i2,i3,i4,i5,i6,i7⟩:=O.nx h.inv hql (.inr (.inl hkd'));obtain⟨n1,n2,n3,n4,n5⟩:=O.relL h.inv hql hkd';simp only[hgq]at i1 i2 i4 i5 i6 i7 n2 n3 n4;rw[<- ug h.pos hi f (A.nx (f i))]at i1 i2;have hi0:m0<=i/\i<m0+j:=by
  rcases hi with rfl|hi
  ·simp[qid]at i3
  ·exact hi
 have hqi:qid m0 i - 1=i - m0:=by unfold qid;rw[if_neg (by have:=h.pos;omega)];omega
 rw[hqi]at n5;have hLn:L=none:=by
  rcases h.tok with⟨K',_,_,_,g4⟩|⟨g1,_⟩
  ·exact absurd hkd (g4 i hi)
  ·exact g1
 subst hLn;have hothers:∀ k,k≠i->Thr m0 j k->A.kd (f k)≠.relL:=fun k hk hkt=>by
  have:=n1 (qid m0 k) (y7 h.pos hkt).2 (fun e=>hk (by rw[<- (y7 h.pos hkt).1,e,hgq]));simp only[(y7 h.pos hkt).1]at this;exact this
 have hhp:(fun k=>(upd F i (.go main ff ((Sq P A shAt S2 aM aW GI all Stop) m0 i k' (A.nx (f i)) x0) x' H') k).hp)=fun k=>if k=i then H' else(F k).hp:=by
  funext k;by_cases e:k=i
  ·subst e;rw[upd_same,if_pos rfl];rfl
  ·rw[upd_ne F _ e,if_neg e]
 refine⟨upd F i (.go main ff ((Sq P A shAt S2 aM aW GI all Stop) m0 i k' (A.nx (f i)) x0) x' H'),some L',upd done (i - m0) tt,Φ j (fun q=>upd f i (A.nx (f i)) (gid m0 q)) s,mM i2 h.phi,?_⟩;refine h.move hi (.inl hr) ya (fun k hk=>upd_ne f _ hk) (fun k hk=>upd_ne F _ hk) h.sh i1 (mL _) (mT (Nat.le_of_lt i2) h.phi) ?_ (fun _ _ _=>id) (fun _ _ _=>.inl) (fun k hk hkt e=>absurd e (hothers k hk hkt)) ?_ (.inl ⟨L',rfl,hG,zaA h5 e2,fun k hk=>?_⟩) (fun k hk=>?_) fun k hk=>?_
 ·rw[upd_same,upd_same];refine⟨h1,n4.symm,i6,?_,zaA h5 e1,fun ha=>absurd ha (by rw[n4];simp),k',x0,rfl,mM (mM i2 h.phi) hk,fun e=>absurd e n2,.inl ⟨rfl,hr,hnx⟩⟩;rw[zb7 t i _ _ sQ sQ,h4,i4,i5]
 ·rw[hhp,vo];have:=h.tr.relM (z:={ g:=i,fn:=x.frame.fn,pos:=x.frame.place,act:=.mark (.releaseMerge aM) }) h.dom ⟨hi,i7⟩ rfl (by show Deaf t i=0;rw[h4,i4]) (h.tr.sbn _ (hM _ rfl)) (H':=H') (L':=L') (by rw[hF];exact e1) (by rw[hF];exact e2) e3;have hact:(fun k=>Thr m0 j k/\A.aft (upd f i (A.nx (f i)) k)=ff)=fun k=>Thr m0 j k/\A.aft (f k)=ff:=by
   funext k;by_cases e:k=i
   ·subst e;rw[upd_same,n4,i7]
   ·rw[upd_ne f _ e]
  rw[hact];exact this
 ·by_cases e:k=i
  ·subst e;rw[upd_same];exact n2
  ·rw[upd_ne f _ e];exact hothers k e hk
 ·by_cases e:m0+k=i
  ·rw[show k=i - m0 by omega,upd_same,show m0+(i - m0)=i by omega,upd_same,n3,n5];rfl
  ·rw[upd_ne done _ oQ,upd_ne f _ e];exact h.dn k hk
 ·rw[upd_ne done _ oQ];exact h.new k hk
theorem MI.relW(O:AOk A all I Φ)(hW:∀ b,b=aW.block->Sb b)(h:(MI P A shAt S2 aM aW GI all Stop Sb I Φ) m0 gs w t j s f F L done φ){i:Nat}(hi:Thr m0 j i){x x':gG}{main qt:Bool}{S:gG->Hp->Prop}{K:Hp}(hF:F i=.go main qt S x K)(hx:gs[i]? =some x)
  (hkd:A.kd (f i)=.relW) {k':Nat} (hk:φ<=k') (hr:x'.status=.running) {x0:Nat->Bool} (hnx:Seg P main tt (LiveS A shAt) ((Sq P A shAt S2 aM aW GI all Stop) m0 i k' (A.nx (f i)) x0) x' (fun _=>none)) :
  ∃ F' φ',φ'<φ/\(MI P A shAt S2 aM aW GI all Stop Sb I Φ) m0 ((gs.map (woken P x x' w)).setIfInBounds i x') w (t++MemOp.ofEvents i x.frame.fn x.frame.place #[Go.ConcR.mk (.releaseMerge aW)]) j s (upd f i (A.nx (f i))) F' L done φ':=by
 have hth:=h.th i x hx hi;rw[hF]at hth;obtain⟨h1,h2,h3,h4,h5,h6,k,x1,h7,h8,h9,h10⟩:=hth;obtain⟨hgq,hql⟩:=y7 h.pos hi;have hkd':A.kd ((fun q=>f (gid m0 q)) (qid m0 i))=.relW:=by simp only[hgq];exact hkd
 obtain⟨i1,i2,i3,i4,i5,i6,i7⟩:=O.nx h.inv hql (.inr (.inr hkd'));obtain⟨n1,n2,n3⟩:=O.relW h.inv hql hkd';simp only[hgq]at i1 i2 i4 i5 i6 i7 n1 n2 n3;rw[<- ug h.pos hi f (A.nx (f i))]at i1 i2;refine⟨upd F i (.go main tt ((Sq P A shAt S2 aM aW GI all Stop) m0 i k' (A.nx (f i)) x0) x' (fun _=>none)),Φ j (fun q=>upd f i (A.nx (f i)) (gid m0 q)) s,mM i2 h.phi,?_⟩;refine h.move hi (.inl hr) ya (fun k hk=>upd_ne f _ hk) (fun k hk=>upd_ne F _ hk) h.sh i1 (mL _) (mT (Nat.le_of_lt i2) h.phi) ?_ (fun _ _ _=>id) (fun _ _ _=>.inl) (fun _ _ _ _=>rfl) ?_ ?_ (fun k hk=>?_) h.new
 ·rw[upd_same,upd_same];refine⟨h1,n3.symm,i6,?_,fun b rw' o hb=>(by cases hb),fun _=>rfl,k',x0,rfl,mM (mM i2 h.phi) hk,fun e=>absurd e n1,.inl ⟨rfl,hr,hnx⟩⟩;rw[zb7 t i _ _ sQ sQ,h4,i4,i5]
 ·rw[vo];refine h.tr.relW (z:={ g:=i,fn:=x.frame.fn,pos:=x.frame.place,act:=.mark (.releaseMerge aW) }) h.dom h.domL ⟨hi,i7⟩ rfl (by show Deaf t i=0;rw[h4,i4]) (h.tr.sbn _ (hW _ Z)) (fun k=>?_) fun k hk=>by rw[upd_ne F _ hk]
  by_cases e:k=i
  ·subst e;rw[upd_same,n3];exact⟨fun x=>absurd x.2 sQ,fun x=>absurd rfl x.2⟩
  ·rw[upd_ne f _ e];exact⟨fun x=>⟨x,e⟩,fun x=>x.1⟩
 ·rcases h.tok with⟨K',g1,g2,g3,g4⟩|⟨g1,k0,g2,g3⟩
  ·refine .inl ⟨K',g1,g2,g3,fun k hk=>?_⟩;by_cases e:k=i
   ·subst e;rw[upd_same];exact n1
   ·rw[upd_ne f _ e];exact g4 k hk
  ·refine .inr ⟨g1,k0,g2,?_⟩;rw[upd_ne f _ (fun e=>by subst e;rw[hkd]at g3;cases g3)];exact g3
 ·by_cases e:m0+k=i
  ·rw[e,upd_same,n2,<- e];exact h.dn k hk
  ·rw[upd_ne f _ e];exact h.dn k hk
theorem MI.fork(O:AOk A all I Φ)(h:(MI P A shAt S2 aM aW GI all Stop Sb I Φ) m0 gs w t j s f F L done φ){x x' ch:gG}{qt:Bool}{S:gG->Hp->Prop}{K H₂ Hc:Hp}(hF:F 0=.go tt qt S x K)(hx:gs[0]? =some x)
  (hkd:A.kd (f 0)=.fork) {k':Nat} (hk:φ<=k') (hr:x'.status=.running) (hrc:ch.status=.running) {es:Array Event} (hes:∀ e∈es,EvH K e) (e1:H₂.Sub K) (e2:Hc.Sub K) (e3:H₂.Dis Hc)
  (hch:∀ k x,Seg P ff ff (LiveS A shAt) (AtW P A shAt S2 aM aW GI all Stop k j (A.st j) x) ch Hc) {x0:Nat->Bool} (hnx:Seg P tt ff (LiveS A shAt) ((Sq P A shAt S2 aM aW GI all Stop) m0 0 k' (A.nx (f 0)) x0) x' H₂) {fn fn':FuncId} {pos pos':String} :
  ∃ F' φ',φ'<φ/\(MI P A shAt S2 aM aW GI all Stop Sb I Φ) m0 ((gs.setIfInBounds 0 x').push ch) w (t++((MemOp.ofEvents 0 fn pos es).push { g:=0,fn,pos,act:=.go gs.size }).push { g:=gs.size,fn:=fn',pos:=pos',act:=.start }) (j+1) s (upd (upd f 0 (A.nx (f 0))) gs.size (A.st j)) F' L done φ':=by
 have hi:Thr m0 j 0:=.inl rfl;have hth:=h.th 0 x hx hi;rw[hF]at hth;obtain⟨h1,h2,h3,h4,h5,h6,k,x1,h7,h8,h9,h10⟩:=hth;obtain⟨n1,i1,i2,n2,n3,n4,n5,n6,n7,n8,n9,n10,n11⟩:=O.fork (f:=fun q=>f (gid m0 q)) h.inv hkd;have e0:gid m0 0=0:=rfl;simp only[e0]at n2 n3 n4 n5 n6 i1 i2;have hsz:=h.size;have Qx:=h.pos;have haft0:A.aft (f 0)=ff:=by have:=(O.main h.inv).1;exact this
 have hgu:upd (upd (fun q=>f (gid m0 q)) 0 (A.nx (f 0))) (j+1) (A.st j)=fun q=>upd (upd f 0 (A.nx (f 0))) gs.size (A.st j) (gid m0 q):=by
  have a1:=ug (j:=j+1) Qx (i:=gs.size) (.inr oQ) (upd f 0 (A.nx (f 0))) (A.st j);have a2:=ug Qx hi f (A.nx (f 0));rw[a1,a2];have:qid m0 gs.size=j+1:=by unfold qid;rw[if_neg oQ];omega
  rw[this];rfl
 rw[hgu]at i1 i2;have et:t++((MemOp.ofEvents 0 fn pos es).push { g:=0,fn,pos,act:=.go gs.size }).push { g:=gs.size,fn:=fn',pos:=pos',act:=.start }=t++MemOp.ofEvents 0 fn pos es++#[{ g:=0,fn,pos,act:=.go gs.size }]++#[{ g:=gs.size,fn:=fn',pos:=pos',act:=.start }]:=by
  simp only[Array.push_eq_append,Array.append_assoc]
 have m1:∀ op∈(#[{ g:=0,fn,pos,act:=.go gs.size }]:Array MemOp),op.act≠.mark .disable/\op.act≠.mark .enable:=fun op Qw=>by simp only[List.mem_toArray,lS]at Qw;subst Qw;exact⟨by simp,by simp⟩
 have m2:∀ op∈(#[{ g:=gs.size,fn:=fn',pos:=pos',act:=.start }]:Array MemOp),op.act≠.mark .disable/\op.act≠.mark .enable:=fun op Qw=>by simp only[List.mem_toArray,lS]at Qw;subst Qw;exact⟨by simp,by simp⟩
 have hd0:Deaf (t++MemOp.ofEvents 0 fn pos es) 0=0:=by
  rw[Deaf_own,deafBehind_still (fun e he=>vw (hes e he)),h4,n5]
 have hdeaf:∀ k,k≠0->Deaf (t++MemOp.ofEvents 0 fn pos es++#[{ g:=0,fn,pos,act:=.go gs.size }]++#[{ g:=gs.size,fn:=fn',pos:=pos',act:=.start }]) k=Deaf t k:=fun k hk=>by
  rw[yS m2,yS m1,Deaf_other t (Ne.symm hk) _ ya]
 have hKs:∀ b z,K b=some z->¬ Sb b:=fun b z hb=>h.tr.sb 0 ⟨hi,haft0⟩ b z (by rw[hF];exact hb);have hT1:TI Sb aM aW (t++MemOp.ofEvents 0 fn pos es) w.heap.size (fun i=>(F i).hp) (fun i=>Thr m0 j i/\A.aft (f i)=ff) (Thr m0 j) L:=by
  refine h.tr.app (i:=0) (fun _ _ _ _=>hi) (mL _) (fun _ _=>rfl) (fun _ b rw' o hb=>.inl ⟨o,hb⟩) h.dom h.domL ya (fun op Qw=>?_) (fun op Qw=>?_) fun q op Qw b hb hm=>?_
  ·obtain⟨e,he,rfl⟩:=Go.Conc.mem_ofEvents Qw;exact zac h5 (hes e he)
  ·obtain⟨e,he,rfl⟩:=Go.Conc.mem_ofEvents Qw;exact vd (hes e he)
  ·obtain⟨e,he,rfl⟩:=wX Qw;left;have hl:=vL (hes e (mH he)) hb hm;refine⟨?_,⟨hi,haft0⟩,by rw[hF];exact hl⟩;obtain⟨rw',o,hx',_⟩:=hl;exact hKs _ _ hx'
 have hF':∀ k,k≠0->k≠gs.size->upd (upd F 0 (.go tt ff ((Sq P A shAt S2 aM aW GI all Stop) m0 0 k' (A.nx (f 0)) x0) x' H₂)) gs.size (.go ff ff ((Sq P A shAt S2 aM aW GI all Stop) m0 gs.size (k'+1) (A.st j) x0) ch Hc) k=F k:=fun k a b=>by rw[upd_ne _ _ b,upd_ne _ _ a]
 have hF0:upd (upd F 0 (.go tt ff ((Sq P A shAt S2 aM aW GI all Stop) m0 0 k' (A.nx (f 0)) x0) x' H₂)) gs.size (.go ff ff ((Sq P A shAt S2 aM aW GI all Stop) m0 gs.size (k'+1) (A.st j) x0) ch Hc) 0=.go tt ff ((Sq P A shAt S2 aM aW GI all Stop) m0 0 k' (A.nx (f 0)) x0) x' H₂:=by rw[upd_ne _ _ oQ,upd_same]
 have hFc:upd (upd F 0 (.go tt ff ((Sq P A shAt S2 aM aW GI all Stop) m0 0 k' (A.nx (f 0)) x0) x' H₂)) gs.size (.go ff ff ((Sq P A shAt S2 aM aW GI all Stop) m0 gs.size (k'+1) (A.st j) x0) ch Hc) gs.size=.go ff ff ((Sq P A shAt S2 aM aW GI all Stop) m0 gs.size (k'+1) (A.st j) x0) ch Hc:=upd_same _ _ _;have hf':∀ k,k≠0->k≠gs.size->upd (upd f 0 (A.nx (f 0))) gs.size (A.st j) k=f k:=fun k a b=>by rw[upd_ne _ _ b,upd_ne _ _ a]
 have hf0:upd (upd f 0 (A.nx (f 0))) gs.size (A.st j) 0=A.nx (f 0):=by rw[upd_ne _ _ oQ,upd_same]
 have hfc:upd (upd f 0 (A.nx (f 0))) gs.size (A.st j) gs.size=A.st j:=upd_same _ _ _;have hthr:∀ k,Thr m0 (j+1) k↔Thr m0 j k\/k=gs.size:=fun k=>by unfold Thr;omega
 have hgf:∀{H:Hp},H.Sub K->z5 H w:=fun hs=>zaA h5 hs;refine⟨upd (upd F 0 (.go tt ff ((Sq P A shAt S2 aM aW GI all Stop) m0 0 k' (A.nx (f 0)) x0) x' H₂)) gs.size (.go ff ff ((Sq P A shAt S2 aM aW GI all Stop) m0 gs.size (k'+1) (A.st j) x0) ch Hc),Φ (j+1) (fun q=>upd (upd f 0 (A.nx (f 0))) gs.size (A.st j) (gid m0 q)) s,mM i2 h.phi,?_⟩;rw[et];have hphi:Φ (j+1) (fun q=>upd (upd f 0 (A.nx (f 0))) gs.size (A.st j) (gid m0 q)) s<k':=mM (mM i2 h.phi) hk;refine⟨Qx,by simp;omega,h.sh,i1,mL _,fun i y hy hti=>?_,fun i y hy hi0 hm=>?_,fun i hi'=>?_,fun k hk'=>?_,?_,?_,fun k hk'=>?_,fun k hk'=>h.new k oQ⟩
 ·rw[Array.getElem?_push]at hy;split at hy
  ·rename_i hkg;cases hy;have hkg':i=gs.size:=by simpa using hkg
   subst hkg';rw[hfc,hFc];refine⟨(beq_eq_false_iff_ne.2 (show gs.size≠0 by omega)).symm,n9.symm,n8,by rw[hdeaf _ oQ,h.above _ (mL _),n10],hgf e2,fun ha=>absurd ha (by rw[n9];simp),k'+1,x0,rfl,oQ,fun e=>absurd e n7,.inl ⟨rfl,hrc,?_⟩⟩;have:=hch (k'+1) x0;unfold Sq;rw[if_neg oQ,show gs.size - m0=j by omega];exact this
  ·rename_i hkg;have hkg':i≠gs.size:=by simpa using hkg
   rcases Nat.eq_zero_or_pos i with rfl|hip
   ·rw[mF oQ]at hy;cases hy;rw[hf0,hF0];refine⟨rfl,n4.symm,n3,?_,hgf e1,fun ha=>absurd ha (by rw[n4];simp),k',x0,rfl,hphi,fun e=>absurd e n2,.inl ⟨rfl,hr,hnx⟩⟩;rw[yS m2,yS m1,hd0,n6]
   ·rw[mE oQ]at hy;rw[hf' i oQ hkg',hF' i oQ hkg'];have hti':Thr m0 j i:=((hthr i).1 hti).resolve_right hkg';have:=h.th i y hy hti';cases e:F i with
    | go a b c d e' =>
     rw[e]at this;obtain⟨g1,g2,g3,g4,g5,g6,k2,y2,g7,g8,g9,g10⟩:=this;exact⟨g1,g2,g3,(hdeaf i oQ).trans g4,g5,g6,k2,y2,g7,by have:=h.phi;omega,g9,g10⟩
    | left n =>
     rw[e]at this;exact⟨this.1,by rw[hdeaf i oQ];exact this.2⟩
 ·rw[Array.getElem?_push]at hy;have:i≠gs.size:=by omega
  rw[if_neg (by simpa using this),mE oQ]at hy;obtain⟨n,a1,a2⟩:=h.old i y hy hi0 hm;exact⟨n,by rw[hF' i oQ this];exact a1,by rw[hdeaf i oQ];exact a2⟩
 ·have hi'':gs.size+1<=i:=by simpa using hi'
  rw[hF' i oQ oQ];exact h.out i oQ
 ·have hk'':gs.size+1<=k:=by simpa using hk'
  rw[hdeaf k oQ];exact h.above k oQ
 ·refine hT1.spawn (c:=gs.size) h.dom h.domL ⟨hi,haft0⟩ oQ (fun hl=>by unfold Thr at hl;omega) hd0 (by rw[Deaf_other t (g':=0) oQ _ ya];exact h.above _ (mL _)) ⟨rfl,rfl⟩ ⟨rfl,rfl⟩ (fun k=>?_) hthr (fun k a b=>?_) ?_ ?_ ?_
  ·rw[hthr];by_cases e:k=gs.size
   ·subst e;rw[hfc];simp[n9]
   ·by_cases e':k=0
    ·subst e';rw[hf0];simp[n4,haft0]
    ·rw[hf' k e' e];simp[e]
  ·show(upd (upd F 0 _) gs.size _ k).hp=_;rw[hF' k a b]
  ·show((upd (upd F 0 _) gs.size _ 0).hp).Sub _;rw[hF0,hF];exact e1
  ·show((upd (upd F 0 _) gs.size _ gs.size).hp).Sub _;rw[hFc,hF];exact e2
  ·show((upd (upd F 0 _) gs.size _ 0).hp).Dis (upd (upd F 0 _) gs.size _ gs.size).hp;rw[hF0,hFc];exact e3
 ·rcases h.tok with⟨K',g1,g2,g3,g4⟩|⟨g1,k0,g2,g3⟩
  ·refine .inl ⟨K',g1,g2,g3,fun k hk'=>?_⟩;by_cases e:k=gs.size
   ·subst e;rw[hfc];exact n7
   ·by_cases e':k=0
    ·subst e';rw[hf0];exact n2
    ·rw[hf' k e' e];exact g4 k (((hthr k).1 hk').resolve_right e)
  ·refine .inr ⟨g1,k0,(hthr k0).2 (.inl g2),?_⟩;rw[hf' k0 (fun e=>by subst e;rw[hkd]at g3;cases g3) (fun e=>by subst e;unfold Thr at g2;omega)];exact g3
 ·by_cases e:k=j
  ·subst e;rw[show m0+k=gs.size by omega,hfc,n11];exact h.new k (mL _)
  ·rw[hf' (m0+k) oQ oQ];exact h.dn k oQ
end
def Met(P:gP)(Sb:Nat->Prop)(Stop:gG->Hp->Prop)(w₀:gW)(m:Machine)(t:Trace):Prop :=
 ∃(N:Nat)(gs':Array gG)(w':gW)(sl':Option (Nat×Nat))(t':Trace)(q':Nat->Nat)(a':gG)(H':Hp),
  runNT P N m t=(.next (crowd gs' w' sl'),t')/\gs'[0]? =some a'/\a'.status=.running/\Stop a' H'/\z5 H' w'/\Leavers P t' gs' q'/\Past (fun l=>Sb (blk l)) w'.heap.size t'/\(∀ k a,t'.act? k≠some (.mark (.release a)))/\(∀ b x,H' b=some x->¬ Sb b)/\(∀ b,Sb b->b<w'.heap.size) /\
   w'.tape=w₀.tape/\OsLater w₀.os w'.os/\w'.output=w₀.output
section
variable {P:gP}{A:Aut}{shAt:gW->A.S->Prop}{S2:Nat->Prop}{aM aW:Addr}{GI:(Nat->Bool)->Hp->Prop}{all:Nat->Bool}{Stop:gG->Hp->Prop}
variable {Sb:Nat->Prop}{I:Nat->(Nat->A.T)->A.S->Prop}{Φ:Nat->(Nat->A.T)->A.S->Nat}
variable {m0:Nat}{gs:Array gG}{w w':gW}{t u:Trace}{j:Nat}{s s':A.S}{f:Nat->A.T}{F:Nat->WS}{L:Option Hp}{done:Nat->Bool}{φ:Nat}{sl:Option (Nat×Nat)}
theorem Met.step{w₀:gW}{m m':Machine}{t u:Trace}(h:stepT P m=(.next m',u))(h':Met P Sb Stop w₀ m' (t++u)):Met P Sb Stop w₀ m t:=by
 obtain⟨N,gs',w',sl',t',q',a',H',hr,r⟩:=h';exact⟨N+1,gs',w',sl',t',q',a',H',by simp only[runNT,h];exact hr,r⟩
theorem Met.world{w₀ w₁:gW}{m:Machine}{t:Trace}(h:Met P Sb Stop w₁ m t)(h1:w₁.tape=w₀.tape)(h2:OsLater w₀.os w₁.os)(h3:w₁.output=w₀.output):Met P Sb Stop w₀ m t:=by
 obtain⟨N,gs',w',sl',t',q',a',H',hr,r0,r1,r2,r3,r4,r5,r6,r7,r7',r8,r9,r10⟩:=h;exact⟨N,gs',w',sl',t',q',a',H',hr,r0,r1,r2,r3,r4,r5,r6,r7,r7',r8.trans h1,h2.trans r9,r10.trans h3⟩
def runs(gs:Array gG):Nat:=(gs.toList.filter fun g=>decide (g.status=.running)).length
theorem ziy{x:gG}{i:Nat}(hx:gs[i]? =some x)(hr:x.status=.running):runs ((gs.map (woken P x { x with status:=.blocked } w)).setIfInBounds i { x with status:=.blocked })<runs gs:=by
 have e:gs.map (woken P x { x with status:=.blocked } w)=gs:=by
  have:woken P x { x with status:=.blocked } w=id:=by funext o;exact woken_by_blocked' rfl o
  rw[this,Array.map_id]
 rw[e];unfold runs;obtain⟨l⟩:=gs;have hx':l[i]? =some x:=by simpa using hx
 simp only[List.setIfInBounds_toArray];clear hx e
 induction l generalizing i with
 | nil=>simp at hx'
 | cons y l ih =>
  cases i with
  | zero =>
   simp only[List.getElem?_cons_zero,Option.some.injEq]at hx';subst hx';simp[hr]
  | succ i =>
   simp only[List.getElem?_cons_succ]at hx';have:=ih hx';simp only[List.set_cons_succ,List.filter_cons];split
   ·simp only[List.length_cons];omega
   ·exact this
theorem MI.awake(h:(MI P A shAt S2 aM aW GI all Stop Sb I Φ) m0 gs w t j s f F L done φ):∀ g∈gs,Go.Conc.awake g:=fun g hg=>by
 obtain⟨i,hi,rfl⟩:=Array.mem_iff_getElem.1 hg;intro sx hs;rcases h.thr hi with ht|⟨h0,hm⟩
 ·have:=h.th i _ (mD hi) ht;cases e:F i with
  | go a b c d e' =>
   rw[e]at this;obtain⟨_,_,_,_,_,_,_,_,_,_,_,hc⟩:=this;rcases hc with⟨e1,hr,_⟩|⟨e1,_⟩
   ·rw[e1,hr]at hs;cases hs
   ·rw[e1]at hs;cases hs
  | left n =>
   rw[e]at this;rcases QuitsD.status this.2 with e'|e' <;> rw[e']at hs <;> cases hs
 ·obtain⟨n,_,hq⟩:=h.old i _ (mD hi) h0 hm;rcases QuitsD.status hq with e'|e' <;> rw[e']at hs <;> cases hs
theorem MI.someone(O:AOk A all I Φ)(h:(MI P A shAt S2 aM aW GI all Stop Sb I Φ) m0 gs w t j s f F L done φ):∃(i:Nat)(g:gG),gs[i]? =some g/\g.status=.running:=by
 obtain⟨q,hq,hkd,hb⟩:=O.prog h.inv;have ht:=zn8 (m0:=m0) hq;refine⟨gid m0 q,_,mD (h.lt ht),?_⟩;have:=h.th _ _ (mD (h.lt ht)) ht;cases e:F (gid m0 q)with
 | go a b c d e' =>
  rw[e]at this;obtain⟨_,_,_,_,_,_,_,_,_,_,_,hc⟩:=this;rcases hc with⟨e1,hr,_⟩|⟨_,_,hbl⟩
  ·rw[e1];exact hr
  ·exact absurd hbl hb
 | left n=>rw[e]at this;exact absurd this.1 hkd
theorem MI.accs(h:(MI P A shAt S2 aM aW GI all Stop Sb I Φ) m0 gs w t j s f F L done φ)(i:Nat):Acc (WR P (LiveS A shAt)) (F i):=by
 by_cases Qp:i<gs.size
 ·rcases h.thr Qp with ht|⟨h0,hm⟩
  ·have:=h.th i _ (mD Qp) ht;cases e:F i with
   | go a b c d e' =>
    rw[e]at this;obtain⟨_,_,_,_,_,_,_,_,_,_,_,hc⟩:=this;rcases hc with⟨_,_,hs⟩|⟨_,hs,_⟩
    ·exact zg2 hs
    ·exact zg2 (.stop hs)
   | left n=>exact wl P _ n
  ·obtain⟨n,hn,_⟩:=h.old i _ (mD Qp) h0 hm;rw[hn];exact wl P _ n
 ·rw[h.out i oQ];exact wl P _ 0
theorem MI.met(O:AOk A all I Φ)(hW:Sb aW.block)(h:(MI P A shAt S2 aM aW GI all Stop Sb I Φ) m0 gs w t j s f F L done φ){x x':gG}{qt:Bool}{S:gG->Hp->Prop}{K:Hp}(hF:F 0=.go tt qt S x K)(hx:gs[0]? =some x)(hkd:A.kd (f 0)=.acqW)(hr:x'.status=.running)
  (hst:stepG P tt x w=.go x' w #[Go.ConcR.mk (.acquire aW)]) (hS:∀ L,GI all L->K.Dis L->Agrees K L->Stop x' (K.join L)) {w₁:gW} {sl':Option (Nat×Nat)} (hs:stepT P (crowd gs w₁ sl)=runT P (crowd gs w sl') 0):Met P Sb Stop w (crowd gs w₁ sl) t:=by
 have hi:Thr m0 j 0:=.inl rfl;have hth:=h.th 0 x hx hi;rw[hF]at hth;obtain⟨h1,h2,h3,h4,h5,h6,k,x1,h7,h8,h9,h10⟩:=hth;have haft0:A.aft (f 0)=ff:=by have:=(O.main h.inv).1;exact this
 obtain⟨a1,a2,a3⟩:=O.acqW (f:=fun q=>f (gid m0 q)) h.inv hkd;have hquit:∀ i,Thr m0 j i->i≠0->A.kd (f i)=.quit:=fun i ht h0=>by
  have:=a1 (qid m0 i) (by unfold qid;rw[if_neg h0];omega) (y7 h.pos ht).2;simp only[(y7 h.pos ht).1]at this;exact this
 have hall:done=all:=by
  funext i;rcases mR i j with Qp|hge
  ·rw[h.dn i Qp,(O.quit (hquit (m0+i) (.inr oQ) (by have:=h.pos;omega))).1,Bool.and_true]
  ·rw[h.new i hge,a3 i hge]
 obtain⟨K',t1,t2,t3,_⟩:∃ K',L=some K'/\GI done K'/\z5 K' w/\∀ i,Thr m0 j i->A.kd (f i)≠.relL:=by
  rcases h.tok with ht|⟨_,k0,g2,g3⟩
  ·exact ht
  ·exfalso;by_cases e:k0=0
   ·subst e;rw[hkd]at g3;cases g3
   ·rw[hquit k0 g2 e]at g3;cases g3
 have hdi:K.Dis K':=by
  have:=h.tr.dl K' t1 0 ⟨hi,haft0⟩;rw[hF]at this;exact this
 have hP:=h.tr.acqW (z:={ g:=0,fn:=x.frame.fn,pos:=x.frame.place,act:=.mark (.acquire aW) }) (fun k hk=>Classical.byContradiction fun h0=>by
  have:=(O.quit (hquit k hk.1 h0)).2;rw[hk.2]at this;cases this) rfl rfl (by rw[h4];exact a2) (h.tr.sbn _ hW)
 have hlt0:=h.lt hi;have hleft:∀ i y,0<i->gs[i]? =some y->∃ n,QuitsD P n (Deaf t i) y:=fun i y h0 hy=>by
  rcases h.thr (mG.1 hy).1 with ht|⟨_,hm⟩
  ·have:=h.th i y hy ht;cases e:F i with
   | go a b c d e'=>rw[e]at this;exact absurd (hquit i ht oQ) this.2.2.1
   | left n=>rw[e]at this;exact⟨n,this.2⟩
  ·obtain⟨n,_,hq⟩:=h.old i y hy h0 hm;exact⟨n,hq⟩
 refine Met.step (u:=#[{ g:=0,fn:=x.frame.fn,pos:=x.frame.place,act:=.mark (.acquire aW) }]) (hs.trans (by rw[runT_crowd_go (i:=0) hx hst,vo])) ?_;refine⟨0,_,w,sl',_,fun i=>open Classical in if hq:∃ n y,0<i/\gs[i]? =some y/\QuitsD P n (Deaf t i) y then hq.choose else 0,x',K.join K',rfl,by rw[mF (by simpa using hlt0)],hr,hS K' (by rw[<- hall];exact t2) hdi (u9 h5 t3),zdY h5 t3,⟨fun i y h0 hy=>?_,fun i hi'=>?_⟩,hP,fun k a e=>?_,fun b z hb=>?_,h.tr.sbn,rfl,.refl _,rfl⟩
 ·rw[mE oQ,mJ]at hy;obtain⟨z,hz,rfl⟩:=mY.1 hy;obtain⟨n,hq⟩:=hleft i z h0 hz;have hex:∃ n y,0<i/\gs[i]? =some y/\QuitsD P n (Deaf t i) y:=⟨n,z,h0,hz,hq⟩;rw[dif_pos hex,woken_quitsD hq];obtain⟨y',_,hy',hq'⟩:=hex.choose_spec;rw[hz]at hy';cases hy';rw[Deaf_other t (g':=0) oQ _ (fun op Qw=>by simp only[List.mem_toArray,lS]at Qw;subst Qw;rfl)];exact hq'
 ·rw[Deaf_other t (g':=0) (by simp at hi';omega) _ (fun op Qw=>by simp only[List.mem_toArray,lS]at Qw;subst Qw;rfl)];exact h.above i (by simpa using hi')
 ·rcases mR k t.size with Qp|hge
  ·rw[act?_old Qp]at e;exact h.tr.norel k a e
  ·obtain⟨op,ho,he⟩:=mY.1 e;rw[Array.getElem?_append_right hge]at ho;have:=mH ho;simp only[List.mem_toArray,lS]at this;subst this;cases he
 ·rcases vm hb with hb|⟨_,hb⟩
  ·exact h.tr.sb 0 ⟨hi,haft0⟩ b z (by rw[hF];exact hb)
  ·exact h.tr.sbL K' t1 b z hb
theorem zgC(O:AOk A all I Φ)(hs:ShBy S2 shAt)(hSb:∀ b,S2 b->Sb b)(hM:Sb aM.block)(hW:Sb aW.block):∀(φ:Nat)(gs:Array gG)(w:gW)(sl:Option (Nat×Nat))(t:Trace)(j:Nat)(s:A.S)(f:Nat->A.T)(F:Nat->WS)(L:Option Hp)(done:Nat->Bool),
  (MI P A shAt S2 aM aW GI all Stop Sb I Φ) m0 gs w t j s f F L done φ->Met P Sb Stop w (crowd gs w sl) t:=by
 intro φ
 induction φ using Nat.strongRecOn with
 | ind φ ih =>
 intro gs w sl t j s f F L done h;have key:=zbg (WR P (LiveS A shAt)) (m0+j) (fun F=>∀(r:Nat)(gs:Array gG)(w:gW)(sl:Option (Nat×Nat))(t:Trace),runs gs<=r->(MI P A shAt S2 aM aW GI all Stop Sb I Φ) m0 gs w t j s f F L done φ->Met P Sb Stop w (crowd gs w sl) t) ?_ F (fun i _=>h.accs i)
 ·exact key _ gs w sl t (mL _) h
 clear h F gs w sl t;intro F hF r
 induction r using Nat.strongRecOn with
 | ind r ihr =>
 intro gs w sl t hrr h;obtain⟨i,x,d,sl',hx,hxr,hst⟩:=crowd_pick (P:=P) (w:=w) (sl:=sl) h.awake (h.someone O);have h':=h.at hs d;have Qp:=(mG.1 hx).1;have hsz:=h.size;have wat:∀{m:Machine}{t':Trace},Met P Sb Stop (w.at d) m t'->Met P Sb Stop w m t':=fun hm=>hm.world rfl (.refl _) rfl;have slip:∀ n,0<i->F i=.left n->QuitsD P n (Deaf t i) x->Met P Sb Stop w (crowd gs w sl) t:=fun n h0 hFi hq=>by
  cases n with
  | zero=>rw[hq.1]at hxr;cases hxr
  | succ n =>
   rcases hq with⟨hf,_⟩|⟨_,x',es,hm,hstep,hq'⟩
   ·rw[hf]at hxr;cases hxr
   have hi0:(i==0)=ff:=by simp;omega
   have hmv:=h'.slip h0 hx hFi hm hq';refine Met.step (hst.trans (runT_crowd_go hx (by rw[hi0];exact hstep (w.at d)))) (wat ?_);exact hF i oQ (.left n) (by rw[hFi];exact .slip n) _ _ _ sl' _ (mL _) hmv
 rcases h.thr Qp with ht|⟨h0,hm⟩;rotate_left
 ·obtain⟨n,hn,hq⟩:=h.old i x hx h0 hm;exact slip n h0 hn hq
 have hth:=h'.th i x hx ht;cases hFi:F i with
 | left n =>
  rw[hFi]at hth;refine slip n (Nat.pos_of_ne_zero fun e=>?_) hFi hth.2;subst e;exact(O.main h.inv).2 hth.1
 | go main qt S g K =>
  rw[hFi]at hth;obtain⟨h1,h2,h3,h4,h5,h6,k,x0,h7,h8,h9,h10⟩:=hth;obtain⟨rfl,hgr,hseg⟩:x=g/\g.status=.running/\Seg P main qt (LiveS A shAt) S g K:=by
   rcases h10 with hc|⟨e,_⟩
   ·exact hc
   ·rw[e]at hxr;cases hxr
  have hlive:LiveS A shAt (w.at d):=⟨s,h'.sh⟩;by_cases hSx:S x K;rotate_left
  ·
   cases hseg with
   | stop hS=>exact absurd hS hSx
   | step _ hgo Wj =>
    obtain⟨x',w',es,hg,hS,hr,hq⟩:=hgo (w.at d) h5 hlive;have hmv:=h'.local hs hSb ht hFi hx hS hq hr (Wj _ _ _ _ h5 hlive hg);refine Met.step (hst.trans (runT_crowd_go hx (by rw[<- h1];exact hg))) ?_;refine(hF i oQ _ (by rw[hFi];exact .go hSx h5 hlive hg) _ _ _ sl' _ (mL _) hmv).world hS.tape ?_ hS.out;rw[hS.os];exact .refl _
  obtain⟨k,rfl⟩:∃ k',k=k'+1:=⟨k - 1,oQ⟩;rw[h7]at hSx;obtain⟨_,_,hwk,hL⟩:=zmS hSx;rw[<- h1]at hL;have hM':∀ b,b=aM.block->Sb b:=fun b e=>e ▸ hM;have hW':∀ b,b=aW.block->Sb b:=fun b e=>e ▸ hW;have hmain:main=(i==0):=h1;obtain⟨hgq,hql⟩:=y7 h.pos ht;split at hL
  ·
   rename_i hkd;have hok:=O.ok h.inv hql (by simp only[hgq];exact hkd);simp only[hgq]at hok;obtain⟨l1,l2⟩:=hL (w.at d) s h5 h'.sh hok;by_cases hb:A.bl (f i) s
   ·have hg:=l1 hb;have hmv:=h'.block ht hFi (by rw[h7];exact hSx) hb;have hrun:runT P (crowd gs (w.at d) sl') i=(.next (crowd ((gs.map (woken P x { x with status:=.blocked } (w.at d))).setIfInBounds i { x with status:=.blocked }) (w.at d) sl'),#[]):=by
     rw[runT_crowd_go hx (by rw[<- h1];exact hg)];rfl
    refine Met.step (hst.trans hrun) (wat ?_)
    ·rw[Array.append_empty];exact ihr _ (mM (ziy hx hxr) hrr) _ _ sl' t (mL _) hmv
   ·obtain⟨T',s',x',w',es,m1,m2,m3,m4,m5,m6⟩:=l2 hb;rw[hmain]at hFi m5 m6;obtain⟨F',φ',hφ,hmv⟩:=h'.book O hSb ht hFi hx hkd m1 m3 m4 m5 (Nat.lt_succ_iff.1 h8) (fun e=>by rw[hkd]at e;cases e) hwk m6;refine Met.step (hst.trans (runT_crowd_go hx (by rw[<- h1];exact m2))) ?_;exact(ih φ' hφ _ w' sl' _ _ _ _ _ _ _ hmv).world m3.tape m3.os m3.output
  ·
   rename_i hkd;obtain⟨x',m1,m2,m3⟩:=hL;have hi0:i≠0:=fun e=>by
    subst e;have:=(O.nx h.inv hql (.inl (by simp only[hgq];exact hkd))).2.2.1;simp[qid]at this
   simp only[if_neg hi0]at m3;obtain⟨F',L',φ',hφ,hmv⟩:=h'.acqL O hM' ht hFi hx hkd (Nat.lt_succ_iff.1 h8) m1 (fun L' a1 a2 a3 a4=>m3 done L' a1 a2 a3 a4);refine Met.step (hst.trans (runT_crowd_go hx (by rw[<- h1];exact m2 _ h5))) (wat ?_);exact ih φ' hφ _ _ sl' _ _ _ _ _ _ _ hmv
  ·
   rename_i hkd;obtain⟨x',H',L',m1,m2,m3,m4,m5,m6,m7⟩:=hL;have hi0:i≠0:=fun e=>by
    subst e;have:=(O.nx h.inv hql (.inr (.inl (by simp only[hgq];exact hkd)))).2.2.1;simp[qid]at this
   simp only[if_neg hi0]at m6 m7;rw[h9 hkd]at m6;obtain⟨F',L',done',φ',hφ,hmv⟩:=h'.relL O hM' ht hFi hx hkd (Nat.lt_succ_iff.1 h8) m1 m3 m4 m5 m6 m7;refine Met.step (hst.trans (runT_crowd_go hx (by rw[<- h1];exact m2 _ h5))) (wat ?_);exact ih φ' hφ _ _ sl' _ _ _ _ _ _ _ hmv
  ·
   rename_i hkd;obtain⟨x',m1,m2,m3⟩:=hL (w.at d) s h5 h'.sh;obtain⟨F',φ',hφ,hmv⟩:=h'.relW O hW' ht hFi hx hkd (Nat.lt_succ_iff.1 h8) m1 m3;refine Met.step (hst.trans (runT_crowd_go hx (by rw[<- h1];exact m2))) (wat ?_);exact ih φ' hφ _ _ sl' _ _ _ _ _ _ _ hmv
  ·
   rename_i hkd;have hi0:i=0:=Classical.byContradiction fun e=>by
    have:=(O.work h.inv hql (by unfold qid;rw[if_neg e];omega)).1;simp only[hgq]at this;exact this hkd
   subst hi0;obtain⟨x',ch,H₂,Hc,m1,m2,m3,m4,m5,m6,m7,m8⟩:=hL;simp only[if_true]at m7 m8;obtain⟨es,m9,m10⟩:=m3 (w.at d) h5;have e1:main=tt:=by rw[h1];rfl
   subst e1;have hix:=(O.fork (f:=fun q=>f (gid m0 q)) h.inv hkd).1;have e0:gid m0 0=0:=rfl;simp only[e0]at hix;rw[hix]at m7;obtain⟨F',φ',hφ,hmv⟩:=h'.fork O hFi hx hkd (Nat.lt_succ_iff.1 h8) m1 m2 m10 m4 m5 m6 m7 m8 (fn:=x.frame.fn) (pos:=x.frame.place) (fn':=ch.frame.fn) (pos':=x.frame.place);refine Met.step (hst.trans (runT_crowd_spawn (i:=0) hx m9)) (wat ?_);exact ih φ' hφ _ _ sl' _ _ _ _ _ _ _ hmv
  ·
   rename_i hkd;have hi0:i=0:=Classical.byContradiction fun e=>by
    have:=(O.work h.inv hql (by unfold qid;rw[if_neg e];omega)).2;simp only[hgq]at this;exact this hkd
   subst hi0;obtain⟨x',m1,m2,m3⟩:=hL;have e1:main=tt:=by rw[h1];rfl
   subst e1;exact wat (h'.met O hW hFi hx hkd m1 (m2 _ h5) m3 hst)
  ·exact hL.elim
end
end Go.Vel
namespace Go.Vel.Mx
open Go.Vel (Aut AOk Kd)
inductive MPc|a0|a1|ar|a2|go|w0|w1|w2|wr|w3|w4|w5|w6
 deriving DecidableEq
structure Mn where
 pc:MPc
 j:Nat
 old:Nat:=0
inductive TT|w (T:Th)|m (M:Mn)
structure S4 where
 mu:Nat
 ms:Nat
 v:Nat
 wt:Nat
 ws:Nat
def S4.sh(s:S4):Sh:=⟨s.mu,s.ms⟩
def S4.put(s:S4)(x:Sh):S4:={ s with mu:=x.mu,ms:=x.ms }
def kdW(T:Th):Kd:=match T.pc with|.la=>.acqL|.ur=>.relL|.wr=>.relW|.quit=>.quit|_=>.book
def kdM(M:Mn):Kd:=match M.pc with|.go=>.fork|.w6=>.acqW|_=>.book
def kd:TT->Kd|.w T=>kdW T|.m M=>kdM M
def dlW(T:Th):Nat:=match T.pc with|.ld|.la|.ur|.ud|.wr|.wk=>0|_=>1
def dlM(M:Mn):Nat:=match M.pc with|.a0|.go|.w0|.w6=>0|_=>1
def dl:TT->Nat|.w T=>dlW T|.m M=>dlM M
inductive Mv4(n:Nat):TT->S4->TT->S4->Prop
 | mx {T T':Th} {s:S4} {x:Sh}:Mv T s.sh T' x->cnt T=1->T.pc≠.d1->Mv4 n (.w T) s (.w T') (s.put x)
 | d1a {T:Th} {s:S4} (h:T.pc=.d1) (hv:s.v=1) (hw:s.wt=1):Mv4 n (.w T) s (.w { pc:=.d2 }) { s with v:=0 }
 | d1b {T:Th} {s:S4} {v:Nat} (h:T.pc=.d1) (hv:s.v=v+1) (hw:¬ (v=0/\s.wt=1)):Mv4 n (.w T) s (.w { pc:=.quit }) { s with v:=v }
 | d2 {T:Th} {s:S4} (h:T.pc=.d2):Mv4 n (.w T) s (.w { pc:=.d3 }) s
 | d3 {T:Th} {s:S4} (h:T.pc=.d3):Mv4 n (.w T) s (.w { pc:=.d4 }) { s with wt:=0 }
 | d4 {T:Th} {s:S4} (h:T.pc=.d4):Mv4 n (.w T) s (.w { pc:=.quit }) { s with ws:=s.ws+1 }
 | a0 {M:Mn} {s:S4} (h:M.pc=.a0):Mv4 n (.m M) s (.m { M with pc:=.a1 }) s
 | a1 {M:Mn} {s:S4} (h:M.pc=.a1):Mv4 n (.m M) s (.m { M with pc:=if s.v=0 then .ar else .a2 }) { s with v:=s.v+1 }
 | ar {M:Mn} {s:S4} (h:M.pc=.ar):Mv4 n (.m M) s (.m { M with pc:=.a2 }) s
 | a2 {M:Mn} {s:S4} (h:M.pc=.a2):Mv4 n (.m M) s (.m { M with pc:=.go }) s
 | w0 {M:Mn} {s:S4} (h:M.pc=.w0):Mv4 n (.m M) s (.m { M with pc:=.w1 }) s
 | w1 {M:Mn} {s:S4} (h:M.pc=.w1):Mv4 n (.m M) s (.m { M with pc:=if s.v=0 then .w5 else .w2,old:=s.v }) s
 | w2h {M:Mn} {s:S4} (h:M.pc=.w2) (e:s.v=M.old):Mv4 n (.m M) s (.m { M with pc:=.wr }) { s with wt:=1 }
 | w2m {M:Mn} {s:S4} (h:M.pc=.w2) (e:s.v≠M.old):Mv4 n (.m M) s (.m { M with pc:=.w1 }) s
 | wr {M:Mn} {s:S4} (h:M.pc=.wr):Mv4 n (.m M) s (.m { M with pc:=.w3 }) s
 | w3 {M:Mn} {s:S4} (h:M.pc=.w3) (e:s.ws≠0):Mv4 n (.m M) s (.m { M with pc:=.w4 }) { s with ws:=s.ws - 1 }
 | w4 {M:Mn} {s:S4} (h:M.pc=.w4):Mv4 n (.m M) s (.m { M with pc:=.w5 }) s
 | w5 {M:Mn} {s:S4} (h:M.pc=.w5):Mv4 n (.m M) s (.m { M with pc:=.w6 }) s
def bl4:TT->S4->Prop|.w T,s=>T.pc=.s1/\s.ms=0|.m M,s=>M.pc=.w3/\s.ws=0
def okW(T:Th)(s:S4):Prop:=s.mu<256/\s.ms<=1/\T.old<256/\Loc T/\s.v<64/\s.wt<=1/\match T.pc with
 | .r1|.r3=>T.aw=tt->wk s.mu=1
 | .r2=>(st s.mu=1->lk s.mu=0/\wk s.mu=0/\1<=wt s.mu)/\(st s.mu=0->wk s.mu=1)
 | .a1=>st s.mu=1/\lk s.mu=0/\wk s.mu=0/\1<=wt s.mu/\(T.nw=0->2<=wt s.mu)
 | .u0=>lk s.mu=1
 | .us=>s.ms=0
 | .d1=>1<=s.v/\s.ws=0
 | .d2|.d3=>s.v=0/\s.wt=1/\s.ws=0
 | .d4=>s.v=0/\s.wt=0/\s.ws=0
 | _=>True
def okM(M:Mn)(s:S4):Prop:=s.v<64/\M.old<64/\match M.pc with
 | .a1|.w1|.w2=>s.wt=0/\s.ws=0
 | .w3=>s.wt<=1/\(s.ws=0\/(s.ws=1/\s.v=0/\s.wt=0))
 | .w4=>s.v=0/\s.wt=0/\s.ws=0
 | _=>True
def ok4:TT->S4->Prop|.w T,s=>okW T s|.m M,s=>okM M s
def nx4(n:Nat):TT->TT
 | .w T=>.w { pc:=match T.pc with|.la=>.ur|.ur=>.ud|.wr=>.wk|p=>p }
 | .m M=>.m { pc:=if M.j+1<n then .a0 else .w0,j:=M.j+1 }
def aftW(T:Th):Bool:=match T.pc with|.wk|.d1|.d2|.d3|.d4|.quit=>tt|_=>ff
def pastW(T:Th):Bool:=match T.pc with|.ud|.u0|.uc|.ux|.us|.ue|.wr|.wk|.d1|.d2|.d3|.d4|.quit=>tt|_=>ff
def auto(n:Nat)(lkr:Nat->Bool):Aut where
 T:=TT
 S:=S4
 kd:=kd
 dl:=dl
 mv:=Mv4 n
 bl:=bl4
 ok:=ok4
 nx:=nx4 n
 ix:=fun|.m M=>M.j|.w _=>0
 st:=fun i=>.w { pc:=if lkr i then .ld else .wr }
 wk:=fun|.w T=>T.pc=.us\/T.pc=.d4|.m _=>False
 aft:=fun|.w T=>aftW T|.m _=>ff
 past:=fun|.w T=>pastW T|.m _=>ff
def th:TT->Th|.w T=>T|.m _=>{ pc:=.quit }
def mn:TT->Mn|.m M=>M|.w _=>⟨.w6,0,0⟩
def gw(f:Nat->TT):Nat->Th:=fun i=>th (f (i+1))
def d23(T:Th):Nat:=match T.pc with|.d2|.d3=>1|_=>0
def d4n(T:Th):Nat:=match T.pc with|.d4=>1|_=>0
def Gw(C D E v wt ws:Nat):Prop:=(v=C/\1<=C/\D=0/\E=0/\wt=1/\ws=0)\/(v=0/\C=0/\D=1/\E=0/\wt=1/\ws=0)\/(v=0/\C=0/\D=0/\E=1/\wt=0/\ws=0)\/(v=0/\C=0/\D=0/\E=0/\wt=0/\ws=1)
def Gq(p:MPc)(C D E v wt ws:Nat):Prop:=match p with
 | .a0|.a1|.w0|.w1|.w2=>D=0/\E=0/\wt=0/\ws=0/\v=C
 | .ar|.a2|.go=>D=0/\E=0/\wt=0/\ws=0/\v=C+1
 | .wr|.w3=>Gw C D E v wt ws
 | .w4|.w5|.w6=>v=0/\C=0/\D=0/\E=0/\wt=0/\ws=0
def early(p:MPc):Bool:=match p with|.a0|.a1|.ar|.a2|.go=>tt|_=>ff
structure AI(n:Nat)(lkr:Nat->Bool)(j:Nat)(f:Nat->TT)(s:S4):Prop where
 main:f 0=.m (mn (f 0))
 work:∀ i,i<j->f (i+1)=.w (gw f i)
 num:(mn (f 0)).j=j/\j<=n/\n<=31/\1<=n/\(early (mn (f 0)).pc=tt->j<n)/\(early (mn (f 0)).pc=ff->j=n)/\(mn (f 0)).old<64/\((mn (f 0)).pc=.w2->1<=(mn (f 0)).old)
 inv:Inv j (gw f) s.sh
 bnd:∀ i,i<j->(gw f i).old<256
 lck:∀ i,i<j->pastW (gw f i)=ff->lkr i=tt
 grp:Gq (mn (f 0)).pc (S cnt (gw f) j) (S d23 (gw f) j) (S d4n (gw f) j) s.v s.wt s.ws
def lm(M:Mn)(v:Nat):Nat:=match M.pc with
 | .a0=>10|.a1=>9|.ar=>8|.a2=>7|.go=>6|.w0=>9|.w1=>8|.w2=>7+(if M.old=v then 0 else 150)|.wr=>6|.w3=>5|.w4=>4|.w5=>3|.w6=>2
def Φ4(n j:Nat)(f:Nat->TT)(s:S4):Nat:=Fm j (gw f) s.sh+lm (mn (f 0)) s.v+40000*(n - j)
section
variable {n:Nat}{lkr:Nat->Bool}{j:Nat}{f:Nat->TT}{s:S4}
theorem ve{i:Nat}{T':Th}:gw (Go.ConcN.upd f (i+1) (.w T'))=upd (gw f) i T':=by
 funext k;unfold gw Go.ConcN.upd upd;by_cases e:k=i
 ·subst e;simp[th]
 ·simp[e]
theorem vy{x:TT}:gw (Go.ConcN.upd f 0 x)=gw f:=by
 funext k;unfold gw Go.ConcN.upd;simp
theorem upd0{x:TT}:Go.ConcN.upd f 0 x 0=x:=by simp[Go.ConcN.upd]
theorem updS{i:Nat}{x:TT}:Go.ConcN.upd f (i+1) x 0=f 0:=by simp[Go.ConcN.upd]
theorem AI.mu(h:AI n lkr j f s):s.mu<256:=by
 have q:=h.inv.nm;have e1:=S_one (p:=fun T=>wa T+kw T) (f:=gw f) (fun T=>by unfold wa kw;cases T.pc <;> simp) j;have e2:=S_add (p:=wa) (q:=kw) (f:=gw f) j;have:=bits s.mu;obtain⟨h1,h2,h3,h4⟩:=h.num;simp only[Nm,S4.sh]at q;omega
theorem AI.ms(h:AI n lkr j f s):s.ms<=1:=by
 have:=h.inv.one;simp only[S4.sh]at this;omega
theorem AI.v(h:AI n lkr j f s):s.v<64/\s.wt<=1:=by
 have e1:=S_one (p:=cnt) (f:=gw f) (fun T=>by unfold cnt;cases T.pc <;> simp) j;have q:=h.grp;obtain⟨h1,h2,h3,h4⟩:=h.num;cases e:(mn (f 0)).pc <;> (rw[e]at q;simp only[Gq,Gw]at q;omega)
theorem AI.oks(h:AI n lkr j f s){q:Nat}(hq:q<=j)(hk:kd (f q)=.book):ok4 (f q) s:=by
 obtain⟨v1,v2⟩:=h.v;cases q with
 | zero =>
  rw[h.main];show okM (mn (f 0)) s;have g:=h.grp;refine⟨v1,h.num.2.2.2.2.2.2.1,?_⟩;cases e:(mn (f 0)).pc <;> (rw[e]at g;simp only[Gq,Gw]at g ⊢) <;> omega
 | succ i =>
  have hi:i<j:=by omega
  rw[h.work i hi]at hk ⊢;show okW (gw f i) s;have hL:=h.inv.loc i hi;have qn:=h.inv.nm;refine⟨h.mu,h.ms,h.bnd i hi,hL,v1,v2,?_⟩;have g:=h.grp;have c1:=S_get (p:=kl) (f:=gw f) hi;have c2:=S_get (p:=kw) (f:=gw f) hi;have c3:=S_get (p:=hl) (f:=gw f) hi;have c4:=S_get (p:=ku) (f:=gw f) hi;have c5:=S_get (p:=cnt) (f:=gw f) hi;have c6:=S_get (p:=d23) (f:=gw f) hi;have c7:=S_get (p:=d4n) (f:=gw f) hi;have c8:=S_get (p:=ka) (f:=gw f) hi;have c9:=h.inv.a1w i hi;have b:=kY s.mu;simp only[Nm,S4.sh]at qn c9;cases e:(gw f i).pc <;> simp only[] <;> simp only[kl,kw,hl,ku,cnt,d23,d4n,ka,e]at c1 c2 c3 c4 c5 c6 c7 c8 c9
  case r1=>intro ha;rw[ha,if_pos rfl]at c1;omega
  case r3=>intro ha;rw[ha,if_pos rfl]at c1;omega
  case r2=>omega
  case a1=>exact⟨by omega,oQ,oQ,oQ,fun h0=>c9 trivial h0⟩
  case u0=>omega
  case us=>omega
  case d1=>cases e2:(mn (f 0)).pc <;> (rw[e2]at g;simp only[Gq,Gw]at g;omega)
  case d2=>cases e2:(mn (f 0)).pc <;> (rw[e2]at g;simp only[Gq,Gw]at g;omega)
  case d3=>cases e2:(mn (f 0)).pc <;> (rw[e2]at g;simp only[Gq,Gw]at g;omega)
  case d4=>cases e2:(mn (f 0)).pc <;> (rw[e2]at g;simp only[Gq,Gw]at g;omega)
theorem AI.stepW(h:AI n lkr j f s){i:Nat}(hi:i<j){T':Th}{x:Sh}{v wt ws:Nat}(hm:Mv (gw f i) s.sh T' x)(hold:T'.old<256)(hpast:pastW T'=pastW (gw f i)\/pastW T'=tt)
  (hg:∀ C D E C' D' E',Gq (mn (f 0)).pc C D E s.v s.wt s.ws->C'+cnt (gw f i)=C+cnt T'->D'+d23 (gw f i)=D+d23 T'->E'+d4n (gw f i)=E+d4n T'->cnt (gw f i)<=C->d23 (gw f i)<=D->d4n (gw f i)<=E->Gq (mn (f 0)).pc C' D' E' v wt ws) :
  AI n lkr j (Go.ConcN.upd f (i+1) (.w T')) { mu:=x.mu,ms:=x.ms,v,wt,ws }:=by
 refine⟨by rw[updS];exact h.main,fun k hk=>?_,by rw[updS];exact h.num,?_,fun k hk=>?_,fun k hk hp=>?_,?_⟩
 ·rw[ve];unfold Go.ConcN.upd upd;by_cases e:k=i
  ·subst e;simp
  ·simp[e];exact h.work k hk
 ·rw[ve];exact h.inv.move hi hm
 ·rw[ve];unfold upd;split
  ·exact hold
  ·exact h.bnd k hk
 ·rw[ve]at hp;unfold upd at hp;split at hp
  ·rename_i e;subst e;rcases hpast with e|e
   ·exact h.lck k hk (by rw[<- e];exact hp)
   ·rw[e]at hp;cases hp
  ·exact h.lck k hk hp
 ·rw[updS,ve];exact hg _ _ _ _ _ _ h.grp (S_upd hi) (S_upd hi) (S_upd hi) (S_get hi) (S_get hi) (S_get hi)
theorem AI.stepM(h:AI n lkr j f s){M':Mn}{v wt ws:Nat}(hj:M'.j=(mn (f 0)).j)(he:early M'.pc=early (mn (f 0)).pc)(ho:M'.old<64)(ho':M'.pc=.w2->1<=M'.old)
  (hg:∀ C D E,C<=j->Gq (mn (f 0)).pc C D E s.v s.wt s.ws->Gq M'.pc C D E v wt ws):AI n lkr j (Go.ConcN.upd f 0 (.m M')) { s with v,wt,ws }:=by
 obtain⟨n1,n2,n3,n4,n5,n6,n7,n8⟩:=h.num;refine⟨by rw[upd0];rfl,fun k hk=>?_,?_,?_,fun k hk=>?_,fun k hk hp=>?_,?_⟩
 ·rw[vy];exact h.work k hk
 ·rw[upd0];exact⟨hj.trans n1,n2,n3,n4,fun e=>n5 (he ▸ e),fun e=>n6 (he ▸ e),ho,ho'⟩
 ·rw[vy];exact h.inv
 ·rw[vy];exact h.bnd k hk
 ·rw[vy]at hp;exact h.lck k hk hp
 ·rw[upd0,vy];exact hg _ _ _ (S_one (fun T=>by unfold cnt;cases T.pc <;> simp) j) h.grp
end
end Go.Vel.Mx
namespace Go.Vel.Mx
open Go.Vel (Aut AOk Kd)
section
variable {n:Nat}{lkr:Nat->Bool}{j:Nat}{f:Nat->TT}{s:S4}
theorem zoM{T T':Th}{s x:Sh}(hs:s.mu<256)(h:Mv T s T' x)(hT:T.old<256):T'.old<256:=by
 cases h <;> (try unfold hd) <;> (try unfold hdU) <;> (try split) <;> simp <;> first|omega|assumption
theorem znp{T T':Th}{s x:Sh}(h:Mv T s T' x)(hc:cnt T=1)(h1:T.pc≠.d1)(h2:kdW T=.book):pastW T'=pastW T/\aftW T'=aftW T/\kdW T'≠.relL/\cnt T'=1/\d23 T'=d23 T/\d4n T'=d4n T:=by
 cases h
 case c2r p hp h h1 h2=>rcases hp with rfl|rfl <;> simp_all[pastW,aftW,kdW,cnt,d23,d4n]
 case d1 p hp h=>exact absurd h h1
 all_goals ((try unfold hd) <;> (try unfold hdU) <;> (try split) <;> simp_all[pastW,aftW,kdW,cnt,d23,d4n])
theorem fm_d{g:Nat->Th}{i:Nat}{x:Sh}{T':Th}(hi:i<j)(k:Nat)(h:pn T'+k<pn (g i))(hs:stl x.mu T'=0):Fm j (upd g i T') x+k<Fm j g x:=by
 obtain⟨mu,ms⟩:=x;exact zhc hi k (by simp only[]at hs;rw[hs];omega)
theorem lm_v(M:Mn)(v v':Nat):lm M v'<=lm M v+150:=by
 unfold lm;split <;> first|exact Nat.le_add_right _ _|(split <;> split <;> omega)
theorem gw_a{C D E C' D' E' wt ws:Nat}(q:Gw C D E 1 wt ws)(hw:wt=1)(a:C'+1=C)(b:D'=D+1)(c:E'=E):Gw C' D' E' 0 wt ws:=by
 unfold Gw;rcases q with⟨h1,h2,h3,h4,h5,h6⟩|⟨h1,h2,h3,h4,h5,h6⟩|⟨h1,h2,h3,h4,h5,h6⟩|⟨h1,h2,h3,h4,h5,h6⟩ <;> first|(exfalso;omega)|refine(fun x=>.inr (.inl x)) ⟨?_,?_,?_,?_,?_,?_⟩ <;> omega
theorem gq_a{p:MPc}{C D E C' D' E' wt ws:Nat}(q:Gq p C D E 1 wt ws)(hw:wt=1)(a:C'+1=C)(b:D'=D+1)(c:E'=E):Gq p C' D' E' 0 wt ws:=by
 cases p
 case wr=>exact gw_a q hw a b c
 case w3=>exact gw_a q hw a b c
 all_goals (simp only[Gq]at q ⊢;omega)
theorem gw_b{C D E C' D' E' v wt ws:Nat}(q:Gw C D E (v+1) wt ws)(hw:¬ (v=0/\wt=1))(a:C'+1=C)(b:D'=D)(c:E'=E):Gw C' D' E' v wt ws:=by
 unfold Gw;rcases q with⟨h1,h2,h3,h4,h5,h6⟩|⟨h1,h2,h3,h4,h5,h6⟩|⟨h1,h2,h3,h4,h5,h6⟩|⟨h1,h2,h3,h4,h5,h6⟩ <;> first|(exfalso;omega)|refine(fun x=>.inl x) ⟨?_,?_,?_,?_,?_,?_⟩ <;> omega
theorem gq_b{p:MPc}{C D E C' D' E' v wt ws:Nat}(q:Gq p C D E (v+1) wt ws)(hw:¬ (v=0/\wt=1))(a:C'+1=C)(b:D'=D)(c:E'=E):Gq p C' D' E' v wt ws:=by
 cases p
 case wr=>exact gw_b q hw a b c
 case w3=>exact gw_b q hw a b c
 all_goals (simp only[Gq]at q ⊢;omega)
theorem gw_c{C D E C' D' E' v wt ws:Nat}(q:Gw C D E v wt ws)(hD:1<=D)(a:C'=C)(b:D'+1=D)(c:E'=E+1):Gw C' D' E' v 0 ws:=by
 unfold Gw;rcases q with⟨h1,h2,h3,h4,h5,h6⟩|⟨h1,h2,h3,h4,h5,h6⟩|⟨h1,h2,h3,h4,h5,h6⟩|⟨h1,h2,h3,h4,h5,h6⟩ <;> first|(exfalso;omega)|refine(fun x=>.inr (.inr (.inl x))) ⟨?_,?_,?_,?_,?_,?_⟩ <;> omega
theorem gq_c{p:MPc}{C D E C' D' E' v wt ws:Nat}(q:Gq p C D E v wt ws)(hD:1<=D)(a:C'=C)(b:D'+1=D)(c:E'=E+1):Gq p C' D' E' v 0 ws:=by
 cases p
 case wr=>exact gw_c q hD a b c
 case w3=>exact gw_c q hD a b c
 all_goals (simp only[Gq]at q ⊢;omega)
theorem gw_e{C D E C' D' E' v wt ws:Nat}(q:Gw C D E v wt ws)(hE:1<=E)(a:C'=C)(b:D'=D)(c:E'+1=E):Gw C' D' E' v wt (ws+1):=by
 unfold Gw;rcases q with⟨h1,h2,h3,h4,h5,h6⟩|⟨h1,h2,h3,h4,h5,h6⟩|⟨h1,h2,h3,h4,h5,h6⟩|⟨h1,h2,h3,h4,h5,h6⟩ <;> first|(exfalso;omega)|refine(fun x=>.inr (.inr (.inr x))) ⟨?_,?_,?_,?_,?_,?_⟩ <;> omega
theorem gq_e{p:MPc}{C D E C' D' E' v wt ws:Nat}(q:Gq p C D E v wt ws)(hE:1<=E)(a:C'=C)(b:D'=D)(c:E'+1=E):Gq p C' D' E' v wt (ws+1):=by
 cases p
 case wr=>exact gw_e q hE a b c
 case w3=>exact gw_e q hE a b c
 all_goals (simp only[Gq]at q ⊢;omega)
theorem ai_mv(h:AI n lkr j f s){q:Nat}(hq:q<=j)(hk:kd (f q)=.book){T':TT}{s':S4}(hm:Mv4 n (f q) s T' s') :
  AI n lkr j (Go.ConcN.upd f q T') s'/\Φ4 n j (Go.ConcN.upd f q T') s'<Φ4 n j f s/\(∀ r,r<=j->r≠q->bl4 (f r) s->bl4 (f r) s'\/(auto n lkr).wk (f q))/\kd T'≠.relL/\(auto n lkr).past T'=(auto n lkr).past (f q)/\(auto n lkr).aft T'=(auto n lkr).aft (f q):=by
 have hn:=h.num;cases q with
 | zero =>
  have hv:=h.v;rw[h.main]at hm hk;have key:∀{M':Mn}{v wt ws:Nat},T'=.m M'->s'={ s with v,wt,ws }->M'.j=(mn (f 0)).j->early M'.pc=early (mn (f 0)).pc->M'.old<64->(M'.pc=.w2->1<=M'.old)->(∀ C D E,C<=j->Gq (mn (f 0)).pc C D E s.v s.wt s.ws->Gq M'.pc C D E v wt ws)->lm M' v<lm (mn (f 0)) s.v->kdM M'≠.relL ->
    AI n lkr j (Go.ConcN.upd f 0 T') s'/\Φ4 n j (Go.ConcN.upd f 0 T') s'<Φ4 n j f s/\(∀ r,r<=j->r≠0->bl4 (f r) s->bl4 (f r) s'\/(auto n lkr).wk (f 0))/\kd T'≠.relL/\(auto n lkr).past T'=(auto n lkr).past (f 0)/\(auto n lkr).aft T'=(auto n lkr).aft (f 0):=fun {M' v wt ws} e1 e2 h1 h2 h3 h3' h4 h5 h6=>by
   subst e1 e2;refine⟨h.stepM h1 h2 h3 h3' h4,?_,fun r hr hr0 hb=>?_,h6,by rw[h.main];rfl,by rw[h.main];rfl⟩
   ·simp only[Φ4,vy,upd0,mn,S4.sh];simp only[mn]at h5;omega
   ·left;obtain⟨i,rfl⟩:∃ i,r=i+1:=⟨r - 1,oQ⟩;rw[h.work i oQ]at hb ⊢;exact hb
  have h64:=hn.2.2.2.2.2.2.1;have h1:=hn.2.2.2.2.2.2.2;generalize eM:mn (f 0)=M at *
  cases hm
  case a0 h=>exact key rfl rfl rfl (by rw[h];rfl) h64 sQ (fun C D E _ q=>by rw[h]at q;simp only[Gq]at q ⊢;omega) (by simp[lm,h]) (by simp[kdM])
  case a1 h =>
   by_cases h0:s.v=0
   ·simp only[h0,if_true]at *;exact key rfl rfl rfl (by rw[h];rfl) h64 sQ (fun C D E _ q=>by rw[h]at q;simp only[Gq]at q ⊢;omega) (by simp[lm,h]) (by simp[kdM])
   ·simp only[h0,if_false]at *;exact key rfl rfl rfl (by rw[h];rfl) h64 sQ (fun C D E _ q=>by rw[h]at q;simp only[Gq]at q ⊢;omega) (by simp[lm,h]) (by simp[kdM])
  case ar h=>exact key rfl rfl rfl (by rw[h];rfl) h64 sQ (fun C D E _ q=>by rw[h]at q;simp only[Gq]at q ⊢;omega) (by simp[lm,h]) (by simp[kdM])
  case a2 h=>exact key rfl rfl rfl (by rw[h];rfl) h64 sQ (fun C D E _ q=>by rw[h]at q;simp only[Gq]at q ⊢;omega) (by simp[lm,h]) (by simp[kdM])
  case w0 h=>exact key rfl rfl rfl (by rw[h];rfl) h64 sQ (fun C D E _ q=>by rw[h]at q;simp only[Gq]at q ⊢;omega) (by simp[lm,h]) (by simp[kdM])
  case w1 h =>
   by_cases h0:s.v=0
   ·exact key (M':={ M with pc:=.w5,old:=s.v }) (by rw[if_pos h0]) rfl rfl (by rw[h];rfl) hv.1 sQ (fun C D E _ q=>by rw[h]at q;simp only[Gq]at q ⊢;omega) (by simp[lm,h]) (by simp[kdM])
   ·exact key (M':={ M with pc:=.w2,old:=s.v }) (by rw[if_neg h0]) rfl rfl (by rw[h];rfl) hv.1 (fun _=>Nat.pos_of_ne_zero h0) (fun C D E _ q=>by rw[h]at q;simp only[Gq]at q ⊢;omega) (by simp[lm,h]) (by simp[kdM])
  case w2h h e=>exact key rfl rfl rfl (by rw[h];rfl) h64 sQ (fun C D E _ q=>by rw[h]at q;simp only[Gq,Gw]at q ⊢;have:=h1 h;exact .inl ⟨by omega,oQ,oQ,oQ,trivial,oQ⟩) (by simp only[lm,h];exact mM (by decide:6<7) (Nat.le_add_right _ _)) (by simp[kdM])
  case w2m h e=>exact key rfl rfl rfl (by rw[h];rfl) h64 sQ (fun C D E _ q=>by rw[h]at q;simp only[Gq]at q ⊢;omega) (by simp only[lm,h,if_neg (Ne.symm e)];omega) (by simp[kdM])
  case wr h=>exact key rfl rfl rfl (by rw[h];rfl) h64 sQ (fun C D E _ q=>by rw[h]at q;simp only[Gq]at q ⊢;omega) (by simp[lm,h]) (by simp[kdM])
  case w3 h e=>exact key rfl rfl rfl (by rw[h];rfl) h64 sQ (fun C D E _ q=>by rw[h]at q;simp only[Gq,Gw]at q ⊢;omega) (by simp[lm,h]) (by simp[kdM])
  case w4 h=>exact key rfl rfl rfl (by rw[h];rfl) h64 sQ (fun C D E _ q=>by rw[h]at q;simp only[Gq]at q ⊢;omega) (by simp[lm,h]) (by simp[kdM])
  case w5 h=>exact key rfl rfl rfl (by rw[h];rfl) h64 sQ (fun C D E _ q=>by rw[h]at q;simp only[Gq]at q ⊢;omega) (by simp[lm,h]) (by simp[kdM])
 | succ i =>
  have hi:i<j:=by omega
  rw[h.work i hi]at hm hk ⊢;have key:∀{Tn:Th}{x:Sh}{v wt ws:Nat},T'=.w Tn->s'={ mu:=x.mu,ms:=x.ms,v,wt,ws }->Mv (gw f i) s.sh Tn x->Tn.old<256->pastW Tn=pastW (gw f i)->aftW Tn=aftW (gw f i)->kdW Tn≠.relL ->
    (∀ C D E C' D' E',Gq (mn (f 0)).pc C D E s.v s.wt s.ws->C'+cnt (gw f i)=C+cnt Tn->D'+d23 (gw f i)=D+d23 Tn->E'+d4n (gw f i)=E+d4n Tn->cnt (gw f i)<=C->d23 (gw f i)<=D->d4n (gw f i)<=E->Gq (mn (f 0)).pc C' D' E' v wt ws) ->
    Fm j (upd (gw f) i Tn) x+lm (mn (f 0)) v<Fm j (gw f) s.sh+lm (mn (f 0)) s.v->((s.ms=0->x.ms=0)/\(s.ws=0->ws=0)\/(gw f i).pc=.us\/(gw f i).pc=.d4) ->
    AI n lkr j (Go.ConcN.upd f (i+1) T') s'/\Φ4 n j (Go.ConcN.upd f (i+1) T') s'<Φ4 n j f s/\(∀ r,r<=j->r≠i+1->bl4 (f r) s->bl4 (f r) s'\/(auto n lkr).wk (.w (gw f i)))/\kd T'≠.relL/\(auto n lkr).past T'=(auto n lkr).past (.w (gw f i))/\(auto n lkr).aft T'=(auto n lkr).aft (.w (gw f i)):=fun {Tn x v wt ws} e1 e2 h1 h2 h3 h4 h5 h6 h7 h8=>by
   obtain⟨xm,xs⟩:=x;subst e1 e2;refine⟨h.stepW hi h1 h2 (.inl h3) h6,?_,fun r hr hr0 hb=>?_,h5,h3,h4⟩
   ·simp only[Φ4,ve,updS];show Fm j (upd (gw f) i Tn) ⟨xm,xs⟩+lm (mn (f 0)) v+40000*(n - j)<_;omega
   ·rcases h8 with⟨a,b⟩|h8
    ·left;cases e:f r with
     | w T=>rw[e]at hb;exact⟨hb.1,a hb.2⟩
     | m M=>rw[e]at hb;exact⟨hb.1,b hb.2⟩
    ·exact .inr h8
  have hold:=h.bnd i hi;generalize eT:gw f i=T at *
  cases hm with
  | mx hmv hc h1 =>
   rename_i Tn x;obtain⟨p1,p2,p3,p4,p5,p6⟩:=znp hmv hc h1 hk;refine key (x:=x) Z Z hmv (zoM h.mu hmv hold) p1 p2 p3 (fun C D E C' D' E' q a b c _ _ _=>?_) (by have:=zhb oQ hi h.inv (by rw[eT];exact hmv);omega) ?_
   ·obtain rfl:C'=C:=by omega
    obtain rfl:D'=D:=by omega
    obtain rfl:E'=E:=by omega
    exact q
   ·cases hmv <;> first|exact .inl ⟨id,id⟩|exact .inr (.inl (by assumption))|exact .inl ⟨fun e=>by simp only[S4.sh]at e ⊢;omega,id⟩
  | d1a h1 hv hw =>
   refine key (x:=s.sh) Z Z (.d1 .d2 (.inl Z) h1) sQ (by simp[pastW,h1]) (by simp[aftW,h1]) (by simp[kdW]) (fun C D E C' D' E' q a b c a' b' c'=>?_) ?_ (.inl ⟨id,id⟩)
   ·simp only[cnt,d23,d4n,h1]at a b c a' b' c';rw[hv]at q;exact gq_a q hw oQ oQ oQ
   ·have:=fm_d (x:=s.sh) (g:=gw f) (T':={ pc:=.d2 }) hi 200 (by rw[eT];simp[pn,wn,rln,lcn,cnt,h1]) rfl;have:=lm_v (mn (f 0)) s.v 0;omega
  | @d1b _ _ v h1 hv hw =>
   refine key (x:=s.sh) Z Z (.d1 .quit (.inr Z) h1) sQ (by simp[pastW,h1]) (by simp[aftW,h1]) (by simp[kdW]) (fun C D E C' D' E' q a b c a' b' c'=>?_) ?_ (.inl ⟨id,id⟩)
   ·simp only[cnt,d23,d4n,h1]at a b c a' b' c';rw[hv]at q;exact gq_b q hw oQ oQ oQ
   ·have:=fm_d (x:=s.sh) (g:=gw f) (T':={ pc:=.quit }) hi 200 (by rw[eT];simp[pn,wn,rln,lcn,cnt,h1]) rfl;have:=lm_v (mn (f 0)) s.v v;omega
  | d2 h1 =>
   refine key (x:=s.sh) Z Z (.d2 h1) sQ (by simp[pastW,h1]) (by simp[aftW,h1]) (by simp[kdW]) (fun C D E C' D' E' q a b c a' b' c'=>?_) ?_ (.inl ⟨id,id⟩)
   ·simp only[cnt,d23,d4n,h1]at a b c a' b' c';obtain rfl:C'=C:=by omega
    obtain rfl:D'=D:=by omega
    obtain rfl:E'=E:=by omega
    exact q
   ·have:=fm_d (x:=s.sh) (g:=gw f) (T':={ pc:=.d3 }) hi 0 (by rw[eT];simp[pn,wn,rln,lcn,cnt,h1]) rfl;omega
  | d3 h1 =>
   refine key (x:=s.sh) Z Z (.d3 h1) sQ (by simp[pastW,h1]) (by simp[aftW,h1]) (by simp[kdW]) (fun C D E C' D' E' q a b c a' b' c'=>?_) ?_ (.inl ⟨id,id⟩)
   ·simp only[cnt,d23,d4n,h1]at a b c a' b' c';exact gq_c q oQ oQ oQ oQ
   ·have:=fm_d (x:=s.sh) (g:=gw f) (T':={ pc:=.d4 }) hi 0 (by rw[eT];simp[pn,wn,rln,lcn,cnt,h1]) rfl;omega
  | d4 h1 =>
   refine key (x:=s.sh) Z Z (.d4 h1) sQ (by simp[pastW,h1]) (by simp[aftW,h1]) (by simp[kdW]) (fun C D E C' D' E' q a b c a' b' c'=>?_) ?_ (.inr (.inr h1))
   ·simp only[cnt,d23,d4n,h1]at a b c a' b' c';exact gq_e q oQ oQ oQ oQ
   ·have:=fm_d (x:=s.sh) (g:=gw f) (T':={ pc:=.quit }) hi 0 (by rw[eT];simp[pn,wn,rln,lcn,cnt,h1]) rfl;omega
end
end Go.Vel.Mx
end
