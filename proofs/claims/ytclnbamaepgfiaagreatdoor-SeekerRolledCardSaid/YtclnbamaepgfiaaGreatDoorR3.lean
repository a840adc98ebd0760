/- Texts for the law SeekerRolled (chapters 8 and 9), part 4. It holds of every program, tape and world that the statements name, as each theorem says. -/
import Derived.Conc.LeavingOf
import Derived.Conc.Own4
import Derived.Conc.MuStops
import Derived.Conc.ClockLaws
import Derived.Conc.MarkLaws
import Derived.Conc.AtomicLaws2
import Derived.Conc.WgGenAddNeg
import Derived.Laws.LoneSync
import Derived.Conc.SmallLaws
import Derived.Conc.DeferLaws
import Derived.Test.YtclnbamaepgfiaaGreatDoorR1
import Derived.Test.YtclnbamaepgfiaaGreatDoorR2
open Go renaming Goroutine -> gG, TypeId -> gT, Operand -> gO, Program -> gP, FuncId -> gF, Value -> gV, World -> gW, CallKind -> gK, Deferred -> gD, ResultVar -> gR, Oper -> gB, IntKind -> gJ, Frame -> gQ
open Bool renaming true -> tt, false -> ff
section
set_option linter.all false
set_option maxRecDepth 20000
set_option maxHeartbeats 60000000
open List renaming getElem?_eq_getElem -> lA, getElem?_eq_some_iff -> lD, getD_eq_getElem?_getD -> lE, mem_cons -> lI, length_map -> lJ, mem_cons_of_mem -> lL, getElem?_map -> lQ, mem_append -> lT, getElem?_eq_none -> lU, mem_append_left -> lV, map_congr_left -> mA, replicate -> mB
open Array renaming getElem?_eq_getElem -> mD, getElem?_setIfInBounds_ne -> mE, getElem?_eq_some_iff -> mG, mem_of_getElem? -> mH, getElem?_map -> mJ
open Nat renaming le_refl -> mL, lt_of_lt_of_le -> mM, zero_add -> mO, eq_zero_or_pos -> mP, lt_or_ge -> mR, le_trans -> mT
open Bool renaming false_eq_true -> mU, not_eq_true' -> mV, and_eq_true -> mX
open Option renaming map_eq_some_iff -> mY
open Int renaming toNat_natCast -> mZ
namespace Go.Vel.Mx
open Go.Vel (Aut AOk Kd)
section
variable {n:Nat}{lkr:Nat->Bool}{j:Nat}{f:Nat->TT}{s:S4}
theorem kd_of(h:AI n lkr j f s){q:Nat}(hq:q<=j){k:Kd}(hk:kd (f q)=k)(h1:k=.acqL\/k=.relL\/k=.relW):∃ i,q=i+1/\i<j/\f q=.w (gw f i)/\kdW (gw f i)=k:=by
 cases q with
 | zero =>
  rw[h.main]at hk;simp only[kd,kdM]at hk;subst hk;cases e:(mn (f 0)).pc <;> simp[e]at h1
 | succ i =>
  have hi:i<j:=by omega
  rw[h.work i hi]at hk;exact⟨i,rfl,hi,h.work i hi,hk⟩
theorem uv{T:Th}:(kdW T=.acqL->T.pc=.la)/\(kdW T=.relL->T.pc=.ur)/\(kdW T=.relW->T.pc=.wr)/\(kdW T=.quit->T.pc=.quit):=by
 unfold kdW;cases T.pc <;> simp
theorem ai_nx(h:AI n lkr j f s){q:Nat}(hq:q<=j)(hk:kd (f q)=.acqL\/kd (f q)=.relL\/kd (f q)=.relW) :
  AI n lkr j (Go.ConcN.upd f q (nx4 n (f q))) s/\Φ4 n j (Go.ConcN.upd f q (nx4 n (f q))) s<Φ4 n j f s/\1<=q/\dl (f q)=0/\dl (nx4 n (f q))=0/\kd (nx4 n (f q))≠.quit/\(auto n lkr).aft (f q)=ff:=by
 obtain⟨i,rfl,hi,hf,hkd⟩:=kd_of h hq rfl hk;rw[hf];have hn:=h.num;have key:∀{Tn:Th},nx4 n (.w (gw f i))=.w Tn->Mv (gw f i) s.sh Tn s.sh->Tn.old<256->(pastW Tn=pastW (gw f i)\/pastW Tn=tt)->cnt Tn=cnt (gw f i)->d23 Tn=d23 (gw f i)->d4n Tn=d4n (gw f i)->dlW (gw f i)=0->dlW Tn=0->kdW Tn≠.quit->aftW (gw f i)=ff ->
   AI n lkr j (Go.ConcN.upd f (i+1) (nx4 n (.w (gw f i)))) s/\Φ4 n j (Go.ConcN.upd f (i+1) (nx4 n (.w (gw f i)))) s<Φ4 n j f s/\1<=i+1/\dl (.w (gw f i))=0/\dl (nx4 n (.w (gw f i)))=0/\kd (nx4 n (.w (gw f i)))≠.quit/\(auto n lkr).aft (.w (gw f i))=ff:=fun {Tn} e h1 h2 h3 h4 h5 h6 h7 h8 h9 h10=>by
  rw[e];refine⟨h.stepW (x:=s.sh) hi h1 h2 h3 (fun C D E C' D' E' q a b c _ _ _=>?_),?_,oQ,h7,h8,h9,h10⟩
  ·obtain rfl:C'=C:=by omega
   obtain rfl:D'=D:=by omega
   obtain rfl:E'=E:=by omega
   exact q
  ·simp only[Φ4,ve,updS];have:=zhb oQ hi h.inv h1;omega
 have pcs:=@uv (gw f i);rcases hk with hk|hk|hk <;> (rw[hf]at hk;simp only[kd]at hk)
 ·have e:=pcs.1 hk;exact key (Tn:={ pc:=.ur }) (by simp[nx4,e]) (.la e) sQ (.inl (by simp[pastW,e])) (by simp[cnt,e]) (by simp[d23,e]) (by simp[d4n,e]) (by simp[dlW,e]) rfl (by simp[kdW]) (by simp[aftW,e])
 ·have e:=pcs.2.1 hk;exact key (Tn:={ pc:=.ud }) (by simp[nx4,e]) (.ur e) sQ (.inr rfl) (by simp[cnt,e]) (by simp[d23,e]) (by simp[d4n,e]) (by simp[dlW,e]) rfl (by simp[kdW]) (by simp[aftW,e])
 ·have e:=pcs.2.2.1 hk;exact key (Tn:={ pc:=.wk }) (by simp[nx4,e]) (.wr e) sQ (.inl (by simp[pastW,e])) (by simp[cnt,e]) (by simp[d23,e]) (by simp[d4n,e]) (by simp[dlW,e]) rfl (by simp[kdW]) (by simp[aftW,e])
theorem alone(h:AI n lkr j f s){i r:Nat}(hi:i<j)(h1:hl (gw f i)=1)(hr:r<=j)(hne:r≠i+1):kd (f r)≠.relL:=fun hk=>by
 obtain⟨k,rfl,hk1,hf,hkd⟩:=kd_of h hr hk (.inr (.inl rfl));have e:=uv.2.1 hkd;have:=S_two (p:=hl) (f:=gw f) hi hk1 oQ;have h2:hl (gw f k)=1:=by simp[hl,e]
 have q:=h.inv.nm;simp only[Nm]at q;omega
theorem zmF(h:AI n lkr j f s)(hk:kd (f 0)=.fork):(mn (f 0)).j=j/\AI n lkr (j+1) (Go.ConcN.upd (Go.ConcN.upd f 0 (nx4 n (f 0))) (j+1) (.w { pc:=if lkr j then .ld else .wr })) s /\
  Φ4 n (j+1) (Go.ConcN.upd (Go.ConcN.upd f 0 (nx4 n (f 0))) (j+1) (.w { pc:=if lkr j then .ld else .wr })) s<Φ4 n j f s:=by
 obtain⟨n1,n2,n3,n4,n5,n6,n7,n8⟩:=h.num;have hgo:(mn (f 0)).pc=.go:=by
  rw[h.main]at hk;simp only[kd,kdM]at hk;cases e:(mn (f 0)).pc <;> simp[e]at hk;rfl
 have hjn:j<n:=n5 (by rw[hgo];rfl);have e0:Go.ConcN.upd (Go.ConcN.upd f 0 (nx4 n (f 0))) (j+1) (.w { pc:=if lkr j then .ld else .wr }) 0=.m { pc:=if j+1<n then .a0 else .w0,j:=j+1 }:=by
  rw[updS,upd0,h.main];simp only[nx4,n1]
 have eg:gw (Go.ConcN.upd (Go.ConcN.upd f 0 (nx4 n (f 0))) (j+1) (.w { pc:=if lkr j then .ld else .wr }))=upd (gw f) j { pc:=if lkr j then .ld else .wr }:=by rw[ve,vy]
 have ec:∀ i,i<j->gw f i=upd (gw f) j { pc:=if lkr j then .ld else .wr } i:=fun i hi=>by unfold upd;rw[if_neg oQ]
 have ej:upd (gw f) j { pc:=if lkr j then .ld else .wr } j={ pc:=if lkr j then .ld else .wr }:=by unfold upd;rw[if_pos rfl]
 have hb:∀ p:Th->Nat,S p (upd (gw f) j { pc:=if lkr j then .ld else .wr }) (j+1)=S p (gw f) j+p { pc:=if lkr j then .ld else .wr }:=fun p=>by
  show S p _ j+p _=_;rw[ej,<- zdj ec]
 have hpc:∀(X:Pc->Prop),X .ld->X .wr->X (if lkr j then .ld else .wr):=fun X a b=>by split <;> assumption
 refine⟨n1,⟨by rw[e0];rfl,fun i hi=>?_,?_,?_,fun i hi=>?_,fun i hi hp=>?_,?_⟩,?_⟩
 ·rw[eg];rcases mR i j with Qp|hge
  ·rw[<- ec i Qp];have:Go.ConcN.upd (Go.ConcN.upd f 0 (nx4 n (f 0))) (j+1) (TT.w { pc:=if lkr j then .ld else .wr }) (i+1)=f (i+1):=by
    rw[Go.ConcN.upd_ne _ _ oQ,Go.ConcN.upd_ne _ _ oQ]
   rw[this];exact h.work i Qp
  ·obtain rfl:i=j:=by omega
   rw[ej,Go.ConcN.upd_same]
 ·rw[e0];refine⟨rfl,oQ,n3,n4,fun e=>?_,fun e=>?_,by simp[mn],fun e=>?_⟩
  ·simp only[mn]at e;split at e
   ·assumption
   ·cases e
  ·simp only[mn]at e;split at e
   ·cases e
   ·omega
  ·simp only[mn]at e;split at e <;> cases e
 ·rw[eg];refine(h.inv.congr ec).grow ?_;rw[ej];exact hpc (fun p=>p=.ld\/p=.wr) (.inl rfl) (.inr rfl)
 ·rw[eg];rcases mR i j with Qp|hge
  ·rw[<- ec i Qp];exact h.bnd i Qp
  ·obtain rfl:i=j:=by omega
   rw[ej];simp
 ·rw[eg]at hp;rcases mR i j with Qp|hge
  ·rw[<- ec i Qp]at hp;exact h.lck i Qp hp
  ·obtain rfl:i=j:=by omega
   rw[ej]at hp;cases e:lkr i with
   | true=>rfl
   | false=>simp[pastW,e]at hp
 ·rw[eg,e0,hb,hb,hb];have g:=h.grp;rw[hgo]at g;simp only[Gq]at g;have c1:cnt { pc:=if lkr j then .ld else .wr }=1:=hpc (fun p=>cnt { pc:=p }=1) rfl rfl;have c2:d23 { pc:=if lkr j then .ld else .wr }=0:=hpc (fun p=>d23 { pc:=p }=0) rfl rfl;have c3:d4n { pc:=if lkr j then .ld else .wr }=0:=hpc (fun p=>d4n { pc:=p }=0) rfl rfl;rw[c1,c2,c3];simp only[mn];split <;> simp only[Gq] <;> omega
 ·simp only[Φ4,Fm,eg,e0,hb];have c1:pn { pc:=if lkr j then .ld else .wr }<=31600:=hpc (fun p=>pn { pc:=p }<=31600) dQ dQ;have c2:stl s.sh.mu { pc:=if lkr j then .ld else .wr }=0:=hpc (fun p=>stl s.sh.mu { pc:=p }=0) rfl rfl;have c3:lm (mn (.m { pc:=if j+1<n then .a0 else .w0,j:=j+1 })) s.v<=10:=by simp only[mn];split <;> simp[lm]
  rw[c2];omega
theorem zmG(h:AI n lkr j f s):∃ q,q<=j/\kd (f q)≠.quit/\¬ bl4 (f q) s:=by
 have give:∀ i,i<j->(gw f i).pc≠.quit->¬ ((gw f i).pc=.s1/\s.ms=0)->∃ q,q<=j/\kd (f q)≠.quit/\¬ bl4 (f q) s:=fun i hi h1 h2=>by
  refine⟨i+1,oQ,?_,?_⟩
  ·rw[h.work i hi];exact fun e=>h1 (uv.2.2.2 e)
  ·rw[h.work i hi];exact h2
 by_cases h0:(mn (f 0)).pc=.w3/\s.ws=0;rotate_left
 ·refine⟨0,oQ,?_,?_⟩
  ·rw[h.main];simp only[kd,kdM];cases (mn (f 0)).pc <;> simp
  ·rw[h.main];exact h0
 obtain⟨h1,h2⟩:=h0;have g:=h.grp;rw[h1]at g;have pos:∀ p:Th->Nat,(∀ T,1<=p T->T.pc≠.quit/\T.pc≠.s1)->1<=S p (gw f) j->∃ q,q<=j/\kd (f q)≠.quit/\¬ bl4 (f q) s:=fun p hp hs=>by
  obtain⟨i,hi,h3⟩:=S_pos hs;exact give i hi (hp _ h3).1 fun e=>(hp _ h3).2 e.1
 simp only[Gq,Gw,h2]at g;by_cases hC:1<=S cnt (gw f) j;rotate_left
 ·by_cases hD:1<=S d23 (gw f) j
  ·exact pos d23 (fun T hT=>by unfold d23 at hT;cases e:T.pc <;> simp[e]at hT ⊢) hD
  ·exact pos d4n (fun T hT=>by unfold d4n at hT;cases e:T.pc <;> simp[e]at hT ⊢) oQ
 obtain⟨i,hi,h3⟩:=S_pos hC;by_cases hb:(gw f i).pc=.s1/\s.ms=0;rotate_left
 ·exact give i hi (fun e=>by simp[cnt,e]at h3) hb
 have q:=h.inv.nm;have c:=S_get (p:=wa) (f:=gw f) hi;have c':wa (gw f i)=1:=by simp[wa,hb.1]
 have b:=kY s.mu;have hms:=hb.2;simp only[Nm,S4.sh]at q;by_cases e1:1<=S hl (gw f) j
 ·exact pos hl (fun T hT=>by unfold hl at hT;cases e:T.pc <;> simp[e]at hT ⊢) e1
 by_cases e2:1<=S kl (gw f) j
 ·exact pos kl (fun T hT=>by unfold kl at hT;cases e:T.pc <;> simp[e]at hT ⊢) e2
 by_cases e3:1<=S kw (gw f) j
 ·exact pos kw (fun T hT=>by unfold kw at hT;cases e:T.pc <;> simp[e]at hT ⊢) e3
 by_cases e4:1<=S ku (gw f) j
 ·exact pos ku (fun T hT=>by unfold ku at hT;cases e:T.pc <;> simp[e]at hT ⊢) e4
 refine pos ua (fun T hT=>by unfold ua at hT;cases e:T.pc <;> simp[e]at hT ⊢) ?_;omega
theorem auto_ok(n:Nat)(lkr:Nat->Bool):AOk (auto n lkr) (fun i=>lkr i&&decide (i<n)) (AI n lkr) (Φ4 n):=by
 have pcsL:∀{j f s q},AI n lkr j f s->q<=j->kd (f q)=.acqL->∃ i,q=i+1/\i<j/\f q=.w (gw f i)/\(gw f i).pc=.la:=fun h hq hk=>by
  obtain⟨i,e,hi,hf,hkd⟩:=kd_of h hq hk (.inl rfl);exact⟨i,e,hi,hf,uv.1 hkd⟩
 have pcsR:∀{j f s q},AI n lkr j f s->q<=j->kd (f q)=.relL->∃ i,q=i+1/\i<j/\f q=.w (gw f i)/\(gw f i).pc=.ur:=fun h hq hk=>by
  obtain⟨i,e,hi,hf,hkd⟩:=kd_of h hq hk (.inr (.inl rfl));exact⟨i,e,hi,hf,uv.2.1 hkd⟩
 have pcsW:∀{j f s q},AI n lkr j f s->q<=j->kd (f q)=.relW->∃ i,q=i+1/\i<j/\f q=.w (gw f i)/\(gw f i).pc=.wr:=fun h hq hk=>by
  obtain⟨i,e,hi,hf,hkd⟩:=kd_of h hq hk (.inr (.inr rfl));exact⟨i,e,hi,hf,uv.2.2.1 hkd⟩
 refine⟨fun h hq hk=>h.oks hq hk,fun h hq hk hm=>ai_mv h hq hk hm,fun h hq hk=>ai_nx h hq hk,fun {j f s q} h hq hk=>?_,fun {j f s q} h hq hk=>?_,fun {j f s q} h hq hk=>?_,fun {j f s} h hk=>?_,fun {j f s} h=>?_,fun {j f s q} h hq h1=>?_,fun {j f s} h hk=>?_,fun {T} hk=>?_,fun {T s} hb=>?_,fun h=>zmG h⟩
 ·obtain⟨i,rfl,hi,hf,e⟩:=pcsL h hq hk;rw[hf];refine⟨fun r hr=>?_,?_,?_,?_,?_⟩
  ·by_cases he:r=i+1
   ·rw[he,hf];show kdW (gw f i)≠.relL;simp[kdW,e]
   ·exact alone h hi (by simp[hl,e]) hr he
  ·show kd (nx4 n (.w (gw f i)))=_;simp[nx4,kd,kdW,e]
  ·show pastW (gw f i)=_;simp[pastW,e]
  ·show(auto n lkr).past (nx4 n (.w (gw f i)))=_;simp[nx4,auto,pastW,e]
  ·show(auto n lkr).aft (nx4 n (.w (gw f i)))=_;simp[nx4,auto,aftW,e]
 ·obtain⟨i,rfl,hi,hf,e⟩:=pcsR h hq hk;rw[hf];refine⟨fun r hr hne=>alone h hi (by simp[hl,e]) hr hne,?_,?_,?_,?_⟩
  ·show kd (nx4 n (.w (gw f i)))≠_;simp[nx4,kd,kdW,e]
  ·show(auto n lkr).past (nx4 n (.w (gw f i)))=_;simp[nx4,auto,pastW,e]
  ·show(auto n lkr).aft (nx4 n (.w (gw f i)))=_;simp[nx4,auto,aftW,e]
  ·have:=h.lck i hi (by simp[pastW,e]);have hn:=h.num;simp[this];omega
 ·obtain⟨i,rfl,hi,hf,e⟩:=pcsW h hq hk;rw[hf];refine⟨?_,?_,?_⟩
  ·show kd (nx4 n (.w (gw f i)))≠_;simp[nx4,kd,kdW,e]
  ·show(auto n lkr).past (nx4 n (.w (gw f i)))=pastW (gw f i);simp[nx4,auto,pastW,e]
  ·show(auto n lkr).aft (nx4 n (.w (gw f i)))=_;simp[nx4,auto,aftW,e]
 ·obtain⟨e1,e2,e3⟩:=zmF h hk;have hx:∀(X:Pc->Prop),X .ld->X .wr->X (if lkr j then .ld else .wr):=fun X a b=>by split <;> assumption
  have hd0:dl (f 0)=0:=by
   have hk:kd (f 0)=.fork:=hk;rw[h.main]at hk ⊢;simp only[kd,kdM]at hk;cases e:(mn (f 0)).pc <;> simp[e]at hk;simp[dl,dlM,e]
  refine⟨?_,e2,e3,?_,?_,?_,hd0,?_,?_,?_,?_,?_,?_⟩
  ·rw[h.main];exact e1
  ·rw[h.main];show kdM _≠_;unfold kdM;simp only[];split <;> simp_all
  ·rw[h.main];show kdM _≠_;unfold kdM;simp only[];split <;> simp_all
  ·rw[h.main];rfl
  ·rw[h.main];show dlM _=_;by_cases e:(mn (f 0)).j+1<n <;> simp[dlM,e]
  ·exact hx (fun p=>kdW { pc:=p }≠.relL) (by simp[kdW]) (by simp[kdW])
  ·exact hx (fun p=>kdW { pc:=p }≠.quit) (by simp[kdW]) (by simp[kdW])
  ·exact hx (fun p=>aftW { pc:=p }=ff) rfl rfl
  ·exact hx (fun p=>dlW { pc:=p }=0) rfl rfl
  ·show(lkr j&&decide (j<n)&&pastW { pc:=if lkr j then .ld else .wr })=ff;cases e:lkr j <;> simp[pastW]
 ·rw[h.main];refine⟨rfl,?_⟩;show kdM _≠_;unfold kdM;cases (mn (f 0)).pc <;> simp
 ·obtain⟨i,rfl⟩:∃ i,q=i+1:=⟨q - 1,oQ⟩;rw[h.work i oQ];refine⟨?_,?_⟩
  ·show kdW _≠_;unfold kdW;cases (gw f i).pc <;> simp
  ·show kdW _≠_;unfold kdW;cases (gw f i).pc <;> simp
 ·have hpc:(mn (f 0)).pc=.w6:=by
   rw[h.main]at hk;simp only[auto,kd,kdM]at hk;cases e:(mn (f 0)).pc <;> simp[e]at hk;rfl
  have g:=h.grp;rw[hpc]at g;simp only[Gq]at g;refine⟨fun r h1 hr=>?_,?_,fun i hi=>?_⟩
  ·obtain⟨i,rfl⟩:∃ i,r=i+1:=⟨r - 1,oQ⟩;have hi:i<j:=by omega
   rw[h.work i hi];have c1:=S_get (p:=cnt) (f:=gw f) hi;have c2:=S_get (p:=d23) (f:=gw f) hi;have c3:=S_get (p:=d4n) (f:=gw f) hi;show kdW (gw f i)=.quit;cases e:(gw f i).pc <;> simp only[cnt,d23,d4n,e]at c1 c2 c3 <;> first|(exfalso;omega)|simp[kdW,e]
  ·rw[h.main];show dlM _=0;simp[dlM,hpc]
  ·have:=h.num.2.2.2.2.2.1 (by rw[hpc];rfl);simp;omega
 ·cases T with
  | w T=>have e:=(@uv T).2.2.2 hk;exact⟨by simp[auto,pastW,e],by simp[auto,aftW,e]⟩
  | m M =>
   exfalso;have hk:kdM M=.quit:=hk;unfold kdM at hk;cases e:M.pc <;> simp[e]at hk
 ·cases T with
  | w T=>show kdW T=_;simp[kdW,hb.1]
  | m M=>show kdM M=_;simp[kdM,hb.1]
end
end Go.Vel.Mx
namespace Go.Vel
open Go Go.Conc
open Go.ConcN (sumTo upd upd_ne upd_same sumTo_upd)
open Go.ConcM (OsLater)
section
variable {P:gP}
theorem vV:∀(n k:Nat)(m m₁:Machine)(t t₁:Trace),runNT P n m t=(.next m₁,t₁)->runNT P (n+k) m t=runNT P k m₁ t₁
 | 0,k,m,m₁,t,t₁,h=>by
  simp only[runNT,Prod.mk.injEq,Stepped.next.injEq]at h;rw[h.1,h.2,mO]
 | n+1,k,m,m₁,t,t₁,h=>by
  rw[show n+1+k=(n+k)+1 by omega];simp only[runNT]at h ⊢;split at h
  ·rename_i m₂ Qy h1;exact vV n k m₂ m₁ _ t₁ h
  ·rename_i e Qy hne h1;simp only[Prod.mk.injEq]at h;obtain⟨rfl,_⟩:=h;exact(hne _ rfl).elim
theorem zgb:∀(n k:Nat)(m m₁:Machine),runN P n m=.next m₁->runN P (n+k) m=runN P k m₁
 | 0,k,m,m₁,h=>by
  simp only[runN,Stepped.next.injEq]at h;rw[h,mO]
 | n+1,k,m,m₁,h=>by
  rw[show n+1+k=(n+k)+1 by omega];simp only[runN]at h ⊢;split at h
  ·rename_i m₂ h1;exact zgb n k m₂ m₁ h
  ·rename_i hne;exact absurd h (hne _)
def NoRel(t:Trace):Prop:=∀ k a,t.act? k≠some (.mark (.release a))
theorem vg{t u:Trace}(h:NoRel t)(hu:∀ op∈u,∀ a,op.act≠.mark (.release a)):NoRel (t++u):=fun k a e=>by
 rcases mR k t.size with Qp|hge
 ·rw[act?_old Qp]at e;exact h k a e
 ·obtain⟨op,ho,he⟩:=mY.1 e;rw[Array.getElem?_append_right hge]at ho;exact hu op (mH ho) a he
theorem zn9{Sh:Loc->Prop}(w:gW){a:gG}(hs:a.status=.running){B:Nat}:∀(M:Nat)(gs:Array gG)(d:Nat)(sl:Option (Nat×Nat))(t:Trace)(q:Nat->Nat),sumTo gs.size q<=M->gs[0]? =some a->Leavers P t gs q->Past Sh B t->NoRel t ->
  ∃(N:Nat)(gs':Array gG)(d':Nat)(sl':Option (Nat×Nat))(t':Trace)(q':Nat->Nat),runNT P N (crowd gs (w.at d) sl) t=(.next (crowd gs' (w.at d') sl'),t')/\gs'.size=gs.size/\gs'[0]? =some a/\Leavers P t' gs' q'/\Past Sh B t'/\NoRel t' /\
   ∃ d'' sl'',stepT P (crowd gs' (w.at d') sl')=runT P (crowd gs' (w.at d'') sl'') 0:=by
 intro M
 induction M with
 | zero =>
  intro gs d sl t q hM h0 hL hP hN;have haw:∀ g∈gs,awake g:=fun g hg=>by
   obtain⟨i,hi,rfl⟩:=Array.mem_iff_getElem.1 hg;rcases mP i with rfl|Qx
   ·have:gs[0]=a:=by simpa[mD hi]using h0
    rw[this];exact awake_of (.inl hs)
   ·exact awake_of ((hL.old i _ Qx (mD hi)).status.elim .inl fun x=>.inr (.inr x))
  obtain⟨i,g,d',sl',hi,hg,hst⟩:=crowd_pick (P:=P) (w:=w.at d) (sl:=sl) haw ⟨0,a,h0,hs⟩;rcases mP i with rfl|Qx
  ·exact⟨0,gs,d,sl,t,q,rfl,rfl,h0,hL,hP,hN,d',sl',hst⟩
  ·exfalso;have hq:=hL.old i g Qx hi;have Qp:i<gs.size:=(mG.1 hi).1;have:=Go.ConcN.le_sumTo (f:=q) Qp;obtain hqi:q i=0:=by omega
   rw[hqi]at hq;rw[hq.1]at hg;cases hg
 | succ M ih =>
  intro gs d sl t q hM h0 hL hP hN;have haw:∀ g∈gs,awake g:=fun g hg=>by
   obtain⟨i,hi,rfl⟩:=Array.mem_iff_getElem.1 hg;rcases mP i with rfl|Qx
   ·have:gs[0]=a:=by simpa[mD hi]using h0
    rw[this];exact awake_of (.inl hs)
   ·exact awake_of ((hL.old i _ Qx (mD hi)).status.elim .inl fun x=>.inr (.inr x))
  obtain⟨i,g,d',sl',hi,hg,hst⟩:=crowd_pick (P:=P) (w:=w.at d) (sl:=sl) haw ⟨0,a,h0,hs⟩;rcases mP i with rfl|Qx
  ·exact⟨0,gs,d,sl,t,q,rfl,rfl,h0,hL,hP,hN,d',sl',hst⟩
  ·have hq:=hL.old i g Qx hi;have hi0:(i==0)=ff:=by simp;omega
   have Qp:i<gs.size:=(mG.1 hi).1;cases hqi:q i with
   | zero=>rw[hqi]at hq;rw[hq.1]at hg;cases hg
   | succ k =>
    rw[hqi]at hq;rcases hq with⟨hf,_⟩|⟨_,g',es,hm,hstp,hq'⟩
    ·rw[hf]at hg;cases hg
    have hrunT:=runT_crowd_go (P:=P) (sl:=sl') (i:=i) hi (by rw[hi0];exact hstp (w.at d'));have hsz:((gs.map (woken P g g' (w.at d'))).setIfInBounds i g').size=gs.size:=by simp
    have hsum:sumTo gs.size (upd q i k)+(k+1)=sumTo gs.size q+k:=by
     have:=sumTo_upd q k id Qp;simpa[hqi]using this
    obtain⟨N,gs',d2,sl2,t',q',hr,hsz',h0',hL',hP',hN',Qj⟩:=ih ((gs.map (woken P g g' (w.at d'))).setIfInBounds i g') d' sl' (t++MemOp.ofEvents i g.frame.fn g.frame.place es) (upd q i k) (by rw[hsz];omega)
     (by
      have hne:i≠0:=by omega
      rw[mE hne,mJ,h0];simp[woken_run hs])
     ⟨fun j x hj hx=>by
      by_cases hji:i=j
      ·subst hji;rw[Array.getElem?_setIfInBounds_self_of_lt (by simpa using Qp)]at hx;obtain rfl:=Option.some.inj hx;rw[upd_same,Deaf_own];exact hq'
      ·rw[mE hji,mJ]at hx;obtain⟨y,hy,rfl⟩:=mY.1 hx;have hqj:=hL.old j y hj hy;rw[woken_quitsD hqj,upd_ne q k (Ne.symm hji),Deaf_other t hji _ ya];exact hqj,fun j hj=>by
      rw[Deaf_other t (g':=i) (by simp at hj;omega) _ ya];exact hL.above j (by simpa using hj)⟩
     (hP.mute oQ hm) (vg hN fun op Qw=>by obtain⟨e,he,rfl⟩:=Go.Conc.mem_ofEvents Qw;exact v8 (hm e he))
    refine⟨N+1,gs',d2,sl2,t',q',?_,hsz'.trans hsz,h0',hL',hP',hN',Qj⟩;have hst2:stepT P (crowd gs (w.at d) sl)=runT P (crowd gs (w.at d') sl') i:=hst;simp only[runNT,hst2,hrunT];exact hr
def Bes(P:gP)(Ψ:gG->gW->Prop)(g:gG)(w:gW)(D:Nat->Prop):Prop :=
 ∀(gs:Array gG)(sl:Option (Nat×Nat))(t:Trace)(q:Nat->Nat),gs[0]? =some g->Leavers P t gs q->Past (fun l=>D (blk l)) w.heap.size t->NoRel t ->
  ∃(N:Nat)(gs':Array gG)(a':gG)(w':gW)(sl':Option (Nat×Nat))(t':Trace)(q':Nat->Nat)(D':Nat->Prop),
   runNT P N (crowd gs w sl) t=(.next (crowd gs' w' sl'),t')/\gs'[0]? =some a'/\Ψ a' w'/\Leavers P t' gs' q'/\Past (fun l=>D' (blk l)) w'.heap.size t'/\OsLater w.os w'.os/\w'.output=w.output
def BT(P:gP)(Ψ:gG->gW->Prop)(g:gG)(H:Hp):Prop:=∀ w D,z5 H w->(∀ b x,H b=some x->¬ D b)->(∀ b,D b->b<w.heap.size)->Bes P Ψ g w D
theorem zmP{Ψ:gG->gW->Prop}{g:gG}{H:Hp}(h:∀ w,z5 H w->Ψ g w):BT P Ψ g H :=
 fun w D hf _ _ gs sl t q h0 hL hP _=>⟨0,gs,g,w,sl,t,q,D,rfl,h0,h w hf,hL,hP,.refl _,rfl⟩
theorem kI(Ψ:gG->gW->Prop):zo P tt (BT P Ψ):=by
 intro g H hr h w D hf hD hB gs sl t q h0 hL hP hN;obtain⟨N,gs1,d1,sl1,t1,q1,hr1,_,h01,hL1,hP1,hN1,d2,sl2,Qj⟩:=zn9 w hr _ gs w.drawn sl t q (mL _) h0 hL hP hN;have ew:w.at w.drawn=w:=rfl;rw[ew]at hr1;have hf':z5 H (w.at d2):=hf;obtain⟨g',w',es,hgo,hS,hr',hT⟩:=h (w.at d2) hf';have Qp:0<gs1.size:=(mG.1 h01).1;have hrun:=runT_crowd_go (P:=P) (sl:=sl2) (i:=0) h01 (show stepG P (0==0) g (w.at d2)=_ from hgo);have hfn:=hf'.next hS;have hDn:∀ b x,H.next (w.at d2) w' b=some x->¬ D b:=fun b x hb=>by
  obtain⟨rw',o⟩:=x;rcases uJ hb with⟨o',hold⟩|hge
  ·exact hD b _ hold
  ·exact fun hd=>by have:=hB b hd;exact Nat.lt_irrefl _ (mM this hge)
 have hev:∀ e∈es,EvL (fun l=>D (blk l)) w'.heap.size e:=fun e he=>by
  have hE:=hS.evs e he;refine⟨fun x hx hd=>?_,(vw hE).1,(vw hE).2,zac hfn hE⟩;exfalso;by_cases hm:x.loc.isMemory=tt
  ·obtain⟨rw',o,hh,_⟩:=vL hE hx hm;exact hDn _ _ hh hd
  ·obtain⟨loc,wr,sy⟩:=e;cases loc with
   | cell a=>simp only[MemAct.ofEvent,MemAct.touch?,Option.some.injEq]at hx;subst hx;exact hm rfl
   | obj r =>
    obtain⟨hs,_⟩:=hE;simp only at hs;subst hs;have e1:MemAct.ofEvent ⟨.obj r,wr,ff⟩=.access ⟨.obj r,wr,ff⟩:=by cases wr <;> rfl
    rw[e1]at hx;simp only[MemAct.touch?,Option.some.injEq]at hx;subst hx;exact hm rfl
   | mark m =>
    rcases hE with hE|⟨g0,hE⟩
    ·subst hE;simp[MemAct.ofEvent,MemAct.touch?]at hx
    ·subst hE;simp[MemAct.ofEvent,MemAct.touch?]at hx
   | _=>exact hE.elim
 have hP2:Past (fun l=>D (blk l)) w'.heap.size (t1++MemOp.ofEvents 0 g.frame.fn g.frame.place es):=(hP1.mono hS.size).own hev;have hL2:Leavers P (t1++MemOp.ofEvents 0 g.frame.fn g.frame.place es) ((gs1.map (woken P g g' w')).setIfInBounds 0 g') q1:=by
  refine⟨fun j x hj hx=>?_,fun j hj=>?_⟩
  ·rw[mE oQ,mJ]at hx;obtain⟨y,hy,rfl⟩:=mY.1 hx;have hq:=hL1.old j y hj hy;rw[woken_quitsD hq,Deaf_other t1 oQ _ ya];exact hq
  ·rw[Deaf_other t1 (g':=0) (by simp at hj;omega) _ ya];exact hL1.above j (by simpa using hj)
 obtain⟨M,gs',a',w2,sl',t',q',D',hr2,h02,hψ,hL3,hP3,ho,hu⟩:=hT w' D hfn hDn (fun b hb=>mM (hB b hb) hS.size) _ sl2 _ q1 (by simp[Qp]) hL2 hP2 (vg hN1 fun op Qw=>by obtain⟨e,he,rfl⟩:=Go.Conc.mem_ofEvents Qw;exact vd (hS.evs e he));refine⟨N+(1+M),gs',a',w2,sl',t',q',D',?_,h02,hψ,hL3,hP3,?_,hu.trans hS.out⟩
 ·rw[vV N (1+M) _ _ _ _ hr1,Nat.add_comm 1 M];simp only[runNT,Qj,hrun];exact hr2
 ·have:=hS.os;rw[this]at ho;exact ho
def AtRet(P:gP)(f:gF)(R:gV->gW->Prop)(g:gG)(W:gW):Prop :=
 ∃(b:gQ)(a:Act)(todo:List Item)(fn:Func)(v:gV),g=G { b.at a todo with mode:=.returning } []/\b.fn=f/\b.kind=.normal/\a.defers=[]/\P.funcs[f]? =some fn /\
  (∀ w,(results fn a.tmps).run P w=.ok v w)/\(∀ w,(results fn a.tmps).events P w #[]=#[])/\R v W
theorem past_nil'{Sh:Loc->Prop}:Past Sh 0 #[]:=by
 refine⟨fun said=>?_,fun i a ha=>?_,fun i g hg=>?_,rfl,fun op Qw=>by simp at Qw⟩
 ·rintro⟨i,j,_,⟨a,b,ha,_⟩,_⟩;simp[Trace.act?]at ha
 ·simp[touchAt,Trace.act?]at ha
 ·simp[Trace.g?]at hg
theorem zlk{f:gF}{fn:Func}{c:Code}{args:Array gV}{w:gW}{H:Hp}{R:gV->gW->Prop}(hf:P.funcs[f]? =some fn)(hb:fn.body=some c)(hi:P.inits.idxOf? f=none)
  {R':gV->gW->Prop} (hRR:∀ v w',OsLater w.os w'.os->w'.output=w.output->R v w'->R' v w') (hR:∀ v w d,R' v w->R' v (w.at d)) (hfit:z5 H w) (h:BT P (AtRet P f R) (G (Frame.enter P f args .normal) []) H) :
  ∃ M last o w' t',runNT P (M+1) (solo (G (Frame.enter P f args .normal) []) w) #[]=(.ended o w',t')/\runN P M (solo (G (Frame.enter P f args .normal) []) w)=.next last /\
   step P last=.ended o w'/\Conc.Good P R' last o w' t':=by
 obtain⟨N,gs',g',w',sl',t',q',D',hr,h0,⟨b,a',todo,fn',v,rfl,hbf,hk,hd,hf',hv,he,hRv0⟩,hL,hP,hos,hout⟩:=h w (fun _=>False) hfit (fun _ _ _ h=>h) (fun _ h=>h.elim) #[_] none #[] (fun _=>0) rfl ⟨fun j x hj hx=>by
  have:=(mG.1 hx).1;simp at this;omega,fun _ _=>rfl⟩ (past_nil'.mono (Nat.zero_le _)) (fun k a=>by simp[Trace.act?])
 have hRv:=hRR v w' hos hout hRv0;have hG:Goes P tt AtRel (fun _ _ _=>False) (AtEnd P (fun l=>D' (blk l)) w'.heap.size R') 0 (G { b.at a' todo with mode:=.returning } []) w':=by
  refine Goes.stop fun w₁ hw₁=>?_;obtain⟨d,rfl⟩:=hw₁;refine⟨rfl,v,seen P f #[],?_,fun e hem=>?_,hR v _ d hRv⟩
  ·simp only[G,stepG,unwind,doReturn,Frame.at,hd,hbf,hf',hk];simp only[Sem.runT_eq,hv,he];simp[hi,GStep.after]
  ·simp[seen]at hem
 obtain⟨K,last,o,W,t2,e1,e2,e3,e4⟩:=beside_ends (P:=P) (sl:=sl') (fun _ _ _ x=>x.elim) h0 hL hP hG;have hrun:runNT P N (solo (G (Frame.enter P f args .normal) []) w) #[]=(.next (crowd gs' w' sl'),t'):=hr;refine⟨N+K,last,o,W,t2,?_,?_,e3,e4⟩
 ·rw[Nat.add_assoc,vV N (K+1) _ _ _ _ hrun];exact e1
 ·have h1:runN P N (solo (G (Frame.enter P f args .normal) []) w)=.next (crowd gs' w' sl'):=by
   rw[<- runNT_fst P _ _ #[],hrun]
  rw[zgb N K _ _ h1];exact e2
variable {gm:Nat->Option Nat}
theorem ziG{R:gV->gW->Prop}{g:gF}{fn:Func}{c:Code}{args:List AV}{K:KV}{A:List AObj}{Post:AV->KV->Prop}(hf:P.funcs[g]? =some fn)(hb:fn.body=some c)
  (hres2:∀(ts:Array gV),∃ v,(∀ w,(results fn ts).run P w=.ok v w)/\(∀ w,(results fn ts).events P w #[]=#[])/\∀ H Q,wpS P (results fn ts) H Q->Q v H)
  {φ:Nat->Loc3} {H:Hp} {vs:Array gV} (hv:zU K A) (hn:(keys K).Nodup) (hg:RelG gm φ A.length) (hH:RelH φ A nF H) (Qg:zN φ A.length args vs)
  (hR:∀ r K' φ' A' H' v w,Post r K'->(∀ i,i<A.length->i∉keys K->A'[i]? =A[i]?)->Agr φ φ' A.length->RelH φ' A' nF H'->RelV φ' A'.length r v->z5 H' w->R v w)
  (h:∀ Y:KX P gm (BT P (AtRet P g R)),(∀ j Wq K' K'' D r,(j=none\/j=some .ret)->Split K' K'' D->(∀ A',zU K' A'->resA P fn.results.toList Wq A'=some r)->Post r K''->∀ A',Kn Y K' A'->Y.X.L j [] Wq A')->TK Y [] [.code c] (args++mB (fn.ntmps - args.length) .any) K) :
  BT P (AtRet P g R) (G (Frame.enter P g vs .normal) []) H:=by
 have hT:=kI (P:=P) (AtRet P g R);have hleave:∀(k:List Item)(Wq:List AV)(A':List AObj)(φ':Nat->Loc3)(H':Hp)(ts:Array gV)(r:AV)(K':KV),resA P fn.results.toList Wq A'=some r->Post r K'->(∀ i,i<A.length->i∉keys K->A'[i]? =A[i]?)->Agr φ φ' A.length->RelH φ' A' nF H'->zN φ' A'.length Wq ts ->
   BT P (AtRet P g R) (G { fr .normal g none ts [] k with mode:=.returning } []) H':=fun k Wq A' φ' H' ts r K' hr hp hk ha hH' hE=>by
  obtain⟨v,q1,q2,q3⟩:=hres2 ts;have hrel:RelV φ' A'.length r v:=q3 H' (fun y _=>RelV φ' A'.length r y) (kW hH' hE hr fun y hy=>hy);exact zmP fun w hfit=>⟨fr .normal g none ts [] k,⟨ts,[]⟩,k,fn,v,rfl,rfl,rfl,rfl,hf,q1,q2,hR r K' φ' A' H' v w hp hk ha hH' hrel hfit⟩
 let X:Cx P gm (BT P (AtRet P g R)):={
  main:=tt,hT,φ0:=φ,n0:=A.length,F:=nF,hF0:=rfl,kd:=.normal,hkd:=(fun h=>by cases h),f:=g,ro:=none,cs:=[]
  L:=fun j ds Wq A'=>(j=none\/j=some .ret)/\ds=[]/\∃ r K',resA P fn.results.toList Wq A'=some r/\Post r K'/\∀ i,i<A.length->i∉keys K->A'[i]? =A[i]?
  hL:=by
   rintro j k ds Wq A' φ' H' ts hl ⟨hj,rfl,r,K',hr,hp,hk⟩ hA Wb hg' _ hH' hE;cases hl with
   | fin=>exact hT.ctlF rfl (fun _=>wQ) rfl (hleave _ Wq A' φ' H' ts r K' hr hp hk hA hH' hE)
   | ret k=>exact hT.ctlF rfl (fun _=>vq) rfl (hleave _ Wq A' φ' H' ts r K' hr hp hk hA hH' hE)
   | exit id k _=>rcases hj with hj|hj <;> cases hj }
 rw[wD vs hf hb];refine h ⟨X,A,keys K⟩ (fun j Wq K' K'' _ r hj _ hres hp A' hA'=>⟨hj,rfl,r,K'',hres A' hA'.view,hp,hA'.kept⟩) A ⟨hv,hn,fun i hi=>.inl hi,fun _ _ _=>rfl,mL _⟩ φ H _ (Agr.refl _ _) (mL _) hg (fun d hd=>by cases hd) hH (ke Qg _)
theorem znV{fn:Func}{t:Tmp}(hr:fn.results=#[.tmp t])(ts:Array gV):∃ v,(∀ w,(results fn ts).run P w=.ok v w)/\(∀ w,(results fn ts).events P w #[]=#[])/\∀ H Q,wpS P (results fn ts) H Q->Q v H:=by
 have h:results fn ts=pure (ts.getD t undef):=by
  unfold results;rw[hr,Array.mapM_eq_mapM_toList];rfl
 rw[h];exact⟨_,fun w=>rfl,fun w=>rfl,fun H Q q=>q⟩
end
end Go.Vel
namespace Go.Vel
open Go Go.Conc
class ze(P:gP)(t:gT)(g:outParam Bool)(n:outParam Nat):Prop where h:tySize P t=some (g,n):=by kernel_rfl
class zm(P:gP)(t:gT)(k:Nat)(o:outParam Nat)(g:outParam Bool)(n:outParam Nat):Prop where h:fieldOf P t k=some (o,g,n):=by kernel_rfl
class zp(P:gP)(t:gT)(e:outParam gT)(n:outParam Nat):Prop where h:slElem P t=some (e,n):=by kernel_rfl
class ArEl(P:gP)(t:gT)(m:outParam Nat)(e:outParam gT)(g:outParam Bool)(n:outParam Nat):Prop where h:arrElem P t=some (m,e,g,n):=by kernel_rfl
class Und(P:gP)(t:gT)(d:outParam TypeDesc):Prop where h:P.underlying t=some d:=by kernel_rfl
class TyZA(P:gP)(t:gT)(l:outParam (List AV)):Prop where h:tyZeroA P t=some l:=by kernel_rfl
class TyZ(P:gP)(t:gT)(l:outParam (List gV)):Prop where h:tyZero P t=some l:=by kernel_rfl
class BlOf(P:gP)(t:gT)(l:outParam (List (Nat×Nat))):Prop where h:bldOf P t=some l:=by kernel_rfl
class ApOf(P:gP)(t:gT)(e:outParam gT)(n b:outParam Nat):Prop where h:apOf P t=some (e,n,b):=by kernel_rfl
class InfO(P:gP)(t:gT)(i:outParam TypeInfo):Prop where h:P.info? t=some i:=by kernel_rfl
theorem Cal.h{P:gP}{g:gF}(h:yk P g=tt:=by kernel_rfl):yk P g=tt:=h
class RgL(Qy:Array gB)(L:outParam (List Nat)):Prop where h:List.range Qy.size=L
class Suc(n:Nat)(m:outParam Nat):Prop where h:n+1=m
class RgF(n:Nat)(l:List gB)(L:outParam (List Nat)):Prop where h:List.range' n l.length=L
instance {n:Nat}:RgF n [] []:=⟨rfl⟩
instance:Suc 0 1:=⟨rfl⟩
instance:Suc 1 2:=⟨rfl⟩
instance:Suc 2 3:=⟨rfl⟩
instance:Suc 3 4:=⟨rfl⟩
instance:Suc 4 5:=⟨rfl⟩
instance:Suc 5 6:=⟨rfl⟩
instance:Suc 6 7:=⟨rfl⟩
instance:Suc 7 8:=⟨rfl⟩
instance:Suc 8 9:=⟨rfl⟩
instance:Suc 9 10:=⟨rfl⟩
instance:Suc 10 11:=⟨rfl⟩
instance:Suc 11 12:=⟨rfl⟩
instance:Suc 12 13:=⟨rfl⟩
instance:Suc 13 14:=⟨rfl⟩
instance:Suc 14 15:=⟨rfl⟩
instance:Suc 15 16:=⟨rfl⟩
instance:Suc 16 17:=⟨rfl⟩
instance:Suc 17 18:=⟨rfl⟩
instance:Suc 18 19:=⟨rfl⟩
instance:Suc 19 20:=⟨rfl⟩
instance:Suc 20 21:=⟨rfl⟩
instance:Suc 21 22:=⟨rfl⟩
instance:Suc 22 23:=⟨rfl⟩
instance:Suc 23 24:=⟨rfl⟩
instance:Suc 24 25:=⟨rfl⟩
instance:Suc 25 26:=⟨rfl⟩
instance:Suc 26 27:=⟨rfl⟩
instance:Suc 27 28:=⟨rfl⟩
instance:Suc 28 29:=⟨rfl⟩
instance:Suc 29 30:=⟨rfl⟩
instance:Suc 30 31:=⟨rfl⟩
instance:Suc 31 32:=⟨rfl⟩
instance:Suc 32 33:=⟨rfl⟩
instance:Suc 33 34:=⟨rfl⟩
instance:Suc 34 35:=⟨rfl⟩
instance:Suc 35 36:=⟨rfl⟩
instance:Suc 36 37:=⟨rfl⟩
instance:Suc 37 38:=⟨rfl⟩
instance:Suc 38 39:=⟨rfl⟩
instance:Suc 39 40:=⟨rfl⟩
instance:Suc 40 41:=⟨rfl⟩
instance:Suc 41 42:=⟨rfl⟩
instance:Suc 42 43:=⟨rfl⟩
instance:Suc 43 44:=⟨rfl⟩
instance:Suc 44 45:=⟨rfl⟩
instance:Suc 45 46:=⟨rfl⟩
instance:Suc 46 47:=⟨rfl⟩
instance:Suc 47 48:=⟨rfl⟩
instance:Suc 48 49:=⟨rfl⟩
instance:Suc 49 50:=⟨rfl⟩
instance:Suc 50 51:=⟨rfl⟩
instance:Suc 51 52:=⟨rfl⟩
instance:Suc 52 53:=⟨rfl⟩
instance:Suc 53 54:=⟨rfl⟩
instance:Suc 54 55:=⟨rfl⟩
instance:Suc 55 56:=⟨rfl⟩
instance:Suc 56 57:=⟨rfl⟩
instance:Suc 57 58:=⟨rfl⟩
instance:Suc 58 59:=⟨rfl⟩
instance:Suc 59 60:=⟨rfl⟩
instance:Suc 60 61:=⟨rfl⟩
instance:Suc 61 62:=⟨rfl⟩
instance:Suc 62 63:=⟨rfl⟩
instance:Suc 63 64:=⟨rfl⟩
instance:Suc 64 65:=⟨rfl⟩
instance:Suc 65 66:=⟨rfl⟩
instance:Suc 66 67:=⟨rfl⟩
instance:Suc 67 68:=⟨rfl⟩
instance:Suc 68 69:=⟨rfl⟩
instance:Suc 69 70:=⟨rfl⟩
instance:Suc 70 71:=⟨rfl⟩
instance:Suc 71 72:=⟨rfl⟩
instance:Suc 72 73:=⟨rfl⟩
instance:Suc 73 74:=⟨rfl⟩
instance:Suc 74 75:=⟨rfl⟩
instance:Suc 75 76:=⟨rfl⟩
instance:Suc 76 77:=⟨rfl⟩
instance:Suc 77 78:=⟨rfl⟩
instance:Suc 78 79:=⟨rfl⟩
instance:Suc 79 80:=⟨rfl⟩
instance {n m:Nat}{a:gB}{l:List gB}{L:List Nat}[i:Suc n m][j:RgF m l L]:RgF n (a::l) (n::L):=⟨by rw[List.length_cons,List.range'_succ,i.h,j.h]⟩
instance {l:List gB}{L:List Nat}[i:RgF 0 l L]:RgL l.toArray L:=⟨by rw[<- i.h,List.range_eq_range'];rfl⟩
def naL:Nat->List AV->List AV|0,l=>l|k+1,l=>.any::naL k l
theorem nQ{a b:List AV}(h:a=b:=by simp only[naL];rfl):a=b:=h
theorem TK.na{P:gP}{gm:Nat->Option Nat}{T:gG->Hp->Prop}{Y:KX P gm T}{ds:List Nat}{k:List Item}{e e':List AV}{K:KV}(h:e=e')(t:TK Y ds k e' K):TK Y ds k e K:=h.symm ▸ t
section
variable {P:gP}{gm:Nat->Option Nat}{T:gG->Hp->Prop}{Y:KX P gm T}{ds:List Nat}{k:List Item}{Wq Wk:List AV}{K K':KV}{Qy:Array gB}{i d:Nat}{o:gB}{r:AV}{Wp L:List Nat}
def ym(n:Nat)(l:List (Nat×AV)):List AV:=l.foldl (fun e x=>e.set x.1 x.2) (List.replicate n .any)
theorem TK.rgn{id:Nat}(hL:List.range Qy.size=L)(h:TK Y ds (.inRegion Qy L::k) Wq K):TK Y ds (.code (.region id Qy ff)::k) Wq K:=TK.regionL hL h
theorem TK.nrm(h:TK Y ds k Wk K')(he:Wq=Wk)(hk:K=K'):TK Y ds k Wq K:=by subst he hk;exact h
theorem TK.condA{c:gO}{x y:Code}{t:Bool}(hc:zT gm Wq c=.v (.bool t))(h:(t=tt->TK Y ds (.code x::k) Wq K)/\(t=ff->TK Y ds (.code y::k) Wq K)):TK Y ds (.code (.cond c x y)::k) Wq K:=TK.cond hc h.1 h.2
theorem TK.condT{c:gO}{x y:Code}(hc:zT gm Wq c=.v (.bool tt))(h:TK Y ds (.code x::k) Wq K):TK Y ds (.code (.cond c x y)::k) Wq K:=TK.cond hc (fun _=>h) (fun h=>by cases h)
theorem TK.condF{c:gO}{x y:Code}(hc:zT gm Wq c=.v (.bool ff))(h:TK Y ds (.code y::k) Wq K):TK Y ds (.code (.cond c x y)::k) Wq K:=TK.cond hc (fun h=>by cases h) (fun _=>h)
structure Run(l:Nat)(G:Prop):Prop where
 go:G
theorem vc(n:Nat){main:Bool}(hT:zo P main T){g:gF}{fn:Func}{c:Code}{args:List AV}{Post:AV->KV->Prop}(hf:P.funcs[g]? =some fn)
  (h:∀ Y:KX P gm T,Y.X.ro=none->(∀ j ds Wq K' K1 K'' D1 D2 r,(j=none\/j=some .ret)->Split K' K1 D1->ds.Nodup->(∀ d∈ds,(d,.raw (.deferred (some [])))∈D1)->Split K1 K'' D2->(∀ A',zU K1 A'->resA P fn.results.toList Wq A'=some r)->Post r K''->∀ A',Kn Y K' A'->Y.X.L j ds Wq A') ->
   TK Y [] [.code c] (args++List.replicate (n - args.length) .any) K) (hb:fn.body=some c:=by rfl) (hn:fn.ntmps=n:=by rfl):zl P T gm g args K Post:=by
 subst hn;exact ze3 hT hf hb h
structure Hide(p:Prop):Prop where
 out:p
theorem Rn(c:Nat){l m:Nat}{G:Prop}(h:Run m G)(hc:l % 10=c)(hm:l / 10=m):Run l G:=⟨h.go⟩
theorem Rw(c:Nat){l m:Nat}{G:Prop}(h:Run m G)(h0:l % 10=0)(hc:l / 10 % 100=c)(hm:l / 1000=m):Run l G:=⟨h.go⟩
theorem Run.s{l:Nat}{A B:Prop}(f:A->B)(h:Run l A):Run l B:=⟨f h.go⟩
theorem au(l:Nat){G G':Prop}(h:G') (hs:Hide G'->Run l G:=by
 intro hid;refine Run.s (fun h=>TK.nrm h (by first|((with_reducible show zV _ _ _=_);first|exact zD rfl tQ|exact putN rfl)|(simp only[putAll,List.zip_cons_cons,List.zip_nil_right,ym,List.foldl_cons,List.foldl_nil,List.replicate,List.set,List.cons_append,List.nil_append,List.length_cons,List.length_nil,Nat.reduceAdd,Nat.reduceSub,Nat.zero_add];rfl)|rfl) (by first|(simp only[cA];rfl)|rfl)) ?_;repeat (first
  | (refine Rn 1 ?_ rfl rfl;refine Run.s (fun h=>TK.a rfl (zb rfl rfl) h) ?_)
  | (refine Rn 5 ?_ rfl rfl;refine Run.s (fun h=>TK.a rfl (zI rfl rfl) h) ?_)
  | (refine Rn 3 ?_ rfl rfl;refine Run.s (fun h=>TK.regionEnd h) ?_)
  | (refine Rn 2 ?_ rfl rfl;refine Run.s (fun h=>TK.seq h) ?_)
  | (refine Rn 4 ?_ rfl rfl;refine Run.s (fun h=>TK.rgn RgL.h h) ?_)
  | (refine Rn 7 ?_ rfl rfl;refine Run.s (fun h=>TK.a rfl (q_cmp rfl rfl rfl rfl) h) ?_)
  | (refine Rw 67 ?_ rfl rfl rfl;refine Run.s (fun h=>TK.a rfl (zi rfl rfl zm.h dQ) h) ?_)
  | (refine Rw 68 ?_ rfl rfl rfl;refine Run.s (fun h=>TK.a rfl (zK rfl rfl ze.h mQ rfl) h) ?_)
  | (refine Rw 69 ?_ rfl rfl rfl;refine Run.s (fun h=>TK.a rfl (zg rfl rfl ze.h mQ rfl) h) ?_)
  | (refine Rn 6 ?_ rfl rfl;refine Run.s (fun h=>TK.a rfl (yM rfl rfl rfl) h) ?_)
  | (refine Rn 8 ?_ rfl rfl;refine Run.s (fun h=>TK.unwanted rfl rfl (zD rfl tQ) h) ?_)
  | (refine Rw 12 ?_ rfl rfl rfl;refine Run.s (fun h=>TK.skip h) ?_)
  | (refine Rw 13 ?_ rfl rfl rfl;refine Run.s (fun h=>TK.block h) ?_)
  | (refine Rw 14 ?_ rfl rfl rfl;refine Run.s (fun h=>TK.inBlock h) ?_)
  | (refine Rw 15 ?_ rfl rfl rfl;refine Run.s (fun h=>TK.label h) ?_)
  | (refine Rw 16 ?_ rfl rfl rfl;refine Run.s (fun h=>TK.exit rfl h) ?_)
  | (refine Rw 17 ?_ rfl rfl rfl;refine Run.s (fun h=>TK.st rfl rfl rfl (zz rfl rfl ze.h rfl rfl mQ rfl) uQ (putN rfl) h) ?_)
  | (refine Rw 18 ?_ rfl rfl rfl;refine Run.s (fun h=>TK.condT rfl h) ?_)
  | (refine Rw 19 ?_ rfl rfl rfl;refine Run.s (fun h=>TK.condF rfl h) ?_)
  | (refine Rn 9 ?_ rfl rfl;refine Run.s (fun h=>TK.condA rfl h) ?_)
  | (refine Rw 21 ?_ rfl rfl rfl;refine Run.s (fun h=>TK.newP rfl rfl rfl (n_box rfl rfl) (fun _=>(zD rfl tQ)) h) ?_)
  | (refine Rw 22 ?_ rfl rfl rfl;refine Run.s (fun h=>TK.newP rfl rfl rfl (yA rfl TyZA.h) (fun _=>(zD rfl tQ)) h) ?_)
  | (refine Rw 23 ?_ rfl rfl rfl;refine Run.s (fun h=>TK.a rfl (q_add rfl rfl rfl oQ) h) ?_)
  | (refine Rw 24 ?_ rfl rfl rfl;refine Run.s (fun h=>TK.a rfl (q_sub rfl rfl rfl oQ) h) ?_)
  | (refine Rw 25 ?_ rfl rfl rfl;refine Run.s (fun h=>TK.a rfl (yu rfl rfl rfl) h) ?_)
  | (refine Rw 26 ?_ rfl rfl rfl;refine Run.s (fun h=>TK.a rfl (y9 rfl rfl rfl) h) ?_)
  | (refine Rw 27 ?_ rfl rfl rfl;refine Run.s (fun h=>TK.a rfl (zpm rfl rfl rfl rfl) h) ?_)
  | (refine Rw 28 ?_ rfl rfl rfl;refine Run.s (fun h=>TK.a rfl (q_len rfl rfl rfl Und.h) h) ?_)
  | (refine Rw 29 ?_ rfl rfl rfl;refine Run.s (fun h=>TK.a rfl (zma rfl rfl Und.h) h) ?_)
  | (refine Rw 30 ?_ rfl rfl rfl;refine Run.s (fun h=>TK.a rfl (q_not rfl rfl) h) ?_)
  | (refine Rw 31 ?_ rfl rfl rfl;refine Run.s (fun h=>TK.a rfl (znP rfl rfl zm.h rfl) h) ?_)
  | (refine Rw 32 ?_ rfl rfl rfl;refine Run.s (fun h=>TK.a rfl (zc4 rfl rfl rfl) h) ?_)
  | (refine Rw 33 ?_ rfl rfl rfl;refine Run.s (fun h=>TK.a rfl (zj2 rfl rfl rfl rfl) h) ?_)
  | (refine Rw 34 ?_ rfl rfl rfl;refine Run.s (fun h=>TK.a rfl (zj1 rfl rfl rfl Und.h rfl) h) ?_)
  | (refine Rw 35 ?_ rfl rfl rfl;refine Run.s (fun h=>TK.a rfl (yr rfl rfl Und.h Und.h rfl) h) ?_)
  | (refine Rw 36 ?_ rfl rfl rfl;refine Run.s (fun h=>TK.a rfl (zk rfl rfl rfl zp.h oQ oQ) h) ?_)
  | (refine Rw 37 ?_ rfl rfl rfl;refine Run.s (fun h=>TK.a rfl (kT rfl rfl rfl zp.h mQ oQ oQ) h) ?_)
  | (refine Rw 38 ?_ rfl rfl rfl;refine Run.s (fun h=>TK.a rfl (kh (l:=[_]) rfl TyZ.h BlOf.h rfl) h) ?_)
  | (refine Rw 39 ?_ rfl rfl rfl;refine Run.s (fun h=>TK.a rfl (kh (l:=[_,_]) rfl TyZ.h BlOf.h rfl) h) ?_)
  | (refine Rw 40 ?_ rfl rfl rfl;refine Run.s (fun h=>TK.a rfl (kh (l:=[_,_,_]) rfl TyZ.h BlOf.h rfl) h) ?_)
  | (refine Rw 41 ?_ rfl rfl rfl;refine Run.s (fun h=>TK.a rfl (kh (l:=[_,_,_,_]) rfl TyZ.h BlOf.h rfl) h) ?_)
  | (refine Rw 42 ?_ rfl rfl rfl;refine Run.s (fun h=>TK.a rfl (kh (l:=[_,_,_,_,_]) rfl TyZ.h BlOf.h rfl) h) ?_)
  | (refine Rw 43 ?_ rfl rfl rfl;refine Run.s (fun h=>TK.a rfl (kh (l:=[_,_,_,_,_,_]) rfl TyZ.h BlOf.h rfl) h) ?_)
  | (refine Rw 44 ?_ rfl rfl rfl;refine Run.s (fun h=>TK.a rfl (kh (l:=[_,_,_,_,_,_,_]) rfl TyZ.h BlOf.h rfl) h) ?_)
  | (refine Rw 45 ?_ rfl rfl rfl;refine Run.s (fun h=>TK.a rfl (kh (l:=[_,_,_,_,_,_,_,_]) rfl TyZ.h BlOf.h rfl) h) ?_)
  | (refine Rw 46 ?_ rfl rfl rfl;refine Run.s (fun h=>TK.a rfl (kh (l:=[_,_,_,_,_,_,_,_,_]) rfl TyZ.h BlOf.h rfl) h) ?_)
  | (refine Rw 47 ?_ rfl rfl rfl;refine Run.s (fun h=>TK.a rfl (kh (l:=[_,_,_,_,_,_,_,_,_,_]) rfl TyZ.h BlOf.h rfl) h) ?_))
 exact Run.mk hid.out):G:=(hs ⟨h⟩).go
def RetK(Y:KX P gm T)(vs:List gR)(Post:AV->KV->Prop):Prop :=
 ∀ j Wq K' K'' D r,(j=none\/j=some .ret)->Split K' K'' D->(∀ A',zU K' A'->resA P vs Wq A'=some r)->Post r K''->∀ A',Kn Y K' A'->Y.X.L j [] Wq A'
theorem zh(n:Nat){main:Bool}(hT:zo P main T){g:gF}{fn:Func}{c:Code}{args:List AV}{Post:AV->KV->Prop}(hf:P.funcs[g]? =some fn)
  (h:∀ Y:KX P gm T,RetK Y fn.results.toList Post->TK Y [] [.code c] (args++List.replicate (n - args.length) .any) K) (hb:fn.body=some c:=by rfl) (hn:fn.ntmps=n:=by rfl):zl P T gm g args K Post:=by
 subst hn;exact ze2 hT hf hb h
def Top(P:gP)(gm:Nat->Option Nat)(g:gF)(args:List AV)(K:KV)(Post:AV->KV->Prop):Prop :=
 ∀(R:gV->gW->Prop)(A:List AObj)(φ:Nat->Loc3)(H:Hp)(vs:Array gV),zU K A->(keys K).Nodup->RelG gm φ A.length->RelH φ A nF H->zN φ A.length args vs ->
  (∀ r K' φ' A' H' v w,Post r K'->(∀ i,i<A.length->i∉keys K->A'[i]? =A[i]?)->Agr φ φ' A.length->RelH φ' A' nF H'->RelV φ' A'.length r v->z5 H' w->R v w) ->
  BT P (AtRet P g R) (G (Frame.enter P g vs .normal) []) H
theorem topI(n:Nat){g:gF}{fn:Func}{c:Code}{t:Tmp}{args:List AV}{Post:AV->KV->Prop}(hf:P.funcs[g]? =some fn)
  (h:∀(R:gV->gW->Prop)(Y:KX P gm (BT P (AtRet P g R))),RetK Y fn.results.toList Post->TK Y [] [.code c] (args++List.replicate (n - args.length) .any) K) (hb:fn.body=some c:=by rfl) (hr:fn.results=#[.tmp t]:=by rfl) (hn:fn.ntmps=n:=by rfl) :
  Top P gm g args K Post:=fun R A φ H vs hv hnd hg hH Qg hR=>by
 subst hn;exact ziG hf hb (fun ts=>znV hr ts) hv hnd hg hH Qg hR (h R)
theorem res_0:∀ A,zU K A->resA P [] Wq A=some (.tup []):=kC .nil rfl
theorem res_2{v1 v2:gR}{r1 r2:AV}(h1:ResK P K Wq v1 r1)(h2:ResK P K Wq v2 r2):∀ A,zU K A->resA P [v1,v2] Wq A=some (.tup [r1,r2]):=kC (.cons h1 (.cons h2 .nil)) rfl
theorem res_3{v1 v2 v3:gR}{r1 r2 r3:AV}(h1:ResK P K Wq v1 r1)(h2:ResK P K Wq v2 r2)(h3:ResK P K Wq v3 r3):∀ A,zU K A->resA P [v1,v2,v3] Wq A=some (.tup [r1,r2,r3]):=kC (.cons h1 (.cons h2 (.cons h3 .nil))) rfl
theorem res_4{v1 v2 v3 v4:gR}{r1 r2 r3 r4:AV}(h1:ResK P K Wq v1 r1)(h2:ResK P K Wq v2 r2)(h3:ResK P K Wq v3 r3)(h4:ResK P K Wq v4 r4):∀ A,zU K A->resA P [v1,v2,v3,v4] Wq A=some (.tup [r1,r2,r3,r4]):=kC (.cons h1 (.cons h2 (.cons h3 (.cons h4 .nil)))) rfl
theorem TK.rt{vs:List gR}{Post:AV->KV->Prop}{D:KV}(hr:RetK Y vs Post)(R:KV)(h:Post r R)(hs:Split K R D:=by repeat (first|exact Split.none _|exact Split.all _|(apply Split.rem;repeat (first|exact Rem.head|apply Rem.tail))|apply Split.right))(hres:∀ A,zU K A->resA P vs Wq A=some r:=by first|exact yR (zQ rfl)|exact res_2 (zQ rfl) (zQ rfl)|exact res_3 (zQ rfl) (zQ rfl) (zQ rfl)|exact res_4 (zQ rfl) (zQ rfl) (zQ rfl) (zQ rfl)|exact res_2 (ki rfl ze.h mQ rfl) (zQ rfl)|exact yR (ki rfl ze.h mQ rfl)|exact yR (yG rfl ze.h mQ rfl)|exact res_2 (yG rfl ze.h mQ rfl) (yG rfl ze.h mQ rfl)|exact res_3 (ki rfl ze.h mQ rfl) (ki rfl ze.h mQ rfl) (zQ rfl)|exact res_0):TK Y [] (.code .ret::k) Wq K :=
 TK.leave (.ret _) fun A hA=>hr _ _ _ _ _ _ (.inr rfl) hs hres h A hA
theorem TK.rt0{vs:List gR}{Post:AV->KV->Prop}{D:KV}(hr:RetK Y vs Post)(R:KV)(h:Post r R)(hs:Split K R D:=by repeat (first|exact Split.none _|exact Split.all _|(apply Split.rem;repeat (first|exact Rem.head|apply Rem.tail))|apply Split.right))(hres:∀ A,zU K A->resA P vs Wq A=some r:=by first|exact yR (zQ rfl)|exact res_2 (zQ rfl) (zQ rfl)|exact res_3 (zQ rfl) (zQ rfl) (zQ rfl)|exact res_4 (zQ rfl) (zQ rfl) (zQ rfl) (zQ rfl)|exact res_2 (ki rfl ze.h mQ rfl) (zQ rfl)|exact yR (ki rfl ze.h mQ rfl)|exact yR (yG rfl ze.h mQ rfl)|exact res_2 (yG rfl ze.h mQ rfl) (yG rfl ze.h mQ rfl)|exact res_3 (ki rfl ze.h mQ rfl) (ki rfl ze.h mQ rfl) (zQ rfl)|exact res_0):TK Y [] [] Wq K :=
 TK.leave .fin fun A hA=>hr _ _ _ _ _ _ (.inl rfl) hs hres h A hA
theorem TK.rta{vs:List gR}{Post:AV->KV->Prop}(hr:RetK Y vs Post)(h:Post r K)(hres:∀ A,zU K A->resA P vs Wq A=some r:=by first|exact yR (zQ rfl)|exact res_2 (zQ rfl) (zQ rfl)|exact res_3 (zQ rfl) (zQ rfl) (zQ rfl)|exact res_4 (zQ rfl) (zQ rfl) (zQ rfl) (zQ rfl)|exact res_2 (ki rfl ze.h mQ rfl) (zQ rfl)|exact yR (ki rfl ze.h mQ rfl)|exact yR (yG rfl ze.h mQ rfl)|exact res_2 (yG rfl ze.h mQ rfl) (yG rfl ze.h mQ rfl)|exact res_3 (ki rfl ze.h mQ rfl) (ki rfl ze.h mQ rfl) (zQ rfl)|exact res_0):TK Y [] (.code .ret::k) Wq K :=
 TK.leave (.ret _) fun A hA=>hr _ _ _ _ _ _ (.inr rfl) (.all _) hres h A hA
theorem TK.rt0a{vs:List gR}{Post:AV->KV->Prop}(hr:RetK Y vs Post)(h:Post r K)(hres:∀ A,zU K A->resA P vs Wq A=some r:=by first|exact yR (zQ rfl)|exact res_2 (zQ rfl) (zQ rfl)|exact res_3 (zQ rfl) (zQ rfl) (zQ rfl)|exact res_4 (zQ rfl) (zQ rfl) (zQ rfl) (zQ rfl)|exact res_2 (ki rfl ze.h mQ rfl) (zQ rfl)|exact yR (ki rfl ze.h mQ rfl)|exact yR (yG rfl ze.h mQ rfl)|exact res_2 (yG rfl ze.h mQ rfl) (yG rfl ze.h mQ rfl)|exact res_3 (ki rfl ze.h mQ rfl) (ki rfl ze.h mQ rfl) (zQ rfl)|exact res_0):TK Y [] [] Wq K :=
 TK.leave .fin fun A hA=>hr _ _ _ _ _ _ (.inl rfl) (.all _) hres h A hA
theorem TK.kp{D:KV}(R:KV)(h:TK Y ds k Wq R)(hs:Split K R D:=by repeat (first|exact Split.none _|exact Split.all _|(apply Split.rem;repeat (first|exact Rem.head|apply Rem.tail))|apply Split.right)):TK Y ds k Wq K:=TK.keep hs h
theorem TK.cl{fo:gO}{ars:Array gO}{at_:Array gT}{g:gF}{fs cp args:List AV}{Kf R:KV}{Post:AV->KV->Prop}(ho:Qy[i]? =some o)(Qw:o.op=.call { callee:=.value fo,args:=ars,argTypes:=at_ })
  (hf:zn gm Wq fo=some (.fn g fs cp)) (Qg:fs++ars.toList.map (zT gm Wq)++cp=args) (hc:zl P T gm g args Kf Post)
  (h:∀ r K',Post r K'->TK Y ds (.inRegion Qy Wp::k) (Wq.set d r) (K'++R)) (hs:Split K Kf R:=by repeat (first|exact Split.none _|exact Split.all _|(apply Split.rem;repeat (first|exact Rem.head|apply Rem.tail))|apply Split.right)) (hw:zM Qy Wq o=some tt:=by rfl) (hg:yk P g=tt:=by exact Cal.h) (hx:o.dst=some d:=by rfl):TK Y ds (.inRegion Qy (i::Wp)::k) Wq K :=
 TK.call' ho hw Qw hf hg Qg hc hs fun r K' hp=>by rw[hx];exact h r K' hp
theorem TK.clE{fo:gO}{ars:Array gO}{at_:Array gT}{g:gF}{fs cp args:List AV}{Kf R K1:KV}{v:AV}(ho:Qy[i]? =some o)(Qw:o.op=.call { callee:=.value fo,args:=ars,argTypes:=at_ })
  (hf:zn gm Wq fo=some (.fn g fs cp)) (Qg:fs++ars.toList.map (zT gm Wq)++cp=args) (hc:zl P T gm g args Kf (fun r K'=>r=v/\K'=K1))
  (h:TK Y ds (.inRegion Qy Wp::k) (Wq.set d v) (K1++R)) (hs:Split K Kf R:=by repeat (first|exact Split.none _|exact Split.all _|(apply Split.rem;repeat (first|exact Rem.head|apply Rem.tail))|apply Split.right)) (hw:zM Qy Wq o=some tt:=by rfl) (hg:yk P g=tt:=by exact Cal.h) (hx:o.dst=some d:=by rfl):TK Y ds (.inRegion Qy (i::Wp)::k) Wq K :=
 TK.cl ho Qw hf Qg hc (fun r K' hp=>by rw[hp.1,hp.2];exact h) hs hw hg hx
theorem TK.sp(d:Nat){t:Bool}{env1 env0:List AV}(k1:t=tt->TK Y ds k env1 K)(k0:t=ff->TK Y ds k env0 K)(hd:Wq[d]? =some (.v (.bool t)):=by rfl)(h1:Wq.set d (.v (.bool tt))=env1:=by simp only[List.set];rfl)(h0:Wq.set d (.v (.bool ff))=env0:=by simp only[List.set];rfl):TK Y ds k Wq K:=TK.splitN d hd h1 h0 k1 k0
theorem TD.sp{Wy:List Pd}(d:Nat){t:Bool}{env1 env0:List AV}(k1:t=tt->TD Y ds Qy k Wy L env1 K)(k0:t=ff->TD Y ds Qy k Wy L env0 K)(hd:Wq[d]? =some (.v (.bool t)):=by rfl)(h1:Wq.set d (.v (.bool tt))=env1:=by simp only[List.set];rfl)(h0:Wq.set d (.v (.bool ff))=env0:=by simp only[List.set];rfl):TD Y ds Qy k Wy L Wq K:=TD.splitN d hd h1 h0 k1 k0
end
structure RSeam where
 step:Int
 most:Int
 busy:Int
 spoil:Int
 whole:Bool
 deriving DecidableEq
structure RBand where
 low:Int
 high:Int
 deriving DecidableEq
structure RMeas where
 cloth:Int
 many:Int
 wide:Int
 deriving DecidableEq
structure RBk where
 sP:Int
 round:Int
 roll:Int
 rolls:Int
 sE:List RSeam
 sH:List RBand
 mE:List RMeas
 deriving DecidableEq
instance:Inhabited RSeam:=⟨⟨0,0,0,0,ff⟩⟩
instance:Inhabited RBand:=⟨⟨0,0⟩⟩
instance:Inhabited RMeas:=⟨⟨0,0,0⟩⟩
abbrev za(n:Int):AV:=.v (.int .i64 n)
abbrev zr(t:Bool):AV:=.v (.bool t)
def seamC(x:RSeam):List AV:=[za x.step,za x.most,za x.busy,za x.spoil,zr x.whole]
def bandC(x:RBand):List AV:=[za x.low,za x.high]
def measC(x:RMeas):List AV:=[za x.cloth,za x.many,za x.wide]
def zP(b:RBk)(s h e:Nat):List AV:=[za b.sP,za b.round,za b.roll,za b.rolls,.sl s 0 b.sE.length,.sl h 0 b.sH.length,.sl e 0 b.mE.length]
abbrev zt(b:RBk):AObj:=.cells (b.sE.flatMap seamC) 183 ff
abbrev zX(b:RBk):AObj:=.cells (b.sH.flatMap bandC) 23 ff
abbrev zG(b:RBk):AObj:=.cells (b.mE.flatMap measC) 108 ff
def slotR(s:List Int)(i:Nat):AV:=za (s.getD i 0)
def stC(s:List Int):List AV:=[slotR s 0,slotR s 1,slotR s 2,slotR s 3,slotR s 4]
theorem za8{α:Type}(f:α->List AV)(c:Nat)(hc:∀ x,(f x).length=c):∀(xs:List α)(i:Nat)(h:i<xs.length),((xs.flatMap f).drop (i*c)).take c=f xs[i]
 | x::xs,0,_=>by
  rw[Nat.zero_mul,List.drop_zero,List.flatMap_cons,List.take_left' (hc x)];rfl
 | x::xs,i+1,h=>by
  rw[List.flatMap_cons,Nat.succ_mul,Nat.add_comm,<- List.drop_drop,List.drop_left' (hc x)];exact za8 f c hc xs i (by simpa using h)
theorem kz{α:Type}(f:α->List AV)(c:Nat)(hc:∀ x,(f x).length=c)(xs:List α):(xs.flatMap f).length=xs.length*c:=by
 induction xs with
 | nil=>simp
 | cons x xs ih=>rw[List.flatMap_cons,List.length_append,ih,hc,List.length_cons,Nat.succ_mul,Nat.add_comm]
theorem zaf{α:Type}{f:α->List AV}{c:Nat}(hc:∀ x,(f x).length=c){xs:List α}{x:α}{i:Nat}{n:Int}{e:gT}{rw':Bool}(h:xs[i]? =some x)(hn:n=(i:Int))(h0:0<c):z6 (.cells (xs.flatMap f) e rw') (0+n.toNat*c) c=some (f x):=by
 subst hn;obtain⟨h1,h2⟩:=lD.1 h;have hle:(i+1)*c<=xs.length*c:=Nat.mul_le_mul_right _ h1;have:(i+1)*c=i*c+c:=Nat.succ_mul ..;simp only[z6,AObj.look,mZ,mO];rw[if_pos ⟨by omega,by rw[kz f c hc];omega⟩,za8 f c hc _ _ h1,h2]
theorem y8{l:List Int}{i:Nat}{n x:Int}{e:gT}{rw':Bool}(h:l[i]? =some x)(hn:n=(i:Int)):z6 (.cells (l.map za) e rw') (0+n.toNat*1) 1=some [za x]:=by
 subst hn;obtain⟨h1,h2⟩:=lD.1 h;simp only[z6,AObj.look,mZ,mO,Nat.mul_one];rw[if_pos ⟨by omega,by rw[lJ];omega⟩,List.take_one,List.head?_drop,lQ,h];rfl
theorem zdB{l:List Int}{i:Nat}{n x:Int}{e:gT}{s:Nat}(h:l[i]? =some x)(hn:n=(i:Int)):z6 (.row (l.map za) e s) (n.toNat*1) 1=some [za x]:=by
 subst hn;obtain⟨h1,h2⟩:=lD.1 h;simp only[z6,AObj.look,mZ,Nat.mul_one];rw[if_pos ⟨by omega,by rw[lJ];omega⟩,List.take_one,List.head?_drop,lQ,h];rfl
theorem yB{ob:AObj}{p n c:Nat}{l:List AV}{v:AV}(h:z6 ob p n=some l)(hc:c<n)(hl:l[c]? =some v):z6 ob (p+c) 1=some [v]:=by
 unfold z6 at h ⊢;cases hk:ob.look with
 | none=>rw[hk]at h;cases h
 | some q =>
  rw[hk]at h;dsimp only at h ⊢;split at h
  ·rename_i hb;cases h;rw[if_pos ⟨by omega,oQ⟩];rw[List.getElem?_take,if_pos hc,List.getElem?_drop]at hl;obtain⟨h1,h2⟩:=lD.1 hl;rw[List.take_one,List.head?_drop,hl];rfl
  ·cases h
theorem zY{α:Type}{l:List α}{i:Nat}{x:α}(h:l[i]? =some x):l.drop i=x::l.drop (i+1):=by
 obtain⟨h1,rfl⟩:=lD.1 h;exact List.drop_eq_getElem_cons h1
theorem yQ{α:Type}{l:List α}{i:Nat}{x:α}(h:l[i]? =some x):l.take (i+1)=l.take i++[x]:=by
 rw[List.take_add_one,h];rfl
def sm(b:RBk)(i:Nat):RSeam:=b.sE.getD i default
theorem kv{b:RBk}{i:Nat}(h:i<b.sE.length):b.sE[i]? =some (sm b i):=by
 unfold sm;rw[lE,lA h];rfl
theorem zpq{b:RBk}{i:Nat}(h:i<b.sE.length):sm b i∈b.sE:=List.mem_of_getElem? (kv h)
def bd(b:RBk)(i:Nat):RBand:=b.sH.getD i default
theorem kJ{b:RBk}{i:Nat}(h:i<b.sH.length):b.sH[i]? =some (bd b i):=by
 unfold bd;rw[lE,lA h];rfl
theorem sm_at(b:RBk){i:Nat}{n:Int}{e:gT}{rw':Bool}(h:i<b.sE.length)(hn:n=(i:Int)):z6 (.cells (b.sE.flatMap seamC) e rw') (0+n.toNat*5) 5=some (seamC (sm b i)):=zaf (c:=5) (fun _=>rfl) (kv h) hn dQ
theorem bd_at(b:RBk){i:Nat}{n:Int}{e:gT}{rw':Bool}(h:i<b.sH.length)(hn:n=(i:Int)):z6 (.cells (b.sH.flatMap bandC) e rw') (0+n.toNat*2) 2=some (bandC (bd b i)):=zaf (c:=2) (fun _=>rfl) (kJ h) hn dQ
def wideM(b:RBk)(i:Nat):Int:=(if i+1<b.sE.length then(sm b (i+1)).step else(sm b 0).step+b.sP) - (sm b i).step
def betw(n lo hi:Int):Bool:=decide (lo<=n)&&decide (n<=hi)
theorem zcC{n lo hi:Int}(h:betw n lo hi=tt):lo<=n/\n<=hi:=by simpa[betw]using h
def isBd(x:RBand)(lo hi:Int):Bool:=decide (lo<=x.low)&&decide (x.low<=x.high)&&decide (x.high<=hi)
def roundsM(b:RBk):Int:=if (betw b.sP 2 24&&betw b.round b.sP 40&&betw b.roll 1 24&&betw b.rolls 1 5)=tt then 0 else 1
def seamB(b:RBk)(s:RSeam):Bool:=betw s.step 0 (b.sP - 1)&&betw s.most 0 9&&betw s.busy 0 9&&betw s.spoil 0 9
def seamsL(b:RBk):Int->List RSeam->Int
 | _,[]=>0
 | last,s::r=>if seamB b s=ff then 1 else if s.step<=last then 7 else seamsL b s.step r
def seamsM(b:RBk):Int:=if betw b.sE.length 1 5=ff then 2 else seamsL b (-1) b.sE
def bandB(x:RBand):Bool:=isBd x 0 5&&decide (x.high - x.low<3)
def clothsL(b:RBk):Nat->List RBand->Int
 | _,[]=>0
 | i,x::r=>if bandB x=ff then 1 else if wideM b i<=x.high then 8 else clothsL b (i+1) r
def clothsM(b:RBk):Int:=if b.sH.length≠b.sE.length then 2 else clothsL b 0 b.sH
def thereM(b:RBk)(n:Int):Int:=if betw n 0 (b.sE.length - 1)=tt then 0 else 6
def measB(b:RBk)(m:RMeas):Bool:=betw m.many 1 b.sE.length&&betw m.wide 0 24
def measL(b:RBk):List RMeas->Int
 | []=>0
 | m::r=>if thereM b m.cloth≠0 then thereM b m.cloth else if measB b m=ff then 1 else measL b r
def measM(b:RBk):Int:=if 3<b.mE.length then 2 else measL b b.mE
def checkM(b:RBk):Int:=if roundsM b≠0 then roundsM b else if seamsM b≠0 then seamsM b else if clothsM b≠0 then clothsM b else measM b
structure RndOk(b:RBk):Prop where
 sP:2<=b.sP/\b.sP<=24
 round:b.sP<=b.round/\b.round<=40
 roll:1<=b.roll/\b.roll<=24
 rolls:1<=b.rolls/\b.rolls<=5
theorem zaO{b:RBk}(h:roundsM b=0):RndOk b:=by
 unfold roundsM at h;split at h
 ·rename_i h1;simp only[betw,mX,dT_]at h1;obtain⟨⟨⟨⟨h1,h2⟩,h3,h4⟩,h5,h6⟩,h7,h8⟩:=h1;exact⟨⟨h1,h2⟩,⟨h3,h4⟩,⟨h5,h6⟩,⟨h7,h8⟩⟩
 ·cases h
structure SmOk(b:RBk):Prop where
 len:1<=b.sE.length/\b.sE.length<=5
 fld:∀ i,i<b.sE.length->0<=(sm b i).step/\(sm b i).step<b.sP/\0<=(sm b i).most/\(sm b i).most<=9/\0<=(sm b i).busy/\(sm b i).busy<=9/\0<=(sm b i).spoil/\(sm b i).spoil<=9
 asc:∀ i j,i<j->j<b.sE.length->(sm b i).step<(sm b j).step
theorem zhy{b:RBk}{s:RSeam}(h:seamB b s=tt):0<=s.step/\s.step<b.sP/\0<=s.most/\s.most<=9/\0<=s.busy/\s.busy<=9/\0<=s.spoil/\s.spoil<=9:=by
 simp only[seamB,betw,mX,dT_]at h;omega
theorem zgd{b:RBk}:∀(l:List RSeam)(last:Int),seamsL b last l=0->(∀ s∈l,seamB b s=tt/\last<s.step)/\l.Pairwise fun s t=>s.step<t.step
 | [],last,_=>⟨fun s hs=>by simp at hs,.nil⟩
 | s::r,last,h=>by
  unfold seamsL at h;split at h
  ·cases h
  ·rename_i h1;split at h
   ·cases h
   ·rename_i h2;obtain⟨q1,q2⟩:=zgd r _ h;refine⟨fun t ht=>?_,.cons (fun t ht=>(q1 t ht).2) q2⟩;rcases lI.1 ht with rfl|ht
    ·exact⟨by simpa using h1,oQ⟩
    ·have:=(q1 t ht).2;exact⟨(q1 t ht).1,oQ⟩
theorem zbm{b:RBk}(h:seamsM b=0):SmOk b:=by
 unfold seamsM at h;split at h
 ·cases h
 ·rename_i h1;have h1:betw b.sE.length 1 5=tt:=by simpa using h1
  have hl:=zcC h1;obtain⟨q1,q2⟩:=zgd _ _ h;refine⟨by omega,fun i hi=>zhy (q1 _ (zpq hi)).1,fun i j hij hj=>?_⟩;have hi:i<b.sE.length:=by omega
  have:=List.pairwise_iff_getElem.1 q2 i j hi hj hij;have e1:b.sE[i]=sm b i:=by have:=kv hi;rw[lA hi]at this;exact Option.some.inj this
  have e2:b.sE[j]=sm b j:=by have:=kv hj;rw[lA hj]at this;exact Option.some.inj this
  rwa[e1,e2]at this
theorem zod{b:RBk}(hr:RndOk b)(hs:SmOk b){i:Nat}(hi:i<b.sE.length):1<=wideM b i/\wideM b i<=b.sP:=by
 unfold wideM;have h1:=hs.fld i hi;have h0:=hs.fld 0 oQ;split
 ·rename_i h;have:=hs.asc i (i+1) oQ h;have:=hs.fld (i+1) h;omega
 ·rcases mP i with rfl|hp
  ·have:=hr.sP;omega
  ·have:=hs.asc 0 i hp hi;omega
structure ClOk(b:RBk):Prop where
 len:b.sH.length=b.sE.length
 bnd:∀ i,i<b.sE.length->0<=(bd b i).low/\(bd b i).low<=(bd b i).high/\(bd b i).high<=5/\(bd b i).high - (bd b i).low<3/\(bd b i).high<wideM b i
theorem zmN{x:RBand}(h:bandB x=tt):0<=x.low/\x.low<=x.high/\x.high<=5/\x.high - x.low<3:=by
 simp only[bandB,isBd,mX,dT_]at h;omega
theorem zdS{b:RBk}:∀(l:List RBand)(i:Nat),clothsL b i l=0->∀ k x,l[k]? =some x->bandB x=tt/\x.high<wideM b (i+k)
 | [],i,_,k,x,hx=>by simp at hx
 | y::r,i,h,k,x,hx=>by
  unfold clothsL at h;split at h
  ·cases h
  ·rename_i h1;split at h
   ·cases h
   ·rename_i h2;cases k with
    | zero=>simp at hx;subst hx;exact⟨by simpa using h1,by simpa using h2⟩
    | succ k =>
     have:=zdS r (i+1) h k x (by simpa using hx);rw[show i+(k+1)=i+1+k by omega];exact this
theorem zhX{b:RBk}(h:clothsM b=0):ClOk b:=by
 unfold clothsM at h;split at h
 ·cases h
 ·rename_i h1;have hl:b.sH.length=b.sE.length:=by simpa using h1
  refine⟨hl,fun i hi=>?_⟩;obtain⟨q1,q2⟩:=zdS _ _ h i _ (kJ oQ);have:=zmN q1;rw[mO]at q2;omega
structure MeOk(b:RBk):Prop where
 len:b.mE.length<=3
 bnd:∀ m∈b.mE,0<=m.cloth/\m.cloth<b.sE.length/\1<=m.many/\m.many<=b.sE.length/\0<=m.wide/\m.wide<=24
theorem zhH{b:RBk}{n:Int}(h:thereM b n=0):0<=n/\n<b.sE.length:=by
 unfold thereM at h;split at h
 ·rename_i h1;have:=zcC h1;omega
 ·cases h
theorem zhk{b:RBk}:∀(l:List RMeas),measL b l=0->∀ m∈l,0<=m.cloth/\m.cloth<b.sE.length/\1<=m.many/\m.many<=b.sE.length/\0<=m.wide/\m.wide<=24
 | [],_,m,hm=>by simp at hm
 | y::r,h,m,hm=>by
  unfold measL at h;split at h
  ·rename_i h1;exact absurd h h1
  ·rename_i h1;split at h
   ·cases h
   ·rename_i h2;rcases lI.1 hm with rfl|hm
    ·have h3:=zhH (b:=b) (n:=m.cloth) (by simpa using h1);have h2:measB b m=tt:=by simpa using h2
     simp only[measB,betw,mX,dT_]at h2;omega
    ·exact zhk r h m hm
theorem zlG{b:RBk}(h:measM b=0):MeOk b:=by
 unfold measM at h;split at h
 ·cases h
 ·exact⟨by omega,zhk _ h⟩
structure ROk(b:RBk):Prop where
 rnd:RndOk b
 sms:SmOk b
 cls:ClOk b
 mes:MeOk b
theorem kQ{b:RBk}(h:checkM b=0):ROk b:=by
 unfold checkM at h;split at h
 ·rename_i h1;exact absurd h h1
 ·rename_i h1;split at h
  ·rename_i h2;exact absurd h h2
  ·rename_i h2;split at h
   ·rename_i h3;exact absurd h h3
   ·rename_i h3;exact⟨zaO (by simpa using h1),zbm (by simpa using h2),zhX (by simpa using h3),zlG h⟩
theorem ROk.wide{b:RBk}(h:ROk b){i:Nat}(hi:i<b.sE.length):1<=wideM b i/\wideM b i<=24:=by
 have:=zod h.rnd h.sms hi;have:=h.rnd.sP;omega
end Go.Vel
namespace Go.Vel
open Go Go.Conc
open Go.ConcN (sumTo upd upd_ne upd_same)
open Go.ConcM (OsLater MuAt muA msA)
open Go.ConcR (KK wgBlock WgAt stA smA mk)
open Mx (TT Th Mn S4 auto Mv4 ok4 bl4 kd dl MPc Pc okW okM Mv)
structure Sy(P:gP) where
 n:Nat
 lkr:Nat->Bool
 tM:gT
 tW:gT
 Mu:Nat
 Wg:Nat
 hne:Mu≠Wg
 GI:(Nat->Bool)->Hp->Prop
 Stop:gG->Hp->Prop
section
variable {P:gP}
def Sy.sh(y:Sy P)(w:gW)(s:S4):Prop:=MuAt y.tM y.Mu w s.mu s.ms/\WgAt y.tW y.Wg w ((s.v:Int)*KK+s.wt) s.ws
def Sy.S2(y:Sy P)(b:Nat):Prop:=b=y.Mu\/b=y.Wg
abbrev Sy.A(y:Sy P):Aut:=auto y.n y.lkr
def Sy.all(y:Sy P):Nat->Bool:=fun i=>y.lkr i&&decide (i<y.n)
def Sy.At(y:Sy P)(main:Bool)(Ch:Nat->gG->Hp->Prop)(k i:Nat)(T:TT)(x:Nat->Bool):gG->Hp->Prop:=AtD P y.A y.sh y.S2 (muA y.Mu) (stA y.Wg) y.GI y.all y.Stop main Ch k i T x
def Sy.Sg(y:Sy P)(main:Bool)(Ch:Nat->gG->Hp->Prop)(k i:Nat)(T:TT)(x:Nat->Bool):gG->Hp->Prop:=Seg P main (y.A.aft T) (LiveS y.A y.sh) (y.At main Ch k i T x)
def Sy.Chd(y:Sy P)(j:Nat)(ch:gG)(Hc:Hp):Prop:=∀ k x,Seg P ff ff (LiveS y.A y.sh) (y.At ff (fun _ _ _=>False) k j (y.A.st j) x) ch Hc
def Sy.M(y:Sy P)(k:Nat)(T:TT)(x:Nat->Bool):gG->Hp->Prop:=y.Sg tt y.Chd k 0 T x
theorem Sy.shBy(y:Sy P):ShBy y.S2 (S:=S4) y.sh:=fun w w' s h hb=>⟨(hb y.Mu (.inl rfl)).trans h.1,(hb y.Wg (.inr rfl)).trans h.2⟩
theorem zms{main:Bool}{Live:gW->Prop}{S:gG->Hp->Prop}:zo P main (Seg P main ff Live S):=fun g H hr h=>by
 refine .step hr (fun w hw _=>?_) fun w g' w' es hw _ he=>?_
 ·obtain⟨g',w',es,h1,h2,h3,_⟩:=h w hw;exact⟨g',w',es,h1,h2,h3,fun e=>by cases e⟩
 ·obtain⟨g'',w'',es',h1,_,_,h4⟩:=h w hw;rw[he]at h1;cases h1;exact h4
theorem zgy(y:Sy P){Ψ:gG->gW->Prop}{g:gG}{H H' L:Hp}(hn:1<=y.n/\y.n<=31)(hM:H y.Mu=some (tt,Go.ConcM.muBlock y.tM 0 0))(hW:H y.Wg=some (tt,wgBlock y.tW 0 0))(hr:g.status=.running)
  (h1:H'.Sub H) (h2:L.Sub H) (h3:H'.Dis L) (h4:∀ b x,H' b=some x->¬ y.S2 b) (h5:∀ b x,L b=some x->¬ y.S2 b) (hG:y.GI (fun _=>ff) L) (hS:∀ a Hs,y.Stop a Hs->BT P Ψ a Hs)
  (hseg:∀ k,y.M k (.m { pc:=.a0,j:=0 }) (fun _=>ff) g H'):BT P Ψ g H:=by
 intro w D hf hD hB gs sl t q h0 hL hP hN;have Qx:0<gs.size:=(mG.1 h0).1
 let s0:S4:=⟨0,0,0,0,0⟩
 let f:Nat->TT:=fun i=>if i=0 then .m { pc:=.a0,j:=0 } else .w { pc:=.quit }
 have hfit:∀{K:Hp},K.Sub H->z5 K w:=fun hK=>zaA hf hK;have hnoD:∀{K:Hp},K.Sub H->∀ b x,K b=some x->¬ D b:=fun hK b x hb=>by
  obtain⟨rw',hx,_⟩:=hK b x.1 x.2 hb;exact hD b _ hx
 have e0:gid gs.size 0=0:=rfl;have hsh:y.sh w s0:=⟨hf _ _ _ hM,by
  show w.heap[y.Wg]? =some (wgBlock y.tW (((0:Nat):Int)*KK+(0:Nat)) (0:Nat));rw[hf _ _ _ hW];simp⟩
 have hf0:f (gid gs.size 0)=.m { pc:=.a0,j:=0 }:=rfl;have hk0:y.A.kd (.m { pc:=.a0,j:=0 })=.book:=rfl;have hAI:Mx.AI y.n y.lkr 0 (fun q=>f (gid gs.size q)) s0:=by
  refine⟨by rw[hf0];rfl,fun i hi=>by omega,?_,Mx.inv_none.congr (f:=fun _=>{ pc:=.quit }) fun i hi=>by omega,fun i hi=>by omega,fun i hi=>by omega,?_⟩
  ·rw[hf0];exact⟨rfl,oQ,hn.2,hn.1,fun _=>by omega,fun e=>(by cases e),by simp[Mx.mn],fun e=>by cases e⟩
  ·rw[hf0];simp[Mx.mn,Mx.Gq,Mx.S,s0]
 let φ:=Mx.Φ4 y.n 0 (fun q=>f (gid gs.size q)) s0
 let F:Nat->WS:=fun i=>if i=0 then .go tt ff (Sq P y.A y.sh y.S2 (muA y.Mu) (stA y.Wg) y.GI y.all y.Stop gs.size 0 (φ+1) (f 0) (fun _=>ff)) g H' else if i<gs.size then .left (q i)else .left 0
 have hthr:∀ i,Thr gs.size 0 i↔i=0:=fun i=>by unfold Thr;omega
 have hMI:MI P y.A y.sh y.S2 (muA y.Mu) (stA y.Wg) y.GI y.all y.Stop (fun b=>y.S2 b\/D b) (Mx.AI y.n y.lkr) (Mx.Φ4 y.n) gs.size gs w t 0 s0 f F (some L) (fun _=>ff) φ:=by
  refine⟨Qx,rfl,hsh,hAI,mL _,fun i x hx hi=>?_,fun i x hx hi hm=>?_,fun i hi=>?_,hL.above,?_,.inl ⟨L,rfl,hG,hfit h2,fun i hi=>?_⟩,fun i hi=>by omega,fun i _=>rfl⟩
  ·have:=(hthr i).1 hi;subst this;rw[h0]at hx;cases hx;refine⟨rfl,rfl,fun e=>(by cases hk0.symm.trans e),hP.hears,hfit h1,fun e=>(by cases e),φ+1,fun _=>ff,rfl,Nat.lt_succ_self _,fun e=>(by cases hk0.symm.trans e),.inl ⟨rfl,hr,?_⟩⟩;have:=hseg (φ+1);unfold Sq;rw[if_pos rfl];exact this
  ·refine⟨q i,?_,hL.old i x hi hx⟩;show(if i=0 then _ else if i<gs.size then _ else _)=_;rw[if_neg oQ,if_pos hm]
  ·show(if i=0 then _ else if i<gs.size then _ else _)=_;rw[if_neg oQ,if_neg oQ]
  ·have hT:=TI.init (Sb:=fun b=>y.S2 b\/D b) (aM:=muA y.Mu) (aW:=stA y.Wg) hP (fun l hl=>.inr hl) (H:=H') (L:=L) h3 (fun b x hb hs=>hs.elim (h4 b x hb) (hnoD h1 b x hb)) (fun b x hb hs=>hs.elim (h5 b x hb) (hnoD h2 b x hb))
    (fun b hs=>hs.elim (fun e=>by rcases e with rfl|rfl;exact hf.lt hM;exact hf.lt hW) (hB b)) hN
   refine⟨hT.clean,hT.low,fun idx a ha hm hs=>(hT.quiet idx a ha hm hs).imp id fun h k hk=>h k ((hthr k).1 hk),fun idx a ha hm=>(hT.fin idx a ha hm).imp id fun x=>x.imp (fun⟨i,e1,e2⟩=>⟨i,e1,(hthr i).2 e2,by subst e2;rfl⟩) id,fun k hk idx a ha hm rw' o hb hor=>?_,fun K e idx a ha hm rw' o hb hor=>(hT.lk K e idx a ha hm rw' o hb hor).imp (fun h k hk=>h k ((hthr k).1 hk.1)) id,fun k l b o hk hl hne=>?_,fun K e k hk=>?_,hT.norel,fun k hk b x hb=>?_,hT.sbL,hT.sbn,fun k hk=>hk.1⟩
   ·have:=(hthr k).1 hk.1;subst this;exact hT.hk 0 rfl idx a ha hm rw' o hb hor
   ·exact absurd (((hthr k).1 hk.1).trans ((hthr l).1 hl.1).symm) hne
   ·have:=(hthr k).1 hk.1;subst this;exact hT.dl K e 0 rfl
   ·have:=(hthr k).1 hk.1;subst this;exact hT.sb 0 rfl b x hb
  ·have:=(hthr i).1 hi;subst this;exact fun e=>by cases hk0.symm.trans e
 obtain⟨N,gs',w',sl',t',q',a',Hs,m1,m2,_,m4,m5,m6,m7,m8,m9,m9',m10,m11,m12⟩:=zgC (Mx.auto_ok y.n y.lkr) y.shBy (fun b hb=>.inl hb) (.inl (.inl rfl)) (.inl (.inr rfl)) φ gs w sl t 0 s0 f F (some L) (fun _=>ff) hMI;obtain⟨N2,gs2,a2,w2,sl2,t2,q2,D2,r1,r2,r3,r4,r5,r6,r7⟩:=hS a' Hs m4 w' _ m5 m9 m9' gs' sl' t' q' m2 m6 m7 m8;exact⟨N+N2,gs2,a2,w2,sl2,t2,q2,D2,by rw[vV N N2 _ _ _ _ m1];exact r1,r2,r3,r4,r5,m11.trans r6,r7.trans m12⟩
end
end Go.Vel
namespace Go.Vel
open Go Go.Conc
open Go.ConcN (sumTo upd upd_ne upd_same)
open Go.ConcM (OsLater MuAt muA msA)
open Go.ConcR (KK wgBlock WgAt stA smA mk rd wr)
open Mx (TT Th Mn S4 auto Mv4 ok4 bl4 kd dl MPc Pc okW okM Mv)
section
variable {P:gP}{gm:Nat->Option Nat}
def YU{T:gG->Hp->Prop}{main:Bool}(hT:zo P main T)(gm:Nat->Option Nat)(φ0:Nat->Loc3)(kd:gK)(hkd:kd≠.early)(f:gF)(cs:List gQ)(de:List gD)(A0:List AObj)(K0:List Nat):KX P gm T :=
 ⟨{ main,hT,φ0,n0:=A0.length,F:=nF,hF0:=rfl,kd,hkd,f,ro:=none,cs,dd:=de,
     L:=fun j ds Wq A=>∀ φ H ts k,Leave j k->Agr φ0 φ A0.length->A0.length<=A.length->RelG gm φ A.length->(∀ d∈ds,d<A.length)->RelH φ A nF H->zN φ A.length Wq ts->T (G (fr kd f none ts (dsC φ ds++de) k) cs) H,
     hL:=fun j k ds Wq A φ H ts hl hL a b c d e f=>hL φ H ts k hl a b c d e f },A0,K0⟩
def bf(kd:gK)(f:gF):gQ:={ (default:gQ)with fn:=f,kind:=kd }
theorem fr_at(kd:gK)(f:gF)(ts:Array gV)(ds:List gD)(k:List Item):fr kd f none ts ds k=(bf kd f).at ⟨ts,ds⟩ k:=rfl
theorem yo(ts:Array gV)(ds:List gD)(d:Option Tmp)(v:gV):(⟨ts,ds⟩:Act).put d v=⟨putT ts d v,ds⟩:=by cases d <;> rfl
theorem yY(ts:Array gV)(ds:List gD):(⟨ts,ds⟩:Act).eval=evT ts:=by funext x;cases x <;> rfl
theorem uo{main:Bool}{S2:Nat->Prop}(d:Nat):EvB main S2 d d #[]:=⟨rfl,fun e he=>by simp at he,fun j e he=>by simp at he⟩
theorem zad{main:Bool}{S2:Nat->Prop}(d:Nat):EvB main S2 d (d+1) #[mk .disable]:=⟨rfl,fun e he=>.inl (by simp at he;subst he;rfl),fun j e he=>.inl (by
 have:=mH he;simp at this;subst this;rfl)⟩
theorem wC{main:Bool}{S2:Nat->Prop}(d:Nat):EvB main S2 (d+1) d #[mk .enable]:=⟨rfl,fun e he=>.inl (by simp at he;subst he;rfl),fun j e he=>.inl (by
 have:=mH he;simp at this;subst this;rfl)⟩
theorem zbz{main:Bool}{S2:Nat->Prop}{d:Nat}(hd:0<d){es:Array Event}(h:∀ e∈es,Tch main S2 e/\e.loc≠.mark .disable/\e.loc≠.mark .enable):EvB main S2 d d es:=by
 refine⟨deafBehind_still (fun e he=>(h e he).2) d,fun e he=>.inr (h e he).1,fun j e he=>.inr ?_⟩;have hx:∀ e'∈es.extract 0 j,e'.loc≠.mark .disable/\e'.loc≠.mark .enable:=fun e' he'=>by
  have hm:e'∈es.toList.take j:=by
   obtain⟨l⟩:=es;simpa using he'
  exact(h e' (by simpa using List.mem_of_mem_take hm)).2
 rw[deafBehind_still hx d];exact hd
theorem vA{main:Bool}{S2:Nat->Prop}{a:Addr}(h:S2 a.block)(x:Bool):Tch main S2 ⟨.cell a,x,tt⟩/\(⟨.cell a,x,tt⟩:Event).loc≠.mark .disable/\(⟨.cell a,x,tt⟩:Event).loc≠.mark .enable:=⟨.inl ⟨a,x,rfl,h⟩,by simp,by simp⟩
theorem evb_r{main:Bool}{S2:Nat->Prop}{d:Nat}(hd:0<d){a:Addr}(h:S2 a.block):EvB main S2 d d #[⟨.cell a,ff,tt⟩]:=zbz hd fun e he=>by simp at he;subst he;exact vA h _
theorem zae{main:Bool}{S2:Nat->Prop}{d:Nat}(hd:0<d){a:Addr}(h:S2 a.block):EvB main S2 d d #[⟨.cell a,ff,tt⟩,⟨.cell a,tt,tt⟩]:=zbz hd fun e he=>by
 simp at he;rcases he with rfl|rfl
 ·exact vA h _
 ·exact vA h _
theorem zk7{S2:Nat->Prop}{d:Nat}(hd:0<d){a:Addr}(h:S2 a.block){m:Mark}(hm:m=.read a\/m=.write a):EvB tt S2 d d #[mk m]:=zbz hd fun e he=>by
 simp at he;subst he;refine⟨.inr ⟨rfl,a,?_,h⟩,?_,?_⟩
 ·rcases hm with rfl|rfl
  ·exact .inl rfl
  ·exact .inr rfl
 ·rcases hm with rfl|rfl <;> simp[mk]
 ·rcases hm with rfl|rfl <;> simp[mk]
theorem zby{main:Bool}{S2:Nat->Prop}{d:Nat}(hd:0<d){a:Addr}(h:S2 a.block):EvB main S2 d d (semEvents a):=by
 refine⟨by simp[semEvents,deafBehind],fun e he=>?_,fun j e he=>?_⟩
 ·simp[semEvents]at he;rcases he with rfl|rfl|rfl|rfl
  ·exact .inl rfl
  ·exact .inr (vA h _).1
  ·exact .inr (vA h _).1
  ·exact .inl rfl
 ·have hj:j<4:=(mG.1 he).1;have:j=0\/j=1\/j=2\/j=3:=by omega
  rcases this with rfl|rfl|rfl|rfl
  ·left;simp[semEvents]at he;subst he;rfl
  ·right;simp[semEvents,deafBehind]
  ·right;simp[semEvents,deafBehind]
  ·left;simp[semEvents]at he;subst he;rfl
theorem kV{S2:Nat->Prop}(w:gW):Eff S2 w w:=⟨rfl,rfl,rfl,.refl _,fun _ _=>rfl⟩
theorem kZ{S2:Nat->Prop}{w:gW}{a:Addr}(h:S2 a.block)(v:gV):Eff S2 w (w.setCell a v):=⟨rfl,rfl,by simp[World.setCell],.refl _,fun b hb=>by
 have hne:a.block≠b:=fun e=>hb (e ▸ h);simp only[World.setCell];rw[Array.getElem?_modify,if_neg hne]⟩
variable {y:Sy P}{main:Bool}{Ch:Nat->gG->Hp->Prop}{k i:Nat}{T T':TT}{x:Nat->Bool}
variable {φ0:Nat->Loc3}{Qq:gK}{hkd:Qq≠.early}{f:gF}{cs:List gQ}{de:List gD}{A0:List AObj}{K0:List Nat}{ds:List Nat}{kk:List Item}{Wq Wk:List AV}{K:KV}{Qy:Array gB}{q:Nat}{Wp:List Nat}{o:gB}
def Sy.Sf(y:Sy P)(main:Bool)(Ch:Nat->gG->Hp->Prop)(k i:Nat)(T:TT)(x:Nat->Bool):gG->Hp->Prop:=Seg P main ff (LiveS y.A y.sh) (y.At main Ch k i T x)
theorem Sy.shutF(y:Sy P)(main:Bool)(Ch:Nat->gG->Hp->Prop)(k i:Nat)(T:TT)(x:Nat->Bool):zo P main (y.Sf main Ch k i T x):=zms
theorem Sy.sf_iff(y:Sy P){main:Bool}{Ch:Nat->gG->Hp->Prop}{k i:Nat}{T:TT}{x:Nat->Bool}{g:gG}{H:Hp}(h:y.A.aft T=ff):Seg P main (y.A.aft T) (LiveS y.A y.sh) (y.At main Ch k i T x) g H↔y.Sf main Ch k i T x g H:=by
 rw[h];exact Iff.rfl
abbrev YT(y:Sy P)(main:Bool)(Ch:Nat->gG->Hp->Prop)(k i:Nat)(T:TT)(x:Nat->Bool)(gm:Nat->Option Nat)(φ0:Nat->Loc3)(Qq:gK)(hkd:Qq≠.early)(f:gF)(cs:List gQ)(de:List gD)(A0:List AObj)(K0:List Nat):KX P gm (y.Sf main Ch k i T x) :=
 YU (y.shutF main Ch k i T x) gm φ0 Qq hkd f cs de A0 K0
theorem TK.book(hk:kd T=.book)(hwk:y.A.wk T->∀ ts dd,mayWake P (G (fr Qq f none ts dd (.inRegion Qy (q::Wp)::kk)) cs)=tt)
  (h:∀(w:gW)(s:S4)(ts:Array gV)(dd:List gD)(φ:Nat->Loc3)(n:Nat),RelG gm φ n->zN φ n Wq ts->y.sh w s->ok4 T s ->
   (bl4 T s/\stepG P main (G (fr Qq f none ts dd (.inRegion Qy (q::Wp)::kk)) cs) w=.go { G (fr Qq f none ts dd (.inRegion Qy (q::Wp)::kk)) cs with status:=.blocked } w #[]) \/
   (¬ bl4 T s/\∃ T' s' v w' es,Mv4 y.n T s T' s'/\stepG P main (G (fr Qq f none ts dd (.inRegion Qy (q::Wp)::kk)) cs) w=.go (G (fr Qq f none (putT ts o.dst v) dd (.inRegion Qy Wp::kk)) cs) w' es/\Eff y.S2 w w'/\y.sh w' s'/\EvB main y.S2 (dl T) (dl T') es/\kd T'≠.quit /\
    y.A.aft T'=ff/\∀ k',k'<k->TK (YT y main Ch k' i T' x gm φ0 Qq hkd f cs de A0 K0) ds (.inRegion Qy Wp::kk) (zV Wq o.dst (.v v)) K)) :
  TK (YT y main Ch k i T x gm φ0 Qq hkd f cs de A0 K0) ds (.inRegion Qy (q::Wp)::kk) Wq K:=by
 intro A hA φ H ts h1 h2 h3 h4 h5 h6;show y.Sf main Ch k i T x _ _;refine .stop ?_;cases k with
 | zero=>trivial
 | succ k' =>
  refine⟨rfl,rfl,fun hw=>hwk hw ts _,?_⟩;have hk':y.A.kd T=.book:=hk;rw[hk'];intro w s hf hsh hok;rcases h w s ts (dsC φ ds++de) φ A.length h3 h6 hsh hok with⟨hb,hst⟩|⟨hb,T',s',v,w',es,m1,m2,m3,m4,m5,m6,hT',m7⟩
  ·exact⟨fun _=>hst,fun hn=>absurd hb hn⟩
  ·refine⟨fun hb'=>absurd hb' hb,fun _=>⟨T',s',_,w',es,m1,m2,m3,m4,m5,.inr ⟨m6,rfl,(y.sf_iff hT').2 ?_⟩⟩⟩;have hE:=yF (a:=⟨ts,[]⟩) h6 (RelV.v (φ:=φ) (n:=A.length) v) o.dst;have:=m7 k' (Nat.lt_succ_self _) A ⟨hA.view,hA.nd,hA.own,hA.kept,hA.len⟩ φ H (putT ts o.dst v) h1 h2 h3 h4 h5 hE;exact this
end
class Ext(P:gP)(g:gF)(e:outParam (Array gV->Sem gV)):Prop where
 h:∃ fn,P.funcs[g]? =some fn/\(fn.name == "runtime.NumGoroutine")=ff/\fn.body.isNone=tt/\Extern.findNext fn=none/\Extern.find fn=some e
class ExtQ(P:gP)(g:gF):Prop where
 h:∀ fn,P.funcs[g]? =some fn->fn.norace=tt
section
variable {P:gP}{gm:Nat->Option Nat}{y:Sy P}{main:Bool}{Ch:Nat->gG->Hp->Prop}{k i:Nat}{T T':TT}{x:Nat->Bool}
variable {φ0:Nat->Loc3}{Qq:gK}{hkd:Qq≠.early}{f:gF}{cs:List gQ}{de:List gD}{A0:List AObj}{K0:List Nat}{ds:List Nat}{kk:List Item}{Wq Wk:List AV}{K:KV}{Qy:Array gB}{q:Nat}{Wp:List Nat}{o:gB}
theorem ev_v{φ:Nat->Loc3}{n:Nat}{ts:Array gV}{dd:List gD}{c:gO}{z:gV}(h3:RelG gm φ n)(h6:zN φ n Wq ts)(h:zn gm Wq c=some (.v z)):(⟨ts,dd⟩:Act).eval c=z:=by
 have:=zy (a:=⟨ts,[]⟩) h3 h6 c;rw[zq h]at this;have:=inv_v this;rw[yY]at this ⊢;exact this
theorem zdg{t:gT}{W:Nat}{w:gW}{a b:Int}(h:WgAt t W w a b){l:Addr}(hne:l.block≠W)(v:gV):WgAt t W (w.setCell l v) a b:=by
 unfold WgAt at *
 simp only[World.setCell];rw[Array.getElem?_modify,if_neg hne];exact h
theorem mu_ne(l:Addr)(h:l.block=y.Mu):l.block≠y.Wg:=fun e=>y.hne (h.symm.trans e)
theorem TK.sMark{g:gF}{as0:Array gO}{ats:Array gT}{e:Array gV->Sem gV}(T':TT)(m:Mark)(hm:∀ g,m≠.extern g)[hx:Ext P g e](ho:Qy[q]? =some o)(Qw:o.op=.call { callee:=.value (.func g),args:=as0,argTypes:=ats })(hw:zM Qy Wq o=some tt)
  (hmv:∀ s,ok4 T s->Mv4 y.n T s T' s) (hev:EvB main y.S2 (dl T) (dl T') #[mk m]) (hT':y.A.aft T'=ff) (h:∀ k',k'<k->TK ((YT y main Ch) k' i T' x gm φ0 Qq hkd f cs de A0 K0) ds (.inRegion Qy Wp::kk) Wk K)
  (he:e=(fun _=>do mark m;pure Extern.Race.none_):=by rfl) (hk:kd T=.book:=by rfl) (hk':kd T'≠.quit:=by exact fun h=>by cases h) (hb:∀ s,¬ bl4 T s:=by exact fun _ h=>by cases h.1) (hwk:¬ y.A.wk T:=by exact fun h=>by cases h <;> rename_i h <;> cases h) (hd:zV Wq o.dst (.v (.tuple #[]))=Wk:=by exact zD rfl tQ) :
  TK ((YT y main Ch) k i T x gm φ0 Qq hkd f cs de A0 K0) ds (.inRegion Qy (q::Wp)::kk) Wq K:=by
 refine TK.book (o:=o) hk (fun h=>absurd h hwk) fun w s ts dd φ n hg hE hsh hok=>.inr ⟨hb s,T',s,.tuple #[],w,_,hmv s hok,?_,kV w,hsh,hev,hk',hT',fun k' hk''=>by rw[hd];exact h k' hk''⟩;obtain⟨fn,e1,e2,e3,e4,e5⟩:=hx.h;subst he;rw[fr_at,stepG_mark0 (b:=bf Qq f) (a:=⟨ts,dd⟩) m hm ho (zO (ts:=ts) hE hw) hkd Qw e1 e2 e3 e4 e5,yo];rfl
theorem TK.sLoad{ty:gT}{c:gO}(Tn:Nat->TT)(ho:Qy[q]? =some o)(Qw:o.op=.load ty c)(hw:zM Qy Wq o=some tt)(hc:zn gm Wq c=some (.v (.pointer (some (muA y.Mu)))))
  (hld:∀(ev:gO->gV)(w:gW)(a:Addr)(v:gV),ev c=.pointer (some a)->w.cell? a=some v->(execOp ev o).run P w=.ok (.value v) w/\(execOp ev o).events P w #[]=#[⟨.cell a,ff,ff⟩]) (hnr:(P.funcs[f]?).any (·.norace)=tt)
  (hmv:∀ s,ok4 T s->Mv4 y.n T s (Tn s.mu) s) (hdl:∀ v,dl (Tn v)=dl T) (hT':∀ v,y.A.aft (Tn v)=ff) (hk':∀ v,kd (Tn v)≠.quit) (h:∀(s:S4),ok4 T s->∀ k',k'<k->TK ((YT y main Ch) k' i (Tn s.mu) x gm φ0 Qq hkd f cs de A0 K0) ds (.inRegion Qy Wp::kk) (zV Wq o.dst (.v (.int .i32 s.mu))) K)
  (hk:kd T=.book:=by rfl) (hb:∀ s,¬ bl4 T s:=by exact fun _ h=>by cases h.1) (hwk:¬ y.A.wk T:=by exact fun h=>by cases h <;> rename_i h <;> cases h) :
  TK ((YT y main Ch) k i T x gm φ0 Qq hkd f cs de A0 K0) ds (.inRegion Qy (q::Wp)::kk) Wq K:=by
 refine TK.book (o:=o) hk (fun h=>absurd h hwk) fun w s ts dd φ n hg hE hsh hok=>.inr ⟨hb s,Tn s.mu,s,.int .i32 s.mu,w,#[],hmv s hok,?_,kV w,hsh,by rw[hdl];exact uo _,hk' _,hT' _,fun k' hk''=>h s hok k' hk''⟩;obtain⟨h1,h2⟩:=hld (evT ts) w _ _ (ev_v hg hE hc) hsh.1.cellSt;rw[fr_at,stepG_value (b:=bf Qq f) (a:=⟨ts,dd⟩) (v:=.int .i32 s.mu) (w':=w) ho (zO (ts:=ts) hE hw) hkd (by rw[yY];exact h1),yo];congr 1;unfold listed;rw[yY,h2,seen_def];show _=#[];have:(bf Qq f).fn=f:=rfl;rw[this];simp[seenStep,hnr]
theorem TK.sCas{g:gF}{ca cb cc:gO}{ats:Array gT}{e:Array gV->Sem gV}(Th Tm:TT)(old new:Nat)[hx:Ext P g e](ho:Qy[q]? =some o)(Qw:o.op=.call { callee:=.value (.func g),args:=#[ca,cb,cc],argTypes:=ats })(hw:zM Qy Wq o=some tt)
  (h1:zn gm Wq ca=some (.v (.pointer (some (muA y.Mu))))) (h2:zn gm Wq cb=some (.v (.int .i32 (old:Nat)))) (h3:zn gm Wq cc=some (.v (.int .i32 (new:Nat))))
  (hmh:∀ s,ok4 T s->s.mu=old->Mv4 y.n T s Th { s with mu:=new }) (hmm:∀ s,ok4 T s->s.mu≠old->Mv4 y.n T s Tm s) (hdl:0<dl T/\dl Th=dl T/\dl Tm=dl T) (hTh:y.A.aft Th=ff) (hTm:y.A.aft Tm=ff) (hkh:kd Th≠.quit) (hkm:kd Tm≠.quit)
  (hh:∀ k',k'<k->TK ((YT y main Ch) k' i Th x gm φ0 Qq hkd f cs de A0 K0) ds (.inRegion Qy Wp::kk) (zV Wq o.dst (.v (.bool tt))) K) (hmiss:∀ k',k'<k->TK ((YT y main Ch) k' i Tm x gm φ0 Qq hkd f cs de A0 K0) ds (.inRegion Qy Wp::kk) (zV Wq o.dst (.v (.bool ff))) K)
  (he:e=Extern.Atomic.casT (.int .i32):=by rfl) (hk:kd T=.book:=by rfl) (hb:∀ s,¬ bl4 T s:=by exact fun _ h=>by cases h.1) (hwk:¬ y.A.wk T:=by exact fun h=>by cases h <;> rename_i h <;> cases h) :
  TK ((YT y main Ch) k i T x gm φ0 Qq hkd f cs de A0 K0) ds (.inRegion Qy (q::Wp)::kk) Wq K:=by
 refine TK.book (o:=o) hk (fun h=>absurd h hwk) fun w s ts dd φ n hg hE hsh hok=>.inr ⟨hb s,?_⟩;obtain⟨fn,e1,e2,e3,e4,e5⟩:=hx.h;subst he;by_cases hc:s.mu=old
 ·refine⟨Th,{ s with mu:=new },.bool tt,_,_,hmh s hok hc,?_,kZ (.inl Z) _,⟨hsh.1.setSt _,?_⟩,by rw[hdl.2.1];exact zae hdl.1 (a:=muA y.Mu) (.inl Z),hkh,hTh,hh⟩
  ·rw[fr_at,stepG_cas_hit (b:=bf Qq f) (a:=⟨ts,dd⟩) ho (zO (ts:=ts) hE hw) hkd Qw e1 e2 e3 e4 .i32 e5 (ad:=muA y.Mu) (v:=(old:Nat)) (n:=(new:Nat)) (ev_v hg hE h1) (ev_v hg hE h2) (ev_v hg hE h3) (by rw[hsh.1.cellSt,hc]) (hsh.1.thaw 0),yo];rfl
  ·exact zdg hsh.2 (mu_ne (muA y.Mu) rfl) _
 ·refine⟨Tm,s,.bool ff,w,_,hmm s hok hc,?_,kV w,hsh,by rw[hdl.2.2];exact evb_r hdl.1 (a:=muA y.Mu) (.inl Z),hkm,hTm,hmiss⟩;rw[fr_at,stepG_cas_miss (b:=bf Qq f) (a:=⟨ts,dd⟩) ho (zO (ts:=ts) hE hw) hkd Qw e1 e2 e3 e4 .i32 e5 (ad:=muA y.Mu) (v:=(s.mu:Nat)) (old:=(old:Nat)) (n:=(new:Nat)) (ev_v hg hE h1) (ev_v hg hE h2) (ev_v hg hE h3) hsh.1.cellSt (hsh.1.thaw 0) oQ,yo];rfl
theorem TK.sAdd{g:gF}{ca cb:gO}{ats:Array gT}{e:Array gV->Sem gV}(d:Int)(new:Nat->Nat)(Tn:Nat->TT)[hx:Ext P g e](ho:Qy[q]? =some o)(Qw:o.op=.call { callee:=.value (.func g),args:=#[ca,cb],argTypes:=ats })(hw:zM Qy Wq o=some tt)
  (h1:zn gm Wq ca=some (.v (.pointer (some (muA y.Mu))))) (h2:zn gm Wq cb=some (.v (.int .i32 d)))
  (hnew:∀ s,ok4 T s->IntKind.i32.wrap ((s.mu:Int)+d)=(new s.mu:Nat)) (hmv:∀ s,ok4 T s->Mv4 y.n T s (Tn s.mu) { s with mu:=new s.mu }) (hdl:0<dl T/\∀ v,dl (Tn v)=dl T) (hT':∀ v,y.A.aft (Tn v)=ff) (hk':∀ v,kd (Tn v)≠.quit)
  (h:∀(s:S4),ok4 T s->∀ k',k'<k->TK ((YT y main Ch) k' i (Tn s.mu) x gm φ0 Qq hkd f cs de A0 K0) ds (.inRegion Qy Wp::kk) (zV Wq o.dst (.v (.int .i32 (new s.mu:Nat)))) K)
  (he:e=Extern.Atomic.update (Op.intArith .add) .i32 tt:=by rfl) (hk:kd T=.book:=by rfl) (hb:∀ s,¬ bl4 T s:=by exact fun _ h=>by cases h.1) (hwk:¬ y.A.wk T:=by exact fun h=>by cases h <;> rename_i h <;> cases h) :
  TK ((YT y main Ch) k i T x gm φ0 Qq hkd f cs de A0 K0) ds (.inRegion Qy (q::Wp)::kk) Wq K:=by
 refine TK.book (o:=o) hk (fun h=>absurd h hwk) fun w s ts dd φ n hg hE hsh hok=>.inr ⟨hb s,?_⟩;obtain⟨fn,e1,e2,e3,e4,e5⟩:=hx.h;subst he;refine⟨Tn s.mu,{ s with mu:=new s.mu },.int .i32 (new s.mu:Nat),_,_,hmv s hok,?_,kZ (a:=muA y.Mu) (.inl Z) (.int .i32 (new s.mu:Nat)),⟨hsh.1.setSt _,?_⟩,by rw[hdl.2];exact zae hdl.1 (a:=muA y.Mu) (.inl Z),hk' _,hT' _,fun k' hk''=>h s hok k' hk''⟩
 ·rw[fr_at,stepG_add_atomic (b:=bf Qq f) (a:=⟨ts,dd⟩) ho (zO (ts:=ts) hE hw) hkd Qw e1 e2 e3 e4 .i32 e5 (ad:=muA y.Mu) (v:=(s.mu:Nat)) (d:=d) (ev_v hg hE h1) (ev_v hg hE h2) hsh.1.cellSt (hsh.1.thaw 0),yo,hnew s hok];rfl
 ·exact zdg hsh.2 (mu_ne (muA y.Mu) rfl) _
theorem TK.sSem{g:gF}{as0:Array gO}{ats:Array gT}{e:Array gV->Sem gV}{Tw:Th}(T':TT)[hx:Ext P g e](ho:Qy[q]? =some o)(Qw:o.op=.call { callee:=.value (.func g),args:=as0,argTypes:=ats })(hw:zM Qy Wq o=some tt)(hpc:Tw.pc=.s1)
  (h1:∀ c,as0[0]? =some c->zn gm Wq c=some (.v (.pointer (some (msA y.Mu))))) (h0:as0[0]?.isSome=tt)
  (hmv:∀ s,ok4 (.w Tw) s->s.ms≠0->Mv4 y.n (.w Tw) s T' { s with ms:=s.ms - 1 }) (hdl:dl (.w Tw)=1/\dl T'=1) (hT':y.A.aft T'=ff) (hk':kd T'≠.quit)
  (h:∀ k',k'<k->TK ((YT y main Ch) k' i T' x gm φ0 Qq hkd f cs de A0 K0) ds (.inRegion Qy Wp::kk) Wk K)
  (he:e=Extern.Sync.semacquire:=by rfl) (hd:zV Wq o.dst (.v (.tuple #[]))=Wk:=by exact zD rfl tQ) :
  TK ((YT y main Ch) k i (.w Tw) x gm φ0 Qq hkd f cs de A0 K0) ds (.inRegion Qy (q::Wp)::kk) Wq K:=by
 refine TK.book (o:=o) (by simp[kd,Mx.kdW,hpc]) (fun h=>by rcases h with h|h <;> (rw[hpc]at h;cases h)) fun w s ts dd φ n hg hE hsh hok=>?_;obtain⟨fn,e1,e2,e3,e4,e5⟩:=hx.h;subst he;obtain⟨c,hc⟩:=Option.isSome_iff_exists.1 h0;have hx0:(as0.map (⟨ts,dd⟩:Act).eval)[0]? =some (.pointer (some (msA y.Mu))):=by
  rw[mJ,hc,yY];exact congrArg some (ev_v hg hE (h1 c hc))
 by_cases hz:s.ms=0
 ·left;refine⟨⟨hpc,hz⟩,?_⟩;rw[fr_at,stepG_semacquire_wait (b:=bf Qq f) (a:=⟨ts,dd⟩) ho (zO (ts:=ts) hE hw) Qw e1 e2 e3 e4 e5 hx0 (by rw[hsh.1.cellSm,hz];rfl)]
 ·right;refine⟨fun hb=>hz hb.2,T',{ s with ms:=s.ms - 1 },.tuple #[],_,_,hmv s hok hz,?_,kZ (a:=msA y.Mu) (.inl rfl) (.int .u32 ((s.ms:Int) - 1)),⟨?_,?_⟩,by rw[hdl.1,hdl.2];exact zby oQ (a:=msA y.Mu) (.inl rfl),hk',hT',fun k' hk''=>by rw[hd];exact h k' hk''⟩
  ·rw[fr_at,stepG_semacquire (b:=bf Qq f) (a:=⟨ts,dd⟩) ho (zO (ts:=ts) hE hw) hkd Qw e1 e2 e3 e4 e5 hx0 hsh.1.cellSm oQ (hsh.1.thaw 1),yo];rfl
  ·have:=hsh.1.setSm ((s.ms:Int) - 1);rw[show((s.ms:Int) - 1)=((s.ms - 1:Nat):Int) by omega]at this ⊢;exact this
  ·exact zdg hsh.2 (mu_ne (msA y.Mu) rfl) _
theorem TK.sRel{g:gF}{as0:Array gO}{ats:Array gT}{e:Array gV->Sem gV}{Tw:Th}(T':TT)[hx:Ext P g e](ho:Qy[q]? =some o)(Qw:o.op=.call { callee:=.value (.func g),args:=as0,argTypes:=ats })(hw:zM Qy Wq o=some tt)(hng:o.guard=none)(hpc:Tw.pc=.us)
  (h1:∀ c,as0[0]? =some c->zn gm Wq c=some (.v (.pointer (some (msA y.Mu))))) (h0:as0[0]?.isSome=tt)
  (hmv:∀ s,ok4 (.w Tw) s->Mv4 y.n (.w Tw) s T' { s with ms:=s.ms+1 }) (hdl:dl (.w Tw)=1/\dl T'=1) (hT':y.A.aft T'=ff) (hk':kd T'≠.quit)
  (h:∀ k',k'<k->TK ((YT y main Ch) k' i T' x gm φ0 Qq hkd f cs de A0 K0) ds (.inRegion Qy Wp::kk) Wk K)
  (he:e=Extern.Sync.semrelease:=by rfl) (hd:zV Wq o.dst (.v (.tuple #[]))=Wk:=by exact zD rfl tQ) :
  TK ((YT y main Ch) k i (.w Tw) x gm φ0 Qq hkd f cs de A0 K0) ds (.inRegion Qy (q::Wp)::kk) Wq K:=by
 obtain⟨fn,e1,e2,e3,e4,e5⟩:=hx.h;refine TK.book (o:=o) (by simp[kd,Mx.kdW,hpc]) (fun _ ts dd=>Go.ConcR.Gen.mayWake_entry (b:=bf Qq f) (a:=⟨ts,dd⟩) ho Qw e1 e3) fun w s ts dd φ n hg hE hsh hok=>?_;subst he;obtain⟨c,hc⟩:=Option.isSome_iff_exists.1 h0;have hx0:(as0.map (⟨ts,dd⟩:Act).eval)[0]? =some (.pointer (some (msA y.Mu))):=by
  rw[mJ,hc,yY];exact congrArg some (ev_v hg hE (h1 c hc))
 have hms:s.ms<=1:=hok.2.1;have hwr:IntKind.u32.wrap ((s.ms:Int)+1)=((s.ms+1:Nat):Int):=by
  have:s.ms=0\/s.ms=1:=by omega
  rcases this with h|h <;> rw[h] <;> rfl
 right;refine⟨fun hb=>(by have:=hb.1;rw[hpc]at this;cases this),T',{ s with ms:=s.ms+1 },.tuple #[],_,_,hmv s hok,?_,kZ (a:=msA y.Mu) (.inl rfl) (.int .u32 ((s.ms+1:Nat):Int)),⟨hsh.1.setSm _,?_⟩,by rw[hdl.1,hdl.2];exact zby oQ (a:=msA y.Mu) (.inl rfl),hk',hT',fun k' hk''=>by rw[hd];exact h k' hk''⟩
 ·rw[fr_at,stepG_semrelease (b:=bf Qq f) (a:=⟨ts,dd⟩) ho (zO (ts:=ts) hE hw) hkd Qw e1 e2 e3 e4 e5 hx0 hsh.1.cellSm (hsh.1.thaw 1),yo,hwr];rfl
 ·exact zdg hsh.2 (mu_ne (msA y.Mu) rfl) _
theorem TK.sTime{g:gF}{as0:Array gO}{ats:Array gT}{e:Array gV->Sem gV}(Tn:Int->TT)[hx:Ext P g e][hn:ExtQ P g](ho:Qy[q]? =some o)(Qw:o.op=.call { callee:=.value (.func g),args:=as0,argTypes:=ats })(hw:zM Qy Wq o=some tt)
  (hmv:∀ s t,ok4 T s->Mv4 y.n T s (Tn t) s) (hdl:∀ t,dl (Tn t)=dl T) (hT':∀ t,y.A.aft (Tn t)=ff) (hk':∀ t,kd (Tn t)≠.quit) (h:∀(t:Int),∀ k',k'<k->TK ((YT y main Ch) k' i (Tn t) x gm φ0 Qq hkd f cs de A0 K0) ds (.inRegion Qy Wp::kk) (zV Wq o.dst (.v (.int .i64 t))) K)
  (he:e=Extern.OsHooks.nano:=by rfl) (hk:kd T=.book:=by rfl) (hb:∀ s,¬ bl4 T s:=by exact fun _ h=>by cases h.1) (hwk:¬ y.A.wk T:=by exact fun h=>by cases h <;> rename_i h <;> cases h) :
  TK ((YT y main Ch) k i T x gm φ0 Qq hkd f cs de A0 K0) ds (.inRegion Qy (q::Wp)::kk) Wq K:=by
 refine TK.book (o:=o) hk (fun h=>absurd h hwk) fun w s ts dd φ n hg hE hsh hok=>.inr ⟨hb s,?_⟩;obtain⟨fn,e1,e2,e3,e4,e5⟩:=hx.h;subst he;refine⟨Tn ((w.os.mono+w.tick:Nat):Int),s,.int .i64 ((w.os.mono+w.tick:Nat):Int),w.later,#[],hmv s _ hok,?_,⟨rfl,rfl,rfl,⟨w.tick,rfl⟩,fun _ _=>rfl⟩,hsh,by rw[hdl];exact uo _,hk' _,hT' _,fun k' hk''=>h _ k' hk''⟩;rw[fr_at,stepG_nanotime (b:=bf Qq f) (a:=⟨ts,dd⟩) ho (zO (ts:=ts) hE hw) hkd Qw e1 e2 e3 e4 e5 (hn.h _ e1),yo];rfl
theorem TK.sSpin{g:gF}{c:gO}{ats:Array gT}{e:Array gV->Sem gV}(Ty Tn:TT)(it:Nat)[hx:Ext P g e](ho:Qy[q]? =some o)(Qw:o.op=.call { callee:=.value (.func g),args:=#[c],argTypes:=ats })(hw:zM Qy Wq o=some tt)(h1:zn gm Wq c=some (.v (.int .i64 (it:Nat))))
  (hmy:∀ s,ok4 T s->it<4->Mv4 y.n T s Ty s) (hmn:∀ s,ok4 T s->Mv4 y.n T s Tn s) (hdl:dl Ty=dl T/\dl Tn=dl T) (hTy:y.A.aft Ty=ff) (hTn:y.A.aft Tn=ff) (hky:kd Ty≠.quit) (hkn:kd Tn≠.quit)
  (hy:it<4->∀ k',k'<k->TK ((YT y main Ch) k' i Ty x gm φ0 Qq hkd f cs de A0 K0) ds (.inRegion Qy Wp::kk) (zV Wq o.dst (.v (.bool tt))) K) (hn:∀ k',k'<k->TK ((YT y main Ch) k' i Tn x gm φ0 Qq hkd f cs de A0 K0) ds (.inRegion Qy Wp::kk) (zV Wq o.dst (.v (.bool ff))) K)
  (he:e=Extern.Sync.canSpin:=by rfl) (hk:kd T=.book:=by rfl) (hb:∀ s,¬ bl4 T s:=by exact fun _ h=>by cases h.1) (hwk:¬ y.A.wk T:=by exact fun h=>by cases h <;> rename_i h <;> cases h) :
  TK ((YT y main Ch) k i T x gm φ0 Qq hkd f cs de A0 K0) ds (.inRegion Qy (q::Wp)::kk) Wq K:=by
 refine TK.book (o:=o) hk (fun h=>absurd h hwk) fun w s ts dd φ n hg hE hsh hok=>.inr ⟨hb s,?_⟩;obtain⟨fn,e1,e2,e3,e4,e5⟩:=hx.h;subst he;have hm:(#[c]:Array gO).map (⟨ts,dd⟩:Act).eval=#[.int .i64 (it:Nat)]:=by
  simp[ev_v (dd:=dd) hg hE h1]
 by_cases h4:it<4
 ·by_cases hsp:w.spins=tt
  ·refine⟨Ty,s,.bool tt,w.asked,#[],hmy s hok h4,?_,⟨rfl,rfl,rfl,.refl _,fun _ _=>rfl⟩,hsh,by rw[hdl.1];exact uo _,hky,hTy,fun k' hk''=>hy h4 k' hk''⟩;rw[fr_at,stepG_canSpin_ask (b:=bf Qq f) (a:=⟨ts,dd⟩) ho (zO (ts:=ts) hE hw) hkd Qw e1 e2 e3 e4 e5 hm oQ,yo,hsp];rfl
  ·refine⟨Tn,s,.bool ff,w.asked,#[],hmn s hok,?_,⟨rfl,rfl,rfl,.refl _,fun _ _=>rfl⟩,hsh,by rw[hdl.2];exact uo _,hkn,hTn,hn⟩;rw[fr_at,stepG_canSpin_ask (b:=bf Qq f) (a:=⟨ts,dd⟩) ho (zO (ts:=ts) hE hw) hkd Qw e1 e2 e3 e4 e5 hm oQ,yo,(Bool.not_eq_true _).mp hsp];rfl
 ·refine⟨Tn,s,.bool ff,w,#[],hmn s hok,?_,kV w,hsh,by rw[hdl.2];exact uo _,hkn,hTn,hn⟩;rw[fr_at,stepG_canSpin_no (b:=bf Qq f) (a:=⟨ts,dd⟩) ho (zO (ts:=ts) hE hw) hkd Qw e1 e2 e3 e4 e5 hm oQ,yo];rfl
end
end Go.Vel
namespace Go.Vel
open Go Go.Conc
open Go.ConcN (sumTo upd upd_ne upd_same)
open Go.ConcM (OsLater MuAt muA msA)
open Go.ConcR (KK wgBlock WgAt stA smA mk rd wr)
open Mx (TT Th Mn S4 auto Mv4 ok4 bl4 kd dl MPc Pc okW okM Mv nx4)
section
variable {P:gP}{gm:Nat->Option Nat}{main:Bool}
def CallS(P:gP)(gm:Nat->Option Nat)(lo:Nat×Loc3)(T:gG->Hp->Prop)(g:gF)(args:List AV)(K:KV)(R:AV->KV->(gG->Hp->Prop)->Prop):Prop :=
 ∀ A,zU K A->(keys K).Nodup->∀(φ:Nat->Loc3)(H:Hp)(vs:Array gV)(c:gQ)(cs:List gQ),lo.1<A.length->φ lo.1=lo.2->RelG gm φ A.length->RelH φ A nF H->zN φ A.length args vs ->
  (∀ r K' T' A' φ' H' v,R r K' T'->Kstep K A K' A'->Agr φ φ' A.length->A.length<=A'.length->RelH φ' A' nF H'->RelV φ' A'.length r v->T' (G (c.finish v) cs) H')->T (G (Frame.enter P g vs .normal) (c::cs)) H
theorem zZ:CallKind.normal≠.early:=fun h=>by cases h
theorem wW(n:Nat){T:gG->Hp->Prop}(hT:zo P main T){lo:Nat×Loc3}{g:gF}{fn:Func}{c:Code}{args:List AV}{K:KV}{R:AV->KV->(gG->Hp->Prop)->Prop}(hf:P.funcs[g]? =some fn)
  (h:∀(φ0:Nat->Loc3)(c0:gQ)(cs:List gQ)(A0:List AObj),lo.1<A0.length->φ0 lo.1=lo.2->(∀{T'}{hT':zo P main T'},RetK (YU hT' gm φ0 .normal zZ g (c0::cs) [] A0 (keys K)) fn.results.toList fun r K'=>R r K' T') ->
   TK (YU hT gm φ0 .normal zZ g (c0::cs) [] A0 (keys K)) [] [.code c] (args++mB (n - args.length) .any) K) (hb:fn.body=some c:=by rfl) (hn:fn.ntmps=n:=by rfl):CallS P gm lo T g args K R:=by
 subst hn;intro A hv hnd φ H vs c0 cs hl1 hl2 hg hH Qg Qj;rw[wD vs hf hb];refine h φ c0 cs A hl1 hl2 ?_ A ⟨hv,hnd,fun i hi=>.inl hi,fun _ _ _=>rfl,mL _⟩ φ H _ (Agr.refl _ _) (mL _) hg (fun d hd=>by cases hd) hH (ke Qg _);intro T' hT' j Wq K' K'' D r hj hs hres hp A' hA' φ' H' ts k hl ha Wb hg' _ hH' hE;obtain⟨hv2,hn2⟩:=hs.view hA'.view hA'.nd;have hk:Kstep K A K'' A':=⟨hv2,hn2,fun t ht=>hA'.own t ((zW hs.perm).symm.subset (by rw[yz];exact lV _ ht)),hA'.kept,hA'.len⟩;have hleave:T' (G { fr .normal g none ts [] k with mode:=.returning } (c0::cs)) H':=hT'.leaveF hf (kW hH' hE (hres A' hA'.view) fun y hy=>Qj r K'' T' A' φ' H' y hp hk ha Wb hH' hy);cases hl with
 | fin=>exact hT'.ctlF rfl (fun _=>wQ) rfl hleave
 | ret k=>exact hT'.ctlF rfl (fun _=>vq) rfl hleave
 | exit id k _=>rcases hj with hj|hj <;> cases hj
variable {φ0:Nat->Loc3}{Qq:gK}{hkd:Qq≠.early}{f:gF}{cs:List gQ}{de:List gD}{A0:List AObj}{K0:List Nat}{ds:List Nat}{kk:List Item}{Wq Wk:List AV}{K:KV}{Qy:Array gB}{q:Nat}{Wp:List Nat}{o:gB}
theorem TK.callS{T:gG->Hp->Prop}{hT:zo P main T}{lo:Nat×Loc3}{fo:gO}{ars:Array gO}{at_:Array gT}{g:gF}{args:List AV}{Kf Rr:KV}{R:AV->KV->(gG->Hp->Prop)->Prop}(ho:Qy[q]? =some o)(Qw:o.op=.call { callee:=.value fo,args:=ars,argTypes:=at_ })
  (hf:zn gm Wq fo=some (.fn g [] [])) (Qg:ars.toList.map (zT gm Wq)=args) (hc:CallS P gm lo T g args Kf R) (hl1:lo.1<A0.length) (hl2:φ0 lo.1=lo.2)
  (h:∀ r K' T',R r K' T'->∃ hT':zo P main T',TK (YU hT' gm φ0 Qq hkd f cs de A0 K0) ds (.inRegion Qy Wp::kk) (zV Wq o.dst r) (K'++Rr))
  (hs:Split K Kf Rr:=by repeat (first|exact Split.none _|exact Split.all _|(apply Split.rem;repeat (first|exact Rem.head|apply Rem.tail))|apply Split.right)) (hw:zM Qy Wq o=some tt:=by rfl) (hg:yk P g=tt:=by exact Cal.h) :
  TK (YU hT gm φ0 Qq hkd f cs de A0 K0) ds (.inRegion Qy (q::Wp)::kk) Wq K:=by
 intro A hA φ H ts h1 h2 h3 h4 h5 h6;refine hT.opF hkd ho (zO h6 hw) (by rw[Qw];rfl) ?_;have hfo:=zy (a:=⟨ts,[]⟩) h3 h6 fo;rw[zq hf]at hfo;obtain⟨xs,ys,e,hr1,hr2⟩:=uu hfo;have ex:xs=#[]:=Array.eq_empty_of_size_eq_zero (by have:=hr1.1;simpa using this.symm);have ey:ys=#[]:=Array.eq_empty_of_size_eq_zero (by have:=hr2.1;simpa using this.symm);subst ex ey;unfold execOp;rw[Qw];dsimp only;refine zf _ _ _ ?_;show wpS P (Deferred.ofValue (Act.eval ⟨ts,[]⟩ fo) (ars.map (evT ts))) H _;rw[e];show wpS P (callFunc g ((#[]++ars.map (evT ts))++#[])) H _;refine wK hg _ ?_;have hp:=hs.perm;have hnd:=(zW hp).nodup_iff.1 hA.nd;rw[yz]at hnd;have hnd':=List.nodup_append.1 hnd;have hR:zU Rr A:=hA.view.sub fun x hx=>hp.symm.subset (by simp[hx]);have hRl:∀ x∈Rr,x.1<A.length/\x.1∉keys Kf:=fun x hx=>⟨hR.lt (yN hx),fun hm=>hnd'.2.2 x.1 hm x.1 (yN hx) rfl⟩;have hl1':lo.1<A.length:=mM hl1 hA.len;have hrel:zN φ A.length args ((#[]++ars.map (evT ts))++#[]):=by
  rw[<- Qg];have hm:=wG (a:=⟨ts,[]⟩) h3 h6 ars;rw[yY]at hm;simpa using hm
 refine hc A (hA.view.sub fun x hx=>hp.symm.subset (by simp[hx])) hnd'.1 φ H _ _ cs hl1' ((h1 _ hl1).trans hl2) h3 h5 hrel fun r K' T' A' φ' H' v hp' hk hag Wb hH' hr=>?_;obtain⟨hT',hh⟩:=h r K' T' hp';have Qj:=yZ Qq f none ts (dsC φ ds++de) Qy q Wp kk v;simp only[ho,Option.bind_some]at Qj;show T' (G ((fr Qq f none ts (dsC φ ds++de) (.inRegion Qy (q::Wp)::kk)).finish v) cs) H';rw[Qj];have hE:=yF (a:=⟨ts,[]⟩) (h6.mono hag Wb) hr o.dst;have hds:dsC φ' ds=dsC φ ds:=by
  unfold dsC;refine mA fun d hd'=>?_;rw[hag d (h4 d hd')]
 have hst:Kstep K A (K'++Rr) A':=by
  refine⟨fun x hx=>?_,?_,fun j hj=>?_,fun j hj hn=>?_,hk.len⟩
  ·rcases lT.1 hx with hx|hx
   ·exact hk.view x hx
   ·rw[hk.kept _ (hRl x hx).1 (hRl x hx).2];exact hR x hx
  ·rw[yz];refine List.nodup_append.2 ⟨hk.nd,hnd'.2.1,fun a ha b hb e=>?_⟩;subst e;obtain⟨x,hx,rfl⟩:=List.mem_map.1 hb;rcases hk.own _ ha with h1|h1
   ·exact(hRl x hx).2 h1
   ·have:=(hRl x hx).1;omega
  ·rw[yz]at hj;rcases lT.1 hj with hj|hj
   ·rcases hk.own j hj with h1|h1
    ·exact .inl ((zW hp).symm.subset (by rw[yz];exact lV _ h1))
    ·exact .inr h1
   ·exact .inl ((zW hp).symm.subset (by rw[yz];exact List.mem_append_right _ hj))
  ·exact hk.kept j hj fun hm=>hn ((zW hp).symm.subset (by rw[yz];exact lV _ hm))
 have hA':=hA.step hst;have:=hh A' ⟨hA'.view,hA'.nd,hA'.own,hA'.kept,hA'.len⟩ φ' H' _ (h1.trans hag hA.len) (mT hA.len Wb) (h3.mono hag Wb) (fun d hd=>mM (h4 d hd) Wb) hH' hE;rw[hds]at this;exact this
variable {y:Sy P}{Ch:Nat->gG->Hp->Prop}{k i:Nat}{T:TT}{x:Nat->Bool}
theorem TK.acqL{g:gF}{c:gO}{ats:Array gT}{e:Array gV->Sem gV}{lo:Nat×Loc3}[hx:Ext P g e](ho:Qy[q]? =some o)(Qw:o.op=.call { callee:=.value (.func g),args:=#[c],argTypes:=ats })(hc:zn gm Wq c=some (.v (.pointer (some (muA y.Mu)))))(hk:kd T=.acqL)(hT':y.A.aft (nx4 y.n T)=ff)
  {PL:(Nat->Bool)->KV->Prop} (hl1:lo.1<A0.length) (hl2:φ0 lo.1=lo.2)
  (hGI:∀ x' L A φ H,y.GI x' L->x' i=ff->lo.1<A.length->φ lo.1=lo.2->zU K A->(keys K).Nodup->RelH φ A nF H->H.Dis L->Agrees H L->∃ φ' A' K',Agr φ φ' A.length/\A.length<=A'.length/\Kstep K A K' A'/\PL x' K'/\RelH φ' A' nF (H.join L))
  (h:∀ k' x' K',k'<k->x' i=ff->PL x' K'->TK ((YT y main Ch) k' i (nx4 y.n T) x' gm φ0 Qq hkd f cs de A0 K0) ds (.inRegion Qy Wp::kk) Wk K')
  (hw:zM Qy Wq o=some tt:=by rfl) (he:e=Extern.Race.marked .acquire:=by rfl) (hwk:¬ y.A.wk T:=by exact fun h=>by cases h <;> rename_i h <;> cases h) (hd:zV Wq o.dst (.v (.tuple #[]))=Wk:=by exact zD rfl tQ) :
  TK ((YT y main Ch) k i T x gm φ0 Qq hkd f cs de A0 K0) ds (.inRegion Qy (q::Wp)::kk) Wq K:=by
 intro A hA φ H ts h1 h2 h3 h4 h5 h6;show y.Sf main Ch k i T x _ _;refine .stop ?_;cases k with
 | zero=>trivial
 | succ k' =>
  obtain⟨fn,e1,e2,e3,e4,e5⟩:=hx.h;subst he;refine⟨rfl,rfl,fun hw=>absurd hw hwk,?_⟩;have hk':y.A.kd T=.acqL:=hk;rw[hk'];refine⟨G (fr Qq f none (putT ts o.dst (.tuple #[])) (dsC φ ds++de) (.inRegion Qy Wp::kk)) cs,rfl,fun w hf=>?_,fun x' L hG hx' hD hAg=>?_⟩
  ·show stepG P main (G (fr Qq f none ts (dsC φ ds++de) _) cs) w=_;rw[fr_at,stepG_markAt (b:=bf Qq f) (a:=⟨ts,dsC φ ds++de⟩) .acquire sQ ho (zO (ts:=ts) h6 hw) hkd Qw e1 e2 e3 e4 e5 (ad:=muA y.Mu) (by simp[ev_v (dd:=dsC φ ds++de) h3 h6 hc]),yo];rfl
  ·obtain⟨φ',A',K',ha,hl,hst,hp,hH⟩:=hGI x' L A φ H hG hx' (mM hl1 hA.len) ((h1 _ hl1).trans hl2) hA.view hA.nd h5 hD hAg;have hE:=yF (a:=⟨ts,[]⟩) (h6.mono ha hl) (RelV.v (φ:=φ') (n:=A'.length) (.tuple #[])) o.dst;have hds:dsC φ' ds=dsC φ ds:=by
    unfold dsC;exact mA fun d hd'=>by rw[ha d (h4 d hd')]
   rw[hd]at hE;have hA':=hA.step hst;have:=h k' x' K' (Nat.lt_succ_self _) hx' hp A' ⟨hA'.view,hA'.nd,hA'.own,hA'.kept,hA'.len⟩ φ' (H.join L) (putT ts o.dst (.tuple #[])) (h1.trans ha hA.len) (mT hA.len hl) (h3.mono ha hl) (fun d hd=>mM (h4 d hd) hl) hH hE;rw[hds]at this;exact this
def plainV:AV->AV|.v a=>.v a|_=>.any
theorem vU{φ φ':Nat->Loc3}{n:Nat}{ts:Array gV}(h:zN φ n Wq ts):zN φ' 0 (Wq.map plainV) ts:=by
 refine⟨by rw[lJ];exact h.1,fun j a y ha hy=>?_⟩;rw[lQ]at ha;cases e:Wq[j]? with
 | none=>rw[e]at ha;cases ha
 | some b =>
  rw[e]at ha;cases ha;have hb:=h.2 j b y e hy;cases b with
  | v z=>rw[inv_v hb];exact .v z
  | _=>exact .any _
theorem uA(φ:Nat->Loc3)(H:Hp):RelH φ [] nF H:=⟨fun i o h=>by simp at h,fun i j o o' h=>by simp at h,(fun b x h=>by cases h),fun i o h=>by simp at h⟩
theorem TK.relL{g:gF}{c:gO}{ats:Array gT}{e:Array gV->Sem gV}{lo:Nat×Loc3}[hx:Ext P g e](ho:Qy[q]? =some o)(Qw:o.op=.call { callee:=.value (.func g),args:=#[c],argTypes:=ats })(hc:zn gm Wq c=some (.v (.pointer (some (muA y.Mu)))))(hk:kd T=.relL)(hT':y.A.aft (nx4 y.n T)=ff)
  (hl1:lo.1<A0.length) (hl2:φ0 lo.1=lo.2) (hGI:∀ A φ H,lo.1<A.length->φ lo.1=lo.2->zU K A->(keys K).Nodup->RelH φ A nF H->∃ L',L'.Sub H/\y.GI (upd x i tt) L')
  (h:∀ k',k'<k->TK ((YT y main Ch) k' i (nx4 y.n T) x (fun _=>none) φ0 Qq hkd f cs de [] []) [] (.inRegion Qy Wp::kk) Wk [])
  (hw:zM Qy Wq o=some tt:=by rfl) (he:e=Extern.Race.marked .releaseMerge:=by rfl) (hwk:¬ y.A.wk T:=by exact fun h=>by cases h <;> rename_i h <;> cases h) (hd:zV (Wq.map plainV) o.dst (.v (.tuple #[]))=Wk:=by exact zD rfl (by simp only[List.map,plainV,List.set];rfl)) :
  TK ((YT y main Ch) k i T x gm φ0 Qq hkd f cs de A0 K0) [] (.inRegion Qy (q::Wp)::kk) Wq K:=by
 intro A hA φ H ts h1 h2 h3 h4 h5 h6;show y.Sf main Ch k i T x _ _;refine .stop ?_;cases k with
 | zero=>trivial
 | succ k' =>
  obtain⟨fn,e1,e2,e3,e4,e5⟩:=hx.h;subst he;refine⟨rfl,rfl,fun hw=>absurd hw hwk,?_⟩;have hk':y.A.kd T=.relL:=hk;rw[hk'];obtain⟨L',hs,hG⟩:=hGI A φ H (mM hl1 hA.len) ((h1 _ hl1).trans hl2) hA.view hA.nd h5;refine⟨G (fr Qq f none (putT ts o.dst (.tuple #[])) de (.inRegion Qy Wp::kk)) cs,fun _=>none,L',rfl,fun w hf=>?_,fun b rw' o' hb=>(by cases hb),hs,⟨fun b o' hb=>(by cases hb),fun b o' hb=>rfl⟩,hG,?_⟩
  ·show stepG P main (G (fr Qq f none ts de _) cs) w=_;rw[fr_at,stepG_markAt (b:=bf Qq f) (a:=⟨ts,de⟩) .releaseMerge sQ ho (zO (ts:=ts) h6 hw) hkd Qw e1 e2 e3 e4 e5 (ad:=muA y.Mu) (by simp[ev_v (dd:=de) h3 h6 hc]),yo];rfl
  ·have hE:=yF (a:=⟨ts,[]⟩) (vU (φ':=φ0) h6) (RelV.v (φ:=φ0) (n:=0) (.tuple #[])) o.dst;rw[hd]at hE;exact h k' (Nat.lt_succ_self _) [] ⟨fun x hx=>(by cases hx),List.nodup_nil,fun i hi=>(by cases hi),fun _ _ _=>rfl,mL _⟩ φ0 (fun _=>none) (putT ts o.dst (.tuple #[])) (Agr.refl _ _) (mL _) (fun b j hb=>by cases hb) (fun d hd=>by cases hd) (uA _ _) hE
theorem TK.sPeek{ty:gT}{c:gO}(ho:Qy[q]? =some o)(Qw:o.op=.load ty c)(hc:zn gm Wq c=some (.v (.pointer (some (muA y.Mu)))))
  (hld:∀(ev:gO->gV)(w:gW)(a:Addr)(v:gV),ev c=.pointer (some a)->w.cell? a=some v->(execOp ev o).run P w=.ok (.value v) w/\(execOp ev o).events P w #[]=#[⟨.cell a,ff,ff⟩]) (hnr:(P.funcs[f]?).any (·.norace)=tt)
  (h:∀ v:Nat,TK ((YT y main Ch) k i T x gm φ0 Qq hkd f cs de A0 K0) ds (.inRegion Qy Wp::kk) (zV Wq o.dst (.v (.int .i32 v))) K) (hw:zM Qy Wq o=some tt:=by rfl) :
  TK ((YT y main Ch) k i T x gm φ0 Qq hkd f cs de A0 K0) ds (.inRegion Qy (q::Wp)::kk) Wq K:=by
 intro A hA φ H ts h1 h2 h3 h4 h5 h6;have key:∀ w s,y.sh w s->stepG P main (G (fr Qq f none ts (dsC φ ds++de) (.inRegion Qy (q::Wp)::kk)) cs) w=.go (G (fr Qq f none (putT ts o.dst (.int .i32 s.mu)) (dsC φ ds++de) (.inRegion Qy Wp::kk)) cs) w #[]:=fun w s hsh=>by
  obtain⟨e1,e2⟩:=hld (evT ts) w _ _ (ev_v (dd:=dsC φ ds++de) h3 h6 hc) hsh.1.cellSt;rw[fr_at,stepG_value (b:=bf Qq f) (a:=⟨ts,dsC φ ds++de⟩) (v:=.int .i32 s.mu) (w':=w) ho (zO (ts:=ts) h6 hw) hkd (by rw[yY];exact e1),yo];congr 1;unfold listed;rw[yY,e2,seen_def];show _=#[];have:(bf Qq f).fn=f:=rfl;rw[this];simp[seenStep,hnr]
 show y.Sf main Ch k i T x _ _;refine .step Z (fun w hf hl=>?_) fun w g' w' es hf hl he=>?_
 ·obtain⟨s,hs⟩:=hl;exact⟨_,_,_,key w s hs,kr hf (fun e he=>by simp at he),rfl,fun h=>by cases h⟩
 ·obtain⟨s,hs⟩:=hl;have he':=(key w s hs).symm.trans he;clear he
  rename _=>he
  cases he;rw[ks hf];have hE:=yF (a:=⟨ts,[]⟩) h6 (RelV.v (φ:=φ) (n:=A.length) (.int .i32 s.mu)) o.dst;have:=h s.mu A hA φ H _ h1 h2 h3 h4 h5 hE;have h2':y.Sf main Ch k i T x (G (fr Qq f none (putT ts o.dst (.int .i32 s.mu)) (dsC φ ds++de) (.inRegion Qy Wp::kk)) cs) H:=this;exact h2'
theorem TK.loopS{c:Code}{ι:Type}(Tf:ι->TT)(hTf:∀ b,y.A.aft (Tf b)=ff)(I:ι->List AV->KV->Prop)(b0:ι)(h0:I b0 Wq K)(e0:T=Tf b0)
  (round:∀ k',k'<=k->∀ b Wq K,I b Wq K->(∀ k'' b' Wk K',k''<k'->I b' Wk K'->TK ((YT y main Ch) k'' i (Tf b') x gm φ0 Qq hkd f cs de A0 K0) ds (.inLoop c::kk) Wk K')->TK ((YT y main Ch) k' i (Tf b) x gm φ0 Qq hkd f cs de A0 K0) ds (.code c::.inLoop c::kk) Wq K) :
  TK ((YT y main Ch) k i T x gm φ0 Qq hkd f cs de A0 K0) ds (.code (.loop c)::kk) Wq K:=by
 subst e0;have key:∀ k',k'<=k->∀ b Wq K,I b Wq K->TK ((YT y main Ch) k' i (Tf b) x gm φ0 Qq hkd f cs de A0 K0) ds (.code c::.inLoop c::kk) Wq K:=by
  intro k'
  induction k' using Nat.strongRecOn with
  | _ k' ih =>
   intro hle b Wq K hI;exact round k' hle b Wq K hI fun k'' b' Wk K' Qp hI'=>TK.inLoop (ih k'' Qp oQ b' Wk K' hI')
 exact fun A hA=>TA.loop (key k (mL _) b0 Wq K h0 A hA)
end
section
variable {P:gP}{gm:Nat->Option Nat}{Wq:List AV}{V:KV}{o:gB}
theorem yV{op:BinOp}{t yt:gT}{x y:gO}{k:gJ}{a b:Int}{r:Int}(ho:o.op=.binOp op t x y yt)(hx:zn gm Wq x=some (.v (.int k a)))(hy:zn gm Wq y=some (.v (.int k b)))(Qw:op=.and\/op=.or\/op=.andNot)(hr:bits op k a b=r):Qk P gm Wq V o (.v (.int k r)):=by
 refine wv ho hx hy ?_;subst hr;rcases Qw with rfl|rfl|rfl;all_goals
  show zL P (if k≠k then _ else _)=_;rw[if_neg sQ];rfl
theorem uz{op:BinOp}{t yt:gT}{x y:gO}{k:gJ}{a b:Int}{r:Int}(ho:o.op=.binOp op t x y yt)(hx:zn gm Wq x=some (.v (.int k a)))(hy:zn gm Wq y=some (.v (.int k b)))(h:(op=.add/\k.wrap (a+b)=r)\/(op=.sub/\k.wrap (a - b)=r)):Qk P gm Wq V o (.v (.int k r)):=by
 refine wv ho hx hy ?_;rcases h with⟨rfl,rfl⟩|⟨rfl,rfl⟩;all_goals
  show zL P (if k≠k then _ else _)=_;rw[if_neg sQ];rfl
theorem q_sh{t yt:gT}{x y:gO}{k k':gJ}{a b:Int}{r:Int}(ho:o.op=.binOp .shr t x y yt)(hx:zn gm Wq x=some (.v (.int k a)))(hy:zn gm Wq y=some (.v (.int k' b)))(h0:0<=b/\b<=k.bits)(hr:a / 2 ^ b.toNat=r):Qk P gm Wq V o (.v (.int k r)):=fun A _=>by
 refine wu ho (by rw[zq hx];rfl) (by rw[zq hy];rfl) ?_;rw[vv];show zL P (Op.shift .shr k a k' b)=_;rw[shift_shr k k' a b h0.1 h0.2,hr];rfl
theorem inv_v'{φ:Nat->Loc3}{n:Nat}{a:Act}{c:gO}{z:gV}(hg:RelG gm φ n)(hE:zN φ n Wq a.tmps)(h:zn gm Wq c=some (.v z)):a.eval c=z:=by
 have:=zy hg hE c;rw[zq h]at this;exact inv_v this
theorem yE{x:gO}{a:Addr}(ho:o.op=.nilCheck x)(hx:zn gm Wq x=some (.v (.pointer (some a)))):Qk P gm Wq V o (.v (.pointer (some a))):=fun A _ φ F H ac hg hH hE=>by
 unfold execOp;rw[ho];dsimp only;rw[inv_v' hg hE hx];exact z7.quiet hH (.v _)
theorem kc{x:gO}{i off:Nat}(ho:o.op=.nilCheck x)(hx:zn gm Wq x=some (.ptr i off)):Qk P gm Wq V o (.ptr i off):=fun A _ φ F H ac hg hH hE=>by
 unfold execOp;rw[ho];have h1:=zy hg hE x;rw[zq hx]at h1;obtain⟨hi,e⟩:=wx h1;dsimp only;rw[e];exact z7.quiet hH (.ptr hi)
theorem yj{t:gT}{x:gO}{k off d n:Nat}{g:Bool}{b:Nat}(ho:o.op=.fieldAddr t x k)(hx:zn gm Wq x=some (.v (.pointer (some ⟨b,off,none⟩))))(hf:fieldOf P t k=some (d,g,n))(hn:n≠0):Qk P gm Wq V o (.v (.pointer (some ⟨b,off+d,none⟩))):=fun A _ φ F H a hg hH hE=>by
 unfold execOp;rw[ho];obtain⟨fs,f,e1,e2,e3,e4⟩:=vl hf;obtain⟨ti,td,e5,_,_,e6⟩:=yL e4;dsimp only;rw[inv_v' hg hE hx];refine wpS_v ?_;unfold Instr.fieldAt;refine zf _ _ _ (zB e1 ?_);simp only[e2];refine zf _ _ _ ?_;refine zf _ _ _ ?_;unfold fieldPlace;refine zf _ _ _ (yy e5 ?_);rw[e6,if_neg hn];show z7 φ A F (.v (.pointer (some ⟨b,off+d,none⟩))) A (.value (.pointer (some (Addr.add ⟨b,off,none⟩ f.offset)))) H;rw[e3,kn];exact z7.quiet hH (.v _)
theorem bA5:∀ a:Nat,a<256->bits .and .i32 (a:Int) 5=((a % 2+4*(a / 4 % 2):Nat):Int):=by decide +kernel
theorem bA7:∀ a:Nat,a<256->bits .and .i32 (a:Int) 7=((a % 8:Nat):Int):=by decide +kernel
theorem bA4:∀ a:Nat,a<256->bits .and .i32 (a:Int) 4=((4*(a / 4 % 2):Nat):Int):=by decide +kernel
theorem bA3:∀ a:Nat,a<256->bits .and .i32 (a:Int) 3=((a % 4:Nat):Int):=by decide +kernel
theorem bA2:∀ a:Nat,a<512->bits .and .i32 (a:Int) 2=((2*(a / 2 % 2):Nat):Int):=by decide +kernel
theorem bA1:∀ a:Nat,a<256->bits .and .i32 (a:Int) 1=((a % 2:Nat):Int):=by decide +kernel
theorem bO1:∀ a:Nat,a<256->bits .or .i32 (a:Int) 1=((a - a % 2+1:Nat):Int):=by decide +kernel
theorem bO2:∀ a:Nat,a<512->bits .or .i32 (a:Int) 2=((a - 2*(a / 2 % 2)+2:Nat):Int):=by decide +kernel
theorem bO4:∀ a:Nat,a<512->bits .or .i32 (a:Int) 4=((a - 4*(a / 4 % 2)+4:Nat):Int):=by decide +kernel
theorem bN2:∀ a:Nat,a<512->bits .andNot .i32 (a:Int) 2=((a - 2*(a / 2 % 2):Nat):Int):=by decide +kernel
theorem w32{n:Int}(h : -2147483648<=n/\n<2147483648):IntKind.i32.wrap n=n:=by
 unfold IntKind.wrap;simp only[show IntKind.i32.bits=32 from rfl,show IntKind.i32.signed=tt from rfl,Bool.true_and];split <;> rename_i h1 <;> simp only[dT_]at h1 <;> omega
variable {y:Sy P}{main:Bool}{Ch:Nat->gG->Hp->Prop}{k i:Nat}{T:TT}{x:Nat->Bool}
variable {φ0:Nat->Loc3}{Qq:gK}{hkd:Qq≠.early}{f:gF}{cs:List gQ}{de:List gD}{A0:List AObj}{K0:List Nat}{ds:List Nat}{kk:List Item}{Wk:List AV}{K:KV}{Qy:Array gB}{q:Nat}{Wp:List Nat}
theorem TK.live(Pv:gV->Prop)
  (hst:∀(w:gW)(s:S4)(ts:Array gV)(dd:List gD)(φ:Nat->Loc3)(n:Nat),RelG gm φ n->zN φ n Wq ts->y.sh w s->∃ v,Pv v/\stepG P main (G (fr Qq f none ts dd (.inRegion Qy (q::Wp)::kk)) cs) w=.go (G (fr Qq f none (putT ts o.dst v) dd (.inRegion Qy Wp::kk)) cs) w #[])
  (h:∀ v,Pv v->TK ((YT y main Ch) k i T x gm φ0 Qq hkd f cs de A0 K0) ds (.inRegion Qy Wp::kk) (zV Wq o.dst (.v v)) K) :
  TK ((YT y main Ch) k i T x gm φ0 Qq hkd f cs de A0 K0) ds (.inRegion Qy (q::Wp)::kk) Wq K:=by
 intro A hA φ H ts h1 h2 h3 h4 h5 h6;show y.Sf main Ch k i T x _ _;refine .step Z (fun w hf hl=>?_) fun w g' w' es hf hl he=>?_
 ·obtain⟨s,hs⟩:=hl;obtain⟨v,_,e⟩:=hst w s ts (dsC φ ds++de) φ A.length h3 h6 hs;exact⟨_,_,_,e,kr hf (fun e he=>by simp at he),rfl,fun h=>by cases h⟩
 ·obtain⟨s,hs⟩:=hl;obtain⟨v,hv,e⟩:=hst w s ts (dsC φ ds++de) φ A.length h3 h6 hs;have he':=e.symm.trans he;clear he;cases he';rw[ks hf];have hE:=yF (a:=⟨ts,[]⟩) h6 (RelV.v (φ:=φ) (n:=A.length) v) o.dst;have:=h v hv A hA φ H _ h1 h2 h3 h4 h5 hE;exact this
theorem zjh{src dst t:gT}{c:gO}{a:Addr}{v:gV}{w:gW}(ev:gO->gV)(Qw:o.op=.convert src dst c)(e:ev c=.pointer (some a))(hs:P.underlying src=some (.pointer t))(hd:P.underlying dst=some .unsafePointer)(hz:(P.info? t).map (fun i=>decide (i.size=0))=some ff)(hv:w.cell? a=some v) :
  (execOp ev o).run P w=.ok (.value (.pointer (some a))) w/\(execOp ev o).events P w #[]=#[]:=by
 have h1:=run_convert_to_unsafe (P:=P) hs hd hz hv;have h2:=fun es=>events_convert_to_unsafe (P:=P) hs hd hz hv es;unfold execOp;rw[Qw];constructor
 ·simp[e,h1]
 ·simp[e,h2]
theorem TK.sConv{src dst t:gT}{c:gO}{a:Addr}(ho:Qy[q]? =some o)(Qw:o.op=.convert src dst c)(hc:zn gm Wq c=some (.v (.pointer (some a))))(hs:P.underlying src=some (.pointer t))(hd:P.underlying dst=some .unsafePointer)(hz:(P.info? t).map (fun i=>decide (i.size=0))=some ff)
  (ha:∀ w s,y.sh w s->∃ v,w.cell? a=some v) (h:TK ((YT y main Ch) k i T x gm φ0 Qq hkd f cs de A0 K0) ds (.inRegion Qy Wp::kk) Wk K) (hw:zM Qy Wq o=some tt:=by rfl) (hp:zV Wq o.dst (.v (.pointer (some a)))=Wk:=by exact zD rfl tQ) :
  TK ((YT y main Ch) k i T x gm φ0 Qq hkd f cs de A0 K0) ds (.inRegion Qy (q::Wp)::kk) Wq K:=by
 refine TK.live (o:=o) (fun v=>v=.pointer (some a)) (fun w s ts dd φ n hg hE hsh=>⟨_,rfl,?_⟩) fun v hv=>by rw[hv,hp];exact h
 obtain⟨v,hv⟩:=ha w s hsh;obtain⟨e1,e2⟩:=zjh (⟨ts,dd⟩:Act).eval Qw (ev_v (dd:=dd) hg hE hc) hs hd hz hv;rw[fr_at,stepG_value (b:=bf Qq f) (a:=⟨ts,dd⟩) (v:=.pointer (some a)) (w':=w) ho (zO (ts:=ts) hE hw) hkd e1,yo,listed_nil e2];rfl
theorem TK.sPure{T:gG->Hp->Prop}{hT:zo P main T}{g:gF}{as0:Array gO}{ats:Array gT}{e:Array gV->Sem gV}{v:gV}[hx:Ext P g e](ho:Qy[q]? =some o)(Qw:o.op=.call { callee:=.value (.func g),args:=as0,argTypes:=ats })
  (h:TK (YU hT gm φ0 Qq hkd f cs de A0 K0) ds (.inRegion Qy Wp::kk) Wk K) (he:e=(fun _=>pure v):=by rfl) (hw:zM Qy Wq o=some tt:=by rfl) (hd:zV Wq o.dst (.v v)=Wk:=by exact zD rfl tQ) :
  TK (YU hT gm φ0 Qq hkd f cs de A0 K0) ds (.inRegion Qy (q::Wp)::kk) Wq K:=by
 intro A hA φ H ts h1 h2 h3 h4 h5 h6;obtain⟨fn,e1,e2,e3,e4,e5⟩:=hx.h;subst he;have hE:=yF (a:=⟨ts,[]⟩) h6 (RelV.v (φ:=φ) (n:=A.length) v) o.dst;rw[hd]at hE;refine hT _ _ Z fun w hf=>⟨G (fr Qq f none (putT ts o.dst v) (dsC φ ds++de) (.inRegion Qy Wp::kk)) cs,w,#[],?_,kr hf (fun e he=>by simp at he),rfl,?_⟩
 ·show stepG P main (G (fr Qq f none ts (dsC φ ds++de) _) cs) w=_;rw[fr_at,stepG_entry_pure (b:=bf Qq f) (a:=⟨ts,dsC φ ds++de⟩) v ho (zO (ts:=ts) h6 hw) hkd Qw e1 e2 e3 e4 e5,yo];rfl
 ·rw[ks hf];exact h A ⟨hA.view,hA.nd,hA.own,hA.kept,hA.len⟩ φ H _ h1 h2 h3 h4 h5 hE
theorem TK.castT{T':TT}(hT':y.A.aft T'=ff)(e:T=T')(h:TK ((YT y main Ch) k i T' x gm φ0 Qq hkd f cs de A0 K0) ds (kk) Wq K):TK ((YT y main Ch) k i T x gm φ0 Qq hkd f cs de A0 K0) ds (kk) Wq K:=by
 subst e;exact h
end
end Go.Vel
namespace Go.Vel
open Go Go.Conc
open Go.ConcN (sumTo upd upd_ne upd_same)
open Go.ConcM (OsLater MuAt muA msA)
open Go.ConcR (KK wgBlock WgAt stA smA mk rd wr)
open Mx (TT Th Mn S4 auto Mv4 ok4 bl4 kd dl MPc Pc okW okM Mv nx4 cnt lk wk st wt newOf)
theorem mx0{n:Nat}{T T':Th}{s:S4}(h:Mv T s.sh T' s.sh)(h1:cnt T=1:=by rfl)(h2:T.pc≠.d1:=by exact fun h=>by cases h):Mv4 n (.w T) s (.w T') s:=.mx h h1 h2
theorem mxM{n:Nat}{T T':Th}{s:S4}{m:Nat}(h:Mv T s.sh T' { s.sh with mu:=m })(h1:cnt T=1:=by rfl)(h2:T.pc≠.d1:=by exact fun h=>by cases h):Mv4 n (.w T) s (.w T') { s with mu:=m }:=.mx h h1 h2
theorem mxS{n:Nat}{T T':Th}{s:S4}{m:Nat}(h:Mv T s.sh T' { s.sh with ms:=m })(h1:cnt T=1:=by rfl)(h2:T.pc≠.d1:=by exact fun h=>by cases h):Mv4 n (.w T) s (.w T') { s with ms:=m }:=.mx h h1 h2
theorem hd_pc(T:Th):(Mx.hd T).pc=.sq\/(Mx.hd T).pc=.c2:=by
 unfold Mx.hd;split
 ·exact .inl rfl
 ·exact .inr rfl
theorem hd_dl(T:Th):dl (.w (Mx.hd T))=1:=by rcases hd_pc T with h|h <;> simp[dl,Mx.dlW,h]
theorem wP{P:gP}{y:Sy P}(T:Th):y.A.aft (.w (Mx.hd T))=ff:=by
 show Mx.aftW (Mx.hd T)=ff;rcases hd_pc T with h|h <;> simp[Mx.aftW,h]
theorem hd_kd(T:Th):kd (.w (Mx.hd T))≠.quit:=by rcases hd_pc T with h|h <;> simp[kd,Mx.kdW,h]
theorem zfu(x:Nat):(Mx.hdU x).pc=.ue\/(Mx.hdU x).pc=.uc:=by
 unfold Mx.hdU;split
 ·exact .inl rfl
 ·exact .inr rfl
theorem zju(x:Nat):dl (.w (Mx.hdU x))=1:=by rcases zfu x with h|h <;> simp[dl,Mx.dlW,h]
theorem zag{P:gP}{y:Sy P}(x:Nat):y.A.aft (.w (Mx.hdU x))=ff:=by
 show Mx.aftW (Mx.hdU x)=ff;rcases zfu x with h|h <;> simp[Mx.aftW,h]
theorem zjv(x:Nat):kd (.w (Mx.hdU x))≠.quit:=by rcases zfu x with h|h <;> simp[kd,Mx.kdW,h]
def nv1(x:Nat):Nat:=if st x=0 then x - x % 2+1 else x
def nv2(x:Nat):Nat:=if lk x=1\/st x=1 then nv1 x+8 else nv1 x
def nv3(x:Nat)(sv:Bool):Nat:=if sv=tt/\lk x=1 then nv2 x - 4*(nv2 x / 4 % 2)+4 else nv2 x
def nv4(x:Nat)(aw sv:Bool):Nat:=if aw=tt then nv3 x sv - 2*(nv3 x sv / 2 % 2)else nv3 x sv
theorem zo5:∀ x:Nat,x<256->nv1 x<512/\nv2 x<512/\∀ sv:Bool,nv3 x sv<512/\(wk x=1->nv3 x sv / 2 % 2=1)/\∀ aw:Bool,(aw=tt->wk x=1)->nv4 x aw sv=newOf x aw sv:=by decide +kernel
section
variable {P:gP}
def GIn(y:Sy P)(lo:Nat×Loc3)(i:Nat)(PL:(Nat->Bool)->KV->Prop):Prop :=
 ∀ x' L A φ H,y.GI x' L->x' i=ff->lo.1<A.length->φ lo.1=lo.2->zU [(lo.1,.gone)] A->(keys [(lo.1,AObj.gone)]).Nodup->RelH φ A nF H->H.Dis L->Agrees H L->∃ φ' A' K',Agr φ φ' A.length/\A.length<=A'.length/\Kstep [(lo.1,.gone)] A K' A'/\PL x' K'/\RelH φ' A' nF (H.join L)
def LockR(y:Sy P)(main:Bool)(Ch:Nat->gG->Hp->Prop)(k i:Nat)(PL:(Nat->Bool)->KV->Prop)(r:AV)(K':KV)(T':gG->Hp->Prop):Prop :=
 r=.tup []/\∃ k' x',k'<k/\x' i=ff/\PL x' K'/\T'=y.Sf main Ch k' i (.w { pc:=.ur }) x'
variable {gm:Nat->Option Nat}{y:Sy P}{main:Bool}{Ch:Nat->gG->Hp->Prop}{k i:Nat}{T:TT}{x:Nat->Bool}
variable {φ0:Nat->Loc3}{Qq:gK}{hkd:Qq≠.early}{f:gF}{cs:List gQ}{de:List gD}{A0:List AObj}{K0:List Nat}{ds:List Nat}{kk:List Item}{Wq:List AV}{K:KV}
theorem TK.splitS{ι:Type}{r c:Code}(T2:ι->TT)(hT2:∀ j,y.A.aft (T2 j)=ff)(I:ι->Prop)(E:ι->List AV)(KK:KV)
  (h:(∀ k2 j,k2<=k->I j->TK ((YT y main Ch) k2 i (T2 j) x gm φ0 Qq hkd f cs de A0 K0) ds kk (E j) KK)->TK ((YT y main Ch) k i T x gm φ0 Qq hkd f cs de A0 K0) ds (.code r::.code c::kk) Wq K)
  (hc:∀ k2 j,k2<=k->I j->TK ((YT y main Ch) k2 i (T2 j) x gm φ0 Qq hkd f cs de A0 K0) ds kk (E j) KK):TK ((YT y main Ch) k i T x gm φ0 Qq hkd f cs de A0 K0) ds (.code r::.code c::kk) Wq K:=h hc
theorem TK.shareS{ι:Type}{r:Code}(T2:ι->TT)(hT2:∀ j,y.A.aft (T2 j)=ff)(I:ι->Prop)(E:ι->List AV)(KK:KV)
  (h:(∀ k2 j,k2<=k->I j->TK ((YT y main Ch) k2 i (T2 j) x gm φ0 Qq hkd f cs de A0 K0) ds kk (E j) KK)->TK ((YT y main Ch) k i T x gm φ0 Qq hkd f cs de A0 K0) ds (.code r::kk) Wq K)
  (hc:∀ k2 j,k2<=k->I j->TK ((YT y main Ch) k2 i (T2 j) x gm φ0 Qq hkd f cs de A0 K0) ds kk (E j) KK):TK ((YT y main Ch) k i T x gm φ0 Qq hkd f cs de A0 K0) ds (.code r::kk) Wq K:=h hc
theorem TK.share1{T:gG->Hp->Prop}{X:KX P gm T}{c:Code}(E:List AV)(KK:KV)(h:TK X ds kk E KK->TK X ds (.code c::kk) Wq K)(hc:TK X ds kk E KK):TK X ds (.code c::kk) Wq K:=h hc
end
end Go.Vel
namespace Go.Vel
open Go Go.Conc
open Go.ConcN (sumTo upd upd_ne upd_same)
open Go.ConcM (OsLater MuAt muA msA)
open Go.ConcR (KK wgBlock WgAt stA smA mk rd wr)
open Mx (TT Th Mn S4 auto Mv4 ok4 bl4 kd dl MPc Pc okW okM Mv nx4)
section
variable {P:gP}{gm:Nat->Option Nat}{main:Bool}
def CallE(P:gP)(gm:Nat->Option Nat)(lo:Nat×Loc3)(T:gG->Hp->Prop)(g:gF)(args:List AV)(K:KV)(R:(gG->Hp->Prop)->Prop):Prop :=
 ∀ A,zU K A->(keys K).Nodup->∀(φ:Nat->Loc3)(H:Hp)(vs:Array gV)(c:gQ)(cs:List gQ),lo.1<A.length->φ lo.1=lo.2->RelG gm φ A.length->RelH φ A nF H->zN φ A.length args vs ->
  (∀ T' v H',R T'->T' (G (c.finish v) cs) H')->T (G (Frame.enter P g vs .normal) (c::cs)) H
def CallZ(P:gP)(T:gG->Hp->Prop)(g:gF)(vs:List gV)(R:(gG->Hp->Prop)->Prop):Prop :=
 ∀(H:Hp)(c:gQ)(cs:List gQ),(∀ T' v H',R T'->T' (G (c.finish v) cs) H')->T (G (Frame.enter P g vs.toArray .normal) (c::cs)) H
theorem ze1(n:Nat){T:gG->Hp->Prop}(hT:zo P main T){lo:Nat×Loc3}{g:gF}{fn:Func}{c:Code}{args:List AV}{K:KV}{R:(gG->Hp->Prop)->Prop}(hf:P.funcs[g]? =some fn)
  (h:∀(φ0:Nat->Loc3)(c0:gQ)(cs:List gQ)(A0:List AObj),lo.1<A0.length->φ0 lo.1=lo.2->(∀ T' v H',R T'->T' (G (c0.finish v) cs) H') ->
   TK (YU hT gm φ0 .normal zZ g (c0::cs) [] A0 (keys K)) [] [.code c] (args++mB (n - args.length) .any) K) (hb:fn.body=some c:=by rfl) (hn:fn.ntmps=n:=by rfl):CallE P gm lo T g args K R:=by
 subst hn;intro A hv hnd φ H vs c0 cs hl1 hl2 hg hH Qg Qj;rw[wD vs hf hb];exact h φ c0 cs A hl1 hl2 Qj A ⟨hv,hnd,fun i hi=>.inl hi,fun _ _ _=>rfl,mL _⟩ φ H _ (Agr.refl _ _) (mL _) hg (fun d hd=>by cases hd) hH (ke Qg _)
theorem kG(φ:Nat->Loc3)(n:Nat):RelG (fun _=>none) φ n:=fun b j h=>by cases h
theorem zga(φ:Nat->Loc3)(n:Nat)(vs:List gV):zN φ n (vs.map .v) vs.toArray:=⟨by simp,fun j a y ha hy=>by
 rw[lQ]at ha;rw[List.getElem?_toArray]at hy;rw[hy]at ha;cases ha;exact .v y⟩
theorem ze6(n:Nat){T:gG->Hp->Prop}(hT:zo P main T){g:gF}{fn:Func}{c:Code}{vs:List gV}{R:(gG->Hp->Prop)->Prop}(hf:P.funcs[g]? =some fn)
  (h:∀(φ0:Nat->Loc3)(c0:gQ)(cs:List gQ),(∀ T' v H',R T'->T' (G (c0.finish v) cs) H') ->
   TK (YU hT (fun _=>none) φ0 .normal zZ g (c0::cs) [] [] []) [] [.code c] (vs.map .v++mB (n - (vs.map AV.v).length) .any) []) (hb:fn.body=some c:=by rfl) (hn:fn.ntmps=n:=by rfl):CallZ P T g vs R:=by
 subst hn;intro H c0 cs Qj;rw[wD vs.toArray hf hb];exact h (fun _=>⟨0,0,0⟩) c0 cs Qj [] ⟨fun x hx=>(by cases hx),List.nodup_nil,fun i hi=>(by cases hi),fun _ _ _=>rfl,mL _⟩ _ H _ (Agr.refl _ _) (mL _) (kG _ _) (fun d hd=>by cases hd) (uA _ _) (ke (zga _ _ vs) _)
variable {φ0:Nat->Loc3}{Qq:gK}{hkd:Qq≠.early}{f:gF}{cs:List gQ}{de:List gD}{A0:List AObj}{K0:List Nat}{ds:List Nat}{kk:List Item}{Wq Wk:List AV}{K:KV}{Qy:Array gB}{q:Nat}{Wp:List Nat}{o:gB}
theorem TK.retZ{T':gG->Hp->Prop}{hT':zo P main T'}{g:gF}{fn:Func}{c0:gQ}{r:AV}(hf:P.funcs[g]? =some fn)(Qj:∀ v H',T' (G (c0.finish v) cs) H')(hres:∀ A,zU K A->resA P fn.results.toList Wq A=some r):TK (YU hT' gm φ0 .normal zZ g (c0::cs) [] A0 K0) [] (.code .ret::kk) Wq K:=by
 intro A hA φ H ts h1 h2 h3 h4 h5 h6;exact hT'.ctlF rfl (fun _=>vq) rfl (hT'.leaveF hf (kW h5 h6 (hres A hA.view) fun y hy=>Qj y H))
theorem TK.retZ0{T':gG->Hp->Prop}{hT':zo P main T'}{g:gF}{fn:Func}{c0:gQ}{r:AV}(hf:P.funcs[g]? =some fn)(Qj:∀ v H',T' (G (c0.finish v) cs) H')(hres:∀ A,zU K A->resA P fn.results.toList Wq A=some r):TK (YU hT' gm φ0 .normal zZ g (c0::cs) [] A0 K0) [] [] Wq K:=by
 intro A hA φ H ts h1 h2 h3 h4 h5 h6;exact hT'.ctlF rfl (fun _=>wQ) rfl (hT'.leaveF hf (kW h5 h6 (hres A hA.view) fun y hy=>Qj y H))
theorem zaV{H:Hp}{ts:Array gV}{dd:List gD}{fo:gO}{ars:Array gO}{at_:Array gT}{g:gF}(Qw:o.op=.call { callee:=.value fo,args:=ars,argTypes:=at_ })(hfo:(⟨ts,dd⟩:Act).eval fo=.func (.func g) #[] #[])(hg:yk P g=tt){Q:Next->Hp->Prop}(hq:Q (.enter g (ars.map (evT ts))) H):wpS P (execOp (evT ts) o) H Q:=by
 unfold execOp;rw[Qw];dsimp only;refine zf _ _ _ ?_;rw[yY]at hfo;show wpS P (Deferred.ofValue (evT ts fo) (ars.map (evT ts))) H _;rw[hfo];show wpS P (callFunc g ((#[]++ars.map (evT ts))++#[])) H _;refine wK hg _ ?_;rw[Array.empty_append,Array.append_empty];exact hq
theorem zdp{φ:Nat->Loc3}{n:Nat}{ts:Array gV}{dd:List gD}{fo:gO}{g:gF}(h3:RelG gm φ n)(h6:zN φ n Wq ts)(hf:zn gm Wq fo=some (.fn g [] [])):(⟨ts,dd⟩:Act).eval fo=.func (.func g) #[] #[]:=by
 have hfo:=zy (a:=⟨ts,dd⟩) h3 h6 fo;rw[zq hf]at hfo;obtain⟨xs,ys,e,hr1,hr2⟩:=uu hfo;have ex:xs=#[]:=Array.eq_empty_of_size_eq_zero (by have:=hr1.1;simpa using this.symm);have ey:ys=#[]:=Array.eq_empty_of_size_eq_zero (by have:=hr2.1;simpa using this.symm);subst ex ey;exact e
theorem TK.callE{T:gG->Hp->Prop}{hT:zo P main T}{lo:Nat×Loc3}{fo:gO}{ars:Array gO}{at_:Array gT}{g:gF}{args:List AV}{R:(gG->Hp->Prop)->Prop}{env2:gV->List AV}(ho:Qy[q]? =some o)(Qw:o.op=.call { callee:=.value fo,args:=ars,argTypes:=at_ })
  (hf:zn gm Wq fo=some (.fn g [] [])) (Qg:ars.toList.map (zT gm Wq)=args) (hc:CallE P gm lo T g args K R) (hl1:lo.1<A0.length) (hl2:φ0 lo.1=lo.2)
  (h:∀ T' v,R T'->∃ hT':zo P main T',TK (YU hT' (fun _=>none) φ0 Qq hkd f cs de [] []) [] (.inRegion Qy Wp::kk) (env2 v) []) (he:∀ v,zV (Wq.map plainV) o.dst (.v v)=env2 v:=by exact fun _=>zD rfl (by simp only[List.map,plainV,List.set];rfl)) (hd:ds=[]:=by rfl) (hw:zM Qy Wq o=some tt:=by rfl) (hg:yk P g=tt:=by exact Cal.h) :
  TK (YU hT gm φ0 Qq hkd f cs de A0 K0) ds (.inRegion Qy (q::Wp)::kk) Wq K:=by
 subst hd;intro A hA φ H ts h1 h2 h3 h4 h5 h6;refine hT.opF hkd ho (zO h6 hw) (by rw[Qw];rfl) (zaV (dd:=de) Qw (zdp h3 h6 hf) hg ?_);have hrel:zN φ A.length args (ars.map (evT ts)):=by
  rw[<- Qg];have hm:=wG (a:=⟨ts,[]⟩) h3 h6 ars;rw[yY]at hm;exact hm
 refine hc A hA.view hA.nd φ H _ _ cs (mM hl1 hA.len) ((h1 _ hl1).trans hl2) h3 h5 hrel fun T' v H' hp'=>?_;obtain⟨hT',hh⟩:=h T' v hp';have Qj:=yZ Qq f none ts de Qy q Wp kk v;simp only[ho,Option.bind_some]at Qj;show T' (G ((fr Qq f none ts de (.inRegion Qy (q::Wp)::kk)).finish v) cs) H';rw[Qj];have hE:=yF (a:=⟨ts,[]⟩) (vU (φ':=φ0) h6) (RelV.v (φ:=φ0) (n:=0) v) o.dst;rw[he]at hE;exact hh [] ⟨fun x hx=>(by cases hx),List.nodup_nil,fun i hi=>(by cases hi),fun _ _ _=>rfl,mL _⟩ φ0 H' _ (Agr.refl _ _) (mL _) (kG _ _) (fun d hd=>by cases hd) (uA _ _) hE
theorem TK.callZ{T:gG->Hp->Prop}{hT:zo P main T}{fo:gO}{ars:Array gO}{at_:Array gT}{g:gF}{vs:List gV}{R:(gG->Hp->Prop)->Prop}{env2:gV->List AV}(ho:Qy[q]? =some o)(Qw:o.op=.call { callee:=.value fo,args:=ars,argTypes:=at_ })
  (hf:zn gm Wq fo=some (.fn g [] [])) (Qg:ars.toList.map (zT gm Wq)=vs.map .v) (hc:CallZ P T g vs R)
  (h:∀ T' v,R T'->∃ hT':zo P main T',TK (YU hT' (fun _=>none) φ0 Qq hkd f cs de [] []) [] (.inRegion Qy Wp::kk) (env2 v) []) (he:∀ v,zV (Wq.map plainV) o.dst (.v v)=env2 v:=by exact fun _=>zD rfl (by simp only[List.map,plainV,List.set];rfl)) (hd:ds=[]:=by rfl) (hw:zM Qy Wq o=some tt:=by rfl) (hg:yk P g=tt:=by exact Cal.h) :
  TK (YU hT gm φ0 Qq hkd f cs de A0 K0) ds (.inRegion Qy (q::Wp)::kk) Wq K:=by
 subst hd;intro A hA φ H ts h1 h2 h3 h4 h5 h6;refine hT.opF hkd ho (zO h6 hw) (by rw[Qw];rfl) (zaV (dd:=de) Qw (zdp h3 h6 hf) hg ?_);have hrel:ars.map (evT ts)=vs.toArray:=by
  have hm:=wG (a:=⟨ts,[]⟩) h3 h6 ars;rw[yY,Qg]at hm;refine Array.ext' ?_;refine List.ext_getElem? fun j=>?_;have hl:=hm.1;by_cases hj:j<vs.length
  ·have h2:=hm.2 j (.v vs[j]) ((ars.map (evT ts))[j]'(by rw[<- hl];simpa using hj)) (by simp[hj]) (by rw[mD]);have:=inv_v h2;rw[Array.getElem?_toList,mD (by rw[<- hl];simpa using hj),this];simp[hj]
  ·rw[lU (by simp at hl ⊢;omega),lU (by simpa using hj)]
 rw[hrel];refine hc H _ cs fun T' v H' hp'=>?_;obtain⟨hT',hh⟩:=h T' v hp';have Qj:=yZ Qq f none ts de Qy q Wp kk v;simp only[ho,Option.bind_some]at Qj;show T' (G ((fr Qq f none ts de (.inRegion Qy (q::Wp)::kk)).finish v) cs) H';rw[Qj];have hE:=yF (a:=⟨ts,[]⟩) (vU (φ':=φ0) h6) (RelV.v (φ:=φ0) (n:=0) v) o.dst;rw[he]at hE;exact hh [] ⟨fun x hx=>(by cases hx),List.nodup_nil,fun i hi=>(by cases hi),fun _ _ _=>rfl,mL _⟩ φ0 H' _ (Agr.refl _ _) (mL _) (kG _ _) (fun d hd=>by cases hd) (uA _ _) hE
end
end Go.Vel
namespace Go.Vel
open Go Go.Conc
def scalT(P:gP)(t:gT):Bool:=match P.underlying t with
 | some (.int _)=>tt
 | some .bool=>tt
 | some .string=>tt
 | _=>ff
def flatF(P:gP)(t:gT):Option (List (gT×Nat)):=match P.underlying t with
 | some (.struct fs)=>if fs.toList.all (fun f=>f.name != "_" && scalT P f.type) && !P.stoodInHeld t then some (fs.toList.map fun f=>(f.type,f.offset))else none
 | _=>none
def eqV:gV->gV->Option Bool
 | .int k a,.int k' b=>if k=k' then some (a==b)else none
 | .bool a,.bool b=>some (a==b)
 | .string a,.string b=>some (a==b)
 | _,_=>none
def fitV(P:gP)(t:gT)(v:gV):Bool:=match P.underlying t,v with
 | some (.int _),.int _ _=>tt
 | some .bool,.bool _=>tt
 | some .string,.string _=>tt
 | _,_=>ff
section
variable {P:gP}
theorem zmX{d:Nat}{t:gT}{v w:gV}{b:Bool}(h1:fitV P t v=tt)(h2:fitV P t w=tt)(h:eqV v w=some b):zL P (Op.equalIn (d+1) t v w)=some b:=by
 unfold Op.equalIn;unfold fitV at h1 h2;split at h1
 ·rename_i k k1 n1 e;rw[e]at h2;cases w <;> simp only[mU]at h2;rename_i k2 n2;simp only[eqV]at h;split at h
  ·rename_i ek;cases h;refine zJ (yi e) ?_;dsimp only;rw[if_pos ek];rfl
  ·cases h
 ·rename_i a e;rw[e]at h2;cases w <;> simp only[mU]at h2;cases h;exact zJ (yi e) rfl
 ·rename_i a e;rw[e]at h2;cases w <;> simp only[mU]at h2;cases h;exact zJ (yi e) rfl
 ·cases h1
theorem zem{t:gT}{cs:Array gV}{off:Nat}{v:gV}(hs:scalT P t=tt)(h:cs[off]? =some v):zL P (part t cs off)=some v:=by
 unfold part isAgg;unfold scalT at hs;refine zJ (a:=ff) ?_ ?_
 ·split at hs <;> first|(rename_i e;exact zJ (yi e) rfl)|cases hs
 ·simp[h];rfl
inductive EqL(P:gP)(xs ys:Array gV):List (gT×Nat)->List Bool->Prop
 | nil:EqL P xs ys [] []
 | cons {t:gT} {off:Nat} {v w:gV} {b:Bool} {l:List (gT×Nat)} {bs:List Bool}:xs[off]? =some v->ys[off]? =some w->fitV P t v=tt->fitV P t w=tt->eqV v w=some b->EqL P xs ys l bs->EqL P xs ys ((t,off)::l) (b::bs)
theorem zmW{xs ys:Array gV}(F:Field->Option Bool×Unit->Sem (ForInStep (Option Bool×Unit))):∀{l:List (gT×Nat)}{bs:List Bool}(fl:List Field)
  (hF:∀ f∈fl,∀ v w b,xs[f.offset]? =some v->ys[f.offset]? =some w->fitV P f.type v=tt->fitV P f.type w=tt->eqV v w=some b->zL P (F f (none,()))=some (if b=tt then .yield (none,())else .done (some ff,()))),
  fl.map (fun f=>(f.type,f.offset))=l->EqL P xs ys l bs->zL P (forIn fl (none,()) F)=some (if bs.all id=tt then none else some ff,()):=by
 intro l bs fl hF hm h
 induction h generalizing fl with
 | nil =>
  cases fl with
  | nil=>rfl
  | cons f fl=>cases hm
 | @cons t off v w b l bs hv hw h1 h2 he _ ih =>
  cases fl with
  | nil=>cases hm
  | cons f fl =>
   simp only[List.map_cons,List.cons.injEq,Prod.mk.injEq]at hm;obtain⟨⟨rfl,rfl⟩,hm⟩:=hm;rw[List.forIn_cons];refine zJ (hF f List.mem_cons_self v w b hv hw h1 h2 he) ?_;cases b with
   | false=>rfl
   | true =>
    simp only[if_true];rw[ih fl (fun f hf=>hF f (lL _ hf)) hm];simp
theorem zg8{t:gT}{l:List (gT×Nat)}{xs ys:Array gV}{bs:List Bool}(hl:flatF P t=some l)(h:EqL P xs ys l bs):zL P (Op.equal t (.agg xs) (.agg ys))=some (bs.all id):=by
 unfold flatF at hl;split at hl
 ·rename_i fs hu;split at hl
  ·rename_i hc;simp only[mX,List.all_eq_true,mV]at hc;obtain⟨hall,hst⟩:=hc;show zL _ (Op.equalIn (9999+1) t _ _)=_;unfold Op.equalIn;refine zJ (yi hu) ?_;dsimp only;refine zJ (a:=P) Z ?_;rw[hst];simp only[mU,if_false];refine zJ (a:=(if bs.all id=tt then none else some ff,())) ?_ (by cases bs.all id <;> rfl);rw[<- Array.forIn_toList];refine zmW _ fs.toList (fun f hf v w b hv hw h1 h2 he=>?_) (Option.some.inj hl) h
   have hn:f.name ≠ "_" := by have:=(hall f hf).1;simpa using this
   have hs:=(hall f hf).2;rw[if_pos hn];refine zJ (zem hs hv) (zJ (zem hs hw) (zJ (zmX (d:=9998) h1 h2 he) ?_));cases b <;> rfl
  ·cases hl
 ·cases hl
theorem EqL.consI{xs ys:Array gV}{t:gT}{off:Nat}{k k1:gJ}{a b:Int}{l:List (gT×Nat)}{bs:List Bool}(hu:P.underlying t=some (.int k))(hx:xs[off]? =some (.int k1 a))(hy:ys[off]? =some (.int k1 b))(h:EqL P xs ys l bs):EqL P xs ys ((t,off)::l) ((a==b)::bs) :=
 .cons hx hy (by unfold fitV;rw[hu]) (by unfold fitV;rw[hu]) (by simp[eqV]) h
theorem EqL.consB{xs ys:Array gV}{t:gT}{off:Nat}{a b:Bool}{l:List (gT×Nat)}{bs:List Bool}(hu:P.underlying t=some .bool)(hx:xs[off]? =some (.bool a))(hy:ys[off]? =some (.bool b))(h:EqL P xs ys l bs):EqL P xs ys ((t,off)::l) ((a==b)::bs) :=
 .cons hx hy (by unfold fitV;rw[hu]) (by unfold fitV;rw[hu]) rfl h
theorem EqL.consS{xs ys:Array gV}{t:gT}{off:Nat}{a b:ByteArray}{l:List (gT×Nat)}{bs:List Bool}(hu:P.underlying t=some .string)(hx:xs[off]? =some (.string a))(hy:ys[off]? =some (.string b))(h:EqL P xs ys l bs):EqL P xs ys ((t,off)::l) ((a==b)::bs) :=
 .cons hx hy (by unfold fitV;rw[hu]) (by unfold fitV;rw[hu]) rfl h
theorem zcO{op:BinOp}{t:gT}{x y:gO}{xs ys:Array gV}(Qw:op=.eql\/op=.neq)(hg:P.eqGuardType P.depth t=ff){s:Sem gV}{z:gV}(h:zL P s=some z):zL P (eqGuard op t x y (.agg xs) (.agg ys) >>= fun _=>s)=some z:=by
 refine zJ (a:=()) ?_ h;rcases Qw with rfl|rfl;all_goals
  unfold eqGuard;show zL P (if (!P.eqGuardType P.depth t)=tt then pure ()else _)=_;rw[hg];rfl
class FlatF(P:gP)(t:gT)(l:outParam (List (gT×Nat))):Prop where h:flatF P t=some l:=by kernel_rfl
class EqG(P:gP)(t:gT):Prop where h:P.eqGuardType P.depth t=ff:=by kernel_rfl
variable {gm:Nat->Option Nat}{V:KV}{Wq:List AV}{o:gB}
theorem zl9{t:gT}{x y:gO}{ax ay:AV}{xs ys:Array gV}{l:List (gT×Nat)}{bs:List Bool}(ho:o.op=.binOp .eql t x y t)(hx:zn gm Wq x=some ax)(hy:zn gm Wq y=some ay)(hvx:toV ax=some (.agg xs))(hvy:toV ay=some (.agg ys))(hl:flatF P t=some l)(hg:P.eqGuardType P.depth t=ff)
  (h:EqL P xs ys l bs:=by repeat (first|exact EqL.nil|apply EqL.consI Und.h rfl rfl|apply EqL.consB Und.h rfl rfl|apply EqL.consS Und.h rfl rfl)):Qk P gm Wq V o (.v (.bool (bs.all id))):=fun A _ =>
 wu ho (by rw[zq hx];exact hvx) (by rw[zq hy];exact hvy) (zcO (.inl rfl) hg (zJ (zg8 hl h) rfl))
theorem zj6{t:gT}{x y:gO}{ax ay:AV}{xs ys:Array gV}{l:List (gT×Nat)}{bs:List Bool}(ho:o.op=.binOp .neq t x y t)(hx:zn gm Wq x=some ax)(hy:zn gm Wq y=some ay)(hvx:toV ax=some (.agg xs))(hvy:toV ay=some (.agg ys))(hl:flatF P t=some l)(hg:P.eqGuardType P.depth t=ff)
  (h:EqL P xs ys l bs:=by repeat (first|exact EqL.nil|apply EqL.consI Und.h rfl rfl|apply EqL.consB Und.h rfl rfl|apply EqL.consS Und.h rfl rfl)):Qk P gm Wq V o (.v (.bool (!bs.all id))):=fun A _ =>
 wu ho (by rw[zq hx];exact hvx) (by rw[zq hy];exact hvy) (zcO (.inr rfl) hg (zJ (zg8 hl h) rfl))
end
section
variable {P:gP}{gm:Nat->Option Nat}{T:gG->Hp->Prop}{Y:KX P gm T}{ds:List Nat}{k:List Item}{Wq Wk:List AV}{K K':KV}{Qy:Array gB}{i:Nat}{o:gB}{r:AV}{Wy Wx:List Pd}
def dstOk(Wx:List Pd)(Qy:Array gB)(d:Option Nat):Bool:=match d with
 | some d=>Wx.all fun p => !(p.s.elem d)&&dstOf Qy p.i !=some d
 | none=>tt
theorem td_do{L L':List Nat}(s:List Nat)(ho:Qy[i]? =some o)(hw:zM Qy (onl s Wq) o=some tt)(hp':pendOf Qy i Wy=Wx)(hraw:rawOk Qy i s=tt)(hdst:dstOk Wx Qy o.dst=tt)(hin:i∈L)(Qv:∀ j∈L',j∈L/\j≠i)(hcov':∀ j∈L,j=i\/j∈L')
  (h:ExK Y (onl s Wq) K o fun r K'=>(∀ p∈Wx,∀ x∈p.V,x∈K')/\TD Y ds Qy k Wx L' (zV Wq o.dst r) K')
  (hj:∀ p∈Wy,Jq P gm Qy Wq p) (hraws:∀ p∈Wy,rawP Qy p.i p.s=tt) {A:List AObj} (hA:Kn Y K A) {σ:List Nat} (hnd:(i::σ).Nodup) (hresp:Resp Qy (i::σ)) (hsz:∀ j∈i::σ,j<Qy.size) (hL:∀ j∈L,j∈i::σ) (hcov:∀ j∈i::σ,j∈L\/∃ p∈Wy,p.i=j)
  {φ:Nat->Loc3} {H:Hp} {ts:Array gV} (h1:Agr Y.X.φ0 φ Y.X.n0) (h2:Y.X.n0<=A.length) (h3:RelG gm φ A.length) (h4:∀ d∈ds,d<A.length) (h5:RelH φ A Y.X.F H) (h6:RelHid φ A.length (Hid Qy Wy (i::σ)) Wq ts) :
  T (G (fr Y.X.kd Y.X.f Y.X.ro ts (dsC φ ds++Y.X.dd) (.inRegion Qy (i::σ)::k)) Y.X.cs) H:=by
 subst hp';have hrel:=zdz hsz hresp hraw hraws h6;refine h A hA Qy i σ k (dsC φ ds++Y.X.dd) φ H ts ho (zO hrel hw) h3 h5 hrel fun r A' φ' H' v ⟨K',hk,hV',hq⟩ hA' Wb hH' hr=>?_;have hds:dsC φ' ds=dsC φ ds:=by
  unfold dsC;exact List.map_congr_left fun d hd'=>by rw[hA' d (h4 d hd')]
 rw[<- hds];have hnd':=List.nodup_cons.1 hnd;have hkeep:∀ p∈Wy,p.i∈σ->p∈pendOf Qy i Wy:=fun p hp hm=>by
  refine List.mem_filter.2 ⟨hp,?_⟩;simp only[Bool.not_eq_true'];cases e:(edgesOf .any Qy i).elem p.i with
  | false=>rfl
  | true=>exact absurd (List.mem_cons_of_mem _ hm) (hresp.1 p.i (by simpa using e))
 refine hq (fun p hp=>?_) (fun p hp=>hraws p (List.mem_filter.1 hp).1) hV' A' (hA.step hk) σ hnd'.2 hresp.2 (fun j hj=>hsz j (by simp[hj])) (fun j hj=>?_) (fun j hj=>?_) φ' H' _ (h1.trans hA' h2) oQ (h3.mono hA' Wb) (fun d hd'=>Nat.lt_of_lt_of_le (h4 d hd') Wb) hH' ⟨?_,fun j a y ha hy hnh=>?_⟩
 ·have hj':∀ p∈pendOf Qy i Wy,Jq P gm Qy Wq p:=fun p hp=>hj p (List.mem_filter.1 hp).1;cases hdst':o.dst with
  | none=>exact hj' p hp
  | some d =>
   unfold dstOk at hdst;rw[hdst']at hdst;exact zfF hdst hj' p hp
 ·have hm:=Qv j hj;rcases List.mem_cons.1 (hL j hm.1)with e|e
  ·exact absurd e hm.2
  ·exact e
 ·rcases hcov j (by simp[hj])with h7|⟨p,hp,e⟩
  ·rcases hcov' j h7 with rfl|h7
   ·exact absurd hj hnd'.1
   ·exact .inl h7
  ·exact .inr ⟨p,hkeep p hp (e ▸ hj),e⟩
 ·have:(putT ts o.dst v).size=ts.size:=by cases o.dst <;> simp[putT,Act.put]
  rw[this,<- h6.1];cases o.dst <;> simp[zV]
 ·have hback:o.dst≠some j->ts[j]? =some y->Wq[j]? =some a->RelV φ' A'.length a y:=fun hne hy' ha'=>by
   refine(h6.2 j a y ha' hy' fun⟨p,hp,h8,h9⟩=>?_).mono hA' Wb;rcases List.mem_cons.1 h8 with e|h8
   ·rw[e]at h9;simp[dstOf,ho]at h9;exact hne h9
   ·exact hnh ⟨p,hkeep p hp h8,h8,h9⟩
  cases hdst':o.dst with
  | none=>rw[hdst']at ha hy;exact hback (by rw[hdst'];simp) hy ha
  | some d =>
   rw[hdst']at ha hy;simp only[zV,putT,Act.put]at ha hy;by_cases e:d=j
   ·subst e;have Qp:d<Wq.length:=by have:=(List.getElem?_eq_some_iff.1 ha).1;simpa using this
    rw[List.getElem?_set_self Qp]at ha;rw[Array.getElem?_setIfInBounds_self_of_lt (by rw[<- h6.1];exact Qp)]at hy;cases ha;cases hy;exact hr
   ·rw[List.getElem?_set_ne e]at ha;rw[Array.getElem?_setIfInBounds_ne e]at hy;exact hback (by rw[hdst'];simpa using e) hy ha
theorem TD.c2{i1 i2:Nat}{o1 o2:gB}{L L1 L2:List Nat}{pend1 pend2:List Pd}(s1 s2:List Nat)(ho1:Qy[i1]? =some o1)(ho2:Qy[i2]? =some o2)(hw1:zM Qy (onl s1 Wq) o1=some tt)(hw2:zM Qy (onl s2 Wq) o2=some tt)(hp1:pendOf Qy i1 Wy=pend1)(hp2:pendOf Qy i2 Wy=pend2)
  (hc:(rawOk Qy i1 s1&&rawOk Qy i2 s2&&dstOk pend1 Qy o1.dst&&dstOk pend2 Qy o2.dst&&L.elem i1&&L.elem i2&&L1.all (fun j=>L.elem j&&j !=i1)&&L2.all (fun j=>L.elem j&&j !=i2)&&L.all (fun j=>j==i1||L1.elem j)&&L.all (fun j=>j==i2||L2.elem j)&&L.all (fun j=>j==i1||j==i2||(edgesOf .any Qy j).any fun e=>L.elem e))=tt)
  (h1:ExK Y (onl s1 Wq) K o1 fun r K'=>(∀ p∈pend1,∀ x∈p.V,x∈K')/\TD Y ds Qy k pend1 L1 (zV Wq o1.dst r) K') (h2:ExK Y (onl s2 Wq) K o2 fun r K'=>(∀ p∈pend2,∀ x∈p.V,x∈K')/\TD Y ds Qy k pend2 L2 (zV Wq o2.dst r) K'):TD Y ds Qy k Wy L Wq K:=fun hj hraw hV A hA σ=>by
 simp only[Bool.and_eq_true,List.all_eq_true,Bool.or_eq_true,beq_iff_eq,bne_iff_ne,List.elem_eq_mem,dT_]at hc;obtain⟨⟨⟨⟨⟨⟨⟨⟨⟨⟨q1,q2⟩,q3⟩,q4⟩,q5⟩,q6⟩,q7⟩,q8⟩,q9⟩,q10⟩,q11⟩:=hc
 induction σ with
 | nil =>
  intro _ _ _ hL;exact absurd (hL i1 q5) sQ
 | cons c σ ih =>
  intro hnd hresp hsz hL hcov φ H ts e1 e2 e3 e4 e5 e6;by_cases Jx:c=i1
  ·subst Jx;exact td_do s1 ho1 hw1 hp1 q1 q3 q5 q7 q9 h1 hj hraw hA hnd hresp hsz hL hcov e1 e2 e3 e4 e5 e6
  by_cases hc2:c=i2
  ·subst hc2;exact td_do s2 ho2 hw2 hp2 q2 q4 q6 q8 q10 h2 hj hraw hA hnd hresp hsz hL hcov e1 e2 e3 e4 e5 e6
  have hnd':=List.nodup_cons.1 hnd;have hno:c∉L:=fun hm=>by
   rcases q11 c hm with(h|h)|h
   ·exact Jx h
   ·exact hc2 h
   ·rw[List.any_eq_true]at h;obtain⟨e,he1,he2⟩:=h;exact hresp.1 e he1 (hL e (by simpa using he2))
  rcases hcov c sQ with h7|⟨p,hp,e⟩
  ·exact absurd h7 hno
  ·refine zbH hp e (hj p hp) hraw (hV p hp) hA hnd hsz hresp e1 e2 e3 e4 e5 e6 fun φ H ts h1 h3 h5 h6 =>
    ih hnd'.2 hresp.2 (fun j hj=>hsz j (by simp[hj])) (fun j hj=>?_) (fun j hj=>hcov j (by simp[hj])) φ H ts h1 e2 h3 e4 h5 h6
   rcases List.mem_cons.1 (hL j hj)with h8|h8
   ·exact absurd (h8 ▸ hj) hno
   ·exact h8
theorem kK{s L':List Nat}{ob:AObj}{envf:Nat->List AV}(hd:yp o.op=ff)(hq:Nk P gm (onl s Wq) K o (fun j=>.ptr j 0) ob)(he:∀ j,zV Wq o.dst (.ptr j 0)=envf j)(hv:∀ p∈Wx,∀ x∈p.V,x∈K)(h:∀ j,j∉keys K->TD Y ds Qy k Wx L' (envf j) ((j,ob)::K)) :
  ExK Y (onl s Wq) K o fun r K'=>(∀ p∈Wx,∀ x∈p.V,x∈K')/\TD Y ds Qy k Wx L' (zV Wq o.dst r) K' :=
 vN hd fun A hv' hn=>⟨_,_,_,hq A hv',.push hv' hn ob,fun p hp x hx=>List.mem_cons_of_mem _ (hv p hp x hx),by dsimp only;rw[he];exact h _ fun hm=>absurd (hv'.lt hm) (Nat.lt_irrefl _)⟩
theorem vM{fo:gO}{ars:Array gO}{at_:Array gT}{g:gF}{fs cp args:List AV}{Kf R:KV}{Post:AV->KV->Prop}(Qw:o.op=.call { callee:=.value fo,args:=ars,argTypes:=at_ })
  (hf:zn gm Wq fo=some (.fn g fs cp)) (hg:yk P g=tt) (Qg:fs++ars.toList.map (zT gm Wq)++cp=args) (hc:zl P T gm g args Kf Post) (hs:Split K Kf R) {Q:AV->KV->Prop} (hq:∀ r K',Post r K'->Q r (K'++R)):ExK Y Wq K o Q:=zb8 Qw (zq hf) hg Qg hc hs hq
end
end Go.Vel
namespace Go.Vel
open Go Go.Conc
open Go.ConcN (upd)
section
variable {P:gP}{gm:Nat->Option Nat}{T:gG->Hp->Prop}{Y:KX P gm T}{ds:List Nat}{k:List Item}{Wq Wk:List AV}{K K':KV}{Qy:Array gB}{i:Nat}{Wp:List Nat}{o:gB}{r:AV}{Wy Wx:List Pd}{V:KV}
theorem zlu{φ:Nat->Loc3}{n i:Nat}{y:gV}(h:RelV φ n (.chan i) y):i<n/\y=.chan (some (φ i).blk):=by cases h;exact⟨‹_›,rfl⟩
theorem zcU{t e:gT}{ti:TypeInfo}{d:ChanDir}(ho:o.op=.makeChan t (.const (.int .i64 0)))(ht:P.underlying t=some (.chan d e))(hi:P.info? e=some ti):Nk P gm Wq V o (fun j=>.chan j) (.raw (.chan 0 #[] ff 0 0 ff)):=fun A _ φ F H a hg hH hE=>by
 unfold execOp;rw[ho];refine wpS_v ?_;unfold Instr.makeChan;refine zf _ _ _ ?_;show wpS P (underlying t >>= _) H _;refine zf _ _ _ (zB ht ?_);dsimp only;refine zf _ _ _ (kO hi ?_);rw[if_neg (by have:IntKind.i64.max=9223372036854775807:=rfl;omega)];refine zf _ _ _ ?_;intro r hr;refine⟨_,yc φ A.length ⟨r,0,0⟩,.inl rfl,yn _ _ _,by simp,hH.push hr Z (Hp.put_same _ _ _),?_⟩;have:=RelV.chan (φ:=yc φ A.length ⟨r,0,0⟩) (n:=(A++[AObj.raw (.chan 0 #[] ff 0 0 ff)]).length) (i:=A.length) sQ;simpa[yc]using this
theorem TD.cM{L:List Nat}(M:List Nat)(hM:(!M.isEmpty&&M.all (fun j=>L.elem j)&&L.all (fun j=>M.elem j||(edgesOf .any Qy j).any fun e=>L.elem e))=tt)
  (h:∀ m∈M,∃(s:List Nat)(o:gB)(Wx:List Pd)(L':List Nat),Qy[m]? =some o/\zM Qy (onl s Wq) o=some tt/\pendOf Qy m Wy=Wx/\(rawOk Qy m s&&dstOk Wx Qy o.dst&&L'.all (fun j=>L.elem j&&j !=m)&&L.all (fun j=>j==m||L'.elem j))=tt /\
   ExK Y (onl s Wq) K o fun r K'=>(∀ p∈Wx,∀ x∈p.V,x∈K')/\TD Y ds Qy k Wx L' (zV Wq o.dst r) K'):TD Y ds Qy k Wy L Wq K:=fun hj hraw hV A hA σ=>by
 simp only[mX,List.all_eq_true,Bool.or_eq_true,List.elem_eq_mem,dT_,mV,List.isEmpty_eq_false_iff]at hM;obtain⟨⟨q1,q2⟩,q3⟩:=hM
 induction σ with
 | nil =>
  intro _ _ _ hL;obtain⟨m,hm⟩:=List.exists_mem_of_ne_nil M q1;exact absurd (hL m (q2 m hm)) sQ
 | cons c σ ih =>
  intro hnd hresp hsz hL hcov φ H ts e1 e2 e3 e4 e5 e6;by_cases hcM:c∈M
  ·obtain⟨s,o,Wx,L',ho,hw,hp,hc,hx⟩:=h c hcM;simp only[mX,List.all_eq_true,Bool.or_eq_true,beq_iff_eq,bne_iff_ne,List.elem_eq_mem,dT_]at hc;obtain⟨⟨⟨p1,p2⟩,p3⟩,p4⟩:=hc;exact td_do s ho hw hp p1 p2 (q2 c hcM) p3 p4 hx hj hraw hA hnd hresp hsz hL hcov e1 e2 e3 e4 e5 e6
  have hnd':=List.nodup_cons.1 hnd;have hno:c∉L:=fun hm=>by
   rcases q3 c hm with h|h
   ·exact hcM h
   ·rw[List.any_eq_true]at h;obtain⟨e,he1,he2⟩:=h;exact hresp.1 e he1 (hL e (by simpa using he2))
  rcases hcov c sQ with h7|⟨p,hp,e⟩
  ·exact absurd h7 hno
  ·refine zbH hp e (hj p hp) hraw (hV p hp) hA hnd hsz hresp e1 e2 e3 e4 e5 e6 fun φ H ts h1 h3 h5 h6 =>
    ih hnd'.2 hresp.2 (fun j hj=>hsz j (by simp[hj])) (fun j hj=>?_) (fun j hj=>hcov j (by simp[hj])) φ H ts h1 e2 h3 e4 h5 h6
   rcases lI.1 (hL j hj)with h8|h8
   ·exact absurd (h8 ▸ hj) hno
   ·exact h8
theorem zjd{s L':List Nat}{j:Nat}{ob ob':AObj}(hd:yp o.op=ff)(hq:∀ A,zU K A->OpOk P gm (onl s Wq) A o r (A.set j ob'))(hu:Upd K j ob j ob' K')(he:zV Wq o.dst r=Wk)(hv:∀ p∈Wx,∀ x∈p.V,x∈K')(h:TD Y ds Qy k Wx L' Wk K') :
  ExK Y (onl s Wq) K o fun r K'=>(∀ p∈Wx,∀ x∈p.V,x∈K')/\TD Y ds Qy k Wx L' (zV Wq o.dst r) K' :=
 vN hd fun A hv' hn=>⟨r,_,K',hq A hv',.set hv' hn hu,hv,by rw[he];exact h⟩
theorem zfg{s L':List Nat}{ob:AObj}{envf:Nat->List AV}(hd:yp o.op=ff)(hq:Nk P gm (onl s Wq) K o (fun j=>.chan j) ob)(he:∀ j,zV Wq o.dst (.chan j)=envf j)(hv:∀ p∈Wx,∀ x∈p.V,x∈K)(h:∀ j,j∉keys K->TD Y ds Qy k Wx L' (envf j) ((j,ob)::K)) :
  ExK Y (onl s Wq) K o fun r K'=>(∀ p∈Wx,∀ x∈p.V,x∈K')/\TD Y ds Qy k Wx L' (zV Wq o.dst r) K' :=
 vN hd fun A hv' hn=>⟨_,_,_,hq A hv',.push hv' hn ob,fun p hp x hx=>lL _ (hv p hp x hx),by dsimp only;rw[he];exact h _ fun hm=>absurd (hv'.lt hm) (Nat.lt_irrefl _)⟩
end
section
variable {P:gP}
def bot(P:gP):gQ:={ (default:gQ)with fn:=P.funcs.size,defers:=[],mode:=.panicking [goexitEntry] }
theorem birth{main:Bool}{g:gF}(hg:yk P g=tt)(xs ys:Array gV)(w:gW):stepG P main (born P { target:=.fn (.func g) ys,args:=xs }) w=.go (G (Frame.enter P g (xs++ys) .deferred) [bot P]) w #[]:=by
 unfold yk at hg;split at hg
 ·rename_i fn e;simp only[mX,mV]at hg;have hb:fn.body.isNone=ff:=by
   cases e':fn.body with
   | none=>rw[e']at hg;simp at hg
   | some _=>rfl
  have hr:(callFunc g (xs++ys)).runT P w #[]=(.ok (.enter g (xs++ys)) w,#[]):=by
   show(match P.funcs[g]? with|none=>_|some fn=>_:Sem Next).runT P w #[]=_;rw[e];simp only[hg.1,hb,mU,if_false];rfl
  obtain⟨e1,e2⟩:=km hr;simp[born,stepG,unwind,callDeferred,invoke,Sem.runT_eq,e1,e2,seen,GStep.after,G,bot]
 ·cases hg
theorem uV{g:gF}{fn:Func}{ts:Array gV}{k:List Item}(hf:P.funcs[g]? =some fn)(hr:fn.results=#[]):QuitsD P 3 0 (G { fr .deferred g none ts [] k with mode:=.returning } [bot P]):=by
 right;refine⟨rfl,G (bot P) [],#[],fun e he=>by simp at he,fun w=>?_,?_⟩
 ·have:(results fn ts).runT P w #[]=(.ok (.tuple #[]) w,#[]):=by
   unfold results;rw[hr,Array.mapM_eq_mapM_toList];rfl
  obtain⟨e1,e2⟩:=km this;simp[G,stepG,unwind,fr,hf,Sem.runT_eq,e1,e2,GStep.after,seen,doReturn,bot,goexitEntry]
 ·right;refine⟨rfl,{ frame:=bot P,callers:=[],status:=.finished,dying:=none },#[],fun e he=>by simp at he,fun w=>?_,?_⟩
  ·have:(default:gQ).todo=[]:=rfl;simp[G,stepG,unwind,bot,Frame.catches,goexitEntry,this]
  ·left;exact⟨rfl,rfl⟩
theorem uM{n:Nat}{g g':gG}(hs:g.status=.running)(h:∀ w,stepG P ff g w=.go g' w #[])(hq:QuitsD P n 0 g'):QuitsD P (n+1) 0 g:=.inr ⟨hs,g',#[],fun e he=>by simp at he,h,hq⟩
theorem zka{g:gF}{fn:Func}{Qy:Array gB}{ts:Array gV}{k:List Item}(hf:P.funcs[g]? =some fn)(hr:fn.results=#[]):QuitsD P 5 0 (G (fr .deferred g none ts [] (.inRegion Qy []::.code .ret::k)) [bot P]) :=
 uM rfl (fun _=>wU) (uM rfl (fun _=>vq) (uV hf hr))
theorem zj9{g:gF}{fn:Func}{Qy:Array gB}{ts:Array gV}(hf:P.funcs[g]? =some fn)(hr:fn.results=#[]):QuitsD P 5 0 (G (fr .deferred g none ts [] [.inRegion Qy []]) [bot P]) :=
 uM rfl (fun _=>wU) (uM rfl (fun _=>wQ) (uV hf hr))
end
end Go.Vel
end
