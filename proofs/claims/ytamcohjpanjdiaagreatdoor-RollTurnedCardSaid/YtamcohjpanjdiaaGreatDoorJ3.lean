/- Texts for the statements of chapter 8: what all of them need, part 4. It holds of every program, tape and world that the statements name, as each theorem says. -/
import Derived.Conc.LeavingOf
import Derived.Conc.Own4
import Derived.Conc.MuStops
import Derived.Conc.ClockLaws
import Derived.Conc.MarkLaws
import Derived.Conc.AtomicLaws2
import Derived.Conc.WgGenAddNeg
import Derived.Test.YtamcohjpanjdiaaGreatDoorJ1
import Derived.Test.YtamcohjpanjdiaaGreatDoorJ2
section
set_option linter.all false
set_option maxRecDepth 20000
set_option maxHeartbeats 60000000
open List renaming cons_append -> lB, mem_cons_of_mem -> lL, getElem?_set_ne -> lP, mem_append -> lT, mem_append_left -> lV, mem_map -> lY, map_congr_left -> mA, replicate -> mB
open Array renaming getElem?_eq_getElem -> mD, getElem?_setIfInBounds_ne -> mE, getElem?_eq_some_iff -> mG, mem_of_getElem? -> mH, getElem?_toList -> mI, getElem?_map -> mJ, empty_append -> mK
open Nat renaming le_refl -> mL, lt_of_lt_of_le -> mM, zero_add -> mO, eq_zero_or_pos -> mP, lt_or_ge -> mR, le_trans -> mT
open Option renaming map_eq_some_iff -> mY
namespace Go.Vel.Mx
open Go.Vel (Aut AOk Kd)
section
variable {n:Nat} {lkr:Nat->Bool} {j:Nat} {f:Nat->TT} {s:S4}
theorem zh6 {T T':Th} {s x:Sh} (hs:s.mu<256) (h:Mv T s T' x) (hT:T.old<256):T'.old<256:=by
 cases h <;> (try unfold hd) <;> (try unfold hdU) <;> (try split) <;> simp <;> first | omega | assumption
theorem zhg {T T':Th} {s x:Sh} (h:Mv T s T' x) (hc:cnt T=1) (h1:T.pc≠.d1) (h2:kdW T=.book):pastW T'=pastW T/\aftW T'=aftW T/\kdW T'≠.relL/\cnt T'=1/\d23 T'=d23 T/\d4n T'=d4n T:=by
 cases h
 case c2r p hp h h1 h2=>rcases hp with rfl | rfl <;> simp_all [pastW,aftW,kdW,cnt,d23,d4n]
 case d1 p hp h=>exact absurd h h1
 all_goals ((try unfold hd) <;> (try unfold hdU) <;> (try split) <;> simp_all [pastW,aftW,kdW,cnt,d23,d4n])
theorem fm_d {g:Nat->Th} {i:Nat} {x:Sh} {T':Th} (hi:i<j) (k:Nat) (h:pn T'+k<pn (g i)) (hs:stl x.mu T'=0):Fm j (upd g i T') x+k<Fm j g x:=by
 obtain ⟨mu,ms⟩:=x;exact zdI hi k (by simp only [] at hs; rw [hs]; omega)
theorem lm_v (M:Mn) (v v':Nat):lm M v'<=lm M v+150:=by
 unfold lm;split <;> first | exact Nat.le_add_right _ _ | (split <;> split <;> omega)
theorem gw_a {C D E C' D' E' wt ws:Nat} (q:Gw C D E 1 wt ws) (hw:wt=1) (a:C'+1=C) (b:D'=D+1) (c:E'=E):Gw C' D' E' 0 wt ws:=by
 unfold Gw;rcases q with ⟨h1,h2,h3,h4,h5,h6⟩ | ⟨h1,h2,h3,h4,h5,h6⟩ | ⟨h1,h2,h3,h4,h5,h6⟩ | ⟨h1,h2,h3,h4,h5,h6⟩ <;> first | (exfalso; omega) | refine (fun x=>.inr (.inl x)) ⟨?_,?_,?_,?_,?_,?_⟩ <;> omega
theorem gq_a {p:MPc} {C D E C' D' E' wt ws:Nat} (q:Gq p C D E 1 wt ws) (hw:wt=1) (a:C'+1=C) (b:D'=D+1) (c:E'=E):Gq p C' D' E' 0 wt ws:=by
 cases p
 case wr=>exact gw_a q hw a b c
 case w3=>exact gw_a q hw a b c
 all_goals (simp only [Gq] at q ⊢; omega)
theorem gw_b {C D E C' D' E' v wt ws:Nat} (q:Gw C D E (v+1) wt ws) (hw:¬ (v=0/\wt=1)) (a:C'+1=C) (b:D'=D) (c:E'=E):Gw C' D' E' v wt ws:=by
 unfold Gw;rcases q with ⟨h1,h2,h3,h4,h5,h6⟩ | ⟨h1,h2,h3,h4,h5,h6⟩ | ⟨h1,h2,h3,h4,h5,h6⟩ | ⟨h1,h2,h3,h4,h5,h6⟩ <;> first | (exfalso; omega) | refine (fun x=>.inl x) ⟨?_,?_,?_,?_,?_,?_⟩ <;> omega
theorem gq_b {p:MPc} {C D E C' D' E' v wt ws:Nat} (q:Gq p C D E (v+1) wt ws) (hw:¬ (v=0/\wt=1)) (a:C'+1=C) (b:D'=D) (c:E'=E):Gq p C' D' E' v wt ws:=by
 cases p
 case wr=>exact gw_b q hw a b c
 case w3=>exact gw_b q hw a b c
 all_goals (simp only [Gq] at q ⊢; omega)
theorem gw_c {C D E C' D' E' v wt ws:Nat} (q:Gw C D E v wt ws) (hD:1<=D) (a:C'=C) (b:D'+1=D) (c:E'=E+1):Gw C' D' E' v 0 ws:=by
 unfold Gw;rcases q with ⟨h1,h2,h3,h4,h5,h6⟩ | ⟨h1,h2,h3,h4,h5,h6⟩ | ⟨h1,h2,h3,h4,h5,h6⟩ | ⟨h1,h2,h3,h4,h5,h6⟩ <;> first | (exfalso; omega) | refine (fun x=>.inr (.inr (.inl x))) ⟨?_,?_,?_,?_,?_,?_⟩ <;> omega
theorem gq_c {p:MPc} {C D E C' D' E' v wt ws:Nat} (q:Gq p C D E v wt ws) (hD:1<=D) (a:C'=C) (b:D'+1=D) (c:E'=E+1):Gq p C' D' E' v 0 ws:=by
 cases p
 case wr=>exact gw_c q hD a b c
 case w3=>exact gw_c q hD a b c
 all_goals (simp only [Gq] at q ⊢; omega)
theorem gw_e {C D E C' D' E' v wt ws:Nat} (q:Gw C D E v wt ws) (hE:1<=E) (a:C'=C) (b:D'=D) (c:E'+1=E):Gw C' D' E' v wt (ws+1):=by
 unfold Gw;rcases q with ⟨h1,h2,h3,h4,h5,h6⟩ | ⟨h1,h2,h3,h4,h5,h6⟩ | ⟨h1,h2,h3,h4,h5,h6⟩ | ⟨h1,h2,h3,h4,h5,h6⟩ <;> first | (exfalso; omega) | refine (fun x=>.inr (.inr (.inr x))) ⟨?_,?_,?_,?_,?_,?_⟩ <;> omega
theorem gq_e {p:MPc} {C D E C' D' E' v wt ws:Nat} (q:Gq p C D E v wt ws) (hE:1<=E) (a:C'=C) (b:D'=D) (c:E'+1=E):Gq p C' D' E' v wt (ws+1):=by
 cases p
 case wr=>exact gw_e q hE a b c
 case w3=>exact gw_e q hE a b c
 all_goals (simp only [Gq] at q ⊢; omega)
theorem ai_mv (h:AI n lkr j f s) {q:Nat} (hq:q<=j) (hk:kd (f q)=.book) {T':TT} {s':S4} (hm:Mv4 n (f q) s T' s') :
  AI n lkr j (Go.ConcN.upd f q T') s'/\Φ4 n j (Go.ConcN.upd f q T') s'<Φ4 n j f s/\(∀ r,r<=j->r≠q->bl4 (f r) s->bl4 (f r) s'\/(auto n lkr).wk (f q))/\kd T'≠.relL/\(auto n lkr).past T'=(auto n lkr).past (f q)/\(auto n lkr).aft T'=(auto n lkr).aft (f q):=by
 have hn:=h.num;cases q with
 | zero =>
  have hv:=h.v;rw [h.main] at hm hk;have key:∀ {M':Mn} {v wt ws:Nat},T'=.m M'->s'={ s with v,wt,ws }->M'.j=(mn (f 0)).j->early M'.pc=early (mn (f 0)).pc->M'.old<64->(M'.pc=.w2->1<=M'.old)->(∀ C D E,C<=j->Gq (mn (f 0)).pc C D E s.v s.wt s.ws->Gq M'.pc C D E v wt ws)->lm M' v<lm (mn (f 0)) s.v->kdM M'≠.relL ->
    AI n lkr j (Go.ConcN.upd f 0 T') s'/\Φ4 n j (Go.ConcN.upd f 0 T') s'<Φ4 n j f s/\(∀ r,r<=j->r≠0->bl4 (f r) s->bl4 (f r) s'\/(auto n lkr).wk (f 0))/\kd T'≠.relL/\(auto n lkr).past T'=(auto n lkr).past (f 0)/\(auto n lkr).aft T'=(auto n lkr).aft (f 0):=fun {M' v wt ws} e1 e2 h1 h2 h3 h3' h4 h5 h6=>by
   subst e1 e2;refine ⟨h.stepM h1 h2 h3 h3' h4,?_,fun r hr hr0 hb=>?_,h6,by rw [h.main]; rfl,by rw [h.main]; rfl⟩
   ·simp only [Φ4,wH,upd0,mn,S4.sh];simp only [mn] at h5;omega
   ·left;obtain ⟨i,rfl⟩:∃ i,r=i+1:=⟨r - 1,oQ⟩;rw [h.work i oQ] at hb ⊢;exact hb
  have h64:=hn.2.2.2.2.2.2.1;have h1:=hn.2.2.2.2.2.2.2;generalize eM:mn (f 0)=M at *
  cases hm
  case a0 h=>exact key rfl rfl rfl (by rw [h]; rfl) h64 sQ (fun C D E _ q=>by rw [h] at q; simp only [Gq] at q ⊢; omega) (by simp [lm,h]) (by simp [kdM])
  case a1 h =>
   by_cases h0:s.v=0
   ·simp only [h0,if_true] at *; exact key rfl rfl rfl (by rw [h]; rfl) h64 sQ (fun C D E _ q=>by rw [h] at q; simp only [Gq] at q ⊢; omega) (by simp [lm,h]) (by simp [kdM])
   ·simp only [h0,if_false] at *; exact key rfl rfl rfl (by rw [h]; rfl) h64 sQ (fun C D E _ q=>by rw [h] at q; simp only [Gq] at q ⊢; omega) (by simp [lm,h]) (by simp [kdM])
  case ar h=>exact key rfl rfl rfl (by rw [h]; rfl) h64 sQ (fun C D E _ q=>by rw [h] at q; simp only [Gq] at q ⊢; omega) (by simp [lm,h]) (by simp [kdM])
  case a2 h=>exact key rfl rfl rfl (by rw [h]; rfl) h64 sQ (fun C D E _ q=>by rw [h] at q; simp only [Gq] at q ⊢; omega) (by simp [lm,h]) (by simp [kdM])
  case w0 h=>exact key rfl rfl rfl (by rw [h]; rfl) h64 sQ (fun C D E _ q=>by rw [h] at q; simp only [Gq] at q ⊢; omega) (by simp [lm,h]) (by simp [kdM])
  case w1 h =>
   by_cases h0:s.v=0
   ·exact key (M':={ M with pc:=.w5,old:=s.v }) (by rw [if_pos h0]) rfl rfl (by rw [h]; rfl) hv.1 sQ (fun C D E _ q=>by rw [h] at q; simp only [Gq] at q ⊢; omega) (by simp [lm,h]) (by simp [kdM])
   ·exact key (M':={ M with pc:=.w2,old:=s.v }) (by rw [if_neg h0]) rfl rfl (by rw [h]; rfl) hv.1 (fun _=>Nat.pos_of_ne_zero h0) (fun C D E _ q=>by rw [h] at q; simp only [Gq] at q ⊢; omega) (by simp [lm,h]) (by simp [kdM])
  case w2h h e=>exact key rfl rfl rfl (by rw [h]; rfl) h64 sQ (fun C D E _ q=>by rw [h] at q; simp only [Gq,Gw] at q ⊢; have:=h1 h; exact .inl ⟨by omega,oQ,oQ,oQ,trivial,oQ⟩) (by simp only [lm,h]; exact mM (by decide:6<7) (Nat.le_add_right _ _)) (by simp [kdM])
  case w2m h e=>exact key rfl rfl rfl (by rw [h]; rfl) h64 sQ (fun C D E _ q=>by rw [h] at q; simp only [Gq] at q ⊢; omega) (by simp only [lm,h,if_neg (Ne.symm e)]; omega) (by simp [kdM])
  case wr h=>exact key rfl rfl rfl (by rw [h]; rfl) h64 sQ (fun C D E _ q=>by rw [h] at q; simp only [Gq] at q ⊢; omega) (by simp [lm,h]) (by simp [kdM])
  case w3 h e=>exact key rfl rfl rfl (by rw [h]; rfl) h64 sQ (fun C D E _ q=>by rw [h] at q; simp only [Gq,Gw] at q ⊢; omega) (by simp [lm,h]) (by simp [kdM])
  case w4 h=>exact key rfl rfl rfl (by rw [h]; rfl) h64 sQ (fun C D E _ q=>by rw [h] at q; simp only [Gq] at q ⊢; omega) (by simp [lm,h]) (by simp [kdM])
  case w5 h=>exact key rfl rfl rfl (by rw [h]; rfl) h64 sQ (fun C D E _ q=>by rw [h] at q; simp only [Gq] at q ⊢; omega) (by simp [lm,h]) (by simp [kdM])
 | succ i =>
  have hi:i<j:=by omega
  rw [h.work i hi] at hm hk ⊢;have key:∀ {Tn:Th} {x:Sh} {v wt ws:Nat},T'=.w Tn->s'={ mu:=x.mu,ms:=x.ms,v,wt,ws }->Mv (gw f i) s.sh Tn x->Tn.old<256->pastW Tn=pastW (gw f i)->aftW Tn=aftW (gw f i)->kdW Tn≠.relL ->
    (∀ C D E C' D' E',Gq (mn (f 0)).pc C D E s.v s.wt s.ws->C'+cnt (gw f i)=C+cnt Tn->D'+d23 (gw f i)=D+d23 Tn->E'+d4n (gw f i)=E+d4n Tn->cnt (gw f i)<=C->d23 (gw f i)<=D->d4n (gw f i)<=E->Gq (mn (f 0)).pc C' D' E' v wt ws) ->
    Fm j (upd (gw f) i Tn) x+lm (mn (f 0)) v<Fm j (gw f) s.sh+lm (mn (f 0)) s.v->((s.ms=0->x.ms=0)/\(s.ws=0->ws=0)\/(gw f i).pc=.us\/(gw f i).pc=.d4) ->
    AI n lkr j (Go.ConcN.upd f (i+1) T') s'/\Φ4 n j (Go.ConcN.upd f (i+1) T') s'<Φ4 n j f s/\(∀ r,r<=j->r≠i+1->bl4 (f r) s->bl4 (f r) s'\/(auto n lkr).wk (.w (gw f i)))/\kd T'≠.relL/\(auto n lkr).past T'=(auto n lkr).past (.w (gw f i))/\(auto n lkr).aft T'=(auto n lkr).aft (.w (gw f i)):=fun {Tn x v wt ws} e1 e2 h1 h2 h3 h4 h5 h6 h7 h8=>by
   obtain ⟨xm,xs⟩:=x;subst e1 e2;refine ⟨h.stepW hi h1 h2 (.inl h3) h6,?_,fun r hr hr0 hb=>?_,h5,h3,h4⟩
   ·simp only [Φ4,wj,updS];show Fm j (upd (gw f) i Tn) ⟨xm,xs⟩+lm (mn (f 0)) v+40000*(n - j)<_;omega
   ·rcases h8 with ⟨a,b⟩ | h8
    ·left;cases e:f r with
     | w T=>rw [e] at hb; exact ⟨hb.1,a hb.2⟩
     | m M=>rw [e] at hb; exact ⟨hb.1,b hb.2⟩
    ·exact .inr h8
  have hold:=h.bnd i hi;generalize eT:gw f i=T at *
  cases hm with
  | mx hmv hc h1 =>
   rename_i Tn x;obtain ⟨p1,p2,p3,p4,p5,p6⟩:=zhg hmv hc h1 hk;refine key (x:=x) Z Z hmv (zh6 h.mu hmv hold) p1 p2 p3 (fun C D E C' D' E' q a b c _ _ _=>?_) (by have:=zdH oQ hi h.inv (by rw [eT]; exact hmv); omega) ?_
   ·obtain rfl:C'=C:=by omega
    obtain rfl:D'=D:=by omega
    obtain rfl:E'=E:=by omega
    exact q
   ·cases hmv <;> first | exact .inl ⟨id,id⟩ | exact .inr (.inl (by assumption)) | exact .inl ⟨fun e=>by simp only [S4.sh] at e ⊢; omega,id⟩
  | d1a h1 hv hw =>
   refine key (x:=s.sh) Z Z (.d1 .d2 (.inl Z) h1) sQ (by simp [pastW,h1]) (by simp [aftW,h1]) (by simp [kdW]) (fun C D E C' D' E' q a b c a' b' c'=>?_) ?_ (.inl ⟨id,id⟩)
   ·simp only [cnt,d23,d4n,h1] at a b c a' b' c';rw [hv] at q; exact gq_a q hw oQ oQ oQ
   ·have:=fm_d (x:=s.sh) (g:=gw f) (T':={ pc:=.d2 }) hi 200 (by rw [eT]; simp [pn,wn,rln,lcn,cnt,h1]) rfl;have:=lm_v (mn (f 0)) s.v 0;omega
  | @d1b _ _ v h1 hv hw =>
   refine key (x:=s.sh) Z Z (.d1 .quit (.inr Z) h1) sQ (by simp [pastW,h1]) (by simp [aftW,h1]) (by simp [kdW]) (fun C D E C' D' E' q a b c a' b' c'=>?_) ?_ (.inl ⟨id,id⟩)
   ·simp only [cnt,d23,d4n,h1] at a b c a' b' c';rw [hv] at q; exact gq_b q hw oQ oQ oQ
   ·have:=fm_d (x:=s.sh) (g:=gw f) (T':={ pc:=.quit }) hi 200 (by rw [eT]; simp [pn,wn,rln,lcn,cnt,h1]) rfl;have:=lm_v (mn (f 0)) s.v v;omega
  | d2 h1 =>
   refine key (x:=s.sh) Z Z (.d2 h1) sQ (by simp [pastW,h1]) (by simp [aftW,h1]) (by simp [kdW]) (fun C D E C' D' E' q a b c a' b' c'=>?_) ?_ (.inl ⟨id,id⟩)
   ·simp only [cnt,d23,d4n,h1] at a b c a' b' c';obtain rfl:C'=C:=by omega
    obtain rfl:D'=D:=by omega
    obtain rfl:E'=E:=by omega
    exact q
   ·have:=fm_d (x:=s.sh) (g:=gw f) (T':={ pc:=.d3 }) hi 0 (by rw [eT]; simp [pn,wn,rln,lcn,cnt,h1]) rfl;omega
  | d3 h1 =>
   refine key (x:=s.sh) Z Z (.d3 h1) sQ (by simp [pastW,h1]) (by simp [aftW,h1]) (by simp [kdW]) (fun C D E C' D' E' q a b c a' b' c'=>?_) ?_ (.inl ⟨id,id⟩)
   ·simp only [cnt,d23,d4n,h1] at a b c a' b' c';exact gq_c q oQ oQ oQ oQ
   ·have:=fm_d (x:=s.sh) (g:=gw f) (T':={ pc:=.d4 }) hi 0 (by rw [eT]; simp [pn,wn,rln,lcn,cnt,h1]) rfl;omega
  | d4 h1 =>
   refine key (x:=s.sh) Z Z (.d4 h1) sQ (by simp [pastW,h1]) (by simp [aftW,h1]) (by simp [kdW]) (fun C D E C' D' E' q a b c a' b' c'=>?_) ?_ (.inr (.inr h1))
   ·simp only [cnt,d23,d4n,h1] at a b c a' b' c';exact gq_e q oQ oQ oQ oQ
   ·have:=fm_d (x:=s.sh) (g:=gw f) (T':={ pc:=.quit }) hi 0 (by rw [eT]; simp [pn,wn,rln,lcn,cnt,h1]) rfl;omega
end
end Go.Vel.Mx
namespace Go.Vel.Mx
open Go.Vel (Aut AOk Kd)
section
variable {n:Nat} {lkr:Nat->Bool} {j:Nat} {f:Nat->TT} {s:S4}
theorem kd_of (h:AI n lkr j f s) {q:Nat} (hq:q<=j) {k:Kd} (hk:kd (f q)=k) (h1:k=.acqL\/k=.relL\/k=.relW):∃ i,q=i+1/\i<j/\f q=.w (gw f i)/\kdW (gw f i)=k:=by
 cases q with
 | zero =>
  rw [h.main] at hk;simp only [kd,kdM] at hk;subst hk;cases e:(mn (f 0)).pc <;> simp [e] at h1
 | succ i =>
  have hi:i<j:=by omega
  rw [h.work i hi] at hk;exact ⟨i,rfl,hi,h.work i hi,hk⟩
theorem vo {T:Th}:(kdW T=.acqL->T.pc=.la)/\(kdW T=.relL->T.pc=.ur)/\(kdW T=.relW->T.pc=.wr)/\(kdW T=.quit->T.pc=.quit):=by
 unfold kdW;cases T.pc <;> simp
theorem ai_nx (h:AI n lkr j f s) {q:Nat} (hq:q<=j) (hk:kd (f q)=.acqL\/kd (f q)=.relL\/kd (f q)=.relW) :
  AI n lkr j (Go.ConcN.upd f q (nx4 n (f q))) s/\Φ4 n j (Go.ConcN.upd f q (nx4 n (f q))) s<Φ4 n j f s/\1<=q/\dl (f q)=0/\dl (nx4 n (f q))=0/\kd (nx4 n (f q))≠.quit/\(auto n lkr).aft (f q)=false:=by
 obtain ⟨i,rfl,hi,hf,hkd⟩:=kd_of h hq rfl hk;rw [hf];have hn:=h.num;have key:∀ {Tn:Th},nx4 n (.w (gw f i))=.w Tn->Mv (gw f i) s.sh Tn s.sh->Tn.old<256->(pastW Tn=pastW (gw f i)\/pastW Tn=true)->cnt Tn=cnt (gw f i)->d23 Tn=d23 (gw f i)->d4n Tn=d4n (gw f i)->dlW (gw f i)=0->dlW Tn=0->kdW Tn≠.quit->aftW (gw f i)=false ->
   AI n lkr j (Go.ConcN.upd f (i+1) (nx4 n (.w (gw f i)))) s/\Φ4 n j (Go.ConcN.upd f (i+1) (nx4 n (.w (gw f i)))) s<Φ4 n j f s/\1<=i+1/\dl (.w (gw f i))=0/\dl (nx4 n (.w (gw f i)))=0/\kd (nx4 n (.w (gw f i)))≠.quit/\(auto n lkr).aft (.w (gw f i))=false:=fun {Tn} e h1 h2 h3 h4 h5 h6 h7 h8 h9 h10=>by
  rw [e];refine ⟨h.stepW (x:=s.sh) hi h1 h2 h3 (fun C D E C' D' E' q a b c _ _ _=>?_),?_,oQ,h7,h8,h9,h10⟩
  ·obtain rfl:C'=C:=by omega
   obtain rfl:D'=D:=by omega
   obtain rfl:E'=E:=by omega
   exact q
  ·simp only [Φ4,wj,updS];have:=zdH oQ hi h.inv h1;omega
 have pcs:=@vo (gw f i);rcases hk with hk | hk | hk <;> (rw [hf] at hk; simp only [kd] at hk)
 ·have e:=pcs.1 hk;exact key (Tn:={ pc:=.ur }) (by simp [nx4,e]) (.la e) sQ (.inl (by simp [pastW,e])) (by simp [cnt,e]) (by simp [d23,e]) (by simp [d4n,e]) (by simp [dlW,e]) rfl (by simp [kdW]) (by simp [aftW,e])
 ·have e:=pcs.2.1 hk;exact key (Tn:={ pc:=.ud }) (by simp [nx4,e]) (.ur e) sQ (.inr rfl) (by simp [cnt,e]) (by simp [d23,e]) (by simp [d4n,e]) (by simp [dlW,e]) rfl (by simp [kdW]) (by simp [aftW,e])
 ·have e:=pcs.2.2.1 hk;exact key (Tn:={ pc:=.wk }) (by simp [nx4,e]) (.wr e) sQ (.inl (by simp [pastW,e])) (by simp [cnt,e]) (by simp [d23,e]) (by simp [d4n,e]) (by simp [dlW,e]) rfl (by simp [kdW]) (by simp [aftW,e])
theorem alone (h:AI n lkr j f s) {i r:Nat} (hi:i<j) (h1:hl (gw f i)=1) (hr:r<=j) (hne:r≠i+1):kd (f r)≠.relL:=fun hk=>by
 obtain ⟨k,rfl,hk1,hf,hkd⟩:=kd_of h hr hk (.inr (.inl rfl));have e:=vo.2.1 hkd;have:=S_two (p:=hl) (f:=gw f) hi hk1 oQ;have h2:hl (gw f k)=1:=by simp [hl,e]
 have q:=h.inv.nm;simp only [Nm] at q;omega
theorem zgL (h:AI n lkr j f s) (hk:kd (f 0)=.fork):(mn (f 0)).j=j/\AI n lkr (j+1) (Go.ConcN.upd (Go.ConcN.upd f 0 (nx4 n (f 0))) (j+1) (.w { pc:=if lkr j then .ld else .wr })) s /\
  Φ4 n (j+1) (Go.ConcN.upd (Go.ConcN.upd f 0 (nx4 n (f 0))) (j+1) (.w { pc:=if lkr j then .ld else .wr })) s<Φ4 n j f s:=by
 obtain ⟨n1,n2,n3,n4,n5,n6,n7,n8⟩:=h.num;have hgo:(mn (f 0)).pc=.go:=by
  rw [h.main] at hk;simp only [kd,kdM] at hk;cases e:(mn (f 0)).pc <;> simp [e] at hk;rfl
 have hjn:j<n:=n5 (by rw [hgo]; rfl);have e0:Go.ConcN.upd (Go.ConcN.upd f 0 (nx4 n (f 0))) (j+1) (.w { pc:=if lkr j then .ld else .wr }) 0=.m { pc:=if j+1<n then .a0 else .w0,j:=j+1 }:=by
  rw [updS,upd0,h.main];simp only [nx4,n1]
 have eg:gw (Go.ConcN.upd (Go.ConcN.upd f 0 (nx4 n (f 0))) (j+1) (.w { pc:=if lkr j then .ld else .wr }))=upd (gw f) j { pc:=if lkr j then .ld else .wr }:=by rw [wj,wH]
 have ec:∀ i,i<j->gw f i=upd (gw f) j { pc:=if lkr j then .ld else .wr } i:=fun i hi=>by unfold upd; rw [if_neg oQ]
 have ej:upd (gw f) j { pc:=if lkr j then .ld else .wr } j={ pc:=if lkr j then .ld else .wr }:=by unfold upd; rw [if_pos rfl]
 have hb:∀ p:Th->Nat,S p (upd (gw f) j { pc:=if lkr j then .ld else .wr }) (j+1)=S p (gw f) j+p { pc:=if lkr j then .ld else .wr }:=fun p=>by
  show S p _ j+p _=_;rw [ej,<- zbb ec]
 have hpc:∀ (X:Pc->Prop),X .ld->X .wr->X (if lkr j then .ld else .wr):=fun X a b=>by split <;> assumption
 refine ⟨n1,⟨by rw [e0]; rfl,fun i hi=>?_,?_,?_,fun i hi=>?_,fun i hi hp=>?_,?_⟩,?_⟩
 ·rw [eg];rcases mR i j with hlt | hge
  ·rw [<- ec i hlt];have:Go.ConcN.upd (Go.ConcN.upd f 0 (nx4 n (f 0))) (j+1) (TT.w { pc:=if lkr j then .ld else .wr }) (i+1)=f (i+1):=by
    rw [Go.ConcN.upd_ne _ _ oQ,Go.ConcN.upd_ne _ _ oQ]
   rw [this];exact h.work i hlt
  ·obtain rfl:i=j:=by omega
   rw [ej,Go.ConcN.upd_same]
 ·rw [e0];refine ⟨rfl,oQ,n3,n4,fun e=>?_,fun e=>?_,by simp [mn],fun e=>?_⟩
  ·simp only [mn] at e;split at e
   ·assumption
   ·cases e
  ·simp only [mn] at e;split at e
   ·cases e
   ·omega
  ·simp only [mn] at e;split at e <;> cases e
 ·rw [eg];refine (h.inv.congr ec).grow ?_;rw [ej];exact hpc (fun p=>p=.ld\/p=.wr) (.inl rfl) (.inr rfl)
 ·rw [eg];rcases mR i j with hlt | hge
  ·rw [<- ec i hlt]; exact h.bnd i hlt
  ·obtain rfl:i=j:=by omega
   rw [ej]; simp
 ·rw [eg] at hp;rcases mR i j with hlt | hge
  ·rw [<- ec i hlt] at hp; exact h.lck i hlt hp
  ·obtain rfl:i=j:=by omega
   rw [ej] at hp;cases e:lkr i with
   | true=>rfl
   | false=>simp [pastW,e] at hp
 ·rw [eg,e0,hb,hb,hb];have g:=h.grp;rw [hgo] at g;simp only [Gq] at g;have c1:cnt { pc:=if lkr j then .ld else .wr }=1:=hpc (fun p=>cnt { pc:=p }=1) rfl rfl;have c2:d23 { pc:=if lkr j then .ld else .wr }=0:=hpc (fun p=>d23 { pc:=p }=0) rfl rfl;have c3:d4n { pc:=if lkr j then .ld else .wr }=0:=hpc (fun p=>d4n { pc:=p }=0) rfl rfl;rw [c1,c2,c3];simp only [mn];split <;> simp only [Gq] <;> omega
 ·simp only [Φ4,Fm,eg,e0,hb];have c1:pn { pc:=if lkr j then .ld else .wr }<=31600:=hpc (fun p=>pn { pc:=p }<=31600) dQ dQ;have c2:stl s.sh.mu { pc:=if lkr j then .ld else .wr }=0:=hpc (fun p=>stl s.sh.mu { pc:=p }=0) rfl rfl;have c3:lm (mn (.m { pc:=if j+1<n then .a0 else .w0,j:=j+1 })) s.v<=10:=by simp only [mn]; split <;> simp [lm]
  rw [c2];omega
theorem zgM (h:AI n lkr j f s):∃ q,q<=j/\kd (f q)≠.quit/\¬ bl4 (f q) s:=by
 have give:∀ i,i<j->(gw f i).pc≠.quit->¬ ((gw f i).pc=.s1/\s.ms=0)->∃ q,q<=j/\kd (f q)≠.quit/\¬ bl4 (f q) s:=fun i hi h1 h2=>by
  refine ⟨i+1,oQ,?_,?_⟩
  ·rw [h.work i hi]; exact fun e=>h1 (vo.2.2.2 e)
  ·rw [h.work i hi]; exact h2
 by_cases h0:(mn (f 0)).pc=.w3/\s.ws=0;rotate_left
 ·refine ⟨0,oQ,?_,?_⟩
  ·rw [h.main];simp only [kd,kdM];cases (mn (f 0)).pc <;> simp
  ·rw [h.main]; exact h0
 obtain ⟨h1,h2⟩:=h0;have g:=h.grp;rw [h1] at g;have pos:∀ p:Th->Nat,(∀ T,1<=p T->T.pc≠.quit/\T.pc≠.s1)->1<=S p (gw f) j->∃ q,q<=j/\kd (f q)≠.quit/\¬ bl4 (f q) s:=fun p hp hs=>by
  obtain ⟨i,hi,h3⟩:=S_pos hs;exact give i hi (hp _ h3).1 fun e=>(hp _ h3).2 e.1
 simp only [Gq,Gw,h2] at g;by_cases hC:1<=S cnt (gw f) j;rotate_left
 ·by_cases hD:1<=S d23 (gw f) j
  ·exact pos d23 (fun T hT=>by unfold d23 at hT; cases e:T.pc <;> simp [e] at hT ⊢) hD
  ·exact pos d4n (fun T hT=>by unfold d4n at hT; cases e:T.pc <;> simp [e] at hT ⊢) oQ
 obtain ⟨i,hi,h3⟩:=S_pos hC;by_cases hb:(gw f i).pc=.s1/\s.ms=0;rotate_left
 ·exact give i hi (fun e=>by simp [cnt,e] at h3) hb
 have q:=h.inv.nm;have c:=S_get (p:=wa) (f:=gw f) hi;have c':wa (gw f i)=1:=by simp [wa,hb.1]
 have b:=kr s.mu;have hms:=hb.2;simp only [Nm,S4.sh] at q;by_cases e1:1<=S hl (gw f) j
 ·exact pos hl (fun T hT=>by unfold hl at hT; cases e:T.pc <;> simp [e] at hT ⊢) e1
 by_cases e2:1<=S kl (gw f) j
 ·exact pos kl (fun T hT=>by unfold kl at hT; cases e:T.pc <;> simp [e] at hT ⊢) e2
 by_cases e3:1<=S kw (gw f) j
 ·exact pos kw (fun T hT=>by unfold kw at hT; cases e:T.pc <;> simp [e] at hT ⊢) e3
 by_cases e4:1<=S ku (gw f) j
 ·exact pos ku (fun T hT=>by unfold ku at hT; cases e:T.pc <;> simp [e] at hT ⊢) e4
 refine pos ua (fun T hT=>by unfold ua at hT; cases e:T.pc <;> simp [e] at hT ⊢) ?_;omega
theorem auto_ok (n:Nat) (lkr:Nat->Bool):AOk (auto n lkr) (fun i=>lkr i&&decide (i<n)) (AI n lkr) (Φ4 n):=by
 have pcsL:∀ {j f s q},AI n lkr j f s->q<=j->kd (f q)=.acqL->∃ i,q=i+1/\i<j/\f q=.w (gw f i)/\(gw f i).pc=.la:=fun h hq hk=>by
  obtain ⟨i,e,hi,hf,hkd⟩:=kd_of h hq hk (.inl rfl);exact ⟨i,e,hi,hf,vo.1 hkd⟩
 have pcsR:∀ {j f s q},AI n lkr j f s->q<=j->kd (f q)=.relL->∃ i,q=i+1/\i<j/\f q=.w (gw f i)/\(gw f i).pc=.ur:=fun h hq hk=>by
  obtain ⟨i,e,hi,hf,hkd⟩:=kd_of h hq hk (.inr (.inl rfl));exact ⟨i,e,hi,hf,vo.2.1 hkd⟩
 have pcsW:∀ {j f s q},AI n lkr j f s->q<=j->kd (f q)=.relW->∃ i,q=i+1/\i<j/\f q=.w (gw f i)/\(gw f i).pc=.wr:=fun h hq hk=>by
  obtain ⟨i,e,hi,hf,hkd⟩:=kd_of h hq hk (.inr (.inr rfl));exact ⟨i,e,hi,hf,vo.2.2.1 hkd⟩
 refine ⟨fun h hq hk=>h.oks hq hk,fun h hq hk hm=>ai_mv h hq hk hm,fun h hq hk=>ai_nx h hq hk,fun {j f s q} h hq hk=>?_,fun {j f s q} h hq hk=>?_,fun {j f s q} h hq hk=>?_,fun {j f s} h hk=>?_,fun {j f s} h=>?_,fun {j f s q} h hq h1=>?_,fun {j f s} h hk=>?_,fun {T} hk=>?_,fun {T s} hb=>?_,fun h=>zgM h⟩
 ·obtain ⟨i,rfl,hi,hf,e⟩:=pcsL h hq hk;rw [hf];refine ⟨fun r hr=>?_,?_,?_,?_,?_⟩
  ·by_cases he:r=i+1
   ·rw [he,hf]; show kdW (gw f i)≠.relL; simp [kdW,e]
   ·exact alone h hi (by simp [hl,e]) hr he
  ·show kd (nx4 n (.w (gw f i)))=_; simp [nx4,kd,kdW,e]
  ·show pastW (gw f i)=_; simp [pastW,e]
  ·show (auto n lkr).past (nx4 n (.w (gw f i)))=_; simp [nx4,auto,pastW,e]
  ·show (auto n lkr).aft (nx4 n (.w (gw f i)))=_; simp [nx4,auto,aftW,e]
 ·obtain ⟨i,rfl,hi,hf,e⟩:=pcsR h hq hk;rw [hf];refine ⟨fun r hr hne=>alone h hi (by simp [hl,e]) hr hne,?_,?_,?_,?_⟩
  ·show kd (nx4 n (.w (gw f i)))≠_; simp [nx4,kd,kdW,e]
  ·show (auto n lkr).past (nx4 n (.w (gw f i)))=_; simp [nx4,auto,pastW,e]
  ·show (auto n lkr).aft (nx4 n (.w (gw f i)))=_; simp [nx4,auto,aftW,e]
  ·have:=h.lck i hi (by simp [pastW,e]);have hn:=h.num;simp [this];omega
 ·obtain ⟨i,rfl,hi,hf,e⟩:=pcsW h hq hk;rw [hf];refine ⟨?_,?_,?_⟩
  ·show kd (nx4 n (.w (gw f i)))≠_; simp [nx4,kd,kdW,e]
  ·show (auto n lkr).past (nx4 n (.w (gw f i)))=pastW (gw f i); simp [nx4,auto,pastW,e]
  ·show (auto n lkr).aft (nx4 n (.w (gw f i)))=_; simp [nx4,auto,aftW,e]
 ·obtain ⟨e1,e2,e3⟩:=zgL h hk;have hx:∀ (X:Pc->Prop),X .ld->X .wr->X (if lkr j then .ld else .wr):=fun X a b=>by split <;> assumption
  have hd0:dl (f 0)=0:=by
   have hk:kd (f 0)=.fork:=hk;rw [h.main] at hk ⊢;simp only [kd,kdM] at hk;cases e:(mn (f 0)).pc <;> simp [e] at hk;simp [dl,dlM,e]
  refine ⟨?_,e2,e3,?_,?_,?_,hd0,?_,?_,?_,?_,?_,?_⟩
  ·rw [h.main]; exact e1
  ·rw [h.main]; show kdM _≠_; unfold kdM; simp only []; split <;> simp_all
  ·rw [h.main]; show kdM _≠_; unfold kdM; simp only []; split <;> simp_all
  ·rw [h.main]; rfl
  ·rw [h.main];show dlM _=_;by_cases e:(mn (f 0)).j+1<n <;> simp [dlM,e]
  ·exact hx (fun p=>kdW { pc:=p }≠.relL) (by simp [kdW]) (by simp [kdW])
  ·exact hx (fun p=>kdW { pc:=p }≠.quit) (by simp [kdW]) (by simp [kdW])
  ·exact hx (fun p=>aftW { pc:=p }=false) rfl rfl
  ·exact hx (fun p=>dlW { pc:=p }=0) rfl rfl
  ·show (lkr j&&decide (j<n)&&pastW { pc:=if lkr j then .ld else .wr })=false;cases e:lkr j <;> simp [pastW]
 ·rw [h.main];refine ⟨rfl,?_⟩;show kdM _≠_;unfold kdM;cases (mn (f 0)).pc <;> simp
 ·obtain ⟨i,rfl⟩:∃ i,q=i+1:=⟨q - 1,oQ⟩;rw [h.work i oQ];refine ⟨?_,?_⟩
  ·show kdW _≠_; unfold kdW; cases (gw f i).pc <;> simp
  ·show kdW _≠_; unfold kdW; cases (gw f i).pc <;> simp
 ·have hpc:(mn (f 0)).pc=.w6:=by
   rw [h.main] at hk;simp only [auto,kd,kdM] at hk;cases e:(mn (f 0)).pc <;> simp [e] at hk;rfl
  have g:=h.grp;rw [hpc] at g;simp only [Gq] at g;refine ⟨fun r h1 hr=>?_,?_,fun i hi=>?_⟩
  ·obtain ⟨i,rfl⟩:∃ i,r=i+1:=⟨r - 1,oQ⟩;have hi:i<j:=by omega
   rw [h.work i hi];have c1:=S_get (p:=cnt) (f:=gw f) hi;have c2:=S_get (p:=d23) (f:=gw f) hi;have c3:=S_get (p:=d4n) (f:=gw f) hi;show kdW (gw f i)=.quit;cases e:(gw f i).pc <;> simp only [cnt,d23,d4n,e] at c1 c2 c3 <;> first | (exfalso; omega) | simp [kdW,e]
  ·rw [h.main]; show dlM _=0; simp [dlM,hpc]
  ·have:=h.num.2.2.2.2.2.1 (by rw [hpc]; rfl);simp;omega
 ·cases T with
  | w T=>have e:=(@vo T).2.2.2 hk; exact ⟨by simp [auto,pastW,e],by simp [auto,aftW,e]⟩
  | m M =>
   exfalso;have hk:kdM M=.quit:=hk;unfold kdM at hk;cases e:M.pc <;> simp [e] at hk
 ·cases T with
  | w T=>show kdW T=_; simp [kdW,hb.1]
  | m M=>show kdM M=_; simp [kdM,hb.1]
end
end Go.Vel.Mx
namespace Go.Vel
open Go Go.Conc
open Go.ConcN (sumTo upd upd_ne upd_same sumTo_upd)
open Go.ConcM (OsLater)
section
variable {P:Program}
theorem vC:∀ (n k:Nat) (m m₁:Machine) (t t₁:Trace),runNT P n m t=(.next m₁,t₁)->runNT P (n+k) m t=runNT P k m₁ t₁
 | 0,k,m,m₁,t,t₁,h=>by
  simp only [runNT,Prod.mk.injEq,Stepped.next.injEq] at h;rw [h.1,h.2,mO]
 | n+1,k,m,m₁,t,t₁,h=>by
  rw [show n+1+k=(n+k)+1 by omega];simp only [runNT] at h ⊢;split at h
  ·rename_i m₂ ops h1;exact vC n k m₂ m₁ _ t₁ h
  ·rename_i e ops hne h1;simp only [Prod.mk.injEq] at h;obtain ⟨rfl,_⟩:=h;exact (hne _ rfl).elim
theorem zc2:∀ (n k:Nat) (m m₁:Machine),runN P n m=.next m₁->runN P (n+k) m=runN P k m₁
 | 0,k,m,m₁,h=>by
  simp only [runN,Stepped.next.injEq] at h;rw [h,mO]
 | n+1,k,m,m₁,h=>by
  rw [show n+1+k=(n+k)+1 by omega];simp only [runN] at h ⊢;split at h
  ·rename_i m₂ h1;exact zc2 n k m₂ m₁ h
  ·rename_i hne;exact absurd h (hne _)
def NoRel (t:Trace):Prop:=∀ k a,t.act? k≠some (.mark (.release a))
theorem zbL {t u:Trace} (h:NoRel t) (hu:∀ op∈u,∀ a,op.act≠.mark (.release a)):NoRel (t++u):=fun k a e=>by
 rcases mR k t.size with hlt | hge
 ·rw [act?_old hlt] at e; exact h k a e
 ·obtain ⟨op,ho,he⟩:=mY.1 e;rw [Array.getElem?_append_right hge] at ho;exact hu op (mH ho) a he
theorem zhE {Sh:Loc->Prop} (w:World) {a:Goroutine} (hs:a.status=.running) {B:Nat}:∀ (M:Nat) (gs:Array Goroutine) (d:Nat) (sl:Option (Nat×Nat)) (t:Trace) (q:Nat->Nat),sumTo gs.size q<=M->gs[0]? =some a->Leavers P t gs q->Past Sh B t->NoRel t ->
  ∃ (N:Nat) (gs':Array Goroutine) (d':Nat) (sl':Option (Nat×Nat)) (t':Trace) (q':Nat->Nat),runNT P N (crowd gs (w.at d) sl) t=(.next (crowd gs' (w.at d') sl'),t')/\gs'.size=gs.size/\gs'[0]? =some a/\Leavers P t' gs' q'/\Past Sh B t'/\NoRel t' /\
   ∃ d'' sl'',stepT P (crowd gs' (w.at d') sl')=runT P (crowd gs' (w.at d'') sl'') 0:=by
 intro M
 induction M with
 | zero =>
  intro gs d sl t q hM h0 hL hP hN;have haw:∀ g∈gs,awake g:=fun g hg=>by
   obtain ⟨i,hi,rfl⟩:=Array.mem_iff_getElem.1 hg;rcases mP i with rfl | hpos
   ·have:gs[0]=a:=by simpa [mD hi] using h0
    rw [this]; exact awake_of (.inl hs)
   ·exact awake_of ((hL.old i _ hpos (mD hi)).status.elim .inl fun x=>.inr (.inr x))
  obtain ⟨i,g,d',sl',hi,hg,hst⟩:=crowd_pick (P:=P) (w:=w.at d) (sl:=sl) haw ⟨0,a,h0,hs⟩;rcases mP i with rfl | hpos
  ·exact ⟨0,gs,d,sl,t,q,rfl,rfl,h0,hL,hP,hN,d',sl',hst⟩
  ·exfalso;have hq:=hL.old i g hpos hi;have hlt:i<gs.size:=(mG.1 hi).1;have:=Go.ConcN.le_sumTo (f:=q) hlt;obtain hqi:q i=0:=by omega
   rw [hqi] at hq;rw [hq.1] at hg; cases hg
 | succ M ih =>
  intro gs d sl t q hM h0 hL hP hN;have haw:∀ g∈gs,awake g:=fun g hg=>by
   obtain ⟨i,hi,rfl⟩:=Array.mem_iff_getElem.1 hg;rcases mP i with rfl | hpos
   ·have:gs[0]=a:=by simpa [mD hi] using h0
    rw [this]; exact awake_of (.inl hs)
   ·exact awake_of ((hL.old i _ hpos (mD hi)).status.elim .inl fun x=>.inr (.inr x))
  obtain ⟨i,g,d',sl',hi,hg,hst⟩:=crowd_pick (P:=P) (w:=w.at d) (sl:=sl) haw ⟨0,a,h0,hs⟩;rcases mP i with rfl | hpos
  ·exact ⟨0,gs,d,sl,t,q,rfl,rfl,h0,hL,hP,hN,d',sl',hst⟩
  ·have hq:=hL.old i g hpos hi;have hi0:(i==0)=false:=by simp; omega
   have hlt:i<gs.size:=(mG.1 hi).1;cases hqi:q i with
   | zero=>rw [hqi] at hq; rw [hq.1] at hg; cases hg
   | succ k =>
    rw [hqi] at hq;rcases hq with ⟨hf,_⟩ | ⟨_,g',es,hm,hstp,hq'⟩
    ·rw [hf] at hg; cases hg
    have hrunT:=runT_crowd_go (P:=P) (sl:=sl') (i:=i) hi (by rw [hi0]; exact hstp (w.at d'));have hsz:((gs.map (woken P g g' (w.at d'))).setIfInBounds i g').size=gs.size:=by simp
    have hsum:sumTo gs.size (upd q i k)+(k+1)=sumTo gs.size q+k:=by
     have:=sumTo_upd q k id hlt;simpa [hqi] using this
    obtain ⟨N,gs',d2,sl2,t',q',hr,hsz',h0',hL',hP',hN',hfin⟩:=ih ((gs.map (woken P g g' (w.at d'))).setIfInBounds i g') d' sl' (t++MemOp.ofEvents i g.frame.fn g.frame.place es) (upd q i k) (by rw [hsz]; omega)
     (by
      have hne:i≠0:=by omega
      rw [mE hne,mJ,h0];simp [woken_run hs])
     ⟨fun j x hj hx=>by
      by_cases hji:i=j
      ·subst hji;rw [Array.getElem?_setIfInBounds_self_of_lt (by simpa using hlt)] at hx;obtain rfl:=Option.some.inj hx;rw [upd_same,Deaf_own];exact hq'
      ·rw [mE hji,mJ] at hx;obtain ⟨y,hy,rfl⟩:=mY.1 hx;have hqj:=hL.old j y hj hy;rw [woken_quitsD hqj,upd_ne q k (Ne.symm hji),Deaf_other t hji _ yq];exact hqj,fun j hj=>by
      rw [Deaf_other t (g':=i) (by simp at hj; omega) _ yq];exact hL.above j (by simpa using hj)⟩
     (hP.mute oQ hm) (zbL hN fun op hop=>by obtain ⟨e,he,rfl⟩:=Go.Conc.mem_ofEvents hop; exact ug (hm e he))
    refine ⟨N+1,gs',d2,sl2,t',q',?_,hsz'.trans hsz,h0',hL',hP',hN',hfin⟩;have hst2:stepT P (crowd gs (w.at d) sl)=runT P (crowd gs (w.at d') sl') i:=hst;simp only [runNT,hst2,hrunT];exact hr
def Bes (P:Program) (Ψ:Goroutine->World->Prop) (g:Goroutine) (w:World) (D:Nat->Prop):Prop :=
 ∀ (gs:Array Goroutine) (sl:Option (Nat×Nat)) (t:Trace) (q:Nat->Nat),gs[0]? =some g->Leavers P t gs q->Past (fun l=>D (blk l)) w.heap.size t->NoRel t ->
  ∃ (N:Nat) (gs':Array Goroutine) (a':Goroutine) (w':World) (sl':Option (Nat×Nat)) (t':Trace) (q':Nat->Nat) (D':Nat->Prop),
   runNT P N (crowd gs w sl) t=(.next (crowd gs' w' sl'),t')/\gs'[0]? =some a'/\Ψ a' w'/\Leavers P t' gs' q'/\Past (fun l=>D' (blk l)) w'.heap.size t'/\OsLater w.os w'.os/\w'.output=w.output
def BT (P:Program) (Ψ:Goroutine->World->Prop) (g:Goroutine) (H:Hp):Prop:=∀ w D,zY H w->(∀ b x,H b=some x->¬ D b)->(∀ b,D b->b<w.heap.size)->Bes P Ψ g w D
theorem zgR {Ψ:Goroutine->World->Prop} {g:Goroutine} {H:Hp} (h:∀ w,zY H w->Ψ g w):BT P Ψ g H :=
 fun w D hf _ _ gs sl t q h0 hL hP _=>⟨0,gs,g,w,sl,t,q,D,rfl,h0,h w hf,hL,hP,.refl _,rfl⟩
theorem kI (Ψ:Goroutine->World->Prop):zo P true (BT P Ψ):=by
 intro g H hr h w D hf hD hB gs sl t q h0 hL hP hN;obtain ⟨N,gs1,d1,sl1,t1,q1,hr1,_,h01,hL1,hP1,hN1,d2,sl2,hfin⟩:=zhE w hr _ gs w.drawn sl t q (mL _) h0 hL hP hN;have ew:w.at w.drawn=w:=rfl;rw [ew] at hr1;have hf':zY H (w.at d2):=hf;obtain ⟨g',w',es,hgo,hS,hr',hT⟩:=h (w.at d2) hf';have hlt:0<gs1.size:=(mG.1 h01).1;have hrun:=runT_crowd_go (P:=P) (sl:=sl2) (i:=0) h01 (show stepG P (0==0) g (w.at d2)=_ from hgo);have hfn:=hf'.next hS;have hDn:∀ b x,H.next (w.at d2) w' b=some x->¬ D b:=fun b x hb=>by
  obtain ⟨rw',o⟩:=x;rcases uL hb with ⟨o',hold⟩ | hge
  ·exact hD b _ hold
  ·exact fun hd=>by have:=hB b hd; exact Nat.lt_irrefl _ (mM this hge)
 have hev:∀ e∈es,EvL (fun l=>D (blk l)) w'.heap.size e:=fun e he=>by
  have hE:=hS.evs e he;refine ⟨fun x hx hd=>?_,(v8 hE).1,(v8 hE).2,zbe hfn hE⟩;exfalso;by_cases hm:x.loc.isMemory=true
  ·obtain ⟨rw',o,hh,_⟩:=uG hE hx hm;exact hDn _ _ hh hd
  ·obtain ⟨loc,wr,sy⟩:=e;cases loc with
   | cell a=>simp only [MemAct.ofEvent,MemAct.touch?,Option.some.injEq] at hx; subst hx; exact hm rfl
   | obj r =>
    obtain ⟨hs,_⟩:=hE;simp only at hs;subst hs;have e1:MemAct.ofEvent ⟨.obj r,wr,false⟩=.access ⟨.obj r,wr,false⟩:=by cases wr <;> rfl
    rw [e1] at hx;simp only [MemAct.touch?,Option.some.injEq] at hx;subst hx; exact hm rfl
   | mark m =>
    rcases hE with hE | ⟨g0,hE⟩
    ·subst hE; simp [MemAct.ofEvent,MemAct.touch?] at hx
    ·subst hE; simp [MemAct.ofEvent,MemAct.touch?] at hx
   | _=>exact hE.elim
 have hP2:Past (fun l=>D (blk l)) w'.heap.size (t1++MemOp.ofEvents 0 g.frame.fn g.frame.place es):=(hP1.mono hS.size).own hev;have hL2:Leavers P (t1++MemOp.ofEvents 0 g.frame.fn g.frame.place es) ((gs1.map (woken P g g' w')).setIfInBounds 0 g') q1:=by
  refine ⟨fun j x hj hx=>?_,fun j hj=>?_⟩
  ·rw [mE oQ,mJ] at hx;obtain ⟨y,hy,rfl⟩:=mY.1 hx;have hq:=hL1.old j y hj hy;rw [woken_quitsD hq,Deaf_other t1 oQ _ yq];exact hq
  ·rw [Deaf_other t1 (g':=0) (by simp at hj; omega) _ yq];exact hL1.above j (by simpa using hj)
 obtain ⟨M,gs',a',w2,sl',t',q',D',hr2,h02,hψ,hL3,hP3,ho,hu⟩:=hT w' D hfn hDn (fun b hb=>mM (hB b hb) hS.size) _ sl2 _ q1 (by simp [hlt]) hL2 hP2 (zbL hN1 fun op hop=>by obtain ⟨e,he,rfl⟩:=Go.Conc.mem_ofEvents hop; exact uF (hS.evs e he));refine ⟨N+(1+M),gs',a',w2,sl',t',q',D',?_,h02,hψ,hL3,hP3,?_,hu.trans hS.out⟩
 ·rw [vC N (1+M) _ _ _ _ hr1,Nat.add_comm 1 M];simp only [runNT,hfin,hrun];exact hr2
 ·have:=hS.os;rw [this] at ho;exact ho
def AtRet (P:Program) (f:FuncId) (R:Value->World->Prop) (g:Goroutine) (W:World):Prop :=
 ∃ (b:Frame) (a:Act) (todo:List Item) (fn:Func) (v:Value),g=G { b.at a todo with mode:=.returning } []/\b.fn=f/\b.kind=.normal/\a.defers=[]/\P.funcs[f]? =some fn /\
  (∀ w,(results fn a.tmps).run P w=.ok v w)/\(∀ w,(results fn a.tmps).events P w #[]=#[])/\R v W
theorem past_nil' {Sh:Loc->Prop}:Past Sh 0 #[]:=by
 refine ⟨fun said=>?_,fun i a ha=>?_,fun i g hg=>?_,rfl,fun op hop=>by simp at hop⟩
 ·rintro ⟨i,j,_,⟨a,b,ha,_⟩,_⟩;simp [Trace.act?] at ha
 ·simp [touchAt,Trace.act?] at ha
 ·simp [Trace.g?] at hg
theorem zfZ {f:FuncId} {fn:Func} {c:Code} {args:Array Value} {w:World} {H:Hp} {R:Value->World->Prop} (hf:P.funcs[f]? =some fn) (hb:fn.body=some c) (hi:P.inits.idxOf? f=none)
  {R':Value->World->Prop} (hRR:∀ v w',OsLater w.os w'.os->w'.output=w.output->R v w'->R' v w') (hR:∀ v w d,R' v w->R' v (w.at d)) (hfit:zY H w) (h:BT P (AtRet P f R) (G (Frame.enter P f args .normal) []) H) :
  ∃ M last o w' t',runNT P (M+1) (solo (G (Frame.enter P f args .normal) []) w) #[]=(.ended o w',t')/\runN P M (solo (G (Frame.enter P f args .normal) []) w)=.next last /\
   step P last=.ended o w'/\Conc.Good P R' last o w' t':=by
 obtain ⟨N,gs',g',w',sl',t',q',D',hr,h0,⟨b,a',todo,fn',v,rfl,hbf,hk,hd,hf',hv,he,hRv0⟩,hL,hP,hos,hout⟩:=h w (fun _=>False) hfit (fun _ _ _ h=>h) (fun _ h=>h.elim) #[_] none #[] (fun _=>0) rfl ⟨fun j x hj hx=>by
  have:=(mG.1 hx).1;simp at this;omega,fun _ _=>rfl⟩ (past_nil'.mono (Nat.zero_le _)) (fun k a=>by simp [Trace.act?])
 have hRv:=hRR v w' hos hout hRv0;have hG:Goes P true AtRel (fun _ _ _=>False) (AtEnd P (fun l=>D' (blk l)) w'.heap.size R') 0 (G { b.at a' todo with mode:=.returning } []) w':=by
  refine Goes.stop fun w₁ hw₁=>?_;obtain ⟨d,rfl⟩:=hw₁;refine ⟨rfl,v,seen P f #[],?_,fun e hem=>?_,hR v _ d hRv⟩
  ·simp only [G,stepG,unwind,doReturn,Frame.at,hd,hbf,hf',hk];simp only [Sem.runT_eq,hv,he];simp [hi,GStep.after]
  ·simp [seen] at hem
 obtain ⟨K,last,o,W,t2,e1,e2,e3,e4⟩:=beside_ends (P:=P) (sl:=sl') (fun _ _ _ x=>x.elim) h0 hL hP hG;have hrun:runNT P N (solo (G (Frame.enter P f args .normal) []) w) #[]=(.next (crowd gs' w' sl'),t'):=hr;refine ⟨N+K,last,o,W,t2,?_,?_,e3,e4⟩
 ·rw [Nat.add_assoc,vC N (K+1) _ _ _ _ hrun]; exact e1
 ·have h1:runN P N (solo (G (Frame.enter P f args .normal) []) w)=.next (crowd gs' w' sl'):=by
   rw [<- runNT_fst P _ _ #[],hrun]
  rw [zc2 N K _ _ h1]; exact e2
variable {gm:Nat->Option Nat}
theorem zez {R:Value->World->Prop} {g:FuncId} {fn:Func} {c:Code} {args:List AV} {K:KV} {A:List AObj} {Post:AV->KV->Prop} (hf:P.funcs[g]? =some fn) (hb:fn.body=some c)
  (hres2:∀ (ts:Array Value),∃ v,(∀ w,(results fn ts).run P w=.ok v w)/\(∀ w,(results fn ts).events P w #[]=#[])/\∀ H Q,wpS P (results fn ts) H Q->Q v H)
  {φ:Nat->Loc3} {H:Hp} {vs:Array Value} (hv:zM K A) (hn:(keys K).Nodup) (hg:RelG gm φ A.length) (hH:RelH φ A nF H) (hargs:zG φ A.length args vs)
  (hR:∀ r K' φ' A' H' v w,Post r K'->(∀ i,i<A.length->i∉keys K->A'[i]? =A[i]?)->Agr φ φ' A.length->RelH φ' A' nF H'->RelV φ' A'.length r v->zY H' w->R v w)
  (h:∀ Y:KX P gm (BT P (AtRet P g R)),(∀ j env K' K'' D r,(j=none\/j=some .ret)->Split K' K'' D->(∀ A',zM K' A'->resA P fn.results.toList env A'=some r)->Post r K''->∀ A',Kn Y K' A'->Y.X.L j [] env A')->TK Y [] [.code c] (args++mB (fn.ntmps - args.length) .any) K) :
  BT P (AtRet P g R) (G (Frame.enter P g vs .normal) []) H:=by
 have hT:=kI (P:=P) (AtRet P g R);have hleave:∀ (k:List Item) (env:List AV) (A':List AObj) (φ':Nat->Loc3) (H':Hp) (ts:Array Value) (r:AV) (K':KV),resA P fn.results.toList env A'=some r->Post r K'->(∀ i,i<A.length->i∉keys K->A'[i]? =A[i]?)->Agr φ φ' A.length->RelH φ' A' nF H'->zG φ' A'.length env ts ->
   BT P (AtRet P g R) (G { fr .normal g none ts [] k with mode:=.returning } []) H':=fun k env A' φ' H' ts r K' hr hp hk ha hH' hE=>by
  obtain ⟨v,q1,q2,q3⟩:=hres2 ts;have hrel:RelV φ' A'.length r v:=q3 H' (fun y _=>RelV φ' A'.length r y) (ko hH' hE hr fun y hy=>hy);exact zgR fun w hfit=>⟨fr .normal g none ts [] k,⟨ts,[]⟩,k,fn,v,rfl,rfl,rfl,rfl,hf,q1,q2,hR r K' φ' A' H' v w hp hk ha hH' hrel hfit⟩
 let X:Cx P gm (BT P (AtRet P g R)):={
  main:=true,hT,φ0:=φ,n0:=A.length,F:=nF,hF0:=rfl,kd:=.normal,hkd:=(fun h=>by cases h),f:=g,ro:=none,cs:=[]
  L:=fun j ds env A'=>(j=none\/j=some .ret)/\ds=[]/\∃ r K',resA P fn.results.toList env A'=some r/\Post r K'/\∀ i,i<A.length->i∉keys K->A'[i]? =A[i]?
  hL:=by
   rintro j k ds env A' φ' H' ts hl ⟨hj,rfl,r,K',hr,hp,hk⟩ hA hlen hg' _ hH' hE;cases hl with
   | fin=>exact hT.ctlF rfl (fun _=>wC) rfl (hleave _ env A' φ' H' ts r K' hr hp hk hA hH' hE)
   | ret k=>exact hT.ctlF rfl (fun _=>wV) rfl (hleave _ env A' φ' H' ts r K' hr hp hk hA hH' hE)
   | exit id k _=>rcases hj with hj | hj <;> cases hj }
 rw [kM vs hf hb];refine h ⟨X,A,keys K⟩ (fun j env K' K'' _ r hj _ hres hp A' hA'=>⟨hj,rfl,r,K'',hres A' hA'.view,hp,hA'.kept⟩) A ⟨hv,hn,fun i hi=>.inl hi,fun _ _ _=>rfl,mL _⟩ φ H _ (Agr.refl _ _) (mL _) hg (fun d hd=>by cases hd) hH (yS hargs _)
theorem zhz {fn:Func} {t:Tmp} (hr:fn.results=#[.tmp t]) (ts:Array Value):∃ v,(∀ w,(results fn ts).run P w=.ok v w)/\(∀ w,(results fn ts).events P w #[]=#[])/\∀ H Q,wpS P (results fn ts) H Q->Q v H:=by
 have h:results fn ts=pure (ts.getD t undef):=by
  unfold results;rw [hr,Array.mapM_eq_mapM_toList];rfl
 rw [h];exact ⟨_,fun w=>rfl,fun w=>rfl,fun H Q q=>q⟩
end
end Go.Vel
namespace Go.Vel
open Go Go.Conc
def liveA (live:List Nat):Nat->List AV->List AV
 | _,[]=>[]
 | i,a::l=>(bif live.elem i then a else .any)::liveA live (i+1) l
def liveB (live:List Nat):Nat->List AV->List Bool
 | _,[]=>[]
 | i,_::l=>live.elem i::liveB live (i+1) l
theorem uf (live:List Nat):∀ (i:Nat) (l:List AV),maskA (liveB live i l) l=liveA live i l
 | _,[]=>rfl
 | i,a::l=>by
  unfold liveA liveB;cases h:live.elem i
  ·show AV.any::maskA (liveB live (i+1) l) l=_;rw [uf live (i+1) l]; rfl
  ·show a::maskA (liveB live (i+1) l) l=_;rw [uf live (i+1) l]; rfl
theorem TK.maskL {P:Program} {gm:Nat->Option Nat} {T:Goroutine->Hp->Prop} {Y:KX P gm T} {ds:List Nat} {k:List Item} {env:List AV} {K:KV} (live:List Nat) (h:TK Y ds k (liveA live 0 env) K):TK Y ds k env K:=TK.mask _ (uf live 0 env) h
theorem zu {env env':List AV} {x:Option Nat} {d:Nat} {r:AV} (h:x=some d) (he:env.set d r=env'):zO env x r=env':=by subst h; exact he
theorem putN {env:List AV} {x:Option Nat} {r:AV} (h:x=none):zO env x r=env:=by subst h; rfl
section
variable {P:Program} {gm:Nat->Option Nat} {T:Goroutine->Hp->Prop} {Y:KX P gm T} {ds:List Nat} {k:List Item} {env env':List AV} {K:KV} {ops:Array Oper} {i d:Nat} {o:Oper} {r:AV} {rest:List Nat}
theorem TK.a (ho:ops[i]? =some o) (hq:∀ A,zM K A->OpOk P gm env A o r A) (h:TK Y ds (.inRegion ops rest::k) env' K) (hd:yc o.op=false:=by rfl) (hw:zK ops env o=some true:=by rfl) (hx:o.dst=some d:=by rfl) (he:env.set d r=env':=by simp only [List.set]; rfl):TK Y ds (.inRegion ops (i::rest)::k) env K :=
 TK.q ho hd hw hq (zu hx he) h
end
section
variable {P:Program} {gm:Nat->Option Nat} {V:KV} {env:List AV} {o:Oper} {r:AV}
def byteA (b:UInt8):AV:=.v (.int .u8 b.toNat)
variable {T:Goroutine->Hp->Prop} {Y:KX P gm T} {ds:List Nat} {k:List Item} {K:KV} {ops:Array Oper} {i:Nat} {rest:List Nat} {ob:AObj} {envf:Nat->List AV}
theorem TK.loop {c:Code} (h:TK Y ds (.code c::.inLoop c::k) env K):TK Y ds (.code (.loop c)::k) env K:=fun A hA=>(h A hA).loop
theorem TK.newS {n:Nat} (ho:ops[i]? =some o) (hd:yc o.op=false) (hw:zK ops env o=some true) (hq:Nk P gm env K o (fun j=>.sl j 0 n) ob) (he:∀ j,zO env o.dst (.sl j 0 n)=envf j) (h:∀ j,j∉keys K->TK Y ds (.inRegion ops rest::k) (envf j) ((j,ob)::K)):TK Y ds (.inRegion ops (i::rest)::k) env K:=TK.new ho hd hw hq he h
end
section
variable {P:Program} {main:Bool} {T:Goroutine->Hp->Prop} {kd:CallKind} {f:FuncId} {ro:Option Nat} {ts:Array Value} {ds:List Deferred} {k:List Item} {cs:List Frame} {H:Hp} {w:World}
def ylCall (fo:Operand) (l:Nat):Call:={ callee:=.value fo,args:=#[.const (.func (.yield l) #[] #[])],argTypes:=#[] }
theorem StepH.seen {w':World} {es:Array Event} (h:StepH H w w' es):StepH H w w' (Go.seen P f es):=⟨h.size,h.kept,fun e he=>h.evs e (mem_seen he),h.os,h.out,h.tape⟩
theorem kb {α:Type} {P:Program} {s:Sem α} {w w1:World} {a:α} {es:Array Event} (h:s.runT P w #[]=(.ok a w1,es)):s.run P w=.ok a w1/\s.events P w #[]=es:=by
 have:=Sem.runT_eq P s w #[];rw [h] at this;exact ⟨(congrArg Prod.fst this).symm,(congrArg Prod.snd this).symm⟩
theorem zo.rangeF (hT:zo P main T) (hkd:kd≠.early) {fo:Operand} {ps:Array Tmp} {x y:Code}
  (h:wpS P (Instr.enterLoop f ts ps x y ro) H fun lm H1=>wpS P (resolve (evT ts) (ylCall fo lm.1) 0 >>= fun d=>invoke d.target d.args) H1 fun nx H2=>match nx with
   | .enter g us=>T (G (Frame.enter P g us .normal) (fr kd f ro ts (lm.2++ds) (.inRangeFunc lm.1::k)::cs)) H2
   | _=>False):T (G (fr kd f ro ts ds (.code (.rangeFunc fo ps x y)::k)) cs) H:=by
 refine hT _ _ Z fun w hf=>?_;obtain ⟨⟨l,mark⟩,w1,es1,h1,h2,h3⟩:=kz _ _ _ w #[] h hf;obtain ⟨nx,w2,es2,q1,q2,q3⟩:=kz _ _ _ w1 #[] h3 (hf.next h2);rw [mK] at h1 q1;cases nx with
 | enter g us =>
  refine ⟨_,_,Go.seen P f es1++Go.seen P f es2,?_,StepH.trans hf h2.seen q2.seen,rfl,by rw [<- wm h2.size q2.size hf]; exact q3⟩;have he:=zbg kd f ro ts (mark++ds) (.inRangeFunc l::k);simp only [fr] at he;obtain ⟨e1,e2⟩:=kb h1;obtain ⟨e3,e4⟩:=kb q1;simp only [ylCall] at e3 e4;simp only [G,stepG,stepG.exec,fr,Sem.runT_eq,e1,e2,stepG.apply,he,if_true,e3,e4];simp [GStep.after,hkd]
 | _=>exact q3.elim
theorem zo.endRangeF (hT:zo P main T) {l:Nat} (h:wpS P (Instr.endLoop l) H fun jump H'=>T (G (fr kd f ro ts ds ((jump.map Item.code).toList++k)) cs) H'):T (G (fr kd f ro ts ds (.endRangeFunc l::k)) cs) H:=by
 refine hT _ _ Z fun w hf=>?_;obtain ⟨jump,w1,es1,h1,h2,h3⟩:=kz _ _ _ w #[] h hf;rw [mK] at h1;refine ⟨_,_,Go.seen P f es1,?_,h2.seen,rfl,h3⟩;obtain ⟨e1,e2⟩:=kb h1;simp [G,stepG,stepG.exec,fr,Sem.runT_eq,e1,e2,GStep.after]
theorem zo.beginF (hT:zo P main T) (hkd:kd≠.early) {l:Nat} (h:wpS P (Instr.beginRound l) H fun _ H'=>T (G (fr kd f (some l) ts ds k) cs) H'):T (G (fr kd f (some l) ts ds (.beginRound::k)) cs) H:=by
 refine hT _ _ Z fun w hf=>?_;obtain ⟨nx,w1,es1,h1,h2,h3⟩:=kz (Instr.beginRound l >>= fun _=>Pure.pure Next.skip) H (fun nx H'=>nx=.skip/\T (G (fr kd f (some l) ts ds k) cs) H') w #[] (yO _ _ _ _ (ut _ _ _ _ (fun _ _ h=>(⟨rfl,h⟩:_/\_)) h)) hf;rw [mK] at h1;obtain ⟨rfl,h3⟩:=h3;refine ⟨_,_,Go.seen P f es1,?_,h2.seen,rfl,h3⟩;obtain ⟨e1,e2⟩:=kb h1;simp only [G,stepG,stepG.exec,fr,stepG.apply,Option.elim,Sem.runT_eq,if_true,e1,e2];simp [GStep.after,Frame.finish,hkd]
theorem zo.endRoundF (hT:zo P main T) {l:Nat} {j:Option Code} (hl:Leave j k) {c:Frame} (h:wpS P (Instr.endRound l j) H fun v H'=>T (G (c.finish v) cs) H'):T (G (fr .normal f (some l) ts ds k) (c::cs)) H:=by
 refine hT _ _ Z fun w hf=>?_;obtain ⟨v,w1,es1,h1,h2,h3⟩:=kz _ _ _ w #[] h hf;rw [mK] at h1;refine ⟨_,_,Go.seen P f es1,?_,h2.seen,rfl,h3⟩;cases hl with
 | fin =>
  obtain ⟨e1,e2⟩:=kb h1;simp [G,stepG,stepG.exec,fr,Sem.runT_eq,e1,e2,GStep.after,doReturn]
 | ret k =>
  obtain ⟨e1,e2⟩:=kb h1;simp [G,stepG,stepG.exec,fr,Sem.runT_eq,e1,e2,GStep.after,doReturn]
 | exit id k he =>
  obtain ⟨e1,e2⟩:=kb h1;simp [G,stepG,stepG.exec,fr,he,Sem.runT_eq,e1,e2,GStep.after,doReturn]
theorem zo.takeF (hT:zo P main T) {b:Nat} (h:wpS P (Instr.takeDeferred b) H fun d1 H'=>T (G { fr kd f ro ts (d1++ds) k with mode:=.returning } cs) H'):T (G { fr kd f ro ts ({ target:=.collected b,args:=#[] }::ds) k with mode:=.returning } cs) H:=by
 refine hT _ _ Z fun w hf=>?_;obtain ⟨d1,w1,es1,h1,h2,h3⟩:=kz _ _ _ w #[] h hf;rw [mK] at h1;refine ⟨_,_,Go.seen P f es1,?_,h2.seen,rfl,h3⟩;obtain ⟨e1,e2⟩:=kb h1;simp [G,stepG,unwind,fr,Sem.runT_eq,e1,e2,GStep.after]
theorem wP {l:Nat} {rw':Bool} {r:Loop} (h:H l=some (rw',.loop r)) {Q:Loop->Hp->Prop} (hq:Q r H):wpS P (Instr.getLoop l) H Q:=⟨rw',_,h,rfl,rfl,hq⟩
theorem vK {l:Nat} {o0:Obj} {r:Loop} (h:H l=some (true,o0)) (h0:isCells o0=false) {Q:Unit->Hp->Prop} (hq:Q () (H.put l (true,.loop r))):wpS P (setObj l (.loop r)) H Q:=⟨o0,h,h0,rfl,hq⟩
def CallF (P:Program) (T:Goroutine->Hp->Prop) (gm:Nat->Option Nat) (yv:AV) (args:List AV) (A:List AObj) (Post:AV->List AObj->Prop):Prop :=
 ∀ (φ:Nat->Loc3) (F H:Hp) (y:Value) (vs:Array Value) (c:Frame) (cs:List Frame),F=nF->RelG gm φ A.length->RelH φ A F H->RelV φ A.length yv y->zG φ A.length args vs ->
  (∀ r A' φ' H' v,Post r A'->Agr φ φ' A.length->A.length<=A'.length->RelH φ' A' F H'->RelV φ' A'.length r v->T (G (c.finish v) cs) H') ->
  wpS P (Deferred.ofValue y vs >>= fun d=>invoke d.target d.args) H fun nx H'=>match nx with
   | .enter g us=>T (G (Frame.enter P g us .normal) (c::cs)) H'
   | .round l g us x y=>T (G (Frame.round l g us x y .normal) (c::cs)) H'
   | _=>False
theorem CallF.mono {gm:Nat->Option Nat} {yv:AV} {args:List AV} {A:List AObj} {Post Post':AV->List AObj->Prop} (h:CallF P T gm yv args A Post) (hp:∀ r A',Post r A'->Post' r A'):CallF P T gm yv args A Post' :=
 fun φ F H y vs c cs h0 h1 h2 h3 h4 k=>h φ F H y vs c cs h0 h1 h2 h3 h4 fun r A' φ' H' v x=>k r A' φ' H' v (hp r A' x)
def CallFK (P:Program) (T:Goroutine->Hp->Prop) (gm:Nat->Option Nat) (yv:AV) (args:List AV) (K:KV) (Post:AV->KV->Prop):Prop :=
 ∀ A,zM K A->(keys K).Nodup->CallF P T gm yv args A fun r A'=>∃ K',Kstep K A K' A'/\Post r K'
theorem CallFK.mono {gm:Nat->Option Nat} {yv:AV} {args:List AV} {K:KV} {Post Post':AV->KV->Prop} (h:CallFK P T gm yv args K Post) (hp:∀ r K',Post r K'->Post' r K'):CallFK P T gm yv args K Post' :=
 fun A hv hn=>(h A hv hn).mono fun r A' ⟨K',h1,h2⟩=>⟨K',h1,hp r K' h2⟩
theorem yx {gm:Nat->Option Nat} {g:FuncId} {fs cp args:List AV} {K:KV} {Post:AV->KV->Prop} (hg:yj P g=true) (h:zA P T gm g (fs++args++cp) K Post):CallFK P T gm (.fn g fs cp) args K Post:=by
 intro A hv hn φ F H y vs c cs h0 h1 h2 h3 h4 hq;obtain ⟨xs,ys,rfl,hr1,hr2⟩:=vn h3;refine kx hg _ ?_;exact h A hv hn φ F H _ c cs h0 h1 h2 (kC (kC hr1 h4) hr2) hq
variable {gm:Nat->Option Nat}
theorem zhW {φ:Nat->Loc3} {n i:Nat} {y:Value} (h:RelV φ n (.yl i) y):i<n/\y=.func (.yield (φ i).blk) #[] #[]:=by cases h; exact ⟨‹_›,rfl⟩
def putAll:List AV->List (Tmp×AV)->List AV
 | env,[]=>env
 | env,(t,a)::l=>putAll (env.set t a) l
theorem za2 {φ:Nat->Loc3} {n:Nat}:∀ (l:List (Tmp×AV)) (l':List (Tmp×Value)) (env:List AV) (ts:Array Value),zG φ n env ts->l.map (·.1)=l'.map (·.1)->(∀ (j:Nat) x z,l[j]? =some x->l'[j]? =some z->RelV φ n x.2 z.2) ->
  zG φ n (putAll env l) (l'.foldl (fun ts z=>ts.setIfInBounds z.1 z.2) ts)
 | [],[],env,ts,h,_,_=>h
 | (t,a)::l,(t',v)::l',env,ts,h,he,hr=>by
  simp only [List.map_cons,List.cons.injEq] at he;obtain ⟨rfl,he⟩:=he;refine za2 l l' _ _ ?_ he fun j x z hx hz=>hr (j+1) x z (by simpa using hx) (by simpa using hz);exact yo (a:=⟨ts,[]⟩) h (hr 0 _ _ rfl rfl) (some t)
 | [],_::_,_,_,_,he,_=>by simp at he
 | _::_,[],_,_,_,he,_=>by simp at he
theorem zah {φ:Nat->Loc3} {A:List AObj} {F H:Hp} (h:RelH φ A F H) {i:Nat} {f:FuncId} {env:List AV} {ps:Array Tmp} {x y:Code} {st:LoopState} {pj:Option Code} (hi:A[i]? =some (.loop f env ps x y st pj)) :
  ∃ ts d,H (φ i).blk=some (true,.loop { state:=st,pending:=pj,fn:=f,tmps:=ts,params:=ps,assign:=x,body:=y,defers:=d })/\zG φ A.length env ts:=h.obj i _ hi
theorem zfI (hT:zo P main T) {i:Nat} {f:FuncId} {env args:List AV} {ps:Array Tmp} {x y:Code} {A:List AObj} {Post:AV->List AObj->Prop} (hi:A[i]? =some (.loop f env ps x y .ready none)) (hargs:args.length=ps.size)
  (h:∀ X:Cx P gm T,X.ro=some (X.φ0 i).blk->i<X.n0->(∀ j env' A' st pj,A'[i]? =some (.loop f env ps x y st pj)->Post (.v (.bool j.isNone)) (A'.set i (.loop f env ps x y (if j.isNone then .ready else .done) j))->X.L j [] env' A') ->
   TA X [] [.code x,.beginRound,.code y] (putAll env (ps.toList.zip args)) A):CallF P T gm (.yl i) args A Post:=by
 intro φ F H y' vs c cs hF0 hg hH hy hvs hq;obtain ⟨hlt,rfl⟩:=zhW hy;obtain ⟨ts,d,hb,hrel⟩:=zah hH hi;have hvl:vs.size=ps.size:=by rw [<- hvs.1]; exact hargs
 have hround:∀ us,us=(ps.zip vs).foldl (fun tmps (t,a)=>tmps.setIfInBounds t a) ts->T (G (Frame.round (φ i).blk f us x y .normal) (c::cs)) H:=by
  intro us hus
  let X:Cx P gm T:={
   main,hT,φ0:=φ,n0:=A.length,F,hF0,kd:=.normal,hkd:=(fun h=>by cases h),f,ro:=some (φ i).blk,cs:=c::cs
   L:=fun j ds env' A'=>∃ st pj,A'[i]? =some (.loop f env ps x y st pj)/\Post (.v (.bool j.isNone)) (A'.set i (.loop f env ps x y (if j.isNone then .ready else .done) j))
   hL:=by
    rintro j k ds env' A' φ' H' ts' hl ⟨st,pj,hi',hp⟩ hA hlen hg' _ hH' hE;refine hT.endRoundF hl ?_;obtain ⟨ts1,d1,hb1,hrel1⟩:=zah hH' hi';have hφ:φ' i=φ i:=hA i hlt;rw [hφ] at hb1;refine yO _ _ _ _ (wP hb1 ?_);refine yO _ _ _ _ (vK hb1 Z ?_);have hH2:=hH'.set (x:=(true,.loop { state:=if j.isNone then .ready else .done,pending:=j,fn:=f,tmps:=ts1,params:=ps,assign:=x,body:=y,defers:=d1 })) (o':=.loop f env ps x y (if j.isNone then .ready else .done) j) hi' rfl trivial ⟨ts1,d1,Hp.put_same _ _ _,hrel1⟩;rw [hφ] at hH2;exact hq _ _ _ _ _ hp hA (by simpa using hlen) hH2 (.v _) }
  have hX:=h X rfl hlt fun j env' A' st pj hi' hp=>⟨st,pj,hi',hp⟩;refine hX φ H us (Agr.refl _ _) (mL _) hg (fun d hd=>by cases hd) hH ?_;subst hus;have:=za2 (n:=A.length) (φ:=φ) (ps.toList.zip args) (ps.toList.zip vs.toList) env ts hrel (by rw [List.map_fst_zip (by simp [hargs]),List.map_fst_zip (by simp [hvl])]) fun j x z hx hz=>by
   rw [List.getElem?_zip_eq_some] at hx hz;exact hvs.2 j _ _ hx.2 (by rw [<- mI]; exact hz.2)
  rw [<- Array.foldl_toList,Array.toList_zip];exact this
 show wpS P (Instr.yield (φ i).blk (#[]++vs++#[])) H _;rw [mK,Array.append_empty];refine yO _ _ _ _ (wP hb ?_);dsimp only;rw [if_neg (by simpa using hvl)];exact hround _ rfl
variable {X:Cx P gm T} {ds':List Nat} {env:List AV} {A:List AObj}
theorem TA.beginRound {i:Nat} {g:FuncId} {env0:List AV} {ps:Array Tmp} {x y:Code} {pj:Option Code} (hro:X.ro=some (X.φ0 i).blk) (hi0:i<X.n0) (hi:A[i]? =some (.loop g env0 ps x y .ready pj)) (h:TA X ds' k env (A.set i (.loop g env0 ps x y .busy pj))):TA X ds' (.beginRound::k) env A:=fun φ H ts h1 h2 h3 h4 h5 h6=>by
 rw [hro];refine X.hT.beginF X.hkd ?_;obtain ⟨ts1,d1,hb1,hrel1⟩:=zah h5 hi;have hφ:φ i=X.φ0 i:=h1 i hi0;have hH2:=h5.set (x:=(true,.loop { state:=.busy,pending:=pj,fn:=g,tmps:=ts1,params:=ps,assign:=x,body:=y,defers:=d1 })) (o':=.loop g env0 ps x y .busy pj) hi rfl trivial ⟨ts1,d1,Hp.put_same _ _ _,hrel1⟩;rw [hφ] at hb1 hH2;refine yO _ _ _ _ (wP hb1 ?_);refine yO _ _ _ _ (vK hb1 Z ?_);have:=h φ _ ts h1 (by simpa using h2) (by simpa using h3) (by simpa using h4) hH2 (by simpa using h6);rw [hro] at this;exact this
theorem TA.rangeFunc {fo:Operand} {ps:Array Tmp} {x y:Code} {g:FuncId} {fs cp:List AV} {Post:AV->List AObj->Prop} (hro:X.ro=none) (hf:zI gm env fo=.fn g fs cp) (hg:yj P g=true)
  (hc:CallT P T gm g (fs++[.yl (A.length+1)]++cp) (A++[.raw (.deferred (some [])),.loop X.f env ps x y .ready none]) Post)
  (h:∀ r A',Post r A'->A.length+2<=A'.length->∃ st pj,(st==LoopState.busy)=false/\A'[A.length+1]? =some (.loop X.f env ps x y st pj)/\TA X (A.length::ds') ((pj.map Item.code).toList++k) env (A'.set (A.length+1) .gone)) :
  TA X ds' (.code (.rangeFunc fo ps x y)::k) env A:=fun φ H ts h1 h2 h3 h4 h5 h6=>by
 rw [hro];refine X.hT.rangeF X.hkd ?_;unfold Instr.enterLoop;dsimp only;refine yO _ _ _ _ ?_;intro r hr;refine yO _ _ _ _ ?_;intro l hl;have hH1:=h5.push (loc:=⟨r,0,0⟩) (o:=.raw (.deferred (some []))) (x:=(true,.deferred (some []))) hr rfl (Hp.put_same _ _ _);have hag1:=ym φ A.length ⟨r,0,0⟩;have hlen1:(A++[AObj.raw (.deferred (some []))]).length=A.length+1:=by simp
 have hH2:=hH1.push (loc:=⟨l,0,0⟩) (o:=.loop X.f env ps x y .ready none) (x:=(true,.loop { state:=.ready,pending:=none,fn:=X.f,tmps:=ts,params:=ps,assign:=x,body:=y,defers:=r })) hl rfl
  ⟨ts,r,Hp.put_same _ _ _,(h6.mono hag1 oQ).mono (ym _ _ _) oQ⟩
 have hag2:=ym (upd3 φ A.length ⟨r,0,0⟩) (A.length+1) ⟨l,0,0⟩;rw [hlen1] at hH2;have eA:(A++[AObj.raw (.deferred (some []))])++[.loop X.f env ps x y .ready none]=A++[.raw (.deferred (some [])),.loop X.f env ps x y .ready none]:=by simp
 rw [eA] at hH2;have hag:Agr φ (upd3 (upd3 φ A.length ⟨r,0,0⟩) (A.length+1) ⟨l,0,0⟩) A.length:=hag1.trans hag2 oQ;have hb1:(upd3 (upd3 φ A.length ⟨r,0,0⟩) (A.length+1) ⟨l,0,0⟩) A.length=⟨r,0,0⟩:=by simp [upd3]
 have hb2:(upd3 (upd3 φ A.length ⟨r,0,0⟩) (A.length+1) ⟨l,0,0⟩) (A.length+1)=⟨l,0,0⟩:=by simp [upd3]
 generalize hφ2:upd3 (upd3 φ A.length ⟨r,0,0⟩) (A.length+1) ⟨l,0,0⟩=φ2 at hH2 hag hb1 hb2;have hlen2:(A++[AObj.raw (.deferred (some [])),.loop X.f env ps x y .ready none]).length=A.length+2:=by simp
 show wpS P (resolve (evT ts) (ylCall fo l) 0 >>= fun d=>invoke d.target d.args) ((H.put r _).put l _) _;rw [show resolve (evT ts) (ylCall fo l) 0=Deferred.ofValue (evT ts fo) #[.func (.yield l) #[] #[]] by simp [resolve,ylCall,evT,Act.eval]];have hfo:=zz (a:=⟨ts,[]⟩) h3 h6 fo;rw [hf] at hfo;obtain ⟨xs,ys,e,hr1,hr2⟩:=vn hfo;have e':evT ts fo=.func (.func g) xs ys:=e;rw [e'];refine kx hg _ ?_;have hyl:RelV φ2 (A.length+2) (.yl (A.length+1)) (.func (.yield l) #[] #[]):=by
  have:=RelV.yl (φ:=φ2) (n:=A.length+2) (i:=A.length+1) oQ;rwa [hb2] at this
 refine hc φ2 X.F _ _ _ _ X.hF0 (h3.mono hag oQ) hH2 ?_ ?_
 ·rw [hlen2];exact kC (kC (hr1.mono hag oQ) (yY hyl)) (hr2.mono hag oQ)
 ·intro r' A' φ' H' v hp hA' hlen' hH' hr';rw [hlen2] at hA' hlen';obtain ⟨st,pj,hst,hloop,hTA⟩:=h r' A' hp hlen';show T (G (fr X.kd X.f none ts _ (.endRangeFunc l::k)) X.cs) H';refine X.hT.endRangeF ?_;obtain ⟨ts1,d1,hbl,_⟩:=zah hH' hloop;have e1:φ' (A.length+1)=⟨l,0,0⟩:=(hA' _ oQ).trans hb2;have e0:φ' A.length=⟨r,0,0⟩:=(hA' _ oQ).trans hb1;have hH3:=hH'.set (x:=(true,.loop { state:=.exhausted,pending:=pj,fn:=X.f,tmps:=ts1,params:=ps,assign:=x,body:=y,defers:=d1 })) (o':=.gone) hloop rfl trivial trivial;rw [e1] at hbl hH3;refine yO _ _ _ _ (wP hbl ?_);dsimp only;rw [hst];refine yO _ _ _ _ (vK hbl Z ?_);have hagf:Agr φ φ' A.length:=hag.trans hA' oQ;have hds:dsC φ' (A.length::ds')={ target:=.collected r,args:=#[] }::dsC φ ds':=by
   show { target:=.collected (φ' A.length).blk,args:=#[] }::dsC φ' ds'=_;rw [e0];congr 1;unfold dsC;exact mA fun d hd'=>by rw [hagf d (h4 d hd')]
  have:=hTA φ' _ ts (h1.trans hagf h2) (by simp; omega) (by simpa using h3.mono hagf oQ) (fun d hd=>by
   rcases List.mem_cons.1 hd with rfl | hd
   ·simp; omega
   ·have:=h4 d hd; simp; omega) hH3 (by simpa using h6.mono hagf oQ)
  rw [hds,hro] at this;exact this
end
section
variable {P:Program} {gm:Nat->Option Nat} {T:Goroutine->Hp->Prop}
theorem Kstep.frame {K Kf R K':KV} {A A':List AObj} (hs:Split K Kf R) (hv:zM K A) (hn:(keys K).Nodup) (hk:Kstep Kf A K' A'):Kstep K A (K'++R) A':=by
 have hp:=hs.perm;have hnd:=(zT hp).nodup_iff.1 hn;rw [yb] at hnd;have hnd':=List.nodup_append.1 hnd;have hR:zM R A:=hv.sub fun x hx=>hp.symm.subset (by simp [hx]);have hRl:∀ x∈R,x.1<A.length/\x.1∉keys Kf:=fun x hx=>⟨hR.lt (yp hx),fun hm=>hnd'.2.2 x.1 hm x.1 (yp hx) rfl⟩;refine ⟨fun x hx=>?_,?_,fun j hj=>?_,fun j hj hn=>?_,hk.len⟩
 ·rcases lT.1 hx with hx | hx
  ·exact hk.view x hx
  ·rw [hk.kept _ (hRl x hx).1 (hRl x hx).2]; exact hR x hx
 ·rw [yb];refine List.nodup_append.2 ⟨hk.nd,hnd'.2.1,fun a ha b hb e=>?_⟩;subst e;obtain ⟨x,hx,rfl⟩:=lY.1 hb;rcases hk.own _ ha with h1 | h1
  ·exact (hRl x hx).2 h1
  ·have:=(hRl x hx).1; omega
 ·rw [yb] at hj;rcases lT.1 hj with hj | hj
  ·rcases hk.own j hj with h1 | h1
   ·exact .inl ((zT hp).symm.subset (by rw [yb]; exact lV _ h1))
   ·exact .inr h1
  ·exact .inl ((zT hp).symm.subset (by rw [yb]; exact List.mem_append_right _ hj))
 ·exact hk.kept j hj fun hm=>hn ((zT hp).symm.subset (by rw [yb]; exact lV _ hm))
theorem Split.view {K Kf R:KV} {A:List AObj} (hs:Split K Kf R) (hv:zM K A) (hn:(keys K).Nodup):zM Kf A/\(keys Kf).Nodup:=by
 have hp:=hs.perm;have hnd:=(zT hp).nodup_iff.1 hn;rw [yb] at hnd;exact ⟨hv.sub fun x hx=>hp.symm.subset (by simp [hx]),(List.nodup_append.1 hnd).1⟩
theorem zfU {X:Cx P gm T} {env:List AV} {A:List AObj} {o:Oper} {fo:Operand} {ars:Array Operand} {at_:Array TypeId} {yv:AV} {args:List AV} {Post:AV->List AObj->Prop} (hop:o.op=.call { callee:=.value fo,args:=ars,argTypes:=at_ })
  (hf:zI gm env fo=yv) (hargs:ars.toList.map (zI gm env)=args) (hc:CallF P T gm yv args A Post):Ex X env A o Post:=fun ops i rest k ds φ H ts ho hw h3 h5 h6 hq=>by
 refine X.hT.opF X.hkd ho hw (by rw [hop]; rfl) ?_;have hfo:=zz (a:=⟨ts,[]⟩) h3 h6 fo;rw [hf] at hfo;unfold execOp;rw [hop];dsimp only;have hrel:zG φ A.length args (ars.map (evT ts)):=by
  rw [<- hargs];exact kD (a:=⟨ts,[]⟩) h3 h6 ars
 have h:=hc φ X.F H _ _ (fr X.kd X.f X.ro ts ds (.inRegion ops (i::rest)::k)) X.cs X.hF0 h3 h5 hfo hrel fun r A' φ' H' v hp hA hlen hH' hr=>by
  have hfin:=yU X.kd X.f X.ro ts ds ops i rest k v;simp only [ho,Option.bind_some] at hfin;rw [hfin];exact hq r A' φ' H' v hp hA hlen hH' hr
 refine ut _ _ _ _ ?_ h;intro nx H' hnx;cases nx <;> first | exact hnx | exact hnx.elim
variable {Y:KX P gm T} {ds:List Nat} {k:List Item} {env env':List AV} {K K':KV} {ops:Array Oper} {i:Nat} {rest L L':List Nat} {o:Oper} {r:AV} {pend pend':List Pd}
theorem zbD {fo:Operand} {ars:Array Operand} {at_:Array TypeId} {yv:AV} {args:List AV} {Kf R:KV} {Post:AV->KV->Prop} (hop:o.op=.call { callee:=.value fo,args:=ars,argTypes:=at_ })
  (hf:zI gm env fo=yv) (hargs:ars.toList.map (zI gm env)=args) (hc:CallFK P T gm yv args Kf Post) (hs:Split K Kf R) {Q:AV->KV->Prop} (hq:∀ r K',Post r K'->Q r (K'++R)):ExK Y env K o Q:=fun A hA=>by
 obtain ⟨hv,hn⟩:=hs.view hA.view hA.nd;exact (zfU hop hf hargs (hc A hv hn)).mono fun r A' ⟨K',hk,hpost⟩=>⟨K'++R,hk.frame hs hA.view hA.nd,hq r K' hpost⟩
theorem TK.callF' {fo:Operand} {ars:Array Operand} {at_:Array TypeId} {yv:AV} {args:List AV} {Kf R:KV} {Post:AV->KV->Prop} (ho:ops[i]? =some o) (hw:zK ops env o=some true) (hop:o.op=.call { callee:=.value fo,args:=ars,argTypes:=at_ })
  (hf:zn gm env fo=some yv) (hargs:ars.toList.map (zI gm env)=args) (hc:CallFK P T gm yv args Kf Post) (hs:Split K Kf R)
  (h:∀ r K',Post r K'->TK Y ds (.inRegion ops rest::k) (zO env o.dst r) (K'++R)):TK Y ds (.inRegion ops (i::rest)::k) env K:=TK.ex ho hw (zbD hop (zx hf) hargs hc hs h)
theorem TD.callF' {fo:Operand} {ars:Array Operand} {at_:Array TypeId} {yv:AV} {args:List AV} {Kf R:KV} {Post:AV->KV->Prop} (s:List Nat) (ho:ops[i]? =some o) (hw:zK ops (onl s env) o=some true) (hp':pendOf ops i pend=pend') (hc':chkC ops pend' L' s i o.dst=true) (hop:o.op=.call { callee:=.value fo,args:=ars,argTypes:=at_ })
  (hf:zn gm (onl s env) fo=some yv) (hargs:ars.toList.map (zI gm (onl s env))=args) (hc:CallFK P T gm yv args Kf Post) (hs:Split K Kf R)
  (h:∀ r K',Post r K'->(∀ p∈pend',∀ x∈p.V,x∈K'++R)/\TD Y ds ops k pend' L' (zO env o.dst r) (K'++R)):TD Y ds ops k pend (i::L') env K:=TD.c s ho hw hp' hc' (zbD hop (zx hf) hargs hc hs h)
theorem zeG {main:Bool} (hT:zo P main T) {i:Nat} {f:FuncId} {env args:List AV} {ps:Array Tmp} {x y:Code} {K:KV} {Post:AV->KV->Prop} (hi:(i,.loop f env ps x y .ready none)∈K) (hargs:args.length=ps.size)
  (h:∀ Y:KX P gm T,Y.X.ro=some (Y.X.φ0 i).blk->i<Y.X.n0 ->
   (∀ j env' K' K'' D st pj,Split K' ((i,.loop f env ps x y st pj)::K'') D->Post (.v (.bool j.isNone)) ((i,.loop f env ps x y (if j.isNone then .ready else .done) j)::K'')->∀ A',Kn Y K' A'->Y.X.L j [] env' A') ->
   TK Y [] [.code x,.beginRound,.code y] (putAll env (ps.toList.zip args)) K):CallFK P T gm (.yl i) args K Post:=by
 intro A hv hn;refine zfI hT (hv.get hi) hargs fun X hro hi0 hret=>?_;refine h ⟨X,A,keys K⟩ hro hi0 (fun j env' K' K'' D st pj hsp hp A' hA'=>?_) A ⟨hv,hn,fun i hi=>.inl hi,fun _ _ _=>rfl,mL _⟩;have hpm:=hsp.perm;obtain ⟨hv',hn'⟩:=hsp.view hA'.view hA'.nd;refine hret j env' A' st pj (hv'.get sQ) ⟨_,?_,hp⟩;have hst:Kstep ((i,.loop f env ps x y st pj)::K'') A' ((i,.loop f env ps x y (if j.isNone then .ready else .done) j)::K'') (A'.set i (.loop f env ps x y (if j.isNone then .ready else .done) j)):=.set hv' hn' .head;have hall:=hst.frame hsp hA'.view hA'.nd;refine ⟨hst.view,hst.nd,fun t ht=>?_,fun t ht1 ht2=>?_,mT hA'.len hst.len⟩
 ·rcases hst.own t ht with h1 | h1
  ·obtain ⟨z,hz,rfl⟩:=lY.1 h1;exact hA'.own _ (yp (hpm.symm.subset (lV _ hz)))
  ·exact .inr (mT hA'.len h1)
 ·have hne:i≠t:=fun e=>ht2 (e ▸ mem_keys' hi);rw [lP hne];exact hA'.kept t ht1 ht2
theorem TK.beginRound {i:Nat} {g:FuncId} {env0:List AV} {ps:Array Tmp} {x y:Code} {pj:Option Code} (hro:Y.X.ro=some (Y.X.φ0 i).blk) (hi0:i<Y.X.n0) (hu:Upd K i (.loop g env0 ps x y .ready pj) i (.loop g env0 ps x y .busy pj) K') (h:TK Y ds k env K'):TK Y ds (.beginRound::k) env K:=fun A hA =>
 TA.beginRound hro hi0 (hA.view.get hu.mem) (h _ (hA.step (.set hA.view hA.nd hu)))
theorem TK.rangeFunc {fo:Operand} {ps:Array Tmp} {x y:Code} {g:FuncId} {fs cp:List AV} {Kf R:KV} {Post:Nat->AV->KV->Prop} {Q:Option Code->KV->Prop} (hro:Y.X.ro=none) (hf:zn gm env fo=some (.fn g fs cp)) (hg:yj P g=true) (hs:Split K Kf R)
  (hc:∀ l,l∉keys K->zA P T gm g (fs++[.yl l]++cp) ((l,.loop Y.X.f env ps x y .ready none)::Kf) (Post l))
  (hpost:∀ l r K',Post l r K'->∃ st pj K'',K'=(l,.loop Y.X.f env ps x y st pj)::K''/\(st==LoopState.busy)=false/\Q pj K'')
  (h:∀ d pj K'',Q pj K''->TK Y (d::ds) ((pj.map Item.code).toList++k) env ((d,.raw (.deferred (some [])))::(K''++R))):TK Y ds (.code (.rangeFunc fo ps x y)::k) env K:=fun A hA=>by
 have hd:A.length∉keys K:=fun hm=>absurd (hA.view.lt hm) (Nat.lt_irrefl _);have hl:A.length+1∉keys K:=fun hm=>by have:=hA.view.lt hm; omega
 have k1:=Kstep.push hA.view hA.nd (.raw (.deferred (some [])));have k2:=Kstep.push k1.view k1.nd (.loop Y.X.f env ps x y .ready none);have eA:(A++[AObj.raw (.deferred (some []))])++[.loop Y.X.f env ps x y .ready none]=A++[.raw (.deferred (some [])),.loop Y.X.f env ps x y .ready none]:=by simp
 rw [eA] at k2;have el:(A++[AObj.raw (.deferred (some []))]).length=A.length+1:=by simp
 rw [el] at k2;have hA2:=(hA.step k1).step k2;have hs2:Split ((A.length+1,.loop Y.X.f env ps x y .ready none)::(A.length,.raw (.deferred (some [])))::K) ((A.length+1,.loop Y.X.f env ps x y .ready none)::Kf) ((A.length,.raw (.deferred (some [])))::R):=.left (.right hs);obtain ⟨hvf,hnf⟩:=hs2.view k2.view k2.nd;refine TA.rangeFunc hro (zx hf) hg (hc _ hl _ hvf hnf) fun r A' ⟨K',hk,hp⟩ _=>?_;obtain ⟨st,pj,K'',rfl,hst,hq⟩:=hpost _ _ _ hp;have hA3:=hA2.step (hk.frame hs2 k2.view k2.nd);refine ⟨st,pj,hst,hA3.view.get sQ,?_⟩;refine h _ pj K'' hq _ ?_;have hnd3:=hA3.nd;rw [lB,kN,List.nodup_cons] at hnd3;have hperm:(K''++(A.length,AObj.raw (.deferred (some [])))::R).Perm ((A.length,.raw (.deferred (some [])))::(K''++R)):=List.perm_middle;refine ⟨fun z hz=>?_,?_,fun t ht=>?_,fun t ht1 ht2=>?_,by simpa using hA3.len⟩
 ·have hz':=hperm.symm.subset hz;have hne:A.length+1≠z.1:=fun e=>hnd3.1 (by have:=yp hz'; rw [<- e] at this; exact this);rw [lP hne];exact hA3.view z (lL _ hz')
 ·exact (zT hperm).nodup_iff.1 hnd3.2
 ·exact hA3.own t (lL _ ((zT hperm).symm.subset ht))
 ·have hlen:=hA.len;rw [lP oQ];exact hA3.kept t ht1 ht2
def clr:List Nat->List AObj->List AObj
 | [],A=>A
 | d::ds,A=>clr ds (A.set d .gone)
theorem u9:∀ (ds:List Nat) (A:List AObj),(clr ds A).length=A.length
 | [],_=>rfl
 | d::ds,A=>by rw [clr,u9 ds]; simp
theorem zbd:∀ (ds:List Nat) (A:List AObj) (t:Nat),t∉ds->(clr ds A)[t]? =A[t]?
 | [],_,_,_=>rfl
 | d::ds,A,t,h=>by
  rw [clr,zbd ds _ t (fun hm=>h (by simp [hm])),lP (fun e=>h (by simp [e]))]
theorem zdf {main:Bool} (hT:zo P main T) {f:FuncId} {ts:Array Value} {φ:Nat->Loc3} {F:Hp} {cs:List Frame} {todo:List Item}:∀ (ds:List Nat) (A:List AObj) (H:Hp),(∀ d∈ds,A[d]? =some (.raw (.deferred (some []))))->ds.Nodup->RelH φ A F H ->
  (∀ H',RelH φ (clr ds A) F H'->T (G { fr .normal f none ts [] todo with mode:=.returning } cs) H')->T (G { fr .normal f none ts (dsC φ ds) todo with mode:=.returning } cs) H
 | [],A,H,_,_,hH,hq=>hq H hH
 | d::ds,A,H,hd,hn,hH,hq=>by
  have h0:=hd d sQ;have hb:H (φ d).blk=some (true,.deferred (some [])):=hH.obj d _ h0;refine hT.takeF ?_;refine yO _ _ _ _ ⟨true,_,hb,rfl,rfl,?_⟩;refine yO _ _ _ _ ⟨_,hb,rfl,rfl,?_⟩;have hH2:=hH.set (x:=(true,.deferred none)) (o':=.gone) h0 rfl trivial trivial;obtain ⟨hn1,hn2⟩:=List.nodup_cons.1 hn;exact zdf hT ds _ _ (fun d' hd'=>by
   have hne:d≠d':=fun e=>hn1 (by rw [e]; exact hd');rw [lP hne]; exact hd d' (by simp [hd'])) hn2 hH2 hq
theorem zcf {main:Bool} (hT:zo P main T) {g:FuncId} {fn:Func} {c:Code} {args:List AV} {A:List AObj} {Post:AV->List AObj->Prop} (hf:P.funcs[g]? =some fn) (hb:fn.body=some c)
  (h:∀ X:Cx P gm T,X.ro=none->(∀ j ds env A' r,(j=none\/j=some .ret)->(∀ d∈ds,A'[d]? =some (.raw (.deferred (some []))))->ds.Nodup->resA P fn.results.toList env (clr ds A')=some r->Post r (clr ds A')->X.L j ds env A') ->
   TA X [] [.code c] (args++mB (fn.ntmps - args.length) .any) A):CallT P T gm g args A Post:=by
 intro φ F H vs c0 cs hF0 hg hH hargs hfin;have hleave:∀ (k:List Item) (ds:List Nat) (env:List AV) (A':List AObj) (φ':Nat->Loc3) (H':Hp) (ts:Array Value) (r:AV),(∀ d∈ds,A'[d]? =some (.raw (.deferred (some []))))->ds.Nodup->resA P fn.results.toList env (clr ds A')=some r->Post r (clr ds A')->Agr φ φ' A.length->A.length<=A'.length->RelH φ' A' F H'->zG φ' A'.length env ts ->
   T (G { fr .normal g none ts (dsC φ' ds++[]) k with mode:=.returning } (c0::cs)) H':=fun k ds env A' φ' H' ts r hd hn hr hp hA hlen hH' hE=>(List.append_nil (dsC φ' ds)).symm ▸
  zdf hT ds A' H' hd hn hH' fun H2 hH2 =>
   hT.leaveF hf (ko hH2 (by rw [u9]; exact hE) hr fun y hy=>hfin r _ φ' H2 y hp hA (by rw [u9]; exact hlen) hH2 hy)
 let X:Cx P gm T:={
  main,hT,φ0:=φ,n0:=A.length,F,hF0,kd:=.normal,hkd:=(fun h=>by cases h),f:=g,ro:=none,cs:=c0::cs
  L:=fun j ds env A'=>(j=none\/j=some .ret)/\(∀ d∈ds,A'[d]? =some (.raw (.deferred (some []))))/\ds.Nodup/\∃ r,resA P fn.results.toList env (clr ds A')=some r/\Post r (clr ds A')
  hL:=by
   rintro j k ds env A' φ' H' ts hl ⟨hj,hd,hn,r,hr,hp⟩ hA hlen hg' _ hH' hE;cases hl with
   | fin=>exact hT.ctlF rfl (fun _=>wC) rfl (hleave _ ds env A' φ' H' ts r hd hn hr hp hA hlen hH' hE)
   | ret k=>exact hT.ctlF rfl (fun _=>wV) rfl (hleave _ ds env A' φ' H' ts r hd hn hr hp hA hlen hH' hE)
   | exit id k _=>rcases hj with hj | hj <;> cases hj }
 rw [kM vs hf hb];exact h X rfl (fun j ds env A' r hj hd hn hr hp=>⟨hj,hd,hn,r,hr,hp⟩) φ H _ (Agr.refl _ _) (mL _) hg (fun d hd=>by cases hd) hH (yS hargs _)
theorem zce {main:Bool} (hT:zo P main T) {g:FuncId} {fn:Func} {c:Code} {args:List AV} {Post:AV->KV->Prop} (hf:P.funcs[g]? =some fn) (hb:fn.body=some c)
  (h:∀ Y:KX P gm T,Y.X.ro=none->(∀ j ds env K' K1 K'' D1 D2 r,(j=none\/j=some .ret)->Split K' K1 D1->ds.Nodup->(∀ d∈ds,(d,.raw (.deferred (some [])))∈D1)->Split K1 K'' D2->(∀ A',zM K1 A'->resA P fn.results.toList env A'=some r)->Post r K''->∀ A',Kn Y K' A'->Y.X.L j ds env A') ->
   TK Y [] [.code c] (args++mB (fn.ntmps - args.length) .any) K):zA P T gm g args K Post:=by
 intro A hv hn;refine zcf hT hf hb fun X hro hret=>?_;refine h ⟨X,A,keys K⟩ hro (fun j ds env K' K1 K'' D1 D2 r hj hs1 hdn hds hs2 hres hp A' hA'=>?_) A ⟨hv,hn,fun i hi=>.inl hi,fun _ _ _=>rfl,mL _⟩;have hp1:=hs1.perm;have hnd:=(zT hp1).nodup_iff.1 hA'.nd;rw [yb] at hnd;have hnd':=List.nodup_append.1 hnd;have hdk:∀ d∈ds,d∈keys D1:=fun d hd=>mem_keys' (hds d hd);have hv1:zM K1 (clr ds A'):=fun x hx=>by
  rw [zbd _ _ _ (fun hm=>hnd'.2.2 x.1 (yp hx) x.1 (hdk _ hm) rfl)];exact hA'.view x (hp1.symm.subset (by simp [hx]))
 obtain ⟨hv2,hn2⟩:=hs2.view hv1 hnd'.1;refine hret j ds env A' r hj (fun d hd=>hA'.view _ (hp1.symm.subset (List.mem_append_right _ (hds d hd)))) hdn (hres _ hv1) ⟨K'',⟨hv2,hn2,fun t ht=>?_,fun t ht1 ht2=>?_,?_⟩,hp⟩
 ·obtain ⟨z,hz,rfl⟩:=lY.1 ht;refine hA'.own _ (yp (hp1.symm.subset ?_));exact lV _ (hs2.perm.symm.subset (lV _ hz))
 ·rw [zbd _ _ _ (fun hm=>?_)]
  ·exact hA'.kept t ht1 ht2
  ·have:t∈keys K':=(zT hp1).symm.subset (by rw [yb]; exact List.mem_append_right _ (hdk t hm));rcases hA'.own t this with h1 | h1
   ·exact ht2 h1
   ·have h2:A.length<=t:=h1;have h3:t<A.length:=ht1;omega
 ·rw [u9]; exact hA'.len
end
section
variable {P:Program} {gm:Nat->Option Nat} {T:Goroutine->Hp->Prop} {Y:KX P gm T} {ds:List Nat} {k:List Item} {V:KV} {env env':List AV} {K K':KV} {ops:Array Oper} {i:Nat} {rest:List Nat} {o:Oper} {r:AV} {pend pend':List Pd} {L':List Nat}
def IntEs (es:List MapEntry):Prop:=∀ en∈es,∃ k v,en.key=.int .i64 k/\en.val=.int .i64 v
def valOf:Value->Int | .int _ v=>v | _=>0
def fiM (n:Int):List MapEntry->Nat->Option (Nat×Value)
 | [],_=>none
 | en::es,i=>if valOf en.key=n then some (i,en.val) else fiM n es (i+1)
def getM (n:Int):List MapEntry->Int
 | []=>0
 | en::es=>if valOf en.key=n then valOf en.val else getM n es
theorem zao {ik:IntKind} {n:Int}:∀ (es:List MapEntry) (i:Nat),IntEs es->Instr.findNow (.int ik) (.int .i64 n) es i=some (fiM n es i)
 | [],_,_=>rfl
 | en::es,i,h=>by
  obtain ⟨k,v,hk,hv⟩:=h en sQ;have ih:=zao es (i+1) (fun e he=>h e (by simp [he])) (ik:=ik) (n:=n);simp only [Instr.findNow,fiM,hk,Instr.sameNow,valOf,if_true];by_cases e:n=k
  ·subst e; simp
  ·have e':(n==k)=false:=by simpa using e
   rw [e',if_neg (fun h=>e h.symm)];exact ih
theorem zcr {n:Int}:∀ (es:List MapEntry) (i:Nat),getM n es=match fiM n es i with | some (_,v)=>valOf v | none=>0
 | [],_=>rfl
 | en::es,i=>by
  simp only [getM,fiM];split
  ·rfl
  ·exact zcr es (i+1)
theorem zae {n:Int}:∀ (es:List MapEntry) (i:Nat) {j:Nat} {v:Value},IntEs es->fiM n es i=some (j,v)->v=.int .i64 (valOf v)/\i<=j/\∃ en,es[j - i]? =some en/\en.key=.int .i64 n
 | [],_,_,_,_,h=>by cases h
 | en::es,i,j,v,hI,h=>by
  simp only [fiM] at h;obtain ⟨k,v',hk,hv⟩:=hI en sQ;split at h
  ·rename_i e;cases h;rw [hk] at e;simp only [valOf] at e;subst e;exact ⟨by rw [hv]; rfl,mL _,en,by simp,hk⟩
  ·obtain ⟨h1,h2,en',h3,h4⟩:=zae es (i+1) (fun e he=>hI e (by simp [he])) h;exact ⟨h1,oQ,en',by rw [show j - i=(j - (i+1))+1 by omega]; simpa using h3,h4⟩
def MapOk (ob:Obj) (f:Int->Int):Prop:=∃ es clock,ob=.map es clock/\IntEs es.toList/\∀ n,getM n es.toList=f n
def upM (ob:Obj) (n v:Int):Obj:=match ob with
 | .map es clock=>match fiM n es.toList 0 with
  | some (i,_)=>.map (es.modify i fun e=>{ e with key:=.int .i64 n,val:=.int .i64 v }) clock
  | none=>.map (es.push { key:=.int .i64 n,val:=.int .i64 v,born:=clock }) (clock+1)
 | ob=>ob
theorem ze2:MapOk (.map #[] 0) fun _=>0:=⟨#[],0,rfl,fun _ h=>by simp at h,fun _=>rfl⟩
theorem zcs {n v:Int}:∀ (es:List MapEntry) (i j:Nat) (w:Value),IntEs es->fiM n es i=some (j,w)->∀ m,getM m (es.modify (j - i) fun e=>{ e with key:=.int .i64 n,val:=.int .i64 v })=if m=n then v else getM m es
 | [],_,_,_,_,h,_=>by cases h
 | en::es,i,j,w,hI,h,m=>by
  obtain ⟨k,v',hk,hv⟩:=hI en sQ;simp only [fiM] at h;split at h
  ·rename_i e;cases h;rw [Nat.sub_self,List.modify_zero_cons];show (if n=m then v else getM m es)=if m=n then v else (if valOf en.key=m then valOf en.val else getM m es)
   by_cases e2:m=n
   ·subst e2; simp
   ·rw [if_neg (fun h:n=m=>e2 h.symm),if_neg e2,e,if_neg (fun h:n=m=>e2 h.symm)]
  ·rename_i hne;have hle:=(zae es (i+1) (fun e he=>hI e (by simp [he])) h).2.1;rw [show j - i=(j - (i+1))+1 by omega,List.modify_succ_cons];simp only [getM];rw [zcs es (i+1) j w (fun e he=>hI e (by simp [he])) h m];by_cases e2:m=n
   ·subst e2; rw [if_neg hne,if_pos rfl,if_pos rfl]
   ·rw [if_neg e2,if_neg e2]
theorem zcq {n v:Int} {c:Nat}:∀ (es:List MapEntry) (i:Nat),fiM n es i=none->∀ m,getM m (es++[{ key:=.int .i64 n,val:=.int .i64 v,born:=c }])=if m=n then v else getM m es
 | [],_,_,m=>by
  show (if n=m then v else 0)=if m=n then v else 0
  by_cases e:m=n
  ·subst e; simp
  ·rw [if_neg (fun h:n=m=>e h.symm),if_neg e]
 | en::es,i,h,m=>by
  simp only [fiM] at h;split at h
  ·cases h
  ·rename_i hne;simp only [lB,getM];rw [zcq es (i+1) h m];by_cases e:m=n
   ·subst e; rw [if_neg hne,if_pos rfl,if_pos rfl]
   ·rw [if_neg e,if_neg e]
theorem ziJ {ob:Obj} {f:Int->Int} {n v:Int} (h:MapOk ob f):MapOk (upM ob n v) fun m=>if m=n then v else f m:=by
 obtain ⟨es,c,rfl,hI,hf⟩:=h;unfold upM;dsimp only;cases e:fiM n es.toList 0 with
 | none =>
  refine ⟨_,_,rfl,fun en he=>?_,fun m=>?_⟩
  ·rw [Array.toList_push] at he;rcases lT.1 he with he | he
   ·exact hI en he
   ·rw [List.mem_singleton.1 he]; exact ⟨n,v,rfl,rfl⟩
  ·rw [Array.toList_push,zcq _ 0 e,hf]
 | some x =>
  obtain ⟨j,w⟩:=x;refine ⟨_,_,rfl,fun en he=>?_,fun m=>?_⟩
  ·rw [Array.toList_modify] at he;obtain ⟨t,ht⟩:=List.mem_iff_getElem?.1 he;rw [List.getElem?_modify] at ht;cases e2:es.toList[t]? with
   | none=>rw [e2] at ht; cases ht
   | some e0 =>
    rw [e2] at ht;simp only [Option.map_eq_map,Option.map_some,Option.some.injEq] at ht;split at ht
    ·subst ht; exact ⟨n,v,rfl,rfl⟩
    ·subst ht; exact hI _ (List.mem_of_getElem? e2)
  ·rw [Array.toList_modify];have:=zcs (v:=v) es.toList 0 j w hI e m;rw [Nat.sub_zero] at this;rw [this,hf]
theorem zag {φ:Nat->Loc3} {n i:Nat} {y:Value} (h:RelV φ n (.map i) y):i<n/\y=.map (some (φ i).blk):=by cases h; exact ⟨‹_›,rfl⟩
theorem uZ {H:Hp} {e:Bool} {t:TypeId} {v:Value} {ik:IntKind} (h:P.underlying t=some (.int ik)) {Q:Unit->Hp->Prop} (hq:Q () H):wpS P (Instr.checkKey e 10000 t v) H Q:=by
 show wpS P (Instr.checkKey e (9999+1) t v) H Q;unfold Instr.checkKey;refine zd _ _ _ (zC h ?_);dsimp only;exact hq
theorem zav {H:Hp} {t:TypeId} {n:Int} {ik:IntKind} (h:P.underlying t=some (.int ik)) {es:List MapEntry} (hI:IntEs es) {Q:Option (Nat×Value)->Hp->Prop} (hq:Q (fiM n es 0) H):wpS P (Instr.findKey t (.int .i64 n) es) H Q:=by
 unfold Instr.findKey;refine zd _ _ _ (zC h ?_);rw [zao es 0 hI];exact hq
theorem zbK {t:TypeId} (ho:o.op=.makeMap t none):Nk P gm env V o (fun j=>.map j) (.raw (.map #[] 0)):=fun A _ φ F H a hg hH hE=>by
 unfold execOp; rw [ho];refine wpS_v ?_;unfold Instr.makeMap;refine zd _ _ _ ?_;intro r hr;refine ⟨_,upd3 φ A.length ⟨r,0,0⟩,.inl rfl,ym _ _ _,by simp,hH.push hr Z (Hp.put_same _ _ _),?_⟩;have:=RelV.map (φ:=upd3 φ A.length ⟨r,0,0⟩) (n:=(A++[AObj.raw (.map #[] 0)]).length) (i:=A.length) sQ;simpa [upd3] using this
theorem zcY {t kt et:TypeId} {x y:Operand} {j:Nat} {n:Int} {ob:Obj} {f:Int->Int} {ti:TypeInfo} (ho:o.op=.lookup t x y false) (hx:zn gm env x=some (.map j)) (hy:zn gm env y=some (.v (.int .i64 n))) (ht:P.underlying t=some (.map kt et)) (hk:P.underlying kt=some (.int .i64)) (hi:P.info? et=some ti) (hz:ti.zero=some (.int .i64 0)) (hm:(j,.raw ob)∈V) (hf:MapOk ob f):Qk P gm env V o (.v (.int .i64 (f n))):=fun A hA φ F H a hg hH hE=>by
 unfold execOp; rw [ho];refine wpS_v ?_;have h1:=zz hg hE x;rw [zx hx] at h1;obtain ⟨hj,e1⟩:=zag h1;have h2:=zz hg hE y;rw [zx hy] at h2;rw [e1,inv_v h2];obtain ⟨es,c,rfl,hI,hfn⟩:=hf;have hb:H (φ j).blk=some (true,.map es c):=hH.obj j _ (hA.get hm);unfold Instr.lookup;refine zd _ _ _ (zC ht ?_);dsimp only;refine zd _ _ _ ?_;refine ⟨true,_,hb,rfl,rfl,?_⟩;refine zd _ _ _ ?_;rw [yZ];refine zd _ _ _ (uZ hk ?_);refine zd _ _ _ (zav hk hI ?_);have hg':=zcr (n:=n) es.toList 0;cases e:fiM n es.toList 0 with
 | none =>
  rw [e] at hg';refine zd _ _ _ (y7 hi hz ?_);refine zV.quiet hH ?_;rw [<- hfn n,hg'];exact .v _
 | some z =>
  obtain ⟨i,v⟩:=z;rw [e] at hg';refine zV.quiet hH ?_;have:=(zae es.toList 0 hI e).1;rw [<- hfn n,hg'];dsimp only;rw [<- this];exact .v _
theorem zdx {t kt et:TypeId} {x y z:Operand} {j:Nat} {n v:Int} {ob:Obj} {f:Int->Int} (ho:o.op=.mapUpdate t x y z) (hx:zn gm env x=some (.map j)) (hy:zn gm env y=some (.v (.int .i64 n))) (hz:zn gm env z=some (.v (.int .i64 v))) (ht:P.underlying t=some (.map kt et)) (hk:P.underlying kt=some (.int .i64)) (hm:(j,.raw ob)∈V) (hf:MapOk ob f) :
  ∀ A,zM V A->OpOk P gm env A o .any (A.set j (.raw (upM ob n v))):=fun A hA φ F H a hg hH hE=>by
 unfold execOp; rw [ho];refine wpS_u ?_;have h1:=zz hg hE x;rw [zx hx] at h1;obtain ⟨hj,e1⟩:=zag h1;have h2:=zz hg hE y;rw [zx hy] at h2;have h3:=zz hg hE z;rw [zx hz] at h3;rw [e1,inv_v h2,inv_v h3];obtain ⟨es,c,rfl,hI,hfn⟩:=hf;have hb:H (φ j).blk=some (true,.map es c):=hH.obj j _ (hA.get hm);have hend:∀ o',upM (.map es c) n v=o'->zV φ A F .any (A.set j (.raw (upM (.map es c) n v))) .skip (H.put (φ j).blk (true,o')):=fun o' ho'=>by
  subst ho';exact ⟨undef,φ,.inr ⟨rfl,rfl⟩,Agr.refl _ _,by simp,hH.set (hA.get hm) rfl trivial (Hp.put_same _ _ _),.any _⟩
 unfold Instr.mapUpdate;refine zd _ _ _ (zC ht ?_);dsimp only;refine zd _ _ _ ?_;refine ⟨true,_,hb,rfl,rfl,?_⟩;refine zd _ _ _ (uZ hk ?_);refine zd _ _ _ (zav hk hI ?_);cases e:fiM n es.toList 0 with
 | none =>
  refine ⟨_,hb,rfl,rfl,?_⟩;exact hend _ (by unfold upM; dsimp only; rw [e])
 | some w =>
  obtain ⟨i,u⟩:=w;obtain ⟨_,_,en,he1,he2⟩:=zae es.toList 0 hI e;rw [Nat.sub_zero,mI] at he1;dsimp only;refine zd _ _ _ ?_;rw [he1];simp only [Option.map_some,Option.getD_some,he2];unfold Instr.keyThatStays;rw [if_pos (by show Instr.sameBits (9999+1) _ _=true; simp [Instr.sameBits])];refine ⟨_,hb,rfl,rfl,?_⟩;exact hend _ (by unfold upM; dsimp only; rw [e])
theorem TK.newM {ob:AObj} {envf:Nat->List AV} (ho:ops[i]? =some o) (hd:yc o.op=false) (hw:zK ops env o=some true) (hq:Nk P gm env K o (fun j=>.map j) ob) (he:∀ j,zO env o.dst (.map j)=envf j) (h:∀ j,j∉keys K->TK Y ds (.inRegion ops rest::k) (envf j) ((j,ob)::K)):TK Y ds (.inRegion ops (i::rest)::k) env K:=TK.new (f:=fun j=>.map j) ho hd hw hq he h
theorem zfB {H:Hp} {t e:TypeId} {b:Option Addr} {n c:Nat} (ht:P.underlying t=some (.slice e)) {Q:Value->Hp->Prop} (hq:Q (.bool b.isNone) H):wpS P (binOp .eql t (.slice b n c) (.slice none 0 0)) H Q:=by
 show wpS P (Op.equalIn (9999+1) t (.slice b n c) (.slice none 0 0) >>= fun v=>pure (Value.bool v)) H Q;refine zd _ _ _ ?_;unfold Op.equalIn;refine zd _ _ _ (zC ht ?_);cases b <;> exact hq
theorem TK.nilT {t e yt:TypeId} {x:Operand} {j off len:Nat} (ho:ops[i]? =some o) (hop:o.op=.binOp .eql t x (.const (.slice none 0 0)) yt) (hw:zK ops env o=some true) (hx:zn gm env x=some (.sl j off len)) (ht:P.underlying t=some (.slice e))
  (h:∀ b:Bool,(b=true->len=0)->TK Y ds (.inRegion ops rest::k) (zO env o.dst (.v (.bool b))) K):TK Y ds (.inRegion ops (i::rest)::k) env K:=fun A hA φ H ts h1 h2 h3 h4 h5 h6=>by
 refine Y.X.hT.opF Y.X.hkd ho (zJ h6 hw) (by rw [hop]; rfl) ?_;have hr:=zz (a:=⟨ts,[]⟩) h3 h6 x;rw [zx hx] at hr;obtain ⟨hj,cap,b,hl,hb,ey⟩:=uJ hr;unfold execOp; rw [hop]; dsimp only;have e1:evT ts x=.slice b len cap:=ey;rw [e1];refine wpS_v ?_;refine zd _ _ _ ?_;show wpS P (eqGuard .eql t x _ (.slice b len cap) (.slice none 0 0)) H _;unfold eqGuard;refine zfB ht ?_;refine h b.isNone (fun hn=>?_) A hA φ H _ h1 h2 h3 h4 h5 (yo (a:=⟨ts,[]⟩) h6 (.v _) o.dst);cases b with
 | none =>
  rcases mP len with h | h
  ·exact h
  ·cases hb h
 | some _=>cases hn
theorem zcW {s x:Operand} {t e:TypeId} {ti:TypeInfo} {j n:Nat} (ho:o.op=.call { callee:=.builtin .append,args:=#[s,x],argTypes:=#[t,t] }) (ht:P.underlying t=some (.slice e)) (hi:P.info? e=some ti) (hs:zn gm env s=some (.row j n)) {u:AV} (hx:zn gm env x=some u) (hl:lenA u=some 0):Qk P gm env V o (.row j n):=fun A _ φ F H a hg hH hE=>by
 rw [yB ho];have hs':=zz hg hE s;rw [zx hs] at hs';obtain ⟨h1,h2,h3⟩:=vS hs';obtain ⟨b,c,es⟩:=zaG h2 h3;obtain ⟨b',c',ex⟩:=zcC hl (zx hx ▸ zz hg hE x);have hcap:n<=c:=by
  unfold rowV at h3;split at h3
  ·rename_i e0;have:n=0:=by omega
   omega
  ·rw [es] at h3; cases h3; exact h2
 have hend:zV φ A F (.row j n) A (.value (.slice b n c)) H:=zV.quiet hH (es ▸ hs');simp only [builtin,List.map_toArray,List.map_cons,List.map_nil];refine wpS_v ?_;rw [es,ex];unfold Builtin.append_;show wpS P (underlying t >>= _) H _;refine zd _ _ _ (zC ht ?_);dsimp only;refine zd _ _ _ (yh hi ?_);refine zd _ _ _ ?_;refine zC (t:=t) ht ?_;dsimp only;refine zd _ _ _ ?_;rw [yZ];simp only [Bool.false_eq_true,if_false,Bool.not_false,if_true];refine zd _ _ _ ?_;show wpS P (if n+0<=c then _ else _) H _;rw [if_pos oQ];refine zd _ _ _ ?_;have hf:∀ Q:Array Value->Hp->Prop,Q #[] H->wpS P (Builtin.firstCells ti.size 0 (.slice b' 0 c')) H Q:=fun Q hq=>by
  cases b' with
  | none=>exact hq
  | some a =>
   show wpS P (loadCells a (0*ti.size)) H Q;rw [Nat.zero_mul];exact hq
 refine hf _ ?_;cases b with
 | none=>exact hend
 | some a=>exact hend
theorem zfh {t yt:TypeId} {x y:Operand} {a:Nat} (ho:o.op=.binOp .and t x y yt) (hx:zn gm env x=some (.v (.int .i64 a))) (hy:zn gm env y=some (.v (.int .i64 1))) (h:a<9223372036854775808):Qk P gm env V o (.v (.int .i64 ((a % 2:Nat):Int))):=by
 refine wz ho hx hy ?_;show some (Value.int .i64 (IntKind.i64.wrap ((BitVec.ofInt 64 (a:Int) &&& BitVec.ofInt 64 1).toNat:Int)))=_;have:(BitVec.ofInt 64 (a:Int) &&& BitVec.ofInt 64 1).toNat=a % 2:=by
  rw [BitVec.toNat_and];have e1:(BitVec.ofInt 64 (a:Int)).toNat=a:=by
   rw [BitVec.toNat_ofInt];omega
  rw [e1];show a &&& 1=a % 2;exact Nat.and_one_is_mod a
 rw [this,we oQ]
end
class zi (P:Program) (t:TypeId) (g:outParam Bool) (n:outParam Nat):Prop where h:tySize P t=some (g,n):=by kernel_rfl
class zl (P:Program) (t:TypeId) (k:Nat) (o:outParam Nat) (g:outParam Bool) (n:outParam Nat):Prop where h:fieldOf P t k=some (o,g,n):=by kernel_rfl
class zF (P:Program) (t:TypeId) (e:outParam TypeId) (n:outParam Nat):Prop where h:slElem P t=some (e,n):=by kernel_rfl
class ArEl (P:Program) (t:TypeId) (m:outParam Nat) (e:outParam TypeId) (g:outParam Bool) (n:outParam Nat):Prop where h:arrElem P t=some (m,e,g,n):=by kernel_rfl
class Und (P:Program) (t:TypeId) (d:outParam TypeDesc):Prop where h:P.underlying t=some d:=by kernel_rfl
class TyZA (P:Program) (t:TypeId) (l:outParam (List AV)):Prop where h:tyZeroA P t=some l:=by kernel_rfl
class TyZ (P:Program) (t:TypeId) (l:outParam (List Value)):Prop where h:tyZero P t=some l:=by kernel_rfl
class BlOf (P:Program) (t:TypeId) (l:outParam (List (Nat×Nat))):Prop where h:bldOf P t=some l:=by kernel_rfl
class ApOf (P:Program) (t:TypeId) (e:outParam TypeId) (n b:outParam Nat):Prop where h:apOf P t=some (e,n,b):=by kernel_rfl
class InfO (P:Program) (t:TypeId) (i:outParam TypeInfo):Prop where h:P.info? t=some i:=by kernel_rfl
class Cal (P:Program) (g:FuncId):Prop where h:yj P g=true:=by kernel_rfl
class RgL (ops:Array Oper) (L:outParam (List Nat)):Prop where h:List.range ops.size=L
class Suc (n:Nat) (m:outParam Nat):Prop where h:n+1=m
class RgF (n:Nat) (l:List Oper) (L:outParam (List Nat)):Prop where h:List.range' n l.length=L
instance {n:Nat}:RgF n [] []:=⟨rfl⟩
instance:Suc 0 1:=⟨rfl⟩
instance:Suc 1 2:=⟨rfl⟩
instance:Suc 2 3:=⟨rfl⟩
instance:Suc 3 4:=⟨rfl⟩
instance:Suc 4 5:=⟨rfl⟩
instance:Suc 5 6:=⟨rfl⟩
instance:Suc 6 7:=⟨rfl⟩
instance:Suc 7 8:=⟨rfl⟩
instance:Suc 8 9:=⟨rfl⟩
instance:Suc 9 10:=⟨rfl⟩
instance:Suc 10 11:=⟨rfl⟩
instance:Suc 11 12:=⟨rfl⟩
instance:Suc 12 13:=⟨rfl⟩
instance:Suc 13 14:=⟨rfl⟩
instance:Suc 14 15:=⟨rfl⟩
instance:Suc 15 16:=⟨rfl⟩
instance:Suc 16 17:=⟨rfl⟩
instance:Suc 17 18:=⟨rfl⟩
instance:Suc 18 19:=⟨rfl⟩
instance:Suc 19 20:=⟨rfl⟩
instance:Suc 20 21:=⟨rfl⟩
instance:Suc 21 22:=⟨rfl⟩
instance:Suc 22 23:=⟨rfl⟩
instance:Suc 23 24:=⟨rfl⟩
instance:Suc 24 25:=⟨rfl⟩
instance:Suc 25 26:=⟨rfl⟩
instance:Suc 26 27:=⟨rfl⟩
instance:Suc 27 28:=⟨rfl⟩
instance:Suc 28 29:=⟨rfl⟩
instance:Suc 29 30:=⟨rfl⟩
instance:Suc 30 31:=⟨rfl⟩
instance:Suc 31 32:=⟨rfl⟩
instance:Suc 32 33:=⟨rfl⟩
instance:Suc 33 34:=⟨rfl⟩
instance:Suc 34 35:=⟨rfl⟩
instance:Suc 35 36:=⟨rfl⟩
instance:Suc 36 37:=⟨rfl⟩
instance:Suc 37 38:=⟨rfl⟩
instance:Suc 38 39:=⟨rfl⟩
instance:Suc 39 40:=⟨rfl⟩
instance:Suc 40 41:=⟨rfl⟩
instance:Suc 41 42:=⟨rfl⟩
instance:Suc 42 43:=⟨rfl⟩
instance:Suc 43 44:=⟨rfl⟩
instance:Suc 44 45:=⟨rfl⟩
instance:Suc 45 46:=⟨rfl⟩
instance:Suc 46 47:=⟨rfl⟩
instance:Suc 47 48:=⟨rfl⟩
instance:Suc 48 49:=⟨rfl⟩
instance:Suc 49 50:=⟨rfl⟩
instance:Suc 50 51:=⟨rfl⟩
instance:Suc 51 52:=⟨rfl⟩
instance:Suc 52 53:=⟨rfl⟩
instance:Suc 53 54:=⟨rfl⟩
instance:Suc 54 55:=⟨rfl⟩
instance:Suc 55 56:=⟨rfl⟩
instance:Suc 56 57:=⟨rfl⟩
instance:Suc 57 58:=⟨rfl⟩
instance:Suc 58 59:=⟨rfl⟩
instance:Suc 59 60:=⟨rfl⟩
instance:Suc 60 61:=⟨rfl⟩
instance:Suc 61 62:=⟨rfl⟩
instance:Suc 62 63:=⟨rfl⟩
instance:Suc 63 64:=⟨rfl⟩
instance:Suc 64 65:=⟨rfl⟩
instance:Suc 65 66:=⟨rfl⟩
instance:Suc 66 67:=⟨rfl⟩
instance:Suc 67 68:=⟨rfl⟩
instance:Suc 68 69:=⟨rfl⟩
instance:Suc 69 70:=⟨rfl⟩
instance:Suc 70 71:=⟨rfl⟩
instance:Suc 71 72:=⟨rfl⟩
instance:Suc 72 73:=⟨rfl⟩
instance:Suc 73 74:=⟨rfl⟩
instance:Suc 74 75:=⟨rfl⟩
instance:Suc 75 76:=⟨rfl⟩
instance:Suc 76 77:=⟨rfl⟩
instance:Suc 77 78:=⟨rfl⟩
instance:Suc 78 79:=⟨rfl⟩
instance:Suc 79 80:=⟨rfl⟩
instance {n m:Nat} {a:Oper} {l:List Oper} {L:List Nat} [i:Suc n m] [j:RgF m l L]:RgF n (a::l) (n::L):=⟨by rw [List.length_cons,List.range'_succ,i.h,j.h]⟩
instance {l:List Oper} {L:List Nat} [i:RgF 0 l L]:RgL l.toArray L:=⟨by rw [<- i.h,List.range_eq_range']; rfl⟩
def naL:Nat->List AV->List AV | 0,l=>l | k+1,l=>.any::naL k l
theorem nQ {a b:List AV} (h:a=b:=by simp only [naL]; rfl):a=b:=h
theorem TK.na {P:Program} {gm:Nat->Option Nat} {T:Goroutine->Hp->Prop} {Y:KX P gm T} {ds:List Nat} {k:List Item} {e e':List AV} {K:KV} (h:e=e') (t:TK Y ds k e' K):TK Y ds k e K:=h.symm ▸ t
section
variable {P:Program} {gm:Nat->Option Nat} {T:Goroutine->Hp->Prop} {Y:KX P gm T} {ds:List Nat} {k:List Item} {env env':List AV} {K K':KV} {ops:Array Oper} {i d:Nat} {o:Oper} {r:AV} {rest L:List Nat}
def slotsA (n:Nat) (l:List (Nat×AV)):List AV:=l.foldl (fun e x=>e.set x.1 x.2) (List.replicate n .any)
theorem TK.rgn {id:Nat} (hL:List.range ops.size=L) (h:TK Y ds (.inRegion ops L::k) env K):TK Y ds (.code (.region id ops false)::k) env K:=TK.regionL hL h
theorem TK.nrm (h:TK Y ds k env' K') (he:env=env') (hk:K=K'):TK Y ds k env K:=by subst he hk; exact h
theorem TK.condA {c:Operand} {x y:Code} {t:Bool} (hc:zI gm env c=.v (.bool t)) (h:(t=true->TK Y ds (.code x::k) env K)/\(t=false->TK Y ds (.code y::k) env K)):TK Y ds (.code (.cond c x y)::k) env K:=TK.cond hc h.1 h.2
theorem TK.condT {c:Operand} {x y:Code} (hc:zI gm env c=.v (.bool true)) (h:TK Y ds (.code x::k) env K):TK Y ds (.code (.cond c x y)::k) env K:=TK.cond hc (fun _=>h) (fun h=>by cases h)
theorem TK.condF {c:Operand} {x y:Code} (hc:zI gm env c=.v (.bool false)) (h:TK Y ds (.code y::k) env K):TK Y ds (.code (.cond c x y)::k) env K:=TK.cond hc (fun h=>by cases h) (fun _=>h)
structure Run (l:Nat) (G:Prop):Prop where
 go:G
theorem vx (n:Nat) {main:Bool} (hT:zo P main T) {g:FuncId} {fn:Func} {c:Code} {args:List AV} {Post:AV->KV->Prop} (hf:P.funcs[g]? =some fn)
  (h:∀ Y:KX P gm T,Y.X.ro=none->(∀ j ds env K' K1 K'' D1 D2 r,(j=none\/j=some .ret)->Split K' K1 D1->ds.Nodup->(∀ d∈ds,(d,.raw (.deferred (some [])))∈D1)->Split K1 K'' D2->(∀ A',zM K1 A'->resA P fn.results.toList env A'=some r)->Post r K''->∀ A',Kn Y K' A'->Y.X.L j ds env A') ->
   TK Y [] [.code c] (args++List.replicate (n - args.length) .any) K) (hb:fn.body=some c:=by rfl) (hn:fn.ntmps=n:=by rfl):zA P T gm g args K Post:=by
 subst hn;exact zce hT hf hb h
structure Hide (p:Prop):Prop where
 out:p
theorem Rn (c:Nat) {l m:Nat} {G:Prop} (h:Run m G) (hc:l % 10=c) (hm:l / 10=m):Run l G:=⟨h.go⟩
theorem Rw (c:Nat) {l m:Nat} {G:Prop} (h:Run m G) (h0:l % 10=0) (hc:l / 10 % 100=c) (hm:l / 1000=m):Run l G:=⟨h.go⟩
theorem Run.s {l:Nat} {A B:Prop} (f:A->B) (h:Run l A):Run l B:=⟨f h.go⟩
theorem au (l:Nat) {G G':Prop} (h:G') (hs:Hide G'->Run l G:=by
 intro hid;refine Run.s (fun h=>TK.nrm h (by first | ((with_reducible show zO _ _ _=_); first | exact zu rfl tQ | exact putN rfl) | (simp only [putAll,List.zip_cons_cons,List.zip_nil_right,slotsA,List.foldl_cons,List.foldl_nil,List.replicate,List.set,List.cons_append,List.nil_append,List.length_cons,List.length_nil,Nat.reduceAdd,Nat.reduceSub,Nat.zero_add]; rfl) | rfl) (by first | (simp only [cA]; rfl) | rfl)) ?_;repeat (first
  | (refine Rn 1 ?_ rfl rfl; refine Run.s (fun h=>TK.a rfl (zh rfl rfl) h) ?_)
  | (refine Rn 5 ?_ rfl rfl; refine Run.s (fun h=>TK.a rfl (zD rfl rfl) h) ?_)
  | (refine Rn 3 ?_ rfl rfl; refine Run.s (fun h=>TK.regionEnd h) ?_)
  | (refine Rn 2 ?_ rfl rfl; refine Run.s (fun h=>TK.seq h) ?_)
  | (refine Rn 4 ?_ rfl rfl; refine Run.s (fun h=>TK.rgn RgL.h h) ?_)
  | (refine Rn 7 ?_ rfl rfl; refine Run.s (fun h=>TK.a rfl (q_cmp rfl rfl rfl rfl) h) ?_)
  | (refine Rw 67 ?_ rfl rfl rfl; refine Run.s (fun h=>TK.a rfl (zg rfl rfl zl.h dQ) h) ?_)
  | (refine Rw 68 ?_ rfl rfl rfl; refine Run.s (fun h=>TK.a rfl (ya rfl rfl zi.h mQ rfl) h) ?_)
  | (refine Rw 69 ?_ rfl rfl rfl; refine Run.s (fun h=>TK.a rfl (zm rfl rfl zi.h mQ rfl) h) ?_)
  | (refine Rn 6 ?_ rfl rfl; refine Run.s (fun h=>TK.a rfl (yf rfl rfl rfl) h) ?_)
  | (refine Rn 8 ?_ rfl rfl; refine Run.s (fun h=>TK.unwanted rfl rfl (zu rfl tQ) h) ?_)
  | (refine Rw 12 ?_ rfl rfl rfl; refine Run.s (fun h=>TK.skip h) ?_)
  | (refine Rw 13 ?_ rfl rfl rfl; refine Run.s (fun h=>TK.block h) ?_)
  | (refine Rw 14 ?_ rfl rfl rfl; refine Run.s (fun h=>TK.inBlock h) ?_)
  | (refine Rw 15 ?_ rfl rfl rfl; refine Run.s (fun h=>TK.label h) ?_)
  | (refine Rw 16 ?_ rfl rfl rfl; refine Run.s (fun h=>TK.exit rfl h) ?_)
  | (refine Rw 17 ?_ rfl rfl rfl; refine Run.s (fun h=>TK.st rfl rfl rfl (zX rfl rfl zi.h rfl rfl mQ rfl) uQ (putN rfl) h) ?_)
  | (refine Rw 18 ?_ rfl rfl rfl; refine Run.s (fun h=>TK.condT rfl h) ?_)
  | (refine Rw 19 ?_ rfl rfl rfl; refine Run.s (fun h=>TK.condF rfl h) ?_)
  | (refine Rn 9 ?_ rfl rfl; refine Run.s (fun h=>TK.condA rfl h) ?_)
  | (refine Rw 21 ?_ rfl rfl rfl; refine Run.s (fun h=>TK.newP rfl rfl rfl (n_box rfl rfl) (fun _=>(zu rfl tQ)) h) ?_)
  | (refine Rw 22 ?_ rfl rfl rfl; refine Run.s (fun h=>TK.newP rfl rfl rfl (yL rfl TyZA.h) (fun _=>(zu rfl tQ)) h) ?_)
  | (refine Rw 23 ?_ rfl rfl rfl; refine Run.s (fun h=>TK.a rfl (q_add rfl rfl rfl oQ) h) ?_)
  | (refine Rw 24 ?_ rfl rfl rfl; refine Run.s (fun h=>TK.a rfl (q_sub rfl rfl rfl oQ) h) ?_)
  | (refine Rw 25 ?_ rfl rfl rfl; refine Run.s (fun h=>TK.a rfl (yg rfl rfl rfl) h) ?_)
  | (refine Rw 26 ?_ rfl rfl rfl; refine Run.s (fun h=>TK.a rfl (yF rfl rfl rfl) h) ?_)
  | (refine Rw 27 ?_ rfl rfl rfl; refine Run.s (fun h=>TK.a rfl (ziC rfl rfl rfl rfl) h) ?_)
  | (refine Rw 28 ?_ rfl rfl rfl; refine Run.s (fun h=>TK.a rfl (q_len rfl rfl rfl Und.h) h) ?_)
  | (refine Rw 29 ?_ rfl rfl rfl; refine Run.s (fun h=>TK.a rfl (zgq rfl rfl Und.h) h) ?_)
  | (refine Rw 30 ?_ rfl rfl rfl; refine Run.s (fun h=>TK.a rfl (q_not rfl rfl) h) ?_)
  | (refine Rw 31 ?_ rfl rfl rfl; refine Run.s (fun h=>TK.a rfl (zhw rfl rfl zl.h rfl) h) ?_)
  | (refine Rw 32 ?_ rfl rfl rfl; refine Run.s (fun h=>TK.a rfl (uj rfl rfl rfl) h) ?_)
  | (refine Rw 33 ?_ rfl rfl rfl; refine Run.s (fun h=>TK.a rfl (ziA rfl rfl rfl rfl) h) ?_)
  | (refine Rw 34 ?_ rfl rfl rfl; refine Run.s (fun h=>TK.a rfl (ziz rfl rfl rfl Und.h rfl) h) ?_)
  | (refine Rw 35 ?_ rfl rfl rfl; refine Run.s (fun h=>TK.a rfl (yV rfl rfl Und.h Und.h rfl) h) ?_)
  | (refine Rw 36 ?_ rfl rfl rfl; refine Run.s (fun h=>TK.a rfl (zQ rfl rfl rfl zF.h oQ oQ) h) ?_)
  | (refine Rw 37 ?_ rfl rfl rfl; refine Run.s (fun h=>TK.a rfl (kB rfl rfl rfl zF.h mQ oQ oQ) h) ?_)
  | (refine Rw 38 ?_ rfl rfl rfl; refine Run.s (fun h=>TK.a rfl (yE (l:=[_]) rfl TyZ.h BlOf.h rfl) h) ?_)
  | (refine Rw 39 ?_ rfl rfl rfl; refine Run.s (fun h=>TK.a rfl (yE (l:=[_,_]) rfl TyZ.h BlOf.h rfl) h) ?_)
  | (refine Rw 40 ?_ rfl rfl rfl; refine Run.s (fun h=>TK.a rfl (yE (l:=[_,_,_]) rfl TyZ.h BlOf.h rfl) h) ?_)
  | (refine Rw 41 ?_ rfl rfl rfl; refine Run.s (fun h=>TK.a rfl (yE (l:=[_,_,_,_]) rfl TyZ.h BlOf.h rfl) h) ?_)
  | (refine Rw 42 ?_ rfl rfl rfl; refine Run.s (fun h=>TK.a rfl (yE (l:=[_,_,_,_,_]) rfl TyZ.h BlOf.h rfl) h) ?_)
  | (refine Rw 43 ?_ rfl rfl rfl; refine Run.s (fun h=>TK.a rfl (yE (l:=[_,_,_,_,_,_]) rfl TyZ.h BlOf.h rfl) h) ?_)
  | (refine Rw 44 ?_ rfl rfl rfl; refine Run.s (fun h=>TK.a rfl (yE (l:=[_,_,_,_,_,_,_]) rfl TyZ.h BlOf.h rfl) h) ?_)
  | (refine Rw 45 ?_ rfl rfl rfl; refine Run.s (fun h=>TK.a rfl (yE (l:=[_,_,_,_,_,_,_,_]) rfl TyZ.h BlOf.h rfl) h) ?_)
  | (refine Rw 46 ?_ rfl rfl rfl; refine Run.s (fun h=>TK.a rfl (yE (l:=[_,_,_,_,_,_,_,_,_]) rfl TyZ.h BlOf.h rfl) h) ?_)
  | (refine Rw 47 ?_ rfl rfl rfl; refine Run.s (fun h=>TK.a rfl (yE (l:=[_,_,_,_,_,_,_,_,_,_]) rfl TyZ.h BlOf.h rfl) h) ?_))
 exact Run.mk hid.out):G:=(hs ⟨h⟩).go
def RetK (Y:KX P gm T) (vs:List ResultVar) (Post:AV->KV->Prop):Prop :=
 ∀ j env K' K'' D r,(j=none\/j=some .ret)->Split K' K'' D->(∀ A',zM K' A'->resA P vs env A'=some r)->Post r K''->∀ A',Kn Y K' A'->Y.X.L j [] env A'
theorem zp (n:Nat) {main:Bool} (hT:zo P main T) {g:FuncId} {fn:Func} {c:Code} {args:List AV} {Post:AV->KV->Prop} (hf:P.funcs[g]? =some fn)
  (h:∀ Y:KX P gm T,RetK Y fn.results.toList Post->TK Y [] [.code c] (args++List.replicate (n - args.length) .any) K) (hb:fn.body=some c:=by rfl) (hn:fn.ntmps=n:=by rfl):zA P T gm g args K Post:=by
 subst hn;exact zcd hT hf hb h
def Top (P:Program) (gm:Nat->Option Nat) (g:FuncId) (args:List AV) (K:KV) (Post:AV->KV->Prop):Prop :=
 ∀ (R:Value->World->Prop) (A:List AObj) (φ:Nat->Loc3) (H:Hp) (vs:Array Value),zM K A->(keys K).Nodup->RelG gm φ A.length->RelH φ A nF H->zG φ A.length args vs ->
  (∀ r K' φ' A' H' v w,Post r K'->(∀ i,i<A.length->i∉keys K->A'[i]? =A[i]?)->Agr φ φ' A.length->RelH φ' A' nF H'->RelV φ' A'.length r v->zY H' w->R v w) ->
  BT P (AtRet P g R) (G (Frame.enter P g vs .normal) []) H
theorem topI (n:Nat) {g:FuncId} {fn:Func} {c:Code} {t:Tmp} {args:List AV} {Post:AV->KV->Prop} (hf:P.funcs[g]? =some fn)
  (h:∀ (R:Value->World->Prop) (Y:KX P gm (BT P (AtRet P g R))),RetK Y fn.results.toList Post->TK Y [] [.code c] (args++List.replicate (n - args.length) .any) K) (hb:fn.body=some c:=by rfl) (hr:fn.results=#[.tmp t]:=by rfl) (hn:fn.ntmps=n:=by rfl) :
  Top P gm g args K Post:=fun R A φ H vs hv hnd hg hH hargs hR=>by
 subst hn;exact zez hf hb (fun ts=>zhz hr ts) hv hnd hg hH hargs hR (h R)
theorem res_0:∀ A,zM K A->resA P [] env A=some (.tup []):=wK .nil rfl
theorem res_2 {v1 v2:ResultVar} {r1 r2:AV} (h1:ResK P K env v1 r1) (h2:ResK P K env v2 r2):∀ A,zM K A->resA P [v1,v2] env A=some (.tup [r1,r2]):=wK (.cons h1 (.cons h2 .nil)) rfl
theorem res_3 {v1 v2 v3:ResultVar} {r1 r2 r3:AV} (h1:ResK P K env v1 r1) (h2:ResK P K env v2 r2) (h3:ResK P K env v3 r3):∀ A,zM K A->resA P [v1,v2,v3] env A=some (.tup [r1,r2,r3]):=wK (.cons h1 (.cons h2 (.cons h3 .nil))) rfl
theorem res_4 {v1 v2 v3 v4:ResultVar} {r1 r2 r3 r4:AV} (h1:ResK P K env v1 r1) (h2:ResK P K env v2 r2) (h3:ResK P K env v3 r3) (h4:ResK P K env v4 r4):∀ A,zM K A->resA P [v1,v2,v3,v4] env A=some (.tup [r1,r2,r3,r4]):=wK (.cons h1 (.cons h2 (.cons h3 (.cons h4 .nil)))) rfl
theorem TK.rt {vs:List ResultVar} {Post:AV->KV->Prop} {D:KV} (hr:RetK Y vs Post) (R:KV) (h:Post r R) (hs:Split K R D:=by repeat (first | exact Split.none _ | exact Split.all _ | (apply Split.rem; repeat (first | exact Rem.head | apply Rem.tail)) | apply Split.right)) (hres:∀ A,zM K A->resA P vs env A=some r:=by first | exact yC (zU rfl) | exact res_2 (zU rfl) (zU rfl) | exact res_3 (zU rfl) (zU rfl) (zU rfl) | exact res_4 (zU rfl) (zU rfl) (zU rfl) (zU rfl) | exact res_2 (yP rfl zi.h mQ rfl) (zU rfl) | exact yC (yP rfl zi.h mQ rfl) | exact yC (yN rfl zi.h mQ rfl) | exact res_2 (yN rfl zi.h mQ rfl) (yN rfl zi.h mQ rfl) | exact res_3 (yP rfl zi.h mQ rfl) (yP rfl zi.h mQ rfl) (zU rfl) | exact res_0):TK Y [] (.code .ret::k) env K :=
 TK.leave (.ret _) fun A hA=>hr _ _ _ _ _ _ (.inr rfl) hs hres h A hA
theorem TK.rt0 {vs:List ResultVar} {Post:AV->KV->Prop} {D:KV} (hr:RetK Y vs Post) (R:KV) (h:Post r R) (hs:Split K R D:=by repeat (first | exact Split.none _ | exact Split.all _ | (apply Split.rem; repeat (first | exact Rem.head | apply Rem.tail)) | apply Split.right)) (hres:∀ A,zM K A->resA P vs env A=some r:=by first | exact yC (zU rfl) | exact res_2 (zU rfl) (zU rfl) | exact res_3 (zU rfl) (zU rfl) (zU rfl) | exact res_4 (zU rfl) (zU rfl) (zU rfl) (zU rfl) | exact res_2 (yP rfl zi.h mQ rfl) (zU rfl) | exact yC (yP rfl zi.h mQ rfl) | exact yC (yN rfl zi.h mQ rfl) | exact res_2 (yN rfl zi.h mQ rfl) (yN rfl zi.h mQ rfl) | exact res_3 (yP rfl zi.h mQ rfl) (yP rfl zi.h mQ rfl) (zU rfl) | exact res_0):TK Y [] [] env K :=
 TK.leave .fin fun A hA=>hr _ _ _ _ _ _ (.inl rfl) hs hres h A hA
theorem TK.rta {vs:List ResultVar} {Post:AV->KV->Prop} (hr:RetK Y vs Post) (h:Post r K) (hres:∀ A,zM K A->resA P vs env A=some r:=by first | exact yC (zU rfl) | exact res_2 (zU rfl) (zU rfl) | exact res_3 (zU rfl) (zU rfl) (zU rfl) | exact res_4 (zU rfl) (zU rfl) (zU rfl) (zU rfl) | exact res_2 (yP rfl zi.h mQ rfl) (zU rfl) | exact yC (yP rfl zi.h mQ rfl) | exact yC (yN rfl zi.h mQ rfl) | exact res_2 (yN rfl zi.h mQ rfl) (yN rfl zi.h mQ rfl) | exact res_3 (yP rfl zi.h mQ rfl) (yP rfl zi.h mQ rfl) (zU rfl) | exact res_0):TK Y [] (.code .ret::k) env K :=
 TK.leave (.ret _) fun A hA=>hr _ _ _ _ _ _ (.inr rfl) (.all _) hres h A hA
theorem TK.rt0a {vs:List ResultVar} {Post:AV->KV->Prop} (hr:RetK Y vs Post) (h:Post r K) (hres:∀ A,zM K A->resA P vs env A=some r:=by first | exact yC (zU rfl) | exact res_2 (zU rfl) (zU rfl) | exact res_3 (zU rfl) (zU rfl) (zU rfl) | exact res_4 (zU rfl) (zU rfl) (zU rfl) (zU rfl) | exact res_2 (yP rfl zi.h mQ rfl) (zU rfl) | exact yC (yP rfl zi.h mQ rfl) | exact yC (yN rfl zi.h mQ rfl) | exact res_2 (yN rfl zi.h mQ rfl) (yN rfl zi.h mQ rfl) | exact res_3 (yP rfl zi.h mQ rfl) (yP rfl zi.h mQ rfl) (zU rfl) | exact res_0):TK Y [] [] env K :=
 TK.leave .fin fun A hA=>hr _ _ _ _ _ _ (.inl rfl) (.all _) hres h A hA
theorem TK.kp {D:KV} (R:KV) (h:TK Y ds k env R) (hs:Split K R D:=by repeat (first | exact Split.none _ | exact Split.all _ | (apply Split.rem; repeat (first | exact Rem.head | apply Rem.tail)) | apply Split.right)):TK Y ds k env K:=TK.keep hs h
theorem TK.cl {fo:Operand} {ars:Array Operand} {at_:Array TypeId} {g:FuncId} {fs cp args:List AV} {Kf R:KV} {Post:AV->KV->Prop} (ho:ops[i]? =some o) (hop:o.op=.call { callee:=.value fo,args:=ars,argTypes:=at_ })
  (hf:zn gm env fo=some (.fn g fs cp)) (hargs:fs++ars.toList.map (zI gm env)++cp=args) (hc:zA P T gm g args Kf Post)
  (h:∀ r K',Post r K'->TK Y ds (.inRegion ops rest::k) (env.set d r) (K'++R)) (hs:Split K Kf R:=by repeat (first | exact Split.none _ | exact Split.all _ | (apply Split.rem; repeat (first | exact Rem.head | apply Rem.tail)) | apply Split.right)) (hw:zK ops env o=some true:=by rfl) (hg:yj P g=true:=by exact Cal.h) (hx:o.dst=some d:=by rfl):TK Y ds (.inRegion ops (i::rest)::k) env K :=
 TK.call' ho hw hop hf hg hargs hc hs fun r K' hp=>by rw [hx]; exact h r K' hp
theorem TK.sp (d:Nat) {t:Bool} {env1 env0:List AV} (k1:t=true->TK Y ds k env1 K) (k0:t=false->TK Y ds k env0 K) (hd:env[d]? =some (.v (.bool t)):=by rfl) (h1:env.set d (.v (.bool true))=env1:=by simp only [List.set]; rfl) (h0:env.set d (.v (.bool false))=env0:=by simp only [List.set]; rfl):TK Y ds k env K:=TK.splitN d hd h1 h0 k1 k0
theorem TD.sp {pend:List Pd} (d:Nat) {t:Bool} {env1 env0:List AV} (k1:t=true->TD Y ds ops k pend L env1 K) (k0:t=false->TD Y ds ops k pend L env0 K) (hd:env[d]? =some (.v (.bool t)):=by rfl) (h1:env.set d (.v (.bool true))=env1:=by simp only [List.set]; rfl) (h0:env.set d (.v (.bool false))=env0:=by simp only [List.set]; rfl):TD Y ds ops k pend L env K:=TD.splitN d hd h1 h0 k1 k0
end
end Go.Vel
namespace Go.Vel
open Go Go.Conc
open Go.ConcN (sumTo upd upd_ne upd_same)
open Go.ConcM (OsLater MuAt muA msA)
open Go.ConcR (KK wgBlock WgAt stA smA mk)
open Mx (TT Th Mn S4 auto Mv4 ok4 bl4 kd dl MPc Pc okW okM Mv)
structure Sy (P:Program) where
 n:Nat
 lkr:Nat->Bool
 tM:TypeId
 tW:TypeId
 Mu:Nat
 Wg:Nat
 hne:Mu≠Wg
 GI:(Nat->Bool)->Hp->Prop
 Stop:Goroutine->Hp->Prop
section
variable {P:Program}
def Sy.sh (y:Sy P) (w:World) (s:S4):Prop:=MuAt y.tM y.Mu w s.mu s.ms/\WgAt y.tW y.Wg w ((s.v:Int)*KK+s.wt) s.ws
def Sy.S2 (y:Sy P) (b:Nat):Prop:=b=y.Mu\/b=y.Wg
abbrev Sy.A (y:Sy P):Aut:=auto y.n y.lkr
def Sy.all (y:Sy P):Nat->Bool:=fun i=>y.lkr i&&decide (i<y.n)
def Sy.At (y:Sy P) (main:Bool) (Ch:Nat->Goroutine->Hp->Prop) (k i:Nat) (T:TT) (x:Nat->Bool):Goroutine->Hp->Prop:=AtD P y.A y.sh y.S2 (muA y.Mu) (stA y.Wg) y.GI y.all y.Stop main Ch k i T x
def Sy.Sg (y:Sy P) (main:Bool) (Ch:Nat->Goroutine->Hp->Prop) (k i:Nat) (T:TT) (x:Nat->Bool):Goroutine->Hp->Prop:=Seg P main (y.A.aft T) (LiveS y.A y.sh) (y.At main Ch k i T x)
def Sy.W (y:Sy P) (k i:Nat) (T:TT) (x:Nat->Bool):Goroutine->Hp->Prop:=y.Sg false (fun _ _ _=>False) k i T x
def Sy.Chd (y:Sy P) (j:Nat) (ch:Goroutine) (Hc:Hp):Prop:=∀ k x,Seg P false false (LiveS y.A y.sh) (y.At false (fun _ _ _=>False) k j (y.A.st j) x) ch Hc
def Sy.M (y:Sy P) (k:Nat) (T:TT) (x:Nat->Bool):Goroutine->Hp->Prop:=y.Sg true y.Chd k 0 T x
theorem Sy.shBy (y:Sy P):ShBy y.S2 (S:=S4) y.sh:=fun w w' s h hb=>⟨(hb y.Mu (.inl rfl)).trans h.1,(hb y.Wg (.inr rfl)).trans h.2⟩
theorem zgy {main:Bool} {Live:World->Prop} {S:Goroutine->Hp->Prop}:zo P main (Seg P main false Live S):=fun g H hr h=>by
 refine .step hr (fun w hw _=>?_) fun w g' w' es hw _ he=>?_
 ·obtain ⟨g',w',es,h1,h2,h3,_⟩:=h w hw;exact ⟨g',w',es,h1,h2,h3,fun e=>by cases e⟩
 ·obtain ⟨g'',w'',es',h1,_,_,h4⟩:=h w hw;rw [he] at h1;cases h1;exact h4
theorem zdj (y:Sy P) {Ψ:Goroutine->World->Prop} {g:Goroutine} {H H' L:Hp} (hn:1<=y.n/\y.n<=31) (hM:H y.Mu=some (true,Go.ConcM.muBlock y.tM 0 0)) (hW:H y.Wg=some (true,wgBlock y.tW 0 0)) (hr:g.status=.running)
  (h1:H'.Sub H) (h2:L.Sub H) (h3:H'.Dis L) (h4:∀ b x,H' b=some x->¬ y.S2 b) (h5:∀ b x,L b=some x->¬ y.S2 b) (hG:y.GI (fun _=>false) L) (hS:∀ a Hs,y.Stop a Hs->BT P Ψ a Hs)
  (hseg:∀ k,y.M k (.m { pc:=.a0,j:=0 }) (fun _=>false) g H'):BT P Ψ g H:=by
 intro w D hf hD hB gs sl t q h0 hL hP hN;have hpos:0<gs.size:=(mG.1 h0).1
 let s0:S4:=⟨0,0,0,0,0⟩
 let f:Nat->TT:=fun i=>if i=0 then .m { pc:=.a0,j:=0 } else .w { pc:=.quit }
 have hfit:∀ {K:Hp},K.Sub H->zY K w:=fun hK=>ub hf hK;have hnoD:∀ {K:Hp},K.Sub H->∀ b x,K b=some x->¬ D b:=fun hK b x hb=>by
  obtain ⟨rw',hx,_⟩:=hK b x.1 x.2 hb;exact hD b _ hx
 have e0:gid gs.size 0=0:=rfl;have hsh:y.sh w s0:=⟨hf _ _ _ hM,by
  show w.heap[y.Wg]? =some (wgBlock y.tW (((0:Nat):Int)*KK+(0:Nat)) (0:Nat));rw [hf _ _ _ hW];simp⟩
 have hf0:f (gid gs.size 0)=.m { pc:=.a0,j:=0 }:=rfl;have hk0:y.A.kd (.m { pc:=.a0,j:=0 })=.book:=rfl;have hAI:Mx.AI y.n y.lkr 0 (fun q=>f (gid gs.size q)) s0:=by
  refine ⟨by rw [hf0]; rfl,fun i hi=>by omega,?_,Mx.inv_none.congr (f:=fun _=>{ pc:=.quit }) fun i hi=>by omega,fun i hi=>by omega,fun i hi=>by omega,?_⟩
  ·rw [hf0];exact ⟨rfl,oQ,hn.2,hn.1,fun _=>by omega,fun e=>(by cases e),by simp [Mx.mn],fun e=>by cases e⟩
  ·rw [hf0];simp [Mx.mn,Mx.Gq,Mx.S,s0]
 let φ:=Mx.Φ4 y.n 0 (fun q=>f (gid gs.size q)) s0
 let F:Nat->WS:=fun i=>if i=0 then .go true false (Sq P y.A y.sh y.S2 (muA y.Mu) (stA y.Wg) y.GI y.all y.Stop gs.size 0 (φ+1) (f 0) (fun _=>false)) g H' else if i<gs.size then .left (q i) else .left 0
 have hthr:∀ i,Thr gs.size 0 i↔i=0:=fun i=>by unfold Thr; omega
 have hMI:MI P y.A y.sh y.S2 (muA y.Mu) (stA y.Wg) y.GI y.all y.Stop (fun b=>y.S2 b\/D b) (Mx.AI y.n y.lkr) (Mx.Φ4 y.n) gs.size gs w t 0 s0 f F (some L) (fun _=>false) φ:=by
  refine ⟨hpos,rfl,hsh,hAI,mL _,fun i x hx hi=>?_,fun i x hx hi hm=>?_,fun i hi=>?_,hL.above,?_,.inl ⟨L,rfl,hG,hfit h2,fun i hi=>?_⟩,fun i hi=>by omega,fun i _=>rfl⟩
  ·have:=(hthr i).1 hi;subst this;rw [h0] at hx;cases hx;refine ⟨rfl,rfl,fun e=>(by cases hk0.symm.trans e),hP.hears,hfit h1,fun e=>(by cases e),φ+1,fun _=>false,rfl,Nat.lt_succ_self _,fun e=>(by cases hk0.symm.trans e),.inl ⟨rfl,hr,?_⟩⟩;have:=hseg (φ+1);unfold Sq;rw [if_pos rfl];exact this
  ·refine ⟨q i,?_,hL.old i x hi hx⟩;show (if i=0 then _ else if i<gs.size then _ else _)=_;rw [if_neg oQ,if_pos hm]
  ·show (if i=0 then _ else if i<gs.size then _ else _)=_;rw [if_neg oQ,if_neg oQ]
  ·have hT:=TI.init (Sb:=fun b=>y.S2 b\/D b) (aM:=muA y.Mu) (aW:=stA y.Wg) hP (fun l hl=>.inr hl) (H:=H') (L:=L) h3 (fun b x hb hs=>hs.elim (h4 b x hb) (hnoD h1 b x hb)) (fun b x hb hs=>hs.elim (h5 b x hb) (hnoD h2 b x hb))
    (fun b hs=>hs.elim (fun e=>by rcases e with rfl | rfl; exact hf.lt hM; exact hf.lt hW) (hB b)) hN
   refine ⟨hT.clean,hT.low,fun idx a ha hm hs=>(hT.quiet idx a ha hm hs).imp id fun h k hk=>h k ((hthr k).1 hk),fun idx a ha hm=>(hT.fin idx a ha hm).imp id fun x=>x.imp (fun ⟨i,e1,e2⟩=>⟨i,e1,(hthr i).2 e2,by subst e2; rfl⟩) id,fun k hk idx a ha hm rw' o hb hor=>?_,fun K e idx a ha hm rw' o hb hor=>(hT.lk K e idx a ha hm rw' o hb hor).imp (fun h k hk=>h k ((hthr k).1 hk.1)) id,fun k l b o hk hl hne=>?_,fun K e k hk=>?_,hT.norel,fun k hk b x hb=>?_,hT.sbL,hT.sbn,fun k hk=>hk.1⟩
   ·have:=(hthr k).1 hk.1;subst this;exact hT.hk 0 rfl idx a ha hm rw' o hb hor
   ·exact absurd (((hthr k).1 hk.1).trans ((hthr l).1 hl.1).symm) hne
   ·have:=(hthr k).1 hk.1;subst this;exact hT.dl K e 0 rfl
   ·have:=(hthr k).1 hk.1;subst this;exact hT.sb 0 rfl b x hb
  ·have:=(hthr i).1 hi;subst this;exact fun e=>by cases hk0.symm.trans e
 obtain ⟨N,gs',w',sl',t',q',a',Hs,m1,m2,_,m4,m5,m6,m7,m8,m9,m9',m10,m11,m12⟩:=zdn (Mx.auto_ok y.n y.lkr) y.shBy (fun b hb=>.inl hb) (.inl (.inl rfl)) (.inl (.inr rfl)) φ gs w sl t 0 s0 f F (some L) (fun _=>false) hMI;obtain ⟨N2,gs2,a2,w2,sl2,t2,q2,D2,r1,r2,r3,r4,r5,r6,r7⟩:=hS a' Hs m4 w' _ m5 m9 m9' gs' sl' t' q' m2 m6 m7 m8;exact ⟨N+N2,gs2,a2,w2,sl2,t2,q2,D2,by rw [vC N N2 _ _ _ _ m1]; exact r1,r2,r3,r4,r5,m11.trans r6,r7.trans m12⟩
end
end Go.Vel
namespace Go.Vel
open Go Go.Conc
open Go.ConcN (sumTo upd upd_ne upd_same)
open Go.ConcM (OsLater MuAt muA msA)
open Go.ConcR (KK wgBlock WgAt stA smA mk rd wr)
open Mx (TT Th Mn S4 auto Mv4 ok4 bl4 kd dl MPc Pc okW okM Mv)
section
variable {P:Program} {gm:Nat->Option Nat}
def YU {T:Goroutine->Hp->Prop} {main:Bool} (hT:zo P main T) (gm:Nat->Option Nat) (φ0:Nat->Loc3) (kd:CallKind) (hkd:kd≠.early) (f:FuncId) (cs:List Frame) (de:List Deferred) (A0:List AObj) (K0:List Nat):KX P gm T :=
 ⟨{ main,hT,φ0,n0:=A0.length,F:=nF,hF0:=rfl,kd,hkd,f,ro:=none,cs,dd:=de,
     L:=fun j ds env A=>∀ φ H ts k,Leave j k->Agr φ0 φ A0.length->A0.length<=A.length->RelG gm φ A.length->(∀ d∈ds,d<A.length)->RelH φ A nF H->zG φ A.length env ts->T (G (fr kd f none ts (dsC φ ds++de) k) cs) H,
     hL:=fun j k ds env A φ H ts hl hL a b c d e f=>hL φ H ts k hl a b c d e f },A0,K0⟩
def bf (kd:CallKind) (f:FuncId):Frame:={ (default:Frame) with fn:=f,kind:=kd }
theorem fr_at (kd:CallKind) (f:FuncId) (ts:Array Value) (ds:List Deferred) (k:List Item):fr kd f none ts ds k=(bf kd f).at ⟨ts,ds⟩ k:=rfl
theorem yd (ts:Array Value) (ds:List Deferred) (d:Option Tmp) (v:Value):(⟨ts,ds⟩:Act).put d v=⟨putT ts d v,ds⟩:=by cases d <;> rfl
theorem yH (ts:Array Value) (ds:List Deferred):(⟨ts,ds⟩:Act).eval=evT ts:=by funext x; cases x <;> rfl
theorem vl {main:Bool} {S2:Nat->Prop} (d:Nat):EvB main S2 d d #[]:=⟨rfl,fun e he=>by simp at he,fun j e he=>by simp at he⟩
theorem vP {main:Bool} {S2:Nat->Prop} (d:Nat):EvB main S2 d (d+1) #[mk .disable]:=⟨rfl,fun e he=>.inl (by simp at he; subst he; rfl),fun j e he=>.inl (by
 have:=mH he;simp at this; subst this; rfl)⟩
theorem kL {main:Bool} {S2:Nat->Prop} (d:Nat):EvB main S2 (d+1) d #[mk .enable]:=⟨rfl,fun e he=>.inl (by simp at he; subst he; rfl),fun j e he=>.inl (by
 have:=mH he;simp at this; subst this; rfl)⟩
theorem zad {main:Bool} {S2:Nat->Prop} {d:Nat} (hd:0<d) {es:Array Event} (h:∀ e∈es,Tch main S2 e/\e.loc≠.mark .disable/\e.loc≠.mark .enable):EvB main S2 d d es:=by
 refine ⟨deafBehind_still (fun e he=>(h e he).2) d,fun e he=>.inr (h e he).1,fun j e he=>.inr ?_⟩;have hx:∀ e'∈es.extract 0 j,e'.loc≠.mark .disable/\e'.loc≠.mark .enable:=fun e' he'=>by
  have hm:e'∈es.toList.take j:=by
   obtain ⟨l⟩:=es;simpa using he'
  exact (h e' (by simpa using List.mem_of_mem_take hm)).2
 rw [deafBehind_still hx d];exact hd
theorem wL {main:Bool} {S2:Nat->Prop} {a:Addr} (h:S2 a.block) (x:Bool):Tch main S2 ⟨.cell a,x,true⟩/\(⟨.cell a,x,true⟩:Event).loc≠.mark .disable/\(⟨.cell a,x,true⟩:Event).loc≠.mark .enable:=⟨.inl ⟨a,x,rfl,h⟩,by simp,by simp⟩
theorem evb_r {main:Bool} {S2:Nat->Prop} {d:Nat} (hd:0<d) {a:Addr} (h:S2 a.block):EvB main S2 d d #[⟨.cell a,false,true⟩]:=zad hd fun e he=>by simp at he; subst he; exact wL h _
theorem vQ {main:Bool} {S2:Nat->Prop} {d:Nat} (hd:0<d) {a:Addr} (h:S2 a.block):EvB main S2 d d #[⟨.cell a,false,true⟩,⟨.cell a,true,true⟩]:=zad hd fun e he=>by
 simp at he;rcases he with rfl | rfl
 ·exact wL h _
 ·exact wL h _
theorem zfS {S2:Nat->Prop} {d:Nat} (hd:0<d) {a:Addr} (h:S2 a.block) {m:Mark} (hm:m=.read a\/m=.write a):EvB true S2 d d #[mk m]:=zad hd fun e he=>by
 simp at he; subst he;refine ⟨.inr ⟨rfl,a,?_,h⟩,?_,?_⟩
 ·rcases hm with rfl | rfl
  ·exact .inl rfl
  ·exact .inr rfl
 ·rcases hm with rfl | rfl <;> simp [mk]
 ·rcases hm with rfl | rfl <;> simp [mk]
theorem zac {main:Bool} {S2:Nat->Prop} {d:Nat} (hd:0<d) {a:Addr} (h:S2 a.block):EvB main S2 d d (semEvents a):=by
 refine ⟨by simp [semEvents,deafBehind],fun e he=>?_,fun j e he=>?_⟩
 ·simp [semEvents] at he;rcases he with rfl | rfl | rfl | rfl
  ·exact .inl rfl
  ·exact .inr (wL h _).1
  ·exact .inr (wL h _).1
  ·exact .inl rfl
 ·have hj:j<4:=(mG.1 he).1;have:j=0\/j=1\/j=2\/j=3:=by omega
  rcases this with rfl | rfl | rfl | rfl
  ·left; simp [semEvents] at he; subst he; rfl
  ·right; simp [semEvents,deafBehind]
  ·right; simp [semEvents,deafBehind]
  ·left; simp [semEvents] at he; subst he; rfl
theorem ki {S2:Nat->Prop} (w:World):Eff S2 w w:=⟨rfl,rfl,rfl,.refl _,fun _ _=>rfl⟩
theorem kv {S2:Nat->Prop} {w:World} {a:Addr} (h:S2 a.block) (v:Value):Eff S2 w (w.setCell a v):=⟨rfl,rfl,by simp [World.setCell],.refl _,fun b hb=>by
 have hne:a.block≠b:=fun e=>hb (e ▸ h);simp only [World.setCell];rw [Array.getElem?_modify,if_neg hne]⟩
variable {y:Sy P} {main:Bool} {Ch:Nat->Goroutine->Hp->Prop} {k i:Nat} {T T':TT} {x:Nat->Bool}
variable {φ0:Nat->Loc3} {kdf:CallKind} {hkd:kdf≠.early} {f:FuncId} {cs:List Frame} {de:List Deferred} {A0:List AObj} {K0:List Nat} {ds:List Nat} {kk:List Item} {env env':List AV} {K:KV} {ops:Array Oper} {q:Nat} {rest:List Nat} {o:Oper}
def Sy.Sf (y:Sy P) (main:Bool) (Ch:Nat->Goroutine->Hp->Prop) (k i:Nat) (T:TT) (x:Nat->Bool):Goroutine->Hp->Prop:=Seg P main false (LiveS y.A y.sh) (y.At main Ch k i T x)
theorem Sy.shutF (y:Sy P) (main:Bool) (Ch:Nat->Goroutine->Hp->Prop) (k i:Nat) (T:TT) (x:Nat->Bool):zo P main (y.Sf main Ch k i T x):=zgy
theorem Sy.sf_iff (y:Sy P) {main:Bool} {Ch:Nat->Goroutine->Hp->Prop} {k i:Nat} {T:TT} {x:Nat->Bool} {g:Goroutine} {H:Hp} (h:y.A.aft T=false):Seg P main (y.A.aft T) (LiveS y.A y.sh) (y.At main Ch k i T x) g H↔y.Sf main Ch k i T x g H:=by
 rw [h]; exact Iff.rfl
abbrev YT (y:Sy P) (main:Bool) (Ch:Nat->Goroutine->Hp->Prop) (k i:Nat) (T:TT) (x:Nat->Bool) (gm:Nat->Option Nat) (φ0:Nat->Loc3) (kdf:CallKind) (hkd:kdf≠.early) (f:FuncId) (cs:List Frame) (de:List Deferred) (A0:List AObj) (K0:List Nat):KX P gm (y.Sf main Ch k i T x) :=
 YU (y.shutF main Ch k i T x) gm φ0 kdf hkd f cs de A0 K0
theorem TK.book (hk:kd T=.book) (hwk:y.A.wk T->∀ ts dd,mayWake P (G (fr kdf f none ts dd (.inRegion ops (q::rest)::kk)) cs)=true)
  (h:∀ (w:World) (s:S4) (ts:Array Value) (dd:List Deferred) (φ:Nat->Loc3) (n:Nat),RelG gm φ n->zG φ n env ts->y.sh w s->ok4 T s ->
   (bl4 T s/\stepG P main (G (fr kdf f none ts dd (.inRegion ops (q::rest)::kk)) cs) w=.go { G (fr kdf f none ts dd (.inRegion ops (q::rest)::kk)) cs with status:=.blocked } w #[]) \/
   (¬ bl4 T s/\∃ T' s' v w' es,Mv4 y.n T s T' s'/\stepG P main (G (fr kdf f none ts dd (.inRegion ops (q::rest)::kk)) cs) w=.go (G (fr kdf f none (putT ts o.dst v) dd (.inRegion ops rest::kk)) cs) w' es/\Eff y.S2 w w'/\y.sh w' s'/\EvB main y.S2 (dl T) (dl T') es/\kd T'≠.quit /\
    y.A.aft T'=false/\∀ k',k'<k->TK (YT y main Ch k' i T' x gm φ0 kdf hkd f cs de A0 K0) ds (.inRegion ops rest::kk) (zO env o.dst (.v v)) K)) :
  TK (YT y main Ch k i T x gm φ0 kdf hkd f cs de A0 K0) ds (.inRegion ops (q::rest)::kk) env K:=by
 intro A hA φ H ts h1 h2 h3 h4 h5 h6;show y.Sf main Ch k i T x _ _;refine .stop ?_;cases k with
 | zero=>trivial
 | succ k' =>
  refine ⟨rfl,rfl,fun hw=>hwk hw ts _,?_⟩;have hk':y.A.kd T=.book:=hk;rw [hk'];intro w s hf hsh hok;rcases h w s ts (dsC φ ds++de) φ A.length h3 h6 hsh hok with ⟨hb,hst⟩ | ⟨hb,T',s',v,w',es,m1,m2,m3,m4,m5,m6,hT',m7⟩
  ·exact ⟨fun _=>hst,fun hn=>absurd hb hn⟩
  ·refine ⟨fun hb'=>absurd hb' hb,fun _=>⟨T',s',_,w',es,m1,m2,m3,m4,m5,.inr ⟨m6,rfl,(y.sf_iff hT').2 ?_⟩⟩⟩;have hE:=yo (a:=⟨ts,[]⟩) h6 (RelV.v (φ:=φ) (n:=A.length) v) o.dst;have:=m7 k' (Nat.lt_succ_self _) A ⟨hA.view,hA.nd,hA.own,hA.kept,hA.len⟩ φ H (putT ts o.dst v) h1 h2 h3 h4 h5 hE;exact this
end
class Ext (P:Program) (g:FuncId) (e:outParam (Array Value->Sem Value)):Prop where
 h:∃ fn,P.funcs[g]? =some fn/\(fn.name == "runtime.NumGoroutine")=false/\fn.body.isNone=true/\Extern.findNext fn=none/\Extern.find fn=some e
class ExtQ (P:Program) (g:FuncId):Prop where
 h:∀ fn,P.funcs[g]? =some fn->fn.norace=true
section
variable {P:Program} {gm:Nat->Option Nat} {y:Sy P} {main:Bool} {Ch:Nat->Goroutine->Hp->Prop} {k i:Nat} {T T':TT} {x:Nat->Bool}
variable {φ0:Nat->Loc3} {kdf:CallKind} {hkd:kdf≠.early} {f:FuncId} {cs:List Frame} {de:List Deferred} {A0:List AObj} {K0:List Nat} {ds:List Nat} {kk:List Item} {env env':List AV} {K:KV} {ops:Array Oper} {q:Nat} {rest:List Nat} {o:Oper}
theorem ev_v {φ:Nat->Loc3} {n:Nat} {ts:Array Value} {dd:List Deferred} {c:Operand} {z:Value} (h3:RelG gm φ n) (h6:zG φ n env ts) (h:zn gm env c=some (.v z)):(⟨ts,dd⟩:Act).eval c=z:=by
 have:=zz (a:=⟨ts,[]⟩) h3 h6 c;rw [zx h] at this;have:=inv_v this;rw [yH] at this ⊢;exact this
theorem zba {t:TypeId} {W:Nat} {w:World} {a b:Int} (h:WgAt t W w a b) {l:Addr} (hne:l.block≠W) (v:Value):WgAt t W (w.setCell l v) a b:=by
 unfold WgAt at *
 simp only [World.setCell];rw [Array.getElem?_modify,if_neg hne];exact h
theorem mu_ne (l:Addr) (h:l.block=y.Mu):l.block≠y.Wg:=fun e=>y.hne (h.symm.trans e)
theorem TK.sMark {g:FuncId} {as0:Array Operand} {ats:Array TypeId} {e:Array Value->Sem Value} (T':TT) (m:Mark) (hm:∀ g,m≠.extern g) [hx:Ext P g e] (ho:ops[q]? =some o) (hop:o.op=.call { callee:=.value (.func g),args:=as0,argTypes:=ats }) (hw:zK ops env o=some true)
  (hmv:∀ s,ok4 T s->Mv4 y.n T s T' s) (hev:EvB main y.S2 (dl T) (dl T') #[mk m]) (hT':y.A.aft T'=false) (h:∀ k',k'<k->TK ((YT y main Ch) k' i T' x gm φ0 kdf hkd f cs de A0 K0) ds (.inRegion ops rest::kk) env' K)
  (he:e=(fun _=>do mark m; pure Extern.Race.none_):=by rfl) (hk:kd T=.book:=by rfl) (hk':kd T'≠.quit:=by exact fun h=>by cases h) (hb:∀ s,¬ bl4 T s:=by exact fun _ h=>by cases h.1) (hwk:¬ y.A.wk T:=by exact fun h=>by cases h <;> rename_i h <;> cases h) (hd:zO env o.dst (.v (.tuple #[]))=env':=by exact zu rfl tQ) :
  TK ((YT y main Ch) k i T x gm φ0 kdf hkd f cs de A0 K0) ds (.inRegion ops (q::rest)::kk) env K:=by
 refine TK.book (o:=o) hk (fun h=>absurd h hwk) fun w s ts dd φ n hg hE hsh hok=>.inr ⟨hb s,T',s,.tuple #[],w,_,hmv s hok,?_,ki w,hsh,hev,hk',hT',fun k' hk''=>by rw [hd]; exact h k' hk''⟩;obtain ⟨fn,e1,e2,e3,e4,e5⟩:=hx.h;subst he;rw [fr_at,stepG_mark0 (b:=bf kdf f) (a:=⟨ts,dd⟩) m hm ho (zJ (ts:=ts) hE hw) hkd hop e1 e2 e3 e4 e5,yd]; rfl
theorem TK.sLoad {ty:TypeId} {c:Operand} (Tn:Nat->TT) (ho:ops[q]? =some o) (hop:o.op=.load ty c) (hw:zK ops env o=some true) (hc:zn gm env c=some (.v (.pointer (some (muA y.Mu)))))
  (hld:∀ (ev:Operand->Value) (w:World) (a:Addr) (v:Value),ev c=.pointer (some a)->w.cell? a=some v->(execOp ev o).run P w=.ok (.value v) w/\(execOp ev o).events P w #[]=#[⟨.cell a,false,false⟩]) (hnr:(P.funcs[f]?).any (·.norace)=true)
  (hmv:∀ s,ok4 T s->Mv4 y.n T s (Tn s.mu) s) (hdl:∀ v,dl (Tn v)=dl T) (hT':∀ v,y.A.aft (Tn v)=false) (hk':∀ v,kd (Tn v)≠.quit) (h:∀ (s:S4),ok4 T s->∀ k',k'<k->TK ((YT y main Ch) k' i (Tn s.mu) x gm φ0 kdf hkd f cs de A0 K0) ds (.inRegion ops rest::kk) (zO env o.dst (.v (.int .i32 s.mu))) K)
  (hk:kd T=.book:=by rfl) (hb:∀ s,¬ bl4 T s:=by exact fun _ h=>by cases h.1) (hwk:¬ y.A.wk T:=by exact fun h=>by cases h <;> rename_i h <;> cases h) :
  TK ((YT y main Ch) k i T x gm φ0 kdf hkd f cs de A0 K0) ds (.inRegion ops (q::rest)::kk) env K:=by
 refine TK.book (o:=o) hk (fun h=>absurd h hwk) fun w s ts dd φ n hg hE hsh hok=>.inr ⟨hb s,Tn s.mu,s,.int .i32 s.mu,w,#[],hmv s hok,?_,ki w,hsh,by rw [hdl]; exact vl _,hk' _,hT' _,fun k' hk''=>h s hok k' hk''⟩;obtain ⟨h1,h2⟩:=hld (evT ts) w _ _ (ev_v hg hE hc) hsh.1.cellSt;rw [fr_at,stepG_value (b:=bf kdf f) (a:=⟨ts,dd⟩) (v:=.int .i32 s.mu) (w':=w) ho (zJ (ts:=ts) hE hw) hkd (by rw [yH]; exact h1),yd];congr 1;unfold listed;rw [yH,h2,seen_def];show _=#[];have:(bf kdf f).fn=f:=rfl;rw [this];simp [seenStep,hnr]
theorem TK.sCas {g:FuncId} {ca cb cc:Operand} {ats:Array TypeId} {e:Array Value->Sem Value} (Th Tm:TT) (old new:Nat) [hx:Ext P g e] (ho:ops[q]? =some o) (hop:o.op=.call { callee:=.value (.func g),args:=#[ca,cb,cc],argTypes:=ats }) (hw:zK ops env o=some true)
  (h1:zn gm env ca=some (.v (.pointer (some (muA y.Mu))))) (h2:zn gm env cb=some (.v (.int .i32 (old:Nat)))) (h3:zn gm env cc=some (.v (.int .i32 (new:Nat))))
  (hmh:∀ s,ok4 T s->s.mu=old->Mv4 y.n T s Th { s with mu:=new }) (hmm:∀ s,ok4 T s->s.mu≠old->Mv4 y.n T s Tm s) (hdl:0<dl T/\dl Th=dl T/\dl Tm=dl T) (hTh:y.A.aft Th=false) (hTm:y.A.aft Tm=false) (hkh:kd Th≠.quit) (hkm:kd Tm≠.quit)
  (hh:∀ k',k'<k->TK ((YT y main Ch) k' i Th x gm φ0 kdf hkd f cs de A0 K0) ds (.inRegion ops rest::kk) (zO env o.dst (.v (.bool true))) K) (hmiss:∀ k',k'<k->TK ((YT y main Ch) k' i Tm x gm φ0 kdf hkd f cs de A0 K0) ds (.inRegion ops rest::kk) (zO env o.dst (.v (.bool false))) K)
  (he:e=Extern.Atomic.casT (.int .i32):=by rfl) (hk:kd T=.book:=by rfl) (hb:∀ s,¬ bl4 T s:=by exact fun _ h=>by cases h.1) (hwk:¬ y.A.wk T:=by exact fun h=>by cases h <;> rename_i h <;> cases h) :
  TK ((YT y main Ch) k i T x gm φ0 kdf hkd f cs de A0 K0) ds (.inRegion ops (q::rest)::kk) env K:=by
 refine TK.book (o:=o) hk (fun h=>absurd h hwk) fun w s ts dd φ n hg hE hsh hok=>.inr ⟨hb s,?_⟩;obtain ⟨fn,e1,e2,e3,e4,e5⟩:=hx.h;subst he;by_cases hc:s.mu=old
 ·refine ⟨Th,{ s with mu:=new },.bool true,_,_,hmh s hok hc,?_,kv (.inl Z) _,⟨hsh.1.setSt _,?_⟩,by rw [hdl.2.1]; exact vQ hdl.1 (a:=muA y.Mu) (.inl Z),hkh,hTh,hh⟩
  ·rw [fr_at,stepG_cas_hit (b:=bf kdf f) (a:=⟨ts,dd⟩) ho (zJ (ts:=ts) hE hw) hkd hop e1 e2 e3 e4 .i32 e5 (ad:=muA y.Mu) (v:=(old:Nat)) (n:=(new:Nat)) (ev_v hg hE h1) (ev_v hg hE h2) (ev_v hg hE h3) (by rw [hsh.1.cellSt,hc]) (hsh.1.thaw 0),yd]; rfl
  ·exact zba hsh.2 (mu_ne (muA y.Mu) rfl) _
 ·refine ⟨Tm,s,.bool false,w,_,hmm s hok hc,?_,ki w,hsh,by rw [hdl.2.2]; exact evb_r hdl.1 (a:=muA y.Mu) (.inl Z),hkm,hTm,hmiss⟩;rw [fr_at,stepG_cas_miss (b:=bf kdf f) (a:=⟨ts,dd⟩) ho (zJ (ts:=ts) hE hw) hkd hop e1 e2 e3 e4 .i32 e5 (ad:=muA y.Mu) (v:=(s.mu:Nat)) (old:=(old:Nat)) (n:=(new:Nat)) (ev_v hg hE h1) (ev_v hg hE h2) (ev_v hg hE h3) hsh.1.cellSt (hsh.1.thaw 0) oQ,yd]; rfl
theorem TK.sAdd {g:FuncId} {ca cb:Operand} {ats:Array TypeId} {e:Array Value->Sem Value} (d:Int) (new:Nat->Nat) (Tn:Nat->TT) [hx:Ext P g e] (ho:ops[q]? =some o) (hop:o.op=.call { callee:=.value (.func g),args:=#[ca,cb],argTypes:=ats }) (hw:zK ops env o=some true)
  (h1:zn gm env ca=some (.v (.pointer (some (muA y.Mu))))) (h2:zn gm env cb=some (.v (.int .i32 d)))
  (hnew:∀ s,ok4 T s->IntKind.i32.wrap ((s.mu:Int)+d)=(new s.mu:Nat)) (hmv:∀ s,ok4 T s->Mv4 y.n T s (Tn s.mu) { s with mu:=new s.mu }) (hdl:0<dl T/\∀ v,dl (Tn v)=dl T) (hT':∀ v,y.A.aft (Tn v)=false) (hk':∀ v,kd (Tn v)≠.quit)
  (h:∀ (s:S4),ok4 T s->∀ k',k'<k->TK ((YT y main Ch) k' i (Tn s.mu) x gm φ0 kdf hkd f cs de A0 K0) ds (.inRegion ops rest::kk) (zO env o.dst (.v (.int .i32 (new s.mu:Nat)))) K)
  (he:e=Extern.Atomic.update (Op.intArith .add) .i32 true:=by rfl) (hk:kd T=.book:=by rfl) (hb:∀ s,¬ bl4 T s:=by exact fun _ h=>by cases h.1) (hwk:¬ y.A.wk T:=by exact fun h=>by cases h <;> rename_i h <;> cases h) :
  TK ((YT y main Ch) k i T x gm φ0 kdf hkd f cs de A0 K0) ds (.inRegion ops (q::rest)::kk) env K:=by
 refine TK.book (o:=o) hk (fun h=>absurd h hwk) fun w s ts dd φ n hg hE hsh hok=>.inr ⟨hb s,?_⟩;obtain ⟨fn,e1,e2,e3,e4,e5⟩:=hx.h;subst he;refine ⟨Tn s.mu,{ s with mu:=new s.mu },.int .i32 (new s.mu:Nat),_,_,hmv s hok,?_,kv (a:=muA y.Mu) (.inl Z) (.int .i32 (new s.mu:Nat)),⟨hsh.1.setSt _,?_⟩,by rw [hdl.2]; exact vQ hdl.1 (a:=muA y.Mu) (.inl Z),hk' _,hT' _,fun k' hk''=>h s hok k' hk''⟩
 ·rw [fr_at,stepG_add_atomic (b:=bf kdf f) (a:=⟨ts,dd⟩) ho (zJ (ts:=ts) hE hw) hkd hop e1 e2 e3 e4 .i32 e5 (ad:=muA y.Mu) (v:=(s.mu:Nat)) (d:=d) (ev_v hg hE h1) (ev_v hg hE h2) hsh.1.cellSt (hsh.1.thaw 0),yd,hnew s hok]; rfl
 ·exact zba hsh.2 (mu_ne (muA y.Mu) rfl) _
theorem TK.sSem {g:FuncId} {as0:Array Operand} {ats:Array TypeId} {e:Array Value->Sem Value} {Tw:Th} (T':TT) [hx:Ext P g e] (ho:ops[q]? =some o) (hop:o.op=.call { callee:=.value (.func g),args:=as0,argTypes:=ats }) (hw:zK ops env o=some true) (hpc:Tw.pc=.s1)
  (h1:∀ c,as0[0]? =some c->zn gm env c=some (.v (.pointer (some (msA y.Mu))))) (h0:as0[0]?.isSome=true)
  (hmv:∀ s,ok4 (.w Tw) s->s.ms≠0->Mv4 y.n (.w Tw) s T' { s with ms:=s.ms - 1 }) (hdl:dl (.w Tw)=1/\dl T'=1) (hT':y.A.aft T'=false) (hk':kd T'≠.quit)
  (h:∀ k',k'<k->TK ((YT y main Ch) k' i T' x gm φ0 kdf hkd f cs de A0 K0) ds (.inRegion ops rest::kk) env' K)
  (he:e=Extern.Sync.semacquire:=by rfl) (hd:zO env o.dst (.v (.tuple #[]))=env':=by exact zu rfl tQ) :
  TK ((YT y main Ch) k i (.w Tw) x gm φ0 kdf hkd f cs de A0 K0) ds (.inRegion ops (q::rest)::kk) env K:=by
 refine TK.book (o:=o) (by simp [kd,Mx.kdW,hpc]) (fun h=>by rcases h with h | h <;> (rw [hpc] at h; cases h)) fun w s ts dd φ n hg hE hsh hok=>?_;obtain ⟨fn,e1,e2,e3,e4,e5⟩:=hx.h;subst he;obtain ⟨c,hc⟩:=Option.isSome_iff_exists.1 h0;have hx0:(as0.map (⟨ts,dd⟩:Act).eval)[0]? =some (.pointer (some (msA y.Mu))):=by
  rw [mJ,hc,yH];exact congrArg some (ev_v hg hE (h1 c hc))
 by_cases hz:s.ms=0
 ·left;refine ⟨⟨hpc,hz⟩,?_⟩;rw [fr_at,stepG_semacquire_wait (b:=bf kdf f) (a:=⟨ts,dd⟩) ho (zJ (ts:=ts) hE hw) hop e1 e2 e3 e4 e5 hx0 (by rw [hsh.1.cellSm,hz]; rfl)]
 ·right;refine ⟨fun hb=>hz hb.2,T',{ s with ms:=s.ms - 1 },.tuple #[],_,_,hmv s hok hz,?_,kv (a:=msA y.Mu) (.inl rfl) (.int .u32 ((s.ms:Int) - 1)),⟨?_,?_⟩,by rw [hdl.1,hdl.2]; exact zac oQ (a:=msA y.Mu) (.inl rfl),hk',hT',fun k' hk''=>by rw [hd]; exact h k' hk''⟩
  ·rw [fr_at,stepG_semacquire (b:=bf kdf f) (a:=⟨ts,dd⟩) ho (zJ (ts:=ts) hE hw) hkd hop e1 e2 e3 e4 e5 hx0 hsh.1.cellSm oQ (hsh.1.thaw 1),yd]; rfl
  ·have:=hsh.1.setSm ((s.ms:Int) - 1);rw [show ((s.ms:Int) - 1)=((s.ms - 1:Nat):Int) by omega] at this ⊢;exact this
  ·exact zba hsh.2 (mu_ne (msA y.Mu) rfl) _
theorem TK.sRel {g:FuncId} {as0:Array Operand} {ats:Array TypeId} {e:Array Value->Sem Value} {Tw:Th} (T':TT) [hx:Ext P g e] (ho:ops[q]? =some o) (hop:o.op=.call { callee:=.value (.func g),args:=as0,argTypes:=ats }) (hw:zK ops env o=some true) (hng:o.guard=none) (hpc:Tw.pc=.us)
  (h1:∀ c,as0[0]? =some c->zn gm env c=some (.v (.pointer (some (msA y.Mu))))) (h0:as0[0]?.isSome=true)
  (hmv:∀ s,ok4 (.w Tw) s->Mv4 y.n (.w Tw) s T' { s with ms:=s.ms+1 }) (hdl:dl (.w Tw)=1/\dl T'=1) (hT':y.A.aft T'=false) (hk':kd T'≠.quit)
  (h:∀ k',k'<k->TK ((YT y main Ch) k' i T' x gm φ0 kdf hkd f cs de A0 K0) ds (.inRegion ops rest::kk) env' K)
  (he:e=Extern.Sync.semrelease:=by rfl) (hd:zO env o.dst (.v (.tuple #[]))=env':=by exact zu rfl tQ) :
  TK ((YT y main Ch) k i (.w Tw) x gm φ0 kdf hkd f cs de A0 K0) ds (.inRegion ops (q::rest)::kk) env K:=by
 obtain ⟨fn,e1,e2,e3,e4,e5⟩:=hx.h;refine TK.book (o:=o) (by simp [kd,Mx.kdW,hpc]) (fun _ ts dd=>Go.ConcR.Gen.mayWake_entry (b:=bf kdf f) (a:=⟨ts,dd⟩) ho hop e1 e3) fun w s ts dd φ n hg hE hsh hok=>?_;subst he;obtain ⟨c,hc⟩:=Option.isSome_iff_exists.1 h0;have hx0:(as0.map (⟨ts,dd⟩:Act).eval)[0]? =some (.pointer (some (msA y.Mu))):=by
  rw [mJ,hc,yH];exact congrArg some (ev_v hg hE (h1 c hc))
 have hms:s.ms<=1:=hok.2.1;have hwr:IntKind.u32.wrap ((s.ms:Int)+1)=((s.ms+1:Nat):Int):=by
  have:s.ms=0\/s.ms=1:=by omega
  rcases this with h | h <;> rw [h] <;> rfl
 right;refine ⟨fun hb=>(by have:=hb.1; rw [hpc] at this; cases this),T',{ s with ms:=s.ms+1 },.tuple #[],_,_,hmv s hok,?_,kv (a:=msA y.Mu) (.inl rfl) (.int .u32 ((s.ms+1:Nat):Int)),⟨hsh.1.setSm _,?_⟩,by rw [hdl.1,hdl.2]; exact zac oQ (a:=msA y.Mu) (.inl rfl),hk',hT',fun k' hk''=>by rw [hd]; exact h k' hk''⟩
 ·rw [fr_at,stepG_semrelease (b:=bf kdf f) (a:=⟨ts,dd⟩) ho (zJ (ts:=ts) hE hw) hkd hop e1 e2 e3 e4 e5 hx0 hsh.1.cellSm (hsh.1.thaw 1),yd,hwr]; rfl
 ·exact zba hsh.2 (mu_ne (msA y.Mu) rfl) _
theorem TK.sTime {g:FuncId} {as0:Array Operand} {ats:Array TypeId} {e:Array Value->Sem Value} (Tn:Int->TT) [hx:Ext P g e] [hn:ExtQ P g] (ho:ops[q]? =some o) (hop:o.op=.call { callee:=.value (.func g),args:=as0,argTypes:=ats }) (hw:zK ops env o=some true)
  (hmv:∀ s t,ok4 T s->Mv4 y.n T s (Tn t) s) (hdl:∀ t,dl (Tn t)=dl T) (hT':∀ t,y.A.aft (Tn t)=false) (hk':∀ t,kd (Tn t)≠.quit) (h:∀ (t:Int),∀ k',k'<k->TK ((YT y main Ch) k' i (Tn t) x gm φ0 kdf hkd f cs de A0 K0) ds (.inRegion ops rest::kk) (zO env o.dst (.v (.int .i64 t))) K)
  (he:e=Extern.OsHooks.nano:=by rfl) (hk:kd T=.book:=by rfl) (hb:∀ s,¬ bl4 T s:=by exact fun _ h=>by cases h.1) (hwk:¬ y.A.wk T:=by exact fun h=>by cases h <;> rename_i h <;> cases h) :
  TK ((YT y main Ch) k i T x gm φ0 kdf hkd f cs de A0 K0) ds (.inRegion ops (q::rest)::kk) env K:=by
 refine TK.book (o:=o) hk (fun h=>absurd h hwk) fun w s ts dd φ n hg hE hsh hok=>.inr ⟨hb s,?_⟩;obtain ⟨fn,e1,e2,e3,e4,e5⟩:=hx.h;subst he;refine ⟨Tn ((w.os.mono+w.tick:Nat):Int),s,.int .i64 ((w.os.mono+w.tick:Nat):Int),w.later,#[],hmv s _ hok,?_,⟨rfl,rfl,rfl,⟨w.tick,rfl⟩,fun _ _=>rfl⟩,hsh,by rw [hdl]; exact vl _,hk' _,hT' _,fun k' hk''=>h _ k' hk''⟩;rw [fr_at,stepG_nanotime (b:=bf kdf f) (a:=⟨ts,dd⟩) ho (zJ (ts:=ts) hE hw) hkd hop e1 e2 e3 e4 e5 (hn.h _ e1),yd]; rfl
theorem TK.sSpin {g:FuncId} {c:Operand} {ats:Array TypeId} {e:Array Value->Sem Value} (Ty Tn:TT) (it:Nat) [hx:Ext P g e] (ho:ops[q]? =some o) (hop:o.op=.call { callee:=.value (.func g),args:=#[c],argTypes:=ats }) (hw:zK ops env o=some true) (h1:zn gm env c=some (.v (.int .i64 (it:Nat))))
  (hmy:∀ s,ok4 T s->it<4->Mv4 y.n T s Ty s) (hmn:∀ s,ok4 T s->Mv4 y.n T s Tn s) (hdl:dl Ty=dl T/\dl Tn=dl T) (hTy:y.A.aft Ty=false) (hTn:y.A.aft Tn=false) (hky:kd Ty≠.quit) (hkn:kd Tn≠.quit)
  (hy:it<4->∀ k',k'<k->TK ((YT y main Ch) k' i Ty x gm φ0 kdf hkd f cs de A0 K0) ds (.inRegion ops rest::kk) (zO env o.dst (.v (.bool true))) K) (hn:∀ k',k'<k->TK ((YT y main Ch) k' i Tn x gm φ0 kdf hkd f cs de A0 K0) ds (.inRegion ops rest::kk) (zO env o.dst (.v (.bool false))) K)
  (he:e=Extern.Sync.canSpin:=by rfl) (hk:kd T=.book:=by rfl) (hb:∀ s,¬ bl4 T s:=by exact fun _ h=>by cases h.1) (hwk:¬ y.A.wk T:=by exact fun h=>by cases h <;> rename_i h <;> cases h) :
  TK ((YT y main Ch) k i T x gm φ0 kdf hkd f cs de A0 K0) ds (.inRegion ops (q::rest)::kk) env K:=by
 refine TK.book (o:=o) hk (fun h=>absurd h hwk) fun w s ts dd φ n hg hE hsh hok=>.inr ⟨hb s,?_⟩;obtain ⟨fn,e1,e2,e3,e4,e5⟩:=hx.h;subst he;have hm:(#[c]:Array Operand).map (⟨ts,dd⟩:Act).eval=#[.int .i64 (it:Nat)]:=by
  simp [ev_v (dd:=dd) hg hE h1]
 by_cases h4:it<4
 ·by_cases hsp:w.spins=true
  ·refine ⟨Ty,s,.bool true,w.asked,#[],hmy s hok h4,?_,⟨rfl,rfl,rfl,.refl _,fun _ _=>rfl⟩,hsh,by rw [hdl.1]; exact vl _,hky,hTy,fun k' hk''=>hy h4 k' hk''⟩;rw [fr_at,stepG_canSpin_ask (b:=bf kdf f) (a:=⟨ts,dd⟩) ho (zJ (ts:=ts) hE hw) hkd hop e1 e2 e3 e4 e5 hm oQ,yd,hsp]; rfl
  ·refine ⟨Tn,s,.bool false,w.asked,#[],hmn s hok,?_,⟨rfl,rfl,rfl,.refl _,fun _ _=>rfl⟩,hsh,by rw [hdl.2]; exact vl _,hkn,hTn,hn⟩;rw [fr_at,stepG_canSpin_ask (b:=bf kdf f) (a:=⟨ts,dd⟩) ho (zJ (ts:=ts) hE hw) hkd hop e1 e2 e3 e4 e5 hm oQ,yd,(Bool.not_eq_true _).mp hsp]; rfl
 ·refine ⟨Tn,s,.bool false,w,#[],hmn s hok,?_,ki w,hsh,by rw [hdl.2]; exact vl _,hkn,hTn,hn⟩;rw [fr_at,stepG_canSpin_no (b:=bf kdf f) (a:=⟨ts,dd⟩) ho (zJ (ts:=ts) hE hw) hkd hop e1 e2 e3 e4 e5 hm oQ,yd]; rfl
end
end Go.Vel
namespace Go.Vel
open Go Go.Conc
open Go.ConcN (sumTo upd upd_ne upd_same)
open Go.ConcM (OsLater MuAt muA msA)
open Go.ConcR (KK wgBlock WgAt stA smA mk rd wr)
open Mx (TT Th Mn S4 auto Mv4 ok4 bl4 kd dl MPc Pc okW okM Mv nx4)
section
variable {P:Program} {gm:Nat->Option Nat} {main:Bool}
def CallS (P:Program) (gm:Nat->Option Nat) (lo:Nat×Loc3) (T:Goroutine->Hp->Prop) (g:FuncId) (args:List AV) (K:KV) (R:AV->KV->(Goroutine->Hp->Prop)->Prop):Prop :=
 ∀ A,zM K A->(keys K).Nodup->∀ (φ:Nat->Loc3) (H:Hp) (vs:Array Value) (c:Frame) (cs:List Frame),lo.1<A.length->φ lo.1=lo.2->RelG gm φ A.length->RelH φ A nF H->zG φ A.length args vs ->
  (∀ r K' T' A' φ' H' v,R r K' T'->Kstep K A K' A'->Agr φ φ' A.length->A.length<=A'.length->RelH φ' A' nF H'->RelV φ' A'.length r v->T' (G (c.finish v) cs) H')->T (G (Frame.enter P g vs .normal) (c::cs)) H
theorem ze:CallKind.normal≠.early:=fun h=>by cases h
theorem kZ (n:Nat) {T:Goroutine->Hp->Prop} (hT:zo P main T) {lo:Nat×Loc3} {g:FuncId} {fn:Func} {c:Code} {args:List AV} {K:KV} {R:AV->KV->(Goroutine->Hp->Prop)->Prop} (hf:P.funcs[g]? =some fn)
  (h:∀ (φ0:Nat->Loc3) (c0:Frame) (cs:List Frame) (A0:List AObj),lo.1<A0.length->φ0 lo.1=lo.2->(∀ {T'} {hT':zo P main T'},RetK (YU hT' gm φ0 .normal ze g (c0::cs) [] A0 (keys K)) fn.results.toList fun r K'=>R r K' T') ->
   TK (YU hT gm φ0 .normal ze g (c0::cs) [] A0 (keys K)) [] [.code c] (args++mB (n - args.length) .any) K) (hb:fn.body=some c:=by rfl) (hn:fn.ntmps=n:=by rfl):CallS P gm lo T g args K R:=by
 subst hn;intro A hv hnd φ H vs c0 cs hl1 hl2 hg hH hargs hfin;rw [kM vs hf hb];refine h φ c0 cs A hl1 hl2 ?_ A ⟨hv,hnd,fun i hi=>.inl hi,fun _ _ _=>rfl,mL _⟩ φ H _ (Agr.refl _ _) (mL _) hg (fun d hd=>by cases hd) hH (yS hargs _);intro T' hT' j env K' K'' D r hj hs hres hp A' hA' φ' H' ts k hl ha hlen hg' _ hH' hE;obtain ⟨hv2,hn2⟩:=hs.view hA'.view hA'.nd;have hk:Kstep K A K'' A':=⟨hv2,hn2,fun t ht=>hA'.own t ((zT hs.perm).symm.subset (by rw [yb]; exact lV _ ht)),hA'.kept,hA'.len⟩;have hleave:T' (G { fr .normal g none ts [] k with mode:=.returning } (c0::cs)) H':=hT'.leaveF hf (ko hH' hE (hres A' hA'.view) fun y hy=>hfin r K'' T' A' φ' H' y hp hk ha hlen hH' hy);cases hl with
 | fin=>exact hT'.ctlF rfl (fun _=>wC) rfl hleave
 | ret k=>exact hT'.ctlF rfl (fun _=>wV) rfl hleave
 | exit id k _=>rcases hj with hj | hj <;> cases hj
variable {φ0:Nat->Loc3} {kdf:CallKind} {hkd:kdf≠.early} {f:FuncId} {cs:List Frame} {de:List Deferred} {A0:List AObj} {K0:List Nat} {ds:List Nat} {kk:List Item} {env env':List AV} {K:KV} {ops:Array Oper} {q:Nat} {rest:List Nat} {o:Oper}
theorem TK.callS {T:Goroutine->Hp->Prop} {hT:zo P main T} {lo:Nat×Loc3} {fo:Operand} {ars:Array Operand} {at_:Array TypeId} {g:FuncId} {args:List AV} {Kf Rr:KV} {R:AV->KV->(Goroutine->Hp->Prop)->Prop} (ho:ops[q]? =some o) (hop:o.op=.call { callee:=.value fo,args:=ars,argTypes:=at_ })
  (hf:zn gm env fo=some (.fn g [] [])) (hargs:ars.toList.map (zI gm env)=args) (hc:CallS P gm lo T g args Kf R) (hl1:lo.1<A0.length) (hl2:φ0 lo.1=lo.2)
  (h:∀ r K' T',R r K' T'->∃ hT':zo P main T',TK (YU hT' gm φ0 kdf hkd f cs de A0 K0) ds (.inRegion ops rest::kk) (zO env o.dst r) (K'++Rr))
  (hs:Split K Kf Rr:=by repeat (first | exact Split.none _ | exact Split.all _ | (apply Split.rem; repeat (first | exact Rem.head | apply Rem.tail)) | apply Split.right)) (hw:zK ops env o=some true:=by rfl) (hg:yj P g=true:=by exact Cal.h) :
  TK (YU hT gm φ0 kdf hkd f cs de A0 K0) ds (.inRegion ops (q::rest)::kk) env K:=by
 intro A hA φ H ts h1 h2 h3 h4 h5 h6;refine hT.opF hkd ho (zJ h6 hw) (by rw [hop]; rfl) ?_;have hfo:=zz (a:=⟨ts,[]⟩) h3 h6 fo;rw [zx hf] at hfo;obtain ⟨xs,ys,e,hr1,hr2⟩:=vn hfo;have ex:xs=#[]:=Array.eq_empty_of_size_eq_zero (by have:=hr1.1; simpa using this.symm);have ey:ys=#[]:=Array.eq_empty_of_size_eq_zero (by have:=hr2.1; simpa using this.symm);subst ex ey;unfold execOp;rw [hop];dsimp only;refine zd _ _ _ ?_;show wpS P (Deferred.ofValue (Act.eval ⟨ts,[]⟩ fo) (ars.map (evT ts))) H _;rw [e];show wpS P (callFunc g ((#[]++ars.map (evT ts))++#[])) H _;refine kx hg _ ?_;have hp:=hs.perm;have hnd:=(zT hp).nodup_iff.1 hA.nd;rw [yb] at hnd;have hnd':=List.nodup_append.1 hnd;have hR:zM Rr A:=hA.view.sub fun x hx=>hp.symm.subset (by simp [hx]);have hRl:∀ x∈Rr,x.1<A.length/\x.1∉keys Kf:=fun x hx=>⟨hR.lt (yp hx),fun hm=>hnd'.2.2 x.1 hm x.1 (yp hx) rfl⟩;have hl1':lo.1<A.length:=mM hl1 hA.len;have hrel:zG φ A.length args ((#[]++ars.map (evT ts))++#[]):=by
  rw [<- hargs];have hm:=kD (a:=⟨ts,[]⟩) h3 h6 ars;rw [yH] at hm;simpa using hm
 refine hc A (hA.view.sub fun x hx=>hp.symm.subset (by simp [hx])) hnd'.1 φ H _ _ cs hl1' ((h1 _ hl1).trans hl2) h3 h5 hrel fun r K' T' A' φ' H' v hp' hk hag hlen hH' hr=>?_;obtain ⟨hT',hh⟩:=h r K' T' hp';have hfin:=yU kdf f none ts (dsC φ ds++de) ops q rest kk v;simp only [ho,Option.bind_some] at hfin;show T' (G ((fr kdf f none ts (dsC φ ds++de) (.inRegion ops (q::rest)::kk)).finish v) cs) H';rw [hfin];have hE:=yo (a:=⟨ts,[]⟩) (h6.mono hag hlen) hr o.dst;have hds:dsC φ' ds=dsC φ ds:=by
  unfold dsC;refine mA fun d hd'=>?_;rw [hag d (h4 d hd')]
 have hst:Kstep K A (K'++Rr) A':=by
  refine ⟨fun x hx=>?_,?_,fun j hj=>?_,fun j hj hn=>?_,hk.len⟩
  ·rcases lT.1 hx with hx | hx
   ·exact hk.view x hx
   ·rw [hk.kept _ (hRl x hx).1 (hRl x hx).2]; exact hR x hx
  ·rw [yb];refine List.nodup_append.2 ⟨hk.nd,hnd'.2.1,fun a ha b hb e=>?_⟩;subst e;obtain ⟨x,hx,rfl⟩:=lY.1 hb;rcases hk.own _ ha with h1 | h1
   ·exact (hRl x hx).2 h1
   ·have:=(hRl x hx).1; omega
  ·rw [yb] at hj;rcases lT.1 hj with hj | hj
   ·rcases hk.own j hj with h1 | h1
    ·exact .inl ((zT hp).symm.subset (by rw [yb]; exact lV _ h1))
    ·exact .inr h1
   ·exact .inl ((zT hp).symm.subset (by rw [yb]; exact List.mem_append_right _ hj))
  ·exact hk.kept j hj fun hm=>hn ((zT hp).symm.subset (by rw [yb]; exact lV _ hm))
 have hA':=hA.step hst;have:=hh A' ⟨hA'.view,hA'.nd,hA'.own,hA'.kept,hA'.len⟩ φ' H' _ (h1.trans hag hA.len) (mT hA.len hlen) (h3.mono hag hlen) (fun d hd=>mM (h4 d hd) hlen) hH' hE;rw [hds] at this;exact this
variable {y:Sy P} {Ch:Nat->Goroutine->Hp->Prop} {k i:Nat} {T:TT} {x:Nat->Bool}
theorem TK.acqL {g:FuncId} {c:Operand} {ats:Array TypeId} {e:Array Value->Sem Value} {lo:Nat×Loc3} [hx:Ext P g e] (ho:ops[q]? =some o) (hop:o.op=.call { callee:=.value (.func g),args:=#[c],argTypes:=ats }) (hc:zn gm env c=some (.v (.pointer (some (muA y.Mu))))) (hk:kd T=.acqL) (hT':y.A.aft (nx4 y.n T)=false)
  {PL:(Nat->Bool)->KV->Prop} (hl1:lo.1<A0.length) (hl2:φ0 lo.1=lo.2)
  (hGI:∀ x' L A φ H,y.GI x' L->x' i=false->lo.1<A.length->φ lo.1=lo.2->zM K A->(keys K).Nodup->RelH φ A nF H->H.Dis L->Agrees H L->∃ φ' A' K',Agr φ φ' A.length/\A.length<=A'.length/\Kstep K A K' A'/\PL x' K'/\RelH φ' A' nF (H.join L))
  (h:∀ k' x' K',k'<k->x' i=false->PL x' K'->TK ((YT y main Ch) k' i (nx4 y.n T) x' gm φ0 kdf hkd f cs de A0 K0) ds (.inRegion ops rest::kk) env' K')
  (hw:zK ops env o=some true:=by rfl) (he:e=Extern.Race.marked .acquire:=by rfl) (hwk:¬ y.A.wk T:=by exact fun h=>by cases h <;> rename_i h <;> cases h) (hd:zO env o.dst (.v (.tuple #[]))=env':=by exact zu rfl tQ) :
  TK ((YT y main Ch) k i T x gm φ0 kdf hkd f cs de A0 K0) ds (.inRegion ops (q::rest)::kk) env K:=by
 intro A hA φ H ts h1 h2 h3 h4 h5 h6;show y.Sf main Ch k i T x _ _;refine .stop ?_;cases k with
 | zero=>trivial
 | succ k' =>
  obtain ⟨fn,e1,e2,e3,e4,e5⟩:=hx.h;subst he;refine ⟨rfl,rfl,fun hw=>absurd hw hwk,?_⟩;have hk':y.A.kd T=.acqL:=hk;rw [hk'];refine ⟨G (fr kdf f none (putT ts o.dst (.tuple #[])) (dsC φ ds++de) (.inRegion ops rest::kk)) cs,rfl,fun w hf=>?_,fun x' L hG hx' hD hAg=>?_⟩
  ·show stepG P main (G (fr kdf f none ts (dsC φ ds++de) _) cs) w=_;rw [fr_at,stepG_markAt (b:=bf kdf f) (a:=⟨ts,dsC φ ds++de⟩) .acquire sQ ho (zJ (ts:=ts) h6 hw) hkd hop e1 e2 e3 e4 e5 (ad:=muA y.Mu) (by simp [ev_v (dd:=dsC φ ds++de) h3 h6 hc]),yd];rfl
  ·obtain ⟨φ',A',K',ha,hl,hst,hp,hH⟩:=hGI x' L A φ H hG hx' (mM hl1 hA.len) ((h1 _ hl1).trans hl2) hA.view hA.nd h5 hD hAg;have hE:=yo (a:=⟨ts,[]⟩) (h6.mono ha hl) (RelV.v (φ:=φ') (n:=A'.length) (.tuple #[])) o.dst;have hds:dsC φ' ds=dsC φ ds:=by
    unfold dsC;exact mA fun d hd'=>by rw [ha d (h4 d hd')]
   rw [hd] at hE;have hA':=hA.step hst;have:=h k' x' K' (Nat.lt_succ_self _) hx' hp A' ⟨hA'.view,hA'.nd,hA'.own,hA'.kept,hA'.len⟩ φ' (H.join L) (putT ts o.dst (.tuple #[])) (h1.trans ha hA.len) (mT hA.len hl) (h3.mono ha hl) (fun d hd=>mM (h4 d hd) hl) hH hE;rw [hds] at this;exact this
def plainV:AV->AV | .v a=>.v a | _=>.any
theorem wT {φ φ':Nat->Loc3} {n:Nat} {ts:Array Value} (h:zG φ n env ts):zG φ' 0 (env.map plainV) ts:=by
 refine ⟨by rw [List.length_map]; exact h.1,fun j a y ha hy=>?_⟩;rw [List.getElem?_map] at ha;cases e:env[j]? with
 | none=>rw [e] at ha; cases ha
 | some b =>
  rw [e] at ha;cases ha;have hb:=h.2 j b y e hy;cases b with
  | v z=>rw [inv_v hb]; exact .v z
  | _=>exact .any _
theorem vu (φ:Nat->Loc3) (H:Hp):RelH φ [] nF H:=⟨fun i o h=>by simp at h,fun i j o o' h=>by simp at h,(fun b x h=>by cases h),fun i o h=>by simp at h⟩
theorem TK.relL {g:FuncId} {c:Operand} {ats:Array TypeId} {e:Array Value->Sem Value} {lo:Nat×Loc3} [hx:Ext P g e] (ho:ops[q]? =some o) (hop:o.op=.call { callee:=.value (.func g),args:=#[c],argTypes:=ats }) (hc:zn gm env c=some (.v (.pointer (some (muA y.Mu))))) (hk:kd T=.relL) (hT':y.A.aft (nx4 y.n T)=false)
  (hl1:lo.1<A0.length) (hl2:φ0 lo.1=lo.2) (hGI:∀ A φ H,lo.1<A.length->φ lo.1=lo.2->zM K A->(keys K).Nodup->RelH φ A nF H->∃ L',L'.Sub H/\y.GI (upd x i true) L')
  (h:∀ k',k'<k->TK ((YT y main Ch) k' i (nx4 y.n T) x (fun _=>none) φ0 kdf hkd f cs de [] []) [] (.inRegion ops rest::kk) env' [])
  (hw:zK ops env o=some true:=by rfl) (he:e=Extern.Race.marked .releaseMerge:=by rfl) (hwk:¬ y.A.wk T:=by exact fun h=>by cases h <;> rename_i h <;> cases h) (hd:zO (env.map plainV) o.dst (.v (.tuple #[]))=env':=by exact zu rfl (by simp only [List.map,plainV,List.set]; rfl)) :
  TK ((YT y main Ch) k i T x gm φ0 kdf hkd f cs de A0 K0) [] (.inRegion ops (q::rest)::kk) env K:=by
 intro A hA φ H ts h1 h2 h3 h4 h5 h6;show y.Sf main Ch k i T x _ _;refine .stop ?_;cases k with
 | zero=>trivial
 | succ k' =>
  obtain ⟨fn,e1,e2,e3,e4,e5⟩:=hx.h;subst he;refine ⟨rfl,rfl,fun hw=>absurd hw hwk,?_⟩;have hk':y.A.kd T=.relL:=hk;rw [hk'];obtain ⟨L',hs,hG⟩:=hGI A φ H (mM hl1 hA.len) ((h1 _ hl1).trans hl2) hA.view hA.nd h5;refine ⟨G (fr kdf f none (putT ts o.dst (.tuple #[])) de (.inRegion ops rest::kk)) cs,fun _=>none,L',rfl,fun w hf=>?_,fun b rw' o' hb=>(by cases hb),hs,⟨fun b o' hb=>(by cases hb),fun b o' hb=>rfl⟩,hG,?_⟩
  ·show stepG P main (G (fr kdf f none ts de _) cs) w=_;rw [fr_at,stepG_markAt (b:=bf kdf f) (a:=⟨ts,de⟩) .releaseMerge sQ ho (zJ (ts:=ts) h6 hw) hkd hop e1 e2 e3 e4 e5 (ad:=muA y.Mu) (by simp [ev_v (dd:=de) h3 h6 hc]),yd];rfl
  ·have hE:=yo (a:=⟨ts,[]⟩) (wT (φ':=φ0) h6) (RelV.v (φ:=φ0) (n:=0) (.tuple #[])) o.dst;rw [hd] at hE;exact h k' (Nat.lt_succ_self _) [] ⟨fun x hx=>(by cases hx),List.nodup_nil,fun i hi=>(by cases hi),fun _ _ _=>rfl,mL _⟩ φ0 (fun _=>none) (putT ts o.dst (.tuple #[])) (Agr.refl _ _) (mL _) (fun b j hb=>by cases hb) (fun d hd=>by cases hd) (vu _ _) hE
theorem TK.sPeek {ty:TypeId} {c:Operand} (ho:ops[q]? =some o) (hop:o.op=.load ty c) (hc:zn gm env c=some (.v (.pointer (some (muA y.Mu)))))
  (hld:∀ (ev:Operand->Value) (w:World) (a:Addr) (v:Value),ev c=.pointer (some a)->w.cell? a=some v->(execOp ev o).run P w=.ok (.value v) w/\(execOp ev o).events P w #[]=#[⟨.cell a,false,false⟩]) (hnr:(P.funcs[f]?).any (·.norace)=true)
  (h:∀ v:Nat,TK ((YT y main Ch) k i T x gm φ0 kdf hkd f cs de A0 K0) ds (.inRegion ops rest::kk) (zO env o.dst (.v (.int .i32 v))) K) (hw:zK ops env o=some true:=by rfl) :
  TK ((YT y main Ch) k i T x gm φ0 kdf hkd f cs de A0 K0) ds (.inRegion ops (q::rest)::kk) env K:=by
 intro A hA φ H ts h1 h2 h3 h4 h5 h6;have key:∀ w s,y.sh w s->stepG P main (G (fr kdf f none ts (dsC φ ds++de) (.inRegion ops (q::rest)::kk)) cs) w=.go (G (fr kdf f none (putT ts o.dst (.int .i32 s.mu)) (dsC φ ds++de) (.inRegion ops rest::kk)) cs) w #[]:=fun w s hsh=>by
  obtain ⟨e1,e2⟩:=hld (evT ts) w _ _ (ev_v (dd:=dsC φ ds++de) h3 h6 hc) hsh.1.cellSt;rw [fr_at,stepG_value (b:=bf kdf f) (a:=⟨ts,dsC φ ds++de⟩) (v:=.int .i32 s.mu) (w':=w) ho (zJ (ts:=ts) h6 hw) hkd (by rw [yH]; exact e1),yd];congr 1;unfold listed;rw [yH,e2,seen_def];show _=#[];have:(bf kdf f).fn=f:=rfl;rw [this];simp [seenStep,hnr]
 show y.Sf main Ch k i T x _ _;refine .step Z (fun w hf hl=>?_) fun w g' w' es hf hl he=>?_
 ·obtain ⟨s,hs⟩:=hl;exact ⟨_,_,_,key w s hs,yG hf (fun e he=>by simp at he),rfl,fun h=>by cases h⟩
 ·obtain ⟨s,hs⟩:=hl;have he':=(key w s hs).symm.trans he;clear he
  rename _=>he
  cases he;rw [yJ hf];have hE:=yo (a:=⟨ts,[]⟩) h6 (RelV.v (φ:=φ) (n:=A.length) (.int .i32 s.mu)) o.dst;have:=h s.mu A hA φ H _ h1 h2 h3 h4 h5 hE;have h2':y.Sf main Ch k i T x (G (fr kdf f none (putT ts o.dst (.int .i32 s.mu)) (dsC φ ds++de) (.inRegion ops rest::kk)) cs) H:=this;exact h2'
theorem TK.loopS {c:Code} {ι:Type} (Tf:ι->TT) (hTf:∀ b,y.A.aft (Tf b)=false) (I:ι->List AV->KV->Prop) (b0:ι) (h0:I b0 env K) (e0:T=Tf b0)
  (round:∀ k',k'<=k->∀ b env K,I b env K->(∀ k'' b' env' K',k''<k'->I b' env' K'->TK ((YT y main Ch) k'' i (Tf b') x gm φ0 kdf hkd f cs de A0 K0) ds (.inLoop c::kk) env' K')->TK ((YT y main Ch) k' i (Tf b) x gm φ0 kdf hkd f cs de A0 K0) ds (.code c::.inLoop c::kk) env K) :
  TK ((YT y main Ch) k i T x gm φ0 kdf hkd f cs de A0 K0) ds (.code (.loop c)::kk) env K:=by
 subst e0;have key:∀ k',k'<=k->∀ b env K,I b env K->TK ((YT y main Ch) k' i (Tf b) x gm φ0 kdf hkd f cs de A0 K0) ds (.code c::.inLoop c::kk) env K:=by
  intro k'
  induction k' using Nat.strongRecOn with
  | _ k' ih =>
   intro hle b env K hI;exact round k' hle b env K hI fun k'' b' env' K' hlt hI'=>TK.inLoop (ih k'' hlt oQ b' env' K' hI')
 exact fun A hA=>TA.loop (key k (mL _) b0 env K h0 A hA)
end
end Go.Vel
end
