/- Texts for the statements of chapter 9: what all of them need, part 2. It holds of every program, tape and world that the statements name, as each theorem says. -/
import Derived.Calls
import Derived.Conc.CrowdSel
import Derived.Laws.Sem
import Derived.Conc.CompanyMem
import Derived.Conc.AppendWalk
import Derived.ProofKit
import Derived.Laws.Slices
import Derived.Laws.Build
import Derived.Laws.Small
import Derived.Test.YtcddfkgckelhiaaGreatDoorT0
section
set_option linter.all false
set_option maxRecDepth 20000
set_option maxHeartbeats 60000000
open List renaming getElem?_eq_getElem -> lA, mem_cons -> lI, mem_of_getElem? -> lN, mem_singleton -> lS, mem_map -> lY
open Array renaming getElem?_eq_getElem -> mD, getElem?_setIfInBounds_ne -> mE, getElem?_setIfInBounds_self_of_lt -> mF, getElem?_eq_some_iff -> mG, getElem?_map -> mJ, empty_append -> mK
open Nat renaming le_refl -> mL, lt_of_lt_of_le -> mM, zero_le -> mN, zero_add -> mO, eq_zero_or_pos -> mP, lt_or_ge -> mR, le_trans -> mT
open Bool renaming false_eq_true -> mU
open Option renaming map_eq_some_iff -> mY
namespace Go.Vel
open Go Go.Conc
open Go.ConcN (sumTo upd sumTo_upd upd_ne upd_same)
abbrev NoShun:Loc->Prop:=fun _=>False
inductive Tree (P:Program) (Φ:Goroutine->World->Prop) (τ:Nat->Question->Nat):Goroutine->World->Prop
 | stop {a:Goroutine} {w:World}:a.status=.running->Φ a w->Tree P Φ τ a w
 | step {a:Goroutine} {w:World} (k:Nat->Nat) (a':Nat->Goroutine) (w':Nat->World) (u:Nat->Array MemOp):a.status=.running ->
   (∀ d,Kept (w' d).heap.size (u d))->(∀ d,w.heap.size<=(w' d).heap.size) ->
   (∀ d (gs:Array Goroutine) (sl:Option (Nat×Nat)),gs[0]? =some a->Others gs->runT P (crowd gs (on w τ d) sl) 0=(.next (crowd (gs.setIfInBounds 0 (a' d)) (on (w' d) τ (d+k d)) sl),u d)) ->
   (∀ d,Tree P Φ τ (a' d) (w' d))->Tree P Φ τ a w
section
variable {P:Program} {Φ:Goroutine->World->Prop}
theorem Tree.mk_step {τ:Nat->Question->Nat} {a:Goroutine} {w:World} (hs:a.status=.running)
  (h:∀ d,∃ (k:Nat) (a':Goroutine) (w':World) (u:Array MemOp),Kept w'.heap.size u/\w.heap.size<=w'.heap.size/\(∀ (gs:Array Goroutine) (sl:Option (Nat×Nat)),gs[0]? =some a->Others gs->runT P (crowd gs (on w τ d) sl) 0=(.next (crowd (gs.setIfInBounds 0 a') (on w' τ (d+k)) sl),u))/\Tree P Φ τ a' w'):Tree P Φ τ a w:=by
 exact .step (fun d=>(h d).choose) (fun d=>(h d).choose_spec.choose) (fun d=>(h d).choose_spec.choose_spec.choose) (fun d=>(h d).choose_spec.choose_spec.choose_spec.choose) hs
  (fun d=>(h d).choose_spec.choose_spec.choose_spec.choose_spec.1) (fun d=>(h d).choose_spec.choose_spec.choose_spec.choose_spec.2.1) (fun d=>(h d).choose_spec.choose_spec.choose_spec.choose_spec.2.2.1) (fun d=>(h d).choose_spec.choose_spec.choose_spec.choose_spec.2.2.2)
theorem zcj:∀ (n k:Nat) (m m₁:Machine),runN P n m=.next m₁->runN P (n+k) m=runN P k m₁
 | 0,k,m,m₁,h=>by
  simp only [runN,Stepped.next.injEq] at h;rw [h,mO]
 | n+1,k,m,m₁,h=>by
  rw [show n+1+k=(n+k)+1 by omega];simp only [runN] at h ⊢;split at h
  ·rename_i m₂ h1;exact zcj n k m₂ m₁ h
  ·rename_i hne;exact absurd h (hne _)
theorem zcn {a b:Goroutine} {w v:World} (h:solo a w=solo b v):a=b/\w=v:=by
 have h1:=congrArg Machine.gs h;have h2:=congrArg Machine.world h;exact ⟨by simpa [solo] using h1,h2⟩
structure St where
 a:Goroutine
 w:World
 c:Nat
 f:Nat->Question->Nat
def Good (P:Program) (Φ:Goroutine->World->Prop) (τ:Nat->Question->Nat) (a:Goroutine) (w:World) (n:Nat) (s:St):Prop :=
 okG s.a/\s.a.status=.running/\¬ Tree P Φ τ s.a s.w/\∀ σ,Agree s.f 0 σ 0 s.c->runN P n (solo a (on w σ 0))=.next (solo s.a (on s.w σ s.c)) /\
  ∀ i,i<n->∀ b W,runN P i (solo a (on w σ 0))=.next (solo b W)->b.status=.running->¬ Φ b W
def Later (s s':St):Prop:=s.c<=s'.c/\∀ i,i<s.c->∀ q,s'.f i q=s.f i q
theorem Later.refl (s:St):Later s s:=⟨mL _,fun _ _ _=>rfl⟩
theorem Later.trans {s s' s'':St} (h:Later s s') (k:Later s' s''):Later s s'':=⟨mT h.1 k.1,fun i hi q=>(k.2 i (mM hi h.1) q).trans (h.2 i hi q)⟩
theorem zaO (T:Tame P) {τ:Nat->Question->Nat} {a:Goroutine} {w:World} (hΦ:∀ b w τ d,Φ b (on w τ d)->Φ b w)
  (H:∀ σ,∃ n b W,runN P n (solo a (on w σ 0))=.next (solo b W)/\b.status=.running/\Φ b W) {n:Nat} {s:St} (h:Good P Φ τ a w n s):∃ s',Good P Φ τ a w (n+1) s'/\Later s s':=by
 obtain ⟨hok,hrun,hT,hist⟩:=h;have hnot:¬ Φ s.a s.w:=fun x=>hT (.stop hrun x);obtain ⟨d,hd⟩:∃ d,¬ ∃ (k:Nat) (a':Goroutine) (w':World) (u:Array MemOp),Kept w'.heap.size u/\s.w.heap.size<=w'.heap.size/\(∀ (gs:Array Goroutine) (sl:Option (Nat×Nat)),gs[0]? =some s.a->Others gs->runT P (crowd gs (on s.w τ d) sl) 0=(.next (crowd (gs.setIfInBounds 0 a') (on w' τ (d+k)) sl),u))/\Tree P Φ τ a' w':=by
  apply Classical.byContradiction;intro hc;exact hT (Tree.mk_step hrun fun d=>Classical.byContradiction fun hx=>hc ⟨d,hx⟩)
 let f':Nat->Question->Nat:=fun i q=>if i<s.c then s.f i q else τ (d+(i - s.c)) q
 have hf1:∀ i,i<s.c->∀ q,f' i q=s.f i q:=fun i hi q=>by simp [f',hi]
 have hf2:∀ i q,f' (s.c+i) q=τ (d+i) q:=fun i q=>by
  show (if s.c+i<s.c then s.f (s.c+i) q else τ (d+(s.c+i - s.c)) q)=_;rw [if_neg oQ,Nat.add_sub_cancel_left]
 rcases zc3 T hok hrun s.w τ d with ⟨k,hD⟩ | ⟨k,a',w',u,hok',hrun',hu,hsz,hst⟩
 ·have hD':Dead P (solo s.a (on s.w f' s.c)):=hD f' s.c fun i _ q=>hf2 i q;obtain ⟨h1,h2⟩:=hist f' fun i hi q=>by simpa using hf1 i hi q
  obtain ⟨m,b,W,e,hb,hφ⟩:=H f';rcases Nat.lt_trichotomy m n with hmn | hmn | hmn
  ·exact absurd hφ (h2 m hmn b W e hb)
  ·subst hmn;rw [e] at h1;obtain ⟨rfl,rfl⟩:=zcn (Stepped.next.inj h1);exact absurd (hΦ _ _ _ _ hφ) hnot
  ·obtain ⟨j,rfl⟩:∃ j,m=n+(j+1):=⟨m - n - 1,oQ⟩;rw [zcj n (j+1) _ _ h1] at e;exact absurd hb (hD' j b W e)
 ·refine ⟨⟨a',w',s.c+k,f'⟩,⟨hok',hrun',fun hx=>hd ⟨k,a',w',u,hu,hsz,hst τ d (Agree.refl _ _ _),hx⟩,fun σ hσ=>?_⟩,Nat.le_add_right _ _,hf1⟩;obtain ⟨h1,h2⟩:=hist σ fun i hi q=>by
   have:=hσ i (show i<s.c+k by omega) q;simp only [mO] at this ⊢;rw [this,hf1 i hi]
  have hA:Agree τ d σ s.c k:=fun i hi q=>by
   have:=hσ (s.c+i) (show s.c+i<s.c+k by omega) q;simp only [mO] at this;rw [this,hf2]
  have hstep:step P (solo s.a (on s.w σ s.c))=.next (solo a' (on w' σ (s.c+k))):=by
   refine yJ (u:=u) hrun ?_;rw [hst σ s.c hA #[s.a] none rfl (wQ _)];rfl
  refine ⟨?_,fun i hi b W e hb=>?_⟩
  ·rw [zcj n 1 _ _ h1];simp only [runN,hstep]
  ·rcases mR i n with hin | hin
   ·exact h2 i hin b W e hb
   ·obtain rfl:i=n:=by omega
    rw [e] at h1;obtain ⟨rfl,rfl⟩:=zcn (Stepped.next.inj h1);exact fun hφ=>hnot (hΦ _ _ _ _ hφ)
theorem zf7 (T:Tame P) {a:Goroutine} {w:World} (ha:okG a) (hs:a.status=.running) (hΦ:∀ b w τ d,Φ b (on w τ d)->Φ b w)
  (H:∀ σ,∃ n b W,runN P n (solo a (on w σ 0))=.next (solo b W)/\b.status=.running/\Φ b W) (τ:Nat->Question->Nat):Tree P Φ τ a w:=by
 apply Classical.byContradiction;intro hT;have h0:Good P Φ τ a w 0 ⟨a,w,0,fun _ _=>0⟩:=⟨ha,hs,hT,fun σ _=>⟨rfl,fun i hi=>by omega⟩⟩
 let seq:(n:Nat)->{ s:St // Good P Φ τ a w n s }:=fun n=>Nat.rec (motive:=fun n=>{ s:St // Good P Φ τ a w n s }) ⟨_,h0⟩ (fun _ x=>⟨(zaO T hΦ H x.2).choose,(zaO T hΦ H x.2).choose_spec.1⟩) n
 have hL1:∀ n,Later (seq n).1 (seq (n+1)).1:=fun n=>(zaO T hΦ H (seq n).2).choose_spec.2;have hL:∀ m k,Later (seq m).1 (seq (m+k)).1:=fun m k=>by
  induction k with
  | zero=>exact Later.refl _
  | succ k ih=>exact ih.trans (hL1 (m+k))
 have hL':∀ m n,m<=n->Later (seq m).1 (seq n).1:=fun m n hmn=>by
  obtain ⟨k,rfl⟩:=Nat.le.dest hmn;exact hL m k
 let σ:Nat->Question->Nat:=fun i q=>open Classical in if h:∃ n,i<(seq n).1.c then (seq h.choose).1.f i q else 0
 have hσ:∀ n i,i<(seq n).1.c->∀ q,σ i q=(seq n).1.f i q:=fun n i hi q=>by
  have hex:∃ n,i<(seq n).1.c:=⟨n,hi⟩;have e:σ i q=(seq hex.choose).1.f i q:=dif_pos hex;rw [e];rcases Nat.le_total hex.choose n with hle | hle
  ·exact ((hL' _ _ hle).2 i hex.choose_spec q).symm
  ·exact (hL' _ _ hle).2 i hi q
 obtain ⟨n,b,W,e,hb,hφ⟩:=H σ;obtain ⟨_,_,_,hist⟩:=(seq (n+1)).2;exact (hist σ fun i hi q=>by simpa using hσ (n+1) i hi q).2 n oQ b W e hb hφ
theorem zdl {t:Trace} {gs:Array Goroutine} {q:Nat->Nat} (h:Leavers P t gs q):Others gs:=fun j x hj hx=>(h.old j x hj hx).status
theorem zgp {t:Trace} {gs:Array Goroutine} {q:Nat->Nat} (h:Leavers P t gs q) {a b:Goroutine} (h0:gs[0]? =some b) {u:Trace} (hu:∀ op∈u,op.g=0):Leavers P (t++u) (gs.setIfInBounds 0 a) q:=by
 have hlt:0<gs.size:=(mG.1 h0).1;refine ⟨fun j x hj hx=>?_,fun j hj=>?_⟩
 ·have hne:0≠j:=by omega
  rw [mE hne] at hx;rw [Deaf_other t hne u hu];exact h.old j x hj hx
 ·rw [Array.size_setIfInBounds] at hj;rw [Deaf_other t (g':=0) oQ u hu];exact h.above j hj
theorem zg8 (w:World) (τ:Nat->Question->Nat) {a:Goroutine} (hs:a.status=.running) {B:Nat}:∀ (M:Nat) (gs:Array Goroutine) (d:Nat) (sl:Option (Nat×Nat)) (t:Trace) (q:Nat->Nat),sumTo gs.size q<=M->gs[0]? =some a->Leavers P t gs q->Past NoShun B t ->
  ∃ (N:Nat) (gs':Array Goroutine) (d':Nat) (sl':Option (Nat×Nat)) (t':Trace) (q':Nat->Nat),runNT P N (crowd gs (on w τ d) sl) t=(.next (crowd gs' (on w τ d') sl'),t')/\gs'.size=gs.size/\gs'[0]? =some a/\Leavers P t' gs' q'/\Past NoShun B t' /\
   ∃ d'' sl'',stepT P (crowd gs' (on w τ d') sl')=runT P (crowd gs' (on w τ d'') sl'') 0:=by
 intro M
 induction M with
 | zero =>
  intro gs d sl t q hM h0 hL hP;have haw:∀ g∈gs,awake g:=fun g hg=>by
   obtain ⟨i,hi,rfl⟩:=Array.mem_iff_getElem.1 hg;rcases mP i with rfl | hpos
   ·have:gs[0]=a:=by simpa [mD hi] using h0
    rw [this]; exact awake_of (.inl hs)
   ·exact awake_of ((hL.old i _ hpos (mD hi)).status.elim .inl fun x=>.inr (.inr x))
  obtain ⟨i,g,d',sl',hi,hg,hst⟩:=crowd_pick (P:=P) (w:=on w τ d) (sl:=sl) haw ⟨0,a,h0,hs⟩;rcases mP i with rfl | hpos
  ·exact ⟨0,gs,d,sl,t,q,rfl,rfl,h0,hL,hP,d',sl',hst⟩
  ·exfalso;have hq:=hL.old i g hpos hi;have hlt:i<gs.size:=(mG.1 hi).1;have:=Go.ConcN.le_sumTo (f:=q) hlt;obtain hqi:q i=0:=by omega
   rw [hqi] at hq;rw [hq.1] at hg; cases hg
 | succ M ih =>
  intro gs d sl t q hM h0 hL hP;have haw:∀ g∈gs,awake g:=fun g hg=>by
   obtain ⟨i,hi,rfl⟩:=Array.mem_iff_getElem.1 hg;rcases mP i with rfl | hpos
   ·have:gs[0]=a:=by simpa [mD hi] using h0
    rw [this]; exact awake_of (.inl hs)
   ·exact awake_of ((hL.old i _ hpos (mD hi)).status.elim .inl fun x=>.inr (.inr x))
  obtain ⟨i,g,d',sl',hi,hg,hst⟩:=crowd_pick (P:=P) (w:=on w τ d) (sl:=sl) haw ⟨0,a,h0,hs⟩;rcases mP i with rfl | hpos
  ·exact ⟨0,gs,d,sl,t,q,rfl,rfl,h0,hL,hP,d',sl',hst⟩
  ·have hq:=hL.old i g hpos hi;have hi0:(i==0)=false:=by simp; omega
   have hlt:i<gs.size:=(mG.1 hi).1;cases hqi:q i with
   | zero=>rw [hqi] at hq; rw [hq.1] at hg; cases hg
   | succ k =>
    rw [hqi] at hq;rcases hq with ⟨hf,_⟩ | ⟨_,g',es,hm,hstp,hq'⟩
    ·rw [hf] at hg; cases hg
    have hrunT:=runT_crowd_go (P:=P) (sl:=sl') (i:=i) hi (by rw [hi0]; exact hstp ((on w τ d).at d'));have hsz:((gs.map (woken P g g' ((on w τ d).at d'))).setIfInBounds i g').size=gs.size:=by simp
    have hsum:sumTo gs.size (upd q i k)+(k+1)=sumTo gs.size q+k:=by
     have:=sumTo_upd q k id hlt;simpa [hqi] using this
    obtain ⟨N,gs',d2,sl2,t',q',hr,hsz',h0',hL',hP',hfin⟩:=ih ((gs.map (woken P g g' ((on w τ d).at d'))).setIfInBounds i g') d' sl' (t++MemOp.ofEvents i g.frame.fn g.frame.place es) (upd q i k) (by rw [hsz]; omega)
     (by
      have hne:i≠0:=by omega
      rw [mE hne,mJ,h0];simp [woken_run hs])
     ⟨fun j x hj hx=>by
      by_cases hji:i=j
      ·subst hji;rw [mF (by simpa using hlt)] at hx;obtain rfl:=Option.some.inj hx;rw [upd_same,Deaf_own];exact hq'
      ·rw [mE hji,mJ] at hx;obtain ⟨y,hy,rfl⟩:=mY.1 hx;have hqj:=hL.old j y hj hy;rw [woken_quitsD hqj,upd_ne q k (Ne.symm hji),Deaf_other t hji _ (fun op hop=>by obtain ⟨e,_,rfl⟩:=Go.Conc.mem_ofEvents hop; rfl)];exact hqj,fun j hj=>by
      rw [Deaf_other t (g':=i) (by simp at hj; omega) _ (fun op hop=>by obtain ⟨e,_,rfl⟩:=Go.Conc.mem_ofEvents hop; rfl)];exact hL.above j (by simpa using hj)⟩
     (hP.mute oQ hm)
    refine ⟨N+1,gs',d2,sl2,t',q',?_,hsz'.trans hsz,h0',hL',hP',hfin⟩;simp only [runNT,hst,hrunT];exact hr
def yi (P:Program) (Φ:Goroutine->World->Prop) (a:Goroutine) (w:World):Prop :=
 ∀ (τ:Nat->Question->Nat) (d:Nat) (gs:Array Goroutine) (sl:Option (Nat×Nat)) (t:Trace) (q:Nat->Nat),gs[0]? =some a->Leavers P t gs q->Past NoShun w.heap.size t ->
  ∃ (N:Nat) (gs':Array Goroutine) (a':Goroutine) (w':World) (d':Nat) (sl':Option (Nat×Nat)) (t':Trace) (q':Nat->Nat),
   runNT P N (crowd gs (on w τ d) sl) t=(.next (crowd gs' (on w' τ d') sl'),t')/\gs'[0]? =some a'/\Φ a' w'/\Leavers P t' gs' q'/\Past NoShun w'.heap.size t'
theorem wH:∀ (n k:Nat) (m m₁:Machine) (t t₁:Trace),runNT P n m t=(.next m₁,t₁)->runNT P (n+k) m t=runNT P k m₁ t₁
 | 0,k,m,m₁,t,t₁,h=>by
  simp only [runNT,Prod.mk.injEq,Stepped.next.injEq] at h;rw [h.1,h.2,mO]
 | n+1,k,m,m₁,t,t₁,h=>by
  rw [show n+1+k=(n+k)+1 by omega];simp only [runNT] at h ⊢;split at h
  ·rename_i m₂ ops h1;exact wH n k m₂ m₁ _ t₁ h
  ·rename_i e ops hne h1;simp only [Prod.mk.injEq] at h;obtain ⟨rfl,_⟩:=h;exact (hne _ rfl).elim
theorem zbY {a:Goroutine} {w:World} (h:∀ τ,Tree P Φ τ a w):yi P Φ a w:=by
 intro τ d gs sl t q h0 hL hP;have hT:=h τ;clear h
 induction hT generalizing d gs sl t q with
 | @stop a w hs hφ=>exact ⟨0,gs,a,w,d,sl,t,q,rfl,h0,hφ,hL,hP⟩
 | @step a w k a' w' u hs hu hsz hst hT ih =>
  obtain ⟨N,gs1,d1,sl1,t1,q1,hr,_,h01,hL1,hP1,d2,sl2,hfin⟩:=zg8 w τ hs _ gs d sl t q (mL _) h0 hL hP;have hlt:0<gs1.size:=(mG.1 h01).1;have hst':=hst d2 gs1 sl2 h01 (zdl hL1);have hP2:Past NoShun (w' d2).heap.size (t1++u d2):=(hP1.mono (hsz d2)).app0 (hu d2).1 (fun _ _ _ _ hx=>hx.elim) ((hu d2).2.1 t1) (hu d2).2.2;obtain ⟨N2,gs',a'',w'',d',sl',t',q',hr2,h02,hφ,hL2,hP3⟩:=ih d2 (d2+k d2) (gs1.setIfInBounds 0 (a' d2)) sl2 (t1++u d2) q1 (by simp [hlt]) (zgp hL1 h01 (hu d2).1) hP2;refine ⟨N+(1+N2),gs',a'',w'',d',sl',t',q',?_,h02,hφ,hL2,hP3⟩;rw [wH N (1+N2) _ _ _ _ hr,Nat.add_comm 1 N2];simp only [runNT,hfin,hst'];exact hr2
end
section
variable {P:Program}
theorem yi.bind {Φ Ψ:Goroutine->World->Prop} {a:Goroutine} {w:World} (h:yi P Φ a w) (k:∀ a' w',Φ a' w'->yi P Ψ a' w'):yi P Ψ a w:=by
 intro τ d gs sl t q h0 hL hP;obtain ⟨N,gs1,a1,w1,d1,sl1,t1,q1,r1,g1,hφ,L1,P1⟩:=h τ d gs sl t q h0 hL hP;obtain ⟨M,gs2,a2,w2,d2,sl2,t2,q2,r2,g2,hψ,L2,P2⟩:=k a1 w1 hφ τ d1 gs1 sl1 t1 q1 g1 L1 P1;exact ⟨N+M,gs2,a2,w2,d2,sl2,t2,q2,by rw [wH N M _ _ _ _ r1]; exact r2,g2,hψ,L2,P2⟩
theorem yi.on {Φ:Goroutine->World->Prop} {a:Goroutine} {w:World} {τ:Nat->Question->Nat} {d:Nat}:yi P Φ a (Go.Vel.on w τ d)↔yi P Φ a w:=Iff.rfl
theorem yi.here {Φ:Goroutine->World->Prop} {a:Goroutine} {w:World} (h:Φ a w):yi P Φ a w :=
 fun _ d gs sl t q h0 hL hP=>⟨0,gs,a,w,d,sl,t,q,rfl,h0,h,hL,hP⟩
theorem zce (T:Tame P):∀ (n:Nat) (a:Goroutine) (w:World) (b:Goroutine) (W:World),okG a->a.status=.running->runN P n (solo a w)=.next (solo b W)->b.status=.running->okG b
 | 0,a,w,b,W,ha,_,h,_=>by
  simp only [runN,Stepped.next.injEq] at h;rw [<- (zcn h).1]; exact ha
 | n+1,a,w,b,W,ha,hs,h,hb=>by
  rcases zc3 T ha hs w w.tape w.drawn with ⟨k,hD⟩ | ⟨k,a',w',u,ha',hs',_,_,hst⟩
  ·exact absurd hb (hD _ _ (Agree.refl _ _ _) n b W h)
  ·have h1:=yJ (P:=P) (W:=Go.Vel.on w w.tape w.drawn) hs (hst _ _ (Agree.refl _ _ _) #[a] none rfl (wQ _));have e:step P (solo a w)=.next (solo a' (Go.Vel.on w' w.tape (w.drawn+k))):=h1;simp only [runN,e] at h;exact zce T n a' _ b W ha' hs' h hb
theorem yi.lone (T:Tame P) {Ψ:Goroutine->World->Prop} {a:Goroutine} {w:World} (ha:okG a) (hs:a.status=.running)
  (H:∀ σ,∃ n b W,runN P n (solo a (Go.Vel.on w σ 0))=.next (solo b W)/\b.status=.running/\(okG b->yi P Ψ b W)):yi P Ψ a w:=by
 refine yi.bind (zbY (zf7 (Φ:=yi P Ψ) T ha hs (fun _ _ _ _ x=>yi.on.1 x) fun σ=>?_)) fun _ _ h=>h;obtain ⟨n,b,W,h1,h2,h3⟩:=H σ;exact ⟨n,b,W,h1,h2,h3 (zce T n _ _ b W ha hs h1 h2)⟩
theorem yi.steps (T:Tame P) {Ψ:Goroutine->World->Prop} {fr:Frame} {cs:List Frame} {w:World} (ha:okG (G fr cs))
  (H:∀ σ,∃ fr' cs' W,Steps P (Go.lone fr cs (Go.Vel.on w σ 0)) (Go.lone fr' cs' W)/\(okG (G fr' cs')->yi P Ψ (G fr' cs') W)):yi P Ψ (G fr cs) w:=by
 refine yi.lone T ha Z fun σ=>?_;obtain ⟨fr',cs',W,⟨n,hn⟩,h⟩:=H σ;exact ⟨n,G fr' cs',W,hn,rfl,h⟩
def wpB (P:Program) (c:Code) (N R:Act->World->Prop) (a:Act) (w:World):Prop :=
 ∀ (b:Frame) (k:List Item) (cs:List Frame),b.kind=.normal->okG (G (b.at a (.code c::k)) cs)->∀ Ψ:Goroutine->World->Prop,
  (∀ a' w',N a' w'->yi P Ψ (G (b.at a' k) cs) w')->(∀ a' w' todo,R a' w'->okG (G { b.at a' todo with mode:=.returning } cs)->yi P Ψ (G { b.at a' todo with mode:=.returning } cs) w')->yi P Ψ (G (b.at a (.code c::k)) cs) w
theorem wpB.mono {c:Code} {N R N' R':Act->World->Prop} {a:Act} {w:World} (h:wpB P c N R a w) (hn:∀ a w,N a w->N' a w) (hr:∀ a w,R a w->R' a w):wpB P c N' R' a w :=
 fun b k cs hb hok Ψ h1 h2=>h b k cs hb hok Ψ (fun a' w' x=>h1 a' w' (hn _ _ x)) (fun a' w' todo x=>h2 a' w' todo (hr _ _ x))
def loneQ (N R:Act->World->Prop):Exit->Act->World->Prop
 | .normal,a,w=>N a w
 | .ret,a,w=>R a w
 | _,_,_=>False
def CallsB (P:Program) (f:FuncId) (args:Array Value) (w:World) (R:Value->World->Prop):Prop :=
 ∀ (c:Frame) (cs:List Frame),okG (G (Frame.enter P f args .normal) (c::cs))->∀ Ψ:Goroutine->World->Prop,(∀ v w',R v w'->okG (G (c.finish v) cs)->yi P Ψ (G (c.finish v) cs) w')->yi P Ψ (G (Frame.enter P f args .normal) (c::cs)) w
theorem CallsB.mono {f:FuncId} {args:Array Value} {w:World} {R R':Value->World->Prop} (h:CallsB P f args w R) (hr:∀ v w,R v w->R' v w):CallsB P f args w R' :=
 fun c cs hok Ψ k=>h c cs hok Ψ fun v w' x=>k v w' (hr v w' x)
def retQ (R:Value->World->Prop) (e:Ending) (w:World):Prop:=∃ v,e=.returned v/\R v w
theorem zgi (T:Tame P) {f:FuncId} {args:Array Value} {w:World} {R:Value->World->Prop} (h:∀ σ,Calls P f args (Go.Vel.on w σ 0) (retQ R)):CallsB P f args w R:=by
 intro c cs hok Ψ k;refine yi.steps T hok fun σ=>?_;obtain ⟨e,w',fr,⟨v,rfl,hR⟩,hcomes,_,hleave⟩:=h σ (c::cs);exact ⟨_,_,w',Steps.trans hcomes (.one (step_leave_returned hleave)),fun hok'=>k v w' hR hok'⟩
end
end Go.Vel
namespace Go.Vel
open Go Go.Conc
abbrev Hp:=Nat->Option (Bool×Obj)
def z6 (H:Hp) (w:World):Prop:=∀ b rw o,H b=some (rw,o)->w.heap[b]? =some o
def Hp.next (H:Hp) (w w':World):Hp:=fun b=>match H b with
 | some (false,o)=>some (false,o)
 | some (true,_)=>(w'.heap[b]?).map fun o=>(true,o)
 | none=>if w.heap.size<=b then (w'.heap[b]?).map fun o=>(true,o) else none
def blk:Loc->Nat
 | .cell a=>a.block
 | .obj r=>r
 | _=>0
def Hp.lets (H:Hp) (b:Nat) (write:Bool):Prop:=∃ rw o,H b=some (rw,o)/\(write=true->rw=true)
def EvH (H:Hp) (e:Event):Prop:=match e.loc with
 | .cell a=>H.lets a.block e.write
 | .obj r=>e.sync=false/\H.lets r e.write
 | .mark m=>m=.noRoom\/∃ f,m=.extern f
 | _=>False
structure StepH (H:Hp) (w w':World) (es:Array Event):Prop where
 size:w.heap.size<=w'.heap.size
 kept:∀ b,b<w.heap.size->(∀ o,H b≠some (true,o))->w'.heap[b]? =w.heap[b]?
 evs:∀ e∈es,EvH (H.next w w') e
 os:w'.os=w.os
 out:w'.output=w.output
 tape:w'.tape=w.tape
theorem z6.lt {H:Hp} {w:World} (h:z6 H w) {b:Nat} {x:Bool×Obj} (hb:H b=some x):b<w.heap.size:=(mG.1 (h b x.1 x.2 hb)).1
theorem z6.next {H:Hp} {w w':World} {es:Array Event} (h:z6 H w) (hs:StepH H w w' es):z6 (H.next w w') w':=by
 intro b rw o hb;unfold Hp.next at hb;split at hb
 ·rename_i o' e;cases hb;rw [hs.kept b (h.lt e) (fun o'' e'=>by rw [e] at e'; cases e')];exact h b _ _ e
 ·obtain ⟨x,hx,e⟩:=mY.1 hb;cases e; exact hx
 ·split at hb
  ·obtain ⟨x,hx,e⟩:=mY.1 hb;cases e; exact hx
  ·cases hb
theorem z6.other {H K:Hp} {w w':World} {es:Array Event} (h:z6 K w) (hs:StepH H w w' es) (hd:∀ b o,H b=some (true,o)->K b=none):z6 K w':=by
 intro b rw o hb;rw [hs.kept b (h.lt hb) (fun o' e=>by rw [hd b o' e] at hb; cases hb)];exact h b rw o hb
structure TInv (t:Trace) (n:Nat) (hp:Nat->Hp) (act:Nat->Prop):Prop where
 clean:∀ said,¬ Race said t
 hears:Deaf t 0=0
 low:∀ op∈t,op.act.low n
 known:∀ idx a,touchAt t idx=some a->a.loc.isMemory=true->Knows t 0 idx\/∃ i,act i/\t.g? idx=some i/\(hp i).lets (blk a.loc) a.write
 wk:∀ i,act i->∀ idx a,touchAt t idx=some a->a.loc.isMemory=true->∀ rw o,hp i (blk a.loc)=some (rw,o)->(rw=true\/a.write=true)->Knows t i idx
 deaf:∀ i,act i->Deaf t i=0
 pos:∀ i,act i->0<i
 disj:∀ i k b o,(i=0\/act i)->(k=0\/act k)->i≠k->hp i b=some (true,o)->hp k b=none
theorem zf5 {t:Trace} {n:Nat} (h:Past NoShun n t) (H:Hp):TInv t n (fun _=>H) (fun _=>False) :=
 ⟨h.clean,h.hears,h.seen,fun idx a ha hm=>.inl ((h.known idx a ha hm).elim id fun x=>x.1.elim),fun _ hi=>hi.elim,fun _ hi=>hi.elim,fun _ hi=>hi.elim,fun i k b o hi hk hne=>by
  rcases hi with rfl | hi
  ·rcases hk with rfl | hk
   ·exact absurd rfl hne
   ·exact hk.elim
  ·exact hi.elim⟩
theorem zfP {t:Trace} {n:Nat} {hp:Nat->Hp} {act:Nat->Prop} (h:TInv t n hp act) (ha:∀ i,¬ act i):Past NoShun n t:=by
 have hk:∀ idx a,touchAt t idx=some a->a.loc.isMemory=true->Knows t 0 idx:=fun idx a hx hm=>(h.known idx a hx hm).elim id fun ⟨i,hi,_⟩=>absurd hi (ha i);refine ⟨h.clean,fun idx a hx hm=>.inl (hk idx a hx hm),fun idx g hg hne hc=>?_,h.hears,h.low⟩;obtain ⟨x,hx,hm,_⟩:=hc;obtain ⟨q,z,hq,hz,hb⟩:=hk idx x hx hm;refine ⟨q,by simp [Trace.g?,hq,hz],?_⟩;rcases hb with rfl | hb
 ·have:t.g? idx=some 0:=by simp [Trace.g?,hq,hz]
  rw [this] at hg; cases hg; exact absurd rfl hne
 ·exact hb
theorem ziT {n:Nat} {x:MemAct} {a:Touch} (h:x.low n) (ht:x.touch? =some a) (hm:a.loc.isMemory=true):blk a.loc<n:=by
 cases x with
 | access e =>
  simp only [MemAct.touch?,Option.some.injEq] at ht;subst ht;obtain ⟨loc,wr,sy⟩:=e;cases loc <;> first | exact h | (simp [Loc.isMemory] at hm)
 | mark m =>
  cases m <;> simp only [MemAct.touch?,Option.some.injEq,reduceCtorEq] at ht;all_goals (subst ht; exact h)
 | _=>simp [MemAct.touch?] at ht
theorem zbC {t:Trace} {n idx:Nat} {a:Touch} (h:∀ op∈t,op.act.low n) (ht:touchAt t idx=some a) (hm:a.loc.isMemory=true):blk a.loc<n:=by
 obtain ⟨x,hx,hxa⟩:=touch_of ht;exact ziT (h x (Array.mem_of_getElem? hx)) hxa hm
theorem TInv.appOwn {t u:Trace} {n n':Nat} {hp hp':Nat->Hp} {act:Nat->Prop} (h:TInv t n hp act) {i:Nat} (hi:i=0\/act i) (hn:n<=n')
  (hoth:∀ k,k≠i->hp' k=hp k)
  (hback:∀ b rw o,hp' i b=some (rw,o)->(∃ o',hp i b=some (rw,o'))\/n<=b)
  (hfwd:∀ b wr,(hp i).lets b wr->(hp' i).lets b wr)
  (hdom:∀ k,(k=0\/act k)->∀ b x,hp k b=some x->b<n)
  (hu:∀ op∈u,op.g=i) (hd:Deaf (t++u) i=Deaf t i) (hl:∀ op∈u,op.act.low n')
  (ht:∀ op∈u,∀ b,op.act.touch? =some b->b.loc.isMemory=true->(hp' i).lets (blk b.loc) b.write):TInv (t++u) n' hp' act:=by
 have hdeaf:∀ k,Deaf (t++u) k=Deaf t k:=fun k=>by
  by_cases hk:k=i
  ·subst hk; exact hd
  ·exact Deaf_other t (Ne.symm hk) u hu
 have hconf:∀ idx a,touchAt t idx=some a->a.loc.isMemory=true->∀ op∈u,∀ b,op.act.touch? =some b->a.loc=b.loc->(a.write=true\/b.write=true)->Knows t i idx:=by
  intro idx a ha hm op hop b hb hloc hw;obtain ⟨rw,o,hrw,himp⟩:=ht op hop b hb (by rw [<- hloc]; exact hm);rw [<- hloc] at hrw;have hlt:=zbC h.low ha hm;rcases hback _ _ _ hrw with ⟨o',hold⟩ | hge
  ·rcases hi with rfl | hi
   ·rcases h.known idx a ha hm with hk | ⟨k,hk,_,rw',o'',hkb,himp'⟩
    ·exact hk
    ·exfalso;have hk0:=h.pos k hk;rcases hw with hw | hw
     ·have:=himp' hw;subst this;have:=h.disj k 0 _ _ (.inr hk) (.inl rfl) oQ hkb;rw [this] at hold; cases hold
     ·have:=himp hw;subst this;have:=h.disj 0 k _ _ (.inl rfl) (.inr hk) oQ hold;rw [this] at hkb; cases hkb
   ·refine h.wk i hi idx a ha hm rw o' hold ?_;exact hw.elim .inr fun hb=>.inl (himp hb)
  ·omega
 refine ⟨fun said=>noRace_append (h.clean said) hu fun idx a ha op hop b hb hc=>hconf idx a ha hc.2.1 op hop b hb hc.1 (by simpa using hc.2.2.1),(hdeaf 0).trans h.hears,seen_app (fun op hop=>MemAct.low_mono hn (h.low op hop)) hl,fun idx a ha hm=>?_,fun k hk idx a ha hm rw o hb hor=>?_,fun k hk=>(hdeaf k).trans (h.deaf k hk),h.pos,fun k l b o hk hl' hne hb=>?_⟩
 ·obtain ⟨x,hx,hxa⟩:=touch_of ha;rcases getElem?_append_cases hx with ⟨hlt,hx'⟩ | ⟨_,hxu⟩
  ·rcases h.known idx a (by rw [touchAt_of hx']; exact hxa) hm with hk | ⟨k,hk,hg,hlets⟩
   ·exact .inl (hk.app u)
   ·refine .inr ⟨k,hk,by rw [g?_old hlt]; exact hg,?_⟩;by_cases hki:k=i
    ·subst hki; exact hfwd _ _ hlets
    ·rw [hoth k hki]; exact hlets
  ·rcases hi with rfl | hi
   ·have:=knows_own hx;rw [hu x hxu] at this;exact .inl this
   ·exact .inr ⟨i,hi,by simp [Trace.g?,hx,hu x hxu],ht x hxu a hxa hm⟩
 ·obtain ⟨x,hx,hxa⟩:=touch_of ha;by_cases hki:k=i
  ·subst hki;rcases getElem?_append_cases hx with ⟨hlt,hx'⟩ | ⟨_,hxu⟩
   ·have ha':touchAt t idx=some a:=by rw [touchAt_of hx']; exact hxa
    rcases hback _ _ _ hb with ⟨o',hold⟩ | hge
    ·exact (h.wk k hk idx a ha' hm rw o' hold hor).app u
    ·have:=zbC h.low ha' hm;omega
   ·have:=knows_own hx;rw [hu x hxu] at this;exact this
  ·rw [hoth k hki] at hb;rcases getElem?_append_cases hx with ⟨hlt,hx'⟩ | ⟨_,hxu⟩
   ·exact (h.wk k hk idx a (by rw [touchAt_of hx']; exact hxa) hm rw o hb hor).app u
   ·exfalso;obtain ⟨rw',o',hrw,himp⟩:=ht x hxu a hxa hm;rcases hback _ _ _ hrw with ⟨o'',hold⟩ | hge
    ·rcases hor with rfl | hw
     ·have:=h.disj k i _ _ (.inr hk) hi hki hb;rw [this] at hold; cases hold
     ·have:=himp hw;subst this;have:=h.disj i k _ _ hi (.inr hk) (Ne.symm hki) hold;rw [this] at hb; cases hb
    ·have:=hdom k (.inr hk) _ _ hb;omega
 ·
  by_cases hki:k=i
  ·subst hki;have hli:l≠k:=Ne.symm hne;rw [hoth l hli];rcases hback _ _ _ hb with ⟨o',hold⟩ | hge
   ·exact h.disj k l b _ hk hl' hne hold
   ·cases e:hp l b with
    | none=>rfl
    | some x=>have:=hdom l hl' b x e; omega
  ·rw [hoth k hki] at hb;have hb':=hdom k hk b _ hb;by_cases hli:l=i
   ·subst hli;cases e:hp' l b with
    | none=>rfl
    | some x =>
     obtain ⟨rw,o'⟩:=x;rcases hback _ _ _ e with ⟨o'',hold⟩ | hge
     ·have:=h.disj k l b _ hk hl' hne hb;rw [this] at hold; cases hold
     ·omega
   ·rw [hoth l hli];exact h.disj k l b _ hk hl' hne hb
theorem vY {said:Bool} {t u:Trace} (h:¬ Race said t) (hu:∀ op∈u,op.act.touch? =none):¬ Race said (t++u):=by
 rintro ⟨i,j,hij,⟨a,b,ha,hb,hc⟩,n1,n2⟩;obtain ⟨x,hx,hxa⟩:=touch_of ha;obtain ⟨y,hy,hyb⟩:=touch_of hb;rcases getElem?_append_cases hx with ⟨_,hx'⟩ | ⟨_,hxu⟩
 ·rcases getElem?_append_cases hy with ⟨_,hy'⟩ | ⟨_,hyu⟩
  ·exact h ⟨i,j,hij,⟨a,b,by simp [Trace.act?,hx',hxa],by simp [Trace.act?,hy',hyb],hc⟩,fun e=>n1 (hb_app u e),fun e=>n2 (hb_app u e)⟩
  ·rw [hu y hyu] at hyb; cases hyb
 ·rw [hu x hxu] at hxa; cases hxa
theorem y8 {t u:Trace} (hu:∀ op∈u,op.act.touch? =none) {idx:Nat} {a:Touch} (h:touchAt (t++u) idx=some a):touchAt t idx=some a/\idx<t.size:=by
 obtain ⟨x,hx,hxa⟩:=touch_of h;rcases getElem?_append_cases hx with ⟨hlt,hx'⟩ | ⟨_,hxu⟩
 ·exact ⟨by rw [touchAt_of hx']; exact hxa,hlt⟩
 ·rw [hu x hxu] at hxa; cases hxa
theorem TInv.appStill {t u:Trace} {n:Nat} {hp:Nat->Hp} {act:Nat->Prop} (h:TInv t n hp act) (hu:∀ op∈u,op.act.touch? =none) (hd:∀ k,k=0\/act k->Deaf (t++u) k=Deaf t k) (hl:∀ op∈u,op.act.low n):TInv (t++u) n hp act:=by
 refine ⟨fun said=>vY (h.clean said) hu,(hd 0 (.inl rfl)).trans h.hears,seen_app h.low hl,fun idx a ha hm=>?_,fun k hk idx a ha hm rw o hb hor=>?_,fun k hk=>(hd k (.inr hk)).trans (h.deaf k hk),h.pos,h.disj⟩
 ·obtain ⟨ha',hlt⟩:=y8 hu ha;rcases h.known idx a ha' hm with hk | ⟨k,hk,hg,hlets⟩
  ·exact .inl (hk.app u)
  ·exact .inr ⟨k,hk,by rw [g?_old hlt]; exact hg,hlets⟩
 ·obtain ⟨ha',_⟩:=y8 hu ha;exact (h.wk k hk idx a ha' hm rw o hb hor).app u
theorem TInv.mono {t:Trace} {n n':Nat} {hp:Nat->Hp} {act:Nat->Prop} (h:TInv t n hp act) (hn:n<=n'):TInv t n' hp act :=
 ⟨h.clean,h.hears,fun op hop=>MemAct.low_mono hn (h.low op hop),h.known,h.wk,h.deaf,h.pos,h.disj⟩
theorem kr {t u:Trace} {g:Nat} (hu:∀ op∈u,op.act≠.mark .disable/\op.act≠.mark .enable):Deaf (t++u) g=Deaf t g:=by
 obtain ⟨l⟩:=u;rw [Deaf_append]
 induction l generalizing t with
 | nil=>rfl
 | cons y l ih =>
  have hy:=hu y sQ;have e1:deafStep g (Deaf t g) y=Deaf t g:=by
   unfold deafStep;split
   ·rename_i e; exact absurd e hy.1
   ·rename_i e; exact absurd e hy.2
   ·rfl
  rw [List.foldl_cons,e1];exact ih fun op hop=>hu op (by simp at hop ⊢; exact .inr hop)
theorem uZ {t u:Trace} {g:Nat} {y:MemOp} (hy:y.g=g) (hd:Deaf t g=0):(t++#[y]++u).heard t.size:=by
 have e:(t++#[y]++u)[t.size]? =some y:=by
  rw [getElem?_append_old sQ];simp
 refine ⟨g,by unfold Trace.g?; rw [e,Option.map_some,hy],?_⟩;rw [Array.append_assoc,deaf_old (mL _)];exact hd
theorem TInv.spawn {t:Trace} {n:Nat} {hp hp':Nat->Hp} {act:Nat->Prop} (h:TInv t n hp act) {c:Nat} (hc:0<c) (hca:¬ act c) (hdc:Deaf t c=0) {x y:MemOp} (hx:x.g=0/\x.act=.go c) (hy:y.g=c/\y.act=.start)
  (hoth:∀ k,k≠0->k≠c->hp' k=hp k)
  (h2:∀ b rw o,hp' 0 b=some (rw,o)->∃ rw' o',hp 0 b=some (rw',o')/\(rw=true->rw'=true))
  (h3:∀ b rw o,hp' c b=some (rw,o)->rw=false/\∃ rw' o',hp 0 b=some (rw',o'))
  (h4:∀ b o,hp' 0 b=some (true,o)->hp' c b=none):TInv (t++#[x]++#[y]) n hp' (fun k=>act k\/k=c):=by
 have hux:∀ op∈(#[x]:Array MemOp),op.act.touch? =none:=fun op hop=>by
  simp only [List.mem_toArray,lS] at hop; subst hop; rw [hx.2]; rfl
 have huy:∀ op∈(#[y]:Array MemOp),op.act.touch? =none:=fun op hop=>by
  simp only [List.mem_toArray,lS] at hop; subst hop; rw [hy.2]; rfl
 have hmx:∀ op∈(#[x]:Array MemOp),op.act≠.mark .disable/\op.act≠.mark .enable:=fun op hop=>by
  simp only [List.mem_toArray,lS] at hop; subst hop; rw [hx.2]; exact ⟨by simp,by simp⟩
 have hmy:∀ op∈(#[y]:Array MemOp),op.act≠.mark .disable/\op.act≠.mark .enable:=fun op hop=>by
  simp only [List.mem_toArray,lS] at hop; subst hop; rw [hy.2]; exact ⟨by simp,by simp⟩
 have hd:∀ k,Deaf (t++#[x]++#[y]) k=Deaf t k:=fun k=>by rw [kr hmy,kr hmx]
 have hlx:∀ op∈(#[x]:Array MemOp),op.act.low n:=fun op hop=>by
  simp only [List.mem_toArray,lS] at hop; subst hop; rw [hx.2]; trivial
 have hly:∀ op∈(#[y]:Array MemOp),op.act.low n:=fun op hop=>by
  simp only [List.mem_toArray,lS] at hop; subst hop; rw [hy.2]; trivial
 have hne:∀ k,act k->k≠c:=fun k hk e=>hca (e ▸ hk);refine ⟨fun said=>vY (vY (h.clean said) hux) huy,(hd 0).trans h.hears,seen_app (seen_app h.low hlx) hly,fun idx a ha hm=>?_,fun k hk idx a ha hm rw o hb hor=>?_,fun k hk=>(hd k).trans (hk.elim (h.deaf k) fun e=>e ▸ hdc),fun k hk=>hk.elim (h.pos k) fun e=>e ▸ hc,fun k l b o hk hl hkl hb=>?_⟩
 ·obtain ⟨ha1,hlt1⟩:=y8 huy ha;obtain ⟨ha',hlt⟩:=y8 hux ha1;rcases h.known idx a ha' hm with hk | ⟨k,hk,hg,hlets⟩
  ·exact .inl ((hk.app _).app _)
  ·refine .inr ⟨k,.inl hk,by rw [g?_old hlt1,g?_old hlt]; exact hg,?_⟩;rw [hoth k (by have:=h.pos k hk; omega) (hne k hk)];exact hlets
 ·obtain ⟨ha1,hlt1⟩:=y8 huy ha;obtain ⟨ha',hlt⟩:=y8 hux ha1;rcases hk with hk | rfl
  ·rw [hoth k (by have:=h.pos k hk; omega) (hne k hk)] at hb;exact ((h.wk k hk idx a ha' hm rw o hb hor).app _).app _
  ·obtain ⟨rfl,rw',o',h0⟩:=h3 _ _ _ hb;have hw:a.write=true:=hor.elim (fun e=>by cases e) id;rcases h.known idx a ha' hm with hkn | ⟨k',hk',_,rw'',o'',hkb,himp⟩
   ·
    obtain ⟨q,z,hq,hz,hbef⟩:=hkn;have hqlt:=lt_size_of_getElem? hq;have e1:(t++#[x]++#[y])[q]? =some z:=by rw [getElem?_append_old (by simp; omega),getElem?_append_old hqlt]; exact hq
    have e2:(t++#[x]++#[y])[t.size]? =some x:=by rw [getElem?_append_old sQ]; simp
    have e3:(t++#[x]++#[y])[t.size+1]? =some y:=by
     have e:(t++#[x]++#[y])[(t++#[x]).size]? =some y:=by simp only [<- Array.push_eq_append,Array.getElem?_push_size]
     rwa [show (t++#[x]).size=t.size+1 by simp] at e
    have hpo:HappensBefore (t++#[x]++#[y]) q t.size:=hb_po hqlt e1 e2 (hz.trans hx.1.symm);have hsp:HappensBefore (t++#[x]++#[y]) t.size (t.size+1):=by
     refine .single (.inr ⟨.spawn (child:=k) (by rw [act?_of e2,hx.2]) (by rw [act?_of e3,hy.2]) (by unfold Trace.g?; rw [e3,Option.map_some,hy.1]),uZ hx.1 h.hears,?_⟩);have:=uZ (t:=t++#[x]) (u:=#[]) hy.1 (by rw [kr hmx]; exact hdc);simpa using this
    exact ⟨t.size+1,y,e3,hy.1,.inr (((hbef.app #[x]).app #[y]).hb (hpo.trans hsp))⟩
   ·exfalso;have:=himp hw;subst this;have:=h.disj k' 0 _ _ (.inr hk') (.inl rfl) (by have:=h.pos k' hk'; omega) hkb;rw [this] at h0; cases h0
 ·
  have hl3:∀ l b,hp 0 b=none->l=0\/l=c->hp' l b=none:=fun l b h0 hl=>by
   cases e:hp' l b with
   | none=>rfl
   | some z =>
    obtain ⟨rw,o'⟩:=z;rcases hl with rfl | rfl
    ·obtain ⟨_,_,h',_⟩:=h2 _ _ _ e;rw [h0] at h'; cases h'
    ·obtain ⟨_,_,_,h'⟩:=h3 _ _ _ e;rw [h0] at h'; cases h'
  rcases hk with rfl | hk | rfl
  ·rcases hl with rfl | hl | rfl
   ·exact absurd rfl hkl
   ·obtain ⟨rw',o',h0,himp⟩:=h2 _ _ _ hb;have:=himp rfl;subst this;rw [hoth l (by have:=h.pos l hl; omega) (hne l hl)];exact h.disj 0 l b o' (.inl rfl) (.inr hl) hkl h0
   ·exact h4 b o hb
  ·have hk0:k≠0:=by have:=h.pos k hk; omega
   rw [hoth k hk0 (hne k hk)] at hb;have h0:=h.disj k 0 b o (.inr hk) (.inl rfl) hk0 hb;rcases hl with rfl | hl | rfl
   ·exact hl3 _ b h0 (.inl rfl)
   ·rw [hoth l (by have:=h.pos l hl; omega) (hne l hl)];exact h.disj k l b o (.inr hk) (.inr hl) hkl hb
   ·exact hl3 _ b h0 (.inr rfl)
  ·have:=(h3 _ _ _ hb).1;cases this
theorem TInv.comm {t:Trace} {n:Nat} {hp:Nat->Hp} {act:Nat->Prop} (h:TInv t n hp act) {i:Nat} (hi:act i) {c k cap:Nat} (hcn:c<n) {x1 x2 x3 x4:MemOp}
  (h1:x1.g=i/\x1.act=.send c k) (h2:x2.act=.recv c k cap) (h3:x3.act=.sendDone c k) (h4:x4.g=0/\x4.act=.recvDone c k):TInv (t++#[x1,x2,x3,x4]) n hp (fun j=>act j/\j≠i):=by
 have hcase:∀ op∈(#[x1,x2,x3,x4]:Array MemOp),op.act.touch? =none/\(op.act≠.mark .disable/\op.act≠.mark .enable)/\op.act.low n:=fun op hop=>by
  simp only [List.mem_toArray,lI,List.not_mem_nil,or_false] at hop;rcases hop with rfl | rfl | rfl | rfl
  ·rw [h1.2]; exact ⟨rfl,⟨by simp,by simp⟩,hcn⟩
  ·rw [h2]; exact ⟨rfl,⟨by simp,by simp⟩,hcn⟩
  ·rw [h3]; exact ⟨rfl,⟨by simp,by simp⟩,hcn⟩
  ·rw [h4.2]; exact ⟨rfl,⟨by simp,by simp⟩,hcn⟩
 have hS:=h.appStill (u:=#[x1,x2,x3,x4]) (fun op hop=>(hcase op hop).1) (fun k _=>kr fun op hop=>(hcase op hop).2.1) (fun op hop=>(hcase op hop).2.2);refine ⟨hS.clean,hS.hears,hS.low,fun idx a ha hm=>?_,fun k hk=>hS.wk k hk.1,fun k hk=>hS.deaf k hk.1,fun k hk=>h.pos k hk.1,fun k l b o hk hl=>h.disj k l b o (hk.imp id And.left) (hl.imp id And.left)⟩;rcases hS.known idx a ha hm with hk | ⟨j,hj,hg,hlets⟩
 ·exact .inl hk
 by_cases hji:j=i
 ·subst hji;obtain ⟨_,hlt⟩:=y8 (fun op hop=>(hcase op hop).1) ha;left;have e:(t++#[x1,x2,x3,x4])[t.size]? =some x1:=by simp
  have e4:(t++#[x1,x2,x3,x4])[t.size+3]? =some x4:=by simp
  obtain ⟨z,hz,hzg⟩:=mY.1 hg;have hpo:HappensBefore (t++#[x1,x2,x3,x4]) idx t.size:=hb_po hlt hz e (hzg.trans h1.1.symm);have hh:HappensBefore (t++#[x1,x2,x3,x4]) t.size (t.size+3):=by
   refine .single (.inr ⟨.handOver (c:=c) (k:=k) (by rw [act?_of e,h1.2]) (by rw [act?_of e4,h4.2]),?_,?_⟩)
   ·have:=uZ (t:=t) (u:=#[x2,x3,x4]) h1.1 (h.deaf j hi);simpa using this
   ·have hm:∀ op∈(#[x1,x2,x3]:Array MemOp),op.act≠.mark .disable/\op.act≠.mark .enable:=fun op hop=>(hcase op (by simp at hop ⊢; rcases hop with h | h | h <;> simp [h])).2.1;have:=uZ (t:=t++#[x1,x2,x3]) (u:=#[]) h4.1 (by rw [kr hm]; exact h.hears);simpa using this
  exact ⟨t.size+3,x4,e4,h4.1,.inr (hpo.trans hh)⟩
 ·exact .inr ⟨j,⟨hj,hji⟩,hg,hlets⟩
theorem zdQ {P:Program} {q:Question} {n:Nat} (hn:0<n) (hq:q=.select n\/∃ s,q=.extern s n) (w:World):∃ a d,a<n/\(choose q).run P w=.ok a (w.at d):=by
 by_cases hf:q.forced=true
 ·exact ⟨0,w.drawn,hn,by simp only [choose,Sem.run,hf,if_true]; rfl⟩
 ·refine ⟨q.cut (w.tape w.drawn q),w.drawn+1,?_,by simp only [choose,Sem.run,hf]; rfl⟩;rcases hq with rfl | ⟨s,rfl⟩
  ·exact Nat.mod_lt _ hn
  ·simp only [Question.cut];rw [if_neg oQ];exact Nat.mod_lt _ hn
theorem zbF {α β:Type} {P:Program} {s:Sem α} {f:α->Sem β} {w w':World} {a:α} (h:s.run P w=.ok a w'):(s >>= f).run P w=(f a).run P w':=by
 show (Sem.bind s f).run P w=_;rw [Sem.run_bind',h];rfl
section
variable {P:Program} {gs:Array Goroutine} {w w₁:World} {sl:Option (Nat×Nat)} {i:Nat} {g g₂:Goroutine} {es:Array Event} {shape:CommShape} {blocking:Bool} {cases:Array CommCase}
theorem zdw (hi:gs[i]? =some g) (h:stepG P (i==0) g w=.comm g₂ cases blocking shape w₁ es)
  (hcs:∀ (q:Nat) (cc:CommCase),cases[q]? =some cc->∃ ch z s r tm,cc=rcase ch z/\w₁.heap[ch]? =some (.chan 0 #[] false s r tm))
  (hall:∀ ch j k,(j,k)∈partners (gs.setIfInBounds i ph) ch true->k=0/\j≠i/\∃ gj vj zj shj,gs[j]? =some (parked gj #[scase ch vj zj] shj))
  (hne:∃ (q ch:Nat) (z:Value),cases[q]? =some (rcase ch z)/\partners (gs.setIfInBounds i ph) ch true≠[]) :
  ∃ (q ch:Nat) (z:Value) (s r:Nat) (tm:Bool) (j:Nat) (gj:Goroutine) (vj zj:Value) (shj:CommShape) (d:Nat),cases[q]? =some (rcase ch z)/\w₁.heap[ch]? =some (.chan 0 #[] false s r tm)/\j≠i /\
   gs[j]? =some (parked gj #[scase ch vj zj] shj) /\
   runT P (crowd gs w sl) i=(.next (crowd ((gs.setIfInBounds j (gj.finishComm P #[scase ch vj zj] shj 0 undef false)).setIfInBounds i (g₂.finishComm P cases shape q vj true)) ((w₁.at d).setChan ch 0 #[] false (s+1) (r+1) tm) sl),
    MemOp.ofEvents i g.frame.fn g.frame.place es++#[{ g:=j,fn:=gj.frame.fn,pos:=gj.frame.place,act:=.send ch s },{ g:=i,fn:=g₂.frame.fn,pos:=g₂.frame.place,act:=.recv ch r 0 },
     { g:=j,fn:=gj.frame.fn,pos:=gj.frame.place,act:=.sendDone ch s },{ g:=i,fn:=g₂.frame.fn,pos:=g₂.frame.place,act:=.recvDone ch r }]):=by
 have hways:∀ (q:Nat) (cc:CommCase),cases[q]? =some cc->∀ ch z,cc=rcase ch z->ways w₁ (gs.setIfInBounds i ph) cc=(partners (gs.setIfInBounds i ph) ch true).map fun (h,k)=>Way.partner h k:=by
  intro q cc hq ch z e;obtain ⟨ch',z',s,r,tm,e',hc⟩:=hcs q cc hq;rw [e] at e';simp only [rcase,CommCase.mk.injEq,Value.chan.injEq,Option.some.injEq] at e';obtain ⟨rfl,_,rfl⟩:=e';subst e;simp only [ways,rcase,hc];cases partners (gs.setIfInBounds i ph) ch true with
  | nil=>simp
  | cons p ps=>simp
 generalize hready:((cases.zipIdx.toList.map fun (c,k)=>(k,c,ways w₁ (gs.setIfInBounds i ph) c)).filter fun (_,_,ws) => !ws.isEmpty)=ready;have hin:∀ x∈ready,cases[x.1]? =some x.2.1/\x.2.2=ways w₁ (gs.setIfInBounds i ph) x.2.1/\x.2.2≠[]:=by
  intro x hx;rw [<- hready] at hx;obtain ⟨hx1,hx2⟩:=List.mem_filter.1 hx;obtain ⟨⟨c,k⟩,hck,rfl⟩:=lY.1 hx1;exact ⟨mem_of_zipIdx hck,rfl,by simpa using hx2⟩
 have hpos:0<ready.length:=by
  obtain ⟨q,ch,z,hq,hp⟩:=hne;have:(q,rcase ch z,ways w₁ (gs.setIfInBounds i ph) (rcase ch z))∈ready:=by
   rw [<- hready];refine List.mem_filter.2 ⟨lY.2 ⟨(rcase ch z,q),?_,rfl⟩,?_⟩
   ·exact Array.mem_toList_iff.2 (Array.mem_zipIdx_iff_getElem?.2 (by simpa using hq))
   ·rw [hways q _ hq ch z rfl];simpa using hp
  exact List.length_pos_of_mem this
 obtain ⟨a,d1,ha,hrun1⟩:=zdQ (P:=P) hpos (.inl rfl) w₁;obtain ⟨x,hx⟩:∃ x,ready[a]? =some x:=⟨ready[a],lA ha⟩;obtain ⟨q,cc,ws⟩:=x;obtain ⟨hq,hws,hwne⟩:=hin _ (lN hx);simp only at hq hws hwne;obtain ⟨ch,z,s,r,tm,rfl,hc⟩:=hcs q cc hq;rw [hways q _ hq ch z rfl] at hws
 obtain ⟨b,d2,hb,hrun2⟩:=zdQ (P:=P) (q:=.extern "which waiting goroutine is the partner" ws.length) (List.length_pos_iff.2 hwne) (.inr ⟨_,rfl⟩) (w₁.at d1)
 have hb':b<(partners (gs.setIfInBounds i ph) ch true).length:=by rw [hws] at hb; simpa using hb
 obtain ⟨⟨j,k⟩,hjk⟩:∃ p,(partners (gs.setIfInBounds i ph) ch true)[b]? =some p:=⟨_,lA hb'⟩;obtain ⟨rfl,hij,gj,vj,zj,shj,hj⟩:=hall ch j k (lN hjk);have hway:ws.getD b .closed=.partner j 0:=by rw [hws]; exact getD_map_partner _ b (j,0) hjk
 refine ⟨q,ch,z,s,r,tm,j,gj,vj,zj,shj,d2,hq,hc,hij,hj,?_⟩;rw [runT_crowd_comm hi h];have hj':=stand_get (i:=i) hij hj;have hfp:=finishPartner_at P (gs.setIfInBounds i ph) hj' (cs:=#[scase ch vj zj]) (sh:=shj) rfl 0 undef;have hgd:(gs.setIfInBounds i ph).getD j default=parked gj #[scase ch vj zj] shj:=by rw [Array.getD_eq_getD_getElem?,hj']; rfl
 have hov:offeredValue (gs.setIfInBounds i ph) j 0=vj:=by simp [offeredValue,hj',parked,scase]
 have hnot:¬ cases.any (illMade w₁)=true:=by
  rw [Bool.not_eq_true];refine any_ill fun x hx=>?_;obtain ⟨m,hlt,e⟩:=Array.mem_iff_getElem.1 hx;obtain ⟨ch',z',s',r',tm',rfl,hc'⟩:=hcs m x (by rw [<- e]; exact mD hlt);exact made_recv z' hc'
 have hemp:ready.isEmpty=false:=by cases ready with
  | nil=>simp at hpos
  | cons=>rfl
 have hgd2:ready.getD a (0,default,[])=(q,rcase ch z,ws):=by simp [List.getD,hx]
 have hpick:(do
    let a <- choose (.select ready.length)
    let (k,c,ws):=ready.getD a (0,default,[])
    let b <- choose (.extern "which waiting goroutine is the partner" ws.length)
    pure (k,c,ws.getD b .closed):Sem (Nat×CommCase×Way)).run P w₁=.ok (q,rcase ch z,.partner j 0) ((w₁.at d1).at d2):=by
  rw [zbF hrun1];simp only [hgd2];rw [zbF hrun2];simp only [pure,Sem.run,hway]
 unfold communicate;simp only [hready,hemp,mU,if_false,hpick];rw [if_neg (by exact hnot)];simp [rcase,crowd,hc,hfp,hgd,hov,set_stand2,scase,parked,World.setChan,World.at];rfl
end
end Go.Vel
namespace Go.Vel
open Go Go.Conc
open Go.ConcN (sumTo upd upd_ne upd_same)
inductive TreeW (P:Program) (S:Goroutine->Hp->Prop):Goroutine->Hp->Prop
 | stop {g:Goroutine} {H:Hp}:S g H->TreeW P S g H
 | step {g:Goroutine} {H:Hp}:g.status=.running->(∀ w,z6 H w->∃ g' w' es,stepG P false g w=.go g' w' es/\StepH H w w' es/\g'.status=.running) ->
   (∀ w g' w' es,z6 H w->stepG P false g w=.go g' w' es->TreeW P S g' (H.next w w'))->TreeW P S g H
def AtSend (P:Program) (m:Nat×Value) (g:Goroutine) (H:Hp):Prop :=
 ∃ (g₂:Goroutine) (z:Value) (n:Nat),g.status=.running/\QuitsD P n 0 (Go.Conc.served g₂ undef) /\
  ∀ w,z6 H w->∃ es,stepG P false g w=.comm g₂ #[scase m.1 m.2 z] true .send w es/\∀ e∈es,EvH H e
def sel2 (cg cn:Nat) (z1 z2:Value):Array CommCase:=#[rcase cg z1,rcase cn z2]
inductive MainT (P:Program) (cg cn:Nat) (msg:Nat->Nat×Value) (Stop:Goroutine->Hp->Prop):Nat->(Nat->Bool)->Goroutine->Hp->Prop
 | stop {j:Nat} {R:Nat->Bool} {g:Goroutine} {H:Hp}:g.status=.running->(∀ i,i<j->R i=true)->Stop g H->MainT P cg cn msg Stop j R g H
 | step {j:Nat} {R:Nat->Bool} {g:Goroutine} {H:Hp}:g.status=.running->(∀ w,z6 H w->∃ g' w' es,stepG P true g w=.go g' w' es/\StepH H w w' es/\g'.status=.running) ->
   (∀ w g' w' es,z6 H w->stepG P true g w=.go g' w' es->MainT P cg cn msg Stop j R g' (H.next w w'))->MainT P cg cn msg Stop j R g H
 | spawn {j:Nat} {R:Nat->Bool} {g:Goroutine} {H:Hp} (g' ch:Goroutine) (H₂ Hc:Hp):g.status=.running ->
   (∀ w,z6 H w->∃ es,stepG P true g w=.spawn g' ch w es/\∀ e∈es,EvH H e)->g'.status=.running->ch.status=.running->R j=false ->
   (∀ b rw o,H₂ b=some (rw,o)->∃ rw',H b=some (rw',o)/\(rw=true->rw'=true)) ->
   (∀ b rw o,Hc b=some (rw,o)->rw=false/\∃ rw',H b=some (rw',o)) ->
   (∀ b o,H₂ b=some (true,o)->Hc b=none) ->
   TreeW P (AtSend P (msg j)) ch Hc->MainT P cg cn msg Stop (j+1) R g' H₂->MainT P cg cn msg Stop j R g H
 | recv {j:Nat} {R:Nat->Bool} {g:Goroutine} {H:Hp} (g₂:Goroutine) (z1 z2:Value):g.status=.running->(∃ i,i<j/\R i=false) ->
   (∀ w,z6 H w->∃ es,stepG P true g w=.comm g₂ (sel2 cg cn z1 z2) true .select w es/\∀ e∈es,EvH H e) ->
   (∀ i,i<j->R i=false->∀ q:Nat,q=(if (msg i).1=cg then 0 else 1)->MainT P cg cn msg Stop j (upd R i true) (g₂.finishComm P (sel2 cg cn z1 z2) .select q (msg i).2 true) H)->MainT P cg cn msg Stop j R g H
inductive WS where
 | walk (g:Goroutine) (H:Hp)
 | park (g:Goroutine) (H:Hp) (z:Value) (n:Nat)
 | left (n:Nat)
def WS.hp:WS->Hp
 | .walk _ H=>H
 | .park _ H _ _=>H
 | .left _=>fun _=>none
def WS.act:WS->Prop
 | .left _=>False
 | _=>True
inductive WR (P:Program):WS->WS->Prop
 | slip (n:Nat):WR P (.left n) (.left (n+1))
 | walk {g g':Goroutine} {H:Hp} {w w':World} {es:Array Event}:z6 H w->stepG P false g w=.go g' w' es->WR P (.walk g' (H.next w w')) (.walk g H)
 | park {g g':Goroutine} {H H':Hp} {z:Value} {n:Nat}:WR P (.park g' H' z n) (.walk g H)
theorem uK (P:Program):∀ n,Acc (WR P) (.left n)
 | 0=>⟨_,fun y h=>by cases h⟩
 | n+1=>⟨_,fun y h=>by cases h; exact uK P n⟩
theorem zbU (P:Program) (g:Goroutine) (H:Hp) (z:Value) (n:Nat):Acc (WR P) (.park g H z n):=⟨_,fun y h=>by cases h⟩
theorem zj0 {P:Program} {m:Nat×Value} {g:Goroutine} {H:Hp} (h:TreeW P (AtSend P m) g H):Acc (WR P) (.walk g H):=by
 induction h with
 | stop hs =>
  obtain ⟨g₂,z,n,_,_,hst⟩:=hs;refine ⟨_,fun y hy=>?_⟩;cases hy with
  | walk hf hgo =>
   obtain ⟨es,e,_⟩:=hst _ hf;rw [hgo] at e; cases e
  | park=>exact zbU P _ _ _ _
 | step _ _ _ ih =>
  refine ⟨_,fun y hy=>?_⟩;cases hy with
  | walk hf hgo=>exact ih _ _ _ _ hf hgo
  | park=>exact zbU P _ _ _ _
theorem zea {X:Type} (r:X->X->Prop):∀ (N:Nat) (C:(Nat->X)->Prop),(∀ f:Nat->X,(∀ i,i<N->∀ y,r y (f i)->C (upd f i y))->C f)->∀ f:Nat->X,(∀ i,i<N->Acc r (f i))->C f
 | 0,C,step,f,_=>step f fun i hi=>by omega
 | N+1,C,step,f,hf=>by
  have key:∀ x,Acc r x->∀ f:Nat->X,f N=x->(∀ i,i<N->Acc r (f i))->C f:=by
   intro x hx
   induction hx with
   | intro x _ ih =>
    intro f hfx hacc;refine zea r N (fun f=>f N=x->(∀ i,i<N->Acc r (f i))->C f) (fun f hstep hfx hacc=>?_) f hacc hfx hacc;refine step f fun i hi y hy=>?_;rcases mR i N with hlt | hge
    ·refine hstep i hlt y hy (by rw [upd_ne f y oQ]; exact hfx) fun k hk=>?_;by_cases hki:k=i
     ·subst hki;rw [upd_same];exact (hacc k hk).inv hy
     ·rw [upd_ne f y hki]; exact hacc k hk
    ·obtain rfl:i=N:=by omega
     refine ih y (by rw [<- hfx]; exact hy) (upd f i y) (upd_same f i y) fun k hk=>?_;rw [upd_ne f y oQ];exact hacc k hk
  exact key (f N) (hf N oQ) f rfl fun i hi=>hf i oQ
def hpOf (H:Hp) (f:Nat->WS) (i:Nat):Hp:=if i=0 then H else (f i).hp
theorem vr (H:Hp) (f:Nat->WS):hpOf H f 0=H:=rfl
theorem yx (H:Hp) (f:Nat->WS) {i:Nat} (h:0<i):hpOf H f i=(f i).hp:=by unfold hpOf; rw [if_neg oQ]
def WsOk (P:Program) (msg:Nat->Nat×Value) (m0:Nat) (t:Trace) (w:World) (i:Nat) (x:Goroutine):WS->Prop
 | .walk g H=>x=g/\m0<=i/\g.status=.running/\TreeW P (AtSend P (msg (i - m0))) g H/\z6 H w
 | .park g H z n=>x=parked g #[scase (msg (i - m0)).1 (msg (i - m0)).2 z] .send/\m0<=i/\QuitsD P n 0 (Go.Conc.served g undef)/\z6 H w
 | .left n=>QuitsD P n (Deaf t i) x
def Chans (cg cn:Nat) (w:World):Prop:=∃ k1 t1 k2 t2,w.heap[cg]? =some (.chan 0 #[] false k1 k1 t1)/\w.heap[cn]? =some (.chan 0 #[] false k2 k2 t2)
structure GInv (P:Program) (cg cn:Nat) (msg:Nat->Nat×Value) (m0:Nat) (gs:Array Goroutine) (w:World) (t:Trace) (j:Nat) (R:Nat->Bool) (H:Hp) (f:Nat->WS):Prop where
 pos:0<m0
 size:gs.size=m0+j
 fits:z6 H w
 ws:∀ i x,0<i->gs[i]? =some x->WsOk P msg m0 t w i x (f i)
 out:∀ i,gs.size<=i->f i=.left 0
 above:∀ k,gs.size<=k->Deaf t k=0
 tr:TInv t w.heap.size (hpOf H f) (fun i=>0<i/\(f i).act)
 ch:Chans cg cn w
 noch:∀ i,i=0\/(f i).act->hpOf H f i cg=none/\hpOf H f i cn=none
 old:∀ i,i<j->(R i=true↔¬ (f (m0+i)).act)
 young:∀ i,0<i->i<m0->¬ (f i).act
 new:∀ i,j<=i->R i=false
section
variable {P:Program} {cg cn:Nat} {msg:Nat->Nat×Value} {m0:Nat} {gs:Array Goroutine} {w w':World} {t:Trace} {j:Nat} {R:Nat->Bool} {H:Hp} {f:Nat->WS}
theorem GInv.fitsOf (h:GInv P cg cn msg m0 gs w t j R H f) (i:Nat) (hi:i=0\/(0<i/\(f i).act)):z6 (hpOf H f i) w:=by
 rcases hi with rfl | ⟨hpos,hact⟩
 ·exact h.fits
 ·rw [yx H f hpos];have hlt:i<gs.size:=by
   apply Classical.byContradiction;intro hn;rw [h.out i oQ] at hact;exact hact
  have:=h.ws i _ hpos (mD hlt);cases e:f i with
  | walk g K=>rw [e] at this; exact this.2.2.2.2
  | park g K z n=>rw [e] at this; exact this.2.2.2
  | left n=>rw [e] at hact; exact hact.elim
theorem kN {t':Trace} {i:Nat} {x:Goroutine} {s:WS} (h:WsOk P msg m0 t w i x s) (hd:Deaf t' i=Deaf t i) (hf:s.act->z6 s.hp w'):WsOk P msg m0 t' w' i x s:=by
 cases s with
 | walk g K=>exact ⟨h.1,h.2.1,h.2.2.1,h.2.2.2.1,hf trivial⟩
 | park g K z n=>exact ⟨h.1,h.2.1,h.2.2.1,hf trivial⟩
 | left n =>
  show QuitsD P n (Deaf t' i) x;rw [hd]; exact h
theorem zcr {t:Trace} {a a':Goroutine} {i:Nat} {x:Goroutine} {s:WS} (hmsg:∀ i,(msg i).1=cg\/(msg i).1=cn) (h:WsOk P msg m0 t w i x s) (hc:Chans cg cn w'):woken P a a' w' x=x:=by
 cases s with
 | walk g K=>obtain ⟨rfl,_,hr,_⟩:=h; exact woken_run hr
 | park g K z n =>
  obtain ⟨rfl,_⟩:=h;obtain ⟨k1,t1,k2,t2,h1,h2⟩:=hc;rcases hmsg (i - m0) with e | e
  ·rw [e]; exact woken_send_open _ _ h1
  ·rw [e]; exact woken_send_open _ _ h2
 | left n=>exact woken_quitsD h
theorem Chans.lt1 (h:Chans cg cn w):cg<w.heap.size:=by
 obtain ⟨_,_,_,_,h1,_⟩:=h;exact (mG.1 h1).1
theorem Chans.lt2 (h:Chans cg cn w):cn<w.heap.size:=by
 obtain ⟨_,_,_,_,_,h2⟩:=h;exact (mG.1 h2).1
theorem zcv {es:Array Event} {K:Hp} (h:Chans cg cn w) (hs:StepH K w w' es) (hk:K cg=none/\K cn=none):Chans cg cn w':=by
 obtain ⟨k1,t1,k2,t2,h1,h2⟩:=h;refine ⟨k1,t1,k2,t2,?_,?_⟩
 ·rw [hs.kept cg (mG.1 h1).1 (fun o e=>by rw [hk.1] at e; cases e)]; exact h1
 ·rw [hs.kept cn (mG.1 h2).1 (fun o e=>by rw [hk.2] at e; cases e)]; exact h2
theorem zaR {K:Hp} {es:Array Event} (hf:z6 K w) (hs:StepH K w w' es) {b:Nat} {wr:Bool} (h:K.lets b wr):(K.next w w').lets b wr:=by
 obtain ⟨rw,o,hb,himp⟩:=h;cases rw with
 | false=>exact ⟨false,o,by unfold Hp.next; rw [hb],himp⟩
 | true =>
  have hlt:=hf.lt hb;refine ⟨true,w'.heap[b]'(mM hlt hs.size),?_,fun _=>rfl⟩;unfold Hp.next;rw [hb];simp [mD (mM hlt hs.size)]
theorem ziX {K:Hp} {b:Nat} {rw:Bool} {o:Obj} (h:K.next w w' b=some (rw,o)):(∃ o',K b=some (rw,o'))\/w.heap.size<=b:=by
 unfold Hp.next at h;split at h
 ·rename_i e; cases h; exact .inl ⟨_,e⟩
 ·rename_i e;obtain ⟨x,_,e'⟩:=mY.1 h;cases e'; exact .inl ⟨_,e⟩
 ·split at h
  ·rename_i hge; exact .inr hge
  ·cases h
theorem zdU {K:Hp} {e:Event} (h:EvH K e) {b:Touch} (hb:(MemAct.ofEvent e).touch? =some b) (hm:b.loc.isMemory=true):K.lets (blk b.loc) b.write:=by
 obtain ⟨loc,wr,sy⟩:=e;cases loc with
 | cell a =>
  simp only [MemAct.ofEvent,MemAct.touch?,Option.some.injEq] at hb;subst hb;exact h
 | obj r =>
  obtain ⟨hs,hl⟩:=h;simp only at hs;subst hs;have:MemAct.ofEvent ⟨.obj r,wr,false⟩=.access ⟨.obj r,wr,false⟩:=by cases wr <;> rfl
  rw [this] at hb;simp only [MemAct.touch?,Option.some.injEq] at hb;subst hb;exact hl
 | mark m =>
  rcases h with h | ⟨g,h⟩
  ·subst h; simp [MemAct.ofEvent,MemAct.touch?] at hb
  ·subst h; simp [MemAct.ofEvent,MemAct.touch?] at hb
 | _=>exact h.elim
theorem zdf {K:Hp} (hf:z6 K w) {e:Event} (h:EvH K e):(MemAct.ofEvent e).low w.heap.size:=by
 obtain ⟨loc,wr,sy⟩:=e;cases loc with
 | cell a=>obtain ⟨rw,o,hb,_⟩:=h; exact hf.lt hb
 | obj r =>
  obtain ⟨_,rw,o,hb,_⟩:=h;exact zdn _ _ (hf.lt hb)
 | mark m =>
  rcases h with h | ⟨g,h⟩
  ·subst h; trivial
  ·subst h; trivial
 | _=>exact h.elim
theorem uR {K:Hp} {e:Event} (h:EvH K e):e.loc≠.mark .disable/\e.loc≠.mark .enable:=by
 obtain ⟨loc,wr,sy⟩:=e;cases loc with
 | mark m =>
  rcases h with h | ⟨g,h⟩
  ·subst h; exact ⟨by simp,by simp⟩
  ·subst h; exact ⟨by simp,by simp⟩
 | _=>exact ⟨by simp,by simp⟩
theorem zbP {hp hp':Nat->Hp} {act:Nat->Prop} {es:Array Event} {fn:FuncId} {pos:String} (h:TInv t w.heap.size hp act) {i:Nat} (hi:i=0\/act i) (hf:∀ k,k=0\/act k->z6 (hp k) w) (hs:StepH (hp i) w w' es)
  (hoth:∀ k,k≠i->hp' k=hp k) (hown:hp' i=(hp i).next w w'):TInv (t++MemOp.ofEvents i fn pos es) w'.heap.size hp' act:=by
 have hf':=(hf i hi).next hs;refine h.appOwn hi hs.size hoth (fun b rw o hb=>?_) (fun b wr hl=>?_) (fun k hk b x hb=>(hf k hk).lt hb) (fun op hop=>by obtain ⟨e,_,rfl⟩:=Go.Conc.mem_ofEvents hop; rfl) ?_ (fun op hop=>?_) (fun op hop b hb hm=>?_)
 ·rw [hown] at hb; exact ziX hb
 ·rw [hown]; exact zaR (hf i hi) hs hl
 ·rw [Deaf_own];exact deafBehind_still (fun e he=>uR (hs.evs e he)) _
 ·obtain ⟨e,he,rfl⟩:=Go.Conc.mem_ofEvents hop;exact zdf hf' (hs.evs e he)
 ·obtain ⟨e,he,rfl⟩:=Go.Conc.mem_ofEvents hop;rw [hown];exact zdU (hs.evs e he) hb hm
theorem vK {hp:Nat->Hp} {act:Nat->Prop} {es:Array Event} {fn:FuncId} {pos:String} (h:TInv t w.heap.size hp act) {i:Nat} (hi:i=0\/act i) (hf:∀ k,k=0\/act k->z6 (hp k) w) (hs:∀ e∈es,EvH (hp i) e) :
  TInv (t++MemOp.ofEvents i fn pos es) w.heap.size hp act:=by
 refine h.appOwn hi (mL _) (fun _ _=>rfl) (fun b rw o hb=>.inl ⟨o,hb⟩) (fun b wr hl=>hl) (fun k hk b x hb=>(hf k hk).lt hb) (fun op hop=>by obtain ⟨e,_,rfl⟩:=Go.Conc.mem_ofEvents hop; rfl) ?_ (fun op hop=>?_) (fun op hop b hb hm=>?_)
 ·rw [Deaf_own];exact deafBehind_still (fun e he=>uR (hs e he)) _
 ·obtain ⟨e,he,rfl⟩:=Go.Conc.mem_ofEvents hop;exact zdf (hf i hi) (hs e he)
 ·obtain ⟨e,he,rfl⟩:=Go.Conc.mem_ofEvents hop;exact zdU (hs e he) hb hm
theorem yG {i:Nat} {fn:FuncId} {pos:String} {es:Array Event}:∀ op∈MemOp.ofEvents i fn pos es,op.g=i:=fun op hop=>by
 obtain ⟨e,_,rfl⟩:=Go.Conc.mem_ofEvents hop; rfl
theorem yW {i k:Nat} {g:Goroutine} {K:Hp} (hact:(f i).act):(upd f i (.walk g K) k).act↔(f k).act:=by
 by_cases hk:k=i
 ·subst hk; rw [upd_same]; exact ⟨fun _=>hact,fun _=>trivial⟩
 ·rw [upd_ne f _ hk]
theorem yV {i k:Nat} {g:Goroutine} {K:Hp} {z:Value} {n:Nat} (hact:(f i).act):(upd f i (.park g K z n) k).act↔(f k).act:=by
 by_cases hk:k=i
 ·subst hk; rw [upd_same]; exact ⟨fun _=>hact,fun _=>trivial⟩
 ·rw [upd_ne f _ hk]
theorem GInv.apart (h:GInv P cg cn msg m0 gs w t j R H f) {i k:Nat} (hi:i=0\/(0<i/\(f i).act)) (hk:0<k/\(f k).act) (hne:i≠k):∀ b o,hpOf H f i b=some (true,o)->(f k).hp b=none:=fun b o hb=>by
 have:=h.tr.disj i k b o hi (.inr hk) hne hb;rwa [yx H f hk.1] at this
theorem zdj {i k:Nat} {x' y:Goroutine} {F:Goroutine->Goroutine} (hy:((gs.map F).setIfInBounds i x')[k]? =some y) (hlt:i<gs.size):(k=i/\y=x')\/(k≠i/\∃ x,gs[k]? =some x/\y=F x):=by
 by_cases hk:i=k
 ·subst hk;rw [mF (by simpa using hlt)] at hy;exact .inl ⟨rfl,(Option.some.inj hy).symm⟩
 ·rw [mE hk,mJ] at hy;obtain ⟨x,hx,rfl⟩:=mY.1 hy;exact .inr ⟨fun e=>hk e.symm,x,hx,rfl⟩
theorem zd2 (hmsg:∀ i,(msg i).1=cg\/(msg i).1=cn) (h:GInv P cg cn msg m0 gs w t j R H f) {i:Nat} (hi:0<i) {x x':Goroutine} (hx:gs[i]? =some x) {K:Hp} (hfi:f i=.walk x K) {es:Array Event}
  (hs:StepH K w w' es) (hrun:x'.status=.running) (hT:TreeW P (AtSend P (msg (i - m0))) x' (K.next w w')) :
  GInv P cg cn msg m0 ((gs.map (woken P x x' w')).setIfInBounds i x') w' (t++MemOp.ofEvents i x.frame.fn x.frame.place es) j R H (upd f i (.walk x' (K.next w w'))):=by
 have hlt:i<gs.size:=(mG.1 hx).1;have hact:(f i).act:=by rw [hfi]; trivial
 have hi0:i≠0:=by omega
 have hhp:hpOf H f i=K:=by rw [yx H f hi,hfi]; rfl
 have hws:=h.ws i x hi hx;rw [hfi] at hws;obtain ⟨_,hm0,_,_,hK⟩:=hws;have hnoc:=h.noch i (.inr hact);rw [hhp] at hnoc;have hc':=zcv h.ch hs hnoc;have hapart:∀ k,(k=0\/(0<k/\(f k).act))->k≠i->z6 (hpOf H f k) w':=fun k hk hki=>by
  refine (h.fitsOf k hk).other hs fun b o hb=>?_;rw [<- hhp] at hb;exact h.tr.disj i k b o (.inr ⟨hi,hact⟩) hk (Ne.symm hki) hb
 refine ⟨h.pos,by simpa using h.size,?_,fun k y hk hy=>?_,fun k hk=>?_,fun k hk=>?_,?_,hc',fun k hk=>?_,fun k hk=>?_,fun k hk hk'=>?_,h.new⟩
 ·have:=hapart 0 (.inl rfl) (Ne.symm hi0);exact this
 ·rcases zdj hy hlt with ⟨rfl,rfl⟩ | ⟨hki,y',hy',rfl⟩
  ·rw [upd_same];exact ⟨rfl,hm0,hrun,hT,hK.next hs⟩
  ·rw [upd_ne f _ hki];have hk':=h.ws k y' hk hy';rw [zcr hmsg hk' hc'];refine kN hk' (Deaf_other t (Ne.symm hki) _ yG) fun hka=>?_;have:=hapart k (.inr ⟨hk,hka⟩) hki;rwa [yx H f hk] at this
 ·have:k≠i:=by simp at hk; omega
  rw [upd_ne f _ this];exact h.out k (by simpa using hk)
 ·rw [Deaf_other t (g':=i) (by simp at hk; omega) _ yG];exact h.above k (by simpa using hk)
 ·have hTr:=zbP (hp':=hpOf H (upd f i (.walk x' (K.next w w')))) (fn:=x.frame.fn) (pos:=x.frame.place) h.tr (i:=i) (.inr ⟨hi,hact⟩) h.fitsOf (by rw [hhp]; exact hs) (fun k hk=>by
   unfold hpOf;rw [upd_ne f _ hk]) (by rw [hhp,yx _ _ hi,upd_same]; rfl)
  refine ⟨hTr.clean,hTr.hears,hTr.low,fun idx a ha hm=>(hTr.known idx a ha hm).imp id fun ⟨k,hk,r⟩=>⟨k,⟨hk.1,(yW hact).2 hk.2⟩,r⟩,fun k hk=>hTr.wk k ⟨hk.1,(yW hact).1 hk.2⟩,fun k hk=>hTr.deaf k ⟨hk.1,(yW hact).1 hk.2⟩,fun k hk=>hk.1,fun a b c o ha hb=>hTr.disj a b c o (ha.imp id fun x=>⟨x.1,(yW hact).1 x.2⟩) (hb.imp id fun x=>⟨x.1,(yW hact).1 x.2⟩)⟩
 ·by_cases hki:k=i
  ·subst hki;rw [yx _ _ hi,upd_same];refine ⟨?_,?_⟩
   ·have hlt1:=Go.Vel.Chans.lt1 h.ch;show K.next w w' cg=none;unfold Hp.next;rw [hnoc.1,if_neg oQ]
   ·have hlt2:=Go.Vel.Chans.lt2 h.ch;show K.next w w' cn=none;unfold Hp.next;rw [hnoc.2,if_neg oQ]
  ·have:=h.noch k (hk.imp id fun x=>(yW hact).1 x);unfold hpOf at this ⊢;rwa [upd_ne f _ hki]
 ·rw [yW hact]; exact h.old k hk
 ·rw [yW hact]; exact h.young k hk hk'
theorem wY (h:GInv P cg cn msg m0 gs w t j R H f) (d:Nat):GInv P cg cn msg m0 gs (w.at d) t j R H f :=
 ⟨h.pos,h.size,h.fits,fun i x hi hx=>kN (h.ws i x hi hx) rfl fun ha=>by
  have:=h.fitsOf i (.inr ⟨hi,ha⟩);rw [yx H f hi] at this;exact this,h.out,h.above,h.tr,h.ch,h.noch,h.old,h.young,h.new⟩
theorem zd1 (hmsg:∀ i,(msg i).1=cg\/(msg i).1=cn) (h:GInv P cg cn msg m0 gs w t j R H f) {i n:Nat} (hi:0<i) {x x':Goroutine} (hx:gs[i]? =some x) (hfi:f i=.left (n+1)) {es:Array Event}
  (hm:∀ e∈es,e.mute=true) (hq:QuitsD P n (deafBehind (Deaf t i) es) x') :
  GInv P cg cn msg m0 ((gs.map (woken P x x' w)).setIfInBounds i x') w (t++MemOp.ofEvents i x.frame.fn x.frame.place es) j R H (upd f i (.left n)):=by
 have hlt:i<gs.size:=(mG.1 hx).1;have hact:∀ k,(upd f i (.left n) k).act↔(f k).act:=fun k=>by
  by_cases hk:k=i
  ·subst hk; rw [upd_same,hfi]; exact Iff.rfl
  ·rw [upd_ne f _ hk]
 have hhp:∀ k,k=0\/(f k).act->hpOf H (upd f i (.left n)) k=hpOf H f k:=fun k hk=>by
  unfold hpOf;by_cases hki:k=i
  ·subst hki;rcases hk with rfl | hk
   ·omega
   ·rw [hfi] at hk; exact hk.elim
  ·rw [upd_ne f _ hki]
 refine ⟨h.pos,by simpa using h.size,h.fits,fun k y hk hy=>?_,fun k hk=>?_,fun k hk=>?_,?_,h.ch,fun k hk=>?_,fun k hk=>?_,fun k hk hk'=>?_,h.new⟩
 ·rcases zdj hy hlt with ⟨rfl,rfl⟩ | ⟨hki,y',hy',rfl⟩
  ·rw [upd_same];show QuitsD P n (Deaf _ k) y;rw [Deaf_own];exact hq
  ·rw [upd_ne f _ hki];have hk':=h.ws k y' hk hy';rw [zcr hmsg hk' h.ch];refine kN hk' (Deaf_other t (Ne.symm hki) _ yG) fun hka=>?_;have:=h.fitsOf k (.inr ⟨hk,hka⟩);rwa [yx H f hk] at this
 ·have:k≠i:=by simp at hk; omega
  rw [upd_ne f _ this];exact h.out k (by simpa using hk)
 ·rw [Deaf_other t (g':=i) (by simp at hk; omega) _ yG];exact h.above k (by simpa using hk)
 ·have hTr:=h.tr.appStill (u:=MemOp.ofEvents i x.frame.fn x.frame.place es) (fun op hop=>by obtain ⟨e,he,rfl⟩:=Go.Conc.mem_ofEvents hop; exact touch_mute (hm e he)) (fun k hk=>Deaf_other t (fun e=>by
   subst e;rcases hk with rfl | hk
   ·omega
   ·rw [hfi] at hk; exact hk.2.elim) _ yG) (fun op hop=>by obtain ⟨e,he,rfl⟩:=Go.Conc.mem_ofEvents hop; exact low_mute (hm e he) _)
  refine ⟨hTr.clean,hTr.hears,hTr.low,fun idx a ha hm=>(hTr.known idx a ha hm).imp id fun ⟨k,hk,r1,r2⟩=>⟨k,⟨hk.1,(hact k).2 hk.2⟩,r1,by rw [hhp k (.inr hk.2)]; exact r2⟩,fun k hk=>by
   rw [hhp k (.inr ((hact k).1 hk.2))];exact hTr.wk k ⟨hk.1,(hact k).1 hk.2⟩,fun k hk=>hTr.deaf k ⟨hk.1,(hact k).1 hk.2⟩,fun k hk=>hk.1,fun a b c o ha hb=>?_⟩
  have ha':=ha.imp id fun x=>(⟨x.1,(hact a).1 x.2⟩:0<a/\(f a).act);have hb':=hb.imp id fun x=>(⟨x.1,(hact b).1 x.2⟩:0<b/\(f b).act);rw [hhp a (ha'.imp id And.right),hhp b (hb'.imp id And.right)];exact hTr.disj a b c o ha' hb'
 ·have hk':=hk.imp id (hact k).1;rw [hhp k hk'];exact h.noch k hk'
 ·rw [hact]; exact h.old k hk
 ·rw [hact]; exact h.young k hk hk'
theorem ziF (hmsg:∀ i,(msg i).1=cg\/(msg i).1=cn) (h:GInv P cg cn msg m0 gs w t j R H f) {x x':Goroutine} (hx:gs[0]? =some x) {es:Array Event} (hs:StepH H w w' es) :
  GInv P cg cn msg m0 ((gs.map (woken P x x' w')).setIfInBounds 0 x') w' (t++MemOp.ofEvents 0 x.frame.fn x.frame.place es) j R (H.next w w') f:=by
 have hlt:0<gs.size:=(mG.1 hx).1;have hnoc:=h.noch 0 (.inl rfl);rw [vr] at hnoc;have hc':=zcv h.ch hs hnoc;have hapart:∀ k,0<k->(f k).act->z6 (f k).hp w':=fun k hk ha=>by
  have hf:=h.fitsOf k (.inr ⟨hk,ha⟩);rw [yx H f hk] at hf;exact hf.other hs fun b o hb=>h.apart (.inl rfl) ⟨hk,ha⟩ oQ b o hb
 refine ⟨h.pos,by simpa using h.size,h.fits.next hs,fun k y hk hy=>?_,fun k hk=>?_,fun k hk=>?_,?_,hc',fun k hk=>?_,h.old,h.young,h.new⟩
 ·rcases zdj hy hlt with ⟨rfl,rfl⟩ | ⟨hki,y',hy',rfl⟩
  ·omega
  ·have hk':=h.ws k y' hk hy';rw [zcr hmsg hk' hc'];exact kN hk' (Deaf_other t oQ _ yG) fun hka=>hapart k hk hka
 ·exact h.out k (by simpa using hk)
 ·rw [Deaf_other t (g':=0) (by simp at hk; omega) _ yG];exact h.above k (by simpa using hk)
 ·exact zbP h.tr (i:=0) (.inl rfl) h.fitsOf hs (fun k hk=>by unfold hpOf; rw [if_neg hk,if_neg hk]) rfl
 ·rcases mP k with rfl | hpos
  ·have hlt1:=Go.Vel.Chans.lt1 h.ch;have hlt2:=Go.Vel.Chans.lt2 h.ch;refine ⟨?_,?_⟩
   ·show H.next w w' cg=none;unfold Hp.next;rw [hnoc.1,if_neg oQ]
   ·show H.next w w' cn=none;unfold Hp.next;rw [hnoc.2,if_neg oQ]
  ·have:=h.noch k hk;rwa [yx _ _ hpos] at this ⊢
theorem ziG (h:GInv P cg cn msg m0 gs w t j R H f) {i:Nat} (hi:0<i) {x g₂:Goroutine} (hx:gs[i]? =some x) {K:Hp} (hfi:f i=.walk x K) {es:Array Event} {z:Value} {n:Nat}
  (hes:∀ e∈es,EvH K e) (hq:QuitsD P n 0 (Go.Conc.served g₂ undef)) :
  GInv P cg cn msg m0 (gs.setIfInBounds i (parked g₂ #[scase (msg (i - m0)).1 (msg (i - m0)).2 z] .send)) w (t++MemOp.ofEvents i x.frame.fn x.frame.place es) j R H (upd f i (.park g₂ K z n)):=by
 have hlt:i<gs.size:=(mG.1 hx).1;have hact:(f i).act:=by rw [hfi]; trivial
 have hhp:hpOf H f i=K:=by rw [yx H f hi,hfi]; rfl
 have hws:=h.ws i x hi hx;rw [hfi] at hws;obtain ⟨_,hm0,_,_,hK⟩:=hws;have hsame:∀ k,hpOf H (upd f i (.park g₂ K z n)) k=hpOf H f k:=fun k=>by
  by_cases hki:k=i
  ·subst hki; rw [yx _ _ hi,upd_same,hhp]; rfl
  ·unfold hpOf; rw [upd_ne f _ hki]
 refine ⟨h.pos,by simpa using h.size,h.fits,fun k y hk hy=>?_,fun k hk=>?_,fun k hk=>?_,?_,h.ch,fun k hk=>?_,fun k hk=>?_,fun k hk hk'=>?_,h.new⟩
 ·by_cases hki:i=k
  ·subst hki;rw [mF hlt] at hy;cases hy;rw [upd_same];exact ⟨rfl,hm0,hq,hK⟩
  ·rw [mE hki] at hy;rw [upd_ne f _ (Ne.symm hki)];refine kN (h.ws k y hk hy) (Deaf_other t hki _ yG) fun hka=>?_;have:=h.fitsOf k (.inr ⟨hk,hka⟩);rwa [yx H f hk] at this
 ·have:k≠i:=by simp at hk; omega
  rw [upd_ne f _ this];exact h.out k (by simpa using hk)
 ·rw [Deaf_other t (g':=i) (by simp at hk; omega) _ yG];exact h.above k (by simpa using hk)
 ·have hTr:=vK (fn:=x.frame.fn) (pos:=x.frame.place) h.tr (i:=i) (.inr ⟨hi,hact⟩) h.fitsOf (by rw [hhp]; exact hes);rw [show hpOf H (upd f i (.park g₂ K z n))=hpOf H f from funext hsame];refine ⟨hTr.clean,hTr.hears,hTr.low,fun idx a ha hm=>(hTr.known idx a ha hm).imp id fun ⟨k,hk,r⟩=>⟨k,⟨hk.1,(yV hact).2 hk.2⟩,r⟩,fun k hk=>hTr.wk k ⟨hk.1,(yV hact).1 hk.2⟩,fun k hk=>hTr.deaf k ⟨hk.1,(yV hact).1 hk.2⟩,fun k hk=>hk.1,fun a b c o ha hb=>hTr.disj a b c o (ha.imp id fun x=>⟨x.1,(yV hact).1 x.2⟩) (hb.imp id fun x=>⟨x.1,(yV hact).1 x.2⟩)⟩
 ·rw [hsame];exact h.noch k (hk.imp id (yV hact).1)
 ·rw [yV hact]; exact h.old k hk
 ·rw [yV hact]; exact h.young k hk hk'
theorem yP {i k n:Nat}:(upd f i (.left n) k).act↔(f k).act/\k≠i:=by
 by_cases hk:k=i
 ·subst hk; rw [upd_same]; exact ⟨fun x=>x.elim,fun x=>absurd rfl x.2⟩
 ·rw [upd_ne f _ hk]; exact ⟨fun x=>⟨x,hk⟩,And.left⟩
theorem zfh {K:Hp} (h:z6 K w) {c:Nat} (hc:K c=none) (d:Nat) (o:Obj):z6 K { w.at d with heap:=w.heap.setIfInBounds c o }:=fun b rw' o' hb=>by
 have hne:c≠b:=fun e=>by rw [<- e,hc] at hb; cases hb
 show (w.heap.setIfInBounds c o)[b]? =some o';rw [mE hne];exact h b rw' o' hb
theorem zd0 (h:GInv P cg cn msg m0 gs w t j R H f) (hne:cg≠cn) {i:Nat} (hi:0<i) (hm0:m0<=i) (hact:(f i).act) {s:Nat} (hs:s=i\/s=0) {es:Array Event} (hes:∀ e∈es,EvH (hpOf H f s) e) {gs':Array Goroutine} (hsz:gs'.size=gs.size)
  {y:Goroutine} {n:Nat} (hgi:gs'[i]? =some y) (hq:QuitsD P n 0 y) (hgo:∀ k,0<k->k≠i->gs'[k]? =gs[k]?) {c kk d:Nat} {tm:Bool} {fn:FuncId} {pos:String} (hc:c=cg\/c=cn) (hch:w.heap[c]? =some (.chan 0 #[] false kk kk tm))
  {x1 x2 x3 x4:MemOp} (h1:x1.g=i/\x1.act=.send c kk) (h2:x2.act=.recv c kk 0) (h3:x3.act=.sendDone c kk) (h4:x4.g=0/\x4.act=.recvDone c kk) :
  GInv P cg cn msg m0 gs' ((w.at d).setChan c 0 #[] false (kk+1) (kk+1) tm) (t++(MemOp.ofEvents s fn pos es++#[x1,x2,x3,x4])) j (upd R (i - m0) true) H (upd f i (.left n)):=by
 have hsz':((w.at d).setChan c 0 #[] false (kk+1) (kk+1) tm).heap.size=w.heap.size:=by simp [World.setChan,World.at]
 have hclt:c<w.heap.size:=(mG.1 hch).1;have hact':s=0\/(0<s/\(f s).act):=hs.elim (fun e=>.inr (e ▸ ⟨hi,hact⟩)) .inl;have hkeep:∀ k,(k=0\/(0<k/\(f k).act))->z6 (hpOf H f k) ((w.at d).setChan c 0 #[] false (kk+1) (kk+1) tm):=fun k hk=>by
  refine zfh (h.fitsOf k hk) ?_ d _;have:=h.noch k (hk.imp id And.right);rcases hc with rfl | rfl
  ·exact this.1
  ·exact this.2
 have hT1:=vK (fn:=fn) (pos:=pos) h.tr (i:=s) hact' h.fitsOf hes;have hT2:=hT1.comm (i:=i) ⟨hi,hact⟩ hclt (cap:=0) h1 h2 h3 h4;have hdeaf:∀ k,k≠0->k≠i->Deaf (t++(MemOp.ofEvents s fn pos es++#[x1,x2,x3,x4])) k=Deaf t k:=fun k hk0 hki=>by
  rw [<- Array.append_assoc];have hm:∀ op∈(#[x1,x2,x3,x4]:Array MemOp),op.act≠.mark .disable/\op.act≠.mark .enable:=fun op hop=>by
   simp only [List.mem_toArray,lI,List.not_mem_nil,or_false] at hop;rcases hop with rfl | rfl | rfl | rfl
   ·rw [h1.2]; exact ⟨by simp,by simp⟩
   ·rw [h2]; exact ⟨by simp,by simp⟩
   ·rw [h3]; exact ⟨by simp,by simp⟩
   ·rw [h4.2]; exact ⟨by simp,by simp⟩
  rw [kr hm,Deaf_other t (g':=s) (by rcases hs with rfl | rfl <;> omega) _ yG]
 have hdeafi:Deaf (t++(MemOp.ofEvents s fn pos es++#[x1,x2,x3,x4])) i=0:=by
  rw [<- Array.append_assoc];have hm:∀ op∈(#[x1,x2,x3,x4]:Array MemOp),op.act≠.mark .disable/\op.act≠.mark .enable:=fun op hop=>by
   simp only [List.mem_toArray,lI,List.not_mem_nil,or_false] at hop;rcases hop with rfl | rfl | rfl | rfl
   ·rw [h1.2]; exact ⟨by simp,by simp⟩
   ·rw [h2]; exact ⟨by simp,by simp⟩
   ·rw [h3]; exact ⟨by simp,by simp⟩
   ·rw [h4.2]; exact ⟨by simp,by simp⟩
  rw [kr hm];exact hT1.deaf i ⟨hi,hact⟩
 have hilt:i<gs.size:=by
  rw [<- hsz];exact (mG.1 hgi).1
 have hj:i - m0<j:=by have:=h.size; omega
 have hhp:∀ k,k=0\/((f k).act/\k≠i)->hpOf H (upd f i (.left n)) k=hpOf H f k:=fun k hk=>by
  unfold hpOf;rcases hk with rfl | ⟨_,hki⟩
  ·rfl
  ·rw [upd_ne f _ hki]
 refine ⟨h.pos,by rw [hsz]; exact h.size,?_,fun k x hk hx=>?_,fun k hk=>?_,fun k hk=>?_,?_,?_,fun k hk=>?_,fun k hk=>?_,fun k hk hk'=>?_,fun k hk=>?_⟩
 ·exact hkeep 0 (.inl rfl)
 ·by_cases hki:k=i
  ·subst hki;rw [hgi] at hx;cases hx;rw [upd_same];show QuitsD P n _ y;rw [hdeafi];exact hq
  ·rw [hgo k hk hki] at hx;rw [upd_ne f _ hki];refine kN (h.ws k x hk hx) (hdeaf k oQ hki) fun hka=>?_;have:=hkeep k (.inr ⟨hk,hka⟩);rwa [yx H f hk] at this
 ·have:k≠i:=by omega
  rw [upd_ne f _ this];exact h.out k oQ
 ·rw [hdeaf k oQ oQ];exact h.above k oQ
 ·rw [hsz',<- Array.append_assoc];refine ⟨hT2.clean,hT2.hears,hT2.low,fun idx a ha hm=>(hT2.known idx a ha hm).imp id fun ⟨k,hk,r1,r2⟩=>⟨k,⟨hk.1.1,yP.2 ⟨hk.1.2,hk.2⟩⟩,r1,by rw [hhp k (.inr ⟨hk.1.2,hk.2⟩)]; exact r2⟩,fun k hk=>?_,fun k hk=>?_,fun k hk=>hk.1,fun a b c o ha hb=>?_⟩
  ·have hk':=yP.1 hk.2;rw [hhp k (.inr hk')];exact hT2.wk k ⟨⟨hk.1,hk'.1⟩,hk'.2⟩
  ·have hk':=yP.1 hk.2;exact hT2.deaf k ⟨⟨hk.1,hk'.1⟩,hk'.2⟩
  ·have ha':=ha.imp id fun x=>(⟨⟨x.1,(yP.1 x.2).1⟩,(yP.1 x.2).2⟩:(0<a/\(f a).act)/\a≠i);have hb':=hb.imp id fun x=>(⟨⟨x.1,(yP.1 x.2).1⟩,(yP.1 x.2).2⟩:(0<b/\(f b).act)/\b≠i);rw [hhp a (ha'.imp id fun x=>⟨x.1.2,x.2⟩),hhp b (hb'.imp id fun x=>⟨x.1.2,x.2⟩)];exact hT2.disj a b c o ha' hb'
 ·obtain ⟨k1,t1,k2,t2,g1,g2⟩:=h.ch;rcases hc with rfl | rfl
  ·refine ⟨kk+1,tm,k2,t2,by simp [World.setChan,World.at,hclt],?_⟩;simp only [World.setChan,World.at];rw [mE hne];exact g2
  ·refine ⟨k1,t1,kk+1,tm,?_,by simp [World.setChan,World.at,hclt]⟩;simp only [World.setChan,World.at];rw [mE (Ne.symm hne)];exact g1
 ·have hk':=hk.imp id yP.1;rw [hhp k hk'];exact h.noch k (hk'.imp id And.left)
 ·rw [yP];by_cases hki:k=i - m0
  ·subst hki;rw [upd_same];exact ⟨fun _ x=>x.2 oQ,fun _=>rfl⟩
  ·rw [upd_ne R _ hki,h.old k hk];exact ⟨fun x y=>x y.1,fun x y=>x ⟨y,oQ⟩⟩
 ·rw [yP];exact fun x=>h.young k hk hk' x.1
 ·rw [upd_ne R _ oQ];exact h.new k hk
theorem zhv (h:GInv P cg cn msg m0 gs w t j R H f) {x g' ch:Goroutine} (hx:gs[0]? =some x) {es:Array Event} (hes:∀ e∈es,EvH H e) {H₂ Hc:Hp} (hrun:ch.status=.running) (hR:R j=false)
  (h2:∀ b rw o,H₂ b=some (rw,o)->∃ rw',H b=some (rw',o)/\(rw=true->rw'=true))
  (h3:∀ b rw o,Hc b=some (rw,o)->rw=false/\∃ rw',H b=some (rw',o))
  (h4:∀ b o,H₂ b=some (true,o)->Hc b=none) (hT:TreeW P (AtSend P (msg j)) ch Hc) {fn fn':FuncId} {pos pos':String} :
  GInv P cg cn msg m0 ((gs.setIfInBounds 0 g').push ch) w (t++((MemOp.ofEvents 0 fn pos es).push { g:=0,fn,pos,act:=.go gs.size }).push { g:=gs.size,fn:=fn',pos:=pos',act:=.start }) (j+1) R H₂ (upd f gs.size (.walk ch Hc)):=by
 have hlt:0<gs.size:=(mG.1 hx).1;have hgs:gs.size=m0+j:=h.size;have hnact:¬ (f gs.size).act:=by rw [h.out _ (mL _)]; exact fun x=>x
 have hactiff:∀ k,(upd f gs.size (.walk ch Hc) k).act↔((f k).act\/k=gs.size):=fun k=>by
  by_cases hk:k=gs.size
  ·subst hk; rw [upd_same]; exact ⟨fun _=>.inr rfl,fun _=>trivial⟩
  ·rw [upd_ne f _ hk]; exact ⟨.inl,fun x=>x.elim id fun e=>absurd e hk⟩
 have hfc:z6 Hc w:=fun b rw o hb=>by
  obtain ⟨_,rw',h0⟩:=h3 b rw o hb;exact h.fits b _ _ h0
 have hf2:z6 H₂ w:=fun b rw o hb=>by
  obtain ⟨rw',h0,_⟩:=h2 b rw o hb;exact h.fits b _ _ h0
 have et:t++((MemOp.ofEvents 0 fn pos es).push { g:=0,fn,pos,act:=.go gs.size }).push { g:=gs.size,fn:=fn',pos:=pos',act:=.start }=t++MemOp.ofEvents 0 fn pos es++#[{ g:=0,fn,pos,act:=.go gs.size }]++#[{ g:=gs.size,fn:=fn',pos:=pos',act:=.start }]:=by
  simp only [Array.push_eq_append,Array.append_assoc]
 have hdeaf:∀ k,k≠0->Deaf (t++MemOp.ofEvents 0 fn pos es++#[{ g:=0,fn,pos,act:=.go gs.size }]++#[{ g:=gs.size,fn:=fn',pos:=pos',act:=.start }]) k=Deaf t k:=fun k hk=>by
  rw [kr (u:=#[_]) (fun op hop=>by simp only [List.mem_toArray,lS] at hop; subst hop; exact ⟨by simp,by simp⟩),kr (u:=#[_]) (fun op hop=>by simp only [List.mem_toArray,lS] at hop; subst hop; exact ⟨by simp,by simp⟩),Deaf_other t (Ne.symm hk) _ yG]
 have hT1:=vK (fn:=fn) (pos:=pos) h.tr (i:=0) (.inl rfl) h.fitsOf (by rw [vr]; exact hes);have hT2:=hT1.spawn (hp':=hpOf H₂ (upd f gs.size (.walk ch Hc))) (c:=gs.size) hlt (fun x=>hnact x.2) (by rw [Deaf_other t (g':=0) oQ _ yG]; exact h.above _ (mL _)) (x:={ g:=0,fn,pos,act:=.go gs.size }) (y:={ g:=gs.size,fn:=fn',pos:=pos',act:=.start }) ⟨rfl,rfl⟩ ⟨rfl,rfl⟩
  (fun k hk0 hkc=>by unfold hpOf; rw [if_neg hk0,if_neg hk0,upd_ne f _ hkc])
  (fun b rw o hb=>by
   obtain ⟨rw',h0,himp⟩:=h2 b rw o hb;exact ⟨rw',o,h0,himp⟩)
  (fun b rw o hb=>by
   rw [yx _ _ hlt,upd_same] at hb;obtain ⟨e,rw',h0⟩:=h3 b rw o hb;exact ⟨e,rw',o,h0⟩)
  (fun b o hb=>by
   rw [yx _ _ hlt,upd_same];exact h4 b o hb)
 rw [et];refine ⟨h.pos,by simp; omega,hf2,fun k y hk hy=>?_,fun k hk=>?_,fun k hk=>?_,?_,h.ch,fun k hk=>?_,fun k hk=>?_,fun k hk hk'=>?_,fun k hk=>h.new k oQ⟩
 ·rw [Array.getElem?_push] at hy;split at hy
  ·rename_i hkg;cases hy;have hkg':k=gs.size:=by simpa using hkg
   subst hkg';rw [upd_same];refine ⟨rfl,oQ,hrun,?_,hfc⟩;rw [show gs.size - m0=j by omega];exact hT
  ·rename_i hkg;have hkg':k≠gs.size:=by simpa using hkg
   rw [mE oQ] at hy;rw [upd_ne f _ hkg'];refine kN (h.ws k y hk hy) (hdeaf k oQ) fun hka=>?_;have:=h.fitsOf k (.inr ⟨hk,hka⟩);rwa [yx H f hk] at this
 ·have hk':gs.size+1<=k:=by simpa using hk
  rw [upd_ne f _ oQ];exact h.out k oQ
 ·have hk':gs.size+1<=k:=by simpa using hk
  rw [hdeaf k oQ];exact h.above k oQ
 ·have hcv:∀ k,(0<k/\(upd f gs.size (.walk ch Hc) k).act)↔((0<k/\(f k).act)\/k=gs.size):=fun k=>by
   rw [hactiff];exact ⟨fun x=>x.2.elim (fun y=>.inl ⟨x.1,y⟩) .inr,fun x=>x.elim (fun y=>⟨y.1,.inl y.2⟩) fun e=>⟨by omega,.inr e⟩⟩
  exact ⟨hT2.clean,hT2.hears,hT2.low,fun idx a ha hm=>(hT2.known idx a ha hm).imp id fun ⟨k,hk,r⟩=>⟨k,(hcv k).2 hk,r⟩,fun k hk=>hT2.wk k ((hcv k).1 hk),fun k hk=>hT2.deaf k ((hcv k).1 hk),fun k hk=>hk.1,fun a b c o ha hb=>hT2.disj a b c o (ha.imp id (hcv a).1) (hb.imp id (hcv b).1)⟩
 ·have h0:=h.noch 0 (.inl rfl);rw [vr] at h0;have hsub:∀ b,H b=none->H₂ b=none/\Hc b=none:=fun b hb=>by
   refine ⟨?_,?_⟩
   ·cases e:H₂ b with
    | none=>rfl
    | some z=>obtain ⟨_,h',_⟩:=h2 b z.1 z.2 e; rw [hb] at h'; cases h'
   ·cases e:Hc b with
    | none=>rfl
    | some z=>obtain ⟨_,_,h'⟩:=h3 b z.1 z.2 e; rw [hb] at h'; cases h'
  rcases mP k with rfl | hpos
  ·exact ⟨(hsub cg h0.1).1,(hsub cn h0.2).1⟩
  ·rw [yx _ _ hpos];by_cases hkg:k=gs.size
   ·subst hkg;rw [upd_same];exact ⟨(hsub cg h0.1).2,(hsub cn h0.2).2⟩
   ·rw [upd_ne f _ hkg];have:=h.noch k (hk.imp id fun x=>((hactiff k).1 x).elim id fun e=>absurd e hkg);rwa [yx _ _ hpos] at this
 ·rw [hactiff];rcases mR k j with hkj | hkj
  ·rw [h.old k hkj];exact ⟨fun x y=>y.elim x fun e=>by omega,fun x y=>x (.inl y)⟩
  ·obtain rfl:k=j:=by omega
   rw [hR];exact ⟨fun x=>(by cases x),fun x=>absurd (.inr oQ) x⟩
 ·rw [hactiff];exact fun x=>x.elim (h.young k hk hk') fun e=>by omega
end
section
variable {P:Program} {cg cn:Nat} {msg:Nat->Nat×Value} {m0:Nat} {gs:Array Goroutine} {w w':World} {t:Trace} {j:Nat} {R:Nat->Bool} {H:Hp} {f:Nat->WS} {sl:Option (Nat×Nat)}
theorem zef {i:Nat} {x:Goroutine} {s:WS} (h:WsOk P msg m0 t w i x s) (c:Nat):offersAt x c false=[]:=by
 cases s with
 | walk g K=>obtain ⟨rfl,_,hr,_⟩:=h; exact offersAt_of_not_blocked (by rw [hr]; simp) _ _
 | park g K z n=>obtain ⟨rfl,_⟩:=h; exact offersAt_parked_send' _ _ _ _ _ _
 | left n=>exact offersAt_of_not_blocked (by rcases QuitsD.status h with e | e <;> rw [e] <;> simp) _ _
theorem zfA (h:GInv P cg cn msg m0 gs w t j R H f) {a:Goroutine} (h0:gs[0]? =some a) (ha:a.status=.running) (i c:Nat):partners (gs.setIfInBounds i ph) c false=[]:=by
 refine partners_nil fun k x hx=>?_;rcases getElem?_stand gs i k x hx with ⟨_,rfl⟩ | ⟨hk,hx⟩
 ·rfl
 ·rcases mP k with rfl | hpos
  ·rw [h0] at hx; cases hx;exact offersAt_of_not_blocked (by rw [ha]; simp) _ _
  ·exact zef (h.ws k x hpos hx) c
theorem ux (hmsg:∀ i,(msg i).1=cg\/(msg i).1=cn) (h:GInv P cg cn msg m0 gs w t j R H f) {a:Goroutine} (h0:gs[0]? =some a) (ha:a.status=.running) {i:Nat} (hi:0<i) {x:Goroutine} (hx:gs[i]? =some x) (hr:x.status=.running) :
  ∃ gs' w' u y,runT P (crowd gs w sl) i=(.next (crowd gs' w' sl),u)/\WR P y (f i)/\GInv P cg cn msg m0 gs' w' (t++u) j R H (upd f i y)/\gs'[0]? =some a/\w'.tape=w.tape/\w'.os=w.os/\w'.output=w.output:=by
 have hws:=h.ws i x hi hx;have hi0:(i==0)=false:=by simp; omega
 have hne:i≠0:=by omega
 cases hfi:f i with
 | park g K z n =>
  rw [hfi] at hws;obtain ⟨rfl,_⟩:=hws;cases hr
 | left n =>
  rw [hfi] at hws;cases n with
  | zero=>rw [hws.1] at hr; cases hr
  | succ n =>
   rcases hws with ⟨hf,_⟩ | ⟨_,x',es,hm,hst,hq⟩
   ·rw [hf] at hr; cases hr
   refine ⟨_,_,_,.left n,runT_crowd_go hx (by rw [hi0]; exact hst w),.slip n,zd1 hmsg h hi hx hfi hm hq,?_,rfl,rfl,rfl⟩;rw [mE hne,mJ,h0];simp [woken_run ha]
 | walk g K =>
  rw [hfi] at hws;obtain ⟨rfl,hm0,_,hT,hK⟩:=hws;cases hT with
  | step _ hgo hnext =>
   obtain ⟨x',w',es,hst,hs,hrun⟩:=hgo w hK;refine ⟨_,_,_,.walk x' (K.next w w'),runT_crowd_go hx (by rw [hi0]; exact hst),.walk hK hst,zd2 hmsg h hi hx hfi hs hrun (hnext w x' w' es hK hst),?_,hs.tape,hs.os,hs.out⟩;rw [mE hne,mJ,h0];simp [woken_run ha]
  | stop hS =>
   obtain ⟨g₂,z,n,_,hq,hst⟩:=hS;obtain ⟨es,hst,hes⟩:=hst w hK;have hno:∀ cc∈(#[scase (msg (i - m0)).1 (msg (i - m0)).2 z]:Array CommCase),NoWays w (gs.setIfInBounds i ph) cc:=fun cc hcc=>by
    simp only [List.mem_toArray,lS] at hcc;subst hcc;obtain ⟨k1,t1,k2,t2,h1,h2⟩:=h.ch;have hp:=zfA h h0 ha i (msg (i - m0)).1;rcases hmsg (i - m0) with e | e
    ·rw [e] at hp ⊢;exact ⟨made_send _ _ h1,by simp [ways,scase,h1,hp]⟩
    ·rw [e] at hp ⊢;exact ⟨made_send _ _ h2,by simp [ways,scase,h2,hp]⟩
   refine ⟨_,_,_,.park g₂ K z n,crowd_waits hx (by rw [hi0]; exact hst) hno,.park,ziG h hi hx hfi hes hq,?_,rfl,rfl,rfl⟩;rw [mE hne];exact h0
def atSel (cg cn:Nat) (g₂:Goroutine) (z1 z2:Value):Goroutine:=parked g₂ (sel2 cg cn z1 z2) .select
theorem zeM {a a' g₂:Goroutine} {z1 z2:Value} (h:Chans cg cn w):woken P a a' w (atSel cg cn g₂ z1 z2)=atSel cg cn g₂ z1 z2:=by
 unfold woken;split
 ·refine again_all_open fun cc hcc=>?_;obtain ⟨k1,t1,k2,t2,h1,h2⟩:=h;simp only [sel2,List.mem_toArray,lI,List.not_mem_nil,or_false] at hcc;rcases hcc with rfl | rfl
  ·exact ⟨_,_,_,_,_,_,_,rfl,h1⟩
  ·exact ⟨_,_,_,_,_,_,_,rfl,h2⟩
 ·rfl
def caseNo (cg c:Nat):Nat:=if c=cg then 0 else 1
theorem zck (hne:cg≠cn) {c:Nat} (hc:c=cg\/c=cn) (z1 z2:Value):∃ z,(sel2 cg cn z1 z2)[caseNo cg c]? =some (rcase c z):=by
 rcases hc with rfl | rfl
 ·exact ⟨z1,by simp [sel2,caseNo]⟩
 ·exact ⟨z2,by simp [sel2,caseNo,Ne.symm hne]⟩
theorem zhN (hne:cg≠cn) {c:Nat} (hc:c=cg\/c=cn) (g₂:Goroutine) (z1 z2:Value):offersAt (atSel cg cn g₂ z1 z2) c false=[caseNo cg c]:=by
 obtain ⟨z,hz⟩:=zck hne hc z1 z2;refine offersAt_parked_at hz fun m cc hm hcc=>?_;have hm2:m=0\/m=1:=by
  have:=(mG.1 hcc).1;simp [sel2] at this;omega
 rcases hc with rfl | rfl
 ·rcases hm2 with rfl | rfl
  ·simp [caseNo] at hm
  ·simp [sel2] at hcc;subst hcc;simp [rcase,Ne.symm hne]
 ·rcases hm2 with rfl | rfl
  ·simp [sel2] at hcc;subst hcc;simp [rcase,hne]
  ·simp [caseNo,Ne.symm hne] at hm
theorem zcN (hmsg:∀ i,(msg i).1=cg\/(msg i).1=cn) (hne:cg≠cn) (h:GInv P cg cn msg m0 gs w t j R H f) {g₂:Goroutine} {z1 z2:Value} (h0:gs[0]? =some (atSel cg cn g₂ z1 z2)) (hnp:∀ i,0<i->∀ g K z n,f i≠.park g K z n)
  {i:Nat} (hi:0<i) {x:Goroutine} (hx:gs[i]? =some x) (hr:x.status=.running) :
  (∃ gs' w' u y,runT P (crowd gs w sl) i=(.next (crowd gs' w' sl),u)/\WR P y (f i)/\(∀ g K z n,y≠.park g K z n)/\GInv P cg cn msg m0 gs' w' (t++u) j R H (upd f i y)/\gs'[0]? =some (atSel cg cn g₂ z1 z2)/\w'.tape=w.tape/\w'.os=w.os/\w'.output=w.output) \/
  (∃ gs' w' u n,runT P (crowd gs w sl) i=(.next (crowd gs' w' sl),u)/\m0<=i/\i - m0<j/\R (i - m0)=false/\GInv P cg cn msg m0 gs' w' (t++u) j (upd R (i - m0) true) H (upd f i (.left n)) /\
   gs'[0]? =some (g₂.finishComm P (sel2 cg cn z1 z2) .select (caseNo cg (msg (i - m0)).1:Nat) (msg (i - m0)).2 true)/\w'.tape=w.tape/\w'.os=w.os/\w'.output=w.output):=by
 have hws:=h.ws i x hi hx;have hi0:(i==0)=false:=by simp; omega
 have hne0:i≠0:=by omega
 have hlt0:0<gs.size:=(mG.1 h0).1;have hlt:i<gs.size:=(mG.1 hx).1;cases hfi:f i with
 | park g K z n=>exact absurd hfi (hnp i hi g K z n)
 | left n =>
  left;rw [hfi] at hws;cases n with
  | zero=>rw [hws.1] at hr; cases hr
  | succ n =>
   rcases hws with ⟨hf,_⟩ | ⟨_,x',es,hm,hst,hq⟩
   ·rw [hf] at hr; cases hr
   refine ⟨_,_,_,.left n,runT_crowd_go hx (by rw [hi0]; exact hst w),.slip n,by simp,zd1 hmsg h hi hx hfi hm hq,?_,rfl,rfl,rfl⟩;rw [mE hne0,mJ,h0];simp [zeM h.ch]
 | walk g K =>
  have hact:(f i).act:=by rw [hfi]; trivial
  have hhp:hpOf H f i=K:=by rw [yx H f hi,hfi]; rfl
  rw [hfi] at hws;obtain ⟨rfl,hm0,_,hT,hK⟩:=hws;cases hT with
  | step _ hgo hnext =>
   left;obtain ⟨x',w',es,hst,hs,hrun⟩:=hgo w hK;have hG:=zd2 hmsg h hi hx hfi hs hrun (hnext w x' w' es hK hst);refine ⟨_,_,_,.walk x' (K.next w w'),runT_crowd_go hx (by rw [hi0]; exact hst),.walk hK hst,by simp,hG,?_,hs.tape,hs.os,hs.out⟩;rw [mE hne0,mJ,h0];simp [zeM hG.ch]
  | stop hS =>
   right;obtain ⟨gs₂,z,n,_,hq,hst⟩:=hS;obtain ⟨es,hst,hes⟩:=hst w hK;have hR:i - m0<j/\R (i - m0)=false:=by
    have hsz:=h.size;have hj:i - m0<j:=by omega
    refine ⟨hj,?_⟩;have:=h.old (i - m0) hj;rw [show m0+(i - m0)=i by omega] at this;cases e:R (i - m0) with
    | false=>rfl
    | true=>exact absurd hact (this.1 e)
   have hp:partners (gs.setIfInBounds i ph) (msg (i - m0)).1 false=[(0,caseNo cg (msg (i - m0)).1)]:=by
    rw [partners_one (j:=0) (g:=atSel cg cn g₂ z1 z2) (by rw [mE hne0]; exact h0) fun k y hk hy=>?_,zhN hne (hmsg _)]
    ·rfl
    ·rcases getElem?_stand gs i k y hy with ⟨_,rfl⟩ | ⟨hki,hy⟩
     ·rfl
     ·exact zef (h.ws k y oQ hy) _
   obtain ⟨zc,hzc⟩:=zck hne (hmsg (i - m0)) z1 z2;obtain ⟨kk,tm,hch⟩:∃ kk tm,w.heap[(msg (i - m0)).1]? =some (.chan 0 #[] false kk kk tm):=by
    obtain ⟨k1,t1,k2,t2,h1,h2⟩:=h.ch;rcases hmsg (i - m0) with e | e
    ·rw [e]; exact ⟨_,_,h1⟩
    ·rw [e]; exact ⟨_,_,h2⟩
   have hrun:=crowd_send_meets_sel (P:=P) (sl:=sl) (i:=i) (j:=0) hx (by rw [hi0]; exact hst) hch (Ne.symm hne0) h0 hzc hp;refine ⟨_,_,_,n,hrun,hm0,hR.1,hR.2,?_,?_,rfl,rfl,rfl⟩
   ·refine zd0 (s:=i) (d:=w.drawn) h hne hi hm0 hact (.inl Z) (by rw [hhp]; exact hes) sQ (y:=Go.Conc.served gs₂ undef) ?_ hq (fun k hk hki=>?_) (hmsg _) hch ⟨rfl,rfl⟩ rfl rfl ⟨rfl,rfl⟩
    ·rw [mF (by simpa using hlt)];rfl
    ·rw [mE (Ne.symm hki),mE oQ]
   ·rw [mE hne0,mF hlt0]
end
def Gathered (P:Program) (cg cn:Nat) (Stop:Goroutine->Hp->Prop) (w₀:World) (m:Machine) (t:Trace):Prop :=
 ∃ (N:Nat) (gs':Array Goroutine) (w':World) (sl':Option (Nat×Nat)) (t':Trace) (q':Nat->Nat) (a':Goroutine) (H':Hp),
  runNT P N m t=(.next (crowd gs' w' sl'),t')/\gs'[0]? =some a'/\a'.status=.running/\Stop a' H'/\z6 H' w'/\Leavers P t' gs' q'/\Past NoShun w'.heap.size t'/\Chans cg cn w'/\w'.tape=w₀.tape/\w'.os=w₀.os/\w'.output=w₀.output
section
variable {P:Program} {cg cn:Nat} {msg:Nat->Nat×Value} {m0:Nat} {Stop:Goroutine->Hp->Prop}
theorem Gathered.step {w₀:World} {m m':Machine} {t u:Trace} (h:stepT P m=(.next m',u)) (h':Gathered P cg cn Stop w₀ m' (t++u)):Gathered P cg cn Stop w₀ m t:=by
 obtain ⟨N,gs',w',sl',t',q',a',H',hr,r⟩:=h';exact ⟨N+1,gs',w',sl',t',q',a',H',by simp only [runNT,h]; exact hr,r⟩
theorem Gathered.world {w₀ w₁:World} {m:Machine} {t:Trace} (h:Gathered P cg cn Stop w₁ m t) (h1:w₁.tape=w₀.tape) (h2:w₁.os=w₀.os) (h3:w₁.output=w₀.output):Gathered P cg cn Stop w₀ m t:=by
 obtain ⟨N,gs',w',sl',t',q',a',H',hr,r0,r1,r2,r3,r4,r5,r6,r7,r8,r9⟩:=h;exact ⟨N,gs',w',sl',t',q',a',H',hr,r0,r1,r2,r3,r4,r5,r6,r7.trans h1,r8.trans h2,r9.trans h3⟩
variable {gs:Array Goroutine} {w:World} {t:Trace} {j:Nat} {R:Nat->Bool} {H:Hp} {f:Nat->WS}
theorem GInv.accs (h:GInv P cg cn msg m0 gs w t j R H f) (i:Nat) (hi:0<i):Acc (WR P) (f i):=by
 by_cases hlt:i<gs.size
 ·have hws:=h.ws i _ hi (mD hlt);cases e:f i with
  | walk g K =>
   rw [e] at hws;exact zj0 hws.2.2.2.1
  | park g K z n=>exact zbU P _ _ _ _
  | left n=>exact uK P n
 ·rw [h.out i oQ];exact uK P 0
theorem GInv.awake (h:GInv P cg cn msg m0 gs w t j R H f) {a:Goroutine} (h0:gs[0]? =some a) (ha:∀ s,a.status≠.sleeping s):∀ g∈gs,Go.Conc.awake g:=fun g hg=>by
 obtain ⟨i,hi,rfl⟩:=Array.mem_iff_getElem.1 hg;rcases mP i with rfl | hpos
 ·have e:gs[0]=a:=by simpa [mD hi] using h0
  rw [e];exact ha
 ·have hws:=h.ws i _ hpos (mD hi);intro s hs;cases e:f i with
  | walk g K =>
   rw [e] at hws;obtain ⟨e',_,hr,_⟩:=hws;rw [e',hr] at hs; cases hs
  | park g K z n =>
   rw [e] at hws;rw [hws.1] at hs; cases hs
  | left n =>
   rw [e] at hws;rcases QuitsD.status hws with e' | e' <;> rw [e'] at hs <;> cases hs
theorem vh (C:Array Goroutine->World->Option (Nat×Nat)->Trace->(Nat->WS)->Prop) (hC:∀ gs w sl t f,C gs w sl t f->GInv P cg cn msg m0 gs w t j R H f)
  (goal:Array Goroutine->World->Option (Nat×Nat)->Trace->Prop)
  (hstep:∀ gs w sl t f,C gs w sl t f->goal gs w sl t\/∃ gs' w' sl' u i y,0<i/\i<gs.size/\WR P y (f i)/\C gs' w' sl' (t++u) (upd f i y)/\(goal gs' w' sl' (t++u)->goal gs w sl t)) :
  ∀ gs w sl t f,C gs w sl t f->goal gs w sl t:=by
 intro gs w sl t f hc;have hsz:gs.size=m0+j:=(hC _ _ _ _ _ hc).size;have key:∀ f:Nat->WS,(∀ i,i<m0+j->Acc (WR P) ((fun k=>if k=0 then WS.left 0 else f k) i))->∀ gs w sl t,gs.size=m0+j->C gs w sl t f->goal gs w sl t:=by
  intro f hf;have:=zea (WR P) (m0+j) (fun F=>∀ f:Nat->WS,(∀ k,0<k->F k=f k)->∀ gs w sl t,gs.size=m0+j->C gs w sl t f->goal gs w sl t) (fun F hF f hFf gs w sl t hs hc=>?_) (fun k=>if k=0 then WS.left 0 else f k) hf f (fun k hk=>if_neg oQ)
  ·exact this
  rcases hstep gs w sl t f hc with hg | ⟨gs',w',sl',u,i,y,hi,hlt,hy,hc',hback⟩
  ·exact hg
  ·refine hback (hF i oQ y (by rw [hFf i hi]; exact hy) (upd f i y) (fun k hk=>?_) gs' w' sl' (t++u) (hC _ _ _ _ _ hc').size hc');by_cases hki:k=i
   ·subst hki; rw [upd_same,upd_same]
   ·rw [upd_ne _ _ hki,upd_ne _ _ hki]; exact hFf k hk
 refine key f (fun i _=>?_) gs w sl t hsz hc;by_cases hi:i=0
 ·subst hi; exact uK P 0
 ·simp only [if_neg hi];exact (hC _ _ _ _ _ hc).accs i oQ
theorem zcb (h:GInv P cg cn msg m0 gs w t j R H f) {a:Goroutine} (h0:gs[0]? =some a) (ha:a.status=.running) (hR:∀ i,i<j->R i=true) (hS:Stop a H) (sl:Option (Nat×Nat)):Gathered P cg cn Stop w (crowd gs w sl) t:=by
 have hno:∀ i,¬ (0<i/\(f i).act):=by
  rintro i ⟨hi,hact⟩;by_cases hlt:i<gs.size
  ·rcases mR i m0 with hm | hm
   ·exact h.young i hi hm hact
   ·have hsz:=h.size;have:=h.old (i - m0) oQ;rw [show m0+(i - m0)=i by omega] at this;exact this.1 (hR _ oQ) hact
  ·rw [h.out i oQ] at hact;exact hact
 refine ⟨0,gs,w,sl,t,fun i=>match f i with | .left n=>n | _=>0,a,H,rfl,h0,ha,hS,h.fits,⟨fun i g hi hg=>?_,h.above⟩,zfP h.tr hno,h.ch,rfl,rfl,rfl⟩;have hws:=h.ws i g hi hg;cases e:f i with
 | left n=>rw [e] at hws; exact hws
 | walk g K=>exact absurd ⟨hi,by rw [e]; trivial⟩ (hno i)
 | park g K z n=>exact absurd ⟨hi,by rw [e]; trivial⟩ (hno i)
theorem zgo (h:GInv P cg cn msg m0 gs w t j R H f) {x:Goroutine} (hx:gs[0]? =some x) {y:Goroutine} {es:Array Event} (hes:∀ e∈es,EvH H e) {fn:FuncId} {pos:String} :
  GInv P cg cn msg m0 (gs.setIfInBounds 0 y) w (t++MemOp.ofEvents 0 fn pos es) j R H f:=by
 have hlt:0<gs.size:=(mG.1 hx).1;refine ⟨h.pos,by simpa using h.size,h.fits,fun k z hk hz=>?_,fun k hk=>h.out k (by simpa using hk),fun k hk=>?_,vK h.tr (i:=0) (.inl rfl) h.fitsOf (by rw [vr]; exact hes),h.ch,h.noch,h.old,h.young,h.new⟩
 ·rw [mE oQ] at hz;refine kN (h.ws k z hk hz) (Deaf_other t oQ _ yG) fun hka=>?_;have:=h.fitsOf k (.inr ⟨hk,hka⟩);rwa [yx H f hk] at this
 ·rw [Deaf_other t (g':=0) (by simp at hk; omega) _ yG];exact h.above k (by simpa using hk)
theorem zhV {a b:Goroutine} {cs cs':Array CommCase} {sh sh':CommShape} (h:parked a cs sh=parked b cs' sh'):cs=cs'/\sh=sh'/\a.frame=b.frame/\a.callers=b.callers/\a.dying=b.dying:=by
 obtain ⟨fr,cl,st,dy,of⟩:=a;obtain ⟨fr',cl',st',dy',of'⟩:=b;simp only [parked,Goroutine.mk.injEq,Option.some.injEq,Prod.mk.injEq,true_and] at h;exact ⟨h.2.2.2.1,h.2.2.2.2,h.1,h.2.1,h.2.2.1⟩
theorem zjD {a b:Goroutine} (h1:a.frame=b.frame) (h2:a.callers=b.callers) (h3:a.dying=b.dying) (v:Value):Go.Conc.served a v=Go.Conc.served b v:=by
 obtain ⟨fr,cl,st,dy,of⟩:=a;obtain ⟨fr',cl',st',dy',of'⟩:=b;simp only at h1 h2 h3;subst h1 h2 h3;rfl
theorem senders (h:GInv P cg cn msg m0 gs w t j R H f) {ch k q:Nat} (hm:(k,q)∈partners (gs.setIfInBounds 0 ph) ch true):q=0/\0<k/\∃ g K z n,f k=.park g K z n/\(msg (k - m0)).1=ch/\m0<=k/\QuitsD P n 0 (Go.Conc.served g undef)/\gs[k]? =some (parked g #[scase ch (msg (k - m0)).2 z] .send):=by
 obtain ⟨x,hx,hq⟩:=mem_partners.1 hm;rcases getElem?_stand gs 0 k x hx with ⟨_,rfl⟩ | ⟨hk,hx⟩
 ·simp [offersAt_ph] at hq
 have hpos:0<k:=by omega
 have hws:=h.ws k x hpos hx;cases e:f k with
 | walk g K =>
  rw [e] at hws;obtain ⟨rfl,_,hr,_⟩:=hws;rw [offersAt_of_not_blocked (by rw [hr]; simp)] at hq; cases hq
 | left n =>
  rw [e] at hws;rw [offersAt_of_not_blocked (by rcases QuitsD.status hws with e' | e' <;> rw [e'] <;> simp)] at hq; cases hq
 | park g K z n =>
  rw [e] at hws;obtain ⟨rfl,hm0,hqd,_⟩:=hws;rw [offersAt_parked_send] at hq;split at hq
  ·rename_i hc;simp only [lS] at hq;subst hc;exact ⟨hq,hpos,g,K,z,n,rfl,rfl,hm0,hqd,hx⟩
  ·cases hq
theorem GInv.worker (h:GInv P cg cn msg m0 gs w t j R H f) {i:Nat} (hm0:m0<=i) (hlt:i<gs.size) (hact:(f i).act):i - m0<j/\R (i - m0)=false:=by
 have hsz:=h.size;have hj:i - m0<j:=by omega
 refine ⟨hj,?_⟩;have:=h.old (i - m0) hj;rw [show m0+(i - m0)=i by omega] at this;cases e:R (i - m0) with
 | false=>rfl
 | true=>exact absurd hact (this.1 e)
theorem gather (hmsg:∀ i,(msg i).1=cg\/(msg i).1=cn) (hne:cg≠cn) {g:Goroutine} (hM:MainT P cg cn msg Stop j R g H) :
  ∀ (gs:Array Goroutine) (w:World) (sl:Option (Nat×Nat)) (t:Trace) (f:Nat->WS),GInv P cg cn msg m0 gs w t j R H f->gs[0]? =some g->Gathered P cg cn Stop w (crowd gs w sl) t:=by
 induction hM with
 | stop hs hR hS=>exact fun gs w sl t f h h0=>zcb h h0 hs hR hS sl
 | @step j R g H hs hgo hT ih =>
  intro gs w sl t f h h0;refine vh (C:=fun gs w sl t f=>GInv P cg cn msg m0 gs w t j R H f/\gs[0]? =some g) (fun _ _ _ _ _ x=>x.1) (fun gs w sl t=>Gathered P cg cn Stop w (crowd gs w sl) t) (fun gs w sl t f hc=>?_) gs w sl t f ⟨h,h0⟩;obtain ⟨h,h0⟩:=hc;obtain ⟨i,x,d,sl',hi,hx,hst⟩:=crowd_pick (P:=P) (w:=w) (sl:=sl) (h.awake h0 (by rw [hs]; simp)) ⟨0,g,h0,hs⟩;rcases mP i with rfl | hpos
  ·left;obtain rfl:x=g:=by rw [h0] at hi; exact (Option.some.inj hi).symm
   have h':=wY h d;obtain ⟨g',w',es,hgo',hsH,hrun⟩:=hgo (w.at d) h'.fits;have hG:=ziF hmsg h' (x':=g') h0 hsH;have hlt:0<gs.size:=(mG.1 h0).1;refine Gathered.step (hst.trans (runT_crowd_go (i:=0) h0 hgo')) ?_;exact (ih (w.at d) g' w' es h'.fits hgo' _ w' sl' _ f hG (by simp [hlt])).world hsH.tape hsH.os hsH.out
  ·right;obtain ⟨gs',w',u,y,hr,hy,hG,h0',e1,e2,e3⟩:=ux (sl:=sl') hmsg (wY h d) h0 hs hpos hi hx;refine ⟨gs',w',sl',u,i,y,hpos,(mG.1 hi).1,hy,⟨hG,h0'⟩,fun hg=>?_⟩;exact Gathered.step (hst.trans hr) (hg.world e1 e2 e3)
 | @spawn j R g H g' ch H₂ Hc hs hgo hrun' hrunc hR h2 h3 h4 hTW hT ih =>
  intro gs w sl t f h h0;refine vh (C:=fun gs w sl t f=>GInv P cg cn msg m0 gs w t j R H f/\gs[0]? =some g) (fun _ _ _ _ _ x=>x.1) (fun gs w sl t=>Gathered P cg cn Stop w (crowd gs w sl) t) (fun gs w sl t f hc=>?_) gs w sl t f ⟨h,h0⟩;obtain ⟨h,h0⟩:=hc;obtain ⟨i,x,d,sl',hi,hx,hst⟩:=crowd_pick (P:=P) (w:=w) (sl:=sl) (h.awake h0 (by rw [hs]; simp)) ⟨0,g,h0,hs⟩;rcases mP i with rfl | hpos
  ·left;obtain rfl:x=g:=by rw [h0] at hi; exact (Option.some.inj hi).symm
   have h':=wY h d;obtain ⟨es,hgo',hes⟩:=hgo (w.at d) h'.fits;have hG:=zhv (g':=g') (fn:=x.frame.fn) (pos:=x.frame.place) (fn':=ch.frame.fn) (pos':=x.frame.place) h' h0 hes hrunc hR h2 h3 h4 hTW;have hlt:0<gs.size:=(mG.1 h0).1;refine Gathered.step (hst.trans (runT_crowd_spawn (i:=0) h0 hgo')) ?_;refine (ih _ (w.at d) sl' _ _ hG ?_).world Z Z rfl;rw [Array.getElem?_push];rw [if_neg (by simp; omega)];simp [hlt]
  ·right;obtain ⟨gs',w',u,y,hr,hy,hG,h0',e1,e2,e3⟩:=ux (sl:=sl') hmsg (wY h d) h0 hs hpos hi hx;refine ⟨gs',w',sl',u,i,y,hpos,(mG.1 hi).1,hy,⟨hG,h0'⟩,fun hg=>?_⟩;exact Gathered.step (hst.trans hr) (hg.world e1 e2 e3)
 | @recv j R g H g₂ z1 z2 hs hsome hgo hT ih =>
  have hpark:∀ (gs:Array Goroutine) (w:World) (sl:Option (Nat×Nat)) (t:Trace) (f:Nat->WS),(GInv P cg cn msg m0 gs w t j R H f/\gs[0]? =some (atSel cg cn g₂ z1 z2)/\∀ i,0<i->∀ g K z n,f i≠.park g K z n)->Gathered P cg cn Stop w (crowd gs w sl) t:=by
   refine vh (C:=fun gs w sl t f=>GInv P cg cn msg m0 gs w t j R H f/\gs[0]? =some (atSel cg cn g₂ z1 z2)/\∀ i,0<i->∀ g K z n,f i≠.park g K z n) (fun _ _ _ _ _ x=>x.1) (fun gs w sl t=>Gathered P cg cn Stop w (crowd gs w sl) t) (fun gs w sl t f hc=>?_);obtain ⟨h,h0,hnp⟩:=hc;obtain ⟨k,hk,hRk⟩:=hsome;have hka:(f (m0+k)).act:=by
    apply Classical.byContradiction;intro hx;rw [(h.old k hk).2 hx] at hRk; cases hRk
   have hklt:m0+k<gs.size:=by have:=h.size; omega
   have hkrun:gs[m0+k].status=.running:=by
    have hws:=h.ws (m0+k) _ (by have:=h.pos; omega) (mD hklt);cases e:f (m0+k) with
    | walk g K=>rw [e] at hws; rw [hws.1]; exact hws.2.2.1
    | park g K z n=>exact absurd e (hnp _ (by have:=h.pos; omega) _ _ _ _)
    | left n=>rw [e] at hka; exact hka.elim
   obtain ⟨i,x,d,sl',hi,hx,hst⟩:=crowd_pick (P:=P) (w:=w) (sl:=sl) (h.awake h0 (fun s hs=>by cases hs)) ⟨m0+k,_,mD hklt,hkrun⟩;rcases mP i with rfl | hpos
   ·rw [h0] at hi;cases hi;cases hx
   ·rcases zcN (sl:=sl') hmsg hne (wY h d) h0 hnp hpos hi hx with ⟨gs',w',u,y,hr,hy,hyn,hG,h0',e1,e2,e3⟩ | ⟨gs',w',u,n,hr,hm0,hj,hR,hG,h0',e1,e2,e3⟩
    ·right;refine ⟨gs',w',sl',u,i,y,hpos,(mG.1 hi).1,hy,⟨hG,h0',fun l hl0 g K z n=>?_⟩,fun hg=>Gathered.step (hst.trans hr) (hg.world e1 e2 e3)⟩;by_cases hl:l=i
     ·subst hl; rw [upd_same]; exact hyn g K z n
     ·rw [upd_ne _ _ hl]; exact hnp l hl0 g K z n
    ·left;exact Gathered.step (hst.trans hr) ((ih (i - m0) hj hR _ rfl gs' w' sl' _ _ hG h0').world e1 e2 e3)
  intro gs w sl t f h h0;refine vh (C:=fun gs w sl t f=>GInv P cg cn msg m0 gs w t j R H f/\gs[0]? =some g) (fun _ _ _ _ _ x=>x.1) (fun gs w sl t=>Gathered P cg cn Stop w (crowd gs w sl) t) (fun gs w sl t f hc=>?_) gs w sl t f ⟨h,h0⟩;obtain ⟨h,h0⟩:=hc;obtain ⟨i,x,d,sl',hi,hx,hst⟩:=crowd_pick (P:=P) (w:=w) (sl:=sl) (h.awake h0 (by rw [hs]; simp)) ⟨0,g,h0,hs⟩;rcases mP i with rfl | hpos
  ·left;obtain rfl:x=g:=by rw [h0] at hi; exact (Option.some.inj hi).symm
   have h':=wY h d;have hlt:0<gs.size:=(mG.1 h0).1;obtain ⟨es,hgo',hes⟩:=hgo (w.at d) h'.fits;obtain ⟨k1,t1,k2,t2,hc1,hc2⟩:=h'.ch;by_cases hp:∃ k g' K z n,0<k/\f k=.park g' K z n
   ·obtain ⟨k,g',K,z,n,hk0,hk⟩:=hp;have hkact:(f k).act:=by rw [hk]; trivial
    have hklt:k<gs.size:=by
     apply Classical.byContradiction;intro hn;rw [h.out k oQ] at hk; cases hk
    have hkw:=h.ws k _ hk0 (mD hklt);rw [hk] at hkw;obtain ⟨hkx,hkm,_,_⟩:=hkw;obtain ⟨q,ch,zc,s,r,tm,jj,gj,vj,zj,shj,dd,hq,hch,hjj,hgj,hrun⟩:=zdw (P:=P) (sl:=sl') (i:=0) (w₁:=w.at d) h0 hgo' (fun q cc hcc=>by
     have hq2:q=0\/q=1:=by
      have:=(mG.1 hcc).1;simp [sel2] at this;omega
     rcases hq2 with rfl | rfl
     ·simp [sel2] at hcc; subst hcc; exact ⟨_,_,_,_,_,rfl,hc1⟩
     ·simp [sel2] at hcc; subst hcc; exact ⟨_,_,_,_,_,rfl,hc2⟩)
     (fun ch jj q hm=>by
      obtain ⟨e,hpos,g',K',z',n',_,_,_,_,hx⟩:=senders h' hm;exact ⟨e,oQ,_,_,_,_,hx⟩)
     (by
      obtain ⟨zc,hzc⟩:=zck hne (hmsg (k - m0)) z1 z2;refine ⟨_,_,zc,hzc,fun e=>?_⟩;have:(k,0)∈partners (gs.setIfInBounds 0 ph) (msg (k - m0)).1 true:=mem_partners.2 ⟨gs[k],by rw [mE oQ]; exact mD hklt,by rw [hkx,offersAt_parked_send]; simp⟩;rw [e] at this; cases this)
    have hm:(jj,0)∈partners (gs.setIfInBounds 0 ph) ch true:=mem_partners.2 ⟨_,by rw [mE oQ]; exact hgj,by rw [offersAt_parked_send]; simp⟩;obtain ⟨_,hjpos,g3,K3,z3,n3,hf3,hch3,hm03,hq3,hx3⟩:=senders h' hm;rw [hgj] at hx3;obtain ⟨hcs,hsh,e1,e2,e3⟩:=zhV (Option.some.inj hx3);have hvj:vj=(msg (jj - m0)).2:=by
     simp [scase] at hcs;exact hcs.1
    subst hsh;subst hvj;have hact:(f jj).act:=by rw [hf3]; trivial
    have hw:=h'.worker hm03 (mG.1 hgj).1 hact;have hchc:ch=cg\/ch=cn:=by rw [<- hch3]; exact hmsg _
    have hsr:s=r:=by
     rcases hchc with rfl | rfl
     ·rw [hc1] at hch; simp at hch; omega
     ·rw [hc2] at hch; simp at hch; omega
    subst hsr;have hqq:q=caseNo cg ch:=by
     have hq2:q=0\/q=1:=by
      have:=(mG.1 hq).1;simp [sel2] at this;omega
     rcases hq2 with rfl | rfl
     ·simp [sel2,rcase] at hq;simp [caseNo,hq.1]
     ·simp [sel2,rcase] at hq;simp [caseNo,<- hq.1,Ne.symm hne]
    have hG:=zd0 (s:=0) (d:=dd) (n:=n3) (gs':=(gs.setIfInBounds jj (gj.finishComm P #[scase ch (msg (jj - m0)).2 zj] .send 0 undef false)).setIfInBounds 0 (g₂.finishComm P (sel2 cg cn z1 z2) .select q (msg (jj - m0)).2 true)) h' hne hjpos hm03 hact (.inr rfl) (by rw [vr]; exact hes) sQ (y:=Go.Conc.served gj undef)
     (by rw [mE oQ,mF (mG.1 hgj).1]; rfl) (by rw [zjD e1 e2 e3]; exact hq3)
     (fun k hk hki=>by rw [mE oQ,mE (Ne.symm hki)]) hchc hch (fn:=x.frame.fn) (pos:=x.frame.place)
     (x1:={ g:=jj,fn:=gj.frame.fn,pos:=gj.frame.place,act:=.send ch s }) (x2:={ g:=0,fn:=g₂.frame.fn,pos:=g₂.frame.place,act:=.recv ch s 0 }) (x3:={ g:=jj,fn:=gj.frame.fn,pos:=gj.frame.place,act:=.sendDone ch s }) (x4:={ g:=0,fn:=g₂.frame.fn,pos:=g₂.frame.place,act:=.recvDone ch s }) ⟨rfl,rfl⟩ rfl rfl ⟨rfl,rfl⟩
    refine Gathered.step (hst.trans hrun) ?_;exact (ih (jj - m0) hw.1 hw.2 q (by rw [hqq,<- hch3]; rfl) _ _ sl' _ _ hG (by simp [hlt])).world rfl rfl rfl
   ·have hnp:∀ i,0<i->∀ g K z n,f i≠.park g K z n:=fun i hi g K z n e=>hp ⟨i,g,K,z,n,hi,e⟩;have hnil:∀ ch,partners (gs.setIfInBounds 0 ph) ch true=[]:=fun ch=>by
     apply List.eq_nil_iff_forall_not_mem.2;rintro ⟨k,q⟩ hm;obtain ⟨_,hpos,g',K',z',n',e,_⟩:=senders h' hm;exact hnp _ hpos _ _ _ _ e
    have hno:∀ cc∈sel2 cg cn z1 z2,NoWays (w.at d) (gs.setIfInBounds 0 ph) cc:=fun cc hcc=>by
     simp only [sel2,List.mem_toArray,lI,List.not_mem_nil,or_false] at hcc;rcases hcc with rfl | rfl
     ·exact ⟨made_recv _ hc1,by simp [ways,rcase,hc1,hnil]⟩
     ·exact ⟨made_recv _ hc2,by simp [ways,rcase,hc2,hnil]⟩
    refine Gathered.step (hst.trans (crowd_waits (i:=0) h0 hgo' hno)) ?_;exact (hpark _ (w.at d) sl' _ f ⟨zgo h' h0 hes,by simp [hlt,atSel],hnp⟩).world rfl rfl rfl
  ·right;obtain ⟨gs',w',u,y,hr,hy,hG,h0',e1,e2,e3⟩:=ux (sl:=sl') hmsg (wY h d) h0 hs hpos hi hx;refine ⟨gs',w',sl',u,i,y,hpos,(mG.1 hi).1,hy,⟨hG,h0'⟩,fun hg=>?_⟩;exact Gathered.step (hst.trans hr) (hg.world e1 e2 e3)
end
end Go.Vel
namespace Go.Vel
open Go Go.Conc
def zh (P:Program) (main:Bool) (T:Goroutine->Hp->Prop):Prop :=
 ∀ g H,g.status=.running->(∀ w,z6 H w->∃ g' w' es,stepG P main g w=.go g' w' es/\StepH H w w' es/\g'.status=.running/\T g' (H.next w w'))->T g H
theorem zc2 (P:Program) (S:Goroutine->Hp->Prop):zh P false (TreeW P S):=fun g H hr h=>by
 refine .step hr (fun w hw=>?_) fun w g' w' es hw he=>?_
 ·obtain ⟨g',w',es,h1,h2,h3,_⟩:=h w hw;exact ⟨g',w',es,h1,h2,h3⟩
 ·obtain ⟨g'',w'',es',h1,_,_,h4⟩:=h w hw;rw [he] at h1;cases h1;exact h4
theorem zh0 (P:Program) (cg cn:Nat) (msg:Nat->Nat×Value) (Stop:Goroutine->Hp->Prop) (j:Nat) (R:Nat->Bool):zh P true (MainT P cg cn msg Stop j R):=fun g H hr h=>by
 refine .step hr (fun w hw=>?_) fun w g' w' es hw he=>?_
 ·obtain ⟨g',w',es,h1,h2,h3,_⟩:=h w hw;exact ⟨g',w',es,h1,h2,h3⟩
 ·obtain ⟨g'',w'',es',h1,_,_,h4⟩:=h w hw;rw [he] at h1;cases h1;exact h4
theorem ku {H:Hp} {w:World} (h:z6 H w):H.next w w=H:=by
 funext b;unfold Hp.next;cases e:H b with
 | none =>
  simp only;split
  ·rename_i hge; rw [Array.getElem?_eq_none hge]; rfl
  ·rfl
 | some x =>
  obtain ⟨rw,o⟩:=x;cases rw with
  | false=>rfl
  | true=>simp only; rw [h b true o e]; rfl
theorem kx {H:Hp} {w:World} (h:z6 H w) {es:Array Event} (he:∀ e∈es,EvH H e):StepH H w w es :=
 ⟨mL _,fun _ _ _=>rfl,by rw [ku h]; exact he,rfl,rfl,rfl⟩
section
variable {P:Program} {main:Bool} {T:Goroutine->Hp->Prop} {H:Hp} {b:Frame} {a:Act} {k:List Item} {cs:List Frame}
theorem zh.ctl (hT:zh P main T) {g g':Goroutine} (hr:g.status=.running) (h:∀ w,stepG P main g w=.go g' w #[]) (hr':g'.status=.running) (hn:T g' H):T g H :=
 hT g H hr fun w hw=>⟨g',w,#[],h w,kx hw (fun e he=>by simp at he),hr',by rw [ku hw]; exact hn⟩
theorem zh.skip (hT:zh P main T) (h:T (G (b.at a k) cs) H):T (G (b.at a (.code .skip::k)) cs) H:=hT.ctl rfl (fun _=>stepG_skip) rfl h
theorem zh.seq (hT:zh P main T) {x y:Code} (h:T (G (b.at a (.code x::.code y::k)) cs) H):T (G (b.at a (.code (.seq x y)::k)) cs) H:=hT.ctl rfl (fun _=>stepG_seq) rfl h
theorem zh.cond (hT:zh P main T) {c:Operand} {x y:Code} (t:Bool) (hc:a.eval c=.bool t) (h:T (G (b.at a (.code (if t then x else y)::k)) cs) H):T (G (b.at a (.code (.cond c x y)::k)) cs) H:=hT.ctl rfl (fun _=>stepG_cond hc) rfl h
theorem zh.block (hT:zh P main T) {id:Nat} {c:Code} (h:T (G (b.at a (.code c::.inBlock id::k)) cs) H):T (G (b.at a (.code (.block id c)::k)) cs) H:=hT.ctl rfl (fun _=>stepG_block) rfl h
theorem zh.inBlock (hT:zh P main T) {id:Nat} (h:T (G (b.at a k) cs) H):T (G (b.at a (.inBlock id::k)) cs) H:=hT.ctl rfl (fun _=>stepG_inBlock) rfl h
theorem zh.loop (hT:zh P main T) {c:Code} (h:T (G (b.at a (.code c::.inLoop c::k)) cs) H):T (G (b.at a (.code (.loop c)::k)) cs) H:=hT.ctl rfl (fun _=>stepG_loop) rfl h
theorem zh.inLoop (hT:zh P main T) {c:Code} (h:T (G (b.at a (.code c::.inLoop c::k)) cs) H):T (G (b.at a (.inLoop c::k)) cs) H:=hT.ctl rfl (fun _=>stepG_inLoop) rfl h
theorem zh.exit (hT:zh P main T) {id:Nat} {k':List Item} (hk:exitTo id k=some k') (h:T (G (b.at a k') cs) H):T (G (b.at a (.code (.exit id)::k)) cs) H:=hT.ctl rfl (fun _=>stepG_exit hk) rfl h
theorem zh.region (hT:zh P main T) {id:Nat} {ops:Array Oper} (h:T (G (b.at a (.inRegion ops (List.range ops.size)::k)) cs) H):T (G (b.at a (.code (.region id ops false)::k)) cs) H:=hT.ctl rfl (fun _=>stepG_region) rfl h
theorem zh.regionEnd (hT:zh P main T) {ops:Array Oper} (h:T (G (b.at a k) cs) H):T (G (b.at a (.inRegion ops []::k)) cs) H:=hT.ctl rfl (fun _=>stepG_region_end) rfl h
theorem zh.ret (hT:zh P main T) (h:T (G { b.at a (.code .ret::k) with mode:=.returning } cs) H):T (G (b.at a (.code .ret::k)) cs) H:=hT.ctl rfl (fun _=>stepG_ret') rfl h
variable {ops:Array Oper} {i:Nat} {rest:List Nat} {o:Oper}
theorem zh.op (hT:zh P main T) (ho:ops[i]? =some o) (hw:Region.wanted o (yielded ops a.tmps)=true) (hk:b.kind≠.early)
  (h:∀ w,z6 H w->∀ K:Act->World->Prop,(∀ a' w',StepH H w w' (listed P b.fn a o w)->T (G (b.at a' (.inRegion ops rest::k)) cs) (H.next w w')->K a' w')->uponK o a K ((execOp a.eval o).run P w)) :
  T (G (b.at a (.inRegion ops (i::rest)::k)) cs) H:=by
 refine hT _ _ Z fun w hf=>?_;have:=h w hf (fun a' w'=>StepH H w w' (listed P b.fn a o w)/\T (G (b.at a' (.inRegion ops rest::k)) cs) (H.next w w')) fun _ _ x y=>⟨x,y⟩;generalize hr:(execOp a.eval o).run P w=r at this
 match r,this with
 | .ok (.value v) w',h=>exact ⟨_,_,_,stepG_value ho hw hk hr,h.1,rfl,h.2⟩
 | .ok .skip w',h=>exact ⟨_,_,_,stepG_none ho hw hk hr,h.1,rfl,h.2⟩
theorem zh.look (hT:zh P main T) {v:Value} (ho:ops[i]? =some o) (hw:Region.wanted o (yielded ops a.tmps)=true) (hk:b.kind≠.early)
  (h:∀ w,z6 H w->∀ K:Result Next->Prop,K (.ok (.value v) w)->K ((execOp a.eval o).run P w)) (he:∀ w,z6 H w->∀ e∈(execOp a.eval o).events P w #[],EvH H e)
  (hn:T (G (b.at (a.put o.dst v) (.inRegion ops rest::k)) cs) H):T (G (b.at a (.inRegion ops (i::rest)::k)) cs) H:=by
 refine hT _ _ Z fun w hf=>?_;have hr:=h w hf (· = .ok (.value v) w) rfl;exact ⟨_,_,_,stepG_value ho hw hk hr,kx hf fun e hm=>he w hf e (mem_listed hm),rfl,by rw [ku hf]; exact hn⟩
theorem zh.pure (hT:zh P main T) {v:Value} (ho:ops[i]? =some o) (hw:Region.wanted o (yielded ops a.tmps)=true) (hk:b.kind≠.early)
  (h:∀ w,∀ K:Result Next->Prop,K (.ok (.value v) w)->K ((execOp a.eval o).run P w)) (he:∀ w,(execOp a.eval o).events P w #[]=#[])
  (hn:T (G (b.at (a.put o.dst v) (.inRegion ops rest::k)) cs) H):T (G (b.at a (.inRegion ops (i::rest)::k)) cs) H :=
 hT.look ho hw hk (fun w _=>h w) (fun w _ e hm=>by rw [he w] at hm; simp at hm) hn
theorem zh.unwanted (hT:zh P main T) (ho:ops[i]? =some o) (hw:Region.wanted o (yielded ops a.tmps)=false)
  (hn:T (G (b.at (a.put o.dst undef) (.inRegion ops rest::k)) cs) H):T (G (b.at a (.inRegion ops (i::rest)::k)) cs) H :=
 hT.ctl rfl (fun _=>stepG_unwanted ho hw) rfl hn
theorem zh.enter (hT:zh P main T) {f:FuncId} {args:Array Value} (ho:ops[i]? =some o) (hw:Region.wanted o (yielded ops a.tmps)=true) (hk:b.kind≠.early)
  (h:∀ w,∀ K:Result Next->Prop,K (.ok (.enter f args) w)->K ((execOp a.eval o).run P w)) (he:∀ w,(execOp a.eval o).events P w #[]=#[])
  (hn:T (G (Frame.enter P f args .normal) (b.at a (.inRegion ops (i::rest)::k)::cs)) H):T (G (b.at a (.inRegion ops (i::rest)::k)) cs) H:=by
 refine hT.ctl (g':=G (Frame.enter P f args .normal) (b.at a (.inRegion ops (i::rest)::k)::cs)) Z (fun w=>?_) rfl hn;rw [stepG_enter ho hw hk (h w (· = .ok (.enter f args) w) rfl)];congr 1;exact listed_nil (he w)
theorem zh.leave (hT:zh P main T) {fn:Func} {todo:List Item} {c:Frame} {v:Value} (hn:b.kind=.normal) (hd:a.defers=[]) (hf:P.funcs[b.fn]? =some fn)
  (hr:∀ w,z6 H w->(results fn a.tmps).run P w=.ok v w) (he:∀ w,z6 H w->∀ e∈(results fn a.tmps).events P w #[],EvH H e)
  (h:T (G (c.finish v) cs) H):T (G { b.at a todo with mode:=.returning } (c::cs)) H:=by
 refine hT _ _ Z fun w hw=>⟨G (c.finish v) cs,w,seen P b.fn ((results fn a.tmps).events P w #[]),?_,kx hw fun e hm=>he w hw e (mem_seen hm),rfl,by rw [ku hw]; exact h⟩;simp [G,stepG,unwind,doReturn,Frame.at,hn,hd,hf,hr w hw,GStep.after]
def CallsH (P:Program) (main:Bool) (f:FuncId) (args:Array Value) (H:Hp) (Post:Value->Hp->Prop):Prop :=
 ∀ T,zh P main T->∀ (c:Frame) (cs:List Frame),(∀ v H',Post v H'->T (G (c.finish v) cs) H')->T (G (Frame.enter P f args .normal) (c::cs)) H
theorem zh.call (hT:zh P main T) {f:FuncId} {args:Array Value} {Post:Value->Hp->Prop} (ho:ops[i]? =some o) (hw:Region.wanted o (yielded ops a.tmps)=true) (hk:b.kind≠.early)
  (h:∀ w,∀ K:Result Next->Prop,K (.ok (.enter f args) w)->K ((execOp a.eval o).run P w)) (he:∀ w,(execOp a.eval o).events P w #[]=#[]) (hc:CallsH P main f args H Post)
  (hn:∀ v H',Post v H'->T (G (b.at (a.put o.dst v) (.inRegion ops rest::k)) cs) H'):T (G (b.at a (.inRegion ops (i::rest)::k)) cs) H:=by
 refine hT.enter ho hw hk h he (hc T hT _ _ fun v H' hp=>?_);rw [Frame.finish_at,ho];exact hn v H' hp
end
def Hp.put (H:Hp) (r:Nat) (x:Bool×Obj):Hp:=fun b=>if b=r then some x else H b
theorem Hp.put_same (H:Hp) (r:Nat) (x:Bool×Obj):H.put r x r=some x:=by simp [Hp.put]
theorem Hp.put_other (H:Hp) {r b:Nat} (x:Bool×Obj) (h:b≠r):H.put r x b=H b:=by simp [Hp.put,h]
theorem Hp.put_put (H:Hp) (r:Nat) (x y:Bool×Obj):(H.put r x).put r y=H.put r y:=by
 funext b;unfold Hp.put;split <;> rfl
def wput (w:World) (r:Nat) (o:Obj):World:={ w with heap:=w.heap.setIfInBounds r o }
section
variable {H:Hp} {w:World}
theorem zcM (h:z6 H w) (o:Obj):H.next w (w.alloc o)=H.put w.heap.size (true,o):=by
 funext b;have hsz:(w.alloc o).heap=w.heap.push o:=rfl;by_cases hb:b=w.heap.size
 ·subst hb;rw [Hp.put_same];unfold Hp.next;cases e:H w.heap.size with
  | none=>simp [hsz]
  | some x=>exact absurd (h.lt e) (Nat.lt_irrefl _)
 ·rw [Hp.put_other _ _ hb];unfold Hp.next;cases e:H b with
  | none =>
   simp only;split
   ·rw [hsz,Array.getElem?_eq_none (by simp; omega)]; rfl
   ·rfl
  | some x =>
   obtain ⟨rw',o'⟩:=x;cases rw' with
   | false=>rfl
   | true =>
    simp only;have hlt:=h.lt e;rw [hsz,Array.getElem?_push,if_neg hb,h b true o' e];rfl
theorem vv (h:z6 H w) {r:Nat} {o o':Obj} (hr:H r=some (true,o)):H.next w (wput w r o')=H.put r (true,o'):=by
 funext b;have hlt:=h.lt hr;by_cases hb:b=r
 ·subst hb;rw [Hp.put_same];unfold Hp.next;rw [hr];simp only [wput];rw [mF hlt];rfl
 ·rw [Hp.put_other _ _ hb];unfold Hp.next;cases e:H b with
  | none =>
   simp only;split
   ·rename_i hge;rw [wput,mE (Ne.symm hb),Array.getElem?_eq_none hge]; rfl
   ·rfl
  | some x =>
   obtain ⟨rw',o''⟩:=x;cases rw' with
   | false=>rfl
   | true =>
    simp only;rw [wput,mE (Ne.symm hb),h b true o'' e];rfl
theorem zbN (o:Obj):StepH H w (w.alloc o) #[]:=by
 refine ⟨by rw [World.size_alloc]; omega,fun b hb _=>?_,fun e he=>by simp at he,rfl,rfl,rfl⟩;show (w.heap.push o)[b]? =_;rw [Array.getElem?_push,if_neg oQ]
theorem zfx {r:Nat} {o o':Obj} (hr:H r=some (true,o)) {b:Nat} {wr:Bool} (h:H.lets b wr):(H.put r (true,o')).lets b wr:=by
 by_cases hb:b=r
 ·subst hb; exact ⟨true,o',Hp.put_same _ _ _,fun _=>rfl⟩
 ·obtain ⟨rw',o'',e,himp⟩:=h;exact ⟨rw',o'',by rw [Hp.put_other _ _ hb]; exact e,himp⟩
theorem zlu {r:Nat} {o o':Obj} (hr:H r=some (true,o)) {e:Event} (h:EvH H e):EvH (H.put r (true,o')) e:=by
 obtain ⟨loc,wr,sy⟩:=e;cases loc with
 | cell a=>exact zfx hr h
 | obj x=>exact ⟨h.1,zfx hr h.2⟩
 | mark m=>exact h
 | _=>exact h.elim
theorem vJ (h:z6 H w) {r:Nat} {o o':Obj} (hr:H r=some (true,o)) {es:Array Event} (he:∀ e∈es,EvH H e):StepH H w (wput w r o') es:=by
 refine ⟨by simp [wput],fun b _ hn=>?_,fun e hm=>?_,rfl,rfl,rfl⟩
 ·have hb:r≠b:=fun e=>hn o (e ▸ hr);show (w.heap.setIfInBounds r o')[b]? =_;rw [mE hb]
 ·rw [vv h hr];exact zlu hr (he e hm)
theorem zfW {r off:Nat} {c:Array Value} {e:TypeId} {fz:Nat×Nat} {v:Value} (h:w.heap[r]? =some (.cells c e fz)):w.setCell ⟨r,off,none⟩ v=wput w r (.cells (c.setIfInBounds off v) e fz):=by
 obtain ⟨hlt,he⟩:=mG.1 h;unfold World.setCell wput;congr 1;apply Array.ext_getElem?;intro k;rw [Array.getElem?_modify];by_cases hk:r=k
 ·subst hk;rw [if_pos rfl,h,mF hlt];rfl
 ·rw [if_neg hk,mE hk]
theorem z6.cell (h:z6 H w) {r off:Nat} {rw':Bool} {c:Array Value} {e:TypeId} {fz:Nat×Nat} {v:Value} (hr:H r=some (rw',.cells c e fz)) (hv:c[off]? =some v):w.cell? ⟨r,off,none⟩=some v:=by
 unfold World.cell?;rw [h r _ _ hr];simp [hv]
theorem z6.frozen (h:z6 H w) {r:Nat} (off:Nat) {rw':Bool} {c:Array Value} {e:TypeId} (hr:H r=some (rw',.cells c e (0,0))):w.frozen? ⟨r,off,none⟩=false:=by
 unfold World.frozen?;rw [h r _ _ hr];simp
end
section
variable {P:Program} {main:Bool} {T:Goroutine->Hp->Prop} {H:Hp} {b:Frame} {a:Act} {k:List Item} {cs:List Frame} {ops:Array Oper} {i:Nat} {rest:List Nat} {o:Oper}
theorem zh.new (hT:zh P main T) {o':Obj} (ho:ops[i]? =some o) (hw:Region.wanted o (yielded ops a.tmps)=true) (hk:b.kind≠.early)
  (h:∀ w,∀ K:Result Next->Prop,K (.ok (.value (.pointer (some ⟨w.heap.size,0,none⟩))) (w.alloc o'))->K ((execOp a.eval o).run P w)) (he:∀ w,(execOp a.eval o).events P w #[]=#[])
  (hn:∀ r,H r=none->T (G (b.at (a.put o.dst (.pointer (some ⟨r,0,none⟩))) (.inRegion ops rest::k)) cs) (H.put r (true,o'))):T (G (b.at a (.inRegion ops (i::rest)::k)) cs) H:=by
 refine hT _ _ Z fun w hf=>?_;have hr:=h w (· = .ok (.value (.pointer (some ⟨w.heap.size,0,none⟩))) (w.alloc o')) rfl;refine ⟨_,_,_,stepG_value ho hw hk hr,?_,rfl,?_⟩
 ·rw [listed_nil (he w)]; exact zbN o'
 ·rw [zcM hf];refine hn _ ?_;cases e:H w.heap.size with
  | none=>rfl
  | some x=>exact absurd (hf.lt e) (Nat.lt_irrefl _)
theorem zh.store (hT:zh P main T) {r:Nat} {o₁ o':Obj} (hr:H r=some (true,o₁)) (ho:ops[i]? =some o) (hw:Region.wanted o (yielded ops a.tmps)=true) (hk:b.kind≠.early)
  (h:∀ w,z6 H w->∀ K:Result Next->Prop,K (.ok .skip (wput w r o'))->K ((execOp a.eval o).run P w)) (he:∀ w,z6 H w->∀ e∈(execOp a.eval o).events P w #[],EvH H e)
  (hn:T (G (b.at (a.put o.dst undef) (.inRegion ops rest::k)) cs) (H.put r (true,o'))):T (G (b.at a (.inRegion ops (i::rest)::k)) cs) H:=by
 refine hT _ _ Z fun w hf=>?_;have hrun:=h w hf (· = .ok .skip (wput w r o')) rfl;exact ⟨_,_,_,stepG_none ho hw hk hrun,vJ hf hr fun e hm=>he w hf e (mem_listed hm),rfl,by rw [vv hf hr]; exact hn⟩
end
def Hp.ownsRow (H:Hp) (e:TypeId) (size:Nat) (v:Value) (n:Nat) (xs:List Value):Prop :=
 xs.length=n*size/\((v=.slice none 0 0/\n=0) \/
  ∃ g cap cur,v=.slice (some ⟨g,0,none⟩) n cap/\H g=some (true,.cells cur e (0,0))/\n<=cap/\cap<=maxLen/\cur.size=cap*size/\cur.toList.take (n*size)=xs)
theorem Hp.ownsRow.world {H:Hp} {e:TypeId} {size:Nat} {v:Value} {n:Nat} {xs:List Value} (h:H.ownsRow e size v n xs) {w:World} (hw:z6 H w):w.ownsRow 0 e size v n xs:=by
 refine ⟨h.1,h.2.imp id ?_⟩;rintro ⟨g,cap,cur,h1,h2,h3⟩;exact ⟨g,cap,cur,h1,mN _,hw g _ _ h2,h3⟩
theorem Hp.ownsRow.put {H:Hp} {e:TypeId} {size:Nat} {v:Value} {n:Nat} {xs:List Value} (h:H.ownsRow e size v n xs) {r:Nat} (hr:H r=none) (x:Bool×Obj):(H.put r x).ownsRow e size v n xs:=by
 refine ⟨h.1,h.2.imp id ?_⟩;rintro ⟨g,cap,cur,h1,h2,h3⟩;have:g≠r:=fun e=>by rw [e,hr] at h2; cases h2
 exact ⟨g,cap,cur,h1,by rw [Hp.put_other _ _ this]; exact h2,h3⟩
theorem Hp.ownsRow.get {H:Hp} {e:TypeId} {a0:Option Addr} {n c:Nat} {xs:List Value} (h:H.ownsRow e 1 (.slice a0 n c) n xs) {j:Nat} {u:Value} (hu:xs[j]? =some u):∃ g cur,a0=some ⟨g,0,none⟩/\H g=some (true,.cells cur e (0,0))/\cur[j]? =some u:=by
 have hlt:j<xs.length:=(List.getElem?_eq_some_iff.1 hu).1;rcases h.2 with ⟨_,rfl⟩ | ⟨g,cap,cur,e1,h2,_,_,_,h3⟩
 ·rw [h.1] at hlt; omega
 ·cases e1;refine ⟨g,cur,rfl,h2,?_⟩;rw [<- h3,List.getElem?_take] at hu;split at hu
  ·simpa using hu
  ·cases hu
theorem zeV {P:Program} (w:World) (t ty e:TypeId) (i:TypeInfo) (z:Value) (size bytes:Nat) (ht:P.underlying t=some (.slice e)) (hi:P.info? e=some i) (hz:i.zero=some z)
  (hsize:i.size=size) (hby:i.bytes=bytes)
  (v:Value) (n:Nat) (xs:List Value) (hown:w.ownsRow 0 e size v n xs)
  (a:Addr) (m c:Nat) (news:List Value) (hl:news.length=m*size) (hnews:∀ j u,news[j]? =some u->w.cell? (a.add j)=some u) (h1:∀ u∈news,u.oneCell'=true)
  (h63:n+m<=maxLen) (hbytes:(n+m)*bytes<=140737488355328) {v':Value} {w':World} (hr:(Builtin.append_ #[t,t] ty #[v,.slice (some a) m c]).run P w=.ok v' w') :
  ∀ g,v'.ownBlock=some g->v.ownBlock=some g\/w.heap.size<=g:=by
 subst hsize;subst hby;have hsmall:n+m<=9223372036854775807:=by simp only [maxLen] at h63; omega
 intro g' hg';rcases hown.2 with ⟨rfl,rfl⟩ | ⟨g,cap,cur,rfl,_,hg,hnc,hcm,hcs,htake⟩
 ·by_cases hm:m=0
  ·subst hm;have:(Builtin.append_ #[t,t] ty #[.slice none 0 0,.slice (some a) 0 c]).run P w=.ok (.slice none 0 0) w:=by
    simp [Builtin.append_,run_underlying ht,sizeOf,typeInfo,hi,Builtin.lenOf,Builtin.firstCells,loadCells,loadCellsFrom]
   rw [this] at hr;cases hr;cases hg'
  ·have h2:=run_append_nil (P:=P) w t ty e i z ht hi hz a m c news hl hnews oQ oQ (by have hb:=hbytes; simp only [mO] at hb; omega);rw [h2] at hr;cases hr;cases hg';exact .inr (mL _)
 ·by_cases hroom:n+m<=cap
  ·have hfit:n*i.size+news.length<=cur.size:=by rw [hl,hcs,<- Nat.add_mul]; exact Nat.mul_le_mul_right _ hroom
   have h2:=run_append_room (P:=P) w t ty e i ht hi g n cap cur hg a m c news hl hnews h1 hroom hfit;rw [h2] at hr;cases hr;exact .inl hg'
  ·have holds:∀ j u,xs[j]? =some u->w.cell? ((⟨g,0,none⟩:Addr).add j)=some u:=hown.cells (g:=g) rfl;have h2:=run_append_grow (P:=P) w t ty e i z ht hi hz ⟨g,0,none⟩ n cap xs hown.1 holds a m c news hl hnews oQ oQ (growslice_fits oQ hbytes);rw [h2] at hr;cases hr;cases hg';exact .inr (mL _)
theorem ziY {H:Hp} {w w':World} (hw:z6 H w) {b:Nat} {x:Bool×Obj} (hb:H b=some x) (h:w'.heap[b]? =w.heap[b]?):H.next w w' b=some x:=by
 obtain ⟨rw',o⟩:=x;unfold Hp.next;rw [hb];cases rw' with
 | false=>rfl
 | true=>simp only; rw [h,hw b true o hb]; rfl
section
variable {P:Program} {main:Bool} {T:Goroutine->Hp->Prop} {H:Hp} {b:Frame} {a:Act} {k:List Item} {cs:List Frame} {ops:Array Oper} {i:Nat} {rest:List Nat} {o:Oper}
theorem zh.loopN (hT:zh P main T) {c:Code} (I:Nat->Act->Hp->Prop) (n:Nat) (h0:I n a H)
  (round:∀ n a H,I n a H->(∀ n' a' H',n'<n->I n' a' H'->T (G (b.at a' (.inLoop c::k)) cs) H')->T (G (b.at a (.code c::.inLoop c::k)) cs) H):T (G (b.at a (.code (.loop c)::k)) cs) H:=by
 refine hT.loop ?_;have key:∀ n a H,I n a H->T (G (b.at a (.code c::.inLoop c::k)) cs) H:=by
  intro n
  induction n using Nat.strongRecOn with
  | _ n ih =>
   intro a H hI;exact round n a H hI fun n' a' H' hlt hI'=>hT.inLoop (ih n' hlt a' H' hI')
 exact key n a H h0
def Hp.ext (H H':Hp):Prop:=∀ b x,H b=some x->H' b=some x
theorem Hp.ext_put {H H':Hp} (h:H.ext H') {r:Nat} (hr:H r=none) (x:Bool×Obj):H.ext (H'.put r x):=fun b y hb=>by
 have:b≠r:=fun e=>by rw [e,hr] at hb; cases hb
 rw [Hp.put_other _ _ this];exact h b y hb
theorem zh.append (hT:zh P main T) (ho:ops[i]? =some o) (hw:Region.wanted o (yielded ops a.tmps)=true) (hk:b.kind≠.early) (s x:Operand) (t:TypeId)
  (hop:o.op=.call { callee:=.builtin .append,args:=#[s,x],argTypes:=#[t,t] }) {e:TypeId} {ti:TypeInfo} {z:Value} {size bytes:Nat} (ht:P.underlying t=some (.slice e)) (hi:P.info? e=some ti) (hz:ti.zero=some z)
  (hsize:ti.size=size) (hby:ti.bytes=bytes) (hzs:z.cells.size=size) (hsz:0<size) {v:Value} {n:Nat} {xs:List Value} (hs:a.eval s=v) (hown:H.ownsRow e size v n xs)
  {ad:Addr} {m c:Nat} {news:List Value} (hx:a.eval x=.slice (some ad) m c) (hl:news.length=m*size) (hnews:∀ w,z6 H w->∀ j u,news[j]? =some u->w.cell? (ad.add j)=some u) (hlets:H.lets ad.block false)
  (h1:∀ u∈news,u.oneCell'=true) (h63:n+m<=maxLen) (hbytes:(n+m)*bytes<=140737488355328)
  (hn:∀ v' H',H'.ownsRow e size v' (n+m) (xs++news)->(∀ b x,H b=some x->some b≠v.ownBlock->H' b=some x)->(v'=.slice none 0 0↔v=.slice none 0 0/\m=0) ->
   (∀ g,v'.ownBlock=some g->v.ownBlock=some g\/H g=none)->T (G (b.at (a.put o.dst v') (.inRegion ops rest::k)) cs) H') :
  T (G (b.at a (.inRegion ops (i::rest)::k)) cs) H:=by
 refine hT _ _ Z fun w hf=>?_;have how:=hown.world hf;obtain ⟨v',w',hr,ho',hg,hiff⟩:=run_append_own (P:=P) w 0 t o.type e ti z size bytes ht hi hz hsize hby hzs hsz v n xs how ad m c news hl (hnews w hf) h1 h63 hbytes (mN _);have hrun:(execOp a.eval o).run P w=.ok (.value v') w':=by
  unfold execOp;simp only [hop,resolve,invoke,builtin,Sem.run_bind,Sem.run_pure,Result.andThen_ok,List.map_toArray,List.map_cons,List.map_nil,hs,hx,hr]
 have hblk:=zeV (P:=P) w t o.type e ti z size bytes ht hi hz hsize hby v n xs how ad m c news hl (hnews w hf) h1 h63 hbytes hr;have hmine:∀ g,v.ownBlock=some g->∃ o,H g=some (true,o):=fun g hg=>by
  rcases hown.2 with ⟨rfl,_⟩ | ⟨g',cap,cur,rfl,h2,_⟩
  ·cases hg
  ·cases hg; exact ⟨_,h2⟩
 have hkept:∀ b,b<w.heap.size->some b≠v.ownBlock->w'.heap[b]? =w.heap[b]? :=hg.block;have hS:StepH H w w' (listed P b.fn a o w):=by
  refine ⟨hg.size,fun b hb hno=>hkept b hb fun e=>?_,fun ev hev=>?_,hg.os,hg.output,hg.tape⟩
  ·obtain ⟨o,h2⟩:=hmine b e.symm;exact hno o h2
  ·have hm:=mem_listed hev;rw [events_append_op s x t hop hs hx] at hm;rcases events_append_where (P:=P) w 0 t o.type e ti z size bytes ht hi hz hsize hby v n xs how ad m c news hl (hnews w hf) h1 h63 hbytes ev hm with ⟨ad',hloc,hcase⟩ | ⟨mk,rfl,hneu⟩
   ·obtain ⟨loc,wr,sy⟩:=ev;simp only at hloc hcase;subst hloc;have hl':∀ b,(∃ x,H b=some x)->∃ rw' o',H.next w w' b=some (rw',o')/\((∃ o,H b=some (true,o))->rw'=true):=fun b ⟨x,hb⟩=>by
     obtain ⟨rw',o'⟩:=x;have hlt:=hf.lt hb;unfold Hp.next;rw [hb];cases rw' with
     | false=>exact ⟨false,o',rfl,fun ⟨o,e⟩=>by cases e⟩
     | true=>simp only [mD (mM hlt hg.size)]; exact ⟨true,_,rfl,fun _=>rfl⟩
    rcases hcase with ⟨hwr,hb⟩ | hb
    ·obtain ⟨rw0,o0,h2,_⟩:=hlets;obtain ⟨rw',o',h3,_⟩:=hl' ad'.block ⟨_,by rw [hb]; exact h2⟩;exact ⟨rw',o',h3,fun h=>by rw [hwr] at h; cases h⟩
    ·obtain ⟨o0,h2⟩:=hmine ad'.block hb.symm;obtain ⟨rw',o',h3,h4⟩:=hl' ad'.block ⟨_,h2⟩;exact ⟨rw',o',h3,fun _=>h4 ⟨_,h2⟩⟩
   ·exact .inl hneu
 refine ⟨_,_,_,stepG_value ho hw hk hrun,hS,rfl,?_⟩;refine hn v' _ ⟨ho'.1,ho'.2.imp id ?_⟩ (fun b x hb hne=>?_) hiff fun g hg'=>?_
 ·rintro ⟨g,cap,cur,e1,_,e2,e3⟩;refine ⟨g,cap,cur,e1,?_,e3⟩;rcases hblk g (by rw [e1]; rfl) with hb | hb
  ·obtain ⟨o0,h2⟩:=hmine g hb;unfold Hp.next;rw [h2];simp only;rw [e2];rfl
  ·unfold Hp.next;cases e:H g with
   | none=>simp only; rw [if_pos hb,e2]; rfl
   | some x=>have:=hf.lt e; omega
 ·exact ziY hf hb (hkept b (hf.lt hb) hne)
 ·rcases hblk g hg' with h | h
  ·exact .inl h
  ·right;cases e:H g with
   | none=>rfl
   | some x=>have:=hf.lt e; omega
end
section
variable {P:Program}
def BT (P:Program) (Ψ:Goroutine->World->Prop) (g:Goroutine) (H:Hp):Prop:=okG g->∀ w,z6 H w->yi P (fun a w'=>(w'.os=w.os/\w'.output=w.output)/\Ψ a w') g w
theorem yi.imp {Φ Φ':Goroutine->World->Prop} {g:Goroutine} {w:World} (h:yi P Φ g w) (hp:∀ a w',Φ a w'->Φ' a w'):yi P Φ' g w:=fun τ d gs sl t q h0 hL hP=>by
 obtain ⟨N,gs',a',w',d',sl',t',q',h1,h2,h3,h4⟩:=h τ d gs sl t q h0 hL hP;exact ⟨N,gs',a',w',d',sl',t',q',h1,h2,hp _ _ h3,h4⟩
theorem zhs {K:Hp} {w:World} (hf:z6 K w) {e:Event} (h:EvH K e):EvL NoShun w.heap.size e :=
 ⟨fun _ _ hx=>hx.elim,(uR h).1,(uR h).2,zdf hf h⟩
theorem zjU (P:Program) (g g':Goroutine) (w':World):((#[g]:Array Goroutine).map (woken P g g' w')).setIfInBounds 0 g'=#[g']:=by simp
theorem kX (T:Tame P) (Ψ:Goroutine->World->Prop):zh P true (BT P Ψ):=by
 intro g H hr h hok w hf τ d gs sl t q h0 hL hP;obtain ⟨N,gs1,d1,sl1,t1,q1,hr1,_,h01,hL1,hP1,d2,sl2,hfin⟩:=zg8 w τ hr _ gs d sl t q (mL _) h0 hL hP;have hf':z6 H (Go.Vel.on w τ d2):=hf;obtain ⟨g',w',es,hgo,hS,hr',hT⟩:=h (Go.Vel.on w τ d2) hf';have hlt:0<gs1.size:=(mG.1 h01).1;have hrun:=runT_crowd_go (P:=P) (sl:=sl2) (i:=0) h01 (show stepG P (0==0) g (Go.Vel.on w τ d2)=_ from hgo);have h1:step P (solo g (Go.Vel.on w τ d2))=.next (solo g' w'):=by
  refine yJ (u:=MemOp.ofEvents 0 g.frame.fn g.frame.place es) hr ?_;have h00:(#[g]:Array Goroutine)[0]? =some g:=rfl;have:=runT_crowd_go (P:=P) (gs:=#[g]) (sl:=none) (i:=0) h00 (show stepG P (0==0) g (Go.Vel.on w τ d2)=_ from hgo);rw [this,zjU];rfl
 have hok':okG g':=zce T 1 g (Go.Vel.on w τ d2) g' w' hok hr (by simp only [runN,h1]) hr';have htape:w'.tape=τ:=hS.tape;have ew:Go.Vel.on w' τ w'.drawn=w':=by rw [<- htape]; rfl
 have hfn:=hf'.next hS;have hP2:Past NoShun w'.heap.size (t1++MemOp.ofEvents 0 g.frame.fn g.frame.place es):=(hP1.mono hS.size).own fun e he=>zhs hfn (hS.evs e he);have hL2:Leavers P (t1++MemOp.ofEvents 0 g.frame.fn g.frame.place es) ((gs1.map (woken P g g' w')).setIfInBounds 0 g') q1:=by
  refine ⟨fun j x hj hx=>?_,fun j hj=>?_⟩
  ·have hne:0≠j:=by omega
   rw [mE hne,mJ] at hx;obtain ⟨y,hy,rfl⟩:=mY.1 hx;have hq:=hL1.old j y hj hy;rw [woken_quitsD hq,Deaf_other t1 oQ _ (fun op hop=>by obtain ⟨e,_,rfl⟩:=Go.Conc.mem_ofEvents hop; rfl)];exact hq
  ·rw [Deaf_other t1 (g':=0) (by simp at hj; omega) _ (fun op hop=>by obtain ⟨e,_,rfl⟩:=Go.Conc.mem_ofEvents hop; rfl)];exact hL1.above j (by simpa using hj)
 obtain ⟨M,gs',a',w2,d',sl',t',q',hr2,h02,hψ,hL3,hP3⟩:=hT hok' w' hfn τ w'.drawn _ sl2 _ q1 (by simp [hlt]) hL2 hP2;refine ⟨N+(1+M),gs',a',w2,d',sl',t',q',?_,h02,⟨⟨hψ.1.1.trans hS.os,hψ.1.2.trans hS.out⟩,hψ.2⟩,hL3,hP3⟩;rw [wH N (1+M) _ _ _ _ hr1,Nat.add_comm 1 M];simp only [runNT,hfin,hrun];rw [ew] at hr2;exact hr2
def CallsM (P:Program) (f:FuncId) (args:Array Value) (H:Hp) (Post:Value->Hp->Prop):Prop :=
 ∀ (Ψ:Goroutine->World->Prop) (c:Frame) (cs:List Frame),(∀ v H',Post v H'->BT P Ψ (G (c.finish v) cs) H')->BT P Ψ (G (Frame.enter P f args .normal) (c::cs)) H
theorem CallsH.main (T:Tame P) {f:FuncId} {args:Array Value} {H:Hp} {Post:Value->Hp->Prop} (h:CallsH P true f args H Post):CallsM P f args H Post:=fun Ψ c cs hp=>h _ (kX T Ψ) c cs hp
theorem CallsM.mono {f:FuncId} {args:Array Value} {H:Hp} {Post Post':Value->Hp->Prop} (h:CallsM P f args H Post) (hp:∀ v H',Post v H'->Post' v H'):CallsM P f args H Post':=fun Ψ c cs k=>h Ψ c cs fun v H' x=>k v H' (hp v H' x)
theorem CallsH.mono {main:Bool} {f:FuncId} {args:Array Value} {H:Hp} {Post Post':Value->Hp->Prop} (h:CallsH P main f args H Post) (hp:∀ v H',Post v H'->Post' v H'):CallsH P main f args H Post':=fun T hT c cs k=>h T hT c cs fun v H' x=>k v H' (hp v H' x)
theorem zbv (T:Tame P) {f:FuncId} {args:Array Value} {H:Hp} {Post:Value->Hp->Prop}
  (h:∀ w,z6 H w->Calls P f args w fun e w'=>∃ v,e=.returned v/\(w'.os=w.os/\w'.output=w.output)/\∃ H',z6 H' w'/\Post v H'):CallsM P f args H Post:=by
 intro Ψ c cs hp hok w hf;refine zgi T (R:=fun v w'=>(w'.os=w.os/\w'.output=w.output)/\∃ H',z6 H' w'/\Post v H') (fun σ=>?_) c cs hok _ fun v w' ⟨ho,H',hf',hv⟩ hok'=>(hp v H' hv hok' w' hf').imp fun a w2 ⟨h1,h2⟩=>⟨⟨h1.1.trans ho.1,h1.2.trans ho.2⟩,h2⟩;exact (h (Go.Vel.on w σ 0) hf).mono fun e w' ⟨v,he,x⟩=>⟨v,he,x⟩
end
def oneCell:Value->Bool | .agg _ | .tuple _=>false | _=>true
def isCells:Obj->Bool | .cells .. => true | _=>false
def shapeOf:Obj->Option (TypeId×Nat) | .cells c e _=>some (e,c.size) | _=>none
def frozenOf (off:Nat):Obj->Bool | .cells _ _ (lo,hi)=>decide (lo<=off)&&decide (off<hi) | _=>false
def fzOf (fz:Nat×Nat) (off n:Nat):Nat×Nat:=if fz.1==fz.2 then (off,off+n) else (min fz.1 off,max fz.2 (off+n))
theorem zgn {w:World} {a:Addr} {n:Nat} {c:Array Value} {e:TypeId} {fz:Nat×Nat} (hn:n≠0) (h:w.heap[a.block]? =some (.cells c e fz)):w.freeze a n=wput w a.block (.cells c e (fzOf fz a.off n)):=by
 obtain ⟨hlt,he⟩:=mG.1 h;unfold World.freeze wput;rw [if_neg hn];congr 1;apply Array.ext_getElem?;intro k;rw [Array.getElem?_modify];by_cases hk:a.block=k
 ·subst hk;rw [if_pos rfl,h,mF hlt];rfl
 ·rw [if_neg hk,mE hk]
def wpS {α:Type} (P:Program):Sem α->Hp->(α->Hp->Prop)->Prop
 | .pure a,H,Q=>Q a H
 | .load _ a k,H,Q=>∃ rw c e fz v,H a.block=some (rw,.cells c e fz)/\a.spot=none/\c[a.off]? =some v/\wpS P (k v) H Q
 | .store _ a v k,H,Q=>oneCell v=true/\∃ c e lo hi,H a.block=some (true,.cells c e (lo,hi))/\a.spot=none/\a.off<c.size/\(decide (lo<=a.off)&&decide (a.off<hi))=false/\wpS P k (H.put a.block (true,.cells (c.setIfInBounds a.off v) e (lo,hi))) Q
 | .new o k,H,Q=>∀ r,H r=none->wpS P (k r) (H.put r (true,o)) Q
 | .shape r k,H,Q=>∃ rw o,H r=some (rw,o)/\wpS P (k (shapeOf o)) H Q
 | .frozen a k,H,Q=>∃ rw o,H a.block=some (rw,o)/\wpS P (k (frozenOf a.off o)) H Q
 | .freeze a n k,H,Q=>n≠0/\∃ c e fz,H a.block=some (true,.cells c e fz)/\wpS P k (H.put a.block (true,.cells c e (fzOf fz a.off n))) Q
 | .getObj r k,H,Q=>∃ rw o,H r=some (rw,o)/\isCells o=false/\o.isChan=false/\wpS P (k o) H Q
 | .setObj r o k,H,Q=>∃ o0,H r=some (true,o0)/\isCells o0=false/\o.isChan=false/\wpS P k (H.put r (true,o)) Q
 | .choose q k,H,Q=>∀ n,(q.forced=true->n=0)->(q.forced=false->∃ t,n=q.cut t)->wpS P (k n) H Q
 | .sys _ _,_,_=>False
 | .program k,H,Q=>wpS P (k P) H Q
 | .mark m k,H,Q=>(m=.noRoom\/∃ f,m=.extern f)/\wpS P k H Q
 | .halt _,_,_=>False
theorem zka {H:Hp} {w w':World} {es:Array Event} (hf:z6 H w) (hs:StepH H w w' es) {e:Event} (h:EvH H e):EvH (H.next w w') e:=by
 obtain ⟨loc,wr,sy⟩:=e;cases loc with
 | cell a=>exact zaR hf hs h
 | obj x=>exact ⟨h.1,zaR hf hs h.2⟩
 | mark m=>exact h
 | _=>exact h.elim
theorem wD {H:Hp} {w w1 w2:World} (h1:w.heap.size<=w1.heap.size) (h2:w1.heap.size<=w2.heap.size) (hf:z6 H w):(H.next w w1).next w1 w2=H.next w w2:=by
 funext b;unfold Hp.next;cases e:H b with
 | none =>
  simp only;by_cases hb:w.heap.size<=b
  ·rw [if_pos hb,if_pos hb];by_cases hb1:b<w1.heap.size
   ·rw [mD hb1];rfl
   ·rw [Array.getElem?_eq_none oQ];simp only [Option.map_none];rw [if_pos oQ]
  ·rw [if_neg hb,if_neg hb];simp only;rw [if_neg oQ]
 | some x =>
  obtain ⟨rw',o⟩:=x;cases rw' with
  | false=>rfl
  | true =>
   have hlt:=hf.lt e;simp only;rw [mD (mM hlt h1)];rfl
theorem StepH.trans {H:Hp} {w w1 w2:World} {es1 es2:Array Event} (hf:z6 H w) (h1:StepH H w w1 es1) (h2:StepH (H.next w w1) w1 w2 es2):StepH H w w2 (es1++es2):=by
 refine ⟨mT h1.size h2.size,fun b hb hno=>?_,fun e he=>?_,h2.os.trans h1.os,h2.out.trans h1.out,h2.tape.trans h1.tape⟩
 ·rw [h2.kept b (mM hb h1.size) ?_]
  ·exact h1.kept b hb hno
  ·intro o hc;unfold Hp.next at hc;cases e:H b with
   | none =>
    rw [e] at hc;simp only at hc;rw [if_neg oQ] at hc;cases hc
   | some x =>
    obtain ⟨rw',o'⟩:=x;cases rw' with
    | false=>rw [e] at hc; cases hc
    | true=>exact hno o' e
 ·rw [<- wD h1.size h2.size hf];rcases Array.mem_append.1 he with he | he
  ·exact zka (hf.next h1) h2 (h1.evs e he)
  ·exact h2.evs e he
theorem zhK {H:Hp} {w:World} (hf:z6 H w) (d:Nat):H.next w { w with drawn:=d }=H:=ku (w:=w) hf
theorem kL {P:Program} {α:Type} (s:Sem α):∀ (H:Hp) (Q:α->Hp->Prop) (w:World) (es0:Array Event),wpS P s H Q->z6 H w ->
  ∃ a w' es,s.runT P w es0=(.ok a w',es0++es)/\StepH H w w' es/\Q a (H.next w w'):=by
 induction s with
 | pure a =>
  intro H Q w es0 h hf;exact ⟨a,w,#[],by simp [Sem.runT],kx hf (fun e he=>by simp at he),by rw [ku hf]; exact h⟩
 | load m a k ih =>
  intro H Q w es0 h hf;obtain ⟨rw',c,e,fz,v,hH,hs,hc,h⟩:=h;obtain ⟨blk,off,sp⟩:=a;simp only at hH hs hc;subst hs;have hcell:=hf.cell hH hc;obtain ⟨x,w',es,h1,h2,h3⟩:=ih v H Q w (es0.push ⟨.cell ⟨blk,off,none⟩,false,m==.atomic⟩) h hf;refine ⟨x,w',#[⟨.cell ⟨blk,off,none⟩,false,m==.atomic⟩]++es,?_,?_,h3⟩
  ·simp only [Sem.runT,hcell,h1];simp
  ·have h0:StepH H w w #[⟨.cell ⟨blk,off,none⟩,false,m==.atomic⟩]:=kx hf (fun e he=>by
    simp only [List.mem_toArray,lS] at he;subst he;exact ⟨rw',_,hH,fun hx=>by cases hx⟩)
   have:=StepH.trans (w2:=w') hf h0 (by rw [ku hf]; exact h2);exact this
 | store m a v k ih =>
  intro H Q w es0 h hf;obtain ⟨hv,c,e,lo,hi,hH,hs,hlt,hfz,h⟩:=h;obtain ⟨blk,off,sp⟩:=a;simp only at hH hs hlt hfz h;subst hs;have hcell:=hf.cell (v:=c[off]) hH (mD hlt);have hfr:w.frozen? ⟨blk,off,none⟩=false:=by
   unfold World.frozen?;rw [hf blk _ _ hH];exact hfz
  have hset:w.setCell ⟨blk,off,none⟩ v=wput w blk (.cells (c.setIfInBounds off v) e (lo,hi)):=zfW (hf blk _ _ hH);have hS:StepH H w (wput w blk (.cells (c.setIfInBounds off v) e (lo,hi))) #[⟨.cell ⟨blk,off,none⟩,true,m==.atomic⟩]:=vJ hf hH (fun ev he=>by
    simp only [List.mem_toArray,lS] at he;subst he;exact ⟨true,_,hH,fun _=>rfl⟩)
  have hn:=vv (o':=.cells (c.setIfInBounds off v) e (lo,hi)) hf hH;have hf1:=hf.next hS;rw [hn] at hf1;obtain ⟨x,w',es,h1,h2,h3⟩:=ih _ Q _ (es0.push ⟨.cell ⟨blk,off,none⟩,true,m==.atomic⟩) h hf1;refine ⟨x,w',#[⟨.cell ⟨blk,off,none⟩,true,m==.atomic⟩]++es,?_,StepH.trans hf hS (by rw [hn]; exact h2),?_⟩
  ·have hrun:(Sem.store m ⟨blk,off,none⟩ v k).runT P w es0=k.runT P (w.setCell ⟨blk,off,none⟩ v) (es0.push ⟨.cell ⟨blk,off,none⟩,true,m==.atomic⟩):=by
    cases v <;> first | (simp [oneCell] at hv; done) | (simp only [Sem.runT,hcell,hfr,mU,if_false])
   rw [hrun,hset,h1];simp
  ·rw [<- wD hS.size h2.size hf,hn]; exact h3
 | new o k ih =>
  intro H Q w es0 h hf;have hr:H w.heap.size=none:=by
   cases e:H w.heap.size with
   | none=>rfl
   | some x=>exact absurd (hf.lt e) (Nat.lt_irrefl _)
  have hS:StepH H w (w.alloc o) #[]:=zbN o;have hn:=zcM hf o;have hf1:=hf.next hS;rw [hn] at hf1;obtain ⟨x,w',es,h1,h2,h3⟩:=ih w.heap.size _ Q _ es0 (h _ hr) hf1;refine ⟨x,w',es,h1,?_,?_⟩
  ·have:=StepH.trans hf hS (by rw [hn]; exact h2);rwa [mK] at this
  ·rw [<- wD hS.size h2.size hf,hn]; exact h3
 | shape r k ih =>
  intro H Q w es0 h hf;obtain ⟨rw',o,hH,h⟩:=h;obtain ⟨x,w',es,h1,h2,h3⟩:=ih _ H Q w es0 h hf;refine ⟨x,w',es,?_,h2,h3⟩;have:w.shape? r=shapeOf o:=by
   unfold World.shape?;rw [hf r _ _ hH];cases o <;> rfl
  simp only [Sem.runT,this];exact h1
 | freeze a n k ih =>
  intro H Q w es0 h hf;obtain ⟨hn0,c,e,fz,hH,h⟩:=h;obtain ⟨blk,off,sp⟩:=a;simp only at hH h;have hset:=zgn (a:=⟨blk,off,sp⟩) hn0 (hf blk _ _ hH);have hS:StepH H w (wput w blk (.cells c e (fzOf fz off n))) #[]:=vJ hf hH (fun ev he=>by simp at he);have hnx:=vv (o':=.cells c e (fzOf fz off n)) hf hH;have hf1:=hf.next hS;rw [hnx] at hf1;obtain ⟨x,w',es,h1,h2,h3⟩:=ih _ Q _ es0 h hf1;refine ⟨x,w',es,?_,?_,?_⟩
  ·simp only [Sem.runT,hset]; exact h1
  ·have:=StepH.trans hf hS (by rw [hnx]; exact h2);rwa [mK] at this
  ·rw [<- wD hS.size h2.size hf,hnx]; exact h3
 | frozen a k ih =>
  intro H Q w es0 h hf;obtain ⟨rw',o,hH,h⟩:=h;obtain ⟨x,w',es,h1,h2,h3⟩:=ih _ H Q w es0 h hf;refine ⟨x,w',es,?_,h2,h3⟩;have:w.frozen? a=frozenOf a.off o:=by
   unfold World.frozen?;rw [hf a.block _ _ hH];cases o <;> rfl
  simp only [Sem.runT,this];exact h1
 | getObj r k ih =>
  intro H Q w es0 h hf;obtain ⟨rw',o,hH,hc,hch,h⟩:=h;obtain ⟨x,w',es,h1,h2,h3⟩:=ih o H Q w (es0.push ⟨.obj r,false,o.isChan⟩) h hf;refine ⟨x,w',#[⟨.obj r,false,o.isChan⟩]++es,?_,?_,h3⟩
  ·have hrun:(Sem.getObj r k).runT P w es0=(k o).runT P w (es0.push ⟨.obj r,false,o.isChan⟩):=by
    simp only [Sem.runT,hf r _ _ hH];cases o <;> first | (simp [isCells] at hc; done) | rfl
   rw [hrun,h1];simp
  ·have h0:StepH H w w #[⟨.obj r,false,o.isChan⟩]:=kx hf (fun e he=>by
    simp only [List.mem_toArray,lS] at he;subst he;exact ⟨hch,rw',_,hH,fun hx=>by cases hx⟩)
   exact StepH.trans (w2:=w') hf h0 (by rw [ku hf]; exact h2)
 | setObj r o k ih =>
  intro H Q w es0 h hf;obtain ⟨o0,hH,hc,hch,h⟩:=h;have hS:StepH H w (wput w r o) #[⟨.obj r,true,o.isChan⟩]:=vJ hf hH (fun ev he=>by
    simp only [List.mem_toArray,lS] at he;subst he;exact ⟨hch,true,_,hH,fun _=>rfl⟩)
  have hn:=vv (o':=o) hf hH;have hf1:=hf.next hS;rw [hn] at hf1;obtain ⟨x,w',es,h1,h2,h3⟩:=ih _ Q _ (es0.push ⟨.obj r,true,o.isChan⟩) h hf1;refine ⟨x,w',#[⟨.obj r,true,o.isChan⟩]++es,?_,StepH.trans hf hS (by rw [hn]; exact h2),?_⟩
  ·have hrun:(Sem.setObj r o k).runT P w es0=k.runT P (wput w r o) (es0.push ⟨.obj r,true,o.isChan⟩):=by
    simp only [Sem.runT,hf r _ _ hH];cases o0 <;> first | (simp [isCells] at hc; done) | rfl
   rw [hrun,h1];simp
  ·rw [<- wD hS.size h2.size hf,hn]; exact h3
 | choose q k ih =>
  intro H Q w es0 h hf;by_cases hq:q.forced=true
  ·obtain ⟨x,w',es,h1,h2,h3⟩:=ih 0 H Q w es0 (h 0 (fun _=>rfl) (fun e=>by rw [hq] at e; cases e)) hf;exact ⟨x,w',es,by simp only [Sem.runT,hq,if_true]; exact h1,h2,h3⟩
  ·have hq':q.forced=false:=by simpa using hq
   obtain ⟨x,w',es,h1,h2,h3⟩:=ih (q.cut (w.tape w.drawn q)) H Q { w with drawn:=w.drawn+1 } es0 (h _ (fun e=>absurd e hq) (fun _=>⟨_,rfl⟩)) hf;exact ⟨x,w',es,by simp only [Sem.runT,hq',mU,if_false]; exact h1,⟨h2.size,h2.kept,h2.evs,h2.os,h2.out,h2.tape⟩,h3⟩
 | sys c k ih=>intro H Q w es0 h; exact h.elim
 | program k ih =>
  intro H Q w es0 h hf;obtain ⟨x,w',es,h1,h2,h3⟩:=ih P H Q w es0 h hf;exact ⟨x,w',es,h1,h2,h3⟩
 | mark m k ih =>
  intro H Q w es0 h hf;obtain ⟨hm,h⟩:=h;obtain ⟨x,w',es,h1,h2,h3⟩:=ih H Q w (es0.push ⟨.mark m,false,true⟩) h hf;refine ⟨x,w',#[⟨.mark m,false,true⟩]++es,?_,?_,h3⟩
  ·simp only [Sem.runT,h1];simp
  ·have h0:StepH H w w #[⟨.mark m,false,true⟩]:=kx hf (fun e he=>by
    simp only [List.mem_toArray,lS] at he;subst he;exact hm)
   exact StepH.trans (w2:=w') hf h0 (by rw [ku hf]; exact h2)
 | halt h=>intro H Q w es0 h; exact h.elim
theorem zav {P:Program} {α:Type} (s:Sem α):∀ (H:Hp) (Q Q':α->Hp->Prop),(∀ a H,Q a H->Q' a H)->wpS P s H Q->wpS P s H Q':=by
 induction s with
 | pure a=>exact fun H Q Q' hq h=>hq _ _ h
 | load m a k ih=>exact fun H Q Q' hq ⟨rw',c,e,fz,v,h1,h2,h3,h⟩=>⟨rw',c,e,fz,v,h1,h2,h3,ih v H Q Q' hq h⟩
 | store m a v k ih=>exact fun H Q Q' hq ⟨hv,c,e,lo,hi,h1,h2,h3,h4,h⟩=>⟨hv,c,e,lo,hi,h1,h2,h3,h4,ih _ Q Q' hq h⟩
 | new o k ih=>exact fun H Q Q' hq h r hr=>ih r _ Q Q' hq (h r hr)
 | shape r k ih=>exact fun H Q Q' hq ⟨rw',o,h1,h⟩=>⟨rw',o,h1,ih _ H Q Q' hq h⟩
 | freeze a n k ih=>exact fun H Q Q' hq ⟨hn,c,e,fz,h1,h⟩=>⟨hn,c,e,fz,h1,ih _ Q Q' hq h⟩
 | frozen a k ih=>exact fun H Q Q' hq ⟨rw',o,h1,h⟩=>⟨rw',o,h1,ih _ H Q Q' hq h⟩
 | getObj r k ih=>exact fun H Q Q' hq ⟨rw',o,h1,h2,h3,h⟩=>⟨rw',o,h1,h2,h3,ih o H Q Q' hq h⟩
 | setObj r o k ih=>exact fun H Q Q' hq ⟨o0,h1,h2,h3,h⟩=>⟨o0,h1,h2,h3,ih _ Q Q' hq h⟩
 | choose q k ih=>exact fun H Q Q' hq h n h1 h2=>ih n H Q Q' hq (h n h1 h2)
 | sys c k ih=>exact fun _ _ _ _ h=>h.elim
 | program k ih=>exact fun H Q Q' hq h=>ih P H Q Q' hq h
 | mark m k ih=>exact fun H Q Q' hq ⟨hm,h⟩=>⟨hm,ih H Q Q' hq h⟩
 | halt h=>exact fun _ _ _ _ h=>h.elim
theorem yR {P:Program} {α β:Type} (s:Sem α) (f:α->Sem β):∀ (H:Hp) (Q:β->Hp->Prop),wpS P s H (fun a H'=>wpS P (f a) H' Q)->wpS P (s >>= f) H Q:=by
 show ∀ (H:Hp) (Q:β->Hp->Prop),wpS P s H (fun a H'=>wpS P (f a) H' Q)->wpS P (s.bind f) H Q
 induction s with
 | pure a=>exact fun H Q h=>h
 | load m a k ih=>exact fun H Q ⟨rw',c,e,fz,v,h1,h2,h3,h⟩=>⟨rw',c,e,fz,v,h1,h2,h3,ih v H Q h⟩
 | store m a v k ih=>exact fun H Q ⟨hv,c,e,lo,hi,h1,h2,h3,h4,h⟩=>⟨hv,c,e,lo,hi,h1,h2,h3,h4,ih _ Q h⟩
 | new o k ih=>exact fun H Q h r hr=>ih r _ Q (h r hr)
 | shape r k ih=>exact fun H Q ⟨rw',o,h1,h⟩=>⟨rw',o,h1,ih _ H Q h⟩
 | freeze a n k ih=>exact fun H Q ⟨hn,c,e,fz,h1,h⟩=>⟨hn,c,e,fz,h1,ih _ Q h⟩
 | frozen a k ih=>exact fun H Q ⟨rw',o,h1,h⟩=>⟨rw',o,h1,ih _ H Q h⟩
 | getObj r k ih=>exact fun H Q ⟨rw',o,h1,h2,h3,h⟩=>⟨rw',o,h1,h2,h3,ih o H Q h⟩
 | setObj r o k ih=>exact fun H Q ⟨o0,h1,h2,h3,h⟩=>⟨o0,h1,h2,h3,ih _ Q h⟩
 | choose q k ih=>exact fun H Q h n h1 h2=>ih n H Q (h n h1 h2)
 | sys c k ih=>exact fun _ _ h=>h.elim
 | program k ih=>exact fun H Q h=>ih P H Q h
 | mark m k ih=>exact fun H Q ⟨hm,h⟩=>⟨hm,ih H Q h⟩
 | halt h=>exact fun _ _ h=>h.elim
section
variable {P:Program} {main:Bool} {T:Goroutine->Hp->Prop} {H:Hp} {b:Frame} {a:Act} {k:List Item} {cs:List Frame} {ops:Array Oper} {i:Nat} {rest:List Nat} {o:Oper}
def uponS (P:Program) (T:Goroutine->Hp->Prop) (b:Frame) (a:Act) (k:List Item) (cs:List Frame) (ops:Array Oper) (i:Nat) (rest:List Nat) (o:Oper):Next->Hp->Prop
 | .value v,H=>T (G (b.at (a.put o.dst v) (.inRegion ops rest::k)) cs) H
 | .skip,H=>T (G (b.at (a.put o.dst undef) (.inRegion ops rest::k)) cs) H
 | .enter f args,H=>T (G (Frame.enter P f args .normal) (b.at a (.inRegion ops (i::rest)::k)::cs)) H
 | _,_=>False
end
end Go.Vel
end
