/- Texts for the statements of chapter 9: what all of them need, part 3. It holds of every program, tape and world that the statements name, as each theorem says. -/
import Derived.Conc.CompanyMem
import Derived.Conc.AppendWalk
import Derived.ProofKit
import Derived.Laws.Slices
import Derived.Laws.Build
import Derived.Laws.Small
import Derived.Test.YtpdioiojfgknbaaDoorW1
section
set_option linter.all false
set_option maxRecDepth 20000
set_option maxHeartbeats 60000000
namespace Go.Vel
open Go Go.Conc
open Go.ConcN (sumTo upd upd_ne upd_same)

/-- All messages are received: goroutine 0 stands at its stop, beside leavers. -/
def Gathered (P : Program) (cg cn : Nat) (Stop : Goroutine → Hp → Prop) (w₀ : World) (m : Machine) (t : Trace) : Prop :=
 ∃ (N : Nat) (gs' : Array Goroutine) (w' : World) (sl' : Option (Nat × Nat)) (t' : Trace) (q' : Nat → Nat) (a' : Goroutine) (H' : Hp),
  runNT P N m t = (.next (crowd gs' w' sl'), t') ∧ gs'[0]? = some a' ∧ a'.status = .running ∧ Stop a' H' ∧ Fits H' w' ∧ Leavers P t' gs' q' ∧ Past NoShun w'.heap.size t' ∧ Chans cg cn w' ∧ w'.tape = w₀.tape ∧ w'.os = w₀.os ∧ w'.output = w₀.output

section
variable {P : Program} {cg cn : Nat} {msg : Nat → Nat × Value} {m0 : Nat} {Stop : Goroutine → Hp → Prop}

theorem Gathered.step {w₀ : World} {m m' : Machine} {t u : Trace} (h : stepT P m = (.next m', u)) (h' : Gathered P cg cn Stop w₀ m' (t ++ u)) : Gathered P cg cn Stop w₀ m t := by
 obtain ⟨N, gs', w', sl', t', q', a', H', hr, r⟩ := h'
 exact ⟨N + 1, gs', w', sl', t', q', a', H', by simp only [runNT, h]; exact hr, r⟩

theorem Gathered.world {w₀ w₁ : World} {m : Machine} {t : Trace} (h : Gathered P cg cn Stop w₁ m t) (h1 : w₁.tape = w₀.tape) (h2 : w₁.os = w₀.os) (h3 : w₁.output = w₀.output) : Gathered P cg cn Stop w₀ m t := by
 obtain ⟨N, gs', w', sl', t', q', a', H', hr, r0, r1, r2, r3, r4, r5, r6, r7, r8, r9⟩ := h
 exact ⟨N, gs', w', sl', t', q', a', H', hr, r0, r1, r2, r3, r4, r5, r6, r7.trans h1, r8.trans h2, r9.trans h3⟩

variable {gs : Array Goroutine} {w : World} {t : Trace} {j : Nat} {R : Nat → Bool} {H : Hp} {f : Nat → WS}

theorem GInv.accs (h : GInv P cg cn msg m0 gs w t j R H f) (i : Nat) (hi : 0 < i) : Acc (WR P) (f i) := by
 by_cases hlt : i < gs.size
 ·have hws := h.ws i _ hi (Array.getElem?_eq_getElem hlt)
  cases e : f i with
  | walk g K =>
   rw [e] at hws
   exact acc_walk hws.2.2.2.1
  | park g K z n => exact acc_park P _ _ _ _
  | left n => exact acc_left P n
 ·rw [h.out i (by omega)]
  exact acc_left P 0

theorem GInv.awake (h : GInv P cg cn msg m0 gs w t j R H f) {a : Goroutine} (h0 : gs[0]? = some a) (ha : ∀ s, a.status ≠ .sleeping s) : ∀ g ∈ gs, Go.Conc.awake g := fun g hg => by
 obtain ⟨i, hi, rfl⟩ := Array.mem_iff_getElem.1 hg
 rcases Nat.eq_zero_or_pos i with rfl | hpos
 ·have e : gs[0] = a := by simpa [Array.getElem?_eq_getElem hi] using h0
  rw [e]
  exact ha
 ·have hws := h.ws i _ hpos (Array.getElem?_eq_getElem hi)
  intro s hs
  cases e : f i with
  | walk g K =>
   rw [e] at hws
   obtain ⟨e', _, hr, _⟩ := hws
   rw [e', hr] at hs; cases hs
  | park g K z n =>
   rw [e] at hws
   rw [hws.1] at hs; cases hs
  | left n =>
   rw [e] at hws
   rcases QuitsD.status hws with e' | e' <;> rw [e'] at hs <;> cases hs

/-- Induction over the others, for whoever is at goroutine 0. -/
theorem over_others (C : Array Goroutine → World → Option (Nat × Nat) → Trace → (Nat → WS) → Prop) (hC : ∀ gs w sl t f, C gs w sl t f → GInv P cg cn msg m0 gs w t j R H f)
  (goal : Array Goroutine → World → Option (Nat × Nat) → Trace → Prop)
  (hstep : ∀ gs w sl t f, C gs w sl t f → goal gs w sl t ∨ ∃ gs' w' sl' u i y, 0 < i ∧ i < gs.size ∧ WR P y (f i) ∧ C gs' w' sl' (t ++ u) (upd f i y) ∧ (goal gs' w' sl' (t ++ u) → goal gs w sl t)) :
  ∀ gs w sl t f, C gs w sl t f → goal gs w sl t := by
 intro gs w sl t f hc
 have hsz : gs.size = m0 + j := (hC _ _ _ _ _ hc).size
 have key : ∀ f : Nat → WS, (∀ i, i < m0 + j → Acc (WR P) ((fun k => if k = 0 then WS.left 0 else f k) i)) → ∀ gs w sl t, gs.size = m0 + j → C gs w sl t f → goal gs w sl t := by
  intro f hf
  have := multi_ind (WR P) (m0 + j) (fun F => ∀ f : Nat → WS, (∀ k, 0 < k → F k = f k) → ∀ gs w sl t, gs.size = m0 + j → C gs w sl t f → goal gs w sl t) (fun F hF f hFf gs w sl t hs hc => ?_) (fun k => if k = 0 then WS.left 0 else f k) hf f (fun k hk => if_neg (by omega))
  ·exact this
  rcases hstep gs w sl t f hc with hg | ⟨gs', w', sl', u, i, y, hi, hlt, hy, hc', hback⟩
  ·exact hg
  ·refine hback (hF i (by omega) y (by rw [hFf i hi]; exact hy) (upd f i y) (fun k hk => ?_) gs' w' sl' (t ++ u) (hC _ _ _ _ _ hc').size hc')
   by_cases hki : k = i
   ·subst hki; rw [upd_same, upd_same]
   ·rw [upd_ne _ _ hki, upd_ne _ _ hki]; exact hFf k hk
 refine key f (fun i _ => ?_) gs w sl t hsz hc
 by_cases hi : i = 0
 ·subst hi; exact acc_left P 0
 ·simp only [if_neg hi]
  exact (hC _ _ _ _ _ hc).accs i (by omega)

theorem gathered_of_stop (h : GInv P cg cn msg m0 gs w t j R H f) {a : Goroutine} (h0 : gs[0]? = some a) (ha : a.status = .running) (hR : ∀ i, i < j → R i = true) (hS : Stop a H) (sl : Option (Nat × Nat)) : Gathered P cg cn Stop w (crowd gs w sl) t := by
 have hno : ∀ i, ¬ (0 < i ∧ (f i).act) := by
  rintro i ⟨hi, hact⟩
  by_cases hlt : i < gs.size
  ·rcases Nat.lt_or_ge i m0 with hm | hm
   ·exact h.young i hi hm hact
   ·have hsz := h.size
    have := h.old (i - m0) (by omega)
    rw [show m0 + (i - m0) = i by omega] at this
    exact this.1 (hR _ (by omega)) hact
  ·rw [h.out i (by omega)] at hact
   exact hact
 refine ⟨0, gs, w, sl, t, fun i => match f i with | .left n => n | _ => 0, a, H, rfl, h0, ha, hS, h.fits, ⟨fun i g hi hg => ?_, h.above⟩, past_of_tinv h.tr hno, h.ch, rfl, rfl, rfl⟩
 have hws := h.ws i g hi hg
 cases e : f i with
 | left n => rw [e] at hws; exact hws
 | walk g K => exact absurd ⟨hi, by rw [e]; trivial⟩ (hno i)
 | park g K z n => exact absurd ⟨hi, by rw [e]; trivial⟩ (hno i)

/-- Goroutine 0 lists something, and nothing else is turned. -/
theorem ginv_still0 (h : GInv P cg cn msg m0 gs w t j R H f) {x : Goroutine} (hx : gs[0]? = some x) {y : Goroutine} {es : Array Event} (hes : ∀ e ∈ es, EvH H e) {fn : FuncId} {pos : String} :
  GInv P cg cn msg m0 (gs.setIfInBounds 0 y) w (t ++ MemOp.ofEvents 0 fn pos es) j R H f := by
 have hlt : 0 < gs.size := (Array.getElem?_eq_some_iff.1 hx).1
 refine ⟨h.pos, by simpa using h.size, h.fits, fun k z hk hz => ?_, fun k hk => h.out k (by simpa using hk), fun k hk => ?_, tinv_still h.tr (i := 0) (.inl rfl) h.fitsOf (by rw [hpOf_zero]; exact hes), h.ch, h.noch, h.old, h.young, h.new⟩
 ·rw [Array.getElem?_setIfInBounds_ne (by omega)] at hz
  refine wsOk_keep (h.ws k z hk hz) (Deaf_other t (by omega) _ ofEvents_g) fun hka => ?_
  have := h.fitsOf k (.inr ⟨hk, hka⟩)
  rwa [hpOf_pos H f hk] at this
 ·rw [Deaf_other t (g' := 0) (by simp at hk; omega) _ ofEvents_g]
  exact h.above k (by simpa using hk)

theorem parked_inj {a b : Goroutine} {cs cs' : Array CommCase} {sh sh' : CommShape} (h : parked a cs sh = parked b cs' sh') : cs = cs' ∧ sh = sh' ∧ a.frame = b.frame ∧ a.callers = b.callers ∧ a.dying = b.dying := by
 obtain ⟨fr, cl, st, dy, of⟩ := a
 obtain ⟨fr', cl', st', dy', of'⟩ := b
 simp only [parked, Goroutine.mk.injEq, Option.some.injEq, Prod.mk.injEq, true_and] at h
 exact ⟨h.2.2.2.1, h.2.2.2.2, h.1, h.2.1, h.2.2.1⟩
theorem served_eq {a b : Goroutine} (h1 : a.frame = b.frame) (h2 : a.callers = b.callers) (h3 : a.dying = b.dying) (v : Value) : Go.Conc.served a v = Go.Conc.served b v := by
 obtain ⟨fr, cl, st, dy, of⟩ := a
 obtain ⟨fr', cl', st', dy', of'⟩ := b
 simp only at h1 h2 h3
 subst h1 h2 h3
 rfl

/-- Who offers a send is parked at it. -/
theorem senders (h : GInv P cg cn msg m0 gs w t j R H f) {ch k q : Nat} (hm : (k, q) ∈ partners (gs.setIfInBounds 0 ph) ch true) : q = 0 ∧ 0 < k ∧ ∃ g K z n, f k = .park g K z n ∧ (msg (k - m0)).1 = ch ∧ m0 ≤ k ∧ QuitsD P n 0 (Go.Conc.served g undef) ∧ gs[k]? = some (parked g #[scase ch (msg (k - m0)).2 z] .send) := by
 obtain ⟨x, hx, hq⟩ := mem_partners.1 hm
 rcases getElem?_stand gs 0 k x hx with ⟨_, rfl⟩ | ⟨hk, hx⟩
 ·simp [offersAt_ph] at hq
 have hpos : 0 < k := by omega
 have hws := h.ws k x hpos hx
 cases e : f k with
 | walk g K =>
  rw [e] at hws
  obtain ⟨rfl, _, hr, _⟩ := hws
  rw [offersAt_of_not_blocked (by rw [hr]; simp)] at hq; cases hq
 | left n =>
  rw [e] at hws
  rw [offersAt_of_not_blocked (by rcases QuitsD.status hws with e' | e' <;> rw [e'] <;> simp)] at hq; cases hq
 | park g K z n =>
  rw [e] at hws
  obtain ⟨rfl, hm0, hqd, _⟩ := hws
  rw [offersAt_parked_send] at hq
  split at hq
  ·rename_i hc
   simp only [List.mem_singleton] at hq
   subst hc
   exact ⟨hq, hpos, g, K, z, n, rfl, rfl, hm0, hqd, hx⟩
  ·cases hq

theorem GInv.worker (h : GInv P cg cn msg m0 gs w t j R H f) {i : Nat} (hm0 : m0 ≤ i) (hlt : i < gs.size) (hact : (f i).act) : i - m0 < j ∧ R (i - m0) = false := by
 have hsz := h.size
 have hj : i - m0 < j := by omega
 refine ⟨hj, ?_⟩
 have := h.old (i - m0) hj
 rw [show m0 + (i - m0) = i by omega] at this
 cases e : R (i - m0) with
 | false => rfl
 | true => exact absurd hact (this.1 e)

/-- ████ n WORKERS, EACH OF WHICH SENDS ONCE ON ONE OF TWO CHANNELS; GOROUTINE 0 GATHERS. ████ -/
theorem gather (hmsg : ∀ i, (msg i).1 = cg ∨ (msg i).1 = cn) (hne : cg ≠ cn) {g : Goroutine} (hM : MainT P cg cn msg Stop j R g H) :
  ∀ (gs : Array Goroutine) (w : World) (sl : Option (Nat × Nat)) (t : Trace) (f : Nat → WS), GInv P cg cn msg m0 gs w t j R H f → gs[0]? = some g → Gathered P cg cn Stop w (crowd gs w sl) t := by
 induction hM with
 | stop hs hR hS => exact fun gs w sl t f h h0 => gathered_of_stop h h0 hs hR hS sl
 | @step j R g H hs hgo hT ih =>
  intro gs w sl t f h h0
  refine over_others (C := fun gs w sl t f => GInv P cg cn msg m0 gs w t j R H f ∧ gs[0]? = some g) (fun _ _ _ _ _ x => x.1) (fun gs w sl t => Gathered P cg cn Stop w (crowd gs w sl) t) (fun gs w sl t f hc => ?_) gs w sl t f ⟨h, h0⟩
  obtain ⟨h, h0⟩ := hc
  obtain ⟨i, x, d, sl', hi, hx, hst⟩ := crowd_pick (P := P) (w := w) (sl := sl) (h.awake h0 (by rw [hs]; simp)) ⟨0, g, h0, hs⟩
  rcases Nat.eq_zero_or_pos i with rfl | hpos
  ·left
   obtain rfl : x = g := by rw [h0] at hi; exact (Option.some.inj hi).symm
   have h' := ginv_at h d
   obtain ⟨g', w', es, hgo', hsH, hrun⟩ := hgo (w.at d) h'.fits
   have hG := ginv_main hmsg h' (x' := g') h0 hsH
   have hlt : 0 < gs.size := (Array.getElem?_eq_some_iff.1 h0).1
   refine Gathered.step (hst.trans (runT_crowd_go (i := 0) h0 hgo')) ?_
   exact (ih (w.at d) g' w' es h'.fits hgo' _ w' sl' _ f hG (by simp [hlt])).world hsH.tape hsH.os hsH.out
  ·right
   obtain ⟨gs', w', u, y, hr, hy, hG, h0', e1, e2, e3⟩ := other_moves (sl := sl') hmsg (ginv_at h d) h0 hs hpos hi hx
   refine ⟨gs', w', sl', u, i, y, hpos, (Array.getElem?_eq_some_iff.1 hi).1, hy, ⟨hG, h0'⟩, fun hg => ?_⟩
   exact Gathered.step (hst.trans hr) (hg.world e1 e2 e3)
 | @spawn j R g H g' ch H₂ Hc hs hgo hrun' hrunc hR h2 h3 h4 hTW hT ih =>
  intro gs w sl t f h h0
  refine over_others (C := fun gs w sl t f => GInv P cg cn msg m0 gs w t j R H f ∧ gs[0]? = some g) (fun _ _ _ _ _ x => x.1) (fun gs w sl t => Gathered P cg cn Stop w (crowd gs w sl) t) (fun gs w sl t f hc => ?_) gs w sl t f ⟨h, h0⟩
  obtain ⟨h, h0⟩ := hc
  obtain ⟨i, x, d, sl', hi, hx, hst⟩ := crowd_pick (P := P) (w := w) (sl := sl) (h.awake h0 (by rw [hs]; simp)) ⟨0, g, h0, hs⟩
  rcases Nat.eq_zero_or_pos i with rfl | hpos
  ·left
   obtain rfl : x = g := by rw [h0] at hi; exact (Option.some.inj hi).symm
   have h' := ginv_at h d
   obtain ⟨es, hgo', hes⟩ := hgo (w.at d) h'.fits
   have hG := ginv_spawn (g' := g') (fn := x.frame.fn) (pos := x.frame.place) (fn' := ch.frame.fn) (pos' := x.frame.place) h' h0 hes hrunc hR h2 h3 h4 hTW
   have hlt : 0 < gs.size := (Array.getElem?_eq_some_iff.1 h0).1
   refine Gathered.step (hst.trans (runT_crowd_spawn (i := 0) h0 hgo')) ?_
   refine (ih _ (w.at d) sl' _ _ hG ?_).world rfl rfl rfl
   rw [Array.getElem?_push]
   rw [if_neg (by simp; omega)]
   simp [hlt]
  ·right
   obtain ⟨gs', w', u, y, hr, hy, hG, h0', e1, e2, e3⟩ := other_moves (sl := sl') hmsg (ginv_at h d) h0 hs hpos hi hx
   refine ⟨gs', w', sl', u, i, y, hpos, (Array.getElem?_eq_some_iff.1 hi).1, hy, ⟨hG, h0'⟩, fun hg => ?_⟩
   exact Gathered.step (hst.trans hr) (hg.world e1 e2 e3)
 | @recv j R g H g₂ z1 z2 hs hsome hgo hT ih =>
  -- goroutine 0 waits
  have hpark : ∀ (gs : Array Goroutine) (w : World) (sl : Option (Nat × Nat)) (t : Trace) (f : Nat → WS), (GInv P cg cn msg m0 gs w t j R H f ∧ gs[0]? = some (atSel cg cn g₂ z1 z2) ∧ ∀ i, 0 < i → ∀ g K z n, f i ≠ .park g K z n) → Gathered P cg cn Stop w (crowd gs w sl) t := by
   refine over_others (C := fun gs w sl t f => GInv P cg cn msg m0 gs w t j R H f ∧ gs[0]? = some (atSel cg cn g₂ z1 z2) ∧ ∀ i, 0 < i → ∀ g K z n, f i ≠ .park g K z n) (fun _ _ _ _ _ x => x.1) (fun gs w sl t => Gathered P cg cn Stop w (crowd gs w sl) t) (fun gs w sl t f hc => ?_)
   obtain ⟨h, h0, hnp⟩ := hc
   obtain ⟨k, hk, hRk⟩ := hsome
   have hka : (f (m0 + k)).act := by
    apply Classical.byContradiction
    intro hx
    rw [(h.old k hk).2 hx] at hRk; cases hRk
   have hklt : m0 + k < gs.size := by have := h.size; omega
   have hkrun : gs[m0 + k].status = .running := by
    have hws := h.ws (m0 + k) _ (by have := h.pos; omega) (Array.getElem?_eq_getElem hklt)
    cases e : f (m0 + k) with
    | walk g K => rw [e] at hws; rw [hws.1]; exact hws.2.2.1
    | park g K z n => exact absurd e (hnp _ (by have := h.pos; omega) _ _ _ _)
    | left n => rw [e] at hka; exact hka.elim
   obtain ⟨i, x, d, sl', hi, hx, hst⟩ := crowd_pick (P := P) (w := w) (sl := sl) (h.awake h0 (fun s hs => by cases hs)) ⟨m0 + k, _, Array.getElem?_eq_getElem hklt, hkrun⟩
   rcases Nat.eq_zero_or_pos i with rfl | hpos
   ·rw [h0] at hi
    cases hi
    cases hx
   ·rcases other_moves_sel (sl := sl') hmsg hne (ginv_at h d) h0 hnp hpos hi hx with ⟨gs', w', u, y, hr, hy, hyn, hG, h0', e1, e2, e3⟩ | ⟨gs', w', u, n, hr, hm0, hj, hR, hG, h0', e1, e2, e3⟩
    ·right
     refine ⟨gs', w', sl', u, i, y, hpos, (Array.getElem?_eq_some_iff.1 hi).1, hy, ⟨hG, h0', fun l hl0 g K z n => ?_⟩, fun hg => Gathered.step (hst.trans hr) (hg.world e1 e2 e3)⟩
     by_cases hl : l = i
     ·subst hl; rw [upd_same]; exact hyn g K z n
     ·rw [upd_ne _ _ hl]; exact hnp l hl0 g K z n
    ·left
     exact Gathered.step (hst.trans hr) ((ih (i - m0) hj hR _ rfl gs' w' sl' _ _ hG h0').world e1 e2 e3)
  intro gs w sl t f h h0
  refine over_others (C := fun gs w sl t f => GInv P cg cn msg m0 gs w t j R H f ∧ gs[0]? = some g) (fun _ _ _ _ _ x => x.1) (fun gs w sl t => Gathered P cg cn Stop w (crowd gs w sl) t) (fun gs w sl t f hc => ?_) gs w sl t f ⟨h, h0⟩
  obtain ⟨h, h0⟩ := hc
  obtain ⟨i, x, d, sl', hi, hx, hst⟩ := crowd_pick (P := P) (w := w) (sl := sl) (h.awake h0 (by rw [hs]; simp)) ⟨0, g, h0, hs⟩
  rcases Nat.eq_zero_or_pos i with rfl | hpos
  ·left
   obtain rfl : x = g := by rw [h0] at hi; exact (Option.some.inj hi).symm
   have h' := ginv_at h d
   have hlt : 0 < gs.size := (Array.getElem?_eq_some_iff.1 h0).1
   obtain ⟨es, hgo', hes⟩ := hgo (w.at d) h'.fits
   obtain ⟨k1, t1, k2, t2, hc1, hc2⟩ := h'.ch
   by_cases hp : ∃ k g' K z n, 0 < k ∧ f k = .park g' K z n
   ·obtain ⟨k, g', K, z, n, hk0, hk⟩ := hp
    have hkact : (f k).act := by rw [hk]; trivial
    have hklt : k < gs.size := by
     apply Classical.byContradiction
     intro hn
     rw [h.out k (by omega)] at hk; cases hk
    have hkw := h.ws k _ hk0 (Array.getElem?_eq_getElem hklt)
    rw [hk] at hkw
    obtain ⟨hkx, hkm, _, _⟩ := hkw
    obtain ⟨q, ch, zc, s, r, tm, jj, gj, vj, zj, shj, dd, hq, hch, hjj, hgj, hrun⟩ := sel_meets_some (P := P) (sl := sl') (i := 0) (w₁ := w.at d) h0 hgo' (fun q cc hcc => by
     have hq2 : q = 0 ∨ q = 1 := by
      have := (Array.getElem?_eq_some_iff.1 hcc).1
      simp [sel2] at this
      omega
     rcases hq2 with rfl | rfl
     ·simp [sel2] at hcc; subst hcc; exact ⟨_, _, _, _, _, rfl, hc1⟩
     ·simp [sel2] at hcc; subst hcc; exact ⟨_, _, _, _, _, rfl, hc2⟩)
     (fun ch jj q hm => by
      obtain ⟨e, hpos, g', K', z', n', _, _, _, _, hx⟩ := senders h' hm
      exact ⟨e, by omega, _, _, _, _, hx⟩)
     (by
      obtain ⟨zc, hzc⟩ := sel_case hne (hmsg (k - m0)) z1 z2
      refine ⟨_, _, zc, hzc, fun e => ?_⟩
      have : (k, 0) ∈ partners (gs.setIfInBounds 0 ph) (msg (k - m0)).1 true := mem_partners.2 ⟨gs[k], by rw [Array.getElem?_setIfInBounds_ne (by omega)]; exact Array.getElem?_eq_getElem hklt, by rw [hkx, offersAt_parked_send]; simp⟩
      rw [e] at this; cases this)
    have hm : (jj, 0) ∈ partners (gs.setIfInBounds 0 ph) ch true := mem_partners.2 ⟨_, by rw [Array.getElem?_setIfInBounds_ne (by omega)]; exact hgj, by rw [offersAt_parked_send]; simp⟩
    obtain ⟨_, hjpos, g3, K3, z3, n3, hf3, hch3, hm03, hq3, hx3⟩ := senders h' hm
    rw [hgj] at hx3
    obtain ⟨hcs, hsh, e1, e2, e3⟩ := parked_inj (Option.some.inj hx3)
    have hvj : vj = (msg (jj - m0)).2 := by
     simp [scase] at hcs
     exact hcs.1
    subst hsh
    subst hvj
    have hact : (f jj).act := by rw [hf3]; trivial
    have hw := h'.worker hm03 (Array.getElem?_eq_some_iff.1 hgj).1 hact
    have hchc : ch = cg ∨ ch = cn := by rw [← hch3]; exact hmsg _
    have hsr : s = r := by
     rcases hchc with rfl | rfl
     ·rw [hc1] at hch; simp at hch; omega
     ·rw [hc2] at hch; simp at hch; omega
    subst hsr
    have hqq : q = caseNo cg ch := by
     have hq2 : q = 0 ∨ q = 1 := by
      have := (Array.getElem?_eq_some_iff.1 hq).1
      simp [sel2] at this
      omega
     rcases hq2 with rfl | rfl
     ·simp [sel2, rcase] at hq
      simp [caseNo, hq.1]
     ·simp [sel2, rcase] at hq
      simp [caseNo, ← hq.1, Ne.symm hne]
    have hG := ginv_comm (s := 0) (d := dd) (n := n3) (gs' := (gs.setIfInBounds jj (gj.finishComm P #[scase ch (msg (jj - m0)).2 zj] .send 0 undef false)).setIfInBounds 0 (g₂.finishComm P (sel2 cg cn z1 z2) .select q (msg (jj - m0)).2 true)) h' hne hjpos hm03 hact (.inr rfl) (by rw [hpOf_zero]; exact hes) (by simp) (y := Go.Conc.served gj undef)
     (by rw [Array.getElem?_setIfInBounds_ne (by omega), Array.getElem?_setIfInBounds_self_of_lt (Array.getElem?_eq_some_iff.1 hgj).1]; rfl) (by rw [served_eq e1 e2 e3]; exact hq3)
     (fun k hk hki => by rw [Array.getElem?_setIfInBounds_ne (by omega), Array.getElem?_setIfInBounds_ne (Ne.symm hki)]) hchc hch (fn := x.frame.fn) (pos := x.frame.place)
     (x1 := { g := jj, fn := gj.frame.fn, pos := gj.frame.place, act := .send ch s }) (x2 := { g := 0, fn := g₂.frame.fn, pos := g₂.frame.place, act := .recv ch s 0 }) (x3 := { g := jj, fn := gj.frame.fn, pos := gj.frame.place, act := .sendDone ch s }) (x4 := { g := 0, fn := g₂.frame.fn, pos := g₂.frame.place, act := .recvDone ch s }) ⟨rfl, rfl⟩ rfl rfl ⟨rfl, rfl⟩
    refine Gathered.step (hst.trans hrun) ?_
    exact (ih (jj - m0) hw.1 hw.2 q (by rw [hqq, ← hch3]; rfl) _ _ sl' _ _ hG (by simp [hlt])).world rfl rfl rfl
   ·have hnp : ∀ i, 0 < i → ∀ g K z n, f i ≠ .park g K z n := fun i hi g K z n e => hp ⟨i, g, K, z, n, hi, e⟩
    have hnil : ∀ ch, partners (gs.setIfInBounds 0 ph) ch true = [] := fun ch => by
     apply List.eq_nil_iff_forall_not_mem.2
     rintro ⟨k, q⟩ hm
     obtain ⟨_, hpos, g', K', z', n', e, _⟩ := senders h' hm
     exact hnp _ hpos _ _ _ _ e
    have hno : ∀ cc ∈ sel2 cg cn z1 z2, NoWays (w.at d) (gs.setIfInBounds 0 ph) cc := fun cc hcc => by
     simp only [sel2, List.mem_toArray, List.mem_cons, List.not_mem_nil, or_false] at hcc
     rcases hcc with rfl | rfl
     ·exact ⟨made_recv _ hc1, by simp [ways, rcase, hc1, hnil]⟩
     ·exact ⟨made_recv _ hc2, by simp [ways, rcase, hc2, hnil]⟩
    refine Gathered.step (hst.trans (crowd_waits (i := 0) h0 hgo' hno)) ?_
    exact (hpark _ (w.at d) sl' _ f ⟨ginv_still0 h' h0 hes, by simp [hlt, atSel], hnp⟩).world rfl rfl rfl
  ·right
   obtain ⟨gs', w', u, y, hr, hy, hG, h0', e1, e2, e3⟩ := other_moves (sl := sl') hmsg (ginv_at h d) h0 hs hpos hi hx
   refine ⟨gs', w', sl', u, i, y, hpos, (Array.getElem?_eq_some_iff.1 hi).1, hy, ⟨hG, h0'⟩, fun hg => ?_⟩
   exact Gathered.step (hst.trans hr) (hg.world e1 e2 e3)
end
end Go.Vel
end
section
set_option linter.all false
set_option maxRecDepth 20000
set_option maxHeartbeats 60000000
namespace Go.Vel
open Go Go.Conc

/-! ### a walk in company, at the model's own grain -/
/-- What is kept backwards over one's own steps. -/
def Shut (P : Program) (main : Bool) (T : Goroutine → Hp → Prop) : Prop :=
 ∀ g H, g.status = .running → (∀ w, Fits H w → ∃ g' w' es, stepG P main g w = .go g' w' es ∧ StepH H w w' es ∧ g'.status = .running ∧ T g' (H.next w w')) → T g H

theorem shut_treeW (P : Program) (S : Goroutine → Hp → Prop) : Shut P false (TreeW P S) := fun g H hr h => by
 refine .step hr (fun w hw => ?_) fun w g' w' es hw he => ?_
 ·obtain ⟨g', w', es, h1, h2, h3, _⟩ := h w hw
  exact ⟨g', w', es, h1, h2, h3⟩
 ·obtain ⟨g'', w'', es', h1, _, _, h4⟩ := h w hw
  rw [he] at h1
  cases h1
  exact h4
theorem shut_mainT (P : Program) (cg cn : Nat) (msg : Nat → Nat × Value) (Stop : Goroutine → Hp → Prop) (j : Nat) (R : Nat → Bool) : Shut P true (MainT P cg cn msg Stop j R) := fun g H hr h => by
 refine .step hr (fun w hw => ?_) fun w g' w' es hw he => ?_
 ·obtain ⟨g', w', es, h1, h2, h3, _⟩ := h w hw
  exact ⟨g', w', es, h1, h2, h3⟩
 ·obtain ⟨g'', w'', es', h1, _, _, h4⟩ := h w hw
  rw [he] at h1
  cases h1
  exact h4

theorem next_self {H : Hp} {w : World} (h : Fits H w) : H.next w w = H := by
 funext b
 unfold Hp.next
 cases e : H b with
 | none =>
  simp only
  split
  ·rename_i hge; rw [Array.getElem?_eq_none hge]; rfl
  ·rfl
 | some x =>
  obtain ⟨rw, o⟩ := x
  cases rw with
  | false => rfl
  | true => simp only; rw [h b true o e]; rfl
theorem stepH_self {H : Hp} {w : World} (h : Fits H w) {es : Array Event} (he : ∀ e ∈ es, EvH H e) : StepH H w w es :=
 ⟨Nat.le_refl _, fun _ _ _ => rfl, by rw [next_self h]; exact he, rfl, rfl, rfl⟩

section
variable {P : Program} {main : Bool} {T : Goroutine → Hp → Prop} {H : Hp} {b : Frame} {a : Act} {k : List Item} {cs : List Frame}

theorem Shut.ctl (hT : Shut P main T) {g g' : Goroutine} (hr : g.status = .running) (h : ∀ w, stepG P main g w = .go g' w #[]) (hr' : g'.status = .running) (hn : T g' H) : T g H :=
 hT g H hr fun w hw => ⟨g', w, #[], h w, stepH_self hw (fun e he => by simp at he), hr', by rw [next_self hw]; exact hn⟩

theorem Shut.skip (hT : Shut P main T) (h : T (G (b.at a k) cs) H) : T (G (b.at a (.code .skip :: k)) cs) H := hT.ctl rfl (fun _ => stepG_skip) rfl h
theorem Shut.seq (hT : Shut P main T) {x y : Code} (h : T (G (b.at a (.code x :: .code y :: k)) cs) H) : T (G (b.at a (.code (.seq x y) :: k)) cs) H := hT.ctl rfl (fun _ => stepG_seq) rfl h
theorem Shut.cond (hT : Shut P main T) {c : Operand} {x y : Code} (t : Bool) (hc : a.eval c = .bool t) (h : T (G (b.at a (.code (if t then x else y) :: k)) cs) H) : T (G (b.at a (.code (.cond c x y) :: k)) cs) H := hT.ctl rfl (fun _ => stepG_cond hc) rfl h
theorem Shut.block (hT : Shut P main T) {id : Nat} {c : Code} (h : T (G (b.at a (.code c :: .inBlock id :: k)) cs) H) : T (G (b.at a (.code (.block id c) :: k)) cs) H := hT.ctl rfl (fun _ => stepG_block) rfl h
theorem Shut.inBlock (hT : Shut P main T) {id : Nat} (h : T (G (b.at a k) cs) H) : T (G (b.at a (.inBlock id :: k)) cs) H := hT.ctl rfl (fun _ => stepG_inBlock) rfl h
theorem Shut.loop (hT : Shut P main T) {c : Code} (h : T (G (b.at a (.code c :: .inLoop c :: k)) cs) H) : T (G (b.at a (.code (.loop c) :: k)) cs) H := hT.ctl rfl (fun _ => stepG_loop) rfl h
theorem Shut.inLoop (hT : Shut P main T) {c : Code} (h : T (G (b.at a (.code c :: .inLoop c :: k)) cs) H) : T (G (b.at a (.inLoop c :: k)) cs) H := hT.ctl rfl (fun _ => stepG_inLoop) rfl h
theorem Shut.exit (hT : Shut P main T) {id : Nat} {k' : List Item} (hk : exitTo id k = some k') (h : T (G (b.at a k') cs) H) : T (G (b.at a (.code (.exit id) :: k)) cs) H := hT.ctl rfl (fun _ => stepG_exit hk) rfl h
theorem Shut.region (hT : Shut P main T) {id : Nat} {ops : Array Oper} (h : T (G (b.at a (.inRegion ops (List.range ops.size) :: k)) cs) H) : T (G (b.at a (.code (.region id ops false) :: k)) cs) H := hT.ctl rfl (fun _ => stepG_region) rfl h
theorem Shut.regionEnd (hT : Shut P main T) {ops : Array Oper} (h : T (G (b.at a k) cs) H) : T (G (b.at a (.inRegion ops [] :: k)) cs) H := hT.ctl rfl (fun _ => stepG_region_end) rfl h
theorem Shut.ret (hT : Shut P main T) (h : T (G { b.at a (.code .ret :: k) with mode := .returning } cs) H) : T (G (b.at a (.code .ret :: k)) cs) H := hT.ctl rfl (fun _ => stepG_ret') rfl h
theorem Shut.fall (hT : Shut P main T) (h : T (G { b.at a [] with mode := .returning } cs) H) : T (G (b.at a []) cs) H := hT.ctl rfl (fun _ => stepG_end) rfl h

variable {ops : Array Oper} {i : Nat} {rest : List Nat} {o : Oper}

/-- An operation that is carried out. -/
theorem Shut.op (hT : Shut P main T) (ho : ops[i]? = some o) (hw : Region.wanted o (yielded ops a.tmps) = true) (hk : b.kind ≠ .early)
  (h : ∀ w, Fits H w → ∀ K : Act → World → Prop, (∀ a' w', StepH H w w' (listed P b.fn a o w) → T (G (b.at a' (.inRegion ops rest :: k)) cs) (H.next w w') → K a' w') → uponK o a K ((execOp a.eval o).run P w)) :
  T (G (b.at a (.inRegion ops (i :: rest) :: k)) cs) H := by
 refine hT _ _ rfl fun w hf => ?_
 have := h w hf (fun a' w' => StepH H w w' (listed P b.fn a o w) ∧ T (G (b.at a' (.inRegion ops rest :: k)) cs) (H.next w w')) fun _ _ x y => ⟨x, y⟩
 generalize hr : (execOp a.eval o).run P w = r at this
 match r, this with
 | .ok (.value v) w', h => exact ⟨_, _, _, stepG_value ho hw hk hr, h.1, rfl, h.2⟩
 | .ok .skip w', h => exact ⟨_, _, _, stepG_none ho hw hk hr, h.1, rfl, h.2⟩

/-- An operation that looks, and turns nothing. -/
theorem Shut.look (hT : Shut P main T) {v : Value} (ho : ops[i]? = some o) (hw : Region.wanted o (yielded ops a.tmps) = true) (hk : b.kind ≠ .early)
  (h : ∀ w, Fits H w → ∀ K : Result Next → Prop, K (.ok (.value v) w) → K ((execOp a.eval o).run P w)) (he : ∀ w, Fits H w → ∀ e ∈ (execOp a.eval o).events P w #[], EvH H e)
  (hn : T (G (b.at (a.put o.dst v) (.inRegion ops rest :: k)) cs) H) : T (G (b.at a (.inRegion ops (i :: rest) :: k)) cs) H := by
 refine hT _ _ rfl fun w hf => ?_
 have hr := h w hf (· = .ok (.value v) w) rfl
 exact ⟨_, _, _, stepG_value ho hw hk hr, stepH_self hf fun e hm => he w hf e (mem_listed hm), rfl, by rw [next_self hf]; exact hn⟩

/-- .. that looks at no memory at all. -/
theorem Shut.pure (hT : Shut P main T) {v : Value} (ho : ops[i]? = some o) (hw : Region.wanted o (yielded ops a.tmps) = true) (hk : b.kind ≠ .early)
  (h : ∀ w, ∀ K : Result Next → Prop, K (.ok (.value v) w) → K ((execOp a.eval o).run P w)) (he : ∀ w, (execOp a.eval o).events P w #[] = #[])
  (hn : T (G (b.at (a.put o.dst v) (.inRegion ops rest :: k)) cs) H) : T (G (b.at a (.inRegion ops (i :: rest) :: k)) cs) H :=
 hT.look ho hw hk (fun w _ => h w) (fun w _ e hm => by rw [he w] at hm; simp at hm) hn

theorem Shut.unwanted (hT : Shut P main T) (ho : ops[i]? = some o) (hw : Region.wanted o (yielded ops a.tmps) = false)
  (hn : T (G (b.at (a.put o.dst undef) (.inRegion ops rest :: k)) cs) H) : T (G (b.at a (.inRegion ops (i :: rest) :: k)) cs) H :=
 hT.ctl rfl (fun _ => stepG_unwanted ho hw) rfl hn

/-- A call is entered. -/
theorem Shut.enter (hT : Shut P main T) {f : FuncId} {args : Array Value} (ho : ops[i]? = some o) (hw : Region.wanted o (yielded ops a.tmps) = true) (hk : b.kind ≠ .early)
  (h : ∀ w, ∀ K : Result Next → Prop, K (.ok (.enter f args) w) → K ((execOp a.eval o).run P w)) (he : ∀ w, (execOp a.eval o).events P w #[] = #[])
  (hn : T (G (Frame.enter P f args .normal) (b.at a (.inRegion ops (i :: rest) :: k) :: cs)) H) : T (G (b.at a (.inRegion ops (i :: rest) :: k)) cs) H := by
 refine hT.ctl (g' := G (Frame.enter P f args .normal) (b.at a (.inRegion ops (i :: rest) :: k) :: cs)) rfl (fun w => ?_) rfl hn
 rw [stepG_enter ho hw hk (h w (· = .ok (.enter f args) w) rfl)]
 congr 1
 exact listed_nil (he w)

/-- The frame is left: the results go to the caller's operation. -/
theorem Shut.leave (hT : Shut P main T) {fn : Func} {todo : List Item} {c : Frame} {v : Value} (hn : b.kind = .normal) (hd : a.defers = []) (hf : P.funcs[b.fn]? = some fn)
  (hr : ∀ w, Fits H w → (results fn a.tmps).run P w = .ok v w) (he : ∀ w, Fits H w → ∀ e ∈ (results fn a.tmps).events P w #[], EvH H e)
  (h : T (G (c.finish v) cs) H) : T (G { b.at a todo with mode := .returning } (c :: cs)) H := by
 refine hT _ _ rfl fun w hw => ⟨G (c.finish v) cs, w, seen P b.fn ((results fn a.tmps).events P w #[]), ?_, stepH_self hw fun e hm => he w hw e (mem_seen hm), rfl, by rw [next_self hw]; exact h⟩
 simp [G, stepG, unwind, doReturn, Frame.at, hn, hd, hf, hr w hw, GStep.after]

/-- A contract in company: entered with these arguments, it comes back with a value and a hold that satisfy Post. -/
def CallsH (P : Program) (main : Bool) (f : FuncId) (args : Array Value) (H : Hp) (Post : Value → Hp → Prop) : Prop :=
 ∀ T, Shut P main T → ∀ (c : Frame) (cs : List Frame), (∀ v H', Post v H' → T (G (c.finish v) cs) H') → T (G (Frame.enter P f args .normal) (c :: cs)) H

/-- A call by its contract. -/
theorem Shut.call (hT : Shut P main T) {f : FuncId} {args : Array Value} {Post : Value → Hp → Prop} (ho : ops[i]? = some o) (hw : Region.wanted o (yielded ops a.tmps) = true) (hk : b.kind ≠ .early)
  (h : ∀ w, ∀ K : Result Next → Prop, K (.ok (.enter f args) w) → K ((execOp a.eval o).run P w)) (he : ∀ w, (execOp a.eval o).events P w #[] = #[]) (hc : CallsH P main f args H Post)
  (hn : ∀ v H', Post v H' → T (G (b.at (a.put o.dst v) (.inRegion ops rest :: k)) cs) H') : T (G (b.at a (.inRegion ops (i :: rest) :: k)) cs) H := by
 refine hT.enter ho hw hk h he (hc T hT _ _ fun v H' hp => ?_)
 rw [Frame.finish_at, ho]
 exact hn v H' hp

/-- How a contract is entered. -/
theorem callsH_enter {f : FuncId} {fn : Func} {c : Code} {args : Array Value} {Post : Value → Hp → Prop} (hf : P.funcs[f]? = some fn) (hb : fn.body = some c)
  (h : ∀ T, Shut P main T → ∀ (d : Frame) (cs : List Frame), (∀ v H', Post v H' → T (G (d.finish v) cs) H') → T (G ((base f).at { tmps := args ++ Array.replicate (fn.ntmps - args.size) undef, defers := [] } [.code c]) (d :: cs)) H) : CallsH P main f args H Post :=
 fun T hT d cs hp => by rw [enter_at args hf hb]; exact h T hT d cs hp
end
end Go.Vel
end
section
set_option linter.all false
set_option maxRecDepth 20000
set_option maxHeartbeats 60000000
namespace Go.Vel
open Go Go.Conc

/-! ### memory of one's own -/
def Hp.put (H : Hp) (r : Nat) (x : Bool × Obj) : Hp := fun b => if b = r then some x else H b
theorem Hp.put_same (H : Hp) (r : Nat) (x : Bool × Obj) : H.put r x r = some x := by simp [Hp.put]
theorem Hp.put_other (H : Hp) {r b : Nat} (x : Bool × Obj) (h : b ≠ r) : H.put r x b = H b := by simp [Hp.put, h]
theorem Hp.put_put (H : Hp) (r : Nat) (x y : Bool × Obj) : (H.put r x).put r y = H.put r y := by
 funext b
 unfold Hp.put
 split <;> rfl

/-- The world with another object in a block. -/
def wput (w : World) (r : Nat) (o : Obj) : World := { w with heap := w.heap.setIfInBounds r o }

section
variable {H : Hp} {w : World}

theorem next_alloc (h : Fits H w) (o : Obj) : H.next w (w.alloc o) = H.put w.heap.size (true, o) := by
 funext b
 have hsz : (w.alloc o).heap = w.heap.push o := rfl
 by_cases hb : b = w.heap.size
 ·subst hb
  rw [Hp.put_same]
  unfold Hp.next
  cases e : H w.heap.size with
  | none => simp [hsz]
  | some x => exact absurd (h.lt e) (Nat.lt_irrefl _)
 ·rw [Hp.put_other _ _ hb]
  unfold Hp.next
  cases e : H b with
  | none =>
   simp only
   split
   ·rw [hsz, Array.getElem?_eq_none (by simp; omega)]; rfl
   ·rfl
  | some x =>
   obtain ⟨rw', o'⟩ := x
   cases rw' with
   | false => rfl
   | true =>
    simp only
    have hlt := h.lt e
    rw [hsz, Array.getElem?_push, if_neg hb, h b true o' e]
    rfl

theorem next_wput (h : Fits H w) {r : Nat} {o o' : Obj} (hr : H r = some (true, o)) : H.next w (wput w r o') = H.put r (true, o') := by
 funext b
 have hlt := h.lt hr
 by_cases hb : b = r
 ·subst hb
  rw [Hp.put_same]
  unfold Hp.next
  rw [hr]
  simp only [wput]
  rw [Array.getElem?_setIfInBounds_self_of_lt hlt]
  rfl
 ·rw [Hp.put_other _ _ hb]
  unfold Hp.next
  cases e : H b with
  | none =>
   simp only
   split
   ·rename_i hge
    rw [wput, Array.getElem?_setIfInBounds_ne (Ne.symm hb), Array.getElem?_eq_none hge]; rfl
   ·rfl
  | some x =>
   obtain ⟨rw', o''⟩ := x
   cases rw' with
   | false => rfl
   | true =>
    simp only
    rw [wput, Array.getElem?_setIfInBounds_ne (Ne.symm hb), h b true o'' e]
    rfl

theorem stepH_alloc (o : Obj) : StepH H w (w.alloc o) #[] := by
 refine ⟨by rw [World.size_alloc]; omega, fun b hb _ => ?_, fun e he => by simp at he, rfl, rfl, rfl⟩
 show (w.heap.push o)[b]? = _
 rw [Array.getElem?_push, if_neg (by omega)]

theorem lets_put {r : Nat} {o o' : Obj} (hr : H r = some (true, o)) {b : Nat} {wr : Bool} (h : H.lets b wr) : (H.put r (true, o')).lets b wr := by
 by_cases hb : b = r
 ·subst hb; exact ⟨true, o', Hp.put_same _ _ _, fun _ => rfl⟩
 ·obtain ⟨rw', o'', e, himp⟩ := h
  exact ⟨rw', o'', by rw [Hp.put_other _ _ hb]; exact e, himp⟩
theorem evH_put {r : Nat} {o o' : Obj} (hr : H r = some (true, o)) {e : Event} (h : EvH H e) : EvH (H.put r (true, o')) e := by
 obtain ⟨loc, wr, sy⟩ := e
 cases loc with
 | cell a => exact lets_put hr h
 | obj x => exact ⟨h.1, lets_put hr h.2⟩
 | mark m => exact h
 | _ => exact h.elim

theorem stepH_wput (h : Fits H w) {r : Nat} {o o' : Obj} (hr : H r = some (true, o)) {es : Array Event} (he : ∀ e ∈ es, EvH H e) : StepH H w (wput w r o') es := by
 refine ⟨by simp [wput], fun b _ hn => ?_, fun e hm => ?_, rfl, rfl, rfl⟩
 ·have hb : r ≠ b := fun e => hn o (e ▸ hr)
  show (w.heap.setIfInBounds r o')[b]? = _
  rw [Array.getElem?_setIfInBounds_ne hb]
 ·rw [next_wput h hr]
  exact evH_put hr (he e hm)

theorem setCell_wput {r off : Nat} {c : Array Value} {e : TypeId} {fz : Nat × Nat} {v : Value} (h : w.heap[r]? = some (.cells c e fz)) : w.setCell ⟨r, off, none⟩ v = wput w r (.cells (c.setIfInBounds off v) e fz) := by
 obtain ⟨hlt, he⟩ := Array.getElem?_eq_some_iff.1 h
 unfold World.setCell wput
 congr 1
 apply Array.ext_getElem?
 intro k
 rw [Array.getElem?_modify]
 by_cases hk : r = k
 ·subst hk
  rw [if_pos rfl, h, Array.getElem?_setIfInBounds_self_of_lt hlt]
  rfl
 ·rw [if_neg hk, Array.getElem?_setIfInBounds_ne hk]
theorem wput_heap {r : Nat} {o : Obj} (h : r < w.heap.size) : (wput w r o).heap[r]? = some o := by
 simp [wput, h]
theorem wput_wput {r : Nat} {o o' : Obj} : wput (wput w r o) r o' = wput w r o' := by
 unfold wput
 simp
theorem setCell_again {r off : Nat} {c : Array Value} {e : TypeId} {fz : Nat × Nat} {v : Value} (h : r < w.heap.size) : (wput w r (.cells c e fz)).setCell ⟨r, off, none⟩ v = wput w r (.cells (c.setIfInBounds off v) e fz) := by
 rw [setCell_wput (wput_heap h), wput_wput]

/-- What a cell that is held holds. -/
theorem Fits.cell (h : Fits H w) {r off : Nat} {rw' : Bool} {c : Array Value} {e : TypeId} {fz : Nat × Nat} {v : Value} (hr : H r = some (rw', .cells c e fz)) (hv : c[off]? = some v) : w.cell? ⟨r, off, none⟩ = some v := by
 unfold World.cell?
 rw [h r _ _ hr]
 simp [hv]
theorem Fits.frozen (h : Fits H w) {r : Nat} (off : Nat) {rw' : Bool} {c : Array Value} {e : TypeId} (hr : H r = some (rw', .cells c e (0, 0))) : w.frozen? ⟨r, off, none⟩ = false := by
 unfold World.frozen?
 rw [h r _ _ hr]
 simp
theorem evH_read {r off : Nat} {rw' : Bool} {o : Obj} (hr : H r = some (rw', o)) : EvH H ⟨.cell ⟨r, off, none⟩, false, false⟩ := ⟨rw', o, hr, fun h => by cases h⟩
theorem evH_write {r off : Nat} {o : Obj} (hr : H r = some (true, o)) : EvH H ⟨.cell ⟨r, off, none⟩, true, false⟩ := ⟨true, o, hr, fun _ => rfl⟩
end

section
variable {P : Program} {main : Bool} {T : Goroutine → Hp → Prop} {H : Hp} {b : Frame} {a : Act} {k : List Item} {cs : List Frame} {ops : Array Oper} {i : Nat} {rest : List Nat} {o : Oper}

/-- A block of one's own is made. -/
theorem Shut.new (hT : Shut P main T) {o' : Obj} (ho : ops[i]? = some o) (hw : Region.wanted o (yielded ops a.tmps) = true) (hk : b.kind ≠ .early)
  (h : ∀ w, ∀ K : Result Next → Prop, K (.ok (.value (.pointer (some ⟨w.heap.size, 0, none⟩))) (w.alloc o')) → K ((execOp a.eval o).run P w)) (he : ∀ w, (execOp a.eval o).events P w #[] = #[])
  (hn : ∀ r, H r = none → T (G (b.at (a.put o.dst (.pointer (some ⟨r, 0, none⟩))) (.inRegion ops rest :: k)) cs) (H.put r (true, o'))) : T (G (b.at a (.inRegion ops (i :: rest) :: k)) cs) H := by
 refine hT _ _ rfl fun w hf => ?_
 have hr := h w (· = .ok (.value (.pointer (some ⟨w.heap.size, 0, none⟩))) (w.alloc o')) rfl
 refine ⟨_, _, _, stepG_value ho hw hk hr, ?_, rfl, ?_⟩
 ·rw [listed_nil (he w)]; exact stepH_alloc o'
 ·rw [next_alloc hf]
  refine hn _ ?_
  cases e : H w.heap.size with
  | none => rfl
  | some x => exact absurd (hf.lt e) (Nat.lt_irrefl _)

/-- A block of one's own is made, and what is yielded leads to it. -/
theorem Shut.newF (hT : Shut P main T) (f : Nat → Value) {o' : Obj} (ho : ops[i]? = some o) (hw : Region.wanted o (yielded ops a.tmps) = true) (hk : b.kind ≠ .early)
  (h : ∀ w, ∀ K : Result Next → Prop, K (.ok (.value (f w.heap.size)) (w.alloc o')) → K ((execOp a.eval o).run P w)) (he : ∀ w, (execOp a.eval o).events P w #[] = #[])
  (hn : ∀ r, H r = none → T (G (b.at (a.put o.dst (f r)) (.inRegion ops rest :: k)) cs) (H.put r (true, o'))) : T (G (b.at a (.inRegion ops (i :: rest) :: k)) cs) H := by
 refine hT _ _ rfl fun w hf => ?_
 have hr := h w (· = .ok (.value (f w.heap.size)) (w.alloc o')) rfl
 refine ⟨_, _, _, stepG_value ho hw hk hr, ?_, rfl, ?_⟩
 ·rw [listed_nil (he w)]; exact stepH_alloc o'
 ·rw [next_alloc hf]
  refine hn _ ?_
  cases e : H w.heap.size with
  | none => rfl
  | some x => exact absurd (hf.lt e) (Nat.lt_irrefl _)

/-- What is one's own is written. -/
theorem Shut.store (hT : Shut P main T) {r : Nat} {o₁ o' : Obj} (hr : H r = some (true, o₁)) (ho : ops[i]? = some o) (hw : Region.wanted o (yielded ops a.tmps) = true) (hk : b.kind ≠ .early)
  (h : ∀ w, Fits H w → ∀ K : Result Next → Prop, K (.ok .skip (wput w r o')) → K ((execOp a.eval o).run P w)) (he : ∀ w, Fits H w → ∀ e ∈ (execOp a.eval o).events P w #[], EvH H e)
  (hn : T (G (b.at (a.put o.dst undef) (.inRegion ops rest :: k)) cs) (H.put r (true, o'))) : T (G (b.at a (.inRegion ops (i :: rest) :: k)) cs) H := by
 refine hT _ _ rfl fun w hf => ?_
 have hrun := h w hf (· = .ok .skip (wput w r o')) rfl
 exact ⟨_, _, _, stepG_none ho hw hk hrun, stepH_wput hf hr fun e hm => he w hf e (mem_listed hm), rfl, by rw [next_wput hf hr]; exact hn⟩
end
end Go.Vel
end
section
set_option linter.all false
set_option maxRecDepth 20000
set_option maxHeartbeats 60000000
namespace Go.Vel
open Go Go.Conc

/-- A row of one's own: what a slice that was grown here holds. -/
def Hp.ownsRow (H : Hp) (e : TypeId) (size : Nat) (v : Value) (n : Nat) (xs : List Value) : Prop :=
 xs.length = n * size ∧ ((v = .slice none 0 0 ∧ n = 0) ∨
  ∃ g cap cur, v = .slice (some ⟨g, 0, none⟩) n cap ∧ H g = some (true, .cells cur e (0, 0)) ∧ n ≤ cap ∧ cap ≤ maxLen ∧ cur.size = cap * size ∧ cur.toList.take (n * size) = xs)

theorem Hp.ownsRow_nil (H : Hp) (e : TypeId) (size : Nat) : H.ownsRow e size (.slice none 0 0) 0 [] := ⟨by simp, .inl ⟨rfl, rfl⟩⟩

theorem Hp.ownsRow.world {H : Hp} {e : TypeId} {size : Nat} {v : Value} {n : Nat} {xs : List Value} (h : H.ownsRow e size v n xs) {w : World} (hw : Fits H w) : w.ownsRow 0 e size v n xs := by
 refine ⟨h.1, h.2.imp id ?_⟩
 rintro ⟨g, cap, cur, h1, h2, h3⟩
 exact ⟨g, cap, cur, h1, Nat.zero_le _, hw g _ _ h2, h3⟩

theorem Hp.ownsRow.put {H : Hp} {e : TypeId} {size : Nat} {v : Value} {n : Nat} {xs : List Value} (h : H.ownsRow e size v n xs) {r : Nat} (hr : H r = none) (x : Bool × Obj) : (H.put r x).ownsRow e size v n xs := by
 refine ⟨h.1, h.2.imp id ?_⟩
 rintro ⟨g, cap, cur, h1, h2, h3⟩
 have : g ≠ r := fun e => by rw [e, hr] at h2; cases h2
 exact ⟨g, cap, cur, h1, by rw [Hp.put_other _ _ this]; exact h2, h3⟩

theorem Hp.ownsRow.get {H : Hp} {e : TypeId} {a0 : Option Addr} {n c : Nat} {xs : List Value} (h : H.ownsRow e 1 (.slice a0 n c) n xs) {j : Nat} {u : Value} (hu : xs[j]? = some u) : ∃ g cur, a0 = some ⟨g, 0, none⟩ ∧ H g = some (true, .cells cur e (0, 0)) ∧ cur[j]? = some u := by
 have hlt : j < xs.length := (List.getElem?_eq_some_iff.1 hu).1
 rcases h.2 with ⟨_, rfl⟩ | ⟨g, cap, cur, e1, h2, _, _, _, h3⟩
 ·rw [h.1] at hlt; omega
 ·cases e1
  refine ⟨g, cur, rfl, h2, ?_⟩
  rw [← h3, List.getElem?_take] at hu
  split at hu
  ·simpa using hu
  ·cases hu

/-- Where the grown row stands: in the old block, or in a new one. -/
theorem append_block {P : Program} (w : World) (t ty e : TypeId) (i : TypeInfo) (z : Value) (size bytes : Nat) (ht : P.underlying t = some (.slice e)) (hi : P.info? e = some i) (hz : i.zero = some z)
  (hsize : i.size = size) (hby : i.bytes = bytes)
  (v : Value) (n : Nat) (xs : List Value) (hown : w.ownsRow 0 e size v n xs)
  (a : Addr) (m c : Nat) (news : List Value) (hl : news.length = m * size) (hnews : ∀ j u, news[j]? = some u → w.cell? (a.add j) = some u) (h1 : ∀ u ∈ news, u.oneCell' = true)
  (h63 : n + m ≤ maxLen) (hbytes : (n + m) * bytes ≤ 140737488355328) {v' : Value} {w' : World} (hr : (Builtin.append_ #[t, t] ty #[v, .slice (some a) m c]).run P w = .ok v' w') :
  ∀ g, v'.ownBlock = some g → v.ownBlock = some g ∨ w.heap.size ≤ g := by
 subst hsize
 subst hby
 have hsmall : n + m ≤ 9223372036854775807 := by simp only [maxLen] at h63; omega
 intro g' hg'
 rcases hown.2 with ⟨rfl, rfl⟩ | ⟨g, cap, cur, rfl, _, hg, hnc, hcm, hcs, htake⟩
 ·by_cases hm : m = 0
  ·subst hm
   have : (Builtin.append_ #[t, t] ty #[.slice none 0 0, .slice (some a) 0 c]).run P w = .ok (.slice none 0 0) w := by
    simp [Builtin.append_, run_underlying ht, sizeOf, typeInfo, hi, Builtin.lenOf, Builtin.firstCells, loadCells, loadCellsFrom]
   rw [this] at hr
   cases hr
   cases hg'
  ·have h2 := run_append_nil (P := P) w t ty e i z ht hi hz a m c news hl hnews (by omega) (by omega) (by have hb := hbytes; simp only [Nat.zero_add] at hb; omega)
   rw [h2] at hr
   cases hr
   cases hg'
   exact .inr (Nat.le_refl _)
 ·by_cases hroom : n + m ≤ cap
  ·have hfit : n * i.size + news.length ≤ cur.size := by rw [hl, hcs, ← Nat.add_mul]; exact Nat.mul_le_mul_right _ hroom
   have h2 := run_append_room (P := P) w t ty e i ht hi g n cap cur hg a m c news hl hnews h1 hroom hfit
   rw [h2] at hr
   cases hr
   exact .inl hg'
  ·have holds : ∀ j u, xs[j]? = some u → w.cell? ((⟨g, 0, none⟩ : Addr).add j) = some u := hown.cells (g := g) rfl
   have h2 := run_append_grow (P := P) w t ty e i z ht hi hz ⟨g, 0, none⟩ n cap xs hown.1 holds a m c news hl hnews (by omega) (by omega) (growslice_fits (by omega) hbytes)
   rw [h2] at hr
   cases hr
   cases hg'
   exact .inr (Nat.le_refl _)

/-- What is held of the others' is kept by one's own step. -/
theorem next_keep {H : Hp} {w w' : World} (hw : Fits H w) {b : Nat} {x : Bool × Obj} (hb : H b = some x) (h : w'.heap[b]? = w.heap[b]?) : H.next w w' b = some x := by
 obtain ⟨rw', o⟩ := x
 unfold Hp.next
 rw [hb]
 cases rw' with
 | false => rfl
 | true => simp only; rw [h, hw b true o hb]; rfl

theorem events_sliceAt_h {P : Program} (t : TypeId) (a : Addr) (ht : P.underlying t = some (.array (P.arrayLen t) (P.elem t))) {i : TypeInfo} (hi : P.info? (P.elem t) = some i) (kh : IntKind) (h : Int) (h0 : 0 ≤ h) (h2 : h ≤ P.arrayLen t) (w : World) :
  (Instr.sliceAt t (.pointer (some a)) none (some (.int kh h)) none).events P w #[] = #[] := by
 have hsz : ∀ w es, (sizeOf (P.elem t)).events P w es = es := fun w es => by
  simp [sizeOf, typeInfo, hi, Sem.events_bind]
 simp only [Instr.sliceAt, Instr.sliceBounds, Instr.sliceBound, asIntOf, Instr.sureAddr, Sem.events_bind, Sem.run_bind, Sem.run_pure, Sem.events_pure, Result.evThen_ok, Result.andThen_ok, run_underlying ht, events_underlying, h0, h2, and_self, if_true, hsz]
 cases (sizeOf (P.elem t)).run P w <;> rfl

theorem events_min2 {P : Program} (ts : Array TypeId) (t : TypeId) (k k' : IntKind) (x y : Int) (w : World) : (Builtin.min_ ts t #[.int k x, .int k' y]).events P w #[] = #[] := by
 simp [Builtin.min_, Builtin.min2]
theorem events_max2 {P : Program} (ts : Array TypeId) (t : TypeId) (k k' : IntKind) (x y : Int) (w : World) : (Builtin.max_ ts t #[.int k x, .int k' y]).events P w #[] = #[] := by
 simp [Builtin.max_, Builtin.max2]

theorem events_callFunc {P : Program} {f : FuncId} {fn : Func} {c : Code} (hf : P.funcs[f]? = some fn) (hb : fn.body = some c) (args : Array Value) (w : World) : (callFunc f args).events P w #[] = #[] := by
 unfold callFunc
 simp [hf, hb, Sem.events_bind]

section
variable {P : Program} {main : Bool} {T : Goroutine → Hp → Prop} {H : Hp} {b : Frame} {a : Act} {k : List Item} {cs : List Frame} {ops : Array Oper} {i : Nat} {rest : List Nat} {o : Oper}

/-- A loop: an invariant whose number falls from round to round. -/
theorem Shut.loopN (hT : Shut P main T) {c : Code} (I : Nat → Act → Hp → Prop) (n : Nat) (h0 : I n a H)
  (round : ∀ n a H, I n a H → (∀ n' a' H', n' < n → I n' a' H' → T (G (b.at a' (.inLoop c :: k)) cs) H') → T (G (b.at a (.code c :: .inLoop c :: k)) cs) H) : T (G (b.at a (.code (.loop c) :: k)) cs) H := by
 refine hT.loop ?_
 have key : ∀ n a H, I n a H → T (G (b.at a (.code c :: .inLoop c :: k)) cs) H := by
  intro n
  induction n using Nat.strongRecOn with
  | _ n ih =>
   intro a H hI
   exact round n a H hI fun n' a' H' hlt hI' => hT.inLoop (ih n' hlt a' H' hI')
 exact key n a H h0

/-- What is held is held still. -/
def Hp.ext (H H' : Hp) : Prop := ∀ b x, H b = some x → H' b = some x
theorem Hp.ext_refl (H : Hp) : H.ext H := fun _ _ h => h
theorem Hp.ext_trans {H H' H'' : Hp} (h : H.ext H') (k : H'.ext H'') : H.ext H'' := fun b x hb => k b x (h b x hb)
theorem Hp.ext_put {H H' : Hp} (h : H.ext H') {r : Nat} (hr : H r = none) (x : Bool × Obj) : H.ext (H'.put r x) := fun b y hb => by
 have : b ≠ r := fun e => by rw [e, hr] at hb; cases hb
 rw [Hp.put_other _ _ this]
 exact h b y hb

/-- A slice of one's own is grown. -/
theorem Shut.append (hT : Shut P main T) (ho : ops[i]? = some o) (hw : Region.wanted o (yielded ops a.tmps) = true) (hk : b.kind ≠ .early) (s x : Operand) (t : TypeId)
  (hop : o.op = .call { callee := .builtin .append, args := #[s, x], argTypes := #[t, t] }) {e : TypeId} {ti : TypeInfo} {z : Value} {size bytes : Nat} (ht : P.underlying t = some (.slice e)) (hi : P.info? e = some ti) (hz : ti.zero = some z)
  (hsize : ti.size = size) (hby : ti.bytes = bytes) (hzs : z.cells.size = size) (hsz : 0 < size) {v : Value} {n : Nat} {xs : List Value} (hs : a.eval s = v) (hown : H.ownsRow e size v n xs)
  {ad : Addr} {m c : Nat} {news : List Value} (hx : a.eval x = .slice (some ad) m c) (hl : news.length = m * size) (hnews : ∀ w, Fits H w → ∀ j u, news[j]? = some u → w.cell? (ad.add j) = some u) (hlets : H.lets ad.block false)
  (h1 : ∀ u ∈ news, u.oneCell' = true) (h63 : n + m ≤ maxLen) (hbytes : (n + m) * bytes ≤ 140737488355328)
  (hn : ∀ v' H', H'.ownsRow e size v' (n + m) (xs ++ news) → (∀ b x, H b = some x → some b ≠ v.ownBlock → H' b = some x) → (v' = .slice none 0 0 ↔ v = .slice none 0 0 ∧ m = 0) →
   (∀ g, v'.ownBlock = some g → v.ownBlock = some g ∨ H g = none) → T (G (b.at (a.put o.dst v') (.inRegion ops rest :: k)) cs) H') :
  T (G (b.at a (.inRegion ops (i :: rest) :: k)) cs) H := by
 refine hT _ _ rfl fun w hf => ?_
 have how := hown.world hf
 obtain ⟨v', w', hr, ho', hg, hiff⟩ := run_append_own (P := P) w 0 t o.type e ti z size bytes ht hi hz hsize hby hzs hsz v n xs how ad m c news hl (hnews w hf) h1 h63 hbytes (Nat.zero_le _)
 have hrun : (execOp a.eval o).run P w = .ok (.value v') w' := by
  unfold execOp
  simp only [hop, resolve, invoke, builtin, Sem.run_bind, Sem.run_pure, Result.andThen_ok, List.map_toArray, List.map_cons, List.map_nil, hs, hx, hr]
 have hblk := append_block (P := P) w t o.type e ti z size bytes ht hi hz hsize hby v n xs how ad m c news hl (hnews w hf) h1 h63 hbytes hr
 have hmine : ∀ g, v.ownBlock = some g → ∃ o, H g = some (true, o) := fun g hg => by
  rcases hown.2 with ⟨rfl, _⟩ | ⟨g', cap, cur, rfl, h2, _⟩
  ·cases hg
  ·cases hg; exact ⟨_, h2⟩
 have hkept : ∀ b, b < w.heap.size → some b ≠ v.ownBlock → w'.heap[b]? = w.heap[b]? := hg.block
 have hS : StepH H w w' (listed P b.fn a o w) := by
  refine ⟨hg.size, fun b hb hno => hkept b hb fun e => ?_, fun ev hev => ?_, hg.os, hg.output, hg.tape⟩
  ·obtain ⟨o, h2⟩ := hmine b e.symm
   exact hno o h2
  ·have hm := mem_listed hev
   rw [events_append_op s x t hop hs hx] at hm
   rcases events_append_where (P := P) w 0 t o.type e ti z size bytes ht hi hz hsize hby v n xs how ad m c news hl (hnews w hf) h1 h63 hbytes ev hm with ⟨ad', hloc, hcase⟩ | ⟨mk, rfl, hneu⟩
   ·obtain ⟨loc, wr, sy⟩ := ev
    simp only at hloc hcase
    subst hloc
    have hl' : ∀ b, (∃ x, H b = some x) → ∃ rw' o', H.next w w' b = some (rw', o') ∧ ((∃ o, H b = some (true, o)) → rw' = true) := fun b ⟨x, hb⟩ => by
     obtain ⟨rw', o'⟩ := x
     have hlt := hf.lt hb
     unfold Hp.next
     rw [hb]
     cases rw' with
     | false => exact ⟨false, o', rfl, fun ⟨o, e⟩ => by cases e⟩
     | true => simp only [Array.getElem?_eq_getElem (Nat.lt_of_lt_of_le hlt hg.size)]; exact ⟨true, _, rfl, fun _ => rfl⟩
    rcases hcase with ⟨hwr, hb⟩ | hb
    ·obtain ⟨rw0, o0, h2, _⟩ := hlets
     obtain ⟨rw', o', h3, _⟩ := hl' ad'.block ⟨_, by rw [hb]; exact h2⟩
     exact ⟨rw', o', h3, fun h => by rw [hwr] at h; cases h⟩
    ·obtain ⟨o0, h2⟩ := hmine ad'.block hb.symm
     obtain ⟨rw', o', h3, h4⟩ := hl' ad'.block ⟨_, h2⟩
     exact ⟨rw', o', h3, fun _ => h4 ⟨_, h2⟩⟩
   ·exact .inl hneu
 refine ⟨_, _, _, stepG_value ho hw hk hrun, hS, rfl, ?_⟩
 refine hn v' _ ⟨ho'.1, ho'.2.imp id ?_⟩ (fun b x hb hne => ?_) hiff fun g hg' => ?_
 ·rintro ⟨g, cap, cur, e1, _, e2, e3⟩
  refine ⟨g, cap, cur, e1, ?_, e3⟩
  rcases hblk g (by rw [e1]; rfl) with hb | hb
  ·obtain ⟨o0, h2⟩ := hmine g hb
   unfold Hp.next
   rw [h2]
   simp only
   rw [e2]
   rfl
  ·unfold Hp.next
   cases e : H g with
   | none => simp only; rw [if_pos hb, e2]; rfl
   | some x => have := hf.lt e; omega
 ·exact next_keep hf hb (hkept b (hf.lt hb) hne)
 ·rcases hblk g hg' with h | h
  ·exact .inl h
  ·right
   cases e : H g with
   | none => rfl
   | some x => have := hf.lt e; omega
end
end Go.Vel
end
section
set_option linter.all false
set_option maxRecDepth 20000
set_option maxHeartbeats 60000000
namespace Go.Vel
open Go Go.Conc

section
variable {P : Program}

/-! ### goroutine 0's walk beside leavers, by what it holds of the memory -/
/-- From here it comes to a stop, beside leavers, in whatever world fits. -/
def BT (P : Program) (Ψ : Goroutine → World → Prop) (g : Goroutine) (H : Hp) : Prop := okG g → ∀ w, Fits H w → Besides P (fun a w' => (w'.os = w.os ∧ w'.output = w.output) ∧ Ψ a w') g w
theorem Besides.imp {Φ Φ' : Goroutine → World → Prop} {g : Goroutine} {w : World} (h : Besides P Φ g w) (hp : ∀ a w', Φ a w' → Φ' a w') : Besides P Φ' g w := fun τ d gs sl t q h0 hL hP => by
 obtain ⟨N, gs', a', w', d', sl', t', q', h1, h2, h3, h4⟩ := h τ d gs sl t q h0 hL hP
 exact ⟨N, gs', a', w', d', sl', t', q', h1, h2, hp _ _ h3, h4⟩

theorem evL_of_evH {K : Hp} {w : World} (hf : Fits K w) {e : Event} (h : EvH K e) : EvL NoShun w.heap.size e :=
 ⟨fun _ _ hx => hx.elim, (evH_mild h).1, (evH_mild h).2, evH_low hf h⟩

theorem woken_map (P : Program) (g g' : Goroutine) (w' : World) : ((#[g] : Array Goroutine).map (woken P g g' w')).setIfInBounds 0 g' = #[g'] := by simp

theorem shut_BT (T : Tame P) (Ψ : Goroutine → World → Prop) : Shut P true (BT P Ψ) := by
 intro g H hr h hok w hf τ d gs sl t q h0 hL hP
 obtain ⟨N, gs1, d1, sl1, t1, q1, hr1, _, h01, hL1, hP1, d2, sl2, hfin⟩ := to_zero w τ hr _ gs d sl t q (Nat.le_refl _) h0 hL hP
 have hf' : Fits H (Go.Vel.on w τ d2) := hf
 obtain ⟨g', w', es, hgo, hS, hr', hT⟩ := h (Go.Vel.on w τ d2) hf'
 have hlt : 0 < gs1.size := (Array.getElem?_eq_some_iff.1 h01).1
 have hrun := runT_crowd_go (P := P) (sl := sl2) (i := 0) h01 (show stepG P (0 == 0) g (Go.Vel.on w τ d2) = _ from hgo)
 have h1 : step P (solo g (Go.Vel.on w τ d2)) = .next (solo g' w') := by
  refine step_solo_of (u := MemOp.ofEvents 0 g.frame.fn g.frame.place es) hr ?_
  have h00 : (#[g] : Array Goroutine)[0]? = some g := rfl
  have := runT_crowd_go (P := P) (gs := #[g]) (sl := none) (i := 0) h00 (show stepG P (0 == 0) g (Go.Vel.on w τ d2) = _ from hgo)
  rw [this, woken_map]
  rfl
 have hok' : okG g' := okG_runN T 1 g (Go.Vel.on w τ d2) g' w' hok hr (by simp only [runN, h1]) hr'
 have htape : w'.tape = τ := hS.tape
 have ew : Go.Vel.on w' τ w'.drawn = w' := by rw [← htape]; rfl
 have hfn := hf'.next hS
 have hP2 : Past NoShun w'.heap.size (t1 ++ MemOp.ofEvents 0 g.frame.fn g.frame.place es) := (hP1.mono hS.size).own fun e he => evL_of_evH hfn (hS.evs e he)
 have hL2 : Leavers P (t1 ++ MemOp.ofEvents 0 g.frame.fn g.frame.place es) ((gs1.map (woken P g g' w')).setIfInBounds 0 g') q1 := by
  refine ⟨fun j x hj hx => ?_, fun j hj => ?_⟩
  ·have hne : 0 ≠ j := by omega
   rw [Array.getElem?_setIfInBounds_ne hne, Array.getElem?_map] at hx
   obtain ⟨y, hy, rfl⟩ := Option.map_eq_some_iff.1 hx
   have hq := hL1.old j y hj hy
   rw [woken_quitsD hq, Deaf_other t1 (by omega) _ (fun op hop => by obtain ⟨e, _, rfl⟩ := Go.Conc.mem_ofEvents hop; rfl)]
   exact hq
  ·rw [Deaf_other t1 (g' := 0) (by simp at hj; omega) _ (fun op hop => by obtain ⟨e, _, rfl⟩ := Go.Conc.mem_ofEvents hop; rfl)]
   exact hL1.above j (by simpa using hj)
 obtain ⟨M, gs', a', w2, d', sl', t', q', hr2, h02, hψ, hL3, hP3⟩ := hT hok' w' hfn τ w'.drawn _ sl2 _ q1 (by simp [hlt]) hL2 hP2
 refine ⟨N + (1 + M), gs', a', w2, d', sl', t', q', ?_, h02, ⟨⟨hψ.1.1.trans hS.os, hψ.1.2.trans hS.out⟩, hψ.2⟩, hL3, hP3⟩
 rw [runNT_add N (1 + M) _ _ _ _ hr1, Nat.add_comm 1 M]
 simp only [runNT, hfin, hrun]
 rw [ew] at hr2
 exact hr2

/-- A contract of goroutine 0's, beside leavers. -/
def CallsM (P : Program) (f : FuncId) (args : Array Value) (H : Hp) (Post : Value → Hp → Prop) : Prop :=
 ∀ (Ψ : Goroutine → World → Prop) (c : Frame) (cs : List Frame), (∀ v H', Post v H' → BT P Ψ (G (c.finish v) cs) H') → BT P Ψ (G (Frame.enter P f args .normal) (c :: cs)) H

theorem CallsH.main (T : Tame P) {f : FuncId} {args : Array Value} {H : Hp} {Post : Value → Hp → Prop} (h : CallsH P true f args H Post) : CallsM P f args H Post := fun Ψ c cs hp => h _ (shut_BT T Ψ) c cs hp

theorem CallsM.mono {f : FuncId} {args : Array Value} {H : Hp} {Post Post' : Value → Hp → Prop} (h : CallsM P f args H Post) (hp : ∀ v H', Post v H' → Post' v H') : CallsM P f args H Post' := fun Ψ c cs k => h Ψ c cs fun v H' x => k v H' (hp v H' x)
theorem CallsH.mono {main : Bool} {f : FuncId} {args : Array Value} {H : Hp} {Post Post' : Value → Hp → Prop} (h : CallsH P main f args H Post) (hp : ∀ v H', Post v H' → Post' v H') : CallsH P main f args H Post' := fun T hT c cs k => h T hT c cs fun v H' x => k v H' (hp v H' x)

/-- A contract of the lone machine serves beside leavers. -/
theorem callsM_lone (T : Tame P) {f : FuncId} {args : Array Value} {H : Hp} {Post : Value → Hp → Prop}
  (h : ∀ w, Fits H w → Calls P f args w fun e w' => ∃ v, e = .returned v ∧ (w'.os = w.os ∧ w'.output = w.output) ∧ ∃ H', Fits H' w' ∧ Post v H') : CallsM P f args H Post := by
 intro Ψ c cs hp hok w hf
 refine callsB_lone T (R := fun v w' => (w'.os = w.os ∧ w'.output = w.output) ∧ ∃ H', Fits H' w' ∧ Post v H') (fun σ => ?_) c cs hok _ fun v w' ⟨ho, H', hf', hv⟩ hok' => (hp v H' hv hok' w' hf').imp fun a w2 ⟨h1, h2⟩ => ⟨⟨h1.1.trans ho.1, h1.2.trans ho.2⟩, h2⟩
 exact (h (Go.Vel.on w σ 0) hf).mono fun e w' ⟨v, he, x⟩ => ⟨v, he, x⟩
end
end Go.Vel
end
section
set_option linter.all false
set_option maxRecDepth 20000
set_option maxHeartbeats 60000000
namespace Go.Vel
open Go Go.Conc

/-! ### an operation, on what is held -/
def oneCell : Value → Bool | .agg _ | .tuple _ => false | _ => true
def isCells : Obj → Bool | .cells .. => true | _ => false

def shapeOf : Obj → Option (TypeId × Nat) | .cells c e _ => some (e, c.size) | _ => none
def frozenOf (off : Nat) : Obj → Bool | .cells _ _ (lo, hi) => decide (lo ≤ off) && decide (off < hi) | _ => false

/-- Which cells may not be written any more, once some more may not. -/
def fzOf (fz : Nat × Nat) (off n : Nat) : Nat × Nat := if fz.1 == fz.2 then (off, off + n) else (min fz.1 off, max fz.2 (off + n))
theorem freeze_wput {w : World} {a : Addr} {n : Nat} {c : Array Value} {e : TypeId} {fz : Nat × Nat} (hn : n ≠ 0) (h : w.heap[a.block]? = some (.cells c e fz)) : w.freeze a n = wput w a.block (.cells c e (fzOf fz a.off n)) := by
 obtain ⟨hlt, he⟩ := Array.getElem?_eq_some_iff.1 h
 unfold World.freeze wput
 rw [if_neg hn]
 congr 1
 apply Array.ext_getElem?
 intro k
 rw [Array.getElem?_modify]
 by_cases hk : a.block = k
 ·subst hk
  rw [if_pos rfl, h, Array.getElem?_setIfInBounds_self_of_lt hlt]
  rfl
 ·rw [if_neg hk, Array.getElem?_setIfInBounds_ne hk]

/-- What an operation comes to in every world that fits. -/
def wpS {α : Type} (P : Program) : Sem α → Hp → (α → Hp → Prop) → Prop
 | .pure a, H, Q => Q a H
 | .load _ a k, H, Q => ∃ rw c e fz v, H a.block = some (rw, .cells c e fz) ∧ a.spot = none ∧ c[a.off]? = some v ∧ wpS P (k v) H Q
 | .store _ a v k, H, Q => oneCell v = true ∧ ∃ c e lo hi, H a.block = some (true, .cells c e (lo, hi)) ∧ a.spot = none ∧ a.off < c.size ∧ (decide (lo ≤ a.off) && decide (a.off < hi)) = false ∧ wpS P k (H.put a.block (true, .cells (c.setIfInBounds a.off v) e (lo, hi))) Q
 | .new o k, H, Q => ∀ r, H r = none → wpS P (k r) (H.put r (true, o)) Q
 | .shape r k, H, Q => ∃ rw o, H r = some (rw, o) ∧ wpS P (k (shapeOf o)) H Q
 | .frozen a k, H, Q => ∃ rw o, H a.block = some (rw, o) ∧ wpS P (k (frozenOf a.off o)) H Q
 | .freeze a n k, H, Q => n ≠ 0 ∧ ∃ c e fz, H a.block = some (true, .cells c e fz) ∧ wpS P k (H.put a.block (true, .cells c e (fzOf fz a.off n))) Q
 | .getObj r k, H, Q => ∃ rw o, H r = some (rw, o) ∧ isCells o = false ∧ o.isChan = false ∧ wpS P (k o) H Q
 | .setObj r o k, H, Q => ∃ o0, H r = some (true, o0) ∧ isCells o0 = false ∧ o.isChan = false ∧ wpS P k (H.put r (true, o)) Q
 | .choose q k, H, Q => ∀ n, (q.forced = true → n = 0) → (q.forced = false → ∃ t, n = q.cut t) → wpS P (k n) H Q
 | .sys _ _, _, _ => False
 | .program k, H, Q => wpS P (k P) H Q
 | .mark m k, H, Q => (m = .noRoom ∨ ∃ f, m = .extern f) ∧ wpS P k H Q
 | .halt _, _, _ => False

theorem evH_next {H : Hp} {w w' : World} {es : Array Event} (hf : Fits H w) (hs : StepH H w w' es) {e : Event} (h : EvH H e) : EvH (H.next w w') e := by
 obtain ⟨loc, wr, sy⟩ := e
 cases loc with
 | cell a => exact lets_next hf hs h
 | obj x => exact ⟨h.1, lets_next hf hs h.2⟩
 | mark m => exact h
 | _ => exact h.elim

theorem next_next {H : Hp} {w w1 w2 : World} (h1 : w.heap.size ≤ w1.heap.size) (h2 : w1.heap.size ≤ w2.heap.size) (hf : Fits H w) : (H.next w w1).next w1 w2 = H.next w w2 := by
 funext b
 unfold Hp.next
 cases e : H b with
 | none =>
  simp only
  by_cases hb : w.heap.size ≤ b
  ·rw [if_pos hb, if_pos hb]
   by_cases hb1 : b < w1.heap.size
   ·rw [Array.getElem?_eq_getElem hb1]
    rfl
   ·rw [Array.getElem?_eq_none (by omega)]
    simp only [Option.map_none]
    rw [if_pos (by omega)]
  ·rw [if_neg hb, if_neg hb]
   simp only
   rw [if_neg (by omega)]
 | some x =>
  obtain ⟨rw', o⟩ := x
  cases rw' with
  | false => rfl
  | true =>
   have hlt := hf.lt e
   simp only
   rw [Array.getElem?_eq_getElem (Nat.lt_of_lt_of_le hlt h1)]
   rfl

theorem StepH.trans {H : Hp} {w w1 w2 : World} {es1 es2 : Array Event} (hf : Fits H w) (h1 : StepH H w w1 es1) (h2 : StepH (H.next w w1) w1 w2 es2) : StepH H w w2 (es1 ++ es2) := by
 refine ⟨Nat.le_trans h1.size h2.size, fun b hb hno => ?_, fun e he => ?_, h2.os.trans h1.os, h2.out.trans h1.out, h2.tape.trans h1.tape⟩
 ·rw [h2.kept b (Nat.lt_of_lt_of_le hb h1.size) ?_]
  ·exact h1.kept b hb hno
  ·intro o hc
   unfold Hp.next at hc
   cases e : H b with
   | none =>
    rw [e] at hc
    simp only at hc
    rw [if_neg (by omega)] at hc
    cases hc
   | some x =>
    obtain ⟨rw', o'⟩ := x
    cases rw' with
    | false => rw [e] at hc; cases hc
    | true => exact hno o' e
 ·rw [← next_next h1.size h2.size hf]
  rcases Array.mem_append.1 he with he | he
  ·exact evH_next (hf.next h1) h2 (h1.evs e he)
  ·exact h2.evs e he

theorem next_drawn {H : Hp} {w : World} (hf : Fits H w) (d : Nat) : H.next w { w with drawn := d } = H := next_self (w := w) hf

theorem wpS_sound {P : Program} {α : Type} (s : Sem α) : ∀ (H : Hp) (Q : α → Hp → Prop) (w : World) (es0 : Array Event), wpS P s H Q → Fits H w →
  ∃ a w' es, s.runT P w es0 = (.ok a w', es0 ++ es) ∧ StepH H w w' es ∧ Q a (H.next w w') := by
 induction s with
 | pure a =>
  intro H Q w es0 h hf
  exact ⟨a, w, #[], by simp [Sem.runT], stepH_self hf (fun e he => by simp at he), by rw [next_self hf]; exact h⟩
 | load m a k ih =>
  intro H Q w es0 h hf
  obtain ⟨rw', c, e, fz, v, hH, hs, hc, h⟩ := h
  obtain ⟨blk, off, sp⟩ := a
  simp only at hH hs hc
  subst hs
  have hcell := hf.cell hH hc
  obtain ⟨x, w', es, h1, h2, h3⟩ := ih v H Q w (es0.push ⟨.cell ⟨blk, off, none⟩, false, m == .atomic⟩) h hf
  refine ⟨x, w', #[⟨.cell ⟨blk, off, none⟩, false, m == .atomic⟩] ++ es, ?_, ?_, h3⟩
  ·simp only [Sem.runT, hcell, h1]
   simp
  ·have h0 : StepH H w w #[⟨.cell ⟨blk, off, none⟩, false, m == .atomic⟩] := stepH_self hf (fun e he => by
    simp only [List.mem_toArray, List.mem_singleton] at he
    subst he
    exact ⟨rw', _, hH, fun hx => by cases hx⟩)
   have := StepH.trans (w2 := w') hf h0 (by rw [next_self hf]; exact h2)
   exact this
 | store m a v k ih =>
  intro H Q w es0 h hf
  obtain ⟨hv, c, e, lo, hi, hH, hs, hlt, hfz, h⟩ := h
  obtain ⟨blk, off, sp⟩ := a
  simp only at hH hs hlt hfz h
  subst hs
  have hcell := hf.cell (v := c[off]) hH (Array.getElem?_eq_getElem hlt)
  have hfr : w.frozen? ⟨blk, off, none⟩ = false := by
   unfold World.frozen?
   rw [hf blk _ _ hH]
   exact hfz
  have hset : w.setCell ⟨blk, off, none⟩ v = wput w blk (.cells (c.setIfInBounds off v) e (lo, hi)) := setCell_wput (hf blk _ _ hH)
  have hS : StepH H w (wput w blk (.cells (c.setIfInBounds off v) e (lo, hi))) #[⟨.cell ⟨blk, off, none⟩, true, m == .atomic⟩] := stepH_wput hf hH (fun ev he => by
    simp only [List.mem_toArray, List.mem_singleton] at he
    subst he
    exact ⟨true, _, hH, fun _ => rfl⟩)
  have hn := next_wput (o' := .cells (c.setIfInBounds off v) e (lo, hi)) hf hH
  have hf1 := hf.next hS
  rw [hn] at hf1
  obtain ⟨x, w', es, h1, h2, h3⟩ := ih _ Q _ (es0.push ⟨.cell ⟨blk, off, none⟩, true, m == .atomic⟩) h hf1
  refine ⟨x, w', #[⟨.cell ⟨blk, off, none⟩, true, m == .atomic⟩] ++ es, ?_, StepH.trans hf hS (by rw [hn]; exact h2), ?_⟩
  ·have hrun : (Sem.store m ⟨blk, off, none⟩ v k).runT P w es0 = k.runT P (w.setCell ⟨blk, off, none⟩ v) (es0.push ⟨.cell ⟨blk, off, none⟩, true, m == .atomic⟩) := by
    cases v <;> first | (simp [oneCell] at hv; done) | (simp only [Sem.runT, hcell, hfr, Bool.false_eq_true, if_false])
   rw [hrun, hset, h1]
   simp
  ·rw [← next_next hS.size h2.size hf, hn]; exact h3
 | new o k ih =>
  intro H Q w es0 h hf
  have hr : H w.heap.size = none := by
   cases e : H w.heap.size with
   | none => rfl
   | some x => exact absurd (hf.lt e) (Nat.lt_irrefl _)
  have hS : StepH H w (w.alloc o) #[] := stepH_alloc o
  have hn := next_alloc hf o
  have hf1 := hf.next hS
  rw [hn] at hf1
  obtain ⟨x, w', es, h1, h2, h3⟩ := ih w.heap.size _ Q _ es0 (h _ hr) hf1
  refine ⟨x, w', es, h1, ?_, ?_⟩
  ·have := StepH.trans hf hS (by rw [hn]; exact h2)
   rwa [Array.empty_append] at this
  ·rw [← next_next hS.size h2.size hf, hn]; exact h3
 | shape r k ih =>
  intro H Q w es0 h hf
  obtain ⟨rw', o, hH, h⟩ := h
  obtain ⟨x, w', es, h1, h2, h3⟩ := ih _ H Q w es0 h hf
  refine ⟨x, w', es, ?_, h2, h3⟩
  have : w.shape? r = shapeOf o := by
   unfold World.shape?
   rw [hf r _ _ hH]
   cases o <;> rfl
  simp only [Sem.runT, this]
  exact h1
 | freeze a n k ih =>
  intro H Q w es0 h hf
  obtain ⟨hn0, c, e, fz, hH, h⟩ := h
  obtain ⟨blk, off, sp⟩ := a
  simp only at hH h
  have hset := freeze_wput (a := ⟨blk, off, sp⟩) hn0 (hf blk _ _ hH)
  have hS : StepH H w (wput w blk (.cells c e (fzOf fz off n))) #[] := stepH_wput hf hH (fun ev he => by simp at he)
  have hnx := next_wput (o' := .cells c e (fzOf fz off n)) hf hH
  have hf1 := hf.next hS
  rw [hnx] at hf1
  obtain ⟨x, w', es, h1, h2, h3⟩ := ih _ Q _ es0 h hf1
  refine ⟨x, w', es, ?_, ?_, ?_⟩
  ·simp only [Sem.runT, hset]; exact h1
  ·have := StepH.trans hf hS (by rw [hnx]; exact h2)
   rwa [Array.empty_append] at this
  ·rw [← next_next hS.size h2.size hf, hnx]; exact h3
 | frozen a k ih =>
  intro H Q w es0 h hf
  obtain ⟨rw', o, hH, h⟩ := h
  obtain ⟨x, w', es, h1, h2, h3⟩ := ih _ H Q w es0 h hf
  refine ⟨x, w', es, ?_, h2, h3⟩
  have : w.frozen? a = frozenOf a.off o := by
   unfold World.frozen?
   rw [hf a.block _ _ hH]
   cases o <;> rfl
  simp only [Sem.runT, this]
  exact h1
 | getObj r k ih =>
  intro H Q w es0 h hf
  obtain ⟨rw', o, hH, hc, hch, h⟩ := h
  obtain ⟨x, w', es, h1, h2, h3⟩ := ih o H Q w (es0.push ⟨.obj r, false, o.isChan⟩) h hf
  refine ⟨x, w', #[⟨.obj r, false, o.isChan⟩] ++ es, ?_, ?_, h3⟩
  ·have hrun : (Sem.getObj r k).runT P w es0 = (k o).runT P w (es0.push ⟨.obj r, false, o.isChan⟩) := by
    simp only [Sem.runT, hf r _ _ hH]
    cases o <;> first | (simp [isCells] at hc; done) | rfl
   rw [hrun, h1]
   simp
  ·have h0 : StepH H w w #[⟨.obj r, false, o.isChan⟩] := stepH_self hf (fun e he => by
    simp only [List.mem_toArray, List.mem_singleton] at he
    subst he
    exact ⟨hch, rw', _, hH, fun hx => by cases hx⟩)
   exact StepH.trans (w2 := w') hf h0 (by rw [next_self hf]; exact h2)
 | setObj r o k ih =>
  intro H Q w es0 h hf
  obtain ⟨o0, hH, hc, hch, h⟩ := h
  have hS : StepH H w (wput w r o) #[⟨.obj r, true, o.isChan⟩] := stepH_wput hf hH (fun ev he => by
    simp only [List.mem_toArray, List.mem_singleton] at he
    subst he
    exact ⟨hch, true, _, hH, fun _ => rfl⟩)
  have hn := next_wput (o' := o) hf hH
  have hf1 := hf.next hS
  rw [hn] at hf1
  obtain ⟨x, w', es, h1, h2, h3⟩ := ih _ Q _ (es0.push ⟨.obj r, true, o.isChan⟩) h hf1
  refine ⟨x, w', #[⟨.obj r, true, o.isChan⟩] ++ es, ?_, StepH.trans hf hS (by rw [hn]; exact h2), ?_⟩
  ·have hrun : (Sem.setObj r o k).runT P w es0 = k.runT P (wput w r o) (es0.push ⟨.obj r, true, o.isChan⟩) := by
    simp only [Sem.runT, hf r _ _ hH]
    cases o0 <;> first | (simp [isCells] at hc; done) | rfl
   rw [hrun, h1]
   simp
  ·rw [← next_next hS.size h2.size hf, hn]; exact h3
 | choose q k ih =>
  intro H Q w es0 h hf
  by_cases hq : q.forced = true
  ·obtain ⟨x, w', es, h1, h2, h3⟩ := ih 0 H Q w es0 (h 0 (fun _ => rfl) (fun e => by rw [hq] at e; cases e)) hf
   exact ⟨x, w', es, by simp only [Sem.runT, hq, if_true]; exact h1, h2, h3⟩
  ·have hq' : q.forced = false := by simpa using hq
   obtain ⟨x, w', es, h1, h2, h3⟩ := ih (q.cut (w.tape w.drawn q)) H Q { w with drawn := w.drawn + 1 } es0 (h _ (fun e => absurd e hq) (fun _ => ⟨_, rfl⟩)) hf
   exact ⟨x, w', es, by simp only [Sem.runT, hq', Bool.false_eq_true, if_false]; exact h1, ⟨h2.size, h2.kept, h2.evs, h2.os, h2.out, h2.tape⟩, h3⟩
 | sys c k ih => intro H Q w es0 h; exact h.elim
 | program k ih =>
  intro H Q w es0 h hf
  obtain ⟨x, w', es, h1, h2, h3⟩ := ih P H Q w es0 h hf
  exact ⟨x, w', es, h1, h2, h3⟩
 | mark m k ih =>
  intro H Q w es0 h hf
  obtain ⟨hm, h⟩ := h
  obtain ⟨x, w', es, h1, h2, h3⟩ := ih H Q w (es0.push ⟨.mark m, false, true⟩) h hf
  refine ⟨x, w', #[⟨.mark m, false, true⟩] ++ es, ?_, ?_, h3⟩
  ·simp only [Sem.runT, h1]
   simp
  ·have h0 : StepH H w w #[⟨.mark m, false, true⟩] := stepH_self hf (fun e he => by
    simp only [List.mem_toArray, List.mem_singleton] at he
    subst he
    exact hm)
   exact StepH.trans (w2 := w') hf h0 (by rw [next_self hf]; exact h2)
 | halt h => intro H Q w es0 h; exact h.elim

theorem wpS_mono {P : Program} {α : Type} (s : Sem α) : ∀ (H : Hp) (Q Q' : α → Hp → Prop), (∀ a H, Q a H → Q' a H) → wpS P s H Q → wpS P s H Q' := by
 induction s with
 | pure a => exact fun H Q Q' hq h => hq _ _ h
 | load m a k ih => exact fun H Q Q' hq ⟨rw', c, e, fz, v, h1, h2, h3, h⟩ => ⟨rw', c, e, fz, v, h1, h2, h3, ih v H Q Q' hq h⟩
 | store m a v k ih => exact fun H Q Q' hq ⟨hv, c, e, lo, hi, h1, h2, h3, h4, h⟩ => ⟨hv, c, e, lo, hi, h1, h2, h3, h4, ih _ Q Q' hq h⟩
 | new o k ih => exact fun H Q Q' hq h r hr => ih r _ Q Q' hq (h r hr)
 | shape r k ih => exact fun H Q Q' hq ⟨rw', o, h1, h⟩ => ⟨rw', o, h1, ih _ H Q Q' hq h⟩
 | freeze a n k ih => exact fun H Q Q' hq ⟨hn, c, e, fz, h1, h⟩ => ⟨hn, c, e, fz, h1, ih _ Q Q' hq h⟩
 | frozen a k ih => exact fun H Q Q' hq ⟨rw', o, h1, h⟩ => ⟨rw', o, h1, ih _ H Q Q' hq h⟩
 | getObj r k ih => exact fun H Q Q' hq ⟨rw', o, h1, h2, h3, h⟩ => ⟨rw', o, h1, h2, h3, ih o H Q Q' hq h⟩
 | setObj r o k ih => exact fun H Q Q' hq ⟨o0, h1, h2, h3, h⟩ => ⟨o0, h1, h2, h3, ih _ Q Q' hq h⟩
 | choose q k ih => exact fun H Q Q' hq h n h1 h2 => ih n H Q Q' hq (h n h1 h2)
 | sys c k ih => exact fun _ _ _ _ h => h.elim
 | program k ih => exact fun H Q Q' hq h => ih P H Q Q' hq h
 | mark m k ih => exact fun H Q Q' hq ⟨hm, h⟩ => ⟨hm, ih H Q Q' hq h⟩
 | halt h => exact fun _ _ _ _ h => h.elim

theorem wpS_bind {P : Program} {α β : Type} (s : Sem α) (f : α → Sem β) : ∀ (H : Hp) (Q : β → Hp → Prop), wpS P s H (fun a H' => wpS P (f a) H' Q) → wpS P (s >>= f) H Q := by
 show ∀ (H : Hp) (Q : β → Hp → Prop), wpS P s H (fun a H' => wpS P (f a) H' Q) → wpS P (s.bind f) H Q
 induction s with
 | pure a => exact fun H Q h => h
 | load m a k ih => exact fun H Q ⟨rw', c, e, fz, v, h1, h2, h3, h⟩ => ⟨rw', c, e, fz, v, h1, h2, h3, ih v H Q h⟩
 | store m a v k ih => exact fun H Q ⟨hv, c, e, lo, hi, h1, h2, h3, h4, h⟩ => ⟨hv, c, e, lo, hi, h1, h2, h3, h4, ih _ Q h⟩
 | new o k ih => exact fun H Q h r hr => ih r _ Q (h r hr)
 | shape r k ih => exact fun H Q ⟨rw', o, h1, h⟩ => ⟨rw', o, h1, ih _ H Q h⟩
 | freeze a n k ih => exact fun H Q ⟨hn, c, e, fz, h1, h⟩ => ⟨hn, c, e, fz, h1, ih _ Q h⟩
 | frozen a k ih => exact fun H Q ⟨rw', o, h1, h⟩ => ⟨rw', o, h1, ih _ H Q h⟩
 | getObj r k ih => exact fun H Q ⟨rw', o, h1, h2, h3, h⟩ => ⟨rw', o, h1, h2, h3, ih o H Q h⟩
 | setObj r o k ih => exact fun H Q ⟨o0, h1, h2, h3, h⟩ => ⟨o0, h1, h2, h3, ih _ Q h⟩
 | choose q k ih => exact fun H Q h n h1 h2 => ih n H Q (h n h1 h2)
 | sys c k ih => exact fun _ _ h => h.elim
 | program k ih => exact fun H Q h => ih P H Q h
 | mark m k ih => exact fun H Q ⟨hm, h⟩ => ⟨hm, ih H Q h⟩
 | halt h => exact fun _ _ h => h.elim

section
variable {P : Program} {main : Bool} {T : Goroutine → Hp → Prop} {H : Hp} {b : Frame} {a : Act} {k : List Item} {cs : List Frame} {ops : Array Oper} {i : Nat} {rest : List Nat} {o : Oper}

/-- Behind an operation. -/
def uponS (P : Program) (T : Goroutine → Hp → Prop) (b : Frame) (a : Act) (k : List Item) (cs : List Frame) (ops : Array Oper) (i : Nat) (rest : List Nat) (o : Oper) : Next → Hp → Prop
 | .value v, H => T (G (b.at (a.put o.dst v) (.inRegion ops rest :: k)) cs) H
 | .skip, H => T (G (b.at (a.put o.dst undef) (.inRegion ops rest :: k)) cs) H
 | .enter f args, H => T (G (Frame.enter P f args .normal) (b.at a (.inRegion ops (i :: rest) :: k) :: cs)) H
 | _, _ => False

theorem Shut.opS (hT : Shut P main T) (ho : ops[i]? = some o) (hw : Region.wanted o (yielded ops a.tmps) = true) (hk : b.kind ≠ .early) (h : wpS P (execOp a.eval o) H (uponS P T b a k cs ops i rest o)) :
  T (G (b.at a (.inRegion ops (i :: rest) :: k)) cs) H := by
 refine hT _ _ rfl fun w hf => ?_
 obtain ⟨x, w', es, h1, h2, h3⟩ := wpS_sound _ _ _ w #[] h hf
 rw [Array.empty_append] at h1
 have hrun : (execOp a.eval o).run P w = .ok x w' := by
  have := Sem.runT_eq P (execOp a.eval o) w #[]
  rw [h1] at this
  exact (congrArg Prod.fst this).symm
 have hev : (execOp a.eval o).events P w #[] = es := by
  have := Sem.runT_eq P (execOp a.eval o) w #[]
  rw [h1] at this
  exact (congrArg Prod.snd this).symm
 have hS : StepH H w w' (listed P b.fn a o w) := ⟨h2.size, h2.kept, fun e he => h2.evs e (hev ▸ mem_listed he), h2.os, h2.out, h2.tape⟩
 cases x with
 | value v => exact ⟨_, _, _, stepG_value ho hw hk hrun, hS, rfl, h3⟩
 | skip => exact ⟨_, _, _, stepG_none ho hw hk hrun, hS, rfl, h3⟩
 | enter f args => exact ⟨_, _, _, stepG_enter ho hw hk hrun, hS, rfl, h3⟩
 | _ => exact h3.elim
end
end Go.Vel
end
section
set_option linter.all false
set_option maxRecDepth 20000
set_option maxHeartbeats 60000000
namespace Go.Vel
open Go Go.Conc

/-! ### values whose addresses are places of a list of objects -/
inductive AV where
 | v (x : Value)
 | ptr (i off : Nat)
 | sl (i off len : Nat)
 | row (i len : Nat)
 | agg (l : List AV)
 | tup (l : List AV)
 | fn (f : FuncId) (fs cs : List AV)
 | e0
 | z0
 | map (i : Nat)
 | yl (i : Nat)
 | chan (i : Nat)
 | any

instance : Inhabited AV := ⟨.any⟩

structure Loc3 where
 blk : Nat
 base : Nat
 cap : Nat

/-- The slice of a row: one of no capacity lies nowhere. -/
def rowV (loc : Loc3) (len : Nat) (y : Value) : Prop := if loc.cap = 0 then ∃ b, y = .slice b 0 0 else y = .slice (some ⟨loc.blk, 0, none⟩) len loc.cap

/-- What a value is, where object i lies at φ i (n: so many there are). -/
inductive RelV (φ : Nat → Loc3) (n : Nat) : AV → Value → Prop
 | v (x : Value) : RelV φ n (.v x) x
 | ptr {i off : Nat} : i < n → RelV φ n (.ptr i off) (.pointer (some ⟨(φ i).blk, (φ i).base + off, none⟩))
 | sl {i off len cap : Nat} {b : Option Addr} : i < n → len ≤ cap → (0 < len → b = some ⟨(φ i).blk, (φ i).base + off, none⟩) → RelV φ n (.sl i off len) (.slice b len cap)
 | row {i len : Nat} {y : Value} : i < n → len ≤ (φ i).cap → rowV (φ i) len y → RelV φ n (.row i len) y
 | agg {l : List AV} {ys : Array Value} : l.length = ys.size → (∀ (j : Nat) a y, l[j]? = some a → ys[j]? = some y → RelV φ n a y) → RelV φ n (.agg l) (.agg ys)
 | tup {l : List AV} {ys : Array Value} : l.length = ys.size → (∀ (j : Nat) a y, l[j]? = some a → ys[j]? = some y → RelV φ n a y) → RelV φ n (.tup l) (.tuple ys)
 | fn {f : FuncId} {fs cs : List AV} {xs ys : Array Value} : fs.length = xs.size → (∀ (j : Nat) a y, fs[j]? = some a → xs[j]? = some y → RelV φ n a y) →
   cs.length = ys.size → (∀ (j : Nat) a y, cs[j]? = some a → ys[j]? = some y → RelV φ n a y) → RelV φ n (.fn f fs cs) (.func (.func f) xs ys)
 | e0 (a : Option Addr) (cap : Nat) : RelV φ n .e0 (.slice a 0 cap)
 | z0 (a : Addr) : RelV φ n .z0 (.slice (some a) 0 0)
 | map {i : Nat} : i < n → RelV φ n (.map i) (.map (some (φ i).blk))
 | yl {i : Nat} : i < n → RelV φ n (.yl i) (.func (.yield (φ i).blk) #[] #[])
 | chan {i : Nat} : i < n → RelV φ n (.chan i) (.chan (some (φ i).blk))
 | any (y : Value) : RelV φ n .any y

/-- Lists of them. -/
def RelL (φ : Nat → Loc3) (n : Nat) (l : List AV) (ys : Array Value) : Prop := l.length = ys.size ∧ ∀ (j : Nat) a y, l[j]? = some a → ys[j]? = some y → RelV φ n a y

/-- Where objects were known they are. -/
def Agr (φ φ' : Nat → Loc3) (n : Nat) : Prop := ∀ i, i < n → φ' i = φ i
theorem Agr.refl (φ : Nat → Loc3) (n : Nat) : Agr φ φ n := fun _ _ => rfl
theorem Agr.trans {φ φ' φ'' : Nat → Loc3} {n m : Nat} (h : Agr φ φ' n) (k : Agr φ' φ'' m) (hn : n ≤ m) : Agr φ φ'' n := fun i hi => (k i (by omega)).trans (h i hi)
theorem Agr.mono {φ φ' : Nat → Loc3} {n m : Nat} (h : Agr φ φ' n) (hm : m ≤ n) : Agr φ φ' m := fun i hi => h i (by omega)

theorem RelV.mono {φ φ' : Nat → Loc3} {n n' : Nat} (hA : Agr φ φ' n) (hn : n ≤ n') {a : AV} {y : Value} (h : RelV φ n a y) : RelV φ' n' a y := by
 induction h with
 | v x => exact .v x
 | ptr hi => rw [← hA _ hi]; exact .ptr (by omega)
 | sl hi hl hb => rw [← hA _ hi] at hb; exact .sl (by omega) hl hb
 | row hi hl hv =>
  rw [← hA _ hi] at hl hv
  exact .row (by omega) hl hv
 | agg hl _ ih => exact .agg hl ih
 | tup hl _ ih => exact .tup hl ih
 | fn h1 _ h2 _ ih1 ih2 => exact .fn h1 ih1 h2 ih2
 | e0 a c => exact .e0 a c
 | z0 a => exact .z0 a
 | map hi => rw [← hA _ hi]; exact .map (by omega)
 | yl hi => rw [← hA _ hi]; exact .yl (by omega)
 | chan hi => rw [← hA _ hi]; exact .chan (by omega)
 | any y => exact .any y

theorem RelL.mono {φ φ' : Nat → Loc3} {n n' : Nat} (hA : Agr φ φ' n) (hn : n ≤ n') {l : List AV} {ys : Array Value} (h : RelL φ n l ys) : RelL φ' n' l ys := ⟨h.1, fun j a y ha hy => (h.2 j a y ha hy).mono hA hn⟩

/-! ### objects -/
inductive AObj where
 | cells (l : List AV) (elem : TypeId) (rw : Bool)
 | row (l : List AV) (elem : TypeId) (size : Nat)
 | raw (o : Obj)
 | loop (f : FuncId) (env : List AV) (ps : Array Tmp) (x y : Code) (st : LoopState) (pj : Option Code)
 | gone

def AObj.excl : AObj → Bool | .cells _ _ rw => rw | .row .. => true | .raw _ => true | .loop .. => true | .gone => false
def AObj.live : AObj → Bool | .gone => false | _ => true
/-- A row of no capacity lies nowhere. -/
def sol (loc : Loc3) : AObj → Prop | .row .. => 0 < loc.cap | .cells l _ _ => l ≠ [] | _ => True

def RelO (φ : Nat → Loc3) (n : Nat) (loc : Loc3) (H : Hp) : AObj → Prop
 | .cells l e rw => l ≠ [] → ∃ rw' cur q, H loc.blk = some (rw', .cells cur q.1 q.2) ∧ (rw = true → rw' = true ∧ q = (e, 0, 0)) ∧ ∀ (j : Nat) a, l[j]? = some a → ∃ y, cur[loc.base + j]? = some y ∧ RelV φ n a y
 | .row l e size => (loc.cap = 0 → l = []) ∧ loc.base = 0 ∧ (0 < loc.cap → ∃ cur, H loc.blk = some (true, .cells cur e (0, 0)) ∧ cur.size = loc.cap * size ∧ loc.cap ≤ maxLen ∧ l.length ≤ cur.size ∧ ∀ (j : Nat) a, l[j]? = some a → ∃ y, cur[j]? = some y ∧ RelV φ n a y)
 | .raw o => H loc.blk = some (true, o)
 | .loop f env ps x y st pj => ∃ ts d, H loc.blk = some (true, .loop { state := st, pending := pj, fn := f, tmps := ts, params := ps, assign := x, body := y, defers := d }) ∧ RelL φ n env ts
 | .gone => True

structure RelH (φ : Nat → Loc3) (A : List AObj) (F H : Hp) : Prop where
 obj : ∀ (i : Nat) o, A[i]? = some o → RelO φ A.length (φ i) H o
 apart : ∀ (i j : Nat) o o', A[i]? = some o → A[j]? = some o' → i ≠ j → o.excl = true → o'.live = true → sol (φ i) o → sol (φ j) o' → (φ i).blk ≠ (φ j).blk
 fr : F.ext H
 frx : ∀ (i : Nat) o, A[i]? = some o → o.excl = true → sol (φ i) o → F (φ i).blk = none

theorem RelO.mono {φ φ' : Nat → Loc3} {n n' : Nat} (hA : Agr φ φ' n) (hn : n ≤ n') {loc : Loc3} {H H' : Hp} {o : AObj} (hH : o.live = true → sol loc o → H' loc.blk = H loc.blk) (h : RelO φ n loc H o) : RelO φ' n' loc H' o := by
 cases o with
 | cells l e rw' =>
  intro hl
  obtain ⟨rw'', cur, fz, h1, h2, h3⟩ := h hl
  exact ⟨rw'', cur, fz, (hH rfl hl).trans h1, h2, fun j a ha => let ⟨y, h4, h5⟩ := h3 j a ha; ⟨y, h4, h5.mono hA hn⟩⟩
 | row l e size =>
  obtain ⟨h0, h2, h⟩ := h
  refine ⟨h0, h2, fun hc => ?_⟩
  obtain ⟨cur, h1, h3, h4, h5, h6⟩ := h hc
  exact ⟨cur, (hH rfl hc).trans h1, h3, h4, h5, fun j a ha => let ⟨y, h7, h8⟩ := h6 j a ha; ⟨y, h7, h8.mono hA hn⟩⟩
 | raw o => exact (hH rfl trivial).trans h
 | loop f env ps x y st pj => obtain ⟨ts, d, h1, h2⟩ := h; exact ⟨ts, d, (hH rfl trivial).trans h1, h2.mono hA hn⟩
 | gone => trivial

/-- What is held more makes no difference. -/
theorem RelH.ext {φ : Nat → Loc3} {A : List AObj} {F H H' : Hp} (h : RelH φ A F H) (he : H.ext H') : RelH φ A F H' := by
 refine ⟨fun i o hi => ?_, h.apart, fun b x hb => he b x (h.fr b x hb), h.frx⟩
 have ho := h.obj i o hi
 cases o with
 | cells l e rw' => exact fun hl => let ⟨rw'', cur, fz, h1, h2⟩ := ho hl; ⟨rw'', cur, fz, he _ _ h1, h2⟩
 | row l e size => obtain ⟨h0, h2, ho⟩ := ho; exact ⟨h0, h2, fun hc => let ⟨cur, h1, h3⟩ := ho hc; ⟨cur, he _ _ h1, h3⟩⟩
 | raw o => exact he _ _ ho
 | loop f env ps x y st pj => obtain ⟨ts, d, h1, h2⟩ := ho; exact ⟨ts, d, he _ _ h1, h2⟩
 | gone => trivial

def upd3 (φ : Nat → Loc3) (i : Nat) (x : Loc3) : Nat → Loc3 := fun j => if j = i then x else φ j
theorem agr_upd3 (φ : Nat → Loc3) (n : Nat) (x : Loc3) : Agr φ (upd3 φ n x) n := fun i hi => by simp [upd3]; omega

theorem RelO.held {φ : Nat → Loc3} {n : Nat} {loc : Loc3} {H : Hp} {o : AObj} (h : RelO φ n loc H o) (hl : o.live = true) (hs : sol loc o) : ∃ x, H loc.blk = some x := by
 cases o with
 | cells l e rw' => obtain ⟨rw'', cur, fz, h1, _⟩ := h hs; exact ⟨_, h1⟩
 | row l e size => obtain ⟨cur, h1, _⟩ := h.2.2 hs; exact ⟨_, h1⟩
 | raw o => exact ⟨_, h⟩
 | loop f env ps x y st pj => obtain ⟨ts, d, h1, _⟩ := h; exact ⟨_, h1⟩
 | gone => cases hl

/-- A new object, in a new block. -/
theorem RelH.push {φ : Nat → Loc3} {A : List AObj} {F H : Hp} (h : RelH φ A F H) {r : Nat} (hr : H r = none) {loc : Loc3} (hloc : loc.blk = r) {o : AObj} {x : Bool × Obj} (ho : RelO (upd3 φ A.length loc) (A.length + 1) loc (H.put r x) o) :
  RelH (upd3 φ A.length loc) (A ++ [o]) F (H.put r x) := by
 have hlen : (A ++ [o]).length = A.length + 1 := by simp
 have hget : ∀ (i : Nat) o', (A ++ [o])[i]? = some o' → (i < A.length ∧ A[i]? = some o') ∨ (i = A.length ∧ o' = o) := fun i o' hi => by
  rcases Nat.lt_or_ge i A.length with hlt | hge
  ·rw [List.getElem?_append_left hlt] at hi; exact .inl ⟨hlt, hi⟩
  ·rw [List.getElem?_append_right hge] at hi
   have : i - A.length = 0 := by
    have := (List.getElem?_eq_some_iff.1 hi).1
    simp at this
    omega
   rw [this] at hi
   simp at hi
   exact .inr ⟨by omega, hi.symm⟩
 have hold : ∀ i, i < A.length → upd3 φ A.length loc i = φ i := fun i hi => by simp [upd3]; omega
 have hnew : upd3 φ A.length loc A.length = loc := by simp [upd3]
 have hne : ∀ (i : Nat) o', A[i]? = some o' → o'.live = true → sol (φ i) o' → (φ i).blk ≠ r := fun i o' hi hl hs e => by
  obtain ⟨y, hy⟩ := (h.obj i o' hi).held hl hs
  rw [e, hr] at hy; cases hy
 have hFr : F r = none := by
  cases e : F r with
  | none => rfl
  | some y => have := h.fr r y e; rw [hr] at this; cases this
 refine ⟨fun i o' hi => ?_, fun i j o1 o2 hi hj hij he hl hs1 hs2 => ?_, Hp.ext_put h.fr hFr x, fun i o' hi he hs => ?_⟩
 rotate_left 2
 ·rcases hget i o' hi with ⟨hlt, hi'⟩ | ⟨rfl, rfl⟩
  ·rw [hold i hlt] at hs ⊢; exact h.frx i o' hi' he hs
  ·rw [hnew, hloc]; exact hFr
 ·rw [hlen]
  rcases hget i o' hi with ⟨hlt, hi'⟩ | ⟨rfl, rfl⟩
  ·rw [hold i hlt]
   exact (h.obj i o' hi').mono (agr_upd3 φ _ loc) (by omega) (fun hl hs => Hp.put_other _ _ (hne i o' hi' hl hs))
  ·rw [hnew]; exact ho
 ·rcases hget i o1 hi with ⟨hi1, hi'⟩ | ⟨rfl, rfl⟩
  ·rcases hget j o2 hj with ⟨hj1, hj'⟩ | ⟨rfl, rfl⟩
   ·rw [hold i hi1] at hs1 ⊢; rw [hold j hj1] at hs2 ⊢; exact h.apart i j o1 o2 hi' hj' hij he hl hs1 hs2
   ·rw [hold i hi1] at hs1 ⊢; rw [hnew, hloc]
    refine hne i o1 hi' ?_ hs1
    cases o1 <;> first | rfl | (simp [AObj.excl] at he)
  ·rcases hget j o2 hj with ⟨hj1, hj'⟩ | ⟨rfl, _⟩
   ·rw [hold j hj1] at hs2 ⊢; rw [hnew, hloc]
    exact Ne.symm (hne j o2 hj' hl hs2)
   ·exact absurd rfl hij

/-- An object of one's own turns. -/
theorem RelH.set {φ : Nat → Loc3} {A : List AObj} {F H : Hp} (h : RelH φ A F H) {i : Nat} {o o' : AObj} (hi : A[i]? = some o) (hx : o.excl = true) (hs : sol (φ i) o) {x : Bool × Obj} (ho : RelO φ A.length (φ i) (H.put (φ i).blk x) o') :
  RelH φ (A.set i o') F (H.put (φ i).blk x) := by
 have hlt : i < A.length := (List.getElem?_eq_some_iff.1 hi).1
 have hget : ∀ (j : Nat) q, (A.set i o')[j]? = some q → (j ≠ i ∧ A[j]? = some q) ∨ (j = i ∧ q = o') := fun j q hj => by
  rw [List.getElem?_set] at hj
  split at hj
  ·rename_i e
   subst e
   simp [hlt] at hj
   exact .inr ⟨rfl, hj.symm⟩
  ·rename_i e
   exact .inl ⟨Ne.symm e, hj⟩
 refine ⟨fun j q hj => ?_, fun j k q1 q2 hj hk hjk he hl hs1 hs2 => ?_, Hp.ext_put h.fr (h.frx i o hi hx hs) x, fun j q hj he hsj => ?_⟩
 rotate_left 2
 ·rcases hget j q hj with ⟨_, hj'⟩ | ⟨rfl, rfl⟩
  ·exact h.frx j q hj' he hsj
  ·exact h.frx j o hi hx hs
 ·rw [List.length_set]
  rcases hget j q hj with ⟨hne, hj'⟩ | ⟨rfl, rfl⟩
  ·refine (h.obj j q hj').mono (Agr.refl _ _) (Nat.le_refl _) fun hl hsj => Hp.put_other _ _ ?_
   exact Ne.symm (h.apart i j o q hi hj' (Ne.symm hne) hx hl hs hsj)
  ·exact ho
 ·rcases hget j q1 hj with ⟨hne, hj'⟩ | ⟨rfl, rfl⟩
  ·rcases hget k q2 hk with ⟨hne2, hk'⟩ | ⟨rfl, rfl⟩
   ·exact h.apart j k q1 q2 hj' hk' hjk he hl hs1 hs2
   ·refine Ne.symm (h.apart k j o q1 hi hj' (Ne.symm hjk) hx ?_ hs hs1)
    cases q1 <;> first | rfl | (simp [AObj.excl] at he)
  ·rcases hget k q2 hk with ⟨hne2, hk'⟩ | ⟨rfl, rfl⟩
   ·exact h.apart j k o q2 hi hk' hjk hx hl hs hs2
   ·exact absurd rfl hjk

/-- What is forgotten. -/
theorem RelH.drop {φ : Nat → Loc3} {A : List AObj} {F H : Hp} (h : RelH φ A F H) (i : Nat) : RelH φ (A.set i .gone) F H := by
 have hget : ∀ (j : Nat) q, (A.set i .gone)[j]? = some q → A[j]? = some q ∨ q = .gone := fun j q hj => by
  rw [List.getElem?_set] at hj
  split at hj
  ·split at hj
   ·exact .inr (Option.some.inj hj).symm
   ·cases hj
  ·exact .inl hj
 refine ⟨fun j q hj => ?_, fun j k q1 q2 hj hk hjk he hl hs1 hs2 => ?_, h.fr, fun j q hj he hs => ?_⟩
 rotate_left 2
 ·rcases hget j q hj with h1 | rfl
  ·exact h.frx j q h1 he hs
  ·cases he
 ·rw [List.length_set]
  rcases hget j q hj with h1 | rfl
  ·exact h.obj j q h1
  ·trivial
 ·rcases hget j q1 hj with h1 | rfl
  ·rcases hget k q2 hk with h2 | rfl
   ·exact h.apart j k q1 q2 h1 h2 hjk he hl hs1 hs2
   ·cases hl
  ·cases he
/-- A row of nothing, that lies nowhere. -/
theorem RelH.virt {φ : Nat → Loc3} {A : List AObj} {F H : Hp} (h : RelH φ A F H) (e : TypeId) (size : Nat) : RelH (upd3 φ A.length ⟨0, 0, 0⟩) (A ++ [.row [] e size]) F H := by
 have hlen : (A ++ [AObj.row [] e size]).length = A.length + 1 := by simp
 have hget : ∀ (i : Nat) o', (A ++ [AObj.row [] e size])[i]? = some o' → (i < A.length ∧ A[i]? = some o') ∨ (i = A.length ∧ o' = .row [] e size) := fun i o' hi => by
  rcases Nat.lt_or_ge i A.length with hlt | hge
  ·rw [List.getElem?_append_left hlt] at hi; exact .inl ⟨hlt, hi⟩
  ·rw [List.getElem?_append_right hge] at hi
   have : i - A.length = 0 := by
    have := (List.getElem?_eq_some_iff.1 hi).1
    simp at this
    omega
   rw [this] at hi
   simp at hi
   exact .inr ⟨by omega, hi.symm⟩
 have hold : ∀ i, i < A.length → upd3 φ A.length ⟨0, 0, 0⟩ i = φ i := fun i hi => by simp [upd3]; omega
 have hnew : upd3 φ A.length ⟨0, 0, 0⟩ A.length = ⟨0, 0, 0⟩ := by simp [upd3]
 refine ⟨fun i o' hi => ?_, fun i j o1 o2 hi hj hij he hl hs1 hs2 => ?_, h.fr, fun i o' hi he hs => ?_⟩
 ·rw [hlen]
  rcases hget i o' hi with ⟨hlt, hi'⟩ | ⟨rfl, rfl⟩
  ·rw [hold i hlt]; exact (h.obj i o' hi').mono (agr_upd3 φ _ _) (by omega) (fun _ _ => rfl)
  ·rw [hnew]; exact ⟨fun _ => rfl, rfl, fun hc => absurd hc (by simp)⟩
 ·rcases hget i o1 hi with ⟨hi1, hi'⟩ | ⟨rfl, rfl⟩
  ·rcases hget j o2 hj with ⟨hj1, hj'⟩ | ⟨rfl, rfl⟩
   ·rw [hold i hi1] at hs1 ⊢; rw [hold j hj1] at hs2 ⊢; exact h.apart i j o1 o2 hi' hj' hij he hl hs1 hs2
   ·rw [hnew] at hs2; exact absurd hs2 (by simp [sol])
  ·rw [hnew] at hs1; exact absurd hs1 (by simp [sol])
 ·rcases hget i o' hi with ⟨hlt, hi'⟩ | ⟨rfl, rfl⟩
  ·rw [hold i hlt] at hs ⊢; exact h.frx i o' hi' he hs
  ·rw [hnew] at hs; exact absurd hs (by simp [sol])
end Go.Vel
end
section
set_option linter.all false
set_option maxRecDepth 20000
set_option maxHeartbeats 60000000
namespace Go.Vel
open Go Go.Conc

section
variable {P : Program} {H : Hp}

theorem wpS_bind_eq {α β : Type} (s : Sem α) (f : α → Sem β) (Q : β → Hp → Prop) : wpS P s H (fun a H' => wpS P (f a) H' Q) → wpS P (s >>= f) H Q := wpS_bind s f H Q
theorem wpS_pure {α : Type} (a : α) (Q : α → Hp → Prop) : wpS P (pure a) H Q = Q a H := rfl
theorem wpS_underlying {t : TypeId} {d : TypeDesc} (h : P.underlying t = some d) {Q : TypeDesc → Hp → Prop} (hq : Q d H) : wpS P (underlying t) H Q := by
 show wpS P (match P.underlying t with | some d => pure d | none => stuck "no such type") H Q
 rw [h]; exact hq
theorem wpS_typeInfo {t : TypeId} {i : TypeInfo} (h : P.info? t = some i) {Q : TypeInfo → Hp → Prop} (hq : Q i H) : wpS P (typeInfo t) H Q := by
 show wpS P (match P.info? t with | some i => pure i | none => stuck "no such type") H Q
 rw [h]; exact hq
theorem wpS_sizeOf {t : TypeId} {i : TypeInfo} (h : P.info? t = some i) {Q : Nat → Hp → Prop} (hq : Q i.size H) : wpS P (sizeOf t) H Q := by
 unfold sizeOf
 exact wpS_bind_eq _ _ _ (wpS_typeInfo h hq)
theorem wpS_zeroValue {t : TypeId} {i : TypeInfo} {z : Value} (h : P.info? t = some i) (hz : i.zero = some z) {Q : Value → Hp → Prop} (hq : Q z H) : wpS P (zeroValue t) H Q := by
 unfold zeroValue
 refine wpS_bind_eq _ _ _ (wpS_typeInfo h ?_)
 rw [hz]; exact hq
def isAggD : TypeDesc → Bool | .struct _ | .array _ _ => true | _ => false
theorem wpS_isAgg {t : TypeId} {d : TypeDesc} (h : P.underlying t = some d) {Q : Bool → Hp → Prop} (hq : Q (isAggD d) H) : wpS P (isAgg t) H Q := by
 unfold isAgg
 refine wpS_bind_eq _ _ _ (wpS_underlying h ?_)
 cases d <;> exact hq

/-! ### what is to be known of a type -/
/-- Whether it is a struct or an array; its size in cells. -/
def tySize (P : Program) (t : TypeId) : Option (Bool × Nat) :=
 match P.info? t, P.underlying t with
 | some i, some d => some (isAggD d, i.size)
 | _, _ => none
theorem tySize_spec {t : TypeId} {g : Bool} {n : Nat} (h : tySize P t = some (g, n)) : ∃ i d, P.info? t = some i ∧ P.underlying t = some d ∧ isAggD d = g ∧ i.size = n := by
 unfold tySize at h
 split at h
 ·rename_i i d h1 h2; cases h; exact ⟨i, d, h1, h2, rfl, rfl⟩
 ·cases h
def tyZero (P : Program) (t : TypeId) : Option (List Value) := (P.info? t).bind fun i => i.zero.map fun z => z.cells.toList
theorem tyZero_spec {t : TypeId} {l : List Value} (h : tyZero P t = some l) : ∃ i z, P.info? t = some i ∧ i.zero = some z ∧ z.cells.toList = l := by
 unfold tyZero at h
 cases e : P.info? t with
 | none => rw [e] at h; cases h
 | some i =>
  rw [e] at h
  simp only [Option.bind_some] at h
  cases e2 : i.zero with
  | none => rw [e2] at h; cases h
  | some z => rw [e2] at h; cases h; exact ⟨i, z, rfl, e2, rfl⟩
/-- A field's place, whether it is a struct or an array, and its size. -/
def fieldOf (P : Program) (t : TypeId) (k : Nat) : Option (Nat × Bool × Nat) :=
 match P.underlying t with
 | some (.struct fs) => (fs[k]?).bind fun f => (tySize P f.type).map fun (g, n) => (f.offset, g, n)
 | _ => none
theorem fieldOf_spec {t : TypeId} {k off n : Nat} {g : Bool} (h : fieldOf P t k = some (off, g, n)) : ∃ fs f, P.underlying t = some (.struct fs) ∧ fs[k]? = some f ∧ f.offset = off ∧ tySize P f.type = some (g, n) := by
 unfold fieldOf at h
 split at h
 ·rename_i fs h1
  cases e : fs[k]? with
  | none => rw [e] at h; cases h
  | some f =>
   rw [e] at h
   simp only [Option.bind_some] at h
   cases e2 : tySize P f.type with
   | none => rw [e2] at h; cases h
   | some x =>
    obtain ⟨g', n'⟩ := x
    rw [e2] at h
    cases h
    exact ⟨fs, f, h1, e, rfl, e2⟩
 ·cases h
/-- A slice's element type, and its size in cells. -/
def slElem (P : Program) (t : TypeId) : Option (TypeId × Nat) :=
 match P.underlying t with
 | some (.slice e) => (P.info? e).map fun i => (e, i.size)
 | _ => none
theorem slElem_spec {t e : TypeId} {n : Nat} (h : slElem P t = some (e, n)) : ∃ i, P.underlying t = some (.slice e) ∧ P.info? e = some i ∧ i.size = n := by
 unfold slElem at h
 split at h
 ·rename_i e' h1
  cases e2 : P.info? e' with
  | none => rw [e2] at h; cases h
  | some i => rw [e2] at h; cases h; exact ⟨i, h1, e2, rfl⟩
 ·cases h
/-- An array's length, its element type, whether that is a struct or an array, and its size. -/
def arrElem (P : Program) (t : TypeId) : Option (Nat × TypeId × Bool × Nat) :=
 match P.underlying t with
 | some (.array n e) => (tySize P e).map fun (g, k) => (n, e, g, k)
 | _ => none
theorem arrElem_spec {t e : TypeId} {n k : Nat} {g : Bool} (h : arrElem P t = some (n, e, g, k)) : P.underlying t = some (.array n e) ∧ tySize P e = some (g, k) := by
 unfold arrElem at h
 split at h
 ·rename_i n' e' h1
  cases e2 : tySize P e' with
  | none => rw [e2] at h; cases h
  | some x => obtain ⟨g', k'⟩ := x; rw [e2] at h; cases h; exact ⟨h1, e2⟩
 ·cases h

/-! ### loads and stores of several cells -/
theorem add_off (b off i : Nat) : (⟨b, off, none⟩ : Addr).add i = ⟨b, off + i, none⟩ := by
 unfold Addr.add
 split
 ·rename_i h; subst h; rfl
 ·rfl

theorem wpS_loadCellsFrom {b off : Nat} {rw' : Bool} {cur : Array Value} {e : TypeId} {fz : Nat × Nat} (hb : H b = some (rw', .cells cur e fz)) {Q : Array Value → Hp → Prop} :
  ∀ (ys : List Value) (i : Nat) (acc : Array Value), (∀ (j : Nat) y, ys[j]? = some y → cur[off + (i + j)]? = some y) → Q (acc ++ ys.toArray) H → wpS P (loadCellsFrom ⟨b, off, none⟩ i ys.length acc) H Q
 | [], i, acc, _, hq => by simpa [loadCellsFrom, wpS_pure] using hq
 | y :: ys, i, acc, h, hq => by
  show wpS P (loadCellsFrom ⟨b, off, none⟩ i (ys.length + 1) acc) H Q
  unfold loadCellsFrom
  refine wpS_bind_eq _ _ _ ?_
  refine ⟨rw', cur, e, fz, y, ?_, ?_, ?_, ?_⟩
  ·rw [add_off]; exact hb
  ·rw [add_off]
  ·rw [add_off]; simpa using h 0 y rfl
  ·refine wpS_loadCellsFrom hb ys (i + 1) (acc.push y) (fun j z hz => ?_) ?_
   ·have := h (j + 1) z hz
    rwa [show off + (i + 1 + j) = off + (i + (j + 1)) by omega]
   ·have e1 : acc.push y ++ ys.toArray = acc ++ (y :: ys).toArray := by
     apply Array.ext'
     simp
    rw [e1]; exact hq
theorem wpS_loadCells {b off : Nat} {rw' : Bool} {cur : Array Value} {e : TypeId} {fz : Nat × Nat} (hb : H b = some (rw', .cells cur e fz)) {Q : Array Value → Hp → Prop} (ys : List Value) (h : ∀ (j : Nat) y, ys[j]? = some y → cur[off + j]? = some y) (hq : Q ys.toArray H) :
  wpS P (loadCells ⟨b, off, none⟩ ys.length) H Q := by
 refine wpS_loadCellsFrom hb ys 0 #[] (fun j y hy => by rw [Nat.zero_add]; exact h j y hy) ?_
 rwa [Array.empty_append]

/-- Cells with some of them anew. -/
def setCs (cur : Array Value) (off : Nat) : List Value → Array Value
 | [] => cur
 | y :: ys => setCs (cur.setIfInBounds off y) (off + 1) ys
theorem setCs_size (off : Nat) : ∀ (ys : List Value) (cur : Array Value) , (setCs cur off ys).size = cur.size := by
 intro ys
 induction ys generalizing off with
 | nil => intro cur; rfl
 | cons y ys ih => intro cur; rw [setCs, ih, Array.size_setIfInBounds]
theorem setCs_get : ∀ (ys : List Value) (cur : Array Value) (off j : Nat), off + ys.length ≤ cur.size → (setCs cur off ys)[j]? = if off ≤ j ∧ j < off + ys.length then ys[j - off]? else cur[j]? := by
 intro ys
 induction ys with
 | nil => intro cur off j _; simp [setCs]; omega
 | cons y ys ih =>
  intro cur off j h
  rw [setCs, ih _ _ _ (by simp at h ⊢; omega)]
  simp only [List.length_cons] at h ⊢
  by_cases h1 : off + 1 ≤ j ∧ j < off + 1 + ys.length
  ·rw [if_pos h1, if_pos (by omega), show j - off = (j - (off + 1)) + 1 by omega, List.getElem?_cons_succ]
  ·rw [if_neg h1]
   by_cases h2 : j = off
   ·subst h2
    rw [if_pos (by omega), Nat.sub_self, List.getElem?_cons_zero, Array.getElem?_setIfInBounds_self_of_lt (by omega)]
   ·rw [if_neg (by omega), Array.getElem?_setIfInBounds_ne (Ne.symm h2)]

theorem wpS_storeCells {b off : Nat} {e : TypeId} {Q : Unit → Hp → Prop} :
  ∀ (ys : List Value) (i : Nat) (cur : Array Value) (H : Hp), H b = some (true, .cells cur e (0, 0)) → off + i + ys.length ≤ cur.size → (∀ y ∈ ys, oneCell y = true) →
   Q () (H.put b (true, .cells (setCs cur (off + i) ys) e (0, 0))) → wpS P (storeCells ⟨b, off, none⟩ ys i) H Q
 | [], i, cur, H, hb, _, _, hq => by
  have : H.put b (true, .cells (setCs cur (off + i) []) e (0, 0)) = H := by
   funext c
   unfold Hp.put
   split
   ·rename_i h; rw [h, hb]; rfl
   ·rfl
  rw [this] at hq
  exact hq
 | y :: ys, i, cur, H, hb, hsz, h1, hq => by
  unfold storeCells
  refine wpS_bind_eq _ _ _ ?_
  simp only [List.length_cons] at hsz
  refine ⟨h1 y (by simp), cur, e, 0, 0, ?_, ?_, ?_, ?_, ?_⟩
  ·rw [add_off]; exact hb
  ·rw [add_off]
  ·rw [add_off]; show off + i < cur.size; omega
  ·simp
  ·rw [add_off]
   refine wpS_storeCells ys (i + 1) (cur.setIfInBounds (off + i) y) _ (Hp.put_same _ _ _) (by simp; omega) (fun z hz => h1 z (by simp [hz])) ?_
   rw [Hp.put_put]
   rw [setCs] at hq
   rwa [show off + (i + 1) = off + i + 1 by omega]
end
end Go.Vel
end
section
set_option linter.all false
set_option maxRecDepth 20000
set_option maxHeartbeats 60000000
namespace Go.Vel
open Go Go.Conc

/-! ### operands -/
def opnd (gm : Nat → Option Nat) (env : List AV) : Operand → AV
 | .tmp t => env.getD t .any
 | .const v => .v v
 | .global g => match gm g with | some i => .ptr i 0 | none => .v (.pointer (some ⟨g, 0, none⟩))
 | .func f => .fn f [] []

theorem relL_nil (φ : Nat → Loc3) (n : Nat) : RelL φ n [] #[] := ⟨rfl, fun j a y h => by simp at h⟩

theorem RelL.get {φ : Nat → Loc3} {n : Nat} {l : List AV} {ys : Array Value} (h : RelL φ n l ys) {j : Nat} {a : AV} (ha : l[j]? = some a) : ∃ y, ys[j]? = some y ∧ RelV φ n a y := by
 have hlt : j < ys.size := by rw [← h.1]; exact (List.getElem?_eq_some_iff.1 ha).1
 exact ⟨ys[j], Array.getElem?_eq_getElem hlt, h.2 j a _ ha (Array.getElem?_eq_getElem hlt)⟩
theorem RelL.back {φ : Nat → Loc3} {n : Nat} {l : List AV} {ys : Array Value} (h : RelL φ n l ys) {j : Nat} {y : Value} (hy : ys[j]? = some y) : ∃ a, l[j]? = some a ∧ RelV φ n a y := by
 have hlt : j < l.length := by rw [h.1]; exact (Array.getElem?_eq_some_iff.1 hy).1
 exact ⟨l[j], List.getElem?_eq_getElem hlt, h.2 j _ y (List.getElem?_eq_getElem hlt) hy⟩

/-- Which object a package-level variable is. -/
def RelG (gm : Nat → Option Nat) (φ : Nat → Loc3) (n : Nat) : Prop := ∀ g i, gm g = some i → i < n ∧ (φ i).blk = g ∧ (φ i).base = 0
theorem RelG.mono {gm : Nat → Option Nat} {φ φ' : Nat → Loc3} {n n' : Nat} (h : RelG gm φ n) (hA : Agr φ φ' n) (hn : n ≤ n') : RelG gm φ' n' := fun g i hi => by
 obtain ⟨h1, h2, h3⟩ := h g i hi
 rw [hA i h1]
 exact ⟨by omega, h2, h3⟩

theorem opnd_rel {gm : Nat → Option Nat} {φ : Nat → Loc3} {n : Nat} {env : List AV} {a : Act} (hg : RelG gm φ n) (h : RelL φ n env a.tmps) (x : Operand) : RelV φ n (opnd gm env x) (a.eval x) := by
 cases x with
 | tmp t =>
  simp only [opnd, Act.eval]
  cases e : env[t]? with
  | none => rw [List.getD_eq_getElem?_getD, e]; exact .any _
  | some v =>
   obtain ⟨y, hy, hr⟩ := h.get e
   rw [List.getD_eq_getElem?_getD, e, Array.getD_eq_getD_getElem?, hy]
   exact hr
 | const v => exact .v v
 | global g =>
  simp only [opnd, Act.eval]
  split
  ·rename_i i e
   obtain ⟨h1, h2, h3⟩ := hg g i e
   have := RelV.ptr (φ := φ) (off := 0) h1
   rwa [h2, h3] at this
  ·exact .v _
 | func f => exact .fn rfl (fun j a y h => by simp at h) rfl (fun j a y h => by simp at h)

theorem relL_map {gm : Nat → Option Nat} {φ : Nat → Loc3} {n : Nat} {env : List AV} {a : Act} (hg : RelG gm φ n) (h : RelL φ n env a.tmps) (xs : Array Operand) : RelL φ n (xs.toList.map (opnd gm env)) (xs.map a.eval) := by
 refine ⟨by simp, fun j u y hu hy => ?_⟩
 rw [List.getElem?_map] at hu
 rw [Array.getElem?_map] at hy
 rw [Array.getElem?_toList] at hu
 cases e : xs[j]? with
 | none => rw [e] at hu; cases hu
 | some x =>
  rw [e] at hu hy
  cases hu; cases hy
  exact opnd_rel hg h x

/-- A slot is laid anew. -/
def putA (env : List AV) (d : Option Tmp) (r : AV) : List AV := match d with | some d => env.set d r | none => env
theorem put_rel {φ : Nat → Loc3} {n : Nat} {env : List AV} {a : Act} (h : RelL φ n env a.tmps) {r : AV} {v : Value} (hr : RelV φ n r v) (d : Option Tmp) : RelL φ n (putA env d r) (a.put d v).tmps := by
 cases d with
 | none => exact h
 | some d =>
  simp only [putA, Act.put]
  refine ⟨by simp [h.1], fun j u y hu hy => ?_⟩
  rw [List.getElem?_set] at hu
  by_cases hj : d = j
  ·subst hj
   rw [if_pos rfl] at hu
   split at hu
   ·rename_i hlt
    cases hu
    rw [Array.getElem?_setIfInBounds_self_of_lt (by rw [← h.1]; exact hlt)] at hy
    cases hy
    exact hr
   ·cases hu
  ·rw [if_neg hj] at hu
   rw [Array.getElem?_setIfInBounds_ne hj] at hy
   exact h.2 j u y hu hy

/-! ### values that lead nowhere -/
def toVs : List AV → Option (List Value)
 | [] => some []
 | .v x :: l => match toVs l with | some zs => some (x :: zs) | none => none
 | _ :: _ => none
def toV : AV → Option Value
 | .v x => some x
 | .agg l => match toVs l with | some zs => some (.agg zs.toArray) | none => none
 | _ => none

theorem toVs_get : ∀ {l : List AV} {zs : List Value}, toVs l = some zs → l = zs.map AV.v
 | [], zs, h => by cases h; rfl
 | .v x :: l, zs, h => by
  simp only [toVs] at h
  split at h
  ·rename_i zs' e
   cases h
   rw [toVs_get e]
   rfl
  ·cases h
 | .ptr _ _ :: _, _, h => by cases h
 | .sl _ _ _ :: _, _, h => by cases h
 | .row _ _ :: _, _, h => by cases h
 | .agg _ :: _, _, h => by cases h
 | .tup _ :: _, _, h => by cases h
 | .fn _ _ _ :: _, _, h => by cases h
 | .e0 :: _, _, h => by cases h
 | .z0 :: _, _, h => by cases h
 | .map _ :: _, _, h => by cases h
 | .yl _ :: _, _, h => by cases h
 | .chan _ :: _, _, h => by cases h
 | .any :: _, _, h => by cases h

theorem toV_rel {φ : Nat → Loc3} {n : Nat} {a : AV} {x y : Value} (h : toV a = some x) (hr : RelV φ n a y) : y = x := by
 cases hr with
 | v z => cases h; rfl
 | @agg l ys hl hrel =>
  simp only [toV] at h
  split at h
  ·rename_i zs e
   cases h
   congr 1
   have hm := toVs_get e
   subst hm
   apply Array.ext_getElem?
   intro j
   by_cases hj : j < ys.size
   ·have hjz : j < zs.length := by rw [List.length_map] at hl; omega
    have h3 := hrel j (.v zs[j]) ys[j] (by simp [hjz]) (Array.getElem?_eq_getElem hj)
    rw [Array.getElem?_eq_getElem hj]
    simp only [List.getElem?_toArray, List.getElem?_eq_getElem hjz]
    generalize ys[j] = q at h3 ⊢
    generalize zs[j] = p at h3 ⊢
    cases h3
    rfl
   ·rw [List.length_map] at hl
    rw [Array.getElem?_eq_none (by omega)]
    simp only [List.getElem?_toArray]
    rw [List.getElem?_eq_none (by omega)]
  ·cases h
 | _ => cases h

/-- What an operation comes to that looks at nothing. -/
def pureS {α : Type} (P : Program) : Sem α → Option α
 | .pure a => some a
 | .program k => pureS P (k P)
 | _ => none
theorem pureS_wpS {α : Type} {P : Program} (s : Sem α) : ∀ {a : α} {H : Hp} {Q : α → Hp → Prop}, pureS P s = some a → Q a H → wpS P s H Q := by
 induction s with
 | pure b => intro a H Q h hq; cases h; exact hq
 | program k ih => intro a H Q h hq; exact ih P h hq
 | _ => intro a H Q h; cases h
end Go.Vel
end
section
set_option linter.all false
set_option maxRecDepth 20000
set_option maxHeartbeats 60000000
namespace Go.Vel
open Go Go.Conc

/-! ### the cells of a value -/
def cellsA : AV → Option (List AV)
 | .any => none
 | .tup _ => none
 | .agg l => some l
 | .v (.agg ys) => some (ys.toList.map .v)
 | .v (.tuple _) => none
 | a => some [a]

theorem relL_one {φ : Nat → Loc3} {n : Nat} {a : AV} {y : Value} (h : RelV φ n a y) : RelL φ n [a] #[y] := ⟨rfl, fun j u z hu hz => by
 cases j with
 | zero => simp at hu hz; subst hu hz; exact h
 | succ j => simp at hu⟩

theorem relL_vs (φ : Nat → Loc3) (n : Nat) (ys : Array Value) : RelL φ n (ys.toList.map .v) ys := ⟨by simp, fun j u z hu hz => by
 rw [List.getElem?_map, Array.getElem?_toList, hz] at hu
 cases hu
 exact .v z⟩

theorem rowV_slice {loc : Loc3} {len : Nat} {y : Value} (h : rowV loc len y) : ∃ b n c, y = .slice b n c := by
 unfold rowV at h
 split at h
 ·obtain ⟨b, e⟩ := h; exact ⟨_, _, _, e⟩
 ·exact ⟨_, _, _, h⟩
theorem rowV_len {loc : Loc3} {len : Nat} {y : Value} (hl : len ≤ loc.cap) (h : rowV loc len y) : ∃ b c, y = .slice b len c := by
 unfold rowV at h
 split at h
 ·obtain ⟨b, e⟩ := h
  obtain rfl : len = 0 := by omega
  exact ⟨_, _, e⟩
 ·exact ⟨_, _, h⟩
theorem rowV_pos {loc : Loc3} {len : Nat} {y : Value} (hc : 0 < loc.cap) (h : rowV loc len y) : y = .slice (some ⟨loc.blk, 0, none⟩) len loc.cap := by
 unfold rowV at h
 rwa [if_neg (by omega)] at h
theorem cellsA_rel {φ : Nat → Loc3} {n : Nat} {a : AV} {l : List AV} {y : Value} (h : cellsA a = some l) (hr : RelV φ n a y) : RelL φ n l y.cells := by
 cases hr with
 | any => cases h
 | tup => cases h
 | agg h1 h2 => cases h; exact ⟨h1, h2⟩
 | v =>
  cases y <;> first
   | (cases h; exact relL_one (.v _))
   | (cases h; exact relL_vs φ n _)
   | (cases h)
 | ptr hi => cases h; exact relL_one (.ptr hi)
 | sl hi hl hb => cases h; exact relL_one (.sl hi hl hb)
 | row hi hl hv =>
  cases h
  obtain ⟨b, n, c, rfl⟩ := rowV_slice hv
  exact relL_one (.row hi hl hv)
 | fn h1 h2 h3 h4 => cases h; exact relL_one (.fn h1 h2 h3 h4)
 | e0 a c => cases h; exact relL_one (.e0 a c)
 | z0 a => cases h; exact relL_one (.z0 a)
 | map hi => cases h; exact relL_one (.map hi)
 | yl hi => cases h; exact relL_one (.yl hi)
 | chan hi => cases h; exact relL_one (.chan hi)

def oneA : AV → Bool
 | .v x => oneCell x
 | .ptr .. | .sl .. | .row .. | .fn .. | .e0 | .z0 | .map _ | .yl _ | .chan _ => true
 | _ => false
theorem oneA_rel {φ : Nat → Loc3} {n : Nat} {a : AV} {y : Value} (h : oneA a = true) (hr : RelV φ n a y) : oneCell y = true := by
 cases hr with
 | row hi hl hv => obtain ⟨b, n, c, rfl⟩ := rowV_slice hv; rfl
 | v => exact h
 | any => cases h
 | tup => cases h
 | agg => cases h
 | _ => rfl

/-! ### looking into objects -/
def AObj.look : AObj → Option (List AV)
 | .cells l _ _ => some l
 | .row l _ _ => some l
 | .raw _ => none
 | .loop .. => none
 | .gone => none

theorem RelO.look {φ : Nat → Loc3} {n : Nat} {loc : Loc3} {H : Hp} {o : AObj} {l : List AV} (h : RelO φ n loc H o) (hl : o.look = some l) (hpos : 0 < l.length) :
  ∃ rw' cur e fz, H loc.blk = some (rw', .cells cur e fz) ∧ ∀ (j : Nat) a, l[j]? = some a → ∃ y, cur[loc.base + j]? = some y ∧ RelV φ n a y := by
 cases o with
 | cells l' e rw' => cases hl; obtain ⟨rw'', cur, fz, h1, _, h3⟩ := h (by intro e; rw [e] at hpos; simp at hpos); exact ⟨_, _, _, _, h1, h3⟩
 | row l' e size => 
  cases hl
  obtain ⟨h0, h2, h⟩ := h
  have hc : 0 < loc.cap := by
   rcases Nat.eq_zero_or_pos loc.cap with e | e
   ·rw [h0 e] at hpos; simp at hpos
   ·exact e
  obtain ⟨cur, h1, _, _, _, h6⟩ := h hc
  exact ⟨_, _, _, _, h1, fun j a ha => by rw [h2, Nat.zero_add]; exact h6 j a ha⟩
 | raw o => cases hl
 | loop f env ps x y st pj => cases hl
 | gone => cases hl

/-- n cells of object i, from off on. -/
def loadA (A : List AObj) (i off n : Nat) : Option (List AV) :=
 match A[i]? with
 | some o => match o.look with
  | some l => if 0 < n ∧ off + n ≤ l.length then some ((l.drop off).take n) else none
  | none => none
 | none => none

theorem loadA_rel {φ : Nat → Loc3} {A : List AObj} {F H : Hp} {i off n : Nat} {l : List AV} (hH : RelH φ A F H) (h : loadA A i off n = some l) :
  l.length = n ∧ ∃ (rw' : Bool) (cur : Array Value) (e : TypeId) (fz : Nat × Nat) (ys : List Value), H (φ i).blk = some (rw', .cells cur e fz) ∧ ys.length = n ∧ RelL φ A.length l ys.toArray ∧ ∀ (j : Nat) y, ys[j]? = some y → cur[(φ i).base + off + j]? = some y := by
 unfold loadA at h
 split at h
 ·rename_i o ho
  split at h
  ·rename_i l' hl'
   split at h
   ·rename_i hle
    obtain ⟨hn0, hle⟩ := hle
    cases h
    obtain ⟨rw', cur, e, fz, h1, h2⟩ := (hH.obj i o ho).look hl' (by omega)
    have hlen : ((l'.drop off).take n).length = n := by simp; omega
    refine ⟨hlen, rw', cur, e, fz, (List.range n).map fun j => (cur[(φ i).base + off + j]?).getD undef, h1, by simp, ⟨by simp; omega, fun j a y ha hy => ?_⟩, fun j y hy => ?_⟩
    ·have hj : j < n := by rw [← hlen]; exact (List.getElem?_eq_some_iff.1 ha).1
     rw [List.getElem?_take, if_pos hj, List.getElem?_drop] at ha
     obtain ⟨z, hz, hr⟩ := h2 (off + j) a ha
     simp only [List.getElem?_toArray, List.getElem?_map, List.getElem?_range hj, Option.map_some, Option.some.injEq] at hy
     rw [show (φ i).base + off + j = (φ i).base + (off + j) by omega, hz] at hy
     cases hy; exact hr
    ·have hj : j < n := by have := (List.getElem?_eq_some_iff.1 hy).1; simpa using this
     rw [List.getElem?_map, List.getElem?_range hj] at hy
     have hlt : off + j < l'.length := by omega
     obtain ⟨z, hz, _⟩ := h2 (off + j) l'[off + j] (List.getElem?_eq_getElem hlt)
     simp only [Option.map_some, Option.some.injEq] at hy
     rw [show (φ i).base + off + j = (φ i).base + (off + j) by omega] at hy ⊢
     rw [hz] at hy ⊢
     exact congrArg some hy
   ·cases h
  ·cases h
 ·cases h

/-- Cells of object i are laid anew. -/
def setL (l : List AV) (off : Nat) : List AV → List AV
 | [] => l
 | v :: vs => setL (l.set off v) (off + 1) vs
theorem setL_length (off : Nat) : ∀ (vs l : List AV), (setL l off vs).length = l.length := by
 intro vs
 induction vs generalizing off with
 | nil => intro l; rfl
 | cons v vs ih => intro l; rw [setL, ih, List.length_set]
theorem setL_get : ∀ (vs l : List AV) (off j : Nat), off + vs.length ≤ l.length → (setL l off vs)[j]? = if off ≤ j ∧ j < off + vs.length then vs[j - off]? else l[j]? := by
 intro vs
 induction vs with
 | nil => intro l off j _; simp [setL]; omega
 | cons y ys ih =>
  intro l off j h
  rw [setL, ih _ _ _ (by simp at h ⊢; omega)]
  simp only [List.length_cons] at h ⊢
  by_cases h1 : off + 1 ≤ j ∧ j < off + 1 + ys.length
  ·rw [if_pos h1, if_pos (by omega), show j - off = (j - (off + 1)) + 1 by omega, List.getElem?_cons_succ]
  ·rw [if_neg h1]
   by_cases h2 : j = off
   ·subst h2
    rw [if_pos (by omega), Nat.sub_self, List.getElem?_cons_zero, List.getElem?_set_self (by omega)]
   ·rw [if_neg (by omega), List.getElem?_set_ne (Ne.symm h2)]

def storeA (A : List AObj) (i off : Nat) (vs : List AV) : Option (List AObj) :=
 match A[i]? with
 | some (.cells l e true) => if off + vs.length ≤ l.length ∧ 0 < vs.length ∧ vs.all oneA = true then some (A.set i (.cells (setL l off vs) e true)) else none
 | some (.row l e size) => if off + vs.length ≤ l.length ∧ 0 < vs.length ∧ vs.all oneA = true then some (A.set i (.row (setL l off vs) e size)) else none
 | _ => none

theorem wpS_store {P : Program} {φ : Nat → Loc3} {A A' : List AObj} {F H : Hp} {i off : Nat} {vs : List AV} {ys : Array Value} (hH : RelH φ A F H) (h : storeA A i off vs = some A') (hr : RelL φ A.length vs ys) {Q : Unit → Hp → Prop}
  (hq : ∀ H', RelH φ A' F H' → A'.length = A.length → Q () H') : wpS P (storeCells ⟨(φ i).blk, (φ i).base + off, none⟩ ys.toList) H Q := by
 have hone : vs.all oneA = true → ∀ y ∈ ys.toList, oneCell y = true := fun hall y hy => by
  obtain ⟨j, hj⟩ := List.mem_iff_getElem?.1 hy
  rw [Array.getElem?_toList] at hj
  obtain ⟨a, ha, hra⟩ := hr.back hj
  exact oneA_rel (List.all_eq_true.1 hall a (List.mem_of_getElem? ha)) hra
 have hsz : ys.toList.length = vs.length := by rw [Array.length_toList]; exact hr.1.symm
 unfold storeA at h
 split at h
 ·rename_i l e ho
  split at h
  ·rename_i hc
   cases h
   have hne : l ≠ [] := by
    intro e
    have h1 := hc.1
    have h2 := hc.2.1
    rw [e, List.length_nil] at h1
    omega
   obtain ⟨rw', cur, fz, h1, h2, h3⟩ := hH.obj i _ ho hne
   obtain ⟨rfl, rfl⟩ := h2 rfl
   have hcur : (φ i).base + l.length ≤ cur.size := by
    obtain ⟨y, hy, _⟩ := h3 (l.length - 1) l[l.length - 1] (List.getElem?_eq_getElem (by omega))
    have := (Array.getElem?_eq_some_iff.1 hy).1
    omega
   refine wpS_storeCells ys.toList 0 cur H h1 (by omega) (hone hc.2.2) (hq _ ?_ (by simp))
   refine hH.set (o := .cells l e true) ho rfl hne ?_
   refine fun _ => ⟨true, _, _, Hp.put_same _ _ _, fun _ => ⟨rfl, rfl⟩, fun j a ha => ?_⟩
   rw [setL_get _ _ _ _ hc.1] at ha
   rw [Nat.add_zero, setCs_get _ _ _ _ (by omega)]
   by_cases hj : off ≤ j ∧ j < off + vs.length
   ·rw [if_pos hj] at ha
    rw [if_pos (by omega)]
    obtain ⟨y, hy, hra⟩ := hr.get ha
    refine ⟨y, ?_, hra⟩
    rw [Array.getElem?_toList, show (φ i).base + j - ((φ i).base + off) = j - off by omega]
    exact hy
   ·rw [if_neg hj] at ha
    rw [if_neg (by omega)]
    exact h3 j a ha
  ·cases h
 ·rename_i l e size ho
  split at h
  ·rename_i hc
   cases h
   obtain ⟨h0, h2, hrow⟩ := hH.obj i _ ho
   have hcap : 0 < (φ i).cap := by
    rcases Nat.eq_zero_or_pos (φ i).cap with e | e
    ·have hc1 := hc.1
     rw [h0 e, List.length_nil] at hc1
     have := hc.2.1
     omega
    ·exact e
   obtain ⟨cur, h1, h3, h4, h5, h6⟩ := hrow hcap
   refine wpS_storeCells ys.toList 0 cur H h1 (by omega) (hone hc.2.2) (hq _ ?_ (by simp))
   refine hH.set (o := .row l e size) ho rfl hcap ?_
   refine ⟨fun e => absurd e (by omega), h2, fun _ => ⟨_, Hp.put_same _ _ _, by rw [setCs_size]; exact h3, h4, by rw [setL_length, setCs_size]; exact h5, fun j a ha => ?_⟩⟩
   rw [setL_get _ _ _ _ hc.1] at ha
   rw [Nat.add_zero, setCs_get _ _ _ _ (by omega), h2, Nat.zero_add]
   by_cases hj : off ≤ j ∧ j < off + vs.length
   ·rw [if_pos hj] at ha
    rw [if_pos (by omega)]
    obtain ⟨y, hy, hra⟩ := hr.get ha
    refine ⟨y, ?_, hra⟩
    rw [Array.getElem?_toList]
    exact hy
   ·rw [if_neg hj] at ha
    rw [if_neg (by omega)]
    exact h6 j a ha
  ·cases h
 ·cases h
end Go.Vel
end
section
set_option linter.all false
set_option maxRecDepth 20000
set_option maxHeartbeats 60000000
namespace Go.Vel
open Go Go.Conc

/-- Behind an operation: the value, and the objects. -/
def OpPost (φ : Nat → Loc3) (A : List AObj) (F : Hp) (r : AV) (A' : List AObj) (nx : Next) (H' : Hp) : Prop :=
 ∃ v φ', (nx = .value v ∨ (nx = .skip ∧ v = undef)) ∧ Agr φ φ' A.length ∧ A.length ≤ A'.length ∧ RelH φ' A' F H' ∧ RelV φ' A'.length r v

section
variable {P : Program} {gm : Nat → Option Nat} {φ : Nat → Loc3} {A A' : List AObj} {F H : Hp} {env : List AV} {a : Act} {o : Oper} {r : AV}

theorem OpPost.quiet (hH : RelH φ A F H) {v : Value} (hv : RelV φ A.length r v) : OpPost φ A F r A (.value v) H := ⟨v, φ, .inl rfl, Agr.refl _ _, Nat.le_refl _, hH, hv⟩

theorem inv_ptr {n i off : Nat} {y : Value} (h : RelV φ n (.ptr i off) y) : i < n ∧ y = .pointer (some ⟨(φ i).blk, (φ i).base + off, none⟩) := by cases h; exact ⟨‹_›, rfl⟩
theorem inv_sl {n i off len : Nat} {y : Value} (h : RelV φ n (.sl i off len) y) : i < n ∧ ∃ cap b, len ≤ cap ∧ (0 < len → b = some ⟨(φ i).blk, (φ i).base + off, none⟩) ∧ y = .slice b len cap := by cases h; exact ⟨‹_›, _, _, ‹_›, ‹_›, rfl⟩
theorem inv_row {n i len : Nat} {y : Value} (h : RelV φ n (.row i len) y) : i < n ∧ len ≤ (φ i).cap ∧ rowV (φ i) len y := by cases h; exact ⟨‹_›, ‹_›, ‹_›⟩
theorem inv_z0 {n : Nat} {y : Value} (h : RelV φ n .z0 y) : ∃ b, y = .slice (some b) 0 0 := by cases h; exact ⟨_, rfl⟩
theorem inv_e0 {n : Nat} {y : Value} (h : RelV φ n .e0 y) : ∃ b c, y = .slice b 0 c := by cases h; exact ⟨_, _, rfl⟩
theorem inv_v {n : Nat} {x y : Value} (h : RelV φ n (.v x) y) : y = x := by cases h; rfl
theorem inv_tup {n : Nat} {l : List AV} {y : Value} (h : RelV φ n (.tup l) y) : ∃ ys, y = .tuple ys ∧ RelL φ n l ys := by cases h; exact ⟨_, rfl, ‹_›, ‹_›⟩
theorem inv_agg {n : Nat} {l : List AV} {y : Value} (h : RelV φ n (.agg l) y) : ∃ ys, y = .agg ys ∧ RelL φ n l ys := by cases h; exact ⟨_, rfl, ‹_›, ‹_›⟩
theorem inv_fn {n : Nat} {f : FuncId} {fs cs : List AV} {y : Value} (h : RelV φ n (.fn f fs cs) y) : ∃ xs ys, y = .func (.func f) xs ys ∧ RelL φ n fs xs ∧ RelL φ n cs ys := by cases h; exact ⟨_, _, rfl, ⟨‹_›, ‹_›⟩, ‹_›, ‹_›⟩

/-- What an operation's soundness is. -/
def OpOk (P : Program) (gm : Nat → Option Nat) (env : List AV) (A : List AObj) (o : Oper) (r : AV) (A' : List AObj) : Prop :=
 ∀ (φ : Nat → Loc3) (F H : Hp) (a : Act), RelG gm φ A.length → RelH φ A F H → RelL φ A.length env a.tmps → wpS P (execOp a.eval o) H (OpPost φ A F r A')

theorem wpS_v {s : Sem Value} {Q : Next → Hp → Prop} (h : wpS P s H (fun v H' => Q (.value v) H')) : wpS P (do pure (Next.value (← s))) H Q := wpS_bind_eq _ _ _ h
theorem wpS_u {s : Sem Unit} {Q : Next → Hp → Prop} (h : wpS P s H (fun _ H' => Q .skip H')) : wpS P (do s; pure Next.skip) H Q := wpS_bind_eq _ _ _ h

theorem ok_move {x : Operand} (ho : o.op = .move x) : OpOk P gm env A o (opnd gm env x) A := fun φ F H a hg hH hE => by
 unfold execOp; rw [ho]; exact OpPost.quiet hH (opnd_rel hg hE x)
theorem ok_assign {x : Operand} (ho : o.op = .assign x) : OpOk P gm env A o (opnd gm env x) A := fun φ F H a hg hH hE => by
 unfold execOp; rw [ho]; exact OpPost.quiet hH (opnd_rel hg hE x)

/-- One of two. -/
def pickA (t : Bool) : AV → AV → AV
 | .v (.bool x), .v (.bool y) => .v (.bool (bif t then x else y))
 | .v x, .v y => .v (bif t then x else y)
 | x, y => bif t then x else y
theorem pickA_rel {n : Nat} {t : Bool} {x y : AV} {u v : Value} (hx : RelV φ n x u) (hy : RelV φ n y v) : RelV φ n (pickA t x y) (if t then u else v) := by
 unfold pickA
 split
 ·cases hx; cases hy
  cases t <;> exact .v _
 ·cases hx; cases hy
  cases t <;> exact .v _
 ·cases t
  ·exact hy
  ·exact hx

theorem ok_pick {c x y : Operand} {t : Bool} (ho : o.op = .pick c x y) (hc : opnd gm env c = .v (.bool t)) : OpOk P gm env A o (pickA t (opnd gm env x) (opnd gm env y)) A := fun φ F H a hg hH hE => by
 unfold execOp; rw [ho]
 have h1 := opnd_rel hg hE c
 rw [hc] at h1
 simp only [inv_v h1]
 exact OpPost.quiet hH (pickA_rel (opnd_rel hg hE x) (opnd_rel hg hE y))

theorem ok_bin {op : BinOp} {t yt : TypeId} {x y : Operand} {u v z : Value} (ho : o.op = .binOp op t x y yt) (hx : toV (opnd gm env x) = some u) (hy : toV (opnd gm env y) = some v)
  (h : pureS P (eqGuard op t x y u v >>= fun _ => binOp op t u v) = some z) : OpOk P gm env A o (.v z) A := fun φ F H a hg hH hE => by
 unfold execOp; rw [ho]; dsimp only
 rw [toV_rel hx (opnd_rel hg hE x), toV_rel hy (opnd_rel hg hE y)]
 exact wpS_v (pureS_wpS _ h (OpPost.quiet hH (.v z)))

theorem ok_un {op : UnOp} {t : TypeId} {x : Operand} {u z : Value} (ho : o.op = .unOp op t x) (hx : toV (opnd gm env x) = some u) (h : pureS P (Op.unary op u) = some z) : OpOk P gm env A o (.v z) A := fun φ F H a hg hH hE => by
 unfold execOp; rw [ho]; dsimp only
 rw [toV_rel hx (opnd_rel hg hE x)]
 exact wpS_v (pureS_wpS _ h (OpPost.quiet hH (.v z)))

theorem ok_convert {s d : TypeId} {x : Operand} {u z : Value} (ho : o.op = .convert s d x) (hx : toV (opnd gm env x) = some u) (h : pureS P (convert s d u) = some z) : OpOk P gm env A o (.v z) A := fun φ F H a hg hH hE => by
 unfold execOp; rw [ho]; dsimp only
 rw [toV_rel hx (opnd_rel hg hE x)]
 exact wpS_v (pureS_wpS _ h (OpPost.quiet hH (.v z)))

theorem ok_extract {x : Operand} {k : Nat} {l : List AV} (ho : o.op = .extract x k) (hx : opnd gm env x = .tup l) (h : l[k]? = some r) : OpOk P gm env A o r A := fun φ F H a hg hH hE => by
 unfold execOp; rw [ho]
 have h1 := opnd_rel hg hE x
 rw [hx] at h1
 obtain ⟨ys, e, hrel⟩ := inv_tup h1
 obtain ⟨y, hy, hr⟩ := hrel.get h
 dsimp only
 simp only [e, Instr.extract, hy]
 exact OpPost.quiet hH hr

theorem ok_fieldAddr {t : TypeId} {x : Operand} {k i off d n : Nat} {g : Bool} (ho : o.op = .fieldAddr t x k) (hx : opnd gm env x = .ptr i off) (hf : fieldOf P t k = some (d, g, n)) (hn : n ≠ 0) : OpOk P gm env A o (.ptr i (off + d)) A := fun φ F H a hg hH hE => by
 unfold execOp; rw [ho]
 have h1 := opnd_rel hg hE x
 rw [hx] at h1
 obtain ⟨fs, f, e1, e2, e3, e4⟩ := fieldOf_spec hf
 obtain ⟨ti, td, e5, _, _, e6⟩ := tySize_spec e4
 obtain ⟨hi, e⟩ := inv_ptr h1
 dsimp only
 rw [e]
 refine wpS_v ?_
 unfold Instr.fieldAt
 refine wpS_bind_eq _ _ _ (wpS_underlying e1 ?_)
 simp only [e2]
 refine wpS_bind_eq _ _ _ ?_
 refine wpS_bind_eq _ _ _ ?_
 unfold fieldPlace
 refine wpS_bind_eq _ _ _ (wpS_sizeOf e5 ?_)
 rw [e6, if_neg hn]
 show OpPost φ A F (.ptr i (off + d)) A (.value (.pointer (some (Addr.add _ f.offset)))) H
 rw [add_off, e3, Nat.add_assoc]
 exact OpPost.quiet hH (.ptr hi)

theorem ok_load {t : TypeId} {x : Operand} {i off n : Nat} {l : List AV} (ho : o.op = .load t x) (hx : opnd gm env x = .ptr i off) (ht : tySize P t = some (true, n)) (hl : loadA A i off n = some l) : OpOk P gm env A o (.agg l) A := fun φ F H a hg hH hE => by
 unfold execOp; rw [ho]
 have h1 := opnd_rel hg hE x
 rw [hx] at h1
 obtain ⟨ti, td, e5, e7, e8, e6⟩ := tySize_spec ht
 obtain ⟨_, rw', cur, e, fz, ys, hb, hn, hr, hc⟩ := loadA_rel hH hl
 obtain ⟨hi, ez⟩ := inv_ptr h1
 dsimp only
 rw [ez]
 ·refine wpS_v ?_
  unfold Instr.loadAt
  show wpS P (loadVar t _) H _
  unfold loadVar
  refine wpS_bind_eq _ _ _ (wpS_isAgg e7 ?_)
  rw [e8, if_pos rfl]
  refine wpS_bind_eq _ _ _ (wpS_sizeOf e5 ?_)
  rw [e6, ← hn]
  refine wpS_bind_eq _ _ _ (wpS_loadCells hb ys hc ?_)
  exact OpPost.quiet hH (.agg hr.1 hr.2)

theorem ok_load1 {t : TypeId} {x : Operand} {i off n : Nat} (ho : o.op = .load t x) (hx : opnd gm env x = .ptr i off) (ht : tySize P t = some (false, n)) (hl : loadA A i off 1 = some [r]) : OpOk P gm env A o r A := fun φ F H a hg hH hE => by
 unfold execOp; rw [ho]
 have h1 := opnd_rel hg hE x
 rw [hx] at h1
 obtain ⟨ti, td, e5, e7, e8, e6⟩ := tySize_spec ht
 obtain ⟨_, rw', cur, e, fz, ys, hb, hn, hr, hc⟩ := loadA_rel hH hl
 obtain ⟨hi, ez⟩ := inv_ptr h1
 dsimp only
 rw [ez]
 ·refine wpS_v ?_
  unfold Instr.loadAt
  show wpS P (loadVar t _) H _
  unfold loadVar
  refine wpS_bind_eq _ _ _ (wpS_isAgg e7 ?_)
  rw [e8, if_neg (by simp)]
  obtain ⟨y, rfl⟩ : ∃ y, ys = [y] := by
   cases ys with
   | nil => simp at hn
   | cons y ys => cases ys with
    | nil => exact ⟨y, rfl⟩
    | cons z zs => simp at hn
  exact ⟨rw', cur, e, fz, y, hb, rfl, hc 0 y rfl, OpPost.quiet hH (hr.2 0 r y rfl rfl)⟩

theorem ok_store {t : TypeId} {x y : Operand} {i off n : Nat} {g : Bool} {vs : List AV} (ho : o.op = .store t x y) (hx : opnd gm env x = .ptr i off) (ht : tySize P t = some (g, n)) (hy : cellsA (opnd gm env y) = some vs) (hn : vs.length = n) (hs : storeA A i off vs = some A') :
  OpOk P gm env A o .any A' := fun φ F H a hg hH hE => by
 unfold execOp; rw [ho]
 have h1 := opnd_rel hg hE x
 rw [hx] at h1
 obtain ⟨ti, td, e5, e7, e8, e6⟩ := tySize_spec ht
 have hr := cellsA_rel hy (opnd_rel hg hE y)
 obtain ⟨hi, ez⟩ := inv_ptr h1
 dsimp only
 rw [ez]
 ·refine wpS_u ?_
  unfold Instr.storeAt
  show wpS P (storeVar t _ (a.eval y)) H _
  unfold storeVar
  refine wpS_bind_eq _ _ _ (wpS_sizeOf e5 ?_)
  rw [if_neg (by rw [e6, ← hn, ← hr.1]; simp)]
  show wpS P (storeCells _ (a.eval y).cells.toList) H _
  refine wpS_store hH hs hr fun H' hH' hlen => ⟨undef, φ, .inr ⟨rfl, rfl⟩, Agr.refl _ _, by omega, hH', .any _⟩

theorem ok_new {s : Sem Value} (l : List AV) (t : TypeId) (hs : ∀ (φ : Nat → Loc3) (F H : Hp) (a : Act), RelG gm φ A.length → RelH φ A F H → RelL φ A.length env a.tmps → ∃ ys : Array Value, RelL φ A.length l ys ∧ ∀ Q : Next → Hp → Prop, (wpS P (newRow t ys) H (fun x H' => Q (.value (.pointer (some x))) H')) → wpS P (execOp a.eval o) H Q) :
  OpOk P gm env A o (.ptr A.length 0) (A ++ [.cells l t true]) := fun φ F H a hg hH hE => by
 obtain ⟨ys, hr, hq⟩ := hs φ F H a hg hH hE
 refine hq _ ?_
 unfold newRow
 refine wpS_bind_eq _ _ _ fun b hb => ?_
 show OpPost φ A F (.ptr A.length 0) (A ++ [.cells l t true]) (.value (.pointer (some ⟨b, 0, none⟩))) (H.put b (true, .cells ys t (0, 0)))
 refine ⟨_, upd3 φ A.length ⟨b, 0, 0⟩, .inl rfl, agr_upd3 _ _ _, by simp, hH.push hb rfl ?_, ?_⟩
 ·refine fun _ => ⟨true, ys, _, Hp.put_same _ _ _, fun _ => ⟨rfl, rfl⟩, fun j u hu => ?_⟩
  obtain ⟨y, hy, hr'⟩ := hr.get hu
  exact ⟨y, by rw [Nat.zero_add]; exact hy, hr'.mono (agr_upd3 _ _ _) (by omega)⟩
 ·have := RelV.ptr (φ := upd3 φ A.length ⟨b, 0, 0⟩) (n := (A ++ [AObj.cells l t true]).length) (i := A.length) (off := 0) (by simp)
  simpa [upd3] using this

theorem ok_alloc {t : TypeId} {z : List Value} (ho : o.op = .alloc t) (hz : tyZero P t = some z) : OpOk P gm env A o (.ptr A.length 0) (A ++ [.cells (z.map .v) t true]) := by
 obtain ⟨i, zv, e1, e2, e3⟩ := tyZero_spec hz
 refine ok_new (s := pure undef) _ t fun φ F H a hg hH hE => ⟨zv.cells, ?_, fun Q hq => ?_⟩
 ·rw [← e3]; exact relL_vs φ _ _
 ·unfold execOp; rw [ho]
  refine wpS_v ?_
  unfold Instr.alloc
  refine wpS_bind_eq _ _ _ (wpS_zeroValue e1 e2 ?_)
  exact wpS_bind_eq _ _ _ hq

theorem ok_box {t : TypeId} {x : Operand} {l : List AV} (ho : o.op = .box t x) (hx : cellsA (opnd gm env x) = some l) : OpOk P gm env A o (.ptr A.length 0) (A ++ [.cells l t true]) := by
 refine ok_new (s := pure undef) _ t fun φ F H a hg hH hE => ⟨(a.eval x).cells, cellsA_rel hx (opnd_rel hg hE x), fun Q hq => ?_⟩
 unfold execOp; rw [ho]
 refine wpS_v ?_
 unfold Instr.box
 exact wpS_bind_eq _ _ _ hq

theorem ok_makeFunc {f : FuncId} {fs cs : Array Operand} (ho : o.op = .makeFunc (.func f) fs cs) : OpOk P gm env A o (.fn f (fs.toList.map (opnd gm env)) (cs.toList.map (opnd gm env))) A := fun φ F H a hg hH hE => by
 unfold execOp; rw [ho]
 have h1 := relL_map hg hE fs
 have h2 := relL_map hg hE cs
 exact OpPost.quiet hH (.fn h1.1 h1.2 h2.1 h2.2)

/-! ### indexes -/
theorem ok_index_sl {t e : TypeId} {x y : Operand} {k : IntKind} {n : Int} {i off len size : Nat} (ho : o.op = .indexAddr t x y) (hx : opnd gm env x = .sl i off len) (hy : opnd gm env y = .v (.int k n)) (ht : slElem P t = some (e, size)) (h0 : 0 ≤ n) (h1 : n < len) :
  OpOk P gm env A o (.ptr i (off + n.toNat * size)) A := fun φ F H a hg hH hE => by
 unfold execOp; rw [ho]
 have hx' := opnd_rel hg hE x
 have hy' := opnd_rel hg hE y
 rw [hx] at hx'
 rw [hy] at hy'
 obtain ⟨ti, e1, e2, e3⟩ := slElem_spec ht
 obtain ⟨hi, cap, b, hl, hb, ez⟩ := inv_sl hx'
 obtain rfl := hb (by omega)
 dsimp only
 rw [inv_v hy', ez]
 ·refine wpS_v ?_
  unfold Instr.indexAt
  refine wpS_bind_eq _ _ _ ?_
  refine wpS_bind_eq _ _ _ (wpS_underlying e1 ?_)
  refine wpS_bind_eq _ _ _ ?_
  refine wpS_bind_eq _ _ _ (wpS_underlying e1 ?_)
  simp only [Bool.and_false]
  rw [if_pos ⟨h0, h1⟩]
  refine wpS_bind_eq _ _ _ (wpS_sizeOf e2 ?_)
  show OpPost φ A F _ A (.value (.pointer (some (Addr.add _ (n.toNat * ti.size))))) H
  rw [add_off, e3, Nat.add_assoc]
  exact OpPost.quiet hH (.ptr hi)
end
end Go.Vel
end
