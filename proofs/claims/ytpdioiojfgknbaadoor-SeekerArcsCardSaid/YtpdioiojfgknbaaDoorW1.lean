/- Texts for the statements of chapter 9: what all of them need, part 2. It holds of every program, tape and world that the statements name, as each theorem says. -/
import Derived.Lone
import Derived.Conc.CrowdComm
import Derived.Conc.Beside
import Derived.Calls
import Derived.Conc.CrowdSel
import Derived.Laws.Sem
import Derived.Test.YtpdioiojfgknbaaDoorW0
section
set_option linter.all false
set_option maxRecDepth 20000
set_option maxHeartbeats 60000000
namespace Go.Vel
open Go Go.Conc

section
variable {P : Program}

theorem Agree.refl (τ : Nat → Question → Nat) (d k : Nat) : Agree τ d τ d k := fun _ _ _ => rfl

theorem run_on {α : Type} {s : Sem α} (hs : SysOk P s) (w : World) (τ : Nat → Question → Nat) (d : Nat) :
  (∃ k, ∀ τ' d', Agree τ d τ' d' k → ∃ x w', Bad x ∧ s.run P (on w τ' d') = .halt x w') ∨
  ∃ (r : Except Halt α) (w' : World) (k : Nat), ∀ τ' d', Agree τ d τ' d' k → s.run P (on w τ' d') = outW r (on w' τ' (d' + k)) := by
 have e : ∀ w, s.run P w = (s.runT P w #[]).1 := fun w => by rw [Sem.runT_eq]
 rcases runT_on s 0 hs w #[] τ d with ⟨k, h⟩ | ⟨r, w', es, k, h1, h2⟩
 ·refine .inl ⟨k, fun τ' d' hA => ?_⟩
  obtain ⟨x, w', es', hb, h⟩ := h τ' d' hA
  exact ⟨x, w', hb, by rw [e, h]⟩
 ·exact .inr ⟨r, w', k, fun τ' d' hA => by rw [e, h2 τ' d' hA]⟩

theorem run_size {α : Type} {s : Sem α} (hs : SysOk P s) (w : World) : w.heap.size ≤ (wOf (s.run P w)).heap.size := by
 have := (runT_bal s 0 hs w #[] _ _ rfl said_nil (fun _ => rfl) (low_nil _)).2.2.2
 rwa [Sem.runT_eq] at this

/-! ### a communication that nobody else takes part in -/
/-- Operations of goroutine 0's that touch nothing and leave deafness as it is. -/
def Hush (n : Nat) (u : Array MemOp) : Prop := ∀ op ∈ u, op.g = 0 ∧ op.act.touch? = none ∧ op.act ≠ .mark .disable ∧ op.act ≠ .mark .enable ∧ op.act.low n

theorem ways_alone {w : World} {gs : Array Goroutine} (hp : ∀ r s, partners gs r s = []) (c : CommCase) : ways w gs c = ways w #[] c := by
 have hq : ∀ r s, partners (#[] : Array Goroutine) r s = [] := fun _ _ => rfl
 unfold ways
 simp only [hp, hq]

theorem ways_no_partner (w : World) (c : CommCase) : ∀ x ∈ ways w #[] c, ∀ h k, x ≠ .partner h k := by
 have hq : ∀ r s, partners (#[] : Array Goroutine) r s = [] := fun _ _ => rfl
 intro x hx h k e
 subst e
 unfold ways at hx
 simp only [hq] at hx
 split at hx
 ·split at hx
  ·split at hx
   ·simp at hx
   ·split at hx <;> simp at hx
  ·split at hx
   ·simp at hx
   ·split at hx <;> simp at hx
  ·simp at hx
 ·simp at hx

theorem okG_served {g : Goroutine} {st : GoStatus} {o : Option (Array CommCase × CommShape)} {fr : Frame} (h : okG g) (hf : okF fr) (hs : ∀ t, st ≠ .sleeping t) : okG { g with frame := fr, status := st, offers := o } := ⟨hf, h.2.1, hs⟩
theorem okG_finishComm {g : Goroutine} (h : okG g) (cs : Array CommCase) (sh : CommShape) (k : Int) (v : Value) (ok : Bool) : okG (g.finishComm P cs sh k v ok) := ⟨okF_finish h.1 _, h.2.1, fun _ hx => by cases hx⟩

theorem no_timer {rest : Rest} (ht : rest.timers = #[]) (mono : Nat) (cases : Array CommCase) : timerAhead rest mono cases = false := by
 unfold timerAhead
 rw [Array.any_eq_false]
 intro k hk
 split <;> simp [ht]

theorem ways_chan (w : World) (c : CommCase) : ∀ x ∈ ways w #[] c, ∃ r, c.chan = .chan (some r) ∧ r < w.heap.size := by
 intro x hx
 unfold ways at hx
 split at hx
 ·rename_i r h
  refine ⟨r, h, ?_⟩
  split at hx
  ·rename_i e _; exact (Array.getElem?_eq_some_iff.1 e).1
  ·rename_i e _; exact (Array.getElem?_eq_some_iff.1 e).1
  ·simp at hx
 ·simp at hx

/-- The number of a case's channel. -/
def chanOf (c : CommCase) : Nat := match c.chan with | .chan (some r) => r | _ => 0

theorem communicate_both (g : Goroutine) (cases : Array CommCase) (b : Bool) (sh : CommShape) (w : World) (τ : Nat → Question → Nat) (d : Nat) :
  (∃ k, ∀ τ' d', Agree τ d τ' d' k → ∀ (rest : Rest) (gs : Array Goroutine), rest.timers = #[] → (∀ r s, partners gs r s = []) →
   ∃ o W ops, communicate P rest gs 0 g cases b sh (on w τ' d') = (.ended o W, ops)) ∨
  ∃ k a' w' ops, Hush w'.heap.size ops ∧ w.heap.size ≤ w'.heap.size ∧ (okG g → okG a') ∧ ∀ τ' d', Agree τ d τ' d' k → ∀ (rest : Rest) (gs : Array Goroutine), rest.timers = #[] → (∀ r s, partners gs r s = []) →
   communicate P rest gs 0 g cases b sh (on w τ' d') = (.next { world := on w' τ' (d' + k), gs := gs.setIfInBounds 0 a', rest }, ops) := by
 have hush0 : ∀ n, Hush n #[] := fun n op h => by simp at h
 have hush1 : ∀ (n : Nat) (a : MemAct), a.touch? = none → (∀ m, a ≠ .mark m) → a.low n → Hush n #[{ g := 0, fn := g.frame.fn, pos := g.frame.place, act := a }] := fun n a h1 h2 hl op h => by
  simp only [List.mem_toArray, List.mem_singleton] at h
  subst h
  exact ⟨rfl, h1, h2 _, h2 _, hl⟩
 have hush2 : ∀ (n : Nat) (a a' : MemAct), a.touch? = none → (∀ m, a ≠ .mark m) → a'.touch? = none → (∀ m, a' ≠ .mark m) → a.low n → a'.low n → Hush n #[{ g := 0, fn := g.frame.fn, pos := g.frame.place, act := a }, { g := 0, fn := g.frame.fn, pos := g.frame.place, act := a' }] := fun n a a' h1 h2 h3 h4 hl hl' op h => by
  simp only [List.mem_toArray, List.mem_cons, List.not_mem_nil, or_false] at h
  rcases h with rfl | rfl
  ·exact ⟨rfl, h1, h2 _, h2 _, hl⟩
  ·exact ⟨rfl, h3, h4 _, h4 _, hl'⟩
 have hw : ∀ (gs : Array Goroutine), (∀ r s, partners gs r s = []) → ∀ (τ : Nat → Question → Nat) (d : Nat) (c : CommCase), ways (on w τ d) gs c = ways w #[] c := fun gs hp τ d c => ways_alone hp c
 by_cases hill : cases.any (illMade w) = true
 ·refine .inl ⟨0, fun τ' d' _ rest gs ht hp => ?_⟩
  unfold communicate
  exact ⟨_, _, _, if_pos hill⟩
 have hnot : ∀ (τ' : Nat → Question → Nat) (d' : Nat), ¬ cases.any (illMade (on w τ' d')) = true := fun _ _ => hill
 generalize hready : ((cases.zipIdx.toList.map fun (c, k) => (k, c, ways w #[] c)).filter fun (_, _, ws) => !ws.isEmpty) = ready
 have hrd : ∀ (gs : Array Goroutine), (∀ r s, partners gs r s = []) → ∀ (τ : Nat → Question → Nat) (d : Nat), ((cases.zipIdx.toList.map fun (c, k) => (k, c, ways (on w τ d) gs c)).filter fun (_, _, ws) => !ws.isEmpty) = ready := fun gs hp τ d => by
  rw [← hready]
  simp only [hw gs hp]
 have hno : ∀ x ∈ ready, ∀ y ∈ x.2.2, (∀ h k, y ≠ Way.partner h k) ∧ ∃ r, x.2.1.chan = .chan (some r) ∧ r < w.heap.size := by
  intro x hx y hy
  rw [← hready] at hx
  obtain ⟨⟨c, k⟩, _, rfl⟩ := List.mem_map.1 (List.mem_filter.1 hx).1
  exact ⟨ways_no_partner w c y hy, ways_chan w c y hy⟩
 by_cases hre : ready.isEmpty = true
 ·cases b with
  | true =>
   refine .inr ⟨0, { g with status := .blocked, offers := some (cases, sh) }, w, #[], hush0 _, Nat.le_refl _, fun h => okG_served (st := .blocked) h h.1 (fun _ hx => by cases hx), fun τ' d' _ rest gs ht hp => ?_⟩
   unfold communicate
   simp only [hrd gs hp, hre, if_true, waitingAt, no_timer ht, Bool.false_eq_true, if_false]
   exact if_neg (hnot τ' d')
  | false =>
   refine .inr ⟨0, g.finishComm P cases sh (-1) undef false, w, #[], hush0 _, Nat.le_refl _, fun h => okG_finishComm h _ _ _ _ _, fun τ' d' _ rest gs ht hp => ?_⟩
   unfold communicate
   simp only [hrd gs hp, hre, if_true, Bool.false_eq_true, if_false]
   exact if_neg (hnot τ' d')
 ·have hre' : ready.isEmpty = false := by simpa using hre
  have hcl : ∀ x ∈ ready, chanOf x.2.1 < w.heap.size := fun x hx => by
   have hne : x.2.2 ≠ [] := by
    rw [← hready] at hx
    have := (List.mem_filter.1 hx).2
    simpa using this
   obtain ⟨y, hy⟩ := List.exists_mem_of_ne_nil _ hne
   obtain ⟨r, h1, h2⟩ := (hno x hx y hy).2
   unfold chanOf
   rw [h1]
   exact h2
  have hpos : 0 < w.heap.size := by
   obtain ⟨x, hx⟩ := List.exists_mem_of_ne_nil ready (by simpa using hre)
   exact Nat.lt_of_le_of_lt (Nat.zero_le _) (hcl x hx)
  have hs : SysOk P (do
    let a ← choose (.select ready.length)
    let (k, c, ws) := ready.getD a (0, default, [])
    let b ← choose (.extern "which waiting goroutine is the partner" ws.length)
    pure (k, c, ws.getD b .closed) : Sem (Nat × CommCase × Way)) := sysOk_bind SOk.ok fun _ => sysOk_bind SOk.ok fun _ => sysOk_pure _
  have hl : Leaf P (fun x : Nat × CommCase × Way => (∀ h k, x.2.2 ≠ Way.partner h k) ∧ (x.2.2 = .buffer → ∃ r, x.2.1.chan = .chan (some r)) ∧ chanOf x.2.1 < w.heap.size) (do
    let a ← choose (.select ready.length)
    let (k, c, ws) := ready.getD a (0, default, [])
    let b ← choose (.extern "which waiting goroutine is the partner" ws.length)
    pure (k, c, ws.getD b .closed) : Sem (Nat × CommCase × Way)) := by
   have key : ∀ x : Nat × CommCase × List Way, (x ∈ ready ∨ x = (0, default, [])) → Leaf P (fun x : Nat × CommCase × Way => (∀ h k, x.2.2 ≠ Way.partner h k) ∧ (x.2.2 = .buffer → ∃ r, x.2.1.chan = .chan (some r)) ∧ chanOf x.2.1 < w.heap.size) (match x with
     | (k, c, ws) => do
      let b ← choose (.extern "which waiting goroutine is the partner" ws.length)
      pure (k, c, ws.getD b .closed) : Sem (Nat × CommCase × Way)) := by
    rintro ⟨k', c', ws⟩ hm b
    show (∀ h k, ws.getD b .closed ≠ _) ∧ (ws.getD b .closed = _ → ∃ r, c'.chan = .chan (some r)) ∧ chanOf c' < w.heap.size
    have hch : chanOf c' < w.heap.size := by
     rcases hm with hm | hm
     ·exact hcl _ hm
     ·cases hm
      exact Nat.lt_of_le_of_lt (Nat.zero_le _) hpos
    rw [List.getD_eq_getElem?_getD]
    cases e : ws[b]? with
    | none => exact ⟨by simp, by simp, hch⟩
    | some y =>
     rcases hm with hm | hm
     ·exact ⟨fun h k => (hno _ hm y (List.mem_of_getElem? e)).1 h k, fun _ => (hno _ hm y (List.mem_of_getElem? e)).2.imp fun _ h => h.1, hch⟩
     ·cases hm
      simp at e
   intro a
   refine key _ ?_
   cases e : ready[a]? with
   | none => exact .inr rfl
   | some x => exact .inl (List.mem_of_getElem? e)
  rcases run_on hs w τ d with ⟨k, h⟩ | ⟨r, w', k, h⟩
  ·refine .inl ⟨k, fun τ' d' hA rest gs ht hp => ?_⟩
   obtain ⟨x, w', _, h⟩ := h τ' d' hA
   unfold communicate
   simp only [hrd gs hp, hre', Bool.false_eq_true, if_false, h]
   exact ⟨_, _, _, if_neg (hnot τ' d')⟩
  cases r with
  | error x =>
   refine .inl ⟨k, fun τ' d' hA rest gs ht hp => ?_⟩
   unfold communicate
   simp only [hrd gs hp, hre', Bool.false_eq_true, if_false, h τ' d' hA, outW]
   exact ⟨_, _, _, if_neg (hnot τ' d')⟩
  | ok x =>
   obtain ⟨n, c, way⟩ := x
   have hsz : w.heap.size ≤ w'.heap.size := by
    have := run_size hs (on w τ d)
    rw [h τ d (Agree.refl τ d k)] at this
    exact this
   have hway : (∀ h k, way ≠ Way.partner h k) ∧ (way = .buffer → ∃ r, c.chan = .chan (some r)) ∧ chanOf c < w.heap.size := by
    have e := h τ d (Agree.refl τ d k)
    rw [← Sem.runT_fst P _ _ #[]] at e
    exact runT_leaf _ hl _ #[] _ _ _ (Prod.ext e rfl)
   cases way with
   | partner ha ka => exact absurd rfl (hway.1 ha ka)
   | sendClosed =>
    have hrp : SysOk P (runtimePanic (.plain "send on closed channel") : Sem Unit) := SOk.ok
    rcases run_on hrp w' τ (d + k) with ⟨k2, h2⟩ | ⟨r, w2, k2, h2⟩
    ·refine .inl ⟨k + k2, fun τ' d' hA rest gs ht hp => ?_⟩
     obtain ⟨x, w2, hb, h2⟩ := h2 τ' (d' + k) hA.tail
     unfold communicate
     simp only [hrd gs hp, hre', Bool.false_eq_true, if_false, h τ' d' (hA.le (by omega)), outW, h2]
     cases x <;> first | exact hb.elim | exact ⟨_, _, _, if_neg (hnot τ' d')⟩
    ·by_cases hr : ∃ v, r = .error (.panic v)
     ·obtain ⟨v, rfl⟩ := hr
      refine .inr ⟨k + k2, { g with frame := g.frame.raise [{ v, recovered := false }] }, w2, #[], hush0 _, Nat.le_trans hsz (by have := run_size hrp (on w' τ (d + k)); rw [h2 τ (d + k) (Agree.refl _ _ _)] at this; exact this), fun h => ⟨okF_raise h.1 _, h.2.1, h.2.2⟩, fun τ' d' hA rest gs ht hp => ?_⟩
      have h2 := h2 τ' (d' + k) hA.tail
      unfold communicate
      simp only [hrd gs hp, hre', Bool.false_eq_true, if_false, h τ' d' (hA.le (by omega)), outW, h2]
      rw [← Nat.add_assoc]
      exact if_neg (hnot τ' d')
     ·refine .inl ⟨k + k2, fun τ' d' hA rest gs ht hp => ?_⟩
      have h2 := h2 τ' (d' + k) hA.tail
      unfold communicate
      simp only [hrd gs hp, hre', Bool.false_eq_true, if_false, h τ' d' (hA.le (by omega)), outW, h2]
      cases r with
      | ok u => exact ⟨_, _, _, if_neg (hnot τ' d')⟩
      | error x => cases x <;> first | exact ⟨_, _, _, if_neg (hnot τ' d')⟩ | exact absurd ⟨_, rfl⟩ hr
   | closed =>
    refine .inr ⟨k, g.finishComm P cases sh n c.zero false, w', _, hush1 _ (.recvClosed (chanOf c)) rfl (fun _ hx => by cases hx) (Nat.lt_of_lt_of_le hway.2.2 hsz), hsz, fun h => okG_finishComm h _ _ _ _ _, fun τ' d' hA rest gs ht hp => ?_⟩
    unfold communicate
    simp only [hrd gs hp, hre', Bool.false_eq_true, if_false, h τ' d' hA, outW]
    exact if_neg (hnot τ' d')
   | buffer =>
    obtain ⟨r, hrr⟩ := hway.2.1 rfl
    have hheap : ∀ τ' d', (on w' τ' d').heap[r]? = w'.heap[r]? := fun _ _ => rfl
    cases ho : w'.heap[r]? with
    | none =>
     refine .inl ⟨k, fun τ' d' hA rest gs ht hp => ?_⟩
     unfold communicate
     simp only [hrd gs hp, hre', Bool.false_eq_true, if_false, h τ' d' hA, outW, hrr, hheap, ho]
     exact ⟨_, _, _, if_neg (hnot τ' d')⟩
    | some o =>
     have hrl : r < w'.heap.size := (Array.getElem?_eq_some_iff.1 ho).1
     by_cases hch : ∃ cap buf closed sent rcvd tm, o = .chan cap buf closed sent rcvd tm
     ·obtain ⟨cap, buf, closed, sent, rcvd, tm, rfl⟩ := hch
      cases hsd : c.send with
      | some v =>
       refine .inr ⟨k, g.finishComm P cases sh n undef false, { w' with heap := w'.heap.setIfInBounds r (.chan cap (buf.push v) closed (sent + 1) rcvd tm) }, _, hush2 _ (.send r sent) (.sendDone r sent) rfl (fun _ hx => by cases hx) rfl (fun _ hx => by cases hx) (by simpa [MemAct.low] using hrl) (by simpa [MemAct.low] using hrl), by simpa using hsz, fun h => okG_finishComm h _ _ _ _ _, fun τ' d' hA rest gs ht hp => ?_⟩
       unfold communicate
       simp only [hrd gs hp, hre', Bool.false_eq_true, if_false, h τ' d' hA, outW, hrr, hheap, ho, hsd]
       exact if_neg (hnot τ' d')
      | none =>
       refine .inr ⟨k, g.finishComm P cases sh n (buf.getD 0 undef) true, { w' with heap := w'.heap.setIfInBounds r (.chan cap (buf.extract 1 buf.size) closed sent (rcvd + 1) tm) }, _, hush2 _ (.recv r rcvd cap) (.recvDone r rcvd) rfl (fun _ hx => by cases hx) rfl (fun _ hx => by cases hx) (by simpa [MemAct.low] using hrl) (by simpa [MemAct.low] using hrl), by simpa using hsz, fun h => okG_finishComm h _ _ _ _ _, fun τ' d' hA rest gs ht hp => ?_⟩
       unfold communicate
       simp only [hrd gs hp, hre', Bool.false_eq_true, if_false, h τ' d' hA, outW, hrr, hheap, ho, hsd, hp]
       exact if_neg (hnot τ' d')
     ·refine .inl ⟨k, fun τ' d' hA rest gs ht hp => ?_⟩
      unfold communicate
      simp only [hrd gs hp, hre', Bool.false_eq_true, if_false, h τ' d' hA, outW, hrr, hheap, ho]
      cases o <;> first | exact ⟨_, _, _, if_neg (hnot τ' d')⟩ | exact absurd ⟨_, _, _, _, _, _, rfl⟩ hch

/-! ### one step of goroutine 0's -/
/-- Goroutine 0's own operations, that leave deafness as it is. -/
def Kept (n : Nat) (u : Trace) : Prop := (∀ op ∈ u, op.g = 0) ∧ (∀ t : Trace, Deaf (t ++ u) 0 = Deaf t 0) ∧ ∀ op ∈ u, op.act.low n
theorem Kept.app {n : Nat} {u v : Trace} (h : Kept n u) (k : Kept n v) : Kept n (u ++ v) := ⟨fun op hop => (Array.mem_append.1 hop).elim (h.1 op) (k.1 op), fun t => by rw [← Array.append_assoc, k.2.1, h.2.1], fun op hop => (Array.mem_append.1 hop).elim (h.2.2 op) (k.2.2 op)⟩
theorem Kept.mono {n m : Nat} {u : Trace} (h : Kept n u) (hm : n ≤ m) : Kept m u := ⟨h.1, h.2.1, fun op hop => MemAct.low_mono hm (h.2.2 op hop)⟩
theorem kept_events {n : Nat} {fn : FuncId} {pos : String} {es : Array Event} (h : Tidy n es) : Kept n (MemOp.ofEvents 0 fn pos es) :=
 ⟨fun op hop => by obtain ⟨e, _, rfl⟩ := Go.Conc.mem_ofEvents hop; rfl, fun t => by rw [Deaf_own, h.1], fun op hop => by obtain ⟨e, he, rfl⟩ := Go.Conc.mem_ofEvents hop; exact h.2 e he⟩
theorem kept_hush {n : Nat} {u : Array MemOp} (h : Hush n u) : Kept n u := by
 refine ⟨fun op hop => (h op hop).1, fun t => ?_, fun op hop => (h op hop).2.2.2.2⟩
 obtain ⟨l⟩ := u
 rw [Deaf_append]
 induction l generalizing t with
 | nil => rfl
 | cons y l ih =>
  have hy := h y (by simp)
  have e1 : deafStep 0 (Deaf t 0) y = Deaf t 0 := by
   unfold deafStep
   split
   ·rename_i e; exact absurd e hy.2.2.1
   ·rename_i e; exact absurd e hy.2.2.2.1
   ·rfl
  rw [List.foldl_cons, e1]
  exact ih t fun op hop => h op (by simp at hop ⊢; exact .inr hop)

/-- All but goroutine 0 run, or have ended. -/
def Others (gs : Array Goroutine) : Prop := ∀ j x, 0 < j → gs[j]? = some x → x.status = .running ∨ x.status = .finished
theorem others_one (a : Goroutine) : Others #[a] := fun j x hj hx => by
 have : j < 1 := by simpa using (Array.getElem?_eq_some_iff.1 hx).1
 omega
theorem partners_others {gs : Array Goroutine} (h : Others gs) (r : Nat) (s : Bool) : partners (gs.setIfInBounds 0 ph) r s = [] := by
 refine partners_nil fun j x hx => ?_
 rcases getElem?_stand gs 0 j x hx with ⟨_, rfl⟩ | ⟨hj, hx⟩
 ·rfl
 ·refine offersAt_of_not_blocked (fun e => ?_) r s
  rcases h j x (by omega) hx with e' | e' <;> rw [e] at e' <;> cases e'
theorem woken_others {gs : Array Goroutine} (h : Others gs) {g g' : Goroutine} {w' : World} : (gs.map (woken P g g' w')).setIfInBounds 0 g' = gs.setIfInBounds 0 g' := by
 apply Array.ext_getElem?
 intro j
 by_cases hj : 0 = j
 ·subst hj
  by_cases hlt : 0 < gs.size
  ·rw [Array.getElem?_setIfInBounds_self_of_lt (by simpa using hlt), Array.getElem?_setIfInBounds_self_of_lt hlt]
  ·rw [Array.getElem?_eq_none (by simpa using hlt), Array.getElem?_eq_none (by simpa using hlt)]
 ·rw [Array.getElem?_setIfInBounds_ne hj, Array.getElem?_setIfInBounds_ne hj, Array.getElem?_map]
  cases e : gs[j]? with
  | none => rfl
  | some x =>
   simp only [Option.map_some, woken]
   split
   ·rw [again_running _ (h j x (by omega) e)]
   ·rfl

/-- A machine from which no later state is one goroutine that runs. -/
def Dead (P : Program) (m : Machine) : Prop := ∀ n b W, runN P (n + 1) m = .next (solo b W) → b.status ≠ .running

theorem dead_of_ended {m : Machine} {o : Outcome} {W : World} (h : step P m = .ended o W) : Dead P m := fun n b W' e => by
 simp only [runN, h] at e; cases e
theorem runN_size : ∀ (n : Nat) (m m' : Machine), runN P n m = .next m' → m.gs.size ≤ m'.gs.size
 | 0, m, m', h => by simp only [runN, Stepped.next.injEq] at h; rw [h]; exact Nat.le_refl _
 | n + 1, m, m', h => by
  simp only [runN] at h
  split at h
  ·rename_i m₁ h1
   exact Nat.le_trans (stepT_size P m m₁ true h1) (runN_size n m₁ m' h)
  ·rename_i hne
   exact absurd h (hne m')
theorem dead_of_many {m m' : Machine} (h : step P m = .next m') (hs : 1 < m'.gs.size) : Dead P m := fun n b W e => by
 simp only [runN, h] at e
 have := runN_size n m' _ e
 have : m'.gs.size ≤ 1 := by simpa [solo] using this
 omega
/-- One goroutine that neither runs nor sleeps does not run later. -/
theorem still_step {g : Goroutine} {w : World} (h : g.status ≠ .running) (hs : ∀ t, g.status ≠ .sleeping t) : step P (solo g w) = .next (solo g w) ∨ ∃ o W, step P (solo g w) = .ended o W := by
 have hr : g.canRun w.os.mono = false := by
  unfold Goroutine.canRun
  cases e : g.status <;> first | rfl | exact absurd e h | exact absurd e (hs _)
 have ha : ahead (solo g w) false = none := by
  unfold ahead solo
  simp
 have ha' : ahead { world := w, gs := (solo g w).gs, rest := (solo g w).rest } false = none := ha
 have hrs : runnable (solo g w).gs w.os.mono = [] := by
  simp [runnable_eq, solo, List.range_succ, hr]
 have hd : due (solo g w).rest.timers w.os.mono = [] := by simp [due, solo]
 have hm : move P (solo g w) = askOn P (solo g w) := rfl
 have hw : (solo g w).world = w := rfl
 have hk : askOn P (solo g w) = .machine (.next (solo g w)) ∨ ∃ o W ops, askOn P (solo g w) = .machine (.ended o W) ops := by
  unfold askOn
  simp only [hrs, hd, List.isEmpty_nil, if_true, pure, Sem.run, List.length_nil, Nat.lt_irrefl, if_false, hw, ha']
  split
  ·exact .inl rfl
  ·right
   split
   ·exact ⟨_, _, _, rfl⟩
   ·exact ⟨_, _, _, rfl⟩
 unfold step stepT
 rw [hm]
 rcases hk with e | ⟨o, W, ops, e⟩
 ·rw [e]; exact .inl rfl
 ·rw [e]; exact .inr ⟨o, W, rfl⟩
theorem still_runN {g : Goroutine} {w : World} (h : g.status ≠ .running) (hs : ∀ t, g.status ≠ .sleeping t) : ∀ n b W, runN P n (solo g w) = .next (solo b W) → b.status ≠ .running
 | 0, b, W, e => by
  simp only [runN, Stepped.next.injEq] at e
  have : g = b := by
   have := congrArg Machine.gs e
   simpa [solo] using this
  rw [← this]; exact h
 | n + 1, b, W, e => by
  rcases still_step (P := P) (w := w) h hs with h1 | ⟨o, W', h1⟩
  ·simp only [runN, h1] at e
   exact still_runN h hs n b W e
  ·simp only [runN, h1] at e; cases e
theorem dead_of_still {m : Machine} {g : Goroutine} {w : World} (h1 : step P m = .next (solo g w)) (h : g.status ≠ .running) (hs : ∀ t, g.status ≠ .sleeping t) : Dead P m := fun n b W e => by
 simp only [runN, h1] at e
 exact still_runN h hs n b W e

theorem step_solo_of {a : Goroutine} {W : World} {R : Stepped} {u : Array MemOp} (hs : a.status = .running) (h : runT P (crowd #[a] W none) 0 = (R, u)) : step P (solo a W) = R := by
 rw [step, stepT_solo hs]
 show (runT P (crowd #[a] W none) 0).1 = R
 rw [h]

/-- ████ ONE STEP OF GOROUTINE 0's, ALONE OR BESIDE OTHERS THAT WAIT FOR NOTHING. It leads nowhere; or it is the same step, whoever is beside it, on every tape that agrees for as many answers as it took. ████ -/
theorem solo_shift (T : Tame P) {a : Goroutine} (h : okG a) (hs : a.status = .running) (w : World) (τ : Nat → Question → Nat) (d : Nat) :
  (∃ k, ∀ τ' d', Agree τ d τ' d' k → Dead P (solo a (on w τ' d'))) ∨
  ∃ (k : Nat) (a' : Goroutine) (w' : World) (u : Array MemOp), okG a' ∧ a'.status = .running ∧ Kept w'.heap.size u ∧ w.heap.size ≤ w'.heap.size ∧ ∀ τ' d', Agree τ d τ' d' k → ∀ (gs : Array Goroutine) (sl : Option (Nat × Nat)), gs[0]? = some a → Others gs →
   runT P (crowd gs (on w τ' d') sl) 0 = (.next (crowd (gs.setIfInBounds 0 a') (on w' τ' (d' + k)) sl), u) := by
 have h1 : (#[a] : Array Goroutine)[0]? = some a := rfl
 have hset : ∀ x : Goroutine, (#[a] : Array Goroutine).setIfInBounds 0 x = #[x] := fun _ => rfl
 -- what a step is that leaves goroutine 0 not running
 have hdead : ∀ {a' : Goroutine} {w' : World} {k : Nat} {u : Array MemOp} {τ' : Nat → Question → Nat} {d' : Nat}, okG a' → a'.status ≠ .running → runT P (crowd #[a] (on w τ' d') none) 0 = (.next (crowd ((#[a] : Array Goroutine).setIfInBounds 0 a') (on w' τ' (d' + k)) none), u) → Dead P (solo a (on w τ' d')) := by
  intro a' w' k u τ' d' ho hr he
  exact dead_of_still (step_solo_of hs he) hr ho.2.2
 have hF := stepG_fine (nn := 0) T h
 rcases hF.shift w τ d with ⟨k, e⟩ | ⟨s, k, e0, e1⟩
 ·refine .inl ⟨k, fun τ' d' hA => ?_⟩
  obtain ⟨o, w', es, e⟩ := e τ' d' hA
  exact dead_of_ended (step_solo_of hs (runT_many_ended (i := 0) h1 e))
 have hres : Res w s := by
  have := hF.res (on w τ d) (Nat.zero_le _)
  rw [e0] at this
  cases s <;> exact this
 cases s with
 | ended o w' es =>
  refine .inl ⟨k, fun τ' d' hA => ?_⟩
  exact dead_of_ended (step_solo_of hs (runT_many_ended (i := 0) h1 (e1 τ' d' hA)))
 | go g w' es =>
  have key : ∀ τ' d', Agree τ d τ' d' k → ∀ (gs : Array Goroutine) (sl : Option (Nat × Nat)), gs[0]? = some a → Others gs →
    runT P (crowd gs (on w τ' d') sl) 0 = (.next (crowd (gs.setIfInBounds 0 g) (on w' τ' (d' + k)) sl), MemOp.ofEvents 0 a.frame.fn a.frame.place es) := fun τ' d' hA gs sl h0 ho => by
   rw [runT_crowd_go (i := 0) h0 (e1 τ' d' hA), woken_others ho]
  by_cases hg : g.status = .running
  ·exact .inr ⟨k, g, w', _, hres.1, hg, kept_events hres.2.1, hres.2.2, key⟩
  ·exact .inl ⟨k, fun τ' d' hA => hdead hres.1 hg (key τ' d' hA #[a] none h1 (others_one a))⟩
 | comm g c b sh w' es =>
  rcases communicate_both (P := P) g c b sh w' τ (d + k) with ⟨k2, f⟩ | ⟨k2, a', w'', u, hu, hsz, hok, f⟩
  ·refine .inl ⟨k + k2, fun τ' d' hA => ?_⟩
   obtain ⟨o, W, ops, f⟩ := f τ' (d' + k) hA.tail (crowd #[a] (on w τ' d') none).rest ((#[a] : Array Goroutine).setIfInBounds 0 ph) rfl (partners_others (others_one a))
   have := runT_crowd_comm (sl := none) (i := 0) h1 (e1 τ' d' (hA.le (by omega)))
   rw [f] at this
   exact dead_of_ended (step_solo_of hs this)
  ·have key : ∀ τ' d', Agree τ d τ' d' (k + k2) → ∀ (gs : Array Goroutine) (sl : Option (Nat × Nat)), gs[0]? = some a → Others gs →
     runT P (crowd gs (on w τ' d') sl) 0 = (.next (crowd (gs.setIfInBounds 0 a') (on w'' τ' (d' + (k + k2))) sl), MemOp.ofEvents 0 a.frame.fn a.frame.place es ++ u) := fun τ' d' hA gs sl h0 ho => by
    rw [runT_crowd_comm (sl := sl) (i := 0) h0 (e1 τ' d' (hA.le (by omega))), f τ' (d' + k) hA.tail _ _ rfl (partners_others ho), set_stand, Nat.add_assoc]
    rfl
   by_cases hg : a'.status = .running
   ·exact .inr ⟨k + k2, a', w'', _, hok hres.1, hg, ((kept_events hres.2.1).mono hsz).app (kept_hush hu), Nat.le_trans hres.2.2 hsz, key⟩
   ·exact .inl ⟨k + k2, fun τ' d' hA => hdead (hok hres.1) hg (key τ' d' hA #[a] none h1 (others_one a))⟩
 | spawn g c w' es =>
  refine .inl ⟨k, fun τ' d' hA => ?_⟩
  exact dead_of_many (step_solo_of hs (runT_crowd_spawn (sl := none) (i := 0) h1 (e1 τ' d' hA))) (by simp [crowd])
 | coroswitch g c ex w' es =>
  generalize hme : (if ex then { g with status := .finished } else { g with frame := g.frame.finish undef, status := .parked } : Goroutine) = me
  have hmo : okG me ∧ me.status ≠ .running := by
   rw [← hme]
   cases ex
   ·exact ⟨⟨okF_finish hres.1.1 _, hres.1.2.1, fun _ hx => by cases hx⟩, by simp⟩
   ·exact ⟨⟨hres.1.1, hres.1.2.1, fun _ hx => by cases hx⟩, by simp⟩
  obtain ⟨dy, hdy⟩ : ∃ dy, ∀ W, endThrow g.frame "coroswitch on exited coro" W = .go { frame := g.frame, callers := [], status := .running, dying := dy } W := ⟨_, fun _ => rfl⟩
  have hrun : ∀ τ' d', Agree τ d τ' d' k → ∀ (gs : Array Goroutine) (sl : Option (Nat × Nat)), gs[0]? = some a →
    runT P (crowd gs (on w τ' d') sl) 0 = ((match w'.heap[c]? with
     | some (.coro (some h)) => .next { world := { on w' τ' (d' + k) with heap := w'.heap.setIfInBounds c (.coro (if ex then none else some 0)) }, gs := (gs.setIfInBounds 0 me).modify h (fun o => { o with status := .running }), rest := (crowd gs (on w τ' d') sl).rest }
     | some (.coro none) => .next { world := on w' τ' (d' + k), gs := gs.setIfInBounds 0 { frame := g.frame, callers := [], status := .running, dying := dy }, rest := (crowd gs (on w τ' d') sl).rest }
     | _ => .ended (.stuck "coroswitch: no coroutine" "") (on w' τ' (d' + k))), MemOp.ofEvents 0 a.frame.fn a.frame.place es) := by
   intro τ' d' hA gs sl h0
   obtain ⟨hlt, rfl⟩ := Array.getElem?_eq_some_iff.1 h0
   have hsw := swapAt_of_lt hlt { (default : Goroutine) with status := .finished }
   show runT P { world := on w τ' d', gs := gs, rest := { timers := #[], alone := none, slice := sl } } 0 = _
   have hst : stepG P (0 == 0) gs[0] (on w τ' d') = .coroswitch g c ex (on w' τ' (d' + k)) es := e1 τ' d' hA
   unfold runT
   simp only [hsw, hst, GStep.es, hme, set_setIfInBounds hlt]
   rw [show (on w' τ' (d' + k)).heap = w'.heap from rfl]
   cases w'.heap[c]? with
   | none => rfl
   | some o => cases o with
    | coro x => cases x <;> first | rfl | (simp only [hdy]; rfl)
    | _ => rfl
  cases hc : w'.heap[c]? with
  | none => exact .inl ⟨k, fun τ' d' hA => dead_of_ended (step_solo_of hs (by rw [hrun τ' d' hA _ _ h1, hc]))⟩
  | some o =>
   by_cases hco : ∃ x, o = .coro x
   ·obtain ⟨x, rfl⟩ := hco
    cases x with
    | none =>
     refine .inr ⟨k, { frame := g.frame, callers := [], status := .running, dying := dy }, w', MemOp.ofEvents 0 a.frame.fn a.frame.place es, okG_mk hres.1.1 (fun f hf => by cases hf), rfl, kept_events hres.2.1, hres.2.2, fun τ' d' hA gs sl h0 ho => ?_⟩
     rw [hrun τ' d' hA gs sl h0, hc]
     rfl
    | some j =>
     cases j with
     | zero =>
      refine .inr ⟨k, { me with status := .running }, { w' with heap := w'.heap.setIfInBounds c (.coro (if ex then none else some 0)) }, MemOp.ofEvents 0 a.frame.fn a.frame.place es, ⟨hmo.1.1, hmo.1.2.1, fun _ hx => by cases hx⟩, rfl, kept_events (by simpa using hres.2.1), by simpa using hres.2.2, fun τ' d' hA gs sl h0 ho => ?_⟩
      rw [hrun τ' d' hA gs sl h0, hc]
      have hmod : (gs.setIfInBounds 0 me).modify 0 (fun o => { o with status := .running }) = gs.setIfInBounds 0 { me with status := .running } := by
       apply Array.ext_getElem?
       intro j
       rw [Array.getElem?_modify]
       by_cases hj : 0 = j
       ·subst hj
        by_cases hlt : 0 < gs.size
        ·rw [Array.getElem?_setIfInBounds_self_of_lt hlt, Array.getElem?_setIfInBounds_self_of_lt hlt]; rfl
        ·rw [Array.getElem?_eq_none (by simpa using hlt), Array.getElem?_eq_none (by simpa using hlt)]; rfl
       ·rw [if_neg hj, Array.getElem?_setIfInBounds_ne hj, Array.getElem?_setIfInBounds_ne hj]
      simp only [hmod]
      rfl
     | succ j =>
      refine .inl ⟨k, fun τ' d' hA => ?_⟩
      refine dead_of_still (g := me) (w := { on w' τ' (d' + k) with heap := w'.heap.setIfInBounds c (.coro (if ex then none else some 0)) }) (step_solo_of hs (u := MemOp.ofEvents 0 a.frame.fn a.frame.place es) ?_) hmo.2 hmo.1.2.2
      rw [hrun τ' d' hA #[a] none h1, hc]
      have hmod : ((#[a] : Array Goroutine).setIfInBounds 0 me).modify (j + 1) (fun o => { o with status := .running }) = #[me] := by
       rw [hset]
       apply Array.ext_getElem?
       intro i
       rw [Array.getElem?_modify]
       split
       ·rename_i e; subst e; simp
       ·rfl
      simp only [hmod]
      rfl
   ·refine .inl ⟨k, fun τ' d' hA => ?_⟩
    have := hrun τ' d' hA _ none h1
    rw [hc] at this
    cases o <;> first | exact dead_of_ended (step_solo_of hs this) | exact absurd ⟨_, rfl⟩ hco
 | _ => exact hres.elim
end
end Go.Vel
end
section
set_option linter.all false
set_option maxRecDepth 20000
set_option maxHeartbeats 60000000
namespace Go.Vel
open Go Go.Conc
open Go.ConcN (sumTo upd sumTo_upd upd_ne upd_same)

/-- Nothing is shunned. -/
abbrev NoShun : Loc → Prop := fun _ => False

/-- Goroutine 0's walk to a stop, whatever the others draw in between, on one tape. -/
inductive Tree (P : Program) (Φ : Goroutine → World → Prop) (τ : Nat → Question → Nat) : Goroutine → World → Prop
 | stop {a : Goroutine} {w : World} : a.status = .running → Φ a w → Tree P Φ τ a w
 | step {a : Goroutine} {w : World} (k : Nat → Nat) (a' : Nat → Goroutine) (w' : Nat → World) (u : Nat → Array MemOp) : a.status = .running →
   (∀ d, Kept (w' d).heap.size (u d)) → (∀ d, w.heap.size ≤ (w' d).heap.size) →
   (∀ d (gs : Array Goroutine) (sl : Option (Nat × Nat)), gs[0]? = some a → Others gs → runT P (crowd gs (on w τ d) sl) 0 = (.next (crowd (gs.setIfInBounds 0 (a' d)) (on (w' d) τ (d + k d)) sl), u d)) →
   (∀ d, Tree P Φ τ (a' d) (w' d)) → Tree P Φ τ a w

section
variable {P : Program} {Φ : Goroutine → World → Prop}

theorem Tree.mk_step {τ : Nat → Question → Nat} {a : Goroutine} {w : World} (hs : a.status = .running)
  (h : ∀ d, ∃ (k : Nat) (a' : Goroutine) (w' : World) (u : Array MemOp), Kept w'.heap.size u ∧ w.heap.size ≤ w'.heap.size ∧ (∀ (gs : Array Goroutine) (sl : Option (Nat × Nat)), gs[0]? = some a → Others gs → runT P (crowd gs (on w τ d) sl) 0 = (.next (crowd (gs.setIfInBounds 0 a') (on w' τ (d + k)) sl), u)) ∧ Tree P Φ τ a' w') : Tree P Φ τ a w := by
 exact .step (fun d => (h d).choose) (fun d => (h d).choose_spec.choose) (fun d => (h d).choose_spec.choose_spec.choose) (fun d => (h d).choose_spec.choose_spec.choose_spec.choose) hs
  (fun d => (h d).choose_spec.choose_spec.choose_spec.choose_spec.1) (fun d => (h d).choose_spec.choose_spec.choose_spec.choose_spec.2.1) (fun d => (h d).choose_spec.choose_spec.choose_spec.choose_spec.2.2.1) (fun d => (h d).choose_spec.choose_spec.choose_spec.choose_spec.2.2.2)

theorem runN_add : ∀ (n k : Nat) (m m₁ : Machine), runN P n m = .next m₁ → runN P (n + k) m = runN P k m₁
 | 0, k, m, m₁, h => by
  simp only [runN, Stepped.next.injEq] at h
  rw [h, Nat.zero_add]
 | n + 1, k, m, m₁, h => by
  rw [show n + 1 + k = (n + k) + 1 by omega]
  simp only [runN] at h ⊢
  split at h
  ·rename_i m₂ h1
   exact runN_add n k m₂ m₁ h
  ·rename_i hne
   exact absurd h (hne _)

theorem solo_inj {a b : Goroutine} {w v : World} (h : solo a w = solo b v) : a = b ∧ w = v := by
 have h1 := congrArg Machine.gs h
 have h2 := congrArg Machine.world h
 exact ⟨by simpa [solo] using h1, h2⟩

/-- A place of the lone run, on a tape that is laid as it goes. -/
structure St where
 a : Goroutine
 w : World
 c : Nat
 f : Nat → Question → Nat

def Good (P : Program) (Φ : Goroutine → World → Prop) (τ : Nat → Question → Nat) (a : Goroutine) (w : World) (n : Nat) (s : St) : Prop :=
 okG s.a ∧ s.a.status = .running ∧ ¬ Tree P Φ τ s.a s.w ∧ ∀ σ, Agree s.f 0 σ 0 s.c → runN P n (solo a (on w σ 0)) = .next (solo s.a (on s.w σ s.c)) ∧
  ∀ i, i < n → ∀ b W, runN P i (solo a (on w σ 0)) = .next (solo b W) → b.status = .running → ¬ Φ b W

def Later (s s' : St) : Prop := s.c ≤ s'.c ∧ ∀ i, i < s.c → ∀ q, s'.f i q = s.f i q
theorem Later.refl (s : St) : Later s s := ⟨Nat.le_refl _, fun _ _ _ => rfl⟩
theorem Later.trans {s s' s'' : St} (h : Later s s') (k : Later s' s'') : Later s s'' := ⟨Nat.le_trans h.1 k.1, fun i hi q => (k.2 i (Nat.lt_of_lt_of_le hi h.1) q).trans (h.2 i hi q)⟩

theorem good_next (T : Tame P) {τ : Nat → Question → Nat} {a : Goroutine} {w : World} (hΦ : ∀ b w τ d, Φ b (on w τ d) → Φ b w)
  (H : ∀ σ, ∃ n b W, runN P n (solo a (on w σ 0)) = .next (solo b W) ∧ b.status = .running ∧ Φ b W) {n : Nat} {s : St} (h : Good P Φ τ a w n s) : ∃ s', Good P Φ τ a w (n + 1) s' ∧ Later s s' := by
 obtain ⟨hok, hrun, hT, hist⟩ := h
 have hnot : ¬ Φ s.a s.w := fun x => hT (.stop hrun x)
 obtain ⟨d, hd⟩ : ∃ d, ¬ ∃ (k : Nat) (a' : Goroutine) (w' : World) (u : Array MemOp), Kept w'.heap.size u ∧ s.w.heap.size ≤ w'.heap.size ∧ (∀ (gs : Array Goroutine) (sl : Option (Nat × Nat)), gs[0]? = some s.a → Others gs → runT P (crowd gs (on s.w τ d) sl) 0 = (.next (crowd (gs.setIfInBounds 0 a') (on w' τ (d + k)) sl), u)) ∧ Tree P Φ τ a' w' := by
  apply Classical.byContradiction
  intro hc
  exact hT (Tree.mk_step hrun fun d => Classical.byContradiction fun hx => hc ⟨d, hx⟩)
 -- the tape laid on
 let f' : Nat → Question → Nat := fun i q => if i < s.c then s.f i q else τ (d + (i - s.c)) q
 have hf1 : ∀ i, i < s.c → ∀ q, f' i q = s.f i q := fun i hi q => by simp [f', hi]
 have hf2 : ∀ i q, f' (s.c + i) q = τ (d + i) q := fun i q => by
  show (if s.c + i < s.c then s.f (s.c + i) q else τ (d + (s.c + i - s.c)) q) = _
  rw [if_neg (by omega), Nat.add_sub_cancel_left]
 rcases solo_shift T hok hrun s.w τ d with ⟨k, hD⟩ | ⟨k, a', w', u, hok', hrun', hu, hsz, hst⟩
 ·have hD' : Dead P (solo s.a (on s.w f' s.c)) := hD f' s.c fun i _ q => hf2 i q
  obtain ⟨h1, h2⟩ := hist f' fun i hi q => by simpa using hf1 i hi q
  obtain ⟨m, b, W, e, hb, hφ⟩ := H f'
  rcases Nat.lt_trichotomy m n with hmn | hmn | hmn
  ·exact absurd hφ (h2 m hmn b W e hb)
  ·subst hmn
   rw [e] at h1
   obtain ⟨rfl, rfl⟩ := solo_inj (Stepped.next.inj h1)
   exact absurd (hΦ _ _ _ _ hφ) hnot
  ·obtain ⟨j, rfl⟩ : ∃ j, m = n + (j + 1) := ⟨m - n - 1, by omega⟩
   rw [runN_add n (j + 1) _ _ h1] at e
   exact absurd hb (hD' j b W e)
 ·refine ⟨⟨a', w', s.c + k, f'⟩, ⟨hok', hrun', fun hx => hd ⟨k, a', w', u, hu, hsz, hst τ d (Agree.refl _ _ _), hx⟩, fun σ hσ => ?_⟩, Nat.le_add_right _ _, hf1⟩
  obtain ⟨h1, h2⟩ := hist σ fun i hi q => by
   have := hσ i (show i < s.c + k by omega) q
   simp only [Nat.zero_add] at this ⊢
   rw [this, hf1 i hi]
  have hA : Agree τ d σ s.c k := fun i hi q => by
   have := hσ (s.c + i) (show s.c + i < s.c + k by omega) q
   simp only [Nat.zero_add] at this
   rw [this, hf2]
  have hstep : step P (solo s.a (on s.w σ s.c)) = .next (solo a' (on w' σ (s.c + k))) := by
   refine step_solo_of (u := u) hrun ?_
   rw [hst σ s.c hA #[s.a] none rfl (others_one _)]
   rfl
  refine ⟨?_, fun i hi b W e hb => ?_⟩
  ·rw [runN_add n 1 _ _ h1]
   simp only [runN, hstep]
  ·rcases Nat.lt_or_ge i n with hin | hin
   ·exact h2 i hin b W e hb
   ·obtain rfl : i = n := by omega
    rw [e] at h1
    obtain ⟨rfl, rfl⟩ := solo_inj (Stepped.next.inj h1)
    exact fun hφ => hnot (hΦ _ _ _ _ hφ)

/-- ████ WHAT COMES TO A STOP ALONE, ON EVERY TAPE, COMES TO IT WHATEVER OTHERS DRAW IN BETWEEN. ████ -/
theorem tree_of_lone (T : Tame P) {a : Goroutine} {w : World} (ha : okG a) (hs : a.status = .running) (hΦ : ∀ b w τ d, Φ b (on w τ d) → Φ b w)
  (H : ∀ σ, ∃ n b W, runN P n (solo a (on w σ 0)) = .next (solo b W) ∧ b.status = .running ∧ Φ b W) (τ : Nat → Question → Nat) : Tree P Φ τ a w := by
 apply Classical.byContradiction
 intro hT
 have h0 : Good P Φ τ a w 0 ⟨a, w, 0, fun _ _ => 0⟩ := ⟨ha, hs, hT, fun σ _ => ⟨rfl, fun i hi => by omega⟩⟩
 let seq : (n : Nat) → { s : St // Good P Φ τ a w n s } := fun n => Nat.rec (motive := fun n => { s : St // Good P Φ τ a w n s }) ⟨_, h0⟩ (fun _ x => ⟨(good_next T hΦ H x.2).choose, (good_next T hΦ H x.2).choose_spec.1⟩) n
 have hL1 : ∀ n, Later (seq n).1 (seq (n + 1)).1 := fun n => (good_next T hΦ H (seq n).2).choose_spec.2
 have hL : ∀ m k, Later (seq m).1 (seq (m + k)).1 := fun m k => by
  induction k with
  | zero => exact Later.refl _
  | succ k ih => exact ih.trans (hL1 (m + k))
 have hL' : ∀ m n, m ≤ n → Later (seq m).1 (seq n).1 := fun m n hmn => by
  obtain ⟨k, rfl⟩ := Nat.le.dest hmn
  exact hL m k
 let σ : Nat → Question → Nat := fun i q => open Classical in if h : ∃ n, i < (seq n).1.c then (seq h.choose).1.f i q else 0
 have hσ : ∀ n i, i < (seq n).1.c → ∀ q, σ i q = (seq n).1.f i q := fun n i hi q => by
  have hex : ∃ n, i < (seq n).1.c := ⟨n, hi⟩
  have e : σ i q = (seq hex.choose).1.f i q := dif_pos hex
  rw [e]
  rcases Nat.le_total hex.choose n with hle | hle
  ·exact ((hL' _ _ hle).2 i hex.choose_spec q).symm
  ·exact (hL' _ _ hle).2 i hi q
 obtain ⟨n, b, W, e, hb, hφ⟩ := H σ
 obtain ⟨_, _, _, hist⟩ := (seq (n + 1)).2
 exact (hist σ fun i hi q => by simpa using hσ (n + 1) i hi q).2 n (by omega) b W e hb hφ

/-! ### the machine carries it out -/
theorem leavers_others {t : Trace} {gs : Array Goroutine} {q : Nat → Nat} (h : Leavers P t gs q) : Others gs := fun j x hj hx => (h.old j x hj hx).status

theorem leavers_own {t : Trace} {gs : Array Goroutine} {q : Nat → Nat} (h : Leavers P t gs q) {a b : Goroutine} (h0 : gs[0]? = some b) {u : Trace} (hu : ∀ op ∈ u, op.g = 0) : Leavers P (t ++ u) (gs.setIfInBounds 0 a) q := by
 have hlt : 0 < gs.size := (Array.getElem?_eq_some_iff.1 h0).1
 refine ⟨fun j x hj hx => ?_, fun j hj => ?_⟩
 ·have hne : 0 ≠ j := by omega
  rw [Array.getElem?_setIfInBounds_ne hne] at hx
  rw [Deaf_other t hne u hu]
  exact h.old j x hj hx
 ·rw [Array.size_setIfInBounds] at hj
  rw [Deaf_other t (g' := 0) (by omega) u hu]
  exact h.above j hj

/-- THE OTHERS MOVE UNTIL GOROUTINE 0 IS PICKED. -/
theorem to_zero (w : World) (τ : Nat → Question → Nat) {a : Goroutine} (hs : a.status = .running) {B : Nat} : ∀ (M : Nat) (gs : Array Goroutine) (d : Nat) (sl : Option (Nat × Nat)) (t : Trace) (q : Nat → Nat), sumTo gs.size q ≤ M → gs[0]? = some a → Leavers P t gs q → Past NoShun B t →
  ∃ (N : Nat) (gs' : Array Goroutine) (d' : Nat) (sl' : Option (Nat × Nat)) (t' : Trace) (q' : Nat → Nat), runNT P N (crowd gs (on w τ d) sl) t = (.next (crowd gs' (on w τ d') sl'), t') ∧ gs'.size = gs.size ∧ gs'[0]? = some a ∧ Leavers P t' gs' q' ∧ Past NoShun B t' ∧
   ∃ d'' sl'', stepT P (crowd gs' (on w τ d') sl') = runT P (crowd gs' (on w τ d'') sl'') 0 := by
 intro M
 induction M with
 | zero =>
  intro gs d sl t q hM h0 hL hP
  have haw : ∀ g ∈ gs, awake g := fun g hg => by
   obtain ⟨i, hi, rfl⟩ := Array.mem_iff_getElem.1 hg
   rcases Nat.eq_zero_or_pos i with rfl | hpos
   ·have : gs[0] = a := by simpa [Array.getElem?_eq_getElem hi] using h0
    rw [this]; exact awake_of (.inl hs)
   ·exact awake_of ((hL.old i _ hpos (Array.getElem?_eq_getElem hi)).status.elim .inl fun x => .inr (.inr x))
  obtain ⟨i, g, d', sl', hi, hg, hst⟩ := crowd_pick (P := P) (w := on w τ d) (sl := sl) haw ⟨0, a, h0, hs⟩
  rcases Nat.eq_zero_or_pos i with rfl | hpos
  ·exact ⟨0, gs, d, sl, t, q, rfl, rfl, h0, hL, hP, d', sl', hst⟩
  ·exfalso
   have hq := hL.old i g hpos hi
   have hlt : i < gs.size := (Array.getElem?_eq_some_iff.1 hi).1
   have := Go.ConcN.le_sumTo (f := q) hlt
   obtain hqi : q i = 0 := by omega
   rw [hqi] at hq
   rw [hq.1] at hg; cases hg
 | succ M ih =>
  intro gs d sl t q hM h0 hL hP
  have haw : ∀ g ∈ gs, awake g := fun g hg => by
   obtain ⟨i, hi, rfl⟩ := Array.mem_iff_getElem.1 hg
   rcases Nat.eq_zero_or_pos i with rfl | hpos
   ·have : gs[0] = a := by simpa [Array.getElem?_eq_getElem hi] using h0
    rw [this]; exact awake_of (.inl hs)
   ·exact awake_of ((hL.old i _ hpos (Array.getElem?_eq_getElem hi)).status.elim .inl fun x => .inr (.inr x))
  obtain ⟨i, g, d', sl', hi, hg, hst⟩ := crowd_pick (P := P) (w := on w τ d) (sl := sl) haw ⟨0, a, h0, hs⟩
  rcases Nat.eq_zero_or_pos i with rfl | hpos
  ·exact ⟨0, gs, d, sl, t, q, rfl, rfl, h0, hL, hP, d', sl', hst⟩
  ·have hq := hL.old i g hpos hi
   have hi0 : (i == 0) = false := by simp; omega
   have hlt : i < gs.size := (Array.getElem?_eq_some_iff.1 hi).1
   cases hqi : q i with
   | zero => rw [hqi] at hq; rw [hq.1] at hg; cases hg
   | succ k =>
    rw [hqi] at hq
    rcases hq with ⟨hf, _⟩ | ⟨_, g', es, hm, hstp, hq'⟩
    ·rw [hf] at hg; cases hg
    have hrunT := runT_crowd_go (P := P) (sl := sl') (i := i) hi (by rw [hi0]; exact hstp ((on w τ d).at d'))
    have hsz : ((gs.map (woken P g g' ((on w τ d).at d'))).setIfInBounds i g').size = gs.size := by simp
    have hsum : sumTo gs.size (upd q i k) + (k + 1) = sumTo gs.size q + k := by
     have := sumTo_upd q k id hlt
     simpa [hqi] using this
    obtain ⟨N, gs', d2, sl2, t', q', hr, hsz', h0', hL', hP', hfin⟩ := ih ((gs.map (woken P g g' ((on w τ d).at d'))).setIfInBounds i g') d' sl' (t ++ MemOp.ofEvents i g.frame.fn g.frame.place es) (upd q i k) (by rw [hsz]; omega)
     (by
      have hne : i ≠ 0 := by omega
      rw [Array.getElem?_setIfInBounds_ne hne, Array.getElem?_map, h0]
      simp [woken_run hs])
     ⟨fun j x hj hx => by
      by_cases hji : i = j
      ·subst hji
       rw [Array.getElem?_setIfInBounds_self_of_lt (by simpa using hlt)] at hx
       obtain rfl := Option.some.inj hx
       rw [upd_same, Deaf_own]
       exact hq'
      ·rw [Array.getElem?_setIfInBounds_ne hji, Array.getElem?_map] at hx
       obtain ⟨y, hy, rfl⟩ := Option.map_eq_some_iff.1 hx
       have hqj := hL.old j y hj hy
       rw [woken_quitsD hqj, upd_ne q k (Ne.symm hji), Deaf_other t hji _ (fun op hop => by obtain ⟨e, _, rfl⟩ := Go.Conc.mem_ofEvents hop; rfl)]
       exact hqj, fun j hj => by
      rw [Deaf_other t (g' := i) (by simp at hj; omega) _ (fun op hop => by obtain ⟨e, _, rfl⟩ := Go.Conc.mem_ofEvents hop; rfl)]
      exact hL.above j (by simpa using hj)⟩
     (hP.mute (by omega) hm)
    refine ⟨N + 1, gs', d2, sl2, t', q', ?_, hsz'.trans hsz, h0', hL', hP', hfin⟩
    simp only [runNT, hst, hrunT]
    exact hr

/-- ████ BESIDE LEAVERS, ON WHATEVER TAPE, GOROUTINE 0 COMES TO A STOP. ████ -/
def Besides (P : Program) (Φ : Goroutine → World → Prop) (a : Goroutine) (w : World) : Prop :=
 ∀ (τ : Nat → Question → Nat) (d : Nat) (gs : Array Goroutine) (sl : Option (Nat × Nat)) (t : Trace) (q : Nat → Nat), gs[0]? = some a → Leavers P t gs q → Past NoShun w.heap.size t →
  ∃ (N : Nat) (gs' : Array Goroutine) (a' : Goroutine) (w' : World) (d' : Nat) (sl' : Option (Nat × Nat)) (t' : Trace) (q' : Nat → Nat),
   runNT P N (crowd gs (on w τ d) sl) t = (.next (crowd gs' (on w' τ d') sl'), t') ∧ gs'[0]? = some a' ∧ Φ a' w' ∧ Leavers P t' gs' q' ∧ Past NoShun w'.heap.size t'

theorem runNT_add : ∀ (n k : Nat) (m m₁ : Machine) (t t₁ : Trace), runNT P n m t = (.next m₁, t₁) → runNT P (n + k) m t = runNT P k m₁ t₁
 | 0, k, m, m₁, t, t₁, h => by
  simp only [runNT, Prod.mk.injEq, Stepped.next.injEq] at h
  rw [h.1, h.2, Nat.zero_add]
 | n + 1, k, m, m₁, t, t₁, h => by
  rw [show n + 1 + k = (n + k) + 1 by omega]
  simp only [runNT] at h ⊢
  split at h
  ·rename_i m₂ ops h1
   exact runNT_add n k m₂ m₁ _ t₁ h
  ·rename_i e ops hne h1
   simp only [Prod.mk.injEq] at h
   obtain ⟨rfl, _⟩ := h
   exact (hne _ rfl).elim

theorem besides_of_trees {a : Goroutine} {w : World} (h : ∀ τ, Tree P Φ τ a w) : Besides P Φ a w := by
 intro τ d gs sl t q h0 hL hP
 have hT := h τ
 clear h
 induction hT generalizing d gs sl t q with
 | @stop a w hs hφ => exact ⟨0, gs, a, w, d, sl, t, q, rfl, h0, hφ, hL, hP⟩
 | @step a w k a' w' u hs hu hsz hst hT ih =>
  obtain ⟨N, gs1, d1, sl1, t1, q1, hr, _, h01, hL1, hP1, d2, sl2, hfin⟩ := to_zero w τ hs _ gs d sl t q (Nat.le_refl _) h0 hL hP
  have hlt : 0 < gs1.size := (Array.getElem?_eq_some_iff.1 h01).1
  have hst' := hst d2 gs1 sl2 h01 (leavers_others hL1)
  have hP2 : Past NoShun (w' d2).heap.size (t1 ++ u d2) := (hP1.mono (hsz d2)).app0 (hu d2).1 (fun _ _ _ _ hx => hx.elim) ((hu d2).2.1 t1) (hu d2).2.2
  obtain ⟨N2, gs', a'', w'', d', sl', t', q', hr2, h02, hφ, hL2, hP3⟩ := ih d2 (d2 + k d2) (gs1.setIfInBounds 0 (a' d2)) sl2 (t1 ++ u d2) q1 (by simp [hlt]) (leavers_own hL1 h01 (hu d2).1) hP2
  refine ⟨N + (1 + N2), gs', a'', w'', d', sl', t', q', ?_, h02, hφ, hL2, hP3⟩
  rw [runNT_add N (1 + N2) _ _ _ _ hr, Nat.add_comm 1 N2]
  simp only [runNT, hfin, hst']
  exact hr2
end
end Go.Vel
end
section
set_option linter.all false
set_option maxRecDepth 20000
set_option maxHeartbeats 60000000
namespace Go.Vel
open Go Go.Conc
open Go.ConcN (sumTo upd sumTo_upd upd_ne upd_same)

section
variable {P : Program}

/-! ### walks beside leavers, one behind the other -/
theorem Besides.bind {Φ Ψ : Goroutine → World → Prop} {a : Goroutine} {w : World} (h : Besides P Φ a w) (k : ∀ a' w', Φ a' w' → Besides P Ψ a' w') : Besides P Ψ a w := by
 intro τ d gs sl t q h0 hL hP
 obtain ⟨N, gs1, a1, w1, d1, sl1, t1, q1, r1, g1, hφ, L1, P1⟩ := h τ d gs sl t q h0 hL hP
 obtain ⟨M, gs2, a2, w2, d2, sl2, t2, q2, r2, g2, hψ, L2, P2⟩ := k a1 w1 hφ τ d1 gs1 sl1 t1 q1 g1 L1 P1
 exact ⟨N + M, gs2, a2, w2, d2, sl2, t2, q2, by rw [runNT_add N M _ _ _ _ r1]; exact r2, g2, hψ, L2, P2⟩

theorem Besides.on {Φ : Goroutine → World → Prop} {a : Goroutine} {w : World} {τ : Nat → Question → Nat} {d : Nat} : Besides P Φ a (Go.Vel.on w τ d) ↔ Besides P Φ a w := Iff.rfl

theorem Besides.here {Φ : Goroutine → World → Prop} {a : Goroutine} {w : World} (h : Φ a w) : Besides P Φ a w :=
 fun _ d gs sl t q h0 hL hP => ⟨0, gs, a, w, d, sl, t, q, rfl, h0, h, hL, hP⟩

/-- Whoever runs alone from a goroutine that is well is well. -/
theorem okG_runN (T : Tame P) : ∀ (n : Nat) (a : Goroutine) (w : World) (b : Goroutine) (W : World), okG a → a.status = .running → runN P n (solo a w) = .next (solo b W) → b.status = .running → okG b
 | 0, a, w, b, W, ha, _, h, _ => by
  simp only [runN, Stepped.next.injEq] at h
  rw [← (solo_inj h).1]; exact ha
 | n + 1, a, w, b, W, ha, hs, h, hb => by
  rcases solo_shift T ha hs w w.tape w.drawn with ⟨k, hD⟩ | ⟨k, a', w', u, ha', hs', _, _, hst⟩
  ·exact absurd hb (hD _ _ (Agree.refl _ _ _) n b W h)
  ·have h1 := step_solo_of (P := P) (W := Go.Vel.on w w.tape w.drawn) hs (hst _ _ (Agree.refl _ _ _) #[a] none rfl (others_one _))
   have e : step P (solo a w) = .next (solo a' (Go.Vel.on w' w.tape (w.drawn + k))) := h1
   simp only [runN, e] at h
   exact okG_runN T n a' _ b W ha' hs' h hb

/-- What goroutine 0 does alone, on every tape. -/
theorem Besides.lone (T : Tame P) {Ψ : Goroutine → World → Prop} {a : Goroutine} {w : World} (ha : okG a) (hs : a.status = .running)
  (H : ∀ σ, ∃ n b W, runN P n (solo a (Go.Vel.on w σ 0)) = .next (solo b W) ∧ b.status = .running ∧ (okG b → Besides P Ψ b W)) : Besides P Ψ a w := by
 refine Besides.bind (besides_of_trees (tree_of_lone (Φ := Besides P Ψ) T ha hs (fun _ _ _ _ x => Besides.on.1 x) fun σ => ?_)) fun _ _ h => h
 obtain ⟨n, b, W, h1, h2, h3⟩ := H σ
 exact ⟨n, b, W, h1, h2, h3 (okG_runN T n _ _ b W ha hs h1 h2)⟩

theorem lone_eq (fr : Frame) (cs : List Frame) (w : World) : lone fr cs w = solo (G fr cs) w := rfl

theorem Besides.steps (T : Tame P) {Ψ : Goroutine → World → Prop} {fr : Frame} {cs : List Frame} {w : World} (ha : okG (G fr cs))
  (H : ∀ σ, ∃ fr' cs' W, Steps P (Go.lone fr cs (Go.Vel.on w σ 0)) (Go.lone fr' cs' W) ∧ (okG (G fr' cs') → Besides P Ψ (G fr' cs') W)) : Besides P Ψ (G fr cs) w := by
 refine Besides.lone T ha rfl fun σ => ?_
 obtain ⟨fr', cs', W, ⟨n, hn⟩, h⟩ := H σ
 exact ⟨n, G fr' cs', W, hn, rfl, h⟩

/-! ### frames that are well -/
theorem okG_at {b : Frame} {a : Act} {k : List Item} {cs : List Frame} (h : ∀ i ∈ k, okI i) (hc : ∀ f ∈ cs, okF f) : okG (G (b.at a k) cs) := ⟨h, hc, fun _ hx => by cases hx⟩
theorem ok_cons {i : Item} {k : List Item} (hi : okI i) (hk : ∀ i ∈ k, okI i) : ∀ j ∈ i :: k, okI j := fun j hj => by
 rcases List.mem_cons.1 hj with rfl | hj
 ·exact hi
 ·exact hk j hj
theorem ok_tail {i : Item} {k : List Item} (h : ∀ j ∈ i :: k, okI j) : ∀ j ∈ k, okI j := fun j hj => h j (List.mem_cons_of_mem _ hj)

/-! ### code -/
/-- A piece of code, beside leavers: left straight on in N, or by a return in R. -/
def wpB (P : Program) (c : Code) (N R : Act → World → Prop) (a : Act) (w : World) : Prop :=
 ∀ (b : Frame) (k : List Item) (cs : List Frame), b.kind = .normal → okG (G (b.at a (.code c :: k)) cs) → ∀ Ψ : Goroutine → World → Prop,
  (∀ a' w', N a' w' → Besides P Ψ (G (b.at a' k) cs) w') → (∀ a' w' todo, R a' w' → okG (G { b.at a' todo with mode := .returning } cs) → Besides P Ψ (G { b.at a' todo with mode := .returning } cs) w') → Besides P Ψ (G (b.at a (.code c :: k)) cs) w

theorem wpB.mono {c : Code} {N R N' R' : Act → World → Prop} {a : Act} {w : World} (h : wpB P c N R a w) (hn : ∀ a w, N a w → N' a w) (hr : ∀ a w, R a w → R' a w) : wpB P c N' R' a w :=
 fun b k cs hb hok Ψ h1 h2 => h b k cs hb hok Ψ (fun a' w' x => h1 a' w' (hn _ _ x)) (fun a' w' todo x => h2 a' w' todo (hr _ _ x))

theorem wpB_seq (T : Tame P) {x y : Code} {N R : Act → World → Prop} {a : Act} {w : World} (h : wpB P x (wpB P y N R) R a w) : wpB P (.seq x y) N R a w := by
 intro b k cs hb hok Ψ h1 h2
 have hk : ∀ i ∈ k, okI i := ok_tail hok.1
 refine Besides.steps T hok fun σ => ⟨_, _, _, .one step_seq, fun hok' => Besides.on.2 (h b (.code y :: k) cs hb hok' Ψ (fun a' w' hy => hy b k cs hb (okG_at (ok_cons trivial hk) hok.2.1) Ψ h1 h2) h2)⟩

theorem wpB_cond (T : Tame P) {c : Operand} {x y : Code} {N R : Act → World → Prop} {a : Act} {w : World} {t : Bool} (hc : a.eval c = .bool t) (h : wpB P (if t then x else y) N R a w) : wpB P (.cond c x y) N R a w := by
 intro b k cs hb hok Ψ h1 h2
 exact Besides.steps T hok fun σ => ⟨_, _, _, .one (step_cond hc), fun hok' => Besides.on.2 (h b k cs hb hok' Ψ h1 h2)⟩

theorem wpB_skip (T : Tame P) {N R : Act → World → Prop} {a : Act} {w : World} (h : N a w) : wpB P .skip N R a w := by
 intro b k cs hb hok Ψ h1 h2
 exact Besides.steps T hok fun σ => ⟨_, _, _, .one step_skip, fun hok' => Besides.on.2 (h1 a w h)⟩

theorem wpB_ret (T : Tame P) {N R : Act → World → Prop} {a : Act} {w : World} (h : R a w) : wpB P .ret N R a w := by
 intro b k cs hb hok Ψ h1 h2
 exact Besides.steps T hok fun σ => ⟨_, _, _, .one step_ret, fun hok' => Besides.on.2 (h2 a w _ h hok')⟩

/-- What a lone walk shows, on every tape. -/
def loneQ (N R : Act → World → Prop) : Exit → Act → World → Prop
 | .normal, a, w => N a w
 | .ret, a, w => R a w
 | _, _, _ => False

theorem wpB_lone (T : Tame P) {c : Code} {N R : Act → World → Prop} {a : Act} {w : World} (h : ∀ σ, c.wp P (loneQ N R) a (Go.Vel.on w σ 0)) : wpB P c N R a w := by
 intro b k cs hb hok Ψ h1 h2
 refine Besides.steps T hok fun σ => ?_
 obtain ⟨e, a', w', hq, harr⟩ := h σ b k cs
 cases e with
 | normal => exact ⟨_, _, w', harr, fun _ => h1 a' w' hq⟩
 | ret =>
  obtain ⟨todo, hs⟩ := harr
  exact ⟨_, _, w', hs, fun hok' => h2 a' w' todo hq hok'⟩
 | exit id => exact hq.elim
 | goto l => exact hq.elim
 | panic ch => exact hq.elim
 | outgrown => exact hq.elim

/-! ### calls -/
/-- A call beside leavers. -/
def CallsB (P : Program) (f : FuncId) (args : Array Value) (w : World) (R : Value → World → Prop) : Prop :=
 ∀ (c : Frame) (cs : List Frame), okG (G (Frame.enter P f args .normal) (c :: cs)) → ∀ Ψ : Goroutine → World → Prop, (∀ v w', R v w' → okG (G (c.finish v) cs) → Besides P Ψ (G (c.finish v) cs) w') → Besides P Ψ (G (Frame.enter P f args .normal) (c :: cs)) w

theorem CallsB.mono {f : FuncId} {args : Array Value} {w : World} {R R' : Value → World → Prop} (h : CallsB P f args w R) (hr : ∀ v w, R v w → R' v w) : CallsB P f args w R' :=
 fun c cs hok Ψ k => h c cs hok Ψ fun v w' x => k v w' (hr v w' x)

/-- How it ends. -/
def retQ (R : Value → World → Prop) (e : Ending) (w : World) : Prop := ∃ v, e = .returned v ∧ R v w

theorem callsB_lone (T : Tame P) {f : FuncId} {args : Array Value} {w : World} {R : Value → World → Prop} (h : ∀ σ, Calls P f args (Go.Vel.on w σ 0) (retQ R)) : CallsB P f args w R := by
 intro c cs hok Ψ k
 refine Besides.steps T hok fun σ => ?_
 obtain ⟨e, w', fr, ⟨v, rfl, hR⟩, hcomes, _, hleave⟩ := h σ (c :: cs)
 exact ⟨_, _, w', Steps.trans hcomes (.one (step_leave_returned hleave)), fun hok' => k v w' hR hok'⟩

/-- How a contract beside leavers is entered. -/
theorem callsB_enter (T : Tame P) {f : FuncId} {fn : Func} {c : Code} {args : Array Value} {w : World} {R : Value → World → Prop} (hf : P.funcs[f]? = some fn) (hb : fn.body = some c)
  (h : wpB P c (fun _ _ => False) (fun a w => a.defers = [] ∧ ∃ v, (∀ σ d, (results fn a.tmps).run P (Go.Vel.on w σ d) = .ok v (Go.Vel.on w σ d)) ∧ R v w) { tmps := args ++ Array.replicate (fn.ntmps - args.size) undef, defers := [] } w) : CallsB P f args w R := by
 intro d cs hok Ψ k
 let b : Frame := { (default : Frame) with fn := f, kind := .normal }
 have henter : Frame.enter P f args .normal = b.at { tmps := args ++ Array.replicate (fn.ntmps - args.size) undef, defers := [] } [.code c] := by
  simp [Frame.enter, Frame.at, hf, hb, b]
 rw [henter] at hok ⊢
 refine h b [] (d :: cs) rfl hok Ψ (fun _ _ x => x.elim) fun a' w' todo hq hok' => ?_
 obtain ⟨hd, v, hr, hR⟩ := hq
 refine Besides.steps T hok' fun σ => ⟨_, _, _, .one (step_leave_returned (v := v) ⟨rfl, hd, rfl, fn, hf, hr σ 0⟩), fun hok'' => Besides.on.2 (k v w' hR hok'')⟩

end
end Go.Vel
end
section
set_option linter.all false
set_option maxRecDepth 20000
set_option maxHeartbeats 60000000
namespace Go.Vel
open Go Go.Conc

/-! ### what a goroutine in company holds of the memory -/
/-- Blocks, whether they may be written (then nobody else holds them), and what stands in them. -/
abbrev Hp := Nat → Option (Bool × Obj)
def Fits (H : Hp) (w : World) : Prop := ∀ b rw o, H b = some (rw, o) → w.heap[b]? = some o
/-- What is held behind a step: what is its own as the step leaves it, and what is new. -/
def Hp.next (H : Hp) (w w' : World) : Hp := fun b => match H b with
 | some (false, o) => some (false, o)
 | some (true, _) => (w'.heap[b]?).map fun o => (true, o)
 | none => if w.heap.size ≤ b then (w'.heap[b]?).map fun o => (true, o) else none

/-- The block of a place of memory. -/
def blk : Loc → Nat
 | .cell a => a.block
 | .obj r => r
 | _ => 0

def Hp.lets (H : Hp) (b : Nat) (write : Bool) : Prop := ∃ rw o, H b = some (rw, o) ∧ (write = true → rw = true)

/-- What a step in company may list. -/
def EvH (H : Hp) (e : Event) : Prop := match e.loc with
 | .cell a => H.lets a.block e.write
 | .obj r => e.sync = false ∧ H.lets r e.write
 | .mark m => m = .noRoom ∨ ∃ f, m = .extern f
 | _ => False

structure StepH (H : Hp) (w w' : World) (es : Array Event) : Prop where
 size : w.heap.size ≤ w'.heap.size
 kept : ∀ b, b < w.heap.size → (∀ o, H b ≠ some (true, o)) → w'.heap[b]? = w.heap[b]?
 evs : ∀ e ∈ es, EvH (H.next w w') e
 os : w'.os = w.os
 out : w'.output = w.output
 tape : w'.tape = w.tape

theorem Fits.lt {H : Hp} {w : World} (h : Fits H w) {b : Nat} {x : Bool × Obj} (hb : H b = some x) : b < w.heap.size := (Array.getElem?_eq_some_iff.1 (h b x.1 x.2 hb)).1
theorem Fits.next {H : Hp} {w w' : World} {es : Array Event} (h : Fits H w) (hs : StepH H w w' es) : Fits (H.next w w') w' := by
 intro b rw o hb
 unfold Hp.next at hb
 split at hb
 ·rename_i o' e
  cases hb
  rw [hs.kept b (h.lt e) (fun o'' e' => by rw [e] at e'; cases e')]
  exact h b _ _ e
 ·obtain ⟨x, hx, e⟩ := Option.map_eq_some_iff.1 hb
  cases e; exact hx
 ·split at hb
  ·obtain ⟨x, hx, e⟩ := Option.map_eq_some_iff.1 hb
   cases e; exact hx
  ·cases hb
/-- Another's step leaves what one holds. -/
theorem Fits.other {H K : Hp} {w w' : World} {es : Array Event} (h : Fits K w) (hs : StepH H w w' es) (hd : ∀ b o, H b = some (true, o) → K b = none) : Fits K w' := by
 intro b rw o hb
 rw [hs.kept b (h.lt hb) (fun o' e => by rw [hd b o' e] at hb; cases hb)]
 exact h b rw o hb

/-! ### the trace -/
structure TInv (t : Trace) (n : Nat) (hp : Nat → Hp) (act : Nat → Prop) : Prop where
 clean : ∀ said, ¬ Race said t
 hears : Deaf t 0 = 0
 low : ∀ op ∈ t, op.act.low n
 known : ∀ idx a, touchAt t idx = some a → a.loc.isMemory = true → Knows t 0 idx ∨ ∃ i, act i ∧ t.g? idx = some i ∧ (hp i).lets (blk a.loc) a.write
 wk : ∀ i, act i → ∀ idx a, touchAt t idx = some a → a.loc.isMemory = true → ∀ rw o, hp i (blk a.loc) = some (rw, o) → (rw = true ∨ a.write = true) → Knows t i idx
 deaf : ∀ i, act i → Deaf t i = 0
 pos : ∀ i, act i → 0 < i
 disj : ∀ i k b o, (i = 0 ∨ act i) → (k = 0 ∨ act k) → i ≠ k → hp i b = some (true, o) → hp k b = none

theorem tinv_of_past {t : Trace} {n : Nat} (h : Past NoShun n t) (H : Hp) : TInv t n (fun _ => H) (fun _ => False) :=
 ⟨h.clean, h.hears, h.seen, fun idx a ha hm => .inl ((h.known idx a ha hm).elim id fun x => x.1.elim), fun _ hi => hi.elim, fun _ hi => hi.elim, fun _ hi => hi.elim, fun i k b o hi hk hne => by
  rcases hi with rfl | hi
  ·rcases hk with rfl | hk
   ·exact absurd rfl hne
   ·exact hk.elim
  ·exact hi.elim⟩

theorem past_of_tinv {t : Trace} {n : Nat} {hp : Nat → Hp} {act : Nat → Prop} (h : TInv t n hp act) (ha : ∀ i, ¬ act i) : Past NoShun n t := by
 have hk : ∀ idx a, touchAt t idx = some a → a.loc.isMemory = true → Knows t 0 idx := fun idx a hx hm => (h.known idx a hx hm).elim id fun ⟨i, hi, _⟩ => absurd hi (ha i)
 refine ⟨h.clean, fun idx a hx hm => .inl (hk idx a hx hm), fun idx g hg hne hc => ?_, h.hears, h.low⟩
 obtain ⟨x, hx, hm, _⟩ := hc
 obtain ⟨q, z, hq, hz, hb⟩ := hk idx x hx hm
 refine ⟨q, by simp [Trace.g?, hq, hz], ?_⟩
 rcases hb with rfl | hb
 ·have : t.g? idx = some 0 := by simp [Trace.g?, hq, hz]
  rw [this] at hg; cases hg; exact absurd rfl hne
 ·exact hb

theorem low_touch {n : Nat} {x : MemAct} {a : Touch} (h : x.low n) (ht : x.touch? = some a) (hm : a.loc.isMemory = true) : blk a.loc < n := by
 cases x with
 | access e =>
  simp only [MemAct.touch?, Option.some.injEq] at ht
  subst ht
  obtain ⟨loc, wr, sy⟩ := e
  cases loc <;> first | exact h | (simp [Loc.isMemory] at hm)
 | mark m =>
  cases m <;> simp only [MemAct.touch?, Option.some.injEq, reduceCtorEq] at ht
  all_goals (subst ht; exact h)
 | _ => simp [MemAct.touch?] at ht
theorem low_touchAt {t : Trace} {n idx : Nat} {a : Touch} (h : ∀ op ∈ t, op.act.low n) (ht : touchAt t idx = some a) (hm : a.loc.isMemory = true) : blk a.loc < n := by
 obtain ⟨x, hx, hxa⟩ := touch_of ht
 exact low_touch (h x (Array.mem_of_getElem? hx)) hxa hm

/-- ████ OPERATIONS OF ONE GOROUTINE, ON WHAT IT HOLDS. ████ -/
theorem TInv.appOwn {t u : Trace} {n n' : Nat} {hp hp' : Nat → Hp} {act : Nat → Prop} (h : TInv t n hp act) {i : Nat} (hi : i = 0 ∨ act i) (hn : n ≤ n')
  (hoth : ∀ k, k ≠ i → hp' k = hp k)
  (hback : ∀ b rw o, hp' i b = some (rw, o) → (∃ o', hp i b = some (rw, o')) ∨ n ≤ b)
  (hfwd : ∀ b wr, (hp i).lets b wr → (hp' i).lets b wr)
  (hdom : ∀ k, (k = 0 ∨ act k) → ∀ b x, hp k b = some x → b < n)
  (hu : ∀ op ∈ u, op.g = i) (hd : Deaf (t ++ u) i = Deaf t i) (hl : ∀ op ∈ u, op.act.low n')
  (ht : ∀ op ∈ u, ∀ b, op.act.touch? = some b → b.loc.isMemory = true → (hp' i).lets (blk b.loc) b.write) : TInv (t ++ u) n' hp' act := by
 have hdeaf : ∀ k, Deaf (t ++ u) k = Deaf t k := fun k => by
  by_cases hk : k = i
  ·subst hk; exact hd
  ·exact Deaf_other t (Ne.symm hk) u hu
 -- an earlier touch that conflicts is known
 have hconf : ∀ idx a, touchAt t idx = some a → a.loc.isMemory = true → ∀ op ∈ u, ∀ b, op.act.touch? = some b → a.loc = b.loc → (a.write = true ∨ b.write = true) → Knows t i idx := by
  intro idx a ha hm op hop b hb hloc hw
  obtain ⟨rw, o, hrw, himp⟩ := ht op hop b hb (by rw [← hloc]; exact hm)
  rw [← hloc] at hrw
  have hlt := low_touchAt h.low ha hm
  rcases hback _ _ _ hrw with ⟨o', hold⟩ | hge
  ·rcases hi with rfl | hi
   ·rcases h.known idx a ha hm with hk | ⟨k, hk, _, rw', o'', hkb, himp'⟩
    ·exact hk
    ·exfalso
     have hk0 := h.pos k hk
     rcases hw with hw | hw
     ·have := himp' hw
      subst this
      have := h.disj k 0 _ _ (.inr hk) (.inl rfl) (by omega) hkb
      rw [this] at hold; cases hold
     ·have := himp hw
      subst this
      have := h.disj 0 k _ _ (.inl rfl) (.inr hk) (by omega) hold
      rw [this] at hkb; cases hkb
   ·refine h.wk i hi idx a ha hm rw o' hold ?_
    exact hw.elim .inr fun hb => .inl (himp hb)
  ·omega
 refine ⟨fun said => noRace_append (h.clean said) hu fun idx a ha op hop b hb hc => hconf idx a ha hc.2.1 op hop b hb hc.1 (by simpa using hc.2.2.1), (hdeaf 0).trans h.hears, seen_app (fun op hop => MemAct.low_mono hn (h.low op hop)) hl, fun idx a ha hm => ?_, fun k hk idx a ha hm rw o hb hor => ?_, fun k hk => (hdeaf k).trans (h.deaf k hk), h.pos, fun k l b o hk hl' hne hb => ?_⟩
 ·obtain ⟨x, hx, hxa⟩ := touch_of ha
  rcases getElem?_append_cases hx with ⟨hlt, hx'⟩ | ⟨_, hxu⟩
  ·rcases h.known idx a (by rw [touchAt_of hx']; exact hxa) hm with hk | ⟨k, hk, hg, hlets⟩
   ·exact .inl (hk.app u)
   ·refine .inr ⟨k, hk, by rw [g?_old hlt]; exact hg, ?_⟩
    by_cases hki : k = i
    ·subst hki; exact hfwd _ _ hlets
    ·rw [hoth k hki]; exact hlets
  ·rcases hi with rfl | hi
   ·have := knows_own hx
    rw [hu x hxu] at this
    exact .inl this
   ·exact .inr ⟨i, hi, by simp [Trace.g?, hx, hu x hxu], ht x hxu a hxa hm⟩
 ·obtain ⟨x, hx, hxa⟩ := touch_of ha
  by_cases hki : k = i
  ·subst hki
   rcases getElem?_append_cases hx with ⟨hlt, hx'⟩ | ⟨_, hxu⟩
   ·have ha' : touchAt t idx = some a := by rw [touchAt_of hx']; exact hxa
    rcases hback _ _ _ hb with ⟨o', hold⟩ | hge
    ·exact (h.wk k hk idx a ha' hm rw o' hold hor).app u
    ·have := low_touchAt h.low ha' hm
     omega
   ·have := knows_own hx
    rw [hu x hxu] at this
    exact this
  ·rw [hoth k hki] at hb
   rcases getElem?_append_cases hx with ⟨hlt, hx'⟩ | ⟨_, hxu⟩
   ·exact (h.wk k hk idx a (by rw [touchAt_of hx']; exact hxa) hm rw o hb hor).app u
   ·exfalso
    obtain ⟨rw', o', hrw, himp⟩ := ht x hxu a hxa hm
    rcases hback _ _ _ hrw with ⟨o'', hold⟩ | hge
    ·rcases hor with rfl | hw
     ·have := h.disj k i _ _ (.inr hk) hi hki hb
      rw [this] at hold; cases hold
     ·have := himp hw
      subst this
      have := h.disj i k _ _ hi (.inr hk) (Ne.symm hki) hold
      rw [this] at hb; cases hb
    ·have := hdom k (.inr hk) _ _ hb
     omega
 ·-- who holds a block to write is alone
  by_cases hki : k = i
  ·subst hki
   have hli : l ≠ k := Ne.symm hne
   rw [hoth l hli]
   rcases hback _ _ _ hb with ⟨o', hold⟩ | hge
   ·exact h.disj k l b _ hk hl' hne hold
   ·cases e : hp l b with
    | none => rfl
    | some x => have := hdom l hl' b x e; omega
  ·rw [hoth k hki] at hb
   have hb' := hdom k hk b _ hb
   by_cases hli : l = i
   ·subst hli
    cases e : hp' l b with
    | none => rfl
    | some x =>
     obtain ⟨rw, o'⟩ := x
     rcases hback _ _ _ e with ⟨o'', hold⟩ | hge
     ·have := h.disj k l b _ hk hl' hne hb
      rw [this] at hold; cases hold
     ·omega
   ·rw [hoth l hli]
    exact h.disj k l b _ hk hl' hne hb

/-- What touches nothing makes no race. -/
theorem noRace_still {said : Bool} {t u : Trace} (h : ¬ Race said t) (hu : ∀ op ∈ u, op.act.touch? = none) : ¬ Race said (t ++ u) := by
 rintro ⟨i, j, hij, ⟨a, b, ha, hb, hc⟩, n1, n2⟩
 obtain ⟨x, hx, hxa⟩ := touch_of ha
 obtain ⟨y, hy, hyb⟩ := touch_of hb
 rcases getElem?_append_cases hx with ⟨_, hx'⟩ | ⟨_, hxu⟩
 ·rcases getElem?_append_cases hy with ⟨_, hy'⟩ | ⟨_, hyu⟩
  ·exact h ⟨i, j, hij, ⟨a, b, by simp [Trace.act?, hx', hxa], by simp [Trace.act?, hy', hyb], hc⟩, fun e => n1 (hb_app u e), fun e => n2 (hb_app u e)⟩
  ·rw [hu y hyu] at hyb; cases hyb
 ·rw [hu x hxu] at hxa; cases hxa

theorem touchAt_still {t u : Trace} (hu : ∀ op ∈ u, op.act.touch? = none) {idx : Nat} {a : Touch} (h : touchAt (t ++ u) idx = some a) : touchAt t idx = some a ∧ idx < t.size := by
 obtain ⟨x, hx, hxa⟩ := touch_of h
 rcases getElem?_append_cases hx with ⟨hlt, hx'⟩ | ⟨_, hxu⟩
 ·exact ⟨by rw [touchAt_of hx']; exact hxa, hlt⟩
 ·rw [hu x hxu] at hxa; cases hxa

/-- Operations that touch nothing, and make nobody deaf. -/
theorem TInv.appStill {t u : Trace} {n : Nat} {hp : Nat → Hp} {act : Nat → Prop} (h : TInv t n hp act) (hu : ∀ op ∈ u, op.act.touch? = none) (hd : ∀ k, k = 0 ∨ act k → Deaf (t ++ u) k = Deaf t k) (hl : ∀ op ∈ u, op.act.low n) : TInv (t ++ u) n hp act := by
 refine ⟨fun said => noRace_still (h.clean said) hu, (hd 0 (.inl rfl)).trans h.hears, seen_app h.low hl, fun idx a ha hm => ?_, fun k hk idx a ha hm rw o hb hor => ?_, fun k hk => (hd k (.inr hk)).trans (h.deaf k hk), h.pos, h.disj⟩
 ·obtain ⟨ha', hlt⟩ := touchAt_still hu ha
  rcases h.known idx a ha' hm with hk | ⟨k, hk, hg, hlets⟩
  ·exact .inl (hk.app u)
  ·exact .inr ⟨k, hk, by rw [g?_old hlt]; exact hg, hlets⟩
 ·obtain ⟨ha', _⟩ := touchAt_still hu ha
  exact (h.wk k hk idx a ha' hm rw o hb hor).app u

theorem TInv.mono {t : Trace} {n n' : Nat} {hp : Nat → Hp} {act : Nat → Prop} (h : TInv t n hp act) (hn : n ≤ n') : TInv t n' hp act :=
 ⟨h.clean, h.hears, fun op hop => MemAct.low_mono hn (h.low op hop), h.known, h.wk, h.deaf, h.pos, h.disj⟩

theorem Deaf_mild {t u : Trace} {g : Nat} (hu : ∀ op ∈ u, op.act ≠ .mark .disable ∧ op.act ≠ .mark .enable) : Deaf (t ++ u) g = Deaf t g := by
 obtain ⟨l⟩ := u
 rw [Deaf_append]
 induction l generalizing t with
 | nil => rfl
 | cons y l ih =>
  have hy := hu y (by simp)
  have e1 : deafStep g (Deaf t g) y = Deaf t g := by
   unfold deafStep
   split
   ·rename_i e; exact absurd e hy.1
   ·rename_i e; exact absurd e hy.2
   ·rfl
  rw [List.foldl_cons, e1]
  exact ih fun op hop => hu op (by simp at hop ⊢; exact .inr hop)

theorem heard_of {t u : Trace} {g : Nat} {y : MemOp} (hy : y.g = g) (hd : Deaf t g = 0) : (t ++ #[y] ++ u).heard t.size := by
 have e : (t ++ #[y] ++ u)[t.size]? = some y := by
  rw [getElem?_append_old (by simp)]
  simp
 refine ⟨g, by unfold Trace.g?; rw [e, Option.map_some, hy], ?_⟩
 rw [Array.append_assoc, deaf_old (Nat.le_refl _)]
 exact hd

/-- ████ A NEW GOROUTINE. ████ -/
theorem TInv.spawn {t : Trace} {n : Nat} {hp hp' : Nat → Hp} {act : Nat → Prop} (h : TInv t n hp act) {c : Nat} (hc : 0 < c) (hca : ¬ act c) (hdc : Deaf t c = 0) {x y : MemOp} (hx : x.g = 0 ∧ x.act = .go c) (hy : y.g = c ∧ y.act = .start)
  (hoth : ∀ k, k ≠ 0 → k ≠ c → hp' k = hp k)
  (h2 : ∀ b rw o, hp' 0 b = some (rw, o) → ∃ rw' o', hp 0 b = some (rw', o') ∧ (rw = true → rw' = true))
  (h3 : ∀ b rw o, hp' c b = some (rw, o) → rw = false ∧ ∃ rw' o', hp 0 b = some (rw', o'))
  (h4 : ∀ b o, hp' 0 b = some (true, o) → hp' c b = none) : TInv (t ++ #[x] ++ #[y]) n hp' (fun k => act k ∨ k = c) := by
 have hux : ∀ op ∈ (#[x] : Array MemOp), op.act.touch? = none := fun op hop => by
  simp only [List.mem_toArray, List.mem_singleton] at hop; subst hop; rw [hx.2]; rfl
 have huy : ∀ op ∈ (#[y] : Array MemOp), op.act.touch? = none := fun op hop => by
  simp only [List.mem_toArray, List.mem_singleton] at hop; subst hop; rw [hy.2]; rfl
 have hmx : ∀ op ∈ (#[x] : Array MemOp), op.act ≠ .mark .disable ∧ op.act ≠ .mark .enable := fun op hop => by
  simp only [List.mem_toArray, List.mem_singleton] at hop; subst hop; rw [hx.2]; exact ⟨by simp, by simp⟩
 have hmy : ∀ op ∈ (#[y] : Array MemOp), op.act ≠ .mark .disable ∧ op.act ≠ .mark .enable := fun op hop => by
  simp only [List.mem_toArray, List.mem_singleton] at hop; subst hop; rw [hy.2]; exact ⟨by simp, by simp⟩
 have hd : ∀ k, Deaf (t ++ #[x] ++ #[y]) k = Deaf t k := fun k => by rw [Deaf_mild hmy, Deaf_mild hmx]
 have hlx : ∀ op ∈ (#[x] : Array MemOp), op.act.low n := fun op hop => by
  simp only [List.mem_toArray, List.mem_singleton] at hop; subst hop; rw [hx.2]; trivial
 have hly : ∀ op ∈ (#[y] : Array MemOp), op.act.low n := fun op hop => by
  simp only [List.mem_toArray, List.mem_singleton] at hop; subst hop; rw [hy.2]; trivial
 have hne : ∀ k, act k → k ≠ c := fun k hk e => hca (e ▸ hk)
 refine ⟨fun said => noRace_still (noRace_still (h.clean said) hux) huy, (hd 0).trans h.hears, seen_app (seen_app h.low hlx) hly, fun idx a ha hm => ?_, fun k hk idx a ha hm rw o hb hor => ?_, fun k hk => (hd k).trans (hk.elim (h.deaf k) fun e => e ▸ hdc), fun k hk => hk.elim (h.pos k) fun e => e ▸ hc, fun k l b o hk hl hkl hb => ?_⟩
 ·obtain ⟨ha1, hlt1⟩ := touchAt_still huy ha
  obtain ⟨ha', hlt⟩ := touchAt_still hux ha1
  rcases h.known idx a ha' hm with hk | ⟨k, hk, hg, hlets⟩
  ·exact .inl ((hk.app _).app _)
  ·refine .inr ⟨k, .inl hk, by rw [g?_old hlt1, g?_old hlt]; exact hg, ?_⟩
   rw [hoth k (by have := h.pos k hk; omega) (hne k hk)]
   exact hlets
 ·obtain ⟨ha1, hlt1⟩ := touchAt_still huy ha
  obtain ⟨ha', hlt⟩ := touchAt_still hux ha1
  rcases hk with hk | rfl
  ·rw [hoth k (by have := h.pos k hk; omega) (hne k hk)] at hb
   exact ((h.wk k hk idx a ha' hm rw o hb hor).app _).app _
  ·obtain ⟨rfl, rw', o', h0⟩ := h3 _ _ _ hb
   have hw : a.write = true := hor.elim (fun e => by cases e) id
   rcases h.known idx a ha' hm with hkn | ⟨k', hk', _, rw'', o'', hkb, himp⟩
   ·-- goroutine 0 knew it; the new one starts behind
    obtain ⟨q, z, hq, hz, hbef⟩ := hkn
    have hqlt := lt_size_of_getElem? hq
    have e1 : (t ++ #[x] ++ #[y])[q]? = some z := by rw [getElem?_append_old (by simp; omega), getElem?_append_old hqlt]; exact hq
    have e2 : (t ++ #[x] ++ #[y])[t.size]? = some x := by rw [getElem?_append_old (by simp)]; simp
    have e3 : (t ++ #[x] ++ #[y])[t.size + 1]? = some y := by
     have e : (t ++ #[x] ++ #[y])[(t ++ #[x]).size]? = some y := by simp only [← Array.push_eq_append, Array.getElem?_push_size]
     rwa [show (t ++ #[x]).size = t.size + 1 by simp] at e
    have hpo : HappensBefore (t ++ #[x] ++ #[y]) q t.size := hb_po hqlt e1 e2 (hz.trans hx.1.symm)
    have hsp : HappensBefore (t ++ #[x] ++ #[y]) t.size (t.size + 1) := by
     refine .single (.inr ⟨.spawn (child := k) (by rw [act?_of e2, hx.2]) (by rw [act?_of e3, hy.2]) (by unfold Trace.g?; rw [e3, Option.map_some, hy.1]), heard_of hx.1 h.hears, ?_⟩)
     have := heard_of (t := t ++ #[x]) (u := #[]) hy.1 (by rw [Deaf_mild hmx]; exact hdc)
     simpa using this
    exact ⟨t.size + 1, y, e3, hy.1, .inr (((hbef.app #[x]).app #[y]).hb (hpo.trans hsp))⟩
   ·exfalso
    have := himp hw
    subst this
    have := h.disj k' 0 _ _ (.inr hk') (.inl rfl) (by have := h.pos k' hk'; omega) hkb
    rw [this] at h0; cases h0
 ·-- who holds a block to write is alone
  have hl3 : ∀ l b, hp 0 b = none → l = 0 ∨ l = c → hp' l b = none := fun l b h0 hl => by
   cases e : hp' l b with
   | none => rfl
   | some z =>
    obtain ⟨rw, o'⟩ := z
    rcases hl with rfl | rfl
    ·obtain ⟨_, _, h', _⟩ := h2 _ _ _ e
     rw [h0] at h'; cases h'
    ·obtain ⟨_, _, _, h'⟩ := h3 _ _ _ e
     rw [h0] at h'; cases h'
  rcases hk with rfl | hk | rfl
  ·rcases hl with rfl | hl | rfl
   ·exact absurd rfl hkl
   ·obtain ⟨rw', o', h0, himp⟩ := h2 _ _ _ hb
    have := himp rfl
    subst this
    rw [hoth l (by have := h.pos l hl; omega) (hne l hl)]
    exact h.disj 0 l b o' (.inl rfl) (.inr hl) hkl h0
   ·exact h4 b o hb
  ·have hk0 : k ≠ 0 := by have := h.pos k hk; omega
   rw [hoth k hk0 (hne k hk)] at hb
   have h0 := h.disj k 0 b o (.inr hk) (.inl rfl) hk0 hb
   rcases hl with rfl | hl | rfl
   ·exact hl3 _ b h0 (.inl rfl)
   ·rw [hoth l (by have := h.pos l hl; omega) (hne l hl)]
    exact h.disj k l b o (.inr hk) (.inr hl) hkl hb
   ·exact hl3 _ b h0 (.inr rfl)
  ·have := (h3 _ _ _ hb).1
   cases this

/-- ████ A WORKER HANDS WHAT IT HAS DONE TO GOROUTINE 0. ████ -/
theorem TInv.comm {t : Trace} {n : Nat} {hp : Nat → Hp} {act : Nat → Prop} (h : TInv t n hp act) {i : Nat} (hi : act i) {c k cap : Nat} (hcn : c < n) {x1 x2 x3 x4 : MemOp}
  (h1 : x1.g = i ∧ x1.act = .send c k) (h2 : x2.act = .recv c k cap) (h3 : x3.act = .sendDone c k) (h4 : x4.g = 0 ∧ x4.act = .recvDone c k) : TInv (t ++ #[x1, x2, x3, x4]) n hp (fun j => act j ∧ j ≠ i) := by
 have hcase : ∀ op ∈ (#[x1, x2, x3, x4] : Array MemOp), op.act.touch? = none ∧ (op.act ≠ .mark .disable ∧ op.act ≠ .mark .enable) ∧ op.act.low n := fun op hop => by
  simp only [List.mem_toArray, List.mem_cons, List.not_mem_nil, or_false] at hop
  rcases hop with rfl | rfl | rfl | rfl
  ·rw [h1.2]; exact ⟨rfl, ⟨by simp, by simp⟩, hcn⟩
  ·rw [h2]; exact ⟨rfl, ⟨by simp, by simp⟩, hcn⟩
  ·rw [h3]; exact ⟨rfl, ⟨by simp, by simp⟩, hcn⟩
  ·rw [h4.2]; exact ⟨rfl, ⟨by simp, by simp⟩, hcn⟩
 have hS := h.appStill (u := #[x1, x2, x3, x4]) (fun op hop => (hcase op hop).1) (fun k _ => Deaf_mild fun op hop => (hcase op hop).2.1) (fun op hop => (hcase op hop).2.2)
 refine ⟨hS.clean, hS.hears, hS.low, fun idx a ha hm => ?_, fun k hk => hS.wk k hk.1, fun k hk => hS.deaf k hk.1, fun k hk => h.pos k hk.1, fun k l b o hk hl => h.disj k l b o (hk.imp id And.left) (hl.imp id And.left)⟩
 rcases hS.known idx a ha hm with hk | ⟨j, hj, hg, hlets⟩
 ·exact .inl hk
 by_cases hji : j = i
 ·subst hji
  obtain ⟨_, hlt⟩ := touchAt_still (fun op hop => (hcase op hop).1) ha
  left
  have e : (t ++ #[x1, x2, x3, x4])[t.size]? = some x1 := by simp
  have e4 : (t ++ #[x1, x2, x3, x4])[t.size + 3]? = some x4 := by simp
  obtain ⟨z, hz, hzg⟩ := Option.map_eq_some_iff.1 hg
  have hpo : HappensBefore (t ++ #[x1, x2, x3, x4]) idx t.size := hb_po hlt hz e (hzg.trans h1.1.symm)
  have hh : HappensBefore (t ++ #[x1, x2, x3, x4]) t.size (t.size + 3) := by
   refine .single (.inr ⟨.handOver (c := c) (k := k) (by rw [act?_of e, h1.2]) (by rw [act?_of e4, h4.2]), ?_, ?_⟩)
   ·have := heard_of (t := t) (u := #[x2, x3, x4]) h1.1 (h.deaf j hi)
    simpa using this
   ·have hm : ∀ op ∈ (#[x1, x2, x3] : Array MemOp), op.act ≠ .mark .disable ∧ op.act ≠ .mark .enable := fun op hop => (hcase op (by simp at hop ⊢; rcases hop with h | h | h <;> simp [h])).2.1
    have := heard_of (t := t ++ #[x1, x2, x3]) (u := #[]) h4.1 (by rw [Deaf_mild hm]; exact h.hears)
    simpa using this
  exact ⟨t.size + 3, x4, e4, h4.1, .inr (hpo.trans hh)⟩
 ·exact .inr ⟨j, ⟨hj, hji⟩, hg, hlets⟩
end Go.Vel
end
section
set_option linter.all false
set_option maxRecDepth 20000
set_option maxHeartbeats 60000000
namespace Go.Vel
open Go Go.Conc

theorem choose_lt {P : Program} {q : Question} {n : Nat} (hn : 0 < n) (hq : q = .select n ∨ ∃ s, q = .extern s n) (w : World) : ∃ a d, a < n ∧ (choose q).run P w = .ok a (w.at d) := by
 by_cases hf : q.forced = true
 ·exact ⟨0, w.drawn, hn, by simp only [choose, Sem.run, hf, if_true]; rfl⟩
 ·refine ⟨q.cut (w.tape w.drawn q), w.drawn + 1, ?_, by simp only [choose, Sem.run, hf]; rfl⟩
  rcases hq with rfl | ⟨s, rfl⟩
  ·exact Nat.mod_lt _ hn
  ·simp only [Question.cut]
   rw [if_neg (by omega)]
   exact Nat.mod_lt _ hn

theorem run_bind_ok {α β : Type} {P : Program} {s : Sem α} {f : α → Sem β} {w w' : World} {a : α} (h : s.run P w = .ok a w') : (s >>= f).run P w = (f a).run P w' := by
 show (Sem.bind s f).run P w = _
 rw [Sem.run_bind', h]
 rfl

section
variable {P : Program} {gs : Array Goroutine} {w w₁ : World} {sl : Option (Nat × Nat)} {i : Nat} {g g₂ : Goroutine} {es : Array Event} {shape : CommShape} {blocking : Bool} {cases : Array CommCase}

/-- A COMMUNICATION OF n RECEIVES WHERE SENDERS ARE PARKED: IT MEETS ONE OF THEM, whichever the tape picks. -/
theorem sel_meets_some (hi : gs[i]? = some g) (h : stepG P (i == 0) g w = .comm g₂ cases blocking shape w₁ es)
  (hcs : ∀ (q : Nat) (cc : CommCase), cases[q]? = some cc → ∃ ch z s r tm, cc = rcase ch z ∧ w₁.heap[ch]? = some (.chan 0 #[] false s r tm))
  (hall : ∀ ch j k, (j, k) ∈ partners (gs.setIfInBounds i ph) ch true → k = 0 ∧ j ≠ i ∧ ∃ gj vj zj shj, gs[j]? = some (parked gj #[scase ch vj zj] shj))
  (hne : ∃ (q ch : Nat) (z : Value), cases[q]? = some (rcase ch z) ∧ partners (gs.setIfInBounds i ph) ch true ≠ []) :
  ∃ (q ch : Nat) (z : Value) (s r : Nat) (tm : Bool) (j : Nat) (gj : Goroutine) (vj zj : Value) (shj : CommShape) (d : Nat), cases[q]? = some (rcase ch z) ∧ w₁.heap[ch]? = some (.chan 0 #[] false s r tm) ∧ j ≠ i ∧
   gs[j]? = some (parked gj #[scase ch vj zj] shj) ∧
   runT P (crowd gs w sl) i = (.next (crowd ((gs.setIfInBounds j (gj.finishComm P #[scase ch vj zj] shj 0 undef false)).setIfInBounds i (g₂.finishComm P cases shape q vj true)) ((w₁.at d).setChan ch 0 #[] false (s + 1) (r + 1) tm) sl),
    MemOp.ofEvents i g.frame.fn g.frame.place es ++ #[{ g := j, fn := gj.frame.fn, pos := gj.frame.place, act := .send ch s }, { g := i, fn := g₂.frame.fn, pos := g₂.frame.place, act := .recv ch r 0 },
     { g := j, fn := gj.frame.fn, pos := gj.frame.place, act := .sendDone ch s }, { g := i, fn := g₂.frame.fn, pos := g₂.frame.place, act := .recvDone ch r }]) := by
 have hways : ∀ (q : Nat) (cc : CommCase), cases[q]? = some cc → ∀ ch z, cc = rcase ch z → ways w₁ (gs.setIfInBounds i ph) cc = (partners (gs.setIfInBounds i ph) ch true).map fun (h, k) => Way.partner h k := by
  intro q cc hq ch z e
  obtain ⟨ch', z', s, r, tm, e', hc⟩ := hcs q cc hq
  rw [e] at e'
  simp only [rcase, CommCase.mk.injEq, Value.chan.injEq, Option.some.injEq] at e'
  obtain ⟨rfl, _, rfl⟩ := e'
  subst e
  simp only [ways, rcase, hc]
  cases partners (gs.setIfInBounds i ph) ch true with
  | nil => simp
  | cons p ps => simp
 generalize hready : ((cases.zipIdx.toList.map fun (c, k) => (k, c, ways w₁ (gs.setIfInBounds i ph) c)).filter fun (_, _, ws) => !ws.isEmpty) = ready
 have hin : ∀ x ∈ ready, cases[x.1]? = some x.2.1 ∧ x.2.2 = ways w₁ (gs.setIfInBounds i ph) x.2.1 ∧ x.2.2 ≠ [] := by
  intro x hx
  rw [← hready] at hx
  obtain ⟨hx1, hx2⟩ := List.mem_filter.1 hx
  obtain ⟨⟨c, k⟩, hck, rfl⟩ := List.mem_map.1 hx1
  exact ⟨mem_of_zipIdx hck, rfl, by simpa using hx2⟩
 have hpos : 0 < ready.length := by
  obtain ⟨q, ch, z, hq, hp⟩ := hne
  have : (q, rcase ch z, ways w₁ (gs.setIfInBounds i ph) (rcase ch z)) ∈ ready := by
   rw [← hready]
   refine List.mem_filter.2 ⟨List.mem_map.2 ⟨(rcase ch z, q), ?_, rfl⟩, ?_⟩
   ·exact Array.mem_toList_iff.2 (Array.mem_zipIdx_iff_getElem?.2 (by simpa using hq))
   ·rw [hways q _ hq ch z rfl]
    simpa using hp
  exact List.length_pos_of_mem this
 obtain ⟨a, d1, ha, hrun1⟩ := choose_lt (P := P) hpos (.inl rfl) w₁
 obtain ⟨x, hx⟩ : ∃ x, ready[a]? = some x := ⟨ready[a], List.getElem?_eq_getElem ha⟩
 obtain ⟨q, cc, ws⟩ := x
 obtain ⟨hq, hws, hwne⟩ := hin _ (List.mem_of_getElem? hx)
 simp only at hq hws hwne
 obtain ⟨ch, z, s, r, tm, rfl, hc⟩ := hcs q cc hq
 rw [hways q _ hq ch z rfl] at hws
 obtain ⟨b, d2, hb, hrun2⟩ := choose_lt (P := P) (q := .extern "which waiting goroutine is the partner" ws.length) (List.length_pos_iff.2 hwne) (.inr ⟨_, rfl⟩) (w₁.at d1)
 have hb' : b < (partners (gs.setIfInBounds i ph) ch true).length := by rw [hws] at hb; simpa using hb
 obtain ⟨⟨j, k⟩, hjk⟩ : ∃ p, (partners (gs.setIfInBounds i ph) ch true)[b]? = some p := ⟨_, List.getElem?_eq_getElem hb'⟩
 obtain ⟨rfl, hij, gj, vj, zj, shj, hj⟩ := hall ch j k (List.mem_of_getElem? hjk)
 have hway : ws.getD b .closed = .partner j 0 := by rw [hws]; exact getD_map_partner _ b (j, 0) hjk
 refine ⟨q, ch, z, s, r, tm, j, gj, vj, zj, shj, d2, hq, hc, hij, hj, ?_⟩
 rw [runT_crowd_comm hi h]
 have hj' := stand_get (i := i) hij hj
 have hfp := finishPartner_at P (gs.setIfInBounds i ph) hj' (cs := #[scase ch vj zj]) (sh := shj) rfl 0 undef
 have hgd : (gs.setIfInBounds i ph).getD j default = parked gj #[scase ch vj zj] shj := by rw [Array.getD_eq_getD_getElem?, hj']; rfl
 have hov : offeredValue (gs.setIfInBounds i ph) j 0 = vj := by simp [offeredValue, hj', parked, scase]
 have hnot : ¬ cases.any (illMade w₁) = true := by
  rw [Bool.not_eq_true]
  refine any_ill fun x hx => ?_
  obtain ⟨m, hlt, e⟩ := Array.mem_iff_getElem.1 hx
  obtain ⟨ch', z', s', r', tm', rfl, hc'⟩ := hcs m x (by rw [← e]; exact Array.getElem?_eq_getElem hlt)
  exact made_recv z' hc'
 have hemp : ready.isEmpty = false := by cases ready with
  | nil => simp at hpos
  | cons => rfl
 have hgd2 : ready.getD a (0, default, []) = (q, rcase ch z, ws) := by simp [List.getD, hx]
 have hpick : (do
    let a ← choose (.select ready.length)
    let (k, c, ws) := ready.getD a (0, default, [])
    let b ← choose (.extern "which waiting goroutine is the partner" ws.length)
    pure (k, c, ws.getD b .closed) : Sem (Nat × CommCase × Way)).run P w₁ = .ok (q, rcase ch z, .partner j 0) ((w₁.at d1).at d2) := by
  rw [run_bind_ok hrun1]
  simp only [hgd2]
  rw [run_bind_ok hrun2]
  simp only [pure, Sem.run, hway]
 unfold communicate
 simp only [hready, hemp, Bool.false_eq_true, if_false, hpick]
 rw [if_neg (by exact hnot)]
 simp [rcase, crowd, hc, hfp, hgd, hov, set_stand2, scase, parked, World.setChan, World.at]
 rfl
end
end Go.Vel
end
section
set_option linter.all false
set_option maxRecDepth 20000
set_option maxHeartbeats 60000000
namespace Go.Vel
open Go Go.Conc
open Go.ConcN (sumTo upd upd_ne upd_same)

/-! ### what is asked of a worker, and of who gathers -/
/-- A worker's walk, in whatever company, to a place of S. -/
inductive TreeW (P : Program) (S : Goroutine → Hp → Prop) : Goroutine → Hp → Prop
 | stop {g : Goroutine} {H : Hp} : S g H → TreeW P S g H
 | step {g : Goroutine} {H : Hp} : g.status = .running → (∀ w, Fits H w → ∃ g' w' es, stepG P false g w = .go g' w' es ∧ StepH H w w' es ∧ g'.status = .running) →
   (∀ w g' w' es, Fits H w → stepG P false g w = .go g' w' es → TreeW P S g' (H.next w w')) → TreeW P S g H

/-- It stands at its one send; behind that it only leaves. -/
def AtSend (P : Program) (m : Nat × Value) (g : Goroutine) (H : Hp) : Prop :=
 ∃ (g₂ : Goroutine) (z : Value) (n : Nat), g.status = .running ∧ QuitsD P n 0 (Go.Conc.served g₂ undef) ∧
  ∀ w, Fits H w → ∃ es, stepG P false g w = .comm g₂ #[scase m.1 m.2 z] true .send w es ∧ ∀ e ∈ es, EvH H e

/-- The two receives of a select. -/
def sel2 (cg cn : Nat) (z1 z2 : Value) : Array CommCase := #[rcase cg z1, rcase cn z2]

inductive MainT (P : Program) (cg cn : Nat) (msg : Nat → Nat × Value) (Stop : Goroutine → Hp → Prop) : Nat → (Nat → Bool) → Goroutine → Hp → Prop
 | stop {j : Nat} {R : Nat → Bool} {g : Goroutine} {H : Hp} : g.status = .running → (∀ i, i < j → R i = true) → Stop g H → MainT P cg cn msg Stop j R g H
 | step {j : Nat} {R : Nat → Bool} {g : Goroutine} {H : Hp} : g.status = .running → (∀ w, Fits H w → ∃ g' w' es, stepG P true g w = .go g' w' es ∧ StepH H w w' es ∧ g'.status = .running) →
   (∀ w g' w' es, Fits H w → stepG P true g w = .go g' w' es → MainT P cg cn msg Stop j R g' (H.next w w')) → MainT P cg cn msg Stop j R g H
 | spawn {j : Nat} {R : Nat → Bool} {g : Goroutine} {H : Hp} (g' ch : Goroutine) (H₂ Hc : Hp) : g.status = .running →
   (∀ w, Fits H w → ∃ es, stepG P true g w = .spawn g' ch w es ∧ ∀ e ∈ es, EvH H e) → g'.status = .running → ch.status = .running → R j = false →
   (∀ b rw o, H₂ b = some (rw, o) → ∃ rw', H b = some (rw', o) ∧ (rw = true → rw' = true)) →
   (∀ b rw o, Hc b = some (rw, o) → rw = false ∧ ∃ rw', H b = some (rw', o)) →
   (∀ b o, H₂ b = some (true, o) → Hc b = none) →
   TreeW P (AtSend P (msg j)) ch Hc → MainT P cg cn msg Stop (j + 1) R g' H₂ → MainT P cg cn msg Stop j R g H
 | recv {j : Nat} {R : Nat → Bool} {g : Goroutine} {H : Hp} (g₂ : Goroutine) (z1 z2 : Value) : g.status = .running → (∃ i, i < j ∧ R i = false) →
   (∀ w, Fits H w → ∃ es, stepG P true g w = .comm g₂ (sel2 cg cn z1 z2) true .select w es ∧ ∀ e ∈ es, EvH H e) →
   (∀ i, i < j → R i = false → ∀ q : Nat, q = (if (msg i).1 = cg then 0 else 1) → MainT P cg cn msg Stop j (upd R i true) (g₂.finishComm P (sel2 cg cn z1 z2) .select q (msg i).2 true) H) → MainT P cg cn msg Stop j R g H

/-! ### the state of the others -/
inductive WS where
 | walk (g : Goroutine) (H : Hp)
 | park (g : Goroutine) (H : Hp) (z : Value) (n : Nat)
 | left (n : Nat)
def WS.hp : WS → Hp
 | .walk _ H => H
 | .park _ H _ _ => H
 | .left _ => fun _ => none
def WS.act : WS → Prop
 | .left _ => False
 | _ => True

/-- One move of another's. -/
inductive WR (P : Program) : WS → WS → Prop
 | slip (n : Nat) : WR P (.left n) (.left (n + 1))
 | walk {g g' : Goroutine} {H : Hp} {w w' : World} {es : Array Event} : Fits H w → stepG P false g w = .go g' w' es → WR P (.walk g' (H.next w w')) (.walk g H)
 | park {g g' : Goroutine} {H H' : Hp} {z : Value} {n : Nat} : WR P (.park g' H' z n) (.walk g H)

theorem acc_left (P : Program) : ∀ n, Acc (WR P) (.left n)
 | 0 => ⟨_, fun y h => by cases h⟩
 | n + 1 => ⟨_, fun y h => by cases h; exact acc_left P n⟩
theorem acc_park (P : Program) (g : Goroutine) (H : Hp) (z : Value) (n : Nat) : Acc (WR P) (.park g H z n) := ⟨_, fun y h => by cases h⟩
theorem acc_walk {P : Program} {m : Nat × Value} {g : Goroutine} {H : Hp} (h : TreeW P (AtSend P m) g H) : Acc (WR P) (.walk g H) := by
 induction h with
 | stop hs =>
  obtain ⟨g₂, z, n, _, _, hst⟩ := hs
  refine ⟨_, fun y hy => ?_⟩
  cases hy with
  | walk hf hgo =>
   obtain ⟨es, e, _⟩ := hst _ hf
   rw [hgo] at e; cases e
  | park => exact acc_park P _ _ _ _
 | step _ _ _ ih =>
  refine ⟨_, fun y hy => ?_⟩
  cases hy with
  | walk hf hgo => exact ih _ _ _ _ hf hgo
  | park => exact acc_park P _ _ _ _

/-- Induction over several at once. -/
theorem multi_ind {X : Type} (r : X → X → Prop) : ∀ (N : Nat) (C : (Nat → X) → Prop), (∀ f : Nat → X, (∀ i, i < N → ∀ y, r y (f i) → C (upd f i y)) → C f) → ∀ f : Nat → X, (∀ i, i < N → Acc r (f i)) → C f
 | 0, C, step, f, _ => step f fun i hi => by omega
 | N + 1, C, step, f, hf => by
  have key : ∀ x, Acc r x → ∀ f : Nat → X, f N = x → (∀ i, i < N → Acc r (f i)) → C f := by
   intro x hx
   induction hx with
   | intro x _ ih =>
    intro f hfx hacc
    refine multi_ind r N (fun f => f N = x → (∀ i, i < N → Acc r (f i)) → C f) (fun f hstep hfx hacc => ?_) f hacc hfx hacc
    refine step f fun i hi y hy => ?_
    rcases Nat.lt_or_ge i N with hlt | hge
    ·refine hstep i hlt y hy (by rw [upd_ne f y (by omega)]; exact hfx) fun k hk => ?_
     by_cases hki : k = i
     ·subst hki
      rw [upd_same]
      exact (hacc k hk).inv hy
     ·rw [upd_ne f y hki]; exact hacc k hk
    ·obtain rfl : i = N := by omega
     refine ih y (by rw [← hfx]; exact hy) (upd f i y) (upd_same f i y) fun k hk => ?_
     rw [upd_ne f y (by omega)]
     exact hacc k hk
  exact key (f N) (hf N (by omega)) f rfl fun i hi => hf i (by omega)

/-! ### the machine -/
def hpOf (H : Hp) (f : Nat → WS) (i : Nat) : Hp := if i = 0 then H else (f i).hp
theorem hpOf_zero (H : Hp) (f : Nat → WS) : hpOf H f 0 = H := rfl
theorem hpOf_pos (H : Hp) (f : Nat → WS) {i : Nat} (h : 0 < i) : hpOf H f i = (f i).hp := by unfold hpOf; rw [if_neg (by omega)]

def WsOk (P : Program) (msg : Nat → Nat × Value) (m0 : Nat) (t : Trace) (w : World) (i : Nat) (x : Goroutine) : WS → Prop
 | .walk g H => x = g ∧ m0 ≤ i ∧ g.status = .running ∧ TreeW P (AtSend P (msg (i - m0))) g H ∧ Fits H w
 | .park g H z n => x = parked g #[scase (msg (i - m0)).1 (msg (i - m0)).2 z] .send ∧ m0 ≤ i ∧ QuitsD P n 0 (Go.Conc.served g undef) ∧ Fits H w
 | .left n => QuitsD P n (Deaf t i) x

/-- The two channels are open, without a buffer; what was sent was received. -/
def Chans (cg cn : Nat) (w : World) : Prop := ∃ k1 t1 k2 t2, w.heap[cg]? = some (.chan 0 #[] false k1 k1 t1) ∧ w.heap[cn]? = some (.chan 0 #[] false k2 k2 t2)

structure GInv (P : Program) (cg cn : Nat) (msg : Nat → Nat × Value) (m0 : Nat) (gs : Array Goroutine) (w : World) (t : Trace) (j : Nat) (R : Nat → Bool) (H : Hp) (f : Nat → WS) : Prop where
 pos : 0 < m0
 size : gs.size = m0 + j
 fits : Fits H w
 ws : ∀ i x, 0 < i → gs[i]? = some x → WsOk P msg m0 t w i x (f i)
 out : ∀ i, gs.size ≤ i → f i = .left 0
 above : ∀ k, gs.size ≤ k → Deaf t k = 0
 tr : TInv t w.heap.size (hpOf H f) (fun i => 0 < i ∧ (f i).act)
 ch : Chans cg cn w
 noch : ∀ i, i = 0 ∨ (f i).act → hpOf H f i cg = none ∧ hpOf H f i cn = none
 old : ∀ i, i < j → (R i = true ↔ ¬ (f (m0 + i)).act)
 young : ∀ i, 0 < i → i < m0 → ¬ (f i).act
 new : ∀ i, j ≤ i → R i = false

section
variable {P : Program} {cg cn : Nat} {msg : Nat → Nat × Value} {m0 : Nat} {gs : Array Goroutine} {w w' : World} {t : Trace} {j : Nat} {R : Nat → Bool} {H : Hp} {f : Nat → WS}

theorem GInv.fitsOf (h : GInv P cg cn msg m0 gs w t j R H f) (i : Nat) (hi : i = 0 ∨ (0 < i ∧ (f i).act)) : Fits (hpOf H f i) w := by
 rcases hi with rfl | ⟨hpos, hact⟩
 ·exact h.fits
 ·rw [hpOf_pos H f hpos]
  have hlt : i < gs.size := by
   apply Classical.byContradiction
   intro hn
   rw [h.out i (by omega)] at hact
   exact hact
  have := h.ws i _ hpos (Array.getElem?_eq_getElem hlt)
  cases e : f i with
  | walk g K => rw [e] at this; exact this.2.2.2.2
  | park g K z n => rw [e] at this; exact this.2.2.2
  | left n => rw [e] at hact; exact hact.elim

/-- What a step leaves of what another stands at. -/
theorem wsOk_keep {t' : Trace} {i : Nat} {x : Goroutine} {s : WS} (h : WsOk P msg m0 t w i x s) (hd : Deaf t' i = Deaf t i) (hf : s.act → Fits s.hp w') : WsOk P msg m0 t' w' i x s := by
 cases s with
 | walk g K => exact ⟨h.1, h.2.1, h.2.2.1, h.2.2.2.1, hf trivial⟩
 | park g K z n => exact ⟨h.1, h.2.1, h.2.2.1, hf trivial⟩
 | left n =>
  show QuitsD P n (Deaf t' i) x
  rw [hd]; exact h

theorem woken_ws {t : Trace} {a a' : Goroutine} {i : Nat} {x : Goroutine} {s : WS} (hmsg : ∀ i, (msg i).1 = cg ∨ (msg i).1 = cn) (h : WsOk P msg m0 t w i x s) (hc : Chans cg cn w') : woken P a a' w' x = x := by
 cases s with
 | walk g K => obtain ⟨rfl, _, hr, _⟩ := h; exact woken_run hr
 | park g K z n =>
  obtain ⟨rfl, _⟩ := h
  obtain ⟨k1, t1, k2, t2, h1, h2⟩ := hc
  rcases hmsg (i - m0) with e | e
  ·rw [e]; exact woken_send_open _ _ h1
  ·rw [e]; exact woken_send_open _ _ h2
 | left n => exact woken_quitsD h

theorem Chans.lt1 (h : Chans cg cn w) : cg < w.heap.size := by
 obtain ⟨_, _, _, _, h1, _⟩ := h
 exact (Array.getElem?_eq_some_iff.1 h1).1
theorem Chans.lt2 (h : Chans cg cn w) : cn < w.heap.size := by
 obtain ⟨_, _, _, _, _, h2⟩ := h
 exact (Array.getElem?_eq_some_iff.1 h2).1
theorem chans_step {es : Array Event} {K : Hp} (h : Chans cg cn w) (hs : StepH K w w' es) (hk : K cg = none ∧ K cn = none) : Chans cg cn w' := by
 obtain ⟨k1, t1, k2, t2, h1, h2⟩ := h
 refine ⟨k1, t1, k2, t2, ?_, ?_⟩
 ·rw [hs.kept cg (Array.getElem?_eq_some_iff.1 h1).1 (fun o e => by rw [hk.1] at e; cases e)]; exact h1
 ·rw [hs.kept cn (Array.getElem?_eq_some_iff.1 h2).1 (fun o e => by rw [hk.2] at e; cases e)]; exact h2

theorem lets_next {K : Hp} {es : Array Event} (hf : Fits K w) (hs : StepH K w w' es) {b : Nat} {wr : Bool} (h : K.lets b wr) : (K.next w w').lets b wr := by
 obtain ⟨rw, o, hb, himp⟩ := h
 cases rw with
 | false => exact ⟨false, o, by unfold Hp.next; rw [hb], himp⟩
 | true =>
  have hlt := hf.lt hb
  refine ⟨true, w'.heap[b]'(Nat.lt_of_lt_of_le hlt hs.size), ?_, fun _ => rfl⟩
  unfold Hp.next
  rw [hb]
  simp [Array.getElem?_eq_getElem (Nat.lt_of_lt_of_le hlt hs.size)]
theorem next_back {K : Hp} {b : Nat} {rw : Bool} {o : Obj} (h : K.next w w' b = some (rw, o)) : (∃ o', K b = some (rw, o')) ∨ w.heap.size ≤ b := by
 unfold Hp.next at h
 split at h
 ·rename_i e; cases h; exact .inl ⟨_, e⟩
 ·rename_i e
  obtain ⟨x, _, e'⟩ := Option.map_eq_some_iff.1 h
  cases e'; exact .inl ⟨_, e⟩
 ·split at h
  ·rename_i hge; exact .inr hge
  ·cases h

theorem evH_touch {K : Hp} {e : Event} (h : EvH K e) {b : Touch} (hb : (MemAct.ofEvent e).touch? = some b) (hm : b.loc.isMemory = true) : K.lets (blk b.loc) b.write := by
 obtain ⟨loc, wr, sy⟩ := e
 cases loc with
 | cell a =>
  simp only [MemAct.ofEvent, MemAct.touch?, Option.some.injEq] at hb
  subst hb
  exact h
 | obj r =>
  obtain ⟨hs, hl⟩ := h
  simp only at hs
  subst hs
  have : MemAct.ofEvent ⟨.obj r, wr, false⟩ = .access ⟨.obj r, wr, false⟩ := by cases wr <;> rfl
  rw [this] at hb
  simp only [MemAct.touch?, Option.some.injEq] at hb
  subst hb
  exact hl
 | mark m =>
  rcases h with h | ⟨g, h⟩
  ·subst h; simp [MemAct.ofEvent, MemAct.touch?] at hb
  ·subst h; simp [MemAct.ofEvent, MemAct.touch?] at hb
 | _ => exact h.elim
theorem evH_low {K : Hp} (hf : Fits K w) {e : Event} (h : EvH K e) : (MemAct.ofEvent e).low w.heap.size := by
 obtain ⟨loc, wr, sy⟩ := e
 cases loc with
 | cell a => obtain ⟨rw, o, hb, _⟩ := h; exact hf.lt hb
 | obj r =>
  obtain ⟨_, rw, o, hb, _⟩ := h
  exact low_obj _ _ (hf.lt hb)
 | mark m =>
  rcases h with h | ⟨g, h⟩
  ·subst h; trivial
  ·subst h; trivial
 | _ => exact h.elim
theorem evH_mild {K : Hp} {e : Event} (h : EvH K e) : e.loc ≠ .mark .disable ∧ e.loc ≠ .mark .enable := by
 obtain ⟨loc, wr, sy⟩ := e
 cases loc with
 | mark m =>
  rcases h with h | ⟨g, h⟩
  ·subst h; exact ⟨by simp, by simp⟩
  ·subst h; exact ⟨by simp, by simp⟩
 | _ => exact ⟨by simp, by simp⟩

/-- A goroutine's own step, in the trace. -/
theorem tinv_events {hp hp' : Nat → Hp} {act : Nat → Prop} {es : Array Event} {fn : FuncId} {pos : String} (h : TInv t w.heap.size hp act) {i : Nat} (hi : i = 0 ∨ act i) (hf : ∀ k, k = 0 ∨ act k → Fits (hp k) w) (hs : StepH (hp i) w w' es)
  (hoth : ∀ k, k ≠ i → hp' k = hp k) (hown : hp' i = (hp i).next w w') : TInv (t ++ MemOp.ofEvents i fn pos es) w'.heap.size hp' act := by
 have hf' := (hf i hi).next hs
 refine h.appOwn hi hs.size hoth (fun b rw o hb => ?_) (fun b wr hl => ?_) (fun k hk b x hb => (hf k hk).lt hb) (fun op hop => by obtain ⟨e, _, rfl⟩ := Go.Conc.mem_ofEvents hop; rfl) ?_ (fun op hop => ?_) (fun op hop b hb hm => ?_)
 ·rw [hown] at hb; exact next_back hb
 ·rw [hown]; exact lets_next (hf i hi) hs hl
 ·rw [Deaf_own]
  exact deafBehind_still (fun e he => evH_mild (hs.evs e he)) _
 ·obtain ⟨e, he, rfl⟩ := Go.Conc.mem_ofEvents hop
  exact evH_low hf' (hs.evs e he)
 ·obtain ⟨e, he, rfl⟩ := Go.Conc.mem_ofEvents hop
  rw [hown]
  exact evH_touch (hs.evs e he) hb hm

theorem tinv_still {hp : Nat → Hp} {act : Nat → Prop} {es : Array Event} {fn : FuncId} {pos : String} (h : TInv t w.heap.size hp act) {i : Nat} (hi : i = 0 ∨ act i) (hf : ∀ k, k = 0 ∨ act k → Fits (hp k) w) (hs : ∀ e ∈ es, EvH (hp i) e) :
  TInv (t ++ MemOp.ofEvents i fn pos es) w.heap.size hp act := by
 refine h.appOwn hi (Nat.le_refl _) (fun _ _ => rfl) (fun b rw o hb => .inl ⟨o, hb⟩) (fun b wr hl => hl) (fun k hk b x hb => (hf k hk).lt hb) (fun op hop => by obtain ⟨e, _, rfl⟩ := Go.Conc.mem_ofEvents hop; rfl) ?_ (fun op hop => ?_) (fun op hop b hb hm => ?_)
 ·rw [Deaf_own]
  exact deafBehind_still (fun e he => evH_mild (hs e he)) _
 ·obtain ⟨e, he, rfl⟩ := Go.Conc.mem_ofEvents hop
  exact evH_low (hf i hi) (hs e he)
 ·obtain ⟨e, he, rfl⟩ := Go.Conc.mem_ofEvents hop
  exact evH_touch (hs e he) hb hm

theorem ofEvents_g {i : Nat} {fn : FuncId} {pos : String} {es : Array Event} : ∀ op ∈ MemOp.ofEvents i fn pos es, op.g = i := fun op hop => by
 obtain ⟨e, _, rfl⟩ := Go.Conc.mem_ofEvents hop; rfl

theorem act_upd_walk {i k : Nat} {g : Goroutine} {K : Hp} (hact : (f i).act) : (upd f i (.walk g K) k).act ↔ (f k).act := by
 by_cases hk : k = i
 ·subst hk; rw [upd_same]; exact ⟨fun _ => hact, fun _ => trivial⟩
 ·rw [upd_ne f _ hk]
theorem act_upd_park {i k : Nat} {g : Goroutine} {K : Hp} {z : Value} {n : Nat} (hact : (f i).act) : (upd f i (.park g K z n) k).act ↔ (f k).act := by
 by_cases hk : k = i
 ·subst hk; rw [upd_same]; exact ⟨fun _ => hact, fun _ => trivial⟩
 ·rw [upd_ne f _ hk]

/-- The two that hold: one's memory is not another's. -/
theorem GInv.apart (h : GInv P cg cn msg m0 gs w t j R H f) {i k : Nat} (hi : i = 0 ∨ (0 < i ∧ (f i).act)) (hk : 0 < k ∧ (f k).act) (hne : i ≠ k) : ∀ b o, hpOf H f i b = some (true, o) → (f k).hp b = none := fun b o hb => by
 have := h.tr.disj i k b o hi (.inr hk) hne hb
 rwa [hpOf_pos H f hk.1] at this

/-- The gs behind an own step of goroutine i's. -/
theorem gs_step {i k : Nat} {x' y : Goroutine} {F : Goroutine → Goroutine} (hy : ((gs.map F).setIfInBounds i x')[k]? = some y) (hlt : i < gs.size) : (k = i ∧ y = x') ∨ (k ≠ i ∧ ∃ x, gs[k]? = some x ∧ y = F x) := by
 by_cases hk : i = k
 ·subst hk
  rw [Array.getElem?_setIfInBounds_self_of_lt (by simpa using hlt)] at hy
  exact .inl ⟨rfl, (Option.some.inj hy).symm⟩
 ·rw [Array.getElem?_setIfInBounds_ne hk, Array.getElem?_map] at hy
  obtain ⟨x, hx, rfl⟩ := Option.map_eq_some_iff.1 hy
  exact .inr ⟨fun e => hk e.symm, x, hx, rfl⟩

/-- A WORKER WALKS. -/
theorem ginv_walk (hmsg : ∀ i, (msg i).1 = cg ∨ (msg i).1 = cn) (h : GInv P cg cn msg m0 gs w t j R H f) {i : Nat} (hi : 0 < i) {x x' : Goroutine} (hx : gs[i]? = some x) {K : Hp} (hfi : f i = .walk x K) {es : Array Event}
  (hs : StepH K w w' es) (hrun : x'.status = .running) (hT : TreeW P (AtSend P (msg (i - m0))) x' (K.next w w')) :
  GInv P cg cn msg m0 ((gs.map (woken P x x' w')).setIfInBounds i x') w' (t ++ MemOp.ofEvents i x.frame.fn x.frame.place es) j R H (upd f i (.walk x' (K.next w w'))) := by
 have hlt : i < gs.size := (Array.getElem?_eq_some_iff.1 hx).1
 have hact : (f i).act := by rw [hfi]; trivial
 have hi0 : i ≠ 0 := by omega
 have hhp : hpOf H f i = K := by rw [hpOf_pos H f hi, hfi]; rfl
 have hws := h.ws i x hi hx
 rw [hfi] at hws
 obtain ⟨_, hm0, _, _, hK⟩ := hws
 have hnoc := h.noch i (.inr hact)
 rw [hhp] at hnoc
 have hc' := chans_step h.ch hs hnoc
 have hapart : ∀ k, (k = 0 ∨ (0 < k ∧ (f k).act)) → k ≠ i → Fits (hpOf H f k) w' := fun k hk hki => by
  refine (h.fitsOf k hk).other hs fun b o hb => ?_
  rw [← hhp] at hb
  exact h.tr.disj i k b o (.inr ⟨hi, hact⟩) hk (Ne.symm hki) hb
 refine ⟨h.pos, by simpa using h.size, ?_, fun k y hk hy => ?_, fun k hk => ?_, fun k hk => ?_, ?_, hc', fun k hk => ?_, fun k hk => ?_, fun k hk hk' => ?_, h.new⟩
 ·have := hapart 0 (.inl rfl) (Ne.symm hi0)
  exact this
 ·rcases gs_step hy hlt with ⟨rfl, rfl⟩ | ⟨hki, y', hy', rfl⟩
  ·rw [upd_same]
   exact ⟨rfl, hm0, hrun, hT, hK.next hs⟩
  ·rw [upd_ne f _ hki]
   have hk' := h.ws k y' hk hy'
   rw [woken_ws hmsg hk' hc']
   refine wsOk_keep hk' (Deaf_other t (Ne.symm hki) _ ofEvents_g) fun hka => ?_
   have := hapart k (.inr ⟨hk, hka⟩) hki
   rwa [hpOf_pos H f hk] at this
 ·have : k ≠ i := by simp at hk; omega
  rw [upd_ne f _ this]
  exact h.out k (by simpa using hk)
 ·rw [Deaf_other t (g' := i) (by simp at hk; omega) _ ofEvents_g]
  exact h.above k (by simpa using hk)
 ·have hTr := tinv_events (hp' := hpOf H (upd f i (.walk x' (K.next w w')))) (fn := x.frame.fn) (pos := x.frame.place) h.tr (i := i) (.inr ⟨hi, hact⟩) h.fitsOf (by rw [hhp]; exact hs) (fun k hk => by
   unfold hpOf
   rw [upd_ne f _ hk]) (by rw [hhp, hpOf_pos _ _ hi, upd_same]; rfl)
  refine ⟨hTr.clean, hTr.hears, hTr.low, fun idx a ha hm => (hTr.known idx a ha hm).imp id fun ⟨k, hk, r⟩ => ⟨k, ⟨hk.1, (act_upd_walk hact).2 hk.2⟩, r⟩, fun k hk => hTr.wk k ⟨hk.1, (act_upd_walk hact).1 hk.2⟩, fun k hk => hTr.deaf k ⟨hk.1, (act_upd_walk hact).1 hk.2⟩, fun k hk => hk.1, fun a b c o ha hb => hTr.disj a b c o (ha.imp id fun x => ⟨x.1, (act_upd_walk hact).1 x.2⟩) (hb.imp id fun x => ⟨x.1, (act_upd_walk hact).1 x.2⟩)⟩
 ·by_cases hki : k = i
  ·subst hki
   rw [hpOf_pos _ _ hi, upd_same]
   refine ⟨?_, ?_⟩
   ·have hlt1 := Go.Vel.Chans.lt1 h.ch
    show K.next w w' cg = none
    unfold Hp.next
    rw [hnoc.1, if_neg (by omega)]
   ·have hlt2 := Go.Vel.Chans.lt2 h.ch
    show K.next w w' cn = none
    unfold Hp.next
    rw [hnoc.2, if_neg (by omega)]
  ·have := h.noch k (hk.imp id fun x => (act_upd_walk hact).1 x)
   unfold hpOf at this ⊢
   rwa [upd_ne f _ hki]
 ·rw [act_upd_walk hact]; exact h.old k hk
 ·rw [act_upd_walk hact]; exact h.young k hk hk'

theorem ginv_at (h : GInv P cg cn msg m0 gs w t j R H f) (d : Nat) : GInv P cg cn msg m0 gs (w.at d) t j R H f :=
 ⟨h.pos, h.size, h.fits, fun i x hi hx => wsOk_keep (h.ws i x hi hx) rfl fun ha => by
  have := h.fitsOf i (.inr ⟨hi, ha⟩)
  rw [hpOf_pos H f hi] at this
  exact this, h.out, h.above, h.tr, h.ch, h.noch, h.old, h.young, h.new⟩

/-- WHO ONLY LEAVES TAKES A STEP. -/
theorem ginv_slip (hmsg : ∀ i, (msg i).1 = cg ∨ (msg i).1 = cn) (h : GInv P cg cn msg m0 gs w t j R H f) {i n : Nat} (hi : 0 < i) {x x' : Goroutine} (hx : gs[i]? = some x) (hfi : f i = .left (n + 1)) {es : Array Event}
  (hm : ∀ e ∈ es, e.mute = true) (hq : QuitsD P n (deafBehind (Deaf t i) es) x') :
  GInv P cg cn msg m0 ((gs.map (woken P x x' w)).setIfInBounds i x') w (t ++ MemOp.ofEvents i x.frame.fn x.frame.place es) j R H (upd f i (.left n)) := by
 have hlt : i < gs.size := (Array.getElem?_eq_some_iff.1 hx).1
 have hact : ∀ k, (upd f i (.left n) k).act ↔ (f k).act := fun k => by
  by_cases hk : k = i
  ·subst hk; rw [upd_same, hfi]; exact Iff.rfl
  ·rw [upd_ne f _ hk]
 have hhp : ∀ k, k = 0 ∨ (f k).act → hpOf H (upd f i (.left n)) k = hpOf H f k := fun k hk => by
  unfold hpOf
  by_cases hki : k = i
  ·subst hki
   rcases hk with rfl | hk
   ·omega
   ·rw [hfi] at hk; exact hk.elim
  ·rw [upd_ne f _ hki]
 refine ⟨h.pos, by simpa using h.size, h.fits, fun k y hk hy => ?_, fun k hk => ?_, fun k hk => ?_, ?_, h.ch, fun k hk => ?_, fun k hk => ?_, fun k hk hk' => ?_, h.new⟩
 ·rcases gs_step hy hlt with ⟨rfl, rfl⟩ | ⟨hki, y', hy', rfl⟩
  ·rw [upd_same]
   show QuitsD P n (Deaf _ k) y
   rw [Deaf_own]
   exact hq
  ·rw [upd_ne f _ hki]
   have hk' := h.ws k y' hk hy'
   rw [woken_ws hmsg hk' h.ch]
   refine wsOk_keep hk' (Deaf_other t (Ne.symm hki) _ ofEvents_g) fun hka => ?_
   have := h.fitsOf k (.inr ⟨hk, hka⟩)
   rwa [hpOf_pos H f hk] at this
 ·have : k ≠ i := by simp at hk; omega
  rw [upd_ne f _ this]
  exact h.out k (by simpa using hk)
 ·rw [Deaf_other t (g' := i) (by simp at hk; omega) _ ofEvents_g]
  exact h.above k (by simpa using hk)
 ·have hTr := h.tr.appStill (u := MemOp.ofEvents i x.frame.fn x.frame.place es) (fun op hop => by obtain ⟨e, he, rfl⟩ := Go.Conc.mem_ofEvents hop; exact touch_mute (hm e he)) (fun k hk => Deaf_other t (fun e => by
   subst e
   rcases hk with rfl | hk
   ·omega
   ·rw [hfi] at hk; exact hk.2.elim) _ ofEvents_g) (fun op hop => by obtain ⟨e, he, rfl⟩ := Go.Conc.mem_ofEvents hop; exact low_mute (hm e he) _)
  refine ⟨hTr.clean, hTr.hears, hTr.low, fun idx a ha hm => (hTr.known idx a ha hm).imp id fun ⟨k, hk, r1, r2⟩ => ⟨k, ⟨hk.1, (hact k).2 hk.2⟩, r1, by rw [hhp k (.inr hk.2)]; exact r2⟩, fun k hk => by
   rw [hhp k (.inr ((hact k).1 hk.2))]
   exact hTr.wk k ⟨hk.1, (hact k).1 hk.2⟩, fun k hk => hTr.deaf k ⟨hk.1, (hact k).1 hk.2⟩, fun k hk => hk.1, fun a b c o ha hb => ?_⟩
  have ha' := ha.imp id fun x => (⟨x.1, (hact a).1 x.2⟩ : 0 < a ∧ (f a).act)
  have hb' := hb.imp id fun x => (⟨x.1, (hact b).1 x.2⟩ : 0 < b ∧ (f b).act)
  rw [hhp a (ha'.imp id And.right), hhp b (hb'.imp id And.right)]
  exact hTr.disj a b c o ha' hb'
 ·have hk' := hk.imp id (hact k).1
  rw [hhp k hk']
  exact h.noch k hk'
 ·rw [hact]; exact h.old k hk
 ·rw [hact]; exact h.young k hk hk'

/-- WHO GATHERS TAKES A STEP OF ITS OWN. -/
theorem ginv_main (hmsg : ∀ i, (msg i).1 = cg ∨ (msg i).1 = cn) (h : GInv P cg cn msg m0 gs w t j R H f) {x x' : Goroutine} (hx : gs[0]? = some x) {es : Array Event} (hs : StepH H w w' es) :
  GInv P cg cn msg m0 ((gs.map (woken P x x' w')).setIfInBounds 0 x') w' (t ++ MemOp.ofEvents 0 x.frame.fn x.frame.place es) j R (H.next w w') f := by
 have hlt : 0 < gs.size := (Array.getElem?_eq_some_iff.1 hx).1
 have hnoc := h.noch 0 (.inl rfl)
 rw [hpOf_zero] at hnoc
 have hc' := chans_step h.ch hs hnoc
 have hapart : ∀ k, 0 < k → (f k).act → Fits (f k).hp w' := fun k hk ha => by
  have hf := h.fitsOf k (.inr ⟨hk, ha⟩)
  rw [hpOf_pos H f hk] at hf
  exact hf.other hs fun b o hb => h.apart (.inl rfl) ⟨hk, ha⟩ (by omega) b o hb
 refine ⟨h.pos, by simpa using h.size, h.fits.next hs, fun k y hk hy => ?_, fun k hk => ?_, fun k hk => ?_, ?_, hc', fun k hk => ?_, h.old, h.young, h.new⟩
 ·rcases gs_step hy hlt with ⟨rfl, rfl⟩ | ⟨hki, y', hy', rfl⟩
  ·omega
  ·have hk' := h.ws k y' hk hy'
   rw [woken_ws hmsg hk' hc']
   exact wsOk_keep hk' (Deaf_other t (by omega) _ ofEvents_g) fun hka => hapart k hk hka
 ·exact h.out k (by simpa using hk)
 ·rw [Deaf_other t (g' := 0) (by simp at hk; omega) _ ofEvents_g]
  exact h.above k (by simpa using hk)
 ·exact tinv_events h.tr (i := 0) (.inl rfl) h.fitsOf hs (fun k hk => by unfold hpOf; rw [if_neg hk, if_neg hk]) rfl
 ·rcases Nat.eq_zero_or_pos k with rfl | hpos
  ·have hlt1 := Go.Vel.Chans.lt1 h.ch
   have hlt2 := Go.Vel.Chans.lt2 h.ch
   refine ⟨?_, ?_⟩
   ·show H.next w w' cg = none
    unfold Hp.next
    rw [hnoc.1, if_neg (by omega)]
   ·show H.next w w' cn = none
    unfold Hp.next
    rw [hnoc.2, if_neg (by omega)]
  ·have := h.noch k hk
   rwa [hpOf_pos _ _ hpos] at this ⊢

/-- A WORKER IS PARKED AT ITS SEND. -/
theorem ginv_park (h : GInv P cg cn msg m0 gs w t j R H f) {i : Nat} (hi : 0 < i) {x g₂ : Goroutine} (hx : gs[i]? = some x) {K : Hp} (hfi : f i = .walk x K) {es : Array Event} {z : Value} {n : Nat}
  (hes : ∀ e ∈ es, EvH K e) (hq : QuitsD P n 0 (Go.Conc.served g₂ undef)) :
  GInv P cg cn msg m0 (gs.setIfInBounds i (parked g₂ #[scase (msg (i - m0)).1 (msg (i - m0)).2 z] .send)) w (t ++ MemOp.ofEvents i x.frame.fn x.frame.place es) j R H (upd f i (.park g₂ K z n)) := by
 have hlt : i < gs.size := (Array.getElem?_eq_some_iff.1 hx).1
 have hact : (f i).act := by rw [hfi]; trivial
 have hhp : hpOf H f i = K := by rw [hpOf_pos H f hi, hfi]; rfl
 have hws := h.ws i x hi hx
 rw [hfi] at hws
 obtain ⟨_, hm0, _, _, hK⟩ := hws
 have hsame : ∀ k, hpOf H (upd f i (.park g₂ K z n)) k = hpOf H f k := fun k => by
  by_cases hki : k = i
  ·subst hki; rw [hpOf_pos _ _ hi, upd_same, hhp]; rfl
  ·unfold hpOf; rw [upd_ne f _ hki]
 refine ⟨h.pos, by simpa using h.size, h.fits, fun k y hk hy => ?_, fun k hk => ?_, fun k hk => ?_, ?_, h.ch, fun k hk => ?_, fun k hk => ?_, fun k hk hk' => ?_, h.new⟩
 ·by_cases hki : i = k
  ·subst hki
   rw [Array.getElem?_setIfInBounds_self_of_lt hlt] at hy
   cases hy
   rw [upd_same]
   exact ⟨rfl, hm0, hq, hK⟩
  ·rw [Array.getElem?_setIfInBounds_ne hki] at hy
   rw [upd_ne f _ (Ne.symm hki)]
   refine wsOk_keep (h.ws k y hk hy) (Deaf_other t hki _ ofEvents_g) fun hka => ?_
   have := h.fitsOf k (.inr ⟨hk, hka⟩)
   rwa [hpOf_pos H f hk] at this
 ·have : k ≠ i := by simp at hk; omega
  rw [upd_ne f _ this]
  exact h.out k (by simpa using hk)
 ·rw [Deaf_other t (g' := i) (by simp at hk; omega) _ ofEvents_g]
  exact h.above k (by simpa using hk)
 ·have hTr := tinv_still (fn := x.frame.fn) (pos := x.frame.place) h.tr (i := i) (.inr ⟨hi, hact⟩) h.fitsOf (by rw [hhp]; exact hes)
  rw [show hpOf H (upd f i (.park g₂ K z n)) = hpOf H f from funext hsame]
  refine ⟨hTr.clean, hTr.hears, hTr.low, fun idx a ha hm => (hTr.known idx a ha hm).imp id fun ⟨k, hk, r⟩ => ⟨k, ⟨hk.1, (act_upd_park hact).2 hk.2⟩, r⟩, fun k hk => hTr.wk k ⟨hk.1, (act_upd_park hact).1 hk.2⟩, fun k hk => hTr.deaf k ⟨hk.1, (act_upd_park hact).1 hk.2⟩, fun k hk => hk.1, fun a b c o ha hb => hTr.disj a b c o (ha.imp id fun x => ⟨x.1, (act_upd_park hact).1 x.2⟩) (hb.imp id fun x => ⟨x.1, (act_upd_park hact).1 x.2⟩)⟩
 ·rw [hsame]
  exact h.noch k (hk.imp id (act_upd_park hact).1)
 ·rw [act_upd_park hact]; exact h.old k hk
 ·rw [act_upd_park hact]; exact h.young k hk hk'

theorem act_upd_left {i k n : Nat} : (upd f i (.left n) k).act ↔ (f k).act ∧ k ≠ i := by
 by_cases hk : k = i
 ·subst hk; rw [upd_same]; exact ⟨fun x => x.elim, fun x => absurd rfl x.2⟩
 ·rw [upd_ne f _ hk]; exact ⟨fun x => ⟨x, hk⟩, And.left⟩

theorem fits_setChan {K : Hp} (h : Fits K w) {c : Nat} (hc : K c = none) (d : Nat) (o : Obj) : Fits K { w.at d with heap := w.heap.setIfInBounds c o } := fun b rw' o' hb => by
 have hne : c ≠ b := fun e => by rw [← e, hc] at hb; cases hb
 show (w.heap.setIfInBounds c o)[b]? = some o'
 rw [Array.getElem?_setIfInBounds_ne hne]
 exact h b rw' o' hb

/-- A WORKER'S SEND IS RECEIVED. -/
theorem ginv_comm (h : GInv P cg cn msg m0 gs w t j R H f) (hne : cg ≠ cn) {i : Nat} (hi : 0 < i) (hm0 : m0 ≤ i) (hact : (f i).act) {s : Nat} (hs : s = i ∨ s = 0) {es : Array Event} (hes : ∀ e ∈ es, EvH (hpOf H f s) e) {gs' : Array Goroutine} (hsz : gs'.size = gs.size)
  {y : Goroutine} {n : Nat} (hgi : gs'[i]? = some y) (hq : QuitsD P n 0 y) (hgo : ∀ k, 0 < k → k ≠ i → gs'[k]? = gs[k]?) {c kk d : Nat} {tm : Bool} {fn : FuncId} {pos : String} (hc : c = cg ∨ c = cn) (hch : w.heap[c]? = some (.chan 0 #[] false kk kk tm))
  {x1 x2 x3 x4 : MemOp} (h1 : x1.g = i ∧ x1.act = .send c kk) (h2 : x2.act = .recv c kk 0) (h3 : x3.act = .sendDone c kk) (h4 : x4.g = 0 ∧ x4.act = .recvDone c kk) :
  GInv P cg cn msg m0 gs' ((w.at d).setChan c 0 #[] false (kk + 1) (kk + 1) tm) (t ++ (MemOp.ofEvents s fn pos es ++ #[x1, x2, x3, x4])) j (upd R (i - m0) true) H (upd f i (.left n)) := by
 have hsz' : ((w.at d).setChan c 0 #[] false (kk + 1) (kk + 1) tm).heap.size = w.heap.size := by simp [World.setChan, World.at]
 have hclt : c < w.heap.size := (Array.getElem?_eq_some_iff.1 hch).1
 have hact' : s = 0 ∨ (0 < s ∧ (f s).act) := hs.elim (fun e => .inr (e ▸ ⟨hi, hact⟩)) .inl
 have hkeep : ∀ k, (k = 0 ∨ (0 < k ∧ (f k).act)) → Fits (hpOf H f k) ((w.at d).setChan c 0 #[] false (kk + 1) (kk + 1) tm) := fun k hk => by
  refine fits_setChan (h.fitsOf k hk) ?_ d _
  have := h.noch k (hk.imp id And.right)
  rcases hc with rfl | rfl
  ·exact this.1
  ·exact this.2
 have hT1 := tinv_still (fn := fn) (pos := pos) h.tr (i := s) hact' h.fitsOf hes
 have hT2 := hT1.comm (i := i) ⟨hi, hact⟩ hclt (cap := 0) h1 h2 h3 h4
 have hdeaf : ∀ k, k ≠ 0 → k ≠ i → Deaf (t ++ (MemOp.ofEvents s fn pos es ++ #[x1, x2, x3, x4])) k = Deaf t k := fun k hk0 hki => by
  rw [← Array.append_assoc]
  have hm : ∀ op ∈ (#[x1, x2, x3, x4] : Array MemOp), op.act ≠ .mark .disable ∧ op.act ≠ .mark .enable := fun op hop => by
   simp only [List.mem_toArray, List.mem_cons, List.not_mem_nil, or_false] at hop
   rcases hop with rfl | rfl | rfl | rfl
   ·rw [h1.2]; exact ⟨by simp, by simp⟩
   ·rw [h2]; exact ⟨by simp, by simp⟩
   ·rw [h3]; exact ⟨by simp, by simp⟩
   ·rw [h4.2]; exact ⟨by simp, by simp⟩
  rw [Deaf_mild hm, Deaf_other t (g' := s) (by rcases hs with rfl | rfl <;> omega) _ ofEvents_g]
 have hdeafi : Deaf (t ++ (MemOp.ofEvents s fn pos es ++ #[x1, x2, x3, x4])) i = 0 := by
  rw [← Array.append_assoc]
  have hm : ∀ op ∈ (#[x1, x2, x3, x4] : Array MemOp), op.act ≠ .mark .disable ∧ op.act ≠ .mark .enable := fun op hop => by
   simp only [List.mem_toArray, List.mem_cons, List.not_mem_nil, or_false] at hop
   rcases hop with rfl | rfl | rfl | rfl
   ·rw [h1.2]; exact ⟨by simp, by simp⟩
   ·rw [h2]; exact ⟨by simp, by simp⟩
   ·rw [h3]; exact ⟨by simp, by simp⟩
   ·rw [h4.2]; exact ⟨by simp, by simp⟩
  rw [Deaf_mild hm]
  exact hT1.deaf i ⟨hi, hact⟩
 have hilt : i < gs.size := by
  rw [← hsz]
  exact (Array.getElem?_eq_some_iff.1 hgi).1
 have hj : i - m0 < j := by have := h.size; omega
 have hhp : ∀ k, k = 0 ∨ ((f k).act ∧ k ≠ i) → hpOf H (upd f i (.left n)) k = hpOf H f k := fun k hk => by
  unfold hpOf
  rcases hk with rfl | ⟨_, hki⟩
  ·rfl
  ·rw [upd_ne f _ hki]
 refine ⟨h.pos, by rw [hsz]; exact h.size, ?_, fun k x hk hx => ?_, fun k hk => ?_, fun k hk => ?_, ?_, ?_, fun k hk => ?_, fun k hk => ?_, fun k hk hk' => ?_, fun k hk => ?_⟩
 ·exact hkeep 0 (.inl rfl)
 ·by_cases hki : k = i
  ·subst hki
   rw [hgi] at hx
   cases hx
   rw [upd_same]
   show QuitsD P n _ y
   rw [hdeafi]
   exact hq
  ·rw [hgo k hk hki] at hx
   rw [upd_ne f _ hki]
   refine wsOk_keep (h.ws k x hk hx) (hdeaf k (by omega) hki) fun hka => ?_
   have := hkeep k (.inr ⟨hk, hka⟩)
   rwa [hpOf_pos H f hk] at this
 ·have : k ≠ i := by omega
  rw [upd_ne f _ this]
  exact h.out k (by omega)
 ·rw [hdeaf k (by omega) (by omega)]
  exact h.above k (by omega)
 ·rw [hsz', ← Array.append_assoc]
  refine ⟨hT2.clean, hT2.hears, hT2.low, fun idx a ha hm => (hT2.known idx a ha hm).imp id fun ⟨k, hk, r1, r2⟩ => ⟨k, ⟨hk.1.1, act_upd_left.2 ⟨hk.1.2, hk.2⟩⟩, r1, by rw [hhp k (.inr ⟨hk.1.2, hk.2⟩)]; exact r2⟩, fun k hk => ?_, fun k hk => ?_, fun k hk => hk.1, fun a b c o ha hb => ?_⟩
  ·have hk' := act_upd_left.1 hk.2
   rw [hhp k (.inr hk')]
   exact hT2.wk k ⟨⟨hk.1, hk'.1⟩, hk'.2⟩
  ·have hk' := act_upd_left.1 hk.2
   exact hT2.deaf k ⟨⟨hk.1, hk'.1⟩, hk'.2⟩
  ·have ha' := ha.imp id fun x => (⟨⟨x.1, (act_upd_left.1 x.2).1⟩, (act_upd_left.1 x.2).2⟩ : (0 < a ∧ (f a).act) ∧ a ≠ i)
   have hb' := hb.imp id fun x => (⟨⟨x.1, (act_upd_left.1 x.2).1⟩, (act_upd_left.1 x.2).2⟩ : (0 < b ∧ (f b).act) ∧ b ≠ i)
   rw [hhp a (ha'.imp id fun x => ⟨x.1.2, x.2⟩), hhp b (hb'.imp id fun x => ⟨x.1.2, x.2⟩)]
   exact hT2.disj a b c o ha' hb'
 ·obtain ⟨k1, t1, k2, t2, g1, g2⟩ := h.ch
  rcases hc with rfl | rfl
  ·refine ⟨kk + 1, tm, k2, t2, by simp [World.setChan, World.at, hclt], ?_⟩
   simp only [World.setChan, World.at]
   rw [Array.getElem?_setIfInBounds_ne hne]
   exact g2
  ·refine ⟨k1, t1, kk + 1, tm, ?_, by simp [World.setChan, World.at, hclt]⟩
   simp only [World.setChan, World.at]
   rw [Array.getElem?_setIfInBounds_ne (Ne.symm hne)]
   exact g1
 ·have hk' := hk.imp id act_upd_left.1
  rw [hhp k hk']
  exact h.noch k (hk'.imp id And.left)
 ·rw [act_upd_left]
  by_cases hki : k = i - m0
  ·subst hki
   rw [upd_same]
   exact ⟨fun _ x => x.2 (by omega), fun _ => rfl⟩
  ·rw [upd_ne R _ hki, h.old k hk]
   exact ⟨fun x y => x y.1, fun x y => x ⟨y, by omega⟩⟩
 ·rw [act_upd_left]
  exact fun x => h.young k hk hk' x.1
 ·rw [upd_ne R _ (by omega)]
  exact h.new k hk

/-- A WORKER IS STARTED. -/
theorem ginv_spawn (h : GInv P cg cn msg m0 gs w t j R H f) {x g' ch : Goroutine} (hx : gs[0]? = some x) {es : Array Event} (hes : ∀ e ∈ es, EvH H e) {H₂ Hc : Hp} (hrun : ch.status = .running) (hR : R j = false)
  (h2 : ∀ b rw o, H₂ b = some (rw, o) → ∃ rw', H b = some (rw', o) ∧ (rw = true → rw' = true))
  (h3 : ∀ b rw o, Hc b = some (rw, o) → rw = false ∧ ∃ rw', H b = some (rw', o))
  (h4 : ∀ b o, H₂ b = some (true, o) → Hc b = none) (hT : TreeW P (AtSend P (msg j)) ch Hc) {fn fn' : FuncId} {pos pos' : String} :
  GInv P cg cn msg m0 ((gs.setIfInBounds 0 g').push ch) w (t ++ ((MemOp.ofEvents 0 fn pos es).push { g := 0, fn, pos, act := .go gs.size }).push { g := gs.size, fn := fn', pos := pos', act := .start }) (j + 1) R H₂ (upd f gs.size (.walk ch Hc)) := by
 have hlt : 0 < gs.size := (Array.getElem?_eq_some_iff.1 hx).1
 have hgs : gs.size = m0 + j := h.size
 have hnact : ¬ (f gs.size).act := by rw [h.out _ (Nat.le_refl _)]; exact fun x => x
 have hactiff : ∀ k, (upd f gs.size (.walk ch Hc) k).act ↔ ((f k).act ∨ k = gs.size) := fun k => by
  by_cases hk : k = gs.size
  ·subst hk; rw [upd_same]; exact ⟨fun _ => .inr rfl, fun _ => trivial⟩
  ·rw [upd_ne f _ hk]; exact ⟨.inl, fun x => x.elim id fun e => absurd e hk⟩
 have hfc : Fits Hc w := fun b rw o hb => by
  obtain ⟨_, rw', h0⟩ := h3 b rw o hb
  exact h.fits b _ _ h0
 have hf2 : Fits H₂ w := fun b rw o hb => by
  obtain ⟨rw', h0, _⟩ := h2 b rw o hb
  exact h.fits b _ _ h0
 have et : t ++ ((MemOp.ofEvents 0 fn pos es).push { g := 0, fn, pos, act := .go gs.size }).push { g := gs.size, fn := fn', pos := pos', act := .start } = t ++ MemOp.ofEvents 0 fn pos es ++ #[{ g := 0, fn, pos, act := .go gs.size }] ++ #[{ g := gs.size, fn := fn', pos := pos', act := .start }] := by
  simp only [Array.push_eq_append, Array.append_assoc]
 have hdeaf : ∀ k, k ≠ 0 → Deaf (t ++ MemOp.ofEvents 0 fn pos es ++ #[{ g := 0, fn, pos, act := .go gs.size }] ++ #[{ g := gs.size, fn := fn', pos := pos', act := .start }]) k = Deaf t k := fun k hk => by
  rw [Deaf_mild (u := #[_]) (fun op hop => by simp only [List.mem_toArray, List.mem_singleton] at hop; subst hop; exact ⟨by simp, by simp⟩), Deaf_mild (u := #[_]) (fun op hop => by simp only [List.mem_toArray, List.mem_singleton] at hop; subst hop; exact ⟨by simp, by simp⟩), Deaf_other t (Ne.symm hk) _ ofEvents_g]
 have hT1 := tinv_still (fn := fn) (pos := pos) h.tr (i := 0) (.inl rfl) h.fitsOf (by rw [hpOf_zero]; exact hes)
 have hT2 := hT1.spawn (hp' := hpOf H₂ (upd f gs.size (.walk ch Hc))) (c := gs.size) hlt (fun x => hnact x.2) (by rw [Deaf_other t (g' := 0) (by omega) _ ofEvents_g]; exact h.above _ (Nat.le_refl _)) (x := { g := 0, fn, pos, act := .go gs.size }) (y := { g := gs.size, fn := fn', pos := pos', act := .start }) ⟨rfl, rfl⟩ ⟨rfl, rfl⟩
  (fun k hk0 hkc => by unfold hpOf; rw [if_neg hk0, if_neg hk0, upd_ne f _ hkc])
  (fun b rw o hb => by
   obtain ⟨rw', h0, himp⟩ := h2 b rw o hb
   exact ⟨rw', o, h0, himp⟩)
  (fun b rw o hb => by
   rw [hpOf_pos _ _ hlt, upd_same] at hb
   obtain ⟨e, rw', h0⟩ := h3 b rw o hb
   exact ⟨e, rw', o, h0⟩)
  (fun b o hb => by
   rw [hpOf_pos _ _ hlt, upd_same]
   exact h4 b o hb)
 rw [et]
 refine ⟨h.pos, by simp; omega, hf2, fun k y hk hy => ?_, fun k hk => ?_, fun k hk => ?_, ?_, h.ch, fun k hk => ?_, fun k hk => ?_, fun k hk hk' => ?_, fun k hk => h.new k (by omega)⟩
 ·rw [Array.getElem?_push] at hy
  split at hy
  ·rename_i hkg
   cases hy
   have hkg' : k = gs.size := by simpa using hkg
   subst hkg'
   rw [upd_same]
   refine ⟨rfl, by omega, hrun, ?_, hfc⟩
   rw [show gs.size - m0 = j by omega]
   exact hT
  ·rename_i hkg
   have hkg' : k ≠ gs.size := by simpa using hkg
   rw [Array.getElem?_setIfInBounds_ne (by omega)] at hy
   rw [upd_ne f _ hkg']
   refine wsOk_keep (h.ws k y hk hy) (hdeaf k (by omega)) fun hka => ?_
   have := h.fitsOf k (.inr ⟨hk, hka⟩)
   rwa [hpOf_pos H f hk] at this
 ·have hk' : gs.size + 1 ≤ k := by simpa using hk
  rw [upd_ne f _ (by omega)]
  exact h.out k (by omega)
 ·have hk' : gs.size + 1 ≤ k := by simpa using hk
  rw [hdeaf k (by omega)]
  exact h.above k (by omega)
 ·have hcv : ∀ k, (0 < k ∧ (upd f gs.size (.walk ch Hc) k).act) ↔ ((0 < k ∧ (f k).act) ∨ k = gs.size) := fun k => by
   rw [hactiff]
   exact ⟨fun x => x.2.elim (fun y => .inl ⟨x.1, y⟩) .inr, fun x => x.elim (fun y => ⟨y.1, .inl y.2⟩) fun e => ⟨by omega, .inr e⟩⟩
  exact ⟨hT2.clean, hT2.hears, hT2.low, fun idx a ha hm => (hT2.known idx a ha hm).imp id fun ⟨k, hk, r⟩ => ⟨k, (hcv k).2 hk, r⟩, fun k hk => hT2.wk k ((hcv k).1 hk), fun k hk => hT2.deaf k ((hcv k).1 hk), fun k hk => hk.1, fun a b c o ha hb => hT2.disj a b c o (ha.imp id (hcv a).1) (hb.imp id (hcv b).1)⟩
 ·have h0 := h.noch 0 (.inl rfl)
  rw [hpOf_zero] at h0
  have hsub : ∀ b, H b = none → H₂ b = none ∧ Hc b = none := fun b hb => by
   refine ⟨?_, ?_⟩
   ·cases e : H₂ b with
    | none => rfl
    | some z => obtain ⟨_, h', _⟩ := h2 b z.1 z.2 e; rw [hb] at h'; cases h'
   ·cases e : Hc b with
    | none => rfl
    | some z => obtain ⟨_, _, h'⟩ := h3 b z.1 z.2 e; rw [hb] at h'; cases h'
  rcases Nat.eq_zero_or_pos k with rfl | hpos
  ·exact ⟨(hsub cg h0.1).1, (hsub cn h0.2).1⟩
  ·rw [hpOf_pos _ _ hpos]
   by_cases hkg : k = gs.size
   ·subst hkg
    rw [upd_same]
    exact ⟨(hsub cg h0.1).2, (hsub cn h0.2).2⟩
   ·rw [upd_ne f _ hkg]
    have := h.noch k (hk.imp id fun x => ((hactiff k).1 x).elim id fun e => absurd e hkg)
    rwa [hpOf_pos _ _ hpos] at this
 ·rw [hactiff]
  rcases Nat.lt_or_ge k j with hkj | hkj
  ·rw [h.old k hkj]
   exact ⟨fun x y => y.elim x fun e => by omega, fun x y => x (.inl y)⟩
  ·obtain rfl : k = j := by omega
   rw [hR]
   exact ⟨fun x => (by cases x), fun x => absurd (.inr (by omega)) x⟩
 ·rw [hactiff]
  exact fun x => x.elim (h.young k hk hk') fun e => by omega
end
end Go.Vel
end
section
set_option linter.all false
set_option maxRecDepth 20000
set_option maxHeartbeats 60000000
namespace Go.Vel
open Go Go.Conc
open Go.ConcN (sumTo upd upd_ne upd_same)

section
variable {P : Program} {cg cn : Nat} {msg : Nat → Nat × Value} {m0 : Nat} {gs : Array Goroutine} {w w' : World} {t : Trace} {j : Nat} {R : Nat → Bool} {H : Hp} {f : Nat → WS} {sl : Option (Nat × Nat)}

/-- What another offers. -/
theorem offers_ws {i : Nat} {x : Goroutine} {s : WS} (h : WsOk P msg m0 t w i x s) (c : Nat) : offersAt x c false = [] := by
 cases s with
 | walk g K => obtain ⟨rfl, _, hr, _⟩ := h; exact offersAt_of_not_blocked (by rw [hr]; simp) _ _
 | park g K z n => obtain ⟨rfl, _⟩ := h; exact offersAt_parked_send' _ _ _ _ _ _
 | left n => exact offersAt_of_not_blocked (by rcases QuitsD.status h with e | e <;> rw [e] <;> simp) _ _

/-- Nobody waits to receive while goroutine 0 runs. -/
theorem no_receivers (h : GInv P cg cn msg m0 gs w t j R H f) {a : Goroutine} (h0 : gs[0]? = some a) (ha : a.status = .running) (i c : Nat) : partners (gs.setIfInBounds i ph) c false = [] := by
 refine partners_nil fun k x hx => ?_
 rcases getElem?_stand gs i k x hx with ⟨_, rfl⟩ | ⟨hk, hx⟩
 ·rfl
 ·rcases Nat.eq_zero_or_pos k with rfl | hpos
  ·rw [h0] at hx; cases hx
   exact offersAt_of_not_blocked (by rw [ha]; simp) _ _
  ·exact offers_ws (h.ws k x hpos hx) c

/-- How the others move while goroutine 0 runs. -/
theorem other_moves (hmsg : ∀ i, (msg i).1 = cg ∨ (msg i).1 = cn) (h : GInv P cg cn msg m0 gs w t j R H f) {a : Goroutine} (h0 : gs[0]? = some a) (ha : a.status = .running) {i : Nat} (hi : 0 < i) {x : Goroutine} (hx : gs[i]? = some x) (hr : x.status = .running) :
  ∃ gs' w' u y, runT P (crowd gs w sl) i = (.next (crowd gs' w' sl), u) ∧ WR P y (f i) ∧ GInv P cg cn msg m0 gs' w' (t ++ u) j R H (upd f i y) ∧ gs'[0]? = some a ∧ w'.tape = w.tape ∧ w'.os = w.os ∧ w'.output = w.output := by
 have hws := h.ws i x hi hx
 have hi0 : (i == 0) = false := by simp; omega
 have hne : i ≠ 0 := by omega
 cases hfi : f i with
 | park g K z n =>
  rw [hfi] at hws
  obtain ⟨rfl, _⟩ := hws
  cases hr
 | left n =>
  rw [hfi] at hws
  cases n with
  | zero => rw [hws.1] at hr; cases hr
  | succ n =>
   rcases hws with ⟨hf, _⟩ | ⟨_, x', es, hm, hst, hq⟩
   ·rw [hf] at hr; cases hr
   refine ⟨_, _, _, .left n, runT_crowd_go hx (by rw [hi0]; exact hst w), .slip n, ginv_slip hmsg h hi hx hfi hm hq, ?_, rfl, rfl, rfl⟩
   rw [Array.getElem?_setIfInBounds_ne hne, Array.getElem?_map, h0]
   simp [woken_run ha]
 | walk g K =>
  rw [hfi] at hws
  obtain ⟨rfl, hm0, _, hT, hK⟩ := hws
  cases hT with
  | step _ hgo hnext =>
   obtain ⟨x', w', es, hst, hs, hrun⟩ := hgo w hK
   refine ⟨_, _, _, .walk x' (K.next w w'), runT_crowd_go hx (by rw [hi0]; exact hst), .walk hK hst, ginv_walk hmsg h hi hx hfi hs hrun (hnext w x' w' es hK hst), ?_, hs.tape, hs.os, hs.out⟩
   rw [Array.getElem?_setIfInBounds_ne hne, Array.getElem?_map, h0]
   simp [woken_run ha]
  | stop hS =>
   obtain ⟨g₂, z, n, _, hq, hst⟩ := hS
   obtain ⟨es, hst, hes⟩ := hst w hK
   have hno : ∀ cc ∈ (#[scase (msg (i - m0)).1 (msg (i - m0)).2 z] : Array CommCase), NoWays w (gs.setIfInBounds i ph) cc := fun cc hcc => by
    simp only [List.mem_toArray, List.mem_singleton] at hcc
    subst hcc
    obtain ⟨k1, t1, k2, t2, h1, h2⟩ := h.ch
    have hp := no_receivers h h0 ha i (msg (i - m0)).1
    rcases hmsg (i - m0) with e | e
    ·rw [e] at hp ⊢
     exact ⟨made_send _ _ h1, by simp [ways, scase, h1, hp]⟩
    ·rw [e] at hp ⊢
     exact ⟨made_send _ _ h2, by simp [ways, scase, h2, hp]⟩
   refine ⟨_, _, _, .park g₂ K z n, crowd_waits hx (by rw [hi0]; exact hst) hno, .park, ginv_park h hi hx hfi hes hq, ?_, rfl, rfl, rfl⟩
   rw [Array.getElem?_setIfInBounds_ne hne]
   exact h0

/-- Goroutine 0 is parked at its select. -/
def atSel (cg cn : Nat) (g₂ : Goroutine) (z1 z2 : Value) : Goroutine := parked g₂ (sel2 cg cn z1 z2) .select

theorem woken_sel {a a' g₂ : Goroutine} {z1 z2 : Value} (h : Chans cg cn w) : woken P a a' w (atSel cg cn g₂ z1 z2) = atSel cg cn g₂ z1 z2 := by
 unfold woken
 split
 ·refine again_all_open fun cc hcc => ?_
  obtain ⟨k1, t1, k2, t2, h1, h2⟩ := h
  simp only [sel2, List.mem_toArray, List.mem_cons, List.not_mem_nil, or_false] at hcc
  rcases hcc with rfl | rfl
  ·exact ⟨_, _, _, _, _, _, _, rfl, h1⟩
  ·exact ⟨_, _, _, _, _, _, _, rfl, h2⟩
 ·rfl

/-- Which of the two cases it is. -/
def caseNo (cg c : Nat) : Nat := if c = cg then 0 else 1

theorem sel_case (hne : cg ≠ cn) {c : Nat} (hc : c = cg ∨ c = cn) (z1 z2 : Value) : ∃ z, (sel2 cg cn z1 z2)[caseNo cg c]? = some (rcase c z) := by
 rcases hc with rfl | rfl
 ·exact ⟨z1, by simp [sel2, caseNo]⟩
 ·exact ⟨z2, by simp [sel2, caseNo, Ne.symm hne]⟩

theorem offers_sel (hne : cg ≠ cn) {c : Nat} (hc : c = cg ∨ c = cn) (g₂ : Goroutine) (z1 z2 : Value) : offersAt (atSel cg cn g₂ z1 z2) c false = [caseNo cg c] := by
 obtain ⟨z, hz⟩ := sel_case hne hc z1 z2
 refine offersAt_parked_at hz fun m cc hm hcc => ?_
 have hm2 : m = 0 ∨ m = 1 := by
  have := (Array.getElem?_eq_some_iff.1 hcc).1
  simp [sel2] at this
  omega
 rcases hc with rfl | rfl
 ·rcases hm2 with rfl | rfl
  ·simp [caseNo] at hm
  ·simp [sel2] at hcc
   subst hcc
   simp [rcase, Ne.symm hne]
 ·rcases hm2 with rfl | rfl
  ·simp [sel2] at hcc
   subst hcc
   simp [rcase, hne]
  ·simp [caseNo, Ne.symm hne] at hm

/-- How the others move while goroutine 0 waits at its select, nobody being parked: a move; or one of them hands it its message. -/
theorem other_moves_sel (hmsg : ∀ i, (msg i).1 = cg ∨ (msg i).1 = cn) (hne : cg ≠ cn) (h : GInv P cg cn msg m0 gs w t j R H f) {g₂ : Goroutine} {z1 z2 : Value} (h0 : gs[0]? = some (atSel cg cn g₂ z1 z2)) (hnp : ∀ i, 0 < i → ∀ g K z n, f i ≠ .park g K z n)
  {i : Nat} (hi : 0 < i) {x : Goroutine} (hx : gs[i]? = some x) (hr : x.status = .running) :
  (∃ gs' w' u y, runT P (crowd gs w sl) i = (.next (crowd gs' w' sl), u) ∧ WR P y (f i) ∧ (∀ g K z n, y ≠ .park g K z n) ∧ GInv P cg cn msg m0 gs' w' (t ++ u) j R H (upd f i y) ∧ gs'[0]? = some (atSel cg cn g₂ z1 z2) ∧ w'.tape = w.tape ∧ w'.os = w.os ∧ w'.output = w.output) ∨
  (∃ gs' w' u n, runT P (crowd gs w sl) i = (.next (crowd gs' w' sl), u) ∧ m0 ≤ i ∧ i - m0 < j ∧ R (i - m0) = false ∧ GInv P cg cn msg m0 gs' w' (t ++ u) j (upd R (i - m0) true) H (upd f i (.left n)) ∧
   gs'[0]? = some (g₂.finishComm P (sel2 cg cn z1 z2) .select (caseNo cg (msg (i - m0)).1 : Nat) (msg (i - m0)).2 true) ∧ w'.tape = w.tape ∧ w'.os = w.os ∧ w'.output = w.output) := by
 have hws := h.ws i x hi hx
 have hi0 : (i == 0) = false := by simp; omega
 have hne0 : i ≠ 0 := by omega
 have hlt0 : 0 < gs.size := (Array.getElem?_eq_some_iff.1 h0).1
 have hlt : i < gs.size := (Array.getElem?_eq_some_iff.1 hx).1
 cases hfi : f i with
 | park g K z n => exact absurd hfi (hnp i hi g K z n)
 | left n =>
  left
  rw [hfi] at hws
  cases n with
  | zero => rw [hws.1] at hr; cases hr
  | succ n =>
   rcases hws with ⟨hf, _⟩ | ⟨_, x', es, hm, hst, hq⟩
   ·rw [hf] at hr; cases hr
   refine ⟨_, _, _, .left n, runT_crowd_go hx (by rw [hi0]; exact hst w), .slip n, by simp, ginv_slip hmsg h hi hx hfi hm hq, ?_, rfl, rfl, rfl⟩
   rw [Array.getElem?_setIfInBounds_ne hne0, Array.getElem?_map, h0]
   simp [woken_sel h.ch]
 | walk g K =>
  have hact : (f i).act := by rw [hfi]; trivial
  have hhp : hpOf H f i = K := by rw [hpOf_pos H f hi, hfi]; rfl
  rw [hfi] at hws
  obtain ⟨rfl, hm0, _, hT, hK⟩ := hws
  cases hT with
  | step _ hgo hnext =>
   left
   obtain ⟨x', w', es, hst, hs, hrun⟩ := hgo w hK
   have hG := ginv_walk hmsg h hi hx hfi hs hrun (hnext w x' w' es hK hst)
   refine ⟨_, _, _, .walk x' (K.next w w'), runT_crowd_go hx (by rw [hi0]; exact hst), .walk hK hst, by simp, hG, ?_, hs.tape, hs.os, hs.out⟩
   rw [Array.getElem?_setIfInBounds_ne hne0, Array.getElem?_map, h0]
   simp [woken_sel hG.ch]
  | stop hS =>
   right
   obtain ⟨gs₂, z, n, _, hq, hst⟩ := hS
   obtain ⟨es, hst, hes⟩ := hst w hK
   have hR : i - m0 < j ∧ R (i - m0) = false := by
    have hsz := h.size
    have hj : i - m0 < j := by omega
    refine ⟨hj, ?_⟩
    have := h.old (i - m0) hj
    rw [show m0 + (i - m0) = i by omega] at this
    cases e : R (i - m0) with
    | false => rfl
    | true => exact absurd hact (this.1 e)
   have hp : partners (gs.setIfInBounds i ph) (msg (i - m0)).1 false = [(0, caseNo cg (msg (i - m0)).1)] := by
    rw [partners_one (j := 0) (g := atSel cg cn g₂ z1 z2) (by rw [Array.getElem?_setIfInBounds_ne hne0]; exact h0) fun k y hk hy => ?_, offers_sel hne (hmsg _)]
    ·rfl
    ·rcases getElem?_stand gs i k y hy with ⟨_, rfl⟩ | ⟨hki, hy⟩
     ·rfl
     ·exact offers_ws (h.ws k y (by omega) hy) _
   obtain ⟨zc, hzc⟩ := sel_case hne (hmsg (i - m0)) z1 z2
   obtain ⟨kk, tm, hch⟩ : ∃ kk tm, w.heap[(msg (i - m0)).1]? = some (.chan 0 #[] false kk kk tm) := by
    obtain ⟨k1, t1, k2, t2, h1, h2⟩ := h.ch
    rcases hmsg (i - m0) with e | e
    ·rw [e]; exact ⟨_, _, h1⟩
    ·rw [e]; exact ⟨_, _, h2⟩
   have hrun := crowd_send_meets_sel (P := P) (sl := sl) (i := i) (j := 0) hx (by rw [hi0]; exact hst) hch (Ne.symm hne0) h0 hzc hp
   refine ⟨_, _, _, n, hrun, hm0, hR.1, hR.2, ?_, ?_, rfl, rfl, rfl⟩
   ·refine ginv_comm (s := i) (d := w.drawn) h hne hi hm0 hact (.inl rfl) (by rw [hhp]; exact hes) (by simp) (y := Go.Conc.served gs₂ undef) ?_ hq (fun k hk hki => ?_) (hmsg _) hch ⟨rfl, rfl⟩ rfl rfl ⟨rfl, rfl⟩
    ·rw [Array.getElem?_setIfInBounds_self_of_lt (by simpa using hlt)]
     rfl
    ·rw [Array.getElem?_setIfInBounds_ne (Ne.symm hki), Array.getElem?_setIfInBounds_ne (by omega)]
   ·rw [Array.getElem?_setIfInBounds_ne hne0, Array.getElem?_setIfInBounds_self_of_lt hlt0]
end
end Go.Vel
end
