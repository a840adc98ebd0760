/- Texts for the statements of chapter 9: what all of them need, part 1. It holds of every program, tape and world that the statements name, as each theorem says. -/
import Derived.Conc.Beside
import Derived.KernelRfl
import Derived.Conc.Listed
section
set_option linter.all false
set_option maxRecDepth 20000
set_option maxHeartbeats 60000000
namespace Go.Vel
open Go.Conc

/-- The world with another tape, read from another place on. -/
def on (w : World) (τ : Nat → Question → Nat) (d : Nat) : World := { w with tape := τ, drawn := d }

/-- What a run comes to, but for the world's tape. -/
def outW {α : Type} (o : Except Halt α) (w : World) : Result α := match o with | .ok a => .ok a w | .error h => .halt h w

/-- Two tapes agree for k answers. -/
def Agree (τ : Nat → Question → Nat) (d : Nat) (τ' : Nat → Question → Nat) (d' k : Nat) : Prop := ∀ i, i < k → ∀ q, τ' (d' + i) q = τ (d + i) q

theorem Agree.le {τ τ' : Nat → Question → Nat} {d d' k k' : Nat} (h : Agree τ d τ' d' k) (hk : k' ≤ k) : Agree τ d τ' d' k' := fun i hi q => h i (by omega) q
theorem Agree.tail {τ τ' : Nat → Question → Nat} {d d' j k : Nat} (h : Agree τ d τ' d' (j + k)) : Agree τ (d + j) τ' (d' + j) k := fun i hi q => by
 have := h (j + i) (by omega) q
 simpa [Nat.add_assoc] using this

/-- A halt that ends the run. -/
def Bad : Halt → Prop
 | .unsupported (.noEntry _) => True
 | .stuck _ => True
 | _ => False

/-- A halt behind which the goroutine takes no more steps. -/
def Stops : Halt → Prop
 | .unsupported _ => True
 | .stuck _ => True
 | .exit _ => True
 | .blocked => True
 | .waiting => True
 | _ => False

/-- A system call that would wait ends the run of the operation; 'disable' and 'enable' stand in pairs (d: how many are open). -/
def SysD {α : Type} (P : Program) : Sem α → Nat → Prop
 | .pure _, d => match d with | 0 => True | _ + 1 => False
 | .load _ _ k, d => ∀ v, SysD P (k v) d
 | .store _ _ _ k, d => SysD P k d
 | .new _ k, d => ∀ r, SysD P (k r) d
 | .shape _ k, d => ∀ r, SysD P (k r) d
 | .freeze _ _ k, d => SysD P k d
 | .frozen _ k, d => ∀ r, SysD P (k r) d
 | .getObj _ k, d => ∀ r, SysD P (k r) d
 | .setObj _ _ k, d => SysD P k d
 | .choose _ k, d => ∀ r, SysD P (k r) d
 | .sys _ k, d => (∃ h, Bad h ∧ k .wouldBlock = .halt h) ∧ ∀ r, SysD P (k r) d
 | .program k, d => SysD P (k P) d
 | .mark m k, d => match m with
  | .disable => SysD P k (d + 1)
  | .enable => match d with | 0 => False | d + 1 => SysD P k d
  | .noRoom | .extern _ => SysD P k d
  | _ => False
 | .halt h, d => match d with | 0 => True | _ + 1 => Stops h

abbrev SysOk {α : Type} (P : Program) (s : Sem α) : Prop := SysD P s 0

theorem SysD.bind {α β : Type} {P : Program} {s : Sem α} {f : α → Sem β} : ∀ {d : Nat}, SysD P s d → (∀ a, SysOk P (f a)) → SysD P (s.bind f) d := by
 induction s with
 | pure a => intro d h hf; cases d with
  | zero => exact hf a
  | succ d => exact h.elim
 | load m a k ih => exact fun {d} h hf v => ih v (h v) hf
 | store m a v k ih => exact fun {d} h hf => ih h hf
 | new o k ih => exact fun {d} h hf v => ih v (h v) hf
 | shape r k ih => exact fun {d} h hf v => ih v (h v) hf
 | freeze a n k ih => exact fun {d} h hf => ih h hf
 | frozen a k ih => exact fun {d} h hf v => ih v (h v) hf
 | getObj r k ih => exact fun {d} h hf v => ih v (h v) hf
 | setObj r o k ih => exact fun {d} h hf => ih h hf
 | choose q k ih => exact fun {d} h hf v => ih v (h v) hf
 | sys c k ih => exact fun {d} h hf => ⟨by obtain ⟨s, hb, hs⟩ := h.1; exact ⟨s, hb, by simp only [hs, Sem.bind]⟩, fun v => ih v (h.2 v) hf⟩
 | program k ih => exact fun {d} h hf => ih P h hf
 | mark m k ih =>
  intro d h hf
  cases m <;> first | exact ih h hf | exact h.elim | (cases d <;> first | exact ih h hf | exact h.elim)
 | halt h => exact fun {d} h hf => h

theorem sysOk_bind {α β : Type} {P : Program} {s : Sem α} {f : α → Sem β} (h : SysOk P s) (hf : ∀ a, SysOk P (f a)) : SysOk P (s >>= f) := SysD.bind h hf

theorem ask_on {α : Type} (x : Ask α) : ∀ (w : World) (τ : Nat → Question → Nat) (d : Nat), ∃ (a : α) (k : Nat), (on w τ d).ask x = (a, on w τ (d + k)) ∧
  ∀ τ' d', Agree τ d τ' d' k → (on w τ' d').ask x = (a, on w τ' (d' + k)) := by
 induction x with
 | done a => exact fun w τ d => ⟨a, 0, rfl, fun _ _ _ => rfl⟩
 | ask what range k ih =>
  intro w τ d
  by_cases hf : (Question.extern what range).forced = true
  ·obtain ⟨a, j, h1, h2⟩ := ih 0 w τ d
   exact ⟨a, j, by simp only [World.ask, hf, if_true]; exact h1, fun τ' d' hA => by simp only [World.ask, hf, if_true]; exact h2 τ' d' hA⟩
  ·have hf' : (Question.extern what range).forced = false := by simpa using hf
   obtain ⟨a, j, h1, h2⟩ := ih ((Question.extern what range).cut (τ d (Question.extern what range))) w τ (d + 1)
   refine ⟨a, 1 + j, ?_, fun τ' d' hA => ?_⟩
   ·simp only [World.ask, hf', Bool.false_eq_true, if_false]
    have e : d + (1 + j) = d + 1 + j := by omega
    rw [e]; exact h1
   ·simp only [World.ask, hf', Bool.false_eq_true, if_false]
    have e : d' + (1 + j) = d' + 1 + j := by omega
    have e0 : τ' d' (Question.extern what range) = τ d (Question.extern what range) := by simpa using hA 0 (by omega) (Question.extern what range)
    rw [e]
    show World.ask (on w τ' (d' + 1)) (k ((Question.extern what range).cut (τ' d' (Question.extern what range)))) = _
    rw [e0]
    exact h2 τ' (d' + 1) hA.tail

theorem sys_on (c : Sys) (w : World) (τ : Nat → Question → Nat) (d : Nat) : (∃ k, ∀ τ' d', Agree τ d τ' d' k → ((on w τ' d').sys c).1 = .wouldBlock) ∨ ∃ (r : SysRet) (w' : World) (k : Nat), (on w τ d).sys c = (r, on w' τ (d + k)) ∧
  ∀ τ' d', Agree τ d τ' d' k → (on w τ' d').sys c = (r, on w' τ' (d' + k)) := by
 obtain ⟨⟨r, os⟩, k, h1, h2⟩ := ask_on (Kernel.perform c w.os) w τ d
 by_cases hr : r = .wouldBlock
 ·subst hr
  refine .inl ⟨k, fun τ' d' hA => ?_⟩
  unfold World.sys
  rw [show (on w τ' d').os = w.os from rfl, h2 τ' d' hA]
 ·right
  refine ⟨r, { w with os }, k, ?_, fun τ' d' hA => ?_⟩
  ·unfold World.sys
   rw [show (on w τ d).os = w.os from rfl, h1]
   split
   ·rename_i heq; simp only [Prod.mk.injEq] at heq; exact absurd heq.1.1 hr
   ·rename_i heq; simp only [Prod.mk.injEq] at heq; obtain ⟨⟨rfl, rfl⟩, rfl⟩ := heq; rfl
  ·unfold World.sys
   rw [show (on w τ' d').os = w.os from rfl, h2 τ' d' hA]
   split
   ·rename_i heq; simp only [Prod.mk.injEq] at heq; exact absurd heq.1.1 hr
   ·rename_i heq; simp only [Prod.mk.injEq] at heq; obtain ⟨⟨rfl, rfl⟩, rfl⟩ := heq; rfl
theorem farLoad_on (p : Program) (w : World) (τ : Nat → Question → Nat) (d : Nat) (a : Addr) (m : Bool) : (on w τ d).farLoad p a m = w.farLoad p a m := rfl

theorem viewStore_on (p : Program) (w : World) (τ : Nat → Question → Nat) (d : Nat) (b : Addr) (u : TypeId) (a : Addr) (v : Value) (m : Bool) :
  (on w τ d).viewStore p b u a v m = (w.viewStore p b u a v m).map fun x => (on x.1 τ d, x.2) := by
 unfold World.viewStore
 have hs : (on w τ d).seen p b u a m = w.seen p b u a m := rfl
 rw [hs]
 cases tight p p.depth u with
 | false => rfl
 | true =>
  simp only [Bool.not_true, Bool.false_eq_true, if_false]
  cases w.seen p b u a m with
  | error e => rfl
  | ok x =>
   obtain ⟨c, e, frozen, first, like, cells⟩ := x
   simp only [bind, Except.bind, pure, Except.pure]
   cases v.bytes? with
   | none => rfl
   | some bs =>
    simp only []
    split
    ·rfl
    ·generalize List.foldlM (m := Except String) _ c cells = z
     cases z <;> rfl

theorem farStore_on (p : Program) (w : World) (τ : Nat → Question → Nat) (d : Nat) (a : Addr) (v : Value) (m : Bool) :
  (on w τ d).farStore p a v m = (w.farStore p a v m).map fun x => (on x.1 τ d, x.2) := by
 unfold World.farStore
 rw [show (on w τ d).heap = w.heap from rfl]
 split
 ·rw [viewStore_on]
  cases w.viewStore p _ _ a v m <;> rfl
 ·rfl

/-- THE RUN OF AN OPERATION, ON ANOTHER TAPE. It ends in a refusal; or what it comes to is the same on every tape that agrees for as many answers as it took. -/
theorem runT_on {α : Type} {P : Program} (s : Sem α) : ∀ c : Nat, SysD P s c → ∀ (w : World) (es : Array Event) (τ : Nat → Question → Nat) (d : Nat),
  (∃ k, ∀ τ' d', Agree τ d τ' d' k → ∃ x w' es', Bad x ∧ s.runT P (on w τ' d') es = (.halt x w', es')) ∨
  ∃ (r : Except Halt α) (w' : World) (es' : Array Event) (k : Nat), s.runT P (on w τ d) es = (outW r (on w' τ (d + k)), es') ∧
   ∀ τ' d', Agree τ d τ' d' k → s.runT P (on w τ' d') es = (outW r (on w' τ' (d' + k)), es') := by
 induction s with
 | pure a => exact fun _ _ w es τ d => .inr ⟨.ok a, w, es, 0, rfl, fun _ _ _ => rfl⟩
 | load m a k ih =>
  intro c0 hs w es τ d
  have hc : ∀ τ d, (on w τ d).cell? a = w.cell? a := fun _ _ => rfl
  have hl : ∀ τ d, (on w τ d).farLoad P a (m == .atomic) = w.farLoad P a (m == .atomic) := fun _ _ => rfl
  cases e : w.cell? a with
  | some v =>
   have hr : ∀ τ d, Sem.runT P (.load m a k) (on w τ d) es = (k v).runT P (on w τ d) (es.push ⟨.cell a, false, m == .atomic⟩) := fun τ d => by simp only [Sem.runT, hc, e]
   simp only [hr]
   exact ih v c0 (hs v) w _ τ d
  | none =>
   cases e' : w.farLoad P a (m == .atomic) with
   | ok x =>
    obtain ⟨v, t⟩ := x
    have hr : ∀ τ d, Sem.runT P (.load m a k) (on w τ d) es = (k v).runT P (on w τ d) (es ++ t.toArray.map (⟨.cell ·, false, m == .atomic⟩)) := fun τ d => by simp only [Sem.runT, hc, e, hl, e']
    simp only [hr]
    exact ih v c0 (hs v) w _ τ d
   | error h => exact .inr ⟨.error h, w, es, 0, by simp only [Sem.runT, hc, e, hl, e']; rfl, fun τ' d' _ => by simp only [Sem.runT, hc, e, hl, e']; rfl⟩
 | store m a v k ih =>
  intro c0 hs w es τ d
  have key : (∃ x, v = .agg x) ∨ (∃ x, v = .tuple x) ∨ ∀ τ d, Sem.runT P (.store m a v k) (on w τ d) es = match (on w τ d).cell? a with
    | some _ =>
     if (on w τ d).frozen? a then (.halt (.unsupported (.unsafePointer "a write to bytes that a string shares")) (on w τ d), es)
     else k.runT P ((on w τ d).setCell a v) (es.push ⟨.cell a, true, m == .atomic⟩)
    | none => match (on w τ d).farStore P a v (m == .atomic) with
     | .ok (w, touched) => k.runT P w (es ++ touched.toArray.map (⟨.cell ·, true, m == .atomic⟩))
     | .error h => (.halt h (on w τ d), es) := by
   cases v <;> first | exact .inl ⟨_, rfl⟩ | exact .inr (.inl ⟨_, rfl⟩) | exact .inr (.inr fun _ _ => rfl)
  rcases key with ⟨x, rfl⟩ | ⟨x, rfl⟩ | key
  ·exact .inr ⟨.error (.stuck _), w, es, 0, rfl, fun _ _ _ => rfl⟩
  ·exact .inr ⟨.error (.stuck _), w, es, 0, rfl, fun _ _ _ => rfl⟩
  have hc : ∀ τ d, (on w τ d).cell? a = w.cell? a := fun _ _ => rfl
  have hf : ∀ τ d, (on w τ d).frozen? a = w.frozen? a := fun _ _ => rfl
  have hset : ∀ τ d, (on w τ d).setCell a v = on (w.setCell a v) τ d := fun _ _ => rfl
  cases e : w.cell? a with
  | some u =>
   cases ef : w.frozen? a with
   | true => exact .inr ⟨.error (.unsupported (.unsafePointer "a write to bytes that a string shares")), w, es, 0, by simp only [key, hc, e, hf, ef]; rfl, fun τ' d' _ => by simp only [key, hc, e, hf, ef]; rfl⟩
   | false =>
    have hr : ∀ τ d, Sem.runT P (.store m a v k) (on w τ d) es = k.runT P (on (w.setCell a v) τ d) (es.push ⟨.cell a, true, m == .atomic⟩) := fun τ d => by simp only [key, hc, e, hf, ef, hset]; rfl
    simp only [hr]
    exact ih c0 hs (w.setCell a v) _ τ d
  | none =>
   cases e' : w.farStore P a v (m == .atomic) with
   | ok x =>
    obtain ⟨w1, t⟩ := x
    have hr : ∀ τ d, Sem.runT P (.store m a v k) (on w τ d) es = k.runT P (on w1 τ d) (es ++ t.toArray.map (⟨.cell ·, true, m == .atomic⟩)) := fun τ d => by
     simp only [key, hc, e, farStore_on, e', Except.map]
    simp only [hr]
    exact ih c0 hs w1 _ τ d
   | error h => exact .inr ⟨.error h, w, es, 0, by simp only [key, hc, e, farStore_on, e', Except.map]; rfl, fun τ' d' _ => by simp only [key, hc, e, farStore_on, e', Except.map]; rfl⟩
 | new o k ih => exact fun c0 hs w es τ d => ih w.heap.size c0 (hs _) { w with heap := w.heap.push o } es τ d
 | shape r k ih => exact fun c0 hs w es τ d => ih (w.shape? r) c0 (hs _) w es τ d
 | freeze a n k ih =>
  intro c0 hs w es τ d
  have hset : ∀ τ d, (on w τ d).freeze a n = on (w.freeze a n) τ d := fun _ _ => by unfold World.freeze on; split <;> rfl
  simp only [Sem.runT, hset]
  exact ih c0 hs (w.freeze a n) es τ d
 | frozen a k ih => exact fun c0 hs w es τ d => ih (w.frozen? a) c0 (hs _) w es τ d
 | getObj r k ih =>
  intro c0 hs w es τ d
  simp only [Sem.runT, show ∀ τ d, (on w τ d).heap = w.heap from fun _ _ => rfl]
  cases w.heap[r]? with
  | none => exact .inr ⟨.error (.stuck _), w, es, 0, rfl, fun _ _ _ => rfl⟩
  | some o =>
   cases o with
   | cells c e f => exact .inr ⟨.error (.stuck _), w, es, 0, rfl, fun _ _ _ => rfl⟩
   | _ => exact ih _ c0 (hs _) w _ τ d
 | setObj r o k ih =>
  intro c0 hs w es τ d
  simp only [Sem.runT, show ∀ τ d, (on w τ d).heap = w.heap from fun _ _ => rfl]
  cases w.heap[r]? with
  | none => exact .inr ⟨.error (.stuck _), w, es, 0, rfl, fun _ _ _ => rfl⟩
  | some x =>
   cases x with
   | cells c e f => exact .inr ⟨.error (.stuck _), w, es, 0, rfl, fun _ _ _ => rfl⟩
   | _ => exact ih c0 hs { w with heap := w.heap.setIfInBounds r o } _ τ d
 | choose q k ih =>
  intro c0 hs w es τ d
  by_cases hf : q.forced = true
  ·simp only [Sem.runT, hf, if_true]
   exact ih 0 c0 (hs _) w es τ d
  ·have hf' : q.forced = false := by simpa using hf
   simp only [Sem.runT, hf', Bool.false_eq_true, if_false]
   rcases ih (q.cut (τ d q)) c0 (hs _) w es τ (d + 1) with ⟨j, h⟩ | ⟨r, w', es', j, h1, h2⟩
   ·refine .inl ⟨1 + j, fun τ' d' hA => ?_⟩
    have e0 : τ' d' q = τ d q := by simpa using hA 0 (by omega) q
    show ∃ x w' es', Bad x ∧ (k (q.cut (τ' d' q))).runT P (on w τ' (d' + 1)) es = _
    rw [e0]
    exact h τ' (d' + 1) hA.tail
   ·refine .inr ⟨r, w', es', 1 + j, ?_, fun τ' d' hA => ?_⟩
    ·have e : d + (1 + j) = d + 1 + j := by omega
     rw [e]; exact h1
    ·have e : d' + (1 + j) = d' + 1 + j := by omega
     have e0 : τ' d' q = τ d q := by simpa using hA 0 (by omega) q
     rw [e]
     show (k (q.cut (τ' d' q))).runT P (on w τ' (d' + 1)) es = _
     rw [e0]
     exact h2 τ' (d' + 1) hA.tail
 | sys c k ih =>
  intro c0 hs w es τ d
  simp only [Sem.runT]
  rcases sys_on c w τ d with hb | ⟨r, w', k1, h1, h2⟩
  ·obtain ⟨x, hx0, hx⟩ := hs.1
   obtain ⟨k1, hb⟩ := hb
   refine .inl ⟨k1, fun τ' d' hA => ?_⟩
   rw [hb τ' d' hA, hx]
   exact ⟨x, _, _, hx0, rfl⟩
  ·rw [h1]
   rcases ih r c0 (hs.2 r) w' (es.push ⟨.output, true, false⟩) τ (d + k1) with ⟨j, h⟩ | ⟨r', w'', es', j, g1, g2⟩
   ·refine .inl ⟨k1 + j, fun τ' d' hA => ?_⟩
    rw [h2 τ' d' (hA.le (by omega))]
    exact h τ' (d' + k1) hA.tail
   ·refine .inr ⟨r', w'', es', k1 + j, by rw [← Nat.add_assoc]; exact g1, fun τ' d' hA => ?_⟩
    rw [h2 τ' d' (hA.le (by omega)), ← Nat.add_assoc]
    exact g2 τ' (d' + k1) hA.tail
 | program k ih => exact fun c0 hs w es τ d => ih P c0 hs w es τ d
 | mark m k ih =>
  intro c0 hs w es τ d
  have : ∃ c1, SysD P k c1 := by
   cases m <;> first | exact hs.elim | exact ⟨_, hs⟩ | (cases c0 <;> first | exact hs.elim | exact ⟨_, hs⟩)
  exact ih _ this.choose_spec w _ τ d
 | halt h => exact fun _ _ w es τ d => .inr ⟨.error h, w, es, 0, rfl, fun _ _ _ => rfl⟩

/-! ### deafness is kept -/
/-- The marks among the events are the detector's. -/
def Said (es : Array Event) : Prop := ∀ e ∈ es, ∀ m, e.loc = .mark m → e.sync = true
/-- As deaf behind them as ahead. -/
def Bal (es : Array Event) : Prop := ∀ x, deafBehind x es = x
/-- A run that goes on. -/
def GoesOn {α : Type} : Result α → Prop
 | .ok _ _ => True
 | .halt h _ => ¬ Stops h

theorem deafBehind_app (x : Nat) (es fs : Array Event) : deafBehind x (es ++ fs) = deafBehind (deafBehind x es) fs := by simp [deafBehind]
theorem deafBehind_push (x : Nat) (es : Array Event) (e : Event) : deafBehind x (es.push e) = deafBehind (deafBehind x es) #[e] := by rw [← Array.append_singleton, deafBehind_app]
theorem bal_nil : Bal #[] := fun _ => rfl
theorem Bal.app {es fs : Array Event} (h : Bal es) (k : Bal fs) : Bal (es ++ fs) := fun x => by rw [deafBehind_app, h, k]
theorem said_nil : Said #[] := fun e he => by simp at he
theorem Said.push {es : Array Event} (h : Said es) {e : Event} (he : ∀ m, e.loc = .mark m → e.sync = true) : Said (es.push e) := fun x hx => (Array.mem_push.1 hx).elim (h x) fun e' => e' ▸ he
theorem Said.app {es fs : Array Event} (h : Said es) (k : Said fs) : Said (es ++ fs) := fun x hx => (Array.mem_append.1 hx).elim (h x) (k x)
theorem Said.cells {es : Array Event} (h : Said es) (l : List Addr) (a b : Bool) : Said (es ++ l.toArray.map (⟨.cell ·, a, b⟩)) := h.app fun x hx m hm => by
 obtain ⟨y, _, rfl⟩ := Array.mem_map.1 hx
 cases hm

theorem deaf_push {x : Nat} {es : Array Event} {e : Event} (h1 : e.loc ≠ .mark .disable) (h2 : e.loc ≠ .mark .enable) : deafBehind x (es.push e) = deafBehind x es := by
 rw [deafBehind_push, Go.ConcR.deafBehind_one h1 h2]
theorem deaf_cells (x : Nat) (es : Array Event) (l : List Addr) (a b : Bool) : deafBehind x (es ++ l.toArray.map (⟨.cell ·, a, b⟩)) = deafBehind x es := by
 rw [deafBehind_app]
 refine deafBehind_still (fun e he => ?_) _
 obtain ⟨y, _, rfl⟩ := Array.mem_map.1 he
 exact ⟨by simp, by simp⟩

theorem stops_noCell (w : World) (a : Addr) (s : String) : Stops (w.noCell a s) := by unfold World.noCell; split <;> trivial
theorem stops_farLoad {P : Program} {w : World} {a : Addr} {b : Bool} {h : Halt} (e : w.farLoad P a b = .error h) : Stops h := by
 unfold World.farLoad at e
 split at e
 ·split at e
  ·cases e
  ·cases e; trivial
 ·cases e; exact stops_noCell _ _ _
theorem stops_farStore {P : Program} {w : World} {a : Addr} {v : Value} {b : Bool} {h : Halt} (e : w.farStore P a v b = .error h) : Stops h := by
 unfold World.farStore at e
 split at e
 ·split at e
  ·cases e
  ·cases e; trivial
 ·cases e; exact stops_noCell _ _ _

/-! ### every place that is named is there -/
/-- Every address that is named lies in a block below n. -/
def Low (n : Nat) (es : Array Event) : Prop := ∀ e ∈ es, (MemAct.ofEvent e).low n
theorem low_nil (n : Nat) : Low n #[] := fun e he => by simp at he
theorem Low.mono {n m : Nat} {es : Array Event} (h : Low n es) (hm : n ≤ m) : Low m es := fun e he => MemAct.low_mono hm (h e he)
theorem Low.push {n : Nat} {es : Array Event} (h : Low n es) {e : Event} (he : (MemAct.ofEvent e).low n) : Low n (es.push e) := fun x hx => (Array.mem_push.1 hx).elim (h x) fun e' => e' ▸ he
theorem Low.app {n : Nat} {es fs : Array Event} (h : Low n es) (k : Low n fs) : Low n (es ++ fs) := fun x hx => (Array.mem_append.1 hx).elim (h x) (k x)
theorem low_cell {n : Nat} {a : Addr} (w s : Bool) (h : a.block < n) : (MemAct.ofEvent ⟨.cell a, w, s⟩).low n := h
theorem low_obj {n : Nat} {r : Nat} (w s : Bool) (h : r < n) : (MemAct.ofEvent ⟨.obj r, w, s⟩).low n := by cases w <;> cases s <;> exact h
theorem Low.cells {n : Nat} {es : Array Event} (h : Low n es) {l : List Addr} (hl : ∀ x ∈ l, x.block < n) (a b : Bool) : Low n (es ++ l.toArray.map (⟨.cell ·, a, b⟩)) := h.app fun x hx => by
 obtain ⟨y, hy, rfl⟩ := Array.mem_map.1 hx
 exact hl y (by simpa using hy)

theorem cell_lt {w : World} {a : Addr} {v : Value} (h : w.cell? a = some v) : a.block < w.heap.size := by
 unfold World.cell? at h
 split at h
 ·rename_i e; exact (Array.getElem?_eq_some_iff.1 e).1
 ·cases h
theorem seen_lt {P : Program} {w : World} {b : Addr} {u : TypeId} {k : Addr} {m : Bool} {x} (h : w.seen P b u k m = .ok x) : b.block < w.heap.size := by
 apply Classical.byContradiction
 intro hn
 have e : w.heap[b.block]? = none := Array.getElem?_eq_none (by omega)
 unfold World.seen at h
 simp only [e, bind, Except.bind] at h
 repeat' (split at h)
 all_goals first | cases h | skip
theorem farLoad_low {P : Program} {w : World} {a : Addr} {m : Bool} {v : Value} {t : List Addr} (h : w.farLoad P a m = .ok (v, t)) : ∀ x ∈ t, x.block < w.heap.size := by
 unfold World.farLoad at h
 split at h
 ·rename_i b u _
  cases e : w.viewLoad P b u a m with
  | error s => rw [e] at h; cases h
  | ok r =>
   rw [e] at h
   cases h
   unfold World.viewLoad at e
   cases e1 : w.seen P b u a m with
   | error s => rw [e1] at e; cases e
   | ok y =>
    have hb := seen_lt e1
    rw [e1] at e
    obtain ⟨c, el, fz, first, like, cells⟩ := y
    simp only [bind, Except.bind] at e
    split at e
    ·cases e
     intro x hx
     obtain ⟨y, _, rfl⟩ := List.mem_map.1 hx
     exact hb
    ·cases e
 ·cases h
theorem farStore_low {P : Program} {w w' : World} {a : Addr} {v : Value} {m : Bool} {t : List Addr} (h : w.farStore P a v m = .ok (w', t)) : w'.heap.size = w.heap.size ∧ ∀ x ∈ t, x.block < w.heap.size := by
 unfold World.farStore at h
 split at h
 ·rename_i b u _
  cases e : w.viewStore P b u a v m with
  | error s => rw [e] at h; cases h
  | ok r =>
   rw [e] at h
   cases h
   unfold World.viewStore at e
   simp only [bind, Except.bind, pure, Except.pure] at e
   cases e1 : w.seen P b u a m with
   | error s =>
    rw [e1] at e
    split at e
    ·cases e
    ·cases e
   | ok y =>
    have hb := seen_lt e1
    rw [e1] at e
    obtain ⟨c, el, fz, first, like, cells⟩ := y
    repeat' (split at e)
    all_goals first | cases e | skip
    all_goals exact ⟨by simp, fun x hx => by obtain ⟨y, _, rfl⟩ := List.mem_map.1 hx; exact hb⟩
 ·cases h

/-- The world that a run leaves. -/
def wOf {α : Type} : Result α → World
 | .ok _ w => w
 | .halt _ w => w

theorem size_freeze (w : World) (a : Addr) (n : Nat) : (w.freeze a n).heap.size = w.heap.size := by unfold World.freeze; split <;> simp
theorem size_setCell (w : World) (a : Addr) (v : Value) : (w.setCell a v).heap.size = w.heap.size := by unfold World.setCell; simp
theorem heap_sys (w : World) (c : Sys) : (w.sys c).2.heap = w.heap := by
 have hask : ∀ {α : Type} (x : Ask α) (w : World), (w.ask x).2.heap = w.heap := by
  intro α x
  induction x with
  | done a => exact fun w => rfl
  | ask what range k ih =>
   intro w
   simp only [World.ask]
   split
   ·exact ih _ _
   ·exact ih _ _
 unfold World.sys
 have := hask (Kernel.perform c w.os) w
 split
 ·rename_i e; rw [e] at this; try exact this
 ·rename_i e; rw [e] at this; try exact this

theorem runT_bal {α : Type} {P : Program} (s : Sem α) : ∀ c : Nat, SysD P s c → ∀ (w : World) (es : Array Event) (r : Result α) (es' : Array Event), s.runT P w es = (r, es') → Said es → (∀ x, deafBehind x es = x + c) → Low w.heap.size es →
  Said es' ∧ (GoesOn r → ∀ x, deafBehind x es' = x) ∧ Low (wOf r).heap.size es' ∧ w.heap.size ≤ (wOf r).heap.size := by
 induction s with
 | pure a =>
  intro c hs w es r es' e hd hx hl
  cases e
  refine ⟨hd, fun _ x => ?_, hl, Nat.le_refl _⟩
  cases c with
  | zero => exact hx x
  | succ c => exact hs.elim
 | load m a k ih =>
  intro c hs w es r es' e hd hx hl
  simp only [Sem.runT] at e
  split at e
  ·rename_i hc
   exact ih _ c (hs _) _ _ _ _ e (hd.push fun m hm => by cases hm) (fun x => by rw [deaf_push (by simp) (by simp), hx]) (hl.push (low_cell _ _ (cell_lt hc)))
  ·split at e
   ·rename_i e'
    exact ih _ c (hs _) _ _ _ _ e (hd.cells _ _ _) (fun x => by rw [deaf_cells, hx]) (hl.cells (farLoad_low e') _ _)
   ·rename_i h e'
    cases e
    exact ⟨hd, fun hg => absurd (stops_farLoad e') hg, hl, Nat.le_refl _⟩
 | store m a v k ih =>
  intro c hs w es r es' e hd hx hl
  have key : (∃ x, v = .agg x) ∨ (∃ x, v = .tuple x) ∨ Sem.runT P (.store m a v k) w es = match w.cell? a with
    | some _ =>
     if w.frozen? a then (.halt (.unsupported (.unsafePointer "a write to bytes that a string shares")) w, es)
     else k.runT P (w.setCell a v) (es.push ⟨.cell a, true, m == .atomic⟩)
    | none => match w.farStore P a v (m == .atomic) with
     | .ok (w, touched) => k.runT P w (es ++ touched.toArray.map (⟨.cell ·, true, m == .atomic⟩))
     | .error h => (.halt h w, es) := by
   cases v <;> first | exact .inl ⟨_, rfl⟩ | exact .inr (.inl ⟨_, rfl⟩) | exact .inr (.inr rfl)
  rcases key with ⟨x, rfl⟩ | ⟨x, rfl⟩ | key
  ·cases e
   exact ⟨hd, fun hg => absurd trivial hg, hl, Nat.le_refl _⟩
  ·cases e
   exact ⟨hd, fun hg => absurd trivial hg, hl, Nat.le_refl _⟩
  rw [key] at e
  split at e
  ·rename_i hc
   split at e
   ·cases e
    exact ⟨hd, fun hg => absurd trivial hg, hl, Nat.le_refl _⟩
   ·have := ih c hs _ _ _ _ e (hd.push fun m hm => by cases hm) (fun x => by rw [deaf_push (by simp) (by simp), hx]) (by rw [size_setCell]; exact hl.push (low_cell _ _ (cell_lt hc)))
    rw [size_setCell] at this
    exact this
  ·split at e
   ·rename_i e'
    obtain ⟨h1, h2⟩ := farStore_low e'
    have := ih c hs _ _ _ _ e (hd.cells _ _ _) (fun x => by rw [deaf_cells, hx]) (by rw [h1]; exact hl.cells h2 _ _)
    rw [h1] at this
    exact this
   ·rename_i h e'
    cases e
    exact ⟨hd, fun hg => absurd (stops_farStore e') hg, hl, Nat.le_refl _⟩
 | new o k ih =>
  intro c hs w es r es' e hd hx hl
  have := ih _ c (hs _) _ _ _ _ e hd hx (hl.mono (by simp))
  refine ⟨this.1, this.2.1, this.2.2.1, Nat.le_trans ?_ this.2.2.2⟩
  simp
 | shape x k ih => exact fun c hs w es r es' e hd hx hl => ih _ c (hs _) _ _ _ _ e hd hx hl
 | freeze a n k ih =>
  intro c hs w es r es' e hd hx hl
  have := ih c hs _ _ _ _ e hd hx (by rw [size_freeze]; exact hl)
  rw [size_freeze] at this
  exact this
 | frozen a k ih => exact fun c hs w es r es' e hd hx hl => ih _ c (hs _) _ _ _ _ e hd hx hl
 | getObj x k ih =>
  intro c hs w es r es' e hd hx hl
  simp only [Sem.runT] at e
  split at e
  ·cases e
   exact ⟨hd, fun hg => absurd trivial hg, hl, Nat.le_refl _⟩
  ·rename_i ho
   exact ih _ c (hs _) _ _ _ _ e (hd.push fun m hm => by cases hm) (fun x => by rw [deaf_push (by simp) (by simp), hx]) (hl.push (low_obj _ _ (Array.getElem?_eq_some_iff.1 ho).1))
  ·cases e
   exact ⟨hd, fun hg => absurd trivial hg, hl, Nat.le_refl _⟩
 | setObj x o k ih =>
  intro c hs w es r es' e hd hx hl
  simp only [Sem.runT] at e
  split at e
  ·cases e
   exact ⟨hd, fun hg => absurd trivial hg, hl, Nat.le_refl _⟩
  ·rename_i ho
   have := ih c hs _ _ _ _ e (hd.push fun m hm => by cases hm) (fun x => by rw [deaf_push (by simp) (by simp), hx]) (by
    simp only [Array.size_setIfInBounds]
    exact hl.push (low_obj _ _ (Array.getElem?_eq_some_iff.1 ho).1))
   simp only [Array.size_setIfInBounds] at this
   exact this
  ·cases e
   exact ⟨hd, fun hg => absurd trivial hg, hl, Nat.le_refl _⟩
 | choose q k ih =>
  intro c hs w es r es' e hd hx hl
  simp only [Sem.runT] at e
  split at e
  ·exact ih _ c (hs _) _ _ _ _ e hd hx hl
  ·exact ih _ c (hs _) { w with drawn := w.drawn + 1 } es r es' e hd hx hl
 | sys y k ih =>
  intro c hs w es r es' e hd hx hl
  have := ih _ c (hs.2 _) _ _ _ _ e (hd.push fun m hm => by cases hm) (fun x => by rw [deaf_push (by simp) (by simp), hx]) (by rw [heap_sys]; exact hl.push trivial)
  rw [heap_sys] at this
  exact this
 | program k ih => exact fun c hs w es r es' e hd hx hl => ih P c hs _ _ _ _ e hd hx hl
 | mark m k ih =>
  intro c hs w es r es' e hd hx hl
  have hd' : Said (es.push ⟨.mark m, false, true⟩) := hd.push fun _ _ => rfl
  have hx' : ∀ x, deafBehind x (es.push ⟨.mark m, false, true⟩) = deafBehind (x + c) #[⟨.mark m, false, true⟩] := fun x => by rw [deafBehind_push, hx]
  have hl' : Low w.heap.size (es.push ⟨.mark m, false, true⟩) := hl.push (by cases m <;> first | exact hs.elim | trivial)
  have e' : k.runT P w (es.push ⟨.mark m, false, true⟩) = (r, es') := e
  by_cases h1 : m = .disable
  ·subst h1
   exact ih (c + 1) hs _ _ _ _ e' hd' (fun x => by rw [hx']; simp [deafBehind]; omega) hl'
  by_cases h2 : m = .enable
  ·subst h2
   cases c with
   | zero => exact hs.elim
   | succ c => exact ih c hs _ _ _ _ e' hd' (fun x => by rw [hx']; simp [deafBehind]) hl'
  have hs' : SysD P k c := by cases m <;> first | exact hs.elim | exact hs | exact absurd rfl h1 | exact absurd rfl h2
  exact ih c hs' _ _ _ _ e' hd' (fun x => by rw [hx', Go.ConcR.deafBehind_one (by simpa using h1) (by simpa using h2)]) hl'
 | halt h =>
  intro c hs w es r es' e hd hx hl
  cases e
  refine ⟨hd, fun hg x => ?_, hl, Nat.le_refl _⟩
  cases c with
  | zero => exact hx x
  | succ c => exact absurd hs hg
end Go.Vel
end
section
set_option linter.all false
set_option maxRecDepth 20000
set_option maxHeartbeats 60000000
namespace Go.Vel
open Go

section
variable {P : Program}
theorem sysOk_pure {α : Type} (a : α) : SysOk P (pure a : Sem α) := trivial
theorem sysOk_pure' {α : Type} (a : α) : SysOk P (Sem.pure a : Sem α) := trivial
theorem sysOk_halt {α : Type} (h : Halt) : SysOk P (.halt h : Sem α) := trivial
theorem sysOk_map {α β : Type} {s : Sem α} {f : α → β} (h : SysOk P s) : SysOk P (f <$> s) := sysOk_bind h fun _ => trivial
theorem sysOk_ite {α : Type} {c : Prop} [Decidable c] {s t : Sem α} (h1 : SysOk P s) (h2 : SysOk P t) : SysOk P (if c then s else t) := by split <;> assumption
theorem sysOk_list_mapM {α β : Type} {f : α → Sem β} (hf : ∀ a, SysOk P (f a)) : ∀ l : List α, SysOk P (l.mapM f)
 | [] => trivial
 | a :: l => by
  rw [List.mapM_cons]
  exact sysOk_bind (hf a) fun _ => sysOk_bind (sysOk_list_mapM hf l) fun _ => trivial
theorem sysOk_array_mapM {α β : Type} {f : α → Sem β} (hf : ∀ a, SysOk P (f a)) (l : Array α) : SysOk P (l.mapM f) := by
 rw [Array.mapM_eq_mapM_toList]
 exact sysOk_map (sysOk_list_mapM hf _)
theorem sysOk_foldlM {α β : Type} {f : β → α → Sem β} (hf : ∀ b a, SysOk P (f b a)) : ∀ (l : List α) (b : β), SysOk P (l.foldlM f b)
 | [], _ => trivial
 | a :: l, b => by rw [List.foldlM_cons]; exact sysOk_bind (hf b a) fun _ => sysOk_foldlM hf l _
theorem sysOk_forIn_list {α β : Type} {f : α → β → Sem (ForInStep β)} (hf : ∀ a b, SysOk P (f a b)) : ∀ (l : List α) (b : β), SysOk P (forIn l b f)
 | [], _ => trivial
 | a :: l, b => by
  rw [List.forIn_cons]
  refine sysOk_bind (hf a b) fun r => ?_
  cases r with
  | done b => trivial
  | yield b => exact sysOk_forIn_list hf l b
theorem sysOk_forIn_array {α β : Type} {f : α → β → Sem (ForInStep β)} (hf : ∀ a b, SysOk P (f a b)) (l : Array α) (b : β) : SysOk P (forIn l b f) := by
 rw [← Array.forIn_toList]
 exact sysOk_forIn_list hf _ _
theorem sysOk_forIn_range {β : Type} {f : Nat → β → Sem (ForInStep β)} (hf : ∀ a b, SysOk P (f a b)) (l : Std.Legacy.Range) (b : β) : SysOk P (forIn l b f) := by
 rw [Std.Legacy.Range.forIn_eq_forIn_range']
 exact sysOk_forIn_list hf _ _
end


class SOk (P : Program) {α : Type} (s : Sem α) : Prop where
 ok : SysOk P s


theorem sok {P : Program} {α : Type} {s : Sem α} (h : SysOk P s := by repeat' (first | exact trivial | assumption | (intro _) | exact SOk.ok | exact sysOk_halt _ | (refine sysOk_bind ?_ (fun _ => ?_)) | (refine sysOk_map ?_) | (refine sysOk_list_mapM (fun _ => ?_) _) | (refine sysOk_array_mapM (fun _ => ?_) _) | (refine sysOk_foldlM (fun _ _ => ?_) _ _) | (refine sysOk_forIn_list (fun _ _ => ?_) _ _) | (refine sysOk_forIn_array (fun _ _ => ?_) _ _) | (refine sysOk_forIn_range (fun _ _ => ?_) _ _) | split | dsimp only)) : SysOk P s := h
theorem sysOk_jp {P : Program} {α β γ : Type} {F : β → Sem α} {body : (β → Sem α) → Sem γ} (h : ∀ x, SysOk P (F x)) (hb : ∀ jp : β → Sem α, (∀ x, SysOk P (jp x)) → SysOk P (body jp)) : SysOk P (have jp := F; body jp) := hb F h
theorem sysOk_have_sem {P : Program} {α γ : Type} {F : Sem α} {body : Sem α → Sem γ} (h : SysOk P F) (hb : ∀ jp : Sem α, SysOk P jp → SysOk P (body jp)) : SysOk P (have jp := F; body jp) := hb F h
theorem sysOk_have {P : Program} {β : Type} {γ : Type} {F : β} {body : β → Sem γ} (hb : ∀ x : β, SysOk P (body x)) : SysOk P (have x := F; body x) := hb F
instance {P : Program} (a : Addr) (m : Mode) : SOk P (load a m) := ⟨fun _ => trivial⟩
instance {P : Program} (a : Addr) (v : Value) (m : Mode) : SOk P (store a v m) := ⟨trivial⟩
instance {P : Program} (o : Obj) : SOk P (newObj o) := ⟨fun _ => trivial⟩
instance {P : Program} (r : Nat) : SOk P (shape r) := ⟨fun _ => trivial⟩
instance {P : Program} (a : Addr) (n : Nat) : SOk P (freeze a n) := ⟨trivial⟩
instance {P : Program} (a : Addr) : SOk P (frozen a) := ⟨fun _ => trivial⟩
instance {P : Program} (r : Nat) : SOk P (getObj r) := ⟨fun _ => trivial⟩
instance {P : Program} (r : Nat) (o : Obj) : SOk P (setObj r o) := ⟨trivial⟩
instance {P : Program} (q : Question) : SOk P (choose q) := ⟨fun _ => trivial⟩
instance {P : Program} : SOk P program := ⟨trivial⟩
instance {P : Program} : SOk P (mark .noRoom) := ⟨trivial⟩
instance {P : Program} (f : FuncId) : SOk P (mark (.extern f)) := ⟨trivial⟩
instance {P : Program} (fd : Nat) (b : ByteArray) : SOk P (writeFd fd b) := ⟨⟨.unsupported (.noEntry "print: a write on its descriptor that would wait"), trivial, rfl⟩, fun r => by cases r <;> trivial⟩

instance {P : Program} {α : Type} (a0 : _) : SOk P (stuck a0 : Sem α) := ⟨by unfold stuck; exact sok⟩
instance {P : Program} {α : Type} (a0 : _) : SOk P (unsupported a0 : Sem α) := ⟨by unfold unsupported; exact sok⟩
instance {P : Program} {α : Type} (a0 : _) : SOk P (goPanic a0 : Sem α) := ⟨by unfold goPanic; exact sok⟩
instance {P : Program} {α : Type} (a0 : _) : SOk P (fatal a0 : Sem α) := ⟨by unfold fatal; exact sok⟩
instance {P : Program} {α : Type} (a0 : _) : SOk P (throw a0 : Sem α) := ⟨by unfold throw; exact sok⟩
instance {P : Program} {α : Type}  : SOk P (blocked  : Sem α) := ⟨by unfold blocked; exact sok⟩
instance {P : Program} (a0 : _) : SOk P (askRoom a0) := ⟨by unfold askRoom; exact sok⟩
instance {P : Program} (a0 : _) : SOk P (viewAt a0) := ⟨by unfold viewAt; exact sok⟩
instance {P : Program} (a0 : _) : SOk P (numberAt a0) := ⟨by unfold numberAt; exact sok⟩
instance {P : Program} (a0 : _) : SOk P (cellsIn a0) := ⟨by unfold cellsIn; exact sok⟩
instance {P : Program} (a0 : _) (a1 : _) : SOk P (asNumber a0 a1) := ⟨by unfold asNumber; exact sok⟩
instance {P : Program} (a0 : _) : SOk P (behindNumber a0) := ⟨by unfold behindNumber; exact sok⟩
instance {P : Program} (a0 : _) : SOk P (backFromNumber a0) := ⟨by unfold backFromNumber; exact sok⟩
instance {P : Program} (a0 : _) : SOk P (noView a0) := ⟨by unfold noView; exact sok⟩
instance {P : Program} (a0 : _) : SOk P (markStringish a0) := ⟨by unfold markStringish; exact sok⟩
instance {P : Program} (a0 : _) : SOk P (stringish a0) := ⟨by unfold stringish; exact sok⟩
instance {P : Program} (a0 : _) (a1 : _) : SOk P (mayBeOne a0 a1) := ⟨by unfold mayBeOne; exact sok⟩
instance {P : Program} (a0 : _) (a1 : _) : SOk P (sameAddr a0 a1) := ⟨by unfold sameAddr; exact sok⟩
instance {P : Program} (a0 : _) (a1 : _) : SOk P (samePointer a0 a1) := ⟨by unfold samePointer; exact sok⟩
instance {P : Program} (a0 : _) : SOk P (typeInfo a0) := ⟨by unfold typeInfo; exact sok⟩
instance {P : Program} (a0 : _) : SOk P (underlying a0) := ⟨by unfold underlying; exact sok⟩
instance {P : Program} (a0 : _) : SOk P (cutType a0) := ⟨by unfold cutType; exact sok⟩
instance {P : Program} (a0 : _) : SOk P (globalAddr a0) := ⟨by unfold globalAddr; exact sok⟩
instance {P : Program} (a0 : _) : SOk P (typeStr a0) := ⟨by unfold typeStr; exact sok⟩
instance {P : Program} (a0 : _) : SOk P (zeroValue a0) := ⟨by unfold zeroValue; exact sok⟩
instance {P : Program} (a0 : _) : SOk P (sizeOf a0) := ⟨by unfold sizeOf; exact sok⟩
instance {P : Program} (a0 : _) : SOk P (isAgg a0) := ⟨by unfold isAgg; exact sok⟩

theorem sysOk_loadCellsFrom {P : Program} (a : Addr) : ∀ (n i : Nat) (acc : Array Value), SysOk P (loadCellsFrom a i n acc)
 | 0, _, _ => trivial
 | n + 1, i, acc => by
  unfold loadCellsFrom
  exact sysOk_bind SOk.ok fun _ => sysOk_loadCellsFrom a n _ _
instance {P : Program} (a : Addr) (i n : Nat) (acc : Array Value) : SOk P (loadCellsFrom a i n acc) := ⟨sysOk_loadCellsFrom a n i acc⟩
theorem sysOk_storeCells {P : Program} (a : Addr) : ∀ (vs : List Value) (i : Nat), SysOk P (storeCells a vs i)
 | [], _ => trivial
 | v :: vs, i => by
  unfold storeCells
  exact sysOk_bind SOk.ok fun _ => sysOk_storeCells a vs _
instance {P : Program} (a : Addr) (vs : List Value) (i : Nat) : SOk P (storeCells a vs i) := ⟨sysOk_storeCells a vs i⟩

instance {P : Program} (a0 : _) (a1 : _) : SOk P (loadCells a0 a1) := ⟨by unfold loadCells; exact sok⟩
instance {P : Program} (a0 : _) (a1 : _) : SOk P (loadVar a0 a1) := ⟨by unfold loadVar; exact sok⟩
instance {P : Program} (a0 : _) (a1 : _) (a2 : _) : SOk P (storeVar a0 a1 a2) := ⟨by unfold storeVar; exact sok⟩
instance {P : Program} (a0 : _) (a1 : _) : SOk P (newRow a0 a1) := ⟨by unfold newRow; exact sok⟩
instance {P : Program} (a0 : _) (a1 : _) : SOk P (newVar a0 a1) := ⟨by unfold newVar; exact sok⟩
instance {P : Program} (a0 : _) : SOk P (elemOf a0) := ⟨by unfold elemOf; exact sok⟩
instance {P : Program} (a0 : _) (a1 : _) (a2 : _) : SOk P (part a0 a1 a2) := ⟨by unfold part; exact sok⟩
instance {P : Program} {α : Type} (a0 : _) : SOk P (runtimePanic a0 : Sem α) := ⟨by unfold runtimePanic; exact sok⟩
instance {P : Program} {α : Type} (a0 : _) (a1 : _) (a2 : _) (a3 : _) : SOk P (boundsPanic a0 a1 a2 a3 : Sem α) := ⟨by unfold boundsPanic; exact sok⟩
instance {P : Program} {α : Type} (a0 : _) : SOk P (panicString a0 : Sem α) := ⟨by unfold panicString; exact sok⟩
instance {P : Program} (a0 : _) : SOk P (asIntOf a0) := ⟨by unfold asIntOf; exact sok⟩
instance {P : Program} (a0 : _) : SOk P (asInt a0) := ⟨by unfold asInt; exact sok⟩
instance {P : Program} (a0 : _) : SOk P (asBool a0) := ⟨by unfold asBool; exact sok⟩
instance {P : Program} (a0 : _) : SOk P (asString a0) := ⟨by unfold asString; exact sok⟩
instance {P : Program} (a0 : _) : SOk P (asAgg a0) := ⟨by unfold asAgg; exact sok⟩
instance {P : Program} (a0 : _) : SOk P (asAddr a0) := ⟨by unfold asAddr; exact sok⟩
instance {P : Program} (a0 : _) : SOk P (byteOf a0) := ⟨by unfold byteOf; exact sok⟩
instance {P : Program} (a0 : _) (a1 : _) (a2 : _) : SOk P (partAt a0 a1 a2) := ⟨by unfold partAt; exact sok⟩
instance {P : Program} (a0 : _) (a1 : _) : SOk P (fieldPlace a0 a1) := ⟨by unfold fieldPlace; exact sok⟩
instance {P : Program} (a0 : _) (a1 : _) (a2 : _) : SOk P (variablesAt a0 a1 a2) := ⟨by unfold variablesAt; exact sok⟩

theorem sysOk_loadBytes {P : Program} : ∀ (n : Nat) (a : Addr) (acc : ByteArray), SysOk P (loadBytes a acc n)
 | 0, _, _ => trivial
 | n + 1, a, acc => by
  unfold loadBytes
  refine sysOk_bind SOk.ok fun v => ?_
  split
  ·exact sysOk_loadBytes n _ _
  ·exact SOk.ok
instance {P : Program} (a : Addr) (acc : ByteArray) (n : Nat) : SOk P (loadBytes a acc n) := ⟨sysOk_loadBytes n a acc⟩

instance {P : Program} (a0 : _) (a1 : _) : SOk P (Builtin.holdsCells a0 a1) := ⟨by unfold Builtin.holdsCells; exact sok⟩
instance {P : Program} (a0 : _) (a1 : _) (a2 : _) (a3 : _) (a4 : _) : SOk P (Builtin.mayShare a0 a1 a2 a3 a4) := ⟨by unfold Builtin.mayShare; exact sok⟩
instance {P : Program} (a0 : _) : SOk P (Builtin.lenOf a0) := ⟨by unfold Builtin.lenOf; exact sok⟩
instance {P : Program} (a0 : _) (a1 : _) (a2 : _) : SOk P (Builtin.firstCells a0 a1 a2) := ⟨by unfold Builtin.firstCells; exact sok⟩
instance {P : Program} (a0 : _) (a1 : _) (a2 : _) : SOk P (Builtin.cap_ a0 a1 a2) := ⟨by unfold Builtin.cap_; exact sok⟩
instance {P : Program} (a0 : _) (a1 : _) (a2 : _) : SOk P (Builtin.clear_ a0 a1 a2) := ⟨by unfold Builtin.clear_; exact sok⟩
instance {P : Program} (a0 : _) (a1 : _) (a2 : _) : SOk P (Builtin.copy_ a0 a1 a2) := ⟨by unfold Builtin.copy_; exact sok⟩
instance {P : Program} (a0 : _) (a1 : _) (a2 : _) : SOk P (Builtin.len_ a0 a1 a2) := ⟨by unfold Builtin.len_; exact sok⟩

instance {P : Program} (a : Array TypeId) (b : TypeId) (c : Array Value) : SOk P (Builtin.close_ a b c) := ⟨by
 unfold Builtin.close_
 obtain ⟨l⟩ := c
 rcases l with _ | ⟨x, _ | ⟨y, l⟩⟩
 ·exact SOk.ok (s := stuck _)
 ·cases x <;> first | exact SOk.ok (s := stuck _) | skip
  rename_i r
  cases r
  ·exact SOk.ok (s := runtimePanic _)
  ·refine sysOk_bind (s := getObj _) SOk.ok (fun x => ?_)
   exact sok
 ·exact SOk.ok (s := stuck _)⟩
instance {P : Program} (a : Array TypeId) (b : TypeId) (c : Array Value) : SOk P (Builtin.complex_ a b c) := ⟨by
 unfold Builtin.complex_
 obtain ⟨l⟩ := c
 rcases l with _ | ⟨x, _ | ⟨y, _ | ⟨z, l⟩⟩⟩
 ·exact SOk.ok (s := stuck _)
 ·cases x <;> exact SOk.ok (s := stuck _)
 ·cases x <;> first | exact SOk.ok (s := stuck _) | skip
  cases y <;> first | exact SOk.ok (s := stuck _) | skip
  exact sysOk_ite trivial SOk.ok
 ·exact SOk.ok (s := stuck _)⟩
instance {P : Program} (a : Array TypeId) (b : TypeId) (c : Array Value) : SOk P (Builtin.imag_ a b c) := ⟨by
 unfold Builtin.imag_
 obtain ⟨l⟩ := c
 rcases l with _ | ⟨x, _ | ⟨y, l⟩⟩
 ·exact SOk.ok (s := stuck _)
 ·cases x <;> first | exact SOk.ok (s := stuck _) | exact sysOk_pure _
 ·exact SOk.ok (s := stuck _)⟩
instance {P : Program} (a : Array TypeId) (b : TypeId) (c : Array Value) : SOk P (Builtin.real_ a b c) := ⟨by
 unfold Builtin.real_
 obtain ⟨l⟩ := c
 rcases l with _ | ⟨x, _ | ⟨y, l⟩⟩
 ·exact SOk.ok (s := stuck _)
 ·cases x <;> first | exact SOk.ok (s := stuck _) | exact sysOk_pure _
 ·exact SOk.ok (s := stuck _)⟩

instance {P : Program} (a0 : _) (a1 : _) (a2 : _) : SOk P (Op.stringOp a0 a1 a2) := ⟨by unfold Op.stringOp; exact sok⟩
instance {P : Program} (a0 : _) (a1 : _) : SOk P (Op.twoPlaces a0 a1) := ⟨by unfold Op.twoPlaces; exact sok⟩
instance {P : Program} (a0 : _) (a1 : _) (a2 : _) : SOk P (Op.addrSub a0 a1 a2) := ⟨by unfold Op.addrSub; exact sok⟩
instance {P : Program} (a0 : _) (a1 : _) (a2 : _) : SOk P (Op.addrCmp a0 a1 a2) := ⟨by unfold Op.addrCmp; exact sok⟩
instance {P : Program} (a0 : _) (a1 : _) (a2 : _) : SOk P (Op.addrMod a0 a1 a2) := ⟨by unfold Op.addrMod; exact sok⟩
instance {P : Program} (a0 : _) (a1 : _) (a2 : _) (a3 : _) : SOk P (Op.floatArith a0 a1 a2 a3) := ⟨by unfold Op.floatArith; exact sok⟩
instance {P : Program} (a0 : _) (a1 : _) (a2 : _) (a3 : _) : SOk P (Op.floatCmp a0 a1 a2 a3) := ⟨by unfold Op.floatCmp; exact sok⟩
instance {P : Program} (a0 : _) (a1 : _) (a2 : _) (a3 : _) : SOk P (Op.intArith a0 a1 a2 a3) := ⟨by unfold Op.intArith; exact sok⟩
instance {P : Program} (a0 : _) (a1 : _) (a2 : _) (a3 : _) : SOk P (Op.intBits a0 a1 a2 a3) := ⟨by unfold Op.intBits; exact sok⟩
instance {P : Program} (a0 : _) (a1 : _) (a2 : _) : SOk P (Op.intCmp a0 a1 a2) := ⟨by unfold Op.intCmp; exact sok⟩
instance {P : Program} (a0 : _) (a1 : _) (a2 : _) (a3 : _) : SOk P (Op.intDiv a0 a1 a2 a3) := ⟨by unfold Op.intDiv; exact sok⟩
instance {P : Program} (a0 : _) (a1 : _) (a2 : _) (a3 : _) (a4 : _) : SOk P (Op.shift a0 a1 a2 a3 a4) := ⟨by unfold Op.shift; exact sok⟩
instance {P : Program} (a0 : _) (a1 : _) : SOk P (Op.unary a0 a1) := ⟨by unfold Op.unary; exact sok⟩
instance {P : Program} (a0 : _) (a1 : _) (a2 : _) : SOk P (Conv.floatToFloat a0 a1 a2) := ⟨by unfold Conv.floatToFloat; exact sok⟩
instance {P : Program} (a0 : _) (a1 : _) (a2 : _) (a3 : _) : SOk P (Op.Complex.arith a0 a1 a2 a3) := ⟨by unfold Op.Complex.arith; exact sok⟩
instance {P : Program} (a0 : _) (a1 : _) (a2 : _) (a3 : _) : SOk P (Op.Complex.cmp a0 a1 a2 a3) := ⟨by unfold Op.Complex.cmp; exact sok⟩
instance {P : Program} (a0 : _) (a1 : _) (a2 : _) : SOk P (Op.Complex.conv a0 a1 a2) := ⟨by unfold Op.Complex.conv; exact sok⟩
instance {P : Program} (a0 : _) (a1 : _) (a2 : _) (a3 : _) : SOk P (Op.Complex.product a0 a1 a2 a3) := ⟨by unfold Op.Complex.product; exact sok⟩
instance {P : Program} (a0 : _) (a1 : _) (a2 : _) (a3 : _) (a4 : _) : SOk P (Op.Complex.corrected a0 a1 a2 a3 a4) := ⟨by unfold Op.Complex.corrected; exact sok⟩
instance {P : Program} (a0 : _) (a1 : _) : SOk P (Builtin.max2 a0 a1) := ⟨by unfold Builtin.max2; exact sok⟩
instance {P : Program} (a0 : _) (a1 : _) (a2 : _) : SOk P (Builtin.max_ a0 a1 a2) := ⟨by unfold Builtin.max_; exact sok⟩
instance {P : Program} (a0 : _) (a1 : _) : SOk P (Builtin.min2 a0 a1) := ⟨by unfold Builtin.min2; exact sok⟩
instance {P : Program} (a0 : _) (a1 : _) (a2 : _) : SOk P (Builtin.min_ a0 a1 a2) := ⟨by unfold Builtin.min_; exact sok⟩
instance {P : Program} (a0 : _) (a1 : _) : SOk P (Builtin.printOne a0 a1) := ⟨by unfold Builtin.printOne; exact sok⟩
instance {P : Program} (a0 : _) : SOk P (Conv.bytesToString a0) := ⟨by unfold Conv.bytesToString; exact sok⟩
instance {P : Program} (a0 : _) (a1 : _) (a2 : _) (a3 : _) : SOk P (Conv.complexToComplex a0 a1 a2 a3) := ⟨by unfold Conv.complexToComplex; exact sok⟩
instance {P : Program} (a0 : _) (a1 : _) (a2 : _) : SOk P (Conv.floatToInt a0 a1 a2) := ⟨by unfold Conv.floatToInt; exact sok⟩
instance {P : Program} (a0 : _) (a1 : _) : SOk P (Conv.intToFloat a0 a1) := ⟨by unfold Conv.intToFloat; exact sok⟩
instance {P : Program} (a0 : _) (a1 : _) : SOk P (Conv.intToInt a0 a1) := ⟨by unfold Conv.intToInt; exact sok⟩
instance {P : Program} (a0 : _) : SOk P (Conv.intToString a0) := ⟨by unfold Conv.intToString; exact sok⟩
instance {P : Program} (a0 : _) : SOk P (Conv.runesToString a0) := ⟨by unfold Conv.runesToString; exact sok⟩
instance {P : Program} (a0 : _) (a1 : _) : SOk P (Conv.stringToBytes a0 a1) := ⟨by unfold Conv.stringToBytes; exact sok⟩
instance {P : Program} (a0 : _) (a1 : _) : SOk P (Conv.stringToRunes a0 a1) := ⟨by unfold Conv.stringToRunes; exact sok⟩
instance {P : Program} (a0 : _) : SOk P (Conv.seenAt a0) := ⟨by unfold Conv.seenAt; exact sok⟩
instance {P : Program} (a0 : _) (a1 : _) (a2 : _) : SOk P (Conv.unsafePointer a0 a1 a2) := ⟨by unfold Conv.unsafePointer; exact sok⟩
instance {P : Program} (a0 : _) : SOk P (Instr.sureAddr a0) := ⟨by unfold Instr.sureAddr; exact sok⟩
instance {P : Program} (a0 : _) (a1 : _) : SOk P (Instr.loadAt a0 a1) := ⟨by unfold Instr.loadAt; exact sok⟩
instance {P : Program} (a0 : _) (a1 : _) (a2 : _) : SOk P (Instr.storeAt a0 a1 a2) := ⟨by unfold Instr.storeAt; exact sok⟩
instance {P : Program} (a0 : _) (a1 : _) (a2 : _) : SOk P (Instr.fieldAt a0 a1 a2) := ⟨by unfold Instr.fieldAt; exact sok⟩
instance {P : Program} (a0 : _) (a1 : _) (a2 : _) : SOk P (Instr.indexAt a0 a1 a2) := ⟨by unfold Instr.indexAt; exact sok⟩
instance {P : Program} (a0 : _) (a1 : _) (a2 : _) : SOk P (Instr.sliceBound a0 a1 a2) := ⟨by unfold Instr.sliceBound; exact sok⟩
instance {P : Program} (a0 : _) (a1 : _) (a2 : _) (a3 : _) (a4 : _) (a5 : _) : SOk P (Instr.sliceBounds a0 a1 a2 a3 a4 a5) := ⟨by unfold Instr.sliceBounds; exact sok⟩
instance {P : Program} (a0 : _) (a1 : _) (a2 : _) (a3 : _) (a4 : _) : SOk P (Instr.slice a0 a1 a2 a3 a4) := ⟨by unfold Instr.slice; exact sok⟩
instance {P : Program} (a0 : _) (a1 : _) (a2 : _) (a3 : _) (a4 : _) : SOk P (Instr.sliceAt a0 a1 a2 a3 a4) := ⟨by unfold Instr.sliceAt; exact sok⟩
instance {P : Program} (a0 : _) (a1 : _) : SOk P (Instr.arrayAt a0 a1) := ⟨by unfold Instr.arrayAt; exact sok⟩
instance {P : Program} (a0 : _) (a1 : _) (a2 : _) : SOk P (Instr.alloc a0 a1 a2) := ⟨by unfold Instr.alloc; exact sok⟩
instance {P : Program} (a0 : _) (a1 : _) : SOk P (Instr.box a0 a1) := ⟨by unfold Instr.box; exact sok⟩
instance {P : Program} (a0 : _) (a1 : _) : SOk P (Instr.build a0 a1) := ⟨by unfold Instr.build; exact sok⟩
instance {P : Program} (a0 : _) (a1 : _) (a2 : _) : SOk P (Instr.buildSlice a0 a1 a2) := ⟨by unfold Instr.buildSlice; exact sok⟩
instance {P : Program} (a0 : _) : SOk P (Instr.entry a0) := ⟨by unfold Instr.entry; exact sok⟩
instance {P : Program} (a0 : _) (a1 : _) : SOk P (Instr.extract a0 a1) := ⟨by unfold Instr.extract; exact sok⟩
instance {P : Program} (a0 : _) (a1 : _) (a2 : _) : SOk P (Instr.field a0 a1 a2) := ⟨by unfold Instr.field; exact sok⟩
instance {P : Program} (a0 : _) (a1 : _) (a2 : _) : SOk P (Instr.index a0 a1 a2) := ⟨by unfold Instr.index; exact sok⟩

instance {P : Program} (a : Array TypeId) (b : TypeId) (c : Array Value) : SOk P (Builtin.unsafeAdd_ a b c) := ⟨by
 unfold Builtin.unsafeAdd_
 obtain ⟨l⟩ := c
 rcases l with _ | ⟨x, _ | ⟨y, _ | ⟨z, l⟩⟩⟩
 ·exact SOk.ok (s := stuck _)
 ·cases x <;> exact SOk.ok (s := stuck _)
 ·cases x <;> first | exact SOk.ok (s := stuck _) | skip
  refine sysOk_bind (s := asInt _) SOk.ok (fun _ => ?_)
  exact sok
 ·cases x <;> exact SOk.ok (s := stuck _)⟩

instance {P : Program} (a : Array TypeId) (b : TypeId) (c : Array Value) : SOk P (Builtin.unsafeSlice_ a b c) := ⟨by
 unfold Builtin.unsafeSlice_
 obtain ⟨l⟩ := c
 rcases l with _ | ⟨x, _ | ⟨y, _ | ⟨z, l⟩⟩⟩
 ·exact SOk.ok (s := stuck _)
 ·cases x <;> exact SOk.ok (s := stuck _)
 ·cases x <;> first | exact SOk.ok (s := stuck _) | skip
  refine sysOk_bind (s := asInt _) SOk.ok (fun _ => ?_)
  exact sok
 ·cases x <;> exact SOk.ok (s := stuck _)⟩

instance {P : Program} (a : Array TypeId) (b : TypeId) (c : Array Value) : SOk P (Builtin.unsafeString_ a b c) := ⟨by
 unfold Builtin.unsafeString_
 obtain ⟨l⟩ := c
 rcases l with _ | ⟨x, _ | ⟨y, _ | ⟨z, l⟩⟩⟩
 ·exact SOk.ok (s := stuck _)
 ·cases x <;> exact SOk.ok (s := stuck _)
 ·cases x <;> first | exact SOk.ok (s := stuck _) | skip
  refine sysOk_bind (s := asInt _) SOk.ok (fun _ => ?_)
  exact sok
 ·cases x <;> exact SOk.ok (s := stuck _)⟩

instance {P : Program} (a : Array TypeId) (b : TypeId) (c : Array Value) : SOk P (Builtin.unsafeStringData_ a b c) := ⟨by
 unfold Builtin.unsafeStringData_
 obtain ⟨l⟩ := c
 rcases l with _ | ⟨x, _ | ⟨y, l⟩⟩
 ·exact SOk.ok (s := stuck _)
 ·cases x <;> first | exact SOk.ok (s := stuck _) | skip
  rename_i s
  refine sysOk_ite (c := s.size = 0) ?_ ?_
  ·exact sok
  ·exact sok
 ·exact SOk.ok (s := stuck _)⟩
instance {P : Program} (a : Array TypeId) (b : TypeId) (c : Array Value) : SOk P (Builtin.unsafeSliceData_ a b c) := ⟨by
 unfold Builtin.unsafeSliceData_
 obtain ⟨l⟩ := c
 rcases l with _ | ⟨x, _ | ⟨y, l⟩⟩
 ·exact SOk.ok (s := stuck _)
 ·cases x <;> first | exact SOk.ok (s := stuck _) | skip
  rename_i o n m
  cases o
  ·exact sysOk_pure _
  ·refine sysOk_ite (c := m ≠ 0) ?_ ?_
   ·exact sok
   ·exact sok
 ·exact SOk.ok (s := stuck _)⟩
instance {P : Program} (a : Array TypeId) (b : TypeId) (c : Array Value) : SOk P (Builtin.ssaWrapNilChk_ a b c) := ⟨by
 unfold Builtin.ssaWrapNilChk_
 obtain ⟨l⟩ := c
 rcases l with _ | ⟨x, _ | ⟨y, _ | ⟨z, _ | ⟨u, l⟩⟩⟩⟩
 ·exact SOk.ok (s := stuck _)
 ·exact SOk.ok (s := stuck _)
 ·cases y <;> exact SOk.ok (s := stuck _)
 ·cases y <;> first | exact SOk.ok (s := stuck _) | skip
  cases z <;> first | exact SOk.ok (s := stuck _) | skip
  cases x <;> first | exact SOk.ok (s := stuck _) | skip
  rename_i o
  cases o
  ·refine sysOk_bind (s := choose _) SOk.ok (fun _ => ?_)
   exact sok
  ·exact sysOk_pure _
 ·cases y <;> exact SOk.ok (s := stuck _)⟩

instance {P : Program} (a0 : _) (a1 : _) : SOk P (Op.Complex.add a0 a1) := ⟨by unfold Op.Complex.add; exact sok⟩
instance {P : Program} (a0 : _) (a1 : _) : SOk P (Op.Complex.sub a0 a1) := ⟨by unfold Op.Complex.sub; exact sok⟩
instance {P : Program} (a0 : _) (a1 : _) : SOk P (Op.Complex.mul a0 a1) := ⟨by unfold Op.Complex.mul; exact sok⟩
instance {P : Program} (a0 : _) (a1 : _) : SOk P (Op.Complex.quo a0 a1) := ⟨by unfold Op.Complex.quo; exact sok⟩

instance {P : Program} (a b c d : Nat) : SOk P (Op.Complex.quotient a b c d) := ⟨by
 unfold Op.Complex.quotient
 refine sysOk_bind SOk.ok (fun x => ?_)
 dsimp only
 cases x
 all_goals
  simp only [Bool.false_eq_true, if_false, if_true]
  repeat' (first | exact SOk.ok | exact sysOk_pure _ | (refine sysOk_ite ?_ ?_) | (refine sysOk_bind ?_ (fun _ => ?_)))⟩
instance {P : Program} (op : BinOp) (k : FloatKind) (a b c d : Nat) : SOk P (Op.complexOp op k a b c d) := ⟨by
 have h2 : ∀ o, SysOk P (do
  let (a, b, c, d) := (← Op.Complex.conv k a .f64, ← Op.Complex.conv k b .f64, ← Op.Complex.conv k c .f64, ← Op.Complex.conv k d .f64)
  let (e, f) ← if o == BinOp.mul then Op.Complex.product a b c d else Op.Complex.quotient a b c d
  pure (Value.complex k (← Op.Complex.conv .f64 e k) (← Op.Complex.conv .f64 f k))) := by
  intro o
  refine sysOk_bind SOk.ok (fun _ => sysOk_bind SOk.ok (fun _ => sysOk_bind SOk.ok (fun _ => sysOk_bind SOk.ok (fun _ => ?_))))
  dsimp only
  cases (o == BinOp.mul)
  ·exact sysOk_bind (s := Op.Complex.quotient _ _ _ _) SOk.ok (fun _ => sysOk_bind SOk.ok (fun _ => sysOk_bind SOk.ok (fun _ => trivial)))
  ·exact sysOk_bind (s := Op.Complex.product _ _ _ _) SOk.ok (fun _ => sysOk_bind SOk.ok (fun _ => sysOk_bind SOk.ok (fun _ => trivial)))
 unfold Op.complexOp
 cases op
 all_goals first | exact SOk.ok (s := stuck _) | exact h2 .mul | exact h2 .quo | exact sysOk_bind SOk.ok (fun _ => sysOk_bind SOk.ok (fun _ => trivial))⟩
theorem sysOk_equalIn {P : Program} : ∀ (d : Nat) (t : TypeId) (x y : Value), SysOk P (Op.equalIn d t x y) := by
 intro d
 induction d with
 | zero => intro t x y; unfold Op.equalIn; exact SOk.ok
 | succ d ih =>
  intro t x y
  haveI : ∀ t x y, SOk P (Op.equalIn d t x y) := fun t x y => ⟨ih t x y⟩
  unfold Op.equalIn
  exact sok
instance {P : Program} (d : Nat) (t : TypeId) (x y : Value) : SOk P (Op.equalIn d t x y) := ⟨sysOk_equalIn d t x y⟩
theorem sysOk_eqGuardIn {P : Program} : ∀ (d : Nat) (t : TypeId) (x y : Value), SysOk P (Op.eqGuardIn d t x y) := by
 intro d
 induction d with
 | zero => intro t x y; unfold Op.eqGuardIn; exact SOk.ok
 | succ d ih =>
  intro t x y
  haveI : ∀ t x y, SOk P (Op.eqGuardIn d t x y) := fun t x y => ⟨ih t x y⟩
  unfold Op.eqGuardIn
  exact sok
instance {P : Program} (d : Nat) (t : TypeId) (x y : Value) : SOk P (Op.eqGuardIn d t x y) := ⟨sysOk_eqGuardIn d t x y⟩
theorem sysOk_checkKey {P : Program} (e : Bool) : ∀ (d : Nat) (t : TypeId) (x : Value), SysOk P (Instr.checkKey e d t x) := by
 intro d
 induction d with
 | zero => intro t x; unfold Instr.checkKey; exact SOk.ok
 | succ d ih =>
  intro t x
  haveI : ∀ t x, SOk P (Instr.checkKey e d t x) := fun t x => ⟨ih t x⟩
  unfold Instr.checkKey
  exact sok
instance {P : Program} (e : Bool) (d : Nat) (t : TypeId) (x : Value) : SOk P (Instr.checkKey e d t x) := ⟨sysOk_checkKey e d t x⟩

instance {P : Program} (a0 : _) (a1 : _) (a2 : _) : SOk P (Op.equal a0 a1 a2) := ⟨by unfold Op.equal; exact sok⟩

theorem sysOk_findAsking {P : Program} (t : TypeId) (k : Value) : ∀ (es : List MapEntry) (i : Nat), SysOk P (Instr.findAsking t k es i)
 | [], _ => trivial
 | e :: es, i => by
  unfold Instr.findAsking
  refine sysOk_bind SOk.ok (fun _ => sysOk_ite trivial (sysOk_findAsking t k es _))
instance {P : Program} (t : TypeId) (k : Value) (es : List MapEntry) (i : Nat) : SOk P (Instr.findAsking t k es i) := ⟨sysOk_findAsking t k es i⟩

instance {P : Program} (a0 : _) (a1 : _) (a2 : _) : SOk P (Instr.findKey a0 a1 a2) := ⟨by unfold Instr.findKey; exact sok⟩
instance {P : Program} (a0 : _) (a1 : _) (a2 : _) (a3 : _) : SOk P (Instr.lookup a0 a1 a2 a3) := ⟨by unfold Instr.lookup; exact sok⟩
instance {P : Program} (a0 : _) (a1 : _) : SOk P (Instr.makeChan a0 a1) := ⟨by unfold Instr.makeChan; exact sok⟩
instance {P : Program} (a0 : _) (a1 : _) (a2 : _) : SOk P (Instr.makeFunc a0 a1 a2) := ⟨by unfold Instr.makeFunc; exact sok⟩
instance {P : Program} (a0 : _) (a1 : _) : SOk P (Instr.makeInterface a0 a1) := ⟨by unfold Instr.makeInterface; exact sok⟩
instance {P : Program} (a0 : _) (a1 : _) : SOk P (Instr.makeMap a0 a1) := ⟨by unfold Instr.makeMap; exact sok⟩
instance {P : Program} (a0 : _) (a1 : _) (a2 : _) : SOk P (Instr.makeSlice a0 a1 a2) := ⟨by unfold Instr.makeSlice; exact sok⟩
instance {P : Program} (a0 : _) (a1 : _) : SOk P (Instr.keyThatStays a0 a1) := ⟨by unfold Instr.keyThatStays; exact sok⟩
instance {P : Program} (a0 : _) (a1 : _) (a2 : _) (a3 : _) : SOk P (Instr.mapUpdate a0 a1 a2 a3) := ⟨by unfold Instr.mapUpdate; exact sok⟩
instance {P : Program} (a0 : _) (a1 : _) (a2 : _) : SOk P (Instr.mapEntry a0 a1 a2) := ⟨by unfold Instr.mapEntry; exact sok⟩
instance {P : Program} (a0 : _) (a1 : _) (a2 : _) (a3 : _) : SOk P (Instr.entryStore a0 a1 a2 a3) := ⟨by unfold Instr.entryStore; exact sok⟩
instance {P : Program} (a0 : _) (a1 : _) (a2 : _) : SOk P (Builtin.delete_ a0 a1 a2) := ⟨by unfold Builtin.delete_; exact sok⟩
instance {P : Program} (a0 : _) (a1 : _) : SOk P (Place.get a0 a1) := ⟨by unfold Place.get; exact sok⟩

theorem sysOk_follow {P : Program} : ∀ (l : List FieldStep) (t : TypeId) (x : Place), SysOk P (follow l t x) := by
 intro l
 induction l with
 | nil => intro t x; trivial
 | cons s l ih =>
  intro t x
  haveI : ∀ t x, SOk P (follow l t x) := fun t x => ⟨ih t x⟩
  unfold follow
  exact sok
instance {P : Program} (l : List FieldStep) (t : TypeId) (x : Place) : SOk P (follow l t x) := ⟨sysOk_follow l t x⟩
theorem sysOk_followBlind {P : Program} : ∀ (l : List FieldStep) (t : TypeId) (x : Option Value), SysOk P (followBlind l t x) := by
 intro l
 induction l with
 | nil => intro t x; trivial
 | cons s l ih =>
  intro t x
  haveI : ∀ t x, SOk P (followBlind l t x) := fun t x => ⟨ih t x⟩
  unfold followBlind
  exact sok
instance {P : Program} (l : List FieldStep) (t : TypeId) (x : Option Value) : SOk P (followBlind l t x) := ⟨sysOk_followBlind l t x⟩

instance {P : Program} (a0 : _) (a1 : _) (a2 : _) (a3 : _) : SOk P (receiverAt a0 a1 a2 a3) := ⟨by unfold receiverAt; exact sok⟩
instance {P : Program} (a0 : _) (a1 : _) (a2 : _) (a3 : _) : SOk P (receiverVia a0 a1 a2 a3) := ⟨by unfold receiverVia; exact sok⟩

theorem sysOk_method {P : Program} : ∀ (n : Nat) (t : TypeId) (v : Value) (s : String), SysOk P (method n t v s) := by
 intro n
 induction n with
 | zero => intro t v s; unfold method; exact SOk.ok
 | succ n ih =>
  intro t v s
  haveI : ∀ t v s, SOk P (method n t v s) := fun t v s => ⟨ih t v s⟩
  unfold method
  exact sok
instance {P : Program} (n : Nat) (t : TypeId) (v : Value) (s : String) : SOk P (method n t v s) := ⟨sysOk_method n t v s⟩
theorem sysOk_nilAhead {P : Program} : ∀ (n : Nat) (t : TypeId) (v : Value) (s : String), SysOk P (nilAhead n t v s) := by
 intro n
 induction n with
 | zero => intro t v s; trivial
 | succ n ih =>
  intro t v s
  haveI : ∀ t v s, SOk P (nilAhead n t v s) := fun t v s => ⟨ih t v s⟩
  unfold nilAhead
  exact sok
instance {P : Program} (n : Nat) (t : TypeId) (v : Value) (s : String) : SOk P (nilAhead n t v s) := ⟨sysOk_nilAhead n t v s⟩
instance {P : Program} : SOk P Instr.panicnil := ⟨by
 unfold Instr.panicnil
 refine ⟨⟨.stuck "strings expected", trivial, rfl⟩, fun r => ?_⟩
 cases r <;> exact trivial⟩

instance {P : Program} (a0 : _) (a1 : _) (a2 : _) : SOk P (Instr.next a0 a1 a2) := ⟨by unfold Instr.next; exact sok⟩
instance {P : Program} (a0 : _) : SOk P (Instr.panic a0) := ⟨by unfold Instr.panic; exact sok⟩
instance {P : Program} (a0 : _) (a1 : _) : SOk P (Instr.range a0 a1) := ⟨by unfold Instr.range; exact sok⟩
instance {P : Program} (a0 : _) : SOk P (Instr.getLoop a0) := ⟨by unfold Instr.getLoop; exact sok⟩
instance {P : Program} (a0 : _) (a1 : _) (a2 : _) (a3 : _) (a4 : _) (a5 : _) : SOk P (Instr.enterLoop a0 a1 a2 a3 a4 a5) := ⟨by unfold Instr.enterLoop; exact sok⟩
instance {P : Program} (a0 : _) : SOk P (Instr.beginRound a0) := ⟨by unfold Instr.beginRound; exact sok⟩
instance {P : Program} (a0 : _) (a1 : _) : SOk P (Instr.endRound a0 a1) := ⟨by unfold Instr.endRound; exact sok⟩
instance {P : Program} (a0 : _) : SOk P (Instr.endLoop a0) := ⟨by unfold Instr.endLoop; exact sok⟩
instance {P : Program} (a0 : _) (a1 : _) : SOk P (Instr.deferInRound a0 a1) := ⟨by unfold Instr.deferInRound; exact sok⟩
instance {P : Program} (a0 : _) : SOk P (Instr.takeDeferred a0) := ⟨by unfold Instr.takeDeferred; exact sok⟩
instance {P : Program} (a0 : _) : SOk P (Instr.waits a0) := ⟨by unfold Instr.waits; exact sok⟩
instance {P : Program} (a0 : _) : SOk P (Instr.ready a0) := ⟨by unfold Instr.ready; exact sok⟩
instance {P : Program} (a0 : _) (a1 : _) (a2 : _) (a3 : _) : SOk P (Instr.typeAssert a0 a1 a2 a3) := ⟨by unfold Instr.typeAssert; exact sok⟩
instance {P : Program}  : SOk P (Extern.PrintPieces.held ) := ⟨by unfold Extern.PrintPieces.held; exact sok⟩
instance {P : Program} (a0 : _) (a1 : _) (a2 : _) : SOk P (movedNumber a0 a1 a2) := ⟨by unfold movedNumber; exact sok⟩
instance {P : Program} (a0 : _) (a1 : _) (a2 : _) : SOk P (movedPointer a0 a1 a2) := ⟨by unfold movedPointer; exact sok⟩
instance {P : Program} (a0 : _) (a1 : _) (a2 : _) (a3 : _) (a4 : _) (a5 : _) : SOk P (eqGuard a0 a1 a2 a3 a4 a5) := ⟨by unfold eqGuard; exact sok⟩
instance {P : Program} (a0 : _) (a1 : _) (a2 : _) (a3 : _) : SOk P (binOp a0 a1 a2 a3) := ⟨by unfold binOp; exact sok⟩
instance {P : Program} (a0 : _) (a1 : _) (a2 : _) : SOk P (convert a0 a1 a2) := ⟨by unfold convert; exact sok⟩
instance {P : Program} (a0 : _) (a1 : _) : SOk P (Deferred.ofValue a0 a1) := ⟨by unfold Deferred.ofValue; exact sok⟩
instance {P : Program} (a0 : _) (a1 : _) (a2 : _) : SOk P (resolve a0 a1 a2) := ⟨by unfold resolve; exact sok⟩

instance {P : Program} (a : Array TypeId) (b : TypeId) (c : Array Value) : SOk P (Builtin.append_ a b c) := ⟨by
 unfold Builtin.append_
 split
 ·rename_i sType s x _
  refine sysOk_bind SOk.ok (fun d => ?_)
  split
  ·rename_i elem
   split
   ·refine sysOk_bind SOk.ok (fun size => ?_)
    extract_lets u0 jp
    have hu0 : ∀ r, SysOk P (u0 r) := fun r => by simp only [u0]; exact SOk.ok
    clear_value u0
    have hjp : ∀ z, SysOk P (jp z) := by
     intro z
     simp -zeta only [jp]
     extract_lets jp2
     have hjp2 : ∀ n, SysOk P (jp2 n) := by
      intro n
      simp -zeta only [jp2]
      refine sysOk_ite ?_ ?_
      ·refine sysOk_bind (sysOk_ite SOk.ok (sysOk_ite (sysOk_pure _) (sysOk_bind SOk.ok fun _ => sysOk_pure _))) (fun _ => ?_)
       exact sok
      ·refine sysOk_bind SOk.ok (fun _ => ?_)
       extract_lets jp4 jp3
       have hjp4 : ∀ r, SysOk P (jp4 r) := by
        intro r
        simp -zeta only [jp4]
        refine sysOk_bind SOk.ok (fun _ => sysOk_bind SOk.ok (fun _ => sysOk_bind SOk.ok (fun _ => sysOk_bind SOk.ok (fun _ => sysOk_bind (sysOk_ite SOk.ok (sysOk_ite (sysOk_pure _) (sysOk_bind SOk.ok fun _ => sysOk_pure _))) (fun _ => sysOk_bind SOk.ok (fun _ => ?_))))))
        exact sok
       clear_value jp4
       have hjp3 : ∀ r, SysOk P (jp3 r) := by
        intro r
        simp -zeta only [jp3]
        refine sysOk_bind SOk.ok (fun _ => ?_)
        exact sysOk_ite (sysOk_bind (sysOk_ite SOk.ok (sysOk_bind SOk.ok fun _ => sysOk_ite (sysOk_bind SOk.ok fun _ => hu0 _) (hu0 _))) fun _ => hjp4 _) (hjp4 _)
       clear_value jp3
       exact sysOk_ite (sysOk_bind SOk.ok fun _ => hjp3 _) (hjp3 _)
     clear_value jp2
     refine sysOk_ite (sysOk_bind SOk.ok fun _ => ?_) (sysOk_bind SOk.ok fun _ => hjp2 _)
     extract_lets l jp6 jp5
     have hjp6 : ∀ r, SysOk P (jp6 r) := by
      intro r
      simp -zeta only [jp6]
      exact sysOk_bind (sysOk_pure _) fun _ => hjp2 _
     clear_value jp6
     have hjp5 : ∀ r, SysOk P (jp5 r) := by
      intro r
      simp -zeta only [jp5]
      refine sysOk_bind SOk.ok (fun _ => ?_)
      exact sysOk_ite (sysOk_bind SOk.ok fun _ => sysOk_bind SOk.ok fun _ => hjp6 _) (hjp6 _)
     clear_value jp5
     exact sysOk_ite (sysOk_bind SOk.ok fun _ => hjp5 _) (hjp5 _)
    clear_value jp
    split
    ·exact sysOk_bind SOk.ok fun _ => sysOk_bind (sysOk_pure _) fun _ => hjp _
    ·exact sysOk_bind (sysOk_pure _) fun _ => hjp _
   ·exact SOk.ok
  ·exact SOk.ok
 ·exact SOk.ok⟩

end Go.Vel
end
section
set_option linter.all false
set_option maxRecDepth 20000
set_option maxHeartbeats 60000000
namespace Go.Vel
open Go

section
variable {P : Program}
theorem sysOk_forIn'_list {α β : Type} : ∀ (l : List α) (b : β) (f : (a : α) → a ∈ l → β → Sem (ForInStep β)), (∀ a h b, SysOk P (f a h b)) → SysOk P (forIn' l b f)
 | [], _, _, _ => trivial
 | a :: l, b, f, hf => by
  rw [List.forIn'_cons]
  refine sysOk_bind (hf a _ b) fun r => ?_
  cases r with
  | done b => trivial
  | yield b => exact sysOk_forIn'_list l b _ fun _ _ _ => hf _ _ _
theorem sysOk_forIn'_range {β : Type} (l : Std.Legacy.Range) (b : β) (f : (a : Nat) → a ∈ l → β → Sem (ForInStep β)) (hf : ∀ a h b, SysOk P (f a h b)) : SysOk P (forIn' l b f) := by
 rw [Std.Legacy.Range.forIn'_eq_forIn'_range']
 exact sysOk_forIn'_list _ _ _ fun _ _ _ => hf _ _ _
end

instance {P : Program} (ln : Bool) (c : Array Bool) (t : Array TypeId) (a : Array Value) : SOk P (Builtin.pieces ln c t a) := ⟨by
 unfold Builtin.pieces
 refine sysOk_bind (sysOk_forIn'_range _ _ _ fun i h b => ?_) fun _ => ?_
 ·extract_lets c1 out jp
  have hjp : ∀ u out, SysOk P (jp u out) := by
   intro u out
   simp -zeta only [jp]
   split
   ·refine sysOk_bind SOk.ok fun _ => sysOk_bind (sysOk_forIn_array (fun _ _ => ?_) _ _) fun _ => ?_
    ·exact trivial
    ·exact trivial
   ·exact sysOk_bind SOk.ok fun _ => trivial
  clear_value jp
  exact sysOk_ite (hjp _ _) (hjp _ _)
 ·dsimp only
  exact sysOk_ite trivial trivial⟩

/-- What holds of every result that the run can come to. -/
def Leaf {α : Type} (P : Program) (Q : α → Prop) : Sem α → Prop
 | .pure a => Q a
 | .load _ _ k => ∀ v, Leaf P Q (k v)
 | .store _ _ _ k => Leaf P Q k
 | .new _ k => ∀ r, Leaf P Q (k r)
 | .shape _ k => ∀ r, Leaf P Q (k r)
 | .freeze _ _ k => Leaf P Q k
 | .frozen _ k => ∀ r, Leaf P Q (k r)
 | .getObj _ k => ∀ r, Leaf P Q (k r)
 | .setObj _ _ k => Leaf P Q k
 | .choose _ k => ∀ r, Leaf P Q (k r)
 | .sys _ k => ∀ r, Leaf P Q (k r)
 | .program k => Leaf P Q (k P)
 | .mark _ k => Leaf P Q k
 | .halt _ => True

theorem leaf_bind {α β : Type} {P : Program} {Q : β → Prop} {s : Sem α} {f : α → Sem β} (hf : ∀ a, Leaf P Q (f a)) : Leaf P Q (s >>= f) := by
 show Leaf P Q (Sem.bind s f)
 induction s with
 | pure a => exact hf a
 | load m a k ih => exact fun v => ih v
 | store m a v k ih => exact ih
 | new o k ih => exact fun v => ih v
 | shape r k ih => exact fun v => ih v
 | freeze a n k ih => exact ih
 | frozen a k ih => exact fun v => ih v
 | getObj r k ih => exact fun v => ih v
 | setObj r o k ih => exact ih
 | choose q k ih => exact fun v => ih v
 | sys c k ih => exact fun v => ih v
 | program k ih => exact ih P
 | mark m k ih => exact ih
 | halt h => trivial

theorem runT_leaf {α : Type} {P : Program} {Q : α → Prop} (s : Sem α) : Leaf P Q s → ∀ (w : World) (es : Array Event) (a : α) (w' : World) (es' : Array Event), s.runT P w es = (.ok a w', es') → Q a := by
 induction s with
 | pure a => intro h w es a' w' es' e; simp only [Sem.runT, Prod.mk.injEq, Result.ok.injEq] at e; rw [← e.1.1]; exact h
 | load m a k ih =>
  intro h w es a' w' es' e
  simp only [Sem.runT] at e
  split at e
  ·exact ih _ (h _) _ _ _ _ _ e
  ·split at e
   ·exact ih _ (h _) _ _ _ _ _ e
   ·cases e
 | store m a v k ih =>
  intro h w es a' w' es' e
  have key : (∃ x, v = .agg x) ∨ (∃ x, v = .tuple x) ∨ Sem.runT P (.store m a v k) w es = match w.cell? a with
    | some _ =>
     if w.frozen? a then (.halt (.unsupported (.unsafePointer "a write to bytes that a string shares")) w, es)
     else k.runT P (w.setCell a v) (es.push ⟨.cell a, true, m == .atomic⟩)
    | none => match w.farStore P a v (m == .atomic) with
     | .ok (w, touched) => k.runT P w (es ++ touched.toArray.map (⟨.cell ·, true, m == .atomic⟩))
     | .error h => (.halt h w, es) := by
   cases v <;> first | exact .inl ⟨_, rfl⟩ | exact .inr (.inl ⟨_, rfl⟩) | exact .inr (.inr rfl)
  rcases key with ⟨x, rfl⟩ | ⟨x, rfl⟩ | key
  ·cases e
  ·cases e
  rw [key] at e
  split at e
  ·split at e
   ·cases e
   ·exact ih h _ _ _ _ _ e
  ·split at e
   ·exact ih h _ _ _ _ _ e
   ·cases e
 | new o k ih => exact fun h w es a' w' es' e => ih _ (h _) _ _ _ _ _ e
 | shape r k ih => exact fun h w es a' w' es' e => ih _ (h _) _ _ _ _ _ e
 | freeze a n k ih => exact fun h w es a' w' es' e => ih h _ _ _ _ _ e
 | frozen a k ih => exact fun h w es a' w' es' e => ih _ (h _) _ _ _ _ _ e
 | getObj r k ih =>
  intro h w es a' w' es' e
  simp only [Sem.runT] at e
  split at e
  ·cases e
  ·exact ih _ (h _) _ _ _ _ _ e
  ·cases e
 | setObj r o k ih =>
  intro h w es a' w' es' e
  simp only [Sem.runT] at e
  split at e
  ·cases e
  ·exact ih h _ _ _ _ _ e
  ·cases e
 | choose q k ih =>
  intro h w es a' w' es' e
  simp only [Sem.runT] at e
  split at e
  ·exact ih _ (h _) _ _ _ _ _ e
  ·exact ih _ (h _) _ _ _ _ _ e
 | sys c k ih => exact fun h w es a' w' es' e => ih _ (h _) _ _ _ _ _ e
 | program k ih => exact fun h w es a' w' es' e => ih _ h _ _ _ _ _ e
 | mark m k ih => exact fun h w es a' w' es' e => ih h _ _ _ _ _ e
 | halt h => intro _ w es a' w' es' e; cases e

/-- The outcomes of an operation that the machine of many takes as the machine of one does. -/
def NextOk : Next → Prop
 | .value _ | .skip | .enter _ _ | .round .. | .defer _ | .recover | .spawn _ | .comm .. | .coroswitch .. => True
 | .row r _ => r = "runtime.print$piece"
 | _ => False

/-- A program whose functions without a body yield values alone. -/
def Tame (P : Program) : Prop := ∀ (f : FuncId) (fn : Func), P.funcs[f]? = some fn → (fn.name == "runtime.NumGoroutine") = false ∧
 (fn.body.isNone = true → Extern.findNext fn = none ∧ ∀ e, Extern.find fn = some e → ∀ args, SysOk P (e args))

section
variable {P : Program}
theorem sysOk_program {α : Type} {f : Program → Sem α} (h : SysOk P (f P)) : SysOk P (program >>= f) := h
theorem leaf_program {α : Type} {Q : α → Prop} {f : Program → Sem α} (h : Leaf P Q (f P)) : Leaf P Q (program >>= f) := h
theorem leaf_ite {α : Type} {Q : α → Prop} {c : Prop} [Decidable c] {s t : Sem α} (h1 : Leaf P Q s) (h2 : Leaf P Q t) : Leaf P Q (if c then s else t) := by split <;> assumption
theorem leaf_v {s : Sem Value} : Leaf P NextOk (do pure (Next.value (← s))) := leaf_bind fun _ => trivial

theorem piece_ok (a b : Array TypeId) (c : Array Value) : SysOk P (Extern.PrintPieces.piece a b c) ∧ Leaf P NextOk (Extern.PrintPieces.piece a b c) := by
 have hheld : ∀ (k : Bool → Sem Next) (hk : ∀ b, SysD P (k b) 1), SysOk P (mark .disable >>= fun _ => Extern.PrintPieces.held >>= k) := by
  intro k hk v
  cases v <;> first | exact hk _ | exact trivial
 unfold Extern.PrintPieces.piece
 split
 ·split
  ·rename_i first _ _ p _
   constructor
   ·refine sysOk_ite (c := p.size > 65536) (sysOk_bind SOk.ok fun _ => ?_) ?_
    all_goals
     generalize (c.size == 2) = last
     cases first
     ·refine sysOk_bind SOk.ok fun _ => ?_
      cases last <;> trivial
     ·cases last
      ·refine hheld _ fun b => ?_
       cases b
       ·exact sysOk_bind (s := writeFd 2 p) SOk.ok fun _ => trivial
       ·exact trivial
      ·refine hheld _ fun b => ?_
       cases b
       ·exact sysOk_bind (s := writeFd 2 p) SOk.ok fun _ => trivial
       ·exact trivial
   ·refine leaf_ite (c := p.size > 65536) (leaf_bind fun _ => ?_) ?_
    all_goals
     generalize (c.size == 2) = last
     cases first
     ·refine leaf_bind fun _ => ?_
      cases last
      ·rfl
      ·trivial
     ·cases last
      all_goals
       refine leaf_bind fun _ => leaf_bind fun _ => leaf_ite ?_ ?_
       all_goals
        repeat (refine leaf_bind fun _ => ?_)
        first | rfl | trivial
  ·exact ⟨SOk.ok, trivial⟩
 ·exact ⟨SOk.ok, trivial⟩
theorem callFunc_ok (T : Tame P) (f : FuncId) (args : Array Value) : SysOk P (callFunc f args) ∧ Leaf P NextOk (callFunc f args) := by
 constructor
 ·refine sysOk_program ?_
  cases hf : P.funcs[f]? with
  | none => exact SOk.ok
  | some fn =>
   obtain ⟨h1, h2⟩ := T f fn hf
   simp only [h1, Bool.false_eq_true, if_false]
   by_cases hb : fn.body.isNone = true
   ·obtain ⟨h3, h4⟩ := h2 hb
    simp only [hb, if_true, h3]
    refine sysOk_bind SOk.ok fun _ => ?_
    cases he : Extern.find fn with
    | some e => exact sysOk_bind (h4 e he args) fun _ => trivial
    | none => exact sysOk_ite trivial SOk.ok
   ·simp only [hb, Bool.false_eq_true, if_false]
    trivial
 ·refine leaf_program ?_
  cases hf : P.funcs[f]? with
  | none => trivial
  | some fn =>
   obtain ⟨h1, h2⟩ := T f fn hf
   simp only [h1, Bool.false_eq_true, if_false]
   by_cases hb : fn.body.isNone = true
   ·obtain ⟨h3, h4⟩ := h2 hb
    simp only [hb, if_true, h3]
    refine leaf_bind fun _ => ?_
    cases he : Extern.find fn with
    | some e => exact leaf_v
    | none => exact leaf_ite trivial trivial
   ·simp only [hb, Bool.false_eq_true, if_false]
    trivial
theorem printMarked_ok (ln : Bool) (c : Array Bool) (t : Array TypeId) (a : Array Value) : SysOk P (Builtin.printMarked ln c t a) ∧ Leaf P NextOk (Builtin.printMarked ln c t a) := by
 unfold Builtin.printMarked
 exact ⟨sysOk_bind SOk.ok fun _ => sysOk_ite trivial (piece_ok _ _ _).1, leaf_bind fun _ => leaf_ite trivial (piece_ok _ _ _).2⟩
theorem v_ok (s : Sem Value) [h : SOk P s] : SysOk P (do pure (Next.value (← s))) ∧ Leaf P NextOk (do pure (Next.value (← s))) := ⟨sysOk_bind h.ok fun _ => trivial, leaf_v⟩
theorem u_ok (s : Sem Unit) [h : SOk P s] : SysOk P (do s; pure Next.skip) ∧ Leaf P NextOk (do s; pure Next.skip) := ⟨sysOk_bind h.ok fun _ => trivial, leaf_bind fun _ => trivial⟩
theorem builtin_ok (b : Builtin) (t : Array TypeId) (ty : TypeId) (c : Array Bool) (a : Array Value) : SysOk P (builtin b t ty c a) ∧ Leaf P NextOk (builtin b t ty c a) := by
 unfold builtin
 cases b <;> first | exact v_ok _ | exact printMarked_ok _ _ _ _ | exact ⟨trivial, trivial⟩ | exact ⟨SOk.ok, trivial⟩ | exact ⟨sysOk_bind SOk.ok fun _ => trivial, leaf_bind fun _ => trivial⟩
theorem callMethod_ok (T : Tame P) (r : Value) (n : String) (args : Array Value) : SysOk P (callMethod r n args) ∧ Leaf P NextOk (callMethod r n args) := by
 unfold callMethod
 split
 ·exact ⟨sysOk_program (sysOk_bind SOk.ok fun _ => (callFunc_ok T _ _).1), leaf_program (leaf_bind fun _ => (callFunc_ok T _ _).2)⟩
 ·exact ⟨SOk.ok, leaf_program trivial⟩
 ·exact ⟨SOk.ok, trivial⟩
theorem yield_ok (l : Nat) (args : Array Value) : SysOk P (Instr.yield l args) ∧ Leaf P NextOk (Instr.yield l args) := by
 unfold Instr.yield
 exact ⟨sysOk_bind SOk.ok fun _ => sysOk_ite (sysOk_bind SOk.ok fun _ => trivial) trivial, leaf_bind fun _ => leaf_ite (leaf_bind fun _ => trivial) trivial⟩
theorem invoke_ok (T : Tame P) (t : Target) (args : Array Value) : SysOk P (invoke t args) ∧ Leaf P NextOk (invoke t args) := by
 unfold invoke
 split
 ·exact ⟨SOk.ok, leaf_program trivial⟩
 ·exact builtin_ok _ _ _ _ _
 ·exact callFunc_ok T _ _
 ·split
  ·exact callMethod_ok T _ _ _
  ·exact ⟨SOk.ok, trivial⟩
 ·split
  ·refine ⟨sysOk_bind SOk.ok fun _ => ?_, leaf_bind fun _ => ?_⟩
   ·split <;> exact (callMethod_ok T _ _ _).1
   ·split <;> exact (callMethod_ok T _ _ _).2
  ·exact ⟨SOk.ok, trivial⟩
 ·split
  ·exact ⟨sysOk_bind SOk.ok fun _ => (callFunc_ok T _ _).1, leaf_bind fun _ => (callFunc_ok T _ _).2⟩
  ·exact ⟨SOk.ok, trivial⟩
 ·exact yield_ok _ _
 ·exact ⟨SOk.ok, trivial⟩
 ·exact ⟨trivial, trivial⟩
theorem execOp_ok (T : Tame P) (ρ : Operand → Value) (o : Oper) : SysOk P (execOp ρ o) ∧ Leaf P NextOk (execOp ρ o) := by
 unfold execOp
 extract_lets v u
 split
 all_goals first
  | exact ⟨trivial, trivial⟩
  | exact v_ok _
  | exact u_ok _
  | exact ⟨sysOk_bind SOk.ok fun _ => trivial, leaf_bind fun _ => trivial⟩
  | skip
 ·constructor
  ·repeat' (first | exact SOk.ok | trivial | (refine sysOk_bind ?_ fun _ => ?_) | (refine sysOk_ite ?_ ?_) | split)
  ·split <;> first | exact leaf_program trivial | trivial | skip
   split <;> first | exact leaf_program trivial | trivial | skip
   exact leaf_bind fun _ => leaf_bind fun _ => leaf_ite (leaf_bind fun _ => trivial) trivial
 ·exact ⟨sysOk_bind (sysOk_bind SOk.ok fun _ => SOk.ok) fun _ => trivial, leaf_v⟩
 ·exact ⟨sysOk_bind SOk.ok fun _ => (invoke_ok T _ _).1, leaf_bind fun _ => (invoke_ok T _ _).2⟩
 ·constructor
  ·refine sysOk_bind SOk.ok fun _ => ?_
   split
   ·exact sysOk_bind SOk.ok fun _ => trivial
   ·exact SOk.ok
  ·refine leaf_bind fun _ => ?_
   split
   ·exact leaf_bind fun _ => trivial
   ·trivial
 ·refine ⟨sysOk_bind (sysOk_array_mapM (fun _ => ?_) _) fun _ => trivial, leaf_bind fun _ => trivial⟩
  exact sysOk_bind SOk.ok fun _ => sysOk_pure _
end
end Go.Vel
end
section
set_option linter.all false
namespace Go.Vel
open Go Go.Conc

/-- What may stand on a goroutine's list. -/
def okI : Item → Prop
  | .call .. => False
  | .extern r _ => r = "runtime.print$piece"
  | _ => True
def okF (fr : Frame) : Prop := ∀ i ∈ fr.todo, okI i
def okG (g : Goroutine) : Prop := okF g.frame ∧ (∀ f ∈ g.callers, okF f) ∧ ∀ t, g.status ≠ .sleeping t

def setOn (s : GStep) (τ : Nat → Question → Nat) (d : Nat) : GStep :=
  match s with
  | .go g w es => .go g (on w τ d) es
  | .comm g c b sh w es => .comm g c b sh (on w τ d) es
  | .spawn g c w es => .spawn g c (on w τ d) es
  | .count g w es => .count g (on w τ d) es
  | .timer g o w es => .timer g o (on w τ d) es
  | .alone g b w es => .alone g b (on w τ d) es
  | .newcoro g c x w es => .newcoro g c x (on w τ d) es
  | .coroswitch g c e w es => .coroswitch g c e (on w τ d) es
  | .collect g w es => .collect g (on w τ d) es
  | .watch g w es => .watch g (on w τ d) es
  | .ended o w es => .ended o (on w τ d) es

theorem setOn_after (es : Array Event) (s : GStep) (τ : Nat → Question → Nat) (d : Nat) : GStep.after es (setOn s τ d) = setOn (GStep.after es s) τ d := by cases s <;> rfl

/-- As deaf behind them as ahead; every place that they name lies below n. -/
def Tidy (n : Nat) (es : Array Event) : Prop := Bal es ∧ Low n es
theorem tidy_nil {n : Nat} : Tidy n #[] := ⟨bal_nil, low_nil n⟩
theorem Tidy.mono {n m : Nat} {es : Array Event} (h : Tidy n es) (hm : n ≤ m) : Tidy m es := ⟨h.1, h.2.mono hm⟩
theorem Tidy.app {n : Nat} {es fs : Array Event} (h : Tidy n es) (k : Tidy n fs) : Tidy n (es ++ fs) := ⟨h.1.app k.1, h.2.app k.2⟩

def Res (w : World) : GStep → Prop
  | .go g w' es => okG g ∧ Tidy w'.heap.size es ∧ w.heap.size ≤ w'.heap.size
  | .comm g _ _ _ w' es => okG g ∧ Tidy w'.heap.size es ∧ w.heap.size ≤ w'.heap.size
  | .coroswitch g _ _ w' es => okG g ∧ Tidy w'.heap.size es ∧ w.heap.size ≤ w'.heap.size
  | .spawn .. | .ended .. => True
  | _ => False

theorem res_after {w : World} {n : Nat} {es : Array Event} (hn : n ≤ w.heap.size) (hb : Tidy n es) {s : GStep} (h : Res w s) : Res w (GStep.after es s) := by
  cases s <;> first | exact ⟨h.1, (hb.mono (Nat.le_trans hn h.2.2)).app h.2.1, h.2.2⟩ | exact h
theorem res_mono {w w1 : World} (hw : w.heap.size ≤ w1.heap.size) {s : GStep} (h : Res w1 s) : Res w s := by
  cases s <;> first | exact ⟨h.1, h.2.1, Nat.le_trans hw h.2.2⟩ | exact h

theorem seen_fold_bal (quiet : FuncId → Bool) : ∀ (l : List Event) (q : Bool) (kept : Array Event) (x : Nat), (∀ e ∈ l, ∀ m, e.loc = .mark m → e.sync = true) → deafBehind x (l.foldl (Go.Conc.seenStep quiet) (q, kept)).2 = deafBehind (deafBehind x kept) l.toArray := by
  intro l
  induction l with
  | nil => intro q kept x _; rfl
  | cons a l ih =>
    intro q kept x h
    have hl : ∀ e ∈ l, ∀ m, e.loc = .mark m → e.sync = true := fun e he => h e (List.mem_cons_of_mem _ he)
    rw [Go.ConcR.deafBehind_cons]
    simp only [List.foldl_cons, seenStep]
    split
    · rename_i f heq
      rw [ih _ _ _ hl, Go.ConcR.deafBehind_one (by simp [heq]) (by simp [heq])]
    · rw [ih _ _ _ hl]
      split
      · rename_i hq
        have hs : a.sync = false := by simp only [Bool.and_eq_true, Bool.not_eq_true'] at hq; exact hq.2
        have hm : ∀ m, a.loc ≠ .mark m := fun m hm => by
          have := h a List.mem_cons_self m hm
          rw [hs] at this; cases this
        rw [Go.ConcR.deafBehind_one (hm _) (hm _)]
      · rw [deafBehind_push]
theorem bal_seen0 {P : Program} {fn : FuncId} {es : Array Event} (hd : Said es) (hb : Bal es) : Bal (seen P fn es) := fun x => by
  rw [seen_def, seen_fold_bal _ _ _ _ _ fun e he => hd e (Array.mem_toList_iff.1 he)]
  exact hb x

theorem bal_seen {P : Program} {nn : Nat} {fn : FuncId} {es : Array Event} (hd : Said es) (hb : Tidy nn es) : Tidy nn (seen P fn es) := ⟨bal_seen0 hd hb.1, fun e he => hb.2 e (mem_seen he)⟩
theorem said_ite {c : Prop} [Decidable c] {es : Array Event} (h : Said es) : Said (if c then #[] else es) := by split <;> first | exact said_nil | exact h
theorem bal_ite {c : Prop} [Decidable c] {nn : Nat} {es : Array Event} (h : Tidy nn es) : Tidy nn (if c then #[] else es) := by split <;> first | exact tidy_nil | exact h

/-- A step that looks at the tape through its questions alone. -/
structure Fine (nn : Nat) (F : World → GStep) : Prop where
  shift : ∀ w τ d, (∃ k, ∀ τ' d', Agree τ d τ' d' k → ∃ o w' es, F (on w τ' d') = .ended o w' es) ∨ ∃ s k, F (on w τ d) = setOn s τ (d + k) ∧ ∀ τ' d', Agree τ d τ' d' k → F (on w τ' d') = setOn s τ' (d' + k)
  res : ∀ w, nn ≤ w.heap.size → Res w (F w)

theorem fine_const {nn : Nat} (s : World → GStep) (h : ∀ w τ d, s (on w τ d) = setOn (s w) τ d) (hr : ∀ w, nn ≤ w.heap.size → Res w (s w)) : Fine nn s :=
  ⟨fun w τ d => .inr ⟨s w, 0, h w τ d, fun τ' d' _ => h w τ' d'⟩, hr⟩
theorem fine_go {nn : Nat} {g : Goroutine} {es : Array Event} (h : okG g) (hb : Tidy nn es := by first | exact tidy_nil | assumption) : Fine nn fun w => .go g w es := fine_const _ (fun _ _ _ => rfl) fun _ hn => ⟨h, hb.mono hn, Nat.le_refl _⟩
theorem fine_ended {nn : Nat} {o : Outcome} {es : Array Event} : Fine nn fun w => .ended o w es := fine_const _ (fun _ _ _ => rfl) fun _ _ => trivial
theorem fine_after_end {nn : Nat} {o : Outcome} {es es' : Array Event} : Fine nn fun w => GStep.after es (.ended o w es') := fine_const _ (fun _ _ _ => rfl) fun _ _ => trivial
theorem fine_after {nn : Nat} {F : World → GStep} {es : Array Event} (h : Fine nn F) (hb : Tidy nn es := by first | exact tidy_nil | exact bal_seen said_nil tidy_nil | (refine bal_seen (by assumption) ?_; first | assumption | (rename_i hx; exact hx fun h => h))) : Fine nn fun w => GStep.after es (F w) := by
  refine ⟨fun w τ d => ?_, fun w hn => res_after hn hb (h.res w hn)⟩
  rcases h.shift w τ d with ⟨k, e⟩ | ⟨s, k, e1, e2⟩
  · exact .inl ⟨k, fun τ' d' hA => by
      obtain ⟨o, w', es', e⟩ := e τ' d' hA
      exact ⟨o, w', es ++ es', by simp only [e, GStep.after]⟩⟩
  · exact .inr ⟨GStep.after es s, k, by simp only [e1, setOn_after], fun τ' d' hA => by simp only [e2 τ' d' hA, setOn_after]⟩

/-- A family of steps that is fine, or that ends the run whatever the world. -/
def FineK (nn : Nat) (K : World → World → GStep) : Prop := (∀ w₀ w, ∃ o w' es, K w₀ w = .ended o w' es) ∨ ∃ F, Fine nn F ∧ ∀ w₀ w, K w₀ w = F w
theorem fineK {nn : Nat} {F : World → GStep} (h : Fine nn F) : FineK nn fun _ w => F w := .inr ⟨F, h, fun _ _ => rfl⟩

theorem fine_run2 {nn : Nat} {α : Type} {P : Program} {s : Sem α} {Q : α → Prop} (hs : SysOk P s) (hl : Leaf P Q s) (K : World → Result α → Array Event → GStep)
    (hok : ∀ a es nn, Q a → Said es → Tidy nn es → FineK nn fun w₀ w => K w₀ (.ok a w) es) (hh : ∀ h es nn, Said es → (¬ Stops h → Tidy nn es) → FineK nn fun w₀ w => K w₀ (.halt h w) es) (hb : ∀ h es w₀ w, Bad h → ∃ o w' es', K w₀ (.halt h w) es = .ended o w' es') :
    Fine nn fun w => K w (s.runT P w #[]).1 (s.runT P w #[]).2 := by
  have hF : ∀ (r : Result α) (es : Array Event), (∀ a w, r = .ok a w → Q a) → Said es → (GoesOn r → ∀ x, deafBehind x es = x) → Low (wOf r).heap.size es → (∃ a w, r = .ok a w ∧ FineK (wOf r).heap.size fun w₀ w => K w₀ (.ok a w) es) ∨ (∃ h w, r = .halt h w ∧ FineK (wOf r).heap.size fun w₀ w => K w₀ (.halt h w) es) := by
    intro r es hq hsd hbl hlo
    cases r with
    | ok a w => exact .inl ⟨a, w, rfl, hok a es _ (hq a w rfl) hsd ⟨hbl trivial, hlo⟩⟩
    | halt h w => exact .inr ⟨h, w, rfl, hh h es _ hsd fun hx => ⟨hbl hx, hlo⟩⟩
  have hB : ∀ w, Said (s.runT P w #[]).2 ∧ (GoesOn (s.runT P w #[]).1 → ∀ x, deafBehind x (s.runT P w #[]).2 = x) ∧ Low (wOf (s.runT P w #[]).1).heap.size (s.runT P w #[]).2 ∧ w.heap.size ≤ (wOf (s.runT P w #[]).1).heap.size := fun w =>
    runT_bal s 0 hs w #[] _ _ rfl said_nil (fun _ => rfl) (low_nil _)
  have hQ : ∀ w a w', (s.runT P w #[]).1 = .ok a w' → Q a := fun w a w' e => runT_leaf s hl w #[] a w' (s.runT P w #[]).2 (by rw [← e])
  refine ⟨fun w τ d => ?_, fun w _ => ?_⟩
  · rcases runT_on s 0 hs w #[] τ d with ⟨k, e⟩ | ⟨r, w', es', k1, e1, e2⟩
    · refine .inl ⟨k, fun τ' d' hA => ?_⟩
      obtain ⟨x, w', es', hx, e⟩ := e τ' d' hA
      rw [e]
      exact hb x es' _ w' hx
    · have hF' : ∃ m, FineK m fun w₀ w => K w₀ (outW r w) es' := by
        obtain ⟨b1, b2, b3, _⟩ := hB (on w τ d)
        have := hF _ _ (hQ (on w τ d)) b1 b2 b3
        rw [e1] at this
        rcases this with ⟨a, w₁, e, hf⟩ | ⟨h, w₁, e, hf⟩
        · cases r with
          | ok a' => cases e; exact ⟨_, hf⟩
          | error h => cases e
        · cases r with
          | ok a' => cases e
          | error h => cases e; exact ⟨_, hf⟩
      obtain ⟨m, hE | ⟨F, hF, hK⟩⟩ := hF'
      · refine .inl ⟨k1, fun τ' d' hA => ?_⟩
        rw [e2 τ' d' hA]
        exact hE _ _
      rcases hF.shift w' τ (d + k1) with ⟨k2, e⟩ | ⟨s', k2, g1, g2⟩
      · refine .inl ⟨k1 + k2, fun τ' d' hA => ?_⟩
        obtain ⟨o, w'', es'', e⟩ := e τ' (d' + k1) hA.tail
        exact ⟨o, w'', es'', by rw [e2 τ' d' (hA.le (by omega))]; exact (hK _ _).trans e⟩
      · refine .inr ⟨s', k1 + k2, by rw [e1]; refine (hK _ _).trans ?_; rw [← Nat.add_assoc]; exact g1, fun τ' d' hA => ?_⟩
        rw [e2 τ' d' (hA.le (by omega))]
        refine (hK _ _).trans ?_
        rw [← Nat.add_assoc]
        exact g2 τ' (d' + k1) hA.tail
  · obtain ⟨b1, b2, b3, b4⟩ := hB w
    have hk : ∀ (G : World → World → GStep) (w₀ w : World), FineK w.heap.size G → Res w (G w₀ w) := by
      rintro G w₀ w (hE | ⟨F, hF, hK⟩)
      · obtain ⟨o, w', es', e⟩ := hE w₀ w
        rw [e]; trivial
      · rw [hK]; exact hF.res w (Nat.le_refl _)
    rcases hF _ _ (hQ w) b1 b2 b3 with ⟨a, w₁, e, hf⟩ | ⟨h, w₁, e, hf⟩
    · rw [e] at hf b4 ⊢
      exact res_mono b4 (hk _ _ _ hf)
    · rw [e] at hf b4 ⊢
      exact res_mono b4 (hk _ _ _ hf)

theorem fine_run {nn : Nat} {α : Type} {P : Program} {s : Sem α} {Q : α → Prop} (hs : SysOk P s) (hl : Leaf P Q s) (K : Result α → Array Event → GStep)
    (hok : ∀ a es nn, Q a → Said es → Tidy nn es → Fine nn fun w => K (.ok a w) es) (hh : ∀ h es nn, Said es → (¬ Stops h → Tidy nn es) → Fine nn fun w => K (.halt h w) es) (hb : ∀ h es w, Bad h → ∃ o w' es', K (.halt h w) es = .ended o w' es') :
    Fine nn fun w => K (s.runT P w #[]).1 (s.runT P w #[]).2 :=
  fine_run2 hs hl (fun _ => K) (fun a es nn q h1 h2 => fineK (hok a es nn q h1 h2)) (fun h es nn h1 h2 => fineK (hh h es nn h1 h2)) (fun h es _ w b => hb h es w b)

theorem fine_run' {nn : Nat} {α : Type} {P : Program} {s : Sem α} {Q : α → Prop} (hs : SysOk P s) (hl : Leaf P Q s) (K : Result α → GStep)
    (hok : ∀ {nn} a, Q a → Fine nn fun w => K (.ok a w)) (hh : ∀ {nn} h, Fine nn fun w => K (.halt h w)) (hb : ∀ h w, Bad h → ∃ o w' es', K (.halt h w) = .ended o w' es') :
    Fine nn fun w => K (s.run P w) := by
  have := fine_run (nn := nn) hs hl (fun r _ => K r) (fun a _ _ h _ _ => hok a h) (fun h _ _ _ _ => hh h) (fun h _ w hb' => hb h w hb')
  have e : (fun w => K (s.run P w)) = fun w => K (s.runT P w #[]).1 := by funext w; rw [Sem.runT_eq]
  rw [e]; exact this

/-- The same, the step's own text left to the unifier. -/
theorem fine_runX {nn : Nat} {α : Type} {P : Program} {s : Sem α} {Q : α → Prop} {F : World → GStep} {K : Result α → Array Event → GStep} (hs : SysOk P s) (hl : Leaf P Q s)
    (hok : ∀ a es nn, Q a → Said es → Tidy nn es → Fine nn fun w => K (.ok a w) es) (hh : ∀ h es nn, Said es → (¬ Stops h → Tidy nn es) → Fine nn fun w => K (.halt h w) es) (hb : ∀ h es w, Bad h → ∃ o w' es', K (.halt h w) es = .ended o w' es')
    (hK : ∀ w r es, s.runT P w #[] = (r, es) → F w = K r es := by intro w r es hp; (first | rw [hp] | (dsimp only; rw [hp])) <;> rfl) : Fine nn F := by
  have e : F = fun w => K (s.runT P w #[]).1 (s.runT P w #[]).2 := funext fun w => hK w _ _ rfl
  rw [e]
  exact fine_run hs hl K hok hh hb
theorem fine_runX' {nn : Nat} {α : Type} {P : Program} {s : Sem α} {Q : α → Prop} {F : World → GStep} {K : Result α → GStep} (hs : SysOk P s) (hl : Leaf P Q s)
    (hok : ∀ {nn} a, Q a → Fine nn fun w => K (.ok a w)) (hh : ∀ {nn} h, Fine nn fun w => K (.halt h w)) (hb : ∀ h w, Bad h → ∃ o w' es', K (.halt h w) = .ended o w' es')
    (hK : ∀ w r, s.run P w = r → F w = K r := by intro w r hp; (first | rw [hp] | (dsimp only; rw [hp])) <;> rfl) : Fine nn F := by
  have e : F = fun w => K (s.run P w) := funext fun w => hK w _ rfl
  rw [e]
  exact fine_run' hs hl K hok hh hb
theorem fine_runX2 {nn : Nat} {α : Type} {P : Program} {s : Sem α} {Q : α → Prop} {F : World → GStep} {K : World → Result α → Array Event → GStep} (hs : SysOk P s) (hl : Leaf P Q s)
    (hok : ∀ a es nn, Q a → Said es → Tidy nn es → FineK nn fun w₀ w => K w₀ (.ok a w) es) (hh : ∀ h es nn, Said es → (¬ Stops h → Tidy nn es) → FineK nn fun w₀ w => K w₀ (.halt h w) es) (hb : ∀ h es w₀ w, Bad h → ∃ o w' es', K w₀ (.halt h w) es = .ended o w' es')
    (hK : ∀ w r es, s.runT P w #[] = (r, es) → F w = K w r es := by intro w r es hp; (first | rw [hp] | (dsimp only; rw [hp])) <;> rfl) : Fine nn F := by
  have e : F = fun w => K w (s.runT P w #[]).1 (s.runT P w #[]).2 := funext fun w => hK w _ _ rfl
  rw [e]
  exact fine_run2 hs hl K hok hh hb

theorem leaf_any {α : Type} {P : Program} (s : Sem α) : Leaf P (fun _ => True) s := by
  induction s with
  | pure a => trivial
  | load m a k ih => exact fun v => ih v
  | store m a v k ih => exact ih
  | new o k ih => exact fun v => ih v
  | shape r k ih => exact fun v => ih v
  | freeze a n k ih => exact ih
  | frozen a k ih => exact fun v => ih v
  | getObj r k ih => exact fun v => ih v
  | setObj r o k ih => exact ih
  | choose q k ih => exact fun v => ih v
  | sys c k ih => exact fun v => ih v
  | program k ih => exact ih P
  | mark m k ih => exact ih
  | halt h => trivial

/-! ### frames -/
theorem okF_code {fr : Frame} {l : List Item} (h : ∀ i ∈ l, okI i) (e : fr.todo = l) : okF fr := by unfold okF; rw [e]; exact h
theorem okF_mk {fr : Frame} (h : okF fr) {fr' : Frame} (e : fr'.todo = fr.todo) : okF fr' := by unfold okF; rw [e]; exact h
theorem okF_finish {fr : Frame} (h : okF fr) (v : Value) : okF (fr.finish v) := by
  unfold Frame.finish
  split
  · rename_i ops i rest k e
    refine okF_code (l := .inRegion ops rest :: k) (fun x hx => ?_) rfl
    rcases List.mem_cons.1 hx with rfl | hx
    · trivial
    · exact h x (by rw [e]; exact List.mem_cons_of_mem _ hx)
  · rename_i l k e
    refine okF_code (l := .endRangeFunc l :: k) (fun x hx => ?_) rfl
    rcases List.mem_cons.1 hx with rfl | hx
    · trivial
    · exact h x (by rw [e]; exact List.mem_cons_of_mem _ hx)
  · rename_i k e
    exact okF_code (l := k) (fun x hx => h x (by rw [e]; exact List.mem_cons_of_mem _ hx)) rfl
  · rename_i d wr resume saved k e
    exact (h (.call d wr resume saved) (by rw [e]; exact List.mem_cons_self)).elim
  · rename_i r a k e
    exact okF_code (l := k) (fun x hx => h x (by rw [e]; exact List.mem_cons_of_mem _ hx)) rfl
  · exact h
theorem okF_raise {fr : Frame} (h : okF fr) (vs : List PanicEntry) : okF (fr.raise vs) := by
  unfold Frame.raise
  split <;> exact h
theorem okF_enter (P : Program) (f : FuncId) (args : Array Value) (k : CallKind) : okF (Frame.enter P f args k) := by
  intro i hi
  simp only [Frame.enter, List.mem_singleton] at hi
  subst hi; trivial
theorem okF_round (l : Nat) (f : FuncId) (t : Array Value) (a b : Code) (k : CallKind) : okF (Frame.round l f t a b k) := by
  intro i hi
  simp only [Frame.round, List.mem_cons, List.not_mem_nil, or_false] at hi
  rcases hi with rfl | rfl | rfl <;> trivial
theorem okF_ofRow (P : Program) (args : Array Value) (k : CallKind) : okF (Frame.ofRow P "runtime.print$piece" args k) := by
  intro i hi
  simp only [Frame.ofRow, List.mem_singleton] at hi
  subst hi; rfl
theorem ok_exitTo {id : Nat} : ∀ {l k : List Item}, (∀ i ∈ l, okI i) → exitTo id l = some k → ∀ i ∈ k, okI i
  | [], _, _, e => by simp [exitTo] at e
  | x :: l, k, h, e => by
    have hl : ∀ i ∈ l, okI i := fun i hi => h i (List.mem_cons_of_mem _ hi)
    unfold exitTo at e
    split at e
    · rename_i id' k' heq
      simp only [List.cons.injEq] at heq
      obtain ⟨_, rfl⟩ := heq
      split at e
      · cases e; exact hl
      · exact ok_exitTo hl e
    · rename_i heq
      simp only [List.cons.injEq] at heq
      obtain ⟨_, rfl⟩ := heq
      exact ok_exitTo hl e
    · rename_i heq; cases heq
theorem ok_gotoIn {id : Nat} : ∀ {l k : List Item}, (∀ i ∈ l, okI i) → gotoIn id l = some k → ∀ i ∈ k, okI i
  | [], _, _, e => by simp [gotoIn] at e
  | x :: l, k, h, e => by
    have hl : ∀ i ∈ l, okI i := fun i hi => h i (List.mem_cons_of_mem _ hi)
    unfold gotoIn at e
    split at e
    · rename_i body k' heq
      simp only [List.cons.injEq] at heq
      obtain ⟨_, rfl⟩ := heq
      split at e
      · cases e
        intro i hi
        rcases List.mem_cons.1 hi with rfl | hi
        · trivial
        rcases List.mem_cons.1 hi with rfl | hi
        · trivial
        exact hl i hi
      · exact ok_gotoIn hl e
    · rename_i heq
      simp only [List.cons.injEq] at heq
      obtain ⟨_, rfl⟩ := heq
      exact ok_gotoIn hl e
    · rename_i heq; cases heq
theorem ok_tryRecover : ∀ {callers : List Frame} {fr : Frame} {v : Value} {cs : List Frame}, (∀ f ∈ callers, okF f) → tryRecover fr callers = some (v, cs) → ∀ f ∈ cs, okF f
  | [], fr, v, cs, _, e => by
    unfold tryRecover at e
    split at e <;> first | (rename_i heq; cases heq) | cases e
  | c :: rest, fr, v, cs, h, e => by
    have hc := h c List.mem_cons_self
    have hr : ∀ f ∈ rest, okF f := fun f hf => h f (List.mem_cons_of_mem _ hf)
    unfold tryRecover at e
    split at e
    · rename_i caller rest' _ heq
      simp only [List.cons.injEq] at heq
      obtain ⟨rfl, rfl⟩ := heq
      split at e
      · simp only [Option.some.injEq, Prod.mk.injEq] at e
        obtain ⟨_, rfl⟩ := e
        intro f hf
        rcases List.mem_cons.1 hf with rfl | hf
        · exact hc
        · exact hr f hf
      · cases e
    · rename_i wrapper rest' _ heq
      simp only [List.cons.injEq] at heq
      obtain ⟨rfl, rfl⟩ := heq
      obtain ⟨⟨v', cs'⟩, e', e''⟩ := Option.map_eq_some_iff.1 e
      simp only [Prod.mk.injEq] at e''
      obtain ⟨_, rfl⟩ := e''
      intro f hf
      rcases List.mem_cons.1 hf with rfl | hf
      · exact hc
      · exact ok_tryRecover hr e' f hf
    · cases e
theorem ok_tryRecoverLoop : ∀ {callers : List Frame} {l : Nat} {v : Value} {cs : List Frame}, (∀ f ∈ callers, okF f) → tryRecoverLoop l callers = some (v, cs) → ∀ f ∈ cs, okF f
  | [], l, v, cs, _, e => by simp [tryRecoverLoop] at e
  | c :: rest, l, v, cs, h, e => by
    have hc := h c List.mem_cons_self
    have hr : ∀ f ∈ rest, okF f := fun f hf => h f (List.mem_cons_of_mem _ hf)
    unfold tryRecoverLoop at e
    obtain ⟨⟨v', cs'⟩, e', e''⟩ := Option.map_eq_some_iff.1 e
    simp only [Prod.mk.injEq] at e''
    obtain ⟨_, rfl⟩ := e''
    intro f hf
    rcases List.mem_cons.1 hf with rfl | hf
    · exact hc
    split at e'
    · exact ok_tryRecoverLoop hr e' f hf
    · split at e'
      · exact ok_tryRecover hr e' f hf
      · exact ok_tryRecoverLoop hr e' f hf
    · exact ok_tryRecoverLoop hr e' f hf

/-! ### the steps -/
section
variable {P : Program}

theorem okG_mk {fr : Frame} {cs : List Frame} {st : GoStatus} {dy : Option Dying} {o : Option (Array CommCase × CommShape)} (h : okF fr) (hc : ∀ f ∈ cs, okF f) (hs : ∀ t, st ≠ .sleeping t := by first | assumption | (intro _ hx; cases hx)) : okG { frame := fr, callers := cs, status := st, dying := dy, offers := o } := ⟨h, hc, hs⟩

theorem doReturn_fine {nn : Nat} (main : Bool) {fr : Frame} {cs : List Frame} (dy : Option Dying) (v : Value) (h : okF fr) (hc : ∀ f ∈ cs, okF f) : Fine nn fun w => doReturn P main fr cs dy v w := by
  unfold doReturn
  cases cs with
  | cons c rest =>
    have h1 := hc c List.mem_cons_self
    have h2 : ∀ f ∈ rest, okF f := fun f hf => hc f (List.mem_cons_of_mem _ hf)
    dsimp only
    split
    · exact fine_go (okG_mk (okF_finish h1 v) h2)
    · exact fine_go (okG_mk (okF_finish h1 v) h2)
    · exact fine_go (okG_mk h1 h2)
    · refine fine_go (okG_mk ?_ h2)
      split
      · split
        · exact h1
        · exact h1
      · exact h1
  | nil =>
    have h2 : ∀ f ∈ ([] : List Frame), okF f := fun f hf => by cases hf
    dsimp only
    split
    · exact fine_go (okG_mk h h2)
    · exact fine_ended
    · split
      · exact fine_go (okG_mk h h2)
      · split
        · exact fine_go (okG_mk (okF_enter _ _ _ _) h2)
        · exact fine_ended

theorem endWith_fine {nn : Nat} (fd : Nat) (text : ByteArray) (o : Outcome) : Fine nn fun w => endWith w fd text o := by
  have hr : ∀ w, ∃ o' w' es, endWith w fd text o = .ended o' w' es := by
    intro w
    unfold endWith
    dsimp only
    split
    · split <;> exact ⟨_, _, _, rfl⟩
    · exact ⟨_, _, _, rfl⟩
    · exact ⟨_, _, _, rfl⟩
  refine ⟨fun w τ d => .inl ⟨0, fun _ _ _ => hr _⟩, fun w _ => ?_⟩
  obtain ⟨_, _, _, e⟩ := hr w
  rw [e]; trivial

theorem dieOf_fine {nn : Nat} {fr : Frame} (h : okF fr) (a : List ByteArray) (m : String) (wh : Bool) : Fine nn fun w => dieOf fr a m wh w := by
  unfold dieOf
  exact fine_go (okG_mk h fun f hf => by cases hf)
theorem endThrow_fine {nn : Nat} {fr : Frame} (h : okF fr) (m : String) : Fine nn fun w => endThrow fr m w := dieOf_fine h _ _ _
theorem endPrinting_fine {nn : Nat} {fr : Frame} (h : okF fr) (v : Value) : Fine nn fun w => endPrinting P fr v w := by
  unfold endPrinting
  dsimp only
  split
  · exact endThrow_fine h _
  · exact fine_ended

instance (e : ByteArray) : SOk P (withAddress e) := ⟨by unfold withAddress; exact sysOk_bind SOk.ok fun _ => sysOk_pure _⟩
theorem sysOk_reportChain : ∀ (l : List PanicEntry) (b : Bool), SysOk P (reportChain l b)
  | [], _ => trivial
  | e :: older, b => by
    have ih := sysOk_reportChain older
    unfold reportChain
    refine sysOk_ite (sysOk_ite SOk.ok (ih _)) ?_
    extract_lets mk jp
    have hjp : ∀ s, SysOk P (jp s) := fun s => by
      simp -zeta only [jp]
      exact sysOk_bind (ih _) fun _ => sysOk_pure _
    clear_value jp
    repeat' (first | exact hjp _ | exact SOk.ok | exact sysOk_pure _ | (refine sysOk_ite ?_ ?_) | (refine sysOk_bind ?_ fun _ => ?_) | split)
instance (l : List PanicEntry) (b : Bool) : SOk P (reportChain l b) := ⟨sysOk_reportChain l b⟩

theorem endFatal_fine {nn : Nat} {fr : Frame} (cs : List Frame) (dy : Option Dying) (m : String) (h : okF fr) : Fine nn fun w => endFatal P fr cs dy m w := by
  unfold endFatal
  extract_lets chain raw shown
  have hraw : ∀ l, SysOk P (raw l) := by
    intro l
    simp -zeta only [raw]
    refine sysOk_list_mapM (fun x => ?_) _
    repeat' (first | exact SOk.ok | trivial | (refine sysOk_bind ?_ fun _ => ?_) | split)
  have hs : SysOk P shown := by
    simp -zeta only [shown]
    clear_value raw chain
    cases dy <;> cases chain
    · exact sysOk_pure _
    · exact sysOk_bind SOk.ok fun _ => sysOk_bind (hraw _) fun _ => sysOk_pure _
    · exact sysOk_bind (hraw _) fun _ => sysOk_pure _
    · exact SOk.ok
  clear_value shown
  refine fine_runX' hs (leaf_any _) (fun a _ => ?_) (fun hh => ?_) (fun hh w hb => ?_)
  · exact dieOf_fine h _ _ _
  · cases hh <;> exact fine_ended
  · cases hh <;> exact ⟨_, _, _, rfl⟩

theorem held_ok {α : Type} (k : Bool → Sem α) (hk : ∀ b, SysD P (k b) 1) : SysOk P (mark .disable >>= fun _ => Extern.PrintPieces.held >>= k) := by
  intro v
  cases v <;> first | exact hk _ | exact trivial

theorem writeOn_fine {nn : Nat} {fr : Frame} (d : Dying) (f : Fatal) (h : okF fr) : Fine nn fun w => writeOn P fr d f w := by
  unfold writeOn
  extract_lets on'
  cases hp : f.pieces with
  | nil => exact fine_ended
  | cons piece rest =>
    dsimp -zeta only
    extract_lets j1 j2 j3 j4 write
    have h1 : ∀ r, SysOk P (j1 r) := fun r => by
      simp -zeta only [j1]
      refine ⟨⟨.unsupported (.noEntry "a report that its descriptor cannot take whole"), trivial, rfl⟩, fun x => ?_⟩
      cases x <;> first | exact sysOk_pure _ | exact SOk.ok (s := unsupported _) | exact sysOk_ite SOk.ok (sysOk_pure _)
    clear_value j1
    have h2 : ∀ r, SysOk P (j2 r) := fun r => by
      simp -zeta only [j2]
      exact sysOk_ite (sysOk_bind SOk.ok fun _ => h1 _) (h1 _)
    clear_value j2
    have h3 : ∀ r, SysD P (j3 r) 1 := fun r => by
      simp -zeta only [j3]
      exact h2 _
    clear_value j3
    have h4 : ∀ r, SysD P (j4 r) 1 := fun r => by
      simp -zeta only [j4]
      split
      · exact h3 _
      · exact h3 _
    clear_value j4
    have hw : SysOk P write := by
      simp -zeta only [write]
      refine sysOk_ite (held_ok _ fun b => ?_) (h2 _)
      cases b
      · exact h4 _
      · exact trivial
    clear_value write
    have hg : ∀ st f es {nn}, Tidy nn es → (∀ t, st ≠ .sleeping t) → Fine nn fun w => on' st f w es := fun st f es _ hb hst => fine_go (okG_mk h (fun f hf => by cases hf) hst)
    clear_value on'
    refine fine_runX hw (leaf_any _) (fun a es _ _ _ hb => ?_) (fun hh es nn hsd hbl => ?_) (fun hh es w hb => ?_)
    · exact hg _ _ _ hb fun _ hx => by cases hx
    · cases hh <;> first | exact hg _ _ _ tidy_nil (fun _ hx => by cases hx) | exact fine_ended
    · cases hh <;> first | exact hb.elim | exact ⟨_, _, _, rfl⟩

theorem die_fine {nn : Nat} (T : Tame P) {fr : Frame} (d : Dying) (h : okF fr) : Fine nn fun w => die P fr d w := by
  have hn : ∀ f ∈ ([] : List Frame), okF f := fun f hf => by cases hf
  unfold die
  cases d.fatal with
  | some f => exact writeOn_fine d f h
  | none =>
    dsimp only
    cases d.todo with
    | nil =>
      dsimp only
      by_cases hl : ∃ w : World, printLockHeld P w = true
      · refine ⟨fun w τ d' => ?_, fun w hnw => ?_⟩
        · have hp : ∀ τ d, printLockHeld P (on w τ d) = printLockHeld P w := fun _ _ => rfl
          by_cases hw : printLockHeld P w = true
          · right
            refine ⟨.go { frame := fr, callers := [], status := .blocked, dying := some d } w, 0, by simp only [hp, hw, if_true]; rfl, fun τ' d'' _ => by simp only [hp, hw, if_true]; rfl⟩
          · have hw' : printLockHeld P w = false := by simpa using hw
            simp only [hp, hw', Bool.false_eq_true, if_false]
            exact (endWith_fine (nn := nn) 2 _ _).shift w τ d'
        · split
          · exact ⟨okG_mk h hn, tidy_nil, Nat.le_refl _⟩
          · exact (endWith_fine 2 _ _).res w hnw
      · have : ∀ w, printLockHeld P w = false := fun w => by
          have := fun hw => hl ⟨w, hw⟩
          simpa using this
        simp only [this, Bool.false_eq_true, if_false]
        exact endWith_fine 2 _ _
    | cons x rest =>
      obtain ⟨v, mk⟩ := x
      dsimp only
      generalize panicText P false v = pt
      cases pt with
      | text s => exact fine_go (okG_mk h hn)
      | address s =>
        refine fine_runX' (P := P) (s := withAddress s) SOk.ok (leaf_any _) (fun a _ => ?_) (fun hh => ?_) (fun hh w _ => ?_)
        · exact fine_go (okG_mk h hn)
        · exact fine_ended
        · exact ⟨_, _, _, rfl⟩
      | call t recv name =>
        dsimp only
        refine fine_runX2 (s := invoke (.fn (.method name) #[]) #[.iface t recv]) (invoke_ok T _ _).1 (invoke_ok T _ _).2 (fun a es nn _ hsd hbl => ?_) (fun hh es nn hsd hbl => ?_) (fun hh es w₀ w hb => ?_)
        · cases a with
          | enter f args => (try dsimp only); exact fineK (fine_after (fine_go (okG_mk (okF_enter _ _ _ _) hn)))
          | value v =>
            cases v with
            | string s => (try dsimp only); exact fineK (fine_after (fine_go (okG_mk h hn)))
            | _ => exact .inl fun _ _ => ⟨_, _, _, rfl⟩
          | _ => exact .inl fun _ _ => ⟨_, _, _, rfl⟩
        · cases hh with
          | unsupported u => (try dsimp only); exact fineK (fine_after_end)
          | panic v => (try dsimp only); exact fineK (fine_after (endPrinting_fine h v) (bal_seen hsd (hbl id)))
          | _ => exact .inl fun _ _ => ⟨_, _, _, rfl⟩
        · cases hh <;> first | exact hb.elim | exact ⟨_, _, _, rfl⟩
      | no u => exact fine_ended

/-- What is asked of the world is none of the tape's. -/
theorem fine_ask {nn : Nat} {α : Type} (c : World → α) (hc : ∀ w τ d, c (on w τ d) = c w) (F : α → World → GStep) (h : ∀ a, Fine nn (F a)) : Fine nn fun w => F (c w) w := by
  refine ⟨fun w τ d => ?_, fun w hn => (h _).res w hn⟩
  rcases (h (c w)).shift w τ d with ⟨k, e⟩ | ⟨s, k, e1, e2⟩
  · exact .inl ⟨k, fun τ' d' hA => by rw [hc]; exact e τ' d' hA⟩
  · exact .inr ⟨s, k, by rw [hc]; exact e1, fun τ' d' hA => by rw [hc]; exact e2 τ' d' hA⟩

theorem fine_ite {nn : Nat} {c : Prop} [Decidable c] {F G : World → GStep} (h1 : c → Fine nn F) (h2 : ¬ c → Fine nn G) : Fine nn fun w => if c then F w else G w := by
  by_cases h : c
  · simp only [h, if_true]; exact h1 h
  · simp only [h, if_false]; exact h2 h

theorem found_on (w : World) (τ : Nat → Question → Nat) (d : Nat) : ∀ (n : Nat) (f : FuncId), P.found (on w τ d) n f = P.found w n f := by
  intro n
  induction n with
  | zero => intro f; rfl
  | succ n ih =>
    intro f
    unfold Program.found
    simp only [ih]
    rfl
theorem brought_on (w : World) (τ : Nat → Question → Nat) (d : Nat) : ∀ (n : Nat) (l s : List FuncId), P.brought (on w τ d) n l s = P.brought w n l s := by
  intro n
  induction n with
  | zero => intro l s; rfl
  | succ n ih =>
    intro l s
    cases l with
    | nil => rfl
    | cons f l =>
      unfold Program.brought
      simp only [ih]
      rfl
theorem fine_iteW {nn : Nat} {c : World → Bool} (hc : ∀ w τ d, c (on w τ d) = c w) {F G : World → GStep} (h1 : Fine nn F) (h2 : Fine nn G) : Fine nn fun w => if c w = true then F w else G w :=
  fine_ask c hc (fun b w => if b = true then F w else G w) fun _ => fine_ite (fun _ => h1) (fun _ => h2)
theorem fine_askX {nn : Nat} {α : Type} (c : World → α) (hc : ∀ w τ d, c (on w τ d) = c w) {F : World → GStep} {K : α → World → GStep} (h : ∀ a, Fine nn (K a)) (hK : ∀ w a, c w = a → F w = K a w := by intro w a hp; (first | rw [hp] | (dsimp only at hp ⊢; rw [hp])) <;> rfl) : Fine nn F := by
  have e : F = fun w => K (c w) w := funext fun w => hK w _ rfl
  rw [e]
  exact fine_ask c hc K h

theorem early_fine {nn : Nat} {fr : Frame} {cs : List Frame} (dy : Option Dying) (g : Nat) (h : okF fr) (hc : ∀ f ∈ cs, okF f) : Fine nn fun w => early P fr cs dy g w := by
  have hb : ∀ (f : FuncId) (l : List FuncId), ∀ x ∈ l.map (Frame.enter P · #[] .early) ++ fr :: cs, okF x := fun f l x hx => by
    rcases List.mem_append.1 hx with hx | hx
    · obtain ⟨y, _, rfl⟩ := List.mem_map.1 hx
      exact okF_enter _ _ _ _
    · rcases List.mem_cons.1 hx with rfl | hx
      · exact h
      · exact hc _ hx
  unfold early
  refine fine_ite (fun _ => ?_) (fun _ => ?_)
  · refine fine_const _ (fun w τ d => ?_) (fun w _ => ?_)
    · rw [show (on w τ d).heap = w.heap from rfl]
      split <;> rfl
    · split
      · exact ⟨okG_mk h hc, tidy_nil, by simp⟩
      · trivial
  cases P.stepOf g with
  | none => exact fine_ended
  | some f =>
    refine fine_ite (fun _ => ?_) (fun _ => ?_)
    · refine fine_const _ (fun w τ d => ?_) (fun w _ => ?_)
      · rw [show (on w τ d).heap = w.heap from rfl]
        split <;> rfl
      · split
        · exact ⟨okG_mk h hc, tidy_nil, by simp⟩
        · trivial
    refine fine_iteW (fun _ _ _ => rfl) ?_ ?_
    · refine fine_const _ (fun w τ d => ?_) (fun w _ => ?_)
      · rw [show (on w τ d).heap = w.heap from rfl]
        split <;> rfl
      · split
        · exact ⟨okG_mk h hc, tidy_nil, by simp⟩
        · trivial
    refine fine_askX (fun w => P.found w P.funcs.size f) (fun _ _ _ => found_on _ _ _ _ _) (fun x => ?_)
    cases x <;> cases (fr.kind == .early) <;> dsimp only
    all_goals first
      | exact fine_ended
      | exact fine_const _ (fun w τ d => by rw [brought_on]; rfl) (fun w _ => ⟨okG_mk (okF_enter _ _ _ _) (hb f _), tidy_nil, Nat.le_refl _⟩)
      | (refine fine_const _ (fun w τ d => ?_) (fun w _ => ?_)
         · rw [show (on w τ d).heap = w.heap from rfl]
           split <;> rfl
         · split
           · exact ⟨okG_mk h hc, tidy_nil, by simp⟩
           · trivial)
      | skip
    refine fine_ite (fun _ => ?_) (fun _ => ?_)
    · exact fine_const _ (fun w τ d => by rw [brought_on]; rfl) (fun w _ => ⟨okG_mk (okF_enter _ _ _ _) (hb f _), tidy_nil, Nat.le_refl _⟩)
    refine fine_ite (fun _ => ?_) (fun _ => ?_)
    · refine fine_const _ (fun w τ d => ?_) (fun w _ => ?_)
      · rw [show (on w τ d).heap = w.heap from rfl]
        split <;> rfl
      · split
        · exact ⟨okG_mk h hc, tidy_nil, by simp⟩
        · trivial
    refine fine_runX' (P := P) (s := choose (.early g)) SOk.ok (leaf_any _) (fun a _ => ?_) (fun hh => ?_) (fun hh w _ => ?_)
    rotate_left
    · exact fine_ended
    · exact ⟨_, _, _, rfl⟩
    cases a with
    | zero =>
      simp only
      refine fine_const _ (fun w τ d => ?_) (fun w _ => ?_)
      · rw [show (on w τ d).heap = w.heap from rfl]
        split <;> rfl
      · split
        · exact ⟨okG_mk h hc, tidy_nil, by simp⟩
        · trivial
    | succ a =>
      simp only
      exact fine_const _ (fun w τ d => by rw [brought_on]; rfl) (fun w _ => ⟨okG_mk (okF_enter _ _ _ _) (hb f _), tidy_nil, Nat.le_refl _⟩)

theorem apply_fine {nn : Nat} {fr : Frame} {cs : List Frame} (dy : Option Dying) (s : Sem Next) (hs : SysOk P s ∧ Leaf P NextOk s) (h : okF fr) (hc : ∀ f ∈ cs, okF f) : Fine nn fun w => stepG.apply P true fr cs dy s w := by
  have hcc : ∀ f ∈ fr :: cs, okF f := fun f hf => by
    rcases List.mem_cons.1 hf with rfl | hf
    · exact h
    · exact hc f hf
  unfold stepG.apply
  simp only [if_true]
  refine fine_runX hs.1 hs.2 (fun a es nn q hsd hbl => ?_) (fun hh es nn hsd hbl => ?_) (fun hh es w hb => ?_)
  · dsimp only
    (try dsimp only); refine fine_after ?_ (bal_seen (said_ite hsd) (bal_ite hbl))
    cases a with
    | value v => exact fine_go (okG_mk (okF_finish h v) hc)
    | skip => exact fine_go (okG_mk (okF_finish h _) hc)
    | enter f args => exact fine_go (okG_mk (okF_enter _ _ _ _) hcc)
    | round l f t a b => exact fine_go (okG_mk (okF_round _ _ _ _ _ _) hcc)
    | defer d => exact fine_go (okG_mk (okF_finish (fr := { fr with defers := d :: fr.defers }) h undef) hc)
    | recover =>
      have hr1 : ∀ x, tryRecover fr cs = some x → ∀ f ∈ x.2, okF f := fun x e => ok_tryRecover hc e
      have hr2 : ∀ l x, tryRecoverLoop l cs = some x → ∀ f ∈ x.2, okF f := fun l x e => ok_tryRecoverLoop hc e
      dsimp only
      cases fr.roundOf with
      | none =>
        dsimp only
        cases e : tryRecover fr cs with
        | none => exact fine_go (okG_mk (okF_finish h _) hc)
        | some x => exact fine_go (okG_mk (okF_finish h _) (hr1 x e))
      | some l =>
        dsimp only
        cases P.follows .rangeFuncRecover with
        | true =>
          simp only [if_true]
          cases e : tryRecover fr cs with
          | none => exact fine_go (okG_mk (okF_finish h _) hc)
          | some x => exact fine_go (okG_mk (okF_finish h _) (hr1 x e))
        | false =>
          simp only [Bool.false_eq_true, if_false]
          cases e : tryRecoverLoop l cs with
          | none => exact fine_go (okG_mk (okF_finish h _) hc)
          | some x => exact fine_go (okG_mk (okF_finish h _) (hr2 l x e))
    | spawn d =>
      refine fine_ite (fun _ => endThrow_fine h _) (fun _ => ?_)
      exact fine_const _ (fun _ _ _ => rfl) fun _ _ => trivial
    | comm c b s => exact fine_const _ (fun _ _ _ => rfl) fun _ _ => ⟨okG_mk h hc, tidy_nil, Nat.le_refl _⟩
    | coroswitch c e => exact fine_const _ (fun _ _ _ => rfl) fun _ _ => ⟨okG_mk h hc, tidy_nil, Nat.le_refl _⟩
    | row r args =>
      have hq : r = "runtime.print$piece" := q
      subst hq
      dsimp only
      split
      · rename_i k e
        refine fine_go (okG_mk (fun i hi => ?_) hc)
        rcases List.mem_cons.1 hi with rfl | hi
        · rfl
        · exact h i (by rw [e]; exact List.mem_cons_of_mem _ hi)
      · exact fine_go (okG_mk (okF_ofRow _ _ _) hcc)
    | _ => exact q.elim
  · cases hh with
    | panic v => dsimp only; exact fine_after (fine_go (okG_mk (okF_raise h _) hc)) (bal_seen (said_ite hsd) (bal_ite (hbl id)))
    | goexit => dsimp only; exact fine_after (fine_go (okG_mk (okF_raise h _) hc)) (bal_seen (said_ite hsd) (bal_ite (hbl id)))
    | blocked => dsimp only; exact fine_after (fine_go (okG_mk h hc)) (bal_seen (said_ite said_nil) (bal_ite tidy_nil))
    | waiting => dsimp only; exact fine_after (fine_go (okG_mk h hc)) (bal_seen (said_ite said_nil) (bal_ite tidy_nil))
    | exit c => dsimp only; exact fine_after_end
    | fatal m => dsimp only; exact fine_after (endFatal_fine _ _ _ h) (bal_seen (said_ite hsd) (bal_ite (hbl id)))
    | throw m => dsimp only; exact fine_after (endThrow_fine h _) (bal_seen (said_ite hsd) (bal_ite (hbl id)))
    | unsupported u =>
      cases u with
      | initOrder g => dsimp only; exact fine_after (early_fine _ _ h hc) (bal_seen (said_ite said_nil) (bal_ite tidy_nil))
      | _ => dsimp only; exact fine_after_end
    | stuck s => dsimp only; exact fine_after_end
  · cases hh with
    | unsupported u => cases u <;> first | exact hb.elim | exact ⟨_, _, _, rfl⟩
    | stuck s => exact ⟨_, _, _, rfl⟩
    | _ => exact hb.elim

theorem callDeferred_fine {nn : Nat} (T : Tame P) {fr : Frame} {cs : List Frame} (dy : Option Dying) (d : Deferred) (h : okF fr) (hc : ∀ f ∈ cs, okF f) : Fine nn fun w => callDeferred P fr cs dy d w := by
  have hcc : ∀ f ∈ fr :: cs, okF f := fun f hf => by
    rcases List.mem_cons.1 hf with rfl | hf
    · exact h
    · exact hc f hf
  unfold callDeferred
  refine fine_ite (fun _ => fine_ended) (fun _ => ?_)
  refine fine_runX (invoke_ok T d.target d.args).1 (invoke_ok T d.target d.args).2 (fun a es nn q hsd hbl => ?_) (fun hh es nn hsd hbl => ?_) (fun hh es w hb => ?_)
  · dsimp only
    (try dsimp only); refine fine_after ?_
    cases a with
    | enter f args => exact fine_go (okG_mk (okF_enter _ _ _ _) hcc)
    | round l f t a b => exact fine_go (okG_mk (okF_round _ _ _ _ _ _) hcc)
    | recover =>
      dsimp only
      have hr : ∀ v (cs' : List Frame), tryRecover fr cs = some (v, cs') → ∀ f ∈ cs', okF f := fun v cs' e => ok_tryRecover hc e
      revert hr
      generalize tryRecover fr cs = o
      intro hr
      cases fr.mode with
      | returning => cases o with
        | none => exact fine_go (okG_mk h hc)
        | some x => exact fine_go (okG_mk h (hr x.1 x.2 rfl))
      | _ => exact fine_go (okG_mk h hc)
    | coroswitch c e => cases e with
      | true => exact fine_const _ (fun _ _ _ => rfl) fun _ _ => ⟨okG_mk h hc, tidy_nil, Nat.le_refl _⟩
      | false => exact fine_ended
    | row r args =>
      have hq : r = "runtime.print$piece" := q
      subst hq
      exact fine_go (okG_mk (okF_ofRow _ _ _) hcc)
    | value v => exact fine_go (okG_mk h hc)
    | skip => exact fine_go (okG_mk h hc)
    | defer d => exact fine_go (okG_mk h hc)
    | spawn d => exact fine_go (okG_mk h hc)
    | comm c b s => exact fine_go (okG_mk h hc)
    | _ => exact q.elim
  · cases hh with
    | panic v => dsimp only; exact fine_after (fine_go (okG_mk (okF_raise h _) hc)) (bal_seen hsd (hbl id))
    | goexit => dsimp only; exact fine_after (fine_go (okG_mk (okF_raise h _) hc)) (bal_seen hsd (hbl id))
    | blocked => dsimp only; exact fine_after (fine_go (okG_mk (okF_mk h rfl) hc))
    | waiting => dsimp only; exact fine_after (fine_go (okG_mk (okF_mk h rfl) hc))
    | exit c => dsimp only; exact fine_after_end
    | fatal m => dsimp only; exact fine_after (endFatal_fine _ _ _ h) (bal_seen hsd (hbl id))
    | throw m => dsimp only; exact fine_after (endThrow_fine h _) (bal_seen hsd (hbl id))
    | unsupported u => dsimp only; exact fine_after_end
    | stuck s => dsimp only; exact fine_after_end
  · cases hh with
    | unsupported u => exact ⟨_, _, _, rfl⟩
    | stuck s => exact ⟨_, _, _, rfl⟩
    | _ => exact hb.elim

theorem sysOk_results (fn : Func) (t : Array Value) : SysOk P (results fn t) := by
  unfold results
  refine sysOk_bind (sysOk_array_mapM (fun x => ?_) _) fun _ => sysOk_pure _
  cases x with
  | tmp t => exact sysOk_pure _
  | cell a t => exact sysOk_bind SOk.ok fun _ => SOk.ok

theorem unwind_fine {nn : Nat} (T : Tame P) (main : Bool) {fr : Frame} {cs : List Frame} (dy : Option Dying) (h : okF fr) (hc : ∀ f ∈ cs, okF f) : Fine nn fun w => unwind P main fr cs dy w := by
  have hn : ∀ f ∈ ([] : List Frame), okF f := fun f hf => by cases hf
  unfold unwind
  cases hd : fr.defers with
  | cons d ds =>
    obtain ⟨t, args⟩ := d
    cases t with
    | collected block =>
      refine fine_runX (P := P) (s := Instr.takeDeferred block) SOk.ok (leaf_any _) (fun a es nn _ hsd hbl => ?_) (fun hh es _ _ _ => ?_) (fun hh es w hb => ?_)
      · (try dsimp only); exact fine_after (fine_go (okG_mk (okF_mk h rfl) hc))
      · (try dsimp only); exact fine_after_end
      · exact ⟨_, _, _, rfl⟩
    | _ => exact callDeferred_fine T dy _ (okF_mk h rfl) hc
  | nil =>
    cases hm : fr.mode with
    | run => exact fine_ended
    | panicking chain =>
      dsimp only
      refine fine_ite (fun _ => fine_ended) (fun _ => ?_)
      cases cs with
      | cons c rest => exact fine_go (okG_mk (okF_raise (hc c List.mem_cons_self) _) fun f hf => hc f (List.mem_cons_of_mem _ hf))
      | nil =>
        cases dy with
        | none =>
          refine fine_ite (fun _ => fine_go (okG_mk h hn)) (fun _ => ?_)
          refine fine_runX' (P := P) (s := reportChain chain false) SOk.ok (leaf_any _) (fun a _ => ?_) (fun hh => ?_) (fun hh w _ => ?_)
          · exact fine_go (okG_mk h hn)
          · cases hh <;> exact fine_ended
          · cases hh <;> exact ⟨_, _, _, rfl⟩
        | some d =>
          cases chain with
          | nil => exact fine_ended
          | cons e l =>
            obtain ⟨v, r, g⟩ := e
            cases g with
            | false => exact endPrinting_fine h v
            | true => exact fine_ended
    | returning =>
      dsimp only
      cases P.funcs[fr.fn]? with
      | none => exact doReturn_fine main dy _ h hc
      | some fn =>
        refine fine_runX (P := P) (s := results fn fr.tmps) (sysOk_results _ _) (leaf_any _) (fun a es nn _ hsd hbl => ?_) (fun hh es nn hsd hbl => ?_) (fun hh es w hb => ?_)
        · (try dsimp only); exact fine_after (doReturn_fine main dy a h hc)
        · cases hh <;> (dsimp only; exact fine_after_end)
        · cases hh <;> exact ⟨_, _, _, rfl⟩

theorem exec_fine {nn : Nat} (T : Tame P) (main : Bool) {fr : Frame} {cs : List Frame} (dy : Option Dying) (h : okF fr) (hc : ∀ f ∈ cs, okF f) : Fine nn fun w => stepG.exec P main true fr cs dy w := by
  have to : ∀ {nn} (l : List Item), (∀ i ∈ l, okI i) → Fine nn fun w => (.go { frame := { fr with todo := l }, callers := cs, status := .running, dying := dy } w : GStep) := fun {_} l hl => fine_go (okG_mk (okF_code hl rfl) hc)
  obtain ⟨fn, tmps, todo, defers, mode, kind, roundOf⟩ := fr
  cases todo with
  | nil =>
    unfold stepG.exec
    dsimp only
    cases roundOf with
    | none => first | exact fine_go (okG_mk (okF_mk h rfl) hc) | exact fine_ended
    | some l =>
      dsimp only
      refine fine_runX (P := P) (s := Instr.endRound l _) SOk.ok (leaf_any _) (fun a es nn _ hsd hbl => ?_) (fun hh es _ _ _ => ?_) (fun hh es w hb => ?_)
      · (try dsimp only); exact fine_after (doReturn_fine main dy a h hc)
      · (try dsimp only); exact fine_after_end
      · exact ⟨_, _, _, rfl⟩
  | cons x k =>
    have hk : ∀ i ∈ k, okI i := fun i hi => h i (List.mem_cons_of_mem _ hi)
    have hx : okI x := h x List.mem_cons_self
    have h2 : ∀ a : Item, okI a → ∀ i ∈ a :: k, okI i := fun a ha i hi => by
      rcases List.mem_cons.1 hi with rfl | hi
      · exact ha
      · exact hk i hi
    have h3 : ∀ a b : Item, okI a → okI b → ∀ i ∈ a :: b :: k, okI i := fun a b ha hb i hi => by
      rcases List.mem_cons.1 hi with rfl | hi
      · exact ha
      · exact h2 b hb i hi
    unfold stepG.exec
    cases x with
    | code c =>
      cases c with
      | skip => exact to _ hk
      | label l => exact to _ hk
      | seq a b => exact to _ (h3 _ _ trivial trivial)
      | cond c a b =>
        dsimp only
        split
        · exact to _ (h2 _ trivial)
        · exact fine_ended
      | block i b => exact to _ (h3 _ _ trivial trivial)
      | loop b => exact to _ (h3 _ _ trivial trivial)
      | scope b => exact to _ (h3 _ _ trivial trivial)
      | ret =>
        dsimp only
        cases roundOf with
        | none => first | exact fine_go (okG_mk (okF_mk h rfl) hc) | exact fine_ended
        | some l =>
          dsimp only
          refine fine_runX (P := P) (s := Instr.endRound l _) SOk.ok (leaf_any _) (fun a es nn _ hsd hbl => ?_) (fun hh es _ _ _ => ?_) (fun hh es w hb => ?_)
          · (try dsimp only); exact fine_after (doReturn_fine main dy a h hc)
          · (try dsimp only); exact fine_after_end
          · exact ⟨_, _, _, rfl⟩
      | exit i =>
        dsimp only
        cases e : exitTo i k with
        | none =>
          try dsimp only
          cases roundOf with
          | none => first | exact fine_go (okG_mk (okF_mk h rfl) hc) | exact fine_ended
          | some l =>
            dsimp only
            refine fine_runX (P := P) (s := Instr.endRound l _) SOk.ok (leaf_any _) (fun a es nn _ hsd hbl => ?_) (fun hh es _ _ _ => ?_) (fun hh es w hb => ?_)
            · (try dsimp only); exact fine_after (doReturn_fine main dy a h hc)
            · (try dsimp only); exact fine_after_end
            · exact ⟨_, _, _, rfl⟩
        | some k' => exact to _ (ok_exitTo hk e)
      | goto i =>
        dsimp only
        cases e : gotoIn i k with
        | none =>
          try dsimp only
          cases roundOf with
          | none => first | exact fine_go (okG_mk (okF_mk h rfl) hc) | exact fine_ended
          | some l =>
            dsimp only
            refine fine_runX (P := P) (s := Instr.endRound l _) SOk.ok (leaf_any _) (fun a es nn _ hsd hbl => ?_) (fun hh es _ _ _ => ?_) (fun hh es w hb => ?_)
            · (try dsimp only); exact fine_after (doReturn_fine main dy a h hc)
            · (try dsimp only); exact fine_after_end
            · exact ⟨_, _, _, rfl⟩
        | some k' => exact to _ (ok_gotoIn hk e)
      | refuse s => exact fine_ended
      | region id ops draw =>
        cases draw with
        | false => exact to _ (h2 _ trivial)
        | true =>
          refine fine_runX' (P := P) (s := choose (.order fn id)) SOk.ok (leaf_any _) (fun a _ => ?_) (fun hh => ?_) (fun hh w _ => ?_)
          · exact to _ (h2 _ trivial)
          · exact fine_ended
          · exact ⟨_, _, _, rfl⟩
      | rangeFunc f params assign body =>
        refine fine_runX (P := P) (s := Instr.enterLoop fn tmps params assign body roundOf) SOk.ok (leaf_any _) (fun a es nn _ hsd hbl => ?_) (fun hh es nn hsd hbl => ?_) (fun hh es w hb => ?_)
        rotate_left
        · (try dsimp only); exact fine_after_end
        · exact ⟨_, _, _, rfl⟩
        (try dsimp only); refine fine_after (apply_fine _ _ ⟨sysOk_bind SOk.ok fun _ => (invoke_ok T _ _).1, leaf_bind fun _ => (invoke_ok T _ _).2⟩ (okF_code (h2 (.inRangeFunc a.1) trivial) rfl) hc)
    | inBlock i => exact to _ hk
    | inScope b => exact to _ hk
    | inLoop b => exact to _ (h3 _ _ trivial trivial)
    | inRegion ops todo =>
      cases todo with
      | nil => exact to _ hk
      | cons i rest =>
        dsimp only
        split
        · unfold stepG.oper
          split
          · exact fine_ended
          · split
            · exact apply_fine _ _ ⟨sysOk_bind SOk.ok fun _ => sysOk_bind SOk.ok fun _ => trivial, leaf_bind fun _ => leaf_bind fun _ => trivial⟩ h hc
            · exact apply_fine _ _ (execOp_ok T _ _) h hc
        · exact fine_go (okG_mk (okF_finish h _) hc)
    | inRangeFunc l => exact fine_ended
    | endRangeFunc l =>
      refine fine_runX (P := P) (s := Instr.endLoop l) SOk.ok (leaf_any _) (fun a es nn _ hsd hbl => ?_) (fun hh es nn hsd hbl => ?_) (fun hh es w hb => ?_)
      · (try dsimp only); refine fine_after (to _ fun i hi => ?_)
        rcases List.mem_append.1 hi with hi | hi
        · cases a with
          | none => cases hi
          | some c =>
            simp only [Option.map_some, Option.toList_some, List.mem_singleton] at hi
            subst hi; trivial
        · exact hk i hi
      · cases hh <;> first | (dsimp only; exact fine_after_end) | (dsimp only; exact fine_after (fine_go (okG_mk (okF_raise h _) hc)) (bal_seen hsd (hbl id)))
      · cases hh <;> first | exact hb.elim | exact ⟨_, _, _, rfl⟩
    | beginRound =>
      refine apply_fine _ _ ⟨?_, ?_⟩ h hc
      · refine sysOk_bind ?_ fun _ => trivial
        cases roundOf with
        | none => exact SOk.ok (s := stuck _)
        | some l => exact SOk.ok (s := Instr.beginRound l)
      · exact leaf_bind fun _ => trivial
    | call d w r s => exact hx.elim
    | extern row args =>
      have hr : row = "runtime.print$piece" := hx
      subst hr
      have he : Extern.next "runtime.print$piece" = some (fun a => Extern.PrintPieces.piece #[] #[] a) := by kernel_rfl
      simp only [he, Option.elim]
      exact apply_fine _ _ (piece_ok _ _ _) h hc

/-- ████ A STEP OF A GOROUTINE ASKS THE TAPE, AND NOTHING ELSE OF IT. ████ -/
theorem stepG_fine {nn : Nat} (T : Tame P) {g : Goroutine} (h : okG g) : Fine nn fun w => stepG P true g w := by
  obtain ⟨fr, cs, st, dy, of⟩ := g
  obtain ⟨h1, h2, _⟩ := h
  unfold stepG
  cases dy with
  | none =>
    dsimp only
    cases fr.mode with
    | run => exact exec_fine T true none h1 h2
    | returning => exact unwind_fine T true none h1 h2
    | panicking c => exact unwind_fine T true none h1 h2
  | some d =>
    obtain ⟨a, b, c, e, f, g, i⟩ := d
    cases c with
    | false => exact die_fine T _ h1
    | true =>
      dsimp only
      cases fr.mode with
      | run => exact exec_fine T true _ h1 h2
      | returning => exact unwind_fine T true _ h1 h2
      | panicking c => exact unwind_fine T true _ h1 h2
end
end Go.Vel
end
