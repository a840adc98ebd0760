/- The law SeekerAnyOrder: seekers, and what was seen, listed the other way round change no more than indexes It holds of every program, tape and world that the statements name, as each theorem says. -/
import Derived.Test.YtpdioiojfgknbaaDoorW5
import Derived.Test.YtpdioiojfgknbaaDoorW6
import Derived.Test.YtpdioiojfgknbaaDoorW7
import Derived.Test.YtpdioiojfgknbaaDoorW8
import Derived.Test.YtpdioiojfgknbaaDoorW9
section
set_option linter.all false
set_option maxRecDepth 20000
set_option maxHeartbeats 60000000
namespace Go.Vel
open Go Go.Conc Go.Proofs

end Go.Vel
end
section
set_option linter.all false
set_option maxRecDepth 20000
set_option maxHeartbeats 60000000
namespace Go.Vel
open Go Go.Conc Go.Proofs

section
variable {P : Program} {gm : Nat → Option Nat} {T : Goroutine → Hp → Prop} {Y : KX P gm T} {ds : List Nat} {k : List Item} {env env' : List AV} {K : KV}
end

/-! ### the specification's sets -/
def shortB (most : Int) (l : List Int) : Bool := decide ((l.length : Int) < most)
def moreM (most n : Int) (A : List (List Int)) : List (List Int) := (A.filter (shortB most)).map (· ++ [n])
def setsM (most : Int) : Nat → List (List Int)
 | 0 => [[]]
 | n + 1 => setsM most n ++ moreM most n (setsM most n).reverse
theorem setsM_short {most : Int} (hm : 0 ≤ most) : ∀ n, ∀ l ∈ setsM most n, (l.length : Int) ≤ most
 | 0, l, hl => by rw [List.mem_singleton.1 hl]; simpa using hm
 | n + 1, l, hl => by
  rcases List.mem_append.1 hl with hl | hl
  ·exact setsM_short hm n l hl
  ·obtain ⟨x, hx, rfl⟩ := List.mem_map.1 hl
   have := of_decide_eq_true (List.mem_filter.1 hx).2
   simp; omega
end Go.Vel
end
section
set_option linter.all false
set_option maxRecDepth 20000
set_option maxHeartbeats 60000000
namespace Go.Vel
open Go Go.Conc Go.Proofs

section
variable {P : Program} {gm : Nat → Option Nat} {T : Goroutine → Hp → Prop}
end
theorem setsM_mem {most : Int} : ∀ n, ∀ l ∈ setsM most n, ∀ x ∈ l, 0 ≤ x ∧ x < n
 | 0, l, hl, x, hx => by rw [List.mem_singleton.1 hl] at hx; cases hx
 | n + 1, l, hl, x, hx => by
  rcases List.mem_append.1 hl with hl | hl
  ·have := setsM_mem n l hl x hx; omega
  ·obtain ⟨y, hy, rfl⟩ := List.mem_map.1 hl
   rcases List.mem_append.1 hx with hx | hx
   ·have := setsM_mem n y (List.mem_reverse.1 (List.mem_filter.1 hy).1) x hx; omega
   ·rw [List.mem_singleton.1 hx]; omega
def setsB (b : Bk) : List (List Int) := setsM b.high b.steps.toNat
def statesR (b : Bk) : List (List Int) := (setsB b).filter (canM b)
/-- One list of many is handed over. -/
theorem objs_split {Q : List (Nat × List Int)} {x : Nat × List Int} (hx : x ∈ Q) : ∃ R, Rem (objsL Q) (x.1, .cells (x.2.map intA) 3 false) R := rem_of_mem (objsL_mem hx)
def knownBar (b : Bk) (t : Bool) : Int := if checkM b = 0 then if t = false then 6 else if statesR b = [] then 9 else 0 else checkM b

end Go.Vel
end
section
set_option linter.all false
set_option maxRecDepth 20000
set_option maxHeartbeats 60000000
namespace Go.Vel
open Go Go.Conc Go.Proofs

/-! ### the states of the program, and of the specification -/
theorem loop_sub {b : Bk} : ∀ (rest S R : List Int), R ∈ loopM b S rest → ∃ T, T.Sublist rest ∧ T ≠ [] ∧ R = S ++ T
 | [], S, R, h => by cases h
 | n :: rest, S, R, h => by
  simp only [loopM] at h
  split at h
  ·rcases List.mem_append.1 h with h | h
   ·rcases List.mem_append.1 h with h | h
    ·unfold ownM at h
     split at h
     ·rw [List.mem_singleton.1 h]
      exact ⟨[n], .cons_cons _ (List.nil_sublist _), by simp, rfl⟩
     ·cases h
    ·obtain ⟨T, h1, _, rfl⟩ := loop_sub rest _ R h
     exact ⟨n :: T, .cons_cons _ h1, by simp, by simp⟩
   ·obtain ⟨T, h1, h2, rfl⟩ := loop_sub rest _ R h
    exact ⟨T, .cons _ h1, h2, rfl⟩
  ·cases h
theorem own_nodup (b : Bk) (S : List Int) : (ownM b S).Nodup := by
 unfold ownM
 split <;> simp
theorem loop_nodup {b : Bk} : ∀ (rest S : List Int), rest.Nodup → (loopM b S rest).Nodup
 | [], S, _ => by simp [loopM]
 | n :: rest, S, h => by
  have h2 := List.nodup_cons.1 h
  simp only [loopM]
  split
  ·refine List.nodup_append.2 ⟨List.nodup_append.2 ⟨own_nodup _ _, loop_nodup rest _ h2.2, fun x hx y hy e => ?_⟩, loop_nodup rest _ h2.2, fun x hx y hy e => ?_⟩
   ·subst e
    obtain ⟨T, _, hT, rfl⟩ := loop_sub _ _ _ hy
    unfold ownM at hx
    split at hx
    ·have := List.mem_singleton.1 hx
     exact hT (by simpa using this)
    ·cases hx
   ·subst e
    obtain ⟨T, hT1, _, e2⟩ := loop_sub _ _ _ hy
    have hn : n ∈ T := by
     rcases List.mem_append.1 hx with hx | hx
     ·unfold ownM at hx
      split at hx
      ·have := List.mem_singleton.1 hx
       rw [e2] at this
       have := List.append_cancel_left this
       simp [this]
      ·cases hx
     ·obtain ⟨T', _, _, e3⟩ := loop_sub _ _ _ hx
      rw [e2, List.append_assoc] at e3
      have := List.append_cancel_left e3
      simp [this]
    exact h2.1 (hT1.subset hn)
  ·simp
theorem restM_pair (b : Bk) (i : Nat) : (restM b i).Pairwise (· < ·) := by
 unfold restM
 rw [List.pairwise_map]
 exact (List.pairwise_lt_range' (s := i) (n := b.steps.toNat - i)).imp fun h => by omega
theorem allM_nodup (b : Bk) : (allM b).Nodup := by
 have hr : (restM b 0).Nodup := (restM_pair b 0).imp fun h e => by omega
 refine List.nodup_append.2 ⟨own_nodup _ _, loop_nodup _ _ hr, fun x hx y hy e => ?_⟩
 subst e
 obtain ⟨T, _, hT, rfl⟩ := loop_sub _ _ _ hy
 unfold ownM at hx
 split at hx
 ·exact hT (by simpa using List.mem_singleton.1 hx)
 ·cases hx
theorem allM_pair {b : Bk} {R : List Int} (h : R ∈ allM b) : R.Pairwise (· < ·) := by
 rcases List.mem_append.1 h with h | h
 ·unfold ownM at h
  split at h
  ·rw [List.mem_singleton.1 h]; exact .nil
  ·cases h
 ·obtain ⟨T, h1, _, rfl⟩ := loop_sub _ _ _ h
  exact (restM_pair b 0).sublist h1
theorem memA {b : Bk} {xs : List Int} (hp : xs.Pairwise (· < ·)) (hr : ∀ x ∈ xs, 0 ≤ x ∧ x < b.steps) (hs : seenM b xs = true) : xs ∈ allM b := by
 unfold allM
 have hh : ((xs.length : Int)) ≤ b.high := by
  unfold seenM at hs
  simp only [Bool.and_eq_true, decide_eq_true_eq] at hs
  exact hs.1.2
 by_cases h0 : xs = []
 ·subst h0
  refine List.mem_append.2 (.inl ?_)
  unfold ownM
  rw [if_pos hs]
  exact List.mem_singleton.2 rfl
 ·exact List.mem_append.2 (.inr (mem_loopM (restM b 0) [] xs (sub_rest _ 0 xs rfl hp fun x hx => by have := hr x hx; omega) h0 hh hs))

theorem sets_pair {most : Int} : ∀ n, ∀ l ∈ setsM most n, l.Pairwise (· < ·)
 | 0, l, hl => by rw [List.mem_singleton.1 hl]; exact .nil
 | n + 1, l, hl => by
  rcases List.mem_append.1 hl with hl | hl
  ·exact sets_pair n l hl
  ·obtain ⟨y, hy, rfl⟩ := List.mem_map.1 hl
   have hy' := List.mem_reverse.1 (List.mem_filter.1 hy).1
   refine List.pairwise_append.2 ⟨sets_pair n y hy', by simp, fun a ha c hc => ?_⟩
   rw [List.mem_singleton.1 hc]
   exact (setsM_mem n y hy' a ha).2
theorem sets_mem {most : Int} : ∀ (n : Nat) (l : List Int), l.Pairwise (· < ·) → (∀ x ∈ l, 0 ≤ x ∧ x < n) → (l.length : Int) ≤ most → l ∈ setsM most n
 | 0, l, _, hr, _ => by
  cases l with
  | nil => exact List.mem_singleton.2 rfl
  | cons x l => have := hr x (by simp); omega
 | n + 1, l, hp, hr, hl => by
  rcases List.eq_nil_or_concat l with rfl | ⟨y, a, rfl⟩
  ·exact List.mem_append.2 (.inl (sets_mem n [] .nil (fun x hx => by cases hx) hl))
  ·rw [List.concat_eq_append] at hp hr hl ⊢
   have hp2 := List.pairwise_append.1 hp
   have ha := hr a (by simp)
   have hlt : ∀ x ∈ y, x < a := fun x hx => hp2.2.2 x hx a (by simp)
   by_cases e : a = n
   ·subst e
    refine List.mem_append.2 (.inr (List.mem_map.2 ⟨y, List.mem_filter.2 ⟨List.mem_reverse.2 (sets_mem n y hp2.1 (fun x hx => ?_) ?_), ?_⟩, rfl⟩))
    ·have := hlt x hx; have := hr x (by simp [hx]); omega
    ·simp at hl; omega
    ·unfold shortB; simp at hl ⊢; omega
   ·refine List.mem_append.2 (.inl (sets_mem n _ hp (fun x hx => ?_) hl))
    have h1 := hr x hx
    rcases List.mem_append.1 hx with hx | hx
    ·have := hlt x hx; omega
    ·rw [List.mem_singleton.1 hx] at h1 ⊢; omega
theorem sets_nodup {most : Int} : ∀ n, (setsM most n).Nodup
 | 0 => by simp [setsM]
 | n + 1 => by
  have ih := sets_nodup (most := most) n
  refine List.nodup_append.2 ⟨ih, ?_, fun x hx y hy e => ?_⟩
  ·unfold moreM List.Nodup
   rw [List.pairwise_map]
   refine List.Pairwise.filter _ ?_
   exact (List.pairwise_reverse.2 (ih.imp fun {a c} h => (fun e => h e.symm : c ≠ a))).imp fun h e => h (List.append_cancel_right e)
  ·subst e
   obtain ⟨y, _, rfl⟩ := List.mem_map.1 hy
   have := setsM_mem n _ hx n (by simp)
   omega
theorem can_seen {b : Bk} {S : List Int} (h : canM b S = true) : seenM b S = true := by
 unfold canM at h
 simp only [Bool.and_eq_true] at h
 exact h.2
/-- THE STATES ARE THE SAME, IN ANOTHER ORDER. -/
theorem states_perm {b : Bk} (hb : BkOk b) : (statesM b).Perm (statesR b) := by
 unfold statesM statesR
 refine (List.perm_ext_iff_of_nodup (List.Pairwise.filter _ (allM_nodup b)) (List.Pairwise.filter _ (sets_nodup _))).2 fun S => ?_
 rw [List.mem_filter, List.mem_filter]
 constructor
 ·rintro ⟨h1, h2⟩
  refine ⟨sets_mem _ S (allM_pair h1) (fun x hx => ?_) ?_, h2⟩
  ·have := (allM_ok hb S h1).mem x hx; omega
  ·have := can_seen h2
   unfold seenM at this
   simp only [Bool.and_eq_true, decide_eq_true_eq] at this
   exact this.1.2
 ·rintro ⟨h1, h2⟩
  refine ⟨memA (sets_pair _ S h1) (fun x hx => ?_) (can_seen h2), h2⟩
  have := setsM_mem _ S h1 x hx
  have := hb.steps
  omega
end Go.Vel
end
section
set_option linter.all false
set_option maxRecDepth 20000
set_option maxHeartbeats 60000000
namespace Go.Vel
open Go Go.Conc Go.Proofs

/-! ### the specification's sums over states -/
def oftR (Ls : List (List Int)) (n : Int) : Int := ((Ls.filter fun S => decide (n ∈ S)).length : Nat)
/-- A list of lists in memory: where its parts lie, the lists, and their objects. -/
structure LsIn (P Q : List (Nat × List Int)) (Ls : List (List Int)) : Prop where
 eq : P.map (·.2) = Ls
 mem : ∀ x ∈ P, x ∈ Q
theorem LsIn.len {P Q : List (Nat × List Int)} {Ls : List (List Int)} (h : LsIn P Q Ls) : P.length = Ls.length := by rw [← h.eq, List.length_map]
theorem LsIn.get {P Q : List (Nat × List Int)} {Ls : List (List Int)} (h : LsIn P Q Ls) {i : Nat} (hi : i < P.length) : P[i].2 = Ls[i]'(h.len ▸ hi) := by
 have e := h.eq
 subst e
 simp
theorem LsIn.obj {P Q : List (Nat × List Int)} {Ls : List (List Int)} (h : LsIn P Q Ls) {i : Nat} (hi : i < P.length) : (P[i].1, AObj.cells (P[i].2.map intA) 3 false) ∈ objsL Q := objsL_mem (h.mem _ (List.getElem_mem hi))
theorem LsIn.split {P Q : List (Nat × List Int)} {Ls : List (List Int)} (h : LsIn P Q Ls) {i : Nat} (hi : i < P.length) : ∃ R, Rem (objsL Q) (P[i].1, .cells (P[i].2.map intA) 3 false) R := objs_split (h.mem _ (List.getElem_mem hi))

end Go.Vel
end
section
set_option linter.all false
set_option maxRecDepth 20000
set_option maxHeartbeats 60000000
namespace Go.Vel
open Go Go.Conc Go.Proofs
/-! ### the specification's sums are the program's -/
theorem oftM_perm {Ls Ms : List (List Int)} (h : Ls.Perm Ms) (n : Int) : oftM Ls n = oftM Ms n := by
 unfold oftM; rw [(h.flatten).count_eq]
theorem rightsM_perm {b : Bk} {Ls Ms : List (List Int)} (h : Ls.Perm Ms) (k : Nat) : rightsM b Ls k = rightsM b Ms k := by
 unfold rightsM; rw [(h.filter _).length_eq]
theorem bandM_comm (b : Bk) (lo w : Int) (z : Int × Int) (S T : List Int) : bandM b lo w (bandM b lo w z S) T = bandM b lo w (bandM b lo w z T) S := by
 unfold bandM
 generalize inM b S lo w = x
 generalize inM b T lo w = y
 obtain ⟨p, q⟩ := z
 refine Prod.ext ?_ ?_
 ·dsimp only
  (repeat' split) <;> omega
 ·dsimp only
  (repeat' split) <;> omega
theorem withinM_perm {b : Bk} {Ls Ms : List (List Int)} (h : Ls.Perm Ms) (lo w : Int) : withinM b Ls lo w = withinM b Ms lo w := by
 unfold withinM
 exact h.foldl_eq' (fun x _ y _ z => bandM_comm b lo w z x y) _
end Go.Vel
end
section
set_option linter.all false
set_option maxRecDepth 20000
set_option maxHeartbeats 60000000
namespace Go.Vel
open Go Go.Conc Go.Proofs
/-! ### the specification's sorted list -/
def stepS (x : Int) (p : List Int × Bool) (o : Int) : List Int × Bool :=
 ((if (!p.2 && decide (o ≥ x)) = true then p.1 ++ [x] else p.1) ++ (if (o != x) = true then [o] else []), p.2 || decide (o ≥ x))
def finS (x : Int) (p : List Int × Bool) : List Int := if p.2 = true then p.1 else p.1 ++ [x]
def insS (out : List Int) (x : Int) : List Int := finS x (out.foldl (stepS x) ([], false))
def sortS (xs : List Int) : List Int := xs.foldl insS []
theorem stepS_put {x : Int} : ∀ (os : List Int) (nx : List Int), (∀ y ∈ os, x < y) → os.foldl (stepS x) (nx, true) = (nx ++ os, true)
 | [], nx, _ => by rw [List.foldl_nil, List.append_nil]
 | o :: os, nx, h => by
  have h1 : x < o := h o List.mem_cons_self
  rw [List.foldl_cons, show stepS x (nx, true) o = (nx ++ [o], true) from by
   unfold stepS
   rw [if_neg (by simp), if_pos (by simp; omega)]; rfl, stepS_put os _ fun y hy => h y (List.mem_cons_of_mem _ hy), List.append_assoc]
  rfl
theorem stepS_low {x : Int} : ∀ (os : List Int) (nx : List Int), os.Pairwise (· < ·) → finS x (os.foldl (stepS x) (nx, false)) = nx ++ (os.filter (fun y => decide (y < x)) ++ x :: os.filter (fun y => decide (x < y)))
 | [], nx, _ => by simp [finS]
 | o :: os, nx, h => by
  obtain ⟨h1, h2⟩ := List.pairwise_cons.1 h
  rw [List.foldl_cons]
  by_cases hc : o < x
  ·rw [show stepS x (nx, false) o = (nx ++ [o], false) from by
    unfold stepS
    rw [if_neg (by simp; omega), if_pos (by simp; omega)]
    simp; omega, stepS_low os _ h2, List.filter_cons, if_pos (by simpa using hc), List.filter_cons, if_neg (by simp; omega)]
   simp
  ·have h3 : ∀ y ∈ os, x < y := fun y hy => by have := h1 y hy; omega
   have h4 : os.filter (fun y => decide (y < x)) = [] := List.filter_eq_nil_iff.2 fun y hy => by have := h3 y hy; simp; omega
   have h5 : os.filter (fun y => decide (x < y)) = os := List.filter_eq_self.2 fun y hy => by simpa using h3 y hy
   rw [List.filter_cons, if_neg (by simpa using hc), List.filter_cons, h4, h5]
   by_cases he : o = x
   ·subst he
    rw [show stepS o (nx, false) o = (nx ++ [o], true) from by unfold stepS; simp, stepS_put os _ h3]
    simp [finS]
   ·rw [show stepS x (nx, false) o = (nx ++ [x] ++ [o], true) from by
     unfold stepS
     rw [if_pos (by simp; omega), if_pos (by simpa using he)]
     simp; omega, stepS_put os _ h3]
    rw [if_pos (by simp; omega)]
    simp [finS]
theorem insS_eq {out : List Int} {x : Int} (h : out.Pairwise (· < ·)) : insS out x = out.filter (fun y => decide (y < x)) ++ x :: out.filter (fun y => decide (x < y)) := by
 unfold insS; rw [stepS_low out [] h]; rfl
theorem insS_asc {out : List Int} {x : Int} (h : out.Pairwise (· < ·)) : (insS out x).Pairwise (· < ·) ∧ ∀ y, y ∈ insS out x ↔ y ∈ out ∨ y = x := by
 rw [insS_eq h]
 refine ⟨?_, fun y => ?_⟩
 ·refine List.pairwise_append.2 ⟨h.sublist List.filter_sublist, List.pairwise_cons.2 ⟨fun y hy => by simpa using (List.mem_filter.1 hy).2, h.sublist List.filter_sublist⟩, fun a ha c hc => ?_⟩
  have h1 : a < x := by simpa using (List.mem_filter.1 ha).2
  rcases List.mem_cons.1 hc with rfl | hc
  ·exact h1
  ·have h2 : x < c := by simpa using (List.mem_filter.1 hc).2
   omega
 ·simp only [List.mem_append, List.mem_filter, List.mem_cons, decide_eq_true_eq]
  constructor
  ·rintro (⟨h1, _⟩ | rfl | ⟨h1, _⟩)
   ·exact .inl h1
   ·exact .inr rfl
   ·exact .inl h1
  ·rintro (h1 | rfl)
   ·rcases Int.lt_trichotomy y x with h2 | h2 | h2
    ·exact .inl ⟨h1, h2⟩
    ·exact .inr (.inl h2)
    ·exact .inr (.inr ⟨h1, h2⟩)
   ·exact .inr (.inl rfl)
theorem sortS_asc (xs : List Int) : ∀ out : List Int, out.Pairwise (· < ·) → (xs.foldl insS out).Pairwise (· < ·) ∧ ∀ y, y ∈ xs.foldl insS out ↔ y ∈ out ∨ y ∈ xs := by
 induction xs with
 | nil => intro out h; exact ⟨h, fun y => by simp⟩
 | cons x xs ih =>
  intro out h
  obtain ⟨h1, h2⟩ := insS_asc (x := x) h
  obtain ⟨h3, h4⟩ := ih _ h1
  refine ⟨h3, fun y => ?_⟩
  rw [List.foldl_cons, h4, h2, List.mem_cons, or_assoc]
theorem asc_ext : ∀ {xs ys : List Int}, xs.Pairwise (· < ·) → ys.Pairwise (· < ·) → (∀ z, z ∈ xs ↔ z ∈ ys) → xs = ys
 | [], [], _, _, _ => rfl
 | [], y :: ys, _, _, h => absurd ((h y).2 List.mem_cons_self) (by simp)
 | x :: xs, [], _, _, h => absurd ((h x).1 List.mem_cons_self) (by simp)
 | x :: xs, y :: ys, h1, h2, h => by
  obtain ⟨h3, h4⟩ := List.pairwise_cons.1 h1
  obtain ⟨h5, h6⟩ := List.pairwise_cons.1 h2
  have hx := List.mem_cons.1 ((h x).1 List.mem_cons_self)
  have hy := List.mem_cons.1 ((h y).2 List.mem_cons_self)
  have he : x = y := by
   rcases hx with e | e
   ·exact e
   ·rcases hy with f | f
    ·exact f.symm
    ·have := h5 _ e; have := h3 _ f; omega
  subst he
  congr 1
  refine asc_ext h4 h6 fun z => ⟨fun hz => ?_, fun hz => ?_⟩
  ·rcases List.mem_cons.1 ((h z).1 (List.mem_cons_of_mem _ hz)) with e | e
   ·have := h3 _ hz; omega
   ·exact e
  ·rcases List.mem_cons.1 ((h z).2 (List.mem_cons_of_mem _ hz)) with e | e
   ·have := h5 _ hz; omega
   ·exact e
end Go.Vel
end
section
set_option linter.all false
set_option maxRecDepth 20000
set_option maxHeartbeats 60000000
namespace Go.Vel
open Go Go.Conc Go.Proofs
/-! ### the program's counts are the specification's -/
theorem compact_asc {d : Array Int} (hs : ∀ i j : Nat, i ≤ j → j < d.size → d[i]! ≤ d[j]!) : ∀ m : Nat, m ≤ d.size → (Lib.compactUpTo d m).Pairwise (· < ·) ∧ ∀ y, y ∈ Lib.compactUpTo d m ↔ ∃ i, i < m ∧ d[i]! = y
 | 0, _ => ⟨by simp [Lib.compactUpTo], fun y => by simp [Lib.compactUpTo]⟩
 | m + 1, hm => by
  obtain ⟨h1, h2⟩ := compact_asc hs m (by omega)
  rw [Lib.compactUpTo_succ]
  cases hk : Lib.keeps d m
  ·rw [if_neg (by decide), List.append_nil]
   refine ⟨h1, fun y => (h2 y).trans ⟨fun ⟨i, a, c⟩ => ⟨i, by omega, c⟩, fun ⟨i, a, c⟩ => ?_⟩⟩
   by_cases hi : i < m
   ·exact ⟨i, hi, c⟩
   ·obtain rfl : i = m := by omega
    simp [Lib.keeps] at hk
    exact ⟨i - 1, by omega, by rw [← c]; first | exact hk.2.symm | exact hk.2⟩
  ·rw [if_pos rfl]
   refine ⟨List.pairwise_append.2 ⟨h1, List.pairwise_singleton _ _, fun a ha c hc => ?_⟩, fun y => ?_⟩
   ·obtain ⟨i, hi, rfl⟩ := (h2 a).1 ha
    rw [List.mem_singleton.1 hc]
    have h3 := hs i (m - 1) (by omega) (by omega)
    have h4 := hs (m - 1) m (by omega) (by omega)
    simp [Lib.keeps] at hk
    rcases hk with hk | hk
    ·omega
    ·omega
   ·rw [List.mem_append, h2, List.mem_singleton]
    constructor
    ·rintro (⟨i, a, c⟩ | rfl)
     ·exact ⟨i, by omega, c⟩
     ·exact ⟨m, by omega, rfl⟩
    ·rintro ⟨i, a, c⟩
     by_cases hi : i < m
     ·exact .inl ⟨i, hi, c⟩
     ·obtain rfl : i = m := by omega
      exact .inr c.symm
theorem counts_eq {b : Bk} (hb : BkOk b) : sortS ((statesR b).map fun S => (S.length : Int)) = countsM b := by
 unfold sortS countsM Lib.compact
 obtain ⟨h1, h2⟩ := sortS_asc ((statesR b).map fun S => (S.length : Int)) [] List.Pairwise.nil
 generalize hz : sortI ((statesM b).map fun S => (S.length : Int)) = zs
 have hp : zs.Perm ((statesM b).map fun S => (S.length : Int)) := by rw [← hz]; exact List.mergeSort_perm _ _
 have hso : zs.Pairwise (fun x y => decide (x ≤ y) = true) := by
  rw [← hz]
  exact List.pairwise_mergeSort (fun a c e h3 h4 => by simp only [decide_eq_true_eq] at *; omega) (fun a c => by simp only [Bool.or_eq_true, decide_eq_true_eq]; omega) _
 have hs : ∀ i j : Nat, i ≤ j → j < zs.toArray.size → zs.toArray[i]! ≤ zs.toArray[j]! := fun i j hij hj => by
  rw [List.size_toArray] at hj
  rw [getElem!_pos zs.toArray i (by simp; omega), getElem!_pos zs.toArray j (by simpa using hj)]
  rcases Nat.lt_or_eq_of_le hij with h | rfl
  ·have := List.pairwise_iff_getElem.1 hso i j (by omega) hj h
   simpa using this
  ·exact Int.le_refl _
 obtain ⟨h5, h6⟩ := compact_asc hs zs.length (by simp)
 refine asc_ext h1 h5 fun z => ?_
 rw [h2, h6]
 have h7 : z ∈ (statesR b).map (fun S => (S.length : Int)) ↔ z ∈ zs := by
  rw [hp.mem_iff]
  exact ((states_perm hb).map _).mem_iff.symm
 rw [h7]
 constructor
 ·rintro (h | h)
  ·exact absurd h (by simp)
  ·obtain ⟨i, hi, rfl⟩ := List.mem_iff_getElem.1 h
   exact ⟨i, hi, by rw [getElem!_pos zs.toArray i (by simpa using hi)]; simp⟩
 ·rintro ⟨i, hi, rfl⟩
  refine .inr ?_
  rw [getElem!_pos zs.toArray i (by simpa using hi)]
  simp
end Go.Vel
end
section
set_option linter.all false
set_option maxRecDepth 20000
set_option maxHeartbeats 60000000
namespace Go.Vel
open Go Go.Conc Go.Proofs
/-! ### what is so of the states of a book -/
theorem mem_states {b : Bk} (hb : BkOk b) (S : List Int) : S ∈ statesM b ↔ S ∈ setsB b ∧ canM b S = true := by
 rw [(states_perm hb).mem_iff]; exact List.mem_filter
theorem states_nodup (b : Bk) : (statesM b).Nodup := List.Pairwise.filter _ (allM_nodup b)
theorem state_len {b : Bk} (hb : BkOk b) {S : List Int} (h : S ∈ statesM b) : S.length ≤ 3 := (allM_ok hb S (List.mem_filter.1 h).1).len
theorem setsB_iff {b : Bk} (hb : BkOk b) (hh : 0 ≤ b.high) (S : List Int) : S ∈ setsB b ↔ S.Pairwise (· < ·) ∧ (∀ x ∈ S, 0 ≤ x ∧ x < b.steps) ∧ (S.length : Int) ≤ b.high := by
 have hst := hb.steps
 constructor
 ·intro h
  exact ⟨sets_pair _ S h, fun x hx => by have := setsM_mem _ S h x hx; omega, setsM_short hh _ S h⟩
 ·rintro ⟨h1, h2, h3⟩
  exact sets_mem _ S h1 (fun x hx => by have := h2 x hx; omega) h3
theorem filt_add {α : Type} (p : α → Bool) : ∀ A : List α, (A.filter p).length + (A.filter fun x => !p x).length = A.length
 | [] => rfl
 | x :: A => by
  have ih := filt_add p A
  rw [List.filter_cons, List.filter_cons, List.length_cons]
  cases p x
  ·simp only [Bool.false_eq_true, if_false, Bool.not_false, if_true, List.length_cons]; omega
  ·simp only [Bool.not_true, Bool.false_eq_true, if_false, if_true, List.length_cons]; omega
theorem filter_all_len {α : Type} {p : α → Bool} {A : List α} : (A.filter p).length = A.length ↔ ∀ S ∈ A, p S = true := by
 rw [List.length_filter_eq_length_iff]
theorem filter_none_len {α : Type} {p : α → Bool} {A : List α} : (A.filter p).length = 0 ↔ ∀ S ∈ A, p S = false := by
 rw [List.length_eq_zero_iff, List.filter_eq_nil_iff]
 exact ⟨fun h S hS => by simpa using h S hS, fun h S hS => by simpa using h S hS⟩
/-- A word of how many of some. -/
theorem word_of {α : Type} {p : α → Bool} {A : List α} (hne : A ≠ []) : (wordM A.length ((A.filter p).length : Nat) = 1 ↔ ∀ S ∈ A, p S = true) ∧ (wordM A.length ((A.filter p).length : Nat) = 2 ↔ ∀ S ∈ A, p S = false) ∧ (wordM A.length ((A.filter p).length : Nat) = 0 ↔ (∃ S ∈ A, p S = true) ∧ ∃ S ∈ A, p S = false) := by
 have h1 := filter_all_len (p := p) (A := A)
 have h2 := filter_none_len (p := p) (A := A)
 have h0 : A.length ≠ 0 := fun h => hne (List.length_eq_zero_iff.1 h)
 have e1 : (∃ S ∈ A, p S = true) ↔ ¬ (A.filter p).length = 0 := by
  rw [h2]
  constructor
  ·rintro ⟨S, hS, hp⟩ h; rw [h S hS] at hp; cases hp
  ·intro h
   refine Classical.byContradiction fun hc => h fun S hS => ?_
   rw [Bool.eq_false_iff]
   exact fun hp => hc ⟨S, hS, hp⟩
 have e2 : (∃ S ∈ A, p S = false) ↔ ¬ (A.filter p).length = A.length := by
  rw [h1]
  constructor
  ·rintro ⟨S, hS, hp⟩ h; rw [h S hS] at hp; cases hp
  ·intro h
   refine Classical.byContradiction fun hc => h fun S hS => ?_
   cases hp : p S with
   | true => rfl
   | false => exact absurd ⟨S, hS, hp⟩ hc
 rw [e1, e2, ← h1, ← h2]
 unfold wordM
 simp only [beq_iff_eq]
 generalize (A.filter p).length = m at *
 generalize A.length = n at *
 refine ⟨⟨fun h => ?_, fun h => ?_⟩, ⟨fun h => ?_, fun h => ?_⟩, ⟨fun h => ?_, fun h => ?_⟩⟩ <;> (repeat' split at *) <;> omega
theorem word_wrong {c : Bk} {A : List (List Int)} (hne : A ≠ []) (k : Nat) : (wordM A.length (A.length - rightsM c A k) = 1 ↔ ∀ S ∈ A, rightM c S k = false) ∧ (wordM A.length (A.length - rightsM c A k) = 2 ↔ ∀ S ∈ A, rightM c S k = true) ∧ (wordM A.length (A.length - rightsM c A k) = 0 ↔ (∃ S ∈ A, rightM c S k = false) ∧ ∃ S ∈ A, rightM c S k = true) := by
 have h := word_of (p := fun S => !rightM c S k) hne
 have e : (A.length : Int) - rightsM c A k = ((A.filter fun S => !rightM c S k).length : Nat) := by
  unfold rightsM
  have := filt_add (fun S => rightM c S k) A
  omega
 rw [e]
 simpa only [Bool.not_eq_true', Bool.not_eq_false'] using h
theorem counts_mem {b : Bk} (hb : BkOk b) (n : Int) : n ∈ countsM b ↔ ∃ S ∈ statesM b, (S.length : Int) = n := by
 rw [← counts_eq hb]
 unfold sortS
 rw [(sortS_asc _ [] .nil).2 n]
 simp only [List.not_mem_nil, false_or, List.mem_map, (states_perm hb).mem_iff]
/-! bands -/
theorem band_fold (b : Bk) (lo w : Int) : ∀ (A : List (List Int)) (z : Int × Int), (A.foldl (bandM b lo w) z).1 ≤ z.1 ∧ z.2 ≤ (A.foldl (bandM b lo w) z).2 ∧ (∀ S ∈ A, (A.foldl (bandM b lo w) z).1 ≤ inM b S lo w ∧ inM b S lo w ≤ (A.foldl (bandM b lo w) z).2) ∧ ((A.foldl (bandM b lo w) z).1 = z.1 ∨ ∃ S ∈ A, (A.foldl (bandM b lo w) z).1 = inM b S lo w) ∧ ((A.foldl (bandM b lo w) z).2 = z.2 ∨ ∃ S ∈ A, (A.foldl (bandM b lo w) z).2 = inM b S lo w)
 | [], z => ⟨Int.le_refl _, Int.le_refl _, (fun S h => by cases h), .inl rfl, .inl rfl⟩
 | S :: A, z => by
  obtain ⟨h1, h2, h3, h4, h5⟩ := band_fold b lo w A (bandM b lo w z S)
  rw [List.foldl_cons]
  generalize A.foldl (bandM b lo w) (bandM b lo w z S) = r at *
  have e1 : (bandM b lo w z S).1 = if inM b S lo w < z.1 then inM b S lo w else z.1 := rfl
  have e2 : (bandM b lo w z S).2 = if z.2 < inM b S lo w then inM b S lo w else z.2 := rfl
  rw [e1] at h1 h4
  rw [e2] at h2 h5
  refine ⟨?_, ?_, fun T hT => ?_, ?_, ?_⟩
  ·split at h1 <;> omega
  ·split at h2 <;> omega
  ·rcases List.mem_cons.1 hT with rfl | hT
   ·constructor
    ·split at h1 <;> omega
    ·split at h2 <;> omega
   ·exact h3 T hT
  ·rcases h4 with h4 | ⟨T, hT, h4⟩
   ·split at h4
    ·exact .inr ⟨S, List.mem_cons_self, h4⟩
    ·exact .inl h4
   ·exact .inr ⟨T, List.mem_cons_of_mem _ hT, h4⟩
  ·rcases h5 with h5 | ⟨T, hT, h5⟩
   ·split at h5
    ·exact .inr ⟨S, List.mem_cons_self, h5⟩
    ·exact .inl h5
   ·exact .inr ⟨T, List.mem_cons_of_mem _ hT, h5⟩
theorem inM_bd {b : Bk} (hb : BkOk b) {S : List Int} (h : S ∈ statesM b) (lo w : Int) : 0 ≤ inM b S lo w ∧ inM b S lo w ≤ 3 := by
 have h1 := inM_le b S lo w
 have h2 := state_len hb h
 omega
/-- The band of an arc: each state lies in it, and its ends are met. -/
theorem within_of {b : Bk} (hb : BkOk b) (hne : statesM b ≠ []) (lo w : Int) : (∀ S ∈ statesM b, (withinM b (statesM b) lo w).1 ≤ inM b S lo w ∧ inM b S lo w ≤ (withinM b (statesM b) lo w).2) ∧ (∃ S ∈ statesM b, (withinM b (statesM b) lo w).1 = inM b S lo w) ∧ ∃ S ∈ statesM b, (withinM b (statesM b) lo w).2 = inM b S lo w := by
 obtain ⟨_, _, h3, h4, h5⟩ := band_fold b lo w (statesM b) (3, 0)
 obtain ⟨S, hS⟩ := List.exists_mem_of_ne_nil _ hne
 have hi := inM_bd hb hS lo w
 have h6 := h3 S hS
 unfold withinM
 refine ⟨h3, ?_, ?_⟩
 ·rcases h4 with h4 | h4
  ·exact ⟨S, hS, by rw [h4] at h6 ⊢; show (3 : Int) = _; have := h6.1; simp only at this; omega⟩
  ·exact h4
 ·rcases h5 with h5 | h5
  ·exact ⟨S, hS, by rw [h5] at h6 ⊢; show (0 : Int) = _; have := h6.2; simp only at this; omega⟩
  ·exact h5
end Go.Vel
end
section
set_option linter.all false
set_option maxRecDepth 20000
set_option maxHeartbeats 60000000
namespace Go.Vel
open Go Go.Conc Go.Proofs
/-! ### the specification's first arc is the program's -/
theorem arcK_some {b : Bk} {low k : Nat} : arcK b low = some k ↔ (withinM b (statesM b) low ((k : Int) + 1)).1 > 0 ∧ k < b.steps.toNat ∧ ∀ q < k, ¬ (withinM b (statesM b) low ((q : Int) + 1)).1 > 0 := by
 unfold arcK
 rw [List.find?_range_eq_some]
 simp only [List.mem_range, decide_eq_true_eq, Bool.not_eq_true', decide_eq_false_iff_not]
theorem arcs_mem {b : Bk} {y : Int × Int} : y ∈ arcsOf b (List.range b.steps.toNat) ↔ ∃ low k : Nat, low < b.steps.toNat ∧ arcK b low = some k ∧ y = ((low : Int), (k : Int) + 1) := by
 unfold arcsOf
 rw [List.mem_filterMap]
 constructor
 ·rintro ⟨low, h1, h2⟩
  unfold arcA at h2
  cases h5 : arcK b low with
  | none => rw [h5] at h2; exact absurd h2 (by simp)
  | some m =>
   rw [h5] at h2
   exact ⟨low, m, List.mem_range.1 h1, h5, (Option.some.inj h2).symm⟩
 ·rintro ⟨low, k, h1, h2, h3⟩
  refine ⟨low, List.mem_range.2 h1, ?_⟩
  unfold arcA
  rw [h2, h3]; rfl
theorem narrow_min {b : Bk} (hne : arcsOf b (List.range b.steps.toNat) ≠ []) : narrowM b ∈ arcsOf b (List.range b.steps.toNat) ∧ ∀ y ∈ arcsOf b (List.range b.steps.toNat), ltArc y (narrowM b) = false := by
 unfold narrowM
 generalize arcsOf b (List.range b.steps.toNat) = l at hne
 cases l with
 | nil => exact absurd rfl hne
 | cons x xs => exact ⟨firstL_mem, firstL_min⟩
end Go.Vel
end
section
set_option linter.all false
set_option maxRecDepth 20000
set_option maxHeartbeats 60000000
namespace Go.Vel
open Go Go.Conc Go.Proofs
/-! ### books that are made of others -/
theorem nodup_le {α : Type} : ∀ {l1 l2 : List α}, l1.Nodup → (∀ x ∈ l1, x ∈ l2) → l1.length ≤ l2.length
 | [], _, _, _ => Nat.zero_le _
 | x :: l1, l2, hn, hs => by
  obtain ⟨h1, h2⟩ := List.nodup_cons.1 hn
  obtain ⟨a, c, rfl⟩ := List.append_of_mem (hs x (by simp))
  have := nodup_le (l1 := l1) (l2 := a ++ c) h2 fun y hy => by
   have hne : y ≠ x := fun e => h1 (e ▸ hy)
   have := hs y (by simp [hy])
   simpa [hne] using this
  simp at this ⊢; omega
/-- A book that leaves no more than another one of as many steps. -/
structure Less (was now : Bk) : Prop where
 okw : BkOk was
 okn : BkOk now
 steps : now.steps = was.steps
 sub : ∀ S ∈ statesM now, S ∈ statesM was
 ne : statesM now ≠ []
namespace Less
variable {was now : Bk}
theorem wne (h : Less was now) : statesM was ≠ [] := fun e => by
 obtain ⟨S, hS⟩ := List.exists_mem_of_ne_nil _ h.ne
 have := h.sub S hS
 rw [e] at this
 cases this
theorem inM (h : Less was now) (S : List Int) (lo w : Int) : inM now S lo w = inM was S lo w := by unfold Vel.inM; rw [h.steps]
theorem many (h : Less was now) : 1 ≤ ((statesM now).length : Int) ∧ ((statesM now).length : Int) ≤ (statesM was).length := by
 have h1 := nodup_le (states_nodup now) h.sub
 have h2 : (statesM now).length ≠ 0 := fun e => h.ne (List.length_eq_zero_iff.1 e)
 omega
theorem counts (h : Less was now) {n : Int} (hn : n ∈ countsM now) : n ∈ countsM was := by
 obtain ⟨S, h1, h2⟩ := (counts_mem h.okn n).1 hn
 exact (counts_mem h.okw n).2 ⟨S, h.sub S h1, h2⟩
theorem wrong (h : Less was now) (k : Nat) (hr : ∀ S ∈ statesM now, rightM now S k = rightM was S k) (hu : wordM (statesM was).length ((statesM was).length - rightsM was (statesM was) k) ≠ 0) : wordM (statesM was).length ((statesM was).length - rightsM was (statesM was) k) = wordM (statesM now).length ((statesM now).length - rightsM now (statesM now) k) := by
 obtain ⟨w1, w2, _⟩ := word_wrong (c := was) h.wne k
 obtain ⟨v1, v2, _⟩ := word_wrong (c := now) h.ne k
 have hc : wordM (statesM was).length ((statesM was).length - rightsM was (statesM was) k) = 1 ∨ wordM (statesM was).length ((statesM was).length - rightsM was (statesM was) k) = 2 := by
  unfold wordM at hu ⊢
  split at hu
  ·exact .inl (by rw [if_pos (by assumption)])
  ·split at hu
   ·exact .inr (by rw [if_neg (by assumption), if_pos (by assumption)])
   ·exact absurd rfl hu
 rcases hc with hc | hc
 ·rw [hc, v1.2 fun S hS => by rw [hr S hS]; exact w1.1 hc S (h.sub S hS)]
 ·rw [hc, v2.2 fun S hS => by rw [hr S hS]; exact w2.1 hc S (h.sub S hS)]
theorem within (h : Less was now) (lo w : Int) : (withinM was (statesM was) lo w).1 ≤ (withinM now (statesM now) lo w).1 ∧ (withinM now (statesM now) lo w).1 ≤ (withinM now (statesM now) lo w).2 ∧ (withinM now (statesM now) lo w).2 ≤ (withinM was (statesM was) lo w).2 := by
 obtain ⟨a1, _, _⟩ := within_of h.okw h.wne lo w
 obtain ⟨b1, ⟨S, hS, b2⟩, ⟨T, hT, b3⟩⟩ := within_of h.okn h.ne lo w
 have c1 := a1 S (h.sub S hS)
 have c2 := a1 T (h.sub T hT)
 have c3 := b1 S hS
 rw [← h.inM S lo w] at c1
 rw [← h.inM T lo w] at c2
 omega
theorem arcs (h : Less was now) (ha : arcsOf was (List.range was.steps.toNat) ≠ []) : arcsOf now (List.range now.steps.toNat) ≠ [] ∧ (narrowM now).2 ≤ (narrowM was).2 := by
 obtain ⟨h1, _⟩ := narrow_min ha
 obtain ⟨low, k, h2, h3, h4⟩ := arcs_mem.1 h1
 obtain ⟨h5, h6, _⟩ := arcK_some.1 h3
 have h7 := (h.within low ((k : Int) + 1)).1
 have hp : (withinM now (statesM now) low ((k : Int) + 1)).1 > 0 := by omega
 obtain ⟨q, hq⟩ : ∃ q, arcK now low = some q := by
  cases hc : arcK now low with
  | some q => exact ⟨q, rfl⟩
  | none =>
   unfold arcK at hc
   rw [List.find?_eq_none] at hc
   have := hc k (List.mem_range.2 (by rw [h.steps]; exact h6))
   exact absurd hp (by simpa using this)
 have hqk : q ≤ k := by
  obtain ⟨_, _, h8⟩ := arcK_some.1 hq
  refine Classical.byContradiction fun hc => h8 k (by omega) hp
 have hm : ((low : Int), (q : Int) + 1) ∈ arcsOf now (List.range now.steps.toNat) := arcs_mem.2 ⟨low, q, by rw [h.steps]; exact h2, hq, rfl⟩
 have hne : arcsOf now (List.range now.steps.toNat) ≠ [] := List.ne_nil_of_mem hm
 refine ⟨hne, ?_⟩
 have h9 := (narrow_min hne).2 _ hm
 rw [Bool.eq_false_iff, ne_eq, ltArc_iff] at h9
 rw [h4]
 simp only at h9 ⊢
 omega
end Less
end Go.Vel
end
section
set_option linter.all false
set_option maxRecDepth 20000
set_option maxHeartbeats 60000000
namespace Go.Vel
open Go Go.Conc Go.Proofs
/-! ### arcs -/
end Go.Vel
end
section
set_option linter.all false
set_option maxRecDepth 20000
set_option maxHeartbeats 60000000
namespace Go.Vel
open Go Go.Conc Go.Proofs
/-! ### which books are valid; what is asked -/
theorem check_iff (b : Bk) : checkM b = 0 ↔ numbersM b = 0 ∧ heardM b = 0 ∧ lookedM b = 0 := by
 unfold checkM
 by_cases h1 : numbersM b = 0
 ·by_cases h2 : heardM b = 0
  ·rw [if_neg (by simpa using h1), if_neg (by simpa using h2)]
   exact ⟨fun h => ⟨h1, h2, h⟩, fun h => h.2.2⟩
  ·rw [if_neg (by simpa using h1), if_pos (by simpa using h2)]
   exact ⟨fun h => absurd h h2, fun h => absurd h.2.1 h2⟩
 ·rw [if_pos (by simpa using h1)]
  exact ⟨fun h => absurd h h1, fun h => absurd h.1 h1⟩
end Go.Vel
end
section
set_option linter.all false
set_option maxRecDepth 20000
set_option maxHeartbeats 60000000
namespace Go.Vel
open Go Go.Conc Go.Proofs
/-! ### a book by its lists -/
def okSay (b : Bk) (x : Says) : Prop := isNameM x.name = true ∧ isStepM b x.frm = true ∧ isStepM b x.til = true ∧ 0 ≤ x.says ∧ x.says ≤ 2
theorem heardL_iff (b : Bk) : ∀ n, heardL b n = 0 ↔ ∀ i, i < n → heard1 b i = 0
 | 0 => ⟨fun _ i h => absurd h (Nat.not_lt_zero _), fun _ => rfl⟩
 | n + 1 => by
  have ih := heardL_iff b n
  unfold heardL
  constructor
  ·intro h i hi
   split at h
   ·rename_i h0
    by_cases e : i = n
    ·subst e; exact h
    ·exact ih.1 h0 i (by omega)
   ·rename_i h0; exact absurd h h0
  ·intro h
   rw [if_pos (ih.2 fun i hi => h i (by omega))]
   exact h n (by omega)
theorem heard1_iff {b : Bk} {i : Nat} (hi : i < b.seekers.length) : heard1 b i = 0 ↔ okSay b b.seekers[i] ∧ ∀ j, (hj : j < i) → b.seekers[j].name.toList ≠ b.seekers[i].name.toList := by
 unfold heard1 okSay
 rw [List.getElem?_eq_getElem hi]
 simp only
 have ha : ((b.seekers.take i).any fun o => o.name.toList == b.seekers[i].name.toList) = true ↔ ∃ j, ∃ hj : j < i, b.seekers[j].name.toList = b.seekers[i].name.toList := by
  rw [List.any_eq_true]
  constructor
  ·rintro ⟨x, hx, h⟩
   obtain ⟨j, hj, rfl⟩ := List.mem_iff_getElem.1 hx
   rw [List.length_take] at hj
   exact ⟨j, by omega, by simpa using h⟩
  ·rintro ⟨j, hj, h⟩
   exact ⟨b.seekers[j], List.mem_iff_getElem.2 ⟨j, by rw [List.length_take]; omega, by simp⟩, by simpa using h⟩
 cases h1 : isNameM b.seekers[i].name
 ·simp
 ·rw [if_neg (by simp)]
  cases h2 : ((b.seekers.take i).any fun o => o.name.toList == b.seekers[i].name.toList)
  ·rw [if_neg (by simp)]
   have h2' : ∀ j, (hj : j < i) → b.seekers[j].name.toList ≠ b.seekers[i].name.toList := fun j hj e => by rw [ha.2 ⟨j, hj, e⟩] at h2; cases h2
   cases h3 : isStepM b b.seekers[i].frm
   ·simp
   ·cases h4 : isStepM b b.seekers[i].til
    ·simp
    ·rw [if_neg (by simp)]
     by_cases h5 : b.seekers[i].says < 0
     ·simp [h5]; omega
     ·by_cases h6 : b.seekers[i].says > 2
      ·simp [h6]; omega
      ·rw [if_neg (by simp; omega)]
       exact ⟨fun _ => ⟨⟨rfl, rfl, rfl, by omega, by omega⟩, h2'⟩, fun _ => rfl⟩
  ·rw [if_pos rfl]
   obtain ⟨j, hj, e⟩ := ha.1 h2
   exact ⟨(fun h => by cases h), fun h => absurd e (h.2 j hj)⟩
theorem heard_ok_iff (b : Bk) : heardM b = 0 ↔ b.seekers.length ≤ 5 ∧ (∀ x ∈ b.seekers, okSay b x) ∧ (b.seekers.map (·.name.toList)).Nodup := by
 unfold heardM
 by_cases hl : b.seekers.length > 5
 ·rw [if_pos hl]; exact ⟨(fun h => by cases h), fun h => by omega⟩
 ·rw [if_neg hl, heardL_iff]
  constructor
  ·intro h
   refine ⟨by omega, fun x hx => ?_, ?_⟩
   ·obtain ⟨i, hi, rfl⟩ := List.mem_iff_getElem.1 hx
    exact ((heard1_iff hi).1 (h i hi)).1
   ·refine List.pairwise_iff_getElem.2 fun i j hi hj hij => ?_
    rw [List.length_map] at hi hj
    rw [List.getElem_map, List.getElem_map]
    exact ((heard1_iff hj).1 (h j hj)).2 i hij
  ·rintro ⟨_, h1, h2⟩ i hi
   refine (heard1_iff hi).2 ⟨h1 _ (List.getElem_mem hi), fun j hj => ?_⟩
   have := List.pairwise_iff_getElem.1 h2 j i (by rw [List.length_map]; omega) (by rw [List.length_map]; omega) hj
   rwa [List.getElem_map, List.getElem_map] at this
theorem looked_ok_iff (b : Bk) : lookedM b = 0 ↔ b.seen.length ≤ 4 ∧ ∀ x ∈ b.seen, isStepM b x.step = true := by
 unfold lookedM
 by_cases hl : b.seen.length > 4
 ·rw [if_pos hl]; exact ⟨(fun h => by cases h), fun h => by omega⟩
 ·rw [if_neg hl]
  cases ha : (b.seen.any fun x => !isStepM b x.step)
  ·rw [if_neg (by decide)]
   refine ⟨fun _ => ⟨by omega, fun x hx => ?_⟩, fun _ => rfl⟩
   have := List.any_eq_false.1 ha x hx
   simpa using this
  ·rw [if_pos rfl]
   obtain ⟨x, hx, h⟩ := List.any_eq_true.1 ha
   exact ⟨(fun h => by cases h), fun h2 => by rw [h2.2 x hx] at h; cases h⟩
theorem numbers_iff (b : Bk) : numbersM b = 0 ↔ 4 ≤ b.steps ∧ b.steps ≤ 16 ∧ 0 ≤ b.wrong ∧ b.wrong ≤ 3 ∧ 0 ≤ b.low ∧ b.low ≤ b.high ∧ b.high ≤ 3 := by
 constructor
 ·intro h; exact numbers_range (by rw [h]; rfl)
 ·intro h
  unfold numbersM
  simp only [cond_eq_if, Bool.or_eq_true, Bool.not_eq_true', Bool.and_eq_false_iff, decide_eq_false_iff_not, decide_eq_true_eq]
  rw [if_neg (by omega)]
theorem check_ok_iff (b : Bk) : checkM b = 0 ↔ (4 ≤ b.steps ∧ b.steps ≤ 16 ∧ 0 ≤ b.wrong ∧ b.wrong ≤ 3 ∧ 0 ≤ b.low ∧ b.low ≤ b.high ∧ b.high ≤ 3) ∧ (b.seekers.length ≤ 5 ∧ (∀ x ∈ b.seekers, okSay b x) ∧ (b.seekers.map (·.name.toList)).Nodup) ∧ b.seen.length ≤ 4 ∧ ∀ x ∈ b.seen, isStepM b x.step = true := by
 rw [check_iff, numbers_iff, heard_ok_iff, looked_ok_iff]
/-- Whether what one says is so. -/
def sayR (b : Bk) (S : List Int) (x : Says) : Bool := saysM x.says (inM b S x.frm (wideM b x))
theorem right_say {b : Bk} {S : List Int} {k : Nat} (hk : k < b.seekers.length) : rightM b S k = sayR b S b.seekers[k] := by
 unfold rightM
 rw [List.getElem?_eq_getElem hk]; rfl
theorem bad_list (b : Bk) (S : List Int) : badM b S b.seekers.length = b.seekers.any fun x => !sayR b S x && x.glass := by
 rw [Bool.eq_iff_iff]
 unfold badM
 simp only [List.any_eq_true, List.mem_range]
 constructor
 ·rintro ⟨k, hk, h⟩
  refine ⟨b.seekers[k], List.getElem_mem hk, ?_⟩
  rw [right_say hk] at h
  unfold glassM at h
  rw [List.getElem?_eq_getElem hk] at h
  exact h
 ·rintro ⟨x, hx, h⟩
  obtain ⟨k, hk, rfl⟩ := List.mem_iff_getElem.1 hx
  refine ⟨k, hk, ?_⟩
  rw [right_say hk]
  unfold glassM
  rw [List.getElem?_eq_getElem hk]
  exact h
theorem list_snoc {α : Type} {motive : List α → Prop} (nil : motive []) (append_singleton : ∀ l a, motive l → motive (l ++ [a])) (l : List α) : motive l := by
 rw [← List.reverse_reverse l]
 generalize l.reverse = r
 induction r with
 | nil => exact nil
 | cons a r ih => rw [List.reverse_cons]; exact append_singleton _ _ ih
theorem range_filter {α : Type} (g : Option α → Bool) (l : List α) : ((List.range l.length).filter fun k => g l[k]?).length = (l.filter fun x => g (some x)).length := by
 induction l using list_snoc with
 | nil => rfl
 | append_singleton l a ih =>
  rw [List.length_append, List.length_singleton, List.range_succ, List.filter_append, List.filter_append, List.length_append, List.length_append, ← ih]
  congr 1
  ·congr 1
   exact List.filter_congr fun k hk => by rw [List.getElem?_append_left (List.mem_range.1 hk)]
  ·simp [List.filter_cons]
   split <;> rfl
theorem wrong_list (b : Bk) (S : List Int) : wrongL b S b.seekers.length = (b.seekers.filter fun x => !sayR b S x).length := by
 have h := range_filter (fun o : Option Says => !(match o with | some x => saysM x.says (inM b S x.frm (wideM b x)) | none => false)) b.seekers
 exact h
theorem seen_list (b : Bk) (S : List Int) : seenM b S = true ↔ (b.low ≤ S.length ∧ (S.length : Int) ≤ b.high) ∧ ∀ x ∈ b.seen, decide (x.step ∈ S) = x.seam := by
 unfold seenM
 simp only [Bool.and_eq_true, decide_eq_true_eq, Bool.not_eq_true', List.any_eq_false, bne_iff_ne, ne_eq, Decidable.not_not]
end Go.Vel
end
section
set_option linter.all false
set_option maxRecDepth 20000
set_option maxHeartbeats 60000000
namespace Go.Vel
open Go Go.Conc Go.Proofs
/-! ### the least of a list, by an order that tells all apart -/
structure Tot {α : Type} (lt : α → α → Bool) : Prop where
 irr : ∀ a, lt a a = false
 tri : ∀ a b, lt a b = false → lt b a = false → a = b
 tr : ∀ a b c, lt a b = true → lt b c = true → lt a c = true
theorem Tot.least {α : Type} {lt : α → α → Bool} (h : Tot lt) : ∀ (xs : List α) (o : α), ∀ y ∈ o :: xs, lt y (firstL lt o xs) = false
 | [], o, y, hy => by
  rw [List.mem_singleton.1 hy]
  exact h.irr o
 | x :: xs, o, y, hy => by
  show lt y (firstL lt (if lt x o = true then x else o) xs) = false
  have ih := h.least xs (if lt x o = true then x else o)
  have key : ∀ z, z = x ∨ z = o → lt z (firstL lt (if lt x o = true then x else o) xs) = false := fun z hz => by
   by_cases hc : lt x o = true
   ·rw [if_pos hc] at ih ⊢
    have h1 := ih x List.mem_cons_self
    rcases hz with rfl | rfl
    ·exact h1
    ·rw [Bool.eq_false_iff] at h1 ⊢
     exact fun h2 => h1 (h.tr _ _ _ hc h2)
   ·rw [if_neg hc] at ih ⊢
    have h1 := ih o List.mem_cons_self
    rcases hz with rfl | rfl
    ·rw [Bool.eq_false_iff] at h1 ⊢
     intro h2
     have hc' : lt z o = false := by simpa using hc
     by_cases h3 : lt o z = true
     ·exact h1 (h.tr _ _ _ h3 h2)
     ·have := h.tri _ _ hc' (by simpa using h3)
      subst this
      exact h1 h2
    ·exact h1
  rcases List.mem_cons.1 hy with rfl | hy
  ·exact key _ (.inr rfl)
  ·rcases List.mem_cons.1 hy with rfl | hy
   ·exact key _ (.inl rfl)
   ·exact ih y (List.mem_cons_of_mem _ hy)
theorem Tot.uniq {α : Type} {lt : α → α → Bool} (h : Tot lt) {o m : α} {xs : List α} (hm : m ∈ o :: xs) (hl : ∀ y ∈ o :: xs, lt y m = false) : firstL lt o xs = m :=
 h.tri _ _ (hl _ firstL_mem) (h.least xs o m hm)
theorem Tot.same {α : Type} {lt : α → α → Bool} (h : Tot lt) {o o' : α} {xs xs' : List α} (he : ∀ y, y ∈ o :: xs ↔ y ∈ o' :: xs') : firstL lt o xs = firstL lt o' xs' :=
 h.uniq ((he _).2 firstL_mem) fun y hy => h.least _ _ y ((he y).1 hy)
/-- the least of a list, and what stands for that of none -/
def minL {α : Type} (lt : α → α → Bool) (d : α) (xs : List α) : α := firstL lt (xs.headD d) (xs.drop 1)
theorem minL_mem {α : Type} {lt : α → α → Bool} {d : α} {xs : List α} (h : xs ≠ []) : minL lt d xs ∈ xs := by
 cases xs with
 | nil => exact absurd rfl h
 | cons y ys => exact firstL_mem
theorem Tot.minL_same {α : Type} {lt : α → α → Bool} (h : Tot lt) {d : α} {xs ys : List α} (he : ∀ y, y ∈ xs ↔ y ∈ ys) : minL lt d xs = minL lt d ys := by
 cases xs with
 | nil =>
  cases ys with
  | nil => rfl
  | cons y ys => exact absurd ((he y).2 List.mem_cons_self) (by simp)
 | cons x xs =>
  cases ys with
  | nil => exact absurd ((he x).1 List.mem_cons_self) (by simp)
  | cons y ys => exact h.same he
/-! ### lists by number -/
theorem cmpI2_cases (x y : Int) : (x < y ∧ cmpI2 x y = -1) ∨ (x = y ∧ cmpI2 x y = 0) ∨ (y < x ∧ cmpI2 x y = 1) := by
 unfold cmpI2
 rcases Int.lt_trichotomy x y with h | h | h
 ·exact .inl ⟨h, if_pos h⟩
 ·exact .inr (.inl ⟨h, by rw [if_neg (by omega), if_neg (by omega)]⟩)
 ·exact .inr (.inr ⟨h, by rw [if_neg (by omega), if_pos h]⟩)
theorem cmpL_self : ∀ a : List Int, cmpL a a = 0
 | [] => rfl
 | x :: a => by
  have h := cmpI2_cases x x
  have h1 : cmpI2 x x = 0 := by omega
  show (if cmpI2 x x ≠ 0 then _ else cmpL a a) = 0
  rw [if_neg (by omega), cmpL_self a]
theorem cmpL_zero : ∀ a b : List Int, cmpL a b = 0 → a = b
 | [], [], _ => rfl
 | [], _ :: _, h => by cases h
 | _ :: _, [], h => by cases h
 | x :: a, y :: b, h => by
  have hc := cmpI2_cases x y
  have h : (if cmpI2 x y ≠ 0 then cmpI2 x y else cmpL a b) = 0 := h
  by_cases h0 : cmpI2 x y = 0
  ·rw [if_neg (by omega)] at h
   rw [cmpL_zero a b h, show x = y by omega]
  ·rw [if_pos h0] at h; omega
theorem cmpL_neg : ∀ a b : List Int, cmpL b a = - cmpL a b
 | [], [] => rfl
 | [], _ :: _ => rfl
 | _ :: _, [] => rfl
 | x :: a, y :: b => by
  have h1 := cmpI2_cases x y
  have h2 := cmpI2_cases y x
  show (if cmpI2 y x ≠ 0 then cmpI2 y x else cmpL b a) = - (if cmpI2 x y ≠ 0 then cmpI2 x y else cmpL a b)
  by_cases h0 : cmpI2 x y = 0
  ·rw [if_neg (by omega), if_neg (by omega), cmpL_neg a b]
  ·rw [if_pos (by omega), if_pos (by omega)]; omega
theorem cmpL_tr : ∀ a b c : List Int, cmpL a b < 0 → cmpL b c < 0 → cmpL a c < 0
 | [], [], _, h, _ => by cases h
 | [], _ :: _, [], _, h => by cases h
 | [], _ :: _, _ :: _, _, _ => show (-1 : Int) < 0 by omega
 | _ :: _, [], _, h, _ => by cases h
 | _ :: _, _ :: _, [], _, h => by cases h
 | x :: a, y :: b, z :: c, h1, h2 => by
  have h1 : (if cmpI2 x y ≠ 0 then cmpI2 x y else cmpL a b) < 0 := h1
  have h2 : (if cmpI2 y z ≠ 0 then cmpI2 y z else cmpL b c) < 0 := h2
  show (if cmpI2 x z ≠ 0 then cmpI2 x z else cmpL a c) < 0
  have c1 := cmpI2_cases x y
  have c2 := cmpI2_cases y z
  have c3 := cmpI2_cases x z
  by_cases e1 : cmpI2 x y = 0
  ·rw [if_neg (by omega)] at h1
   by_cases e2 : cmpI2 y z = 0
   ·rw [if_neg (by omega)] at h2
    rw [if_neg (by omega)]
    exact cmpL_tr a b c h1 h2
   ·rw [if_pos e2] at h2
    rw [if_pos (by omega)]; omega
  ·rw [if_pos e1] at h1
   by_cases e2 : cmpI2 y z = 0
   ·rw [if_pos (by omega)]; omega
   ·rw [if_pos e2] at h2
    rw [if_pos (by omega)]; omega
theorem ltLists_iff (a c : List Int) : ltLists a c = true ↔ a.length < c.length ∨ (a.length = c.length ∧ cmpL a c < 0) := by unfold ltLists; simp
theorem ltGuess_iff (a c : List Int × Int) : ltGuess a c = true ↔ a.2 < c.2 ∨ (a.2 = c.2 ∧ cmpL a.1 c.1 < 0) := by unfold ltGuess; simp
theorem tot_lists : Tot ltLists := by
 refine ⟨fun a => ?_, fun a b h1 h2 => ?_, fun a b c h1 h2 => ?_⟩
 ·rw [Bool.eq_false_iff, ne_eq, ltLists_iff]; have := cmpL_self a; omega
 ·rw [Bool.eq_false_iff, ne_eq, ltLists_iff] at h1 h2
  have := cmpL_neg a b
  exact cmpL_zero a b (by omega)
 ·rw [ltLists_iff] at h1 h2 ⊢
  have := cmpL_tr a b c
  omega
theorem tot_guess : Tot ltGuess := by
 refine ⟨fun a => ?_, fun a b h1 h2 => ?_, fun a b c h1 h2 => ?_⟩
 ·rw [Bool.eq_false_iff, ne_eq, ltGuess_iff]; have := cmpL_self a.1; omega
 ·rw [Bool.eq_false_iff, ne_eq, ltGuess_iff] at h1 h2
  have := cmpL_neg a.1 b.1
  exact Prod.ext (cmpL_zero a.1 b.1 (by omega)) (by omega)
 ·rw [ltGuess_iff] at h1 h2 ⊢
  have := cmpL_tr a.1 b.1 c.1
  omega
end Go.Vel
end
section
set_option linter.all false
set_option maxRecDepth 20000
set_option maxHeartbeats 60000000
namespace Go.Vel
open Go Go.Conc Go.Proofs
/-! ### the specification's Likely and Clash are the program's -/
theorem own_seen {b : Bk} {S R : List Int} (h : R ∈ ownM b S) : seenM b R = true := by
 unfold ownM at h
 split at h
 ·rename_i hc; rw [List.mem_singleton.1 h]; exact hc
 ·cases h
theorem loop_seen {b : Bk} : ∀ (rest S R : List Int), R ∈ loopM b S rest → seenM b R = true
 | [], S, R, h => by cases h
 | n :: rest, S, R, h => by
  simp only [loopM] at h
  split at h
  ·rcases List.mem_append.1 h with h | h
   ·rcases List.mem_append.1 h with h | h
    ·exact own_seen h
    ·exact loop_seen rest _ R h
   ·exact loop_seen rest _ R h
  ·cases h
theorem all_seen {b : Bk} {R : List Int} (h : R ∈ allM b) : seenM b R = true := by
 rcases List.mem_append.1 h with h | h
 ·exact own_seen h
 ·exact loop_seen _ _ _ h
theorem all_sets {b : Bk} (hb : BkOk b) (S : List Int) : S ∈ allM b ↔ S ∈ setsB b ∧ seenM b S = true := by
 constructor
 ·intro h1
  refine ⟨sets_mem _ S (allM_pair h1) (fun x hx => ?_) ?_, all_seen h1⟩
  ·have := (allM_ok hb S h1).mem x hx; omega
  ·have := all_seen h1
   unfold seenM at this
   simp only [Bool.and_eq_true, decide_eq_true_eq] at this
   exact this.1.2
 ·rintro ⟨h1, h2⟩
  refine memA (sets_pair _ S h1) (fun x hx => ?_) h2
  have := setsM_mem _ S h1 x hx
  have := hb.steps
  omega
def goodS (b : Bk) (S : List Int) : Bool := seenM b S && !badM b S b.seekers.length
def guessS (b : Bk) (pre : List (List Int)) : List (List Int × Int) := (pre.filter (goodS b)).map fun S => (S, wrongM b S)
/-! Clash -/
def allS (b : Bk) (S l : List Int) : Bool := l.all fun k => rightM b S k.toNat
def togS (b : Bk) (l : List Int) : Bool := (setsB b).any fun S => seenM b S && allS b S l
theorem allR_bits (b : Bk) (S : List Int) (bits n : Nat) : allR b S bits n = allS b S (bitsM n bits) := by
 unfold allR allS bitsM
 rw [List.all_map, List.all_filter]
 rfl
theorem tog_eq {b : Bk} (hb : BkOk b) (bits : Nat) : togM b bits = togS b (bitsM b.seekers.length bits) := by
 rw [Bool.eq_iff_iff]
 unfold togM togS
 simp only [List.any_eq_true, Bool.and_eq_true, allR_bits, all_sets hb]
 constructor
 ·rintro ⟨S, ⟨h1, h2⟩, h3⟩; exact ⟨S, h1, h2, h3⟩
 ·rintro ⟨S, h1, h2, h3⟩; exact ⟨S, ⟨h1, h2⟩, h3⟩
def uptoM (n : Nat) : List Int := (List.range n).map fun k : Nat => (k : Int)
theorem bitB_test (bits i : Nat) : bitB bits i = bits.testBit i := by
 unfold bitB
 rw [Nat.testBit_eq_decide_div_mod_eq, Bool.eq_iff_iff, beq_iff_eq, decide_eq_true_eq]
 omega
theorem bits_all (n : Nat) : bitsM n (2 ^ n - 1) = uptoM n := by
 unfold bitsM uptoM
 rw [List.filter_eq_self.2 fun i hi => ?_]
 rw [bitB_test, Nat.testBit_two_pow_sub_one]
 exact decide_eq_true (List.mem_range.1 hi)
theorem bits_up {n c : Nat} (h : c < 2 ^ n) : bitsM n (2 ^ n + c) = bitsM n c := by
 unfold bitsM
 congr 1
 refine List.filter_congr fun i hi => ?_
 rw [bitB_test, bitB_test, Nat.testBit_two_pow_add_gt (List.mem_range.1 hi)]
theorem bits_get : ∀ (n : Nat) (l : List Int), l.Pairwise (· < ·) → (∀ x ∈ l, 0 ≤ x ∧ x < n) → ∃ c, c < 2 ^ n ∧ bitsM n c = l
 | 0, l, _, hr => by
  cases l with
  | nil => exact ⟨0, by decide, rfl⟩
  | cons x l => have := hr x (by simp); omega
 | n + 1, l, hp, hr => by
  have hpw : 2 ^ (n + 1) = 2 ^ n + 2 ^ n := by rw [Nat.pow_succ]; omega
  have low : (∀ x ∈ l, x < (n : Int)) → ∃ c, c < 2 ^ (n + 1) ∧ bitsM (n + 1) c = l := fun h => by
   obtain ⟨c, h1, h2⟩ := bits_get n l hp fun x hx => ⟨(hr x hx).1, h x hx⟩
   refine ⟨c, by omega, ?_⟩
   rw [bitsM_F, h2]
   rw [bitB_test]
   exact Nat.testBit_lt_two_pow h1
  rcases List.eq_nil_or_concat l with rfl | ⟨y, a, rfl⟩
  ·exact low fun x hx => by cases hx
  ·rw [List.concat_eq_append] at hp hr low ⊢
   have hp2 := List.pairwise_append.1 hp
   have ha := hr a (by simp)
   have hlt : ∀ x ∈ y, x < a := fun x hx => hp2.2.2 x hx a (by simp)
   by_cases e : a = n
   ·subst e
    obtain ⟨c, h1, h2⟩ := bits_get n y hp2.1 fun x hx => ⟨(hr x (by simp [hx])).1, hlt x hx⟩
    refine ⟨2 ^ n + c, by omega, ?_⟩
    rw [bitsM_T, bits_up h1, h2]
    rw [bitB_test, Nat.testBit_two_pow_add_eq, Nat.testBit_lt_two_pow h1]; rfl
   ·refine low fun x hx => ?_
    have h1 := hr x hx
    rcases List.mem_append.1 hx with hx | hx
    ·have := hlt x hx; omega
    ·rw [List.mem_singleton.1 hx] at h1 ⊢; omega
theorem bits_sets {n c : Nat} : bitsM n c ∈ setsM n n := by
 have hp : (uptoM n).Pairwise (· < ·) := by
  unfold uptoM
  rw [List.pairwise_map]
  exact List.pairwise_lt_range.imp fun h => by omega
 have hs : (bitsM n c).Sublist (uptoM n) := List.Sublist.map _ List.filter_sublist
 refine sets_mem n _ (hp.sublist hs) (fun x hx => ?_) (by have := bitsM_len n c; omega)
 obtain ⟨k, hk, rfl⟩ := List.mem_map.1 (hs.subset hx)
 have := List.mem_range.1 hk
 omega
def oddS (b : Bk) (pre : List (List Int)) : List (List Int) := pre.filter fun l => !togS b l
theorem odd_same {b : Bk} (hb : BkOk b) (h0 : togS b (uptoM b.seekers.length) = false) (y : List Int) : y ∈ uptoM b.seekers.length :: oddS b (setsM b.seekers.length b.seekers.length) ↔ y ∈ oddM b (everyM b + 1) := by
 have hpw : everyM b + 1 = 2 ^ b.seekers.length := by unfold everyM; have := Nat.one_le_two_pow (n := b.seekers.length); omega
 unfold oddM oddS
 rw [hpw]
 simp only [List.mem_cons, List.mem_filter, List.mem_map, List.mem_range, tog_eq hb]
 constructor
 ·rintro (rfl | ⟨h1, h2⟩)
  ·exact ⟨2 ^ b.seekers.length - 1, ⟨by have := Nat.one_le_two_pow (n := b.seekers.length); omega, by rw [bits_all, h0]; rfl⟩, bits_all _⟩
  ·obtain ⟨c, h3, h4⟩ := bits_get _ y (sets_pair _ y h1) (setsM_mem _ y h1)
   exact ⟨c, ⟨h3, by rw [h4]; exact h2⟩, h4⟩
 ·rintro ⟨c, ⟨_, h2⟩, rfl⟩
  exact .inr ⟨bits_sets, h2⟩
theorem clash_eq {b : Bk} (hb : BkOk b) (h0 : togS b (uptoM b.seekers.length) = false) : firstL ltLists (uptoM b.seekers.length) (oddS b (setsM b.seekers.length b.seekers.length)) = clashM b := by
 have := tot_lists.minL_same (d := []) (odd_same hb h0)
 exact this
theorem tog_every {b : Bk} (hb : BkOk b) : togM b (everyM b) = togS b (uptoM b.seekers.length) := by
 rw [tog_eq hb, show everyM b = 2 ^ b.seekers.length - 1 from rfl, bits_all]
end Go.Vel
end
section
set_option linter.all false
set_option maxRecDepth 20000
set_option maxHeartbeats 60000000
namespace Go.Vel
open Go Go.Conc Go.Proofs
/-! ### which is likely -/
theorem likely_is {b : Bk} (hb : BkOk b) (hg : guessM b (allM b) ≠ []) : (likelyM b).1 ∈ setsB b ∧ seenM b (likelyM b).1 = true ∧ badM b (likelyM b).1 b.seekers.length = false ∧ (likelyM b).2 = wrongL b (likelyM b).1 b.seekers.length := by
 have h1 : likelyM b ∈ guessM b (allM b) := minL_mem (lt := ltGuess) (d := ([], 0)) hg
 obtain ⟨S, h2, h3⟩ := List.mem_map.1 h1
 obtain ⟨h4, h5⟩ := List.mem_filter.1 h2
 obtain ⟨h6, h7⟩ := (all_sets hb S).1 h4
 have h5 : badM b S b.seekers.length = false := by simpa using h5
 rw [← h3]
 refine ⟨h6, h7, h5, ?_⟩
 show wrongM b S = _
 unfold wrongM
 rw [if_neg (by rw [h5]; decide)]
theorem can_iff (b : Bk) (S : List Int) : canM b S = true ↔ badM b S b.seekers.length = false ∧ (wrongL b S b.seekers.length : Int) ≤ b.wrong ∧ seenM b S = true := by
 unfold canM
 simp only [Bool.and_eq_true, Bool.not_eq_true', decide_eq_true_eq, and_assoc]
end Go.Vel
end
section
set_option linter.all false
set_option maxRecDepth 20000
set_option maxHeartbeats 60000000
namespace Go.Vel
open Go Go.Conc Go.Proofs
/-! ### a book whose lists are the other way round -/
def revB (b : Bk) : Bk := { b with seekers := b.seekers.reverse, seen := b.seen.reverse }
theorem rev_check {b : Bk} (h : checkM b = 0) : checkM (revB b) = 0 := by
 obtain ⟨h1, ⟨h2, h3, h4⟩, h5, h6⟩ := (check_ok_iff b).1 h
 refine (check_ok_iff _).2 ⟨h1, ⟨?_, fun x hx => h3 x (List.mem_reverse.1 hx), ?_⟩, ?_, fun x hx => h6 x (List.mem_reverse.1 hx)⟩
 ·show b.seekers.reverse.length ≤ 5
  rw [List.length_reverse]; exact h2
 ·show (b.seekers.reverse.map _).Nodup
  rw [List.map_reverse]
  exact (List.reverse_perm _).nodup_iff.2 h4
 ·show b.seen.reverse.length ≤ 4
  rw [List.length_reverse]; exact h5
theorem rev_say (b : Bk) (S : List Int) (x : Says) : sayR (revB b) S x = sayR b S x := rfl
theorem rev_bad (b : Bk) (S : List Int) : badM (revB b) S (revB b).seekers.length = badM b S b.seekers.length := by
 rw [bad_list, bad_list]
 show (b.seekers.reverse.any fun x => !sayR b S x && x.glass) = _
 rw [List.any_reverse]
theorem rev_wrong (b : Bk) (S : List Int) : wrongL (revB b) S (revB b).seekers.length = wrongL b S b.seekers.length := by
 rw [wrong_list, wrong_list]
 show (b.seekers.reverse.filter fun x => !sayR b S x).length = _
 rw [List.filter_reverse, List.length_reverse]
theorem rev_seen (b : Bk) (S : List Int) : seenM (revB b) S = seenM b S := by
 rw [Bool.eq_iff_iff, seen_list, seen_list]
 show (b.low ≤ (S.length : Int) ∧ (S.length : Int) ≤ b.high) ∧ (∀ x ∈ b.seen.reverse, decide (x.step ∈ S) = x.seam) ↔ _
 simp only [List.mem_reverse]
theorem rev_can (b : Bk) (S : List Int) : canM (revB b) S = canM b S := by
 rw [Bool.eq_iff_iff, can_iff, can_iff, rev_bad, rev_wrong, rev_seen]; rfl
theorem rev_states {b : Bk} (h : checkM b = 0) : (statesM (revB b)).Perm (statesM b) := by
 refine (List.perm_ext_iff_of_nodup (states_nodup _) (states_nodup _)).2 fun S => ?_
 rw [mem_states (bkOk_of (rev_check h)), mem_states (bkOk_of h), rev_can]; rfl
theorem rev_guess {b : Bk} (h : checkM b = 0) (y : List Int × Int) : y ∈ guessM (revB b) (allM (revB b)) ↔ y ∈ guessM b (allM b) := by
 unfold guessM
 simp only [List.mem_map, List.mem_filter, all_sets (bkOk_of (rev_check h)), all_sets (bkOk_of h), rev_seen, rev_bad]
 have hw : ∀ S, wrongM (revB b) S = wrongM b S := fun S => by unfold wrongM; rw [rev_bad, rev_wrong]
 simp only [hw]
 exact Iff.rfl
theorem rev_likely {b : Bk} (h : checkM b = 0) : likelyM (revB b) = likelyM b ∧ (guessM (revB b) (allM (revB b)) = [] ↔ guessM b (allM b) = []) := by
 refine ⟨tot_guess.minL_same (rev_guess h), ?_⟩
 rw [List.eq_nil_iff_forall_not_mem, List.eq_nil_iff_forall_not_mem]
 exact ⟨fun h2 y hy => h2 y ((rev_guess h y).2 hy), fun h2 y hy => h2 y ((rev_guess h y).1 hy)⟩
theorem rev_within {b : Bk} (h : checkM b = 0) (lo w : Int) : withinM (revB b) (statesM (revB b)) lo w = withinM b (statesM b) lo w := withinM_perm (rev_states h) lo w
theorem rev_oft {b : Bk} (h : checkM b = 0) (n : Int) : oftM (statesM (revB b)) n = oftM (statesM b) n := oftM_perm (rev_states h) n
theorem rev_len {b : Bk} (h : checkM b = 0) : (statesM (revB b)).length = (statesM b).length := (rev_states h).length_eq
theorem rev_ask {b : Bk} (h : checkM b = 0) (t : Bool) : askM (revB b) t = askM b t := by
 unfold askM
 rw [h, rev_check h]
 have : statesM (revB b) = [] ↔ statesM b = [] := by rw [← List.length_eq_zero_iff, ← List.length_eq_zero_iff, rev_len h]
 simp only [this]
theorem rev_narrow {b : Bk} (h : checkM b = 0) : narrowApi (revB b) = narrowApi b := by
 have e : arcsOf (revB b) (List.range (revB b).steps.toNat) = arcsOf b (List.range b.steps.toNat) := by
  unfold arcsOf
  congr 1
  funext low
  unfold arcA arcK
  rw [show (revB b).steps = b.steps from rfl]
  simp only [rev_within h]
 unfold narrowApi narrowM
 rw [e, rev_ask h]
theorem rev_pick {b : Bk} (h : checkM b = 0) (v : Int) (n : Nat) : pickL (revB b) v n = pickL b v n := by
 unfold pickL
 simp only [rev_oft h, rev_len h]
theorem rev_right {b : Bk} {S : List Int} {k : Nat} (hk : k < b.seekers.length) : rightM (revB b) S (b.seekers.length - 1 - k) = rightM b S k := by
 rw [right_say (b := revB b) (by show _ < b.seekers.reverse.length; rw [List.length_reverse]; omega), right_say hk, rev_say]
 congr 1
 show b.seekers.reverse[b.seekers.length - 1 - k]'_ = _
 rw [List.getElem_reverse]
 congr 1
 omega
theorem rev_rights {b : Bk} (h : checkM b = 0) {k : Nat} (hk : k < b.seekers.length) : rightsM (revB b) (statesM (revB b)) (b.seekers.length - 1 - k) = rightsM b (statesM b) k := by
 rw [rightsM_perm (rev_states h)]
 unfold rightsM
 congr 2
 exact List.filter_congr fun S _ => rev_right hk
theorem rev_halves {b : Bk} (h : checkM b = 0) : askApi (revB b) = askApi b := by
 have e : ∀ N, halvesM ((statesM (revB b)).length : Nat) (fun k => isStepM (revB b) k) (fun k => oftM (statesM (revB b)) k) N = halvesM ((statesM b).length : Nat) (fun k => isStepM b k) (fun k => oftM (statesM b) k) N := fun N => by
  rw [rev_len h, show (fun k : Nat => oftM (statesM (revB b)) k) = fun k : Nat => oftM (statesM b) k from funext fun k => rev_oft h k]; rfl
 unfold askApi
 rw [rev_ask h, e, show (revB b).steps = b.steps from rfl]
end Go.Vel
end
section
set_option linter.all false
set_option maxRecDepth 20000
set_option maxHeartbeats 60000000
namespace Go.Vel
open Go Go.Conc Go.Proofs
/-! ### who clash -/
theorem upto_sets (n : Nat) : uptoM n ∈ setsM (n : Int) n := by rw [← bits_all]; exact bits_sets
theorem clash_is {b : Bk} (hb : BkOk b) (h0 : togS b (uptoM b.seekers.length) = false) : clashM b ∈ setsM (b.seekers.length : Int) b.seekers.length ∧ togS b (clashM b) = false := by
 rw [← clash_eq hb h0]
 have h := firstL_mem (lt := ltLists) (o := uptoM b.seekers.length) (xs := oddS b (setsM b.seekers.length b.seekers.length))
 rcases List.mem_cons.1 h with h | h
 ·rw [h]; exact ⟨upto_sets _, h0⟩
 ·obtain ⟨h1, h2⟩ := List.mem_filter.1 h
  exact ⟨h1, by simpa using h2⟩
theorem clash_least {b : Bk} (hb : BkOk b) (h0 : togS b (uptoM b.seekers.length) = false) {l : List Int} (hl : l ∈ setsM (b.seekers.length : Int) b.seekers.length) (ht : togS b l = false) : ltLists l (clashM b) = false := by
 rw [← clash_eq hb h0]
 exact tot_lists.least _ _ l (List.mem_cons_of_mem _ (List.mem_filter.2 ⟨hl, by rw [ht]; rfl⟩))
theorem clash_len_le {b : Bk} (hb : BkOk b) (h0 : togS b (uptoM b.seekers.length) = false) {l : List Int} (hl : l ∈ setsM (b.seekers.length : Int) b.seekers.length) (ht : togS b l = false) : (clashM b).length ≤ l.length := by
 have h := clash_least hb h0 hl ht
 rw [Bool.eq_false_iff, ne_eq, ltLists_iff] at h
 omega
def refl (n : Nat) (l : List Int) : List Int := l.reverse.map fun x => (n : Int) - 1 - x
theorem refl_len (n : Nat) (l : List Int) : (refl n l).length = l.length := by unfold refl; rw [List.length_map, List.length_reverse]
theorem refl_sets {n : Nat} {l : List Int} (h : l ∈ setsM (n : Int) n) : refl n l ∈ setsM (n : Int) n := by
 have h1 := sets_pair _ l h
 have h2 := setsM_mem _ l h
 have h3 := setsM_short (most := (n : Int)) (by omega) _ l h
 refine sets_mem n _ ?_ (fun x hx => ?_) (by rw [refl_len]; exact h3)
 ·unfold refl
  rw [List.pairwise_map]
  exact (List.pairwise_reverse.2 h1).imp fun h => by omega
 ·unfold refl at hx
  obtain ⟨y, hy, rfl⟩ := List.mem_map.1 hx
  have := h2 y (List.mem_reverse.1 hy)
  omega
theorem rev_allS {b : Bk} {S l : List Int} (hl : ∀ x ∈ l, 0 ≤ x ∧ x < b.seekers.length) : allS (revB b) S l = allS b S (refl b.seekers.length l) := by
 rw [Bool.eq_iff_iff]
 unfold allS refl
 simp only [List.all_eq_true, List.mem_map, List.mem_reverse, forall_exists_index, and_imp, forall_apply_eq_imp_iff₂]
 have key : ∀ x ∈ l, rightM (revB b) S x.toNat = rightM b S ((b.seekers.length : Int) - 1 - x).toNat := fun x hx => by
  have := hl x hx
  have h := rev_right (b := b) (S := S) (k := ((b.seekers.length : Int) - 1 - x).toNat) (by omega)
  rw [← h]
  congr 1
  omega
 exact ⟨fun h x hx => by rw [← key x hx]; exact h x hx, fun h x hx => by rw [key x hx]; exact h x hx⟩
theorem rev_tog {b : Bk} {l : List Int} (hl : ∀ x ∈ l, 0 ≤ x ∧ x < b.seekers.length) : togS (revB b) l = togS b (refl b.seekers.length l) := by
 unfold togS
 rw [show setsB (revB b) = setsB b from rfl]
 congr 1
 funext S
 rw [rev_seen, rev_allS hl]
theorem tog_mono {b : Bk} {l m : List Int} (h : ∀ x ∈ l, x ∈ m) (ht : togS b m = true) : togS b l = true := by
 unfold togS allS at ht ⊢
 simp only [List.any_eq_true, Bool.and_eq_true, List.all_eq_true] at ht ⊢
 obtain ⟨S, h1, h2, h3⟩ := ht
 exact ⟨S, h1, h2, fun x hx => h3 x (h x hx)⟩
theorem rev_upto {b : Bk} : togS (revB b) (uptoM (revB b).seekers.length) = togS b (uptoM b.seekers.length) := by
 have hn : (revB b).seekers.length = b.seekers.length := by show b.seekers.reverse.length = _; rw [List.length_reverse]
 rw [hn, rev_tog fun x hx => setsM_mem _ _ (upto_sets _) x hx]
 have hm : ∀ x, x ∈ refl b.seekers.length (uptoM b.seekers.length) ↔ x ∈ uptoM b.seekers.length := fun x => by
  unfold refl uptoM
  simp only [List.mem_map, List.mem_reverse, List.mem_range]
  constructor
  ·rintro ⟨y, ⟨k, hk, rfl⟩, rfl⟩; exact ⟨b.seekers.length - 1 - k, by omega, by omega⟩
  ·rintro ⟨k, hk, rfl⟩; exact ⟨_, ⟨b.seekers.length - 1 - k, by omega, rfl⟩, by omega⟩
 rw [Bool.eq_iff_iff]
 exact ⟨tog_mono fun x hx => (hm x).2 hx, tog_mono fun x hx => (hm x).1 hx⟩
theorem rev_clash {b : Bk} (h : checkM b = 0) (h0 : togS b (uptoM b.seekers.length) = false) : (clashM (revB b)).length = (clashM b).length := by
 have hb := bkOk_of h
 have ho := bkOk_of (rev_check h)
 have hn : (revB b).seekers.length = b.seekers.length := by show b.seekers.reverse.length = _; rw [List.length_reverse]
 have h1 : togS (revB b) (uptoM (revB b).seekers.length) = false := by rw [rev_upto]; exact h0
 obtain ⟨c1, c2⟩ := clash_is hb h0
 obtain ⟨d1, d2⟩ := clash_is ho h1
 rw [hn] at d1
 have e1 : (clashM b).length ≤ (clashM (revB b)).length := by
  rw [← refl_len b.seekers.length (clashM (revB b))]
  exact clash_len_le hb h0 (refl_sets d1) (by rw [← rev_tog (setsM_mem _ _ d1)]; exact d2)
 have hrr : ∀ l : List Int, refl b.seekers.length (refl b.seekers.length l) = l := fun l => by
  unfold refl
  rw [← List.map_reverse, List.reverse_reverse, List.map_map]
  conv => rhs; rw [← List.map_id l]
  congr 1
  funext x
  show (b.seekers.length : Int) - 1 - ((b.seekers.length : Int) - 1 - x) = x
  omega
 have e2 : (clashM (revB b)).length ≤ (clashM b).length := by
  rw [← refl_len b.seekers.length (clashM b)]
  refine clash_len_le ho h1 (by rw [hn]; exact refl_sets c1) ?_
  rw [rev_tog (setsM_mem _ _ (refl_sets c1)), hrr]; exact c2
 omega
end Go.Vel
end
section
set_option linter.all false
set_option maxRecDepth 20000
set_option maxHeartbeats 60000000
namespace Go.Vel
open Go Go.Conc Go.Proofs
/-! ### arcs -/
end Go.Vel
end
section
set_option linter.all false
set_option maxRecDepth 20000
set_option maxHeartbeats 60000000
namespace Go.Vel
open Go Go.Conc Go.Proofs
/-! ### what Ask and Lend tell -/
theorem states_one {b : Bk} (hc : checkM b = 0) : (statesApi b).1 = (statesM b).length ∧ (statesApi b).2 = 0 := by
 unfold statesApi
 rw [if_neg (by simp [hc])]
 exact ⟨rfl, rfl⟩
def fitM (b : Bk) : Bool := !greatM b && checkM b == 0
/-- What is so of a book that can be asked about. -/
structure Fits9 (b : Bk) : Prop where
 check : checkM b = 0
 names : ∀ x ∈ b.seekers, x.name.size ≤ 1000
 seen : b.seen.length ≤ 1000
 says : b.seekers.length ≤ 1000
 small : ∀ x ∈ b.seekers, x.name.size ≤ 100
theorem fit_of {b : Bk} (h : fitM b = true) : Fits9 b := by
 unfold fitM at h
 simp only [Bool.and_eq_true, Bool.not_eq_true', beq_iff_eq] at h
 obtain ⟨h1, h2, h3⟩ := great_small h.1
 exact ⟨h.2, fun x hx => Nat.le_trans (h3 x hx) (by omega), by omega, by omega, h3⟩
end Go.Vel
end
section
set_option linter.all false
set_option maxRecDepth 20000
set_option maxHeartbeats 60000000
namespace Go.Vel
open Go Go.Conc Go.Proofs

section
variable {P : Program} {gm : Nat → Option Nat} {T : Goroutine → Hp → Prop} {Y : KX P gm T} {ds : List Nat} {k : List Item} {env env' : List AV} {K K' K1 : KV} {ops : Array Oper} {i : Nat} {L' : List Nat} {o : Oper} {envf : Nat → List AV} {pend pend' : List Pd}
end

end Go.Vel
end
section
set_option linter.all false
set_option maxRecDepth 20000
set_option maxHeartbeats 60000000
namespace Go.Vel
open Go Go.Conc Go.Proofs

section
variable {P : Program} {gm : Nat → Option Nat} {T : Goroutine → Hp → Prop} {Y : KX P gm T} {ds : List Nat} {k : List Item} {env env' : List AV} {K K' : KV}
end
def newsR (b o : Bk) : Int := if checkM b ≠ 0 then checkM b else knownBar o true
def giveR (b : Bk) (k : Int) : Int := if checkM b ≠ 0 then checkM b else if isSeekerM b k = false then 6 else if glassB b k.toNat = true then 5 else knownBar (giveB b k.toNat) true

end Go.Vel
end
section
set_option linter.all false
set_option maxRecDepth 20000
set_option maxHeartbeats 60000000
namespace Go.Vel
open Go Go.Conc Go.Proofs

end Go.Vel
end
section
set_option linter.all false
set_option maxRecDepth 20000
set_option maxHeartbeats 60000000
namespace Go.Vel
open Go Go.Conc Go.Proofs
instance : Cal Tryd.prog 19 := ⟨by kernel_rfl⟩
instance : Cal Tryd.prog 20 := ⟨by kernel_rfl⟩
end Go.Vel
end
section
set_option linter.all false
set_option maxRecDepth 20000
set_option maxHeartbeats 60000000
namespace Go.Vel
open Go Go.Conc Go.Proofs

def whoM (b : Bk) (k : Int) : Int := if (b.seekers.length : Int) = 0 then -1 else k % b.seekers.length
end Go.Vel
end
section
set_option linter.all false
set_option maxRecDepth 20000
set_option maxHeartbeats 60000000
namespace Go.Vel
open Go Go.Conc Go.Proofs
/-! ### what the law of arcs asks -/
def cntX (b : Bk) : List Int := if askM b true = 0 then countsM b else []
def sureX (b : Bk) : List Int := if askM b true = 0 then pickL b 1 b.steps.toNat else []
def perhX (b : Bk) : List Int := if askM b true = 0 then pickL b 0 b.steps.toNat else []
end Go.Vel
end
section
set_option linter.all false
set_option maxRecDepth 20000
set_option maxHeartbeats 60000000
namespace Go.Vel
open Go Go.Conc Go.Proofs
/-! ### what the law of any order asks -/
def lkX (b : Bk) : List Int × Int × Bool := if guessM b (allM b) = [] then ([], 0, false) else ((likelyM b).1, (likelyM b).2, true)
def ckX (b : Bk) : List Int := if togM b (everyM b) = true then [] else clashM b
theorem rev_lkX {b : Bk} (h : checkM b = 0) : lkX (revB b) = lkX b := by
 obtain ⟨h1, h2⟩ := rev_likely h
 unfold lkX
 rw [h1]
 by_cases h0 : guessM b (allM b) = []
 ·rw [if_pos h0, if_pos (h2.2 h0)]
 ·rw [if_neg h0, if_neg (fun h => h0 (h2.1 h))]
theorem lkX_len {b : Bk} (h : checkM b = 0) : (lkX b).1.length ≤ 100000 := by
 unfold lkX
 split
 ·simp
 ·rename_i h0
  have hb := bkOk_of h
  have h1 := (setsB_iff hb (by have := (numbers_iff b).1 ((check_iff b).1 h).1; omega) _).1 (likely_is hb h0).1
  have := hb.high
  have h2 := h1.2.2
  show (likelyM b).1.length ≤ _
  omega
theorem rev_ckX {b : Bk} (h : checkM b = 0) : (ckX (revB b)).length = (ckX b).length := by
 have he : togM (revB b) (everyM (revB b)) = togM b (everyM b) := by rw [tog_every (bkOk_of (rev_check h)), tog_every (bkOk_of h), rev_upto]
 unfold ckX
 rw [he]
 split
 ·rfl
 ·rename_i h0
  exact rev_clash h (by rw [← tog_every (bkOk_of h)]; simpa using h0)
theorem rev_wrongApi {b : Bk} (h : checkM b = 0) {q : Nat} (hq : q < b.seekers.length) : wrongApi (revB b) ((b.seekers.length : Int) - 1 - q) = wrongApi b q := by
 have hn : (revB b).seekers.length = b.seekers.length := by show b.seekers.reverse.length = _; rw [List.length_reverse]
 have h1 : isSeekerM (revB b) ((b.seekers.length : Int) - 1 - q) = true := by unfold isSeekerM; rw [hn]; simp only [Bool.and_eq_true, decide_eq_true_eq]; omega
 have h2 : isSeekerM b q = true := by unfold isSeekerM; simp only [Bool.and_eq_true, decide_eq_true_eq]; omega
 unfold wrongApi
 rw [h1, h2, rev_ask h, rev_len h, show ((b.seekers.length : Int) - 1 - q).toNat = b.seekers.length - 1 - q by omega, rev_rights h hq, Int.toNat_natCast]
theorem rev_take {α : Type} {l : List α} {q m : Nat} (hq : q < l.length) (hm : (m : Int) = l.length - 1 - q) (hml : m < l.length) : l.reverse.take (q + 1) = l.reverse.take q ++ [l[m]] := by
 obtain rfl : m = l.length - 1 - q := by omega
 rw [List.take_add_one, List.getElem?_reverse hq, List.getElem?_eq_getElem hml]
 rfl
theorem rev_takeN {α : Type} {l : List α} : l.reverse.take l.length = l.reverse := by
 rw [List.take_of_length_le (by rw [List.length_reverse]; exact Nat.le_refl _)]
theorem rev_takeL {α : Type} {l : List α} {q : Nat} (h : q ≤ l.length) : (l.reverse.take q).length = q := by
 rw [List.length_take, List.length_reverse]; omega
theorem sureX_rev {b : Bk} (h : checkM b = 0) : sureX (revB b) = sureX b := by
 unfold sureX; rw [rev_ask h, show (revB b).steps = b.steps from rfl, rev_pick h]
theorem perhX_rev {b : Bk} (h : checkM b = 0) : perhX (revB b) = perhX b := by
 unfold perhX; rw [rev_ask h, show (revB b).steps = b.steps from rfl, rev_pick h]
theorem sureX_len {b : Bk} (hb : BkOk b) : (sureX b).length ≤ 100000 := by
 unfold sureX
 have h1 := pickL_len b 1 b.steps.toNat
 have h2 := hb.steps
 split
 ·omega
 ·simp
theorem perhX_len {b : Bk} (hb : BkOk b) : (perhX b).length ≤ 100000 := by
 unfold perhX
 have h1 := pickL_len b 0 b.steps.toNat
 have h2 := hb.steps
 split
 ·omega
 ·simp
end Go.Vel
end
section
set_option linter.all false
set_option maxRecDepth 20000
set_option maxHeartbeats 60000000
namespace Go.Vel
open Go Go.Conc Go.Proofs

section
variable {P : Program} {gm : Nat → Option Nat} {T : Goroutine → Hp → Prop} {Y : KX P gm T} {ds : List Nat} {k : List Item} {env : List AV} {K : KV}
/-- A slice of nothing in a cell of several is a row. -/
theorem TK.virtAt {l : List AV} {i : Nat} {t e : TypeId} {rw' : Bool} {x : Option Addr} {size j : Nat} {K' : Nat → KV} (hi : l[i]? = some (.v (.slice x 0 0))) (hu : ∀ j', Upd K j (.cells l t rw') j (.cells (l.set i (.row j' 0)) t rw') (K' j')) (h : ∀ j', j' ∉ keys K → TK Y ds k env ((j', .row [] e size) :: K' j')) : TK Y ds k env K := fun A hA φ H ts h1 h2 h3 h4 h5 h6 => by
 have hk : A.length ∉ keys K := fun hm => absurd (hA.view.lt hm) (Nat.lt_irrefl _)
 have hH := h5.virt e size
 have hag := agr_upd3 φ A.length ⟨0, 0, 0⟩
 have hlen : (A ++ [AObj.row [] e size]).length = A.length + 1 := by simp
 have hds : dsC (upd3 φ A.length ⟨0, 0, 0⟩) ds = dsC φ ds := by
  unfold dsC
  exact List.map_congr_left fun d hd' => by rw [hag d (h4 d hd')]
 have hj := hA.view.get (hu A.length).mem
 have hjl : j < A.length := (List.getElem?_eq_some_iff.1 hj).1
 have hj2 : (A ++ [AObj.row [] e size])[j]? = some (.cells l t rw') := by rw [List.getElem?_append_left hjl]; exact hj
 have hstep := hA.step (.push hA.view hA.nd (.row [] e size))
 have hstep2 := hstep.step (.set hstep.view hstep.nd (Upd.tail (hu A.length)))
 have hil : i < l.length := (List.getElem?_eq_some_iff.1 hi).1
 have hne : l ≠ [] := fun e => by rw [e] at hil; exact absurd hil (Nat.not_lt_zero _)
 rw [← hds]
 refine h _ hk _ hstep2 _ H ts (h1.trans hag h2) (by simp; omega) (by simpa using h3.mono hag (by omega)) (fun d hd => by have := h4 d hd; simp; omega) (hH.turn hj2 (fun ho hl => ?_) (fun h => h) (fun _ => rfl) (fun hs => by simpa [sol] using hne)) (by simpa using h6.mono hag (by omega))
 obtain ⟨rw2, cur, fz, q1, q2, q3⟩ := ho hne
 refine ⟨rw2, cur, fz, q1, q2, fun t' a ha => ?_⟩
 by_cases e : t' = i
 ·subst e
  rw [List.getElem?_set_self hil] at ha
  cases ha
  obtain ⟨y, hy, hr⟩ := q3 t' _ hi
  refine ⟨y, hy, ?_⟩
  rw [inv_v hr]
  refine .row (by omega) (by simp) ?_
  unfold rowV
  simp [upd3]
 ·rw [List.getElem?_set_ne (fun h => e h.symm)] at ha
  exact q3 t' a ha
end
end Go.Vel
end
section
set_option linter.all false
set_option maxRecDepth 20000
set_option maxHeartbeats 60000000
namespace Go.Vel
open Go Go.Conc Go.Proofs
section
variable {P : Program} {gm : Nat → Option Nat} {T : Goroutine → Hp → Prop} {Y : KX P gm T} {ds : List Nat} {k : List Item} {env : List AV} {K K' : KV}
/-- A row in a cell of several is a slice. -/
theorem TK.unrowAt {c i j n : Nat} {l l1 : List AV} {t e1 : TypeId} {s1 : Nat} {rw' : Bool} (hi : l[i]? = some (.row j n)) (hm : (j, .row l1 e1 s1) ∈ K) (hu : Upd K c (.cells l t rw') c (.cells (l.set i (.sl j 0 n)) t rw') K') (h : TK Y ds k env K') : TK Y ds k env K := fun A hA φ H ts h1 h2 h3 h4 h5 h6 => by
 have hj := hA.view.get hu.mem
 have hb : (φ j).base = 0 := (h5.obj j _ (hA.view.get hm)).2.1
 have hil : i < l.length := (List.getElem?_eq_some_iff.1 hi).1
 have hne : l ≠ [] := fun e => by rw [e] at hil; exact absurd hil (Nat.not_lt_zero _)
 refine h _ (hA.step (.set hA.view hA.nd hu)) φ H ts h1 (by simpa using h2) (by simpa using h3) (by simpa using h4) (h5.turn hj (fun ho hl => ?_) (fun h => h) (fun _ => rfl) (fun hs => by simpa [sol] using hne)) (by simpa using h6)
 obtain ⟨rw2, cur, fz, q1, q2, q3⟩ := ho hne
 refine ⟨rw2, cur, fz, q1, q2, fun t' a ha => ?_⟩
 by_cases e : t' = i
 ·subst e
  rw [List.getElem?_set_self hil] at ha
  cases ha
  obtain ⟨y, hy, hr⟩ := q3 t' _ hi
  exact ⟨y, hy, by have := unrow_rel (j := j) hb hr; simpa [unrow] using this⟩
 ·rw [List.getElem?_set_ne (fun h => e h.symm)] at ha
  exact q3 t' a ha
end
end Go.Vel
end
section
set_option linter.all false
set_option maxRecDepth 20000
set_option maxHeartbeats 60000000
namespace Go.Vel
open Go Go.Conc Go.Proofs
theorem fit_ok {main : Bool} {T : Goroutine → Hp → Prop} (hT : Shut Tryd.prog main T) {gm : Nat → Option Nat} {b : Bk} {s e : Nat} (hse : s ≠ e) :
  CallK Tryd.prog T gm 5 [.agg (bookC b s e)] [(s, saysO b), (e, seenO b)] (fun r K' => r = boolA (fitM b) ∧ K' = [(s, saysO b), (e, seenO b)]) := by
 refine callK_in 11 hT Tryd.func5 fun Y hret => ?_
 refine au [4, 5, 21] ?_
 intro jb hjb
 refine au [2, 3, 4, 5, 8] ?_
 refine TK.cl rfl rfl rfl rfl (great_ok hT (s := s) (e := e)) ?_
 rintro r1 K2 ⟨rfl, rfl⟩
 refine au [30, 1] ?_
 refine TK.sp 6 (fun g1_4 => ?_) (fun g1_4 => ?_)
 ·obtain ⟨hs1, hs2, hs3⟩ := great_small (b := b) (by simpa using g1_4)
  refine au [8] ?_
  refine TK.cl rfl rfl rfl rfl (checkR_ok hT hse (fun x hx => Nat.le_trans (hs3 x hx) (by omega)) (by omega) (by omega)) ?_
  rintro r4 K5 ⟨rfl, rfl⟩
  refine au [6, 26, 2, 3] ?_
  refine TK.rt hret [(s, _), (e, _)] ?_
  exact ⟨by unfold fitM; rw [g1_4, Bool.true_and]; rfl, rfl⟩
 refine au [11, 11, 11, 25, 2, 3] ?_
 refine TK.rt hret [(s, _), (e, _)] ?_
 exact ⟨by unfold fitM; rw [g1_4, Bool.false_and]; rfl, rfl⟩
end Go.Vel
end
section
set_option linter.all false
set_option maxRecDepth 20000
set_option maxHeartbeats 60000000
namespace Go.Vel
open Go Go.Conc Go.Proofs
instance : Cal Tryd.prog 5 := ⟨by kernel_rfl⟩
instance : Cal Tryd.prog 6 := ⟨by kernel_rfl⟩
instance {a0 a1 a2 a3 a4 a5 a6 a7 a8 a9 a10 a11 a12 a13 a14 a15 a16 a17 a18 a19 a20 a21 a22 a23 a24 a25 a26 a27 a28 a29 a30 a31 a32 a33 a34 a35 a36 a37 a38 a39 a40 a41 a42 a43 a44 a45 a46 a47 : Oper} : RgL #[a0, a1, a2, a3, a4, a5, a6, a7, a8, a9, a10, a11, a12, a13, a14, a15, a16, a17, a18, a19, a20, a21, a22, a23, a24, a25, a26, a27, a28, a29, a30, a31, a32, a33, a34, a35, a36, a37, a38, a39, a40, a41, a42, a43, a44, a45, a46, a47] [0, 1, 2, 3, 4, 5, 6, 7, 8, 9, 10, 11, 12, 13, 14, 15, 16, 17, 18, 19, 20, 21, 22, 23, 24, 25, 26, 27, 28, 29, 30, 31, 32, 33, 34, 35, 36, 37, 38, 39, 40, 41, 42, 43, 44, 45, 46, 47] := ⟨rfl⟩
instance {a0 a1 a2 a3 a4 a5 a6 a7 a8 a9 a10 a11 a12 a13 a14 a15 a16 a17 a18 a19 a20 a21 a22 a23 a24 a25 a26 a27 a28 a29 a30 a31 a32 a33 a34 a35 a36 a37 a38 a39 a40 a41 a42 a43 a44 a45 a46 a47 a48 a49 a50 a51 : Oper} : RgL #[a0, a1, a2, a3, a4, a5, a6, a7, a8, a9, a10, a11, a12, a13, a14, a15, a16, a17, a18, a19, a20, a21, a22, a23, a24, a25, a26, a27, a28, a29, a30, a31, a32, a33, a34, a35, a36, a37, a38, a39, a40, a41, a42, a43, a44, a45, a46, a47, a48, a49, a50, a51] [0, 1, 2, 3, 4, 5, 6, 7, 8, 9, 10, 11, 12, 13, 14, 15, 16, 17, 18, 19, 20, 21, 22, 23, 24, 25, 26, 27, 28, 29, 30, 31, 32, 33, 34, 35, 36, 37, 38, 39, 40, 41, 42, 43, 44, 45, 46, 47, 48, 49, 50, 51] := ⟨rfl⟩
end Go.Vel
end
section
set_option linter.all false
set_option maxRecDepth 20000
set_option maxHeartbeats 60000000
namespace Go.Vel
open Go Go.Conc Go.Proofs
theorem lawAnyOrder_top {R : Value → World → Prop} {b : Bk} {s e : Nat} {k1 k2 : Int} (hse : s ≠ e) (hk1 : 0 ≤ k1 ∧ k1 < 256) (hk2 : 0 ≤ k2 ∧ k2 < 256) {A : List AObj} {φ : Nat → Loc3} {F H : Hp} {vs : Array Value} (hv : View [(0, checksG), (1, saysG), (s, saysO b), (e, seenO b)] A) (hn0 : (keys [(0, checksG), (1, saysG), (s, saysO b), (e, seenO b)]).Nodup) (hg : RelG gmS φ A.length) (hH : RelH φ A F H) (hargs : RelL φ A.length [.agg (bookC b s e), .v (.int .u8 k1), .v (.int .u8 k2)] vs)
  (hR : ∀ r K' φ' A' H' v w, (fun r K' => r = boolA true ∧ K' = [(0, checksG), (1, saysG), (s, saysO b), (e, seenO b)]) r K' → RelH φ' A' F H' → RelV φ' A'.length r v → Fits H' w → R v w) : BT Tryd.prog (AtRet Tryd.prog 4 R) (G (Frame.enter Tryd.prog 4 vs .normal) []) H := by
 have hT := shut_BT tame (AtRet Tryd.prog 4 R)
 refine topK_in 287 tame (Post := fun r K' => r = boolA true ∧ K' = [(0, checksG), (1, saysG), (s, saysO b), (e, seenO b)]) Tryd.func4 hv hn0 hg hH hargs hR fun Y hret => ?_
 refine au [4, 5, 21] ?_
 intro jb hjb
 refine au [2, 3, 4, 4, 5, 8] ?_
 refine TK.cl rfl rfl rfl rfl (fit_ok hT hse) ?_
 rintro r1 K2 ⟨rfl, rfl⟩
 refine au [30, 3, 20] ?_
 refine ⟨fun hc0 => ?_, fun hc0 => ?_⟩
 ·refine au [4, 5] ?_
  refine TK.cl rfl rfl rfl rfl (sought_ok tame) ?_
  rintro r4 K5 ⟨rfl, rfl⟩
  refine au [2, 3] ?_
  refine TK.rt hret [(0, _), (1, _), (s, _), (e, _)] ?_
  exact ⟨rfl, rfl⟩
 have hf := fit_of (b := b) (by simpa using hc0)
 have hck := hf.check
 have hb := bkOk_of hck
 have hst := hb.steps
 have hns := hb.ns
 have hne4 := hb.ne
 refine au [12, 4, 5, 8, 22] ?_
 intro jo hjo
 refine au [17, 3, 4, 5, 7, 17, 7, 17] ?_
 refine TK.virtAt (i := 4) (e := 45) (size := 5) rfl (fun _ => (by repeat (first | exact Upd.head | apply Upd.tail))) fun jp0 hjp0 => ?_
 refine TK.virtAt (i := 5) (e := 47) (size := 2) rfl (fun _ => (by repeat (first | exact Upd.head | apply Upd.tail))) fun jq0 hjq0 => ?_
 refine au [3, 4, 4, 5, 7, 9, 28, 24, 2, 3, 13] ?_
 refine TK.maskL [2, 3, 6, 7, 8] ?_
 refine TK.kp [(jo, .cells [_, _, _, _, _, _] 27 true), (jp0, _), (jq0, _), (jb, _), (0, _), (1, _), (s, _), (e, _)] ?_
 refine TK.loopN (fun n env K => ∃ (i : Int) (q j1 : Nat), n = b.seekers.length - q ∧ q ≤ b.seekers.length ∧ i = b.seekers.length - 1 - q ∧ env = slotsA 287 [(2, .v (.int .u8 k2)), (3, .ptr jb 0), (6, boolA false), (7, .ptr jo 0), (8, intA i)] ∧ K = [(jo, .cells [intA b.steps, intA b.wrong, intA b.low, intA b.high, .row j1 (b.seekers.reverse.take q).length, .row jq0 0] 27 true), (j1, .row ((b.seekers.reverse.take q).flatMap saysC) 45 5), (jq0, .row [] 47 2), (jb, .cells (bookC b s e) 27 true), (0, checksG), (1, saysG), (s, saysO b), (e, seenO b)]) b.seekers.length ⟨_, 0, jp0, rfl, Nat.zero_le _, by simp, rfl, rfl⟩ fun n env K hI0 hnext => ?_
 obtain ⟨i, q, j1, rfl, hq, hi3, rfl, rfl⟩ := hI0
 have hsl : (b.seekers.reverse.take q).length = q := rev_takeL hq
 refine au [4, 4, 5, 1, 6, 3, 20] ?_
 refine ⟨fun hc1 => ?_, fun hc1 => ?_⟩
 ·obtain ⟨m, rfl⟩ := Int.eq_ofNat_of_zero_le (of_decide_eq_true hc1)
  have hml : m < b.seekers.length := by omega
  refine au [12, 4, 13] ?_
  refine TK.draw [0, 1, 2, 3, 4, 5, 6, 7, 8, 9, 10] [0, 1, 2, 3, 4, 5, 6, 7, 8, 9, 10] (by kernel_rfl) (by kernel_rfl) ?_
  refine TD.z [7] rfl (q_fieldAddr rfl rfl FldOf.h (by decide)) ?_
  refine TD.y [48] rfl (hq := q_load1 rfl rfl TySz.h (List.Mem.head _) rfl) (h := ?_)
  refine TD.z [3] rfl (q_fieldAddr rfl rfl FldOf.h (by decide)) ?_
  refine TD.y [50] rfl (hq := q_load1 rfl rfl TySz.h (List.Mem.head _) rfl) (h := ?_)
  refine TD.z [8] rfl (q_move rfl rfl) ?_
  refine TD.z [51, 52] rfl (q_indexSl rfl rfl rfl SlEl.h (by omega) (by omega)) ?_
  refine TD.y [53] rfl (hq := q_load rfl rfl TySz.h (List.Mem.head _) (says_at b m hml)) (h := ?_)
  refine TD.cnewR (pend' := [⟨5, [51, 52], []⟩, ⟨4, [8], []⟩, ⟨3, [50], [(_, _)]⟩, ⟨2, [3], []⟩, ⟨1, [48], [(_, _)]⟩, ⟨0, [7], []⟩]) [54] rfl rfl rfl rfl rfl (n_buildSlice (l := [_, _, _, _, _]) rfl SlEl.h TyZ.h (by decide) (by decide) rfl) (fun _ => putS rfl (by simp only [List.set]; rfl)) (by simp) fun j7 hj7 => ?_
  refine TD.capp (pend' := [⟨5, [51, 52], []⟩, ⟨4, [8], []⟩, ⟨3, [50], [(_, _)]⟩, ⟨2, [3], []⟩, ⟨0, [7], []⟩]) [49, 55] rfl rfl rfl rfl rfl (a_app rfl ApOf.h rfl (by repeat (first | exact List.Mem.head _ | assumption | apply List.Mem.tail)) (flat_len saysC 5 (fun _ => rfl) _) rfl (src_row (ln := [_, _, _, _, _]) (by repeat (first | exact List.Mem.head _ | assumption | apply List.Mem.tail)) (by decide) (by simp) rfl) (by omega) rfl (by unfold maxLen; omega) (by omega)) (fun _ => (by repeat (first | exact Upd.head | apply Upd.tail))) (fun _ => putS rfl (by simp only [List.set]; rfl)) (fun _ => (by simp)) fun j3 => ?_
  refine TD.z [7] rfl (q_fieldAddr rfl rfl FldOf.h (by decide)) ?_
  refine TD.s (pend' := []) [56, 57] rfl rfl (q_store rfl rfl TySz.h rfl rfl (by repeat (first | exact List.Mem.head _ | assumption | apply List.Mem.tail)) rfl) ?_
  refine TD.fin ?_
  refine au [14, 5, 1, 24, 2, 3] ?_
  refine TK.maskL [2, 3, 6, 7, 8] ?_
  refine TK.kp [(jo, .cells [_, _, _, _, _, _] 27 true), (j3, _), (jq0, _), (jb, _), (0, _), (1, _), (s, _), (e, _)] ?_
  exact hnext _ _ _ (by omega) ⟨(m : Int) - 1, q + 1, j3, rfl, by omega, by push_cast; omega, rfl, by rw [rev_take (l := b.seekers) (q := q) (m := m) (by omega) hi3 hml, List.length_append, List.flatMap_append]; rfl⟩
 have hc1 := of_decide_eq_false hc1
 obtain rfl : q = b.seekers.length := by omega
 rw [rev_takeN]
 refine au [16, 4, 4, 5, 7, 9, 28, 24, 2, 3, 13] ?_
 refine TK.maskL [2, 3, 6, 7, 9] ?_
 refine TK.kp [(jo, .cells [_, _, _, _, _, _] 27 true), (jq0, _), (j1, _), (jb, _), (0, _), (1, _), (s, _), (e, _)] ?_
 refine TK.loopN (fun n env K => ∃ (i : Int) (q j2 : Nat), n = b.seen.length - q ∧ q ≤ b.seen.length ∧ i = b.seen.length - 1 - q ∧ env = slotsA 287 [(2, .v (.int .u8 k2)), (3, .ptr jb 0), (6, boolA false), (7, .ptr jo 0), (9, intA i)] ∧ K = [(jo, .cells [intA b.steps, intA b.wrong, intA b.low, intA b.high, .row j1 b.seekers.reverse.length, .row j2 (b.seen.reverse.take q).length] 27 true), (j2, .row ((b.seen.reverse.take q).flatMap seenC) 47 2), (j1, .row (b.seekers.reverse.flatMap saysC) 45 5), (jb, .cells (bookC b s e) 27 true), (0, checksG), (1, saysG), (s, saysO b), (e, seenO b)]) b.seen.length ⟨_, 0, jq0, rfl, Nat.zero_le _, by simp, rfl, rfl⟩ fun n env K hI0 hnext => ?_
 obtain ⟨i, q, j2, rfl, hq, hi3, rfl, rfl⟩ := hI0
 have hsl : (b.seen.reverse.take q).length = q := rev_takeL hq
 refine au [4, 4, 5, 1, 6, 3, 20] ?_
 refine ⟨fun hc2 => ?_, fun hc2 => ?_⟩
 ·obtain ⟨m, rfl⟩ := Int.eq_ofNat_of_zero_le (of_decide_eq_true hc2)
  have hml : m < b.seen.length := by omega
  refine au [12, 4, 13] ?_
  refine TK.draw [0, 1, 2, 3, 4, 5, 6, 7, 8, 9, 10] [0, 1, 2, 3, 4, 5, 6, 7, 8, 9, 10] (by kernel_rfl) (by kernel_rfl) ?_
  refine TD.z [7] rfl (q_fieldAddr rfl rfl FldOf.h (by decide)) ?_
  refine TD.y [66] rfl (hq := q_load1 rfl rfl TySz.h (List.Mem.head _) rfl) (h := ?_)
  refine TD.z [3] rfl (q_fieldAddr rfl rfl FldOf.h (by decide)) ?_
  refine TD.y [68] rfl (hq := q_load1 rfl rfl TySz.h (List.Mem.head _) rfl) (h := ?_)
  refine TD.z [9] rfl (q_move rfl rfl) ?_
  refine TD.z [69, 70] rfl (q_indexSl rfl rfl rfl SlEl.h (by omega) (by omega)) ?_
  refine TD.y [71] rfl (hq := q_load rfl rfl TySz.h (List.Mem.head _) (seen_at b m hml)) (h := ?_)
  refine TD.cnewR (pend' := [⟨5, [69, 70], []⟩, ⟨4, [9], []⟩, ⟨3, [68], [(_, _)]⟩, ⟨2, [3], []⟩, ⟨1, [66], [(_, _)]⟩, ⟨0, [7], []⟩]) [72] rfl rfl rfl rfl rfl (n_buildSlice (l := [_, _]) rfl SlEl.h TyZ.h (by decide) (by decide) rfl) (fun _ => putS rfl (by simp only [List.set]; rfl)) (by simp) fun j8 hj8 => ?_
  refine TD.capp (pend' := [⟨5, [69, 70], []⟩, ⟨4, [9], []⟩, ⟨3, [68], [(_, _)]⟩, ⟨2, [3], []⟩, ⟨0, [7], []⟩]) [67, 73] rfl rfl rfl rfl rfl (a_app rfl ApOf.h rfl (by repeat (first | exact List.Mem.head _ | assumption | apply List.Mem.tail)) (flat_len seenC 2 (fun _ => rfl) _) rfl (src_row (ln := [_, _]) (by repeat (first | exact List.Mem.head _ | assumption | apply List.Mem.tail)) (by decide) (by simp) rfl) (by omega) rfl (by unfold maxLen; omega) (by omega)) (fun _ => (by repeat (first | exact Upd.head | apply Upd.tail))) (fun _ => putS rfl (by simp only [List.set]; rfl)) (fun _ => (by simp)) fun j3 => ?_
  refine TD.z [7] rfl (q_fieldAddr rfl rfl FldOf.h (by decide)) ?_
  refine TD.s (pend' := []) [74, 75] rfl rfl (q_store rfl rfl TySz.h rfl rfl (by repeat (first | exact List.Mem.head _ | assumption | apply List.Mem.tail)) rfl) ?_
  refine TD.fin ?_
  refine au [14, 5, 1, 24, 2, 3] ?_
  refine TK.maskL [2, 3, 6, 7, 9] ?_
  refine TK.kp [(jo, .cells [_, _, _, _, _, _] 27 true), (j3, _), (j1, _), (jb, _), (0, _), (1, _), (s, _), (e, _)] ?_
  exact hnext _ _ _ (by omega) ⟨(m : Int) - 1, q + 1, j3, rfl, by omega, by push_cast; omega, rfl, by rw [rev_take (l := b.seen) (q := q) (m := m) (by omega) hi3 hml, List.length_append, List.flatMap_append]; rfl⟩
 have hc2 := of_decide_eq_false hc2
 obtain rfl : q = b.seen.length := by omega
 rw [rev_takeN]
 refine au [16, 4] ?_
 refine TK.unrowAt (c := jo) (i := 4) (j := j1) rfl (by repeat (first | exact List.Mem.head _ | assumption | apply List.Mem.tail)) (by repeat (first | exact Upd.head | apply Upd.tail)) ?_
 refine TK.freeze 6 (j := j1) rfl (by repeat (first | exact Upd.head | apply Upd.tail)) rfl ?_
 refine TK.unrowAt (c := jo) (i := 5) (j := j2) rfl (by repeat (first | exact List.Mem.head _ | assumption | apply List.Mem.tail)) (by repeat (first | exact Upd.head | apply Upd.tail)) ?_
 refine TK.freeze 6 (j := j2) rfl (by repeat (first | exact Upd.head | apply Upd.tail)) rfl ?_
 refine TK.kp ((jo, .cells (bookC (revB b) j1 j2) 27 true) :: (j2, seenO (revB b)) :: (j1, saysO (revB b)) :: (jb, .cells (bookC b s e) 27 true) :: (0, checksG) :: (1, saysG) :: (s, saysO b) :: (e, seenO b) :: []) ?_
 refine TK.nd fun hnd => ?_
 have ho12 : j1 ≠ j2 := fun h => by subst h; simp [keys] at hnd
 have hco : checkM (revB b) = 0 := rev_check hck
 have hon : ∀ x ∈ (revB b).seekers, x.name.size ≤ 1000 := fun x hx => hf.names x (List.mem_reverse.1 hx)
 have hol : (revB b).seen.length ≤ 1000 := by show b.seen.reverse.length ≤ 1000; rw [List.length_reverse]; exact hf.seen
 refine au [5, 8] ?_
 refine TK.cl rfl rfl rfl rfl (statesApi_ok hT hse hf.names hf.seen) ?_
 rintro r9 K10 ⟨rfl, rfl⟩
 refine au [] ?_
 rw [(states_one hck).1, (states_one hck).2]
 refine au [1, 10, 10, 2, 2, 3, 4, 5, 8] ?_
 refine TK.cl rfl rfl rfl rfl (statesApi_ok hT (b := revB b) ho12 hon hol) ?_
 rintro r12 K13 ⟨rfl, rfl⟩
 refine au [] ?_
 rw [(states_one hco).1, (states_one hco).2, rev_len hck]
 refine au [1, 10, 10, 2, 2, 3, 4] ?_
 refine TK.share (fun ja jq _ _ => slotsA 287 [(2, .v (.int .u8 k2)), (3, .ptr jb 0), (6, boolA false), (7, .ptr jo 0), (10, intA (statesM b).length), (11, intA 0), (12, intA (statesM b).length), (13, intA 0), (14, .sl ja 0 (sureX b).length), (15, .sl jq 0 (perhX b).length), (16, intA (askM b true))]) (fun ja jq _ _ => (ja, .cells ((sureX b).map intA) 3 false) :: (jq, .cells ((perhX b).map intA) 3 false) :: (jo, .cells (bookC (revB b) j1 j2) 27 true) :: (j2, seenO (revB b)) :: (j1, saysO (revB b)) :: (jb, .cells (bookC b s e) 27 true) :: (0, checksG) :: (1, saysG) :: (s, saysO b) :: (e, seenO b) :: []) (fun hcont => ?_) (fun ja jq _ _ => ?_)
 ·skip
  refine au [5, 8] ?_
  refine TK.cl rfl rfl rfl rfl (stepsApi_ok hT hse hf.names hf.seen) ?_
  rintro r15 K16 h17
  rcases h17 with ⟨hb0, rfl, rfl⟩ | ⟨hb0, ja, jq, rfl, rfl⟩
  ·refine au [1, 10, 10, 10, 2, 2, 2, 3] ?_
   refine TK.nilSl 14 3 rfl fun ja hja => ?_
   refine au [] ?_
   refine TK.nilSl 15 3 rfl fun jq hjq => ?_
   refine au [] ?_
   refine TK.maskL [2, 3, 6, 7, 10, 11, 12, 13, 14, 15, 16] ?_
   refine TK.kp ((ja, _) :: (jq, _) :: (jo, _) :: (j2, _) :: (j1, _) :: (jb, _) :: (0, _) :: (1, _) :: (s, _) :: (e, _) :: []) ?_
   refine Eq.mp ?_ (hcont ja jq 0 0)
   clear hcont
   rw [show sureX b = [] from if_neg hb0, show perhX b = [] from if_neg hb0]
   congr 1 <;> rfl
  ·refine au [1, 10, 10, 10, 2, 2, 2, 3] ?_
   refine TK.freezeR 14 rfl (by repeat (first | exact Upd.head | apply Upd.tail)) (by simp only [List.set]; rfl) ?_
   refine TK.freezeR 15 rfl (by repeat (first | exact Upd.head | apply Upd.tail)) (by simp only [List.set]; rfl) ?_
   refine TK.maskL [2, 3, 6, 7, 10, 11, 12, 13, 14, 15, 16] ?_
   refine TK.kp ((ja, _) :: (jq, _) :: (jo, _) :: (j2, _) :: (j1, _) :: (jb, _) :: (0, _) :: (1, _) :: (s, _) :: (e, _) :: []) ?_
   refine Eq.mp ?_ (hcont ja jq 0 0)
   clear hcont
   rw [show sureX b = pickL b 1 b.steps.toNat from if_pos hb0, show perhX b = pickL b 0 b.steps.toNat from if_pos hb0, hb0]
   congr 1 <;> rfl
 ·skip
  refine au [4] ?_
  refine TK.share (fun jc jd _ _ => slotsA 287 [(2, .v (.int .u8 k2)), (3, .ptr jb 0), (6, boolA false), (7, .ptr jo 0), (10, intA (statesM b).length), (11, intA 0), (12, intA (statesM b).length), (13, intA 0), (14, .sl ja 0 (sureX b).length), (15, .sl jq 0 (perhX b).length), (16, intA (askM b true)), (17, .sl jc 0 (sureX b).length), (18, .sl jd 0 (perhX b).length), (19, intA (askM b true))]) (fun jc jd _ _ => (jc, .cells ((sureX b).map intA) 3 false) :: (jd, .cells ((perhX b).map intA) 3 false) :: (ja, .cells ((sureX b).map intA) 3 false) :: (jq, .cells ((perhX b).map intA) 3 false) :: (jo, .cells (bookC (revB b) j1 j2) 27 true) :: (j2, seenO (revB b)) :: (j1, saysO (revB b)) :: (jb, .cells (bookC b s e) 27 true) :: (0, checksG) :: (1, saysG) :: (s, saysO b) :: (e, seenO b) :: []) (fun hcont => ?_) (fun jc jd _ _ => ?_)
  ·skip
   refine au [5, 8] ?_
   refine TK.cl rfl rfl rfl rfl (stepsApi_ok hT (b := revB b) ho12 hon hol) ?_
   rintro r18 K19 h20
   rcases h20 with ⟨hb0, rfl, rfl⟩ | ⟨hb0, jc, jd, rfl, rfl⟩
   ·refine au [1, 10, 10, 10, 2, 2, 2, 3] ?_
    refine TK.nilSl 17 3 rfl fun jc hjc => ?_
    refine au [] ?_
    refine TK.nilSl 18 3 rfl fun jd hjd => ?_
    refine au [] ?_
    refine TK.maskL [2, 3, 6, 7, 10, 11, 12, 13, 14, 15, 16, 17, 18, 19] ?_
    refine TK.kp ((jc, _) :: (jd, _) :: (ja, _) :: (jq, _) :: (jo, _) :: (j2, _) :: (j1, _) :: (jb, _) :: (0, _) :: (1, _) :: (s, _) :: (e, _) :: []) ?_
    refine Eq.mp ?_ (hcont jc jd 0 0)
    clear hcont
    rw [← sureX_rev hck, ← perhX_rev hck, ← rev_ask hck, show sureX (revB b) = [] from if_neg hb0, show perhX (revB b) = [] from if_neg hb0]
    congr 1 <;> rfl
   ·refine au [1, 10, 10, 10, 2, 2, 2, 3] ?_
    refine TK.freezeR 17 rfl (by repeat (first | exact Upd.head | apply Upd.tail)) (by simp only [List.set]; rfl) ?_
    refine TK.freezeR 18 rfl (by repeat (first | exact Upd.head | apply Upd.tail)) (by simp only [List.set]; rfl) ?_
    refine TK.maskL [2, 3, 6, 7, 10, 11, 12, 13, 14, 15, 16, 17, 18, 19] ?_
    refine TK.kp ((jc, _) :: (jd, _) :: (ja, _) :: (jq, _) :: (jo, _) :: (j2, _) :: (j1, _) :: (jb, _) :: (0, _) :: (1, _) :: (s, _) :: (e, _) :: []) ?_
    refine Eq.mp ?_ (hcont jc jd 0 0)
    clear hcont
    rw [← sureX_rev hck, ← perhX_rev hck, ← rev_ask hck, show sureX (revB b) = pickL (revB b) 1 (revB b).steps.toNat from if_pos hb0, show perhX (revB b) = pickL (revB b) 0 (revB b).steps.toNat from if_pos hb0, hb0]
    congr 1 <;> rfl
  ·skip
   refine au [4, 5, 8] ?_
   refine TK.cl rfl rfl rfl rfl (narrow_ok tame hse hf.names hf.seen) ?_
   rintro r21 K22 ⟨rfl, rfl⟩
   refine au [1, 10, 10, 10, 10, 2, 2, 2, 2, 3, 4, 5, 8] ?_
   refine TK.cl rfl rfl rfl rfl (narrow_ok tame (b := revB b) ho12 hon hol) ?_
   rintro r24 K25 ⟨rfl, rfl⟩
   refine au [] ?_
   rw [rev_narrow hck]
   refine au [1, 10, 10, 10, 10, 2, 2, 2, 2, 3, 4, 4] ?_
   refine TK.nd fun hnd => ?_
   have hac : ja ≠ jc := fun h => by subst h; simp [keys] at hnd
   refine TK.nd fun hnd => ?_
   have hqd : jq ≠ jd := fun h => by subst h; simp [keys] at hnd
   refine au [5, 1, 6, 1] ?_
   refine TK.sp 114 (fun g19_3 => ?_) (fun g19_3 => ?_)
   ·simp at g19_3
   refine au [1, 6, 25, 1] ?_
   refine TK.sp 118 (fun g19_7 => ?_) (fun g19_7 => ?_)
   ·simp at g19_7
   refine au [1, 1, 6, 25, 1] ?_
   refine TK.sp 123 (fun g19_12 => ?_) (fun g19_12 => ?_)
   ·simp at g19_12
   refine au [1, 1, 6, 25, 1] ?_
   refine TK.sp 128 (fun g19_17 => ?_) (fun g19_17 => ?_)
   ·simp at g19_17
   refine au [1, 1] ?_
   refine TK.cl rfl rfl rfl rfl (sameInts_ok hT hac (ints_at (sureX b) 3 false) (ints_at (sureX b) 3 false) (sureX_len hb)) ?_
   rintro r27 K28 ⟨rfl, rfl⟩
   refine au [30, 25, 1] ?_
   refine TK.sp 134 (fun g19_23 => ?_) (fun g19_23 => ?_)
   ·simp at g19_23
   refine au [1, 1] ?_
   refine TK.cl rfl rfl rfl rfl (sameInts_ok hT hqd (ints_at (perhX b) 3 false) (ints_at (perhX b) 3 false) (perhX_len hb)) ?_
   rintro r30 K31 ⟨rfl, rfl⟩
   refine au [30, 25, 1] ?_
   refine TK.sp 140 (fun g19_29 => ?_) (fun g19_29 => ?_)
   ·simp at g19_29
   refine au [1, 1, 6, 25, 1] ?_
   refine TK.sp 145 (fun g19_34 => ?_) (fun g19_34 => ?_)
   ·simp at g19_34
   refine au [1, 1, 6, 25, 1] ?_
   refine TK.sp 150 (fun g19_39 => ?_) (fun g19_39 => ?_)
   ·simp at g19_39
   refine au [1, 1, 6, 25, 1] ?_
   refine TK.sp 155 (fun g19_44 => ?_) (fun g19_44 => ?_)
   ·simp at g19_44
   refine au [1, 1, 34, 25, 3, 20] ?_
   refine ⟨fun hc3 => ?_, fun hc3 => ?_⟩
   ·simp at hc3
   refine au [12, 4] ?_
   refine TK.share (fun ja _ _ _ => slotsA 287 [(2, .v (.int .u8 k2)), (3, .ptr jb 0), (6, boolA false), (7, .ptr jo 0), (11, intA 0), (14, .sl ja 0 (lkX b).1.length), (20, intA (lkX b).2.1), (22, boolA (lkX b).2.2)]) (fun ja _ _ _ => (ja, .cells ((lkX b).1.map intA) 3 false) :: (jo, .cells (bookC (revB b) j1 j2) 27 true) :: (j2, seenO (revB b)) :: (j1, saysO (revB b)) :: (jb, .cells (bookC b s e) 27 true) :: (0, checksG) :: (1, saysG) :: (s, saysO b) :: (e, seenO b) :: []) (fun hcont => ?_) (fun ja _ _ _ => ?_)
   ·skip
    refine au [5, 8] ?_
    refine TK.cl rfl rfl rfl rfl (likely_ok hT hse hf.names hf.seen) ?_
    rintro r33 K34 h35
    rcases h35 with ⟨hb2, rfl, rfl⟩ | ⟨hb2, hg0, rfl, rfl⟩ | ⟨hb2, hg0, jl, rfl, rfl⟩
    ·refine au [] ?_
     exact absurd hck hb2
    ·refine au [1, 10, 10, 10, 10, 2, 2, 2, 2, 3] ?_
     refine TK.nilSl 14 3 rfl fun ja hja => ?_
     refine au [] ?_
     refine TK.maskL [2, 3, 6, 7, 11, 14, 20, 22] ?_
     refine TK.kp ((ja, _) :: (jo, _) :: (j2, _) :: (j1, _) :: (jb, _) :: (0, _) :: (1, _) :: (s, _) :: (e, _) :: []) ?_
     refine Eq.mp ?_ (hcont ja 0 0 0)
     clear hcont
     rw [(show lkX b = ([], 0, false) from if_pos hg0)]
     congr 1 <;> rfl
    ·refine au [1, 10, 10, 10, 10, 2, 2, 2, 2, 3] ?_
     refine TK.maskL [2, 3, 6, 7, 11, 14, 20, 22] ?_
     refine TK.kp ((jl, _) :: (jo, _) :: (j2, _) :: (j1, _) :: (jb, _) :: (0, _) :: (1, _) :: (s, _) :: (e, _) :: []) ?_
     refine Eq.mp ?_ (hcont jl 0 0 0)
     clear hcont
     rw [(show lkX b = ((likelyM b).1, (likelyM b).2, true) from if_neg hg0)]
     congr 1 <;> rfl
   ·skip
    refine au [4] ?_
    refine TK.share (fun jc _ _ _ => slotsA 287 [(2, .v (.int .u8 k2)), (3, .ptr jb 0), (6, boolA false), (7, .ptr jo 0), (11, intA 0), (13, intA 0), (14, .sl ja 0 (lkX b).1.length), (17, .sl jc 0 (lkX b).1.length), (20, intA (lkX b).2.1), (21, intA (lkX b).2.1), (22, boolA (lkX b).2.2), (26, boolA (lkX b).2.2)]) (fun jc _ _ _ => (jc, .cells ((lkX b).1.map intA) 3 false) :: (ja, .cells ((lkX b).1.map intA) 3 false) :: (jo, .cells (bookC (revB b) j1 j2) 27 true) :: (j2, seenO (revB b)) :: (j1, saysO (revB b)) :: (jb, .cells (bookC b s e) 27 true) :: (0, checksG) :: (1, saysG) :: (s, saysO b) :: (e, seenO b) :: []) (fun hcont => ?_) (fun jc _ _ _ => ?_)
    ·skip
     refine au [5, 8] ?_
     refine TK.cl rfl rfl rfl rfl (likely_ok hT (b := revB b) ho12 hon hol) ?_
     rintro r36 K37 h38
     rcases h38 with ⟨hb2, rfl, rfl⟩ | ⟨hb2, hg0, rfl, rfl⟩ | ⟨hb2, hg0, jl, rfl, rfl⟩
     ·refine au [] ?_
      exact absurd hco hb2
     ·refine au [1, 10, 10, 10, 10, 2, 2, 2, 2, 3] ?_
      refine TK.nilSl 17 3 rfl fun jc hjc => ?_
      refine au [] ?_
      refine TK.maskL [2, 3, 6, 7, 11, 13, 14, 17, 20, 21, 22, 26] ?_
      refine TK.kp ((jc, _) :: (ja, _) :: (jo, _) :: (j2, _) :: (j1, _) :: (jb, _) :: (0, _) :: (1, _) :: (s, _) :: (e, _) :: []) ?_
      refine Eq.mp ?_ (hcont jc 0 0 0)
      clear hcont
      rw [← rev_lkX hck, (show lkX (revB b) = ([], 0, false) from if_pos hg0)]
      congr 1 <;> rfl
     ·refine au [1, 10, 10, 10, 10, 2, 2, 2, 2, 3] ?_
      refine TK.maskL [2, 3, 6, 7, 11, 13, 14, 17, 20, 21, 22, 26] ?_
      refine TK.kp ((jl, _) :: (ja, _) :: (jo, _) :: (j2, _) :: (j1, _) :: (jb, _) :: (0, _) :: (1, _) :: (s, _) :: (e, _) :: []) ?_
      refine Eq.mp ?_ (hcont jl 0 0 0)
      clear hcont
      rw [← rev_lkX hck, (show lkX (revB b) = ((likelyM (revB b)).1, (likelyM (revB b)).2, true) from if_neg hg0)]
      congr 1 <;> rfl
    ·skip
     refine au [4] ?_
     refine TK.share (fun jd _ _ _ => slotsA 287 [(2, .v (.int .u8 k2)), (3, .ptr jb 0), (6, boolA false), (7, .ptr jo 0), (11, intA 0), (13, intA 0), (14, .sl ja 0 (lkX b).1.length), (16, intA 0), (17, .sl jc 0 (lkX b).1.length), (20, intA (lkX b).2.1), (21, intA (lkX b).2.1), (22, boolA (lkX b).2.2), (26, boolA (lkX b).2.2), (28, .sl jd 0 (ckX b).length)]) (fun jd _ _ _ => (jd, .cells ((ckX b).map intA) 3 false) :: (jc, .cells ((lkX b).1.map intA) 3 false) :: (ja, .cells ((lkX b).1.map intA) 3 false) :: (jo, .cells (bookC (revB b) j1 j2) 27 true) :: (j2, seenO (revB b)) :: (j1, saysO (revB b)) :: (jb, .cells (bookC b s e) 27 true) :: (0, checksG) :: (1, saysG) :: (s, saysO b) :: (e, seenO b) :: []) (fun hcont => ?_) (fun jd _ _ _ => ?_)
     ·skip
      refine au [5, 8] ?_
      refine TK.cl rfl rfl rfl rfl (clash_ok hT hse hf.names hf.seen) ?_
      rintro r39 K40 h41
      rcases h41 with ⟨hb2, rfl, rfl⟩ | ⟨hb2, ht0, rfl, rfl⟩ | ⟨hb2, ht0, jl, rfl, rfl⟩
      ·refine au [] ?_
       exact absurd hck hb2
      ·refine au [1, 10, 10, 2, 2, 3] ?_
       refine TK.nilSl 28 3 rfl fun jd hjd => ?_
       refine au [] ?_
       refine TK.maskL [2, 3, 6, 7, 11, 13, 14, 16, 17, 20, 21, 22, 26, 28] ?_
       refine TK.kp ((jd, _) :: (jc, _) :: (ja, _) :: (jo, _) :: (j2, _) :: (j1, _) :: (jb, _) :: (0, _) :: (1, _) :: (s, _) :: (e, _) :: []) ?_
       refine Eq.mp ?_ (hcont jd 0 0 0)
       clear hcont
       rw [show ckX b = [] from if_pos ht0]
       congr 1 <;> rfl
      ·refine au [1, 10, 10, 2, 2, 3] ?_
       refine TK.maskL [2, 3, 6, 7, 11, 13, 14, 16, 17, 20, 21, 22, 26, 28] ?_
       refine TK.kp ((jl, _) :: (jc, _) :: (ja, _) :: (jo, _) :: (j2, _) :: (j1, _) :: (jb, _) :: (0, _) :: (1, _) :: (s, _) :: (e, _) :: []) ?_
       refine Eq.mp ?_ (hcont jl 0 0 0)
       clear hcont
       rw [show ckX b = clashM b from if_neg (by rw [ht0]; decide)]
       congr 1 <;> rfl
     ·skip
      refine au [4] ?_
      refine TK.share (fun je _ _ _ => slotsA 287 [(2, .v (.int .u8 k2)), (3, .ptr jb 0), (6, boolA false), (7, .ptr jo 0), (11, intA 0), (13, intA 0), (14, .sl ja 0 (lkX b).1.length), (16, intA 0), (17, .sl jc 0 (lkX b).1.length), (19, intA 0), (20, intA (lkX b).2.1), (21, intA (lkX b).2.1), (22, boolA (lkX b).2.2), (26, boolA (lkX b).2.2), (28, .sl jd 0 (ckX b).length), (29, .sl je 0 (ckX (revB b)).length)]) (fun je _ _ _ => (je, .cells ((ckX (revB b)).map intA) 3 false) :: (jd, .cells ((ckX b).map intA) 3 false) :: (jc, .cells ((lkX b).1.map intA) 3 false) :: (ja, .cells ((lkX b).1.map intA) 3 false) :: (jo, .cells (bookC (revB b) j1 j2) 27 true) :: (j2, seenO (revB b)) :: (j1, saysO (revB b)) :: (jb, .cells (bookC b s e) 27 true) :: (0, checksG) :: (1, saysG) :: (s, saysO b) :: (e, seenO b) :: []) (fun hcont => ?_) (fun je _ _ _ => ?_)
      ·skip
       refine au [5, 8] ?_
       refine TK.cl rfl rfl rfl rfl (clash_ok hT (b := revB b) ho12 hon hol) ?_
       rintro r42 K43 h44
       rcases h44 with ⟨hb2, rfl, rfl⟩ | ⟨hb2, ht0, rfl, rfl⟩ | ⟨hb2, ht0, jl, rfl, rfl⟩
       ·refine au [] ?_
        exact absurd hco hb2
       ·refine au [1, 10, 10, 2, 2, 3] ?_
        refine TK.nilSl 29 3 rfl fun je hje => ?_
        refine au [] ?_
        refine TK.maskL [2, 3, 6, 7, 11, 13, 14, 16, 17, 19, 20, 21, 22, 26, 28, 29] ?_
        refine TK.kp ((je, _) :: (jd, _) :: (jc, _) :: (ja, _) :: (jo, _) :: (j2, _) :: (j1, _) :: (jb, _) :: (0, _) :: (1, _) :: (s, _) :: (e, _) :: []) ?_
        refine Eq.mp ?_ (hcont je 0 0 0)
        clear hcont
        rw [show ckX (revB b) = [] from if_pos ht0]
        congr 1 <;> rfl
       ·refine au [1, 10, 10, 2, 2, 3] ?_
        refine TK.maskL [2, 3, 6, 7, 11, 13, 14, 16, 17, 19, 20, 21, 22, 26, 28, 29] ?_
        refine TK.kp ((jl, _) :: (jd, _) :: (jc, _) :: (ja, _) :: (jo, _) :: (j2, _) :: (j1, _) :: (jb, _) :: (0, _) :: (1, _) :: (s, _) :: (e, _) :: []) ?_
        refine Eq.mp ?_ (hcont jl 0 0 0)
        clear hcont
        rw [show ckX (revB b) = clashM (revB b) from if_neg (by rw [ht0]; decide)]
        congr 1 <;> rfl
      ·skip
       refine au [4, 5, 8] ?_
       refine TK.cl rfl rfl rfl rfl (askApi_ok hT hse hf.names hf.seen) ?_
       rintro r45 K46 ⟨rfl, rfl⟩
       refine au [1, 10, 10, 10, 2, 2, 2, 3, 4, 5, 8] ?_
       refine TK.cl rfl rfl rfl rfl (askApi_ok hT (b := revB b) ho12 hon hol) ?_
       rintro r48 K49 ⟨rfl, rfl⟩
       refine au [] ?_
       rw [rev_halves hck]
       refine au [1, 10, 10, 10, 2, 2, 2, 3, 4, 4] ?_
       refine TK.nd fun hnd => ?_
       have hac : ja ≠ jc := fun h => by subst h; simp [keys] at hnd
       rw [rev_ckX hck]
       refine au [5, 1, 6, 1] ?_
       refine TK.sp 198 (fun g27_3 => ?_) (fun g27_3 => ?_)
       ·simp at g27_3
       refine au [1, 6, 25, 1] ?_
       refine TK.sp 202 (fun g27_7 => ?_) (fun g27_7 => ?_)
       ·simp at g27_7
       refine au [1, 1] ?_
       refine TK.cl rfl rfl rfl rfl (sameInts_ok hT hac (ints_at (lkX b).1 3 false) (ints_at (lkX b).1 3 false) (lkX_len hck)) ?_
       rintro r51 K52 ⟨rfl, rfl⟩
       refine au [30, 25, 1] ?_
       refine TK.sp 208 (fun g27_13 => ?_) (fun g27_13 => ?_)
       ·simp at g27_13
       refine au [1, 1, 6, 25, 1] ?_
       refine TK.sp 213 (fun g27_18 => ?_) (fun g27_18 => ?_)
       ·simp at g27_18
       refine au [1, 1, 34, 25, 1] ?_
       refine TK.sp 218 (fun g27_23 => ?_) (fun g27_23 => ?_)
       ·simp at g27_23
       refine au [1, 6, 25, 1] ?_
       refine TK.sp 222 (fun g27_27 => ?_) (fun g27_27 => ?_)
       ·simp at g27_27
       refine au [1, 6, 25, 1] ?_
       refine TK.sp 226 (fun g27_31 => ?_) (fun g27_31 => ?_)
       ·simp at g27_31
       refine au [1, 28, 1, 28, 6, 25, 1] ?_
       refine TK.sp 233 (fun g27_38 => ?_) (fun g27_38 => ?_)
       ·simp at g27_38
       refine au [1, 1, 6, 25, 1] ?_
       refine TK.sp 238 (fun g27_43 => ?_) (fun g27_43 => ?_)
       ·simp at g27_43
       refine au [1, 1, 6, 25, 1] ?_
       refine TK.sp 243 (fun g27_48 => ?_) (fun g27_48 => ?_)
       ·simp at g27_48
       refine au [1, 1, 6, 25, 3, 20] ?_
       refine ⟨fun hc4 => ?_, fun hc4 => ?_⟩
       ·simp at hc4
       refine au [12, 4, 4, 5, 7, 9, 28, 6, 3, 20] ?_
       refine ⟨fun hc5 => ?_, fun hc5 => ?_⟩
       ·refine au [4, 5] ?_
        refine TK.cl rfl rfl rfl rfl (sought_ok tame) ?_
        rintro r54 K55 ⟨rfl, rfl⟩
        refine au [2, 3] ?_
        refine TK.rt hret [(0, _), (1, _), (s, _), (e, _)] ?_
        exact ⟨rfl, rfl⟩
       have hn0 : ¬ ((b.seekers.length : Int) = 0) := by simpa using hc5
       refine au [12, 4, 5, 1] ?_
       refine TK.a rfl (q_convInt rfl rfl Und.h Und.h (wrap_i64 (by omega))) ?_
       refine au [7, 9, 28] ?_
       refine TK.a rfl (q_rem rfl rfl rfl (by omega) (by omega)) ?_
       obtain ⟨q, hq⟩ := Int.eq_ofNat_of_zero_le (Int.emod_nonneg k2 hn0)
       have hq2 := Int.emod_lt_of_pos k2 (show 0 < (b.seekers.length : Int) by omega)
       rw [hq]
       have hql : q < b.seekers.length := by omega
       have hrl : (revB b).seekers.length = b.seekers.length := by show b.seekers.reverse.length = _; rw [List.length_reverse]
       refine au [2, 3, 4, 5, 8, 1] ?_
       refine TK.cl rfl rfl rfl rfl (wrongApi_ok hT (n := (q : Int)) hse hf.names hf.seen) ?_
       rintro r57 K58 ⟨rfl, rfl⟩
       refine au [1, 10, 10, 2, 2, 3, 4, 5, 8, 7, 9, 28, 24, 1, 24] ?_
       refine TK.cl rfl rfl rfl rfl (wrongApi_ok hT (b := revB b) (n := (b.seekers.length : Int) - 1 - q) ho12 hon hol) ?_
       rintro r60 K61 ⟨rfl, rfl⟩
       refine au [] ?_
       rw [rev_wrongApi hck hql]
       refine au [1, 10, 10, 2, 2, 3, 4, 5, 1, 1, 6, 1] ?_
       refine TK.sp 279 (fun g34_4 => ?_) (fun g34_4 => ?_)
       ·refine au [1, 1, 6, 26, 1] ?_
        refine TK.sp 284 (fun g34_9 => ?_) (fun g34_9 => ?_)
        ·refine TK.cl rfl rfl rfl rfl (sought_ok tame) ?_
         rintro r63 K64 ⟨rfl, rfl⟩
         refine au [26, 2, 3] ?_
         refine TK.rt hret [(0, _), (1, _), (s, _), (e, _)] ?_
         exact ⟨rfl, rfl⟩
        simp at g34_9
       simp at g34_4
end Go.Vel
end
section
set_option linter.all false
set_option maxRecDepth 20000
set_option maxHeartbeats 60000000
namespace Go.Vel
open Go Go.Conc Go.Proofs Go.ChangeShapes Go.WideShapes Go.ChangeAt Go.RowKit
open Go.Proofs.YtpdioiojfgknbaaDoor (Tryd.pinned)
def seekerAnyOrderPhi (x0a x0b : Value) : Nat → Loc3
 | 0 => ⟨0, 0, 0⟩
 | 1 => ⟨1, 0, 0⟩
 | 2 => locV x0a
 | 3 => locV x0b
 | _ => ⟨0, 0, 0⟩
theorem seekerAnyOrder_run {W : World} (hl : laidMetH Tryd.prog tblLaid W) {b0 : Bk} {x0a x0b : Value} {k1 : Int} {k2 : Int} (h0a : SlIn W saysV 5 b0.seekers x0a) (h0b : SlIn W seenV 2 b0.seen x0b) (h1 : 0 ≤ k1 ∧ k1 < 256) (h2 : 0 ≤ k2 ∧ k2 < 256) :
  ∃ M last o w' t', runNT Tryd.prog (M + 1) (solo (G (Frame.enter Tryd.prog 4 #[.agg #[.int .i64 b0.steps, .int .i64 b0.wrong, .int .i64 b0.low, .int .i64 b0.high, x0a, x0b], .int .u8 k1, .int .u8 k2] .normal) []) W) #[] = (.ended o w', t') ∧
   runN Tryd.prog M (solo (G (Frame.enter Tryd.prog 4 #[.agg #[.int .i64 b0.steps, .int .i64 b0.wrong, .int .i64 b0.low, .int .i64 b0.high, x0a, x0b], .int .u8 k1, .int .u8 k2] .normal) []) W) = .next last ∧
   step Tryd.prog last = .ended o w' ∧ Conc.Good Tryd.prog (fun v w => v = .bool true ∧ w.os = W.os ∧ w.output = W.output ∧ KeptAll W w) last o w' t' := by
 refine good_run (R := fun v w => v = .bool true ∧ KeptAll W w) (R' := fun v w => v = .bool true ∧ w.os = W.os ∧ w.output = W.output ∧ KeptAll W w) Tryd.func4 rfl (by kernel_rfl) (fun v w' ho hu hr => ⟨hr.1, ho, hu, hr.2⟩) (fun v w τ d h => h) (holdAll_fits W) ?_
 obtain ⟨ht0, ht1⟩ := of_laid hl
 refine lawAnyOrder_top (b := b0) (s := 2) (e := 3) (k1 := k1) (k2 := k2) (by decide) h1 h2 (A := [checksG, saysG, saysO b0, seenO b0]) (φ := seekerAnyOrderPhi x0a x0b) (F := holdAll W) ?_ ?_ ?_ ?_ ?_ ?_
 ·intro x hx
  simp only [List.mem_cons, List.not_mem_nil, or_false] at hx
  rcases hx with rfl | rfl | rfl | rfl <;> rfl
 ·simp [keys]
 ·intro g i hg
  match g, hg with
  | 0, hg => cases hg; exact ⟨by simp, rfl, rfl⟩
  | 1, hg => cases hg; exact ⟨by simp, rfl, rfl⟩
  | g + 2, hg => cases hg
 ·refine ⟨fun i o ho => ?_, fun i j o o' hi _ _ hx => ?_, fun b x h => h, fun i o hi hx => ?_⟩
  ·match i, ho with
   | 0, ho => cases ho; exact tbl_rel ht0
   | 1, ho => cases ho; exact tbl_rel ht1
   | 2, ho => cases ho; exact relO_in h0a (fun _ => rfl) says_rel
   | 3, ho => cases ho; exact relO_in h0b (fun _ => rfl) seen_rel
   | i + 4, ho => simp at ho
  ·match i, hi with
   | 0, hi => cases hi; cases hx
   | 1, hi => cases hi; cases hx
   | 2, hi => cases hi; cases hx
   | 3, hi => cases hi; cases hx
   | i + 4, hi => simp at hi
  ·match i, hi with
   | 0, hi => cases hi; cases hx
   | 1, hi => cases hi; cases hx
   | 2, hi => cases hi; cases hx
   | 3, hi => cases hi; cases hx
   | i + 4, hi => simp at hi
 ·refine ⟨rfl, fun j a y ha hy => ?_⟩
  match j, ha, hy with
  | 0, ha, hy =>
   cases ha; cases hy
   refine .agg rfl fun t u z hu hz => ?_
   match t, hu, hz with
   | 0, hu, hz => cases hu; cases hz; exact .v _
   | 1, hu, hz => cases hu; cases hz; exact .v _
   | 2, hu, hz => cases hu; cases hz; exact .v _
   | 3, hu, hz => cases hu; cases hz; exact .v _
   | 4, hu, hz => cases hu; cases hz; exact relV_in h0a (by simp) rfl
   | 5, hu, hz => cases hu; cases hz; exact relV_in h0b (by simp) rfl
   | t + 6, hu, hz => simp [bookC] at hu
  | 1, ha, hy =>
   cases ha; cases hy; exact .v _
  | 2, ha, hy =>
   cases ha; cases hy; exact .v _
  | j + 3, ha, hy => simp at ha
 ·rintro r K' φ' A' H' v w ⟨rfl, _⟩ hH' hv' hfit
  refine ⟨inv_v hv', fun i hi => ?_⟩
  have hh := Array.getElem?_eq_getElem hi
  rw [hh]
  exact hfit i false _ (hH'.fr _ _ (holdAll_get hh))
set_option maxRecDepth 100000 in
theorem seekerAnyOrder_lifted (os : Os) (started : os.Started) (H : Type) (enc : TypeId × Value → H) :
  ReturnsInLeavingWide Go.Proofs.YtpdioiojfgknbaaDoor.Rows.seekerAnyOrderRow.assume Tryd.checked os 4 .any (Go.Proofs.YtpdioiojfgknbaaDoor.Rows.seekerAnyOrderRow.pre enc Tryd.prog Tryd.f4 (OpenSpec.ofChange Go.Proofs.YtpdioiojfgknbaaDoor.Rows.seekerAnyOrderSpec))
   (Go.Proofs.YtpdioiojfgknbaaDoor.Rows.seekerAnyOrderSpec.post enc Tryd.prog Tryd.f4 false true false false) := by
 refine returnsInLeavingWide_of_good (C := Tryd.checked) own started
  (ChangeSpec.witness_shaped (enc := enc) (C := Tryd.checked) (os := os) (X := fun w _ => laidMetH Tryd.prog tblLaid w) false (World.doorLaid Tryd.prog 400 os) #[.agg #[.int .i64 0, .int .i64 0, .int .i64 0, .int .i64 0, .slice none 0 0, .slice none 0 0], .int .u8 0, .int .u8 0] 8 rfl (World.shaped_of_RefB (by kernel_rfl) (by kernel_rfl)) (by kernel_rfl) (by kernel_rfl) (by kernel_rfl) (door_met os _)) ?_
 intro w tape i _ _ _ hok hpre _
 obtain ⟨_, _, _, fn', hfn', _, _, _, _, hval0⟩ := hok
 obtain rfl : fn' = Tryd.f4 := Option.some.inj (hfn'.symm.trans Tryd.func4)
 obtain ⟨⟨⟨ds, gs, before, hw, hc⟩, hL0⟩, _⟩ := hpre
 have hW := DataW.Whole.of_heap (w' := w.forCall tape i) (by rfl) hw
 have hL : laidMetH Tryd.prog tblLaid (w.forCall tape i) := laidMetH.of_heap (by rfl) hL0
 obtain ⟨bl, args, vars⟩ := i
 generalize w.forCall tape ⟨bl, args, vars⟩ = W at hW hL hval0 ⊢
 have hW' := hW
 obtain ⟨p, q, hA0, hV0, rfl, _, _⟩ := hW
 have hA : DataW.TrodAll enc Tryd.prog W 0 (fun _ => true) true [27, 5, 5] args.toList ds p := hA0
 obtain ⟨v0, u0, d0, ds0, p0, q0, hargs, rfl, rfl, t0, hr0⟩ := trodAll_cons hA
 obtain ⟨v1, u1, d1, ds1, p1, q1, rfl, rfl, rfl, t1, hr1⟩ := trodAll_cons hr0
 obtain ⟨v2, u2, d2, ds2, p2, q2, rfl, rfl, rfl, t2, hr2⟩ := trodAll_cons hr1
 obtain ⟨rfl, rfl, rfl⟩ := trodAll_nil hr2
 obtain rfl : args = #[v0, v1, v2] := by cases args; simp_all
 obtain ⟨rfl, rfl⟩ := trodVars_none hV0
 obtain ⟨b0, x0a, x0b, rfl, s0a, s0b⟩ := open_book (okAgg Tryd.underlying27 (hval0 0 27 v0 rfl rfl)) t0
 obtain ⟨k1, rfl, rfl, rfl, s1⟩ := open_int Tryd.underlying5 (hval0 1 5 v1 rfl rfl) t1
 obtain ⟨k2, rfl, rfl, rfl, s2⟩ := open_int Tryd.underlying5 (hval0 2 5 v2 rfl rfl) t2
 obtain ⟨M, last, o, w', t', g1, g2, g3, g4⟩ := seekerAnyOrder_run hL s0a s0b (u8_wf s1) (u8_wf s2)
 refine ⟨M, last, o, w', t', g1, g2, g3, g4.mono fun v hF => ?_⟩
 obtain ⟨rfl, ho, hu, hkp⟩ := hF
 refine ChangeSpec.post_blind ?_
 exact ⟨_, _, _, [], _, [], hW', trodAll_mk1 (shut_bool Tryd.underlying4 true), ⟨_, _, trod_mono laid_out t0 hkp, ⟨_, _, trod_mono laid_out t1 hkp, ⟨_, _, trod_mono laid_out t2 hkp, trodAll_mk0, rfl⟩, rfl⟩, rfl⟩, rfl, kept_but ho hu hkp _, fun h => by cases h⟩
open Go.Proofs.YtpdioiojfgknbaaDoor in
theorem seekerAnyOrder_said : Rows.SeekerAnyOrderSaid :=
 OpenClaim.holds_of_wide_leaving 4 Tryd.f4 rfl rfl rfl rfl rfl rfl rfl ⟨rfl, rfl, rfl, rfl, rfl⟩ rfl rfl rfl rfl rfl (by kernel_rfl) Tryd.func4 (by kernel_rfl)
  (of_decide_eq_true (by kernel_rfl)) (by unfold Func.isWrapper; first | (rw [if_pos (by decide +kernel)]; kernel_rfl) | (rw [if_neg (by decide +kernel)]; exact ⟨rfl, rfl⟩))
  (fun os started H enc _ => seekerAnyOrder_lifted os started H enc)
end Go.Vel
namespace Go.Proofs.YtpdioiojfgknbaaDoor
open Go
theorem seekerAnyOrder_holds : Rows.SeekerAnyOrderCardSaid :=
 Go.Vel.holds_tied_goes .later [.funcs, .funcs] true (true, "fb03854694f5ca032dc06b62647a0139c6d65f0bc48579e1b16101737a65f154") false
  Go.Vel.seekerAnyOrder_said (by kernel_rfl) seekerAnyOrder_row_tie rfl ⟨rfl, rfl⟩ (by kernel_rfl) rfl
  (fun f fn hf hfn => by
   obtain rfl : f = 4 := Option.some.inj ((show Tryd.prog.funcNamed "velarium/velariumlaw09.SeekerAnyOrder" = some 4 by kernel_rfl).symm.trans hf) |>.symm
   obtain rfl : fn = Tryd.f4 := (Option.some.inj (Tryd.func4.symm.trans hfn)).symm
   exact ⟨by kernel_rfl, fun j t ht => by
    rw [Tryd.params4] at ht
    have hm : t ∈ [27, 5, 5] := by simpa using Array.mem_of_getElem? ht
    have hall : ([27, 5, 5].all fun u => !Tryd.prog.wantsStandIn u) = true := by kernel_rfl
    exact (show Tryd.prog.wantsStandIn t = false by simpa using List.all_eq_true.1 hall t hm)⟩)
  (by kernel_rfl)
#print axioms seekerAnyOrder_holds
end Go.Proofs.YtpdioiojfgknbaaDoor
end
