/- The law SeekerArcs: an arc and the rest of the round have all seams together; Narrow's arc is the least that surely has a seam It holds of every program, tape and world that the statements name, as each theorem says. -/
import Derived.Test.YtpdioiojfgknbaaDoorW5
import Derived.Test.YtpdioiojfgknbaaDoorW6
import Derived.Test.YtpdioiojfgknbaaDoorW7
import Derived.Test.YtpdioiojfgknbaaDoorW8
import Derived.Test.YtpdioiojfgknbaaDoorW9
section
set_option linter.all false
set_option maxRecDepth 20000
set_option maxHeartbeats 60000000
namespace Go.Vel
open Go Go.Conc Go.Proofs

end Go.Vel
end
section
set_option linter.all false
set_option maxRecDepth 20000
set_option maxHeartbeats 60000000
namespace Go.Vel
open Go Go.Conc Go.Proofs

section
variable {P : Program} {gm : Nat → Option Nat} {T : Goroutine → Hp → Prop} {Y : KX P gm T} {ds : List Nat} {k : List Item} {env env' : List AV} {K : KV}
end

/-! ### the specification's sets -/
def shortB (most : Int) (l : List Int) : Bool := decide ((l.length : Int) < most)
def moreM (most n : Int) (A : List (List Int)) : List (List Int) := (A.filter (shortB most)).map (· ++ [n])
def setsM (most : Int) : Nat → List (List Int)
 | 0 => [[]]
 | n + 1 => setsM most n ++ moreM most n (setsM most n).reverse
end Go.Vel
end
section
set_option linter.all false
set_option maxRecDepth 20000
set_option maxHeartbeats 60000000
namespace Go.Vel
open Go Go.Conc Go.Proofs

section
variable {P : Program} {gm : Nat → Option Nat} {T : Goroutine → Hp → Prop}
end
theorem setsM_mem {most : Int} : ∀ n, ∀ l ∈ setsM most n, ∀ x ∈ l, 0 ≤ x ∧ x < n
 | 0, l, hl, x, hx => by rw [List.mem_singleton.1 hl] at hx; cases hx
 | n + 1, l, hl, x, hx => by
  rcases List.mem_append.1 hl with hl | hl
  ·have := setsM_mem n l hl x hx; omega
  ·obtain ⟨y, hy, rfl⟩ := List.mem_map.1 hl
   rcases List.mem_append.1 hx with hx | hx
   ·have := setsM_mem n y (List.mem_reverse.1 (List.mem_filter.1 hy).1) x hx; omega
   ·rw [List.mem_singleton.1 hx]; omega
def setsB (b : Bk) : List (List Int) := setsM b.high b.steps.toNat
def statesR (b : Bk) : List (List Int) := (setsB b).filter (canM b)
/-- One list of many is handed over. -/
theorem objs_split {Q : List (Nat × List Int)} {x : Nat × List Int} (hx : x ∈ Q) : ∃ R, Rem (objsL Q) (x.1, .cells (x.2.map intA) 3 false) R := rem_of_mem (objsL_mem hx)
def knownBar (b : Bk) (t : Bool) : Int := if checkM b = 0 then if t = false then 6 else if statesR b = [] then 9 else 0 else checkM b

end Go.Vel
end
section
set_option linter.all false
set_option maxRecDepth 20000
set_option maxHeartbeats 60000000
namespace Go.Vel
open Go Go.Conc Go.Proofs

/-! ### the states of the program, and of the specification -/
theorem loop_sub {b : Bk} : ∀ (rest S R : List Int), R ∈ loopM b S rest → ∃ T, T.Sublist rest ∧ T ≠ [] ∧ R = S ++ T
 | [], S, R, h => by cases h
 | n :: rest, S, R, h => by
  simp only [loopM] at h
  split at h
  ·rcases List.mem_append.1 h with h | h
   ·rcases List.mem_append.1 h with h | h
    ·unfold ownM at h
     split at h
     ·rw [List.mem_singleton.1 h]
      exact ⟨[n], .cons_cons _ (List.nil_sublist _), by simp, rfl⟩
     ·cases h
    ·obtain ⟨T, h1, _, rfl⟩ := loop_sub rest _ R h
     exact ⟨n :: T, .cons_cons _ h1, by simp, by simp⟩
   ·obtain ⟨T, h1, h2, rfl⟩ := loop_sub rest _ R h
    exact ⟨T, .cons _ h1, h2, rfl⟩
  ·cases h
theorem own_nodup (b : Bk) (S : List Int) : (ownM b S).Nodup := by
 unfold ownM
 split <;> simp
theorem loop_nodup {b : Bk} : ∀ (rest S : List Int), rest.Nodup → (loopM b S rest).Nodup
 | [], S, _ => by simp [loopM]
 | n :: rest, S, h => by
  have h2 := List.nodup_cons.1 h
  simp only [loopM]
  split
  ·refine List.nodup_append.2 ⟨List.nodup_append.2 ⟨own_nodup _ _, loop_nodup rest _ h2.2, fun x hx y hy e => ?_⟩, loop_nodup rest _ h2.2, fun x hx y hy e => ?_⟩
   ·subst e
    obtain ⟨T, _, hT, rfl⟩ := loop_sub _ _ _ hy
    unfold ownM at hx
    split at hx
    ·have := List.mem_singleton.1 hx
     exact hT (by simpa using this)
    ·cases hx
   ·subst e
    obtain ⟨T, hT1, _, e2⟩ := loop_sub _ _ _ hy
    have hn : n ∈ T := by
     rcases List.mem_append.1 hx with hx | hx
     ·unfold ownM at hx
      split at hx
      ·have := List.mem_singleton.1 hx
       rw [e2] at this
       have := List.append_cancel_left this
       simp [this]
      ·cases hx
     ·obtain ⟨T', _, _, e3⟩ := loop_sub _ _ _ hx
      rw [e2, List.append_assoc] at e3
      have := List.append_cancel_left e3
      simp [this]
    exact h2.1 (hT1.subset hn)
  ·simp
theorem restM_pair (b : Bk) (i : Nat) : (restM b i).Pairwise (· < ·) := by
 unfold restM
 rw [List.pairwise_map]
 exact (List.pairwise_lt_range' (s := i) (n := b.steps.toNat - i)).imp fun h => by omega
theorem allM_nodup (b : Bk) : (allM b).Nodup := by
 have hr : (restM b 0).Nodup := (restM_pair b 0).imp fun h e => by omega
 refine List.nodup_append.2 ⟨own_nodup _ _, loop_nodup _ _ hr, fun x hx y hy e => ?_⟩
 subst e
 obtain ⟨T, _, hT, rfl⟩ := loop_sub _ _ _ hy
 unfold ownM at hx
 split at hx
 ·exact hT (by simpa using List.mem_singleton.1 hx)
 ·cases hx
theorem allM_pair {b : Bk} {R : List Int} (h : R ∈ allM b) : R.Pairwise (· < ·) := by
 rcases List.mem_append.1 h with h | h
 ·unfold ownM at h
  split at h
  ·rw [List.mem_singleton.1 h]; exact .nil
  ·cases h
 ·obtain ⟨T, h1, _, rfl⟩ := loop_sub _ _ _ h
  exact (restM_pair b 0).sublist h1
theorem memA {b : Bk} {xs : List Int} (hp : xs.Pairwise (· < ·)) (hr : ∀ x ∈ xs, 0 ≤ x ∧ x < b.steps) (hs : seenM b xs = true) : xs ∈ allM b := by
 unfold allM
 have hh : ((xs.length : Int)) ≤ b.high := by
  unfold seenM at hs
  simp only [Bool.and_eq_true, decide_eq_true_eq] at hs
  exact hs.1.2
 by_cases h0 : xs = []
 ·subst h0
  refine List.mem_append.2 (.inl ?_)
  unfold ownM
  rw [if_pos hs]
  exact List.mem_singleton.2 rfl
 ·exact List.mem_append.2 (.inr (mem_loopM (restM b 0) [] xs (sub_rest _ 0 xs rfl hp fun x hx => by have := hr x hx; omega) h0 hh hs))

theorem sets_pair {most : Int} : ∀ n, ∀ l ∈ setsM most n, l.Pairwise (· < ·)
 | 0, l, hl => by rw [List.mem_singleton.1 hl]; exact .nil
 | n + 1, l, hl => by
  rcases List.mem_append.1 hl with hl | hl
  ·exact sets_pair n l hl
  ·obtain ⟨y, hy, rfl⟩ := List.mem_map.1 hl
   have hy' := List.mem_reverse.1 (List.mem_filter.1 hy).1
   refine List.pairwise_append.2 ⟨sets_pair n y hy', by simp, fun a ha c hc => ?_⟩
   rw [List.mem_singleton.1 hc]
   exact (setsM_mem n y hy' a ha).2
theorem sets_mem {most : Int} : ∀ (n : Nat) (l : List Int), l.Pairwise (· < ·) → (∀ x ∈ l, 0 ≤ x ∧ x < n) → (l.length : Int) ≤ most → l ∈ setsM most n
 | 0, l, _, hr, _ => by
  cases l with
  | nil => exact List.mem_singleton.2 rfl
  | cons x l => have := hr x (by simp); omega
 | n + 1, l, hp, hr, hl => by
  rcases List.eq_nil_or_concat l with rfl | ⟨y, a, rfl⟩
  ·exact List.mem_append.2 (.inl (sets_mem n [] .nil (fun x hx => by cases hx) hl))
  ·rw [List.concat_eq_append] at hp hr hl ⊢
   have hp2 := List.pairwise_append.1 hp
   have ha := hr a (by simp)
   have hlt : ∀ x ∈ y, x < a := fun x hx => hp2.2.2 x hx a (by simp)
   by_cases e : a = n
   ·subst e
    refine List.mem_append.2 (.inr (List.mem_map.2 ⟨y, List.mem_filter.2 ⟨List.mem_reverse.2 (sets_mem n y hp2.1 (fun x hx => ?_) ?_), ?_⟩, rfl⟩))
    ·have := hlt x hx; have := hr x (by simp [hx]); omega
    ·simp at hl; omega
    ·unfold shortB; simp at hl ⊢; omega
   ·refine List.mem_append.2 (.inl (sets_mem n _ hp (fun x hx => ?_) hl))
    have h1 := hr x hx
    rcases List.mem_append.1 hx with hx | hx
    ·have := hlt x hx; omega
    ·rw [List.mem_singleton.1 hx] at h1 ⊢; omega
theorem sets_nodup {most : Int} : ∀ n, (setsM most n).Nodup
 | 0 => by simp [setsM]
 | n + 1 => by
  have ih := sets_nodup (most := most) n
  refine List.nodup_append.2 ⟨ih, ?_, fun x hx y hy e => ?_⟩
  ·unfold moreM List.Nodup
   rw [List.pairwise_map]
   refine List.Pairwise.filter _ ?_
   exact (List.pairwise_reverse.2 (ih.imp fun {a c} h => (fun e => h e.symm : c ≠ a))).imp fun h e => h (List.append_cancel_right e)
  ·subst e
   obtain ⟨y, _, rfl⟩ := List.mem_map.1 hy
   have := setsM_mem n _ hx n (by simp)
   omega
theorem can_seen {b : Bk} {S : List Int} (h : canM b S = true) : seenM b S = true := by
 unfold canM at h
 simp only [Bool.and_eq_true] at h
 exact h.2
/-- THE STATES ARE THE SAME, IN ANOTHER ORDER. -/
theorem states_perm {b : Bk} (hb : BkOk b) : (statesM b).Perm (statesR b) := by
 unfold statesM statesR
 refine (List.perm_ext_iff_of_nodup (List.Pairwise.filter _ (allM_nodup b)) (List.Pairwise.filter _ (sets_nodup _))).2 fun S => ?_
 rw [List.mem_filter, List.mem_filter]
 constructor
 ·rintro ⟨h1, h2⟩
  refine ⟨sets_mem _ S (allM_pair h1) (fun x hx => ?_) ?_, h2⟩
  ·have := (allM_ok hb S h1).mem x hx; omega
  ·have := can_seen h2
   unfold seenM at this
   simp only [Bool.and_eq_true, decide_eq_true_eq] at this
   exact this.1.2
 ·rintro ⟨h1, h2⟩
  refine ⟨memA (sets_pair _ S h1) (fun x hx => ?_) (can_seen h2), h2⟩
  have := setsM_mem _ S h1 x hx
  have := hb.steps
  omega
end Go.Vel
end
section
set_option linter.all false
set_option maxRecDepth 20000
set_option maxHeartbeats 60000000
namespace Go.Vel
open Go Go.Conc Go.Proofs

/-! ### the specification's sums over states -/
def oftR (Ls : List (List Int)) (n : Int) : Int := ((Ls.filter fun S => decide (n ∈ S)).length : Nat)
/-- A list of lists in memory: where its parts lie, the lists, and their objects. -/
structure LsIn (P Q : List (Nat × List Int)) (Ls : List (List Int)) : Prop where
 eq : P.map (·.2) = Ls
 mem : ∀ x ∈ P, x ∈ Q
theorem LsIn.len {P Q : List (Nat × List Int)} {Ls : List (List Int)} (h : LsIn P Q Ls) : P.length = Ls.length := by rw [← h.eq, List.length_map]
theorem LsIn.split {P Q : List (Nat × List Int)} {Ls : List (List Int)} (h : LsIn P Q Ls) {i : Nat} (hi : i < P.length) : ∃ R, Rem (objsL Q) (P[i].1, .cells (P[i].2.map intA) 3 false) R := objs_split (h.mem _ (List.getElem_mem hi))

end Go.Vel
end
section
set_option linter.all false
set_option maxRecDepth 20000
set_option maxHeartbeats 60000000
namespace Go.Vel
open Go Go.Conc Go.Proofs
/-! ### the specification's sums are the program's -/
theorem oftR_eq : ∀ {Ls : List (List Int)} (_ : ∀ S ∈ Ls, S.Nodup) (n : Int), oftR Ls n = oftM Ls n
 | [], _, n => rfl
 | S :: Ls, h, n => by
  have ih := oftR_eq (fun T hT => h T (List.mem_cons_of_mem _ hT)) n
  unfold oftR oftM at ih ⊢
  rw [List.flatten_cons, List.count_append, List.filter_cons]
  have h1 := (h S List.mem_cons_self).count (a := n)
  by_cases hm : n ∈ S
  ·rw [if_pos (by simpa using hm)]
   rw [if_pos hm] at h1
   rw [h1, List.length_cons]
   omega
  ·rw [if_neg (by simpa using hm)]
   rw [if_neg hm] at h1
   rw [h1]
   omega
end Go.Vel
end
section
set_option linter.all false
set_option maxRecDepth 20000
set_option maxHeartbeats 60000000
namespace Go.Vel
open Go Go.Conc Go.Proofs
/-! ### the specification's sorted list -/
def stepS (x : Int) (p : List Int × Bool) (o : Int) : List Int × Bool :=
 ((if (!p.2 && decide (o ≥ x)) = true then p.1 ++ [x] else p.1) ++ (if (o != x) = true then [o] else []), p.2 || decide (o ≥ x))
def finS (x : Int) (p : List Int × Bool) : List Int := if p.2 = true then p.1 else p.1 ++ [x]
def insS (out : List Int) (x : Int) : List Int := finS x (out.foldl (stepS x) ([], false))
def sortS (xs : List Int) : List Int := xs.foldl insS []
theorem stepS_put {x : Int} : ∀ (os : List Int) (nx : List Int), (∀ y ∈ os, x < y) → os.foldl (stepS x) (nx, true) = (nx ++ os, true)
 | [], nx, _ => by rw [List.foldl_nil, List.append_nil]
 | o :: os, nx, h => by
  have h1 : x < o := h o List.mem_cons_self
  rw [List.foldl_cons, show stepS x (nx, true) o = (nx ++ [o], true) from by
   unfold stepS
   rw [if_neg (by simp), if_pos (by simp; omega)]; rfl, stepS_put os _ fun y hy => h y (List.mem_cons_of_mem _ hy), List.append_assoc]
  rfl
theorem stepS_low {x : Int} : ∀ (os : List Int) (nx : List Int), os.Pairwise (· < ·) → finS x (os.foldl (stepS x) (nx, false)) = nx ++ (os.filter (fun y => decide (y < x)) ++ x :: os.filter (fun y => decide (x < y)))
 | [], nx, _ => by simp [finS]
 | o :: os, nx, h => by
  obtain ⟨h1, h2⟩ := List.pairwise_cons.1 h
  rw [List.foldl_cons]
  by_cases hc : o < x
  ·rw [show stepS x (nx, false) o = (nx ++ [o], false) from by
    unfold stepS
    rw [if_neg (by simp; omega), if_pos (by simp; omega)]
    simp; omega, stepS_low os _ h2, List.filter_cons, if_pos (by simpa using hc), List.filter_cons, if_neg (by simp; omega)]
   simp
  ·have h3 : ∀ y ∈ os, x < y := fun y hy => by have := h1 y hy; omega
   have h4 : os.filter (fun y => decide (y < x)) = [] := List.filter_eq_nil_iff.2 fun y hy => by have := h3 y hy; simp; omega
   have h5 : os.filter (fun y => decide (x < y)) = os := List.filter_eq_self.2 fun y hy => by simpa using h3 y hy
   rw [List.filter_cons, if_neg (by simpa using hc), List.filter_cons, h4, h5]
   by_cases he : o = x
   ·subst he
    rw [show stepS o (nx, false) o = (nx ++ [o], true) from by unfold stepS; simp, stepS_put os _ h3]
    simp [finS]
   ·rw [show stepS x (nx, false) o = (nx ++ [x] ++ [o], true) from by
     unfold stepS
     rw [if_pos (by simp; omega), if_pos (by simpa using he)]
     simp; omega, stepS_put os _ h3]
    rw [if_pos (by simp; omega)]
    simp [finS]
theorem insS_eq {out : List Int} {x : Int} (h : out.Pairwise (· < ·)) : insS out x = out.filter (fun y => decide (y < x)) ++ x :: out.filter (fun y => decide (x < y)) := by
 unfold insS; rw [stepS_low out [] h]; rfl
theorem insS_asc {out : List Int} {x : Int} (h : out.Pairwise (· < ·)) : (insS out x).Pairwise (· < ·) ∧ ∀ y, y ∈ insS out x ↔ y ∈ out ∨ y = x := by
 rw [insS_eq h]
 refine ⟨?_, fun y => ?_⟩
 ·refine List.pairwise_append.2 ⟨h.sublist List.filter_sublist, List.pairwise_cons.2 ⟨fun y hy => by simpa using (List.mem_filter.1 hy).2, h.sublist List.filter_sublist⟩, fun a ha c hc => ?_⟩
  have h1 : a < x := by simpa using (List.mem_filter.1 ha).2
  rcases List.mem_cons.1 hc with rfl | hc
  ·exact h1
  ·have h2 : x < c := by simpa using (List.mem_filter.1 hc).2
   omega
 ·simp only [List.mem_append, List.mem_filter, List.mem_cons, decide_eq_true_eq]
  constructor
  ·rintro (⟨h1, _⟩ | rfl | ⟨h1, _⟩)
   ·exact .inl h1
   ·exact .inr rfl
   ·exact .inl h1
  ·rintro (h1 | rfl)
   ·rcases Int.lt_trichotomy y x with h2 | h2 | h2
    ·exact .inl ⟨h1, h2⟩
    ·exact .inr (.inl h2)
    ·exact .inr (.inr ⟨h1, h2⟩)
   ·exact .inr (.inl rfl)
theorem sortS_asc (xs : List Int) : ∀ out : List Int, out.Pairwise (· < ·) → (xs.foldl insS out).Pairwise (· < ·) ∧ ∀ y, y ∈ xs.foldl insS out ↔ y ∈ out ∨ y ∈ xs := by
 induction xs with
 | nil => intro out h; exact ⟨h, fun y => by simp⟩
 | cons x xs ih =>
  intro out h
  obtain ⟨h1, h2⟩ := insS_asc (x := x) h
  obtain ⟨h3, h4⟩ := ih _ h1
  refine ⟨h3, fun y => ?_⟩
  rw [List.foldl_cons, h4, h2, List.mem_cons, or_assoc]
theorem asc_ext : ∀ {xs ys : List Int}, xs.Pairwise (· < ·) → ys.Pairwise (· < ·) → (∀ z, z ∈ xs ↔ z ∈ ys) → xs = ys
 | [], [], _, _, _ => rfl
 | [], y :: ys, _, _, h => absurd ((h y).2 List.mem_cons_self) (by simp)
 | x :: xs, [], _, _, h => absurd ((h x).1 List.mem_cons_self) (by simp)
 | x :: xs, y :: ys, h1, h2, h => by
  obtain ⟨h3, h4⟩ := List.pairwise_cons.1 h1
  obtain ⟨h5, h6⟩ := List.pairwise_cons.1 h2
  have hx := List.mem_cons.1 ((h x).1 List.mem_cons_self)
  have hy := List.mem_cons.1 ((h y).2 List.mem_cons_self)
  have he : x = y := by
   rcases hx with e | e
   ·exact e
   ·rcases hy with f | f
    ·exact f.symm
    ·have := h5 _ e; have := h3 _ f; omega
  subst he
  congr 1
  refine asc_ext h4 h6 fun z => ⟨fun hz => ?_, fun hz => ?_⟩
  ·rcases List.mem_cons.1 ((h z).1 (List.mem_cons_of_mem _ hz)) with e | e
   ·have := h3 _ hz; omega
   ·exact e
  ·rcases List.mem_cons.1 ((h z).2 (List.mem_cons_of_mem _ hz)) with e | e
   ·have := h5 _ hz; omega
   ·exact e
end Go.Vel
end
section
set_option linter.all false
set_option maxRecDepth 20000
set_option maxHeartbeats 60000000
namespace Go.Vel
open Go Go.Conc Go.Proofs
/-! ### the program's counts are the specification's -/
theorem compact_asc {d : Array Int} (hs : ∀ i j : Nat, i ≤ j → j < d.size → d[i]! ≤ d[j]!) : ∀ m : Nat, m ≤ d.size → (Lib.compactUpTo d m).Pairwise (· < ·) ∧ ∀ y, y ∈ Lib.compactUpTo d m ↔ ∃ i, i < m ∧ d[i]! = y
 | 0, _ => ⟨by simp [Lib.compactUpTo], fun y => by simp [Lib.compactUpTo]⟩
 | m + 1, hm => by
  obtain ⟨h1, h2⟩ := compact_asc hs m (by omega)
  rw [Lib.compactUpTo_succ]
  cases hk : Lib.keeps d m
  ·rw [if_neg (by decide), List.append_nil]
   refine ⟨h1, fun y => (h2 y).trans ⟨fun ⟨i, a, c⟩ => ⟨i, by omega, c⟩, fun ⟨i, a, c⟩ => ?_⟩⟩
   by_cases hi : i < m
   ·exact ⟨i, hi, c⟩
   ·obtain rfl : i = m := by omega
    simp [Lib.keeps] at hk
    exact ⟨i - 1, by omega, by rw [← c]; first | exact hk.2.symm | exact hk.2⟩
  ·rw [if_pos rfl]
   refine ⟨List.pairwise_append.2 ⟨h1, List.pairwise_singleton _ _, fun a ha c hc => ?_⟩, fun y => ?_⟩
   ·obtain ⟨i, hi, rfl⟩ := (h2 a).1 ha
    rw [List.mem_singleton.1 hc]
    have h3 := hs i (m - 1) (by omega) (by omega)
    have h4 := hs (m - 1) m (by omega) (by omega)
    simp [Lib.keeps] at hk
    rcases hk with hk | hk
    ·omega
    ·omega
   ·rw [List.mem_append, h2, List.mem_singleton]
    constructor
    ·rintro (⟨i, a, c⟩ | rfl)
     ·exact ⟨i, by omega, c⟩
     ·exact ⟨m, by omega, rfl⟩
    ·rintro ⟨i, a, c⟩
     by_cases hi : i < m
     ·exact .inl ⟨i, hi, c⟩
     ·obtain rfl : i = m := by omega
      exact .inr c.symm
theorem counts_eq {b : Bk} (hb : BkOk b) : sortS ((statesR b).map fun S => (S.length : Int)) = countsM b := by
 unfold sortS countsM Lib.compact
 obtain ⟨h1, h2⟩ := sortS_asc ((statesR b).map fun S => (S.length : Int)) [] List.Pairwise.nil
 generalize hz : sortI ((statesM b).map fun S => (S.length : Int)) = zs
 have hp : zs.Perm ((statesM b).map fun S => (S.length : Int)) := by rw [← hz]; exact List.mergeSort_perm _ _
 have hso : zs.Pairwise (fun x y => decide (x ≤ y) = true) := by
  rw [← hz]
  exact List.pairwise_mergeSort (fun a c e h3 h4 => by simp only [decide_eq_true_eq] at *; omega) (fun a c => by simp only [Bool.or_eq_true, decide_eq_true_eq]; omega) _
 have hs : ∀ i j : Nat, i ≤ j → j < zs.toArray.size → zs.toArray[i]! ≤ zs.toArray[j]! := fun i j hij hj => by
  rw [List.size_toArray] at hj
  rw [getElem!_pos zs.toArray i (by simp; omega), getElem!_pos zs.toArray j (by simpa using hj)]
  rcases Nat.lt_or_eq_of_le hij with h | rfl
  ·have := List.pairwise_iff_getElem.1 hso i j (by omega) hj h
   simpa using this
  ·exact Int.le_refl _
 obtain ⟨h5, h6⟩ := compact_asc hs zs.length (by simp)
 refine asc_ext h1 h5 fun z => ?_
 rw [h2, h6]
 have h7 : z ∈ (statesR b).map (fun S => (S.length : Int)) ↔ z ∈ zs := by
  rw [hp.mem_iff]
  exact ((states_perm hb).map _).mem_iff.symm
 rw [h7]
 constructor
 ·rintro (h | h)
  ·exact absurd h (by simp)
  ·obtain ⟨i, hi, rfl⟩ := List.mem_iff_getElem.1 h
   exact ⟨i, hi, by rw [getElem!_pos zs.toArray i (by simpa using hi)]; simp⟩
 ·rintro ⟨i, hi, rfl⟩
  refine .inr ?_
  rw [getElem!_pos zs.toArray i (by simpa using hi)]
  simp
end Go.Vel
end
section
set_option linter.all false
set_option maxRecDepth 20000
set_option maxHeartbeats 60000000
namespace Go.Vel
open Go Go.Conc Go.Proofs
/-! ### what is so of the states of a book -/
theorem states_nodup (b : Bk) : (statesM b).Nodup := List.Pairwise.filter _ (allM_nodup b)
theorem state_pair {b : Bk} {S : List Int} (h : S ∈ statesM b) : S.Pairwise (· < ·) := allM_pair (List.mem_filter.1 h).1
theorem state_nodup {b : Bk} {S : List Int} (h : S ∈ statesM b) : S.Nodup := (state_pair h).imp fun h e => by omega
theorem state_mem {b : Bk} (hb : BkOk b) {S : List Int} (h : S ∈ statesM b) : ∀ x ∈ S, 0 ≤ x ∧ x < b.steps := (allM_ok hb S (List.mem_filter.1 h).1).mem
theorem state_len {b : Bk} (hb : BkOk b) {S : List Int} (h : S ∈ statesM b) : S.length ≤ 3 := (allM_ok hb S (List.mem_filter.1 h).1).len
theorem filt_add {α : Type} (p : α → Bool) : ∀ A : List α, (A.filter p).length + (A.filter fun x => !p x).length = A.length
 | [] => rfl
 | x :: A => by
  have ih := filt_add p A
  rw [List.filter_cons, List.filter_cons, List.length_cons]
  cases p x
  ·simp only [Bool.false_eq_true, if_false, Bool.not_false, if_true, List.length_cons]; omega
  ·simp only [Bool.not_true, Bool.false_eq_true, if_false, if_true, List.length_cons]; omega
theorem oft_len {b : Bk} (n : Int) : oftM (statesM b) n = (((statesM b).filter fun S => decide (n ∈ S)).length : Nat) := (oftR_eq (fun _ h => state_nodup h) n).symm
theorem filter_all_len {α : Type} {p : α → Bool} {A : List α} : (A.filter p).length = A.length ↔ ∀ S ∈ A, p S = true := by
 rw [List.length_filter_eq_length_iff]
theorem filter_none_len {α : Type} {p : α → Bool} {A : List α} : (A.filter p).length = 0 ↔ ∀ S ∈ A, p S = false := by
 rw [List.length_eq_zero_iff, List.filter_eq_nil_iff]
 exact ⟨fun h S hS => by simpa using h S hS, fun h S hS => by simpa using h S hS⟩
/-- A word of how many of some. -/
theorem word_of {α : Type} {p : α → Bool} {A : List α} (hne : A ≠ []) : (wordM A.length ((A.filter p).length : Nat) = 1 ↔ ∀ S ∈ A, p S = true) ∧ (wordM A.length ((A.filter p).length : Nat) = 2 ↔ ∀ S ∈ A, p S = false) ∧ (wordM A.length ((A.filter p).length : Nat) = 0 ↔ (∃ S ∈ A, p S = true) ∧ ∃ S ∈ A, p S = false) := by
 have h1 := filter_all_len (p := p) (A := A)
 have h2 := filter_none_len (p := p) (A := A)
 have h0 : A.length ≠ 0 := fun h => hne (List.length_eq_zero_iff.1 h)
 have e1 : (∃ S ∈ A, p S = true) ↔ ¬ (A.filter p).length = 0 := by
  rw [h2]
  constructor
  ·rintro ⟨S, hS, hp⟩ h; rw [h S hS] at hp; cases hp
  ·intro h
   refine Classical.byContradiction fun hc => h fun S hS => ?_
   rw [Bool.eq_false_iff]
   exact fun hp => hc ⟨S, hS, hp⟩
 have e2 : (∃ S ∈ A, p S = false) ↔ ¬ (A.filter p).length = A.length := by
  rw [h1]
  constructor
  ·rintro ⟨S, hS, hp⟩ h; rw [h S hS] at hp; cases hp
  ·intro h
   refine Classical.byContradiction fun hc => h fun S hS => ?_
   cases hp : p S with
   | true => rfl
   | false => exact absurd ⟨S, hS, hp⟩ hc
 rw [e1, e2, ← h1, ← h2]
 unfold wordM
 simp only [beq_iff_eq]
 generalize (A.filter p).length = m at *
 generalize A.length = n at *
 refine ⟨⟨fun h => ?_, fun h => ?_⟩, ⟨fun h => ?_, fun h => ?_⟩, ⟨fun h => ?_, fun h => ?_⟩⟩ <;> (repeat' split at *) <;> omega
theorem word_at {b : Bk} (hne : statesM b ≠ []) (n : Int) : (wordM (statesM b).length (oftM (statesM b) n) = 1 ↔ ∀ S ∈ statesM b, n ∈ S) ∧ (wordM (statesM b).length (oftM (statesM b) n) = 2 ↔ ∀ S ∈ statesM b, n ∉ S) ∧ (wordM (statesM b).length (oftM (statesM b) n) = 0 ↔ (∃ S ∈ statesM b, n ∈ S) ∧ ∃ S ∈ statesM b, n ∉ S) := by
 have := word_of (p := fun S => decide (n ∈ S)) hne
 rw [oft_len]
 simpa only [decide_eq_true_eq, decide_eq_false_iff_not] using this
theorem word_wrong {c : Bk} {A : List (List Int)} (hne : A ≠ []) (k : Nat) : (wordM A.length (A.length - rightsM c A k) = 1 ↔ ∀ S ∈ A, rightM c S k = false) ∧ (wordM A.length (A.length - rightsM c A k) = 2 ↔ ∀ S ∈ A, rightM c S k = true) ∧ (wordM A.length (A.length - rightsM c A k) = 0 ↔ (∃ S ∈ A, rightM c S k = false) ∧ ∃ S ∈ A, rightM c S k = true) := by
 have h := word_of (p := fun S => !rightM c S k) hne
 have e : (A.length : Int) - rightsM c A k = ((A.filter fun S => !rightM c S k).length : Nat) := by
  unfold rightsM
  have := filt_add (fun S => rightM c S k) A
  omega
 rw [e]
 simpa only [Bool.not_eq_true', Bool.not_eq_false'] using h
theorem counts_mem {b : Bk} (hb : BkOk b) (n : Int) : n ∈ countsM b ↔ ∃ S ∈ statesM b, (S.length : Int) = n := by
 rw [← counts_eq hb]
 unfold sortS
 rw [(sortS_asc _ [] .nil).2 n]
 simp only [List.not_mem_nil, false_or, List.mem_map, (states_perm hb).mem_iff]
theorem counts_asc {b : Bk} (hb : BkOk b) : (countsM b).Pairwise (· < ·) := by
 rw [← counts_eq hb]; exact (sortS_asc _ [] .nil).1
/-! bands -/
theorem band_fold (b : Bk) (lo w : Int) : ∀ (A : List (List Int)) (z : Int × Int), (A.foldl (bandM b lo w) z).1 ≤ z.1 ∧ z.2 ≤ (A.foldl (bandM b lo w) z).2 ∧ (∀ S ∈ A, (A.foldl (bandM b lo w) z).1 ≤ inM b S lo w ∧ inM b S lo w ≤ (A.foldl (bandM b lo w) z).2) ∧ ((A.foldl (bandM b lo w) z).1 = z.1 ∨ ∃ S ∈ A, (A.foldl (bandM b lo w) z).1 = inM b S lo w) ∧ ((A.foldl (bandM b lo w) z).2 = z.2 ∨ ∃ S ∈ A, (A.foldl (bandM b lo w) z).2 = inM b S lo w)
 | [], z => ⟨Int.le_refl _, Int.le_refl _, (fun S h => by cases h), .inl rfl, .inl rfl⟩
 | S :: A, z => by
  obtain ⟨h1, h2, h3, h4, h5⟩ := band_fold b lo w A (bandM b lo w z S)
  rw [List.foldl_cons]
  generalize A.foldl (bandM b lo w) (bandM b lo w z S) = r at *
  have e1 : (bandM b lo w z S).1 = if inM b S lo w < z.1 then inM b S lo w else z.1 := rfl
  have e2 : (bandM b lo w z S).2 = if z.2 < inM b S lo w then inM b S lo w else z.2 := rfl
  rw [e1] at h1 h4
  rw [e2] at h2 h5
  refine ⟨?_, ?_, fun T hT => ?_, ?_, ?_⟩
  ·split at h1 <;> omega
  ·split at h2 <;> omega
  ·rcases List.mem_cons.1 hT with rfl | hT
   ·constructor
    ·split at h1 <;> omega
    ·split at h2 <;> omega
   ·exact h3 T hT
  ·rcases h4 with h4 | ⟨T, hT, h4⟩
   ·split at h4
    ·exact .inr ⟨S, List.mem_cons_self, h4⟩
    ·exact .inl h4
   ·exact .inr ⟨T, List.mem_cons_of_mem _ hT, h4⟩
  ·rcases h5 with h5 | ⟨T, hT, h5⟩
   ·split at h5
    ·exact .inr ⟨S, List.mem_cons_self, h5⟩
    ·exact .inl h5
   ·exact .inr ⟨T, List.mem_cons_of_mem _ hT, h5⟩
theorem inM_bd {b : Bk} (hb : BkOk b) {S : List Int} (h : S ∈ statesM b) (lo w : Int) : 0 ≤ inM b S lo w ∧ inM b S lo w ≤ 3 := by
 have h1 := inM_le b S lo w
 have h2 := state_len hb h
 omega
/-- The band of an arc: each state lies in it, and its ends are met. -/
theorem within_of {b : Bk} (hb : BkOk b) (hne : statesM b ≠ []) (lo w : Int) : (∀ S ∈ statesM b, (withinM b (statesM b) lo w).1 ≤ inM b S lo w ∧ inM b S lo w ≤ (withinM b (statesM b) lo w).2) ∧ (∃ S ∈ statesM b, (withinM b (statesM b) lo w).1 = inM b S lo w) ∧ ∃ S ∈ statesM b, (withinM b (statesM b) lo w).2 = inM b S lo w := by
 obtain ⟨_, _, h3, h4, h5⟩ := band_fold b lo w (statesM b) (3, 0)
 obtain ⟨S, hS⟩ := List.exists_mem_of_ne_nil _ hne
 have hi := inM_bd hb hS lo w
 have h6 := h3 S hS
 unfold withinM
 refine ⟨h3, ?_, ?_⟩
 ·rcases h4 with h4 | h4
  ·exact ⟨S, hS, by rw [h4] at h6 ⊢; show (3 : Int) = _; have := h6.1; simp only at this; omega⟩
  ·exact h4
 ·rcases h5 with h5 | h5
  ·exact ⟨S, hS, by rw [h5] at h6 ⊢; show (0 : Int) = _; have := h6.2; simp only at this; omega⟩
  ·exact h5
end Go.Vel
end
section
set_option linter.all false
set_option maxRecDepth 20000
set_option maxHeartbeats 60000000
namespace Go.Vel
open Go Go.Conc Go.Proofs
/-! ### the specification's first arc is the program's -/
theorem arcK_some {b : Bk} {low k : Nat} : arcK b low = some k ↔ (withinM b (statesM b) low ((k : Int) + 1)).1 > 0 ∧ k < b.steps.toNat ∧ ∀ q < k, ¬ (withinM b (statesM b) low ((q : Int) + 1)).1 > 0 := by
 unfold arcK
 rw [List.find?_range_eq_some]
 simp only [List.mem_range, decide_eq_true_eq, Bool.not_eq_true', decide_eq_false_iff_not]
theorem arcs_mem {b : Bk} {y : Int × Int} : y ∈ arcsOf b (List.range b.steps.toNat) ↔ ∃ low k : Nat, low < b.steps.toNat ∧ arcK b low = some k ∧ y = ((low : Int), (k : Int) + 1) := by
 unfold arcsOf
 rw [List.mem_filterMap]
 constructor
 ·rintro ⟨low, h1, h2⟩
  unfold arcA at h2
  cases h5 : arcK b low with
  | none => rw [h5] at h2; exact absurd h2 (by simp)
  | some m =>
   rw [h5] at h2
   exact ⟨low, m, List.mem_range.1 h1, h5, (Option.some.inj h2).symm⟩
 ·rintro ⟨low, k, h1, h2, h3⟩
  refine ⟨low, List.mem_range.2 h1, ?_⟩
  unfold arcA
  rw [h2, h3]; rfl
theorem narrow_min {b : Bk} (hne : arcsOf b (List.range b.steps.toNat) ≠ []) : narrowM b ∈ arcsOf b (List.range b.steps.toNat) ∧ ∀ y ∈ arcsOf b (List.range b.steps.toNat), ltArc y (narrowM b) = false := by
 unfold narrowM
 generalize arcsOf b (List.range b.steps.toNat) = l at hne
 cases l with
 | nil => exact absurd rfl hne
 | cons x xs => exact ⟨firstL_mem, firstL_min⟩
end Go.Vel
end
section
set_option linter.all false
set_option maxRecDepth 20000
set_option maxHeartbeats 60000000
namespace Go.Vel
open Go Go.Conc Go.Proofs
/-! ### books that are made of others -/
theorem nodup_le {α : Type} : ∀ {l1 l2 : List α}, l1.Nodup → (∀ x ∈ l1, x ∈ l2) → l1.length ≤ l2.length
 | [], _, _, _ => Nat.zero_le _
 | x :: l1, l2, hn, hs => by
  obtain ⟨h1, h2⟩ := List.nodup_cons.1 hn
  obtain ⟨a, c, rfl⟩ := List.append_of_mem (hs x (by simp))
  have := nodup_le (l1 := l1) (l2 := a ++ c) h2 fun y hy => by
   have hne : y ≠ x := fun e => h1 (e ▸ hy)
   have := hs y (by simp [hy])
   simpa [hne] using this
  simp at this ⊢; omega
/-- A book that leaves no more than another one of as many steps. -/
structure Less (was now : Bk) : Prop where
 okw : BkOk was
 okn : BkOk now
 steps : now.steps = was.steps
 sub : ∀ S ∈ statesM now, S ∈ statesM was
 ne : statesM now ≠ []
namespace Less
variable {was now : Bk}
theorem wne (h : Less was now) : statesM was ≠ [] := fun e => by
 obtain ⟨S, hS⟩ := List.exists_mem_of_ne_nil _ h.ne
 have := h.sub S hS
 rw [e] at this
 cases this
theorem inM (h : Less was now) (S : List Int) (lo w : Int) : inM now S lo w = inM was S lo w := by unfold Vel.inM; rw [h.steps]
theorem many (h : Less was now) : 1 ≤ ((statesM now).length : Int) ∧ ((statesM now).length : Int) ≤ (statesM was).length := by
 have h1 := nodup_le (states_nodup now) h.sub
 have h2 : (statesM now).length ≠ 0 := fun e => h.ne (List.length_eq_zero_iff.1 e)
 omega
theorem counts (h : Less was now) {n : Int} (hn : n ∈ countsM now) : n ∈ countsM was := by
 obtain ⟨S, h1, h2⟩ := (counts_mem h.okn n).1 hn
 exact (counts_mem h.okw n).2 ⟨S, h.sub S h1, h2⟩
theorem wrong (h : Less was now) (k : Nat) (hr : ∀ S ∈ statesM now, rightM now S k = rightM was S k) (hu : wordM (statesM was).length ((statesM was).length - rightsM was (statesM was) k) ≠ 0) : wordM (statesM was).length ((statesM was).length - rightsM was (statesM was) k) = wordM (statesM now).length ((statesM now).length - rightsM now (statesM now) k) := by
 obtain ⟨w1, w2, _⟩ := word_wrong (c := was) h.wne k
 obtain ⟨v1, v2, _⟩ := word_wrong (c := now) h.ne k
 have hc : wordM (statesM was).length ((statesM was).length - rightsM was (statesM was) k) = 1 ∨ wordM (statesM was).length ((statesM was).length - rightsM was (statesM was) k) = 2 := by
  unfold wordM at hu ⊢
  split at hu
  ·exact .inl (by rw [if_pos (by assumption)])
  ·split at hu
   ·exact .inr (by rw [if_neg (by assumption), if_pos (by assumption)])
   ·exact absurd rfl hu
 rcases hc with hc | hc
 ·rw [hc, v1.2 fun S hS => by rw [hr S hS]; exact w1.1 hc S (h.sub S hS)]
 ·rw [hc, v2.2 fun S hS => by rw [hr S hS]; exact w2.1 hc S (h.sub S hS)]
theorem within (h : Less was now) (lo w : Int) : (withinM was (statesM was) lo w).1 ≤ (withinM now (statesM now) lo w).1 ∧ (withinM now (statesM now) lo w).1 ≤ (withinM now (statesM now) lo w).2 ∧ (withinM now (statesM now) lo w).2 ≤ (withinM was (statesM was) lo w).2 := by
 obtain ⟨a1, _, _⟩ := within_of h.okw h.wne lo w
 obtain ⟨b1, ⟨S, hS, b2⟩, ⟨T, hT, b3⟩⟩ := within_of h.okn h.ne lo w
 have c1 := a1 S (h.sub S hS)
 have c2 := a1 T (h.sub T hT)
 have c3 := b1 S hS
 rw [← h.inM S lo w] at c1
 rw [← h.inM T lo w] at c2
 omega
theorem arcs (h : Less was now) (ha : arcsOf was (List.range was.steps.toNat) ≠ []) : arcsOf now (List.range now.steps.toNat) ≠ [] ∧ (narrowM now).2 ≤ (narrowM was).2 := by
 obtain ⟨h1, _⟩ := narrow_min ha
 obtain ⟨low, k, h2, h3, h4⟩ := arcs_mem.1 h1
 obtain ⟨h5, h6, _⟩ := arcK_some.1 h3
 have h7 := (h.within low ((k : Int) + 1)).1
 have hp : (withinM now (statesM now) low ((k : Int) + 1)).1 > 0 := by omega
 obtain ⟨q, hq⟩ : ∃ q, arcK now low = some q := by
  cases hc : arcK now low with
  | some q => exact ⟨q, rfl⟩
  | none =>
   unfold arcK at hc
   rw [List.find?_eq_none] at hc
   have := hc k (List.mem_range.2 (by rw [h.steps]; exact h6))
   exact absurd hp (by simpa using this)
 have hqk : q ≤ k := by
  obtain ⟨_, _, h8⟩ := arcK_some.1 hq
  refine Classical.byContradiction fun hc => h8 k (by omega) hp
 have hm : ((low : Int), (q : Int) + 1) ∈ arcsOf now (List.range now.steps.toNat) := arcs_mem.2 ⟨low, q, by rw [h.steps]; exact h2, hq, rfl⟩
 have hne : arcsOf now (List.range now.steps.toNat) ≠ [] := List.ne_nil_of_mem hm
 refine ⟨hne, ?_⟩
 have h9 := (narrow_min hne).2 _ hm
 rw [Bool.eq_false_iff, ne_eq, ltArc_iff] at h9
 rw [h4]
 simp only at h9 ⊢
 omega
end Less
end Go.Vel
end
section
set_option linter.all false
set_option maxRecDepth 20000
set_option maxHeartbeats 60000000
namespace Go.Vel
open Go Go.Conc Go.Proofs
/-! ### arcs -/
theorem emod_cases {a n : Int} (h0 : 0 ≤ a) (h1 : a < 2 * n) : (a < n ∧ a % n = a) ∨ (n ≤ a ∧ a % n = a - n) := by
 by_cases h : a < n
 ·exact .inl ⟨h, Int.emod_eq_of_lt h0 h⟩
 ·refine .inr ⟨by omega, ?_⟩
  rw [← Int.sub_emod_right a n]
  exact Int.emod_eq_of_lt (by omega) (by omega)
theorem wide_arc {n i w : Int} (h0 : 0 ≤ i) (h1 : i < n) (h2 : 1 ≤ w) (h3 : w ≤ n) : ((i + w - 1) % n - i + n) % n + 1 = w := by
 have e1 := emod_cases (a := i + w - 1) (n := n) (by omega) (by omega)
 have e2 := emod_cases (a := (i + w - 1) % n - i + n) (n := n) (by omega) (by omega)
 omega
theorem wide_rest {n i w : Int} (h0 : 0 ≤ i) (h1 : i < n) (h2 : 1 ≤ w) (h3 : w < n) : ((i + n - 1) % n - (i + w) % n + n) % n + 1 = n - w := by
 have e1 := emod_cases (a := i + n - 1) (n := n) (by omega) (by omega)
 have e3 := emod_cases (a := i + w) (n := n) (by omega) (by omega)
 have e2 := emod_cases (a := (i + n - 1) % n - (i + w) % n + n) (n := n) (by omega) (by omega)
 omega
theorem step_emod {b : Bk} (hb : BkOk b) (x : Int) : isStepM b (x % b.steps) = true := by
 have := hb.steps
 have h1 := Int.emod_nonneg x (show b.steps ≠ 0 by omega)
 have h2 := Int.emod_lt_of_pos x (show 0 < b.steps by omega)
 unfold isStepM
 simp only [Bool.and_eq_true, decide_eq_true_eq]
 omega
theorem asc_nodup {l : List Int} (h : l.Pairwise (· < ·)) : l.Nodup := h.imp fun h e => by omega
end Go.Vel
end
section
set_option linter.all false
set_option maxRecDepth 20000
set_option maxHeartbeats 60000000
namespace Go.Vel
open Go Go.Conc Go.Proofs
/-! ### arcs -/
theorem inM_rest {b : Bk} (hb : BkOk b) {S : List Int} (hS : S ∈ statesM b) {i w : Int} (h0 : 0 ≤ i) (h1 : i < b.steps) (h2 : 1 ≤ w) (h3 : w < b.steps) : inM b S i w + inM b S ((i + w) % b.steps) (b.steps - w) = S.length := by
 have hm := state_mem hb hS
 unfold inM
 have e : S.filter (fun x => decide ((x - (i + w) % b.steps + b.steps) % b.steps < b.steps - w)) = S.filter (fun x => !decide ((x - i + b.steps) % b.steps < w)) := by
  refine List.filter_congr fun x hx => ?_
  have hx2 := hm x hx
  have e3 := emod_cases (a := i + w) (n := b.steps) (by omega) (by omega)
  have e2 := emod_cases (a := x - (i + w) % b.steps + b.steps) (n := b.steps) (by omega) (by omega)
  have e1 := emod_cases (a := x - i + b.steps) (n := b.steps) (by omega) (by omega)
  rw [Bool.eq_iff_iff]
  simp only [decide_eq_true_eq, Bool.not_eq_true', decide_eq_false_iff_not]
  omega
 rw [e]
 have := filt_add (fun x => decide ((x - i + b.steps) % b.steps < w)) S
 omega
theorem inM_all {b : Bk} (hb : BkOk b) {S : List Int} (i : Int) : inM b S i b.steps = S.length := by
 unfold inM
 rw [List.filter_eq_self.2 fun x _ => decide_eq_true (Int.emod_lt_of_pos _ (by have := hb.steps; omega))]
theorem inM_mono {b : Bk} {S : List Int} {i w v : Int} (h : w ≤ v) : inM b S i w ≤ inM b S i v := by
 unfold inM
 rw [← List.countP_eq_length_filter, ← List.countP_eq_length_filter]
 refine Int.ofNat_le.2 (List.countP_mono_left fun x _ hx => ?_)
 simp only [decide_eq_true_eq] at hx ⊢
 omega
/-- The first and the last of an ascending list. -/
theorem asc_ends {l : List Int} (h : l.Pairwise (· < ·)) (hl : 0 < l.length) : (∀ x ∈ l, l[0] ≤ x) ∧ ∀ x ∈ l, x ≤ l[l.length - 1] := by
 constructor
 ·intro x hx
  obtain ⟨i, hi, rfl⟩ := List.mem_iff_getElem.1 hx
  by_cases h0 : i = 0
  ·subst h0; exact Int.le_refl _
  ·exact Int.le_of_lt (List.pairwise_iff_getElem.1 h 0 i hl hi (by omega))
 ·intro x hx
  obtain ⟨i, hi, rfl⟩ := List.mem_iff_getElem.1 hx
  by_cases h0 : i = l.length - 1
  ·subst h0; exact Int.le_refl _
  ·exact Int.le_of_lt (List.pairwise_iff_getElem.1 h i (l.length - 1) hi (by omega) (by omega))
theorem counts_ne {b : Bk} (hb : BkOk b) (hne : statesM b ≠ []) : 0 < (countsM b).length := by
 obtain ⟨S, hS⟩ := List.exists_mem_of_ne_nil _ hne
 exact List.length_pos_of_mem ((counts_mem hb _).2 ⟨S, hS, rfl⟩)
theorem all_ends {b : Bk} (hb : BkOk b) (hne : statesM b ≠ []) (i : Int) (hl : 0 < (countsM b).length) : (withinM b (statesM b) i b.steps).1 = (countsM b)[0] ∧ (withinM b (statesM b) i b.steps).2 = (countsM b)[(countsM b).length - 1] := by
 obtain ⟨h1, ⟨S, hS, h2⟩, ⟨T, hT, h3⟩⟩ := within_of hb hne i b.steps
 obtain ⟨h4, h5⟩ := asc_ends (counts_asc hb) hl
 obtain ⟨U, hU, h6⟩ := (counts_mem hb _).1 (List.getElem_mem (l := countsM b) (n := 0) hl)
 obtain ⟨V, hV, h7⟩ := (counts_mem hb _).1 (List.getElem_mem (l := countsM b) (n := (countsM b).length - 1) (by omega))
 have h8 := h4 _ ((counts_mem hb _).2 ⟨S, hS, rfl⟩)
 have h9 := h5 _ ((counts_mem hb _).2 ⟨T, hT, rfl⟩)
 have ha := (h1 U hU).1
 have hc := (h1 V hV).2
 rw [inM_all hb] at h2 h3 ha hc
 omega
theorem pick_mem {b : Bk} {v : Int} {n : Nat} {x : Int} : x ∈ pickL b v n ↔ 0 ≤ x ∧ x < n ∧ wordM (statesM b).length (oftM (statesM b) x) = v := by
 unfold pickL
 simp only [List.mem_map, List.mem_filter, List.mem_range, beq_iff_eq]
 constructor
 ·rintro ⟨k, ⟨h1, h2⟩, rfl⟩; exact ⟨by omega, by omega, h2⟩
 ·rintro ⟨h0, h1, h2⟩
  exact ⟨x.toNat, ⟨by omega, by rw [Int.toNat_of_nonneg h0]; exact h2⟩, Int.toNat_of_nonneg h0⟩
theorem pick_asc (b : Bk) (v : Int) (n : Nat) : (pickL b v n).Pairwise (· < ·) := by
 unfold pickL
 rw [List.pairwise_map]
 exact (List.pairwise_lt_range.filter _).imp fun h => by omega
theorem sure_le {b : Bk} (hb : BkOk b) (hne : statesM b ≠ []) (hl : 0 < (countsM b).length) (n : Nat) : ((pickL b 1 n).length : Int) ≤ (countsM b)[0] := by
 obtain ⟨S, hS, h1⟩ := (counts_mem hb _).1 (List.getElem_mem (l := countsM b) (n := 0) hl)
 rw [← h1]
 refine Int.ofNat_le.2 (nodup_le (asc_nodup (pick_asc b 1 n)) fun x hx => ?_)
 exact (word_at hne x).1.1 (pick_mem.1 hx).2.2 S hS
theorem perhaps_ge {b : Bk} (hb : BkOk b) (hne : statesM b ≠ []) (hl : 0 < (countsM b).length) : (countsM b)[(countsM b).length - 1] ≤ ((pickL b 1 b.steps.toNat).length : Int) + (pickL b 0 b.steps.toNat).length := by
 obtain ⟨S, hS, h1⟩ := (counts_mem hb _).1 (List.getElem_mem (l := countsM b) (n := (countsM b).length - 1) (by omega))
 rw [← h1]
 have hst := hb.steps
 have := nodup_le (l1 := S) (l2 := pickL b 1 b.steps.toNat ++ pickL b 0 b.steps.toNat) (state_nodup hS) fun x hx => by
  have hm := state_mem hb hS x hx
  rw [List.mem_append, pick_mem, pick_mem]
  obtain ⟨_, w2, _⟩ := word_at hne x
  have h2 : wordM (statesM b).length (oftM (statesM b) x) ≠ 2 := fun h => w2.1 h S hS hx
  have h3 : wordM (statesM b).length (oftM (statesM b) x) = 1 ∨ wordM (statesM b).length (oftM (statesM b) x) = 0 := by
   unfold wordM at h2 ⊢
   split at h2
   ·exact .inl (by rw [if_pos (by assumption)])
   ·split at h2
    ·exact absurd rfl h2
    ·exact .inr (by rw [if_neg (by assumption), if_neg (by assumption)])
  rcases h3 with h3 | h3
  ·exact .inl ⟨hm.1, by omega, h3⟩
  ·exact .inr ⟨hm.1, by omega, h3⟩
 rw [List.length_append] at this
 omega
theorem rest_band {b : Bk} (hb : BkOk b) (hne : statesM b ≠ []) {i w : Int} (h0 : 0 ≤ i) (h1 : i < b.steps) (h2 : 1 ≤ w) (h3 : w < b.steps) :
  (withinM b (statesM b) i w).1 + (withinM b (statesM b) ((i + w) % b.steps) (b.steps - w)).1 ≤ (withinM b (statesM b) i b.steps).1 ∧ (withinM b (statesM b) i b.steps).2 ≤ (withinM b (statesM b) i w).2 + (withinM b (statesM b) ((i + w) % b.steps) (b.steps - w)).2 ∧ (withinM b (statesM b) i w).2 ≤ (withinM b (statesM b) i b.steps).2 := by
 obtain ⟨a1, _, ⟨X, hX, a3⟩⟩ := within_of hb hne i w
 obtain ⟨c1, _, _⟩ := within_of hb hne ((i + w) % b.steps) (b.steps - w)
 obtain ⟨d1, ⟨S, hS, d2⟩, ⟨T, hT, d3⟩⟩ := within_of hb hne i b.steps
 have e1 := a1 S hS
 have e2 := c1 S hS
 have e3 := a1 T hT
 have e4 := c1 T hT
 have e5 := d1 X hX
 have e6 := inM_mono (b := b) (S := X) (i := i) (show w ≤ b.steps by omega)
 have r1 := inM_rest hb hS h0 h1 h2 h3
 have r2 := inM_rest hb hT h0 h1 h2 h3
 rw [inM_all hb] at d2 d3
 omega
theorem arc_some {b : Bk} {low : Nat} {w : Int} (hl : low < b.steps.toNat) (hw : 1 ≤ w ∧ w ≤ b.steps) (hp : (withinM b (statesM b) low w).1 > 0) : arcsOf b (List.range b.steps.toNat) ≠ [] ∧ ((narrowM b).2 < w ∨ (narrowM b).2 = w ∧ (narrowM b).1 ≤ low) := by
 obtain ⟨k, hk⟩ := Int.eq_ofNat_of_zero_le (show 0 ≤ w - 1 by omega)
 obtain rfl : w = (k : Int) + 1 := by omega
 obtain ⟨q, hq⟩ : ∃ q, arcK b low = some q := by
  cases hc : arcK b low with
  | some q => exact ⟨q, rfl⟩
  | none =>
   unfold arcK at hc
   rw [List.find?_eq_none] at hc
   have := hc k (List.mem_range.2 (by omega))
   exact absurd hp (by simpa using this)
 have hqk : q ≤ k := by
  obtain ⟨_, _, h8⟩ := arcK_some.1 hq
  exact Classical.byContradiction fun hc => h8 k (by omega) hp
 have hm : ((low : Int), (q : Int) + 1) ∈ arcsOf b (List.range b.steps.toNat) := arcs_mem.2 ⟨low, q, hl, hq, rfl⟩
 have hne : arcsOf b (List.range b.steps.toNat) ≠ [] := List.ne_nil_of_mem hm
 have h9 := (narrow_min hne).2 _ hm
 rw [Bool.eq_false_iff, ne_eq, ltArc_iff] at h9
 simp only at h9
 exact ⟨hne, by omega⟩
theorem arc_is {b : Bk} (hne : arcsOf b (List.range b.steps.toNat) ≠ []) : 0 ≤ (narrowM b).1 ∧ (narrowM b).1 < b.steps ∧ 1 ≤ (narrowM b).2 ∧ (narrowM b).2 ≤ b.steps ∧ (withinM b (statesM b) (narrowM b).1 (narrowM b).2).1 > 0 := by
 obtain ⟨low, k, h2, h3, h4⟩ := arcs_mem.1 (narrow_min hne).1
 obtain ⟨h5, h6, _⟩ := arcK_some.1 h3
 rw [h4]
 refine ⟨by simp, by simp; omega, by simp; omega, by simp; omega, h5⟩
theorem found_iff {b : Bk} (hb : BkOk b) (hne : statesM b ≠ []) (hl : 0 < (countsM b).length) : arcsOf b (List.range b.steps.toNat) ≠ [] ↔ (countsM b)[0] > 0 := by
 have hst := hb.steps
 obtain ⟨e1, _⟩ := all_ends hb hne 0 hl
 constructor
 ·intro h
  obtain ⟨_, _, h3, h4, h5⟩ := arc_is h
  obtain ⟨S, hS, h6⟩ := (counts_mem hb _).1 (List.getElem_mem (l := countsM b) (n := 0) hl)
  have h7 := ((within_of hb hne (narrowM b).1 (narrowM b).2).1 S hS).1
  have h8 := inM_le b S (narrowM b).1 (narrowM b).2
  omega
 ·intro h
  exact (arc_some (low := 0) (w := b.steps) (by omega) (by omega) (by rw [show ((0 : Nat) : Int) = 0 from rfl, e1]; exact h)).1
theorem one_arc {b : Bk} (hb : BkOk b) {S : List Int} (hS : S ∈ statesM b) {i : Int} (h0 : 0 ≤ i) (h1 : i < b.steps) : 0 < inM b S i 1 ↔ i ∈ S := by
 have hm := state_mem hb hS
 unfold inM
 rw [show (0 : Int) < ((S.filter fun x => decide ((x - i + b.steps) % b.steps < 1)).length : Nat) ↔ ∃ x ∈ S, (x - i + b.steps) % b.steps < 1 from ?_]
 ·constructor
  ·rintro ⟨x, hx, h⟩
   have hx2 := hm x hx
   have e1 := emod_cases (a := x - i + b.steps) (n := b.steps) (by omega) (by omega)
   rw [show i = x by omega]; exact hx
  ·intro h
   refine ⟨i, h, ?_⟩
   have e1 := emod_cases (a := i - i + b.steps) (n := b.steps) (by omega) (by omega)
   omega
 ·constructor
  ·intro h
   obtain ⟨x, hx⟩ := List.exists_mem_of_ne_nil (S.filter fun x => decide ((x - i + b.steps) % b.steps < 1)) (fun e => by rw [e] at h; simp at h)
   obtain ⟨h2, h3⟩ := List.mem_filter.1 hx
   exact ⟨x, h2, by simpa using h3⟩
  ·rintro ⟨x, hx, h⟩
   have := List.length_pos_of_mem ((List.mem_filter (p := fun x => decide ((x - i + b.steps) % b.steps < 1))).2 ⟨hx, decide_eq_true h⟩)
   omega
theorem sure_arc {b : Bk} (hb : BkOk b) (hne : statesM b ≠ []) {i : Int} (h0 : 0 ≤ i) (h1 : i < b.steps) : (withinM b (statesM b) i 1).1 > 0 ↔ i ∈ pickL b 1 b.steps.toNat := by
 obtain ⟨a1, ⟨S, hS, a2⟩, _⟩ := within_of hb hne i 1
 rw [pick_mem, (word_at hne i).1]
 constructor
 ·intro h
  refine ⟨h0, by omega, fun T hT => (one_arc hb hT h0 h1).1 ?_⟩
  have := (a1 T hT).1
  omega
 ·rintro ⟨_, _, h⟩
  rw [a2]
  exact (one_arc hb hS h0 h1).2 (h S hS)
theorem sure_first {b : Bk} (hb : BkOk b) (hne : statesM b ≠ []) (ha : arcsOf b (List.range b.steps.toNat) ≠ []) : ((narrowM b).2 = 1 ↔ 0 < (pickL b 1 b.steps.toNat).length) ∧ ∀ h : 0 < (pickL b 1 b.steps.toNat).length, (narrowM b).1 = (pickL b 1 b.steps.toNat)[0] := by
 have hst := hb.steps
 obtain ⟨p1, p2, p3, p4, p5⟩ := arc_is ha
 have back : (narrowM b).2 = 1 → (narrowM b).1 ∈ pickL b 1 b.steps.toNat := fun h => (sure_arc hb hne p1 p2).1 (by rw [h] at p5; exact p5)
 have fwd : ∀ x ∈ pickL b 1 b.steps.toNat, (narrowM b).2 = 1 ∧ (narrowM b).1 ≤ x := fun x hx => by
  obtain ⟨h0, h1, _⟩ := pick_mem.1 hx
  have h2 := (sure_arc hb hne h0 (by omega)).2 hx
  obtain ⟨_, h3⟩ := arc_some (b := b) (low := x.toNat) (w := 1) (by omega) (by omega) (by rw [Int.toNat_of_nonneg h0]; exact h2)
  rw [Int.toNat_of_nonneg h0] at h3
  omega
 refine ⟨⟨fun h => List.length_pos_of_mem (back h), fun h => ?_⟩, fun h => ?_⟩
 ·exact (fwd _ (List.getElem_mem h)).1
 ·have h2 := fwd _ (List.getElem_mem (n := 0) h)
  have h3 := (asc_ends (pick_asc b 1 b.steps.toNat) h).1 _ (back h2.1)
  omega
end Go.Vel
end
section
set_option linter.all false
set_option maxRecDepth 20000
set_option maxHeartbeats 60000000
namespace Go.Vel
open Go Go.Conc Go.Proofs
/-! ### which books are valid; what is asked -/
theorem ask_iff {b : Bk} (h : checkM b = 0) : (askM b true = 0 ↔ statesM b ≠ []) ∧ (askM b true = 9 ↔ statesM b = []) ∧ (askM b true = 0 ∨ askM b true = 9) := by
 unfold askM
 rw [if_neg (by simp [h]), if_neg (by decide)]
 by_cases h0 : statesM b = []
 ·simp [h0]
 ·simp [h0]
end Go.Vel
end
section
set_option linter.all false
set_option maxRecDepth 20000
set_option maxHeartbeats 60000000
namespace Go.Vel
open Go Go.Conc Go.Proofs
/-! ### what Ask and Lend tell -/
def fitM (b : Bk) : Bool := !greatM b && checkM b == 0
/-- What is so of a book that can be asked about. -/
structure Fits9 (b : Bk) : Prop where
 check : checkM b = 0
 names : ∀ x ∈ b.seekers, x.name.size ≤ 1000
 seen : b.seen.length ≤ 1000
 says : b.seekers.length ≤ 1000
 small : ∀ x ∈ b.seekers, x.name.size ≤ 100
theorem fit_of {b : Bk} (h : fitM b = true) : Fits9 b := by
 unfold fitM at h
 simp only [Bool.and_eq_true, Bool.not_eq_true', beq_iff_eq] at h
 obtain ⟨h1, h2, h3⟩ := great_small h.1
 exact ⟨h.2, fun x hx => Nat.le_trans (h3 x hx) (by omega), by omega, by omega, h3⟩
end Go.Vel
end
section
set_option linter.all false
set_option maxRecDepth 20000
set_option maxHeartbeats 60000000
namespace Go.Vel
open Go Go.Conc Go.Proofs

section
variable {P : Program} {gm : Nat → Option Nat} {T : Goroutine → Hp → Prop} {Y : KX P gm T} {ds : List Nat} {k : List Item} {env env' : List AV} {K K' K1 : KV} {ops : Array Oper} {i : Nat} {L' : List Nat} {o : Oper} {envf : Nat → List AV} {pend pend' : List Pd}
end

end Go.Vel
end
section
set_option linter.all false
set_option maxRecDepth 20000
set_option maxHeartbeats 60000000
namespace Go.Vel
open Go Go.Conc Go.Proofs

section
variable {P : Program} {gm : Nat → Option Nat} {T : Goroutine → Hp → Prop} {Y : KX P gm T} {ds : List Nat} {k : List Item} {env env' : List AV} {K K' : KV}
end
def newsR (b o : Bk) : Int := if checkM b ≠ 0 then checkM b else knownBar o true
def giveR (b : Bk) (k : Int) : Int := if checkM b ≠ 0 then checkM b else if isSeekerM b k = false then 6 else if glassB b k.toNat = true then 5 else knownBar (giveB b k.toNat) true

end Go.Vel
end
section
set_option linter.all false
set_option maxRecDepth 20000
set_option maxHeartbeats 60000000
namespace Go.Vel
open Go Go.Conc Go.Proofs

end Go.Vel
end
section
set_option linter.all false
set_option maxRecDepth 20000
set_option maxHeartbeats 60000000
namespace Go.Vel
open Go Go.Conc Go.Proofs
instance : Cal Tryd.prog 19 := ⟨by kernel_rfl⟩
instance : Cal Tryd.prog 20 := ⟨by kernel_rfl⟩
end Go.Vel
end
section
set_option linter.all false
set_option maxRecDepth 20000
set_option maxHeartbeats 60000000
namespace Go.Vel
open Go Go.Conc Go.Proofs

def whoM (b : Bk) (k : Int) : Int := if (b.seekers.length : Int) = 0 then -1 else k % b.seekers.length
theorem within_one {b : Bk} {lo hi : Int} (h0 : askM b true = 0) (h1 : isStepM b lo = true) (h2 : isStepM b hi = true) : (withinApi b lo hi).1 = withinM b (statesM b) lo ((hi - lo + b.steps) % b.steps + 1) ∧ (withinApi b lo hi).2 = 0 := by
 unfold withinApi
 rw [h1, h2, if_neg (by simp [h0])]
 exact ⟨rfl, rfl⟩
theorem within_arc {b : Bk} {lo w : Int} (hc : checkM b = 0) (h0 : askM b true = 0) (hlo : 0 ≤ lo ∧ lo < b.steps) (hw : 1 ≤ w ∧ w ≤ b.steps) : (withinApi b lo ((lo + w - 1) % b.steps)).1 = withinM b (statesM b) lo w ∧ (withinApi b lo ((lo + w - 1) % b.steps)).2 = 0 := by
 have h := within_one (lo := lo) (hi := (lo + w - 1) % b.steps) h0 (by unfold isStepM; simp only [Bool.and_eq_true, decide_eq_true_eq]; omega) (step_emod (bkOk_of hc) _)
 rw [wide_arc hlo.1 hlo.2 hw.1 hw.2] at h
 exact h
theorem narrow_one {b : Bk} (h0 : askM b true = 0) : (narrowApi b).2.2 = 0 ∧ (narrowApi b).2.1 = decide (arcsOf b (List.range b.steps.toNat) ≠ []) ∧ (arcsOf b (List.range b.steps.toNat) ≠ [] → (narrowApi b).1 = narrowM b) := by
 unfold narrowApi
 rw [if_neg (by simp [h0])]
 by_cases h : arcsOf b (List.range b.steps.toNat) = []
 ·rw [if_pos h]; exact ⟨rfl, by simp [h], fun h2 => absurd h h2⟩
 ·rw [if_neg h]; exact ⟨rfl, by simp [h], fun _ => rfl⟩
theorem counts_len {b : Bk} (hb : BkOk b) : (countsM b).length ≤ 1000 := by
 have h := nodup_le (l1 := countsM b) (l2 := [0, 1, 2, 3]) (asc_nodup (counts_asc hb)) fun x hx => by
  obtain ⟨S, h1, rfl⟩ := (counts_mem hb x).1 hx
  have := state_len hb h1
  simp only [List.mem_cons, List.not_mem_nil, or_false]
  omega
 simp at h
 omega

end Go.Vel
end
section
set_option linter.all false
set_option maxRecDepth 20000
set_option maxHeartbeats 60000000
namespace Go.Vel
open Go Go.Conc Go.Proofs
/-! ### what the law of arcs asks -/
def cntX (b : Bk) : List Int := if askM b true = 0 then countsM b else []
def sureX (b : Bk) : List Int := if askM b true = 0 then pickL b 1 b.steps.toNat else []
def perhX (b : Bk) : List Int := if askM b true = 0 then pickL b 0 b.steps.toNat else []
theorem within_bar {b : Bk} {lo hi : Int} (h1 : isStepM b lo = true) (h2 : isStepM b hi = true) : (withinApi b lo hi).2 = askM b true ∧ (askM b true ≠ 0 → (withinApi b lo hi).1.1 = 0 ∧ (withinApi b lo hi).1.2 = 0) := by
 unfold withinApi
 rw [h1, h2, Bool.and_self]
 by_cases h : askM b true = 0
 ·rw [if_neg (by simp [h])]; exact ⟨h.symm, fun h' => absurd h h'⟩
 ·rw [if_pos h]; exact ⟨rfl, fun _ => ⟨rfl, rfl⟩⟩
theorem narrow_bar {b : Bk} : (narrowApi b).2.2 = askM b true ∧ (askM b true ≠ 0 ∨ arcsOf b (List.range b.steps.toNat) = [] → (narrowApi b).1.1 = 0 ∧ (narrowApi b).1.2 = 0 ∧ (narrowApi b).2.1 = false) := by
 unfold narrowApi
 by_cases h : askM b true = 0
 ·rw [if_neg (by simp [h])]
  by_cases h2 : arcsOf b (List.range b.steps.toNat) = []
  ·rw [if_pos h2]; exact ⟨h.symm, fun _ => ⟨rfl, rfl, rfl⟩⟩
  ·rw [if_neg h2]; exact ⟨h.symm, fun h' => absurd h' (by simp [h, h2])⟩
 ·rw [if_pos h]; exact ⟨rfl, fun _ => ⟨rfl, rfl, rfl⟩⟩
theorem within_rest {b : Bk} {i w : Int} (hc : checkM b = 0) (h0 : askM b true = 0) (hi : 0 ≤ i ∧ i < b.steps) (hw : 1 ≤ w ∧ w < b.steps) : (withinApi b ((i + w) % b.steps) ((i + b.steps - 1) % b.steps)).1 = withinM b (statesM b) ((i + w) % b.steps) (b.steps - w) := by
 have h := (within_one (lo := (i + w) % b.steps) (hi := (i + b.steps - 1) % b.steps) h0 (step_emod (bkOk_of hc) _) (step_emod (bkOk_of hc) _)).1
 rw [wide_rest hi.1 hi.2 hw.1 hw.2] at h
 exact h
theorem step_in {b : Bk} {i : Int} (h : 0 ≤ i ∧ i < b.steps) : isStepM b i = true := by
 unfold isStepM; simp only [Bool.and_eq_true, decide_eq_true_eq]; omega
theorem within_bd {b : Bk} (hb : BkOk b) (hne : statesM b ≠ []) (lo w : Int) : 0 ≤ (withinM b (statesM b) lo w).1 ∧ (withinM b (statesM b) lo w).1 ≤ 3 ∧ 0 ≤ (withinM b (statesM b) lo w).2 ∧ (withinM b (statesM b) lo w).2 ≤ 3 := by
 obtain ⟨_, ⟨S, hS, h1⟩, ⟨T, hT, h2⟩⟩ := within_of hb hne lo w
 have := inM_bd hb hS lo w
 have := inM_bd hb hT lo w
 omega
end Go.Vel
end
section
set_option linter.all false
set_option maxRecDepth 20000
set_option maxHeartbeats 60000000
namespace Go.Vel
open Go Go.Conc Go.Proofs
theorem fit_ok {main : Bool} {T : Goroutine → Hp → Prop} (hT : Shut Tryd.prog main T) {gm : Nat → Option Nat} {b : Bk} {s e : Nat} (hse : s ≠ e) :
  CallK Tryd.prog T gm 5 [.agg (bookC b s e)] [(s, saysO b), (e, seenO b)] (fun r K' => r = boolA (fitM b) ∧ K' = [(s, saysO b), (e, seenO b)]) := by
 refine callK_in 11 hT Tryd.func5 fun Y hret => ?_
 refine au [4, 5, 21] ?_
 intro jb hjb
 refine au [2, 3, 4, 5, 8] ?_
 refine TK.cl rfl rfl rfl rfl (great_ok hT (s := s) (e := e)) ?_
 rintro r1 K2 ⟨rfl, rfl⟩
 refine au [30, 1] ?_
 refine TK.sp 6 (fun g1_4 => ?_) (fun g1_4 => ?_)
 ·obtain ⟨hs1, hs2, hs3⟩ := great_small (b := b) (by simpa using g1_4)
  refine au [8] ?_
  refine TK.cl rfl rfl rfl rfl (checkR_ok hT hse (fun x hx => Nat.le_trans (hs3 x hx) (by omega)) (by omega) (by omega)) ?_
  rintro r4 K5 ⟨rfl, rfl⟩
  refine au [6, 26, 2, 3] ?_
  refine TK.rt hret [(s, _), (e, _)] ?_
  exact ⟨by unfold fitM; rw [g1_4, Bool.true_and]; rfl, rfl⟩
 refine au [11, 11, 11, 25, 2, 3] ?_
 refine TK.rt hret [(s, _), (e, _)] ?_
 exact ⟨by unfold fitM; rw [g1_4, Bool.false_and]; rfl, rfl⟩
end Go.Vel
end
section
set_option linter.all false
set_option maxRecDepth 20000
set_option maxHeartbeats 60000000
namespace Go.Vel
open Go Go.Conc Go.Proofs
instance : Cal Tryd.prog 5 := ⟨by kernel_rfl⟩
instance : Cal Tryd.prog 6 := ⟨by kernel_rfl⟩
instance {a0 a1 a2 a3 a4 a5 a6 a7 a8 a9 a10 a11 a12 a13 a14 a15 a16 a17 a18 a19 a20 a21 a22 : Oper} : RgL #[a0, a1, a2, a3, a4, a5, a6, a7, a8, a9, a10, a11, a12, a13, a14, a15, a16, a17, a18, a19, a20, a21, a22] [0, 1, 2, 3, 4, 5, 6, 7, 8, 9, 10, 11, 12, 13, 14, 15, 16, 17, 18, 19, 20, 21, 22] := ⟨rfl⟩
instance {a0 a1 a2 a3 a4 a5 a6 a7 a8 a9 a10 a11 a12 a13 a14 a15 a16 a17 a18 a19 a20 a21 a22 a23 a24 a25 a26 a27 a28 a29 a30 a31 a32 a33 a34 a35 : Oper} : RgL #[a0, a1, a2, a3, a4, a5, a6, a7, a8, a9, a10, a11, a12, a13, a14, a15, a16, a17, a18, a19, a20, a21, a22, a23, a24, a25, a26, a27, a28, a29, a30, a31, a32, a33, a34, a35] [0, 1, 2, 3, 4, 5, 6, 7, 8, 9, 10, 11, 12, 13, 14, 15, 16, 17, 18, 19, 20, 21, 22, 23, 24, 25, 26, 27, 28, 29, 30, 31, 32, 33, 34, 35] := ⟨rfl⟩
instance {a0 a1 a2 a3 a4 a5 a6 a7 a8 a9 a10 a11 a12 a13 a14 a15 a16 a17 a18 a19 a20 a21 a22 a23 a24 a25 a26 a27 a28 a29 a30 a31 a32 a33 a34 a35 a36 a37 a38 a39 a40 a41 a42 a43 a44 a45 a46 a47 a48 a49 a50 a51 a52 : Oper} : RgL #[a0, a1, a2, a3, a4, a5, a6, a7, a8, a9, a10, a11, a12, a13, a14, a15, a16, a17, a18, a19, a20, a21, a22, a23, a24, a25, a26, a27, a28, a29, a30, a31, a32, a33, a34, a35, a36, a37, a38, a39, a40, a41, a42, a43, a44, a45, a46, a47, a48, a49, a50, a51, a52] [0, 1, 2, 3, 4, 5, 6, 7, 8, 9, 10, 11, 12, 13, 14, 15, 16, 17, 18, 19, 20, 21, 22, 23, 24, 25, 26, 27, 28, 29, 30, 31, 32, 33, 34, 35, 36, 37, 38, 39, 40, 41, 42, 43, 44, 45, 46, 47, 48, 49, 50, 51, 52] := ⟨rfl⟩
end Go.Vel
end
section
set_option linter.all false
set_option maxRecDepth 20000
set_option maxHeartbeats 60000000
namespace Go.Vel
open Go Go.Conc Go.Proofs
theorem lawArcs_top {R : Value → World → Prop} {b : Bk} {s e : Nat} {k1 k2 : Int} (hse : s ≠ e) (hk1 : 0 ≤ k1 ∧ k1 < 256) (hk2 : 0 ≤ k2 ∧ k2 < 256) {A : List AObj} {φ : Nat → Loc3} {F H : Hp} {vs : Array Value} (hv : View [(0, checksG), (1, saysG), (s, saysO b), (e, seenO b)] A) (hn0 : (keys [(0, checksG), (1, saysG), (s, saysO b), (e, seenO b)]).Nodup) (hg : RelG gmS φ A.length) (hH : RelH φ A F H) (hargs : RelL φ A.length [.agg (bookC b s e), .v (.int .u8 k1), .v (.int .u8 k2)] vs)
  (hR : ∀ r K' φ' A' H' v w, (fun r K' => r = boolA true ∧ K' = [(0, checksG), (1, saysG), (s, saysO b), (e, seenO b)]) r K' → RelH φ' A' F H' → RelV φ' A'.length r v → Fits H' w → R v w) : BT Tryd.prog (AtRet Tryd.prog 3 R) (G (Frame.enter Tryd.prog 3 vs .normal) []) H := by
 have hT := shut_BT tame (AtRet Tryd.prog 3 R)
 refine topK_in 327 tame (Post := fun r K' => r = boolA true ∧ K' = [(0, checksG), (1, saysG), (s, saysO b), (e, seenO b)]) Tryd.func3 hv hn0 hg hH hargs hR fun Y hret => ?_
 refine au [4, 5, 21] ?_
 intro jb hjb
 refine au [2, 3, 4, 4, 5, 8] ?_
 refine TK.cl rfl rfl rfl rfl (fit_ok hT hse) ?_
 rintro r1 K2 ⟨rfl, rfl⟩
 refine au [30, 3, 20] ?_
 refine ⟨fun hc0 => ?_, fun hc0 => ?_⟩
 ·refine au [4, 5] ?_
  refine TK.cl rfl rfl rfl rfl (sought_ok tame) ?_
  rintro r4 K5 ⟨rfl, rfl⟩
  refine au [2, 3] ?_
  refine TK.rt hret [(0, _), (1, _), (s, _), (e, _)] ?_
  exact ⟨rfl, rfl⟩
 have hf := fit_of (b := b) (by simpa using hc0)
 have hck := hf.check
 have hb := bkOk_of hck
 have hst := hb.steps
 have hns := hb.ns
 have m1 := Int.emod_nonneg k1 (show b.steps ≠ 0 by omega)
 have m1' := Int.emod_lt_of_pos k1 (show 0 < b.steps by omega)
 have m2 := Int.emod_nonneg k2 (show b.steps - 1 ≠ 0 by omega)
 have m2' := Int.emod_lt_of_pos k2 (show 0 < b.steps - 1 by omega)
 refine au [12, 4] ?_
 refine TK.draw [0, 1, 2, 3, 4, 5, 6, 7, 8, 9, 10, 11, 12, 13] [0, 1, 2, 3, 4, 12, 5, 6, 7, 8, 9, 10, 11, 13] (by kernel_rfl) (by kernel_rfl) ?_
 refine TD.z [1] rfl (q_move rfl rfl) ?_
 refine TD.z [30] rfl (q_convInt rfl rfl Und.h Und.h (wrap_i64 (by omega))) ?_
 refine TD.z [3] rfl (q_fieldAddr rfl rfl FldOf.h (by decide)) ?_
 refine TD.y [32] rfl (hq := q_load1 rfl rfl TySz.h (List.Mem.head _) rfl) (h := ?_)
 refine TD.z [31, 33] rfl (q_rem rfl rfl rfl (by omega) (by omega)) ?_
 refine TD.z [2] rfl (q_move rfl rfl) ?_
 refine TD.z [35] rfl (q_convInt rfl rfl Und.h Und.h (wrap_i64 (by omega))) ?_
 refine TD.z [3] rfl (q_fieldAddr rfl rfl FldOf.h (by decide)) ?_
 refine TD.y [37] rfl (hq := q_load1 rfl rfl TySz.h (List.Mem.head _) rfl) (h := ?_)
 refine TD.z [38] rfl (q_sub rfl rfl rfl (by omega)) ?_
 refine TD.z [36, 39] rfl (q_rem rfl rfl rfl (by omega) (by omega)) ?_
 refine TD.z [40] rfl (q_add rfl rfl rfl (by omega)) ?_
 refine TD.as (pend' := [⟨11, [40], []⟩, ⟨10, [36, 39], []⟩, ⟨9, [38], []⟩, ⟨8, [37], [(_, _)]⟩, ⟨7, [3], []⟩, ⟨6, [35], []⟩, ⟨5, [2], []⟩]) [34] rfl rfl (q_assign rfl rfl) ?_
 refine TD.as (pend' := []) [41] rfl rfl (q_assign rfl rfl) ?_
 refine TD.fin ?_
 refine au [4] ?_
 obtain ⟨i, hi⟩ : ∃ i, i = k1 % b.steps := ⟨_, rfl⟩
 obtain ⟨w, hw⟩ : ∃ w, w = 1 + k2 % (b.steps - 1) := ⟨_, rfl⟩
 rw [← hw, ← hi]
 have hil : 0 ≤ i ∧ i < b.steps := by omega
 have hwl : 1 ≤ w ∧ w < b.steps := by omega
 have hx2 := within_bar (b := b) (lo := i) (hi := ((i + w - 1) % b.steps)) (step_in hil) (step_emod hb _)
 have hy2 := within_bar (b := b) (lo := ((i + w) % b.steps)) (hi := ((i + b.steps - 1) % b.steps)) (step_emod hb _) (step_emod hb _)
 have hz2 := within_bar (b := b) (lo := i) (hi := ((i + b.steps - 1) % b.steps)) (step_in hil) (step_emod hb _)
 refine TK.share (fun jc _ _ _ => slotsA 327 [(3, .ptr jb 0), (6, boolA false), (7, intA i), (8, intA w), (9, .sl jc 0 (cntX b).length), (10, intA (askM b true))]) (fun jc _ _ _ => (jc, .cells ((cntX b).map intA) 3 false) :: (jb, .cells (bookC b s e) 27 true) :: (0, checksG) :: (1, saysG) :: (s, saysO b) :: (e, seenO b) :: []) (fun hcont => ?_) (fun jc _ _ _ => ?_)
 ·skip
  refine au [5, 8] ?_
  refine TK.cl rfl rfl rfl rfl (counts_ok tame hse hf.names hf.seen) ?_
  rintro r7 K8 h9
  rcases h9 with ⟨hb0, rfl, rfl⟩ | ⟨hb0, jc, rfl, rfl⟩
  ·refine au [1, 10, 10, 2, 2, 3] ?_
   refine TK.nilSl 9 3 rfl fun jc hjc => ?_
   refine au [] ?_
   refine TK.maskL [3, 6, 7, 8, 9, 10] ?_
   refine TK.kp ((jc, _) :: (jb, _) :: (0, _) :: (1, _) :: (s, _) :: (e, _) :: []) ?_
   refine Eq.mp ?_ (hcont jc 0 0 0)
   clear hcont
   rw [show cntX b = [] from if_neg hb0]
   congr 1 <;> rfl
  ·refine au [1, 10, 10, 2, 2, 3] ?_
   refine TK.freezeR 9 rfl (by repeat (first | exact Upd.head | apply Upd.tail)) (by simp only [List.set]; rfl) ?_
   refine TK.maskL [3, 6, 7, 8, 9, 10] ?_
   refine TK.kp ((jc, _) :: (jb, _) :: (0, _) :: (1, _) :: (s, _) :: (e, _) :: []) ?_
   refine Eq.mp ?_ (hcont jc 0 0 0)
   clear hcont
   rw [show cntX b = countsM b from if_pos hb0, hb0]
   congr 1 <;> rfl
 ·skip
  refine au [4] ?_
  refine TK.share (fun jx _ _ _ => slotsA 327 [(3, .ptr jb 0), (6, boolA false), (7, intA i), (8, intA w), (9, .sl jc 0 (cntX b).length), (10, intA (askM b true)), (11, .ptr jx 0), (12, intA (askM b true))]) (fun jx _ _ _ => (jx, .cells [intA (withinApi b i ((i + w - 1) % b.steps)).1.1, intA (withinApi b i ((i + w - 1) % b.steps)).1.2] 23 true) :: (jc, .cells ((cntX b).map intA) 3 false) :: (jb, .cells (bookC b s e) 27 true) :: (0, checksG) :: (1, saysG) :: (s, saysO b) :: (e, seenO b) :: []) (fun hcont => ?_) (fun jx _ _ _ => ?_)
  ·refine TK.draw [0, 1, 2, 3, 4, 5, 6, 7, 8, 9, 10, 11, 12, 13, 14, 15] [0, 1, 2, 3, 4, 5, 6, 7, 8, 9, 10, 11, 13, 14, 12, 15] (by kernel_rfl) (by kernel_rfl) ?_
   refine TD.y [3] rfl (hq := q_load rfl rfl TySz.h (List.Mem.head _) rfl) (h := ?_)
   refine TD.z [7] rfl (q_move rfl rfl) ?_
   refine TD.z [7] rfl (q_move rfl rfl) ?_
   refine TD.z [8] rfl (q_move rfl rfl) ?_
   refine TD.z [50, 51] rfl (q_add rfl rfl rfl (by omega)) ?_
   refine TD.z [52] rfl (q_sub rfl rfl rfl (by omega)) ?_
   refine TD.z [3] rfl (q_fieldAddr rfl rfl FldOf.h (by decide)) ?_
   refine TD.y [54] rfl (hq := q_load1 rfl rfl TySz.h (List.Mem.head _) rfl) (h := ?_)
   refine TD.z [53, 55] rfl (q_rem rfl rfl rfl (by omega) (by omega)) ?_
   refine TD.c2 (i1 := 9) (i2 := 13) (pend1 := [⟨7, [54], [(_, _)]⟩, ⟨6, [3], []⟩, ⟨5, [52], []⟩, ⟨4, [50, 51], []⟩, ⟨3, [8], []⟩, ⟨2, [7], []⟩]) (pend2 := [⟨8, [53, 55], []⟩, ⟨7, [54], [(_, _)]⟩, ⟨6, [3], []⟩, ⟨5, [52], []⟩, ⟨4, [50, 51], []⟩, ⟨3, [8], []⟩, ⟨2, [7], []⟩, ⟨1, [7], []⟩, ⟨0, [3], [(_, _)]⟩]) (L1 := [10, 11, 12, 13, 14, 15]) (L2 := [9, 10, 11, 12, 14, 15]) [48, 49, 56] [] rfl rfl rfl rfl rfl rfl rfl ?_ ?_
   ·refine exK_callO rfl rfl Cal.h rfl (withinApi_ok hT (lo := i) (hi := ((i + w - 1) % b.steps)) hse hf.names hf.seen) (by repeat (first | exact Split.none _ | exact Split.all _ | (apply Split.rem; repeat (first | exact Rem.head | apply Rem.tail)) | apply Split.right)) fun r10 K11 h12 => ⟨?_, ?_⟩
    ·rcases h12 with ⟨rfl, rfl⟩
     all_goals simp
    obtain ⟨rfl, rfl⟩ := h12
    try simp only [List.cons_append, List.nil_append]
    refine TD.norm (env' := [_, _, _, _, _, _, _, _, _, _, _, _, _, _, _, _, _, _, _, _, _, _, _, _, _, _, _, _, _, _, _, _, _, _, _, _, _, _, _, _, _, _, _, _, _, _, _, _, _, _, _, _, _, _, _, _, _, _, _, _, _, _, _, _, _, _, _, _, _, _, _, _, _, _, _, _, _, _, _, _, _, _, _, _, _, _, _, _, _, _, _, _, _, _, _, _, _, _, _, _, _, _, _, _, _, _, _, _, _, _, _, _, _, _, _, _, _, _, _, _, _, _, _, _, _, _, _, _, _, _, _, _, _, _, _, _, _, _, _, _, _, _, _, _, _, _, _, _, _, _, _, _, _, _, _, _, _, _, _, _, _, _, _, _, _, _, _, _, _, _, _, _, _, _, _, _, _, _, _, _, _, _, _, _, _, _, _, _, _, _, _, _, _, _, _, _, _, _, _, _, _, _, _, _, _, _, _, _, _, _, _, _, _, _, _, _, _, _, _, _, _, _, _, _, _, _, _, _, _, _, _, _, _, _, _, _, _, _, _, _, _, _, _, _, _, _, _, _, _, _, _, _, _, _, _, _, _, _, _, _, _, _, _, _, _, _, _, _, _, _, _, _, _, _, _, _, _, _, _, _, _, _, _, _, _, _, _, _, _, _, _, _, _, _, _, _, _, _, _, _, _, _, _, _, _, _, _, _, _, _, _, _, _, _, _, _, _, _, _, _, _, _, _, _, _, _, _]) rfl ?_
    rw [hx2.1]
    refine TD.z [57] rfl (q_move rfl rfl) ?_
    refine TD.z [47] rfl (q_extract rfl rfl rfl) ?_
    refine TD.z [47] rfl (q_extract rfl rfl rfl) ?_
    refine TD.cnewP (pend' := [⟨12, [47], []⟩, ⟨11, [47], []⟩, ⟨10, [57], []⟩, ⟨7, [54], [(_, _)]⟩, ⟨6, [3], []⟩, ⟨5, [52], []⟩, ⟨4, [50, 51], []⟩, ⟨3, [8], []⟩, ⟨2, [7], []⟩]) [] rfl rfl rfl rfl rfl (n_allocA rfl TyZA.h) (fun _ => putS rfl (by simp only [List.set]; rfl)) (by simp) fun jx hjx => ?_
    refine TD.s (pend' := [⟨12, [47], []⟩]) [11, 58] rfl rfl (q_store rfl rfl TySz.h rfl rfl (by repeat (first | exact List.Mem.head _ | assumption | apply List.Mem.tail)) rfl) ?_
    refine TD.as (pend' := []) [59] rfl rfl (q_assign rfl rfl) ?_
    refine TD.fin ?_
    refine TK.maskL [3, 6, 7, 8, 9, 10, 11, 12] ?_
    refine TK.kp ((jx, _) :: (jc, _) :: (jb, _) :: (0, _) :: (1, _) :: (s, _) :: (e, _) :: []) ?_
    refine Eq.mp ?_ (hcont jx 0 0 0)
    clear hcont
    congr 1 <;> rfl
   ·refine exK_newP rfl (n_allocA rfl TyZA.h) (fun _ => putS rfl (by simp only [List.set]; rfl)) (by simp) fun jx hjx => ?_
    refine TD.cl (pend' := [⟨7, [54], [(_, _)]⟩, ⟨6, [3], []⟩, ⟨5, [52], []⟩, ⟨4, [50, 51], []⟩, ⟨3, [8], []⟩, ⟨2, [7], []⟩]) [48, 49, 56] rfl rfl rfl rfl rfl (withinApi_ok hT (lo := i) (hi := ((i + w - 1) % b.steps)) hse hf.names hf.seen) (fun r13 K14 h15 => ⟨?_, ?_⟩)
    ·rcases h15 with ⟨rfl, rfl⟩
     all_goals simp
    obtain ⟨rfl, rfl⟩ := h15
    try simp only [List.cons_append, List.nil_append]
    refine TD.norm (by simp only [List.set]; rfl) ?_
    rw [hx2.1]
    refine TD.z [57] rfl (q_move rfl rfl) ?_
    refine TD.z [47] rfl (q_extract rfl rfl rfl) ?_
    refine TD.z [47] rfl (q_extract rfl rfl rfl) ?_
    refine TD.s (pend' := [⟨12, [47], []⟩]) [11, 58] rfl rfl (q_store rfl rfl TySz.h rfl rfl (by repeat (first | exact List.Mem.head _ | assumption | apply List.Mem.tail)) rfl) ?_
    refine TD.as (pend' := []) [59] rfl rfl (q_assign rfl rfl) ?_
    refine TD.fin ?_
    refine TK.maskL [3, 6, 7, 8, 9, 10, 11, 12] ?_
    refine TK.kp ((jx, _) :: (jc, _) :: (jb, _) :: (0, _) :: (1, _) :: (s, _) :: (e, _) :: []) ?_
    refine Eq.mp ?_ (hcont jx 0 0 0)
    clear hcont
    congr 1 <;> rfl
  ·skip
   refine au [4] ?_
   refine TK.share (fun jy _ _ _ => slotsA 327 [(3, .ptr jb 0), (6, boolA false), (7, intA i), (8, intA w), (9, .sl jc 0 (cntX b).length), (10, intA (askM b true)), (11, .ptr jx 0), (12, intA (askM b true)), (13, .ptr jy 0), (14, intA (askM b true))]) (fun jy _ _ _ => (jy, .cells [intA (withinApi b ((i + w) % b.steps) ((i + b.steps - 1) % b.steps)).1.1, intA (withinApi b ((i + w) % b.steps) ((i + b.steps - 1) % b.steps)).1.2] 23 true) :: (jx, .cells [intA (withinApi b i ((i + w - 1) % b.steps)).1.1, intA (withinApi b i ((i + w - 1) % b.steps)).1.2] 23 true) :: (jc, .cells ((cntX b).map intA) 3 false) :: (jb, .cells (bookC b s e) 27 true) :: (0, checksG) :: (1, saysG) :: (s, saysO b) :: (e, seenO b) :: []) (fun hcont => ?_) (fun jy _ _ _ => ?_)
   ·refine TK.draw [0, 1, 2, 3, 4, 5, 6, 7, 8, 9, 10, 11, 12, 13, 14, 15, 16, 17, 18, 19, 20, 21] [0, 1, 2, 3, 4, 5, 6, 7, 8, 9, 10, 11, 12, 13, 14, 15, 16, 17, 19, 20, 18, 21] (by kernel_rfl) (by kernel_rfl) ?_
    refine TD.y [3] rfl (hq := q_load rfl rfl TySz.h (List.Mem.head _) rfl) (h := ?_)
    refine TD.z [7] rfl (q_move rfl rfl) ?_
    refine TD.z [8] rfl (q_move rfl rfl) ?_
    refine TD.z [62, 63] rfl (q_add rfl rfl rfl (by omega)) ?_
    refine TD.z [3] rfl (q_fieldAddr rfl rfl FldOf.h (by decide)) ?_
    refine TD.y [65] rfl (hq := q_load1 rfl rfl TySz.h (List.Mem.head _) rfl) (h := ?_)
    refine TD.z [64, 66] rfl (q_rem rfl rfl rfl (by omega) (by omega)) ?_
    refine TD.z [7] rfl (q_move rfl rfl) ?_
    refine TD.z [3] rfl (q_fieldAddr rfl rfl FldOf.h (by decide)) ?_
    refine TD.y [69] rfl (hq := q_load1 rfl rfl TySz.h (List.Mem.head _) rfl) (h := ?_)
    refine TD.z [68, 70] rfl (q_add rfl rfl rfl (by omega)) ?_
    refine TD.z [71] rfl (q_sub rfl rfl rfl (by omega)) ?_
    refine TD.z [3] rfl (q_fieldAddr rfl rfl FldOf.h (by decide)) ?_
    refine TD.y [73] rfl (hq := q_load1 rfl rfl TySz.h (List.Mem.head _) rfl) (h := ?_)
    refine TD.z [72, 74] rfl (q_rem rfl rfl rfl (by omega) (by omega)) ?_
    refine TD.c2 (i1 := 15) (i2 := 19) (pend1 := [⟨13, [73], [(_, _)]⟩, ⟨12, [3], []⟩, ⟨11, [71], []⟩, ⟨10, [68, 70], []⟩, ⟨9, [69], [(_, _)]⟩, ⟨8, [3], []⟩, ⟨7, [7], []⟩, ⟨5, [65], [(_, _)]⟩, ⟨4, [3], []⟩, ⟨3, [62, 63], []⟩, ⟨2, [8], []⟩, ⟨1, [7], []⟩]) (pend2 := [⟨14, [72, 74], []⟩, ⟨13, [73], [(_, _)]⟩, ⟨12, [3], []⟩, ⟨11, [71], []⟩, ⟨10, [68, 70], []⟩, ⟨9, [69], [(_, _)]⟩, ⟨8, [3], []⟩, ⟨7, [7], []⟩, ⟨6, [64, 66], []⟩, ⟨5, [65], [(_, _)]⟩, ⟨4, [3], []⟩, ⟨3, [62, 63], []⟩, ⟨2, [8], []⟩, ⟨1, [7], []⟩, ⟨0, [3], [(_, _)]⟩]) (L1 := [16, 17, 18, 19, 20, 21]) (L2 := [15, 16, 17, 18, 20, 21]) [61, 67, 75] [] rfl rfl rfl rfl rfl rfl rfl ?_ ?_
    ·refine exK_callO rfl rfl Cal.h rfl (withinApi_ok hT (lo := ((i + w) % b.steps)) (hi := ((i + b.steps - 1) % b.steps)) hse hf.names hf.seen) (by repeat (first | exact Split.none _ | exact Split.all _ | (apply Split.rem; repeat (first | exact Rem.head | apply Rem.tail)) | apply Split.right)) fun r16 K17 h18 => ⟨?_, ?_⟩
     ·rcases h18 with ⟨rfl, rfl⟩
      all_goals simp
     obtain ⟨rfl, rfl⟩ := h18
     try simp only [List.cons_append, List.nil_append]
     refine TD.norm (env' := [_, _, _, _, _, _, _, _, _, _, _, _, _, _, _, _, _, _, _, _, _, _, _, _, _, _, _, _, _, _, _, _, _, _, _, _, _, _, _, _, _, _, _, _, _, _, _, _, _, _, _, _, _, _, _, _, _, _, _, _, _, _, _, _, _, _, _, _, _, _, _, _, _, _, _, _, _, _, _, _, _, _, _, _, _, _, _, _, _, _, _, _, _, _, _, _, _, _, _, _, _, _, _, _, _, _, _, _, _, _, _, _, _, _, _, _, _, _, _, _, _, _, _, _, _, _, _, _, _, _, _, _, _, _, _, _, _, _, _, _, _, _, _, _, _, _, _, _, _, _, _, _, _, _, _, _, _, _, _, _, _, _, _, _, _, _, _, _, _, _, _, _, _, _, _, _, _, _, _, _, _, _, _, _, _, _, _, _, _, _, _, _, _, _, _, _, _, _, _, _, _, _, _, _, _, _, _, _, _, _, _, _, _, _, _, _, _, _, _, _, _, _, _, _, _, _, _, _, _, _, _, _, _, _, _, _, _, _, _, _, _, _, _, _, _, _, _, _, _, _, _, _, _, _, _, _, _, _, _, _, _, _, _, _, _, _, _, _, _, _, _, _, _, _, _, _, _, _, _, _, _, _, _, _, _, _, _, _, _, _, _, _, _, _, _, _, _, _, _, _, _, _, _, _, _, _, _, _, _, _, _, _, _, _, _, _, _, _, _, _, _, _, _, _, _, _, _]) rfl ?_
     rw [hy2.1]
     refine TD.z [76] rfl (q_move rfl rfl) ?_
     refine TD.z [60] rfl (q_extract rfl rfl rfl) ?_
     refine TD.z [60] rfl (q_extract rfl rfl rfl) ?_
     refine TD.cnewP (pend' := [⟨18, [60], []⟩, ⟨17, [60], []⟩, ⟨16, [76], []⟩, ⟨13, [73], [(_, _)]⟩, ⟨12, [3], []⟩, ⟨11, [71], []⟩, ⟨10, [68, 70], []⟩, ⟨9, [69], [(_, _)]⟩, ⟨8, [3], []⟩, ⟨7, [7], []⟩, ⟨5, [65], [(_, _)]⟩, ⟨4, [3], []⟩, ⟨3, [62, 63], []⟩, ⟨2, [8], []⟩, ⟨1, [7], []⟩]) [] rfl rfl rfl rfl rfl (n_allocA rfl TyZA.h) (fun _ => putS rfl (by simp only [List.set]; rfl)) (by simp) fun jy hjy => ?_
     refine TD.s (pend' := [⟨18, [60], []⟩]) [13, 77] rfl rfl (q_store rfl rfl TySz.h rfl rfl (by repeat (first | exact List.Mem.head _ | assumption | apply List.Mem.tail)) rfl) ?_
     refine TD.as (pend' := []) [78] rfl rfl (q_assign rfl rfl) ?_
     refine TD.fin ?_
     refine TK.maskL [3, 6, 7, 8, 9, 10, 11, 12, 13, 14] ?_
     refine TK.kp ((jy, _) :: (jx, _) :: (jc, _) :: (jb, _) :: (0, _) :: (1, _) :: (s, _) :: (e, _) :: []) ?_
     refine Eq.mp ?_ (hcont jy 0 0 0)
     clear hcont
     congr 1 <;> rfl
    ·refine exK_newP rfl (n_allocA rfl TyZA.h) (fun _ => putS rfl (by simp only [List.set]; rfl)) (by simp) fun jy hjy => ?_
     refine TD.cl (pend' := [⟨13, [73], [(_, _)]⟩, ⟨12, [3], []⟩, ⟨11, [71], []⟩, ⟨10, [68, 70], []⟩, ⟨9, [69], [(_, _)]⟩, ⟨8, [3], []⟩, ⟨7, [7], []⟩, ⟨5, [65], [(_, _)]⟩, ⟨4, [3], []⟩, ⟨3, [62, 63], []⟩, ⟨2, [8], []⟩, ⟨1, [7], []⟩]) [61, 67, 75] rfl rfl rfl rfl rfl (withinApi_ok hT (lo := ((i + w) % b.steps)) (hi := ((i + b.steps - 1) % b.steps)) hse hf.names hf.seen) (fun r19 K20 h21 => ⟨?_, ?_⟩)
     ·rcases h21 with ⟨rfl, rfl⟩
      all_goals simp
     obtain ⟨rfl, rfl⟩ := h21
     try simp only [List.cons_append, List.nil_append]
     refine TD.norm (by simp only [List.set]; rfl) ?_
     rw [hy2.1]
     refine TD.z [76] rfl (q_move rfl rfl) ?_
     refine TD.z [60] rfl (q_extract rfl rfl rfl) ?_
     refine TD.z [60] rfl (q_extract rfl rfl rfl) ?_
     refine TD.s (pend' := [⟨18, [60], []⟩]) [13, 77] rfl rfl (q_store rfl rfl TySz.h rfl rfl (by repeat (first | exact List.Mem.head _ | assumption | apply List.Mem.tail)) rfl) ?_
     refine TD.as (pend' := []) [78] rfl rfl (q_assign rfl rfl) ?_
     refine TD.fin ?_
     refine TK.maskL [3, 6, 7, 8, 9, 10, 11, 12, 13, 14] ?_
     refine TK.kp ((jy, _) :: (jx, _) :: (jc, _) :: (jb, _) :: (0, _) :: (1, _) :: (s, _) :: (e, _) :: []) ?_
     refine Eq.mp ?_ (hcont jy 0 0 0)
     clear hcont
     congr 1 <;> rfl
   ·skip
    refine au [4] ?_
    refine TK.share (fun jz _ _ _ => slotsA 327 [(3, .ptr jb 0), (6, boolA false), (7, intA i), (8, intA w), (9, .sl jc 0 (cntX b).length), (10, intA (askM b true)), (11, .ptr jx 0), (12, intA (askM b true)), (13, .ptr jy 0), (14, intA (askM b true)), (15, .ptr jz 0), (16, intA (askM b true))]) (fun jz _ _ _ => (jz, .cells [intA (withinApi b i ((i + b.steps - 1) % b.steps)).1.1, intA (withinApi b i ((i + b.steps - 1) % b.steps)).1.2] 23 true) :: (jy, .cells [intA (withinApi b ((i + w) % b.steps) ((i + b.steps - 1) % b.steps)).1.1, intA (withinApi b ((i + w) % b.steps) ((i + b.steps - 1) % b.steps)).1.2] 23 true) :: (jx, .cells [intA (withinApi b i ((i + w - 1) % b.steps)).1.1, intA (withinApi b i ((i + w - 1) % b.steps)).1.2] 23 true) :: (jc, .cells ((cntX b).map intA) 3 false) :: (jb, .cells (bookC b s e) 27 true) :: (0, checksG) :: (1, saysG) :: (s, saysO b) :: (e, seenO b) :: []) (fun hcont => ?_) (fun jz _ _ _ => ?_)
    ·refine TK.draw [0, 1, 2, 3, 4, 5, 6, 7, 8, 9, 10, 11, 12, 13, 14, 15, 16] [0, 1, 2, 3, 4, 5, 6, 7, 8, 9, 10, 11, 12, 14, 15, 13, 16] (by kernel_rfl) (by kernel_rfl) ?_
     refine TD.y [3] rfl (hq := q_load rfl rfl TySz.h (List.Mem.head _) rfl) (h := ?_)
     refine TD.z [7] rfl (q_move rfl rfl) ?_
     refine TD.z [7] rfl (q_move rfl rfl) ?_
     refine TD.z [3] rfl (q_fieldAddr rfl rfl FldOf.h (by decide)) ?_
     refine TD.y [83] rfl (hq := q_load1 rfl rfl TySz.h (List.Mem.head _) rfl) (h := ?_)
     refine TD.z [82, 84] rfl (q_add rfl rfl rfl (by omega)) ?_
     refine TD.z [85] rfl (q_sub rfl rfl rfl (by omega)) ?_
     refine TD.z [3] rfl (q_fieldAddr rfl rfl FldOf.h (by decide)) ?_
     refine TD.y [87] rfl (hq := q_load1 rfl rfl TySz.h (List.Mem.head _) rfl) (h := ?_)
     refine TD.z [86, 88] rfl (q_rem rfl rfl rfl (by omega) (by omega)) ?_
     refine TD.c2 (i1 := 10) (i2 := 14) (pend1 := [⟨8, [87], [(_, _)]⟩, ⟨7, [3], []⟩, ⟨6, [85], []⟩, ⟨5, [82, 84], []⟩, ⟨4, [83], [(_, _)]⟩, ⟨3, [3], []⟩, ⟨2, [7], []⟩]) (pend2 := [⟨9, [86, 88], []⟩, ⟨8, [87], [(_, _)]⟩, ⟨7, [3], []⟩, ⟨6, [85], []⟩, ⟨5, [82, 84], []⟩, ⟨4, [83], [(_, _)]⟩, ⟨3, [3], []⟩, ⟨2, [7], []⟩, ⟨1, [7], []⟩, ⟨0, [3], [(_, _)]⟩]) (L1 := [11, 12, 13, 14, 15, 16]) (L2 := [10, 11, 12, 13, 15, 16]) [80, 81, 89] [] rfl rfl rfl rfl rfl rfl rfl ?_ ?_
     ·refine exK_callO rfl rfl Cal.h rfl (withinApi_ok hT (lo := i) (hi := ((i + b.steps - 1) % b.steps)) hse hf.names hf.seen) (by repeat (first | exact Split.none _ | exact Split.all _ | (apply Split.rem; repeat (first | exact Rem.head | apply Rem.tail)) | apply Split.right)) fun r22 K23 h24 => ⟨?_, ?_⟩
      ·rcases h24 with ⟨rfl, rfl⟩
       all_goals simp
      obtain ⟨rfl, rfl⟩ := h24
      try simp only [List.cons_append, List.nil_append]
      refine TD.norm (env' := [_, _, _, _, _, _, _, _, _, _, _, _, _, _, _, _, _, _, _, _, _, _, _, _, _, _, _, _, _, _, _, _, _, _, _, _, _, _, _, _, _, _, _, _, _, _, _, _, _, _, _, _, _, _, _, _, _, _, _, _, _, _, _, _, _, _, _, _, _, _, _, _, _, _, _, _, _, _, _, _, _, _, _, _, _, _, _, _, _, _, _, _, _, _, _, _, _, _, _, _, _, _, _, _, _, _, _, _, _, _, _, _, _, _, _, _, _, _, _, _, _, _, _, _, _, _, _, _, _, _, _, _, _, _, _, _, _, _, _, _, _, _, _, _, _, _, _, _, _, _, _, _, _, _, _, _, _, _, _, _, _, _, _, _, _, _, _, _, _, _, _, _, _, _, _, _, _, _, _, _, _, _, _, _, _, _, _, _, _, _, _, _, _, _, _, _, _, _, _, _, _, _, _, _, _, _, _, _, _, _, _, _, _, _, _, _, _, _, _, _, _, _, _, _, _, _, _, _, _, _, _, _, _, _, _, _, _, _, _, _, _, _, _, _, _, _, _, _, _, _, _, _, _, _, _, _, _, _, _, _, _, _, _, _, _, _, _, _, _, _, _, _, _, _, _, _, _, _, _, _, _, _, _, _, _, _, _, _, _, _, _, _, _, _, _, _, _, _, _, _, _, _, _, _, _, _, _, _, _, _, _, _, _, _, _, _, _, _, _, _, _, _, _, _, _, _, _]) rfl ?_
      rw [hz2.1]
      refine TD.z [90] rfl (q_move rfl rfl) ?_
      refine TD.z [79] rfl (q_extract rfl rfl rfl) ?_
      refine TD.z [79] rfl (q_extract rfl rfl rfl) ?_
      refine TD.cnewP (pend' := [⟨13, [79], []⟩, ⟨12, [79], []⟩, ⟨11, [90], []⟩, ⟨8, [87], [(_, _)]⟩, ⟨7, [3], []⟩, ⟨6, [85], []⟩, ⟨5, [82, 84], []⟩, ⟨4, [83], [(_, _)]⟩, ⟨3, [3], []⟩, ⟨2, [7], []⟩]) [] rfl rfl rfl rfl rfl (n_allocA rfl TyZA.h) (fun _ => putS rfl (by simp only [List.set]; rfl)) (by simp) fun jz hjz => ?_
      refine TD.s (pend' := [⟨13, [79], []⟩]) [15, 91] rfl rfl (q_store rfl rfl TySz.h rfl rfl (by repeat (first | exact List.Mem.head _ | assumption | apply List.Mem.tail)) rfl) ?_
      refine TD.as (pend' := []) [92] rfl rfl (q_assign rfl rfl) ?_
      refine TD.fin ?_
      refine TK.maskL [3, 6, 7, 8, 9, 10, 11, 12, 13, 14, 15, 16] ?_
      refine TK.kp ((jz, _) :: (jy, _) :: (jx, _) :: (jc, _) :: (jb, _) :: (0, _) :: (1, _) :: (s, _) :: (e, _) :: []) ?_
      refine Eq.mp ?_ (hcont jz 0 0 0)
      clear hcont
      congr 1 <;> rfl
     ·refine exK_newP rfl (n_allocA rfl TyZA.h) (fun _ => putS rfl (by simp only [List.set]; rfl)) (by simp) fun jz hjz => ?_
      refine TD.cl (pend' := [⟨8, [87], [(_, _)]⟩, ⟨7, [3], []⟩, ⟨6, [85], []⟩, ⟨5, [82, 84], []⟩, ⟨4, [83], [(_, _)]⟩, ⟨3, [3], []⟩, ⟨2, [7], []⟩]) [80, 81, 89] rfl rfl rfl rfl rfl (withinApi_ok hT (lo := i) (hi := ((i + b.steps - 1) % b.steps)) hse hf.names hf.seen) (fun r25 K26 h27 => ⟨?_, ?_⟩)
      ·rcases h27 with ⟨rfl, rfl⟩
       all_goals simp
      obtain ⟨rfl, rfl⟩ := h27
      try simp only [List.cons_append, List.nil_append]
      refine TD.norm (by simp only [List.set]; rfl) ?_
      rw [hz2.1]
      refine TD.z [90] rfl (q_move rfl rfl) ?_
      refine TD.z [79] rfl (q_extract rfl rfl rfl) ?_
      refine TD.z [79] rfl (q_extract rfl rfl rfl) ?_
      refine TD.s (pend' := [⟨13, [79], []⟩]) [15, 91] rfl rfl (q_store rfl rfl TySz.h rfl rfl (by repeat (first | exact List.Mem.head _ | assumption | apply List.Mem.tail)) rfl) ?_
      refine TD.as (pend' := []) [92] rfl rfl (q_assign rfl rfl) ?_
      refine TD.fin ?_
      refine TK.maskL [3, 6, 7, 8, 9, 10, 11, 12, 13, 14, 15, 16] ?_
      refine TK.kp ((jz, _) :: (jy, _) :: (jx, _) :: (jc, _) :: (jb, _) :: (0, _) :: (1, _) :: (s, _) :: (e, _) :: []) ?_
      refine Eq.mp ?_ (hcont jz 0 0 0)
      clear hcont
      congr 1 <;> rfl
    ·skip
     refine au [4, 5, 8] ?_
     refine TK.cl rfl rfl rfl rfl (narrow_ok tame hse hf.names hf.seen) ?_
     rintro r28 K29 ⟨rfl, rfl⟩
     refine au [] ?_
     rw [narrow_bar.1]
     refine au [1, 10, 10, 10, 10, 2, 2, 2, 2, 3, 4] ?_
     refine TK.share (fun ja jq _ _ => slotsA 327 [(3, .ptr jb 0), (6, boolA false), (7, intA i), (8, intA w), (9, .sl jc 0 (cntX b).length), (10, intA (askM b true)), (11, .ptr jx 0), (12, intA (askM b true)), (13, .ptr jy 0), (14, intA (askM b true)), (15, .ptr jz 0), (16, intA (askM b true)), (17, intA (narrowApi b).1.1), (18, intA (narrowApi b).1.2), (19, boolA (narrowApi b).2.1), (20, intA (askM b true)), (21, .sl ja 0 (sureX b).length), (22, .sl jq 0 (perhX b).length), (23, intA (askM b true))]) (fun ja jq _ _ => (ja, .cells ((sureX b).map intA) 3 false) :: (jq, .cells ((perhX b).map intA) 3 false) :: (jz, .cells [intA (withinApi b i ((i + b.steps - 1) % b.steps)).1.1, intA (withinApi b i ((i + b.steps - 1) % b.steps)).1.2] 23 true) :: (jy, .cells [intA (withinApi b ((i + w) % b.steps) ((i + b.steps - 1) % b.steps)).1.1, intA (withinApi b ((i + w) % b.steps) ((i + b.steps - 1) % b.steps)).1.2] 23 true) :: (jx, .cells [intA (withinApi b i ((i + w - 1) % b.steps)).1.1, intA (withinApi b i ((i + w - 1) % b.steps)).1.2] 23 true) :: (jc, .cells ((cntX b).map intA) 3 false) :: (jb, .cells (bookC b s e) 27 true) :: (0, checksG) :: (1, saysG) :: (s, saysO b) :: (e, seenO b) :: []) (fun hcont => ?_) (fun ja jq _ _ => ?_)
     ·skip
      refine au [5, 8] ?_
      refine TK.cl rfl rfl rfl rfl (stepsApi_ok hT hse hf.names hf.seen) ?_
      rintro r31 K32 h33
      rcases h33 with ⟨hb0, rfl, rfl⟩ | ⟨hb0, ja, jq, rfl, rfl⟩
      ·refine au [1, 10, 10, 10, 2, 2, 2, 3] ?_
       refine TK.nilSl 21 3 rfl fun ja hja => ?_
       refine au [] ?_
       refine TK.nilSl 22 3 rfl fun jq hjq => ?_
       refine au [] ?_
       refine TK.maskL [3, 6, 7, 8, 9, 10, 11, 12, 13, 14, 15, 16, 17, 18, 19, 20, 21, 22, 23] ?_
       refine TK.kp ((ja, _) :: (jq, _) :: (jz, _) :: (jy, _) :: (jx, _) :: (jc, _) :: (jb, _) :: (0, _) :: (1, _) :: (s, _) :: (e, _) :: []) ?_
       refine Eq.mp ?_ (hcont ja jq 0 0)
       clear hcont
       rw [show sureX b = [] from if_neg hb0, show perhX b = [] from if_neg hb0]
       congr 1 <;> rfl
      ·refine au [1, 10, 10, 10, 2, 2, 2, 3] ?_
       refine TK.freezeR 21 rfl (by repeat (first | exact Upd.head | apply Upd.tail)) (by simp only [List.set]; rfl) ?_
       refine TK.freezeR 22 rfl (by repeat (first | exact Upd.head | apply Upd.tail)) (by simp only [List.set]; rfl) ?_
       refine TK.maskL [3, 6, 7, 8, 9, 10, 11, 12, 13, 14, 15, 16, 17, 18, 19, 20, 21, 22, 23] ?_
       refine TK.kp ((ja, _) :: (jq, _) :: (jz, _) :: (jy, _) :: (jx, _) :: (jc, _) :: (jb, _) :: (0, _) :: (1, _) :: (s, _) :: (e, _) :: []) ?_
       refine Eq.mp ?_ (hcont ja jq 0 0)
       clear hcont
       rw [show sureX b = pickL b 1 b.steps.toNat from if_pos hb0, show perhX b = pickL b 0 b.steps.toNat from if_pos hb0, hb0]
       congr 1 <;> rfl
     ·skip
      refine au [4, 4, 5, 1, 1, 6, 1] ?_
      refine TK.sp 109 (fun g10_4 => ?_) (fun g10_4 => ?_)
      ·simp at g10_4
      refine au [1, 1, 6, 25, 1] ?_
      refine TK.sp 114 (fun g10_9 => ?_) (fun g10_9 => ?_)
      ·simp at g10_9
      refine au [1, 1, 6, 25, 1] ?_
      refine TK.sp 119 (fun g10_14 => ?_) (fun g10_14 => ?_)
      ·simp at g10_14
      refine au [1, 1, 6, 25, 1] ?_
      refine TK.sp 124 (fun g10_19 => ?_) (fun g10_19 => ?_)
      ·simp at g10_19
      refine au [1, 1, 6, 25, 3, 20] ?_
      refine ⟨fun hc1 => ?_, fun hc1 => ?_⟩
      ·simp at hc1
      refine au [12, 4, 4, 5, 1, 6, 3, 20] ?_
      refine ⟨fun hc2 => ?_, fun hc2 => ?_⟩
      ·have h9 : askM b true ≠ 0 := by simpa using hc2
       have h99 : askM b true = 9 := (ask_iff hck).2.2.resolve_left h9
       obtain ⟨n1, n2, n3⟩ := (narrow_bar (b := b)).2 (.inl h9)
       rw [show cntX b = [] from if_neg h9, show sureX b = [] from if_neg h9, show perhX b = [] from if_neg h9, (hx2.2 h9).1, (hx2.2 h9).2, n1, n2, n3, h99]
       refine au [4, 5, 1, 6, 1] ?_
       refine TK.sp 133 (fun g13_3 => ?_) (fun g13_3 => ?_)
       ·refine au [1, 28, 6, 26, 1] ?_
        refine TK.sp 138 (fun g13_8 => ?_) (fun g13_8 => ?_)
        ·refine au [8, 39] ?_
         refine TK.a rfl (q_eqFlat rfl rfl rfl rfl rfl FlatF.h EqG.h) ?_
         refine au [26, 1] ?_
         refine TK.sp 143 (fun g13_13 => ?_) (fun g13_13 => ?_)
         ·refine au [1, 6, 26, 1] ?_
          refine TK.sp 147 (fun g13_17 => ?_) (fun g13_17 => ?_)
          ·refine au [1, 6, 26, 1] ?_
           refine TK.sp 151 (fun g13_21 => ?_) (fun g13_21 => ?_)
           ·refine au [1, 30, 26, 1] ?_
            refine TK.sp 155 (fun g13_25 => ?_) (fun g13_25 => ?_)
            ·refine au [1, 28, 1, 28, 23, 6, 26, 1] ?_
             refine TK.sp 163 (fun g13_33 => ?_) (fun g13_33 => ?_)
             ·refine TK.cl rfl rfl rfl rfl (sought_ok tame) ?_
              rintro r34 K35 ⟨rfl, rfl⟩
              refine au [26, 2, 3] ?_
              refine TK.rt hret [(0, _), (1, _), (s, _), (e, _)] ?_
              exact ⟨rfl, rfl⟩
             simp at g13_33
            simp at g13_25
           simp at g13_21
          simp at g13_17
         simp at g13_13
        simp at g13_8
       simp at g13_3
      have h0 : askM b true = 0 := by simpa using hc2
      have hne := (ask_iff hck).1.1 h0
      have hcp := counts_ne hb hne
      have hcl := counts_len hb
      have hae := all_ends hb hne i hcp
      have hrb := rest_band hb hne hil.1 hil.2 hwl.1 hwl.2
      have hsl := sure_le hb hne hcp b.steps.toNat
      have hpg := perhaps_ge hb hne hcp
      have hfi := found_iff hb hne hcp
      have hno := narrow_one h0
      have q1 := pickL_len b 1 b.steps.toNat
      have q0 := pickL_len b 0 b.steps.toNat
      have wx := within_bd hb hne i w
      have wy := within_bd hb hne ((i + w) % b.steps) (b.steps - w)
      have wz := within_bd hb hne i b.steps
      have hl1 : (((countsM b).length : Int) - 1).toNat = (((countsM b).length - 1 : Nat) : Int).toNat := by omega
      rw [show cntX b = countsM b from if_pos h0, show sureX b = pickL b 1 b.steps.toNat from if_pos h0, show perhX b = pickL b 0 b.steps.toNat from if_pos h0, hno.2.1, (within_arc hck h0 hil ⟨hwl.1, by omega⟩).1, within_rest hck h0 hil hwl, (within_arc hck h0 hil ⟨by omega, Int.le_refl _⟩).1]
      refine au [12, 4, 4] ?_
      refine TK.draw [0, 1, 2, 3, 4, 5, 6, 7, 8, 9, 10, 11, 12, 13, 14, 15, 16, 17, 18, 19, 20, 21, 22, 23, 24, 25, 26, 27, 28, 29, 30, 31, 32, 33, 34, 35, 36, 37, 38, 39, 40, 41, 42, 43, 44, 45, 46, 47, 48, 49, 50, 51, 52, 53, 54, 55, 56, 57, 58, 59, 60, 61, 62, 63, 64, 65, 66, 67, 68, 69, 70, 71, 72, 73] [0, 1, 2, 3, 4, 5, 6, 7, 8, 9, 10, 11, 12, 13, 14, 15, 16, 17, 18, 19, 20, 21, 22, 23, 24, 25, 26, 27, 28, 29, 30, 31, 32, 33, 34, 35, 36, 37, 38, 39, 40, 41, 42, 43, 44, 45, 46, 47, 48, 49, 50, 51, 52, 53, 54, 55, 56, 57, 58, 59, 60, 61, 62, 63, 64, 65, 66, 67, 68, 69, 70, 71, 72, 73] (by kernel_rfl) (by kernel_rfl) ?_
      refine TD.z [9] rfl (q_move rfl rfl) ?_
      refine TD.z [166] rfl (q_len rfl rfl rfl Und.h) ?_
      refine TD.z [167] rfl (q_cmp rfl rfl rfl rfl) ?_
      refine TD.z [168] rfl (q_move rfl rfl) ?_
      refine TD.sp 169 (fun g14_4 => ?_) (fun g14_4 => ?_)
      ·have h5 : ((countsM b).length : Int) = 0 := by simpa using g14_4
       omega
      refine TD.y [15, 169] rfl (hq := q_load rfl rfl TySz.h (List.Mem.head _) rfl) (h := ?_)
      refine TD.z [9, 169] rfl (q_move rfl rfl) ?_
      refine TD.z [169, 171] rfl (q_indexSl rfl rfl rfl SlEl.h (by omega) (by omega)) ?_
      refine TD.y [169, 172] rfl (hq := q_load1 rfl rfl TySz.h (List.Mem.head _) (ints_at (countsM b) 3 false 0 hcp)) (h := ?_)
      refine TD.z [9, 169] rfl (q_move rfl rfl) ?_
      refine TD.z [9, 169] rfl (q_move rfl rfl) ?_
      refine TD.z [169, 175] rfl (q_len rfl rfl rfl Und.h) ?_
      refine TD.z [169, 176] rfl (q_sub rfl rfl rfl (by omega)) ?_
      refine TD.z [169, 174, 177] rfl (q_indexSl rfl rfl rfl SlEl.h (by omega) (by omega)) ?_
      refine TD.y [169, 178] rfl (hq := q_load1 rfl rfl TySz.h (List.Mem.head _) (by rw [hl1]; exact ints_at (countsM b) 3 false ((countsM b).length - 1) (by omega))) (h := ?_)
      refine TD.cl (pend' := [Pd.mk 12 [169, 174, 177] [], Pd.mk 11 [169, 176] [], Pd.mk 10 [169, 175] [], Pd.mk 9 [9, 169] [], Pd.mk 8 [9, 169] [], Pd.mk 6 [169, 171] [], Pd.mk 5 [9, 169] [], Pd.mk 4 [15, 169] [(_, _)], Pd.mk 2 [167] [], Pd.mk 1 [166] [], Pd.mk 0 [9] []]) [169, 173, 179] rfl (pendS (es := [7, 13, 3, 3]) rfl rfl) rfl rfl rfl (to_ok hT) (fun r37 K38 h39 => ⟨?_, ?_⟩)
      ·rcases h39 with ⟨rfl, rfl⟩
       all_goals simp
      obtain ⟨rfl, rfl⟩ := h39
      try simp only [List.cons_append, List.nil_append]
      refine TD.norm (by simp only [List.set]; rfl) ?_
      refine TD.z [169, 170, 180] rfl (q_neqFlat rfl rfl rfl rfl rfl FlatF.h EqG.h) ?_
      refine TD.z [169, 181] rfl (q_pickF rfl rfl rfl) ?_
      refine TD.z [182] rfl (q_move rfl rfl) ?_
      refine TD.sp 183 (fun g14_18 => ?_) (fun g14_18 => ?_)
      ·rw [hae.1, hae.2] at g14_18
       simp at g14_18
      refine TD.z [11, 183] rfl (q_fieldAddr rfl rfl FldOf.h (by decide)) ?_
      refine TD.y [183, 184] rfl (hq := q_load1 rfl rfl TySz.h (List.Mem.head _) rfl) (h := ?_)
      refine TD.z [13, 183] rfl (q_fieldAddr rfl rfl FldOf.h (by decide)) ?_
      refine TD.y [183, 186] rfl (hq := q_load1 rfl rfl TySz.h (List.Mem.head _) rfl) (h := ?_)
      refine TD.z [183, 185, 187] rfl (q_add rfl rfl rfl (by omega)) ?_
      refine TD.z [15, 183] rfl (q_fieldAddr rfl rfl FldOf.h (by decide)) ?_
      refine TD.y [183, 189] rfl (hq := q_load1 rfl rfl TySz.h (List.Mem.head _) rfl) (h := ?_)
      refine TD.z [183, 188, 190] rfl (q_cmp rfl rfl rfl rfl) ?_
      refine TD.z [183, 191] rfl (q_pickF rfl rfl rfl) ?_
      refine TD.z [192] rfl (q_move rfl rfl) ?_
      refine TD.sp 193 (fun g14_28 => ?_) (fun g14_28 => ?_)
      ·have := of_decide_eq_true g14_28
       omega
      refine TD.z [11, 193] rfl (q_fieldAddr rfl rfl FldOf.h (by decide)) ?_
      refine TD.y [193, 194] rfl (hq := q_load1 rfl rfl TySz.h (List.Mem.head _) rfl) (h := ?_)
      refine TD.z [13, 193] rfl (q_fieldAddr rfl rfl FldOf.h (by decide)) ?_
      refine TD.y [193, 196] rfl (hq := q_load1 rfl rfl TySz.h (List.Mem.head _) rfl) (h := ?_)
      refine TD.z [193, 195, 197] rfl (q_add rfl rfl rfl (by omega)) ?_
      refine TD.z [15, 193] rfl (q_fieldAddr rfl rfl FldOf.h (by decide)) ?_
      refine TD.y [193, 199] rfl (hq := q_load1 rfl rfl TySz.h (List.Mem.head _) rfl) (h := ?_)
      refine TD.z [193, 198, 200] rfl (q_cmp rfl rfl rfl rfl) ?_
      refine TD.z [193, 201] rfl (q_pickF rfl rfl rfl) ?_
      refine TD.z [202] rfl (q_move rfl rfl) ?_
      refine TD.sp 203 (fun g14_38 => ?_) (fun g14_38 => ?_)
      ·have := of_decide_eq_true g14_38
       omega
      refine TD.z [11, 203] rfl (q_fieldAddr rfl rfl FldOf.h (by decide)) ?_
      refine TD.y [203, 204] rfl (hq := q_load1 rfl rfl TySz.h (List.Mem.head _) rfl) (h := ?_)
      refine TD.z [15, 203] rfl (q_fieldAddr rfl rfl FldOf.h (by decide)) ?_
      refine TD.y [203, 206] rfl (hq := q_load1 rfl rfl TySz.h (List.Mem.head _) rfl) (h := ?_)
      refine TD.z [203, 205, 207] rfl (q_cmp rfl rfl rfl rfl) ?_
      refine TD.z [203, 208] rfl (q_pickF rfl rfl rfl) ?_
      refine TD.z [209] rfl (q_move rfl rfl) ?_
      refine TD.sp 210 (fun g14_45 => ?_) (fun g14_45 => ?_)
      ·have := of_decide_eq_true g14_45
       omega
      refine TD.z [19, 210] rfl (q_move rfl rfl) ?_
      refine TD.z [9, 210] rfl (q_move rfl rfl) ?_
      refine TD.z [210, 212] rfl (q_indexSl rfl rfl rfl SlEl.h (by omega) (by omega)) ?_
      refine TD.y [210, 213] rfl (hq := q_load1 rfl rfl TySz.h (List.Mem.head _) (ints_at (countsM b) 3 false 0 hcp)) (h := ?_)
      refine TD.z [210, 214] rfl (q_cmp rfl rfl rfl rfl) ?_
      refine TD.z [210, 211, 215] rfl (q_cmpB rfl rfl rfl Und.h rfl) ?_
      refine TD.z [210, 216] rfl (q_pickF rfl rfl rfl) ?_
      refine TD.z [217] rfl (q_move rfl rfl) ?_
      refine TD.sp 218 (fun g14_53 => ?_) (fun g14_53 => ?_)
      ·rw [show decide (arcsOf b (List.range b.steps.toNat) ≠ []) = decide ((countsM b)[0] > 0) from decide_eq_decide.2 hfi] at g14_53
       simp at g14_53
      refine TD.z [21, 218] rfl (q_move rfl rfl) ?_
      refine TD.z [218, 219] rfl (q_len rfl rfl rfl Und.h) ?_
      refine TD.z [9, 218] rfl (q_move rfl rfl) ?_
      refine TD.z [218, 221] rfl (q_indexSl rfl rfl rfl SlEl.h (by omega) (by omega)) ?_
      refine TD.y [218, 222] rfl (hq := q_load1 rfl rfl TySz.h (List.Mem.head _) (ints_at (countsM b) 3 false 0 hcp)) (h := ?_)
      refine TD.z [218, 220, 223] rfl (q_cmp rfl rfl rfl rfl) ?_
      refine TD.z [218, 224] rfl (q_pickF rfl rfl rfl) ?_
      refine TD.z [225] rfl (q_move rfl rfl) ?_
      refine TD.sp 226 (fun g14_61 => ?_) (fun g14_61 => ?_)
      ·have := of_decide_eq_true g14_61
       omega
      refine TD.z [21, 226] rfl (q_move rfl rfl) ?_
      refine TD.z [226, 227] rfl (q_len rfl rfl rfl Und.h) ?_
      refine TD.z [22, 226] rfl (q_move rfl rfl) ?_
      refine TD.z [226, 229] rfl (q_len rfl rfl rfl Und.h) ?_
      refine TD.z [226, 228, 230] rfl (q_add rfl rfl rfl (by omega)) ?_
      refine TD.z [9, 226] rfl (q_move rfl rfl) ?_
      refine TD.z [9, 226] rfl (q_move rfl rfl) ?_
      refine TD.z [226, 233] rfl (q_len rfl rfl rfl Und.h) ?_
      refine TD.z [226, 234] rfl (q_sub rfl rfl rfl (by omega)) ?_
      refine TD.z [226, 232, 235] rfl (q_indexSl rfl rfl rfl SlEl.h (by omega) (by omega)) ?_
      refine TD.y [226, 236] rfl (hq := q_load1 rfl rfl TySz.h (List.Mem.head _) (by rw [hl1]; exact ints_at (countsM b) 3 false ((countsM b).length - 1) (by omega))) (h := ?_)
      refine TD.z [226, 231, 237] rfl (q_cmp rfl rfl rfl rfl) ?_
      refine TD.z [226, 238] rfl (q_pickF rfl rfl rfl) ?_
      refine TD.fin ?_
      refine au [20] ?_
      refine ⟨fun hc3 => ?_, fun hc3 => ?_⟩
      ·have := of_decide_eq_true hc3
       omega
      refine au [12, 4, 4, 5, 1, 30, 3, 20] ?_
      refine ⟨fun hc4 => ?_, fun hc4 => ?_⟩
      ·have hna : arcsOf b (List.range b.steps.toNat) = [] := by simpa using hc4
       obtain ⟨n1, n2, _⟩ := (narrow_bar (b := b)).2 (.inr hna)
       rw [n1, n2]
       refine au [4, 5, 1, 6, 1] ?_
       refine TK.sp 244 (fun g17_3 => ?_) (fun g17_3 => ?_)
       ·refine au [1, 6, 26, 1] ?_
        refine TK.sp 248 (fun g17_7 => ?_) (fun g17_7 => ?_)
        ·refine TK.cl rfl rfl rfl rfl (sought_ok tame) ?_
         rintro r40 K41 ⟨rfl, rfl⟩
         refine au [26, 2, 3] ?_
         refine TK.rt hret [(0, _), (1, _), (s, _), (e, _)] ?_
         exact ⟨rfl, rfl⟩
        simp at g17_7
       simp at g17_3
      have ha : arcsOf b (List.range b.steps.toNat) ≠ [] := by simpa using hc4
      rw [hno.2.2 ha]
      obtain ⟨p1, p2, p3, p4, p5⟩ := arc_is ha
      have p6 : (narrowM b).1 ≤ b.steps - 1 := by omega
      have hsf := sure_first hb hne ha
      have harc : (withinM b (statesM b) i w).1 > 0 → ((narrowM b).2 < w ∨ (narrowM b).2 = w ∧ (narrowM b).1 ≤ i) := fun h => by
       have h7 := (arc_some (b := b) (low := i.toNat) (w := w) (by omega) (by omega) (by rw [Int.toNat_of_nonneg hil.1]; exact h)).2
       rw [Int.toNat_of_nonneg hil.1] at h7
       exact h7
      have hone : ((narrowM b).2 == 1) = decide (((pickL b 1 b.steps.toNat).length : Int) > 0) := by rw [Bool.eq_iff_iff, beq_iff_eq, decide_eq_true_eq, hsf.1]; omega
      refine au [12, 4, 4] ?_
      refine TK.share (fun _ _ _ _ => slotsA 327 [(3, .ptr jb 0), (6, boolA false), (17, intA (narrowM b).1), (18, intA (narrowM b).2), (303, boolA false)]) (fun _ _ _ _ => (jb, .cells (bookC b s e) 27 true) :: (0, checksG) :: (1, saysG) :: (s, saysO b) :: (e, seenO b) :: []) (fun hcont => ?_) (fun _ _ _ _ => ?_)
      ·skip
       refine au [5, 1, 7, 9, 24] ?_
       refine TK.cl rfl rfl rfl rfl (between_ok hT) ?_
       rintro r43 K44 ⟨rfl, rfl⟩
       refine au [30, 1] ?_
       refine TK.sp 257 (fun g18_7 => ?_) (fun g18_7 => ?_)
       ·rw [decide_eq_true p1, decide_eq_true p6] at g18_7
        simp at g18_7
       refine au [1, 7, 9] ?_
       refine TK.cl rfl rfl rfl rfl (between_ok hT) ?_
       rintro r46 K47 ⟨rfl, rfl⟩
       refine au [30, 25, 1] ?_
       refine TK.sp 264 (fun g18_14 => ?_) (fun g18_14 => ?_)
       ·rw [decide_eq_true p3, decide_eq_true p4] at g18_14
        simp at g18_14
       refine au [7, 9, 6, 1] ?_
       refine TK.sp 268 (fun g18_18 => ?_) (fun g18_18 => ?_)
       ·have har := harc (of_decide_eq_true g18_18)
        refine au [1, 1, 6, 1] ?_
        refine TK.sp 272 (fun g18_22 => ?_) (fun g18_22 => ?_)
        ·have := of_decide_eq_true g18_22
         omega
        refine au [1, 1, 6, 1] ?_
        refine TK.sp 276 (fun g18_26 => ?_) (fun g18_26 => ?_)
        ·have hew : w = (narrowM b).2 := by simpa using g18_26
         refine au [1, 1, 6, 26, 25, 26, 25, 1] ?_
         refine TK.sp 284 (fun g18_34 => ?_) (fun g18_34 => ?_)
         ·have := of_decide_eq_true g18_34
          omega
         refine au [1, 6, 1, 28, 6, 34, 25, 1] ?_
         refine TK.sp 292 (fun g18_42 => ?_) (fun g18_42 => ?_)
         ·rw [hone] at g18_42
          simp at g18_42
         refine au [1, 28, 6, 1] ?_
         refine TK.sp 296 (fun g18_46 => ?_) (fun g18_46 => ?_)
         ·have hsp : 0 < (pickL b 1 b.steps.toNat).length := by have := of_decide_eq_true g18_46; omega
          refine au [1, 1, 36] ?_
          refine TK.a rfl (q_load1 rfl rfl TySz.h (by repeat (first | exact List.Mem.head _ | assumption | apply List.Mem.tail)) (ints_at (pickL b 1 b.steps.toNat) 3 false 0 hsp)) ?_
          refine au [6, 26, 25, 3] ?_
          refine TK.maskL [3, 6, 17, 18, 303] ?_
          refine TK.kp ((jb, _) :: (0, _) :: (1, _) :: (s, _) :: (e, _) :: []) ?_
          refine Eq.mp ?_ (hcont 0 0 0 0)
          clear hcont
          rw [show ((narrowM b).1 != (pickL b 1 b.steps.toNat)[0]) = false by simp [hsf.2 hsp]]
          congr 1 <;> rfl
         refine au [11, 11, 11, 11, 11, 25, 25, 3] ?_
         refine TK.maskL [3, 6, 17, 18, 303] ?_
         refine TK.kp ((jb, _) :: (0, _) :: (1, _) :: (s, _) :: (e, _) :: []) ?_
         refine Eq.mp ?_ (hcont 0 0 0 0)
         clear hcont
         congr 1 <;> rfl
        refine au [11, 11, 11, 25, 25, 26, 25, 1, 1, 6, 1, 28, 6, 34, 25, 1] ?_
        refine TK.sp 292 (fun g18_42 => ?_) (fun g18_42 => ?_)
        ·rw [hone] at g18_42
         simp at g18_42
        refine au [1, 28, 6, 1] ?_
        refine TK.sp 296 (fun g18_46 => ?_) (fun g18_46 => ?_)
        ·have hsp : 0 < (pickL b 1 b.steps.toNat).length := by have := of_decide_eq_true g18_46; omega
         refine au [1, 1, 36] ?_
         refine TK.a rfl (q_load1 rfl rfl TySz.h (by repeat (first | exact List.Mem.head _ | assumption | apply List.Mem.tail)) (ints_at (pickL b 1 b.steps.toNat) 3 false 0 hsp)) ?_
         refine au [6, 26, 25, 3] ?_
         refine TK.maskL [3, 6, 17, 18, 303] ?_
         refine TK.kp ((jb, _) :: (0, _) :: (1, _) :: (s, _) :: (e, _) :: []) ?_
         refine Eq.mp ?_ (hcont 0 0 0 0)
         clear hcont
         rw [show ((narrowM b).1 != (pickL b 1 b.steps.toNat)[0]) = false by simp [hsf.2 hsp]]
         congr 1 <;> rfl
        refine au [11, 11, 11, 11, 11, 25, 25, 3] ?_
        refine TK.maskL [3, 6, 17, 18, 303] ?_
        refine TK.kp ((jb, _) :: (0, _) :: (1, _) :: (s, _) :: (e, _) :: []) ?_
        refine Eq.mp ?_ (hcont 0 0 0 0)
        clear hcont
        congr 1 <;> rfl
       refine au [11, 11, 11, 11, 11, 11, 11, 11, 11, 11, 11, 11, 11, 25, 25, 1, 1, 6, 1, 28, 6, 34, 25, 1] ?_
       refine TK.sp 292 (fun g18_42 => ?_) (fun g18_42 => ?_)
       ·rw [hone] at g18_42
        simp at g18_42
       refine au [1, 28, 6, 1] ?_
       refine TK.sp 296 (fun g18_46 => ?_) (fun g18_46 => ?_)
       ·have hsp : 0 < (pickL b 1 b.steps.toNat).length := by have := of_decide_eq_true g18_46; omega
        refine au [1, 1, 36] ?_
        refine TK.a rfl (q_load1 rfl rfl TySz.h (by repeat (first | exact List.Mem.head _ | assumption | apply List.Mem.tail)) (ints_at (pickL b 1 b.steps.toNat) 3 false 0 hsp)) ?_
        refine au [6, 26, 25, 3] ?_
        refine TK.maskL [3, 6, 17, 18, 303] ?_
        refine TK.kp ((jb, _) :: (0, _) :: (1, _) :: (s, _) :: (e, _) :: []) ?_
        refine Eq.mp ?_ (hcont 0 0 0 0)
        clear hcont
        rw [show ((narrowM b).1 != (pickL b 1 b.steps.toNat)[0]) = false by simp [hsf.2 hsp]]
        congr 1 <;> rfl
       refine au [11, 11, 11, 11, 11, 25, 25, 3] ?_
       refine TK.maskL [3, 6, 17, 18, 303] ?_
       refine TK.kp ((jb, _) :: (0, _) :: (1, _) :: (s, _) :: (e, _) :: []) ?_
       refine Eq.mp ?_ (hcont 0 0 0 0)
       clear hcont
       congr 1 <;> rfl
      ·skip
       refine au [20] ?_
       refine ⟨fun hc5 => ?_, fun hc5 => ?_⟩
       ·cases hc5
       refine au [12, 4] ?_
       refine TK.draw [0, 1, 2, 3, 4, 5, 6, 7, 8, 9, 10, 11, 12, 13, 14, 15] [0, 1, 2, 3, 4, 5, 6, 7, 8, 9, 10, 11, 13, 14, 12, 15] (by kernel_rfl) (by kernel_rfl) ?_
       refine TD.y [3] rfl (hq := q_load rfl rfl TySz.h (List.Mem.head _) rfl) (h := ?_)
       refine TD.z [17] rfl (q_move rfl rfl) ?_
       refine TD.z [17] rfl (q_move rfl rfl) ?_
       refine TD.z [18] rfl (q_move rfl rfl) ?_
       refine TD.z [307, 308] rfl (q_add rfl rfl rfl (by omega)) ?_
       refine TD.z [309] rfl (q_sub rfl rfl rfl (by omega)) ?_
       refine TD.z [3] rfl (q_fieldAddr rfl rfl FldOf.h (by decide)) ?_
       refine TD.y [311] rfl (hq := q_load1 rfl rfl TySz.h (List.Mem.head _) rfl) (h := ?_)
       refine TD.z [310, 312] rfl (q_rem rfl rfl rfl (by omega) (by omega)) ?_
       refine TD.c2 (i1 := 9) (i2 := 13) (pend1 := [⟨7, [311], [(_, _)]⟩, ⟨6, [3], []⟩, ⟨5, [309], []⟩, ⟨4, [307, 308], []⟩, ⟨3, [18], []⟩, ⟨2, [17], []⟩]) (pend2 := [⟨8, [310, 312], []⟩, ⟨7, [311], [(_, _)]⟩, ⟨6, [3], []⟩, ⟨5, [309], []⟩, ⟨4, [307, 308], []⟩, ⟨3, [18], []⟩, ⟨2, [17], []⟩, ⟨1, [17], []⟩, ⟨0, [3], [(_, _)]⟩]) (L1 := [10, 11, 12, 13, 14, 15]) (L2 := [9, 10, 11, 12, 14, 15]) [305, 306, 313] [] rfl rfl rfl rfl rfl rfl rfl ?_ ?_
       ·refine exK_callO rfl rfl Cal.h rfl (withinApi_ok hT (lo := (narrowM b).1) (hi := ((narrowM b).1 + (narrowM b).2 - 1) % b.steps) hse hf.names hf.seen) (by repeat (first | exact Split.none _ | exact Split.all _ | (apply Split.rem; repeat (first | exact Rem.head | apply Rem.tail)) | apply Split.right)) fun r49 K50 h51 => ⟨?_, ?_⟩
        ·rcases h51 with ⟨rfl, rfl⟩
         all_goals simp
        obtain ⟨rfl, rfl⟩ := h51
        try simp only [List.cons_append, List.nil_append]
        refine TD.norm (env' := [_, _, _, _, _, _, _, _, _, _, _, _, _, _, _, _, _, _, _, _, _, _, _, _, _, _, _, _, _, _, _, _, _, _, _, _, _, _, _, _, _, _, _, _, _, _, _, _, _, _, _, _, _, _, _, _, _, _, _, _, _, _, _, _, _, _, _, _, _, _, _, _, _, _, _, _, _, _, _, _, _, _, _, _, _, _, _, _, _, _, _, _, _, _, _, _, _, _, _, _, _, _, _, _, _, _, _, _, _, _, _, _, _, _, _, _, _, _, _, _, _, _, _, _, _, _, _, _, _, _, _, _, _, _, _, _, _, _, _, _, _, _, _, _, _, _, _, _, _, _, _, _, _, _, _, _, _, _, _, _, _, _, _, _, _, _, _, _, _, _, _, _, _, _, _, _, _, _, _, _, _, _, _, _, _, _, _, _, _, _, _, _, _, _, _, _, _, _, _, _, _, _, _, _, _, _, _, _, _, _, _, _, _, _, _, _, _, _, _, _, _, _, _, _, _, _, _, _, _, _, _, _, _, _, _, _, _, _, _, _, _, _, _, _, _, _, _, _, _, _, _, _, _, _, _, _, _, _, _, _, _, _, _, _, _, _, _, _, _, _, _, _, _, _, _, _, _, _, _, _, _, _, _, _, _, _, _, _, _, _, _, _, _, _, _, _, _, _, _, _, _, _, _, _, _, _, _, _, _, _, _, _, _, _, _, _, _, _, _, _, _, _, _, _, _, _, _]) rfl ?_
        rw [(within_arc hck h0 ⟨p1, p2⟩ ⟨p3, p4⟩).1, (within_arc hck h0 ⟨p1, p2⟩ ⟨p3, p4⟩).2]
        refine TD.z [314] rfl (q_move rfl rfl) ?_
        refine TD.z [304] rfl (q_extract rfl rfl rfl) ?_
        refine TD.z [304] rfl (q_extract rfl rfl rfl) ?_
        refine TD.cnewP (pend' := [⟨12, [304], []⟩, ⟨11, [304], []⟩, ⟨10, [314], []⟩, ⟨7, [311], [(_, _)]⟩, ⟨6, [3], []⟩, ⟨5, [309], []⟩, ⟨4, [307, 308], []⟩, ⟨3, [18], []⟩, ⟨2, [17], []⟩]) [] rfl rfl rfl rfl rfl (n_allocA rfl TyZA.h) (fun _ => putS rfl (by simp only [List.set]; rfl)) (by simp) fun jw hjw => ?_
        refine TD.s (pend' := [⟨12, [304], []⟩]) [24, 315] rfl rfl (q_store rfl rfl TySz.h rfl rfl (by repeat (first | exact List.Mem.head _ | assumption | apply List.Mem.tail)) rfl) ?_
        refine TD.as (pend' := []) [316] rfl rfl (q_assign rfl rfl) ?_
        refine TD.fin ?_
        refine au [4, 5, 1, 6, 1] ?_
        refine TK.sp 319 (fun g21_3 => ?_) (fun g21_3 => ?_)
        ·refine au [7, 9, 6, 26, 1] ?_
         refine TK.sp 324 (fun g21_8 => ?_) (fun g21_8 => ?_)
         ·refine TK.cl rfl rfl rfl rfl (sought_ok tame) ?_
          rintro r52 K53 ⟨rfl, rfl⟩
          refine au [26, 2, 3] ?_
          refine TK.rt hret [(0, _), (1, _), (s, _), (e, _)] ?_
          exact ⟨rfl, rfl⟩
         rw [decide_eq_true p5] at g21_8
         simp at g21_8
        simp at g21_3
       ·refine exK_newP rfl (n_allocA rfl TyZA.h) (fun _ => putS rfl (by simp only [List.set]; rfl)) (by simp) fun jw hjw => ?_
        refine TD.cl (pend' := [⟨7, [311], [(_, _)]⟩, ⟨6, [3], []⟩, ⟨5, [309], []⟩, ⟨4, [307, 308], []⟩, ⟨3, [18], []⟩, ⟨2, [17], []⟩]) [305, 306, 313] rfl rfl rfl rfl rfl (withinApi_ok hT (lo := (narrowM b).1) (hi := ((narrowM b).1 + (narrowM b).2 - 1) % b.steps) hse hf.names hf.seen) (fun r55 K56 h57 => ⟨?_, ?_⟩)
        ·rcases h57 with ⟨rfl, rfl⟩
         all_goals simp
        obtain ⟨rfl, rfl⟩ := h57
        try simp only [List.cons_append, List.nil_append]
        refine TD.norm (by simp only [List.set]; rfl) ?_
        rw [(within_arc hck h0 ⟨p1, p2⟩ ⟨p3, p4⟩).1, (within_arc hck h0 ⟨p1, p2⟩ ⟨p3, p4⟩).2]
        refine TD.z [314] rfl (q_move rfl rfl) ?_
        refine TD.z [304] rfl (q_extract rfl rfl rfl) ?_
        refine TD.z [304] rfl (q_extract rfl rfl rfl) ?_
        refine TD.s (pend' := [⟨12, [304], []⟩]) [24, 315] rfl rfl (q_store rfl rfl TySz.h rfl rfl (by repeat (first | exact List.Mem.head _ | assumption | apply List.Mem.tail)) rfl) ?_
        refine TD.as (pend' := []) [316] rfl rfl (q_assign rfl rfl) ?_
        refine TD.fin ?_
        refine au [4, 5, 1, 6, 1] ?_
        refine TK.sp 319 (fun g21_3 => ?_) (fun g21_3 => ?_)
        ·refine au [7, 9, 6, 26, 1] ?_
         refine TK.sp 324 (fun g21_8 => ?_) (fun g21_8 => ?_)
         ·refine TK.cl rfl rfl rfl rfl (sought_ok tame) ?_
          rintro r58 K59 ⟨rfl, rfl⟩
          refine au [26, 2, 3] ?_
          refine TK.rt hret [(0, _), (1, _), (s, _), (e, _)] ?_
          exact ⟨rfl, rfl⟩
         rw [decide_eq_true p5] at g21_8
         simp at g21_8
        simp at g21_3
end Go.Vel
end
section
set_option linter.all false
set_option maxRecDepth 20000
set_option maxHeartbeats 60000000
namespace Go.Vel
open Go Go.Conc Go.Proofs Go.ChangeShapes Go.WideShapes Go.ChangeAt Go.RowKit
open Go.Proofs.YtpdioiojfgknbaaDoor (Tryd.pinned)
def seekerArcsPhi (x0a x0b : Value) : Nat → Loc3
 | 0 => ⟨0, 0, 0⟩
 | 1 => ⟨1, 0, 0⟩
 | 2 => locV x0a
 | 3 => locV x0b
 | _ => ⟨0, 0, 0⟩
theorem seekerArcs_run {W : World} (hl : laidMetH Tryd.prog tblLaid W) {b0 : Bk} {x0a x0b : Value} {k1 : Int} {k2 : Int} (h0a : SlIn W saysV 5 b0.seekers x0a) (h0b : SlIn W seenV 2 b0.seen x0b) (h1 : 0 ≤ k1 ∧ k1 < 256) (h2 : 0 ≤ k2 ∧ k2 < 256) :
  ∃ M last o w' t', runNT Tryd.prog (M + 1) (solo (G (Frame.enter Tryd.prog 3 #[.agg #[.int .i64 b0.steps, .int .i64 b0.wrong, .int .i64 b0.low, .int .i64 b0.high, x0a, x0b], .int .u8 k1, .int .u8 k2] .normal) []) W) #[] = (.ended o w', t') ∧
   runN Tryd.prog M (solo (G (Frame.enter Tryd.prog 3 #[.agg #[.int .i64 b0.steps, .int .i64 b0.wrong, .int .i64 b0.low, .int .i64 b0.high, x0a, x0b], .int .u8 k1, .int .u8 k2] .normal) []) W) = .next last ∧
   step Tryd.prog last = .ended o w' ∧ Conc.Good Tryd.prog (fun v w => v = .bool true ∧ w.os = W.os ∧ w.output = W.output ∧ KeptAll W w) last o w' t' := by
 refine good_run (R := fun v w => v = .bool true ∧ KeptAll W w) (R' := fun v w => v = .bool true ∧ w.os = W.os ∧ w.output = W.output ∧ KeptAll W w) Tryd.func3 rfl (by kernel_rfl) (fun v w' ho hu hr => ⟨hr.1, ho, hu, hr.2⟩) (fun v w τ d h => h) (holdAll_fits W) ?_
 obtain ⟨ht0, ht1⟩ := of_laid hl
 refine lawArcs_top (b := b0) (s := 2) (e := 3) (k1 := k1) (k2 := k2) (by decide) h1 h2 (A := [checksG, saysG, saysO b0, seenO b0]) (φ := seekerArcsPhi x0a x0b) (F := holdAll W) ?_ ?_ ?_ ?_ ?_ ?_
 ·intro x hx
  simp only [List.mem_cons, List.not_mem_nil, or_false] at hx
  rcases hx with rfl | rfl | rfl | rfl <;> rfl
 ·simp [keys]
 ·intro g i hg
  match g, hg with
  | 0, hg => cases hg; exact ⟨by simp, rfl, rfl⟩
  | 1, hg => cases hg; exact ⟨by simp, rfl, rfl⟩
  | g + 2, hg => cases hg
 ·refine ⟨fun i o ho => ?_, fun i j o o' hi _ _ hx => ?_, fun b x h => h, fun i o hi hx => ?_⟩
  ·match i, ho with
   | 0, ho => cases ho; exact tbl_rel ht0
   | 1, ho => cases ho; exact tbl_rel ht1
   | 2, ho => cases ho; exact relO_in h0a (fun _ => rfl) says_rel
   | 3, ho => cases ho; exact relO_in h0b (fun _ => rfl) seen_rel
   | i + 4, ho => simp at ho
  ·match i, hi with
   | 0, hi => cases hi; cases hx
   | 1, hi => cases hi; cases hx
   | 2, hi => cases hi; cases hx
   | 3, hi => cases hi; cases hx
   | i + 4, hi => simp at hi
  ·match i, hi with
   | 0, hi => cases hi; cases hx
   | 1, hi => cases hi; cases hx
   | 2, hi => cases hi; cases hx
   | 3, hi => cases hi; cases hx
   | i + 4, hi => simp at hi
 ·refine ⟨rfl, fun j a y ha hy => ?_⟩
  match j, ha, hy with
  | 0, ha, hy =>
   cases ha; cases hy
   refine .agg rfl fun t u z hu hz => ?_
   match t, hu, hz with
   | 0, hu, hz => cases hu; cases hz; exact .v _
   | 1, hu, hz => cases hu; cases hz; exact .v _
   | 2, hu, hz => cases hu; cases hz; exact .v _
   | 3, hu, hz => cases hu; cases hz; exact .v _
   | 4, hu, hz => cases hu; cases hz; exact relV_in h0a (by simp) rfl
   | 5, hu, hz => cases hu; cases hz; exact relV_in h0b (by simp) rfl
   | t + 6, hu, hz => simp [bookC] at hu
  | 1, ha, hy =>
   cases ha; cases hy; exact .v _
  | 2, ha, hy =>
   cases ha; cases hy; exact .v _
  | j + 3, ha, hy => simp at ha
 ·rintro r K' φ' A' H' v w ⟨rfl, _⟩ hH' hv' hfit
  refine ⟨inv_v hv', fun i hi => ?_⟩
  have hh := Array.getElem?_eq_getElem hi
  rw [hh]
  exact hfit i false _ (hH'.fr _ _ (holdAll_get hh))
set_option maxRecDepth 100000 in
theorem seekerArcs_lifted (os : Os) (started : os.Started) (H : Type) (enc : TypeId × Value → H) :
  ReturnsInLeavingWide Go.Proofs.YtpdioiojfgknbaaDoor.Rows.seekerArcsRow.assume Tryd.checked os 3 .any (Go.Proofs.YtpdioiojfgknbaaDoor.Rows.seekerArcsRow.pre enc Tryd.prog Tryd.f3 (OpenSpec.ofChange Go.Proofs.YtpdioiojfgknbaaDoor.Rows.seekerArcsSpec))
   (Go.Proofs.YtpdioiojfgknbaaDoor.Rows.seekerArcsSpec.post enc Tryd.prog Tryd.f3 false true false false) := by
 refine returnsInLeavingWide_of_good (C := Tryd.checked) own started
  (ChangeSpec.witness_shaped (enc := enc) (C := Tryd.checked) (os := os) (X := fun w _ => laidMetH Tryd.prog tblLaid w) false (World.doorLaid Tryd.prog 400 os) #[.agg #[.int .i64 0, .int .i64 0, .int .i64 0, .int .i64 0, .slice none 0 0, .slice none 0 0], .int .u8 0, .int .u8 0] 8 rfl (World.shaped_of_RefB (by kernel_rfl) (by kernel_rfl)) (by kernel_rfl) (by kernel_rfl) (by kernel_rfl) (door_met os _)) ?_
 intro w tape i _ _ _ hok hpre _
 obtain ⟨_, _, _, fn', hfn', _, _, _, _, hval0⟩ := hok
 obtain rfl : fn' = Tryd.f3 := Option.some.inj (hfn'.symm.trans Tryd.func3)
 obtain ⟨⟨⟨ds, gs, before, hw, hc⟩, hL0⟩, _⟩ := hpre
 have hW := DataW.Whole.of_heap (w' := w.forCall tape i) (by rfl) hw
 have hL : laidMetH Tryd.prog tblLaid (w.forCall tape i) := laidMetH.of_heap (by rfl) hL0
 obtain ⟨bl, args, vars⟩ := i
 generalize w.forCall tape ⟨bl, args, vars⟩ = W at hW hL hval0 ⊢
 have hW' := hW
 obtain ⟨p, q, hA0, hV0, rfl, _, _⟩ := hW
 have hA : DataW.TrodAll enc Tryd.prog W 0 (fun _ => true) true [27, 5, 5] args.toList ds p := hA0
 obtain ⟨v0, u0, d0, ds0, p0, q0, hargs, rfl, rfl, t0, hr0⟩ := trodAll_cons hA
 obtain ⟨v1, u1, d1, ds1, p1, q1, rfl, rfl, rfl, t1, hr1⟩ := trodAll_cons hr0
 obtain ⟨v2, u2, d2, ds2, p2, q2, rfl, rfl, rfl, t2, hr2⟩ := trodAll_cons hr1
 obtain ⟨rfl, rfl, rfl⟩ := trodAll_nil hr2
 obtain rfl : args = #[v0, v1, v2] := by cases args; simp_all
 obtain ⟨rfl, rfl⟩ := trodVars_none hV0
 obtain ⟨b0, x0a, x0b, rfl, s0a, s0b⟩ := open_book (okAgg Tryd.underlying27 (hval0 0 27 v0 rfl rfl)) t0
 obtain ⟨k1, rfl, rfl, rfl, s1⟩ := open_int Tryd.underlying5 (hval0 1 5 v1 rfl rfl) t1
 obtain ⟨k2, rfl, rfl, rfl, s2⟩ := open_int Tryd.underlying5 (hval0 2 5 v2 rfl rfl) t2
 obtain ⟨M, last, o, w', t', g1, g2, g3, g4⟩ := seekerArcs_run hL s0a s0b (u8_wf s1) (u8_wf s2)
 refine ⟨M, last, o, w', t', g1, g2, g3, g4.mono fun v hF => ?_⟩
 obtain ⟨rfl, ho, hu, hkp⟩ := hF
 refine ChangeSpec.post_blind ?_
 exact ⟨_, _, _, [], _, [], hW', trodAll_mk1 (shut_bool Tryd.underlying4 true), ⟨_, _, trod_mono laid_out t0 hkp, ⟨_, _, trod_mono laid_out t1 hkp, ⟨_, _, trod_mono laid_out t2 hkp, trodAll_mk0, rfl⟩, rfl⟩, rfl⟩, rfl, kept_but ho hu hkp _, fun h => by cases h⟩
open Go.Proofs.YtpdioiojfgknbaaDoor in
theorem seekerArcs_said : Rows.SeekerArcsSaid :=
 OpenClaim.holds_of_wide_leaving 3 Tryd.f3 rfl rfl rfl rfl rfl rfl rfl ⟨rfl, rfl, rfl, rfl, rfl⟩ rfl rfl rfl rfl rfl (by kernel_rfl) Tryd.func3 (by kernel_rfl)
  (of_decide_eq_true (by kernel_rfl)) (by unfold Func.isWrapper; first | (rw [if_pos (by decide +kernel)]; kernel_rfl) | (rw [if_neg (by decide +kernel)]; exact ⟨rfl, rfl⟩))
  (fun os started H enc _ => seekerArcs_lifted os started H enc)
end Go.Vel
namespace Go.Proofs.YtpdioiojfgknbaaDoor
open Go
theorem seekerArcs_holds : Rows.SeekerArcsCardSaid :=
 Go.Vel.holds_tied_goes .later [.funcs, .funcs] true (true, "fb03854694f5ca032dc06b62647a0139c6d65f0bc48579e1b16101737a65f154") false
  Go.Vel.seekerArcs_said (by kernel_rfl) seekerArcs_row_tie rfl ⟨rfl, rfl⟩ (by kernel_rfl) rfl
  (fun f fn hf hfn => by
   obtain rfl : f = 3 := Option.some.inj ((show Tryd.prog.funcNamed "velarium/velariumlaw09.SeekerArcs" = some 3 by kernel_rfl).symm.trans hf) |>.symm
   obtain rfl : fn = Tryd.f3 := (Option.some.inj (Tryd.func3.symm.trans hfn)).symm
   exact ⟨by kernel_rfl, fun j t ht => by
    rw [Tryd.params3] at ht
    have hm : t ∈ [27, 5, 5] := by simpa using Array.mem_of_getElem? ht
    have hall : ([27, 5, 5].all fun u => !Tryd.prog.wantsStandIn u) = true := by kernel_rfl
    exact (show Tryd.prog.wantsStandIn t = false by simpa using List.all_eq_true.1 hall t hm)⟩)
  (by kernel_rfl)
#print axioms seekerArcs_holds
end Go.Proofs.YtpdioiojfgknbaaDoor
end
