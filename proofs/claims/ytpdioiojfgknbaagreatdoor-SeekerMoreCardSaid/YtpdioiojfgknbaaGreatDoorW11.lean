/- The law SeekerMore: if more seekers may be wrong, or there may be fewer or more seams, there are no fewer states, and nothing is known better; no more need be wrong. It holds of every program, tape and world that the statements name, as each theorem says. -/
import Derived.Test.YtpdioiojfgknbaaGreatDoorW6
import Derived.Test.YtpdioiojfgknbaaGreatDoorW7
import Derived.Test.YtpdioiojfgknbaaGreatDoorW9
import Derived.Test.YtpdioiojfgknbaaGreatDoorW10
section
set_option linter.all false
set_option maxRecDepth 20000
set_option maxHeartbeats 60000000
namespace Go.Vel
open Go Go.Conc Go.Proofs
/-! ### the specification's Likely and Clash are the program's -/
theorem own_seen {b : Bk} {S R : List Int} (h : R ∈ ownM b S) : seenM b R = true := by
 unfold ownM at h
 split at h
 ·rename_i hc; rw [List.mem_singleton.1 h]; exact hc
 ·cases h
theorem loop_seen {b : Bk} : ∀ (rest S R : List Int), R ∈ loopM b S rest → seenM b R = true
 | [], S, R, h => by cases h
 | n :: rest, S, R, h => by
  simp only [loopM] at h
  split at h
  ·rcases List.mem_append.1 h with h | h
   ·rcases List.mem_append.1 h with h | h
    ·exact own_seen h
    ·exact loop_seen rest _ R h
   ·exact loop_seen rest _ R h
  ·cases h
theorem all_seen {b : Bk} {R : List Int} (h : R ∈ allM b) : seenM b R = true := by
 rcases List.mem_append.1 h with h | h
 ·exact own_seen h
 ·exact loop_seen _ _ _ h
theorem all_sets {b : Bk} (hb : BkOk b) (S : List Int) : S ∈ allM b ↔ S ∈ setsB b ∧ seenM b S = true := by
 constructor
 ·intro h1
  refine ⟨sets_mem _ S (allM_pair h1) (fun x hx => ?_) ?_, all_seen h1⟩
  ·have := (allM_ok hb S h1).mem x hx; omega
  ·have := all_seen h1
   unfold seenM at this
   simp only [Bool.and_eq_true, decide_eq_true_eq] at this
   exact this.1.2
 ·rintro ⟨h1, h2⟩
  refine memA (sets_pair _ S h1) (fun x hx => ?_) h2
  have := setsM_mem _ S h1 x hx
  have := hb.steps
  omega
def goodS (b : Bk) (S : List Int) : Bool := seenM b S && !badM b S b.seekers.length
def guessS (b : Bk) (pre : List (List Int)) : List (List Int × Int) := (pre.filter (goodS b)).map fun S => (S, wrongM b S)
theorem guessS_T {b : Bk} {A : List (List Int)} {i : Nat} (hi : i < A.length) (h : goodS b A[i] = true) : guessS b (A.take (i + 1)) = guessS b (A.take i) ++ [(A[i], wrongM b A[i])] := by
 unfold guessS; rw [filt_T hi h, List.map_append]; rfl
theorem guessS_F {b : Bk} {A : List (List Int)} {i : Nat} (hi : i < A.length) (h : goodS b A[i] = false) : guessS b (A.take (i + 1)) = guessS b (A.take i) := by
 unfold guessS; rw [filt_F hi h]
theorem guess_same {b : Bk} (hb : BkOk b) (y : List Int × Int) : y ∈ guessS b (setsB b) ↔ y ∈ guessM b (allM b) := by
 unfold guessS guessM goodS
 simp only [List.mem_map, List.mem_filter, Bool.and_eq_true, all_sets hb]
 constructor
 ·rintro ⟨S, ⟨h1, h2, h3⟩, rfl⟩; exact ⟨S, ⟨⟨h1, h2⟩, h3⟩, rfl⟩
 ·rintro ⟨S, ⟨⟨h1, h2⟩, h3⟩, rfl⟩; exact ⟨S, ⟨h1, h2, h3⟩, rfl⟩
theorem likely_eq {b : Bk} (hb : BkOk b) : minL ltGuess ([], 0) (guessS b (setsB b)) = likelyM b :=
 tot_guess.minL_same (guess_same hb)
theorem guess_nil {b : Bk} (hb : BkOk b) : guessS b (setsB b) = [] ↔ guessM b (allM b) = [] := by
 rw [List.eq_nil_iff_forall_not_mem, List.eq_nil_iff_forall_not_mem]
 exact ⟨fun h y hy => h y ((guess_same hb y).2 hy), fun h y hy => h y ((guess_same hb y).1 hy)⟩
/-! Clash -/
def allS (b : Bk) (S l : List Int) : Bool := l.all fun k => rightM b S k.toNat
def togS (b : Bk) (l : List Int) : Bool := (setsB b).any fun S => seenM b S && allS b S l
theorem allR_bits (b : Bk) (S : List Int) (bits n : Nat) : allR b S bits n = allS b S (bitsM n bits) := by
 unfold allR allS bitsM
 rw [List.all_map, List.all_filter]
 rfl
theorem tog_eq {b : Bk} (hb : BkOk b) (bits : Nat) : togM b bits = togS b (bitsM b.seekers.length bits) := by
 rw [Bool.eq_iff_iff]
 unfold togM togS
 simp only [List.any_eq_true, Bool.and_eq_true, allR_bits, all_sets hb]
 constructor
 ·rintro ⟨S, ⟨h1, h2⟩, h3⟩; exact ⟨S, h1, h2, h3⟩
 ·rintro ⟨S, h1, h2, h3⟩; exact ⟨S, ⟨h1, h2⟩, h3⟩
def uptoM (n : Nat) : List Int := (List.range n).map fun k : Nat => (k : Int)
theorem bitB_test (bits i : Nat) : bitB bits i = bits.testBit i := by
 unfold bitB
 rw [Nat.testBit_eq_decide_div_mod_eq, Bool.eq_iff_iff, beq_iff_eq, decide_eq_true_eq]
 omega
theorem bits_all (n : Nat) : bitsM n (2 ^ n - 1) = uptoM n := by
 unfold bitsM uptoM
 rw [List.filter_eq_self.2 fun i hi => ?_]
 rw [bitB_test, Nat.testBit_two_pow_sub_one]
 exact decide_eq_true (List.mem_range.1 hi)
theorem bits_up {n c : Nat} (h : c < 2 ^ n) : bitsM n (2 ^ n + c) = bitsM n c := by
 unfold bitsM
 congr 1
 refine List.filter_congr fun i hi => ?_
 rw [bitB_test, bitB_test, Nat.testBit_two_pow_add_gt (List.mem_range.1 hi)]
theorem bits_get : ∀ (n : Nat) (l : List Int), l.Pairwise (· < ·) → (∀ x ∈ l, 0 ≤ x ∧ x < n) → ∃ c, c < 2 ^ n ∧ bitsM n c = l
 | 0, l, _, hr => by
  cases l with
  | nil => exact ⟨0, by decide, rfl⟩
  | cons x l => have := hr x (by simp); omega
 | n + 1, l, hp, hr => by
  have hpw : 2 ^ (n + 1) = 2 ^ n + 2 ^ n := by rw [Nat.pow_succ]; omega
  have low : (∀ x ∈ l, x < (n : Int)) → ∃ c, c < 2 ^ (n + 1) ∧ bitsM (n + 1) c = l := fun h => by
   obtain ⟨c, h1, h2⟩ := bits_get n l hp fun x hx => ⟨(hr x hx).1, h x hx⟩
   refine ⟨c, by omega, ?_⟩
   rw [bitsM_F, h2]
   rw [bitB_test]
   exact Nat.testBit_lt_two_pow h1
  rcases List.eq_nil_or_concat l with rfl | ⟨y, a, rfl⟩
  ·exact low fun x hx => by cases hx
  ·rw [List.concat_eq_append] at hp hr low ⊢
   have hp2 := List.pairwise_append.1 hp
   have ha := hr a (by simp)
   have hlt : ∀ x ∈ y, x < a := fun x hx => hp2.2.2 x hx a (by simp)
   by_cases e : a = n
   ·subst e
    obtain ⟨c, h1, h2⟩ := bits_get n y hp2.1 fun x hx => ⟨(hr x (by simp [hx])).1, hlt x hx⟩
    refine ⟨2 ^ n + c, by omega, ?_⟩
    rw [bitsM_T, bits_up h1, h2]
    rw [bitB_test, Nat.testBit_two_pow_add_eq, Nat.testBit_lt_two_pow h1]; rfl
   ·refine low fun x hx => ?_
    have h1 := hr x hx
    rcases List.mem_append.1 hx with hx | hx
    ·have := hlt x hx; omega
    ·rw [List.mem_singleton.1 hx] at h1 ⊢; omega
theorem bits_sets {n c : Nat} : bitsM n c ∈ setsM n n := by
 have hp : (uptoM n).Pairwise (· < ·) := by
  unfold uptoM
  rw [List.pairwise_map]
  exact List.pairwise_lt_range.imp fun h => by omega
 have hs : (bitsM n c).Sublist (uptoM n) := List.Sublist.map _ List.filter_sublist
 refine sets_mem n _ (hp.sublist hs) (fun x hx => ?_) (by have := bitsM_len n c; omega)
 obtain ⟨k, hk, rfl⟩ := List.mem_map.1 (hs.subset hx)
 have := List.mem_range.1 hk
 omega
def oddS (b : Bk) (pre : List (List Int)) : List (List Int) := pre.filter fun l => !togS b l
theorem odd_same {b : Bk} (hb : BkOk b) (h0 : togS b (uptoM b.seekers.length) = false) (y : List Int) : y ∈ uptoM b.seekers.length :: oddS b (setsM b.seekers.length b.seekers.length) ↔ y ∈ oddM b (everyM b + 1) := by
 have hpw : everyM b + 1 = 2 ^ b.seekers.length := by unfold everyM; have := Nat.one_le_two_pow (n := b.seekers.length); omega
 unfold oddM oddS
 rw [hpw]
 simp only [List.mem_cons, List.mem_filter, List.mem_map, List.mem_range, tog_eq hb]
 constructor
 ·rintro (rfl | ⟨h1, h2⟩)
  ·exact ⟨2 ^ b.seekers.length - 1, ⟨by have := Nat.one_le_two_pow (n := b.seekers.length); omega, by rw [bits_all, h0]; rfl⟩, bits_all _⟩
  ·obtain ⟨c, h3, h4⟩ := bits_get _ y (sets_pair _ y h1) (setsM_mem _ y h1)
   exact ⟨c, ⟨h3, by rw [h4]; exact h2⟩, h4⟩
 ·rintro ⟨c, ⟨_, h2⟩, rfl⟩
  exact .inr ⟨bits_sets, h2⟩
theorem clash_eq {b : Bk} (hb : BkOk b) (h0 : togS b (uptoM b.seekers.length) = false) : firstL ltLists (uptoM b.seekers.length) (oddS b (setsM b.seekers.length b.seekers.length)) = clashM b := by
 have := tot_lists.minL_same (d := []) (odd_same hb h0)
 exact this
theorem tog_every {b : Bk} (hb : BkOk b) : togM b (everyM b) = togS b (uptoM b.seekers.length) := by
 rw [tog_eq hb, show everyM b = 2 ^ b.seekers.length - 1 from rfl, bits_all]
end Go.Vel
end
section
set_option linter.all false
set_option maxRecDepth 20000
set_option maxHeartbeats 60000000
namespace Go.Vel
open Go Go.Conc Go.Proofs
/-! ### a book that allows more -/
structure Wider (b o : Bk) : Prop where
 steps : o.steps = b.steps
 seekers : o.seekers = b.seekers
 seen : o.seen = b.seen
 wrong : b.wrong ≤ o.wrong ∧ o.wrong ≤ 3
 low : 0 ≤ o.low ∧ o.low ≤ b.low
 high : b.high ≤ o.high ∧ o.high ≤ 3
namespace Wider
variable {b o : Bk}
theorem rightM (h : Wider b o) (S : List Int) (k : Nat) : Vel.rightM o S k = Vel.rightM b S k := by
 unfold Vel.rightM wideM inM
 rw [h.seekers, h.steps]
theorem glassM (h : Wider b o) (k : Nat) : Vel.glassM o k = Vel.glassM b k := by unfold Vel.glassM; rw [h.seekers]
theorem badM (h : Wider b o) (S : List Int) (n : Nat) : Vel.badM o S n = Vel.badM b S n := by
 unfold Vel.badM
 congr 1
 funext k
 rw [h.rightM, h.glassM]
theorem wrongL (h : Wider b o) (S : List Int) (n : Nat) : Vel.wrongL o S n = Vel.wrongL b S n := by
 unfold Vel.wrongL
 congr 2
 funext k
 rw [h.rightM]
theorem wrongM (h : Wider b o) (S : List Int) : Vel.wrongM o S = Vel.wrongM b S := by
 unfold Vel.wrongM
 rw [h.seekers, h.badM, h.wrongL]
theorem seenM (h : Wider b o) {S : List Int} (hs : Vel.seenM b S = true) : Vel.seenM o S = true := by
 unfold Vel.seenM at hs ⊢
 rw [h.seen]
 simp only [Bool.and_eq_true, decide_eq_true_eq] at hs ⊢
 obtain ⟨⟨h1, h2⟩, h3⟩ := hs
 have := h.low
 have := h.high
 exact ⟨⟨by omega, by omega⟩, h3⟩
theorem canM (h : Wider b o) {S : List Int} (hs : Vel.canM b S = true) : Vel.canM o S = true := by
 unfold Vel.canM at hs ⊢
 rw [h.seekers, h.badM, h.wrongL]
 simp only [Bool.and_eq_true, decide_eq_true_eq] at hs ⊢
 have := h.wrong
 exact ⟨⟨hs.1.1, by omega⟩, h.seenM hs.2⟩
theorem checkM (h : Wider b o) (hc : Vel.checkM b = 0) : Vel.checkM o = 0 := by
 obtain ⟨h1, h2, h3⟩ := (check_iff b).1 hc
 have hr := numbers_range (b := b) (by rw [h1]; rfl)
 have hst : ∀ n, isStepM o n = isStepM b n := fun n => by unfold isStepM; rw [h.steps]
 refine (check_iff o).2 ⟨?_, ?_, ?_⟩
 ·have := h.wrong
  have := h.low
  have := h.high
  unfold numbersM
  rw [h.steps]
  simp only [cond_eq_if, Bool.or_eq_true, Bool.not_eq_true', Bool.and_eq_false_iff, decide_eq_false_iff_not, decide_eq_true_eq]
  rw [if_neg (by omega)]
 ·have h4 : ∀ n, heardL o n = heardL b n := fun n => by
   induction n with
   | zero => rfl
   | succ n ih =>
    unfold heardL
    rw [ih]
    unfold heard1
    simp only [h.seekers, hst]
  unfold heardM at h2 ⊢
  rw [h.seekers, h4]; exact h2
 ·unfold lookedM at h3 ⊢
  simp only [h.seen, hst]
  exact h3
theorem sets (h : Wider b o) (hb : BkOk b) (ho : BkOk o) (hh : 0 ≤ b.high) {S : List Int} (hS : S ∈ setsB b) : S ∈ setsB o := by
 obtain ⟨h1, h2, h3⟩ := (setsB_iff hb hh S).1 hS
 have := h.high
 exact (setsB_iff ho (by omega) S).2 ⟨h1, by rw [h.steps]; exact h2, by omega⟩
theorem states (h : Wider b o) (hc : Vel.checkM b = 0) {S : List Int} (hS : S ∈ statesM b) : S ∈ statesM o := by
 have hb := bkOk_of hc
 have ho := bkOk_of (h.checkM hc)
 rw [mem_states hb] at hS
 rw [mem_states ho]
 exact ⟨h.sets hb ho (high_of hc) hS.1, h.canM hS.2⟩
theorem less (h : Wider b o) (hc : Vel.checkM b = 0) (hne : statesM b ≠ []) : Less o b := ⟨bkOk_of (h.checkM hc), bkOk_of hc, h.steps.symm, fun _ hS => h.states hc hS, hne⟩
theorem many (h : Wider b o) (hc : Vel.checkM b = 0) : ((statesM b).length : Int) ≤ (statesM o).length := Int.ofNat_le.2 (nodup_le (states_nodup b) fun _ hS => h.states hc hS)
theorem likely (h : Wider b o) (hc : Vel.checkM b = 0) (hg : guessM b (allM b) ≠ []) : guessM o (allM o) ≠ [] ∧ (likelyM o).2 ≤ (likelyM b).2 := by
 have hb := bkOk_of hc
 have ho := bkOk_of (h.checkM hc)
 have h1 : likelyM b ∈ guessM b (allM b) := minL_mem (lt := ltGuess) (d := ([], 0)) hg
 obtain ⟨S, h2, h3⟩ := List.mem_map.1 h1
 obtain ⟨h4, h5⟩ := List.mem_filter.1 h2
 obtain ⟨h6, h7⟩ := (all_sets hb S).1 h4
 have h8 : (S, Vel.wrongM o S) ∈ guessM o (allM o) := List.mem_map.2 ⟨S, List.mem_filter.2 ⟨(all_sets ho S).2 ⟨h.sets hb ho (high_of hc) h6, h.seenM h7⟩, by rw [h.seekers, h.badM]; exact h5⟩, rfl⟩
 refine ⟨List.ne_nil_of_mem h8, ?_⟩
 have h9 : ltGuess (S, Vel.wrongM o S) (likelyM o) = false := by
  unfold likelyM
  generalize guessM o (allM o) = l at h8
  cases l with
  | nil => cases h8
  | cons x xs => exact tot_guess.least xs x _ h8
 rw [Bool.eq_false_iff, ne_eq, ltGuess_iff] at h9
 rw [← h3]
 rw [h.wrongM] at h9
 simp only at h9 ⊢
 omega
end Wider
/-! ### which is likely -/
theorem likely_is {b : Bk} (hb : BkOk b) (hg : guessM b (allM b) ≠ []) : (likelyM b).1 ∈ setsB b ∧ seenM b (likelyM b).1 = true ∧ badM b (likelyM b).1 b.seekers.length = false ∧ (likelyM b).2 = wrongL b (likelyM b).1 b.seekers.length := by
 have h1 : likelyM b ∈ guessM b (allM b) := minL_mem (lt := ltGuess) (d := ([], 0)) hg
 obtain ⟨S, h2, h3⟩ := List.mem_map.1 h1
 obtain ⟨h4, h5⟩ := List.mem_filter.1 h2
 obtain ⟨h6, h7⟩ := (all_sets hb S).1 h4
 have h5 : badM b S b.seekers.length = false := by simpa using h5
 rw [← h3]
 refine ⟨h6, h7, h5, ?_⟩
 show wrongM b S = _
 unfold wrongM
 rw [if_neg (by rw [h5]; decide)]
theorem likely_min {b : Bk} (hb : BkOk b) {S : List Int} (h1 : S ∈ setsB b) (h2 : seenM b S = true) (h3 : badM b S b.seekers.length = false) : guessM b (allM b) ≠ [] ∧ ltGuess (S, (wrongL b S b.seekers.length : Int)) (likelyM b) = false := by
 have hw : wrongM b S = wrongL b S b.seekers.length := by unfold wrongM; rw [if_neg (by rw [h3]; decide)]
 have h8 : (S, wrongM b S) ∈ guessM b (allM b) := List.mem_map.2 ⟨S, List.mem_filter.2 ⟨(all_sets hb S).2 ⟨h1, h2⟩, by rw [h3]; rfl⟩, rfl⟩
 refine ⟨List.ne_nil_of_mem h8, ?_⟩
 rw [← hw]
 unfold likelyM
 generalize guessM b (allM b) = l at h8
 cases l with
 | nil => cases h8
 | cons x xs => exact tot_guess.least xs x _ h8
/-- There is a state just if no more need be wrong than the book says. -/
theorem states_likely {b : Bk} (hb : BkOk b) : statesM b ≠ [] ↔ guessM b (allM b) ≠ [] ∧ (likelyM b).2 ≤ b.wrong := by
 constructor
 ·intro h
  obtain ⟨S, hS⟩ := List.exists_mem_of_ne_nil _ h
  rw [mem_states hb] at hS
  obtain ⟨h1, h2⟩ := hS
  have hc := h2
  unfold canM at hc
  simp only [Bool.and_eq_true, Bool.not_eq_true', decide_eq_true_eq] at hc
  obtain ⟨h3, h4⟩ := likely_min hb h1 hc.2 hc.1.1
  refine ⟨h3, ?_⟩
  rw [Bool.eq_false_iff, ne_eq, ltGuess_iff] at h4
  simp only at h4
  omega
 ·rintro ⟨h1, h2⟩
  obtain ⟨h3, h4, h5, h6⟩ := likely_is hb h1
  refine List.ne_nil_of_mem ((mem_states hb (likelyM b).1).2 ⟨h3, ?_⟩)
  unfold canM
  rw [h5, h4, decide_eq_true (by omega)]; rfl
theorem can_iff (b : Bk) (S : List Int) : canM b S = true ↔ badM b S b.seekers.length = false ∧ (wrongL b S b.seekers.length : Int) ≤ b.wrong ∧ seenM b S = true := by
 unfold canM
 simp only [Bool.and_eq_true, Bool.not_eq_true', decide_eq_true_eq, and_assoc]
end Go.Vel
end
section
set_option linter.all false
set_option maxRecDepth 20000
set_option maxHeartbeats 60000000
namespace Go.Vel
open Go Go.Conc Go.Proofs
/-! ### a book by its lists -/
def okSay (b : Bk) (x : Says) : Prop := isNameM x.name = true ∧ isStepM b x.frm = true ∧ isStepM b x.til = true ∧ 0 ≤ x.says ∧ x.says ≤ 2
theorem heardL_iff (b : Bk) : ∀ n, heardL b n = 0 ↔ ∀ i, i < n → heard1 b i = 0
 | 0 => ⟨fun _ i h => absurd h (Nat.not_lt_zero _), fun _ => rfl⟩
 | n + 1 => by
  have ih := heardL_iff b n
  unfold heardL
  constructor
  ·intro h i hi
   split at h
   ·rename_i h0
    by_cases e : i = n
    ·subst e; exact h
    ·exact ih.1 h0 i (by omega)
   ·rename_i h0; exact absurd h h0
  ·intro h
   rw [if_pos (ih.2 fun i hi => h i (by omega))]
   exact h n (by omega)
theorem heard1_iff {b : Bk} {i : Nat} (hi : i < b.seekers.length) : heard1 b i = 0 ↔ okSay b b.seekers[i] ∧ ∀ j, (hj : j < i) → b.seekers[j].name.toList ≠ b.seekers[i].name.toList := by
 unfold heard1 okSay
 rw [List.getElem?_eq_getElem hi]
 simp only
 have ha : ((b.seekers.take i).any fun o => o.name.toList == b.seekers[i].name.toList) = true ↔ ∃ j, ∃ hj : j < i, b.seekers[j].name.toList = b.seekers[i].name.toList := by
  rw [List.any_eq_true]
  constructor
  ·rintro ⟨x, hx, h⟩
   obtain ⟨j, hj, rfl⟩ := List.mem_iff_getElem.1 hx
   rw [List.length_take] at hj
   exact ⟨j, by omega, by simpa using h⟩
  ·rintro ⟨j, hj, h⟩
   exact ⟨b.seekers[j], List.mem_iff_getElem.2 ⟨j, by rw [List.length_take]; omega, by simp⟩, by simpa using h⟩
 cases h1 : isNameM b.seekers[i].name
 ·simp
 ·rw [if_neg (by simp)]
  cases h2 : ((b.seekers.take i).any fun o => o.name.toList == b.seekers[i].name.toList)
  ·rw [if_neg (by simp)]
   have h2' : ∀ j, (hj : j < i) → b.seekers[j].name.toList ≠ b.seekers[i].name.toList := fun j hj e => by rw [ha.2 ⟨j, hj, e⟩] at h2; cases h2
   cases h3 : isStepM b b.seekers[i].frm
   ·simp
   ·cases h4 : isStepM b b.seekers[i].til
    ·simp
    ·rw [if_neg (by simp)]
     by_cases h5 : b.seekers[i].says < 0
     ·simp [h5]; omega
     ·by_cases h6 : b.seekers[i].says > 2
      ·simp [h6]; omega
      ·rw [if_neg (by simp; omega)]
       exact ⟨fun _ => ⟨⟨rfl, rfl, rfl, by omega, by omega⟩, h2'⟩, fun _ => rfl⟩
  ·rw [if_pos rfl]
   obtain ⟨j, hj, e⟩ := ha.1 h2
   exact ⟨(fun h => by cases h), fun h => absurd e (h.2 j hj)⟩
theorem heard_ok_iff (b : Bk) : heardM b = 0 ↔ b.seekers.length ≤ 5 ∧ (∀ x ∈ b.seekers, okSay b x) ∧ (b.seekers.map (·.name.toList)).Nodup := by
 unfold heardM
 by_cases hl : b.seekers.length > 5
 ·rw [if_pos hl]; exact ⟨(fun h => by cases h), fun h => by omega⟩
 ·rw [if_neg hl, heardL_iff]
  constructor
  ·intro h
   refine ⟨by omega, fun x hx => ?_, ?_⟩
   ·obtain ⟨i, hi, rfl⟩ := List.mem_iff_getElem.1 hx
    exact ((heard1_iff hi).1 (h i hi)).1
   ·refine List.pairwise_iff_getElem.2 fun i j hi hj hij => ?_
    rw [List.length_map] at hi hj
    rw [List.getElem_map, List.getElem_map]
    exact ((heard1_iff hj).1 (h j hj)).2 i hij
  ·rintro ⟨_, h1, h2⟩ i hi
   refine (heard1_iff hi).2 ⟨h1 _ (List.getElem_mem hi), fun j hj => ?_⟩
   have := List.pairwise_iff_getElem.1 h2 j i (by rw [List.length_map]; omega) (by rw [List.length_map]; omega) hj
   rwa [List.getElem_map, List.getElem_map] at this
theorem looked_ok_iff (b : Bk) : lookedM b = 0 ↔ b.seen.length ≤ 4 ∧ ∀ x ∈ b.seen, isStepM b x.step = true := by
 unfold lookedM
 by_cases hl : b.seen.length > 4
 ·rw [if_pos hl]; exact ⟨(fun h => by cases h), fun h => by omega⟩
 ·rw [if_neg hl]
  cases ha : (b.seen.any fun x => !isStepM b x.step)
  ·rw [if_neg (by decide)]
   refine ⟨fun _ => ⟨by omega, fun x hx => ?_⟩, fun _ => rfl⟩
   have := List.any_eq_false.1 ha x hx
   simpa using this
  ·rw [if_pos rfl]
   obtain ⟨x, hx, h⟩ := List.any_eq_true.1 ha
   exact ⟨(fun h => by cases h), fun h2 => by rw [h2.2 x hx] at h; cases h⟩
theorem numbers_iff (b : Bk) : numbersM b = 0 ↔ 4 ≤ b.steps ∧ b.steps ≤ 16 ∧ 0 ≤ b.wrong ∧ b.wrong ≤ 3 ∧ 0 ≤ b.low ∧ b.low ≤ b.high ∧ b.high ≤ 3 := by
 constructor
 ·intro h; exact numbers_range (by rw [h]; rfl)
 ·intro h
  unfold numbersM
  simp only [cond_eq_if, Bool.or_eq_true, Bool.not_eq_true', Bool.and_eq_false_iff, decide_eq_false_iff_not, decide_eq_true_eq]
  rw [if_neg (by omega)]
theorem check_ok_iff (b : Bk) : checkM b = 0 ↔ (4 ≤ b.steps ∧ b.steps ≤ 16 ∧ 0 ≤ b.wrong ∧ b.wrong ≤ 3 ∧ 0 ≤ b.low ∧ b.low ≤ b.high ∧ b.high ≤ 3) ∧ (b.seekers.length ≤ 5 ∧ (∀ x ∈ b.seekers, okSay b x) ∧ (b.seekers.map (·.name.toList)).Nodup) ∧ b.seen.length ≤ 4 ∧ ∀ x ∈ b.seen, isStepM b x.step = true := by
 rw [check_iff, numbers_iff, heard_ok_iff, looked_ok_iff]
/-- Whether what one says is so. -/
def sayR (b : Bk) (S : List Int) (x : Says) : Bool := saysM x.says (inM b S x.frm (wideM b x))
theorem right_say {b : Bk} {S : List Int} {k : Nat} (hk : k < b.seekers.length) : rightM b S k = sayR b S b.seekers[k] := by
 unfold rightM
 rw [List.getElem?_eq_getElem hk]; rfl
theorem bad_list (b : Bk) (S : List Int) : badM b S b.seekers.length = b.seekers.any fun x => !sayR b S x && x.glass := by
 rw [Bool.eq_iff_iff]
 unfold badM
 simp only [List.any_eq_true, List.mem_range]
 constructor
 ·rintro ⟨k, hk, h⟩
  refine ⟨b.seekers[k], List.getElem_mem hk, ?_⟩
  rw [right_say hk] at h
  unfold glassM at h
  rw [List.getElem?_eq_getElem hk] at h
  exact h
 ·rintro ⟨x, hx, h⟩
  obtain ⟨k, hk, rfl⟩ := List.mem_iff_getElem.1 hx
  refine ⟨k, hk, ?_⟩
  rw [right_say hk]
  unfold glassM
  rw [List.getElem?_eq_getElem hk]
  exact h
theorem list_snoc {α : Type} {motive : List α → Prop} (nil : motive []) (append_singleton : ∀ l a, motive l → motive (l ++ [a])) (l : List α) : motive l := by
 rw [← List.reverse_reverse l]
 generalize l.reverse = r
 induction r with
 | nil => exact nil
 | cons a r ih => rw [List.reverse_cons]; exact append_singleton _ _ ih
theorem range_filter {α : Type} (g : Option α → Bool) (l : List α) : ((List.range l.length).filter fun k => g l[k]?).length = (l.filter fun x => g (some x)).length := by
 induction l using list_snoc with
 | nil => rfl
 | append_singleton l a ih =>
  rw [List.length_append, List.length_singleton, List.range_succ, List.filter_append, List.filter_append, List.length_append, List.length_append, ← ih]
  congr 1
  ·congr 1
   exact List.filter_congr fun k hk => by rw [List.getElem?_append_left (List.mem_range.1 hk)]
  ·simp [List.filter_cons]
   split <;> rfl
theorem wrong_list (b : Bk) (S : List Int) : wrongL b S b.seekers.length = (b.seekers.filter fun x => !sayR b S x).length := by
 have h := range_filter (fun o : Option Says => !(match o with | some x => saysM x.says (inM b S x.frm (wideM b x)) | none => false)) b.seekers
 exact h
theorem seen_list (b : Bk) (S : List Int) : seenM b S = true ↔ (b.low ≤ S.length ∧ (S.length : Int) ≤ b.high) ∧ ∀ x ∈ b.seen, decide (x.step ∈ S) = x.seam := by
 unfold seenM
 simp only [Bool.and_eq_true, decide_eq_true_eq, Bool.not_eq_true', List.any_eq_false, bne_iff_ne, ne_eq, Decidable.not_not]
/-! ### a book whose lists are the other way round -/
def revB (b : Bk) : Bk := { b with seekers := b.seekers.reverse, seen := b.seen.reverse }
theorem rev_check {b : Bk} (h : checkM b = 0) : checkM (revB b) = 0 := by
 obtain ⟨h1, ⟨h2, h3, h4⟩, h5, h6⟩ := (check_ok_iff b).1 h
 refine (check_ok_iff _).2 ⟨h1, ⟨?_, fun x hx => h3 x (List.mem_reverse.1 hx), ?_⟩, ?_, fun x hx => h6 x (List.mem_reverse.1 hx)⟩
 ·show b.seekers.reverse.length ≤ 5
  rw [List.length_reverse]; exact h2
 ·show (b.seekers.reverse.map _).Nodup
  rw [List.map_reverse]
  exact (List.reverse_perm _).nodup_iff.2 h4
 ·show b.seen.reverse.length ≤ 4
  rw [List.length_reverse]; exact h5
theorem rev_say (b : Bk) (S : List Int) (x : Says) : sayR (revB b) S x = sayR b S x := rfl
theorem rev_bad (b : Bk) (S : List Int) : badM (revB b) S (revB b).seekers.length = badM b S b.seekers.length := by
 rw [bad_list, bad_list]
 show (b.seekers.reverse.any fun x => !sayR b S x && x.glass) = _
 rw [List.any_reverse]
theorem rev_wrong (b : Bk) (S : List Int) : wrongL (revB b) S (revB b).seekers.length = wrongL b S b.seekers.length := by
 rw [wrong_list, wrong_list]
 show (b.seekers.reverse.filter fun x => !sayR b S x).length = _
 rw [List.filter_reverse, List.length_reverse]
theorem rev_seen (b : Bk) (S : List Int) : seenM (revB b) S = seenM b S := by
 rw [Bool.eq_iff_iff, seen_list, seen_list]
 show (b.low ≤ (S.length : Int) ∧ (S.length : Int) ≤ b.high) ∧ (∀ x ∈ b.seen.reverse, decide (x.step ∈ S) = x.seam) ↔ _
 simp only [List.mem_reverse]
theorem rev_can (b : Bk) (S : List Int) : canM (revB b) S = canM b S := by
 rw [Bool.eq_iff_iff, can_iff, can_iff, rev_bad, rev_wrong, rev_seen]; rfl
theorem rev_states {b : Bk} (h : checkM b = 0) : (statesM (revB b)).Perm (statesM b) := by
 refine (List.perm_ext_iff_of_nodup (states_nodup _) (states_nodup _)).2 fun S => ?_
 rw [mem_states (bkOk_of (rev_check h)), mem_states (bkOk_of h), rev_can]; rfl
theorem rev_guess {b : Bk} (h : checkM b = 0) (y : List Int × Int) : y ∈ guessM (revB b) (allM (revB b)) ↔ y ∈ guessM b (allM b) := by
 unfold guessM
 simp only [List.mem_map, List.mem_filter, all_sets (bkOk_of (rev_check h)), all_sets (bkOk_of h), rev_seen, rev_bad]
 have hw : ∀ S, wrongM (revB b) S = wrongM b S := fun S => by unfold wrongM; rw [rev_bad, rev_wrong]
 simp only [hw]
 exact Iff.rfl
theorem rev_likely {b : Bk} (h : checkM b = 0) : likelyM (revB b) = likelyM b ∧ (guessM (revB b) (allM (revB b)) = [] ↔ guessM b (allM b) = []) := by
 refine ⟨tot_guess.minL_same (rev_guess h), ?_⟩
 rw [List.eq_nil_iff_forall_not_mem, List.eq_nil_iff_forall_not_mem]
 exact ⟨fun h2 y hy => h2 y ((rev_guess h y).2 hy), fun h2 y hy => h2 y ((rev_guess h y).1 hy)⟩
theorem rev_within {b : Bk} (h : checkM b = 0) (lo w : Int) : withinM (revB b) (statesM (revB b)) lo w = withinM b (statesM b) lo w := withinM_perm (rev_states h) lo w
theorem rev_oft {b : Bk} (h : checkM b = 0) (n : Int) : oftM (statesM (revB b)) n = oftM (statesM b) n := oftM_perm (rev_states h) n
theorem rev_len {b : Bk} (h : checkM b = 0) : (statesM (revB b)).length = (statesM b).length := (rev_states h).length_eq
theorem rev_ask {b : Bk} (h : checkM b = 0) (t : Bool) : askM (revB b) t = askM b t := by
 unfold askM
 rw [h, rev_check h]
 have : statesM (revB b) = [] ↔ statesM b = [] := by rw [← List.length_eq_zero_iff, ← List.length_eq_zero_iff, rev_len h]
 simp only [this]
theorem rev_narrow {b : Bk} (h : checkM b = 0) : narrowApi (revB b) = narrowApi b := by
 have e : arcsOf (revB b) (List.range (revB b).steps.toNat) = arcsOf b (List.range b.steps.toNat) := by
  unfold arcsOf
  congr 1
  funext low
  unfold arcA arcK
  rw [show (revB b).steps = b.steps from rfl]
  simp only [rev_within h]
 unfold narrowApi narrowM
 rw [e, rev_ask h]
theorem rev_pick {b : Bk} (h : checkM b = 0) (v : Int) (n : Nat) : pickL (revB b) v n = pickL b v n := by
 unfold pickL
 simp only [rev_oft h, rev_len h]
theorem rev_right {b : Bk} {S : List Int} {k : Nat} (hk : k < b.seekers.length) : rightM (revB b) S (b.seekers.length - 1 - k) = rightM b S k := by
 rw [right_say (b := revB b) (by show _ < b.seekers.reverse.length; rw [List.length_reverse]; omega), right_say hk, rev_say]
 congr 1
 show b.seekers.reverse[b.seekers.length - 1 - k]'_ = _
 rw [List.getElem_reverse]
 congr 1
 omega
theorem rev_rights {b : Bk} (h : checkM b = 0) {k : Nat} (hk : k < b.seekers.length) : rightsM (revB b) (statesM (revB b)) (b.seekers.length - 1 - k) = rightsM b (statesM b) k := by
 rw [rightsM_perm (rev_states h)]
 unfold rightsM
 congr 2
 exact List.filter_congr fun S _ => rev_right hk
theorem rev_halves {b : Bk} (h : checkM b = 0) : askApi (revB b) = askApi b := by
 have e : ∀ N, halvesM ((statesM (revB b)).length : Nat) (fun k => isStepM (revB b) k) (fun k => oftM (statesM (revB b)) k) N = halvesM ((statesM b).length : Nat) (fun k => isStepM b k) (fun k => oftM (statesM b) k) N := fun N => by
  rw [rev_len h, show (fun k : Nat => oftM (statesM (revB b)) k) = fun k : Nat => oftM (statesM b) k from funext fun k => rev_oft h k]; rfl
 unfold askApi
 rw [rev_ask h, e, show (revB b).steps = b.steps from rfl]
end Go.Vel
end
section
set_option linter.all false
set_option maxRecDepth 20000
set_option maxHeartbeats 60000000
namespace Go.Vel
open Go Go.Conc Go.Proofs
theorem fit_ok {main : Bool} {T : Goroutine → Hp → Prop} (hT : Shut Tryz.prog main T) {gm : Nat → Option Nat} {b : Bk} {s e : Nat} (hse : s ≠ e) :
  CallK Tryz.prog T gm 11 [.agg (bookC b s e)] [(s, saysO b), (e, seenO b)] (fun r K' => r = boolA (fitM b) ∧ K' = [(s, saysO b), (e, seenO b)]) := by
 refine callK_in 11 hT Tryz.func11 fun Y hret => ?_
 refine au [4, 5, 21] ?_
 intro jb hjb
 refine au [2, 3, 4, 5, 8] ?_
 refine TK.cl rfl rfl rfl rfl (great_ok hT (s := s) (e := e)) ?_
 rintro r1 K2 ⟨rfl, rfl⟩
 refine au [30, 1] ?_
 refine TK.sp 6 (fun g1_4 => ?_) (fun g1_4 => ?_)
 ·obtain ⟨hs1, hs2, hs3⟩ := great_small (b := b) (by simpa using g1_4)
  refine au [8] ?_
  refine TK.cl rfl rfl rfl rfl (checkR_ok hT hse (fun x hx => Nat.le_trans (hs3 x hx) (by omega)) (by omega) (by omega)) ?_
  rintro r4 K5 ⟨rfl, rfl⟩
  refine au [6, 26, 2, 3] ?_
  refine TK.rt hret [(s, _), (e, _)] ?_
  exact ⟨by unfold fitM; rw [g1_4, Bool.true_and]; rfl, rfl⟩
 refine au [11, 11, 11, 25, 2, 3] ?_
 refine TK.rt hret [(s, _), (e, _)] ?_
 exact ⟨by unfold fitM; rw [g1_4, Bool.false_and]; rfl, rfl⟩

theorem leaves_ok {main : Bool} {T : Goroutine → Hp → Prop} (hT : Shut Tryz.prog main T)  {b : Bk} {s e : Nat} (hse : s ≠ e) (hf : Fits9 b) (hroom : b.seen.length < 4) {i : Nat} (hi : (i : Int) < b.steps) :
  CallK Tryz.prog T gmS 27 [.agg (bookC b s e), intA i] [(0, checksG), (1, saysG), (s, saysO b), (e, seenO b)] (fun r K' => r = .tup [intA (maxM (oftM (statesM b) i) ((statesM b).length - oftM (statesM b) i)), boolA true] ∧ K' = [(0, checksG), (1, saysG), (s, saysO b), (e, seenO b)]) := by
 refine callK_in 35 hT Tryz.func27 fun Y hret => ?_
 refine au [] ?_
 have hck := hf.check
 have hb := bkOk_of hck
 have hst : isStepM b i = true := by unfold isStepM; simp only [Bool.and_eq_true, decide_eq_true_eq]; omega
 have hc1 := check_look (x := ⟨i, true⟩) hck hst hroom
 have hc2 := check_look (x := ⟨i, false⟩) hck hst hroom
 have hm1 := many_look hb (bkOk_of hc1)
 have hm2 := many_look hb (bkOk_of hc2)
 rw [if_pos rfl] at hm1
 rw [if_neg (by decide)] at hm2
 have hs1 := states_one hc1
 have hs2 := states_one hc2
 refine au [4, 5, 21] ?_
 intro jb hjb
 refine au [2, 2, 3, 4, 5, 8, 1, 39] ?_
 refine TK.cl rfl rfl rfl rfl (lookedR_ok hT (x := ⟨i, true⟩) hf.seen) ?_
 rintro r1 K2 ⟨j3, rfl, rfl⟩
 refine au [] ?_
 refine TK.nd fun hnd => ?_
 have hjj : s ≠ j3 := fun h => by subst h; simp [keys] at hnd
 refine TK.cl rfl rfl rfl rfl (statesApi_ok hT (b := lookB b ⟨i, true⟩) hjj hf.names (by simp [lookB]; omega)) ?_
 rintro r4 K5 ⟨rfl, rfl⟩
 refine au [] ?_
 rw [hs1.1, hs1.2, hm1]
 refine au [1, 10, 10, 2, 2, 3, 4] ?_
 refine TK.kp [(jb, _), (0, _), (1, _), (s, _), (e, _)] ?_
 refine au [5, 8, 1, 39] ?_
 refine TK.cl rfl rfl rfl rfl (lookedR_ok hT (x := ⟨i, false⟩) hf.seen) ?_
 rintro r7 K8 ⟨j4, rfl, rfl⟩
 refine au [] ?_
 refine TK.nd fun hnd => ?_
 have hjj2 : s ≠ j4 := fun h => by subst h; simp [keys] at hnd
 refine TK.cl rfl rfl rfl rfl (statesApi_ok hT (b := lookB b ⟨i, false⟩) hjj2 hf.names (by simp [lookB]; omega)) ?_
 rintro r10 K11 ⟨rfl, rfl⟩
 refine au [] ?_
 rw [hs2.1, hs2.2, hm2]
 refine au [1, 10, 10, 2, 2, 3, 4, 5, 1, 1] ?_
 refine TK.a rfl (q_max rfl rfl rfl) ?_
 refine au [1, 6, 1] ?_
 refine TK.sp 31 (fun g3_6 => ?_) (fun g3_6 => ?_)
 ·refine au [1, 6, 26, 2, 2, 3] ?_
  refine TK.rt hret [(0, _), (1, _), (s, _), (e, _)] ?_
  exact ⟨rfl, rfl⟩
 simp at g3_6
end Go.Vel
end
section
set_option linter.all false
set_option maxRecDepth 20000
set_option maxHeartbeats 60000000
namespace Go.Vel
open Go Go.Conc Go.Proofs
instance : Cal Tryz.prog 13 := ⟨by kernel_rfl⟩
instance : Cal Tryz.prog 18 := ⟨by kernel_rfl⟩
instance {a0 a1 a2 a3 a4 a5 a6 a7 a8 a9 a10 a11 a12 a13 a14 a15 a16 a17 a18 a19 a20 a21 a22 a23 a24 a25 a26 a27 a28 a29 a30 : Oper} : RgL #[a0, a1, a2, a3, a4, a5, a6, a7, a8, a9, a10, a11, a12, a13, a14, a15, a16, a17, a18, a19, a20, a21, a22, a23, a24, a25, a26, a27, a28, a29, a30] [0, 1, 2, 3, 4, 5, 6, 7, 8, 9, 10, 11, 12, 13, 14, 15, 16, 17, 18, 19, 20, 21, 22, 23, 24, 25, 26, 27, 28, 29, 30] := ⟨rfl⟩
end Go.Vel
end
section
set_option linter.all false
set_option maxRecDepth 20000
set_option maxHeartbeats 60000000
namespace Go.Vel
open Go Go.Conc Go.Proofs

/-- The book that allows more. -/
def moreB (b : Bk) (k1 k2 : Int) : Bk := { b with wrong := if b.wrong + k1 % 4 < 3 then b.wrong + k1 % 4 else 3, low := if 0 < b.low - k2 % 2 then b.low - k2 % 2 else 0, high := if b.high + k2 / 2 % 2 < 3 then b.high + k2 / 2 % 2 else 3 }
theorem more_wider {b : Bk} (hc : checkM b = 0) (k1 k2 : Int) : Wider b (moreB b k1 k2) := by
 obtain ⟨h1, h2, h3, h4, h5, h6, h7⟩ := (numbers_iff b).1 ((check_iff b).1 hc).1
 have e1 := Int.emod_nonneg k1 (show (4 : Int) ≠ 0 by decide)
 have e2 := Int.emod_nonneg k2 (show (2 : Int) ≠ 0 by decide)
 have e3 := Int.emod_nonneg (k2 / 2) (show (2 : Int) ≠ 0 by decide)
 refine ⟨rfl, rfl, rfl, ?_, ?_, ?_⟩
 ·show b.wrong ≤ (if b.wrong + k1 % 4 < 3 then b.wrong + k1 % 4 else 3) ∧ (if b.wrong + k1 % 4 < 3 then b.wrong + k1 % 4 else 3) ≤ 3
  split <;> omega
 ·show 0 ≤ (if 0 < b.low - k2 % 2 then b.low - k2 % 2 else 0) ∧ (if 0 < b.low - k2 % 2 then b.low - k2 % 2 else 0) ≤ b.low
  split <;> omega
 ·show b.high ≤ (if b.high + k2 / 2 % 2 < 3 then b.high + k2 / 2 % 2 else 3) ∧ (if b.high + k2 / 2 % 2 < 3 then b.high + k2 / 2 % 2 else 3) ≤ 3
  split <;> omega
theorem who_is {b : Bk} (k : Int) : whoM b k = -1 ∨ ∃ q : Nat, whoM b k = q ∧ q < b.seekers.length := by
 unfold whoM
 split
 ·exact .inl rfl
 ·rename_i h
  have h1 := Int.emod_nonneg k (show (b.seekers.length : Int) ≠ 0 from h)
  have h2 := Int.emod_lt_of_pos k (show 0 < (b.seekers.length : Int) by omega)
  exact .inr ⟨(k % b.seekers.length).toNat, by omega, by omega⟩
theorem lawMore_top {R : Value → World → Prop} {b : Bk} {s e : Nat} {k1 k2 k3 k4 k5 : Int} (hse : s ≠ e) (hk1 : 0 ≤ k1 ∧ k1 < 256) (hk2 : 0 ≤ k2 ∧ k2 < 256) (hk3 : 0 ≤ k3 ∧ k3 < 256) (hk4 : 0 ≤ k4 ∧ k4 < 256) (hk5 : 0 ≤ k5 ∧ k5 < 256) {A : List AObj} {φ : Nat → Loc3} {F H : Hp} {vs : Array Value} (hv : View [(0, checksG), (1, saysG), (s, saysO b), (e, seenO b)] A) (hn0 : (keys [(0, checksG), (1, saysG), (s, saysO b), (e, seenO b)]).Nodup) (hg : RelG gmS φ A.length) (hH : RelH φ A F H) (hargs : RelL φ A.length [.agg (bookC b s e), .v (.int .u8 k1), .v (.int .u8 k2), .v (.int .u8 k3), .v (.int .u8 k4), .v (.int .u8 k5)] vs)
  (hR : ∀ r K' φ' A' H' v w, (fun r K' => r = boolA true ∧ K' = [(0, checksG), (1, saysG), (s, saysO b), (e, seenO b)]) r K' → RelH φ' A' F H' → RelV φ' A'.length r v → Fits H' w → R v w) : BT Tryz.prog (AtRet Tryz.prog 6 R) (G (Frame.enter Tryz.prog 6 vs .normal) []) H := by
 have hT := shut_BT tame (AtRet Tryz.prog 6 R)
 refine topK_in 137 tame (Post := fun r K' => r = boolA true ∧ K' = [(0, checksG), (1, saysG), (s, saysO b), (e, seenO b)]) Tryz.func6 hv hn0 hg hH hargs hR fun Y hret => ?_
 refine au [4, 5, 21] ?_
 intro jb hjb
 refine au [2, 3, 4, 4, 5, 8] ?_
 refine TK.cl rfl rfl rfl rfl (fit_ok hT hse) ?_
 rintro r1 K2 ⟨rfl, rfl⟩
 refine au [30, 3, 20] ?_
 refine ⟨fun hc0 => ?_, fun hc0 => ?_⟩
 ·refine au [4, 5] ?_
  refine TK.cl rfl rfl rfl rfl (sought_ok tame) ?_
  rintro r4 K5 ⟨rfl, rfl⟩
  refine au [2, 3] ?_
  refine TK.rt hret [(0, _), (1, _), (s, _), (e, _)] ?_
  exact ⟨rfl, rfl⟩
 have hf := fit_of (b := b) (by simpa using hc0)
 have hck := hf.check
 have hb := bkOk_of hck
 have hst := hb.steps
 have hns := hb.ns
 obtain ⟨u1, u2, u3, u4, u5, u6, u7⟩ := (numbers_iff b).1 ((check_iff b).1 hck).1
 have hw := more_wider hck k1 k2
 have hco := hw.checkM hck
 have hs1 := states_one hck
 have hs2 := states_one hco
 have hmany := hw.many hck
 have m3 := Int.emod_nonneg k3 (show b.steps ≠ 0 by omega)
 have m3' := Int.emod_lt_of_pos k3 (show 0 < b.steps by omega)
 have m4 := Int.emod_nonneg k4 (show b.steps ≠ 0 by omega)
 have m4' := Int.emod_lt_of_pos k4 (show 0 < b.steps by omega)
 have e1 := Int.emod_nonneg k1 (show (4 : Int) ≠ 0 by decide)
 have e1' := Int.emod_lt_of_pos k1 (show (0 : Int) < 4 by decide)
 have e2 := Int.emod_nonneg k2 (show (2 : Int) ≠ 0 by decide)
 have e2' := Int.emod_lt_of_pos k2 (show (0 : Int) < 2 by decide)
 have e3 := Int.emod_nonneg (k2 / 2) (show (2 : Int) ≠ 0 by decide)
 have e3' := Int.emod_lt_of_pos (k2 / 2) (show (0 : Int) < 2 by decide)
 refine au [12, 4, 5, 8, 22] ?_
 intro jo hjo
 refine au [17, 3, 4, 5, 7, 9, 1] ?_
 refine TK.a rfl (q_convInt rfl rfl Und.h Und.h (wrap_i64 (by omega))) ?_
 refine TK.a rfl (q_rem rfl rfl rfl (by omega) (by omega)) ?_
 refine au [23] ?_
 refine TK.a rfl (q_min rfl rfl rfl) ?_
 refine au [7, 17, 3, 4, 5, 7, 7, 9, 1] ?_
 refine TK.a rfl (q_convInt rfl rfl Und.h Und.h (wrap_i64 (by omega))) ?_
 refine TK.a rfl (q_rem rfl rfl rfl (by omega) (by omega)) ?_
 refine au [24] ?_
 refine TK.a rfl (q_max rfl rfl rfl) ?_
 refine au [7, 7, 9, 1] ?_
 refine TK.a rfl (q_convInt rfl rfl Und.h Und.h (wrap_i64 (by omega))) ?_
 refine TK.a rfl (q_quo rfl rfl rfl (by omega) (by omega) (by omega)) ?_
 refine TK.a rfl (q_rem rfl rfl rfl (by omega) (by omega)) ?_
 refine au [23] ?_
 refine TK.a rfl (q_min rfl rfl rfl) ?_
 refine TK.cl rfl rfl rfl rfl (to_ok hT) ?_
 rintro r7 K8 ⟨rfl, rfl⟩
 refine au [7, 17, 3, 4, 5, 8] ?_
 refine TK.cl rfl rfl rfl rfl (statesApi_ok hT hse hf.names hf.seen) ?_
 rintro r10 K11 ⟨rfl, rfl⟩
 refine au [] ?_
 rw [hs1.1, hs1.2]
 refine au [1, 10, 10, 2, 2, 3, 4, 5, 8] ?_
 refine TK.cl rfl rfl rfl rfl (statesApi_ok hT (b := (moreB b k1 k2)) hse hf.names hf.seen) ?_
 rintro r13 K14 ⟨rfl, rfl⟩
 refine au [] ?_
 rw [hs2.1, hs2.2]
 refine au [1, 10, 10, 2, 2, 3, 4, 5, 8] ?_
 refine TK.cl rfl rfl rfl rfl (likely_ok hT hse hf.names hf.seen) ?_
 rintro r16 K17 h18
 rcases h18 with ⟨hb0, rfl, rfl⟩ | ⟨hb0, hg0, rfl, rfl⟩ | ⟨hb0, hg0, j1, rfl, rfl⟩
 ·refine au [] ?_
  exact absurd hck hb0
 ·refine au [1, 10, 10, 10, 10, 2, 2, 2, 2, 3, 4, 5, 8] ?_
  refine TK.cl rfl rfl rfl rfl (likely_ok hT (b := (moreB b k1 k2)) hse hf.names hf.seen) ?_
  rintro r19 K20 h21
  rcases h21 with ⟨hb1, rfl, rfl⟩ | ⟨hb1, hg1, rfl, rfl⟩ | ⟨hb1, hg1, j2, rfl, rfl⟩
  ·refine au [] ?_
   exact absurd hco hb1
  ·refine au [] ?_
   skip
   refine au [1, 10, 10, 10, 10, 2, 2, 2, 2, 3, 4, 4, 5, 1, 6, 1] ?_
   refine TK.sp 84 (fun g10_3 => ?_) (fun g10_3 => ?_)
   ·simp at g10_3
   refine au [1, 6, 25, 1] ?_
   refine TK.sp 88 (fun g10_7 => ?_) (fun g10_7 => ?_)
   ·simp at g10_7
   refine au [1, 6, 25, 1] ?_
   refine TK.sp 92 (fun g10_11 => ?_) (fun g10_11 => ?_)
   ·simp at g10_11
   refine au [1, 6, 25, 1] ?_
   refine TK.sp 96 (fun g10_15 => ?_) (fun g10_15 => ?_)
   ·simp at g10_15
   refine au [1, 1, 6, 25, 1] ?_
   refine TK.sp 101 (fun g10_20 => ?_) (fun g10_20 => ?_)
   ·have := of_decide_eq_true g10_20
    omega
   refine au [1, 1] ?_
   refine TK.sp 103 (fun g10_22 => ?_) (fun g10_22 => ?_)
   ·cases g10_22
   skip
   refine au [11, 11, 11, 11, 11, 11, 11, 25, 25, 3, 19, 12, 4] ?_
   refine TK.draw [0, 1, 2, 3, 4, 5, 6, 7, 8, 9, 10, 11, 12, 13, 14, 15, 16, 17, 18, 19, 20, 21, 22, 23, 24] [0, 1, 2, 3, 4, 5, 6, 7, 8, 9, 10, 11, 12, 13, 14, 15, 16, 17, 18, 19, 20, 21, 22, 23, 24] (by kernel_rfl) (by kernel_rfl) ?_
   refine TD.z [14] rfl (q_move rfl rfl) ?_
   refine TD.z [113] rfl (q_cmp rfl rfl rfl rfl) ?_
   refine TD.z [114] rfl (q_move rfl rfl) ?_
   refine TD.sp 115 (fun g12_3 => ?_) (fun g12_3 => ?_)
   ·refine TD.u [13, 115] rfl ?_
    refine TD.u [6, 115] rfl ?_
    refine TD.u [3, 115] rfl ?_
    refine TD.u [115, 118] rfl ?_
    refine TD.u [6, 115] rfl ?_
    refine TD.u [115, 120] rfl ?_
    refine TD.u [115, 119, 121] rfl ?_
    refine TD.u [4, 115] rfl ?_
    refine TD.u [115, 123] rfl ?_
    refine TD.u [6, 115] rfl ?_
    refine TD.u [115, 125] rfl ?_
    refine TD.u [115, 124, 126] rfl ?_
    refine TD.u [115, 127] rfl ?_
    refine TD.u [6, 115] rfl ?_
    refine TD.u [5, 115] rfl ?_
    refine TD.u [115, 129, 130] rfl ?_
    refine TD.u [115, 116, 117, 122, 128, 131] rfl ?_
    refine TD.z [115, 132] rfl (q_pickT rfl rfl rfl) ?_
    refine TD.z [133] rfl (q_move rfl rfl) ?_
    refine TD.cl (pend' := [⟨20, [115, 132], []⟩, ⟨19, [115, 116, 117, 122, 128, 131], []⟩, ⟨18, [115, 129, 130], []⟩, ⟨17, [5, 115], []⟩, ⟨16, [6, 115], []⟩, ⟨15, [115, 127], []⟩, ⟨14, [115, 124, 126], []⟩, ⟨13, [115, 125], []⟩, ⟨12, [6, 115], []⟩, ⟨11, [115, 123], []⟩, ⟨10, [4, 115], []⟩, ⟨9, [115, 119, 121], []⟩, ⟨8, [115, 120], []⟩, ⟨7, [6, 115], []⟩, ⟨6, [115, 118], []⟩, ⟨5, [3, 115], []⟩, ⟨4, [6, 115], []⟩, ⟨3, [13, 115], []⟩, ⟨2, [114], []⟩, ⟨1, [113], []⟩, ⟨0, [14], []⟩]) [134] rfl rfl rfl rfl rfl (sought_ok tame) (fun r22 K23 h24 => ⟨?_, ?_⟩)
    ·rcases h24 with ⟨rfl, rfl⟩
     all_goals simp
    obtain ⟨rfl, rfl⟩ := h24
    try simp only [List.cons_append, List.nil_append]
    refine TD.norm (by simp only [List.set]; rfl) ?_
    refine TD.z [134, 135] rfl (q_pickT rfl rfl rfl) ?_
    refine TD.as (pend' := []) [136] rfl rfl (q_assign rfl rfl) ?_
    refine TD.fin ?_
    refine au [] ?_
    refine TK.rt hret [(0, _), (1, _), (s, _), (e, _)] ?_
    exact ⟨rfl, rfl⟩
   have hne : statesM b ≠ [] := fun h => by rw [h] at g12_3; cases g12_3
   refine TD.y [13, 115] rfl (hq := q_load rfl rfl TySz.h (List.Mem.head _) rfl) (h := ?_)
   refine TD.y [6, 115] rfl (hq := q_load rfl rfl TySz.h (List.Mem.head _) rfl) (h := ?_)
   refine TD.z [3, 115] rfl (q_move rfl rfl) ?_
   refine TD.z [115, 118] rfl (q_convInt rfl rfl Und.h Und.h (wrap_i64 (by omega))) ?_
   refine TD.z [6, 115] rfl (q_fieldAddr rfl rfl FldOf.h (by decide)) ?_
   refine TD.y [115, 120] rfl (hq := q_load1 rfl rfl TySz.h (List.Mem.head _) rfl) (h := ?_)
   refine TD.z [115, 119, 121] rfl (q_rem rfl rfl rfl (by omega) (by omega)) ?_
   refine TD.z [4, 115] rfl (q_move rfl rfl) ?_
   refine TD.z [115, 123] rfl (q_convInt rfl rfl Und.h Und.h (wrap_i64 (by omega))) ?_
   refine TD.z [6, 115] rfl (q_fieldAddr rfl rfl FldOf.h (by decide)) ?_
   refine TD.y [115, 125] rfl (hq := q_load1 rfl rfl TySz.h (List.Mem.head _) rfl) (h := ?_)
   refine TD.z [115, 124, 126] rfl (q_rem rfl rfl rfl (by omega) (by omega)) ?_
   refine TD.z [115, 127] rfl (q_add rfl rfl rfl (by omega)) ?_
   refine TD.y [6, 115] rfl (hq := q_load rfl rfl TySz.h (List.Mem.head _) rfl) (h := ?_)
   refine TD.z [5, 115] rfl (q_move rfl rfl) ?_
   refine TD.cl (pend' := [⟨15, [115, 127], []⟩, ⟨14, [115, 124, 126], []⟩, ⟨13, [115, 125], [(_, _)]⟩, ⟨12, [6, 115], []⟩, ⟨11, [115, 123], []⟩, ⟨10, [4, 115], []⟩, ⟨9, [115, 119, 121], []⟩, ⟨8, [115, 120], [(_, _)]⟩, ⟨7, [6, 115], []⟩, ⟨6, [115, 118], []⟩, ⟨5, [3, 115], []⟩, ⟨4, [6, 115], [(_, _)]⟩, ⟨3, [13, 115], [(_, _)]⟩, ⟨1, [113], []⟩, ⟨0, [14], []⟩]) [115, 129, 130] rfl rfl rfl rfl rfl (who_ok hT hk5 hf.says) (fun r25 K26 h27 => ⟨?_, ?_⟩)
   ·rcases h27 with ⟨rfl, rfl⟩
    all_goals simp
   obtain ⟨rfl, rfl⟩ := h27
   try simp only [List.cons_append, List.nil_append]
   refine TD.norm (by simp only [List.set]; rfl) ?_
   refine TD.cl (pend' := [⟨14, [115, 124, 126], []⟩, ⟨13, [115, 125], [(_, _)]⟩, ⟨12, [6, 115], []⟩, ⟨11, [115, 123], []⟩, ⟨10, [4, 115], []⟩, ⟨8, [115, 120], [(_, _)]⟩, ⟨7, [6, 115], []⟩, ⟨6, [115, 118], []⟩, ⟨5, [3, 115], []⟩, ⟨1, [113], []⟩, ⟨0, [14], []⟩]) [115, 116, 117, 122, 128, 131] rfl rfl rfl rfl rfl (betterS_ok tame (was := (moreB b k1 k2)) (now := b) (lo := k3 % b.steps) (w := 1 + k4 % b.steps) (wh := whoM b k5) (hw.less hck hne) hco hck hse hf.names hf.names hf.seen hf.seen ⟨m3, m3'⟩ ⟨by omega, by show _ ≤ b.steps; omega⟩ ((who_is k5).imp id fun ⟨q, h1, h2⟩ => ⟨q, h1, h2, h2, fun S _ => (hw.rightM S q).symm⟩) rfl rfl) (fun r28 K29 h30 => ⟨?_, ?_⟩)
   ·rcases h30 with ⟨rfl, rfl⟩
    all_goals simp
   obtain ⟨rfl, rfl⟩ := h30
   try simp only [List.cons_append, List.nil_append]
   refine TD.norm (by simp only [List.set]; rfl) ?_
   refine TD.z [115, 132] rfl (q_pickF rfl rfl rfl) ?_
   refine TD.z [133] rfl (q_move rfl rfl) ?_
   refine TD.sp 134 (fun g12_22 => ?_) (fun g12_22 => ?_)
   ·refine TD.cl (pend' := [⟨20, [115, 132], []⟩, ⟨14, [115, 124, 126], []⟩, ⟨13, [115, 125], [(_, _)]⟩, ⟨12, [6, 115], []⟩, ⟨11, [115, 123], []⟩, ⟨10, [4, 115], []⟩, ⟨8, [115, 120], [(_, _)]⟩, ⟨7, [6, 115], []⟩, ⟨6, [115, 118], []⟩, ⟨5, [3, 115], []⟩, ⟨1, [113], []⟩, ⟨0, [14], []⟩]) [134] rfl rfl rfl rfl rfl (sought_ok tame) (fun r31 K32 h33 => ⟨?_, ?_⟩)
    ·rcases h33 with ⟨rfl, rfl⟩
     all_goals simp
    obtain ⟨rfl, rfl⟩ := h33
    try simp only [List.cons_append, List.nil_append]
    refine TD.norm (by simp only [List.set]; rfl) ?_
    refine TD.z [134, 135] rfl (q_pickT rfl rfl rfl) ?_
    refine TD.as (pend' := []) [136] rfl rfl (q_assign rfl rfl) ?_
    refine TD.fin ?_
    refine au [] ?_
    refine TK.rt hret [(0, _), (1, _), (s, _), (e, _)] ?_
    exact ⟨rfl, rfl⟩
   cases g12_22
  ·refine au [1, 10, 10, 10, 10, 2, 2, 2, 2, 3, 4, 4, 5, 1, 6, 1] ?_
   refine TK.sp 84 (fun g10_3 => ?_) (fun g10_3 => ?_)
   ·simp at g10_3
   refine au [1, 6, 25, 1] ?_
   refine TK.sp 88 (fun g10_7 => ?_) (fun g10_7 => ?_)
   ·simp at g10_7
   refine au [1, 6, 25, 1] ?_
   refine TK.sp 92 (fun g10_11 => ?_) (fun g10_11 => ?_)
   ·simp at g10_11
   refine au [1, 6, 25, 1] ?_
   refine TK.sp 96 (fun g10_15 => ?_) (fun g10_15 => ?_)
   ·simp at g10_15
   refine au [1, 1, 6, 25, 1] ?_
   refine TK.sp 101 (fun g10_20 => ?_) (fun g10_20 => ?_)
   ·have := of_decide_eq_true g10_20
    omega
   refine au [1, 1] ?_
   refine TK.sp 103 (fun g10_22 => ?_) (fun g10_22 => ?_)
   ·cases g10_22
   skip
   refine au [11, 11, 11, 11, 11, 11, 11, 25, 25, 3, 19, 12, 4] ?_
   refine TK.draw [0, 1, 2, 3, 4, 5, 6, 7, 8, 9, 10, 11, 12, 13, 14, 15, 16, 17, 18, 19, 20, 21, 22, 23, 24] [0, 1, 2, 3, 4, 5, 6, 7, 8, 9, 10, 11, 12, 13, 14, 15, 16, 17, 18, 19, 20, 21, 22, 23, 24] (by kernel_rfl) (by kernel_rfl) ?_
   refine TD.z [14] rfl (q_move rfl rfl) ?_
   refine TD.z [113] rfl (q_cmp rfl rfl rfl rfl) ?_
   refine TD.z [114] rfl (q_move rfl rfl) ?_
   refine TD.sp 115 (fun g12_3 => ?_) (fun g12_3 => ?_)
   ·refine TD.u [13, 115] rfl ?_
    refine TD.u [6, 115] rfl ?_
    refine TD.u [3, 115] rfl ?_
    refine TD.u [115, 118] rfl ?_
    refine TD.u [6, 115] rfl ?_
    refine TD.u [115, 120] rfl ?_
    refine TD.u [115, 119, 121] rfl ?_
    refine TD.u [4, 115] rfl ?_
    refine TD.u [115, 123] rfl ?_
    refine TD.u [6, 115] rfl ?_
    refine TD.u [115, 125] rfl ?_
    refine TD.u [115, 124, 126] rfl ?_
    refine TD.u [115, 127] rfl ?_
    refine TD.u [6, 115] rfl ?_
    refine TD.u [5, 115] rfl ?_
    refine TD.u [115, 129, 130] rfl ?_
    refine TD.u [115, 116, 117, 122, 128, 131] rfl ?_
    refine TD.z [115, 132] rfl (q_pickT rfl rfl rfl) ?_
    refine TD.z [133] rfl (q_move rfl rfl) ?_
    refine TD.cl (pend' := [⟨20, [115, 132], []⟩, ⟨19, [115, 116, 117, 122, 128, 131], []⟩, ⟨18, [115, 129, 130], []⟩, ⟨17, [5, 115], []⟩, ⟨16, [6, 115], []⟩, ⟨15, [115, 127], []⟩, ⟨14, [115, 124, 126], []⟩, ⟨13, [115, 125], []⟩, ⟨12, [6, 115], []⟩, ⟨11, [115, 123], []⟩, ⟨10, [4, 115], []⟩, ⟨9, [115, 119, 121], []⟩, ⟨8, [115, 120], []⟩, ⟨7, [6, 115], []⟩, ⟨6, [115, 118], []⟩, ⟨5, [3, 115], []⟩, ⟨4, [6, 115], []⟩, ⟨3, [13, 115], []⟩, ⟨2, [114], []⟩, ⟨1, [113], []⟩, ⟨0, [14], []⟩]) [134] rfl rfl rfl rfl rfl (sought_ok tame) (fun r34 K35 h36 => ⟨?_, ?_⟩)
    ·rcases h36 with ⟨rfl, rfl⟩
     all_goals simp
    obtain ⟨rfl, rfl⟩ := h36
    try simp only [List.cons_append, List.nil_append]
    refine TD.norm (by simp only [List.set]; rfl) ?_
    refine TD.z [134, 135] rfl (q_pickT rfl rfl rfl) ?_
    refine TD.as (pend' := []) [136] rfl rfl (q_assign rfl rfl) ?_
    refine TD.fin ?_
    refine au [] ?_
    refine TK.rt hret [(0, _), (1, _), (s, _), (e, _)] ?_
    exact ⟨rfl, rfl⟩
   have hne : statesM b ≠ [] := fun h => by rw [h] at g12_3; cases g12_3
   refine TD.y [13, 115] rfl (hq := q_load rfl rfl TySz.h (List.Mem.head _) rfl) (h := ?_)
   refine TD.y [6, 115] rfl (hq := q_load rfl rfl TySz.h (List.Mem.head _) rfl) (h := ?_)
   refine TD.z [3, 115] rfl (q_move rfl rfl) ?_
   refine TD.z [115, 118] rfl (q_convInt rfl rfl Und.h Und.h (wrap_i64 (by omega))) ?_
   refine TD.z [6, 115] rfl (q_fieldAddr rfl rfl FldOf.h (by decide)) ?_
   refine TD.y [115, 120] rfl (hq := q_load1 rfl rfl TySz.h (List.Mem.head _) rfl) (h := ?_)
   refine TD.z [115, 119, 121] rfl (q_rem rfl rfl rfl (by omega) (by omega)) ?_
   refine TD.z [4, 115] rfl (q_move rfl rfl) ?_
   refine TD.z [115, 123] rfl (q_convInt rfl rfl Und.h Und.h (wrap_i64 (by omega))) ?_
   refine TD.z [6, 115] rfl (q_fieldAddr rfl rfl FldOf.h (by decide)) ?_
   refine TD.y [115, 125] rfl (hq := q_load1 rfl rfl TySz.h (List.Mem.head _) rfl) (h := ?_)
   refine TD.z [115, 124, 126] rfl (q_rem rfl rfl rfl (by omega) (by omega)) ?_
   refine TD.z [115, 127] rfl (q_add rfl rfl rfl (by omega)) ?_
   refine TD.y [6, 115] rfl (hq := q_load rfl rfl TySz.h (List.Mem.head _) rfl) (h := ?_)
   refine TD.z [5, 115] rfl (q_move rfl rfl) ?_
   refine TD.cl (pend' := [⟨15, [115, 127], []⟩, ⟨14, [115, 124, 126], []⟩, ⟨13, [115, 125], [(_, _)]⟩, ⟨12, [6, 115], []⟩, ⟨11, [115, 123], []⟩, ⟨10, [4, 115], []⟩, ⟨9, [115, 119, 121], []⟩, ⟨8, [115, 120], [(_, _)]⟩, ⟨7, [6, 115], []⟩, ⟨6, [115, 118], []⟩, ⟨5, [3, 115], []⟩, ⟨4, [6, 115], [(_, _)]⟩, ⟨3, [13, 115], [(_, _)]⟩, ⟨1, [113], []⟩, ⟨0, [14], []⟩]) [115, 129, 130] rfl rfl rfl rfl rfl (who_ok hT hk5 hf.says) (fun r37 K38 h39 => ⟨?_, ?_⟩)
   ·rcases h39 with ⟨rfl, rfl⟩
    all_goals simp
   obtain ⟨rfl, rfl⟩ := h39
   try simp only [List.cons_append, List.nil_append]
   refine TD.norm (by simp only [List.set]; rfl) ?_
   refine TD.cl (pend' := [⟨14, [115, 124, 126], []⟩, ⟨13, [115, 125], [(_, _)]⟩, ⟨12, [6, 115], []⟩, ⟨11, [115, 123], []⟩, ⟨10, [4, 115], []⟩, ⟨8, [115, 120], [(_, _)]⟩, ⟨7, [6, 115], []⟩, ⟨6, [115, 118], []⟩, ⟨5, [3, 115], []⟩, ⟨1, [113], []⟩, ⟨0, [14], []⟩]) [115, 116, 117, 122, 128, 131] rfl rfl rfl rfl rfl (betterS_ok tame (was := (moreB b k1 k2)) (now := b) (lo := k3 % b.steps) (w := 1 + k4 % b.steps) (wh := whoM b k5) (hw.less hck hne) hco hck hse hf.names hf.names hf.seen hf.seen ⟨m3, m3'⟩ ⟨by omega, by show _ ≤ b.steps; omega⟩ ((who_is k5).imp id fun ⟨q, h1, h2⟩ => ⟨q, h1, h2, h2, fun S _ => (hw.rightM S q).symm⟩) rfl rfl) (fun r40 K41 h42 => ⟨?_, ?_⟩)
   ·rcases h42 with ⟨rfl, rfl⟩
    all_goals simp
   obtain ⟨rfl, rfl⟩ := h42
   try simp only [List.cons_append, List.nil_append]
   refine TD.norm (by simp only [List.set]; rfl) ?_
   refine TD.z [115, 132] rfl (q_pickF rfl rfl rfl) ?_
   refine TD.z [133] rfl (q_move rfl rfl) ?_
   refine TD.sp 134 (fun g12_22 => ?_) (fun g12_22 => ?_)
   ·refine TD.cl (pend' := [⟨20, [115, 132], []⟩, ⟨14, [115, 124, 126], []⟩, ⟨13, [115, 125], [(_, _)]⟩, ⟨12, [6, 115], []⟩, ⟨11, [115, 123], []⟩, ⟨10, [4, 115], []⟩, ⟨8, [115, 120], [(_, _)]⟩, ⟨7, [6, 115], []⟩, ⟨6, [115, 118], []⟩, ⟨5, [3, 115], []⟩, ⟨1, [113], []⟩, ⟨0, [14], []⟩]) [134] rfl rfl rfl rfl rfl (sought_ok tame) (fun r43 K44 h45 => ⟨?_, ?_⟩)
    ·rcases h45 with ⟨rfl, rfl⟩
     all_goals simp
    obtain ⟨rfl, rfl⟩ := h45
    try simp only [List.cons_append, List.nil_append]
    refine TD.norm (by simp only [List.set]; rfl) ?_
    refine TD.z [134, 135] rfl (q_pickT rfl rfl rfl) ?_
    refine TD.as (pend' := []) [136] rfl rfl (q_assign rfl rfl) ?_
    refine TD.fin ?_
    refine au [] ?_
    refine TK.rt hret [(0, _), (1, _), (s, _), (e, _)] ?_
    exact ⟨rfl, rfl⟩
   cases g12_22
 ·refine au [1, 10, 10, 10, 10, 2, 2, 2, 2, 3, 4, 5, 8] ?_
  refine TK.cl rfl rfl rfl rfl (likely_ok hT (b := (moreB b k1 k2)) hse hf.names hf.seen) ?_
  rintro r46 K47 h48
  rcases h48 with ⟨hb1, rfl, rfl⟩ | ⟨hb1, hg1, rfl, rfl⟩ | ⟨hb1, hg1, j2, rfl, rfl⟩
  ·refine au [] ?_
   exact absurd hco hb1
  ·refine au [] ?_
   exact absurd hg1 (hw.likely hck hg0).1
  ·refine au [1, 10, 10, 10, 10, 2, 2, 2, 2, 3, 4, 4, 5, 1, 6, 1] ?_
   refine TK.sp 84 (fun g10_3 => ?_) (fun g10_3 => ?_)
   ·simp at g10_3
   refine au [1, 6, 25, 1] ?_
   refine TK.sp 88 (fun g10_7 => ?_) (fun g10_7 => ?_)
   ·simp at g10_7
   refine au [1, 6, 25, 1] ?_
   refine TK.sp 92 (fun g10_11 => ?_) (fun g10_11 => ?_)
   ·simp at g10_11
   refine au [1, 6, 25, 1] ?_
   refine TK.sp 96 (fun g10_15 => ?_) (fun g10_15 => ?_)
   ·simp at g10_15
   refine au [1, 1, 6, 25, 1] ?_
   refine TK.sp 101 (fun g10_20 => ?_) (fun g10_20 => ?_)
   ·have := of_decide_eq_true g10_20
    omega
   refine au [1, 1] ?_
   refine TK.sp 103 (fun g10_22 => ?_) (fun g10_22 => ?_)
   ·have hlk := (hw.likely hck hg0).2
    refine au [1, 30, 1] ?_
    refine TK.sp 106 (fun g10_25 => ?_) (fun g10_25 => ?_)
    ·simp at g10_25
    refine au [1, 1, 6, 25, 26, 25, 3, 20] ?_
    refine ⟨fun hc1 => ?_, fun hc1 => ?_⟩
    ·have := of_decide_eq_true hc1
     omega
    refine au [12, 4] ?_
    refine TK.draw [0, 1, 2, 3, 4, 5, 6, 7, 8, 9, 10, 11, 12, 13, 14, 15, 16, 17, 18, 19, 20, 21, 22, 23, 24] [0, 1, 2, 3, 4, 5, 6, 7, 8, 9, 10, 11, 12, 13, 14, 15, 16, 17, 18, 19, 20, 21, 22, 23, 24] (by kernel_rfl) (by kernel_rfl) ?_
    refine TD.z [14] rfl (q_move rfl rfl) ?_
    refine TD.z [113] rfl (q_cmp rfl rfl rfl rfl) ?_
    refine TD.z [114] rfl (q_move rfl rfl) ?_
    refine TD.sp 115 (fun g12_3 => ?_) (fun g12_3 => ?_)
    ·refine TD.u [13, 115] rfl ?_
     refine TD.u [6, 115] rfl ?_
     refine TD.u [3, 115] rfl ?_
     refine TD.u [115, 118] rfl ?_
     refine TD.u [6, 115] rfl ?_
     refine TD.u [115, 120] rfl ?_
     refine TD.u [115, 119, 121] rfl ?_
     refine TD.u [4, 115] rfl ?_
     refine TD.u [115, 123] rfl ?_
     refine TD.u [6, 115] rfl ?_
     refine TD.u [115, 125] rfl ?_
     refine TD.u [115, 124, 126] rfl ?_
     refine TD.u [115, 127] rfl ?_
     refine TD.u [6, 115] rfl ?_
     refine TD.u [5, 115] rfl ?_
     refine TD.u [115, 129, 130] rfl ?_
     refine TD.u [115, 116, 117, 122, 128, 131] rfl ?_
     refine TD.z [115, 132] rfl (q_pickT rfl rfl rfl) ?_
     refine TD.z [133] rfl (q_move rfl rfl) ?_
     refine TD.cl (pend' := [⟨20, [115, 132], []⟩, ⟨19, [115, 116, 117, 122, 128, 131], []⟩, ⟨18, [115, 129, 130], []⟩, ⟨17, [5, 115], []⟩, ⟨16, [6, 115], []⟩, ⟨15, [115, 127], []⟩, ⟨14, [115, 124, 126], []⟩, ⟨13, [115, 125], []⟩, ⟨12, [6, 115], []⟩, ⟨11, [115, 123], []⟩, ⟨10, [4, 115], []⟩, ⟨9, [115, 119, 121], []⟩, ⟨8, [115, 120], []⟩, ⟨7, [6, 115], []⟩, ⟨6, [115, 118], []⟩, ⟨5, [3, 115], []⟩, ⟨4, [6, 115], []⟩, ⟨3, [13, 115], []⟩, ⟨2, [114], []⟩, ⟨1, [113], []⟩, ⟨0, [14], []⟩]) [134] rfl rfl rfl rfl rfl (sought_ok tame) (fun r49 K50 h51 => ⟨?_, ?_⟩)
     ·rcases h51 with ⟨rfl, rfl⟩
      all_goals simp
     obtain ⟨rfl, rfl⟩ := h51
     try simp only [List.cons_append, List.nil_append]
     refine TD.norm (by simp only [List.set]; rfl) ?_
     refine TD.z [134, 135] rfl (q_pickT rfl rfl rfl) ?_
     refine TD.as (pend' := []) [136] rfl rfl (q_assign rfl rfl) ?_
     refine TD.fin ?_
     refine au [] ?_
     refine TK.rt hret [(0, _), (1, _), (s, _), (e, _)] ?_
     exact ⟨rfl, rfl⟩
    have hne : statesM b ≠ [] := fun h => by rw [h] at g12_3; cases g12_3
    refine TD.y [13, 115] rfl (hq := q_load rfl rfl TySz.h (List.Mem.head _) rfl) (h := ?_)
    refine TD.y [6, 115] rfl (hq := q_load rfl rfl TySz.h (List.Mem.head _) rfl) (h := ?_)
    refine TD.z [3, 115] rfl (q_move rfl rfl) ?_
    refine TD.z [115, 118] rfl (q_convInt rfl rfl Und.h Und.h (wrap_i64 (by omega))) ?_
    refine TD.z [6, 115] rfl (q_fieldAddr rfl rfl FldOf.h (by decide)) ?_
    refine TD.y [115, 120] rfl (hq := q_load1 rfl rfl TySz.h (List.Mem.head _) rfl) (h := ?_)
    refine TD.z [115, 119, 121] rfl (q_rem rfl rfl rfl (by omega) (by omega)) ?_
    refine TD.z [4, 115] rfl (q_move rfl rfl) ?_
    refine TD.z [115, 123] rfl (q_convInt rfl rfl Und.h Und.h (wrap_i64 (by omega))) ?_
    refine TD.z [6, 115] rfl (q_fieldAddr rfl rfl FldOf.h (by decide)) ?_
    refine TD.y [115, 125] rfl (hq := q_load1 rfl rfl TySz.h (List.Mem.head _) rfl) (h := ?_)
    refine TD.z [115, 124, 126] rfl (q_rem rfl rfl rfl (by omega) (by omega)) ?_
    refine TD.z [115, 127] rfl (q_add rfl rfl rfl (by omega)) ?_
    refine TD.y [6, 115] rfl (hq := q_load rfl rfl TySz.h (List.Mem.head _) rfl) (h := ?_)
    refine TD.z [5, 115] rfl (q_move rfl rfl) ?_
    refine TD.cl (pend' := [⟨15, [115, 127], []⟩, ⟨14, [115, 124, 126], []⟩, ⟨13, [115, 125], [(_, _)]⟩, ⟨12, [6, 115], []⟩, ⟨11, [115, 123], []⟩, ⟨10, [4, 115], []⟩, ⟨9, [115, 119, 121], []⟩, ⟨8, [115, 120], [(_, _)]⟩, ⟨7, [6, 115], []⟩, ⟨6, [115, 118], []⟩, ⟨5, [3, 115], []⟩, ⟨4, [6, 115], [(_, _)]⟩, ⟨3, [13, 115], [(_, _)]⟩, ⟨1, [113], []⟩, ⟨0, [14], []⟩]) [115, 129, 130] rfl rfl rfl rfl rfl (who_ok hT hk5 hf.says) (fun r52 K53 h54 => ⟨?_, ?_⟩)
    ·rcases h54 with ⟨rfl, rfl⟩
     all_goals simp
    obtain ⟨rfl, rfl⟩ := h54
    try simp only [List.cons_append, List.nil_append]
    refine TD.norm (by simp only [List.set]; rfl) ?_
    refine TD.cl (pend' := [⟨14, [115, 124, 126], []⟩, ⟨13, [115, 125], [(_, _)]⟩, ⟨12, [6, 115], []⟩, ⟨11, [115, 123], []⟩, ⟨10, [4, 115], []⟩, ⟨8, [115, 120], [(_, _)]⟩, ⟨7, [6, 115], []⟩, ⟨6, [115, 118], []⟩, ⟨5, [3, 115], []⟩, ⟨1, [113], []⟩, ⟨0, [14], []⟩]) [115, 116, 117, 122, 128, 131] rfl rfl rfl rfl rfl (betterS_ok tame (was := (moreB b k1 k2)) (now := b) (lo := k3 % b.steps) (w := 1 + k4 % b.steps) (wh := whoM b k5) (hw.less hck hne) hco hck hse hf.names hf.names hf.seen hf.seen ⟨m3, m3'⟩ ⟨by omega, by show _ ≤ b.steps; omega⟩ ((who_is k5).imp id fun ⟨q, h1, h2⟩ => ⟨q, h1, h2, h2, fun S _ => (hw.rightM S q).symm⟩) rfl rfl) (fun r55 K56 h57 => ⟨?_, ?_⟩)
    ·rcases h57 with ⟨rfl, rfl⟩
     all_goals simp
    obtain ⟨rfl, rfl⟩ := h57
    try simp only [List.cons_append, List.nil_append]
    refine TD.norm (by simp only [List.set]; rfl) ?_
    refine TD.z [115, 132] rfl (q_pickF rfl rfl rfl) ?_
    refine TD.z [133] rfl (q_move rfl rfl) ?_
    refine TD.sp 134 (fun g12_22 => ?_) (fun g12_22 => ?_)
    ·refine TD.cl (pend' := [⟨20, [115, 132], []⟩, ⟨14, [115, 124, 126], []⟩, ⟨13, [115, 125], [(_, _)]⟩, ⟨12, [6, 115], []⟩, ⟨11, [115, 123], []⟩, ⟨10, [4, 115], []⟩, ⟨8, [115, 120], [(_, _)]⟩, ⟨7, [6, 115], []⟩, ⟨6, [115, 118], []⟩, ⟨5, [3, 115], []⟩, ⟨1, [113], []⟩, ⟨0, [14], []⟩]) [134] rfl rfl rfl rfl rfl (sought_ok tame) (fun r58 K59 h60 => ⟨?_, ?_⟩)
     ·rcases h60 with ⟨rfl, rfl⟩
      all_goals simp
     obtain ⟨rfl, rfl⟩ := h60
     try simp only [List.cons_append, List.nil_append]
     refine TD.norm (by simp only [List.set]; rfl) ?_
     refine TD.z [134, 135] rfl (q_pickT rfl rfl rfl) ?_
     refine TD.as (pend' := []) [136] rfl rfl (q_assign rfl rfl) ?_
     refine TD.fin ?_
     refine au [] ?_
     refine TK.rt hret [(0, _), (1, _), (s, _), (e, _)] ?_
     exact ⟨rfl, rfl⟩
    cases g12_22
   cases g10_22
end Go.Vel
end
section
set_option linter.all false
set_option maxRecDepth 20000
set_option maxHeartbeats 60000000
namespace Go.Vel
open Go Go.Conc Go.Proofs Go.ChangeShapes Go.WideShapes Go.ChangeAt Go.RowKit
open Go.Proofs.YtpdioiojfgknbaaGreatDoor (Tryz.pinned)
def seekerMorePhi (x0a x0b : Value) : Nat → Loc3
 | 0 => ⟨0, 0, 0⟩
 | 1 => ⟨1, 0, 0⟩
 | 2 => locV x0a
 | 3 => locV x0b
 | _ => ⟨0, 0, 0⟩
theorem seekerMore_run {W : World} (hl : laidMetH Tryz.prog tblLaid W) {b0 : Bk} {x0a x0b : Value} {k1 : Int} {k2 : Int} {k3 : Int} {k4 : Int} {k5 : Int} (h0a : SlIn W saysV 5 b0.seekers x0a) (h0b : SlIn W seenV 2 b0.seen x0b) (h1 : 0 ≤ k1 ∧ k1 < 256) (h2 : 0 ≤ k2 ∧ k2 < 256) (h3 : 0 ≤ k3 ∧ k3 < 256) (h4 : 0 ≤ k4 ∧ k4 < 256) (h5 : 0 ≤ k5 ∧ k5 < 256) :
  ∃ M last o w' t', runNT Tryz.prog (M + 1) (solo (G (Frame.enter Tryz.prog 6 #[.agg #[.int .i64 b0.steps, .int .i64 b0.wrong, .int .i64 b0.low, .int .i64 b0.high, x0a, x0b], .int .u8 k1, .int .u8 k2, .int .u8 k3, .int .u8 k4, .int .u8 k5] .normal) []) W) #[] = (.ended o w', t') ∧
   runN Tryz.prog M (solo (G (Frame.enter Tryz.prog 6 #[.agg #[.int .i64 b0.steps, .int .i64 b0.wrong, .int .i64 b0.low, .int .i64 b0.high, x0a, x0b], .int .u8 k1, .int .u8 k2, .int .u8 k3, .int .u8 k4, .int .u8 k5] .normal) []) W) = .next last ∧
   step Tryz.prog last = .ended o w' ∧ Conc.Good Tryz.prog (fun v w => v = .bool true ∧ w.os = W.os ∧ w.output = W.output ∧ KeptAll W w) last o w' t' := by
 refine good_run (R := fun v w => v = .bool true ∧ KeptAll W w) (R' := fun v w => v = .bool true ∧ w.os = W.os ∧ w.output = W.output ∧ KeptAll W w) Tryz.func6 rfl (by kernel_rfl) (fun v w' ho hu hr => ⟨hr.1, ho, hu, hr.2⟩) (fun v w τ d h => h) (holdAll_fits W) ?_
 obtain ⟨ht0, ht1⟩ := of_laid hl
 refine lawMore_top (b := b0) (s := 2) (e := 3) (k1 := k1) (k2 := k2) (k3 := k3) (k4 := k4) (k5 := k5) (by decide) h1 h2 h3 h4 h5 (A := [checksG, saysG, saysO b0, seenO b0]) (φ := seekerMorePhi x0a x0b) (F := holdAll W) ?_ ?_ ?_ ?_ ?_ ?_
 ·intro x hx
  simp only [List.mem_cons, List.not_mem_nil, or_false] at hx
  rcases hx with rfl | rfl | rfl | rfl <;> rfl
 ·simp [keys]
 ·intro g i hg
  match g, hg with
  | 0, hg => cases hg; exact ⟨by simp, rfl, rfl⟩
  | 1, hg => cases hg; exact ⟨by simp, rfl, rfl⟩
  | g + 2, hg => cases hg
 ·refine ⟨fun i o ho => ?_, fun i j o o' hi _ _ hx => ?_, fun b x h => h, fun i o hi hx => ?_⟩
  ·match i, ho with
   | 0, ho => cases ho; exact tbl_rel ht0
   | 1, ho => cases ho; exact tbl_rel ht1
   | 2, ho => cases ho; exact relO_in h0a (fun _ => rfl) says_rel
   | 3, ho => cases ho; exact relO_in h0b (fun _ => rfl) seen_rel
   | i + 4, ho => simp at ho
  ·match i, hi with
   | 0, hi => cases hi; cases hx
   | 1, hi => cases hi; cases hx
   | 2, hi => cases hi; cases hx
   | 3, hi => cases hi; cases hx
   | i + 4, hi => simp at hi
  ·match i, hi with
   | 0, hi => cases hi; cases hx
   | 1, hi => cases hi; cases hx
   | 2, hi => cases hi; cases hx
   | 3, hi => cases hi; cases hx
   | i + 4, hi => simp at hi
 ·refine ⟨rfl, fun j a y ha hy => ?_⟩
  match j, ha, hy with
  | 0, ha, hy =>
   cases ha; cases hy
   refine .agg rfl fun t u z hu hz => ?_
   match t, hu, hz with
   | 0, hu, hz => cases hu; cases hz; exact .v _
   | 1, hu, hz => cases hu; cases hz; exact .v _
   | 2, hu, hz => cases hu; cases hz; exact .v _
   | 3, hu, hz => cases hu; cases hz; exact .v _
   | 4, hu, hz => cases hu; cases hz; exact relV_in h0a (by simp) rfl
   | 5, hu, hz => cases hu; cases hz; exact relV_in h0b (by simp) rfl
   | t + 6, hu, hz => simp [bookC] at hu
  | 1, ha, hy =>
   cases ha; cases hy; exact .v _
  | 2, ha, hy =>
   cases ha; cases hy; exact .v _
  | 3, ha, hy =>
   cases ha; cases hy; exact .v _
  | 4, ha, hy =>
   cases ha; cases hy; exact .v _
  | 5, ha, hy =>
   cases ha; cases hy; exact .v _
  | j + 6, ha, hy => simp at ha
 ·rintro r K' φ' A' H' v w ⟨rfl, _⟩ hH' hv' hfit
  refine ⟨inv_v hv', fun i hi => ?_⟩
  have hh := Array.getElem?_eq_getElem hi
  rw [hh]
  exact hfit i false _ (hH'.fr _ _ (holdAll_get hh))
set_option maxRecDepth 100000 in
theorem seekerMore_lifted (os : Os) (started : os.Started) (H : Type) (enc : TypeId × Value → H) :
  ReturnsInLeavingWide Go.Proofs.YtpdioiojfgknbaaGreatDoor.Rows.seekerMoreRow.assume Tryz.checked os 6 .any (Go.Proofs.YtpdioiojfgknbaaGreatDoor.Rows.seekerMoreRow.pre enc Tryz.prog Tryz.f6 (OpenSpec.ofChange Go.Proofs.YtpdioiojfgknbaaGreatDoor.Rows.seekerMoreSpec))
   (Go.Proofs.YtpdioiojfgknbaaGreatDoor.Rows.seekerMoreSpec.post enc Tryz.prog Tryz.f6 false true false false) := by
 refine returnsInLeavingWide_of_good (C := Tryz.checked) own started
  (ChangeSpec.witness_shaped (enc := enc) (C := Tryz.checked) (os := os) (X := fun w _ => laidMetH Tryz.prog tblLaid w) false (World.doorLaid Tryz.prog 400 os) #[.agg #[.int .i64 0, .int .i64 0, .int .i64 0, .int .i64 0, .slice none 0 0, .slice none 0 0], .int .u8 0, .int .u8 0, .int .u8 0, .int .u8 0, .int .u8 0] 8 rfl (World.shaped_of_RefB (by kernel_rfl) (by kernel_rfl)) (by kernel_rfl) (by kernel_rfl) (by kernel_rfl) (door_met os _)) ?_
 intro w tape i _ _ _ hok hpre _
 obtain ⟨_, _, _, fn', hfn', _, _, _, _, hval0⟩ := hok
 obtain rfl : fn' = Tryz.f6 := Option.some.inj (hfn'.symm.trans Tryz.func6)
 obtain ⟨⟨⟨ds, gs, before, hw, hc⟩, hL0⟩, _⟩ := hpre
 have hW := DataW.Whole.of_heap (w' := w.forCall tape i) (by rfl) hw
 have hL : laidMetH Tryz.prog tblLaid (w.forCall tape i) := laidMetH.of_heap (by rfl) hL0
 obtain ⟨bl, args, vars⟩ := i
 generalize w.forCall tape ⟨bl, args, vars⟩ = W at hW hL hval0 ⊢
 have hW' := hW
 obtain ⟨p, q, hA0, hV0, rfl, _, _⟩ := hW
 have hA : DataW.TrodAll enc Tryz.prog W 0 (fun _ => true) true [27, 5, 5, 5, 5, 5] args.toList ds p := hA0
 obtain ⟨v0, u0, d0, ds0, p0, q0, hargs, rfl, rfl, t0, hr0⟩ := trodAll_cons hA
 obtain ⟨v1, u1, d1, ds1, p1, q1, rfl, rfl, rfl, t1, hr1⟩ := trodAll_cons hr0
 obtain ⟨v2, u2, d2, ds2, p2, q2, rfl, rfl, rfl, t2, hr2⟩ := trodAll_cons hr1
 obtain ⟨v3, u3, d3, ds3, p3, q3, rfl, rfl, rfl, t3, hr3⟩ := trodAll_cons hr2
 obtain ⟨v4, u4, d4, ds4, p4, q4, rfl, rfl, rfl, t4, hr4⟩ := trodAll_cons hr3
 obtain ⟨v5, u5, d5, ds5, p5, q5, rfl, rfl, rfl, t5, hr5⟩ := trodAll_cons hr4
 obtain ⟨rfl, rfl, rfl⟩ := trodAll_nil hr5
 obtain rfl : args = #[v0, v1, v2, v3, v4, v5] := by cases args; simp_all
 obtain ⟨rfl, rfl⟩ := trodVars_none hV0
 obtain ⟨b0, x0a, x0b, rfl, s0a, s0b⟩ := open_book (okAgg Tryz.underlying27 (hval0 0 27 v0 rfl rfl)) t0
 obtain ⟨k1, rfl, rfl, rfl, s1⟩ := open_int Tryz.underlying5 (hval0 1 5 v1 rfl rfl) t1
 obtain ⟨k2, rfl, rfl, rfl, s2⟩ := open_int Tryz.underlying5 (hval0 2 5 v2 rfl rfl) t2
 obtain ⟨k3, rfl, rfl, rfl, s3⟩ := open_int Tryz.underlying5 (hval0 3 5 v3 rfl rfl) t3
 obtain ⟨k4, rfl, rfl, rfl, s4⟩ := open_int Tryz.underlying5 (hval0 4 5 v4 rfl rfl) t4
 obtain ⟨k5, rfl, rfl, rfl, s5⟩ := open_int Tryz.underlying5 (hval0 5 5 v5 rfl rfl) t5
 obtain ⟨M, last, o, w', t', g1, g2, g3, g4⟩ := seekerMore_run hL s0a s0b (u8_wf s1) (u8_wf s2) (u8_wf s3) (u8_wf s4) (u8_wf s5)
 refine ⟨M, last, o, w', t', g1, g2, g3, g4.mono fun v hF => ?_⟩
 obtain ⟨rfl, ho, hu, hkp⟩ := hF
 refine ChangeSpec.post_blind ?_
 exact ⟨_, _, _, [], _, [], hW', trodAll_mk1 (shut_bool Tryz.underlying4 true), ⟨_, _, trod_mono laid_out t0 hkp, ⟨_, _, trod_mono laid_out t1 hkp, ⟨_, _, trod_mono laid_out t2 hkp, ⟨_, _, trod_mono laid_out t3 hkp, ⟨_, _, trod_mono laid_out t4 hkp, ⟨_, _, trod_mono laid_out t5 hkp, trodAll_mk0, rfl⟩, rfl⟩, rfl⟩, rfl⟩, rfl⟩, rfl⟩, rfl, kept_but ho hu hkp _, fun h => by cases h⟩
open Go.Proofs.YtpdioiojfgknbaaGreatDoor in
theorem seekerMore_said : Rows.SeekerMoreSaid :=
 OpenClaim.holds_of_wide_leaving 6 Tryz.f6 rfl rfl rfl rfl rfl rfl rfl ⟨rfl, rfl, rfl, rfl, rfl⟩ rfl rfl rfl rfl rfl (by kernel_rfl) Tryz.func6 (by kernel_rfl)
  (of_decide_eq_true (by kernel_rfl)) (by unfold Func.isWrapper; first | (rw [if_pos (by decide +kernel)]; kernel_rfl) | (rw [if_neg (by decide +kernel)]; exact ⟨rfl, rfl⟩))
  (fun os started H enc _ => seekerMore_lifted os started H enc)
end Go.Vel
namespace Go.Proofs.YtpdioiojfgknbaaGreatDoor
open Go
theorem seekerMore_holds : Rows.SeekerMoreCardSaid :=
 Go.Vel.holds_tied_goes .later [.funcs, .funcs] true (true, "37dd52168c01ab0eac968363d817f0761de49dbe13f8b8dbc59b7d9be7780b69") false
  Go.Vel.seekerMore_said (by kernel_rfl) seekerMore_row_tie rfl ⟨rfl, rfl⟩ (by kernel_rfl) rfl
  (fun f fn hf hfn => by
   obtain rfl : f = 6 := Option.some.inj ((show Tryz.prog.funcNamed "velarium/velariumlaw09.SeekerMore" = some 6 by kernel_rfl).symm.trans hf) |>.symm
   obtain rfl : fn = Tryz.f6 := (Option.some.inj (Tryz.func6.symm.trans hfn)).symm
   exact ⟨by kernel_rfl, fun j t ht => by
    rw [Tryz.params6] at ht
    have hm : t ∈ [27, 5, 5, 5, 5, 5] := by simpa using Array.mem_of_getElem? ht
    have hall : ([27, 5, 5, 5, 5, 5].all fun u => !Tryz.prog.wantsStandIn u) = true := by kernel_rfl
    exact (show Tryz.prog.wantsStandIn t = false by simpa using List.all_eq_true.1 hall t hm)⟩)
  (by kernel_rfl)
#print axioms seekerMore_holds
end Go.Proofs.YtpdioiojfgknbaaGreatDoor
end
