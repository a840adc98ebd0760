/- The law SeekerNoOthers: there can be a seam at a step just if the book agrees when one is seen there; a seeker can be right just if the book agrees when they are given a glass. It holds of every program, tape and world that the statements name, as each theorem says. -/
import Derived.Test.YtpdioiojfgknbaaGreatDoorW6
import Derived.Test.YtpdioiojfgknbaaGreatDoorW8
import Derived.Test.YtpdioiojfgknbaaGreatDoorW9
import Derived.Test.YtpdioiojfgknbaaGreatDoorW10
section
set_option linter.all false
set_option maxRecDepth 20000
set_option maxHeartbeats 60000000
namespace Go.Vel
open Go Go.Conc Go.Proofs
/-! ### a book that allows more -/
structure Wider (b o : Bk) : Prop where
 steps : o.steps = b.steps
 seekers : o.seekers = b.seekers
 seen : o.seen = b.seen
 wrong : b.wrong ≤ o.wrong ∧ o.wrong ≤ 3
 low : 0 ≤ o.low ∧ o.low ≤ b.low
 high : b.high ≤ o.high ∧ o.high ≤ 3
namespace Wider
variable {b o : Bk}
theorem rightM (h : Wider b o) (S : List Int) (k : Nat) : Vel.rightM o S k = Vel.rightM b S k := by
 unfold Vel.rightM wideM inM
 rw [h.seekers, h.steps]
theorem glassM (h : Wider b o) (k : Nat) : Vel.glassM o k = Vel.glassM b k := by unfold Vel.glassM; rw [h.seekers]
theorem badM (h : Wider b o) (S : List Int) (n : Nat) : Vel.badM o S n = Vel.badM b S n := by
 unfold Vel.badM
 congr 1
 funext k
 rw [h.rightM, h.glassM]
theorem wrongL (h : Wider b o) (S : List Int) (n : Nat) : Vel.wrongL o S n = Vel.wrongL b S n := by
 unfold Vel.wrongL
 congr 2
 funext k
 rw [h.rightM]
theorem wrongM (h : Wider b o) (S : List Int) : Vel.wrongM o S = Vel.wrongM b S := by
 unfold Vel.wrongM
 rw [h.seekers, h.badM, h.wrongL]
theorem seenM (h : Wider b o) {S : List Int} (hs : Vel.seenM b S = true) : Vel.seenM o S = true := by
 unfold Vel.seenM at hs ⊢
 rw [h.seen]
 simp only [Bool.and_eq_true, decide_eq_true_eq] at hs ⊢
 obtain ⟨⟨h1, h2⟩, h3⟩ := hs
 have := h.low
 have := h.high
 exact ⟨⟨by omega, by omega⟩, h3⟩
theorem canM (h : Wider b o) {S : List Int} (hs : Vel.canM b S = true) : Vel.canM o S = true := by
 unfold Vel.canM at hs ⊢
 rw [h.seekers, h.badM, h.wrongL]
 simp only [Bool.and_eq_true, decide_eq_true_eq] at hs ⊢
 have := h.wrong
 exact ⟨⟨hs.1.1, by omega⟩, h.seenM hs.2⟩
theorem checkM (h : Wider b o) (hc : Vel.checkM b = 0) : Vel.checkM o = 0 := by
 obtain ⟨h1, h2, h3⟩ := (check_iff b).1 hc
 have hr := numbers_range (b := b) (by rw [h1]; rfl)
 have hst : ∀ n, isStepM o n = isStepM b n := fun n => by unfold isStepM; rw [h.steps]
 refine (check_iff o).2 ⟨?_, ?_, ?_⟩
 ·have := h.wrong
  have := h.low
  have := h.high
  unfold numbersM
  rw [h.steps]
  simp only [cond_eq_if, Bool.or_eq_true, Bool.not_eq_true', Bool.and_eq_false_iff, decide_eq_false_iff_not, decide_eq_true_eq]
  rw [if_neg (by omega)]
 ·have h4 : ∀ n, heardL o n = heardL b n := fun n => by
   induction n with
   | zero => rfl
   | succ n ih =>
    unfold heardL
    rw [ih]
    unfold heard1
    simp only [h.seekers, hst]
  unfold heardM at h2 ⊢
  rw [h.seekers, h4]; exact h2
 ·unfold lookedM at h3 ⊢
  simp only [h.seen, hst]
  exact h3
theorem sets (h : Wider b o) (hb : BkOk b) (ho : BkOk o) (hh : 0 ≤ b.high) {S : List Int} (hS : S ∈ setsB b) : S ∈ setsB o := by
 obtain ⟨h1, h2, h3⟩ := (setsB_iff hb hh S).1 hS
 have := h.high
 exact (setsB_iff ho (by omega) S).2 ⟨h1, by rw [h.steps]; exact h2, by omega⟩
theorem states (h : Wider b o) (hc : Vel.checkM b = 0) {S : List Int} (hS : S ∈ statesM b) : S ∈ statesM o := by
 have hb := bkOk_of hc
 have ho := bkOk_of (h.checkM hc)
 rw [mem_states hb] at hS
 rw [mem_states ho]
 exact ⟨h.sets hb ho (high_of hc) hS.1, h.canM hS.2⟩
theorem less (h : Wider b o) (hc : Vel.checkM b = 0) (hne : statesM b ≠ []) : Less o b := ⟨bkOk_of (h.checkM hc), bkOk_of hc, h.steps.symm, fun _ hS => h.states hc hS, hne⟩
theorem many (h : Wider b o) (hc : Vel.checkM b = 0) : ((statesM b).length : Int) ≤ (statesM o).length := Int.ofNat_le.2 (nodup_le (states_nodup b) fun _ hS => h.states hc hS)
theorem likely (h : Wider b o) (hc : Vel.checkM b = 0) (hg : guessM b (allM b) ≠ []) : guessM o (allM o) ≠ [] ∧ (likelyM o).2 ≤ (likelyM b).2 := by
 have hb := bkOk_of hc
 have ho := bkOk_of (h.checkM hc)
 have h1 : likelyM b ∈ guessM b (allM b) := minL_mem (lt := ltGuess) (d := ([], 0)) hg
 obtain ⟨S, h2, h3⟩ := List.mem_map.1 h1
 obtain ⟨h4, h5⟩ := List.mem_filter.1 h2
 obtain ⟨h6, h7⟩ := (all_sets hb S).1 h4
 have h8 : (S, Vel.wrongM o S) ∈ guessM o (allM o) := List.mem_map.2 ⟨S, List.mem_filter.2 ⟨(all_sets ho S).2 ⟨h.sets hb ho (high_of hc) h6, h.seenM h7⟩, by rw [h.seekers, h.badM]; exact h5⟩, rfl⟩
 refine ⟨List.ne_nil_of_mem h8, ?_⟩
 have h9 : ltGuess (S, Vel.wrongM o S) (likelyM o) = false := by
  unfold likelyM
  generalize guessM o (allM o) = l at h8
  cases l with
  | nil => cases h8
  | cons x xs => exact tot_guess.least xs x _ h8
 rw [Bool.eq_false_iff, ne_eq, ltGuess_iff] at h9
 rw [← h3]
 rw [h.wrongM] at h9
 simp only at h9 ⊢
 omega
end Wider
/-! ### which is likely -/
theorem likely_is {b : Bk} (hb : BkOk b) (hg : guessM b (allM b) ≠ []) : (likelyM b).1 ∈ setsB b ∧ seenM b (likelyM b).1 = true ∧ badM b (likelyM b).1 b.seekers.length = false ∧ (likelyM b).2 = wrongL b (likelyM b).1 b.seekers.length := by
 have h1 : likelyM b ∈ guessM b (allM b) := minL_mem (lt := ltGuess) (d := ([], 0)) hg
 obtain ⟨S, h2, h3⟩ := List.mem_map.1 h1
 obtain ⟨h4, h5⟩ := List.mem_filter.1 h2
 obtain ⟨h6, h7⟩ := (all_sets hb S).1 h4
 have h5 : badM b S b.seekers.length = false := by simpa using h5
 rw [← h3]
 refine ⟨h6, h7, h5, ?_⟩
 show wrongM b S = _
 unfold wrongM
 rw [if_neg (by rw [h5]; decide)]
theorem likely_min {b : Bk} (hb : BkOk b) {S : List Int} (h1 : S ∈ setsB b) (h2 : seenM b S = true) (h3 : badM b S b.seekers.length = false) : guessM b (allM b) ≠ [] ∧ ltGuess (S, (wrongL b S b.seekers.length : Int)) (likelyM b) = false := by
 have hw : wrongM b S = wrongL b S b.seekers.length := by unfold wrongM; rw [if_neg (by rw [h3]; decide)]
 have h8 : (S, wrongM b S) ∈ guessM b (allM b) := List.mem_map.2 ⟨S, List.mem_filter.2 ⟨(all_sets hb S).2 ⟨h1, h2⟩, by rw [h3]; rfl⟩, rfl⟩
 refine ⟨List.ne_nil_of_mem h8, ?_⟩
 rw [← hw]
 unfold likelyM
 generalize guessM b (allM b) = l at h8
 cases l with
 | nil => cases h8
 | cons x xs => exact tot_guess.least xs x _ h8
/-- There is a state just if no more need be wrong than the book says. -/
theorem states_likely {b : Bk} (hb : BkOk b) : statesM b ≠ [] ↔ guessM b (allM b) ≠ [] ∧ (likelyM b).2 ≤ b.wrong := by
 constructor
 ·intro h
  obtain ⟨S, hS⟩ := List.exists_mem_of_ne_nil _ h
  rw [mem_states hb] at hS
  obtain ⟨h1, h2⟩ := hS
  have hc := h2
  unfold canM at hc
  simp only [Bool.and_eq_true, Bool.not_eq_true', decide_eq_true_eq] at hc
  obtain ⟨h3, h4⟩ := likely_min hb h1 hc.2 hc.1.1
  refine ⟨h3, ?_⟩
  rw [Bool.eq_false_iff, ne_eq, ltGuess_iff] at h4
  simp only at h4
  omega
 ·rintro ⟨h1, h2⟩
  obtain ⟨h3, h4, h5, h6⟩ := likely_is hb h1
  refine List.ne_nil_of_mem ((mem_states hb (likelyM b).1).2 ⟨h3, ?_⟩)
  unfold canM
  rw [h5, h4, decide_eq_true (by omega)]; rfl
theorem can_iff (b : Bk) (S : List Int) : canM b S = true ↔ badM b S b.seekers.length = false ∧ (wrongL b S b.seekers.length : Int) ≤ b.wrong ∧ seenM b S = true := by
 unfold canM
 simp only [Bool.and_eq_true, Bool.not_eq_true', decide_eq_true_eq, and_assoc]
end Go.Vel
end
section
set_option linter.all false
set_option maxRecDepth 20000
set_option maxHeartbeats 60000000
namespace Go.Vel
open Go Go.Conc Go.Proofs
/-! ### a book by its lists -/
def okSay (b : Bk) (x : Says) : Prop := isNameM x.name = true ∧ isStepM b x.frm = true ∧ isStepM b x.til = true ∧ 0 ≤ x.says ∧ x.says ≤ 2
theorem heardL_iff (b : Bk) : ∀ n, heardL b n = 0 ↔ ∀ i, i < n → heard1 b i = 0
 | 0 => ⟨fun _ i h => absurd h (Nat.not_lt_zero _), fun _ => rfl⟩
 | n + 1 => by
  have ih := heardL_iff b n
  unfold heardL
  constructor
  ·intro h i hi
   split at h
   ·rename_i h0
    by_cases e : i = n
    ·subst e; exact h
    ·exact ih.1 h0 i (by omega)
   ·rename_i h0; exact absurd h h0
  ·intro h
   rw [if_pos (ih.2 fun i hi => h i (by omega))]
   exact h n (by omega)
theorem heard1_iff {b : Bk} {i : Nat} (hi : i < b.seekers.length) : heard1 b i = 0 ↔ okSay b b.seekers[i] ∧ ∀ j, (hj : j < i) → b.seekers[j].name.toList ≠ b.seekers[i].name.toList := by
 unfold heard1 okSay
 rw [List.getElem?_eq_getElem hi]
 simp only
 have ha : ((b.seekers.take i).any fun o => o.name.toList == b.seekers[i].name.toList) = true ↔ ∃ j, ∃ hj : j < i, b.seekers[j].name.toList = b.seekers[i].name.toList := by
  rw [List.any_eq_true]
  constructor
  ·rintro ⟨x, hx, h⟩
   obtain ⟨j, hj, rfl⟩ := List.mem_iff_getElem.1 hx
   rw [List.length_take] at hj
   exact ⟨j, by omega, by simpa using h⟩
  ·rintro ⟨j, hj, h⟩
   exact ⟨b.seekers[j], List.mem_iff_getElem.2 ⟨j, by rw [List.length_take]; omega, by simp⟩, by simpa using h⟩
 cases h1 : isNameM b.seekers[i].name
 ·simp
 ·rw [if_neg (by simp)]
  cases h2 : ((b.seekers.take i).any fun o => o.name.toList == b.seekers[i].name.toList)
  ·rw [if_neg (by simp)]
   have h2' : ∀ j, (hj : j < i) → b.seekers[j].name.toList ≠ b.seekers[i].name.toList := fun j hj e => by rw [ha.2 ⟨j, hj, e⟩] at h2; cases h2
   cases h3 : isStepM b b.seekers[i].frm
   ·simp
   ·cases h4 : isStepM b b.seekers[i].til
    ·simp
    ·rw [if_neg (by simp)]
     by_cases h5 : b.seekers[i].says < 0
     ·simp [h5]; omega
     ·by_cases h6 : b.seekers[i].says > 2
      ·simp [h6]; omega
      ·rw [if_neg (by simp; omega)]
       exact ⟨fun _ => ⟨⟨rfl, rfl, rfl, by omega, by omega⟩, h2'⟩, fun _ => rfl⟩
  ·rw [if_pos rfl]
   obtain ⟨j, hj, e⟩ := ha.1 h2
   exact ⟨(fun h => by cases h), fun h => absurd e (h.2 j hj)⟩
theorem heard_ok_iff (b : Bk) : heardM b = 0 ↔ b.seekers.length ≤ 5 ∧ (∀ x ∈ b.seekers, okSay b x) ∧ (b.seekers.map (·.name.toList)).Nodup := by
 unfold heardM
 by_cases hl : b.seekers.length > 5
 ·rw [if_pos hl]; exact ⟨(fun h => by cases h), fun h => by omega⟩
 ·rw [if_neg hl, heardL_iff]
  constructor
  ·intro h
   refine ⟨by omega, fun x hx => ?_, ?_⟩
   ·obtain ⟨i, hi, rfl⟩ := List.mem_iff_getElem.1 hx
    exact ((heard1_iff hi).1 (h i hi)).1
   ·refine List.pairwise_iff_getElem.2 fun i j hi hj hij => ?_
    rw [List.length_map] at hi hj
    rw [List.getElem_map, List.getElem_map]
    exact ((heard1_iff hj).1 (h j hj)).2 i hij
  ·rintro ⟨_, h1, h2⟩ i hi
   refine (heard1_iff hi).2 ⟨h1 _ (List.getElem_mem hi), fun j hj => ?_⟩
   have := List.pairwise_iff_getElem.1 h2 j i (by rw [List.length_map]; omega) (by rw [List.length_map]; omega) hj
   rwa [List.getElem_map, List.getElem_map] at this
theorem looked_ok_iff (b : Bk) : lookedM b = 0 ↔ b.seen.length ≤ 4 ∧ ∀ x ∈ b.seen, isStepM b x.step = true := by
 unfold lookedM
 by_cases hl : b.seen.length > 4
 ·rw [if_pos hl]; exact ⟨(fun h => by cases h), fun h => by omega⟩
 ·rw [if_neg hl]
  cases ha : (b.seen.any fun x => !isStepM b x.step)
  ·rw [if_neg (by decide)]
   refine ⟨fun _ => ⟨by omega, fun x hx => ?_⟩, fun _ => rfl⟩
   have := List.any_eq_false.1 ha x hx
   simpa using this
  ·rw [if_pos rfl]
   obtain ⟨x, hx, h⟩ := List.any_eq_true.1 ha
   exact ⟨(fun h => by cases h), fun h2 => by rw [h2.2 x hx] at h; cases h⟩
theorem numbers_iff (b : Bk) : numbersM b = 0 ↔ 4 ≤ b.steps ∧ b.steps ≤ 16 ∧ 0 ≤ b.wrong ∧ b.wrong ≤ 3 ∧ 0 ≤ b.low ∧ b.low ≤ b.high ∧ b.high ≤ 3 := by
 constructor
 ·intro h; exact numbers_range (by rw [h]; rfl)
 ·intro h
  unfold numbersM
  simp only [cond_eq_if, Bool.or_eq_true, Bool.not_eq_true', Bool.and_eq_false_iff, decide_eq_false_iff_not, decide_eq_true_eq]
  rw [if_neg (by omega)]
theorem check_ok_iff (b : Bk) : checkM b = 0 ↔ (4 ≤ b.steps ∧ b.steps ≤ 16 ∧ 0 ≤ b.wrong ∧ b.wrong ≤ 3 ∧ 0 ≤ b.low ∧ b.low ≤ b.high ∧ b.high ≤ 3) ∧ (b.seekers.length ≤ 5 ∧ (∀ x ∈ b.seekers, okSay b x) ∧ (b.seekers.map (·.name.toList)).Nodup) ∧ b.seen.length ≤ 4 ∧ ∀ x ∈ b.seen, isStepM b x.step = true := by
 rw [check_iff, numbers_iff, heard_ok_iff, looked_ok_iff]
/-- Whether what one says is so. -/
def sayR (b : Bk) (S : List Int) (x : Says) : Bool := saysM x.says (inM b S x.frm (wideM b x))
theorem right_say {b : Bk} {S : List Int} {k : Nat} (hk : k < b.seekers.length) : rightM b S k = sayR b S b.seekers[k] := by
 unfold rightM
 rw [List.getElem?_eq_getElem hk]; rfl
theorem bad_list (b : Bk) (S : List Int) : badM b S b.seekers.length = b.seekers.any fun x => !sayR b S x && x.glass := by
 rw [Bool.eq_iff_iff]
 unfold badM
 simp only [List.any_eq_true, List.mem_range]
 constructor
 ·rintro ⟨k, hk, h⟩
  refine ⟨b.seekers[k], List.getElem_mem hk, ?_⟩
  rw [right_say hk] at h
  unfold glassM at h
  rw [List.getElem?_eq_getElem hk] at h
  exact h
 ·rintro ⟨x, hx, h⟩
  obtain ⟨k, hk, rfl⟩ := List.mem_iff_getElem.1 hx
  refine ⟨k, hk, ?_⟩
  rw [right_say hk]
  unfold glassM
  rw [List.getElem?_eq_getElem hk]
  exact h
theorem list_snoc {α : Type} {motive : List α → Prop} (nil : motive []) (append_singleton : ∀ l a, motive l → motive (l ++ [a])) (l : List α) : motive l := by
 rw [← List.reverse_reverse l]
 generalize l.reverse = r
 induction r with
 | nil => exact nil
 | cons a r ih => rw [List.reverse_cons]; exact append_singleton _ _ ih
theorem range_filter {α : Type} (g : Option α → Bool) (l : List α) : ((List.range l.length).filter fun k => g l[k]?).length = (l.filter fun x => g (some x)).length := by
 induction l using list_snoc with
 | nil => rfl
 | append_singleton l a ih =>
  rw [List.length_append, List.length_singleton, List.range_succ, List.filter_append, List.filter_append, List.length_append, List.length_append, ← ih]
  congr 1
  ·congr 1
   exact List.filter_congr fun k hk => by rw [List.getElem?_append_left (List.mem_range.1 hk)]
  ·simp [List.filter_cons]
   split <;> rfl
theorem wrong_list (b : Bk) (S : List Int) : wrongL b S b.seekers.length = (b.seekers.filter fun x => !sayR b S x).length := by
 have h := range_filter (fun o : Option Says => !(match o with | some x => saysM x.says (inM b S x.frm (wideM b x)) | none => false)) b.seekers
 exact h
theorem seen_list (b : Bk) (S : List Int) : seenM b S = true ↔ (b.low ≤ S.length ∧ (S.length : Int) ≤ b.high) ∧ ∀ x ∈ b.seen, decide (x.step ∈ S) = x.seam := by
 unfold seenM
 simp only [Bool.and_eq_true, decide_eq_true_eq, Bool.not_eq_true', List.any_eq_false, bne_iff_ne, ne_eq, Decidable.not_not]
/-! ### a book whose lists are the other way round -/
def revB (b : Bk) : Bk := { b with seekers := b.seekers.reverse, seen := b.seen.reverse }
theorem rev_check {b : Bk} (h : checkM b = 0) : checkM (revB b) = 0 := by
 obtain ⟨h1, ⟨h2, h3, h4⟩, h5, h6⟩ := (check_ok_iff b).1 h
 refine (check_ok_iff _).2 ⟨h1, ⟨?_, fun x hx => h3 x (List.mem_reverse.1 hx), ?_⟩, ?_, fun x hx => h6 x (List.mem_reverse.1 hx)⟩
 ·show b.seekers.reverse.length ≤ 5
  rw [List.length_reverse]; exact h2
 ·show (b.seekers.reverse.map _).Nodup
  rw [List.map_reverse]
  exact (List.reverse_perm _).nodup_iff.2 h4
 ·show b.seen.reverse.length ≤ 4
  rw [List.length_reverse]; exact h5
theorem rev_say (b : Bk) (S : List Int) (x : Says) : sayR (revB b) S x = sayR b S x := rfl
theorem rev_bad (b : Bk) (S : List Int) : badM (revB b) S (revB b).seekers.length = badM b S b.seekers.length := by
 rw [bad_list, bad_list]
 show (b.seekers.reverse.any fun x => !sayR b S x && x.glass) = _
 rw [List.any_reverse]
theorem rev_wrong (b : Bk) (S : List Int) : wrongL (revB b) S (revB b).seekers.length = wrongL b S b.seekers.length := by
 rw [wrong_list, wrong_list]
 show (b.seekers.reverse.filter fun x => !sayR b S x).length = _
 rw [List.filter_reverse, List.length_reverse]
theorem rev_seen (b : Bk) (S : List Int) : seenM (revB b) S = seenM b S := by
 rw [Bool.eq_iff_iff, seen_list, seen_list]
 show (b.low ≤ (S.length : Int) ∧ (S.length : Int) ≤ b.high) ∧ (∀ x ∈ b.seen.reverse, decide (x.step ∈ S) = x.seam) ↔ _
 simp only [List.mem_reverse]
theorem rev_can (b : Bk) (S : List Int) : canM (revB b) S = canM b S := by
 rw [Bool.eq_iff_iff, can_iff, can_iff, rev_bad, rev_wrong, rev_seen]; rfl
theorem rev_states {b : Bk} (h : checkM b = 0) : (statesM (revB b)).Perm (statesM b) := by
 refine (List.perm_ext_iff_of_nodup (states_nodup _) (states_nodup _)).2 fun S => ?_
 rw [mem_states (bkOk_of (rev_check h)), mem_states (bkOk_of h), rev_can]; rfl
theorem rev_guess {b : Bk} (h : checkM b = 0) (y : List Int × Int) : y ∈ guessM (revB b) (allM (revB b)) ↔ y ∈ guessM b (allM b) := by
 unfold guessM
 simp only [List.mem_map, List.mem_filter, all_sets (bkOk_of (rev_check h)), all_sets (bkOk_of h), rev_seen, rev_bad]
 have hw : ∀ S, wrongM (revB b) S = wrongM b S := fun S => by unfold wrongM; rw [rev_bad, rev_wrong]
 simp only [hw]
 exact Iff.rfl
theorem rev_likely {b : Bk} (h : checkM b = 0) : likelyM (revB b) = likelyM b ∧ (guessM (revB b) (allM (revB b)) = [] ↔ guessM b (allM b) = []) := by
 refine ⟨tot_guess.minL_same (rev_guess h), ?_⟩
 rw [List.eq_nil_iff_forall_not_mem, List.eq_nil_iff_forall_not_mem]
 exact ⟨fun h2 y hy => h2 y ((rev_guess h y).2 hy), fun h2 y hy => h2 y ((rev_guess h y).1 hy)⟩
theorem rev_within {b : Bk} (h : checkM b = 0) (lo w : Int) : withinM (revB b) (statesM (revB b)) lo w = withinM b (statesM b) lo w := withinM_perm (rev_states h) lo w
theorem rev_oft {b : Bk} (h : checkM b = 0) (n : Int) : oftM (statesM (revB b)) n = oftM (statesM b) n := oftM_perm (rev_states h) n
theorem rev_len {b : Bk} (h : checkM b = 0) : (statesM (revB b)).length = (statesM b).length := (rev_states h).length_eq
theorem rev_ask {b : Bk} (h : checkM b = 0) (t : Bool) : askM (revB b) t = askM b t := by
 unfold askM
 rw [h, rev_check h]
 have : statesM (revB b) = [] ↔ statesM b = [] := by rw [← List.length_eq_zero_iff, ← List.length_eq_zero_iff, rev_len h]
 simp only [this]
theorem rev_narrow {b : Bk} (h : checkM b = 0) : narrowApi (revB b) = narrowApi b := by
 have e : arcsOf (revB b) (List.range (revB b).steps.toNat) = arcsOf b (List.range b.steps.toNat) := by
  unfold arcsOf
  congr 1
  funext low
  unfold arcA arcK
  rw [show (revB b).steps = b.steps from rfl]
  simp only [rev_within h]
 unfold narrowApi narrowM
 rw [e, rev_ask h]
theorem rev_pick {b : Bk} (h : checkM b = 0) (v : Int) (n : Nat) : pickL (revB b) v n = pickL b v n := by
 unfold pickL
 simp only [rev_oft h, rev_len h]
theorem rev_right {b : Bk} {S : List Int} {k : Nat} (hk : k < b.seekers.length) : rightM (revB b) S (b.seekers.length - 1 - k) = rightM b S k := by
 rw [right_say (b := revB b) (by show _ < b.seekers.reverse.length; rw [List.length_reverse]; omega), right_say hk, rev_say]
 congr 1
 show b.seekers.reverse[b.seekers.length - 1 - k]'_ = _
 rw [List.getElem_reverse]
 congr 1
 omega
theorem rev_rights {b : Bk} (h : checkM b = 0) {k : Nat} (hk : k < b.seekers.length) : rightsM (revB b) (statesM (revB b)) (b.seekers.length - 1 - k) = rightsM b (statesM b) k := by
 rw [rightsM_perm (rev_states h)]
 unfold rightsM
 congr 2
 exact List.filter_congr fun S _ => rev_right hk
theorem rev_halves {b : Bk} (h : checkM b = 0) : askApi (revB b) = askApi b := by
 have e : ∀ N, halvesM ((statesM (revB b)).length : Nat) (fun k => isStepM (revB b) k) (fun k => oftM (statesM (revB b)) k) N = halvesM ((statesM b).length : Nat) (fun k => isStepM b k) (fun k => oftM (statesM b) k) N := fun N => by
  rw [rev_len h, show (fun k : Nat => oftM (statesM (revB b)) k) = fun k : Nat => oftM (statesM b) k from funext fun k => rev_oft h k]; rfl
 unfold askApi
 rw [rev_ask h, e, show (revB b).steps = b.steps from rfl]
end Go.Vel
end
section
set_option linter.all false
set_option maxRecDepth 20000
set_option maxHeartbeats 60000000
namespace Go.Vel
open Go Go.Conc Go.Proofs
theorem fit_ok {main : Bool} {T : Goroutine → Hp → Prop} (hT : Shut Tryz.prog main T) {gm : Nat → Option Nat} {b : Bk} {s e : Nat} (hse : s ≠ e) :
  CallK Tryz.prog T gm 11 [.agg (bookC b s e)] [(s, saysO b), (e, seenO b)] (fun r K' => r = boolA (fitM b) ∧ K' = [(s, saysO b), (e, seenO b)]) := by
 refine callK_in 11 hT Tryz.func11 fun Y hret => ?_
 refine au [4, 5, 21] ?_
 intro jb hjb
 refine au [2, 3, 4, 5, 8] ?_
 refine TK.cl rfl rfl rfl rfl (great_ok hT (s := s) (e := e)) ?_
 rintro r1 K2 ⟨rfl, rfl⟩
 refine au [30, 1] ?_
 refine TK.sp 6 (fun g1_4 => ?_) (fun g1_4 => ?_)
 ·obtain ⟨hs1, hs2, hs3⟩ := great_small (b := b) (by simpa using g1_4)
  refine au [8] ?_
  refine TK.cl rfl rfl rfl rfl (checkR_ok hT hse (fun x hx => Nat.le_trans (hs3 x hx) (by omega)) (by omega) (by omega)) ?_
  rintro r4 K5 ⟨rfl, rfl⟩
  refine au [6, 26, 2, 3] ?_
  refine TK.rt hret [(s, _), (e, _)] ?_
  exact ⟨by unfold fitM; rw [g1_4, Bool.true_and]; rfl, rfl⟩
 refine au [11, 11, 11, 25, 2, 3] ?_
 refine TK.rt hret [(s, _), (e, _)] ?_
 exact ⟨by unfold fitM; rw [g1_4, Bool.false_and]; rfl, rfl⟩

theorem leaves_ok {main : Bool} {T : Goroutine → Hp → Prop} (hT : Shut Tryz.prog main T)  {b : Bk} {s e : Nat} (hse : s ≠ e) (hf : Fits9 b) (hroom : b.seen.length < 4) {i : Nat} (hi : (i : Int) < b.steps) :
  CallK Tryz.prog T gmS 27 [.agg (bookC b s e), intA i] [(0, checksG), (1, saysG), (s, saysO b), (e, seenO b)] (fun r K' => r = .tup [intA (maxM (oftM (statesM b) i) ((statesM b).length - oftM (statesM b) i)), boolA true] ∧ K' = [(0, checksG), (1, saysG), (s, saysO b), (e, seenO b)]) := by
 refine callK_in 35 hT Tryz.func27 fun Y hret => ?_
 refine au [] ?_
 have hck := hf.check
 have hb := bkOk_of hck
 have hst : isStepM b i = true := by unfold isStepM; simp only [Bool.and_eq_true, decide_eq_true_eq]; omega
 have hc1 := check_look (x := ⟨i, true⟩) hck hst hroom
 have hc2 := check_look (x := ⟨i, false⟩) hck hst hroom
 have hm1 := many_look hb (bkOk_of hc1)
 have hm2 := many_look hb (bkOk_of hc2)
 rw [if_pos rfl] at hm1
 rw [if_neg (by decide)] at hm2
 have hs1 := states_one hc1
 have hs2 := states_one hc2
 refine au [4, 5, 21] ?_
 intro jb hjb
 refine au [2, 2, 3, 4, 5, 8, 1, 39] ?_
 refine TK.cl rfl rfl rfl rfl (lookedR_ok hT (x := ⟨i, true⟩) hf.seen) ?_
 rintro r1 K2 ⟨j3, rfl, rfl⟩
 refine au [] ?_
 refine TK.nd fun hnd => ?_
 have hjj : s ≠ j3 := fun h => by subst h; simp [keys] at hnd
 refine TK.cl rfl rfl rfl rfl (statesApi_ok hT (b := lookB b ⟨i, true⟩) hjj hf.names (by simp [lookB]; omega)) ?_
 rintro r4 K5 ⟨rfl, rfl⟩
 refine au [] ?_
 rw [hs1.1, hs1.2, hm1]
 refine au [1, 10, 10, 2, 2, 3, 4] ?_
 refine TK.kp [(jb, _), (0, _), (1, _), (s, _), (e, _)] ?_
 refine au [5, 8, 1, 39] ?_
 refine TK.cl rfl rfl rfl rfl (lookedR_ok hT (x := ⟨i, false⟩) hf.seen) ?_
 rintro r7 K8 ⟨j4, rfl, rfl⟩
 refine au [] ?_
 refine TK.nd fun hnd => ?_
 have hjj2 : s ≠ j4 := fun h => by subst h; simp [keys] at hnd
 refine TK.cl rfl rfl rfl rfl (statesApi_ok hT (b := lookB b ⟨i, false⟩) hjj2 hf.names (by simp [lookB]; omega)) ?_
 rintro r10 K11 ⟨rfl, rfl⟩
 refine au [] ?_
 rw [hs2.1, hs2.2, hm2]
 refine au [1, 10, 10, 2, 2, 3, 4, 5, 1, 1] ?_
 refine TK.a rfl (q_max rfl rfl rfl) ?_
 refine au [1, 6, 1] ?_
 refine TK.sp 31 (fun g3_6 => ?_) (fun g3_6 => ?_)
 ·refine au [1, 6, 26, 2, 2, 3] ?_
  refine TK.rt hret [(0, _), (1, _), (s, _), (e, _)] ?_
  exact ⟨rfl, rfl⟩
 simp at g3_6
end Go.Vel
end
section
set_option linter.all false
set_option maxRecDepth 20000
set_option maxHeartbeats 60000000
namespace Go.Vel
open Go Go.Conc Go.Proofs
instance : Cal Tryz.prog 15 := ⟨by kernel_rfl⟩
end Go.Vel
end
section
set_option linter.all false
set_option maxRecDepth 20000
set_option maxHeartbeats 60000000
namespace Go.Vel
open Go Go.Conc Go.Proofs

theorem at_bar {b : Bk} {i : Int} (hs : isStepM b i = true) : (atApi b i).2 = askM b true ∧ (askM b true ≠ 0 → (atApi b i).1 = 0) ∧ (askM b true = 0 → (atApi b i).1 = wordM (statesM b).length (oftM (statesM b) i)) := by
 unfold atApi
 rw [hs]
 by_cases h : askM b true = 0
 ·rw [if_neg (by simp [h]), h]; exact ⟨rfl, fun h2 => absurd rfl h2, fun _ => rfl⟩
 ·rw [if_pos h]; exact ⟨rfl, fun _ => rfl, fun h2 => absurd h2 h⟩
/-- Once it was looked: there is a state just if there can be one. -/
theorem look_can {b : Bk} {i : Int} {t : Bool} (hc : checkM b = 0) (hs : isStepM b i = true) (hl : checkM (lookB b ⟨i, t⟩) = 0) : (((atApi b i).2 == 0) && (((atApi b i).1 == 0) || (((atApi b i).1 == 1) == t))) = (newsM b (lookB b ⟨i, t⟩) == 0) := by
 have hb := bkOk_of hc
 have ho := bkOk_of hl
 have hn : newsM b (lookB b ⟨i, t⟩) = askM (lookB b ⟨i, t⟩) true := by unfold newsM; rw [if_neg (by simp [hc])]
 obtain ⟨a1, a2, a3⟩ := at_bar hs
 rw [hn, a1, Bool.eq_iff_iff, beq_iff_eq, (ask_iff hl).1]
 have hmem := states_look (x := ⟨i, t⟩) hb ho
 by_cases h0 : askM b true = 0
 ·have hne := (ask_iff hc).1.1 h0
  rw [h0, a3 h0]
  obtain ⟨w1, w2, w3⟩ := word_at hne i
  have hex : (statesM (lookB b ⟨i, t⟩) ≠ []) ↔ ∃ S ∈ statesM b, decide (i ∈ S) = t := by
   constructor
   ·intro h
    obtain ⟨S, hS⟩ := List.exists_mem_of_ne_nil _ h
    exact ⟨S, (hmem S).1 hS⟩
   ·rintro ⟨S, h1, h2⟩; exact List.ne_nil_of_mem ((hmem S).2 ⟨h1, h2⟩)
  rw [hex]
  obtain ⟨S0, hS0⟩ := List.exists_mem_of_ne_nil _ hne
  have hcs : wordM (statesM b).length (oftM (statesM b) i) = 1 ∨ wordM (statesM b).length (oftM (statesM b) i) = 2 ∨ wordM (statesM b).length (oftM (statesM b) i) = 0 := by
   unfold wordM; (repeat' split) <;> simp
  rcases hcs with h | h | h
  ·have hall := w1.1 h
   rw [h]
   constructor
   ·intro h2
    have ht : t = true := by cases t <;> simp_all
    exact ⟨S0, hS0, by rw [ht]; exact decide_eq_true (hall S0 hS0)⟩
   ·rintro ⟨S, h1, h2⟩
    rw [decide_eq_true (hall S h1)] at h2
    rw [← h2]; rfl
  ·have hall := w2.1 h
   rw [h]
   constructor
   ·intro h2
    have ht : t = false := by cases t <;> simp_all
    exact ⟨S0, hS0, by rw [ht]; exact decide_eq_false (hall S0 hS0)⟩
   ·rintro ⟨S, h1, h2⟩
    rw [decide_eq_false (hall S h1)] at h2
    rw [← h2]; rfl
  ·obtain ⟨⟨S, h1, h2⟩, T, h3, h4⟩ := w3.1 h
   rw [h]
   refine ⟨fun _ => ?_, fun _ => rfl⟩
   cases t with
   | true => exact ⟨S, h1, decide_eq_true h2⟩
   | false => exact ⟨T, h3, decide_eq_false h4⟩
 ·have h9 := (ask_iff hc).2.2.resolve_left h0
  have he := (ask_iff hc).2.1.1 h9
  rw [h9]
  constructor
  ·intro h; simp at h
  ·intro h
   obtain ⟨S, hS⟩ := List.exists_mem_of_ne_nil _ h
   have := ((hmem S).1 hS).1
   rw [he] at this
   cases this
theorem look_word {b : Bk} {i : Int} {t : Bool} (hb : BkOk b) (ho : BkOk (lookB b ⟨i, t⟩)) (hne : statesM (lookB b ⟨i, t⟩) ≠ []) : wordM (statesM (lookB b ⟨i, t⟩)).length (oftM (statesM (lookB b ⟨i, t⟩)) i) = if t = true then 1 else 2 := by
 obtain ⟨w1, w2, _⟩ := word_at hne i
 have hmem := states_look (x := ⟨i, t⟩) hb ho
 cases t with
 | true => rw [if_pos rfl]; exact w1.2 fun S hS => of_decide_eq_true ((hmem S).1 hS).2
 | false => rw [if_neg (by decide)]; exact w2.2 fun S hS => of_decide_eq_false ((hmem S).1 hS).2
def sumM (b : Bk) (i : Int) : Nat → Int
 | 0 => 0
 | k + 1 => sumM b i k + (statesM (lookB b ⟨i, ((k : Int) == 1)⟩)).length
theorem sum_two {b : Bk} {i : Int} (hb : BkOk b) (h0 : BkOk (lookB b ⟨i, false⟩)) (h1 : BkOk (lookB b ⟨i, true⟩)) : sumM b i 2 = (statesM b).length := by
 have e0 := many_look hb h0
 have e1 := many_look hb h1
 rw [if_neg (by decide)] at e0
 rw [if_pos rfl] at e1
 show 0 + ((statesM (lookB b ⟨i, false⟩)).length : Int) + (statesM (lookB b ⟨i, true⟩)).length = _
 omega
theorem glass_right {b : Bk} (hb : BkOk b) {q : Nat} (hq : q < b.seekers.length) (hg : glassB b q = true) {S : List Int} (hS : S ∈ statesM b) : rightM b S q = true := by
 have h1 := ((can_iff b S).1 ((mem_states hb S).1 hS).2).1
 cases hr : rightM b S q with
 | true => rfl
 | false =>
  have := badM_of (b := b) (S := S) hq hr (by unfold glassB at hg; unfold glassM; exact hg)
  rw [this] at h1; cases h1

theorem sum_bd {b : Bk} {i : Int} (h : ∀ t, (statesM (lookB b ⟨i, t⟩)).length ≤ 65536) : ∀ k : Nat, k ≤ 2 → 0 ≤ sumM b i k ∧ sumM b i k ≤ 65536 * k
 | 0, _ => ⟨Int.le_refl _, by show (0 : Int) ≤ _; omega⟩
 | k + 1, hk => by
  have ih := sum_bd h k (by omega)
  have h1 := h ((k : Int) == 1)
  show 0 ≤ sumM b i k + _ ∧ sumM b i k + _ ≤ _
  omega
theorem lawNoOthers_top {R : Value → World → Prop} {b : Bk} {s e : Nat} {k1 k2 : Int} (hse : s ≠ e) (hk1 : 0 ≤ k1 ∧ k1 < 256) (hk2 : 0 ≤ k2 ∧ k2 < 256) {A : List AObj} {φ : Nat → Loc3} {F H : Hp} {vs : Array Value} (hv : View [(0, checksG), (1, saysG), (s, saysO b), (e, seenO b)] A) (hn0 : (keys [(0, checksG), (1, saysG), (s, saysO b), (e, seenO b)]).Nodup) (hg : RelG gmS φ A.length) (hH : RelH φ A F H) (hargs : RelL φ A.length [.agg (bookC b s e), .v (.int .u8 k1), .v (.int .u8 k2)] vs)
  (hR : ∀ r K' φ' A' H' v w, (fun r K' => r = boolA true ∧ K' = [(0, checksG), (1, saysG), (s, saysO b), (e, seenO b)]) r K' → RelH φ' A' F H' → RelV φ' A'.length r v → Fits H' w → R v w) : BT Tryz.prog (AtRet Tryz.prog 5 R) (G (Frame.enter Tryz.prog 5 vs .normal) []) H := by
 have hT := shut_BT tame (AtRet Tryz.prog 5 R)
 refine topK_in 258 tame (Post := fun r K' => r = boolA true ∧ K' = [(0, checksG), (1, saysG), (s, saysO b), (e, seenO b)]) Tryz.func5 hv hn0 hg hH hargs hR fun Y hret => ?_
 refine au [4, 5, 21] ?_
 intro jb hjb
 refine au [2, 3, 4, 4, 5, 8] ?_
 refine TK.cl rfl rfl rfl rfl (fit_ok hT hse) ?_
 rintro r1 K2 ⟨rfl, rfl⟩
 refine au [30, 1] ?_
 refine TK.sp 29 (fun g1_4 => ?_) (fun g1_4 => ?_)
 ·refine au [11, 11, 11, 11, 26, 3, 18, 4, 5] ?_
  refine TK.cl rfl rfl rfl rfl (sought_ok tame) ?_
  rintro r4 K5 ⟨rfl, rfl⟩
  refine au [2, 3] ?_
  refine TK.rt hret [(0, _), (1, _), (s, _), (e, _)] ?_
  exact ⟨rfl, rfl⟩
 have hf := fit_of (b := b) (by simpa using g1_4)
 have hck := hf.check
 have hb := bkOk_of hck
 have hst := hb.steps
 have hns := hb.ns
 have hne := hb.ne
 refine au [7, 9, 28, 6, 25, 3, 20] ?_
 refine ⟨fun hc0 => ?_, fun hc0 => ?_⟩
 ·refine au [4, 5] ?_
  refine TK.cl rfl rfl rfl rfl (sought_ok tame) ?_
  rintro r7 K8 ⟨rfl, rfl⟩
  refine au [2, 3] ?_
  refine TK.rt hret [(0, _), (1, _), (s, _), (e, _)] ?_
  exact ⟨rfl, rfl⟩
 have hroom : b.seen.length < 4 := by have := of_decide_eq_false hc0; omega
 refine au [12, 4, 5, 1] ?_
 refine TK.a rfl (q_convInt rfl rfl Und.h Und.h (wrap_i64 (by omega))) ?_
 refine au [7, 9] ?_
 refine TK.a rfl (q_rem rfl rfl rfl (by omega) (by omega)) ?_
 refine au [2] ?_
 have hst1 := step_emod hb k1
 obtain ⟨i, hi⟩ : ∃ i, i = k1 % b.steps := ⟨_, rfl⟩
 rw [← hi] at hst1 ⊢
 obtain ⟨a1, a2, a3⟩ := at_bar hst1
 have hcl : ∀ t, checkM (lookB b ⟨i, t⟩) = 0 := fun t => check_look hck hst1 hroom
 refine au [3, 4, 5, 8] ?_
 refine TK.cl rfl rfl rfl rfl (statesApi_ok hT hse hf.names hf.seen) ?_
 rintro r10 K11 ⟨rfl, rfl⟩
 refine au [] ?_
 rw [(states_one hck).1, (states_one hck).2]
 refine au [1, 10, 10, 2, 2, 3, 4, 5, 8, 1] ?_
 refine TK.cl rfl rfl rfl rfl (atApi_ok hT (n := i) hse hf.names hf.seen) ?_
 rintro r13 K14 ⟨rfl, rfl⟩
 refine au [1, 10, 10, 2, 2, 3, 4, 4] ?_
 refine TK.share (fun _ _ _ _ => slotsA 258 [(2, .v (.int .u8 k2)), (3, .ptr jb 0), (7, intA i), (8, intA (statesM b).length), (10, intA (atApi b i).1), (11, intA (atApi b i).2), (72, boolA false)]) (fun _ _ _ _ => (jb, .cells (bookC b s e) 27 true) :: (0, checksG) :: (1, saysG) :: (s, saysO b) :: (e, seenO b) :: []) (fun hcont => ?_) (fun _ _ _ _ => ?_)
 ·skip
  refine au [5, 1, 6, 1] ?_
  refine TK.sp 54 (fun g6_3 => ?_) (fun g6_3 => ?_)
  ·cases g6_3
  refine au [1, 6, 1, 6, 34, 25, 1] ?_
  refine TK.sp 61 (fun g6_10 => ?_) (fun g6_10 => ?_)
  ·rw [a1, ask_pos hck] at g6_10
   simp at g6_10
  refine au [1, 6, 1] ?_
  refine TK.sp 64 (fun g6_13 => ?_) (fun g6_13 => ?_)
  ·have h9 : askM b true ≠ 0 := by rw [← a1]; simpa using g6_13
   have hu0 : ((atApi b i).1 != 0) = false := by rw [a2 h9]; rfl
   refine au [1, 6, 1] ?_
   refine TK.sp 67 (fun g6_16 => ?_) (fun g6_16 => ?_)
   ·rw [a1, (ask_iff hck).2.2.resolve_left h9] at g6_16
    cases g6_16
   refine au [1, 6] ?_
   rw [hu0]
   refine au [25, 26, 25, 3] ?_
   refine TK.maskL [2, 3, 7, 8, 10, 11, 72] ?_
   refine TK.kp ((jb, _) :: (0, _) :: (1, _) :: (s, _) :: (e, _) :: []) ?_
   exact hcont 0 0 0 0
  refine au [11, 11, 11, 11, 11, 11, 25, 25, 3] ?_
  refine TK.maskL [2, 3, 7, 8, 10, 11, 72] ?_
  refine TK.kp ((jb, _) :: (0, _) :: (1, _) :: (s, _) :: (e, _) :: []) ?_
  exact hcont 0 0 0 0
 ·skip
  refine au [20] ?_
  refine ⟨fun hc1 => ?_, fun hc1 => ?_⟩
  ·cases hc1
  refine au [12, 4, 5, 2, 3, 4, 4, 5, 2, 3, 13] ?_
  refine TK.maskL [2, 3, 7, 8, 10, 11, 12, 13] ?_
  refine TK.loopN (fun n env K => ∃ (k : Nat), n = 2 - k ∧ k ≤ 2 ∧ env = slotsA 258 [(2, .v (.int .u8 k2)), (3, .ptr jb 0), (7, intA i), (8, intA (statesM b).length), (10, intA (atApi b i).1), (11, intA (atApi b i).2), (12, intA (sumM b i k)), (13, intA k)] ∧ K = (jb, .cells (bookC b s e) 27 true) :: (0, checksG) :: (1, saysG) :: (s, saysO b) :: (e, seenO b) :: []) 2 ⟨0, rfl, Nat.zero_le _, rfl, rfl⟩ fun n env K hI hnext => ?_
  obtain ⟨k, rfl, hk, rfl, rfl⟩ := hI
  have hsum := sum_bd (fun t => statesM_len (bkOk_of (hcl t))) k (by omega)
  refine au [4, 4, 5, 1, 6, 3, 20] ?_
  refine ⟨fun hc2 => ?_, fun hc2 => ?_⟩
  ·simp only [decide_eq_true_eq] at hc2
   have hcan := look_can hck hst1 (hcl ((k : Int) == 1))
   have hcl2 := hcl ((k : Int) == 1)
   have hol := bkOk_of hcl2
   have hlen := statesM_len hol
   refine au [12, 4, 13, 4, 5, 8, 1, 1, 6] ?_
   refine TK.cl rfl rfl rfl rfl (look_ok hT (n := i) (sm := ((k : Int) == 1)) hse hf.names hf.seen) ?_
   rintro r16 K17 h18
   rcases h18 with ⟨hn1, rfl, rfl⟩ | ⟨hn1, j7, j8, rfl, rfl⟩
   ·refine au [] ?_
    have h9 : newsM b (lookB b ⟨i, ((k : Int) == 1)⟩) = 9 := by
     rcases news_look (x := ⟨i, ((k : Int) == 1)⟩) hck hst1 hn1 with h | h
     ·unfold newsM at h; rw [if_neg (by simp [hck])] at h; rcases (ask_iff hcl2).2.2 with h2 | h2 <;> rw [h2] at h <;> cases h
     ·exact h
    rw [h9] at hcan ⊢
    have hz : ((statesM (lookB b ⟨i, ((k : Int) == 1)⟩)).length : Int) = 0 := by
     unfold newsM at h9; rw [if_neg (by simp [hck])] at h9; exact states_zero.1 ((ask_iff hcl2).2.1.1 h9)
    refine au [1, 10, 10, 22] ?_
    intro jo hjo
    refine au [17, 2, 3, 4, 5, 1, 6, 1] ?_
    refine TK.sp 87 (fun g13_3 => ?_) (fun g13_3 => ?_)
    ·refine au [1, 6, 1] ?_
     refine TK.sp 90 (fun g13_6 => ?_) (fun g13_6 => ?_)
     ·rw [g13_3, g13_6] at hcan
      cases hcan
     have hY : (((atApi b i).1 == 1) == ((k : Int) == 1)) = false := by rw [g13_3, g13_6] at hcan; simpa using hcan
     refine au [1, 6, 1, 6, 34, 25, 26, 2, 3, 4, 4, 5, 1, 6, 1, 34, 1] ?_
     refine TK.sp 102 (fun g14_5 => ?_) (fun g14_5 => ?_)
     ·rw [hY] at g14_5
      cases g14_5
     refine au [1, 6, 1] ?_
     refine TK.sp 105 (fun g14_8 => ?_) (fun g14_8 => ?_)
     ·skip
      refine au [1, 6, 1] ?_
      refine TK.sp 108 (fun g14_11 => ?_) (fun g14_11 => ?_)
      ·cases g14_11
      refine au [8, 43] ?_
      refine TK.cl rfl rfl rfl rfl (same0_ok hT) ?_
      rintro r19 K20 ⟨rfl, rfl⟩
      refine au [30, 25, 26, 25, 3, 20] ?_
      refine ⟨fun hc3 => ?_, fun hc3 => ?_⟩
      ·cases hc3
      refine au [12, 4, 4, 5, 1, 6, 3, 20] ?_
      refine ⟨fun hc4 => ?_, fun hc4 => ?_⟩
      ·skip
       refine au [16, 5, 1, 23, 2, 3] ?_
       refine TK.maskL [2, 3, 7, 8, 10, 11, 12, 13] ?_
       refine TK.kp (((jb, _) :: (0, _) :: (1, _) :: (s, _) :: (e, _) :: [])) ?_
       exact hnext _ _ _ (by omega) ⟨k + 1, rfl, by omega, by rw [show sumM b i (k + 1) = sumM b i k from by show sumM b i k + _ = _; rw [hz, Int.add_zero]] <;> rfl, rfl⟩
      cases hc4
     cases g14_8
    skip
    refine au [11, 11, 11, 11, 11, 11, 11, 11, 11, 25, 2, 3, 4, 4, 5, 1, 6, 1, 34, 1] ?_
    refine TK.sp 102 (fun g14_5 => ?_) (fun g14_5 => ?_)
    ·cases g14_5
    refine au [1, 6, 1] ?_
    refine TK.sp 105 (fun g14_8 => ?_) (fun g14_8 => ?_)
    ·skip
     refine au [1, 6, 1] ?_
     refine TK.sp 108 (fun g14_11 => ?_) (fun g14_11 => ?_)
     ·cases g14_11
     refine au [8, 43] ?_
     refine TK.cl rfl rfl rfl rfl (same0_ok hT) ?_
     rintro r22 K23 ⟨rfl, rfl⟩
     refine au [30, 25, 26, 25, 3, 20] ?_
     refine ⟨fun hc3 => ?_, fun hc3 => ?_⟩
     ·cases hc3
     refine au [12, 4, 4, 5, 1, 6, 3, 20] ?_
     refine ⟨fun hc4 => ?_, fun hc4 => ?_⟩
     ·skip
      refine au [16, 5, 1, 23, 2, 3] ?_
      refine TK.maskL [2, 3, 7, 8, 10, 11, 12, 13] ?_
      refine TK.kp (((jb, _) :: (0, _) :: (1, _) :: (s, _) :: (e, _) :: [])) ?_
      exact hnext _ _ _ (by omega) ⟨k + 1, rfl, by omega, by rw [show sumM b i (k + 1) = sumM b i k from by show sumM b i k + _ = _; rw [hz, Int.add_zero]] <;> rfl, rfl⟩
     cases hc4
    cases g14_8
   ·refine au [] ?_
    rw [hn1] at hcan
    have hln := (news_zero hck hn1).2
    refine TK.nd fun hnd => ?_
    have hj78 : j7 ≠ j8 := fun h => by subst h; simp [keys] at hnd
    have hso := states_one hcl2
    have hl0 := (ask_iff hcl2).1.2 hln
    have hat := at_one (b := (lookB b ⟨i, ((k : Int) == 1)⟩)) (n := i) hl0 hst1
    have hwd := look_word hb hol hln
    have hpos : ((statesM (lookB b ⟨i, ((k : Int) == 1)⟩)).length : Int) ≠ 0 := fun h => hln (states_zero.2 h)
    refine au [1, 10, 10, 22] ?_
    intro jo hjo
    refine au [17, 2, 3, 4, 5, 1, 6, 1] ?_
    refine TK.sp 87 (fun g13_3 => ?_) (fun g13_3 => ?_)
    ·refine au [1, 6, 1] ?_
     refine TK.sp 90 (fun g13_6 => ?_) (fun g13_6 => ?_)
     ·skip
      refine au [11, 11, 11, 11, 11, 26, 26, 2, 3, 4, 4, 5, 1, 6, 1, 34, 1] ?_
      refine TK.sp 102 (fun g14_5 => ?_) (fun g14_5 => ?_)
      ·cases g14_5
      refine au [1, 6, 1] ?_
      refine TK.sp 105 (fun g14_8 => ?_) (fun g14_8 => ?_)
      ·cases g14_8
      skip
      refine au [11, 11, 11, 11, 11, 11, 11, 11, 25, 25, 3, 19, 12, 4, 4, 5, 1, 6, 3, 20] ?_
      refine ⟨fun hc4 => ?_, fun hc4 => ?_⟩
      ·cases hc4
      skip
      refine au [12, 4, 5, 8] ?_
      refine TK.cl rfl rfl rfl rfl (statesApi_ok hT (b := (lookB b ⟨i, ((k : Int) == 1)⟩)) hj78 hf.names (by simp [lookB]; omega)) ?_
      rintro r25 K26 ⟨rfl, rfl⟩
      refine au [] ?_
      rw [hso.1, hso.2]
      refine au [1, 10, 10, 2, 2, 3, 4, 5, 8, 1] ?_
      refine TK.cl rfl rfl rfl rfl (atApi_ok hT (b := (lookB b ⟨i, ((k : Int) == 1)⟩)) (n := i) hj78 hf.names (by simp [lookB]; omega)) ?_
      rintro r28 K29 ⟨rfl, rfl⟩
      refine au [] ?_
      rw [hat.1, hat.2, hwd]
      refine au [1, 10, 10, 2, 2, 3, 4, 4] ?_
      refine TK.draw [0, 1, 2, 3, 4, 5, 6, 7, 8, 9, 10, 11, 12, 13, 14, 15, 16, 17, 18, 19, 20, 21, 22, 23, 24, 25, 26, 27, 28, 29, 30, 31] [0, 1, 2, 3, 4, 5, 6, 7, 8, 9, 10, 11, 12, 13, 14, 15, 16, 17, 18, 19, 20, 21, 22, 23, 24, 25, 26, 27, 28, 29, 30, 31] (by kernel_rfl) (by kernel_rfl) ?_
      refine TD.z [18] rfl (q_move rfl rfl) ?_
      refine TD.z [129] rfl (q_cmp rfl rfl rfl rfl) ?_
      refine TD.z [130] rfl (q_move rfl rfl) ?_
      refine TD.sp 131 (fun g19_3 => ?_) (fun g19_3 => ?_)
      ·cases g19_3
      refine TD.z [20, 131] rfl (q_move rfl rfl) ?_
      refine TD.z [131, 132] rfl (q_cmp rfl rfl rfl rfl) ?_
      refine TD.z [131, 133] rfl (q_pickF rfl rfl rfl) ?_
      refine TD.z [134] rfl (q_move rfl rfl) ?_
      refine TD.sp 135 (fun g19_7 => ?_) (fun g19_7 => ?_)
      ·cases g19_7
      refine TD.z [17, 135] rfl (q_move rfl rfl) ?_
      refine TD.z [135, 136] rfl (q_cmp rfl rfl rfl rfl) ?_
      refine TD.z [135, 137] rfl (q_pickF rfl rfl rfl) ?_
      refine TD.z [138] rfl (q_move rfl rfl) ?_
      refine TD.sp 139 (fun g19_11 => ?_) (fun g19_11 => ?_)
      ·have := of_decide_eq_true g19_11
       omega
      refine TD.z [19, 139] rfl (q_move rfl rfl) ?_
      refine TD.z [139, 140] rfl (q_cmp rfl rfl rfl rfl) ?_
      refine TD.z [139, 141] rfl (q_pickF rfl rfl rfl) ?_
      refine TD.z [142] rfl (q_move rfl rfl) ?_
      refine TD.sp 143 (fun g19_15 => ?_) (fun g19_15 => ?_)
      ·split at g19_15 <;> cases g19_15
      refine TD.z [19, 143] rfl (q_move rfl rfl) ?_
      refine TD.z [143, 144] rfl (q_cmp rfl rfl rfl rfl) ?_
      refine TD.z [13, 143] rfl (q_move rfl rfl) ?_
      refine TD.z [143, 146] rfl (q_cmp rfl rfl rfl rfl) ?_
      refine TD.z [143, 145, 147] rfl (q_cmpB rfl rfl rfl Und.h rfl) ?_
      refine TD.z [143, 148] rfl (q_pickF rfl rfl rfl) ?_
      refine TD.z [149] rfl (q_move rfl rfl) ?_
      refine TD.sp 150 (fun g19_22 => ?_) (fun g19_22 => ?_)
      ·cases hkk : ((k : Int) == 1) <;> rw [hkk] at g19_22 <;> cases g19_22
      refine TD.y [14, 150] rfl (hq := q_load rfl rfl TySz.h (List.Mem.head _) rfl) (h := ?_)
      refine TD.y [3, 150] rfl (hq := q_load rfl rfl TySz.h (List.Mem.head _) rfl) (h := ?_)
      refine TD.z [7, 150] rfl (q_move rfl rfl) ?_
      refine TD.z [13, 150] rfl (q_move rfl rfl) ?_
      refine TD.z [150, 154] rfl (q_cmp rfl rfl rfl rfl) ?_
      refine TD.z [150, 153, 155] rfl (q_build (l := [_, _]) rfl TyZ.h BlOf.h rfl) ?_
      refine TD.cl (pend' := [⟨26, [150, 154], []⟩, ⟨25, [13, 150], []⟩, ⟨24, [7, 150], []⟩, ⟨22, [14, 150], [(_, _)]⟩, ⟨20, [143, 148], []⟩, ⟨19, [143, 145, 147], []⟩, ⟨18, [143, 146], []⟩, ⟨17, [13, 143], []⟩, ⟨16, [143, 144], []⟩, ⟨15, [19, 143], []⟩, ⟨14, [142], []⟩, ⟨13, [139, 141], []⟩, ⟨12, [139, 140], []⟩, ⟨11, [19, 139], []⟩, ⟨10, [138], []⟩, ⟨9, [135, 137], []⟩, ⟨8, [135, 136], []⟩, ⟨7, [17, 135], []⟩, ⟨6, [134], []⟩, ⟨5, [131, 133], []⟩, ⟨4, [131, 132], []⟩, ⟨3, [20, 131], []⟩, ⟨2, [130], []⟩, ⟨1, [129], []⟩, ⟨0, [18], []⟩]) [150, 152, 156] rfl rfl rfl rfl rfl (lookedR_ok hT (x := ⟨i, ((k : Int) == 1)⟩) hf.seen) (fun r31 K32 h33 => ⟨?_, ?_⟩)
      ·rcases h33 with ⟨j9, rfl, rfl⟩
       all_goals simp
      obtain ⟨j9, rfl, rfl⟩ := h33
      try simp only [List.cons_append, List.nil_append]
      refine TD.norm (by simp only [List.set]; rfl) ?_
      refine TD.cl (pend' := [⟨26, [150, 154], []⟩, ⟨25, [13, 150], []⟩, ⟨24, [7, 150], []⟩, ⟨20, [143, 148], []⟩, ⟨19, [143, 145, 147], []⟩, ⟨18, [143, 146], []⟩, ⟨17, [13, 143], []⟩, ⟨16, [143, 144], []⟩, ⟨15, [19, 143], []⟩, ⟨14, [142], []⟩, ⟨13, [139, 141], []⟩, ⟨12, [139, 140], []⟩, ⟨11, [19, 139], []⟩, ⟨10, [138], []⟩, ⟨9, [135, 137], []⟩, ⟨8, [135, 136], []⟩, ⟨7, [17, 135], []⟩, ⟨6, [134], []⟩, ⟨5, [131, 133], []⟩, ⟨4, [131, 132], []⟩, ⟨3, [20, 131], []⟩, ⟨2, [130], []⟩, ⟨1, [129], []⟩, ⟨0, [18], []⟩]) [150, 151, 157] rfl rfl rfl rfl rfl (sameB_ok hT (b := (lookB b ⟨i, ((k : Int) == 1)⟩)) (s1 := j7) (e1 := j8) (s2 := s) (e2 := j9) (by simp [hearB, lookB, giveB]; omega) (by simp [hearB, lookB, giveB]; omega)) (fun r34 K35 h36 => ⟨?_, ?_⟩)
      ·rcases h36 with ⟨rfl, rfl⟩
       all_goals simp
      obtain ⟨rfl, rfl⟩ := h36
      try simp only [List.cons_append, List.nil_append]
      refine TD.norm (by simp only [List.set]; rfl) ?_
      refine TD.z [150, 158] rfl (q_not rfl rfl) ?_
      refine TD.z [150, 159] rfl (q_pickF rfl rfl rfl) ?_
      refine TD.fin ?_
      refine au [20] ?_
      refine ⟨fun hc5 => ?_, fun hc5 => ?_⟩
      ·cases hc5
      refine au [12, 5, 1, 1, 23, 2, 3, 14, 5, 1, 23, 2, 3] ?_
      refine TK.maskL [2, 3, 7, 8, 10, 11, 12, 13] ?_
      refine TK.kp (((jb, _) :: (0, _) :: (1, _) :: (s, _) :: (e, _) :: [])) ?_
      exact hnext _ _ _ (by omega) ⟨k + 1, rfl, by omega, rfl, rfl⟩
     have hY : (((atApi b i).1 == 1) == ((k : Int) == 1)) = true := by rw [g13_3, g13_6] at hcan; simpa using hcan
     refine au [1, 6, 1, 6, 34, 25, 26, 2, 3, 4, 4, 5, 1, 6, 1, 34, 1] ?_
     refine TK.sp 102 (fun g14_5 => ?_) (fun g14_5 => ?_)
     ·rw [hY] at g14_5
      cases g14_5
     refine au [1, 6, 1] ?_
     refine TK.sp 105 (fun g14_8 => ?_) (fun g14_8 => ?_)
     ·cases g14_8
     skip
     refine au [11, 11, 11, 11, 11, 11, 11, 11, 25, 25, 3, 19, 12, 4, 4, 5, 1, 6, 3, 20] ?_
     refine ⟨fun hc4 => ?_, fun hc4 => ?_⟩
     ·cases hc4
     skip
     refine au [12, 4, 5, 8] ?_
     refine TK.cl rfl rfl rfl rfl (statesApi_ok hT (b := (lookB b ⟨i, ((k : Int) == 1)⟩)) hj78 hf.names (by simp [lookB]; omega)) ?_
     rintro r37 K38 ⟨rfl, rfl⟩
     refine au [] ?_
     rw [hso.1, hso.2]
     refine au [1, 10, 10, 2, 2, 3, 4, 5, 8, 1] ?_
     refine TK.cl rfl rfl rfl rfl (atApi_ok hT (b := (lookB b ⟨i, ((k : Int) == 1)⟩)) (n := i) hj78 hf.names (by simp [lookB]; omega)) ?_
     rintro r40 K41 ⟨rfl, rfl⟩
     refine au [] ?_
     rw [hat.1, hat.2, hwd]
     refine au [1, 10, 10, 2, 2, 3, 4, 4] ?_
     refine TK.draw [0, 1, 2, 3, 4, 5, 6, 7, 8, 9, 10, 11, 12, 13, 14, 15, 16, 17, 18, 19, 20, 21, 22, 23, 24, 25, 26, 27, 28, 29, 30, 31] [0, 1, 2, 3, 4, 5, 6, 7, 8, 9, 10, 11, 12, 13, 14, 15, 16, 17, 18, 19, 20, 21, 22, 23, 24, 25, 26, 27, 28, 29, 30, 31] (by kernel_rfl) (by kernel_rfl) ?_
     refine TD.z [18] rfl (q_move rfl rfl) ?_
     refine TD.z [129] rfl (q_cmp rfl rfl rfl rfl) ?_
     refine TD.z [130] rfl (q_move rfl rfl) ?_
     refine TD.sp 131 (fun g19_3 => ?_) (fun g19_3 => ?_)
     ·cases g19_3
     refine TD.z [20, 131] rfl (q_move rfl rfl) ?_
     refine TD.z [131, 132] rfl (q_cmp rfl rfl rfl rfl) ?_
     refine TD.z [131, 133] rfl (q_pickF rfl rfl rfl) ?_
     refine TD.z [134] rfl (q_move rfl rfl) ?_
     refine TD.sp 135 (fun g19_7 => ?_) (fun g19_7 => ?_)
     ·cases g19_7
     refine TD.z [17, 135] rfl (q_move rfl rfl) ?_
     refine TD.z [135, 136] rfl (q_cmp rfl rfl rfl rfl) ?_
     refine TD.z [135, 137] rfl (q_pickF rfl rfl rfl) ?_
     refine TD.z [138] rfl (q_move rfl rfl) ?_
     refine TD.sp 139 (fun g19_11 => ?_) (fun g19_11 => ?_)
     ·have := of_decide_eq_true g19_11
      omega
     refine TD.z [19, 139] rfl (q_move rfl rfl) ?_
     refine TD.z [139, 140] rfl (q_cmp rfl rfl rfl rfl) ?_
     refine TD.z [139, 141] rfl (q_pickF rfl rfl rfl) ?_
     refine TD.z [142] rfl (q_move rfl rfl) ?_
     refine TD.sp 143 (fun g19_15 => ?_) (fun g19_15 => ?_)
     ·split at g19_15 <;> cases g19_15
     refine TD.z [19, 143] rfl (q_move rfl rfl) ?_
     refine TD.z [143, 144] rfl (q_cmp rfl rfl rfl rfl) ?_
     refine TD.z [13, 143] rfl (q_move rfl rfl) ?_
     refine TD.z [143, 146] rfl (q_cmp rfl rfl rfl rfl) ?_
     refine TD.z [143, 145, 147] rfl (q_cmpB rfl rfl rfl Und.h rfl) ?_
     refine TD.z [143, 148] rfl (q_pickF rfl rfl rfl) ?_
     refine TD.z [149] rfl (q_move rfl rfl) ?_
     refine TD.sp 150 (fun g19_22 => ?_) (fun g19_22 => ?_)
     ·cases hkk : ((k : Int) == 1) <;> rw [hkk] at g19_22 <;> cases g19_22
     refine TD.y [14, 150] rfl (hq := q_load rfl rfl TySz.h (List.Mem.head _) rfl) (h := ?_)
     refine TD.y [3, 150] rfl (hq := q_load rfl rfl TySz.h (List.Mem.head _) rfl) (h := ?_)
     refine TD.z [7, 150] rfl (q_move rfl rfl) ?_
     refine TD.z [13, 150] rfl (q_move rfl rfl) ?_
     refine TD.z [150, 154] rfl (q_cmp rfl rfl rfl rfl) ?_
     refine TD.z [150, 153, 155] rfl (q_build (l := [_, _]) rfl TyZ.h BlOf.h rfl) ?_
     refine TD.cl (pend' := [⟨26, [150, 154], []⟩, ⟨25, [13, 150], []⟩, ⟨24, [7, 150], []⟩, ⟨22, [14, 150], [(_, _)]⟩, ⟨20, [143, 148], []⟩, ⟨19, [143, 145, 147], []⟩, ⟨18, [143, 146], []⟩, ⟨17, [13, 143], []⟩, ⟨16, [143, 144], []⟩, ⟨15, [19, 143], []⟩, ⟨14, [142], []⟩, ⟨13, [139, 141], []⟩, ⟨12, [139, 140], []⟩, ⟨11, [19, 139], []⟩, ⟨10, [138], []⟩, ⟨9, [135, 137], []⟩, ⟨8, [135, 136], []⟩, ⟨7, [17, 135], []⟩, ⟨6, [134], []⟩, ⟨5, [131, 133], []⟩, ⟨4, [131, 132], []⟩, ⟨3, [20, 131], []⟩, ⟨2, [130], []⟩, ⟨1, [129], []⟩, ⟨0, [18], []⟩]) [150, 152, 156] rfl rfl rfl rfl rfl (lookedR_ok hT (x := ⟨i, ((k : Int) == 1)⟩) hf.seen) (fun r43 K44 h45 => ⟨?_, ?_⟩)
     ·rcases h45 with ⟨j9, rfl, rfl⟩
      all_goals simp
     obtain ⟨j9, rfl, rfl⟩ := h45
     try simp only [List.cons_append, List.nil_append]
     refine TD.norm (by simp only [List.set]; rfl) ?_
     refine TD.cl (pend' := [⟨26, [150, 154], []⟩, ⟨25, [13, 150], []⟩, ⟨24, [7, 150], []⟩, ⟨20, [143, 148], []⟩, ⟨19, [143, 145, 147], []⟩, ⟨18, [143, 146], []⟩, ⟨17, [13, 143], []⟩, ⟨16, [143, 144], []⟩, ⟨15, [19, 143], []⟩, ⟨14, [142], []⟩, ⟨13, [139, 141], []⟩, ⟨12, [139, 140], []⟩, ⟨11, [19, 139], []⟩, ⟨10, [138], []⟩, ⟨9, [135, 137], []⟩, ⟨8, [135, 136], []⟩, ⟨7, [17, 135], []⟩, ⟨6, [134], []⟩, ⟨5, [131, 133], []⟩, ⟨4, [131, 132], []⟩, ⟨3, [20, 131], []⟩, ⟨2, [130], []⟩, ⟨1, [129], []⟩, ⟨0, [18], []⟩]) [150, 151, 157] rfl rfl rfl rfl rfl (sameB_ok hT (b := (lookB b ⟨i, ((k : Int) == 1)⟩)) (s1 := j7) (e1 := j8) (s2 := s) (e2 := j9) (by simp [hearB, lookB, giveB]; omega) (by simp [hearB, lookB, giveB]; omega)) (fun r46 K47 h48 => ⟨?_, ?_⟩)
     ·rcases h48 with ⟨rfl, rfl⟩
      all_goals simp
     obtain ⟨rfl, rfl⟩ := h48
     try simp only [List.cons_append, List.nil_append]
     refine TD.norm (by simp only [List.set]; rfl) ?_
     refine TD.z [150, 158] rfl (q_not rfl rfl) ?_
     refine TD.z [150, 159] rfl (q_pickF rfl rfl rfl) ?_
     refine TD.fin ?_
     refine au [20] ?_
     refine ⟨fun hc5 => ?_, fun hc5 => ?_⟩
     ·cases hc5
     refine au [12, 5, 1, 1, 23, 2, 3, 14, 5, 1, 23, 2, 3] ?_
     refine TK.maskL [2, 3, 7, 8, 10, 11, 12, 13] ?_
     refine TK.kp (((jb, _) :: (0, _) :: (1, _) :: (s, _) :: (e, _) :: [])) ?_
     exact hnext _ _ _ (by omega) ⟨k + 1, rfl, by omega, rfl, rfl⟩
    rw [g13_3] at hcan
    cases hcan
  simp only [decide_eq_false_iff_not] at hc2
  obtain rfl : k = 2 := by omega
  have hs2 := sum_two hb (bkOk_of (hcl false)) (bkOk_of (hcl true))
  refine au [16, 4, 4, 5, 1, 1, 6, 3, 20] ?_
  refine ⟨fun hc6 => ?_, fun hc6 => ?_⟩
  ·rw [hs2] at hc6
   simp at hc6
  refine au [12, 4, 4, 5, 7, 9, 28, 6, 1] ?_
  refine TK.sp 171 (fun g24_5 => ?_) (fun g24_5 => ?_)
  ·refine au [11, 11, 26, 3, 18, 4, 5] ?_
   refine TK.cl rfl rfl rfl rfl (sought_ok tame) ?_
   rintro r49 K50 ⟨rfl, rfl⟩
   refine au [2, 3] ?_
   refine TK.rt hret [(0, _), (1, _), (s, _), (e, _)] ?_
   exact ⟨rfl, rfl⟩
  have hlen0 : ¬ ((b.seekers.length : Int) = 0) := by simpa using g24_5
  refine au [1, 6, 25, 3, 20] ?_
  refine ⟨fun hc7 => ?_, fun hc7 => ?_⟩
  ·refine au [4, 5] ?_
   refine TK.cl rfl rfl rfl rfl (sought_ok tame) ?_
   rintro r52 K53 ⟨rfl, rfl⟩
   refine au [2, 3] ?_
   refine TK.rt hret [(0, _), (1, _), (s, _), (e, _)] ?_
   exact ⟨rfl, rfl⟩
  have hn0 : statesM b ≠ [] := fun h => by rw [h] at hc7; cases hc7
  have h0 := (ask_iff hck).1.2 hn0
  obtain ⟨q, hq, hql⟩ := who_some k2 hlen0
  unfold whoM at hq
  rw [if_neg hlen0] at hq
  have hwo := wrong_one h0 hql
  refine au [12, 4, 5, 1] ?_
  refine TK.a rfl (q_convInt rfl rfl Und.h Und.h (wrap_i64 (by omega))) ?_
  refine au [7, 9, 28] ?_
  refine TK.a rfl (q_rem rfl rfl rfl (by omega) (by omega)) ?_
  refine au [2] ?_
  rw [hq]
  refine au [3, 4, 5, 8, 1] ?_
  refine TK.cl rfl rfl rfl rfl (wrongApi_ok hT (n := (q : Int)) hse hf.names hf.seen) ?_
  rintro r55 K56 ⟨rfl, rfl⟩
  refine au [] ?_
  rw [hwo.1, hwo.2]
  refine au [1, 10, 10, 2, 2, 3, 4, 5, 8, 1] ?_
  refine TK.cl rfl rfl rfl rfl (give_ok hT (n := (q : Int)) hse hf.names hf.seen) ?_
  rintro r58 K59 h60
  rcases h60 with ⟨hn2, rfl, rfl⟩ | ⟨hn2, j10, j11, rfl, rfl⟩
  ·refine au [1, 10, 10, 22] ?_
   intro jo2 hjo2
   refine au [17, 2, 3, 4, 4, 5, 1, 6, 3, 20] ?_
   refine ⟨fun hc8 => ?_, fun hc8 => ?_⟩
   ·cases hc8
   refine au [12, 4, 4, 5, 7, 9, 1, 36, 7] ?_
   refine TK.a rfl (q_load1 rfl rfl TySz.h (by repeat (first | exact List.Mem.head _ | assumption | apply List.Mem.tail)) (says_glass hql)) ?_
   refine au [3, 20] ?_
   refine ⟨fun hc9 => ?_, fun hc9 => ?_⟩
   ·have h5 : giveM b q = 5 := by rw [give_one hck hql, hc9]; rfl
    have hv2 := (word_wrong (c := b) hn0 q).2.1.2 fun S hS => glass_right hb hql hc9 hS
    rw [h5, hv2]
    refine au [4, 5, 1, 6, 1] ?_
    refine TK.sp 204 (fun g32_3 => ?_) (fun g32_3 => ?_)
    ·refine au [1, 6, 26, 1] ?_
     refine TK.sp 208 (fun g32_7 => ?_) (fun g32_7 => ?_)
     ·refine au [8, 43] ?_
      refine TK.cl rfl rfl rfl rfl (same0_ok hT) ?_
      rintro r61 K62 ⟨rfl, rfl⟩
      refine au [26, 1] ?_
      refine TK.sp 213 (fun g32_12 => ?_) (fun g32_12 => ?_)
      ·refine TK.cl rfl rfl rfl rfl (sought_ok tame) ?_
       rintro r64 K65 ⟨rfl, rfl⟩
       refine au [26, 2, 3] ?_
       refine TK.rt hret [(0, _), (1, _), (s, _), (e, _)] ?_
       exact ⟨rfl, rfl⟩
      cases g32_12
     cases g32_7
    cases g32_3
   have h9 : giveM b q = 9 := by
    rcases give_bar hck hql hn2 with h | h
    ·rw [give_one hck hql, hc9] at h; rcases (ask_iff (check_give (k := q) hck)).2.2 with h2 | h2 <;> rw [if_neg (by decide), h2] at h <;> cases h
    ·exact h
   have hge : statesM (giveB b q) = [] := by
    rw [give_one hck hql, hc9, if_neg (by decide)] at h9; exact (ask_iff (check_give (k := q) hck)).2.1.1 h9
   have hv1 := (word_wrong (c := b) hn0 q).1.2 fun S hS => by
    cases hr : rightM b S q with
    | false => rfl
    | true => have := (states_give hb (bkOk_of (check_give (k := q) hck)) hql S).2 ⟨hS, hr⟩; rw [hge] at this; cases this
   rw [h9, hv1]
   refine au [12, 4, 4, 5, 1, 6, 3, 20] ?_
   refine ⟨fun hc10 => ?_, fun hc10 => ?_⟩
   ·skip
    refine au [4, 5, 1, 6, 1] ?_
    refine TK.sp 220 (fun g34_3 => ?_) (fun g34_3 => ?_)
    ·refine au [1, 6, 26, 1] ?_
     refine TK.sp 224 (fun g34_7 => ?_) (fun g34_7 => ?_)
     ·refine au [8, 43] ?_
      refine TK.cl rfl rfl rfl rfl (same0_ok hT) ?_
      rintro r67 K68 ⟨rfl, rfl⟩
      refine au [26, 1] ?_
      refine TK.sp 229 (fun g34_12 => ?_) (fun g34_12 => ?_)
      ·refine TK.cl rfl rfl rfl rfl (sought_ok tame) ?_
       rintro r70 K71 ⟨rfl, rfl⟩
       refine au [26, 2, 3] ?_
       refine TK.rt hret [(0, _), (1, _), (s, _), (e, _)] ?_
       exact ⟨rfl, rfl⟩
      cases g34_12
     cases g34_7
    cases g34_3
   cases hc10
  ·refine au [] ?_
   obtain ⟨hgf, hcg, hsg⟩ := give_zero hck hql hn2
   refine TK.nd fun hnd => ?_
   have hj1011 : j10 ≠ j11 := fun h => by subst h; simp [keys] at hnd
   have hgo := wrong_one (b := giveB b q) ((ask_iff hcg).1.2 hsg) (by rw [giveB_len]; exact hql)
   refine au [1, 10, 10, 22] ?_
   intro jo2 hjo2
   refine au [17, 2, 3, 4, 4, 5, 1, 6, 3, 20] ?_
   refine ⟨fun hc8 => ?_, fun hc8 => ?_⟩
   ·cases hc8
   refine au [12, 4, 4, 5, 7, 9, 1, 36, 7] ?_
   refine TK.a rfl (q_load1 rfl rfl TySz.h (by repeat (first | exact List.Mem.head _ | assumption | apply List.Mem.tail)) (says_glass hql)) ?_
   refine au [3, 20] ?_
   refine ⟨fun hc9 => ?_, fun hc9 => ?_⟩
   ·rw [hgf] at hc9
    cases hc9
   skip
   refine au [12, 4, 4, 5, 1, 6, 3, 20] ?_
   refine ⟨fun hc10 => ?_, fun hc10 => ?_⟩
   ·cases hc10
   have hv3 : wordM (statesM b).length ((statesM b).length - rightsM b (statesM b) q) ≠ 1 := fun h => by
    obtain ⟨S, hS⟩ := List.exists_mem_of_ne_nil _ hsg
    obtain ⟨h1, h2⟩ := (states_give hb (bkOk_of hcg) hql S).1 hS
    rw [(word_wrong (c := b) hn0 q).1.1 h S h1] at h2; cases h2
   have hv4 := (word_wrong (c := giveB b q) hsg q).2.1.2 fun S hS => by rw [right_give]; exact ((states_give hb (bkOk_of hcg) hql S).1 hS).2
   refine au [12, 4, 5, 8, 1] ?_
   refine TK.cl rfl rfl rfl rfl (wrongApi_ok hT (b := giveB b q) (n := (q : Int)) hj1011 (give_names hf.names) hf.seen) ?_
   rintro r73 K74 ⟨rfl, rfl⟩
   refine au [] ?_
   rw [hgo.1, hgo.2, hv4]
   refine au [1, 10, 10, 2, 2, 3, 4] ?_
   refine TK.draw [0, 1, 2, 3, 4, 5, 6, 7, 8, 9, 10, 11, 12, 13, 14, 15, 16, 17, 18, 19, 20] [0, 1, 2, 3, 4, 5, 6, 7, 8, 9, 10, 11, 12, 13, 14, 15, 16, 17, 18, 19, 20] (by kernel_rfl) (by kernel_rfl) ?_
   refine TD.z [9] rfl (q_move rfl rfl) ?_
   refine TD.z [238] rfl (q_cmp rfl rfl rfl rfl) ?_
   refine TD.z [239] rfl (q_move rfl rfl) ?_
   refine TD.sp 240 (fun g36_3 => ?_) (fun g36_3 => ?_)
   ·refine TD.z [22, 240] rfl (q_move rfl rfl) ?_
    refine TD.z [240, 241] rfl (q_cmp rfl rfl rfl rfl) ?_
    refine TD.z [240, 242] rfl (q_pickT rfl rfl rfl) ?_
    refine TD.z [243] rfl (q_move rfl rfl) ?_
    refine TD.sp 244 (fun g36_7 => ?_) (fun g36_7 => ?_)
    ·refine TD.z [25, 244] rfl (q_move rfl rfl) ?_
     refine TD.z [244, 245] rfl (q_cmp rfl rfl rfl rfl) ?_
     refine TD.z [244, 246] rfl (q_pickT rfl rfl rfl) ?_
     refine TD.z [247] rfl (q_move rfl rfl) ?_
     refine TD.sp 248 (fun g36_11 => ?_) (fun g36_11 => ?_)
     ·refine TD.y [23, 248] rfl (hq := q_load rfl rfl TySz.h (List.Mem.head _) rfl) (h := ?_)
      refine TD.y [3, 248] rfl (hq := q_load rfl rfl TySz.h (List.Mem.head _) rfl) (h := ?_)
      refine TD.z [21, 248] rfl (q_move rfl rfl) ?_
      refine TD.cl (pend' := [⟨11, [23, 248], [(_, _)]⟩, ⟨9, [244, 246], []⟩, ⟨8, [244, 245], []⟩, ⟨7, [25, 244], []⟩, ⟨6, [243], []⟩, ⟨5, [240, 242], []⟩, ⟨4, [240, 241], []⟩, ⟨3, [22, 240], []⟩, ⟨2, [239], []⟩, ⟨1, [238], []⟩, ⟨0, [9], []⟩]) [248, 250, 251] rfl rfl rfl rfl rfl (givenR_ok hT hf.says hql) (fun r76 K77 h78 => ⟨?_, ?_⟩)
      ·rcases h78 with ⟨j12, rfl, rfl⟩
       all_goals simp
      obtain ⟨j12, rfl, rfl⟩ := h78
      try simp only [List.cons_append, List.nil_append]
      refine TD.norm (by simp only [List.set]; rfl) ?_
      refine TD.cl (pend' := [⟨9, [244, 246], []⟩, ⟨8, [244, 245], []⟩, ⟨7, [25, 244], []⟩, ⟨6, [243], []⟩, ⟨5, [240, 242], []⟩, ⟨4, [240, 241], []⟩, ⟨3, [22, 240], []⟩, ⟨2, [239], []⟩, ⟨1, [238], []⟩, ⟨0, [9], []⟩]) [248, 249, 252] rfl rfl rfl rfl rfl (sameB_ok hT (b := (giveB b q)) (s1 := j10) (e1 := j11) (s2 := j12) (e2 := e) (by simp [hearB, lookB, giveB]; omega) (by simp [hearB, lookB, giveB]; omega)) (fun r79 K80 h81 => ⟨?_, ?_⟩)
      ·rcases h81 with ⟨rfl, rfl⟩
       all_goals simp
      obtain ⟨rfl, rfl⟩ := h81
      try simp only [List.cons_append, List.nil_append]
      refine TD.norm (by simp only [List.set]; rfl) ?_
      refine TD.z [248, 253] rfl (q_pickT rfl rfl rfl) ?_
      refine TD.z [254] rfl (q_move rfl rfl) ?_
      refine TD.sp 255 (fun g36_18 => ?_) (fun g36_18 => ?_)
      ·refine TD.cl (pend' := [⟨16, [248, 253], []⟩, ⟨9, [244, 246], []⟩, ⟨8, [244, 245], []⟩, ⟨7, [25, 244], []⟩, ⟨6, [243], []⟩, ⟨5, [240, 242], []⟩, ⟨4, [240, 241], []⟩, ⟨3, [22, 240], []⟩, ⟨2, [239], []⟩, ⟨1, [238], []⟩, ⟨0, [9], []⟩]) [255] rfl rfl rfl rfl rfl (sought_ok tame) (fun r82 K83 h84 => ⟨?_, ?_⟩)
       ·rcases h84 with ⟨rfl, rfl⟩
        all_goals simp
       obtain ⟨rfl, rfl⟩ := h84
       try simp only [List.cons_append, List.nil_append]
       refine TD.norm (by simp only [List.set]; rfl) ?_
       refine TD.z [255, 256] rfl (q_pickT rfl rfl rfl) ?_
       refine TD.as (pend' := []) [257] rfl rfl (q_assign rfl rfl) ?_
       refine TD.fin ?_
       refine au [] ?_
       refine TK.rt hret [(0, _), (1, _), (s, _), (e, _)] ?_
       exact ⟨rfl, rfl⟩
      cases g36_18
     cases g36_11
    simp at g36_7
    exact absurd g36_7 hv3
   cases g36_3
end Go.Vel
end
section
set_option linter.all false
set_option maxRecDepth 20000
set_option maxHeartbeats 60000000
namespace Go.Vel
open Go Go.Conc Go.Proofs Go.ChangeShapes Go.WideShapes Go.ChangeAt Go.RowKit
open Go.Proofs.YtpdioiojfgknbaaGreatDoor (Tryz.pinned)
def seekerNoOthersPhi (x0a x0b : Value) : Nat → Loc3
 | 0 => ⟨0, 0, 0⟩
 | 1 => ⟨1, 0, 0⟩
 | 2 => locV x0a
 | 3 => locV x0b
 | _ => ⟨0, 0, 0⟩
theorem seekerNoOthers_run {W : World} (hl : laidMetH Tryz.prog tblLaid W) {b0 : Bk} {x0a x0b : Value} {k1 : Int} {k2 : Int} (h0a : SlIn W saysV 5 b0.seekers x0a) (h0b : SlIn W seenV 2 b0.seen x0b) (h1 : 0 ≤ k1 ∧ k1 < 256) (h2 : 0 ≤ k2 ∧ k2 < 256) :
  ∃ M last o w' t', runNT Tryz.prog (M + 1) (solo (G (Frame.enter Tryz.prog 5 #[.agg #[.int .i64 b0.steps, .int .i64 b0.wrong, .int .i64 b0.low, .int .i64 b0.high, x0a, x0b], .int .u8 k1, .int .u8 k2] .normal) []) W) #[] = (.ended o w', t') ∧
   runN Tryz.prog M (solo (G (Frame.enter Tryz.prog 5 #[.agg #[.int .i64 b0.steps, .int .i64 b0.wrong, .int .i64 b0.low, .int .i64 b0.high, x0a, x0b], .int .u8 k1, .int .u8 k2] .normal) []) W) = .next last ∧
   step Tryz.prog last = .ended o w' ∧ Conc.Good Tryz.prog (fun v w => v = .bool true ∧ w.os = W.os ∧ w.output = W.output ∧ KeptAll W w) last o w' t' := by
 refine good_run (R := fun v w => v = .bool true ∧ KeptAll W w) (R' := fun v w => v = .bool true ∧ w.os = W.os ∧ w.output = W.output ∧ KeptAll W w) Tryz.func5 rfl (by kernel_rfl) (fun v w' ho hu hr => ⟨hr.1, ho, hu, hr.2⟩) (fun v w τ d h => h) (holdAll_fits W) ?_
 obtain ⟨ht0, ht1⟩ := of_laid hl
 refine lawNoOthers_top (b := b0) (s := 2) (e := 3) (k1 := k1) (k2 := k2) (by decide) h1 h2 (A := [checksG, saysG, saysO b0, seenO b0]) (φ := seekerNoOthersPhi x0a x0b) (F := holdAll W) ?_ ?_ ?_ ?_ ?_ ?_
 ·intro x hx
  simp only [List.mem_cons, List.not_mem_nil, or_false] at hx
  rcases hx with rfl | rfl | rfl | rfl <;> rfl
 ·simp [keys]
 ·intro g i hg
  match g, hg with
  | 0, hg => cases hg; exact ⟨by simp, rfl, rfl⟩
  | 1, hg => cases hg; exact ⟨by simp, rfl, rfl⟩
  | g + 2, hg => cases hg
 ·refine ⟨fun i o ho => ?_, fun i j o o' hi _ _ hx => ?_, fun b x h => h, fun i o hi hx => ?_⟩
  ·match i, ho with
   | 0, ho => cases ho; exact tbl_rel ht0
   | 1, ho => cases ho; exact tbl_rel ht1
   | 2, ho => cases ho; exact relO_in h0a (fun _ => rfl) says_rel
   | 3, ho => cases ho; exact relO_in h0b (fun _ => rfl) seen_rel
   | i + 4, ho => simp at ho
  ·match i, hi with
   | 0, hi => cases hi; cases hx
   | 1, hi => cases hi; cases hx
   | 2, hi => cases hi; cases hx
   | 3, hi => cases hi; cases hx
   | i + 4, hi => simp at hi
  ·match i, hi with
   | 0, hi => cases hi; cases hx
   | 1, hi => cases hi; cases hx
   | 2, hi => cases hi; cases hx
   | 3, hi => cases hi; cases hx
   | i + 4, hi => simp at hi
 ·refine ⟨rfl, fun j a y ha hy => ?_⟩
  match j, ha, hy with
  | 0, ha, hy =>
   cases ha; cases hy
   refine .agg rfl fun t u z hu hz => ?_
   match t, hu, hz with
   | 0, hu, hz => cases hu; cases hz; exact .v _
   | 1, hu, hz => cases hu; cases hz; exact .v _
   | 2, hu, hz => cases hu; cases hz; exact .v _
   | 3, hu, hz => cases hu; cases hz; exact .v _
   | 4, hu, hz => cases hu; cases hz; exact relV_in h0a (by simp) rfl
   | 5, hu, hz => cases hu; cases hz; exact relV_in h0b (by simp) rfl
   | t + 6, hu, hz => simp [bookC] at hu
  | 1, ha, hy =>
   cases ha; cases hy; exact .v _
  | 2, ha, hy =>
   cases ha; cases hy; exact .v _
  | j + 3, ha, hy => simp at ha
 ·rintro r K' φ' A' H' v w ⟨rfl, _⟩ hH' hv' hfit
  refine ⟨inv_v hv', fun i hi => ?_⟩
  have hh := Array.getElem?_eq_getElem hi
  rw [hh]
  exact hfit i false _ (hH'.fr _ _ (holdAll_get hh))
set_option maxRecDepth 100000 in
theorem seekerNoOthers_lifted (os : Os) (started : os.Started) (H : Type) (enc : TypeId × Value → H) :
  ReturnsInLeavingWide Go.Proofs.YtpdioiojfgknbaaGreatDoor.Rows.seekerNoOthersRow.assume Tryz.checked os 5 .any (Go.Proofs.YtpdioiojfgknbaaGreatDoor.Rows.seekerNoOthersRow.pre enc Tryz.prog Tryz.f5 (OpenSpec.ofChange Go.Proofs.YtpdioiojfgknbaaGreatDoor.Rows.seekerNoOthersSpec))
   (Go.Proofs.YtpdioiojfgknbaaGreatDoor.Rows.seekerNoOthersSpec.post enc Tryz.prog Tryz.f5 false true false false) := by
 refine returnsInLeavingWide_of_good (C := Tryz.checked) own started
  (ChangeSpec.witness_shaped (enc := enc) (C := Tryz.checked) (os := os) (X := fun w _ => laidMetH Tryz.prog tblLaid w) false (World.doorLaid Tryz.prog 400 os) #[.agg #[.int .i64 0, .int .i64 0, .int .i64 0, .int .i64 0, .slice none 0 0, .slice none 0 0], .int .u8 0, .int .u8 0] 8 rfl (World.shaped_of_RefB (by kernel_rfl) (by kernel_rfl)) (by kernel_rfl) (by kernel_rfl) (by kernel_rfl) (door_met os _)) ?_
 intro w tape i _ _ _ hok hpre _
 obtain ⟨_, _, _, fn', hfn', _, _, _, _, hval0⟩ := hok
 obtain rfl : fn' = Tryz.f5 := Option.some.inj (hfn'.symm.trans Tryz.func5)
 obtain ⟨⟨⟨ds, gs, before, hw, hc⟩, hL0⟩, _⟩ := hpre
 have hW := DataW.Whole.of_heap (w' := w.forCall tape i) (by rfl) hw
 have hL : laidMetH Tryz.prog tblLaid (w.forCall tape i) := laidMetH.of_heap (by rfl) hL0
 obtain ⟨bl, args, vars⟩ := i
 generalize w.forCall tape ⟨bl, args, vars⟩ = W at hW hL hval0 ⊢
 have hW' := hW
 obtain ⟨p, q, hA0, hV0, rfl, _, _⟩ := hW
 have hA : DataW.TrodAll enc Tryz.prog W 0 (fun _ => true) true [27, 5, 5] args.toList ds p := hA0
 obtain ⟨v0, u0, d0, ds0, p0, q0, hargs, rfl, rfl, t0, hr0⟩ := trodAll_cons hA
 obtain ⟨v1, u1, d1, ds1, p1, q1, rfl, rfl, rfl, t1, hr1⟩ := trodAll_cons hr0
 obtain ⟨v2, u2, d2, ds2, p2, q2, rfl, rfl, rfl, t2, hr2⟩ := trodAll_cons hr1
 obtain ⟨rfl, rfl, rfl⟩ := trodAll_nil hr2
 obtain rfl : args = #[v0, v1, v2] := by cases args; simp_all
 obtain ⟨rfl, rfl⟩ := trodVars_none hV0
 obtain ⟨b0, x0a, x0b, rfl, s0a, s0b⟩ := open_book (okAgg Tryz.underlying27 (hval0 0 27 v0 rfl rfl)) t0
 obtain ⟨k1, rfl, rfl, rfl, s1⟩ := open_int Tryz.underlying5 (hval0 1 5 v1 rfl rfl) t1
 obtain ⟨k2, rfl, rfl, rfl, s2⟩ := open_int Tryz.underlying5 (hval0 2 5 v2 rfl rfl) t2
 obtain ⟨M, last, o, w', t', g1, g2, g3, g4⟩ := seekerNoOthers_run hL s0a s0b (u8_wf s1) (u8_wf s2)
 refine ⟨M, last, o, w', t', g1, g2, g3, g4.mono fun v hF => ?_⟩
 obtain ⟨rfl, ho, hu, hkp⟩ := hF
 refine ChangeSpec.post_blind ?_
 exact ⟨_, _, _, [], _, [], hW', trodAll_mk1 (shut_bool Tryz.underlying4 true), ⟨_, _, trod_mono laid_out t0 hkp, ⟨_, _, trod_mono laid_out t1 hkp, ⟨_, _, trod_mono laid_out t2 hkp, trodAll_mk0, rfl⟩, rfl⟩, rfl⟩, rfl, kept_but ho hu hkp _, fun h => by cases h⟩
open Go.Proofs.YtpdioiojfgknbaaGreatDoor in
theorem seekerNoOthers_said : Rows.SeekerNoOthersSaid :=
 OpenClaim.holds_of_wide_leaving 5 Tryz.f5 rfl rfl rfl rfl rfl rfl rfl ⟨rfl, rfl, rfl, rfl, rfl⟩ rfl rfl rfl rfl rfl (by kernel_rfl) Tryz.func5 (by kernel_rfl)
  (of_decide_eq_true (by kernel_rfl)) (by unfold Func.isWrapper; first | (rw [if_pos (by decide +kernel)]; kernel_rfl) | (rw [if_neg (by decide +kernel)]; exact ⟨rfl, rfl⟩))
  (fun os started H enc _ => seekerNoOthers_lifted os started H enc)
end Go.Vel
namespace Go.Proofs.YtpdioiojfgknbaaGreatDoor
open Go
theorem seekerNoOthers_holds : Rows.SeekerNoOthersCardSaid :=
 Go.Vel.holds_tied_goes .later [.funcs, .funcs] true (true, "37dd52168c01ab0eac968363d817f0761de49dbe13f8b8dbc59b7d9be7780b69") false
  Go.Vel.seekerNoOthers_said (by kernel_rfl) seekerNoOthers_row_tie rfl ⟨rfl, rfl⟩ (by kernel_rfl) rfl
  (fun f fn hf hfn => by
   obtain rfl : f = 5 := Option.some.inj ((show Tryz.prog.funcNamed "velarium/velariumlaw09.SeekerNoOthers" = some 5 by kernel_rfl).symm.trans hf) |>.symm
   obtain rfl : fn = Tryz.f5 := (Option.some.inj (Tryz.func5.symm.trans hfn)).symm
   exact ⟨by kernel_rfl, fun j t ht => by
    rw [Tryz.params5] at ht
    have hm : t ∈ [27, 5, 5] := by simpa using Array.mem_of_getElem? ht
    have hall : ([27, 5, 5].all fun u => !Tryz.prog.wantsStandIn u) = true := by kernel_rfl
    exact (show Tryz.prog.wantsStandIn t = false by simpa using List.all_eq_true.1 hall t hm)⟩)
  (by kernel_rfl)
#print axioms seekerNoOthers_holds
end Go.Proofs.YtpdioiojfgknbaaGreatDoor
end
