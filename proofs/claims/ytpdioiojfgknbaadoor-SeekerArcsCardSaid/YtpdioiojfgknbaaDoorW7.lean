/- Texts for the statements of chapter 9: what all of them need, part 8. It holds of every program, tape and world that the statements name, as each theorem says. -/
import Derived.Test.YtpdioiojfgknbaaDoorW5
import Derived.Test.YtpdioiojfgknbaaDoorW6
section
set_option linter.all false
set_option maxRecDepth 20000
set_option maxHeartbeats 60000000
namespace Go.Vel
open Go Go.Conc Go.Proofs

def cmpI2 (x y : Int) : Int := if x < y then -1 else if x > y then 1 else 0
def cmpL : List Int → List Int → Int
 | [], [] => 0
 | [], _ :: _ => -1
 | _ :: _, [] => 1
 | x :: xs, y :: ys => if cmpI2 x y ≠ 0 then cmpI2 x y else cmpL xs ys
theorem cmpL_step {xs ys : List Int} {i : Nat} (h1 : i < xs.length) (h2 : i < ys.length) : cmpL (xs.drop i) (ys.drop i) = if cmpI2 xs[i] ys[i] ≠ 0 then cmpI2 xs[i] ys[i] else cmpL (xs.drop (i + 1)) (ys.drop (i + 1)) := by
 rw [List.drop_eq_getElem_cons h1, List.drop_eq_getElem_cons h2]; rfl
theorem cmpL_big {xs ys : List Int} {i : Nat} (h1 : i < xs.length) (h2 : ys.length ≤ i) : cmpL (xs.drop i) (ys.drop i) = 1 := by
 rw [List.drop_eq_getElem_cons h1, List.drop_eq_nil_of_le h2]; rfl
theorem cmpL_end {xs ys : List Int} (h : xs.length ≤ ys.length) : cmpL (xs.drop xs.length) (ys.drop xs.length) = if xs.length < ys.length then -1 else 0 := by
 rw [List.drop_eq_nil_of_le (Nat.le_refl _)]
 split
 ·rename_i h2; rw [List.drop_eq_getElem_cons h2]; rfl
 ·rw [List.drop_eq_nil_of_le (by omega)]; rfl
def ltLists (a b : List Int) : Bool := decide (a.length < b.length) || (a.length == b.length && decide (cmpL a b < 0))
def ltGuess (a b : List Int × Int) : Bool := decide (a.2 < b.2) || (a.2 == b.2 && decide (cmpL a.1 b.1 < 0))
def ltArc (a b : Int × Int) : Bool := decide (a.2 < b.2) || (a.2 == b.2 && decide (a.1 < b.1))
def firstL {α : Type} (lt : α → α → Bool) (o : α) (xs : List α) : α := xs.foldl (fun o x => if lt x o = true then x else o) o
theorem firstL_T {α : Type} {lt : α → α → Bool} {o : α} {xs : List α} {i : Nat} (h : i < xs.length) (hl : lt xs[i] (firstL lt o (xs.take i)) = true) : firstL lt o (xs.take (i + 1)) = xs[i] := by
 unfold firstL at hl ⊢
 rw [List.take_add_one, List.getElem?_eq_getElem h, List.foldl_append]; simp [hl]
theorem firstL_F {α : Type} {lt : α → α → Bool} {o : α} {xs : List α} {i : Nat} (h : i < xs.length) (hl : lt xs[i] (firstL lt o (xs.take i)) = false) : firstL lt o (xs.take (i + 1)) = firstL lt o (xs.take i) := by
 unfold firstL at hl ⊢
 rw [List.take_add_one, List.getElem?_eq_getElem h, List.foldl_append]; simp [hl]
theorem firstL_mem {α : Type} {lt : α → α → Bool} {o : α} : ∀ {xs : List α}, firstL lt o xs ∈ o :: xs := by
 intro xs
 induction xs generalizing o with
 | nil => simp [firstL]
 | cons x xs ih =>
  have := ih (o := if lt x o = true then x else o)
  show firstL lt (if lt x o = true then x else o) xs ∈ _
  rcases List.mem_cons.1 this with h | h
  ·rw [h]; split <;> simp
  ·simp [h]
theorem firstL_mem' {α : Type} {lt : α → α → Bool} {o : α} {xs : List α} {i : Nat} : firstL lt o (xs.take i) ∈ o :: xs := by
 rcases List.mem_cons.1 (firstL_mem (lt := lt) (o := o) (xs := xs.take i)) with h | h
 ·rw [h]; simp
 ·exact List.mem_cons_of_mem _ (List.mem_of_mem_take h)


theorem nan_ok {main : Bool} {T : Goroutine → Hp → Prop} (hT : Shut Tryd.prog main T) {gm : Nat → Option Nat} {n : Int} :
  CallK Tryd.prog T gm 94 [intA n] [] (fun r K' => r = boolA false ∧ K' = []) := by
 refine callK_in 6 hT Tryd.func94 fun Y hret => ?_
 refine au [4, 5, 2, 3, 4, 5, 1, 1, 6, 2, 3] ?_
 refine TK.rta hret ?_
 exact ⟨by simp [boolA], rfl⟩

theorem cmp_ok {main : Bool} {T : Goroutine → Hp → Prop} (hT : Shut Tryd.prog main T) {gm : Nat → Option Nat} {x y : Int} :
  CallK Tryd.prog T gm 76 [intA x, intA y] [] (fun r K' => r = intA (cmpI2 x y) ∧ K' = []) := by
 refine callK_in 20 hT Tryd.func76 fun Y hret => ?_
 refine au [4, 5, 2, 3, 4, 5, 1] ?_
 refine TK.cl rfl rfl rfl rfl (nan_ok hT) ?_
 rintro r1 K2 ⟨rfl, rfl⟩
 refine au [2, 3, 4, 5, 1] ?_
 refine TK.cl rfl rfl rfl rfl (nan_ok hT) ?_
 rintro r4 K5 ⟨rfl, rfl⟩
 refine au [2, 3, 4, 4, 5, 1, 3, 19, 12, 4, 4, 5, 1, 3, 19, 12, 4, 4, 5, 1, 1, 6, 3, 20] ?_
 refine ⟨fun hc0 => ?_, fun hc0 => ?_⟩
 ·refine au [4, 5, 2, 3] ?_
  refine TK.rta hret ?_
  exact ⟨by unfold cmpI2; rw [if_pos (by simpa using hc0)]; rfl, rfl⟩
 refine au [12, 4, 4, 5, 1, 1, 6, 3, 20] ?_
 refine ⟨fun hc1 => ?_, fun hc1 => ?_⟩
 ·refine au [4, 5, 2, 3] ?_
  refine TK.rta hret ?_
  exact ⟨by unfold cmpI2; rw [if_neg (by simpa using hc0), if_pos (by simpa using hc1)]; rfl, rfl⟩
 refine au [12, 4, 5, 2, 3] ?_
 refine TK.rta hret ?_
 exact ⟨by unfold cmpI2; rw [if_neg (by simpa using hc0), if_neg (by simpa using hc1)]; rfl, rfl⟩

theorem compare_ok {main : Bool} {T : Goroutine → Hp → Prop} (hT : Shut Tryd.prog main T) {gm : Nat → Option Nat} {j1 j2 : Nat} {ob1 ob2 : AObj} {xs ys : List Int} {K : KV} (h1 : (j1, ob1) ∈ K) (h2 : (j2, ob2) ∈ K) (hI1 : IntsAt ob1 0 xs) (hI2 : IntsAt ob2 0 ys) (hl1 : xs.length ≤ 1000) (hl2 : ys.length ≤ 1000) :
  CallK Tryd.prog T gm 50 [.sl j1 0 xs.length, .sl j2 0 ys.length] K (fun r K' => r = intA (cmpL xs ys) ∧ K' = K) := by
 refine callK_in 36 hT Tryd.func50 fun Y hret => ?_
 refine au [4, 5, 2, 3, 4, 4, 5, 1, 28, 1, 3, 13] ?_
 refine TK.maskL [0, 1, 9, 10, 11] ?_
 refine TK.loopN (fun n env K' => ∃ (i : Nat), n = xs.length - i ∧ i ≤ xs.length ∧ i ≤ ys.length ∧ cmpL (xs.drop i) (ys.drop i) = cmpL xs ys ∧ env = slotsA 36 [(0, .sl j1 0 xs.length), (1, .sl j2 0 ys.length), (9, .sl j1 0 xs.length), (10, intA xs.length), (11, intA i)] ∧ K' = K) xs.length ⟨0, rfl, Nat.zero_le _, Nat.zero_le _, rfl, rfl, rfl⟩ fun n env K' hI' hnext => ?_
 obtain ⟨i, rfl, hi, hiy, hcm, rfl, rfl⟩ := hI'
 refine au [4, 5, 6, 3, 4, 20] ?_
 refine ⟨fun hc => ?_, fun hc => ?_⟩
 ·simp only [decide_eq_true_eq] at hc
  have hil : i < xs.length := by omega
  refine au [12, 4, 13, 4, 5, 1, 36] ?_
  refine TK.a rfl (q_load1 rfl rfl TySz.h (by repeat (first | exact List.Mem.head _ | assumption | apply List.Mem.tail)) (hI1 i hil)) ?_
  refine au [2, 2, 3, 4, 4, 5, 1, 1, 28, 6, 3, 20] ?_
  refine ⟨fun hc1 => ?_, fun hc1 => ?_⟩
  ·refine au [4, 5, 2, 3] ?_
   refine TK.rta hret ?_
   exact ⟨by rw [← hcm, cmpL_big hil (by have := of_decide_eq_true hc1; omega)]; rfl, rfl⟩
  have hyl : i < ys.length := by have := of_decide_eq_false hc1; omega
  refine au [12, 4, 5, 1, 1, 36] ?_
  refine TK.a rfl (q_load1 rfl rfl TySz.h (by repeat (first | exact List.Mem.head _ | assumption | apply List.Mem.tail)) (hI2 i hyl)) ?_
  refine au [2, 3, 4, 5, 1, 1] ?_
  refine TK.cl rfl rfl rfl rfl (cmp_ok hT) ?_ (hs := (.none _))
  rintro r1 K2 ⟨rfl, rfl⟩
  refine au [] ?_
  skip
  refine au [2, 3, 4, 5, 1, 6, 3, 20] ?_
  refine ⟨fun hc2 => ?_, fun hc2 => ?_⟩
  ·have hc2 : cmpI2 xs[i] ys[i] ≠ 0 := by simpa using hc2
   refine au [4, 5, 1, 2, 3] ?_
   refine TK.rta hret ?_
   exact ⟨by rw [← hcm, cmpL_step hil hyl, if_pos hc2], rfl⟩
  have hc2 : cmpI2 xs[i] ys[i] = 0 := by simpa using hc2
  refine au [12, 14, 5, 23, 1, 3] ?_
  refine TK.maskL [0, 1, 9, 10, 11] ?_
  exact hnext _ _ _ (by omega) ⟨i + 1, rfl, by omega, by omega, by rw [← hcm, cmpL_step hil hyl, if_neg (fun h => h hc2)], rfl, rfl⟩
 simp only [decide_eq_false_iff_not] at hc
 obtain rfl : i = xs.length := by omega
 refine au [16, 4, 4, 5, 1, 28, 1, 28, 6, 3, 20] ?_
 refine ⟨fun hc3 => ?_, fun hc3 => ?_⟩
 ·refine au [4, 5, 2, 3] ?_
  refine TK.rta hret ?_
  exact ⟨by rw [← hcm, cmpL_end hiy, if_pos (by have := of_decide_eq_true hc3; omega)]; rfl, rfl⟩
 refine au [12, 4, 5, 2, 3] ?_
 refine TK.rta hret ?_
 exact ⟨by rw [← hcm, cmpL_end hiy, if_neg (by have := of_decide_eq_false hc3; omega)]; rfl, rfl⟩

theorem clash1_ok {main : Bool} {T : Goroutine → Hp → Prop} (hT : Shut Tryd.prog main T) {gm : Nat → Option Nat} {j1 j2 : Nat} {ob1 ob2 : AObj} {xs ys : List Int} {K : KV} (h1 : (j1, ob1) ∈ K) (h2 : (j2, ob2) ∈ K) (hI1 : IntsAt ob1 0 xs) (hI2 : IntsAt ob2 0 ys) (hl1 : xs.length ≤ 1000) (hl2 : ys.length ≤ 1000) :
  CallK Tryd.prog T gm 53 [.sl j1 0 xs.length, .sl j2 0 ys.length] K (fun r K' => r = boolA (ltLists xs ys) ∧ K' = K) := by
 refine callK_in 23 hT Tryd.func53 fun Y hret => ?_
 refine au [4, 5, 2, 3, 4, 5, 1, 28, 1, 28, 6, 1] ?_
 refine TK.sp 10 (fun g1_6 => ?_) (fun g1_6 => ?_)
 ·refine au [11, 11, 11, 11, 11, 11, 11, 11, 11, 11, 11, 26, 2, 3] ?_
  refine TK.rta hret ?_
  exact ⟨by unfold ltLists; rw [show decide (xs.length < ys.length) = true by have := of_decide_eq_true g1_6; exact decide_eq_true (by omega)]; rfl, rfl⟩
 refine au [1, 28, 1, 28, 6, 1] ?_
 refine TK.sp 16 (fun g1_12 => ?_) (fun g1_12 => ?_)
 ·refine au [1, 1] ?_
  refine TK.cl rfl rfl rfl rfl (compare_ok hT h1 h2 hI1 hI2 hl1 hl2) ?_ (hs := (.all _))
  rintro r1 K2 ⟨rfl, rfl⟩
  refine au [] ?_
  rw [List.append_nil]
  refine au [6, 26, 25, 2, 3] ?_
  refine TK.rta hret ?_
  exact ⟨by unfold ltLists; rw [show decide (xs.length < ys.length) = false by have := of_decide_eq_false g1_6; exact decide_eq_false (by omega), show (xs.length == ys.length) = true from beq_iff_eq.2 (by have := eq_of_beq g1_12; omega)]; rfl, rfl⟩
 refine au [11, 11, 11, 11, 25, 25, 2, 3] ?_
 refine TK.rta hret ?_
 exact ⟨by unfold ltLists; rw [show decide (xs.length < ys.length) = false by have := of_decide_eq_false g1_6; exact decide_eq_false (by omega), show (xs.length == ys.length) = false from beq_eq_false_iff_ne.2 (fun h => by rw [h] at g1_12; simp at g1_12)]; rfl, rfl⟩

theorem likely1_ok {main : Bool} {T : Goroutine → Hp → Prop} (hT : Shut Tryd.prog main T) {gm : Nat → Option Nat} {j1 j2 : Nat} {ob1 ob2 : AObj} {xs ys : List Int} {K : KV} {u v : Int} (h1 : (j1, ob1) ∈ K) (h2 : (j2, ob2) ∈ K) (hI1 : IntsAt ob1 0 xs) (hI2 : IntsAt ob2 0 ys) (hl1 : xs.length ≤ 1000) (hl2 : ys.length ≤ 1000) :
  CallK Tryd.prog T gm 49 [.agg [.sl j1 0 xs.length, intA u], .agg [.sl j2 0 ys.length, intA v]] K (fun r K' => r = boolA (ltGuess (xs, u) (ys, v)) ∧ K' = K) := by
 refine callK_in 25 hT Tryd.func49 fun Y hret => ?_
 refine au [4, 5, 21] ?_
 intro ja hja
 refine au [21] ?_
 intro jb hjb
 refine au [2, 3, 4, 5, 7, 9, 7, 9, 6, 1] ?_
 refine TK.sp 10 (fun g1_6 => ?_) (fun g1_6 => ?_)
 ·refine au [11, 11, 11, 11, 11, 11, 11, 11, 11, 11, 11, 11, 11, 26, 2, 3] ?_
  refine TK.rt hret (K) ?_ (hs := (.right (.right (.all _))))
  exact ⟨by unfold ltGuess; dsimp only; rw [g1_6]; rfl, rfl⟩
 refine au [7, 9, 7, 9, 6, 1] ?_
 refine TK.sp 16 (fun g1_12 => ?_) (fun g1_12 => ?_)
 ·refine au [7, 9, 7, 9] ?_
  refine TK.cl rfl rfl rfl rfl (compare_ok hT h1 h2 hI1 hI2 hl1 hl2) ?_ (hs := (.right (.right (.all _))))
  rintro r1 K2 ⟨rfl, hK⟩
  refine au [] ?_
  rw [hK]
  refine TK.perm (K' := (jb, _) :: (ja, _) :: K) (List.perm_append_comm (l₁ := K)) ?_
  refine au [6, 26, 25, 2, 3] ?_
  refine TK.rt hret (K) ?_ (hs := (.right (.right (.all _))))
  exact ⟨by unfold ltGuess; dsimp only; rw [g1_6, g1_12]; rfl, rfl⟩
 refine au [11, 11, 11, 11, 11, 11, 25, 25, 2, 3] ?_
 refine TK.rt hret (K) ?_ (hs := (.right (.right (.all _))))
 exact ⟨by unfold ltGuess; dsimp only; rw [g1_6, g1_12]; rfl, rfl⟩

theorem narrow2_ok {main : Bool} {T : Goroutine → Hp → Prop} (hT : Shut Tryd.prog main T) {gm : Nat → Option Nat} {a b : Int × Int} :
  CallK Tryd.prog T gm 41 [.agg [intA a.1, intA a.2], .agg [intA b.1, intA b.2]] [] (fun r K' => r = boolA (ltArc a b) ∧ K' = []) := by
 refine callK_in 24 hT Tryd.func41 fun Y hret => ?_
 refine au [4, 5, 21] ?_
 intro j1 hj1
 refine au [21] ?_
 intro j2 hj2
 refine au [2, 3, 4, 5, 7, 9, 7, 9, 6, 1] ?_
 refine TK.sp 10 (fun g1_6 => ?_) (fun g1_6 => ?_)
 ·refine au [11, 11, 11, 11, 11, 11, 11, 11, 11, 11, 11, 11, 26, 2, 3] ?_
  refine TK.rt hret [] ?_
  exact ⟨by unfold ltArc; rw [g1_6]; rfl, rfl⟩
 refine au [7, 9, 7, 9, 6, 1] ?_
 refine TK.sp 16 (fun g1_12 => ?_) (fun g1_12 => ?_)
 ·refine au [7, 9, 7, 9, 6, 26, 25, 2, 3] ?_
  refine TK.rt hret [] ?_
  exact ⟨by unfold ltArc; rw [g1_6, g1_12]; rfl, rfl⟩
 refine au [11, 11, 11, 11, 11, 25, 25, 2, 3] ?_
 refine TK.rt hret [] ?_
 exact ⟨by unfold ltArc; rw [g1_6, g1_12]; rfl, rfl⟩

theorem firstInts_ok {main : Bool} {T : Goroutine → Hp → Prop} (hT : Shut Tryd.prog main T) {gm : Nat → Option Nat} {o : Nat × List Int} {xs : List (Nat × List Int)} {lt : Nat × List Int → Nat × List Int → Bool} {fv : AV} {jo off : Nat} {obo : AObj} {K : KV} (hl : xs.length ≤ 100000) (hm : (jo, obo) ∈ K) (hI : ∀ i (h : i < xs.length), takeO obo (off + (i : Int).toNat * 1) 1 = some [.sl xs[i].1 0 xs[i].2.length]) (hf : ∀ a ∈ o :: xs, ∀ c ∈ o :: xs, CallFK Tryd.prog T gm fv [.sl a.1 0 a.2.length, .sl c.1 0 c.2.length] K (fun r K' => r = boolA (lt a c) ∧ K' = K)) :
  CallK Tryd.prog T gm 52 [fv, .sl o.1 0 o.2.length, .sl jo off xs.length] K (fun r K' => r = .sl (firstL lt o xs).1 0 (firstL lt o xs).2.length ∧ K' = K) := by
 refine callK_in 22 hT Tryd.func52 fun Y hret => ?_
 refine au [4, 5, 2, 3, 4, 4, 5, 1, 28, 1, 3, 13] ?_
 refine TK.maskL [0, 1, 9, 10, 11] ?_
 refine TK.loopN (fun n env K' => ∃ (i : Nat), n = xs.length - i ∧ i ≤ xs.length ∧ env = slotsA 22 [(0, fv), (1, .sl (firstL lt o (xs.take i)).1 0 (firstL lt o (xs.take i)).2.length), (9, .sl jo off xs.length), (10, intA xs.length), (11, intA i)] ∧ K' = K) xs.length ⟨0, rfl, Nat.zero_le _, rfl, rfl⟩ fun n env K' hI' hnext => ?_
 obtain ⟨i, rfl, hi, rfl, rfl⟩ := hI'
 refine au [4, 5, 6, 3, 4, 20] ?_
 refine ⟨fun hc => ?_, fun hc => ?_⟩
 ·simp only [decide_eq_true_eq] at hc
  have hil : i < xs.length := by omega
  refine au [12, 4, 13, 4, 5, 36] ?_
  refine TK.a rfl (q_load1 rfl rfl TySz.h (by repeat (first | exact List.Mem.head _ | assumption | apply List.Mem.tail)) (hI i hil)) ?_
  refine au [2, 3, 4, 5, 1, 1, 1] ?_
  refine TK.callF' rfl rfl rfl rfl rfl (hf xs[i] (List.mem_cons_of_mem _ (List.getElem_mem hil)) (firstL lt o (xs.take i)) firstL_mem') (.all _) fun r1 K2 h3 => ?_
  obtain ⟨rfl, hK⟩ := h3
  refine au [] ?_
  rw [hK, List.append_nil]
  refine au [3, 20] ?_
  refine ⟨fun hc1 => ?_, fun hc1 => ?_⟩
  ·refine au [5, 1, 2, 3, 14, 5, 23, 1, 3] ?_
   refine TK.maskL [0, 1, 9, 10, 11] ?_
   exact hnext _ _ _ (by omega) ⟨i + 1, rfl, by omega, by rw [firstL_T hil hc1] <;> rfl, rfl⟩
  refine au [12, 14, 5, 23, 1, 3] ?_
  refine TK.maskL [0, 1, 9, 10, 11] ?_
  exact hnext _ _ _ (by omega) ⟨i + 1, rfl, by omega, by rw [firstL_F hil hc1] <;> rfl, rfl⟩
 simp only [decide_eq_false_iff_not] at hc
 obtain rfl : i = xs.length := by omega
 refine au [16, 4, 5, 1, 2, 3] ?_
 refine TK.rta hret ?_
 exact ⟨by rw [List.take_length] <;> rfl, rfl⟩

theorem firstArc_ok {main : Bool} {T : Goroutine → Hp → Prop} (hT : Shut Tryd.prog main T) {gm : Nat → Option Nat} {o : Int × Int} {xs : List (Int × Int)} {lt : Int × Int → Int × Int → Bool} {fv : AV} {jo off : Nat} {obo : AObj} {K : KV} (hl : xs.length ≤ 100000) (hm : (jo, obo) ∈ K) (hI : ∀ i (h : i < xs.length), takeO obo (off + (i : Int).toNat * 2) 2 = some [intA xs[i].1, intA xs[i].2]) (hf : ∀ a ∈ o :: xs, ∀ c ∈ o :: xs, CallFK Tryd.prog T gm fv [.agg [intA a.1, intA a.2], .agg [intA c.1, intA c.2]] K (fun r K' => r = boolA (lt a c) ∧ K' = K)) :
  CallK Tryd.prog T gm 40 [fv, .agg [intA o.1, intA o.2], .sl jo off xs.length] K (fun r K' => r = .agg [intA (firstL lt o xs).1, intA (firstL lt o xs).2] ∧ K' = K) := by
 refine callK_in 22 hT Tryd.func40 fun Y hret => ?_
 refine au [4, 5, 21] ?_
 intro jc hjc
 refine au [22] ?_
 intro jr hjr
 refine au [3, 4, 4, 5, 1, 28, 1, 3, 13] ?_
 refine TK.maskL [0, 4, 6, 9, 10, 11] ?_
 refine TK.perm (List.Perm.swap _ _ _) ?_
 refine TK.loopN (fun n env K' => ∃ (i : Nat), n = xs.length - i ∧ i ≤ xs.length ∧ env = slotsA 22 [(0, fv), (4, .ptr jc 0), (6, .ptr jr 0), (9, .sl jo off xs.length), (10, intA xs.length), (11, intA i)] ∧ K' = (jc, .cells [intA (firstL lt o (xs.take i)).1, intA (firstL lt o (xs.take i)).2] 89 true) :: (jr, .cells [intA 0, intA 0] 89 true) :: K) xs.length ⟨0, rfl, Nat.zero_le _, rfl, rfl⟩ fun n env K' hI' hnext => ?_
 obtain ⟨i, rfl, hi, rfl, rfl⟩ := hI'
 refine au [4, 5, 6, 3, 4, 20] ?_
 refine ⟨fun hc => ?_, fun hc => ?_⟩
 ·simp only [decide_eq_true_eq] at hc
  have hil : i < xs.length := by omega
  refine au [12, 4, 13, 4, 5, 36] ?_
  refine TK.a rfl (q_load rfl rfl TySz.h (by repeat (first | exact List.Mem.head _ | assumption | apply List.Mem.tail)) (hI i hil)) ?_
  refine au [22] ?_
  intro j9 hj9
  refine au [17, 3, 4, 5, 1, 8, 8] ?_
  refine TK.callF' rfl rfl rfl rfl rfl (hf xs[i] (List.mem_cons_of_mem _ (List.getElem_mem hil)) (firstL lt o (xs.take i)) firstL_mem') (.right (.right (.right (.all _)))) fun r1 K2 h3 => ?_
  obtain ⟨rfl, hK⟩ := h3
  refine au [] ?_
  rw [hK]
  refine TK.perm (K' := (j9, _) :: (jc, _) :: (jr, _) :: K) (List.perm_append_comm (l₁ := K)) ?_
  refine au [3, 20] ?_
  refine ⟨fun hc1 => ?_, fun hc1 => ?_⟩
  ·refine au [5, 8, 17, 3, 14, 5, 23, 1, 3] ?_
   refine TK.maskL [0, 4, 6, 9, 10, 11] ?_
   refine TK.keep (R := ((jc, _) :: (jr, _) :: K)) (.rem (by repeat (first | exact Rem.head | apply Rem.tail)) (.rem (by repeat (first | exact Rem.head | apply Rem.tail)) (.right (.all _)))) ?_
   exact hnext _ _ _ (by omega) ⟨i + 1, rfl, by omega, rfl, by rw [firstL_T hil hc1] <;> rfl⟩
  refine au [12, 14, 5, 23, 1, 3] ?_
  refine TK.maskL [0, 4, 6, 9, 10, 11] ?_
  refine TK.keep (R := ((jc, _) :: (jr, _) :: K)) (.rem (by repeat (first | exact Rem.head | apply Rem.tail)) (.rem (by repeat (first | exact Rem.head | apply Rem.tail)) (.right (.all _)))) ?_
  exact hnext _ _ _ (by omega) ⟨i + 1, rfl, by omega, rfl, by rw [firstL_F hil hc1] <;> rfl⟩
 simp only [decide_eq_false_iff_not] at hc
 obtain rfl : i = xs.length := by omega
 refine au [16, 4, 5, 8, 17, 3] ?_
 refine TK.rt hret (K) ?_
 exact ⟨by rw [List.take_length] <;> rfl, rfl⟩

theorem firstGuess_ok {main : Bool} {T : Goroutine → Hp → Prop} (hT : Shut Tryd.prog main T) {gm : Nat → Option Nat} {o : Nat × List Int × Int} {xs : List (Nat × List Int × Int)} {lt : Nat × List Int × Int → Nat × List Int × Int → Bool} {fv : AV} {jo off : Nat} {obo : AObj} {K : KV} (hl : xs.length ≤ 100000) (hm : (jo, obo) ∈ K) (hI : ∀ i (h : i < xs.length), takeO obo (off + (i : Int).toNat * 2) 2 = some [.sl xs[i].1 0 xs[i].2.1.length, intA xs[i].2.2]) (hf : ∀ a ∈ o :: xs, ∀ c ∈ o :: xs, CallFK Tryd.prog T gm fv [.agg [.sl a.1 0 a.2.1.length, intA a.2.2], .agg [.sl c.1 0 c.2.1.length, intA c.2.2]] K (fun r K' => r = boolA (lt a c) ∧ K' = K)) :
  CallK Tryd.prog T gm 48 [fv, .agg [.sl o.1 0 o.2.1.length, intA o.2.2], .sl jo off xs.length] K (fun r K' => r = .agg [.sl (firstL lt o xs).1 0 (firstL lt o xs).2.1.length, intA (firstL lt o xs).2.2] ∧ K' = K) := by
 refine callK_in 22 hT Tryd.func48 fun Y hret => ?_
 refine au [4, 5, 21] ?_
 intro jc hjc
 refine au [22] ?_
 intro jr hjr
 refine au [3, 4, 4, 5, 1, 28, 1, 3, 13] ?_
 refine TK.maskL [0, 4, 6, 9, 10, 11] ?_
 refine TK.perm (List.Perm.swap _ _ _) ?_
 refine TK.loopN (fun n env K' => ∃ (i : Nat), n = xs.length - i ∧ i ≤ xs.length ∧ env = slotsA 22 [(0, fv), (4, .ptr jc 0), (6, .ptr jr 0), (9, .sl jo off xs.length), (10, intA xs.length), (11, intA i)] ∧ K' = (jc, .cells [.sl (firstL lt o (xs.take i)).1 0 (firstL lt o (xs.take i)).2.1.length, intA (firstL lt o (xs.take i)).2.2] 101 true) :: (jr, .cells [.v (.slice none 0 0), intA 0] 101 true) :: K) xs.length ⟨0, rfl, Nat.zero_le _, rfl, rfl⟩ fun n env K' hI' hnext => ?_
 obtain ⟨i, rfl, hi, rfl, rfl⟩ := hI'
 refine au [4, 5, 6, 3, 4, 20] ?_
 refine ⟨fun hc => ?_, fun hc => ?_⟩
 ·simp only [decide_eq_true_eq] at hc
  have hil : i < xs.length := by omega
  refine au [12, 4, 13, 4, 5, 36] ?_
  refine TK.a rfl (q_load rfl rfl TySz.h (by repeat (first | exact List.Mem.head _ | assumption | apply List.Mem.tail)) (hI i hil)) ?_
  refine au [22] ?_
  intro j9 hj9
  refine au [17, 3, 4, 5, 1, 8, 8] ?_
  refine TK.callF' rfl rfl rfl rfl rfl (hf xs[i] (List.mem_cons_of_mem _ (List.getElem_mem hil)) (firstL lt o (xs.take i)) firstL_mem') (.right (.right (.right (.all _)))) fun r1 K2 h3 => ?_
  obtain ⟨rfl, hK⟩ := h3
  refine au [] ?_
  rw [hK]
  refine TK.perm (K' := (j9, _) :: (jc, _) :: (jr, _) :: K) (List.perm_append_comm (l₁ := K)) ?_
  refine au [3, 20] ?_
  refine ⟨fun hc1 => ?_, fun hc1 => ?_⟩
  ·refine au [5, 8, 17, 3, 14, 5, 23, 1, 3] ?_
   refine TK.maskL [0, 4, 6, 9, 10, 11] ?_
   refine TK.keep (R := ((jc, _) :: (jr, _) :: K)) (.rem (by repeat (first | exact Rem.head | apply Rem.tail)) (.rem (by repeat (first | exact Rem.head | apply Rem.tail)) (.right (.all _)))) ?_
   exact hnext _ _ _ (by omega) ⟨i + 1, rfl, by omega, rfl, by rw [firstL_T hil hc1] <;> rfl⟩
  refine au [12, 14, 5, 23, 1, 3] ?_
  refine TK.maskL [0, 4, 6, 9, 10, 11] ?_
  refine TK.keep (R := ((jc, _) :: (jr, _) :: K)) (.rem (by repeat (first | exact Rem.head | apply Rem.tail)) (.rem (by repeat (first | exact Rem.head | apply Rem.tail)) (.right (.all _)))) ?_
  exact hnext _ _ _ (by omega) ⟨i + 1, rfl, by omega, rfl, by rw [firstL_F hil hc1] <;> rfl⟩
 simp only [decide_eq_false_iff_not] at hc
 obtain rfl : i = xs.length := by omega
 refine au [16, 4, 5, 8, 17, 3] ?_
 refine TK.rt hret (K) ?_
 exact ⟨by rw [List.take_length] <;> rfl, rfl⟩
end Go.Vel
end
section
set_option linter.all false
set_option maxRecDepth 20000
set_option maxHeartbeats 60000000
namespace Go.Vel
open Go Go.Conc Go.Proofs

section
variable {P : Program} {main : Bool} {gm : Nat → Option Nat} {T : Goroutine → Hp → Prop} {Y : KX P gm T} {ds : List Nat} {k : List Item} {env : List AV} {K : KV} {V : KV} {o : Oper}
theorem sf_scope {kd : CallKind} {f : FuncId} {ro : Option Nat} {ts : Array Value} {ds : List Deferred} {cs : List Frame} {w : World} {c : Code} : stepG P main (G (fr kd f ro ts ds (.code (.scope c) :: k)) cs) w = .go (G (fr kd f ro ts ds (.code c :: .inScope c :: k)) cs) w #[] := by simp [G, stepG, stepG.exec, fr]
theorem sf_inScope {kd : CallKind} {f : FuncId} {ro : Option Nat} {ts : Array Value} {ds : List Deferred} {cs : List Frame} {w : World} {c : Code} : stepG P main (G (fr kd f ro ts ds (.inScope c :: k)) cs) w = .go (G (fr kd f ro ts ds k) cs) w #[] := by simp [G, stepG, stepG.exec, fr]
theorem TK.scope {c : Code} (h : TK Y ds (.code c :: .inScope c :: k) env K) : TK Y ds (.code (.scope c) :: k) env K := fun A hA φ H ts h1 h2 h3 h4 h5 h6 => Y.X.hT.ctlF rfl (fun _ => sf_scope) rfl (h A hA φ H ts h1 h2 h3 h4 h5 h6)
theorem TK.inScope {c : Code} (h : TK Y ds k env K) : TK Y ds (.inScope c :: k) env K := fun A hA φ H ts h1 h2 h3 h4 h5 h6 => Y.X.hT.ctlF rfl (fun _ => sf_inScope) rfl (h A hA φ H ts h1 h2 h3 h4 h5 h6)
theorem q_shrN {t yt : TypeId} {x y : Operand} {k' : IntKind} {a b : Nat} (ho : o.op = .binOp .shr t x y yt) (hx : opndO gm env x = some (.v (.int .i64 a))) (hy : opndO gm env y = some (.v (.int k' b))) (h0 : b ≤ 60) : Qk P gm env V o (.v (.int .i64 ((a / 2 ^ b : Nat) : Int))) := by
 have := q_shr (P := P) (V := V) ho hx hy (by omega)
 rwa [Int.toNat_natCast, show ((a : Int).fdiv (2 ^ b)) = ((a / 2 ^ b : Nat) : Int) by rw [Int.fdiv_eq_ediv_of_nonneg _ (by exact_mod_cast Nat.zero_le (2 ^ b))]; norm_cast] at this
theorem q_shl1 {t yt : TypeId} {x y : Operand} {k' : IntKind} {b : Nat} (ho : o.op = .binOp .shl t x y yt) (hx : opndO gm env x = some (.v (.int .i64 1))) (hy : opndO gm env y = some (.v (.int k' b))) (h0 : b ≤ 20) : Qk P gm env V o (.v (.int .i64 ((2 ^ b : Nat) : Int))) := by
 have hp : 2 ^ b ≤ 2 ^ 20 := Nat.pow_le_pow_right (by omega) h0
 have e : (1 * 2 ^ b : Int) = ((2 ^ b : Nat) : Int) := by rw [Int.one_mul]; norm_cast
 have := q_shl (P := P) (V := V) ho hx hy (by omega) (by rw [Int.toNat_natCast, e]; have hp' : 2 ^ b ≤ 1048576 := hp; generalize 2 ^ b = m at hp' ⊢; omega)
 rwa [Int.toNat_natCast, e] at this
theorem Kstep.trans {K1 K2 : KV} {A A1 A2 : List AObj} (h1 : Kstep K A K1 A1) (h2 : Kstep K1 A1 K2 A2) : Kstep K A K2 A2 := by
 refine ⟨h2.view, h2.nd, fun i hi => ?_, fun j hj hn => ?_, Nat.le_trans h1.len h2.len⟩
 ·rcases h2.own i hi with h | h
  ·exact h1.own i h
  ·exact .inr (Nat.le_trans h1.len h)
 ·rw [h2.kept j (Nat.lt_of_lt_of_le hj h1.len) (fun hm => ?_)]
  ·exact h1.kept j hj hn
  ·rcases h1.own j hm with h | h
   ·exact hn h
   ·omega
/-- What a call made is frozen. -/
theorem callK_freeze {g : FuncId} {args : List AV} {n : Nat} {l : List AV} {e : TypeId} {s : Nat} {R : KV} (h : CallK P T gm g args K fun r K' => ∃ j, r = .row j n ∧ K' = (j, .row l e s) :: R) : CallK P T gm g args K fun r K' => ∃ j, r = .sl j 0 n ∧ K' = (j, .cells l e false) :: R := by
 intro A hv hn φ F H vs c cs h1 h2 h3 q
 refine h A hv hn φ F H vs c cs h1 h2 h3 fun r A' φ' H' v ⟨K', hk, j, hr, he⟩ hA hlen hH' hv' => ?_
 subst hr he
 have hj : A'[j]? = some (.row l e s) := hk.view.get (by simp)
 have hb : (φ' j).base = 0 := (hH'.obj j _ hj).2.1
 refine q (.sl j 0 n) (A'.set j (.cells l e false)) φ' H' v ⟨_, hk.trans (.set hk.view hk.nd .head), j, rfl, rfl⟩ hA (by simpa using hlen) (hH'.turn hj (fun ho hl => ?_) (fun h => by cases h) (fun _ => rfl) (fun hs => ?_)) ?_
 ·have hc : 0 < (φ' j).cap := by
   rcases Nat.eq_zero_or_pos (φ' j).cap with e | e
   ·exact absurd (ho.1 e) hl
   ·exact e
  obtain ⟨cur, q1, q2, q3, q4, q5⟩ := ho.2.2 hc
  exact ⟨true, cur, (_, 0, 0), q1, (fun h => by cases h), fun t u hu => by rw [hb, Nat.zero_add]; exact q5 t u hu⟩
 ·show 0 < (φ' j).cap
  rcases Nat.eq_zero_or_pos (φ' j).cap with e | e
  ·exact absurd ((hH'.obj j _ hj).1 e) hs
  ·exact e
 ·have := unrow_rel (j := j) hb hv'
  simpa [unrow] using this
end
theorem ints_at (xs : List Int) (e : TypeId) (rw' : Bool) : IntsAt (.cells (xs.map intA) e rw') 0 xs := fun i h => by
 simp only [takeO, AObj.look, Int.toNat_natCast, Nat.zero_add, Nat.mul_one]
 rw [if_pos (by simp; omega)]
 simp [List.take_one, h]
theorem rem_of_mem {K : KV} {x : Nat × AObj} : x ∈ K → ∃ R, Rem K x R := by
 induction K with
 | nil => intro h; cases h
 | cons y K ih =>
  intro h
  rcases List.mem_cons.1 h with rfl | h
  ·exact ⟨_, .head⟩
  ·obtain ⟨R, hR⟩ := ih h; exact ⟨_, .tail hR⟩
theorem listF_ok {main : Bool} {T : Goroutine → Hp → Prop} (hT : Shut Tryd.prog main T) {gm : Nat → Option Nat} {S : List Int} (hS : S.length ≤ 3) (hB : ∀ x ∈ S, 0 ≤ x ∧ x < 1000) : CallK Tryd.prog T gm 47 [.agg (seamsC S)] [] (fun r K' => ∃ j, r = .sl j 0 S.length ∧ K' = [(j, .cells (S.map intA) 3 false)]) := callK_freeze (list_ok hT hS hB)
def bitB (bits i : Nat) : Bool := ((bits / 2 ^ i % 2 : Nat) : Int) == 1
def allR (b : Bk) (S : List Int) (bits n : Nat) : Bool := (List.range n).all fun i => !(bitB bits i) || rightM b S i
def togM (b : Bk) (bits : Nat) : Bool := (allM b).any fun S => allR b S bits b.seekers.length
theorem allR_succ (b : Bk) (S : List Int) (bits i : Nat) : allR b S bits (i + 1) = (allR b S bits i && (!(bitB bits i) || rightM b S i)) := by
 unfold allR; rw [List.range_succ, List.all_append]; simp
theorem allR_bad {b : Bk} {S : List Int} {bits i n : Nat} (hi : i < n) (h : (!(bitB bits i) || rightM b S i) = false) : allR b S bits n = false := by
 unfold allR
 rw [List.all_eq_false]
 exact ⟨i, List.mem_range.2 hi, by rw [h]; decide⟩


theorem together_ok {main : Bool} {T : Goroutine → Hp → Prop} (hT : Shut Tryd.prog main T)  {b : Bk} {s e : Nat} {bits : Nat} (hse : s ≠ e) (hb : BkOk b) (hbt : bits < 100000) :
  CallK Tryd.prog T gmS 51 [.agg (bookC b s e), intA bits] [(1, saysG), (s, saysO b), (e, seenO b)] (fun r K' => r = boolA (togM b bits) ∧ K' = [(1, saysG), (s, saysO b), (e, seenO b)]) := by
 refine callK_in3 30 hT Tryd.func51 fun Y hro hret => ?_
 refine au [4, 5, 21] ?_
 intro jb hjb
 refine au [21] ?_
 intro jt hjt
 refine au [22] ?_
 intro jr hjr
 refine au [3] ?_
 refine TK.scope ?_
 refine au [4, 15, 4, 4, 5, 8, 32, 3, 13] ?_
 refine TK.rangeAll hT hb (s := s) (e := e) (J := fun pre K1 => K1 = [(jr, .cells [boolA false] 4 true), (jb, .cells (bookC b s e) 70 true), (jt, .cells [intA bits] 3 true), (1, saysG), (s, saysO b)] ∧ ∀ S ∈ pre, allR b S bits b.seekers.length = false) (D := fun c K1 => c = .ret ∧ K1 = [(jr, .cells [boolA true] 4 true), (jb, .cells (bookC b s e) 70 true), (jt, .cells [intA bits] 3 true), (1, saysG), (s, saysO b)] ∧ togM b bits = true) rfl hro rfl (by repeat (first | exact Split.none _ | exact Split.all _ | (apply Split.rem; repeat (first | exact Rem.head | apply Rem.tail)) | apply Split.right)) ⟨rfl, by simp⟩ (fun Y' l lo lb pre S K1 hbegin hfin hout hpre hJ => ?_) (fun d K2 hJ => ?_) (fun d c K2 hD => ?_)
 ·obtain ⟨rfl, hni⟩ := hJ
  have hSm := allM_pre hb hpre
  have hn5 := hb.ns
  refine au [5, 22] ?_
  intro j9 hj9
  refine au [17, 3] ?_
  refine hbegin _ _ _ _ _ (by repeat (first | exact Upd.head | apply Upd.tail)) ?_
  refine au [13, 4, 4, 5, 7, 7, 9, 28, 1, 3, 13] ?_
  refine TK.maskL [2, 3, 4, 5, 13, 14] ?_
  refine TK.kp [(j9, _), (l, _), (e, _), (jr, _), (jb, _), (jt, _), (1, _), (s, _)] ?_
  refine TK.loopN (fun n env K => ∃ (i : Nat), n = b.seekers.length - i ∧ i ≤ b.seekers.length ∧ allR b S bits i = true ∧ env = slotsA 30 [(2, .ptr jb 0), (3, .ptr jt 0), (4, .ptr jr 0), (5, .ptr j9 0), (13, intA b.seekers.length), (14, intA i)] ∧ K = [(j9, .cells (seamsC S) 81 true), (l, lb), (e, seenO b), (jr, .cells [boolA false] 4 true), (jb, .cells (bookC b s e) 70 true), (jt, .cells [intA bits] 3 true), (1, saysG), (s, saysO b)]) b.seekers.length ⟨0, rfl, Nat.zero_le _, rfl, rfl, rfl⟩ fun n env K hI' hnext => ?_
  obtain ⟨i, rfl, hi, hall, rfl, rfl⟩ := hI'
  refine au [4, 5, 6, 3, 4, 20] ?_
  refine ⟨fun hc => ?_, fun hc => ?_⟩
  ·simp only [decide_eq_true_eq] at hc
   have hil : i < b.seekers.length := by omega
   refine au [12, 4, 13, 4, 5, 1, 2, 3, 4, 5, 9, 1] ?_
   refine TK.a rfl (q_shrN rfl rfl rfl (by omega)) ?_
   refine TK.a rfl (q_and1 rfl rfl rfl (by have := Nat.div_le_self bits (2 ^ i); omega)) ?_
   refine au [6, 1] ?_
   refine TK.sp 22 (fun g6_6 => ?_) (fun g6_6 => ?_)
   ·refine au [8, 8, 1] ?_
    refine TK.cl rfl rfl rfl rfl (right_ok hT (s := s) (e := e) hb hSm hil) ?_
    rintro r1 K2 ⟨rfl, rfl⟩
    refine au [30, 26, 3, 20] ?_
    refine ⟨fun hc1 => ?_, fun hc1 => ?_⟩
    ·refine au [16] ?_
     exact hfin _ _ [(jr, _), (jb, _), (jt, _), (1, _), (s, _)] _ (by repeat (first | exact Split.none _ | exact Split.all _ | (apply Split.rem; repeat (first | exact Rem.head | apply Rem.tail)) | apply Split.right)) ⟨rfl, fun R hR => by
      rcases List.mem_append.1 hR with hR | hR
      ·exact hni R hR
      ·rw [List.mem_singleton.1 hR]; exact allR_bad hil (by rw [show bitB bits i = true from g6_6, show rightM b S i = false by simpa using hc1]; rfl)⟩
    refine au [12, 14, 5, 23, 1, 3] ?_
    refine TK.maskL [2, 3, 4, 5, 13, 14] ?_
    refine TK.kp [(j9, _), (l, _), (e, _), (jr, _), (jb, _), (jt, _), (1, _), (s, _)] ?_
    exact hnext _ _ _ (by omega) ⟨i + 1, rfl, by omega, by rw [allR_succ, hall, show rightM b S i = true by simpa using hc1]; simp, rfl, rfl⟩
   refine au [11, 11, 11, 11, 11, 25, 3, 19, 12, 14, 5, 23, 1, 3] ?_
   refine TK.maskL [2, 3, 4, 5, 13, 14] ?_
   refine TK.kp [(j9, _), (l, _), (e, _), (jr, _), (jb, _), (jt, _), (1, _), (s, _)] ?_
   exact hnext _ _ _ (by omega) ⟨i + 1, rfl, by omega, by rw [allR_succ, hall, show bitB bits i = false from g6_6]; rfl, rfl, rfl⟩
  simp only [decide_eq_false_iff_not] at hc
  obtain rfl : i = b.seekers.length := by omega
  refine au [16, 4, 5, 17, 3] ?_
  exact hout _ _ _ _ [(jr, _), (jb, _), (jt, _), (1, _), (s, _)] _ (.ret _) (by repeat (first | exact Split.none _ | exact Split.all _ | (apply Split.rem; repeat (first | exact Rem.head | apply Rem.tail)) | apply Split.right)) ⟨rfl, rfl, List.any_eq_true.2 ⟨S, hpre.subset (by simp), hall⟩⟩
 ·obtain ⟨rfl, hni⟩ := hJ
  simp only [List.cons_append, List.nil_append]
  refine au [14, 4, 5, 17, 3] ?_
  refine TK.leave (.ret _) fun A hA => hret _ _ _ _ ([(1, _), (s, _), (e, _), (jr, _)]) ([(1, _), (s, _), (e, _)]) _ _ _ (.inr rfl) (by repeat (first | exact Split.none _ | exact Split.all _ | (apply Split.rem; repeat (first | exact Rem.head | apply Rem.tail)) | apply Split.right)) (by simp) (by simp) (by repeat (first | exact Split.none _ | exact Split.all _ | (apply Split.rem; repeat (first | exact Rem.head | apply Rem.tail)) | apply Split.right)) (res_one (rk_cell1 rfl TySz.h (by repeat (first | exact List.Mem.head _ | assumption | apply List.Mem.tail)) rfl)) ?_ A hA
  exact ⟨by rw [show togM b bits = false from List.any_eq_false.2 fun S hS => by rw [hni S hS]; decide]; rfl, rfl⟩
 ·obtain ⟨rfl, rfl, htg⟩ := hD
  simp only [List.cons_append, List.nil_append]
  refine au [] ?_
  refine TK.leave (.ret _) fun A hA => hret _ _ _ _ ([(1, _), (s, _), (e, _), (jr, _)]) ([(1, _), (s, _), (e, _)]) _ _ _ (.inr rfl) (by repeat (first | exact Split.none _ | exact Split.all _ | (apply Split.rem; repeat (first | exact Rem.head | apply Rem.tail)) | apply Split.right)) (by simp) (by simp) (by repeat (first | exact Split.none _ | exact Split.all _ | (apply Split.rem; repeat (first | exact Rem.head | apply Rem.tail)) | apply Split.right)) (res_one (rk_cell1 rfl TySz.h (by repeat (first | exact List.Mem.head _ | assumption | apply List.Mem.tail)) rfl)) ?_ A hA
  exact ⟨by rw [htg] <;> rfl, rfl⟩
end Go.Vel
end
section
set_option linter.all false
set_option maxRecDepth 20000
set_option maxHeartbeats 60000000
namespace Go.Vel
open Go Go.Conc Go.Proofs

theorem not_f {a : Bool} (h : (!a) = true) : a = false := by cases a <;> simp_all
theorem not_t {a : Bool} (h : (!a) = false) : a = true := by cases a <;> simp_all
theorem wrap_u8 (c : UInt8) : IntKind.i64.wrap (c.toNat : Int) = (c.toNat : Int) := wrap_i64 (by have := c.toNat_lt; omega)
theorem take_fld {ob : AObj} {p n c : Nat} {l : List AV} {v : AV} (h : takeO ob p n = some l) (hc : c < n) (hl : l[c]? = some v) : takeO ob (p + c) 1 = some [v] := by
 unfold takeO at h ⊢
 cases hk : ob.look with
 | none => rw [hk] at h; cases h
 | some q =>
  rw [hk] at h
  dsimp only at h ⊢
  split at h
  ·rename_i hb
   cases h
   rw [if_pos ⟨by omega, by omega⟩]
   rw [List.getElem?_take, if_pos hc, List.getElem?_drop] at hl
   obtain ⟨h1, h2⟩ := List.getElem?_eq_some_iff.1 hl
   rw [List.take_one, List.head?_drop, hl]
   rfl
  ·cases h
def insideM (a z lo hi : Int) : Bool := (decide (lo ≤ a) && decide (a ≤ z)) && decide (z ≤ hi)
theorem numbers_eq (b : Bk) : numbersM b = bif !(decide (4 ≤ b.steps) && decide (b.steps ≤ 16)) || (!(decide (0 ≤ b.wrong) && decide (b.wrong ≤ 3)) || !insideM b.low b.high 0 3) then 1 else 0 := by
 unfold numbersM insideM
 congr 3
 have e1 : decide (b.low < 0) = !decide (0 ≤ b.low) := by by_cases h : 0 ≤ b.low <;> simp [h] <;> omega
 have e2 : decide (b.low > b.high) = !decide (b.low ≤ b.high) := by by_cases h : b.low ≤ b.high <;> simp [h] <;> omega
 have e3 : decide (b.high > 3) = !decide (b.high ≤ 3) := by by_cases h : b.high ≤ 3 <;> simp [h] <;> omega
 rw [e1, e2, e3]
 cases decide (0 ≤ b.low) <;> cases decide (b.low ≤ b.high) <;> cases decide (b.high ≤ 3) <;> rfl
theorem check_num {b : Bk} (h : numbersM b = 1) : checkM b = 1 := by unfold checkM; rw [h]; rfl
theorem check_heard {b : Bk} {c : Int} (h : numbersM b = 0) (h2 : heardM b = c) (hc : c ≠ 0) : checkM b = c := by
 unfold checkM; rw [h, if_neg (by decide), h2, if_pos (by simpa using hc)]
theorem check_looked {b : Bk} (h : numbersM b = 0) (h2 : heardM b = 0) : checkM b = lookedM b := by
 unfold checkM; rw [h, if_neg (by decide), h2, if_neg (by decide)]
theorem says_bad {n : Int} : (decide (n < 0) || decide (n > 2)) = !(decide (0 ≤ n) && decide (n ≤ 2)) := by
 by_cases h1 : n < 0 <;> by_cases h2 : n > 2 <;> simp [h1, h2] <;> omega
theorem any_take_next {α : Type} {xs : List α} {p : α → Bool} {i : Nat} {x : α} (h : xs[i]? = some x) (hn : (xs.take i).any p = false) (he : p x = false) : (xs.take (i + 1)).any p = false := by
 rw [List.take_add_one, h, List.any_append, hn]; simp [he]
theorem any_of {α : Type} {xs : List α} {p : α → Bool} {i n : Nat} {x : α} (h : xs[i]? = some x) (hi : i < n) (he : p x = true) : (xs.take n).any p = true := by
 rw [List.any_eq_true]
 refine ⟨x, List.mem_of_getElem? (i := i) ?_, he⟩
 rw [List.getElem?_take, if_pos hi, h]
theorem byteOk_in {i : Nat} {c : Int} (h : (!(decide (97 ≤ c) && decide (c ≤ 122))) = false) : byteOk i c = true := by
 unfold byteOk
 rw [show (decide (97 ≤ c) && decide (c ≤ 122)) = true by simpa using h]; rfl
theorem byteOk_first {i : Nat} {c : Int} (h : (!(decide (97 ≤ c) && decide (c ≤ 122))) = true) (h2 : ((i : Int) == 0) = true) : byteOk i c = false := by
 unfold byteOk
 rw [show (decide (97 ≤ c) && decide (c ≤ 122)) = false from not_f h, show (i : Int) = 0 by simpa using h2]; rfl
theorem byteOk_rest {i : Nat} {c : Int} (h : (!(decide (97 ≤ c) && decide (c ≤ 122))) = true) (h2 : ((i : Int) == 0) = false) : byteOk i c = (decide (48 ≤ c) && decide (c ≤ 57)) := by
 unfold byteOk
 rw [show (decide (97 ≤ c) && decide (c ≤ 122)) = false from not_f h, show decide ((i : Int) > 0) = true by have : (i : Int) ≠ 0 := (by simpa using h2); simp; omega]; rfl
theorem str_get (s : ByteArray) (i : Nat) : s[i]? = s.data[i]? := by
 first | rfl | (simp [ByteArray.getElem?_eq, Array.getElem?_eq] <;> rfl) | (by_cases h : i < s.size <;> simp [getElem?_pos, getElem?_neg, h] <;> rfl)


theorem between_ok {main : Bool} {T : Goroutine → Hp → Prop} (hT : Shut Tryd.prog main T) {gm : Nat → Option Nat} {n lo hi : Int} :
  CallK Tryd.prog T gm 12 [intA n, intA lo, intA hi] [] (fun r K' => r = boolA (decide (lo ≤ n) && decide (n ≤ hi)) ∧ K' = []) := by
 refine callK_in 15 hT Tryd.func12 fun Y hret => ?_
 refine au [4, 5, 2, 3, 4, 5, 1, 1, 6, 1] ?_
 refine TK.sp 10 (fun g1_4 => ?_) (fun g1_4 => ?_)
 ·refine au [1, 1, 6, 26, 2, 3] ?_
  refine TK.rta hret ?_
  exact ⟨by simp [boolA, g1_4], rfl⟩
 refine au [11, 11, 11, 25, 2, 3] ?_
 refine TK.rta hret ?_
 exact ⟨by simp [boolA, g1_4], rfl⟩

theorem inside_ok {main : Bool} {T : Goroutine → Hp → Prop} (hT : Shut Tryd.prog main T) {gm : Nat → Option Nat} {a z lo hi : Int} :
  CallK Tryd.prog T gm 59 [.agg [intA a, intA z], intA lo, intA hi] [] (fun r K' => r = boolA (insideM a z lo hi) ∧ K' = []) := by
 refine callK_in 24 hT Tryd.func59 fun Y hret => ?_
 refine au [4, 5, 21] ?_
 intro j1 hj1
 refine au [2, 3, 4, 5, 1, 7, 9, 6, 1] ?_
 refine TK.sp 11 (fun g1_5 => ?_) (fun g1_5 => ?_)
 ·refine au [7, 9, 7, 9, 6, 26, 1] ?_
  refine TK.sp 18 (fun g1_12 => ?_) (fun g1_12 => ?_)
  ·refine au [7, 9, 1, 6, 26, 2, 3] ?_
   refine TK.rt hret [] ?_
   exact ⟨by simp [insideM, boolA, g1_5, g1_12], rfl⟩
  refine au [11, 11, 11, 11, 25, 2, 3] ?_
  refine TK.rt hret [] ?_
  exact ⟨by simp [insideM, boolA, g1_5, g1_12], rfl⟩
 refine au [11, 11, 11, 11, 11, 25, 1, 11, 11, 11, 11, 25, 2, 3] ?_
 refine TK.rt hret [] ?_
 exact ⟨by simp [insideM, boolA, g1_5], rfl⟩

theorem isNameR_ok {main : Bool} {T : Goroutine → Hp → Prop} (hT : Shut Tryd.prog main T) {gm : Nat → Option Nat} {s : ByteArray} (hl : s.size ≤ 1000) :
  CallK Tryd.prog T gm 60 [.v (.string s)] [] (fun r K' => r = boolA (isNameM s) ∧ K' = []) := by
 refine callK_in 31 hT Tryd.func60 fun Y hret => ?_
 refine au [4, 5, 2, 3, 4, 4, 5, 2, 3, 13] ?_
 refine TK.maskL [0, 3] ?_
 refine TK.loopN (fun n env K => ∃ (i : Nat), n = s.size - i ∧ i ≤ s.size ∧ bytesOk s i = true ∧ env = slotsA 31 [(0, .v (.string s)), (3, intA i)] ∧ K = []) s.size ⟨0, rfl, Nat.zero_le _, rfl, rfl, rfl⟩ fun n env K hI hnext => ?_
 obtain ⟨i, rfl, hi, hok, rfl, rfl⟩ := hI
 refine au [4, 4, 5, 1, 1, 29, 6, 3, 20] ?_
 refine ⟨fun hc => ?_, fun hc => ?_⟩
 ·simp only [decide_eq_true_eq] at hc
  have hil : i < s.data.size := by have : s.data.size = s.size := rfl; omega
  obtain ⟨cb, hcb⟩ : ∃ cb, s.data[i]? = some cb := ⟨_, Array.getElem?_eq_getElem hil⟩
  have hcs : s[((i : Int)).toNat]? = some cb := by rw [Int.toNat_natCast]; exact (str_get s i).trans hcb
  refine au [12, 4, 13, 4, 5, 1, 1] ?_
  refine TK.a rfl (q_indexStr rfl rfl rfl Und.h (by omega) (by exact hcs)) ?_
  refine TK.a rfl (q_convInt rfl rfl Und.h Und.h (wrap_u8 _)) ?_
  refine TK.cl rfl rfl rfl rfl (between_ok hT) ?_
  rintro r1 K2 ⟨rfl, rfl⟩
  refine au [30, 1] ?_
  refine TK.sp 16 (fun g4_7 => ?_) (fun g4_7 => ?_)
  ·refine au [1, 6, 1] ?_
   refine TK.sp 19 (fun g4_10 => ?_) (fun g4_10 => ?_)
   ·refine au [11, 11, 11, 11, 11, 11, 26, 26, 3, 18, 4, 5, 2, 3] ?_
    refine TK.rt hret [] ?_
    exact ⟨by unfold isNameM; rw [bytesOk_bad (n := s.size) hcb hil (byteOk_first g4_7 g4_10)]; rfl, rfl⟩
   refine au [1, 1] ?_
   refine TK.a rfl (q_indexStr rfl rfl rfl Und.h (by omega) (by exact hcs)) ?_
   refine TK.a rfl (q_convInt rfl rfl Und.h Und.h (wrap_u8 _)) ?_
   refine TK.cl rfl rfl rfl rfl (between_ok hT) ?_
   rintro r4 K5 ⟨rfl, rfl⟩
   refine au [30, 25, 26, 3, 20] ?_
   refine ⟨fun hc1 => ?_, fun hc1 => ?_⟩
   ·refine au [4, 5, 2, 3] ?_
    refine TK.rt hret [] ?_
    exact ⟨by unfold isNameM; rw [bytesOk_bad (n := s.size) hcb hil (by exact (byteOk_rest g4_7 g4_10).trans (not_f hc1))]; rfl, rfl⟩
   refine au [12, 14, 5, 1, 23, 2, 3] ?_
   refine TK.maskL [0, 3] ?_
   exact hnext _ _ _ (by omega) ⟨i + 1, rfl, by omega, by rw [bytesOk_succ hcb, hok, byteOk_rest g4_7 g4_10, not_t hc1]; rfl, rfl, rfl⟩
  refine au [11, 11, 11, 11, 11, 11, 11, 11, 11, 11, 25, 3, 19, 12, 14, 5, 1, 23, 2, 3] ?_
  refine TK.maskL [0, 3] ?_
  exact hnext _ _ _ (by omega) ⟨i + 1, rfl, by omega, by rw [bytesOk_succ hcb, hok, byteOk_in g4_7]; rfl, rfl, rfl⟩
 simp only [decide_eq_false_iff_not] at hc
 obtain rfl : i = s.size := by omega
 refine au [16, 4, 5, 1, 29] ?_
 refine TK.cl rfl rfl rfl rfl (between_ok hT) ?_
 rintro r7 K8 ⟨rfl, rfl⟩
 refine au [2, 3] ?_
 refine TK.rt hret [] ?_
 exact ⟨by unfold isNameM; rw [hok]; rfl, rfl⟩

theorem isStepR_ok {main : Bool} {T : Goroutine → Hp → Prop} (hT : Shut Tryd.prog main T) {gm : Nat → Option Nat} {b : Bk} {s e : Nat} {n : Int} (hs : 0 ≤ b.steps ∧ b.steps ≤ 16) :
  CallK Tryd.prog T gm 61 [.agg (bookC b s e), intA n] [] (fun r K' => r = boolA (isStepM b n) ∧ K' = []) := by
 refine callK_in 10 hT Tryd.func61 fun Y hret => ?_
 refine au [4, 5, 21] ?_
 intro j1 hj1
 refine au [2, 3, 4, 5, 1, 7, 9, 24] ?_
 refine TK.cl rfl rfl rfl rfl (between_ok hT) ?_
 rintro r2 K3 ⟨rfl, rfl⟩
 refine au [2, 3] ?_
 refine TK.rt hret [] ?_
 exact ⟨rfl, rfl⟩

theorem checkR_ok {main : Bool} {T : Goroutine → Hp → Prop} (hT : Shut Tryd.prog main T) {gm : Nat → Option Nat} {b : Bk} {s e : Nat} (hse : s ≠ e) (hn : ∀ x ∈ b.seekers, x.name.size ≤ 1000) (hl : b.seen.length ≤ 1000) (hl2 : b.seekers.length ≤ 1000) :
  CallK Tryd.prog T gm 20 [.agg (bookC b s e)] [(s, saysO b), (e, seenO b)] (fun r K' => r = intA (checkM b) ∧ K' = [(s, saysO b), (e, seenO b)]) := by
 refine callK_in 93 hT Tryd.func20 fun Y hret => ?_
 refine au [4, 5, 21] ?_
 intro jb hjb
 refine au [2, 3, 4, 4, 5, 7, 9] ?_
 refine TK.cl rfl rfl rfl rfl (between_ok hT) ?_
 rintro r1 K2 ⟨rfl, rfl⟩
 refine au [30, 1] ?_
 refine TK.sp 11 (fun g1_5 => ?_) (fun g1_5 => ?_)
 ·refine au [11, 11, 11, 11, 26, 1, 11, 11, 11, 11, 26, 3, 18, 4, 5, 2, 3] ?_
  refine TK.rt hret [(s, _), (e, _)] ?_
  exact ⟨by rw [check_num (b := b) (by rw [numbers_eq]; simp only [*, Bool.true_or, Bool.or_true, cond_true])]; rfl, rfl⟩
 refine au [7, 9] ?_
 refine TK.cl rfl rfl rfl rfl (between_ok hT) ?_
 rintro r4 K5 ⟨rfl, rfl⟩
 refine au [30, 25, 1] ?_
 refine TK.sp 17 (fun g1_11 => ?_) (fun g1_11 => ?_)
 ·refine au [11, 11, 11, 11, 26, 3, 18, 4, 5, 2, 3] ?_
  refine TK.rt hret [(s, _), (e, _)] ?_
  exact ⟨by rw [check_num (b := b) (by rw [numbers_eq]; simp only [*, Bool.true_or, Bool.or_true, cond_true])]; rfl, rfl⟩
 refine au [7, 8] ?_
 refine TK.cl rfl rfl rfl rfl (inside_ok hT) ?_
 rintro r7 K8 ⟨rfl, rfl⟩
 refine au [30, 25, 3, 20] ?_
 refine ⟨fun hc0 => ?_, fun hc0 => ?_⟩
 ·refine au [4, 5, 2, 3] ?_
  refine TK.rt hret [(s, _), (e, _)] ?_
  exact ⟨by rw [check_num (b := b) (by rw [numbers_eq]; simp only [*, Bool.true_or, Bool.or_true, cond_true])]; rfl, rfl⟩
 have hnum : numbersM b = 0 := by rw [numbers_eq]; simp only [*]; rfl
 have hs := numbers_range (b := b) (by rw [hnum]; rfl)
 refine au [12, 4, 4, 5, 7, 9, 28] ?_
 refine TK.a rfl (q_cmp rfl rfl rfl rfl) ?_
 refine au [3, 20] ?_
 refine ⟨fun hc1 => ?_, fun hc1 => ?_⟩
 ·have hc1 : b.seekers.length > 5 := by have := of_decide_eq_true hc1; omega
  refine au [4, 5, 2, 3] ?_
  refine TK.rt hret [(s, _), (e, _)] ?_
  exact ⟨by rw [check_heard hnum (c := 2) (if_pos hc1) (by decide)]; rfl, rfl⟩
 have hc1 : ¬ b.seekers.length > 5 := by have := of_decide_eq_false hc1; omega
 refine au [12, 4, 4, 5, 2, 3, 13] ?_
 refine TK.maskL [1, 3] ?_
 refine TK.loopN (fun n env K => ∃ (i : Nat), n = b.seekers.length - i ∧ i ≤ b.seekers.length ∧ heardL b i = 0 ∧ env = slotsA 93 [(1, .ptr jb 0), (3, intA i)] ∧ K = [(jb, .cells (bookC b s e) 27 true), (s, saysO b), (e, seenO b)]) b.seekers.length ⟨0, rfl, Nat.zero_le _, rfl, rfl, rfl⟩ fun n env K hI hnext => ?_
 obtain ⟨i, rfl, hi, h0, rfl, rfl⟩ := hI
 refine au [4, 4, 5, 1, 7, 9, 28, 6, 3, 20] ?_
 refine ⟨fun hc => ?_, fun hc => ?_⟩
 ·simp only [decide_eq_true_eq] at hc
  have hil : i < b.seekers.length := by omega
  obtain ⟨x, hx⟩ : ∃ x, b.seekers[i]? = some x := ⟨_, List.getElem?_eq_getElem hil⟩
  have hxm := List.mem_of_getElem? hx
  refine au [12, 4, 13, 4, 5, 7, 9, 1, 36] ?_
  refine TK.a rfl (q_load rfl rfl TySz.h (by repeat (first | exact List.Mem.head _ | assumption | apply List.Mem.tail)) (says_at' b hx)) ?_
  refine au [22] ?_
  intro jx hjx
  refine au [17, 3, 4, 4, 5, 7, 9] ?_
  refine TK.cl rfl rfl rfl rfl (isNameR_ok hT (hn x hxm)) ?_
  rintro r10 K11 ⟨rfl, rfl⟩
  refine au [30, 3, 20] ?_
  refine ⟨fun hnm => ?_, fun hnm => ?_⟩
  ·refine au [4, 5, 2, 3] ?_
   refine TK.rt hret [(s, _), (e, _)] ?_
   exact ⟨by rw [check_heard hnum (c := 4) (by unfold heardM; rw [if_neg hc1]; exact heardL_of h0 (c := 4) (by unfold heard1; rw [hx]; dsimp only; rw [if_pos hnm]) (by decide) hil) (by decide)]; rfl, rfl⟩
  refine au [12, 4, 4, 5, 2, 3, 13] ?_
  refine TK.maskL [1, 3, 4, 5] ?_
  refine TK.loopN (fun n env K => ∃ (k : Nat), n = i - k ∧ k ≤ i ∧ ((b.seekers.take k).any fun o => o.name.toList == x.name.toList) = false ∧ env = slotsA 93 [(1, .ptr jb 0), (3, intA i), (4, .ptr jx 0), (5, intA k)] ∧ K = [(jx, .cells (saysC x) 45 true), (jb, .cells (bookC b s e) 27 true), (s, saysO b), (e, seenO b)]) i ⟨0, rfl, Nat.zero_le _, rfl, rfl, rfl⟩ fun n env K hI hnext2 => ?_
  obtain ⟨k, rfl, hk, hany, rfl, rfl⟩ := hI
  refine au [4, 4, 5, 1, 1, 6, 3, 20] ?_
  refine ⟨fun hc4 => ?_, fun hc4 => ?_⟩
  ·simp only [decide_eq_true_eq] at hc4
   have hki : k < i := by omega
   obtain ⟨y, hy⟩ : ∃ y, b.seekers[k]? = some y := ⟨_, List.getElem?_eq_getElem (by omega)⟩
   refine au [12, 4, 13, 4] ?_
   refine TK.draw [0, 1, 2, 3, 4, 5, 6, 7, 8] [0, 1, 2, 3, 4, 5, 6, 7, 8] (by kernel_rfl) (by kernel_rfl) ?_
   refine TD.z [1] rfl (q_fieldAddr rfl rfl FldOf.h (by decide)) ?_
   refine TD.y [48] rfl (hq := q_load1 rfl rfl TySz.h (List.Mem.head _) rfl) (h := ?_)
   refine TD.z [5] rfl (q_move rfl rfl) ?_
   refine TD.z [49, 50] rfl (q_indexSl rfl rfl rfl SlEl.h (by omega) (by omega)) ?_
   refine TD.z [51] rfl (q_fieldAddr rfl rfl FldOf.h (by decide)) ?_
   refine TD.y [52] rfl (hq := q_load1 rfl rfl TySz.h (List.Mem.head _) (take_fld (says_at' b hy) (by decide) rfl)) (h := ?_)
   refine TD.z [4] rfl (q_fieldAddr rfl rfl FldOf.h (by decide)) ?_
   refine TD.y [54] rfl (hq := q_load1 rfl rfl TySz.h (List.Mem.head _) rfl) (h := ?_)
   refine TD.z [53, 55] rfl (q_cmpS rfl rfl rfl rfl) ?_
   refine TD.fin ?_
   refine au [20] ?_
   refine ⟨fun hc5 => ?_, fun hc5 => ?_⟩
   ·have hdup : ((b.seekers.take i).any fun o => o.name.toList == x.name.toList) = true := any_of hy hki hc5
    refine au [4, 5, 2, 3] ?_
    refine TK.rt hret [(s, _), (e, _)] ?_
    exact ⟨by rw [check_heard hnum (c := 5) (by unfold heardM; rw [if_neg hc1]; exact heardL_of h0 (c := 5) (by unfold heard1; rw [hx]; dsimp only; rw [if_neg (by rw [hnm]; decide), if_pos hdup]) (by decide) hil) (by decide)]; rfl, rfl⟩
   refine au [12, 14, 5, 1, 23, 2, 3] ?_
   refine TK.maskL [1, 3, 4, 5] ?_
   refine TK.kp [(jx, _), (jb, _), (s, _), (e, _)] ?_
   exact hnext2 _ _ _ (by omega) ⟨k + 1, rfl, by omega, any_take_next hy hany hc5, rfl, rfl⟩
  simp only [decide_eq_false_iff_not] at hc4
  obtain rfl : i = k := by omega
  refine au [16, 4, 4, 5, 8, 7, 9] ?_
  refine TK.cl rfl rfl rfl rfl (isStepR_ok hT (b := b) (s := s) (e := e) (by omega)) ?_
  rintro r13 K14 ⟨rfl, rfl⟩
  refine au [30, 1] ?_
  refine TK.sp 62 (fun g16_6 => ?_) (fun g16_6 => ?_)
  ·refine au [11, 11, 11, 11, 11, 26, 3, 18, 4, 5, 2, 3] ?_
   refine TK.rt hret [(s, _), (e, _)] ?_
   exact ⟨by rw [check_heard hnum (c := 6) (by unfold heardM; rw [if_neg hc1]; exact heardL_of h0 (c := 6) (by unfold heard1; rw [hx]; dsimp only; rw [if_neg (by rw [hnm]; decide), if_neg (by rw [hany]; decide), if_pos (by rw [show (!isStepM b x.frm) = true from g16_6]; rfl)]) (by decide) hil) (by decide)]; rfl, rfl⟩
  refine au [8, 7, 9] ?_
  refine TK.cl rfl rfl rfl rfl (isStepR_ok hT (b := b) (s := s) (e := e) (by omega)) ?_
  rintro r16 K17 ⟨rfl, rfl⟩
  refine au [30, 25, 3, 20] ?_
  refine ⟨fun hc6 => ?_, fun hc6 => ?_⟩
  ·refine au [4, 5, 2, 3] ?_
   refine TK.rt hret [(s, _), (e, _)] ?_
   exact ⟨by rw [check_heard hnum (c := 6) (by unfold heardM; rw [if_neg hc1]; exact heardL_of h0 (c := 6) (by unfold heard1; rw [hx]; dsimp only; rw [if_neg (by rw [hnm]; decide), if_neg (by rw [hany]; decide), if_pos (by rw [show (!isStepM b x.til) = true from hc6, Bool.or_true])]) (by decide) hil) (by decide)]; rfl, rfl⟩
  have hst2 : (!isStepM b x.frm || !isStepM b x.til) = false := by rw [hc6, g16_6]; rfl
  refine au [12, 4, 5, 7, 9] ?_
  refine TK.cl rfl rfl rfl rfl (between_ok hT) ?_
  rintro r19 K20 ⟨rfl, rfl⟩
  refine au [30, 3, 20] ?_
  refine ⟨fun hc7 => ?_, fun hc7 => ?_⟩
  ·refine au [4, 5, 2, 3] ?_
   refine TK.rt hret [(s, _), (e, _)] ?_
   exact ⟨by rw [check_heard hnum (c := 1) (by unfold heardM; rw [if_neg hc1]; exact heardL_of h0 (c := 1) (by unfold heard1; rw [hx]; dsimp only; rw [if_neg (by rw [hnm]; decide), if_neg (by rw [hany]; decide), if_neg (by rw [hst2]; decide), says_bad, if_pos hc7]) (by decide) hil) (by decide)]; rfl, rfl⟩
  refine au [12, 14, 5, 1, 23, 2, 3] ?_
  refine TK.maskL [1, 3] ?_
  refine TK.kp [(jb, _), (s, _), (e, _)] ?_
  exact hnext _ _ _ (by omega) ⟨i + 1, rfl, by omega, by unfold heardL; rw [if_pos h0]; unfold heard1; rw [hx]; dsimp only; rw [if_neg (by rw [hnm]; decide), if_neg (by rw [hany]; decide), if_neg (by rw [hst2]; decide), says_bad, if_neg (by rw [hc7]; decide)], rfl, rfl⟩
 simp only [decide_eq_false_iff_not] at hc
 obtain rfl : i = b.seekers.length := by omega
 have hheard : heardM b = 0 := by unfold heardM; rw [if_neg hc1, h0]
 refine au [16, 4, 4, 5, 7, 9, 28, 6, 3, 20] ?_
 refine ⟨fun hc8 => ?_, fun hc8 => ?_⟩
 ·have hc8 : b.seen.length > 4 := by have := of_decide_eq_true hc8; omega
  refine au [4, 5, 2, 3] ?_
  refine TK.rt hret [(s, _), (e, _)] ?_
  exact ⟨by rw [check_looked hnum hheard]; unfold lookedM; rw [if_pos hc8]; rfl, rfl⟩
 have hc8 : ¬ b.seen.length > 4 := by have := of_decide_eq_false hc8; omega
 refine au [12, 4, 4, 5, 2, 3, 13] ?_
 refine TK.maskL [1, 6] ?_
 refine TK.loopN (fun n env K => ∃ (k : Nat), n = b.seen.length - k ∧ k ≤ b.seen.length ∧ ((b.seen.take k).any fun x => !isStepM b x.step) = false ∧ env = slotsA 93 [(1, .ptr jb 0), (6, intA k)] ∧ K = [(jb, .cells (bookC b s e) 27 true), (s, saysO b), (e, seenO b)]) b.seen.length ⟨0, rfl, Nat.zero_le _, rfl, rfl, rfl⟩ fun n env K hI hnext3 => ?_
 obtain ⟨k, rfl, hk, hany2, rfl, rfl⟩ := hI
 refine au [4, 4, 5, 1, 7, 9, 28, 6, 3, 20] ?_
 refine ⟨fun hc9 => ?_, fun hc9 => ?_⟩
 ·simp only [decide_eq_true_eq] at hc9
  obtain ⟨z, hz⟩ : ∃ z, b.seen[k]? = some z := ⟨_, List.getElem?_eq_getElem (by omega)⟩
  have hzt := seen_at b k (by omega)
  rw [(List.getElem?_eq_some_iff.1 hz).2] at hzt
  refine au [12, 4, 13, 4] ?_
  refine TK.draw [0, 1, 2, 3, 4, 5, 6, 7, 8] [0, 1, 2, 3, 4, 5, 6, 7, 8] (by kernel_rfl) (by kernel_rfl) ?_
  refine TD.y [1] rfl (hq := q_load rfl rfl TySz.h (List.Mem.head _) rfl) (h := ?_)
  refine TD.z [1] rfl (q_fieldAddr rfl rfl FldOf.h (by decide)) ?_
  refine TD.y [85] rfl (hq := q_load1 rfl rfl TySz.h (List.Mem.head _) rfl) (h := ?_)
  refine TD.z [6] rfl (q_move rfl rfl) ?_
  refine TD.z [86, 87] rfl (q_indexSl rfl rfl rfl SlEl.h (by omega) (by omega)) ?_
  refine TD.z [88] rfl (q_fieldAddr rfl rfl FldOf.h (by decide)) ?_
  refine TD.y [89] rfl (hq := q_load1 rfl rfl TySz.h (List.Mem.head _) (take_fld hzt (by decide) rfl)) (h := ?_)
  refine TD.cl (pend' := [⟨5, [88], []⟩, ⟨4, [86, 87], []⟩, ⟨3, [6], []⟩, ⟨2, [85], [(_, _)]⟩, ⟨1, [1], []⟩]) [84, 90] rfl rfl rfl rfl rfl (isStepR_ok hT (b := b) (s := s) (e := e) (by omega)) (fun r22 K23 h24 => ⟨?_, ?_⟩)
  ·rcases h24 with ⟨rfl, rfl⟩
   all_goals simp
  obtain ⟨rfl, rfl⟩ := h24
  try simp only [List.cons_append, List.nil_append]
  refine TD.norm (by simp only [List.set]; rfl) ?_
  refine TD.z [91] rfl (q_not rfl rfl) ?_
  refine TD.fin ?_
  refine au [20] ?_
  refine ⟨fun hc10 => ?_, fun hc10 => ?_⟩
  ·refine au [4, 5, 2, 3] ?_
   refine TK.rt hret [(s, _), (e, _)] ?_
   exact ⟨by rw [check_looked hnum hheard]; unfold lookedM; rw [if_neg hc8, if_pos (List.any_eq_true.2 ⟨z, List.mem_of_getElem? hz, hc10⟩)]; rfl, rfl⟩
  refine au [12, 14, 5, 1, 23, 2, 3] ?_
  refine TK.maskL [1, 6] ?_
  refine TK.kp [(jb, _), (s, _), (e, _)] ?_
  exact hnext3 _ _ _ (by omega) ⟨k + 1, rfl, by omega, any_take_next hz hany2 hc10, rfl, rfl⟩
 simp only [decide_eq_false_iff_not] at hc9
 obtain rfl : k = b.seen.length := by omega
 refine au [16, 4, 5, 2, 3] ?_
 refine TK.rt hret [(s, _), (e, _)] ?_
 exact ⟨by rw [check_looked hnum hheard]; unfold lookedM; rw [if_neg hc8, if_neg (by rw [List.take_length] at hany2; rw [hany2]; decide)]; rfl, rfl⟩
end Go.Vel
end
section
set_option linter.all false
set_option maxRecDepth 20000
set_option maxHeartbeats 60000000
namespace Go.Vel
open Go Go.Conc Go.Proofs

theorem right_says {b : Bk} {S : List Int} {i : Nat} {x : Says} (hx : b.seekers[i]? = some x) : rightM b S i = saysM x.says (inM b S x.frm (wideM b x)) := by unfold rightM; rw [hx]
theorem prev_at {ob : AObj} {off : Nat} {xs : List Int} (hI : IntsAt ob off xs) {i : Nat} (hi : i < xs.length) (h0 : 0 < i) : takeO ob (off + ((i : Int) - 1).toNat * 1) 1 = some [intA xs[i - 1]] := by
 have h := hI (i - 1) (by omega)
 rw [show ((i - 1 : Nat) : Int).toNat = ((i : Int) - 1).toNat by omega] at h
 exact h
theorem bar_six {b : Bk} {xs : List Int} {i : Nat} {x : Int} (hx : xs[i]? = some x) (h : (!isStepM b x) = true) : barH b xs i = 6 := by unfold barH; rw [hx]; dsimp only; rw [if_pos h]
theorem bar_seven {b : Bk} {xs : List Int} {i : Nat} {x : Int} (hx : xs[i]? = some x) (h : (!isStepM b x) = false) (h1 : decide ((i : Int) > 0) = true) (h2 : decide (x ≤ (xs[i - 1]?).getD 0) = true) : barH b xs i = 7 := by
 unfold barH; rw [hx]; dsimp only; rw [if_neg (by rw [h]; decide), if_pos (by rw [h1, h2]; rfl)]
theorem bar_zero {b : Bk} {xs : List Int} {i : Nat} {x : Int} (hx : xs[i]? = some x) (h : (!isStepM b x) = false) (h1 : decide ((i : Int) > 0) = true) (h2 : decide (x ≤ (xs[i - 1]?).getD 0) = false) : barH b xs i = 0 := by
 unfold barH; rw [hx]; dsimp only; rw [if_neg (by rw [h]; decide), if_neg (by rw [h1, h2]; decide)]
theorem bar_first {b : Bk} {xs : List Int} {i : Nat} {x : Int} (hx : xs[i]? = some x) (h : (!isStepM b x) = false) (h1 : decide ((i : Int) > 0) = false) : barH b xs i = 0 := by
 unfold barH; rw [hx]; dsimp only; rw [if_neg (by rw [h]; decide), if_neg (by rw [h1]; simp)]
theorem bars_next {b : Bk} {xs : List Int} {i : Nat} (h0 : firstNZ (barH b xs) i = 0) (h : barH b xs i = 0) : firstNZ (barH b xs) (i + 1) = 0 := by unfold firstNZ; rw [if_pos h0, h]
theorem glass_of {b : Bk} {i : Nat} {x : Says} (hx : b.seekers[i]? = some x) : glassM b i = x.glass := by unfold glassM; rw [hx]
theorem take_next {xs ys : List Int} {i : Nat} (h : i < xs.length) (h2 : i < ys.length) (ht : xs.take i = ys.take i) (he : xs[i] = ys[i]) : xs.take (i + 1) = ys.take (i + 1) := by
 rw [List.take_add_one, List.take_add_one, List.getElem?_eq_getElem h, List.getElem?_eq_getElem h2, ht, he]
theorem not_t' {a : Bool} (h : (!a) = true) : (!a) = true := h
theorem not_f' {a : Bool} (h : (!a) = false) : (!a) = false := h
def stateSim (b : Bk) (xs : List Int) : Bool × Int := if checkM b ≠ 0 then (false, checkM b) else if handedM b xs ≠ 0 then (false, handedM b xs) else (canM b xs, 0)
theorem ns_of {b : Bk} (h : b.seekers.length ≤ 1000) : b.seekers.length ≤ 1000 := h


theorem sameInts_ok {main : Bool} {T : Goroutine → Hp → Prop} (hT : Shut Tryd.prog main T) {gm : Nat → Option Nat} {j off j2 off2 : Nat} {ob ob2 : AObj} {xs ys : List Int} (hjj : j ≠ j2) (hI : IntsAt ob off xs) (hI2 : IntsAt ob2 off2 ys) (hlx : xs.length ≤ 100000) :
  CallK Tryd.prog T gm 14 [.sl j off xs.length, .sl j2 off2 ys.length] [(j, ob), (j2, ob2)] (fun r K' => r = boolA (decide (xs = ys)) ∧ K' = [(j, ob), (j2, ob2)]) := by
 refine callK_in 26 hT Tryd.func14 fun Y hret => ?_
 refine au [4, 5, 2, 3, 4, 4, 5, 1, 28, 1, 28, 6, 3, 20] ?_
 refine ⟨fun hc0 => ?_, fun hc0 => ?_⟩
 ·refine au [4, 5, 2, 3] ?_
  refine TK.rt hret [(j, _), (j2, _)] ?_
  exact ⟨by rw [decide_eq_false (fun h => by rw [h] at hc0; simp at hc0)]; rfl, rfl⟩
 have hlen : xs.length = ys.length := by have h : (xs.length : Int) = ys.length := (by simpa using hc0); omega
 refine au [12, 4, 4, 5, 2, 3, 13] ?_
 refine TK.maskL [0, 1, 5] ?_
 refine TK.loopN (fun n env K => ∃ (i : Nat), n = xs.length - i ∧ i ≤ xs.length ∧ xs.take i = ys.take i ∧ env = slotsA 26 [(0, .sl j off xs.length), (1, .sl j2 off2 ys.length), (5, intA i)] ∧ K = [(j, ob), (j2, ob2)]) xs.length ⟨0, rfl, Nat.zero_le _, rfl, rfl, rfl⟩ fun n env K hI' hnext => ?_
 obtain ⟨i, rfl, hi, hn, rfl, rfl⟩ := hI'
 refine au [4, 4, 5, 1, 1, 28, 6, 3, 20] ?_
 refine ⟨fun hc => ?_, fun hc => ?_⟩
 ·simp only [decide_eq_true_eq] at hc
  have hil : i < xs.length := by omega
  refine au [12, 4, 13, 4] ?_
  refine TK.draw [0, 1, 2, 3, 4, 5, 6, 7, 8] [0, 1, 2, 3, 4, 5, 6, 7, 8] (by kernel_rfl) (by kernel_rfl) ?_
  refine TD.z [0] rfl (q_move rfl rfl) ?_
  refine TD.z [5] rfl (q_move rfl rfl) ?_
  refine TD.z [17, 18] rfl (q_indexSl rfl rfl rfl SlEl.h (by omega) (by omega)) ?_
  refine TD.y [19] rfl (hq := q_load1 rfl rfl TySz.h (List.Mem.head _) (hI i hil)) (h := ?_)
  refine TD.z [1] rfl (q_move rfl rfl) ?_
  refine TD.z [5] rfl (q_move rfl rfl) ?_
  refine TD.z [21, 22] rfl (q_indexSl rfl rfl rfl SlEl.h (by omega) (by omega)) ?_
  refine TD.y [23] rfl (hq := q_load1 rfl rfl TySz.h (List.Mem.head _) (hI2 i (by omega))) (h := ?_)
  refine TD.z [20, 24] rfl (q_cmp rfl rfl rfl rfl) ?_
  refine TD.fin ?_
  refine au [20] ?_
  refine ⟨fun hc2 => ?_, fun hc2 => ?_⟩
  ·refine au [4, 5, 2, 3] ?_
   refine TK.rt hret [(j, _), (j2, _)] ?_
   exact ⟨by rw [decide_eq_false (fun h => by subst h; simp at hc2)]; rfl, rfl⟩
  refine au [12, 14, 5, 1, 23, 2, 3] ?_
  refine TK.maskL [0, 1, 5] ?_
  exact hnext _ _ _ (by omega) ⟨i + 1, rfl, by omega, take_next hil (by omega) hn (by simpa using hc2), rfl, rfl⟩
 simp only [decide_eq_false_iff_not] at hc
 obtain rfl : i = xs.length := by omega
 refine au [16, 4, 5, 2, 3] ?_
 refine TK.rt hret [(j, _), (j2, _)] ?_
 exact ⟨by rw [decide_eq_true (by rwa [List.take_length, hlen, List.take_length] at hn)]; rfl, rfl⟩
end Go.Vel
end
section
set_option linter.all false
set_option maxRecDepth 20000
set_option maxHeartbeats 60000000
namespace Go.Vel
open Go Go.Conc Go.Proofs

theorem mem_loopM {b : Bk} : ∀ (rest S T : List Int), T.Sublist rest → T ≠ [] → ((S ++ T).length : Int) ≤ b.high → seenM b (S ++ T) = true → S ++ T ∈ loopM b S rest
 | [], S, T, hs, hne, _, _ => absurd (List.sublist_nil.1 hs) hne
 | n :: rest, S, T, hs, hne, hl, hsn => by
  have hlt : (S.length : Int) < b.high := by
   have : 0 < T.length := List.length_pos_iff.2 hne
   rw [List.length_append] at hl
   omega
  unfold loopM
  rw [if_pos hlt]
  cases hs with
  | cons _ h => exact List.mem_append.2 (.inr (mem_loopM rest S T h hne hl hsn))
  | cons_cons _ h =>
   rename_i T'
   refine List.mem_append.2 (.inl ?_)
   rw [show S ++ n :: T' = (S ++ [n]) ++ T' by simp] at hl hsn ⊢
   by_cases h0 : T' = []
   ·subst h0
    rw [List.append_nil] at hl hsn ⊢
    refine List.mem_append.2 (.inl ?_)
    unfold ownM
    rw [if_pos hsn]
    exact List.mem_singleton.2 rfl
   ·exact List.mem_append.2 (.inr (mem_loopM rest (S ++ [n]) T' h h0 hl hsn))
theorem sub_rest {b : Bk} : ∀ (m i : Nat) (xs : List Int), b.steps.toNat - i = m → xs.Pairwise (· < ·) → (∀ x ∈ xs, (i : Int) ≤ x ∧ x < b.steps) → xs.Sublist (restM b i)
 | _, _, [], _, _, _ => List.nil_sublist _
 | 0, i, x :: xs, hm, _, hb => by have := hb x (by simp); omega
 | m + 1, i, x :: xs, hm, hp, hb => by
  rw [restM_cons (by omega)]
  have h2 := List.pairwise_cons.1 hp
  by_cases hx : x = i
  ·subst hx
   refine .cons_cons _ (sub_rest m (i + 1) xs (by omega) h2.2 fun y hy => ?_)
   have := h2.1 y hy
   have := hb y (by simp [hy])
   omega
  ·refine .cons _ (sub_rest m (i + 1) (x :: xs) (by omega) hp fun y hy => ?_)
   have h3 := hb x (by simp)
   have h4 := hb y hy
   rcases List.mem_cons.1 hy with rfl | hy
   ·omega
   ·have := h2.1 y hy; omega
theorem handed_lt {b : Bk} {xs : List Int} (h : handedM b xs = 0) {i : Nat} (hi : i + 1 < xs.length) : xs[i] < xs[i + 1] := by
 have h1 := handed_bar h hi
 unfold barH at h1
 rw [List.getElem?_eq_getElem hi] at h1
 dsimp only at h1
 split at h1
 ·cases h1
 ·split at h1
  ·cases h1
  ·rename_i h2
   rw [show i + 1 - 1 = i by omega, List.getElem?_eq_getElem (show i < xs.length by omega)] at h2
   simp only [Option.getD_some, Bool.and_eq_true, decide_eq_true_eq, not_and] at h2
   have := h2 (by omega)
   omega
theorem handed_pair {b : Bk} {xs : List Int} (h : handedM b xs = 0) : xs.Pairwise (· < ·) := by
 rw [List.pairwise_iff_getElem]
 intro i j hi hj hij
 obtain ⟨d, rfl⟩ : ∃ d, j = i + 1 + d := ⟨j - (i + 1), by omega⟩
 clear hij
 induction d with
 | zero => exact handed_lt h hj
 | succ d ih => exact Int.lt_trans (ih (by omega)) (handed_lt h (show i + 1 + d + 1 < xs.length from hj))
theorem mem_allM {b : Bk} {xs : List Int} (h : handedM b xs = 0) (hs : seenM b xs = true) : xs ∈ allM b := by
 unfold allM
 have hh : ((xs.length : Int)) ≤ b.high := by
  unfold seenM at hs
  simp only [Bool.and_eq_true, decide_eq_true_eq] at hs
  exact hs.1.2
 by_cases h0 : xs = []
 ·subst h0
  refine List.mem_append.2 (.inl ?_)
  unfold ownM
  rw [if_pos hs]
  exact List.mem_singleton.2 rfl
 ·exact List.mem_append.2 (.inr (mem_loopM (restM b 0) [] xs (sub_rest _ 0 xs rfl (handed_pair h) fun x hx => by have := (handed_ok h).mem x hx; omega) h0 hh hs))
theorem state_eq (b : Bk) (xs : List Int) : stateApi b xs = stateSim b xs := by
 unfold stateApi stateSim
 by_cases h1 : checkM b ≠ 0
 ·rw [if_pos h1, if_pos h1]
 ·rw [if_neg h1, if_neg h1]
  by_cases h2 : handedM b xs ≠ 0
  ·rw [if_pos h2, if_pos h2]
  ·rw [if_neg h2, if_neg h2]
   cases h3 : canM b xs with
   | false => rw [Bool.and_false]
   | true =>
    have h4 : seenM b xs = true := by
     unfold canM at h3
     simp only [Bool.and_eq_true] at h3
     exact h3.2
    rw [decide_eq_true (mem_allM (by simpa using h2) h4)]; rfl
end Go.Vel
end
section
set_option linter.all false
set_option maxRecDepth 20000
set_option maxHeartbeats 60000000
namespace Go.Vel
open Go Go.Conc Go.Proofs

/-! ### lists of lists -/
def objsL (P : List (Nat × List Int)) : KV := P.map fun x => (x.1, .cells (x.2.map intA) 3 false)
def refsL (P : List (Nat × List Int)) : List AV := P.map fun x => .sl x.1 0 x.2.length
theorem objsL_app (P : List (Nat × List Int)) (x : Nat × List Int) : objsL (P ++ [x]) = objsL P ++ [(x.1, .cells (x.2.map intA) 3 false)] := by simp [objsL]
theorem refsL_app (P : List (Nat × List Int)) (x : Nat × List Int) : refsL (P ++ [x]) = refsL P ++ [.sl x.1 0 x.2.length] := by simp [refsL]
theorem objsL_mem {P : List (Nat × List Int)} {x : Nat × List Int} (h : x ∈ P) : (x.1, AObj.cells (x.2.map intA) 3 false) ∈ objsL P := List.mem_map.2 ⟨x, h, rfl⟩
theorem refs_take {P : List (Nat × List Int)} {k : Nat} (h : k < P.length) {e : TypeId} {sz : Nat} : takeO (.row (refsL P) e sz) k 1 = some [.sl P[k].1 0 P[k].2.length] := by
 simp only [takeO, AObj.look]
 rw [if_pos (by simp [refsL]; omega)]
 simp [List.take_one, refsL, h]
abbrev Gs := Nat × List Int × Int
def objsG (P : List Gs) : KV := P.map fun x => (x.1, .cells (x.2.1.map intA) 3 false)
def refsG (P : List Gs) : List AV := P.flatMap fun x => [.sl x.1 0 x.2.1.length, intA x.2.2]
theorem objsG_app (P : List Gs) (x : Gs) : objsG (P ++ [x]) = objsG P ++ [(x.1, .cells (x.2.1.map intA) 3 false)] := by simp [objsG]
theorem refsG_app (P : List Gs) (x : Gs) : refsG (P ++ [x]) = refsG P ++ [.sl x.1 0 x.2.1.length, intA x.2.2] := by simp [refsG]
theorem objsG_mem {P : List Gs} {x : Gs} (h : x ∈ P) : (x.1, AObj.cells (x.2.1.map intA) 3 false) ∈ objsG P := List.mem_map.2 ⟨x, h, rfl⟩
theorem refsG_len (P : List Gs) : (refsG P).length = P.length * 2 := flat_len _ 2 (fun _ => rfl) P
theorem refsG_take {P : List Gs} {k : Nat} (h : k < P.length) {e : TypeId} {sz : Nat} : takeO (.row (refsG P) e sz) (k * 2) 2 = some [.sl P[k].1 0 P[k].2.1.length, intA P[k].2.2] := by
 have hle : (k + 1) * 2 ≤ P.length * 2 := Nat.mul_le_mul_right _ h
 have hl := refsG_len P
 simp only [takeO, AObj.look]
 rw [if_pos ⟨by omega, by omega⟩]
 unfold refsG
 rw [flat_take _ 2 (fun _ => rfl) _ _ h]
theorem firstL_map {α β : Type} (f : α → β) (lt : β → β → Bool) (o : α) (xs : List α) : f (firstL (fun a c => lt (f a) (f c)) o xs) = firstL lt (f o) (xs.map f) := by
 induction xs generalizing o with
 | nil => rfl
 | cons x xs ih =>
  show f (firstL _ (if lt (f x) (f o) = true then x else o) xs) = firstL lt (if lt (f x) (f o) = true then f x else f o) (xs.map f)
  rw [ih]
  split <;> rfl
def bitsM (n bits : Nat) : List Int := ((List.range n).filter (bitB bits)).map fun k : Nat => (k : Int)
theorem bitsM_T {n bits : Nat} (h : bitB bits n = true) : bitsM (n + 1) bits = bitsM n bits ++ [(n : Int)] := by
 unfold bitsM; rw [List.range_succ, List.filter_append]; simp [h]
theorem bitsM_F {n bits : Nat} (h : bitB bits n = false) : bitsM (n + 1) bits = bitsM n bits := by
 unfold bitsM; rw [List.range_succ, List.filter_append]; simp [h]
theorem bitsM_len (n bits : Nat) : (bitsM n bits).length ≤ n := by
 unfold bitsM; rw [List.length_map]; exact Nat.le_trans (List.length_filter_le _ _) (by simp)
def oddM (b : Bk) (k : Nat) : List (List Int) := ((List.range k).filter fun bits => !togM b bits).map (bitsM b.seekers.length)
theorem oddM_T {b : Bk} {k : Nat} (h : togM b k = true) : oddM b (k + 1) = oddM b k := by
 unfold oddM; rw [List.range_succ, List.filter_append]; simp [h]
theorem oddM_F {b : Bk} {k : Nat} (h : togM b k = false) : oddM b (k + 1) = oddM b k ++ [bitsM b.seekers.length k] := by
 unfold oddM; rw [List.range_succ, List.filter_append]; simp [h]
theorem oddM_len (b : Bk) (k : Nat) : (oddM b k).length ≤ k := by
 unfold oddM; rw [List.length_map]; exact Nat.le_trans (List.length_filter_le _ _) (by simp)
theorem oddM_all {b : Bk} {k : Nat} : ∀ L ∈ oddM b k, L.length ≤ b.seekers.length := fun L hL => by
 obtain ⟨q, _, rfl⟩ := List.mem_map.1 hL
 exact bitsM_len _ _
def everyM (b : Bk) : Nat := 2 ^ b.seekers.length - 1
def clashM (b : Bk) : List Int := firstL ltLists ((oddM b (everyM b + 1)).headD []) ((oddM b (everyM b + 1)).drop 1)
def guessM (b : Bk) (pre : List (List Int)) : List (List Int × Int) := (pre.filter fun S => !badM b S b.seekers.length).map fun S => (S, wrongM b S)
theorem guessM_T {b : Bk} {pre : List (List Int)} {S : List Int} (h : badM b S b.seekers.length = false) : guessM b (pre ++ [S]) = guessM b pre ++ [(S, wrongM b S)] := by
 unfold guessM; rw [List.filter_append]; simp [h]
theorem guessM_F {b : Bk} {pre : List (List Int)} {S : List Int} (h : badM b S b.seekers.length = true) : guessM b (pre ++ [S]) = guessM b pre := by
 unfold guessM; rw [List.filter_append]; simp [h]
def likelyM (b : Bk) : List Int × Int := firstL ltGuess ((guessM b (allM b)).headD ([], 0)) ((guessM b (allM b)).drop 1)


theorem clash_ok {main : Bool} {T : Goroutine → Hp → Prop} (hT : Shut Tryd.prog main T)  {b : Bk} {s e : Nat} (hse : s ≠ e) (hn : ∀ x ∈ b.seekers, x.name.size ≤ 1000) (hl : b.seen.length ≤ 1000) :
  CallK Tryd.prog T gmS 16 [.agg (bookC b s e)] [(0, checksG), (1, saysG), (s, saysO b), (e, seenO b)] (fun r K' => (checkM b ≠ 0 ∧ r = .tup [.v (.slice none 0 0), intA (checkM b)] ∧ K' = [(0, checksG), (1, saysG), (s, saysO b), (e, seenO b)]) ∨ (checkM b = 0 ∧ togM b (everyM b) = true ∧ r = .tup [.v (.slice none 0 0), intA 0] ∧ K' = [(0, checksG), (1, saysG), (s, saysO b), (e, seenO b)]) ∨ (checkM b = 0 ∧ togM b (everyM b) = false ∧ ∃ j, r = .tup [.sl j 0 (clashM b).length, intA 0] ∧ K' = [(0, checksG), (1, saysG), (s, saysO b), (e, seenO b), (j, .cells ((clashM b).map intA) 3 false)])) := by
 refine callK_in 60 hT Tryd.func16 fun Y hret => ?_
 refine au [4, 5, 21] ?_
 intro jb hjb
 refine au [2, 2, 3, 4, 4, 5, 8] ?_
 refine TK.cl rfl rfl rfl rfl (check_ok hT (b := b) (s := s) (e := e) hn hl) ?_
 rintro r1 K2 ⟨rfl, rfl⟩
 refine au [2, 3, 4, 5, 1, 6, 3, 20] ?_
 refine ⟨fun hc0 => ?_, fun hc0 => ?_⟩
 ·refine au [4, 5, 1, 2, 2, 3] ?_
  refine TK.rt hret [(0, _), (1, _), (s, _), (e, _)] ?_
  exact .inl ⟨by simpa using hc0, rfl, rfl⟩
 have hck : checkM b = 0 := by simpa using hc0
 have hb := bkOk_of hck
 have hn5 := hb.ns
 have hp32 : 2 ^ b.seekers.length ≤ 32 := Nat.le_trans (Nat.pow_le_pow_right (by omega) hn5) (by decide)
 have hp1 : 1 ≤ 2 ^ b.seekers.length := Nat.one_le_two_pow
 have hev : (((2 ^ b.seekers.length : Nat) : Int) - 1) = ((everyM b : Nat) : Int) := by unfold everyM; omega
 have hel : everyM b ≤ 31 := by unfold everyM; omega
 refine au [12, 4, 5, 7, 9, 28] ?_
 refine TK.a rfl (q_shl1 rfl rfl rfl (by omega)) ?_
 refine TK.a rfl (q_sub rfl rfl rfl (by rw [hev]; omega)) ?_
 rw [hev]
 refine au [2, 3, 4, 4, 5, 8, 43, 1] ?_
 refine TK.cl rfl rfl rfl rfl (together_ok hT (bits := everyM b) hse hb (by omega)) ?_
 rintro r4 K5 ⟨rfl, rfl⟩
 refine au [3, 20] ?_
 refine ⟨fun hc1 => ?_, fun hc1 => ?_⟩
 ·refine au [4, 5, 2, 2, 3] ?_
  refine TK.rt hret [(0, _), (1, _), (s, _), (e, _)] ?_
  exact .inr (.inl ⟨hck, hc1, rfl, rfl⟩)
 refine au [12, 4, 5, 2] ?_
 refine TK.virt 6 30 1 rfl fun jo0 hjo0 => ?_
 refine au [3, 4, 4, 5, 1, 23, 1, 3, 13] ?_
 refine TK.maskL [1, 6, 25, 26] ?_
 refine TK.kp [(jo0, _), (jb, _), (0, _), (1, _), (s, _), (e, _)] ?_
 refine TK.loopN (fun n env K => ∃ (i jo : Nat) (P : List (Nat × List Int)), n = everyM b + 1 - i ∧ i ≤ everyM b + 1 ∧ P.map (·.2) = oddM b i ∧ env = slotsA 60 [(1, .ptr jb 0), (6, .row jo P.length), (25, intA (everyM b + 1)), (26, intA i)] ∧ K = (jo, .row (refsL P) 30 1) :: (jb, .cells (bookC b s e) 27 true) :: (0, checksG) :: (1, saysG) :: (s, saysO b) :: (e, seenO b) :: objsL P) (everyM b + 1) ⟨0, jo0, [], rfl, Nat.zero_le _, rfl, rfl, rfl⟩ fun n env K hI' hnext => ?_
 obtain ⟨i, jo, P, rfl, hi, hP, rfl, rfl⟩ := hI'
 have hPl : P.length ≤ i := by have := oddM_len b i; rw [← hP, List.length_map] at this; exact this
 refine au [4, 5, 6, 3, 4, 20] ?_
 refine ⟨fun hc2 => ?_, fun hc2 => ?_⟩
 ·simp only [decide_eq_true_eq] at hc2
  have hil : i < everyM b + 1 := by omega
  refine au [12, 4, 13, 4, 5, 1, 2, 3, 4, 4, 5, 8, 43, 1] ?_
  refine TK.cl rfl rfl rfl rfl (together_ok hT (bits := i) hse hb (by omega)) ?_
  rintro r7 K8 ⟨rfl, rfl⟩
  refine au [3, 20] ?_
  refine ⟨fun hc3 => ?_, fun hc3 => ?_⟩
  ·refine au [16] ?_
   
   refine au [5, 23, 1, 3] ?_
   refine TK.maskL [1, 6, 25, 26] ?_
   refine TK.kp (((jo, _) :: (jb, _) :: (0, _) :: (1, _) :: (s, _) :: (e, _) :: objsL P)) ?_
   exact hnext _ _ _ (by omega) ⟨i + 1, jo, P, rfl, by omega, by rw [oddM_T hc3]; exact hP, rfl, rfl⟩
  refine au [12, 4, 5, 2] ?_
  refine TK.virt 8 3 1 rfl fun j80 hj80 => ?_
  refine au [3, 4, 4, 5, 7, 9, 28, 1, 3, 13] ?_
  refine TK.maskL [1, 6, 7, 8, 25, 26, 35, 36] ?_
  refine TK.kp ((j80, _) :: (jo, _) :: (jb, _) :: (0, _) :: (1, _) :: (s, _) :: (e, _) :: objsL P) ?_
  refine TK.loopN (fun n env K => ∃ (q j8 : Nat), n = b.seekers.length - q ∧ q ≤ b.seekers.length ∧ env = slotsA 60 [(1, .ptr jb 0), (6, .row jo P.length), (7, intA i), (8, .row j8 (bitsM q i).length), (25, intA (everyM b + 1)), (26, intA i), (35, intA b.seekers.length), (36, intA q)] ∧ K = (j8, .row ((bitsM q i).map intA) 3 1) :: (jo, .row (refsL P) 30 1) :: (jb, .cells (bookC b s e) 27 true) :: (0, checksG) :: (1, saysG) :: (s, saysO b) :: (e, seenO b) :: objsL P) b.seekers.length ⟨0, j80, rfl, Nat.zero_le _, rfl, rfl⟩ fun n env K hI' hnext2 => ?_
  obtain ⟨q, j8, rfl, hq, rfl, rfl⟩ := hI'
  have hql2 := bitsM_len q i
  refine au [4, 5, 6, 3, 4, 20] ?_
  refine ⟨fun hc4 => ?_, fun hc4 => ?_⟩
  ·simp only [decide_eq_true_eq] at hc4
   have hql : q < b.seekers.length := by omega
   refine au [12, 4, 13, 4, 5, 1, 2, 3, 4, 5, 1, 1] ?_
   refine TK.a rfl (q_shrN rfl rfl rfl (by omega)) ?_
   refine TK.a rfl (q_and1 rfl rfl rfl (by have := Nat.div_le_self i (2 ^ q); omega)) ?_
   refine au [6, 3, 20] ?_
   refine ⟨fun hc5 => ?_, fun hc5 => ?_⟩
   ·have hc5 : bitB i q = true := hc5
    refine au [5, 1, 1] ?_
    refine TK.newR rfl rfl rfl (n_buildSlice (l := [_]) rfl SlEl.h TyZ.h (by decide) (by decide) rfl) (fun _ => putS rfl (by simp only [List.set]; rfl)) fun j10 hj10 => ?_
    refine TK.appR rfl rfl rfl (a_app rfl ApOf.h rfl (by repeat (first | exact List.Mem.head _ | assumption | apply List.Mem.tail)) (by simp <;> omega) rfl (src_row (ln := [_]) (by repeat (first | exact List.Mem.head _ | assumption | apply List.Mem.tail)) (by decide) (by simp) rfl) (by omega) rfl (by unfold maxLen; omega) (by omega)) (fun _ => (by repeat (first | exact Upd.head | apply Upd.tail))) (fun _ => putS rfl (by simp only [List.set]; rfl)) fun j82 => ?_
    refine au [2, 3, 14, 5, 23, 1, 3] ?_
    refine TK.maskL [1, 6, 7, 8, 25, 26, 35, 36] ?_
    refine TK.kp (((j82, _) :: (jo, _) :: (jb, _) :: (0, _) :: (1, _) :: (s, _) :: (e, _) :: objsL P)) ?_
    exact hnext2 _ _ _ (by omega) ⟨q + 1, j82, rfl, by omega, by rw [bitsM_T hc5, List.length_append]; rfl, by rw [bitsM_T hc5, List.map_append]; rfl⟩
   have hc5 : bitB i q = false := hc5
   refine au [12, 14, 5, 23, 1, 3] ?_
   refine TK.maskL [1, 6, 7, 8, 25, 26, 35, 36] ?_
   refine TK.kp (((j8, _) :: (jo, _) :: (jb, _) :: (0, _) :: (1, _) :: (s, _) :: (e, _) :: objsL P)) ?_
   exact hnext2 _ _ _ (by omega) ⟨q + 1, j8, rfl, by omega, by rw [bitsM_F hc5] <;> rfl, by rw [bitsM_F hc5] <;> rfl⟩
  simp only [decide_eq_false_iff_not] at hc4
  obtain rfl : q = b.seekers.length := by omega
  refine au [16] ?_
  refine TK.freezeR 8 rfl (by repeat (first | exact Upd.head | apply Upd.tail)) rfl ?_
  refine au [5, 1, 1] ?_
  refine TK.newR rfl rfl rfl (n_buildSlice (l := [_]) rfl SlEl.h TyZ.h (by decide) (by decide) rfl) (fun _ => putS rfl (by simp only [List.set]; rfl)) fun j19 hj19 => ?_
  refine TK.appR rfl rfl rfl (a_app rfl ApOf.h rfl (by repeat (first | exact List.Mem.head _ | assumption | apply List.Mem.tail)) (by simp [refsL]) rfl (src_row (ln := [_]) (by repeat (first | exact List.Mem.head _ | assumption | apply List.Mem.tail)) (by decide) (by simp) rfl) (by omega) rfl (by unfold maxLen; omega) (by omega)) (fun _ => (by repeat (first | exact Upd.head | apply Upd.tail))) (fun _ => putS rfl (by simp only [List.set]; rfl)) fun jo2 => ?_
  refine au [2, 3, 14] ?_
  
  refine au [5, 23, 1, 3] ?_
  refine TK.maskL [1, 6, 25, 26] ?_
  refine TK.kp (((j8, _) :: (jo2, _) :: (jb, _) :: (0, _) :: (1, _) :: (s, _) :: (e, _) :: objsL P)) ?_
  refine TK.perm (K' := (jo2, .row (refsL (P ++ [(j8, bitsM b.seekers.length i)])) 30 1) :: (jb, .cells (bookC b s e) 27 true) :: (0, checksG) :: (1, saysG) :: (s, saysO b) :: (e, seenO b) :: objsL (P ++ [(j8, bitsM b.seekers.length i)])) (by rw [objsL_app, refsL_app]; exact (List.perm_append_singleton _ ((jo2, _) :: (jb, _) :: (0, _) :: (1, _) :: (s, _) :: (e, _) :: objsL P)).symm) ?_
  exact hnext _ _ _ (by omega) ⟨i + 1, jo2, P ++ [(j8, bitsM b.seekers.length i)], rfl, by omega, by rw [oddM_F hc3, List.map_append, hP]; rfl, by rw [List.length_append]; rfl, rfl⟩
 simp only [decide_eq_false_iff_not] at hc2
 obtain rfl : i = everyM b + 1 := by omega
 obtain ⟨p, ps, rfl⟩ : ∃ p ps, P = p :: ps := by
  cases P with
  | nil =>
   rw [oddM_F hc1] at hP
   have := congrArg List.length hP
   simp at this
  | cons p ps => exact ⟨p, ps, rfl⟩
 have hlen : ∀ x ∈ p :: ps, x.2.length ≤ 1000 := fun x hx => by
  have := oddM_all (b := b) (k := everyM b + 1) x.2 (by rw [← hP]; exact List.mem_map_of_mem (f := fun x : Nat × List Int => x.2) hx)
  omega
 refine au [16, 4] ?_
 refine TK.draw [0, 1, 2, 3, 4, 5, 6, 7] [0, 1, 2, 3, 4, 5, 6, 7] (by kernel_rfl) (by kernel_rfl) ?_
 refine TD.z [6] rfl (q_move rfl rfl) ?_
 refine TD.y [54] rfl (hq := q_indexRow rfl rfl rfl SlEl.h (List.Mem.head _) (by first | omega | (simp only [List.length_cons]; omega)) (by first | omega | (simp only [List.length_cons]; omega))) (h := ?_)
 refine TD.y [55] rfl (hq := q_load1 rfl rfl TySz.h (List.Mem.head _) (refs_take (k := 0) (by simp))) (h := ?_)
 refine TD.z [6] rfl (q_move rfl rfl) ?_
 refine TD.y [57] rfl (hq := q_sliceRow rfl rfl SlEl.h (List.Mem.head _) rfl rfl (by first | omega | (simp only [List.length_cons]; omega)) (by first | omega | (simp only [List.length_cons]; omega)) rfl) (h := ?_)
 refine TD.cl (pend' := [⟨3, [6], []⟩, ⟨1, [54], [(_, _)]⟩, ⟨0, [6], []⟩]) [56, 58] rfl rfl rfl rfl rfl (firstInts_ok hT (o := p) (xs := ps) (lt := fun a c => ltLists a.2 c.2) (fv := .fn 53 [] []) (jo := jo) (off := 1) (obo := .row (refsL (p :: ps)) 30 1) (K := (jo, .row (refsL (p :: ps)) 30 1) :: objsL (p :: ps)) (by simp at hPl; omega) (by simp) (fun k hk => by rw [show 1 + ((k : Int)).toNat * 1 = k + 1 by rw [Int.toNat_natCast]; omega]; exact refs_take (P := p :: ps) (k := k + 1) (by simpa using hk)) (fun x hx y hy => callFK_fn Cal.h (clash1_ok hT (List.mem_cons_of_mem _ (objsL_mem hx)) (List.mem_cons_of_mem _ (objsL_mem hy)) (ints_at _ _ _) (ints_at _ _ _) (hlen x hx) (hlen y hy)))) (fun r11 K12 h13 => ⟨?_, ?_⟩)
 ·rcases h13 with ⟨rfl, rfl⟩
  all_goals simp
 obtain ⟨rfl, rfl⟩ := h13
 try simp only [List.cons_append, List.nil_append]
 refine TD.norm (by simp only [List.set]; rfl) ?_
 refine TD.perm (List.Perm.cons _ List.perm_append_comm) ?_
 simp only [List.cons_append, List.nil_append]
 generalize hres0 : firstL (fun (a c : Nat × List Int) => ltLists a.2 c.2) p ps = res
 have hmem : res ∈ p :: ps := hres0 ▸ firstL_mem
 obtain ⟨R1, hR1⟩ := rem_of_mem (objsL_mem hmem)
 have hcl : res.2 = clashM b := by
  rw [← hres0, firstL_map (fun x : Nat × List Int => x.2)]
  unfold clashM
  rw [← hP]; rfl
 refine TD.as (pend' := []) [59] rfl rfl (q_assign rfl rfl) ?_
 refine TD.as (pend' := []) [] rfl rfl (q_assign rfl rfl) ?_
 refine TD.fin ?_
 refine au [] ?_
 refine TK.rt hret [(0, _), (1, _), (s, _), (e, _), (res.1, .cells (res.2.map intA) 3 false)] ?_ (hs := (by repeat (first | exact Split.none _ | exact Split.all _ | (apply Split.rem; repeat (first | exact Rem.head | exact hR1 | apply Rem.tail)) | apply Split.right)))
 refine .inr (.inr ⟨hck, hc1, res.1, ?_, ?_⟩)
 ·rw [← hcl]; rfl
 ·rw [← hcl]
end Go.Vel
end
section
set_option linter.all false
set_option maxRecDepth 20000
set_option maxHeartbeats 60000000
namespace Go.Vel
open Go Go.Conc Go.Proofs


theorem likely_ok {main : Bool} {T : Goroutine → Hp → Prop} (hT : Shut Tryd.prog main T)  {b : Bk} {s e : Nat} (hse : s ≠ e) (hn : ∀ x ∈ b.seekers, x.name.size ≤ 1000) (hl : b.seen.length ≤ 1000) :
  CallK Tryd.prog T gmS 15 [.agg (bookC b s e)] [(0, checksG), (1, saysG), (s, saysO b), (e, seenO b)] (fun r K' => (checkM b ≠ 0 ∧ r = .tup [.v (.slice none 0 0), intA 0, boolA false, intA (checkM b)] ∧ K' = [(0, checksG), (1, saysG), (s, saysO b), (e, seenO b)]) ∨ (checkM b = 0 ∧ guessM b (allM b) = [] ∧ r = .tup [.v (.slice none 0 0), intA 0, boolA false, intA 0] ∧ K' = [(0, checksG), (1, saysG), (s, saysO b), (e, seenO b)]) ∨ (checkM b = 0 ∧ guessM b (allM b) ≠ [] ∧ ∃ j, r = .tup [.sl j 0 (likelyM b).1.length, intA (likelyM b).2, boolA true, intA 0] ∧ K' = [(0, checksG), (1, saysG), (s, saysO b), (e, seenO b), (j, .cells ((likelyM b).1.map intA) 3 false)])) := by
 refine callK_in3 50 hT Tryd.func15 fun Y hro hret => ?_
 refine au [4, 5, 21] ?_
 intro jb hjb
 refine au [2, 2, 2, 2, 3, 4, 4, 5, 8] ?_
 refine TK.cl rfl rfl rfl rfl (check_ok hT (b := b) (s := s) (e := e) hn hl) ?_
 rintro r1 K2 ⟨rfl, rfl⟩
 refine au [2, 3, 4, 5, 1, 6, 3, 20] ?_
 refine ⟨fun hc0 => ?_, fun hc0 => ?_⟩
 ·refine au [4, 5, 1, 2, 2, 2, 2, 3] ?_
  refine TK.leave (.ret _) fun A hA => hret _ _ _ _ ([(0, _), (1, _), (s, _), (e, _)]) ([(0, _), (1, _), (s, _), (e, _)]) _ _ _ (.inr rfl) (by repeat (first | exact Split.none _ | exact Split.all _ | (apply Split.rem; repeat (first | exact Rem.head | apply Rem.tail)) | apply Split.right)) (by simp) (by simp) (by repeat (first | exact Split.none _ | exact Split.all _ | (apply Split.rem; repeat (first | exact Rem.head | apply Rem.tail)) | apply Split.right)) (res_many (.cons (rk_tmp rfl) (.cons (rk_tmp rfl) (.cons (rk_tmp rfl) (.cons (rk_tmp rfl) ResKs.nil)))) rfl) ?_ A hA
  exact .inl ⟨by simpa using hc0, rfl, rfl⟩
 have hck : checkM b = 0 := by simpa using hc0
 have hb := bkOk_of hck
 refine au [12, 4, 5, 8, 43, 22] ?_
 intro jx hjx
 refine au [17, 3, 4, 5, 22] ?_
 intro jl hjl
 refine TK.virtC (t := 95) (e := 101) (size := 2) (fun _ => (by repeat (first | exact Upd.head | apply Upd.tail))) fun jo0 hjo0 => ?_
 refine au [3, 4, 4, 5, 8, 32, 3, 13] ?_
 refine TK.rangeAll hT hb (s := s) (e := e) (K0 := (jl, .cells [.row jo0 0] 95 true) :: (jo0, .row [] 101 2) :: (jx, .cells (bookC b s e) 70 true) :: (1, saysG) :: (s, saysO b) :: []) (J := fun pre K1 => ∃ (jo : Nat) (P : List Gs), P.map (·.2) = guessM b pre ∧ K1 = (jl, .cells [.row jo P.length] 95 true) :: (jo, .row (refsG P) 101 2) :: (jx, .cells (bookC b s e) 70 true) :: (1, saysG) :: (s, saysO b) :: objsG P) (D := fun _ _ => False) rfl hro rfl (by repeat (first | exact Split.none _ | exact Split.all _ | (apply Split.rem; repeat (first | exact Rem.head | apply Rem.tail)) | apply Split.right)) ⟨jo0, [], rfl, rfl⟩ (fun Y' l lo lb pre S K1 hbegin hfin hout hpre hJ => ?_) (fun d K2 hJ => ?_) (fun d c K2 hD => ?_)
 ·obtain ⟨jo, P, hP, rfl⟩ := hJ
  have hSm := allM_pre hb hpre
  have hpl := pre_len hb hpre (fun S => !badM b S b.seekers.length)
  have hPl : P.length ≤ 65536 := by have := congrArg List.length hP; unfold guessM at this; simp only [List.length_map] at this; omega
  refine au [5, 22] ?_
  intro j4 hj4
  refine au [17, 3] ?_
  refine hbegin _ _ _ _ _ (by repeat (first | exact Upd.head | apply Upd.tail)) ?_
  refine au [13, 4, 5, 8, 8] ?_
  refine TK.cl rfl rfl rfl rfl (wrong_ok hT (s := s) (e := e) hb hSm) ?_
  rintro r5 K6 ⟨rfl, rfl⟩
  refine au [1, 10, 10, 2, 2, 3, 4, 5, 1, 3, 20] ?_
  refine ⟨fun hc1 => ?_, fun hc1 => ?_⟩
  ·have hwr : 0 ≤ wrongM b S ∧ wrongM b S ≤ 100 := by unfold wrongM; have := wrongL_le b S b.seekers.length; have := hb.ns; split <;> omega
   refine TK.draw [0, 1, 3, 2, 4, 5, 6, 7] [0, 1, 2, 3, 4, 5, 6, 7] (by kernel_rfl) (by kernel_rfl) ?_
   refine TD.y [8] rfl (hq := q_load1 rfl rfl TySz.h (List.Mem.head _) rfl) (h := ?_)
   refine TD.y [9] rfl (hq := q_load rfl rfl TySz.h (List.Mem.head _) rfl) (h := ?_)
   refine TD.z [10] rfl (q_move rfl rfl) ?_
   refine TD.cl (pend' := [⟨3, [10], []⟩, ⟨0, [8], [(_, _)]⟩]) [31] rfl rfl rfl rfl rfl (listF_ok hT hSm.len fun x hx => ⟨(hSm.mem x hx).1, by have := (hSm.mem x hx).2; have := hb.steps; omega⟩) (fun r8 K9 h10 => ⟨?_, ?_⟩)
   ·rcases h10 with ⟨jr, rfl, rfl⟩
    all_goals simp
   obtain ⟨jr, rfl, rfl⟩ := h10
   try simp only [List.cons_append, List.nil_append]
   refine TD.norm (by simp only [List.set]; rfl) ?_
   refine TD.z [32, 33] rfl (q_build (l := [_, _]) rfl TyZ.h BlOf.h rfl) ?_
   refine TD.cnewR (pend' := [⟨3, [10], []⟩, ⟨0, [8], [(_, _)]⟩]) [34] rfl rfl rfl rfl rfl (n_buildSlice (l := [_, _]) rfl SlEl.h TyZ.h (by decide) (by decide) rfl) (fun _ => putS rfl (by simp only [List.set]; rfl)) (by simp) fun j11 hj11 => ?_
   refine TD.capp (pend' := [⟨3, [10], []⟩]) [30, 35] rfl rfl rfl rfl rfl (a_app rfl ApOf.h rfl (by repeat (first | exact List.Mem.head _ | assumption | apply List.Mem.tail)) (refsG_len P) rfl (src_row (ln := [_, _]) (by repeat (first | exact List.Mem.head _ | assumption | apply List.Mem.tail)) (by decide) (by simp) rfl) (by omega) rfl (by unfold maxLen; omega) (by omega)) (fun _ => (by repeat (first | exact Upd.head | apply Upd.tail))) (fun _ => putS rfl (by simp only [List.set]; rfl)) (fun _ => (by simp)) fun jo2 => ?_
   refine TD.s (pend' := []) [8, 36] rfl rfl (q_store rfl rfl TySz.h rfl rfl (by repeat (first | exact List.Mem.head _ | assumption | apply List.Mem.tail)) rfl) ?_
   refine TD.fin ?_
   refine au [14] ?_
   refine TK.kp ((l, lb) :: (e, seenO b) :: (jr, _) :: (jl, _) :: (jo2, _) :: (jx, _) :: (1, _) :: (s, _) :: objsG P) ?_
   refine TK.perm (K' := (l, lb) :: (e, seenO b) :: (jl, _) :: (jo2, _) :: (jx, _) :: (1, _) :: (s, _) :: objsG (P ++ [(jr, S, wrongM b S)])) (by rw [objsG_app]; exact (List.Perm.cons _ (List.Perm.cons _ (List.perm_append_singleton _ ((jl, _) :: (jo2, _) :: (jx, _) :: (1, _) :: (s, _) :: objsG P)).symm))) ?_
   exact hfin _ _ ((jl, _) :: (jo2, _) :: (jx, _) :: (1, _) :: (s, _) :: objsG (P ++ [(jr, S, wrongM b S)])) _ (.all _) ⟨jo2, P ++ [(jr, S, wrongM b S)], by rw [guessM_T (by simpa using hc1), List.map_append, hP]; rfl, by rw [refsG_app, List.length_append] <;> rfl⟩
  refine au [12, 14] ?_
  exact hfin _ _ ((jl, _) :: (jo, _) :: (jx, _) :: (1, _) :: (s, _) :: objsG P) _ (by repeat (first | exact Split.none _ | exact Split.all _ | (apply Split.rem; repeat (first | exact Rem.head | apply Rem.tail)) | apply Split.right)) ⟨jo, P, by rw [guessM_F (by simpa using hc1)]; exact hP, rfl⟩
 ·obtain ⟨jo, P, hP, rfl⟩ := hJ
  have hPl : P.length ≤ 65536 := by
   have h1 := congrArg List.length hP
   have h2 := allM_len hb
   have h3 := List.length_filter_le (fun S => !badM b S b.seekers.length) (allM b)
   unfold guessM at h1
   simp only [List.length_map] at h1
   omega
  simp only [List.cons_append, List.nil_append]
  refine TK.perm (List.Perm.cons _ (List.Perm.cons _ (List.Perm.cons _ (List.Perm.cons _ (List.Perm.cons _ (List.Perm.cons _ (List.Perm.cons _ List.perm_append_comm))))))) ?_
  simp only [List.cons_append, List.nil_append]
  refine au [14, 4, 4, 5, 9, 28, 6, 3, 20] ?_
  refine ⟨fun hc2 => ?_, fun hc2 => ?_⟩
  ·have hPn : P = [] := List.eq_nil_of_length_eq_zero (by have h : (P.length : Int) = 0 := (by simpa using hc2); omega)
   refine au [4, 5, 2, 2, 2, 2, 3] ?_
   refine TK.leave (.ret _) fun A hA => hret _ _ _ _ ([(0, _), (1, _), (s, _), (e, _)]) ([(0, _), (1, _), (s, _), (e, _)]) _ _ _ (.inr rfl) (by repeat (first | exact Split.none _ | exact Split.all _ | (apply Split.rem; repeat (first | exact Rem.head | apply Rem.tail)) | apply Split.right)) (by simp) (by simp) (by repeat (first | exact Split.none _ | exact Split.all _ | (apply Split.rem; repeat (first | exact Rem.head | apply Rem.tail)) | apply Split.right)) (res_many (.cons (rk_tmp rfl) (.cons (rk_tmp rfl) (.cons (rk_tmp rfl) (.cons (rk_tmp rfl) ResKs.nil)))) rfl) ?_ A hA
   exact .inr (.inl ⟨hck, by rw [← hP, hPn]; rfl, rfl, rfl⟩)
  obtain ⟨p, ps, rfl⟩ : ∃ p ps, P = p :: ps := by
   cases P with
   | nil => exact absurd hc2 (by decide)
   | cons p ps => exact ⟨p, ps, rfl⟩
  have hlen : ∀ x ∈ p :: ps, x.2.1.length ≤ 1000 := fun x hx => by
   have h1 : x.2 ∈ guessM b (allM b) := by rw [← hP]; exact List.mem_map_of_mem (f := fun x : Gs => x.2) hx
   obtain ⟨S, hS, h2⟩ := List.mem_map.1 h1
   have := (allM_ok hb S (List.mem_filter.1 hS).1).len
   rw [← h2]; dsimp only; omega
  refine au [12, 4] ?_
  refine TK.draw [0, 1, 2, 3, 4, 5, 6, 7] [0, 1, 2, 3, 4, 5, 6, 7] (by kernel_rfl) (by kernel_rfl) ?_
  refine TD.y [8] rfl (hq := q_load1 rfl rfl TySz.h (List.Mem.head _) rfl) (h := ?_)
  refine TD.y [40] rfl (hq := q_indexRow rfl rfl rfl SlEl.h (List.Mem.head _) (by first | omega | (simp only [List.length_cons]; omega)) (by first | omega | (simp only [List.length_cons]; omega))) (h := ?_)
  refine TD.y [41] rfl (hq := q_load rfl rfl TySz.h (List.Mem.head _) (refsG_take (k := 0) (by simp))) (h := ?_)
  refine TD.y [8] rfl (hq := q_load1 rfl rfl TySz.h (List.Mem.head _) rfl) (h := ?_)
  refine TD.y [43] rfl (hq := q_sliceRow rfl rfl SlEl.h (List.Mem.head _) rfl rfl (by first | omega | (simp only [List.length_cons]; omega)) (by first | omega | (simp only [List.length_cons]; omega)) rfl) (h := ?_)
  refine TD.c2 (i1 := 5) (i2 := 6) (pend1 := [⟨3, [8], [(_, _)]⟩, ⟨1, [40], [(_, _)]⟩, ⟨0, [8], [(_, _)]⟩]) (pend2 := [⟨4, [43], [(_, _)]⟩, ⟨3, [8], [(_, _)]⟩, ⟨2, [41], [(_, _)]⟩, ⟨1, [40], [(_, _)]⟩, ⟨0, [8], [(_, _)]⟩]) (L1 := [6, 7]) (L2 := [5, 7]) [42, 44] [] rfl rfl rfl rfl rfl rfl rfl ?_ ?_
  ·refine exK_callO rfl rfl Cal.h rfl (firstGuess_ok hT (o := p) (xs := ps) (lt := fun a c => ltGuess a.2 c.2) (fv := .fn 49 [] []) (jo := jo) (off := 2) (obo := .row (refsG (p :: ps)) 101 2) (K := (jo, .row (refsG (p :: ps)) 101 2) :: objsG (p :: ps)) (by simp at hPl; omega) (by simp) (fun k hk => by rw [show 2 + ((k : Int)).toNat * 2 = (k + 1) * 2 by rw [Int.toNat_natCast]; omega]; exact refsG_take (P := p :: ps) (k := k + 1) (by simpa using hk)) (fun x hx y hy => callFK_fn Cal.h (likely1_ok hT (List.mem_cons_of_mem _ (objsG_mem hx)) (List.mem_cons_of_mem _ (objsG_mem hy)) (ints_at _ _ _) (ints_at _ _ _) (hlen x hx) (hlen y hy)))) (by repeat (first | exact Split.none _ | exact Split.all _ | (apply Split.rem; repeat (first | exact Rem.head | apply Rem.tail)) | apply Split.right)) fun r12 K13 h14 => ⟨?_, ?_⟩
   ·rcases h14 with ⟨rfl, rfl⟩
    all_goals simp
   obtain ⟨rfl, rfl⟩ := h14
   try simp only [List.cons_append, List.nil_append]
   refine TD.norm (env' := [_, _, _, _, _, _, _, _, _, _, _, _, _, _, _, _, _, _, _, _, _, _, _, _, _, _, _, _, _, _, _, _, _, _, _, _, _, _, _, _, _, _, _, _, _, _, _, _, _, _]) rfl ?_
   refine TD.perm (List.Perm.cons _ List.perm_append_comm) ?_
   simp only [List.cons_append, List.nil_append]
   generalize hres0 : firstL (fun (a c : Gs) => ltGuess a.2 c.2) p ps = res
   have hmem : res ∈ p :: ps := hres0 ▸ firstL_mem
   obtain ⟨R1, hR1⟩ := rem_of_mem (objsG_mem hmem)
   have hcl : res.2 = likelyM b := by
    rw [← hres0, firstL_map (fun x : Gs => x.2)]
    unfold likelyM
    rw [← hP]; rfl
   refine TD.cnewP (pend' := [⟨3, [8], [(_, _)]⟩, ⟨1, [40], [(_, _)]⟩, ⟨0, [8], [(_, _)]⟩]) [] rfl rfl rfl rfl rfl (n_allocA rfl TyZA.h) (fun _ => putS rfl (by simp only [List.set]; rfl)) (by simp) fun jg hjg => ?_
   refine TD.s (pend' := []) [12, 45] rfl rfl (q_store rfl rfl TySz.h rfl rfl (by repeat (first | exact List.Mem.head _ | assumption | apply List.Mem.tail)) rfl) ?_
   refine TD.fin ?_
   refine au [4] ?_
   refine TK.draw [0, 1, 2, 3, 4, 5, 6, 7] [0, 1, 4, 2, 3, 5, 6, 7] (by kernel_rfl) (by kernel_rfl) ?_
   refine TD.z [12] rfl (q_fieldAddr rfl rfl FldOf.h (by decide)) ?_
   refine TD.y [46] rfl (hq := q_load1 rfl rfl TySz.h (List.Mem.head _) rfl) (h := ?_)
   refine TD.z [12] rfl (q_fieldAddr rfl rfl FldOf.h (by decide)) ?_
   refine TD.y [48] rfl (hq := q_load1 rfl rfl TySz.h (List.Mem.head _) rfl) (h := ?_)
   refine TD.as (pend' := [⟨3, [48], [(_, _)]⟩, ⟨2, [12], []⟩]) [47] rfl rfl (q_assign rfl rfl) ?_
   refine TD.as (pend' := []) [49] rfl rfl (q_assign rfl rfl) ?_
   refine TD.as (pend' := []) [] rfl rfl (q_assign rfl rfl) ?_
   refine TD.as (pend' := []) [] rfl rfl (q_assign rfl rfl) ?_
   refine TD.fin ?_
   refine TK.leave (.ret _) fun A hA => hret _ _ _ _ ([(0, _), (1, _), (s, _), (e, _), (res.1, .cells (res.2.1.map intA) 3 false)]) ([(0, _), (1, _), (s, _), (e, _), (res.1, .cells (res.2.1.map intA) 3 false)]) _ _ _ (.inr rfl) (by repeat (first | exact Split.none _ | exact Split.all _ | (apply Split.rem; repeat (first | exact Rem.head | exact hR1 | apply Rem.tail)) | apply Split.right)) (by simp) (by simp) (by repeat (first | exact Split.none _ | exact Split.all _ | (apply Split.rem; repeat (first | exact Rem.head | exact hR1 | apply Rem.tail)) | apply Split.right)) (res_many (.cons (rk_tmp rfl) (.cons (rk_tmp rfl) (.cons (rk_tmp rfl) (.cons (rk_tmp rfl) ResKs.nil)))) rfl) ?_ A hA
   refine .inr (.inr ⟨hck, by rw [← hP]; simp, res.1, ?_, ?_⟩)
   ·rw [← hcl]; rfl
   ·rw [← hcl]
  ·refine exK_newP rfl (n_allocA rfl TyZA.h) (fun _ => putS rfl (by simp only [List.set]; rfl)) (by simp) fun jg hjg => ?_
   refine TD.cl (pend' := [⟨3, [8], [(_, _)]⟩, ⟨1, [40], [(_, _)]⟩, ⟨0, [8], [(_, _)]⟩]) [42, 44] rfl rfl rfl rfl rfl (firstGuess_ok hT (o := p) (xs := ps) (lt := fun a c => ltGuess a.2 c.2) (fv := .fn 49 [] []) (jo := jo) (off := 2) (obo := .row (refsG (p :: ps)) 101 2) (K := (jo, .row (refsG (p :: ps)) 101 2) :: objsG (p :: ps)) (by simp at hPl; omega) (by simp) (fun k hk => by rw [show 2 + ((k : Int)).toNat * 2 = (k + 1) * 2 by rw [Int.toNat_natCast]; omega]; exact refsG_take (P := p :: ps) (k := k + 1) (by simpa using hk)) (fun x hx y hy => callFK_fn Cal.h (likely1_ok hT (List.mem_cons_of_mem _ (objsG_mem hx)) (List.mem_cons_of_mem _ (objsG_mem hy)) (ints_at _ _ _) (ints_at _ _ _) (hlen x hx) (hlen y hy)))) (fun r15 K16 h17 => ⟨?_, ?_⟩)
   ·rcases h17 with ⟨rfl, rfl⟩
    all_goals simp
   obtain ⟨rfl, rfl⟩ := h17
   try simp only [List.cons_append, List.nil_append]
   refine TD.norm (by simp only [List.set]; rfl) ?_
   refine TD.perm (List.Perm.cons _ List.perm_append_comm) ?_
   simp only [List.cons_append, List.nil_append]
   generalize hres0 : firstL (fun (a c : Gs) => ltGuess a.2 c.2) p ps = res
   have hmem : res ∈ p :: ps := hres0 ▸ firstL_mem
   obtain ⟨R1, hR1⟩ := rem_of_mem (objsG_mem hmem)
   have hcl : res.2 = likelyM b := by
    rw [← hres0, firstL_map (fun x : Gs => x.2)]
    unfold likelyM
    rw [← hP]; rfl
   refine TD.s (pend' := []) [12, 45] rfl rfl (q_store rfl rfl TySz.h rfl rfl (by repeat (first | exact List.Mem.head _ | assumption | apply List.Mem.tail)) rfl) ?_
   refine TD.fin ?_
   refine au [4] ?_
   refine TK.draw [0, 1, 2, 3, 4, 5, 6, 7] [0, 1, 4, 2, 3, 5, 6, 7] (by kernel_rfl) (by kernel_rfl) ?_
   refine TD.z [12] rfl (q_fieldAddr rfl rfl FldOf.h (by decide)) ?_
   refine TD.y [46] rfl (hq := q_load1 rfl rfl TySz.h (List.Mem.head _) rfl) (h := ?_)
   refine TD.z [12] rfl (q_fieldAddr rfl rfl FldOf.h (by decide)) ?_
   refine TD.y [48] rfl (hq := q_load1 rfl rfl TySz.h (List.Mem.head _) rfl) (h := ?_)
   refine TD.as (pend' := [⟨3, [48], [(_, _)]⟩, ⟨2, [12], []⟩]) [47] rfl rfl (q_assign rfl rfl) ?_
   refine TD.as (pend' := []) [49] rfl rfl (q_assign rfl rfl) ?_
   refine TD.as (pend' := []) [] rfl rfl (q_assign rfl rfl) ?_
   refine TD.as (pend' := []) [] rfl rfl (q_assign rfl rfl) ?_
   refine TD.fin ?_
   refine TK.leave (.ret _) fun A hA => hret _ _ _ _ ([(0, _), (1, _), (s, _), (e, _), (res.1, .cells (res.2.1.map intA) 3 false)]) ([(0, _), (1, _), (s, _), (e, _), (res.1, .cells (res.2.1.map intA) 3 false)]) _ _ _ (.inr rfl) (by repeat (first | exact Split.none _ | exact Split.all _ | (apply Split.rem; repeat (first | exact Rem.head | exact hR1 | apply Rem.tail)) | apply Split.right)) (by simp) (by simp) (by repeat (first | exact Split.none _ | exact Split.all _ | (apply Split.rem; repeat (first | exact Rem.head | exact hR1 | apply Rem.tail)) | apply Split.right)) (res_many (.cons (rk_tmp rfl) (.cons (rk_tmp rfl) (.cons (rk_tmp rfl) (.cons (rk_tmp rfl) ResKs.nil)))) rfl) ?_ A hA
   refine .inr (.inr ⟨hck, by rw [← hP]; simp, res.1, ?_, ?_⟩)
   ·rw [← hcl]; rfl
   ·rw [← hcl]
 ·exact hD.elim
end Go.Vel
end
section
set_option linter.all false
set_option maxRecDepth 20000
set_option maxHeartbeats 60000000
namespace Go.Vel
open Go Go.Conc
open Go.ConcN (upd)

theorem pureS_runT {α : Type} {P : Program} : ∀ (s : Sem α) {a : α}, pureS P s = some a → ∀ (w : World) (es : Array Event), s.runT P w es = (.ok a w, es) := by
 intro s
 induction s with
 | pure b => intro a h w es; cases h; rfl
 | program k ih => intro a h w es; exact ih P h w es
 | _ => intro a h; cases h

theorem pureS_pure' {α : Type} {P : Program} (a : α) : pureS P (pure a) = some a := rfl

/-- What is lent, and what is let go. -/
def lend (Bs del : List Nat) (H : Hp) : Hp := fun b => if del.elem b then none else if Bs.elem b then (H b).map fun x => (false, x.2) else H b

theorem lend_sub {Bs del : List Nat} {H : Hp} {b : Nat} {rw' : Bool} {o : Obj} (h : lend Bs del H b = some (rw', o)) : ∃ r, H b = some (r, o) ∧ (rw' = true → r = true) := by
 unfold lend at h
 split at h
 ·cases h
 ·split at h
  ·obtain ⟨x, hx, e⟩ := Option.map_eq_some_iff.1 h
   cases e
   exact ⟨x.1, hx, fun h => by cases h⟩
  ·exact ⟨rw', h, id⟩
theorem lend_other {Bs del : List Nat} {H : Hp} {b : Nat} (h1 : b ∉ Bs) (h2 : b ∉ del) : lend Bs del H b = H b := by
 unfold lend
 rw [if_neg (by simpa using h2), if_neg (by simpa using h1)]
theorem lend_at {Bs del : List Nat} {H : Hp} {b : Nat} {r : Bool} {o : Obj} (h2 : b ∉ del) (h : H b = some (r, o)) : ∃ r', lend Bs del H b = some (r', o) := by
 unfold lend
 rw [if_neg (by simpa using h2)]
 split
 ·exact ⟨false, by rw [h]; rfl⟩
 ·exact ⟨r, h⟩

theorem RelH.lend {φ : Nat → Loc3} {A : List AObj} {F H : Hp} (h : RelH φ A F H) (Bs del : List Nat) (hB : ∀ (t : Nat) o, A[t]? = some o → o.live = true → sol (φ t) o → (φ t).blk ∉ del ∧ (o.excl = true → (φ t).blk ∉ Bs)) (hF : ∀ b, b ∈ Bs ∨ b ∈ del → F b = none) : RelH φ A F (Go.Vel.lend Bs del H) := by
 refine ⟨fun t o ht => ?_, h.apart, fun b x hx => ?_, h.frx⟩
 ·have ho := h.obj t o ht
  cases o with
  | cells l e rw' =>
   intro hl
   obtain ⟨r, cur, fz, q1, q2, q3⟩ := ho hl
   obtain ⟨d1, d2⟩ := hB t _ ht rfl hl
   cases rw' with
   | false =>
    obtain ⟨r', hr'⟩ := lend_at (Bs := Bs) d1 q1
    exact ⟨r', cur, fz, hr', (fun h => by cases h), q3⟩
   | true => exact ⟨r, cur, fz, (lend_other (d2 rfl) d1).trans q1, q2, q3⟩
  | row l e size =>
   obtain ⟨h0, h2, hh⟩ := ho
   refine ⟨h0, h2, fun hc => ?_⟩
   obtain ⟨cur, q1, q2⟩ := hh hc
   obtain ⟨d1, d2⟩ := hB t _ ht rfl hc
   exact ⟨cur, (lend_other (d2 rfl) d1).trans q1, q2⟩
  | raw o =>
   obtain ⟨d1, d2⟩ := hB t _ ht rfl trivial
   exact (lend_other (d2 rfl) d1).trans ho
  | loop f env ps x y st pj =>
   obtain ⟨ts, d, q1, q2⟩ := ho
   obtain ⟨d1, d2⟩ := hB t _ ht rfl trivial
   exact ⟨ts, d, (lend_other (d2 rfl) d1).trans q1, q2⟩
  | gone => trivial
 ·have hn : ¬ (b ∈ Bs ∨ b ∈ del) := fun hm => by rw [hF b hm] at hx; cases hx
  rw [lend_other (fun hm => hn (.inl hm)) (fun hm => hn (.inr hm))]
  exact h.fr b x hx

section
variable {P : Program} {gm : Nat → Option Nat} {T : Goroutine → Hp → Prop} {cg cn : Nat} {msg : Nat → Nat × Value} {Stop : Goroutine → Hp → Prop} {Y : KX P gm T} {ds : List Nat} {k : List Item} {env env' : List AV} {K K' : KV} {ops : Array Oper} {i : Nat} {rest : List Nat} {o : Oper} {φ0 : Nat → Loc3} {n0 j : Nat} {R : Nat → Bool}

/-- The gathering's frame. -/
def phX (Y : KX P gm T) (cg cn : Nat) (msg : Nat → Nat × Value) (Stop : Goroutine → Hp → Prop) (j : Nat) (R : Nat → Bool) (φ0 : Nat → Loc3) (n0 : Nat) : KX P gm (MainT P cg cn msg Stop j R) :=
 ⟨{ main := true, hT := shut_mainT P cg cn msg Stop j R, φ0, n0, F := Y.X.F, kd := Y.X.kd, hkd := Y.X.hkd, f := Y.X.f, ro := Y.X.ro, cs := Y.X.cs, L := fun _ _ _ _ => False, hL := fun _ _ _ _ _ _ _ _ _ h => h.elim }, Y.A0, Y.K0⟩

theorem kn_ph {j' : Nat} {R' : Nat → Bool} {A : List AObj} (h : Kn (phX Y cg cn msg Stop j R φ0 n0) K A) : Kn (phX Y cg cn msg Stop j' R' φ0 n0) K A := ⟨h.view, h.nd, h.own, h.kept, h.len⟩

/-- It is received. -/
theorem TK.recv {c1 c2 : Operand} {e1 e2 : TypeId} {t1 t2 : TypeInfo} {z1 z2 : Value} (ho : ops[i]? = some o) (hop : o.op = .select #[{ chan := c1, send := none, elem := e1 }, { chan := c2, send := none, elem := e2 }] true) (hw : wantA ops env o = some true) (hc1 : opndO gm env c1 = some (.v (.chan (some cg)))) (hc2 : opndO gm env c2 = some (.v (.chan (some cn))))
  (hi1 : P.info? e1 = some t1) (hz1 : t1.zero = some z1) (hi2 : P.info? e2 = some t2) (hz2 : t2.zero = some z2) (hex : ∃ q, q < j ∧ R q = false)
  (h : ∀ q, q < j → R q = false → TK (phX Y cg cn msg Stop j (upd R q true) φ0 n0) ds (.inRegion ops rest :: k) (putA env o.dst (.tup (if (msg q).1 = cg then [.v (.int .i64 0), .v (.bool true), .v (msg q).2, .v z2] else [.v (.int .i64 1), .v (.bool true), .v z1, .v (msg q).2]))) K) :
  TK (phX Y cg cn msg Stop j R φ0 n0) ds (.inRegion ops (i :: rest) :: k) env K := fun A hA φ H ts h1 h2 h3 h4 h5 h6 => by
 have q1 := opnd_rel (a := ⟨ts, []⟩) h3 h6 c1
 rw [opndO_eq hc1] at q1
 have q2 := opnd_rel (a := ⟨ts, []⟩) h3 h6 c2
 rw [opndO_eq hc2] at q2
 have q1' : evT ts c1 = .chan (some cg) := inv_v q1
 have q2' : evT ts c2 = .chan (some cn) := inv_v q2
 have hz : ∀ {t : TypeId} {ti : TypeInfo} {z : Value}, P.info? t = some ti → ti.zero = some z → pureS P (zeroValue t) = some z := fun {t ti z} hi hz => by
  unfold zeroValue typeInfo
  show pureS P ((match P.info? t with | some i => pure i | none => stuck "no such type") >>= _) = _
  rw [hi]
  show pureS P (match ti.zero with | some z => _ | none => _) = _
  rw [hz]; rfl
 have hpure : pureS P (execOp (evT ts) o) = some (.comm (sel2 cg cn z1 z2) true .select) := by
  unfold execOp
  rw [hop]
  dsimp only
  rw [Array.mapM_eq_mapM_toList]
  simp only [List.mapM_cons, List.mapM_nil]
  have b1 : ∀ {α β : Type} {s : Sem α} {f : α → Sem β} {a : α} {b : β}, pureS P s = some a → pureS P (f a) = some b → pureS P (s >>= f) = some b := fun h1 h2 => pureS_bind h1 h2
  rw [q1', q2']
  refine b1 (a := sel2 cg cn z1 z2) ?_ rfl
  refine b1 (a := [rcase cg z1, rcase cn z2]) ?_ rfl
  refine b1 (a := rcase cg z1) (b1 (hz hi1 hz1) rfl) ?_
  refine b1 (a := [rcase cn z2]) ?_ rfl
  exact b1 (a := rcase cn z2) (b1 (hz hi2 hz2) rfl) rfl
 refine .recv (G (fr Y.X.kd Y.X.f Y.X.ro ts (dsC φ ds) (.inRegion ops (i :: rest) :: k)) Y.X.cs) z1 z2 rfl hex (fun w hf => ⟨#[], ?_, fun e he => by simp at he⟩) fun q hq hR p hp => ?_
 ·show stepG P true (G (fr Y.X.kd Y.X.f Y.X.ro ts (dsC φ ds) (.inRegion ops (i :: rest) :: k)) Y.X.cs) w = _
  rw [sf_oper Y.X.hkd ho (wantA_ok h6 hw) (by rw [hop]; rfl)]
  obtain ⟨r1, r2⟩ := runT_pair (pureS_runT _ hpure w #[])
  simp [stepG.apply, Sem.runT_eq, r1, r2, fr, GStep.after, seen]
  rfl
 ·have hfin := fr_finish Y.X.kd Y.X.f Y.X.ro ts (dsC φ ds) ops i rest k (commResult (sel2 cg cn z1 z2) .select p (msg q).2 true)
  simp only [ho, Option.bind_some] at hfin
  show MainT P cg cn msg Stop j (upd R q true) (G ((fr Y.X.kd Y.X.f Y.X.ro ts (dsC φ ds) (.inRegion ops (i :: rest) :: k)).finish (commResult (sel2 cg cn z1 z2) .select p (msg q).2 true)) Y.X.cs) H
  rw [hfin]
  refine h q hq hR A (kn_ph hA) φ H _ h1 h2 h3 h4 h5 (put_rel (a := ⟨ts, []⟩) h6 ?_ o.dst)
  have htup : ∀ (a b c d : Value), RelV φ A.length (.tup [.v a, .v b, .v c, .v d]) (.tuple #[a, b, c, d]) := fun a b c d => .tup rfl fun t x y hx hy => by
   rcases t with _ | _ | _ | _ | t <;> simp at hx hy <;> subst hx hy <;> exact .v _
  have c0 : ∀ v, commResult (sel2 cg cn z1 z2) .select ((0 : Nat) : Int) v true = .tuple #[.int .i64 0, .bool true, v, z2] := fun v => by
   simp [commResult, sel2, rcase, goInt, Array.zipIdx]
  have c1 : ∀ v, commResult (sel2 cg cn z1 z2) .select ((1 : Nat) : Int) v true = .tuple #[.int .i64 1, .bool true, z1, v] := fun v => by
   simp [commResult, sel2, rcase, goInt, Array.zipIdx]
  by_cases e : (msg q).1 = cg
  ·rw [if_pos e] at hp ⊢
   subst hp
   rw [c0]
   exact htup (.int .i64 0) (.bool true) (msg q).2 z2
  ·rw [if_neg e] at hp ⊢
   subst hp
   rw [c1]
   exact htup (.int .i64 1) (.bool true) z1 (msg q).2

/-- All is gathered. -/
theorem TK.stopM {Ψ : Goroutine → World → Prop} {Y : KX P gm (BT P Ψ)} (hR : ∀ q, q < j → R q = true) (hk : ∀ x ∈ k, okI x) (hcs : ∀ f ∈ Y.X.cs, okF f) (hag : Agr Y.X.φ0 φ0 Y.X.n0) (hn : Y.X.n0 ≤ n0) (h : TK Y ds k env K) :
  TK (phX Y cg cn msg (fun a Hs => okG a ∧ BT P Ψ a Hs) j R φ0 n0) ds k env K := fun A hA φ H ts h1 h2 h3 h4 h5 h6 =>
 .stop rfl hR ⟨⟨hk, hcs, fun t h => by cases h⟩, h A ⟨hA.view, hA.nd, hA.own, hA.kept, hA.len⟩ φ H ts (hag.trans h1 hn) (Nat.le_trans hn h2) h3 h4 h5 h6⟩

/-- A worker is born; what is in S is lent to it, and one object is given. -/
theorem TK.spawn {fo : Operand} {at_ : Array TypeId} {g : FuncId} {cp : List AV} {S : KV} {j9 : Nat} {l9 : List AV} {e9 : TypeId} (ho : ops[i]? = some o) (hop : o.op = .go { callee := .value fo, args := #[], argTypes := at_ }) (hw : wantA ops env o = some true) (hf : opndO gm env fo = some (.fn g [] cp)) (hR : R j = false)
  (hS : ∀ x ∈ S, x ∈ K ∧ x.1 < n0 ∧ Y.X.F (φ0 x.1).blk = none ∧ ∃ l e, l ≠ [] ∧ x.2 = .cells l e false) (hu : Rem K (j9, .cells l9 e9 true) K') (hl9 : l9 ≠ [])
  (hchild : ∀ (φ : Nat → Loc3) (A : List AObj) (Hc : Hp) (vs : Array Value), View ((j9, .cells l9 e9 false) :: S) A → RelG gm φ A.length → RelH φ A (fun _ => none) Hc → RelL φ A.length cp vs → TreeW P (AtSend P (msg j)) (born P { target := .fn (.func g) vs, args := #[] }) Hc)
  (h : TK (phX Y cg cn msg Stop (j + 1) R φ0 n0) ds (.inRegion ops rest :: k) (putA env o.dst (.v undef)) K') :
  TK (phX Y cg cn msg Stop j R φ0 n0) ds (.inRegion ops (i :: rest) :: k) env K := fun A hA φ H ts h1 h2 h3 h4 h5 h6 => by
 have hperm := hu.perm
 have hmem9 : (j9, AObj.cells l9 e9 true) ∈ K := hperm.symm.subset (by simp)
 have hj9 := hA.view.get hmem9
 have hj9l : j9 < A.length := (List.getElem?_eq_some_iff.1 hj9).1
 have hne9 : ∀ x ∈ S, x.1 ≠ j9 := fun x hx e => by
  obtain ⟨hxK, _, _, l, e', _, hx2⟩ := hS x hx
  have h9 := hA.view x hxK
  rw [e, hj9, hx2] at h9
  cases h9
 obtain ⟨rw9, cur9, fz9, hb9, hfz9, hc9⟩ := h5.obj j9 _ hj9 hl9
 -- the closure
 have hfo := opnd_rel (a := ⟨ts, []⟩) h3 h6 fo
 rw [opndO_eq hf] at hfo
 obtain ⟨xs, ys, ev, hr1, hr2⟩ := inv_fn hfo
 have hxs : xs = #[] := by
  have := hr1.1
  exact Array.eq_empty_of_size_eq_zero this.symm
 subst hxs
 let Bs : List Nat := (φ j9).blk :: S.map fun x => (φ x.1).blk
 have hφS : ∀ x ∈ S, φ x.1 = φ0 x.1 := fun x hx => h1 x.1 (hS x hx).2.1
 have hFB : ∀ b, b ∈ Bs → Y.X.F b = none := fun b hb => by
  rcases List.mem_cons.1 hb with rfl | hb
  ·exact h5.frx j9 _ hj9 rfl hl9
  ·obtain ⟨x, hx, rfl⟩ := List.mem_map.1 hb
   rw [hφS x hx]; exact (hS x hx).2.2.1
 -- what is left
 have hdrop := h5.drop j9
 have hcaller : RelH φ (A.set j9 .gone) Y.X.F (lend Bs [] H) := by
  refine hdrop.lend Bs [] (fun t q ht hl hs => ⟨by simp, fun hx hm => ?_⟩) fun b hb => hFB b (hb.resolve_right (by simp))
  by_cases htj : j9 = t
  ·subst htj
   rw [List.getElem?_set_self hj9l] at ht
   cases ht; cases hl
  ·rw [List.getElem?_set_ne htj] at ht
   rcases List.mem_cons.1 hm with hm | hm
   ·exact h5.apart t j9 q _ ht hj9 (fun e => htj e.symm) hx rfl hs hl9 hm
   ·obtain ⟨x, hx', hm⟩ := List.mem_map.1 hm
    obtain ⟨hxK, _, _, l, e', hl0, hx2⟩ := hS x hx'
    have hax := hA.view x hxK
    rw [hx2] at hax
    by_cases htx : t = x.1
    ·subst htx; rw [ht] at hax; cases hax; cases hx
    ·exact h5.apart t x.1 q _ ht hax htx hx rfl hs hl0 hm.symm
 have hkn : Kn (phX Y cg cn msg Stop (j + 1) R φ0 n0) K' (A.set j9 .gone) := by
  have hnd := (keys_perm hperm).nodup_iff.1 hA.nd
  rw [keys_cons, List.nodup_cons] at hnd
  refine ⟨fun x hx => ?_, hnd.2, fun t ht => hA.own t ((keys_perm hperm).symm.subset (List.mem_cons_of_mem _ ht)), fun t ht1 ht2 => ?_, by rw [List.length_set]; exact hA.len⟩
  ·have hne : j9 ≠ x.1 := fun e => hnd.1 (by show j9 ∈ keys K'; rw [e]; exact mem_keys hx)
   rw [List.getElem?_set_ne hne]
   exact hA.view x (hperm.symm.subset (List.mem_cons_of_mem _ hx))
  ·have hne : j9 ≠ t := fun e => by
    subst e
    rcases hA.own j9 (mem_keys' hmem9) with h | h
    ·exact ht2 h
    ·exact absurd ht1 (Nat.not_lt.2 h)
   rw [List.getElem?_set_ne hne]
   exact hA.kept t ht1 ht2
 -- the child's
 let Ac : List AObj := (List.range A.length).map fun t => if t = j9 then .cells l9 e9 false else if (S.map (·.1)).elem t then (A[t]?).getD .gone else .gone
 have hAcl : Ac.length = A.length := by simp [Ac]
 have hAc : ∀ (t : Nat) (q : AObj), Ac[t]? = some q → q.live = true → (t = j9 ∧ q = .cells l9 e9 false) ∨ ∃ x ∈ S, x.1 = t ∧ x.2 = q := fun t q ht hl => by
  have hlt : t < A.length := by rw [← hAcl]; exact (List.getElem?_eq_some_iff.1 ht).1
  simp only [Ac, List.getElem?_map, List.getElem?_range hlt, Option.map_some, Option.some.injEq] at ht
  split at ht
  ·rename_i e; exact .inl ⟨e, ht.symm⟩
  ·split at ht
   ·rename_i hm
    simp only [List.elem_eq_mem, decide_eq_true_eq] at hm
    obtain ⟨x, hx, e⟩ := List.mem_map.1 hm
    have hax := hA.view x (hS x hx).1
    rw [e] at hax
    rw [hax] at ht
    exact .inr ⟨x, hx, e, ht⟩
   ·subst ht; cases hl
 let Hc : Hp := fun b => if Bs.elem b then (H b).map fun x => (false, x.2) else none
 have hHc : ∀ b r o, b ∈ Bs → H b = some (r, o) → Hc b = some (false, o) := fun b r o hb hx => by
  simp only [Hc]
  rw [if_pos (by simpa using hb), hx]; rfl
 have hRc : RelH φ Ac (fun _ => none) Hc := by
  have hne : ∀ (t : Nat) (q : AObj), Ac[t]? = some q → q.excl = false := fun t q ht => by
   cases hl : q.live with
   | false => cases q <;> first | rfl | cases hl
   | true =>
    rcases hAc t q ht hl with ⟨_, rfl⟩ | ⟨x, hx, _, hq⟩
    ·rfl
    ·obtain ⟨_, _, _, l, e', _, hx2⟩ := hS x hx
     rw [← hq, hx2]; rfl
  refine ⟨fun t q ht => ?_, fun t t' q q' ht _ _ he => absurd he (by rw [hne t q ht]; decide), (fun b x hx => by cases hx), fun t q ht he => absurd he (by rw [hne t q ht]; decide)⟩
  rw [hAcl]
  cases hl : q.live with
  | false => cases q <;> first | trivial | cases hl
  | true =>
   rcases hAc t q ht hl with ⟨rfl, rfl⟩ | ⟨x, hx, rfl, rfl⟩
   ·intro _
    exact ⟨false, cur9, fz9, hHc _ _ _ List.mem_cons_self hb9, (fun h => by cases h), hc9⟩
   ·obtain ⟨hxK, _, _, l, e', hl0, hx2⟩ := hS x hx
    have hax := hA.view x hxK
    rw [hx2] at hax ⊢
    intro _
    obtain ⟨r, cur, fz, p1, _, p3⟩ := h5.obj x.1 _ hax hl0
    exact ⟨false, cur, fz, hHc _ _ _ (List.mem_cons_of_mem _ (List.mem_map_of_mem hx)) p1, (fun h => by cases h), p3⟩
 have hVc : View ((j9, .cells l9 e9 false) :: S) Ac := fun x hx => by
  rcases List.mem_cons.1 hx with rfl | hx
  ·simp [Ac, hj9l]
  ·have hax := hA.view x (hS x hx).1
   have hlt : x.1 < A.length := (List.getElem?_eq_some_iff.1 hax).1
   simp only [Ac, List.getElem?_map, List.getElem?_range hlt, Option.map_some]
   rw [if_neg (hne9 x hx), if_pos (by simpa using ⟨x.2, hx⟩), hax]; rfl
 have hch := hchild φ Ac Hc ys hVc (by rw [hAcl]; exact h3) hRc (by rw [hAcl]; exact hr2)
 have hfin := fr_finish Y.X.kd Y.X.f Y.X.ro ts (dsC φ ds) ops i rest k undef
 simp only [ho, Option.bind_some] at hfin
 refine .spawn (G (fr Y.X.kd Y.X.f Y.X.ro (putT ts o.dst undef) (dsC φ ds) (.inRegion ops rest :: k)) Y.X.cs) (born P { target := .fn (.func g) ys, args := #[] }) (Go.Vel.lend Bs [] H) Hc rfl (fun w hf => ⟨#[], ?_, fun e he => by simp at he⟩) rfl rfl hR (fun b r q hb => lend_sub hb) (fun b r q hb => ?_) (fun b q hb => ?_) hch ?_
 ·show stepG P true (G (fr Y.X.kd Y.X.f Y.X.ro ts (dsC φ ds) (.inRegion ops (i :: rest) :: k)) Y.X.cs) w = _
  rw [sf_oper Y.X.hkd ho (wantA_ok h6 hw) (by rw [hop]; rfl)]
  have hpure : pureS P (execOp (evT ts) o) = some (.spawn { target := .fn (.func g) ys, args := #[] }) := by
   unfold execOp
   rw [hop]
   dsimp only
   have ev' : evT ts fo = .func (.func g) #[] ys := ev
   refine pureS_bind (a := { target := .fn (.func g) ys, args := #[] }) ?_ rfl
   show pureS P (Deferred.ofValue (evT ts fo) ((#[] : Array Operand).map (evT ts))) = _
   rw [ev']
   simp [Deferred.ofValue, pureS_pure']
  obtain ⟨r1, r2⟩ := runT_pair (pureS_runT _ hpure w #[])
  simp only [fr] at hfin
  simp [stepG.apply, Sem.runT_eq, r1, r2, fr, GStep.after, seen, hfin, born]
  rfl
 ·simp only [Hc] at hb
  split at hb
  ·obtain ⟨x, hx, e⟩ := Option.map_eq_some_iff.1 hb
   cases e
   exact ⟨rfl, x.1, hx⟩
  ·cases hb
 ·simp only [Hc]
  split
  ·rename_i hm
   exfalso
   unfold Go.Vel.lend at hb
   rw [if_neg (by simp), if_pos hm] at hb
   obtain ⟨x, _, e⟩ := Option.map_eq_some_iff.1 hb
   cases e
  ·rfl
 ·have hA9l : (A.set j9 .gone).length = A.length := by simp
  refine h (A.set j9 .gone) hkn φ _ _ h1 (by rw [hA9l]; exact h2) (by rw [hA9l]; exact h3) (by rw [hA9l]; exact h4) hcaller ?_
  rw [hA9l]
  exact put_rel (a := ⟨ts, []⟩) h6 (.v undef) o.dst
end
end Go.Vel
end
section
set_option linter.all false
set_option maxRecDepth 20000
set_option maxHeartbeats 60000000
namespace Go.Vel
open Go Go.Conc

def Turned (φ : Nat → Loc3) (A A' : List AObj) : Prop := ∀ (t : Nat) (o : AObj), A'[t]? = some o → ∃ o', A[t]? = some o' ∧ (o.excl = true → o'.excl = true) ∧ (o.live = true → o'.live = true) ∧ (sol (φ t) o → sol (φ t) o')
theorem Turned.refl (φ : Nat → Loc3) (A : List AObj) : Turned φ A A := fun _ o h => ⟨o, h, id, id, id⟩
theorem Turned.trans {φ : Nat → Loc3} {A B C : List AObj} (h : Turned φ A B) (k : Turned φ B C) : Turned φ A C := fun t o ht => by
 obtain ⟨o1, h1, a1, a2, a3⟩ := k t o ht
 obtain ⟨o2, h2, b1, b2, b3⟩ := h t o1 h1
 exact ⟨o2, h2, fun x => b1 (a1 x), fun x => b2 (a2 x), fun x => b3 (a3 x)⟩

section
variable {P : Program} {gm : Nat → Option Nat} {T : Goroutine → Hp → Prop} {Y : KX P gm T} {ds : List Nat} {k : List Item} {env env' : List AV} {K K' : KV}

theorem rel_turn {φ : Nat → Loc3} {A A0 : List AObj} {F H : Hp} {j : Nat} {o o' : AObj} (hA : Kn Y K A) (hH : RelH φ A F H) (hT : Turned φ A0 A) (hl0 : A.length = A0.length) (hu : Upd K j o j o' K') (ho : RelO φ A0.length (φ j) H o → RelO φ A0.length (φ j) H o') (hx : o'.excl = true → o.excl = true) (hl : o'.live = true → o.live = true) (hs : sol (φ j) o' → sol (φ j) o) :
  ∃ A', Kn Y K' A' ∧ RelH φ A' F H ∧ Turned φ A0 A' ∧ A'.length = A0.length := by
 have hj := hA.view.get hu.mem
 refine ⟨A.set j o', hA.step (.set hA.view hA.nd hu), hH.turn hj (by rw [hl0]; exact ho) hx hl hs, hT.trans fun t q ht => ?_, by rw [List.length_set, hl0]⟩
 by_cases e : j = t
 ·subst e
  rw [List.getElem?_set_self (List.getElem?_eq_some_iff.1 hj).1] at ht
  cases ht
  exact ⟨o, hj, hx, hl, hs⟩
 ·rw [List.getElem?_set_ne e] at ht
  exact ⟨q, ht, id, id, id⟩

/-- The gathering begins. -/
theorem TK.phase {Ψ : Goroutine → World → Prop} {Y : KX P gm (BT P Ψ)} {jc1 jc2 j7 j8 jx jb jl : Nat} {e7 e8 ex eb el : TypeId} {sl : Nat} {lx lb l : List AV} {Kr : KV} (msgf : Nat → Nat → Nat → Nat × Value) (hmsg : ∀ cg cn i, (msgf cg cn i).1 = cg ∨ (msgf cg cn i).1 = cn) (hlx : lx ≠ []) (hlb : lb ≠ []) (hl : l ≠ [])
  (h : ∀ (φ0 : Nat → Loc3) (n0 cg cn : Nat), cg ≠ cn → Agr Y.X.φ0 φ0 Y.X.n0 → Y.X.n0 ≤ n0 → (∀ t ∈ [j7, j8, jx, jb, jl], t < n0 ∧ Y.X.F (φ0 t).blk = none) → (∀ f ∈ Y.X.cs, okF f) →
   TK (phX Y cg cn (msgf cg cn) (fun a Hs => okG a ∧ BT P Ψ a Hs) 0 (fun _ => false) φ0 n0) ds k env ((jc1, .gone) :: (jc2, .gone) :: (j7, .cells [.v (.chan (some cg))] e7 false) :: (j8, .cells [.v (.chan (some cn))] e8 false) :: (jx, .cells (lx.map (unrow jl)) ex false) :: (jb, .cells lb eb false) :: (jl, .cells l el false) :: Kr)) :
  TK Y ds k env ((jc1, .raw (.chan 0 #[] false 0 0 false)) :: (jc2, .raw (.chan 0 #[] false 0 0 false)) :: (j7, .cells [.chan jc1] e7 true) :: (j8, .cells [.chan jc2] e8 true) :: (jx, .cells lx ex true) :: (jb, .cells lb eb true) :: (jl, .row l el sl) :: Kr) := fun A hA φ H ts h1 h2 h3 h4 h5 h6 => by
 have g1 := hA.view.get (show (jc1, AObj.raw (.chan 0 #[] false 0 0 false)) ∈ _ from .head _)
 have g2 := hA.view.get (show (jc2, AObj.raw (.chan 0 #[] false 0 0 false)) ∈ _ from .tail _ (.head _))
 have g3 := hA.view.get (show (j7, AObj.cells [.chan jc1] e7 true) ∈ _ from .tail _ (.tail _ (.head _)))
 have g4 := hA.view.get (show (j8, AObj.cells [.chan jc2] e8 true) ∈ _ from .tail _ (.tail _ (.tail _ (.head _))))
 have g5 := hA.view.get (show (jx, AObj.cells lx ex true) ∈ _ from .tail _ (.tail _ (.tail _ (.tail _ (.head _)))))
 have g6 := hA.view.get (show (jb, AObj.cells lb eb true) ∈ _ from .tail _ (.tail _ (.tail _ (.tail _ (.tail _ (.head _))))))
 have g7 := hA.view.get (show (jl, AObj.row l el sl) ∈ _ from .tail _ (.tail _ (.tail _ (.tail _ (.tail _ (.tail _ (.head _)))))))
 have hnd := hA.nd
 have hsl : sol (φ jl) (.row l el sl) := by
  show 0 < (φ jl).cap
  rcases Nat.eq_zero_or_pos (φ jl).cap with e | e
  ·exact absurd ((h5.obj jl _ g7).1 e) hl
  ·exact e
 have hbase : (φ jl).base = 0 := (h5.obj jl _ g7).2.1
 have hfalse : ∀ {l' : List AV} {e' : TypeId} {jt : Nat}, RelO φ A.length (φ jt) H (.cells l' e' true) → RelO φ A.length (φ jt) H (.cells l' e' false) := fun ho hl0 => by
  obtain ⟨r, cur, fz, p1, _, p3⟩ := ho hl0
  exact ⟨r, cur, fz, p1, (fun h => by cases h), p3⟩
 have hone : ∀ {jt jc : Nat} {e' : TypeId}, RelO φ A.length (φ jt) H (.cells [.chan jc] e' true) → RelO φ A.length (φ jt) H (.cells [.v (.chan (some (φ jc).blk))] e' false) := fun ho hl0 => by
  obtain ⟨r, cur, fz, p1, _, p3⟩ := ho (by simp)
  refine ⟨r, cur, fz, p1, (fun h => by cases h), fun t a ha => ?_⟩
  cases t with
  | zero =>
   simp at ha; subst ha
   obtain ⟨y, hy, hr⟩ := p3 0 _ rfl
   exact ⟨y, hy, by rw [(inv_chan hr).2]; exact .v _⟩
  | succ t => simp at ha
 obtain ⟨A1, k1, r1, t1, n1⟩ := rel_turn (o' := .gone) hA h5 (Turned.refl φ A) rfl .head (fun _ => trivial) (fun h => by cases h) (fun h => by cases h) (fun _ => trivial)
 obtain ⟨A2, k2, r2, t2, n2⟩ := rel_turn (o' := .gone) k1 r1 t1 n1 (.tail .head) (fun _ => trivial) (fun h => by cases h) (fun h => by cases h) (fun _ => trivial)
 obtain ⟨A3, k3, r3, t3, n3⟩ := rel_turn (o' := .cells [.v (.chan (some (φ jc1).blk))] e7 false) k2 r2 t2 n2 (.tail (.tail .head)) hone (fun h => by cases h) (fun _ => rfl) (fun _ => by simp [sol])
 obtain ⟨A4, k4, r4, t4, n4⟩ := rel_turn (o' := .cells [.v (.chan (some (φ jc2).blk))] e8 false) k3 r3 t3 n3 (.tail (.tail (.tail .head))) hone (fun h => by cases h) (fun _ => rfl) (fun _ => by simp [sol])
 obtain ⟨A5, k5, r5, t5, n5⟩ := rel_turn (o' := .cells (lx.map (unrow jl)) ex false) k4 r4 t4 n4 (.tail (.tail (.tail (.tail .head)))) (fun ho hl0 => by
  obtain ⟨r, cur, fz, p1, _, p3⟩ := ho hlx
  refine ⟨r, cur, fz, p1, (fun h => by cases h), fun t a ha => ?_⟩
  rw [List.getElem?_map] at ha
  cases e : lx[t]? with
  | none => rw [e] at ha; cases ha
  | some a0 =>
   rw [e] at ha
   cases ha
   obtain ⟨y, hy, hr⟩ := p3 t a0 e
   exact ⟨y, hy, unrow_rel hbase hr⟩) (fun h => by cases h) (fun _ => rfl) (fun _ => hlx)
 obtain ⟨A6, k6, r6, t6, n6⟩ := rel_turn (o' := .cells lb eb false) k5 r5 t5 n5 (.tail (.tail (.tail (.tail (.tail .head))))) hfalse (fun h => by cases h) (fun _ => rfl) (fun h => h)
 obtain ⟨A7, k7, r7, t7, n7⟩ := rel_turn (o' := .cells l el false) k6 r6 t6 n6 (.tail (.tail (.tail (.tail (.tail (.tail .head)))))) (fun ho hl0 => by
  obtain ⟨cur, q1, q2, q3, q4, q5⟩ := ho.2.2 hsl
  exact ⟨true, cur, (_, 0, 0), q1, (fun h => by cases h), fun t u hu => by rw [hbase, Nat.zero_add]; exact q5 t u hu⟩) (fun h => by cases h) (fun _ => rfl) (fun _ => hsl)
 have v7 := k7.view
 have w1 := v7.get (show (jc1, AObj.gone) ∈ _ from .head _)
 have w2 := v7.get (show (jc2, AObj.gone) ∈ _ from .tail _ (.head _))
 have w3 := v7.get (show (j7, AObj.cells [.v (.chan (some (φ jc1).blk))] e7 false) ∈ _ from .tail _ (.tail _ (.head _)))
 have w4 := v7.get (show (j8, AObj.cells [.v (.chan (some (φ jc2).blk))] e8 false) ∈ _ from .tail _ (.tail _ (.tail _ (.head _))))
 have w5 := v7.get (show (jx, AObj.cells (lx.map (unrow jl)) ex false) ∈ _ from .tail _ (.tail _ (.tail _ (.tail _ (.head _)))))
 have w6 := v7.get (show (jb, AObj.cells lb eb false) ∈ _ from .tail _ (.tail _ (.tail _ (.tail _ (.tail _ (.head _))))))
 have w7 := v7.get (show (jl, AObj.cells l el false) ∈ _ from .tail _ (.tail _ (.tail _ (.tail _ (.tail _ (.tail _ (.head _)))))))
 let Bs : List Nat := [(φ j7).blk, (φ j8).blk, (φ jx).blk, (φ jb).blk, (φ jl).blk]
 have f1 := h5.frx jc1 _ g1 rfl trivial
 have f2 := h5.frx jc2 _ g2 rfl trivial
 have f3 := h5.frx j7 _ g3 rfl (by simp [sol])
 have f4 := h5.frx j8 _ g4 rfl (by simp [sol])
 have f5 := h5.frx jx _ g5 rfl hlx
 have f6 := h5.frx jb _ g6 rfl hlb
 have f7 := h5.frx jl _ g7 rfl hsl
 have hF : ∀ b, b ∈ Bs ∨ b ∈ [(φ jc1).blk, (φ jc2).blk] → Y.X.F b = none := fun b hb => by
  simp only [Bs, List.mem_cons, List.not_mem_nil, or_false] at hb
  rcases hb with (rfl | rfl | rfl | rfl | rfl) | (rfl | rfl) <;> assumption
 have hne12 : (φ jc1).blk ≠ (φ jc2).blk := by
  refine h5.apart jc1 jc2 _ _ g1 g2 (fun e => ?_) rfl rfl trivial trivial
  subst e
  simp [keys] at hnd
 have hrel := r7.lend Bs [(φ jc1).blk, (φ jc2).blk] (fun t o ht hlv hs => by
  obtain ⟨o', ho', x1, x2, x3⟩ := t7 t o ht
  have y2 := x2 hlv
  have y3 := x3 hs
  have d1 : jc1 ≠ t := fun e => by subst e; rw [w1] at ht; cases ht; cases hlv
  have d2 : jc2 ≠ t := fun e => by subst e; rw [w2] at ht; cases ht; cases hlv
  refine ⟨?_, fun hx => ?_⟩
  ·simp only [List.mem_cons, List.not_mem_nil, or_false, not_or]
   exact ⟨fun e => h5.apart jc1 t _ o' g1 ho' d1 rfl y2 trivial y3 e.symm, fun e => h5.apart jc2 t _ o' g2 ho' d2 rfl y2 trivial y3 e.symm⟩
  ·have y1 := x1 hx
   simp only [Bs, List.mem_cons, List.not_mem_nil, or_false, not_or]
   have dd : ∀ {jt : Nat} {lt : List AV} {et : TypeId}, A7[jt]? = some (.cells lt et false) → t ≠ jt := fun hw e => by subst e; rw [hw] at ht; cases ht; cases hx
   exact ⟨h5.apart t j7 o' _ ho' g3 (dd w3) y1 rfl y3 (by simp [sol]), h5.apart t j8 o' _ ho' g4 (dd w4) y1 rfl y3 (by simp [sol]), h5.apart t jx o' _ ho' g5 (dd w5) y1 rfl y3 hlx, h5.apart t jb o' _ ho' g6 (dd w6) y1 rfl y3 hlb, h5.apart t jl o' _ ho' g7 (dd w7) y1 rfl y3 hsl⟩) hF
 have lt := fun {t : Nat} {q : AObj} (hq : A[t]? = some q) => (List.getElem?_eq_some_iff.1 hq).1
 refine bt_of_main (cg := (φ jc1).blk) (cn := (φ jc2).blk) (msg := msgf _ _) (H' := Go.Vel.lend Bs [(φ jc1).blk, (φ jc2).blk] H) (hmsg _ _) hne12 (h5.obj jc1 _ g1) (h5.obj jc2 _ g2) (fun b rw' o hb => let ⟨r, hr, _⟩ := lend_sub hb; ⟨r, hr⟩) ⟨by simp [Go.Vel.lend], by simp [Go.Vel.lend]⟩ fun hok => ?_
 refine h φ A.length _ _ hne12 h1 h2 (fun t ht => ?_) hok.2.1 A7 ⟨k7.view, k7.nd, k7.own, k7.kept, k7.len⟩ φ _ ts (Agr.refl _ _) (by show A.length ≤ A7.length; omega) (by rw [n7]; exact h3) (by rw [n7]; exact h4) hrel (by rw [n7]; exact h6)
 simp only [List.mem_cons, List.not_mem_nil, or_false] at ht
 rcases ht with rfl | rfl | rfl | rfl | rfl
 ·exact ⟨lt g3, f3⟩
 ·exact ⟨lt g4, f4⟩
 ·exact ⟨lt g5, f5⟩
 ·exact ⟨lt g6, f6⟩
 ·exact ⟨lt g7, f7⟩
end
end Go.Vel
end
