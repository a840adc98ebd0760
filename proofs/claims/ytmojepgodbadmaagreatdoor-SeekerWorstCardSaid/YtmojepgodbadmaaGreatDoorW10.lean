/- The law SeekerWorst: Likely, Clash, Ask and Lend agree with the specification. It holds of every program, tape and world that the statements name, as each theorem says. -/
import Derived.Test.YtmojepgodbadmaaGreatDoorW5
import Derived.Test.YtmojepgodbadmaaGreatDoorW7
import Derived.Test.YtmojepgodbadmaaGreatDoorW8
import Derived.Test.YtmojepgodbadmaaGreatDoorW9
section
set_option linter.all false
namespace Go.Vel
open Go Go.Conc Go.Proofs
/-! ### the least of a list, by an order that tells all apart -/
structure Tot {α : Type} (lt : α → α → Bool) : Prop where
  irr : ∀ a, lt a a = false
  tri : ∀ a b, lt a b = false → lt b a = false → a = b
  tr : ∀ a b c, lt a b = true → lt b c = true → lt a c = true
theorem Tot.neg {α : Type} {lt : α → α → Bool} (h : Tot lt) {a b c : α} (h1 : lt a b = false) (h2 : lt c b = true) : lt a c = false := by
  rw [Bool.eq_false_iff] at h1 ⊢
  exact fun h3 => h1 (h.tr _ _ _ h3 h2)
theorem Tot.least {α : Type} {lt : α → α → Bool} (h : Tot lt) : ∀ (xs : List α) (o : α), ∀ y ∈ o :: xs, lt y (firstL lt o xs) = false
  | [], o, y, hy => by
    rw [List.mem_singleton.1 hy]
    exact h.irr o
  | x :: xs, o, y, hy => by
    show lt y (firstL lt (if lt x o = true then x else o) xs) = false
    have ih := h.least xs (if lt x o = true then x else o)
    have key : ∀ z, z = x ∨ z = o → lt z (firstL lt (if lt x o = true then x else o) xs) = false := fun z hz => by
      by_cases hc : lt x o = true
      · rw [if_pos hc] at ih ⊢
        have h1 := ih x List.mem_cons_self
        rcases hz with rfl | rfl
        · exact h1
        · rw [Bool.eq_false_iff] at h1 ⊢
          exact fun h2 => h1 (h.tr _ _ _ hc h2)
      · rw [if_neg hc] at ih ⊢
        have h1 := ih o List.mem_cons_self
        rcases hz with rfl | rfl
        · rw [Bool.eq_false_iff] at h1 ⊢
          intro h2
          have hc' : lt z o = false := by simpa using hc
          by_cases h3 : lt o z = true
          · exact h1 (h.tr _ _ _ h3 h2)
          · have := h.tri _ _ hc' (by simpa using h3)
            subst this
            exact h1 h2
        · exact h1
    rcases List.mem_cons.1 hy with rfl | hy
    · exact key _ (.inr rfl)
    · rcases List.mem_cons.1 hy with rfl | hy
      · exact key _ (.inl rfl)
      · exact ih y (List.mem_cons_of_mem _ hy)
theorem Tot.uniq {α : Type} {lt : α → α → Bool} (h : Tot lt) {o m : α} {xs : List α} (hm : m ∈ o :: xs) (hl : ∀ y ∈ o :: xs, lt y m = false) : firstL lt o xs = m :=
  h.tri _ _ (hl _ firstL_mem) (h.least xs o m hm)
theorem Tot.same {α : Type} {lt : α → α → Bool} (h : Tot lt) {o o' : α} {xs xs' : List α} (he : ∀ y, y ∈ o :: xs ↔ y ∈ o' :: xs') : firstL lt o xs = firstL lt o' xs' :=
  h.uniq ((he _).2 firstL_mem) fun y hy => h.least _ _ y ((he y).1 hy)
/-- the least of a list, and what stands for that of none -/
def minL {α : Type} (lt : α → α → Bool) (d : α) (xs : List α) : α := firstL lt (xs.headD d) (xs.drop 1)
theorem minL_one {α : Type} {lt : α → α → Bool} {d x : α} : minL lt d [x] = x := rfl
theorem minL_app {α : Type} {lt : α → α → Bool} {d x : α} {xs : List α} (h : xs ≠ []) : minL lt d (xs ++ [x]) = if lt x (minL lt d xs) = true then x else minL lt d xs := by
  cases xs with
  | nil => exact absurd rfl h
  | cons y ys =>
    show firstL lt y (ys ++ [x]) = _
    unfold firstL
    rw [List.foldl_append]
    rfl
theorem minL_mem {α : Type} {lt : α → α → Bool} {d : α} {xs : List α} (h : xs ≠ []) : minL lt d xs ∈ xs := by
  cases xs with
  | nil => exact absurd rfl h
  | cons y ys => exact firstL_mem
theorem Tot.minL_same {α : Type} {lt : α → α → Bool} (h : Tot lt) {d : α} {xs ys : List α} (he : ∀ y, y ∈ xs ↔ y ∈ ys) : minL lt d xs = minL lt d ys := by
  cases xs with
  | nil =>
    cases ys with
    | nil => rfl
    | cons y ys => exact absurd ((he y).2 List.mem_cons_self) (by simp)
  | cons x xs =>
    cases ys with
    | nil => exact absurd ((he x).1 List.mem_cons_self) (by simp)
    | cons y ys => exact h.same he
/-! ### lists by number -/
theorem cmpI2_cases (x y : Int) : (x < y ∧ cmpI2 x y = -1) ∨ (x = y ∧ cmpI2 x y = 0) ∨ (y < x ∧ cmpI2 x y = 1) := by
  unfold cmpI2
  rcases Int.lt_trichotomy x y with h | h | h
  · exact .inl ⟨h, if_pos h⟩
  · exact .inr (.inl ⟨h, by rw [if_neg (by omega), if_neg (by omega)]⟩)
  · exact .inr (.inr ⟨h, by rw [if_neg (by omega), if_pos h]⟩)
theorem cmpL_self : ∀ a : List Int, cmpL a a = 0
  | [] => rfl
  | x :: a => by
    have h := cmpI2_cases x x
    have h1 : cmpI2 x x = 0 := by omega
    show (if cmpI2 x x ≠ 0 then _ else cmpL a a) = 0
    rw [if_neg (by omega), cmpL_self a]
theorem cmpL_zero : ∀ a b : List Int, cmpL a b = 0 → a = b
  | [], [], _ => rfl
  | [], _ :: _, h => by cases h
  | _ :: _, [], h => by cases h
  | x :: a, y :: b, h => by
    have hc := cmpI2_cases x y
    have h : (if cmpI2 x y ≠ 0 then cmpI2 x y else cmpL a b) = 0 := h
    by_cases h0 : cmpI2 x y = 0
    · rw [if_neg (by omega)] at h
      rw [cmpL_zero a b h, show x = y by omega]
    · rw [if_pos h0] at h; omega
theorem cmpL_neg : ∀ a b : List Int, cmpL b a = - cmpL a b
  | [], [] => rfl
  | [], _ :: _ => rfl
  | _ :: _, [] => rfl
  | x :: a, y :: b => by
    have h1 := cmpI2_cases x y
    have h2 := cmpI2_cases y x
    show (if cmpI2 y x ≠ 0 then cmpI2 y x else cmpL b a) = - (if cmpI2 x y ≠ 0 then cmpI2 x y else cmpL a b)
    by_cases h0 : cmpI2 x y = 0
    · rw [if_neg (by omega), if_neg (by omega), cmpL_neg a b]
    · rw [if_pos (by omega), if_pos (by omega)]; omega
theorem cmpL_tr : ∀ a b c : List Int, cmpL a b < 0 → cmpL b c < 0 → cmpL a c < 0
  | [], [], _, h, _ => by cases h
  | [], _ :: _, [], _, h => by cases h
  | [], _ :: _, _ :: _, _, _ => show (-1 : Int) < 0 by omega
  | _ :: _, [], _, h, _ => by cases h
  | _ :: _, _ :: _, [], _, h => by cases h
  | x :: a, y :: b, z :: c, h1, h2 => by
    have h1 : (if cmpI2 x y ≠ 0 then cmpI2 x y else cmpL a b) < 0 := h1
    have h2 : (if cmpI2 y z ≠ 0 then cmpI2 y z else cmpL b c) < 0 := h2
    show (if cmpI2 x z ≠ 0 then cmpI2 x z else cmpL a c) < 0
    have c1 := cmpI2_cases x y
    have c2 := cmpI2_cases y z
    have c3 := cmpI2_cases x z
    by_cases e1 : cmpI2 x y = 0
    · rw [if_neg (by omega)] at h1
      by_cases e2 : cmpI2 y z = 0
      · rw [if_neg (by omega)] at h2
        rw [if_neg (by omega)]
        exact cmpL_tr a b c h1 h2
      · rw [if_pos e2] at h2
        rw [if_pos (by omega)]; omega
    · rw [if_pos e1] at h1
      by_cases e2 : cmpI2 y z = 0
      · rw [if_pos (by omega)]; omega
      · rw [if_pos e2] at h2
        rw [if_pos (by omega)]; omega
theorem ltLists_iff (a c : List Int) : ltLists a c = true ↔ a.length < c.length ∨ (a.length = c.length ∧ cmpL a c < 0) := by unfold ltLists; simp
theorem ltGuess_iff (a c : List Int × Int) : ltGuess a c = true ↔ a.2 < c.2 ∨ (a.2 = c.2 ∧ cmpL a.1 c.1 < 0) := by unfold ltGuess; simp
theorem tot_lists : Tot ltLists := by
  refine ⟨fun a => ?_, fun a b h1 h2 => ?_, fun a b c h1 h2 => ?_⟩
  · rw [Bool.eq_false_iff, ne_eq, ltLists_iff]; have := cmpL_self a; omega
  · rw [Bool.eq_false_iff, ne_eq, ltLists_iff] at h1 h2
    have := cmpL_neg a b
    exact cmpL_zero a b (by omega)
  · rw [ltLists_iff] at h1 h2 ⊢
    have := cmpL_tr a b c
    omega
theorem tot_guess : Tot ltGuess := by
  refine ⟨fun a => ?_, fun a b h1 h2 => ?_, fun a b c h1 h2 => ?_⟩
  · rw [Bool.eq_false_iff, ne_eq, ltGuess_iff]; have := cmpL_self a.1; omega
  · rw [Bool.eq_false_iff, ne_eq, ltGuess_iff] at h1 h2
    have := cmpL_neg a.1 b.1
    exact Prod.ext (cmpL_zero a.1 b.1 (by omega)) (by omega)
  · rw [ltGuess_iff] at h1 h2 ⊢
    have := cmpL_tr a.1 b.1 c.1
    omega
end Go.Vel
end
section
set_option linter.all false
namespace Go.Vel
open Go Go.Conc Go.Proofs
instance : Cal Tryz.prog 107 := ⟨by kernel_rfl⟩
instance : Cal Tryz.prog 108 := ⟨by kernel_rfl⟩
instance : Cal Tryz.prog 109 := ⟨by kernel_rfl⟩
instance : Cal Tryz.prog 110 := ⟨by kernel_rfl⟩
instance : Cal Tryz.prog 39 := ⟨by kernel_rfl⟩
instance : Cal Tryz.prog 40 := ⟨by kernel_rfl⟩
instance : Cal Tryz.prog 42 := ⟨by kernel_rfl⟩
instance : Cal Tryz.prog 44 := ⟨by kernel_rfl⟩
instance : Cal Tryz.prog 63 := ⟨by kernel_rfl⟩
instance : Cal Tryz.prog 68 := ⟨by kernel_rfl⟩
instance : Cal Tryz.prog 73 := ⟨by kernel_rfl⟩
instance : Cal Tryz.prog 74 := ⟨by kernel_rfl⟩
instance : Cal Tryz.prog 78 := ⟨by kernel_rfl⟩
instance : Cal Tryz.prog 85 := ⟨by kernel_rfl⟩
instance : Cal Tryz.prog 91 := ⟨by kernel_rfl⟩
instance : EqG Tryz.prog 58 := ⟨by kernel_rfl⟩
instance : EqG Tryz.prog 90 := ⟨by kernel_rfl⟩
instance : FlatF Tryz.prog 58 [(9, 0), (3, 1), (3, 2), (56, 3), (4, 4)] := ⟨by kernel_rfl⟩
instance : FlatF Tryz.prog 90 [(3, 0), (4, 1)] := ⟨by kernel_rfl⟩
instance : Und Tryz.prog 56 (.int .i64) := ⟨by kernel_rfl⟩
end Go.Vel
end
section
set_option linter.all false
namespace Go.Vel
open Go Go.Conc Go.Proofs

section
variable {P : Program} {gm : Nat → Option Nat} {T : Goroutine → Hp → Prop} {Y : KX P gm T} {ds : List Nat} {k : List Item} {env env' : List AV} {K : KV}
/-- In a row of one, a slice of nothing is one of cells. -/
theorem TK.nilRow {t e : TypeId} {x : Option Addr} {s j : Nat} {K' : Nat → KV} (hu : ∀ j', Upd K j (.row [.v (.slice x 0 0)] t s) j (.row [.sl j' 0 0] t s) (K' j')) (h : ∀ j', j' ∉ keys K → TK Y ds k env ((j', .cells [] e false) :: K' j')) : TK Y ds k env K := fun A hA φ H ts h1 h2 h3 h4 h5 h6 => by
  have hk : A.length ∉ keys K := fun hm => absurd (hA.view.lt hm) (Nat.lt_irrefl _)
  have hH := h5.virtO (o := .cells [] e false) (fun φ n hl => absurd rfl hl) (fun hl => hl rfl)
  have hag := agr_upd3 φ A.length ⟨0, 0, 0⟩
  have hlen : (A ++ [AObj.cells [] e false]).length = A.length + 1 := by simp
  have hds : dsC (upd3 φ A.length ⟨0, 0, 0⟩) ds = dsC φ ds := by
    unfold dsC
    exact List.map_congr_left fun d hd' => by rw [hag d (h4 d hd')]
  have hj := hA.view.get (hu A.length).mem
  have hjl : j < A.length := (List.getElem?_eq_some_iff.1 hj).1
  have hj2 : (A ++ [AObj.cells [] e false])[j]? = some (.row [.v (.slice x 0 0)] t s) := by rw [List.getElem?_append_left hjl]; exact hj
  have hstep := hA.step (.push hA.view hA.nd (.cells [] e false))
  have hstep2 := hstep.step (.set hstep.view hstep.nd (Upd.tail (hu A.length)))
  rw [← hds]
  refine h _ hk _ hstep2 _ H ts (h1.trans hag h2) (by simp; omega) (by simpa using h3.mono hag (by omega)) (fun d hd => by have := h4 d hd; simp; omega) (hH.turn hj2 (fun ho => ?_) (fun h => h) (fun _ => rfl) (fun hs => hs)) (by simpa using h6.mono hag (by omega))
  obtain ⟨q0, q1, q2⟩ := ho
  refine ⟨fun hc => absurd (q0 hc) (by simp), q1, fun hc => ?_⟩
  obtain ⟨cur, p1, p2, p3, p4, p5⟩ := q2 hc
  refine ⟨cur, p1, p2, p3, by simpa using p4, fun t' a ha => ?_⟩
  cases t' with
  | zero =>
    simp only [List.getElem?_cons_zero, Option.some.injEq] at ha
    subst ha
    obtain ⟨y, hy, hr⟩ := p5 0 _ rfl
    refine ⟨y, hy, ?_⟩
    rw [inv_v hr]
    exact .sl (by simp) (Nat.zero_le _) fun hp => absurd hp (Nat.lt_irrefl _)
  | succ t' => simp at ha
end

/-! ### the specification's sets -/
def shortB (most : Int) (l : List Int) : Bool := decide ((l.length : Int) < most)
def moreM (most n : Int) (A : List (List Int)) : List (List Int) := (A.filter (shortB most)).map (· ++ [n])
def setsM (most : Int) : Nat → List (List Int)
  | 0 => [[]]
  | n + 1 => setsM most n ++ moreM most n (setsM most n).reverse
theorem moreM_app (most n : Int) (A B : List (List Int)) : moreM most n (A ++ B) = moreM most n A ++ moreM most n B := by simp [moreM]
theorem moreM_T {most n : Int} {l : List Int} (h : shortB most l = true) : moreM most n [l] = [l ++ [n]] := by simp [moreM, h]
theorem moreM_F {most n : Int} {l : List Int} (h : shortB most l = false) : moreM most n [l] = [] := by simp [moreM, h]
theorem moreM_len (most n : Int) (A : List (List Int)) : (moreM most n A).length ≤ A.length := by
  unfold moreM; rw [List.length_map]; exact List.length_filter_le _ _
theorem setsM_len (most : Int) : ∀ n, (setsM most n).length ≤ 2 ^ n
  | 0 => Nat.le_refl _
  | n + 1 => by
    have h1 := setsM_len most n
    have h2 := moreM_len most n (setsM most n).reverse
    rw [List.length_reverse] at h2
    show (setsM most n ++ _).length ≤ _
    rw [List.length_append, Nat.pow_succ]
    omega
theorem pow_le16 {n : Nat} (h : n ≤ 16) : 2 ^ n ≤ 65536 := Nat.le_trans (Nat.pow_le_pow_right (by decide) h) (by decide)
theorem setsM_short {most : Int} (hm : 0 ≤ most) : ∀ n, ∀ l ∈ setsM most n, (l.length : Int) ≤ most
  | 0, l, hl => by rw [List.mem_singleton.1 hl]; simpa using hm
  | n + 1, l, hl => by
    rcases List.mem_append.1 hl with hl | hl
    · exact setsM_short hm n l hl
    · obtain ⟨x, hx, rfl⟩ := List.mem_map.1 hl
      have := of_decide_eq_true (List.mem_filter.1 hx).2
      simp; omega
theorem takeR_succ {α : Type} (A : List α) {q : Nat} (h : q < A.length) : A.reverse.take (q + 1) = A.reverse.take q ++ [A[A.length - 1 - q]] := by
  rw [List.take_add_one, List.getElem?_eq_getElem (by simpa using h), List.getElem_reverse]; rfl

theorem refs_at {P : List (Nat × List Int)} {k : Nat} {n : Int} (hk : k < P.length) (h : n = (k : Int)) {e : TypeId} {sz : Nat} : takeO (.row (refsL P) e sz) (n.toNat * 1) 1 = some [.sl P[k].1 0 P[k].2.length] := by
  subst h
  rw [Int.toNat_natCast, Nat.mul_one]
  exact refs_take hk
theorem ints_one (xs : List Int) : (xs.map intA).all oneA = true := by
  rw [List.all_map]; exact List.all_eq_true.2 fun _ _ => rfl
theorem map_snd_get {P : List (Nat × List Int)} {A B : List (List Int)} (h : P.map (·.2) = A ++ B) {k : Nat} (hk : k < A.length) (hk2 : k < P.length) : P[k].2 = A[k] := by
  have h1 : (P.map (·.2))[k]? = some P[k].2 := by simp [hk2]
  rw [h, List.getElem?_append_left hk, List.getElem?_eq_getElem hk] at h1
  exact (Option.some.inj h1).symm
set_option maxRecDepth 20000 in
set_option maxHeartbeats 4000000 in
theorem sets_ok {main : Bool} {T : Goroutine → Hp → Prop} (hT : Shut Tryz.prog main T) {gm : Nat → Option Nat} {below most : Int} (hb : 0 ≤ below ∧ below ≤ 16) (hm : 0 ≤ most ∧ most ≤ 16) :
    CallK Tryz.prog T gm 91 [intA below, intA most] [] (fun r K' => ∃ (j : Nat) (P : List (Nat × List Int)), r = .row j P.length ∧ P.map (·.2) = setsM most below.toNat ∧ K' = (j, .row (refsL P) 28 1) :: objsL P) := by
  refine callK_in 41 hT Tryz.func91 fun Y hret => ?_
  refine au [4, 5, 2, 3, 4, 5] ?_
  refine TK.newR rfl rfl rfl (n_buildSlice (l := [_]) rfl SlEl.h TyZ.h (by decide) (by decide) rfl) (fun _ => putS rfl (by simp only [List.set]; rfl)) fun j0 hj0 => ?_
  refine au [2] ?_
  refine TK.nilRow (e := 3) (fun _ => (by repeat (first | exact Upd.head | apply Upd.tail))) fun je hje => ?_
  refine au [3, 4, 4, 5, 2, 3, 13] ?_
  refine TK.maskL [0, 1, 5, 6] ?_
  refine TK.kp [(j0, _), (je, _)] ?_
  refine TK.loopN (fun n env K => ∃ (i j : Nat) (P : List (Nat × List Int)), n = below.toNat - i ∧ (i : Int) ≤ below ∧ P.map (·.2) = setsM most i ∧ env = slotsA 41 [(0, intA below), (1, intA most), (5, .row j P.length), (6, intA i)] ∧ K = (j, .row (refsL P) 28 1) :: objsL P) below.toNat ⟨0, j0, [(je, [])], rfl, hb.1, rfl, rfl, rfl⟩ fun n env K hI hnext => ?_
  obtain ⟨i, j, P, rfl, hi, hP, rfl, rfl⟩ := hI
  have hPl : P.length ≤ 65536 := by have := setsM_len most i; rw [← hP, List.length_map] at this; exact Nat.le_trans this (pow_le16 (by omega))
  refine au [4, 4, 5, 1, 1, 6, 3, 20] ?_
  refine ⟨fun hc0 => ?_, fun hc0 => ?_⟩
  · simp only [decide_eq_true_eq] at hc0
    refine au [12, 4, 13, 4, 5, 1, 28, 24, 2, 3, 13] ?_
    refine TK.maskL [0, 1, 5, 6, 7] ?_
    refine TK.loopN (fun n env K => ∃ (q j2 : Nat) (P2 : List (Nat × List Int)), n = P.length - q ∧ q ≤ P.length ∧ P2.map (·.2) = setsM most i ++ moreM most i ((setsM most i).reverse.take q) ∧ env = slotsA 41 [(0, intA below), (1, intA most), (5, .row j2 P2.length), (6, intA i), (7, intA ((P.length : Int) - 1 - q))] ∧ K = (j2, .row (refsL P2) 28 1) :: objsL P2) P.length ⟨0, j, P, rfl, Nat.zero_le _, by rw [hP, List.take_zero]; exact (List.append_nil _).symm, by rw [Int.natCast_zero, Int.sub_zero]; rfl, rfl⟩ fun n env K hI2 hnext2 => ?_
    obtain ⟨q, j2, P2, rfl, hq, hP2, rfl, rfl⟩ := hI2
    have hsl : (setsM most i).length = P.length := by rw [← hP, List.length_map]
    have hPP : P.length ≤ P2.length := by have := congrArg List.length hP2; rw [List.length_map, List.length_append, hsl] at this; omega
    have hPl2 : P2.length ≤ 131072 := by
      have h1 := congrArg List.length hP2
      have h2 := moreM_len most i ((setsM most i).reverse.take q)
      rw [List.length_take] at h2
      rw [List.length_map, List.length_append, hsl] at h1
      omega
    refine au [4, 4, 5, 1, 6, 3, 20] ?_
    refine ⟨fun hc1 => ?_, fun hc1 => ?_⟩
    · simp only [decide_eq_true_eq] at hc1
      have hql : q < P.length := by omega
      obtain ⟨k0, hk0⟩ : ∃ k0, k0 = (setsM most i).length - 1 - q := ⟨_, rfl⟩
      have hkl : k0 < P2.length := by omega
      have hkn : (P.length : Int) - 1 - q = (k0 : Int) := by omega
      have hx2 : P2[k0].2 = (setsM most i)[(setsM most i).length - 1 - q] := by rw [map_snd_get hP2 (by omega) hkl]; congr 1
      have hmx := objsL_mem (List.getElem_mem hkl)
      refine au [12, 4, 13, 4, 5, 1, 1, 37] ?_
      refine TK.a rfl (q_load1 rfl rfl TySz.h (by repeat (first | exact List.Mem.head _ | assumption | apply List.Mem.tail)) (refs_at hkl hkn)) ?_
      refine au [28, 1, 6, 3, 20] ?_
      refine ⟨fun hc2 => ?_, fun hc2 => ?_⟩
      · simp only [decide_eq_true_eq] at hc2
        refine au [5, 1] ?_
        refine TK.newR rfl rfl rfl (n_buildSlice (l := []) rfl SlEl.h TyZ.h (by decide) (by decide) rfl) (fun _ => putS rfl (by simp only [List.set]; rfl)) fun j9 hj9 => ?_
        refine au [1, 1, 37] ?_
        refine TK.a rfl (q_load1 rfl rfl TySz.h (by repeat (first | exact List.Mem.head _ | assumption | apply List.Mem.tail)) (refs_at hkl hkn)) ?_
        refine TK.appG (ln := P2[k0].2.map intA) rfl rfl rfl ApOf.h rfl (by repeat (first | exact List.Mem.head _ | assumption | apply List.Mem.tail)) rfl rfl rfl (fun hp => src_sl (by repeat (first | exact List.Mem.head _ | assumption | apply List.Mem.tail)) (by omega) (take_full (n := P2[k0].2.length) (size := 1) (by simp) (by omega))) (fun h => by simp [List.eq_nil_of_length_eq_zero h]) (ints_one _) (by unfold maxLen; omega) (by omega) (fun _ => (by repeat (first | exact Upd.head | apply Upd.tail))) (fun _ => putS rfl (by simp only [List.set]; rfl)) fun j6 => ?_
        simp only [List.nil_append, Nat.zero_add]
        refine au [1] ?_
        refine TK.newR rfl rfl rfl (n_buildSlice (l := [_]) rfl SlEl.h TyZ.h (by decide) (by decide) rfl) (fun _ => putS rfl (by simp only [List.set]; rfl)) fun j1 hj1 => ?_
        refine TK.appR rfl rfl rfl (a_app rfl ApOf.h rfl (by repeat (first | exact List.Mem.head _ | assumption | apply List.Mem.tail)) (by simp <;> omega) rfl (src_row (ln := [_]) (by repeat (first | exact List.Mem.head _ | assumption | apply List.Mem.tail)) (by decide) (by simp) rfl) (by omega) rfl (by unfold maxLen; omega) (by omega)) (fun _ => (by repeat (first | exact Upd.head | apply Upd.tail))) (fun _ => putS rfl (by simp only [List.set]; rfl)) fun j3 => ?_
        refine TK.freezeR 37 rfl (by repeat (first | exact Upd.head | apply Upd.tail)) rfl ?_
        refine au [] ?_
        refine TK.newR rfl rfl rfl (n_buildSlice (l := [_]) rfl SlEl.h TyZ.h (by decide) (by decide) rfl) (fun _ => putS rfl (by simp only [List.set]; rfl)) fun j2 hj2 => ?_
        refine TK.appR rfl rfl rfl (a_app rfl ApOf.h rfl (by repeat (first | exact List.Mem.head _ | assumption | apply List.Mem.tail)) (by simp [refsL]) rfl (src_row (ln := [_]) (by repeat (first | exact List.Mem.head _ | assumption | apply List.Mem.tail)) (by decide) (by simp) rfl) (by omega) rfl (by unfold maxLen; omega) (by omega)) (fun _ => (by repeat (first | exact Upd.head | apply Upd.tail))) (fun _ => putS rfl (by simp only [List.set]; rfl)) fun j4 => ?_
        refine au [2, 3, 14, 5, 1, 24, 2, 3] ?_
        refine TK.maskL [0, 1, 5, 6, 7] ?_
        refine TK.kp (((j4, _) :: (j3, _) :: objsL P2)) ?_
        refine TK.perm (K' := (j4, .row (refsL P2 ++ [.sl j3 0 (P2[k0].2.length + 1)]) 28 1) :: (objsL P2 ++ [(j3, .cells (P2[k0].2.map intA ++ [intA i]) 3 false)])) (List.Perm.cons _ (List.perm_append_singleton (j3, _) (objsL P2)).symm) ?_
        exact hnext2 _ _ _ (by omega) ⟨q + 1, j4, P2 ++ [(j3, P2[k0].2 ++ [(i : Int)])], rfl, by omega, by rw [takeR_succ _ (by omega), moreM_app, List.map_append, hP2, List.append_assoc, moreM_T (by rw [← hx2]; exact decide_eq_true hc2), hx2]; rfl, by rw [List.length_append, show ((P.length : Int) - 1 - (q + 1 : Nat)) = (P.length : Int) - 1 - q - 1 by omega]; rfl, by simp [refsL, objsL]⟩
      simp only [decide_eq_false_iff_not] at hc2
      refine au [12, 14, 5, 1, 24, 2, 3] ?_
      refine TK.maskL [0, 1, 5, 6, 7] ?_
      refine TK.kp (((j2, _) :: objsL P2)) ?_
      exact hnext2 _ _ _ (by omega) ⟨q + 1, j2, P2, rfl, by omega, by rw [takeR_succ _ (by omega), moreM_app, hP2, moreM_F (by rw [← hx2]; exact decide_eq_false hc2), List.append_nil], by rw [show ((P.length : Int) - 1 - (q + 1 : Nat)) = (P.length : Int) - 1 - q - 1 by omega]; rfl, rfl⟩
    simp only [decide_eq_false_iff_not] at hc1
    obtain rfl : q = P.length := by omega
    have hP2 : P2.map (·.2) = setsM most (i + 1) := by rw [hP2, ← hsl, ← List.length_reverse, List.take_length]; rfl
    refine au [16, 14, 5, 1, 23, 2, 3] ?_
    refine TK.maskL [0, 1, 5, 6] ?_
    refine TK.kp (((j2, _) :: objsL P2)) ?_
    exact hnext _ _ _ (by omega) ⟨i + 1, j2, P2, rfl, by omega, hP2, rfl, rfl⟩
  simp only [decide_eq_false_iff_not] at hc0
  obtain rfl : (i : Int) = below := by omega
  rw [Int.toNat_natCast] at *
  refine au [16, 4, 5, 1, 2, 3] ?_
  refine TK.rt hret (((j, _) :: objsL P)) ?_
  exact ⟨_, _, rfl, hP, rfl⟩
end Go.Vel
end
section
set_option linter.all false
namespace Go.Vel
open Go Go.Conc Go.Proofs

section
variable {P : Program} {gm : Nat → Option Nat} {T : Goroutine → Hp → Prop}
theorem Kstep.permR {K K' K2 : KV} {A A' : List AObj} (h : Kstep K A K' A') (hp : K'.Perm K2) : Kstep K A K2 A' :=
  ⟨h.view.sub fun x hx => hp.symm.subset hx, (keys_perm hp).nodup_iff.1 h.nd, fun i hi => h.own i ((keys_perm hp).symm.subset hi), h.kept, h.len⟩
theorem Kstep.permL {K K' K2 : KV} {A A' : List AObj} (h : Kstep K A K' A') (hp : K.Perm K2) : Kstep K2 A K' A' :=
  ⟨h.view, h.nd, fun i hi => (h.own i hi).imp (fun h => (keys_perm hp).subset h) id, fun j hj hn => h.kept j hj fun hm => hn ((keys_perm hp).subset hm), h.len⟩
/-- A contract that changes no object, with more objects beside. -/
theorem CallK.frameP {g : FuncId} {args : List AV} {K Kb R : KV} {Q : AV → Prop} (h : CallK P T gm g args K (fun r K' => Q r ∧ K' = K)) (hp : Kb.Perm (K ++ R)) : CallK P T gm g args Kb (fun r K' => Q r ∧ K' = Kb) := by
  intro A hv hn
  have hv2 : View (K ++ R) A := hv.sub fun x hx => hp.symm.subset hx
  have hn2 := (keys_perm hp).nodup_iff.1 hn
  have hn3 := hn2
  rw [keys_app] at hn3
  refine (h A (hv2.sub fun x hx => List.mem_append_left _ hx) (List.nodup_append.1 hn3).1).mono ?_
  rintro r A' ⟨K', hk, hq, rfl⟩
  refine ⟨Kb, ?_, hq, rfl⟩
  have hs : Split (K' ++ R) K' R := by
    have key : ∀ (K : KV), Split (K ++ R) K R := fun K => by
      induction K with
      | nil => exact .none _
      | cons x K ih => exact .left ih
    exact key K'
  exact ((hk.frame hs hv2 hn2).permR hp.symm).permL hp.symm
end
theorem high_of {b : Bk} (h : checkM b = 0) : 0 ≤ b.high := by
  unfold checkM at h
  split at h
  · rename_i h1; rw [h] at h1; cases h1
  · rename_i h1
    obtain ⟨q1, q2, q3, q4, q5, q6, q7⟩ := numbers_range (b := b) (by simpa using h1)
    omega
theorem setsM_mem {most : Int} : ∀ n, ∀ l ∈ setsM most n, ∀ x ∈ l, 0 ≤ x ∧ x < n
  | 0, l, hl, x, hx => by rw [List.mem_singleton.1 hl] at hx; cases hx
  | n + 1, l, hl, x, hx => by
    rcases List.mem_append.1 hl with hl | hl
    · have := setsM_mem n l hl x hx; omega
    · obtain ⟨y, hy, rfl⟩ := List.mem_map.1 hl
      rcases List.mem_append.1 hx with hx | hx
      · have := setsM_mem n y (List.mem_reverse.1 (List.mem_filter.1 hy).1) x hx; omega
      · rw [List.mem_singleton.1 hx]; omega
def setsB (b : Bk) : List (List Int) := setsM b.high b.steps.toNat
def statesR (b : Bk) : List (List Int) := (setsB b).filter (canM b)
theorem setsB_ok {b : Bk} (hb : BkOk b) (hh : 0 ≤ b.high) : ∀ l ∈ setsB b, SmOk b l := fun l hl => by
  refine ⟨?_, fun x hx => ?_⟩
  · have := setsM_short hh _ l hl; have := hb.high; omega
  · have := setsM_mem _ l hl x hx; have := hb.steps; omega
theorem setsB_len {b : Bk} (hb : BkOk b) : (setsB b).length ≤ 65536 := Nat.le_trans (setsM_len _ _) (pow_le16 (by have := hb.steps; omega))
theorem filt_T {α : Type} {p : α → Bool} {A : List α} {i : Nat} (hi : i < A.length) (h : p A[i] = true) : (A.take (i + 1)).filter p = (A.take i).filter p ++ [A[i]] := by
  rw [List.take_add_one, List.getElem?_eq_getElem hi, List.filter_append]; simp [h]
theorem filt_F {α : Type} {p : α → Bool} {A : List α} {i : Nat} (hi : i < A.length) (h : p A[i] = false) : (A.take (i + 1)).filter p = (A.take i).filter p := by
  rw [List.take_add_one, List.getElem?_eq_getElem hi, List.filter_append]; simp [h]
/-- One list of many is handed over. -/
theorem objs_split {Q : List (Nat × List Int)} {x : Nat × List Int} (hx : x ∈ Q) : ∃ R, Rem (objsL Q) (x.1, .cells (x.2.map intA) 3 false) R := rem_of_mem (objsL_mem hx)
theorem perm3 {a b x : Nat × AObj} {L R : KV} (h : Rem L x R) : (a :: b :: L).Perm ([a, b, x] ++ R) := .cons _ (.cons _ h.perm)
theorem perm2 {a x : Nat × AObj} {L R : KV} (h : Rem L x R) : (a :: L).Perm ([a, x] ++ R) := .cons _ h.perm
theorem perm1 {x : Nat × AObj} {L R : KV} (h : Rem L x R) : L.Perm ([x] ++ R) := h.perm

def knownBar (b : Bk) (t : Bool) : Int := if checkM b = 0 then if t = false then 6 else if statesR b = [] then 9 else 0 else checkM b
set_option maxRecDepth 20000 in
set_option maxHeartbeats 4000000 in
theorem statesR_ok {main : Bool} {T : Goroutine → Hp → Prop} (hT : Shut Tryz.prog main T) {gm : Nat → Option Nat} {b : Bk} {s e : Nat} (hse : s ≠ e) (hb : BkOk b) (hh : 0 ≤ b.high) :
    CallK Tryz.prog T gm 63 [.agg (bookC b s e)] [(s, saysO b), (e, seenO b)] (fun r K' => ∃ (j : Nat) (P Q : List (Nat × List Int)), r = .row j P.length ∧ P.map (·.2) = statesR b ∧ (∀ x ∈ P, x ∈ Q) ∧ K' = (j, .row (refsL P) 28 1) :: (s, saysO b) :: (e, seenO b) :: objsL Q) := by
  refine callK_in 32 hT Tryz.func63 fun Y hret => ?_
  refine au [] ?_
  have hst := hb.steps
  have hhi := hb.high
  refine au [4, 5, 21] ?_
  intro jb hjb
  refine au [2, 3, 4, 5, 7, 9, 7, 7, 9] ?_
  refine TK.cl rfl rfl rfl rfl (sets_ok hT (below := b.steps) (most := b.high) ⟨by omega, by omega⟩ ⟨hh, by omega⟩) ?_
  rintro r1 K2 ⟨ja, Q, rfl, hQ, rfl⟩
  refine au [] ?_
  refine TK.perm (List.Perm.cons _ List.perm_append_comm) ?_
  refine au [2, 3, 4, 5, 2, 3, 4, 4] ?_
  refine TK.virt 4 28 1 rfl fun jo0 hjo0 => ?_
  refine au [5, 2, 3, 13] ?_
  refine TK.maskL [1, 3, 4, 5] ?_
  refine TK.kp ((jo0, _) :: (ja, _) :: (jb, _) :: (s, _) :: (e, _) :: objsL Q) ?_
  have hQ : Q.map (·.2) = setsB b := hQ
  have hQl : Q.length = (setsB b).length := by rw [← hQ, List.length_map]
  have hQm := setsB_len hb
  refine TK.loopN (fun n env K => ∃ (i jo : Nat) (P : List (Nat × List Int)), n = Q.length - i ∧ i ≤ Q.length ∧ P.map (·.2) = ((setsB b).take i).filter (canM b) ∧ (∀ x ∈ P, x ∈ Q) ∧ env = slotsA 32 [(1, .ptr jb 0), (3, .row ja Q.length), (4, .row jo P.length), (5, intA i)] ∧ K = (jo, .row (refsL P) 28 1) :: (ja, .row (refsL Q) 28 1) :: (jb, .cells (bookC b s e) 27 true) :: (s, saysO b) :: (e, seenO b) :: objsL Q) Q.length ⟨0, jo0, [], rfl, Nat.zero_le _, rfl, (fun _ h => by cases h), rfl, rfl⟩ fun n env K hI hnext => ?_
  obtain ⟨i, jo, P, rfl, hi, hP, hPQ, rfl, rfl⟩ := hI
  have hPl : P.length ≤ 65536 := by
    have h1 := congrArg List.length hP
    have h2 := List.length_filter_le (canM b) ((setsB b).take i)
    rw [List.length_take] at h2
    rw [List.length_map] at h1
    omega
  refine au [4, 4, 5, 1, 1, 28, 6, 3, 20] ?_
  refine ⟨fun hc0 => ?_, fun hc0 => ?_⟩
  · simp only [decide_eq_true_eq] at hc0
    have hil : i < Q.length := by omega
    have hxm : Q[i] ∈ Q := List.getElem_mem hil
    have hmx := objsL_mem hxm
    have hx2 : Q[i].2 = (setsB b)[i] := map_snd_get (B := []) (by rw [hQ, List.append_nil]) (by omega) hil
    have hS : SmOk b Q[i].2 := setsB_ok hb hh _ (by rw [hx2]; exact List.getElem_mem _)
    obtain ⟨Rq, hRq⟩ := objs_split hxm
    refine au [12, 4, 13, 4] ?_
    refine TK.draw [0, 1, 2, 3, 4, 5] [0, 1, 2, 3, 4, 5] (by kernel_rfl) (by kernel_rfl) ?_
    refine TD.y [1] rfl (hq := q_load rfl rfl TySz.h (List.Mem.head _) rfl) (h := ?_)
    refine TD.z [3] rfl (q_move rfl rfl) ?_
    refine TD.z [5] rfl (q_move rfl rfl) ?_
    refine TD.y [19, 20] rfl (hq := q_indexRow rfl rfl rfl SlEl.h (List.Mem.head _) (by omega) (by omega)) (h := ?_)
    refine TD.y [21] rfl (hq := q_load1 rfl rfl TySz.h (List.Mem.head _) (refs_at hil rfl)) (h := ?_)
    refine TD.cl (pend' := [⟨3, [19, 20], [(_, _)]⟩, ⟨2, [5], []⟩, ⟨1, [3], []⟩]) [18, 22] rfl rfl rfl rfl rfl ((stateR_ok hT hse hb hS (ints_at _ _ _) (by have := hS.len; omega)).frameP (perm3 hRq)) (fun r4 K5 h6 => ⟨?_, ?_⟩)
    · rcases h6 with ⟨rfl, rfl⟩
      all_goals simp
    obtain ⟨rfl, rfl⟩ := h6
    try simp only [List.cons_append, List.nil_append]
    refine TD.norm (by simp only [List.set]; rfl) ?_
    refine TD.perm (List.perm_append_comm (l₁ := (s, _) :: (e, _) :: objsL Q)) ?_
    simp only [List.cons_append, List.nil_append]
    refine TD.fin ?_
    refine au [20] ?_
    refine ⟨fun hc1 => ?_, fun hc1 => ?_⟩
    · refine au [5, 1, 1, 1, 37] ?_
      refine TK.a rfl (q_load1 rfl rfl TySz.h (by repeat (first | exact List.Mem.head _ | assumption | apply List.Mem.tail)) (refs_at hil rfl)) ?_
      refine TK.newR rfl rfl rfl (n_buildSlice (l := [_]) rfl SlEl.h TyZ.h (by decide) (by decide) rfl) (fun _ => putS rfl (by simp only [List.set]; rfl)) fun j7 hj7 => ?_
      refine TK.appR rfl rfl rfl (a_app rfl ApOf.h rfl (by repeat (first | exact List.Mem.head _ | assumption | apply List.Mem.tail)) (by simp [refsL]) rfl (src_row (ln := [_]) (by repeat (first | exact List.Mem.head _ | assumption | apply List.Mem.tail)) (by decide) (by simp) rfl) (by omega) rfl (by unfold maxLen; omega) (by omega)) (fun _ => (by repeat (first | exact Upd.head | apply Upd.tail))) (fun _ => putS rfl (by simp only [List.set]; rfl)) fun j2 => ?_
      refine au [2, 3, 14, 5, 1, 23, 2, 3] ?_
      refine TK.maskL [1, 3, 4, 5] ?_
      refine TK.kp (((j2, _) :: (ja, _) :: (jb, _) :: (s, _) :: (e, _) :: objsL Q)) ?_
      exact hnext _ _ _ (by omega) ⟨i + 1, j2, P ++ [Q[i]], rfl, by omega, by rw [filt_T (by omega) (by rw [← hx2]; exact hc1), List.map_append, hP, ← hx2]; rfl, (fun x hx => (List.mem_append.1 hx).elim (hPQ x) fun h => by rw [List.mem_singleton.1 h]; exact hxm), by rw [List.length_append]; rfl, by rw [refsL_app]; rfl⟩
    refine au [12, 14, 5, 1, 23, 2, 3] ?_
    refine TK.maskL [1, 3, 4, 5] ?_
    refine TK.kp (((jo, _) :: (ja, _) :: (jb, _) :: (s, _) :: (e, _) :: objsL Q)) ?_
    exact hnext _ _ _ (by omega) ⟨i + 1, jo, P, rfl, by omega, by rw [filt_F (by omega) (by rw [← hx2]; exact hc1), hP], hPQ, rfl, rfl⟩
  simp only [decide_eq_false_iff_not] at hc0
  obtain rfl : i = Q.length := by omega
  have hP : P.map (·.2) = statesR b := by rw [hP, hQl, List.take_length]; rfl
  refine au [16, 4, 5, 1, 2, 3] ?_
  refine TK.rt hret (((jo, _) :: (s, _) :: (e, _) :: objsL Q)) ?_
  exact ⟨_, _, Q, rfl, hP, hPQ, rfl⟩

set_option maxRecDepth 20000 in
set_option maxHeartbeats 2000000 in
theorem knownR_ok {main : Bool} {T : Goroutine → Hp → Prop} (hT : Shut Tryz.prog main T) {gm : Nat → Option Nat} {b : Bk} {s e : Nat} {t : Bool} (hse : s ≠ e) (hn : ∀ x ∈ b.seekers, x.name.size ≤ 1000) (hl : b.seen.length ≤ 1000) (hl2 : b.seekers.length ≤ 1000) :
    CallK Tryz.prog T gm 68 [.agg (bookC b s e), boolA t] [(s, saysO b), (e, seenO b)] (fun r K' => ∃ bar : Int, bar = knownBar b t ∧ ((bar ≠ 0 ∧ r = .tup [.v (.slice none 0 0), intA bar] ∧ K' = [(s, saysO b), (e, seenO b)]) ∨ (bar = 0 ∧ ∃ (j : Nat) (P Q : List (Nat × List Int)), r = .tup [.row j P.length, intA 0] ∧ P.map (·.2) = statesR b ∧ (∀ x ∈ P, x ∈ Q) ∧ K' = (j, .row (refsL P) 28 1) :: (s, saysO b) :: (e, seenO b) :: objsL Q))) := by
  refine callK_in 21 hT Tryz.func68 fun Y hret => ?_
  refine au [4, 5, 21] ?_
  intro jb hjb
  refine au [2, 2, 3, 4, 4, 5, 8] ?_
  refine TK.cl rfl rfl rfl rfl (checkR_ok hT hse hn hl hl2) ?_
  rintro r1 K2 ⟨rfl, rfl⟩
  refine au [2, 3, 4, 5, 1, 6, 3, 20] ?_
  refine ⟨fun hc0 => ?_, fun hc0 => ?_⟩
  · refine au [4, 5, 1, 2, 2, 3] ?_
    refine TK.rt hret [(s, _), (e, _)] ?_
    have hk0 : checkM b ≠ 0 := by simpa using hc0
    have hk : knownBar b t = checkM b := by unfold knownBar; rw [if_neg hk0]
    exact ⟨_, hk.symm, .inl ⟨hk0, rfl, rfl⟩⟩
  have hck : checkM b = 0 := by simpa using hc0
  have hb := bkOk_of hck
  have hh := high_of hck
  refine au [12, 4, 4, 5, 1, 30, 3, 20] ?_
  refine ⟨fun hc1 => ?_, fun hc1 => ?_⟩
  · refine au [4, 5, 2, 2, 3] ?_
    refine TK.rt hret [(s, _), (e, _)] ?_
    have hk : knownBar b t = 6 := by unfold knownBar; rw [if_pos hck, if_pos (by simpa using hc1)]
    exact ⟨6, hk.symm, .inl ⟨by decide, rfl, rfl⟩⟩
  refine au [12, 4, 5, 8] ?_
  refine TK.cl rfl rfl rfl rfl (statesR_ok hT hse hb hh) ?_
  rintro r4 K5 ⟨j, P, Q, rfl, hP, hPQ, rfl⟩
  refine au [] ?_
  refine TK.perm (.cons _ (.cons _ (.cons _ List.perm_append_comm))) ?_
  refine au [2, 3, 4, 4, 5, 1, 28, 6, 3, 20] ?_
  refine ⟨fun hc2 => ?_, fun hc2 => ?_⟩
  · refine au [4, 5, 2, 2, 3] ?_
    refine TK.rt hret [(s, _), (e, _)] ?_
    have hk : knownBar b t = 9 := by
      unfold knownBar; rw [if_pos hck, if_neg (by simpa using hc1), if_pos]
      rw [← hP]; simp only [beq_iff_eq] at hc2; simpa using hc2
    exact ⟨9, hk.symm, .inl ⟨by decide, rfl, rfl⟩⟩
  refine au [12, 4, 5, 1, 2, 2, 3] ?_
  refine TK.rt hret (((j, _) :: (s, _) :: (e, _) :: objsL Q)) ?_
  have hk : knownBar b t = 0 := by
    unfold knownBar; rw [if_pos hck, if_neg (by simpa using hc1), if_neg]
    rw [← hP]; simp only [beq_eq_false_iff_ne] at hc2; intro h; exact hc2 (by simpa using h)
  exact ⟨0, hk.symm, .inr ⟨rfl, _, _, Q, rfl, hP, hPQ, rfl⟩⟩
end Go.Vel
end
section
set_option linter.all false
namespace Go.Vel
open Go Go.Conc Go.Proofs

/-! ### the states of the program, and of the specification -/
theorem loop_sub {b : Bk} : ∀ (rest S R : List Int), R ∈ loopM b S rest → ∃ T, T.Sublist rest ∧ T ≠ [] ∧ R = S ++ T
  | [], S, R, h => by cases h
  | n :: rest, S, R, h => by
    simp only [loopM] at h
    split at h
    · rcases List.mem_append.1 h with h | h
      · rcases List.mem_append.1 h with h | h
        · unfold ownM at h
          split at h
          · rw [List.mem_singleton.1 h]
            exact ⟨[n], .cons_cons _ (List.nil_sublist _), by simp, rfl⟩
          · cases h
        · obtain ⟨T, h1, _, rfl⟩ := loop_sub rest _ R h
          exact ⟨n :: T, .cons_cons _ h1, by simp, by simp⟩
      · obtain ⟨T, h1, h2, rfl⟩ := loop_sub rest _ R h
        exact ⟨T, .cons _ h1, h2, rfl⟩
    · cases h
theorem own_nodup (b : Bk) (S : List Int) : (ownM b S).Nodup := by
  unfold ownM
  split <;> simp
theorem loop_nodup {b : Bk} : ∀ (rest S : List Int), rest.Nodup → (loopM b S rest).Nodup
  | [], S, _ => by simp [loopM]
  | n :: rest, S, h => by
    have h2 := List.nodup_cons.1 h
    simp only [loopM]
    split
    · refine List.nodup_append.2 ⟨List.nodup_append.2 ⟨own_nodup _ _, loop_nodup rest _ h2.2, fun x hx y hy e => ?_⟩, loop_nodup rest _ h2.2, fun x hx y hy e => ?_⟩
      · subst e
        obtain ⟨T, _, hT, rfl⟩ := loop_sub _ _ _ hy
        unfold ownM at hx
        split at hx
        · have := List.mem_singleton.1 hx
          exact hT (by simpa using this)
        · cases hx
      · subst e
        obtain ⟨T, hT1, _, e2⟩ := loop_sub _ _ _ hy
        have hn : n ∈ T := by
          rcases List.mem_append.1 hx with hx | hx
          · unfold ownM at hx
            split at hx
            · have := List.mem_singleton.1 hx
              rw [e2] at this
              have := List.append_cancel_left this
              simp [this]
            · cases hx
          · obtain ⟨T', _, _, e3⟩ := loop_sub _ _ _ hx
            rw [e2, List.append_assoc] at e3
            have := List.append_cancel_left e3
            simp [this]
        exact h2.1 (hT1.subset hn)
    · simp
theorem restM_pair (b : Bk) (i : Nat) : (restM b i).Pairwise (· < ·) := by
  unfold restM
  rw [List.pairwise_map]
  exact (List.pairwise_lt_range' (s := i) (n := b.steps.toNat - i)).imp fun h => by omega
theorem allM_nodup (b : Bk) : (allM b).Nodup := by
  have hr : (restM b 0).Nodup := (restM_pair b 0).imp fun h e => by omega
  refine List.nodup_append.2 ⟨own_nodup _ _, loop_nodup _ _ hr, fun x hx y hy e => ?_⟩
  subst e
  obtain ⟨T, _, hT, rfl⟩ := loop_sub _ _ _ hy
  unfold ownM at hx
  split at hx
  · exact hT (by simpa using List.mem_singleton.1 hx)
  · cases hx
theorem allM_pair {b : Bk} {R : List Int} (h : R ∈ allM b) : R.Pairwise (· < ·) := by
  rcases List.mem_append.1 h with h | h
  · unfold ownM at h
    split at h
    · rw [List.mem_singleton.1 h]; exact .nil
    · cases h
  · obtain ⟨T, h1, _, rfl⟩ := loop_sub _ _ _ h
    exact (restM_pair b 0).sublist h1
theorem loop_high {b : Bk} : ∀ (rest S R : List Int), R ∈ loopM b S rest → (R.length : Int) ≤ b.high
  | [], S, R, h => by cases h
  | n :: rest, S, R, h => by
    simp only [loopM] at h
    split at h
    · rename_i hlt
      rcases List.mem_append.1 h with h | h
      · rcases List.mem_append.1 h with h | h
        · unfold ownM at h
          split at h
          · rw [List.mem_singleton.1 h, List.length_append]
            simp; omega
          · cases h
        · exact loop_high rest _ R h
      · exact loop_high rest _ R h
    · cases h
theorem memA {b : Bk} {xs : List Int} (hp : xs.Pairwise (· < ·)) (hr : ∀ x ∈ xs, 0 ≤ x ∧ x < b.steps) (hs : seenM b xs = true) : xs ∈ allM b := by
  unfold allM
  have hh : ((xs.length : Int)) ≤ b.high := by
    unfold seenM at hs
    simp only [Bool.and_eq_true, decide_eq_true_eq] at hs
    exact hs.1.2
  by_cases h0 : xs = []
  · subst h0
    refine List.mem_append.2 (.inl ?_)
    unfold ownM
    rw [if_pos hs]
    exact List.mem_singleton.2 rfl
  · exact List.mem_append.2 (.inr (mem_loopM (restM b 0) [] xs (sub_rest _ 0 xs rfl hp fun x hx => by have := hr x hx; omega) h0 hh hs))

theorem sets_pair {most : Int} : ∀ n, ∀ l ∈ setsM most n, l.Pairwise (· < ·)
  | 0, l, hl => by rw [List.mem_singleton.1 hl]; exact .nil
  | n + 1, l, hl => by
    rcases List.mem_append.1 hl with hl | hl
    · exact sets_pair n l hl
    · obtain ⟨y, hy, rfl⟩ := List.mem_map.1 hl
      have hy' := List.mem_reverse.1 (List.mem_filter.1 hy).1
      refine List.pairwise_append.2 ⟨sets_pair n y hy', by simp, fun a ha c hc => ?_⟩
      rw [List.mem_singleton.1 hc]
      exact (setsM_mem n y hy' a ha).2
theorem sets_mem {most : Int} : ∀ (n : Nat) (l : List Int), l.Pairwise (· < ·) → (∀ x ∈ l, 0 ≤ x ∧ x < n) → (l.length : Int) ≤ most → l ∈ setsM most n
  | 0, l, _, hr, _ => by
    cases l with
    | nil => exact List.mem_singleton.2 rfl
    | cons x l => have := hr x (by simp); omega
  | n + 1, l, hp, hr, hl => by
    rcases List.eq_nil_or_concat l with rfl | ⟨y, a, rfl⟩
    · exact List.mem_append.2 (.inl (sets_mem n [] .nil (fun x hx => by cases hx) hl))
    · rw [List.concat_eq_append] at hp hr hl ⊢
      have hp2 := List.pairwise_append.1 hp
      have ha := hr a (by simp)
      have hlt : ∀ x ∈ y, x < a := fun x hx => hp2.2.2 x hx a (by simp)
      by_cases e : a = n
      · subst e
        refine List.mem_append.2 (.inr (List.mem_map.2 ⟨y, List.mem_filter.2 ⟨List.mem_reverse.2 (sets_mem n y hp2.1 (fun x hx => ?_) ?_), ?_⟩, rfl⟩))
        · have := hlt x hx; have := hr x (by simp [hx]); omega
        · simp at hl; omega
        · unfold shortB; simp at hl ⊢; omega
      · refine List.mem_append.2 (.inl (sets_mem n _ hp (fun x hx => ?_) hl))
        have h1 := hr x hx
        rcases List.mem_append.1 hx with hx | hx
        · have := hlt x hx; omega
        · rw [List.mem_singleton.1 hx] at h1 ⊢; omega
theorem sets_nodup {most : Int} : ∀ n, (setsM most n).Nodup
  | 0 => by simp [setsM]
  | n + 1 => by
    have ih := sets_nodup (most := most) n
    refine List.nodup_append.2 ⟨ih, ?_, fun x hx y hy e => ?_⟩
    · unfold moreM List.Nodup
      rw [List.pairwise_map]
      refine List.Pairwise.filter _ ?_
      exact (List.pairwise_reverse.2 (ih.imp fun {a c} h => (fun e => h e.symm : c ≠ a))).imp fun h e => h (List.append_cancel_right e)
    · subst e
      obtain ⟨y, _, rfl⟩ := List.mem_map.1 hy
      have := setsM_mem n _ hx n (by simp)
      omega
theorem can_seen {b : Bk} {S : List Int} (h : canM b S = true) : seenM b S = true := by
  unfold canM at h
  simp only [Bool.and_eq_true] at h
  exact h.2
/-- THE STATES ARE THE SAME, IN ANOTHER ORDER. -/
theorem states_perm {b : Bk} (hb : BkOk b) : (statesM b).Perm (statesR b) := by
  unfold statesM statesR
  refine (List.perm_ext_iff_of_nodup (List.Pairwise.filter _ (allM_nodup b)) (List.Pairwise.filter _ (sets_nodup _))).2 fun S => ?_
  rw [List.mem_filter, List.mem_filter]
  constructor
  · rintro ⟨h1, h2⟩
    refine ⟨sets_mem _ S (allM_pair h1) (fun x hx => ?_) ?_, h2⟩
    · have := (allM_ok hb S h1).mem x hx; omega
    · have := can_seen h2
      unfold seenM at this
      simp only [Bool.and_eq_true, decide_eq_true_eq] at this
      exact this.1.2
  · rintro ⟨h1, h2⟩
    refine ⟨memA (sets_pair _ S h1) (fun x hx => ?_) (can_seen h2), h2⟩
    have := setsM_mem _ S h1 x hx
    have := hb.steps
    omega
theorem knownBar_eq (b : Bk) (t : Bool) : knownBar b t = askM b t := by
  unfold knownBar askM
  by_cases h : checkM b = 0
  · have h' : ¬ checkM b ≠ 0 := fun h2 => h2 h
    simp only [h, if_true, h', if_false]
    have hp := states_perm (bkOk_of h)
    have he : (statesR b = []) ↔ (statesM b = []) := ⟨fun e => by rw [e] at hp; exact List.perm_nil.1 hp, fun e => by rw [e] at hp; exact List.nil_perm.1 hp⟩
    by_cases h0 : statesM b = []
    · simp [h0, he.2 h0]
    · have h1 : ¬ statesR b = [] := fun e => h0 (he.1 e)
      simp [h0, h1]
  · simp only [h, if_false, ne_eq, not_false_eq_true, if_true]
end Go.Vel
end
section
set_option linter.all false
namespace Go.Vel
open Go Go.Conc Go.Proofs
/-! ### the specification's Likely and Clash are the program's -/
theorem own_seen {b : Bk} {S R : List Int} (h : R ∈ ownM b S) : seenM b R = true := by
  unfold ownM at h
  split at h
  · rename_i hc; rw [List.mem_singleton.1 h]; exact hc
  · cases h
theorem loop_seen {b : Bk} : ∀ (rest S R : List Int), R ∈ loopM b S rest → seenM b R = true
  | [], S, R, h => by cases h
  | n :: rest, S, R, h => by
    simp only [loopM] at h
    split at h
    · rcases List.mem_append.1 h with h | h
      · rcases List.mem_append.1 h with h | h
        · exact own_seen h
        · exact loop_seen rest _ R h
      · exact loop_seen rest _ R h
    · cases h
theorem all_seen {b : Bk} {R : List Int} (h : R ∈ allM b) : seenM b R = true := by
  rcases List.mem_append.1 h with h | h
  · exact own_seen h
  · exact loop_seen _ _ _ h
theorem all_sets {b : Bk} (hb : BkOk b) (S : List Int) : S ∈ allM b ↔ S ∈ setsB b ∧ seenM b S = true := by
  constructor
  · intro h1
    refine ⟨sets_mem _ S (allM_pair h1) (fun x hx => ?_) ?_, all_seen h1⟩
    · have := (allM_ok hb S h1).mem x hx; omega
    · have := all_seen h1
      unfold seenM at this
      simp only [Bool.and_eq_true, decide_eq_true_eq] at this
      exact this.1.2
  · rintro ⟨h1, h2⟩
    refine memA (sets_pair _ S h1) (fun x hx => ?_) h2
    have := setsM_mem _ S h1 x hx
    have := hb.steps
    omega
def goodS (b : Bk) (S : List Int) : Bool := seenM b S && !badM b S b.seekers.length
def guessS (b : Bk) (pre : List (List Int)) : List (List Int × Int) := (pre.filter (goodS b)).map fun S => (S, wrongM b S)
theorem guessS_T {b : Bk} {A : List (List Int)} {i : Nat} (hi : i < A.length) (h : goodS b A[i] = true) : guessS b (A.take (i + 1)) = guessS b (A.take i) ++ [(A[i], wrongM b A[i])] := by
  unfold guessS; rw [filt_T hi h, List.map_append]; rfl
theorem guessS_F {b : Bk} {A : List (List Int)} {i : Nat} (hi : i < A.length) (h : goodS b A[i] = false) : guessS b (A.take (i + 1)) = guessS b (A.take i) := by
  unfold guessS; rw [filt_F hi h]
theorem guess_same {b : Bk} (hb : BkOk b) (y : List Int × Int) : y ∈ guessS b (setsB b) ↔ y ∈ guessM b (allM b) := by
  unfold guessS guessM goodS
  simp only [List.mem_map, List.mem_filter, Bool.and_eq_true, all_sets hb]
  constructor
  · rintro ⟨S, ⟨h1, h2, h3⟩, rfl⟩; exact ⟨S, ⟨⟨h1, h2⟩, h3⟩, rfl⟩
  · rintro ⟨S, ⟨⟨h1, h2⟩, h3⟩, rfl⟩; exact ⟨S, ⟨h1, h2, h3⟩, rfl⟩
theorem likely_eq {b : Bk} (hb : BkOk b) : minL ltGuess ([], 0) (guessS b (setsB b)) = likelyM b :=
  tot_guess.minL_same (guess_same hb)
theorem guess_nil {b : Bk} (hb : BkOk b) : guessS b (setsB b) = [] ↔ guessM b (allM b) = [] := by
  rw [List.eq_nil_iff_forall_not_mem, List.eq_nil_iff_forall_not_mem]
  exact ⟨fun h y hy => h y ((guess_same hb y).2 hy), fun h y hy => h y ((guess_same hb y).1 hy)⟩
/-! Clash -/
def allS (b : Bk) (S l : List Int) : Bool := l.all fun k => rightM b S k.toNat
def togS (b : Bk) (l : List Int) : Bool := (setsB b).any fun S => seenM b S && allS b S l
theorem allR_bits (b : Bk) (S : List Int) (bits n : Nat) : allR b S bits n = allS b S (bitsM n bits) := by
  unfold allR allS bitsM
  rw [List.all_map, List.all_filter]
  rfl
theorem tog_eq {b : Bk} (hb : BkOk b) (bits : Nat) : togM b bits = togS b (bitsM b.seekers.length bits) := by
  rw [Bool.eq_iff_iff]
  unfold togM togS
  simp only [List.any_eq_true, Bool.and_eq_true, allR_bits, all_sets hb]
  constructor
  · rintro ⟨S, ⟨h1, h2⟩, h3⟩; exact ⟨S, h1, h2, h3⟩
  · rintro ⟨S, h1, h2, h3⟩; exact ⟨S, ⟨h1, h2⟩, h3⟩
def uptoM (n : Nat) : List Int := (List.range n).map fun k : Nat => (k : Int)
theorem bitB_test (bits i : Nat) : bitB bits i = bits.testBit i := by
  unfold bitB
  rw [Nat.testBit_eq_decide_div_mod_eq, Bool.eq_iff_iff, beq_iff_eq, decide_eq_true_eq]
  omega
theorem bits_all (n : Nat) : bitsM n (2 ^ n - 1) = uptoM n := by
  unfold bitsM uptoM
  rw [List.filter_eq_self.2 fun i hi => ?_]
  rw [bitB_test, Nat.testBit_two_pow_sub_one]
  exact decide_eq_true (List.mem_range.1 hi)
theorem bits_up {n c : Nat} (h : c < 2 ^ n) : bitsM n (2 ^ n + c) = bitsM n c := by
  unfold bitsM
  congr 1
  refine List.filter_congr fun i hi => ?_
  rw [bitB_test, bitB_test, Nat.testBit_two_pow_add_gt (List.mem_range.1 hi)]
theorem bits_get : ∀ (n : Nat) (l : List Int), l.Pairwise (· < ·) → (∀ x ∈ l, 0 ≤ x ∧ x < n) → ∃ c, c < 2 ^ n ∧ bitsM n c = l
  | 0, l, _, hr => by
    cases l with
    | nil => exact ⟨0, by decide, rfl⟩
    | cons x l => have := hr x (by simp); omega
  | n + 1, l, hp, hr => by
    have hpw : 2 ^ (n + 1) = 2 ^ n + 2 ^ n := by rw [Nat.pow_succ]; omega
    have low : (∀ x ∈ l, x < (n : Int)) → ∃ c, c < 2 ^ (n + 1) ∧ bitsM (n + 1) c = l := fun h => by
      obtain ⟨c, h1, h2⟩ := bits_get n l hp fun x hx => ⟨(hr x hx).1, h x hx⟩
      refine ⟨c, by omega, ?_⟩
      rw [bitsM_F, h2]
      rw [bitB_test]
      exact Nat.testBit_lt_two_pow h1
    rcases List.eq_nil_or_concat l with rfl | ⟨y, a, rfl⟩
    · exact low fun x hx => by cases hx
    · rw [List.concat_eq_append] at hp hr low ⊢
      have hp2 := List.pairwise_append.1 hp
      have ha := hr a (by simp)
      have hlt : ∀ x ∈ y, x < a := fun x hx => hp2.2.2 x hx a (by simp)
      by_cases e : a = n
      · subst e
        obtain ⟨c, h1, h2⟩ := bits_get n y hp2.1 fun x hx => ⟨(hr x (by simp [hx])).1, hlt x hx⟩
        refine ⟨2 ^ n + c, by omega, ?_⟩
        rw [bitsM_T, bits_up h1, h2]
        rw [bitB_test, Nat.testBit_two_pow_add_eq, Nat.testBit_lt_two_pow h1]; rfl
      · refine low fun x hx => ?_
        have h1 := hr x hx
        rcases List.mem_append.1 hx with hx | hx
        · have := hlt x hx; omega
        · rw [List.mem_singleton.1 hx] at h1 ⊢; omega
theorem bits_sets {n c : Nat} : bitsM n c ∈ setsM n n := by
  have hp : (uptoM n).Pairwise (· < ·) := by
    unfold uptoM
    rw [List.pairwise_map]
    exact List.pairwise_lt_range.imp fun h => by omega
  have hs : (bitsM n c).Sublist (uptoM n) := List.Sublist.map _ List.filter_sublist
  refine sets_mem n _ (hp.sublist hs) (fun x hx => ?_) (by have := bitsM_len n c; omega)
  obtain ⟨k, hk, rfl⟩ := List.mem_map.1 (hs.subset hx)
  have := List.mem_range.1 hk
  omega
def oddS (b : Bk) (pre : List (List Int)) : List (List Int) := pre.filter fun l => !togS b l
theorem odd_same {b : Bk} (hb : BkOk b) (h0 : togS b (uptoM b.seekers.length) = false) (y : List Int) : y ∈ uptoM b.seekers.length :: oddS b (setsM b.seekers.length b.seekers.length) ↔ y ∈ oddM b (everyM b + 1) := by
  have hpw : everyM b + 1 = 2 ^ b.seekers.length := by unfold everyM; have := Nat.one_le_two_pow (n := b.seekers.length); omega
  unfold oddM oddS
  rw [hpw]
  simp only [List.mem_cons, List.mem_filter, List.mem_map, List.mem_range, tog_eq hb]
  constructor
  · rintro (rfl | ⟨h1, h2⟩)
    · exact ⟨2 ^ b.seekers.length - 1, ⟨by have := Nat.one_le_two_pow (n := b.seekers.length); omega, by rw [bits_all, h0]; rfl⟩, bits_all _⟩
    · obtain ⟨c, h3, h4⟩ := bits_get _ y (sets_pair _ y h1) (setsM_mem _ y h1)
      exact ⟨c, ⟨h3, by rw [h4]; exact h2⟩, h4⟩
  · rintro ⟨c, ⟨_, h2⟩, rfl⟩
    exact .inr ⟨bits_sets, h2⟩
theorem clash_eq {b : Bk} (hb : BkOk b) (h0 : togS b (uptoM b.seekers.length) = false) : firstL ltLists (uptoM b.seekers.length) (oddS b (setsM b.seekers.length b.seekers.length)) = clashM b := by
  have := tot_lists.minL_same (d := []) (odd_same hb h0)
  exact this
theorem tog_every {b : Bk} (hb : BkOk b) : togM b (everyM b) = togS b (uptoM b.seekers.length) := by
  rw [tog_eq hb, show everyM b = 2 ^ b.seekers.length - 1 from rfl, bits_all]
end Go.Vel
end
section
set_option linter.all false
namespace Go.Vel
open Go Go.Conc Go.Proofs

/-! ### the specification's sums over states -/
def oftR (Ls : List (List Int)) (n : Int) : Int := ((Ls.filter fun S => decide (n ∈ S)).length : Nat)
theorem oftR_T {Ls : List (List Int)} {n : Int} {i : Nat} (h : i < Ls.length) (hr : decide (n ∈ Ls[i]) = true) : oftR (Ls.take (i + 1)) n = oftR (Ls.take i) n + 1 := by
  unfold oftR
  rw [List.take_add_one, List.getElem?_eq_getElem h, List.filter_append, List.length_append]; simp [of_decide_eq_true hr]
theorem oftR_F {Ls : List (List Int)} {n : Int} {i : Nat} (h : i < Ls.length) (hr : decide (n ∈ Ls[i]) = false) : oftR (Ls.take (i + 1)) n = oftR (Ls.take i) n := by
  unfold oftR
  rw [List.take_add_one, List.getElem?_eq_getElem h, List.filter_append, List.length_append]; simp [of_decide_eq_false hr]
theorem oftR_le (Ls : List (List Int)) (k : Int) : 0 ≤ oftR Ls k ∧ oftR Ls k ≤ Ls.length := ⟨Int.natCast_nonneg _, Int.ofNat_le.2 (List.length_filter_le _ _)⟩
/-- A list of lists in memory: where its parts lie, the lists, and their objects. -/
structure LsIn (P Q : List (Nat × List Int)) (Ls : List (List Int)) : Prop where
  eq : P.map (·.2) = Ls
  mem : ∀ x ∈ P, x ∈ Q
theorem LsIn.len {P Q : List (Nat × List Int)} {Ls : List (List Int)} (h : LsIn P Q Ls) : P.length = Ls.length := by rw [← h.eq, List.length_map]
theorem LsIn.get {P Q : List (Nat × List Int)} {Ls : List (List Int)} (h : LsIn P Q Ls) {i : Nat} (hi : i < P.length) : P[i].2 = Ls[i]'(h.len ▸ hi) := by
  have e := h.eq
  subst e
  simp
theorem LsIn.obj {P Q : List (Nat × List Int)} {Ls : List (List Int)} (h : LsIn P Q Ls) {i : Nat} (hi : i < P.length) : (P[i].1, AObj.cells (P[i].2.map intA) 3 false) ∈ objsL Q := objsL_mem (h.mem _ (List.getElem_mem hi))
theorem LsIn.split {P Q : List (Nat × List Int)} {Ls : List (List Int)} (h : LsIn P Q Ls) {i : Nat} (hi : i < P.length) : ∃ R, Rem (objsL Q) (P[i].1, .cells (P[i].2.map intA) 3 false) R := objs_split (h.mem _ (List.getElem_mem hi))
set_option maxRecDepth 20000 in
set_option maxHeartbeats 2000000 in
theorem oftenR_ok {main : Bool} {T : Goroutine → Hp → Prop} (hT : Shut Tryz.prog main T) {gm : Nat → Option Nat} {P Q : List (Nat × List Int)} {Ls : List (List Int)} {j : Nat} (hL : LsIn P Q Ls) (hlen : Ls.length ≤ 65536) (hS : ∀ S ∈ Ls, S.length ≤ 1000) {m : Int} :
    CallK Tryz.prog T gm 74 [.row j P.length, intA m] ((j, .row (refsL P) 28 1) :: objsL Q) (fun r K' => r = intA (oftR Ls m) ∧ K' = (j, .row (refsL P) 28 1) :: objsL Q) := by
  refine callK_in 22 hT Tryz.func74 fun Y hret => ?_
  refine au [4, 5, 2, 3, 4, 5, 2, 3, 4, 4, 5, 2, 3, 13] ?_
  refine TK.maskL [0, 1, 5, 6] ?_
  refine TK.loopN (fun n env K => ∃ (i : Nat), n = P.length - i ∧ i ≤ P.length ∧ env = slotsA 22 [(0, .row j P.length), (1, intA m), (5, intA (oftR (Ls.take i) m)), (6, intA i)] ∧ K = (j, .row (refsL P) 28 1) :: objsL Q) P.length ⟨0, rfl, Nat.zero_le _, rfl, rfl⟩ fun n env K hI hnext => ?_
  obtain ⟨i, rfl, hi, rfl, rfl⟩ := hI
  have hle := oftR_le (Ls.take i) m
  have hlt : (Ls.take i).length ≤ Ls.length := by simp; omega
  refine au [4, 4, 5, 1, 1, 28, 6, 3, 20] ?_
  refine ⟨fun hc0 => ?_, fun hc0 => ?_⟩
  · simp only [decide_eq_true_eq] at hc0
    have hil : i < P.length := by omega
    have hil2 : i < Ls.length := by have := hL.len; omega
    have hx2 := hL.get hil
    have hmx := hL.obj hil
    obtain ⟨Rq, hRq⟩ := hL.split hil
    refine au [12, 4, 13, 4, 5, 1, 1, 37] ?_
    refine TK.a rfl (q_load1 rfl rfl TySz.h (by repeat (first | exact List.Mem.head _ | assumption | apply List.Mem.tail)) (refs_at hil rfl)) ?_
    refine au [1] ?_
    refine TK.cl rfl rfl rfl rfl ((holds_ok hT (ints_at P[i].2 3 false) (by rw [hx2]; exact hS _ (List.getElem_mem _))).frameP (perm1 hRq)) ?_
    rintro r1 K2 ⟨rfl, rfl⟩
    refine au [] ?_
    refine TK.perm List.perm_append_comm ?_
    refine au [3, 20] ?_
    refine ⟨fun hc1 => ?_, fun hc1 => ?_⟩
    · refine au [5, 1, 23, 2, 3, 14, 5, 1, 23, 2, 3] ?_
      refine TK.maskL [0, 1, 5, 6] ?_
      exact hnext _ _ _ (by omega) ⟨i + 1, rfl, by omega, by rw [oftR_T hil2 (by rw [← hx2]; exact hc1)]; rfl, rfl⟩
    refine au [12, 14, 5, 1, 23, 2, 3] ?_
    refine TK.maskL [0, 1, 5, 6] ?_
    exact hnext _ _ _ (by omega) ⟨i + 1, rfl, by omega, by rw [oftR_F hil2 (by rw [← hx2]; exact hc1)]; rfl, rfl⟩
  simp only [decide_eq_false_iff_not] at hc0
  obtain rfl : i = P.length := by omega
  refine au [16, 4, 5, 1, 2, 3] ?_
  refine TK.rt hret (((j, _) :: objsL Q)) ?_
  exact ⟨by rw [show Ls.take P.length = Ls by rw [hL.len, List.take_length]], rfl⟩

set_option maxRecDepth 20000 in
set_option maxHeartbeats 2000000 in
theorem rightsR_ok {main : Bool} {T : Goroutine → Hp → Prop} (hT : Shut Tryz.prog main T) {gm : Nat → Option Nat} {b : Bk} {s e : Nat} {P Q : List (Nat × List Int)} {Ls : List (List Int)} {j : Nat} (hL : LsIn P Q Ls) (hlen : Ls.length ≤ 65536) (hb : BkOk b) (hS : ∀ S ∈ Ls, SmOk b S) {k : Nat} (hk : k < b.seekers.length) :
    CallK Tryz.prog T gm 85 [.agg (bookC b s e), .row j P.length, intA k] ((s, saysO b) :: (j, .row (refsL P) 28 1) :: objsL Q) (fun r K' => r = intA (rightsM b Ls k) ∧ K' = (s, saysO b) :: (j, .row (refsL P) 28 1) :: objsL Q) := by
  refine callK_in 25 hT Tryz.func85 fun Y hret => ?_
  refine au [4, 5, 21] ?_
  intro jb hjb
  refine au [2, 3, 4, 5, 2, 3, 4, 4, 5, 2, 3, 13] ?_
  refine TK.maskL [1, 2, 3, 7, 8] ?_
  refine TK.kp ((j, _) :: (jb, _) :: (s, _) :: objsL Q) ?_
  refine TK.loopN (fun n env K => ∃ (i : Nat), n = P.length - i ∧ i ≤ P.length ∧ env = slotsA 25 [(1, .row j P.length), (2, intA k), (3, .ptr jb 0), (7, intA (rightsM b (Ls.take i) k)), (8, intA i)] ∧ K = (j, .row (refsL P) 28 1) :: (jb, .cells (bookC b s e) 27 true) :: (s, saysO b) :: objsL Q) P.length ⟨0, rfl, Nat.zero_le _, rfl, rfl⟩ fun n env K hI hnext => ?_
  obtain ⟨i, rfl, hi, rfl, rfl⟩ := hI
  have hle := rightsM_le b (Ls.take i) k
  have hlt : (Ls.take i).length ≤ Ls.length := by simp; omega
  refine au [4, 4, 5, 1, 1, 28, 6, 3, 20] ?_
  refine ⟨fun hc0 => ?_, fun hc0 => ?_⟩
  · simp only [decide_eq_true_eq] at hc0
    have hil : i < P.length := by omega
    have hil2 : i < Ls.length := by have := hL.len; omega
    have hx2 := hL.get hil
    have hmx := hL.obj hil
    obtain ⟨Rq, hRq⟩ := hL.split hil
    refine au [12, 4, 13, 4] ?_
    refine TK.draw [0, 1, 2, 3, 4, 5, 6] [0, 1, 2, 3, 4, 5, 6] (by kernel_rfl) (by kernel_rfl) ?_
    refine TD.y [3] rfl (hq := q_load rfl rfl TySz.h (List.Mem.head _) rfl) (h := ?_)
    refine TD.z [1] rfl (q_move rfl rfl) ?_
    refine TD.z [8] rfl (q_move rfl rfl) ?_
    refine TD.y [16, 17] rfl (hq := q_indexRow rfl rfl rfl SlEl.h (List.Mem.head _) (by omega) (by omega)) (h := ?_)
    refine TD.y [18] rfl (hq := q_load1 rfl rfl TySz.h (List.Mem.head _) (refs_at hil rfl)) (h := ?_)
    refine TD.z [2] rfl (q_move rfl rfl) ?_
    refine TD.cl (pend' := [⟨3, [16, 17], [(_, _)]⟩, ⟨2, [8], []⟩, ⟨1, [1], []⟩]) [15, 19, 20] rfl rfl rfl rfl rfl ((rightR_ok hT (s := s) (e := e) hb (by rw [hx2]; exact hS _ (List.getElem_mem _)) hk (ints_at P[i].2 3 false) (by rw [hx2]; have := (hS _ (List.getElem_mem hil2)).len; omega)).frameP (perm2 hRq)) (fun r1 K2 h3 => ⟨?_, ?_⟩)
    · rcases h3 with ⟨rfl, rfl⟩
      all_goals simp
    obtain ⟨rfl, rfl⟩ := h3
    try simp only [List.cons_append, List.nil_append]
    refine TD.norm (by simp only [List.set]; rfl) ?_
    refine TD.perm (List.perm_append_comm (l₁ := (s, _) :: objsL Q)) ?_
    simp only [List.cons_append, List.nil_append]
    refine TD.fin ?_
    refine au [20] ?_
    refine ⟨fun hc1 => ?_, fun hc1 => ?_⟩
    · refine au [5, 1, 23, 2, 3, 14, 5, 1, 23, 2, 3] ?_
      refine TK.maskL [1, 2, 3, 7, 8] ?_
      exact hnext _ _ _ (by omega) ⟨i + 1, rfl, by omega, by rw [rightsM_T hil2 (by rw [← hx2]; exact hc1)]; rfl, rfl⟩
    refine au [12, 14, 5, 1, 23, 2, 3] ?_
    refine TK.maskL [1, 2, 3, 7, 8] ?_
    exact hnext _ _ _ (by omega) ⟨i + 1, rfl, by omega, by rw [rightsM_F hil2 (by rw [← hx2]; exact hc1)]; rfl, rfl⟩
  simp only [decide_eq_false_iff_not] at hc0
  obtain rfl : i = P.length := by omega
  refine au [16, 4, 5, 1, 2, 3] ?_
  refine TK.rt hret (((s, _) :: (j, _) :: objsL Q)) ?_
  exact ⟨by rw [show Ls.take P.length = Ls by rw [hL.len, List.take_length]], rfl⟩

set_option maxRecDepth 20000 in
set_option maxHeartbeats 2000000 in
theorem withinOfR_ok {main : Bool} {T : Goroutine → Hp → Prop} (hT : Shut Tryz.prog main T) {gm : Nat → Option Nat} {b : Bk} {s e : Nat} {P Q : List (Nat × List Int)} {Ls : List (List Int)} {j : Nat} (hL : LsIn P Q Ls) (hlen : Ls.length ≤ 65536) (hs : 4 ≤ b.steps ∧ b.steps ≤ 16) (hS : ∀ S ∈ Ls, SmOk b S) {lo w : Int} (h0 : 0 ≤ lo ∧ lo < b.steps) :
    CallK Tryz.prog T gm 78 [.agg (bookC b s e), .row j P.length, intA lo, intA w] ((j, .row (refsL P) 28 1) :: objsL Q) (fun r K' => r = .agg [intA (withinM b Ls lo w).1, intA (withinM b Ls lo w).2] ∧ K' = (j, .row (refsL P) 28 1) :: objsL Q) := by
  refine callK_in 37 hT Tryz.func78 fun Y hret => ?_
  refine au [4, 5, 21] ?_
  intro jb hjb
  refine au [22] ?_
  intro jr hjr
  refine au [3, 4, 5, 39, 22] ?_
  intro jo hjo
  refine au [17, 3, 4, 4, 5, 2, 3, 13] ?_
  refine TK.maskL [1, 2, 3, 4, 8, 9, 10] ?_
  refine TK.kp ((j, _) :: (jb, _) :: (jo, _) :: (jr, _) :: objsL Q) ?_
  refine TK.loopN (fun n env K => ∃ (i : Nat), n = P.length - i ∧ i ≤ P.length ∧ env = slotsA 37 [(1, .row j P.length), (2, intA lo), (3, intA w), (4, .ptr jb 0), (8, .ptr jr 0), (9, .ptr jo 0), (10, intA i)] ∧ K = (j, .row (refsL P) 28 1) :: (jb, .cells (bookC b s e) 27 true) :: (jo, .cells [intA (withinM b (Ls.take i) lo w).1, intA (withinM b (Ls.take i) lo w).2] 23 true) :: (jr, .cells [intA 0, intA 0] 23 true) :: objsL Q) P.length ⟨0, rfl, Nat.zero_le _, rfl, rfl⟩ fun n env K hI hnext => ?_
  obtain ⟨i, rfl, hi, rfl, rfl⟩ := hI
  refine au [4, 4, 5, 1, 1, 28, 6, 3, 20] ?_
  refine ⟨fun hc0 => ?_, fun hc0 => ?_⟩
  · simp only [decide_eq_true_eq] at hc0
    have hil : i < P.length := by omega
    have hil2 : i < Ls.length := by have := hL.len; omega
    have hx2 := hL.get hil
    have hmx := hL.obj hil
    obtain ⟨Rq, hRq⟩ := hL.split hil
    refine au [12, 4, 13, 4] ?_
    refine TK.draw [0, 1, 2, 3, 4, 5, 6, 7, 8] [0, 1, 2, 3, 4, 5, 6, 7, 8] (by kernel_rfl) (by kernel_rfl) ?_
    refine TD.y [4] rfl (hq := q_load rfl rfl TySz.h (List.Mem.head _) rfl) (h := ?_)
    refine TD.z [1] rfl (q_move rfl rfl) ?_
    refine TD.z [10] rfl (q_move rfl rfl) ?_
    refine TD.y [20, 21] rfl (hq := q_indexRow rfl rfl rfl SlEl.h (List.Mem.head _) (by omega) (by omega)) (h := ?_)
    refine TD.y [22] rfl (hq := q_load1 rfl rfl TySz.h (List.Mem.head _) (refs_at hil rfl)) (h := ?_)
    refine TD.z [2] rfl (q_move rfl rfl) ?_
    refine TD.z [3] rfl (q_move rfl rfl) ?_
    refine TD.cl (pend' := [⟨3, [20, 21], [(_, _)]⟩, ⟨2, [10], []⟩, ⟨1, [1], []⟩]) [19, 23, 24, 25] rfl rfl rfl rfl rfl ((inR_ok hT (b := b) (s := s) (e := e) (lo := lo) (w := w) hs (by rw [hx2]; exact (hS _ (List.getElem_mem _)).mem) h0 (ints_at P[i].2 3 false) (by rw [hx2]; have := (hS _ (List.getElem_mem hil2)).len; omega)).frameP (perm1 hRq)) (fun r1 K2 h3 => ⟨?_, ?_⟩)
    · rcases h3 with ⟨rfl, rfl⟩
      all_goals simp
    obtain ⟨rfl, rfl⟩ := h3
    try simp only [List.cons_append, List.nil_append]
    refine TD.norm (by simp only [List.set]; rfl) ?_
    refine TD.perm (List.perm_append_comm (l₁ := objsL Q)) ?_
    simp only [List.cons_append, List.nil_append]
    refine TD.as (pend' := []) [26] rfl rfl (q_assign rfl rfl) ?_
    refine TD.fin ?_
    refine au [5, 7, 9, 1] ?_
    refine TK.a rfl (q_min rfl rfl rfl) ?_
    refine au [7, 9, 1] ?_
    refine TK.a rfl (q_max rfl rfl rfl) ?_
    refine au [39, 17, 3, 14, 5, 1, 23, 2, 3] ?_
    refine TK.maskL [1, 2, 3, 4, 8, 9, 10] ?_
    exact hnext _ _ _ (by omega) ⟨i + 1, rfl, by omega, rfl, by rw [withinM_succ hil2, ← hx2]; rfl⟩
  simp only [decide_eq_false_iff_not] at hc0
  obtain rfl : i = P.length := by omega
  refine au [16, 4, 5, 8, 17, 3] ?_
  refine TK.rt hret (((j, _) :: objsL Q)) ?_
  exact ⟨by rw [show Ls.take P.length = Ls by rw [hL.len, List.take_length]]; rfl, rfl⟩

set_option maxRecDepth 20000 in
set_option maxHeartbeats 1000000 in
theorem surely_ok {main : Bool} {T : Goroutine → Hp → Prop} (hT : Shut Tryz.prog main T) {gm : Nat → Option Nat} {some all : Int} :
    CallK Tryz.prog T gm 73 [intA some, intA all] [] (fun r K' => r = intA (wordM all some) ∧ K' = []) := by
  refine callK_in 10 hT Tryz.func73 fun Y hret => ?_
  refine au [4, 5, 2, 3, 4, 4, 5, 1, 1, 6, 3, 20] ?_
  refine ⟨fun hc0 => ?_, fun hc0 => ?_⟩
  · refine au [4, 5, 2, 3] ?_
    refine TK.rt hret [] ?_
    exact ⟨by unfold wordM; rw [if_pos hc0]; rfl, rfl⟩
  refine au [12, 4, 4, 5, 1, 6, 3, 20] ?_
  refine ⟨fun hc1 => ?_, fun hc1 => ?_⟩
  · refine au [4, 5, 2, 3] ?_
    refine TK.rt hret [] ?_
    exact ⟨by unfold wordM; rw [if_neg (by rw [hc0]; decide), if_pos hc1]; rfl, rfl⟩
  refine au [12, 4, 5, 2, 3] ?_
  refine TK.rt hret [] ?_
  exact ⟨by unfold wordM; rw [if_neg (by rw [hc0]; decide), if_neg (by rw [hc1]; decide)]; rfl, rfl⟩
end Go.Vel
end
section
set_option linter.all false
namespace Go.Vel
open Go Go.Conc Go.Proofs
/-! ### the specification's sums are the program's -/
theorem oftR_eq : ∀ {Ls : List (List Int)} (_ : ∀ S ∈ Ls, S.Nodup) (n : Int), oftR Ls n = oftM Ls n
  | [], _, n => rfl
  | S :: Ls, h, n => by
    have ih := oftR_eq (fun T hT => h T (List.mem_cons_of_mem _ hT)) n
    unfold oftR oftM at ih ⊢
    rw [List.flatten_cons, List.count_append, List.filter_cons]
    have h1 := (h S List.mem_cons_self).count (a := n)
    by_cases hm : n ∈ S
    · rw [if_pos (by simpa using hm)]
      rw [if_pos hm] at h1
      rw [h1, List.length_cons]
      omega
    · rw [if_neg (by simpa using hm)]
      rw [if_neg hm] at h1
      rw [h1]
      omega
theorem oftM_perm {Ls Ms : List (List Int)} (h : Ls.Perm Ms) (n : Int) : oftM Ls n = oftM Ms n := by
  unfold oftM; rw [(h.flatten).count_eq]
theorem rightsM_perm {b : Bk} {Ls Ms : List (List Int)} (h : Ls.Perm Ms) (k : Nat) : rightsM b Ls k = rightsM b Ms k := by
  unfold rightsM; rw [(h.filter _).length_eq]
theorem bandM_comm (b : Bk) (lo w : Int) (z : Int × Int) (S T : List Int) : bandM b lo w (bandM b lo w z S) T = bandM b lo w (bandM b lo w z T) S := by
  unfold bandM
  generalize inM b S lo w = x
  generalize inM b T lo w = y
  obtain ⟨p, q⟩ := z
  refine Prod.ext ?_ ?_
  · dsimp only
    (repeat' split) <;> omega
  · dsimp only
    (repeat' split) <;> omega
theorem withinM_perm {b : Bk} {Ls Ms : List (List Int)} (h : Ls.Perm Ms) (lo w : Int) : withinM b Ls lo w = withinM b Ms lo w := by
  unfold withinM
  exact h.foldl_eq' (fun x _ y _ z => bandM_comm b lo w z x y) _
theorem statesR_nodup {b : Bk} : ∀ S ∈ statesR b, S.Nodup := fun S hS => (sets_pair _ S (List.mem_filter.1 hS).1).imp fun h e => by omega
theorem statesR_ok' {b : Bk} (hb : BkOk b) (hh : 0 ≤ b.high) : ∀ S ∈ statesR b, SmOk b S := fun S hS => setsB_ok hb hh S (List.mem_filter.1 hS).1
theorem statesR_len {b : Bk} (hb : BkOk b) : (statesR b).length ≤ 65536 := Nat.le_trans (List.length_filter_le _ _) (setsB_len hb)
theorem oft_eq {b : Bk} (hb : BkOk b) (n : Int) : oftR (statesR b) n = oftM (statesM b) n := by
  rw [oftR_eq statesR_nodup, oftM_perm (states_perm hb)]
theorem len_eq {b : Bk} (hb : BkOk b) : (statesR b).length = (statesM b).length := (states_perm hb).length_eq.symm
theorem rights_eq {b : Bk} (hb : BkOk b) (k : Nat) : rightsM b (statesR b) k = rightsM b (statesM b) k := (rightsM_perm (states_perm hb) k).symm
theorem within_eq {b : Bk} (hb : BkOk b) (lo w : Int) : withinM b (statesR b) lo w = withinM b (statesM b) lo w := (withinM_perm (states_perm hb) lo w).symm
theorem known0 {b : Bk} {t : Bool} (h : knownBar b t = 0) : checkM b = 0 ∧ t = true := by
  unfold knownBar at h
  split at h
  · rename_i hc
    refine ⟨hc, ?_⟩
    cases t with
    | true => rfl
    | false => cases h
  · rename_i hc; exact absurd h hc
end Go.Vel
end
section
set_option linter.all false
namespace Go.Vel
open Go Go.Conc Go.Proofs
instance : Cal Tryz.prog 100 := ⟨by kernel_rfl⟩
instance : Cal Tryz.prog 101 := ⟨by kernel_rfl⟩
instance : Cal Tryz.prog 16 := ⟨by kernel_rfl⟩
instance : Cal Tryz.prog 18 := ⟨by kernel_rfl⟩
instance : Cal Tryz.prog 20 := ⟨by kernel_rfl⟩
instance : Cal Tryz.prog 23 := ⟨by kernel_rfl⟩
instance : Cal Tryz.prog 25 := ⟨by kernel_rfl⟩
instance : Cal Tryz.prog 27 := ⟨by kernel_rfl⟩
instance : Cal Tryz.prog 29 := ⟨by kernel_rfl⟩
instance : Cal Tryz.prog 69 := ⟨by kernel_rfl⟩
instance : Cal Tryz.prog 95 := ⟨by kernel_rfl⟩
instance : Cal Tryz.prog 99 := ⟨by kernel_rfl⟩
instance {a0 a1 a2 a3 a4 a5 a6 a7 a8 a9 a10 a11 a12 a13 a14 a15 a16 a17 a18 a19 a20 a21 a22 a23 a24 : Oper} : RgL #[a0, a1, a2, a3, a4, a5, a6, a7, a8, a9, a10, a11, a12, a13, a14, a15, a16, a17, a18, a19, a20, a21, a22, a23, a24] [0, 1, 2, 3, 4, 5, 6, 7, 8, 9, 10, 11, 12, 13, 14, 15, 16, 17, 18, 19, 20, 21, 22, 23, 24] := ⟨rfl⟩
instance {a0 a1 a2 a3 a4 a5 a6 a7 a8 a9 a10 a11 a12 a13 a14 a15 a16 a17 a18 a19 a20 a21 a22 a23 a24 a25 a26 a27 a28 : Oper} : RgL #[a0, a1, a2, a3, a4, a5, a6, a7, a8, a9, a10, a11, a12, a13, a14, a15, a16, a17, a18, a19, a20, a21, a22, a23, a24, a25, a26, a27, a28] [0, 1, 2, 3, 4, 5, 6, 7, 8, 9, 10, 11, 12, 13, 14, 15, 16, 17, 18, 19, 20, 21, 22, 23, 24, 25, 26, 27, 28] := ⟨rfl⟩
end Go.Vel
end
section
set_option linter.all false
namespace Go.Vel
open Go Go.Conc Go.Proofs

section
variable {P : Program} {gm : Nat → Option Nat} {T : Goroutine → Hp → Prop}
theorem objs_two {Q : List (Nat × List Int)} {x y : Nat × List Int} (hx : x ∈ Q) (hy : y ∈ Q) (hne : x.1 ≠ y.1) : ∃ R, (objsL Q).Perm ([(x.1, .cells (x.2.map intA) 3 false), (y.1, .cells (y.2.map intA) 3 false)] ++ R) := by
  obtain ⟨R1, h1⟩ := objs_split hx
  have h2 := h1.perm.subset (objsL_mem hy)
  rcases List.mem_cons.1 h2 with h2 | h2
  · exact absurd (congrArg Prod.fst h2).symm hne
  · obtain ⟨R2, h3⟩ := rem_of_mem h2
    exact ⟨R2, h1.perm.trans (.cons _ h3.perm)⟩
end
theorem cmpL_fin {xs ys : List Int} {i : Nat} (hx : i ≤ xs.length) (hy : i ≤ ys.length) (h : i = xs.length ∨ i = ys.length) (he : cmpL xs ys = cmpL (xs.drop i) (ys.drop i)) : decide ((xs.length : Int) < ys.length) = decide (cmpL xs ys < 0) := by
  rw [he]
  rcases h with rfl | rfl
  · rw [cmpL_end hy]
    split <;> simp <;> omega
  · by_cases hl : ys.length < xs.length
    · rw [cmpL_big hl (Nat.le_refl _)]
      simp; omega
    · have e : ys.length = xs.length := by omega
      have h2 := cmpL_end (xs := xs) (ys := ys) (by omega)
      rw [e]; rw [h2]; simp; omega
theorem cmpL_diff {xs ys : List Int} {i : Nat} (hx : i < xs.length) (hy : i < ys.length) (hne : (xs[i] != ys[i]) = true) (he : cmpL xs ys = cmpL (xs.drop i) (ys.drop i)) : decide (xs[i] < ys[i]) = decide (cmpL xs ys < 0) := by
  have hc := cmpI2_cases xs[i] ys[i]
  have hne : xs[i] ≠ ys[i] := by simpa using hne
  rw [he, cmpL_step hx hy, if_pos (by omega)]
  by_cases h : xs[i] < ys[i]
  · rw [decide_eq_true h, decide_eq_true (by omega)]
  · rw [decide_eq_false h, decide_eq_false (by omega)]
theorem cmpL_same {xs ys : List Int} {i : Nat} (hx : i < xs.length) (hy : i < ys.length) (hne : (xs[i] != ys[i]) = false) (he : cmpL xs ys = cmpL (xs.drop i) (ys.drop i)) : cmpL xs ys = cmpL (xs.drop (i + 1)) (ys.drop (i + 1)) := by
  have hc := cmpI2_cases xs[i] ys[i]
  have hne : xs[i] = ys[i] := by simpa using hne
  rw [he, cmpL_step hx hy, if_neg (by omega)]

theorem ltLists_tail {xs ys : List Int} (h1 : ¬ (xs.length : Int) < ys.length) (h2 : ((xs.length : Int) == ys.length) = true) : ltLists xs ys = decide (cmpL xs ys < 0) := by
  have h2 : (xs.length : Int) = ys.length := by simpa using h2
  rw [Bool.eq_iff_iff, ltLists_iff, decide_eq_true_eq]
  constructor
  · rintro (h | h)
    · omega
    · exact h.2
  · exact fun h => .inr ⟨by omega, h⟩
theorem ltLists_ne {xs ys : List Int} (h1 : ¬ (xs.length : Int) < ys.length) (h2 : ((xs.length : Int) == ys.length) = false) : ltLists xs ys = false := by
  have h2 : (xs.length : Int) ≠ ys.length := by simpa using h2
  rw [Bool.eq_false_iff, ne_eq, ltLists_iff]
  omega
theorem upto_succ (n : Nat) : uptoM (n + 1) = uptoM n ++ [(n : Int)] := by unfold uptoM; rw [List.range_succ, List.map_append]; rfl
theorem upto_len (n : Nat) : (uptoM n).length = n := by unfold uptoM; simp
theorem upto_mem {n : Nat} {x : Int} (h : x ∈ uptoM n) : 0 ≤ x ∧ x < n := by
  obtain ⟨k, hk, rfl⟩ := List.mem_map.1 h
  have := List.mem_range.1 hk
  omega
theorem allS_succ {b : Bk} {S l : List Int} {q : Nat} (h : q < l.length) : allS b S (l.take (q + 1)) = (allS b S (l.take q) && rightM b S l[q].toNat) := by
  unfold allS
  rw [List.take_add_one, List.getElem?_eq_getElem h, List.all_append]
  simp
theorem and_tail {a c d : Bool} (h : (a && c) = true) : (a && (c && d)) = d := by
  cases a <;> cases c <;> simp_all
theorem and_dead {a c d : Bool} (h : (a && c) = false) : (a && (c && d)) = false := by
  cases a <;> cases c <;> simp_all

theorem rightI_ok {main : Bool} {T : Goroutine → Hp → Prop} (hT : Shut Tryz.prog main T) {gm : Nat → Option Nat} {b : Bk} {s e j off : Nat} {ob : AObj} {xs : List Int} {x : Int} (hb : BkOk b) (hS : SmOk b xs) (hi : 0 ≤ x ∧ x < b.seekers.length) (hI : IntsAt ob off xs) (hlx : xs.length ≤ 1000) :
    CallK Tryz.prog T gm 54 [.agg (bookC b s e), .sl j off xs.length, intA x] [(s, saysO b), (j, ob)] (fun r K' => r = boolA (rightM b xs x.toNat) ∧ K' = [(s, saysO b), (j, ob)]) := by
  obtain ⟨k, rfl⟩ := Int.eq_ofNat_of_zero_le hi.1
  rw [Int.toNat_natCast]
  exact rightR_ok hT hb hS (by omega) hI hlx
set_option maxRecDepth 20000 in
set_option maxHeartbeats 2000000 in
theorem earlier_ok {main : Bool} {T : Goroutine → Hp → Prop} (hT : Shut Tryz.prog main T) {gm : Nat → Option Nat} {j off j2 off2 : Nat} {ob ob2 : AObj} {xs ys : List Int} (hjj : j ≠ j2) (hI : IntsAt ob off xs) (hI2 : IntsAt ob2 off2 ys) (hlx : xs.length ≤ 100000) (hly : ys.length ≤ 100000) :
    CallK Tryz.prog T gm 95 [.sl j off xs.length, .sl j2 off2 ys.length] [(j, ob), (j2, ob2)] (fun r K' => r = boolA (decide (cmpL xs ys < 0)) ∧ K' = [(j, ob), (j2, ob2)]) := by
  refine callK_in 41 hT Tryz.func95 fun Y hret => ?_
  refine au [4, 5, 2, 3, 4, 4, 5, 2, 3, 13] ?_
  refine TK.maskL [0, 1, 5] ?_
  refine TK.loopN (fun n env K => ∃ (i : Nat), n = xs.length - i ∧ i ≤ xs.length ∧ i ≤ ys.length ∧ cmpL xs ys = cmpL (xs.drop i) (ys.drop i) ∧ env = slotsA 41 [(0, .sl j off xs.length), (1, .sl j2 off2 ys.length), (5, intA i)] ∧ K = [(j, ob), (j2, ob2)]) xs.length ⟨0, rfl, Nat.zero_le _, Nat.zero_le _, rfl, rfl, rfl⟩ fun n env K hI' hnext => ?_
  obtain ⟨i, rfl, hi1, hi2, hcm, rfl, rfl⟩ := hI'
  refine au [4, 4, 5, 1, 1, 28, 6, 1] ?_
  refine TK.sp 10 (fun g2_5 => ?_) (fun g2_5 => ?_)
  · have hx : i < xs.length := by have := of_decide_eq_true g2_5; omega
    refine au [1, 1, 28, 6, 26, 3, 20] ?_
    refine ⟨fun hc0 => ?_, fun hc0 => ?_⟩
    · have hy : i < ys.length := by have := of_decide_eq_true hc0; omega
      refine au [12, 4, 13, 4] ?_
      refine TK.draw [0, 1, 2, 3, 4, 5, 6, 7, 8] [0, 1, 2, 3, 4, 5, 6, 7, 8] (by kernel_rfl) (by kernel_rfl) ?_
      refine TD.z [0] rfl (q_move rfl rfl) ?_
      refine TD.z [5] rfl (q_move rfl rfl) ?_
      refine TD.z [18, 19] rfl (q_indexSl rfl rfl rfl SlEl.h (by omega) (by omega)) ?_
      refine TD.y [20] rfl (hq := q_load1 rfl rfl TySz.h (List.Mem.head _) (hI i hx)) (h := ?_)
      refine TD.z [1] rfl (q_move rfl rfl) ?_
      refine TD.z [5] rfl (q_move rfl rfl) ?_
      refine TD.z [22, 23] rfl (q_indexSl rfl rfl rfl SlEl.h (by omega) (by omega)) ?_
      refine TD.y [24] rfl (hq := q_load1 rfl rfl TySz.h (List.Mem.head _) (hI2 i (by omega))) (h := ?_)
      refine TD.z [21, 25] rfl (q_cmp rfl rfl rfl rfl) ?_
      refine TD.fin ?_
      refine au [20] ?_
      refine ⟨fun hc1 => ?_, fun hc1 => ?_⟩
      · refine au [4] ?_
        refine TK.draw [0, 1, 2, 3, 4, 5, 6, 7, 8, 9] [0, 1, 2, 3, 4, 5, 6, 7, 8, 9] (by kernel_rfl) (by kernel_rfl) ?_
        refine TD.z [0] rfl (q_move rfl rfl) ?_
        refine TD.z [5] rfl (q_move rfl rfl) ?_
        refine TD.z [27, 28] rfl (q_indexSl rfl rfl rfl SlEl.h (by omega) (by omega)) ?_
        refine TD.y [29] rfl (hq := q_load1 rfl rfl TySz.h (List.Mem.head _) (hI i hx)) (h := ?_)
        refine TD.z [1] rfl (q_move rfl rfl) ?_
        refine TD.z [5] rfl (q_move rfl rfl) ?_
        refine TD.z [31, 32] rfl (q_indexSl rfl rfl rfl SlEl.h (by omega) (by omega)) ?_
        refine TD.y [33] rfl (hq := q_load1 rfl rfl TySz.h (List.Mem.head _) (hI2 i (by omega))) (h := ?_)
        refine TD.z [30, 34] rfl (q_cmp rfl rfl rfl rfl) ?_
        refine TD.as (pend' := []) [35] rfl rfl (q_assign rfl rfl) ?_
        refine TD.fin ?_
        refine au [] ?_
        refine TK.rt hret [(j, _), (j2, _)] ?_
        exact ⟨by rw [cmpL_diff hx (by omega) hc1 hcm]; rfl, rfl⟩
      refine au [12, 14, 5, 1, 23, 2, 3] ?_
      refine TK.maskL [0, 1, 5] ?_
      exact hnext _ _ _ (by omega) ⟨i + 1, rfl, by omega, by omega, cmpL_same hx (by omega) hc1 hcm, rfl, rfl⟩
    have hy := of_decide_eq_false hc0
    refine au [16, 4, 5, 1, 28, 1, 28, 6, 2, 3] ?_
    refine TK.rt hret [(j, _), (j2, _)] ?_
    exact ⟨by rw [cmpL_fin hi1 hi2 (.inr (by omega)) hcm]; rfl, rfl⟩
  have hx := of_decide_eq_false g2_5
  refine au [11, 11, 11, 11, 25, 3, 19, 16, 4, 5, 1, 28, 1, 28, 6, 2, 3] ?_
  refine TK.rt hret [(j, _), (j2, _)] ?_
  exact ⟨by rw [cmpL_fin hi1 hi2 (.inl (by omega)) hcm]; rfl, rfl⟩

set_option maxRecDepth 20000 in
set_option maxHeartbeats 2000000 in
theorem smaller_ok {main : Bool} {T : Goroutine → Hp → Prop} (hT : Shut Tryz.prog main T) {gm : Nat → Option Nat} {j off j2 off2 : Nat} {ob ob2 : AObj} {xs ys : List Int} (hjj : j ≠ j2) (hI : IntsAt ob off xs) (hI2 : IntsAt ob2 off2 ys) (hlx : xs.length ≤ 100000) (hly : ys.length ≤ 100000) :
    CallK Tryz.prog T gm 101 [.sl j off xs.length, .sl j2 off2 ys.length] [(j, ob), (j2, ob2)] (fun r K' => r = boolA (ltLists xs ys) ∧ K' = [(j, ob), (j2, ob2)]) := by
  refine callK_in 22 hT Tryz.func101 fun Y hret => ?_
  refine au [4, 5, 2, 3, 4, 5, 1, 28, 1, 28, 6, 1] ?_
  refine TK.sp 10 (fun g1_6 => ?_) (fun g1_6 => ?_)
  · refine au [11, 11, 11, 11, 11, 11, 11, 11, 11, 11, 26, 2, 3] ?_
    refine TK.rt hret [(j, _), (j2, _)] ?_
    exact ⟨by rw [(ltLists_iff _ _).2 (.inl (by have := of_decide_eq_true g1_6; omega))]; rfl, rfl⟩
  refine au [1, 28, 1, 28, 6, 1] ?_
  refine TK.sp 16 (fun g1_12 => ?_) (fun g1_12 => ?_)
  · refine au [1, 1] ?_
    refine TK.cl rfl rfl rfl rfl (earlier_ok hT hjj hI hI2 hlx hly) ?_
    rintro r1 K2 ⟨rfl, rfl⟩
    refine au [26, 25, 2, 3] ?_
    refine TK.rt hret [(j, _), (j2, _)] ?_
    exact ⟨by rw [ltLists_tail (of_decide_eq_false g1_6) g1_12], rfl⟩
  refine au [11, 11, 11, 25, 25, 2, 3] ?_
  refine TK.rt hret [(j, _), (j2, _)] ?_
  exact ⟨by rw [ltLists_ne (of_decide_eq_false g1_6) g1_12]; rfl, rfl⟩

set_option maxRecDepth 20000 in
set_option maxHeartbeats 1000000 in
theorem upto_ok {main : Bool} {T : Goroutine → Hp → Prop} (hT : Shut Tryz.prog main T) {gm : Nat → Option Nat} {n : Nat} (hn : n ≤ 1000) :
    CallK Tryz.prog T gm 100 [intA n] [] (fun r K' => ∃ j, r = .row j n ∧ K' = (j, .row ((uptoM n).map intA) 3 1) :: []) := by
  refine callK_in 15 hT Tryz.func100 fun Y hret => ?_
  refine au [4, 5, 2, 3, 4, 5, 2] ?_
  refine TK.virt 3 3 1 rfl fun j00 hj00 => ?_
  refine au [3, 4, 4, 5, 2, 3, 13] ?_
  refine TK.maskL [0, 3, 4] ?_
  refine TK.loopN (fun m env K => ∃ (i j : Nat), m = n - i ∧ i ≤ n ∧ env = slotsA 15 [(0, intA n), (3, .row j i), (4, intA i)] ∧ K = [(j, .row ((uptoM i).map intA) 3 1)]) n ⟨0, j00, rfl, Nat.zero_le _, rfl, rfl⟩ fun m env K hI hnext => ?_
  obtain ⟨i, j, rfl, hi, rfl, rfl⟩ := hI
  have hul := upto_len i
  refine au [4, 4, 5, 1, 1, 6, 3, 20] ?_
  refine ⟨fun hc0 => ?_, fun hc0 => ?_⟩
  · simp only [decide_eq_true_eq] at hc0
    have hil : i < n := by omega
    refine au [12, 4, 13, 5, 1, 1] ?_
    refine TK.newR rfl rfl rfl (n_buildSlice (l := [_]) rfl SlEl.h TyZ.h (by decide) (by decide) rfl) (fun _ => putS rfl (by simp only [List.set]; rfl)) fun j1 hj1 => ?_
    refine TK.appR rfl rfl rfl (a_app rfl ApOf.h rfl (by repeat (first | exact List.Mem.head _ | assumption | apply List.Mem.tail)) (by simp [uptoM]) rfl (src_row (ln := [_]) (by repeat (first | exact List.Mem.head _ | assumption | apply List.Mem.tail)) (by decide) (by simp) rfl) (by omega) rfl (by unfold maxLen; omega) (by omega)) (fun _ => (by repeat (first | exact Upd.head | apply Upd.tail))) (fun _ => putS rfl (by simp only [List.set]; rfl)) fun j2 => ?_
    refine au [2, 3, 14, 5, 1, 23, 2, 3] ?_
    refine TK.maskL [0, 3, 4] ?_
    refine TK.kp [(j2, _)] ?_
    exact hnext _ _ _ (by omega) ⟨i + 1, j2, rfl, by omega, rfl, by rw [upto_succ, List.map_append]; rfl⟩
  simp only [decide_eq_false_iff_not] at hc0
  obtain rfl : i = n := by omega
  refine au [16, 4, 5, 1, 2, 3] ?_
  refine TK.rt hret [(j, _)] ?_
  exact ⟨j, rfl, rfl⟩

set_option maxRecDepth 20000 in
set_option maxHeartbeats 4000000 in
theorem togS_ok {main : Bool} {T : Goroutine → Hp → Prop} (hT : Shut Tryz.prog main T) {gm : Nat → Option Nat} {b : Bk} {s e : Nat} (hse : s ≠ e) (hb : BkOk b) (hh : 0 ≤ b.high) {j off : Nat} {ob : AObj} {l : List Int} (hI : IntsAt ob off l) (hll : l.length ≤ 1000) (hlm : ∀ x ∈ l, 0 ≤ x ∧ x < b.seekers.length) :
    CallK Tryz.prog T gm 99 [.agg (bookC b s e), .sl j off l.length] [(s, saysO b), (e, seenO b), (j, ob)] (fun r K' => r = boolA (togS b l) ∧ K' = [(s, saysO b), (e, seenO b), (j, ob)]) := by
  refine callK_in 47 hT Tryz.func99 fun Y hret => ?_
  refine au [] ?_
  have hst := hb.steps
  have hhi := hb.high
  refine au [4, 5, 21] ?_
  intro jb hjb
  refine au [2, 3, 4, 5, 7, 9, 7, 7, 9] ?_
  refine TK.cl rfl rfl rfl rfl (sets_ok hT (below := b.steps) (most := b.high) ⟨by omega, by omega⟩ ⟨hh, by omega⟩) ?_
  rintro r1 K2 ⟨ja, Q, rfl, hQ, rfl⟩
  refine au [] ?_
  refine TK.perm (List.Perm.cons _ List.perm_append_comm) ?_
  refine au [2, 3, 4, 4, 5, 2, 3, 13] ?_
  refine TK.maskL [1, 2, 5, 6] ?_
  refine TK.kp ((ja, _) :: (jb, _) :: (s, _) :: (j, _) :: (e, _) :: objsL Q) ?_
  have hQ : Q.map (·.2) = setsB b := hQ
  have hQl : Q.length = (setsB b).length := by rw [← hQ, List.length_map]
  have hQm := setsB_len hb
  refine TK.loopN (fun n env K => ∃ (i : Nat), n = Q.length - i ∧ i ≤ Q.length ∧ (∀ S ∈ (setsB b).take i, (seenM b S && allS b S l) = false) ∧ env = slotsA 47 [(1, .sl j off l.length), (2, .ptr jb 0), (5, .row ja Q.length), (6, intA i)] ∧ K = (ja, .row (refsL Q) 28 1) :: (jb, .cells (bookC b s e) 27 true) :: (s, saysO b) :: (j, ob) :: (e, seenO b) :: objsL Q) Q.length ⟨0, rfl, Nat.zero_le _, (fun _ h => by simp at h), rfl, rfl⟩ fun n env K hI0 hnext => ?_
  obtain ⟨i, rfl, hi, hni, rfl, rfl⟩ := hI0
  refine au [4, 4, 5, 1, 1, 28, 6, 3, 20] ?_
  refine ⟨fun hc0 => ?_, fun hc0 => ?_⟩
  · simp only [decide_eq_true_eq] at hc0
    have hil : i < Q.length := by omega
    have hxm : Q[i] ∈ Q := List.getElem_mem hil
    have hmx := objsL_mem hxm
    have hx2 : Q[i].2 = (setsB b)[i] := map_snd_get (B := []) (by rw [hQ, List.append_nil]) (by omega) hil
    have hS : SmOk b Q[i].2 := setsB_ok hb hh _ (by rw [hx2]; exact List.getElem_mem _)
    have hSl := hS.len
    obtain ⟨Rq, hRq⟩ := objs_split hxm
    refine au [12, 4, 13, 4] ?_
    refine TK.draw [0, 1, 2, 3, 4, 5, 6] [0, 1, 2, 3, 4, 5, 6] (by kernel_rfl) (by kernel_rfl) ?_
    refine TD.y [2] rfl (hq := q_load rfl rfl TySz.h (List.Mem.head _) rfl) (h := ?_)
    refine TD.z [5] rfl (q_move rfl rfl) ?_
    refine TD.z [6] rfl (q_move rfl rfl) ?_
    refine TD.y [22, 23] rfl (hq := q_indexRow rfl rfl rfl SlEl.h (List.Mem.head _) (by omega) (by omega)) (h := ?_)
    refine TD.y [24] rfl (hq := q_load1 rfl rfl TySz.h (List.Mem.head _) (refs_at hil rfl)) (h := ?_)
    refine TD.cl (pend' := [⟨3, [22, 23], [(_, _)]⟩, ⟨2, [6], []⟩, ⟨1, [5], []⟩]) [21, 25] rfl rfl rfl rfl rfl ((seenR_ok hT (s := s) (e := e) hb (ints_at Q[i].2 3 false) (by omega)).frameP (perm2 hRq)) (fun r4 K5 h6 => ⟨?_, ?_⟩)
    · rcases h6 with ⟨rfl, rfl⟩
      all_goals simp
    obtain ⟨rfl, rfl⟩ := h6
    try simp only [List.cons_append, List.nil_append]
    refine TD.norm (by simp only [List.set]; rfl) ?_
    refine TD.perm (List.perm_append_comm (l₁ := (e, _) :: objsL Q)) ?_
    simp only [List.cons_append, List.nil_append]
    refine TD.as (pend' := []) [26] rfl rfl (q_assign rfl rfl) ?_
    refine TD.fin ?_
    refine au [4, 4, 5, 2, 3, 13] ?_
    refine TK.maskL [1, 2, 5, 6, 7, 8] ?_
    refine TK.kp ((ja, _) :: (jb, _) :: (j, _) :: (e, _) :: (s, _) :: objsL Q) ?_
    refine TK.loopN (fun n env K => ∃ (q : Nat), n = l.length - q ∧ q ≤ l.length ∧ env = slotsA 47 [(1, .sl j off l.length), (2, .ptr jb 0), (5, .row ja Q.length), (6, intA i), (7, boolA ((seenM b Q[i].2 && allS b Q[i].2 (l.take q)))), (8, intA q)] ∧ K = (ja, .row (refsL Q) 28 1) :: (jb, .cells (bookC b s e) 27 true) :: (j, ob) :: (e, seenO b) :: (s, saysO b) :: objsL Q) l.length ⟨0, rfl, Nat.zero_le _, by rw [show allS b Q[i].2 (l.take 0) = true from rfl, Bool.and_true]; rfl, rfl⟩ fun n env K hI0 hnext2 => ?_
    obtain ⟨q, rfl, hq, rfl, rfl⟩ := hI0
    refine au [4, 4, 5, 1, 1, 28, 6, 3, 20] ?_
    refine ⟨fun hc1 => ?_, fun hc1 => ?_⟩
    · simp only [decide_eq_true_eq] at hc1
      have hql : q < l.length := by omega
      have hlq := hlm _ (List.getElem_mem hql)
      refine au [12, 4, 13] ?_
      refine TK.draw [0, 1, 2, 3, 4, 5, 6, 7, 8, 9, 10, 11, 12, 13] [0, 1, 2, 3, 4, 5, 6, 7, 8, 9, 10, 11, 12, 13] (by kernel_rfl) (by kernel_rfl) ?_
      refine TD.z [7] rfl (q_move rfl rfl) ?_
      refine TD.z [33] rfl (q_move rfl rfl) ?_
      refine TD.sp 34 (fun g9_2 => ?_) (fun g9_2 => ?_)
      · refine TD.y [2, 34] rfl (hq := q_load rfl rfl TySz.h (List.Mem.head _) rfl) (h := ?_)
        refine TD.z [5, 34] rfl (q_move rfl rfl) ?_
        refine TD.z [6, 34] rfl (q_move rfl rfl) ?_
        refine TD.y [34, 36, 37] rfl (hq := q_indexRow rfl rfl rfl SlEl.h (List.Mem.head _) (by omega) (by omega)) (h := ?_)
        refine TD.y [34, 38] rfl (hq := q_load1 rfl rfl TySz.h (List.Mem.head _) (refs_at hil rfl)) (h := ?_)
        refine TD.z [1, 34] rfl (q_move rfl rfl) ?_
        refine TD.z [8, 34] rfl (q_move rfl rfl) ?_
        refine TD.z [34, 40, 41] rfl (q_indexSl rfl rfl rfl SlEl.h (by omega) (by omega)) ?_
        refine TD.y [34, 42] rfl (hq := q_load1 rfl rfl TySz.h (List.Mem.head _) (hI q hql)) (h := ?_)
        refine TD.cl (pend' := [⟨9, [34, 40, 41], []⟩, ⟨8, [8, 34], []⟩, ⟨7, [1, 34], []⟩, ⟨5, [34, 36, 37], [(_, _)]⟩, ⟨4, [6, 34], []⟩, ⟨3, [5, 34], []⟩, ⟨0, [7], []⟩]) [34, 35, 39, 43] rfl rfl rfl rfl rfl ((rightI_ok hT (s := s) (e := e) hb hS hlq (ints_at Q[i].2 3 false) (by omega)).frameP (perm2 hRq)) (fun r7 K8 h9 => ⟨?_, ?_⟩)
        · rcases h9 with ⟨rfl, rfl⟩
          all_goals simp
        obtain ⟨rfl, rfl⟩ := h9
        try simp only [List.cons_append, List.nil_append]
        refine TD.norm (by simp only [List.set]; rfl) ?_
        refine TD.perm (List.perm_append_comm (l₁ := (s, _) :: objsL Q)) ?_
        simp only [List.cons_append, List.nil_append]
        refine TD.z [34, 44] rfl (q_pickT rfl rfl rfl) ?_
        refine TD.as (pend' := []) [45] rfl rfl (q_assign rfl rfl) ?_
        refine TD.fin ?_
        refine au [14, 5, 1, 23, 2, 3] ?_
        refine TK.maskL [1, 2, 5, 6, 7, 8] ?_
        refine TK.kp (((ja, _) :: (jb, _) :: (j, _) :: (e, _) :: (s, _) :: objsL Q)) ?_
        exact hnext2 _ _ _ (by omega) ⟨q + 1, rfl, by omega, by rw [allS_succ hql, and_tail g9_2]; rfl, rfl⟩
      refine TD.u [2, 34] rfl ?_
      refine TD.u [5, 34] rfl ?_
      refine TD.u [6, 34] rfl ?_
      refine TD.u [34, 36, 37] rfl ?_
      refine TD.u [34, 38] rfl ?_
      refine TD.u [1, 34] rfl ?_
      refine TD.u [8, 34] rfl ?_
      refine TD.u [34, 40, 41] rfl ?_
      refine TD.u [34, 42] rfl ?_
      refine TD.u [34, 35, 39, 43] rfl ?_
      refine TD.z [34, 44] rfl (q_pickF rfl rfl rfl) ?_
      refine TD.as (pend' := []) [45] rfl rfl (q_assign rfl rfl) ?_
      refine TD.fin ?_
      refine au [14, 5, 1, 23, 2, 3] ?_
      refine TK.maskL [1, 2, 5, 6, 7, 8] ?_
      refine TK.kp (((ja, _) :: (jb, _) :: (j, _) :: (e, _) :: (s, _) :: objsL Q)) ?_
      exact hnext2 _ _ _ (by omega) ⟨q + 1, rfl, by omega, by rw [allS_succ hql, and_dead g9_2]; rfl, rfl⟩
    simp only [decide_eq_false_iff_not] at hc1
    obtain rfl : q = l.length := by omega
    rw [List.take_length]
    refine au [16, 4, 5, 1, 3, 20] ?_
    refine ⟨fun hc2 => ?_, fun hc2 => ?_⟩
    · refine au [4, 5, 2, 3] ?_
      refine TK.rt hret [(s, _), (e, _), (j, _)] ?_
      exact ⟨by rw [show togS b l = true from List.any_eq_true.2 ⟨Q[i].2, by rw [hx2]; exact List.getElem_mem _, hc2⟩]; rfl, rfl⟩
    refine au [12, 14, 5, 1, 23, 2, 3] ?_
    refine TK.maskL [1, 2, 5, 6] ?_
    refine TK.kp (((ja, _) :: (jb, _) :: (s, _) :: (j, _) :: (e, _) :: objsL Q)) ?_
    exact hnext _ _ _ (by omega) ⟨i + 1, rfl, by omega, fun S hS => by
      rw [List.take_add_one, List.getElem?_eq_getElem (by omega)] at hS
      rcases List.mem_append.1 hS with hS | hS
      · exact hni S hS
      · rw [show S = Q[i].2 from by rw [hx2]; simpa using hS]; exact hc2, rfl, rfl⟩
  simp only [decide_eq_false_iff_not] at hc0
  obtain rfl : i = Q.length := by omega
  refine au [16, 4, 5, 2, 3] ?_
  refine TK.rt hret [(s, _), (e, _), (j, _)] ?_
  exact ⟨by rw [show togS b l = false from List.any_eq_false.2 fun S hS => by rw [hni S (by rw [hQl, List.take_length]; exact hS)]; decide]; rfl, rfl⟩
end Go.Vel
end
section
set_option linter.all false
namespace Go.Vel
open Go Go.Conc Go.Proofs

theorem keys_ne {Q : List (Nat × List Int)} (hn : (keys (objsL Q)).Nodup) {i : Nat} (hi : i < Q.length) {x : Nat × List Int} (hx : x ∈ Q.take i) : Q[i].1 ≠ x.1 := by
  have e : keys (objsL Q) = Q.map (·.1) := by unfold keys objsL; rw [List.map_map]; rfl
  rw [e, ← List.take_append_drop i Q, List.map_append] at hn
  intro h
  refine (List.nodup_append.1 hn).2.2 x.1 (List.mem_map_of_mem hx) Q[i].1 (List.mem_map_of_mem ?_) h.symm
  rw [List.drop_eq_getElem_cons hi]; exact List.mem_cons_self
theorem mem_next {α : Type} {Q : List α} {i : Nat} {x : α} (hx : x ∈ Q.take i) : x ∈ Q.take (i + 1) := by
  rw [List.take_add_one]; exact List.mem_append_left _ hx
theorem mem_last {α : Type} {Q : List α} {i : Nat} (hi : i < Q.length) : Q[i] ∈ Q.take (i + 1) := by
  rw [List.take_add_one, List.getElem?_eq_getElem hi]; exact List.mem_append_right _ (List.mem_singleton.2 rfl)
theorem first_filt {α : Type} {lt : α → α → Bool} {p : α → Bool} {o : α} {A : List α} {i : Nat} (hi : i < A.length) : firstL lt o ((A.take (i + 1)).filter p) = if (lt A[i] (firstL lt o ((A.take i).filter p)) && p A[i]) = true then A[i] else firstL lt o ((A.take i).filter p) := by
  cases h : p A[i]
  · rw [filt_F hi h, Bool.and_false]; rfl
  · rw [filt_T hi h, Bool.and_true]
    unfold firstL
    rw [List.foldl_append]
    rfl
theorem first_odd {b : Bk} {o : List Int} {A : List (List Int)} {i : Nat} (hi : i < A.length) : firstL ltLists o (oddS b (A.take (i + 1))) = if (ltLists A[i] (firstL ltLists o (oddS b (A.take i))) && !togS b A[i]) = true then A[i] else firstL ltLists o (oddS b (A.take i)) := first_filt hi
theorem not_t1 {a : Bool} (h : (!a) = false) : true = a := by cases a <;> simp_all
theorem good_T {b : Bk} {S : List Int} {B : Bool} (h1 : (!seenM b S) = false) (h2 : (!!badM b S b.seekers.length) = false) : goodS b S = true := by
  unfold goodS
  simp only [Bool.not_eq_false', Bool.not_not] at h1 h2
  rw [h1, h2]; rfl
theorem good_F1 {b : Bk} {S : List Int} (h1 : (!seenM b S) = true) : goodS b S = false := by
  unfold goodS
  simp only [Bool.not_eq_true'] at h1
  rw [h1]; rfl
theorem good_F2 {b : Bk} {S : List Int} (h2 : (!!badM b S b.seekers.length) = true) : goodS b S = false := by
  unfold goodS
  simp only [Bool.not_not] at h2
  rw [h2]; simp
theorem wrong_good {b : Bk} {S : List Int} (h2 : (!!badM b S b.seekers.length) = false) : (wrongL b S b.seekers.length : Int) = wrongM b S := by
  unfold wrongM
  simp only [Bool.not_not] at h2
  rw [if_neg (by rw [h2]; decide)]
theorem ltG_tail {S T : List Int} {n m : Int} (h1 : ¬ n < m) (h2 : (n == m) = true) : ltGuess (S, n) (T, m) = decide (cmpL S T < 0) := by
  have h2 : n = m := by simpa using h2
  rw [Bool.eq_iff_iff, ltGuess_iff, decide_eq_true_eq]
  constructor
  · rintro (h | h)
    · exact absurd h h1
    · exact h.2
  · exact fun h => .inr ⟨h2, h⟩
theorem ltG_ne {S T : List Int} {n m : Int} (h1 : ¬ n < m) (h2 : (n == m) = false) : ltGuess (S, n) (T, m) = false := by
  have h2 : n ≠ m := by simpa using h2
  rw [Bool.eq_false_iff, ne_eq, ltGuess_iff]
  rintro (h | h)
  · exact h1 h
  · exact h2 h.1
theorem ltG_lt {S T : List Int} {n m : Int} (h : n < m) : ltGuess (S, n) (T, m) = true := (ltGuess_iff _ _).2 (.inl h)
def bestS (b : Bk) (i : Nat) : List Int × Int := minL ltGuess ([], 0) (guessS b ((setsB b).take i))
def someS (b : Bk) (i : Nat) : Bool := !(guessS b ((setsB b).take i)).isEmpty
theorem best_F {b : Bk} {i : Nat} (hi : i < (setsB b).length) (h : goodS b (setsB b)[i] = false) : bestS b (i + 1) = bestS b i ∧ someS b (i + 1) = someS b i := by
  unfold bestS someS
  rw [guessS_F hi h]
  exact ⟨rfl, rfl⟩
theorem best_T {b : Bk} {i : Nat} (hi : i < (setsB b).length) (h : goodS b (setsB b)[i] = true) : bestS b (i + 1) = (if (!someS b i || ltGuess ((setsB b)[i], wrongM b (setsB b)[i]) (bestS b i)) = true then ((setsB b)[i], wrongM b (setsB b)[i]) else bestS b i) ∧ someS b (i + 1) = true := by
  unfold bestS someS
  rw [guessS_T hi h]
  refine ⟨?_, by simp⟩
  by_cases hG : guessS b ((setsB b).take i) = []
  · rw [hG]; rfl
  · rw [minL_app hG, show (guessS b ((setsB b).take i)).isEmpty = false from by simpa using hG]
    rfl
theorem best_end {b : Bk} (hb : BkOk b) {i : Nat} (hi : (setsB b).length ≤ i) : bestS b i = likelyM b ∧ someS b i = !(guessM b (allM b)).isEmpty := by
  unfold bestS someS
  rw [List.take_of_length_le hi, likely_eq hb]
  refine ⟨rfl, ?_⟩
  rw [Bool.eq_iff_iff]
  simp only [Bool.not_eq_true', List.isEmpty_eq_false_iff, ne_eq, guess_nil hb]

theorem uptoS_ok {main : Bool} {T : Goroutine → Hp → Prop} (hT : Shut Tryz.prog main T) {gm : Nat → Option Nat} {n : Nat} (hn : n ≤ 1000) : CallK Tryz.prog T gm 100 [intA n] [] (fun r K' => ∃ j, r = .sl j 0 (uptoM n).length ∧ K' = (j, .cells ((uptoM n).map intA) 3 false) :: []) := by
  refine (callK_freeze (upto_ok hT hn)).mono fun r K' h => ?_
  rw [upto_len]
  exact h
set_option maxRecDepth 20000 in
set_option maxHeartbeats 8000000 in
theorem likelyRef_ok {main : Bool} {T : Goroutine → Hp → Prop} (hT : Shut Tryz.prog main T) {gm : Nat → Option Nat} {b : Bk} {s e : Nat} (hse : s ≠ e) (hn : ∀ x ∈ b.seekers, x.name.size ≤ 1000) (hl : b.seen.length ≤ 1000) (hl2 : b.seekers.length ≤ 1000) :
    CallK Tryz.prog T gm 31 [.agg (bookC b s e)] [(s, saysO b), (e, seenO b)] (fun r K' => (checkM b ≠ 0 ∧ r = .tup [.v (.slice none 0 0), intA 0, boolA false, intA (checkM b)] ∧ K' = [(s, saysO b), (e, seenO b)]) ∨ (checkM b = 0 ∧ ∃ j, r = .tup [.sl j 0 (likelyM b).1.length, intA (likelyM b).2, boolA (!(guessM b (allM b)).isEmpty), intA 0] ∧ K' = [(s, saysO b), (e, seenO b), (j, .cells ((likelyM b).1.map intA) 3 false)])) := by
  refine callK_in 80 hT Tryz.func31 fun Y hret => ?_
  refine au [4, 5, 21] ?_
  intro jb hjb
  refine au [2, 2, 2, 2, 3, 4, 4, 5, 8] ?_
  refine TK.cl rfl rfl rfl rfl (checkR_ok hT hse hn hl hl2) ?_
  rintro r1 K2 ⟨rfl, rfl⟩
  refine au [2, 3, 4, 5, 1, 6, 3, 20] ?_
  refine ⟨fun hc0 => ?_, fun hc0 => ?_⟩
  · refine au [4, 5, 1, 2, 2, 2, 2, 3] ?_
    refine TK.rt hret [(s, _), (e, _)] ?_
    exact .inl ⟨by simpa using hc0, rfl, rfl⟩
  have hck : checkM b = 0 := by simpa using hc0
  have hb := bkOk_of hck
  have hh := high_of hck
  have hst := hb.steps
  have hhi := hb.high
  refine au [12, 4, 5, 7, 9, 7, 7, 9] ?_
  refine TK.cl rfl rfl rfl rfl (sets_ok hT (below := b.steps) (most := b.high) ⟨by omega, by omega⟩ ⟨hh, by omega⟩) ?_
  rintro r4 K5 ⟨ja, Q, rfl, hQ, rfl⟩
  refine au [] ?_
  refine TK.perm (List.Perm.cons _ List.perm_append_comm) ?_
  refine au [2, 3, 4, 5, 2] ?_
  refine TK.nilSl 8 3 rfl fun j80 hj80 => ?_
  refine au [3, 4, 5, 2, 2, 3, 4, 4, 5, 2, 3, 13] ?_
  refine TK.maskL [1, 7, 8, 9, 10, 11] ?_
  refine TK.kp ((ja, _) :: (jb, _) :: (s, _) :: (e, _) :: (j80, _) :: objsL Q) ?_
  obtain ⟨Qa, hQa⟩ : ∃ Qa, Qa = (j80, ([] : List Int)) :: Q := ⟨_, rfl⟩
  have hQ : Q.map (·.2) = setsB b := hQ
  have hQl : Q.length = (setsB b).length := by rw [← hQ, List.length_map]
  have hQm2 := setsB_len hb
  refine TK.loopN (fun n env K => ∃ (i : Nat) (x : Nat × List Int), n = Q.length - i ∧ i ≤ Q.length ∧ x ∈ Qa.take (i + 1) ∧ x.2 = (bestS b i).1 ∧ env = slotsA 80 [(1, .ptr jb 0), (7, .row ja Q.length), (8, .sl x.1 0 x.2.length), (9, intA (bestS b i).2), (10, boolA (someS b i)), (11, intA i)] ∧ K = (ja, .row (refsL Q) 28 1) :: (jb, .cells (bookC b s e) 27 true) :: (s, saysO b) :: (e, seenO b) :: objsL Qa) Q.length ⟨0, (j80, []), rfl, Nat.zero_le _, by rw [hQa]; simp, rfl, rfl, by rw [hQa]; rfl⟩ fun n env K hI0 hnext => ?_
  obtain ⟨i, x, rfl, hi, hxm, hxe, rfl, rfl⟩ := hI0
  have hxa : x ∈ Qa := List.mem_of_mem_take hxm
  refine au [4, 4, 5, 1, 1, 28, 6, 3, 20] ?_
  refine ⟨fun hc1 => ?_, fun hc1 => ?_⟩
  · simp only [decide_eq_true_eq] at hc1
    have hil : i < Q.length := by omega
    have hi2 : i < (setsB b).length := by omega
    have hx2 : Q[i].2 = (setsB b)[i] := map_snd_get (B := []) (by rw [hQ, List.append_nil]) (by omega) hil
    have hS : SmOk b Q[i].2 := setsB_ok hb hh _ (by rw [hx2]; exact List.getElem_mem _)
    have hSl := hS.len
    have hQi : Q[i] = Qa[i + 1]'(by rw [hQa]; simpa using hil) := by subst hQa; rfl
    have hQn : Q[i] ∈ Qa := by rw [hQi]; exact List.getElem_mem _
    have hQm : Q[i] ∈ Qa.take (i + 1 + 1) := by rw [hQi]; exact mem_last _
    obtain ⟨Rq, hRq⟩ := objs_split hQn
    refine TK.nd fun hnd => ?_
    have hnQ : (keys (objsL Qa)).Nodup := (List.nodup_cons.1 (List.nodup_cons.1 (List.nodup_cons.1 (List.nodup_cons.1 hnd).2).2).2).2
    have hne : Q[i].1 ≠ x.1 := by rw [hQi]; exact keys_ne hnQ (by rw [hQa]; simpa using hil) hxm
    obtain ⟨Rt, hRt⟩ := objs_two hQn hxa hne
    have hxl : x.2.length ≤ 1000 := by
      rw [hQa] at hxa
      rcases List.mem_cons.1 hxa with rfl | h
      · exact Nat.zero_le _
      · have := (setsB_ok hb hh x.2 (by rw [← hQ]; exact List.mem_map_of_mem h)).len; omega
    refine au [12, 4, 13, 4, 4] ?_
    refine TK.draw [0, 1, 2, 3, 4, 5, 6, 7, 8, 9, 10, 11, 12, 13, 14, 15] [0, 1, 2, 3, 4, 5, 6, 7, 8, 9, 10, 11, 12, 13, 14, 15] (by kernel_rfl) (by kernel_rfl) ?_
    refine TD.y [1] rfl (hq := q_load rfl rfl TySz.h (List.Mem.head _) rfl) (h := ?_)
    refine TD.z [7] rfl (q_move rfl rfl) ?_
    refine TD.z [11] rfl (q_move rfl rfl) ?_
    refine TD.y [31, 32] rfl (hq := q_indexRow rfl rfl rfl SlEl.h (List.Mem.head _) (by omega) (by omega)) (h := ?_)
    refine TD.y [33] rfl (hq := q_load1 rfl rfl TySz.h (List.Mem.head _) (refs_at hil rfl)) (h := ?_)
    refine TD.cl (pend' := [⟨3, [31, 32], [(_, _)]⟩, ⟨2, [11], []⟩, ⟨1, [7], []⟩]) [30, 34] rfl rfl rfl rfl rfl ((seenR_ok hT (s := s) (e := e) hb (ints_at Q[i].2 3 false) (by omega)).frameP (perm2 hRq)) (fun r7 K8 h9 => ⟨?_, ?_⟩)
    · rcases h9 with ⟨rfl, rfl⟩
      all_goals simp
    obtain ⟨rfl, rfl⟩ := h9
    try simp only [List.cons_append, List.nil_append]
    refine TD.norm (by simp only [List.set]; rfl) ?_
    refine TD.perm (List.perm_append_comm (l₁ := (e, _) :: objsL Qa)) ?_
    simp only [List.cons_append, List.nil_append]
    refine TD.z [35] rfl (q_not rfl rfl) ?_
    refine TD.z [36] rfl (q_move rfl rfl) ?_
    refine TD.sp 37 (fun g10_8 => ?_) (fun g10_8 => ?_)
    · refine TD.u [1, 37] rfl ?_
      refine TD.u [7, 37] rfl ?_
      refine TD.u [11, 37] rfl ?_
      refine TD.u [37, 39, 40] rfl ?_
      refine TD.u [37, 41] rfl ?_
      refine TD.u [37, 38, 42] rfl ?_
      refine TD.u [37, 43] rfl ?_
      refine TD.z [37, 44] rfl (q_pickT rfl rfl rfl) ?_
      refine TD.fin ?_
      refine au [18, 16, 5, 1, 23, 2, 3] ?_
      refine TK.maskL [1, 7, 8, 9, 10, 11] ?_
      refine TK.kp (((ja, _) :: (jb, _) :: (s, _) :: (e, _) :: objsL Qa)) ?_
      have hbt := best_F hi2 (by rw [← hx2]; exact good_F1 g10_8)
      exact hnext _ _ _ (by omega) ⟨i + 1, x, rfl, by omega, mem_next hxm, by rw [hbt.1]; exact hxe, by rw [hbt.1, hbt.2] <;> rfl, rfl⟩
    refine TD.y [1, 37] rfl (hq := q_load rfl rfl TySz.h (List.Mem.head _) rfl) (h := ?_)
    refine TD.z [7, 37] rfl (q_move rfl rfl) ?_
    refine TD.z [11, 37] rfl (q_move rfl rfl) ?_
    refine TD.y [37, 39, 40] rfl (hq := q_indexRow rfl rfl rfl SlEl.h (List.Mem.head _) (by omega) (by omega)) (h := ?_)
    refine TD.y [37, 41] rfl (hq := q_load1 rfl rfl TySz.h (List.Mem.head _) (refs_at hil rfl)) (h := ?_)
    refine TD.cl (pend' := [⟨11, [37, 39, 40], [(_, _)]⟩, ⟨10, [11, 37], []⟩, ⟨9, [7, 37], []⟩, ⟨6, [35], []⟩, ⟨3, [31, 32], [(_, _)]⟩, ⟨2, [11], []⟩, ⟨1, [7], []⟩]) [37, 38, 42] rfl rfl rfl rfl rfl ((glassR_ok hT (s := s) (e := e) hb hS (ints_at Q[i].2 3 false) (by omega)).frameP (perm2 hRq)) (fun r10 K11 h12 => ⟨?_, ?_⟩)
    · rcases h12 with ⟨rfl, rfl⟩
      all_goals simp
    obtain ⟨rfl, rfl⟩ := h12
    try simp only [List.cons_append, List.nil_append]
    refine TD.norm (by simp only [List.set]; rfl) ?_
    refine TD.perm (List.perm_append_comm (l₁ := (s, _) :: objsL Qa)) ?_
    simp only [List.cons_append, List.nil_append]
    refine TD.z [37, 43] rfl (q_not rfl rfl) ?_
    refine TD.z [37, 44] rfl (q_pickF rfl rfl rfl) ?_
    refine TD.fin ?_
    refine au [20] ?_
    refine ⟨fun hc2 => ?_, fun hc2 => ?_⟩
    · refine au [16, 5, 1, 23, 2, 3] ?_
      refine TK.maskL [1, 7, 8, 9, 10, 11] ?_
      refine TK.kp (((ja, _) :: (jb, _) :: (s, _) :: (e, _) :: objsL Qa)) ?_
      have hbt := best_F hi2 (by rw [← hx2]; exact good_F2 hc2)
      exact hnext _ _ _ (by omega) ⟨i + 1, x, rfl, by omega, mem_next hxm, by rw [hbt.1]; exact hxe, by rw [hbt.1, hbt.2] <;> rfl, rfl⟩
    have hg : goodS b (setsB b)[i] = true := by rw [← hx2]; exact good_T (B := true) g10_8 hc2
    have hwm := wrong_good hc2
    refine au [12, 4] ?_
    refine TK.draw [0, 1, 2, 3, 4, 5, 6] [0, 1, 2, 3, 4, 5, 6] (by kernel_rfl) (by kernel_rfl) ?_
    refine TD.y [1] rfl (hq := q_load rfl rfl TySz.h (List.Mem.head _) rfl) (h := ?_)
    refine TD.z [7] rfl (q_move rfl rfl) ?_
    refine TD.z [11] rfl (q_move rfl rfl) ?_
    refine TD.y [47, 48] rfl (hq := q_indexRow rfl rfl rfl SlEl.h (List.Mem.head _) (by omega) (by omega)) (h := ?_)
    refine TD.y [49] rfl (hq := q_load1 rfl rfl TySz.h (List.Mem.head _) (refs_at hil rfl)) (h := ?_)
    refine TD.cl (pend' := [⟨3, [47, 48], [(_, _)]⟩, ⟨2, [11], []⟩, ⟨1, [7], []⟩]) [46, 50] rfl rfl rfl rfl rfl ((wrongR_ok hT (s := s) (e := e) hb hS (ints_at Q[i].2 3 false) (by omega)).frameP (perm2 hRq)) (fun r13 K14 h15 => ⟨?_, ?_⟩)
    · rcases h15 with ⟨rfl, rfl⟩
      all_goals simp
    obtain ⟨rfl, rfl⟩ := h15
    try simp only [List.cons_append, List.nil_append]
    refine TD.norm (by simp only [List.set]; rfl) ?_
    refine TD.perm (List.perm_append_comm (l₁ := (s, _) :: objsL Qa)) ?_
    simp only [List.cons_append, List.nil_append]
    refine TD.as (pend' := []) [51] rfl rfl (q_assign rfl rfl) ?_
    refine TD.fin ?_
    refine au [4, 5, 1, 30, 1] ?_
    refine TK.sp 54 (fun g12_3 => ?_) (fun g12_3 => ?_)
    · refine au [11, 11, 11, 26, 1, 11, 11, 11, 11, 11, 11, 11, 11, 11, 11, 11, 26, 3, 18, 5, 1, 1, 37] ?_
      refine TK.a rfl (q_load1 rfl rfl TySz.h (by repeat (first | exact List.Mem.head _ | assumption | apply List.Mem.tail)) (refs_at hil rfl)) ?_
      refine au [1, 2, 2, 2, 3, 14, 5, 1, 23, 2, 3] ?_
      refine TK.maskL [1, 7, 8, 9, 10, 11] ?_
      refine TK.kp (((ja, _) :: (jb, _) :: (s, _) :: (e, _) :: objsL Qa)) ?_
      have hbt := best_T hi2 hg
      rw [show (!someS b i || ltGuess ((setsB b)[i], wrongM b (setsB b)[i]) (bestS b i)) = true from by rw [g12_3]; rfl] at hbt
      exact hnext _ _ _ (by omega) ⟨i + 1, Q[i], rfl, by omega, hQm, by rw [hbt.1]; exact hx2, by rw [hbt.1, hbt.2, ← hx2, ← hwm] <;> rfl, rfl⟩
    refine au [1, 1, 6, 25, 1] ?_
    refine TK.sp 59 (fun g12_8 => ?_) (fun g12_8 => ?_)
    · refine au [11, 11, 11, 11, 11, 11, 11, 11, 11, 11, 11, 26, 3, 18, 5, 1, 1, 37] ?_
      refine TK.a rfl (q_load1 rfl rfl TySz.h (by repeat (first | exact List.Mem.head _ | assumption | apply List.Mem.tail)) (refs_at hil rfl)) ?_
      refine au [1, 2, 2, 2, 3, 14, 5, 1, 23, 2, 3] ?_
      refine TK.maskL [1, 7, 8, 9, 10, 11] ?_
      refine TK.kp (((ja, _) :: (jb, _) :: (s, _) :: (e, _) :: objsL Qa)) ?_
      have hbt := best_T hi2 hg
      rw [show (!someS b i || ltGuess ((setsB b)[i], wrongM b (setsB b)[i]) (bestS b i)) = true from by rw [← hx2, ltG_lt (T := (bestS b i).1) (by rw [← hwm]; exact of_decide_eq_true g12_8)]; exact Bool.or_true _] at hbt
      exact hnext _ _ _ (by omega) ⟨i + 1, Q[i], rfl, by omega, hQm, by rw [hbt.1]; exact hx2, by rw [hbt.1, hbt.2, ← hx2, ← hwm] <;> rfl, rfl⟩
    refine au [1, 1, 6, 1] ?_
    refine TK.sp 63 (fun g12_12 => ?_) (fun g12_12 => ?_)
    · refine au [1, 1, 37] ?_
      refine TK.a rfl (q_load1 rfl rfl TySz.h (by repeat (first | exact List.Mem.head _ | assumption | apply List.Mem.tail)) (refs_at hil rfl)) ?_
      refine au [1] ?_
      refine TK.cl rfl rfl rfl rfl ((earlier_ok hT hne (ints_at Q[i].2 3 false) (ints_at x.2 3 false) (by omega) (by omega)).frameP hRt) ?_
      rintro r16 K17 ⟨rfl, rfl⟩
      refine au [] ?_
      refine TK.perm (List.perm_append_comm (l₁ := objsL Qa)) ?_
      simp only [List.cons_append, List.nil_append]
      refine au [26, 25, 3, 20] ?_
      refine ⟨fun hc3 => ?_, fun hc3 => ?_⟩
      · refine au [5, 1, 1, 37] ?_
        refine TK.a rfl (q_load1 rfl rfl TySz.h (by repeat (first | exact List.Mem.head _ | assumption | apply List.Mem.tail)) (refs_at hil rfl)) ?_
        refine au [1, 2, 2, 2, 3, 14, 5, 1, 23, 2, 3] ?_
        refine TK.maskL [1, 7, 8, 9, 10, 11] ?_
        refine TK.kp (((ja, _) :: (jb, _) :: (s, _) :: (e, _) :: objsL Qa)) ?_
        have hbt := best_T hi2 hg
        rw [show (!someS b i || ltGuess ((setsB b)[i], wrongM b (setsB b)[i]) (bestS b i)) = true from by rw [← hx2, ltG_tail (T := (bestS b i).1) (by rw [← hwm]; exact of_decide_eq_false g12_8) (by rw [← hwm]; exact g12_12), ← hxe, hc3]; exact Bool.or_true _] at hbt
        exact hnext _ _ _ (by omega) ⟨i + 1, Q[i], rfl, by omega, hQm, by rw [hbt.1]; exact hx2, by rw [hbt.1, hbt.2, ← hx2, ← hwm] <;> rfl, rfl⟩
      refine au [12, 14, 5, 1, 23, 2, 3] ?_
      refine TK.maskL [1, 7, 8, 9, 10, 11] ?_
      refine TK.kp (((ja, _) :: (jb, _) :: (s, _) :: (e, _) :: objsL Qa)) ?_
      have hbt := best_T hi2 hg
      rw [show (!someS b i || ltGuess ((setsB b)[i], wrongM b (setsB b)[i]) (bestS b i)) = false from by rw [g12_3, ← hx2, ltG_tail (T := (bestS b i).1) (by rw [← hwm]; exact of_decide_eq_false g12_8) (by rw [← hwm]; exact g12_12), ← hxe, hc3]; rfl] at hbt
      have hbs : someS b (i + 1) = someS b i := hbt.2.trans (show true = someS b i from not_t1 g12_3)
      exact hnext _ _ _ (by omega) ⟨i + 1, x, rfl, by omega, mem_next hxm, by rw [hbt.1]; exact hxe, by rw [hbt.1, hbs] <;> rfl, rfl⟩
    refine au [11, 11, 11, 11, 11, 11, 25, 25, 3, 19, 12, 14, 5, 1, 23, 2, 3] ?_
    refine TK.maskL [1, 7, 8, 9, 10, 11] ?_
    refine TK.kp (((ja, _) :: (jb, _) :: (s, _) :: (e, _) :: objsL Qa)) ?_
    have hbt := best_T hi2 hg
    rw [show (!someS b i || ltGuess ((setsB b)[i], wrongM b (setsB b)[i]) (bestS b i)) = false from by rw [g12_3, ← hx2, ltG_ne (T := (bestS b i).1) (by rw [← hwm]; exact of_decide_eq_false g12_8) (by rw [← hwm]; exact g12_12)]; rfl] at hbt
    have hbs : someS b (i + 1) = someS b i := hbt.2.trans (show true = someS b i from not_t1 g12_3)
    exact hnext _ _ _ (by omega) ⟨i + 1, x, rfl, by omega, mem_next hxm, by rw [hbt.1]; exact hxe, by rw [hbt.1, hbs] <;> rfl, rfl⟩
  simp only [decide_eq_false_iff_not] at hc1
  obtain rfl : i = Q.length := by omega
  have hbe := best_end hb (i := Q.length) (by omega)
  obtain ⟨Rx, hRx⟩ := objs_split hxa
  refine au [16, 4, 5, 1, 1, 1, 2, 2, 2, 2, 3] ?_
  refine TK.rt hret [(s, _), (e, _), (x.1, _)] ?_ (hs := (by repeat (first | exact Split.none _ | exact Split.all _ | (apply Split.rem; repeat (first | exact Rem.head | exact hRx | apply Rem.tail)) | apply Split.right)))
  exact .inr ⟨hck, x.1, by rw [← hbe.1, ← hbe.2, hxe] <;> rfl, by rw [← hbe.1, hxe]⟩

set_option maxRecDepth 20000 in
set_option maxHeartbeats 4000000 in
theorem askRef_ok {main : Bool} {T : Goroutine → Hp → Prop} (hT : Shut Tryz.prog main T) {gm : Nat → Option Nat} {b : Bk} {s e : Nat} (hse : s ≠ e) (hn : ∀ x ∈ b.seekers, x.name.size ≤ 1000) (hl : b.seen.length ≤ 1000) (hl2 : b.seekers.length ≤ 1000) :
    CallK Tryz.prog T gm 35 [.agg (bookC b s e)] [(s, saysO b), (e, seenO b)] (fun r K' => r = .tup [intA (askApi b).1, intA (askApi b).2.1, intA (askApi b).2.2] ∧ K' = [(s, saysO b), (e, seenO b)]) := by
  refine callK_in 44 hT Tryz.func35 fun Y hret => ?_
  refine au [4, 5, 21] ?_
  intro jb hjb
  refine au [2, 2, 2, 3, 4, 5, 8] ?_
  refine TK.cl rfl rfl rfl rfl (knownR_ok hT (t := true) hse hn hl hl2) ?_
  rintro r1 K2 h3
  rcases h3 with ⟨bar, hbar, ⟨hb0, rfl, rfl⟩ | ⟨hb0, j, P, Q, rfl, hP, hPQ, rfl⟩⟩
  · refine au [1, 10, 10, 2, 2, 3, 4, 4, 5, 1, 6, 3, 20] ?_
    refine ⟨fun hc0 => ?_, fun hc0 => ?_⟩
    · skip
      refine au [4, 5, 1, 2, 2, 2, 3] ?_
      refine TK.rt hret [(s, _), (e, _)] ?_
      exact ⟨by unfold askApi; rw [if_pos (by rw [← knownBar_eq, ← hbar]; exact hb0), ← knownBar_eq, ← hbar] <;> rfl, rfl⟩
    exact absurd (by simpa using hc0) hb0
  · refine au [] ?_
    refine TK.perm (.cons _ (.cons _ (.cons _ List.perm_append_comm))) ?_
    rw [hb0] at hbar
    obtain ⟨hck, htr⟩ := known0 hbar.symm
    have hb := bkOk_of hck
    have hh := high_of hck
    have hL : LsIn P Q (statesR b) := ⟨hP, hPQ⟩
    have hlen := statesR_len hb
    have hSm := statesR_ok' hb hh
    have hS1 : ∀ S ∈ statesR b, S.length ≤ 1000 := fun S hS => by have := (hSm S hS).len; omega
    have hst := hb.steps
    have hlen2 := hL.len
    have hlen3 := len_eq hb
    refine au [1, 10, 10, 2, 2, 3, 4, 4, 5, 1, 6, 3, 20] ?_
    refine ⟨fun hc0 => ?_, fun hc0 => ?_⟩
    · simp at hc0
    skip
    refine au [12, 4, 5, 1, 28, 2, 2, 3, 4, 4, 5, 2, 3, 13] ?_
    refine TK.maskL [1, 5, 7, 8, 9] ?_
    refine TK.loopN (fun n env K => ∃ (i : Nat), n = b.steps.toNat - i ∧ i ≤ b.steps.toNat ∧ env = slotsA 44 [(1, .ptr jb 0), (5, .row j P.length), (7, intA (halvesM P.length (fun k => isStepM b k) (fun k => oftM (statesM b) k) i).1), (8, intA (halvesM P.length (fun k => isStepM b k) (fun k => oftM (statesM b) k) i).2), (9, intA i)] ∧ K = (j, .row (refsL P) 28 1) :: (s, saysO b) :: (e, seenO b) :: (jb, .cells (bookC b s e) 27 true) :: objsL Q) b.steps.toNat ⟨0, rfl, Nat.zero_le _, rfl, rfl⟩ fun n env K hI hnext => ?_
    obtain ⟨i, rfl, hi, rfl, rfl⟩ := hI
    refine au [4, 4, 5, 1, 7, 9, 6, 3, 20] ?_
    refine ⟨fun hc1 => ?_, fun hc1 => ?_⟩
    · simp only [decide_eq_true_eq] at hc1
      have hil : i < b.steps.toNat := by omega
      have hsp : isStepM b i = true := by unfold isStepM; simp; omega
      have hoe := oft_eq hb (i : Int)
      have hob := oftR_le (statesR b) i
      refine au [12, 4, 13, 4, 5, 1, 1] ?_
      refine TK.cl rfl rfl rfl rfl (oftenR_ok hT hL hlen hS1) ?_
      rintro r4 K5 ⟨rfl, rfl⟩
      refine au [] ?_
      refine TK.perm (.cons _ List.perm_append_comm) ?_
      simp only [List.cons_append, List.nil_append]
      rw [hoe]
      refine au [2, 3, 4, 5, 1, 1, 28, 1, 24] ?_
      refine TK.a rfl (q_max rfl rfl rfl) ?_
      refine au [2, 3, 4, 5, 1, 1, 6, 3, 20] ?_
      refine ⟨fun hc2 => ?_, fun hc2 => ?_⟩
      · refine au [5, 1, 1, 2, 2, 3, 14, 5, 1, 23, 2, 3] ?_
        refine TK.maskL [1, 5, 7, 8, 9] ?_
        refine TK.kp (((j, _) :: (s, _) :: (e, _) :: (jb, _) :: objsL Q)) ?_
        have hst2 : (halvesM P.length (fun k => isStepM b k) (fun k => oftM (statesM b) k) (i + 1)) = ((i : Int), maxM (oftM (statesM b) i) (P.length - oftM (statesM b) i)) := if_pos (show ((isStepM b i) && decide (maxM (oftM (statesM b) i) (P.length - oftM (statesM b) i) < (halvesM P.length (fun k => isStepM b k) (fun k => oftM (statesM b) k) i).2)) = true by rw [hsp]; exact hc2)
        exact hnext _ _ _ (by omega) ⟨i + 1, rfl, by omega, by rw [hst2]; rfl, rfl⟩
      refine au [12, 14, 5, 1, 23, 2, 3] ?_
      refine TK.maskL [1, 5, 7, 8, 9] ?_
      refine TK.kp (((j, _) :: (s, _) :: (e, _) :: (jb, _) :: objsL Q)) ?_
      have hst2 : (halvesM P.length (fun k => isStepM b k) (fun k => oftM (statesM b) k) (i + 1)) = (halvesM P.length (fun k => isStepM b k) (fun k => oftM (statesM b) k) i) := if_neg (show ¬ ((isStepM b i) && decide (maxM (oftM (statesM b) i) (P.length - oftM (statesM b) i) < (halvesM P.length (fun k => isStepM b k) (fun k => oftM (statesM b) k) i).2)) = true by rw [hsp]; exact fun h => absurd (hc2.symm.trans h) (by decide))
      exact hnext _ _ _ (by omega) ⟨i + 1, rfl, by omega, by rw [hst2] <;> rfl, rfl⟩
    simp only [decide_eq_false_iff_not] at hc1
    obtain rfl : i = b.steps.toNat := by omega
    refine au [16, 4, 5, 1, 1, 2, 2, 2, 3] ?_
    refine TK.rt hret [(s, _), (e, _)] ?_
    exact ⟨by unfold askApi; rw [if_neg (by rw [← knownBar_eq, ← hbar]; decide), ← hlen3, ← hlen2] <;> rfl, rfl⟩

set_option maxRecDepth 20000 in
set_option maxHeartbeats 4000000 in
theorem lendRef_ok {main : Bool} {T : Goroutine → Hp → Prop} (hT : Shut Tryz.prog main T) {gm : Nat → Option Nat} {b : Bk} {s e : Nat} (hse : s ≠ e) (hn : ∀ x ∈ b.seekers, x.name.size ≤ 1000) (hl : b.seen.length ≤ 1000) (hl2 : b.seekers.length ≤ 1000) :
    CallK Tryz.prog T gm 37 [.agg (bookC b s e)] [(s, saysO b), (e, seenO b)] (fun r K' => r = .tup [intA (lendApi b).1, intA (lendApi b).2.1, intA (lendApi b).2.2] ∧ K' = [(s, saysO b), (e, seenO b)]) := by
  refine callK_in 55 hT Tryz.func37 fun Y hret => ?_
  refine au [4, 5, 21] ?_
  intro jb hjb
  refine au [2, 2, 2, 3, 4, 5, 8] ?_
  refine TK.cl rfl rfl rfl rfl (knownR_ok hT (t := true) hse hn hl hl2) ?_
  rintro r1 K2 h3
  rcases h3 with ⟨bar, hbar, ⟨hb0, rfl, rfl⟩ | ⟨hb0, j, P, Q, rfl, hP, hPQ, rfl⟩⟩
  · refine au [1, 10, 10, 2, 2, 3, 4, 4, 5, 1, 6, 3, 20] ?_
    refine ⟨fun hc0 => ?_, fun hc0 => ?_⟩
    · skip
      refine au [4, 5, 1, 2, 2, 2, 3] ?_
      refine TK.rt hret [(s, _), (e, _)] ?_
      exact ⟨by unfold lendApi; rw [if_pos (by rw [← knownBar_eq, ← hbar]; exact hb0), ← knownBar_eq, ← hbar] <;> rfl, rfl⟩
    exact absurd (by simpa using hc0) hb0
  · refine au [] ?_
    refine TK.perm (.cons _ (.cons _ (.cons _ List.perm_append_comm))) ?_
    rw [hb0] at hbar
    obtain ⟨hck, htr⟩ := known0 hbar.symm
    have hb := bkOk_of hck
    have hh := high_of hck
    have hL : LsIn P Q (statesR b) := ⟨hP, hPQ⟩
    have hlen := statesR_len hb
    have hSm := statesR_ok' hb hh
    have hS1 : ∀ S ∈ statesR b, S.length ≤ 1000 := fun S hS => by have := (hSm S hS).len; omega
    have hst := hb.steps
    have hlen2 := hL.len
    have hlen3 := len_eq hb
    refine au [1, 10, 10, 2, 2, 3, 4, 4, 5, 1, 6, 3, 20] ?_
    refine ⟨fun hc0 => ?_, fun hc0 => ?_⟩
    · simp at hc0
    skip
    refine au [12, 4, 5, 1, 28, 2, 2, 3, 4, 4, 5, 2, 3, 13] ?_
    refine TK.maskL [1, 5, 7, 8, 9] ?_
    refine TK.loopN (fun n env K => ∃ (i : Nat), n = b.seekers.length - i ∧ i ≤ b.seekers.length ∧ env = slotsA 55 [(1, .ptr jb 0), (5, .row j P.length), (7, intA (halvesM P.length (fun k => !glassB b k) (fun k => rightsM b (statesM b) k) i).1), (8, intA (halvesM P.length (fun k => !glassB b k) (fun k => rightsM b (statesM b) k) i).2), (9, intA i)] ∧ K = (j, .row (refsL P) 28 1) :: (s, saysO b) :: (e, seenO b) :: (jb, .cells (bookC b s e) 27 true) :: objsL Q) b.seekers.length ⟨0, rfl, Nat.zero_le _, rfl, rfl⟩ fun n env K hI hnext => ?_
    obtain ⟨i, rfl, hi, rfl, rfl⟩ := hI
    refine au [4, 4, 5, 1, 7, 9, 28, 6, 3, 20] ?_
    refine ⟨fun hc1 => ?_, fun hc1 => ?_⟩
    · simp only [decide_eq_true_eq] at hc1
      have hil : i < b.seekers.length := by omega
      have hre := rights_eq (b := b) hb i
      have hrb := rightsM_le b (statesR b) i
      refine au [12, 4, 13, 4, 5, 8, 1, 1] ?_
      refine TK.cl rfl rfl rfl rfl (rightsR_ok hT (s := s) (e := e) hL hlen hb hSm hil) ?_
      rintro r4 K5 ⟨rfl, rfl⟩
      refine au [] ?_
      refine TK.perm (.cons _ (.cons _ List.perm_append_comm)) ?_
      simp only [List.cons_append, List.nil_append]
      rw [hre]
      refine au [2, 3, 4, 5, 1, 1, 28, 1, 24] ?_
      refine TK.a rfl (q_max rfl rfl rfl) ?_
      refine au [2, 3, 4, 5, 1, 1, 6, 1] ?_
      refine TK.sp 42 (fun g10_4 => ?_) (fun g10_4 => ?_)
      · refine au [7, 9, 1, 36, 7] ?_
        refine TK.a rfl (q_load1 rfl rfl TySz.h (by repeat (first | exact List.Mem.head _ | assumption | apply List.Mem.tail)) (says_glass hil)) ?_
        refine au [30, 26, 3, 20] ?_
        refine ⟨fun hc2 => ?_, fun hc2 => ?_⟩
        · refine au [5, 1, 1, 2, 2, 3, 14, 5, 1, 23, 2, 3] ?_
          refine TK.maskL [1, 5, 7, 8, 9] ?_
          refine TK.kp (((j, _) :: (s, _) :: (e, _) :: (jb, _) :: objsL Q)) ?_
          have hst2 : (halvesM P.length (fun k => !glassB b k) (fun k => rightsM b (statesM b) k) (i + 1)) = ((i : Int), maxM (rightsM b (statesM b) i) (P.length - rightsM b (statesM b) i)) := if_pos (show ((!glassB b i) && decide (maxM (rightsM b (statesM b) i) (P.length - rightsM b (statesM b) i) < (halvesM P.length (fun k => !glassB b k) (fun k => rightsM b (statesM b) k) i).2)) = true by rw [show decide (maxM (rightsM b (statesM b) i) (P.length - rightsM b (statesM b) i) < (halvesM P.length (fun k => !glassB b k) (fun k => rightsM b (statesM b) k) i).2) = true from g10_4]; simpa using hc2)
          exact hnext _ _ _ (by omega) ⟨i + 1, rfl, by omega, by rw [hst2]; rfl, rfl⟩
        refine au [12, 14, 5, 1, 23, 2, 3] ?_
        refine TK.maskL [1, 5, 7, 8, 9] ?_
        refine TK.kp (((j, _) :: (s, _) :: (e, _) :: (jb, _) :: objsL Q)) ?_
        have hst2 : (halvesM P.length (fun k => !glassB b k) (fun k => rightsM b (statesM b) k) (i + 1)) = (halvesM P.length (fun k => !glassB b k) (fun k => rightsM b (statesM b) k) i) := if_neg (show ¬ ((!glassB b i) && decide (maxM (rightsM b (statesM b) i) (P.length - rightsM b (statesM b) i) < (halvesM P.length (fun k => !glassB b k) (fun k => rightsM b (statesM b) k) i).2)) = true by rw [show decide (maxM (rightsM b (statesM b) i) (P.length - rightsM b (statesM b) i) < (halvesM P.length (fun k => !glassB b k) (fun k => rightsM b (statesM b) k) i).2) = true from g10_4]; simpa using hc2)
        exact hnext _ _ _ (by omega) ⟨i + 1, rfl, by omega, by rw [hst2] <;> rfl, rfl⟩
      refine au [11, 11, 11, 11, 11, 11, 11, 25, 3, 19, 12, 14, 5, 1, 23, 2, 3] ?_
      refine TK.maskL [1, 5, 7, 8, 9] ?_
      refine TK.kp (((j, _) :: (s, _) :: (e, _) :: (jb, _) :: objsL Q)) ?_
      have hst2 : (halvesM P.length (fun k => !glassB b k) (fun k => rightsM b (statesM b) k) (i + 1)) = (halvesM P.length (fun k => !glassB b k) (fun k => rightsM b (statesM b) k) i) := if_neg (show ¬ ((!glassB b i) && decide (maxM (rightsM b (statesM b) i) (P.length - rightsM b (statesM b) i) < (halvesM P.length (fun k => !glassB b k) (fun k => rightsM b (statesM b) k) i).2)) = true by rw [show decide (maxM (rightsM b (statesM b) i) (P.length - rightsM b (statesM b) i) < (halvesM P.length (fun k => !glassB b k) (fun k => rightsM b (statesM b) k) i).2) = false from g10_4]; simp)
      exact hnext _ _ _ (by omega) ⟨i + 1, rfl, by omega, by rw [hst2] <;> rfl, rfl⟩
    simp only [decide_eq_false_iff_not] at hc1
    obtain rfl : i = b.seekers.length := by omega
    refine au [16, 4, 5, 1, 1, 2, 2, 2, 3] ?_
    refine TK.rt hret [(s, _), (e, _)] ?_
    exact ⟨by unfold lendApi; rw [if_neg (by rw [← knownBar_eq, ← hbar]; decide), ← hlen3, ← hlen2] <;> rfl, rfl⟩

set_option maxRecDepth 20000 in
set_option maxHeartbeats 8000000 in
theorem clashRef_ok {main : Bool} {T : Goroutine → Hp → Prop} (hT : Shut Tryz.prog main T) {gm : Nat → Option Nat} {b : Bk} {s e : Nat} (hse : s ≠ e) (hn : ∀ x ∈ b.seekers, x.name.size ≤ 1000) (hl : b.seen.length ≤ 1000) (hl2 : b.seekers.length ≤ 1000) :
    CallK Tryz.prog T gm 33 [.agg (bookC b s e)] [(s, saysO b), (e, seenO b)] (fun r K' => (checkM b ≠ 0 ∧ r = .tup [.v (.slice none 0 0), intA (checkM b)] ∧ K' = [(s, saysO b), (e, seenO b)]) ∨ (checkM b = 0 ∧ togM b (everyM b) = true ∧ r = .tup [.v (.slice none 0 0), intA 0] ∧ K' = [(s, saysO b), (e, seenO b)]) ∨ (checkM b = 0 ∧ togM b (everyM b) = false ∧ ∃ j, r = .tup [.sl j 0 (clashM b).length, intA 0] ∧ K' = [(s, saysO b), (e, seenO b), (j, .cells ((clashM b).map intA) 3 false)])) := by
  refine callK_in 52 hT Tryz.func33 fun Y hret => ?_
  refine au [4, 5, 21] ?_
  intro jb hjb
  refine au [2, 2, 3, 4, 4, 5, 8] ?_
  refine TK.cl rfl rfl rfl rfl (checkR_ok hT hse hn hl hl2) ?_
  rintro r1 K2 ⟨rfl, rfl⟩
  refine au [2, 3, 4, 5, 1, 6, 3, 20] ?_
  refine ⟨fun hc0 => ?_, fun hc0 => ?_⟩
  · refine au [4, 5, 1, 2, 2, 3] ?_
    refine TK.rt hret [(s, _), (e, _)] ?_
    exact .inl ⟨by simpa using hc0, rfl, rfl⟩
  have hck : checkM b = 0 := by simpa using hc0
  have hb := bkOk_of hck
  have hh := high_of hck
  have hn5 := hb.ns
  have hup := upto_len b.seekers.length
  refine au [12, 4, 5, 7, 9, 28, 2, 3, 4, 4] ?_
  refine TK.draw [0, 1, 2, 3] [0, 1, 2, 3] (by kernel_rfl) (by kernel_rfl) ?_
  refine TD.y [1] rfl (hq := q_load rfl rfl TySz.h (List.Mem.head _) rfl) (h := ?_)
  refine TD.z [5] rfl (q_move rfl rfl) ?_
  refine TD.cl (pend' := [⟨0, [1], [(_, _)]⟩]) [18] rfl rfl rfl rfl rfl (uptoS_ok hT (n := b.seekers.length) (by omega)) (fun r4 K5 h6 => ⟨?_, ?_⟩)
  · rcases h6 with ⟨ju, rfl, rfl⟩
    all_goals simp
  obtain ⟨ju, rfl, rfl⟩ := h6
  try simp only [List.cons_append, List.nil_append]
  refine TD.norm (by simp only [List.set]; rfl) ?_
  refine TD.cl (pend' := []) [17, 19] rfl rfl rfl rfl rfl (togS_ok hT hse hb hh (ints_at (uptoM b.seekers.length) 3 false) (by omega) (fun x hx => upto_mem hx)) (fun r7 K8 h9 => ⟨?_, ?_⟩)
  · rcases h9 with ⟨rfl, rfl⟩
    all_goals simp
  obtain ⟨rfl, rfl⟩ := h9
  try simp only [List.cons_append, List.nil_append]
  refine TD.norm (by simp only [List.set]; rfl) ?_
  refine TD.fin ?_
  refine au [20] ?_
  refine ⟨fun hc1 => ?_, fun hc1 => ?_⟩
  · refine au [4, 5, 2, 2, 3] ?_
    refine TK.rt hret [(s, _), (e, _)] ?_
    exact .inr (.inl ⟨hck, by rw [tog_every hb]; exact hc1, rfl, rfl⟩)
  refine au [12, 4, 5, 1] ?_
  refine TK.cl rfl rfl rfl rfl (uptoS_ok hT (n := b.seekers.length) (by omega)) ?_
  rintro r10 K11 ⟨jU, rfl, rfl⟩
  refine au [1, 1] ?_
  refine TK.cl rfl rfl rfl rfl (sets_ok hT (below := (b.seekers.length : Int)) (most := (b.seekers.length : Int)) ⟨by omega, by omega⟩ ⟨by omega, by omega⟩) ?_
  rintro r13 K14 ⟨ja, Q, rfl, hQ, rfl⟩
  refine au [] ?_
  refine TK.perm (List.Perm.cons _ List.perm_append_comm) ?_
  simp only [List.cons_append, List.nil_append]
  refine au [2, 2, 3, 4, 4, 5, 2, 3, 13] ?_
  refine TK.maskL [1, 6, 7, 8] ?_
  refine TK.kp ((ja, _) :: (jb, _) :: (s, _) :: (e, _) :: (jU, _) :: objsL Q) ?_
  obtain ⟨Qa, hQa⟩ : ∃ Qa, Qa = (jU, uptoM b.seekers.length) :: Q := ⟨_, rfl⟩
  rw [Int.toNat_natCast] at hQ
  have hQl : Q.length = (setsM b.seekers.length b.seekers.length).length := by rw [← hQ, List.length_map]
  have hQm2 : Q.length ≤ 65536 := by rw [hQl]; exact Nat.le_trans (setsM_len _ _) (pow_le16 (by omega))
  refine TK.loopN (fun n env K => ∃ (i : Nat) (x : Nat × List Int), n = Q.length - i ∧ i ≤ Q.length ∧ x ∈ Qa.take (i + 1) ∧ x.2 = (firstL ltLists (uptoM b.seekers.length) (oddS b ((setsM b.seekers.length b.seekers.length).take i))) ∧ env = slotsA 52 [(1, .ptr jb 0), (6, .sl x.1 0 x.2.length), (7, .row ja Q.length), (8, intA i)] ∧ K = (ja, .row (refsL Q) 28 1) :: (jb, .cells (bookC b s e) 27 true) :: (s, saysO b) :: (e, seenO b) :: objsL Qa) Q.length ⟨0, (jU, uptoM b.seekers.length), rfl, Nat.zero_le _, by rw [hQa]; simp, rfl, rfl, by rw [hQa]; rfl⟩ fun n env K hI0 hnext => ?_
  obtain ⟨i, x, rfl, hi, hxm, hxe, rfl, rfl⟩ := hI0
  have hxa : x ∈ Qa := List.mem_of_mem_take hxm
  refine au [4, 4, 5, 1, 1, 28, 6, 3, 20] ?_
  refine ⟨fun hc2 => ?_, fun hc2 => ?_⟩
  · simp only [decide_eq_true_eq] at hc2
    have hil : i < Q.length := by omega
    have hi2 : i < (setsM b.seekers.length b.seekers.length).length := by omega
    have hx2 : Q[i].2 = (setsM b.seekers.length b.seekers.length)[i] := map_snd_get (B := []) (by rw [hQ, List.append_nil]) (by omega) hil
    have hSm : Q[i].2 ∈ setsM b.seekers.length b.seekers.length := by rw [hx2]; exact List.getElem_mem _
    have hSl := setsM_short (most := (b.seekers.length : Int)) (by omega) _ _ hSm
    have hQi : Q[i] = Qa[i + 1]'(by rw [hQa]; simpa using hil) := by subst hQa; rfl
    have hQn : Q[i] ∈ Qa := by rw [hQi]; exact List.getElem_mem _
    have hQm : Q[i] ∈ Qa.take (i + 1 + 1) := by rw [hQi]; exact mem_last _
    obtain ⟨Rq, hRq⟩ := objs_split hQn
    refine TK.nd fun hnd => ?_
    have hnQ : (keys (objsL Qa)).Nodup := (List.nodup_cons.1 (List.nodup_cons.1 (List.nodup_cons.1 (List.nodup_cons.1 hnd).2).2).2).2
    have hne : Q[i].1 ≠ x.1 := by rw [hQi]; exact keys_ne hnQ (by rw [hQa]; simpa using hil) hxm
    obtain ⟨Rt, hRt⟩ := objs_two hQn hxa hne
    have hxl : x.2.length ≤ 1000 := by
      rw [hQa] at hxa
      rcases List.mem_cons.1 hxa with rfl | h
      · rw [hup]; omega
      · have := setsM_short (most := (b.seekers.length : Int)) (by omega) _ x.2 (show x.2 ∈ setsM b.seekers.length b.seekers.length by rw [← hQ]; exact List.mem_map_of_mem h); omega
    refine au [12, 4, 13, 4] ?_
    refine TK.draw [0, 1, 2, 3, 4, 5, 6, 7, 8, 9, 10, 11, 12, 13, 14] [0, 1, 2, 3, 4, 5, 6, 7, 8, 9, 10, 11, 12, 13, 14] (by kernel_rfl) (by kernel_rfl) ?_
    refine TD.z [7] rfl (q_move rfl rfl) ?_
    refine TD.z [8] rfl (q_move rfl rfl) ?_
    refine TD.y [32, 33] rfl (hq := q_indexRow rfl rfl rfl SlEl.h (List.Mem.head _) (by omega) (by omega)) (h := ?_)
    refine TD.y [34] rfl (hq := q_load1 rfl rfl TySz.h (List.Mem.head _) (refs_at hil rfl)) (h := ?_)
    refine TD.z [6] rfl (q_move rfl rfl) ?_
    refine TD.cl (pend' := [⟨2, [32, 33], [(_, _)]⟩, ⟨1, [8], []⟩, ⟨0, [7], []⟩]) [35, 36] rfl rfl rfl rfl rfl ((smaller_ok hT hne (ints_at Q[i].2 3 false) (ints_at x.2 3 false) (by omega) (by omega)).frameP hRt) (fun r16 K17 h18 => ⟨?_, ?_⟩)
    · rcases h18 with ⟨rfl, rfl⟩
      all_goals simp
    obtain ⟨rfl, rfl⟩ := h18
    try simp only [List.cons_append, List.nil_append]
    refine TD.norm (by simp only [List.set]; rfl) ?_
    refine TD.perm (List.perm_append_comm (l₁ := objsL Qa)) ?_
    simp only [List.cons_append, List.nil_append]
    refine TD.z [37] rfl (q_move rfl rfl) ?_
    refine TD.sp 38 (fun g11_7 => ?_) (fun g11_7 => ?_)
    · refine TD.y [1, 38] rfl (hq := q_load rfl rfl TySz.h (List.Mem.head _) rfl) (h := ?_)
      refine TD.z [7, 38] rfl (q_move rfl rfl) ?_
      refine TD.z [8, 38] rfl (q_move rfl rfl) ?_
      refine TD.y [38, 40, 41] rfl (hq := q_indexRow rfl rfl rfl SlEl.h (List.Mem.head _) (by omega) (by omega)) (h := ?_)
      refine TD.y [38, 42] rfl (hq := q_load1 rfl rfl TySz.h (List.Mem.head _) (refs_at hil rfl)) (h := ?_)
      refine TD.cl (pend' := [⟨10, [38, 40, 41], [(_, _)]⟩, ⟨9, [8, 38], []⟩, ⟨8, [7, 38], []⟩, ⟨2, [32, 33], [(_, _)]⟩, ⟨1, [8], []⟩, ⟨0, [7], []⟩]) [38, 39, 43] rfl rfl rfl rfl rfl ((togS_ok hT hse hb hh (ints_at Q[i].2 3 false) (by omega) (fun y hy => setsM_mem _ _ hSm y hy)).frameP (perm3 hRq)) (fun r19 K20 h21 => ⟨?_, ?_⟩)
      · rcases h21 with ⟨rfl, rfl⟩
        all_goals simp
      obtain ⟨rfl, rfl⟩ := h21
      try simp only [List.cons_append, List.nil_append]
      refine TD.norm (by simp only [List.set]; rfl) ?_
      refine TD.perm (List.perm_append_comm (l₁ := (s, _) :: (e, _) :: objsL Qa)) ?_
      simp only [List.cons_append, List.nil_append]
      refine TD.z [38, 44] rfl (q_not rfl rfl) ?_
      refine TD.z [38, 45] rfl (q_pickT rfl rfl rfl) ?_
      refine TD.fin ?_
      refine au [20] ?_
      refine ⟨fun hc3 => ?_, fun hc3 => ?_⟩
      · refine au [5, 1, 1, 37] ?_
        refine TK.a rfl (q_load1 rfl rfl TySz.h (by repeat (first | exact List.Mem.head _ | assumption | apply List.Mem.tail)) (refs_at hil rfl)) ?_
        refine au [2, 3, 14, 5, 1, 23, 2, 3] ?_
        refine TK.maskL [1, 6, 7, 8] ?_
        refine TK.kp (((ja, _) :: (jb, _) :: (s, _) :: (e, _) :: objsL Qa)) ?_
        have hbt := first_odd (b := b) (o := uptoM b.seekers.length) hi2
        rw [if_pos (by rw [← hx2, ← hxe, g11_7]; exact hc3)] at hbt
        exact hnext _ _ _ (by omega) ⟨i + 1, Q[i], rfl, by omega, hQm, by rw [hbt]; exact hx2, rfl, rfl⟩
      refine au [12, 14, 5, 1, 23, 2, 3] ?_
      refine TK.maskL [1, 6, 7, 8] ?_
      refine TK.kp (((ja, _) :: (jb, _) :: (s, _) :: (e, _) :: objsL Qa)) ?_
      have hbt := first_odd (b := b) (o := uptoM b.seekers.length) hi2
      rw [if_neg (by rw [← hx2, ← hxe, g11_7]; simpa using hc3)] at hbt
      exact hnext _ _ _ (by omega) ⟨i + 1, x, rfl, by omega, mem_next hxm, by rw [hbt]; exact hxe, rfl, rfl⟩
    refine TD.u [1, 38] rfl ?_
    refine TD.u [7, 38] rfl ?_
    refine TD.u [8, 38] rfl ?_
    refine TD.u [38, 40, 41] rfl ?_
    refine TD.u [38, 42] rfl ?_
    refine TD.u [38, 39, 43] rfl ?_
    refine TD.u [38, 44] rfl ?_
    refine TD.z [38, 45] rfl (q_pickF rfl rfl rfl) ?_
    refine TD.fin ?_
    refine au [19, 12, 14, 5, 1, 23, 2, 3] ?_
    refine TK.maskL [1, 6, 7, 8] ?_
    refine TK.kp (((ja, _) :: (jb, _) :: (s, _) :: (e, _) :: objsL Qa)) ?_
    have hbt := first_odd (b := b) (o := uptoM b.seekers.length) hi2
    rw [if_neg (by rw [← hx2, ← hxe, g11_7]; simp)] at hbt
    exact hnext _ _ _ (by omega) ⟨i + 1, x, rfl, by omega, mem_next hxm, by rw [hbt]; exact hxe, rfl, rfl⟩
  simp only [decide_eq_false_iff_not] at hc2
  obtain rfl : i = Q.length := by omega
  have hce := clash_eq hb hc1
  rw [hQl, List.take_length] at hxe
  obtain ⟨Rx, hRx⟩ := objs_split hxa
  refine au [16, 4, 5, 1, 2, 2, 3] ?_
  refine TK.rt hret [(s, _), (e, _), (x.1, _)] ?_ (hs := (by repeat (first | exact Split.none _ | exact Split.all _ | (apply Split.rem; repeat (first | exact Rem.head | exact hRx | apply Rem.tail)) | apply Split.right)))
  exact .inr (.inr ⟨hck, by rw [tog_every hb]; exact hc1, x.1, by rw [← hce, hxe] <;> rfl, by rw [← hce, hxe]⟩)
end Go.Vel
end
section
set_option linter.all false
namespace Go.Vel
open Go Go.Conc Go.Proofs
instance : Cal Tryz.prog 31 := ⟨by kernel_rfl⟩
instance : Cal Tryz.prog 33 := ⟨by kernel_rfl⟩
instance : Cal Tryz.prog 35 := ⟨by kernel_rfl⟩
instance : Cal Tryz.prog 37 := ⟨by kernel_rfl⟩
instance {a0 a1 a2 a3 a4 a5 a6 a7 a8 a9 a10 a11 a12 a13 a14 a15 a16 a17 a18 a19 a20 a21 a22 a23 a24 a25 a26 a27 a28 a29 : Oper} : RgL #[a0, a1, a2, a3, a4, a5, a6, a7, a8, a9, a10, a11, a12, a13, a14, a15, a16, a17, a18, a19, a20, a21, a22, a23, a24, a25, a26, a27, a28, a29] [0, 1, 2, 3, 4, 5, 6, 7, 8, 9, 10, 11, 12, 13, 14, 15, 16, 17, 18, 19, 20, 21, 22, 23, 24, 25, 26, 27, 28, 29] := ⟨rfl⟩
end Go.Vel
end
