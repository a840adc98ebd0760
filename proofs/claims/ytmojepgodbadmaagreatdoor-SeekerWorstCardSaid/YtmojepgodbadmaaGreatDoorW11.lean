/- The law SeekerWorst: Likely, Clash, Ask and Lend agree with the specification. It holds of every program, tape and world that the statements name, as each theorem says. -/
import Derived.Test.YtmojepgodbadmaaGreatDoorW8
import Derived.Test.YtmojepgodbadmaaGreatDoorW9
import Derived.Test.YtmojepgodbadmaaGreatDoorW10
section
set_option linter.all false
namespace Go.Vel
open Go Go.Conc Go.Proofs

theorem likely_none {b : Bk} (h : guessM b (allM b) = []) : (likelyM b).1 = [] ∧ (likelyM b).2 = 0 ∧ (!(guessM b (allM b)).isEmpty) = false := by
  unfold likelyM
  rw [h]
  exact ⟨rfl, rfl, rfl⟩
theorem likely_some {b : Bk} (h : guessM b (allM b) ≠ []) : (!(guessM b (allM b)).isEmpty) = true := by
  cases hg : guessM b (allM b) with
  | nil => exact absurd hg h
  | cons x xs => rfl
theorem likelyM_len {b : Bk} (hck : checkM b = 0) (h : guessM b (allM b) ≠ []) : (likelyM b).1.length ≤ 100000 := by
  have h1 : likelyM b ∈ guessM b (allM b) := minL_mem (lt := ltGuess) (d := ([], 0)) h
  obtain ⟨S, h2, h3⟩ := List.mem_map.1 h1
  rw [← h3]
  have := (allM_ok (bkOk_of hck) S (List.mem_filter.1 h2).1).len
  show S.length ≤ _
  omega
theorem clashM_len {b : Bk} (hck : checkM b = 0) (h : togM b (everyM b) = false) : (clashM b).length ≤ 100000 := by
  have hb := bkOk_of hck
  have hne : oddM b (everyM b + 1) ≠ [] := by rw [oddM_F h]; simp
  have h1 : clashM b ∈ oddM b (everyM b + 1) := minL_mem (lt := ltLists) (d := []) hne
  have := oddM_all _ h1
  have := hb.ns
  omega
set_option maxRecDepth 20000 in
set_option maxHeartbeats 20000000 in
theorem lawWorst_top {R : Value → World → Prop} {b : Bk} {s e : Nat} (hse : s ≠ e) {A : List AObj} {φ : Nat → Loc3} {F H : Hp} {vs : Array Value} (hv : View [(0, checksG), (1, saysG), (s, saysO b), (e, seenO b)] A) (hn0 : (keys [(0, checksG), (1, saysG), (s, saysO b), (e, seenO b)]).Nodup) (hg : RelG gmS φ A.length) (hH : RelH φ A F H) (hargs : RelL φ A.length [.agg (bookC b s e)] vs)
    (hR : ∀ r K' φ' A' H' v w, (fun r K' => r = boolA true ∧ K' = [(0, checksG), (1, saysG), (s, saysO b), (e, seenO b)]) r K' → RelH φ' A' F H' → RelV φ' A'.length r v → Fits H' w → R v w) : BT Tryz.prog (AtRet Tryz.prog 5 R) (G (Frame.enter Tryz.prog 5 vs .normal) []) H := by
  have hT := shut_BT tame (AtRet Tryz.prog 5 R)
  refine topK_in 133 tame (Post := fun r K' => r = boolA true ∧ K' = [(0, checksG), (1, saysG), (s, saysO b), (e, seenO b)]) Tryz.func5 hv hn0 hg hH hargs hR fun Y hret => ?_
  refine au [4, 5, 21] ?_
  intro jb hjb
  refine au [2, 3, 4, 4, 5, 8] ?_
  refine TK.cl rfl rfl rfl rfl (great_ok hT (s := s) (e := e)) ?_
  rintro r1 K2 ⟨rfl, rfl⟩
  refine au [3, 20] ?_
  refine ⟨fun hc0 => ?_, fun hc0 => ?_⟩
  · refine au [4, 5] ?_
    refine TK.cl rfl rfl rfl rfl (sought_ok tame) ?_
    rintro r4 K5 ⟨rfl, rfl⟩
    refine au [2, 3] ?_
    refine TK.rt hret [(0, _), (1, _), (s, _), (e, _)] ?_
    exact ⟨rfl, rfl⟩
  obtain ⟨hs1, hs2, hs3⟩ := great_small (by simpa using hc0)
  have hn : ∀ x ∈ b.seekers, x.name.size ≤ 1000 := fun x hx => Nat.le_trans (hs3 x hx) (by omega)
  have hl : b.seen.length ≤ 1000 := by omega
  have hl2 : b.seekers.length ≤ 1000 := by omega
  refine au [12, 4, 5, 8] ?_
  refine TK.cl rfl rfl rfl rfl (likely_ok hT hse hn hl) ?_
  rintro r7 K8 h9
  rcases h9 with ⟨hb0, rfl, rfl⟩ | ⟨hb0, hg0, rfl, rfl⟩ | ⟨hb0, hg0, j1, rfl, rfl⟩
  · refine au [1, 10, 10, 10, 10, 2, 2, 2, 2, 3, 4, 5, 8] ?_
    refine TK.cl rfl rfl rfl rfl (likelyRef_ok hT hse hn hl hl2) ?_
    rintro r10 K11 h12
    rcases h12 with ⟨hb1, rfl, rfl⟩ | ⟨hb1, j2, rfl, rfl⟩
    · refine au [] ?_
      skip
      refine au [1, 10, 10, 10, 10, 2, 2, 2, 2, 3, 4, 5, 8] ?_
      refine TK.cl rfl rfl rfl rfl (clash_ok hT hse hn hl) ?_
      rintro r13 K14 h15
      rcases h15 with ⟨hb2, rfl, rfl⟩ | ⟨hb2, ht0, rfl, rfl⟩ | ⟨hb2, ht0, j3, rfl, rfl⟩
      · refine au [] ?_
        skip
        refine au [1, 10, 10, 2, 2, 3, 4, 5, 8] ?_
        refine TK.cl rfl rfl rfl rfl (clashRef_ok hT hse hn hl hl2) ?_
        rintro r16 K17 h18
        rcases h18 with ⟨hb3, rfl, rfl⟩ | ⟨hb3, ht1, rfl, rfl⟩ | ⟨hb3, ht1, j4, rfl, rfl⟩
        · refine au [] ?_
          skip
          refine au [1, 10, 10, 2, 2, 3, 4, 4] ?_
          refine TK.nilSl 3 3 rfl fun j1 hj1 => ?_
          refine au [] ?_
          refine TK.nilSl 7 3 rfl fun j2 hj2 => ?_
          refine au [] ?_
          refine TK.nilSl 11 3 rfl fun j3 hj3 => ?_
          refine au [] ?_
          refine TK.nilSl 13 3 rfl fun j4 hj4 => ?_
          refine au [] ?_
          refine TK.nd fun hnd => ?_
          have hj12 : j1 ≠ j2 := fun h => by subst h; simp [keys] at hnd
          refine TK.nd fun hnd => ?_
          have hj34 : j3 ≠ j4 := fun h => by subst h; simp [keys] at hnd
          refine au [5, 1, 1] ?_
          refine TK.cl rfl rfl rfl rfl (sameInts_ok hT hj12 (xs := ([] : List Int)) (ys := ([] : List Int)) (ints_at _ 3 false) (ints_at _ 3 false) (by decide)) ?_
          rintro r19 K20 ⟨rfl, rfl⟩
          refine au [30, 1] ?_
          refine TK.sp 52 (fun g7_5 => ?_) (fun g7_5 => ?_)
          · simp at g7_5
          refine au [1, 1, 6, 25, 1] ?_
          refine TK.sp 57 (fun g7_10 => ?_) (fun g7_10 => ?_)
          · simp at g7_10
          refine au [1, 1, 34, 25, 1] ?_
          refine TK.sp 62 (fun g7_15 => ?_) (fun g7_15 => ?_)
          · simp at g7_15
          refine au [1, 1, 6, 25, 1] ?_
          refine TK.sp 67 (fun g7_20 => ?_) (fun g7_20 => ?_)
          · simp at g7_20
          refine au [1, 1] ?_
          refine TK.cl rfl rfl rfl rfl (sameInts_ok hT hj34 (xs := ([] : List Int)) (ys := ([] : List Int)) (ints_at _ 3 false) (ints_at _ 3 false) (by decide)) ?_
          rintro r22 K23 ⟨rfl, rfl⟩
          refine au [30, 25, 1] ?_
          refine TK.sp 73 (fun g7_26 => ?_) (fun g7_26 => ?_)
          · simp at g7_26
          refine au [1, 1, 6, 25, 3, 20] ?_
          refine ⟨fun hc1 => ?_, fun hc1 => ?_⟩
          · simp at hc1
          refine au [12, 4, 5, 8] ?_
          refine TK.cl rfl rfl rfl rfl (askApi_ok hT hse hn hl) ?_
          rintro r25 K26 ⟨rfl, rfl⟩
          refine au [1, 10, 10, 10, 2, 2, 2, 3, 4, 5, 8] ?_
          refine TK.cl rfl rfl rfl rfl (askRef_ok hT hse hn hl hl2) ?_
          rintro r28 K29 ⟨rfl, rfl⟩
          refine au [1, 10, 10, 10, 2, 2, 2, 3, 4, 5, 8] ?_
          refine TK.cl rfl rfl rfl rfl (lendApi_ok hT hse hn hl) ?_
          rintro r31 K32 ⟨rfl, rfl⟩
          refine au [1, 10, 10, 10, 2, 2, 2, 3, 4, 5, 8] ?_
          refine TK.cl rfl rfl rfl rfl (lendRef_ok hT hse hn hl hl2) ?_
          rintro r34 K35 ⟨rfl, rfl⟩
          refine au [1, 10, 10, 10, 2, 2, 2, 3, 4, 5, 1, 1, 6, 1] ?_
          refine TK.sp 105 (fun g13_4 => ?_) (fun g13_4 => ?_)
          · refine au [1, 1, 6, 26, 1] ?_
            refine TK.sp 110 (fun g13_9 => ?_) (fun g13_9 => ?_)
            · refine au [1, 1, 6, 26, 1] ?_
              refine TK.sp 115 (fun g13_14 => ?_) (fun g13_14 => ?_)
              · refine au [1, 1, 6, 26, 1] ?_
                refine TK.sp 120 (fun g13_19 => ?_) (fun g13_19 => ?_)
                · refine au [1, 1, 6, 26, 1] ?_
                  refine TK.sp 125 (fun g13_24 => ?_) (fun g13_24 => ?_)
                  · refine au [1, 1, 6, 26, 1] ?_
                    refine TK.sp 130 (fun g13_29 => ?_) (fun g13_29 => ?_)
                    · refine TK.cl rfl rfl rfl rfl (sought_ok tame) ?_
                      rintro r37 K38 ⟨rfl, rfl⟩
                      refine au [26, 2, 3] ?_
                      refine TK.rt hret [(0, _), (1, _), (s, _), (e, _)] ?_
                      exact ⟨rfl, rfl⟩
                    simp at g13_29
                  simp at g13_24
                simp at g13_19
              simp at g13_14
            simp at g13_9
          simp at g13_4
        · refine au [] ?_
          exact absurd hb3 hb0
        · refine au [] ?_
          exact absurd hb3 hb0
      · refine au [] ?_
        exact absurd hb2 hb0
      · refine au [] ?_
        exact absurd hb2 hb0
    · refine au [] ?_
      exact absurd hb1 hb0
  · refine au [1, 10, 10, 10, 10, 2, 2, 2, 2, 3, 4, 5, 8] ?_
    refine TK.cl rfl rfl rfl rfl (likelyRef_ok hT hse hn hl hl2) ?_
    rintro r40 K41 h42
    rcases h42 with ⟨hb1, rfl, rfl⟩ | ⟨hb1, j2, rfl, rfl⟩
    · refine au [] ?_
      exact absurd hb0 hb1
    · refine au [] ?_
      have hl0 := likely_none hg0
      rw [hl0.1, hl0.2.1, hl0.2.2]
      refine au [1, 10, 10, 10, 10, 2, 2, 2, 2, 3, 4, 5, 8] ?_
      refine TK.cl rfl rfl rfl rfl (clash_ok hT hse hn hl) ?_
      rintro r43 K44 h45
      rcases h45 with ⟨hb2, rfl, rfl⟩ | ⟨hb2, ht0, rfl, rfl⟩ | ⟨hb2, ht0, j3, rfl, rfl⟩
      · refine au [] ?_
        exact absurd hb0 hb2
      · refine au [] ?_
        skip
        refine au [1, 10, 10, 2, 2, 3, 4, 5, 8] ?_
        refine TK.cl rfl rfl rfl rfl (clashRef_ok hT hse hn hl hl2) ?_
        rintro r46 K47 h48
        rcases h48 with ⟨hb3, rfl, rfl⟩ | ⟨hb3, ht1, rfl, rfl⟩ | ⟨hb3, ht1, j4, rfl, rfl⟩
        · refine au [] ?_
          exact absurd hb0 hb3
        · refine au [] ?_
          skip
          refine au [1, 10, 10, 2, 2, 3, 4, 4] ?_
          refine TK.nilSl 3 3 rfl fun j1 hj1 => ?_
          refine au [] ?_
          refine TK.nilSl 11 3 rfl fun j3 hj3 => ?_
          refine au [] ?_
          refine TK.nilSl 13 3 rfl fun j4 hj4 => ?_
          refine au [] ?_
          refine TK.nd fun hnd => ?_
          have hj12 : j1 ≠ j2 := fun h => by subst h; simp [keys] at hnd
          refine TK.nd fun hnd => ?_
          have hj34 : j3 ≠ j4 := fun h => by subst h; simp [keys] at hnd
          refine au [5, 1, 1] ?_
          refine TK.cl rfl rfl rfl rfl (sameInts_ok hT hj12 (xs := ([] : List Int)) (ys := ([] : List Int)) (ints_at _ 3 false) (ints_at _ 3 false) (by decide)) ?_
          rintro r49 K50 ⟨rfl, rfl⟩
          refine au [30, 1] ?_
          refine TK.sp 52 (fun g7_5 => ?_) (fun g7_5 => ?_)
          · simp at g7_5
          refine au [1, 1, 6, 25, 1] ?_
          refine TK.sp 57 (fun g7_10 => ?_) (fun g7_10 => ?_)
          · simp at g7_10
          refine au [1, 1, 34, 25, 1] ?_
          refine TK.sp 62 (fun g7_15 => ?_) (fun g7_15 => ?_)
          · simp at g7_15
          refine au [1, 1, 6, 25, 1] ?_
          refine TK.sp 67 (fun g7_20 => ?_) (fun g7_20 => ?_)
          · simp at g7_20
          refine au [1, 1] ?_
          refine TK.cl rfl rfl rfl rfl (sameInts_ok hT hj34 (xs := ([] : List Int)) (ys := ([] : List Int)) (ints_at _ 3 false) (ints_at _ 3 false) (by decide)) ?_
          rintro r52 K53 ⟨rfl, rfl⟩
          refine au [30, 25, 1] ?_
          refine TK.sp 73 (fun g7_26 => ?_) (fun g7_26 => ?_)
          · simp at g7_26
          refine au [1, 1, 6, 25, 3, 20] ?_
          refine ⟨fun hc1 => ?_, fun hc1 => ?_⟩
          · simp at hc1
          refine au [12, 4, 5, 8] ?_
          refine TK.cl rfl rfl rfl rfl (askApi_ok hT hse hn hl) ?_
          rintro r55 K56 ⟨rfl, rfl⟩
          refine au [1, 10, 10, 10, 2, 2, 2, 3, 4, 5, 8] ?_
          refine TK.cl rfl rfl rfl rfl (askRef_ok hT hse hn hl hl2) ?_
          rintro r58 K59 ⟨rfl, rfl⟩
          refine au [1, 10, 10, 10, 2, 2, 2, 3, 4, 5, 8] ?_
          refine TK.cl rfl rfl rfl rfl (lendApi_ok hT hse hn hl) ?_
          rintro r61 K62 ⟨rfl, rfl⟩
          refine au [1, 10, 10, 10, 2, 2, 2, 3, 4, 5, 8] ?_
          refine TK.cl rfl rfl rfl rfl (lendRef_ok hT hse hn hl hl2) ?_
          rintro r64 K65 ⟨rfl, rfl⟩
          refine au [1, 10, 10, 10, 2, 2, 2, 3, 4, 5, 1, 1, 6, 1] ?_
          refine TK.sp 105 (fun g13_4 => ?_) (fun g13_4 => ?_)
          · refine au [1, 1, 6, 26, 1] ?_
            refine TK.sp 110 (fun g13_9 => ?_) (fun g13_9 => ?_)
            · refine au [1, 1, 6, 26, 1] ?_
              refine TK.sp 115 (fun g13_14 => ?_) (fun g13_14 => ?_)
              · refine au [1, 1, 6, 26, 1] ?_
                refine TK.sp 120 (fun g13_19 => ?_) (fun g13_19 => ?_)
                · refine au [1, 1, 6, 26, 1] ?_
                  refine TK.sp 125 (fun g13_24 => ?_) (fun g13_24 => ?_)
                  · refine au [1, 1, 6, 26, 1] ?_
                    refine TK.sp 130 (fun g13_29 => ?_) (fun g13_29 => ?_)
                    · refine TK.cl rfl rfl rfl rfl (sought_ok tame) ?_
                      rintro r67 K68 ⟨rfl, rfl⟩
                      refine au [26, 2, 3] ?_
                      refine TK.rt hret [(0, _), (1, _), (s, _), (e, _)] ?_
                      exact ⟨rfl, rfl⟩
                    simp at g13_29
                  simp at g13_24
                simp at g13_19
              simp at g13_14
            simp at g13_9
          simp at g13_4
        · refine au [] ?_
          rw [ht0] at ht1; cases ht1
      · refine au [] ?_
        skip
        refine au [1, 10, 10, 2, 2, 3, 4, 5, 8] ?_
        refine TK.cl rfl rfl rfl rfl (clashRef_ok hT hse hn hl hl2) ?_
        rintro r70 K71 h72
        rcases h72 with ⟨hb3, rfl, rfl⟩ | ⟨hb3, ht1, rfl, rfl⟩ | ⟨hb3, ht1, j4, rfl, rfl⟩
        · refine au [] ?_
          exact absurd hb0 hb3
        · refine au [] ?_
          rw [ht0] at ht1; cases ht1
        · refine au [] ?_
          skip
          refine au [1, 10, 10, 2, 2, 3, 4, 4] ?_
          refine TK.nilSl 3 3 rfl fun j1 hj1 => ?_
          refine au [] ?_
          refine TK.nd fun hnd => ?_
          have hj12 : j1 ≠ j2 := fun h => by subst h; simp [keys] at hnd
          refine TK.nd fun hnd => ?_
          have hj34 : j3 ≠ j4 := fun h => by subst h; simp [keys] at hnd
          refine au [5, 1, 1] ?_
          refine TK.cl rfl rfl rfl rfl (sameInts_ok hT hj12 (xs := ([] : List Int)) (ys := ([] : List Int)) (ints_at _ 3 false) (ints_at _ 3 false) (by decide)) ?_
          rintro r73 K74 ⟨rfl, rfl⟩
          refine au [30, 1] ?_
          refine TK.sp 52 (fun g7_5 => ?_) (fun g7_5 => ?_)
          · simp at g7_5
          refine au [1, 1, 6, 25, 1] ?_
          refine TK.sp 57 (fun g7_10 => ?_) (fun g7_10 => ?_)
          · simp at g7_10
          refine au [1, 1, 34, 25, 1] ?_
          refine TK.sp 62 (fun g7_15 => ?_) (fun g7_15 => ?_)
          · simp at g7_15
          refine au [1, 1, 6, 25, 1] ?_
          refine TK.sp 67 (fun g7_20 => ?_) (fun g7_20 => ?_)
          · simp at g7_20
          refine au [1, 1] ?_
          refine TK.cl rfl rfl rfl rfl (sameInts_ok hT hj34 (xs := clashM b) (ys := clashM b) (ints_at _ 3 false) (ints_at _ 3 false) (clashM_len hb0 ht0)) ?_
          rintro r76 K77 ⟨rfl, rfl⟩
          refine au [30, 25, 1] ?_
          refine TK.sp 73 (fun g7_26 => ?_) (fun g7_26 => ?_)
          · simp at g7_26
          refine au [1, 1, 6, 25, 3, 20] ?_
          refine ⟨fun hc1 => ?_, fun hc1 => ?_⟩
          · simp at hc1
          refine au [12, 4, 5, 8] ?_
          refine TK.cl rfl rfl rfl rfl (askApi_ok hT hse hn hl) ?_
          rintro r79 K80 ⟨rfl, rfl⟩
          refine au [1, 10, 10, 10, 2, 2, 2, 3, 4, 5, 8] ?_
          refine TK.cl rfl rfl rfl rfl (askRef_ok hT hse hn hl hl2) ?_
          rintro r82 K83 ⟨rfl, rfl⟩
          refine au [1, 10, 10, 10, 2, 2, 2, 3, 4, 5, 8] ?_
          refine TK.cl rfl rfl rfl rfl (lendApi_ok hT hse hn hl) ?_
          rintro r85 K86 ⟨rfl, rfl⟩
          refine au [1, 10, 10, 10, 2, 2, 2, 3, 4, 5, 8] ?_
          refine TK.cl rfl rfl rfl rfl (lendRef_ok hT hse hn hl hl2) ?_
          rintro r88 K89 ⟨rfl, rfl⟩
          refine au [1, 10, 10, 10, 2, 2, 2, 3, 4, 5, 1, 1, 6, 1] ?_
          refine TK.sp 105 (fun g13_4 => ?_) (fun g13_4 => ?_)
          · refine au [1, 1, 6, 26, 1] ?_
            refine TK.sp 110 (fun g13_9 => ?_) (fun g13_9 => ?_)
            · refine au [1, 1, 6, 26, 1] ?_
              refine TK.sp 115 (fun g13_14 => ?_) (fun g13_14 => ?_)
              · refine au [1, 1, 6, 26, 1] ?_
                refine TK.sp 120 (fun g13_19 => ?_) (fun g13_19 => ?_)
                · refine au [1, 1, 6, 26, 1] ?_
                  refine TK.sp 125 (fun g13_24 => ?_) (fun g13_24 => ?_)
                  · refine au [1, 1, 6, 26, 1] ?_
                    refine TK.sp 130 (fun g13_29 => ?_) (fun g13_29 => ?_)
                    · refine TK.cl rfl rfl rfl rfl (sought_ok tame) ?_
                      rintro r91 K92 ⟨rfl, rfl⟩
                      refine au [26, 2, 3] ?_
                      refine TK.rt hret [(0, _), (1, _), (s, _), (e, _)] ?_
                      exact ⟨rfl, rfl⟩
                    simp at g13_29
                  simp at g13_24
                simp at g13_19
              simp at g13_14
            simp at g13_9
          simp at g13_4
  · refine au [1, 10, 10, 10, 10, 2, 2, 2, 2, 3, 4, 5, 8] ?_
    refine TK.cl rfl rfl rfl rfl (likelyRef_ok hT hse hn hl hl2) ?_
    rintro r94 K95 h96
    rcases h96 with ⟨hb1, rfl, rfl⟩ | ⟨hb1, j2, rfl, rfl⟩
    · refine au [] ?_
      exact absurd hb0 hb1
    · refine au [] ?_
      rw [likely_some hg0]
      refine au [1, 10, 10, 10, 10, 2, 2, 2, 2, 3, 4, 5, 8] ?_
      refine TK.cl rfl rfl rfl rfl (clash_ok hT hse hn hl) ?_
      rintro r97 K98 h99
      rcases h99 with ⟨hb2, rfl, rfl⟩ | ⟨hb2, ht0, rfl, rfl⟩ | ⟨hb2, ht0, j3, rfl, rfl⟩
      · refine au [] ?_
        exact absurd hb0 hb2
      · refine au [] ?_
        skip
        refine au [1, 10, 10, 2, 2, 3, 4, 5, 8] ?_
        refine TK.cl rfl rfl rfl rfl (clashRef_ok hT hse hn hl hl2) ?_
        rintro r100 K101 h102
        rcases h102 with ⟨hb3, rfl, rfl⟩ | ⟨hb3, ht1, rfl, rfl⟩ | ⟨hb3, ht1, j4, rfl, rfl⟩
        · refine au [] ?_
          exact absurd hb0 hb3
        · refine au [] ?_
          skip
          refine au [1, 10, 10, 2, 2, 3, 4, 4] ?_
          refine TK.nilSl 11 3 rfl fun j3 hj3 => ?_
          refine au [] ?_
          refine TK.nilSl 13 3 rfl fun j4 hj4 => ?_
          refine au [] ?_
          refine TK.nd fun hnd => ?_
          have hj12 : j1 ≠ j2 := fun h => by subst h; simp [keys] at hnd
          refine TK.nd fun hnd => ?_
          have hj34 : j3 ≠ j4 := fun h => by subst h; simp [keys] at hnd
          refine au [5, 1, 1] ?_
          refine TK.cl rfl rfl rfl rfl (sameInts_ok hT hj12 (xs := (likelyM b).1) (ys := (likelyM b).1) (ints_at _ 3 false) (ints_at _ 3 false) (likelyM_len hb0 hg0)) ?_
          rintro r103 K104 ⟨rfl, rfl⟩
          refine au [30, 1] ?_
          refine TK.sp 52 (fun g7_5 => ?_) (fun g7_5 => ?_)
          · simp at g7_5
          refine au [1, 1, 6, 25, 1] ?_
          refine TK.sp 57 (fun g7_10 => ?_) (fun g7_10 => ?_)
          · simp at g7_10
          refine au [1, 1, 34, 25, 1] ?_
          refine TK.sp 62 (fun g7_15 => ?_) (fun g7_15 => ?_)
          · simp at g7_15
          refine au [1, 1, 6, 25, 1] ?_
          refine TK.sp 67 (fun g7_20 => ?_) (fun g7_20 => ?_)
          · simp at g7_20
          refine au [1, 1] ?_
          refine TK.cl rfl rfl rfl rfl (sameInts_ok hT hj34 (xs := ([] : List Int)) (ys := ([] : List Int)) (ints_at _ 3 false) (ints_at _ 3 false) (by decide)) ?_
          rintro r106 K107 ⟨rfl, rfl⟩
          refine au [30, 25, 1] ?_
          refine TK.sp 73 (fun g7_26 => ?_) (fun g7_26 => ?_)
          · simp at g7_26
          refine au [1, 1, 6, 25, 3, 20] ?_
          refine ⟨fun hc1 => ?_, fun hc1 => ?_⟩
          · simp at hc1
          refine au [12, 4, 5, 8] ?_
          refine TK.cl rfl rfl rfl rfl (askApi_ok hT hse hn hl) ?_
          rintro r109 K110 ⟨rfl, rfl⟩
          refine au [1, 10, 10, 10, 2, 2, 2, 3, 4, 5, 8] ?_
          refine TK.cl rfl rfl rfl rfl (askRef_ok hT hse hn hl hl2) ?_
          rintro r112 K113 ⟨rfl, rfl⟩
          refine au [1, 10, 10, 10, 2, 2, 2, 3, 4, 5, 8] ?_
          refine TK.cl rfl rfl rfl rfl (lendApi_ok hT hse hn hl) ?_
          rintro r115 K116 ⟨rfl, rfl⟩
          refine au [1, 10, 10, 10, 2, 2, 2, 3, 4, 5, 8] ?_
          refine TK.cl rfl rfl rfl rfl (lendRef_ok hT hse hn hl hl2) ?_
          rintro r118 K119 ⟨rfl, rfl⟩
          refine au [1, 10, 10, 10, 2, 2, 2, 3, 4, 5, 1, 1, 6, 1] ?_
          refine TK.sp 105 (fun g13_4 => ?_) (fun g13_4 => ?_)
          · refine au [1, 1, 6, 26, 1] ?_
            refine TK.sp 110 (fun g13_9 => ?_) (fun g13_9 => ?_)
            · refine au [1, 1, 6, 26, 1] ?_
              refine TK.sp 115 (fun g13_14 => ?_) (fun g13_14 => ?_)
              · refine au [1, 1, 6, 26, 1] ?_
                refine TK.sp 120 (fun g13_19 => ?_) (fun g13_19 => ?_)
                · refine au [1, 1, 6, 26, 1] ?_
                  refine TK.sp 125 (fun g13_24 => ?_) (fun g13_24 => ?_)
                  · refine au [1, 1, 6, 26, 1] ?_
                    refine TK.sp 130 (fun g13_29 => ?_) (fun g13_29 => ?_)
                    · refine TK.cl rfl rfl rfl rfl (sought_ok tame) ?_
                      rintro r121 K122 ⟨rfl, rfl⟩
                      refine au [26, 2, 3] ?_
                      refine TK.rt hret [(0, _), (1, _), (s, _), (e, _)] ?_
                      exact ⟨rfl, rfl⟩
                    simp at g13_29
                  simp at g13_24
                simp at g13_19
              simp at g13_14
            simp at g13_9
          simp at g13_4
        · refine au [] ?_
          rw [ht0] at ht1; cases ht1
      · refine au [] ?_
        skip
        refine au [1, 10, 10, 2, 2, 3, 4, 5, 8] ?_
        refine TK.cl rfl rfl rfl rfl (clashRef_ok hT hse hn hl hl2) ?_
        rintro r124 K125 h126
        rcases h126 with ⟨hb3, rfl, rfl⟩ | ⟨hb3, ht1, rfl, rfl⟩ | ⟨hb3, ht1, j4, rfl, rfl⟩
        · refine au [] ?_
          exact absurd hb0 hb3
        · refine au [] ?_
          rw [ht0] at ht1; cases ht1
        · refine au [] ?_
          skip
          refine au [1, 10, 10, 2, 2, 3, 4, 4] ?_
          refine TK.nd fun hnd => ?_
          have hj12 : j1 ≠ j2 := fun h => by subst h; simp [keys] at hnd
          refine TK.nd fun hnd => ?_
          have hj34 : j3 ≠ j4 := fun h => by subst h; simp [keys] at hnd
          refine au [5, 1, 1] ?_
          refine TK.cl rfl rfl rfl rfl (sameInts_ok hT hj12 (xs := (likelyM b).1) (ys := (likelyM b).1) (ints_at _ 3 false) (ints_at _ 3 false) (likelyM_len hb0 hg0)) ?_
          rintro r127 K128 ⟨rfl, rfl⟩
          refine au [30, 1] ?_
          refine TK.sp 52 (fun g7_5 => ?_) (fun g7_5 => ?_)
          · simp at g7_5
          refine au [1, 1, 6, 25, 1] ?_
          refine TK.sp 57 (fun g7_10 => ?_) (fun g7_10 => ?_)
          · simp at g7_10
          refine au [1, 1, 34, 25, 1] ?_
          refine TK.sp 62 (fun g7_15 => ?_) (fun g7_15 => ?_)
          · simp at g7_15
          refine au [1, 1, 6, 25, 1] ?_
          refine TK.sp 67 (fun g7_20 => ?_) (fun g7_20 => ?_)
          · simp at g7_20
          refine au [1, 1] ?_
          refine TK.cl rfl rfl rfl rfl (sameInts_ok hT hj34 (xs := clashM b) (ys := clashM b) (ints_at _ 3 false) (ints_at _ 3 false) (clashM_len hb0 ht0)) ?_
          rintro r130 K131 ⟨rfl, rfl⟩
          refine au [30, 25, 1] ?_
          refine TK.sp 73 (fun g7_26 => ?_) (fun g7_26 => ?_)
          · simp at g7_26
          refine au [1, 1, 6, 25, 3, 20] ?_
          refine ⟨fun hc1 => ?_, fun hc1 => ?_⟩
          · simp at hc1
          refine au [12, 4, 5, 8] ?_
          refine TK.cl rfl rfl rfl rfl (askApi_ok hT hse hn hl) ?_
          rintro r133 K134 ⟨rfl, rfl⟩
          refine au [1, 10, 10, 10, 2, 2, 2, 3, 4, 5, 8] ?_
          refine TK.cl rfl rfl rfl rfl (askRef_ok hT hse hn hl hl2) ?_
          rintro r136 K137 ⟨rfl, rfl⟩
          refine au [1, 10, 10, 10, 2, 2, 2, 3, 4, 5, 8] ?_
          refine TK.cl rfl rfl rfl rfl (lendApi_ok hT hse hn hl) ?_
          rintro r139 K140 ⟨rfl, rfl⟩
          refine au [1, 10, 10, 10, 2, 2, 2, 3, 4, 5, 8] ?_
          refine TK.cl rfl rfl rfl rfl (lendRef_ok hT hse hn hl hl2) ?_
          rintro r142 K143 ⟨rfl, rfl⟩
          refine au [1, 10, 10, 10, 2, 2, 2, 3, 4, 5, 1, 1, 6, 1] ?_
          refine TK.sp 105 (fun g13_4 => ?_) (fun g13_4 => ?_)
          · refine au [1, 1, 6, 26, 1] ?_
            refine TK.sp 110 (fun g13_9 => ?_) (fun g13_9 => ?_)
            · refine au [1, 1, 6, 26, 1] ?_
              refine TK.sp 115 (fun g13_14 => ?_) (fun g13_14 => ?_)
              · refine au [1, 1, 6, 26, 1] ?_
                refine TK.sp 120 (fun g13_19 => ?_) (fun g13_19 => ?_)
                · refine au [1, 1, 6, 26, 1] ?_
                  refine TK.sp 125 (fun g13_24 => ?_) (fun g13_24 => ?_)
                  · refine au [1, 1, 6, 26, 1] ?_
                    refine TK.sp 130 (fun g13_29 => ?_) (fun g13_29 => ?_)
                    · refine TK.cl rfl rfl rfl rfl (sought_ok tame) ?_
                      rintro r145 K146 ⟨rfl, rfl⟩
                      refine au [26, 2, 3] ?_
                      refine TK.rt hret [(0, _), (1, _), (s, _), (e, _)] ?_
                      exact ⟨rfl, rfl⟩
                    simp at g13_29
                  simp at g13_24
                simp at g13_19
              simp at g13_14
            simp at g13_9
          simp at g13_4
end Go.Vel
end
section
set_option linter.all false
namespace Go.Vel
open Go Go.Conc Go.Proofs Go.ChangeShapes Go.WideShapes Go.ChangeAt Go.RowKit
open Go.Proofs.YtmojepgodbadmaaGreatDoor (Tryz.pinned)
def seekerWorstPhi (x0a x0b : Value) : Nat → Loc3
  | 0 => ⟨0, 0, 0⟩
  | 1 => ⟨1, 0, 0⟩
  | 2 => locV x0a
  | 3 => locV x0b
  | _ => ⟨0, 0, 0⟩
theorem seekerWorst_run {W : World} (hl : laidMetH Tryz.prog tblLaid W) {b0 : Bk} {x0a x0b : Value} (h0a : SlIn W saysV 5 b0.seekers x0a) (h0b : SlIn W seenV 2 b0.seen x0b) :
    ∃ M last o w' t', runNT Tryz.prog (M + 1) (solo (G (Frame.enter Tryz.prog 5 #[.agg #[.int .i64 b0.steps, .int .i64 b0.wrong, .int .i64 b0.low, .int .i64 b0.high, x0a, x0b]] .normal) []) W) #[] = (.ended o w', t') ∧
      runN Tryz.prog M (solo (G (Frame.enter Tryz.prog 5 #[.agg #[.int .i64 b0.steps, .int .i64 b0.wrong, .int .i64 b0.low, .int .i64 b0.high, x0a, x0b]] .normal) []) W) = .next last ∧
      step Tryz.prog last = .ended o w' ∧ Conc.Good Tryz.prog (fun v w => v = .bool true ∧ w.os = W.os ∧ w.output = W.output ∧ KeptAll W w) last o w' t' := by
  refine good_run (R := fun v w => v = .bool true ∧ KeptAll W w) (R' := fun v w => v = .bool true ∧ w.os = W.os ∧ w.output = W.output ∧ KeptAll W w) Tryz.func5 rfl (by kernel_rfl) (fun v w' ho hu hr => ⟨hr.1, ho, hu, hr.2⟩) (fun v w τ d h => h) (holdAll_fits W) ?_
  obtain ⟨ht0, ht1⟩ := of_laid hl
  refine lawWorst_top (b := b0) (s := 2) (e := 3) (by decide) (A := [checksG, saysG, saysO b0, seenO b0]) (φ := seekerWorstPhi x0a x0b) (F := holdAll W) ?_ ?_ ?_ ?_ ?_ ?_
  · intro x hx
    simp only [List.mem_cons, List.not_mem_nil, or_false] at hx
    rcases hx with rfl | rfl | rfl | rfl <;> rfl
  · simp [keys]
  · intro g i hg
    match g, hg with
    | 0, hg => cases hg; exact ⟨by simp, rfl, rfl⟩
    | 1, hg => cases hg; exact ⟨by simp, rfl, rfl⟩
    | g + 2, hg => cases hg
  · refine ⟨fun i o ho => ?_, fun i j o o' hi _ _ hx => ?_, fun b x h => h, fun i o hi hx => ?_⟩
    · match i, ho with
      | 0, ho => cases ho; exact tbl_rel ht0
      | 1, ho => cases ho; exact tbl_rel ht1
      | 2, ho => cases ho; exact relO_in h0a (fun _ => rfl) says_rel
      | 3, ho => cases ho; exact relO_in h0b (fun _ => rfl) seen_rel
      | i + 4, ho => simp at ho
    · match i, hi with
      | 0, hi => cases hi; cases hx
      | 1, hi => cases hi; cases hx
      | 2, hi => cases hi; cases hx
      | 3, hi => cases hi; cases hx
      | i + 4, hi => simp at hi
    · match i, hi with
      | 0, hi => cases hi; cases hx
      | 1, hi => cases hi; cases hx
      | 2, hi => cases hi; cases hx
      | 3, hi => cases hi; cases hx
      | i + 4, hi => simp at hi
  · refine ⟨rfl, fun j a y ha hy => ?_⟩
    match j, ha, hy with
    | 0, ha, hy =>
      cases ha; cases hy
      refine .agg rfl fun t u z hu hz => ?_
      match t, hu, hz with
      | 0, hu, hz => cases hu; cases hz; exact .v _
      | 1, hu, hz => cases hu; cases hz; exact .v _
      | 2, hu, hz => cases hu; cases hz; exact .v _
      | 3, hu, hz => cases hu; cases hz; exact .v _
      | 4, hu, hz => cases hu; cases hz; exact relV_in h0a (by simp) rfl
      | 5, hu, hz => cases hu; cases hz; exact relV_in h0b (by simp) rfl
      | t + 6, hu, hz => simp [bookC] at hu
    | j + 1, ha, hy => simp at ha
  · rintro r K' φ' A' H' v w ⟨rfl, _⟩ hH' hv' hfit
    refine ⟨inv_v hv', fun i hi => ?_⟩
    have hh := Array.getElem?_eq_getElem hi
    rw [hh]
    exact hfit i false _ (hH'.fr _ _ (holdAll_get hh))
set_option maxRecDepth 100000 in
theorem seekerWorst_lifted (os : Os) (started : os.Started) (H : Type) (enc : TypeId × Value → H) :
    ReturnsInLeavingWide Go.Proofs.YtmojepgodbadmaaGreatDoor.Rows.seekerWorstRow.assume Tryz.checked os 5 .any (Go.Proofs.YtmojepgodbadmaaGreatDoor.Rows.seekerWorstRow.pre enc Tryz.prog Tryz.f5 (OpenSpec.ofChange Go.Proofs.YtmojepgodbadmaaGreatDoor.Rows.seekerWorstSpec))
      (Go.Proofs.YtmojepgodbadmaaGreatDoor.Rows.seekerWorstSpec.post enc Tryz.prog Tryz.f5 false true false false) := by
  refine returnsInLeavingWide_of_good (C := Tryz.checked) own started
    (ChangeSpec.witness_shaped (enc := enc) (C := Tryz.checked) (os := os) (X := fun w _ => laidMetH Tryz.prog tblLaid w) false (World.doorLaid Tryz.prog 400 os) #[.agg #[.int .i64 0, .int .i64 0, .int .i64 0, .int .i64 0, .slice none 0 0, .slice none 0 0]] 8 rfl (World.shaped_of_RefB (by kernel_rfl) (by kernel_rfl)) (by kernel_rfl) (by kernel_rfl) (by kernel_rfl) (door_met os _)) ?_
  intro w tape i _ _ _ hok hpre _
  obtain ⟨_, _, _, fn', hfn', _, _, _, _, hval0⟩ := hok
  obtain rfl : fn' = Tryz.f5 := Option.some.inj (hfn'.symm.trans Tryz.func5)
  obtain ⟨⟨⟨ds, gs, before, hw, hc⟩, hL0⟩, _⟩ := hpre
  have hW := DataW.Whole.of_heap (w' := w.forCall tape i) (by rfl) hw
  have hL : laidMetH Tryz.prog tblLaid (w.forCall tape i) := laidMetH.of_heap (by rfl) hL0
  obtain ⟨bl, args, vars⟩ := i
  generalize w.forCall tape ⟨bl, args, vars⟩ = W at hW hL hval0 ⊢
  have hW' := hW
  obtain ⟨p, q, hA0, hV0, rfl, _, _⟩ := hW
  have hA : DataW.TrodAll enc Tryz.prog W 0 (fun _ => true) true [27] args.toList ds p := hA0
  obtain ⟨v0, u0, d0, ds0, p0, q0, hargs, rfl, rfl, t0, hr0⟩ := trodAll_cons hA
  obtain ⟨rfl, rfl, rfl⟩ := trodAll_nil hr0
  obtain rfl : args = #[v0] := by cases args; simp_all
  obtain ⟨rfl, rfl⟩ := trodVars_none hV0
  obtain ⟨b0, x0a, x0b, rfl, s0a, s0b⟩ := open_book (okAgg Tryz.underlying27 (hval0 0 27 v0 rfl rfl)) t0
  obtain ⟨M, last, o, w', t', g1, g2, g3, g4⟩ := seekerWorst_run hL s0a s0b
  refine ⟨M, last, o, w', t', g1, g2, g3, g4.mono fun v hF => ?_⟩
  obtain ⟨rfl, ho, hu, hkp⟩ := hF
  refine ChangeSpec.post_blind ?_
  exact ⟨_, _, _, [], _, [], hW', trodAll_mk1 (shut_bool Tryz.underlying4 true), ⟨_, _, trod_mono laid_out t0 hkp, trodAll_mk0, rfl⟩, rfl, kept_but ho hu hkp _, fun h => by cases h⟩
open Go.Proofs.YtmojepgodbadmaaGreatDoor in
theorem seekerWorst_said : Rows.SeekerWorstSaid :=
  OpenClaim.holds_of_wide_leaving 5 Tryz.f5 rfl rfl rfl rfl rfl rfl rfl ⟨rfl, rfl, rfl, rfl, rfl⟩ rfl rfl rfl rfl rfl (by kernel_rfl) Tryz.func5 (by kernel_rfl)
    (of_decide_eq_true (by kernel_rfl)) (by unfold Func.isWrapper; first | (rw [if_pos (by decide +kernel)]; kernel_rfl) | (rw [if_neg (by decide +kernel)]; exact ⟨rfl, rfl⟩))
    (fun os started H enc _ => seekerWorst_lifted os started H enc)
end Go.Vel
namespace Go.Proofs.YtmojepgodbadmaaGreatDoor
open Go
theorem seekerWorst_holds : Rows.SeekerWorstCardSaid :=
  Go.Vel.holds_tied_goes .later [.funcs, .funcs] true (true, "4ec7f063a1680b798177e308e94f0cddf9f672a328c42acb8a5e3df6a22f385e") false
    Go.Vel.seekerWorst_said (by kernel_rfl) seekerWorst_row_tie rfl ⟨rfl, rfl⟩ (by kernel_rfl) rfl
    (fun f fn hf hfn => by
      obtain rfl : f = 5 := Option.some.inj ((show Tryz.prog.funcNamed "velarium/velariumlaw09.SeekerWorst" = some 5 by kernel_rfl).symm.trans hf) |>.symm
      obtain rfl : fn = Tryz.f5 := (Option.some.inj (Tryz.func5.symm.trans hfn)).symm
      exact ⟨by kernel_rfl, fun j t ht => by
        rw [Tryz.params5] at ht
        have hm : t ∈ [27] := by simpa using Array.mem_of_getElem? ht
        have hall : ([27].all fun u => !Tryz.prog.wantsStandIn u) = true := by kernel_rfl
        exact (show Tryz.prog.wantsStandIn t = false by simpa using List.all_eq_true.1 hall t hm)⟩)
    (by kernel_rfl)
#print axioms seekerWorst_holds
end Go.Proofs.YtmojepgodbadmaaGreatDoor
end
