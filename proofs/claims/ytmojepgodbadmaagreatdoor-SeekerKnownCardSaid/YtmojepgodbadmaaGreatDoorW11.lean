/- The law SeekerKnown: States, Counts, At, Steps, Within, Narrow and Wrong agree with the specification. It holds of every program, tape and world that the statements name, as each theorem says. -/
import Derived.Test.YtmojepgodbadmaaGreatDoorW9
import Derived.Test.YtmojepgodbadmaaGreatDoorW10
section
set_option linter.all false
namespace Go.Vel
open Go Go.Conc Go.Proofs

theorem countsM_len {b : Bk} (h0 : askM b true = 0) : (countsM b).length ≤ 100000 := by
  obtain ⟨hck, _⟩ := known0 ((knownBar_eq b true).trans h0)
  have hb := bkOk_of hck
  rw [← counts_eq hb]
  refine Nat.le_trans (sortS_len _) ?_
  have := statesR_len hb
  rw [List.length_map]; omega
theorem pickL_len3 {b : Bk} {v : Int} (h0 : askM b true = 0) : (pickL b v b.steps.toNat).length ≤ 100000 := by
  obtain ⟨hck, _⟩ := known0 ((knownBar_eq b true).trans h0)
  have hst := (bkOk_of hck).steps
  have := pickL_len b v b.steps.toNat
  omega
set_option maxRecDepth 20000 in
set_option maxHeartbeats 20000000 in
theorem lawKnown_top {R : Value → World → Prop} {b : Bk} {s e : Nat} {w lo hi : Int} (hse : s ≠ e) {A : List AObj} {φ : Nat → Loc3} {F H : Hp} {vs : Array Value} (hv : View [(0, checksG), (1, saysG), (s, saysO b), (e, seenO b)] A) (hn0 : (keys [(0, checksG), (1, saysG), (s, saysO b), (e, seenO b)]).Nodup) (hg : RelG gmS φ A.length) (hH : RelH φ A F H) (hargs : RelL φ A.length [.agg (bookC b s e), intA w, intA lo, intA hi] vs)
    (hR : ∀ r K' φ' A' H' v w, (fun r K' => r = boolA true ∧ K' = [(0, checksG), (1, saysG), (s, saysO b), (e, seenO b)]) r K' → RelH φ' A' F H' → RelV φ' A'.length r v → Fits H' w → R v w) : BT Tryz.prog (AtRet Tryz.prog 4 R) (G (Frame.enter Tryz.prog 4 vs .normal) []) H := by
  have hT := shut_BT tame (AtRet Tryz.prog 4 R)
  refine topK_in 201 tame (Post := fun r K' => r = boolA true ∧ K' = [(0, checksG), (1, saysG), (s, saysO b), (e, seenO b)]) Tryz.func4 hv hn0 hg hH hargs hR fun Y hret => ?_
  refine au [4, 5, 21] ?_
  intro jb hjb
  refine au [2, 3, 4, 4, 5, 8] ?_
  refine TK.cl rfl rfl rfl rfl (great_ok hT (s := s) (e := e)) ?_
  rintro r1 K2 ⟨rfl, rfl⟩
  refine au [3, 20] ?_
  refine ⟨fun hc0 => ?_, fun hc0 => ?_⟩
  · refine au [4, 5] ?_
    refine TK.cl rfl rfl rfl rfl (sought_ok tame) ?_
    rintro r4 K5 ⟨rfl, rfl⟩
    refine au [2, 3] ?_
    refine TK.rt hret [(0, _), (1, _), (s, _), (e, _)] ?_
    exact ⟨rfl, rfl⟩
  obtain ⟨hs1, hs2, hs3⟩ := great_small (by simpa using hc0)
  have hn : ∀ x ∈ b.seekers, x.name.size ≤ 1000 := fun x hx => Nat.le_trans (hs3 x hx) (by omega)
  have hl : b.seen.length ≤ 1000 := by omega
  have hl2 : b.seekers.length ≤ 1000 := by omega
  refine au [12, 4, 5, 8] ?_
  refine TK.cl rfl rfl rfl rfl (statesApi_ok hT hse hn hl) ?_
  rintro r7 K8 ⟨rfl, rfl⟩
  refine au [1, 10, 10, 2, 2, 3, 4, 5, 8] ?_
  refine TK.cl rfl rfl rfl rfl (statesRef_ok hT hse hn hl hl2) ?_
  rintro r10 K11 ⟨rfl, rfl⟩
  refine au [1, 10, 10, 2, 2, 3, 4, 5, 8] ?_
  refine TK.cl rfl rfl rfl rfl (counts_ok tame hse hn hl) ?_
  rintro r13 K14 h15
  rcases h15 with ⟨hb0, rfl, rfl⟩ | ⟨hb0, j1, rfl, rfl⟩
  · refine au [1, 10, 10, 2, 2, 3, 4, 5, 8] ?_
    refine TK.cl rfl rfl rfl rfl (countsRef_ok hT hse hn hl hl2) ?_
    rintro r16 K17 ⟨j2, rfl, rfl⟩
    refine au [1, 10, 10, 2, 2, 3, 4, 5, 8, 1] ?_
    refine TK.cl rfl rfl rfl rfl (atApi_ok hT (n := lo) hse hn hl) ?_
    rintro r19 K20 ⟨rfl, rfl⟩
    refine au [1, 10, 10, 2, 2, 3, 4, 5, 8, 1] ?_
    refine TK.cl rfl rfl rfl rfl (atRef_ok hT (n := lo) hse hn hl hl2) ?_
    rintro r22 K23 ⟨rfl, rfl⟩
    refine au [1, 10, 10, 2, 2, 3, 4, 4] ?_
    rw [show cntL b = [] from if_neg hb0]
    refine TK.freezeR 15 rfl (by repeat (first | exact Upd.head | apply Upd.tail)) (by simp only [List.set]; rfl) ?_
    refine TK.nilSl 13 3 rfl fun j1 hj1 => ?_
    refine au [] ?_
    refine TK.nd fun hnd => ?_
    have hj12 : j1 ≠ j2 := fun h => by subst h; simp [keys] at hnd
    refine au [5, 1, 1, 6, 1] ?_
    refine TK.sp 67 (fun g9_4 => ?_) (fun g9_4 => ?_)
    · simp at g9_4
    refine au [1, 1, 6, 25, 1] ?_
    refine TK.sp 72 (fun g9_9 => ?_) (fun g9_9 => ?_)
    · simp at g9_9
    refine au [1, 1] ?_
    refine TK.cl rfl rfl rfl rfl (sameInts_ok hT hj12 (xs := []) (ys := []) (ints_at [] 3 false) (ints_at [] 3 false) (by decide)) ?_
    rintro r25 K26 ⟨rfl, rfl⟩
    refine au [30, 25, 1] ?_
    refine TK.sp 78 (fun g9_15 => ?_) (fun g9_15 => ?_)
    · simp at g9_15
    refine au [1, 1, 6, 25, 1] ?_
    refine TK.sp 83 (fun g9_20 => ?_) (fun g9_20 => ?_)
    · simp at g9_20
    refine au [1, 1, 6, 25, 1] ?_
    refine TK.sp 88 (fun g9_25 => ?_) (fun g9_25 => ?_)
    · simp at g9_25
    refine au [1, 1, 6, 25, 3, 20] ?_
    refine ⟨fun hc1 => ?_, fun hc1 => ?_⟩
    · simp at hc1
    refine au [12, 4, 5, 8] ?_
    refine TK.cl rfl rfl rfl rfl (stepsApi_ok hT hse hn hl) ?_
    rintro r28 K29 h30
    rcases h30 with ⟨hb1, rfl, rfl⟩ | ⟨hb1, j3, j4, rfl, rfl⟩
    · refine au [] ?_
      skip
      refine au [1, 10, 10, 10, 2, 2, 2, 3, 4, 5, 8] ?_
      refine TK.cl rfl rfl rfl rfl (stepsRef_ok hT hse hn hl hl2) ?_
      rintro r31 K32 h33
      rcases h33 with ⟨hb2, rfl, rfl⟩ | ⟨hb2, j5, j6, rfl, rfl⟩
      · refine au [] ?_
        skip
        refine au [1, 10, 10, 10, 2, 2, 2, 3, 4, 5, 8, 1, 1] ?_
        refine TK.cl rfl rfl rfl rfl (withinApi_ok hT (lo := lo) (hi := hi) hse hn hl) ?_
        rintro r34 K35 ⟨rfl, rfl⟩
        refine au [1, 10, 10, 22] ?_
        intro jx hjx
        refine au [17, 2, 3, 4, 5, 8, 1, 1] ?_
        refine TK.cl rfl rfl rfl rfl (withinRef_ok hT (lo := lo) (hi := hi) hse hn hl hl2) ?_
        rintro r37 K38 ⟨rfl, rfl⟩
        refine au [1, 10, 10, 22] ?_
        intro jy hjy
        refine au [17, 2, 3, 4, 4] ?_
        refine TK.nilSl 13 3 rfl fun j3 hj3 => ?_
        refine au [] ?_
        refine TK.nilSl 15 3 rfl fun j5 hj5 => ?_
        refine au [] ?_
        refine TK.nilSl 21 3 rfl fun j4 hj4 => ?_
        refine au [] ?_
        refine TK.nilSl 22 3 rfl fun j6 hj6 => ?_
        refine au [] ?_
        refine TK.nd fun hnd => ?_
        have hj35 : j3 ≠ j5 := fun h => by subst h; simp [keys] at hnd
        refine TK.nd fun hnd => ?_
        have hj46 : j4 ≠ j6 := fun h => by subst h; simp [keys] at hnd
        refine au [5, 1, 1] ?_
        refine TK.cl rfl rfl rfl rfl (sameInts_ok hT hj35 (xs := []) (ys := []) (ints_at [] 3 false) (ints_at [] 3 false) (by decide)) ?_
        rintro r40 K41 ⟨rfl, rfl⟩
        refine au [30, 1] ?_
        refine TK.sp 123 (fun g15_5 => ?_) (fun g15_5 => ?_)
        · simp at g15_5
        refine au [1, 1] ?_
        refine TK.cl rfl rfl rfl rfl (sameInts_ok hT hj46 (xs := []) (ys := []) (ints_at [] 3 false) (ints_at [] 3 false) (by decide)) ?_
        rintro r43 K44 ⟨rfl, rfl⟩
        refine au [30, 25, 1] ?_
        refine TK.sp 129 (fun g15_11 => ?_) (fun g15_11 => ?_)
        · simp at g15_11
        refine au [1, 1, 6, 25, 1] ?_
        refine TK.sp 134 (fun g15_16 => ?_) (fun g15_16 => ?_)
        · simp at g15_16
        refine au [8, 8] ?_
        refine TK.a rfl (q_neqFlat rfl rfl rfl rfl rfl FlatF.h EqG.h) ?_
        refine au [25, 1] ?_
        refine TK.sp 139 (fun g15_21 => ?_) (fun g15_21 => ?_)
        · simp at g15_21
        refine au [1, 1, 6, 25, 3, 20] ?_
        refine ⟨fun hc2 => ?_, fun hc2 => ?_⟩
        · simp at hc2
        refine au [12, 4, 5, 8] ?_
        refine TK.cl rfl rfl rfl rfl (narrow_ok tame hse hn hl) ?_
        rintro r46 K47 ⟨rfl, rfl⟩
        refine au [1, 10, 10, 10, 10, 2, 2, 2, 2, 3, 4, 5, 8] ?_
        refine TK.cl rfl rfl rfl rfl (narrowRef_ok hT hse hn hl hl2) ?_
        rintro r49 K50 ⟨rfl, rfl⟩
        refine au [1, 10, 10, 10, 10, 2, 2, 2, 2, 3, 4, 5, 8, 1] ?_
        refine TK.cl rfl rfl rfl rfl (wrongApi_ok hT (n := w) hse hn hl) ?_
        rintro r52 K53 ⟨rfl, rfl⟩
        refine au [1, 10, 10, 2, 2, 3, 4, 5, 8, 1] ?_
        refine TK.cl rfl rfl rfl rfl (wrongRef_ok hT (n := w) hse hn hl hl2) ?_
        rintro r55 K56 ⟨rfl, rfl⟩
        refine au [1, 10, 10, 2, 2, 3, 4, 5, 1, 1, 6, 1] ?_
        refine TK.sp 173 (fun g21_4 => ?_) (fun g21_4 => ?_)
        · refine au [1, 1, 6, 26, 1] ?_
          refine TK.sp 178 (fun g21_9 => ?_) (fun g21_9 => ?_)
          · refine au [1, 1, 34, 26, 1] ?_
            refine TK.sp 183 (fun g21_14 => ?_) (fun g21_14 => ?_)
            · refine au [1, 1, 6, 26, 1] ?_
              refine TK.sp 188 (fun g21_19 => ?_) (fun g21_19 => ?_)
              · refine au [1, 1, 6, 26, 1] ?_
                refine TK.sp 193 (fun g21_24 => ?_) (fun g21_24 => ?_)
                · refine au [1, 1, 6, 26, 1] ?_
                  refine TK.sp 198 (fun g21_29 => ?_) (fun g21_29 => ?_)
                  · refine TK.cl rfl rfl rfl rfl (sought_ok tame) ?_
                    rintro r58 K59 ⟨rfl, rfl⟩
                    refine au [26, 2, 3] ?_
                    refine TK.rt hret [(0, _), (1, _), (s, _), (e, _)] ?_
                    exact ⟨rfl, rfl⟩
                  simp at g21_29
                simp at g21_24
              simp at g21_19
            simp at g21_14
          simp at g21_9
        simp at g21_4
      · refine au [] ?_
        exact absurd hb2 hb0
    · refine au [] ?_
      exact absurd hb1 hb0
  · refine au [1, 10, 10, 2, 2, 3, 4, 5, 8] ?_
    refine TK.cl rfl rfl rfl rfl (countsRef_ok hT hse hn hl hl2) ?_
    rintro r61 K62 ⟨j2, rfl, rfl⟩
    refine au [1, 10, 10, 2, 2, 3, 4, 5, 8, 1] ?_
    refine TK.cl rfl rfl rfl rfl (atApi_ok hT (n := lo) hse hn hl) ?_
    rintro r64 K65 ⟨rfl, rfl⟩
    refine au [1, 10, 10, 2, 2, 3, 4, 5, 8, 1] ?_
    refine TK.cl rfl rfl rfl rfl (atRef_ok hT (n := lo) hse hn hl hl2) ?_
    rintro r67 K68 ⟨rfl, rfl⟩
    refine au [1, 10, 10, 2, 2, 3, 4, 4] ?_
    rw [show cntL b = countsM b from if_pos hb0]
    refine TK.freezeR 15 rfl (by repeat (first | exact Upd.head | apply Upd.tail)) (by simp only [List.set]; rfl) ?_
    refine TK.freezeR 13 rfl (by repeat (first | exact Upd.head | apply Upd.tail)) (by simp only [List.set]; rfl) ?_
    refine TK.nd fun hnd => ?_
    have hj12 : j1 ≠ j2 := fun h => by subst h; simp [keys] at hnd
    refine au [5, 1, 1, 6, 1] ?_
    refine TK.sp 67 (fun g9_4 => ?_) (fun g9_4 => ?_)
    · simp at g9_4
    refine au [1, 1, 6, 25, 1] ?_
    refine TK.sp 72 (fun g9_9 => ?_) (fun g9_9 => ?_)
    · simp at g9_9
    refine au [1, 1] ?_
    refine TK.cl rfl rfl rfl rfl (sameInts_ok hT hj12 (xs := countsM b) (ys := countsM b) (ints_at _ 3 false) (ints_at _ 3 false) (countsM_len hb0)) ?_
    rintro r70 K71 ⟨rfl, rfl⟩
    refine au [30, 25, 1] ?_
    refine TK.sp 78 (fun g9_15 => ?_) (fun g9_15 => ?_)
    · simp at g9_15
    refine au [1, 1, 6, 25, 1] ?_
    refine TK.sp 83 (fun g9_20 => ?_) (fun g9_20 => ?_)
    · simp [hb0] at g9_20
    refine au [1, 1, 6, 25, 1] ?_
    refine TK.sp 88 (fun g9_25 => ?_) (fun g9_25 => ?_)
    · simp at g9_25
    refine au [1, 1, 6, 25, 3, 20] ?_
    refine ⟨fun hc1 => ?_, fun hc1 => ?_⟩
    · simp at hc1
    refine au [12, 4, 5, 8] ?_
    refine TK.cl rfl rfl rfl rfl (stepsApi_ok hT hse hn hl) ?_
    rintro r73 K74 h75
    rcases h75 with ⟨hb1, rfl, rfl⟩ | ⟨hb1, j3, j4, rfl, rfl⟩
    · refine au [] ?_
      exact absurd hb0 hb1
    · refine au [] ?_
      skip
      refine au [1, 10, 10, 10, 2, 2, 2, 3, 4, 5, 8] ?_
      refine TK.cl rfl rfl rfl rfl (stepsRef_ok hT hse hn hl hl2) ?_
      rintro r76 K77 h78
      rcases h78 with ⟨hb2, rfl, rfl⟩ | ⟨hb2, j5, j6, rfl, rfl⟩
      · refine au [] ?_
        exact absurd hb0 hb2
      · refine au [] ?_
        skip
        refine au [1, 10, 10, 10, 2, 2, 2, 3, 4, 5, 8, 1, 1] ?_
        refine TK.cl rfl rfl rfl rfl (withinApi_ok hT (lo := lo) (hi := hi) hse hn hl) ?_
        rintro r79 K80 ⟨rfl, rfl⟩
        refine au [1, 10, 10, 22] ?_
        intro jx hjx
        refine au [17, 2, 3, 4, 5, 8, 1, 1] ?_
        refine TK.cl rfl rfl rfl rfl (withinRef_ok hT (lo := lo) (hi := hi) hse hn hl hl2) ?_
        rintro r82 K83 ⟨rfl, rfl⟩
        refine au [1, 10, 10, 22] ?_
        intro jy hjy
        refine au [17, 2, 3, 4, 4] ?_
        refine TK.freezeR 13 rfl (by repeat (first | exact Upd.head | apply Upd.tail)) (by simp only [List.set]; rfl) ?_
        refine TK.freezeR 15 rfl (by repeat (first | exact Upd.head | apply Upd.tail)) (by simp only [List.set]; rfl) ?_
        refine TK.freezeR 21 rfl (by repeat (first | exact Upd.head | apply Upd.tail)) (by simp only [List.set]; rfl) ?_
        refine TK.freezeR 22 rfl (by repeat (first | exact Upd.head | apply Upd.tail)) (by simp only [List.set]; rfl) ?_
        refine TK.nd fun hnd => ?_
        have hj35 : j3 ≠ j5 := fun h => by subst h; simp [keys] at hnd
        refine TK.nd fun hnd => ?_
        have hj46 : j4 ≠ j6 := fun h => by subst h; simp [keys] at hnd
        refine au [5, 1, 1] ?_
        refine TK.cl rfl rfl rfl rfl (sameInts_ok hT hj35 (xs := pickL b 1 b.steps.toNat) (ys := pickL b 1 b.steps.toNat) (ints_at _ 3 false) (ints_at _ 3 false) (pickL_len3 hb0)) ?_
        rintro r85 K86 ⟨rfl, rfl⟩
        refine au [30, 1] ?_
        refine TK.sp 123 (fun g15_5 => ?_) (fun g15_5 => ?_)
        · simp at g15_5
        refine au [1, 1] ?_
        refine TK.cl rfl rfl rfl rfl (sameInts_ok hT hj46 (xs := pickL b 0 b.steps.toNat) (ys := pickL b 0 b.steps.toNat) (ints_at _ 3 false) (ints_at _ 3 false) (pickL_len3 hb0)) ?_
        rintro r88 K89 ⟨rfl, rfl⟩
        refine au [30, 25, 1] ?_
        refine TK.sp 129 (fun g15_11 => ?_) (fun g15_11 => ?_)
        · simp at g15_11
        refine au [1, 1, 6, 25, 1] ?_
        refine TK.sp 134 (fun g15_16 => ?_) (fun g15_16 => ?_)
        · simp at g15_16
        refine au [8, 8] ?_
        refine TK.a rfl (q_neqFlat rfl rfl rfl rfl rfl FlatF.h EqG.h) ?_
        refine au [25, 1] ?_
        refine TK.sp 139 (fun g15_21 => ?_) (fun g15_21 => ?_)
        · simp at g15_21
        refine au [1, 1, 6, 25, 3, 20] ?_
        refine ⟨fun hc2 => ?_, fun hc2 => ?_⟩
        · simp at hc2
        refine au [12, 4, 5, 8] ?_
        refine TK.cl rfl rfl rfl rfl (narrow_ok tame hse hn hl) ?_
        rintro r91 K92 ⟨rfl, rfl⟩
        refine au [1, 10, 10, 10, 10, 2, 2, 2, 2, 3, 4, 5, 8] ?_
        refine TK.cl rfl rfl rfl rfl (narrowRef_ok hT hse hn hl hl2) ?_
        rintro r94 K95 ⟨rfl, rfl⟩
        refine au [1, 10, 10, 10, 10, 2, 2, 2, 2, 3, 4, 5, 8, 1] ?_
        refine TK.cl rfl rfl rfl rfl (wrongApi_ok hT (n := w) hse hn hl) ?_
        rintro r97 K98 ⟨rfl, rfl⟩
        refine au [1, 10, 10, 2, 2, 3, 4, 5, 8, 1] ?_
        refine TK.cl rfl rfl rfl rfl (wrongRef_ok hT (n := w) hse hn hl hl2) ?_
        rintro r100 K101 ⟨rfl, rfl⟩
        refine au [1, 10, 10, 2, 2, 3, 4, 5, 1, 1, 6, 1] ?_
        refine TK.sp 173 (fun g21_4 => ?_) (fun g21_4 => ?_)
        · refine au [1, 1, 6, 26, 1] ?_
          refine TK.sp 178 (fun g21_9 => ?_) (fun g21_9 => ?_)
          · refine au [1, 1, 34, 26, 1] ?_
            refine TK.sp 183 (fun g21_14 => ?_) (fun g21_14 => ?_)
            · refine au [1, 1, 6, 26, 1] ?_
              refine TK.sp 188 (fun g21_19 => ?_) (fun g21_19 => ?_)
              · refine au [1, 1, 6, 26, 1] ?_
                refine TK.sp 193 (fun g21_24 => ?_) (fun g21_24 => ?_)
                · refine au [1, 1, 6, 26, 1] ?_
                  refine TK.sp 198 (fun g21_29 => ?_) (fun g21_29 => ?_)
                  · refine TK.cl rfl rfl rfl rfl (sought_ok tame) ?_
                    rintro r103 K104 ⟨rfl, rfl⟩
                    refine au [26, 2, 3] ?_
                    refine TK.rt hret [(0, _), (1, _), (s, _), (e, _)] ?_
                    exact ⟨rfl, rfl⟩
                  simp at g21_29
                simp at g21_24
              simp at g21_19
            simp at g21_14
          simp at g21_9
        simp at g21_4
end Go.Vel
end
section
set_option linter.all false
namespace Go.Vel
open Go Go.Conc Go.Proofs Go.ChangeShapes Go.WideShapes Go.ChangeAt Go.RowKit
open Go.Proofs.YtmojepgodbadmaaGreatDoor (Tryz.pinned)
def seekerKnownPhi (x0a x0b : Value) : Nat → Loc3
  | 0 => ⟨0, 0, 0⟩
  | 1 => ⟨1, 0, 0⟩
  | 2 => locV x0a
  | 3 => locV x0b
  | _ => ⟨0, 0, 0⟩
theorem seekerKnown_run {W : World} (hl : laidMetH Tryz.prog tblLaid W) {b0 : Bk} {x0a x0b : Value} {k1 : Int} {k2 : Int} {k3 : Int} (h0a : SlIn W saysV 5 b0.seekers x0a) (h0b : SlIn W seenV 2 b0.seen x0b) :
    ∃ M last o w' t', runNT Tryz.prog (M + 1) (solo (G (Frame.enter Tryz.prog 4 #[.agg #[.int .i64 b0.steps, .int .i64 b0.wrong, .int .i64 b0.low, .int .i64 b0.high, x0a, x0b], .int .i64 k1, .int .i64 k2, .int .i64 k3] .normal) []) W) #[] = (.ended o w', t') ∧
      runN Tryz.prog M (solo (G (Frame.enter Tryz.prog 4 #[.agg #[.int .i64 b0.steps, .int .i64 b0.wrong, .int .i64 b0.low, .int .i64 b0.high, x0a, x0b], .int .i64 k1, .int .i64 k2, .int .i64 k3] .normal) []) W) = .next last ∧
      step Tryz.prog last = .ended o w' ∧ Conc.Good Tryz.prog (fun v w => v = .bool true ∧ w.os = W.os ∧ w.output = W.output ∧ KeptAll W w) last o w' t' := by
  refine good_run (R := fun v w => v = .bool true ∧ KeptAll W w) (R' := fun v w => v = .bool true ∧ w.os = W.os ∧ w.output = W.output ∧ KeptAll W w) Tryz.func4 rfl (by kernel_rfl) (fun v w' ho hu hr => ⟨hr.1, ho, hu, hr.2⟩) (fun v w τ d h => h) (holdAll_fits W) ?_
  obtain ⟨ht0, ht1⟩ := of_laid hl
  refine lawKnown_top (b := b0) (s := 2) (e := 3) (w := k1) (lo := k2) (hi := k3) (by decide) (A := [checksG, saysG, saysO b0, seenO b0]) (φ := seekerKnownPhi x0a x0b) (F := holdAll W) ?_ ?_ ?_ ?_ ?_ ?_
  · intro x hx
    simp only [List.mem_cons, List.not_mem_nil, or_false] at hx
    rcases hx with rfl | rfl | rfl | rfl <;> rfl
  · simp [keys]
  · intro g i hg
    match g, hg with
    | 0, hg => cases hg; exact ⟨by simp, rfl, rfl⟩
    | 1, hg => cases hg; exact ⟨by simp, rfl, rfl⟩
    | g + 2, hg => cases hg
  · refine ⟨fun i o ho => ?_, fun i j o o' hi _ _ hx => ?_, fun b x h => h, fun i o hi hx => ?_⟩
    · match i, ho with
      | 0, ho => cases ho; exact tbl_rel ht0
      | 1, ho => cases ho; exact tbl_rel ht1
      | 2, ho => cases ho; exact relO_in h0a (fun _ => rfl) says_rel
      | 3, ho => cases ho; exact relO_in h0b (fun _ => rfl) seen_rel
      | i + 4, ho => simp at ho
    · match i, hi with
      | 0, hi => cases hi; cases hx
      | 1, hi => cases hi; cases hx
      | 2, hi => cases hi; cases hx
      | 3, hi => cases hi; cases hx
      | i + 4, hi => simp at hi
    · match i, hi with
      | 0, hi => cases hi; cases hx
      | 1, hi => cases hi; cases hx
      | 2, hi => cases hi; cases hx
      | 3, hi => cases hi; cases hx
      | i + 4, hi => simp at hi
  · refine ⟨rfl, fun j a y ha hy => ?_⟩
    match j, ha, hy with
    | 0, ha, hy =>
      cases ha; cases hy
      refine .agg rfl fun t u z hu hz => ?_
      match t, hu, hz with
      | 0, hu, hz => cases hu; cases hz; exact .v _
      | 1, hu, hz => cases hu; cases hz; exact .v _
      | 2, hu, hz => cases hu; cases hz; exact .v _
      | 3, hu, hz => cases hu; cases hz; exact .v _
      | 4, hu, hz => cases hu; cases hz; exact relV_in h0a (by simp) rfl
      | 5, hu, hz => cases hu; cases hz; exact relV_in h0b (by simp) rfl
      | t + 6, hu, hz => simp [bookC] at hu
    | 1, ha, hy =>
      cases ha; cases hy; exact .v _
    | 2, ha, hy =>
      cases ha; cases hy; exact .v _
    | 3, ha, hy =>
      cases ha; cases hy; exact .v _
    | j + 4, ha, hy => simp at ha
  · rintro r K' φ' A' H' v w ⟨rfl, _⟩ hH' hv' hfit
    refine ⟨inv_v hv', fun i hi => ?_⟩
    have hh := Array.getElem?_eq_getElem hi
    rw [hh]
    exact hfit i false _ (hH'.fr _ _ (holdAll_get hh))
set_option maxRecDepth 100000 in
theorem seekerKnown_lifted (os : Os) (started : os.Started) (H : Type) (enc : TypeId × Value → H) :
    ReturnsInLeavingWide Go.Proofs.YtmojepgodbadmaaGreatDoor.Rows.seekerKnownRow.assume Tryz.checked os 4 .any (Go.Proofs.YtmojepgodbadmaaGreatDoor.Rows.seekerKnownRow.pre enc Tryz.prog Tryz.f4 (OpenSpec.ofChange Go.Proofs.YtmojepgodbadmaaGreatDoor.Rows.seekerKnownSpec))
      (Go.Proofs.YtmojepgodbadmaaGreatDoor.Rows.seekerKnownSpec.post enc Tryz.prog Tryz.f4 false true false false) := by
  refine returnsInLeavingWide_of_good (C := Tryz.checked) own started
    (ChangeSpec.witness_shaped (enc := enc) (C := Tryz.checked) (os := os) (X := fun w _ => laidMetH Tryz.prog tblLaid w) false (World.doorLaid Tryz.prog 400 os) #[.agg #[.int .i64 0, .int .i64 0, .int .i64 0, .int .i64 0, .slice none 0 0, .slice none 0 0], .int .i64 0, .int .i64 0, .int .i64 0] 8 rfl (World.shaped_of_RefB (by kernel_rfl) (by kernel_rfl)) (by kernel_rfl) (by kernel_rfl) (by kernel_rfl) (door_met os _)) ?_
  intro w tape i _ _ _ hok hpre _
  obtain ⟨_, _, _, fn', hfn', _, _, _, _, hval0⟩ := hok
  obtain rfl : fn' = Tryz.f4 := Option.some.inj (hfn'.symm.trans Tryz.func4)
  obtain ⟨⟨⟨ds, gs, before, hw, hc⟩, hL0⟩, _⟩ := hpre
  have hW := DataW.Whole.of_heap (w' := w.forCall tape i) (by rfl) hw
  have hL : laidMetH Tryz.prog tblLaid (w.forCall tape i) := laidMetH.of_heap (by rfl) hL0
  obtain ⟨bl, args, vars⟩ := i
  generalize w.forCall tape ⟨bl, args, vars⟩ = W at hW hL hval0 ⊢
  have hW' := hW
  obtain ⟨p, q, hA0, hV0, rfl, _, _⟩ := hW
  have hA : DataW.TrodAll enc Tryz.prog W 0 (fun _ => true) true [27, 3, 3, 3] args.toList ds p := hA0
  obtain ⟨v0, u0, d0, ds0, p0, q0, hargs, rfl, rfl, t0, hr0⟩ := trodAll_cons hA
  obtain ⟨v1, u1, d1, ds1, p1, q1, rfl, rfl, rfl, t1, hr1⟩ := trodAll_cons hr0
  obtain ⟨v2, u2, d2, ds2, p2, q2, rfl, rfl, rfl, t2, hr2⟩ := trodAll_cons hr1
  obtain ⟨v3, u3, d3, ds3, p3, q3, rfl, rfl, rfl, t3, hr3⟩ := trodAll_cons hr2
  obtain ⟨rfl, rfl, rfl⟩ := trodAll_nil hr3
  obtain rfl : args = #[v0, v1, v2, v3] := by cases args; simp_all
  obtain ⟨rfl, rfl⟩ := trodVars_none hV0
  obtain ⟨b0, x0a, x0b, rfl, s0a, s0b⟩ := open_book (okAgg Tryz.underlying27 (hval0 0 27 v0 rfl rfl)) t0
  obtain ⟨k1, rfl, rfl, rfl, s1⟩ := open_int Tryz.underlying3 (hval0 1 3 v1 rfl rfl) t1
  obtain ⟨k2, rfl, rfl, rfl, s2⟩ := open_int Tryz.underlying3 (hval0 2 3 v2 rfl rfl) t2
  obtain ⟨k3, rfl, rfl, rfl, s3⟩ := open_int Tryz.underlying3 (hval0 3 3 v3 rfl rfl) t3
  obtain ⟨M, last, o, w', t', g1, g2, g3, g4⟩ := seekerKnown_run hL s0a s0b (k1 := k1) (k2 := k2) (k3 := k3)
  refine ⟨M, last, o, w', t', g1, g2, g3, g4.mono fun v hF => ?_⟩
  obtain ⟨rfl, ho, hu, hkp⟩ := hF
  refine ChangeSpec.post_blind ?_
  exact ⟨_, _, _, [], _, [], hW', trodAll_mk1 (shut_bool Tryz.underlying4 true), ⟨_, _, trod_mono laid_out t0 hkp, ⟨_, _, trod_mono laid_out t1 hkp, ⟨_, _, trod_mono laid_out t2 hkp, ⟨_, _, trod_mono laid_out t3 hkp, trodAll_mk0, rfl⟩, rfl⟩, rfl⟩, rfl⟩, rfl, kept_but ho hu hkp _, fun h => by cases h⟩
open Go.Proofs.YtmojepgodbadmaaGreatDoor in
theorem seekerKnown_said : Rows.SeekerKnownSaid :=
  OpenClaim.holds_of_wide_leaving 4 Tryz.f4 rfl rfl rfl rfl rfl rfl rfl ⟨rfl, rfl, rfl, rfl, rfl⟩ rfl rfl rfl rfl rfl (by kernel_rfl) Tryz.func4 (by kernel_rfl)
    (of_decide_eq_true (by kernel_rfl)) (by unfold Func.isWrapper; first | (rw [if_pos (by decide +kernel)]; kernel_rfl) | (rw [if_neg (by decide +kernel)]; exact ⟨rfl, rfl⟩))
    (fun os started H enc _ => seekerKnown_lifted os started H enc)
end Go.Vel
namespace Go.Proofs.YtmojepgodbadmaaGreatDoor
open Go
theorem seekerKnown_holds : Rows.SeekerKnownCardSaid :=
  Go.Vel.holds_tied_goes .later [.funcs, .funcs] true (true, "4ec7f063a1680b798177e308e94f0cddf9f672a328c42acb8a5e3df6a22f385e") false
    Go.Vel.seekerKnown_said (by kernel_rfl) seekerKnown_row_tie rfl ⟨rfl, rfl⟩ (by kernel_rfl) rfl
    (fun f fn hf hfn => by
      obtain rfl : f = 4 := Option.some.inj ((show Tryz.prog.funcNamed "velarium/velariumlaw09.SeekerKnown" = some 4 by kernel_rfl).symm.trans hf) |>.symm
      obtain rfl : fn = Tryz.f4 := (Option.some.inj (Tryz.func4.symm.trans hfn)).symm
      exact ⟨by kernel_rfl, fun j t ht => by
        rw [Tryz.params4] at ht
        have hm : t ∈ [27, 3, 3, 3] := by simpa using Array.mem_of_getElem? ht
        have hall : ([27, 3, 3, 3].all fun u => !Tryz.prog.wantsStandIn u) = true := by kernel_rfl
        exact (show Tryz.prog.wantsStandIn t = false by simpa using List.all_eq_true.1 hall t hm)⟩)
    (by kernel_rfl)
#print axioms seekerKnown_holds
end Go.Proofs.YtmojepgodbadmaaGreatDoor
end
