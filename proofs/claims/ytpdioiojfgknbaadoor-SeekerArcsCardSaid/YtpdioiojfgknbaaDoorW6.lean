/- Texts for the statements of chapter 9: what all of them need, part 7. It holds of every program, tape and world that the statements name, as each theorem says. -/
import Derived.Test.YtpdioiojfgknbaaDoorProg
import Derived.Test.YtpdioiojfgknbaaDoorW4
import Derived.Test.YtpdioiojfgknbaaDoorW5
section
set_option linter.all false
set_option maxRecDepth 20000
set_option maxHeartbeats 60000000
namespace Go.Vel
open Go Go.Conc Go.Proofs

/-! ### all seams -/
def restM (b : Bk) (i : Nat) : List Int := (List.range' i (b.steps.toNat - i)).map fun k : Nat => (k : Int)
theorem restM_nil {b : Bk} {i : Nat} (h : b.steps ≤ i) : restM b i = [] := by
 unfold restM
 rw [show b.steps.toNat - i = 0 by omega]; rfl
theorem restM_cons {b : Bk} {i : Nat} (h : (i : Int) < b.steps) : restM b i = (i : Int) :: restM b (i + 1) := by
 unfold restM
 rw [show b.steps.toNat - i = (b.steps.toNat - (i + 1)) + 1 by omega, List.range'_succ]; rfl
def ownM (b : Bk) (S : List Int) : List (List Int) := if seenM b S = true then [S] else []
def loopM (b : Bk) : List Int → List Int → List (List Int)
 | _, [] => []
 | S, n :: rest => if (S.length : Int) < b.high then (ownM b (S ++ [n]) ++ loopM b (S ++ [n]) rest) ++ loopM b S rest else []
def allM (b : Bk) : List (List Int) := ownM b [] ++ loopM b [] (restM b 0)
theorem loopM_high {b : Bk} {S : List Int} (h : ¬ (S.length : Int) < b.high) : ∀ rest, loopM b S rest = []
 | [] => rfl
 | n :: rest => by simp only [loopM]; rw [if_neg h]
theorem smOk_nil (b : Bk) : SmOk b [] := ⟨by simp, by simp⟩
theorem smOk_with {b : Bk} {S : List Int} {n : Int} (h : SmOk b S) (hl : S.length < 3) (hn : 0 ≤ n ∧ n < b.steps) : SmOk b (S ++ [n]) := ⟨by simp; omega, fun x hx => by
 rcases List.mem_append.1 hx with hx | hx
 ·exact h.mem x hx
 ·rw [List.mem_singleton.1 hx]; exact hn⟩
theorem ownM_ok {b : Bk} {S : List Int} (h : SmOk b S) : ∀ R ∈ ownM b S, SmOk b R := fun R hR => by
 unfold ownM at hR
 split at hR
 ·rw [List.mem_singleton.1 hR]; exact h
 ·cases hR
theorem loopM_ok {b : Bk} (hb : BkOk b) : ∀ (rest : List Int) (S : List Int), SmOk b S → (∀ n ∈ rest, 0 ≤ n ∧ n < b.steps) → ∀ R ∈ loopM b S rest, SmOk b R
 | [], S, _, _, R, hR => by cases hR
 | n :: rest, S, hS, hr, R, hR => by
  simp only [loopM] at hR
  split at hR
  ·rename_i h
   have hw := smOk_with hS (by have := hb.high; omega) (hr n (by simp))
   rcases List.mem_append.1 hR with hR | hR
   ·rcases List.mem_append.1 hR with hR | hR
    ·exact ownM_ok hw R hR
    ·exact loopM_ok hb rest _ hw (fun m hm => hr m (by simp [hm])) R hR
   ·exact loopM_ok hb rest S hS (fun m hm => hr m (by simp [hm])) R hR
  ·cases hR
theorem restM_mem {b : Bk} {i : Nat} : ∀ n ∈ restM b i, 0 ≤ n ∧ n < b.steps := fun n hn => by
 unfold restM at hn
 rw [List.mem_map] at hn
 obtain ⟨k, hk, rfl⟩ := hn
 rw [List.mem_range'] at hk
 omega
theorem allM_ok {b : Bk} (hb : BkOk b) : ∀ S ∈ allM b, SmOk b S := fun S hS => by
 rcases List.mem_append.1 hS with h | h
 ·exact ownM_ok (smOk_nil b) S h
 ·exact loopM_ok hb _ _ (smOk_nil b) restM_mem S h
theorem allM_pre {b : Bk} (hb : BkOk b) {pre : List (List Int)} {S : List Int} (h : pre ++ [S] <+: allM b) : SmOk b S := allM_ok hb S (h.subset (by simp))

/-- What yield does. -/
def YieldK (P : Program) (T : Goroutine → Hp → Prop) (gm : Nat → Option Nat) (b : Bk) (e l : Nat) (J : List (List Int) → KV → Prop) (D : KV → Prop) (tot : List (List Int)) : Prop := ∀ (pre : List (List Int)) (S : List Int) (K1 : KV), pre ++ [S] <+: tot → J pre K1 →
 CallFK P T gm (.yl l) [.agg (seamsC S)] ((e, seenO b) :: K1) fun r K' => ∃ K2, K' = (e, seenO b) :: K2 ∧ ((r = boolA true ∧ J (pre ++ [S]) K2) ∨ (r = boolA false ∧ D K2))

section
variable {P : Program} {gm : Nat → Option Nat} {T : Goroutine → Hp → Prop} {Y : KX P gm T} {ds : List Nat} {k : List Item} {env : List AV} {K K' : KV} {ops : Array Oper} {L : List Nat} {pend : List Pd}
theorem TD.perm (hp : K.Perm K') (h : TD Y ds ops k pend L env K') : TD Y ds ops k pend L env K := fun h1 h2 h3 A hA => h h1 h2 (fun p hp' x hx => hp.subset (h3 p hp' x hx)) A
 ⟨hA.view.sub fun x hx => hp.symm.subset hx, (keys_perm hp).nodup_iff.1 hA.nd, fun i hi => hA.own i ((keys_perm hp).symm.subset hi), hA.kept, hA.len⟩
end
theorem own_loop {b : Bk} {S : List Int} {i : Nat} {pre x : List (List Int)} (hi : (i : Int) < b.steps) (hs : (S.length : Int) < b.high) (h : pre ++ loopM b S (restM b i) = x) :
  (pre ++ (ownM b (S ++ [(i : Int)]) ++ loopM b (S ++ [(i : Int)]) (restM b (i + 1)))) ++ loopM b S (restM b (i + 1)) = x := by
 rw [← h, restM_cons hi]
 simp only [loopM]
 rw [if_pos hs]
 simp only [List.append_assoc]


theorem next_ok {main : Bool} {T : Goroutine → Hp → Prop} (hT : Shut Tryd.prog main T) {gm : Nat → Option Nat} {b : Bk} {s e l jb jy jn : Nat} (hb : BkOk b) {J : List (List Int) → KV → Prop} {D : KV → Prop} {tot : List (List Int)} (hy : YieldK Tryd.prog T gm b e l J D tot) :
  ∀ (m : Nat) (S : List Int) (step : Nat) (pre : List (List Int)) (K1 : KV), b.steps.toNat - step = m → SmOk b S → (step : Int) ≤ b.steps → pre ++ (ownM b S ++ loopM b S (restM b step)) <+: tot → J pre K1 →
  CallK Tryd.prog T gm 73 [.agg (seamsC S), intA step, .ptr jb 0, .ptr jy 0, .ptr jn 0] ((jb, .cells (bookC b s e) 70 true) :: (jy, .cells [.yl l] 116 true) :: (jn, .cells [.fn 73 [] [.ptr jb 0, .ptr jy 0, .ptr jn 0]] 115 true) :: (e, seenO b) :: K1) (fun r K' => ∃ K2, K' = (jb, .cells (bookC b s e) 70 true) :: (jy, .cells [.yl l] 116 true) :: (jn, .cells [.fn 73 [] [.ptr jb 0, .ptr jy 0, .ptr jn 0]] 115 true) :: (e, seenO b) :: K2 ∧ ((r = boolA true ∧ J (pre ++ (ownM b S ++ loopM b S (restM b step))) K2) ∨ (r = boolA false ∧ D K2))) := by
 refine fun m => Nat.strongRecOn m fun m ih => ?_
 intro S step pre K1 hm hS hst hpre hJ
 refine callK_in 43 hT Tryd.func73 fun Y hret => ?_
 refine au [4, 5, 21] ?_
 intro js hjs
 refine au [2, 3, 4, 4, 5, 8, 8] ?_
 refine TK.cl rfl rfl rfl rfl (seen_ok hT (s := s) (e := e) hb hS.len) ?_ (hs := (.rem (.tail (.tail (.tail (.tail .head)))) (.none _)))
 rintro r1 K2 ⟨rfl, rfl⟩
 refine au [] ?_
 refine TK.perm (K' := (js, _) :: (jb, _) :: (jy, _) :: (jn, _) :: (e, _) :: K1) (List.perm_middle (l₁ := [(js, _), (jb, _), (jy, _), (jn, _)])).symm ?_
 refine au [1] ?_
 refine TK.sp 12 (fun g1_4 => ?_) (fun g1_4 => ?_)
 ·have hown : ownM b S = [S] := if_pos g1_4
  refine au [9, 8] ?_
  refine TK.callF' rfl rfl rfl rfl rfl (hy pre S K1 (List.IsPrefix.trans (by rw [hown, ← List.append_assoc]; exact List.prefix_append _ _) hpre) hJ) (.right (.right (.right (.right (.all _))))) fun r4 K5 h6 => ?_
  rcases h6 with ⟨K2, rfl, ⟨rfl, hJ2⟩ | ⟨rfl, hD⟩⟩
  ·refine au [] ?_
   refine TK.perm (K' := (js, _) :: (jb, _) :: (jy, _) :: (jn, _) :: (e, _) :: K2) (List.perm_append_comm (l₁ := (e, _) :: K2)) ?_
   refine au [30, 26, 3, 19, 12, 4, 4, 5, 1, 2, 3, 13] ?_
   refine TK.maskL [2, 3, 4, 5, 8] ?_
   refine TK.loopN (fun n env K => ∃ (i : Nat) (pre1 : List (List Int)) (K2 : KV), n = b.steps.toNat - i ∧ step ≤ i ∧ (i : Int) ≤ b.steps ∧ J pre1 K2 ∧ pre1 ++ loopM b S (restM b i) = pre ++ (ownM b S ++ loopM b S (restM b step)) ∧ env = slotsA 43 [(2, .ptr jb 0), (3, .ptr jy 0), (4, .ptr jn 0), (5, .ptr js 0), (8, intA i)] ∧ K = (js, .cells (seamsC S) 81 true) :: (jb, .cells (bookC b s e) 70 true) :: (jy, .cells [.yl l] 116 true) :: (jn, .cells [.fn 73 [] [.ptr jb 0, .ptr jy 0, .ptr jn 0]] 115 true) :: (e, seenO b) :: K2) (b.steps.toNat - step) ⟨step, pre ++ [S], _, rfl, Nat.le_refl _, hst, hJ2, by rw [hown, List.append_assoc], rfl, rfl⟩ fun n env K hI hnext => ?_
   obtain ⟨i, pre1, K2, rfl, hsi, hi, hJ1, hEq, rfl, rfl⟩ := hI
   refine au [4, 4, 5, 1, 7, 7, 9, 6, 1] ?_
   refine TK.sp 24 (fun g4_6 => ?_) (fun g4_6 => ?_)
   ·simp only [decide_eq_true_eq] at g4_6
    refine au [7, 9, 7, 7, 7, 9, 6, 26, 3, 20] ?_
    refine ⟨fun hc1 => ?_, fun hc1 => ?_⟩
    ·simp only [decide_eq_true_eq] at hc1
     have hh := hb.high
     have hst16 := hb.steps
     refine au [12, 4, 13, 4] ?_
     refine TK.draw [0, 1, 2, 4, 5, 3, 6, 7] [0, 1, 2, 3, 4, 5, 6, 7] (by kernel_rfl) (by kernel_rfl) ?_
     refine TD.y [4] rfl (hq := q_load1 rfl rfl TySz.h (List.Mem.head _) rfl) (h := ?_)
     refine TD.y [5] rfl (hq := q_load rfl rfl TySz.h (List.Mem.head _) rfl) (h := ?_)
     refine TD.z [8] rfl (q_move rfl rfl) ?_
     refine TD.z [8] rfl (q_move rfl rfl) ?_
     refine TD.z [39] rfl (q_add rfl rfl rfl (by omega)) ?_
     refine TD.cl (pend' := [⟨5, [39], []⟩, ⟨4, [8], []⟩, ⟨0, [4], [(_, _)]⟩]) [36, 37] rfl rfl rfl rfl rfl (with_ok hT (by omega) (by have := hb.steps; omega)) (fun r7 K8 h9 => ⟨?_, ?_⟩)
     ·rcases h9 with ⟨rfl, rfl⟩
      all_goals simp
     obtain ⟨rfl, rfl⟩ := h9
     try simp only [List.cons_append, List.nil_append]
     refine TD.norm (by simp only [List.set]; rfl) ?_
     refine TD.cl (pend' := [⟨4, [8], []⟩]) [35, 38, 40] rfl rfl rfl rfl rfl (ih (b.steps.toNat - (i + 1)) (by omega) (S ++ [(i : Int)]) (i + 1) pre1 K2 rfl (smOk_with hS (by omega) (by omega)) (by omega) (List.IsPrefix.trans ⟨loopM b S (restM b (i + 1)), own_loop (by omega) (by omega) hEq⟩ hpre) hJ1) (fun r10 K11 h12 => ⟨?_, ?_⟩) (hs := (.right (.all _)))
     ·rcases h12 with ⟨K3, rfl, ⟨rfl, hJ3⟩ | ⟨rfl, hD⟩⟩
      all_goals simp
     rcases h12 with ⟨K3, rfl, ⟨rfl, hJ3⟩ | ⟨rfl, hD⟩⟩
     ·try simp only [List.cons_append, List.nil_append]
      refine TD.norm (by simp only [List.set]; rfl) ?_
      refine TD.perm (K' := (js, _) :: (jb, _) :: (jy, _) :: (jn, _) :: (e, _) :: K3) (List.perm_append_singleton _ ((jb, _) :: (jy, _) :: (jn, _) :: (e, _) :: K3)) ?_
      refine TD.z [41] rfl (q_not rfl rfl) ?_
      refine TD.fin ?_
      refine au [19, 12, 14, 5, 1, 23, 2, 3] ?_
      refine TK.maskL [2, 3, 4, 5, 8] ?_
      exact hnext _ _ _ (by omega) ⟨i + 1, _, K3, rfl, by omega, by omega, hJ3, own_loop (by omega) (by omega) hEq, rfl, rfl⟩
     ·try simp only [List.cons_append, List.nil_append]
      refine TD.norm (by simp only [List.set]; rfl) ?_
      refine TD.perm (K' := (js, _) :: (jb, _) :: (jy, _) :: (jn, _) :: (e, _) :: K3) (List.perm_append_singleton _ ((jb, _) :: (jy, _) :: (jn, _) :: (e, _) :: K3)) ?_
      refine TD.z [41] rfl (q_not rfl rfl) ?_
      refine TD.fin ?_
      refine au [18, 4, 5, 2, 3] ?_
      refine TK.rt hret (_) ?_ (hs := (.right (.all _)))
      exact ⟨_, rfl, .inr ⟨rfl, hD⟩⟩
    have hsh := of_decide_eq_false hc1
    refine au [16, 4, 5, 2, 3] ?_
    refine TK.rt hret (_) ?_ (hs := (.right (.all _)))
    refine ⟨_, rfl, .inl ⟨rfl, ?_⟩⟩
    rw [loopM_high hsh, List.append_nil] at hEq
    rw [← hEq]
    exact hJ1
   simp only [decide_eq_false_iff_not] at g4_6
   refine au [11, 11, 11, 11, 11, 11, 11, 25, 3, 19, 16, 4, 5, 2, 3] ?_
   refine TK.rt hret (_) ?_ (hs := (.right (.all _)))
   refine ⟨_, rfl, .inl ⟨rfl, ?_⟩⟩
   rw [restM_nil (by omega)] at hEq
   rw [loopM, List.append_nil] at hEq
   rw [← hEq]
   exact hJ1
  ·refine au [] ?_
   refine TK.perm (K' := (js, _) :: (jb, _) :: (jy, _) :: (jn, _) :: (e, _) :: K2) (List.perm_append_comm (l₁ := (e, _) :: K2)) ?_
   refine au [30, 26, 3, 18, 4, 5, 2, 3] ?_
   refine TK.rt hret (_) ?_ (hs := (.right (.all _)))
   exact ⟨_, rfl, .inr ⟨rfl, hD⟩⟩
 have hown : ownM b S = [] := if_neg (by rw [g1_4]; decide)
 refine au [11, 11, 11, 11, 25, 3, 19, 12, 4, 4, 5, 1, 2, 3, 13] ?_
 refine TK.maskL [2, 3, 4, 5, 8] ?_
 refine TK.loopN (fun n env K => ∃ (i : Nat) (pre1 : List (List Int)) (K2 : KV), n = b.steps.toNat - i ∧ step ≤ i ∧ (i : Int) ≤ b.steps ∧ J pre1 K2 ∧ pre1 ++ loopM b S (restM b i) = pre ++ (ownM b S ++ loopM b S (restM b step)) ∧ env = slotsA 43 [(2, .ptr jb 0), (3, .ptr jy 0), (4, .ptr jn 0), (5, .ptr js 0), (8, intA i)] ∧ K = (js, .cells (seamsC S) 81 true) :: (jb, .cells (bookC b s e) 70 true) :: (jy, .cells [.yl l] 116 true) :: (jn, .cells [.fn 73 [] [.ptr jb 0, .ptr jy 0, .ptr jn 0]] 115 true) :: (e, seenO b) :: K2) (b.steps.toNat - step) ⟨step, pre, _, rfl, Nat.le_refl _, hst, hJ, by rw [hown]; rfl, rfl, rfl⟩ fun n env K hI hnext => ?_
 obtain ⟨i, pre1, K2, rfl, hsi, hi, hJ1, hEq, rfl, rfl⟩ := hI
 refine au [4, 4, 5, 1, 7, 7, 9, 6, 1] ?_
 refine TK.sp 24 (fun g4_6 => ?_) (fun g4_6 => ?_)
 ·simp only [decide_eq_true_eq] at g4_6
  refine au [7, 9, 7, 7, 7, 9, 6, 26, 3, 20] ?_
  refine ⟨fun hc1 => ?_, fun hc1 => ?_⟩
  ·simp only [decide_eq_true_eq] at hc1
   have hh := hb.high
   have hst16 := hb.steps
   refine au [12, 4, 13, 4] ?_
   refine TK.draw [0, 1, 2, 4, 5, 3, 6, 7] [0, 1, 2, 3, 4, 5, 6, 7] (by kernel_rfl) (by kernel_rfl) ?_
   refine TD.y [4] rfl (hq := q_load1 rfl rfl TySz.h (List.Mem.head _) rfl) (h := ?_)
   refine TD.y [5] rfl (hq := q_load rfl rfl TySz.h (List.Mem.head _) rfl) (h := ?_)
   refine TD.z [8] rfl (q_move rfl rfl) ?_
   refine TD.z [8] rfl (q_move rfl rfl) ?_
   refine TD.z [39] rfl (q_add rfl rfl rfl (by omega)) ?_
   refine TD.cl (pend' := [⟨5, [39], []⟩, ⟨4, [8], []⟩, ⟨0, [4], [(_, _)]⟩]) [36, 37] rfl rfl rfl rfl rfl (with_ok hT (by omega) (by have := hb.steps; omega)) (fun r13 K14 h15 => ⟨?_, ?_⟩)
   ·rcases h15 with ⟨rfl, rfl⟩
    all_goals simp
   obtain ⟨rfl, rfl⟩ := h15
   try simp only [List.cons_append, List.nil_append]
   refine TD.norm (by simp only [List.set]; rfl) ?_
   refine TD.cl (pend' := [⟨4, [8], []⟩]) [35, 38, 40] rfl rfl rfl rfl rfl (ih (b.steps.toNat - (i + 1)) (by omega) (S ++ [(i : Int)]) (i + 1) pre1 K2 rfl (smOk_with hS (by omega) (by omega)) (by omega) (List.IsPrefix.trans ⟨loopM b S (restM b (i + 1)), own_loop (by omega) (by omega) hEq⟩ hpre) hJ1) (fun r16 K17 h18 => ⟨?_, ?_⟩) (hs := (.right (.all _)))
   ·rcases h18 with ⟨K3, rfl, ⟨rfl, hJ3⟩ | ⟨rfl, hD⟩⟩
    all_goals simp
   rcases h18 with ⟨K3, rfl, ⟨rfl, hJ3⟩ | ⟨rfl, hD⟩⟩
   ·try simp only [List.cons_append, List.nil_append]
    refine TD.norm (by simp only [List.set]; rfl) ?_
    refine TD.perm (K' := (js, _) :: (jb, _) :: (jy, _) :: (jn, _) :: (e, _) :: K3) (List.perm_append_singleton _ ((jb, _) :: (jy, _) :: (jn, _) :: (e, _) :: K3)) ?_
    refine TD.z [41] rfl (q_not rfl rfl) ?_
    refine TD.fin ?_
    refine au [19, 12, 14, 5, 1, 23, 2, 3] ?_
    refine TK.maskL [2, 3, 4, 5, 8] ?_
    exact hnext _ _ _ (by omega) ⟨i + 1, _, K3, rfl, by omega, by omega, hJ3, own_loop (by omega) (by omega) hEq, rfl, rfl⟩
   ·try simp only [List.cons_append, List.nil_append]
    refine TD.norm (by simp only [List.set]; rfl) ?_
    refine TD.perm (K' := (js, _) :: (jb, _) :: (jy, _) :: (jn, _) :: (e, _) :: K3) (List.perm_append_singleton _ ((jb, _) :: (jy, _) :: (jn, _) :: (e, _) :: K3)) ?_
    refine TD.z [41] rfl (q_not rfl rfl) ?_
    refine TD.fin ?_
    refine au [18, 4, 5, 2, 3] ?_
    refine TK.rt hret (_) ?_ (hs := (.right (.all _)))
    exact ⟨_, rfl, .inr ⟨rfl, hD⟩⟩
  have hsh := of_decide_eq_false hc1
  refine au [16, 4, 5, 2, 3] ?_
  refine TK.rt hret (_) ?_ (hs := (.right (.all _)))
  refine ⟨_, rfl, .inl ⟨rfl, ?_⟩⟩
  rw [loopM_high hsh, List.append_nil] at hEq
  rw [← hEq]
  exact hJ1
 simp only [decide_eq_false_iff_not] at g4_6
 refine au [11, 11, 11, 11, 11, 11, 11, 25, 3, 19, 16, 4, 5, 2, 3] ?_
 refine TK.rt hret (_) ?_ (hs := (.right (.all _)))
 refine ⟨_, rfl, .inl ⟨rfl, ?_⟩⟩
 rw [restM_nil (by omega)] at hEq
 rw [loopM, List.append_nil] at hEq
 rw [← hEq]
 exact hJ1

theorem all_ok {main : Bool} {T : Goroutine → Hp → Prop} (hT : Shut Tryd.prog main T) {gm : Nat → Option Nat} {b : Bk} {s e l : Nat} (hb : BkOk b) {J : List (List Int) → KV → Prop} {D : KV → Prop} {K1 : KV} (hy : YieldK Tryd.prog T gm b e l J D (allM b)) (hJ : J [] K1) :
  CallK Tryd.prog T gm 45 [.agg (bookC b s e), .yl l] ((e, seenO b) :: K1) (fun _ K' => ∃ K2, K' = (e, seenO b) :: K2 ∧ (J (allM b) K2 ∨ D K2)) := by
 refine callK_in 9 hT Tryd.func45 fun Y hret => ?_
 refine au [4, 5, 21] ?_
 intro jb hjb
 refine au [21] ?_
 intro jy hjy
 refine au [3, 4, 5, 22] ?_
 intro jn hjn
 refine au [3, 4, 5, 32, 17, 3] ?_
 refine TK.perm (K' := (jb, .cells (bookC b s e) 70 true) :: (jy, .cells [.yl l] 116 true) :: (jn, .cells [.fn 73 [] [.ptr jb 0, .ptr jy 0, .ptr jn 0]] 115 true) :: (e, seenO b) :: K1) ((List.Perm.cons _ (List.Perm.swap _ _ _)).trans ((List.Perm.swap _ _ _).trans (List.Perm.cons _ (List.Perm.swap _ _ _)))) ?_
 refine au [5, 9, 41] ?_
 refine TK.cl rfl rfl rfl rfl (next_ok hT (s := s) hb hy _ [] 0 [] K1 rfl (smOk_nil b) (by have := hb.steps; omega) (List.prefix_refl _) hJ) ?_ (hs := (.all _))
 rintro r1 K2 h3
 rcases h3 with ⟨K2, rfl, ⟨rfl, hJ2⟩ | ⟨rfl, hD⟩⟩
 ·refine au [] ?_
  refine TK.perm (K' := (jb, .cells (bookC b s e) 70 true) :: (jy, .cells [.yl l] 116 true) :: (jn, .cells [.fn 73 [] [.ptr jb 0, .ptr jy 0, .ptr jn 0]] 115 true) :: (e, seenO b) :: K2) (by rw [List.append_nil]) ?_
  refine au [3] ?_
  refine TK.rt0 hret (_) ?_ (hs := (.right (.right (.right (.all _)))))
  exact ⟨_, rfl, .inl hJ2⟩
 ·refine au [] ?_
  refine TK.perm (K' := (jb, .cells (bookC b s e) 70 true) :: (jy, .cells [.yl l] 116 true) :: (jn, .cells [.fn 73 [] [.ptr jb 0, .ptr jy 0, .ptr jn 0]] 115 true) :: (e, seenO b) :: K2) (by rw [List.append_nil]) ?_
  refine au [3] ?_
  refine TK.rt0 hret (_) ?_ (hs := (.right (.right (.right (.all _)))))
  exact ⟨_, rfl, .inr hD⟩
theorem Kstep.perm {K K' K'' : KV} {A A' : List AObj} (h : Kstep K A K' A') (hp : K'.Perm K'') : Kstep K A K'' A' :=
 ⟨h.view.sub fun x hx => hp.symm.subset hx, (keys_perm hp).nodup_iff.1 h.nd, fun i hi => h.own i ((keys_perm hp).symm.subset hi), h.kept, h.len⟩
theorem CallFK.perm {P : Program} {T : Goroutine → Hp → Prop} {gm : Nat → Option Nat} {yv : AV} {args : List AV} {K : KV} {Post Post' : AV → KV → Prop} (h : CallFK P T gm yv args K Post) (hp : ∀ r K', Post r K' → ∃ K'', K'.Perm K'' ∧ Post' r K'') : CallFK P T gm yv args K Post' :=
 fun A hv hn => (h A hv hn).mono fun r A' ⟨K', h1, h2⟩ => let ⟨K'', h3, h4⟩ := hp r K' h2; ⟨K'', h1.perm h3, h4⟩

section
variable {main : Bool} {T : Goroutine → Hp → Prop} {gm : Nat → Option Nat} {Y : KX Tryd.prog gm T} {ds : List Nat} {k : List Item} {env : List AV} {K K0 R : KV}
/-- Ranging over all seams. -/
theorem TK.rangeAll (hT : Shut Tryd.prog main T) {fo : Operand} {ps : Array Tmp} {x y : Code} {b : Bk} {s e : Nat} (hb : BkOk b) {J : List (List Int) → KV → Prop} {D : Code → KV → Prop} (hps : ps.size = 1) (hro : Y.X.ro = none) (hf : opndO gm env fo = some (.fn 45 [.agg (bookC b s e)] [])) (hs : Split K ((e, seenO b) :: K0) R) (hJ0 : J [] K0)
  (round : ∀ (Y' : KX Tryd.prog gm T) (l : Nat) (lo lb : AObj) (pre : List (List Int)) (S : List Int) (K1 : KV), (∀ ds k env' K K', Upd K l lo l lb K' → TK Y' ds k env' K' → TK Y' ds (.beginRound :: k) env' K) →
   (∀ env' K' K2 D', Split K' ((l, lb) :: (e, seenO b) :: K2) D' → J (pre ++ [S]) K2 → TK Y' [] [] env' K') →
   (∀ c k env' K' K2 D', Leave (some c) k → Split K' ((l, lb) :: (e, seenO b) :: K2) D' → D c K2 → TK Y' [] k env' K') →
   pre ++ [S] <+: allM b → J pre K1 → TK Y' [] [.code x, .beginRound, .code y] (putAll env (ps.toList.zip [.agg (seamsC S)])) ((l, lo) :: (e, seenO b) :: K1))
  (hend : ∀ d K2, J (allM b) K2 → TK Y (d :: ds) k env ((d, .raw (.deferred (some []))) :: (e, seenO b) :: (K2 ++ R)))
  (hstop : ∀ d c K2, D c K2 → TK Y (d :: ds) (.code c :: k) env ((d, .raw (.deferred (some []))) :: (e, seenO b) :: (K2 ++ R))) : TK Y ds (.code (.rangeFunc fo ps x y) :: k) env K := by
 refine TK.rangeFunc (Post := fun l _ K' => ∃ st pj K2, K' = (l, .loop Y.X.f env ps x y st pj) :: (e, seenO b) :: K2 ∧ ((st = .ready ∧ pj = none ∧ J (allM b) K2) ∨ ∃ c, st = .done ∧ pj = some c ∧ D c K2))
  (Q := fun pj K' => ∃ K2, K' = (e, seenO b) :: K2 ∧ ((pj = none ∧ J (allM b) K2) ∨ ∃ c, pj = some c ∧ D c K2)) hro hf Cal.h hs (fun l hl => ?_) ?_ ?_
 ·intro A hv hn
  have hp : ((l, AObj.loop Y.X.f env ps x y .ready none) :: (e, seenO b) :: K0).Perm ((e, seenO b) :: (l, .loop Y.X.f env ps x y .ready none) :: K0) := List.Perm.swap _ _ _
  refine CallT.mono (all_ok hT (s := s) hb (l := l) (J := fun pre K => ∃ K3, K = (l, .loop Y.X.f env ps x y .ready none) :: K3 ∧ J pre K3) (D := fun K => ∃ c K3, K = (l, .loop Y.X.f env ps x y .done (some c)) :: K3 ∧ D c K3) ?_ ⟨K0, rfl, hJ0⟩ A (hv.sub fun x hx => hp.symm.subset hx) ((keys_perm hp).nodup_iff.1 hn)) ?_
  ·rintro pre S K1 hpre ⟨K3, rfl, hJ⟩
   refine CallFK.perm (Post := fun r K' => (r = boolA true ∧ ∃ K2, K' = (l, .loop Y.X.f env ps x y .ready none) :: (e, seenO b) :: K2 ∧ J (pre ++ [S]) K2) ∨ (r = boolA false ∧ ∃ c K2, K' = (l, .loop Y.X.f env ps x y .done (some c)) :: (e, seenO b) :: K2 ∧ D c K2)) ?_ ?_
   ·refine callFK_yl hT (i := l) (f := Y.X.f) (env := env) (ps := ps) (x := x) (y := y) (by simp) hps.symm fun Y' hro' hl' hret => ?_
    refine TK.perm (List.Perm.swap _ _ _) ?_
    refine round Y' l (.loop Y.X.f env ps x y .ready none) (.loop Y.X.f env ps x y .busy none) pre S K3 (fun ds k env' K K' hu h => TK.beginRound hro' hl' hu h) (fun env' K' K2 D' hsp hJ' => ?_) (fun c k env' K' K2 D' hlv hsp hD => ?_) hpre hJ
    ·exact TK.leave .fin fun A hA => hret none env' K' ((e, seenO b) :: K2) D' .busy none hsp (.inl ⟨rfl, K2, rfl, hJ'⟩) A hA
    ·exact TK.leave hlv fun A hA => hret (some c) env' K' ((e, seenO b) :: K2) D' .busy none hsp (.inr ⟨rfl, c, K2, rfl, hD⟩) A hA
   ·rintro r K' (⟨rfl, K2, rfl, h⟩ | ⟨rfl, c, K2, rfl, h⟩)
    ·exact ⟨_, List.Perm.swap _ _ _, _, rfl, .inl ⟨rfl, K2, rfl, h⟩⟩
    ·exact ⟨_, List.Perm.swap _ _ _, _, rfl, .inr ⟨rfl, c, K2, rfl, h⟩⟩
  ·rintro r A' ⟨K', hk, K2, rfl, h⟩
   have hk2 : ∀ K'', ((e, seenO b) :: K2).Perm K'' → Kstep ((l, AObj.loop Y.X.f env ps x y .ready none) :: (e, seenO b) :: K0) A K'' A' := fun K'' hp2 =>
    Kstep.perm ⟨hk.view, hk.nd, fun i hi => (hk.own i hi).imp_left fun h => (keys_perm hp).symm.subset h, fun j h1 h2 => hk.kept j h1 fun h => h2 ((keys_perm hp).symm.subset h), hk.len⟩ hp2
   rcases h with ⟨K3, rfl, h⟩ | ⟨c, K3, rfl, h⟩
   ·exact ⟨_, hk2 _ (List.Perm.swap _ _ _), .ready, none, K3, rfl, .inl ⟨rfl, rfl, h⟩⟩
   ·exact ⟨_, hk2 _ (List.Perm.swap _ _ _), .done, some c, K3, rfl, .inr ⟨c, rfl, rfl, h⟩⟩
 ·rintro l r K' ⟨st, pj, K2, rfl, h⟩
  refine ⟨st, pj, _, rfl, ?_, K2, rfl, ?_⟩
  ·rcases h with ⟨rfl, _⟩ | ⟨c, rfl, _⟩ <;> rfl
  ·rcases h with ⟨_, rfl, h⟩ | ⟨c, _, rfl, h⟩
   ·exact .inl ⟨rfl, h⟩
   ·exact .inr ⟨c, rfl, h⟩
 ·rintro d pj K' ⟨K2, rfl, ⟨rfl, h⟩ | ⟨c, rfl, h⟩⟩
  ·exact hend d K2 h
  ·exact hstop d c K2 h
end

end Go.Vel
end
section
set_option linter.all false
set_option maxRecDepth 20000
set_option maxHeartbeats 60000000
namespace Go.Vel
open Go Go.Conc Go.Proofs
theorem u72 : Tryd.prog.underlying 79 = some (.array 3 3) := by kernel_rfl
theorem u3 : Tryd.prog.underlying 3 = some (.int .i64) := by kernel_rfl
theorem i3 : Tryd.prog.info? 3 = some Tryd.t3 := by kernel_rfl
theorem i3s : Tryd.t3.size = 1 := by kernel_rfl
theorem pureS_info {P : Program} {t : TypeId} {i : TypeInfo} (h : P.info? t = some i) : pureS P (sizeOf t) = some i.size := by
 unfold sizeOf typeInfo
 show pureS P ((match P.info? t with | some i => pure i | none => stuck "no such type") >>= fun i => pure i.size) = _
 rw [h]; rfl
theorem eq_int {d : Nat} {a b : Int} : pureS Tryd.prog (Op.equalIn (d + 1) 3 (.int .i64 a) (.int .i64 b)) = some (a == b) := by
 unfold Op.equalIn
 exact pureS_bind (pureS_underlying u3) rfl
theorem part_int {cs : Array Value} {off : Nat} {v : Value} (h : cs[off]? = some v) : pureS Tryd.prog (part 3 cs off) = some v := by
 unfold part isAgg
 refine pureS_bind (a := false) ?_ ?_
 ·exact pureS_bind (pureS_underlying u3) rfl
 ·simp [h]; rfl
theorem pureS_bind_eq {α β : Type} {P : Program} (s : Sem α) (f : α → Sem β) : pureS P (s >>= f) = (pureS P s).bind fun a => pureS P (f a) := by
 show pureS P (s.bind f) = _
 induction s with
 | pure a => rfl
 | program k ih => exact ih P
 | _ => rfl
theorem pureS_pure {α : Type} {P : Program} (a : α) : pureS P (pure a) = some a := rfl
theorem eq_arr {d : Nat} {a b c x y z : Int} : pureS Tryd.prog (Op.equalIn (d + 2) 79 (.agg #[.int .i64 a, .int .i64 b, .int .i64 c]) (.agg #[.int .i64 x, .int .i64 y, .int .i64 z])) = some (a == x && (b == y && c == z)) := by
 unfold Op.equalIn
 refine pureS_bind (pureS_underlying u72) ?_
 dsimp only
 refine pureS_bind (pureS_info i3) ?_
 rw [i3s]
 simp only [Std.Legacy.Range.forIn_eq_forIn_range', Std.Legacy.Range.size, Nat.sub_zero, Nat.add_sub_cancel, Nat.div_one]
 simp [List.range']
 have p0 := fun a b c : Value => part_int (cs := #[a, b, c]) (off := 0) rfl
 have p1 := fun a b c : Value => part_int (cs := #[a, b, c]) (off := 1) rfl
 have p2 := fun a b c : Value => part_int (cs := #[a, b, c]) (off := 2) rfl
 have e := fun a b : Int => eq_int (d := d) (a := a) (b := b)
 rcases h1 : (a == x) <;> rcases h2 : (b == y) <;> rcases h3 : (c == z) <;> simp [pureS_bind_eq, pureS_pure, p0, p1, p2, e, h1, h2, h3]
def fieldN (P : Program) (t : TypeId) (i : Nat) : Field := ((P.underlying t).bind fun d => match d with | .struct fs => fs[i]? | _ => none).getD default
noncomputable def f74a : Field := fieldN Tryd.prog 81 0
noncomputable def f74b : Field := fieldN Tryd.prog 81 1
theorem u74 : Tryd.prog.underlying 81 = some (.struct #[f74a, f74b]) := by kernel_rfl
theorem u74t : f74a.type = 3 := by kernel_rfl
theorem u74u : f74b.type = 79 := by kernel_rfl
theorem u74o : f74a.offset = 0 := by kernel_rfl
theorem u74p : f74b.offset = 1 := by kernel_rfl
theorem u74n : (f74a.name == "_") = false := by kernel_rfl
theorem u74m : (f74b.name == "_") = false := by kernel_rfl
theorem i72 : Tryd.prog.info? 79 = some Tryd.t79 := by kernel_rfl
theorem st74 : Tryd.prog.stoodInHeld 81 = false := by kernel_rfl
theorem g74 : Tryd.prog.eqGuardType Tryd.prog.depth 81 = false := by kernel_rfl
theorem g72 : Tryd.prog.eqGuardType Tryd.prog.depth 79 = false := by kernel_rfl
theorem part_arr {n a b c : Value} : pureS Tryd.prog (part 79 #[n, a, b, c] 1) = some (.agg #[a, b, c]) := by
 unfold part isAgg
 refine pureS_bind (a := true) ?_ ?_
 ·exact pureS_bind (pureS_underlying u72) rfl
 ·simp only [if_true]
  refine pureS_bind (pureS_info i72) ?_
  rfl
theorem eq_seams {n a b c m x y z : Int} : pureS Tryd.prog (Op.equal 81 (.agg #[.int .i64 n, .int .i64 a, .int .i64 b, .int .i64 c]) (.agg #[.int .i64 m, .int .i64 x, .int .i64 y, .int .i64 z])) = some (n == m && (a == x && (b == y && c == z))) := by
 have hu := u74; have hf := u74t; have hg := u74u; have hfo := u74o; have hgo := u74p
 have hfn : f74a.name ≠ "_" := by have := u74n; simpa using this
 have hgn : f74b.name ≠ "_" := by have := u74m; simpa using this
 show pureS _ (Op.equalIn (9999 + 1) 81 _ _) = _
 unfold Op.equalIn
 refine pureS_bind (pureS_underlying hu) ?_
 simp only [pureS_bind_eq]
 rw [show pureS Tryd.prog program = some Tryd.prog from rfl]
 simp [st74, hf, hg, hfo, hgo, hfn, hgn, pureS_bind_eq, pureS_pure]
 have p0 : ∀ n a b c : Value, pureS Tryd.prog (part 3 #[n, a, b, c] 0) = some n := fun n a b c => part_int rfl
 have e := fun a b : Int => eq_int (d := 9998) (a := a) (b := b)
 have ea := fun a b c x y z : Int => eq_arr (d := 9997) (a := a) (b := b) (c := c) (x := x) (y := y) (z := z)
 have pa := fun n a b c : Value => part_arr (n := n) (a := a) (b := b) (c := c)
 simp only [p0, pa, Option.bind_some]
 rw [show (9999 : Nat) = 9998 + 1 from rfl, e]
 have ea' : ∀ a b c x y z : Int, pureS Tryd.prog (Op.equalIn (9998 + 1) 79 (.agg #[.int .i64 a, .int .i64 b, .int .i64 c]) (.agg #[.int .i64 x, .int .i64 y, .int .i64 z])) = some (a == x && (b == y && c == z)) := fun a b c x y z => ea a b c x y z
 rcases h1 : (n == m) <;> rcases h2 : (a == x && (b == y && c == z)) <;> simp [pureS_bind_eq, pureS_pure, pa, ea', h2]
theorem guard_agg {t : TypeId} {x y : Operand} {xs ys : Array Value} (hg : Tryd.prog.eqGuardType Tryd.prog.depth t = false) {s : Sem Value} {z : Value} (h : pureS Tryd.prog s = some z) : pureS Tryd.prog (eqGuard .eql t x y (.agg xs) (.agg ys) >>= fun _ => s) = some z := by
 refine pureS_bind (a := ()) ?_ h
 generalize Tryd.prog = P at hg ⊢
 unfold eqGuard
 show pureS P (if (!P.eqGuardType P.depth t) = true then pure () else _) = _
 rw [hg]
 rfl
section
variable {gm : Nat → Option Nat} {V : KV} {env : List AV} {o : Oper}
theorem q_eqSeams {x y : Operand} {n a b c m x1 y1 z1 : Int} (ho : o.op = .binOp .eql 81 x y 81) (hx : opndO gm env x = some (.agg [.v (.int .i64 n), .v (.int .i64 a), .v (.int .i64 b), .v (.int .i64 c)])) (hy : opndO gm env y = some (.agg [.v (.int .i64 m), .v (.int .i64 x1), .v (.int .i64 y1), .v (.int .i64 z1)])) : Qk Tryd.prog gm env V o (.v (.bool (n == m && (a == x1 && (b == y1 && c == z1))))) := fun A _ =>
 ok_bin ho (by rw [opndO_eq hx]; rfl) (by rw [opndO_eq hy]; rfl) (guard_agg g74 (pureS_bind eq_seams rfl))
theorem q_eqSteps {x y : Operand} {a b c x1 y1 z1 : Int} (ho : o.op = .binOp .eql 79 x y 79) (hx : opndO gm env x = some (.agg [.v (.int .i64 a), .v (.int .i64 b), .v (.int .i64 c)])) (hy : opndO gm env y = some (.agg [.v (.int .i64 x1), .v (.int .i64 y1), .v (.int .i64 z1)])) : Qk Tryd.prog gm env V o (.v (.bool (a == x1 && (b == y1 && c == z1)))) := fun A _ =>
 ok_bin ho (by rw [opndO_eq hx]; rfl) (by rw [opndO_eq hy]; rfl) (guard_agg g72 (pureS_bind (show pureS Tryd.prog (Op.equal 79 _ _) = _ from eq_arr (d := 9998)) rfl))
end
end Go.Vel
end
section
set_option linter.all false
set_option maxRecDepth 20000
set_option maxHeartbeats 60000000
namespace Go.Vel
open Go Go.Conc Go.Proofs

/-! ### what the calls answer -/
def firstNZ (f : Nat → Int) : Nat → Int
 | 0 => 0
 | n + 1 => if firstNZ f n = 0 then f n else firstNZ f n
theorem firstNZ_of {f : Nat → Int} {i : Nat} {c : Int} (h0 : firstNZ f i = 0) (h1 : f i = c) (hc : c ≠ 0) : ∀ {n : Nat}, i < n → firstNZ f n = c
 | 0, h => absurd h (Nat.not_lt_zero _)
 | n + 1, h => by
  rcases Nat.lt_or_ge i n with hlt | hge
  ·have := firstNZ_of h0 h1 hc hlt
   unfold firstNZ
   rw [this, if_neg hc]
  ·obtain rfl : i = n := by omega
   unfold firstNZ
   rw [if_pos h0, h1]
theorem firstNZ_zero {f : Nat → Int} : ∀ {n : Nat}, firstNZ f n = 0 → ∀ i, i < n → f i = 0
 | 0, _, i, h => absurd h (Nat.not_lt_zero _)
 | n + 1, h, i, hi => by
  unfold firstNZ at h
  split at h
  ·rename_i h0
   rcases Nat.lt_or_ge i n with hlt | hge
   ·exact firstNZ_zero h0 i hlt
   ·obtain rfl : i = n := by omega
    exact h
  ·rename_i h0; exact absurd h h0
def barH (b : Bk) (xs : List Int) (i : Nat) : Int := match xs[i]? with
 | some x => if (!isStepM b x) = true then 6 else if (decide ((i : Int) > 0) && decide (x ≤ (xs[i - 1]?).getD 0)) = true then 7 else 0
 | none => 0
def handedM (b : Bk) (xs : List Int) : Int := if xs.length > 3 then 2 else firstNZ (barH b xs) xs.length
def handedS (b : Bk) (xs : List Int) : List Int := if handedM b xs = 0 then xs else []
theorem handed_len {b : Bk} {xs : List Int} (h : handedM b xs = 0) : xs.length ≤ 3 := by
 unfold handedM at h
 split at h
 ·cases h
 ·omega
theorem handed_bar {b : Bk} {xs : List Int} (h : handedM b xs = 0) {i : Nat} (hi : i < xs.length) : barH b xs i = 0 := by
 unfold handedM at h
 split at h
 ·cases h
 ·exact firstNZ_zero h i hi
theorem handed_ok {b : Bk} {xs : List Int} (h : handedM b xs = 0) : SmOk b xs := ⟨handed_len h, fun x hx => by
 obtain ⟨i, hi, rfl⟩ := List.mem_iff_getElem.1 hx
 have := handed_bar h hi
 unfold barH at this
 rw [List.getElem?_eq_getElem hi] at this
 dsimp only at this
 split at this
 ·cases this
 ·rename_i h2
  simp only [isStepM, Bool.not_eq_true', Bool.not_eq_false, Bool.and_eq_true, decide_eq_true_eq] at h2
  omega⟩
theorem handedS_len (b : Bk) (xs : List Int) : (handedS b xs).length ≤ 3 := by
 unfold handedS
 split
 ·rename_i h; exact handed_len h
 ·simp
def isSeekerM (b : Bk) (n : Int) : Bool := decide (0 ≤ n) && decide (n ≤ (b.seekers.length : Int) - 1)

theorem bkOk_of {b : Bk} (h : checkM b = 0) : BkOk b := by
 unfold checkM at h
 split at h
 ·rename_i h1; rw [h] at h1; cases h1
 ·rename_i h1
  obtain ⟨q1, q2, q3, q4, q5, q6, q7⟩ := numbers_range (b := b) (by simpa using h1)
  split at h
  ·rename_i h2; rw [h] at h2; cases h2
  ·rename_i h2
   have h3 : heardM b = 0 := by simpa using h2
   unfold heardM at h3
   split at h3
   ·cases h3
   ·rename_i h4
    unfold lookedM at h
    split at h
    ·cases h
    ·rename_i h5
     split at h
     ·cases h
     ·rename_i h6
      refine ⟨⟨q1, q2⟩, q5, q7, ⟨q3, q4⟩, by omega, by omega, fun x hx => ?_, fun x hx => ?_⟩
      ·obtain ⟨i, hi, rfl⟩ := List.mem_iff_getElem.1 hx
       have hz : ∀ n, heardL b n = firstNZ (heard1 b) n := fun n => by
        induction n with
        | zero => rfl
        | succ n ih => unfold heardL firstNZ; rw [ih]
       rw [hz] at h3
       have := firstNZ_zero h3 i hi
       unfold heard1 at this
       rw [List.getElem?_eq_getElem hi] at this
       dsimp only at this
       split at this
       ·cases this
       ·split at this
        ·cases this
        ·split at this
         ·cases this
         ·rename_i _ _ h9
          split at this
          ·cases this
          ·rename_i h10
           simp only [isStepM, Bool.or_eq_true, Bool.not_eq_true', Bool.and_eq_false_iff, decide_eq_false_iff_not, decide_eq_true_eq] at h9 h10
           omega
      ·simp only [List.any_eq_true, not_exists, not_and] at h6
       have := h6 x hx
       simp only [isStepM, Bool.not_eq_true', Bool.not_eq_false, Bool.and_eq_true, decide_eq_true_eq] at this
       omega
def zeroBk : List AV := [intA 0, intA 0, intA 0, intA 0, .v (.slice none 0 0), .v (.slice none 0 0)]
def stepPrev {xs : List Int} {i : Nat} (h : i < xs.length) : (xs[i]?).getD 0 = xs[i] := by rw [List.getElem?_eq_getElem h]; rfl

def rightApi (b : Bk) (xs : List Int) (k : Int) : Bool × Int := if checkM b ≠ 0 then (false, checkM b) else if handedM b xs ≠ 0 then (false, handedM b xs) else if (!isSeekerM b k) = true then (false, 6) else (rightM b xs k.toNat, 0)
def stateApi (b : Bk) (xs : List Int) : Bool × Int := if checkM b ≠ 0 then (false, checkM b) else if handedM b xs ≠ 0 then (false, handedM b xs) else (decide (xs ∈ allM b) && canM b xs, 0)


theorem handed_ok2 {main : Bool} {T : Goroutine → Hp → Prop} (hT : Shut Tryd.prog main T) {gm : Nat → Option Nat} {b : Bk} {s e j off : Nat} {ob : AObj} {xs : List Int} (hs : 0 ≤ b.steps ∧ b.steps ≤ 16) (hI : IntsAt ob off xs) (hlx : xs.length ≤ 1000) :
  CallK Tryd.prog T gm 77 [.agg (bookC b s e), .sl j off xs.length] [(j, ob)] (fun r K' => r = .tup [.agg (seamsC (handedS b xs)), intA (handedM b xs)] ∧ K' = [(j, ob)]) := by
 refine callK_in 43 hT Tryd.func77 fun Y hret => ?_
 refine au [4, 5, 21] ?_
 intro jb hjb
 refine au [22] ?_
 intro js hjs
 refine au [2, 3, 4, 4, 5, 1, 28, 6, 3, 20] ?_
 refine ⟨fun hc0 => ?_, fun hc0 => ?_⟩
 ·simp only [decide_eq_true_eq] at hc0
  refine au [4, 5, 41, 17, 2, 3] ?_
  refine TK.rt hret [(j, _)] ?_
  have hb1 : handedM b xs = 2 := if_pos (by omega)
  exact ⟨by unfold handedS; rw [if_neg (by rw [hb1]; decide), hb1]; rfl, rfl⟩
 simp only [decide_eq_false_iff_not] at hc0
 refine au [12, 4, 4, 5, 1, 28, 1, 3, 13] ?_
 refine TK.maskL [1, 2, 4, 12, 13, 14] ?_
 refine TK.loopN (fun n env K => ∃ (i : Nat), n = xs.length - i ∧ i ≤ xs.length ∧ firstNZ (barH b xs) i = 0 ∧ env = slotsA 43 [(1, .sl j off xs.length), (2, .ptr jb 0), (4, .ptr js 0), (12, .sl j off xs.length), (13, intA xs.length), (14, intA i)] ∧ K = [(js, .cells (seamsC (xs.take i)) 81 true), (jb, .cells (bookC b s e) 70 true), (j, ob)]) xs.length ⟨0, rfl, Nat.zero_le _, rfl, rfl, rfl⟩ fun n env K hI' hnext => ?_
 obtain ⟨i, rfl, hi, h0, rfl, rfl⟩ := hI'
 refine au [4, 5, 6, 3, 4, 20] ?_
 refine ⟨fun hc1 => ?_, fun hc1 => ?_⟩
 ·simp only [decide_eq_true_eq] at hc1
  have hil : i < xs.length := by omega
  have hx := List.getElem?_eq_getElem hil
  have htl : (xs.take i).length < 3 := by rw [List.length_take]; omega
  refine au [12, 4, 13, 4, 5, 1, 36] ?_
  refine TK.a rfl (q_load1 rfl rfl TySz.h (by repeat (first | exact List.Mem.head _ | assumption | apply List.Mem.tail)) (hI i hil)) ?_
  refine au [2, 2, 3, 4, 13, 4, 5, 8, 1] ?_
  refine TK.cl rfl rfl rfl rfl (isStep_ok hT (s := s) (e := e) hs) ?_
  rintro r1 K2 ⟨rfl, rfl⟩
  refine au [30, 2, 3, 20] ?_
  refine ⟨fun hc2 => ?_, fun hc2 => ?_⟩
  ·refine au [4, 5, 41, 17, 2, 3] ?_
   refine TK.rt hret [(j, _)] ?_
   have hb1 : handedM b xs = 6 := by unfold handedM; rw [if_neg (by omega)]; exact firstNZ_of h0 (by unfold barH isStepM; rw [hx]; dsimp only; rw [hc2]; rfl) (by decide) hil
   exact ⟨by unfold handedS; rw [if_neg (by rw [hb1]; decide), hb1]; rfl, rfl⟩
  have hst2 : 0 ≤ xs[i] ∧ xs[i] ≤ b.steps - 1 := by simpa using hc2
  refine au [4, 5, 1, 6, 1] ?_
  refine TK.sp 28 (fun g8_3 => ?_) (fun g8_3 => ?_)
  ·have hgi : 0 < i := by have := of_decide_eq_true g8_3; omega
   refine au [1, 1, 1, 24, 36] ?_
   refine TK.a rfl (q_load1 rfl rfl TySz.h (by repeat (first | exact List.Mem.head _ | assumption | apply List.Mem.tail)) (by have := hI (i - 1) (by omega); rwa [show ((i - 1 : Nat) : Int).toNat = ((i : Int) - 1).toNat by omega] at this)) ?_
   refine au [6, 26, 2, 3, 20] ?_
   refine ⟨fun hc3 => ?_, fun hc3 => ?_⟩
   ·refine au [4, 5, 41, 17, 2, 3] ?_
    refine TK.rt hret [(j, _)] ?_
    have hb1 : handedM b xs = 7 := by unfold handedM; rw [if_neg (by omega)]; exact firstNZ_of h0 (by unfold barH isStepM; rw [hx]; dsimp only; rw [hc2, g8_3, stepPrev (show i - 1 < xs.length by omega), hc3]; rfl) (by decide) hil
    exact ⟨by unfold handedS; rw [if_neg (by rw [hb1]; decide), hb1]; rfl, rfl⟩
   refine au [12, 14, 5, 8, 1] ?_
   refine TK.cl rfl rfl rfl rfl (with_ok hT htl (by omega)) ?_
   rintro r4 K5 ⟨rfl, rfl⟩
   refine au [17, 3, 14, 5, 23, 1, 3] ?_
   refine TK.maskL [1, 2, 4, 12, 13, 14] ?_
   have hst : barH b xs i = 0 := by unfold barH isStepM; rw [hx]; dsimp only; rw [hc2, if_neg (by decide), g8_3, stepPrev (show i - 1 < xs.length by omega), hc3]; rfl
   exact hnext _ _ _ (by omega) ⟨i + 1, rfl, by omega, by unfold firstNZ; rw [if_pos h0]; exact hst, rfl, by rw [List.take_add_one, hx]; rfl⟩
  refine au [11, 11, 11, 11, 11, 11, 11, 25, 2, 3, 19, 12, 14, 5, 8, 1] ?_
  refine TK.cl rfl rfl rfl rfl (with_ok hT htl (by omega)) ?_
  rintro r7 K8 ⟨rfl, rfl⟩
  refine au [17, 3, 14, 5, 23, 1, 3] ?_
  refine TK.maskL [1, 2, 4, 12, 13, 14] ?_
  have hst : barH b xs i = 0 := by unfold barH isStepM; rw [hx]; dsimp only; rw [hc2, if_neg (by decide), g8_3]; rfl
  exact hnext _ _ _ (by omega) ⟨i + 1, rfl, by omega, by unfold firstNZ; rw [if_pos h0]; exact hst, rfl, by rw [List.take_add_one, hx]; rfl⟩
 simp only [decide_eq_false_iff_not] at hc1
 obtain rfl : i = xs.length := by omega
 refine au [16, 4, 5, 8, 17, 2, 3] ?_
 refine TK.rt hret [(j, _)] ?_
 have hb1 : handedM b xs = 0 := by unfold handedM; rw [if_neg (by omega)]; exact h0
 exact ⟨by unfold handedS; rw [if_pos hb1, hb1, List.take_length]; rfl, rfl⟩

theorem with_ok2 {main : Bool} {T : Goroutine → Hp → Prop} (hT : Shut Tryd.prog main T)  {b : Bk} {s e : Nat} {j off : Nat} {ob : AObj} {xs : List Int} (hn : ∀ x ∈ b.seekers, x.name.size ≤ 1000) (hl : b.seen.length ≤ 1000) (hI : IntsAt ob off xs) (hlx : xs.length ≤ 1000) :
  CallK Tryd.prog T gmS 62 [.agg (bookC b s e), .sl j off xs.length] [(0, checksG), (s, saysO b), (e, seenO b), (j, ob)] (fun r K' => ((checkM b ≠ 0 ∧ r = .tup [.agg zeroBk, .agg (seamsC []), intA (checkM b)]) ∨ (checkM b = 0 ∧ r = .tup [.agg (bookC b s e), .agg (seamsC (handedS b xs)), intA (handedM b xs)])) ∧ K' = [(0, checksG), (s, saysO b), (e, seenO b), (j, ob)]) := by
 refine callK_in 28 hT Tryd.func62 fun Y hret => ?_
 refine au [4, 5, 21] ?_
 intro jb hjb
 refine au [22] ?_
 intro j1 hj1
 refine au [22] ?_
 intro j2 hj2
 refine au [2, 3, 4, 4, 5, 8] ?_
 refine TK.cl rfl rfl rfl rfl (check_ok hT (b := b) (s := s) (e := e) hn hl) ?_
 rintro r3 K4 ⟨rfl, rfl⟩
 refine au [2, 3, 4, 5, 1, 6, 3, 20] ?_
 refine ⟨fun hc0 => ?_, fun hc0 => ?_⟩
 ·refine au [4, 5, 43, 41, 1, 17, 17, 2, 3] ?_
  refine TK.rt hret [(0, _), (s, _), (e, _), (j, _)] ?_
  exact ⟨.inl ⟨by simpa using hc0, rfl⟩, rfl⟩
 have hc1 : checkM b = 0 := by simpa using hc0
 have hb := bkOk_of hc1
 refine au [12, 4, 5, 8, 43, 1] ?_
 refine TK.cl rfl rfl rfl rfl (handed_ok2 hT (b := b) (s := s) (e := e) (by have := hb.steps; omega) hI hlx) ?_
 rintro r6 K7 ⟨rfl, rfl⟩
 refine au [1, 10, 10, 22] ?_
 intro j9 hj9
 refine au [17, 2, 3, 4] ?_
 refine TK.draw [0, 1, 2, 3, 4, 5, 6] [0, 1, 4, 2, 5, 3, 6] (by kernel_rfl) (by kernel_rfl) ?_
 refine TD.y [2] rfl (hq := q_load rfl rfl TySz.h (List.Mem.head _) rfl) (h := ?_)
 refine TD.z [24] rfl (q_build (l := [_, _, _, _, _, _]) rfl TyZ.h BlOf.h rfl) ?_
 refine TD.y [8] rfl (hq := q_load rfl rfl TySz.h (List.Mem.head _) rfl) (h := ?_)
 refine TD.z [9] rfl (q_move rfl rfl) ?_
 refine TD.s (pend' := [⟨3, [9], []⟩, ⟨2, [8], [(_, _)]⟩]) [4, 25] rfl rfl (q_store rfl rfl TySz.h rfl rfl (by repeat (first | exact List.Mem.head _ | assumption | apply List.Mem.tail)) rfl) ?_
 refine TD.s (pend' := [⟨3, [9], []⟩]) [5, 26] rfl rfl (q_store rfl rfl TySz.h rfl rfl (by repeat (first | exact List.Mem.head _ | assumption | apply List.Mem.tail)) rfl) ?_
 refine TD.as (pend' := []) [27] rfl rfl (q_assign rfl rfl) ?_
 refine TD.fin ?_
 refine au [] ?_
 refine TK.rt hret [(0, _), (s, _), (e, _), (j, _)] ?_
 exact ⟨.inr ⟨hc1, rfl⟩, rfl⟩

theorem isSeeker_ok {main : Bool} {T : Goroutine → Hp → Prop} (hT : Shut Tryd.prog main T) {gm : Nat → Option Nat} {b : Bk} {s e : Nat} {n : Int} (hs : b.seekers.length ≤ 1000) :
  CallK Tryd.prog T gm 57 [.agg (bookC b s e), intA n] [] (fun r K' => r = boolA (isSeekerM b n) ∧ K' = []) := by
 refine callK_in 12 hT Tryd.func57 fun Y hret => ?_
 refine au [4, 5, 21] ?_
 intro jb hjb
 refine au [2, 3, 4, 5, 1, 7, 7, 9, 28, 24] ?_
 refine TK.cl rfl rfl rfl rfl (from_ok hT) ?_
 rintro r1 K2 ⟨rfl, rfl⟩
 refine au [2, 3] ?_
 refine TK.rt hret [] ?_
 exact ⟨rfl, rfl⟩

theorem rightApi_ok {main : Bool} {T : Goroutine → Hp → Prop} (hT : Shut Tryd.prog main T)  {b : Bk} {s e : Nat} {k : Int} {j off : Nat} {ob : AObj} {xs : List Int} (hn : ∀ x ∈ b.seekers, x.name.size ≤ 1000) (hl : b.seen.length ≤ 1000) (hI : IntsAt ob off xs) (hlx : xs.length ≤ 1000) :
  CallK Tryd.prog T gmS 22 [.agg (bookC b s e), .sl j off xs.length, intA k] [(0, checksG), (1, saysG), (s, saysO b), (e, seenO b), (j, ob)] (fun r K' => r = .tup [boolA (rightApi b xs k).1, intA (rightApi b xs k).2] ∧ K' = [(0, checksG), (1, saysG), (s, saysO b), (e, seenO b), (j, ob)]) := by
 refine callK_in 31 hT Tryd.func22 fun Y hret => ?_
 refine au [4, 5, 21] ?_
 intro j1 hj1
 refine au [2, 2, 3, 4, 5, 8, 1] ?_
 refine TK.cl rfl rfl rfl rfl (with_ok2 hT (b := b) (s := s) (e := e) hn hl hI hlx) ?_
 rintro r2 K3 h4
 rcases h4 with ⟨⟨hc1, rfl⟩ | ⟨hc1, rfl⟩, rfl⟩
 ·refine au [1, 10, 10, 10, 22] ?_
  intro j5 hj5
  refine au [22] ?_
  intro j6 hj6
  refine au [17, 17, 2, 3, 4, 13, 4, 5, 1, 6, 2, 3, 20] ?_
  refine ⟨fun hc0 => ?_, fun hc0 => ?_⟩
  ·refine au [4, 5, 1, 2, 2, 3] ?_
   refine TK.rt hret [(0, _), (1, _), (s, _), (e, _), (j, _)] ?_
   exact ⟨by unfold rightApi; rw [if_pos hc1]; rfl, rfl⟩
  exact absurd (by simpa using hc0) hc1
 ·refine au [1, 10, 10, 10, 22] ?_
  intro j7 hj7
  refine au [22] ?_
  intro j8 hj8
  refine au [17, 17, 2, 3, 4, 13, 4, 5, 1, 6, 2, 3, 20] ?_
  refine ⟨fun hc0 => ?_, fun hc0 => ?_⟩
  ·refine au [4, 5, 1, 2, 2, 3] ?_
   refine TK.rt hret [(0, _), (1, _), (s, _), (e, _), (j, _)] ?_
   exact ⟨by unfold rightApi; rw [if_neg (by rw [hc1]; decide), if_pos (by simpa using hc0)]; rfl, rfl⟩
  have hh0 : handedM b xs = 0 := by simpa using hc0
  have hb := bkOk_of hc1
  have hS := handed_ok hh0
  have hxs : handedS b xs = xs := if_pos hh0
  rw [hxs]
  refine au [4, 5, 8, 1] ?_
  refine TK.cl rfl rfl rfl rfl (isSeeker_ok hT (b := b) (s := s) (e := e) (by have := hb.ns; omega)) ?_
  rintro r9 K10 ⟨rfl, rfl⟩
  refine au [30, 2, 3, 20] ?_
  refine ⟨fun hc2 => ?_, fun hc2 => ?_⟩
  ·refine au [4, 5, 2, 2, 3] ?_
   refine TK.rt hret [(0, _), (1, _), (s, _), (e, _), (j, _)] ?_
   exact ⟨by unfold rightApi; rw [if_neg (by rw [hc1]; decide), if_neg (by simpa using hc0), if_pos hc2]; rfl, rfl⟩
  have hc2 := hc2
  have hk : 0 ≤ k ∧ k ≤ (b.seekers.length : Int) - 1 := by simpa [isSeekerM] using hc2
  obtain ⟨m, rfl⟩ : ∃ m : Nat, k = m := ⟨k.toNat, by omega⟩
  refine au [12, 14, 4, 5, 8, 8, 1] ?_
  refine TK.cl rfl rfl rfl rfl (right_ok hT (s := s) (e := e) hb hS (by omega)) ?_
  rintro r12 K13 ⟨rfl, rfl⟩
  refine au [2, 2, 3] ?_
  refine TK.rt hret [(0, _), (1, _), (s, _), (e, _), (j, _)] ?_
  exact ⟨by unfold rightApi; rw [if_neg (by rw [hc1]; decide), if_neg (by simpa using hc0), if_neg (by rw [hc2]; decide)]; rfl, rfl⟩
end Go.Vel
end
section
set_option linter.all false
set_option maxRecDepth 20000
set_option maxHeartbeats 60000000
namespace Go.Vel
open Go Go.Conc Go.Proofs

theorem loopM_len (b : Bk) : ∀ (rest : List Int) (S : List Int), (loopM b S rest).length + 1 ≤ 2 ^ rest.length
 | [], S => by simp [loopM]
 | n :: rest, S => by
  simp only [loopM]
  have h1 := loopM_len b rest (S ++ [n])
  have h2 := loopM_len b rest S
  have h3 : (ownM b (S ++ [n])).length ≤ 1 := by unfold ownM; split <;> simp
  split
  ·simp only [List.length_append, List.length_cons, Nat.pow_succ]; omega
  ·simp; exact Nat.one_le_two_pow
theorem allM_len {b : Bk} (hb : BkOk b) : (allM b).length ≤ 65536 := by
 unfold allM
 have h1 := loopM_len b (restM b 0) []
 have h3 : (ownM b []).length ≤ 1 := by unfold ownM; split <;> simp
 have h2 : (restM b 0).length ≤ 16 := by
  unfold restM
  have := hb.steps
  simp; omega
 have := Nat.pow_le_pow_right (n := 2) (by omega) h2
 rw [List.length_append]
 omega
theorem pre_len {b : Bk} (hb : BkOk b) {pre : List (List Int)} {S : List Int} (h : pre ++ [S] <+: allM b) (p : List Int → Bool) : (pre.filter p).length ≤ 65536 := by
 have h1 := h.length_le
 have h2 := allM_len hb
 have h3 := List.length_filter_le p pre
 simp at h1
 omega
def statesM (b : Bk) : List (List Int) := (allM b).filter (canM b)
theorem filter_T {p : List Int → Bool} {pre : List (List Int)} {S : List Int} (h : p S = true) : (pre ++ [S]).filter p = pre.filter p ++ [S] := by rw [List.filter_append]; simp [h]
theorem filter_F {p : List Int → Bool} {pre : List (List Int)} {S : List Int} (h : p S = false) : (pre ++ [S]).filter p = pre.filter p := by rw [List.filter_append]; simp [h]
theorem slot_inj {b : Bk} {S R : List Int} (hS : SmOk b S) (hR : SmOk b R) : (((S.length : Int) == R.length) && ((((S[0]?).map (· + 1)).getD 0 == ((R[0]?).map (· + 1)).getD 0) && ((((S[1]?).map (· + 1)).getD 0 == ((R[1]?).map (· + 1)).getD 0) && (((S[2]?).map (· + 1)).getD 0 == ((R[2]?).map (· + 1)).getD 0)))) = decide (S = R) := by
 by_cases h : S = R
 ·subst h; simp
 ·rw [decide_eq_false h, Bool.eq_false_iff]
  intro hc
  apply h
  simp only [Bool.and_eq_true, beq_iff_eq] at hc
  obtain ⟨h0, h3, h4, h5⟩ := hc
  have h1 := hS.len
  have h2 := hR.len
  rcases S with _ | ⟨a, _ | ⟨c, _ | ⟨d, _ | ⟨f, S⟩⟩⟩⟩ <;> rcases R with _ | ⟨x, _ | ⟨y, _ | ⟨z, _ | ⟨g, R⟩⟩⟩⟩ <;> simp at h0 h1 h2 h3 h4 h5 <;> first | omega | (simp; omega) | simp
theorem slot_self (S : List Int) : ((((S[0]?).map (· + 1)).getD 0 == ((S[0]?).map (· + 1)).getD 0) && ((((S[1]?).map (· + 1)).getD 0 == ((S[1]?).map (· + 1)).getD 0) && (((S[2]?).map (· + 1)).getD 0 == ((S[2]?).map (· + 1)).getD 0))) = true := by simp


theorem stateApi_ok {main : Bool} {T : Goroutine → Hp → Prop} (hT : Shut Tryd.prog main T)  {b : Bk} {s e : Nat} (hse : s ≠ e) {j off : Nat} {ob : AObj} {xs : List Int} (hn : ∀ x ∈ b.seekers, x.name.size ≤ 1000) (hl : b.seen.length ≤ 1000) (hI : IntsAt ob off xs) (hlx : xs.length ≤ 1000) :
  CallK Tryd.prog T gmS 23 [.agg (bookC b s e), .sl j off xs.length] [(0, checksG), (1, saysG), (s, saysO b), (e, seenO b), (j, ob)] (fun r K' => r = .tup [boolA (stateApi b xs).1, intA (stateApi b xs).2] ∧ K' = [(0, checksG), (1, saysG), (s, saysO b), (e, seenO b), (j, ob)]) := by
 refine callK_in3 36 hT Tryd.func23 fun Y hro hret => ?_
 refine au [4, 5, 21] ?_
 intro jb hjb
 refine au [22] ?_
 intro jr hjr
 refine au [22] ?_
 intro jq hjq
 refine au [3, 4, 5, 8, 1] ?_
 refine TK.cl rfl rfl rfl rfl (with_ok2 hT (b := b) (s := s) (e := e) hn hl hI hlx) ?_
 rintro r1 K2 h3
 rcases h3 with ⟨⟨hc1, rfl⟩ | ⟨hc1, rfl⟩, rfl⟩
 ·refine au [1, 10, 10, 10, 22] ?_
  intro jx hjx
  refine au [22] ?_
  intro jS hjS
  refine au [17, 17, 2, 3, 4, 4, 5, 1, 6, 3, 20] ?_
  refine ⟨fun hc0 => ?_, fun hc0 => ?_⟩
  ·refine au [4, 5, 1, 17, 17, 3] ?_
   refine TK.leave (.ret _) fun A hA => hret _ _ _ _ ([(0, _), (1, _), (s, _), (e, _), (j, _), (jr, _), (jq, _)]) ([(0, _), (1, _), (s, _), (e, _), (j, _)]) _ _ _ (.inr rfl) (by repeat (first | exact Split.none _ | exact Split.all _ | (apply Split.rem; repeat (first | exact Rem.head | apply Rem.tail)) | apply Split.right)) (by simp) (by simp) (by repeat (first | exact Split.none _ | exact Split.all _ | (apply Split.rem; repeat (first | exact Rem.head | apply Rem.tail)) | apply Split.right)) (res_many (.cons (rk_cell1 rfl TySz.h (by repeat (first | exact List.Mem.head _ | assumption | apply List.Mem.tail)) rfl) (.cons (rk_cell1 rfl TySz.h (by repeat (first | exact List.Mem.head _ | assumption | apply List.Mem.tail)) rfl) ResKs.nil)) rfl) ?_ A hA
   exact ⟨by unfold stateApi; rw [if_pos hc1]; rfl, rfl⟩
  exact absurd (by simpa using hc0) hc1
 ·refine au [1, 10, 10, 10, 22] ?_
  intro jx hjx
  refine au [22] ?_
  intro jS hjS
  refine au [17, 17, 2, 3, 4, 4, 5, 1, 6, 3, 20] ?_
  refine ⟨fun hc0 => ?_, fun hc0 => ?_⟩
  ·refine au [4, 5, 1, 17, 17, 3] ?_
   refine TK.leave (.ret _) fun A hA => hret _ _ _ _ ([(0, _), (1, _), (s, _), (e, _), (j, _), (jr, _), (jq, _)]) ([(0, _), (1, _), (s, _), (e, _), (j, _)]) _ _ _ (.inr rfl) (by repeat (first | exact Split.none _ | exact Split.all _ | (apply Split.rem; repeat (first | exact Rem.head | apply Rem.tail)) | apply Split.right)) (by simp) (by simp) (by repeat (first | exact Split.none _ | exact Split.all _ | (apply Split.rem; repeat (first | exact Rem.head | apply Rem.tail)) | apply Split.right)) (res_many (.cons (rk_cell1 rfl TySz.h (by repeat (first | exact List.Mem.head _ | assumption | apply List.Mem.tail)) rfl) (.cons (rk_cell1 rfl TySz.h (by repeat (first | exact List.Mem.head _ | assumption | apply List.Mem.tail)) rfl) ResKs.nil)) rfl) ?_ A hA
   exact ⟨by unfold stateApi; rw [if_neg (by rw [hc1]; decide), if_pos (by simpa using hc0)]; rfl, rfl⟩
  have hh0 : handedM b xs = 0 := by simpa using hc0
  have hb := bkOk_of hc1
  have hS := handed_ok hh0
  have hxs : handedS b xs = xs := if_pos hh0
  rw [hxs]
  refine au [12, 4, 4, 5, 8, 32, 3, 13] ?_
  refine TK.rangeAll hT hb (s := s) (e := e) (J := fun pre K1 => K1 = [(jr, .cells [boolA false] 4 true), (jq, .cells [intA 0] 31 true), (jx, .cells (bookC b s e) 70 true), (jS, .cells (seamsC xs) 81 true), (1, saysG), (s, saysO b)] ∧ xs ∉ pre) (D := fun c K1 => c = .ret ∧ xs ∈ allM b ∧ K1 = [(jr, .cells [boolA (canM b xs)] 4 true), (jq, .cells [intA 0] 31 true), (jx, .cells (bookC b s e) 70 true), (jS, .cells (seamsC xs) 81 true), (1, saysG), (s, saysO b)]) rfl hro rfl (by repeat (first | exact Split.none _ | exact Split.all _ | (apply Split.rem; repeat (first | exact Rem.head | apply Rem.tail)) | apply Split.right)) ⟨rfl, by simp⟩ (fun Y' l lo lb pre S K1 hbegin hfin hout hpre hJ => ?_) (fun d K2 hJ => ?_) (fun d c K2 hD => ?_)
  ·obtain ⟨rfl, hni⟩ := hJ
   have hSm := allM_pre hb hpre
   refine au [5, 22] ?_
   intro j9 hj9
   refine au [17, 3] ?_
   refine hbegin _ _ _ _ _ (by repeat (first | exact Upd.head | apply Upd.tail)) ?_
   refine au [13, 4, 5, 8, 8] ?_
   refine TK.a rfl (q_eqSeams rfl rfl rfl) ?_
   refine au [1] ?_
   refine TK.sp 26 (fun g6_4 => ?_) (fun g6_4 => ?_)
   ·rw [slot_inj hSm hS] at g6_4
    obtain rfl : S = xs := of_decide_eq_true g6_4
    refine au [7, 8, 7, 8] ?_
    refine TK.a rfl (q_eqSteps rfl rfl rfl) ?_
    refine au [26, 3, 20] ?_
    refine ⟨fun hc1b => ?_, fun hc1b => ?_⟩
    ·refine au [4, 5, 8, 8] ?_
     refine TK.cl rfl rfl rfl rfl (can_ok hT (s := s) (e := e) hse hb hSm) ?_
     rintro r4 K5 ⟨rfl, rfl⟩
     refine au [17, 17, 3] ?_
     exact hout _ _ _ _ [(jr, _), (jq, _), (jx, _), (jS, _), (1, _), (s, _)] _ (.ret _) (by repeat (first | exact Split.none _ | exact Split.all _ | (apply Split.rem; repeat (first | exact Rem.head | apply Rem.tail)) | apply Split.right)) ⟨rfl, hpre.subset (by simp), rfl⟩
    exact absurd (slot_self S) (by rw [hc1b]; decide)
   rw [slot_inj hSm hS] at g6_4
   have hne : S ≠ xs := of_decide_eq_false g6_4
   refine au [11, 11, 11, 11, 11, 25, 3, 19, 12, 14] ?_
   exact hfin _ _ [(jr, _), (jq, _), (jx, _), (jS, _), (1, _), (s, _)] _ (by repeat (first | exact Split.none _ | exact Split.all _ | (apply Split.rem; repeat (first | exact Rem.head | apply Rem.tail)) | apply Split.right)) ⟨rfl, by simp only [List.mem_append, List.mem_singleton, not_or]; exact ⟨hni, fun h => hne h.symm⟩⟩
  ·obtain ⟨rfl, hni⟩ := hJ
   simp only [List.cons_append, List.nil_append]
   refine au [14, 4, 5, 17, 17, 3] ?_
   refine TK.leave (.ret _) fun A hA => hret _ _ _ _ ([(0, _), (1, _), (s, _), (e, _), (j, _), (jr, _), (jq, _)]) ([(0, _), (1, _), (s, _), (e, _), (j, _)]) _ _ _ (.inr rfl) (by repeat (first | exact Split.none _ | exact Split.all _ | (apply Split.rem; repeat (first | exact Rem.head | apply Rem.tail)) | apply Split.right)) (by simp) (by simp) (by repeat (first | exact Split.none _ | exact Split.all _ | (apply Split.rem; repeat (first | exact Rem.head | apply Rem.tail)) | apply Split.right)) (res_many (.cons (rk_cell1 rfl TySz.h (by repeat (first | exact List.Mem.head _ | assumption | apply List.Mem.tail)) rfl) (.cons (rk_cell1 rfl TySz.h (by repeat (first | exact List.Mem.head _ | assumption | apply List.Mem.tail)) rfl) ResKs.nil)) rfl) ?_ A hA
   exact ⟨by unfold stateApi; rw [if_neg (by rw [hc1]; decide), if_neg (by simpa using hc0), decide_eq_false hni]; rfl, rfl⟩
  ·obtain ⟨rfl, hmem, rfl⟩ := hD
   simp only [List.cons_append, List.nil_append]
   refine au [] ?_
   refine TK.leave (.ret _) fun A hA => hret _ _ _ _ ([(0, _), (1, _), (s, _), (e, _), (j, _), (jr, _), (jq, _)]) ([(0, _), (1, _), (s, _), (e, _), (j, _)]) _ _ _ (.inr rfl) (by repeat (first | exact Split.none _ | exact Split.all _ | (apply Split.rem; repeat (first | exact Rem.head | apply Rem.tail)) | apply Split.right)) (by simp) (by simp) (by repeat (first | exact Split.none _ | exact Split.all _ | (apply Split.rem; repeat (first | exact Rem.head | apply Rem.tail)) | apply Split.right)) (res_many (.cons (rk_cell1 rfl TySz.h (by repeat (first | exact List.Mem.head _ | assumption | apply List.Mem.tail)) rfl) (.cons (rk_cell1 rfl TySz.h (by repeat (first | exact List.Mem.head _ | assumption | apply List.Mem.tail)) rfl) ResKs.nil)) rfl) ?_ A hA
   exact ⟨by unfold stateApi; rw [if_neg (by rw [hc1]; decide), if_neg (by simpa using hc0), decide_eq_true hmem]; rfl, rfl⟩

theorem states_ok {main : Bool} {T : Goroutine → Hp → Prop} (hT : Shut Tryd.prog main T)  {b : Bk} {s e : Nat} (hse : s ≠ e) (hb : BkOk b) :
  CallK Tryd.prog T gmS 44 [.agg (bookC b s e)] [(1, saysG), (s, saysO b), (e, seenO b)] (fun r K' => ∃ j, r = .row j (statesM b).length ∧ K' = [(1, saysG), (s, saysO b), (e, seenO b), (j, .row ((statesM b).flatMap seamsC) 81 4)]) := by
 refine callK_in3 16 hT Tryd.func44 fun Y hro hret => ?_
 refine au [4, 5, 21] ?_
 intro jb hjb
 refine au [2, 3, 4, 5, 22] ?_
 intro jl hjl
 refine TK.virtC (t := 71) (e := 81) (size := 4) (fun _ => (by repeat (first | exact Upd.head | apply Upd.tail))) fun j0 hj0 => ?_
 refine au [3, 4, 4, 5, 8, 32, 3, 13] ?_
 refine TK.rangeAll hT hb (s := s) (e := e) (J := fun pre K1 => ∃ j, K1 = [(jl, .cells [.row j (pre.filter (canM b)).length] 71 true), (j, .row ((pre.filter (canM b)).flatMap seamsC) 81 4), (jb, .cells (bookC b s e) 70 true), (1, saysG), (s, saysO b)]) (D := fun _ _ => False) rfl hro rfl (by repeat (first | exact Split.none _ | exact Split.all _ | (apply Split.rem; repeat (first | exact Rem.head | apply Rem.tail)) | apply Split.right)) ⟨j0, rfl⟩ (fun Y' l lo lb pre S K1 hbegin hfin hout hpre hJ => ?_) (fun d K2 hJ => ?_) (fun d c K2 hD => ?_)
 ·obtain ⟨j, rfl⟩ := hJ
  have hSm := allM_pre hb hpre
  have hpl := pre_len hb hpre (canM b)
  refine au [5, 22] ?_
  intro j1 hj1
  refine au [17, 3] ?_
  refine hbegin _ _ _ _ _ (by repeat (first | exact Upd.head | apply Upd.tail)) ?_
  refine au [13, 4, 5, 8, 8] ?_
  refine TK.cl rfl rfl rfl rfl (can_ok hT (s := s) (e := e) hse hb hSm) ?_
  rintro r2 K3 ⟨rfl, rfl⟩
  refine au [3, 20] ?_
  refine ⟨fun hc0 => ?_, fun hc0 => ?_⟩
  ·refine au [5, 9, 8] ?_
   refine TK.newR rfl rfl rfl (n_buildSlice (l := [_, _, _, _]) rfl SlEl.h TyZ.h (by decide) (by decide) rfl) (fun _ => putS rfl (by simp only [List.set]; rfl)) fun j5 hj5 => ?_
   refine TK.appR rfl rfl rfl (a_app rfl ApOf.h rfl (by repeat (first | exact List.Mem.head _ | assumption | apply List.Mem.tail)) (flat_len seamsC 4 (fun _ => rfl) _) rfl (src_row (ln := [_, _, _, _]) (by repeat (first | exact List.Mem.head _ | assumption | apply List.Mem.tail)) (by decide) (by simp) rfl) (by omega) rfl (by unfold maxLen; omega) (by omega)) (fun _ => (by repeat (first | exact Upd.head | apply Upd.tail))) (fun _ => putS rfl (by simp only [List.set]; rfl)) fun j2 => ?_
   refine au [17, 3, 14] ?_
   exact hfin _ _ [(jl, _), (j2, _), (jb, _), (1, _), (s, _)] _ (by repeat (first | exact Split.none _ | exact Split.all _ | (apply Split.rem; repeat (first | exact Rem.head | apply Rem.tail)) | apply Split.right)) ⟨j2, by rw [filter_T hc0, List.flatMap_append, List.length_append] <;> rfl⟩
  refine au [12, 14] ?_
  exact hfin _ _ [(jl, _), (j, _), (jb, _), (1, _), (s, _)] _ (by repeat (first | exact Split.none _ | exact Split.all _ | (apply Split.rem; repeat (first | exact Rem.head | apply Rem.tail)) | apply Split.right)) ⟨j, by rw [filter_F hc0] <;> rfl⟩
 ·obtain ⟨j, rfl⟩ := hJ
  simp only [List.cons_append, List.nil_append]
  refine au [14, 4, 5, 9, 2, 3] ?_
  refine TK.leave (.ret _) fun A hA => hret _ _ _ _ ([(1, _), (s, _), (e, _), (j, _)]) ([(1, _), (s, _), (e, _), (j, _)]) _ _ _ (.inr rfl) (by repeat (first | exact Split.none _ | exact Split.all _ | (apply Split.rem; repeat (first | exact Rem.head | apply Rem.tail)) | apply Split.right)) (by simp) (by simp) (by repeat (first | exact Split.none _ | exact Split.all _ | (apply Split.rem; repeat (first | exact Rem.head | apply Rem.tail)) | apply Split.right)) (res_one (rk_tmp rfl)) ?_ A hA
  exact ⟨j, rfl, rfl⟩
 ·exact hD.elim
end Go.Vel
end
section
set_option linter.all false
set_option maxRecDepth 20000
set_option maxHeartbeats 60000000
namespace Go.Vel
open Go Go.Conc Go.Proofs

section
variable {P : Program} {gm : Nat → Option Nat} {T : Goroutine → Hp → Prop} {Y : KX P gm T} {ds : List Nat} {k : List Item} {env env' : List AV} {K K' : KV}
theorem TK.freezeR (d : Nat) {j n : Nat} {l : List AV} {e : TypeId} {s : Nat} (hd : env[d]? = some (.row j n)) (hu : Upd K j (.row l e s) j (.cells l e false) K') (he : env.set d (.sl j 0 n) = env') (h : TK Y ds k env' K') : TK Y ds k env K :=
 TK.freeze d hd hu (by rw [← he]; simp [unrow1, unrow]) h
end
def knownC (b : Bk) (s e : Nat) (l : AV) (m : Nat) : List AV := [intA b.steps, intA b.wrong, intA b.low, intA b.high, .sl s 0 b.seekers.length, .sl e 0 b.seen.length, l, .map m]
def listO (Ls : List (List Int)) : AObj := .cells (Ls.flatMap seamsC) 81 false
theorem list_at (Ls : List (List Int)) (i : Nat) (h : i < Ls.length) : takeO (listO Ls) (0 + (i : Int).toNat * 4) 4 = some (seamsC Ls[i]) := by
 have hle : (i + 1) * 4 ≤ Ls.length * 4 := Nat.mul_le_mul_right _ h
 simp only [takeO, AObj.look, listO, Int.toNat_natCast, Nat.zero_add]
 rw [if_pos ⟨by omega, by rw [flat_len seamsC 4 (fun _ => rfl)]; omega⟩, flat_take seamsC 4 (fun _ => rfl) _ _ h]
def oftM (Ls : List (List Int)) (n : Int) : Int := (Ls.flatten.count n : Nat)
def wordM (all some : Int) : Int := if (some == all) = true then 1 else if (some == 0) = true then 2 else 0
def bandM (b : Bk) (lo w : Int) (x : Int × Int) (S : List Int) : Int × Int := (if inM b S lo w < x.1 then inM b S lo w else x.1, if x.2 < inM b S lo w then inM b S lo w else x.2)
def withinM (b : Bk) (Ls : List (List Int)) (lo w : Int) : Int × Int := Ls.foldl (bandM b lo w) (3, 0)
theorem withinM_succ {b : Bk} {Ls : List (List Int)} {lo w : Int} {i : Nat} (h : i < Ls.length) : withinM b (Ls.take (i + 1)) lo w = bandM b lo w (withinM b (Ls.take i) lo w) Ls[i] := by
 unfold withinM
 rw [List.take_add_one, List.getElem?_eq_getElem h, List.foldl_append]; rfl
def rightsM (b : Bk) (Ls : List (List Int)) (k : Nat) : Int := ((Ls.filter (rightM b · k)).length : Nat)
theorem rightsM_le (b : Bk) (Ls : List (List Int)) (k : Nat) : 0 ≤ rightsM b Ls k ∧ rightsM b Ls k ≤ Ls.length := ⟨Int.natCast_nonneg _, Int.ofNat_le.2 (List.length_filter_le _ _)⟩
theorem rightsM_T {b : Bk} {Ls : List (List Int)} {k i : Nat} (h : i < Ls.length) (hr : rightM b Ls[i] k = true) : rightsM b (Ls.take (i + 1)) k = rightsM b (Ls.take i) k + 1 := by
 unfold rightsM
 rw [List.take_add_one, List.getElem?_eq_getElem h, List.filter_append, List.length_append]; simp [hr]
theorem rightsM_F {b : Bk} {Ls : List (List Int)} {k i : Nat} (h : i < Ls.length) (hr : rightM b Ls[i] k = false) : rightsM b (Ls.take (i + 1)) k = rightsM b (Ls.take i) k := by
 unfold rightsM
 rw [List.take_add_one, List.getElem?_eq_getElem h, List.filter_append, List.length_append]; simp [hr]
def askM (b : Bk) (t : Bool) : Int := if checkM b ≠ 0 then checkM b else if t = false then 6 else if statesM b = [] then 9 else 0
def zeroKn : List AV := zeroBk ++ [.v (.slice none 0 0), .v (.map none)]
theorem statesM_ok {b : Bk} (hb : BkOk b) : ∀ S ∈ statesM b, SmOk b S := fun S h => allM_ok hb S (List.mem_filter.1 h).1
theorem statesM_len {b : Bk} (hb : BkOk b) : (statesM b).length ≤ 65536 := Nat.le_trans (List.length_filter_le _ _) (allM_len hb)
theorem flatten_len {Ls : List (List Int)} (h : ∀ S ∈ Ls, S.length ≤ 3) : Ls.flatten.length ≤ Ls.length * 3 := by
 induction Ls with
 | nil => simp
 | cons S Ls ih => 
  have := ih fun R hR => h R (by simp [hR])
  have := h S (by simp)
  rw [List.flatten_cons, List.length_append, List.length_cons]; omega
theorem oft_step {Ls : List (List Int)} {i k : Nat} (h : i < Ls.length) (hk : k < Ls[i].length) (n : Int) : ((((Ls.take i).flatten ++ Ls[i].take (k + 1)).count n : Nat) : Int) = if n = Ls[i][k] then ((((Ls.take i).flatten ++ Ls[i].take k).count Ls[i][k] : Nat) : Int) + 1 else ((((Ls.take i).flatten ++ Ls[i].take k).count n : Nat) : Int) := by
 rw [List.take_add_one, List.getElem?_eq_getElem hk, ← List.append_assoc, List.count_append]
 by_cases e : n = Ls[i][k]
 ·subst e; simp
 ·rw [if_neg e]; simp [List.count_cons, Ne.symm e]
theorem oft_next {Ls : List (List Int)} {i : Nat} (h : i < Ls.length) : (Ls.take i).flatten ++ Ls[i].take Ls[i].length = (Ls.take (i + 1)).flatten := by
 rw [List.take_add_one, List.getElem?_eq_getElem h, List.take_length, List.flatten_append]; simp
theorem mapOk_congr {ob : Obj} {f g : Int → Int} (h : MapOk ob f) (e : ∀ n, f n = g n) : MapOk ob g := by
 obtain ⟨es, c, rfl, hI, hf⟩ := h
 exact ⟨es, c, rfl, hI, fun n => (hf n).trans (e n)⟩


theorem always_ok {main : Bool} {T : Goroutine → Hp → Prop} (hT : Shut Tryd.prog main T) {gm : Nat → Option Nat} {b : Bk} {s e : Nat} :
  CallK Tryd.prog T gm 32 [.agg (bookC b s e)] [] (fun r K' => r = boolA true ∧ K' = []) := by
 refine callK_in 3 hT Tryd.func32 fun Y hret => ?_
 refine au [4, 5, 21] ?_
 intro j1 hj1
 refine au [2, 3, 4, 5, 2, 3] ?_
 refine TK.rt hret [] ?_
 exact ⟨rfl, rfl⟩

theorem word_ok {main : Bool} {T : Goroutine → Hp → Prop} (hT : Shut Tryd.prog main T) {gm : Nat → Option Nat} {b : Bk} {s e jl m : Nat} {Ls : List (List Int)} {x : Int} :
  CallK Tryd.prog T gm 42 [.agg (knownC b s e (.sl jl 0 Ls.length) m), intA x] [] (fun r K' => r = intA (wordM Ls.length x) ∧ K' = []) := by
 refine callK_in 13 hT Tryd.func42 fun Y hret => ?_
 refine au [4, 5, 21] ?_
 intro j1 hj1
 refine au [2, 3, 4, 4, 5, 1, 3, 13, 4, 5, 7, 9, 28, 6, 2, 3, 20] ?_
 refine ⟨fun hc0 => ?_, fun hc0 => ?_⟩
 ·refine au [4, 5, 2, 3] ?_
  refine TK.rt hret [] ?_
  exact ⟨by unfold wordM; rw [if_pos hc0]; rfl, rfl⟩
 refine au [4, 5, 6, 2, 3, 20] ?_
 refine ⟨fun hc1 => ?_, fun hc1 => ?_⟩
 ·refine au [4, 5, 2, 3] ?_
  refine TK.rt hret [] ?_
  exact ⟨by unfold wordM; rw [if_neg (by rw [hc0]; decide), if_pos hc1]; rfl, rfl⟩
 refine au [12, 14, 4, 5, 2, 3] ?_
 refine TK.rt hret [] ?_
 exact ⟨by unfold wordM; rw [if_neg (by rw [hc0]; decide), if_neg (by rw [hc1]; decide)]; rfl, rfl⟩

theorem within_ok {main : Bool} {T : Goroutine → Hp → Prop} (hT : Shut Tryd.prog main T) {gm : Nat → Option Nat} {b : Bk} {s e jl m : Nat} {Ls : List (List Int)} {lo w : Int} (hs : 4 ≤ b.steps ∧ b.steps ≤ 16) (hLo : ∀ S ∈ Ls, SmOk b S) (hLn : Ls.length ≤ 65536) (h0 : 0 ≤ lo ∧ lo < b.steps) :
  CallK Tryd.prog T gm 37 [.agg (knownC b s e (.sl jl 0 Ls.length) m), intA lo, intA w] [(jl, listO Ls)] (fun r K' => r = .agg [intA (withinM b Ls lo w).1, intA (withinM b Ls lo w).2] ∧ K' = [(jl, listO Ls)]) := by
 refine callK_in 36 hT Tryd.func37 fun Y hret => ?_
 refine au [4, 5, 21] ?_
 intro jx hjx
 refine au [22] ?_
 intro jr hjr
 refine au [3, 4, 5, 39, 22] ?_
 intro jo hjo
 refine au [17, 3, 4, 4, 5, 7, 9, 28, 1, 3, 13] ?_
 refine TK.maskL [1, 2, 3, 6, 7, 13, 14, 15] ?_
 refine TK.loopN (fun n env K => ∃ (i : Nat), n = Ls.length - i ∧ i ≤ Ls.length ∧ env = slotsA 36 [(1, intA lo), (2, intA w), (3, .ptr jx 0), (6, .ptr jr 0), (7, .ptr jo 0), (13, .sl jl 0 Ls.length), (14, intA Ls.length), (15, intA i)] ∧ K = [(jo, .cells [intA (withinM b (Ls.take i) lo w).1, intA (withinM b (Ls.take i) lo w).2] 23 true), (jr, .cells [intA 0, intA 0] 23 true), (jx, .cells (knownC b s e (.sl jl 0 Ls.length) m) 74 true), (jl, listO Ls)]) Ls.length ⟨0, rfl, Nat.zero_le _, rfl, rfl⟩ fun n env K hI' hnext => ?_
 obtain ⟨i, rfl, hi, rfl, rfl⟩ := hI'
 refine au [4, 5, 6, 3, 4, 20] ?_
 refine ⟨fun hc => ?_, fun hc => ?_⟩
 ·simp only [decide_eq_true_eq] at hc
  have hil : i < Ls.length := by omega
  have hSm := hLo _ (List.getElem_mem hil)
  refine au [12, 4, 13, 4, 5, 36] ?_
  refine TK.a rfl (q_load rfl rfl TySz.h (by repeat (first | exact List.Mem.head _ | assumption | apply List.Mem.tail)) (list_at Ls i hil)) ?_
  refine au [22] ?_
  intro j9 hj9
  refine au [17, 3, 4, 5, 7, 8, 8, 1, 1] ?_
  refine TK.cl rfl rfl rfl rfl (in_ok hT (s := s) (e := e) hs hSm.len hSm.mem h0) ?_
  rintro r1 K2 ⟨rfl, rfl⟩
  refine au [2, 3, 5, 7, 9, 1] ?_
  refine TK.a rfl (q_min rfl rfl rfl) ?_
  refine au [7, 9, 1] ?_
  refine TK.a rfl (q_max rfl rfl rfl) ?_
  refine au [39, 17, 3, 14, 5, 23, 1, 3] ?_
  refine TK.maskL [1, 2, 3, 6, 7, 13, 14, 15] ?_
  refine TK.kp [(jo, _), (jr, _), (jx, _), (jl, _)] ?_
  exact hnext _ _ _ (by omega) ⟨i + 1, rfl, by omega, rfl, by rw [withinM_succ hil]; rfl⟩
 simp only [decide_eq_false_iff_not] at hc
 obtain rfl : i = Ls.length := by omega
 refine au [16, 4, 5, 8, 17, 3] ?_
 refine TK.rt hret [(jl, _)] ?_
 exact ⟨by rw [List.take_length]; rfl, rfl⟩

theorem rights_ok {main : Bool} {T : Goroutine → Hp → Prop} (hT : Shut Tryd.prog main T)  {b : Bk} {s e jl m : Nat} {Ls : List (List Int)} {k : Nat} (hb : BkOk b) (hLo : ∀ S ∈ Ls, SmOk b S) (hLn : Ls.length ≤ 65536) (hk : k < b.seekers.length) :
  CallK Tryd.prog T gmS 58 [.agg (knownC b s e (.sl jl 0 Ls.length) m), intA k] [(1, saysG), (s, saysO b), (jl, listO Ls)] (fun r K' => r = intA (rightsM b Ls k) ∧ K' = [(1, saysG), (s, saysO b), (jl, listO Ls)]) := by
 refine callK_in 24 hT Tryd.func58 fun Y hret => ?_
 refine au [4, 5, 21] ?_
 intro jx hjx
 refine au [2, 3, 4, 5, 2, 3, 4, 4, 5, 7, 9, 28, 1, 3, 13] ?_
 refine TK.maskL [1, 2, 5, 9, 10, 11] ?_
 refine TK.loopN (fun n env K => ∃ (i : Nat), n = Ls.length - i ∧ i ≤ Ls.length ∧ env = slotsA 24 [(1, intA k), (2, .ptr jx 0), (5, intA (rightsM b (Ls.take i) k)), (9, .sl jl 0 Ls.length), (10, intA Ls.length), (11, intA i)] ∧ K = [(jx, .cells (knownC b s e (.sl jl 0 Ls.length) m) 74 true), (1, saysG), (s, saysO b), (jl, listO Ls)]) Ls.length ⟨0, rfl, Nat.zero_le _, rfl, rfl⟩ fun n env K hI' hnext => ?_
 obtain ⟨i, rfl, hi, rfl, rfl⟩ := hI'
 refine au [4, 5, 6, 3, 4, 20] ?_
 refine ⟨fun hc => ?_, fun hc => ?_⟩
 ·simp only [decide_eq_true_eq] at hc
  have hil : i < Ls.length := by omega
  have hSm := hLo _ (List.getElem_mem hil)
  have hrl := rightsM_le b (Ls.take i) k
  have htl : (Ls.take i).length ≤ 65536 := by rw [List.length_take]; omega
  refine au [12, 4, 13, 4, 5, 36] ?_
  refine TK.a rfl (q_load rfl rfl TySz.h (by repeat (first | exact List.Mem.head _ | assumption | apply List.Mem.tail)) (list_at Ls i hil)) ?_
  refine au [22] ?_
  intro j9 hj9
  refine au [17, 3, 4, 5, 7, 8, 8, 1] ?_
  refine TK.cl rfl rfl rfl rfl (right_ok hT (s := s) (e := e) hb hSm hk) ?_
  rintro r1 K2 ⟨rfl, rfl⟩
  refine au [3, 20] ?_
  refine ⟨fun hc1 => ?_, fun hc1 => ?_⟩
  ·refine au [5, 1, 23, 2, 3, 14, 5, 23, 1, 3] ?_
   refine TK.maskL [1, 2, 5, 9, 10, 11] ?_
   refine TK.kp [(jx, _), (1, _), (s, _), (jl, _)] ?_
   exact hnext _ _ _ (by omega) ⟨i + 1, rfl, by omega, by rw [rightsM_T hil hc1]; rfl, rfl⟩
  refine au [12, 14, 5, 23, 1, 3] ?_
  refine TK.maskL [1, 2, 5, 9, 10, 11] ?_
  refine TK.kp [(jx, _), (1, _), (s, _), (jl, _)] ?_
  exact hnext _ _ _ (by omega) ⟨i + 1, rfl, by omega, by rw [rightsM_F hil hc1]; rfl, rfl⟩
 simp only [decide_eq_false_iff_not] at hc
 obtain rfl : i = Ls.length := by omega
 refine au [16, 4, 5, 1, 2, 3] ?_
 refine TK.rt hret [(1, _), (s, _), (jl, _)] ?_
 exact ⟨by rw [List.take_length], rfl⟩

theorem ask_ok {main : Bool} {T : Goroutine → Hp → Prop} (hT : Shut Tryd.prog main T)  {b : Bk} {s e : Nat} {yv : AV} {t : Bool} {Kt : KV} (hse : s ≠ e) (hn : ∀ x ∈ b.seekers, x.name.size ≤ 1000) (hl : b.seen.length ≤ 1000) (hy1 : oneA yv = true) (hth : BkOk b → CallFK Tryd.prog T gmS yv [.agg (bookC b s e)] Kt (fun r K' => r = boolA t ∧ K' = Kt)) :
  CallK Tryd.prog T gmS 31 [.agg (bookC b s e), yv] ((0, checksG) :: (1, saysG) :: (s, saysO b) :: (e, seenO b) :: Kt) (fun r K' => (askM b t ≠ 0 ∧ r = .tup [.agg zeroKn, intA (askM b t)] ∧ K' = (0, checksG) :: (1, saysG) :: (s, saysO b) :: (e, seenO b) :: Kt) ∨ (∃ jl m om, askM b t = 0 ∧ MapOk om (oftM (statesM b)) ∧ r = .tup [.agg (knownC b s e (.sl jl 0 (statesM b).length) m), intA 0] ∧ K' = (jl, listO (statesM b)) :: (m, .raw om) :: (0, checksG) :: (1, saysG) :: (s, saysO b) :: (e, seenO b) :: Kt)) := by
 refine callK_in 59 hT Tryd.func31 fun Y hret => ?_
 refine au [4, 5, 21] ?_
 intro jb hjb
 refine au [22] ?_
 intro jk hjk
 refine au [2, 3, 4, 4, 5, 8] ?_
 refine TK.cl rfl rfl rfl rfl (check_ok hT (b := b) (s := s) (e := e) hn hl) ?_
 rintro r1 K2 ⟨rfl, rfl⟩
 refine au [2, 3, 4, 5, 1, 6, 3, 20] ?_
 refine ⟨fun hc0 => ?_, fun hc0 => ?_⟩
 ·refine au [4, 5, 45, 1, 17, 2, 3] ?_
  refine TK.rt hret (((0, checksG) :: (1, saysG) :: (s, saysO b) :: (e, seenO b) :: Kt)) ?_
  have ha : askM b t = checkM b := if_pos (by simpa using hc0)
  exact .inl ⟨by rw [ha]; simpa using hc0, by rw [ha]; rfl, rfl⟩
 have hc1 : checkM b = 0 := by simpa using hc0
 have hb := bkOk_of hc1
 refine au [12, 4, 5, 8, 43] ?_
 refine TK.newM rfl rfl rfl (n_makeMap rfl) (fun _ => putS rfl (by simp only [List.set]; rfl)) fun jm hjm => ?_
 refine au [45, 22] ?_
 intro jx hjx
 refine au [17, 3, 4, 4, 5, 1, 7, 8] ?_
 refine TK.callF' rfl rfl rfl rfl rfl (hth hb) (.right (.right (.right (.right (.right (.right (.right (.right (.all _))))))))) fun r4 K5 h6 => ?_
 obtain ⟨rfl, hK⟩ := h6
 refine au [] ?_
 rw [hK]
 refine TK.perm (K' := (jx, _) :: (jm, _) :: (0, _) :: (s, _) :: (e, _) :: (jk, _) :: (jb, _) :: (1, _) :: Kt) (List.perm_append_comm (l₁ := Kt)) ?_
 refine au [30, 3, 20] ?_
 refine ⟨fun hc2 => ?_, fun hc2 => ?_⟩
 ·have ht : t = false := by simpa using hc2
  refine au [4, 5, 45, 17, 2, 3] ?_
  refine TK.rt hret (((0, checksG) :: (1, saysG) :: (s, saysO b) :: (e, seenO b) :: Kt)) ?_
  have ha : askM b t = 6 := by unfold askM; rw [if_neg (by simpa using hc1), ht, if_pos rfl]
  exact .inl ⟨by rw [ha]; decide, by rw [ha]; rfl, rfl⟩
 have ht : t = true := by simpa using hc2
 refine au [12, 4, 4, 5, 7, 8] ?_
 refine TK.cl rfl rfl rfl rfl (states_ok hT hse hb) ?_
 rintro r7 K8 ⟨jl, rfl, rfl⟩
 refine au [] ?_
 refine TK.freezeR 30 rfl (by repeat (first | exact Upd.head | apply Upd.tail)) rfl ?_
 refine au [7, 17, 3, 4, 5, 7, 9, 28, 6, 3, 20] ?_
 refine ⟨fun hc3 => ?_, fun hc3 => ?_⟩
 ·have hst : statesM b = [] := List.eq_nil_of_length_eq_zero (by have h : ((statesM b).length : Int) = 0 := (by simpa using hc3); omega)
  refine au [4, 5, 45, 17, 2, 3] ?_
  refine TK.rt hret (((0, checksG) :: (1, saysG) :: (s, saysO b) :: (e, seenO b) :: Kt)) ?_
  have ha : askM b t = 9 := by unfold askM; rw [if_neg (by simpa using hc1), ht, if_neg (by decide), if_pos hst]
  exact .inl ⟨by rw [ha]; decide, by rw [ha]; rfl, rfl⟩
 have hst : statesM b ≠ [] := fun h => by rw [h] at hc3; exact absurd hc3 (by decide)
 have hLo := statesM_ok hb
 have hLn := statesM_len hb
 refine au [12, 4, 4, 5, 7, 9, 28, 1, 3, 13] ?_
 refine TK.maskL [4, 7, 38, 39, 40] ?_
 refine TK.kp (((jx, _) :: (jm, _) :: (jl, _) :: (jk, _) :: (0, _) :: (1, _) :: (s, _) :: (e, _) :: Kt)) ?_
 refine TK.loopN (fun n env K => ∃ (i : Nat) (om : Obj), n = (statesM b).length - i ∧ i ≤ (statesM b).length ∧ MapOk om (fun q => (((statesM b).take i).flatten.count q : Nat)) ∧ env = slotsA 59 [(4, .ptr jk 0), (7, .ptr jx 0), (38, .sl jl 0 (statesM b).length), (39, intA (statesM b).length), (40, intA i)] ∧ K = (jx, .cells (knownC b s e (.sl jl 0 (statesM b).length) jm) 74 true) :: (jm, .raw om) :: (jl, listO (statesM b)) :: (jk, .cells zeroKn 74 true) :: (0, checksG) :: (1, saysG) :: (s, saysO b) :: (e, seenO b) :: Kt) (statesM b).length ⟨0, _, rfl, Nat.zero_le _, mapOk_nil, rfl, rfl⟩ fun n env K hI' hnext => ?_
 obtain ⟨i, om, rfl, hi, hom, rfl, rfl⟩ := hI'
 refine au [4, 5, 6, 3, 4, 20] ?_
 refine ⟨fun hc => ?_, fun hc => ?_⟩
 ·simp only [decide_eq_true_eq] at hc
  have hil : i < (statesM b).length := by omega
  have hSm := hLo _ (List.getElem_mem hil)
  refine au [12, 4, 13, 4, 5, 36] ?_
  refine TK.a rfl (q_load rfl rfl TySz.h (by repeat (first | exact List.Mem.head _ | assumption | apply List.Mem.tail)) (list_at (statesM b) i hil)) ?_
  refine au [22] ?_
  intro j9 hj9
  refine au [17, 3, 4, 5, 8] ?_
  refine TK.cl rfl rfl rfl rfl (list_ok hT hSm.len fun x hx => ⟨(hSm.mem x hx).1, by have := (hSm.mem x hx).2; have := hb.steps; omega⟩) ?_
  rintro r10 K11 ⟨jr, rfl, rfl⟩
  refine au [28, 1, 3, 13] ?_
  refine TK.maskL [4, 7, 38, 39, 40, 45, 46, 47] ?_
  refine TK.kp (((jr, _) :: (jx, _) :: (jm, _) :: (jl, _) :: (jk, _) :: (0, _) :: (1, _) :: (s, _) :: (e, _) :: Kt)) ?_
  refine TK.loopN (fun n env K => ∃ (q : Nat) (om2 : Obj), n = (statesM b)[i].length - q ∧ q ≤ (statesM b)[i].length ∧ MapOk om2 (fun z => (((((statesM b).take i).flatten ++ (statesM b)[i].take q).count z : Nat) : Int)) ∧ env = slotsA 59 [(4, .ptr jk 0), (7, .ptr jx 0), (38, .sl jl 0 (statesM b).length), (39, intA (statesM b).length), (40, intA i), (45, .row jr (statesM b)[i].length), (46, intA (statesM b)[i].length), (47, intA q)] ∧ K = (jr, .row ((statesM b)[i].map intA) 3 1) :: (jx, .cells (knownC b s e (.sl jl 0 (statesM b).length) jm) 74 true) :: (jm, .raw om2) :: (jl, listO (statesM b)) :: (jk, .cells zeroKn 74 true) :: (0, checksG) :: (1, saysG) :: (s, saysO b) :: (e, seenO b) :: Kt) (statesM b)[i].length ⟨0, om, rfl, Nat.zero_le _, by simpa using hom, rfl, rfl⟩ fun n env K hI' hnext2 => ?_
  obtain ⟨q, om2, rfl, hq, hom2, rfl, rfl⟩ := hI'
  refine au [4, 5, 6, 3, 4, 20] ?_
  refine ⟨fun hcq => ?_, fun hcq => ?_⟩
  ·simp only [decide_eq_true_eq] at hcq
   have hlen3 := hSm.len
   have hql : q < (statesM b)[i].length := by omega
   have hcnt : (((statesM b).take i).flatten ++ (statesM b)[i].take q).count (statesM b)[i][q] ≤ 200000 := Nat.le_trans List.count_le_length (by
    have h1 := flatten_len (Ls := (statesM b).take i) (fun R hR => (hLo R (List.mem_of_mem_take hR)).len)
    have h2 : ((statesM b).take i).length ≤ 65536 := by rw [List.length_take]; omega
    have h3 := hSm.len
    rw [List.length_append, List.length_take]; omega)
   refine au [12, 4, 13, 4, 5, 37] ?_
   refine TK.a rfl (q_load1 rfl rfl TySz.h (by repeat (first | exact List.Mem.head _ | assumption | apply List.Mem.tail)) (row_take (i := q) hql rfl)) ?_
   refine au [2, 3, 5, 7, 9, 1] ?_
   refine TK.a rfl (q_lookup rfl rfl rfl Und.h Und.h InfO.h rfl (by repeat (first | exact List.Mem.head _ | assumption | apply List.Mem.tail)) hom2) ?_
   refine au [23] ?_
   refine TK.st rfl rfl rfl (s_mapUpdate rfl rfl rfl rfl Und.h Und.h (by repeat (first | exact List.Mem.head _ | assumption | apply List.Mem.tail)) hom2) (by repeat (first | exact Upd.head | apply Upd.tail)) (putN rfl) ?_
   refine au [3, 14, 5, 23, 1, 3] ?_
   refine TK.maskL [4, 7, 38, 39, 40, 45, 46, 47] ?_
   refine TK.kp (((jr, _) :: (jx, _) :: (jm, _) :: (jl, _) :: (jk, _) :: (0, _) :: (1, _) :: (s, _) :: (e, _) :: Kt)) ?_
   exact hnext2 _ _ _ (by omega) ⟨q + 1, _, rfl, by omega, mapOk_congr (upM_ok hom2) (fun z => (oft_step hil hql z).symm), rfl, rfl⟩
  simp only [decide_eq_false_iff_not] at hcq
  obtain rfl : q = (statesM b)[i].length := by omega
  refine au [16, 14, 5, 23, 1, 3] ?_
  refine TK.maskL [4, 7, 38, 39, 40] ?_
  refine TK.kp (((jx, _) :: (jm, _) :: (jl, _) :: (jk, _) :: (0, _) :: (1, _) :: (s, _) :: (e, _) :: Kt)) ?_
  exact hnext _ _ _ (by omega) ⟨i + 1, om2, rfl, by omega, mapOk_congr hom2 (fun q => by rw [oft_next hil]), rfl, rfl⟩
 simp only [decide_eq_false_iff_not] at hc
 obtain rfl : i = (statesM b).length := by omega
 refine au [16, 4, 5, 8, 17, 2, 3] ?_
 refine TK.rt hret (((jl, _) :: (jm, _) :: (0, checksG) :: (1, saysG) :: (s, saysO b) :: (e, seenO b) :: Kt)) ?_
 have ha : askM b t = 0 := by unfold askM; rw [if_neg (by simpa using hc1), ht, if_neg (by decide), if_neg hst]
 rw [List.take_length] at hom
 exact .inr ⟨jl, jm, _, ha, hom, rfl, rfl⟩
end Go.Vel
end
section
set_option linter.all false
set_option maxRecDepth 20000
set_option maxHeartbeats 60000000
namespace Go.Vel
open Go Go.Conc Go.Proofs

theorem ask_zero {b : Bk} {t : Bool} (h : askM b t = 0) : checkM b = 0 ∧ t = true ∧ statesM b ≠ [] := by
 unfold askM at h
 split at h
 ·rename_i h1; exact absurd h h1
 ·rename_i h1
  split at h
  ·cases h
  ·rename_i h2
   split at h
   ·cases h
   ·rename_i h3
    exact ⟨by simpa using h1, by simpa using h2, h3⟩
def statesApi (b : Bk) : Int × Int := if checkM b ≠ 0 then (0, checkM b) else ((statesM b).length, 0)
def atApi (b : Bk) (n : Int) : Int × Int := if askM b (isStepM b n) ≠ 0 then (0, askM b (isStepM b n)) else (wordM (statesM b).length (oftM (statesM b) n), 0)
def withinApi (b : Bk) (lo hi : Int) : (Int × Int) × Int := if askM b (isStepM b lo && isStepM b hi) ≠ 0 then ((0, 0), askM b (isStepM b lo && isStepM b hi)) else (withinM b (statesM b) lo ((hi - lo + b.steps) % b.steps + 1), 0)
def wrongApi (b : Bk) (k : Int) : Int × Int := if askM b (isSeekerM b k) ≠ 0 then (0, askM b (isSeekerM b k)) else (wordM (statesM b).length ((statesM b).length - rightsM b (statesM b) k.toNat), 0)
def pickL (b : Bk) (w : Int) (n : Nat) : List Int := ((List.range n).filter fun k : Nat => wordM (statesM b).length (oftM (statesM b) (k : Int)) == w).map fun k : Nat => (k : Int)
theorem pickL_T {b : Bk} {w : Int} {n : Nat} (h : (wordM (statesM b).length (oftM (statesM b) (n : Int)) == w) = true) : pickL b w (n + 1) = pickL b w n ++ [(n : Int)] := by
 unfold pickL; rw [List.range_succ, List.filter_append]; simp [h]
theorem pickL_F {b : Bk} {w : Int} {n : Nat} (h : (wordM (statesM b).length (oftM (statesM b) (n : Int)) == w) = false) : pickL b w (n + 1) = pickL b w n := by
 unfold pickL; rw [List.range_succ, List.filter_append]; simp [h]
theorem pickL_len (b : Bk) (w : Int) (n : Nat) : (pickL b w n).length ≤ n := by
 unfold pickL; rw [List.length_map]; exact Nat.le_trans (List.length_filter_le _ _) (by simp)
theorem oft_le {b : Bk} (hb : BkOk b) (n : Int) : 0 ≤ oftM (statesM b) n ∧ oftM (statesM b) n ≤ 200000 := by
 have h0 : (statesM b).flatten.count n ≤ (statesM b).flatten.length := List.count_le_length
 have h1 := flatten_len (Ls := statesM b) (fun R hR => (statesM_ok hb R hR).len)
 have h2 := statesM_len hb
 unfold oftM
 omega


theorem statesApi_ok {main : Bool} {T : Goroutine → Hp → Prop} (hT : Shut Tryd.prog main T)  {b : Bk} {s e : Nat} (hse : s ≠ e) (hn : ∀ x ∈ b.seekers, x.name.size ≤ 1000) (hl : b.seen.length ≤ 1000) :
  CallK Tryd.prog T gmS 13 [.agg (bookC b s e)] [(0, checksG), (1, saysG), (s, saysO b), (e, seenO b)] (fun r K' => r = .tup [intA (statesApi b).1, intA (statesApi b).2] ∧ K' = [(0, checksG), (1, saysG), (s, saysO b), (e, seenO b)]) := by
 refine callK_in 14 hT Tryd.func13 fun Y hret => ?_
 refine au [4, 5, 21] ?_
 intro j1 hj1
 refine au [2, 2, 3, 4, 4, 5, 8] ?_
 refine TK.cl rfl rfl rfl rfl (check_ok hT (b := b) (s := s) (e := e) hn hl) ?_
 rintro r2 K3 ⟨rfl, rfl⟩
 refine au [2, 3, 4, 5, 1, 6, 3, 20] ?_
 refine ⟨fun hc0 => ?_, fun hc0 => ?_⟩
 ·refine au [4, 5, 1, 2, 2, 3] ?_
  refine TK.rt hret [(0, _), (1, _), (s, _), (e, _)] ?_
  exact ⟨by unfold statesApi; rw [if_pos (by simpa using hc0)]; rfl, rfl⟩
 have hb := bkOk_of (b := b) (by simpa using hc0)
 refine au [12, 4, 5, 8, 43] ?_
 refine TK.cl rfl rfl rfl rfl (states_ok hT hse hb) ?_
 rintro r5 K6 ⟨jl, rfl, rfl⟩
 refine au [28, 2, 2, 3] ?_
 refine TK.rt hret [(0, _), (1, _), (s, _), (e, _)] ?_
 exact ⟨by unfold statesApi; rw [if_neg (by simpa using hc0)]; rfl, rfl⟩

theorem at1_ok {main : Bool} {T : Goroutine → Hp → Prop} (hT : Shut Tryd.prog main T) {gm : Nat → Option Nat} {b : Bk} {s e j : Nat} {n : Int} (hs : 0 ≤ b.steps ∧ b.steps ≤ 16) :
  CallK Tryd.prog T gm 65 [.agg (bookC b s e), .ptr j 0] [(j, .cells [intA n] 3 true)] (fun r K' => r = boolA (isStepM b n) ∧ K' = [(j, .cells [intA n] 3 true)]) := by
 refine callK_in 7 hT Tryd.func65 fun Y hret => ?_
 refine au [4, 5, 21] ?_
 intro jb hjb
 refine au [2, 3, 4, 5, 8, 9] ?_
 refine TK.cl rfl rfl rfl rfl (isStep_ok hT (s := s) (e := e) hs) ?_
 rintro r1 K2 ⟨rfl, rfl⟩
 refine au [2, 3] ?_
 refine TK.rt hret [(j, _)] ?_
 exact ⟨rfl, rfl⟩

theorem atApi_ok {main : Bool} {T : Goroutine → Hp → Prop} (hT : Shut Tryd.prog main T)  {b : Bk} {s e : Nat} {n : Int} (hse : s ≠ e) (hn : ∀ x ∈ b.seekers, x.name.size ≤ 1000) (hl : b.seen.length ≤ 1000) :
  CallK Tryd.prog T gmS 24 [.agg (bookC b s e), intA n] [(0, checksG), (1, saysG), (s, saysO b), (e, seenO b)] (fun r K' => r = .tup [intA (atApi b n).1, intA (atApi b n).2] ∧ K' = [(0, checksG), (1, saysG), (s, saysO b), (e, seenO b)]) := by
 refine callK_in 23 hT Tryd.func24 fun Y hret => ?_
 refine au [4, 5, 21] ?_
 intro j1 hj1
 refine au [21] ?_
 intro j2 hj2
 refine au [2, 2, 3, 4, 5, 8, 32] ?_
 refine TK.cl rfl rfl rfl rfl (ask_ok hT (b := b) (s := s) (e := e) (t := isStepM b n) hse hn hl rfl (fun hb => callFK_fn Cal.h (at1_ok hT (by have := hb.steps; omega)))) ?_
 rintro r3 K4 h5
 rcases h5 with ⟨hb0, rfl, rfl⟩ | ⟨jl, jm, om, hb0, hom, rfl, rfl⟩
 ·refine au [1, 10, 10, 22] ?_
  intro j6 hj6
  refine au [17, 2, 3, 4, 4, 5, 1, 6, 3, 20] ?_
  refine ⟨fun hc0 => ?_, fun hc0 => ?_⟩
  ·
   refine au [4, 5, 1, 2, 2, 3] ?_
   refine TK.rt hret [(0, _), (1, _), (s, _), (e, _)] ?_
   exact ⟨by unfold atApi; rw [if_pos hb0]; rfl, rfl⟩
  exact absurd (by simpa using hc0) hb0
 ·refine au [1, 10, 10, 22] ?_
  intro j7 hj7
  refine au [17, 2, 3, 4, 4, 5, 1, 6, 3, 20] ?_
  refine ⟨fun hc0 => ?_, fun hc0 => ?_⟩
  ·exact absurd hc0 (by decide)
  obtain ⟨hck, hth, hne⟩ := ask_zero hb0
  have hb := bkOk_of hck
  have hLo := statesM_ok hb
  have hLn := statesM_len hb
  refine au [12, 4, 5, 8, 7, 9, 9] ?_
  refine TK.a rfl (q_lookup rfl rfl rfl Und.h Und.h InfO.h rfl (by repeat (first | exact List.Mem.head _ | assumption | apply List.Mem.tail)) hom) ?_
  refine TK.cl rfl rfl rfl rfl (word_ok hT) ?_
  rintro r8 K9 ⟨rfl, rfl⟩
  refine au [2, 2, 3] ?_
  refine TK.rt hret [(0, _), (1, _), (s, _), (e, _)] ?_
  exact ⟨by unfold atApi; rw [if_neg (by rw [hb0]; decide)]; rfl, rfl⟩

theorem within1_ok {main : Bool} {T : Goroutine → Hp → Prop} (hT : Shut Tryd.prog main T) {gm : Nat → Option Nat} {b : Bk} {s e j j2 : Nat} {lo hi : Int} (hs : 0 ≤ b.steps ∧ b.steps ≤ 16) :
  CallK Tryd.prog T gm 35 [.agg (bookC b s e), .ptr j 0, .ptr j2 0] [(j, .cells [intA lo] 3 true), (j2, .cells [intA hi] 3 true)] (fun r K' => r = boolA (isStepM b lo && isStepM b hi) ∧ K' = [(j, .cells [intA lo] 3 true), (j2, .cells [intA hi] 3 true)]) := by
 refine callK_in 13 hT Tryd.func35 fun Y hret => ?_
 refine au [4, 5, 21] ?_
 intro jb hjb
 refine au [2, 3, 4, 5, 8, 9] ?_
 refine TK.cl rfl rfl rfl rfl (isStep_ok hT (s := s) (e := e) hs) ?_
 rintro r1 K2 ⟨rfl, rfl⟩
 refine au [1] ?_
 refine TK.sp 8 (fun g1_4 => ?_) (fun g1_4 => ?_)
 ·refine au [8, 9] ?_
  refine TK.cl rfl rfl rfl rfl (isStep_ok hT (s := s) (e := e) hs) ?_
  rintro r4 K5 ⟨rfl, rfl⟩
  refine au [26, 2, 3] ?_
  refine TK.rt hret [(j, _), (j2, _)] ?_
  exact ⟨by unfold isStepM; rw [g1_4]; rfl, rfl⟩
 refine au [11, 11, 11, 25, 2, 3] ?_
 refine TK.rt hret [(j, _), (j2, _)] ?_
 exact ⟨by unfold isStepM; rw [g1_4]; rfl, rfl⟩

theorem withinApi_ok {main : Bool} {T : Goroutine → Hp → Prop} (hT : Shut Tryd.prog main T)  {b : Bk} {s e : Nat} {lo hi : Int} (hse : s ≠ e) (hn : ∀ x ∈ b.seekers, x.name.size ≤ 1000) (hl : b.seen.length ≤ 1000) :
  CallK Tryd.prog T gmS 8 [.agg (bookC b s e), intA lo, intA hi] [(0, checksG), (1, saysG), (s, saysO b), (e, seenO b)] (fun r K' => r = .tup [.agg [intA (withinApi b lo hi).1.1, intA (withinApi b lo hi).1.2], intA (withinApi b lo hi).2] ∧ K' = [(0, checksG), (1, saysG), (s, saysO b), (e, seenO b)]) := by
 refine callK_in 28 hT Tryd.func8 fun Y hret => ?_
 refine au [4, 5, 21] ?_
 intro j1 hj1
 refine au [21] ?_
 intro j2 hj2
 refine au [21] ?_
 intro j3 hj3
 refine au [22] ?_
 intro j4 hj4
 refine au [2, 3, 4, 5, 8, 32] ?_
 refine TK.cl rfl rfl rfl rfl (ask_ok hT (b := b) (s := s) (e := e) (t := isStepM b lo && isStepM b hi) hse hn hl rfl (fun hb => callFK_fn Cal.h (within1_ok hT (by have := hb.steps; omega)))) ?_
 rintro r5 K6 h7
 rcases h7 with ⟨hb0, rfl, rfl⟩ | ⟨jl, jm, om, hb0, hom, rfl, rfl⟩
 ·refine au [1, 10, 10, 22] ?_
  intro j8 hj8
  refine au [17, 2, 3, 4, 4, 5, 1, 6, 3, 20] ?_
  refine ⟨fun hc0 => ?_, fun hc0 => ?_⟩
  ·
   refine au [4, 5, 39, 1, 17, 2, 3] ?_
   refine TK.rt hret [(0, _), (1, _), (s, _), (e, _)] ?_
   exact ⟨by unfold withinApi; rw [if_pos hb0]; rfl, rfl⟩
  exact absurd (by simpa using hc0) hb0
 ·refine au [1, 10, 10, 22] ?_
  intro j9 hj9
  refine au [17, 2, 3, 4, 4, 5, 1, 6, 3, 20] ?_
  refine ⟨fun hc0 => ?_, fun hc0 => ?_⟩
  ·exact absurd hc0 (by decide)
  obtain ⟨hck, hth, hne⟩ := ask_zero hb0
  have hb := bkOk_of hck
  have hLo := statesM_ok hb
  have hLn := statesM_len hb
  have hlo : (0 ≤ lo ∧ lo < b.steps) ∧ (0 ≤ hi ∧ hi < b.steps) := by simp only [isStepM, Bool.and_eq_true, decide_eq_true_eq] at hth; omega
  refine au [12, 4] ?_
  refine TK.draw [0, 1, 2, 3, 4, 5, 6, 7, 8, 9] [0, 1, 2, 3, 4, 5, 6, 7, 8, 9] (by kernel_rfl) (by kernel_rfl) ?_
  refine TD.y [8] rfl (hq := q_load rfl rfl TySz.h (List.Mem.head _) rfl) (h := ?_)
  refine TD.y [4] rfl (hq := q_load1 rfl rfl TySz.h (List.Mem.head _) rfl) (h := ?_)
  refine TD.z [8] rfl (q_fieldAddr rfl rfl FldOf.h (by decide)) ?_
  refine TD.y [22] rfl (hq := q_load rfl rfl TySz.h (List.Mem.head _) rfl) (h := ?_)
  refine TD.y [4] rfl (hq := q_load1 rfl rfl TySz.h (List.Mem.head _) rfl) (h := ?_)
  refine TD.y [5] rfl (hq := q_load1 rfl rfl TySz.h (List.Mem.head _) rfl) (h := ?_)
  refine TD.cl (pend' := [⟨2, [8], []⟩, ⟨1, [4], [(_, _)]⟩, ⟨0, [8], [(_, _)]⟩]) [23, 24, 25] rfl rfl rfl rfl rfl (wide_ok hT (s := s) (e := e) hb.steps hlo.1 hlo.2) (fun r10 K11 h12 => ⟨?_, ?_⟩)
  ·rcases h12 with ⟨rfl, rfl⟩
   all_goals simp
  obtain ⟨rfl, rfl⟩ := h12
  try simp only [List.cons_append, List.nil_append]
  refine TD.norm (by simp only [List.set]; rfl) ?_
  refine TD.cl (pend' := [⟨2, [8], []⟩]) [20, 21, 26] rfl rfl rfl rfl rfl (within_ok hT hb.steps hLo hLn hlo.1) (fun r13 K14 h15 => ⟨?_, ?_⟩)
  ·rcases h15 with ⟨rfl, rfl⟩
   all_goals simp
  obtain ⟨rfl, rfl⟩ := h15
  try simp only [List.cons_append, List.nil_append]
  refine TD.norm (by simp only [List.set]; rfl) ?_
  refine TD.s (pend' := []) [6, 27] rfl rfl (q_store rfl rfl TySz.h rfl rfl (by repeat (first | exact List.Mem.head _ | assumption | apply List.Mem.tail)) rfl) ?_
  refine TD.as (pend' := []) [] rfl rfl (q_assign rfl rfl) ?_
  refine TD.fin ?_
  refine au [] ?_
  refine TK.rt hret [(0, _), (1, _), (s, _), (e, _)] ?_
  exact ⟨by unfold withinApi; rw [if_neg (by rw [hb0]; decide)]; rfl, rfl⟩

theorem wrong1_ok {main : Bool} {T : Goroutine → Hp → Prop} (hT : Shut Tryd.prog main T) {gm : Nat → Option Nat} {b : Bk} {s e j : Nat} {n : Int} (hs : b.seekers.length ≤ 1000) :
  CallK Tryd.prog T gm 56 [.agg (bookC b s e), .ptr j 0] [(j, .cells [intA n] 3 true)] (fun r K' => r = boolA (isSeekerM b n) ∧ K' = [(j, .cells [intA n] 3 true)]) := by
 refine callK_in 7 hT Tryd.func56 fun Y hret => ?_
 refine au [4, 5, 21] ?_
 intro jb hjb
 refine au [2, 3, 4, 5, 8, 9] ?_
 refine TK.cl rfl rfl rfl rfl (isSeeker_ok hT (s := s) (e := e) hs) ?_
 rintro r1 K2 ⟨rfl, rfl⟩
 refine au [2, 3] ?_
 refine TK.rt hret [(j, _)] ?_
 exact ⟨rfl, rfl⟩

theorem wrongApi_ok {main : Bool} {T : Goroutine → Hp → Prop} (hT : Shut Tryd.prog main T)  {b : Bk} {s e : Nat} {n : Int} (hse : s ≠ e) (hn : ∀ x ∈ b.seekers, x.name.size ≤ 1000) (hl : b.seen.length ≤ 1000) :
  CallK Tryd.prog T gmS 18 [.agg (bookC b s e), intA n] [(0, checksG), (1, saysG), (s, saysO b), (e, seenO b)] (fun r K' => r = .tup [intA (wrongApi b n).1, intA (wrongApi b n).2] ∧ K' = [(0, checksG), (1, saysG), (s, saysO b), (e, seenO b)]) := by
 refine callK_in 26 hT Tryd.func18 fun Y hret => ?_
 refine au [4, 5, 21] ?_
 intro j1 hj1
 refine au [21] ?_
 intro j2 hj2
 refine au [2, 2, 3, 4, 5, 8, 32] ?_
 refine TK.cl rfl rfl rfl rfl (ask_ok hT (b := b) (s := s) (e := e) (t := isSeekerM b n) hse hn hl rfl (fun hb => callFK_fn Cal.h (wrong1_ok hT (by have := hb.ns; omega)))) ?_
 rintro r3 K4 h5
 rcases h5 with ⟨hb0, rfl, rfl⟩ | ⟨jl, jm, om, hb0, hom, rfl, rfl⟩
 ·refine au [1, 10, 10, 22] ?_
  intro j6 hj6
  refine au [17, 2, 3, 4, 4, 5, 1, 6, 3, 20] ?_
  refine ⟨fun hc0 => ?_, fun hc0 => ?_⟩
  ·
   refine au [4, 5, 1, 2, 2, 3] ?_
   refine TK.rt hret [(0, _), (1, _), (s, _), (e, _)] ?_
   exact ⟨by unfold wrongApi; rw [if_pos hb0]; rfl, rfl⟩
  exact absurd (by simpa using hc0) hb0
 ·refine au [1, 10, 10, 22] ?_
  intro j7 hj7
  refine au [17, 2, 3, 4, 4, 5, 1, 6, 3, 20] ?_
  refine ⟨fun hc0 => ?_, fun hc0 => ?_⟩
  ·exact absurd hc0 (by decide)
  obtain ⟨hck, hth, hne⟩ := ask_zero hb0
  have hb := bkOk_of hck
  have hLo := statesM_ok hb
  have hLn := statesM_len hb
  obtain ⟨k, rfl⟩ : ∃ k : Nat, n = k := ⟨n.toNat, by simp only [isSeekerM, Bool.and_eq_true, decide_eq_true_eq] at hth; omega⟩
  have hk : k < b.seekers.length := by simp only [isSeekerM, Bool.and_eq_true, decide_eq_true_eq] at hth; omega
  have hrl := rightsM_le b (statesM b) k
  refine au [12, 4] ?_
  refine TK.draw [0, 1, 2, 3, 4, 5, 6, 7, 8, 9, 10] [0, 1, 2, 3, 4, 5, 6, 7, 8, 9, 10] (by kernel_rfl) (by kernel_rfl) ?_
  refine TD.y [6] rfl (hq := q_load rfl rfl TySz.h (List.Mem.head _) rfl) (h := ?_)
  refine TD.z [6] rfl (q_fieldAddr rfl rfl FldOf.h (by decide)) ?_
  refine TD.y [18] rfl (hq := q_load1 rfl rfl TySz.h (List.Mem.head _) rfl) (h := ?_)
  refine TD.z [19] rfl (q_len rfl rfl rfl Und.h) ?_
  refine TD.y [6] rfl (hq := q_load rfl rfl TySz.h (List.Mem.head _) rfl) (h := ?_)
  refine TD.y [3] rfl (hq := q_load1 rfl rfl TySz.h (List.Mem.head _) rfl) (h := ?_)
  refine TD.cl (pend' := [⟨3, [19], []⟩, ⟨2, [18], [(_, _)]⟩, ⟨1, [6], []⟩, ⟨0, [6], [(_, _)]⟩]) [21, 22] rfl rfl rfl rfl rfl (rights_ok hT hb hLo hLn hk) (fun r8 K9 h10 => ⟨?_, ?_⟩)
  ·rcases h10 with ⟨rfl, rfl⟩
   all_goals simp
  obtain ⟨rfl, rfl⟩ := h10
  try simp only [List.cons_append, List.nil_append]
  refine TD.norm (by simp only [List.set]; rfl) ?_
  refine TD.z [20, 23] rfl (q_sub rfl rfl rfl (by omega)) ?_
  refine TD.cl (pend' := [⟨3, [19], []⟩, ⟨2, [18], [(_, _)]⟩, ⟨1, [6], []⟩]) [17, 24] rfl rfl rfl rfl rfl (word_ok hT) (fun r11 K12 h13 => ⟨?_, ?_⟩)
  ·rcases h13 with ⟨rfl, rfl⟩
   all_goals simp
  obtain ⟨rfl, rfl⟩ := h13
  try simp only [List.cons_append, List.nil_append]
  refine TD.norm (by simp only [List.set]; rfl) ?_
  refine TD.as (pend' := []) [25] rfl rfl (q_assign rfl rfl) ?_
  refine TD.as (pend' := []) [] rfl rfl (q_assign rfl rfl) ?_
  refine TD.fin ?_
  refine au [] ?_
  refine TK.rt hret [(0, _), (1, _), (s, _), (e, _)] ?_
  exact ⟨by unfold wrongApi; rw [if_neg (show ¬ (askM b (isSeekerM b (k : Int)) ≠ 0) by rw [hb0]; decide)]; rfl, rfl⟩

theorem stepsApi_ok {main : Bool} {T : Goroutine → Hp → Prop} (hT : Shut Tryd.prog main T)  {b : Bk} {s e : Nat} (hse : s ≠ e) (hn : ∀ x ∈ b.seekers, x.name.size ≤ 1000) (hl : b.seen.length ≤ 1000) :
  CallK Tryd.prog T gmS 10 [.agg (bookC b s e)] [(0, checksG), (1, saysG), (s, saysO b), (e, seenO b)] (fun r K' => (askM b true ≠ 0 ∧ r = .tup [.v (.slice none 0 0), .v (.slice none 0 0), intA (askM b true)] ∧ K' = [(0, checksG), (1, saysG), (s, saysO b), (e, seenO b)]) ∨ (askM b true = 0 ∧ ∃ j1 j2, r = .tup [.row j1 (pickL b 1 b.steps.toNat).length, .row j2 (pickL b 0 b.steps.toNat).length, intA 0] ∧ K' = [(0, checksG), (1, saysG), (s, saysO b), (e, seenO b), (j1, .row ((pickL b 1 b.steps.toNat).map intA) 3 1), (j2, .row ((pickL b 0 b.steps.toNat).map intA) 3 1)])) := by
 refine callK_in 41 hT Tryd.func10 fun Y hret => ?_
 refine au [4, 5, 21] ?_
 intro jb hjb
 refine au [2, 2, 2] ?_
 refine TK.virt 2 3 1 rfl fun j01 hj01 => ?_
 refine TK.virt 3 3 1 rfl fun j02 hj02 => ?_
 refine au [3, 4, 5, 8] ?_
 refine TK.cl rfl rfl rfl rfl (ask_ok hT (b := b) (s := s) (e := e) (t := true) hse hn hl rfl (fun hb => callFK_fn Cal.h (always_ok hT))) ?_
 rintro r1 K2 h3
 rcases h3 with ⟨hb0, rfl, rfl⟩ | ⟨jl, jm, om, hb0, hom, rfl, rfl⟩
 ·refine au [1, 10, 10, 22] ?_
  intro jx hjx
  refine au [17, 2, 3, 4, 4, 5, 1, 6, 3, 20] ?_
  refine ⟨fun hc0 => ?_, fun hc0 => ?_⟩
  ·
   refine au [4, 5, 1, 2, 2, 2, 3] ?_
   refine TK.rt hret [(0, _), (1, _), (s, _), (e, _)] ?_
   exact .inl ⟨hb0, rfl, rfl⟩
  exact absurd (by simpa using hc0) hb0
 ·refine au [1, 10, 10, 22] ?_
  intro jx hjx
  refine au [17, 2, 3, 4, 4, 5, 1, 6, 3, 20] ?_
  refine ⟨fun hc0 => ?_, fun hc0 => ?_⟩
  ·exact absurd hc0 (by decide)
  obtain ⟨hck, hth, hne⟩ := ask_zero hb0
  have hb := bkOk_of hck
  have hLo := statesM_ok hb
  have hLn := statesM_len hb
  refine au [12, 4, 4, 5, 7, 9, 1, 3, 13] ?_
  refine TK.maskL [1, 2, 3, 5, 16, 17] ?_
  refine TK.kp [(jx, _), (jm, _), (jl, _), (jb, _), (0, _), (1, _), (s, _), (e, _), (j01, _), (j02, _)] ?_
  refine TK.loopN (fun n env K => ∃ (i j1 j2 : Nat), n = b.steps.toNat - i ∧ i ≤ b.steps.toNat ∧ env = slotsA 41 [(1, .ptr jb 0), (2, .row j1 (pickL b 1 i).length), (3, .row j2 (pickL b 0 i).length), (5, .ptr jx 0), (16, intA b.steps), (17, intA i)] ∧ K = [(jx, .cells (knownC b s e (.sl jl 0 (statesM b).length) jm) 74 true), (jm, .raw om), (jl, listO (statesM b)), (jb, .cells (bookC b s e) 27 true), (0, checksG), (1, saysG), (s, saysO b), (e, seenO b), (j1, .row ((pickL b 1 i).map intA) 3 1), (j2, .row ((pickL b 0 i).map intA) 3 1)]) b.steps.toNat ⟨0, j01, j02, rfl, Nat.zero_le _, rfl, rfl⟩ fun n env K hI' hnext => ?_
  obtain ⟨i, j1, j2, rfl, hi, rfl, rfl⟩ := hI'
  refine au [4, 5, 6, 3, 4, 20] ?_
  refine ⟨fun hc1 => ?_, fun hc1 => ?_⟩
  ·simp only [decide_eq_true_eq] at hc1
   have hst16 := hb.steps
   have hp1 := pickL_len b 1 i
   have hp2 := pickL_len b 0 i
   refine au [12, 4, 13, 4, 5, 1, 2, 3, 4, 5, 8, 7, 9, 1] ?_
   refine TK.a rfl (q_lookup rfl rfl rfl Und.h Und.h InfO.h rfl (by repeat (first | exact List.Mem.head _ | assumption | apply List.Mem.tail)) hom) ?_
   refine TK.cl rfl rfl rfl rfl (word_ok hT) ?_
   rintro r4 K5 ⟨rfl, rfl⟩
   refine au [3, 13, 4, 5, 6, 2, 3, 20] ?_
   refine ⟨fun hc2 => ?_, fun hc2 => ?_⟩
   ·refine au [5, 1, 1] ?_
    refine TK.newR rfl rfl rfl (n_buildSlice (l := [_]) rfl SlEl.h TyZ.h (by decide) (by decide) rfl) (fun _ => putS rfl (by simp only [List.set]; rfl)) fun j7 hj7 => ?_
    refine TK.appR rfl rfl rfl (a_app rfl ApOf.h rfl (by repeat (first | exact List.Mem.head _ | assumption | apply List.Mem.tail)) (by simp <;> omega) rfl (src_row (ln := [_]) (by repeat (first | exact List.Mem.head _ | assumption | apply List.Mem.tail)) (by decide) (by simp) rfl) (by omega) rfl (by unfold maxLen; omega) (by omega)) (fun _ => (by repeat (first | exact Upd.head | apply Upd.tail))) (fun _ => putS rfl (by simp only [List.set]; rfl)) fun j3 => ?_
    refine au [2, 3, 14, 14, 5, 23, 1, 3] ?_
    refine TK.maskL [1, 2, 3, 5, 16, 17] ?_
    refine TK.kp [(jx, _), (jm, _), (jl, _), (jb, _), (0, _), (1, _), (s, _), (e, _), (j3, _), (j2, _)] ?_
    exact hnext _ _ _ (by omega) ⟨i + 1, j3, j2, rfl, by omega, by rw [pickL_T hc2, pickL_F (w := 0) (by rw [beq_iff_eq.1 hc2]; rfl), List.length_append]; rfl, by rw [pickL_T hc2, pickL_F (w := 0) (by rw [beq_iff_eq.1 hc2]; rfl), List.map_append]; rfl⟩
   refine au [4, 5, 6, 2, 3, 20] ?_
   refine ⟨fun hc3 => ?_, fun hc3 => ?_⟩
   ·refine au [5, 1, 1] ?_
    refine TK.newR rfl rfl rfl (n_buildSlice (l := [_]) rfl SlEl.h TyZ.h (by decide) (by decide) rfl) (fun _ => putS rfl (by simp only [List.set]; rfl)) fun j8 hj8 => ?_
    refine TK.appR rfl rfl rfl (a_app rfl ApOf.h rfl (by repeat (first | exact List.Mem.head _ | assumption | apply List.Mem.tail)) (by simp <;> omega) rfl (src_row (ln := [_]) (by repeat (first | exact List.Mem.head _ | assumption | apply List.Mem.tail)) (by decide) (by simp) rfl) (by omega) rfl (by unfold maxLen; omega) (by omega)) (fun _ => (by repeat (first | exact Upd.head | apply Upd.tail))) (fun _ => putS rfl (by simp only [List.set]; rfl)) fun j3 => ?_
    refine au [2, 3, 14, 14, 5, 23, 1, 3] ?_
    refine TK.maskL [1, 2, 3, 5, 16, 17] ?_
    refine TK.kp [(jx, _), (jm, _), (jl, _), (jb, _), (0, _), (1, _), (s, _), (e, _), (j1, _), (j3, _)] ?_
    exact hnext _ _ _ (by omega) ⟨i + 1, j1, j3, rfl, by omega, by rw [pickL_F hc2, pickL_T (w := 0) hc3, List.length_append]; rfl, by rw [pickL_F hc2, pickL_T (w := 0) hc3, List.map_append]; rfl⟩
   refine au [12, 14, 14, 5, 23, 1, 3] ?_
   refine TK.maskL [1, 2, 3, 5, 16, 17] ?_
   refine TK.kp [(jx, _), (jm, _), (jl, _), (jb, _), (0, _), (1, _), (s, _), (e, _), (j1, _), (j2, _)] ?_
   exact hnext _ _ _ (by omega) ⟨i + 1, j1, j2, rfl, by omega, by rw [pickL_F hc2, pickL_F (w := 0) hc3] <;> rfl, by rw [pickL_F hc2, pickL_F (w := 0) hc3] <;> rfl⟩
  simp only [decide_eq_false_iff_not] at hc1
  obtain rfl : i = b.steps.toNat := by omega
  refine au [16, 4, 5, 1, 1, 2, 2, 2, 3] ?_
  refine TK.rt hret [(0, _), (1, _), (s, _), (e, _), (j1, _), (j2, _)] ?_
  exact .inr ⟨hb0, j1, j2, rfl, rfl⟩
end Go.Vel
end
section
set_option linter.all false
set_option maxRecDepth 20000
set_option maxHeartbeats 60000000
namespace Go.Vel
open Go Go.Conc Go.Proofs

theorem CallFK.frame {P : Program} {T : Goroutine → Hp → Prop} {gm : Nat → Option Nat} {yv : AV} {args : List AV} {K Kf R : KV} {x : AV} (hs : Split K Kf R) (h : CallFK P T gm yv args Kf fun r K' => r = x ∧ K' = Kf) : CallFK P T gm yv args K fun r K' => r = x ∧ K' = K := by
 intro A hv hn
 obtain ⟨hv', hn'⟩ := hs.view hv hn
 refine (h A hv' hn').mono fun r A' ⟨K', hk, hr, he⟩ => ⟨K, ?_, hr, rfl⟩
 subst he
 exact (hk.frame hs hv hn).perm hs.perm.symm
def maxM (a b : Int) : Int := if a < b then b else a
def halvesM (len : Int) (p : Nat → Bool) (f : Nat → Int) : Nat → Int × Int
 | 0 => (-1, len)
 | k + 1 => if (p k && decide (maxM (f k) (len - f k) < (halvesM len p f k).2)) = true then (k, maxM (f k) (len - f k)) else halvesM len p f k
def glassB (b : Bk) (k : Nat) : Bool := match b.seekers[k]? with | some x => x.glass | none => false
theorem flat_sub {α : Type} (f : α → List AV) (c : Nat) (hc : ∀ x, (f x).length = c) (xs : List α) (i : Nat) (h : i < xs.length) (d n : Nat) (hd : d + n ≤ c) : ((xs.flatMap f).drop (i * c + d)).take n = ((f xs[i]).drop d).take n := by
 have hY := flat_take f c hc xs i h
 rw [← List.drop_drop, List.take_drop, show ((xs.flatMap f).drop (i * c)).take (d + n) = (((xs.flatMap f).drop (i * c)).take c).take (d + n) by rw [List.take_take, Nat.min_eq_left hd], hY, ← List.take_drop]
theorem says_glass {b : Bk} {k : Nat} (h : k < b.seekers.length) : takeO (saysO b) (0 + (k : Int).toNat * 5 + 4) 1 = some [boolA (glassB b k)] := by
 have hle : (k + 1) * 5 ≤ b.seekers.length * 5 := Nat.mul_le_mul_right _ h
 have hl := flat_len saysC 5 (fun _ => rfl) b.seekers
 simp only [takeO, AObj.look, saysO, Int.toNat_natCast, Nat.zero_add]
 rw [if_pos ⟨by omega, by omega⟩, flat_sub saysC 5 (fun _ => rfl) _ k h 4 1 (by omega)]
 unfold glassB
 rw [List.getElem?_eq_getElem h]
 rfl
def askApi (b : Bk) : Int × Int × Int := if askM b true ≠ 0 then (0, 0, askM b true) else ((halvesM (statesM b).length (fun k => isStepM b k) (fun k => oftM (statesM b) k) b.steps.toNat).1, (halvesM (statesM b).length (fun k => isStepM b k) (fun k => oftM (statesM b) k) b.steps.toNat).2, 0)
def lendApi (b : Bk) : Int × Int × Int := if askM b true ≠ 0 then (0, 0, askM b true) else ((halvesM (statesM b).length (fun k => !glassB b k) (fun k => rightsM b (statesM b) k) b.seekers.length).1, (halvesM (statesM b).length (fun k => !glassB b k) (fun k => rightsM b (statesM b) k) b.seekers.length).2, 0)


theorem halves_ok {main : Bool} {T : Goroutine → Hp → Prop} (hT : Shut Tryd.prog main T) {gm : Nat → Option Nat} {b : Bk} {s e jl m : Nat} {Ls : List (List Int)} {N : Nat} {av sv : AV} {p : Nat → Bool} {f : Nat → Int} {Kt : KV} (hLn : Ls.length ≤ 65536) (hN : N ≤ 1000) (hp : ∀ k, k < N → CallFK Tryd.prog T gm av [intA k] Kt (fun r K' => r = boolA (p k) ∧ K' = Kt)) (hf : ∀ k, k < N → CallFK Tryd.prog T gm sv [intA k] Kt (fun r K' => r = intA (f k) ∧ K' = Kt)) (hfb : ∀ k, k < N → 0 ≤ f k ∧ f k ≤ 1000000) :
  CallK Tryd.prog T gm 54 [.agg (knownC b s e (.sl jl 0 Ls.length) m), intA N, av, sv] Kt (fun r K' => r = .tup [intA (halvesM Ls.length p f N).1, intA (halvesM Ls.length p f N).2] ∧ K' = Kt) := by
 refine callK_in 47 hT Tryd.func54 fun Y hret => ?_
 refine au [4, 5, 21] ?_
 intro jx hjx
 refine au [2, 2, 3, 4] ?_
 refine TK.draw [0, 1, 2, 3, 4] [0, 1, 2, 3, 4] (by kernel_rfl) (by kernel_rfl) ?_
 refine TD.z [4] rfl (q_fieldAddr rfl rfl FldOf.h (by decide)) ?_
 refine TD.y [12] rfl (hq := q_load1 rfl rfl TySz.h (List.Mem.head _) rfl) (h := ?_)
 refine TD.z [13] rfl (q_len rfl rfl rfl Und.h) ?_
 refine TD.as (pend' := [⟨2, [13], []⟩, ⟨1, [12], [(_, _)]⟩, ⟨0, [4], []⟩]) [] rfl rfl (q_assign rfl rfl) ?_
 refine TD.as (pend' := []) [14] rfl rfl (q_assign rfl rfl) ?_
 refine TD.fin ?_
 refine au [4, 4, 5, 1, 1, 3, 13] ?_
 refine TK.maskL [2, 3, 4, 8, 9, 15, 16] ?_
 refine TK.loopN (fun n env K => ∃ (i : Nat), n = N - i ∧ i ≤ N ∧ env = slotsA 47 [(2, av), (3, sv), (4, .ptr jx 0), (8, intA (halvesM Ls.length p f i).1), (9, intA (halvesM Ls.length p f i).2), (15, intA N), (16, intA i)] ∧ K = (jx, .cells (knownC b s e (.sl jl 0 Ls.length) m) 74 true) :: Kt) N ⟨0, rfl, Nat.zero_le _, rfl, rfl⟩ fun n env K hI' hnext => ?_
 obtain ⟨i, rfl, hi, rfl, rfl⟩ := hI'
 refine au [4, 5, 6, 3, 4, 20] ?_
 refine ⟨fun hc => ?_, fun hc => ?_⟩
 ·simp only [decide_eq_true_eq] at hc
  have hil : i < N := by omega
  have hfi := hfb i hil
  refine au [12, 4, 13, 4, 5, 1, 2, 3, 4, 5, 1, 1] ?_
  refine TK.callF' rfl rfl rfl rfl rfl (hf i hil) (.right (.all _)) fun r1 K2 h3 => ?_
  obtain ⟨rfl, hK⟩ := h3
  refine au [] ?_
  rw [hK]
  refine TK.perm (K' := (jx, .cells (knownC b s e (.sl jl 0 Ls.length) m) 74 true) :: Kt) (List.perm_append_singleton _ Kt) ?_
  refine au [2, 3, 4, 5, 1, 1] ?_
  refine TK.callF' rfl rfl rfl rfl rfl (hp i hil) (.right (.all _)) fun r4 K5 h6 => ?_
  obtain ⟨rfl, hK2⟩ := h6
  refine au [] ?_
  rw [hK2]
  refine TK.perm (K' := (jx, .cells (knownC b s e (.sl jl 0 Ls.length) m) 74 true) :: Kt) (List.perm_append_singleton _ Kt) ?_
  refine au [1] ?_
  refine TK.sp 25 (fun g6_4 => ?_) (fun g6_4 => ?_)
  ·refine au [1, 7, 9, 28, 1, 24] ?_
   refine TK.a rfl (q_max rfl rfl rfl) ?_
   refine au [1, 6, 26, 3, 20] ?_
   refine ⟨fun hc1 => ?_, fun hc1 => ?_⟩
   ·refine TK.draw [0, 1, 2, 3, 4, 5, 6, 7, 8, 9] [0, 1, 2, 3, 4, 5, 6, 7, 8, 9] (by kernel_rfl) (by kernel_rfl) ?_
    refine TD.z [10] rfl (q_move rfl rfl) ?_
    refine TD.z [11] rfl (q_move rfl rfl) ?_
    refine TD.z [4] rfl (q_fieldAddr rfl rfl FldOf.h (by decide)) ?_
    refine TD.y [38] rfl (hq := q_load1 rfl rfl TySz.h (List.Mem.head _) rfl) (h := ?_)
    refine TD.z [39] rfl (q_len rfl rfl rfl Und.h) ?_
    refine TD.z [11] rfl (q_move rfl rfl) ?_
    refine TD.z [40, 41] rfl (q_sub rfl rfl rfl (by omega)) ?_
    refine TD.z [37, 42] rfl (q_max rfl rfl rfl) ?_
    refine TD.as (pend' := [⟨7, [37, 42], []⟩, ⟨6, [40, 41], []⟩, ⟨5, [11], []⟩, ⟨4, [39], []⟩, ⟨3, [38], [(_, _)]⟩, ⟨2, [4], []⟩, ⟨1, [11], []⟩]) [36] rfl rfl (q_assign rfl rfl) ?_
    refine TD.as (pend' := []) [43] rfl rfl (q_assign rfl rfl) ?_
    refine TD.fin ?_
    refine au [14, 5, 23, 1, 3] ?_
    refine TK.maskL [2, 3, 4, 8, 9, 15, 16] ?_
    have hst : halvesM Ls.length p f (i + 1) = ((i : Int), maxM (f i) (Ls.length - f i)) := if_pos (by rw [g6_4]; exact hc1)
    exact hnext _ _ _ (by omega) ⟨i + 1, rfl, by omega, by rw [hst]; rfl, rfl⟩
   refine au [12, 14, 5, 23, 1, 3] ?_
   refine TK.maskL [2, 3, 4, 8, 9, 15, 16] ?_
   have hst : halvesM Ls.length p f (i + 1) = halvesM Ls.length p f i := if_neg (by rw [g6_4]; exact fun h => absurd (hc1.symm.trans h) (by decide))
   exact hnext _ _ _ (by omega) ⟨i + 1, rfl, by omega, by rw [hst] <;> rfl, rfl⟩
  refine au [11, 11, 11, 11, 11, 11, 11, 11, 11, 25, 3, 19, 12, 14, 5, 23, 1, 3] ?_
  refine TK.maskL [2, 3, 4, 8, 9, 15, 16] ?_
  have hst : halvesM Ls.length p f (i + 1) = halvesM Ls.length p f i := if_neg (by rw [g6_4]; simp)
  exact hnext _ _ _ (by omega) ⟨i + 1, rfl, by omega, by rw [hst] <;> rfl, rfl⟩
 simp only [decide_eq_false_iff_not] at hc
 obtain rfl : i = N := by omega
 refine au [16, 4, 5, 1, 1, 2, 2, 3] ?_
 refine TK.rt hret (Kt) ?_ (hs := (.right (.all _)))
 exact ⟨rfl, rfl⟩

theorem ask1_ok {main : Bool} {T : Goroutine → Hp → Prop} (hT : Shut Tryd.prog main T) {gm : Nat → Option Nat} {b : Bk} {s e jl m : Nat} {Ls : List (List Int)} {jx : Nat} {om : Obj} {f : Int → Int} {n : Int} (hom : MapOk om f) :
  CallK Tryd.prog T gm 55 [intA n, .ptr jx 0] [(jx, .cells (knownC b s e (.sl jl 0 Ls.length) m) 74 true), (m, .raw om)] (fun r K' => r = intA (f n) ∧ K' = [(jx, .cells (knownC b s e (.sl jl 0 Ls.length) m) 74 true), (m, .raw om)]) := by
 refine callK_in 8 hT Tryd.func55 fun Y hret => ?_
 refine au [4, 5, 2, 3, 4, 5, 7, 9, 1] ?_
 refine TK.a rfl (q_lookup rfl rfl rfl Und.h Und.h InfO.h rfl (by repeat (first | exact List.Mem.head _ | assumption | apply List.Mem.tail)) hom) ?_
 refine au [2, 3] ?_
 refine TK.rt hret [(jx, _), (m, _)] ?_
 exact ⟨rfl, rfl⟩

theorem lend1_ok {main : Bool} {T : Goroutine → Hp → Prop} (hT : Shut Tryd.prog main T) {gm : Nat → Option Nat} {b : Bk} {s e jb : Nat} {k : Nat} (hk : k < b.seekers.length) :
  CallK Tryd.prog T gm 66 [intA k, .ptr jb 0] [(jb, .cells (bookC b s e) 27 true), (s, saysO b)] (fun r K' => r = boolA (!glassB b k) ∧ K' = [(jb, .cells (bookC b s e) 27 true), (s, saysO b)]) := by
 refine callK_in 11 hT Tryd.func66 fun Y hret => ?_
 refine au [4, 5, 2, 3, 4, 5, 7, 9, 1, 36, 7] ?_
 refine TK.a rfl (q_load1 rfl rfl TySz.h (by repeat (first | exact List.Mem.head _ | assumption | apply List.Mem.tail)) (says_glass hk)) ?_
 refine au [30, 2, 3] ?_
 refine TK.rt hret [(jb, _), (s, _)] ?_
 exact ⟨rfl, rfl⟩

theorem askApi_ok {main : Bool} {T : Goroutine → Hp → Prop} (hT : Shut Tryd.prog main T)  {b : Bk} {s e : Nat} (hse : s ≠ e) (hn : ∀ x ∈ b.seekers, x.name.size ≤ 1000) (hl : b.seen.length ≤ 1000) :
  CallK Tryd.prog T gmS 17 [.agg (bookC b s e)] [(0, checksG), (1, saysG), (s, saysO b), (e, seenO b)] (fun r K' => r = .tup [intA (askApi b).1, intA (askApi b).2.1, intA (askApi b).2.2] ∧ K' = [(0, checksG), (1, saysG), (s, saysO b), (e, seenO b)]) := by
 refine callK_in 27 hT Tryd.func17 fun Y hret => ?_
 refine au [4, 5, 21] ?_
 intro j1 hj1
 refine au [2, 2, 2, 3, 4, 5, 8] ?_
 refine TK.cl rfl rfl rfl rfl (ask_ok hT (b := b) (s := s) (e := e) (t := true) hse hn hl rfl (fun hb => callFK_fn Cal.h (always_ok hT))) ?_
 rintro r2 K3 h4
 rcases h4 with ⟨hb0, rfl, rfl⟩ | ⟨jl, jm, om, hb0, hom, rfl, rfl⟩
 ·refine au [1, 10, 10, 22] ?_
  intro jx hjx
  refine au [17, 2, 3, 4, 4, 5, 1, 6, 3, 20] ?_
  refine ⟨fun hc0 => ?_, fun hc0 => ?_⟩
  ·
   refine au [4, 5, 1, 2, 2, 2, 3] ?_
   refine TK.rt hret [(0, _), (1, _), (s, _), (e, _)] ?_
   exact ⟨by unfold askApi; rw [if_pos hb0]; rfl, rfl⟩
  exact absurd (by simpa using hc0) hb0
 ·refine au [1, 10, 10, 22] ?_
  intro jx hjx
  refine au [17, 2, 3, 4, 4, 5, 1, 6, 3, 20] ?_
  refine ⟨fun hc0 => ?_, fun hc0 => ?_⟩
  ·exact absurd hc0 (by decide)
  obtain ⟨hck, hth, hne⟩ := ask_zero hb0
  have hb := bkOk_of hck
  have hLo := statesM_ok hb
  have hLn := statesM_len hb
  refine au [12, 4, 5, 8, 7, 9, 7, 8, 32, 32] ?_
  rw [show b.steps = ((b.steps.toNat : Nat) : Int) by have := hb.steps; omega]
  refine TK.cl rfl rfl rfl rfl (halves_ok hT (b := b) (s := s) (e := e) (N := b.steps.toNat) (p := fun k => isStepM b k) (f := fun k => oftM (statesM b) k) (Kt := [(jx, .cells (knownC b s e (.sl jl 0 (statesM b).length) jm) 74 true), (jm, .raw om)]) hLn (by have := hb.steps; omega) (fun k _ => CallFK.frame (.none _) (callFK_fn Cal.h (isStep_ok hT (by have := hb.steps; omega)))) (fun k _ => callFK_fn Cal.h (ask1_ok hT hom)) (fun k _ => by have := oft_le hb k; omega)) ?_
  rintro r5 K6 ⟨rfl, rfl⟩
  refine au [1, 10, 10, 2, 2, 3, 4, 5, 1, 1, 2, 2, 2, 3] ?_
  refine TK.rt hret [(0, _), (1, _), (s, _), (e, _)] ?_
  exact ⟨by unfold askApi; rw [if_neg (show ¬ (askM b true ≠ 0) by rw [hb0]; decide)]; rfl, rfl⟩

theorem lendApi_ok {main : Bool} {T : Goroutine → Hp → Prop} (hT : Shut Tryd.prog main T)  {b : Bk} {s e : Nat} (hse : s ≠ e) (hn : ∀ x ∈ b.seekers, x.name.size ≤ 1000) (hl : b.seen.length ≤ 1000) :
  CallK Tryd.prog T gmS 26 [.agg (bookC b s e)] [(0, checksG), (1, saysG), (s, saysO b), (e, seenO b)] (fun r K' => r = .tup [intA (lendApi b).1, intA (lendApi b).2.1, intA (lendApi b).2.2] ∧ K' = [(0, checksG), (1, saysG), (s, saysO b), (e, seenO b)]) := by
 refine callK_in 27 hT Tryd.func26 fun Y hret => ?_
 refine au [4, 5, 21] ?_
 intro jb hjb
 refine au [2, 2, 2, 3, 4, 5, 8] ?_
 refine TK.cl rfl rfl rfl rfl (ask_ok hT (b := b) (s := s) (e := e) (t := true) hse hn hl rfl (fun hb => callFK_fn Cal.h (always_ok hT))) ?_
 rintro r1 K2 h3
 rcases h3 with ⟨hb0, rfl, rfl⟩ | ⟨jl, jm, om, hb0, hom, rfl, rfl⟩
 ·refine au [1, 10, 10, 22] ?_
  intro jx hjx
  refine au [17, 2, 3, 4, 4, 5, 1, 6, 3, 20] ?_
  refine ⟨fun hc0 => ?_, fun hc0 => ?_⟩
  ·
   refine au [4, 5, 1, 2, 2, 2, 3] ?_
   refine TK.rt hret [(0, _), (1, _), (s, _), (e, _)] ?_
   exact ⟨by unfold lendApi; rw [if_pos hb0]; rfl, rfl⟩
  exact absurd (by simpa using hc0) hb0
 ·refine au [1, 10, 10, 22] ?_
  intro jx hjx
  refine au [17, 2, 3, 4, 4, 5, 1, 6, 3, 20] ?_
  refine ⟨fun hc0 => ?_, fun hc0 => ?_⟩
  ·exact absurd hc0 (by decide)
  obtain ⟨hck, hth, hne⟩ := ask_zero hb0
  have hb := bkOk_of hck
  have hLo := statesM_ok hb
  have hLn := statesM_len hb
  refine au [12, 4, 5, 8, 7, 9, 28, 32, 8, 32] ?_
  refine TK.cl rfl rfl rfl rfl (halves_ok hT (b := b) (s := s) (e := e) (N := b.seekers.length) (p := fun k => !glassB b k) (f := fun k => rightsM b (statesM b) k) (Kt := [(jb, .cells (bookC b s e) 27 true), (1, saysG), (s, saysO b), (jl, listO (statesM b))]) hLn (by have := hb.ns; omega) (fun k hk => CallFK.frame (by repeat (first | exact Split.none _ | exact Split.all _ | (apply Split.rem; repeat (first | exact Rem.head | apply Rem.tail)) | apply Split.right)) (callFK_fn Cal.h (lend1_ok hT hk))) (fun k hk => CallFK.frame (by repeat (first | exact Split.none _ | exact Split.all _ | (apply Split.rem; repeat (first | exact Rem.head | apply Rem.tail)) | apply Split.right)) (callFK_fn Cal.h (rights_ok hT hb hLo hLn hk))) (fun k _ => by have := rightsM_le b (statesM b) k; omega)) ?_
  rintro r4 K5 ⟨rfl, rfl⟩
  refine au [1, 10, 10, 2, 2, 3, 4, 5, 1, 1, 2, 2, 2, 3] ?_
  refine TK.rt hret [(0, _), (1, _), (s, _), (e, _)] ?_
  exact ⟨by unfold lendApi; rw [if_neg (show ¬ (askM b true ≠ 0) by rw [hb0]; decide)]; rfl, rfl⟩
end Go.Vel
end
section
set_option linter.all false
set_option maxRecDepth 20000
set_option maxHeartbeats 60000000
namespace Go.Vel
open Go Go.Conc Go.Proofs

section
variable {P : Program} {gm : Nat → Option Nat} {T : Goroutine → Hp → Prop} {Y : KX P gm T} {ds : List Nat} {k : List Item} {env env' : List AV} {K K' K1 : KV} {ops : Array Oper} {i : Nat} {rest : List Nat} {o : Oper} {envf : Nat → List AV}
theorem Upd.same' {K K' : KV} {i j : Nat} {o o' : AObj} (h : Upd K i o j o' K') : i = j → o' = o → K' = K := by
 induction h with
 | head => intro hj e; rw [e, hj]
 | tail _ ih => intro hj e; rw [ih hj e]
theorem Upd.same {K K' : KV} {i : Nat} {o o' : AObj} (h : Upd K i o i o' K') (e : o' = o) : K' = K := h.same' rfl e
/-- Some are appended, perhaps none. -/
theorem TK.appG {s x : Operand} {t e : TypeId} {size bytes j n m : Nat} {lo ln : List AV} {u : AV} {K'' : Nat → KV} (ho : ops[i]? = some o) (hw : wantA ops env o = some true) (hop : o.op = .call { callee := .builtin .append, args := #[s, x], argTypes := #[t, t] }) (ht : apOf P t = some (e, size, bytes)) (hs : opndO gm env s = some (.row j n)) (hm : (j, .row lo e size) ∈ K) (hlo : lo.length = n * size) (hx : opndO gm env x = some u) (hl : lenA u = some m) (hsrc : 0 < m → srcO K size u m ln) (hln : m = 0 → ln = [])
  (hone : ln.all oneA = true) (hmax : n + m ≤ maxLen) (hbytes : (n + m) * bytes ≤ 140737488355328) (hu : ∀ j', Upd K j (.row lo e size) j' (.row (lo ++ ln) e size) (K'' j')) (he : ∀ j', putA env o.dst (.row j' (n + m)) = envf j') (h : ∀ j', TK Y ds (.inRegion ops rest :: k) (envf j') (K'' j')) : TK Y ds (.inRegion ops (i :: rest) :: k) env K := by
 rcases Nat.eq_zero_or_pos m with e0 | hpos
 ·subst e0
  have hk : K'' j = K := (hu j).same (by rw [hln rfl, List.append_nil])
  have ht' := ht
  unfold apOf at ht'
  split at ht'
  ·rename_i e' h1
   split at ht'
   ·rename_i ti h2
    refine TK.q (r := .row j n) ho (by rw [hop]; rfl) hw (q_app0 hop h1 h2 hs hx hl) (he j) ?_
    rw [← hk]; exact h j
   ·cases ht'
  ·cases ht'
 ·exact TK.appR ho (by rw [hop]; rfl) hw (a_app hop ht hs hm hlo hx (hsrc hpos) hpos hone hmax hbytes) hu he h
theorem TK.normK (he : K = K') (h : TK Y ds k env K') : TK Y ds k env K := he ▸ h
theorem TK.nd (h : (keys K).Nodup → TK Y ds k env K) : TK Y ds k env K := fun A hA => h hA.nd A hA
/-- A book's rows are frozen. -/
theorem TK.freezeBk (d : Nat) {a b c f : Value} {j1 n1 j2 n2 : Nat} {l1 l2 : List AV} {e1 s1 e2 s2 : Nat} (hd : env[d]? = some (.agg [.v a, .v b, .v c, .v f, .row j1 n1, .row j2 n2])) (hu1 : Upd K j1 (.row l1 e1 s1) j1 (.cells l1 e1 false) K1) (hu2 : Upd K1 j2 (.row l2 e2 s2) j2 (.cells l2 e2 false) K') (he : env.set d (.agg [.v a, .v b, .v c, .v f, .sl j1 0 n1, .sl j2 0 n2]) = env') (h : TK Y ds k env' K') : TK Y ds k env K := by
 have hlt : d < env.length := (List.getElem?_eq_some_iff.1 hd).1
 refine TK.freeze d hd hu1 rfl ?_
 refine TK.freeze d (List.getElem?_set_self hlt) hu2 (env' := env') ?_ h
 rw [← he, List.set_set]
 congr 1
 by_cases h : j2 = j1
 ·subst h; simp [unrow1, unrow]
 ·simp [unrow1, unrow, h]
end
theorem take_full {l : List AV} {e : TypeId} {rw' : Bool} {n size : Nat} (hl : l.length = n * size) (h : 0 < n * size) : takeO (.cells l e rw') 0 (n * size) = some l := by
 simp only [takeO, AObj.look, Nat.zero_add, List.drop_zero]
 rw [if_pos ⟨h, by omega⟩, ← hl, List.take_length]
theorem flat_all {α : Type} (f : α → List AV) (h : ∀ x, (f x).all oneA = true) (xs : List α) : (xs.flatMap f).all oneA = true := by
 induction xs with
 | nil => rfl
 | cons x xs ih => rw [List.flatMap_cons, List.all_append, h, ih]; rfl
def ownC (b : Bk) (j1 j2 : Nat) : List AV := [intA b.steps, intA b.wrong, intA b.low, intA b.high, .row j1 b.seekers.length, .row j2 b.seen.length]
def hearB (b : Bk) (x : Says) : Bk := { b with seekers := b.seekers ++ [x] }
def lookB (b : Bk) (x : Seen) : Bk := { b with seen := b.seen ++ [x] }
def giveB (b : Bk) (k : Nat) : Bk := { b with seekers := b.seekers.modify k fun x => { x with glass := true } }
theorem set_glass : ∀ (xs : List Says) (k : Nat), k < xs.length → (xs.flatMap saysC).set (k * 5 + 4) (boolA true) = (xs.modify k fun x => { x with glass := true }).flatMap saysC
 | x :: xs, 0, _ => rfl
 | x :: xs, k + 1, h => by
  rw [List.modify_succ_cons, List.flatMap_cons, List.flatMap_cons, ← set_glass xs k (by simpa using h), show (k + 1) * 5 + 4 = (k * 5 + 4) + 5 by omega]
  rfl
theorem put_glass {b : Bk} {k : Nat} (hk : k < b.seekers.length) : putO (.row (b.seekers.flatMap saysC) 45 5) ((k : Int).toNat * 5 + 4) [boolA true] = some (.row ((giveB b k).seekers.flatMap saysC) 45 5) := by
 have hl := flat_len saysC 5 (fun _ => rfl) b.seekers
 have hle : (k + 1) * 5 ≤ b.seekers.length * 5 := Nat.mul_le_mul_right _ hk
 unfold putO
 dsimp only
 rw [if_pos ⟨by rw [hl]; simp; omega, by simp, rfl⟩]
 show some (AObj.row ((b.seekers.flatMap saysC).set ((k : Int).toNat * 5 + 4) (boolA true)) _ _) = _
 rw [Int.toNat_natCast, set_glass _ _ hk]; rfl
def newsM (b o : Bk) : Int := if checkM b ≠ 0 then checkM b else askM o true
def giveM (b : Bk) (k : Int) : Int := if checkM b ≠ 0 then checkM b else if isSeekerM b k = false then 6 else if glassB b k.toNat = true then 5 else askM (giveB b k.toNat) true
theorem hear_seekers (b : Bk) (x : Says) : (hearB b x).seekers.flatMap saysC = b.seekers.flatMap saysC ++ saysC x := by simp [hearB]
theorem look_seen (b : Bk) (x : Seen) : (lookB b x).seen.flatMap seenC = b.seen.flatMap seenC ++ seenC x := by simp [lookB]
theorem hear_len (b : Bk) (x : Says) : b.seekers.length + 1 = (hearB b x).seekers.length := by simp [hearB]
theorem look_len (b : Bk) (x : Seen) : b.seen.length + 1 = (lookB b x).seen.length := by simp [lookB]
theorem give_len (b : Bk) (k : Nat) : b.seekers.length = (giveB b k).seekers.length := by simp [giveB]
theorem give_names {b : Bk} {k : Nat} (hn : ∀ x ∈ b.seekers, x.name.size ≤ 1000) : ∀ x ∈ (giveB b k).seekers, x.name.size ≤ 1000 := fun x hx => by
 obtain ⟨i, hi⟩ := List.mem_iff_getElem?.1 hx
 unfold giveB at hi
 simp only [List.getElem?_modify] at hi
 cases e : b.seekers[i]? with
 | none => rw [e] at hi; cases hi
 | some y =>
  rw [e] at hi
  have hy := hn y (List.mem_of_getElem? e)
  simp only [Option.map_eq_map, Option.map_some, Option.some.injEq] at hi
  subst hi
  split <;> exact hy
theorem hear_names {b : Bk} {x : Says} (hn : ∀ x ∈ b.seekers, x.name.size ≤ 1000) (hx : x.name.size ≤ 1000) : ∀ y ∈ (hearB b x).seekers, y.name.size ≤ 1000 := fun y hy => by
 rcases List.mem_append.1 hy with h | h
 ·exact hn y h
 ·rw [List.mem_singleton.1 h]; exact hx


theorem agreed_ok {main : Bool} {T : Goroutine → Hp → Prop} (hT : Shut Tryd.prog main T)  {b : Bk} {s e : Nat} (hse : s ≠ e) (hn : ∀ x ∈ b.seekers, x.name.size ≤ 1000) (hl : b.seen.length ≤ 1000) :
  CallK Tryd.prog T gmS 68 [.agg (bookC b s e)] [(0, checksG), (1, saysG), (s, saysO b), (e, seenO b)] (fun r K' => ((askM b true ≠ 0 ∧ r = .tup [.agg zeroBk, intA (askM b true)]) ∨ (askM b true = 0 ∧ r = .tup [.agg (bookC b s e), intA 0])) ∧ K' = [(0, checksG), (1, saysG), (s, saysO b), (e, seenO b)]) := by
 refine callK_in 16 hT Tryd.func68 fun Y hret => ?_
 refine au [4, 5, 21] ?_
 intro j1 hj1
 refine au [22] ?_
 intro j2 hj2
 refine au [2, 3, 4, 4, 5, 8] ?_
 refine TK.cl rfl rfl rfl rfl (ask_ok hT (b := b) (s := s) (e := e) (t := true) hse hn hl rfl (fun hb => callFK_fn Cal.h (always_ok hT))) ?_
 rintro r3 K4 h5
 rcases h5 with ⟨hb0, rfl, rfl⟩ | ⟨jl, jm, om, hb0, hom, rfl, rfl⟩
 ·refine au [1, 10, 10, 22] ?_
  intro j6 hj6
  refine au [17, 2, 3, 4, 5, 1, 6, 3, 20] ?_
  refine ⟨fun hc0 => ?_, fun hc0 => ?_⟩
  ·
   refine au [4, 5, 43, 1, 17, 2, 3] ?_
   refine TK.rt hret [(0, _), (1, _), (s, _), (e, _)] ?_
   exact ⟨.inl ⟨hb0, rfl⟩, rfl⟩
  exact absurd (by simpa using hc0) hb0
 ·refine au [1, 10, 10, 22] ?_
  intro j7 hj7
  refine au [17, 2, 3, 4, 5, 1, 6, 3, 20] ?_
  refine ⟨fun hc0 => ?_, fun hc0 => ?_⟩
  ·exact absurd hc0 (by decide)
  obtain ⟨hck, hth, hne⟩ := ask_zero hb0
  have hb := bkOk_of hck
  have hLo := statesM_ok hb
  have hLn := statesM_len hb
  refine au [12, 4, 5, 8, 17, 2, 3] ?_
  refine TK.rt hret [(0, _), (1, _), (s, _), (e, _)] ?_
  exact ⟨.inr ⟨hb0, rfl⟩, rfl⟩

theorem cloneSays_ok {main : Bool} {T : Goroutine → Hp → Prop} (hT : Shut Tryd.prog main T) {gm : Nat → Option Nat} {j n : Nat} {l : List AV} {rw' : Bool} (hl : l.length = n * 5) (hone : l.all oneA = true) (hn : n ≤ 100000) :
  CallK Tryd.prog T gm 78 [.sl j 0 n] [(j, .cells l 45 rw')] (fun r K' => ∃ j2, r = .row j2 n ∧ K' = [(j, .cells l 45 rw'), (j2, .row l 45 5)]) := by
 refine callK_in 8 hT Tryd.func78 fun Y hret => ?_
 refine au [4, 5, 2, 3, 4, 4, 5, 1] ?_
 refine TK.nilT rfl rfl rfl rfl Und.h fun tz hz => ?_
 refine au [3, 20] ?_
 refine ⟨fun hc0 => ?_, fun hc0 => ?_⟩
 ·refine au [4, 5, 2] ?_
  refine TK.virt 2 45 5 rfl fun j0 hj0 => ?_
  refine au [3] ?_
  refine TK.rt hret [(j, _), (j0, _)] ?_
  obtain rfl := hz hc0
  obtain rfl := List.eq_nil_of_length_eq_zero (by simpa using hl)
  exact ⟨_, rfl, rfl⟩
 refine au [12, 4, 5] ?_
 refine TK.newR rfl rfl rfl (n_buildSlice (l := []) rfl SlEl.h TyZ.h (by decide) (by decide) rfl) (fun _ => putS rfl (by simp only [List.set]; rfl)) fun j1 hj1 => ?_
 refine au [1] ?_
 refine TK.appG (envf := fun _ => [_, _, _, _, _, _, _, _]) (ln := l) rfl rfl rfl ApOf.h rfl (by repeat (first | exact List.Mem.head _ | assumption | apply List.Mem.tail)) rfl rfl rfl (fun hp => src_sl (by repeat (first | exact List.Mem.head _ | assumption | apply List.Mem.tail)) (by omega) (take_full hl (by omega))) (fun h => by subst h; exact List.eq_nil_of_length_eq_zero (by simpa using hl)) hone (by unfold maxLen; omega) (by omega) (fun _ => (by repeat (first | exact Upd.head | apply Upd.tail))) (fun _ => rfl) fun j2 => ?_
 simp only [List.nil_append, Nat.zero_add]
 refine au [2, 3] ?_
 refine TK.rt hret [(j, _), (j2, _)] ?_
 exact ⟨_, rfl, rfl⟩

theorem cloneSeen_ok {main : Bool} {T : Goroutine → Hp → Prop} (hT : Shut Tryd.prog main T) {gm : Nat → Option Nat} {j n : Nat} {l : List AV} {rw' : Bool} (hl : l.length = n * 2) (hone : l.all oneA = true) (hn : n ≤ 100000) :
  CallK Tryd.prog T gm 79 [.sl j 0 n] [(j, .cells l 47 rw')] (fun r K' => ∃ j2, r = .row j2 n ∧ K' = [(j, .cells l 47 rw'), (j2, .row l 47 2)]) := by
 refine callK_in 8 hT Tryd.func79 fun Y hret => ?_
 refine au [4, 5, 2, 3, 4, 4, 5, 1] ?_
 refine TK.nilT rfl rfl rfl rfl Und.h fun tz hz => ?_
 refine au [3, 20] ?_
 refine ⟨fun hc0 => ?_, fun hc0 => ?_⟩
 ·refine au [4, 5, 2] ?_
  refine TK.virt 2 47 2 rfl fun j0 hj0 => ?_
  refine au [3] ?_
  refine TK.rt hret [(j, _), (j0, _)] ?_
  obtain rfl := hz hc0
  obtain rfl := List.eq_nil_of_length_eq_zero (by simpa using hl)
  exact ⟨_, rfl, rfl⟩
 refine au [12, 4, 5] ?_
 refine TK.newR rfl rfl rfl (n_buildSlice (l := []) rfl SlEl.h TyZ.h (by decide) (by decide) rfl) (fun _ => putS rfl (by simp only [List.set]; rfl)) fun j1 hj1 => ?_
 refine au [1] ?_
 refine TK.appG (envf := fun _ => [_, _, _, _, _, _, _, _]) (ln := l) rfl rfl rfl ApOf.h rfl (by repeat (first | exact List.Mem.head _ | assumption | apply List.Mem.tail)) rfl rfl rfl (fun hp => src_sl (by repeat (first | exact List.Mem.head _ | assumption | apply List.Mem.tail)) (by omega) (take_full hl (by omega))) (fun h => by subst h; exact List.eq_nil_of_length_eq_zero (by simpa using hl)) hone (by unfold maxLen; omega) (by omega) (fun _ => (by repeat (first | exact Upd.head | apply Upd.tail))) (fun _ => rfl) fun j2 => ?_
 simp only [List.nil_append, Nat.zero_add]
 refine au [2, 3] ?_
 refine TK.rt hret [(j, _), (j2, _)] ?_
 exact ⟨_, rfl, rfl⟩

theorem own_ok {main : Bool} {T : Goroutine → Hp → Prop} (hT : Shut Tryd.prog main T) {gm : Nat → Option Nat} {b : Bk} {s e : Nat} (hs5 : b.seekers.length ≤ 1000) (he5 : b.seen.length ≤ 1000) :
  CallK Tryd.prog T gm 67 [.agg (bookC b s e)] [(s, saysO b), (e, seenO b)] (fun r K' => ∃ j1 j2, r = .agg (ownC b j1 j2) ∧ K' = [(s, saysO b), (e, seenO b), (j1, .row (b.seekers.flatMap saysC) 45 5), (j2, .row (b.seen.flatMap seenC) 47 2)]) := by
 refine callK_in 12 hT Tryd.func67 fun Y hret => ?_
 refine au [4, 5, 21] ?_
 intro jb hjb
 refine au [22] ?_
 intro jr hjr
 refine au [3, 4] ?_
 refine TK.draw [0, 1, 3, 4, 2, 6, 5, 7, 8, 9] [0, 1, 2, 3, 4, 5, 6, 7, 8, 9] (by kernel_rfl) (by kernel_rfl) ?_
 refine TD.z [1] rfl (q_fieldAddr rfl rfl FldOf.h (by decide)) ?_
 refine TD.y [3] rfl (hq := q_load1 rfl rfl TySz.h (List.Mem.head _) rfl) (h := ?_)
 refine TD.z [1] rfl (q_fieldAddr rfl rfl FldOf.h (by decide)) ?_
 refine TD.y [6] rfl (hq := q_load1 rfl rfl TySz.h (List.Mem.head _) rfl) (h := ?_)
 refine TD.cl (pend' := [⟨4, [6], [(_, _)]⟩, ⟨3, [1], []⟩, ⟨0, [1], []⟩]) [4] rfl rfl rfl rfl rfl (cloneSays_ok hT (flat_len saysC 5 (fun _ => rfl) b.seekers) (flat_all saysC (fun _ => rfl) _) (by omega)) (fun r1 K2 h3 => ⟨?_, ?_⟩)
 ·rcases h3 with ⟨j1, rfl, rfl⟩
  all_goals simp
 obtain ⟨j1, rfl, rfl⟩ := h3
 try simp only [List.cons_append, List.nil_append]
 refine TD.norm (by simp only [List.set]; rfl) ?_
 refine TD.z [1] rfl (q_fieldAddr rfl rfl FldOf.h (by decide)) ?_
 refine TD.cl (pend' := [⟨6, [1], []⟩, ⟨3, [1], []⟩, ⟨0, [1], []⟩]) [7] rfl rfl rfl rfl rfl (cloneSeen_ok hT (flat_len seenC 2 (fun _ => rfl) b.seen) (flat_all seenC (fun _ => rfl) _) (by omega)) (fun r4 K5 h6 => ⟨?_, ?_⟩)
 ·rcases h6 with ⟨j2, rfl, rfl⟩
  all_goals simp
 obtain ⟨j2, rfl, rfl⟩ := h6
 try simp only [List.cons_append, List.nil_append]
 refine TD.norm (by simp only [List.set]; rfl) ?_
 refine TD.s (pend' := []) [5, 9] rfl rfl (q_store rfl rfl TySz.h rfl rfl (by repeat (first | exact List.Mem.head _ | assumption | apply List.Mem.tail)) rfl) ?_
 refine TD.z [1] rfl (q_fieldAddr rfl rfl FldOf.h (by decide)) ?_
 refine TD.s (pend' := []) [8, 10] rfl rfl (q_store rfl rfl TySz.h rfl rfl (by repeat (first | exact List.Mem.head _ | assumption | apply List.Mem.tail)) rfl) ?_
 refine TD.fin ?_
 refine au [4, 5, 8, 17, 3] ?_
 refine TK.rt hret [(s, _), (e, _), (j1, _), (j2, _)] ?_
 exact ⟨j1, j2, rfl, rfl⟩

theorem hear_ok {main : Bool} {T : Goroutine → Hp → Prop} (hT : Shut Tryd.prog main T)  {b : Bk} {s e : Nat} {x : Says} (hse : s ≠ e) (hn : ∀ x ∈ b.seekers, x.name.size ≤ 1000) (hl : b.seen.length ≤ 1000) (hx : x.name.size ≤ 1000) :
  CallK Tryd.prog T gmS 29 [.agg (bookC b s e), .agg (saysC x)] [(0, checksG), (1, saysG), (s, saysO b), (e, seenO b)] (fun r K' => (newsM b (hearB b x) ≠ 0 ∧ r = .tup [.agg zeroBk, intA (newsM b (hearB b x))] ∧ K' = [(0, checksG), (1, saysG), (s, saysO b), (e, seenO b)]) ∨ (newsM b (hearB b x) = 0 ∧ ∃ j3 j2, r = .tup [.agg (bookC (hearB b x) j3 j2), intA 0] ∧ K' = [(0, checksG), (1, saysG), (s, saysO b), (e, seenO b), (j3, saysO (hearB b x)), (j2, seenO (hearB b x))])) := by
 refine callK_in 26 hT Tryd.func29 fun Y hret => ?_
 refine au [4, 5, 21] ?_
 intro j1 hj1
 refine au [21] ?_
 intro j2 hj2
 refine au [22] ?_
 intro jr hjr
 refine au [2, 3, 4, 4, 5, 8] ?_
 refine TK.cl rfl rfl rfl rfl (check_ok hT (b := b) (s := s) (e := e) hn hl) ?_
 rintro r3 K4 ⟨rfl, rfl⟩
 refine au [2, 3, 4, 5, 1, 6, 3, 20] ?_
 refine ⟨fun hc0 => ?_, fun hc0 => ?_⟩
 ·refine au [4, 5, 43, 1, 17, 2, 3] ?_
  refine TK.rt hret [(0, _), (1, _), (s, _), (e, _)] ?_
  have ha : newsM b (hearB b x) = checkM b := if_pos (by simpa using hc0)
  exact .inl ⟨by rw [ha]; simpa using hc0, by rw [ha]; rfl, rfl⟩
 have hb := bkOk_of (b := b) (by simpa using hc0)
 refine au [12, 4, 5, 8] ?_
 refine TK.cl rfl rfl rfl rfl (own_ok hT (by have := hb.ns; omega) (by have := hb.ne; omega)) ?_
 rintro r6 K7 ⟨j1, j2, rfl, rfl⟩
 refine au [22] ?_
 intro jo hjo
 refine au [17, 3, 4, 5, 7, 9, 8] ?_
 refine TK.newR rfl rfl rfl (n_buildSlice (l := [_, _, _, _, _]) rfl SlEl.h TyZ.h (by decide) (by decide) rfl) (fun _ => putS rfl (by simp only [List.set]; rfl)) fun j9 hj9 => ?_
 refine TK.appR rfl rfl rfl (a_app rfl ApOf.h rfl (by repeat (first | exact List.Mem.head _ | assumption | apply List.Mem.tail)) (flat_len saysC 5 (fun _ => rfl) _) rfl (src_row (ln := [_, _, _, _, _]) (by repeat (first | exact List.Mem.head _ | assumption | apply List.Mem.tail)) (by decide) (by simp) rfl) (by omega) rfl (by have := hb.ns; unfold maxLen; omega) (by have := hb.ns; omega)) (fun _ => (by repeat (first | exact Upd.head | apply Upd.tail))) (fun _ => putS rfl (by simp only [List.set]; rfl)) fun j3 => ?_
 refine au [7, 17, 3, 4, 5, 8] ?_
 refine TK.freezeBk 22 rfl (by repeat (first | exact Upd.head | apply Upd.tail)) (by repeat (first | exact Upd.head | apply Upd.tail)) rfl ?_
 refine TK.kp [(j3, _), (j2, _), (0, _), (1, _), (s, _), (e, _), (jr, _)] ?_
 refine TK.normK (K' := [(j3, saysO (hearB b x)), (j2, seenO (hearB b x)), (0, _), (1, _), (s, _), (e, _), (jr, _)]) (by unfold saysO; rw [hear_seekers]; rfl) ?_
 rw [hear_len b x]
 refine au [] ?_
 refine TK.nd fun hnd => ?_
 have hjj : j3 ≠ j2 := fun h => by subst h; simp [keys] at hnd
 refine TK.cl rfl rfl rfl rfl (agreed_ok hT (b := hearB b x) (s := j3) (e := j2) hjj (hear_names hn hx) (hl)) ?_
 rintro r10 K11 h12
 rcases h12 with ⟨⟨hb0, rfl⟩ | ⟨hb0, rfl⟩, rfl⟩
 ·refine au [10, 10, 17, 2, 3] ?_
  refine TK.rt hret [(0, _), (1, _), (s, _), (e, _)] ?_
  have ha : newsM b (hearB b x) = askM (hearB b x) true := if_neg (by simpa using hc0)
  exact .inl ⟨by rw [ha]; exact hb0, by rw [ha]; rfl, rfl⟩
 ·refine au [10, 10, 17, 2, 3] ?_
  refine TK.rt hret [(0, _), (1, _), (s, _), (e, _), (j3, _), (j2, _)] ?_
  have ha : newsM b (hearB b x) = askM (hearB b x) true := if_neg (by simpa using hc0)
  exact .inr ⟨by rw [ha]; exact hb0, j3, j2, rfl, rfl⟩

theorem look_ok {main : Bool} {T : Goroutine → Hp → Prop} (hT : Shut Tryd.prog main T)  {b : Bk} {s e : Nat} {n : Int} {sm : Bool} (hse : s ≠ e) (hn : ∀ x ∈ b.seekers, x.name.size ≤ 1000) (hl : b.seen.length ≤ 1000) :
  CallK Tryd.prog T gmS 28 [.agg (bookC b s e), intA n, boolA sm] [(0, checksG), (1, saysG), (s, saysO b), (e, seenO b)] (fun r K' => (newsM b (lookB b ⟨n, sm⟩) ≠ 0 ∧ r = .tup [.agg zeroBk, intA (newsM b (lookB b ⟨n, sm⟩))] ∧ K' = [(0, checksG), (1, saysG), (s, saysO b), (e, seenO b)]) ∨ (newsM b (lookB b ⟨n, sm⟩) = 0 ∧ ∃ j3 j2, r = .tup [.agg (bookC (lookB b ⟨n, sm⟩) j3 j2), intA 0] ∧ K' = [(0, checksG), (1, saysG), (s, saysO b), (e, seenO b), (j3, saysO (lookB b ⟨n, sm⟩)), (j2, seenO (lookB b ⟨n, sm⟩))])) := by
 refine callK_in 30 hT Tryd.func28 fun Y hret => ?_
 refine au [4, 5, 21] ?_
 intro j1 hj1
 refine au [22] ?_
 intro jr hjr
 refine au [2, 3, 4, 4, 5, 8] ?_
 refine TK.cl rfl rfl rfl rfl (check_ok hT (b := b) (s := s) (e := e) hn hl) ?_
 rintro r2 K3 ⟨rfl, rfl⟩
 refine au [2, 3, 4, 5, 1, 6, 3, 20] ?_
 refine ⟨fun hc0 => ?_, fun hc0 => ?_⟩
 ·refine au [4, 5, 43, 1, 17, 2, 3] ?_
  refine TK.rt hret [(0, _), (1, _), (s, _), (e, _)] ?_
  have ha : newsM b (lookB b ⟨n, sm⟩) = checkM b := if_pos (by simpa using hc0)
  exact .inl ⟨by rw [ha]; simpa using hc0, by rw [ha]; rfl, rfl⟩
 have hb := bkOk_of (b := b) (by simpa using hc0)
 refine au [12, 4, 5, 8] ?_
 refine TK.cl rfl rfl rfl rfl (own_ok hT (by have := hb.ns; omega) (by have := hb.ne; omega)) ?_
 rintro r5 K6 ⟨j1, j2, rfl, rfl⟩
 refine au [22] ?_
 intro jo hjo
 refine au [17, 3, 4, 5, 7, 9, 1, 1, 39] ?_
 refine TK.newR rfl rfl rfl (n_buildSlice (l := [_, _]) rfl SlEl.h TyZ.h (by decide) (by decide) rfl) (fun _ => putS rfl (by simp only [List.set]; rfl)) fun j8 hj8 => ?_
 refine TK.appR rfl rfl rfl (a_app rfl ApOf.h rfl (by repeat (first | exact List.Mem.head _ | assumption | apply List.Mem.tail)) (flat_len seenC 2 (fun _ => rfl) _) rfl (src_row (ln := [_, _]) (by repeat (first | exact List.Mem.head _ | assumption | apply List.Mem.tail)) (by decide) (by simp) rfl) (by omega) rfl (by have := hb.ne; unfold maxLen; omega) (by have := hb.ne; omega)) (fun _ => (by repeat (first | exact Upd.head | apply Upd.tail))) (fun _ => putS rfl (by simp only [List.set]; rfl)) fun j3 => ?_
 refine au [7, 17, 3, 4, 5, 8] ?_
 refine TK.freezeBk 26 rfl (by repeat (first | exact Upd.head | apply Upd.tail)) (by repeat (first | exact Upd.head | apply Upd.tail)) rfl ?_
 refine TK.kp [(j1, _), (j3, _), (0, _), (1, _), (s, _), (e, _), (jr, _)] ?_
 refine TK.normK (K' := [(j1, saysO (lookB b ⟨n, sm⟩)), (j3, seenO (lookB b ⟨n, sm⟩)), (0, _), (1, _), (s, _), (e, _), (jr, _)]) (by unfold seenO; rw [look_seen]; rfl) ?_
 rw [look_len b ⟨n, sm⟩]
 refine au [] ?_
 refine TK.nd fun hnd => ?_
 have hjj : j1 ≠ j3 := fun h => by subst h; simp [keys] at hnd
 refine TK.cl rfl rfl rfl rfl (agreed_ok hT (b := lookB b ⟨n, sm⟩) (s := j1) (e := j3) hjj (hn) (by have := hb.ne; simp [lookB]; omega)) ?_
 rintro r9 K10 h11
 rcases h11 with ⟨⟨hb0, rfl⟩ | ⟨hb0, rfl⟩, rfl⟩
 ·refine au [10, 10, 17, 2, 3] ?_
  refine TK.rt hret [(0, _), (1, _), (s, _), (e, _)] ?_
  have ha : newsM b (lookB b ⟨n, sm⟩) = askM (lookB b ⟨n, sm⟩) true := if_neg (by simpa using hc0)
  exact .inl ⟨by rw [ha]; exact hb0, by rw [ha]; rfl, rfl⟩
 ·refine au [10, 10, 17, 2, 3] ?_
  refine TK.rt hret [(0, _), (1, _), (s, _), (e, _), (j1, _), (j3, _)] ?_
  have ha : newsM b (lookB b ⟨n, sm⟩) = askM (lookB b ⟨n, sm⟩) true := if_neg (by simpa using hc0)
  exact .inr ⟨by rw [ha]; exact hb0, j1, j3, rfl, rfl⟩

theorem give_ok {main : Bool} {T : Goroutine → Hp → Prop} (hT : Shut Tryd.prog main T)  {b : Bk} {s e : Nat} {n : Int} (hse : s ≠ e) (hn : ∀ x ∈ b.seekers, x.name.size ≤ 1000) (hl : b.seen.length ≤ 1000) :
  CallK Tryd.prog T gmS 27 [.agg (bookC b s e), intA n] [(0, checksG), (1, saysG), (s, saysO b), (e, seenO b)] (fun r K' => (giveM b n ≠ 0 ∧ r = .tup [.agg zeroBk, intA (giveM b n)] ∧ K' = [(0, checksG), (1, saysG), (s, saysO b), (e, seenO b)]) ∨ (giveM b n = 0 ∧ ∃ j3 j2, r = .tup [.agg (bookC (giveB b n.toNat) j3 j2), intA 0] ∧ K' = [(0, checksG), (1, saysG), (s, saysO b), (e, seenO b), (j3, saysO (giveB b n.toNat)), (j2, seenO (giveB b n.toNat))])) := by
 refine callK_in 40 hT Tryd.func27 fun Y hret => ?_
 refine au [4, 5, 21] ?_
 intro jb hjb
 refine au [22] ?_
 intro jr hjr
 refine au [2, 3, 4, 4, 5, 8] ?_
 refine TK.cl rfl rfl rfl rfl (check_ok hT (b := b) (s := s) (e := e) hn hl) ?_
 rintro r1 K2 ⟨rfl, rfl⟩
 refine au [2, 3, 4, 5, 1, 6, 3, 20] ?_
 refine ⟨fun hc0 => ?_, fun hc0 => ?_⟩
 ·refine au [4, 5, 43, 1, 17, 2, 3] ?_
  refine TK.rt hret [(0, _), (1, _), (s, _), (e, _)] ?_
  have ha : giveM b n = checkM b := if_pos (by simpa using hc0)
  exact .inl ⟨by rw [ha]; simpa using hc0, by rw [ha]; rfl, rfl⟩
 have hb := bkOk_of (b := b) (by simpa using hc0)
 refine au [12, 4, 13, 4, 5, 8, 43, 1] ?_
 refine TK.cl rfl rfl rfl rfl (isSeeker_ok hT (b := b) (s := s) (e := e) (by have := hb.ns; omega)) ?_
 rintro r4 K5 ⟨rfl, rfl⟩
 refine au [30, 2, 3, 20] ?_
 refine ⟨fun hc1 => ?_, fun hc1 => ?_⟩
 ·refine au [4, 5, 43, 17, 2, 3] ?_
  refine TK.rt hret [(0, _), (1, _), (s, _), (e, _)] ?_
  have ha : giveM b n = 6 := by unfold giveM; rw [if_neg (by simpa using hc0), if_pos (by simpa using hc1)]
  exact .inl ⟨by rw [ha]; decide, by rw [ha]; rfl, rfl⟩
 have hk0 : isSeekerM b n = true := by simpa using hc1
 obtain ⟨k, rfl⟩ : ∃ k : Nat, n = k := ⟨n.toNat, by simp only [isSeekerM, Bool.and_eq_true, decide_eq_true_eq] at hk0; omega⟩
 have hk : k < b.seekers.length := by simp only [isSeekerM, Bool.and_eq_true, decide_eq_true_eq] at hk0; omega
 refine au [4, 5, 7, 9, 1, 36, 7] ?_
 refine TK.a rfl (q_load1 rfl rfl TySz.h (by repeat (first | exact List.Mem.head _ | assumption | apply List.Mem.tail)) (says_glass hk)) ?_
 refine au [2, 3, 20] ?_
 refine ⟨fun hc2 => ?_, fun hc2 => ?_⟩
 ·refine au [4, 5, 43, 17, 2, 3] ?_
  refine TK.rt hret [(0, _), (1, _), (s, _), (e, _)] ?_
  have ha : giveM b (k : Int) = 5 := by unfold giveM; rw [if_neg (by simpa using hc0), hk0, if_neg (by decide), Int.toNat_natCast, hc2, if_pos rfl]
  exact .inl ⟨by rw [ha]; decide, by rw [ha]; rfl, rfl⟩
 refine au [12, 14, 4, 5, 8] ?_
 refine TK.cl rfl rfl rfl rfl (own_ok hT (by have := hb.ns; omega) (by have := hb.ne; omega)) ?_
 rintro r7 K8 ⟨j1, j2, rfl, rfl⟩
 refine au [22] ?_
 intro jo hjo
 refine au [17, 3, 4, 5, 7, 9, 1, 37, 7] ?_
 refine TK.st rfl rfl rfl (q_store rfl rfl TySz.h rfl rfl (by repeat (first | exact List.Mem.head _ | assumption | apply List.Mem.tail)) (put_glass hk)) (by repeat (first | exact Upd.head | apply Upd.tail)) (putN rfl) ?_
 refine au [3, 4, 5, 8] ?_
 refine TK.freezeBk 36 rfl (by repeat (first | exact Upd.head | apply Upd.tail)) (by repeat (first | exact Upd.head | apply Upd.tail)) rfl ?_
 refine TK.kp [(j1, _), (j2, _), (0, _), (1, _), (s, _), (e, _), (jr, _)] ?_
 refine TK.normK (K' := [(j1, saysO (giveB b k)), (j2, seenO (giveB b k)), (0, _), (1, _), (s, _), (e, _), (jr, _)]) (by rfl) ?_
 rw [give_len b k]
 refine au [] ?_
 refine TK.nd fun hnd => ?_
 have hjj : j1 ≠ j2 := fun h => by subst h; simp [keys] at hnd
 refine TK.cl rfl rfl rfl rfl (agreed_ok hT (b := giveB b k) (s := j1) (e := j2) hjj (give_names hn) (hl)) ?_
 rintro r10 K11 h12
 rcases h12 with ⟨⟨hb0, rfl⟩ | ⟨hb0, rfl⟩, rfl⟩
 ·refine au [10, 10, 17, 2, 3] ?_
  refine TK.rt hret [(0, _), (1, _), (s, _), (e, _)] ?_
  have ha : giveM b (k : Int) = askM (giveB b k) true := by unfold giveM; rw [if_neg (by simpa using hc0), hk0, if_neg (by decide), Int.toNat_natCast, hc2, if_neg (by decide)]
  exact .inl ⟨by rw [ha]; exact hb0, by rw [ha]; rfl, rfl⟩
 ·refine au [10, 10, 17, 2, 3] ?_
  refine TK.rt hret [(0, _), (1, _), (s, _), (e, _), (j1, _), (j2, _)] ?_
  have ha : giveM b (k : Int) = askM (giveB b k) true := by unfold giveM; rw [if_neg (by simpa using hc0), hk0, if_neg (by decide), Int.toNat_natCast, hc2, if_neg (by decide)]
  exact .inr ⟨by rw [ha]; exact hb0, j1, j2, rfl, rfl⟩
end Go.Vel
end
