/- SeekerRights: the law answers true. Part 9 of 11. It holds of every program, tape and world that the statements name, as each theorem says. -/
import Derived.Conc.DeferLaws
import Derived.Test.YtmojepgodbadmaaGreatDoorW2
import Derived.Test.YtmojepgodbadmaaGreatDoorW4
import Derived.Test.YtmojepgodbadmaaGreatDoorW7
section
set_option linter.all false
namespace Go.Vel
open Go Go.Conc Go.Proofs

theorem right_says {b : Bk} {S : List Int} {i : Nat} {x : Says} (hx : b.seekers[i]? = some x) : rightM b S i = saysM x.says (inM b S x.frm (wideM b x)) := by unfold rightM; rw [hx]
theorem prev_at {ob : AObj} {off : Nat} {xs : List Int} (hI : IntsAt ob off xs) {i : Nat} (hi : i < xs.length) (h0 : 0 < i) : takeO ob (off + ((i : Int) - 1).toNat * 1) 1 = some [intA xs[i - 1]] := by
  have h := hI (i - 1) (by omega)
  rw [show ((i - 1 : Nat) : Int).toNat = ((i : Int) - 1).toNat by omega] at h
  exact h
theorem bar_six {b : Bk} {xs : List Int} {i : Nat} {x : Int} (hx : xs[i]? = some x) (h : (!isStepM b x) = true) : barH b xs i = 6 := by unfold barH; rw [hx]; dsimp only; rw [if_pos h]
theorem bar_seven {b : Bk} {xs : List Int} {i : Nat} {x : Int} (hx : xs[i]? = some x) (h : (!isStepM b x) = false) (h1 : decide ((i : Int) > 0) = true) (h2 : decide (x ≤ (xs[i - 1]?).getD 0) = true) : barH b xs i = 7 := by
  unfold barH; rw [hx]; dsimp only; rw [if_neg (by rw [h]; decide), if_pos (by rw [h1, h2]; rfl)]
theorem bar_zero {b : Bk} {xs : List Int} {i : Nat} {x : Int} (hx : xs[i]? = some x) (h : (!isStepM b x) = false) (h1 : decide ((i : Int) > 0) = true) (h2 : decide (x ≤ (xs[i - 1]?).getD 0) = false) : barH b xs i = 0 := by
  unfold barH; rw [hx]; dsimp only; rw [if_neg (by rw [h]; decide), if_neg (by rw [h1, h2]; decide)]
theorem bar_first {b : Bk} {xs : List Int} {i : Nat} {x : Int} (hx : xs[i]? = some x) (h : (!isStepM b x) = false) (h1 : decide ((i : Int) > 0) = false) : barH b xs i = 0 := by
  unfold barH; rw [hx]; dsimp only; rw [if_neg (by rw [h]; decide), if_neg (by rw [h1]; simp)]
theorem bars_next {b : Bk} {xs : List Int} {i : Nat} (h0 : firstNZ (barH b xs) i = 0) (h : barH b xs i = 0) : firstNZ (barH b xs) (i + 1) = 0 := by unfold firstNZ; rw [if_pos h0, h]
theorem glass_of {b : Bk} {i : Nat} {x : Says} (hx : b.seekers[i]? = some x) : glassM b i = x.glass := by unfold glassM; rw [hx]
theorem take_next {xs ys : List Int} {i : Nat} (h : i < xs.length) (h2 : i < ys.length) (ht : xs.take i = ys.take i) (he : xs[i] = ys[i]) : xs.take (i + 1) = ys.take (i + 1) := by
  rw [List.take_add_one, List.take_add_one, List.getElem?_eq_getElem h, List.getElem?_eq_getElem h2, ht, he]
theorem not_t' {a : Bool} (h : (!a) = true) : (!a) = true := h
theorem not_f' {a : Bool} (h : (!a) = false) : (!a) = false := h
def stateSim (b : Bk) (xs : List Int) : Bool × Int := if checkM b ≠ 0 then (false, checkM b) else if handedM b xs ≠ 0 then (false, handedM b xs) else (canM b xs, 0)
theorem ns_of {b : Bk} (h : b.seekers.length ≤ 1000) : b.seekers.length ≤ 1000 := h


set_option maxRecDepth 20000 in
set_option maxHeartbeats 1000000 in
theorem wideR_ok {main : Bool} {T : Goroutine → Hp → Prop} (hT : Shut Tryz.prog main T) {gm : Nat → Option Nat} {b : Bk} {s e : Nat} {lo hi : Int} (hs : 4 ≤ b.steps ∧ b.steps ≤ 16) (h0 : 0 ≤ lo ∧ lo < b.steps) (h1 : 0 ≤ hi ∧ hi < b.steps) :
    CallK Tryz.prog T gm 79 [.agg (bookC b s e), intA lo, intA hi] [] (fun r K' => r = intA ((hi - lo + b.steps) % b.steps + 1) ∧ K' = []) := by
  refine callK_in 17 hT Tryz.func79 fun Y hret => ?_
  refine au [4, 5, 21] ?_
  intro j1 hj1
  refine au [2, 3, 4, 5, 1, 1, 24, 7, 9, 23, 7, 9] ?_
  refine TK.a rfl (q_rem rfl rfl rfl (by omega) (by omega)) ?_
  refine TK.a rfl (q_add rfl rfl rfl (by have := Int.emod_lt_of_pos (hi - lo + b.steps) (show 0 < b.steps by omega); have := Int.emod_nonneg (hi - lo + b.steps) (show b.steps ≠ 0 by omega); omega)) ?_
  refine au [2, 3] ?_
  refine TK.rt hret [] ?_
  exact ⟨rfl, rfl⟩

set_option maxRecDepth 20000 in
set_option maxHeartbeats 1000000 in
theorem inR_ok {main : Bool} {T : Goroutine → Hp → Prop} (hT : Shut Tryz.prog main T) {gm : Nat → Option Nat} {b : Bk} {s e j off : Nat} {ob : AObj} {xs : List Int} {lo w : Int} (hs : 4 ≤ b.steps ∧ b.steps ≤ 16) (hB : ∀ x ∈ xs, 0 ≤ x ∧ x < b.steps) (h0 : 0 ≤ lo ∧ lo < b.steps) (hI : IntsAt ob off xs) (hlx : xs.length ≤ 1000)  :
    CallK Tryz.prog T gm 115 [.agg (bookC b s e), .sl j off xs.length, intA lo, intA w] [(j, ob)] (fun r K' => r = intA (inM b xs lo w) ∧ K' = [(j, ob)]) := by
  refine callK_in 34 hT Tryz.func115 fun Y hret => ?_
  refine au [4, 5, 21] ?_
  intro jb hjb
  refine au [2, 3, 4, 5, 2, 3, 4, 4, 5, 2, 3, 13] ?_
  refine TK.maskL [1, 2, 3, 4, 9, 10] ?_
  refine TK.loopN (fun n env K => ∃ (i : Nat), n = xs.length - i ∧ i ≤ xs.length ∧ env = slotsA 34 [(1, .sl j off xs.length), (2, intA lo), (3, intA w), (4, .ptr jb 0), (9, intA (inM b (xs.take i) lo w)), (10, intA i)] ∧ K = [(jb, .cells (bookC b s e) 27 true), (j, ob)]) xs.length ⟨0, rfl, Nat.zero_le _, rfl, rfl⟩ fun n env K hI' hnext => ?_
  obtain ⟨i, rfl, hi, rfl, rfl⟩ := hI'
  refine au [4, 4, 5, 1, 1, 28, 6, 3, 20] ?_
  refine ⟨fun hc => ?_, fun hc => ?_⟩
  · simp only [decide_eq_true_eq] at hc
    have hil : i < xs.length := by omega
    have hx := hB xs[i] (List.getElem_mem _)
    have hn := inM_le b (xs.take i) lo w
    have hn2 : (xs.take i).length ≤ 1000 := by simp; omega
    refine au [12, 4, 13, 4] ?_
    refine TK.draw [0, 1, 2, 3, 4, 5, 6, 7, 8, 9, 10, 11, 12, 13] [0, 1, 2, 3, 4, 5, 6, 7, 8, 9, 10, 11, 12, 13] (by kernel_rfl) (by kernel_rfl) ?_
    refine TD.q [1] [] rfl rfl rfl rfl (by simp) (q_move rfl rfl) (putS rfl (by simp only [List.set]; rfl)) ?_
    refine TD.q [10] [] rfl rfl rfl rfl (by simp) (q_move rfl rfl) (putS rfl (by simp only [List.set]; rfl)) ?_
    refine TD.q [17, 18] [] rfl rfl rfl rfl (by simp) (q_indexSl rfl rfl rfl SlEl.h (by omega) (by omega)) (putS rfl (by simp only [List.set]; rfl)) ?_
    refine TD.q [19] [(_, _)] rfl rfl rfl rfl (fun _ h => by rw [List.mem_singleton.1 h]; repeat (first | exact List.Mem.head _ | apply List.Mem.tail)) (q_load1 rfl rfl TySz.h (List.Mem.head _) (hI i hil)) (putS rfl (by simp only [List.set]; rfl)) ?_
    refine TD.q [2] [] rfl rfl rfl rfl (by simp) (q_move rfl rfl) (putS rfl (by simp only [List.set]; rfl)) ?_
    refine TD.q [20, 21] [] rfl rfl rfl rfl (by simp) (q_sub rfl rfl rfl (by omega)) (putS rfl (by simp only [List.set]; rfl)) ?_
    refine TD.q [4] [] rfl rfl rfl rfl (by simp) (q_fieldAddr rfl rfl FldOf.h (by decide)) (putS rfl (by simp only [List.set]; rfl)) ?_
    refine TD.q [23] [(_, _)] rfl rfl rfl rfl (fun _ h => by rw [List.mem_singleton.1 h]; repeat (first | exact List.Mem.head _ | apply List.Mem.tail)) (q_load1 rfl rfl TySz.h (List.Mem.head _) rfl) (putS rfl (by simp only [List.set]; rfl)) ?_
    refine TD.q [22, 24] [] rfl rfl rfl rfl (by simp) (q_add rfl rfl rfl (by omega)) (putS rfl (by simp only [List.set]; rfl)) ?_
    refine TD.q [4] [] rfl rfl rfl rfl (by simp) (q_fieldAddr rfl rfl FldOf.h (by decide)) (putS rfl (by simp only [List.set]; rfl)) ?_
    refine TD.q [26] [(_, _)] rfl rfl rfl rfl (fun _ h => by rw [List.mem_singleton.1 h]; repeat (first | exact List.Mem.head _ | apply List.Mem.tail)) (q_load1 rfl rfl TySz.h (List.Mem.head _) rfl) (putS rfl (by simp only [List.set]; rfl)) ?_
    refine TD.q [25, 27] [] rfl rfl rfl rfl (by simp) (q_rem rfl rfl rfl (by omega) (by omega)) (putS rfl (by simp only [List.set]; rfl)) ?_
    refine TD.q [3] [] rfl rfl rfl rfl (by simp) (q_move rfl rfl) (putS rfl (by simp only [List.set]; rfl)) ?_
    refine TD.q [28, 29] [] rfl rfl rfl rfl (by simp) (q_cmp rfl rfl rfl rfl) (putS rfl (by simp only [List.set]; rfl)) ?_
    refine TD.fin ?_
    refine au [20] ?_
    refine ⟨fun hc1 => ?_, fun hc1 => ?_⟩
    · simp only [decide_eq_true_eq] at hc1
      refine au [5, 1, 23, 2, 3, 14, 5, 1, 23, 2, 3] ?_
      refine TK.maskL [1, 2, 3, 4, 9, 10] ?_
      exact hnext _ _ _ (by omega) ⟨i + 1, rfl, by omega, by rw [inM_succ hil, if_pos hc1]; rfl, rfl⟩
    simp only [decide_eq_false_iff_not] at hc1
    refine au [12, 14, 5, 1, 23, 2, 3] ?_
    refine TK.maskL [1, 2, 3, 4, 9, 10] ?_
    exact hnext _ _ _ (by omega) ⟨i + 1, rfl, by omega, by rw [inM_succ hil, if_neg hc1, Int.add_zero]; rfl, rfl⟩
  simp only [decide_eq_false_iff_not] at hc
  obtain rfl : i = xs.length := by omega
  refine au [16, 4, 5, 1, 2, 3] ?_
  refine TK.rt hret [(j, _)] ?_
  exact ⟨by rw [List.take_length], rfl⟩

set_option maxRecDepth 20000 in
set_option maxHeartbeats 1000000 in
theorem rightR_ok {main : Bool} {T : Goroutine → Hp → Prop} (hT : Shut Tryz.prog main T) {gm : Nat → Option Nat} {b : Bk} {s e j off : Nat} {ob : AObj} {xs : List Int} {i : Nat} (hb : BkOk b) (hS : SmOk b xs) (hi : i < b.seekers.length) (hI : IntsAt ob off xs) (hlx : xs.length ≤ 1000)  :
    CallK Tryz.prog T gm 54 [.agg (bookC b s e), .sl j off xs.length, intA i] [(s, saysO b), (j, ob)] (fun r K' => r = boolA (rightM b xs i) ∧ K' = [(s, saysO b), (j, ob)]) := by
  refine callK_in 37 hT Tryz.func54 fun Y hret => ?_
  refine au [] ?_
  obtain ⟨x, hx⟩ : ∃ x, b.seekers[i]? = some x := ⟨_, List.getElem?_eq_getElem hi⟩
  have hf := hb.frm x (List.mem_of_getElem? hx)
  refine au [4, 5, 21] ?_
  intro jb hjb
  refine au [2, 3, 4, 5, 7, 9, 1, 36] ?_
  refine TK.a rfl (q_load rfl rfl TySz.h (by repeat (first | exact List.Mem.head _ | assumption | apply List.Mem.tail)) (says_at' b hx)) ?_
  refine au [22] ?_
  intro jx hjx
  refine au [17, 3, 4] ?_
  refine TK.draw [0, 1, 2, 3, 4, 5, 6, 7, 8, 9, 10, 11] [0, 1, 2, 3, 4, 5, 6, 7, 8, 9, 10, 11] (by kernel_rfl) (by kernel_rfl) ?_
  refine TD.q [3] [(_, _)] rfl rfl rfl rfl (fun _ h => by rw [List.mem_singleton.1 h]; repeat (first | exact List.Mem.head _ | apply List.Mem.tail)) (q_load rfl rfl TySz.h (List.Mem.head _) rfl) (putS rfl (by simp only [List.set]; rfl)) ?_
  refine TD.q [1] [] rfl rfl rfl rfl (by simp) (q_move rfl rfl) (putS rfl (by simp only [List.set]; rfl)) ?_
  refine TD.q [7] [] rfl rfl rfl rfl (by simp) (q_fieldAddr rfl rfl FldOf.h (by decide)) (putS rfl (by simp only [List.set]; rfl)) ?_
  refine TD.q [16] [(_, _)] rfl rfl rfl rfl (fun _ h => by rw [List.mem_singleton.1 h]; repeat (first | exact List.Mem.head _ | apply List.Mem.tail)) (q_load1 rfl rfl TySz.h (List.Mem.head _) rfl) (putS rfl (by simp only [List.set]; rfl)) ?_
  refine TD.q [3] [(_, _)] rfl rfl rfl rfl (fun _ h => by rw [List.mem_singleton.1 h]; repeat (first | exact List.Mem.head _ | apply List.Mem.tail)) (q_load rfl rfl TySz.h (List.Mem.head _) rfl) (putS rfl (by simp only [List.set]; rfl)) ?_
  refine TD.q [7] [] rfl rfl rfl rfl (by simp) (q_fieldAddr rfl rfl FldOf.h (by decide)) (putS rfl (by simp only [List.set]; rfl)) ?_
  refine TD.q [19] [(_, _)] rfl rfl rfl rfl (fun _ h => by rw [List.mem_singleton.1 h]; repeat (first | exact List.Mem.head _ | apply List.Mem.tail)) (q_load1 rfl rfl TySz.h (List.Mem.head _) rfl) (putS rfl (by simp only [List.set]; rfl)) ?_
  refine TD.q [7] [] rfl rfl rfl rfl (by simp) (q_fieldAddr rfl rfl FldOf.h (by decide)) (putS rfl (by simp only [List.set]; rfl)) ?_
  refine TD.q [21] [(_, _)] rfl rfl rfl rfl (fun _ h => by rw [List.mem_singleton.1 h]; repeat (first | exact List.Mem.head _ | apply List.Mem.tail)) (q_load1 rfl rfl TySz.h (List.Mem.head _) rfl) (putS rfl (by simp only [List.set]; rfl)) ?_
  refine TD.call' (pend' := [⟨7, [7], []⟩, ⟨5, [7], []⟩, ⟨3, [16], [(_, _)]⟩, ⟨2, [7], []⟩, ⟨1, [1], []⟩, ⟨0, [3], [(_, _)]⟩]) [18, 20, 22] rfl rfl rfl rfl rfl rfl Cal.h rfl (wideR_ok hT (b := b) (s := s) (e := e) (lo := x.frm) (hi := x.til) hb.steps ⟨by omega, by omega⟩ ⟨by omega, by omega⟩) (by repeat (first | exact Split.none _ | exact Split.all _ | (apply Split.rem; repeat (first | exact Rem.head | apply Rem.tail)) | apply Split.right)) fun r1 K2 h3 => ⟨?_, ?_⟩
  · rcases h3 with ⟨rfl, rfl⟩
    all_goals simp
  obtain ⟨rfl, rfl⟩ := h3
  try simp only [List.cons_append, List.nil_append]
  refine TD.norm (putS rfl (by simp only [List.set]; rfl)) ?_
  refine TD.call' (pend' := [⟨7, [7], []⟩, ⟨5, [7], []⟩, ⟨2, [7], []⟩]) [14, 15, 17, 23] rfl rfl rfl rfl rfl rfl Cal.h rfl (inR_ok hT (b := b) (s := s) (e := e) (xs := xs) (lo := x.frm) (w := wideM b x) hb.steps hS.mem ⟨by omega, by omega⟩ hI hlx) (by repeat (first | exact Split.none _ | exact Split.all _ | (apply Split.rem; repeat (first | exact Rem.head | apply Rem.tail)) | apply Split.right)) fun r4 K5 h6 => ⟨?_, ?_⟩
  · rcases h6 with ⟨rfl, rfl⟩
    all_goals simp
  obtain ⟨rfl, rfl⟩ := h6
  try simp only [List.cons_append, List.nil_append]
  refine TD.norm (putS rfl (by simp only [List.set]; rfl)) ?_
  refine TD.cq (env' := [_, _, _, _, _, _, _, _, _, _, _, _, _, _, _, _, _, _, _, _, _, _, _, _, _, _, _, _, _, _, _, _, _, _, _, _, _]) (pend' := []) [24] rfl rfl rfl rfl rfl (q_assign rfl rfl) rfl (by simp) ?_
  refine TD.fin ?_
  refine au [4, 4, 5, 7, 9, 6, 3, 20] ?_
  refine ⟨fun hc0 => ?_, fun hc0 => ?_⟩
  · refine au [4, 5, 1, 6, 2, 3] ?_
    refine TK.rt hret [(s, _), (j, _)] ?_
    exact ⟨by rw [right_says hx, show x.says = 1 by simpa using hc0]; rfl, rfl⟩
  refine au [12, 4, 4, 5, 7, 9, 6, 3, 20] ?_
  refine ⟨fun hc1 => ?_, fun hc1 => ?_⟩
  · refine au [4, 5, 1, 6, 2, 3] ?_
    refine TK.rt hret [(s, _), (j, _)] ?_
    exact ⟨by rw [right_says hx, show x.says = 2 by simpa using hc1]; rfl, rfl⟩
  refine au [12, 4, 5, 1, 6, 2, 3] ?_
  refine TK.rt hret [(s, _), (j, _)] ?_
  have h0 : x.says = 0 := by have h1 : x.says ≠ 1 := (by simpa using hc0); have h2 : x.says ≠ 2 := (by simpa using hc1); omega
  exact ⟨by rw [right_says hx, h0]; rfl, rfl⟩

set_option maxRecDepth 20000 in
set_option maxHeartbeats 1000000 in
theorem climbs_ok {main : Bool} {T : Goroutine → Hp → Prop} (hT : Shut Tryz.prog main T) {gm : Nat → Option Nat} {b : Bk} {s e j off : Nat} {ob : AObj} {xs : List Int} (hs : 0 ≤ b.steps ∧ b.steps ≤ 16) (hI : IntsAt ob off xs) (hlx : xs.length ≤ 1000)  :
    CallK Tryz.prog T gm 114 [.sl j off xs.length, intA b.steps] [(j, ob)] (fun r K' => r = intA (firstNZ (barH b xs) xs.length) ∧ K' = [(j, ob)]) := by
  refine callK_in 34 hT Tryz.func114 fun Y hret => ?_
  refine au [4, 5, 2, 3, 4, 4, 5, 2, 3, 13] ?_
  refine TK.maskL [0, 1, 5] ?_
  refine TK.loopN (fun n env K => ∃ (i : Nat), n = xs.length - i ∧ i ≤ xs.length ∧ firstNZ (barH b xs) i = 0 ∧ env = slotsA 34 [(0, .sl j off xs.length), (1, intA b.steps), (5, intA i)] ∧ K = [(j, ob)]) xs.length ⟨0, rfl, Nat.zero_le _, rfl, rfl, rfl⟩ fun n env K hI' hnext => ?_
  obtain ⟨i, rfl, hi, h0, rfl, rfl⟩ := hI'
  refine au [4, 4, 5, 1, 1, 28, 6, 3, 20] ?_
  refine ⟨fun hc => ?_, fun hc => ?_⟩
  · simp only [decide_eq_true_eq] at hc
    have hil : i < xs.length := by omega
    have hx := List.getElem?_eq_getElem hil
    refine au [12, 4, 13, 4, 4, 5, 1, 1, 36] ?_
    refine TK.a rfl (q_load1 rfl rfl TySz.h (by repeat (first | exact List.Mem.head _ | assumption | apply List.Mem.tail)) (hI i hil)) ?_
    refine au [1, 24] ?_
    refine TK.cl rfl rfl rfl rfl (between_ok hT) ?_
    rintro r1 K2 ⟨rfl, rfl⟩
    refine au [30, 3, 20] ?_
    refine ⟨fun hc1 => ?_, fun hc1 => ?_⟩
    · refine au [4, 5, 2, 3] ?_
      refine TK.rt hret [(j, _)] ?_
      exact ⟨by rw [firstNZ_of h0 (bar_six hx hc1) (by decide) hil]; rfl, rfl⟩
    refine au [12, 4] ?_
    refine TK.draw [0, 1, 2, 3, 4, 5, 6, 7, 8, 9, 10, 11, 12, 13] [0, 1, 2, 3, 4, 5, 6, 7, 8, 9, 10, 11, 12, 13] (by kernel_rfl) (by kernel_rfl) ?_
    refine TD.q [5] [] rfl rfl rfl rfl (by simp) (q_move rfl rfl) (putS rfl (by simp only [List.set]; rfl)) ?_
    refine TD.q [20] [] rfl rfl rfl rfl (by simp) (q_cmp rfl rfl rfl rfl) (putS rfl (by simp only [List.set]; rfl)) ?_
    refine TD.q [21] [] rfl rfl rfl rfl (by simp) (q_move rfl rfl) (putS rfl (by simp only [List.set]; rfl)) ?_
    refine TD.sp 22 (fun g6_3 => ?_) (fun g6_3 => ?_)
    · have hgi : 0 < i := by have := of_decide_eq_true g6_3; omega
      refine TD.q [0, 22] [] rfl rfl rfl rfl (by simp) (q_move rfl rfl) (putS rfl (by simp only [List.set]; rfl)) ?_
      refine TD.q [5, 22] [] rfl rfl rfl rfl (by simp) (q_move rfl rfl) (putS rfl (by simp only [List.set]; rfl)) ?_
      refine TD.q [22, 23, 24] [] rfl rfl rfl rfl (by simp) (q_indexSl rfl rfl rfl SlEl.h (by omega) (by omega)) (putS rfl (by simp only [List.set]; rfl)) ?_
      refine TD.q [22, 25] [(_, _)] rfl rfl rfl rfl (fun _ h => by rw [List.mem_singleton.1 h]; repeat (first | exact List.Mem.head _ | apply List.Mem.tail)) (q_load1 rfl rfl TySz.h (List.Mem.head _) (hI i hil)) (putS rfl (by simp only [List.set]; rfl)) ?_
      refine TD.q [0, 22] [] rfl rfl rfl rfl (by simp) (q_move rfl rfl) (putS rfl (by simp only [List.set]; rfl)) ?_
      refine TD.q [5, 22] [] rfl rfl rfl rfl (by simp) (q_move rfl rfl) (putS rfl (by simp only [List.set]; rfl)) ?_
      refine TD.q [22, 28] [] rfl rfl rfl rfl (by simp) (q_sub rfl rfl rfl (by omega)) (putS rfl (by simp only [List.set]; rfl)) ?_
      refine TD.q [22, 27, 29] [] rfl rfl rfl rfl (by simp) (q_indexSl rfl rfl rfl SlEl.h (by omega) (by omega)) (putS rfl (by simp only [List.set]; rfl)) ?_
      refine TD.q [22, 30] [(_, _)] rfl rfl rfl rfl (fun _ h => by rw [List.mem_singleton.1 h]; repeat (first | exact List.Mem.head _ | apply List.Mem.tail)) (q_load1 rfl rfl TySz.h (List.Mem.head _) (prev_at hI hil hgi)) (putS rfl (by simp only [List.set]; rfl)) ?_
      refine TD.q [22, 26, 31] [] rfl rfl rfl rfl (by simp) (q_cmp rfl rfl rfl rfl) (putS rfl (by simp only [List.set]; rfl)) ?_
      refine TD.q [22, 32] [] rfl rfl rfl rfl (by simp) (q_pickT rfl rfl rfl) (putS rfl (by simp only [List.set]; rfl)) ?_
      refine TD.fin ?_
      refine au [20] ?_
      refine ⟨fun hc2 => ?_, fun hc2 => ?_⟩
      · refine au [4, 5, 2, 3] ?_
        refine TK.rt hret [(j, _)] ?_
        exact ⟨by rw [firstNZ_of h0 (bar_seven hx hc1 g6_3 (by rw [stepPrev (show i - 1 < xs.length by omega)]; exact hc2)) (by decide) hil]; rfl, rfl⟩
      refine au [12, 14, 5, 1, 23, 2, 3] ?_
      refine TK.maskL [0, 1, 5] ?_
      exact hnext _ _ _ (by omega) ⟨i + 1, rfl, by omega, bars_next h0 (bar_zero hx hc1 g6_3 (by rw [stepPrev (show i - 1 < xs.length by omega)]; exact hc2)), rfl, rfl⟩
    refine TD.unwanted [0, 22] rfl rfl rfl (putS rfl (by simp only [List.set]; rfl)) ?_
    refine TD.unwanted [5, 22] rfl rfl rfl (putS rfl (by simp only [List.set]; rfl)) ?_
    refine TD.unwanted [22, 23, 24] rfl rfl rfl (putS rfl (by simp only [List.set]; rfl)) ?_
    refine TD.unwanted [22, 25] rfl rfl rfl (putS rfl (by simp only [List.set]; rfl)) ?_
    refine TD.unwanted [0, 22] rfl rfl rfl (putS rfl (by simp only [List.set]; rfl)) ?_
    refine TD.unwanted [5, 22] rfl rfl rfl (putS rfl (by simp only [List.set]; rfl)) ?_
    refine TD.unwanted [22, 28] rfl rfl rfl (putS rfl (by simp only [List.set]; rfl)) ?_
    refine TD.unwanted [22, 27, 29] rfl rfl rfl (putS rfl (by simp only [List.set]; rfl)) ?_
    refine TD.unwanted [22, 30] rfl rfl rfl (putS rfl (by simp only [List.set]; rfl)) ?_
    refine TD.unwanted [22, 26, 31] rfl rfl rfl (putS rfl (by simp only [List.set]; rfl)) ?_
    refine TD.q [22, 32] [] rfl rfl rfl rfl (by simp) (q_pickF rfl rfl rfl) (putS rfl (by simp only [List.set]; rfl)) ?_
    refine TD.fin ?_
    refine au [19, 12, 14, 5, 1, 23, 2, 3] ?_
    refine TK.maskL [0, 1, 5] ?_
    exact hnext _ _ _ (by omega) ⟨i + 1, rfl, by omega, bars_next h0 (bar_first hx hc1 g6_3), rfl, rfl⟩
  simp only [decide_eq_false_iff_not] at hc
  obtain rfl : i = xs.length := by omega
  refine au [16, 4, 5, 2, 3] ?_
  refine TK.rt hret [(j, _)] ?_
  exact ⟨by rw [h0]; rfl, rfl⟩

set_option maxRecDepth 20000 in
set_option maxHeartbeats 1000000 in
theorem checkSeams_ok {main : Bool} {T : Goroutine → Hp → Prop} (hT : Shut Tryz.prog main T) {gm : Nat → Option Nat} {b : Bk} {s e j off : Nat} {ob : AObj} {xs : List Int} (hs : 0 ≤ b.steps ∧ b.steps ≤ 16) (hI : IntsAt ob off xs) (hlx : xs.length ≤ 1000)  :
    CallK Tryz.prog T gm 52 [.agg (bookC b s e), .sl j off xs.length] [(j, ob)] (fun r K' => r = intA (handedM b xs) ∧ K' = [(j, ob)]) := by
  refine callK_in 12 hT Tryz.func52 fun Y hret => ?_
  refine au [4, 5, 21] ?_
  intro jb hjb
  refine au [2, 3, 4, 4, 5, 1, 28, 6, 3, 20] ?_
  refine ⟨fun hc0 => ?_, fun hc0 => ?_⟩
  · refine au [4, 5, 2, 3] ?_
    refine TK.rt hret [(j, _)] ?_
    exact ⟨by unfold handedM; rw [if_pos (by have := of_decide_eq_true hc0; omega)]; rfl, rfl⟩
  refine au [12, 4, 5, 1, 7, 9] ?_
  refine TK.cl rfl rfl rfl rfl (climbs_ok hT (b := b) (s := s) (e := e) hs hI hlx) ?_
  rintro r1 K2 ⟨rfl, rfl⟩
  refine au [2, 3] ?_
  refine TK.rt hret [(j, _)] ?_
  exact ⟨by unfold handedM; rw [if_neg (by have := of_decide_eq_false hc0; omega)], rfl⟩

set_option maxRecDepth 20000 in
set_option maxHeartbeats 1000000 in
theorem holds_ok {main : Bool} {T : Goroutine → Hp → Prop} (hT : Shut Tryz.prog main T) {gm : Nat → Option Nat} {j off : Nat} {ob : AObj} {xs : List Int} {v : Int} (hI : IntsAt ob off xs) (hlx : xs.length ≤ 1000)  :
    CallK Tryz.prog T gm 121 [.sl j off xs.length, intA v] [(j, ob)] (fun r K' => r = boolA (decide (v ∈ xs)) ∧ K' = [(j, ob)]) := by
  refine callK_in 18 hT Tryz.func121 fun Y hret => ?_
  refine au [4, 5, 2, 3, 4, 4, 5, 2, 3, 13] ?_
  refine TK.maskL [0, 1, 5] ?_
  refine TK.loopN (fun n env K => ∃ (i : Nat), n = xs.length - i ∧ i ≤ xs.length ∧ v ∉ xs.take i ∧ env = slotsA 18 [(0, .sl j off xs.length), (1, intA v), (5, intA i)] ∧ K = [(j, ob)]) xs.length ⟨0, rfl, Nat.zero_le _, by simp, rfl, rfl⟩ fun n env K hI' hnext => ?_
  obtain ⟨i, rfl, hi, hn, rfl, rfl⟩ := hI'
  refine au [4, 4, 5, 1, 1, 28, 6, 3, 20] ?_
  refine ⟨fun hc => ?_, fun hc => ?_⟩
  · simp only [decide_eq_true_eq] at hc
    have hil : i < xs.length := by omega
    refine au [12, 4, 13, 4, 5, 1, 1, 36] ?_
    refine TK.a rfl (q_load1 rfl rfl TySz.h (by repeat (first | exact List.Mem.head _ | assumption | apply List.Mem.tail)) (hI i hil)) ?_
    refine au [1, 6, 3, 20] ?_
    refine ⟨fun hc1 => ?_, fun hc1 => ?_⟩
    · refine au [4, 5, 2, 3] ?_
      refine TK.rt hret [(j, _)] ?_
      exact ⟨by rw [decide_eq_true (show v ∈ xs by have h : xs[i] = v := (by simpa using hc1); rw [← h]; exact List.getElem_mem hil)]; rfl, rfl⟩
    refine au [12, 14, 5, 1, 23, 2, 3] ?_
    refine TK.maskL [0, 1, 5] ?_
    exact hnext _ _ _ (by omega) ⟨i + 1, rfl, by omega, mem_take_succ hil hn (fun h => by rw [h] at hc1; simp at hc1), rfl, rfl⟩
  simp only [decide_eq_false_iff_not] at hc
  obtain rfl : i = xs.length := by omega
  refine au [16, 4, 5, 2, 3] ?_
  refine TK.rt hret [(j, _)] ?_
  exact ⟨by rw [decide_eq_false (by rwa [List.take_length] at hn)]; rfl, rfl⟩

set_option maxRecDepth 20000 in
set_option maxHeartbeats 1000000 in
theorem seenR_ok {main : Bool} {T : Goroutine → Hp → Prop} (hT : Shut Tryz.prog main T) {gm : Nat → Option Nat} {b : Bk} {s e j off : Nat} {ob : AObj} {xs : List Int} (hb : BkOk b) (hI : IntsAt ob off xs) (hlx : xs.length ≤ 1000)  :
    CallK Tryz.prog T gm 92 [.agg (bookC b s e), .sl j off xs.length] [(e, seenO b), (j, ob)] (fun r K' => r = boolA (seenM b xs) ∧ K' = [(e, seenO b), (j, ob)]) := by
  refine callK_in 37 hT Tryz.func92 fun Y hret => ?_
  refine au [4, 5, 21] ?_
  intro jb hjb
  refine au [2, 3, 4, 4, 5, 2, 3, 13] ?_
  refine TK.maskL [1, 2, 5] ?_
  refine TK.loopN (fun n env K => ∃ (i : Nat), n = b.seen.length - i ∧ i ≤ b.seen.length ∧ ((b.seen.take i).any fun x => decide (x.step ∈ xs) != x.seam) = false ∧ env = slotsA 37 [(1, .sl j off xs.length), (2, .ptr jb 0), (5, intA i)] ∧ K = [(jb, .cells (bookC b s e) 27 true), (e, seenO b), (j, ob)]) b.seen.length ⟨0, rfl, Nat.zero_le _, rfl, rfl, rfl⟩ fun n env K hI' hnext => ?_
  obtain ⟨i, rfl, hi, hany, rfl, rfl⟩ := hI'
  refine au [4, 4, 5, 1, 7, 9, 28, 6, 3, 20] ?_
  refine ⟨fun hc => ?_, fun hc => ?_⟩
  · simp only [decide_eq_true_eq] at hc
    have hne4 := hb.ne
    have hil : i < b.seen.length := by omega
    obtain ⟨z, hz⟩ : ∃ z, b.seen[i]? = some z := ⟨_, List.getElem?_eq_getElem hil⟩
    have hzt := seen_at b i hil
    rw [(List.getElem?_eq_some_iff.1 hz).2] at hzt
    refine au [12, 4, 13, 4] ?_
    refine TK.draw [0, 1, 2, 3, 4, 5, 6, 8, 9, 10, 11, 12, 13, 7, 14] [0, 1, 2, 3, 4, 5, 6, 7, 8, 9, 10, 11, 12, 13, 14] (by kernel_rfl) (by kernel_rfl) ?_
    refine TD.q [1] [] rfl rfl rfl rfl (by simp) (q_move rfl rfl) (putS rfl (by simp only [List.set]; rfl)) ?_
    refine TD.q [2] [] rfl rfl rfl rfl (by simp) (q_fieldAddr rfl rfl FldOf.h (by decide)) (putS rfl (by simp only [List.set]; rfl)) ?_
    refine TD.q [14] [(_, _)] rfl rfl rfl rfl (fun _ h => by rw [List.mem_singleton.1 h]; repeat (first | exact List.Mem.head _ | apply List.Mem.tail)) (q_load1 rfl rfl TySz.h (List.Mem.head _) rfl) (putS rfl (by simp only [List.set]; rfl)) ?_
    refine TD.q [5] [] rfl rfl rfl rfl (by simp) (q_move rfl rfl) (putS rfl (by simp only [List.set]; rfl)) ?_
    refine TD.q [15, 16] [] rfl rfl rfl rfl (by simp) (q_indexSl rfl rfl rfl SlEl.h (by omega) (by omega)) (putS rfl (by simp only [List.set]; rfl)) ?_
    refine TD.q [17] [] rfl rfl rfl rfl (by simp) (q_fieldAddr rfl rfl FldOf.h (by decide)) (putS rfl (by simp only [List.set]; rfl)) ?_
    refine TD.q [18] [(_, _)] rfl rfl rfl rfl (fun _ h => by rw [List.mem_singleton.1 h]; repeat (first | exact List.Mem.head _ | apply List.Mem.tail)) (q_load1 rfl rfl TySz.h (List.Mem.head _) (take_fld hzt (by decide) rfl)) (putS rfl (by simp only [List.set]; rfl)) ?_
    refine TD.q [2] [] rfl rfl rfl rfl (by simp) (q_fieldAddr rfl rfl FldOf.h (by decide)) (putS rfl (by simp only [List.set]; rfl)) ?_
    refine TD.q [21] [(_, _)] rfl rfl rfl rfl (fun _ h => by rw [List.mem_singleton.1 h]; repeat (first | exact List.Mem.head _ | apply List.Mem.tail)) (q_load1 rfl rfl TySz.h (List.Mem.head _) rfl) (putS rfl (by simp only [List.set]; rfl)) ?_
    refine TD.q [5] [] rfl rfl rfl rfl (by simp) (q_move rfl rfl) (putS rfl (by simp only [List.set]; rfl)) ?_
    refine TD.q [22, 23] [] rfl rfl rfl rfl (by simp) (q_indexSl rfl rfl rfl SlEl.h (by omega) (by omega)) (putS rfl (by simp only [List.set]; rfl)) ?_
    refine TD.q [24] [] rfl rfl rfl rfl (by simp) (q_fieldAddr rfl rfl FldOf.h (by decide)) (putS rfl (by simp only [List.set]; rfl)) ?_
    refine TD.q [25] [(_, _)] rfl rfl rfl rfl (fun _ h => by rw [List.mem_singleton.1 h]; repeat (first | exact List.Mem.head _ | apply List.Mem.tail)) (q_load1 rfl rfl TySz.h (List.Mem.head _) (take_fld hzt (by decide) rfl)) (putS rfl (by simp only [List.set]; rfl)) ?_
    refine TD.call' (pend' := [⟨13, [25], [(_, _)]⟩, ⟨12, [24], []⟩, ⟨11, [22, 23], []⟩, ⟨10, [5], []⟩, ⟨9, [21], [(_, _)]⟩, ⟨8, [2], []⟩, ⟨5, [17], []⟩, ⟨4, [15, 16], []⟩, ⟨3, [5], []⟩, ⟨2, [14], [(_, _)]⟩, ⟨1, [2], []⟩]) [13, 19] rfl rfl rfl rfl rfl rfl Cal.h rfl (holds_ok hT hI hlx) (by repeat (first | exact Split.none _ | exact Split.all _ | (apply Split.rem; repeat (first | exact Rem.head | apply Rem.tail)) | apply Split.right)) fun r1 K2 h3 => ⟨?_, ?_⟩
    · rcases h3 with ⟨rfl, rfl⟩
      all_goals simp
    obtain ⟨rfl, rfl⟩ := h3
    try simp only [List.cons_append, List.nil_append]
    refine TD.norm (putS rfl (by simp only [List.set]; rfl)) ?_
    refine TD.q [20, 26] [] rfl rfl rfl rfl (by simp) (q_cmpB rfl rfl rfl Und.h rfl) (putS rfl (by simp only [List.set]; rfl)) ?_
    refine TD.fin ?_
    refine au [20] ?_
    refine ⟨fun hc1 => ?_, fun hc1 => ?_⟩
    · refine au [4, 5, 2, 3] ?_
      refine TK.rt hret [(e, _), (j, _)] ?_
      exact ⟨by unfold seenM; rw [List.any_eq_true.2 ⟨z, List.mem_of_getElem? hz, hc1⟩, Bool.not_true, Bool.and_false]; rfl, rfl⟩
    refine au [12, 14, 5, 1, 23, 2, 3] ?_
    refine TK.maskL [1, 2, 5] ?_
    refine TK.kp [(jb, _), (e, _), (j, _)] ?_
    exact hnext _ _ _ (by omega) ⟨i + 1, rfl, by omega, any_take_next hz hany hc1, rfl, rfl⟩
  simp only [decide_eq_false_iff_not] at hc
  obtain rfl : i = b.seen.length := by omega
  refine au [16, 4, 5, 1, 28, 7, 7, 9, 7, 7, 9] ?_
  refine TK.cl rfl rfl rfl rfl (between_ok hT) ?_
  rintro r4 K5 ⟨rfl, rfl⟩
  refine au [2, 3] ?_
  refine TK.rt hret [(e, _), (j, _)] ?_
  exact ⟨by unfold seenM; rw [List.take_length] at hany; rw [hany, Bool.not_false, Bool.and_true], rfl⟩

set_option maxRecDepth 20000 in
set_option maxHeartbeats 1000000 in
theorem glassR_ok {main : Bool} {T : Goroutine → Hp → Prop} (hT : Shut Tryz.prog main T) {gm : Nat → Option Nat} {b : Bk} {s e j off : Nat} {ob : AObj} {xs : List Int} (hb : BkOk b) (hS : SmOk b xs) (hI : IntsAt ob off xs) (hlx : xs.length ≤ 1000)  :
    CallK Tryz.prog T gm 93 [.agg (bookC b s e), .sl j off xs.length] [(s, saysO b), (j, ob)] (fun r K' => r = boolA (!badM b xs b.seekers.length) ∧ K' = [(s, saysO b), (j, ob)]) := by
  refine callK_in 26 hT Tryz.func93 fun Y hret => ?_
  refine au [4, 5, 21] ?_
  intro jb hjb
  refine au [2, 3, 4, 4, 5, 2, 3, 13] ?_
  refine TK.maskL [1, 2, 5] ?_
  refine TK.loopN (fun n env K => ∃ (i : Nat), n = b.seekers.length - i ∧ i ≤ b.seekers.length ∧ badM b xs i = false ∧ env = slotsA 26 [(1, .sl j off xs.length), (2, .ptr jb 0), (5, intA i)] ∧ K = [(jb, .cells (bookC b s e) 27 true), (s, saysO b), (j, ob)]) b.seekers.length ⟨0, rfl, Nat.zero_le _, rfl, rfl, rfl⟩ fun n env K hI' hnext => ?_
  obtain ⟨i, rfl, hi, hbd, rfl, rfl⟩ := hI'
  refine au [4, 4, 5, 1, 7, 9, 28, 6, 3, 20] ?_
  refine ⟨fun hc => ?_, fun hc => ?_⟩
  · simp only [decide_eq_true_eq] at hc
    have hn5 := hb.ns
    have hil : i < b.seekers.length := by omega
    obtain ⟨x, hx⟩ : ∃ x, b.seekers[i]? = some x := ⟨_, List.getElem?_eq_getElem hil⟩
    refine au [12, 4, 13, 4, 5, 7, 9, 1, 36, 7] ?_
    refine TK.a rfl (q_load1 rfl rfl TySz.h (by repeat (first | exact List.Mem.head _ | assumption | apply List.Mem.tail)) (take_fld (says_at' b hx) (by decide) rfl)) ?_
    refine au [1] ?_
    refine TK.sp 19 (fun g4_7 => ?_) (fun g4_7 => ?_)
    · refine au [8, 1, 1] ?_
      refine TK.cl rfl rfl rfl rfl (rightR_ok hT (s := s) (e := e) hb hS hil hI hlx) ?_
      rintro r1 K2 ⟨rfl, rfl⟩
      refine au [30, 26, 3, 20] ?_
      refine ⟨fun hc1 => ?_, fun hc1 => ?_⟩
      · refine au [4, 5, 2, 3] ?_
        refine TK.rt hret [(s, _), (j, _)] ?_
        exact ⟨by rw [badM_of hil (not_f hc1) (by rw [glass_of hx]; exact g4_7)]; rfl, rfl⟩
      refine au [12, 14, 5, 1, 23, 2, 3] ?_
      refine TK.maskL [1, 2, 5] ?_
      refine TK.kp [(jb, _), (s, _), (j, _)] ?_
      exact hnext _ _ _ (by omega) ⟨i + 1, rfl, by omega, by rw [badM_succ, hbd, not_t hc1]; rfl, rfl, rfl⟩
    refine au [11, 11, 11, 11, 11, 25, 3, 19, 12, 14, 5, 1, 23, 2, 3] ?_
    refine TK.maskL [1, 2, 5] ?_
    refine TK.kp [(jb, _), (s, _), (j, _)] ?_
    exact hnext _ _ _ (by omega) ⟨i + 1, rfl, by omega, by rw [badM_succ, hbd, glass_of hx, g4_7]; simp, rfl, rfl⟩
  simp only [decide_eq_false_iff_not] at hc
  obtain rfl : i = b.seekers.length := by omega
  refine au [16, 4, 5, 2, 3] ?_
  refine TK.rt hret [(s, _), (j, _)] ?_
  exact ⟨by rw [hbd]; rfl, rfl⟩

set_option maxRecDepth 20000 in
set_option maxHeartbeats 1000000 in
theorem wrongR_ok {main : Bool} {T : Goroutine → Hp → Prop} (hT : Shut Tryz.prog main T) {gm : Nat → Option Nat} {b : Bk} {s e j off : Nat} {ob : AObj} {xs : List Int} (hb : BkOk b) (hS : SmOk b xs) (hI : IntsAt ob off xs) (hlx : xs.length ≤ 1000)  :
    CallK Tryz.prog T gm 94 [.agg (bookC b s e), .sl j off xs.length] [(s, saysO b), (j, ob)] (fun r K' => r = intA (wrongL b xs b.seekers.length) ∧ K' = [(s, saysO b), (j, ob)]) := by
  refine callK_in 22 hT Tryz.func94 fun Y hret => ?_
  refine au [4, 5, 21] ?_
  intro jb hjb
  refine au [2, 3, 4, 5, 2, 3, 4, 4, 5, 2, 3, 13] ?_
  refine TK.maskL [1, 2, 5, 6] ?_
  refine TK.loopN (fun n env K => ∃ (i : Nat), n = b.seekers.length - i ∧ i ≤ b.seekers.length ∧ env = slotsA 22 [(1, .sl j off xs.length), (2, .ptr jb 0), (5, intA (wrongL b xs i)), (6, intA i)] ∧ K = [(jb, .cells (bookC b s e) 27 true), (s, saysO b), (j, ob)]) b.seekers.length ⟨0, rfl, Nat.zero_le _, rfl, rfl⟩ fun n env K hI' hnext => ?_
  obtain ⟨i, rfl, hi, rfl, rfl⟩ := hI'
  refine au [4, 4, 5, 1, 7, 9, 28, 6, 3, 20] ?_
  refine ⟨fun hc => ?_, fun hc => ?_⟩
  · simp only [decide_eq_true_eq] at hc
    have hn5 := hb.ns
    have hil : i < b.seekers.length := by omega
    have hwl := wrongL_le b xs i
    refine au [12, 4, 13, 4, 5, 8, 1, 1] ?_
    refine TK.cl rfl rfl rfl rfl (rightR_ok hT (s := s) (e := e) hb hS hil hI hlx) ?_
    rintro r1 K2 ⟨rfl, rfl⟩
    refine au [30, 3, 20] ?_
    refine ⟨fun hc1 => ?_, fun hc1 => ?_⟩
    · refine au [5, 1, 23, 2, 3, 14, 5, 1, 23, 2, 3] ?_
      refine TK.maskL [1, 2, 5, 6] ?_
      refine TK.kp [(jb, _), (s, _), (j, _)] ?_
      exact hnext _ _ _ (by omega) ⟨i + 1, rfl, by omega, by rw [wrongL_succ, if_neg (by rw [not_f hc1]; decide)]; rfl, rfl⟩
    refine au [12, 14, 5, 1, 23, 2, 3] ?_
    refine TK.maskL [1, 2, 5, 6] ?_
    refine TK.kp [(jb, _), (s, _), (j, _)] ?_
    exact hnext _ _ _ (by omega) ⟨i + 1, rfl, by omega, by rw [wrongL_succ, if_pos (not_t hc1)]; rfl, rfl⟩
  simp only [decide_eq_false_iff_not] at hc
  obtain rfl : i = b.seekers.length := by omega
  refine au [16, 4, 5, 1, 2, 3] ?_
  refine TK.rt hret [(s, _), (j, _)] ?_
  exact ⟨rfl, rfl⟩

set_option maxRecDepth 20000 in
set_option maxHeartbeats 1000000 in
theorem stateR_ok {main : Bool} {T : Goroutine → Hp → Prop} (hT : Shut Tryz.prog main T) {gm : Nat → Option Nat} {b : Bk} {s e j off : Nat} {ob : AObj} {xs : List Int} (hse : s ≠ e) (hb : BkOk b) (hS : SmOk b xs) (hI : IntsAt ob off xs) (hlx : xs.length ≤ 1000)  :
    CallK Tryz.prog T gm 57 [.agg (bookC b s e), .sl j off xs.length] [(s, saysO b), (e, seenO b), (j, ob)] (fun r K' => r = boolA (canM b xs) ∧ K' = [(s, saysO b), (e, seenO b), (j, ob)]) := by
  refine callK_in 21 hT Tryz.func57 fun Y hret => ?_
  refine au [4, 5, 21] ?_
  intro jb hjb
  refine au [2, 3, 4] ?_
  refine TK.draw [0, 1, 2, 3, 4, 5, 6, 7, 8, 9, 10, 12, 13, 11, 14, 15, 16] [0, 1, 2, 3, 4, 5, 6, 7, 8, 9, 10, 11, 12, 13, 14, 15, 16] (by kernel_rfl) (by kernel_rfl) ?_
  refine TD.q [2] [(_, _)] rfl rfl rfl rfl (fun _ h => by rw [List.mem_singleton.1 h]; repeat (first | exact List.Mem.head _ | apply List.Mem.tail)) (q_load rfl rfl TySz.h (List.Mem.head _) rfl) (putS rfl (by simp only [List.set]; rfl)) ?_
  refine TD.q [1] [] rfl rfl rfl rfl (by simp) (q_move rfl rfl) (putS rfl (by simp only [List.set]; rfl)) ?_
  refine TD.call' (pend' := []) [5, 6] rfl rfl rfl rfl rfl rfl Cal.h rfl (seenR_ok hT (s := s) (e := e) hb hI hlx) (by repeat (first | exact Split.none _ | exact Split.all _ | (apply Split.rem; repeat (first | exact Rem.head | apply Rem.tail)) | apply Split.right)) fun r1 K2 h3 => ⟨?_, ?_⟩
  · rcases h3 with ⟨rfl, rfl⟩
    all_goals simp
  obtain ⟨rfl, rfl⟩ := h3
  try simp only [List.cons_append, List.nil_append]
  refine TD.norm (putS rfl (by simp only [List.set]; rfl)) ?_
  refine TD.q [7] [] rfl rfl rfl rfl (by simp) (q_move rfl rfl) (putS rfl (by simp only [List.set]; rfl)) ?_
  refine TD.sp 8 (fun g1_4 => ?_) (fun g1_4 => ?_)
  · refine TD.q [2, 8] [(_, _)] rfl rfl rfl rfl (fun _ h => by rw [List.mem_singleton.1 h]; repeat (first | exact List.Mem.head _ | apply List.Mem.tail)) (q_load rfl rfl TySz.h (List.Mem.head _) rfl) (putS rfl (by simp only [List.set]; rfl)) ?_
    refine TD.q [1, 8] [] rfl rfl rfl rfl (by simp) (q_move rfl rfl) (putS rfl (by simp only [List.set]; rfl)) ?_
    refine TD.call' (pend' := []) [8, 9, 10] rfl rfl rfl rfl rfl rfl Cal.h rfl (glassR_ok hT (s := s) (e := e) hb hS hI hlx) (by repeat (first | exact Split.none _ | exact Split.all _ | (apply Split.rem; repeat (first | exact Rem.head | apply Rem.tail)) | apply Split.right)) fun r4 K5 h6 => ⟨?_, ?_⟩
    · rcases h6 with ⟨rfl, rfl⟩
      all_goals simp
    obtain ⟨rfl, rfl⟩ := h6
    try simp only [List.cons_append, List.nil_append]
    refine TD.norm (putS rfl (by simp only [List.set]; rfl)) ?_
    refine TD.q [8, 11] [] rfl rfl rfl rfl (by simp) (q_pickT rfl rfl rfl) (putS rfl (by simp only [List.set]; rfl)) ?_
    refine TD.q [12] [] rfl rfl rfl rfl (by simp) (q_move rfl rfl) (putS rfl (by simp only [List.set]; rfl)) ?_
    refine TD.sp 13 (fun g1_9 => ?_) (fun g1_9 => ?_)
    · refine TD.q [2, 13] [(_, _)] rfl rfl rfl rfl (fun _ h => by rw [List.mem_singleton.1 h]; repeat (first | exact List.Mem.head _ | apply List.Mem.tail)) (q_load rfl rfl TySz.h (List.Mem.head _) rfl) (putS rfl (by simp only [List.set]; rfl)) ?_
      refine TD.q [1, 13] [] rfl rfl rfl rfl (by simp) (q_move rfl rfl) (putS rfl (by simp only [List.set]; rfl)) ?_
      refine TD.q [2, 13] [] rfl rfl rfl rfl (by simp) (q_fieldAddr rfl rfl FldOf.h (by decide)) (putS rfl (by simp only [List.set]; rfl)) ?_
      refine TD.q [13, 17] [(_, _)] rfl rfl rfl rfl (fun _ h => by rw [List.mem_singleton.1 h]; repeat (first | exact List.Mem.head _ | apply List.Mem.tail)) (q_load1 rfl rfl TySz.h (List.Mem.head _) rfl) (putS rfl (by simp only [List.set]; rfl)) ?_
      refine TD.call' (pend' := [⟨13, [13, 17], [(_, _)]⟩, ⟨12, [2, 13], []⟩, ⟨7, [8, 11], []⟩]) [13, 14, 15] rfl rfl rfl rfl rfl rfl Cal.h rfl (wrongR_ok hT (s := s) (e := e) hb hS hI hlx) (by repeat (first | exact Split.none _ | exact Split.all _ | (apply Split.rem; repeat (first | exact Rem.head | apply Rem.tail)) | apply Split.right)) fun r7 K8 h9 => ⟨?_, ?_⟩
      · rcases h9 with ⟨rfl, rfl⟩
        all_goals simp
      obtain ⟨rfl, rfl⟩ := h9
      try simp only [List.cons_append, List.nil_append]
      refine TD.norm (putS rfl (by simp only [List.set]; rfl)) ?_
      refine TD.q [13, 16, 18] [] rfl rfl rfl rfl (by simp) (q_cmp rfl rfl rfl rfl) (putS rfl (by simp only [List.set]; rfl)) ?_
      refine TD.q [13, 19] [] rfl rfl rfl rfl (by simp) (q_pickT rfl rfl rfl) (putS rfl (by simp only [List.set]; rfl)) ?_
      refine TD.cq (env' := [_, _, _, _, _, _, _, _, _, _, _, _, _, _, _, _, _, _, _, _, _]) (pend' := []) [20] rfl rfl rfl rfl rfl (q_assign rfl rfl) rfl (by simp) ?_
      refine TD.fin ?_
      refine au [] ?_
      refine TK.rt hret [(s, _), (e, _), (j, _)] ?_
      exact ⟨by unfold canM; rw [g1_4, not_t' g1_9]; cases decide ((wrongL b xs b.seekers.length : Int) ≤ b.wrong) <;> rfl, rfl⟩
    refine TD.unwanted [2, 13] rfl rfl rfl (putS rfl (by simp only [List.set]; rfl)) ?_
    refine TD.unwanted [1, 13] rfl rfl rfl (putS rfl (by simp only [List.set]; rfl)) ?_
    refine TD.unwanted [2, 13] rfl rfl rfl (putS rfl (by simp only [List.set]; rfl)) ?_
    refine TD.unwanted [13, 17] rfl rfl rfl (putS rfl (by simp only [List.set]; rfl)) ?_
    refine TD.unwanted [13, 14, 15] rfl rfl rfl (putS rfl (by simp only [List.set]; rfl)) ?_
    refine TD.unwanted [13, 16, 18] rfl rfl rfl (putS rfl (by simp only [List.set]; rfl)) ?_
    refine TD.q [13, 19] [] rfl rfl rfl rfl (by simp) (q_pickF rfl rfl rfl) (putS rfl (by simp only [List.set]; rfl)) ?_
    refine TD.cq (env' := [_, _, _, _, _, _, _, _, _, _, _, _, _, _, _, _, _, _, _, _, _]) (pend' := []) [20] rfl rfl rfl rfl rfl (q_assign rfl rfl) rfl (by simp) ?_
    refine TD.fin ?_
    refine au [] ?_
    refine TK.rt hret [(s, _), (e, _), (j, _)] ?_
    exact ⟨by unfold canM; rw [not_f' g1_9]; rfl, rfl⟩
  refine TD.unwanted [2, 8] rfl rfl rfl (putS rfl (by simp only [List.set]; rfl)) ?_
  refine TD.unwanted [1, 8] rfl rfl rfl (putS rfl (by simp only [List.set]; rfl)) ?_
  refine TD.unwanted [8, 9, 10] rfl rfl rfl (putS rfl (by simp only [List.set]; rfl)) ?_
  refine TD.q [8, 11] [] rfl rfl rfl rfl (by simp) (q_pickF rfl rfl rfl) (putS rfl (by simp only [List.set]; rfl)) ?_
  refine TD.q [12] [] rfl rfl rfl rfl (by simp) (q_move rfl rfl) (putS rfl (by simp only [List.set]; rfl)) ?_
  refine TD.unwanted [2, 13] rfl rfl rfl (putS rfl (by simp only [List.set]; rfl)) ?_
  refine TD.unwanted [1, 13] rfl rfl rfl (putS rfl (by simp only [List.set]; rfl)) ?_
  refine TD.unwanted [2, 13] rfl rfl rfl (putS rfl (by simp only [List.set]; rfl)) ?_
  refine TD.unwanted [13, 17] rfl rfl rfl (putS rfl (by simp only [List.set]; rfl)) ?_
  refine TD.unwanted [13, 14, 15] rfl rfl rfl (putS rfl (by simp only [List.set]; rfl)) ?_
  refine TD.unwanted [13, 16, 18] rfl rfl rfl (putS rfl (by simp only [List.set]; rfl)) ?_
  refine TD.q [13, 19] [] rfl rfl rfl rfl (by simp) (q_pickF rfl rfl rfl) (putS rfl (by simp only [List.set]; rfl)) ?_
  refine TD.cq (env' := [_, _, _, _, _, _, _, _, _, _, _, _, _, _, _, _, _, _, _, _, _]) (pend' := []) [20] rfl rfl rfl rfl rfl (q_assign rfl rfl) rfl (by simp) ?_
  refine TD.fin ?_
  refine au [] ?_
  refine TK.rt hret [(s, _), (e, _), (j, _)] ?_
  exact ⟨by unfold canM; rw [g1_4, Bool.and_false]; rfl, rfl⟩

set_option maxRecDepth 20000 in
set_option maxHeartbeats 1000000 in
theorem rightRef_ok {main : Bool} {T : Goroutine → Hp → Prop} (hT : Shut Tryz.prog main T) {gm : Nat → Option Nat} {b : Bk} {s e j off : Nat} {ob : AObj} {xs : List Int} {k : Int} (hse : s ≠ e) (hn : ∀ x ∈ b.seekers, x.name.size ≤ 1000) (hl : b.seen.length ≤ 1000) (hl2 : b.seekers.length ≤ 1000) (hI : IntsAt ob off xs) (hlx : xs.length ≤ 1000)  :
    CallK Tryz.prog T gm 10 [.agg (bookC b s e), .sl j off xs.length, intA k] [(s, saysO b), (e, seenO b), (j, ob)] (fun r K' => r = .tup [boolA (rightApi b xs k).1, intA (rightApi b xs k).2] ∧ K' = [(s, saysO b), (e, seenO b), (j, ob)]) := by
  refine callK_in 29 hT Tryz.func10 fun Y hret => ?_
  refine au [4, 5, 21] ?_
  intro jb hjb
  refine au [2, 2, 3, 4, 4, 5, 8] ?_
  refine TK.cl rfl rfl rfl rfl (checkR_ok hT hse hn hl hl2) ?_
  rintro r1 K2 ⟨rfl, rfl⟩
  refine au [2, 3, 4, 5, 1, 6, 3, 20] ?_
  refine ⟨fun hc0 => ?_, fun hc0 => ?_⟩
  · have hc1 : checkM b ≠ 0 := by simpa using hc0
    refine au [4, 5, 1, 2, 2, 3] ?_
    refine TK.rt hret [(s, _), (e, _), (j, _)] ?_
    exact ⟨by unfold rightApi; rw [if_pos hc1]; rfl, rfl⟩
  have hc1 : checkM b = 0 := by simpa using hc0
  have hb := bkOk_of hc1
  refine au [12, 4, 4, 5, 8, 1] ?_
  refine TK.cl rfl rfl rfl rfl (checkSeams_ok hT (s := s) (e := e) (b := b) (by have := hb.steps; omega) hI hlx) ?_
  rintro r4 K5 ⟨rfl, rfl⟩
  refine au [2, 3, 4, 5, 1, 6, 3, 20] ?_
  refine ⟨fun hc2 => ?_, fun hc2 => ?_⟩
  · have hc3 : handedM b xs ≠ 0 := by simpa using hc2
    refine au [4, 5, 1, 2, 2, 3] ?_
    refine TK.rt hret [(s, _), (e, _), (j, _)] ?_
    exact ⟨by unfold rightApi; rw [if_neg (fun h => h hc1), if_pos hc3]; rfl, rfl⟩
  have hc3 : handedM b xs = 0 := by simpa using hc2
  have hS := handed_ok hc3
  refine au [12, 4, 4, 5, 8, 1] ?_
  refine TK.cl rfl rfl rfl rfl (isSeekerR_ok hT (s := s) (e := e) hl2) ?_
  rintro r7 K8 ⟨rfl, rfl⟩
  refine au [30, 3, 20] ?_
  refine ⟨fun hc4 => ?_, fun hc4 => ?_⟩
  · refine au [4, 5, 2, 2, 3] ?_
    refine TK.rt hret [(s, _), (e, _), (j, _)] ?_
    exact ⟨by unfold rightApi; rw [if_neg (fun h => h hc1), if_neg (fun h => h hc3), if_pos hc4]; rfl, rfl⟩
  obtain ⟨m, rfl⟩ : ∃ m : Nat, k = m := ⟨k.toNat, by simp only [isSeekerM, Bool.not_eq_false', Bool.and_eq_true, decide_eq_true_eq] at hc4; omega⟩
  have hm : m < b.seekers.length := by simp only [isSeekerM, Bool.not_eq_false', Bool.and_eq_true, decide_eq_true_eq] at hc4; omega
  refine au [12, 4, 5, 8, 1, 1] ?_
  refine TK.cl rfl rfl rfl rfl (rightR_ok hT (s := s) (e := e) hb hS hm hI hlx) ?_
  rintro r10 K11 ⟨rfl, rfl⟩
  refine au [2, 2, 3] ?_
  refine TK.rt hret [(s, _), (e, _), (j, _)] ?_
  exact ⟨by unfold rightApi; rw [if_neg (fun h => h hc1), if_neg (fun h => h hc3), if_neg (by rw [hc4]; decide)]; rfl, rfl⟩

set_option maxRecDepth 20000 in
set_option maxHeartbeats 1000000 in
theorem stateRef_ok {main : Bool} {T : Goroutine → Hp → Prop} (hT : Shut Tryz.prog main T) {gm : Nat → Option Nat} {b : Bk} {s e j off : Nat} {ob : AObj} {xs : List Int} (hse : s ≠ e) (hn : ∀ x ∈ b.seekers, x.name.size ≤ 1000) (hl : b.seen.length ≤ 1000) (hl2 : b.seekers.length ≤ 1000) (hI : IntsAt ob off xs) (hlx : xs.length ≤ 1000)  :
    CallK Tryz.prog T gm 12 [.agg (bookC b s e), .sl j off xs.length] [(s, saysO b), (e, seenO b), (j, ob)] (fun r K' => r = .tup [boolA (stateSim b xs).1, intA (stateSim b xs).2] ∧ K' = [(s, saysO b), (e, seenO b), (j, ob)]) := by
  refine callK_in 22 hT Tryz.func12 fun Y hret => ?_
  refine au [4, 5, 21] ?_
  intro jb hjb
  refine au [2, 2, 3, 4, 4, 5, 8] ?_
  refine TK.cl rfl rfl rfl rfl (checkR_ok hT hse hn hl hl2) ?_
  rintro r1 K2 ⟨rfl, rfl⟩
  refine au [2, 3, 4, 5, 1, 6, 3, 20] ?_
  refine ⟨fun hc0 => ?_, fun hc0 => ?_⟩
  · have hc1 : checkM b ≠ 0 := by simpa using hc0
    refine au [4, 5, 1, 2, 2, 3] ?_
    refine TK.rt hret [(s, _), (e, _), (j, _)] ?_
    exact ⟨by unfold stateSim; rw [if_pos hc1]; rfl, rfl⟩
  have hc1 : checkM b = 0 := by simpa using hc0
  have hb := bkOk_of hc1
  refine au [12, 4, 4, 5, 8, 1] ?_
  refine TK.cl rfl rfl rfl rfl (checkSeams_ok hT (s := s) (e := e) (b := b) (by have := hb.steps; omega) hI hlx) ?_
  rintro r4 K5 ⟨rfl, rfl⟩
  refine au [2, 3, 4, 5, 1, 6, 3, 20] ?_
  refine ⟨fun hc2 => ?_, fun hc2 => ?_⟩
  · have hc3 : handedM b xs ≠ 0 := by simpa using hc2
    refine au [4, 5, 1, 2, 2, 3] ?_
    refine TK.rt hret [(s, _), (e, _), (j, _)] ?_
    exact ⟨by unfold stateSim; rw [if_neg (fun h => h hc1), if_pos hc3]; rfl, rfl⟩
  have hc3 : handedM b xs = 0 := by simpa using hc2
  have hS := handed_ok hc3
  refine au [12, 4, 5, 8, 1] ?_
  refine TK.cl rfl rfl rfl rfl (stateR_ok hT hse hb hS hI hlx) ?_
  rintro r7 K8 ⟨rfl, rfl⟩
  refine au [2, 2, 3] ?_
  refine TK.rt hret [(s, _), (e, _), (j, _)] ?_
  exact ⟨by unfold stateSim; rw [if_neg (fun h => h hc1), if_neg (fun h => h hc3)]; rfl, rfl⟩

set_option maxRecDepth 20000 in
set_option maxHeartbeats 1000000 in
theorem sameInts_ok {main : Bool} {T : Goroutine → Hp → Prop} (hT : Shut Tryz.prog main T) {gm : Nat → Option Nat} {j off j2 off2 : Nat} {ob ob2 : AObj} {xs ys : List Int} (hjj : j ≠ j2) (hI : IntsAt ob off xs) (hI2 : IntsAt ob2 off2 ys) (hlx : xs.length ≤ 100000) :
    CallK Tryz.prog T gm 21 [.sl j off xs.length, .sl j2 off2 ys.length] [(j, ob), (j2, ob2)] (fun r K' => r = boolA (decide (xs = ys)) ∧ K' = [(j, ob), (j2, ob2)]) := by
  refine callK_in 26 hT Tryz.func21 fun Y hret => ?_
  refine au [4, 5, 2, 3, 4, 4, 5, 1, 28, 1, 28, 6, 3, 20] ?_
  refine ⟨fun hc0 => ?_, fun hc0 => ?_⟩
  · refine au [4, 5, 2, 3] ?_
    refine TK.rt hret [(j, _), (j2, _)] ?_
    exact ⟨by rw [decide_eq_false (fun h => by rw [h] at hc0; simp at hc0)]; rfl, rfl⟩
  have hlen : xs.length = ys.length := by have h : (xs.length : Int) = ys.length := (by simpa using hc0); omega
  refine au [12, 4, 4, 5, 2, 3, 13] ?_
  refine TK.maskL [0, 1, 5] ?_
  refine TK.loopN (fun n env K => ∃ (i : Nat), n = xs.length - i ∧ i ≤ xs.length ∧ xs.take i = ys.take i ∧ env = slotsA 26 [(0, .sl j off xs.length), (1, .sl j2 off2 ys.length), (5, intA i)] ∧ K = [(j, ob), (j2, ob2)]) xs.length ⟨0, rfl, Nat.zero_le _, rfl, rfl, rfl⟩ fun n env K hI' hnext => ?_
  obtain ⟨i, rfl, hi, hn, rfl, rfl⟩ := hI'
  refine au [4, 4, 5, 1, 1, 28, 6, 3, 20] ?_
  refine ⟨fun hc => ?_, fun hc => ?_⟩
  · simp only [decide_eq_true_eq] at hc
    have hil : i < xs.length := by omega
    refine au [12, 4, 13, 4] ?_
    refine TK.draw [0, 1, 2, 3, 4, 5, 6, 7, 8] [0, 1, 2, 3, 4, 5, 6, 7, 8] (by kernel_rfl) (by kernel_rfl) ?_
    refine TD.q [0] [] rfl rfl rfl rfl (by simp) (q_move rfl rfl) (putS rfl (by simp only [List.set]; rfl)) ?_
    refine TD.q [5] [] rfl rfl rfl rfl (by simp) (q_move rfl rfl) (putS rfl (by simp only [List.set]; rfl)) ?_
    refine TD.q [17, 18] [] rfl rfl rfl rfl (by simp) (q_indexSl rfl rfl rfl SlEl.h (by omega) (by omega)) (putS rfl (by simp only [List.set]; rfl)) ?_
    refine TD.q [19] [(_, _)] rfl rfl rfl rfl (fun _ h => by rw [List.mem_singleton.1 h]; repeat (first | exact List.Mem.head _ | apply List.Mem.tail)) (q_load1 rfl rfl TySz.h (List.Mem.head _) (hI i hil)) (putS rfl (by simp only [List.set]; rfl)) ?_
    refine TD.q [1] [] rfl rfl rfl rfl (by simp) (q_move rfl rfl) (putS rfl (by simp only [List.set]; rfl)) ?_
    refine TD.q [5] [] rfl rfl rfl rfl (by simp) (q_move rfl rfl) (putS rfl (by simp only [List.set]; rfl)) ?_
    refine TD.q [21, 22] [] rfl rfl rfl rfl (by simp) (q_indexSl rfl rfl rfl SlEl.h (by omega) (by omega)) (putS rfl (by simp only [List.set]; rfl)) ?_
    refine TD.q [23] [(_, _)] rfl rfl rfl rfl (fun _ h => by rw [List.mem_singleton.1 h]; repeat (first | exact List.Mem.head _ | apply List.Mem.tail)) (q_load1 rfl rfl TySz.h (List.Mem.head _) (hI2 i (by omega))) (putS rfl (by simp only [List.set]; rfl)) ?_
    refine TD.q [20, 24] [] rfl rfl rfl rfl (by simp) (q_cmp rfl rfl rfl rfl) (putS rfl (by simp only [List.set]; rfl)) ?_
    refine TD.fin ?_
    refine au [20] ?_
    refine ⟨fun hc2 => ?_, fun hc2 => ?_⟩
    · refine au [4, 5, 2, 3] ?_
      refine TK.rt hret [(j, _), (j2, _)] ?_
      exact ⟨by rw [decide_eq_false (fun h => by subst h; simp at hc2)]; rfl, rfl⟩
    refine au [12, 14, 5, 1, 23, 2, 3] ?_
    refine TK.maskL [0, 1, 5] ?_
    exact hnext _ _ _ (by omega) ⟨i + 1, rfl, by omega, take_next hil (by omega) hn (by simpa using hc2), rfl, rfl⟩
  simp only [decide_eq_false_iff_not] at hc
  obtain rfl : i = xs.length := by omega
  refine au [16, 4, 5, 2, 3] ?_
  refine TK.rt hret [(j, _), (j2, _)] ?_
  exact ⟨by rw [decide_eq_true (by rwa [List.take_length, hlen, List.take_length] at hn)]; rfl, rfl⟩
end Go.Vel
end
section
set_option linter.all false
namespace Go.Vel
open Go Go.Conc Go.Proofs

theorem mem_loopM {b : Bk} : ∀ (rest S T : List Int), T.Sublist rest → T ≠ [] → ((S ++ T).length : Int) ≤ b.high → seenM b (S ++ T) = true → S ++ T ∈ loopM b S rest
  | [], S, T, hs, hne, _, _ => absurd (List.sublist_nil.1 hs) hne
  | n :: rest, S, T, hs, hne, hl, hsn => by
    have hlt : (S.length : Int) < b.high := by
      have : 0 < T.length := List.length_pos_iff.2 hne
      rw [List.length_append] at hl
      omega
    unfold loopM
    rw [if_pos hlt]
    cases hs with
    | cons _ h => exact List.mem_append.2 (.inr (mem_loopM rest S T h hne hl hsn))
    | cons_cons _ h =>
      rename_i T'
      refine List.mem_append.2 (.inl ?_)
      rw [show S ++ n :: T' = (S ++ [n]) ++ T' by simp] at hl hsn ⊢
      by_cases h0 : T' = []
      · subst h0
        rw [List.append_nil] at hl hsn ⊢
        refine List.mem_append.2 (.inl ?_)
        unfold ownM
        rw [if_pos hsn]
        exact List.mem_singleton.2 rfl
      · exact List.mem_append.2 (.inr (mem_loopM rest (S ++ [n]) T' h h0 hl hsn))
theorem sub_rest {b : Bk} : ∀ (m i : Nat) (xs : List Int), b.steps.toNat - i = m → xs.Pairwise (· < ·) → (∀ x ∈ xs, (i : Int) ≤ x ∧ x < b.steps) → xs.Sublist (restM b i)
  | _, _, [], _, _, _ => List.nil_sublist _
  | 0, i, x :: xs, hm, _, hb => by have := hb x (by simp); omega
  | m + 1, i, x :: xs, hm, hp, hb => by
    rw [restM_cons (by omega)]
    have h2 := List.pairwise_cons.1 hp
    by_cases hx : x = i
    · subst hx
      refine .cons_cons _ (sub_rest m (i + 1) xs (by omega) h2.2 fun y hy => ?_)
      have := h2.1 y hy
      have := hb y (by simp [hy])
      omega
    · refine .cons _ (sub_rest m (i + 1) (x :: xs) (by omega) hp fun y hy => ?_)
      have h3 := hb x (by simp)
      have h4 := hb y hy
      rcases List.mem_cons.1 hy with rfl | hy
      · omega
      · have := h2.1 y hy; omega
theorem handed_lt {b : Bk} {xs : List Int} (h : handedM b xs = 0) {i : Nat} (hi : i + 1 < xs.length) : xs[i] < xs[i + 1] := by
  have h1 := handed_bar h hi
  unfold barH at h1
  rw [List.getElem?_eq_getElem hi] at h1
  dsimp only at h1
  split at h1
  · cases h1
  · split at h1
    · cases h1
    · rename_i h2
      rw [show i + 1 - 1 = i by omega, List.getElem?_eq_getElem (show i < xs.length by omega)] at h2
      simp only [Option.getD_some, Bool.and_eq_true, decide_eq_true_eq, not_and] at h2
      have := h2 (by omega)
      omega
theorem handed_pair {b : Bk} {xs : List Int} (h : handedM b xs = 0) : xs.Pairwise (· < ·) := by
  rw [List.pairwise_iff_getElem]
  intro i j hi hj hij
  obtain ⟨d, rfl⟩ : ∃ d, j = i + 1 + d := ⟨j - (i + 1), by omega⟩
  clear hij
  induction d with
  | zero => exact handed_lt h hj
  | succ d ih => exact Int.lt_trans (ih (by omega)) (handed_lt h (show i + 1 + d + 1 < xs.length from hj))
theorem mem_allM {b : Bk} {xs : List Int} (h : handedM b xs = 0) (hs : seenM b xs = true) : xs ∈ allM b := by
  unfold allM
  have hh : ((xs.length : Int)) ≤ b.high := by
    unfold seenM at hs
    simp only [Bool.and_eq_true, decide_eq_true_eq] at hs
    exact hs.1.2
  by_cases h0 : xs = []
  · subst h0
    refine List.mem_append.2 (.inl ?_)
    unfold ownM
    rw [if_pos hs]
    exact List.mem_singleton.2 rfl
  · exact List.mem_append.2 (.inr (mem_loopM (restM b 0) [] xs (sub_rest _ 0 xs rfl (handed_pair h) fun x hx => by have := (handed_ok h).mem x hx; omega) h0 hh hs))
theorem state_eq (b : Bk) (xs : List Int) : stateApi b xs = stateSim b xs := by
  unfold stateApi stateSim
  by_cases h1 : checkM b ≠ 0
  · rw [if_pos h1, if_pos h1]
  · rw [if_neg h1, if_neg h1]
    by_cases h2 : handedM b xs ≠ 0
    · rw [if_pos h2, if_pos h2]
    · rw [if_neg h2, if_neg h2]
      cases h3 : canM b xs with
      | false => rw [Bool.and_false]
      | true =>
        have h4 : seenM b xs = true := by
          unfold canM at h3
          simp only [Bool.and_eq_true] at h3
          exact h3.2
        rw [decide_eq_true (mem_allM (by simpa using h2) h4)]; rfl
end Go.Vel
end
section
set_option linter.all false
namespace Go.Vel
open Go Go.Conc Go.Proofs

/-! ### lists of lists -/
def objsL (P : List (Nat × List Int)) : KV := P.map fun x => (x.1, .cells (x.2.map intA) 3 false)
def refsL (P : List (Nat × List Int)) : List AV := P.map fun x => .sl x.1 0 x.2.length
theorem objsL_app (P : List (Nat × List Int)) (x : Nat × List Int) : objsL (P ++ [x]) = objsL P ++ [(x.1, .cells (x.2.map intA) 3 false)] := by simp [objsL]
theorem refsL_app (P : List (Nat × List Int)) (x : Nat × List Int) : refsL (P ++ [x]) = refsL P ++ [.sl x.1 0 x.2.length] := by simp [refsL]
theorem objsL_mem {P : List (Nat × List Int)} {x : Nat × List Int} (h : x ∈ P) : (x.1, AObj.cells (x.2.map intA) 3 false) ∈ objsL P := List.mem_map.2 ⟨x, h, rfl⟩
theorem refs_take {P : List (Nat × List Int)} {k : Nat} (h : k < P.length) {e : TypeId} {sz : Nat} : takeO (.row (refsL P) e sz) k 1 = some [.sl P[k].1 0 P[k].2.length] := by
  simp only [takeO, AObj.look]
  rw [if_pos (by simp [refsL]; omega)]
  simp [List.take_one, refsL, h]
abbrev Gs := Nat × List Int × Int
def objsG (P : List Gs) : KV := P.map fun x => (x.1, .cells (x.2.1.map intA) 3 false)
def refsG (P : List Gs) : List AV := P.flatMap fun x => [.sl x.1 0 x.2.1.length, intA x.2.2]
theorem objsG_app (P : List Gs) (x : Gs) : objsG (P ++ [x]) = objsG P ++ [(x.1, .cells (x.2.1.map intA) 3 false)] := by simp [objsG]
theorem refsG_app (P : List Gs) (x : Gs) : refsG (P ++ [x]) = refsG P ++ [.sl x.1 0 x.2.1.length, intA x.2.2] := by simp [refsG]
theorem objsG_mem {P : List Gs} {x : Gs} (h : x ∈ P) : (x.1, AObj.cells (x.2.1.map intA) 3 false) ∈ objsG P := List.mem_map.2 ⟨x, h, rfl⟩
theorem refsG_len (P : List Gs) : (refsG P).length = P.length * 2 := flat_len _ 2 (fun _ => rfl) P
theorem refsG_take {P : List Gs} {k : Nat} (h : k < P.length) {e : TypeId} {sz : Nat} : takeO (.row (refsG P) e sz) (k * 2) 2 = some [.sl P[k].1 0 P[k].2.1.length, intA P[k].2.2] := by
  have hle : (k + 1) * 2 ≤ P.length * 2 := Nat.mul_le_mul_right _ h
  have hl := refsG_len P
  simp only [takeO, AObj.look]
  rw [if_pos ⟨by omega, by omega⟩]
  unfold refsG
  rw [flat_take _ 2 (fun _ => rfl) _ _ h]
theorem firstL_map {α β : Type} (f : α → β) (lt : β → β → Bool) (o : α) (xs : List α) : f (firstL (fun a c => lt (f a) (f c)) o xs) = firstL lt (f o) (xs.map f) := by
  induction xs generalizing o with
  | nil => rfl
  | cons x xs ih =>
    show f (firstL _ (if lt (f x) (f o) = true then x else o) xs) = firstL lt (if lt (f x) (f o) = true then f x else f o) (xs.map f)
    rw [ih]
    split <;> rfl
def bitsM (n bits : Nat) : List Int := ((List.range n).filter (bitB bits)).map fun k : Nat => (k : Int)
theorem bitsM_T {n bits : Nat} (h : bitB bits n = true) : bitsM (n + 1) bits = bitsM n bits ++ [(n : Int)] := by
  unfold bitsM; rw [List.range_succ, List.filter_append]; simp [h]
theorem bitsM_F {n bits : Nat} (h : bitB bits n = false) : bitsM (n + 1) bits = bitsM n bits := by
  unfold bitsM; rw [List.range_succ, List.filter_append]; simp [h]
theorem bitsM_len (n bits : Nat) : (bitsM n bits).length ≤ n := by
  unfold bitsM; rw [List.length_map]; exact Nat.le_trans (List.length_filter_le _ _) (by simp)
def oddM (b : Bk) (k : Nat) : List (List Int) := ((List.range k).filter fun bits => !togM b bits).map (bitsM b.seekers.length)
theorem oddM_T {b : Bk} {k : Nat} (h : togM b k = true) : oddM b (k + 1) = oddM b k := by
  unfold oddM; rw [List.range_succ, List.filter_append]; simp [h]
theorem oddM_F {b : Bk} {k : Nat} (h : togM b k = false) : oddM b (k + 1) = oddM b k ++ [bitsM b.seekers.length k] := by
  unfold oddM; rw [List.range_succ, List.filter_append]; simp [h]
theorem oddM_len (b : Bk) (k : Nat) : (oddM b k).length ≤ k := by
  unfold oddM; rw [List.length_map]; exact Nat.le_trans (List.length_filter_le _ _) (by simp)
theorem oddM_all {b : Bk} {k : Nat} : ∀ L ∈ oddM b k, L.length ≤ b.seekers.length := fun L hL => by
  obtain ⟨q, _, rfl⟩ := List.mem_map.1 hL
  exact bitsM_len _ _
def everyM (b : Bk) : Nat := 2 ^ b.seekers.length - 1
def clashM (b : Bk) : List Int := firstL ltLists ((oddM b (everyM b + 1)).headD []) ((oddM b (everyM b + 1)).drop 1)
def guessM (b : Bk) (pre : List (List Int)) : List (List Int × Int) := (pre.filter fun S => !badM b S b.seekers.length).map fun S => (S, wrongM b S)
theorem guessM_T {b : Bk} {pre : List (List Int)} {S : List Int} (h : badM b S b.seekers.length = false) : guessM b (pre ++ [S]) = guessM b pre ++ [(S, wrongM b S)] := by
  unfold guessM; rw [List.filter_append]; simp [h]
theorem guessM_F {b : Bk} {pre : List (List Int)} {S : List Int} (h : badM b S b.seekers.length = true) : guessM b (pre ++ [S]) = guessM b pre := by
  unfold guessM; rw [List.filter_append]; simp [h]
def likelyM (b : Bk) : List Int × Int := firstL ltGuess ((guessM b (allM b)).headD ([], 0)) ((guessM b (allM b)).drop 1)


set_option maxRecDepth 20000 in
set_option maxHeartbeats 4000000 in
theorem clash_ok {main : Bool} {T : Goroutine → Hp → Prop} (hT : Shut Tryz.prog main T)  {b : Bk} {s e : Nat} (hse : s ≠ e) (hn : ∀ x ∈ b.seekers, x.name.size ≤ 1000) (hl : b.seen.length ≤ 1000) :
    CallK Tryz.prog T gmS 32 [.agg (bookC b s e)] [(0, checksG), (1, saysG), (s, saysO b), (e, seenO b)] (fun r K' => (checkM b ≠ 0 ∧ r = .tup [.v (.slice none 0 0), intA (checkM b)] ∧ K' = [(0, checksG), (1, saysG), (s, saysO b), (e, seenO b)]) ∨ (checkM b = 0 ∧ togM b (everyM b) = true ∧ r = .tup [.v (.slice none 0 0), intA 0] ∧ K' = [(0, checksG), (1, saysG), (s, saysO b), (e, seenO b)]) ∨ (checkM b = 0 ∧ togM b (everyM b) = false ∧ ∃ j, r = .tup [.sl j 0 (clashM b).length, intA 0] ∧ K' = [(0, checksG), (1, saysG), (s, saysO b), (e, seenO b), (j, .cells ((clashM b).map intA) 3 false)])) := by
  refine callK_in 60 hT Tryz.func32 fun Y hret => ?_
  refine au [4, 5, 21] ?_
  intro jb hjb
  refine au [2, 2, 3, 4, 4, 5, 8] ?_
  refine TK.cl rfl rfl rfl rfl (check_ok hT (b := b) (s := s) (e := e) hn hl) ?_
  rintro r1 K2 ⟨rfl, rfl⟩
  refine au [2, 3, 4, 5, 1, 6, 3, 20] ?_
  refine ⟨fun hc0 => ?_, fun hc0 => ?_⟩
  · refine au [4, 5, 1, 2, 2, 3] ?_
    refine TK.rt hret [(0, _), (1, _), (s, _), (e, _)] ?_
    exact .inl ⟨by simpa using hc0, rfl, rfl⟩
  have hck : checkM b = 0 := by simpa using hc0
  have hb := bkOk_of hck
  have hn5 := hb.ns
  have hp32 : 2 ^ b.seekers.length ≤ 32 := Nat.le_trans (Nat.pow_le_pow_right (by omega) hn5) (by decide)
  have hp1 : 1 ≤ 2 ^ b.seekers.length := Nat.one_le_two_pow
  have hev : (((2 ^ b.seekers.length : Nat) : Int) - 1) = ((everyM b : Nat) : Int) := by unfold everyM; omega
  have hel : everyM b ≤ 31 := by unfold everyM; omega
  refine au [12, 4, 5, 7, 9, 28] ?_
  refine TK.a rfl (q_shl1 rfl rfl rfl (by omega)) ?_
  refine TK.a rfl (q_sub rfl rfl rfl (by rw [hev]; omega)) ?_
  rw [hev]
  refine au [2, 3, 4, 4, 5, 8, 43, 1] ?_
  refine TK.cl rfl rfl rfl rfl (together_ok hT (bits := everyM b) hse hb (by omega)) ?_
  rintro r4 K5 ⟨rfl, rfl⟩
  refine au [3, 20] ?_
  refine ⟨fun hc1 => ?_, fun hc1 => ?_⟩
  · refine au [4, 5, 2, 2, 3] ?_
    refine TK.rt hret [(0, _), (1, _), (s, _), (e, _)] ?_
    exact .inr (.inl ⟨hck, hc1, rfl, rfl⟩)
  refine au [12, 4, 5, 2] ?_
  refine TK.virt 6 28 1 rfl fun jo0 hjo0 => ?_
  refine au [3, 4, 4, 5, 1, 23, 1, 3, 13] ?_
  refine TK.maskL [1, 6, 25, 26] ?_
  refine TK.kp [(jo0, _), (jb, _), (0, _), (1, _), (s, _), (e, _)] ?_
  refine TK.loopN (fun n env K => ∃ (i jo : Nat) (P : List (Nat × List Int)), n = everyM b + 1 - i ∧ i ≤ everyM b + 1 ∧ P.map (·.2) = oddM b i ∧ env = slotsA 60 [(1, .ptr jb 0), (6, .row jo P.length), (25, intA (everyM b + 1)), (26, intA i)] ∧ K = (jo, .row (refsL P) 28 1) :: (jb, .cells (bookC b s e) 27 true) :: (0, checksG) :: (1, saysG) :: (s, saysO b) :: (e, seenO b) :: objsL P) (everyM b + 1) ⟨0, jo0, [], rfl, Nat.zero_le _, rfl, rfl, rfl⟩ fun n env K hI' hnext => ?_
  obtain ⟨i, jo, P, rfl, hi, hP, rfl, rfl⟩ := hI'
  have hPl : P.length ≤ i := by have := oddM_len b i; rw [← hP, List.length_map] at this; exact this
  refine au [4, 5, 6, 3, 4, 20] ?_
  refine ⟨fun hc2 => ?_, fun hc2 => ?_⟩
  · simp only [decide_eq_true_eq] at hc2
    have hil : i < everyM b + 1 := by omega
    refine au [12, 4, 13, 4, 5, 1, 2, 3, 4, 4, 5, 8, 43, 1] ?_
    refine TK.cl rfl rfl rfl rfl (together_ok hT (bits := i) hse hb (by omega)) ?_
    rintro r7 K8 ⟨rfl, rfl⟩
    refine au [3, 20] ?_
    refine ⟨fun hc3 => ?_, fun hc3 => ?_⟩
    · refine au [16] ?_
      
      refine au [5, 23, 1, 3] ?_
      refine TK.maskL [1, 6, 25, 26] ?_
      refine TK.kp (((jo, _) :: (jb, _) :: (0, _) :: (1, _) :: (s, _) :: (e, _) :: objsL P)) ?_
      exact hnext _ _ _ (by omega) ⟨i + 1, jo, P, rfl, by omega, by rw [oddM_T hc3]; exact hP, rfl, rfl⟩
    refine au [12, 4, 5, 2] ?_
    refine TK.virt 8 3 1 rfl fun j80 hj80 => ?_
    refine au [3, 4, 4, 5, 7, 9, 28, 1, 3, 13] ?_
    refine TK.maskL [1, 6, 7, 8, 25, 26, 35, 36] ?_
    refine TK.kp ((j80, _) :: (jo, _) :: (jb, _) :: (0, _) :: (1, _) :: (s, _) :: (e, _) :: objsL P) ?_
    refine TK.loopN (fun n env K => ∃ (q j8 : Nat), n = b.seekers.length - q ∧ q ≤ b.seekers.length ∧ env = slotsA 60 [(1, .ptr jb 0), (6, .row jo P.length), (7, intA i), (8, .row j8 (bitsM q i).length), (25, intA (everyM b + 1)), (26, intA i), (35, intA b.seekers.length), (36, intA q)] ∧ K = (j8, .row ((bitsM q i).map intA) 3 1) :: (jo, .row (refsL P) 28 1) :: (jb, .cells (bookC b s e) 27 true) :: (0, checksG) :: (1, saysG) :: (s, saysO b) :: (e, seenO b) :: objsL P) b.seekers.length ⟨0, j80, rfl, Nat.zero_le _, rfl, rfl⟩ fun n env K hI' hnext2 => ?_
    obtain ⟨q, j8, rfl, hq, rfl, rfl⟩ := hI'
    have hql2 := bitsM_len q i
    refine au [4, 5, 6, 3, 4, 20] ?_
    refine ⟨fun hc4 => ?_, fun hc4 => ?_⟩
    · simp only [decide_eq_true_eq] at hc4
      have hql : q < b.seekers.length := by omega
      refine au [12, 4, 13, 4, 5, 1, 2, 3, 4, 5, 1, 1] ?_
      refine TK.a rfl (q_shrN rfl rfl rfl (by omega)) ?_
      refine TK.a rfl (q_and1 rfl rfl rfl (by have := Nat.div_le_self i (2 ^ q); omega)) ?_
      refine au [6, 3, 20] ?_
      refine ⟨fun hc5 => ?_, fun hc5 => ?_⟩
      · have hc5 : bitB i q = true := hc5
        refine au [5, 1, 1] ?_
        refine TK.newR rfl rfl rfl (n_buildSlice (l := [_]) rfl SlEl.h TyZ.h (by decide) (by decide) rfl) (fun _ => putS rfl (by simp only [List.set]; rfl)) fun j10 hj10 => ?_
        refine TK.appR rfl rfl rfl (a_app rfl ApOf.h rfl (by repeat (first | exact List.Mem.head _ | assumption | apply List.Mem.tail)) (by simp <;> omega) rfl (src_row (ln := [_]) (by repeat (first | exact List.Mem.head _ | assumption | apply List.Mem.tail)) (by decide) (by simp) rfl) (by omega) rfl (by unfold maxLen; omega) (by omega)) (fun _ => (by repeat (first | exact Upd.head | apply Upd.tail))) (fun _ => putS rfl (by simp only [List.set]; rfl)) fun j82 => ?_
        refine au [2, 3, 14, 5, 23, 1, 3] ?_
        refine TK.maskL [1, 6, 7, 8, 25, 26, 35, 36] ?_
        refine TK.kp (((j82, _) :: (jo, _) :: (jb, _) :: (0, _) :: (1, _) :: (s, _) :: (e, _) :: objsL P)) ?_
        exact hnext2 _ _ _ (by omega) ⟨q + 1, j82, rfl, by omega, by rw [bitsM_T hc5, List.length_append]; rfl, by rw [bitsM_T hc5, List.map_append]; rfl⟩
      have hc5 : bitB i q = false := hc5
      refine au [12, 14, 5, 23, 1, 3] ?_
      refine TK.maskL [1, 6, 7, 8, 25, 26, 35, 36] ?_
      refine TK.kp (((j8, _) :: (jo, _) :: (jb, _) :: (0, _) :: (1, _) :: (s, _) :: (e, _) :: objsL P)) ?_
      exact hnext2 _ _ _ (by omega) ⟨q + 1, j8, rfl, by omega, by rw [bitsM_F hc5] <;> rfl, by rw [bitsM_F hc5] <;> rfl⟩
    simp only [decide_eq_false_iff_not] at hc4
    obtain rfl : q = b.seekers.length := by omega
    refine au [16] ?_
    refine TK.freezeR 8 rfl (by repeat (first | exact Upd.head | apply Upd.tail)) rfl ?_
    refine au [5, 1, 1] ?_
    refine TK.newR rfl rfl rfl (n_buildSlice (l := [_]) rfl SlEl.h TyZ.h (by decide) (by decide) rfl) (fun _ => putS rfl (by simp only [List.set]; rfl)) fun j19 hj19 => ?_
    refine TK.appR rfl rfl rfl (a_app rfl ApOf.h rfl (by repeat (first | exact List.Mem.head _ | assumption | apply List.Mem.tail)) (by simp [refsL]) rfl (src_row (ln := [_]) (by repeat (first | exact List.Mem.head _ | assumption | apply List.Mem.tail)) (by decide) (by simp) rfl) (by omega) rfl (by unfold maxLen; omega) (by omega)) (fun _ => (by repeat (first | exact Upd.head | apply Upd.tail))) (fun _ => putS rfl (by simp only [List.set]; rfl)) fun jo2 => ?_
    refine au [2, 3, 14] ?_
    
    refine au [5, 23, 1, 3] ?_
    refine TK.maskL [1, 6, 25, 26] ?_
    refine TK.kp (((j8, _) :: (jo2, _) :: (jb, _) :: (0, _) :: (1, _) :: (s, _) :: (e, _) :: objsL P)) ?_
    refine TK.perm (K' := (jo2, .row (refsL (P ++ [(j8, bitsM b.seekers.length i)])) 28 1) :: (jb, .cells (bookC b s e) 27 true) :: (0, checksG) :: (1, saysG) :: (s, saysO b) :: (e, seenO b) :: objsL (P ++ [(j8, bitsM b.seekers.length i)])) (by rw [objsL_app, refsL_app]; exact (List.perm_append_singleton _ ((jo2, _) :: (jb, _) :: (0, _) :: (1, _) :: (s, _) :: (e, _) :: objsL P)).symm) ?_
    exact hnext _ _ _ (by omega) ⟨i + 1, jo2, P ++ [(j8, bitsM b.seekers.length i)], rfl, by omega, by rw [oddM_F hc3, List.map_append, hP]; rfl, by rw [List.length_append]; rfl, rfl⟩
  simp only [decide_eq_false_iff_not] at hc2
  obtain rfl : i = everyM b + 1 := by omega
  obtain ⟨p, ps, rfl⟩ : ∃ p ps, P = p :: ps := by
    cases P with
    | nil =>
      rw [oddM_F hc1] at hP
      have := congrArg List.length hP
      simp at this
    | cons p ps => exact ⟨p, ps, rfl⟩
  have hlen : ∀ x ∈ p :: ps, x.2.length ≤ 1000 := fun x hx => by
    have := oddM_all (b := b) (k := everyM b + 1) x.2 (by rw [← hP]; exact List.mem_map_of_mem (f := fun x : Nat × List Int => x.2) hx)
    omega
  refine au [16, 4] ?_
  refine TK.draw [0, 1, 2, 3, 4, 5, 6, 7] [0, 1, 2, 3, 4, 5, 6, 7] (by kernel_rfl) (by kernel_rfl) ?_
  refine TD.q [6] [] rfl rfl rfl rfl (by simp) (q_move rfl rfl) (putS rfl (by simp only [List.set]; rfl)) ?_
  refine TD.q [54] [(_, _)] rfl rfl rfl rfl (fun _ h => by rw [List.mem_singleton.1 h]; repeat (first | exact List.Mem.head _ | apply List.Mem.tail)) (q_indexRow rfl rfl rfl SlEl.h (List.Mem.head _) (by first | omega | (simp only [List.length_cons]; omega)) (by first | omega | (simp only [List.length_cons]; omega))) (putS rfl (by simp only [List.set]; rfl)) ?_
  refine TD.q [55] [(_, _)] rfl rfl rfl rfl (fun _ h => by rw [List.mem_singleton.1 h]; repeat (first | exact List.Mem.head _ | apply List.Mem.tail)) (q_load1 rfl rfl TySz.h (List.Mem.head _) (refs_take (k := 0) (by simp))) (putS rfl (by simp only [List.set]; rfl)) ?_
  refine TD.q [6] [] rfl rfl rfl rfl (by simp) (q_move rfl rfl) (putS rfl (by simp only [List.set]; rfl)) ?_
  refine TD.q [57] [(_, _)] rfl rfl rfl rfl (fun _ h => by rw [List.mem_singleton.1 h]; repeat (first | exact List.Mem.head _ | apply List.Mem.tail)) (q_sliceRow rfl rfl SlEl.h (List.Mem.head _) rfl rfl (by first | omega | (simp only [List.length_cons]; omega)) (by first | omega | (simp only [List.length_cons]; omega)) rfl) (putS rfl (by simp only [List.set]; rfl)) ?_
  refine TD.call' (pend' := [⟨3, [6], []⟩, ⟨1, [54], [(_, _)]⟩, ⟨0, [6], []⟩]) [56, 58] rfl rfl rfl rfl rfl rfl Cal.h rfl (firstInts_ok hT (o := p) (xs := ps) (lt := fun a c => ltLists a.2 c.2) (fv := .fn 98 [] []) (jo := jo) (off := 1) (obo := .row (refsL (p :: ps)) 28 1) (K := (jo, .row (refsL (p :: ps)) 28 1) :: objsL (p :: ps)) (by simp at hPl; omega) (by simp) (fun k hk => by rw [show 1 + ((k : Int)).toNat * 1 = k + 1 by rw [Int.toNat_natCast]; omega]; exact refs_take (P := p :: ps) (k := k + 1) (by simpa using hk)) (fun x hx y hy => callFK_fn Cal.h (clash1_ok hT (List.mem_cons_of_mem _ (objsL_mem hx)) (List.mem_cons_of_mem _ (objsL_mem hy)) (ints_at _ _ _) (ints_at _ _ _) (hlen x hx) (hlen y hy)))) (by repeat (first | exact Split.none _ | exact Split.all _ | (apply Split.rem; repeat (first | exact Rem.head | apply Rem.tail)) | apply Split.right)) fun r11 K12 h13 => ⟨?_, ?_⟩
  · rcases h13 with ⟨rfl, rfl⟩
    all_goals simp
  obtain ⟨rfl, rfl⟩ := h13
  try simp only [List.cons_append, List.nil_append]
  refine TD.norm (putS rfl (by simp only [List.set]; rfl)) ?_
  refine TD.perm (List.Perm.cons _ List.perm_append_comm) ?_
  simp only [List.cons_append, List.nil_append]
  generalize hres0 : firstL (fun (a c : Nat × List Int) => ltLists a.2 c.2) p ps = res
  have hmem : res ∈ p :: ps := hres0 ▸ firstL_mem
  obtain ⟨R1, hR1⟩ := rem_of_mem (objsL_mem hmem)
  have hcl : res.2 = clashM b := by
    rw [← hres0, firstL_map (fun x : Nat × List Int => x.2)]
    unfold clashM
    rw [← hP]; rfl
  refine TD.cq (env' := [_, _, _, _, _, _, _, _, _, _, _, _, _, _, _, _, _, _, _, _, _, _, _, _, _, _, _, _, _, _, _, _, _, _, _, _, _, _, _, _, _, _, _, _, _, _, _, _, _, _, _, _, _, _, _, _, _, _, _, _]) (pend' := []) [59] rfl rfl rfl rfl rfl (q_assign rfl rfl) rfl (by simp) ?_
  refine TD.cq (env' := [_, _, _, _, _, _, _, _, _, _, _, _, _, _, _, _, _, _, _, _, _, _, _, _, _, _, _, _, _, _, _, _, _, _, _, _, _, _, _, _, _, _, _, _, _, _, _, _, _, _, _, _, _, _, _, _, _, _, _, _]) (pend' := []) [] rfl rfl rfl rfl rfl (q_assign rfl rfl) rfl (by simp) ?_
  refine TD.fin ?_
  refine au [] ?_
  refine TK.rt hret [(0, _), (1, _), (s, _), (e, _), (res.1, .cells (res.2.map intA) 3 false)] ?_ (hs := (by repeat (first | exact Split.none _ | exact Split.all _ | (apply Split.rem; repeat (first | exact Rem.head | exact hR1 | apply Rem.tail)) | apply Split.right)))
  refine .inr (.inr ⟨hck, hc1, res.1, ?_, ?_⟩)
  · rw [← hcl]; rfl
  · rw [← hcl]
end Go.Vel
end
section
set_option linter.all false
namespace Go.Vel
open Go Go.Conc

section
variable {P : Program} {gm : Nat → Option Nat} {T : Goroutine → Hp → Prop} {Y : KX P gm T} {ds : List Nat} {k : List Item} {env env' : List AV} {K K' : KV} {ops : Array Oper} {i : Nat} {o : Oper} {r : AV} {pend pend' : List Pd}

def dstOk (pend' : List Pd) (ops : Array Oper) (d : Option Nat) : Bool := match d with
  | some d => pend'.all fun p => !(p.s.elem d) && dstOf ops p.i != some d
  | none => true

/-- One of those that are ordered stands at the head. -/
theorem td_do {L L' : List Nat} (s : List Nat) (ho : ops[i]? = some o) (hw : wantA ops (onl s env) o = some true) (hp' : pendOf ops i pend = pend') (hraw : rawOk ops i s = true) (hdst : dstOk pend' ops o.dst = true) (hin : i ∈ L) (hsub : ∀ j ∈ L', j ∈ L ∧ j ≠ i) (hcov' : ∀ j ∈ L, j = i ∨ j ∈ L')
    (h : ExK Y (onl s env) K o fun r K' => (∀ p ∈ pend', ∀ x ∈ p.V, x ∈ K') ∧ TD Y ds ops k pend' L' (putA env o.dst r) K')
    (hj : ∀ p ∈ pend, Jq P gm ops env p) (hraws : ∀ p ∈ pend, rawOk ops p.i p.s = true) {A : List AObj} (hA : Kn Y K A) {σ : List Nat} (hnd : (i :: σ).Nodup) (hresp : Resp ops (i :: σ)) (hsz : ∀ j ∈ i :: σ, j < ops.size) (hL : ∀ j ∈ L, j ∈ i :: σ) (hcov : ∀ j ∈ i :: σ, j ∈ L ∨ ∃ p ∈ pend, p.i = j)
    {φ : Nat → Loc3} {H : Hp} {ts : Array Value} (h1 : Agr Y.X.φ0 φ Y.X.n0) (h2 : Y.X.n0 ≤ A.length) (h3 : RelG gm φ A.length) (h4 : ∀ d ∈ ds, d < A.length) (h5 : RelH φ A Y.X.F H) (h6 : RelHid φ A.length (Hid ops pend (i :: σ)) env ts) :
    T (G (fr Y.X.kd Y.X.f Y.X.ro ts (dsC φ ds) (.inRegion ops (i :: σ) :: k)) Y.X.cs) H := by
  subst hp'
  have hrel := raw_rel hsz hresp hraw h6
  refine h A hA ops i σ k (dsC φ ds) φ H ts ho (wantA_ok hrel hw) h3 h5 hrel fun r A' φ' H' v ⟨K', hk, hV', hq⟩ hA' hlen hH' hr => ?_
  have hds : dsC φ' ds = dsC φ ds := by
    unfold dsC
    exact List.map_congr_left fun d hd' => by rw [hA' d (h4 d hd')]
  rw [← hds]
  have hnd' := List.nodup_cons.1 hnd
  have hkeep : ∀ p ∈ pend, p.i ∈ σ → p ∈ pendOf ops i pend := fun p hp hm => by
    refine List.mem_filter.2 ⟨hp, ?_⟩
    simp only [Bool.not_eq_true']
    cases e : (edgesOf .any ops i).elem p.i with
    | false => rfl
    | true => exact absurd (List.mem_cons_of_mem _ hm) (hresp.1 p.i (by simpa using e))
  refine hq (fun p hp => ?_) (fun p hp => hraws p (List.mem_filter.1 hp).1) hV' A' (hA.step hk) σ hnd'.2 hresp.2 (fun j hj => hsz j (by simp [hj])) (fun j hj => ?_) (fun j hj => ?_) φ' H' _ (h1.trans hA' h2) (by omega) (h3.mono hA' hlen) (fun d hd' => Nat.lt_of_lt_of_le (h4 d hd') hlen) hH' ⟨?_, fun j a y ha hy hnh => ?_⟩
  · have hj' : ∀ p ∈ pendOf ops i pend, Jq P gm ops env p := fun p hp => hj p (List.mem_filter.1 hp).1
    cases hdst' : o.dst with
    | none => exact hj' p hp
    | some d =>
      unfold dstOk at hdst
      rw [hdst'] at hdst
      exact jq_set hdst hj' p hp
  · have hm := hsub j hj
    rcases List.mem_cons.1 (hL j hm.1) with e | e
    · exact absurd e hm.2
    · exact e
  · rcases hcov j (by simp [hj]) with h7 | ⟨p, hp, e⟩
    · rcases hcov' j h7 with rfl | h7
      · exact absurd hj hnd'.1
      · exact .inl h7
    · exact .inr ⟨p, hkeep p hp (e ▸ hj), e⟩
  · have : (putT ts o.dst v).size = ts.size := by cases o.dst <;> simp [putT, Act.put]
    rw [this, ← h6.1]; cases o.dst <;> simp [putA]
  · have hback : o.dst ≠ some j → ts[j]? = some y → env[j]? = some a → RelV φ' A'.length a y := fun hne hy' ha' => by
      refine (h6.2 j a y ha' hy' fun ⟨p, hp, h8, h9⟩ => ?_).mono hA' hlen
      rcases List.mem_cons.1 h8 with e | h8
      · rw [e] at h9; simp [dstOf, ho] at h9; exact hne h9
      · exact hnh ⟨p, hkeep p hp h8, h8, h9⟩
    cases hdst' : o.dst with
    | none => rw [hdst'] at ha hy; exact hback (by rw [hdst']; simp) hy ha
    | some d =>
      rw [hdst'] at ha hy
      simp only [putA, putT, Act.put] at ha hy
      by_cases e : d = j
      · subst e
        have hlt : d < env.length := by have := (List.getElem?_eq_some_iff.1 ha).1; simpa using this
        rw [List.getElem?_set_self hlt] at ha
        rw [Array.getElem?_setIfInBounds_self_of_lt (by rw [← h6.1]; exact hlt)] at hy
        cases ha; cases hy
        exact hr
      · rw [List.getElem?_set_ne e] at ha
        rw [Array.getElem?_setIfInBounds_ne e] at hy
        exact hback (by rw [hdst']; simpa using e) hy ha

/-- Two may come next. -/
theorem TD.c2 {i1 i2 : Nat} {o1 o2 : Oper} {L L1 L2 : List Nat} {pend1 pend2 : List Pd} (s1 s2 : List Nat) (ho1 : ops[i1]? = some o1) (ho2 : ops[i2]? = some o2) (hw1 : wantA ops (onl s1 env) o1 = some true) (hw2 : wantA ops (onl s2 env) o2 = some true) (hp1 : pendOf ops i1 pend = pend1) (hp2 : pendOf ops i2 pend = pend2)
    (hc : (rawOk ops i1 s1 && rawOk ops i2 s2 && dstOk pend1 ops o1.dst && dstOk pend2 ops o2.dst && L.elem i1 && L.elem i2 && L1.all (fun j => L.elem j && j != i1) && L2.all (fun j => L.elem j && j != i2) && L.all (fun j => j == i1 || L1.elem j) && L.all (fun j => j == i2 || L2.elem j) && L.all (fun j => j == i1 || j == i2 || (edgesOf .any ops j).any fun e => L.elem e)) = true)
    (h1 : ExK Y (onl s1 env) K o1 fun r K' => (∀ p ∈ pend1, ∀ x ∈ p.V, x ∈ K') ∧ TD Y ds ops k pend1 L1 (putA env o1.dst r) K') (h2 : ExK Y (onl s2 env) K o2 fun r K' => (∀ p ∈ pend2, ∀ x ∈ p.V, x ∈ K') ∧ TD Y ds ops k pend2 L2 (putA env o2.dst r) K') : TD Y ds ops k pend L env K := fun hj hraw hV A hA σ => by
  simp only [Bool.and_eq_true, List.all_eq_true, Bool.or_eq_true, beq_iff_eq, bne_iff_ne, List.elem_eq_mem, decide_eq_true_eq] at hc
  obtain ⟨⟨⟨⟨⟨⟨⟨⟨⟨⟨q1, q2⟩, q3⟩, q4⟩, q5⟩, q6⟩, q7⟩, q8⟩, q9⟩, q10⟩, q11⟩ := hc
  induction σ with
  | nil =>
    intro _ _ _ hL
    exact absurd (hL i1 q5) (by simp)
  | cons c σ ih =>
    intro hnd hresp hsz hL hcov φ H ts e1 e2 e3 e4 e5 e6
    by_cases hc1 : c = i1
    · subst hc1
      exact td_do s1 ho1 hw1 hp1 q1 q3 q5 q7 q9 h1 hj hraw hA hnd hresp hsz hL hcov e1 e2 e3 e4 e5 e6
    by_cases hc2 : c = i2
    · subst hc2
      exact td_do s2 ho2 hw2 hp2 q2 q4 q6 q8 q10 h2 hj hraw hA hnd hresp hsz hL hcov e1 e2 e3 e4 e5 e6
    have hnd' := List.nodup_cons.1 hnd
    have hno : c ∉ L := fun hm => by
      rcases q11 c hm with (h | h) | h
      · exact hc1 h
      · exact hc2 h
      · rw [List.any_eq_true] at h
        obtain ⟨e, he1, he2⟩ := h
        exact hresp.1 e he1 (hL e (by simpa using he2))
    rcases hcov c (by simp) with h7 | ⟨p, hp, e⟩
    · exact absurd h7 hno
    · refine td_fire hp e (hj p hp) (e ▸ hraw p hp) (hV p hp) hA hnd hsz hresp e1 e2 e3 e4 e5 e6 fun φ H ts h1 h3 h5 h6 =>
        ih hnd'.2 hresp.2 (fun j hj => hsz j (by simp [hj])) (fun j hj => ?_) (fun j hj => hcov j (by simp [hj])) φ H ts h1 e2 h3 e4 h5 h6
      rcases List.mem_cons.1 (hL j hj) with h8 | h8
      · exact absurd (h8 ▸ hj) hno
      · exact h8

theorem exK_newP {s L' : List Nat} {ob : AObj} {envf : Nat → List AV} (hd : isDefer o.op = false) (hq : Nk P gm (onl s env) K o (fun j => .ptr j 0) ob) (he : ∀ j, putA env o.dst (.ptr j 0) = envf j) (hv : ∀ p ∈ pend', ∀ x ∈ p.V, x ∈ K) (h : ∀ j, j ∉ keys K → TD Y ds ops k pend' L' (envf j) ((j, ob) :: K)) :
    ExK Y (onl s env) K o fun r K' => (∀ p ∈ pend', ∀ x ∈ p.V, x ∈ K') ∧ TD Y ds ops k pend' L' (putA env o.dst r) K' :=
  exK_op hd fun A hv' hn => ⟨_, _, _, hq A hv', .push hv' hn ob, fun p hp x hx => List.mem_cons_of_mem _ (hv p hp x hx), by dsimp only; rw [he]; exact h _ fun hm => absurd (hv'.lt hm) (Nat.lt_irrefl _)⟩
theorem exK_newR {s L' : List Nat} {n : Nat} {ob : AObj} {envf : Nat → List AV} (hd : isDefer o.op = false) (hq : Nk P gm (onl s env) K o (fun j => .row j n) ob) (he : ∀ j, putA env o.dst (.row j n) = envf j) (hv : ∀ p ∈ pend', ∀ x ∈ p.V, x ∈ K) (h : ∀ j, j ∉ keys K → TD Y ds ops k pend' L' (envf j) ((j, ob) :: K)) :
    ExK Y (onl s env) K o fun r K' => (∀ p ∈ pend', ∀ x ∈ p.V, x ∈ K') ∧ TD Y ds ops k pend' L' (putA env o.dst r) K' :=
  exK_op hd fun A hv' hn => ⟨_, _, _, hq A hv', .push hv' hn ob, fun p hp x hx => List.mem_cons_of_mem _ (hv p hp x hx), by dsimp only; rw [he]; exact h _ fun hm => absurd (hv'.lt hm) (Nat.lt_irrefl _)⟩
theorem exK_callO {fo : Operand} {ars : Array Operand} {at_ : Array TypeId} {g : FuncId} {fs cp args : List AV} {Kf R : KV} {Post : AV → KV → Prop} (hop : o.op = .call { callee := .value fo, args := ars, argTypes := at_ })
    (hf : opndO gm env fo = some (.fn g fs cp)) (hg : callable P g = true) (hargs : fs ++ ars.toList.map (opnd gm env) ++ cp = args) (hc : CallK P T gm g args Kf Post) (hs : Split K Kf R) {Q : AV → KV → Prop} (hq : ∀ r K', Post r K' → Q r (K' ++ R)) : ExK Y env K o Q := exK_call hop (opndO_eq hf) hg hargs hc hs hq
end
end Go.Vel
end
section
set_option linter.all false
namespace Go.Vel
open Go Go.Conc Go.Proofs


set_option maxRecDepth 20000 in
set_option maxHeartbeats 4000000 in
theorem likely_ok {main : Bool} {T : Goroutine → Hp → Prop} (hT : Shut Tryz.prog main T)  {b : Bk} {s e : Nat} (hse : s ≠ e) (hn : ∀ x ∈ b.seekers, x.name.size ≤ 1000) (hl : b.seen.length ≤ 1000) :
    CallK Tryz.prog T gmS 30 [.agg (bookC b s e)] [(0, checksG), (1, saysG), (s, saysO b), (e, seenO b)] (fun r K' => (checkM b ≠ 0 ∧ r = .tup [.v (.slice none 0 0), intA 0, boolA false, intA (checkM b)] ∧ K' = [(0, checksG), (1, saysG), (s, saysO b), (e, seenO b)]) ∨ (checkM b = 0 ∧ guessM b (allM b) = [] ∧ r = .tup [.v (.slice none 0 0), intA 0, boolA false, intA 0] ∧ K' = [(0, checksG), (1, saysG), (s, saysO b), (e, seenO b)]) ∨ (checkM b = 0 ∧ guessM b (allM b) ≠ [] ∧ ∃ j, r = .tup [.sl j 0 (likelyM b).1.length, intA (likelyM b).2, boolA true, intA 0] ∧ K' = [(0, checksG), (1, saysG), (s, saysO b), (e, seenO b), (j, .cells ((likelyM b).1.map intA) 3 false)])) := by
  refine callK_in3 50 hT Tryz.func30 fun Y hro hret => ?_
  refine au [4, 5, 21] ?_
  intro jb hjb
  refine au [2, 2, 2, 2, 3, 4, 4, 5, 8] ?_
  refine TK.cl rfl rfl rfl rfl (check_ok hT (b := b) (s := s) (e := e) hn hl) ?_
  rintro r1 K2 ⟨rfl, rfl⟩
  refine au [2, 3, 4, 5, 1, 6, 3, 20] ?_
  refine ⟨fun hc0 => ?_, fun hc0 => ?_⟩
  · refine au [4, 5, 1, 2, 2, 2, 2, 3] ?_
    refine TK.leave (.ret _) fun A hA => hret _ _ _ _ ([(0, _), (1, _), (s, _), (e, _)]) ([(0, _), (1, _), (s, _), (e, _)]) _ _ _ (.inr rfl) (by repeat (first | exact Split.none _ | exact Split.all _ | (apply Split.rem; repeat (first | exact Rem.head | apply Rem.tail)) | apply Split.right)) (by simp) (by simp) (by repeat (first | exact Split.none _ | exact Split.all _ | (apply Split.rem; repeat (first | exact Rem.head | apply Rem.tail)) | apply Split.right)) (res_many (.cons (rk_tmp rfl) (.cons (rk_tmp rfl) (.cons (rk_tmp rfl) (.cons (rk_tmp rfl) ResKs.nil)))) rfl) ?_ A hA
    exact .inl ⟨by simpa using hc0, rfl, rfl⟩
  have hck : checkM b = 0 := by simpa using hc0
  have hb := bkOk_of hck
  refine au [12, 4, 5, 8, 43, 22] ?_
  intro jx hjx
  refine au [17, 3, 4, 5, 22] ?_
  intro jl hjl
  refine TK.virtC (t := 120) (e := 125) (size := 2) (fun _ => (by repeat (first | exact Upd.head | apply Upd.tail))) fun jo0 hjo0 => ?_
  refine au [3, 4, 4, 5, 8, 32, 3, 13] ?_
  refine TK.rangeAll hT hb (s := s) (e := e) (K0 := (jl, .cells [.row jo0 0] 120 true) :: (jo0, .row [] 125 2) :: (jx, .cells (bookC b s e) 70 true) :: (1, saysG) :: (s, saysO b) :: []) (J := fun pre K1 => ∃ (jo : Nat) (P : List Gs), P.map (·.2) = guessM b pre ∧ K1 = (jl, .cells [.row jo P.length] 120 true) :: (jo, .row (refsG P) 125 2) :: (jx, .cells (bookC b s e) 70 true) :: (1, saysG) :: (s, saysO b) :: objsG P) (D := fun _ _ => False) rfl hro rfl (by repeat (first | exact Split.none _ | exact Split.all _ | (apply Split.rem; repeat (first | exact Rem.head | apply Rem.tail)) | apply Split.right)) ⟨jo0, [], rfl, rfl⟩ (fun Y' l lo lb pre S K1 hbegin hfin hout hpre hJ => ?_) (fun d K2 hJ => ?_) (fun d c K2 hD => ?_)
  · obtain ⟨jo, P, hP, rfl⟩ := hJ
    have hSm := allM_pre hb hpre
    have hpl := pre_len hb hpre (fun S => !badM b S b.seekers.length)
    have hPl : P.length ≤ 65536 := by have := congrArg List.length hP; unfold guessM at this; simp only [List.length_map] at this; omega
    refine au [5, 22] ?_
    intro j4 hj4
    refine au [17, 3] ?_
    refine hbegin _ _ _ _ _ (by repeat (first | exact Upd.head | apply Upd.tail)) ?_
    refine au [13, 4, 5, 8, 8] ?_
    refine TK.cl rfl rfl rfl rfl (wrong_ok hT (s := s) (e := e) hb hSm) ?_
    rintro r5 K6 ⟨rfl, rfl⟩
    refine au [1, 10, 10, 2, 2, 3, 4, 5, 1, 3, 20] ?_
    refine ⟨fun hc1 => ?_, fun hc1 => ?_⟩
    · have hwr : 0 ≤ wrongM b S ∧ wrongM b S ≤ 100 := by unfold wrongM; have := wrongL_le b S b.seekers.length; have := hb.ns; split <;> omega
      refine TK.draw [0, 1, 3, 2, 4, 5, 6, 7] [0, 1, 2, 3, 4, 5, 6, 7] (by kernel_rfl) (by kernel_rfl) ?_
      refine TD.q [8] [(_, _)] rfl rfl rfl rfl (fun _ h => by rw [List.mem_singleton.1 h]; repeat (first | exact List.Mem.head _ | apply List.Mem.tail)) (q_load1 rfl rfl TySz.h (List.Mem.head _) rfl) (putS rfl (by simp only [List.set]; rfl)) ?_
      refine TD.q [9] [(_, _)] rfl rfl rfl rfl (fun _ h => by rw [List.mem_singleton.1 h]; repeat (first | exact List.Mem.head _ | apply List.Mem.tail)) (q_load rfl rfl TySz.h (List.Mem.head _) rfl) (putS rfl (by simp only [List.set]; rfl)) ?_
      refine TD.q [10] [] rfl rfl rfl rfl (by simp) (q_move rfl rfl) (putS rfl (by simp only [List.set]; rfl)) ?_
      refine TD.call' (pend' := [⟨3, [10], []⟩, ⟨0, [8], [(_, _)]⟩]) [31] rfl rfl rfl rfl rfl rfl Cal.h rfl (listF_ok hT hSm.len fun x hx => ⟨(hSm.mem x hx).1, by have := (hSm.mem x hx).2; have := hb.steps; omega⟩) (by repeat (first | exact Split.none _ | exact Split.all _ | (apply Split.rem; repeat (first | exact Rem.head | apply Rem.tail)) | apply Split.right)) fun r8 K9 h10 => ⟨?_, ?_⟩
      · rcases h10 with ⟨jr, rfl, rfl⟩
        all_goals simp
      obtain ⟨jr, rfl, rfl⟩ := h10
      try simp only [List.cons_append, List.nil_append]
      refine TD.norm (putS rfl (by simp only [List.set]; rfl)) ?_
      refine TD.q [32, 33] [] rfl rfl rfl rfl (by simp) (q_build (l := [_, _]) rfl TyZ.h BlOf.h rfl) (putS rfl (by simp only [List.set]; rfl)) ?_
      refine TD.cnewR (pend' := [⟨3, [10], []⟩, ⟨0, [8], [(_, _)]⟩]) [34] rfl rfl rfl rfl rfl (n_buildSlice (l := [_, _]) rfl SlEl.h TyZ.h (by decide) (by decide) rfl) (fun _ => putS rfl (by simp only [List.set]; rfl)) (by simp) fun j11 hj11 => ?_
      refine TD.capp (pend' := [⟨3, [10], []⟩]) [30, 35] rfl rfl rfl rfl rfl (a_app rfl ApOf.h rfl (by repeat (first | exact List.Mem.head _ | assumption | apply List.Mem.tail)) (refsG_len P) rfl (src_row (ln := [_, _]) (by repeat (first | exact List.Mem.head _ | assumption | apply List.Mem.tail)) (by decide) (by simp) rfl) (by omega) rfl (by unfold maxLen; omega) (by omega)) (fun _ => (by repeat (first | exact Upd.head | apply Upd.tail))) (fun _ => putS rfl (by simp only [List.set]; rfl)) (fun _ => (by simp)) fun jo2 => ?_
      refine TD.cst (env' := [_, _, _, _, _, _, _, _, _, _, _, _, _, _, _, _, _, _, _, _, _, _, _, _, _, _, _, _, _, _, _, _, _, _, _, _, _, _, _, _, _, _, _, _, _, _, _, _, _, _]) (pend' := []) [8, 36] rfl rfl rfl rfl rfl (q_store rfl rfl TySz.h rfl rfl (by repeat (first | exact List.Mem.head _ | assumption | apply List.Mem.tail)) rfl) (by repeat (first | exact Upd.head | apply Upd.tail)) rfl (by simp) ?_
      refine TD.fin ?_
      refine au [14] ?_
      refine TK.kp ((l, lb) :: (e, seenO b) :: (jr, _) :: (jl, _) :: (jo2, _) :: (jx, _) :: (1, _) :: (s, _) :: objsG P) ?_
      refine TK.perm (K' := (l, lb) :: (e, seenO b) :: (jl, _) :: (jo2, _) :: (jx, _) :: (1, _) :: (s, _) :: objsG (P ++ [(jr, S, wrongM b S)])) (by rw [objsG_app]; exact (List.Perm.cons _ (List.Perm.cons _ (List.perm_append_singleton _ ((jl, _) :: (jo2, _) :: (jx, _) :: (1, _) :: (s, _) :: objsG P)).symm))) ?_
      exact hfin _ _ ((jl, _) :: (jo2, _) :: (jx, _) :: (1, _) :: (s, _) :: objsG (P ++ [(jr, S, wrongM b S)])) _ (.all _) ⟨jo2, P ++ [(jr, S, wrongM b S)], by rw [guessM_T (by simpa using hc1), List.map_append, hP]; rfl, by rw [refsG_app, List.length_append] <;> rfl⟩
    refine au [12, 14] ?_
    exact hfin _ _ ((jl, _) :: (jo, _) :: (jx, _) :: (1, _) :: (s, _) :: objsG P) _ (by repeat (first | exact Split.none _ | exact Split.all _ | (apply Split.rem; repeat (first | exact Rem.head | apply Rem.tail)) | apply Split.right)) ⟨jo, P, by rw [guessM_F (by simpa using hc1)]; exact hP, rfl⟩
  · obtain ⟨jo, P, hP, rfl⟩ := hJ
    have hPl : P.length ≤ 65536 := by
      have h1 := congrArg List.length hP
      have h2 := allM_len hb
      have h3 := List.length_filter_le (fun S => !badM b S b.seekers.length) (allM b)
      unfold guessM at h1
      simp only [List.length_map] at h1
      omega
    simp only [List.cons_append, List.nil_append]
    refine TK.perm (List.Perm.cons _ (List.Perm.cons _ (List.Perm.cons _ (List.Perm.cons _ (List.Perm.cons _ (List.Perm.cons _ (List.Perm.cons _ List.perm_append_comm))))))) ?_
    simp only [List.cons_append, List.nil_append]
    refine au [14, 4, 4, 5, 9, 28, 6, 3, 20] ?_
    refine ⟨fun hc2 => ?_, fun hc2 => ?_⟩
    · have hPn : P = [] := List.eq_nil_of_length_eq_zero (by have h : (P.length : Int) = 0 := (by simpa using hc2); omega)
      refine au [4, 5, 2, 2, 2, 2, 3] ?_
      refine TK.leave (.ret _) fun A hA => hret _ _ _ _ ([(0, _), (1, _), (s, _), (e, _)]) ([(0, _), (1, _), (s, _), (e, _)]) _ _ _ (.inr rfl) (by repeat (first | exact Split.none _ | exact Split.all _ | (apply Split.rem; repeat (first | exact Rem.head | apply Rem.tail)) | apply Split.right)) (by simp) (by simp) (by repeat (first | exact Split.none _ | exact Split.all _ | (apply Split.rem; repeat (first | exact Rem.head | apply Rem.tail)) | apply Split.right)) (res_many (.cons (rk_tmp rfl) (.cons (rk_tmp rfl) (.cons (rk_tmp rfl) (.cons (rk_tmp rfl) ResKs.nil)))) rfl) ?_ A hA
      exact .inr (.inl ⟨hck, by rw [← hP, hPn]; rfl, rfl, rfl⟩)
    obtain ⟨p, ps, rfl⟩ : ∃ p ps, P = p :: ps := by
      cases P with
      | nil => exact absurd hc2 (by decide)
      | cons p ps => exact ⟨p, ps, rfl⟩
    have hlen : ∀ x ∈ p :: ps, x.2.1.length ≤ 1000 := fun x hx => by
      have h1 : x.2 ∈ guessM b (allM b) := by rw [← hP]; exact List.mem_map_of_mem (f := fun x : Gs => x.2) hx
      obtain ⟨S, hS, h2⟩ := List.mem_map.1 h1
      have := (allM_ok hb S (List.mem_filter.1 hS).1).len
      rw [← h2]; dsimp only; omega
    refine au [12, 4] ?_
    refine TK.draw [0, 1, 2, 3, 4, 5, 6, 7] [0, 1, 2, 3, 4, 5, 6, 7] (by kernel_rfl) (by kernel_rfl) ?_
    refine TD.q [8] [(_, _)] rfl rfl rfl rfl (fun _ h => by rw [List.mem_singleton.1 h]; repeat (first | exact List.Mem.head _ | apply List.Mem.tail)) (q_load1 rfl rfl TySz.h (List.Mem.head _) rfl) (putS rfl (by simp only [List.set]; rfl)) ?_
    refine TD.q [40] [(_, _)] rfl rfl rfl rfl (fun _ h => by rw [List.mem_singleton.1 h]; repeat (first | exact List.Mem.head _ | apply List.Mem.tail)) (q_indexRow rfl rfl rfl SlEl.h (List.Mem.head _) (by first | omega | (simp only [List.length_cons]; omega)) (by first | omega | (simp only [List.length_cons]; omega))) (putS rfl (by simp only [List.set]; rfl)) ?_
    refine TD.q [41] [(_, _)] rfl rfl rfl rfl (fun _ h => by rw [List.mem_singleton.1 h]; repeat (first | exact List.Mem.head _ | apply List.Mem.tail)) (q_load rfl rfl TySz.h (List.Mem.head _) (refsG_take (k := 0) (by simp))) (putS rfl (by simp only [List.set]; rfl)) ?_
    refine TD.q [8] [(_, _)] rfl rfl rfl rfl (fun _ h => by rw [List.mem_singleton.1 h]; repeat (first | exact List.Mem.head _ | apply List.Mem.tail)) (q_load1 rfl rfl TySz.h (List.Mem.head _) rfl) (putS rfl (by simp only [List.set]; rfl)) ?_
    refine TD.q [43] [(_, _)] rfl rfl rfl rfl (fun _ h => by rw [List.mem_singleton.1 h]; repeat (first | exact List.Mem.head _ | apply List.Mem.tail)) (q_sliceRow rfl rfl SlEl.h (List.Mem.head _) rfl rfl (by first | omega | (simp only [List.length_cons]; omega)) (by first | omega | (simp only [List.length_cons]; omega)) rfl) (putS rfl (by simp only [List.set]; rfl)) ?_
    refine TD.c2 (i1 := 5) (i2 := 6) (pend1 := [⟨3, [8], [(_, _)]⟩, ⟨1, [40], [(_, _)]⟩, ⟨0, [8], [(_, _)]⟩]) (pend2 := [⟨4, [43], [(_, _)]⟩, ⟨3, [8], [(_, _)]⟩, ⟨2, [41], [(_, _)]⟩, ⟨1, [40], [(_, _)]⟩, ⟨0, [8], [(_, _)]⟩]) (L1 := [6, 7]) (L2 := [5, 7]) [42, 44] [] rfl rfl rfl rfl rfl rfl rfl ?_ ?_
    · refine exK_callO rfl rfl Cal.h rfl (firstGuess_ok hT (o := p) (xs := ps) (lt := fun a c => ltGuess a.2 c.2) (fv := .fn 89 [] []) (jo := jo) (off := 2) (obo := .row (refsG (p :: ps)) 125 2) (K := (jo, .row (refsG (p :: ps)) 125 2) :: objsG (p :: ps)) (by simp at hPl; omega) (by simp) (fun k hk => by rw [show 2 + ((k : Int)).toNat * 2 = (k + 1) * 2 by rw [Int.toNat_natCast]; omega]; exact refsG_take (P := p :: ps) (k := k + 1) (by simpa using hk)) (fun x hx y hy => callFK_fn Cal.h (likely1_ok hT (List.mem_cons_of_mem _ (objsG_mem hx)) (List.mem_cons_of_mem _ (objsG_mem hy)) (ints_at _ _ _) (ints_at _ _ _) (hlen x hx) (hlen y hy)))) (by repeat (first | exact Split.none _ | exact Split.all _ | (apply Split.rem; repeat (first | exact Rem.head | apply Rem.tail)) | apply Split.right)) fun r12 K13 h14 => ⟨?_, ?_⟩
      · rcases h14 with ⟨rfl, rfl⟩
        all_goals simp
      obtain ⟨rfl, rfl⟩ := h14
      try simp only [List.cons_append, List.nil_append]
      refine TD.norm (env' := [_, _, _, _, _, _, _, _, _, _, _, _, _, _, _, _, _, _, _, _, _, _, _, _, _, _, _, _, _, _, _, _, _, _, _, _, _, _, _, _, _, _, _, _, _, _, _, _, _, _]) rfl ?_
      refine TD.perm (List.Perm.cons _ List.perm_append_comm) ?_
      simp only [List.cons_append, List.nil_append]
      generalize hres0 : firstL (fun (a c : Gs) => ltGuess a.2 c.2) p ps = res
      have hmem : res ∈ p :: ps := hres0 ▸ firstL_mem
      obtain ⟨R1, hR1⟩ := rem_of_mem (objsG_mem hmem)
      have hcl : res.2 = likelyM b := by
        rw [← hres0, firstL_map (fun x : Gs => x.2)]
        unfold likelyM
        rw [← hP]; rfl
      refine TD.cnewP (pend' := [⟨3, [8], [(_, _)]⟩, ⟨1, [40], [(_, _)]⟩, ⟨0, [8], [(_, _)]⟩]) [] rfl rfl rfl rfl rfl (n_allocA rfl TyZA.h) (fun _ => putS rfl (by simp only [List.set]; rfl)) (by simp) fun jg hjg => ?_
      refine TD.cst (env' := [_, _, _, _, _, _, _, _, _, _, _, _, _, _, _, _, _, _, _, _, _, _, _, _, _, _, _, _, _, _, _, _, _, _, _, _, _, _, _, _, _, _, _, _, _, _, _, _, _, _]) (pend' := []) [12, 45] rfl rfl rfl rfl rfl (q_store rfl rfl TySz.h rfl rfl (by repeat (first | exact List.Mem.head _ | assumption | apply List.Mem.tail)) rfl) (by repeat (first | exact Upd.head | apply Upd.tail)) rfl (by simp) ?_
      refine TD.fin ?_
      refine au [4] ?_
      refine TK.draw [0, 1, 2, 3, 4, 5, 6, 7] [0, 1, 4, 2, 3, 5, 6, 7] (by kernel_rfl) (by kernel_rfl) ?_
      refine TD.q [12] [] rfl rfl rfl rfl (by simp) (q_fieldAddr rfl rfl FldOf.h (by decide)) (putS rfl (by simp only [List.set]; rfl)) ?_
      refine TD.q [46] [(_, _)] rfl rfl rfl rfl (fun _ h => by rw [List.mem_singleton.1 h]; repeat (first | exact List.Mem.head _ | apply List.Mem.tail)) (q_load1 rfl rfl TySz.h (List.Mem.head _) rfl) (putS rfl (by simp only [List.set]; rfl)) ?_
      refine TD.q [12] [] rfl rfl rfl rfl (by simp) (q_fieldAddr rfl rfl FldOf.h (by decide)) (putS rfl (by simp only [List.set]; rfl)) ?_
      refine TD.q [48] [(_, _)] rfl rfl rfl rfl (fun _ h => by rw [List.mem_singleton.1 h]; repeat (first | exact List.Mem.head _ | apply List.Mem.tail)) (q_load1 rfl rfl TySz.h (List.Mem.head _) rfl) (putS rfl (by simp only [List.set]; rfl)) ?_
      refine TD.cq (env' := [_, _, _, _, _, _, _, _, _, _, _, _, _, _, _, _, _, _, _, _, _, _, _, _, _, _, _, _, _, _, _, _, _, _, _, _, _, _, _, _, _, _, _, _, _, _, _, _, _, _]) (pend' := [⟨3, [48], [(_, _)]⟩, ⟨2, [12], []⟩]) [47] rfl rfl rfl rfl rfl (q_assign rfl rfl) rfl (by simp) ?_
      refine TD.cq (env' := [_, _, _, _, _, _, _, _, _, _, _, _, _, _, _, _, _, _, _, _, _, _, _, _, _, _, _, _, _, _, _, _, _, _, _, _, _, _, _, _, _, _, _, _, _, _, _, _, _, _]) (pend' := []) [49] rfl rfl rfl rfl rfl (q_assign rfl rfl) rfl (by simp) ?_
      refine TD.cq (env' := [_, _, _, _, _, _, _, _, _, _, _, _, _, _, _, _, _, _, _, _, _, _, _, _, _, _, _, _, _, _, _, _, _, _, _, _, _, _, _, _, _, _, _, _, _, _, _, _, _, _]) (pend' := []) [] rfl rfl rfl rfl rfl (q_assign rfl rfl) rfl (by simp) ?_
      refine TD.cq (env' := [_, _, _, _, _, _, _, _, _, _, _, _, _, _, _, _, _, _, _, _, _, _, _, _, _, _, _, _, _, _, _, _, _, _, _, _, _, _, _, _, _, _, _, _, _, _, _, _, _, _]) (pend' := []) [] rfl rfl rfl rfl rfl (q_assign rfl rfl) rfl (by simp) ?_
      refine TD.fin ?_
      refine TK.leave (.ret _) fun A hA => hret _ _ _ _ ([(0, _), (1, _), (s, _), (e, _), (res.1, .cells (res.2.1.map intA) 3 false)]) ([(0, _), (1, _), (s, _), (e, _), (res.1, .cells (res.2.1.map intA) 3 false)]) _ _ _ (.inr rfl) (by repeat (first | exact Split.none _ | exact Split.all _ | (apply Split.rem; repeat (first | exact Rem.head | exact hR1 | apply Rem.tail)) | apply Split.right)) (by simp) (by simp) (by repeat (first | exact Split.none _ | exact Split.all _ | (apply Split.rem; repeat (first | exact Rem.head | exact hR1 | apply Rem.tail)) | apply Split.right)) (res_many (.cons (rk_tmp rfl) (.cons (rk_tmp rfl) (.cons (rk_tmp rfl) (.cons (rk_tmp rfl) ResKs.nil)))) rfl) ?_ A hA
      refine .inr (.inr ⟨hck, by rw [← hP]; simp, res.1, ?_, ?_⟩)
      · rw [← hcl]; rfl
      · rw [← hcl]
    · refine exK_newP (envf := fun _ => [_, _, _, _, _, _, _, _, _, _, _, _, _, _, _, _, _, _, _, _, _, _, _, _, _, _, _, _, _, _, _, _, _, _, _, _, _, _, _, _, _, _, _, _, _, _, _, _, _, _]) rfl (n_allocA rfl TyZA.h) (fun _ => rfl) (by simp) fun jg hjg => ?_
      refine TD.call' (pend' := [⟨3, [8], [(_, _)]⟩, ⟨1, [40], [(_, _)]⟩, ⟨0, [8], [(_, _)]⟩]) [42, 44] rfl rfl rfl rfl rfl rfl Cal.h rfl (firstGuess_ok hT (o := p) (xs := ps) (lt := fun a c => ltGuess a.2 c.2) (fv := .fn 89 [] []) (jo := jo) (off := 2) (obo := .row (refsG (p :: ps)) 125 2) (K := (jo, .row (refsG (p :: ps)) 125 2) :: objsG (p :: ps)) (by simp at hPl; omega) (by simp) (fun k hk => by rw [show 2 + ((k : Int)).toNat * 2 = (k + 1) * 2 by rw [Int.toNat_natCast]; omega]; exact refsG_take (P := p :: ps) (k := k + 1) (by simpa using hk)) (fun x hx y hy => callFK_fn Cal.h (likely1_ok hT (List.mem_cons_of_mem _ (objsG_mem hx)) (List.mem_cons_of_mem _ (objsG_mem hy)) (ints_at _ _ _) (ints_at _ _ _) (hlen x hx) (hlen y hy)))) (by repeat (first | exact Split.none _ | exact Split.all _ | (apply Split.rem; repeat (first | exact Rem.head | apply Rem.tail)) | apply Split.right)) fun r15 K16 h17 => ⟨?_, ?_⟩
      · rcases h17 with ⟨rfl, rfl⟩
        all_goals simp
      obtain ⟨rfl, rfl⟩ := h17
      try simp only [List.cons_append, List.nil_append]
      refine TD.norm (putS rfl (by simp only [List.set]; rfl)) ?_
      refine TD.perm (List.Perm.cons _ List.perm_append_comm) ?_
      simp only [List.cons_append, List.nil_append]
      generalize hres0 : firstL (fun (a c : Gs) => ltGuess a.2 c.2) p ps = res
      have hmem : res ∈ p :: ps := hres0 ▸ firstL_mem
      obtain ⟨R1, hR1⟩ := rem_of_mem (objsG_mem hmem)
      have hcl : res.2 = likelyM b := by
        rw [← hres0, firstL_map (fun x : Gs => x.2)]
        unfold likelyM
        rw [← hP]; rfl
      refine TD.cst (env' := [_, _, _, _, _, _, _, _, _, _, _, _, _, _, _, _, _, _, _, _, _, _, _, _, _, _, _, _, _, _, _, _, _, _, _, _, _, _, _, _, _, _, _, _, _, _, _, _, _, _]) (pend' := []) [12, 45] rfl rfl rfl rfl rfl (q_store rfl rfl TySz.h rfl rfl (by repeat (first | exact List.Mem.head _ | assumption | apply List.Mem.tail)) rfl) (by repeat (first | exact Upd.head | apply Upd.tail)) rfl (by simp) ?_
      refine TD.fin ?_
      refine au [4] ?_
      refine TK.draw [0, 1, 2, 3, 4, 5, 6, 7] [0, 1, 4, 2, 3, 5, 6, 7] (by kernel_rfl) (by kernel_rfl) ?_
      refine TD.q [12] [] rfl rfl rfl rfl (by simp) (q_fieldAddr rfl rfl FldOf.h (by decide)) (putS rfl (by simp only [List.set]; rfl)) ?_
      refine TD.q [46] [(_, _)] rfl rfl rfl rfl (fun _ h => by rw [List.mem_singleton.1 h]; repeat (first | exact List.Mem.head _ | apply List.Mem.tail)) (q_load1 rfl rfl TySz.h (List.Mem.head _) rfl) (putS rfl (by simp only [List.set]; rfl)) ?_
      refine TD.q [12] [] rfl rfl rfl rfl (by simp) (q_fieldAddr rfl rfl FldOf.h (by decide)) (putS rfl (by simp only [List.set]; rfl)) ?_
      refine TD.q [48] [(_, _)] rfl rfl rfl rfl (fun _ h => by rw [List.mem_singleton.1 h]; repeat (first | exact List.Mem.head _ | apply List.Mem.tail)) (q_load1 rfl rfl TySz.h (List.Mem.head _) rfl) (putS rfl (by simp only [List.set]; rfl)) ?_
      refine TD.cq (env' := [_, _, _, _, _, _, _, _, _, _, _, _, _, _, _, _, _, _, _, _, _, _, _, _, _, _, _, _, _, _, _, _, _, _, _, _, _, _, _, _, _, _, _, _, _, _, _, _, _, _]) (pend' := [⟨3, [48], [(_, _)]⟩, ⟨2, [12], []⟩]) [47] rfl rfl rfl rfl rfl (q_assign rfl rfl) rfl (by simp) ?_
      refine TD.cq (env' := [_, _, _, _, _, _, _, _, _, _, _, _, _, _, _, _, _, _, _, _, _, _, _, _, _, _, _, _, _, _, _, _, _, _, _, _, _, _, _, _, _, _, _, _, _, _, _, _, _, _]) (pend' := []) [49] rfl rfl rfl rfl rfl (q_assign rfl rfl) rfl (by simp) ?_
      refine TD.cq (env' := [_, _, _, _, _, _, _, _, _, _, _, _, _, _, _, _, _, _, _, _, _, _, _, _, _, _, _, _, _, _, _, _, _, _, _, _, _, _, _, _, _, _, _, _, _, _, _, _, _, _]) (pend' := []) [] rfl rfl rfl rfl rfl (q_assign rfl rfl) rfl (by simp) ?_
      refine TD.cq (env' := [_, _, _, _, _, _, _, _, _, _, _, _, _, _, _, _, _, _, _, _, _, _, _, _, _, _, _, _, _, _, _, _, _, _, _, _, _, _, _, _, _, _, _, _, _, _, _, _, _, _]) (pend' := []) [] rfl rfl rfl rfl rfl (q_assign rfl rfl) rfl (by simp) ?_
      refine TD.fin ?_
      refine TK.leave (.ret _) fun A hA => hret _ _ _ _ ([(0, _), (1, _), (s, _), (e, _), (res.1, .cells (res.2.1.map intA) 3 false)]) ([(0, _), (1, _), (s, _), (e, _), (res.1, .cells (res.2.1.map intA) 3 false)]) _ _ _ (.inr rfl) (by repeat (first | exact Split.none _ | exact Split.all _ | (apply Split.rem; repeat (first | exact Rem.head | exact hR1 | apply Rem.tail)) | apply Split.right)) (by simp) (by simp) (by repeat (first | exact Split.none _ | exact Split.all _ | (apply Split.rem; repeat (first | exact Rem.head | exact hR1 | apply Rem.tail)) | apply Split.right)) (res_many (.cons (rk_tmp rfl) (.cons (rk_tmp rfl) (.cons (rk_tmp rfl) (.cons (rk_tmp rfl) ResKs.nil)))) rfl) ?_ A hA
      refine .inr (.inr ⟨hck, by rw [← hP]; simp, res.1, ?_, ?_⟩)
      · rw [← hcl]; rfl
      · rw [← hcl]
  · exact hD.elim
end Go.Vel
end
section
set_option linter.all false
namespace Go.Vel
open Go Go.Conc

section
variable {P : Program} {cg cn : Nat} {msg : Nat → Nat × Value}

/-- From beside leavers into the gathering, and back. -/
theorem bt_of_main {Ψ : Goroutine → World → Prop} (hmsg : ∀ i, (msg i).1 = cg ∨ (msg i).1 = cn) (hne : cg ≠ cn) {g : Goroutine} {H H' : Hp} {t1 t2 : Bool} (hg : H cg = some (true, .chan 0 #[] false 0 0 t1)) (hn : H cn = some (true, .chan 0 #[] false 0 0 t2))
    (hsub : ∀ b rw o, H' b = some (rw, o) → ∃ rw', H b = some (rw', o)) (hno : H' cg = none ∧ H' cn = none)
    (hM : okG g → MainT P cg cn msg (fun a Hs => okG a ∧ BT P Ψ a Hs) 0 (fun _ => false) g H') : BT P Ψ g H := by
  intro hok w hf τ d gs sl t q h0 hL hP
  have hf0 : Fits H (Go.Vel.on w τ d) := hf
  have hfits : Fits H' (Go.Vel.on w τ d) := fun b rw' o hb => let ⟨_, h⟩ := hsub b rw' o hb; hf0 b _ o h
  have hsz : 0 < gs.size := (Array.getElem?_eq_some_iff.1 h0).1
  have hact : ∀ i, ¬ ((fun i : Nat => if i < gs.size then WS.left (q i) else WS.left 0) i).act := fun i => by
    dsimp only
    split <;> exact fun h => h
  have hG : GInv P cg cn msg gs.size gs (Go.Vel.on w τ d) t 0 (fun _ => false) H' (fun i => if i < gs.size then .left (q i) else .left 0) := by
    refine ⟨hsz, rfl, hfits, fun i x hi hx => ?_, fun i hi => ?_, hL.above, ?_, ⟨0, t1, 0, t2, hf0 _ _ _ hg, hf0 _ _ _ hn⟩, fun i hi => ?_, fun i hi => absurd hi (Nat.not_lt_zero _), fun i _ _ => hact i, fun _ _ => rfl⟩
    · have hlt : i < gs.size := (Array.getElem?_eq_some_iff.1 hx).1
      rw [if_pos hlt]
      exact hL.old i x hi hx
    · rw [if_neg (by omega)]
    · have hk := tinv_of_past hP H'
      exact ⟨hk.clean, hk.hears, hk.low, fun idx a ha hm => .inl ((hk.known idx a ha hm).elim id fun ⟨_, h, _⟩ => h.elim), fun i hi => absurd hi.2 (hact i), fun i hi => absurd hi.2 (hact i), fun i hi => absurd hi.2 (hact i), fun i k b o hi hk' hne' => by
        rcases hi with rfl | hi
        · rcases hk' with rfl | hk'
          · exact absurd rfl hne'
          · exact absurd hk'.2 (hact k)
        · exact absurd hi.2 (hact i)⟩
    · rcases hi with rfl | hi
      · exact hno
      · exact absurd hi (hact i)
  obtain ⟨N, gs', w', sl', t', q', a', H2, hr, h0', _, ⟨hok', hBT⟩, hf', hL', hP', _, htp, hos, hout⟩ := gather hmsg hne (hM hok) gs (Go.Vel.on w τ d) sl t _ hG h0
  have ew : Go.Vel.on w' τ w'.drawn = w' := by
    have : w'.tape = τ := htp
    rw [← this]; rfl
  obtain ⟨M, gs2, a2, w2, d2, sl2, t2', q2, r2, g2, hψ, L2, P2⟩ := hBT hok' w' hf' τ w'.drawn gs' sl' t' q' h0' hL' hP'
  rw [ew] at r2
  exact ⟨N + M, gs2, a2, w2, d2, sl2, t2', q2, by rw [runNT_add N M _ _ _ _ hr]; exact r2, g2, ⟨⟨hψ.1.1.trans hos, hψ.1.2.trans hout⟩, hψ.2⟩, L2, P2⟩
end
end Go.Vel
end
section
set_option linter.all false
namespace Go.Vel
open Go Go.Conc
open Go.ConcN (upd)

section
variable {P : Program} {gm : Nat → Option Nat} {T : Goroutine → Hp → Prop} {Y : KX P gm T} {ds : List Nat} {k : List Item} {env env' : List AV} {K K' : KV} {ops : Array Oper} {i : Nat} {rest : List Nat} {o : Oper} {r : AV} {pend pend' : List Pd} {V : KV}

theorem inv_chan {φ : Nat → Loc3} {n i : Nat} {y : Value} (h : RelV φ n (.chan i) y) : i < n ∧ y = .chan (some (φ i).blk) := by cases h; exact ⟨‹_›, rfl⟩
theorem n_makeChan {t e : TypeId} {ti : TypeInfo} {d : ChanDir} (ho : o.op = .makeChan t (.const (.int .i64 0))) (ht : P.underlying t = some (.chan d e)) (hi : P.info? e = some ti) : Nk P gm env V o (fun j => .chan j) (.raw (.chan 0 #[] false 0 0 false)) := fun A _ φ F H a hg hH hE => by
  unfold execOp; rw [ho]
  refine wpS_v ?_
  unfold Instr.makeChan
  refine wpS_bind_eq _ _ _ ?_
  show wpS P (underlying t >>= _) H _
  refine wpS_bind_eq _ _ _ (wpS_underlying ht ?_)
  dsimp only
  refine wpS_bind_eq _ _ _ (wpS_typeInfo hi ?_)
  rw [if_neg (by have : IntKind.i64.max = 9223372036854775807 := rfl; omega)]
  refine wpS_bind_eq _ _ _ ?_
  intro r hr
  refine ⟨_, upd3 φ A.length ⟨r, 0, 0⟩, .inl rfl, agr_upd3 _ _ _, by simp, hH.push hr rfl (Hp.put_same _ _ _), ?_⟩
  have := RelV.chan (φ := upd3 φ A.length ⟨r, 0, 0⟩) (n := (A ++ [AObj.raw (.chan 0 #[] false 0 0 false)]).length) (i := A.length) (by simp)
  simpa [upd3] using this

/-- Some may come next. -/
theorem TD.cM {L : List Nat} (M : List Nat) (hM : (!M.isEmpty && M.all (fun j => L.elem j) && L.all (fun j => M.elem j || (edgesOf .any ops j).any fun e => L.elem e)) = true)
    (h : ∀ m ∈ M, ∃ (s : List Nat) (o : Oper) (pend' : List Pd) (L' : List Nat), ops[m]? = some o ∧ wantA ops (onl s env) o = some true ∧ pendOf ops m pend = pend' ∧ (rawOk ops m s && dstOk pend' ops o.dst && L'.all (fun j => L.elem j && j != m) && L.all (fun j => j == m || L'.elem j)) = true ∧
      ExK Y (onl s env) K o fun r K' => (∀ p ∈ pend', ∀ x ∈ p.V, x ∈ K') ∧ TD Y ds ops k pend' L' (putA env o.dst r) K') : TD Y ds ops k pend L env K := fun hj hraw hV A hA σ => by
  simp only [Bool.and_eq_true, List.all_eq_true, Bool.or_eq_true, List.elem_eq_mem, decide_eq_true_eq, Bool.not_eq_true', List.isEmpty_eq_false_iff] at hM
  obtain ⟨⟨q1, q2⟩, q3⟩ := hM
  induction σ with
  | nil =>
    intro _ _ _ hL
    obtain ⟨m, hm⟩ := List.exists_mem_of_ne_nil M q1
    exact absurd (hL m (q2 m hm)) (by simp)
  | cons c σ ih =>
    intro hnd hresp hsz hL hcov φ H ts e1 e2 e3 e4 e5 e6
    by_cases hcM : c ∈ M
    · obtain ⟨s, o, pend', L', ho, hw, hp, hc, hx⟩ := h c hcM
      simp only [Bool.and_eq_true, List.all_eq_true, Bool.or_eq_true, beq_iff_eq, bne_iff_ne, List.elem_eq_mem, decide_eq_true_eq] at hc
      obtain ⟨⟨⟨p1, p2⟩, p3⟩, p4⟩ := hc
      exact td_do s ho hw hp p1 p2 (q2 c hcM) p3 p4 hx hj hraw hA hnd hresp hsz hL hcov e1 e2 e3 e4 e5 e6
    have hnd' := List.nodup_cons.1 hnd
    have hno : c ∉ L := fun hm => by
      rcases q3 c hm with h | h
      · exact hcM h
      · rw [List.any_eq_true] at h
        obtain ⟨e, he1, he2⟩ := h
        exact hresp.1 e he1 (hL e (by simpa using he2))
    rcases hcov c (by simp) with h7 | ⟨p, hp, e⟩
    · exact absurd h7 hno
    · refine td_fire hp e (hj p hp) (e ▸ hraw p hp) (hV p hp) hA hnd hsz hresp e1 e2 e3 e4 e5 e6 fun φ H ts h1 h3 h5 h6 =>
        ih hnd'.2 hresp.2 (fun j hj => hsz j (by simp [hj])) (fun j hj => ?_) (fun j hj => hcov j (by simp [hj])) φ H ts h1 e2 h3 e4 h5 h6
      rcases List.mem_cons.1 (hL j hj) with h8 | h8
      · exact absurd (h8 ▸ hj) hno
      · exact h8
theorem exK_st {s L' : List Nat} {j : Nat} {ob ob' : AObj} (hd : isDefer o.op = false) (hq : ∀ A, View K A → OpOk P gm (onl s env) A o r (A.set j ob')) (hu : Upd K j ob j ob' K') (he : putA env o.dst r = env') (hv : ∀ p ∈ pend', ∀ x ∈ p.V, x ∈ K') (h : TD Y ds ops k pend' L' env' K') :
    ExK Y (onl s env) K o fun r K' => (∀ p ∈ pend', ∀ x ∈ p.V, x ∈ K') ∧ TD Y ds ops k pend' L' (putA env o.dst r) K' :=
  exK_op hd fun A hv' hn => ⟨r, _, K', hq A hv', .set hv' hn hu, hv, by rw [he]; exact h⟩
theorem exK_newC {s L' : List Nat} {ob : AObj} {envf : Nat → List AV} (hd : isDefer o.op = false) (hq : Nk P gm (onl s env) K o (fun j => .chan j) ob) (he : ∀ j, putA env o.dst (.chan j) = envf j) (hv : ∀ p ∈ pend', ∀ x ∈ p.V, x ∈ K) (h : ∀ j, j ∉ keys K → TD Y ds ops k pend' L' (envf j) ((j, ob) :: K)) :
    ExK Y (onl s env) K o fun r K' => (∀ p ∈ pend', ∀ x ∈ p.V, x ∈ K') ∧ TD Y ds ops k pend' L' (putA env o.dst r) K' :=
  exK_op hd fun A hv' hn => ⟨_, _, _, hq A hv', .push hv' hn ob, fun p hp x hx => List.mem_cons_of_mem _ (hv p hp x hx), by dsimp only; rw [he]; exact h _ fun hm => absurd (hv'.lt hm) (Nat.lt_irrefl _)⟩
end

/-! ### a worker -/
section
variable {P : Program}
def bot (P : Program) : Frame := { (default : Frame) with fn := P.funcs.size, defers := [], mode := .panicking [goexitEntry] }

theorem birth {main : Bool} {g : FuncId} (hg : callable P g = true) (xs ys : Array Value) (w : World) : stepG P main (born P { target := .fn (.func g) ys, args := xs }) w = .go (G (Frame.enter P g (xs ++ ys) .deferred) [bot P]) w #[] := by
  unfold callable at hg
  split at hg
  · rename_i fn e
    simp only [Bool.and_eq_true, Bool.not_eq_true'] at hg
    have hb : fn.body.isNone = false := by
      cases e' : fn.body with
      | none => rw [e'] at hg; simp at hg
      | some _ => rfl
    have hr : (callFunc g (xs ++ ys)).runT P w #[] = (.ok (.enter g (xs ++ ys)) w, #[]) := by
      show (match P.funcs[g]? with | none => _ | some fn => _ : Sem Next).runT P w #[] = _
      rw [e]
      simp only [hg.1, hb, Bool.false_eq_true, if_false]
      rfl
    obtain ⟨e1, e2⟩ := runT_pair hr
    simp [born, stepG, unwind, callDeferred, invoke, Sem.runT_eq, e1, e2, seen, GStep.after, G, bot]
  · cases hg

/-- A worker that has sent, and ends by a return. -/
theorem quits_leave {g : FuncId} {fn : Func} {ts : Array Value} {k : List Item} (hf : P.funcs[g]? = some fn) (hr : fn.results = #[]) : QuitsD P 3 0 (G { fr .deferred g none ts [] k with mode := .returning } [bot P]) := by
  right
  refine ⟨rfl, G (bot P) [], #[], fun e he => by simp at he, fun w => ?_, ?_⟩
  · have : (results fn ts).runT P w #[] = (.ok (.tuple #[]) w, #[]) := by
      unfold results
      rw [hr, Array.mapM_eq_mapM_toList]
      rfl
    obtain ⟨e1, e2⟩ := runT_pair this
    simp [G, stepG, unwind, fr, hf, Sem.runT_eq, e1, e2, GStep.after, seen, doReturn, bot, goexitEntry]
  · right
    refine ⟨rfl, { frame := bot P, callers := [], status := .finished, dying := none }, #[], fun e he => by simp at he, fun w => ?_, ?_⟩
    · have : (default : Frame).todo = [] := rfl
      simp [G, stepG, unwind, bot, Frame.catches, goexitEntry, this]
    · left
      exact ⟨rfl, rfl⟩
theorem quits_ctl {n : Nat} {g g' : Goroutine} (hs : g.status = .running) (h : ∀ w, stepG P false g w = .go g' w #[]) (hq : QuitsD P n 0 g') : QuitsD P (n + 1) 0 g := .inr ⟨hs, g', #[], fun e he => by simp at he, h, hq⟩
theorem quits_ret {g : FuncId} {fn : Func} {ops : Array Oper} {ts : Array Value} {k : List Item} (hf : P.funcs[g]? = some fn) (hr : fn.results = #[]) : QuitsD P 5 0 (G (fr .deferred g none ts [] (.inRegion ops [] :: .code .ret :: k)) [bot P]) :=
  quits_ctl rfl (fun _ => sf_region_end) (quits_ctl rfl (fun _ => sf_ret) (quits_leave hf hr))
theorem quits_end {g : FuncId} {fn : Func} {ops : Array Oper} {ts : Array Value} (hf : P.funcs[g]? = some fn) (hr : fn.results = #[]) : QuitsD P 5 0 (G (fr .deferred g none ts [] [.inRegion ops []]) [bot P]) :=
  quits_ctl rfl (fun _ => sf_region_end) (quits_ctl rfl (fun _ => sf_end) (quits_leave hf hr))

variable {gm : Nat → Option Nat} {m : Nat × Value} {Y : KX P gm (TreeW P (AtSend P m))} {env : List AV} {K : KV} {ops : Array Oper} {i : Nat} {o : Oper} {k : List Item}
/-- It sends. -/
theorem TK.sendW {c x : Operand} {u : AV} (ho : ops[i]? = some o) (hop : o.op = .send c x) (hw : wantA ops env o = some true) (hc : opndO gm env c = some (.v (.chan (some m.1)))) (hx : opndO gm env x = some u) (hu : toV u = some m.2)
    (hkd : Y.X.kd = .deferred) (hro : Y.X.ro = none) (hcs : Y.X.cs = [bot P]) (hq : ∀ ts, QuitsD P 5 0 (G (fr .deferred Y.X.f none ts [] (.inRegion ops [] :: k)) [bot P])) : TK Y [] (.inRegion ops [i] :: k) env K := fun A hA φ H ts h1 h2 h3 h4 h5 h6 => by
  refine .stop ⟨G (fr Y.X.kd Y.X.f Y.X.ro ts (dsC φ []) (.inRegion ops [i] :: k)) Y.X.cs, .tuple #[], 5, rfl, ?_, fun w hf => ⟨#[], ?_, fun e he => by simp at he⟩⟩
  · have hfin := fr_finish Y.X.kd Y.X.f Y.X.ro ts (dsC φ []) ops i [] k undef
    simp only [Go.Conc.served, G] at *
    rw [hfin, hkd, hro, hcs]
    exact hq _
  · have e1 := opnd_rel (a := ⟨ts, []⟩) h3 h6 c
    rw [opndO_eq hc] at e1
    have e2 := opnd_rel (a := ⟨ts, []⟩) h3 h6 x
    rw [opndO_eq hx] at e2
    have e1' : evT ts c = .chan (some m.1) := inv_v e1
    have e2' : evT ts x = m.2 := toV_rel hu e2
    rw [sf_oper Y.X.hkd ho (wantA_ok h6 hw) (by rw [hop]; rfl)]
    have hex : execOp (evT ts) o = pure (.comm #[scase m.1 m.2 (.tuple #[])] true .send) := by
      unfold execOp
      rw [hop]
      dsimp only
      rw [e1', e2']
      rfl
    rw [hex]
    simp [stepG.apply, Sem.runT, fr, GStep.after, seen, pure]
    rfl
end
end Go.Vel
end
section
set_option linter.all false
namespace Go.Vel
open Go Go.Conc
open Go.ConcN (upd)

theorem pureS_runT {α : Type} {P : Program} : ∀ (s : Sem α) {a : α}, pureS P s = some a → ∀ (w : World) (es : Array Event), s.runT P w es = (.ok a w, es) := by
  intro s
  induction s with
  | pure b => intro a h w es; cases h; rfl
  | program k ih => intro a h w es; exact ih P h w es
  | _ => intro a h; cases h

theorem pureS_pure' {α : Type} {P : Program} (a : α) : pureS P (pure a) = some a := rfl

/-- What is lent, and what is let go. -/
def lend (Bs del : List Nat) (H : Hp) : Hp := fun b => if del.elem b then none else if Bs.elem b then (H b).map fun x => (false, x.2) else H b

theorem lend_sub {Bs del : List Nat} {H : Hp} {b : Nat} {rw' : Bool} {o : Obj} (h : lend Bs del H b = some (rw', o)) : ∃ r, H b = some (r, o) ∧ (rw' = true → r = true) := by
  unfold lend at h
  split at h
  · cases h
  · split at h
    · obtain ⟨x, hx, e⟩ := Option.map_eq_some_iff.1 h
      cases e
      exact ⟨x.1, hx, fun h => by cases h⟩
    · exact ⟨rw', h, id⟩
theorem lend_other {Bs del : List Nat} {H : Hp} {b : Nat} (h1 : b ∉ Bs) (h2 : b ∉ del) : lend Bs del H b = H b := by
  unfold lend
  rw [if_neg (by simpa using h2), if_neg (by simpa using h1)]
theorem lend_at {Bs del : List Nat} {H : Hp} {b : Nat} {r : Bool} {o : Obj} (h2 : b ∉ del) (h : H b = some (r, o)) : ∃ r', lend Bs del H b = some (r', o) := by
  unfold lend
  rw [if_neg (by simpa using h2)]
  split
  · exact ⟨false, by rw [h]; rfl⟩
  · exact ⟨r, h⟩

theorem RelH.lend {φ : Nat → Loc3} {A : List AObj} {F H : Hp} (h : RelH φ A F H) (Bs del : List Nat) (hB : ∀ (t : Nat) o, A[t]? = some o → o.live = true → sol (φ t) o → (φ t).blk ∉ del ∧ (o.excl = true → (φ t).blk ∉ Bs)) (hF : ∀ b, b ∈ Bs ∨ b ∈ del → F b = none) : RelH φ A F (Go.Vel.lend Bs del H) := by
  refine ⟨fun t o ht => ?_, h.apart, fun b x hx => ?_, h.frx⟩
  · have ho := h.obj t o ht
    cases o with
    | cells l e rw' =>
      intro hl
      obtain ⟨r, cur, fz, q1, q2, q3⟩ := ho hl
      obtain ⟨d1, d2⟩ := hB t _ ht rfl hl
      cases rw' with
      | false =>
        obtain ⟨r', hr'⟩ := lend_at (Bs := Bs) d1 q1
        exact ⟨r', cur, fz, hr', (fun h => by cases h), q3⟩
      | true => exact ⟨r, cur, fz, (lend_other (d2 rfl) d1).trans q1, q2, q3⟩
    | row l e size =>
      obtain ⟨h0, h2, hh⟩ := ho
      refine ⟨h0, h2, fun hc => ?_⟩
      obtain ⟨cur, q1, q2⟩ := hh hc
      obtain ⟨d1, d2⟩ := hB t _ ht rfl hc
      exact ⟨cur, (lend_other (d2 rfl) d1).trans q1, q2⟩
    | raw o =>
      obtain ⟨d1, d2⟩ := hB t _ ht rfl trivial
      exact (lend_other (d2 rfl) d1).trans ho
    | loop f env ps x y st pj =>
      obtain ⟨ts, d, q1, q2⟩ := ho
      obtain ⟨d1, d2⟩ := hB t _ ht rfl trivial
      exact ⟨ts, d, (lend_other (d2 rfl) d1).trans q1, q2⟩
    | gone => trivial
  · have hn : ¬ (b ∈ Bs ∨ b ∈ del) := fun hm => by rw [hF b hm] at hx; cases hx
    rw [lend_other (fun hm => hn (.inl hm)) (fun hm => hn (.inr hm))]
    exact h.fr b x hx

section
variable {P : Program} {gm : Nat → Option Nat} {T : Goroutine → Hp → Prop} {cg cn : Nat} {msg : Nat → Nat × Value} {Stop : Goroutine → Hp → Prop} {Y : KX P gm T} {ds : List Nat} {k : List Item} {env env' : List AV} {K K' : KV} {ops : Array Oper} {i : Nat} {rest : List Nat} {o : Oper} {φ0 : Nat → Loc3} {n0 j : Nat} {R : Nat → Bool}

/-- The gathering's frame. -/
def phX (Y : KX P gm T) (cg cn : Nat) (msg : Nat → Nat × Value) (Stop : Goroutine → Hp → Prop) (j : Nat) (R : Nat → Bool) (φ0 : Nat → Loc3) (n0 : Nat) : KX P gm (MainT P cg cn msg Stop j R) :=
  ⟨{ main := true, hT := shut_mainT P cg cn msg Stop j R, φ0, n0, F := Y.X.F, kd := Y.X.kd, hkd := Y.X.hkd, f := Y.X.f, ro := Y.X.ro, cs := Y.X.cs, L := fun _ _ _ _ => False, hL := fun _ _ _ _ _ _ _ _ _ h => h.elim }, Y.A0, Y.K0⟩

theorem kn_ph {j' : Nat} {R' : Nat → Bool} {A : List AObj} (h : Kn (phX Y cg cn msg Stop j R φ0 n0) K A) : Kn (phX Y cg cn msg Stop j' R' φ0 n0) K A := ⟨h.view, h.nd, h.own, h.kept, h.len⟩

/-- It is received. -/
theorem TK.recv {c1 c2 : Operand} {e1 e2 : TypeId} {t1 t2 : TypeInfo} {z1 z2 : Value} (ho : ops[i]? = some o) (hop : o.op = .select #[{ chan := c1, send := none, elem := e1 }, { chan := c2, send := none, elem := e2 }] true) (hw : wantA ops env o = some true) (hc1 : opndO gm env c1 = some (.v (.chan (some cg)))) (hc2 : opndO gm env c2 = some (.v (.chan (some cn))))
    (hi1 : P.info? e1 = some t1) (hz1 : t1.zero = some z1) (hi2 : P.info? e2 = some t2) (hz2 : t2.zero = some z2) (hex : ∃ q, q < j ∧ R q = false)
    (h : ∀ q, q < j → R q = false → TK (phX Y cg cn msg Stop j (upd R q true) φ0 n0) ds (.inRegion ops rest :: k) (putA env o.dst (.tup (if (msg q).1 = cg then [.v (.int .i64 0), .v (.bool true), .v (msg q).2, .v z2] else [.v (.int .i64 1), .v (.bool true), .v z1, .v (msg q).2]))) K) :
    TK (phX Y cg cn msg Stop j R φ0 n0) ds (.inRegion ops (i :: rest) :: k) env K := fun A hA φ H ts h1 h2 h3 h4 h5 h6 => by
  have q1 := opnd_rel (a := ⟨ts, []⟩) h3 h6 c1
  rw [opndO_eq hc1] at q1
  have q2 := opnd_rel (a := ⟨ts, []⟩) h3 h6 c2
  rw [opndO_eq hc2] at q2
  have q1' : evT ts c1 = .chan (some cg) := inv_v q1
  have q2' : evT ts c2 = .chan (some cn) := inv_v q2
  have hz : ∀ {t : TypeId} {ti : TypeInfo} {z : Value}, P.info? t = some ti → ti.zero = some z → pureS P (zeroValue t) = some z := fun {t ti z} hi hz => by
    unfold zeroValue typeInfo
    show pureS P ((match P.info? t with | some i => pure i | none => stuck "no such type") >>= _) = _
    rw [hi]
    show pureS P (match ti.zero with | some z => _ | none => _) = _
    rw [hz]; rfl
  have hpure : pureS P (execOp (evT ts) o) = some (.comm (sel2 cg cn z1 z2) true .select) := by
    unfold execOp
    rw [hop]
    dsimp only
    rw [Array.mapM_eq_mapM_toList]
    simp only [List.mapM_cons, List.mapM_nil]
    have b1 : ∀ {α β : Type} {s : Sem α} {f : α → Sem β} {a : α} {b : β}, pureS P s = some a → pureS P (f a) = some b → pureS P (s >>= f) = some b := fun h1 h2 => pureS_bind h1 h2
    rw [q1', q2']
    refine b1 (a := sel2 cg cn z1 z2) ?_ rfl
    refine b1 (a := [rcase cg z1, rcase cn z2]) ?_ rfl
    refine b1 (a := rcase cg z1) (b1 (hz hi1 hz1) rfl) ?_
    refine b1 (a := [rcase cn z2]) ?_ rfl
    exact b1 (a := rcase cn z2) (b1 (hz hi2 hz2) rfl) rfl
  refine .recv (G (fr Y.X.kd Y.X.f Y.X.ro ts (dsC φ ds) (.inRegion ops (i :: rest) :: k)) Y.X.cs) z1 z2 rfl hex (fun w hf => ⟨#[], ?_, fun e he => by simp at he⟩) fun q hq hR p hp => ?_
  · show stepG P true (G (fr Y.X.kd Y.X.f Y.X.ro ts (dsC φ ds) (.inRegion ops (i :: rest) :: k)) Y.X.cs) w = _
    rw [sf_oper Y.X.hkd ho (wantA_ok h6 hw) (by rw [hop]; rfl)]
    obtain ⟨r1, r2⟩ := runT_pair (pureS_runT _ hpure w #[])
    simp [stepG.apply, Sem.runT_eq, r1, r2, fr, GStep.after, seen]
    rfl
  · have hfin := fr_finish Y.X.kd Y.X.f Y.X.ro ts (dsC φ ds) ops i rest k (commResult (sel2 cg cn z1 z2) .select p (msg q).2 true)
    simp only [ho, Option.bind_some] at hfin
    show MainT P cg cn msg Stop j (upd R q true) (G ((fr Y.X.kd Y.X.f Y.X.ro ts (dsC φ ds) (.inRegion ops (i :: rest) :: k)).finish (commResult (sel2 cg cn z1 z2) .select p (msg q).2 true)) Y.X.cs) H
    rw [hfin]
    refine h q hq hR A (kn_ph hA) φ H _ h1 h2 h3 h4 h5 (put_rel (a := ⟨ts, []⟩) h6 ?_ o.dst)
    have htup : ∀ (a b c d : Value), RelV φ A.length (.tup [.v a, .v b, .v c, .v d]) (.tuple #[a, b, c, d]) := fun a b c d => .tup rfl fun t x y hx hy => by
      rcases t with _ | _ | _ | _ | t <;> simp at hx hy <;> subst hx hy <;> exact .v _
    have c0 : ∀ v, commResult (sel2 cg cn z1 z2) .select ((0 : Nat) : Int) v true = .tuple #[.int .i64 0, .bool true, v, z2] := fun v => by
      simp [commResult, sel2, rcase, goInt, Array.zipIdx]
    have c1 : ∀ v, commResult (sel2 cg cn z1 z2) .select ((1 : Nat) : Int) v true = .tuple #[.int .i64 1, .bool true, z1, v] := fun v => by
      simp [commResult, sel2, rcase, goInt, Array.zipIdx]
    by_cases e : (msg q).1 = cg
    · rw [if_pos e] at hp ⊢
      subst hp
      rw [c0]
      exact htup (.int .i64 0) (.bool true) (msg q).2 z2
    · rw [if_neg e] at hp ⊢
      subst hp
      rw [c1]
      exact htup (.int .i64 1) (.bool true) z1 (msg q).2

/-- All is gathered. -/
theorem TK.stopM {Ψ : Goroutine → World → Prop} {Y : KX P gm (BT P Ψ)} (hR : ∀ q, q < j → R q = true) (hk : ∀ x ∈ k, okI x) (hcs : ∀ f ∈ Y.X.cs, okF f) (hag : Agr Y.X.φ0 φ0 Y.X.n0) (hn : Y.X.n0 ≤ n0) (h : TK Y ds k env K) :
    TK (phX Y cg cn msg (fun a Hs => okG a ∧ BT P Ψ a Hs) j R φ0 n0) ds k env K := fun A hA φ H ts h1 h2 h3 h4 h5 h6 =>
  .stop rfl hR ⟨⟨hk, hcs, fun t h => by cases h⟩, h A ⟨hA.view, hA.nd, hA.own, hA.kept, hA.len⟩ φ H ts (hag.trans h1 hn) (Nat.le_trans hn h2) h3 h4 h5 h6⟩

/-- A worker is born; what is in S is lent to it, and one object is given. -/
theorem TK.spawn {fo : Operand} {at_ : Array TypeId} {g : FuncId} {cp : List AV} {S : KV} {j9 : Nat} {l9 : List AV} {e9 : TypeId} (ho : ops[i]? = some o) (hop : o.op = .go { callee := .value fo, args := #[], argTypes := at_ }) (hw : wantA ops env o = some true) (hf : opndO gm env fo = some (.fn g [] cp)) (hR : R j = false)
    (hS : ∀ x ∈ S, x ∈ K ∧ x.1 < n0 ∧ Y.X.F (φ0 x.1).blk = none ∧ ∃ l e, l ≠ [] ∧ x.2 = .cells l e false) (hu : Rem K (j9, .cells l9 e9 true) K') (hl9 : l9 ≠ [])
    (hchild : ∀ (φ : Nat → Loc3) (A : List AObj) (Hc : Hp) (vs : Array Value), View ((j9, .cells l9 e9 false) :: S) A → RelG gm φ A.length → RelH φ A (fun _ => none) Hc → RelL φ A.length cp vs → TreeW P (AtSend P (msg j)) (born P { target := .fn (.func g) vs, args := #[] }) Hc)
    (h : TK (phX Y cg cn msg Stop (j + 1) R φ0 n0) ds (.inRegion ops rest :: k) (putA env o.dst (.v undef)) K') :
    TK (phX Y cg cn msg Stop j R φ0 n0) ds (.inRegion ops (i :: rest) :: k) env K := fun A hA φ H ts h1 h2 h3 h4 h5 h6 => by
  have hperm := hu.perm
  have hmem9 : (j9, AObj.cells l9 e9 true) ∈ K := hperm.symm.subset (by simp)
  have hj9 := hA.view.get hmem9
  have hj9l : j9 < A.length := (List.getElem?_eq_some_iff.1 hj9).1
  have hne9 : ∀ x ∈ S, x.1 ≠ j9 := fun x hx e => by
    obtain ⟨hxK, _, _, l, e', _, hx2⟩ := hS x hx
    have h9 := hA.view x hxK
    rw [e, hj9, hx2] at h9
    cases h9
  obtain ⟨rw9, cur9, fz9, hb9, hfz9, hc9⟩ := h5.obj j9 _ hj9 hl9
  -- the closure
  have hfo := opnd_rel (a := ⟨ts, []⟩) h3 h6 fo
  rw [opndO_eq hf] at hfo
  obtain ⟨xs, ys, ev, hr1, hr2⟩ := inv_fn hfo
  have hxs : xs = #[] := by
    have := hr1.1
    exact Array.eq_empty_of_size_eq_zero this.symm
  subst hxs
  let Bs : List Nat := (φ j9).blk :: S.map fun x => (φ x.1).blk
  have hφS : ∀ x ∈ S, φ x.1 = φ0 x.1 := fun x hx => h1 x.1 (hS x hx).2.1
  have hFB : ∀ b, b ∈ Bs → Y.X.F b = none := fun b hb => by
    rcases List.mem_cons.1 hb with rfl | hb
    · exact h5.frx j9 _ hj9 rfl hl9
    · obtain ⟨x, hx, rfl⟩ := List.mem_map.1 hb
      rw [hφS x hx]; exact (hS x hx).2.2.1
  -- what is left
  have hdrop := h5.drop j9
  have hcaller : RelH φ (A.set j9 .gone) Y.X.F (lend Bs [] H) := by
    refine hdrop.lend Bs [] (fun t q ht hl hs => ⟨by simp, fun hx hm => ?_⟩) fun b hb => hFB b (hb.resolve_right (by simp))
    by_cases htj : j9 = t
    · subst htj
      rw [List.getElem?_set_self hj9l] at ht
      cases ht; cases hl
    · rw [List.getElem?_set_ne htj] at ht
      rcases List.mem_cons.1 hm with hm | hm
      · exact h5.apart t j9 q _ ht hj9 (fun e => htj e.symm) hx rfl hs hl9 hm
      · obtain ⟨x, hx', hm⟩ := List.mem_map.1 hm
        obtain ⟨hxK, _, _, l, e', hl0, hx2⟩ := hS x hx'
        have hax := hA.view x hxK
        rw [hx2] at hax
        by_cases htx : t = x.1
        · subst htx; rw [ht] at hax; cases hax; cases hx
        · exact h5.apart t x.1 q _ ht hax htx hx rfl hs hl0 hm.symm
  have hkn : Kn (phX Y cg cn msg Stop (j + 1) R φ0 n0) K' (A.set j9 .gone) := by
    have hnd := (keys_perm hperm).nodup_iff.1 hA.nd
    rw [keys_cons, List.nodup_cons] at hnd
    refine ⟨fun x hx => ?_, hnd.2, fun t ht => hA.own t ((keys_perm hperm).symm.subset (List.mem_cons_of_mem _ ht)), fun t ht1 ht2 => ?_, by rw [List.length_set]; exact hA.len⟩
    · have hne : j9 ≠ x.1 := fun e => hnd.1 (by show j9 ∈ keys K'; rw [e]; exact mem_keys hx)
      rw [List.getElem?_set_ne hne]
      exact hA.view x (hperm.symm.subset (List.mem_cons_of_mem _ hx))
    · have hne : j9 ≠ t := fun e => by
        subst e
        rcases hA.own j9 (mem_keys' hmem9) with h | h
        · exact ht2 h
        · exact absurd ht1 (Nat.not_lt.2 h)
      rw [List.getElem?_set_ne hne]
      exact hA.kept t ht1 ht2
  -- the child's
  let Ac : List AObj := (List.range A.length).map fun t => if t = j9 then .cells l9 e9 false else if (S.map (·.1)).elem t then (A[t]?).getD .gone else .gone
  have hAcl : Ac.length = A.length := by simp [Ac]
  have hAc : ∀ (t : Nat) (q : AObj), Ac[t]? = some q → q.live = true → (t = j9 ∧ q = .cells l9 e9 false) ∨ ∃ x ∈ S, x.1 = t ∧ x.2 = q := fun t q ht hl => by
    have hlt : t < A.length := by rw [← hAcl]; exact (List.getElem?_eq_some_iff.1 ht).1
    simp only [Ac, List.getElem?_map, List.getElem?_range hlt, Option.map_some, Option.some.injEq] at ht
    split at ht
    · rename_i e; exact .inl ⟨e, ht.symm⟩
    · split at ht
      · rename_i hm
        simp only [List.elem_eq_mem, decide_eq_true_eq] at hm
        obtain ⟨x, hx, e⟩ := List.mem_map.1 hm
        have hax := hA.view x (hS x hx).1
        rw [e] at hax
        rw [hax] at ht
        exact .inr ⟨x, hx, e, ht⟩
      · subst ht; cases hl
  let Hc : Hp := fun b => if Bs.elem b then (H b).map fun x => (false, x.2) else none
  have hHc : ∀ b r o, b ∈ Bs → H b = some (r, o) → Hc b = some (false, o) := fun b r o hb hx => by
    simp only [Hc]
    rw [if_pos (by simpa using hb), hx]; rfl
  have hRc : RelH φ Ac (fun _ => none) Hc := by
    have hne : ∀ (t : Nat) (q : AObj), Ac[t]? = some q → q.excl = false := fun t q ht => by
      cases hl : q.live with
      | false => cases q <;> first | rfl | cases hl
      | true =>
        rcases hAc t q ht hl with ⟨_, rfl⟩ | ⟨x, hx, _, hq⟩
        · rfl
        · obtain ⟨_, _, _, l, e', _, hx2⟩ := hS x hx
          rw [← hq, hx2]; rfl
    refine ⟨fun t q ht => ?_, fun t t' q q' ht _ _ he => absurd he (by rw [hne t q ht]; decide), (fun b x hx => by cases hx), fun t q ht he => absurd he (by rw [hne t q ht]; decide)⟩
    rw [hAcl]
    cases hl : q.live with
    | false => cases q <;> first | trivial | cases hl
    | true =>
      rcases hAc t q ht hl with ⟨rfl, rfl⟩ | ⟨x, hx, rfl, rfl⟩
      · intro _
        exact ⟨false, cur9, fz9, hHc _ _ _ List.mem_cons_self hb9, (fun h => by cases h), hc9⟩
      · obtain ⟨hxK, _, _, l, e', hl0, hx2⟩ := hS x hx
        have hax := hA.view x hxK
        rw [hx2] at hax ⊢
        intro _
        obtain ⟨r, cur, fz, p1, _, p3⟩ := h5.obj x.1 _ hax hl0
        exact ⟨false, cur, fz, hHc _ _ _ (List.mem_cons_of_mem _ (List.mem_map_of_mem hx)) p1, (fun h => by cases h), p3⟩
  have hVc : View ((j9, .cells l9 e9 false) :: S) Ac := fun x hx => by
    rcases List.mem_cons.1 hx with rfl | hx
    · simp [Ac, hj9l]
    · have hax := hA.view x (hS x hx).1
      have hlt : x.1 < A.length := (List.getElem?_eq_some_iff.1 hax).1
      simp only [Ac, List.getElem?_map, List.getElem?_range hlt, Option.map_some]
      rw [if_neg (hne9 x hx), if_pos (by simpa using ⟨x.2, hx⟩), hax]; rfl
  have hch := hchild φ Ac Hc ys hVc (by rw [hAcl]; exact h3) hRc (by rw [hAcl]; exact hr2)
  have hfin := fr_finish Y.X.kd Y.X.f Y.X.ro ts (dsC φ ds) ops i rest k undef
  simp only [ho, Option.bind_some] at hfin
  refine .spawn (G (fr Y.X.kd Y.X.f Y.X.ro (putT ts o.dst undef) (dsC φ ds) (.inRegion ops rest :: k)) Y.X.cs) (born P { target := .fn (.func g) ys, args := #[] }) (Go.Vel.lend Bs [] H) Hc rfl (fun w hf => ⟨#[], ?_, fun e he => by simp at he⟩) rfl rfl hR (fun b r q hb => lend_sub hb) (fun b r q hb => ?_) (fun b q hb => ?_) hch ?_
  · show stepG P true (G (fr Y.X.kd Y.X.f Y.X.ro ts (dsC φ ds) (.inRegion ops (i :: rest) :: k)) Y.X.cs) w = _
    rw [sf_oper Y.X.hkd ho (wantA_ok h6 hw) (by rw [hop]; rfl)]
    have hpure : pureS P (execOp (evT ts) o) = some (.spawn { target := .fn (.func g) ys, args := #[] }) := by
      unfold execOp
      rw [hop]
      dsimp only
      have ev' : evT ts fo = .func (.func g) #[] ys := ev
      refine pureS_bind (a := { target := .fn (.func g) ys, args := #[] }) ?_ rfl
      show pureS P (Deferred.ofValue (evT ts fo) ((#[] : Array Operand).map (evT ts))) = _
      rw [ev']
      simp [Deferred.ofValue, pureS_pure']
    obtain ⟨r1, r2⟩ := runT_pair (pureS_runT _ hpure w #[])
    simp only [fr] at hfin
    simp [stepG.apply, Sem.runT_eq, r1, r2, fr, GStep.after, seen, hfin, born]
    rfl
  · simp only [Hc] at hb
    split at hb
    · obtain ⟨x, hx, e⟩ := Option.map_eq_some_iff.1 hb
      cases e
      exact ⟨rfl, x.1, hx⟩
    · cases hb
  · simp only [Hc]
    split
    · rename_i hm
      exfalso
      unfold Go.Vel.lend at hb
      rw [if_neg (by simp), if_pos hm] at hb
      obtain ⟨x, _, e⟩ := Option.map_eq_some_iff.1 hb
      cases e
    · rfl
  · have hA9l : (A.set j9 .gone).length = A.length := by simp
    refine h (A.set j9 .gone) hkn φ _ _ h1 (by rw [hA9l]; exact h2) (by rw [hA9l]; exact h3) (by rw [hA9l]; exact h4) hcaller ?_
    rw [hA9l]
    exact put_rel (a := ⟨ts, []⟩) h6 (.v undef) o.dst
end
end Go.Vel
end
