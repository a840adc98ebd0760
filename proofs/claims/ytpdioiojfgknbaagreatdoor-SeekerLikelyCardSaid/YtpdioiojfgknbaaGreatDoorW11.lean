/- The law SeekerLikely: there is a state just if no more need be wrong than the book says; the likely seams are one then, and no other state has fewer that are wrong, or as many and comes before. It holds of every program, tape and world that the statements name, as each theorem says. -/
import Derived.Test.YtpdioiojfgknbaaGreatDoorW5
import Derived.Test.YtpdioiojfgknbaaGreatDoorW6
import Derived.Test.YtpdioiojfgknbaaGreatDoorW7
import Derived.Test.YtpdioiojfgknbaaGreatDoorW9
import Derived.Test.YtpdioiojfgknbaaGreatDoorW10
section
set_option linter.all false
set_option maxRecDepth 20000
set_option maxHeartbeats 60000000
namespace Go.Vel
open Go Go.Conc Go.Proofs

section
variable {P : Program} {gm : Nat → Option Nat} {T : Goroutine → Hp → Prop}
theorem objs_two {Q : List (Nat × List Int)} {x y : Nat × List Int} (hx : x ∈ Q) (hy : y ∈ Q) (hne : x.1 ≠ y.1) : ∃ R, (objsL Q).Perm ([(x.1, .cells (x.2.map intA) 3 false), (y.1, .cells (y.2.map intA) 3 false)] ++ R) := by
 obtain ⟨R1, h1⟩ := objs_split hx
 have h2 := h1.perm.subset (objsL_mem hy)
 rcases List.mem_cons.1 h2 with h2 | h2
 ·exact absurd (congrArg Prod.fst h2).symm hne
 ·obtain ⟨R2, h3⟩ := rem_of_mem h2
  exact ⟨R2, h1.perm.trans (.cons _ h3.perm)⟩
end
theorem cmpL_fin {xs ys : List Int} {i : Nat} (hx : i ≤ xs.length) (hy : i ≤ ys.length) (h : i = xs.length ∨ i = ys.length) (he : cmpL xs ys = cmpL (xs.drop i) (ys.drop i)) : decide ((xs.length : Int) < ys.length) = decide (cmpL xs ys < 0) := by
 rw [he]
 rcases h with rfl | rfl
 ·rw [cmpL_end hy]
  split <;> simp <;> omega
 ·by_cases hl : ys.length < xs.length
  ·rw [cmpL_big hl (Nat.le_refl _)]
   simp; omega
  ·have e : ys.length = xs.length := by omega
   have h2 := cmpL_end (xs := xs) (ys := ys) (by omega)
   rw [e]; rw [h2]; simp; omega
theorem cmpL_diff {xs ys : List Int} {i : Nat} (hx : i < xs.length) (hy : i < ys.length) (hne : (xs[i] != ys[i]) = true) (he : cmpL xs ys = cmpL (xs.drop i) (ys.drop i)) : decide (xs[i] < ys[i]) = decide (cmpL xs ys < 0) := by
 have hc := cmpI2_cases xs[i] ys[i]
 have hne : xs[i] ≠ ys[i] := by simpa using hne
 rw [he, cmpL_step hx hy, if_pos (by omega)]
 by_cases h : xs[i] < ys[i]
 ·rw [decide_eq_true h, decide_eq_true (by omega)]
 ·rw [decide_eq_false h, decide_eq_false (by omega)]
theorem cmpL_same {xs ys : List Int} {i : Nat} (hx : i < xs.length) (hy : i < ys.length) (hne : (xs[i] != ys[i]) = false) (he : cmpL xs ys = cmpL (xs.drop i) (ys.drop i)) : cmpL xs ys = cmpL (xs.drop (i + 1)) (ys.drop (i + 1)) := by
 have hc := cmpI2_cases xs[i] ys[i]
 have hne : xs[i] = ys[i] := by simpa using hne
 rw [he, cmpL_step hx hy, if_neg (by omega)]

theorem ltLists_tail {xs ys : List Int} (h1 : ¬ (xs.length : Int) < ys.length) (h2 : ((xs.length : Int) == ys.length) = true) : ltLists xs ys = decide (cmpL xs ys < 0) := by
 have h2 : (xs.length : Int) = ys.length := by simpa using h2
 rw [Bool.eq_iff_iff, ltLists_iff, decide_eq_true_eq]
 constructor
 ·rintro (h | h)
  ·omega
  ·exact h.2
 ·exact fun h => .inr ⟨by omega, h⟩
theorem ltLists_ne {xs ys : List Int} (h1 : ¬ (xs.length : Int) < ys.length) (h2 : ((xs.length : Int) == ys.length) = false) : ltLists xs ys = false := by
 have h2 : (xs.length : Int) ≠ ys.length := by simpa using h2
 rw [Bool.eq_false_iff, ne_eq, ltLists_iff]
 omega
theorem upto_succ (n : Nat) : uptoM (n + 1) = uptoM n ++ [(n : Int)] := by unfold uptoM; rw [List.range_succ, List.map_append]; rfl
theorem upto_len (n : Nat) : (uptoM n).length = n := by unfold uptoM; simp
theorem upto_mem {n : Nat} {x : Int} (h : x ∈ uptoM n) : 0 ≤ x ∧ x < n := by
 obtain ⟨k, hk, rfl⟩ := List.mem_map.1 h
 have := List.mem_range.1 hk
 omega
theorem allS_succ {b : Bk} {S l : List Int} {q : Nat} (h : q < l.length) : allS b S (l.take (q + 1)) = (allS b S (l.take q) && rightM b S l[q].toNat) := by
 unfold allS
 rw [List.take_add_one, List.getElem?_eq_getElem h, List.all_append]
 simp
theorem and_tail {a c d : Bool} (h : (a && c) = true) : (a && (c && d)) = d := by
 cases a <;> cases c <;> simp_all
theorem and_dead {a c d : Bool} (h : (a && c) = false) : (a && (c && d)) = false := by
 cases a <;> cases c <;> simp_all

theorem rightI_ok {main : Bool} {T : Goroutine → Hp → Prop} (hT : Shut Tryz.prog main T) {gm : Nat → Option Nat} {b : Bk} {s e j off : Nat} {ob : AObj} {xs : List Int} {x : Int} (hb : BkOk b) (hS : SmOk b xs) (hi : 0 ≤ x ∧ x < b.seekers.length) (hI : IntsAt ob off xs) (hlx : xs.length ≤ 1000) :
  CallK Tryz.prog T gm 53 [.agg (bookC b s e), .sl j off xs.length, intA x] [(s, saysO b), (j, ob)] (fun r K' => r = boolA (rightM b xs x.toNat) ∧ K' = [(s, saysO b), (j, ob)]) := by
 obtain ⟨k, rfl⟩ := Int.eq_ofNat_of_zero_le hi.1
 rw [Int.toNat_natCast]
 exact rightR_ok hT hb hS (by omega) hI hlx
theorem earlier_ok {main : Bool} {T : Goroutine → Hp → Prop} (hT : Shut Tryz.prog main T) {gm : Nat → Option Nat} {j off j2 off2 : Nat} {ob ob2 : AObj} {xs ys : List Int} (hjj : j ≠ j2) (hI : IntsAt ob off xs) (hI2 : IntsAt ob2 off2 ys) (hlx : xs.length ≤ 100000) (hly : ys.length ≤ 100000) :
  CallK Tryz.prog T gm 35 [.sl j off xs.length, .sl j2 off2 ys.length] [(j, ob), (j2, ob2)] (fun r K' => r = boolA (decide (cmpL xs ys < 0)) ∧ K' = [(j, ob), (j2, ob2)]) := by
 refine callK_in 41 hT Tryz.func35 fun Y hret => ?_
 refine au [4, 5, 2, 3, 4, 4, 5, 2, 3, 13] ?_
 refine TK.maskL [0, 1, 5] ?_
 refine TK.loopN (fun n env K => ∃ (i : Nat), n = xs.length - i ∧ i ≤ xs.length ∧ i ≤ ys.length ∧ cmpL xs ys = cmpL (xs.drop i) (ys.drop i) ∧ env = slotsA 41 [(0, .sl j off xs.length), (1, .sl j2 off2 ys.length), (5, intA i)] ∧ K = [(j, ob), (j2, ob2)]) xs.length ⟨0, rfl, Nat.zero_le _, Nat.zero_le _, rfl, rfl, rfl⟩ fun n env K hI' hnext => ?_
 obtain ⟨i, rfl, hi1, hi2, hcm, rfl, rfl⟩ := hI'
 refine au [4, 4, 5, 1, 1, 28, 6, 1] ?_
 refine TK.sp 10 (fun g2_5 => ?_) (fun g2_5 => ?_)
 ·have hx : i < xs.length := by have := of_decide_eq_true g2_5; omega
  refine au [1, 1, 28, 6, 26, 3, 20] ?_
  refine ⟨fun hc0 => ?_, fun hc0 => ?_⟩
  ·have hy : i < ys.length := by have := of_decide_eq_true hc0; omega
   refine au [12, 4, 13, 4] ?_
   refine TK.draw [0, 1, 2, 3, 4, 5, 6, 7, 8] [0, 1, 2, 3, 4, 5, 6, 7, 8] (by kernel_rfl) (by kernel_rfl) ?_
   refine TD.z [0] rfl (q_move rfl rfl) ?_
   refine TD.z [5] rfl (q_move rfl rfl) ?_
   refine TD.z [18, 19] rfl (q_indexSl rfl rfl rfl SlEl.h (by omega) (by omega)) ?_
   refine TD.y [20] rfl (hq := q_load1 rfl rfl TySz.h (List.Mem.head _) (hI i hx)) (h := ?_)
   refine TD.z [1] rfl (q_move rfl rfl) ?_
   refine TD.z [5] rfl (q_move rfl rfl) ?_
   refine TD.z [22, 23] rfl (q_indexSl rfl rfl rfl SlEl.h (by omega) (by omega)) ?_
   refine TD.y [24] rfl (hq := q_load1 rfl rfl TySz.h (List.Mem.head _) (hI2 i (by omega))) (h := ?_)
   refine TD.z [21, 25] rfl (q_cmp rfl rfl rfl rfl) ?_
   refine TD.fin ?_
   refine au [20] ?_
   refine ⟨fun hc1 => ?_, fun hc1 => ?_⟩
   ·refine au [4] ?_
    refine TK.draw [0, 1, 2, 3, 4, 5, 6, 7, 8, 9] [0, 1, 2, 3, 4, 5, 6, 7, 8, 9] (by kernel_rfl) (by kernel_rfl) ?_
    refine TD.z [0] rfl (q_move rfl rfl) ?_
    refine TD.z [5] rfl (q_move rfl rfl) ?_
    refine TD.z [27, 28] rfl (q_indexSl rfl rfl rfl SlEl.h (by omega) (by omega)) ?_
    refine TD.y [29] rfl (hq := q_load1 rfl rfl TySz.h (List.Mem.head _) (hI i hx)) (h := ?_)
    refine TD.z [1] rfl (q_move rfl rfl) ?_
    refine TD.z [5] rfl (q_move rfl rfl) ?_
    refine TD.z [31, 32] rfl (q_indexSl rfl rfl rfl SlEl.h (by omega) (by omega)) ?_
    refine TD.y [33] rfl (hq := q_load1 rfl rfl TySz.h (List.Mem.head _) (hI2 i (by omega))) (h := ?_)
    refine TD.z [30, 34] rfl (q_cmp rfl rfl rfl rfl) ?_
    refine TD.as (pend' := []) [35] rfl rfl (q_assign rfl rfl) ?_
    refine TD.fin ?_
    refine au [] ?_
    refine TK.rt hret [(j, _), (j2, _)] ?_
    exact ⟨by rw [cmpL_diff hx (by omega) hc1 hcm]; rfl, rfl⟩
   refine au [12, 14, 5, 1, 23, 2, 3] ?_
   refine TK.maskL [0, 1, 5] ?_
   exact hnext _ _ _ (by omega) ⟨i + 1, rfl, by omega, by omega, cmpL_same hx (by omega) hc1 hcm, rfl, rfl⟩
  have hy := of_decide_eq_false hc0
  refine au [16, 4, 5, 1, 28, 1, 28, 6, 2, 3] ?_
  refine TK.rt hret [(j, _), (j2, _)] ?_
  exact ⟨by rw [cmpL_fin hi1 hi2 (.inr (by omega)) hcm]; rfl, rfl⟩
 have hx := of_decide_eq_false g2_5
 refine au [11, 11, 11, 11, 25, 3, 19, 16, 4, 5, 1, 28, 1, 28, 6, 2, 3] ?_
 refine TK.rt hret [(j, _), (j2, _)] ?_
 exact ⟨by rw [cmpL_fin hi1 hi2 (.inl (by omega)) hcm]; rfl, rfl⟩

theorem smaller_ok {main : Bool} {T : Goroutine → Hp → Prop} (hT : Shut Tryz.prog main T) {gm : Nat → Option Nat} {j off j2 off2 : Nat} {ob ob2 : AObj} {xs ys : List Int} (hjj : j ≠ j2) (hI : IntsAt ob off xs) (hI2 : IntsAt ob2 off2 ys) (hlx : xs.length ≤ 100000) (hly : ys.length ≤ 100000) :
  CallK Tryz.prog T gm 41 [.sl j off xs.length, .sl j2 off2 ys.length] [(j, ob), (j2, ob2)] (fun r K' => r = boolA (ltLists xs ys) ∧ K' = [(j, ob), (j2, ob2)]) := by
 refine callK_in 22 hT Tryz.func41 fun Y hret => ?_
 refine au [4, 5, 2, 3, 4, 5, 1, 28, 1, 28, 6, 1] ?_
 refine TK.sp 10 (fun g1_6 => ?_) (fun g1_6 => ?_)
 ·refine au [11, 11, 11, 11, 11, 11, 11, 11, 11, 11, 26, 2, 3] ?_
  refine TK.rt hret [(j, _), (j2, _)] ?_
  exact ⟨by rw [(ltLists_iff _ _).2 (.inl (by have := of_decide_eq_true g1_6; omega))]; rfl, rfl⟩
 refine au [1, 28, 1, 28, 6, 1] ?_
 refine TK.sp 16 (fun g1_12 => ?_) (fun g1_12 => ?_)
 ·refine au [1, 1] ?_
  refine TK.cl rfl rfl rfl rfl (earlier_ok hT hjj hI hI2 hlx hly) ?_
  rintro r1 K2 ⟨rfl, rfl⟩
  refine au [26, 25, 2, 3] ?_
  refine TK.rt hret [(j, _), (j2, _)] ?_
  exact ⟨by rw [ltLists_tail (of_decide_eq_false g1_6) g1_12], rfl⟩
 refine au [11, 11, 11, 25, 25, 2, 3] ?_
 refine TK.rt hret [(j, _), (j2, _)] ?_
 exact ⟨by rw [ltLists_ne (of_decide_eq_false g1_6) g1_12]; rfl, rfl⟩

theorem upto_ok {main : Bool} {T : Goroutine → Hp → Prop} (hT : Shut Tryz.prog main T) {gm : Nat → Option Nat} {n : Nat} (hn : n ≤ 1000) :
  CallK Tryz.prog T gm 39 [intA n] [] (fun r K' => ∃ j, r = .row j n ∧ K' = (j, .row ((uptoM n).map intA) 3 1) :: []) := by
 refine callK_in 15 hT Tryz.func39 fun Y hret => ?_
 refine au [4, 5, 2, 3, 4, 5, 2] ?_
 refine TK.virt 3 3 1 rfl fun j00 hj00 => ?_
 refine au [3, 4, 4, 5, 2, 3, 13] ?_
 refine TK.maskL [0, 3, 4] ?_
 refine TK.loopN (fun m env K => ∃ (i j : Nat), m = n - i ∧ i ≤ n ∧ env = slotsA 15 [(0, intA n), (3, .row j i), (4, intA i)] ∧ K = [(j, .row ((uptoM i).map intA) 3 1)]) n ⟨0, j00, rfl, Nat.zero_le _, rfl, rfl⟩ fun m env K hI hnext => ?_
 obtain ⟨i, j, rfl, hi, rfl, rfl⟩ := hI
 have hul := upto_len i
 refine au [4, 4, 5, 1, 1, 6, 3, 20] ?_
 refine ⟨fun hc0 => ?_, fun hc0 => ?_⟩
 ·simp only [decide_eq_true_eq] at hc0
  have hil : i < n := by omega
  refine au [12, 4, 13, 5, 1, 1] ?_
  refine TK.newR rfl rfl rfl (n_buildSlice (l := [_]) rfl SlEl.h TyZ.h (by decide) (by decide) rfl) (fun _ => putS rfl (by simp only [List.set]; rfl)) fun j1 hj1 => ?_
  refine TK.appR rfl rfl rfl (a_app rfl ApOf.h rfl (by repeat (first | exact List.Mem.head _ | assumption | apply List.Mem.tail)) (by simp [uptoM]) rfl (src_row (ln := [_]) (by repeat (first | exact List.Mem.head _ | assumption | apply List.Mem.tail)) (by decide) (by simp) rfl) (by omega) rfl (by unfold maxLen; omega) (by omega)) (fun _ => (by repeat (first | exact Upd.head | apply Upd.tail))) (fun _ => putS rfl (by simp only [List.set]; rfl)) fun j2 => ?_
  refine au [2, 3, 14, 5, 1, 23, 2, 3] ?_
  refine TK.maskL [0, 3, 4] ?_
  refine TK.kp [(j2, _)] ?_
  exact hnext _ _ _ (by omega) ⟨i + 1, j2, rfl, by omega, rfl, by rw [upto_succ, List.map_append]; rfl⟩
 simp only [decide_eq_false_iff_not] at hc0
 obtain rfl : i = n := by omega
 refine au [16, 4, 5, 1, 2, 3] ?_
 refine TK.rt hret [(j, _)] ?_
 exact ⟨j, rfl, rfl⟩
end Go.Vel
end
section
set_option linter.all false
set_option maxRecDepth 20000
set_option maxHeartbeats 60000000
namespace Go.Vel
open Go Go.Conc Go.Proofs

theorem bytes_refl (a : ByteArray) : (a == a) = true := by show (a.data == a.data) = true; simp
section
variable {P : Program} {gm : Nat → Option Nat} {T : Goroutine → Hp → Prop} {Y : KX P gm T} {ds : List Nat} {k : List Item} {env env' : List AV} {K K' K1 : KV} {ops : Array Oper} {i : Nat} {L' : List Nat} {o : Oper} {envf : Nat → List AV} {pend pend' : List Pd}
/-- Some are appended, perhaps none, in a drawn region. -/
theorem TD.cappG {s x : Operand} {t e : TypeId} {size bytes j n m : Nat} {lo ln : List AV} {u : AV} {K'' : Nat → KV} (sl : List Nat) (ho : ops[i]? = some o) (hd : isDefer o.op = false) (hw : wantA ops (onl sl env) o = some true) (hp' : pendOf ops i pend = pend') (hc : chkC ops pend' L' sl i o.dst = true) (hop : o.op = .call { callee := .builtin .append, args := #[s, x], argTypes := #[t, t] }) (ht : apOf P t = some (e, size, bytes)) (hs : opndO gm (onl sl env) s = some (.row j n)) (hm : (j, .row lo e size) ∈ K) (hlo : lo.length = n * size) (hx : opndO gm (onl sl env) x = some u) (hl : lenA u = some m) (hsrc : 0 < m → srcO K size u m ln) (hln : m = 0 → ln = [])
  (hone : ln.all oneA = true) (hmax : n + m ≤ maxLen) (hbytes : (n + m) * bytes ≤ 140737488355328) (hu : ∀ j', Upd K j (.row lo e size) j' (.row (lo ++ ln) e size) (K'' j')) (he : ∀ j', putA env o.dst (.row j' (n + m)) = envf j') (hv : ∀ j', ∀ p ∈ pend', ∀ x ∈ p.V, x ∈ K'' j') (h : ∀ j', TD Y ds ops k pend' L' (envf j') (K'' j')) : TD Y ds ops k pend (i :: L') env K := by
 rcases Nat.eq_zero_or_pos m with e0 | hpos
 ·subst e0
  have hk : K'' j = K := (hu j).same (by rw [hln rfl, List.append_nil])
  have ht' := ht
  unfold apOf at ht'
  split at ht'
  ·rename_i e' h1
   split at ht'
   ·rename_i ti h2
    refine TD.cq (r := .row j n) sl ho hd hw hp' hc (q_app0 hop h1 h2 hs hx hl) (he j) (by rw [← hk]; exact hv j) ?_
    rw [← hk]; exact h j
   ·cases ht'
  ·cases ht'
 ·exact TD.capp sl ho hd hw hp' hc (a_app hop ht hs hm hlo hx (hsrc hpos) hpos hone hmax hbytes) hu he hv h
theorem exK_app {j n : Nat} {ob ob' : AObj} {K'' : Nat → KV} {sl : List Nat} (hd : isDefer o.op = false) (hq : ∀ A, View K A → OpOk P gm (onl sl env) A o (.row A.length n) (A.set j .gone ++ [ob'])) (hu : ∀ j', Upd K j ob j' ob' (K'' j')) (he : ∀ j', putA env o.dst (.row j' n) = envf j') (hv : ∀ j', ∀ p ∈ pend', ∀ x ∈ p.V, x ∈ K'' j') (h : ∀ j', TD Y ds ops k pend' L' (envf j') (K'' j')) :
  ExK Y (onl sl env) K o fun r K' => (∀ p ∈ pend', ∀ x ∈ p.V, x ∈ K') ∧ TD Y ds ops k pend' L' (putA env o.dst r) K' :=
 exK_op hd fun A hv' hn => ⟨_, _, _, hq A hv', .renew hv' hn (hu _), hv _, by rw [he]; exact h _⟩
theorem exK_appG {s x : Operand} {t e : TypeId} {size bytes j n m : Nat} {lo ln : List AV} {u : AV} {K'' : Nat → KV} {sl : List Nat} (hd : isDefer o.op = false) (hop : o.op = .call { callee := .builtin .append, args := #[s, x], argTypes := #[t, t] }) (ht : apOf P t = some (e, size, bytes)) (hs : opndO gm (onl sl env) s = some (.row j n)) (hm : (j, .row lo e size) ∈ K) (hlo : lo.length = n * size) (hx : opndO gm (onl sl env) x = some u) (hl : lenA u = some m) (hsrc : 0 < m → srcO K size u m ln) (hln : m = 0 → ln = [])
  (hone : ln.all oneA = true) (hmax : n + m ≤ maxLen) (hbytes : (n + m) * bytes ≤ 140737488355328) (hu : ∀ j', Upd K j (.row lo e size) j' (.row (lo ++ ln) e size) (K'' j')) (he : ∀ j', putA env o.dst (.row j' (n + m)) = envf j') (hv : ∀ j', ∀ p ∈ pend', ∀ x ∈ p.V, x ∈ K'' j') (h : ∀ j', TD Y ds ops k pend' L' (envf j') (K'' j')) :
  ExK Y (onl sl env) K o fun r K' => (∀ p ∈ pend', ∀ x ∈ p.V, x ∈ K') ∧ TD Y ds ops k pend' L' (putA env o.dst r) K' := by
 rcases Nat.eq_zero_or_pos m with e0 | hpos
 ·subst e0
  have hk : K'' j = K := (hu j).same (by rw [hln rfl, List.append_nil])
  have ht' := ht
  unfold apOf at ht'
  split at ht'
  ·rename_i e' h1
   split at ht'
   ·rename_i ti h2
    exact exK_op hd fun A hv' hn => ⟨.row j n, A, K, q_app0 hop h1 h2 hs hx hl A hv', .same hv' hn, by rw [← hk]; exact hv j, by rw [show putA env o.dst (.row j n) = envf j from he j, ← hk]; exact h j⟩
   ·cases ht'
  ·cases ht'
 ·exact exK_app hd (a_app hop ht hs hm hlo hx (hsrc hpos) hpos hone hmax hbytes) hu he hv h
end
theorem sameB_ok {main : Bool} {T : Goroutine → Hp → Prop} (hT : Shut Tryz.prog main T) {gm : Nat → Option Nat} {b : Bk} {s1 e1 s2 e2 : Nat} (hl : b.seen.length ≤ 1000) (hl2 : b.seekers.length ≤ 1000) :
  CallK Tryz.prog T gm 15 [.agg (bookC b s1 e1), .agg (bookC b s2 e2)] [(s1, saysO b), (e1, seenO b), (s2, saysO b), (e2, seenO b)] (fun r K' => r = boolA true ∧ K' = [(s1, saysO b), (e1, seenO b), (s2, saysO b), (e2, seenO b)]) := by
 refine callK_in 80 hT Tryz.func15 fun Y hret => ?_
 refine au [4, 5, 21] ?_
 intro jb hjb
 refine au [21] ?_
 intro jc hjc
 refine au [2, 3, 4, 4, 5, 7, 9, 7, 9, 6, 1] ?_
 refine TK.sp 12 (fun g1_6 => ?_) (fun g1_6 => ?_)
 ·simp at g1_6
 refine au [7, 9, 7, 9, 6, 25, 1] ?_
 refine TK.sp 19 (fun g1_13 => ?_) (fun g1_13 => ?_)
 ·simp at g1_13
 refine au [7, 8, 7, 8] ?_
 refine TK.a rfl (q_neqFlat rfl rfl rfl rfl rfl FlatF.h EqG.h) ?_
 refine au [25, 1] ?_
 refine TK.sp 26 (fun g1_20 => ?_) (fun g1_20 => ?_)
 ·simp at g1_20
 refine au [7, 9, 28, 7, 9, 28, 6, 25, 1] ?_
 refine TK.sp 35 (fun g1_29 => ?_) (fun g1_29 => ?_)
 ·simp at g1_29
 refine au [7, 9, 28, 7, 9, 28, 6, 25, 3, 20] ?_
 refine ⟨fun hc0 => ?_, fun hc0 => ?_⟩
 ·simp at hc0
 refine au [12, 4, 4, 5, 2, 3, 13] ?_
 refine TK.maskL [2, 3, 5] ?_
 refine TK.kp [(jc, _), (jb, _), (s1, _), (e1, _), (s2, _), (e2, _)] ?_
 refine TK.loopN (fun n env K => ∃ (i : Nat), n = b.seekers.length - i ∧ i ≤ b.seekers.length ∧ env = slotsA 80 [(2, .ptr jb 0), (3, .ptr jc 0), (5, intA i)] ∧ K = [(jc, .cells (bookC b s2 e2) 27 true), (jb, .cells (bookC b s1 e1) 27 true), (s1, saysO b), (e1, seenO b), (s2, saysO b), (e2, seenO b)]) b.seekers.length ⟨0, rfl, Nat.zero_le _, rfl, rfl⟩ fun n env K hI hnext => ?_
 obtain ⟨i, rfl, hi, rfl, rfl⟩ := hI
 refine au [4, 4, 5, 1, 7, 9, 28, 6, 3, 20] ?_
 refine ⟨fun hc1 => ?_, fun hc1 => ?_⟩
 ·simp only [decide_eq_true_eq] at hc1
  have hil : i < b.seekers.length := by omega
  refine au [12, 4, 13, 4] ?_
  refine TK.draw [0, 1, 2, 3, 4, 5, 6, 7, 8, 9, 10] [0, 1, 2, 3, 4, 5, 6, 7, 8, 9, 10] (by kernel_rfl) (by kernel_rfl) ?_
  refine TD.z [2] rfl (q_fieldAddr rfl rfl FldOf.h (by decide)) ?_
  refine TD.y [51] rfl (hq := q_load1 rfl rfl TySz.h (List.Mem.head _) rfl) (h := ?_)
  refine TD.z [5] rfl (q_move rfl rfl) ?_
  refine TD.z [52, 53] rfl (q_indexSl rfl rfl rfl SlEl.h (by omega) (by omega)) ?_
  refine TD.y [54] rfl (hq := q_load rfl rfl TySz.h (List.Mem.head _) (says_at b i hil)) (h := ?_)
  refine TD.z [3] rfl (q_fieldAddr rfl rfl FldOf.h (by decide)) ?_
  refine TD.y [56] rfl (hq := q_load1 rfl rfl TySz.h (List.Mem.head _) rfl) (h := ?_)
  refine TD.z [5] rfl (q_move rfl rfl) ?_
  refine TD.z [57, 58] rfl (q_indexSl rfl rfl rfl SlEl.h (by omega) (by omega)) ?_
  refine TD.y [59] rfl (hq := q_load rfl rfl TySz.h (List.Mem.head _) (says_at b i hil)) (h := ?_)
  refine TD.z [55, 60] rfl (q_neqFlat rfl rfl rfl rfl rfl FlatF.h EqG.h) ?_
  refine TD.fin ?_
  refine au [20] ?_
  refine ⟨fun hc2 => ?_, fun hc2 => ?_⟩
  ·simp [bytes_refl] at hc2
  refine au [12, 14, 5, 1, 23, 2, 3] ?_
  refine TK.maskL [2, 3, 5] ?_
  exact hnext _ _ _ (by omega) ⟨i + 1, rfl, by omega, rfl, rfl⟩
 simp only [decide_eq_false_iff_not] at hc1
 refine au [16, 4, 4, 5, 2, 3, 13] ?_
 refine TK.maskL [2, 3, 6] ?_
 refine TK.loopN (fun n env K => ∃ (i : Nat), n = b.seen.length - i ∧ i ≤ b.seen.length ∧ env = slotsA 80 [(2, .ptr jb 0), (3, .ptr jc 0), (6, intA i)] ∧ K = [(jc, .cells (bookC b s2 e2) 27 true), (jb, .cells (bookC b s1 e1) 27 true), (s1, saysO b), (e1, seenO b), (s2, saysO b), (e2, seenO b)]) b.seen.length ⟨0, rfl, Nat.zero_le _, rfl, rfl⟩ fun n env K hI hnext => ?_
 obtain ⟨i, rfl, hi, rfl, rfl⟩ := hI
 refine au [4, 4, 5, 1, 7, 9, 28, 6, 3, 20] ?_
 refine ⟨fun hc3 => ?_, fun hc3 => ?_⟩
 ·simp only [decide_eq_true_eq] at hc3
  have hil : i < b.seen.length := by omega
  refine au [12, 4, 13, 4] ?_
  refine TK.draw [0, 1, 2, 3, 4, 5, 6, 7, 8, 9, 10] [0, 1, 2, 3, 4, 5, 6, 7, 8, 9, 10] (by kernel_rfl) (by kernel_rfl) ?_
  refine TD.z [2] rfl (q_fieldAddr rfl rfl FldOf.h (by decide)) ?_
  refine TD.y [69] rfl (hq := q_load1 rfl rfl TySz.h (List.Mem.head _) rfl) (h := ?_)
  refine TD.z [6] rfl (q_move rfl rfl) ?_
  refine TD.z [70, 71] rfl (q_indexSl rfl rfl rfl SlEl.h (by omega) (by omega)) ?_
  refine TD.y [72] rfl (hq := q_load rfl rfl TySz.h (List.Mem.head _) (seen_at b i hil)) (h := ?_)
  refine TD.z [3] rfl (q_fieldAddr rfl rfl FldOf.h (by decide)) ?_
  refine TD.y [74] rfl (hq := q_load1 rfl rfl TySz.h (List.Mem.head _) rfl) (h := ?_)
  refine TD.z [6] rfl (q_move rfl rfl) ?_
  refine TD.z [75, 76] rfl (q_indexSl rfl rfl rfl SlEl.h (by omega) (by omega)) ?_
  refine TD.y [77] rfl (hq := q_load rfl rfl TySz.h (List.Mem.head _) (seen_at b i hil)) (h := ?_)
  refine TD.z [73, 78] rfl (q_neqFlat rfl rfl rfl rfl rfl FlatF.h EqG.h) ?_
  refine TD.fin ?_
  refine au [20] ?_
  refine ⟨fun hc4 => ?_, fun hc4 => ?_⟩
  ·simp at hc4
  refine au [12, 14, 5, 1, 23, 2, 3] ?_
  refine TK.maskL [2, 3, 6] ?_
  exact hnext _ _ _ (by omega) ⟨i + 1, rfl, by omega, rfl, rfl⟩
 simp only [decide_eq_false_iff_not] at hc3
 refine au [16, 4, 5, 2, 3] ?_
 refine TK.rt hret [(s1, _), (e1, _), (s2, _), (e2, _)] ?_
 exact ⟨rfl, rfl⟩
end Go.Vel
end
section
set_option linter.all false
set_option maxRecDepth 20000
set_option maxHeartbeats 60000000
namespace Go.Vel
open Go Go.Conc Go.Proofs

section
variable {P : Program} {gm : Nat → Option Nat} {T : Goroutine → Hp → Prop} {Y : KX P gm T} {ds : List Nat} {k : List Item} {env env' : List AV} {K K' : KV}
/-- A book's row of seekers is frozen; what was seen is. -/
theorem TK.freezeB1 (d : Nat) {a b c f : Value} {j1 n1 e m : Nat} {l1 : List AV} {e1 s1 : Nat} (hd : env[d]? = some (.agg [.v a, .v b, .v c, .v f, .row j1 n1, .sl e 0 m])) (hu : Upd K j1 (.row l1 e1 s1) j1 (.cells l1 e1 false) K') (he : env.set d (.agg [.v a, .v b, .v c, .v f, .sl j1 0 n1, .sl e 0 m]) = env') (h : TK Y ds k env' K') : TK Y ds k env K :=
 TK.freeze d hd hu (by rw [← he]; simp [unrow1, unrow]) h
theorem TK.freezeB2 (d : Nat) {a b c f : Value} {j1 n1 s m : Nat} {l1 : List AV} {e1 s1 : Nat} (hd : env[d]? = some (.agg [.v a, .v b, .v c, .v f, .sl s 0 m, .row j1 n1])) (hu : Upd K j1 (.row l1 e1 s1) j1 (.cells l1 e1 false) K') (he : env.set d (.agg [.v a, .v b, .v c, .v f, .sl s 0 m, .sl j1 0 n1]) = env') (h : TK Y ds k env' K') : TK Y ds k env K :=
 TK.freeze d hd hu (by rw [← he]; simp [unrow1, unrow]) h
end
def newsR (b o : Bk) : Int := if checkM b ≠ 0 then checkM b else knownBar o true
def giveR (b : Bk) (k : Int) : Int := if checkM b ≠ 0 then checkM b else if isSeekerM b k = false then 6 else if glassB b k.toNat = true then 5 else knownBar (giveB b k.toNat) true
theorem heardR_ok {main : Bool} {T : Goroutine → Hp → Prop} (hT : Shut Tryz.prog main T) {gm : Nat → Option Nat} {b : Bk} {s e : Nat} {x : Says} (hl2 : b.seekers.length ≤ 1000) :
  CallK Tryz.prog T gm 16 [.agg (bookC b s e), .agg (saysC x)] [(s, saysO b), (e, seenO b)] (fun r K' => ∃ j3, r = .agg (bookC (hearB b x) j3 e) ∧ K' = [(s, saysO b), (e, seenO b), (j3, saysO (hearB b x))]) := by
 refine callK_in 14 hT Tryz.func16 fun Y hret => ?_
 refine au [4, 5, 21] ?_
 intro jb hjb
 refine au [21] ?_
 intro jx hjx
 refine au [22] ?_
 intro jr hjr
 refine au [3, 4] ?_
 refine TK.draw [1, 2, 4, 0, 3, 5, 6, 7, 8] [0, 1, 2, 3, 4, 5, 6, 7, 8] (by kernel_rfl) (by kernel_rfl) ?_
 refine TD.z [2] rfl (q_fieldAddr rfl rfl FldOf.h (by decide)) ?_
 refine TD.y [6] rfl (hq := q_load1 rfl rfl TySz.h (List.Mem.head _) rfl) (h := ?_)
 refine TD.y [3] rfl (hq := q_load rfl rfl TySz.h (List.Mem.head _) rfl) (h := ?_)
 refine TD.c2 (i1 := 0) (i2 := 5) (pend1 := [⟨4, [3], [(_, _)]⟩, ⟨2, [6], [(_, _)]⟩, ⟨1, [2], []⟩]) (pend2 := [⟨2, [6], [(_, _)]⟩, ⟨1, [2], []⟩]) (L1 := [3, 5, 6, 7, 8]) (L2 := [0, 3, 6, 7, 8]) [] [9] rfl rfl rfl rfl rfl rfl rfl ?_ ?_
 ·refine exK_newR rfl (n_buildSlice (l := []) rfl SlEl.h TyZ.h (by decide) (by decide) rfl) (fun _ => putS rfl (by simp only [List.set]; rfl)) (by simp) fun j1 hj1 => ?_
  refine TD.c2 (i1 := 3) (i2 := 5) (pend1 := [⟨4, [3], [(_, _)]⟩, ⟨1, [2], []⟩]) (pend2 := [⟨2, [6], [(_, _)]⟩, ⟨1, [2], []⟩]) (L1 := [5, 6, 7, 8]) (L2 := [3, 6, 7, 8]) [5, 7] [9] rfl rfl rfl rfl rfl rfl rfl ?_ ?_
  ·refine exK_appG (ln := b.seekers.flatMap saysC) rfl rfl ApOf.h rfl (by repeat (first | exact List.Mem.head _ | assumption | apply List.Mem.tail)) rfl rfl rfl (fun hp => src_sl (by repeat (first | exact List.Mem.head _ | assumption | apply List.Mem.tail)) (by omega) (take_full (n := b.seekers.length) (size := 5) (flat_len saysC 5 (fun _ => rfl) _) (by omega))) (fun h => by rw [List.eq_nil_of_length_eq_zero h]; rfl) (flat_all saysC (fun _ => rfl) _) (by unfold maxLen; omega) (by omega) (fun _ => (by repeat (first | exact Upd.head | apply Upd.tail))) (fun _ => putS rfl (by simp only [List.set]; rfl)) (fun _ => by simp) fun j2 => ?_
   simp only [List.nil_append, Nat.zero_add]
   refine TD.cnewR (pend' := [⟨1, [2], []⟩]) [9] rfl rfl rfl rfl rfl (n_buildSlice (l := [_, _, _, _, _]) rfl SlEl.h TyZ.h (by decide) (by decide) rfl) (fun _ => putS rfl (by simp only [List.set]; rfl)) (by simp) fun j5 hj5 => ?_
   refine TD.capp (pend' := [⟨1, [2], []⟩]) [8, 10] rfl rfl rfl rfl rfl (a_app rfl ApOf.h rfl (by repeat (first | exact List.Mem.head _ | assumption | apply List.Mem.tail)) (flat_len saysC 5 (fun _ => rfl) _) rfl (src_row (ln := [_, _, _, _, _]) (by repeat (first | exact List.Mem.head _ | assumption | apply List.Mem.tail)) (by decide) (by simp) rfl) (by omega) rfl (by unfold maxLen; omega) (by omega)) (fun _ => (by repeat (first | exact Upd.head | apply Upd.tail))) (fun _ => putS rfl (by simp only [List.set]; rfl)) (fun _ => (by simp)) fun j3 => ?_
   refine TD.z [2] rfl (q_fieldAddr rfl rfl FldOf.h (by decide)) ?_
   refine TD.s (pend' := []) [11, 12] rfl rfl (q_store rfl rfl TySz.h rfl rfl (by repeat (first | exact List.Mem.head _ | assumption | apply List.Mem.tail)) rfl) ?_
   refine TD.fin ?_
   refine au [4, 5, 8] ?_
   refine TK.freezeB1 13 rfl (by repeat (first | exact Upd.head | apply Upd.tail)) rfl ?_
   refine au [17, 3] ?_
   refine TK.rt hret [(s, _), (e, _), (j3, _)] ?_
   exact ⟨j3, by unfold bookC; rw [← hear_len]; rfl, by unfold saysO; rw [hear_seekers]; rfl⟩
  ·refine exK_newR rfl (n_buildSlice (l := [_, _, _, _, _]) rfl SlEl.h TyZ.h (by decide) (by decide) rfl) (fun _ => putS rfl (by simp only [List.set]; rfl)) (by simp) fun j5 hj5 => ?_
   refine TD.cappG (ln := b.seekers.flatMap saysC) (pend' := [⟨1, [2], []⟩]) [5, 7] rfl rfl rfl rfl rfl rfl ApOf.h rfl (by repeat (first | exact List.Mem.head _ | assumption | apply List.Mem.tail)) rfl rfl rfl (fun hp => src_sl (by repeat (first | exact List.Mem.head _ | assumption | apply List.Mem.tail)) (by omega) (take_full (n := b.seekers.length) (size := 5) (flat_len saysC 5 (fun _ => rfl) _) (by omega))) (fun h => by rw [List.eq_nil_of_length_eq_zero h]; rfl) (flat_all saysC (fun _ => rfl) _) (by unfold maxLen; omega) (by omega) (fun _ => (by repeat (first | exact Upd.head | apply Upd.tail))) (fun _ => putS rfl (by simp only [List.set]; rfl)) (fun _ => by simp) fun j2 => ?_
   simp only [List.nil_append, Nat.zero_add]
   refine TD.capp (pend' := [⟨1, [2], []⟩]) [8, 10] rfl rfl rfl rfl rfl (a_app rfl ApOf.h rfl (by repeat (first | exact List.Mem.head _ | assumption | apply List.Mem.tail)) (flat_len saysC 5 (fun _ => rfl) _) rfl (src_row (ln := [_, _, _, _, _]) (by repeat (first | exact List.Mem.head _ | assumption | apply List.Mem.tail)) (by decide) (by simp) rfl) (by omega) rfl (by unfold maxLen; omega) (by omega)) (fun _ => (by repeat (first | exact Upd.head | apply Upd.tail))) (fun _ => putS rfl (by simp only [List.set]; rfl)) (fun _ => (by simp)) fun j3 => ?_
   refine TD.z [2] rfl (q_fieldAddr rfl rfl FldOf.h (by decide)) ?_
   refine TD.s (pend' := []) [11, 12] rfl rfl (q_store rfl rfl TySz.h rfl rfl (by repeat (first | exact List.Mem.head _ | assumption | apply List.Mem.tail)) rfl) ?_
   refine TD.fin ?_
   refine au [4, 5, 8] ?_
   refine TK.freezeB1 13 rfl (by repeat (first | exact Upd.head | apply Upd.tail)) rfl ?_
   refine au [17, 3] ?_
   refine TK.rt hret [(s, _), (e, _), (j3, _)] ?_
   exact ⟨j3, by unfold bookC; rw [← hear_len]; rfl, by unfold saysO; rw [hear_seekers]; rfl⟩
 ·refine exK_newR rfl (n_buildSlice (l := [_, _, _, _, _]) rfl SlEl.h TyZ.h (by decide) (by decide) rfl) (fun _ => putS rfl (by simp only [List.set]; rfl)) (by simp) fun j5 hj5 => ?_
  refine TD.cnewR (pend' := [⟨2, [6], [(_, _)]⟩, ⟨1, [2], []⟩]) [] rfl rfl rfl rfl rfl (n_buildSlice (l := []) rfl SlEl.h TyZ.h (by decide) (by decide) rfl) (fun _ => putS rfl (by simp only [List.set]; rfl)) (by simp) fun j1 hj1 => ?_
  refine TD.cappG (ln := b.seekers.flatMap saysC) (pend' := [⟨1, [2], []⟩]) [5, 7] rfl rfl rfl rfl rfl rfl ApOf.h rfl (by repeat (first | exact List.Mem.head _ | assumption | apply List.Mem.tail)) rfl rfl rfl (fun hp => src_sl (by repeat (first | exact List.Mem.head _ | assumption | apply List.Mem.tail)) (by omega) (take_full (n := b.seekers.length) (size := 5) (flat_len saysC 5 (fun _ => rfl) _) (by omega))) (fun h => by rw [List.eq_nil_of_length_eq_zero h]; rfl) (flat_all saysC (fun _ => rfl) _) (by unfold maxLen; omega) (by omega) (fun _ => (by repeat (first | exact Upd.head | apply Upd.tail))) (fun _ => putS rfl (by simp only [List.set]; rfl)) (fun _ => by simp) fun j2 => ?_
  simp only [List.nil_append, Nat.zero_add]
  refine TD.capp (pend' := [⟨1, [2], []⟩]) [8, 10] rfl rfl rfl rfl rfl (a_app rfl ApOf.h rfl (by repeat (first | exact List.Mem.head _ | assumption | apply List.Mem.tail)) (flat_len saysC 5 (fun _ => rfl) _) rfl (src_row (ln := [_, _, _, _, _]) (by repeat (first | exact List.Mem.head _ | assumption | apply List.Mem.tail)) (by decide) (by simp) rfl) (by omega) rfl (by unfold maxLen; omega) (by omega)) (fun _ => (by repeat (first | exact Upd.head | apply Upd.tail))) (fun _ => putS rfl (by simp only [List.set]; rfl)) (fun _ => (by simp)) fun j3 => ?_
  refine TD.z [2] rfl (q_fieldAddr rfl rfl FldOf.h (by decide)) ?_
  refine TD.s (pend' := []) [11, 12] rfl rfl (q_store rfl rfl TySz.h rfl rfl (by repeat (first | exact List.Mem.head _ | assumption | apply List.Mem.tail)) rfl) ?_
  refine TD.fin ?_
  refine au [4, 5, 8] ?_
  refine TK.freezeB1 13 rfl (by repeat (first | exact Upd.head | apply Upd.tail)) rfl ?_
  refine au [17, 3] ?_
  refine TK.rt hret [(s, _), (e, _), (j3, _)] ?_
  exact ⟨j3, by unfold bookC; rw [← hear_len]; rfl, by unfold saysO; rw [hear_seekers]; rfl⟩

theorem lookedR_ok {main : Bool} {T : Goroutine → Hp → Prop} (hT : Shut Tryz.prog main T) {gm : Nat → Option Nat} {b : Bk} {s e : Nat} {x : Seen} (hl : b.seen.length ≤ 1000) :
  CallK Tryz.prog T gm 20 [.agg (bookC b s e), .agg (seenC x)] [(s, saysO b), (e, seenO b)] (fun r K' => ∃ j3, r = .agg (bookC (lookB b x) s j3) ∧ K' = [(s, saysO b), (e, seenO b), (j3, seenO (lookB b x))]) := by
 refine callK_in 14 hT Tryz.func20 fun Y hret => ?_
 refine au [4, 5, 21] ?_
 intro jb hjb
 refine au [21] ?_
 intro jx hjx
 refine au [22] ?_
 intro jr hjr
 refine au [3, 4] ?_
 refine TK.draw [1, 2, 4, 0, 3, 5, 6, 7, 8] [0, 1, 2, 3, 4, 5, 6, 7, 8] (by kernel_rfl) (by kernel_rfl) ?_
 refine TD.z [2] rfl (q_fieldAddr rfl rfl FldOf.h (by decide)) ?_
 refine TD.y [6] rfl (hq := q_load1 rfl rfl TySz.h (List.Mem.head _) rfl) (h := ?_)
 refine TD.y [3] rfl (hq := q_load rfl rfl TySz.h (List.Mem.head _) rfl) (h := ?_)
 refine TD.c2 (i1 := 0) (i2 := 5) (pend1 := [⟨4, [3], [(_, _)]⟩, ⟨2, [6], [(_, _)]⟩, ⟨1, [2], []⟩]) (pend2 := [⟨2, [6], [(_, _)]⟩, ⟨1, [2], []⟩]) (L1 := [3, 5, 6, 7, 8]) (L2 := [0, 3, 6, 7, 8]) [] [9] rfl rfl rfl rfl rfl rfl rfl ?_ ?_
 ·refine exK_newR rfl (n_buildSlice (l := []) rfl SlEl.h TyZ.h (by decide) (by decide) rfl) (fun _ => putS rfl (by simp only [List.set]; rfl)) (by simp) fun j1 hj1 => ?_
  refine TD.c2 (i1 := 3) (i2 := 5) (pend1 := [⟨4, [3], [(_, _)]⟩, ⟨1, [2], []⟩]) (pend2 := [⟨2, [6], [(_, _)]⟩, ⟨1, [2], []⟩]) (L1 := [5, 6, 7, 8]) (L2 := [3, 6, 7, 8]) [5, 7] [9] rfl rfl rfl rfl rfl rfl rfl ?_ ?_
  ·refine exK_appG (ln := b.seen.flatMap seenC) rfl rfl ApOf.h rfl (by repeat (first | exact List.Mem.head _ | assumption | apply List.Mem.tail)) rfl rfl rfl (fun hp => src_sl (by repeat (first | exact List.Mem.head _ | assumption | apply List.Mem.tail)) (by omega) (take_full (n := b.seen.length) (size := 2) (flat_len seenC 2 (fun _ => rfl) _) (by omega))) (fun h => by rw [List.eq_nil_of_length_eq_zero h]; rfl) (flat_all seenC (fun _ => rfl) _) (by unfold maxLen; omega) (by omega) (fun _ => (by repeat (first | exact Upd.head | apply Upd.tail))) (fun _ => putS rfl (by simp only [List.set]; rfl)) (fun _ => by simp) fun j2 => ?_
   simp only [List.nil_append, Nat.zero_add]
   refine TD.cnewR (pend' := [⟨1, [2], []⟩]) [9] rfl rfl rfl rfl rfl (n_buildSlice (l := [_, _]) rfl SlEl.h TyZ.h (by decide) (by decide) rfl) (fun _ => putS rfl (by simp only [List.set]; rfl)) (by simp) fun j5 hj5 => ?_
   refine TD.capp (pend' := [⟨1, [2], []⟩]) [8, 10] rfl rfl rfl rfl rfl (a_app rfl ApOf.h rfl (by repeat (first | exact List.Mem.head _ | assumption | apply List.Mem.tail)) (flat_len seenC 2 (fun _ => rfl) _) rfl (src_row (ln := [_, _]) (by repeat (first | exact List.Mem.head _ | assumption | apply List.Mem.tail)) (by decide) (by simp) rfl) (by omega) rfl (by unfold maxLen; omega) (by omega)) (fun _ => (by repeat (first | exact Upd.head | apply Upd.tail))) (fun _ => putS rfl (by simp only [List.set]; rfl)) (fun _ => (by simp)) fun j3 => ?_
   refine TD.z [2] rfl (q_fieldAddr rfl rfl FldOf.h (by decide)) ?_
   refine TD.s (pend' := []) [11, 12] rfl rfl (q_store rfl rfl TySz.h rfl rfl (by repeat (first | exact List.Mem.head _ | assumption | apply List.Mem.tail)) rfl) ?_
   refine TD.fin ?_
   refine au [4, 5, 8] ?_
   refine TK.freezeB2 13 rfl (by repeat (first | exact Upd.head | apply Upd.tail)) rfl ?_
   refine au [17, 3] ?_
   refine TK.rt hret [(s, _), (e, _), (j3, _)] ?_
   exact ⟨j3, by unfold bookC; rw [← look_len]; rfl, by unfold seenO; rw [look_seen]; rfl⟩
  ·refine exK_newR rfl (n_buildSlice (l := [_, _]) rfl SlEl.h TyZ.h (by decide) (by decide) rfl) (fun _ => putS rfl (by simp only [List.set]; rfl)) (by simp) fun j5 hj5 => ?_
   refine TD.cappG (ln := b.seen.flatMap seenC) (pend' := [⟨1, [2], []⟩]) [5, 7] rfl rfl rfl rfl rfl rfl ApOf.h rfl (by repeat (first | exact List.Mem.head _ | assumption | apply List.Mem.tail)) rfl rfl rfl (fun hp => src_sl (by repeat (first | exact List.Mem.head _ | assumption | apply List.Mem.tail)) (by omega) (take_full (n := b.seen.length) (size := 2) (flat_len seenC 2 (fun _ => rfl) _) (by omega))) (fun h => by rw [List.eq_nil_of_length_eq_zero h]; rfl) (flat_all seenC (fun _ => rfl) _) (by unfold maxLen; omega) (by omega) (fun _ => (by repeat (first | exact Upd.head | apply Upd.tail))) (fun _ => putS rfl (by simp only [List.set]; rfl)) (fun _ => by simp) fun j2 => ?_
   simp only [List.nil_append, Nat.zero_add]
   refine TD.capp (pend' := [⟨1, [2], []⟩]) [8, 10] rfl rfl rfl rfl rfl (a_app rfl ApOf.h rfl (by repeat (first | exact List.Mem.head _ | assumption | apply List.Mem.tail)) (flat_len seenC 2 (fun _ => rfl) _) rfl (src_row (ln := [_, _]) (by repeat (first | exact List.Mem.head _ | assumption | apply List.Mem.tail)) (by decide) (by simp) rfl) (by omega) rfl (by unfold maxLen; omega) (by omega)) (fun _ => (by repeat (first | exact Upd.head | apply Upd.tail))) (fun _ => putS rfl (by simp only [List.set]; rfl)) (fun _ => (by simp)) fun j3 => ?_
   refine TD.z [2] rfl (q_fieldAddr rfl rfl FldOf.h (by decide)) ?_
   refine TD.s (pend' := []) [11, 12] rfl rfl (q_store rfl rfl TySz.h rfl rfl (by repeat (first | exact List.Mem.head _ | assumption | apply List.Mem.tail)) rfl) ?_
   refine TD.fin ?_
   refine au [4, 5, 8] ?_
   refine TK.freezeB2 13 rfl (by repeat (first | exact Upd.head | apply Upd.tail)) rfl ?_
   refine au [17, 3] ?_
   refine TK.rt hret [(s, _), (e, _), (j3, _)] ?_
   exact ⟨j3, by unfold bookC; rw [← look_len]; rfl, by unfold seenO; rw [look_seen]; rfl⟩
 ·refine exK_newR rfl (n_buildSlice (l := [_, _]) rfl SlEl.h TyZ.h (by decide) (by decide) rfl) (fun _ => putS rfl (by simp only [List.set]; rfl)) (by simp) fun j5 hj5 => ?_
  refine TD.cnewR (pend' := [⟨2, [6], [(_, _)]⟩, ⟨1, [2], []⟩]) [] rfl rfl rfl rfl rfl (n_buildSlice (l := []) rfl SlEl.h TyZ.h (by decide) (by decide) rfl) (fun _ => putS rfl (by simp only [List.set]; rfl)) (by simp) fun j1 hj1 => ?_
  refine TD.cappG (ln := b.seen.flatMap seenC) (pend' := [⟨1, [2], []⟩]) [5, 7] rfl rfl rfl rfl rfl rfl ApOf.h rfl (by repeat (first | exact List.Mem.head _ | assumption | apply List.Mem.tail)) rfl rfl rfl (fun hp => src_sl (by repeat (first | exact List.Mem.head _ | assumption | apply List.Mem.tail)) (by omega) (take_full (n := b.seen.length) (size := 2) (flat_len seenC 2 (fun _ => rfl) _) (by omega))) (fun h => by rw [List.eq_nil_of_length_eq_zero h]; rfl) (flat_all seenC (fun _ => rfl) _) (by unfold maxLen; omega) (by omega) (fun _ => (by repeat (first | exact Upd.head | apply Upd.tail))) (fun _ => putS rfl (by simp only [List.set]; rfl)) (fun _ => by simp) fun j2 => ?_
  simp only [List.nil_append, Nat.zero_add]
  refine TD.capp (pend' := [⟨1, [2], []⟩]) [8, 10] rfl rfl rfl rfl rfl (a_app rfl ApOf.h rfl (by repeat (first | exact List.Mem.head _ | assumption | apply List.Mem.tail)) (flat_len seenC 2 (fun _ => rfl) _) rfl (src_row (ln := [_, _]) (by repeat (first | exact List.Mem.head _ | assumption | apply List.Mem.tail)) (by decide) (by simp) rfl) (by omega) rfl (by unfold maxLen; omega) (by omega)) (fun _ => (by repeat (first | exact Upd.head | apply Upd.tail))) (fun _ => putS rfl (by simp only [List.set]; rfl)) (fun _ => (by simp)) fun j3 => ?_
  refine TD.z [2] rfl (q_fieldAddr rfl rfl FldOf.h (by decide)) ?_
  refine TD.s (pend' := []) [11, 12] rfl rfl (q_store rfl rfl TySz.h rfl rfl (by repeat (first | exact List.Mem.head _ | assumption | apply List.Mem.tail)) rfl) ?_
  refine TD.fin ?_
  refine au [4, 5, 8] ?_
  refine TK.freezeB2 13 rfl (by repeat (first | exact Upd.head | apply Upd.tail)) rfl ?_
  refine au [17, 3] ?_
  refine TK.rt hret [(s, _), (e, _), (j3, _)] ?_
  exact ⟨j3, by unfold bookC; rw [← look_len]; rfl, by unfold seenO; rw [look_seen]; rfl⟩

theorem givenR_ok {main : Bool} {T : Goroutine → Hp → Prop} (hT : Shut Tryz.prog main T) {gm : Nat → Option Nat} {b : Bk} {s e : Nat} {k : Nat} (hl2 : b.seekers.length ≤ 1000) (hk : k < b.seekers.length) :
  CallK Tryz.prog T gm 22 [.agg (bookC b s e), intA k] [(s, saysO b), (e, seenO b)] (fun r K' => ∃ j3, r = .agg (bookC (giveB b k) j3 e) ∧ K' = [(s, saysO b), (e, seenO b), (j3, saysO (giveB b k))]) := by
 refine callK_in 16 hT Tryz.func22 fun Y hret => ?_
 refine au [4, 5, 21] ?_
 intro jb hjb
 refine au [22] ?_
 intro jr hjr
 refine au [3, 4, 5] ?_
 refine TK.newR rfl rfl rfl (n_buildSlice (l := []) rfl SlEl.h TyZ.h (by decide) (by decide) rfl) (fun _ => putS rfl (by simp only [List.set]; rfl)) fun j1 hj1 => ?_
 refine au [7, 9] ?_
 refine TK.appG (ln := b.seekers.flatMap saysC) rfl rfl rfl ApOf.h rfl (by repeat (first | exact List.Mem.head _ | assumption | apply List.Mem.tail)) rfl rfl rfl (fun hp => src_sl (by repeat (first | exact List.Mem.head _ | assumption | apply List.Mem.tail)) (by omega) (take_full (n := b.seekers.length) (size := 5) (flat_len saysC 5 (fun _ => rfl) _) (by omega))) (fun h => by rw [List.eq_nil_of_length_eq_zero h]; rfl) (flat_all saysC (fun _ => rfl) _) (by unfold maxLen; omega) (by omega) (fun _ => (by repeat (first | exact Upd.head | apply Upd.tail))) (fun _ => putS rfl (by simp only [List.set]; rfl)) fun j2 => ?_
 simp only [List.nil_append, Nat.zero_add]
 refine au [7, 17, 3, 4, 5, 7, 9, 1, 37, 7] ?_
 refine TK.st rfl rfl rfl (q_store rfl rfl TySz.h rfl rfl (by repeat (first | exact List.Mem.head _ | assumption | apply List.Mem.tail)) (put_glass hk)) (by repeat (first | exact Upd.head | apply Upd.tail)) (putN rfl) ?_
 refine au [3, 4, 5, 8] ?_
 refine TK.freezeB1 15 rfl (by repeat (first | exact Upd.head | apply Upd.tail)) rfl ?_
 refine au [17, 3] ?_
 refine TK.rt hret [(s, _), (e, _), (j2, _)] ?_
 exact ⟨j2, by unfold bookC; rw [← give_len]; rfl, rfl⟩
end Go.Vel
end
section
set_option linter.all false
set_option maxRecDepth 20000
set_option maxHeartbeats 60000000
namespace Go.Vel
open Go Go.Conc Go.Proofs
theorem fit_ok {main : Bool} {T : Goroutine → Hp → Prop} (hT : Shut Tryz.prog main T) {gm : Nat → Option Nat} {b : Bk} {s e : Nat} (hse : s ≠ e) :
  CallK Tryz.prog T gm 11 [.agg (bookC b s e)] [(s, saysO b), (e, seenO b)] (fun r K' => r = boolA (fitM b) ∧ K' = [(s, saysO b), (e, seenO b)]) := by
 refine callK_in 11 hT Tryz.func11 fun Y hret => ?_
 refine au [4, 5, 21] ?_
 intro jb hjb
 refine au [2, 3, 4, 5, 8] ?_
 refine TK.cl rfl rfl rfl rfl (great_ok hT (s := s) (e := e)) ?_
 rintro r1 K2 ⟨rfl, rfl⟩
 refine au [30, 1] ?_
 refine TK.sp 6 (fun g1_4 => ?_) (fun g1_4 => ?_)
 ·obtain ⟨hs1, hs2, hs3⟩ := great_small (b := b) (by simpa using g1_4)
  refine au [8] ?_
  refine TK.cl rfl rfl rfl rfl (checkR_ok hT hse (fun x hx => Nat.le_trans (hs3 x hx) (by omega)) (by omega) (by omega)) ?_
  rintro r4 K5 ⟨rfl, rfl⟩
  refine au [6, 26, 2, 3] ?_
  refine TK.rt hret [(s, _), (e, _)] ?_
  exact ⟨by unfold fitM; rw [g1_4, Bool.true_and]; rfl, rfl⟩
 refine au [11, 11, 11, 25, 2, 3] ?_
 refine TK.rt hret [(s, _), (e, _)] ?_
 exact ⟨by unfold fitM; rw [g1_4, Bool.false_and]; rfl, rfl⟩

theorem leaves_ok {main : Bool} {T : Goroutine → Hp → Prop} (hT : Shut Tryz.prog main T)  {b : Bk} {s e : Nat} (hse : s ≠ e) (hf : Fits9 b) (hroom : b.seen.length < 4) {i : Nat} (hi : (i : Int) < b.steps) :
  CallK Tryz.prog T gmS 27 [.agg (bookC b s e), intA i] [(0, checksG), (1, saysG), (s, saysO b), (e, seenO b)] (fun r K' => r = .tup [intA (maxM (oftM (statesM b) i) ((statesM b).length - oftM (statesM b) i)), boolA true] ∧ K' = [(0, checksG), (1, saysG), (s, saysO b), (e, seenO b)]) := by
 refine callK_in 35 hT Tryz.func27 fun Y hret => ?_
 refine au [] ?_
 have hck := hf.check
 have hb := bkOk_of hck
 have hst : isStepM b i = true := by unfold isStepM; simp only [Bool.and_eq_true, decide_eq_true_eq]; omega
 have hc1 := check_look (x := ⟨i, true⟩) hck hst hroom
 have hc2 := check_look (x := ⟨i, false⟩) hck hst hroom
 have hm1 := many_look hb (bkOk_of hc1)
 have hm2 := many_look hb (bkOk_of hc2)
 rw [if_pos rfl] at hm1
 rw [if_neg (by decide)] at hm2
 have hs1 := states_one hc1
 have hs2 := states_one hc2
 refine au [4, 5, 21] ?_
 intro jb hjb
 refine au [2, 2, 3, 4, 5, 8, 1, 39] ?_
 refine TK.cl rfl rfl rfl rfl (lookedR_ok hT (x := ⟨i, true⟩) hf.seen) ?_
 rintro r1 K2 ⟨j3, rfl, rfl⟩
 refine au [] ?_
 refine TK.nd fun hnd => ?_
 have hjj : s ≠ j3 := fun h => by subst h; simp [keys] at hnd
 refine TK.cl rfl rfl rfl rfl (statesApi_ok hT (b := lookB b ⟨i, true⟩) hjj hf.names (by simp [lookB]; omega)) ?_
 rintro r4 K5 ⟨rfl, rfl⟩
 refine au [] ?_
 rw [hs1.1, hs1.2, hm1]
 refine au [1, 10, 10, 2, 2, 3, 4] ?_
 refine TK.kp [(jb, _), (0, _), (1, _), (s, _), (e, _)] ?_
 refine au [5, 8, 1, 39] ?_
 refine TK.cl rfl rfl rfl rfl (lookedR_ok hT (x := ⟨i, false⟩) hf.seen) ?_
 rintro r7 K8 ⟨j4, rfl, rfl⟩
 refine au [] ?_
 refine TK.nd fun hnd => ?_
 have hjj2 : s ≠ j4 := fun h => by subst h; simp [keys] at hnd
 refine TK.cl rfl rfl rfl rfl (statesApi_ok hT (b := lookB b ⟨i, false⟩) hjj2 hf.names (by simp [lookB]; omega)) ?_
 rintro r10 K11 ⟨rfl, rfl⟩
 refine au [] ?_
 rw [hs2.1, hs2.2, hm2]
 refine au [1, 10, 10, 2, 2, 3, 4, 5, 1, 1] ?_
 refine TK.a rfl (q_max rfl rfl rfl) ?_
 refine au [1, 6, 1] ?_
 refine TK.sp 31 (fun g3_6 => ?_) (fun g3_6 => ?_)
 ·refine au [1, 6, 26, 2, 2, 3] ?_
  refine TK.rt hret [(0, _), (1, _), (s, _), (e, _)] ?_
  exact ⟨rfl, rfl⟩
 simp at g3_6
end Go.Vel
end
section
set_option linter.all false
set_option maxRecDepth 20000
set_option maxHeartbeats 60000000
namespace Go.Vel
open Go Go.Conc Go.Proofs
instance : Cal Tryz.prog 32 := ⟨by kernel_rfl⟩
instance : Cal Tryz.prog 34 := ⟨by kernel_rfl⟩
instance {a0 a1 a2 a3 a4 a5 a6 a7 a8 a9 a10 a11 a12 a13 a14 a15 a16 a17 a18 a19 a20 a21 a22 a23 a24 a25 a26 a27 a28 a29 a30 : Oper} : RgL #[a0, a1, a2, a3, a4, a5, a6, a7, a8, a9, a10, a11, a12, a13, a14, a15, a16, a17, a18, a19, a20, a21, a22, a23, a24, a25, a26, a27, a28, a29, a30] [0, 1, 2, 3, 4, 5, 6, 7, 8, 9, 10, 11, 12, 13, 14, 15, 16, 17, 18, 19, 20, 21, 22, 23, 24, 25, 26, 27, 28, 29, 30] := ⟨rfl⟩
end Go.Vel
end
section
set_option linter.all false
set_option maxRecDepth 20000
set_option maxHeartbeats 60000000
namespace Go.Vel
open Go Go.Conc Go.Proofs

theorem likely_pos {b : Bk} (hb : BkOk b) (hg : guessM b (allM b) ≠ []) : decide (((statesM b).length : Int) > 0) = decide ((likelyM b).2 ≤ b.wrong) := by
 rw [Bool.eq_iff_iff, decide_eq_true_eq, decide_eq_true_eq]
 have h := states_likely hb
 rw [ne_eq, states_zero] at h
 constructor
 ·intro h1; exact (h.1 (by omega)).2
 ·intro h1
  have := h.2 ⟨hg, h1⟩
  omega
theorem lawLikely_top {R : Value → World → Prop} {b : Bk} {s e : Nat} {jp : Nat} {l : List (Fin 65536)}  (hse : s ≠ e)  {A : List AObj} {φ : Nat → Loc3} {F H : Hp} {vs : Array Value} (hv : View [(0, checksG), (1, saysG), (s, saysO b), (e, seenO b), (jp, pickO l)] A) (hn0 : (keys [(0, checksG), (1, saysG), (s, saysO b), (e, seenO b), (jp, pickO l)]).Nodup) (hg : RelG gmS φ A.length) (hH : RelH φ A F H) (hargs : RelL φ A.length [.agg (bookC b s e), .sl jp 0 l.length] vs)
  (hR : ∀ r K' φ' A' H' v w, (fun r K' => r = boolA true ∧ K' = [(0, checksG), (1, saysG), (s, saysO b), (e, seenO b), (jp, pickO l)]) r K' → RelH φ' A' F H' → RelV φ' A'.length r v → Fits H' w → R v w) : BT Tryz.prog (AtRet Tryz.prog 7 R) (G (Frame.enter Tryz.prog 7 vs .normal) []) H := by
 have hT := shut_BT tame (AtRet Tryz.prog 7 R)
 refine topK_in 125 tame (Post := fun r K' => r = boolA true ∧ K' = [(0, checksG), (1, saysG), (s, saysO b), (e, seenO b), (jp, pickO l)]) Tryz.func7 hv hn0 hg hH hargs hR fun Y hret => ?_
 refine au [4, 5, 21] ?_
 intro jb hjb
 refine au [2, 3, 4, 4, 5, 8] ?_
 refine TK.cl rfl rfl rfl rfl (fit_ok hT hse) ?_
 rintro r1 K2 ⟨rfl, rfl⟩
 refine au [30, 3, 20] ?_
 refine ⟨fun hc0 => ?_, fun hc0 => ?_⟩
 ·refine au [4, 5] ?_
  refine TK.cl rfl rfl rfl rfl (sought_ok tame) ?_
  rintro r4 K5 ⟨rfl, rfl⟩
  refine au [2, 3] ?_
  refine TK.rt hret [(0, _), (1, _), (s, _), (e, _), (jp, _)] ?_
  exact ⟨rfl, rfl⟩
 have hf := fit_of (b := b) (by simpa using hc0)
 have hck := hf.check
 have hb := bkOk_of hck
 have hst := hb.steps
 have hns := hb.ns
 have hlh := ((numbers_iff b).1 ((check_iff b).1 hck).1).2.2.2.2.2.1
 have hh3 := hb.high
 refine au [12, 4, 5, 8] ?_
 refine TK.cl rfl rfl rfl rfl (likely_ok hT hse hf.names hf.seen) ?_
 rintro r7 K8 h9
 rcases h9 with ⟨hb0, rfl, rfl⟩ | ⟨hb0, hg0, rfl, rfl⟩ | ⟨hb0, hg0, j1, rfl, rfl⟩
 ·refine au [] ?_
  exact absurd hck hb0
 ·refine au [1, 10, 10, 10, 10, 2, 2, 2, 2, 3, 4, 5, 8] ?_
  refine TK.cl rfl rfl rfl rfl (statesApi_ok hT hse hf.names hf.seen) ?_
  rintro r10 K11 ⟨rfl, rfl⟩
  refine au [] ?_
  rw [(states_one hck).1, (states_one hck).2]
  refine au [1, 10, 10, 2, 2, 3, 4, 4, 5, 1, 6, 1] ?_
  refine TK.sp 33 (fun g5_3 => ?_) (fun g5_3 => ?_)
  ·cases g5_3
  refine au [1, 6, 25, 1] ?_
  refine TK.sp 37 (fun g5_7 => ?_) (fun g5_7 => ?_)
  ·cases g5_7
  refine au [1, 6, 1, 1] ?_
  refine TK.sp 41 (fun g5_11 => ?_) (fun g5_11 => ?_)
  ·cases g5_11
  have hz : statesM b = [] := Classical.byContradiction fun h => ((states_likely hb).1 h).1 hg0
  refine au [11, 11, 11, 11, 25, 34, 25, 1] ?_
  refine TK.sp 49 (fun g5_19 => ?_) (fun g5_19 => ?_)
  ·rw [hz] at g5_19
   cases g5_19
  refine au [1, 30, 1] ?_
  refine TK.sp 52 (fun g5_22 => ?_) (fun g5_22 => ?_)
  ·skip
   refine au [1, 28, 6, 1] ?_
   refine TK.sp 56 (fun g5_26 => ?_) (fun g5_26 => ?_)
   ·cases g5_26
   refine au [1, 6, 25, 26, 25, 3, 20] ?_
   refine ⟨fun hc1 => ?_, fun hc1 => ?_⟩
   ·cases hc1
   refine au [12, 4, 4, 5, 1, 30, 3, 20] ?_
   refine ⟨fun hc2 => ?_, fun hc2 => ?_⟩
   ·skip
    refine au [4, 5] ?_
    refine TK.cl rfl rfl rfl rfl (sought_ok tame) ?_
    rintro r13 K14 ⟨rfl, rfl⟩
    refine au [2, 3] ?_
    refine TK.rt hret [(0, _), (1, _), (s, _), (e, _), (jp, _)] ?_
    exact ⟨rfl, rfl⟩
   cases hc2
  cases g5_22
 ·refine au [1, 10, 10, 10, 10, 2, 2, 2, 2, 3, 4, 5, 8] ?_
  refine TK.cl rfl rfl rfl rfl (statesApi_ok hT hse hf.names hf.seen) ?_
  rintro r16 K17 ⟨rfl, rfl⟩
  refine au [] ?_
  rw [(states_one hck).1, (states_one hck).2]
  refine au [1, 10, 10, 2, 2, 3, 4, 4, 5, 1, 6, 1] ?_
  refine TK.sp 33 (fun g5_3 => ?_) (fun g5_3 => ?_)
  ·cases g5_3
  refine au [1, 6, 25, 1] ?_
  refine TK.sp 37 (fun g5_7 => ?_) (fun g5_7 => ?_)
  ·cases g5_7
  refine au [1, 6, 1, 1] ?_
  refine TK.sp 41 (fun g5_11 => ?_) (fun g5_11 => ?_)
  ·skip
   refine au [1, 7, 9, 6, 26, 34, 25, 1] ?_
   refine TK.sp 49 (fun g5_19 => ?_) (fun g5_19 => ?_)
   ·rw [likely_pos hb hg0] at g5_19
    simp at g5_19
   refine au [1, 30, 1] ?_
   refine TK.sp 52 (fun g5_22 => ?_) (fun g5_22 => ?_)
   ·cases g5_22
   skip
   refine au [11, 11, 11, 11, 11, 11, 11, 25, 25, 3, 19, 12, 4, 4, 5, 1, 30, 3, 20] ?_
   refine ⟨fun hc2 => ?_, fun hc2 => ?_⟩
   ·cases hc2
   obtain ⟨l1, l2, l3, l4⟩ := likely_is hb hg0
   obtain ⟨l5, l6, l7⟩ := (setsB_iff hb (high_of hck) _).1 l1
   have l8 : (likelyM b).1.length ≤ 3 := by omega
   have hcanL : canM b (likelyM b).1 = decide ((likelyM b).2 ≤ b.wrong) := by
    rw [Bool.eq_iff_iff, can_iff, decide_eq_true_eq, ← l4]
    exact ⟨fun h => h.2.1, fun h => ⟨l3, h, l2⟩⟩
   refine au [12, 4, 4, 5, 8, 1] ?_
   refine TK.cl rfl rfl rfl rfl (wrongIn_ok hT hf (ints_at (likelyM b).1 3 false) l8 l5 l6) ?_
   rintro r19 K20 ⟨rfl, rfl⟩
   refine au [] ?_
   rw [← l4]
   refine au [1, 6, 1] ?_
   refine TK.sp 70 (fun g9_6 => ?_) (fun g9_6 => ?_)
   ·simp at g9_6
   refine au [1, 6, 25, 3, 20] ?_
   refine ⟨fun hc3 => ?_, fun hc3 => ?_⟩
   ·have := of_decide_eq_true hc3
    omega
   refine au [12, 4, 5, 8, 1] ?_
   refine TK.cl rfl rfl rfl rfl (stateApi_ok hT hse (j := j1) (xs := (likelyM b).1) hf.names hf.seen (ints_at _ 3 false) (by omega)) ?_
   rintro r22 K23 ⟨rfl, rfl⟩
   refine au [] ?_
   rw [state_zero hck l7 l5 l6, hcanL]
   refine au [1, 10, 10, 2, 2, 3, 4, 4, 5, 1, 6, 1] ?_
   refine TK.sp 82 (fun g12_3 => ?_) (fun g12_3 => ?_)
   ·cases g12_3
   refine au [1, 1, 7, 9, 6, 34, 25, 3, 20] ?_
   refine ⟨fun hc4 => ?_, fun hc4 => ?_⟩
   ·simp at hc4
   refine au [12, 4, 5, 8, 1] ?_
   refine TK.cl rfl rfl rfl rfl (realM_ok hT hb hlh) ?_
   rintro r25 K26 ⟨j2, xs, rfl, hro, rfl⟩
   refine au [2, 3, 4] ?_
   refine TK.freezeR 13 rfl (by repeat (first | exact Upd.head | apply Upd.tail)) (by simp only [List.set]; rfl) ?_
   refine TK.nd fun hnd => ?_
   have hj21 : j2 ≠ j1 := fun h => by subst h; simp [keys] at hnd
   have r7 := hro.len
   have r8 : xs.length ≤ 3 := by omega
   have r9 := (setsB_iff hb (high_of hck) xs).2 ⟨hro.asc, hro.rng, r7.2⟩
   refine au [5, 8, 1] ?_
   refine TK.cl rfl rfl rfl rfl (stateApi_ok hT hse (j := j2) (xs := xs) hf.names hf.seen (ints_at _ 3 false) (by omega)) ?_
   rintro r28 K29 ⟨rfl, rfl⟩
   refine au [] ?_
   rw [state_zero hck r7.2 hro.asc hro.rng]
   refine au [1, 10, 10, 2, 2, 3, 4, 4, 5, 1, 6, 3, 20] ?_
   refine ⟨fun hc5 => ?_, fun hc5 => ?_⟩
   ·cases hc5
   refine au [12, 4, 5, 8, 1] ?_
   refine TK.cl rfl rfl rfl rfl (wrongIn_ok hT hf (ints_at xs 3 false) r8 hro.asc hro.rng) ?_
   rintro r31 K32 ⟨rfl, rfl⟩
   refine au [2, 3, 4, 5, 1, 30, 1] ?_
   refine TK.sp 106 (fun g19_3 => ?_) (fun g19_3 => ?_)
   ·refine au [11, 11, 11, 26, 1, 11, 11, 11, 11, 11, 11, 11, 11, 11, 26, 1] ?_
    refine TK.cl rfl rfl rfl rfl (sought_ok tame) ?_
    rintro r34 K35 ⟨rfl, rfl⟩
    refine au [26, 2, 3] ?_
    refine TK.rt hret [(0, _), (1, _), (s, _), (e, _), (jp, _)] ?_
    exact ⟨rfl, rfl⟩
   obtain ⟨c1, c2, c3⟩ := (can_iff b xs).1 (by simpa using g19_3)
   have hmin := (likely_min hb r9 c3 c1).2
   rw [Bool.eq_false_iff, ne_eq, ltGuess_iff] at hmin
   simp only at hmin
   refine au [1, 1, 6, 25, 1] ?_
   refine TK.sp 111 (fun g19_8 => ?_) (fun g19_8 => ?_)
   ·refine au [11, 11, 11, 11, 11, 11, 11, 11, 11, 26, 1] ?_
    refine TK.cl rfl rfl rfl rfl (sought_ok tame) ?_
    rintro r37 K38 ⟨rfl, rfl⟩
    refine au [26, 2, 3] ?_
    refine TK.rt hret [(0, _), (1, _), (s, _), (e, _), (jp, _)] ?_
    exact ⟨rfl, rfl⟩
   refine au [1, 1, 6, 1] ?_
   refine TK.sp 115 (fun g19_12 => ?_) (fun g19_12 => ?_)
   ·have he : (wrongL b xs b.seekers.length : Int) = (likelyM b).2 := by simpa using g19_12
    refine au [1, 1] ?_
    refine TK.cl rfl rfl rfl rfl (earlier_ok hT hj21 (ints_at xs 3 false) (ints_at (likelyM b).1 3 false) (by omega) (by omega)) ?_
    rintro r40 K41 ⟨rfl, rfl⟩
    refine au [30, 26, 25, 1] ?_
    refine TK.sp 122 (fun g19_19 => ?_) (fun g19_19 => ?_)
    ·refine TK.cl rfl rfl rfl rfl (sought_ok tame) ?_
     rintro r43 K44 ⟨rfl, rfl⟩
     refine au [26, 2, 3] ?_
     refine TK.rt hret [(0, _), (1, _), (s, _), (e, _), (jp, _)] ?_
     exact ⟨rfl, rfl⟩
    have h1 : cmpL xs (likelyM b).1 < 0 := by simpa using g19_19
    omega
   have h1 := of_decide_eq_false g19_8
   have h2 : ¬ ((wrongL b xs b.seekers.length : Int) = (likelyM b).2) := by simpa using g19_12
   omega
  cases g5_11
end Go.Vel
end
section
set_option linter.all false
set_option maxRecDepth 20000
set_option maxHeartbeats 60000000
namespace Go.Vel
open Go Go.Conc Go.Proofs Go.ChangeShapes Go.WideShapes Go.ChangeAt Go.RowKit
def u16V (z : Fin 65536) : List Value := [.int .u16 (z.val : Int)]
theorem u16_wf {k : Int} (h : (Lit.int IntKind.u16 k).wf = true) : 0 ≤ k ∧ k < 65536 := by
 simp only [Lit.wf, Bool.and_eq_true, decide_eq_true_eq] at h
 have h1 : IntKind.u16.min = 0 := by decide
 have h2 : IntKind.u16.max = 65535 := by decide
 omega
section
variable {H : Type} {enc : TypeId × Value → H} {W : World} {sp : Nat → Bool} {held : Bool}
theorem dec_u16 (m : Nat) (cs : List Value) (x : DataW H × List MemPlace) (h : DataW.trod enc Tryz.prog W 0 sp held m 155 cs = some x) : ∃ z : Fin 65536, cs = u16V z := by
 obtain ⟨s, e0, _, e2⟩ := DataW.trod_int Tryz.underlying155 h
 obtain ⟨h1, h2⟩ := u16_wf e2
 refine ⟨⟨s.toNat, by omega⟩, ?_⟩
 rw [e0]
 unfold u16V
 rw [show ((s.toNat : Nat) : Int) = s by omega]
end
theorem u16_rel {φ : Nat → Loc3} {n : Nat} (z : Fin 65536) (jj : Nat) (a : AV) (h : ([.v (.int .u16 (z.val : Int))] : List AV)[jj]? = some a) : ∃ y, (u16V z)[jj]? = some y ∧ RelV φ n a y := by
 match jj, h with
 | 0, h => cases h; exact ⟨_, rfl, .v _⟩
 | jj + 1, h => simp at h
theorem pick_flat (l : List (Fin 65536)) : pickO l = .cells (l.flatMap fun z => [.v (.int .u16 (z.val : Int))]) 155 false := by
 unfold pickO
 congr 1
 induction l with
 | nil => rfl
 | cons x xs ih => unfold pickC at ih ⊢; rw [List.map_cons, List.flatMap_cons, ih]; rfl
end Go.Vel
end
section
set_option linter.all false
set_option maxRecDepth 20000
set_option maxHeartbeats 60000000
namespace Go.Vel
open Go Go.Conc Go.Proofs Go.ChangeShapes Go.WideShapes Go.ChangeAt Go.RowKit
open Go.Proofs.YtpdioiojfgknbaaGreatDoor (Tryz.pinned)
def seekerLikelyPhi (x0a x0b x1 : Value) : Nat → Loc3
 | 0 => ⟨0, 0, 0⟩
 | 1 => ⟨1, 0, 0⟩
 | 2 => locV x0a
 | 3 => locV x0b
 | 4 => locV x1
 | _ => ⟨0, 0, 0⟩
theorem seekerLikely_run {W : World} (hl : laidMetH Tryz.prog tblLaid W) {b0 : Bk} {x0a x0b : Value} {l1 : List (Fin 65536)} {x1 : Value} (h0a : SlIn W saysV 5 b0.seekers x0a) (h0b : SlIn W seenV 2 b0.seen x0b) (h1 : SlIn W u16V 1 l1 x1) :
  ∃ M last o w' t', runNT Tryz.prog (M + 1) (solo (G (Frame.enter Tryz.prog 7 #[.agg #[.int .i64 b0.steps, .int .i64 b0.wrong, .int .i64 b0.low, .int .i64 b0.high, x0a, x0b], x1] .normal) []) W) #[] = (.ended o w', t') ∧
   runN Tryz.prog M (solo (G (Frame.enter Tryz.prog 7 #[.agg #[.int .i64 b0.steps, .int .i64 b0.wrong, .int .i64 b0.low, .int .i64 b0.high, x0a, x0b], x1] .normal) []) W) = .next last ∧
   step Tryz.prog last = .ended o w' ∧ Conc.Good Tryz.prog (fun v w => v = .bool true ∧ w.os = W.os ∧ w.output = W.output ∧ KeptAll W w) last o w' t' := by
 refine good_run (R := fun v w => v = .bool true ∧ KeptAll W w) (R' := fun v w => v = .bool true ∧ w.os = W.os ∧ w.output = W.output ∧ KeptAll W w) Tryz.func7 rfl (by kernel_rfl) (fun v w' ho hu hr => ⟨hr.1, ho, hu, hr.2⟩) (fun v w τ d h => h) (holdAll_fits W) ?_
 obtain ⟨ht0, ht1⟩ := of_laid hl
 refine lawLikely_top (b := b0) (s := 2) (e := 3) (jp := 4) (l := l1) (by decide) (A := [checksG, saysG, saysO b0, seenO b0, pickO l1]) (φ := seekerLikelyPhi x0a x0b x1) (F := holdAll W) ?_ ?_ ?_ ?_ ?_ ?_
 ·intro x hx
  simp only [List.mem_cons, List.not_mem_nil, or_false] at hx
  rcases hx with rfl | rfl | rfl | rfl | rfl <;> rfl
 ·simp [keys]
 ·intro g i hg
  match g, hg with
  | 0, hg => cases hg; exact ⟨by simp, rfl, rfl⟩
  | 1, hg => cases hg; exact ⟨by simp, rfl, rfl⟩
  | g + 2, hg => cases hg
 ·refine ⟨fun i o ho => ?_, fun i j o o' hi _ _ hx => ?_, fun b x h => h, fun i o hi hx => ?_⟩
  ·match i, ho with
   | 0, ho => cases ho; exact tbl_rel ht0
   | 1, ho => cases ho; exact tbl_rel ht1
   | 2, ho => cases ho; exact relO_in h0a (fun _ => rfl) says_rel
   | 3, ho => cases ho; exact relO_in h0b (fun _ => rfl) seen_rel
   | 4, ho => cases ho; exact (by rw [pick_flat]; exact relO_in h1 (fun _ => rfl) u16_rel)
   | i + 5, ho => simp at ho
  ·match i, hi with
   | 0, hi => cases hi; cases hx
   | 1, hi => cases hi; cases hx
   | 2, hi => cases hi; cases hx
   | 3, hi => cases hi; cases hx
   | 4, hi => cases hi; cases hx
   | i + 5, hi => simp at hi
  ·match i, hi with
   | 0, hi => cases hi; cases hx
   | 1, hi => cases hi; cases hx
   | 2, hi => cases hi; cases hx
   | 3, hi => cases hi; cases hx
   | 4, hi => cases hi; cases hx
   | i + 5, hi => simp at hi
 ·refine ⟨rfl, fun j a y ha hy => ?_⟩
  match j, ha, hy with
  | 0, ha, hy =>
   cases ha; cases hy
   refine .agg rfl fun t u z hu hz => ?_
   match t, hu, hz with
   | 0, hu, hz => cases hu; cases hz; exact .v _
   | 1, hu, hz => cases hu; cases hz; exact .v _
   | 2, hu, hz => cases hu; cases hz; exact .v _
   | 3, hu, hz => cases hu; cases hz; exact .v _
   | 4, hu, hz => cases hu; cases hz; exact relV_in h0a (by simp) rfl
   | 5, hu, hz => cases hu; cases hz; exact relV_in h0b (by simp) rfl
   | t + 6, hu, hz => simp [bookC] at hu
  | 1, ha, hy =>
   cases ha; cases hy; exact relV_in h1 (by simp) rfl
  | j + 2, ha, hy => simp at ha
 ·rintro r K' φ' A' H' v w ⟨rfl, _⟩ hH' hv' hfit
  refine ⟨inv_v hv', fun i hi => ?_⟩
  have hh := Array.getElem?_eq_getElem hi
  rw [hh]
  exact hfit i false _ (hH'.fr _ _ (holdAll_get hh))
set_option maxRecDepth 100000 in
theorem seekerLikely_lifted (os : Os) (started : os.Started) (H : Type) (enc : TypeId × Value → H) :
  ReturnsInLeavingWide Go.Proofs.YtpdioiojfgknbaaGreatDoor.Rows.seekerLikelyRow.assume Tryz.checked os 7 .any (Go.Proofs.YtpdioiojfgknbaaGreatDoor.Rows.seekerLikelyRow.pre enc Tryz.prog Tryz.f7 (OpenSpec.ofChange Go.Proofs.YtpdioiojfgknbaaGreatDoor.Rows.seekerLikelySpec))
   (Go.Proofs.YtpdioiojfgknbaaGreatDoor.Rows.seekerLikelySpec.post enc Tryz.prog Tryz.f7 false true false false) := by
 refine returnsInLeavingWide_of_good (C := Tryz.checked) own started
  (ChangeSpec.witness_shaped (enc := enc) (C := Tryz.checked) (os := os) (X := fun w _ => laidMetH Tryz.prog tblLaid w) false (World.doorLaid Tryz.prog 400 os) #[.agg #[.int .i64 0, .int .i64 0, .int .i64 0, .int .i64 0, .slice none 0 0, .slice none 0 0], .slice none 0 0] 8 rfl (World.shaped_of_RefB (by kernel_rfl) (by kernel_rfl)) (by kernel_rfl) (by kernel_rfl) (by kernel_rfl) (door_met os _)) ?_
 intro w tape i _ _ _ hok hpre _
 obtain ⟨_, _, _, fn', hfn', _, _, _, _, hval0⟩ := hok
 obtain rfl : fn' = Tryz.f7 := Option.some.inj (hfn'.symm.trans Tryz.func7)
 obtain ⟨⟨⟨ds, gs, before, hw, hc⟩, hL0⟩, _⟩ := hpre
 have hW := DataW.Whole.of_heap (w' := w.forCall tape i) (by rfl) hw
 have hL : laidMetH Tryz.prog tblLaid (w.forCall tape i) := laidMetH.of_heap (by rfl) hL0
 obtain ⟨bl, args, vars⟩ := i
 generalize w.forCall tape ⟨bl, args, vars⟩ = W at hW hL hval0 ⊢
 have hW' := hW
 obtain ⟨p, q, hA0, hV0, rfl, _, _⟩ := hW
 have hA : DataW.TrodAll enc Tryz.prog W 0 (fun _ => true) true [27, 65] args.toList ds p := hA0
 obtain ⟨v0, u0, d0, ds0, p0, q0, hargs, rfl, rfl, t0, hr0⟩ := trodAll_cons hA
 obtain ⟨v1, u1, d1, ds1, p1, q1, rfl, rfl, rfl, t1, hr1⟩ := trodAll_cons hr0
 obtain ⟨rfl, rfl, rfl⟩ := trodAll_nil hr1
 obtain rfl : args = #[v0, v1] := by cases args; simp_all
 obtain ⟨rfl, rfl⟩ := trodVars_none hV0
 obtain ⟨b0, x0a, x0b, rfl, s0a, s0b⟩ := open_book (okAgg Tryz.underlying27 (hval0 0 27 v0 rfl rfl)) t0
 obtain ⟨a1, len1, cap1, rfl⟩ := okWide_slice Tryz.underlying65 (hval0 1 65 v1 rfl rfl)
 have t1' := t1
 obtain ⟨n1, hh1⟩ := t1'
 obtain ⟨l1, bb1, cap1', e1, ll1, rr1⟩ := open_list (vals := u16V) (c := 1) Tryz.underlying65 (by kernel_rfl) (by decide) dec_u16 hh1
 have s1 : SlIn W u16V 1 l1 (.slice a1 len1 cap1) := ⟨bb1, cap1', by simpa [Value.cells] using e1, ll1, rr1⟩
 obtain ⟨M, last, o, w', t', g1, g2, g3, g4⟩ := seekerLikely_run hL s0a s0b s1
 refine ⟨M, last, o, w', t', g1, g2, g3, g4.mono fun v hF => ?_⟩
 obtain ⟨rfl, ho, hu, hkp⟩ := hF
 refine ChangeSpec.post_blind ?_
 exact ⟨_, _, _, [], _, [], hW', trodAll_mk1 (shut_bool Tryz.underlying4 true), ⟨_, _, trod_mono laid_out t0 hkp, ⟨_, _, trod_mono laid_out t1 hkp, trodAll_mk0, rfl⟩, rfl⟩, rfl, kept_but ho hu hkp _, fun h => by cases h⟩
open Go.Proofs.YtpdioiojfgknbaaGreatDoor in
theorem seekerLikely_said : Rows.SeekerLikelySaid :=
 OpenClaim.holds_of_wide_leaving 7 Tryz.f7 rfl rfl rfl rfl rfl rfl rfl ⟨rfl, rfl, rfl, rfl, rfl⟩ rfl rfl rfl rfl rfl (by kernel_rfl) Tryz.func7 (by kernel_rfl)
  (of_decide_eq_true (by kernel_rfl)) (by unfold Func.isWrapper; first | (rw [if_pos (by decide +kernel)]; kernel_rfl) | (rw [if_neg (by decide +kernel)]; exact ⟨rfl, rfl⟩))
  (fun os started H enc _ => seekerLikely_lifted os started H enc)
end Go.Vel
namespace Go.Proofs.YtpdioiojfgknbaaGreatDoor
open Go
theorem seekerLikely_holds : Rows.SeekerLikelyCardSaid :=
 Go.Vel.holds_tied_goes .later [.funcs, .funcs] true (true, "37dd52168c01ab0eac968363d817f0761de49dbe13f8b8dbc59b7d9be7780b69") false
  Go.Vel.seekerLikely_said (by kernel_rfl) seekerLikely_row_tie rfl ⟨rfl, rfl⟩ (by kernel_rfl) rfl
  (fun f fn hf hfn => by
   obtain rfl : f = 7 := Option.some.inj ((show Tryz.prog.funcNamed "velarium/velariumlaw09.SeekerLikely" = some 7 by kernel_rfl).symm.trans hf) |>.symm
   obtain rfl : fn = Tryz.f7 := (Option.some.inj (Tryz.func7.symm.trans hfn)).symm
   exact ⟨by kernel_rfl, fun j t ht => by
    rw [Tryz.params7] at ht
    have hm : t ∈ [27, 65] := by simpa using Array.mem_of_getElem? ht
    have hall : ([27, 65].all fun u => !Tryz.prog.wantsStandIn u) = true := by kernel_rfl
    exact (show Tryz.prog.wantsStandIn t = false by simpa using List.all_eq_true.1 hall t hm)⟩)
  (by kernel_rfl)
#print axioms seekerLikely_holds
end Go.Proofs.YtpdioiojfgknbaaGreatDoor
end
