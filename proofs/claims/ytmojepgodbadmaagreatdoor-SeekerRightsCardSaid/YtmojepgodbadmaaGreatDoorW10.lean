/- SeekerRights: the law answers true. Part 11 of 11. It holds of every program, tape and world that the statements name, as each theorem says. -/
import Derived.Test.YtmojepgodbadmaaGreatDoorW4
import Derived.Test.YtmojepgodbadmaaGreatDoorW5
import Derived.Test.YtmojepgodbadmaaGreatDoorW7
import Derived.Test.YtmojepgodbadmaaGreatDoorW9
section
set_option linter.all false
namespace Go.Vel
open Go Go.Conc Go.Proofs

section
variable {P : Program} {gm : Nat → Option Nat} {T : Goroutine → Hp → Prop} {Y : KX P gm T} {ds : List Nat} {k : List Item} {env env' : List AV} {K K' : KV}
theorem TK.nilAgg (d p : Nat) (e : TypeId) {l : List AV} {x : Option Addr} {c : Nat} (hx : env[d]? = some (.agg l)) (hp : l[p]? = some (.v (.slice x 0 c))) (h : ∀ j, j ∉ keys K → TK Y ds k (env.set d (.agg (l.set p (.sl j 0 0)))) ((j, .cells [] e false) :: K)) : TK Y ds k env K := fun A hA φ H ts h1 h2 h3 h4 h5 h6 => by
  have hk : A.length ∉ keys K := fun hm => absurd (hA.view.lt hm) (Nat.lt_irrefl _)
  have hH := h5.virtO (o := .cells [] e false) (fun φ n hl => absurd rfl hl) (fun hl => hl rfl)
  have hag := agr_upd3 φ A.length ⟨0, 0, 0⟩
  have hlen : (A ++ [AObj.cells [] e false]).length = A.length + 1 := by simp
  have hds : dsC (upd3 φ A.length ⟨0, 0, 0⟩) ds = dsC φ ds := by
    unfold dsC
    exact List.map_congr_left fun d hd' => by rw [hag d (h4 d hd')]
  rw [← hds]
  refine h _ hk _ (hA.step (.push hA.view hA.nd _)) _ H ts (h1.trans hag h2) (by omega) (h3.mono hag (by omega)) (fun d hd => by have := h4 d hd; omega) hH ?_
  have hE := h6.mono (n' := (A ++ [AObj.cells [] e false]).length) hag (by omega)
  exact hE.set' hx fun y hy => by
    obtain ⟨ys, rfl, q1, q2⟩ := inv_agg hy
    refine .agg (by simpa using q1) fun t u z hu hz => ?_
    rw [List.getElem?_set] at hu
    split at hu
    · rename_i ht
      subst ht
      split at hu
      · cases hu
        have := q2 p _ z hp hz
        rw [inv_v this]
        exact .sl (by omega) (Nat.zero_le _) fun hp => absurd hp (Nat.lt_irrefl _)
      · cases hu
    · exact q2 t u z hu hz
end
def greatM (b : Bk) : Bool := decide (b.seekers.length > 20) || decide (b.seen.length > 20) || b.seekers.any fun x => decide (x.name.size > 100)
theorem any_all {α : Type} {xs : List α} {p : α → Bool} (h : (xs.take xs.length).any p = false) : xs.any p = false := by rwa [List.take_length] at h
theorem any_all_of {α : Type} {xs : List α} {p : α → Bool} {i : Nat} {x : α} (h : xs[i]? = some x) (he : p x = true) : xs.any p = true := List.any_eq_true.2 ⟨x, List.mem_of_getElem? h, he⟩
theorem great_small {b : Bk} (h : greatM b = false) : b.seekers.length ≤ 20 ∧ b.seen.length ≤ 20 ∧ ∀ x ∈ b.seekers, x.name.size ≤ 100 := by
  unfold greatM at h
  simp only [Bool.or_eq_false_iff, decide_eq_false_iff_not] at h
  refine ⟨by omega, by omega, fun x hx => ?_⟩
  have := List.any_eq_false.1 h.2 x hx
  simp at this
  omega
def exB : Bk := ⟨8, 1, 1, 1, [⟨⟨#[97, 110, 110]⟩, 1, 3, 0, false⟩, ⟨⟨#[98, 111]⟩, 2, 5, 1, false⟩, ⟨⟨#[99, 121]⟩, 3, 6, 0, false⟩], []⟩
def exB2 : Bk := { exB with low := 2, high := 2 }
def exX : Says := ⟨⟨#[100, 105]⟩, 5, 1, 0, true⟩
theorem ex_check : checkM exB = 0 := by kernel_rfl
theorem ex_all : allM exB = [[0],[1],[2],[3],[4],[5],[6],[7]] := by kernel_rfl
theorem ex_states : statesM exB = [[1],[3],[6]] := by kernel_rfl
theorem ex_ask : askM exB true = 0 := by kernel_rfl
theorem ex_r0 : rightApi exB [3] 0 = (true, 0) := by kernel_rfl
theorem ex_r1 : rightApi exB [3] 1 = (false, 0) := by kernel_rfl
theorem ex_s3 : stateApi exB [3] = (true, 0) := by kernel_rfl
theorem ex_s4 : stateApi exB [4] = (false, 0) := by kernel_rfl
theorem ex_st : statesApi exB = (3, 0) := by kernel_rfl
theorem ex_at1 : atApi exB 1 = (0, 0) := by kernel_rfl
theorem ex_at0 : atApi exB 0 = (2, 0) := by kernel_rfl
theorem ex_p1 : pickL exB 1 exB.steps.toNat = [] := by kernel_rfl
theorem ex_p0 : pickL exB 0 exB.steps.toNat = [1, 3, 6] := by kernel_rfl
theorem ex_w : withinApi exB 6 1 = ((0, 1), 0) := by kernel_rfl
theorem ex_n : narrowApi exB = ((1, 6), true, 0) := by kernel_rfl
theorem ex_wr : wrongApi exB 0 = (0, 0) := by kernel_rfl
theorem ex_g0 : guessM exB (allM exB) ≠ [] := by decide +kernel
theorem ex_li : likelyM exB = ([1], 1) := by kernel_rfl
theorem ex_t : togM exB (everyM exB) = false := by kernel_rfl
theorem ex_cl : clashM exB = [0, 1, 2] := by kernel_rfl
theorem ex_askA : askApi exB = (1, 2, 0) := by kernel_rfl
theorem ex_lend : lendApi exB = (0, 2, 0) := by kernel_rfl
theorem ex_giv : giveM exB 0 = 0 := by kernel_rfl
theorem ex_g2 : statesApi (giveB exB 0) = (2, 0) := by kernel_rfl
theorem ex_g3 : narrowApi (giveB exB 0) = ((1, 3), true, 0) := by kernel_rfl
theorem ex_lk : newsM exB (lookB exB ⟨3, true⟩) = 0 := by kernel_rfl
theorem ex_lk2 : statesApi (lookB exB ⟨3, true⟩) = (1, 0) := by kernel_rfl
theorem ex_hr : newsM exB (hearB exB exX) = 0 := by kernel_rfl
theorem ex_hr2 : statesApi (hearB exB exX) = (2, 0) := by kernel_rfl
theorem ex2_st : statesApi exB2 = (17, 0) := by kernel_rfl
theorem ex2_ck : checkM exB2 = 0 := by kernel_rfl
theorem ex2_g : guessM exB2 (allM exB2) ≠ [] := by decide +kernel
theorem ex2_li : likelyM exB2 = ([1, 6], 0) := by kernel_rfl
theorem ex2_t : togM exB2 (everyM exB2) = true := by kernel_rfl
theorem ex_cnt : (statesM exB).map (fun S => (S.length : Int)) = [1, 1, 1] := by rw [ex_states]; rfl
theorem ex_counts : countsM exB = [1] := by
  unfold countsM sortI
  rw [ex_cnt, List.mergeSort_of_pairwise (by decide)]
  decide +kernel


set_option maxRecDepth 20000 in
set_option maxHeartbeats 1000000 in
theorem great_ok {main : Bool} {T : Goroutine → Hp → Prop} (hT : Shut Tryz.prog main T) {gm : Nat → Option Nat} {b : Bk} {s e : Nat} :
    CallK Tryz.prog T gm 7 [.agg (bookC b s e)] [(s, saysO b)] (fun r K' => r = boolA (greatM b) ∧ K' = [(s, saysO b)]) := by
  refine callK_in 29 hT Tryz.func7 fun Y hret => ?_
  refine au [4, 5, 21] ?_
  intro jb hjb
  refine au [2, 3, 4, 4, 5, 7, 9, 28, 6, 1] ?_
  refine TK.sp 8 (fun g1_5 => ?_) (fun g1_5 => ?_)
  · refine au [11, 11, 11, 11, 26, 3, 18, 4, 5, 2, 3] ?_
    refine TK.rt hret [(s, _)] ?_
    exact ⟨by unfold greatM; rw [show decide (b.seekers.length > 20) = true by have := of_decide_eq_true g1_5; simp; omega]; rfl, rfl⟩
  have hlen20 : b.seekers.length ≤ 20 := by have := of_decide_eq_false g1_5; omega
  refine au [7, 9, 28, 6, 25, 3, 20] ?_
  refine ⟨fun hc0 => ?_, fun hc0 => ?_⟩
  · refine au [4, 5, 2, 3] ?_
    refine TK.rt hret [(s, _)] ?_
    exact ⟨by unfold greatM; rw [show decide (b.seen.length > 20) = true by have := of_decide_eq_true hc0; simp; omega, Bool.or_true]; rfl, rfl⟩
  refine au [12, 4, 4, 5, 2, 3, 13] ?_
  refine TK.maskL [1, 3] ?_
  refine TK.loopN (fun n env K => ∃ (i : Nat), n = b.seekers.length - i ∧ i ≤ b.seekers.length ∧ ((b.seekers.take i).any fun x => decide (x.name.size > 100)) = false ∧ env = slotsA 29 [(1, .ptr jb 0), (3, intA i)] ∧ K = [(jb, .cells (bookC b s e) 27 true), (s, saysO b)]) b.seekers.length ⟨0, rfl, Nat.zero_le _, rfl, rfl, rfl⟩ fun n env K hI' hnext => ?_
  obtain ⟨i, rfl, hi, hany, rfl, rfl⟩ := hI'
  refine au [4, 4, 5, 1, 7, 9, 28, 6, 3, 20] ?_
  refine ⟨fun hc => ?_, fun hc => ?_⟩
  · simp only [decide_eq_true_eq] at hc
    have hil : i < b.seekers.length := by omega
    obtain ⟨x, hx⟩ : ∃ x, b.seekers[i]? = some x := ⟨_, List.getElem?_eq_getElem hil⟩
    refine au [12, 4, 13, 4, 5, 7, 9, 1, 36, 7] ?_
    refine TK.a rfl (q_load1 rfl rfl TySz.h (by repeat (first | exact List.Mem.head _ | assumption | apply List.Mem.tail)) (take_fld (says_at' b hx) (by decide) rfl)) ?_
    refine au [29, 6, 3, 20] ?_
    refine ⟨fun hc2 => ?_, fun hc2 => ?_⟩
    · refine au [4, 5, 2, 3] ?_
      refine TK.rt hret [(s, _)] ?_
      exact ⟨by unfold greatM; rw [any_all_of (p := fun x : Says => decide (x.name.size > 100)) hx (by have := of_decide_eq_true hc2; simp; omega), Bool.or_true]; rfl, rfl⟩
    refine au [12, 14, 5, 1, 23, 2, 3] ?_
    refine TK.maskL [1, 3] ?_
    refine TK.kp [(jb, _), (s, _)] ?_
    exact hnext _ _ _ (by omega) ⟨i + 1, rfl, by omega, any_take_next hx hany (by have := of_decide_eq_false hc2; simp; omega), rfl, rfl⟩
  simp only [decide_eq_false_iff_not] at hc
  obtain rfl : i = b.seekers.length := by omega
  refine au [16, 4, 5, 2, 3] ?_
  refine TK.rt hret [(s, _)] ?_
  exact ⟨by unfold greatM; rw [any_all hany, show decide (b.seekers.length > 20) = false by have := of_decide_eq_false g1_5; simp; omega, show decide (b.seen.length > 20) = false by have := of_decide_eq_false hc0; simp; omega]; rfl, rfl⟩

set_option maxRecDepth 20000 in
set_option maxHeartbeats 1000000 in
theorem to_ok {main : Bool} {T : Goroutine → Hp → Prop} (hT : Shut Tryz.prog main T) {gm : Nat → Option Nat} {a z : Int} :
    CallK Tryz.prog T gm 47 [intA a, intA z] [] (fun r K' => r = .agg [intA a, intA z] ∧ K' = []) := by
  refine callK_in 8 hT Tryz.func47 fun Y hret => ?_
  refine au [4, 5, 22] ?_
  intro j1 hj1
  refine au [3, 4, 5, 1, 1, 39, 17, 3] ?_
  refine TK.rt hret [] ?_
  exact ⟨rfl, rfl⟩

set_option maxRecDepth 20000 in
set_option maxHeartbeats 1000000 in
theorem one_ok2 {main : Bool} {T : Goroutine → Hp → Prop} (hT : Shut Tryz.prog main T) {gm : Nat → Option Nat} {n : Int} :
    CallK Tryz.prog T gm 48 [intA n] [] (fun r K' => r = .agg [intA n, intA n] ∧ K' = []) := by
  refine callK_in 6 hT Tryz.func48 fun Y hret => ?_
  refine au [4, 5, 22] ?_
  intro j1 hj1
  refine au [3, 4, 5, 1, 1] ?_
  refine TK.cl rfl rfl rfl rfl (to_ok hT) ?_
  rintro r2 K3 ⟨rfl, rfl⟩
  refine au [17, 3] ?_
  refine TK.rt hret [] ?_
  exact ⟨rfl, rfl⟩

set_option maxRecDepth 20000 in
set_option maxHeartbeats 1000000 in
theorem lists_ok {main : Bool} {T : Goroutine → Hp → Prop} (hT : Shut Tryz.prog main T) {gm : Nat → Option Nat} {j off j2 off2 : Nat} {ob ob2 : AObj} {xs ys : List Int} (hjj : j ≠ j2) (hI : IntsAt ob off xs) (hI2 : IntsAt ob2 off2 ys) (hlx : xs.length ≤ 100000) :
    CallK Tryz.prog T gm 46 [.sl j off xs.length, .sl j2 off2 ys.length] [(j, ob), (j2, ob2)] (fun r K' => r = boolA (decide (xs = ys)) ∧ K' = [(j, ob), (j2, ob2)]) := by
  refine callK_in 8 hT Tryz.func46 fun Y hret => ?_
  refine au [4, 5, 2, 3, 4, 5, 1, 1] ?_
  refine TK.cl rfl rfl rfl rfl (sameInts_ok hT hjj hI hI2 hlx) ?_
  rintro r1 K2 ⟨rfl, rfl⟩
  refine au [2, 3] ?_
  refine TK.rt hret [(j, _), (j2, _)] ?_
  exact ⟨rfl, rfl⟩

set_option maxRecDepth 20000 in
set_option maxHeartbeats 1000000 in
theorem example_ok {main : Bool} {T : Goroutine → Hp → Prop} (hT : Shut Tryz.prog main T) {gm : Nat → Option Nat}  :
    CallK Tryz.prog T gm 45 [] [] (fun r K' => ∃ s e, s ≠ e ∧ r = .agg (bookC exB s e) ∧ K' = [(s, saysO exB), (e, seenO exB)]) := by
  refine callK_in 7 hT Tryz.func45 fun Y hret => ?_
  refine au [4, 5, 22] ?_
  intro j1 hj1
  refine au [3, 4, 5] ?_
  refine TK.cl rfl rfl rfl rfl (one_ok2 hT) ?_
  rintro r2 K3 ⟨rfl, rfl⟩
  refine au [42, 42, 42] ?_
  refine TK.newR rfl rfl rfl (n_buildSlice (l := [_, _, _, _, _, _, _, _, _, _, _, _, _, _, _]) rfl SlEl.h TyZ.h (by decide) (by decide) rfl) (fun _ => putS rfl (by simp only [List.set]; rfl)) fun jS hjS => ?_
  refine TK.freezeR 5 rfl (by repeat (first | exact Upd.head | apply Upd.tail)) rfl ?_
  refine au [43] ?_
  refine TK.nilAgg 6 5 90 rfl rfl fun jE hjE => ?_
  refine au [17, 3] ?_
  refine TK.rt hret [(jS, _), (jE, _)] ?_
  exact ⟨jS, jE, fun h => hjE (by subst h; simp [keys]), rfl, rfl⟩
end Go.Vel
end
section
set_option linter.all false
namespace Go.Vel
open Go Go.Conc Go.Proofs

theorem pendS {ops : Array Oper} {i : Nat} {pend pend' : List Pd} {es : List Nat} (h : edgesOf .any ops i = es) (h2 : (pend.filter fun p => !(es.elem p.i)) = pend') : pendOf ops i pend = pend' := by unfold pendOf; rw [h]; exact h2
section
variable {P : Program} {gm : Nat → Option Nat} {T : Goroutine → Hp → Prop}
/-- A call that is handed a row it only reads. -/
theorem callK_frz {g : FuncId} {a1 : AV} {j j2 n : Nat} {ob : AObj} {l : List AV} {e : TypeId} {s : Nat} {Post : AV → KV → Prop} (h : CallK P T gm g [a1, .sl j2 0 n] [(j, ob), (j2, .cells l e false)] Post) : CallK P T gm g [a1, .row j2 n] [(j, ob), (j2, .row l e s)] Post := by
  intro A hv hn φ F H vs c cs h1 h2 h3 q
  have hj : A[j2]? = some (.row l e s) := hv.get (by simp)
  have hb : (φ j2).base = 0 := (h2.obj j2 _ hj).2.1
  have hst : Kstep [(j, ob), (j2, AObj.row l e s)] A [(j, ob), (j2, .cells l e false)] (A.set j2 (.cells l e false)) := .set hv hn (.tail .head)
  refine h (A.set j2 (.cells l e false)) hst.view hst.nd φ F H vs c cs (by simpa using h1) (h2.turn hj (fun ho hl => ?_) (fun h => by cases h) (fun _ => rfl) (fun hs => ?_)) ⟨by simpa using h3.1, fun t a y ha hy => ?_⟩ fun r A' φ' H' v ⟨K', hk, hp⟩ hA hlen hH' hv' => q r A' φ' H' v ⟨K', hst.trans hk, hp⟩ (by simpa using hA) (by simpa using hlen) hH' hv'
  · have hc : 0 < (φ j2).cap := by
      rcases Nat.eq_zero_or_pos (φ j2).cap with e | e
      · exact absurd (ho.1 e) hl
      · exact e
    obtain ⟨cur, q1, q2, q3, q4, q5⟩ := ho.2.2 hc
    exact ⟨true, cur, (_, 0, 0), q1, (fun h => by cases h), fun t u hu => by rw [hb, Nat.zero_add]; exact q5 t u hu⟩
  · show 0 < (φ j2).cap
    rcases Nat.eq_zero_or_pos (φ j2).cap with e | e
    · exact absurd ((h2.obj j2 _ hj).1 e) hs
    · exact e
  · match t, ha with
    | 0, ha =>
      cases ha
      simpa using h3.2 0 a1 y rfl hy
    | 1, ha =>
      cases ha
      have := unrow_rel (j := j2) hb (h3.2 1 _ y rfl hy)
      simpa [unrow] using this
    | t + 2, ha => simp at ha
end
theorem same_ok {main : Bool} {T : Goroutine → Hp → Prop} (hT : Shut Tryz.prog main T) {gm : Nat → Option Nat} {j off j2 off2 : Nat} {ob ob2 : AObj} (xs : List Int) (hjj : j ≠ j2) (hI : IntsAt ob off xs) (hI2 : IntsAt ob2 off2 xs) (hlx : xs.length ≤ 100000) :
    CallK Tryz.prog T gm 46 [.sl j off xs.length, .sl j2 off2 xs.length] [(j, ob), (j2, ob2)] (fun r K' => r = boolA true ∧ K' = [(j, ob), (j2, ob2)]) :=
  (lists_ok hT hjj hI hI2 hlx).mono fun r K' ⟨h1, h2⟩ => ⟨by rw [h1, decide_eq_true rfl], h2⟩
theorem small_of {b : Bk} (h : (b.seekers.all fun x => decide (x.name.size ≤ 1000)) = true) : ∀ x ∈ b.seekers, x.name.size ≤ 1000 := fun x hx => of_decide_eq_true (List.all_eq_true.1 h x hx)
theorem ex_n1 : ∀ x ∈ exB.seekers, x.name.size ≤ 1000 := small_of (by kernel_rfl)
theorem ex_n2 : ∀ x ∈ exB2.seekers, x.name.size ≤ 1000 := small_of (by kernel_rfl)
theorem ex_n3 : ∀ x ∈ (giveB exB 0).seekers, x.name.size ≤ 1000 := small_of (by kernel_rfl)
theorem ex_n4 : ∀ x ∈ (lookB exB ⟨3, true⟩).seekers, x.name.size ≤ 1000 := small_of (by kernel_rfl)
theorem ex_n5 : ∀ x ∈ (hearB exB exX).seekers, x.name.size ≤ 1000 := small_of (by kernel_rfl)
theorem ex_l1 : exB.seen.length ≤ 1000 := by decide
theorem ex_l2 : exB2.seen.length ≤ 1000 := by decide
theorem ex_l3 : (giveB exB 0).seen.length ≤ 1000 := by decide
theorem ex_l4 : (lookB exB ⟨3, true⟩).seen.length ≤ 1000 := by decide
theorem ex_l5 : (hearB exB exX).seen.length ≤ 1000 := by decide


set_option maxRecDepth 20000 in
set_option maxHeartbeats 20000000 in
theorem sought_ok (tame : Tame Tryz.prog) {Ψ : Goroutine → World → Prop} : CallK Tryz.prog (BT Tryz.prog Ψ) gmS 8 [] [(0, checksG), (1, saysG)] (fun r K' => r = boolA true ∧ K' = [(0, checksG), (1, saysG)]) := by
  have hT := shut_BT tame Ψ
  refine callK_in 427 hT Tryz.func8 fun Y hret => ?_
  refine au [4, 5, 2, 3, 4, 5] ?_
  refine TK.cl rfl rfl rfl rfl (example_ok hT) ?_
  rintro r1 K2 ⟨s, e, hse, rfl, rfl⟩
  refine au [22] ?_
  intro j1 hj1
  refine au [17, 3, 4] ?_
  refine TK.kp [(j1, _), (0, _), (1, _), (s, _), (e, _)] ?_
  refine au [5, 8] ?_
  refine TK.newR rfl rfl rfl (n_buildSlice (l := [_]) rfl SlEl.h TyZ.h (by decide) (by decide) rfl) (fun _ => putS rfl (by simp only [List.set]; rfl)) fun ja2 hja2 => ?_
  refine TK.freezeR 40 rfl (by repeat (first | exact Upd.head | apply Upd.tail)) rfl ?_
  refine au [] ?_
  refine TK.cl rfl rfl rfl rfl (rightApi_ok hT (b := exB) (s := s) (e := e) (k := 0) (xs := [3]) ex_n1 ex_l1 (ints_at [3] 3 false) (by decide)) ?_
  rintro r4 K5 ⟨rfl, rfl⟩
  refine au [] ?_
  rw [ex_r0]
  refine au [1, 10, 10, 2, 2, 3, 4] ?_
  refine TK.kp [(j1, _), (0, _), (1, _), (s, _), (e, _)] ?_
  refine au [5, 8] ?_
  refine TK.newR rfl rfl rfl (n_buildSlice (l := [_]) rfl SlEl.h TyZ.h (by decide) (by decide) rfl) (fun _ => putS rfl (by simp only [List.set]; rfl)) fun ja3 hja3 => ?_
  refine TK.freezeR 46 rfl (by repeat (first | exact Upd.head | apply Upd.tail)) rfl ?_
  refine au [] ?_
  refine TK.cl rfl rfl rfl rfl (rightApi_ok hT (b := exB) (s := s) (e := e) (k := 1) (xs := [3]) ex_n1 ex_l1 (ints_at [3] 3 false) (by decide)) ?_
  rintro r7 K8 ⟨rfl, rfl⟩
  refine au [] ?_
  rw [ex_r1]
  refine au [1, 10, 10, 2, 2, 3, 4] ?_
  refine TK.kp [(j1, _), (0, _), (1, _), (s, _), (e, _)] ?_
  refine au [5, 8] ?_
  refine TK.newR rfl rfl rfl (n_buildSlice (l := [_]) rfl SlEl.h TyZ.h (by decide) (by decide) rfl) (fun _ => putS rfl (by simp only [List.set]; rfl)) fun ja4 hja4 => ?_
  refine TK.freezeR 52 rfl (by repeat (first | exact Upd.head | apply Upd.tail)) rfl ?_
  refine au [] ?_
  refine TK.cl rfl rfl rfl rfl (stateApi_ok hT (b := exB) (s := s) (e := e) hse (xs := [3]) ex_n1 ex_l1 (ints_at [3] 3 false) (by decide)) ?_
  rintro r10 K11 ⟨rfl, rfl⟩
  refine au [] ?_
  rw [ex_s3]
  refine au [1, 10, 10, 2, 2, 3, 4] ?_
  refine TK.kp [(j1, _), (0, _), (1, _), (s, _), (e, _)] ?_
  refine au [5, 8] ?_
  refine TK.newR rfl rfl rfl (n_buildSlice (l := [_]) rfl SlEl.h TyZ.h (by decide) (by decide) rfl) (fun _ => putS rfl (by simp only [List.set]; rfl)) fun ja5 hja5 => ?_
  refine TK.freezeR 58 rfl (by repeat (first | exact Upd.head | apply Upd.tail)) rfl ?_
  refine au [] ?_
  refine TK.cl rfl rfl rfl rfl (stateApi_ok hT (b := exB) (s := s) (e := e) hse (xs := [4]) ex_n1 ex_l1 (ints_at [4] 3 false) (by decide)) ?_
  rintro r13 K14 ⟨rfl, rfl⟩
  refine au [] ?_
  rw [ex_s4]
  refine au [1, 10, 10, 2, 2, 3, 4] ?_
  refine TK.kp [(j1, _), (0, _), (1, _), (s, _), (e, _)] ?_
  refine au [5, 8] ?_
  refine TK.cl rfl rfl rfl rfl (statesApi_ok hT (b := exB) (s := s) (e := e) hse ex_n1 ex_l1) ?_
  rintro r16 K17 ⟨rfl, rfl⟩
  refine au [] ?_
  rw [ex_st]
  refine au [1, 10, 10, 2, 2, 3, 4, 5, 8] ?_
  refine TK.cl rfl rfl rfl rfl (counts_ok tame (b := exB) (s := s) (e := e) hse ex_n1 ex_l1) ?_
  rintro r19 K20 h21
  rcases h21 with ⟨hb0, rfl, rfl⟩ | ⟨hb0, jc, rfl, rfl⟩
  · refine au [] ?_
    exact absurd ex_ask hb0
  · refine au [] ?_
    rw [ex_counts]
    refine au [1, 10] ?_
    refine TK.freezeR 70 rfl (by repeat (first | exact Upd.head | apply Upd.tail)) rfl ?_
    refine au [10, 2, 2, 3, 4, 5, 8] ?_
    refine TK.cl rfl rfl rfl rfl (atApi_ok hT (b := exB) (s := s) (e := e) (n := 1) hse ex_n1 ex_l1) ?_
    rintro r22 K23 ⟨rfl, rfl⟩
    refine au [] ?_
    rw [ex_at1]
    refine au [1, 10, 10, 2, 2, 3, 4, 5, 8] ?_
    refine TK.cl rfl rfl rfl rfl (atApi_ok hT (b := exB) (s := s) (e := e) (n := 0) hse ex_n1 ex_l1) ?_
    rintro r25 K26 ⟨rfl, rfl⟩
    refine au [] ?_
    rw [ex_at0]
    refine au [1, 10, 10, 2, 2, 3, 4, 4, 5, 1, 6, 1, 1, 6, 25, 1, 1, 6, 25, 1, 1, 6, 25, 1, 1, 6, 25, 1, 1, 6, 25, 1, 1, 6, 25, 1, 1, 6, 25, 1, 1, 30, 25, 1, 1, 25, 1, 1, 30, 25, 1, 1, 25, 1, 1, 6, 25, 1, 1] ?_
    refine TK.newR rfl rfl rfl (n_buildSlice (l := [_]) rfl SlEl.h TyZ.h (by decide) (by decide) rfl) (fun _ => putS rfl (by simp only [List.set]; rfl)) fun jd hjd => ?_
    refine TK.cl rfl rfl rfl rfl (callK_frz (same_ok hT [1] (j := jc) (j2 := jd) (fun h => hjd (by subst h; simp [keys])) (ints_at [1] 3 false) (ints_at [1] 3 false) (by decide))) ?_
    rintro r28 K29 ⟨rfl, rfl⟩
    refine au [30, 25, 1, 1, 6, 25, 1, 1, 6, 25, 3, 19, 12, 4] ?_
    refine TK.kp [(j1, _), (0, _), (1, _), (s, _), (e, _)] ?_
    refine au [5, 8] ?_
    refine TK.cl rfl rfl rfl rfl (stepsApi_ok hT (b := exB) (s := s) (e := e) hse ex_n1 ex_l1) ?_
    rintro r31 K32 h33
    rcases h33 with ⟨hb0, rfl, rfl⟩ | ⟨hb0, jp, jq, rfl, rfl⟩
    · refine au [] ?_
      exact absurd ex_ask hb0
    · refine au [] ?_
      rw [ex_p1, ex_p0]
      refine au [1, 10, 10] ?_
      refine TK.freezeR 148 rfl (by repeat (first | exact Upd.head | apply Upd.tail)) rfl ?_
      refine au [10, 2, 2, 2, 3, 4, 5, 8] ?_
      refine TK.cl rfl rfl rfl rfl (withinApi_ok hT (b := exB) (s := s) (e := e) (lo := 6) (hi := 1) hse ex_n1 ex_l1) ?_
      rintro r34 K35 ⟨rfl, rfl⟩
      refine au [] ?_
      rw [ex_w]
      refine au [1, 10, 10, 22] ?_
      intro jw hjw
      refine au [17, 2, 3, 4, 5, 8] ?_
      refine TK.cl rfl rfl rfl rfl (narrow_ok tame (b := exB) (s := s) (e := e) hse ex_n1 ex_l1) ?_
      rintro r37 K38 ⟨rfl, rfl⟩
      refine au [] ?_
      rw [ex_n]
      refine au [1, 10, 10, 10, 10, 2, 2, 2, 2, 3, 4, 5, 8] ?_
      refine TK.cl rfl rfl rfl rfl (wrongApi_ok hT (b := exB) (s := s) (e := e) (n := 0) hse ex_n1 ex_l1) ?_
      rintro r40 K41 ⟨rfl, rfl⟩
      refine au [] ?_
      rw [ex_wr]
      refine au [1, 10, 10, 2, 2, 3, 4, 5, 8] ?_
      refine TK.cl rfl rfl rfl rfl (likely_ok hT (b := exB) (s := s) (e := e) hse ex_n1 ex_l1) ?_
      rintro r43 K44 h45
      rcases h45 with ⟨hc0, rfl, rfl⟩ | ⟨hc0, hg0, rfl, rfl⟩ | ⟨hc0, hg0, jl, rfl, rfl⟩
      · refine au [] ?_
        exact absurd ex_check hc0
      · refine au [] ?_
        exact absurd hg0 ex_g0
      · refine au [] ?_
        rw [ex_li]
        refine au [1, 10, 10, 10, 10, 2, 2, 2, 2, 3, 4, 5, 8] ?_
        refine TK.cl rfl rfl rfl rfl (clash_ok hT (b := exB) (s := s) (e := e) hse ex_n1 ex_l1) ?_
        rintro r46 K47 h48
        rcases h48 with ⟨hc0, rfl, rfl⟩ | ⟨hc0, hg0, rfl, rfl⟩ | ⟨hc0, hg0, jk, rfl, rfl⟩
        · refine au [] ?_
          exact absurd ex_check hc0
        · refine au [] ?_
          rw [ex_t] at hg0; cases hg0
        · refine au [] ?_
          rw [ex_cl]
          refine au [1, 10, 10, 2, 2, 3, 4, 4] ?_
          refine TK.kp [(j1, _), (0, _), (1, _), (s, _), (e, _), (jp, _), (jq, _), (jw, _), (jl, _), (jk, _)] ?_
          refine TK.draw [0, 1, 2, 3, 4, 5, 6, 7, 8, 9, 10, 11, 12, 13, 14, 15, 16, 17, 18, 19, 20, 21, 22, 23, 24, 25, 26, 27, 28, 29, 30, 31, 32, 33, 34, 35, 36, 37, 38, 39, 40, 41, 42, 43, 44, 45, 46, 47, 48, 49, 50, 51, 52, 53, 54, 55, 56, 57, 58, 59, 60, 61, 62, 63, 64, 65, 66, 67, 68, 69, 70, 71, 72, 73] [0, 1, 2, 3, 4, 5, 6, 7, 8, 9, 10, 11, 12, 13, 14, 15, 16, 17, 18, 19, 20, 21, 22, 23, 24, 25, 26, 27, 28, 29, 30, 31, 32, 33, 34, 35, 36, 37, 38, 39, 40, 41, 42, 43, 44, 45, 46, 47, 48, 49, 50, 51, 52, 53, 54, 55, 56, 57, 58, 59, 60, 61, 62, 63, 64, 65, 66, 67, 68, 69, 70, 71, 72, 73] (by kernel_rfl) (by kernel_rfl) ?_
          refine TD.q [3] [] rfl rfl rfl rfl (by simp) (q_move rfl rfl) (putS rfl (by simp only [List.set]; rfl)) ?_
          refine TD.q [179] [] rfl rfl rfl rfl (by simp) (q_cmp rfl rfl rfl rfl) (putS rfl (by simp only [List.set]; rfl)) ?_
          refine TD.q [180] [] rfl rfl rfl rfl (by simp) (q_move rfl rfl) (putS rfl (by simp only [List.set]; rfl)) ?_
          refine TD.q [5, 181] [] rfl rfl rfl rfl (by simp) (q_move rfl rfl) (putS rfl (by simp only [List.set]; rfl)) ?_
          refine TD.q [181, 182] [] rfl rfl rfl rfl (by simp) (q_cmp rfl rfl rfl rfl) (putS rfl (by simp only [List.set]; rfl)) ?_
          refine TD.q [181, 183] [] rfl rfl rfl rfl (by simp) (q_pickF rfl rfl rfl) (putS rfl (by simp only [List.set]; rfl)) ?_
          refine TD.q [184] [] rfl rfl rfl rfl (by simp) (q_move rfl rfl) (putS rfl (by simp only [List.set]; rfl)) ?_
          refine TD.q [7, 185] [] rfl rfl rfl rfl (by simp) (q_move rfl rfl) (putS rfl (by simp only [List.set]; rfl)) ?_
          refine TD.q [185, 186] [] rfl rfl rfl rfl (by simp) (q_cmp rfl rfl rfl rfl) (putS rfl (by simp only [List.set]; rfl)) ?_
          refine TD.q [185, 187] [] rfl rfl rfl rfl (by simp) (q_pickF rfl rfl rfl) (putS rfl (by simp only [List.set]; rfl)) ?_
          refine TD.q [188] [] rfl rfl rfl rfl (by simp) (q_move rfl rfl) (putS rfl (by simp only [List.set]; rfl)) ?_
          refine TD.q [9, 189] [] rfl rfl rfl rfl (by simp) (q_move rfl rfl) (putS rfl (by simp only [List.set]; rfl)) ?_
          refine TD.q [189, 190] [] rfl rfl rfl rfl (by simp) (q_cmp rfl rfl rfl rfl) (putS rfl (by simp only [List.set]; rfl)) ?_
          refine TD.q [189, 191] [] rfl rfl rfl rfl (by simp) (q_pickF rfl rfl rfl) (putS rfl (by simp only [List.set]; rfl)) ?_
          refine TD.q [192] [] rfl rfl rfl rfl (by simp) (q_move rfl rfl) (putS rfl (by simp only [List.set]; rfl)) ?_
          refine TD.q [11, 193] [] rfl rfl rfl rfl (by simp) (q_move rfl rfl) (putS rfl (by simp only [List.set]; rfl)) ?_
          refine TD.q [193, 194] [] rfl rfl rfl rfl (by simp) (q_cmp rfl rfl rfl rfl) (putS rfl (by simp only [List.set]; rfl)) ?_
          refine TD.q [193, 195] [] rfl rfl rfl rfl (by simp) (q_pickF rfl rfl rfl) (putS rfl (by simp only [List.set]; rfl)) ?_
          refine TD.q [196] [] rfl rfl rfl rfl (by simp) (q_move rfl rfl) (putS rfl (by simp only [List.set]; rfl)) ?_
          refine TD.q [13, 197] [] rfl rfl rfl rfl (by simp) (q_move rfl rfl) (putS rfl (by simp only [List.set]; rfl)) ?_
          refine TD.q [197, 198] [] rfl rfl rfl rfl (by simp) (q_cmp rfl rfl rfl rfl) (putS rfl (by simp only [List.set]; rfl)) ?_
          refine TD.q [197, 199] [] rfl rfl rfl rfl (by simp) (q_pickF rfl rfl rfl) (putS rfl (by simp only [List.set]; rfl)) ?_
          refine TD.q [200] [] rfl rfl rfl rfl (by simp) (q_move rfl rfl) (putS rfl (by simp only [List.set]; rfl)) ?_
          refine TD.q [18, 201] [] rfl rfl rfl rfl (by simp) (q_move rfl rfl) (putS rfl (by simp only [List.set]; rfl)) ?_
          refine TD.q [201, 202] [] rfl rfl rfl rfl (by simp) (q_len rfl rfl rfl Und.h) (putS rfl (by simp only [List.set]; rfl)) ?_
          refine TD.q [201, 203] [] rfl rfl rfl rfl (by simp) (q_cmp rfl rfl rfl rfl) (putS rfl (by simp only [List.set]; rfl)) ?_
          refine TD.q [201, 204] [] rfl rfl rfl rfl (by simp) (q_pickF rfl rfl rfl) (putS rfl (by simp only [List.set]; rfl)) ?_
          refine TD.q [205] [] rfl rfl rfl rfl (by simp) (q_move rfl rfl) (putS rfl (by simp only [List.set]; rfl)) ?_
          refine TD.q [19, 206] [] rfl rfl rfl rfl (by simp) (q_move rfl rfl) (putS rfl (by simp only [List.set]; rfl)) ?_
          refine TD.cnewR (pend' := [Pd.mk 28 [19, 206] [], Pd.mk 26 [201, 204] [], Pd.mk 25 [201, 203] [], Pd.mk 24 [201, 202] [], Pd.mk 23 [18, 201] [], Pd.mk 22 [200] [], Pd.mk 21 [197, 199] [], Pd.mk 20 [197, 198] [], Pd.mk 19 [13, 197] [], Pd.mk 18 [196] [], Pd.mk 17 [193, 195] [], Pd.mk 16 [193, 194] [], Pd.mk 15 [11, 193] [], Pd.mk 14 [192] [], Pd.mk 13 [189, 191] [], Pd.mk 12 [189, 190] [], Pd.mk 11 [9, 189] [], Pd.mk 10 [188] [], Pd.mk 9 [185, 187] [], Pd.mk 8 [185, 186] [], Pd.mk 7 [7, 185] [], Pd.mk 6 [184] [], Pd.mk 5 [181, 183] [], Pd.mk 4 [181, 182] [], Pd.mk 3 [5, 181] [], Pd.mk 2 [180] [], Pd.mk 1 [179] [], Pd.mk 0 [3] []]) [206] rfl rfl rfl (pendS (es := [27]) rfl rfl) rfl (n_buildSlice (l := [_, _, _]) rfl SlEl.h TyZ.h (by decide) (by decide) rfl) (fun _ => putS rfl (by simp only [List.set]; rfl)) (by simp) fun jd1 hjd1 => ?_
          refine TD.call' (pend' := [Pd.mk 26 [201, 204] [], Pd.mk 25 [201, 203] [], Pd.mk 24 [201, 202] [], Pd.mk 23 [18, 201] [], Pd.mk 22 [200] [], Pd.mk 21 [197, 199] [], Pd.mk 20 [197, 198] [], Pd.mk 19 [13, 197] [], Pd.mk 18 [196] [], Pd.mk 17 [193, 195] [], Pd.mk 16 [193, 194] [], Pd.mk 15 [11, 193] [], Pd.mk 14 [192] [], Pd.mk 13 [189, 191] [], Pd.mk 12 [189, 190] [], Pd.mk 11 [9, 189] [], Pd.mk 10 [188] [], Pd.mk 9 [185, 187] [], Pd.mk 8 [185, 186] [], Pd.mk 7 [7, 185] [], Pd.mk 6 [184] [], Pd.mk 5 [181, 183] [], Pd.mk 4 [181, 182] [], Pd.mk 3 [5, 181] [], Pd.mk 2 [180] [], Pd.mk 1 [179] [], Pd.mk 0 [3] []]) [206, 207, 208] rfl rfl (pendS (es := [28, 29, 27, 27]) rfl rfl) rfl rfl rfl Cal.h rfl (callK_frz (same_ok hT [1, 3, 6] (j := jq) (j2 := jd1) (fun h => hjd1 (by subst h; simp [keys])) (ints_at [1, 3, 6] 3 false) (ints_at [1, 3, 6] 3 false) (by decide))) (by repeat (first | exact Split.none _ | exact Split.all _ | (apply Split.rem; repeat (first | exact Rem.head | apply Rem.tail)) | apply Split.right)) fun r49 K50 h51 => ⟨?_, ?_⟩
          · rcases h51 with ⟨rfl, rfl⟩
            all_goals simp
          obtain ⟨rfl, rfl⟩ := h51
          try simp only [List.cons_append, List.nil_append]
          refine TD.norm (putS rfl (by simp only [List.set]; rfl)) ?_
          refine TD.q [206, 209] [] rfl rfl rfl rfl (by simp) (q_not rfl rfl) (putS rfl (by simp only [List.set]; rfl)) ?_
          refine TD.q [206, 210] [] rfl rfl rfl rfl (by simp) (q_pickF rfl rfl rfl) (putS rfl (by simp only [List.set]; rfl)) ?_
          refine TD.q [211] [] rfl rfl rfl rfl (by simp) (q_move rfl rfl) (putS rfl (by simp only [List.set]; rfl)) ?_
          refine TD.q [20, 212] [(_, _)] rfl rfl rfl rfl (fun _ h => by rw [List.mem_singleton.1 h]; repeat (first | exact List.Mem.head _ | apply List.Mem.tail)) (q_load rfl rfl TySz.h (List.Mem.head _) rfl) (putS rfl (by simp only [List.set]; rfl)) ?_
          refine TD.call' (pend' := [Pd.mk 34 [20, 212] [(_, _)], Pd.mk 32 [206, 210] [], Pd.mk 31 [206, 209] [], Pd.mk 26 [201, 204] [], Pd.mk 25 [201, 203] [], Pd.mk 24 [201, 202] [], Pd.mk 23 [18, 201] [], Pd.mk 22 [200] [], Pd.mk 21 [197, 199] [], Pd.mk 20 [197, 198] [], Pd.mk 19 [13, 197] [], Pd.mk 18 [196] [], Pd.mk 17 [193, 195] [], Pd.mk 16 [193, 194] [], Pd.mk 15 [11, 193] [], Pd.mk 14 [192] [], Pd.mk 13 [189, 191] [], Pd.mk 12 [189, 190] [], Pd.mk 11 [9, 189] [], Pd.mk 10 [188] [], Pd.mk 9 [185, 187] [], Pd.mk 8 [185, 186] [], Pd.mk 7 [7, 185] [], Pd.mk 6 [184] [], Pd.mk 5 [181, 183] [], Pd.mk 4 [181, 182] [], Pd.mk 3 [5, 181] [], Pd.mk 2 [180] [], Pd.mk 1 [179] [], Pd.mk 0 [3] []]) [212] rfl rfl (pendS (es := [33, 33]) rfl rfl) rfl rfl rfl Cal.h rfl (to_ok hT) (by repeat (first | exact Split.none _ | exact Split.all _ | (apply Split.rem; repeat (first | exact Rem.head | apply Rem.tail)) | apply Split.right)) fun r52 K53 h54 => ⟨?_, ?_⟩
          · rcases h54 with ⟨rfl, rfl⟩
            all_goals simp
          obtain ⟨rfl, rfl⟩ := h54
          try simp only [List.cons_append, List.nil_append]
          refine TD.norm (putS rfl (by simp only [List.set]; rfl)) ?_
          refine TD.q [212, 213, 214] [] rfl rfl rfl rfl (by simp) (q_neqFlat rfl rfl rfl rfl rfl FlatF.h EqG.h) (putS rfl (by simp only [List.set]; rfl)) ?_
          refine TD.q [212, 215] [] rfl rfl rfl rfl (by simp) (q_pickF rfl rfl rfl) (putS rfl (by simp only [List.set]; rfl)) ?_
          refine TD.q [216] [] rfl rfl rfl rfl (by simp) (q_move rfl rfl) (putS rfl (by simp only [List.set]; rfl)) ?_
          refine TD.q [21, 217] [] rfl rfl rfl rfl (by simp) (q_move rfl rfl) (putS rfl (by simp only [List.set]; rfl)) ?_
          refine TD.q [217, 218] [] rfl rfl rfl rfl (by simp) (q_cmp rfl rfl rfl rfl) (putS rfl (by simp only [List.set]; rfl)) ?_
          refine TD.q [217, 219] [] rfl rfl rfl rfl (by simp) (q_pickF rfl rfl rfl) (putS rfl (by simp only [List.set]; rfl)) ?_
          refine TD.q [220] [] rfl rfl rfl rfl (by simp) (q_move rfl rfl) (putS rfl (by simp only [List.set]; rfl)) ?_
          refine TD.q [22, 221] [] rfl rfl rfl rfl (by simp) (q_move rfl rfl) (putS rfl (by simp only [List.set]; rfl)) ?_
          refine TD.q [221, 222] [] rfl rfl rfl rfl (by simp) (q_cmp rfl rfl rfl rfl) (putS rfl (by simp only [List.set]; rfl)) ?_
          refine TD.q [221, 223] [] rfl rfl rfl rfl (by simp) (q_pickF rfl rfl rfl) (putS rfl (by simp only [List.set]; rfl)) ?_
          refine TD.q [224] [] rfl rfl rfl rfl (by simp) (q_move rfl rfl) (putS rfl (by simp only [List.set]; rfl)) ?_
          refine TD.q [23, 225] [] rfl rfl rfl rfl (by simp) (q_move rfl rfl) (putS rfl (by simp only [List.set]; rfl)) ?_
          refine TD.q [225, 226] [] rfl rfl rfl rfl (by simp) (q_not rfl rfl) (putS rfl (by simp only [List.set]; rfl)) ?_
          refine TD.q [225, 227] [] rfl rfl rfl rfl (by simp) (q_pickF rfl rfl rfl) (putS rfl (by simp only [List.set]; rfl)) ?_
          refine TD.q [228] [] rfl rfl rfl rfl (by simp) (q_move rfl rfl) (putS rfl (by simp only [List.set]; rfl)) ?_
          refine TD.q [24, 229] [] rfl rfl rfl rfl (by simp) (q_move rfl rfl) (putS rfl (by simp only [List.set]; rfl)) ?_
          refine TD.q [229, 230] [] rfl rfl rfl rfl (by simp) (q_cmp rfl rfl rfl rfl) (putS rfl (by simp only [List.set]; rfl)) ?_
          refine TD.q [229, 231] [] rfl rfl rfl rfl (by simp) (q_pickF rfl rfl rfl) (putS rfl (by simp only [List.set]; rfl)) ?_
          refine TD.q [232] [] rfl rfl rfl rfl (by simp) (q_move rfl rfl) (putS rfl (by simp only [List.set]; rfl)) ?_
          refine TD.q [25, 233] [] rfl rfl rfl rfl (by simp) (q_move rfl rfl) (putS rfl (by simp only [List.set]; rfl)) ?_
          refine TD.cnewR (pend' := [Pd.mk 55 [25, 233] [], Pd.mk 53 [229, 231] [], Pd.mk 52 [229, 230] [], Pd.mk 51 [24, 229] [], Pd.mk 50 [228] [], Pd.mk 49 [225, 227] [], Pd.mk 48 [225, 226] [], Pd.mk 47 [23, 225] [], Pd.mk 46 [224] [], Pd.mk 45 [221, 223] [], Pd.mk 44 [221, 222] [], Pd.mk 43 [22, 221] [], Pd.mk 42 [220] [], Pd.mk 41 [217, 219] [], Pd.mk 40 [217, 218] [], Pd.mk 39 [21, 217] [], Pd.mk 38 [216] [], Pd.mk 37 [212, 215] [], Pd.mk 36 [212, 213, 214] [], Pd.mk 34 [20, 212] [(_, _)], Pd.mk 32 [206, 210] [], Pd.mk 31 [206, 209] [], Pd.mk 26 [201, 204] [], Pd.mk 25 [201, 203] [], Pd.mk 24 [201, 202] [], Pd.mk 23 [18, 201] [], Pd.mk 22 [200] [], Pd.mk 21 [197, 199] [], Pd.mk 20 [197, 198] [], Pd.mk 19 [13, 197] [], Pd.mk 18 [196] [], Pd.mk 17 [193, 195] [], Pd.mk 16 [193, 194] [], Pd.mk 15 [11, 193] [], Pd.mk 14 [192] [], Pd.mk 13 [189, 191] [], Pd.mk 12 [189, 190] [], Pd.mk 11 [9, 189] [], Pd.mk 10 [188] [], Pd.mk 9 [185, 187] [], Pd.mk 8 [185, 186] [], Pd.mk 7 [7, 185] [], Pd.mk 6 [184] [], Pd.mk 5 [181, 183] [], Pd.mk 4 [181, 182] [], Pd.mk 3 [5, 181] [], Pd.mk 2 [180] [], Pd.mk 1 [179] [], Pd.mk 0 [3] []]) [233] rfl rfl rfl (pendS (es := [54]) rfl rfl) rfl (n_buildSlice (l := [_]) rfl SlEl.h TyZ.h (by decide) (by decide) rfl) (fun _ => putS rfl (by simp only [List.set]; rfl)) (by simp) fun jd2 hjd2 => ?_
          refine TD.call' (pend' := [Pd.mk 53 [229, 231] [], Pd.mk 52 [229, 230] [], Pd.mk 51 [24, 229] [], Pd.mk 50 [228] [], Pd.mk 49 [225, 227] [], Pd.mk 48 [225, 226] [], Pd.mk 47 [23, 225] [], Pd.mk 46 [224] [], Pd.mk 45 [221, 223] [], Pd.mk 44 [221, 222] [], Pd.mk 43 [22, 221] [], Pd.mk 42 [220] [], Pd.mk 41 [217, 219] [], Pd.mk 40 [217, 218] [], Pd.mk 39 [21, 217] [], Pd.mk 38 [216] [], Pd.mk 37 [212, 215] [], Pd.mk 36 [212, 213, 214] [], Pd.mk 34 [20, 212] [(_, _)], Pd.mk 32 [206, 210] [], Pd.mk 31 [206, 209] [], Pd.mk 26 [201, 204] [], Pd.mk 25 [201, 203] [], Pd.mk 24 [201, 202] [], Pd.mk 23 [18, 201] [], Pd.mk 22 [200] [], Pd.mk 21 [197, 199] [], Pd.mk 20 [197, 198] [], Pd.mk 19 [13, 197] [], Pd.mk 18 [196] [], Pd.mk 17 [193, 195] [], Pd.mk 16 [193, 194] [], Pd.mk 15 [11, 193] [], Pd.mk 14 [192] [], Pd.mk 13 [189, 191] [], Pd.mk 12 [189, 190] [], Pd.mk 11 [9, 189] [], Pd.mk 10 [188] [], Pd.mk 9 [185, 187] [], Pd.mk 8 [185, 186] [], Pd.mk 7 [7, 185] [], Pd.mk 6 [184] [], Pd.mk 5 [181, 183] [], Pd.mk 4 [181, 182] [], Pd.mk 3 [5, 181] [], Pd.mk 2 [180] [], Pd.mk 1 [179] [], Pd.mk 0 [3] []]) [233, 234, 235] rfl rfl (pendS (es := [55, 56, 54, 54]) rfl rfl) rfl rfl rfl Cal.h rfl (callK_frz (same_ok hT [1] (j := jl) (j2 := jd2) (fun h => hjd2 (by subst h; simp [keys])) (ints_at [1] 3 false) (ints_at [1] 3 false) (by decide))) (by repeat (first | exact Split.none _ | exact Split.all _ | (apply Split.rem; repeat (first | exact Rem.head | apply Rem.tail)) | apply Split.right)) fun r55 K56 h57 => ⟨?_, ?_⟩
          · rcases h57 with ⟨rfl, rfl⟩
            all_goals simp
          obtain ⟨rfl, rfl⟩ := h57
          try simp only [List.cons_append, List.nil_append]
          refine TD.norm (putS rfl (by simp only [List.set]; rfl)) ?_
          refine TD.q [233, 236] [] rfl rfl rfl rfl (by simp) (q_not rfl rfl) (putS rfl (by simp only [List.set]; rfl)) ?_
          refine TD.q [233, 237] [] rfl rfl rfl rfl (by simp) (q_pickF rfl rfl rfl) (putS rfl (by simp only [List.set]; rfl)) ?_
          refine TD.q [238] [] rfl rfl rfl rfl (by simp) (q_move rfl rfl) (putS rfl (by simp only [List.set]; rfl)) ?_
          refine TD.q [26, 239] [] rfl rfl rfl rfl (by simp) (q_move rfl rfl) (putS rfl (by simp only [List.set]; rfl)) ?_
          refine TD.q [239, 240] [] rfl rfl rfl rfl (by simp) (q_cmp rfl rfl rfl rfl) (putS rfl (by simp only [List.set]; rfl)) ?_
          refine TD.q [239, 241] [] rfl rfl rfl rfl (by simp) (q_pickF rfl rfl rfl) (putS rfl (by simp only [List.set]; rfl)) ?_
          refine TD.q [242] [] rfl rfl rfl rfl (by simp) (q_move rfl rfl) (putS rfl (by simp only [List.set]; rfl)) ?_
          refine TD.q [27, 243] [] rfl rfl rfl rfl (by simp) (q_move rfl rfl) (putS rfl (by simp only [List.set]; rfl)) ?_
          refine TD.q [243, 244] [] rfl rfl rfl rfl (by simp) (q_not rfl rfl) (putS rfl (by simp only [List.set]; rfl)) ?_
          refine TD.q [243, 245] [] rfl rfl rfl rfl (by simp) (q_pickF rfl rfl rfl) (putS rfl (by simp only [List.set]; rfl)) ?_
          refine TD.q [246] [] rfl rfl rfl rfl (by simp) (q_move rfl rfl) (putS rfl (by simp only [List.set]; rfl)) ?_
          refine TD.q [28, 247] [] rfl rfl rfl rfl (by simp) (q_move rfl rfl) (putS rfl (by simp only [List.set]; rfl)) ?_
          refine TD.cnewR (pend' := [Pd.mk 69 [28, 247] [], Pd.mk 67 [243, 245] [], Pd.mk 66 [243, 244] [], Pd.mk 65 [27, 243] [], Pd.mk 64 [242] [], Pd.mk 63 [239, 241] [], Pd.mk 62 [239, 240] [], Pd.mk 61 [26, 239] [], Pd.mk 60 [238] [], Pd.mk 59 [233, 237] [], Pd.mk 58 [233, 236] [], Pd.mk 53 [229, 231] [], Pd.mk 52 [229, 230] [], Pd.mk 51 [24, 229] [], Pd.mk 50 [228] [], Pd.mk 49 [225, 227] [], Pd.mk 48 [225, 226] [], Pd.mk 47 [23, 225] [], Pd.mk 46 [224] [], Pd.mk 45 [221, 223] [], Pd.mk 44 [221, 222] [], Pd.mk 43 [22, 221] [], Pd.mk 42 [220] [], Pd.mk 41 [217, 219] [], Pd.mk 40 [217, 218] [], Pd.mk 39 [21, 217] [], Pd.mk 38 [216] [], Pd.mk 37 [212, 215] [], Pd.mk 36 [212, 213, 214] [], Pd.mk 34 [20, 212] [(_, _)], Pd.mk 32 [206, 210] [], Pd.mk 31 [206, 209] [], Pd.mk 26 [201, 204] [], Pd.mk 25 [201, 203] [], Pd.mk 24 [201, 202] [], Pd.mk 23 [18, 201] [], Pd.mk 22 [200] [], Pd.mk 21 [197, 199] [], Pd.mk 20 [197, 198] [], Pd.mk 19 [13, 197] [], Pd.mk 18 [196] [], Pd.mk 17 [193, 195] [], Pd.mk 16 [193, 194] [], Pd.mk 15 [11, 193] [], Pd.mk 14 [192] [], Pd.mk 13 [189, 191] [], Pd.mk 12 [189, 190] [], Pd.mk 11 [9, 189] [], Pd.mk 10 [188] [], Pd.mk 9 [185, 187] [], Pd.mk 8 [185, 186] [], Pd.mk 7 [7, 185] [], Pd.mk 6 [184] [], Pd.mk 5 [181, 183] [], Pd.mk 4 [181, 182] [], Pd.mk 3 [5, 181] [], Pd.mk 2 [180] [], Pd.mk 1 [179] [], Pd.mk 0 [3] []]) [247] rfl rfl rfl (pendS (es := [68]) rfl rfl) rfl (n_buildSlice (l := [_, _, _]) rfl SlEl.h TyZ.h (by decide) (by decide) rfl) (fun _ => putS rfl (by simp only [List.set]; rfl)) (by simp) fun jd3 hjd3 => ?_
          refine TD.call' (pend' := [Pd.mk 67 [243, 245] [], Pd.mk 66 [243, 244] [], Pd.mk 65 [27, 243] [], Pd.mk 64 [242] [], Pd.mk 63 [239, 241] [], Pd.mk 62 [239, 240] [], Pd.mk 61 [26, 239] [], Pd.mk 60 [238] [], Pd.mk 59 [233, 237] [], Pd.mk 58 [233, 236] [], Pd.mk 53 [229, 231] [], Pd.mk 52 [229, 230] [], Pd.mk 51 [24, 229] [], Pd.mk 50 [228] [], Pd.mk 49 [225, 227] [], Pd.mk 48 [225, 226] [], Pd.mk 47 [23, 225] [], Pd.mk 46 [224] [], Pd.mk 45 [221, 223] [], Pd.mk 44 [221, 222] [], Pd.mk 43 [22, 221] [], Pd.mk 42 [220] [], Pd.mk 41 [217, 219] [], Pd.mk 40 [217, 218] [], Pd.mk 39 [21, 217] [], Pd.mk 38 [216] [], Pd.mk 37 [212, 215] [], Pd.mk 36 [212, 213, 214] [], Pd.mk 34 [20, 212] [(_, _)], Pd.mk 32 [206, 210] [], Pd.mk 31 [206, 209] [], Pd.mk 26 [201, 204] [], Pd.mk 25 [201, 203] [], Pd.mk 24 [201, 202] [], Pd.mk 23 [18, 201] [], Pd.mk 22 [200] [], Pd.mk 21 [197, 199] [], Pd.mk 20 [197, 198] [], Pd.mk 19 [13, 197] [], Pd.mk 18 [196] [], Pd.mk 17 [193, 195] [], Pd.mk 16 [193, 194] [], Pd.mk 15 [11, 193] [], Pd.mk 14 [192] [], Pd.mk 13 [189, 191] [], Pd.mk 12 [189, 190] [], Pd.mk 11 [9, 189] [], Pd.mk 10 [188] [], Pd.mk 9 [185, 187] [], Pd.mk 8 [185, 186] [], Pd.mk 7 [7, 185] [], Pd.mk 6 [184] [], Pd.mk 5 [181, 183] [], Pd.mk 4 [181, 182] [], Pd.mk 3 [5, 181] [], Pd.mk 2 [180] [], Pd.mk 1 [179] [], Pd.mk 0 [3] []]) [247, 248, 249] rfl rfl (pendS (es := [69, 70, 68, 68]) rfl rfl) rfl rfl rfl Cal.h rfl (callK_frz (same_ok hT [0, 1, 2] (j := jk) (j2 := jd3) (fun h => hjd3 (by subst h; simp [keys])) (ints_at [0, 1, 2] 3 false) (ints_at [0, 1, 2] 3 false) (by decide))) (by repeat (first | exact Split.none _ | exact Split.all _ | (apply Split.rem; repeat (first | exact Rem.head | apply Rem.tail)) | apply Split.right)) fun r58 K59 h60 => ⟨?_, ?_⟩
          · rcases h60 with ⟨rfl, rfl⟩
            all_goals simp
          obtain ⟨rfl, rfl⟩ := h60
          try simp only [List.cons_append, List.nil_append]
          refine TD.norm (putS rfl (by simp only [List.set]; rfl)) ?_
          refine TD.q [247, 250] [] rfl rfl rfl rfl (by simp) (q_not rfl rfl) (putS rfl (by simp only [List.set]; rfl)) ?_
          refine TD.q [247, 251] [] rfl rfl rfl rfl (by simp) (q_pickF rfl rfl rfl) (putS rfl (by simp only [List.set]; rfl)) ?_
          refine TD.fin ?_
          refine au [19, 12, 4] ?_
          refine TK.kp [(j1, _), (0, _), (1, _), (s, _), (e, _)] ?_
          refine au [5, 8] ?_
          refine TK.cl rfl rfl rfl rfl (askApi_ok hT (b := exB) (s := s) (e := e) hse ex_n1 ex_l1) ?_
          rintro r61 K62 ⟨rfl, rfl⟩
          refine au [] ?_
          rw [ex_askA]
          refine au [1, 10, 10, 10, 2, 2, 2, 3, 4, 5, 8] ?_
          refine TK.cl rfl rfl rfl rfl (lendApi_ok hT (b := exB) (s := s) (e := e) hse ex_n1 ex_l1) ?_
          rintro r64 K65 ⟨rfl, rfl⟩
          refine au [] ?_
          rw [ex_lend]
          refine au [1, 10, 10, 10, 2, 2, 2, 3, 4, 5, 8] ?_
          refine TK.cl rfl rfl rfl rfl (give_ok hT (b := exB) (s := s) (e := e) (n := 0) hse ex_n1 ex_l1) ?_
          rintro r67 K68 h69
          rcases h69 with ⟨hb0, rfl, rfl⟩ | ⟨hb0, g3, g2, rfl, rfl⟩
          · refine au [] ?_
            exact absurd ex_giv hb0
          · refine au [] ?_
            refine TK.nd fun hnd => ?_
            have hg3 : g3 ≠ g2 := fun h => by subst h; simp [keys] at hnd
            try rw [show (0 : Int).toNat = 0 from rfl]
            refine au [1, 10, 10, 22] ?_
            intro jg hjg
            refine au [17, 2, 3, 4, 5, 8] ?_
            refine TK.cl rfl rfl rfl rfl (statesApi_ok hT (b := giveB exB 0) (s := g3) (e := g2) hg3 ex_n3 ex_l3) ?_
            rintro r70 K71 ⟨rfl, rfl⟩
            refine au [] ?_
            rw [ex_g2]
            refine au [1, 10, 10, 2, 2, 3, 4, 5, 8] ?_
            refine TK.cl rfl rfl rfl rfl (narrow_ok tame (b := giveB exB 0) (s := g3) (e := g2) hg3 ex_n3 ex_l3) ?_
            rintro r73 K74 ⟨rfl, rfl⟩
            refine au [] ?_
            rw [ex_g3]
            refine au [1, 10, 10, 10, 10, 2, 2, 2, 2, 3, 4] ?_
            refine TK.kp [(j1, _), (0, _), (1, _), (s, _), (e, _), (jg, _)] ?_
            refine au [5, 8] ?_
            refine TK.cl rfl rfl rfl rfl (look_ok hT (b := exB) (s := s) (e := e) (n := 3) (sm := true) hse ex_n1 ex_l1) ?_
            rintro r76 K77 h78
            rcases h78 with ⟨hb0, rfl, rfl⟩ | ⟨hb0, l3, l2, rfl, rfl⟩
            · refine au [] ?_
              exact absurd ex_lk hb0
            · refine au [] ?_
              refine TK.nd fun hnd => ?_
              have hl3 : l3 ≠ l2 := fun h => by subst h; simp [keys] at hnd
              refine au [1, 10, 10, 17, 2, 3, 4, 5, 8] ?_
              refine TK.cl rfl rfl rfl rfl (statesApi_ok hT (b := lookB exB ⟨3, true⟩) (s := l3) (e := l2) hl3 ex_n4 ex_l4) ?_
              rintro r79 K80 ⟨rfl, rfl⟩
              refine au [] ?_
              rw [ex_lk2]
              refine au [1, 10, 10, 2, 2, 3, 4] ?_
              refine TK.kp [(j1, _), (0, _), (1, _), (s, _), (e, _), (jg, _)] ?_
              refine au [5, 8, 42] ?_
              refine TK.cl rfl rfl rfl rfl (hear_ok hT (b := exB) (s := s) (e := e) (x := exX) hse ex_n1 ex_l1 (by decide)) ?_
              rintro r82 K83 h84
              rcases h84 with ⟨hb0, rfl, rfl⟩ | ⟨hb0, h3, h2, rfl, rfl⟩
              · refine au [] ?_
                exact absurd ex_hr hb0
              · refine au [] ?_
                refine TK.nd fun hnd => ?_
                have hh3 : h3 ≠ h2 := fun h => by subst h; simp [keys] at hnd
                refine au [1, 10, 10, 17, 2, 3, 4, 5, 8] ?_
                refine TK.cl rfl rfl rfl rfl (statesApi_ok hT (b := hearB exB exX) (s := h3) (e := h2) hh3 ex_n5 ex_l5) ?_
                rintro r85 K86 ⟨rfl, rfl⟩
                refine au [] ?_
                rw [ex_hr2]
                refine au [1, 10, 10, 2, 2, 3, 4, 4, 5, 1, 6, 1, 1, 6, 25, 1, 1, 6, 25, 1, 1, 6, 25, 1, 1, 6, 25, 1, 1, 6, 25, 1, 1, 6, 25, 1, 1, 6, 25, 1, 1, 6, 25, 1, 1, 6, 25, 1, 1, 6, 25, 1, 1, 6, 25, 1, 1, 6, 25, 1, 1, 6, 25, 1, 1, 6, 25, 1, 1, 6, 25, 1, 1, 30, 25, 1, 1, 6, 25, 1, 1, 6, 25, 3, 19, 12, 4] ?_
                refine TK.kp [(j1, _), (0, _), (1, _), (s, _), (e, _)] ?_
                refine au [5] ?_
                refine TK.cl rfl rfl rfl rfl (one_ok2 hT) ?_
                rintro r88 K89 ⟨rfl, rfl⟩
                refine au [7, 17, 3, 4, 5, 8] ?_
                refine TK.cl rfl rfl rfl rfl (statesApi_ok hT (b := exB2) (s := s) (e := e) hse ex_n2 ex_l2) ?_
                rintro r91 K92 ⟨rfl, rfl⟩
                refine au [] ?_
                rw [ex2_st]
                refine au [1, 10, 10, 2, 2, 3, 4, 5, 8] ?_
                refine TK.cl rfl rfl rfl rfl (likely_ok hT (b := exB2) (s := s) (e := e) hse ex_n2 ex_l2) ?_
                rintro r94 K95 h96
                rcases h96 with ⟨hc0, rfl, rfl⟩ | ⟨hc0, hg0, rfl, rfl⟩ | ⟨hc0, hg0, jl2, rfl, rfl⟩
                · refine au [] ?_
                  exact absurd ex2_ck hc0
                · refine au [] ?_
                  exact absurd hg0 ex2_g
                · refine au [] ?_
                  rw [ex2_li]
                  refine au [1, 10, 10, 10, 10, 2, 2, 2, 2, 3, 4, 5, 8] ?_
                  refine TK.cl rfl rfl rfl rfl (clash_ok hT (b := exB2) (s := s) (e := e) hse ex_n2 ex_l2) ?_
                  rintro r97 K98 h99
                  rcases h99 with ⟨hc0, rfl, rfl⟩ | ⟨hc0, hg0, rfl, rfl⟩ | ⟨hc0, hg0, jk2, rfl, rfl⟩
                  · refine au [] ?_
                    exact absurd ex2_ck hc0
                  · refine au [1, 10, 10, 2, 2, 3, 4, 5, 1, 6, 1, 1, 6, 26, 1, 1, 6, 26, 1, 1, 6, 26, 1, 1] ?_
                    refine TK.newR rfl rfl rfl (n_buildSlice (l := [_, _]) rfl SlEl.h TyZ.h (by decide) (by decide) rfl) (fun _ => putS rfl (by simp only [List.set]; rfl)) fun jd4 hjd4 => ?_
                    refine TK.cl rfl rfl rfl rfl (callK_frz (same_ok hT [1, 6] (j := jl2) (j2 := jd4) (fun h => hjd4 (by subst h; simp [keys])) (ints_at [1, 6] 3 false) (ints_at [1, 6] 3 false) (by decide))) ?_
                    rintro r100 K101 ⟨rfl, rfl⟩
                    refine au [26, 1, 1, 6, 26, 1, 1, 26, 1, 1, 28, 6, 26, 2, 3] ?_
                    refine TK.rt hret [(0, _), (1, _)] ?_
                    exact ⟨rfl, rfl⟩
                  · refine au [] ?_
                    rw [ex2_t] at hg0; cases hg0
end Go.Vel
end
section
set_option linter.all false
namespace Go.Vel
open Go Go.Conc Go.Proofs


set_option maxRecDepth 20000 in
set_option maxHeartbeats 8000000 in
theorem lawRights_top {R : Value → World → Prop} {b : Bk} {s e j off : Nat} {ob : AObj} {xs : List Int} {k : Int} (hse : s ≠ e) (hI : IntsAt ob off xs) {A : List AObj} {φ : Nat → Loc3} {F H : Hp} {vs : Array Value} (hv : View [(0, checksG), (1, saysG), (s, saysO b), (e, seenO b), (j, ob)] A) (hn0 : (keys [(0, checksG), (1, saysG), (s, saysO b), (e, seenO b), (j, ob)]).Nodup) (hg : RelG gmS φ A.length) (hH : RelH φ A F H) (hargs : RelL φ A.length [.agg (bookC b s e), .sl j off xs.length, intA k] vs)
    (hR : ∀ r K' φ' A' H' v w, (fun r K' => r = boolA true ∧ K' = [(0, checksG), (1, saysG), (s, saysO b), (e, seenO b), (j, ob)]) r K' → RelH φ' A' F H' → RelV φ' A'.length r v → Fits H' w → R v w) : BT Tryz.prog (AtRet Tryz.prog 3 R) (G (Frame.enter Tryz.prog 3 vs .normal) []) H := by
  have hT := shut_BT tame (AtRet Tryz.prog 3 R)
  refine topK_in 77 tame (Post := fun r K' => r = boolA true ∧ K' = [(0, checksG), (1, saysG), (s, saysO b), (e, seenO b), (j, ob)]) Tryz.func3 hv hn0 hg hH hargs hR fun Y hret => ?_
  refine au [4, 5, 21] ?_
  intro jb hjb
  refine au [2, 3, 4, 4, 5, 8] ?_
  refine TK.cl rfl rfl rfl rfl (great_ok hT (s := s) (e := e)) ?_
  rintro r1 K2 ⟨rfl, rfl⟩
  refine au [1] ?_
  refine TK.sp 17 (fun g1_3 => ?_) (fun g1_3 => ?_)
  · refine au [11, 11, 11, 26, 3, 18, 4, 5] ?_
    refine TK.cl rfl rfl rfl rfl (sought_ok tame) ?_
    rintro r4 K5 ⟨rfl, rfl⟩
    refine au [2, 3] ?_
    refine TK.rt hret [(0, _), (1, _), (s, _), (e, _), (j, _)] ?_
    exact ⟨rfl, rfl⟩
  obtain ⟨hs1, hs2, hs3⟩ := great_small g1_3
  have hn : ∀ x ∈ b.seekers, x.name.size ≤ 1000 := fun x hx => Nat.le_trans (hs3 x hx) (by omega)
  have hl : b.seen.length ≤ 1000 := by omega
  have hl2 : b.seekers.length ≤ 1000 := by omega
  refine au [1, 28, 6, 25, 3, 20] ?_
  refine ⟨fun hc0 => ?_, fun hc0 => ?_⟩
  · refine au [4, 5] ?_
    refine TK.cl rfl rfl rfl rfl (sought_ok tame) ?_
    rintro r7 K8 ⟨rfl, rfl⟩
    refine au [2, 3] ?_
    refine TK.rt hret [(0, _), (1, _), (s, _), (e, _), (j, _)] ?_
    exact ⟨rfl, rfl⟩
  have hlx : xs.length ≤ 1000 := by have := of_decide_eq_false hc0; omega
  refine au [12, 4, 5, 8, 1, 1] ?_
  refine TK.cl rfl rfl rfl rfl (rightApi_ok hT hn hl hI hlx) ?_
  rintro r10 K11 ⟨rfl, rfl⟩
  refine au [1, 10, 10, 2, 2, 3, 4, 5, 8, 1, 1] ?_
  refine TK.cl rfl rfl rfl rfl (rightRef_ok hT hse hn hl hl2 hI hlx) ?_
  rintro r13 K14 ⟨rfl, rfl⟩
  refine au [1, 10, 10, 2, 2, 3, 4, 5, 8, 1] ?_
  refine TK.cl rfl rfl rfl rfl (stateApi_ok hT hse hn hl hI hlx) ?_
  rintro r16 K17 ⟨rfl, rfl⟩
  refine au [1, 10, 10, 2, 2, 3, 4, 5, 8, 1] ?_
  refine TK.cl rfl rfl rfl rfl (stateRef_ok hT hse hn hl hl2 hI hlx) ?_
  rintro r19 K20 ⟨rfl, rfl⟩
  refine au [] ?_
  rw [← state_eq]
  refine au [1, 10, 10, 2, 2, 3, 4] ?_
  refine TK.draw [0, 2, 1, 3, 4, 5, 6, 7, 8, 9, 10, 11, 12, 13, 14, 15, 16, 17, 18, 19, 20, 21, 22, 23, 24, 25, 26, 27, 28] [0, 1, 2, 3, 4, 5, 6, 7, 8, 9, 10, 11, 12, 13, 14, 15, 16, 17, 18, 19, 20, 21, 22, 23, 24, 25, 26, 27, 28] (by kernel_rfl) (by kernel_rfl) ?_
  refine TD.q [3] [(_, _)] rfl rfl rfl rfl (fun _ h => by rw [List.mem_singleton.1 h]; repeat (first | exact List.Mem.head _ | apply List.Mem.tail)) (q_load rfl rfl TySz.h (List.Mem.head _) rfl) (putS rfl (by simp only [List.set]; rfl)) ?_
  refine TD.q [3] [(_, _)] rfl rfl rfl rfl (fun _ h => by rw [List.mem_singleton.1 h]; repeat (first | exact List.Mem.head _ | apply List.Mem.tail)) (q_load rfl rfl TySz.h (List.Mem.head _) rfl) (putS rfl (by simp only [List.set]; rfl)) ?_
  refine TD.call' (pend' := [⟨2, [3], [(_, _)]⟩]) [49] rfl rfl rfl rfl rfl rfl Cal.h rfl (check_ok hT (b := b) (s := s) (e := e) hn hl) (by repeat (first | exact Split.none _ | exact Split.all _ | (apply Split.rem; repeat (first | exact Rem.head | apply Rem.tail)) | apply Split.right)) fun r22 K23 h24 => ⟨?_, ?_⟩
  · rcases h24 with ⟨rfl, rfl⟩
    all_goals simp
  obtain ⟨rfl, rfl⟩ := h24
  try simp only [List.cons_append, List.nil_append]
  refine TD.norm (putS rfl (by simp only [List.set]; rfl)) ?_
  refine TD.call' (pend' := []) [51] rfl rfl rfl rfl rfl rfl Cal.h rfl (checkR_ok hT hse hn hl hl2) (by repeat (first | exact Split.none _ | exact Split.all _ | (apply Split.rem; repeat (first | exact Rem.head | apply Rem.tail)) | apply Split.right)) fun r25 K26 h27 => ⟨?_, ?_⟩
  · rcases h27 with ⟨rfl, rfl⟩
    all_goals simp
  obtain ⟨rfl, rfl⟩ := h27
  try simp only [List.cons_append, List.nil_append]
  refine TD.norm (putS rfl (by simp only [List.set]; rfl)) ?_
  refine TD.q [50, 52] [] rfl rfl rfl rfl (by simp) (q_cmp rfl rfl rfl rfl) (putS rfl (by simp only [List.set]; rfl)) ?_
  refine TD.q [53] [] rfl rfl rfl rfl (by simp) (q_move rfl rfl) (putS rfl (by simp only [List.set]; rfl)) ?_
  refine TD.sp 54 (fun g7_6 => ?_) (fun g7_6 => ?_)
  · refine TD.q [7, 54] [] rfl rfl rfl rfl (by simp) (q_move rfl rfl) (putS rfl (by simp only [List.set]; rfl)) ?_
    refine TD.q [9, 54] [] rfl rfl rfl rfl (by simp) (q_move rfl rfl) (putS rfl (by simp only [List.set]; rfl)) ?_
    refine TD.q [54, 55, 56] [] rfl rfl rfl rfl (by simp) (q_cmpB rfl rfl rfl Und.h rfl) (putS rfl (by simp only [List.set]; rfl)) ?_
    refine TD.q [54, 57] [] rfl rfl rfl rfl (by simp) (q_pickT rfl rfl rfl) (putS rfl (by simp only [List.set]; rfl)) ?_
    refine TD.q [58] [] rfl rfl rfl rfl (by simp) (q_move rfl rfl) (putS rfl (by simp only [List.set]; rfl)) ?_
    refine TD.sp 59 (fun g7_11 => ?_) (fun g7_11 => ?_)
    · refine TD.q [8, 59] [] rfl rfl rfl rfl (by simp) (q_move rfl rfl) (putS rfl (by simp only [List.set]; rfl)) ?_
      refine TD.q [10, 59] [] rfl rfl rfl rfl (by simp) (q_move rfl rfl) (putS rfl (by simp only [List.set]; rfl)) ?_
      refine TD.q [59, 60, 61] [] rfl rfl rfl rfl (by simp) (q_cmp rfl rfl rfl rfl) (putS rfl (by simp only [List.set]; rfl)) ?_
      refine TD.q [59, 62] [] rfl rfl rfl rfl (by simp) (q_pickT rfl rfl rfl) (putS rfl (by simp only [List.set]; rfl)) ?_
      refine TD.q [63] [] rfl rfl rfl rfl (by simp) (q_move rfl rfl) (putS rfl (by simp only [List.set]; rfl)) ?_
      refine TD.sp 64 (fun g7_16 => ?_) (fun g7_16 => ?_)
      · refine TD.q [11, 64] [] rfl rfl rfl rfl (by simp) (q_move rfl rfl) (putS rfl (by simp only [List.set]; rfl)) ?_
        refine TD.q [13, 64] [] rfl rfl rfl rfl (by simp) (q_move rfl rfl) (putS rfl (by simp only [List.set]; rfl)) ?_
        refine TD.q [64, 65, 66] [] rfl rfl rfl rfl (by simp) (q_cmpB rfl rfl rfl Und.h rfl) (putS rfl (by simp only [List.set]; rfl)) ?_
        refine TD.q [64, 67] [] rfl rfl rfl rfl (by simp) (q_pickT rfl rfl rfl) (putS rfl (by simp only [List.set]; rfl)) ?_
        refine TD.q [68] [] rfl rfl rfl rfl (by simp) (q_move rfl rfl) (putS rfl (by simp only [List.set]; rfl)) ?_
        refine TD.sp 69 (fun g7_21 => ?_) (fun g7_21 => ?_)
        · refine TD.q [12, 69] [] rfl rfl rfl rfl (by simp) (q_move rfl rfl) (putS rfl (by simp only [List.set]; rfl)) ?_
          refine TD.q [14, 69] [] rfl rfl rfl rfl (by simp) (q_move rfl rfl) (putS rfl (by simp only [List.set]; rfl)) ?_
          refine TD.q [69, 70, 71] [] rfl rfl rfl rfl (by simp) (q_cmp rfl rfl rfl rfl) (putS rfl (by simp only [List.set]; rfl)) ?_
          refine TD.q [69, 72] [] rfl rfl rfl rfl (by simp) (q_pickT rfl rfl rfl) (putS rfl (by simp only [List.set]; rfl)) ?_
          refine TD.q [73] [] rfl rfl rfl rfl (by simp) (q_move rfl rfl) (putS rfl (by simp only [List.set]; rfl)) ?_
          refine TD.sp 74 (fun g7_26 => ?_) (fun g7_26 => ?_)
          · refine TD.call' (pend' := [⟨24, [69, 72], []⟩, ⟨23, [69, 70, 71], []⟩, ⟨22, [14, 69], []⟩, ⟨21, [12, 69], []⟩, ⟨20, [68], []⟩, ⟨19, [64, 67], []⟩, ⟨18, [64, 65, 66], []⟩, ⟨17, [13, 64], []⟩, ⟨16, [11, 64], []⟩, ⟨15, [63], []⟩, ⟨14, [59, 62], []⟩, ⟨13, [59, 60, 61], []⟩, ⟨12, [10, 59], []⟩, ⟨11, [8, 59], []⟩, ⟨10, [58], []⟩, ⟨9, [54, 57], []⟩, ⟨8, [54, 55, 56], []⟩, ⟨7, [9, 54], []⟩, ⟨6, [7, 54], []⟩, ⟨5, [53], []⟩, ⟨4, [50, 52], []⟩]) [74] rfl rfl rfl rfl rfl rfl Cal.h rfl (sought_ok tame) (by repeat (first | exact Split.none _ | exact Split.all _ | (apply Split.rem; repeat (first | exact Rem.head | apply Rem.tail)) | apply Split.right)) fun r28 K29 h30 => ⟨?_, ?_⟩
            · rcases h30 with ⟨rfl, rfl⟩
              all_goals simp
            obtain ⟨rfl, rfl⟩ := h30
            try simp only [List.cons_append, List.nil_append]
            refine TD.norm (putS rfl (by simp only [List.set]; rfl)) ?_
            refine TD.q [74, 75] [] rfl rfl rfl rfl (by simp) (q_pickT rfl rfl rfl) (putS rfl (by simp only [List.set]; rfl)) ?_
            refine TD.cq (env' := [_, _, _, _, _, _, _, _, _, _, _, _, _, _, _, _, _, _, _, _, _, _, _, _, _, _, _, _, _, _, _, _, _, _, _, _, _, _, _, _, _, _, _, _, _, _, _, _, _, _, _, _, _, _, _, _, _, _, _, _, _, _, _, _, _, _, _, _, _, _, _, _, _, _, _, _, _]) (pend' := []) [76] rfl rfl rfl rfl rfl (q_assign rfl rfl) rfl (by simp) ?_
            refine TD.fin ?_
            refine au [] ?_
            refine TK.rt hret [(0, _), (1, _), (s, _), (e, _), (j, _)] ?_
            exact ⟨rfl, rfl⟩
          simp at g7_26
        simp at g7_21
      simp at g7_16
    simp at g7_11
  simp at g7_6
end Go.Vel
end
section
set_option linter.all false
namespace Go.Vel
open Go Go.Conc Go.Proofs Go.ChangeShapes Go.WideShapes Go.ChangeAt Go.RowKit
open Go.Proofs.YtmojepgodbadmaaGreatDoor (Tryz.pinned)
def seekerRightsPhi (x0a x0b x1 : Value) : Nat → Loc3
  | 0 => ⟨0, 0, 0⟩
  | 1 => ⟨1, 0, 0⟩
  | 2 => locV x0a
  | 3 => locV x0b
  | 4 => locV x1
  | _ => ⟨0, 0, 0⟩
theorem seekerRights_run {W : World} (hl : laidMetH Tryz.prog tblLaid W) {b0 : Bk} {x0a x0b : Value} {l1 : List Int} {x1 : Value} {k2 : Int} (h0a : SlIn W saysV 5 b0.seekers x0a) (h0b : SlIn W seenV 2 b0.seen x0b) (h1 : SlIn W (fun n : Int => [Value.int .i64 n]) 1 l1 x1) :
    ∃ M last o w' t', runNT Tryz.prog (M + 1) (solo (G (Frame.enter Tryz.prog 3 #[.agg #[.int .i64 b0.steps, .int .i64 b0.wrong, .int .i64 b0.low, .int .i64 b0.high, x0a, x0b], x1, .int .i64 k2] .normal) []) W) #[] = (.ended o w', t') ∧
      runN Tryz.prog M (solo (G (Frame.enter Tryz.prog 3 #[.agg #[.int .i64 b0.steps, .int .i64 b0.wrong, .int .i64 b0.low, .int .i64 b0.high, x0a, x0b], x1, .int .i64 k2] .normal) []) W) = .next last ∧
      step Tryz.prog last = .ended o w' ∧ Conc.Good Tryz.prog (fun v w => v = .bool true ∧ w.os = W.os ∧ w.output = W.output ∧ KeptAll W w) last o w' t' := by
  refine good_run (R := fun v w => v = .bool true ∧ KeptAll W w) (R' := fun v w => v = .bool true ∧ w.os = W.os ∧ w.output = W.output ∧ KeptAll W w) Tryz.func3 rfl (by kernel_rfl) (fun v w' ho hu hr => ⟨hr.1, ho, hu, hr.2⟩) (fun v w τ d h => h) (holdAll_fits W) ?_
  obtain ⟨ht0, ht1⟩ := of_laid hl
  refine lawRights_top (b := b0) (s := 2) (e := 3) (j := 4) (off := 0) (ob := .cells (l1.map intA) 3 false) (xs := l1) (k := k2) (by decide) (ints_at l1 3 false) (A := [checksG, saysG, saysO b0, seenO b0, .cells (l1.map intA) 3 false]) (φ := seekerRightsPhi x0a x0b x1) (F := holdAll W) ?_ ?_ ?_ ?_ ?_ ?_
  · intro x hx
    simp only [List.mem_cons, List.not_mem_nil, or_false] at hx
    rcases hx with rfl | rfl | rfl | rfl | rfl <;> rfl
  · simp [keys]
  · intro g i hg
    match g, hg with
    | 0, hg => cases hg; exact ⟨by simp, rfl, rfl⟩
    | 1, hg => cases hg; exact ⟨by simp, rfl, rfl⟩
    | g + 2, hg => cases hg
  · refine ⟨fun i o ho => ?_, fun i j o o' hi _ _ hx => ?_, fun b x h => h, fun i o hi hx => ?_⟩
    · match i, ho with
      | 0, ho => cases ho; exact tbl_rel ht0
      | 1, ho => cases ho; exact tbl_rel ht1
      | 2, ho => cases ho; exact relO_in h0a (fun _ => rfl) says_rel
      | 3, ho => cases ho; exact relO_in h0b (fun _ => rfl) seen_rel
      | 4, ho => cases ho; exact (by rw [map_flat]; exact relO_in h1 (fun _ => rfl) int_rel)
      | i + 5, ho => simp at ho
    · match i, hi with
      | 0, hi => cases hi; cases hx
      | 1, hi => cases hi; cases hx
      | 2, hi => cases hi; cases hx
      | 3, hi => cases hi; cases hx
      | 4, hi => cases hi; cases hx
      | i + 5, hi => simp at hi
    · match i, hi with
      | 0, hi => cases hi; cases hx
      | 1, hi => cases hi; cases hx
      | 2, hi => cases hi; cases hx
      | 3, hi => cases hi; cases hx
      | 4, hi => cases hi; cases hx
      | i + 5, hi => simp at hi
  · refine ⟨rfl, fun j a y ha hy => ?_⟩
    match j, ha, hy with
    | 0, ha, hy =>
      cases ha; cases hy
      refine .agg rfl fun t u z hu hz => ?_
      match t, hu, hz with
      | 0, hu, hz => cases hu; cases hz; exact .v _
      | 1, hu, hz => cases hu; cases hz; exact .v _
      | 2, hu, hz => cases hu; cases hz; exact .v _
      | 3, hu, hz => cases hu; cases hz; exact .v _
      | 4, hu, hz => cases hu; cases hz; exact relV_in h0a (by simp) rfl
      | 5, hu, hz => cases hu; cases hz; exact relV_in h0b (by simp) rfl
      | t + 6, hu, hz => simp [bookC] at hu
    | 1, ha, hy =>
      cases ha; cases hy; exact relV_in h1 (by simp) rfl
    | 2, ha, hy =>
      cases ha; cases hy; exact .v _
    | j + 3, ha, hy => simp at ha
  · rintro r K' φ' A' H' v w ⟨rfl, _⟩ hH' hv' hfit
    refine ⟨inv_v hv', fun i hi => ?_⟩
    have hh := Array.getElem?_eq_getElem hi
    rw [hh]
    exact hfit i false _ (hH'.fr _ _ (holdAll_get hh))
set_option maxRecDepth 100000 in
theorem seekerRights_lifted (os : Os) (started : os.Started) (H : Type) (enc : TypeId × Value → H) :
    ReturnsInLeavingWide Go.Proofs.YtmojepgodbadmaaGreatDoor.Rows.seekerRightsRow.assume Tryz.checked os 3 .any (Go.Proofs.YtmojepgodbadmaaGreatDoor.Rows.seekerRightsRow.pre enc Tryz.prog Tryz.f3 (OpenSpec.ofChange Go.Proofs.YtmojepgodbadmaaGreatDoor.Rows.seekerRightsSpec))
      (Go.Proofs.YtmojepgodbadmaaGreatDoor.Rows.seekerRightsSpec.post enc Tryz.prog Tryz.f3 false true false false) := by
  refine returnsInLeavingWide_of_good (C := Tryz.checked) own started
    (ChangeSpec.witness_shaped (enc := enc) (C := Tryz.checked) (os := os) (X := fun w _ => laidMetH Tryz.prog tblLaid w) false (World.doorLaid Tryz.prog 400 os) #[.agg #[.int .i64 0, .int .i64 0, .int .i64 0, .int .i64 0, .slice none 0 0, .slice none 0 0], .slice none 0 0, .int .i64 0] 8 rfl (World.shaped_of_RefB (by kernel_rfl) (by kernel_rfl)) (by kernel_rfl) (by kernel_rfl) (by kernel_rfl) (door_met os _)) ?_
  intro w tape i _ _ _ hok hpre _
  obtain ⟨_, _, _, fn', hfn', _, _, _, _, hval0⟩ := hok
  obtain rfl : fn' = Tryz.f3 := Option.some.inj (hfn'.symm.trans Tryz.func3)
  obtain ⟨⟨⟨ds, gs, before, hw, hc⟩, hL0⟩, _⟩ := hpre
  have hW := DataW.Whole.of_heap (w' := w.forCall tape i) (by rfl) hw
  have hL : laidMetH Tryz.prog tblLaid (w.forCall tape i) := laidMetH.of_heap (by rfl) hL0
  obtain ⟨bl, args, vars⟩ := i
  generalize w.forCall tape ⟨bl, args, vars⟩ = W at hW hL hval0 ⊢
  have hW' := hW
  obtain ⟨p, q, hA0, hV0, rfl, _, _⟩ := hW
  have hA : DataW.TrodAll enc Tryz.prog W 0 (fun _ => true) true [27, 28, 3] args.toList ds p := hA0
  obtain ⟨v0, u0, d0, ds0, p0, q0, hargs, rfl, rfl, t0, hr0⟩ := trodAll_cons hA
  obtain ⟨v1, u1, d1, ds1, p1, q1, rfl, rfl, rfl, t1, hr1⟩ := trodAll_cons hr0
  obtain ⟨v2, u2, d2, ds2, p2, q2, rfl, rfl, rfl, t2, hr2⟩ := trodAll_cons hr1
  obtain ⟨rfl, rfl, rfl⟩ := trodAll_nil hr2
  obtain rfl : args = #[v0, v1, v2] := by cases args; simp_all
  obtain ⟨rfl, rfl⟩ := trodVars_none hV0
  obtain ⟨b0, x0a, x0b, rfl, s0a, s0b⟩ := open_book (okAgg Tryz.underlying27 (hval0 0 27 v0 rfl rfl)) t0
  obtain ⟨a1, len1, cap1, rfl⟩ := okWide_slice Tryz.underlying28 (hval0 1 28 v1 rfl rfl)
  have t1' := t1
  obtain ⟨n1, hh1⟩ := t1'
  obtain ⟨l1, bb1, cap1', e1, ll1, rr1⟩ := open_list (vals := fun n : Int => [Value.int .i64 n]) (c := 1) Tryz.underlying28 (by kernel_rfl) (by decide) dec_int hh1
  have s1 : SlIn W (fun n : Int => [Value.int .i64 n]) 1 l1 (.slice a1 len1 cap1) := ⟨bb1, cap1', by simpa [Value.cells] using e1, ll1, rr1⟩
  obtain ⟨k2, rfl, rfl, rfl, s2⟩ := open_int Tryz.underlying3 (hval0 2 3 v2 rfl rfl) t2
  obtain ⟨M, last, o, w', t', g1, g2, g3, g4⟩ := seekerRights_run hL s0a s0b s1 (k2 := k2)
  refine ⟨M, last, o, w', t', g1, g2, g3, g4.mono fun v hF => ?_⟩
  obtain ⟨rfl, ho, hu, hkp⟩ := hF
  refine ChangeSpec.post_blind ?_
  exact ⟨_, _, _, [], _, [], hW', trodAll_mk1 (shut_bool Tryz.underlying4 true), ⟨_, _, trod_mono laid_out t0 hkp, ⟨_, _, trod_mono laid_out t1 hkp, ⟨_, _, trod_mono laid_out t2 hkp, trodAll_mk0, rfl⟩, rfl⟩, rfl⟩, rfl, kept_but ho hu hkp _, fun h => by cases h⟩
open Go.Proofs.YtmojepgodbadmaaGreatDoor in
theorem seekerRights_said : Rows.SeekerRightsSaid :=
  OpenClaim.holds_of_wide_leaving 3 Tryz.f3 rfl rfl rfl rfl rfl rfl rfl ⟨rfl, rfl, rfl, rfl, rfl⟩ rfl rfl rfl rfl rfl (by kernel_rfl) Tryz.func3 (by kernel_rfl)
    (of_decide_eq_true (by kernel_rfl)) (by unfold Func.isWrapper; first | (rw [if_pos (by decide +kernel)]; kernel_rfl) | (rw [if_neg (by decide +kernel)]; exact ⟨rfl, rfl⟩))
    (fun os started H enc _ => seekerRights_lifted os started H enc)
end Go.Vel
namespace Go.Proofs.YtmojepgodbadmaaGreatDoor
open Go
theorem seekerRights_holds : Rows.SeekerRightsCardSaid :=
  Go.Vel.holds_tied_goes .later [.funcs, .funcs] true (true, "4ec7f063a1680b798177e308e94f0cddf9f672a328c42acb8a5e3df6a22f385e") false
    Go.Vel.seekerRights_said (by kernel_rfl) seekerRights_row_tie rfl ⟨rfl, rfl⟩ (by kernel_rfl) rfl
    (fun f fn hf hfn => by
      obtain rfl : f = 3 := Option.some.inj ((show Tryz.prog.funcNamed "velarium/velariumlaw09.SeekerRights" = some 3 by kernel_rfl).symm.trans hf) |>.symm
      obtain rfl : fn = Tryz.f3 := (Option.some.inj (Tryz.func3.symm.trans hfn)).symm
      exact ⟨by kernel_rfl, fun j t ht => by
        rw [Tryz.params3] at ht
        have hm : t ∈ [27, 28, 3] := by simpa using Array.mem_of_getElem? ht
        have hall : ([27, 28, 3].all fun u => !Tryz.prog.wantsStandIn u) = true := by kernel_rfl
        exact (show Tryz.prog.wantsStandIn t = false by simpa using List.all_eq_true.1 hall t hm)⟩)
    (by kernel_rfl)
#print axioms seekerRights_holds
end Go.Proofs.YtmojepgodbadmaaGreatDoor
end
