/- Texts for the statements of chapter 9: what all of them need, part 10. It holds of every program, tape and world that the statements name, as each theorem says. -/
import Derived.Test.YtpdioiojfgknbaaGreatDoorProg
import Derived.Test.YtpdioiojfgknbaaGreatDoorRows
import Derived.ProofKit
import Derived.LaidMore
import Derived.LaidHandle
import Derived.LaidOnce
import Derived.OpenShut
import Derived.Stop.Joined
import Derived.Conc.LeavingOf
import Derived.Conc.Holds
import Derived.Carry
import Derived.LaidLaws
import Derived.Test.YtpdioiojfgknbaaGreatDoorCards
import Derived.Test.YtpdioiojfgknbaaGreatDoorTie
import Derived.SevenTiedAt
import Derived.Test.YtpdioiojfgknbaaGreatDoorW0
import Derived.Test.YtpdioiojfgknbaaGreatDoorW4
import Derived.Test.YtpdioiojfgknbaaGreatDoorW5
import Derived.Test.YtpdioiojfgknbaaGreatDoorW7
import Derived.Test.YtpdioiojfgknbaaGreatDoorW8
section
set_option linter.all false
set_option maxRecDepth 20000
set_option maxHeartbeats 60000000
namespace Go.Vel
open Go Go.Conc Go.Proofs

theorem pendS {ops : Array Oper} {i : Nat} {pend pend' : List Pd} {es : List Nat} (h : edgesOf .any ops i = es) (h2 : (pend.filter fun p => !(es.elem p.i)) = pend') : pendOf ops i pend = pend' := by unfold pendOf; rw [h]; exact h2
section
variable {P : Program} {gm : Nat → Option Nat} {T : Goroutine → Hp → Prop}
/-- A call that is handed a row it only reads. -/
theorem callK_frz {g : FuncId} {a1 : AV} {j j2 n : Nat} {ob : AObj} {l : List AV} {e : TypeId} {s : Nat} {Post : AV → KV → Prop} (h : CallK P T gm g [a1, .sl j2 0 n] [(j, ob), (j2, .cells l e false)] Post) : CallK P T gm g [a1, .row j2 n] [(j, ob), (j2, .row l e s)] Post := by
 intro A hv hn φ F H vs c cs h1 h2 h3 q
 have hj : A[j2]? = some (.row l e s) := hv.get (by simp)
 have hb : (φ j2).base = 0 := (h2.obj j2 _ hj).2.1
 have hst : Kstep [(j, ob), (j2, AObj.row l e s)] A [(j, ob), (j2, .cells l e false)] (A.set j2 (.cells l e false)) := .set hv hn (.tail .head)
 refine h (A.set j2 (.cells l e false)) hst.view hst.nd φ F H vs c cs (by simpa using h1) (h2.turn hj (fun ho hl => ?_) (fun h => by cases h) (fun _ => rfl) (fun hs => ?_)) ⟨by simpa using h3.1, fun t a y ha hy => ?_⟩ fun r A' φ' H' v ⟨K', hk, hp⟩ hA hlen hH' hv' => q r A' φ' H' v ⟨K', hst.trans hk, hp⟩ (by simpa using hA) (by simpa using hlen) hH' hv'
 ·have hc : 0 < (φ j2).cap := by
   rcases Nat.eq_zero_or_pos (φ j2).cap with e | e
   ·exact absurd (ho.1 e) hl
   ·exact e
  obtain ⟨cur, q1, q2, q3, q4, q5⟩ := ho.2.2 hc
  exact ⟨true, cur, (_, 0, 0), q1, (fun h => by cases h), fun t u hu => by rw [hb, Nat.zero_add]; exact q5 t u hu⟩
 ·show 0 < (φ j2).cap
  rcases Nat.eq_zero_or_pos (φ j2).cap with e | e
  ·exact absurd ((h2.obj j2 _ hj).1 e) hs
  ·exact e
 ·match t, ha with
  | 0, ha =>
   cases ha
   simpa using h3.2 0 a1 y rfl hy
  | 1, ha =>
   cases ha
   have := unrow_rel (j := j2) hb (h3.2 1 _ y rfl hy)
   simpa [unrow] using this
  | t + 2, ha => simp at ha
end
theorem same_ok {main : Bool} {T : Goroutine → Hp → Prop} (hT : Shut Tryz.prog main T) {gm : Nat → Option Nat} {j off j2 off2 : Nat} {ob ob2 : AObj} (xs : List Int) (hjj : j ≠ j2) (hI : IntsAt ob off xs) (hI2 : IntsAt ob2 off2 xs) (hlx : xs.length ≤ 100000) :
  CallK Tryz.prog T gm 59 [.sl j off xs.length, .sl j2 off2 xs.length] [(j, ob), (j2, ob2)] (fun r K' => r = boolA true ∧ K' = [(j, ob), (j2, ob2)]) :=
 (lists_ok hT hjj hI hI2 hlx).mono fun r K' ⟨h1, h2⟩ => ⟨by rw [h1, decide_eq_true rfl], h2⟩
theorem small_of {b : Bk} (h : (b.seekers.all fun x => decide (x.name.size ≤ 1000)) = true) : ∀ x ∈ b.seekers, x.name.size ≤ 1000 := fun x hx => of_decide_eq_true (List.all_eq_true.1 h x hx)
theorem ex_n1 : ∀ x ∈ exB.seekers, x.name.size ≤ 1000 := small_of (by kernel_rfl)
theorem ex_n2 : ∀ x ∈ exB2.seekers, x.name.size ≤ 1000 := small_of (by kernel_rfl)
theorem ex_n3 : ∀ x ∈ (giveB exB 0).seekers, x.name.size ≤ 1000 := small_of (by kernel_rfl)
theorem ex_n4 : ∀ x ∈ (lookB exB ⟨3, true⟩).seekers, x.name.size ≤ 1000 := small_of (by kernel_rfl)
theorem ex_n5 : ∀ x ∈ (hearB exB exX).seekers, x.name.size ≤ 1000 := small_of (by kernel_rfl)
theorem ex_l1 : exB.seen.length ≤ 1000 := by decide
theorem ex_l2 : exB2.seen.length ≤ 1000 := by decide
theorem ex_l3 : (giveB exB 0).seen.length ≤ 1000 := by decide
theorem ex_l4 : (lookB exB ⟨3, true⟩).seen.length ≤ 1000 := by decide
theorem ex_l5 : (hearB exB exX).seen.length ≤ 1000 := by decide


theorem sought_ok (tame : Tame Tryz.prog) {Ψ : Goroutine → World → Prop} : CallK Tryz.prog (BT Tryz.prog Ψ) gmS 12 [] [(0, checksG), (1, saysG)] (fun r K' => r = boolA true ∧ K' = [(0, checksG), (1, saysG)]) := by
 have hT := shut_BT tame Ψ
 refine callK_in 427 hT Tryz.func12 fun Y hret => ?_
 refine au [4, 5, 2, 3, 4, 5] ?_
 refine TK.cl rfl rfl rfl rfl (example_ok hT) ?_
 rintro r1 K2 ⟨s, e, hse, rfl, rfl⟩
 refine au [22] ?_
 intro j1 hj1
 refine au [17, 3, 4] ?_
 refine TK.kp [(j1, _), (0, _), (1, _), (s, _), (e, _)] ?_
 refine au [5, 8] ?_
 refine TK.newR rfl rfl rfl (n_buildSlice (l := [_]) rfl SlEl.h TyZ.h (by decide) (by decide) rfl) (fun _ => putS rfl (by simp only [List.set]; rfl)) fun ja2 hja2 => ?_
 refine TK.freezeR 40 rfl (by repeat (first | exact Upd.head | apply Upd.tail)) rfl ?_
 refine au [] ?_
 refine TK.cl rfl rfl rfl rfl (rightApi_ok hT (b := exB) (s := s) (e := e) (k := 0) (xs := [3]) ex_n1 ex_l1 (ints_at [3] 3 false) (by decide)) ?_
 rintro r4 K5 ⟨rfl, rfl⟩
 refine au [] ?_
 rw [ex_r0]
 refine au [1, 10, 10, 2, 2, 3, 4] ?_
 refine TK.kp [(j1, _), (0, _), (1, _), (s, _), (e, _)] ?_
 refine au [5, 8] ?_
 refine TK.newR rfl rfl rfl (n_buildSlice (l := [_]) rfl SlEl.h TyZ.h (by decide) (by decide) rfl) (fun _ => putS rfl (by simp only [List.set]; rfl)) fun ja3 hja3 => ?_
 refine TK.freezeR 46 rfl (by repeat (first | exact Upd.head | apply Upd.tail)) rfl ?_
 refine au [] ?_
 refine TK.cl rfl rfl rfl rfl (rightApi_ok hT (b := exB) (s := s) (e := e) (k := 1) (xs := [3]) ex_n1 ex_l1 (ints_at [3] 3 false) (by decide)) ?_
 rintro r7 K8 ⟨rfl, rfl⟩
 refine au [] ?_
 rw [ex_r1]
 refine au [1, 10, 10, 2, 2, 3, 4] ?_
 refine TK.kp [(j1, _), (0, _), (1, _), (s, _), (e, _)] ?_
 refine au [5, 8] ?_
 refine TK.newR rfl rfl rfl (n_buildSlice (l := [_]) rfl SlEl.h TyZ.h (by decide) (by decide) rfl) (fun _ => putS rfl (by simp only [List.set]; rfl)) fun ja4 hja4 => ?_
 refine TK.freezeR 52 rfl (by repeat (first | exact Upd.head | apply Upd.tail)) rfl ?_
 refine au [] ?_
 refine TK.cl rfl rfl rfl rfl (stateApi_ok hT (b := exB) (s := s) (e := e) hse (xs := [3]) ex_n1 ex_l1 (ints_at [3] 3 false) (by decide)) ?_
 rintro r10 K11 ⟨rfl, rfl⟩
 refine au [] ?_
 rw [ex_s3]
 refine au [1, 10, 10, 2, 2, 3, 4] ?_
 refine TK.kp [(j1, _), (0, _), (1, _), (s, _), (e, _)] ?_
 refine au [5, 8] ?_
 refine TK.newR rfl rfl rfl (n_buildSlice (l := [_]) rfl SlEl.h TyZ.h (by decide) (by decide) rfl) (fun _ => putS rfl (by simp only [List.set]; rfl)) fun ja5 hja5 => ?_
 refine TK.freezeR 58 rfl (by repeat (first | exact Upd.head | apply Upd.tail)) rfl ?_
 refine au [] ?_
 refine TK.cl rfl rfl rfl rfl (stateApi_ok hT (b := exB) (s := s) (e := e) hse (xs := [4]) ex_n1 ex_l1 (ints_at [4] 3 false) (by decide)) ?_
 rintro r13 K14 ⟨rfl, rfl⟩
 refine au [] ?_
 rw [ex_s4]
 refine au [1, 10, 10, 2, 2, 3, 4] ?_
 refine TK.kp [(j1, _), (0, _), (1, _), (s, _), (e, _)] ?_
 refine au [5, 8] ?_
 refine TK.cl rfl rfl rfl rfl (statesApi_ok hT (b := exB) (s := s) (e := e) hse ex_n1 ex_l1) ?_
 rintro r16 K17 ⟨rfl, rfl⟩
 refine au [] ?_
 rw [ex_st]
 refine au [1, 10, 10, 2, 2, 3, 4, 5, 8] ?_
 refine TK.cl rfl rfl rfl rfl (counts_ok tame (b := exB) (s := s) (e := e) hse ex_n1 ex_l1) ?_
 rintro r19 K20 h21
 rcases h21 with ⟨hb0, rfl, rfl⟩ | ⟨hb0, jc, rfl, rfl⟩
 ·refine au [] ?_
  exact absurd ex_ask hb0
 ·refine au [] ?_
  rw [ex_counts]
  refine au [1, 10] ?_
  refine TK.freezeR 70 rfl (by repeat (first | exact Upd.head | apply Upd.tail)) rfl ?_
  refine au [10, 2, 2, 3, 4, 5, 8] ?_
  refine TK.cl rfl rfl rfl rfl (atApi_ok hT (b := exB) (s := s) (e := e) (n := 1) hse ex_n1 ex_l1) ?_
  rintro r22 K23 ⟨rfl, rfl⟩
  refine au [] ?_
  rw [ex_at1]
  refine au [1, 10, 10, 2, 2, 3, 4, 5, 8] ?_
  refine TK.cl rfl rfl rfl rfl (atApi_ok hT (b := exB) (s := s) (e := e) (n := 0) hse ex_n1 ex_l1) ?_
  rintro r25 K26 ⟨rfl, rfl⟩
  refine au [] ?_
  rw [ex_at0]
  refine au [1, 10, 10, 2, 2, 3, 4, 4, 5, 1, 6, 1, 1, 6, 25, 1, 1, 6, 25, 1, 1, 6, 25, 1, 1, 6, 25, 1, 1, 6, 25, 1, 1, 6, 25, 1, 1, 6, 25, 1, 1, 30, 25, 1, 1, 25, 1, 1, 30, 25, 1, 1, 25, 1, 1, 6, 25, 1, 1] ?_
  refine TK.newR rfl rfl rfl (n_buildSlice (l := [_]) rfl SlEl.h TyZ.h (by decide) (by decide) rfl) (fun _ => putS rfl (by simp only [List.set]; rfl)) fun jd hjd => ?_
  refine TK.cl rfl rfl rfl rfl (callK_frz (same_ok hT [1] (j := jc) (j2 := jd) (fun h => hjd (by subst h; simp [keys])) (ints_at [1] 3 false) (ints_at [1] 3 false) (by decide))) ?_
  rintro r28 K29 ⟨rfl, rfl⟩
  refine au [30, 25, 1, 1, 6, 25, 1, 1, 6, 25, 3, 19, 12, 4] ?_
  refine TK.kp [(j1, _), (0, _), (1, _), (s, _), (e, _)] ?_
  refine au [5, 8] ?_
  refine TK.cl rfl rfl rfl rfl (stepsApi_ok hT (b := exB) (s := s) (e := e) hse ex_n1 ex_l1) ?_
  rintro r31 K32 h33
  rcases h33 with ⟨hb0, rfl, rfl⟩ | ⟨hb0, jp, jq, rfl, rfl⟩
  ·refine au [] ?_
   exact absurd ex_ask hb0
  ·refine au [] ?_
   rw [ex_p1, ex_p0]
   refine au [1, 10, 10] ?_
   refine TK.freezeR 148 rfl (by repeat (first | exact Upd.head | apply Upd.tail)) rfl ?_
   refine au [10, 2, 2, 2, 3, 4, 5, 8] ?_
   refine TK.cl rfl rfl rfl rfl (withinApi_ok hT (b := exB) (s := s) (e := e) (lo := 6) (hi := 1) hse ex_n1 ex_l1) ?_
   rintro r34 K35 ⟨rfl, rfl⟩
   refine au [] ?_
   rw [ex_w]
   refine au [1, 10, 10, 22] ?_
   intro jw hjw
   refine au [17, 2, 3, 4, 5, 8] ?_
   refine TK.cl rfl rfl rfl rfl (narrow_ok tame (b := exB) (s := s) (e := e) hse ex_n1 ex_l1) ?_
   rintro r37 K38 ⟨rfl, rfl⟩
   refine au [] ?_
   rw [ex_n]
   refine au [1, 10, 10, 10, 10, 2, 2, 2, 2, 3, 4, 5, 8] ?_
   refine TK.cl rfl rfl rfl rfl (wrongApi_ok hT (b := exB) (s := s) (e := e) (n := 0) hse ex_n1 ex_l1) ?_
   rintro r40 K41 ⟨rfl, rfl⟩
   refine au [] ?_
   rw [ex_wr]
   refine au [1, 10, 10, 2, 2, 3, 4, 5, 8] ?_
   refine TK.cl rfl rfl rfl rfl (likely_ok hT (b := exB) (s := s) (e := e) hse ex_n1 ex_l1) ?_
   rintro r43 K44 h45
   rcases h45 with ⟨hc0, rfl, rfl⟩ | ⟨hc0, hg0, rfl, rfl⟩ | ⟨hc0, hg0, jl, rfl, rfl⟩
   ·refine au [] ?_
    exact absurd ex_check hc0
   ·refine au [] ?_
    exact absurd hg0 ex_g0
   ·refine au [] ?_
    rw [ex_li]
    refine au [1, 10, 10, 10, 10, 2, 2, 2, 2, 3, 4, 5, 8] ?_
    refine TK.cl rfl rfl rfl rfl (clash_ok hT (b := exB) (s := s) (e := e) hse ex_n1 ex_l1) ?_
    rintro r46 K47 h48
    rcases h48 with ⟨hc0, rfl, rfl⟩ | ⟨hc0, hg0, rfl, rfl⟩ | ⟨hc0, hg0, jk, rfl, rfl⟩
    ·refine au [] ?_
     exact absurd ex_check hc0
    ·refine au [] ?_
     rw [ex_t] at hg0; cases hg0
    ·refine au [] ?_
     rw [ex_cl]
     refine au [1, 10, 10, 2, 2, 3, 4, 4] ?_
     refine TK.kp [(j1, _), (0, _), (1, _), (s, _), (e, _), (jp, _), (jq, _), (jw, _), (jl, _), (jk, _)] ?_
     refine TK.draw [0, 1, 2, 3, 4, 5, 6, 7, 8, 9, 10, 11, 12, 13, 14, 15, 16, 17, 18, 19, 20, 21, 22, 23, 24, 25, 26, 27, 28, 29, 30, 31, 32, 33, 34, 35, 36, 37, 38, 39, 40, 41, 42, 43, 44, 45, 46, 47, 48, 49, 50, 51, 52, 53, 54, 55, 56, 57, 58, 59, 60, 61, 62, 63, 64, 65, 66, 67, 68, 69, 70, 71, 72, 73] [0, 1, 2, 3, 4, 5, 6, 7, 8, 9, 10, 11, 12, 13, 14, 15, 16, 17, 18, 19, 20, 21, 22, 23, 24, 25, 26, 27, 28, 29, 30, 31, 32, 33, 34, 35, 36, 37, 38, 39, 40, 41, 42, 43, 44, 45, 46, 47, 48, 49, 50, 51, 52, 53, 54, 55, 56, 57, 58, 59, 60, 61, 62, 63, 64, 65, 66, 67, 68, 69, 70, 71, 72, 73] (by kernel_rfl) (by kernel_rfl) ?_
     refine TD.z [3] rfl (q_move rfl rfl) ?_
     refine TD.z [179] rfl (q_cmp rfl rfl rfl rfl) ?_
     refine TD.z [180] rfl (q_move rfl rfl) ?_
     refine TD.z [5, 181] rfl (q_move rfl rfl) ?_
     refine TD.z [181, 182] rfl (q_cmp rfl rfl rfl rfl) ?_
     refine TD.z [181, 183] rfl (q_pickF rfl rfl rfl) ?_
     refine TD.z [184] rfl (q_move rfl rfl) ?_
     refine TD.z [7, 185] rfl (q_move rfl rfl) ?_
     refine TD.z [185, 186] rfl (q_cmp rfl rfl rfl rfl) ?_
     refine TD.z [185, 187] rfl (q_pickF rfl rfl rfl) ?_
     refine TD.z [188] rfl (q_move rfl rfl) ?_
     refine TD.z [9, 189] rfl (q_move rfl rfl) ?_
     refine TD.z [189, 190] rfl (q_cmp rfl rfl rfl rfl) ?_
     refine TD.z [189, 191] rfl (q_pickF rfl rfl rfl) ?_
     refine TD.z [192] rfl (q_move rfl rfl) ?_
     refine TD.z [11, 193] rfl (q_move rfl rfl) ?_
     refine TD.z [193, 194] rfl (q_cmp rfl rfl rfl rfl) ?_
     refine TD.z [193, 195] rfl (q_pickF rfl rfl rfl) ?_
     refine TD.z [196] rfl (q_move rfl rfl) ?_
     refine TD.z [13, 197] rfl (q_move rfl rfl) ?_
     refine TD.z [197, 198] rfl (q_cmp rfl rfl rfl rfl) ?_
     refine TD.z [197, 199] rfl (q_pickF rfl rfl rfl) ?_
     refine TD.z [200] rfl (q_move rfl rfl) ?_
     refine TD.z [18, 201] rfl (q_move rfl rfl) ?_
     refine TD.z [201, 202] rfl (q_len rfl rfl rfl Und.h) ?_
     refine TD.z [201, 203] rfl (q_cmp rfl rfl rfl rfl) ?_
     refine TD.z [201, 204] rfl (q_pickF rfl rfl rfl) ?_
     refine TD.z [205] rfl (q_move rfl rfl) ?_
     refine TD.z [19, 206] rfl (q_move rfl rfl) ?_
     refine TD.cnewR (pend' := [Pd.mk 28 [19, 206] [], Pd.mk 26 [201, 204] [], Pd.mk 25 [201, 203] [], Pd.mk 24 [201, 202] [], Pd.mk 23 [18, 201] [], Pd.mk 22 [200] [], Pd.mk 21 [197, 199] [], Pd.mk 20 [197, 198] [], Pd.mk 19 [13, 197] [], Pd.mk 18 [196] [], Pd.mk 17 [193, 195] [], Pd.mk 16 [193, 194] [], Pd.mk 15 [11, 193] [], Pd.mk 14 [192] [], Pd.mk 13 [189, 191] [], Pd.mk 12 [189, 190] [], Pd.mk 11 [9, 189] [], Pd.mk 10 [188] [], Pd.mk 9 [185, 187] [], Pd.mk 8 [185, 186] [], Pd.mk 7 [7, 185] [], Pd.mk 6 [184] [], Pd.mk 5 [181, 183] [], Pd.mk 4 [181, 182] [], Pd.mk 3 [5, 181] [], Pd.mk 2 [180] [], Pd.mk 1 [179] [], Pd.mk 0 [3] []]) [206] rfl rfl rfl (pendS (es := [27]) rfl rfl) rfl (n_buildSlice (l := [_, _, _]) rfl SlEl.h TyZ.h (by decide) (by decide) rfl) (fun _ => putS rfl (by simp only [List.set]; rfl)) (by simp) fun jd1 hjd1 => ?_
     refine TD.cl (pend' := [Pd.mk 26 [201, 204] [], Pd.mk 25 [201, 203] [], Pd.mk 24 [201, 202] [], Pd.mk 23 [18, 201] [], Pd.mk 22 [200] [], Pd.mk 21 [197, 199] [], Pd.mk 20 [197, 198] [], Pd.mk 19 [13, 197] [], Pd.mk 18 [196] [], Pd.mk 17 [193, 195] [], Pd.mk 16 [193, 194] [], Pd.mk 15 [11, 193] [], Pd.mk 14 [192] [], Pd.mk 13 [189, 191] [], Pd.mk 12 [189, 190] [], Pd.mk 11 [9, 189] [], Pd.mk 10 [188] [], Pd.mk 9 [185, 187] [], Pd.mk 8 [185, 186] [], Pd.mk 7 [7, 185] [], Pd.mk 6 [184] [], Pd.mk 5 [181, 183] [], Pd.mk 4 [181, 182] [], Pd.mk 3 [5, 181] [], Pd.mk 2 [180] [], Pd.mk 1 [179] [], Pd.mk 0 [3] []]) [206, 207, 208] rfl (pendS (es := [28, 29, 27, 27]) rfl rfl) rfl rfl rfl (callK_frz (same_ok hT [1, 3, 6] (j := jq) (j2 := jd1) (fun h => hjd1 (by subst h; simp [keys])) (ints_at [1, 3, 6] 3 false) (ints_at [1, 3, 6] 3 false) (by decide))) (fun r49 K50 h51 => ⟨?_, ?_⟩)
     ·rcases h51 with ⟨rfl, rfl⟩
      all_goals simp
     obtain ⟨rfl, rfl⟩ := h51
     try simp only [List.cons_append, List.nil_append]
     refine TD.norm (by simp only [List.set]; rfl) ?_
     refine TD.z [206, 209] rfl (q_not rfl rfl) ?_
     refine TD.z [206, 210] rfl (q_pickF rfl rfl rfl) ?_
     refine TD.z [211] rfl (q_move rfl rfl) ?_
     refine TD.y [20, 212] rfl (hq := q_load rfl rfl TySz.h (List.Mem.head _) rfl) (h := ?_)
     refine TD.cl (pend' := [Pd.mk 34 [20, 212] [(_, _)], Pd.mk 32 [206, 210] [], Pd.mk 31 [206, 209] [], Pd.mk 26 [201, 204] [], Pd.mk 25 [201, 203] [], Pd.mk 24 [201, 202] [], Pd.mk 23 [18, 201] [], Pd.mk 22 [200] [], Pd.mk 21 [197, 199] [], Pd.mk 20 [197, 198] [], Pd.mk 19 [13, 197] [], Pd.mk 18 [196] [], Pd.mk 17 [193, 195] [], Pd.mk 16 [193, 194] [], Pd.mk 15 [11, 193] [], Pd.mk 14 [192] [], Pd.mk 13 [189, 191] [], Pd.mk 12 [189, 190] [], Pd.mk 11 [9, 189] [], Pd.mk 10 [188] [], Pd.mk 9 [185, 187] [], Pd.mk 8 [185, 186] [], Pd.mk 7 [7, 185] [], Pd.mk 6 [184] [], Pd.mk 5 [181, 183] [], Pd.mk 4 [181, 182] [], Pd.mk 3 [5, 181] [], Pd.mk 2 [180] [], Pd.mk 1 [179] [], Pd.mk 0 [3] []]) [212] rfl (pendS (es := [33, 33]) rfl rfl) rfl rfl rfl (to_ok hT) (fun r52 K53 h54 => ⟨?_, ?_⟩)
     ·rcases h54 with ⟨rfl, rfl⟩
      all_goals simp
     obtain ⟨rfl, rfl⟩ := h54
     try simp only [List.cons_append, List.nil_append]
     refine TD.norm (by simp only [List.set]; rfl) ?_
     refine TD.z [212, 213, 214] rfl (q_neqFlat rfl rfl rfl rfl rfl FlatF.h EqG.h) ?_
     refine TD.z [212, 215] rfl (q_pickF rfl rfl rfl) ?_
     refine TD.z [216] rfl (q_move rfl rfl) ?_
     refine TD.z [21, 217] rfl (q_move rfl rfl) ?_
     refine TD.z [217, 218] rfl (q_cmp rfl rfl rfl rfl) ?_
     refine TD.z [217, 219] rfl (q_pickF rfl rfl rfl) ?_
     refine TD.z [220] rfl (q_move rfl rfl) ?_
     refine TD.z [22, 221] rfl (q_move rfl rfl) ?_
     refine TD.z [221, 222] rfl (q_cmp rfl rfl rfl rfl) ?_
     refine TD.z [221, 223] rfl (q_pickF rfl rfl rfl) ?_
     refine TD.z [224] rfl (q_move rfl rfl) ?_
     refine TD.z [23, 225] rfl (q_move rfl rfl) ?_
     refine TD.z [225, 226] rfl (q_not rfl rfl) ?_
     refine TD.z [225, 227] rfl (q_pickF rfl rfl rfl) ?_
     refine TD.z [228] rfl (q_move rfl rfl) ?_
     refine TD.z [24, 229] rfl (q_move rfl rfl) ?_
     refine TD.z [229, 230] rfl (q_cmp rfl rfl rfl rfl) ?_
     refine TD.z [229, 231] rfl (q_pickF rfl rfl rfl) ?_
     refine TD.z [232] rfl (q_move rfl rfl) ?_
     refine TD.z [25, 233] rfl (q_move rfl rfl) ?_
     refine TD.cnewR (pend' := [Pd.mk 55 [25, 233] [], Pd.mk 53 [229, 231] [], Pd.mk 52 [229, 230] [], Pd.mk 51 [24, 229] [], Pd.mk 50 [228] [], Pd.mk 49 [225, 227] [], Pd.mk 48 [225, 226] [], Pd.mk 47 [23, 225] [], Pd.mk 46 [224] [], Pd.mk 45 [221, 223] [], Pd.mk 44 [221, 222] [], Pd.mk 43 [22, 221] [], Pd.mk 42 [220] [], Pd.mk 41 [217, 219] [], Pd.mk 40 [217, 218] [], Pd.mk 39 [21, 217] [], Pd.mk 38 [216] [], Pd.mk 37 [212, 215] [], Pd.mk 36 [212, 213, 214] [], Pd.mk 34 [20, 212] [(_, _)], Pd.mk 32 [206, 210] [], Pd.mk 31 [206, 209] [], Pd.mk 26 [201, 204] [], Pd.mk 25 [201, 203] [], Pd.mk 24 [201, 202] [], Pd.mk 23 [18, 201] [], Pd.mk 22 [200] [], Pd.mk 21 [197, 199] [], Pd.mk 20 [197, 198] [], Pd.mk 19 [13, 197] [], Pd.mk 18 [196] [], Pd.mk 17 [193, 195] [], Pd.mk 16 [193, 194] [], Pd.mk 15 [11, 193] [], Pd.mk 14 [192] [], Pd.mk 13 [189, 191] [], Pd.mk 12 [189, 190] [], Pd.mk 11 [9, 189] [], Pd.mk 10 [188] [], Pd.mk 9 [185, 187] [], Pd.mk 8 [185, 186] [], Pd.mk 7 [7, 185] [], Pd.mk 6 [184] [], Pd.mk 5 [181, 183] [], Pd.mk 4 [181, 182] [], Pd.mk 3 [5, 181] [], Pd.mk 2 [180] [], Pd.mk 1 [179] [], Pd.mk 0 [3] []]) [233] rfl rfl rfl (pendS (es := [54]) rfl rfl) rfl (n_buildSlice (l := [_]) rfl SlEl.h TyZ.h (by decide) (by decide) rfl) (fun _ => putS rfl (by simp only [List.set]; rfl)) (by simp) fun jd2 hjd2 => ?_
     refine TD.cl (pend' := [Pd.mk 53 [229, 231] [], Pd.mk 52 [229, 230] [], Pd.mk 51 [24, 229] [], Pd.mk 50 [228] [], Pd.mk 49 [225, 227] [], Pd.mk 48 [225, 226] [], Pd.mk 47 [23, 225] [], Pd.mk 46 [224] [], Pd.mk 45 [221, 223] [], Pd.mk 44 [221, 222] [], Pd.mk 43 [22, 221] [], Pd.mk 42 [220] [], Pd.mk 41 [217, 219] [], Pd.mk 40 [217, 218] [], Pd.mk 39 [21, 217] [], Pd.mk 38 [216] [], Pd.mk 37 [212, 215] [], Pd.mk 36 [212, 213, 214] [], Pd.mk 34 [20, 212] [(_, _)], Pd.mk 32 [206, 210] [], Pd.mk 31 [206, 209] [], Pd.mk 26 [201, 204] [], Pd.mk 25 [201, 203] [], Pd.mk 24 [201, 202] [], Pd.mk 23 [18, 201] [], Pd.mk 22 [200] [], Pd.mk 21 [197, 199] [], Pd.mk 20 [197, 198] [], Pd.mk 19 [13, 197] [], Pd.mk 18 [196] [], Pd.mk 17 [193, 195] [], Pd.mk 16 [193, 194] [], Pd.mk 15 [11, 193] [], Pd.mk 14 [192] [], Pd.mk 13 [189, 191] [], Pd.mk 12 [189, 190] [], Pd.mk 11 [9, 189] [], Pd.mk 10 [188] [], Pd.mk 9 [185, 187] [], Pd.mk 8 [185, 186] [], Pd.mk 7 [7, 185] [], Pd.mk 6 [184] [], Pd.mk 5 [181, 183] [], Pd.mk 4 [181, 182] [], Pd.mk 3 [5, 181] [], Pd.mk 2 [180] [], Pd.mk 1 [179] [], Pd.mk 0 [3] []]) [233, 234, 235] rfl (pendS (es := [55, 56, 54, 54]) rfl rfl) rfl rfl rfl (callK_frz (same_ok hT [1] (j := jl) (j2 := jd2) (fun h => hjd2 (by subst h; simp [keys])) (ints_at [1] 3 false) (ints_at [1] 3 false) (by decide))) (fun r55 K56 h57 => ⟨?_, ?_⟩)
     ·rcases h57 with ⟨rfl, rfl⟩
      all_goals simp
     obtain ⟨rfl, rfl⟩ := h57
     try simp only [List.cons_append, List.nil_append]
     refine TD.norm (by simp only [List.set]; rfl) ?_
     refine TD.z [233, 236] rfl (q_not rfl rfl) ?_
     refine TD.z [233, 237] rfl (q_pickF rfl rfl rfl) ?_
     refine TD.z [238] rfl (q_move rfl rfl) ?_
     refine TD.z [26, 239] rfl (q_move rfl rfl) ?_
     refine TD.z [239, 240] rfl (q_cmp rfl rfl rfl rfl) ?_
     refine TD.z [239, 241] rfl (q_pickF rfl rfl rfl) ?_
     refine TD.z [242] rfl (q_move rfl rfl) ?_
     refine TD.z [27, 243] rfl (q_move rfl rfl) ?_
     refine TD.z [243, 244] rfl (q_not rfl rfl) ?_
     refine TD.z [243, 245] rfl (q_pickF rfl rfl rfl) ?_
     refine TD.z [246] rfl (q_move rfl rfl) ?_
     refine TD.z [28, 247] rfl (q_move rfl rfl) ?_
     refine TD.cnewR (pend' := [Pd.mk 69 [28, 247] [], Pd.mk 67 [243, 245] [], Pd.mk 66 [243, 244] [], Pd.mk 65 [27, 243] [], Pd.mk 64 [242] [], Pd.mk 63 [239, 241] [], Pd.mk 62 [239, 240] [], Pd.mk 61 [26, 239] [], Pd.mk 60 [238] [], Pd.mk 59 [233, 237] [], Pd.mk 58 [233, 236] [], Pd.mk 53 [229, 231] [], Pd.mk 52 [229, 230] [], Pd.mk 51 [24, 229] [], Pd.mk 50 [228] [], Pd.mk 49 [225, 227] [], Pd.mk 48 [225, 226] [], Pd.mk 47 [23, 225] [], Pd.mk 46 [224] [], Pd.mk 45 [221, 223] [], Pd.mk 44 [221, 222] [], Pd.mk 43 [22, 221] [], Pd.mk 42 [220] [], Pd.mk 41 [217, 219] [], Pd.mk 40 [217, 218] [], Pd.mk 39 [21, 217] [], Pd.mk 38 [216] [], Pd.mk 37 [212, 215] [], Pd.mk 36 [212, 213, 214] [], Pd.mk 34 [20, 212] [(_, _)], Pd.mk 32 [206, 210] [], Pd.mk 31 [206, 209] [], Pd.mk 26 [201, 204] [], Pd.mk 25 [201, 203] [], Pd.mk 24 [201, 202] [], Pd.mk 23 [18, 201] [], Pd.mk 22 [200] [], Pd.mk 21 [197, 199] [], Pd.mk 20 [197, 198] [], Pd.mk 19 [13, 197] [], Pd.mk 18 [196] [], Pd.mk 17 [193, 195] [], Pd.mk 16 [193, 194] [], Pd.mk 15 [11, 193] [], Pd.mk 14 [192] [], Pd.mk 13 [189, 191] [], Pd.mk 12 [189, 190] [], Pd.mk 11 [9, 189] [], Pd.mk 10 [188] [], Pd.mk 9 [185, 187] [], Pd.mk 8 [185, 186] [], Pd.mk 7 [7, 185] [], Pd.mk 6 [184] [], Pd.mk 5 [181, 183] [], Pd.mk 4 [181, 182] [], Pd.mk 3 [5, 181] [], Pd.mk 2 [180] [], Pd.mk 1 [179] [], Pd.mk 0 [3] []]) [247] rfl rfl rfl (pendS (es := [68]) rfl rfl) rfl (n_buildSlice (l := [_, _, _]) rfl SlEl.h TyZ.h (by decide) (by decide) rfl) (fun _ => putS rfl (by simp only [List.set]; rfl)) (by simp) fun jd3 hjd3 => ?_
     refine TD.cl (pend' := [Pd.mk 67 [243, 245] [], Pd.mk 66 [243, 244] [], Pd.mk 65 [27, 243] [], Pd.mk 64 [242] [], Pd.mk 63 [239, 241] [], Pd.mk 62 [239, 240] [], Pd.mk 61 [26, 239] [], Pd.mk 60 [238] [], Pd.mk 59 [233, 237] [], Pd.mk 58 [233, 236] [], Pd.mk 53 [229, 231] [], Pd.mk 52 [229, 230] [], Pd.mk 51 [24, 229] [], Pd.mk 50 [228] [], Pd.mk 49 [225, 227] [], Pd.mk 48 [225, 226] [], Pd.mk 47 [23, 225] [], Pd.mk 46 [224] [], Pd.mk 45 [221, 223] [], Pd.mk 44 [221, 222] [], Pd.mk 43 [22, 221] [], Pd.mk 42 [220] [], Pd.mk 41 [217, 219] [], Pd.mk 40 [217, 218] [], Pd.mk 39 [21, 217] [], Pd.mk 38 [216] [], Pd.mk 37 [212, 215] [], Pd.mk 36 [212, 213, 214] [], Pd.mk 34 [20, 212] [(_, _)], Pd.mk 32 [206, 210] [], Pd.mk 31 [206, 209] [], Pd.mk 26 [201, 204] [], Pd.mk 25 [201, 203] [], Pd.mk 24 [201, 202] [], Pd.mk 23 [18, 201] [], Pd.mk 22 [200] [], Pd.mk 21 [197, 199] [], Pd.mk 20 [197, 198] [], Pd.mk 19 [13, 197] [], Pd.mk 18 [196] [], Pd.mk 17 [193, 195] [], Pd.mk 16 [193, 194] [], Pd.mk 15 [11, 193] [], Pd.mk 14 [192] [], Pd.mk 13 [189, 191] [], Pd.mk 12 [189, 190] [], Pd.mk 11 [9, 189] [], Pd.mk 10 [188] [], Pd.mk 9 [185, 187] [], Pd.mk 8 [185, 186] [], Pd.mk 7 [7, 185] [], Pd.mk 6 [184] [], Pd.mk 5 [181, 183] [], Pd.mk 4 [181, 182] [], Pd.mk 3 [5, 181] [], Pd.mk 2 [180] [], Pd.mk 1 [179] [], Pd.mk 0 [3] []]) [247, 248, 249] rfl (pendS (es := [69, 70, 68, 68]) rfl rfl) rfl rfl rfl (callK_frz (same_ok hT [0, 1, 2] (j := jk) (j2 := jd3) (fun h => hjd3 (by subst h; simp [keys])) (ints_at [0, 1, 2] 3 false) (ints_at [0, 1, 2] 3 false) (by decide))) (fun r58 K59 h60 => ⟨?_, ?_⟩)
     ·rcases h60 with ⟨rfl, rfl⟩
      all_goals simp
     obtain ⟨rfl, rfl⟩ := h60
     try simp only [List.cons_append, List.nil_append]
     refine TD.norm (by simp only [List.set]; rfl) ?_
     refine TD.z [247, 250] rfl (q_not rfl rfl) ?_
     refine TD.z [247, 251] rfl (q_pickF rfl rfl rfl) ?_
     refine TD.fin ?_
     refine au [19, 12, 4] ?_
     refine TK.kp [(j1, _), (0, _), (1, _), (s, _), (e, _)] ?_
     refine au [5, 8] ?_
     refine TK.cl rfl rfl rfl rfl (askApi_ok hT (b := exB) (s := s) (e := e) hse ex_n1 ex_l1) ?_
     rintro r61 K62 ⟨rfl, rfl⟩
     refine au [] ?_
     rw [ex_askA]
     refine au [1, 10, 10, 10, 2, 2, 2, 3, 4, 5, 8] ?_
     refine TK.cl rfl rfl rfl rfl (lendApi_ok hT (b := exB) (s := s) (e := e) hse ex_n1 ex_l1) ?_
     rintro r64 K65 ⟨rfl, rfl⟩
     refine au [] ?_
     rw [ex_lend]
     refine au [1, 10, 10, 10, 2, 2, 2, 3, 4, 5, 8] ?_
     refine TK.cl rfl rfl rfl rfl (give_ok hT (b := exB) (s := s) (e := e) (n := 0) hse ex_n1 ex_l1) ?_
     rintro r67 K68 h69
     rcases h69 with ⟨hb0, rfl, rfl⟩ | ⟨hb0, g3, g2, rfl, rfl⟩
     ·refine au [] ?_
      exact absurd ex_giv hb0
     ·refine au [] ?_
      refine TK.nd fun hnd => ?_
      have hg3 : g3 ≠ g2 := fun h => by subst h; simp [keys] at hnd
      try rw [show (0 : Int).toNat = 0 from rfl]
      refine au [1, 10, 10, 22] ?_
      intro jg hjg
      refine au [17, 2, 3, 4, 5, 8] ?_
      refine TK.cl rfl rfl rfl rfl (statesApi_ok hT (b := giveB exB 0) (s := g3) (e := g2) hg3 ex_n3 ex_l3) ?_
      rintro r70 K71 ⟨rfl, rfl⟩
      refine au [] ?_
      rw [ex_g2]
      refine au [1, 10, 10, 2, 2, 3, 4, 5, 8] ?_
      refine TK.cl rfl rfl rfl rfl (narrow_ok tame (b := giveB exB 0) (s := g3) (e := g2) hg3 ex_n3 ex_l3) ?_
      rintro r73 K74 ⟨rfl, rfl⟩
      refine au [] ?_
      rw [ex_g3]
      refine au [1, 10, 10, 10, 10, 2, 2, 2, 2, 3, 4] ?_
      refine TK.kp [(j1, _), (0, _), (1, _), (s, _), (e, _), (jg, _)] ?_
      refine au [5, 8] ?_
      refine TK.cl rfl rfl rfl rfl (look_ok hT (b := exB) (s := s) (e := e) (n := 3) (sm := true) hse ex_n1 ex_l1) ?_
      rintro r76 K77 h78
      rcases h78 with ⟨hb0, rfl, rfl⟩ | ⟨hb0, l3, l2, rfl, rfl⟩
      ·refine au [] ?_
       exact absurd ex_lk hb0
      ·refine au [] ?_
       refine TK.nd fun hnd => ?_
       have hl3 : l3 ≠ l2 := fun h => by subst h; simp [keys] at hnd
       refine au [1, 10, 10, 17, 2, 3, 4, 5, 8] ?_
       refine TK.cl rfl rfl rfl rfl (statesApi_ok hT (b := lookB exB ⟨3, true⟩) (s := l3) (e := l2) hl3 ex_n4 ex_l4) ?_
       rintro r79 K80 ⟨rfl, rfl⟩
       refine au [] ?_
       rw [ex_lk2]
       refine au [1, 10, 10, 2, 2, 3, 4] ?_
       refine TK.kp [(j1, _), (0, _), (1, _), (s, _), (e, _), (jg, _)] ?_
       refine au [5, 8, 42] ?_
       refine TK.cl rfl rfl rfl rfl (hear_ok hT (b := exB) (s := s) (e := e) (x := exX) hse ex_n1 ex_l1 (by decide)) ?_
       rintro r82 K83 h84
       rcases h84 with ⟨hb0, rfl, rfl⟩ | ⟨hb0, h3, h2, rfl, rfl⟩
       ·refine au [] ?_
        exact absurd ex_hr hb0
       ·refine au [] ?_
        refine TK.nd fun hnd => ?_
        have hh3 : h3 ≠ h2 := fun h => by subst h; simp [keys] at hnd
        refine au [1, 10, 10, 17, 2, 3, 4, 5, 8] ?_
        refine TK.cl rfl rfl rfl rfl (statesApi_ok hT (b := hearB exB exX) (s := h3) (e := h2) hh3 ex_n5 ex_l5) ?_
        rintro r85 K86 ⟨rfl, rfl⟩
        refine au [] ?_
        rw [ex_hr2]
        refine au [1, 10, 10, 2, 2, 3, 4, 4, 5, 1, 6, 1, 1, 6, 25, 1, 1, 6, 25, 1, 1, 6, 25, 1, 1, 6, 25, 1, 1, 6, 25, 1, 1, 6, 25, 1, 1, 6, 25, 1, 1, 6, 25, 1, 1, 6, 25, 1, 1, 6, 25, 1, 1, 6, 25, 1, 1, 6, 25, 1, 1, 6, 25, 1, 1, 6, 25, 1, 1, 6, 25, 1, 1, 30, 25, 1, 1, 6, 25, 1, 1, 6, 25, 3, 19, 12, 4] ?_
        refine TK.kp [(j1, _), (0, _), (1, _), (s, _), (e, _)] ?_
        refine au [5] ?_
        refine TK.cl rfl rfl rfl rfl (one_ok2 hT) ?_
        rintro r88 K89 ⟨rfl, rfl⟩
        refine au [7, 17, 3, 4, 5, 8] ?_
        refine TK.cl rfl rfl rfl rfl (statesApi_ok hT (b := exB2) (s := s) (e := e) hse ex_n2 ex_l2) ?_
        rintro r91 K92 ⟨rfl, rfl⟩
        refine au [] ?_
        rw [ex2_st]
        refine au [1, 10, 10, 2, 2, 3, 4, 5, 8] ?_
        refine TK.cl rfl rfl rfl rfl (likely_ok hT (b := exB2) (s := s) (e := e) hse ex_n2 ex_l2) ?_
        rintro r94 K95 h96
        rcases h96 with ⟨hc0, rfl, rfl⟩ | ⟨hc0, hg0, rfl, rfl⟩ | ⟨hc0, hg0, jl2, rfl, rfl⟩
        ·refine au [] ?_
         exact absurd ex2_ck hc0
        ·refine au [] ?_
         exact absurd hg0 ex2_g
        ·refine au [] ?_
         rw [ex2_li]
         refine au [1, 10, 10, 10, 10, 2, 2, 2, 2, 3, 4, 5, 8] ?_
         refine TK.cl rfl rfl rfl rfl (clash_ok hT (b := exB2) (s := s) (e := e) hse ex_n2 ex_l2) ?_
         rintro r97 K98 h99
         rcases h99 with ⟨hc0, rfl, rfl⟩ | ⟨hc0, hg0, rfl, rfl⟩ | ⟨hc0, hg0, jk2, rfl, rfl⟩
         ·refine au [] ?_
          exact absurd ex2_ck hc0
         ·refine au [1, 10, 10, 2, 2, 3, 4, 5, 1, 6, 1, 1, 6, 26, 1, 1, 6, 26, 1, 1, 6, 26, 1, 1] ?_
          refine TK.newR rfl rfl rfl (n_buildSlice (l := [_, _]) rfl SlEl.h TyZ.h (by decide) (by decide) rfl) (fun _ => putS rfl (by simp only [List.set]; rfl)) fun jd4 hjd4 => ?_
          refine TK.cl rfl rfl rfl rfl (callK_frz (same_ok hT [1, 6] (j := jl2) (j2 := jd4) (fun h => hjd4 (by subst h; simp [keys])) (ints_at [1, 6] 3 false) (ints_at [1, 6] 3 false) (by decide))) ?_
          rintro r100 K101 ⟨rfl, rfl⟩
          refine au [26, 1, 1, 6, 26, 1, 1, 26, 1, 1, 28, 6, 26, 2, 3] ?_
          refine TK.rt hret [(0, _), (1, _)] ?_
          exact ⟨rfl, rfl⟩
         ·refine au [] ?_
          rw [ex2_t] at hg0; cases hg0
end Go.Vel
end
section
set_option linter.all false
set_option maxRecDepth 20000
set_option maxHeartbeats 60000000
namespace Go.Vel
open Go Go.Proofs
section
variable {P : Program}
theorem ok_text (s : String) : SysOk P (Extern.RuntimeError.text s) := trivial
instance (s : String) : SOk P (Extern.RuntimeError.text s) := ⟨ok_text s⟩
instance {α : Type} (a : α) : SOk P (pure a : Sem α) := ⟨trivial⟩
theorem ok_nothing (a : Array Value) : SysOk P (Extern.RuntimeError.nothing a) := trivial
theorem ok_bounds (a : Array Value) : SysOk P (Extern.RuntimeError.boundsError a) := by
 have hs : ∀ x, SysOk P (stuck x : Sem Value) := fun x => SOk.ok
 rcases a with ⟨_ | ⟨v, _ | ⟨w, l⟩⟩⟩
 ·exact hs _
 ·cases v <;> try exact hs _
  rename_i xs
  rcases xs with ⟨_ | ⟨v1, _ | ⟨v2, _ | ⟨v3, _ | ⟨v4, _ | ⟨v5, l⟩⟩⟩⟩⟩⟩ <;> try exact hs _
  ·cases v1 <;> try exact hs _
   cases v2 <;> try exact hs _
   cases v3 <;> try exact hs _
   cases v4 <;> try exact hs _
   show SysOk P (match (_ : Option String) with | some fmt => Extern.RuntimeError.text _ | none => stuck _)
   split
   ·exact ok_text _
   ·exact hs _
 ·cases v <;> exact hs _
theorem ok_gen {α : Type} (s : Sem α) (h : SysOk P s := by repeat' (first | assumption | exact SOk.ok | exact sysOk_halt _ | (refine sysOk_bind ?_ (fun _ => ?_)) | split | (intro _) | with_reducible exact trivial)) : SysOk P s := h
theorem ok_described (v : Value) : SysOk P (Extern.RuntimeError.described v) := by
 unfold Extern.RuntimeError.described
 repeat' (first | assumption | exact SOk.ok | exact sysOk_halt _ | (refine sysOk_bind ?_ (fun _ => ?_)) | split | (intro _) | with_reducible exact trivial)
instance (v : Value) : SOk P (Extern.RuntimeError.described v) := ⟨ok_described v⟩
theorem ok_pkgpath (v : TypeInfo) : SysOk P (Extern.RuntimeError.pkgpathOf v) := by
 unfold Extern.RuntimeError.pkgpathOf
 exact ok_gen _
instance (v : TypeInfo) : SOk P (Extern.RuntimeError.pkgpathOf v) := ⟨ok_pkgpath v⟩
theorem ok_unhash (a : Array Value) : SysOk P (Extern.RuntimeError.unhashableTypeError a) := by
 have hs : ∀ x, SysOk P (stuck x : Sem Value) := fun x => SOk.ok
 rcases a with ⟨_ | ⟨v, _ | ⟨w, l⟩⟩⟩
 ·exact hs _
 ·cases v <;> try exact hs _
  rename_i xs
  rcases xs with ⟨_ | ⟨t, _ | ⟨v2, l⟩⟩⟩
  ·exact hs _
  ·show SysOk P (Extern.RuntimeError.described t >>= _)
   exact ok_gen _
  ·exact hs _
 ·cases v <;> exact hs _
theorem ok_assert (a : Array Value) : SysOk P (Extern.RuntimeError.typeAssertionError a) := by
 unfold Extern.RuntimeError.typeAssertionError
 exact ok_gen _
theorem lookup_ok {l : List (String × (Array Value → Sem Value))} (h : ∀ x ∈ l, ∀ a, SysOk P (x.2 a)) {k : String} {e : Array Value → Sem Value} (he : l.lookup k = some e) (a : Array Value) : SysOk P (e a) := by
 induction l with
 | nil => cases he
 | cons x l ih =>
  obtain ⟨n, f⟩ := x
  rw [List.lookup_cons] at he
  split at he
  ·cases he; exact h _ List.mem_cons_self a
  ·exact ih (fun x hx => h x (List.mem_cons_of_mem _ hx)) he
theorem errors_ok : ∀ x ∈ Extern.RuntimeError.rows, ∀ a, SysOk P (x.2 a) := by
 intro x hx a
 unfold Extern.RuntimeError.rows at hx
 simp only [List.mem_cons, List.not_mem_nil, or_false] at hx
 rcases hx with rfl | rfl | rfl | rfl | rfl | rfl | rfl | rfl | rfl | rfl | rfl | rfl | rfl | rfl | rfl
 all_goals
  dsimp only
  first
  | exact ok_nothing a
  | exact ok_bounds a
  | exact ok_assert a
  | exact ok_unhash a
  | exact ok_text _
  | exact ok_gen _
theorem kind_ok {e : Array Value → Sem Value} (he : (Extern.ReflectliteType.rows.getLast?).map (·.2) = some e) (a : Array Value) : SysOk P (e a) := by
 unfold Extern.ReflectliteType.rows at he
 simp only [List.getLast?_cons_cons, List.getLast?_singleton, Option.map_some, Option.some.injEq] at he
 subst he
 exact ok_gen _
end
theorem nx0 : Extern.findNext Tryz.f0 = none := Option.isNone_iff_eq_none.1 (by kernel_rfl)
theorem fd0 : Extern.find Tryz.f0 = none := Option.isNone_iff_eq_none.1 (by kernel_rfl)
theorem nx1 : Extern.findNext Tryz.f1 = none := Option.isNone_iff_eq_none.1 (by kernel_rfl)
theorem fd1 : Extern.find Tryz.f1 = none := Option.isNone_iff_eq_none.1 (by kernel_rfl)
theorem nx138 : Extern.findNext Tryz.f138 = none := Option.isNone_iff_eq_none.1 (by kernel_rfl)
theorem fd138 : Extern.find Tryz.f138 = Extern.RuntimeError.rows.lookup Tryz.f138.name := by kernel_rfl
theorem nx139 : Extern.findNext Tryz.f139 = none := Option.isNone_iff_eq_none.1 (by kernel_rfl)
theorem fd139 : Extern.find Tryz.f139 = Extern.RuntimeError.rows.lookup Tryz.f139.name := by kernel_rfl
theorem nx140 : Extern.findNext Tryz.f140 = none := Option.isNone_iff_eq_none.1 (by kernel_rfl)
theorem fd140 : Extern.find Tryz.f140 = Extern.RuntimeError.rows.lookup Tryz.f140.name := by kernel_rfl
theorem nx141 : Extern.findNext Tryz.f141 = none := Option.isNone_iff_eq_none.1 (by kernel_rfl)
theorem fd141 : Extern.find Tryz.f141 = Extern.RuntimeError.rows.lookup Tryz.f141.name := by kernel_rfl
theorem nx142 : Extern.findNext Tryz.f142 = none := Option.isNone_iff_eq_none.1 (by kernel_rfl)
theorem fd142 : Extern.find Tryz.f142 = Extern.RuntimeError.rows.lookup Tryz.f142.name := by kernel_rfl
theorem nx143 : Extern.findNext Tryz.f143 = none := Option.isNone_iff_eq_none.1 (by kernel_rfl)
theorem fd143 : Extern.find Tryz.f143 = Extern.RuntimeError.rows.lookup Tryz.f143.name := by kernel_rfl
theorem nx144 : Extern.findNext Tryz.f144 = none := Option.isNone_iff_eq_none.1 (by kernel_rfl)
theorem fd144 : Extern.find Tryz.f144 = Extern.RuntimeError.rows.lookup Tryz.f144.name := by kernel_rfl
theorem nx145 : Extern.findNext Tryz.f145 = none := Option.isNone_iff_eq_none.1 (by kernel_rfl)
theorem fd145 : Extern.find Tryz.f145 = Extern.RuntimeError.rows.lookup Tryz.f145.name := by kernel_rfl
theorem nx146 : Extern.findNext Tryz.f146 = none := Option.isNone_iff_eq_none.1 (by kernel_rfl)
theorem fd146 : Extern.find Tryz.f146 = Extern.RuntimeError.rows.lookup Tryz.f146.name := by kernel_rfl
theorem nx147 : Extern.findNext Tryz.f147 = none := Option.isNone_iff_eq_none.1 (by kernel_rfl)
theorem fd147 : Extern.find Tryz.f147 = Extern.RuntimeError.rows.lookup Tryz.f147.name := by kernel_rfl
theorem nx148 : Extern.findNext Tryz.f148 = none := Option.isNone_iff_eq_none.1 (by kernel_rfl)
theorem fd148 : Extern.find Tryz.f148 = Extern.RuntimeError.rows.lookup Tryz.f148.name := by kernel_rfl
theorem nx149 : Extern.findNext Tryz.f149 = none := Option.isNone_iff_eq_none.1 (by kernel_rfl)
theorem fd149 : Extern.find Tryz.f149 = Extern.RuntimeError.rows.lookup Tryz.f149.name := by kernel_rfl
theorem nx150 : Extern.findNext Tryz.f150 = none := Option.isNone_iff_eq_none.1 (by kernel_rfl)
theorem fd150 : Extern.find Tryz.f150 = none := Option.isNone_iff_eq_none.1 (by kernel_rfl)
theorem nx151 : Extern.findNext Tryz.f151 = none := Option.isNone_iff_eq_none.1 (by kernel_rfl)
theorem fd151 : Extern.find Tryz.f151 = Extern.RuntimeError.rows.lookup Tryz.f151.name := by kernel_rfl
theorem nx152 : Extern.findNext Tryz.f152 = none := Option.isNone_iff_eq_none.1 (by kernel_rfl)
theorem fd152 : Extern.find Tryz.f152 = Extern.RuntimeError.rows.lookup Tryz.f152.name := by kernel_rfl
theorem nx154 : Extern.findNext Tryz.f154 = none := Option.isNone_iff_eq_none.1 (by kernel_rfl)
theorem fd154 : Extern.find Tryz.f154 = (Extern.ReflectliteType.rows.getLast?).map (·.2) := by kernel_rfl
theorem nx165 : Extern.findNext Tryz.f165 = none := Option.isNone_iff_eq_none.1 (by kernel_rfl)
theorem fd165 : Extern.find Tryz.f165 = none := Option.isNone_iff_eq_none.1 (by kernel_rfl)
theorem nx166 : Extern.findNext Tryz.f166 = none := Option.isNone_iff_eq_none.1 (by kernel_rfl)
theorem fd166 : Extern.find Tryz.f166 = none := Option.isNone_iff_eq_none.1 (by kernel_rfl)
theorem nx167 : Extern.findNext Tryz.f167 = none := Option.isNone_iff_eq_none.1 (by kernel_rfl)
theorem fd167 : Extern.find Tryz.f167 = none := Option.isNone_iff_eq_none.1 (by kernel_rfl)
theorem nx168 : Extern.findNext Tryz.f168 = none := Option.isNone_iff_eq_none.1 (by kernel_rfl)
theorem fd168 : Extern.find Tryz.f168 = none := Option.isNone_iff_eq_none.1 (by kernel_rfl)
theorem tameN : (Tryz.prog.funcs.all fun fn => !(fn.name == "runtime.NumGoroutine")) = true := by kernel_rfl
theorem tameB : ((List.range Tryz.prog.funcs.size).all fun i => [0, 1, 138, 139, 140, 141, 142, 143, 144, 145, 146, 147, 148, 149, 150, 151, 152, 154, 165, 166, 167, 168].elem i || ((Tryz.prog.funcs[i]?).map (·.body.isSome)).getD false) = true := by kernel_rfl
theorem tame : Tame Tryz.prog := fun f fn hf => by
 refine ⟨by simpa using Array.all_eq_true_iff_forall_mem.1 tameN fn (Array.mem_of_getElem? hf), fun hb => ?_⟩
 have hlt := (Array.getElem?_eq_some_iff.1 hf).1
 have h := List.all_eq_true.1 tameB f (List.mem_range.2 hlt)
 rw [hf, Option.map_some, Option.getD_some] at h
 rw [Option.isNone_iff_eq_none] at hb
 rw [hb] at h
 simp only [Option.isSome_none, Bool.or_false, List.elem_eq_mem, decide_eq_true_eq, List.mem_cons, List.not_mem_nil, or_false] at h
 rcases h with rfl | rfl | rfl | rfl | rfl | rfl | rfl | rfl | rfl | rfl | rfl | rfl | rfl | rfl | rfl | rfl | rfl | rfl | rfl | rfl | rfl | rfl
 ·obtain rfl : fn = Tryz.f0 := (Option.some.inj (Tryz.func0.symm.trans hf)).symm
  exact ⟨nx0, fun e he => by rw [fd0] at he; cases he⟩
 ·obtain rfl : fn = Tryz.f1 := (Option.some.inj (Tryz.func1.symm.trans hf)).symm
  exact ⟨nx1, fun e he => by rw [fd1] at he; cases he⟩
 ·obtain rfl : fn = Tryz.f138 := (Option.some.inj (Tryz.func138.symm.trans hf)).symm
  exact ⟨nx138, fun e he args => by rw [fd138] at he; exact lookup_ok errors_ok he args⟩
 ·obtain rfl : fn = Tryz.f139 := (Option.some.inj (Tryz.func139.symm.trans hf)).symm
  exact ⟨nx139, fun e he args => by rw [fd139] at he; exact lookup_ok errors_ok he args⟩
 ·obtain rfl : fn = Tryz.f140 := (Option.some.inj (Tryz.func140.symm.trans hf)).symm
  exact ⟨nx140, fun e he args => by rw [fd140] at he; exact lookup_ok errors_ok he args⟩
 ·obtain rfl : fn = Tryz.f141 := (Option.some.inj (Tryz.func141.symm.trans hf)).symm
  exact ⟨nx141, fun e he args => by rw [fd141] at he; exact lookup_ok errors_ok he args⟩
 ·obtain rfl : fn = Tryz.f142 := (Option.some.inj (Tryz.func142.symm.trans hf)).symm
  exact ⟨nx142, fun e he args => by rw [fd142] at he; exact lookup_ok errors_ok he args⟩
 ·obtain rfl : fn = Tryz.f143 := (Option.some.inj (Tryz.func143.symm.trans hf)).symm
  exact ⟨nx143, fun e he args => by rw [fd143] at he; exact lookup_ok errors_ok he args⟩
 ·obtain rfl : fn = Tryz.f144 := (Option.some.inj (Tryz.func144.symm.trans hf)).symm
  exact ⟨nx144, fun e he args => by rw [fd144] at he; exact lookup_ok errors_ok he args⟩
 ·obtain rfl : fn = Tryz.f145 := (Option.some.inj (Tryz.func145.symm.trans hf)).symm
  exact ⟨nx145, fun e he args => by rw [fd145] at he; exact lookup_ok errors_ok he args⟩
 ·obtain rfl : fn = Tryz.f146 := (Option.some.inj (Tryz.func146.symm.trans hf)).symm
  exact ⟨nx146, fun e he args => by rw [fd146] at he; exact lookup_ok errors_ok he args⟩
 ·obtain rfl : fn = Tryz.f147 := (Option.some.inj (Tryz.func147.symm.trans hf)).symm
  exact ⟨nx147, fun e he args => by rw [fd147] at he; exact lookup_ok errors_ok he args⟩
 ·obtain rfl : fn = Tryz.f148 := (Option.some.inj (Tryz.func148.symm.trans hf)).symm
  exact ⟨nx148, fun e he args => by rw [fd148] at he; exact lookup_ok errors_ok he args⟩
 ·obtain rfl : fn = Tryz.f149 := (Option.some.inj (Tryz.func149.symm.trans hf)).symm
  exact ⟨nx149, fun e he args => by rw [fd149] at he; exact lookup_ok errors_ok he args⟩
 ·obtain rfl : fn = Tryz.f150 := (Option.some.inj (Tryz.func150.symm.trans hf)).symm
  exact ⟨nx150, fun e he => by rw [fd150] at he; cases he⟩
 ·obtain rfl : fn = Tryz.f151 := (Option.some.inj (Tryz.func151.symm.trans hf)).symm
  exact ⟨nx151, fun e he args => by rw [fd151] at he; exact lookup_ok errors_ok he args⟩
 ·obtain rfl : fn = Tryz.f152 := (Option.some.inj (Tryz.func152.symm.trans hf)).symm
  exact ⟨nx152, fun e he args => by rw [fd152] at he; exact lookup_ok errors_ok he args⟩
 ·obtain rfl : fn = Tryz.f154 := (Option.some.inj (Tryz.func154.symm.trans hf)).symm
  exact ⟨nx154, fun e he args => by rw [fd154] at he; exact kind_ok he args⟩
 ·obtain rfl : fn = Tryz.f165 := (Option.some.inj (Tryz.func165.symm.trans hf)).symm
  exact ⟨nx165, fun e he => by rw [fd165] at he; cases he⟩
 ·obtain rfl : fn = Tryz.f166 := (Option.some.inj (Tryz.func166.symm.trans hf)).symm
  exact ⟨nx166, fun e he => by rw [fd166] at he; cases he⟩
 ·obtain rfl : fn = Tryz.f167 := (Option.some.inj (Tryz.func167.symm.trans hf)).symm
  exact ⟨nx167, fun e he => by rw [fd167] at he; cases he⟩
 ·obtain rfl : fn = Tryz.f168 := (Option.some.inj (Tryz.func168.symm.trans hf)).symm
  exact ⟨nx168, fun e he => by rw [fd168] at he; cases he⟩
end Go.Vel
end
section
set_option linter.all false
set_option maxRecDepth 20000
set_option maxHeartbeats 60000000
namespace Go.Vel
open Go Go.Proofs Go.ChangeShapes Go.WideShapes Go.ChangeAt Go.RowKit
def tblLaid : List (String × DataW Unit) := [("velarium/seeker.checks", Go.Proofs.YtpdioiojfgknbaaGreatDoor.Rows.laid_velarium_seeker_checks), ("velarium/seeker.says", Go.Proofs.YtpdioiojfgknbaaGreatDoor.Rows.laid_velarium_seeker_says)]
/-- A table of three functions, read. -/
theorem tbl3 {P : Program} {W : World} {n : String} {d : DataW Unit} {g0 t0 e0 : Nat} {ps rs : Array TypeId} {va : Bool} {b1 b2 b3 : UInt8} {r1 r2 r3 : List UInt8} {f1 f2 f3 : Nat} (h : funcsAt P W n d)
  (hg0 : P.globalNamed n = some g0) (ht0 : (P.globals[g0]?).map (·.type) = some t0) (hu : P.underlying t0 = some (.array 3 e0)) (he : P.underlying e0 = some (.func ps rs va)) (hc : P.cellsOf e0 = 1) (hc3 : P.cellsOf t0 = 3)
  (hd : d.funcsOut = .agg [.held (b1 :: r1), .held (b2 :: r2), .held (b3 :: r3)])
  (q1 : ((List.range P.funcs.size).filter fun f => (P.funcs[f]?).any (·.name.toUTF8.data.toList == b1 :: r1)) = [f1])
  (q2 : ((List.range P.funcs.size).filter fun f => (P.funcs[f]?).any (·.name.toUTF8.data.toList == b2 :: r2)) = [f2])
  (q3 : ((List.range P.funcs.size).filter fun f => (P.funcs[f]?).any (·.name.toUTF8.data.toList == b3 :: r3)) = [f3]) :
  ∃ cur e fz, W.heap[g0]? = some (.cells cur e fz) ∧ cur[0]? = some (.func (.func f1) #[] #[]) ∧ cur[1]? = some (.func (.func f2) #[] #[]) ∧ cur[2]? = some (.func (.func f3) #[] #[]) := by
 obtain ⟨g, t, cs, fuel, p, hg, ht, hv, htr⟩ := h
 obtain rfl := Option.some.inj (hg0.symm.trans hg)
 obtain rfl := Option.some.inj (ht0.symm.trans ht)
 rw [hd] at htr
 obtain ⟨xs, m, rfl, hx, hlen, hn, hel⟩ := DataW.trod_array hu htr
 match xs, hn with
 | [x0, x1, x2], _ =>
 simp only [Prod.mk.injEq, DataW.agg.injEq, List.map_cons, List.map_nil, List.cons.injEq, and_true] at hx
 obtain ⟨⟨e1, e2, e3⟩, _⟩ := hx
 rw [hc3] at hlen
 obtain ⟨l⟩ := cs
 match l, hlen with
 | [c0, c1, c2], _ =>
 have h0 := hel 0 (by decide)
 have h1 := hel 1 (by decide)
 have h2 := hel 2 (by decide)
 rw [hc] at h0 h1 h2
 obtain ⟨x0, y0⟩ := x0
 obtain ⟨x1, y1⟩ := x1
 obtain ⟨x2, y2⟩ := x2
 dsimp only at e1 e2 e3
 subst e1 e2 e3
 obtain rfl := func_of_trod (v := c0) he q1 h0
 obtain rfl := func_of_trod (v := c1) he q2 h1
 obtain rfl := func_of_trod (v := c2) he q3 h2
 have k0 := World.var?_cell hg hv 0
 have k1 := World.var?_cell hg hv 1
 have k2 := World.var?_cell hg hv 2
 simp only [List.getElem?_toArray, List.getElem?_cons_zero, List.getElem?_cons_succ] at k0 k1 k2
 simp only [World.cell?] at k0 k1 k2
 cases hh : W.heap[g0]? with
 | none => rw [hh] at k0; cases k0
 | some o =>
  cases o with
  | cells cur e fz => rw [hh] at k0 k1 k2; exact ⟨cur, e, fz, rfl, by simpa using k0, by simpa using k1, by simpa using k2⟩
  | _ => rw [hh] at k0; cases k0

set_option maxRecDepth 100000 in
theorem of_laid {W : World} (h : laidMetH Tryz.prog tblLaid W) : (∃ cur e fz, W.heap[0]? = some (.cells cur e fz) ∧ cur[0]? = some (.func (.func 155) #[] #[]) ∧ cur[1]? = some (.func (.func 156) #[] #[]) ∧ cur[2]? = some (.func (.func 157) #[] #[])) ∧
  ∃ cur e fz, W.heap[1]? = some (.cells cur e fz) ∧ cur[0]? = some (.func (.func 163) #[] #[]) ∧ cur[1]? = some (.func (.func 153) #[] #[]) ∧ cur[2]? = some (.func (.func 164) #[] #[]) :=
 ⟨tbl3 (h.funcs (n := "velarium/seeker.checks") (List.mem_cons_self ..)) (t0 := 149) (e0 := 148) (by kernel_rfl) (by kernel_rfl) Tryz.underlying149 Tryz.underlying148 (by kernel_rfl) (by kernel_rfl) rfl (by kernel_rfl) (by kernel_rfl) (by kernel_rfl),
  tbl3 (h.funcs (n := "velarium/seeker.says") (List.mem_cons_of_mem _ (List.mem_cons_self ..))) (t0 := 161) (e0 := 160) (by kernel_rfl) (by kernel_rfl) Tryz.underlying161 Tryz.underlying160 (by kernel_rfl) (by kernel_rfl) rfl (by kernel_rfl) (by kernel_rfl) (by kernel_rfl)⟩
end Go.Vel
end
section
set_option linter.all false
set_option maxRecDepth 20000
set_option maxHeartbeats 60000000
namespace Go.Vel
open Go Go.Proofs Go.ChangeShapes Go.WideShapes Go.ChangeAt Go.RowKit
theorem choose_list {α : Type} {p : Nat → α → Prop} : ∀ n, (∀ i, i < n → ∃ z, p i z) → ∃ zs : List α, zs.length = n ∧ ∀ (i : Nat) z, zs[i]? = some z → p i z
 | 0, _ => ⟨[], rfl, fun i z h => by simp at h⟩
 | n + 1, h => by
  obtain ⟨zs, h1, h2⟩ := choose_list n fun i hi => h i (by omega)
  obtain ⟨z, hz⟩ := h n (by omega)
  refine ⟨zs ++ [z], by simp [h1], fun i y hy => ?_⟩
  rcases Nat.lt_or_ge i n with hi | hi
  ·rw [List.getElem?_append_left (by omega)] at hy
   exact h2 i y hy
  ·rw [List.getElem?_append_right (by omega), h1] at hy
   rcases Nat.eq_zero_or_pos (i - n) with h0 | h0
   ·rw [h0] at hy; cases hy
    obtain rfl : i = n := by omega
    exact hz
   ·rw [List.getElem?_eq_none (by simp; omega)] at hy; cases hy
/-- A slice of things of several cells each, opened. -/
theorem open_list {H : Type} {enc : TypeId × Value → H} {P : Program} {W : World} {sp : Nat → Bool} {held : Bool} {α : Type} {vals : α → List Value} {c fuel : Nat} {t e : TypeId} {cs : List Value} {x : DataW H × List MemPlace} (hu : P.underlying t = some (.slice e)) (hce : P.cellsOf e = c) (hpos : 0 < c)
  (hdec : ∀ (m : Nat) cs x, DataW.trod enc P W 0 sp held m e cs = some x → ∃ z, cs = vals z) (h : DataW.trod enc P W 0 sp held fuel t cs = some x) :
  ∃ (zs : List α) (b : Option Addr) (cap : Nat), cs = [.slice b zs.length cap] ∧ zs.length ≤ cap ∧ (0 < zs.length → ∃ blk off cur e' fz, b = some ⟨blk, off, none⟩ ∧ W.heap[blk]? = some (.cells cur e' fz) ∧
   ∀ (i : Nat) z (j : Nat), zs[i]? = some z → j < c → cur[off + (i * c + j)]? = (vals z)[j]?) := by
 rcases DataW.trod_slice hu h with ⟨rfl, _⟩ | ⟨a, len, cap, elems, rest, n, _, rfl, _, _, hlc, _, hel, hat, _, _⟩
 ·exact ⟨[], none, 0, rfl, Nat.le_refl _, fun h => absurd h (by simp)⟩
 ·obtain ⟨zs, hz1, hz2⟩ := choose_list (p := fun i z => W.cells? 0 (a.add (i * P.cellsOf e)) (P.cellsOf e) = some (vals z)) len fun i hi => by
   have := hat i hi
   rw [List.getElem?_eq_getElem (by omega), Option.bind_eq_some_iff] at this
   obtain ⟨cs', h1, h2⟩ := this
   obtain ⟨z, rfl⟩ := hdec _ _ _ h2
   exact ⟨z, h1⟩
  refine ⟨zs, some a, cap, by rw [hz1], by omega, fun hp => ?_⟩
  have hcell : ∀ (i : Nat) z (j : Nat), zs[i]? = some z → j < c → W.cell? ((a.add (i * c)).add j) = (vals z)[j]? := fun i z j hi hj => by
   have := hz2 i z hi
   rw [hce] at this
   exact (World.cells?_some this).2.2 j hj
  have hlen : ∀ (i : Nat) z, zs[i]? = some z → (vals z).length = c := fun i z hi => by
   have := hz2 i z hi
   rw [hce] at this
   exact (World.cells?_some this).2.1
  obtain ⟨z0, hz0⟩ : ∃ z, zs[0]? = some z := ⟨_, List.getElem?_eq_getElem hp⟩
  have h00 := hcell 0 z0 0 hz0 hpos
  rw [List.getElem?_eq_getElem (by rw [hlen 0 z0 hz0]; exact hpos)] at h00
  have hspot : a.spot = none := by simpa [Addr.add] using World.cell?_spot h00
  obtain ⟨blk, off, spot⟩ := a
  dsimp only at hspot
  subst hspot
  have hadd : ∀ n, (⟨blk, off, none⟩ : Addr).add n = ⟨blk, off + n, none⟩ := fun n => by
   unfold Addr.add
   split
   ·rename_i h; subst h; rfl
   ·rfl
  have hadd2 : ∀ n m, ((⟨blk, off, none⟩ : Addr).add n).add m = ⟨blk, off + (n + m), none⟩ := fun n m => by
   rw [hadd]
   unfold Addr.add
   split
   ·rename_i h; subst h; simp
   ·simp [Nat.add_assoc]
  rw [hadd2] at h00
  unfold World.cell? at h00
  dsimp only at h00
  cases hh : W.heap[blk]? with
  | none => rw [hh] at h00; cases h00
  | some o =>
   cases o with
   | cells cur e' fz =>
    refine ⟨blk, off, cur, e', fz, rfl, hh, fun i z j hi hj => ?_⟩
    have := hcell i z j hi hj
    rw [hadd2] at this
    unfold World.cell? at this
    dsimp only at this
    rw [hh] at this
    simpa using this
   | _ => rw [hh] at h00; cases h00
end Go.Vel
end
section
set_option linter.all false
set_option maxRecDepth 20000
set_option maxHeartbeats 60000000
namespace Go.Vel
open Go Go.Proofs Go.ChangeShapes Go.WideShapes Go.ChangeAt Go.RowKit
def saysV (x : Says) : List Value := [.string x.name, .int .i64 x.frm, .int .i64 x.til, .int .i64 x.says, .bool x.glass]
def seenV (x : Seen) : List Value := [.int .i64 x.step, .bool x.seam]
theorem list5 {α : Type} {l : List α} (h : l.length = 5) : ∃ a b c d e, l = [a, b, c, d, e] := by
 match l, h with
 | [a, b, c, d, e], _ => exact ⟨a, b, c, d, e, rfl⟩
theorem list2 {α : Type} {l : List α} (h : l.length = 2) : ∃ a b, l = [a, b] := by
 match l, h with
 | [a, b], _ => exact ⟨a, b, rfl⟩
theorem list6 {α : Type} {l : List α} (h : l.length = 6) : ∃ a b c d e f, l = [a, b, c, d, e, f] := by
 match l, h with
 | [a, b, c, d, e, f], _ => exact ⟨a, b, c, d, e, f, rfl⟩
section
variable {H : Type} {enc : TypeId × Value → H} {W : World} {sp : Nat → Bool} {held : Bool}
theorem some_of {α : Type} {xs : List α} {n i : Nat} (h : xs.length = n) (hi : i < n) : ∃ y, xs[i]? = some y := ⟨_, List.getElem?_eq_getElem (h ▸ hi)⟩
theorem one_field {P : Program} {n : Nat} {t : TypeId} {c : Value} {y : Option (DataW H × List MemPlace)} {z : DataW H × List MemPlace} {l : List Value} (h : DataW.trod enc P W 0 sp held n t l = y) (hy : y = some z) (hl : l = [c]) : DataW.trod enc P W 0 sp held n t [c] = some z := by rw [← hl, h, hy]
theorem dec_says (m : Nat) (cs : List Value) (x : DataW H × List MemPlace) (h : DataW.trod enc Tryz.prog W 0 sp held m 30 cs = some x) : ∃ z, cs = saysV z := by
 obtain ⟨xs, n, rfl, hx, hlen, hxs, hf⟩ := DataW.trod_struct Tryz.underlying30 h
 have hlen' : cs.length = 5 := hlen.trans (by kernel_rfl)
 have hxs' : xs.length = 5 := hxs
 have c9 : Tryz.prog.cellsOf 9 = 1 := by kernel_rfl
 have c3 : Tryz.prog.cellsOf 3 = 1 := by kernel_rfl
 have c56 : Tryz.prog.cellsOf 28 = 1 := by kernel_rfl
 have c4 : Tryz.prog.cellsOf 4 = 1 := by kernel_rfl
 obtain ⟨v0, v1, v2, v3, v4, rfl⟩ := list5 hlen'
 obtain ⟨y0, q0⟩ := some_of hxs' (i := 0) (by decide)
 obtain ⟨y1, q1⟩ := some_of hxs' (i := 1) (by decide)
 obtain ⟨y2, q2⟩ := some_of hxs' (i := 2) (by decide)
 obtain ⟨y3, q3⟩ := some_of hxs' (i := 3) (by decide)
 obtain ⟨y4, q4⟩ := some_of hxs' (i := 4) (by decide)
 obtain ⟨s, e0, _⟩ := DataW.trod_string Tryz.underlying9 (one_field (c := v0) (hf 0 _ rfl) q0 (by show List.take (Tryz.prog.cellsOf 9) (List.drop 0 _) = _; rw [c9]; rfl))
 obtain ⟨a, e1, _⟩ := DataW.trod_int Tryz.underlying3 (one_field (c := v1) (hf 1 _ rfl) q1 (by show List.take (Tryz.prog.cellsOf 3) (List.drop 1 _) = _; rw [c3]; rfl))
 obtain ⟨b, e2, _⟩ := DataW.trod_int Tryz.underlying3 (one_field (c := v2) (hf 2 _ rfl) q2 (by show List.take (Tryz.prog.cellsOf 3) (List.drop 2 _) = _; rw [c3]; rfl))
 obtain ⟨d, e3, _⟩ := DataW.trod_int Tryz.underlying28 (one_field (c := v3) (hf 3 _ rfl) q3 (by show List.take (Tryz.prog.cellsOf 28) (List.drop 3 _) = _; rw [c56]; rfl))
 obtain ⟨g, e4, _⟩ := DataW.trod_bool Tryz.underlying4 (one_field (c := v4) (hf 4 _ rfl) q4 (by show List.take (Tryz.prog.cellsOf 4) (List.drop 4 _) = _; rw [c4]; rfl))
 cases e0; cases e1; cases e2; cases e3; cases e4
 exact ⟨⟨s, a, b, d, g⟩, rfl⟩
theorem dec_seen (m : Nat) (cs : List Value) (x : DataW H × List MemPlace) (h : DataW.trod enc Tryz.prog W 0 sp held m 42 cs = some x) : ∃ z, cs = seenV z := by
 obtain ⟨xs, n, rfl, hx, hlen, hxs, hf⟩ := DataW.trod_struct Tryz.underlying42 h
 have hlen' : cs.length = 2 := hlen.trans (by kernel_rfl)
 have hxs' : xs.length = 2 := hxs
 have c3 : Tryz.prog.cellsOf 3 = 1 := by kernel_rfl
 have c4 : Tryz.prog.cellsOf 4 = 1 := by kernel_rfl
 obtain ⟨v0, v1, rfl⟩ := list2 hlen'
 obtain ⟨y0, q0⟩ := some_of hxs' (i := 0) (by decide)
 obtain ⟨y1, q1⟩ := some_of hxs' (i := 1) (by decide)
 obtain ⟨s, e0, _⟩ := DataW.trod_int Tryz.underlying3 (one_field (c := v0) (hf 0 _ rfl) q0 (by show List.take (Tryz.prog.cellsOf 3) (List.drop 0 _) = _; rw [c3]; rfl))
 obtain ⟨g, e1, _⟩ := DataW.trod_bool Tryz.underlying4 (one_field (c := v1) (hf 1 _ rfl) q1 (by show List.take (Tryz.prog.cellsOf 4) (List.drop 1 _) = _; rw [c4]; rfl))
 cases e0; cases e1
 exact ⟨⟨s, g⟩, rfl⟩
theorem dec_int (m : Nat) (cs : List Value) (x : DataW H × List MemPlace) (h : DataW.trod enc Tryz.prog W 0 sp held m 3 cs = some x) : ∃ z : Int, cs = [.int .i64 z] := by
 obtain ⟨s, e0, _⟩ := DataW.trod_int Tryz.underlying3 h
 exact ⟨s, e0⟩
/-- What is known of a slice that came in. -/
def SlIn (W : World) {α : Type} (vals : α → List Value) (c : Nat) (zs : List α) (v : Value) : Prop := ∃ (b : Option Addr) (cap : Nat), v = .slice b zs.length cap ∧ zs.length ≤ cap ∧ (0 < zs.length → ∃ blk off cur e' fz, b = some ⟨blk, off, none⟩ ∧ W.heap[blk]? = some (.cells cur e' fz) ∧
   ∀ (i : Nat) z (j : Nat), zs[i]? = some z → j < c → cur[off + (i * c + j)]? = (vals z)[j]?)
theorem open_book {v : Value} {d : DataW H} {p : List MemPlace} (hv : ∃ cs, v = .agg cs) (h : DataW.Trod enc Tryz.prog W 0 sp held 27 v d p) : ∃ (b : Bk) (v1 v2 : Value), v = .agg #[.int .i64 b.steps, .int .i64 b.wrong, .int .i64 b.low, .int .i64 b.high, v1, v2] ∧ SlIn W saysV 5 b.seekers v1 ∧ SlIn W seenV 2 b.seen v2 := by
 obtain ⟨ca, rfl⟩ := hv
 obtain ⟨fuel, h⟩ := h
 generalize hcs : (Value.agg ca).cells.toList = cs at h
 obtain ⟨xs, n, rfl, hx, hlen, hxs, hf⟩ := DataW.trod_struct Tryz.underlying27 h
 have hlen' : cs.length = 6 := hlen.trans (by kernel_rfl)
 have hxs' : xs.length = 5 := hxs
 have c3 : Tryz.prog.cellsOf 3 = 1 := by kernel_rfl
 have c23 : Tryz.prog.cellsOf 23 = 2 := by kernel_rfl
 have c24 : Tryz.prog.cellsOf 24 = 1 := by kernel_rfl
 have c25 : Tryz.prog.cellsOf 25 = 1 := by kernel_rfl
 obtain ⟨v0, v1, v2, v3, v4, v5, rfl⟩ := list6 hlen'
 obtain ⟨y0, q0⟩ := some_of hxs' (i := 0) (by decide)
 obtain ⟨y1, q1⟩ := some_of hxs' (i := 1) (by decide)
 obtain ⟨y2, q2⟩ := some_of hxs' (i := 2) (by decide)
 obtain ⟨y3, q3⟩ := some_of hxs' (i := 3) (by decide)
 obtain ⟨y4, q4⟩ := some_of hxs' (i := 4) (by decide)
 obtain ⟨a, e0, _⟩ := DataW.trod_int Tryz.underlying3 (one_field (c := v0) (hf 0 _ rfl) q0 (by show List.take (Tryz.prog.cellsOf 3) (List.drop 0 _) = _; rw [c3]; rfl))
 obtain ⟨b, e1, _⟩ := DataW.trod_int Tryz.underlying3 (one_field (c := v1) (hf 1 _ rfl) q1 (by show List.take (Tryz.prog.cellsOf 3) (List.drop 1 _) = _; rw [c3]; rfl))
 have h2 : DataW.trod enc Tryz.prog W 0 sp held n 23 [v2, v3] = some y2 := by rw [← q2, ← hf 2 _ rfl]; show _ = DataW.trod enc Tryz.prog W 0 sp held n 23 (List.take (Tryz.prog.cellsOf 23) (List.drop 2 _)); rw [c23]; rfl
 obtain ⟨zs, n2, rfl, hz, _, hzs, hg⟩ := DataW.trod_struct Tryz.underlying23 h2
 have hzs' : zs.length = 2 := hzs
 obtain ⟨z0, p0⟩ := some_of hzs' (i := 0) (by decide)
 obtain ⟨z1, p1⟩ := some_of hzs' (i := 1) (by decide)
 obtain ⟨lo, e2, _⟩ := DataW.trod_int Tryz.underlying3 (one_field (c := v2) (hg 0 _ rfl) p0 (by show List.take (Tryz.prog.cellsOf 3) (List.drop 0 _) = _; rw [c3]; rfl))
 obtain ⟨hi, e3, _⟩ := DataW.trod_int Tryz.underlying3 (one_field (c := v3) (hg 1 _ rfl) p1 (by show List.take (Tryz.prog.cellsOf 3) (List.drop 1 _) = _; rw [c3]; rfl))
 obtain ⟨ss, b4, cap4, e4, l4, r4⟩ := open_list (vals := saysV) (c := 5) Tryz.underlying24 (by kernel_rfl) (by decide) dec_says (one_field (c := v4) (hf 3 _ rfl) q3 (by show List.take (Tryz.prog.cellsOf 24) (List.drop 4 _) = _; rw [c24]; rfl))
 obtain ⟨ns, b5, cap5, e5, l5, r5⟩ := open_list (vals := seenV) (c := 2) Tryz.underlying25 (by kernel_rfl) (by decide) dec_seen (one_field (c := v5) (hf 4 _ rfl) q4 (by show List.take (Tryz.prog.cellsOf 25) (List.drop 5 _) = _; rw [c25]; rfl))
 cases e0; cases e1; cases e2; cases e3; cases e4; cases e5
 refine ⟨⟨a, b, lo, hi, ss, ns⟩, _, _, ?_, ⟨b4, cap4, rfl, l4, r4⟩, ⟨b5, cap5, rfl, l5, r5⟩⟩
 have : ca.toList = _ := hcs
 rw [← Array.toArray_toList (xs := ca), this]
end
end Go.Vel
end
section
set_option linter.all false
set_option maxRecDepth 20000
set_option maxHeartbeats 60000000
namespace Go.Vel
open Go Go.Conc Go.Proofs
def locV : Value → Loc3
 | .slice (some a) _ _ => ⟨a.block, a.off, 0⟩
 | _ => ⟨0, 0, 0⟩
/-- All that there is, to be read alone. -/
def holdAll (W : World) : Hp := fun b => (W.heap[b]?).map fun o => (false, o)
theorem holdAll_fits (W : World) : Fits (holdAll W) W := fun b rw' o h => by
 unfold holdAll at h
 obtain ⟨x, h1, h2⟩ := Option.map_eq_some_iff.1 h
 cases h2
 exact h1
theorem holdAll_get {W : World} {b : Nat} {o : Obj} (h : W.heap[b]? = some o) : holdAll W b = some (false, o) := by unfold holdAll; rw [h]; rfl
theorem flat_get {α : Type} {f : α → List AV} {c : Nat} (hc : ∀ x, (f x).length = c) : ∀ (zs : List α) (j : Nat) a, (zs.flatMap f)[j]? = some a → ∃ i z jj, zs[i]? = some z ∧ jj < c ∧ j = i * c + jj ∧ (f z)[jj]? = some a
 | [], j, a, h => by simp at h
 | z :: zs, j, a, h => by
  rw [List.flatMap_cons] at h
  rcases Nat.lt_or_ge j c with hj | hj
  ·rw [List.getElem?_append_left (by rw [hc]; exact hj)] at h
   exact ⟨0, z, j, rfl, hj, by omega, h⟩
  ·rw [List.getElem?_append_right (by rw [hc]; exact hj), hc] at h
   obtain ⟨i, y, jj, h1, h2, h3, h4⟩ := flat_get hc zs _ a h
   exact ⟨i + 1, y, jj, h1, h2, by rw [Nat.succ_mul]; omega, h4⟩
theorem relO_in {W : World} {α : Type} {vals : α → List Value} {f : α → List AV} {c : Nat} {zs : List α} {v : Value} {φ : Nat → Loc3} {n : Nat} {e : TypeId} (h : SlIn W vals c zs v) (hc : ∀ x, (f x).length = c)
  (hrel : ∀ z (jj : Nat) a, (f z)[jj]? = some a → ∃ y, (vals z)[jj]? = some y ∧ RelV φ n a y) : RelO φ n (locV v) (holdAll W) (.cells (zs.flatMap f) e false) := by
 intro hne
 obtain ⟨b, cap, rfl, hle, hq⟩ := h
 have hpos : 0 < zs.length := by
  rcases Nat.eq_zero_or_pos zs.length with h0 | h0
  ·rw [List.eq_nil_of_length_eq_zero h0] at hne; exact absurd rfl hne
  ·exact h0
 obtain ⟨blk, off, cur, e', fz, rfl, hh, hcell⟩ := hq hpos
 refine ⟨false, cur, (e', fz), holdAll_get hh, (fun h => by cases h), fun j a ha => ?_⟩
 obtain ⟨i, z, jj, h1, h2, rfl, h4⟩ := flat_get hc zs j a ha
 obtain ⟨y, h5, h6⟩ := hrel z jj a h4
 exact ⟨y, (hcell i z jj h1 h2).trans h5, h6⟩
theorem relV_in {W : World} {α : Type} {vals : α → List Value} {c : Nat} {zs : List α} {v : Value} {φ : Nat → Loc3} {n i : Nat} (h : SlIn W vals c zs v) (hi : i < n) (hφ : φ i = locV v) : RelV φ n (.sl i 0 zs.length) v := by
 obtain ⟨b, cap, rfl, hle, hq⟩ := h
 refine .sl hi hle fun hpos => ?_
 obtain ⟨blk, off, cur, e', fz, rfl, _⟩ := hq hpos
 rw [hφ]
 rfl
theorem says_rel {φ : Nat → Loc3} {n : Nat} (z : Says) (jj : Nat) (a : AV) (h : (saysC z)[jj]? = some a) : ∃ y, (saysV z)[jj]? = some y ∧ RelV φ n a y := by
 match jj, h with
 | 0, h => cases h; exact ⟨_, rfl, .v _⟩
 | 1, h => cases h; exact ⟨_, rfl, .v _⟩
 | 2, h => cases h; exact ⟨_, rfl, .v _⟩
 | 3, h => cases h; exact ⟨_, rfl, .v _⟩
 | 4, h => cases h; exact ⟨_, rfl, .v _⟩
 | jj + 5, h => simp [saysC] at h
theorem seen_rel {φ : Nat → Loc3} {n : Nat} (z : Seen) (jj : Nat) (a : AV) (h : (seenC z)[jj]? = some a) : ∃ y, (seenV z)[jj]? = some y ∧ RelV φ n a y := by
 match jj, h with
 | 0, h => cases h; exact ⟨_, rfl, .v _⟩
 | 1, h => cases h; exact ⟨_, rfl, .v _⟩
 | jj + 2, h => simp [seenC] at h
theorem int_rel {φ : Nat → Loc3} {n : Nat} (z : Int) (jj : Nat) (a : AV) (h : ([intA z] : List AV)[jj]? = some a) : ∃ y, ([Value.int .i64 z] : List Value)[jj]? = some y ∧ RelV φ n a y := by
 match jj, h with
 | 0, h => cases h; exact ⟨_, rfl, .v _⟩
 | jj + 1, h => simp at h
theorem map_flat (xs : List Int) : xs.map intA = xs.flatMap fun x => [intA x] := by
 induction xs with
 | nil => rfl
 | cons x xs ih => rw [List.map_cons, List.flatMap_cons, ih]; rfl
end Go.Vel
end
section
set_option linter.all false
set_option maxRecDepth 20000
set_option maxHeartbeats 60000000
namespace Go.Vel
open Go Go.Conc Go.Proofs Go.ChangeShapes Go.WideShapes Go.ChangeAt Go.RowKit
theorem fn_rel {φ : Nat → Loc3} {n f : Nat} : RelV φ n (.fn f [] []) (.func (.func f) #[] #[]) := .fn rfl (fun j a y h => by simp at h) rfl (fun j a y h => by simp at h)
theorem tbl_rel {W : World} {φ : Nat → Loc3} {n g f1 f2 f3 : Nat} {e : TypeId} (h : ∃ cur e fz, W.heap[g]? = some (.cells cur e fz) ∧ cur[0]? = some (.func (.func f1) #[] #[]) ∧ cur[1]? = some (.func (.func f2) #[] #[]) ∧ cur[2]? = some (.func (.func f3) #[] #[])) : RelO φ n ⟨g, 0, 0⟩ (holdAll W) (.cells [.fn f1 [] [], .fn f2 [] [], .fn f3 [] []] e false) := by
 intro _
 obtain ⟨cur, e', fz, hh, h0, h1, h2⟩ := h
 refine ⟨false, cur, (e', fz), holdAll_get hh, (fun h => by cases h), fun j a ha => ?_⟩
 match j, ha with
 | 0, ha => cases ha; exact ⟨_, h0, fn_rel⟩
 | 1, ha => cases ha; exact ⟨_, h1, fn_rel⟩
 | 2, ha => cases ha; exact ⟨_, h2, fn_rel⟩
 | j + 3, ha => simp at ha
def KeptAll (W w : World) : Prop := ∀ i, i < W.heap.size → w.heap[i]? = W.heap[i]?
theorem own : ownKnob Tryz.prog.godebug = none := by kernel_rfl
set_option maxRecDepth 100000 in
theorem door_met (os : Os) (args : Array Value) : laidMetH Tryz.prog tblLaid ((World.doorLaid Tryz.prog 400 os).forCall (fun _ _ => 0) ⟨#[], args, []⟩).memory :=
 laidMetH_of_parts3 (fuel := 8) (laidMet_nil _ _) (by kernel_rfl) (by kernel_rfl)
theorem kept_but {W w : World} (ho : w.os = W.os) (hu : w.output = W.output) (hk : KeptAll W w) (may : MemPlace → Prop) : W.keptBut w may := by
 refine ⟨ho, hu, fun i hi => ?_⟩
 rw [hk i hi]
 cases W.heap[i]? with
 | none => rfl
 | some o => cases o <;> simp
theorem same_at {W w : World} (hk : KeptAll W w) {p : MemPlace} (hp : p.block < W.heap.size) : W.sameAt w p := by
 have := hk p.block hp
 cases p with
 | cell b o => exact World.cell?_of_block (w := W) this
 | map b => exact this
theorem okAgg {P : Program} {W : World} {base : Nat} {t : TypeId} {fs : Array Field} {v : Value} (ht : P.underlying t = some (.struct fs)) (h : Value.okWide P W .any base t v) : ∃ cs, v = .agg cs := by
 unfold Value.okWide at h
 rw [ht] at h
 obtain ⟨cs, h1, _⟩ := h
 exact ⟨cs, h1⟩
theorem laid_out : laidOutB Tryz.prog = true := by kernel_rfl
theorem trod_mono {H : Type} {enc : TypeId × Value → H} {W w : World} {t : TypeId} {v : Value} {d : DataW H} {p : List MemPlace} (hl : laidOutB Tryz.prog = true) (h : DataW.Trod enc Tryz.prog W 0 (fun _ => true) true t v d p) (hk : KeptAll W w) (hr : Tryz.prog.readableRec t = true := by kernel_rfl) (hrow : decide (t < Tryz.prog.types.size) = true := by kernel_rfl) : DataW.Trod enc Tryz.prog w 0 (fun b => decide (b < W.heap.size)) true t v d p := by
 have hlt : ∀ x ∈ p, x.block < W.heap.size := by obtain ⟨n, hn⟩ := h; exact DataW.trod_lt n t _ _ hn
 exact WideElems.Trod_stays hl hr (of_decide_eq_true hrow) h (fun x hx => same_at hk (hlt x hx)) (fun x hx => by simpa using hlt x hx)
theorem u8_wf {k : Int} (h : (Lit.int IntKind.u8 k).wf = true) : 0 ≤ k ∧ k < 256 := by
 simp only [Lit.wf, Bool.and_eq_true, decide_eq_true_eq] at h
 have h1 : IntKind.u8.min = 0 := by decide
 have h2 : IntKind.u8.max = 255 := by decide
 omega
theorem open_says {H : Type} {enc : TypeId × Value → H} {W : World} {sp : Nat → Bool} {held : Bool} {v : Value} {d : DataW H} {p : List MemPlace} (hv : ∃ cs, v = .agg cs) (h : DataW.Trod enc Tryz.prog W 0 sp held 30 v d p) : ∃ z : Says, v = .agg (saysV z).toArray := by
 obtain ⟨ca, rfl⟩ := hv
 obtain ⟨fuel, h⟩ := h
 obtain ⟨z, hz⟩ := dec_says _ _ _ h
 have hz : ca.toList = saysV z := hz
 exact ⟨z, by rw [← Array.toArray_toList (xs := ca), hz]⟩
/-- The tied card of a row whose call starts goroutines. -/
theorem holds_tied_goes (Lk : Looks) {p : Pinned} {s : OpenSpec} {c : OpenClaim} (kinds : List LaidKind) (tests : Bool) (har : Bool × String) (lk : Bool)
  (hc : c.holds p s) (hw : c.wfByText s = true)
  (htie : c.laidByTextAt Lk p kinds tests)
  (hst : c.start = .entering) (hnb : c.noBlocks = false ∧ c.again = false) (hm : p.checked.prog.mainIs = some (har.1, har.2.toList)) (hn : (!har.1 && har.2.isEmpty && !lk) = false)
  (hl : ∀ f fn, p.checked.prog.funcNamed c.func = some f → p.checked.prog.funcs[f]? = some fn → lk = p.checked.prog.looks [] ∧ ∀ (j : Nat) t, fn.params[j]? = some t → p.checked.prog.wantsStandIn t = false)
  (hg : true = c.goesBy p.checked.prog) :
  Claim7.holds p (.plain s) { stood := { row := c, standIns := [], harness := har, looks := lk }, kinds := [], alts := [], goes := true, laidByText := true, laidKinds := kinds, laidTests := tests, laidLooks := Lk } := by
 have h6 : ∀ r : OpenClaim, Claim7.isSixth { stood := { row := r, standIns := [], harness := har, looks := lk }, kinds := [] } = false := fun r => by simpa [Claim7.isSixth] using hn
 exact ⟨Claim7.tied_new_at Lk kinds tests (Claim7.new_of_sixth hc har lk hst hnb hm (h6 c) hl) hw, (fun D hD => by cases hD), htie, (fun h => by cases h), hg⟩
end Go.Vel
end
