/- The law SeekerReal: wherever the seams really are, and with whatever seekers that were asked who say what is so there, the states with them are told to be no fewer than one; no fewer can be wrong than is told. It holds of every program, tape and world that the statements name, as each theorem says. -/
import Derived.Test.YtpdioiojfgknbaaGreatDoorW6
import Derived.Test.YtpdioiojfgknbaaGreatDoorW7
import Derived.Test.YtpdioiojfgknbaaGreatDoorW8
import Derived.Test.YtpdioiojfgknbaaGreatDoorW9
import Derived.Test.YtpdioiojfgknbaaGreatDoorW10
section
set_option linter.all false
set_option maxRecDepth 20000
set_option maxHeartbeats 60000000
namespace Go.Vel
open Go Go.Conc Go.Proofs
instance : Cal Tryz.prog 13 := ⟨by kernel_rfl⟩
instance : Cal Tryz.prog 15 := ⟨by kernel_rfl⟩
instance : Cal Tryz.prog 16 := ⟨by kernel_rfl⟩
instance : Cal Tryz.prog 18 := ⟨by kernel_rfl⟩
instance : TyZA Tryz.prog 42 [.v (.int .i64 0), .v (.bool false)] := ⟨by kernel_rfl⟩
end Go.Vel
end
section
set_option linter.all false
set_option maxRecDepth 20000
set_option maxHeartbeats 60000000
namespace Go.Vel
open Go Go.Conc Go.Proofs

theorem who_some {b : Bk} (k : Int) (h : ¬ ((b.seekers.length : Int) = 0)) : ∃ q : Nat, whoM b k = q ∧ q < b.seekers.length := by
 unfold whoM
 rw [if_neg h]
 have h1 := Int.emod_nonneg k h
 have h2 := Int.emod_lt_of_pos k (show 0 < (b.seekers.length : Int) by omega)
 exact ⟨(k % b.seekers.length).toNat, by omega, by omega⟩
end Go.Vel
end
section
set_option linter.all false
set_option maxRecDepth 20000
set_option maxHeartbeats 60000000
namespace Go.Vel
open Go Go.Conc Go.Proofs
theorem fit_ok {main : Bool} {T : Goroutine → Hp → Prop} (hT : Shut Tryz.prog main T) {gm : Nat → Option Nat} {b : Bk} {s e : Nat} (hse : s ≠ e) :
  CallK Tryz.prog T gm 11 [.agg (bookC b s e)] [(s, saysO b), (e, seenO b)] (fun r K' => r = boolA (fitM b) ∧ K' = [(s, saysO b), (e, seenO b)]) := by
 refine callK_in 11 hT Tryz.func11 fun Y hret => ?_
 refine au [4, 5, 21] ?_
 intro jb hjb
 refine au [2, 3, 4, 5, 8] ?_
 refine TK.cl rfl rfl rfl rfl (great_ok hT (s := s) (e := e)) ?_
 rintro r1 K2 ⟨rfl, rfl⟩
 refine au [30, 1] ?_
 refine TK.sp 6 (fun g1_4 => ?_) (fun g1_4 => ?_)
 ·obtain ⟨hs1, hs2, hs3⟩ := great_small (b := b) (by simpa using g1_4)
  refine au [8] ?_
  refine TK.cl rfl rfl rfl rfl (checkR_ok hT hse (fun x hx => Nat.le_trans (hs3 x hx) (by omega)) (by omega) (by omega)) ?_
  rintro r4 K5 ⟨rfl, rfl⟩
  refine au [6, 26, 2, 3] ?_
  refine TK.rt hret [(s, _), (e, _)] ?_
  exact ⟨by unfold fitM; rw [g1_4, Bool.true_and]; rfl, rfl⟩
 refine au [11, 11, 11, 25, 2, 3] ?_
 refine TK.rt hret [(s, _), (e, _)] ?_
 exact ⟨by unfold fitM; rw [g1_4, Bool.false_and]; rfl, rfl⟩

end Go.Vel
end
section
set_option linter.all false
set_option maxRecDepth 20000
set_option maxHeartbeats 60000000
namespace Go.Vel
open Go Go.Conc Go.Proofs
instance : Cal Tryz.prog 34 := ⟨by kernel_rfl⟩
instance : Cal Tryz.prog 42 := ⟨by kernel_rfl⟩
instance : Cal Tryz.prog 48 := ⟨by kernel_rfl⟩
instance : Cal Tryz.prog 50 := ⟨by kernel_rfl⟩
instance {a0 a1 a2 a3 a4 a5 a6 a7 a8 a9 a10 a11 a12 a13 a14 a15 a16 a17 a18 a19 a20 a21 a22 a23 a24 a25 a26 a27 a28 a29 : Oper} : RgL #[a0, a1, a2, a3, a4, a5, a6, a7, a8, a9, a10, a11, a12, a13, a14, a15, a16, a17, a18, a19, a20, a21, a22, a23, a24, a25, a26, a27, a28, a29] [0, 1, 2, 3, 4, 5, 6, 7, 8, 9, 10, 11, 12, 13, 14, 15, 16, 17, 18, 19, 20, 21, 22, 23, 24, 25, 26, 27, 28, 29] := ⟨rfl⟩
instance {a0 a1 a2 a3 a4 a5 a6 a7 a8 a9 a10 a11 a12 a13 a14 a15 a16 a17 a18 a19 a20 a21 a22 a23 a24 a25 a26 a27 a28 a29 a30 a31 a32 a33 a34 a35 a36 a37 a38 a39 a40 a41 a42 a43 a44 a45 a46 a47 : Oper} : RgL #[a0, a1, a2, a3, a4, a5, a6, a7, a8, a9, a10, a11, a12, a13, a14, a15, a16, a17, a18, a19, a20, a21, a22, a23, a24, a25, a26, a27, a28, a29, a30, a31, a32, a33, a34, a35, a36, a37, a38, a39, a40, a41, a42, a43, a44, a45, a46, a47] [0, 1, 2, 3, 4, 5, 6, 7, 8, 9, 10, 11, 12, 13, 14, 15, 16, 17, 18, 19, 20, 21, 22, 23, 24, 25, 26, 27, 28, 29, 30, 31, 32, 33, 34, 35, 36, 37, 38, 39, 40, 41, 42, 43, 44, 45, 46, 47] := ⟨rfl⟩
end Go.Vel
end
section
set_option linter.all false
set_option maxRecDepth 20000
set_option maxHeartbeats 60000000
namespace Go.Vel
open Go Go.Conc Go.Proofs

theorem truly_names {b : Bk} {S : List Int} (h : ∀ x ∈ b.seekers, x.name.size ≤ 1000) : ∀ x ∈ (trulyB b S).seekers, x.name.size ≤ 1000 := by
 have key : ∀ (xs : List Says), (∀ x ∈ xs, x.name.size ≤ 1000) → ∀ y ∈ (trulyF b S xs).1, y.name.size ≤ 1000 := fun xs => by
  induction xs using list_snoc with
  | nil => intro _ y hy; cases hy
  | append_singleton xs x ih =>
   intro hx y hy
   have e : trulyF b S (xs ++ [x]) = trulyStep b S (trulyF b S xs) x := by unfold trulyF; rw [List.foldl_append]; rfl
   have ih2 := ih fun z hz => hx z (List.mem_append_left _ hz)
   have hxx := hx x (by simp)
   rw [e] at hy
   unfold trulyStep at hy
   split at hy
   ·rcases List.mem_append.1 hy with hy | hy
    ·exact ih2 y hy
    ·rw [List.mem_singleton.1 hy]; exact hxx
   ·split at hy
    ·rcases List.mem_append.1 hy with hy | hy
     ·exact ih2 y hy
     ·rw [List.mem_singleton.1 hy]; exact hxx
    ·rcases List.mem_append.1 hy with hy | hy
     ·exact ih2 y hy
     ·rw [List.mem_singleton.1 hy]; exact hxx
 exact key b.seekers h
theorem told_said {w i : Int} {S : List Int} (h : w = 0 ∨ (w = 1 ∧ i ∈ S) ∨ (w = 2 ∧ i ∉ S)) : (w == 0 || ((w == 1) == decide (i ∈ S))) = true := by
 rcases h with rfl | ⟨rfl, h⟩ | ⟨rfl, h⟩
 ·rfl
 ·rw [decide_eq_true h]; rfl
 ·rw [decide_eq_false h]; rfl
theorem told_wrong {w : Int} {t : Bool} (h : w = 0 ∨ (w = 1 ∧ t = false) ∨ (w = 2 ∧ t = true)) : (w == 0 || ((w == 1) == !t)) = true := by
 rcases h with rfl | ⟨rfl, rfl⟩ | ⟨rfl, rfl⟩ <;> rfl
theorem lawReal_top {R : Value → World → Prop} {b : Bk} {s e : Nat} {jp : Nat} {l : List (Fin 65536)} {k2 k3 k4 : Int} (hse : s ≠ e) (hk2 : 0 ≤ k2 ∧ k2 < 256) (hk3 : 0 ≤ k3 ∧ k3 < 256) (hk4 : 0 ≤ k4 ∧ k4 < 256) {A : List AObj} {φ : Nat → Loc3} {F H : Hp} {vs : Array Value} (hv : View [(0, checksG), (1, saysG), (s, saysO b), (e, seenO b), (jp, pickO l)] A) (hn0 : (keys [(0, checksG), (1, saysG), (s, saysO b), (e, seenO b), (jp, pickO l)]).Nodup) (hg : RelG gmS φ A.length) (hH : RelH φ A F H) (hargs : RelL φ A.length [.agg (bookC b s e), .sl jp 0 l.length, .v (.int .u8 k2), .v (.int .u8 k3), .v (.int .u8 k4)] vs)
  (hR : ∀ r K' φ' A' H' v w, (fun r K' => r = boolA true ∧ K' = [(0, checksG), (1, saysG), (s, saysO b), (e, seenO b), (jp, pickO l)]) r K' → RelH φ' A' F H' → RelV φ' A'.length r v → Fits H' w → R v w) : BT Tryz.prog (AtRet Tryz.prog 9 R) (G (Frame.enter Tryz.prog 9 vs .normal) []) H := by
 have hT := shut_BT tame (AtRet Tryz.prog 9 R)
 refine topK_in 275 tame (Post := fun r K' => r = boolA true ∧ K' = [(0, checksG), (1, saysG), (s, saysO b), (e, seenO b), (jp, pickO l)]) Tryz.func9 hv hn0 hg hH hargs hR fun Y hret => ?_
 refine au [4, 5, 21] ?_
 intro jb hjb
 refine au [2, 3, 4, 4, 5, 8] ?_
 refine TK.cl rfl rfl rfl rfl (fit_ok hT hse) ?_
 rintro r1 K2 ⟨rfl, rfl⟩
 refine au [30, 3, 20] ?_
 refine ⟨fun hc0 => ?_, fun hc0 => ?_⟩
 ·refine au [4, 5] ?_
  refine TK.cl rfl rfl rfl rfl (sought_ok tame) ?_
  rintro r4 K5 ⟨rfl, rfl⟩
  refine au [2, 3] ?_
  refine TK.rt hret [(0, _), (1, _), (s, _), (e, _), (jp, _)] ?_
  exact ⟨rfl, rfl⟩
 have hf := fit_of (b := b) (by simpa using hc0)
 have hck := hf.check
 have hb := bkOk_of hck
 have hst := hb.steps
 have hns := hb.ns
 have hlh := ((numbers_iff b).1 ((check_iff b).1 hck).1).2.2.2.2.2.1
 have hh3 := hb.high
 refine au [12, 4, 5, 8, 1] ?_
 refine TK.cl rfl rfl rfl rfl (realM_ok hT hb hlh) ?_
 rintro r7 K8 ⟨jx, xs, rfl, hro, rfl⟩
 refine au [2, 3, 4] ?_
 refine TK.freezeR 11 rfl (by repeat (first | exact Upd.head | apply Upd.tail)) (by simp only [List.set]; rfl) ?_
 have r7 := hro.len
 have r8 : xs.length ≤ 3 := by omega
 have hsm : SmOk b xs := ⟨r8, hro.rng⟩
 refine au [5, 8, 1] ?_
 refine TK.cl rfl rfl rfl rfl (truly_ok hT hck (ints_at xs 3 false) hsm) ?_
 rintro r10 K11 ⟨o1, o2, rfl, rfl⟩
 refine au [17, 3, 4] ?_
 refine TK.kp [(jb, .cells (bookC (trulyB b xs) o1 o2) 27 true), (0, _), (1, _), (o1, _), (o2, _), (jx, _), (s, _), (e, _), (jp, _)] ?_
 obtain ⟨o, ho⟩ : ∃ o, o = trulyB b xs := ⟨_, rfl⟩
 have hos : o.steps = b.steps := by rw [ho]; rfl
 have hco : checkM o = 0 := by rw [ho]; exact truly_check hck xs
 have hto : Told o xs := ⟨bkOk_of hco, by rw [ho]; exact truly_state hck hro.asc hro.rng hro.len⟩
 have hon : ∀ x ∈ o.seekers, x.name.size ≤ 1000 := by rw [ho]; exact truly_names hf.names
 have hob := hto.ok
 have hol : o.seen.length ≤ 1000 := by have := hob.ne; omega
 have ho0 := (ask_iff hco).1.2 hto.ne
 have hst2 := hob.steps
 have hso : SmOk o xs := ⟨r8, by rw [hos]; exact hro.rng⟩
 have hls := statesM_len hob
 have hlp : 0 < ((statesM o).length : Int) := by have := mt states_zero.2 hto.ne; omega
 have hcl := counts_len hob
 have hcp := counts_ne hob hto.ne
 have hss := states_one hco
 have hcan := ((mem_states hob xs).1 hto.mem).2
 have hsz := state_zero hco (b := o) (by rw [ho]; exact r7.2) hro.asc hso.mem
 rw [← ho]
 have m2 := Int.emod_nonneg k2 (show o.steps ≠ 0 by omega)
 have m2' := Int.emod_lt_of_pos k2 (show 0 < o.steps by omega)
 have m3 := Int.emod_nonneg k3 (show o.steps ≠ 0 by omega)
 have m3' := Int.emod_lt_of_pos k3 (show 0 < o.steps by omega)
 refine TK.nd fun hnd => ?_
 have ho12 : o1 ≠ o2 := fun h => by subst h; simp [keys] at hnd
 refine TK.draw [0, 1, 2, 3, 4, 5, 6, 7, 8, 9, 10, 11, 12] [0, 1, 2, 3, 4, 11, 5, 6, 7, 8, 9, 10, 12] (by kernel_rfl) (by kernel_rfl) ?_
 refine TD.z [2] rfl (q_move rfl rfl) ?_
 refine TD.z [48] rfl (q_convInt rfl rfl Und.h Und.h (wrap_i64 (by omega))) ?_
 refine TD.z [5] rfl (q_fieldAddr rfl rfl FldOf.h (by decide)) ?_
 refine TD.y [50] rfl (hq := q_load1 rfl rfl TySz.h (List.Mem.head _) rfl) (h := ?_)
 refine TD.z [49, 51] rfl (q_rem rfl rfl rfl (by omega) (by omega)) ?_
 refine TD.z [3] rfl (q_move rfl rfl) ?_
 refine TD.z [53] rfl (q_convInt rfl rfl Und.h Und.h (wrap_i64 (by omega))) ?_
 refine TD.z [5] rfl (q_fieldAddr rfl rfl FldOf.h (by decide)) ?_
 refine TD.y [55] rfl (hq := q_load1 rfl rfl TySz.h (List.Mem.head _) rfl) (h := ?_)
 refine TD.z [54, 56] rfl (q_rem rfl rfl rfl (by omega) (by omega)) ?_
 refine TD.z [57] rfl (q_add rfl rfl rfl (by omega)) ?_
 refine TD.as (pend' := [⟨10, [57], []⟩, ⟨9, [54, 56], []⟩, ⟨8, [55], [(_, _)]⟩, ⟨7, [5], []⟩, ⟨6, [53], []⟩, ⟨5, [3], []⟩]) [52] rfl rfl (q_assign rfl rfl) ?_
 refine TD.as (pend' := []) [58] rfl rfl (q_assign rfl rfl) ?_
 refine TD.fin ?_
 refine au [4] ?_
 obtain ⟨i, hi⟩ : ∃ i, i = k2 % o.steps := ⟨_, rfl⟩
 obtain ⟨w, hw⟩ : ∃ w, w = 1 + k3 % o.steps := ⟨_, rfl⟩
 rw [← hi, ← hw]
 have hil : 0 ≤ i ∧ i < o.steps := by omega
 have hwl : 1 ≤ w ∧ w ≤ o.steps := by omega
 have hsi : isStepM o i = true := by unfold isStepM; simp only [Bool.and_eq_true, decide_eq_true_eq]; omega
 have hat := at_one ho0 hsi
 have hwi := within_arc hco ho0 hil hwl
 have hnr := narrow_one ho0
 have hp1 := pickL_len o 1 o.steps.toNat
 have hp0 := pickL_len o 0 o.steps.toNat
 refine au [5, 8, 1] ?_
 refine TK.cl rfl rfl rfl rfl (stateApi_ok hT (b := o) ho12 (j := jx) (xs := xs) hon hol (ints_at _ 3 false) (by omega)) ?_
 rintro r13 K14 ⟨rfl, rfl⟩
 refine au [] ?_
 rw [hsz, hcan]
 refine au [1, 10, 10, 2, 2, 3, 4, 5, 8] ?_
 refine TK.cl rfl rfl rfl rfl (statesApi_ok hT (b := o) ho12 hon hol) ?_
 rintro r16 K17 ⟨rfl, rfl⟩
 refine au [] ?_
 rw [hss.1, hss.2]
 refine au [1, 10, 10, 2, 2, 3, 4, 5, 8] ?_
 refine TK.cl rfl rfl rfl rfl (counts_ok tame (b := o) ho12 hon hol) ?_
 rintro r19 K20 h21
 rcases h21 with ⟨hb0, rfl, rfl⟩ | ⟨hb0, jc, rfl, rfl⟩
 ·refine au [] ?_
  exact absurd ho0 hb0
 ·refine au [1, 10, 10, 2, 2, 3, 4, 5, 8, 1] ?_
  refine TK.cl rfl rfl rfl rfl (atApi_ok hT (b := o) (n := i) ho12 hon hol) ?_
  rintro r22 K23 ⟨rfl, rfl⟩
  refine au [] ?_
  rw [hat.1, hat.2]
  refine au [1, 10, 10, 2, 2, 3, 4, 5, 8] ?_
  refine TK.cl rfl rfl rfl rfl (stepsApi_ok hT (b := o) ho12 hon hol) ?_
  rintro r25 K26 h27
  rcases h27 with ⟨hb1, rfl, rfl⟩ | ⟨hb1, ja, jq, rfl, rfl⟩
  ·refine au [] ?_
   exact absurd ho0 hb1
  ·refine au [1, 10, 10, 10, 2, 2, 2, 3, 4] ?_
   refine TK.share (fun jw _ _ _ => slotsA 275 [(4, .v (.int .u8 k4)), (5, .ptr jb 0), (11, .sl jx 0 xs.length), (12, intA i), (13, intA w), (14, boolA true), (15, intA 0), (16, intA (statesM o).length), (17, intA 0), (18, .row jc (countsM o).length), (19, intA 0), (20, intA (wordM (statesM o).length (oftM (statesM o) i))), (21, intA 0), (22, .row ja (pickL o 1 o.steps.toNat).length), (23, .row jq (pickL o 0 o.steps.toNat).length), (24, intA 0), (25, .ptr jw 0), (26, intA 0)]) (fun jw _ _ _ => (jw, .cells [intA (withinM o (statesM o) i w).1, intA (withinM o (statesM o) i w).2] 23 true) :: (ja, .row ((pickL o 1 o.steps.toNat).map intA) 3 1) :: (jq, .row ((pickL o 0 o.steps.toNat).map intA) 3 1) :: (jc, .row ((countsM o).map intA) 3 1) :: (jb, .cells (bookC o o1 o2) 27 true) :: (0, checksG) :: (1, saysG) :: (o1, saysO o) :: (o2, seenO o) :: (jx, .cells (xs.map intA) 3 false) :: (s, saysO b) :: (e, seenO b) :: (jp, pickO l) :: []) (fun hcont => ?_) (fun jw _ _ _ => ?_)
   ·refine TK.draw [0, 1, 2, 3, 4, 5, 6, 7, 8, 9, 10, 11, 12, 13, 14, 15] [0, 1, 2, 3, 4, 5, 6, 7, 8, 9, 10, 11, 13, 14, 12, 15] (by kernel_rfl) (by kernel_rfl) ?_
    refine TD.y [5] rfl (hq := q_load rfl rfl TySz.h (List.Mem.head _) rfl) (h := ?_)
    refine TD.z [12] rfl (q_move rfl rfl) ?_
    refine TD.z [12] rfl (q_move rfl rfl) ?_
    refine TD.z [13] rfl (q_move rfl rfl) ?_
    refine TD.z [90, 91] rfl (q_add rfl rfl rfl (by omega)) ?_
    refine TD.z [92] rfl (q_sub rfl rfl rfl (by omega)) ?_
    refine TD.z [5] rfl (q_fieldAddr rfl rfl FldOf.h (by decide)) ?_
    refine TD.y [94] rfl (hq := q_load1 rfl rfl TySz.h (List.Mem.head _) rfl) (h := ?_)
    refine TD.z [93, 95] rfl (q_rem rfl rfl rfl (by omega) (by omega)) ?_
    refine TD.c2 (i1 := 9) (i2 := 13) (pend1 := [⟨7, [94], [(_, _)]⟩, ⟨6, [5], []⟩, ⟨5, [92], []⟩, ⟨4, [90, 91], []⟩, ⟨3, [13], []⟩, ⟨2, [12], []⟩]) (pend2 := [⟨8, [93, 95], []⟩, ⟨7, [94], [(_, _)]⟩, ⟨6, [5], []⟩, ⟨5, [92], []⟩, ⟨4, [90, 91], []⟩, ⟨3, [13], []⟩, ⟨2, [12], []⟩, ⟨1, [12], []⟩, ⟨0, [5], [(_, _)]⟩]) (L1 := [10, 11, 12, 13, 14, 15]) (L2 := [9, 10, 11, 12, 14, 15]) [88, 89, 96] [] rfl rfl rfl rfl rfl rfl rfl ?_ ?_
    ·refine exK_callO rfl rfl Cal.h rfl (withinApi_ok hT (b := o) (lo := i) (hi := (i + w - 1) % o.steps) ho12 hon hol) (by repeat (first | exact Split.none _ | exact Split.all _ | (apply Split.rem; repeat (first | exact Rem.head | apply Rem.tail)) | apply Split.right)) fun r28 K29 h30 => ⟨?_, ?_⟩
     ·rcases h30 with ⟨rfl, rfl⟩
      all_goals simp
     obtain ⟨rfl, rfl⟩ := h30
     try simp only [List.cons_append, List.nil_append]
     refine TD.norm (env' := [_, _, _, _, _, _, _, _, _, _, _, _, _, _, _, _, _, _, _, _, _, _, _, _, _, _, _, _, _, _, _, _, _, _, _, _, _, _, _, _, _, _, _, _, _, _, _, _, _, _, _, _, _, _, _, _, _, _, _, _, _, _, _, _, _, _, _, _, _, _, _, _, _, _, _, _, _, _, _, _, _, _, _, _, _, _, _, _, _, _, _, _, _, _, _, _, _, _, _, _, _, _, _, _, _, _, _, _, _, _, _, _, _, _, _, _, _, _, _, _, _, _, _, _, _, _, _, _, _, _, _, _, _, _, _, _, _, _, _, _, _, _, _, _, _, _, _, _, _, _, _, _, _, _, _, _, _, _, _, _, _, _, _, _, _, _, _, _, _, _, _, _, _, _, _, _, _, _, _, _, _, _, _, _, _, _, _, _, _, _, _, _, _, _, _, _, _, _, _, _, _, _, _, _, _, _, _, _, _, _, _, _, _, _, _, _, _, _, _, _, _, _, _, _, _, _, _, _, _, _, _, _, _, _, _, _, _, _, _, _, _, _, _, _, _, _, _, _, _, _, _, _, _, _, _, _, _, _, _, _, _, _, _, _, _, _, _, _, _, _, _, _, _, _, _]) rfl ?_
     rw [hwi.1, hwi.2]
     refine TD.z [97] rfl (q_move rfl rfl) ?_
     refine TD.z [87] rfl (q_extract rfl rfl rfl) ?_
     refine TD.z [87] rfl (q_extract rfl rfl rfl) ?_
     refine TD.cnewP (pend' := [⟨12, [87], []⟩, ⟨11, [87], []⟩, ⟨10, [97], []⟩, ⟨7, [94], [(_, _)]⟩, ⟨6, [5], []⟩, ⟨5, [92], []⟩, ⟨4, [90, 91], []⟩, ⟨3, [13], []⟩, ⟨2, [12], []⟩]) [] rfl rfl rfl rfl rfl (n_allocA rfl TyZA.h) (fun _ => putS rfl (by simp only [List.set]; rfl)) (by simp) fun jw hjw => ?_
     refine TD.s (pend' := [⟨12, [87], []⟩]) [25, 98] rfl rfl (q_store rfl rfl TySz.h rfl rfl (by repeat (first | exact List.Mem.head _ | assumption | apply List.Mem.tail)) rfl) ?_
     refine TD.as (pend' := []) [99] rfl rfl (q_assign rfl rfl) ?_
     refine TD.fin ?_
     refine TK.maskL [4, 5, 11, 12, 13, 14, 15, 16, 17, 18, 19, 20, 21, 22, 23, 24, 25, 26] ?_
     refine TK.kp ((jw, .cells [_, _] 23 true) :: (ja, _) :: (jq, _) :: (jc, _) :: (jb, _) :: (0, _) :: (1, _) :: (o1, _) :: (o2, _) :: (jx, _) :: (s, _) :: (e, _) :: (jp, _) :: []) ?_
     refine Eq.mp ?_ (hcont jw 0 0 0)
     clear hcont
     congr 1 <;> rfl
    ·refine exK_newP rfl (n_allocA rfl TyZA.h) (fun _ => putS rfl (by simp only [List.set]; rfl)) (by simp) fun jw hjw => ?_
     refine TD.cl (pend' := [⟨7, [94], [(_, _)]⟩, ⟨6, [5], []⟩, ⟨5, [92], []⟩, ⟨4, [90, 91], []⟩, ⟨3, [13], []⟩, ⟨2, [12], []⟩]) [88, 89, 96] rfl rfl rfl rfl rfl (withinApi_ok hT (b := o) (lo := i) (hi := (i + w - 1) % o.steps) ho12 hon hol) (fun r31 K32 h33 => ⟨?_, ?_⟩)
     ·rcases h33 with ⟨rfl, rfl⟩
      all_goals simp
     obtain ⟨rfl, rfl⟩ := h33
     try simp only [List.cons_append, List.nil_append]
     refine TD.norm (by simp only [List.set]; rfl) ?_
     rw [hwi.1, hwi.2]
     refine TD.z [97] rfl (q_move rfl rfl) ?_
     refine TD.z [87] rfl (q_extract rfl rfl rfl) ?_
     refine TD.z [87] rfl (q_extract rfl rfl rfl) ?_
     refine TD.s (pend' := [⟨12, [87], []⟩]) [25, 98] rfl rfl (q_store rfl rfl TySz.h rfl rfl (by repeat (first | exact List.Mem.head _ | assumption | apply List.Mem.tail)) rfl) ?_
     refine TD.as (pend' := []) [99] rfl rfl (q_assign rfl rfl) ?_
     refine TD.fin ?_
     refine TK.maskL [4, 5, 11, 12, 13, 14, 15, 16, 17, 18, 19, 20, 21, 22, 23, 24, 25, 26] ?_
     refine TK.kp ((jw, .cells [_, _] 23 true) :: (ja, _) :: (jq, _) :: (jc, _) :: (jb, _) :: (0, _) :: (1, _) :: (o1, _) :: (o2, _) :: (jx, _) :: (s, _) :: (e, _) :: (jp, _) :: []) ?_
     refine Eq.mp ?_ (hcont jw 0 0 0)
     clear hcont
     congr 1 <;> rfl
   ·skip
    refine au [4, 5, 8] ?_
    refine TK.cl rfl rfl rfl rfl (narrow_ok tame (b := o) ho12 hon hol) ?_
    rintro r34 K35 ⟨rfl, rfl⟩
    refine au [] ?_
    rw [hnr.1, hnr.2.1]
    refine au [1, 10, 10, 10, 10, 2, 2, 2, 2, 3, 4, 5, 8] ?_
    refine TK.cl rfl rfl rfl rfl (likely_ok hT (b := o) ho12 hon hol) ?_
    rintro r37 K38 h39
    rcases h39 with ⟨hb2, rfl, rfl⟩ | ⟨hb2, hg0, rfl, rfl⟩ | ⟨hb2, hg0, jl, rfl, rfl⟩
    ·refine au [] ?_
     exact absurd hco hb2
    ·refine au [] ?_
     exact absurd hg0 hto.likely.1
    ·refine au [1, 10, 10, 10, 10, 2, 2, 2, 2, 3, 4, 4, 5, 1, 6, 1] ?_
     refine TK.sp 116 (fun g14_3 => ?_) (fun g14_3 => ?_)
     ·cases g14_3
     refine au [1, 6, 25, 1] ?_
     refine TK.sp 120 (fun g14_7 => ?_) (fun g14_7 => ?_)
     ·cases g14_7
     refine au [1, 6, 25, 1] ?_
     refine TK.sp 124 (fun g14_11 => ?_) (fun g14_11 => ?_)
     ·cases g14_11
     refine au [1, 6, 25, 1] ?_
     refine TK.sp 128 (fun g14_15 => ?_) (fun g14_15 => ?_)
     ·cases g14_15
     refine au [1, 6, 25, 1] ?_
     refine TK.sp 132 (fun g14_19 => ?_) (fun g14_19 => ?_)
     ·cases g14_19
     refine au [1, 6, 25, 1] ?_
     refine TK.sp 136 (fun g14_23 => ?_) (fun g14_23 => ?_)
     ·cases g14_23
     refine au [1, 6, 25, 1] ?_
     refine TK.sp 140 (fun g14_27 => ?_) (fun g14_27 => ?_)
     ·cases g14_27
     refine au [1, 6, 25, 3, 20] ?_
     refine ⟨fun hc1 => ?_, fun hc1 => ?_⟩
     ·cases hc1
     refine au [12, 4, 4] ?_
     refine TK.freezeR 18 rfl (by repeat (first | exact Upd.head | apply Upd.tail)) (by simp only [List.set]; rfl) ?_
     refine TK.freezeR 22 rfl (by repeat (first | exact Upd.head | apply Upd.tail)) (by simp only [List.set]; rfl) ?_
     refine TK.freezeR 23 rfl (by repeat (first | exact Upd.head | apply Upd.tail)) (by simp only [List.set]; rfl) ?_
     refine TK.nd fun hnd => ?_
     have hjc : ja ≠ jx := fun h => by subst h; simp [keys] at hnd
     refine au [5, 1, 30, 1] ?_
     refine TK.sp 146 (fun g16_3 => ?_) (fun g16_3 => ?_)
     ·cases g16_3
     refine au [1, 6, 25, 1] ?_
     refine TK.sp 150 (fun g16_7 => ?_) (fun g16_7 => ?_)
     ·have := of_decide_eq_true g16_7
      omega
     refine au [1, 1, 28] ?_
     refine TK.cl rfl rfl rfl rfl (holds_ok hT (ints_at (countsM o) 3 false) (by omega)) ?_
     rintro r40 K41 ⟨rfl, rfl⟩
     refine au [30, 25, 1] ?_
     refine TK.sp 157 (fun g16_14 => ?_) (fun g16_14 => ?_)
     ·rw [decide_eq_true hto.count] at g16_14
      cases g16_14
     refine au [1, 1, 1] ?_
     refine TK.cl rfl rfl rfl rfl (holds_ok hT (ints_at xs 3 false) (by omega)) ?_
     rintro r43 K44 ⟨rfl, rfl⟩
     refine au [] ?_
     refine TK.cl rfl rfl rfl rfl (said_ok hT) ?_
     rintro r46 K47 ⟨rfl, rfl⟩
     refine au [30, 25, 1] ?_
     refine TK.sp 165 (fun g16_22 => ?_) (fun g16_22 => ?_)
     ·rw [told_said (hto.at_ i)] at g16_22
      cases g16_22
     refine au [1, 1] ?_
     refine TK.cl rfl rfl rfl rfl (insideL_ok hT hjc (ints_at (pickL o 1 o.steps.toNat) 3 false) (ints_at xs 3 false) (by omega) (by omega)) ?_
     rintro r49 K50 ⟨rfl, rfl⟩
     refine au [30, 25, 1] ?_
     refine TK.sp 171 (fun g16_28 => ?_) (fun g16_28 => ?_)
     ·rw [show ((pickL o 1 o.steps.toNat).all fun x => decide (x ∈ xs)) = true from List.all_eq_true.2 fun x hx => decide_eq_true (hto.sure hx)] at g16_28
      cases g16_28
     refine au [1] ?_
     refine TK.newR rfl rfl rfl (n_buildSlice (l := []) rfl SlEl.h TyZ.h (by decide) (by decide) rfl) (fun _ => putS rfl (by simp only [List.set]; rfl)) fun jn hjn => ?_
     refine au [1] ?_
     refine TK.appG (ln := (pickL o 1 o.steps.toNat).map intA) rfl rfl rfl ApOf.h rfl (by repeat (first | exact List.Mem.head _ | assumption | apply List.Mem.tail)) rfl rfl rfl (fun hp => src_sl (by repeat (first | exact List.Mem.head _ | assumption | apply List.Mem.tail)) (by omega) (take_full (n := (pickL o 1 o.steps.toNat).length) (size := 1) (by simp) (by omega))) (fun h => by rw [List.eq_nil_of_length_eq_zero h]; rfl) (ints_one _) (by unfold maxLen; omega) (by omega) (fun _ => (by repeat (first | exact Upd.head | apply Upd.tail))) (fun _ => putS rfl (by simp only [List.set]; rfl)) fun jm => ?_
     try simp only [List.nil_append, Nat.zero_add]
     refine au [1] ?_
     refine TK.appG (ln := (pickL o 0 o.steps.toNat).map intA) rfl rfl rfl ApOf.h rfl (by repeat (first | exact List.Mem.head _ | assumption | apply List.Mem.tail)) (by simp) rfl rfl (fun hp => src_sl (by repeat (first | exact List.Mem.head _ | assumption | apply List.Mem.tail)) (by omega) (take_full (n := (pickL o 0 o.steps.toNat).length) (size := 1) (by simp) (by omega))) (fun h => by rw [List.eq_nil_of_length_eq_zero h]; rfl) (ints_one _) (by unfold maxLen; omega) (by omega) (fun _ => (by repeat (first | exact Upd.head | apply Upd.tail))) (fun _ => putS rfl (by simp only [List.set]; rfl)) fun jk => ?_
     try simp only [List.nil_append, Nat.zero_add]
     refine TK.freezeR 177 rfl (by repeat (first | exact Upd.head | apply Upd.tail)) (by simp only [List.set]; rfl) ?_
     rw [← List.length_append, ← List.map_append]
     refine TK.nd fun hnd2 => ?_
     have hjx : jx ≠ jk := fun h => by subst h; simp [keys] at hnd2
     refine TK.cl rfl rfl rfl rfl (insideL_ok hT hjx (ints_at xs 3 false) (ints_at ((pickL o 1 o.steps.toNat) ++ (pickL o 0 o.steps.toNat)) 3 false) (by omega) (by rw [List.length_append]; omega)) ?_
     rintro r52 K53 ⟨rfl, rfl⟩
     refine au [30, 25, 1] ?_
     refine TK.sp 181 (fun g16_38 => ?_) (fun g16_38 => ?_)
     ·rw [show (xs.all fun x => decide (x ∈ (pickL o 1 o.steps.toNat) ++ (pickL o 0 o.steps.toNat))) = true from List.all_eq_true.2 fun x hx => decide_eq_true (hto.perhaps hx)] at g16_38
      cases g16_38
     refine au [1, 30, 25, 1] ?_
     refine TK.sp 185 (fun g16_42 => ?_) (fun g16_42 => ?_)
     ·cases g16_42
     refine au [1, 8, 1] ?_
     refine TK.cl rfl rfl rfl rfl (wrongR_ok hT (b := o) (s := o1) (e := o2) hob hso (ints_at xs 3 false) (by omega)) ?_
     rintro r55 K56 ⟨rfl, rfl⟩
     refine au [6, 25, 3, 20] ?_
     refine ⟨fun hc2 => ?_, fun hc2 => ?_⟩
     ·have h1 := of_decide_eq_true hc2
      have h2 := hto.likely.2
      omega
     refine au [12, 4, 4] ?_
     refine TK.draw [0, 1, 2, 3, 5, 6, 7, 8, 4, 9, 10, 11, 12, 13, 14, 15, 16, 17, 18, 19, 20, 21, 22, 23, 24, 25, 26, 27, 28, 29, 30, 31, 32, 33, 34, 35] [0, 1, 2, 3, 4, 5, 6, 7, 8, 9, 10, 11, 12, 13, 14, 15, 16, 17, 18, 19, 20, 21, 22, 23, 24, 25, 26, 27, 28, 29, 30, 31, 32, 33, 34, 35] (by kernel_rfl) (by kernel_rfl) ?_
     refine TD.y [5] rfl (hq := q_load rfl rfl TySz.h (List.Mem.head _) rfl) (h := ?_)
     refine TD.z [11] rfl (q_move rfl rfl) ?_
     refine TD.z [12] rfl (q_move rfl rfl) ?_
     refine TD.z [13] rfl (q_move rfl rfl) ?_
     refine TD.z [25] rfl (q_fieldAddr rfl rfl FldOf.h (by decide)) ?_
     refine TD.y [197] rfl (hq := q_load1 rfl rfl TySz.h (List.Mem.head _) rfl) (h := ?_)
     refine TD.z [25] rfl (q_fieldAddr rfl rfl FldOf.h (by decide)) ?_
     refine TD.y [199] rfl (hq := q_load1 rfl rfl TySz.h (List.Mem.head _) rfl) (h := ?_)
     refine TD.cl (pend' := [⟨8, [199], [(_, _)]⟩, ⟨7, [25], []⟩, ⟨6, [197], [(_, _)]⟩, ⟨5, [25], []⟩]) [192, 193, 194, 195] rfl rfl rfl rfl rfl (inR_ok hT (b := o) (s := o1) (e := o2) hst2 hso.mem hil (ints_at xs 3 false) (by omega)) (fun r58 K59 h60 => ⟨?_, ?_⟩)
     ·rcases h60 with ⟨rfl, rfl⟩
      all_goals simp
     obtain ⟨rfl, rfl⟩ := h60
     try simp only [List.cons_append, List.nil_append]
     refine TD.norm (by simp only [List.set]; rfl) ?_
     refine TD.cl (pend' := [⟨7, [25], []⟩, ⟨5, [25], []⟩]) [196, 198, 200] rfl rfl rfl rfl rfl (between_ok hT) (fun r61 K62 h63 => ⟨?_, ?_⟩)
     ·rcases h63 with ⟨rfl, rfl⟩
      all_goals simp
     obtain ⟨rfl, rfl⟩ := h63
     try simp only [List.cons_append, List.nil_append]
     refine TD.norm (by simp only [List.set]; rfl) ?_
     refine TD.z [201] rfl (q_not rfl rfl) ?_
     refine TD.z [202] rfl (q_move rfl rfl) ?_
     refine TD.sp 203 (fun g18_12 => ?_) (fun g18_12 => ?_)
     ·have hw2 := hto.within i w
      rw [decide_eq_true hw2.1, decide_eq_true hw2.2] at g18_12
      cases g18_12
     refine TD.z [29, 203] rfl (q_move rfl rfl) ?_
     refine TD.z [203, 204] rfl (q_move rfl rfl) ?_
     refine TD.sp 205 (fun g18_14 => ?_) (fun g18_14 => ?_)
     ·have hne := of_decide_eq_true g18_14
      have hna := arc_is hne
      have hnm := hnr.2.2 hne
      rw [hnm]
      refine TD.z [28, 205] rfl (q_move rfl rfl) ?_
      refine TD.z [205, 206] rfl (q_cmp rfl rfl rfl rfl) ?_
      refine TD.z [205, 207] rfl (q_move rfl rfl) ?_
      refine TD.sp 208 (fun g18_17 => ?_) (fun g18_17 => ?_)
      ·have := of_decide_eq_true g18_17
       omega
      refine TD.y [5, 208] rfl (hq := q_load rfl rfl TySz.h (List.Mem.head _) rfl) (h := ?_)
      refine TD.z [11, 208] rfl (q_move rfl rfl) ?_
      refine TD.z [27, 208] rfl (q_move rfl rfl) ?_
      refine TD.z [28, 208] rfl (q_move rfl rfl) ?_
      refine TD.cl (pend' := [⟨15, [205, 206], []⟩, ⟨14, [28, 205], []⟩, ⟨13, [203, 204], []⟩, ⟨12, [29, 203], []⟩, ⟨11, [202], []⟩, ⟨10, [201], []⟩, ⟨7, [25], []⟩, ⟨5, [25], []⟩]) [208, 209, 210, 211, 212] rfl rfl rfl rfl rfl (inR_ok hT (b := o) (s := o1) (e := o2) hst2 hso.mem ⟨hna.1, hna.2.1⟩ (ints_at xs 3 false) (by omega)) (fun r64 K65 h66 => ⟨?_, ?_⟩)
      ·rcases h66 with ⟨rfl, rfl⟩
       all_goals simp
      obtain ⟨rfl, rfl⟩ := h66
      try simp only [List.cons_append, List.nil_append]
      refine TD.norm (by simp only [List.set]; rfl) ?_
      refine TD.z [208, 213] rfl (q_cmp rfl rfl rfl rfl) ?_
      refine TD.z [205, 208, 214] rfl (q_pickF rfl rfl rfl) ?_
      refine TD.z [203, 205, 215] rfl (q_pickT rfl rfl rfl) ?_
      refine TD.z [203, 216] rfl (q_pickF rfl rfl rfl) ?_
      refine TD.z [217] rfl (q_move rfl rfl) ?_
      refine TD.sp 218 (fun g18_27 => ?_) (fun g18_27 => ?_)
      ·have h1 := of_decide_eq_true g18_27
       have h2 := (hto.within (narrowM o).1 (narrowM o).2).1
       omega
      refine TD.z [29, 218] rfl (q_move rfl rfl) ?_
      refine TD.z [218, 219] rfl (q_not rfl rfl) ?_
      refine TD.z [218, 220] rfl (q_move rfl rfl) ?_
      refine TD.sp 221 (fun g18_30 => ?_) (fun g18_30 => ?_)
      ·rw [decide_eq_true hne] at g18_30
       cases g18_30
      skip
      refine TD.u [18, 221] rfl ?_
      refine TD.u [221, 222] rfl ?_
      refine TD.u [221, 223] rfl ?_
      refine TD.u [221, 224] rfl ?_
      refine TD.z [218, 221, 225] rfl (q_pickF rfl rfl rfl) ?_
      refine TD.z [218, 226] rfl (q_pickF rfl rfl rfl) ?_
      refine TD.fin ?_
      refine au [19, 12, 4, 4, 5, 7, 9, 28, 6, 3, 20] ?_
      refine ⟨fun hc4 => ?_, fun hc4 => ?_⟩
      ·refine au [4, 5] ?_
       refine TK.cl rfl rfl rfl rfl (sought_ok tame) ?_
       rintro r67 K68 ⟨rfl, rfl⟩
       refine au [2, 3] ?_
       refine TK.rt hret [(0, _), (1, _), (s, _), (e, _), (jp, _)] ?_
       exact ⟨rfl, rfl⟩
      obtain ⟨q, hq, hql⟩ := who_some k4 (b := o) (by simpa using hc4)
      unfold whoM at hq
      rw [if_neg (by simpa using hc4)] at hq
      have hwo := wrong_one ho0 hql
      have hrz := right_zero hco r8 hro.asc hso.mem hql
      refine au [12, 4, 5, 1] ?_
      refine TK.a rfl (q_convInt rfl rfl Und.h Und.h (wrap_i64 (by omega))) ?_
      refine au [7, 9, 28] ?_
      refine TK.a rfl (q_rem rfl rfl rfl (by omega) (by omega)) ?_
      refine au [2] ?_
      rw [hq]
      refine au [3, 4, 5, 8, 1, 1] ?_
      refine TK.cl rfl rfl rfl rfl (rightApi_ok hT (b := o) (s := o1) (e := o2) (k := (q : Int)) hon hol (ints_at xs 3 false) (by omega)) ?_
      rintro r70 K71 ⟨rfl, rfl⟩
      refine au [] ?_
      rw [hrz]
      refine au [1, 10, 10, 2, 2, 3, 4, 5, 8, 1] ?_
      refine TK.cl rfl rfl rfl rfl (wrongApi_ok hT (b := o) (n := (q : Int)) ho12 hon hol) ?_
      rintro r73 K74 ⟨rfl, rfl⟩
      refine au [] ?_
      rw [hwo.1, hwo.2]
      refine au [1, 10, 10, 2, 2, 3, 4, 5, 1, 6, 1] ?_
      refine TK.sp 254 (fun g25_3 => ?_) (fun g25_3 => ?_)
      ·refine au [1, 6, 26, 1] ?_
       refine TK.sp 258 (fun g25_7 => ?_) (fun g25_7 => ?_)
       ·refine au [1, 8, 1, 1] ?_
        refine TK.cl rfl rfl rfl rfl (rightR_ok hT (b := o) (s := o1) (e := o2) hob hso hql (ints_at xs 3 false) (by omega)) ?_
        rintro r76 K77 ⟨rfl, rfl⟩
        refine au [34, 26, 1] ?_
        refine TK.sp 266 (fun g25_15 => ?_) (fun g25_15 => ?_)
        ·refine au [1, 1, 30] ?_
         refine TK.cl rfl rfl rfl rfl (said_ok hT) ?_
         rintro r79 K80 ⟨rfl, rfl⟩
         refine au [26, 1] ?_
         refine TK.sp 272 (fun g25_21 => ?_) (fun g25_21 => ?_)
         ·refine TK.cl rfl rfl rfl rfl (sought_ok tame) ?_
          rintro r82 K83 ⟨rfl, rfl⟩
          refine au [26, 2, 3] ?_
          refine TK.rt hret [(0, _), (1, _), (s, _), (e, _), (jp, _)] ?_
          exact ⟨rfl, rfl⟩
         rw [told_wrong (hto.wrong q)] at g25_21
         cases g25_21
        simp at g25_15
       cases g25_7
      cases g25_3
     have hnf : ¬ (arcsOf o (List.range o.steps.toNat) ≠ []) := of_decide_eq_false g18_14
     have hz0 : (countsM o)[0] = 0 := by
      have h1 := mt (found_iff hob hto.ne hcp).2 hnf
      obtain ⟨S, hS, h2⟩ := (counts_mem hob _).1 (List.getElem_mem (l := countsM o) (n := 0) hcp)
      omega
     refine TD.u [28, 205] rfl ?_
     refine TD.u [205, 206] rfl ?_
     refine TD.u [205, 207] rfl ?_
     refine TD.u [5, 208] rfl ?_
     refine TD.u [11, 208] rfl ?_
     refine TD.u [27, 208] rfl ?_
     refine TD.u [28, 208] rfl ?_
     refine TD.u [208, 209, 210, 211, 212] rfl ?_
     refine TD.u [208, 213] rfl ?_
     refine TD.u [205, 208, 214] rfl ?_
     refine TD.z [203, 205, 215] rfl (q_pickF rfl rfl rfl) ?_
     refine TD.z [203, 216] rfl (q_pickF rfl rfl rfl) ?_
     refine TD.z [217] rfl (q_move rfl rfl) ?_
     refine TD.z [29, 218] rfl (q_move rfl rfl) ?_
     refine TD.z [218, 219] rfl (q_not rfl rfl) ?_
     refine TD.z [218, 220] rfl (q_move rfl rfl) ?_
     refine TD.sp 221 (fun g18_30 => ?_) (fun g18_30 => ?_)
     ·skip
      refine TD.z [18, 221] rfl (q_move rfl rfl) ?_
      refine TD.z [221, 222] rfl (q_indexSl rfl rfl rfl SlEl.h (by omega) (by omega)) ?_
      refine TD.y [221, 223] rfl (hq := q_load1 rfl rfl TySz.h (List.Mem.head _) (ints_at (countsM o) 3 false 0 hcp)) (h := ?_)
      refine TD.z [221, 224] rfl (q_cmp rfl rfl rfl rfl) ?_
      refine TD.z [218, 221, 225] rfl (q_pickT rfl rfl rfl) ?_
      refine TD.z [218, 226] rfl (q_pickF rfl rfl rfl) ?_
      refine TD.fin ?_
      refine au [20] ?_
      refine ⟨fun hc3 => ?_, fun hc3 => ?_⟩
      ·rw [hz0] at hc3
       cases hc3
      refine au [12, 4, 4, 5, 7, 9, 28, 6, 3, 20] ?_
      refine ⟨fun hc4 => ?_, fun hc4 => ?_⟩
      ·refine au [4, 5] ?_
       refine TK.cl rfl rfl rfl rfl (sought_ok tame) ?_
       rintro r85 K86 ⟨rfl, rfl⟩
       refine au [2, 3] ?_
       refine TK.rt hret [(0, _), (1, _), (s, _), (e, _), (jp, _)] ?_
       exact ⟨rfl, rfl⟩
      obtain ⟨q, hq, hql⟩ := who_some k4 (b := o) (by simpa using hc4)
      unfold whoM at hq
      rw [if_neg (by simpa using hc4)] at hq
      have hwo := wrong_one ho0 hql
      have hrz := right_zero hco r8 hro.asc hso.mem hql
      refine au [12, 4, 5, 1] ?_
      refine TK.a rfl (q_convInt rfl rfl Und.h Und.h (wrap_i64 (by omega))) ?_
      refine au [7, 9, 28] ?_
      refine TK.a rfl (q_rem rfl rfl rfl (by omega) (by omega)) ?_
      refine au [2] ?_
      rw [hq]
      refine au [3, 4, 5, 8, 1, 1] ?_
      refine TK.cl rfl rfl rfl rfl (rightApi_ok hT (b := o) (s := o1) (e := o2) (k := (q : Int)) hon hol (ints_at xs 3 false) (by omega)) ?_
      rintro r88 K89 ⟨rfl, rfl⟩
      refine au [] ?_
      rw [hrz]
      refine au [1, 10, 10, 2, 2, 3, 4, 5, 8, 1] ?_
      refine TK.cl rfl rfl rfl rfl (wrongApi_ok hT (b := o) (n := (q : Int)) ho12 hon hol) ?_
      rintro r91 K92 ⟨rfl, rfl⟩
      refine au [] ?_
      rw [hwo.1, hwo.2]
      refine au [1, 10, 10, 2, 2, 3, 4, 5, 1, 6, 1] ?_
      refine TK.sp 254 (fun g25_3 => ?_) (fun g25_3 => ?_)
      ·refine au [1, 6, 26, 1] ?_
       refine TK.sp 258 (fun g25_7 => ?_) (fun g25_7 => ?_)
       ·refine au [1, 8, 1, 1] ?_
        refine TK.cl rfl rfl rfl rfl (rightR_ok hT (b := o) (s := o1) (e := o2) hob hso hql (ints_at xs 3 false) (by omega)) ?_
        rintro r94 K95 ⟨rfl, rfl⟩
        refine au [34, 26, 1] ?_
        refine TK.sp 266 (fun g25_15 => ?_) (fun g25_15 => ?_)
        ·refine au [1, 1, 30] ?_
         refine TK.cl rfl rfl rfl rfl (said_ok hT) ?_
         rintro r97 K98 ⟨rfl, rfl⟩
         refine au [26, 1] ?_
         refine TK.sp 272 (fun g25_21 => ?_) (fun g25_21 => ?_)
         ·refine TK.cl rfl rfl rfl rfl (sought_ok tame) ?_
          rintro r100 K101 ⟨rfl, rfl⟩
          refine au [26, 2, 3] ?_
          refine TK.rt hret [(0, _), (1, _), (s, _), (e, _), (jp, _)] ?_
          exact ⟨rfl, rfl⟩
         rw [told_wrong (hto.wrong q)] at g25_21
         cases g25_21
        simp at g25_15
       cases g25_7
      cases g25_3
     rw [decide_eq_false hnf] at g18_30
     cases g18_30
end Go.Vel
end
section
set_option linter.all false
set_option maxRecDepth 20000
set_option maxHeartbeats 60000000
namespace Go.Vel
open Go Go.Conc Go.Proofs Go.ChangeShapes Go.WideShapes Go.ChangeAt Go.RowKit
def u16V (z : Fin 65536) : List Value := [.int .u16 (z.val : Int)]
theorem u16_wf {k : Int} (h : (Lit.int IntKind.u16 k).wf = true) : 0 ≤ k ∧ k < 65536 := by
 simp only [Lit.wf, Bool.and_eq_true, decide_eq_true_eq] at h
 have h1 : IntKind.u16.min = 0 := by decide
 have h2 : IntKind.u16.max = 65535 := by decide
 omega
section
variable {H : Type} {enc : TypeId × Value → H} {W : World} {sp : Nat → Bool} {held : Bool}
theorem dec_u16 (m : Nat) (cs : List Value) (x : DataW H × List MemPlace) (h : DataW.trod enc Tryz.prog W 0 sp held m 155 cs = some x) : ∃ z : Fin 65536, cs = u16V z := by
 obtain ⟨s, e0, _, e2⟩ := DataW.trod_int Tryz.underlying155 h
 obtain ⟨h1, h2⟩ := u16_wf e2
 refine ⟨⟨s.toNat, by omega⟩, ?_⟩
 rw [e0]
 unfold u16V
 rw [show ((s.toNat : Nat) : Int) = s by omega]
end
theorem u16_rel {φ : Nat → Loc3} {n : Nat} (z : Fin 65536) (jj : Nat) (a : AV) (h : ([.v (.int .u16 (z.val : Int))] : List AV)[jj]? = some a) : ∃ y, (u16V z)[jj]? = some y ∧ RelV φ n a y := by
 match jj, h with
 | 0, h => cases h; exact ⟨_, rfl, .v _⟩
 | jj + 1, h => simp at h
theorem pick_flat (l : List (Fin 65536)) : pickO l = .cells (l.flatMap fun z => [.v (.int .u16 (z.val : Int))]) 155 false := by
 unfold pickO
 congr 1
 induction l with
 | nil => rfl
 | cons x xs ih => unfold pickC at ih ⊢; rw [List.map_cons, List.flatMap_cons, ih]; rfl
end Go.Vel
end
section
set_option linter.all false
set_option maxRecDepth 20000
set_option maxHeartbeats 60000000
namespace Go.Vel
open Go Go.Conc Go.Proofs Go.ChangeShapes Go.WideShapes Go.ChangeAt Go.RowKit
open Go.Proofs.YtpdioiojfgknbaaGreatDoor (Tryz.pinned)
def seekerRealPhi (x0a x0b x1 : Value) : Nat → Loc3
 | 0 => ⟨0, 0, 0⟩
 | 1 => ⟨1, 0, 0⟩
 | 2 => locV x0a
 | 3 => locV x0b
 | 4 => locV x1
 | _ => ⟨0, 0, 0⟩
theorem seekerReal_run {W : World} (hl : laidMetH Tryz.prog tblLaid W) {b0 : Bk} {x0a x0b : Value} {l1 : List (Fin 65536)} {x1 : Value} {k2 : Int} {k3 : Int} {k4 : Int} (h0a : SlIn W saysV 5 b0.seekers x0a) (h0b : SlIn W seenV 2 b0.seen x0b) (h1 : SlIn W u16V 1 l1 x1) (h2 : 0 ≤ k2 ∧ k2 < 256) (h3 : 0 ≤ k3 ∧ k3 < 256) (h4 : 0 ≤ k4 ∧ k4 < 256) :
  ∃ M last o w' t', runNT Tryz.prog (M + 1) (solo (G (Frame.enter Tryz.prog 9 #[.agg #[.int .i64 b0.steps, .int .i64 b0.wrong, .int .i64 b0.low, .int .i64 b0.high, x0a, x0b], x1, .int .u8 k2, .int .u8 k3, .int .u8 k4] .normal) []) W) #[] = (.ended o w', t') ∧
   runN Tryz.prog M (solo (G (Frame.enter Tryz.prog 9 #[.agg #[.int .i64 b0.steps, .int .i64 b0.wrong, .int .i64 b0.low, .int .i64 b0.high, x0a, x0b], x1, .int .u8 k2, .int .u8 k3, .int .u8 k4] .normal) []) W) = .next last ∧
   step Tryz.prog last = .ended o w' ∧ Conc.Good Tryz.prog (fun v w => v = .bool true ∧ w.os = W.os ∧ w.output = W.output ∧ KeptAll W w) last o w' t' := by
 refine good_run (R := fun v w => v = .bool true ∧ KeptAll W w) (R' := fun v w => v = .bool true ∧ w.os = W.os ∧ w.output = W.output ∧ KeptAll W w) Tryz.func9 rfl (by kernel_rfl) (fun v w' ho hu hr => ⟨hr.1, ho, hu, hr.2⟩) (fun v w τ d h => h) (holdAll_fits W) ?_
 obtain ⟨ht0, ht1⟩ := of_laid hl
 refine lawReal_top (b := b0) (s := 2) (e := 3) (jp := 4) (l := l1) (k2 := k2) (k3 := k3) (k4 := k4) (by decide) h2 h3 h4 (A := [checksG, saysG, saysO b0, seenO b0, pickO l1]) (φ := seekerRealPhi x0a x0b x1) (F := holdAll W) ?_ ?_ ?_ ?_ ?_ ?_
 ·intro x hx
  simp only [List.mem_cons, List.not_mem_nil, or_false] at hx
  rcases hx with rfl | rfl | rfl | rfl | rfl <;> rfl
 ·simp [keys]
 ·intro g i hg
  match g, hg with
  | 0, hg => cases hg; exact ⟨by simp, rfl, rfl⟩
  | 1, hg => cases hg; exact ⟨by simp, rfl, rfl⟩
  | g + 2, hg => cases hg
 ·refine ⟨fun i o ho => ?_, fun i j o o' hi _ _ hx => ?_, fun b x h => h, fun i o hi hx => ?_⟩
  ·match i, ho with
   | 0, ho => cases ho; exact tbl_rel ht0
   | 1, ho => cases ho; exact tbl_rel ht1
   | 2, ho => cases ho; exact relO_in h0a (fun _ => rfl) says_rel
   | 3, ho => cases ho; exact relO_in h0b (fun _ => rfl) seen_rel
   | 4, ho => cases ho; exact (by rw [pick_flat]; exact relO_in h1 (fun _ => rfl) u16_rel)
   | i + 5, ho => simp at ho
  ·match i, hi with
   | 0, hi => cases hi; cases hx
   | 1, hi => cases hi; cases hx
   | 2, hi => cases hi; cases hx
   | 3, hi => cases hi; cases hx
   | 4, hi => cases hi; cases hx
   | i + 5, hi => simp at hi
  ·match i, hi with
   | 0, hi => cases hi; cases hx
   | 1, hi => cases hi; cases hx
   | 2, hi => cases hi; cases hx
   | 3, hi => cases hi; cases hx
   | 4, hi => cases hi; cases hx
   | i + 5, hi => simp at hi
 ·refine ⟨rfl, fun j a y ha hy => ?_⟩
  match j, ha, hy with
  | 0, ha, hy =>
   cases ha; cases hy
   refine .agg rfl fun t u z hu hz => ?_
   match t, hu, hz with
   | 0, hu, hz => cases hu; cases hz; exact .v _
   | 1, hu, hz => cases hu; cases hz; exact .v _
   | 2, hu, hz => cases hu; cases hz; exact .v _
   | 3, hu, hz => cases hu; cases hz; exact .v _
   | 4, hu, hz => cases hu; cases hz; exact relV_in h0a (by simp) rfl
   | 5, hu, hz => cases hu; cases hz; exact relV_in h0b (by simp) rfl
   | t + 6, hu, hz => simp [bookC] at hu
  | 1, ha, hy =>
   cases ha; cases hy; exact relV_in h1 (by simp) rfl
  | 2, ha, hy =>
   cases ha; cases hy; exact .v _
  | 3, ha, hy =>
   cases ha; cases hy; exact .v _
  | 4, ha, hy =>
   cases ha; cases hy; exact .v _
  | j + 5, ha, hy => simp at ha
 ·rintro r K' φ' A' H' v w ⟨rfl, _⟩ hH' hv' hfit
  refine ⟨inv_v hv', fun i hi => ?_⟩
  have hh := Array.getElem?_eq_getElem hi
  rw [hh]
  exact hfit i false _ (hH'.fr _ _ (holdAll_get hh))
set_option maxRecDepth 100000 in
theorem seekerReal_lifted (os : Os) (started : os.Started) (H : Type) (enc : TypeId × Value → H) :
  ReturnsInLeavingWide Go.Proofs.YtpdioiojfgknbaaGreatDoor.Rows.seekerRealRow.assume Tryz.checked os 9 .any (Go.Proofs.YtpdioiojfgknbaaGreatDoor.Rows.seekerRealRow.pre enc Tryz.prog Tryz.f9 (OpenSpec.ofChange Go.Proofs.YtpdioiojfgknbaaGreatDoor.Rows.seekerRealSpec))
   (Go.Proofs.YtpdioiojfgknbaaGreatDoor.Rows.seekerRealSpec.post enc Tryz.prog Tryz.f9 false true false false) := by
 refine returnsInLeavingWide_of_good (C := Tryz.checked) own started
  (ChangeSpec.witness_shaped (enc := enc) (C := Tryz.checked) (os := os) (X := fun w _ => laidMetH Tryz.prog tblLaid w) false (World.doorLaid Tryz.prog 400 os) #[.agg #[.int .i64 0, .int .i64 0, .int .i64 0, .int .i64 0, .slice none 0 0, .slice none 0 0], .slice none 0 0, .int .u8 0, .int .u8 0, .int .u8 0] 8 rfl (World.shaped_of_RefB (by kernel_rfl) (by kernel_rfl)) (by kernel_rfl) (by kernel_rfl) (by kernel_rfl) (door_met os _)) ?_
 intro w tape i _ _ _ hok hpre _
 obtain ⟨_, _, _, fn', hfn', _, _, _, _, hval0⟩ := hok
 obtain rfl : fn' = Tryz.f9 := Option.some.inj (hfn'.symm.trans Tryz.func9)
 obtain ⟨⟨⟨ds, gs, before, hw, hc⟩, hL0⟩, _⟩ := hpre
 have hW := DataW.Whole.of_heap (w' := w.forCall tape i) (by rfl) hw
 have hL : laidMetH Tryz.prog tblLaid (w.forCall tape i) := laidMetH.of_heap (by rfl) hL0
 obtain ⟨bl, args, vars⟩ := i
 generalize w.forCall tape ⟨bl, args, vars⟩ = W at hW hL hval0 ⊢
 have hW' := hW
 obtain ⟨p, q, hA0, hV0, rfl, _, _⟩ := hW
 have hA : DataW.TrodAll enc Tryz.prog W 0 (fun _ => true) true [27, 65, 5, 5, 5] args.toList ds p := hA0
 obtain ⟨v0, u0, d0, ds0, p0, q0, hargs, rfl, rfl, t0, hr0⟩ := trodAll_cons hA
 obtain ⟨v1, u1, d1, ds1, p1, q1, rfl, rfl, rfl, t1, hr1⟩ := trodAll_cons hr0
 obtain ⟨v2, u2, d2, ds2, p2, q2, rfl, rfl, rfl, t2, hr2⟩ := trodAll_cons hr1
 obtain ⟨v3, u3, d3, ds3, p3, q3, rfl, rfl, rfl, t3, hr3⟩ := trodAll_cons hr2
 obtain ⟨v4, u4, d4, ds4, p4, q4, rfl, rfl, rfl, t4, hr4⟩ := trodAll_cons hr3
 obtain ⟨rfl, rfl, rfl⟩ := trodAll_nil hr4
 obtain rfl : args = #[v0, v1, v2, v3, v4] := by cases args; simp_all
 obtain ⟨rfl, rfl⟩ := trodVars_none hV0
 obtain ⟨b0, x0a, x0b, rfl, s0a, s0b⟩ := open_book (okAgg Tryz.underlying27 (hval0 0 27 v0 rfl rfl)) t0
 obtain ⟨a1, len1, cap1, rfl⟩ := okWide_slice Tryz.underlying65 (hval0 1 65 v1 rfl rfl)
 have t1' := t1
 obtain ⟨n1, hh1⟩ := t1'
 obtain ⟨l1, bb1, cap1', e1, ll1, rr1⟩ := open_list (vals := u16V) (c := 1) Tryz.underlying65 (by kernel_rfl) (by decide) dec_u16 hh1
 have s1 : SlIn W u16V 1 l1 (.slice a1 len1 cap1) := ⟨bb1, cap1', by simpa [Value.cells] using e1, ll1, rr1⟩
 obtain ⟨k2, rfl, rfl, rfl, s2⟩ := open_int Tryz.underlying5 (hval0 2 5 v2 rfl rfl) t2
 obtain ⟨k3, rfl, rfl, rfl, s3⟩ := open_int Tryz.underlying5 (hval0 3 5 v3 rfl rfl) t3
 obtain ⟨k4, rfl, rfl, rfl, s4⟩ := open_int Tryz.underlying5 (hval0 4 5 v4 rfl rfl) t4
 obtain ⟨M, last, o, w', t', g1, g2, g3, g4⟩ := seekerReal_run hL s0a s0b s1 (u8_wf s2) (u8_wf s3) (u8_wf s4)
 refine ⟨M, last, o, w', t', g1, g2, g3, g4.mono fun v hF => ?_⟩
 obtain ⟨rfl, ho, hu, hkp⟩ := hF
 refine ChangeSpec.post_blind ?_
 exact ⟨_, _, _, [], _, [], hW', trodAll_mk1 (shut_bool Tryz.underlying4 true), ⟨_, _, trod_mono laid_out t0 hkp, ⟨_, _, trod_mono laid_out t1 hkp, ⟨_, _, trod_mono laid_out t2 hkp, ⟨_, _, trod_mono laid_out t3 hkp, ⟨_, _, trod_mono laid_out t4 hkp, trodAll_mk0, rfl⟩, rfl⟩, rfl⟩, rfl⟩, rfl⟩, rfl, kept_but ho hu hkp _, fun h => by cases h⟩
open Go.Proofs.YtpdioiojfgknbaaGreatDoor in
theorem seekerReal_said : Rows.SeekerRealSaid :=
 OpenClaim.holds_of_wide_leaving 9 Tryz.f9 rfl rfl rfl rfl rfl rfl rfl ⟨rfl, rfl, rfl, rfl, rfl⟩ rfl rfl rfl rfl rfl (by kernel_rfl) Tryz.func9 (by kernel_rfl)
  (of_decide_eq_true (by kernel_rfl)) (by unfold Func.isWrapper; first | (rw [if_pos (by decide +kernel)]; kernel_rfl) | (rw [if_neg (by decide +kernel)]; exact ⟨rfl, rfl⟩))
  (fun os started H enc _ => seekerReal_lifted os started H enc)
end Go.Vel
namespace Go.Proofs.YtpdioiojfgknbaaGreatDoor
open Go
theorem seekerReal_holds : Rows.SeekerRealCardSaid :=
 Go.Vel.holds_tied_goes .later [.funcs, .funcs] true (true, "37dd52168c01ab0eac968363d817f0761de49dbe13f8b8dbc59b7d9be7780b69") false
  Go.Vel.seekerReal_said (by kernel_rfl) seekerReal_row_tie rfl ⟨rfl, rfl⟩ (by kernel_rfl) rfl
  (fun f fn hf hfn => by
   obtain rfl : f = 9 := Option.some.inj ((show Tryz.prog.funcNamed "velarium/velariumlaw09.SeekerReal" = some 9 by kernel_rfl).symm.trans hf) |>.symm
   obtain rfl : fn = Tryz.f9 := (Option.some.inj (Tryz.func9.symm.trans hfn)).symm
   exact ⟨by kernel_rfl, fun j t ht => by
    rw [Tryz.params9] at ht
    have hm : t ∈ [27, 65, 5, 5, 5] := by simpa using Array.mem_of_getElem? ht
    have hall : ([27, 65, 5, 5, 5].all fun u => !Tryz.prog.wantsStandIn u) = true := by kernel_rfl
    exact (show Tryz.prog.wantsStandIn t = false by simpa using List.all_eq_true.1 hall t hm)⟩)
  (by kernel_rfl)
#print axioms seekerReal_holds
end Go.Proofs.YtpdioiojfgknbaaGreatDoor
end
