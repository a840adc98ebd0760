/- The law SeekerTurned: a round that begins at another step, or is counted the other way round, is alike It holds of every program, tape and world that the statements name, as each theorem says. -/
import Derived.Test.YtpdioiojfgknbaaGreatDoorW7
import Derived.Test.YtpdioiojfgknbaaGreatDoorW8
import Derived.Test.YtpdioiojfgknbaaGreatDoorW9
import Derived.Test.YtpdioiojfgknbaaGreatDoorW10
section
set_option linter.all false
set_option maxRecDepth 20000
set_option maxHeartbeats 60000000
namespace Go.Vel
open Go Go.Conc Go.Proofs

def lkL (b : Bk) : Int × Bool := if guessM b (allM b) = [] then (0, false) else ((likelyM b).2, true)
theorem lk_none {b : Bk} (h : guessM b (allM b) = []) : lkL b = (0, false) := if_pos h
theorem lk_some {b : Bk} (h : guessM b (allM b) ≠ []) : lkL b = ((likelyM b).2, true) := if_neg h
theorem turn_lk {b : Bk} {by' : Int} {bk : Bool} (hp : Placed b) : lkL (turnB b by' bk) = lkL b := by
 have h := turn_likely (by' := by') (bk := bk) hp
 unfold lkL
 by_cases h0 : guessM b (allM b) = []
 ·rw [if_pos h0, if_pos (h.1.2 h0)]
 ·rw [if_neg h0, if_neg (fun h1 => h0 (h.1.1 h1)), h.2 h0]
def ckL (b : Bk) : List Int := if togM b (everyM b) = true then [] else clashM b
theorem ck_none {b : Bk} (h : togM b (everyM b) = true) : ckL b = [] := if_pos h
theorem ck_some {b : Bk} (h : togM b (everyM b) = false) : ckL b = clashM b := if_neg (by rw [h]; decide)
theorem turn_ck {b : Bk} {by' : Int} {bk : Bool} (hp : Placed b) : ckL (turnB b by' bk) = ckL b := by
 have he : everyM (turnB b by' bk) = everyM b := by unfold everyM; show 2 ^ (b.seekers.map _).length - 1 = _; rw [List.length_map]
 unfold ckL
 rw [he, turn_togM hp, turn_clash hp]
theorem ck_len {b : Bk} (hb : BkOk b) : (ckL b).length ≤ 100000 := by
 unfold ckL
 split
 ·simp
 ·rename_i h
  have h0 : togS b (uptoM b.seekers.length) = false := by rw [← tog_every hb]; simpa using h
  have h1 := setsM_short (most := (b.seekers.length : Int)) (by omega) _ _ (clash_is hb h0).1
  have := hb.ns
  omega
theorem turn_names {b : Bk} {by' : Int} {bk : Bool} (h : ∀ x ∈ b.seekers, x.name.size ≤ 1000) : ∀ x ∈ (turnB b by' bk).seekers, x.name.size ≤ 1000 := fun x hx => by
 obtain ⟨y, hy, rfl⟩ := List.mem_map.1 hx
 rw [turnX_name]; exact h y hy
theorem lawTurned_top {R : Value → World → Prop} {b : Bk} {s e : Nat} {k1 k2 k3 k4 : Int} {bk : Bool} (hse : s ≠ e) (hk1 : 0 ≤ k1 ∧ k1 < 256) (hk2 : 0 ≤ k2 ∧ k2 < 256) (hk3 : 0 ≤ k3 ∧ k3 < 256) (hk4 : 0 ≤ k4 ∧ k4 < 256) {A : List AObj} {φ : Nat → Loc3} {F H : Hp} {vs : Array Value} (hv : View [(0, checksG), (1, saysG), (s, saysO b), (e, seenO b)] A) (hn0 : (keys [(0, checksG), (1, saysG), (s, saysO b), (e, seenO b)]).Nodup) (hg : RelG gmS φ A.length) (hH : RelH φ A F H) (hargs : RelL φ A.length [.agg (bookC b s e), .v (.int .u8 k1), .v (.int .u8 k2), .v (.int .u8 k3), .v (.int .u8 k4), boolA bk] vs)
  (hR : ∀ r K' φ' A' H' v w, (fun r K' => r = boolA true ∧ K' = [(0, checksG), (1, saysG), (s, saysO b), (e, seenO b)]) r K' → RelH φ' A' F H' → RelV φ' A'.length r v → Fits H' w → R v w) : BT Tryz.prog (AtRet Tryz.prog 10 R) (G (Frame.enter Tryz.prog 10 vs .normal) []) H := by
 have hT := shut_BT tame (AtRet Tryz.prog 10 R)
 refine topK_in 329 tame (Post := fun r K' => r = boolA true ∧ K' = [(0, checksG), (1, saysG), (s, saysO b), (e, seenO b)]) Tryz.func10 hv hn0 hg hH hargs hR fun Y hret => ?_
 refine au [4, 5, 21] ?_
 intro jb hjb
 refine au [2, 3, 4, 4, 5, 8] ?_
 refine TK.cl rfl rfl rfl rfl (fit_ok hT hse) ?_
 rintro r1 K2 ⟨rfl, rfl⟩
 refine au [30, 3, 20] ?_
 refine ⟨fun hc0 => ?_, fun hc0 => ?_⟩
 ·refine au [4, 5] ?_
  refine TK.cl rfl rfl rfl rfl (sought_ok tame) ?_
  rintro r4 K5 ⟨rfl, rfl⟩
  refine au [2, 3] ?_
  refine TK.rt hret [(0, _), (1, _), (s, _), (e, _)] ?_
  exact ⟨rfl, rfl⟩
 have hf := fit_of (b := b) (by simpa using hc0)
 have hck := hf.check
 have hb := bkOk_of hck
 have hst := hb.steps
 have hns := hb.ns
 have hp := placed_of hck
 have m1 := Int.emod_nonneg k1 (show b.steps ≠ 0 by omega)
 have m1' := Int.emod_lt_of_pos k1 (show 0 < b.steps by omega)
 have m2 := Int.emod_nonneg k2 (show b.steps ≠ 0 by omega)
 have m2' := Int.emod_lt_of_pos k2 (show 0 < b.steps by omega)
 have m3 := Int.emod_nonneg k3 (show b.steps ≠ 0 by omega)
 have m3' := Int.emod_lt_of_pos k3 (show 0 < b.steps by omega)
 refine au [12, 4] ?_
 refine TK.draw [0, 1, 2, 3, 4, 5, 6, 7, 8, 9, 10, 11, 12, 13, 14, 15, 16, 17, 18] [0, 1, 2, 3, 4, 16, 5, 6, 7, 8, 9, 17, 10, 11, 12, 13, 14, 15, 18] (by kernel_rfl) (by kernel_rfl) ?_
 refine TD.z [1] rfl (q_move rfl rfl) ?_
 refine TD.z [48] rfl (q_convInt rfl rfl Und.h Und.h (wrap_i64 (by omega))) ?_
 refine TD.z [6] rfl (q_fieldAddr rfl rfl FldOf.h (by decide)) ?_
 refine TD.y [50] rfl (hq := q_load1 rfl rfl TySz.h (List.Mem.head _) rfl) (h := ?_)
 refine TD.z [49, 51] rfl (q_rem rfl rfl rfl (by omega) (by omega)) ?_
 refine TD.z [2] rfl (q_move rfl rfl) ?_
 refine TD.z [53] rfl (q_convInt rfl rfl Und.h Und.h (wrap_i64 (by omega))) ?_
 refine TD.z [6] rfl (q_fieldAddr rfl rfl FldOf.h (by decide)) ?_
 refine TD.y [55] rfl (hq := q_load1 rfl rfl TySz.h (List.Mem.head _) rfl) (h := ?_)
 refine TD.z [54, 56] rfl (q_rem rfl rfl rfl (by omega) (by omega)) ?_
 refine TD.z [3] rfl (q_move rfl rfl) ?_
 refine TD.z [58] rfl (q_convInt rfl rfl Und.h Und.h (wrap_i64 (by omega))) ?_
 refine TD.z [6] rfl (q_fieldAddr rfl rfl FldOf.h (by decide)) ?_
 refine TD.y [60] rfl (hq := q_load1 rfl rfl TySz.h (List.Mem.head _) rfl) (h := ?_)
 refine TD.z [59, 61] rfl (q_rem rfl rfl rfl (by omega) (by omega)) ?_
 refine TD.z [62] rfl (q_add rfl rfl rfl (by omega)) ?_
 refine TD.as (pend' := [⟨15, [62], []⟩, ⟨14, [59, 61], []⟩, ⟨13, [60], [(_, _)]⟩, ⟨12, [6], []⟩, ⟨11, [58], []⟩, ⟨10, [3], []⟩, ⟨9, [54, 56], []⟩, ⟨8, [55], [(_, _)]⟩, ⟨7, [6], []⟩, ⟨6, [53], []⟩, ⟨5, [2], []⟩]) [52] rfl rfl (q_assign rfl rfl) ?_
 refine TD.as (pend' := [⟨15, [62], []⟩, ⟨14, [59, 61], []⟩, ⟨13, [60], [(_, _)]⟩, ⟨12, [6], []⟩, ⟨11, [58], []⟩, ⟨10, [3], []⟩]) [57] rfl rfl (q_assign rfl rfl) ?_
 refine TD.as (pend' := []) [63] rfl rfl (q_assign rfl rfl) ?_
 refine TD.fin ?_
 refine au [4] ?_
 obtain ⟨y, hy⟩ : ∃ y, y = k1 % b.steps := ⟨_, rfl⟩
 obtain ⟨i, hi⟩ : ∃ i, i = k2 % b.steps := ⟨_, rfl⟩
 obtain ⟨w, hw⟩ : ∃ w, w = 1 + k3 % b.steps := ⟨_, rfl⟩
 rw [← hw, ← hi, ← hy]
 have hyl : 0 ≤ y ∧ y < b.steps := by omega
 have hil : 0 ≤ i ∧ i < b.steps := by omega
 have hwl : 1 ≤ w ∧ w ≤ b.steps := by omega
 refine TK.share (fun jo o1 o2 _ => slotsA 329 [(4, .v (.int .u8 k4)), (5, boolA bk), (6, .ptr jb 0), (12, boolA false), (13, intA y), (14, intA i), (15, intA w), (16, .ptr jo 0), (17, intA ((i + y) % b.steps))]) (fun jo o1 o2 _ => (jo, .cells (bookC (turnB b y bk) o1 o2) 27 true) :: (jb, .cells (bookC b s e) 27 true) :: (0, checksG) :: (1, saysG) :: (o1, saysO (turnB b y bk)) :: (o2, seenO (turnB b y bk)) :: (s, saysO b) :: (e, seenO b) :: []) (fun hcont => ?_) (fun jo o1 o2 _ => ?_)
 ·refine TK.draw [0, 1, 2, 4, 5, 6, 7, 8, 9, 3, 10, 11, 12] [0, 1, 2, 3, 10, 11, 4, 5, 6, 7, 8, 9, 12] (by kernel_rfl) (by kernel_rfl) ?_
  refine TD.y [6] rfl (hq := q_load rfl rfl TySz.h (List.Mem.head _) rfl) (h := ?_)
  refine TD.z [13] rfl (q_move rfl rfl) ?_
  refine TD.z [5] rfl (q_move rfl rfl) ?_
  refine TD.z [14] rfl (q_move rfl rfl) ?_
  refine TD.z [13] rfl (q_move rfl rfl) ?_
  refine TD.z [68, 69] rfl (q_add rfl rfl rfl (by omega)) ?_
  refine TD.z [6] rfl (q_fieldAddr rfl rfl FldOf.h (by decide)) ?_
  refine TD.y [71] rfl (hq := q_load1 rfl rfl TySz.h (List.Mem.head _) rfl) (h := ?_)
  refine TD.z [70, 72] rfl (q_rem rfl rfl rfl (by omega) (by omega)) ?_
  refine TD.c2 (i1 := 3) (i2 := 10) (pend1 := [⟨9, [70, 72], []⟩, ⟨8, [71], [(_, _)]⟩, ⟨7, [6], []⟩, ⟨6, [68, 69], []⟩, ⟨5, [13], []⟩, ⟨4, [14], []⟩]) (pend2 := [⟨9, [70, 72], []⟩, ⟨8, [71], [(_, _)]⟩, ⟨7, [6], []⟩, ⟨6, [68, 69], []⟩, ⟨5, [13], []⟩, ⟨4, [14], []⟩, ⟨2, [5], []⟩, ⟨1, [13], []⟩, ⟨0, [6], [(_, _)]⟩]) (L1 := [10, 11, 12]) (L2 := [3, 11, 12]) [64, 65, 66] [] rfl rfl rfl rfl rfl rfl rfl ?_ ?_
  ·refine exK_callO rfl rfl Cal.h rfl (turned_ok hT (b := b) (by' := y) (bk := bk) hck hyl) (by repeat (first | exact Split.none _ | exact Split.all _ | (apply Split.rem; repeat (first | exact Rem.head | apply Rem.tail)) | apply Split.right)) fun r7 K8 h9 => ⟨?_, ?_⟩
   ·rcases h9 with ⟨o1, o2, rfl, rfl⟩
    all_goals simp
   obtain ⟨o1, o2, rfl, rfl⟩ := h9
   try simp only [List.cons_append, List.nil_append]
   refine TD.norm (env' := [_, _, _, _, _, _, _, _, _, _, _, _, _, _, _, _, _, _, _, _, _, _, _, _, _, _, _, _, _, _, _, _, _, _, _, _, _, _, _, _, _, _, _, _, _, _, _, _, _, _, _, _, _, _, _, _, _, _, _, _, _, _, _, _, _, _, _, _, _, _, _, _, _, _, _, _, _, _, _, _, _, _, _, _, _, _, _, _, _, _, _, _, _, _, _, _, _, _, _, _, _, _, _, _, _, _, _, _, _, _, _, _, _, _, _, _, _, _, _, _, _, _, _, _, _, _, _, _, _, _, _, _, _, _, _, _, _, _, _, _, _, _, _, _, _, _, _, _, _, _, _, _, _, _, _, _, _, _, _, _, _, _, _, _, _, _, _, _, _, _, _, _, _, _, _, _, _, _, _, _, _, _, _, _, _, _, _, _, _, _, _, _, _, _, _, _, _, _, _, _, _, _, _, _, _, _, _, _, _, _, _, _, _, _, _, _, _, _, _, _, _, _, _, _, _, _, _, _, _, _, _, _, _, _, _, _, _, _, _, _, _, _, _, _, _, _, _, _, _, _, _, _, _, _, _, _, _, _, _, _, _, _, _, _, _, _, _, _, _, _, _, _, _, _, _, _, _, _, _, _, _, _, _, _, _, _, _, _, _, _, _, _, _, _, _, _, _, _, _, _, _, _, _, _, _, _, _, _, _, _, _, _, _, _, _, _, _, _, _, _, _, _, _, _, _, _, _, _, _]) rfl ?_
   refine TD.cnewP (pend' := [⟨9, [70, 72], []⟩, ⟨8, [71], [(_, _)]⟩, ⟨7, [6], []⟩, ⟨6, [68, 69], []⟩, ⟨5, [13], []⟩, ⟨4, [14], []⟩]) [] rfl rfl rfl rfl rfl (n_allocA rfl TyZA.h) (fun _ => putS rfl (by simp only [List.set]; rfl)) (by simp) fun jo hjo => ?_
   refine TD.s (pend' := [⟨9, [70, 72], []⟩, ⟨8, [71], [(_, _)]⟩, ⟨7, [6], []⟩, ⟨6, [68, 69], []⟩, ⟨5, [13], []⟩, ⟨4, [14], []⟩]) [16, 67] rfl rfl (q_store rfl rfl TySz.h rfl rfl (by repeat (first | exact List.Mem.head _ | assumption | apply List.Mem.tail)) rfl) ?_
   refine TD.as (pend' := []) [73] rfl rfl (q_assign rfl rfl) ?_
   refine TD.fin ?_
   refine TK.maskL [4, 5, 6, 12, 13, 14, 15, 16, 17] ?_
   refine TK.kp ((jo, _) :: (jb, _) :: (0, _) :: (1, _) :: (o1, _) :: (o2, _) :: (s, _) :: (e, _) :: []) ?_
   refine Eq.mp ?_ (hcont jo o1 o2 0)
   clear hcont
   congr 1 <;> rfl
  ·refine exK_newP rfl (n_allocA rfl TyZA.h) (fun _ => putS rfl (by simp only [List.set]; rfl)) (by simp) fun jo hjo => ?_
   refine TD.cl (pend' := [⟨9, [70, 72], []⟩, ⟨8, [71], [(_, _)]⟩, ⟨7, [6], []⟩, ⟨6, [68, 69], []⟩, ⟨5, [13], []⟩, ⟨4, [14], []⟩]) [64, 65, 66] rfl rfl rfl rfl rfl (turned_ok hT (b := b) (by' := y) (bk := bk) hck hyl) (fun r10 K11 h12 => ⟨?_, ?_⟩)
   ·rcases h12 with ⟨o1, o2, rfl, rfl⟩
    all_goals simp
   obtain ⟨o1, o2, rfl, rfl⟩ := h12
   try simp only [List.cons_append, List.nil_append]
   refine TD.norm (by simp only [List.set]; rfl) ?_
   refine TD.s (pend' := [⟨9, [70, 72], []⟩, ⟨8, [71], [(_, _)]⟩, ⟨7, [6], []⟩, ⟨6, [68, 69], []⟩, ⟨5, [13], []⟩, ⟨4, [14], []⟩]) [16, 67] rfl rfl (q_store rfl rfl TySz.h rfl rfl (by repeat (first | exact List.Mem.head _ | assumption | apply List.Mem.tail)) rfl) ?_
   refine TD.as (pend' := []) [73] rfl rfl (q_assign rfl rfl) ?_
   refine TD.fin ?_
   refine TK.maskL [4, 5, 6, 12, 13, 14, 15, 16, 17] ?_
   refine TK.kp ((jo, _) :: (jb, _) :: (0, _) :: (1, _) :: (o1, _) :: (o2, _) :: (s, _) :: (e, _) :: []) ?_
   refine Eq.mp ?_ (hcont jo o1 o2 0)
   clear hcont
   congr 1 <;> rfl
 ·skip
  refine au [4, 4] ?_
  have hco : checkM (turnB b y bk) = 0 := turn_check hck
  have hon : ∀ x ∈ (turnB b y bk).seekers, x.name.size ≤ 1000 := turn_names hf.names
  have hol : (turnB b y bk).seen.length ≤ 1000 := by have := (bkOk_of hco).ne; omega
  have hal := arc_bd (n := b.steps) (by' := y) (bk := bk) (lo := i) (w := w) (by omega)
  refine TK.nd fun hnd => ?_
  have ho12 : o1 ≠ o2 := fun h => by subst h; simp [keys] at hnd
  refine au [5, 1, 3] ?_
  refine TK.share (fun ja _ _ _ => slotsA 329 [(4, .v (.int .u8 k4)), (6, .ptr jb 0), (12, boolA false), (14, intA i), (15, intA w), (16, .ptr jo 0), (17, intA (arcB b.steps y bk i w))]) (fun ja _ _ _ => (jo, .cells (bookC (turnB b y bk) o1 o2) 27 true) :: (jb, .cells (bookC b s e) 27 true) :: (0, checksG) :: (1, saysG) :: (o1, saysO (turnB b y bk)) :: (o2, seenO (turnB b y bk)) :: (s, saysO b) :: (e, seenO b) :: []) (fun hcont => ?_) (fun ja _ _ _ => ?_)
  ·skip
   refine au [20] ?_
   refine ⟨fun hc1 => ?_, fun hc1 => ?_⟩
   ·skip
    refine au [5, 1, 1, 24, 1, 24, 23, 7, 9] ?_
    refine TK.a rfl (q_mul rfl rfl rfl (by omega)) ?_
    refine au [23, 7, 9] ?_
    refine TK.a rfl (q_rem rfl rfl rfl (by omega) (by omega)) ?_
    refine au [2, 3] ?_
    rw [show (y - i - w + 1 + 2 * b.steps) % b.steps = arcB b.steps y bk i w by rw [hc1]; exact arc_t]
    refine TK.maskL [4, 6, 12, 14, 15, 16, 17] ?_
    refine TK.kp ((jo, _) :: (jb, _) :: (0, _) :: (1, _) :: (o1, _) :: (o2, _) :: (s, _) :: (e, _) :: []) ?_
    refine Eq.mp ?_ (hcont 0 0 0 0)
    clear hcont
    congr 1 <;> rfl
   ·skip
    refine au [12] ?_
    rw [show (i + y) % b.steps = arcB b.steps y bk i w by rw [hc1]; exact arc_f]
    refine TK.maskL [4, 6, 12, 14, 15, 16, 17] ?_
    refine TK.kp ((jo, _) :: (jb, _) :: (0, _) :: (1, _) :: (o1, _) :: (o2, _) :: (s, _) :: (e, _) :: []) ?_
    refine Eq.mp ?_ (hcont 0 0 0 0)
    clear hcont
    congr 1 <;> rfl
  ·skip
   refine au [4, 5, 8] ?_
   refine TK.cl rfl rfl rfl rfl (statesApi_ok hT hse hf.names hf.seen) ?_
   rintro r13 K14 ⟨rfl, rfl⟩
   refine au [] ?_
   rw [(states_one hck).1, (states_one hck).2]
   refine au [1, 10, 10, 2, 2, 3, 4, 5, 8] ?_
   refine TK.cl rfl rfl rfl rfl (statesApi_ok hT (b := (turnB b y bk)) ho12 hon hol) ?_
   rintro r16 K17 ⟨rfl, rfl⟩
   refine au [] ?_
   rw [(states_one hco).1, (states_one hco).2, turn_len hp]
   refine au [1, 10, 10, 2, 2, 3, 4] ?_
   refine TK.share (fun jx _ _ _ => slotsA 329 [(4, .v (.int .u8 k4)), (6, .ptr jb 0), (12, boolA false), (14, intA i), (15, intA w), (16, .ptr jo 0), (17, intA (arcB b.steps y bk i w)), (18, intA (statesM b).length), (19, intA 0), (20, intA (statesM b).length), (21, intA 0), (22, .ptr jx 0), (23, intA (withinApi b i ((i + w - 1) % b.steps)).2)]) (fun jx _ _ _ => (jx, .cells [intA (withinApi b i ((i + w - 1) % b.steps)).1.1, intA (withinApi b i ((i + w - 1) % b.steps)).1.2] 23 true) :: (jo, .cells (bookC (turnB b y bk) o1 o2) 27 true) :: (jb, .cells (bookC b s e) 27 true) :: (0, checksG) :: (1, saysG) :: (o1, saysO (turnB b y bk)) :: (o2, seenO (turnB b y bk)) :: (s, saysO b) :: (e, seenO b) :: []) (fun hcont => ?_) (fun jx _ _ _ => ?_)
   ·refine TK.draw [0, 1, 2, 3, 4, 5, 6, 7, 8, 9, 10, 11, 12, 13, 14, 15] [0, 1, 2, 3, 4, 5, 6, 7, 8, 9, 10, 11, 13, 14, 12, 15] (by kernel_rfl) (by kernel_rfl) ?_
    refine TD.y [6] rfl (hq := q_load rfl rfl TySz.h (List.Mem.head _) rfl) (h := ?_)
    refine TD.z [14] rfl (q_move rfl rfl) ?_
    refine TD.z [14] rfl (q_move rfl rfl) ?_
    refine TD.z [15] rfl (q_move rfl rfl) ?_
    refine TD.z [101, 102] rfl (q_add rfl rfl rfl (by omega)) ?_
    refine TD.z [103] rfl (q_sub rfl rfl rfl (by omega)) ?_
    refine TD.z [6] rfl (q_fieldAddr rfl rfl FldOf.h (by decide)) ?_
    refine TD.y [105] rfl (hq := q_load1 rfl rfl TySz.h (List.Mem.head _) rfl) (h := ?_)
    refine TD.z [104, 106] rfl (q_rem rfl rfl rfl (by omega) (by omega)) ?_
    refine TD.c2 (i1 := 9) (i2 := 13) (pend1 := [⟨7, [105], [(_, _)]⟩, ⟨6, [6], []⟩, ⟨5, [103], []⟩, ⟨4, [101, 102], []⟩, ⟨3, [15], []⟩, ⟨2, [14], []⟩]) (pend2 := [⟨8, [104, 106], []⟩, ⟨7, [105], [(_, _)]⟩, ⟨6, [6], []⟩, ⟨5, [103], []⟩, ⟨4, [101, 102], []⟩, ⟨3, [15], []⟩, ⟨2, [14], []⟩, ⟨1, [14], []⟩, ⟨0, [6], [(_, _)]⟩]) (L1 := [10, 11, 12, 13, 14, 15]) (L2 := [9, 10, 11, 12, 14, 15]) [99, 100, 107] [] rfl rfl rfl rfl rfl rfl rfl ?_ ?_
    ·refine exK_callO rfl rfl Cal.h rfl (withinApi_ok hT (lo := i) (hi := (i + w - 1) % b.steps) hse hf.names hf.seen) (by repeat (first | exact Split.none _ | exact Split.all _ | (apply Split.rem; repeat (first | exact Rem.head | apply Rem.tail)) | apply Split.right)) fun r19 K20 h21 => ⟨?_, ?_⟩
     ·rcases h21 with ⟨rfl, rfl⟩
      all_goals simp
     obtain ⟨rfl, rfl⟩ := h21
     try simp only [List.cons_append, List.nil_append]
     refine TD.norm (env' := [_, _, _, _, _, _, _, _, _, _, _, _, _, _, _, _, _, _, _, _, _, _, _, _, _, _, _, _, _, _, _, _, _, _, _, _, _, _, _, _, _, _, _, _, _, _, _, _, _, _, _, _, _, _, _, _, _, _, _, _, _, _, _, _, _, _, _, _, _, _, _, _, _, _, _, _, _, _, _, _, _, _, _, _, _, _, _, _, _, _, _, _, _, _, _, _, _, _, _, _, _, _, _, _, _, _, _, _, _, _, _, _, _, _, _, _, _, _, _, _, _, _, _, _, _, _, _, _, _, _, _, _, _, _, _, _, _, _, _, _, _, _, _, _, _, _, _, _, _, _, _, _, _, _, _, _, _, _, _, _, _, _, _, _, _, _, _, _, _, _, _, _, _, _, _, _, _, _, _, _, _, _, _, _, _, _, _, _, _, _, _, _, _, _, _, _, _, _, _, _, _, _, _, _, _, _, _, _, _, _, _, _, _, _, _, _, _, _, _, _, _, _, _, _, _, _, _, _, _, _, _, _, _, _, _, _, _, _, _, _, _, _, _, _, _, _, _, _, _, _, _, _, _, _, _, _, _, _, _, _, _, _, _, _, _, _, _, _, _, _, _, _, _, _, _, _, _, _, _, _, _, _, _, _, _, _, _, _, _, _, _, _, _, _, _, _, _, _, _, _, _, _, _, _, _, _, _, _, _, _, _, _, _, _, _, _, _, _, _, _, _, _, _, _, _, _, _, _, _]) rfl ?_
     refine TD.z [108] rfl (q_move rfl rfl) ?_
     refine TD.z [98] rfl (q_extract rfl rfl rfl) ?_
     refine TD.z [98] rfl (q_extract rfl rfl rfl) ?_
     refine TD.cnewP (pend' := [⟨12, [98], []⟩, ⟨11, [98], []⟩, ⟨10, [108], []⟩, ⟨7, [105], [(_, _)]⟩, ⟨6, [6], []⟩, ⟨5, [103], []⟩, ⟨4, [101, 102], []⟩, ⟨3, [15], []⟩, ⟨2, [14], []⟩]) [] rfl rfl rfl rfl rfl (n_allocA rfl TyZA.h) (fun _ => putS rfl (by simp only [List.set]; rfl)) (by simp) fun jx hjx => ?_
     refine TD.s (pend' := [⟨12, [98], []⟩]) [22, 109] rfl rfl (q_store rfl rfl TySz.h rfl rfl (by repeat (first | exact List.Mem.head _ | assumption | apply List.Mem.tail)) rfl) ?_
     refine TD.as (pend' := []) [110] rfl rfl (q_assign rfl rfl) ?_
     refine TD.fin ?_
     refine TK.maskL [4, 6, 12, 14, 15, 16, 17, 18, 19, 20, 21, 22, 23] ?_
     refine TK.kp ((jx, _) :: (jo, _) :: (jb, _) :: (0, _) :: (1, _) :: (o1, _) :: (o2, _) :: (s, _) :: (e, _) :: []) ?_
     refine Eq.mp ?_ (hcont jx 0 0 0)
     clear hcont
     congr 1 <;> rfl
    ·refine exK_newP rfl (n_allocA rfl TyZA.h) (fun _ => putS rfl (by simp only [List.set]; rfl)) (by simp) fun jx hjx => ?_
     refine TD.cl (pend' := [⟨7, [105], [(_, _)]⟩, ⟨6, [6], []⟩, ⟨5, [103], []⟩, ⟨4, [101, 102], []⟩, ⟨3, [15], []⟩, ⟨2, [14], []⟩]) [99, 100, 107] rfl rfl rfl rfl rfl (withinApi_ok hT (lo := i) (hi := (i + w - 1) % b.steps) hse hf.names hf.seen) (fun r22 K23 h24 => ⟨?_, ?_⟩)
     ·rcases h24 with ⟨rfl, rfl⟩
      all_goals simp
     obtain ⟨rfl, rfl⟩ := h24
     try simp only [List.cons_append, List.nil_append]
     refine TD.norm (by simp only [List.set]; rfl) ?_
     refine TD.z [108] rfl (q_move rfl rfl) ?_
     refine TD.z [98] rfl (q_extract rfl rfl rfl) ?_
     refine TD.z [98] rfl (q_extract rfl rfl rfl) ?_
     refine TD.s (pend' := [⟨12, [98], []⟩]) [22, 109] rfl rfl (q_store rfl rfl TySz.h rfl rfl (by repeat (first | exact List.Mem.head _ | assumption | apply List.Mem.tail)) rfl) ?_
     refine TD.as (pend' := []) [110] rfl rfl (q_assign rfl rfl) ?_
     refine TD.fin ?_
     refine TK.maskL [4, 6, 12, 14, 15, 16, 17, 18, 19, 20, 21, 22, 23] ?_
     refine TK.kp ((jx, _) :: (jo, _) :: (jb, _) :: (0, _) :: (1, _) :: (o1, _) :: (o2, _) :: (s, _) :: (e, _) :: []) ?_
     refine Eq.mp ?_ (hcont jx 0 0 0)
     clear hcont
     congr 1 <;> rfl
   ·skip
    refine au [4] ?_
    refine TK.share (fun jy _ _ _ => slotsA 329 [(4, .v (.int .u8 k4)), (6, .ptr jb 0), (12, boolA false), (14, intA i), (15, intA w), (16, .ptr jo 0), (17, intA (arcB b.steps y bk i w)), (18, intA (statesM b).length), (19, intA 0), (20, intA (statesM b).length), (21, intA 0), (22, .ptr jx 0), (23, intA (withinApi b i ((i + w - 1) % b.steps)).2), (24, .ptr jy 0), (25, intA (withinApi b i ((i + w - 1) % b.steps)).2)]) (fun jy _ _ _ => (jy, .cells [intA (withinApi b i ((i + w - 1) % b.steps)).1.1, intA (withinApi b i ((i + w - 1) % b.steps)).1.2] 23 true) :: (jx, .cells [intA (withinApi b i ((i + w - 1) % b.steps)).1.1, intA (withinApi b i ((i + w - 1) % b.steps)).1.2] 23 true) :: (jo, .cells (bookC (turnB b y bk) o1 o2) 27 true) :: (jb, .cells (bookC b s e) 27 true) :: (0, checksG) :: (1, saysG) :: (o1, saysO (turnB b y bk)) :: (o2, seenO (turnB b y bk)) :: (s, saysO b) :: (e, seenO b) :: []) (fun hcont => ?_) (fun jy _ _ _ => ?_)
    ·refine TK.draw [0, 1, 2, 3, 4, 5, 6, 7, 8, 9, 10, 11, 12, 13, 14, 15] [0, 1, 2, 3, 4, 5, 6, 7, 8, 9, 10, 11, 13, 14, 12, 15] (by kernel_rfl) (by kernel_rfl) ?_
     refine TD.y [16] rfl (hq := q_load rfl rfl TySz.h (List.Mem.head _) rfl) (h := ?_)
     refine TD.z [17] rfl (q_move rfl rfl) ?_
     refine TD.z [17] rfl (q_move rfl rfl) ?_
     refine TD.z [15] rfl (q_move rfl rfl) ?_
     refine TD.z [114, 115] rfl (q_add rfl rfl rfl (by omega)) ?_
     refine TD.z [116] rfl (q_sub rfl rfl rfl (by omega)) ?_
     refine TD.z [6] rfl (q_fieldAddr rfl rfl FldOf.h (by decide)) ?_
     refine TD.y [118] rfl (hq := q_load1 rfl rfl TySz.h (List.Mem.head _) rfl) (h := ?_)
     refine TD.z [117, 119] rfl (q_rem rfl rfl rfl (by omega) (by omega)) ?_
     refine TD.c2 (i1 := 9) (i2 := 13) (pend1 := [⟨7, [118], [(_, _)]⟩, ⟨6, [6], []⟩, ⟨5, [116], []⟩, ⟨4, [114, 115], []⟩, ⟨3, [15], []⟩, ⟨2, [17], []⟩]) (pend2 := [⟨8, [117, 119], []⟩, ⟨7, [118], [(_, _)]⟩, ⟨6, [6], []⟩, ⟨5, [116], []⟩, ⟨4, [114, 115], []⟩, ⟨3, [15], []⟩, ⟨2, [17], []⟩, ⟨1, [17], []⟩, ⟨0, [16], [(_, _)]⟩]) (L1 := [10, 11, 12, 13, 14, 15]) (L2 := [9, 10, 11, 12, 14, 15]) [112, 113, 120] [] rfl rfl rfl rfl rfl rfl rfl ?_ ?_
     ·refine exK_callO rfl rfl Cal.h rfl (withinApi_ok hT (b := (turnB b y bk)) (lo := arcB b.steps y bk i w) (hi := (arcB b.steps y bk i w + w - 1) % b.steps) ho12 hon hol) (by repeat (first | exact Split.none _ | exact Split.all _ | (apply Split.rem; repeat (first | exact Rem.head | apply Rem.tail)) | apply Split.right)) fun r25 K26 h27 => ⟨?_, ?_⟩
      ·rcases h27 with ⟨rfl, rfl⟩
       all_goals simp
      obtain ⟨rfl, rfl⟩ := h27
      try simp only [List.cons_append, List.nil_append]
      refine TD.norm (env' := [_, _, _, _, _, _, _, _, _, _, _, _, _, _, _, _, _, _, _, _, _, _, _, _, _, _, _, _, _, _, _, _, _, _, _, _, _, _, _, _, _, _, _, _, _, _, _, _, _, _, _, _, _, _, _, _, _, _, _, _, _, _, _, _, _, _, _, _, _, _, _, _, _, _, _, _, _, _, _, _, _, _, _, _, _, _, _, _, _, _, _, _, _, _, _, _, _, _, _, _, _, _, _, _, _, _, _, _, _, _, _, _, _, _, _, _, _, _, _, _, _, _, _, _, _, _, _, _, _, _, _, _, _, _, _, _, _, _, _, _, _, _, _, _, _, _, _, _, _, _, _, _, _, _, _, _, _, _, _, _, _, _, _, _, _, _, _, _, _, _, _, _, _, _, _, _, _, _, _, _, _, _, _, _, _, _, _, _, _, _, _, _, _, _, _, _, _, _, _, _, _, _, _, _, _, _, _, _, _, _, _, _, _, _, _, _, _, _, _, _, _, _, _, _, _, _, _, _, _, _, _, _, _, _, _, _, _, _, _, _, _, _, _, _, _, _, _, _, _, _, _, _, _, _, _, _, _, _, _, _, _, _, _, _, _, _, _, _, _, _, _, _, _, _, _, _, _, _, _, _, _, _, _, _, _, _, _, _, _, _, _, _, _, _, _, _, _, _, _, _, _, _, _, _, _, _, _, _, _, _, _, _, _, _, _, _, _, _, _, _, _, _, _, _, _, _, _, _, _]) rfl ?_
      rw [turn_api hck hil hwl]
      refine TD.z [121] rfl (q_move rfl rfl) ?_
      refine TD.z [111] rfl (q_extract rfl rfl rfl) ?_
      refine TD.z [111] rfl (q_extract rfl rfl rfl) ?_
      refine TD.cnewP (pend' := [⟨12, [111], []⟩, ⟨11, [111], []⟩, ⟨10, [121], []⟩, ⟨7, [118], [(_, _)]⟩, ⟨6, [6], []⟩, ⟨5, [116], []⟩, ⟨4, [114, 115], []⟩, ⟨3, [15], []⟩, ⟨2, [17], []⟩]) [] rfl rfl rfl rfl rfl (n_allocA rfl TyZA.h) (fun _ => putS rfl (by simp only [List.set]; rfl)) (by simp) fun jy hjy => ?_
      refine TD.s (pend' := [⟨12, [111], []⟩]) [24, 122] rfl rfl (q_store rfl rfl TySz.h rfl rfl (by repeat (first | exact List.Mem.head _ | assumption | apply List.Mem.tail)) rfl) ?_
      refine TD.as (pend' := []) [123] rfl rfl (q_assign rfl rfl) ?_
      refine TD.fin ?_
      refine TK.maskL [4, 6, 12, 14, 15, 16, 17, 18, 19, 20, 21, 22, 23, 24, 25] ?_
      refine TK.kp ((jy, _) :: (jx, _) :: (jo, _) :: (jb, _) :: (0, _) :: (1, _) :: (o1, _) :: (o2, _) :: (s, _) :: (e, _) :: []) ?_
      refine Eq.mp ?_ (hcont jy 0 0 0)
      clear hcont
      congr 1 <;> rfl
     ·refine exK_newP rfl (n_allocA rfl TyZA.h) (fun _ => putS rfl (by simp only [List.set]; rfl)) (by simp) fun jy hjy => ?_
      refine TD.cl (pend' := [⟨7, [118], [(_, _)]⟩, ⟨6, [6], []⟩, ⟨5, [116], []⟩, ⟨4, [114, 115], []⟩, ⟨3, [15], []⟩, ⟨2, [17], []⟩]) [112, 113, 120] rfl rfl rfl rfl rfl (withinApi_ok hT (b := (turnB b y bk)) (lo := arcB b.steps y bk i w) (hi := (arcB b.steps y bk i w + w - 1) % b.steps) ho12 hon hol) (fun r28 K29 h30 => ⟨?_, ?_⟩)
      ·rcases h30 with ⟨rfl, rfl⟩
       all_goals simp
      obtain ⟨rfl, rfl⟩ := h30
      try simp only [List.cons_append, List.nil_append]
      refine TD.norm (by simp only [List.set]; rfl) ?_
      rw [turn_api hck hil hwl]
      refine TD.z [121] rfl (q_move rfl rfl) ?_
      refine TD.z [111] rfl (q_extract rfl rfl rfl) ?_
      refine TD.z [111] rfl (q_extract rfl rfl rfl) ?_
      refine TD.s (pend' := [⟨12, [111], []⟩]) [24, 122] rfl rfl (q_store rfl rfl TySz.h rfl rfl (by repeat (first | exact List.Mem.head _ | assumption | apply List.Mem.tail)) rfl) ?_
      refine TD.as (pend' := []) [123] rfl rfl (q_assign rfl rfl) ?_
      refine TD.fin ?_
      refine TK.maskL [4, 6, 12, 14, 15, 16, 17, 18, 19, 20, 21, 22, 23, 24, 25] ?_
      refine TK.kp ((jy, _) :: (jx, _) :: (jo, _) :: (jb, _) :: (0, _) :: (1, _) :: (o1, _) :: (o2, _) :: (s, _) :: (e, _) :: []) ?_
      refine Eq.mp ?_ (hcont jy 0 0 0)
      clear hcont
      congr 1 <;> rfl
    ·skip
     refine au [4, 5, 8] ?_
     refine TK.cl rfl rfl rfl rfl (narrow_ok tame hse hf.names hf.seen) ?_
     rintro r31 K32 ⟨rfl, rfl⟩
     refine au [1, 10, 10, 10, 10, 2, 2, 2, 2, 3, 4, 5, 8] ?_
     refine TK.cl rfl rfl rfl rfl (narrow_ok tame (b := (turnB b y bk)) ho12 hon hol) ?_
     rintro r34 K35 ⟨rfl, rfl⟩
     refine au [] ?_
     rw [(turn_narrow hck).1, (turn_narrow hck).2]
     refine au [1, 10, 10, 10, 10, 2, 2, 2, 2, 3, 4, 4, 5, 1, 6, 1] ?_
     refine TK.sp 140 (fun g13_3 => ?_) (fun g13_3 => ?_)
     ·simp at g13_3
     refine au [1, 6, 25, 1] ?_
     refine TK.sp 144 (fun g13_7 => ?_) (fun g13_7 => ?_)
     ·simp at g13_7
     refine au [1, 1, 6, 25, 1] ?_
     refine TK.sp 149 (fun g13_12 => ?_) (fun g13_12 => ?_)
     ·simp at g13_12
     refine au [1, 1, 6, 25, 1] ?_
     refine TK.sp 154 (fun g13_17 => ?_) (fun g13_17 => ?_)
     ·simp at g13_17
     refine au [8, 8] ?_
     refine TK.a rfl (q_neqFlat rfl rfl rfl rfl rfl FlatF.h EqG.h) ?_
     refine au [25, 1] ?_
     refine TK.sp 159 (fun g13_22 => ?_) (fun g13_22 => ?_)
     ·simp at g13_22
     refine au [1, 1, 6, 25, 1] ?_
     refine TK.sp 164 (fun g13_27 => ?_) (fun g13_27 => ?_)
     ·simp at g13_27
     refine au [1, 1, 6, 25, 1] ?_
     refine TK.sp 169 (fun g13_32 => ?_) (fun g13_32 => ?_)
     ·simp at g13_32
     refine au [1, 1, 34, 25, 3, 20] ?_
     refine ⟨fun hc2 => ?_, fun hc2 => ?_⟩
     ·simp at hc2
     refine au [12, 4] ?_
     refine TK.share (fun ja _ _ _ => slotsA 329 [(4, .v (.int .u8 k4)), (6, .ptr jb 0), (12, boolA false), (14, intA i), (15, intA w), (16, .ptr jo 0), (18, intA (statesM b).length), (19, intA 0), (28, boolA (lkL b).2), (35, intA (lkL b).1)]) (fun ja _ _ _ => (jo, .cells (bookC (turnB b y bk) o1 o2) 27 true) :: (jb, .cells (bookC b s e) 27 true) :: (0, checksG) :: (1, saysG) :: (o1, saysO (turnB b y bk)) :: (o2, seenO (turnB b y bk)) :: (s, saysO b) :: (e, seenO b) :: []) (fun hcont => ?_) (fun ja _ _ _ => ?_)
     ·skip
      refine au [5, 8] ?_
      refine TK.cl rfl rfl rfl rfl (likely_ok hT hse hf.names hf.seen) ?_
      rintro r37 K38 h39
      rcases h39 with ⟨hb2, rfl, rfl⟩ | ⟨hb2, hg0, rfl, rfl⟩ | ⟨hb2, hg0, jl, rfl, rfl⟩
      ·refine au [] ?_
       exact absurd hck hb2
      ·refine au [1, 10, 10, 10, 10, 2, 2, 2, 2, 3] ?_
       refine TK.maskL [4, 6, 12, 14, 15, 16, 18, 19, 28, 35] ?_
       refine TK.kp ((jo, _) :: (jb, _) :: (0, _) :: (1, _) :: (o1, _) :: (o2, _) :: (s, _) :: (e, _) :: []) ?_
       refine Eq.mp ?_ (hcont 0 0 0 0)
       clear hcont
       rw [lk_none hg0]
       congr 1 <;> rfl
      ·refine au [1, 10, 10, 10, 10, 2, 2, 2, 2, 3] ?_
       refine TK.maskL [4, 6, 12, 14, 15, 16, 18, 19, 28, 35] ?_
       refine TK.kp ((jo, _) :: (jb, _) :: (0, _) :: (1, _) :: (o1, _) :: (o2, _) :: (s, _) :: (e, _) :: []) ?_
       refine Eq.mp ?_ (hcont 0 0 0 0)
       clear hcont
       rw [lk_some hg0]
       congr 1 <;> rfl
     ·skip
      refine au [4] ?_
      refine TK.share (fun ja _ _ _ => slotsA 329 [(4, .v (.int .u8 k4)), (6, .ptr jb 0), (12, boolA false), (14, intA i), (15, intA w), (16, .ptr jo 0), (18, intA (statesM b).length), (19, intA 0), (21, intA 0), (28, boolA (lkL b).2), (32, boolA (lkL b).2), (35, intA (lkL b).1), (37, intA (lkL b).1)]) (fun ja _ _ _ => (jo, .cells (bookC (turnB b y bk) o1 o2) 27 true) :: (jb, .cells (bookC b s e) 27 true) :: (0, checksG) :: (1, saysG) :: (o1, saysO (turnB b y bk)) :: (o2, seenO (turnB b y bk)) :: (s, saysO b) :: (e, seenO b) :: []) (fun hcont => ?_) (fun ja _ _ _ => ?_)
      ·skip
       refine au [5, 8] ?_
       refine TK.cl rfl rfl rfl rfl (likely_ok hT (b := (turnB b y bk)) ho12 hon hol) ?_
       rintro r40 K41 h42
       rcases h42 with ⟨hb2, rfl, rfl⟩ | ⟨hb2, hg0, rfl, rfl⟩ | ⟨hb2, hg0, jl, rfl, rfl⟩
       ·refine au [] ?_
        exact absurd hco hb2
       ·refine au [1, 10, 10, 10, 10, 2, 2, 2, 2, 3] ?_
        refine TK.maskL [4, 6, 12, 14, 15, 16, 18, 19, 21, 28, 32, 35, 37] ?_
        refine TK.kp ((jo, _) :: (jb, _) :: (0, _) :: (1, _) :: (o1, _) :: (o2, _) :: (s, _) :: (e, _) :: []) ?_
        refine Eq.mp ?_ (hcont 0 0 0 0)
        clear hcont
        rw [← turn_lk hp, lk_none hg0]
        congr 1 <;> rfl
       ·refine au [1, 10, 10, 10, 10, 2, 2, 2, 2, 3] ?_
        refine TK.maskL [4, 6, 12, 14, 15, 16, 18, 19, 21, 28, 32, 35, 37] ?_
        refine TK.kp ((jo, _) :: (jb, _) :: (0, _) :: (1, _) :: (o1, _) :: (o2, _) :: (s, _) :: (e, _) :: []) ?_
        refine Eq.mp ?_ (hcont 0 0 0 0)
        clear hcont
        rw [← turn_lk hp, lk_some hg0]
        congr 1 <;> rfl
      ·skip
       refine au [4] ?_
       refine TK.share (fun ja _ _ _ => slotsA 329 [(4, .v (.int .u8 k4)), (6, .ptr jb 0), (12, boolA false), (14, intA i), (15, intA w), (16, .ptr jo 0), (18, intA (statesM b).length), (19, intA 0), (21, intA 0), (23, intA 0), (28, boolA (lkL b).2), (32, boolA (lkL b).2), (35, intA (lkL b).1), (37, intA (lkL b).1), (38, .sl ja 0 (ckL b).length)]) (fun ja _ _ _ => (ja, .cells ((ckL b).map intA) 3 false) :: (jo, .cells (bookC (turnB b y bk) o1 o2) 27 true) :: (jb, .cells (bookC b s e) 27 true) :: (0, checksG) :: (1, saysG) :: (o1, saysO (turnB b y bk)) :: (o2, seenO (turnB b y bk)) :: (s, saysO b) :: (e, seenO b) :: []) (fun hcont => ?_) (fun ja _ _ _ => ?_)
       ·skip
        refine au [5, 8] ?_
        refine TK.cl rfl rfl rfl rfl (clash_ok hT hse hf.names hf.seen) ?_
        rintro r43 K44 h45
        rcases h45 with ⟨hb2, rfl, rfl⟩ | ⟨hb2, ht0, rfl, rfl⟩ | ⟨hb2, ht0, jc, rfl, rfl⟩
        ·refine au [] ?_
         exact absurd hck hb2
        ·refine au [1, 10, 10, 2, 2, 3] ?_
         refine TK.nilSl 38 3 rfl fun jc hjc => ?_
         refine au [] ?_
         refine TK.maskL [4, 6, 12, 14, 15, 16, 18, 19, 21, 23, 28, 32, 35, 37, 38] ?_
         refine TK.kp ((jc, _) :: (jo, _) :: (jb, _) :: (0, _) :: (1, _) :: (o1, _) :: (o2, _) :: (s, _) :: (e, _) :: []) ?_
         refine Eq.mp ?_ (hcont jc 0 0 0)
         clear hcont
         rw [ck_none ht0]
         congr 1 <;> rfl
        ·refine au [1, 10, 10, 2, 2, 3] ?_
         refine TK.maskL [4, 6, 12, 14, 15, 16, 18, 19, 21, 23, 28, 32, 35, 37, 38] ?_
         refine TK.kp ((jc, _) :: (jo, _) :: (jb, _) :: (0, _) :: (1, _) :: (o1, _) :: (o2, _) :: (s, _) :: (e, _) :: []) ?_
         refine Eq.mp ?_ (hcont jc 0 0 0)
         clear hcont
         rw [ck_some ht0]
         congr 1 <;> rfl
       ·skip
        refine au [4] ?_
        refine TK.share (fun jd _ _ _ => slotsA 329 [(4, .v (.int .u8 k4)), (6, .ptr jb 0), (12, boolA false), (14, intA i), (15, intA w), (16, .ptr jo 0), (18, intA (statesM b).length), (19, intA 0), (21, intA 0), (23, intA 0), (25, intA 0), (28, boolA (lkL b).2), (32, boolA (lkL b).2), (35, intA (lkL b).1), (37, intA (lkL b).1), (38, .sl ja 0 (ckL b).length), (39, .sl jd 0 (ckL b).length)]) (fun jd _ _ _ => (jd, .cells ((ckL b).map intA) 3 false) :: (ja, .cells ((ckL b).map intA) 3 false) :: (jo, .cells (bookC (turnB b y bk) o1 o2) 27 true) :: (jb, .cells (bookC b s e) 27 true) :: (0, checksG) :: (1, saysG) :: (o1, saysO (turnB b y bk)) :: (o2, seenO (turnB b y bk)) :: (s, saysO b) :: (e, seenO b) :: []) (fun hcont => ?_) (fun jd _ _ _ => ?_)
        ·skip
         refine au [5, 8] ?_
         refine TK.cl rfl rfl rfl rfl (clash_ok hT (b := (turnB b y bk)) ho12 hon hol) ?_
         rintro r46 K47 h48
         rcases h48 with ⟨hb2, rfl, rfl⟩ | ⟨hb2, ht0, rfl, rfl⟩ | ⟨hb2, ht0, jc, rfl, rfl⟩
         ·refine au [] ?_
          exact absurd hco hb2
         ·refine au [1, 10, 10, 2, 2, 3] ?_
          refine TK.nilSl 39 3 rfl fun jc hjc => ?_
          refine au [] ?_
          refine TK.maskL [4, 6, 12, 14, 15, 16, 18, 19, 21, 23, 25, 28, 32, 35, 37, 38, 39] ?_
          refine TK.kp ((jc, _) :: (ja, _) :: (jo, _) :: (jb, _) :: (0, _) :: (1, _) :: (o1, _) :: (o2, _) :: (s, _) :: (e, _) :: []) ?_
          refine Eq.mp ?_ (hcont jc 0 0 0)
          clear hcont
          rw [← turn_ck hp, ck_none ht0]
          congr 1 <;> rfl
         ·refine au [1, 10, 10, 2, 2, 3] ?_
          refine TK.maskL [4, 6, 12, 14, 15, 16, 18, 19, 21, 23, 25, 28, 32, 35, 37, 38, 39] ?_
          refine TK.kp ((jc, _) :: (ja, _) :: (jo, _) :: (jb, _) :: (0, _) :: (1, _) :: (o1, _) :: (o2, _) :: (s, _) :: (e, _) :: []) ?_
          refine Eq.mp ?_ (hcont jc 0 0 0)
          clear hcont
          rw [← turn_ck hp, ck_some ht0]
          congr 1 <;> rfl
        ·skip
         refine au [4, 4] ?_
         refine TK.nd fun hnd => ?_
         have hjd : ja ≠ jd := fun h => by subst h; simp [keys] at hnd
         have hck2 := ck_len hb
         refine au [5, 1, 6, 1] ?_
         refine TK.sp 200 (fun g19_3 => ?_) (fun g19_3 => ?_)
         ·simp at g19_3
         refine au [1, 6, 25, 1] ?_
         refine TK.sp 204 (fun g19_7 => ?_) (fun g19_7 => ?_)
         ·simp at g19_7
         refine au [1, 1, 6, 25, 1] ?_
         refine TK.sp 209 (fun g19_12 => ?_) (fun g19_12 => ?_)
         ·simp at g19_12
         refine au [1, 1, 34, 25, 1] ?_
         refine TK.sp 214 (fun g19_17 => ?_) (fun g19_17 => ?_)
         ·simp at g19_17
         refine au [1, 6, 25, 1] ?_
         refine TK.sp 218 (fun g19_21 => ?_) (fun g19_21 => ?_)
         ·simp at g19_21
         refine au [1, 6, 25, 1] ?_
         refine TK.sp 222 (fun g19_25 => ?_) (fun g19_25 => ?_)
         ·simp at g19_25
         refine au [1, 1] ?_
         refine TK.cl rfl rfl rfl rfl (sameInts_ok hT hjd (ints_at (ckL b) 3 false) (ints_at (ckL b) 3 false) hck2) ?_
         rintro r49 K50 ⟨rfl, rfl⟩
         refine au [30, 25, 3, 20] ?_
         refine ⟨fun hc3 => ?_, fun hc3 => ?_⟩
         ·simp at hc3
         refine au [12, 4, 4] ?_
         refine TK.draw [0, 1, 2, 3, 4, 5, 6, 7, 8, 9] [0, 1, 2, 3, 4, 5, 6, 7, 8, 9] (by kernel_rfl) (by kernel_rfl) ?_
         refine TD.z [6] rfl (q_fieldAddr rfl rfl FldOf.h (by decide)) ?_
         refine TD.y [228] rfl (hq := q_load1 rfl rfl TySz.h (List.Mem.head _) rfl) (h := ?_)
         refine TD.z [229] rfl (q_len rfl rfl rfl Und.h) ?_
         refine TD.z [230] rfl (q_cmp rfl rfl rfl rfl) ?_
         refine TD.z [231] rfl (q_move rfl rfl) ?_
         refine TD.sp 232 (fun g21_5 => ?_) (fun g21_5 => ?_)
         ·refine TD.u [6, 232] rfl ?_
          refine TD.u [232, 233] rfl ?_
          refine TD.u [232] rfl ?_
          refine TD.u [232, 234, 235] rfl ?_
          refine TD.z [232, 236] rfl (q_pickT rfl rfl rfl) ?_
          refine TD.fin ?_
          refine au [18, 4, 5] ?_
          refine TK.cl rfl rfl rfl rfl (sought_ok tame) ?_
          rintro r52 K53 ⟨rfl, rfl⟩
          refine au [2, 3] ?_
          refine TK.rt hret [(0, _), (1, _), (s, _), (e, _)] ?_
          exact ⟨rfl, rfl⟩
         refine TD.z [6, 232] rfl (q_fieldAddr rfl rfl FldOf.h (by decide)) ?_
         refine TD.y [232, 233] rfl (hq := q_load rfl rfl TySz.h (List.Mem.head _) rfl) (h := ?_)
         refine TD.cl (pend' := [⟨6, [232, 233], [(_, _)]⟩, ⟨5, [6, 232], []⟩, ⟨3, [230], []⟩, ⟨2, [229], []⟩, ⟨1, [228], [(_, _)]⟩, ⟨0, [6], []⟩]) [232] rfl rfl rfl rfl rfl (one_ok2 hT) (fun r55 K56 h57 => ⟨?_, ?_⟩)
         ·rcases h57 with ⟨rfl, rfl⟩
          all_goals simp
         obtain ⟨rfl, rfl⟩ := h57
         try simp only [List.cons_append, List.nil_append]
         refine TD.norm (by simp only [List.set]; rfl) ?_
         refine TD.z [232, 234, 235] rfl (q_neqFlat rfl rfl rfl rfl rfl FlatF.h EqG.h) ?_
         refine TD.z [232, 236] rfl (q_pickF rfl rfl rfl) ?_
         refine TD.fin ?_
         refine au [20] ?_
         refine ⟨fun hc4 => ?_, fun hc4 => ?_⟩
         ·refine au [4, 5] ?_
          refine TK.cl rfl rfl rfl rfl (sought_ok tame) ?_
          rintro r58 K59 ⟨rfl, rfl⟩
          refine au [2, 3] ?_
          refine TK.rt hret [(0, _), (1, _), (s, _), (e, _)] ?_
          exact ⟨rfl, rfl⟩
         have hl0 : 0 < b.seekers.length := by
          have : ¬ ((b.seekers.length : Int) = 0) := by simpa using g21_5
          omega
         have hlh : b.low = 1 ∧ b.high = 1 := by simpa using hc4
         refine au [12, 4, 5, 1] ?_
         refine TK.a rfl (q_convInt rfl rfl Und.h Und.h (wrap_i64 (by omega))) ?_
         refine au [7, 9, 28] ?_
         refine TK.a rfl (q_rem rfl rfl rfl (by omega) (by omega)) ?_
         refine au [2, 3, 4] ?_
         obtain ⟨q, hq⟩ := Int.eq_ofNat_of_zero_le (Int.emod_nonneg k4 (show (b.seekers.length : Int) ≠ 0 by omega))
         have hq2 := Int.emod_lt_of_pos k4 (show 0 < (b.seekers.length : Int) by omega)
         rw [hq]
         have hql : q < b.seekers.length := by omega
         have hqx : b.seekers[q]? = some b.seekers[q] := List.getElem?_eq_getElem hql
         have hfr := hp.says _ (List.getElem_mem hql)
         refine au [5, 7, 9, 1, 36] ?_
         refine TK.a rfl (q_load rfl rfl TySz.h (by repeat (first | exact List.Mem.head _ | assumption | apply List.Mem.tail)) (says_at b q hql)) ?_
         refine au [22] ?_
         intro js hjs
         refine au [17, 3, 4, 4] ?_
         refine TK.draw [0, 1, 2, 3, 4, 5, 6, 7, 8, 9, 10, 11, 12, 13] [0, 1, 2, 3, 4, 5, 6, 7, 8, 9, 10, 11, 12, 13] (by kernel_rfl) (by kernel_rfl) ?_
         refine TD.z [41] rfl (q_fieldAddr rfl rfl FldOf.h (by decide)) ?_
         refine TD.y [250] rfl (hq := q_load1 rfl rfl TySz.h (List.Mem.head _) rfl) (h := ?_)
         refine TD.z [251] rfl (q_cmp rfl rfl rfl rfl) ?_
         refine TD.z [252] rfl (q_move rfl rfl) ?_
         refine TD.sp 253 (fun g25_4 => ?_) (fun g25_4 => ?_)
         ·refine TD.u [41, 253] rfl ?_
          refine TD.u [253, 254] rfl ?_
          refine TD.u [253, 255] rfl ?_
          refine TD.u [6, 253] rfl ?_
          refine TD.u [253, 257] rfl ?_
          refine TD.u [253, 256, 258] rfl ?_
          refine TD.u [41, 253] rfl ?_
          refine TD.u [253, 260] rfl ?_
          refine TD.u [253, 259, 261] rfl ?_
          refine TD.z [253, 262] rfl (q_pickT rfl rfl rfl) ?_
          refine TD.fin ?_
          refine au [18, 4, 5] ?_
          refine TK.cl rfl rfl rfl rfl (sought_ok tame) ?_
          rintro r61 K62 ⟨rfl, rfl⟩
          refine au [2, 3] ?_
          refine TK.rt hret [(0, _), (1, _), (s, _), (e, _)] ?_
          exact ⟨rfl, rfl⟩
         refine TD.z [41, 253] rfl (q_fieldAddr rfl rfl FldOf.h (by decide)) ?_
         refine TD.y [253, 254] rfl (hq := q_load1 rfl rfl TySz.h (List.Mem.head _) rfl) (h := ?_)
         refine TD.z [253, 255] rfl (q_add rfl rfl rfl (by omega)) ?_
         refine TD.z [6, 253] rfl (q_fieldAddr rfl rfl FldOf.h (by decide)) ?_
         refine TD.y [253, 257] rfl (hq := q_load1 rfl rfl TySz.h (List.Mem.head _) rfl) (h := ?_)
         refine TD.z [253, 256, 258] rfl (q_rem rfl rfl rfl (by omega) (by omega)) ?_
         refine TD.z [41, 253] rfl (q_fieldAddr rfl rfl FldOf.h (by decide)) ?_
         refine TD.y [253, 260] rfl (hq := q_load1 rfl rfl TySz.h (List.Mem.head _) rfl) (h := ?_)
         refine TD.z [253, 259, 261] rfl (q_cmp rfl rfl rfl rfl) ?_
         refine TD.z [253, 262] rfl (q_pickF rfl rfl rfl) ?_
         refine TD.fin ?_
         refine au [20] ?_
         refine ⟨fun hc5 => ?_, fun hc5 => ?_⟩
         ·refine au [4, 5] ?_
          refine TK.cl rfl rfl rfl rfl (sought_ok tame) ?_
          rintro r64 K65 ⟨rfl, rfl⟩
          refine au [2, 3] ?_
          refine TK.rt hret [(0, _), (1, _), (s, _), (e, _)] ?_
          exact ⟨rfl, rfl⟩
         have hs1 : b.seekers[q].says = 1 := by simpa using g25_4
         have hne : (b.seekers[q].til + 1) % b.steps ≠ b.seekers[q].frm := by simpa using hc5
         refine au [12, 4, 5, 8, 1] ?_
         refine TK.cl rfl rfl rfl rfl (givenRow_ok hT hf.says hql) ?_
         rintro r67 K68 ⟨j3, rfl, rfl⟩
         refine au [17, 3, 4] ?_
         refine TK.draw [0, 1, 2, 3, 4, 5, 6, 7, 8, 9, 10, 11, 12, 13, 14, 15, 16, 17, 18, 19, 20, 21, 22, 23, 24] [0, 1, 2, 3, 4, 5, 6, 7, 8, 9, 10, 11, 12, 13, 14, 15, 16, 17, 18, 19, 20, 21, 22, 23, 24] (by kernel_rfl) (by kernel_rfl) ?_
         refine TD.z [16] rfl (q_fieldAddr rfl rfl FldOf.h (by decide)) ?_
         refine TD.y [268] rfl (hq := q_load1 rfl rfl TySz.h (List.Mem.head _) rfl) (h := ?_)
         refine TD.z [40] rfl (q_move rfl rfl) ?_
         refine TD.z [41] rfl (q_fieldAddr rfl rfl FldOf.h (by decide)) ?_
         refine TD.y [271] rfl (hq := q_load1 rfl rfl TySz.h (List.Mem.head _) rfl) (h := ?_)
         refine TD.z [41] rfl (q_fieldAddr rfl rfl FldOf.h (by decide)) ?_
         refine TD.y [273] rfl (hq := q_load1 rfl rfl TySz.h (List.Mem.head _) rfl) (h := ?_)
         refine TD.z [274] rfl (q_add rfl rfl rfl (by omega)) ?_
         refine TD.z [6] rfl (q_fieldAddr rfl rfl FldOf.h (by decide)) ?_
         refine TD.y [276] rfl (hq := q_load1 rfl rfl TySz.h (List.Mem.head _) rfl) (h := ?_)
         refine TD.z [275, 277] rfl (q_rem rfl rfl rfl (by omega) (by omega)) ?_
         refine TD.z [41] rfl (q_fieldAddr rfl rfl FldOf.h (by decide)) ?_
         refine TD.y [279] rfl (hq := q_load1 rfl rfl TySz.h (List.Mem.head _) rfl) (h := ?_)
         refine TD.z [6] rfl (q_fieldAddr rfl rfl FldOf.h (by decide)) ?_
         refine TD.y [281] rfl (hq := q_load1 rfl rfl TySz.h (List.Mem.head _) rfl) (h := ?_)
         refine TD.z [280, 282] rfl (q_add rfl rfl rfl (by omega)) ?_
         refine TD.z [283] rfl (q_sub rfl rfl rfl (by omega)) ?_
         refine TD.z [6] rfl (q_fieldAddr rfl rfl FldOf.h (by decide)) ?_
         refine TD.y [285] rfl (hq := q_load1 rfl rfl TySz.h (List.Mem.head _) rfl) (h := ?_)
         refine TD.z [284, 286] rfl (q_rem rfl rfl rfl (by omega) (by omega)) ?_
         refine TD.z [41] rfl (q_fieldAddr rfl rfl FldOf.h (by decide)) ?_
         refine TD.y [288] rfl (hq := q_load1 rfl rfl TySz.h (List.Mem.head _) rfl) (h := ?_)
         refine TD.z [272, 278, 287, 289] rfl (q_build (l := [_, _, _, _, _]) rfl TyZ.h BlOf.h rfl) ?_
         refine TD.y [269, 270] rfl (hq := q_indexRow rfl rfl rfl SlEl.h (List.Mem.head _) (by omega) (by omega)) (h := ?_)
         refine TD.s (pend' := []) [290, 291] rfl rfl (q_store rfl rfl TySz.h rfl rfl (by repeat (first | exact List.Mem.head _ | assumption | apply List.Mem.tail)) (put_swap (y := swapX b.steps b.seekers[q]) hql)) ?_
         refine TD.fin ?_
         refine au [4] ?_
         refine TK.unrowAt (c := jo) (i := 4) (j := j3) rfl (by repeat (first | exact List.Mem.head _ | assumption | apply List.Mem.tail)) (by repeat (first | exact Upd.head | apply Upd.tail)) ?_
         refine TK.freeze 12 (j := j3) rfl (by repeat (first | exact Upd.head | apply Upd.tail)) rfl ?_
         rw [show AV.sl j3 0 b.seekers.length = AV.sl j3 0 (swapB b q b.seekers[q]).seekers.length by rw [swap_len]]
         have hcs := swap_check hck hqx
         have hsa := swap_at hck hqx hs1 hne hlh.1 hlh.2 i
         have hsn : ∀ x ∈ (swapB b q b.seekers[q]).seekers, x.name.size ≤ 1000 := fun x hx => by
          rcases List.mem_or_eq_of_mem_set hx with h | rfl
          ·exact hf.names x h
          ·exact (show b.seekers[q].name.size ≤ 1000 from hf.names _ (List.getElem_mem hql))
         refine TK.nd fun hnd => ?_
         have hj3e : j3 ≠ e := fun h => by subst h; simp [keys] at hnd
         refine au [5, 8] ?_
         refine TK.cl rfl rfl rfl rfl (statesApi_ok hT (b := swapB b q b.seekers[q]) hj3e hsn hf.seen) ?_
         rintro r70 K71 ⟨rfl, rfl⟩
         refine au [] ?_
         rw [hsa.2, (states_one hck).1, (states_one hck).2]
         refine au [1, 10, 10, 2, 2, 3, 4, 5, 8, 1] ?_
         refine TK.cl rfl rfl rfl rfl (atApi_ok hT (n := i) hse hf.names hf.seen) ?_
         rintro r73 K74 ⟨rfl, rfl⟩
         refine au [1, 10, 10, 2, 2, 3, 4, 5, 8, 1] ?_
         refine TK.cl rfl rfl rfl rfl (atApi_ok hT (b := swapB b q b.seekers[q]) (n := i) hj3e hsn hf.seen) ?_
         rintro r76 K77 ⟨rfl, rfl⟩
         refine au [] ?_
         rw [hsa.1]
         refine au [1, 10, 10, 2, 2, 3, 4, 5, 1, 6, 1] ?_
         refine TK.sp 311 (fun g32_3 => ?_) (fun g32_3 => ?_)
         ·refine au [1, 1, 6, 26, 1] ?_
          refine TK.sp 316 (fun g32_8 => ?_) (fun g32_8 => ?_)
          ·refine au [1, 1, 6, 26, 1] ?_
           refine TK.sp 321 (fun g32_13 => ?_) (fun g32_13 => ?_)
           ·refine au [1, 1, 6, 26, 1] ?_
            refine TK.sp 326 (fun g32_18 => ?_) (fun g32_18 => ?_)
            ·refine TK.cl rfl rfl rfl rfl (sought_ok tame) ?_
             rintro r79 K80 ⟨rfl, rfl⟩
             refine au [26, 2, 3] ?_
             refine TK.rt hret [(0, _), (1, _), (s, _), (e, _)] ?_
             exact ⟨rfl, rfl⟩
            simp at g32_18
           simp at g32_13
          simp at g32_8
         simp at g32_3
end Go.Vel
end
section
set_option linter.all false
set_option maxRecDepth 20000
set_option maxHeartbeats 60000000
namespace Go.Vel
open Go Go.Conc Go.Proofs Go.ChangeShapes Go.WideShapes Go.ChangeAt Go.RowKit
open Go.Proofs.YtpdioiojfgknbaaGreatDoor (Tryz.pinned)
def seekerTurnedPhi (x0a x0b : Value) : Nat → Loc3
 | 0 => ⟨0, 0, 0⟩
 | 1 => ⟨1, 0, 0⟩
 | 2 => locV x0a
 | 3 => locV x0b
 | _ => ⟨0, 0, 0⟩
theorem seekerTurned_run {W : World} (hl : laidMetH Tryz.prog tblLaid W) {b0 : Bk} {x0a x0b : Value} {k1 : Int} {k2 : Int} {k3 : Int} {k4 : Int} {k5 : Bool} (h0a : SlIn W saysV 5 b0.seekers x0a) (h0b : SlIn W seenV 2 b0.seen x0b) (h1 : 0 ≤ k1 ∧ k1 < 256) (h2 : 0 ≤ k2 ∧ k2 < 256) (h3 : 0 ≤ k3 ∧ k3 < 256) (h4 : 0 ≤ k4 ∧ k4 < 256) :
  ∃ M last o w' t', runNT Tryz.prog (M + 1) (solo (G (Frame.enter Tryz.prog 10 #[.agg #[.int .i64 b0.steps, .int .i64 b0.wrong, .int .i64 b0.low, .int .i64 b0.high, x0a, x0b], .int .u8 k1, .int .u8 k2, .int .u8 k3, .int .u8 k4, .bool k5] .normal) []) W) #[] = (.ended o w', t') ∧
   runN Tryz.prog M (solo (G (Frame.enter Tryz.prog 10 #[.agg #[.int .i64 b0.steps, .int .i64 b0.wrong, .int .i64 b0.low, .int .i64 b0.high, x0a, x0b], .int .u8 k1, .int .u8 k2, .int .u8 k3, .int .u8 k4, .bool k5] .normal) []) W) = .next last ∧
   step Tryz.prog last = .ended o w' ∧ Conc.Good Tryz.prog (fun v w => v = .bool true ∧ w.os = W.os ∧ w.output = W.output ∧ KeptAll W w) last o w' t' := by
 refine good_run (R := fun v w => v = .bool true ∧ KeptAll W w) (R' := fun v w => v = .bool true ∧ w.os = W.os ∧ w.output = W.output ∧ KeptAll W w) Tryz.func10 rfl (by kernel_rfl) (fun v w' ho hu hr => ⟨hr.1, ho, hu, hr.2⟩) (fun v w τ d h => h) (holdAll_fits W) ?_
 obtain ⟨ht0, ht1⟩ := of_laid hl
 refine lawTurned_top (b := b0) (s := 2) (e := 3) (k1 := k1) (k2 := k2) (k3 := k3) (k4 := k4) (bk := k5) (by decide) h1 h2 h3 h4 (A := [checksG, saysG, saysO b0, seenO b0]) (φ := seekerTurnedPhi x0a x0b) (F := holdAll W) ?_ ?_ ?_ ?_ ?_ ?_
 ·intro x hx
  simp only [List.mem_cons, List.not_mem_nil, or_false] at hx
  rcases hx with rfl | rfl | rfl | rfl <;> rfl
 ·simp [keys]
 ·intro g i hg
  match g, hg with
  | 0, hg => cases hg; exact ⟨by simp, rfl, rfl⟩
  | 1, hg => cases hg; exact ⟨by simp, rfl, rfl⟩
  | g + 2, hg => cases hg
 ·refine ⟨fun i o ho => ?_, fun i j o o' hi _ _ hx => ?_, fun b x h => h, fun i o hi hx => ?_⟩
  ·match i, ho with
   | 0, ho => cases ho; exact tbl_rel ht0
   | 1, ho => cases ho; exact tbl_rel ht1
   | 2, ho => cases ho; exact relO_in h0a (fun _ => rfl) says_rel
   | 3, ho => cases ho; exact relO_in h0b (fun _ => rfl) seen_rel
   | i + 4, ho => simp at ho
  ·match i, hi with
   | 0, hi => cases hi; cases hx
   | 1, hi => cases hi; cases hx
   | 2, hi => cases hi; cases hx
   | 3, hi => cases hi; cases hx
   | i + 4, hi => simp at hi
  ·match i, hi with
   | 0, hi => cases hi; cases hx
   | 1, hi => cases hi; cases hx
   | 2, hi => cases hi; cases hx
   | 3, hi => cases hi; cases hx
   | i + 4, hi => simp at hi
 ·refine ⟨rfl, fun j a y ha hy => ?_⟩
  match j, ha, hy with
  | 0, ha, hy =>
   cases ha; cases hy
   refine .agg rfl fun t u z hu hz => ?_
   match t, hu, hz with
   | 0, hu, hz => cases hu; cases hz; exact .v _
   | 1, hu, hz => cases hu; cases hz; exact .v _
   | 2, hu, hz => cases hu; cases hz; exact .v _
   | 3, hu, hz => cases hu; cases hz; exact .v _
   | 4, hu, hz => cases hu; cases hz; exact relV_in h0a (by simp) rfl
   | 5, hu, hz => cases hu; cases hz; exact relV_in h0b (by simp) rfl
   | t + 6, hu, hz => simp [bookC] at hu
  | 1, ha, hy =>
   cases ha; cases hy; exact .v _
  | 2, ha, hy =>
   cases ha; cases hy; exact .v _
  | 3, ha, hy =>
   cases ha; cases hy; exact .v _
  | 4, ha, hy =>
   cases ha; cases hy; exact .v _
  | 5, ha, hy =>
   cases ha; cases hy; exact .v _
  | j + 6, ha, hy => simp at ha
 ·rintro r K' φ' A' H' v w ⟨rfl, _⟩ hH' hv' hfit
  refine ⟨inv_v hv', fun i hi => ?_⟩
  have hh := Array.getElem?_eq_getElem hi
  rw [hh]
  exact hfit i false _ (hH'.fr _ _ (holdAll_get hh))
set_option maxRecDepth 100000 in
theorem seekerTurned_lifted (os : Os) (started : os.Started) (H : Type) (enc : TypeId × Value → H) :
  ReturnsInLeavingWide Go.Proofs.YtpdioiojfgknbaaGreatDoor.Rows.seekerTurnedRow.assume Tryz.checked os 10 .any (Go.Proofs.YtpdioiojfgknbaaGreatDoor.Rows.seekerTurnedRow.pre enc Tryz.prog Tryz.f10 (OpenSpec.ofChange Go.Proofs.YtpdioiojfgknbaaGreatDoor.Rows.seekerTurnedSpec))
   (Go.Proofs.YtpdioiojfgknbaaGreatDoor.Rows.seekerTurnedSpec.post enc Tryz.prog Tryz.f10 false true false false) := by
 refine returnsInLeavingWide_of_good (C := Tryz.checked) own started
  (ChangeSpec.witness_shaped (enc := enc) (C := Tryz.checked) (os := os) (X := fun w _ => laidMetH Tryz.prog tblLaid w) false (World.doorLaid Tryz.prog 400 os) #[.agg #[.int .i64 0, .int .i64 0, .int .i64 0, .int .i64 0, .slice none 0 0, .slice none 0 0], .int .u8 0, .int .u8 0, .int .u8 0, .int .u8 0, .bool false] 8 rfl (World.shaped_of_RefB (by kernel_rfl) (by kernel_rfl)) (by kernel_rfl) (by kernel_rfl) (by kernel_rfl) (door_met os _)) ?_
 intro w tape i _ _ _ hok hpre _
 obtain ⟨_, _, _, fn', hfn', _, _, _, _, hval0⟩ := hok
 obtain rfl : fn' = Tryz.f10 := Option.some.inj (hfn'.symm.trans Tryz.func10)
 obtain ⟨⟨⟨ds, gs, before, hw, hc⟩, hL0⟩, _⟩ := hpre
 have hW := DataW.Whole.of_heap (w' := w.forCall tape i) (by rfl) hw
 have hL : laidMetH Tryz.prog tblLaid (w.forCall tape i) := laidMetH.of_heap (by rfl) hL0
 obtain ⟨bl, args, vars⟩ := i
 generalize w.forCall tape ⟨bl, args, vars⟩ = W at hW hL hval0 ⊢
 have hW' := hW
 obtain ⟨p, q, hA0, hV0, rfl, _, _⟩ := hW
 have hA : DataW.TrodAll enc Tryz.prog W 0 (fun _ => true) true [27, 5, 5, 5, 5, 4] args.toList ds p := hA0
 obtain ⟨v0, u0, d0, ds0, p0, q0, hargs, rfl, rfl, t0, hr0⟩ := trodAll_cons hA
 obtain ⟨v1, u1, d1, ds1, p1, q1, rfl, rfl, rfl, t1, hr1⟩ := trodAll_cons hr0
 obtain ⟨v2, u2, d2, ds2, p2, q2, rfl, rfl, rfl, t2, hr2⟩ := trodAll_cons hr1
 obtain ⟨v3, u3, d3, ds3, p3, q3, rfl, rfl, rfl, t3, hr3⟩ := trodAll_cons hr2
 obtain ⟨v4, u4, d4, ds4, p4, q4, rfl, rfl, rfl, t4, hr4⟩ := trodAll_cons hr3
 obtain ⟨v5, u5, d5, ds5, p5, q5, rfl, rfl, rfl, t5, hr5⟩ := trodAll_cons hr4
 obtain ⟨rfl, rfl, rfl⟩ := trodAll_nil hr5
 obtain rfl : args = #[v0, v1, v2, v3, v4, v5] := by cases args; simp_all
 obtain ⟨rfl, rfl⟩ := trodVars_none hV0
 obtain ⟨b0, x0a, x0b, rfl, s0a, s0b⟩ := open_book (okAgg Tryz.underlying27 (hval0 0 27 v0 rfl rfl)) t0
 obtain ⟨k1, rfl, rfl, rfl, s1⟩ := open_int Tryz.underlying5 (hval0 1 5 v1 rfl rfl) t1
 obtain ⟨k2, rfl, rfl, rfl, s2⟩ := open_int Tryz.underlying5 (hval0 2 5 v2 rfl rfl) t2
 obtain ⟨k3, rfl, rfl, rfl, s3⟩ := open_int Tryz.underlying5 (hval0 3 5 v3 rfl rfl) t3
 obtain ⟨k4, rfl, rfl, rfl, s4⟩ := open_int Tryz.underlying5 (hval0 4 5 v4 rfl rfl) t4
 obtain ⟨k5, rfl, rfl, rfl⟩ := open_bool Tryz.underlying4 (hval0 5 4 v5 rfl rfl) t5
 obtain ⟨M, last, o, w', t', g1, g2, g3, g4⟩ := seekerTurned_run hL s0a s0b (u8_wf s1) (u8_wf s2) (u8_wf s3) (u8_wf s4) (k5 := k5)
 refine ⟨M, last, o, w', t', g1, g2, g3, g4.mono fun v hF => ?_⟩
 obtain ⟨rfl, ho, hu, hkp⟩ := hF
 refine ChangeSpec.post_blind ?_
 exact ⟨_, _, _, [], _, [], hW', trodAll_mk1 (shut_bool Tryz.underlying4 true), ⟨_, _, trod_mono laid_out t0 hkp, ⟨_, _, trod_mono laid_out t1 hkp, ⟨_, _, trod_mono laid_out t2 hkp, ⟨_, _, trod_mono laid_out t3 hkp, ⟨_, _, trod_mono laid_out t4 hkp, ⟨_, _, trod_mono laid_out t5 hkp, trodAll_mk0, rfl⟩, rfl⟩, rfl⟩, rfl⟩, rfl⟩, rfl⟩, rfl, kept_but ho hu hkp _, fun h => by cases h⟩
open Go.Proofs.YtpdioiojfgknbaaGreatDoor in
theorem seekerTurned_said : Rows.SeekerTurnedSaid :=
 OpenClaim.holds_of_wide_leaving 10 Tryz.f10 rfl rfl rfl rfl rfl rfl rfl ⟨rfl, rfl, rfl, rfl, rfl⟩ rfl rfl rfl rfl rfl (by kernel_rfl) Tryz.func10 (by kernel_rfl)
  (of_decide_eq_true (by kernel_rfl)) (by unfold Func.isWrapper; first | (rw [if_pos (by decide +kernel)]; kernel_rfl) | (rw [if_neg (by decide +kernel)]; exact ⟨rfl, rfl⟩))
  (fun os started H enc _ => seekerTurned_lifted os started H enc)
end Go.Vel
namespace Go.Proofs.YtpdioiojfgknbaaGreatDoor
open Go
theorem seekerTurned_holds : Rows.SeekerTurnedCardSaid :=
 Go.Vel.holds_tied_goes .later [.funcs, .funcs] true (true, "37dd52168c01ab0eac968363d817f0761de49dbe13f8b8dbc59b7d9be7780b69") false
  Go.Vel.seekerTurned_said (by kernel_rfl) seekerTurned_row_tie rfl ⟨rfl, rfl⟩ (by kernel_rfl) rfl
  (fun f fn hf hfn => by
   obtain rfl : f = 10 := Option.some.inj ((show Tryz.prog.funcNamed "velarium/velariumlaw09.SeekerTurned" = some 10 by kernel_rfl).symm.trans hf) |>.symm
   obtain rfl : fn = Tryz.f10 := (Option.some.inj (Tryz.func10.symm.trans hfn)).symm
   exact ⟨by kernel_rfl, fun j t ht => by
    rw [Tryz.params10] at ht
    have hm : t ∈ [27, 5, 5, 5, 5, 4] := by simpa using Array.mem_of_getElem? ht
    have hall : ([27, 5, 5, 5, 5, 4].all fun u => !Tryz.prog.wantsStandIn u) = true := by kernel_rfl
    exact (show Tryz.prog.wantsStandIn t = false by simpa using List.all_eq_true.1 hall t hm)⟩)
  (by kernel_rfl)
#print axioms seekerTurned_holds
end Go.Proofs.YtpdioiojfgknbaaGreatDoor
end
