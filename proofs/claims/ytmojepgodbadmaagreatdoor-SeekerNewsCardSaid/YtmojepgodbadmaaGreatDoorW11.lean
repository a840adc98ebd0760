/- SeekerNews: the law answers true. It holds of every program, tape and world that the statements name, as each theorem says. -/
import Derived.Test.YtmojepgodbadmaaGreatDoorW5
import Derived.Test.YtmojepgodbadmaaGreatDoorW7
import Derived.Test.YtmojepgodbadmaaGreatDoorW8
import Derived.Test.YtmojepgodbadmaaGreatDoorW9
import Derived.Test.YtmojepgodbadmaaGreatDoorW10
section
set_option linter.all false
namespace Go.Vel
open Go Go.Conc Go.Proofs
instance : Cal Tryz.prog 107 := ⟨by kernel_rfl⟩
instance : Cal Tryz.prog 108 := ⟨by kernel_rfl⟩
instance : Cal Tryz.prog 109 := ⟨by kernel_rfl⟩
instance : Cal Tryz.prog 110 := ⟨by kernel_rfl⟩
instance : Cal Tryz.prog 39 := ⟨by kernel_rfl⟩
instance : Cal Tryz.prog 40 := ⟨by kernel_rfl⟩
instance : Cal Tryz.prog 42 := ⟨by kernel_rfl⟩
instance : Cal Tryz.prog 44 := ⟨by kernel_rfl⟩
instance : Cal Tryz.prog 63 := ⟨by kernel_rfl⟩
instance : Cal Tryz.prog 68 := ⟨by kernel_rfl⟩
instance : Cal Tryz.prog 91 := ⟨by kernel_rfl⟩
instance : EqG Tryz.prog 58 := ⟨by kernel_rfl⟩
instance : EqG Tryz.prog 90 := ⟨by kernel_rfl⟩
instance : FlatF Tryz.prog 58 [(9, 0), (3, 1), (3, 2), (56, 3), (4, 4)] := ⟨by kernel_rfl⟩
instance : FlatF Tryz.prog 90 [(3, 0), (4, 1)] := ⟨by kernel_rfl⟩
instance : Und Tryz.prog 56 (.int .i64) := ⟨by kernel_rfl⟩
end Go.Vel
end
section
set_option linter.all false
namespace Go.Vel
open Go Go.Conc Go.Proofs

section
variable {P : Program} {gm : Nat → Option Nat} {T : Goroutine → Hp → Prop} {Y : KX P gm T} {ds : List Nat} {k : List Item} {env env' : List AV} {K : KV}
/-- In a row of one, a slice of nothing is one of cells. -/
theorem TK.nilRow {t e : TypeId} {x : Option Addr} {s j : Nat} {K' : Nat → KV} (hu : ∀ j', Upd K j (.row [.v (.slice x 0 0)] t s) j (.row [.sl j' 0 0] t s) (K' j')) (h : ∀ j', j' ∉ keys K → TK Y ds k env ((j', .cells [] e false) :: K' j')) : TK Y ds k env K := fun A hA φ H ts h1 h2 h3 h4 h5 h6 => by
  have hk : A.length ∉ keys K := fun hm => absurd (hA.view.lt hm) (Nat.lt_irrefl _)
  have hH := h5.virtO (o := .cells [] e false) (fun φ n hl => absurd rfl hl) (fun hl => hl rfl)
  have hag := agr_upd3 φ A.length ⟨0, 0, 0⟩
  have hlen : (A ++ [AObj.cells [] e false]).length = A.length + 1 := by simp
  have hds : dsC (upd3 φ A.length ⟨0, 0, 0⟩) ds = dsC φ ds := by
    unfold dsC
    exact List.map_congr_left fun d hd' => by rw [hag d (h4 d hd')]
  have hj := hA.view.get (hu A.length).mem
  have hjl : j < A.length := (List.getElem?_eq_some_iff.1 hj).1
  have hj2 : (A ++ [AObj.cells [] e false])[j]? = some (.row [.v (.slice x 0 0)] t s) := by rw [List.getElem?_append_left hjl]; exact hj
  have hstep := hA.step (.push hA.view hA.nd (.cells [] e false))
  have hstep2 := hstep.step (.set hstep.view hstep.nd (Upd.tail (hu A.length)))
  rw [← hds]
  refine h _ hk _ hstep2 _ H ts (h1.trans hag h2) (by simp; omega) (by simpa using h3.mono hag (by omega)) (fun d hd => by have := h4 d hd; simp; omega) (hH.turn hj2 (fun ho => ?_) (fun h => h) (fun _ => rfl) (fun hs => hs)) (by simpa using h6.mono hag (by omega))
  obtain ⟨q0, q1, q2⟩ := ho
  refine ⟨fun hc => absurd (q0 hc) (by simp), q1, fun hc => ?_⟩
  obtain ⟨cur, p1, p2, p3, p4, p5⟩ := q2 hc
  refine ⟨cur, p1, p2, p3, by simpa using p4, fun t' a ha => ?_⟩
  cases t' with
  | zero =>
    simp only [List.getElem?_cons_zero, Option.some.injEq] at ha
    subst ha
    obtain ⟨y, hy, hr⟩ := p5 0 _ rfl
    refine ⟨y, hy, ?_⟩
    rw [inv_v hr]
    exact .sl (by simp) (Nat.zero_le _) fun hp => absurd hp (Nat.lt_irrefl _)
  | succ t' => simp at ha
end

/-! ### the specification's sets -/
def shortB (most : Int) (l : List Int) : Bool := decide ((l.length : Int) < most)
def moreM (most n : Int) (A : List (List Int)) : List (List Int) := (A.filter (shortB most)).map (· ++ [n])
def setsM (most : Int) : Nat → List (List Int)
  | 0 => [[]]
  | n + 1 => setsM most n ++ moreM most n (setsM most n).reverse
theorem moreM_app (most n : Int) (A B : List (List Int)) : moreM most n (A ++ B) = moreM most n A ++ moreM most n B := by simp [moreM]
theorem moreM_T {most n : Int} {l : List Int} (h : shortB most l = true) : moreM most n [l] = [l ++ [n]] := by simp [moreM, h]
theorem moreM_F {most n : Int} {l : List Int} (h : shortB most l = false) : moreM most n [l] = [] := by simp [moreM, h]
theorem moreM_len (most n : Int) (A : List (List Int)) : (moreM most n A).length ≤ A.length := by
  unfold moreM; rw [List.length_map]; exact List.length_filter_le _ _
theorem setsM_len (most : Int) : ∀ n, (setsM most n).length ≤ 2 ^ n
  | 0 => Nat.le_refl _
  | n + 1 => by
    have h1 := setsM_len most n
    have h2 := moreM_len most n (setsM most n).reverse
    rw [List.length_reverse] at h2
    show (setsM most n ++ _).length ≤ _
    rw [List.length_append, Nat.pow_succ]
    omega
theorem pow_le16 {n : Nat} (h : n ≤ 16) : 2 ^ n ≤ 65536 := Nat.le_trans (Nat.pow_le_pow_right (by decide) h) (by decide)
theorem setsM_short {most : Int} (hm : 0 ≤ most) : ∀ n, ∀ l ∈ setsM most n, (l.length : Int) ≤ most
  | 0, l, hl => by rw [List.mem_singleton.1 hl]; simpa using hm
  | n + 1, l, hl => by
    rcases List.mem_append.1 hl with hl | hl
    · exact setsM_short hm n l hl
    · obtain ⟨x, hx, rfl⟩ := List.mem_map.1 hl
      have := of_decide_eq_true (List.mem_filter.1 hx).2
      simp; omega
theorem takeR_succ {α : Type} (A : List α) {q : Nat} (h : q < A.length) : A.reverse.take (q + 1) = A.reverse.take q ++ [A[A.length - 1 - q]] := by
  rw [List.take_add_one, List.getElem?_eq_getElem (by simpa using h), List.getElem_reverse]; rfl

theorem refs_at {P : List (Nat × List Int)} {k : Nat} {n : Int} (hk : k < P.length) (h : n = (k : Int)) {e : TypeId} {sz : Nat} : takeO (.row (refsL P) e sz) (n.toNat * 1) 1 = some [.sl P[k].1 0 P[k].2.length] := by
  subst h
  rw [Int.toNat_natCast, Nat.mul_one]
  exact refs_take hk
theorem ints_one (xs : List Int) : (xs.map intA).all oneA = true := by
  rw [List.all_map]; exact List.all_eq_true.2 fun _ _ => rfl
theorem map_snd_get {P : List (Nat × List Int)} {A B : List (List Int)} (h : P.map (·.2) = A ++ B) {k : Nat} (hk : k < A.length) (hk2 : k < P.length) : P[k].2 = A[k] := by
  have h1 : (P.map (·.2))[k]? = some P[k].2 := by simp [hk2]
  rw [h, List.getElem?_append_left hk, List.getElem?_eq_getElem hk] at h1
  exact (Option.some.inj h1).symm
set_option maxRecDepth 20000 in
set_option maxHeartbeats 4000000 in
theorem sets_ok {main : Bool} {T : Goroutine → Hp → Prop} (hT : Shut Tryz.prog main T) {gm : Nat → Option Nat} {below most : Int} (hb : 0 ≤ below ∧ below ≤ 16) (hm : 0 ≤ most ∧ most ≤ 16) :
    CallK Tryz.prog T gm 91 [intA below, intA most] [] (fun r K' => ∃ (j : Nat) (P : List (Nat × List Int)), r = .row j P.length ∧ P.map (·.2) = setsM most below.toNat ∧ K' = (j, .row (refsL P) 28 1) :: objsL P) := by
  refine callK_in 41 hT Tryz.func91 fun Y hret => ?_
  refine au [4, 5, 2, 3, 4, 5] ?_
  refine TK.newR rfl rfl rfl (n_buildSlice (l := [_]) rfl SlEl.h TyZ.h (by decide) (by decide) rfl) (fun _ => putS rfl (by simp only [List.set]; rfl)) fun j0 hj0 => ?_
  refine au [2] ?_
  refine TK.nilRow (e := 3) (fun _ => (by repeat (first | exact Upd.head | apply Upd.tail))) fun je hje => ?_
  refine au [3, 4, 4, 5, 2, 3, 13] ?_
  refine TK.maskL [0, 1, 5, 6] ?_
  refine TK.kp [(j0, _), (je, _)] ?_
  refine TK.loopN (fun n env K => ∃ (i j : Nat) (P : List (Nat × List Int)), n = below.toNat - i ∧ (i : Int) ≤ below ∧ P.map (·.2) = setsM most i ∧ env = slotsA 41 [(0, intA below), (1, intA most), (5, .row j P.length), (6, intA i)] ∧ K = (j, .row (refsL P) 28 1) :: objsL P) below.toNat ⟨0, j0, [(je, [])], rfl, hb.1, rfl, rfl, rfl⟩ fun n env K hI hnext => ?_
  obtain ⟨i, j, P, rfl, hi, hP, rfl, rfl⟩ := hI
  have hPl : P.length ≤ 65536 := by have := setsM_len most i; rw [← hP, List.length_map] at this; exact Nat.le_trans this (pow_le16 (by omega))
  refine au [4, 4, 5, 1, 1, 6, 3, 20] ?_
  refine ⟨fun hc0 => ?_, fun hc0 => ?_⟩
  · simp only [decide_eq_true_eq] at hc0
    refine au [12, 4, 13, 4, 5, 1, 28, 24, 2, 3, 13] ?_
    refine TK.maskL [0, 1, 5, 6, 7] ?_
    refine TK.loopN (fun n env K => ∃ (q j2 : Nat) (P2 : List (Nat × List Int)), n = P.length - q ∧ q ≤ P.length ∧ P2.map (·.2) = setsM most i ++ moreM most i ((setsM most i).reverse.take q) ∧ env = slotsA 41 [(0, intA below), (1, intA most), (5, .row j2 P2.length), (6, intA i), (7, intA ((P.length : Int) - 1 - q))] ∧ K = (j2, .row (refsL P2) 28 1) :: objsL P2) P.length ⟨0, j, P, rfl, Nat.zero_le _, by rw [hP, List.take_zero]; exact (List.append_nil _).symm, by rw [Int.natCast_zero, Int.sub_zero]; rfl, rfl⟩ fun n env K hI2 hnext2 => ?_
    obtain ⟨q, j2, P2, rfl, hq, hP2, rfl, rfl⟩ := hI2
    have hsl : (setsM most i).length = P.length := by rw [← hP, List.length_map]
    have hPP : P.length ≤ P2.length := by have := congrArg List.length hP2; rw [List.length_map, List.length_append, hsl] at this; omega
    have hPl2 : P2.length ≤ 131072 := by
      have h1 := congrArg List.length hP2
      have h2 := moreM_len most i ((setsM most i).reverse.take q)
      rw [List.length_take] at h2
      rw [List.length_map, List.length_append, hsl] at h1
      omega
    refine au [4, 4, 5, 1, 6, 3, 20] ?_
    refine ⟨fun hc1 => ?_, fun hc1 => ?_⟩
    · simp only [decide_eq_true_eq] at hc1
      have hql : q < P.length := by omega
      obtain ⟨k0, hk0⟩ : ∃ k0, k0 = (setsM most i).length - 1 - q := ⟨_, rfl⟩
      have hkl : k0 < P2.length := by omega
      have hkn : (P.length : Int) - 1 - q = (k0 : Int) := by omega
      have hx2 : P2[k0].2 = (setsM most i)[(setsM most i).length - 1 - q] := by rw [map_snd_get hP2 (by omega) hkl]; congr 1
      have hmx := objsL_mem (List.getElem_mem hkl)
      refine au [12, 4, 13, 4, 5, 1, 1, 37] ?_
      refine TK.a rfl (q_load1 rfl rfl TySz.h (by repeat (first | exact List.Mem.head _ | assumption | apply List.Mem.tail)) (refs_at hkl hkn)) ?_
      refine au [28, 1, 6, 3, 20] ?_
      refine ⟨fun hc2 => ?_, fun hc2 => ?_⟩
      · simp only [decide_eq_true_eq] at hc2
        refine au [5, 1] ?_
        refine TK.newR rfl rfl rfl (n_buildSlice (l := []) rfl SlEl.h TyZ.h (by decide) (by decide) rfl) (fun _ => putS rfl (by simp only [List.set]; rfl)) fun j9 hj9 => ?_
        refine au [1, 1, 37] ?_
        refine TK.a rfl (q_load1 rfl rfl TySz.h (by repeat (first | exact List.Mem.head _ | assumption | apply List.Mem.tail)) (refs_at hkl hkn)) ?_
        refine TK.appG (ln := P2[k0].2.map intA) rfl rfl rfl ApOf.h rfl (by repeat (first | exact List.Mem.head _ | assumption | apply List.Mem.tail)) rfl rfl rfl (fun hp => src_sl (by repeat (first | exact List.Mem.head _ | assumption | apply List.Mem.tail)) (by omega) (take_full (n := P2[k0].2.length) (size := 1) (by simp) (by omega))) (fun h => by simp [List.eq_nil_of_length_eq_zero h]) (ints_one _) (by unfold maxLen; omega) (by omega) (fun _ => (by repeat (first | exact Upd.head | apply Upd.tail))) (fun _ => putS rfl (by simp only [List.set]; rfl)) fun j6 => ?_
        simp only [List.nil_append, Nat.zero_add]
        refine au [1] ?_
        refine TK.newR rfl rfl rfl (n_buildSlice (l := [_]) rfl SlEl.h TyZ.h (by decide) (by decide) rfl) (fun _ => putS rfl (by simp only [List.set]; rfl)) fun j1 hj1 => ?_
        refine TK.appR rfl rfl rfl (a_app rfl ApOf.h rfl (by repeat (first | exact List.Mem.head _ | assumption | apply List.Mem.tail)) (by simp <;> omega) rfl (src_row (ln := [_]) (by repeat (first | exact List.Mem.head _ | assumption | apply List.Mem.tail)) (by decide) (by simp) rfl) (by omega) rfl (by unfold maxLen; omega) (by omega)) (fun _ => (by repeat (first | exact Upd.head | apply Upd.tail))) (fun _ => putS rfl (by simp only [List.set]; rfl)) fun j3 => ?_
        refine TK.freezeR 37 rfl (by repeat (first | exact Upd.head | apply Upd.tail)) rfl ?_
        refine au [] ?_
        refine TK.newR rfl rfl rfl (n_buildSlice (l := [_]) rfl SlEl.h TyZ.h (by decide) (by decide) rfl) (fun _ => putS rfl (by simp only [List.set]; rfl)) fun j2 hj2 => ?_
        refine TK.appR rfl rfl rfl (a_app rfl ApOf.h rfl (by repeat (first | exact List.Mem.head _ | assumption | apply List.Mem.tail)) (by simp [refsL]) rfl (src_row (ln := [_]) (by repeat (first | exact List.Mem.head _ | assumption | apply List.Mem.tail)) (by decide) (by simp) rfl) (by omega) rfl (by unfold maxLen; omega) (by omega)) (fun _ => (by repeat (first | exact Upd.head | apply Upd.tail))) (fun _ => putS rfl (by simp only [List.set]; rfl)) fun j4 => ?_
        refine au [2, 3, 14, 5, 1, 24, 2, 3] ?_
        refine TK.maskL [0, 1, 5, 6, 7] ?_
        refine TK.kp (((j4, _) :: (j3, _) :: objsL P2)) ?_
        refine TK.perm (K' := (j4, .row (refsL P2 ++ [.sl j3 0 (P2[k0].2.length + 1)]) 28 1) :: (objsL P2 ++ [(j3, .cells (P2[k0].2.map intA ++ [intA i]) 3 false)])) (List.Perm.cons _ (List.perm_append_singleton (j3, _) (objsL P2)).symm) ?_
        exact hnext2 _ _ _ (by omega) ⟨q + 1, j4, P2 ++ [(j3, P2[k0].2 ++ [(i : Int)])], rfl, by omega, by rw [takeR_succ _ (by omega), moreM_app, List.map_append, hP2, List.append_assoc, moreM_T (by rw [← hx2]; exact decide_eq_true hc2), hx2]; rfl, by rw [List.length_append, show ((P.length : Int) - 1 - (q + 1 : Nat)) = (P.length : Int) - 1 - q - 1 by omega]; rfl, by simp [refsL, objsL]⟩
      simp only [decide_eq_false_iff_not] at hc2
      refine au [12, 14, 5, 1, 24, 2, 3] ?_
      refine TK.maskL [0, 1, 5, 6, 7] ?_
      refine TK.kp (((j2, _) :: objsL P2)) ?_
      exact hnext2 _ _ _ (by omega) ⟨q + 1, j2, P2, rfl, by omega, by rw [takeR_succ _ (by omega), moreM_app, hP2, moreM_F (by rw [← hx2]; exact decide_eq_false hc2), List.append_nil], by rw [show ((P.length : Int) - 1 - (q + 1 : Nat)) = (P.length : Int) - 1 - q - 1 by omega]; rfl, rfl⟩
    simp only [decide_eq_false_iff_not] at hc1
    obtain rfl : q = P.length := by omega
    have hP2 : P2.map (·.2) = setsM most (i + 1) := by rw [hP2, ← hsl, ← List.length_reverse, List.take_length]; rfl
    refine au [16, 14, 5, 1, 23, 2, 3] ?_
    refine TK.maskL [0, 1, 5, 6] ?_
    refine TK.kp (((j2, _) :: objsL P2)) ?_
    exact hnext _ _ _ (by omega) ⟨i + 1, j2, P2, rfl, by omega, hP2, rfl, rfl⟩
  simp only [decide_eq_false_iff_not] at hc0
  obtain rfl : (i : Int) = below := by omega
  rw [Int.toNat_natCast] at *
  refine au [16, 4, 5, 1, 2, 3] ?_
  refine TK.rt hret (((j, _) :: objsL P)) ?_
  exact ⟨_, _, rfl, hP, rfl⟩
end Go.Vel
end
section
set_option linter.all false
namespace Go.Vel
open Go Go.Conc Go.Proofs

section
variable {P : Program} {gm : Nat → Option Nat} {T : Goroutine → Hp → Prop}
theorem Kstep.permR {K K' K2 : KV} {A A' : List AObj} (h : Kstep K A K' A') (hp : K'.Perm K2) : Kstep K A K2 A' :=
  ⟨h.view.sub fun x hx => hp.symm.subset hx, (keys_perm hp).nodup_iff.1 h.nd, fun i hi => h.own i ((keys_perm hp).symm.subset hi), h.kept, h.len⟩
theorem Kstep.permL {K K' K2 : KV} {A A' : List AObj} (h : Kstep K A K' A') (hp : K.Perm K2) : Kstep K2 A K' A' :=
  ⟨h.view, h.nd, fun i hi => (h.own i hi).imp (fun h => (keys_perm hp).subset h) id, fun j hj hn => h.kept j hj fun hm => hn ((keys_perm hp).subset hm), h.len⟩
/-- A contract that changes no object, with more objects beside. -/
theorem CallK.frameP {g : FuncId} {args : List AV} {K Kb R : KV} {Q : AV → Prop} (h : CallK P T gm g args K (fun r K' => Q r ∧ K' = K)) (hp : Kb.Perm (K ++ R)) : CallK P T gm g args Kb (fun r K' => Q r ∧ K' = Kb) := by
  intro A hv hn
  have hv2 : View (K ++ R) A := hv.sub fun x hx => hp.symm.subset hx
  have hn2 := (keys_perm hp).nodup_iff.1 hn
  have hn3 := hn2
  rw [keys_app] at hn3
  refine (h A (hv2.sub fun x hx => List.mem_append_left _ hx) (List.nodup_append.1 hn3).1).mono ?_
  rintro r A' ⟨K', hk, hq, rfl⟩
  refine ⟨Kb, ?_, hq, rfl⟩
  have hs : Split (K' ++ R) K' R := by
    have key : ∀ (K : KV), Split (K ++ R) K R := fun K => by
      induction K with
      | nil => exact .none _
      | cons x K ih => exact .left ih
    exact key K'
  exact ((hk.frame hs hv2 hn2).permR hp.symm).permL hp.symm
end
theorem high_of {b : Bk} (h : checkM b = 0) : 0 ≤ b.high := by
  unfold checkM at h
  split at h
  · rename_i h1; rw [h] at h1; cases h1
  · rename_i h1
    obtain ⟨q1, q2, q3, q4, q5, q6, q7⟩ := numbers_range (b := b) (by simpa using h1)
    omega
theorem setsM_mem {most : Int} : ∀ n, ∀ l ∈ setsM most n, ∀ x ∈ l, 0 ≤ x ∧ x < n
  | 0, l, hl, x, hx => by rw [List.mem_singleton.1 hl] at hx; cases hx
  | n + 1, l, hl, x, hx => by
    rcases List.mem_append.1 hl with hl | hl
    · have := setsM_mem n l hl x hx; omega
    · obtain ⟨y, hy, rfl⟩ := List.mem_map.1 hl
      rcases List.mem_append.1 hx with hx | hx
      · have := setsM_mem n y (List.mem_reverse.1 (List.mem_filter.1 hy).1) x hx; omega
      · rw [List.mem_singleton.1 hx]; omega
def setsB (b : Bk) : List (List Int) := setsM b.high b.steps.toNat
def statesR (b : Bk) : List (List Int) := (setsB b).filter (canM b)
theorem setsB_ok {b : Bk} (hb : BkOk b) (hh : 0 ≤ b.high) : ∀ l ∈ setsB b, SmOk b l := fun l hl => by
  refine ⟨?_, fun x hx => ?_⟩
  · have := setsM_short hh _ l hl; have := hb.high; omega
  · have := setsM_mem _ l hl x hx; have := hb.steps; omega
theorem setsB_len {b : Bk} (hb : BkOk b) : (setsB b).length ≤ 65536 := Nat.le_trans (setsM_len _ _) (pow_le16 (by have := hb.steps; omega))
theorem filt_T {α : Type} {p : α → Bool} {A : List α} {i : Nat} (hi : i < A.length) (h : p A[i] = true) : (A.take (i + 1)).filter p = (A.take i).filter p ++ [A[i]] := by
  rw [List.take_add_one, List.getElem?_eq_getElem hi, List.filter_append]; simp [h]
theorem filt_F {α : Type} {p : α → Bool} {A : List α} {i : Nat} (hi : i < A.length) (h : p A[i] = false) : (A.take (i + 1)).filter p = (A.take i).filter p := by
  rw [List.take_add_one, List.getElem?_eq_getElem hi, List.filter_append]; simp [h]
/-- One list of many is handed over. -/
theorem objs_split {Q : List (Nat × List Int)} {x : Nat × List Int} (hx : x ∈ Q) : ∃ R, Rem (objsL Q) (x.1, .cells (x.2.map intA) 3 false) R := rem_of_mem (objsL_mem hx)
theorem perm3 {a b x : Nat × AObj} {L R : KV} (h : Rem L x R) : (a :: b :: L).Perm ([a, b, x] ++ R) := .cons _ (.cons _ h.perm)
theorem perm2 {a x : Nat × AObj} {L R : KV} (h : Rem L x R) : (a :: L).Perm ([a, x] ++ R) := .cons _ h.perm
theorem perm1 {x : Nat × AObj} {L R : KV} (h : Rem L x R) : L.Perm ([x] ++ R) := h.perm

def knownBar (b : Bk) (t : Bool) : Int := if checkM b = 0 then if t = false then 6 else if statesR b = [] then 9 else 0 else checkM b
set_option maxRecDepth 20000 in
set_option maxHeartbeats 4000000 in
theorem statesR_ok {main : Bool} {T : Goroutine → Hp → Prop} (hT : Shut Tryz.prog main T) {gm : Nat → Option Nat} {b : Bk} {s e : Nat} (hse : s ≠ e) (hb : BkOk b) (hh : 0 ≤ b.high) :
    CallK Tryz.prog T gm 63 [.agg (bookC b s e)] [(s, saysO b), (e, seenO b)] (fun r K' => ∃ (j : Nat) (P Q : List (Nat × List Int)), r = .row j P.length ∧ P.map (·.2) = statesR b ∧ (∀ x ∈ P, x ∈ Q) ∧ K' = (j, .row (refsL P) 28 1) :: (s, saysO b) :: (e, seenO b) :: objsL Q) := by
  refine callK_in 32 hT Tryz.func63 fun Y hret => ?_
  refine au [] ?_
  have hst := hb.steps
  have hhi := hb.high
  refine au [4, 5, 21] ?_
  intro jb hjb
  refine au [2, 3, 4, 5, 7, 9, 7, 7, 9] ?_
  refine TK.cl rfl rfl rfl rfl (sets_ok hT (below := b.steps) (most := b.high) ⟨by omega, by omega⟩ ⟨hh, by omega⟩) ?_
  rintro r1 K2 ⟨ja, Q, rfl, hQ, rfl⟩
  refine au [] ?_
  refine TK.perm (List.Perm.cons _ List.perm_append_comm) ?_
  refine au [2, 3, 4, 5, 2, 3, 4, 4] ?_
  refine TK.virt 4 28 1 rfl fun jo0 hjo0 => ?_
  refine au [5, 2, 3, 13] ?_
  refine TK.maskL [1, 3, 4, 5] ?_
  refine TK.kp ((jo0, _) :: (ja, _) :: (jb, _) :: (s, _) :: (e, _) :: objsL Q) ?_
  have hQ : Q.map (·.2) = setsB b := hQ
  have hQl : Q.length = (setsB b).length := by rw [← hQ, List.length_map]
  have hQm := setsB_len hb
  refine TK.loopN (fun n env K => ∃ (i jo : Nat) (P : List (Nat × List Int)), n = Q.length - i ∧ i ≤ Q.length ∧ P.map (·.2) = ((setsB b).take i).filter (canM b) ∧ (∀ x ∈ P, x ∈ Q) ∧ env = slotsA 32 [(1, .ptr jb 0), (3, .row ja Q.length), (4, .row jo P.length), (5, intA i)] ∧ K = (jo, .row (refsL P) 28 1) :: (ja, .row (refsL Q) 28 1) :: (jb, .cells (bookC b s e) 27 true) :: (s, saysO b) :: (e, seenO b) :: objsL Q) Q.length ⟨0, jo0, [], rfl, Nat.zero_le _, rfl, (fun _ h => by cases h), rfl, rfl⟩ fun n env K hI hnext => ?_
  obtain ⟨i, jo, P, rfl, hi, hP, hPQ, rfl, rfl⟩ := hI
  have hPl : P.length ≤ 65536 := by
    have h1 := congrArg List.length hP
    have h2 := List.length_filter_le (canM b) ((setsB b).take i)
    rw [List.length_take] at h2
    rw [List.length_map] at h1
    omega
  refine au [4, 4, 5, 1, 1, 28, 6, 3, 20] ?_
  refine ⟨fun hc0 => ?_, fun hc0 => ?_⟩
  · simp only [decide_eq_true_eq] at hc0
    have hil : i < Q.length := by omega
    have hxm : Q[i] ∈ Q := List.getElem_mem hil
    have hmx := objsL_mem hxm
    have hx2 : Q[i].2 = (setsB b)[i] := map_snd_get (B := []) (by rw [hQ, List.append_nil]) (by omega) hil
    have hS : SmOk b Q[i].2 := setsB_ok hb hh _ (by rw [hx2]; exact List.getElem_mem _)
    obtain ⟨Rq, hRq⟩ := objs_split hxm
    refine au [12, 4, 13, 4] ?_
    refine TK.draw [0, 1, 2, 3, 4, 5] [0, 1, 2, 3, 4, 5] (by kernel_rfl) (by kernel_rfl) ?_
    refine TD.q [1] [(_, _)] rfl rfl rfl rfl (fun _ h => by rw [List.mem_singleton.1 h]; repeat (first | exact List.Mem.head _ | apply List.Mem.tail)) (q_load rfl rfl TySz.h (List.Mem.head _) rfl) (putS rfl (by simp only [List.set]; rfl)) ?_
    refine TD.q [3] [] rfl rfl rfl rfl (by simp) (q_move rfl rfl) (putS rfl (by simp only [List.set]; rfl)) ?_
    refine TD.q [5] [] rfl rfl rfl rfl (by simp) (q_move rfl rfl) (putS rfl (by simp only [List.set]; rfl)) ?_
    refine TD.q [19, 20] [(_, _)] rfl rfl rfl rfl (fun _ h => by rw [List.mem_singleton.1 h]; repeat (first | exact List.Mem.head _ | apply List.Mem.tail)) (q_indexRow rfl rfl rfl SlEl.h (List.Mem.head _) (by omega) (by omega)) (putS rfl (by simp only [List.set]; rfl)) ?_
    refine TD.q [21] [(_, _)] rfl rfl rfl rfl (fun _ h => by rw [List.mem_singleton.1 h]; repeat (first | exact List.Mem.head _ | apply List.Mem.tail)) (q_load1 rfl rfl TySz.h (List.Mem.head _) (refs_at hil rfl)) (putS rfl (by simp only [List.set]; rfl)) ?_
    refine TD.call' (pend' := [⟨3, [19, 20], [(_, _)]⟩, ⟨2, [5], []⟩, ⟨1, [3], []⟩]) [18, 22] rfl rfl rfl rfl rfl rfl Cal.h rfl ((stateR_ok hT hse hb hS (ints_at _ _ _) (by have := hS.len; omega)).frameP (perm3 hRq)) (by repeat (first | exact Split.none _ | exact Split.all _ | (apply Split.rem; repeat (first | exact Rem.head | apply Rem.tail)) | apply Split.right)) fun r4 K5 h6 => ⟨?_, ?_⟩
    · rcases h6 with ⟨rfl, rfl⟩
      all_goals simp
    obtain ⟨rfl, rfl⟩ := h6
    try simp only [List.cons_append, List.nil_append]
    refine TD.norm (putS rfl (by simp only [List.set]; rfl)) ?_
    refine TD.perm (List.perm_append_comm (l₁ := (s, _) :: (e, _) :: objsL Q)) ?_
    simp only [List.cons_append, List.nil_append]
    refine TD.fin ?_
    refine au [20] ?_
    refine ⟨fun hc1 => ?_, fun hc1 => ?_⟩
    · refine au [5, 1, 1, 1, 37] ?_
      refine TK.a rfl (q_load1 rfl rfl TySz.h (by repeat (first | exact List.Mem.head _ | assumption | apply List.Mem.tail)) (refs_at hil rfl)) ?_
      refine TK.newR rfl rfl rfl (n_buildSlice (l := [_]) rfl SlEl.h TyZ.h (by decide) (by decide) rfl) (fun _ => putS rfl (by simp only [List.set]; rfl)) fun j7 hj7 => ?_
      refine TK.appR rfl rfl rfl (a_app rfl ApOf.h rfl (by repeat (first | exact List.Mem.head _ | assumption | apply List.Mem.tail)) (by simp [refsL]) rfl (src_row (ln := [_]) (by repeat (first | exact List.Mem.head _ | assumption | apply List.Mem.tail)) (by decide) (by simp) rfl) (by omega) rfl (by unfold maxLen; omega) (by omega)) (fun _ => (by repeat (first | exact Upd.head | apply Upd.tail))) (fun _ => putS rfl (by simp only [List.set]; rfl)) fun j2 => ?_
      refine au [2, 3, 14, 5, 1, 23, 2, 3] ?_
      refine TK.maskL [1, 3, 4, 5] ?_
      refine TK.kp (((j2, _) :: (ja, _) :: (jb, _) :: (s, _) :: (e, _) :: objsL Q)) ?_
      exact hnext _ _ _ (by omega) ⟨i + 1, j2, P ++ [Q[i]], rfl, by omega, by rw [filt_T (by omega) (by rw [← hx2]; exact hc1), List.map_append, hP, ← hx2]; rfl, (fun x hx => (List.mem_append.1 hx).elim (hPQ x) fun h => by rw [List.mem_singleton.1 h]; exact hxm), by rw [List.length_append]; rfl, by rw [refsL_app]; rfl⟩
    refine au [12, 14, 5, 1, 23, 2, 3] ?_
    refine TK.maskL [1, 3, 4, 5] ?_
    refine TK.kp (((jo, _) :: (ja, _) :: (jb, _) :: (s, _) :: (e, _) :: objsL Q)) ?_
    exact hnext _ _ _ (by omega) ⟨i + 1, jo, P, rfl, by omega, by rw [filt_F (by omega) (by rw [← hx2]; exact hc1), hP], hPQ, rfl, rfl⟩
  simp only [decide_eq_false_iff_not] at hc0
  obtain rfl : i = Q.length := by omega
  have hP : P.map (·.2) = statesR b := by rw [hP, hQl, List.take_length]; rfl
  refine au [16, 4, 5, 1, 2, 3] ?_
  refine TK.rt hret (((jo, _) :: (s, _) :: (e, _) :: objsL Q)) ?_
  exact ⟨_, _, Q, rfl, hP, hPQ, rfl⟩

set_option maxRecDepth 20000 in
set_option maxHeartbeats 2000000 in
theorem knownR_ok {main : Bool} {T : Goroutine → Hp → Prop} (hT : Shut Tryz.prog main T) {gm : Nat → Option Nat} {b : Bk} {s e : Nat} {t : Bool} (hse : s ≠ e) (hn : ∀ x ∈ b.seekers, x.name.size ≤ 1000) (hl : b.seen.length ≤ 1000) (hl2 : b.seekers.length ≤ 1000) :
    CallK Tryz.prog T gm 68 [.agg (bookC b s e), boolA t] [(s, saysO b), (e, seenO b)] (fun r K' => ∃ bar : Int, bar = knownBar b t ∧ ((bar ≠ 0 ∧ r = .tup [.v (.slice none 0 0), intA bar] ∧ K' = [(s, saysO b), (e, seenO b)]) ∨ (bar = 0 ∧ ∃ (j : Nat) (P Q : List (Nat × List Int)), r = .tup [.row j P.length, intA 0] ∧ P.map (·.2) = statesR b ∧ (∀ x ∈ P, x ∈ Q) ∧ K' = (j, .row (refsL P) 28 1) :: (s, saysO b) :: (e, seenO b) :: objsL Q))) := by
  refine callK_in 21 hT Tryz.func68 fun Y hret => ?_
  refine au [4, 5, 21] ?_
  intro jb hjb
  refine au [2, 2, 3, 4, 4, 5, 8] ?_
  refine TK.cl rfl rfl rfl rfl (checkR_ok hT hse hn hl hl2) ?_
  rintro r1 K2 ⟨rfl, rfl⟩
  refine au [2, 3, 4, 5, 1, 6, 3, 20] ?_
  refine ⟨fun hc0 => ?_, fun hc0 => ?_⟩
  · refine au [4, 5, 1, 2, 2, 3] ?_
    refine TK.rt hret [(s, _), (e, _)] ?_
    have hk0 : checkM b ≠ 0 := by simpa using hc0
    have hk : knownBar b t = checkM b := by unfold knownBar; rw [if_neg hk0]
    exact ⟨_, hk.symm, .inl ⟨hk0, rfl, rfl⟩⟩
  have hck : checkM b = 0 := by simpa using hc0
  have hb := bkOk_of hck
  have hh := high_of hck
  refine au [12, 4, 4, 5, 1, 30, 3, 20] ?_
  refine ⟨fun hc1 => ?_, fun hc1 => ?_⟩
  · refine au [4, 5, 2, 2, 3] ?_
    refine TK.rt hret [(s, _), (e, _)] ?_
    have hk : knownBar b t = 6 := by unfold knownBar; rw [if_pos hck, if_pos (by simpa using hc1)]
    exact ⟨6, hk.symm, .inl ⟨by decide, rfl, rfl⟩⟩
  refine au [12, 4, 5, 8] ?_
  refine TK.cl rfl rfl rfl rfl (statesR_ok hT hse hb hh) ?_
  rintro r4 K5 ⟨j, P, Q, rfl, hP, hPQ, rfl⟩
  refine au [] ?_
  refine TK.perm (.cons _ (.cons _ (.cons _ List.perm_append_comm))) ?_
  refine au [2, 3, 4, 4, 5, 1, 28, 6, 3, 20] ?_
  refine ⟨fun hc2 => ?_, fun hc2 => ?_⟩
  · refine au [4, 5, 2, 2, 3] ?_
    refine TK.rt hret [(s, _), (e, _)] ?_
    have hk : knownBar b t = 9 := by
      unfold knownBar; rw [if_pos hck, if_neg (by simpa using hc1), if_pos]
      rw [← hP]; simp only [beq_iff_eq] at hc2; simpa using hc2
    exact ⟨9, hk.symm, .inl ⟨by decide, rfl, rfl⟩⟩
  refine au [12, 4, 5, 1, 2, 2, 3] ?_
  refine TK.rt hret (((j, _) :: (s, _) :: (e, _) :: objsL Q)) ?_
  have hk : knownBar b t = 0 := by
    unfold knownBar; rw [if_pos hck, if_neg (by simpa using hc1), if_neg]
    rw [← hP]; simp only [beq_eq_false_iff_ne] at hc2; intro h; exact hc2 (by simpa using h)
  exact ⟨0, hk.symm, .inr ⟨rfl, _, _, Q, rfl, hP, hPQ, rfl⟩⟩
end Go.Vel
end
section
set_option linter.all false
namespace Go.Vel
open Go Go.Conc Go.Proofs

theorem bytes_refl (a : ByteArray) : (a == a) = true := by show (a.data == a.data) = true; simp
section
variable {P : Program} {gm : Nat → Option Nat} {T : Goroutine → Hp → Prop} {Y : KX P gm T} {ds : List Nat} {k : List Item} {env env' : List AV} {K K' K1 : KV} {ops : Array Oper} {i : Nat} {L' : List Nat} {o : Oper} {envf : Nat → List AV} {pend pend' : List Pd}
/-- Some are appended, perhaps none, in a drawn region. -/
theorem TD.cappG {s x : Operand} {t e : TypeId} {size bytes j n m : Nat} {lo ln : List AV} {u : AV} {K'' : Nat → KV} (sl : List Nat) (ho : ops[i]? = some o) (hd : isDefer o.op = false) (hw : wantA ops (onl sl env) o = some true) (hp' : pendOf ops i pend = pend') (hc : chkC ops pend' L' sl i o.dst = true) (hop : o.op = .call { callee := .builtin .append, args := #[s, x], argTypes := #[t, t] }) (ht : apOf P t = some (e, size, bytes)) (hs : opndO gm (onl sl env) s = some (.row j n)) (hm : (j, .row lo e size) ∈ K) (hlo : lo.length = n * size) (hx : opndO gm (onl sl env) x = some u) (hl : lenA u = some m) (hsrc : 0 < m → srcO K size u m ln) (hln : m = 0 → ln = [])
    (hone : ln.all oneA = true) (hmax : n + m ≤ maxLen) (hbytes : (n + m) * bytes ≤ 140737488355328) (hu : ∀ j', Upd K j (.row lo e size) j' (.row (lo ++ ln) e size) (K'' j')) (he : ∀ j', putA env o.dst (.row j' (n + m)) = envf j') (hv : ∀ j', ∀ p ∈ pend', ∀ x ∈ p.V, x ∈ K'' j') (h : ∀ j', TD Y ds ops k pend' L' (envf j') (K'' j')) : TD Y ds ops k pend (i :: L') env K := by
  rcases Nat.eq_zero_or_pos m with e0 | hpos
  · subst e0
    have hk : K'' j = K := (hu j).same (by rw [hln rfl, List.append_nil])
    have ht' := ht
    unfold apOf at ht'
    split at ht'
    · rename_i e' h1
      split at ht'
      · rename_i ti h2
        refine TD.cq (r := .row j n) sl ho hd hw hp' hc (q_app0 hop h1 h2 hs hx hl) (he j) (by rw [← hk]; exact hv j) ?_
        rw [← hk]; exact h j
      · cases ht'
    · cases ht'
  · exact TD.capp sl ho hd hw hp' hc (a_app hop ht hs hm hlo hx (hsrc hpos) hpos hone hmax hbytes) hu he hv h
theorem exK_app {j n : Nat} {ob ob' : AObj} {K'' : Nat → KV} {sl : List Nat} (hd : isDefer o.op = false) (hq : ∀ A, View K A → OpOk P gm (onl sl env) A o (.row A.length n) (A.set j .gone ++ [ob'])) (hu : ∀ j', Upd K j ob j' ob' (K'' j')) (he : ∀ j', putA env o.dst (.row j' n) = envf j') (hv : ∀ j', ∀ p ∈ pend', ∀ x ∈ p.V, x ∈ K'' j') (h : ∀ j', TD Y ds ops k pend' L' (envf j') (K'' j')) :
    ExK Y (onl sl env) K o fun r K' => (∀ p ∈ pend', ∀ x ∈ p.V, x ∈ K') ∧ TD Y ds ops k pend' L' (putA env o.dst r) K' :=
  exK_op hd fun A hv' hn => ⟨_, _, _, hq A hv', .renew hv' hn (hu _), hv _, by rw [he]; exact h _⟩
theorem exK_appG {s x : Operand} {t e : TypeId} {size bytes j n m : Nat} {lo ln : List AV} {u : AV} {K'' : Nat → KV} {sl : List Nat} (hd : isDefer o.op = false) (hop : o.op = .call { callee := .builtin .append, args := #[s, x], argTypes := #[t, t] }) (ht : apOf P t = some (e, size, bytes)) (hs : opndO gm (onl sl env) s = some (.row j n)) (hm : (j, .row lo e size) ∈ K) (hlo : lo.length = n * size) (hx : opndO gm (onl sl env) x = some u) (hl : lenA u = some m) (hsrc : 0 < m → srcO K size u m ln) (hln : m = 0 → ln = [])
    (hone : ln.all oneA = true) (hmax : n + m ≤ maxLen) (hbytes : (n + m) * bytes ≤ 140737488355328) (hu : ∀ j', Upd K j (.row lo e size) j' (.row (lo ++ ln) e size) (K'' j')) (he : ∀ j', putA env o.dst (.row j' (n + m)) = envf j') (hv : ∀ j', ∀ p ∈ pend', ∀ x ∈ p.V, x ∈ K'' j') (h : ∀ j', TD Y ds ops k pend' L' (envf j') (K'' j')) :
    ExK Y (onl sl env) K o fun r K' => (∀ p ∈ pend', ∀ x ∈ p.V, x ∈ K') ∧ TD Y ds ops k pend' L' (putA env o.dst r) K' := by
  rcases Nat.eq_zero_or_pos m with e0 | hpos
  · subst e0
    have hk : K'' j = K := (hu j).same (by rw [hln rfl, List.append_nil])
    have ht' := ht
    unfold apOf at ht'
    split at ht'
    · rename_i e' h1
      split at ht'
      · rename_i ti h2
        exact exK_op hd fun A hv' hn => ⟨.row j n, A, K, q_app0 hop h1 h2 hs hx hl A hv', .same hv' hn, by rw [← hk]; exact hv j, by rw [show putA env o.dst (.row j n) = envf j from he j, ← hk]; exact h j⟩
      · cases ht'
    · cases ht'
  · exact exK_app hd (a_app hop ht hs hm hlo hx (hsrc hpos) hpos hone hmax hbytes) hu he hv h
end
set_option maxRecDepth 20000 in
set_option maxHeartbeats 4000000 in
theorem sameB_ok {main : Bool} {T : Goroutine → Hp → Prop} (hT : Shut Tryz.prog main T) {gm : Nat → Option Nat} {b : Bk} {s1 e1 s2 e2 : Nat} (hl : b.seen.length ≤ 1000) (hl2 : b.seekers.length ≤ 1000) :
    CallK Tryz.prog T gm 40 [.agg (bookC b s1 e1), .agg (bookC b s2 e2)] [(s1, saysO b), (e1, seenO b), (s2, saysO b), (e2, seenO b)] (fun r K' => r = boolA true ∧ K' = [(s1, saysO b), (e1, seenO b), (s2, saysO b), (e2, seenO b)]) := by
  refine callK_in 80 hT Tryz.func40 fun Y hret => ?_
  refine au [4, 5, 21] ?_
  intro jb hjb
  refine au [21] ?_
  intro jc hjc
  refine au [2, 3, 4, 4, 5, 7, 9, 7, 9, 6, 1] ?_
  refine TK.sp 12 (fun g1_6 => ?_) (fun g1_6 => ?_)
  · simp at g1_6
  refine au [7, 9, 7, 9, 6, 25, 1] ?_
  refine TK.sp 19 (fun g1_13 => ?_) (fun g1_13 => ?_)
  · simp at g1_13
  refine au [7, 8, 7, 8] ?_
  refine TK.a rfl (q_neqFlat rfl rfl rfl rfl rfl FlatF.h EqG.h) ?_
  refine au [25, 1] ?_
  refine TK.sp 26 (fun g1_20 => ?_) (fun g1_20 => ?_)
  · simp at g1_20
  refine au [7, 9, 28, 7, 9, 28, 6, 25, 1] ?_
  refine TK.sp 35 (fun g1_29 => ?_) (fun g1_29 => ?_)
  · simp at g1_29
  refine au [7, 9, 28, 7, 9, 28, 6, 25, 3, 20] ?_
  refine ⟨fun hc0 => ?_, fun hc0 => ?_⟩
  · simp at hc0
  refine au [12, 4, 4, 5, 2, 3, 13] ?_
  refine TK.maskL [2, 3, 5] ?_
  refine TK.kp [(jc, _), (jb, _), (s1, _), (e1, _), (s2, _), (e2, _)] ?_
  refine TK.loopN (fun n env K => ∃ (i : Nat), n = b.seekers.length - i ∧ i ≤ b.seekers.length ∧ env = slotsA 80 [(2, .ptr jb 0), (3, .ptr jc 0), (5, intA i)] ∧ K = [(jc, .cells (bookC b s2 e2) 27 true), (jb, .cells (bookC b s1 e1) 27 true), (s1, saysO b), (e1, seenO b), (s2, saysO b), (e2, seenO b)]) b.seekers.length ⟨0, rfl, Nat.zero_le _, rfl, rfl⟩ fun n env K hI hnext => ?_
  obtain ⟨i, rfl, hi, rfl, rfl⟩ := hI
  refine au [4, 4, 5, 1, 7, 9, 28, 6, 3, 20] ?_
  refine ⟨fun hc1 => ?_, fun hc1 => ?_⟩
  · simp only [decide_eq_true_eq] at hc1
    have hil : i < b.seekers.length := by omega
    refine au [12, 4, 13, 4] ?_
    refine TK.draw [0, 1, 2, 3, 4, 5, 6, 7, 8, 9, 10] [0, 1, 2, 3, 4, 5, 6, 7, 8, 9, 10] (by kernel_rfl) (by kernel_rfl) ?_
    refine TD.q [2] [] rfl rfl rfl rfl (by simp) (q_fieldAddr rfl rfl FldOf.h (by decide)) (putS rfl (by simp only [List.set]; rfl)) ?_
    refine TD.q [51] [(_, _)] rfl rfl rfl rfl (fun _ h => by rw [List.mem_singleton.1 h]; repeat (first | exact List.Mem.head _ | apply List.Mem.tail)) (q_load1 rfl rfl TySz.h (List.Mem.head _) rfl) (putS rfl (by simp only [List.set]; rfl)) ?_
    refine TD.q [5] [] rfl rfl rfl rfl (by simp) (q_move rfl rfl) (putS rfl (by simp only [List.set]; rfl)) ?_
    refine TD.q [52, 53] [] rfl rfl rfl rfl (by simp) (q_indexSl rfl rfl rfl SlEl.h (by omega) (by omega)) (putS rfl (by simp only [List.set]; rfl)) ?_
    refine TD.q [54] [(_, _)] rfl rfl rfl rfl (fun _ h => by rw [List.mem_singleton.1 h]; repeat (first | exact List.Mem.head _ | apply List.Mem.tail)) (q_load rfl rfl TySz.h (List.Mem.head _) (says_at b i hil)) (putS rfl (by simp only [List.set]; rfl)) ?_
    refine TD.q [3] [] rfl rfl rfl rfl (by simp) (q_fieldAddr rfl rfl FldOf.h (by decide)) (putS rfl (by simp only [List.set]; rfl)) ?_
    refine TD.q [56] [(_, _)] rfl rfl rfl rfl (fun _ h => by rw [List.mem_singleton.1 h]; repeat (first | exact List.Mem.head _ | apply List.Mem.tail)) (q_load1 rfl rfl TySz.h (List.Mem.head _) rfl) (putS rfl (by simp only [List.set]; rfl)) ?_
    refine TD.q [5] [] rfl rfl rfl rfl (by simp) (q_move rfl rfl) (putS rfl (by simp only [List.set]; rfl)) ?_
    refine TD.q [57, 58] [] rfl rfl rfl rfl (by simp) (q_indexSl rfl rfl rfl SlEl.h (by omega) (by omega)) (putS rfl (by simp only [List.set]; rfl)) ?_
    refine TD.q [59] [(_, _)] rfl rfl rfl rfl (fun _ h => by rw [List.mem_singleton.1 h]; repeat (first | exact List.Mem.head _ | apply List.Mem.tail)) (q_load rfl rfl TySz.h (List.Mem.head _) (says_at b i hil)) (putS rfl (by simp only [List.set]; rfl)) ?_
    refine TD.q [55, 60] [] rfl rfl rfl rfl (by simp) (q_neqFlat rfl rfl rfl rfl rfl FlatF.h EqG.h) (putS rfl (by simp only [List.set]; rfl)) ?_
    refine TD.fin ?_
    refine au [20] ?_
    refine ⟨fun hc2 => ?_, fun hc2 => ?_⟩
    · simp [bytes_refl] at hc2
    refine au [12, 14, 5, 1, 23, 2, 3] ?_
    refine TK.maskL [2, 3, 5] ?_
    exact hnext _ _ _ (by omega) ⟨i + 1, rfl, by omega, rfl, rfl⟩
  simp only [decide_eq_false_iff_not] at hc1
  refine au [16, 4, 4, 5, 2, 3, 13] ?_
  refine TK.maskL [2, 3, 6] ?_
  refine TK.loopN (fun n env K => ∃ (i : Nat), n = b.seen.length - i ∧ i ≤ b.seen.length ∧ env = slotsA 80 [(2, .ptr jb 0), (3, .ptr jc 0), (6, intA i)] ∧ K = [(jc, .cells (bookC b s2 e2) 27 true), (jb, .cells (bookC b s1 e1) 27 true), (s1, saysO b), (e1, seenO b), (s2, saysO b), (e2, seenO b)]) b.seen.length ⟨0, rfl, Nat.zero_le _, rfl, rfl⟩ fun n env K hI hnext => ?_
  obtain ⟨i, rfl, hi, rfl, rfl⟩ := hI
  refine au [4, 4, 5, 1, 7, 9, 28, 6, 3, 20] ?_
  refine ⟨fun hc3 => ?_, fun hc3 => ?_⟩
  · simp only [decide_eq_true_eq] at hc3
    have hil : i < b.seen.length := by omega
    refine au [12, 4, 13, 4] ?_
    refine TK.draw [0, 1, 2, 3, 4, 5, 6, 7, 8, 9, 10] [0, 1, 2, 3, 4, 5, 6, 7, 8, 9, 10] (by kernel_rfl) (by kernel_rfl) ?_
    refine TD.q [2] [] rfl rfl rfl rfl (by simp) (q_fieldAddr rfl rfl FldOf.h (by decide)) (putS rfl (by simp only [List.set]; rfl)) ?_
    refine TD.q [69] [(_, _)] rfl rfl rfl rfl (fun _ h => by rw [List.mem_singleton.1 h]; repeat (first | exact List.Mem.head _ | apply List.Mem.tail)) (q_load1 rfl rfl TySz.h (List.Mem.head _) rfl) (putS rfl (by simp only [List.set]; rfl)) ?_
    refine TD.q [6] [] rfl rfl rfl rfl (by simp) (q_move rfl rfl) (putS rfl (by simp only [List.set]; rfl)) ?_
    refine TD.q [70, 71] [] rfl rfl rfl rfl (by simp) (q_indexSl rfl rfl rfl SlEl.h (by omega) (by omega)) (putS rfl (by simp only [List.set]; rfl)) ?_
    refine TD.q [72] [(_, _)] rfl rfl rfl rfl (fun _ h => by rw [List.mem_singleton.1 h]; repeat (first | exact List.Mem.head _ | apply List.Mem.tail)) (q_load rfl rfl TySz.h (List.Mem.head _) (seen_at b i hil)) (putS rfl (by simp only [List.set]; rfl)) ?_
    refine TD.q [3] [] rfl rfl rfl rfl (by simp) (q_fieldAddr rfl rfl FldOf.h (by decide)) (putS rfl (by simp only [List.set]; rfl)) ?_
    refine TD.q [74] [(_, _)] rfl rfl rfl rfl (fun _ h => by rw [List.mem_singleton.1 h]; repeat (first | exact List.Mem.head _ | apply List.Mem.tail)) (q_load1 rfl rfl TySz.h (List.Mem.head _) rfl) (putS rfl (by simp only [List.set]; rfl)) ?_
    refine TD.q [6] [] rfl rfl rfl rfl (by simp) (q_move rfl rfl) (putS rfl (by simp only [List.set]; rfl)) ?_
    refine TD.q [75, 76] [] rfl rfl rfl rfl (by simp) (q_indexSl rfl rfl rfl SlEl.h (by omega) (by omega)) (putS rfl (by simp only [List.set]; rfl)) ?_
    refine TD.q [77] [(_, _)] rfl rfl rfl rfl (fun _ h => by rw [List.mem_singleton.1 h]; repeat (first | exact List.Mem.head _ | apply List.Mem.tail)) (q_load rfl rfl TySz.h (List.Mem.head _) (seen_at b i hil)) (putS rfl (by simp only [List.set]; rfl)) ?_
    refine TD.q [73, 78] [] rfl rfl rfl rfl (by simp) (q_neqFlat rfl rfl rfl rfl rfl FlatF.h EqG.h) (putS rfl (by simp only [List.set]; rfl)) ?_
    refine TD.fin ?_
    refine au [20] ?_
    refine ⟨fun hc4 => ?_, fun hc4 => ?_⟩
    · simp at hc4
    refine au [12, 14, 5, 1, 23, 2, 3] ?_
    refine TK.maskL [2, 3, 6] ?_
    exact hnext _ _ _ (by omega) ⟨i + 1, rfl, by omega, rfl, rfl⟩
  simp only [decide_eq_false_iff_not] at hc3
  refine au [16, 4, 5, 2, 3] ?_
  refine TK.rt hret [(s1, _), (e1, _), (s2, _), (e2, _)] ?_
  exact ⟨rfl, rfl⟩
end Go.Vel
end
section
set_option linter.all false
namespace Go.Vel
open Go Go.Conc Go.Proofs

section
variable {P : Program} {gm : Nat → Option Nat} {T : Goroutine → Hp → Prop} {Y : KX P gm T} {ds : List Nat} {k : List Item} {env env' : List AV} {K K' : KV}
/-- A book's row of seekers is frozen; what was seen is. -/
theorem TK.freezeB1 (d : Nat) {a b c f : Value} {j1 n1 e m : Nat} {l1 : List AV} {e1 s1 : Nat} (hd : env[d]? = some (.agg [.v a, .v b, .v c, .v f, .row j1 n1, .sl e 0 m])) (hu : Upd K j1 (.row l1 e1 s1) j1 (.cells l1 e1 false) K') (he : env.set d (.agg [.v a, .v b, .v c, .v f, .sl j1 0 n1, .sl e 0 m]) = env') (h : TK Y ds k env' K') : TK Y ds k env K :=
  TK.freeze d hd hu (by rw [← he]; simp [unrow1, unrow]) h
theorem TK.freezeB2 (d : Nat) {a b c f : Value} {j1 n1 s m : Nat} {l1 : List AV} {e1 s1 : Nat} (hd : env[d]? = some (.agg [.v a, .v b, .v c, .v f, .sl s 0 m, .row j1 n1])) (hu : Upd K j1 (.row l1 e1 s1) j1 (.cells l1 e1 false) K') (he : env.set d (.agg [.v a, .v b, .v c, .v f, .sl s 0 m, .sl j1 0 n1]) = env') (h : TK Y ds k env' K') : TK Y ds k env K :=
  TK.freeze d hd hu (by rw [← he]; simp [unrow1, unrow]) h
end
def newsR (b o : Bk) : Int := if checkM b ≠ 0 then checkM b else knownBar o true
def giveR (b : Bk) (k : Int) : Int := if checkM b ≠ 0 then checkM b else if isSeekerM b k = false then 6 else if glassB b k.toNat = true then 5 else knownBar (giveB b k.toNat) true
set_option maxRecDepth 20000 in
set_option maxHeartbeats 2000000 in
theorem heardR_ok {main : Bool} {T : Goroutine → Hp → Prop} (hT : Shut Tryz.prog main T) {gm : Nat → Option Nat} {b : Bk} {s e : Nat} {x : Says} (hl2 : b.seekers.length ≤ 1000) :
    CallK Tryz.prog T gm 108 [.agg (bookC b s e), .agg (saysC x)] [(s, saysO b), (e, seenO b)] (fun r K' => ∃ j3, r = .agg (bookC (hearB b x) j3 e) ∧ K' = [(s, saysO b), (e, seenO b), (j3, saysO (hearB b x))]) := by
  refine callK_in 14 hT Tryz.func108 fun Y hret => ?_
  refine au [4, 5, 21] ?_
  intro jb hjb
  refine au [21] ?_
  intro jx hjx
  refine au [22] ?_
  intro jr hjr
  refine au [3, 4] ?_
  refine TK.draw [1, 2, 4, 0, 3, 5, 6, 7, 8] [0, 1, 2, 3, 4, 5, 6, 7, 8] (by kernel_rfl) (by kernel_rfl) ?_
  refine TD.q [2] [] rfl rfl rfl rfl (by simp) (q_fieldAddr rfl rfl FldOf.h (by decide)) (putS rfl (by simp only [List.set]; rfl)) ?_
  refine TD.q [6] [(_, _)] rfl rfl rfl rfl (fun _ h => by rw [List.mem_singleton.1 h]; repeat (first | exact List.Mem.head _ | apply List.Mem.tail)) (q_load1 rfl rfl TySz.h (List.Mem.head _) rfl) (putS rfl (by simp only [List.set]; rfl)) ?_
  refine TD.q [3] [(_, _)] rfl rfl rfl rfl (fun _ h => by rw [List.mem_singleton.1 h]; repeat (first | exact List.Mem.head _ | apply List.Mem.tail)) (q_load rfl rfl TySz.h (List.Mem.head _) rfl) (putS rfl (by simp only [List.set]; rfl)) ?_
  refine TD.c2 (i1 := 0) (i2 := 5) (pend1 := [⟨4, [3], [(_, _)]⟩, ⟨2, [6], [(_, _)]⟩, ⟨1, [2], []⟩]) (pend2 := [⟨2, [6], [(_, _)]⟩, ⟨1, [2], []⟩]) (L1 := [3, 5, 6, 7, 8]) (L2 := [0, 3, 6, 7, 8]) [] [9] rfl rfl rfl rfl rfl rfl rfl ?_ ?_
  · refine exK_newR (envf := fun _ => [_, _, _, _, _, _, _, _, _, _, _, _, _, _]) rfl (n_buildSlice (l := []) rfl SlEl.h TyZ.h (by decide) (by decide) rfl) (fun _ => rfl) (by simp) fun j1 hj1 => ?_
    refine TD.c2 (i1 := 3) (i2 := 5) (pend1 := [⟨4, [3], [(_, _)]⟩, ⟨1, [2], []⟩]) (pend2 := [⟨2, [6], [(_, _)]⟩, ⟨1, [2], []⟩]) (L1 := [5, 6, 7, 8]) (L2 := [3, 6, 7, 8]) [5, 7] [9] rfl rfl rfl rfl rfl rfl rfl ?_ ?_
    · refine exK_appG (ln := b.seekers.flatMap saysC) rfl rfl ApOf.h rfl (by repeat (first | exact List.Mem.head _ | assumption | apply List.Mem.tail)) rfl rfl rfl (fun hp => src_sl (by repeat (first | exact List.Mem.head _ | assumption | apply List.Mem.tail)) (by omega) (take_full (n := b.seekers.length) (size := 5) (flat_len saysC 5 (fun _ => rfl) _) (by omega))) (fun h => by rw [List.eq_nil_of_length_eq_zero h]; rfl) (flat_all saysC (fun _ => rfl) _) (by unfold maxLen; omega) (by omega) (fun _ => (by repeat (first | exact Upd.head | apply Upd.tail))) (fun _ => putS rfl (by simp only [List.set]; rfl)) (fun _ => by simp) fun j2 => ?_
      simp only [List.nil_append, Nat.zero_add]
      refine TD.cnewR (pend' := [⟨1, [2], []⟩]) [9] rfl rfl rfl rfl rfl (n_buildSlice (l := [_, _, _, _, _]) rfl SlEl.h TyZ.h (by decide) (by decide) rfl) (fun _ => putS rfl (by simp only [List.set]; rfl)) (by simp) fun j5 hj5 => ?_
      refine TD.capp (pend' := [⟨1, [2], []⟩]) [8, 10] rfl rfl rfl rfl rfl (a_app rfl ApOf.h rfl (by repeat (first | exact List.Mem.head _ | assumption | apply List.Mem.tail)) (flat_len saysC 5 (fun _ => rfl) _) rfl (src_row (ln := [_, _, _, _, _]) (by repeat (first | exact List.Mem.head _ | assumption | apply List.Mem.tail)) (by decide) (by simp) rfl) (by omega) rfl (by unfold maxLen; omega) (by omega)) (fun _ => (by repeat (first | exact Upd.head | apply Upd.tail))) (fun _ => putS rfl (by simp only [List.set]; rfl)) (fun _ => (by simp)) fun j3 => ?_
      refine TD.q [2] [] rfl rfl rfl rfl (by simp) (q_fieldAddr rfl rfl FldOf.h (by decide)) (putS rfl (by simp only [List.set]; rfl)) ?_
      refine TD.cst (env' := [_, _, _, _, _, _, _, _, _, _, _, _, _, _]) (pend' := []) [11, 12] rfl rfl rfl rfl rfl (q_store rfl rfl TySz.h rfl rfl (by repeat (first | exact List.Mem.head _ | assumption | apply List.Mem.tail)) rfl) (by repeat (first | exact Upd.head | apply Upd.tail)) rfl (by simp) ?_
      refine TD.fin ?_
      refine au [4, 5, 8] ?_
      refine TK.freezeB1 13 rfl (by repeat (first | exact Upd.head | apply Upd.tail)) rfl ?_
      refine au [17, 3] ?_
      refine TK.rt hret [(s, _), (e, _), (j3, _)] ?_
      exact ⟨j3, by unfold bookC; rw [← hear_len]; rfl, by unfold saysO; rw [hear_seekers]; rfl⟩
    · refine exK_newR (envf := fun _ => [_, _, _, _, _, _, _, _, _, _, _, _, _, _]) rfl (n_buildSlice (l := [_, _, _, _, _]) rfl SlEl.h TyZ.h (by decide) (by decide) rfl) (fun _ => rfl) (by simp) fun j5 hj5 => ?_
      refine TD.cappG (ln := b.seekers.flatMap saysC) (pend' := [⟨1, [2], []⟩]) [5, 7] rfl rfl rfl rfl rfl rfl ApOf.h rfl (by repeat (first | exact List.Mem.head _ | assumption | apply List.Mem.tail)) rfl rfl rfl (fun hp => src_sl (by repeat (first | exact List.Mem.head _ | assumption | apply List.Mem.tail)) (by omega) (take_full (n := b.seekers.length) (size := 5) (flat_len saysC 5 (fun _ => rfl) _) (by omega))) (fun h => by rw [List.eq_nil_of_length_eq_zero h]; rfl) (flat_all saysC (fun _ => rfl) _) (by unfold maxLen; omega) (by omega) (fun _ => (by repeat (first | exact Upd.head | apply Upd.tail))) (fun _ => putS rfl (by simp only [List.set]; rfl)) (fun _ => by simp) fun j2 => ?_
      simp only [List.nil_append, Nat.zero_add]
      refine TD.capp (pend' := [⟨1, [2], []⟩]) [8, 10] rfl rfl rfl rfl rfl (a_app rfl ApOf.h rfl (by repeat (first | exact List.Mem.head _ | assumption | apply List.Mem.tail)) (flat_len saysC 5 (fun _ => rfl) _) rfl (src_row (ln := [_, _, _, _, _]) (by repeat (first | exact List.Mem.head _ | assumption | apply List.Mem.tail)) (by decide) (by simp) rfl) (by omega) rfl (by unfold maxLen; omega) (by omega)) (fun _ => (by repeat (first | exact Upd.head | apply Upd.tail))) (fun _ => putS rfl (by simp only [List.set]; rfl)) (fun _ => (by simp)) fun j3 => ?_
      refine TD.q [2] [] rfl rfl rfl rfl (by simp) (q_fieldAddr rfl rfl FldOf.h (by decide)) (putS rfl (by simp only [List.set]; rfl)) ?_
      refine TD.cst (env' := [_, _, _, _, _, _, _, _, _, _, _, _, _, _]) (pend' := []) [11, 12] rfl rfl rfl rfl rfl (q_store rfl rfl TySz.h rfl rfl (by repeat (first | exact List.Mem.head _ | assumption | apply List.Mem.tail)) rfl) (by repeat (first | exact Upd.head | apply Upd.tail)) rfl (by simp) ?_
      refine TD.fin ?_
      refine au [4, 5, 8] ?_
      refine TK.freezeB1 13 rfl (by repeat (first | exact Upd.head | apply Upd.tail)) rfl ?_
      refine au [17, 3] ?_
      refine TK.rt hret [(s, _), (e, _), (j3, _)] ?_
      exact ⟨j3, by unfold bookC; rw [← hear_len]; rfl, by unfold saysO; rw [hear_seekers]; rfl⟩
  · refine exK_newR (envf := fun _ => [_, _, _, _, _, _, _, _, _, _, _, _, _, _]) rfl (n_buildSlice (l := [_, _, _, _, _]) rfl SlEl.h TyZ.h (by decide) (by decide) rfl) (fun _ => rfl) (by simp) fun j5 hj5 => ?_
    refine TD.cnewR (pend' := [⟨2, [6], [(_, _)]⟩, ⟨1, [2], []⟩]) [] rfl rfl rfl rfl rfl (n_buildSlice (l := []) rfl SlEl.h TyZ.h (by decide) (by decide) rfl) (fun _ => putS rfl (by simp only [List.set]; rfl)) (by simp) fun j1 hj1 => ?_
    refine TD.cappG (ln := b.seekers.flatMap saysC) (pend' := [⟨1, [2], []⟩]) [5, 7] rfl rfl rfl rfl rfl rfl ApOf.h rfl (by repeat (first | exact List.Mem.head _ | assumption | apply List.Mem.tail)) rfl rfl rfl (fun hp => src_sl (by repeat (first | exact List.Mem.head _ | assumption | apply List.Mem.tail)) (by omega) (take_full (n := b.seekers.length) (size := 5) (flat_len saysC 5 (fun _ => rfl) _) (by omega))) (fun h => by rw [List.eq_nil_of_length_eq_zero h]; rfl) (flat_all saysC (fun _ => rfl) _) (by unfold maxLen; omega) (by omega) (fun _ => (by repeat (first | exact Upd.head | apply Upd.tail))) (fun _ => putS rfl (by simp only [List.set]; rfl)) (fun _ => by simp) fun j2 => ?_
    simp only [List.nil_append, Nat.zero_add]
    refine TD.capp (pend' := [⟨1, [2], []⟩]) [8, 10] rfl rfl rfl rfl rfl (a_app rfl ApOf.h rfl (by repeat (first | exact List.Mem.head _ | assumption | apply List.Mem.tail)) (flat_len saysC 5 (fun _ => rfl) _) rfl (src_row (ln := [_, _, _, _, _]) (by repeat (first | exact List.Mem.head _ | assumption | apply List.Mem.tail)) (by decide) (by simp) rfl) (by omega) rfl (by unfold maxLen; omega) (by omega)) (fun _ => (by repeat (first | exact Upd.head | apply Upd.tail))) (fun _ => putS rfl (by simp only [List.set]; rfl)) (fun _ => (by simp)) fun j3 => ?_
    refine TD.q [2] [] rfl rfl rfl rfl (by simp) (q_fieldAddr rfl rfl FldOf.h (by decide)) (putS rfl (by simp only [List.set]; rfl)) ?_
    refine TD.cst (env' := [_, _, _, _, _, _, _, _, _, _, _, _, _, _]) (pend' := []) [11, 12] rfl rfl rfl rfl rfl (q_store rfl rfl TySz.h rfl rfl (by repeat (first | exact List.Mem.head _ | assumption | apply List.Mem.tail)) rfl) (by repeat (first | exact Upd.head | apply Upd.tail)) rfl (by simp) ?_
    refine TD.fin ?_
    refine au [4, 5, 8] ?_
    refine TK.freezeB1 13 rfl (by repeat (first | exact Upd.head | apply Upd.tail)) rfl ?_
    refine au [17, 3] ?_
    refine TK.rt hret [(s, _), (e, _), (j3, _)] ?_
    exact ⟨j3, by unfold bookC; rw [← hear_len]; rfl, by unfold saysO; rw [hear_seekers]; rfl⟩

set_option maxRecDepth 20000 in
set_option maxHeartbeats 2000000 in
theorem lookedR_ok {main : Bool} {T : Goroutine → Hp → Prop} (hT : Shut Tryz.prog main T) {gm : Nat → Option Nat} {b : Bk} {s e : Nat} {x : Seen} (hl : b.seen.length ≤ 1000) :
    CallK Tryz.prog T gm 110 [.agg (bookC b s e), .agg (seenC x)] [(s, saysO b), (e, seenO b)] (fun r K' => ∃ j3, r = .agg (bookC (lookB b x) s j3) ∧ K' = [(s, saysO b), (e, seenO b), (j3, seenO (lookB b x))]) := by
  refine callK_in 14 hT Tryz.func110 fun Y hret => ?_
  refine au [4, 5, 21] ?_
  intro jb hjb
  refine au [21] ?_
  intro jx hjx
  refine au [22] ?_
  intro jr hjr
  refine au [3, 4] ?_
  refine TK.draw [1, 2, 4, 0, 3, 5, 6, 7, 8] [0, 1, 2, 3, 4, 5, 6, 7, 8] (by kernel_rfl) (by kernel_rfl) ?_
  refine TD.q [2] [] rfl rfl rfl rfl (by simp) (q_fieldAddr rfl rfl FldOf.h (by decide)) (putS rfl (by simp only [List.set]; rfl)) ?_
  refine TD.q [6] [(_, _)] rfl rfl rfl rfl (fun _ h => by rw [List.mem_singleton.1 h]; repeat (first | exact List.Mem.head _ | apply List.Mem.tail)) (q_load1 rfl rfl TySz.h (List.Mem.head _) rfl) (putS rfl (by simp only [List.set]; rfl)) ?_
  refine TD.q [3] [(_, _)] rfl rfl rfl rfl (fun _ h => by rw [List.mem_singleton.1 h]; repeat (first | exact List.Mem.head _ | apply List.Mem.tail)) (q_load rfl rfl TySz.h (List.Mem.head _) rfl) (putS rfl (by simp only [List.set]; rfl)) ?_
  refine TD.c2 (i1 := 0) (i2 := 5) (pend1 := [⟨4, [3], [(_, _)]⟩, ⟨2, [6], [(_, _)]⟩, ⟨1, [2], []⟩]) (pend2 := [⟨2, [6], [(_, _)]⟩, ⟨1, [2], []⟩]) (L1 := [3, 5, 6, 7, 8]) (L2 := [0, 3, 6, 7, 8]) [] [9] rfl rfl rfl rfl rfl rfl rfl ?_ ?_
  · refine exK_newR (envf := fun _ => [_, _, _, _, _, _, _, _, _, _, _, _, _, _]) rfl (n_buildSlice (l := []) rfl SlEl.h TyZ.h (by decide) (by decide) rfl) (fun _ => rfl) (by simp) fun j1 hj1 => ?_
    refine TD.c2 (i1 := 3) (i2 := 5) (pend1 := [⟨4, [3], [(_, _)]⟩, ⟨1, [2], []⟩]) (pend2 := [⟨2, [6], [(_, _)]⟩, ⟨1, [2], []⟩]) (L1 := [5, 6, 7, 8]) (L2 := [3, 6, 7, 8]) [5, 7] [9] rfl rfl rfl rfl rfl rfl rfl ?_ ?_
    · refine exK_appG (ln := b.seen.flatMap seenC) rfl rfl ApOf.h rfl (by repeat (first | exact List.Mem.head _ | assumption | apply List.Mem.tail)) rfl rfl rfl (fun hp => src_sl (by repeat (first | exact List.Mem.head _ | assumption | apply List.Mem.tail)) (by omega) (take_full (n := b.seen.length) (size := 2) (flat_len seenC 2 (fun _ => rfl) _) (by omega))) (fun h => by rw [List.eq_nil_of_length_eq_zero h]; rfl) (flat_all seenC (fun _ => rfl) _) (by unfold maxLen; omega) (by omega) (fun _ => (by repeat (first | exact Upd.head | apply Upd.tail))) (fun _ => putS rfl (by simp only [List.set]; rfl)) (fun _ => by simp) fun j2 => ?_
      simp only [List.nil_append, Nat.zero_add]
      refine TD.cnewR (pend' := [⟨1, [2], []⟩]) [9] rfl rfl rfl rfl rfl (n_buildSlice (l := [_, _]) rfl SlEl.h TyZ.h (by decide) (by decide) rfl) (fun _ => putS rfl (by simp only [List.set]; rfl)) (by simp) fun j5 hj5 => ?_
      refine TD.capp (pend' := [⟨1, [2], []⟩]) [8, 10] rfl rfl rfl rfl rfl (a_app rfl ApOf.h rfl (by repeat (first | exact List.Mem.head _ | assumption | apply List.Mem.tail)) (flat_len seenC 2 (fun _ => rfl) _) rfl (src_row (ln := [_, _]) (by repeat (first | exact List.Mem.head _ | assumption | apply List.Mem.tail)) (by decide) (by simp) rfl) (by omega) rfl (by unfold maxLen; omega) (by omega)) (fun _ => (by repeat (first | exact Upd.head | apply Upd.tail))) (fun _ => putS rfl (by simp only [List.set]; rfl)) (fun _ => (by simp)) fun j3 => ?_
      refine TD.q [2] [] rfl rfl rfl rfl (by simp) (q_fieldAddr rfl rfl FldOf.h (by decide)) (putS rfl (by simp only [List.set]; rfl)) ?_
      refine TD.cst (env' := [_, _, _, _, _, _, _, _, _, _, _, _, _, _]) (pend' := []) [11, 12] rfl rfl rfl rfl rfl (q_store rfl rfl TySz.h rfl rfl (by repeat (first | exact List.Mem.head _ | assumption | apply List.Mem.tail)) rfl) (by repeat (first | exact Upd.head | apply Upd.tail)) rfl (by simp) ?_
      refine TD.fin ?_
      refine au [4, 5, 8] ?_
      refine TK.freezeB2 13 rfl (by repeat (first | exact Upd.head | apply Upd.tail)) rfl ?_
      refine au [17, 3] ?_
      refine TK.rt hret [(s, _), (e, _), (j3, _)] ?_
      exact ⟨j3, by unfold bookC; rw [← look_len]; rfl, by unfold seenO; rw [look_seen]; rfl⟩
    · refine exK_newR (envf := fun _ => [_, _, _, _, _, _, _, _, _, _, _, _, _, _]) rfl (n_buildSlice (l := [_, _]) rfl SlEl.h TyZ.h (by decide) (by decide) rfl) (fun _ => rfl) (by simp) fun j5 hj5 => ?_
      refine TD.cappG (ln := b.seen.flatMap seenC) (pend' := [⟨1, [2], []⟩]) [5, 7] rfl rfl rfl rfl rfl rfl ApOf.h rfl (by repeat (first | exact List.Mem.head _ | assumption | apply List.Mem.tail)) rfl rfl rfl (fun hp => src_sl (by repeat (first | exact List.Mem.head _ | assumption | apply List.Mem.tail)) (by omega) (take_full (n := b.seen.length) (size := 2) (flat_len seenC 2 (fun _ => rfl) _) (by omega))) (fun h => by rw [List.eq_nil_of_length_eq_zero h]; rfl) (flat_all seenC (fun _ => rfl) _) (by unfold maxLen; omega) (by omega) (fun _ => (by repeat (first | exact Upd.head | apply Upd.tail))) (fun _ => putS rfl (by simp only [List.set]; rfl)) (fun _ => by simp) fun j2 => ?_
      simp only [List.nil_append, Nat.zero_add]
      refine TD.capp (pend' := [⟨1, [2], []⟩]) [8, 10] rfl rfl rfl rfl rfl (a_app rfl ApOf.h rfl (by repeat (first | exact List.Mem.head _ | assumption | apply List.Mem.tail)) (flat_len seenC 2 (fun _ => rfl) _) rfl (src_row (ln := [_, _]) (by repeat (first | exact List.Mem.head _ | assumption | apply List.Mem.tail)) (by decide) (by simp) rfl) (by omega) rfl (by unfold maxLen; omega) (by omega)) (fun _ => (by repeat (first | exact Upd.head | apply Upd.tail))) (fun _ => putS rfl (by simp only [List.set]; rfl)) (fun _ => (by simp)) fun j3 => ?_
      refine TD.q [2] [] rfl rfl rfl rfl (by simp) (q_fieldAddr rfl rfl FldOf.h (by decide)) (putS rfl (by simp only [List.set]; rfl)) ?_
      refine TD.cst (env' := [_, _, _, _, _, _, _, _, _, _, _, _, _, _]) (pend' := []) [11, 12] rfl rfl rfl rfl rfl (q_store rfl rfl TySz.h rfl rfl (by repeat (first | exact List.Mem.head _ | assumption | apply List.Mem.tail)) rfl) (by repeat (first | exact Upd.head | apply Upd.tail)) rfl (by simp) ?_
      refine TD.fin ?_
      refine au [4, 5, 8] ?_
      refine TK.freezeB2 13 rfl (by repeat (first | exact Upd.head | apply Upd.tail)) rfl ?_
      refine au [17, 3] ?_
      refine TK.rt hret [(s, _), (e, _), (j3, _)] ?_
      exact ⟨j3, by unfold bookC; rw [← look_len]; rfl, by unfold seenO; rw [look_seen]; rfl⟩
  · refine exK_newR (envf := fun _ => [_, _, _, _, _, _, _, _, _, _, _, _, _, _]) rfl (n_buildSlice (l := [_, _]) rfl SlEl.h TyZ.h (by decide) (by decide) rfl) (fun _ => rfl) (by simp) fun j5 hj5 => ?_
    refine TD.cnewR (pend' := [⟨2, [6], [(_, _)]⟩, ⟨1, [2], []⟩]) [] rfl rfl rfl rfl rfl (n_buildSlice (l := []) rfl SlEl.h TyZ.h (by decide) (by decide) rfl) (fun _ => putS rfl (by simp only [List.set]; rfl)) (by simp) fun j1 hj1 => ?_
    refine TD.cappG (ln := b.seen.flatMap seenC) (pend' := [⟨1, [2], []⟩]) [5, 7] rfl rfl rfl rfl rfl rfl ApOf.h rfl (by repeat (first | exact List.Mem.head _ | assumption | apply List.Mem.tail)) rfl rfl rfl (fun hp => src_sl (by repeat (first | exact List.Mem.head _ | assumption | apply List.Mem.tail)) (by omega) (take_full (n := b.seen.length) (size := 2) (flat_len seenC 2 (fun _ => rfl) _) (by omega))) (fun h => by rw [List.eq_nil_of_length_eq_zero h]; rfl) (flat_all seenC (fun _ => rfl) _) (by unfold maxLen; omega) (by omega) (fun _ => (by repeat (first | exact Upd.head | apply Upd.tail))) (fun _ => putS rfl (by simp only [List.set]; rfl)) (fun _ => by simp) fun j2 => ?_
    simp only [List.nil_append, Nat.zero_add]
    refine TD.capp (pend' := [⟨1, [2], []⟩]) [8, 10] rfl rfl rfl rfl rfl (a_app rfl ApOf.h rfl (by repeat (first | exact List.Mem.head _ | assumption | apply List.Mem.tail)) (flat_len seenC 2 (fun _ => rfl) _) rfl (src_row (ln := [_, _]) (by repeat (first | exact List.Mem.head _ | assumption | apply List.Mem.tail)) (by decide) (by simp) rfl) (by omega) rfl (by unfold maxLen; omega) (by omega)) (fun _ => (by repeat (first | exact Upd.head | apply Upd.tail))) (fun _ => putS rfl (by simp only [List.set]; rfl)) (fun _ => (by simp)) fun j3 => ?_
    refine TD.q [2] [] rfl rfl rfl rfl (by simp) (q_fieldAddr rfl rfl FldOf.h (by decide)) (putS rfl (by simp only [List.set]; rfl)) ?_
    refine TD.cst (env' := [_, _, _, _, _, _, _, _, _, _, _, _, _, _]) (pend' := []) [11, 12] rfl rfl rfl rfl rfl (q_store rfl rfl TySz.h rfl rfl (by repeat (first | exact List.Mem.head _ | assumption | apply List.Mem.tail)) rfl) (by repeat (first | exact Upd.head | apply Upd.tail)) rfl (by simp) ?_
    refine TD.fin ?_
    refine au [4, 5, 8] ?_
    refine TK.freezeB2 13 rfl (by repeat (first | exact Upd.head | apply Upd.tail)) rfl ?_
    refine au [17, 3] ?_
    refine TK.rt hret [(s, _), (e, _), (j3, _)] ?_
    exact ⟨j3, by unfold bookC; rw [← look_len]; rfl, by unfold seenO; rw [look_seen]; rfl⟩

set_option maxRecDepth 20000 in
set_option maxHeartbeats 2000000 in
theorem givenR_ok {main : Bool} {T : Goroutine → Hp → Prop} (hT : Shut Tryz.prog main T) {gm : Nat → Option Nat} {b : Bk} {s e : Nat} {k : Nat} (hl2 : b.seekers.length ≤ 1000) (hk : k < b.seekers.length) :
    CallK Tryz.prog T gm 109 [.agg (bookC b s e), intA k] [(s, saysO b), (e, seenO b)] (fun r K' => ∃ j3, r = .agg (bookC (giveB b k) j3 e) ∧ K' = [(s, saysO b), (e, seenO b), (j3, saysO (giveB b k))]) := by
  refine callK_in 16 hT Tryz.func109 fun Y hret => ?_
  refine au [4, 5, 21] ?_
  intro jb hjb
  refine au [22] ?_
  intro jr hjr
  refine au [3, 4, 5] ?_
  refine TK.newR rfl rfl rfl (n_buildSlice (l := []) rfl SlEl.h TyZ.h (by decide) (by decide) rfl) (fun _ => putS rfl (by simp only [List.set]; rfl)) fun j1 hj1 => ?_
  refine au [7, 9] ?_
  refine TK.appG (ln := b.seekers.flatMap saysC) rfl rfl rfl ApOf.h rfl (by repeat (first | exact List.Mem.head _ | assumption | apply List.Mem.tail)) rfl rfl rfl (fun hp => src_sl (by repeat (first | exact List.Mem.head _ | assumption | apply List.Mem.tail)) (by omega) (take_full (n := b.seekers.length) (size := 5) (flat_len saysC 5 (fun _ => rfl) _) (by omega))) (fun h => by rw [List.eq_nil_of_length_eq_zero h]; rfl) (flat_all saysC (fun _ => rfl) _) (by unfold maxLen; omega) (by omega) (fun _ => (by repeat (first | exact Upd.head | apply Upd.tail))) (fun _ => putS rfl (by simp only [List.set]; rfl)) fun j2 => ?_
  simp only [List.nil_append, Nat.zero_add]
  refine au [7, 17, 3, 4, 5, 7, 9, 1, 37, 7] ?_
  refine TK.st rfl rfl rfl (q_store rfl rfl TySz.h rfl rfl (by repeat (first | exact List.Mem.head _ | assumption | apply List.Mem.tail)) (put_glass hk)) (by repeat (first | exact Upd.head | apply Upd.tail)) (putN rfl) ?_
  refine au [3, 4, 5, 8] ?_
  refine TK.freezeB1 15 rfl (by repeat (first | exact Upd.head | apply Upd.tail)) rfl ?_
  refine au [17, 3] ?_
  refine TK.rt hret [(s, _), (e, _), (j2, _)] ?_
  exact ⟨j2, by unfold bookC; rw [← give_len]; rfl, rfl⟩

set_option maxRecDepth 20000 in
set_option maxHeartbeats 2000000 in
theorem agreedR_ok {main : Bool} {T : Goroutine → Hp → Prop} (hT : Shut Tryz.prog main T) {gm : Nat → Option Nat} {b : Bk} {s e : Nat} (hse : s ≠ e) (hn : ∀ x ∈ b.seekers, x.name.size ≤ 1000) (hl : b.seen.length ≤ 1000) (hl2 : b.seekers.length ≤ 1000) :
    CallK Tryz.prog T gm 107 [.agg (bookC b s e)] [(s, saysO b), (e, seenO b)] (fun r K' => ((knownBar b true ≠ 0 ∧ r = .tup [.agg zeroBk, intA (knownBar b true)]) ∨ (knownBar b true = 0 ∧ r = .tup [.agg (bookC b s e), intA 0])) ∧ K' = [(s, saysO b), (e, seenO b)]) := by
  refine callK_in 16 hT Tryz.func107 fun Y hret => ?_
  refine au [4, 5, 21] ?_
  intro jb hjb
  refine au [22] ?_
  intro jr hjr
  refine au [2, 3, 4, 4, 5, 8] ?_
  refine TK.cl rfl rfl rfl rfl (knownR_ok hT (t := true) hse hn hl hl2) ?_
  rintro r1 K2 h3
  rcases h3 with ⟨bar, rfl, ⟨hb0, rfl, rfl⟩ | ⟨hb0, j, P, Q, rfl, hP, hPQ, rfl⟩⟩
  · refine au [1, 10, 10, 2, 2, 3, 4, 5, 1, 6, 3, 20] ?_
    refine ⟨fun hc0 => ?_, fun hc0 => ?_⟩
    · skip
      refine au [4, 5, 43, 1, 17, 2, 3] ?_
      refine TK.rt hret [(s, _), (e, _)] ?_
      exact ⟨.inl ⟨hb0, rfl⟩, rfl⟩
    exact absurd (by simpa using hc0) hb0
  · refine au [] ?_
    refine TK.perm (.cons _ (.cons _ (.cons _ List.perm_append_comm))) ?_
    refine au [1, 10, 10, 2, 2, 3, 4, 5, 1, 6, 3, 20] ?_
    refine ⟨fun hc0 => ?_, fun hc0 => ?_⟩
    · simp at hc0
    skip
    refine au [12, 4, 5, 8, 17, 2, 3] ?_
    refine TK.rt hret [(s, _), (e, _)] ?_
    exact ⟨.inr ⟨hb0, rfl⟩, rfl⟩

set_option maxRecDepth 20000 in
set_option maxHeartbeats 4000000 in
theorem hearR_ok {main : Bool} {T : Goroutine → Hp → Prop} (hT : Shut Tryz.prog main T) {gm : Nat → Option Nat} {b : Bk} {s e : Nat} {x : Says} (hse : s ≠ e) (hn : ∀ x ∈ b.seekers, x.name.size ≤ 1000) (hl : b.seen.length ≤ 1000) (hl2 : b.seekers.length ≤ 1000) (hx : x.name.size ≤ 1000) :
    CallK Tryz.prog T gm 39 [.agg (bookC b s e), .agg (saysC x)] [(s, saysO b), (e, seenO b)] (fun r K' => (newsR b (hearB b x) ≠ 0 ∧ r = .tup [.agg zeroBk, intA (newsR b (hearB b x))] ∧ K' = [(s, saysO b), (e, seenO b)]) ∨ (newsR b (hearB b x) = 0 ∧ ∃ j3, r = .tup [.agg (bookC (hearB b x) j3 e), intA 0] ∧ K' = [(s, saysO b), (e, seenO b), (j3, saysO (hearB b x))])) := by
  refine callK_in 19 hT Tryz.func39 fun Y hret => ?_
  refine au [4, 5, 21] ?_
  intro jb hjb
  refine au [21] ?_
  intro jx hjx
  refine au [22] ?_
  intro jr hjr
  refine au [2, 3, 4, 4, 5, 8] ?_
  refine TK.cl rfl rfl rfl rfl (checkR_ok hT hse hn hl hl2) ?_
  rintro r1 K2 ⟨rfl, rfl⟩
  refine au [2, 3, 4, 5, 1, 6, 3, 20] ?_
  refine ⟨fun hc0 => ?_, fun hc0 => ?_⟩
  · refine au [4, 5, 43, 1, 17, 2, 3] ?_
    refine TK.rt hret [(s, _), (e, _)] ?_
    have ha : newsR b (hearB b x) = checkM b := if_pos (by simpa using hc0)
    exact .inl ⟨by rw [ha]; simpa using hc0, by rw [ha]; rfl, rfl⟩
  have hb := bkOk_of (b := b) (by simpa using hc0)
  have hns := hb.ns
  have hne := hb.ne
  refine au [12, 4, 5, 8, 8] ?_
  refine TK.cl rfl rfl rfl rfl (heardR_ok hT (x := x) hl2) ?_
  rintro r4 K5 ⟨j3, rfl, rfl⟩
  refine au [] ?_
  refine TK.nd fun hnd => ?_
  have hjj : j3 ≠ e := fun h => by subst h; simp [keys] at hnd
  refine TK.cl rfl rfl rfl rfl (agreedR_ok hT (b := hearB b x) (s := j3) (e := e) hjj (hear_names hn hx) (hl) (by simp [hearB]; omega)) ?_
  rintro r7 K8 h9
  rcases h9 with ⟨⟨hb0, rfl⟩ | ⟨hb0, rfl⟩, rfl⟩
  · refine au [10, 10, 17, 2, 3] ?_
    refine TK.rt hret [(s, _), (e, _)] ?_
    have ha : newsR b (hearB b x) = knownBar (hearB b x) true := if_neg (by simpa using hc0)
    exact .inl ⟨by rw [ha]; exact hb0, by rw [ha]; rfl, rfl⟩
  · refine au [10, 10, 17, 2, 3] ?_
    refine TK.rt hret [(s, _), (e, _), (j3, _)] ?_
    have ha : newsR b (hearB b x) = knownBar (hearB b x) true := if_neg (by simpa using hc0)
    exact .inr ⟨by rw [ha]; exact hb0, j3, rfl, rfl⟩

set_option maxRecDepth 20000 in
set_option maxHeartbeats 4000000 in
theorem lookR_ok {main : Bool} {T : Goroutine → Hp → Prop} (hT : Shut Tryz.prog main T) {gm : Nat → Option Nat} {b : Bk} {s e : Nat} {n : Int} {sm : Bool} (hse : s ≠ e) (hn : ∀ x ∈ b.seekers, x.name.size ≤ 1000) (hl : b.seen.length ≤ 1000) (hl2 : b.seekers.length ≤ 1000) :
    CallK Tryz.prog T gm 44 [.agg (bookC b s e), intA n, boolA sm] [(s, saysO b), (e, seenO b)] (fun r K' => (newsR b (lookB b ⟨n, sm⟩) ≠ 0 ∧ r = .tup [.agg zeroBk, intA (newsR b (lookB b ⟨n, sm⟩))] ∧ K' = [(s, saysO b), (e, seenO b)]) ∨ (newsR b (lookB b ⟨n, sm⟩) = 0 ∧ ∃ j3, r = .tup [.agg (bookC (lookB b ⟨n, sm⟩) s j3), intA 0] ∧ K' = [(s, saysO b), (e, seenO b), (j3, seenO (lookB b ⟨n, sm⟩))])) := by
  refine callK_in 23 hT Tryz.func44 fun Y hret => ?_
  refine au [4, 5, 21] ?_
  intro jb hjb
  refine au [22] ?_
  intro jr hjr
  refine au [2, 3, 4, 4, 5, 8] ?_
  refine TK.cl rfl rfl rfl rfl (checkR_ok hT hse hn hl hl2) ?_
  rintro r1 K2 ⟨rfl, rfl⟩
  refine au [2, 3, 4, 5, 1, 6, 3, 20] ?_
  refine ⟨fun hc0 => ?_, fun hc0 => ?_⟩
  · refine au [4, 5, 43, 1, 17, 2, 3] ?_
    refine TK.rt hret [(s, _), (e, _)] ?_
    have ha : newsR b (lookB b ⟨n, sm⟩) = checkM b := if_pos (by simpa using hc0)
    exact .inl ⟨by rw [ha]; simpa using hc0, by rw [ha]; rfl, rfl⟩
  have hb := bkOk_of (b := b) (by simpa using hc0)
  have hns := hb.ns
  have hne := hb.ne
  refine au [12, 4, 5, 8, 1, 1, 39] ?_
  refine TK.cl rfl rfl rfl rfl (lookedR_ok hT (x := ⟨n, sm⟩) hl) ?_
  rintro r4 K5 ⟨j3, rfl, rfl⟩
  refine au [] ?_
  refine TK.nd fun hnd => ?_
  have hjj : s ≠ j3 := fun h => by subst h; simp [keys] at hnd
  refine TK.cl rfl rfl rfl rfl (agreedR_ok hT (b := lookB b ⟨n, sm⟩) (s := s) (e := j3) hjj (hn) (by simp [lookB]; omega) (hl2)) ?_
  rintro r7 K8 h9
  rcases h9 with ⟨⟨hb0, rfl⟩ | ⟨hb0, rfl⟩, rfl⟩
  · refine au [10, 10, 17, 2, 3] ?_
    refine TK.rt hret [(s, _), (e, _)] ?_
    have ha : newsR b (lookB b ⟨n, sm⟩) = knownBar (lookB b ⟨n, sm⟩) true := if_neg (by simpa using hc0)
    exact .inl ⟨by rw [ha]; exact hb0, by rw [ha]; rfl, rfl⟩
  · refine au [10, 10, 17, 2, 3] ?_
    refine TK.rt hret [(s, _), (e, _), (j3, _)] ?_
    have ha : newsR b (lookB b ⟨n, sm⟩) = knownBar (lookB b ⟨n, sm⟩) true := if_neg (by simpa using hc0)
    exact .inr ⟨by rw [ha]; exact hb0, j3, rfl, rfl⟩

set_option maxRecDepth 20000 in
set_option maxHeartbeats 4000000 in
theorem giveR_ok {main : Bool} {T : Goroutine → Hp → Prop} (hT : Shut Tryz.prog main T) {gm : Nat → Option Nat} {b : Bk} {s e : Nat} {n : Int} (hse : s ≠ e) (hn : ∀ x ∈ b.seekers, x.name.size ≤ 1000) (hl : b.seen.length ≤ 1000) (hl2 : b.seekers.length ≤ 1000) :
    CallK Tryz.prog T gm 42 [.agg (bookC b s e), intA n] [(s, saysO b), (e, seenO b)] (fun r K' => (giveR b n ≠ 0 ∧ r = .tup [.agg zeroBk, intA (giveR b n)] ∧ K' = [(s, saysO b), (e, seenO b)]) ∨ (giveR b n = 0 ∧ ∃ j3, r = .tup [.agg (bookC (giveB b n.toNat) j3 e), intA 0] ∧ K' = [(s, saysO b), (e, seenO b), (j3, saysO (giveB b n.toNat))])) := by
  refine callK_in 31 hT Tryz.func42 fun Y hret => ?_
  refine au [4, 5, 21] ?_
  intro jb hjb
  refine au [22] ?_
  intro jr hjr
  refine au [2, 3, 4, 4, 5, 8] ?_
  refine TK.cl rfl rfl rfl rfl (checkR_ok hT hse hn hl hl2) ?_
  rintro r1 K2 ⟨rfl, rfl⟩
  refine au [2, 3, 4, 5, 1, 6, 3, 20] ?_
  refine ⟨fun hc0 => ?_, fun hc0 => ?_⟩
  · refine au [4, 5, 43, 1, 17, 2, 3] ?_
    refine TK.rt hret [(s, _), (e, _)] ?_
    have ha : giveR b n = checkM b := if_pos (by simpa using hc0)
    exact .inl ⟨by rw [ha]; simpa using hc0, by rw [ha]; rfl, rfl⟩
  have hb := bkOk_of (b := b) (by simpa using hc0)
  have hns := hb.ns
  have hne := hb.ne
  refine au [12, 4, 4, 5, 8, 1] ?_
  refine TK.cl rfl rfl rfl rfl (isSeekerR_ok hT (b := b) (s := s) (e := e) hl2) ?_
  rintro r4 K5 ⟨rfl, rfl⟩
  refine au [30, 3, 20] ?_
  refine ⟨fun hc1 => ?_, fun hc1 => ?_⟩
  · refine au [4, 5, 43, 17, 2, 3] ?_
    refine TK.rt hret [(s, _), (e, _)] ?_
    have ha : giveR b n = 6 := by unfold giveR; rw [if_neg (by simpa using hc0), if_pos (by simpa using hc1)]
    exact .inl ⟨by rw [ha]; decide, by rw [ha]; rfl, rfl⟩
  have hk0 : isSeekerM b n = true := by simpa using hc1
  obtain ⟨k, rfl⟩ : ∃ k : Nat, n = k := ⟨n.toNat, by simp only [isSeekerM, Bool.and_eq_true, decide_eq_true_eq] at hk0; omega⟩
  have hk : k < b.seekers.length := by simp only [isSeekerM, Bool.and_eq_true, decide_eq_true_eq] at hk0; omega
  refine au [12, 4, 4, 5, 7, 9, 1, 36, 7] ?_
  refine TK.a rfl (q_load1 rfl rfl TySz.h (by repeat (first | exact List.Mem.head _ | assumption | apply List.Mem.tail)) (says_glass hk)) ?_
  refine au [3, 20] ?_
  refine ⟨fun hc2 => ?_, fun hc2 => ?_⟩
  · refine au [4, 5, 43, 17, 2, 3] ?_
    refine TK.rt hret [(s, _), (e, _)] ?_
    have ha : giveR b (k : Int) = 5 := by unfold giveR; rw [if_neg (by simpa using hc0), hk0, if_neg (by decide), Int.toNat_natCast, hc2, if_pos rfl]
    exact .inl ⟨by rw [ha]; decide, by rw [ha]; rfl, rfl⟩
  refine au [12, 4, 5, 8, 1] ?_
  refine TK.cl rfl rfl rfl rfl (givenR_ok hT hl2 hk) ?_
  rintro r7 K8 ⟨j3, rfl, rfl⟩
  refine au [] ?_
  refine TK.nd fun hnd => ?_
  have hjj : j3 ≠ e := fun h => by subst h; simp [keys] at hnd
  refine TK.cl rfl rfl rfl rfl (agreedR_ok hT (b := giveB b k) (s := j3) (e := e) hjj (give_names hn) (hl) (by rw [← give_len]; exact hl2)) ?_
  rintro r10 K11 h12
  rcases h12 with ⟨⟨hb0, rfl⟩ | ⟨hb0, rfl⟩, rfl⟩
  · refine au [10, 10, 17, 2, 3] ?_
    refine TK.rt hret [(s, _), (e, _)] ?_
    have ha : giveR b (k : Int) = knownBar (giveB b k) true := by unfold giveR; rw [if_neg (by simpa using hc0), hk0, if_neg (by decide), Int.toNat_natCast, hc2, if_neg (by decide)]
    exact .inl ⟨by rw [ha]; exact hb0, by rw [ha]; rfl, rfl⟩
  · refine au [10, 10, 17, 2, 3] ?_
    refine TK.rt hret [(s, _), (e, _), (j3, _)] ?_
    have ha : giveR b (k : Int) = knownBar (giveB b k) true := by unfold giveR; rw [if_neg (by simpa using hc0), hk0, if_neg (by decide), Int.toNat_natCast, hc2, if_neg (by decide)]
    exact .inr ⟨by rw [ha]; exact hb0, j3, rfl, rfl⟩
end Go.Vel
end
section
set_option linter.all false
namespace Go.Vel
open Go Go.Conc Go.Proofs

/-! ### the states of the program, and of the specification -/
theorem loop_sub {b : Bk} : ∀ (rest S R : List Int), R ∈ loopM b S rest → ∃ T, T.Sublist rest ∧ T ≠ [] ∧ R = S ++ T
  | [], S, R, h => by cases h
  | n :: rest, S, R, h => by
    simp only [loopM] at h
    split at h
    · rcases List.mem_append.1 h with h | h
      · rcases List.mem_append.1 h with h | h
        · unfold ownM at h
          split at h
          · rw [List.mem_singleton.1 h]
            exact ⟨[n], .cons_cons _ (List.nil_sublist _), by simp, rfl⟩
          · cases h
        · obtain ⟨T, h1, _, rfl⟩ := loop_sub rest _ R h
          exact ⟨n :: T, .cons_cons _ h1, by simp, by simp⟩
      · obtain ⟨T, h1, h2, rfl⟩ := loop_sub rest _ R h
        exact ⟨T, .cons _ h1, h2, rfl⟩
    · cases h
theorem own_nodup (b : Bk) (S : List Int) : (ownM b S).Nodup := by
  unfold ownM
  split <;> simp
theorem loop_nodup {b : Bk} : ∀ (rest S : List Int), rest.Nodup → (loopM b S rest).Nodup
  | [], S, _ => by simp [loopM]
  | n :: rest, S, h => by
    have h2 := List.nodup_cons.1 h
    simp only [loopM]
    split
    · refine List.nodup_append.2 ⟨List.nodup_append.2 ⟨own_nodup _ _, loop_nodup rest _ h2.2, fun x hx y hy e => ?_⟩, loop_nodup rest _ h2.2, fun x hx y hy e => ?_⟩
      · subst e
        obtain ⟨T, _, hT, rfl⟩ := loop_sub _ _ _ hy
        unfold ownM at hx
        split at hx
        · have := List.mem_singleton.1 hx
          exact hT (by simpa using this)
        · cases hx
      · subst e
        obtain ⟨T, hT1, _, e2⟩ := loop_sub _ _ _ hy
        have hn : n ∈ T := by
          rcases List.mem_append.1 hx with hx | hx
          · unfold ownM at hx
            split at hx
            · have := List.mem_singleton.1 hx
              rw [e2] at this
              have := List.append_cancel_left this
              simp [this]
            · cases hx
          · obtain ⟨T', _, _, e3⟩ := loop_sub _ _ _ hx
            rw [e2, List.append_assoc] at e3
            have := List.append_cancel_left e3
            simp [this]
        exact h2.1 (hT1.subset hn)
    · simp
theorem restM_pair (b : Bk) (i : Nat) : (restM b i).Pairwise (· < ·) := by
  unfold restM
  rw [List.pairwise_map]
  exact (List.pairwise_lt_range' (s := i) (n := b.steps.toNat - i)).imp fun h => by omega
theorem allM_nodup (b : Bk) : (allM b).Nodup := by
  have hr : (restM b 0).Nodup := (restM_pair b 0).imp fun h e => by omega
  refine List.nodup_append.2 ⟨own_nodup _ _, loop_nodup _ _ hr, fun x hx y hy e => ?_⟩
  subst e
  obtain ⟨T, _, hT, rfl⟩ := loop_sub _ _ _ hy
  unfold ownM at hx
  split at hx
  · exact hT (by simpa using List.mem_singleton.1 hx)
  · cases hx
theorem allM_pair {b : Bk} {R : List Int} (h : R ∈ allM b) : R.Pairwise (· < ·) := by
  rcases List.mem_append.1 h with h | h
  · unfold ownM at h
    split at h
    · rw [List.mem_singleton.1 h]; exact .nil
    · cases h
  · obtain ⟨T, h1, _, rfl⟩ := loop_sub _ _ _ h
    exact (restM_pair b 0).sublist h1
theorem loop_high {b : Bk} : ∀ (rest S R : List Int), R ∈ loopM b S rest → (R.length : Int) ≤ b.high
  | [], S, R, h => by cases h
  | n :: rest, S, R, h => by
    simp only [loopM] at h
    split at h
    · rename_i hlt
      rcases List.mem_append.1 h with h | h
      · rcases List.mem_append.1 h with h | h
        · unfold ownM at h
          split at h
          · rw [List.mem_singleton.1 h, List.length_append]
            simp; omega
          · cases h
        · exact loop_high rest _ R h
      · exact loop_high rest _ R h
    · cases h
theorem memA {b : Bk} {xs : List Int} (hp : xs.Pairwise (· < ·)) (hr : ∀ x ∈ xs, 0 ≤ x ∧ x < b.steps) (hs : seenM b xs = true) : xs ∈ allM b := by
  unfold allM
  have hh : ((xs.length : Int)) ≤ b.high := by
    unfold seenM at hs
    simp only [Bool.and_eq_true, decide_eq_true_eq] at hs
    exact hs.1.2
  by_cases h0 : xs = []
  · subst h0
    refine List.mem_append.2 (.inl ?_)
    unfold ownM
    rw [if_pos hs]
    exact List.mem_singleton.2 rfl
  · exact List.mem_append.2 (.inr (mem_loopM (restM b 0) [] xs (sub_rest _ 0 xs rfl hp fun x hx => by have := hr x hx; omega) h0 hh hs))

theorem sets_pair {most : Int} : ∀ n, ∀ l ∈ setsM most n, l.Pairwise (· < ·)
  | 0, l, hl => by rw [List.mem_singleton.1 hl]; exact .nil
  | n + 1, l, hl => by
    rcases List.mem_append.1 hl with hl | hl
    · exact sets_pair n l hl
    · obtain ⟨y, hy, rfl⟩ := List.mem_map.1 hl
      have hy' := List.mem_reverse.1 (List.mem_filter.1 hy).1
      refine List.pairwise_append.2 ⟨sets_pair n y hy', by simp, fun a ha c hc => ?_⟩
      rw [List.mem_singleton.1 hc]
      exact (setsM_mem n y hy' a ha).2
theorem sets_mem {most : Int} : ∀ (n : Nat) (l : List Int), l.Pairwise (· < ·) → (∀ x ∈ l, 0 ≤ x ∧ x < n) → (l.length : Int) ≤ most → l ∈ setsM most n
  | 0, l, _, hr, _ => by
    cases l with
    | nil => exact List.mem_singleton.2 rfl
    | cons x l => have := hr x (by simp); omega
  | n + 1, l, hp, hr, hl => by
    rcases List.eq_nil_or_concat l with rfl | ⟨y, a, rfl⟩
    · exact List.mem_append.2 (.inl (sets_mem n [] .nil (fun x hx => by cases hx) hl))
    · rw [List.concat_eq_append] at hp hr hl ⊢
      have hp2 := List.pairwise_append.1 hp
      have ha := hr a (by simp)
      have hlt : ∀ x ∈ y, x < a := fun x hx => hp2.2.2 x hx a (by simp)
      by_cases e : a = n
      · subst e
        refine List.mem_append.2 (.inr (List.mem_map.2 ⟨y, List.mem_filter.2 ⟨List.mem_reverse.2 (sets_mem n y hp2.1 (fun x hx => ?_) ?_), ?_⟩, rfl⟩))
        · have := hlt x hx; have := hr x (by simp [hx]); omega
        · simp at hl; omega
        · unfold shortB; simp at hl ⊢; omega
      · refine List.mem_append.2 (.inl (sets_mem n _ hp (fun x hx => ?_) hl))
        have h1 := hr x hx
        rcases List.mem_append.1 hx with hx | hx
        · have := hlt x hx; omega
        · rw [List.mem_singleton.1 hx] at h1 ⊢; omega
theorem sets_nodup {most : Int} : ∀ n, (setsM most n).Nodup
  | 0 => by simp [setsM]
  | n + 1 => by
    have ih := sets_nodup (most := most) n
    refine List.nodup_append.2 ⟨ih, ?_, fun x hx y hy e => ?_⟩
    · unfold moreM List.Nodup
      rw [List.pairwise_map]
      refine List.Pairwise.filter _ ?_
      exact (List.pairwise_reverse.2 (ih.imp fun {a c} h => (fun e => h e.symm : c ≠ a))).imp fun h e => h (List.append_cancel_right e)
    · subst e
      obtain ⟨y, _, rfl⟩ := List.mem_map.1 hy
      have := setsM_mem n _ hx n (by simp)
      omega
theorem can_seen {b : Bk} {S : List Int} (h : canM b S = true) : seenM b S = true := by
  unfold canM at h
  simp only [Bool.and_eq_true] at h
  exact h.2
/-- THE STATES ARE THE SAME, IN ANOTHER ORDER. -/
theorem states_perm {b : Bk} (hb : BkOk b) : (statesM b).Perm (statesR b) := by
  unfold statesM statesR
  refine (List.perm_ext_iff_of_nodup (List.Pairwise.filter _ (allM_nodup b)) (List.Pairwise.filter _ (sets_nodup _))).2 fun S => ?_
  rw [List.mem_filter, List.mem_filter]
  constructor
  · rintro ⟨h1, h2⟩
    refine ⟨sets_mem _ S (allM_pair h1) (fun x hx => ?_) ?_, h2⟩
    · have := (allM_ok hb S h1).mem x hx; omega
    · have := can_seen h2
      unfold seenM at this
      simp only [Bool.and_eq_true, decide_eq_true_eq] at this
      exact this.1.2
  · rintro ⟨h1, h2⟩
    refine ⟨memA (sets_pair _ S h1) (fun x hx => ?_) (can_seen h2), h2⟩
    have := setsM_mem _ S h1 x hx
    have := hb.steps
    omega
theorem knownBar_eq (b : Bk) (t : Bool) : knownBar b t = askM b t := by
  unfold knownBar askM
  by_cases h : checkM b = 0
  · have h' : ¬ checkM b ≠ 0 := fun h2 => h2 h
    simp only [h, if_true, h', if_false]
    have hp := states_perm (bkOk_of h)
    have he : (statesR b = []) ↔ (statesM b = []) := ⟨fun e => by rw [e] at hp; exact List.perm_nil.1 hp, fun e => by rw [e] at hp; exact List.nil_perm.1 hp⟩
    by_cases h0 : statesM b = []
    · simp [h0, he.2 h0]
    · have h1 : ¬ statesR b = [] := fun e => h0 (he.1 e)
      simp [h0, h1]
  · simp only [h, if_false, ne_eq, not_false_eq_true, if_true]
end Go.Vel
end
section
set_option linter.all false
namespace Go.Vel
open Go Go.Conc Go.Proofs

theorem newsR_eq (b o : Bk) : newsR b o = newsM b o := by unfold newsR newsM; rw [knownBar_eq]
theorem giveR_eq (b : Bk) (k : Int) : giveR b k = giveM b k := by unfold giveR giveM; rw [knownBar_eq]
set_option maxRecDepth 20000 in
set_option maxHeartbeats 2000000 in
theorem same0_ok {main : Bool} {T : Goroutine → Hp → Prop} (hT : Shut Tryz.prog main T) {gm : Nat → Option Nat}  :
    CallK Tryz.prog T gm 40 [.agg zeroBk, .agg zeroBk] [] (fun r K' => r = boolA true ∧ K' = []) := by
  refine callK_in 80 hT Tryz.func40 fun Y hret => ?_
  refine au [4, 5, 21] ?_
  intro jb hjb
  refine au [21] ?_
  intro jc hjc
  refine au [2, 3, 4, 4, 5, 7, 9, 7, 9, 6, 1] ?_
  refine TK.sp 12 (fun g1_6 => ?_) (fun g1_6 => ?_)
  · simp at g1_6
  refine au [7, 9, 7, 9, 6, 25, 1] ?_
  refine TK.sp 19 (fun g1_13 => ?_) (fun g1_13 => ?_)
  · simp at g1_13
  refine au [7, 8, 7, 8] ?_
  refine TK.a rfl (q_neqFlat rfl rfl rfl rfl rfl FlatF.h EqG.h) ?_
  refine au [25, 1] ?_
  refine TK.sp 26 (fun g1_20 => ?_) (fun g1_20 => ?_)
  · simp at g1_20
  refine au [7, 9, 28, 7, 9, 28, 6, 25, 1] ?_
  refine TK.sp 35 (fun g1_29 => ?_) (fun g1_29 => ?_)
  · simp at g1_29
  refine au [7, 9, 28, 7, 9, 28, 6, 25, 3, 20] ?_
  refine ⟨fun hc0 => ?_, fun hc0 => ?_⟩
  · simp at hc0
  refine au [12, 4, 4, 5, 2, 3, 13] ?_
  refine TK.loop ?_
  refine au [4, 4, 5, 1, 7, 9, 28, 6, 3, 20] ?_
  refine ⟨fun hc1 => ?_, fun hc1 => ?_⟩
  · simp at hc1
  refine au [16, 4, 4, 5, 2, 3, 13] ?_
  refine TK.loop ?_
  refine au [4, 4, 5, 1, 7, 9, 28, 6, 3, 20] ?_
  refine ⟨fun hc3 => ?_, fun hc3 => ?_⟩
  · simp at hc3
  refine au [16, 4, 5, 2, 3] ?_
  refine TK.rt hret [] ?_
  exact ⟨rfl, rfl⟩

set_option maxRecDepth 20000 in
set_option maxHeartbeats 20000000 in
theorem lawNews_top {R : Value → World → Prop} {b : Bk} {s e : Nat} {x : Says} {w n : Int} {sm : Bool} (hse : s ≠ e) {A : List AObj} {φ : Nat → Loc3} {F H : Hp} {vs : Array Value} (hv : View [(0, checksG), (1, saysG), (s, saysO b), (e, seenO b)] A) (hn0 : (keys [(0, checksG), (1, saysG), (s, saysO b), (e, seenO b)]).Nodup) (hg : RelG gmS φ A.length) (hH : RelH φ A F H) (hargs : RelL φ A.length [.agg (bookC b s e), .agg (saysC x), intA w, intA n, boolA sm] vs)
    (hR : ∀ r K' φ' A' H' v w, (fun r K' => r = boolA true ∧ K' = [(0, checksG), (1, saysG), (s, saysO b), (e, seenO b)]) r K' → RelH φ' A' F H' → RelV φ' A'.length r v → Fits H' w → R v w) : BT Tryz.prog (AtRet Tryz.prog 6 R) (G (Frame.enter Tryz.prog 6 vs .normal) []) H := by
  have hT := shut_BT tame (AtRet Tryz.prog 6 R)
  refine topK_in 91 tame (Post := fun r K' => r = boolA true ∧ K' = [(0, checksG), (1, saysG), (s, saysO b), (e, seenO b)]) Tryz.func6 hv hn0 hg hH hargs hR fun Y hret => ?_
  refine au [4, 5, 21] ?_
  intro jb hjb
  refine au [21] ?_
  intro jx hjx
  refine au [2, 3, 4, 4, 5, 8] ?_
  refine TK.cl rfl rfl rfl rfl (great_ok hT (s := s) (e := e)) ?_
  rintro r1 K2 ⟨rfl, rfl⟩
  refine au [1] ?_
  refine TK.sp 17 (fun g1_3 => ?_) (fun g1_3 => ?_)
  · refine au [11, 11, 11, 11, 26, 3, 18, 4, 5] ?_
    refine TK.cl rfl rfl rfl rfl (sought_ok tame) ?_
    rintro r4 K5 ⟨rfl, rfl⟩
    refine au [2, 3] ?_
    refine TK.rt hret [(0, _), (1, _), (s, _), (e, _)] ?_
    exact ⟨rfl, rfl⟩
  obtain ⟨hs1, hs2, hs3⟩ := great_small g1_3
  have hn : ∀ x ∈ b.seekers, x.name.size ≤ 1000 := fun x hx => Nat.le_trans (hs3 x hx) (by omega)
  have hl : b.seen.length ≤ 1000 := by omega
  have hl2 : b.seekers.length ≤ 1000 := by omega
  refine au [7, 9, 29, 6, 25, 3, 20] ?_
  refine ⟨fun hc0 => ?_, fun hc0 => ?_⟩
  · refine au [4, 5] ?_
    refine TK.cl rfl rfl rfl rfl (sought_ok tame) ?_
    rintro r7 K8 ⟨rfl, rfl⟩
    refine au [2, 3] ?_
    refine TK.rt hret [(0, _), (1, _), (s, _), (e, _)] ?_
    exact ⟨rfl, rfl⟩
  have hx : x.name.size ≤ 1000 := by have := of_decide_eq_false hc0; omega
  refine au [12, 4, 5, 8, 8] ?_
  refine TK.cl rfl rfl rfl rfl (hear_ok hT (x := x) hse hn hl hx) ?_
  rintro r10 K11 h12
  rcases h12 with ⟨hb0, rfl, rfl⟩ | ⟨hb0, j3, j2, rfl, rfl⟩
  · refine au [1, 10, 10, 22] ?_
    intro jo hjo
    refine au [17, 2, 3, 4, 5, 8, 8] ?_
    refine TK.cl rfl rfl rfl rfl ((hearR_ok hT (x := x) hse hn hl hl2 hx).mono (fun r K' h => by rw [newsR_eq] at h; exact h)) ?_
    rintro r13 K14 h15
    rcases h15 with ⟨hb1, rfl, rfl⟩ | ⟨hb1, j4, rfl, rfl⟩
    · refine au [] ?_
      skip
      refine au [1, 10, 10, 22] ?_
      intro jp hjp
      refine au [17, 2, 3, 4, 4, 5, 8, 8] ?_
      refine TK.cl rfl rfl rfl rfl (same0_ok hT) ?_
      rintro r16 K17 ⟨rfl, rfl⟩
      refine au [30, 1, 1, 1, 6, 25, 3, 20] ?_
      refine ⟨fun hc1 => ?_, fun hc1 => ?_⟩
      · simp at hc1
      refine au [12, 4] ?_
      refine TK.kp [(jp, .cells [_, _, _, _, _, _] 27 true), (jo, .cells [_, _, _, _, _, _] 27 true), (jx, _), (jb, _), (0, _), (1, _), (s, _), (e, _)] ?_
      refine au [5, 8, 1] ?_
      refine TK.cl rfl rfl rfl rfl (give_ok hT (n := w) hse hn hl) ?_
      rintro r19 K20 h21
      rcases h21 with ⟨hb2, rfl, rfl⟩ | ⟨hb2, j5, j6, rfl, rfl⟩
      · refine au [1, 10, 10, 17, 2, 3, 4, 5, 8, 1] ?_
        refine TK.cl rfl rfl rfl rfl ((giveR_ok hT (n := w) hse hn hl hl2).mono (fun r K' h => by rw [giveR_eq] at h; exact h)) ?_
        rintro r22 K23 h24
        rcases h24 with ⟨hb3, rfl, rfl⟩ | ⟨hb3, j7, rfl, rfl⟩
        · refine au [] ?_
          skip
          refine au [1, 10, 10, 17, 2, 3, 4, 4, 5, 8, 8] ?_
          refine TK.cl rfl rfl rfl rfl (same0_ok hT) ?_
          rintro r25 K26 ⟨rfl, rfl⟩
          refine au [30, 1, 1, 1, 6, 25, 3, 20] ?_
          refine ⟨fun hc2 => ?_, fun hc2 => ?_⟩
          · simp at hc2
          refine au [12, 4] ?_
          refine TK.kp [(jp, .cells [_, _, _, _, _, _] 27 true), (jo, .cells [_, _, _, _, _, _] 27 true), (jx, _), (jb, _), (0, _), (1, _), (s, _), (e, _)] ?_
          refine au [5, 8, 1, 1] ?_
          refine TK.cl rfl rfl rfl rfl (look_ok hT (n := n) (sm := sm) hse hn hl) ?_
          rintro r28 K29 h30
          rcases h30 with ⟨hb4, rfl, rfl⟩ | ⟨hb4, j8, j9, rfl, rfl⟩
          · refine au [1, 10, 10, 17, 2, 3, 4, 5, 8, 1, 1] ?_
            refine TK.cl rfl rfl rfl rfl ((lookR_ok hT (n := n) (sm := sm) hse hn hl hl2).mono (fun r K' h => by rw [newsR_eq] at h; exact h)) ?_
            rintro r31 K32 h33
            rcases h33 with ⟨hb5, rfl, rfl⟩ | ⟨hb5, j10, rfl, rfl⟩
            · refine au [] ?_
              skip
              refine au [1, 10, 10, 17, 2, 3, 4, 5, 8, 8] ?_
              refine TK.cl rfl rfl rfl rfl (same0_ok hT) ?_
              rintro r34 K35 ⟨rfl, rfl⟩
              refine au [1, 1, 1, 6, 26, 1] ?_
              refine TK.sp 88 (fun g13_9 => ?_) (fun g13_9 => ?_)
              · refine TK.cl rfl rfl rfl rfl (sought_ok tame) ?_
                rintro r37 K38 ⟨rfl, rfl⟩
                refine au [26, 2, 3] ?_
                refine TK.rt hret [(0, _), (1, _), (s, _), (e, _)] ?_
                exact ⟨rfl, rfl⟩
              simp at g13_9
            · refine au [] ?_
              exact absurd hb5 hb4
          · refine au [1, 10, 10, 17, 2, 3, 4, 5, 8, 1, 1] ?_
            refine TK.cl rfl rfl rfl rfl ((lookR_ok hT (n := n) (sm := sm) hse hn hl hl2).mono (fun r K' h => by rw [newsR_eq] at h; exact h)) ?_
            rintro r40 K41 h42
            rcases h42 with ⟨hb5, rfl, rfl⟩ | ⟨hb5, j10, rfl, rfl⟩
            · refine au [] ?_
              exact absurd hb4 hb5
            · refine au [] ?_
              skip
              refine au [1, 10, 10, 17, 2, 3, 4, 5, 8, 8] ?_
              refine TK.cl rfl rfl rfl rfl (sameB_ok hT (b := lookB b ⟨n, sm⟩) (s1 := j8) (e1 := j9) (s2 := s) (e2 := j10) (by simp [hearB, lookB, giveB]; omega) (by simp [hearB, lookB, giveB]; omega)) ?_
              rintro r43 K44 ⟨rfl, rfl⟩
              refine au [1, 1, 1, 6, 26, 1] ?_
              refine TK.sp 88 (fun g13_9 => ?_) (fun g13_9 => ?_)
              · refine TK.cl rfl rfl rfl rfl (sought_ok tame) ?_
                rintro r46 K47 ⟨rfl, rfl⟩
                refine au [26, 2, 3] ?_
                refine TK.rt hret [(0, _), (1, _), (s, _), (e, _)] ?_
                exact ⟨rfl, rfl⟩
              simp at g13_9
        · refine au [] ?_
          exact absurd hb3 hb2
      · refine au [1, 10, 10, 17, 2, 3, 4, 5, 8, 1] ?_
        refine TK.cl rfl rfl rfl rfl ((giveR_ok hT (n := w) hse hn hl hl2).mono (fun r K' h => by rw [giveR_eq] at h; exact h)) ?_
        rintro r49 K50 h51
        rcases h51 with ⟨hb3, rfl, rfl⟩ | ⟨hb3, j7, rfl, rfl⟩
        · refine au [] ?_
          exact absurd hb2 hb3
        · refine au [] ?_
          skip
          refine au [1, 10, 10, 17, 2, 3, 4, 4, 5, 8, 8] ?_
          refine TK.cl rfl rfl rfl rfl (sameB_ok hT (b := giveB b w.toNat) (s1 := j5) (e1 := j6) (s2 := j7) (e2 := e) (by simp [hearB, lookB, giveB]; omega) (by simp [hearB, lookB, giveB]; omega)) ?_
          rintro r52 K53 ⟨rfl, rfl⟩
          refine au [30, 1, 1, 1, 6, 25, 3, 20] ?_
          refine ⟨fun hc2 => ?_, fun hc2 => ?_⟩
          · simp at hc2
          refine au [12, 4] ?_
          refine TK.kp [(jp, .cells [_, _, _, _, _, _] 27 true), (jo, .cells [_, _, _, _, _, _] 27 true), (jx, _), (jb, _), (0, _), (1, _), (s, _), (e, _)] ?_
          refine au [5, 8, 1, 1] ?_
          refine TK.cl rfl rfl rfl rfl (look_ok hT (n := n) (sm := sm) hse hn hl) ?_
          rintro r55 K56 h57
          rcases h57 with ⟨hb4, rfl, rfl⟩ | ⟨hb4, j8, j9, rfl, rfl⟩
          · refine au [1, 10, 10, 17, 2, 3, 4, 5, 8, 1, 1] ?_
            refine TK.cl rfl rfl rfl rfl ((lookR_ok hT (n := n) (sm := sm) hse hn hl hl2).mono (fun r K' h => by rw [newsR_eq] at h; exact h)) ?_
            rintro r58 K59 h60
            rcases h60 with ⟨hb5, rfl, rfl⟩ | ⟨hb5, j10, rfl, rfl⟩
            · refine au [] ?_
              skip
              refine au [1, 10, 10, 17, 2, 3, 4, 5, 8, 8] ?_
              refine TK.cl rfl rfl rfl rfl (same0_ok hT) ?_
              rintro r61 K62 ⟨rfl, rfl⟩
              refine au [1, 1, 1, 6, 26, 1] ?_
              refine TK.sp 88 (fun g13_9 => ?_) (fun g13_9 => ?_)
              · refine TK.cl rfl rfl rfl rfl (sought_ok tame) ?_
                rintro r64 K65 ⟨rfl, rfl⟩
                refine au [26, 2, 3] ?_
                refine TK.rt hret [(0, _), (1, _), (s, _), (e, _)] ?_
                exact ⟨rfl, rfl⟩
              simp at g13_9
            · refine au [] ?_
              exact absurd hb5 hb4
          · refine au [1, 10, 10, 17, 2, 3, 4, 5, 8, 1, 1] ?_
            refine TK.cl rfl rfl rfl rfl ((lookR_ok hT (n := n) (sm := sm) hse hn hl hl2).mono (fun r K' h => by rw [newsR_eq] at h; exact h)) ?_
            rintro r67 K68 h69
            rcases h69 with ⟨hb5, rfl, rfl⟩ | ⟨hb5, j10, rfl, rfl⟩
            · refine au [] ?_
              exact absurd hb4 hb5
            · refine au [] ?_
              skip
              refine au [1, 10, 10, 17, 2, 3, 4, 5, 8, 8] ?_
              refine TK.cl rfl rfl rfl rfl (sameB_ok hT (b := lookB b ⟨n, sm⟩) (s1 := j8) (e1 := j9) (s2 := s) (e2 := j10) (by simp [hearB, lookB, giveB]; omega) (by simp [hearB, lookB, giveB]; omega)) ?_
              rintro r70 K71 ⟨rfl, rfl⟩
              refine au [1, 1, 1, 6, 26, 1] ?_
              refine TK.sp 88 (fun g13_9 => ?_) (fun g13_9 => ?_)
              · refine TK.cl rfl rfl rfl rfl (sought_ok tame) ?_
                rintro r73 K74 ⟨rfl, rfl⟩
                refine au [26, 2, 3] ?_
                refine TK.rt hret [(0, _), (1, _), (s, _), (e, _)] ?_
                exact ⟨rfl, rfl⟩
              simp at g13_9
    · refine au [] ?_
      exact absurd hb1 hb0
  · refine au [1, 10, 10, 22] ?_
    intro jo hjo
    refine au [17, 2, 3, 4, 5, 8, 8] ?_
    refine TK.cl rfl rfl rfl rfl ((hearR_ok hT (x := x) hse hn hl hl2 hx).mono (fun r K' h => by rw [newsR_eq] at h; exact h)) ?_
    rintro r76 K77 h78
    rcases h78 with ⟨hb1, rfl, rfl⟩ | ⟨hb1, j4, rfl, rfl⟩
    · refine au [] ?_
      exact absurd hb0 hb1
    · refine au [] ?_
      skip
      refine au [1, 10, 10, 22] ?_
      intro jp hjp
      refine au [17, 2, 3, 4, 4, 5, 8, 8] ?_
      refine TK.cl rfl rfl rfl rfl (sameB_ok hT (b := hearB b x) (s1 := j3) (e1 := j2) (s2 := j4) (e2 := e) (by simp [hearB, lookB, giveB]; omega) (by simp [hearB, lookB, giveB]; omega)) ?_
      rintro r79 K80 ⟨rfl, rfl⟩
      refine au [30, 1, 1, 1, 6, 25, 3, 20] ?_
      refine ⟨fun hc1 => ?_, fun hc1 => ?_⟩
      · simp at hc1
      refine au [12, 4] ?_
      refine TK.kp [(jp, .cells [_, _, _, _, _, _] 27 true), (jo, .cells [_, _, _, _, _, _] 27 true), (jx, _), (jb, _), (0, _), (1, _), (s, _), (e, _)] ?_
      refine au [5, 8, 1] ?_
      refine TK.cl rfl rfl rfl rfl (give_ok hT (n := w) hse hn hl) ?_
      rintro r82 K83 h84
      rcases h84 with ⟨hb2, rfl, rfl⟩ | ⟨hb2, j5, j6, rfl, rfl⟩
      · refine au [1, 10, 10, 17, 2, 3, 4, 5, 8, 1] ?_
        refine TK.cl rfl rfl rfl rfl ((giveR_ok hT (n := w) hse hn hl hl2).mono (fun r K' h => by rw [giveR_eq] at h; exact h)) ?_
        rintro r85 K86 h87
        rcases h87 with ⟨hb3, rfl, rfl⟩ | ⟨hb3, j7, rfl, rfl⟩
        · refine au [] ?_
          skip
          refine au [1, 10, 10, 17, 2, 3, 4, 4, 5, 8, 8] ?_
          refine TK.cl rfl rfl rfl rfl (same0_ok hT) ?_
          rintro r88 K89 ⟨rfl, rfl⟩
          refine au [30, 1, 1, 1, 6, 25, 3, 20] ?_
          refine ⟨fun hc2 => ?_, fun hc2 => ?_⟩
          · simp at hc2
          refine au [12, 4] ?_
          refine TK.kp [(jp, .cells [_, _, _, _, _, _] 27 true), (jo, .cells [_, _, _, _, _, _] 27 true), (jx, _), (jb, _), (0, _), (1, _), (s, _), (e, _)] ?_
          refine au [5, 8, 1, 1] ?_
          refine TK.cl rfl rfl rfl rfl (look_ok hT (n := n) (sm := sm) hse hn hl) ?_
          rintro r91 K92 h93
          rcases h93 with ⟨hb4, rfl, rfl⟩ | ⟨hb4, j8, j9, rfl, rfl⟩
          · refine au [1, 10, 10, 17, 2, 3, 4, 5, 8, 1, 1] ?_
            refine TK.cl rfl rfl rfl rfl ((lookR_ok hT (n := n) (sm := sm) hse hn hl hl2).mono (fun r K' h => by rw [newsR_eq] at h; exact h)) ?_
            rintro r94 K95 h96
            rcases h96 with ⟨hb5, rfl, rfl⟩ | ⟨hb5, j10, rfl, rfl⟩
            · refine au [] ?_
              skip
              refine au [1, 10, 10, 17, 2, 3, 4, 5, 8, 8] ?_
              refine TK.cl rfl rfl rfl rfl (same0_ok hT) ?_
              rintro r97 K98 ⟨rfl, rfl⟩
              refine au [1, 1, 1, 6, 26, 1] ?_
              refine TK.sp 88 (fun g13_9 => ?_) (fun g13_9 => ?_)
              · refine TK.cl rfl rfl rfl rfl (sought_ok tame) ?_
                rintro r100 K101 ⟨rfl, rfl⟩
                refine au [26, 2, 3] ?_
                refine TK.rt hret [(0, _), (1, _), (s, _), (e, _)] ?_
                exact ⟨rfl, rfl⟩
              simp at g13_9
            · refine au [] ?_
              exact absurd hb5 hb4
          · refine au [1, 10, 10, 17, 2, 3, 4, 5, 8, 1, 1] ?_
            refine TK.cl rfl rfl rfl rfl ((lookR_ok hT (n := n) (sm := sm) hse hn hl hl2).mono (fun r K' h => by rw [newsR_eq] at h; exact h)) ?_
            rintro r103 K104 h105
            rcases h105 with ⟨hb5, rfl, rfl⟩ | ⟨hb5, j10, rfl, rfl⟩
            · refine au [] ?_
              exact absurd hb4 hb5
            · refine au [] ?_
              skip
              refine au [1, 10, 10, 17, 2, 3, 4, 5, 8, 8] ?_
              refine TK.cl rfl rfl rfl rfl (sameB_ok hT (b := lookB b ⟨n, sm⟩) (s1 := j8) (e1 := j9) (s2 := s) (e2 := j10) (by simp [hearB, lookB, giveB]; omega) (by simp [hearB, lookB, giveB]; omega)) ?_
              rintro r106 K107 ⟨rfl, rfl⟩
              refine au [1, 1, 1, 6, 26, 1] ?_
              refine TK.sp 88 (fun g13_9 => ?_) (fun g13_9 => ?_)
              · refine TK.cl rfl rfl rfl rfl (sought_ok tame) ?_
                rintro r109 K110 ⟨rfl, rfl⟩
                refine au [26, 2, 3] ?_
                refine TK.rt hret [(0, _), (1, _), (s, _), (e, _)] ?_
                exact ⟨rfl, rfl⟩
              simp at g13_9
        · refine au [] ?_
          exact absurd hb3 hb2
      · refine au [1, 10, 10, 17, 2, 3, 4, 5, 8, 1] ?_
        refine TK.cl rfl rfl rfl rfl ((giveR_ok hT (n := w) hse hn hl hl2).mono (fun r K' h => by rw [giveR_eq] at h; exact h)) ?_
        rintro r112 K113 h114
        rcases h114 with ⟨hb3, rfl, rfl⟩ | ⟨hb3, j7, rfl, rfl⟩
        · refine au [] ?_
          exact absurd hb2 hb3
        · refine au [] ?_
          skip
          refine au [1, 10, 10, 17, 2, 3, 4, 4, 5, 8, 8] ?_
          refine TK.cl rfl rfl rfl rfl (sameB_ok hT (b := giveB b w.toNat) (s1 := j5) (e1 := j6) (s2 := j7) (e2 := e) (by simp [hearB, lookB, giveB]; omega) (by simp [hearB, lookB, giveB]; omega)) ?_
          rintro r115 K116 ⟨rfl, rfl⟩
          refine au [30, 1, 1, 1, 6, 25, 3, 20] ?_
          refine ⟨fun hc2 => ?_, fun hc2 => ?_⟩
          · simp at hc2
          refine au [12, 4] ?_
          refine TK.kp [(jp, .cells [_, _, _, _, _, _] 27 true), (jo, .cells [_, _, _, _, _, _] 27 true), (jx, _), (jb, _), (0, _), (1, _), (s, _), (e, _)] ?_
          refine au [5, 8, 1, 1] ?_
          refine TK.cl rfl rfl rfl rfl (look_ok hT (n := n) (sm := sm) hse hn hl) ?_
          rintro r118 K119 h120
          rcases h120 with ⟨hb4, rfl, rfl⟩ | ⟨hb4, j8, j9, rfl, rfl⟩
          · refine au [1, 10, 10, 17, 2, 3, 4, 5, 8, 1, 1] ?_
            refine TK.cl rfl rfl rfl rfl ((lookR_ok hT (n := n) (sm := sm) hse hn hl hl2).mono (fun r K' h => by rw [newsR_eq] at h; exact h)) ?_
            rintro r121 K122 h123
            rcases h123 with ⟨hb5, rfl, rfl⟩ | ⟨hb5, j10, rfl, rfl⟩
            · refine au [] ?_
              skip
              refine au [1, 10, 10, 17, 2, 3, 4, 5, 8, 8] ?_
              refine TK.cl rfl rfl rfl rfl (same0_ok hT) ?_
              rintro r124 K125 ⟨rfl, rfl⟩
              refine au [1, 1, 1, 6, 26, 1] ?_
              refine TK.sp 88 (fun g13_9 => ?_) (fun g13_9 => ?_)
              · refine TK.cl rfl rfl rfl rfl (sought_ok tame) ?_
                rintro r127 K128 ⟨rfl, rfl⟩
                refine au [26, 2, 3] ?_
                refine TK.rt hret [(0, _), (1, _), (s, _), (e, _)] ?_
                exact ⟨rfl, rfl⟩
              simp at g13_9
            · refine au [] ?_
              exact absurd hb5 hb4
          · refine au [1, 10, 10, 17, 2, 3, 4, 5, 8, 1, 1] ?_
            refine TK.cl rfl rfl rfl rfl ((lookR_ok hT (n := n) (sm := sm) hse hn hl hl2).mono (fun r K' h => by rw [newsR_eq] at h; exact h)) ?_
            rintro r130 K131 h132
            rcases h132 with ⟨hb5, rfl, rfl⟩ | ⟨hb5, j10, rfl, rfl⟩
            · refine au [] ?_
              exact absurd hb4 hb5
            · refine au [] ?_
              skip
              refine au [1, 10, 10, 17, 2, 3, 4, 5, 8, 8] ?_
              refine TK.cl rfl rfl rfl rfl (sameB_ok hT (b := lookB b ⟨n, sm⟩) (s1 := j8) (e1 := j9) (s2 := s) (e2 := j10) (by simp [hearB, lookB, giveB]; omega) (by simp [hearB, lookB, giveB]; omega)) ?_
              rintro r133 K134 ⟨rfl, rfl⟩
              refine au [1, 1, 1, 6, 26, 1] ?_
              refine TK.sp 88 (fun g13_9 => ?_) (fun g13_9 => ?_)
              · refine TK.cl rfl rfl rfl rfl (sought_ok tame) ?_
                rintro r136 K137 ⟨rfl, rfl⟩
                refine au [26, 2, 3] ?_
                refine TK.rt hret [(0, _), (1, _), (s, _), (e, _)] ?_
                exact ⟨rfl, rfl⟩
              simp at g13_9
end Go.Vel
end
section
set_option linter.all false
namespace Go.Vel
open Go Go.Conc Go.Proofs Go.ChangeShapes Go.WideShapes Go.ChangeAt Go.RowKit
open Go.Proofs.YtmojepgodbadmaaGreatDoor (Tryz.pinned)
def seekerNewsPhi (x0a x0b : Value) : Nat → Loc3
  | 0 => ⟨0, 0, 0⟩
  | 1 => ⟨1, 0, 0⟩
  | 2 => locV x0a
  | 3 => locV x0b
  | _ => ⟨0, 0, 0⟩
theorem seekerNews_run {W : World} (hl : laidMetH Tryz.prog tblLaid W) {b0 : Bk} {x0a x0b : Value} {z1 : Says} {k2 : Int} {k3 : Int} {k4 : Bool} (h0a : SlIn W saysV 5 b0.seekers x0a) (h0b : SlIn W seenV 2 b0.seen x0b) :
    ∃ M last o w' t', runNT Tryz.prog (M + 1) (solo (G (Frame.enter Tryz.prog 6 #[.agg #[.int .i64 b0.steps, .int .i64 b0.wrong, .int .i64 b0.low, .int .i64 b0.high, x0a, x0b], .agg (saysV z1).toArray, .int .i64 k2, .int .i64 k3, .bool k4] .normal) []) W) #[] = (.ended o w', t') ∧
      runN Tryz.prog M (solo (G (Frame.enter Tryz.prog 6 #[.agg #[.int .i64 b0.steps, .int .i64 b0.wrong, .int .i64 b0.low, .int .i64 b0.high, x0a, x0b], .agg (saysV z1).toArray, .int .i64 k2, .int .i64 k3, .bool k4] .normal) []) W) = .next last ∧
      step Tryz.prog last = .ended o w' ∧ Conc.Good Tryz.prog (fun v w => v = .bool true ∧ w.os = W.os ∧ w.output = W.output ∧ KeptAll W w) last o w' t' := by
  refine good_run (R := fun v w => v = .bool true ∧ KeptAll W w) (R' := fun v w => v = .bool true ∧ w.os = W.os ∧ w.output = W.output ∧ KeptAll W w) Tryz.func6 rfl (by kernel_rfl) (fun v w' ho hu hr => ⟨hr.1, ho, hu, hr.2⟩) (fun v w τ d h => h) (holdAll_fits W) ?_
  obtain ⟨ht0, ht1⟩ := of_laid hl
  refine lawNews_top (b := b0) (s := 2) (e := 3) (x := z1) (w := k2) (n := k3) (sm := k4) (by decide) (A := [checksG, saysG, saysO b0, seenO b0]) (φ := seekerNewsPhi x0a x0b) (F := holdAll W) ?_ ?_ ?_ ?_ ?_ ?_
  · intro x hx
    simp only [List.mem_cons, List.not_mem_nil, or_false] at hx
    rcases hx with rfl | rfl | rfl | rfl <;> rfl
  · simp [keys]
  · intro g i hg
    match g, hg with
    | 0, hg => cases hg; exact ⟨by simp, rfl, rfl⟩
    | 1, hg => cases hg; exact ⟨by simp, rfl, rfl⟩
    | g + 2, hg => cases hg
  · refine ⟨fun i o ho => ?_, fun i j o o' hi _ _ hx => ?_, fun b x h => h, fun i o hi hx => ?_⟩
    · match i, ho with
      | 0, ho => cases ho; exact tbl_rel ht0
      | 1, ho => cases ho; exact tbl_rel ht1
      | 2, ho => cases ho; exact relO_in h0a (fun _ => rfl) says_rel
      | 3, ho => cases ho; exact relO_in h0b (fun _ => rfl) seen_rel
      | i + 4, ho => simp at ho
    · match i, hi with
      | 0, hi => cases hi; cases hx
      | 1, hi => cases hi; cases hx
      | 2, hi => cases hi; cases hx
      | 3, hi => cases hi; cases hx
      | i + 4, hi => simp at hi
    · match i, hi with
      | 0, hi => cases hi; cases hx
      | 1, hi => cases hi; cases hx
      | 2, hi => cases hi; cases hx
      | 3, hi => cases hi; cases hx
      | i + 4, hi => simp at hi
  · refine ⟨rfl, fun j a y ha hy => ?_⟩
    match j, ha, hy with
    | 0, ha, hy =>
      cases ha; cases hy
      refine .agg rfl fun t u z hu hz => ?_
      match t, hu, hz with
      | 0, hu, hz => cases hu; cases hz; exact .v _
      | 1, hu, hz => cases hu; cases hz; exact .v _
      | 2, hu, hz => cases hu; cases hz; exact .v _
      | 3, hu, hz => cases hu; cases hz; exact .v _
      | 4, hu, hz => cases hu; cases hz; exact relV_in h0a (by simp) rfl
      | 5, hu, hz => cases hu; cases hz; exact relV_in h0b (by simp) rfl
      | t + 6, hu, hz => simp [bookC] at hu
    | 1, ha, hy =>
      cases ha; cases hy
      refine .agg rfl fun t u y hu hy => ?_
      obtain ⟨y', h1, h2⟩ := says_rel z1 t u hu
      have h3 : (saysV z1)[t]? = some y := by simpa using hy
      rw [h1] at h3
      cases h3
      exact h2
    | 2, ha, hy =>
      cases ha; cases hy; exact .v _
    | 3, ha, hy =>
      cases ha; cases hy; exact .v _
    | 4, ha, hy =>
      cases ha; cases hy; exact .v _
    | j + 5, ha, hy => simp at ha
  · rintro r K' φ' A' H' v w ⟨rfl, _⟩ hH' hv' hfit
    refine ⟨inv_v hv', fun i hi => ?_⟩
    have hh := Array.getElem?_eq_getElem hi
    rw [hh]
    exact hfit i false _ (hH'.fr _ _ (holdAll_get hh))
set_option maxRecDepth 100000 in
theorem seekerNews_lifted (os : Os) (started : os.Started) (H : Type) (enc : TypeId × Value → H) :
    ReturnsInLeavingWide Go.Proofs.YtmojepgodbadmaaGreatDoor.Rows.seekerNewsRow.assume Tryz.checked os 6 .any (Go.Proofs.YtmojepgodbadmaaGreatDoor.Rows.seekerNewsRow.pre enc Tryz.prog Tryz.f6 (OpenSpec.ofChange Go.Proofs.YtmojepgodbadmaaGreatDoor.Rows.seekerNewsSpec))
      (Go.Proofs.YtmojepgodbadmaaGreatDoor.Rows.seekerNewsSpec.post enc Tryz.prog Tryz.f6 false true false false) := by
  refine returnsInLeavingWide_of_good (C := Tryz.checked) own started
    (ChangeSpec.witness_shaped (enc := enc) (C := Tryz.checked) (os := os) (X := fun w _ => laidMetH Tryz.prog tblLaid w) false (World.doorLaid Tryz.prog 400 os) #[.agg #[.int .i64 0, .int .i64 0, .int .i64 0, .int .i64 0, .slice none 0 0, .slice none 0 0], .agg #[.string ⟨#[]⟩, .int .i64 0, .int .i64 0, .int .i64 0, .bool false], .int .i64 0, .int .i64 0, .bool false] 8 rfl (World.shaped_of_RefB (by kernel_rfl) (by kernel_rfl)) (by kernel_rfl) (by kernel_rfl) (by kernel_rfl) (door_met os _)) ?_
  intro w tape i _ _ _ hok hpre _
  obtain ⟨_, _, _, fn', hfn', _, _, _, _, hval0⟩ := hok
  obtain rfl : fn' = Tryz.f6 := Option.some.inj (hfn'.symm.trans Tryz.func6)
  obtain ⟨⟨⟨ds, gs, before, hw, hc⟩, hL0⟩, _⟩ := hpre
  have hW := DataW.Whole.of_heap (w' := w.forCall tape i) (by rfl) hw
  have hL : laidMetH Tryz.prog tblLaid (w.forCall tape i) := laidMetH.of_heap (by rfl) hL0
  obtain ⟨bl, args, vars⟩ := i
  generalize w.forCall tape ⟨bl, args, vars⟩ = W at hW hL hval0 ⊢
  have hW' := hW
  obtain ⟨p, q, hA0, hV0, rfl, _, _⟩ := hW
  have hA : DataW.TrodAll enc Tryz.prog W 0 (fun _ => true) true [27, 58, 3, 3, 4] args.toList ds p := hA0
  obtain ⟨v0, u0, d0, ds0, p0, q0, hargs, rfl, rfl, t0, hr0⟩ := trodAll_cons hA
  obtain ⟨v1, u1, d1, ds1, p1, q1, rfl, rfl, rfl, t1, hr1⟩ := trodAll_cons hr0
  obtain ⟨v2, u2, d2, ds2, p2, q2, rfl, rfl, rfl, t2, hr2⟩ := trodAll_cons hr1
  obtain ⟨v3, u3, d3, ds3, p3, q3, rfl, rfl, rfl, t3, hr3⟩ := trodAll_cons hr2
  obtain ⟨v4, u4, d4, ds4, p4, q4, rfl, rfl, rfl, t4, hr4⟩ := trodAll_cons hr3
  obtain ⟨rfl, rfl, rfl⟩ := trodAll_nil hr4
  obtain rfl : args = #[v0, v1, v2, v3, v4] := by cases args; simp_all
  obtain ⟨rfl, rfl⟩ := trodVars_none hV0
  obtain ⟨b0, x0a, x0b, rfl, s0a, s0b⟩ := open_book (okAgg Tryz.underlying27 (hval0 0 27 v0 rfl rfl)) t0
  obtain ⟨z1, rfl⟩ := open_says (okAgg Tryz.underlying58 (hval0 1 58 v1 rfl rfl)) t1
  obtain ⟨k2, rfl, rfl, rfl, s2⟩ := open_int Tryz.underlying3 (hval0 2 3 v2 rfl rfl) t2
  obtain ⟨k3, rfl, rfl, rfl, s3⟩ := open_int Tryz.underlying3 (hval0 3 3 v3 rfl rfl) t3
  obtain ⟨k4, rfl, rfl, rfl⟩ := open_bool Tryz.underlying4 (hval0 4 4 v4 rfl rfl) t4
  obtain ⟨M, last, o, w', t', g1, g2, g3, g4⟩ := seekerNews_run hL s0a s0b (k2 := k2) (k3 := k3) (k4 := k4) (z1 := z1)
  refine ⟨M, last, o, w', t', g1, g2, g3, g4.mono fun v hF => ?_⟩
  obtain ⟨rfl, ho, hu, hkp⟩ := hF
  refine ChangeSpec.post_blind ?_
  exact ⟨_, _, _, [], _, [], hW', trodAll_mk1 (shut_bool Tryz.underlying4 true), ⟨_, _, trod_mono laid_out t0 hkp, ⟨_, _, trod_mono laid_out t1 hkp, ⟨_, _, trod_mono laid_out t2 hkp, ⟨_, _, trod_mono laid_out t3 hkp, ⟨_, _, trod_mono laid_out t4 hkp, trodAll_mk0, rfl⟩, rfl⟩, rfl⟩, rfl⟩, rfl⟩, rfl, kept_but ho hu hkp _, fun h => by cases h⟩
open Go.Proofs.YtmojepgodbadmaaGreatDoor in
theorem seekerNews_said : Rows.SeekerNewsSaid :=
  OpenClaim.holds_of_wide_leaving 6 Tryz.f6 rfl rfl rfl rfl rfl rfl rfl ⟨rfl, rfl, rfl, rfl, rfl⟩ rfl rfl rfl rfl rfl (by kernel_rfl) Tryz.func6 (by kernel_rfl)
    (of_decide_eq_true (by kernel_rfl)) (by unfold Func.isWrapper; first | (rw [if_pos (by decide +kernel)]; kernel_rfl) | (rw [if_neg (by decide +kernel)]; exact ⟨rfl, rfl⟩))
    (fun os started H enc _ => seekerNews_lifted os started H enc)
end Go.Vel
namespace Go.Proofs.YtmojepgodbadmaaGreatDoor
open Go
theorem seekerNews_holds : Rows.SeekerNewsCardSaid :=
  Go.Vel.holds_tied_goes .later [.funcs, .funcs] true (true, "4ec7f063a1680b798177e308e94f0cddf9f672a328c42acb8a5e3df6a22f385e") false
    Go.Vel.seekerNews_said (by kernel_rfl) seekerNews_row_tie rfl ⟨rfl, rfl⟩ (by kernel_rfl) rfl
    (fun f fn hf hfn => by
      obtain rfl : f = 6 := Option.some.inj ((show Tryz.prog.funcNamed "velarium/velariumlaw09.SeekerNews" = some 6 by kernel_rfl).symm.trans hf) |>.symm
      obtain rfl : fn = Tryz.f6 := (Option.some.inj (Tryz.func6.symm.trans hfn)).symm
      exact ⟨by kernel_rfl, fun j t ht => by
        rw [Tryz.params6] at ht
        have hm : t ∈ [27, 58, 3, 3, 4] := by simpa using Array.mem_of_getElem? ht
        have hall : ([27, 58, 3, 3, 4].all fun u => !Tryz.prog.wantsStandIn u) = true := by kernel_rfl
        exact (show Tryz.prog.wantsStandIn t = false by simpa using List.all_eq_true.1 hall t hm)⟩)
    (by kernel_rfl)
#print axioms seekerNews_holds
end Go.Proofs.YtmojepgodbadmaaGreatDoor
end
