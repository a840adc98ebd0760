/- The law SeekerKnown: States, Counts, At, Steps, Within, Narrow and Wrong agree with the specification. It holds of every program, tape and world that the statements name, as each theorem says. -/
import Derived.Test.YtmojepgodbadmaaGreatDoorW5
import Derived.Test.YtmojepgodbadmaaGreatDoorW7
import Derived.Test.YtmojepgodbadmaaGreatDoorW8
import Derived.Test.YtmojepgodbadmaaGreatDoorW9
section
set_option linter.all false
namespace Go.Vel
open Go Go.Conc Go.Proofs
instance : Cal Tryz.prog 107 := ⟨by kernel_rfl⟩
instance : Cal Tryz.prog 108 := ⟨by kernel_rfl⟩
instance : Cal Tryz.prog 109 := ⟨by kernel_rfl⟩
instance : Cal Tryz.prog 110 := ⟨by kernel_rfl⟩
instance : Cal Tryz.prog 39 := ⟨by kernel_rfl⟩
instance : Cal Tryz.prog 40 := ⟨by kernel_rfl⟩
instance : Cal Tryz.prog 42 := ⟨by kernel_rfl⟩
instance : Cal Tryz.prog 44 := ⟨by kernel_rfl⟩
instance : Cal Tryz.prog 63 := ⟨by kernel_rfl⟩
instance : Cal Tryz.prog 68 := ⟨by kernel_rfl⟩
instance : Cal Tryz.prog 73 := ⟨by kernel_rfl⟩
instance : Cal Tryz.prog 74 := ⟨by kernel_rfl⟩
instance : Cal Tryz.prog 78 := ⟨by kernel_rfl⟩
instance : Cal Tryz.prog 85 := ⟨by kernel_rfl⟩
instance : Cal Tryz.prog 91 := ⟨by kernel_rfl⟩
instance : EqG Tryz.prog 58 := ⟨by kernel_rfl⟩
instance : EqG Tryz.prog 90 := ⟨by kernel_rfl⟩
instance : FlatF Tryz.prog 58 [(9, 0), (3, 1), (3, 2), (56, 3), (4, 4)] := ⟨by kernel_rfl⟩
instance : FlatF Tryz.prog 90 [(3, 0), (4, 1)] := ⟨by kernel_rfl⟩
instance : Und Tryz.prog 56 (.int .i64) := ⟨by kernel_rfl⟩
end Go.Vel
end
section
set_option linter.all false
namespace Go.Vel
open Go Go.Conc Go.Proofs

section
variable {P : Program} {gm : Nat → Option Nat} {T : Goroutine → Hp → Prop} {Y : KX P gm T} {ds : List Nat} {k : List Item} {env env' : List AV} {K : KV}
/-- In a row of one, a slice of nothing is one of cells. -/
theorem TK.nilRow {t e : TypeId} {x : Option Addr} {s j : Nat} {K' : Nat → KV} (hu : ∀ j', Upd K j (.row [.v (.slice x 0 0)] t s) j (.row [.sl j' 0 0] t s) (K' j')) (h : ∀ j', j' ∉ keys K → TK Y ds k env ((j', .cells [] e false) :: K' j')) : TK Y ds k env K := fun A hA φ H ts h1 h2 h3 h4 h5 h6 => by
  have hk : A.length ∉ keys K := fun hm => absurd (hA.view.lt hm) (Nat.lt_irrefl _)
  have hH := h5.virtO (o := .cells [] e false) (fun φ n hl => absurd rfl hl) (fun hl => hl rfl)
  have hag := agr_upd3 φ A.length ⟨0, 0, 0⟩
  have hlen : (A ++ [AObj.cells [] e false]).length = A.length + 1 := by simp
  have hds : dsC (upd3 φ A.length ⟨0, 0, 0⟩) ds = dsC φ ds := by
    unfold dsC
    exact List.map_congr_left fun d hd' => by rw [hag d (h4 d hd')]
  have hj := hA.view.get (hu A.length).mem
  have hjl : j < A.length := (List.getElem?_eq_some_iff.1 hj).1
  have hj2 : (A ++ [AObj.cells [] e false])[j]? = some (.row [.v (.slice x 0 0)] t s) := by rw [List.getElem?_append_left hjl]; exact hj
  have hstep := hA.step (.push hA.view hA.nd (.cells [] e false))
  have hstep2 := hstep.step (.set hstep.view hstep.nd (Upd.tail (hu A.length)))
  rw [← hds]
  refine h _ hk _ hstep2 _ H ts (h1.trans hag h2) (by simp; omega) (by simpa using h3.mono hag (by omega)) (fun d hd => by have := h4 d hd; simp; omega) (hH.turn hj2 (fun ho => ?_) (fun h => h) (fun _ => rfl) (fun hs => hs)) (by simpa using h6.mono hag (by omega))
  obtain ⟨q0, q1, q2⟩ := ho
  refine ⟨fun hc => absurd (q0 hc) (by simp), q1, fun hc => ?_⟩
  obtain ⟨cur, p1, p2, p3, p4, p5⟩ := q2 hc
  refine ⟨cur, p1, p2, p3, by simpa using p4, fun t' a ha => ?_⟩
  cases t' with
  | zero =>
    simp only [List.getElem?_cons_zero, Option.some.injEq] at ha
    subst ha
    obtain ⟨y, hy, hr⟩ := p5 0 _ rfl
    refine ⟨y, hy, ?_⟩
    rw [inv_v hr]
    exact .sl (by simp) (Nat.zero_le _) fun hp => absurd hp (Nat.lt_irrefl _)
  | succ t' => simp at ha
end

/-! ### the specification's sets -/
def shortB (most : Int) (l : List Int) : Bool := decide ((l.length : Int) < most)
def moreM (most n : Int) (A : List (List Int)) : List (List Int) := (A.filter (shortB most)).map (· ++ [n])
def setsM (most : Int) : Nat → List (List Int)
  | 0 => [[]]
  | n + 1 => setsM most n ++ moreM most n (setsM most n).reverse
theorem moreM_app (most n : Int) (A B : List (List Int)) : moreM most n (A ++ B) = moreM most n A ++ moreM most n B := by simp [moreM]
theorem moreM_T {most n : Int} {l : List Int} (h : shortB most l = true) : moreM most n [l] = [l ++ [n]] := by simp [moreM, h]
theorem moreM_F {most n : Int} {l : List Int} (h : shortB most l = false) : moreM most n [l] = [] := by simp [moreM, h]
theorem moreM_len (most n : Int) (A : List (List Int)) : (moreM most n A).length ≤ A.length := by
  unfold moreM; rw [List.length_map]; exact List.length_filter_le _ _
theorem setsM_len (most : Int) : ∀ n, (setsM most n).length ≤ 2 ^ n
  | 0 => Nat.le_refl _
  | n + 1 => by
    have h1 := setsM_len most n
    have h2 := moreM_len most n (setsM most n).reverse
    rw [List.length_reverse] at h2
    show (setsM most n ++ _).length ≤ _
    rw [List.length_append, Nat.pow_succ]
    omega
theorem pow_le16 {n : Nat} (h : n ≤ 16) : 2 ^ n ≤ 65536 := Nat.le_trans (Nat.pow_le_pow_right (by decide) h) (by decide)
theorem setsM_short {most : Int} (hm : 0 ≤ most) : ∀ n, ∀ l ∈ setsM most n, (l.length : Int) ≤ most
  | 0, l, hl => by rw [List.mem_singleton.1 hl]; simpa using hm
  | n + 1, l, hl => by
    rcases List.mem_append.1 hl with hl | hl
    · exact setsM_short hm n l hl
    · obtain ⟨x, hx, rfl⟩ := List.mem_map.1 hl
      have := of_decide_eq_true (List.mem_filter.1 hx).2
      simp; omega
theorem takeR_succ {α : Type} (A : List α) {q : Nat} (h : q < A.length) : A.reverse.take (q + 1) = A.reverse.take q ++ [A[A.length - 1 - q]] := by
  rw [List.take_add_one, List.getElem?_eq_getElem (by simpa using h), List.getElem_reverse]; rfl

theorem refs_at {P : List (Nat × List Int)} {k : Nat} {n : Int} (hk : k < P.length) (h : n = (k : Int)) {e : TypeId} {sz : Nat} : takeO (.row (refsL P) e sz) (n.toNat * 1) 1 = some [.sl P[k].1 0 P[k].2.length] := by
  subst h
  rw [Int.toNat_natCast, Nat.mul_one]
  exact refs_take hk
theorem ints_one (xs : List Int) : (xs.map intA).all oneA = true := by
  rw [List.all_map]; exact List.all_eq_true.2 fun _ _ => rfl
theorem map_snd_get {P : List (Nat × List Int)} {A B : List (List Int)} (h : P.map (·.2) = A ++ B) {k : Nat} (hk : k < A.length) (hk2 : k < P.length) : P[k].2 = A[k] := by
  have h1 : (P.map (·.2))[k]? = some P[k].2 := by simp [hk2]
  rw [h, List.getElem?_append_left hk, List.getElem?_eq_getElem hk] at h1
  exact (Option.some.inj h1).symm
set_option maxRecDepth 20000 in
set_option maxHeartbeats 4000000 in
theorem sets_ok {main : Bool} {T : Goroutine → Hp → Prop} (hT : Shut Tryz.prog main T) {gm : Nat → Option Nat} {below most : Int} (hb : 0 ≤ below ∧ below ≤ 16) (hm : 0 ≤ most ∧ most ≤ 16) :
    CallK Tryz.prog T gm 91 [intA below, intA most] [] (fun r K' => ∃ (j : Nat) (P : List (Nat × List Int)), r = .row j P.length ∧ P.map (·.2) = setsM most below.toNat ∧ K' = (j, .row (refsL P) 28 1) :: objsL P) := by
  refine callK_in 41 hT Tryz.func91 fun Y hret => ?_
  refine au [4, 5, 2, 3, 4, 5] ?_
  refine TK.newR rfl rfl rfl (n_buildSlice (l := [_]) rfl SlEl.h TyZ.h (by decide) (by decide) rfl) (fun _ => putS rfl (by simp only [List.set]; rfl)) fun j0 hj0 => ?_
  refine au [2] ?_
  refine TK.nilRow (e := 3) (fun _ => (by repeat (first | exact Upd.head | apply Upd.tail))) fun je hje => ?_
  refine au [3, 4, 4, 5, 2, 3, 13] ?_
  refine TK.maskL [0, 1, 5, 6] ?_
  refine TK.kp [(j0, _), (je, _)] ?_
  refine TK.loopN (fun n env K => ∃ (i j : Nat) (P : List (Nat × List Int)), n = below.toNat - i ∧ (i : Int) ≤ below ∧ P.map (·.2) = setsM most i ∧ env = slotsA 41 [(0, intA below), (1, intA most), (5, .row j P.length), (6, intA i)] ∧ K = (j, .row (refsL P) 28 1) :: objsL P) below.toNat ⟨0, j0, [(je, [])], rfl, hb.1, rfl, rfl, rfl⟩ fun n env K hI hnext => ?_
  obtain ⟨i, j, P, rfl, hi, hP, rfl, rfl⟩ := hI
  have hPl : P.length ≤ 65536 := by have := setsM_len most i; rw [← hP, List.length_map] at this; exact Nat.le_trans this (pow_le16 (by omega))
  refine au [4, 4, 5, 1, 1, 6, 3, 20] ?_
  refine ⟨fun hc0 => ?_, fun hc0 => ?_⟩
  · simp only [decide_eq_true_eq] at hc0
    refine au [12, 4, 13, 4, 5, 1, 28, 24, 2, 3, 13] ?_
    refine TK.maskL [0, 1, 5, 6, 7] ?_
    refine TK.loopN (fun n env K => ∃ (q j2 : Nat) (P2 : List (Nat × List Int)), n = P.length - q ∧ q ≤ P.length ∧ P2.map (·.2) = setsM most i ++ moreM most i ((setsM most i).reverse.take q) ∧ env = slotsA 41 [(0, intA below), (1, intA most), (5, .row j2 P2.length), (6, intA i), (7, intA ((P.length : Int) - 1 - q))] ∧ K = (j2, .row (refsL P2) 28 1) :: objsL P2) P.length ⟨0, j, P, rfl, Nat.zero_le _, by rw [hP, List.take_zero]; exact (List.append_nil _).symm, by rw [Int.natCast_zero, Int.sub_zero]; rfl, rfl⟩ fun n env K hI2 hnext2 => ?_
    obtain ⟨q, j2, P2, rfl, hq, hP2, rfl, rfl⟩ := hI2
    have hsl : (setsM most i).length = P.length := by rw [← hP, List.length_map]
    have hPP : P.length ≤ P2.length := by have := congrArg List.length hP2; rw [List.length_map, List.length_append, hsl] at this; omega
    have hPl2 : P2.length ≤ 131072 := by
      have h1 := congrArg List.length hP2
      have h2 := moreM_len most i ((setsM most i).reverse.take q)
      rw [List.length_take] at h2
      rw [List.length_map, List.length_append, hsl] at h1
      omega
    refine au [4, 4, 5, 1, 6, 3, 20] ?_
    refine ⟨fun hc1 => ?_, fun hc1 => ?_⟩
    · simp only [decide_eq_true_eq] at hc1
      have hql : q < P.length := by omega
      obtain ⟨k0, hk0⟩ : ∃ k0, k0 = (setsM most i).length - 1 - q := ⟨_, rfl⟩
      have hkl : k0 < P2.length := by omega
      have hkn : (P.length : Int) - 1 - q = (k0 : Int) := by omega
      have hx2 : P2[k0].2 = (setsM most i)[(setsM most i).length - 1 - q] := by rw [map_snd_get hP2 (by omega) hkl]; congr 1
      have hmx := objsL_mem (List.getElem_mem hkl)
      refine au [12, 4, 13, 4, 5, 1, 1, 37] ?_
      refine TK.a rfl (q_load1 rfl rfl TySz.h (by repeat (first | exact List.Mem.head _ | assumption | apply List.Mem.tail)) (refs_at hkl hkn)) ?_
      refine au [28, 1, 6, 3, 20] ?_
      refine ⟨fun hc2 => ?_, fun hc2 => ?_⟩
      · simp only [decide_eq_true_eq] at hc2
        refine au [5, 1] ?_
        refine TK.newR rfl rfl rfl (n_buildSlice (l := []) rfl SlEl.h TyZ.h (by decide) (by decide) rfl) (fun _ => putS rfl (by simp only [List.set]; rfl)) fun j9 hj9 => ?_
        refine au [1, 1, 37] ?_
        refine TK.a rfl (q_load1 rfl rfl TySz.h (by repeat (first | exact List.Mem.head _ | assumption | apply List.Mem.tail)) (refs_at hkl hkn)) ?_
        refine TK.appG (ln := P2[k0].2.map intA) rfl rfl rfl ApOf.h rfl (by repeat (first | exact List.Mem.head _ | assumption | apply List.Mem.tail)) rfl rfl rfl (fun hp => src_sl (by repeat (first | exact List.Mem.head _ | assumption | apply List.Mem.tail)) (by omega) (take_full (n := P2[k0].2.length) (size := 1) (by simp) (by omega))) (fun h => by simp [List.eq_nil_of_length_eq_zero h]) (ints_one _) (by unfold maxLen; omega) (by omega) (fun _ => (by repeat (first | exact Upd.head | apply Upd.tail))) (fun _ => putS rfl (by simp only [List.set]; rfl)) fun j6 => ?_
        simp only [List.nil_append, Nat.zero_add]
        refine au [1] ?_
        refine TK.newR rfl rfl rfl (n_buildSlice (l := [_]) rfl SlEl.h TyZ.h (by decide) (by decide) rfl) (fun _ => putS rfl (by simp only [List.set]; rfl)) fun j1 hj1 => ?_
        refine TK.appR rfl rfl rfl (a_app rfl ApOf.h rfl (by repeat (first | exact List.Mem.head _ | assumption | apply List.Mem.tail)) (by simp <;> omega) rfl (src_row (ln := [_]) (by repeat (first | exact List.Mem.head _ | assumption | apply List.Mem.tail)) (by decide) (by simp) rfl) (by omega) rfl (by unfold maxLen; omega) (by omega)) (fun _ => (by repeat (first | exact Upd.head | apply Upd.tail))) (fun _ => putS rfl (by simp only [List.set]; rfl)) fun j3 => ?_
        refine TK.freezeR 37 rfl (by repeat (first | exact Upd.head | apply Upd.tail)) rfl ?_
        refine au [] ?_
        refine TK.newR rfl rfl rfl (n_buildSlice (l := [_]) rfl SlEl.h TyZ.h (by decide) (by decide) rfl) (fun _ => putS rfl (by simp only [List.set]; rfl)) fun j2 hj2 => ?_
        refine TK.appR rfl rfl rfl (a_app rfl ApOf.h rfl (by repeat (first | exact List.Mem.head _ | assumption | apply List.Mem.tail)) (by simp [refsL]) rfl (src_row (ln := [_]) (by repeat (first | exact List.Mem.head _ | assumption | apply List.Mem.tail)) (by decide) (by simp) rfl) (by omega) rfl (by unfold maxLen; omega) (by omega)) (fun _ => (by repeat (first | exact Upd.head | apply Upd.tail))) (fun _ => putS rfl (by simp only [List.set]; rfl)) fun j4 => ?_
        refine au [2, 3, 14, 5, 1, 24, 2, 3] ?_
        refine TK.maskL [0, 1, 5, 6, 7] ?_
        refine TK.kp (((j4, _) :: (j3, _) :: objsL P2)) ?_
        refine TK.perm (K' := (j4, .row (refsL P2 ++ [.sl j3 0 (P2[k0].2.length + 1)]) 28 1) :: (objsL P2 ++ [(j3, .cells (P2[k0].2.map intA ++ [intA i]) 3 false)])) (List.Perm.cons _ (List.perm_append_singleton (j3, _) (objsL P2)).symm) ?_
        exact hnext2 _ _ _ (by omega) ⟨q + 1, j4, P2 ++ [(j3, P2[k0].2 ++ [(i : Int)])], rfl, by omega, by rw [takeR_succ _ (by omega), moreM_app, List.map_append, hP2, List.append_assoc, moreM_T (by rw [← hx2]; exact decide_eq_true hc2), hx2]; rfl, by rw [List.length_append, show ((P.length : Int) - 1 - (q + 1 : Nat)) = (P.length : Int) - 1 - q - 1 by omega]; rfl, by simp [refsL, objsL]⟩
      simp only [decide_eq_false_iff_not] at hc2
      refine au [12, 14, 5, 1, 24, 2, 3] ?_
      refine TK.maskL [0, 1, 5, 6, 7] ?_
      refine TK.kp (((j2, _) :: objsL P2)) ?_
      exact hnext2 _ _ _ (by omega) ⟨q + 1, j2, P2, rfl, by omega, by rw [takeR_succ _ (by omega), moreM_app, hP2, moreM_F (by rw [← hx2]; exact decide_eq_false hc2), List.append_nil], by rw [show ((P.length : Int) - 1 - (q + 1 : Nat)) = (P.length : Int) - 1 - q - 1 by omega]; rfl, rfl⟩
    simp only [decide_eq_false_iff_not] at hc1
    obtain rfl : q = P.length := by omega
    have hP2 : P2.map (·.2) = setsM most (i + 1) := by rw [hP2, ← hsl, ← List.length_reverse, List.take_length]; rfl
    refine au [16, 14, 5, 1, 23, 2, 3] ?_
    refine TK.maskL [0, 1, 5, 6] ?_
    refine TK.kp (((j2, _) :: objsL P2)) ?_
    exact hnext _ _ _ (by omega) ⟨i + 1, j2, P2, rfl, by omega, hP2, rfl, rfl⟩
  simp only [decide_eq_false_iff_not] at hc0
  obtain rfl : (i : Int) = below := by omega
  rw [Int.toNat_natCast] at *
  refine au [16, 4, 5, 1, 2, 3] ?_
  refine TK.rt hret (((j, _) :: objsL P)) ?_
  exact ⟨_, _, rfl, hP, rfl⟩
end Go.Vel
end
section
set_option linter.all false
namespace Go.Vel
open Go Go.Conc Go.Proofs

section
variable {P : Program} {gm : Nat → Option Nat} {T : Goroutine → Hp → Prop}
theorem Kstep.permR {K K' K2 : KV} {A A' : List AObj} (h : Kstep K A K' A') (hp : K'.Perm K2) : Kstep K A K2 A' :=
  ⟨h.view.sub fun x hx => hp.symm.subset hx, (keys_perm hp).nodup_iff.1 h.nd, fun i hi => h.own i ((keys_perm hp).symm.subset hi), h.kept, h.len⟩
theorem Kstep.permL {K K' K2 : KV} {A A' : List AObj} (h : Kstep K A K' A') (hp : K.Perm K2) : Kstep K2 A K' A' :=
  ⟨h.view, h.nd, fun i hi => (h.own i hi).imp (fun h => (keys_perm hp).subset h) id, fun j hj hn => h.kept j hj fun hm => hn ((keys_perm hp).subset hm), h.len⟩
/-- A contract that changes no object, with more objects beside. -/
theorem CallK.frameP {g : FuncId} {args : List AV} {K Kb R : KV} {Q : AV → Prop} (h : CallK P T gm g args K (fun r K' => Q r ∧ K' = K)) (hp : Kb.Perm (K ++ R)) : CallK P T gm g args Kb (fun r K' => Q r ∧ K' = Kb) := by
  intro A hv hn
  have hv2 : View (K ++ R) A := hv.sub fun x hx => hp.symm.subset hx
  have hn2 := (keys_perm hp).nodup_iff.1 hn
  have hn3 := hn2
  rw [keys_app] at hn3
  refine (h A (hv2.sub fun x hx => List.mem_append_left _ hx) (List.nodup_append.1 hn3).1).mono ?_
  rintro r A' ⟨K', hk, hq, rfl⟩
  refine ⟨Kb, ?_, hq, rfl⟩
  have hs : Split (K' ++ R) K' R := by
    have key : ∀ (K : KV), Split (K ++ R) K R := fun K => by
      induction K with
      | nil => exact .none _
      | cons x K ih => exact .left ih
    exact key K'
  exact ((hk.frame hs hv2 hn2).permR hp.symm).permL hp.symm
end
theorem high_of {b : Bk} (h : checkM b = 0) : 0 ≤ b.high := by
  unfold checkM at h
  split at h
  · rename_i h1; rw [h] at h1; cases h1
  · rename_i h1
    obtain ⟨q1, q2, q3, q4, q5, q6, q7⟩ := numbers_range (b := b) (by simpa using h1)
    omega
theorem setsM_mem {most : Int} : ∀ n, ∀ l ∈ setsM most n, ∀ x ∈ l, 0 ≤ x ∧ x < n
  | 0, l, hl, x, hx => by rw [List.mem_singleton.1 hl] at hx; cases hx
  | n + 1, l, hl, x, hx => by
    rcases List.mem_append.1 hl with hl | hl
    · have := setsM_mem n l hl x hx; omega
    · obtain ⟨y, hy, rfl⟩ := List.mem_map.1 hl
      rcases List.mem_append.1 hx with hx | hx
      · have := setsM_mem n y (List.mem_reverse.1 (List.mem_filter.1 hy).1) x hx; omega
      · rw [List.mem_singleton.1 hx]; omega
def setsB (b : Bk) : List (List Int) := setsM b.high b.steps.toNat
def statesR (b : Bk) : List (List Int) := (setsB b).filter (canM b)
theorem setsB_ok {b : Bk} (hb : BkOk b) (hh : 0 ≤ b.high) : ∀ l ∈ setsB b, SmOk b l := fun l hl => by
  refine ⟨?_, fun x hx => ?_⟩
  · have := setsM_short hh _ l hl; have := hb.high; omega
  · have := setsM_mem _ l hl x hx; have := hb.steps; omega
theorem setsB_len {b : Bk} (hb : BkOk b) : (setsB b).length ≤ 65536 := Nat.le_trans (setsM_len _ _) (pow_le16 (by have := hb.steps; omega))
theorem filt_T {α : Type} {p : α → Bool} {A : List α} {i : Nat} (hi : i < A.length) (h : p A[i] = true) : (A.take (i + 1)).filter p = (A.take i).filter p ++ [A[i]] := by
  rw [List.take_add_one, List.getElem?_eq_getElem hi, List.filter_append]; simp [h]
theorem filt_F {α : Type} {p : α → Bool} {A : List α} {i : Nat} (hi : i < A.length) (h : p A[i] = false) : (A.take (i + 1)).filter p = (A.take i).filter p := by
  rw [List.take_add_one, List.getElem?_eq_getElem hi, List.filter_append]; simp [h]
/-- One list of many is handed over. -/
theorem objs_split {Q : List (Nat × List Int)} {x : Nat × List Int} (hx : x ∈ Q) : ∃ R, Rem (objsL Q) (x.1, .cells (x.2.map intA) 3 false) R := rem_of_mem (objsL_mem hx)
theorem perm3 {a b x : Nat × AObj} {L R : KV} (h : Rem L x R) : (a :: b :: L).Perm ([a, b, x] ++ R) := .cons _ (.cons _ h.perm)
theorem perm2 {a x : Nat × AObj} {L R : KV} (h : Rem L x R) : (a :: L).Perm ([a, x] ++ R) := .cons _ h.perm
theorem perm1 {x : Nat × AObj} {L R : KV} (h : Rem L x R) : L.Perm ([x] ++ R) := h.perm

def knownBar (b : Bk) (t : Bool) : Int := if checkM b = 0 then if t = false then 6 else if statesR b = [] then 9 else 0 else checkM b
set_option maxRecDepth 20000 in
set_option maxHeartbeats 4000000 in
theorem statesR_ok {main : Bool} {T : Goroutine → Hp → Prop} (hT : Shut Tryz.prog main T) {gm : Nat → Option Nat} {b : Bk} {s e : Nat} (hse : s ≠ e) (hb : BkOk b) (hh : 0 ≤ b.high) :
    CallK Tryz.prog T gm 63 [.agg (bookC b s e)] [(s, saysO b), (e, seenO b)] (fun r K' => ∃ (j : Nat) (P Q : List (Nat × List Int)), r = .row j P.length ∧ P.map (·.2) = statesR b ∧ (∀ x ∈ P, x ∈ Q) ∧ K' = (j, .row (refsL P) 28 1) :: (s, saysO b) :: (e, seenO b) :: objsL Q) := by
  refine callK_in 32 hT Tryz.func63 fun Y hret => ?_
  refine au [] ?_
  have hst := hb.steps
  have hhi := hb.high
  refine au [4, 5, 21] ?_
  intro jb hjb
  refine au [2, 3, 4, 5, 7, 9, 7, 7, 9] ?_
  refine TK.cl rfl rfl rfl rfl (sets_ok hT (below := b.steps) (most := b.high) ⟨by omega, by omega⟩ ⟨hh, by omega⟩) ?_
  rintro r1 K2 ⟨ja, Q, rfl, hQ, rfl⟩
  refine au [] ?_
  refine TK.perm (List.Perm.cons _ List.perm_append_comm) ?_
  refine au [2, 3, 4, 5, 2, 3, 4, 4] ?_
  refine TK.virt 4 28 1 rfl fun jo0 hjo0 => ?_
  refine au [5, 2, 3, 13] ?_
  refine TK.maskL [1, 3, 4, 5] ?_
  refine TK.kp ((jo0, _) :: (ja, _) :: (jb, _) :: (s, _) :: (e, _) :: objsL Q) ?_
  have hQ : Q.map (·.2) = setsB b := hQ
  have hQl : Q.length = (setsB b).length := by rw [← hQ, List.length_map]
  have hQm := setsB_len hb
  refine TK.loopN (fun n env K => ∃ (i jo : Nat) (P : List (Nat × List Int)), n = Q.length - i ∧ i ≤ Q.length ∧ P.map (·.2) = ((setsB b).take i).filter (canM b) ∧ (∀ x ∈ P, x ∈ Q) ∧ env = slotsA 32 [(1, .ptr jb 0), (3, .row ja Q.length), (4, .row jo P.length), (5, intA i)] ∧ K = (jo, .row (refsL P) 28 1) :: (ja, .row (refsL Q) 28 1) :: (jb, .cells (bookC b s e) 27 true) :: (s, saysO b) :: (e, seenO b) :: objsL Q) Q.length ⟨0, jo0, [], rfl, Nat.zero_le _, rfl, (fun _ h => by cases h), rfl, rfl⟩ fun n env K hI hnext => ?_
  obtain ⟨i, jo, P, rfl, hi, hP, hPQ, rfl, rfl⟩ := hI
  have hPl : P.length ≤ 65536 := by
    have h1 := congrArg List.length hP
    have h2 := List.length_filter_le (canM b) ((setsB b).take i)
    rw [List.length_take] at h2
    rw [List.length_map] at h1
    omega
  refine au [4, 4, 5, 1, 1, 28, 6, 3, 20] ?_
  refine ⟨fun hc0 => ?_, fun hc0 => ?_⟩
  · simp only [decide_eq_true_eq] at hc0
    have hil : i < Q.length := by omega
    have hxm : Q[i] ∈ Q := List.getElem_mem hil
    have hmx := objsL_mem hxm
    have hx2 : Q[i].2 = (setsB b)[i] := map_snd_get (B := []) (by rw [hQ, List.append_nil]) (by omega) hil
    have hS : SmOk b Q[i].2 := setsB_ok hb hh _ (by rw [hx2]; exact List.getElem_mem _)
    obtain ⟨Rq, hRq⟩ := objs_split hxm
    refine au [12, 4, 13, 4] ?_
    refine TK.draw [0, 1, 2, 3, 4, 5] [0, 1, 2, 3, 4, 5] (by kernel_rfl) (by kernel_rfl) ?_
    refine TD.y [1] rfl (hq := q_load rfl rfl TySz.h (List.Mem.head _) rfl) (h := ?_)
    refine TD.z [3] rfl (q_move rfl rfl) ?_
    refine TD.z [5] rfl (q_move rfl rfl) ?_
    refine TD.y [19, 20] rfl (hq := q_indexRow rfl rfl rfl SlEl.h (List.Mem.head _) (by omega) (by omega)) (h := ?_)
    refine TD.y [21] rfl (hq := q_load1 rfl rfl TySz.h (List.Mem.head _) (refs_at hil rfl)) (h := ?_)
    refine TD.cl (pend' := [⟨3, [19, 20], [(_, _)]⟩, ⟨2, [5], []⟩, ⟨1, [3], []⟩]) [18, 22] rfl rfl rfl rfl rfl ((stateR_ok hT hse hb hS (ints_at _ _ _) (by have := hS.len; omega)).frameP (perm3 hRq)) (fun r4 K5 h6 => ⟨?_, ?_⟩)
    · rcases h6 with ⟨rfl, rfl⟩
      all_goals simp
    obtain ⟨rfl, rfl⟩ := h6
    try simp only [List.cons_append, List.nil_append]
    refine TD.norm (by simp only [List.set]; rfl) ?_
    refine TD.perm (List.perm_append_comm (l₁ := (s, _) :: (e, _) :: objsL Q)) ?_
    simp only [List.cons_append, List.nil_append]
    refine TD.fin ?_
    refine au [20] ?_
    refine ⟨fun hc1 => ?_, fun hc1 => ?_⟩
    · refine au [5, 1, 1, 1, 37] ?_
      refine TK.a rfl (q_load1 rfl rfl TySz.h (by repeat (first | exact List.Mem.head _ | assumption | apply List.Mem.tail)) (refs_at hil rfl)) ?_
      refine TK.newR rfl rfl rfl (n_buildSlice (l := [_]) rfl SlEl.h TyZ.h (by decide) (by decide) rfl) (fun _ => putS rfl (by simp only [List.set]; rfl)) fun j7 hj7 => ?_
      refine TK.appR rfl rfl rfl (a_app rfl ApOf.h rfl (by repeat (first | exact List.Mem.head _ | assumption | apply List.Mem.tail)) (by simp [refsL]) rfl (src_row (ln := [_]) (by repeat (first | exact List.Mem.head _ | assumption | apply List.Mem.tail)) (by decide) (by simp) rfl) (by omega) rfl (by unfold maxLen; omega) (by omega)) (fun _ => (by repeat (first | exact Upd.head | apply Upd.tail))) (fun _ => putS rfl (by simp only [List.set]; rfl)) fun j2 => ?_
      refine au [2, 3, 14, 5, 1, 23, 2, 3] ?_
      refine TK.maskL [1, 3, 4, 5] ?_
      refine TK.kp (((j2, _) :: (ja, _) :: (jb, _) :: (s, _) :: (e, _) :: objsL Q)) ?_
      exact hnext _ _ _ (by omega) ⟨i + 1, j2, P ++ [Q[i]], rfl, by omega, by rw [filt_T (by omega) (by rw [← hx2]; exact hc1), List.map_append, hP, ← hx2]; rfl, (fun x hx => (List.mem_append.1 hx).elim (hPQ x) fun h => by rw [List.mem_singleton.1 h]; exact hxm), by rw [List.length_append]; rfl, by rw [refsL_app]; rfl⟩
    refine au [12, 14, 5, 1, 23, 2, 3] ?_
    refine TK.maskL [1, 3, 4, 5] ?_
    refine TK.kp (((jo, _) :: (ja, _) :: (jb, _) :: (s, _) :: (e, _) :: objsL Q)) ?_
    exact hnext _ _ _ (by omega) ⟨i + 1, jo, P, rfl, by omega, by rw [filt_F (by omega) (by rw [← hx2]; exact hc1), hP], hPQ, rfl, rfl⟩
  simp only [decide_eq_false_iff_not] at hc0
  obtain rfl : i = Q.length := by omega
  have hP : P.map (·.2) = statesR b := by rw [hP, hQl, List.take_length]; rfl
  refine au [16, 4, 5, 1, 2, 3] ?_
  refine TK.rt hret (((jo, _) :: (s, _) :: (e, _) :: objsL Q)) ?_
  exact ⟨_, _, Q, rfl, hP, hPQ, rfl⟩

set_option maxRecDepth 20000 in
set_option maxHeartbeats 2000000 in
theorem knownR_ok {main : Bool} {T : Goroutine → Hp → Prop} (hT : Shut Tryz.prog main T) {gm : Nat → Option Nat} {b : Bk} {s e : Nat} {t : Bool} (hse : s ≠ e) (hn : ∀ x ∈ b.seekers, x.name.size ≤ 1000) (hl : b.seen.length ≤ 1000) (hl2 : b.seekers.length ≤ 1000) :
    CallK Tryz.prog T gm 68 [.agg (bookC b s e), boolA t] [(s, saysO b), (e, seenO b)] (fun r K' => ∃ bar : Int, bar = knownBar b t ∧ ((bar ≠ 0 ∧ r = .tup [.v (.slice none 0 0), intA bar] ∧ K' = [(s, saysO b), (e, seenO b)]) ∨ (bar = 0 ∧ ∃ (j : Nat) (P Q : List (Nat × List Int)), r = .tup [.row j P.length, intA 0] ∧ P.map (·.2) = statesR b ∧ (∀ x ∈ P, x ∈ Q) ∧ K' = (j, .row (refsL P) 28 1) :: (s, saysO b) :: (e, seenO b) :: objsL Q))) := by
  refine callK_in 21 hT Tryz.func68 fun Y hret => ?_
  refine au [4, 5, 21] ?_
  intro jb hjb
  refine au [2, 2, 3, 4, 4, 5, 8] ?_
  refine TK.cl rfl rfl rfl rfl (checkR_ok hT hse hn hl hl2) ?_
  rintro r1 K2 ⟨rfl, rfl⟩
  refine au [2, 3, 4, 5, 1, 6, 3, 20] ?_
  refine ⟨fun hc0 => ?_, fun hc0 => ?_⟩
  · refine au [4, 5, 1, 2, 2, 3] ?_
    refine TK.rt hret [(s, _), (e, _)] ?_
    have hk0 : checkM b ≠ 0 := by simpa using hc0
    have hk : knownBar b t = checkM b := by unfold knownBar; rw [if_neg hk0]
    exact ⟨_, hk.symm, .inl ⟨hk0, rfl, rfl⟩⟩
  have hck : checkM b = 0 := by simpa using hc0
  have hb := bkOk_of hck
  have hh := high_of hck
  refine au [12, 4, 4, 5, 1, 30, 3, 20] ?_
  refine ⟨fun hc1 => ?_, fun hc1 => ?_⟩
  · refine au [4, 5, 2, 2, 3] ?_
    refine TK.rt hret [(s, _), (e, _)] ?_
    have hk : knownBar b t = 6 := by unfold knownBar; rw [if_pos hck, if_pos (by simpa using hc1)]
    exact ⟨6, hk.symm, .inl ⟨by decide, rfl, rfl⟩⟩
  refine au [12, 4, 5, 8] ?_
  refine TK.cl rfl rfl rfl rfl (statesR_ok hT hse hb hh) ?_
  rintro r4 K5 ⟨j, P, Q, rfl, hP, hPQ, rfl⟩
  refine au [] ?_
  refine TK.perm (.cons _ (.cons _ (.cons _ List.perm_append_comm))) ?_
  refine au [2, 3, 4, 4, 5, 1, 28, 6, 3, 20] ?_
  refine ⟨fun hc2 => ?_, fun hc2 => ?_⟩
  · refine au [4, 5, 2, 2, 3] ?_
    refine TK.rt hret [(s, _), (e, _)] ?_
    have hk : knownBar b t = 9 := by
      unfold knownBar; rw [if_pos hck, if_neg (by simpa using hc1), if_pos]
      rw [← hP]; simp only [beq_iff_eq] at hc2; simpa using hc2
    exact ⟨9, hk.symm, .inl ⟨by decide, rfl, rfl⟩⟩
  refine au [12, 4, 5, 1, 2, 2, 3] ?_
  refine TK.rt hret (((j, _) :: (s, _) :: (e, _) :: objsL Q)) ?_
  have hk : knownBar b t = 0 := by
    unfold knownBar; rw [if_pos hck, if_neg (by simpa using hc1), if_neg]
    rw [← hP]; simp only [beq_eq_false_iff_ne] at hc2; intro h; exact hc2 (by simpa using h)
  exact ⟨0, hk.symm, .inr ⟨rfl, _, _, Q, rfl, hP, hPQ, rfl⟩⟩
end Go.Vel
end
section
set_option linter.all false
namespace Go.Vel
open Go Go.Conc Go.Proofs

/-! ### the states of the program, and of the specification -/
theorem loop_sub {b : Bk} : ∀ (rest S R : List Int), R ∈ loopM b S rest → ∃ T, T.Sublist rest ∧ T ≠ [] ∧ R = S ++ T
  | [], S, R, h => by cases h
  | n :: rest, S, R, h => by
    simp only [loopM] at h
    split at h
    · rcases List.mem_append.1 h with h | h
      · rcases List.mem_append.1 h with h | h
        · unfold ownM at h
          split at h
          · rw [List.mem_singleton.1 h]
            exact ⟨[n], .cons_cons _ (List.nil_sublist _), by simp, rfl⟩
          · cases h
        · obtain ⟨T, h1, _, rfl⟩ := loop_sub rest _ R h
          exact ⟨n :: T, .cons_cons _ h1, by simp, by simp⟩
      · obtain ⟨T, h1, h2, rfl⟩ := loop_sub rest _ R h
        exact ⟨T, .cons _ h1, h2, rfl⟩
    · cases h
theorem own_nodup (b : Bk) (S : List Int) : (ownM b S).Nodup := by
  unfold ownM
  split <;> simp
theorem loop_nodup {b : Bk} : ∀ (rest S : List Int), rest.Nodup → (loopM b S rest).Nodup
  | [], S, _ => by simp [loopM]
  | n :: rest, S, h => by
    have h2 := List.nodup_cons.1 h
    simp only [loopM]
    split
    · refine List.nodup_append.2 ⟨List.nodup_append.2 ⟨own_nodup _ _, loop_nodup rest _ h2.2, fun x hx y hy e => ?_⟩, loop_nodup rest _ h2.2, fun x hx y hy e => ?_⟩
      · subst e
        obtain ⟨T, _, hT, rfl⟩ := loop_sub _ _ _ hy
        unfold ownM at hx
        split at hx
        · have := List.mem_singleton.1 hx
          exact hT (by simpa using this)
        · cases hx
      · subst e
        obtain ⟨T, hT1, _, e2⟩ := loop_sub _ _ _ hy
        have hn : n ∈ T := by
          rcases List.mem_append.1 hx with hx | hx
          · unfold ownM at hx
            split at hx
            · have := List.mem_singleton.1 hx
              rw [e2] at this
              have := List.append_cancel_left this
              simp [this]
            · cases hx
          · obtain ⟨T', _, _, e3⟩ := loop_sub _ _ _ hx
            rw [e2, List.append_assoc] at e3
            have := List.append_cancel_left e3
            simp [this]
        exact h2.1 (hT1.subset hn)
    · simp
theorem restM_pair (b : Bk) (i : Nat) : (restM b i).Pairwise (· < ·) := by
  unfold restM
  rw [List.pairwise_map]
  exact (List.pairwise_lt_range' (s := i) (n := b.steps.toNat - i)).imp fun h => by omega
theorem allM_nodup (b : Bk) : (allM b).Nodup := by
  have hr : (restM b 0).Nodup := (restM_pair b 0).imp fun h e => by omega
  refine List.nodup_append.2 ⟨own_nodup _ _, loop_nodup _ _ hr, fun x hx y hy e => ?_⟩
  subst e
  obtain ⟨T, _, hT, rfl⟩ := loop_sub _ _ _ hy
  unfold ownM at hx
  split at hx
  · exact hT (by simpa using List.mem_singleton.1 hx)
  · cases hx
theorem allM_pair {b : Bk} {R : List Int} (h : R ∈ allM b) : R.Pairwise (· < ·) := by
  rcases List.mem_append.1 h with h | h
  · unfold ownM at h
    split at h
    · rw [List.mem_singleton.1 h]; exact .nil
    · cases h
  · obtain ⟨T, h1, _, rfl⟩ := loop_sub _ _ _ h
    exact (restM_pair b 0).sublist h1
theorem loop_high {b : Bk} : ∀ (rest S R : List Int), R ∈ loopM b S rest → (R.length : Int) ≤ b.high
  | [], S, R, h => by cases h
  | n :: rest, S, R, h => by
    simp only [loopM] at h
    split at h
    · rename_i hlt
      rcases List.mem_append.1 h with h | h
      · rcases List.mem_append.1 h with h | h
        · unfold ownM at h
          split at h
          · rw [List.mem_singleton.1 h, List.length_append]
            simp; omega
          · cases h
        · exact loop_high rest _ R h
      · exact loop_high rest _ R h
    · cases h
theorem memA {b : Bk} {xs : List Int} (hp : xs.Pairwise (· < ·)) (hr : ∀ x ∈ xs, 0 ≤ x ∧ x < b.steps) (hs : seenM b xs = true) : xs ∈ allM b := by
  unfold allM
  have hh : ((xs.length : Int)) ≤ b.high := by
    unfold seenM at hs
    simp only [Bool.and_eq_true, decide_eq_true_eq] at hs
    exact hs.1.2
  by_cases h0 : xs = []
  · subst h0
    refine List.mem_append.2 (.inl ?_)
    unfold ownM
    rw [if_pos hs]
    exact List.mem_singleton.2 rfl
  · exact List.mem_append.2 (.inr (mem_loopM (restM b 0) [] xs (sub_rest _ 0 xs rfl hp fun x hx => by have := hr x hx; omega) h0 hh hs))

theorem sets_pair {most : Int} : ∀ n, ∀ l ∈ setsM most n, l.Pairwise (· < ·)
  | 0, l, hl => by rw [List.mem_singleton.1 hl]; exact .nil
  | n + 1, l, hl => by
    rcases List.mem_append.1 hl with hl | hl
    · exact sets_pair n l hl
    · obtain ⟨y, hy, rfl⟩ := List.mem_map.1 hl
      have hy' := List.mem_reverse.1 (List.mem_filter.1 hy).1
      refine List.pairwise_append.2 ⟨sets_pair n y hy', by simp, fun a ha c hc => ?_⟩
      rw [List.mem_singleton.1 hc]
      exact (setsM_mem n y hy' a ha).2
theorem sets_mem {most : Int} : ∀ (n : Nat) (l : List Int), l.Pairwise (· < ·) → (∀ x ∈ l, 0 ≤ x ∧ x < n) → (l.length : Int) ≤ most → l ∈ setsM most n
  | 0, l, _, hr, _ => by
    cases l with
    | nil => exact List.mem_singleton.2 rfl
    | cons x l => have := hr x (by simp); omega
  | n + 1, l, hp, hr, hl => by
    rcases List.eq_nil_or_concat l with rfl | ⟨y, a, rfl⟩
    · exact List.mem_append.2 (.inl (sets_mem n [] .nil (fun x hx => by cases hx) hl))
    · rw [List.concat_eq_append] at hp hr hl ⊢
      have hp2 := List.pairwise_append.1 hp
      have ha := hr a (by simp)
      have hlt : ∀ x ∈ y, x < a := fun x hx => hp2.2.2 x hx a (by simp)
      by_cases e : a = n
      · subst e
        refine List.mem_append.2 (.inr (List.mem_map.2 ⟨y, List.mem_filter.2 ⟨List.mem_reverse.2 (sets_mem n y hp2.1 (fun x hx => ?_) ?_), ?_⟩, rfl⟩))
        · have := hlt x hx; have := hr x (by simp [hx]); omega
        · simp at hl; omega
        · unfold shortB; simp at hl ⊢; omega
      · refine List.mem_append.2 (.inl (sets_mem n _ hp (fun x hx => ?_) hl))
        have h1 := hr x hx
        rcases List.mem_append.1 hx with hx | hx
        · have := hlt x hx; omega
        · rw [List.mem_singleton.1 hx] at h1 ⊢; omega
theorem sets_nodup {most : Int} : ∀ n, (setsM most n).Nodup
  | 0 => by simp [setsM]
  | n + 1 => by
    have ih := sets_nodup (most := most) n
    refine List.nodup_append.2 ⟨ih, ?_, fun x hx y hy e => ?_⟩
    · unfold moreM List.Nodup
      rw [List.pairwise_map]
      refine List.Pairwise.filter _ ?_
      exact (List.pairwise_reverse.2 (ih.imp fun {a c} h => (fun e => h e.symm : c ≠ a))).imp fun h e => h (List.append_cancel_right e)
    · subst e
      obtain ⟨y, _, rfl⟩ := List.mem_map.1 hy
      have := setsM_mem n _ hx n (by simp)
      omega
theorem can_seen {b : Bk} {S : List Int} (h : canM b S = true) : seenM b S = true := by
  unfold canM at h
  simp only [Bool.and_eq_true] at h
  exact h.2
/-- THE STATES ARE THE SAME, IN ANOTHER ORDER. -/
theorem states_perm {b : Bk} (hb : BkOk b) : (statesM b).Perm (statesR b) := by
  unfold statesM statesR
  refine (List.perm_ext_iff_of_nodup (List.Pairwise.filter _ (allM_nodup b)) (List.Pairwise.filter _ (sets_nodup _))).2 fun S => ?_
  rw [List.mem_filter, List.mem_filter]
  constructor
  · rintro ⟨h1, h2⟩
    refine ⟨sets_mem _ S (allM_pair h1) (fun x hx => ?_) ?_, h2⟩
    · have := (allM_ok hb S h1).mem x hx; omega
    · have := can_seen h2
      unfold seenM at this
      simp only [Bool.and_eq_true, decide_eq_true_eq] at this
      exact this.1.2
  · rintro ⟨h1, h2⟩
    refine ⟨memA (sets_pair _ S h1) (fun x hx => ?_) (can_seen h2), h2⟩
    have := setsM_mem _ S h1 x hx
    have := hb.steps
    omega
theorem knownBar_eq (b : Bk) (t : Bool) : knownBar b t = askM b t := by
  unfold knownBar askM
  by_cases h : checkM b = 0
  · have h' : ¬ checkM b ≠ 0 := fun h2 => h2 h
    simp only [h, if_true, h', if_false]
    have hp := states_perm (bkOk_of h)
    have he : (statesR b = []) ↔ (statesM b = []) := ⟨fun e => by rw [e] at hp; exact List.perm_nil.1 hp, fun e => by rw [e] at hp; exact List.nil_perm.1 hp⟩
    by_cases h0 : statesM b = []
    · simp [h0, he.2 h0]
    · have h1 : ¬ statesR b = [] := fun e => h0 (he.1 e)
      simp [h0, h1]
  · simp only [h, if_false, ne_eq, not_false_eq_true, if_true]
end Go.Vel
end
section
set_option linter.all false
namespace Go.Vel
open Go Go.Conc Go.Proofs

/-! ### the specification's sums over states -/
def oftR (Ls : List (List Int)) (n : Int) : Int := ((Ls.filter fun S => decide (n ∈ S)).length : Nat)
theorem oftR_T {Ls : List (List Int)} {n : Int} {i : Nat} (h : i < Ls.length) (hr : decide (n ∈ Ls[i]) = true) : oftR (Ls.take (i + 1)) n = oftR (Ls.take i) n + 1 := by
  unfold oftR
  rw [List.take_add_one, List.getElem?_eq_getElem h, List.filter_append, List.length_append]; simp [of_decide_eq_true hr]
theorem oftR_F {Ls : List (List Int)} {n : Int} {i : Nat} (h : i < Ls.length) (hr : decide (n ∈ Ls[i]) = false) : oftR (Ls.take (i + 1)) n = oftR (Ls.take i) n := by
  unfold oftR
  rw [List.take_add_one, List.getElem?_eq_getElem h, List.filter_append, List.length_append]; simp [of_decide_eq_false hr]
theorem oftR_le (Ls : List (List Int)) (k : Int) : 0 ≤ oftR Ls k ∧ oftR Ls k ≤ Ls.length := ⟨Int.natCast_nonneg _, Int.ofNat_le.2 (List.length_filter_le _ _)⟩
/-- A list of lists in memory: where its parts lie, the lists, and their objects. -/
structure LsIn (P Q : List (Nat × List Int)) (Ls : List (List Int)) : Prop where
  eq : P.map (·.2) = Ls
  mem : ∀ x ∈ P, x ∈ Q
theorem LsIn.len {P Q : List (Nat × List Int)} {Ls : List (List Int)} (h : LsIn P Q Ls) : P.length = Ls.length := by rw [← h.eq, List.length_map]
theorem LsIn.get {P Q : List (Nat × List Int)} {Ls : List (List Int)} (h : LsIn P Q Ls) {i : Nat} (hi : i < P.length) : P[i].2 = Ls[i]'(h.len ▸ hi) := by
  have e := h.eq
  subst e
  simp
theorem LsIn.obj {P Q : List (Nat × List Int)} {Ls : List (List Int)} (h : LsIn P Q Ls) {i : Nat} (hi : i < P.length) : (P[i].1, AObj.cells (P[i].2.map intA) 3 false) ∈ objsL Q := objsL_mem (h.mem _ (List.getElem_mem hi))
theorem LsIn.split {P Q : List (Nat × List Int)} {Ls : List (List Int)} (h : LsIn P Q Ls) {i : Nat} (hi : i < P.length) : ∃ R, Rem (objsL Q) (P[i].1, .cells (P[i].2.map intA) 3 false) R := objs_split (h.mem _ (List.getElem_mem hi))
set_option maxRecDepth 20000 in
set_option maxHeartbeats 2000000 in
theorem oftenR_ok {main : Bool} {T : Goroutine → Hp → Prop} (hT : Shut Tryz.prog main T) {gm : Nat → Option Nat} {P Q : List (Nat × List Int)} {Ls : List (List Int)} {j : Nat} (hL : LsIn P Q Ls) (hlen : Ls.length ≤ 65536) (hS : ∀ S ∈ Ls, S.length ≤ 1000) {m : Int} :
    CallK Tryz.prog T gm 74 [.row j P.length, intA m] ((j, .row (refsL P) 28 1) :: objsL Q) (fun r K' => r = intA (oftR Ls m) ∧ K' = (j, .row (refsL P) 28 1) :: objsL Q) := by
  refine callK_in 22 hT Tryz.func74 fun Y hret => ?_
  refine au [4, 5, 2, 3, 4, 5, 2, 3, 4, 4, 5, 2, 3, 13] ?_
  refine TK.maskL [0, 1, 5, 6] ?_
  refine TK.loopN (fun n env K => ∃ (i : Nat), n = P.length - i ∧ i ≤ P.length ∧ env = slotsA 22 [(0, .row j P.length), (1, intA m), (5, intA (oftR (Ls.take i) m)), (6, intA i)] ∧ K = (j, .row (refsL P) 28 1) :: objsL Q) P.length ⟨0, rfl, Nat.zero_le _, rfl, rfl⟩ fun n env K hI hnext => ?_
  obtain ⟨i, rfl, hi, rfl, rfl⟩ := hI
  have hle := oftR_le (Ls.take i) m
  have hlt : (Ls.take i).length ≤ Ls.length := by simp; omega
  refine au [4, 4, 5, 1, 1, 28, 6, 3, 20] ?_
  refine ⟨fun hc0 => ?_, fun hc0 => ?_⟩
  · simp only [decide_eq_true_eq] at hc0
    have hil : i < P.length := by omega
    have hil2 : i < Ls.length := by have := hL.len; omega
    have hx2 := hL.get hil
    have hmx := hL.obj hil
    obtain ⟨Rq, hRq⟩ := hL.split hil
    refine au [12, 4, 13, 4, 5, 1, 1, 37] ?_
    refine TK.a rfl (q_load1 rfl rfl TySz.h (by repeat (first | exact List.Mem.head _ | assumption | apply List.Mem.tail)) (refs_at hil rfl)) ?_
    refine au [1] ?_
    refine TK.cl rfl rfl rfl rfl ((holds_ok hT (ints_at P[i].2 3 false) (by rw [hx2]; exact hS _ (List.getElem_mem _))).frameP (perm1 hRq)) ?_
    rintro r1 K2 ⟨rfl, rfl⟩
    refine au [] ?_
    refine TK.perm List.perm_append_comm ?_
    refine au [3, 20] ?_
    refine ⟨fun hc1 => ?_, fun hc1 => ?_⟩
    · refine au [5, 1, 23, 2, 3, 14, 5, 1, 23, 2, 3] ?_
      refine TK.maskL [0, 1, 5, 6] ?_
      exact hnext _ _ _ (by omega) ⟨i + 1, rfl, by omega, by rw [oftR_T hil2 (by rw [← hx2]; exact hc1)]; rfl, rfl⟩
    refine au [12, 14, 5, 1, 23, 2, 3] ?_
    refine TK.maskL [0, 1, 5, 6] ?_
    exact hnext _ _ _ (by omega) ⟨i + 1, rfl, by omega, by rw [oftR_F hil2 (by rw [← hx2]; exact hc1)]; rfl, rfl⟩
  simp only [decide_eq_false_iff_not] at hc0
  obtain rfl : i = P.length := by omega
  refine au [16, 4, 5, 1, 2, 3] ?_
  refine TK.rt hret (((j, _) :: objsL Q)) ?_
  exact ⟨by rw [show Ls.take P.length = Ls by rw [hL.len, List.take_length]], rfl⟩

set_option maxRecDepth 20000 in
set_option maxHeartbeats 2000000 in
theorem rightsR_ok {main : Bool} {T : Goroutine → Hp → Prop} (hT : Shut Tryz.prog main T) {gm : Nat → Option Nat} {b : Bk} {s e : Nat} {P Q : List (Nat × List Int)} {Ls : List (List Int)} {j : Nat} (hL : LsIn P Q Ls) (hlen : Ls.length ≤ 65536) (hb : BkOk b) (hS : ∀ S ∈ Ls, SmOk b S) {k : Nat} (hk : k < b.seekers.length) :
    CallK Tryz.prog T gm 85 [.agg (bookC b s e), .row j P.length, intA k] ((s, saysO b) :: (j, .row (refsL P) 28 1) :: objsL Q) (fun r K' => r = intA (rightsM b Ls k) ∧ K' = (s, saysO b) :: (j, .row (refsL P) 28 1) :: objsL Q) := by
  refine callK_in 25 hT Tryz.func85 fun Y hret => ?_
  refine au [4, 5, 21] ?_
  intro jb hjb
  refine au [2, 3, 4, 5, 2, 3, 4, 4, 5, 2, 3, 13] ?_
  refine TK.maskL [1, 2, 3, 7, 8] ?_
  refine TK.kp ((j, _) :: (jb, _) :: (s, _) :: objsL Q) ?_
  refine TK.loopN (fun n env K => ∃ (i : Nat), n = P.length - i ∧ i ≤ P.length ∧ env = slotsA 25 [(1, .row j P.length), (2, intA k), (3, .ptr jb 0), (7, intA (rightsM b (Ls.take i) k)), (8, intA i)] ∧ K = (j, .row (refsL P) 28 1) :: (jb, .cells (bookC b s e) 27 true) :: (s, saysO b) :: objsL Q) P.length ⟨0, rfl, Nat.zero_le _, rfl, rfl⟩ fun n env K hI hnext => ?_
  obtain ⟨i, rfl, hi, rfl, rfl⟩ := hI
  have hle := rightsM_le b (Ls.take i) k
  have hlt : (Ls.take i).length ≤ Ls.length := by simp; omega
  refine au [4, 4, 5, 1, 1, 28, 6, 3, 20] ?_
  refine ⟨fun hc0 => ?_, fun hc0 => ?_⟩
  · simp only [decide_eq_true_eq] at hc0
    have hil : i < P.length := by omega
    have hil2 : i < Ls.length := by have := hL.len; omega
    have hx2 := hL.get hil
    have hmx := hL.obj hil
    obtain ⟨Rq, hRq⟩ := hL.split hil
    refine au [12, 4, 13, 4] ?_
    refine TK.draw [0, 1, 2, 3, 4, 5, 6] [0, 1, 2, 3, 4, 5, 6] (by kernel_rfl) (by kernel_rfl) ?_
    refine TD.y [3] rfl (hq := q_load rfl rfl TySz.h (List.Mem.head _) rfl) (h := ?_)
    refine TD.z [1] rfl (q_move rfl rfl) ?_
    refine TD.z [8] rfl (q_move rfl rfl) ?_
    refine TD.y [16, 17] rfl (hq := q_indexRow rfl rfl rfl SlEl.h (List.Mem.head _) (by omega) (by omega)) (h := ?_)
    refine TD.y [18] rfl (hq := q_load1 rfl rfl TySz.h (List.Mem.head _) (refs_at hil rfl)) (h := ?_)
    refine TD.z [2] rfl (q_move rfl rfl) ?_
    refine TD.cl (pend' := [⟨3, [16, 17], [(_, _)]⟩, ⟨2, [8], []⟩, ⟨1, [1], []⟩]) [15, 19, 20] rfl rfl rfl rfl rfl ((rightR_ok hT (s := s) (e := e) hb (by rw [hx2]; exact hS _ (List.getElem_mem _)) hk (ints_at P[i].2 3 false) (by rw [hx2]; have := (hS _ (List.getElem_mem hil2)).len; omega)).frameP (perm2 hRq)) (fun r1 K2 h3 => ⟨?_, ?_⟩)
    · rcases h3 with ⟨rfl, rfl⟩
      all_goals simp
    obtain ⟨rfl, rfl⟩ := h3
    try simp only [List.cons_append, List.nil_append]
    refine TD.norm (by simp only [List.set]; rfl) ?_
    refine TD.perm (List.perm_append_comm (l₁ := (s, _) :: objsL Q)) ?_
    simp only [List.cons_append, List.nil_append]
    refine TD.fin ?_
    refine au [20] ?_
    refine ⟨fun hc1 => ?_, fun hc1 => ?_⟩
    · refine au [5, 1, 23, 2, 3, 14, 5, 1, 23, 2, 3] ?_
      refine TK.maskL [1, 2, 3, 7, 8] ?_
      exact hnext _ _ _ (by omega) ⟨i + 1, rfl, by omega, by rw [rightsM_T hil2 (by rw [← hx2]; exact hc1)]; rfl, rfl⟩
    refine au [12, 14, 5, 1, 23, 2, 3] ?_
    refine TK.maskL [1, 2, 3, 7, 8] ?_
    exact hnext _ _ _ (by omega) ⟨i + 1, rfl, by omega, by rw [rightsM_F hil2 (by rw [← hx2]; exact hc1)]; rfl, rfl⟩
  simp only [decide_eq_false_iff_not] at hc0
  obtain rfl : i = P.length := by omega
  refine au [16, 4, 5, 1, 2, 3] ?_
  refine TK.rt hret (((s, _) :: (j, _) :: objsL Q)) ?_
  exact ⟨by rw [show Ls.take P.length = Ls by rw [hL.len, List.take_length]], rfl⟩

set_option maxRecDepth 20000 in
set_option maxHeartbeats 2000000 in
theorem withinOfR_ok {main : Bool} {T : Goroutine → Hp → Prop} (hT : Shut Tryz.prog main T) {gm : Nat → Option Nat} {b : Bk} {s e : Nat} {P Q : List (Nat × List Int)} {Ls : List (List Int)} {j : Nat} (hL : LsIn P Q Ls) (hlen : Ls.length ≤ 65536) (hs : 4 ≤ b.steps ∧ b.steps ≤ 16) (hS : ∀ S ∈ Ls, SmOk b S) {lo w : Int} (h0 : 0 ≤ lo ∧ lo < b.steps) :
    CallK Tryz.prog T gm 78 [.agg (bookC b s e), .row j P.length, intA lo, intA w] ((j, .row (refsL P) 28 1) :: objsL Q) (fun r K' => r = .agg [intA (withinM b Ls lo w).1, intA (withinM b Ls lo w).2] ∧ K' = (j, .row (refsL P) 28 1) :: objsL Q) := by
  refine callK_in 37 hT Tryz.func78 fun Y hret => ?_
  refine au [4, 5, 21] ?_
  intro jb hjb
  refine au [22] ?_
  intro jr hjr
  refine au [3, 4, 5, 39, 22] ?_
  intro jo hjo
  refine au [17, 3, 4, 4, 5, 2, 3, 13] ?_
  refine TK.maskL [1, 2, 3, 4, 8, 9, 10] ?_
  refine TK.kp ((j, _) :: (jb, _) :: (jo, _) :: (jr, _) :: objsL Q) ?_
  refine TK.loopN (fun n env K => ∃ (i : Nat), n = P.length - i ∧ i ≤ P.length ∧ env = slotsA 37 [(1, .row j P.length), (2, intA lo), (3, intA w), (4, .ptr jb 0), (8, .ptr jr 0), (9, .ptr jo 0), (10, intA i)] ∧ K = (j, .row (refsL P) 28 1) :: (jb, .cells (bookC b s e) 27 true) :: (jo, .cells [intA (withinM b (Ls.take i) lo w).1, intA (withinM b (Ls.take i) lo w).2] 23 true) :: (jr, .cells [intA 0, intA 0] 23 true) :: objsL Q) P.length ⟨0, rfl, Nat.zero_le _, rfl, rfl⟩ fun n env K hI hnext => ?_
  obtain ⟨i, rfl, hi, rfl, rfl⟩ := hI
  refine au [4, 4, 5, 1, 1, 28, 6, 3, 20] ?_
  refine ⟨fun hc0 => ?_, fun hc0 => ?_⟩
  · simp only [decide_eq_true_eq] at hc0
    have hil : i < P.length := by omega
    have hil2 : i < Ls.length := by have := hL.len; omega
    have hx2 := hL.get hil
    have hmx := hL.obj hil
    obtain ⟨Rq, hRq⟩ := hL.split hil
    refine au [12, 4, 13, 4] ?_
    refine TK.draw [0, 1, 2, 3, 4, 5, 6, 7, 8] [0, 1, 2, 3, 4, 5, 6, 7, 8] (by kernel_rfl) (by kernel_rfl) ?_
    refine TD.y [4] rfl (hq := q_load rfl rfl TySz.h (List.Mem.head _) rfl) (h := ?_)
    refine TD.z [1] rfl (q_move rfl rfl) ?_
    refine TD.z [10] rfl (q_move rfl rfl) ?_
    refine TD.y [20, 21] rfl (hq := q_indexRow rfl rfl rfl SlEl.h (List.Mem.head _) (by omega) (by omega)) (h := ?_)
    refine TD.y [22] rfl (hq := q_load1 rfl rfl TySz.h (List.Mem.head _) (refs_at hil rfl)) (h := ?_)
    refine TD.z [2] rfl (q_move rfl rfl) ?_
    refine TD.z [3] rfl (q_move rfl rfl) ?_
    refine TD.cl (pend' := [⟨3, [20, 21], [(_, _)]⟩, ⟨2, [10], []⟩, ⟨1, [1], []⟩]) [19, 23, 24, 25] rfl rfl rfl rfl rfl ((inR_ok hT (b := b) (s := s) (e := e) (lo := lo) (w := w) hs (by rw [hx2]; exact (hS _ (List.getElem_mem _)).mem) h0 (ints_at P[i].2 3 false) (by rw [hx2]; have := (hS _ (List.getElem_mem hil2)).len; omega)).frameP (perm1 hRq)) (fun r1 K2 h3 => ⟨?_, ?_⟩)
    · rcases h3 with ⟨rfl, rfl⟩
      all_goals simp
    obtain ⟨rfl, rfl⟩ := h3
    try simp only [List.cons_append, List.nil_append]
    refine TD.norm (by simp only [List.set]; rfl) ?_
    refine TD.perm (List.perm_append_comm (l₁ := objsL Q)) ?_
    simp only [List.cons_append, List.nil_append]
    refine TD.as (pend' := []) [26] rfl rfl (q_assign rfl rfl) ?_
    refine TD.fin ?_
    refine au [5, 7, 9, 1] ?_
    refine TK.a rfl (q_min rfl rfl rfl) ?_
    refine au [7, 9, 1] ?_
    refine TK.a rfl (q_max rfl rfl rfl) ?_
    refine au [39, 17, 3, 14, 5, 1, 23, 2, 3] ?_
    refine TK.maskL [1, 2, 3, 4, 8, 9, 10] ?_
    exact hnext _ _ _ (by omega) ⟨i + 1, rfl, by omega, rfl, by rw [withinM_succ hil2, ← hx2]; rfl⟩
  simp only [decide_eq_false_iff_not] at hc0
  obtain rfl : i = P.length := by omega
  refine au [16, 4, 5, 8, 17, 3] ?_
  refine TK.rt hret (((j, _) :: objsL Q)) ?_
  exact ⟨by rw [show Ls.take P.length = Ls by rw [hL.len, List.take_length]]; rfl, rfl⟩

set_option maxRecDepth 20000 in
set_option maxHeartbeats 1000000 in
theorem surely_ok {main : Bool} {T : Goroutine → Hp → Prop} (hT : Shut Tryz.prog main T) {gm : Nat → Option Nat} {some all : Int} :
    CallK Tryz.prog T gm 73 [intA some, intA all] [] (fun r K' => r = intA (wordM all some) ∧ K' = []) := by
  refine callK_in 10 hT Tryz.func73 fun Y hret => ?_
  refine au [4, 5, 2, 3, 4, 4, 5, 1, 1, 6, 3, 20] ?_
  refine ⟨fun hc0 => ?_, fun hc0 => ?_⟩
  · refine au [4, 5, 2, 3] ?_
    refine TK.rt hret [] ?_
    exact ⟨by unfold wordM; rw [if_pos hc0]; rfl, rfl⟩
  refine au [12, 4, 4, 5, 1, 6, 3, 20] ?_
  refine ⟨fun hc1 => ?_, fun hc1 => ?_⟩
  · refine au [4, 5, 2, 3] ?_
    refine TK.rt hret [] ?_
    exact ⟨by unfold wordM; rw [if_neg (by rw [hc0]; decide), if_pos hc1]; rfl, rfl⟩
  refine au [12, 4, 5, 2, 3] ?_
  refine TK.rt hret [] ?_
  exact ⟨by unfold wordM; rw [if_neg (by rw [hc0]; decide), if_neg (by rw [hc1]; decide)]; rfl, rfl⟩
end Go.Vel
end
section
set_option linter.all false
namespace Go.Vel
open Go Go.Conc Go.Proofs
/-! ### the specification's sums are the program's -/
theorem oftR_eq : ∀ {Ls : List (List Int)} (_ : ∀ S ∈ Ls, S.Nodup) (n : Int), oftR Ls n = oftM Ls n
  | [], _, n => rfl
  | S :: Ls, h, n => by
    have ih := oftR_eq (fun T hT => h T (List.mem_cons_of_mem _ hT)) n
    unfold oftR oftM at ih ⊢
    rw [List.flatten_cons, List.count_append, List.filter_cons]
    have h1 := (h S List.mem_cons_self).count (a := n)
    by_cases hm : n ∈ S
    · rw [if_pos (by simpa using hm)]
      rw [if_pos hm] at h1
      rw [h1, List.length_cons]
      omega
    · rw [if_neg (by simpa using hm)]
      rw [if_neg hm] at h1
      rw [h1]
      omega
theorem oftM_perm {Ls Ms : List (List Int)} (h : Ls.Perm Ms) (n : Int) : oftM Ls n = oftM Ms n := by
  unfold oftM; rw [(h.flatten).count_eq]
theorem rightsM_perm {b : Bk} {Ls Ms : List (List Int)} (h : Ls.Perm Ms) (k : Nat) : rightsM b Ls k = rightsM b Ms k := by
  unfold rightsM; rw [(h.filter _).length_eq]
theorem bandM_comm (b : Bk) (lo w : Int) (z : Int × Int) (S T : List Int) : bandM b lo w (bandM b lo w z S) T = bandM b lo w (bandM b lo w z T) S := by
  unfold bandM
  generalize inM b S lo w = x
  generalize inM b T lo w = y
  obtain ⟨p, q⟩ := z
  refine Prod.ext ?_ ?_
  · dsimp only
    (repeat' split) <;> omega
  · dsimp only
    (repeat' split) <;> omega
theorem withinM_perm {b : Bk} {Ls Ms : List (List Int)} (h : Ls.Perm Ms) (lo w : Int) : withinM b Ls lo w = withinM b Ms lo w := by
  unfold withinM
  exact h.foldl_eq' (fun x _ y _ z => bandM_comm b lo w z x y) _
theorem statesR_nodup {b : Bk} : ∀ S ∈ statesR b, S.Nodup := fun S hS => (sets_pair _ S (List.mem_filter.1 hS).1).imp fun h e => by omega
theorem statesR_ok' {b : Bk} (hb : BkOk b) (hh : 0 ≤ b.high) : ∀ S ∈ statesR b, SmOk b S := fun S hS => setsB_ok hb hh S (List.mem_filter.1 hS).1
theorem statesR_len {b : Bk} (hb : BkOk b) : (statesR b).length ≤ 65536 := Nat.le_trans (List.length_filter_le _ _) (setsB_len hb)
theorem oft_eq {b : Bk} (hb : BkOk b) (n : Int) : oftR (statesR b) n = oftM (statesM b) n := by
  rw [oftR_eq statesR_nodup, oftM_perm (states_perm hb)]
theorem len_eq {b : Bk} (hb : BkOk b) : (statesR b).length = (statesM b).length := (states_perm hb).length_eq.symm
theorem rights_eq {b : Bk} (hb : BkOk b) (k : Nat) : rightsM b (statesR b) k = rightsM b (statesM b) k := (rightsM_perm (states_perm hb) k).symm
theorem within_eq {b : Bk} (hb : BkOk b) (lo w : Int) : withinM b (statesR b) lo w = withinM b (statesM b) lo w := (withinM_perm (states_perm hb) lo w).symm
end Go.Vel
end
section
set_option linter.all false
namespace Go.Vel
open Go Go.Conc Go.Proofs

section
variable {P : Program} {gm : Nat → Option Nat} {V : KV} {env : List AV} {o : Oper}
theorem q_subW {t yt : TypeId} {x y : Operand} {a b : Int} (ho : o.op = .binOp .sub t x y yt) (hx : opndO gm env x = some (.v (.int .i64 a))) (hy : opndO gm env y = some (.v (.int .i64 b))) : Qk P gm env V o (.v (.int .i64 (IntKind.i64.wrap (a - b)))) := ok_int ho hx hy rfl
end
def stepW (b : Bk) (n : Int) : Bool := decide (0 ≤ n) && decide (n ≤ IntKind.i64.wrap (b.steps - 1))
theorem stepW_eq {b : Bk} (hs : 0 ≤ b.steps ∧ b.steps ≤ 16) (n : Int) : stepW b n = isStepM b n := by
  unfold stepW isStepM
  rw [wrap_i64 (by omega)]
theorem known0 {b : Bk} {t : Bool} (h : knownBar b t = 0) : checkM b = 0 ∧ t = true := by
  unfold knownBar at h
  split at h
  · rename_i hc
    refine ⟨hc, ?_⟩
    cases t with
    | true => rfl
    | false => cases h
  · rename_i hc; exact absurd h hc
theorem step_bar (b : Bk) (n : Int) : knownBar b (stepW b n) = askM b (isStepM b n) := by
  by_cases h : checkM b = 0
  · have hs := (bkOk_of h).steps
    rw [stepW_eq (by omega), knownBar_eq]
  · rw [knownBar_eq]; unfold askM; rw [if_pos h, if_pos h]
theorem steps_bar (b : Bk) (n m : Int) : knownBar b (stepW b n && stepW b m) = askM b (isStepM b n && isStepM b m) := by
  by_cases h : checkM b = 0
  · have hs := (bkOk_of h).steps
    rw [stepW_eq (by omega), stepW_eq (by omega), knownBar_eq]
  · rw [knownBar_eq]; unfold askM; rw [if_pos h, if_pos h]
set_option maxRecDepth 20000 in
set_option maxHeartbeats 1000000 in
theorem isStepA_ok {main : Bool} {T : Goroutine → Hp → Prop} (hT : Shut Tryz.prog main T) {gm : Nat → Option Nat} {b : Bk} {s e : Nat} {n : Int} :
    CallK Tryz.prog T gm 61 [.agg (bookC b s e), intA n] [] (fun r K' => r = boolA (stepW b n) ∧ K' = []) := by
  refine callK_in 10 hT Tryz.func61 fun Y hret => ?_
  refine au [4, 5, 21] ?_
  intro jb hjb
  refine au [2, 3, 4, 5, 1, 7, 9] ?_
  refine TK.a rfl (q_subW rfl rfl rfl) ?_
  refine TK.cl rfl rfl rfl rfl (between_ok hT) ?_
  rintro r1 K2 ⟨rfl, rfl⟩
  refine au [2, 3] ?_
  refine TK.rt hret [] ?_
  exact ⟨rfl, rfl⟩

set_option maxRecDepth 20000 in
set_option maxHeartbeats 2000000 in
theorem statesRef_ok {main : Bool} {T : Goroutine → Hp → Prop} (hT : Shut Tryz.prog main T) {gm : Nat → Option Nat} {b : Bk} {s e : Nat} (hse : s ≠ e) (hn : ∀ x ∈ b.seekers, x.name.size ≤ 1000) (hl : b.seen.length ≤ 1000) (hl2 : b.seekers.length ≤ 1000) :
    CallK Tryz.prog T gm 16 [.agg (bookC b s e)] [(s, saysO b), (e, seenO b)] (fun r K' => r = .tup [intA (statesApi b).1, intA (statesApi b).2] ∧ K' = [(s, saysO b), (e, seenO b)]) := by
  refine callK_in 13 hT Tryz.func16 fun Y hret => ?_
  refine au [4, 5, 21] ?_
  intro jb hjb
  refine au [2, 2, 3, 4, 4, 5, 8] ?_
  refine TK.cl rfl rfl rfl rfl (checkR_ok hT hse hn hl hl2) ?_
  rintro r1 K2 ⟨rfl, rfl⟩
  refine au [2, 3, 4, 5, 1, 6, 3, 20] ?_
  refine ⟨fun hc0 => ?_, fun hc0 => ?_⟩
  · refine au [4, 5, 1, 2, 2, 3] ?_
    refine TK.rt hret [(s, _), (e, _)] ?_
    exact ⟨by unfold statesApi; rw [if_pos (by simpa using hc0)]; rfl, rfl⟩
  have hck : checkM b = 0 := by simpa using hc0
  have hb := bkOk_of hck
  have hh := high_of hck
  refine au [12, 4, 5, 8] ?_
  refine TK.cl rfl rfl rfl rfl (statesR_ok hT hse hb hh) ?_
  rintro r4 K5 ⟨j, P, Q, rfl, hP, hPQ, rfl⟩
  refine au [28, 2, 2, 3] ?_
  refine TK.rt hret [(s, _), (e, _)] ?_
  exact ⟨by unfold statesApi; rw [if_neg (by simpa using hc0), ← len_eq hb, ← hP, List.length_map]; rfl, rfl⟩

set_option maxRecDepth 20000 in
set_option maxHeartbeats 2000000 in
theorem atRef_ok {main : Bool} {T : Goroutine → Hp → Prop} (hT : Shut Tryz.prog main T) {gm : Nat → Option Nat} {b : Bk} {s e : Nat} {n : Int} (hse : s ≠ e) (hn : ∀ x ∈ b.seekers, x.name.size ≤ 1000) (hl : b.seen.length ≤ 1000) (hl2 : b.seekers.length ≤ 1000) :
    CallK Tryz.prog T gm 20 [.agg (bookC b s e), intA n] [(s, saysO b), (e, seenO b)] (fun r K' => r = .tup [intA (atApi b n).1, intA (atApi b n).2] ∧ K' = [(s, saysO b), (e, seenO b)]) := by
  refine callK_in 25 hT Tryz.func20 fun Y hret => ?_
  refine au [4, 5, 21] ?_
  intro jb hjb
  refine au [2, 2, 3, 4] ?_
  refine TK.draw [0, 1, 2, 3, 4, 5, 6, 7, 8, 9] [0, 1, 2, 3, 4, 5, 6, 8, 7, 9] (by kernel_rfl) (by kernel_rfl) ?_
  refine TD.y [2] rfl (hq := q_load rfl rfl TySz.h (List.Mem.head _) rfl) (h := ?_)
  refine TD.y [2] rfl (hq := q_load rfl rfl TySz.h (List.Mem.head _) rfl) (h := ?_)
  refine TD.z [1] rfl (q_move rfl rfl) ?_
  refine TD.cl (pend' := [⟨0, [2], [(_, _)]⟩]) [10, 11] rfl rfl rfl rfl rfl (isStepA_ok hT) (fun r1 K2 h3 => ⟨?_, ?_⟩)
  · rcases h3 with ⟨rfl, rfl⟩
    all_goals simp
  obtain ⟨rfl, rfl⟩ := h3
  try simp only [List.cons_append, List.nil_append]
  refine TD.norm (by simp only [List.set]; rfl) ?_
  refine TD.cl (pend' := []) [9, 12] rfl rfl rfl rfl rfl (knownR_ok hT (t := stepW b n) hse hn hl hl2) (fun r4 K5 h6 => ⟨?_, ?_⟩)
  · rcases h6 with ⟨bar, hbar, ⟨hb0, rfl, rfl⟩ | ⟨hb0, j, P, Q, rfl, hP, hPQ, rfl⟩⟩
    all_goals simp
  rcases h6 with ⟨bar, hbar, ⟨hb0, rfl, rfl⟩ | ⟨hb0, j, P, Q, rfl, hP, hPQ, rfl⟩⟩
  · try simp only [List.cons_append, List.nil_append]
    refine TD.norm (by simp only [List.set]; rfl) ?_
    refine TD.z [13] rfl (q_move rfl rfl) ?_
    refine TD.z [8] rfl (q_extract rfl rfl rfl) ?_
    refine TD.z [8] rfl (q_extract rfl rfl rfl) ?_
    refine TD.as (pend' := [⟨7, [8], []⟩]) [14] rfl rfl (q_assign rfl rfl) ?_
    refine TD.as (pend' := []) [15] rfl rfl (q_assign rfl rfl) ?_
    refine TD.fin ?_
    refine au [4, 4, 5, 1, 6, 3, 20] ?_
    refine ⟨fun hc0 => ?_, fun hc0 => ?_⟩
    · skip
      refine au [4, 5, 1, 2, 2, 3] ?_
      refine TK.rt hret [(s, _), (e, _)] ?_
      exact ⟨by unfold atApi; rw [← step_bar, ← hbar, if_pos hb0]; rfl, rfl⟩
    exact absurd (by simpa using hc0) hb0
  · try simp only [List.cons_append, List.nil_append]
    refine TD.norm (by simp only [List.set]; rfl) ?_
    refine TD.perm (.cons _ (.cons _ (.cons _ List.perm_append_comm))) ?_
    simp only [List.cons_append, List.nil_append]
    rw [hb0] at hbar
    obtain ⟨hck, htr⟩ := known0 hbar.symm
    have hb := bkOk_of hck
    have hh := high_of hck
    have hL : LsIn P Q (statesR b) := ⟨hP, hPQ⟩
    have hlen := statesR_len hb
    have hSm := statesR_ok' hb hh
    have hS1 : ∀ S ∈ statesR b, S.length ≤ 1000 := fun S hS => by have := (hSm S hS).len; omega
    refine TD.z [13] rfl (q_move rfl rfl) ?_
    refine TD.z [8] rfl (q_extract rfl rfl rfl) ?_
    refine TD.z [8] rfl (q_extract rfl rfl rfl) ?_
    refine TD.as (pend' := [⟨7, [8], []⟩]) [14] rfl rfl (q_assign rfl rfl) ?_
    refine TD.as (pend' := []) [15] rfl rfl (q_assign rfl rfl) ?_
    refine TD.fin ?_
    refine au [4, 4, 5, 1, 6, 3, 20] ?_
    refine ⟨fun hc0 => ?_, fun hc0 => ?_⟩
    · simp at hc0
    skip
    refine au [12, 4, 5, 1, 1] ?_
    refine TK.cl rfl rfl rfl rfl (oftenR_ok hT hL hlen hS1) ?_
    rintro r7 K8 ⟨rfl, rfl⟩
    refine au [] ?_
    refine TK.perm (.cons _ List.perm_append_comm) ?_
    refine au [1, 28] ?_
    refine TK.cl rfl rfl rfl rfl (surely_ok hT) ?_
    rintro r10 K11 ⟨rfl, rfl⟩
    refine au [2, 2, 3] ?_
    refine TK.rt hret [(s, _), (e, _)] ?_
    exact ⟨by unfold atApi; rw [← step_bar, ← hbar, if_neg (by decide), oft_eq hb, hL.len, len_eq hb]; rfl, rfl⟩

set_option maxRecDepth 20000 in
set_option maxHeartbeats 2000000 in
theorem wrongRef_ok {main : Bool} {T : Goroutine → Hp → Prop} (hT : Shut Tryz.prog main T) {gm : Nat → Option Nat} {b : Bk} {s e : Nat} {n : Int} (hse : s ≠ e) (hn : ∀ x ∈ b.seekers, x.name.size ≤ 1000) (hl : b.seen.length ≤ 1000) (hl2 : b.seekers.length ≤ 1000) :
    CallK Tryz.prog T gm 29 [.agg (bookC b s e), intA n] [(s, saysO b), (e, seenO b)] (fun r K' => r = .tup [intA (wrongApi b n).1, intA (wrongApi b n).2] ∧ K' = [(s, saysO b), (e, seenO b)]) := by
  refine callK_in 29 hT Tryz.func29 fun Y hret => ?_
  refine au [4, 5, 21] ?_
  intro jb hjb
  refine au [2, 2, 3, 4] ?_
  refine TK.draw [0, 1, 2, 3, 4, 5, 6, 7, 8, 9] [0, 1, 2, 3, 4, 5, 6, 8, 7, 9] (by kernel_rfl) (by kernel_rfl) ?_
  refine TD.y [2] rfl (hq := q_load rfl rfl TySz.h (List.Mem.head _) rfl) (h := ?_)
  refine TD.y [2] rfl (hq := q_load rfl rfl TySz.h (List.Mem.head _) rfl) (h := ?_)
  refine TD.z [1] rfl (q_move rfl rfl) ?_
  refine TD.cl (pend' := [⟨0, [2], [(_, _)]⟩]) [10, 11] rfl rfl rfl rfl rfl (isSeekerR_ok hT (b := b) (s := s) (e := e) hl2) (fun r1 K2 h3 => ⟨?_, ?_⟩)
  · rcases h3 with ⟨rfl, rfl⟩
    all_goals simp
  obtain ⟨rfl, rfl⟩ := h3
  try simp only [List.cons_append, List.nil_append]
  refine TD.norm (by simp only [List.set]; rfl) ?_
  refine TD.cl (pend' := []) [9, 12] rfl rfl rfl rfl rfl (knownR_ok hT (t := isSeekerM b n) hse hn hl hl2) (fun r4 K5 h6 => ⟨?_, ?_⟩)
  · rcases h6 with ⟨bar, hbar, ⟨hb0, rfl, rfl⟩ | ⟨hb0, j, P, Q, rfl, hP, hPQ, rfl⟩⟩
    all_goals simp
  rcases h6 with ⟨bar, hbar, ⟨hb0, rfl, rfl⟩ | ⟨hb0, j, P, Q, rfl, hP, hPQ, rfl⟩⟩
  · try simp only [List.cons_append, List.nil_append]
    refine TD.norm (by simp only [List.set]; rfl) ?_
    refine TD.z [13] rfl (q_move rfl rfl) ?_
    refine TD.z [8] rfl (q_extract rfl rfl rfl) ?_
    refine TD.z [8] rfl (q_extract rfl rfl rfl) ?_
    refine TD.as (pend' := [⟨7, [8], []⟩]) [14] rfl rfl (q_assign rfl rfl) ?_
    refine TD.as (pend' := []) [15] rfl rfl (q_assign rfl rfl) ?_
    refine TD.fin ?_
    refine au [4, 4, 5, 1, 6, 3, 20] ?_
    refine ⟨fun hc0 => ?_, fun hc0 => ?_⟩
    · skip
      refine au [4, 5, 1, 2, 2, 3] ?_
      refine TK.rt hret [(s, _), (e, _)] ?_
      exact ⟨by unfold wrongApi; rw [← knownBar_eq, ← hbar, if_pos hb0]; rfl, rfl⟩
    exact absurd (by simpa using hc0) hb0
  · try simp only [List.cons_append, List.nil_append]
    refine TD.norm (by simp only [List.set]; rfl) ?_
    refine TD.perm (.cons _ (.cons _ (.cons _ List.perm_append_comm))) ?_
    simp only [List.cons_append, List.nil_append]
    rw [hb0] at hbar
    obtain ⟨hck, htr⟩ := known0 hbar.symm
    have hb := bkOk_of hck
    have hh := high_of hck
    have hL : LsIn P Q (statesR b) := ⟨hP, hPQ⟩
    have hlen := statesR_len hb
    have hSm := statesR_ok' hb hh
    have hS1 : ∀ S ∈ statesR b, S.length ≤ 1000 := fun S hS => by have := (hSm S hS).len; omega
    obtain ⟨k, rfl⟩ : ∃ k : Nat, n = k := ⟨n.toNat, by simp only [isSeekerM, Bool.and_eq_true, decide_eq_true_eq] at htr; omega⟩
    have hk : k < b.seekers.length := by simp only [isSeekerM, Bool.and_eq_true, decide_eq_true_eq] at htr; omega
    have hrl := rightsM_le b (statesR b) k
    refine TD.z [13] rfl (q_move rfl rfl) ?_
    refine TD.z [8] rfl (q_extract rfl rfl rfl) ?_
    refine TD.z [8] rfl (q_extract rfl rfl rfl) ?_
    refine TD.as (pend' := [⟨7, [8], []⟩]) [14] rfl rfl (q_assign rfl rfl) ?_
    refine TD.as (pend' := []) [15] rfl rfl (q_assign rfl rfl) ?_
    refine TD.fin ?_
    refine au [4, 4, 5, 1, 6, 3, 20] ?_
    refine ⟨fun hc0 => ?_, fun hc0 => ?_⟩
    · simp at hc0
    skip
    refine au [12, 4, 5, 1, 28, 8, 1, 1] ?_
    refine TK.cl rfl rfl rfl rfl (rightsR_ok hT (s := s) (e := e) hL hlen hb hSm hk) ?_
    rintro r7 K8 ⟨rfl, rfl⟩
    refine au [] ?_
    refine TK.perm (.cons _ (.cons _ List.perm_append_comm)) ?_
    refine TK.a rfl (q_sub rfl rfl rfl (by have := hL.len; omega)) ?_
    refine au [1, 28] ?_
    refine TK.cl rfl rfl rfl rfl (surely_ok hT) ?_
    rintro r10 K11 ⟨rfl, rfl⟩
    refine au [2, 2, 3] ?_
    refine TK.rt hret [(s, _), (e, _)] ?_
    exact ⟨by unfold wrongApi; rw [← knownBar_eq, ← hbar, if_neg (by decide), ← rights_eq hb, hL.len, len_eq hb, Int.toNat_natCast]; rfl, rfl⟩

set_option maxRecDepth 20000 in
set_option maxHeartbeats 4000000 in
theorem withinRef_ok {main : Bool} {T : Goroutine → Hp → Prop} (hT : Shut Tryz.prog main T) {gm : Nat → Option Nat} {b : Bk} {s e : Nat} {lo hi : Int} (hse : s ≠ e) (hn : ∀ x ∈ b.seekers, x.name.size ≤ 1000) (hl : b.seen.length ≤ 1000) (hl2 : b.seekers.length ≤ 1000) :
    CallK Tryz.prog T gm 25 [.agg (bookC b s e), intA lo, intA hi] [(s, saysO b), (e, seenO b)] (fun r K' => r = .tup [.agg [intA (withinApi b lo hi).1.1, intA (withinApi b lo hi).1.2], intA (withinApi b lo hi).2] ∧ K' = [(s, saysO b), (e, seenO b)]) := by
  refine callK_in 35 hT Tryz.func25 fun Y hret => ?_
  refine au [4, 5, 21] ?_
  intro jb hjb
  refine au [22] ?_
  intro jr hjr
  refine au [2, 3, 4] ?_
  refine TK.draw [0, 1, 2, 3, 4, 5, 6, 7, 8, 9, 10, 11, 12, 13, 14] [0, 1, 2, 3, 4, 5, 6, 7, 8, 9, 10, 11, 13, 12, 14] (by kernel_rfl) (by kernel_rfl) ?_
  refine TD.y [3] rfl (hq := q_load rfl rfl TySz.h (List.Mem.head _) rfl) (h := ?_)
  refine TD.y [3] rfl (hq := q_load rfl rfl TySz.h (List.Mem.head _) rfl) (h := ?_)
  refine TD.z [1] rfl (q_move rfl rfl) ?_
  refine TD.cl (pend' := [⟨0, [3], [(_, _)]⟩]) [12, 13] rfl rfl rfl rfl rfl (isStepA_ok hT (b := b) (s := s) (e := e)) (fun r1 K2 h3 => ⟨?_, ?_⟩)
  · rcases h3 with ⟨rfl, rfl⟩
    all_goals simp
  obtain ⟨rfl, rfl⟩ := h3
  try simp only [List.cons_append, List.nil_append]
  refine TD.norm (by simp only [List.set]; rfl) ?_
  refine TD.z [14] rfl (q_move rfl rfl) ?_
  refine TD.sp 15 (fun g1_5 => ?_) (fun g1_5 => ?_)
  · refine TD.y [3, 15] rfl (hq := q_load rfl rfl TySz.h (List.Mem.head _) rfl) (h := ?_)
    refine TD.z [2, 15] rfl (q_move rfl rfl) ?_
    refine TD.cl (pend' := [⟨0, [3], [(_, _)]⟩]) [15, 16, 17] rfl rfl rfl rfl rfl (isStepA_ok hT (b := b) (s := s) (e := e)) (fun r4 K5 h6 => ⟨?_, ?_⟩)
    · rcases h6 with ⟨rfl, rfl⟩
      all_goals simp
    obtain ⟨rfl, rfl⟩ := h6
    try simp only [List.cons_append, List.nil_append]
    refine TD.norm (by simp only [List.set]; rfl) ?_
    refine TD.z [15, 18] rfl (q_pickT rfl rfl rfl) ?_
    refine TD.cl (pend' := []) [11, 19] rfl rfl rfl rfl rfl (knownR_ok hT (t := stepW b hi) hse hn hl hl2) (fun r7 K8 h9 => ⟨?_, ?_⟩)
    · rcases h9 with ⟨bar, hbar, ⟨hb0, rfl, rfl⟩ | ⟨hb0, j, P, Q, rfl, hP, hPQ, rfl⟩⟩
      all_goals simp
    rcases h9 with ⟨bar, hbar, ⟨hb0, rfl, rfl⟩ | ⟨hb0, j, P, Q, rfl, hP, hPQ, rfl⟩⟩
    · try simp only [List.cons_append, List.nil_append]
      refine TD.norm (by simp only [List.set]; rfl) ?_
      refine TD.z [20] rfl (q_move rfl rfl) ?_
      refine TD.z [10] rfl (q_extract rfl rfl rfl) ?_
      refine TD.z [10] rfl (q_extract rfl rfl rfl) ?_
      refine TD.as (pend' := [⟨12, [10], []⟩]) [21] rfl rfl (q_assign rfl rfl) ?_
      refine TD.as (pend' := []) [22] rfl rfl (q_assign rfl rfl) ?_
      refine TD.fin ?_
      refine au [4, 4, 5, 1, 6, 3, 20] ?_
      refine ⟨fun hc0 => ?_, fun hc0 => ?_⟩
      · skip
        refine au [4, 5, 39, 1, 17, 2, 3] ?_
        refine TK.rt hret [(s, _), (e, _)] ?_
        exact ⟨by unfold withinApi; rw [← steps_bar, g1_5, Bool.true_and, ← hbar, if_pos hb0]; rfl, rfl⟩
      exact absurd (by simpa using hc0) hb0
    · try simp only [List.cons_append, List.nil_append]
      refine TD.norm (by simp only [List.set]; rfl) ?_
      refine TD.perm (.cons _ (.cons _ (.cons _ List.perm_append_comm))) ?_
      simp only [List.cons_append, List.nil_append]
      rw [hb0] at hbar
      obtain ⟨hck, htr⟩ := known0 hbar.symm
      have hb := bkOk_of hck
      have hh := high_of hck
      have hL : LsIn P Q (statesR b) := ⟨hP, hPQ⟩
      have hlen := statesR_len hb
      have hSm := statesR_ok' hb hh
      have hS1 : ∀ S ∈ statesR b, S.length ≤ 1000 := fun S hS => by have := (hSm S hS).len; omega
      have hst := hb.steps
      rw [stepW_eq (by omega)] at htr g1_5
      have hlo : 0 ≤ lo ∧ lo < b.steps := by simp only [isStepM, Bool.and_eq_true, decide_eq_true_eq] at g1_5; omega
      have hhi : 0 ≤ hi ∧ hi < b.steps := by simp only [isStepM, Bool.and_eq_true, decide_eq_true_eq] at htr; omega
      rw [← stepW_eq (by omega)] at g1_5
      refine TD.z [20] rfl (q_move rfl rfl) ?_
      refine TD.z [10] rfl (q_extract rfl rfl rfl) ?_
      refine TD.z [10] rfl (q_extract rfl rfl rfl) ?_
      refine TD.as (pend' := [⟨12, [10], []⟩]) [21] rfl rfl (q_assign rfl rfl) ?_
      refine TD.as (pend' := []) [22] rfl rfl (q_assign rfl rfl) ?_
      refine TD.fin ?_
      refine au [4, 4, 5, 1, 6, 3, 20] ?_
      refine ⟨fun hc0 => ?_, fun hc0 => ?_⟩
      · simp at hc0
      skip
      refine au [12, 4] ?_
      refine TK.draw [0, 1, 2, 3, 4, 5, 6, 7, 8, 9] [0, 1, 2, 3, 4, 5, 6, 7, 8, 9] (by kernel_rfl) (by kernel_rfl) ?_
      refine TD.y [3] rfl (hq := q_load rfl rfl TySz.h (List.Mem.head _) rfl) (h := ?_)
      refine TD.z [8] rfl (q_move rfl rfl) ?_
      refine TD.z [1] rfl (q_move rfl rfl) ?_
      refine TD.y [3] rfl (hq := q_load rfl rfl TySz.h (List.Mem.head _) rfl) (h := ?_)
      refine TD.z [1] rfl (q_move rfl rfl) ?_
      refine TD.z [2] rfl (q_move rfl rfl) ?_
      refine TD.cl (pend' := [⟨2, [1], []⟩, ⟨1, [8], []⟩, ⟨0, [3], [(_, _)]⟩]) [30, 31, 32] rfl rfl rfl rfl rfl (wideR_ok hT (b := b) (s := s) (e := e) hst hlo hhi) (fun r10 K11 h12 => ⟨?_, ?_⟩)
      · rcases h12 with ⟨rfl, rfl⟩
        all_goals simp
      obtain ⟨rfl, rfl⟩ := h12
      try simp only [List.cons_append, List.nil_append]
      refine TD.norm (by simp only [List.set]; rfl) ?_
      refine TD.cl (pend' := []) [27, 28, 29, 33] rfl rfl rfl rfl rfl (withinOfR_ok hT (b := b) (s := s) (e := e) hL hlen hst hSm hlo) (fun r13 K14 h15 => ⟨?_, ?_⟩)
      · rcases h15 with ⟨rfl, rfl⟩
        all_goals simp
      obtain ⟨rfl, rfl⟩ := h15
      try simp only [List.cons_append, List.nil_append]
      refine TD.norm (by simp only [List.set]; rfl) ?_
      refine TD.perm (.cons _ List.perm_append_comm) ?_
      simp only [List.cons_append, List.nil_append]
      refine TD.s (pend' := []) [6, 34] rfl rfl (q_store rfl rfl TySz.h rfl rfl (by repeat (first | exact List.Mem.head _ | assumption | apply List.Mem.tail)) rfl) ?_
      refine TD.as (pend' := []) [] rfl rfl (q_assign rfl rfl) ?_
      refine TD.fin ?_
      refine au [] ?_
      refine TK.rt hret [(s, _), (e, _)] ?_
      exact ⟨by unfold withinApi; rw [← steps_bar, g1_5, Bool.true_and, ← hbar, if_neg (by decide), ← within_eq hb]; rfl, rfl⟩
  refine TD.u [3, 15] rfl ?_
  refine TD.u [2, 15] rfl ?_
  refine TD.u [15, 16, 17] rfl ?_
  refine TD.z [15, 18] rfl (q_pickF rfl rfl rfl) ?_
  refine TD.cl (pend' := [⟨6, [2, 15], []⟩, ⟨5, [3, 15], []⟩, ⟨4, [14], []⟩]) [11, 19] rfl rfl rfl rfl rfl (knownR_ok hT (t := false) hse hn hl hl2) (fun r16 K17 h18 => ⟨?_, ?_⟩)
  · rcases h18 with ⟨bar, hbar, ⟨hb0, rfl, rfl⟩ | ⟨hb0, j, P, Q, rfl, hP, hPQ, rfl⟩⟩
    all_goals simp
  rcases h18 with ⟨bar, hbar, ⟨hb0, rfl, rfl⟩ | ⟨hb0, j, P, Q, rfl, hP, hPQ, rfl⟩⟩
  · try simp only [List.cons_append, List.nil_append]
    refine TD.norm (by simp only [List.set]; rfl) ?_
    refine TD.z [20] rfl (q_move rfl rfl) ?_
    refine TD.z [10] rfl (q_extract rfl rfl rfl) ?_
    refine TD.z [10] rfl (q_extract rfl rfl rfl) ?_
    refine TD.as (pend' := [⟨12, [10], []⟩]) [21] rfl rfl (q_assign rfl rfl) ?_
    refine TD.as (pend' := []) [22] rfl rfl (q_assign rfl rfl) ?_
    refine TD.fin ?_
    refine au [4, 4, 5, 1, 6, 3, 20] ?_
    refine ⟨fun hc0 => ?_, fun hc0 => ?_⟩
    · skip
      refine au [4, 5, 39, 1, 17, 2, 3] ?_
      refine TK.rt hret [(s, _), (e, _)] ?_
      exact ⟨by unfold withinApi; rw [← steps_bar, g1_5, Bool.false_and, ← hbar, if_pos hb0]; rfl, rfl⟩
    exact absurd (by simpa using hc0) hb0
  · try simp only [List.cons_append, List.nil_append]
    refine TD.norm (by simp only [List.set]; rfl) ?_
    rw [hb0] at hbar
    exact absurd (known0 hbar.symm).2 (by decide)
end Go.Vel
end
section
set_option linter.all false
namespace Go.Vel
open Go Go.Conc Go.Proofs
/-! ### the specification's first arc is the program's -/
theorem arcK_some {b : Bk} {low k : Nat} : arcK b low = some k ↔ (withinM b (statesM b) low ((k : Int) + 1)).1 > 0 ∧ k < b.steps.toNat ∧ ∀ q < k, ¬ (withinM b (statesM b) low ((q : Int) + 1)).1 > 0 := by
  unfold arcK
  rw [List.find?_range_eq_some]
  simp only [List.mem_range, decide_eq_true_eq, Bool.not_eq_true', decide_eq_false_iff_not]
theorem arcs_mem {b : Bk} {y : Int × Int} : y ∈ arcsOf b (List.range b.steps.toNat) ↔ ∃ low k : Nat, low < b.steps.toNat ∧ arcK b low = some k ∧ y = ((low : Int), (k : Int) + 1) := by
  unfold arcsOf
  rw [List.mem_filterMap]
  constructor
  · rintro ⟨low, h1, h2⟩
    unfold arcA at h2
    cases h5 : arcK b low with
    | none => rw [h5] at h2; exact absurd h2 (by simp)
    | some m =>
      rw [h5] at h2
      exact ⟨low, m, List.mem_range.1 h1, h5, (Option.some.inj h2).symm⟩
  · rintro ⟨low, k, h1, h2, h3⟩
    refine ⟨low, List.mem_range.2 h1, ?_⟩
    unfold arcA
    rw [h2, h3]; rfl
theorem narrow_min {b : Bk} (hne : arcsOf b (List.range b.steps.toNat) ≠ []) : narrowM b ∈ arcsOf b (List.range b.steps.toNat) ∧ ∀ y ∈ arcsOf b (List.range b.steps.toNat), ltArc y (narrowM b) = false := by
  unfold narrowM
  generalize arcsOf b (List.range b.steps.toNat) = l at hne
  cases l with
  | nil => exact absurd rfl hne
  | cons x xs => exact ⟨firstL_mem, firstL_min⟩
theorem narrow_first {b : Bk} {w f : Int} (h1 : 1 ≤ w) (h2 : w ≤ b.steps) (h3 : 0 ≤ f) (h4 : f < b.steps) (hp : (withinM b (statesM b) f w).1 > 0)
    (hno : ∀ w' f' : Int, 1 ≤ w' → w' < w → 0 ≤ f' → f' < b.steps → ¬ (withinM b (statesM b) f' w').1 > 0)
    (hno2 : ∀ f' : Int, 0 ≤ f' → f' < f → ¬ (withinM b (statesM b) f' w).1 > 0) :
    arcsOf b (List.range b.steps.toNat) ≠ [] ∧ narrowM b = (f, w) := by
  obtain ⟨f, rfl⟩ := Int.eq_ofNat_of_zero_le h3
  obtain ⟨k, hk⟩ := Int.eq_ofNat_of_zero_le (show 0 ≤ w - 1 by omega)
  obtain rfl : w = (k : Int) + 1 := by omega
  have hm : ((f : Int), (k : Int) + 1) ∈ arcsOf b (List.range b.steps.toNat) :=
    arcs_mem.2 ⟨f, k, by omega, arcK_some.2 ⟨hp, by omega, fun q hq => hno _ _ (by omega) (by omega) h3 h4⟩, rfl⟩
  have hne : arcsOf b (List.range b.steps.toNat) ≠ [] := List.ne_nil_of_mem hm
  refine ⟨hne, ?_⟩
  obtain ⟨h5, h6⟩ := narrow_min hne
  have h7 := h6 _ hm
  generalize narrowM b = m at h5 h7
  obtain ⟨low, k', h8, h9, rfl⟩ := arcs_mem.1 h5
  obtain ⟨h10, h11, h12⟩ := arcK_some.1 h9
  rw [Bool.eq_false_iff, ne_eq, ltArc_iff] at h7
  simp only at h7
  have hk1 : ¬ k' < k := fun h => hno _ _ (by omega) (by omega) (by omega) (by omega) h10
  have hk2 : k' = k := by
    refine Classical.byContradiction fun h => ?_
    omega
  subst hk2
  have hf1 : ¬ low < f := fun h => hno2 low (by omega) (by omega) h10
  have hf2 : low = f := by omega
  rw [hf2]
theorem narrow_none {b : Bk} (hno : ∀ w' f' : Int, 1 ≤ w' → w' ≤ b.steps → 0 ≤ f' → f' < b.steps → ¬ (withinM b (statesM b) f' w').1 > 0) :
    arcsOf b (List.range b.steps.toNat) = [] := by
  refine List.eq_nil_iff_forall_not_mem.2 fun y hy => ?_
  obtain ⟨low, k, h1, h2, _⟩ := arcs_mem.1 hy
  obtain ⟨h3, h4, _⟩ := arcK_some.1 h2
  exact hno _ _ (by omega) (by omega) (by omega) (by omega) h3
end Go.Vel
end
section
set_option linter.all false
namespace Go.Vel
open Go Go.Conc Go.Proofs

theorem word1 (a x : Int) : (wordM a x == 1) = (x == a) := by
  unfold wordM
  cases h : (x == a)
  · rw [if_neg (by decide)]
    cases h2 : (x == 0)
    · rw [if_neg (by decide)]; rfl
    · rw [if_pos rfl]; rfl
  · rw [if_pos rfl]; rfl
theorem word0 (a x : Int) : (wordM a x == 0) = (!(x == a) && !(x == 0)) := by
  unfold wordM
  cases h : (x == a)
  · rw [if_neg (by decide)]
    cases h2 : (x == 0)
    · rw [if_neg (by decide)]; rfl
    · rw [if_pos rfl]; rfl
  · rw [if_pos rfl]; rfl
theorem oftM_nn (Ls : List (List Int)) (n : Int) : 0 ≤ oftM Ls n := by unfold oftM; exact Int.natCast_nonneg _
set_option maxRecDepth 20000 in
set_option maxHeartbeats 4000000 in
theorem narrowRef_ok {main : Bool} {T : Goroutine → Hp → Prop} (hT : Shut Tryz.prog main T) {gm : Nat → Option Nat} {b : Bk} {s e : Nat} (hse : s ≠ e) (hn : ∀ x ∈ b.seekers, x.name.size ≤ 1000) (hl : b.seen.length ≤ 1000) (hl2 : b.seekers.length ≤ 1000) :
    CallK Tryz.prog T gm 27 [.agg (bookC b s e)] [(s, saysO b), (e, seenO b)] (fun r K' => r = .tup [intA (narrowApi b).1.1, intA (narrowApi b).1.2, boolA (narrowApi b).2.1, intA (narrowApi b).2.2] ∧ K' = [(s, saysO b), (e, seenO b)]) := by
  refine callK_in 39 hT Tryz.func27 fun Y hret => ?_
  refine au [4, 5, 21] ?_
  intro jb hjb
  refine au [2, 2, 2, 2, 3, 4, 5, 8] ?_
  refine TK.cl rfl rfl rfl rfl (knownR_ok hT (t := true) hse hn hl hl2) ?_
  rintro r1 K2 h3
  rcases h3 with ⟨bar, hbar, ⟨hb0, rfl, rfl⟩ | ⟨hb0, j, P, Q, rfl, hP, hPQ, rfl⟩⟩
  · refine au [1, 10, 10, 2, 2, 3, 4, 4, 5, 1, 6, 3, 20] ?_
    refine ⟨fun hc0 => ?_, fun hc0 => ?_⟩
    · skip
      refine au [4, 5, 1, 2, 2, 2, 2, 3] ?_
      refine TK.rt hret [(s, _), (e, _)] ?_
      exact ⟨by unfold narrowApi; rw [if_pos (by rw [← knownBar_eq, ← hbar]; exact hb0), ← knownBar_eq, ← hbar]; rfl, rfl⟩
    exact absurd (by simpa using hc0) hb0
  · refine au [] ?_
    refine TK.perm (.cons _ (.cons _ (.cons _ List.perm_append_comm))) ?_
    rw [hb0] at hbar
    obtain ⟨hck, htr⟩ := known0 hbar.symm
    have hb := bkOk_of hck
    have hh := high_of hck
    have hL : LsIn P Q (statesR b) := ⟨hP, hPQ⟩
    have hlen := statesR_len hb
    have hSm := statesR_ok' hb hh
    have hS1 : ∀ S ∈ statesR b, S.length ≤ 1000 := fun S hS => by have := (hSm S hS).len; omega
    have hst := hb.steps
    refine au [1, 10, 10, 2, 2, 3, 4, 4, 5, 1, 6, 3, 20] ?_
    refine ⟨fun hc0 => ?_, fun hc0 => ?_⟩
    · simp at hc0
    skip
    refine au [12, 4, 4, 5, 2, 3, 13] ?_
    refine TK.maskL [1, 6, 8] ?_
    refine TK.loopN (fun n env K => ∃ (i : Nat), n = b.steps.toNat - i ∧ (i : Int) ≤ b.steps ∧ (∀ w' f' : Int, 1 ≤ w' → w' < (i : Int) + 1 → 0 ≤ f' → f' < b.steps → ¬ (withinM b (statesM b) f' w').1 > 0) ∧ env = slotsA 39 [(1, .ptr jb 0), (6, .row j P.length), (8, intA ((i : Int) + 1))] ∧ K = (j, .row (refsL P) 28 1) :: (s, saysO b) :: (e, seenO b) :: (jb, .cells (bookC b s e) 27 true) :: objsL Q) b.steps.toNat ⟨0, rfl, by omega, fun w' f' _ _ _ _ => by omega, rfl, rfl⟩ fun n env K hI hnext => ?_
    obtain ⟨i, rfl, hi, hno, rfl, rfl⟩ := hI
    refine au [4, 4, 5, 1, 7, 9, 6, 3, 20] ?_
    refine ⟨fun hc1 => ?_, fun hc1 => ?_⟩
    · simp only [decide_eq_true_eq] at hc1
      refine au [12, 4, 13, 4, 5, 2, 3, 13] ?_
      refine TK.maskL [1, 6, 8, 9] ?_
      refine TK.loopN (fun m env K => ∃ (q : Nat), m = b.steps.toNat - q ∧ (q : Int) ≤ b.steps ∧ (∀ f' : Int, 0 ≤ f' → f' < (q : Int) → ¬ (withinM b (statesM b) f' ((i : Int) + 1)).1 > 0) ∧ env = slotsA 39 [(1, .ptr jb 0), (6, .row j P.length), (8, intA ((i : Int) + 1)), (9, intA q)] ∧ K = (j, .row (refsL P) 28 1) :: (s, saysO b) :: (e, seenO b) :: (jb, .cells (bookC b s e) 27 true) :: objsL Q) b.steps.toNat ⟨0, rfl, by omega, fun f' _ _ => by omega, rfl, rfl⟩ fun m env K hI2 hnext2 => ?_
      obtain ⟨q, rfl, hq, hno2, rfl, rfl⟩ := hI2
      refine au [4, 4, 5, 1, 7, 9, 6, 3, 20] ?_
      refine ⟨fun hc2 => ?_, fun hc2 => ?_⟩
      · simp only [decide_eq_true_eq] at hc2
        refine au [12, 4, 13, 4, 5, 8, 1, 1, 1] ?_
        refine TK.cl rfl rfl rfl rfl (withinOfR_ok hT (b := b) (s := s) (e := e) hL hlen hst hSm (lo := q) ⟨by omega, by omega⟩) ?_
        rintro r4 K5 ⟨rfl, rfl⟩
        refine au [] ?_
        refine TK.perm (.cons _ List.perm_append_comm) ?_
        simp only [List.cons_append, List.nil_append]
        refine au [31, 6, 3, 20] ?_
        refine ⟨fun hc3 => ?_, fun hc3 => ?_⟩
        · simp only [decide_eq_true_eq] at hc3
          rw [within_eq hb] at hc3
          have hf := narrow_first (b := b) (w := (i : Int) + 1) (f := q) (by omega) (by omega) (by omega) (by omega) hc3 (fun w1 f1 h1 h2 h3 h4 => hno w1 f1 h1 h2 h3 h4) (fun f1 h1 h2 => hno2 f1 h1 h2)
          refine au [4, 5, 1, 1, 2, 2, 2, 2, 3] ?_
          refine TK.rt hret [(s, _), (e, _)] ?_
          exact ⟨by unfold narrowApi; rw [if_neg (by rw [← knownBar_eq, ← hbar]; decide), if_neg hf.1, hf.2]; rfl, rfl⟩
        simp only [decide_eq_false_iff_not] at hc3
        refine au [12, 14, 5, 1, 23, 2, 3] ?_
        refine TK.maskL [1, 6, 8, 9] ?_
        exact hnext2 _ _ _ (by omega) ⟨q + 1, rfl, by omega, fun f' h1 h2 => by
          by_cases hw : f' < (q : Int)
          · exact hno2 f' h1 hw
          · obtain rfl : f' = (q : Int) := by omega
            rw [← within_eq hb]; exact hc3, rfl, rfl⟩
      simp only [decide_eq_false_iff_not] at hc2
      refine au [16, 14, 5, 1, 23, 2, 3] ?_
      refine TK.maskL [1, 6, 8] ?_
      exact hnext _ _ _ (by omega) ⟨i + 1, rfl, by omega, fun w' f' h1 h2 h3 h4 => by
        by_cases hw : w' < (i : Int) + 1
        · exact hno w' f' h1 hw h3 h4
        · obtain rfl : w' = (i : Int) + 1 := by omega
          exact hno2 f' h3 (by omega), rfl, rfl⟩
    simp only [decide_eq_false_iff_not] at hc1
    have hnone := narrow_none (b := b) fun w1 f1 h1 h2 h3 h4 => hno w1 f1 h1 (by omega) h3 h4
    refine au [16, 4, 5, 2, 2, 2, 2, 3] ?_
    refine TK.rt hret [(s, _), (e, _)] ?_
    exact ⟨by unfold narrowApi; rw [if_neg (by rw [← knownBar_eq, ← hbar]; decide), if_pos hnone]; rfl, rfl⟩

set_option maxRecDepth 20000 in
set_option maxHeartbeats 4000000 in
theorem stepsRef_ok {main : Bool} {T : Goroutine → Hp → Prop} (hT : Shut Tryz.prog main T) {gm : Nat → Option Nat} {b : Bk} {s e : Nat} (hse : s ≠ e) (hn : ∀ x ∈ b.seekers, x.name.size ≤ 1000) (hl : b.seen.length ≤ 1000) (hl2 : b.seekers.length ≤ 1000) :
    CallK Tryz.prog T gm 23 [.agg (bookC b s e)] [(s, saysO b), (e, seenO b)] (fun r K' => (askM b true ≠ 0 ∧ r = .tup [.v (.slice none 0 0), .v (.slice none 0 0), intA (askM b true)] ∧ K' = [(s, saysO b), (e, seenO b)]) ∨ (askM b true = 0 ∧ ∃ j1 j2, r = .tup [.row j1 (pickL b 1 b.steps.toNat).length, .row j2 (pickL b 0 b.steps.toNat).length, intA 0] ∧ K' = [(s, saysO b), (e, seenO b), (j1, .row ((pickL b 1 b.steps.toNat).map intA) 3 1), (j2, .row ((pickL b 0 b.steps.toNat).map intA) 3 1)])) := by
  refine callK_in 44 hT Tryz.func23 fun Y hret => ?_
  refine au [4, 5, 21] ?_
  intro jb hjb
  refine au [2, 2, 2, 3, 4, 5, 8] ?_
  refine TK.cl rfl rfl rfl rfl (knownR_ok hT (t := true) hse hn hl hl2) ?_
  rintro r1 K2 h3
  rcases h3 with ⟨bar, hbar, ⟨hb0, rfl, rfl⟩ | ⟨hb0, j, P, Q, rfl, hP, hPQ, rfl⟩⟩
  · refine au [1, 10, 10, 2, 2, 3, 4, 4, 5, 1, 6, 3, 20] ?_
    refine ⟨fun hc0 => ?_, fun hc0 => ?_⟩
    · skip
      refine au [4, 5, 1, 2, 2, 2, 3] ?_
      refine TK.rt hret [(s, _), (e, _)] ?_
      exact .inl ⟨by rw [← knownBar_eq, ← hbar]; exact hb0, by rw [← knownBar_eq, ← hbar], rfl⟩
    exact absurd (by simpa using hc0) hb0
  · refine au [] ?_
    refine TK.perm (.cons _ (.cons _ (.cons _ List.perm_append_comm))) ?_
    rw [hb0] at hbar
    obtain ⟨hck, htr⟩ := known0 hbar.symm
    have hb := bkOk_of hck
    have hh := high_of hck
    have hL : LsIn P Q (statesR b) := ⟨hP, hPQ⟩
    have hlen := statesR_len hb
    have hSm := statesR_ok' hb hh
    have hS1 : ∀ S ∈ statesR b, S.length ≤ 1000 := fun S hS => by have := (hSm S hS).len; omega
    have hst := hb.steps
    have hlen2 := hL.len
    have hlen3 := len_eq hb
    refine au [1, 10, 10, 2, 2, 3, 4, 4, 5, 1, 6, 3, 20] ?_
    refine ⟨fun hc0 => ?_, fun hc0 => ?_⟩
    · simp at hc0
    skip
    refine au [12, 4, 5, 2, 2] ?_
    refine TK.virt 7 3 1 rfl fun j01 hj01 => ?_
    refine TK.virt 8 3 1 rfl fun j02 hj02 => ?_
    refine au [3, 4, 4, 5, 2, 3, 13] ?_
    refine TK.maskL [1, 5, 7, 8, 9] ?_
    refine TK.loopN (fun n env K => ∃ (i j1 j2 : Nat), n = b.steps.toNat - i ∧ i ≤ b.steps.toNat ∧ env = slotsA 44 [(1, .ptr jb 0), (5, .row j P.length), (7, .row j1 (pickL b 1 i).length), (8, .row j2 (pickL b 0 i).length), (9, intA i)] ∧ K = (j2, .row ((pickL b 0 i).map intA) 3 1) :: (j1, .row ((pickL b 1 i).map intA) 3 1) :: (j, .row (refsL P) 28 1) :: (s, saysO b) :: (e, seenO b) :: (jb, .cells (bookC b s e) 27 true) :: objsL Q) b.steps.toNat ⟨0, j01, j02, rfl, Nat.zero_le _, rfl, rfl⟩ fun n env K hI hnext => ?_
    obtain ⟨i, j1, j2, rfl, hi, rfl, rfl⟩ := hI
    refine au [4, 4, 5, 1, 7, 9, 6, 3, 20] ?_
    refine ⟨fun hc1 => ?_, fun hc1 => ?_⟩
    · simp only [decide_eq_true_eq] at hc1
      have hp1 := pickL_len b 1 i
      have hp2 := pickL_len b 0 i
      have hnn := oftM_nn (statesM b) i
      have hoe := oft_eq hb (i : Int)
      refine au [12, 4, 13, 4, 5, 1, 1] ?_
      refine TK.cl rfl rfl rfl rfl (oftenR_ok hT hL hlen hS1) ?_
      rintro r4 K5 ⟨rfl, rfl⟩
      refine au [] ?_
      refine TK.perm (.cons _ List.perm_append_comm) ?_
      simp only [List.cons_append, List.nil_append]
      refine au [2, 3, 4, 5, 1, 1, 28, 6, 3, 20] ?_
      refine ⟨fun hc2 => ?_, fun hc2 => ?_⟩
      · rw [hoe, hlen2, hlen3] at hc2
        have hw1 := (word1 (statesM b).length (oftM (statesM b) i)).trans hc2
        have hw0 : (wordM (statesM b).length (oftM (statesM b) i) == 0) = false := by rw [word0, hc2]; rfl
        refine au [5, 1, 1] ?_
        refine TK.newR rfl rfl rfl (n_buildSlice (l := [_]) rfl SlEl.h TyZ.h (by decide) (by decide) rfl) (fun _ => putS rfl (by simp only [List.set]; rfl)) fun j7 hj7 => ?_
        refine TK.appR rfl rfl rfl (a_app rfl ApOf.h rfl (by repeat (first | exact List.Mem.head _ | assumption | apply List.Mem.tail)) (by simp <;> omega) rfl (src_row (ln := [_]) (by repeat (first | exact List.Mem.head _ | assumption | apply List.Mem.tail)) (by decide) (by simp) rfl) (by omega) rfl (by unfold maxLen; omega) (by omega)) (fun _ => (by repeat (first | exact Upd.head | apply Upd.tail))) (fun _ => putS rfl (by simp only [List.set]; rfl)) fun j3 => ?_
        refine au [2, 3, 14, 5, 1, 23, 2, 3] ?_
        refine TK.maskL [1, 5, 7, 8, 9] ?_
        refine TK.kp (((j2, _) :: (j3, _) :: (j, _) :: (s, _) :: (e, _) :: (jb, _) :: objsL Q)) ?_
        exact hnext _ _ _ (by omega) ⟨i + 1, j3, j2, rfl, by omega, by rw [pickL_T (w := 1) hw1, pickL_F (w := 0) hw0, List.length_append]; rfl, by rw [pickL_T (w := 1) hw1, pickL_F (w := 0) hw0, List.map_append]; rfl⟩
      rw [hoe, hlen2, hlen3] at hc2
      have hw1 := (word1 (statesM b).length (oftM (statesM b) i)).trans hc2
      refine au [4, 5, 1, 6, 3, 20] ?_
      refine ⟨fun hc3 => ?_, fun hc3 => ?_⟩
      · rw [hoe] at hc3
        simp only [decide_eq_true_eq] at hc3
        have hw0 : (wordM (statesM b).length (oftM (statesM b) i) == 0) = true := by rw [word0, hc2, show (oftM (statesM b) i == 0) = false from beq_eq_false_iff_ne.2 (by omega)]; rfl
        refine au [5, 1, 1] ?_
        refine TK.newR rfl rfl rfl (n_buildSlice (l := [_]) rfl SlEl.h TyZ.h (by decide) (by decide) rfl) (fun _ => putS rfl (by simp only [List.set]; rfl)) fun j8 hj8 => ?_
        refine TK.appR rfl rfl rfl (a_app rfl ApOf.h rfl (by repeat (first | exact List.Mem.head _ | assumption | apply List.Mem.tail)) (by simp <;> omega) rfl (src_row (ln := [_]) (by repeat (first | exact List.Mem.head _ | assumption | apply List.Mem.tail)) (by decide) (by simp) rfl) (by omega) rfl (by unfold maxLen; omega) (by omega)) (fun _ => (by repeat (first | exact Upd.head | apply Upd.tail))) (fun _ => putS rfl (by simp only [List.set]; rfl)) fun j3 => ?_
        refine au [2, 3, 14, 5, 1, 23, 2, 3] ?_
        refine TK.maskL [1, 5, 7, 8, 9] ?_
        refine TK.kp (((j3, _) :: (j1, _) :: (j, _) :: (s, _) :: (e, _) :: (jb, _) :: objsL Q)) ?_
        exact hnext _ _ _ (by omega) ⟨i + 1, j1, j3, rfl, by omega, by rw [pickL_F (w := 1) hw1, pickL_T (w := 0) hw0, List.length_append]; rfl, by rw [pickL_F (w := 1) hw1, pickL_T (w := 0) hw0, List.map_append]; rfl⟩
      rw [hoe] at hc3
      simp only [decide_eq_false_iff_not] at hc3
      have hw0 : (wordM (statesM b).length (oftM (statesM b) i) == 0) = false := by rw [word0, hc2, show (oftM (statesM b) i == 0) = true from beq_iff_eq.2 (by omega)]; rfl
      refine au [12, 14, 5, 1, 23, 2, 3] ?_
      refine TK.maskL [1, 5, 7, 8, 9] ?_
      refine TK.kp (((j2, _) :: (j1, _) :: (j, _) :: (s, _) :: (e, _) :: (jb, _) :: objsL Q)) ?_
      exact hnext _ _ _ (by omega) ⟨i + 1, j1, j2, rfl, by omega, by rw [pickL_F (w := 1) hw1, pickL_F (w := 0) hw0] <;> rfl, by rw [pickL_F (w := 1) hw1, pickL_F (w := 0) hw0] <;> rfl⟩
    simp only [decide_eq_false_iff_not] at hc1
    obtain rfl : i = b.steps.toNat := by omega
    refine au [16, 4, 5, 1, 1, 2, 2, 2, 3] ?_
    refine TK.rt hret [(s, _), (e, _), (j1, _), (j2, _)] ?_
    exact .inr ⟨by rw [← knownBar_eq, ← hbar], j1, j2, rfl, rfl⟩
end Go.Vel
end
section
set_option linter.all false
namespace Go.Vel
open Go Go.Conc Go.Proofs
/-! ### the specification's sorted list -/
def stepS (x : Int) (p : List Int × Bool) (o : Int) : List Int × Bool :=
  ((if (!p.2 && decide (o ≥ x)) = true then p.1 ++ [x] else p.1) ++ (if (o != x) = true then [o] else []), p.2 || decide (o ≥ x))
def finS (x : Int) (p : List Int × Bool) : List Int := if p.2 = true then p.1 else p.1 ++ [x]
def insS (out : List Int) (x : Int) : List Int := finS x (out.foldl (stepS x) ([], false))
def sortS (xs : List Int) : List Int := xs.foldl insS []
theorem stepS_put {x : Int} : ∀ (os : List Int) (nx : List Int), (∀ y ∈ os, x < y) → os.foldl (stepS x) (nx, true) = (nx ++ os, true)
  | [], nx, _ => by rw [List.foldl_nil, List.append_nil]
  | o :: os, nx, h => by
    have h1 : x < o := h o List.mem_cons_self
    rw [List.foldl_cons, show stepS x (nx, true) o = (nx ++ [o], true) from by
      unfold stepS
      rw [if_neg (by simp), if_pos (by simp; omega)]; rfl, stepS_put os _ fun y hy => h y (List.mem_cons_of_mem _ hy), List.append_assoc]
    rfl
theorem stepS_low {x : Int} : ∀ (os : List Int) (nx : List Int), os.Pairwise (· < ·) → finS x (os.foldl (stepS x) (nx, false)) = nx ++ (os.filter (fun y => decide (y < x)) ++ x :: os.filter (fun y => decide (x < y)))
  | [], nx, _ => by simp [finS]
  | o :: os, nx, h => by
    obtain ⟨h1, h2⟩ := List.pairwise_cons.1 h
    rw [List.foldl_cons]
    by_cases hc : o < x
    · rw [show stepS x (nx, false) o = (nx ++ [o], false) from by
        unfold stepS
        rw [if_neg (by simp; omega), if_pos (by simp; omega)]
        simp; omega, stepS_low os _ h2, List.filter_cons, if_pos (by simpa using hc), List.filter_cons, if_neg (by simp; omega)]
      simp
    · have h3 : ∀ y ∈ os, x < y := fun y hy => by have := h1 y hy; omega
      have h4 : os.filter (fun y => decide (y < x)) = [] := List.filter_eq_nil_iff.2 fun y hy => by have := h3 y hy; simp; omega
      have h5 : os.filter (fun y => decide (x < y)) = os := List.filter_eq_self.2 fun y hy => by simpa using h3 y hy
      rw [List.filter_cons, if_neg (by simpa using hc), List.filter_cons, h4, h5]
      by_cases he : o = x
      · subst he
        rw [show stepS o (nx, false) o = (nx ++ [o], true) from by unfold stepS; simp, stepS_put os _ h3]
        simp [finS]
      · rw [show stepS x (nx, false) o = (nx ++ [x] ++ [o], true) from by
          unfold stepS
          rw [if_pos (by simp; omega), if_pos (by simpa using he)]
          simp; omega, stepS_put os _ h3]
        rw [if_pos (by simp; omega)]
        simp [finS]
theorem insS_eq {out : List Int} {x : Int} (h : out.Pairwise (· < ·)) : insS out x = out.filter (fun y => decide (y < x)) ++ x :: out.filter (fun y => decide (x < y)) := by
  unfold insS; rw [stepS_low out [] h]; rfl
theorem insS_asc {out : List Int} {x : Int} (h : out.Pairwise (· < ·)) : (insS out x).Pairwise (· < ·) ∧ ∀ y, y ∈ insS out x ↔ y ∈ out ∨ y = x := by
  rw [insS_eq h]
  refine ⟨?_, fun y => ?_⟩
  · refine List.pairwise_append.2 ⟨h.sublist List.filter_sublist, List.pairwise_cons.2 ⟨fun y hy => by simpa using (List.mem_filter.1 hy).2, h.sublist List.filter_sublist⟩, fun a ha c hc => ?_⟩
    have h1 : a < x := by simpa using (List.mem_filter.1 ha).2
    rcases List.mem_cons.1 hc with rfl | hc
    · exact h1
    · have h2 : x < c := by simpa using (List.mem_filter.1 hc).2
      omega
  · simp only [List.mem_append, List.mem_filter, List.mem_cons, decide_eq_true_eq]
    constructor
    · rintro (⟨h1, _⟩ | rfl | ⟨h1, _⟩)
      · exact .inl h1
      · exact .inr rfl
      · exact .inl h1
    · rintro (h1 | rfl)
      · rcases Int.lt_trichotomy y x with h2 | h2 | h2
        · exact .inl ⟨h1, h2⟩
        · exact .inr (.inl h2)
        · exact .inr (.inr ⟨h1, h2⟩)
      · exact .inr (.inl rfl)
theorem sortS_asc (xs : List Int) : ∀ out : List Int, out.Pairwise (· < ·) → (xs.foldl insS out).Pairwise (· < ·) ∧ ∀ y, y ∈ xs.foldl insS out ↔ y ∈ out ∨ y ∈ xs := by
  induction xs with
  | nil => intro out h; exact ⟨h, fun y => by simp⟩
  | cons x xs ih =>
    intro out h
    obtain ⟨h1, h2⟩ := insS_asc (x := x) h
    obtain ⟨h3, h4⟩ := ih _ h1
    refine ⟨h3, fun y => ?_⟩
    rw [List.foldl_cons, h4, h2, List.mem_cons, or_assoc]
theorem asc_ext : ∀ {xs ys : List Int}, xs.Pairwise (· < ·) → ys.Pairwise (· < ·) → (∀ z, z ∈ xs ↔ z ∈ ys) → xs = ys
  | [], [], _, _, _ => rfl
  | [], y :: ys, _, _, h => absurd ((h y).2 List.mem_cons_self) (by simp)
  | x :: xs, [], _, _, h => absurd ((h x).1 List.mem_cons_self) (by simp)
  | x :: xs, y :: ys, h1, h2, h => by
    obtain ⟨h3, h4⟩ := List.pairwise_cons.1 h1
    obtain ⟨h5, h6⟩ := List.pairwise_cons.1 h2
    have hx := List.mem_cons.1 ((h x).1 List.mem_cons_self)
    have hy := List.mem_cons.1 ((h y).2 List.mem_cons_self)
    have he : x = y := by
      rcases hx with e | e
      · exact e
      · rcases hy with f | f
        · exact f.symm
        · have := h5 _ e; have := h3 _ f; omega
    subst he
    congr 1
    refine asc_ext h4 h6 fun z => ⟨fun hz => ?_, fun hz => ?_⟩
    · rcases List.mem_cons.1 ((h z).1 (List.mem_cons_of_mem _ hz)) with e | e
      · have := h3 _ hz; omega
      · exact e
    · rcases List.mem_cons.1 ((h z).2 (List.mem_cons_of_mem _ hz)) with e | e
      · have := h5 _ hz; omega
      · exact e
end Go.Vel
end
section
set_option linter.all false
namespace Go.Vel
open Go Go.Conc Go.Proofs
/-! ### the program's counts are the specification's -/
theorem compact_asc {d : Array Int} (hs : ∀ i j : Nat, i ≤ j → j < d.size → d[i]! ≤ d[j]!) : ∀ m : Nat, m ≤ d.size → (Lib.compactUpTo d m).Pairwise (· < ·) ∧ ∀ y, y ∈ Lib.compactUpTo d m ↔ ∃ i, i < m ∧ d[i]! = y
  | 0, _ => ⟨by simp [Lib.compactUpTo], fun y => by simp [Lib.compactUpTo]⟩
  | m + 1, hm => by
    obtain ⟨h1, h2⟩ := compact_asc hs m (by omega)
    rw [Lib.compactUpTo_succ]
    cases hk : Lib.keeps d m
    · rw [if_neg (by decide), List.append_nil]
      refine ⟨h1, fun y => (h2 y).trans ⟨fun ⟨i, a, c⟩ => ⟨i, by omega, c⟩, fun ⟨i, a, c⟩ => ?_⟩⟩
      by_cases hi : i < m
      · exact ⟨i, hi, c⟩
      · obtain rfl : i = m := by omega
        simp [Lib.keeps] at hk
        exact ⟨i - 1, by omega, by rw [← c]; first | exact hk.2.symm | exact hk.2⟩
    · rw [if_pos rfl]
      refine ⟨List.pairwise_append.2 ⟨h1, List.pairwise_singleton _ _, fun a ha c hc => ?_⟩, fun y => ?_⟩
      · obtain ⟨i, hi, rfl⟩ := (h2 a).1 ha
        rw [List.mem_singleton.1 hc]
        have h3 := hs i (m - 1) (by omega) (by omega)
        have h4 := hs (m - 1) m (by omega) (by omega)
        simp [Lib.keeps] at hk
        rcases hk with hk | hk
        · omega
        · omega
      · rw [List.mem_append, h2, List.mem_singleton]
        constructor
        · rintro (⟨i, a, c⟩ | rfl)
          · exact ⟨i, by omega, c⟩
          · exact ⟨m, by omega, rfl⟩
        · rintro ⟨i, a, c⟩
          by_cases hi : i < m
          · exact .inl ⟨i, hi, c⟩
          · obtain rfl : i = m := by omega
            exact .inr c.symm
theorem counts_eq {b : Bk} (hb : BkOk b) : sortS ((statesR b).map fun S => (S.length : Int)) = countsM b := by
  unfold sortS countsM Lib.compact
  obtain ⟨h1, h2⟩ := sortS_asc ((statesR b).map fun S => (S.length : Int)) [] List.Pairwise.nil
  generalize hz : sortI ((statesM b).map fun S => (S.length : Int)) = zs
  have hp : zs.Perm ((statesM b).map fun S => (S.length : Int)) := by rw [← hz]; exact List.mergeSort_perm _ _
  have hso : zs.Pairwise (fun x y => decide (x ≤ y) = true) := by
    rw [← hz]
    exact List.pairwise_mergeSort (fun a c e h3 h4 => by simp only [decide_eq_true_eq] at *; omega) (fun a c => by simp only [Bool.or_eq_true, decide_eq_true_eq]; omega) _
  have hs : ∀ i j : Nat, i ≤ j → j < zs.toArray.size → zs.toArray[i]! ≤ zs.toArray[j]! := fun i j hij hj => by
    rw [List.size_toArray] at hj
    rw [getElem!_pos zs.toArray i (by simp; omega), getElem!_pos zs.toArray j (by simpa using hj)]
    rcases Nat.lt_or_eq_of_le hij with h | rfl
    · have := List.pairwise_iff_getElem.1 hso i j (by omega) hj h
      simpa using this
    · exact Int.le_refl _
  obtain ⟨h5, h6⟩ := compact_asc hs zs.length (by simp)
  refine asc_ext h1 h5 fun z => ?_
  rw [h2, h6]
  have h7 : z ∈ (statesR b).map (fun S => (S.length : Int)) ↔ z ∈ zs := by
    rw [hp.mem_iff]
    exact ((states_perm hb).map _).mem_iff.symm
  rw [h7]
  constructor
  · rintro (h | h)
    · exact absurd h (by simp)
    · obtain ⟨i, hi, rfl⟩ := List.mem_iff_getElem.1 h
      exact ⟨i, hi, by rw [getElem!_pos zs.toArray i (by simpa using hi)]; simp⟩
  · rintro ⟨i, hi, rfl⟩
    refine .inr ?_
    rw [getElem!_pos zs.toArray i (by simpa using hi)]
    simp
end Go.Vel
end
section
set_option linter.all false
namespace Go.Vel
open Go Go.Conc Go.Proofs
theorem stepS_len {x : Int} : ∀ (L : List Int) (p : List Int × Bool), (L.foldl (stepS x) p).1.length ≤ p.1.length + 2 * L.length
  | [], p => Nat.le_add_right _ _
  | o :: L, p => by
    have h := stepS_len (x := x) L (stepS x p o)
    have h2 : (stepS x p o).1.length ≤ p.1.length + 2 := by
      unfold stepS
      rw [List.length_append]
      have h3 : (if (o != x) = true then [o] else []).length ≤ 1 := by split <;> simp
      have h4 : (if (!p.2 && decide (o ≥ x)) = true then p.1 ++ [x] else p.1).length ≤ p.1.length + 1 := by split <;> simp
      omega
    rw [List.foldl_cons, List.length_cons]
    omega
theorem insS_len {out : List Int} {x : Int} : (insS out x).length ≤ 2 * out.length + 1 := by
  unfold insS finS
  have h := stepS_len (x := x) out ([], false)
  simp only [List.length_nil] at h
  split
  · omega
  · rw [List.length_append]; simp only [List.length_singleton]; omega
theorem sub_len {x : Int} : ∀ out : List Int, (out.filter fun y => decide (y < x)).length + (out.filter fun y => decide (x < y)).length ≤ out.length
  | [] => Nat.le_refl _
  | o :: out => by
    have ih := sub_len (x := x) out
    rw [List.filter_cons, List.filter_cons, List.length_cons]
    by_cases h1 : o < x
    · rw [if_pos (by simpa using h1), if_neg (by simp; omega), List.length_cons]; omega
    · rw [if_neg (by simpa using h1)]
      split
      · rw [List.length_cons]; omega
      · omega
theorem sortS_len' : ∀ (xs out : List Int), out.Pairwise (· < ·) → (xs.foldl insS out).length ≤ out.length + xs.length
  | [], out, _ => Nat.le_refl _
  | x :: xs, out, h => by
    have h1 := sortS_len' xs (insS out x) (insS_asc h).1
    have h2 : (insS out x).length ≤ out.length + 1 := by
      rw [insS_eq h, List.length_append, List.length_cons]
      have := sub_len (x := x) out
      omega
    rw [List.foldl_cons, List.length_cons]
    omega
theorem sortS_len (xs : List Int) : (sortS xs).length ≤ xs.length := by
  have := sortS_len' xs [] List.Pairwise.nil
  simpa [sortS] using this
theorem fold_take {α β : Type} {f : β → α → β} {p : β} {L : List α} {q : Nat} (h : q < L.length) : (L.take (q + 1)).foldl f p = f ((L.take q).foldl f p) L[q] := by
  rw [List.take_add_one, List.getElem?_eq_getElem h, List.foldl_append]; rfl
theorem sortS_succ {xs : List Int} {i : Nat} (h : i < xs.length) : sortS (xs.take (i + 1)) = insS (sortS (xs.take i)) xs[i] := fold_take h
end Go.Vel
end
section
set_option linter.all false
namespace Go.Vel
open Go Go.Conc Go.Proofs
instance : Cal Tryz.prog 100 := ⟨by kernel_rfl⟩
instance : Cal Tryz.prog 101 := ⟨by kernel_rfl⟩
instance : Cal Tryz.prog 16 := ⟨by kernel_rfl⟩
instance : Cal Tryz.prog 18 := ⟨by kernel_rfl⟩
instance : Cal Tryz.prog 20 := ⟨by kernel_rfl⟩
instance : Cal Tryz.prog 23 := ⟨by kernel_rfl⟩
instance : Cal Tryz.prog 25 := ⟨by kernel_rfl⟩
instance : Cal Tryz.prog 27 := ⟨by kernel_rfl⟩
instance : Cal Tryz.prog 29 := ⟨by kernel_rfl⟩
instance : Cal Tryz.prog 69 := ⟨by kernel_rfl⟩
instance : Cal Tryz.prog 95 := ⟨by kernel_rfl⟩
instance : Cal Tryz.prog 99 := ⟨by kernel_rfl⟩
instance {a0 a1 a2 a3 a4 a5 a6 a7 a8 a9 a10 a11 a12 a13 a14 a15 a16 a17 a18 a19 a20 a21 a22 a23 a24 : Oper} : RgL #[a0, a1, a2, a3, a4, a5, a6, a7, a8, a9, a10, a11, a12, a13, a14, a15, a16, a17, a18, a19, a20, a21, a22, a23, a24] [0, 1, 2, 3, 4, 5, 6, 7, 8, 9, 10, 11, 12, 13, 14, 15, 16, 17, 18, 19, 20, 21, 22, 23, 24] := ⟨rfl⟩
instance {a0 a1 a2 a3 a4 a5 a6 a7 a8 a9 a10 a11 a12 a13 a14 a15 a16 a17 a18 a19 a20 a21 a22 a23 a24 a25 a26 a27 a28 : Oper} : RgL #[a0, a1, a2, a3, a4, a5, a6, a7, a8, a9, a10, a11, a12, a13, a14, a15, a16, a17, a18, a19, a20, a21, a22, a23, a24, a25, a26, a27, a28] [0, 1, 2, 3, 4, 5, 6, 7, 8, 9, 10, 11, 12, 13, 14, 15, 16, 17, 18, 19, 20, 21, 22, 23, 24, 25, 26, 27, 28] := ⟨rfl⟩
end Go.Vel
end
section
set_option linter.all false
namespace Go.Vel
open Go Go.Conc Go.Proofs

theorem insS_F {S : List Int} {x : Int} (h : (!(S.foldl (stepS x) ([], false)).2) = true) : insS S x = (S.foldl (stepS x) ([], false)).1 ++ [x] := by
  unfold insS finS
  rw [if_neg (by simpa using h)]
theorem insS_T {S : List Int} {x : Int} (h : (!(S.foldl (stepS x) ([], false)).2) = false) : insS S x = (S.foldl (stepS x) ([], false)).1 := by
  unfold insS finS
  rw [if_pos (by simpa using h)]
theorem step_c {S : List Int} {q : Nat} (h : q < S.length) {x : Int} {a c d : Bool} (h1 : (!((S.take q).foldl (stepS x) ([], false)).2) = a) (h2 : a = true → decide (S[q] ≥ x) = c) (h3 : (S[q] != x) = d) :
    (S.take (q + 1)).foldl (stepS x) ([], false) = ((if (a && c) = true then ((S.take q).foldl (stepS x) ([], false)).1 ++ [x] else ((S.take q).foldl (stepS x) ([], false)).1) ++ (if d = true then [S[q]] else []), ((S.take q).foldl (stepS x) ([], false)).2 || (a && c)) := by
  rw [fold_take h]
  generalize (S.take q).foldl (stepS x) ([], false) = p at h1
  unfold stepS
  rw [h1, h3]
  cases a with
  | false => simp only [Bool.not_eq_false'] at h1; rw [h1]; rfl
  | true => simp only [Bool.not_eq_true'] at h1; rw [h1, h2 rfl]; rfl
theorem introw_at {xs : List Int} {e : TypeId} {i : Nat} (h : i < xs.length) : takeO (.row (xs.map intA) e 1) ((i : Int).toNat * 1) 1 = some [intA xs[i]] := by
  simp only [takeO, AObj.look, Int.toNat_natCast, Nat.mul_one]
  rw [if_pos ⟨by omega, by rw [List.length_map]; omega⟩, List.drop_eq_getElem_cons (by rw [List.length_map]; exact h), List.take_succ_cons, List.take_zero, List.getElem_map]

theorem lens_succ {P : List (Nat × List Int)} {i : Nat} (h : i < P.length) : (P.map fun x => (x.2.length : Int)).take (i + 1) = (P.map fun x => (x.2.length : Int)).take i ++ [(P[i].2.length : Int)] := by
  rw [List.take_add_one, List.getElem?_eq_getElem (by simpa using h), List.getElem_map]; rfl
def cntL (b : Bk) : List Int := if askM b true = 0 then countsM b else []
set_option maxRecDepth 20000 in
set_option maxHeartbeats 4000000 in
theorem sortedR_ok {main : Bool} {T : Goroutine → Hp → Prop} (hT : Shut Tryz.prog main T) {gm : Nat → Option Nat} {xs : List Int} {j : Nat} (hlen : xs.length ≤ 65536) :
    CallK Tryz.prog T gm 69 [.row j xs.length] [(j, .row (xs.map intA) 3 1)] (fun r K' => ∃ j2, r = .row j2 (sortS xs).length ∧ K' = [(j2, .row ((sortS xs).map intA) 3 1), (j, .row (xs.map intA) 3 1)]) := by
  refine callK_in 67 hT Tryz.func69 fun Y hret => ?_
  refine au [4, 5, 2, 3, 4, 5, 2] ?_
  refine TK.virt 3 3 1 rfl fun j01 hj01 => ?_
  refine au [3, 4, 4, 5, 2, 3, 13] ?_
  refine TK.maskL [0, 3, 4] ?_
  refine TK.loopN (fun n env K => ∃ (i jo : Nat), n = xs.length - i ∧ i ≤ xs.length ∧ env = slotsA 67 [(0, .row j xs.length), (3, .row jo (sortS (xs.take i)).length), (4, intA i)] ∧ K = [(jo, .row (((sortS (xs.take i))).map intA) 3 1), (j, .row (xs.map intA) 3 1)]) xs.length ⟨0, j01, rfl, Nat.zero_le _, rfl, rfl⟩ fun n env K hI hnext => ?_
  obtain ⟨i, jo, rfl, hi, rfl, rfl⟩ := hI
  refine au [4, 4, 5, 1, 1, 28, 6, 3, 20] ?_
  refine ⟨fun hc0 => ?_, fun hc0 => ?_⟩
  · simp only [decide_eq_true_eq] at hc0
    have hil : i < xs.length := by omega
    have hsl := sortS_len (xs.take i)
    rw [List.length_take] at hsl
    refine au [12, 4, 13, 4, 5, 2] ?_
    refine TK.virt 5 3 1 rfl fun j02 hj02 => ?_
    refine au [3, 4, 5, 2, 3, 4, 4, 5, 2, 3, 13] ?_
    refine TK.maskL [0, 3, 4, 5, 6, 7] ?_
    refine TK.loopN (fun m env K => ∃ (q jn : Nat), m = (sortS (xs.take i)).length - q ∧ q ≤ (sortS (xs.take i)).length ∧ env = slotsA 67 [(0, .row j xs.length), (3, .row jo (sortS (xs.take i)).length), (4, intA i), (5, .row jn (((sortS (xs.take i)).take q).foldl (stepS xs[i]) ([], false)).1.length), (6, boolA (((sortS (xs.take i)).take q).foldl (stepS xs[i]) ([], false)).2), (7, intA q)] ∧ K = [(jn, .row (((((sortS (xs.take i)).take q).foldl (stepS xs[i]) ([], false)).1).map intA) 3 1), (jo, .row (((sortS (xs.take i))).map intA) 3 1), (j, .row (xs.map intA) 3 1)]) (sortS (xs.take i)).length ⟨0, j02, rfl, Nat.zero_le _, rfl, rfl⟩ fun m env K hI2 hnext2 => ?_
    obtain ⟨q, jn, rfl, hq, rfl, rfl⟩ := hI2
    refine au [4, 4, 5, 1, 1, 28, 6, 3, 20] ?_
    refine ⟨fun hc1 => ?_, fun hc1 => ?_⟩
    · simp only [decide_eq_true_eq] at hc1
      have hqs : q < (sortS (xs.take i)).length := by omega
      have hpl := stepS_len (x := xs[i]) ((sortS (xs.take i)).take q) ([], false)
      rw [List.length_take, List.length_nil] at hpl
      refine au [12, 4, 13, 4, 4] ?_
      refine TK.draw [0, 1, 2, 3, 4, 5, 6, 7, 8, 9, 10, 11, 12] [0, 1, 2, 3, 4, 5, 6, 7, 8, 9, 10, 11, 12] (by kernel_rfl) (by kernel_rfl) ?_
      refine TD.z [6] rfl (q_move rfl rfl) ?_
      refine TD.z [20] rfl (q_not rfl rfl) ?_
      refine TD.z [21] rfl (q_move rfl rfl) ?_
      refine TD.sp 22 (fun g10_3 => ?_) (fun g10_3 => ?_)
      · refine TD.z [3, 22] rfl (q_move rfl rfl) ?_
        refine TD.z [7, 22] rfl (q_move rfl rfl) ?_
        refine TD.y [22, 23, 24] rfl (hq := q_indexRow rfl rfl rfl SlEl.h (List.Mem.head _) (by omega) (by omega)) (h := ?_)
        refine TD.y [22, 25] rfl (hq := q_load1 rfl rfl TySz.h (List.Mem.head _) (introw_at hqs)) (h := ?_)
        refine TD.z [0, 22] rfl (q_move rfl rfl) ?_
        refine TD.z [4, 22] rfl (q_move rfl rfl) ?_
        refine TD.y [22, 27, 28] rfl (hq := q_indexRow rfl rfl rfl SlEl.h (List.Mem.head _) (by omega) (by omega)) (h := ?_)
        refine TD.y [22, 29] rfl (hq := q_load1 rfl rfl TySz.h (List.Mem.head _) (introw_at hil)) (h := ?_)
        refine TD.z [22, 26, 30] rfl (q_cmp rfl rfl rfl rfl) ?_
        refine TD.z [22, 31] rfl (q_pickT rfl rfl rfl) ?_
        refine TD.fin ?_
        refine au [20] ?_
        refine ⟨fun hc2 => ?_, fun hc2 => ?_⟩
        · refine au [4, 5, 1, 1, 1, 37] ?_
          refine TK.a rfl (q_load1 rfl rfl TySz.h (by repeat (first | exact List.Mem.head _ | assumption | apply List.Mem.tail)) (introw_at hil)) ?_
          refine TK.newR rfl rfl rfl (n_buildSlice (l := [_]) rfl SlEl.h TyZ.h (by decide) (by decide) rfl) (fun _ => putS rfl (by simp only [List.set]; rfl)) fun j1 hj1 => ?_
          refine TK.appR rfl rfl rfl (a_app rfl ApOf.h rfl (by repeat (first | exact List.Mem.head _ | assumption | apply List.Mem.tail)) (by simp <;> omega) rfl (src_row (ln := [_]) (by repeat (first | exact List.Mem.head _ | assumption | apply List.Mem.tail)) (by decide) (by simp) rfl) (by omega) rfl (by unfold maxLen; omega) (by omega)) (fun _ => (by repeat (first | exact Upd.head | apply Upd.tail))) (fun _ => putS rfl (by simp only [List.set]; rfl)) fun j3 => ?_
          refine au [2, 3, 5, 2, 3, 4] ?_
          refine TK.draw [0, 1, 2, 3, 4, 5, 6, 7, 8] [0, 1, 2, 3, 4, 5, 6, 7, 8] (by kernel_rfl) (by kernel_rfl) ?_
          refine TD.z [3] rfl (q_move rfl rfl) ?_
          refine TD.z [7] rfl (q_move rfl rfl) ?_
          refine TD.y [40, 41] rfl (hq := q_indexRow rfl rfl rfl SlEl.h (List.Mem.head _) (by omega) (by omega)) (h := ?_)
          refine TD.y [42] rfl (hq := q_load1 rfl rfl TySz.h (List.Mem.head _) (introw_at hqs)) (h := ?_)
          refine TD.z [0] rfl (q_move rfl rfl) ?_
          refine TD.z [4] rfl (q_move rfl rfl) ?_
          refine TD.y [44, 45] rfl (hq := q_indexRow rfl rfl rfl SlEl.h (List.Mem.head _) (by omega) (by omega)) (h := ?_)
          refine TD.y [46] rfl (hq := q_load1 rfl rfl TySz.h (List.Mem.head _) (introw_at hil)) (h := ?_)
          refine TD.z [43, 47] rfl (q_cmp rfl rfl rfl rfl) ?_
          refine TD.fin ?_
          refine au [20] ?_
          refine ⟨fun hc3 => ?_, fun hc3 => ?_⟩
          · refine au [5, 1, 1, 1, 37] ?_
            refine TK.a rfl (q_load1 rfl rfl TySz.h (by repeat (first | exact List.Mem.head _ | assumption | apply List.Mem.tail)) (introw_at hqs)) ?_
            refine TK.newR rfl rfl rfl (n_buildSlice (l := [_]) rfl SlEl.h TyZ.h (by decide) (by decide) rfl) (fun _ => putS rfl (by simp only [List.set]; rfl)) fun j2 hj2 => ?_
            refine TK.appR rfl rfl rfl (a_app rfl ApOf.h rfl (by repeat (first | exact List.Mem.head _ | assumption | apply List.Mem.tail)) (by simp <;> omega) rfl (src_row (ln := [_]) (by repeat (first | exact List.Mem.head _ | assumption | apply List.Mem.tail)) (by decide) (by simp) rfl) (by omega) rfl (by unfold maxLen; omega) (by omega)) (fun _ => (by repeat (first | exact Upd.head | apply Upd.tail))) (fun _ => putS rfl (by simp only [List.set]; rfl)) fun j4 => ?_
            refine au [2, 3, 14, 5, 1, 23, 2, 3] ?_
            refine TK.maskL [0, 3, 4, 5, 6, 7] ?_
            refine TK.kp [(j4, _), (jo, _), (j, _)] ?_
            have hst := step_c hqs (x := xs[i]) (a := true) (c := true) (d := true) (by simpa using g10_3) (fun _ => by simpa using hc2) (by simpa using hc3)
            exact hnext2 _ _ _ (by omega) ⟨q + 1, j4, rfl, by omega, by rw [hst]; simp only [Bool.and_true, Bool.and_false, Bool.false_and, Bool.true_and, if_true, if_false, Bool.false_eq_true, List.length_append, List.append_nil, Bool.not_true, Bool.not_false, Bool.or_true, Bool.or_false, Bool.true_or, Bool.false_or]; rfl, by rw [hst]; simp [intA]⟩
          refine au [12, 14, 5, 1, 23, 2, 3] ?_
          refine TK.maskL [0, 3, 4, 5, 6, 7] ?_
          refine TK.kp [(j3, _), (jo, _), (j, _)] ?_
          have hst := step_c hqs (x := xs[i]) (a := true) (c := true) (d := false) (by simpa using g10_3) (fun _ => by simpa using hc2) (by simpa using hc3)
          exact hnext2 _ _ _ (by omega) ⟨q + 1, j3, rfl, by omega, by rw [hst]; simp only [Bool.and_true, Bool.and_false, Bool.false_and, Bool.true_and, if_true, if_false, Bool.false_eq_true, List.length_append, List.append_nil, Bool.not_true, Bool.not_false, Bool.or_true, Bool.or_false, Bool.true_or, Bool.false_or]; rfl, by rw [hst]; simp [intA]⟩
        refine au [12, 4] ?_
        refine TK.draw [0, 1, 2, 3, 4, 5, 6, 7, 8] [0, 1, 2, 3, 4, 5, 6, 7, 8] (by kernel_rfl) (by kernel_rfl) ?_
        refine TD.z [3] rfl (q_move rfl rfl) ?_
        refine TD.z [7] rfl (q_move rfl rfl) ?_
        refine TD.y [40, 41] rfl (hq := q_indexRow rfl rfl rfl SlEl.h (List.Mem.head _) (by omega) (by omega)) (h := ?_)
        refine TD.y [42] rfl (hq := q_load1 rfl rfl TySz.h (List.Mem.head _) (introw_at hqs)) (h := ?_)
        refine TD.z [0] rfl (q_move rfl rfl) ?_
        refine TD.z [4] rfl (q_move rfl rfl) ?_
        refine TD.y [44, 45] rfl (hq := q_indexRow rfl rfl rfl SlEl.h (List.Mem.head _) (by omega) (by omega)) (h := ?_)
        refine TD.y [46] rfl (hq := q_load1 rfl rfl TySz.h (List.Mem.head _) (introw_at hil)) (h := ?_)
        refine TD.z [43, 47] rfl (q_cmp rfl rfl rfl rfl) ?_
        refine TD.fin ?_
        refine au [20] ?_
        refine ⟨fun hc3 => ?_, fun hc3 => ?_⟩
        · refine au [5, 1, 1, 1, 37] ?_
          refine TK.a rfl (q_load1 rfl rfl TySz.h (by repeat (first | exact List.Mem.head _ | assumption | apply List.Mem.tail)) (introw_at hqs)) ?_
          refine TK.newR rfl rfl rfl (n_buildSlice (l := [_]) rfl SlEl.h TyZ.h (by decide) (by decide) rfl) (fun _ => putS rfl (by simp only [List.set]; rfl)) fun j3 hj3 => ?_
          refine TK.appR rfl rfl rfl (a_app rfl ApOf.h rfl (by repeat (first | exact List.Mem.head _ | assumption | apply List.Mem.tail)) (by simp <;> omega) rfl (src_row (ln := [_]) (by repeat (first | exact List.Mem.head _ | assumption | apply List.Mem.tail)) (by decide) (by simp) rfl) (by omega) rfl (by unfold maxLen; omega) (by omega)) (fun _ => (by repeat (first | exact Upd.head | apply Upd.tail))) (fun _ => putS rfl (by simp only [List.set]; rfl)) fun j4 => ?_
          refine au [2, 3, 14, 5, 1, 23, 2, 3] ?_
          refine TK.maskL [0, 3, 4, 5, 6, 7] ?_
          refine TK.kp [(j4, _), (jo, _), (j, _)] ?_
          have hst := step_c hqs (x := xs[i]) (a := true) (c := false) (d := true) (by simpa using g10_3) (fun _ => by simpa using hc2) (by simpa using hc3)
          exact hnext2 _ _ _ (by omega) ⟨q + 1, j4, rfl, by omega, by rw [hst]; simp only [Bool.and_true, Bool.and_false, Bool.false_and, Bool.true_and, if_true, if_false, Bool.false_eq_true, List.length_append, List.append_nil, Bool.not_true, Bool.not_false, Bool.or_true, Bool.or_false, Bool.true_or, Bool.false_or]; rfl, by rw [hst]; simp [intA]⟩
        refine au [12, 14, 5, 1, 23, 2, 3] ?_
        refine TK.maskL [0, 3, 4, 5, 6, 7] ?_
        refine TK.kp [(jn, _), (jo, _), (j, _)] ?_
        have hst := step_c hqs (x := xs[i]) (a := true) (c := false) (d := false) (by simpa using g10_3) (fun _ => by simpa using hc2) (by simpa using hc3)
        exact hnext2 _ _ _ (by omega) ⟨q + 1, jn, rfl, by omega, by rw [hst]; simp only [Bool.and_true, Bool.and_false, Bool.false_and, Bool.true_and, if_true, if_false, Bool.false_eq_true, List.length_append, List.append_nil, Bool.not_true, Bool.not_false, Bool.or_true, Bool.or_false, Bool.true_or, Bool.false_or]; rfl, by rw [hst]; simp [intA]⟩
      refine TD.u [3, 22] rfl ?_
      refine TD.u [7, 22] rfl ?_
      refine TD.u [22, 23, 24] rfl ?_
      refine TD.u [22, 25] rfl ?_
      refine TD.u [0, 22] rfl ?_
      refine TD.u [4, 22] rfl ?_
      refine TD.u [22, 27, 28] rfl ?_
      refine TD.u [22, 29] rfl ?_
      refine TD.u [22, 26, 30] rfl ?_
      refine TD.z [22, 31] rfl (q_pickF rfl rfl rfl) ?_
      refine TD.fin ?_
      refine au [19, 12, 4] ?_
      refine TK.draw [0, 1, 2, 3, 4, 5, 6, 7, 8] [0, 1, 2, 3, 4, 5, 6, 7, 8] (by kernel_rfl) (by kernel_rfl) ?_
      refine TD.z [3] rfl (q_move rfl rfl) ?_
      refine TD.z [7] rfl (q_move rfl rfl) ?_
      refine TD.y [40, 41] rfl (hq := q_indexRow rfl rfl rfl SlEl.h (List.Mem.head _) (by omega) (by omega)) (h := ?_)
      refine TD.y [42] rfl (hq := q_load1 rfl rfl TySz.h (List.Mem.head _) (introw_at hqs)) (h := ?_)
      refine TD.z [0] rfl (q_move rfl rfl) ?_
      refine TD.z [4] rfl (q_move rfl rfl) ?_
      refine TD.y [44, 45] rfl (hq := q_indexRow rfl rfl rfl SlEl.h (List.Mem.head _) (by omega) (by omega)) (h := ?_)
      refine TD.y [46] rfl (hq := q_load1 rfl rfl TySz.h (List.Mem.head _) (introw_at hil)) (h := ?_)
      refine TD.z [43, 47] rfl (q_cmp rfl rfl rfl rfl) ?_
      refine TD.fin ?_
      refine au [20] ?_
      refine ⟨fun hc3 => ?_, fun hc3 => ?_⟩
      · refine au [5, 1, 1, 1, 37] ?_
        refine TK.a rfl (q_load1 rfl rfl TySz.h (by repeat (first | exact List.Mem.head _ | assumption | apply List.Mem.tail)) (introw_at hqs)) ?_
        refine TK.newR rfl rfl rfl (n_buildSlice (l := [_]) rfl SlEl.h TyZ.h (by decide) (by decide) rfl) (fun _ => putS rfl (by simp only [List.set]; rfl)) fun j4 hj4 => ?_
        refine TK.appR rfl rfl rfl (a_app rfl ApOf.h rfl (by repeat (first | exact List.Mem.head _ | assumption | apply List.Mem.tail)) (by simp <;> omega) rfl (src_row (ln := [_]) (by repeat (first | exact List.Mem.head _ | assumption | apply List.Mem.tail)) (by decide) (by simp) rfl) (by omega) rfl (by unfold maxLen; omega) (by omega)) (fun _ => (by repeat (first | exact Upd.head | apply Upd.tail))) (fun _ => putS rfl (by simp only [List.set]; rfl)) fun j4 => ?_
        refine au [2, 3, 14, 5, 1, 23, 2, 3] ?_
        refine TK.maskL [0, 3, 4, 5, 6, 7] ?_
        refine TK.kp [(j4, _), (jo, _), (j, _)] ?_
        have hst := step_c hqs (x := xs[i]) (a := false) (c := true) (d := true) (by simpa using g10_3) (fun h => by cases h) (by simpa using hc3)
        exact hnext2 _ _ _ (by omega) ⟨q + 1, j4, rfl, by omega, by rw [hst]; simp only [Bool.and_true, Bool.and_false, Bool.false_and, Bool.true_and, if_true, if_false, Bool.false_eq_true, List.length_append, List.append_nil, Bool.not_true, Bool.not_false, Bool.or_true, Bool.or_false, Bool.true_or, Bool.false_or]; rfl, by rw [hst]; simp [intA]⟩
      refine au [12, 14, 5, 1, 23, 2, 3] ?_
      refine TK.maskL [0, 3, 4, 5, 6, 7] ?_
      refine TK.kp [(jn, _), (jo, _), (j, _)] ?_
      have hst := step_c hqs (x := xs[i]) (a := false) (c := true) (d := false) (by simpa using g10_3) (fun h => by cases h) (by simpa using hc3)
      exact hnext2 _ _ _ (by omega) ⟨q + 1, jn, rfl, by omega, by rw [hst]; simp only [Bool.and_true, Bool.and_false, Bool.false_and, Bool.true_and, if_true, if_false, Bool.false_eq_true, List.length_append, List.append_nil, Bool.not_true, Bool.not_false, Bool.or_true, Bool.or_false, Bool.true_or, Bool.false_or]; rfl, by rw [hst]; simp [intA]⟩
    simp only [decide_eq_false_iff_not] at hc1
    obtain rfl : q = (sortS (xs.take i)).length := by omega
    rw [List.take_length] at *
    have hpl := stepS_len (x := xs[i]) (sortS (xs.take i)) ([], false)
    rw [List.length_nil] at hpl
    refine au [16, 4, 4, 5, 1, 30, 3, 20] ?_
    refine ⟨fun k4 => ?_, fun k4 => ?_⟩
    · refine au [5, 1, 1, 1, 37] ?_
      refine TK.a rfl (q_load1 rfl rfl TySz.h (by repeat (first | exact List.Mem.head _ | assumption | apply List.Mem.tail)) (introw_at hil)) ?_
      refine TK.newR rfl rfl rfl (n_buildSlice (l := [_]) rfl SlEl.h TyZ.h (by decide) (by decide) rfl) (fun _ => putS rfl (by simp only [List.set]; rfl)) fun j5 hj5 => ?_
      refine TK.appR rfl rfl rfl (a_app rfl ApOf.h rfl (by repeat (first | exact List.Mem.head _ | assumption | apply List.Mem.tail)) (by simp <;> omega) rfl (src_row (ln := [_]) (by repeat (first | exact List.Mem.head _ | assumption | apply List.Mem.tail)) (by decide) (by simp) rfl) (by omega) rfl (by unfold maxLen; omega) (by omega)) (fun _ => (by repeat (first | exact Upd.head | apply Upd.tail))) (fun _ => putS rfl (by simp only [List.set]; rfl)) fun j5 => ?_
      refine au [2, 3, 5, 1, 2, 3, 14, 5, 1, 23, 2, 3] ?_
      refine TK.maskL [0, 3, 4] ?_
      refine TK.kp [(j5, _), (j, _)] ?_
      exact hnext _ _ _ (by omega) ⟨i + 1, j5, rfl, by omega, by rw [sortS_succ hil, insS_F k4, List.length_append]; rfl, by rw [sortS_succ hil, insS_F k4, List.map_append]; rfl⟩
    refine au [12, 5, 1, 2, 3, 14, 5, 1, 23, 2, 3] ?_
    refine TK.maskL [0, 3, 4] ?_
    refine TK.kp [(jn, _), (j, _)] ?_
    exact hnext _ _ _ (by omega) ⟨i + 1, jn, rfl, by omega, by rw [sortS_succ hil, insS_T k4]; rfl, by rw [sortS_succ hil, insS_T k4]⟩
  simp only [decide_eq_false_iff_not] at hc0
  obtain rfl : i = xs.length := by omega
  refine au [16, 4, 5, 1, 2, 3] ?_
  refine TK.rt hret [(jo, _), (j, _)] ?_
  exact ⟨jo, by rw [List.take_length], by rw [List.take_length]⟩

set_option maxRecDepth 20000 in
set_option maxHeartbeats 4000000 in
theorem countsRef_ok {main : Bool} {T : Goroutine → Hp → Prop} (hT : Shut Tryz.prog main T) {gm : Nat → Option Nat} {b : Bk} {s e : Nat} (hse : s ≠ e) (hn : ∀ x ∈ b.seekers, x.name.size ≤ 1000) (hl : b.seen.length ≤ 1000) (hl2 : b.seekers.length ≤ 1000) :
    CallK Tryz.prog T gm 18 [.agg (bookC b s e)] [(s, saysO b), (e, seenO b)] (fun r K' => ∃ j, r = .tup [.row j (cntL b).length, intA (askM b true)] ∧ K' = [(s, saysO b), (e, seenO b), (j, .row ((cntL b).map intA) 3 1)]) := by
  refine callK_in 30 hT Tryz.func18 fun Y hret => ?_
  refine au [4, 5, 21] ?_
  intro jb hjb
  refine au [2, 2, 3, 4, 5, 8] ?_
  refine TK.cl rfl rfl rfl rfl (knownR_ok hT (t := true) hse hn hl hl2) ?_
  rintro r1 K2 h3
  rcases h3 with ⟨bar, hbar, ⟨hb0, rfl, rfl⟩ | ⟨hb0, j, P, Q, rfl, hP, hPQ, rfl⟩⟩
  · refine au [] ?_
    obtain ⟨P, hPe⟩ : ∃ P : List (Nat × List Int), [] = P := ⟨_, rfl⟩
    obtain ⟨Q, hQe⟩ : ∃ Q : List (Nat × List Int), [] = Q := ⟨_, rfl⟩
    have hPl : P.length ≤ 65536 := by rw [← hPe]; decide
    have hP1 : ∀ x ∈ P, x.2.length ≤ 1000 := by rw [← hPe]; simp
    refine au [1, 10, 10, 2, 2] ?_
    refine TK.virt 4 28 1 rfl fun j hj => ?_
    refine au [3, 4, 5, 2] ?_
    refine TK.virt 6 3 1 rfl fun j60 hj60 => ?_
    refine au [3, 4, 4, 5, 2, 3, 13] ?_
    refine TK.maskL [4, 5, 6, 7] ?_
    refine TK.loopN (fun n env K => ∃ (i jo : Nat), n = P.length - i ∧ i ≤ P.length ∧ env = slotsA 30 [(4, .row j P.length), (5, intA (askM b true)), (6, .row jo ((P.map fun x => (x.2.length : Int)).take i).length), (7, intA i)] ∧ K = (jo, .row (((P.map fun x => (x.2.length : Int)).take i).map intA) 3 1) :: (j, .row (refsL P) 28 1) :: (s, saysO b) :: (e, seenO b) :: (jb, .cells (bookC b s e) 27 true) :: objsL Q) P.length (by subst hPe; subst hQe; rw [← knownBar_eq, ← hbar]; exact ⟨0, j60, rfl, Nat.zero_le _, rfl, rfl⟩) fun n env K hI hnext => ?_
    obtain ⟨i, jo, rfl, hi, rfl, rfl⟩ := hI
    refine au [4, 4, 5, 1, 1, 28, 6, 3, 20] ?_
    refine ⟨fun hc0 => ?_, fun hc0 => ?_⟩
    · simp only [decide_eq_true_eq] at hc0
      have hil : i < P.length := by omega
      have hPi := hP1 P[i] (List.getElem_mem hil)
      have htl : ((P.map fun x => (x.2.length : Int)).take i).length ≤ i := by rw [List.length_take]; omega
      refine au [12, 4, 13, 5, 1, 1, 1, 37] ?_
      refine TK.a rfl (q_load1 rfl rfl TySz.h (by repeat (first | exact List.Mem.head _ | assumption | apply List.Mem.tail)) (refs_at (k := i) hil rfl)) ?_
      refine au [28] ?_
      refine TK.newR rfl rfl rfl (n_buildSlice (l := [_]) rfl SlEl.h TyZ.h (by decide) (by decide) rfl) (fun _ => putS rfl (by simp only [List.set]; rfl)) fun j4 hj4 => ?_
      refine TK.appR rfl rfl rfl (a_app rfl ApOf.h rfl (by repeat (first | exact List.Mem.head _ | assumption | apply List.Mem.tail)) (by simp <;> omega) rfl (src_row (ln := [_]) (by repeat (first | exact List.Mem.head _ | assumption | apply List.Mem.tail)) (by decide) (by simp) rfl) (by omega) rfl (by unfold maxLen; omega) (by omega)) (fun _ => (by repeat (first | exact Upd.head | apply Upd.tail))) (fun _ => putS rfl (by simp only [List.set]; rfl)) fun j3 => ?_
      refine au [2, 3, 14, 5, 1, 23, 2, 3] ?_
      refine TK.maskL [4, 5, 6, 7] ?_
      refine TK.kp (((j3, _) :: (j, _) :: (s, _) :: (e, _) :: (jb, _) :: objsL Q)) ?_
      exact hnext _ _ _ (by omega) ⟨i + 1, j3, rfl, by omega, by rw [lens_succ hil, List.length_append]; rfl, by rw [lens_succ hil, List.map_append]; rfl⟩
    simp only [decide_eq_false_iff_not] at hc0
    obtain rfl : i = P.length := by omega
    rw [List.take_of_length_le (by simp)]
    refine au [16, 4, 5, 1] ?_
    refine TK.cl rfl rfl rfl rfl (sortedR_ok hT (xs := P.map fun x => (x.2.length : Int)) (by simpa using hPl)) ?_
    rintro r5 K6 ⟨j2, rfl, rfl⟩
    refine au [1, 2, 2, 3] ?_
    refine TK.rt hret [(s, _), (e, _), (j2, _)] ?_
    have hcl : sortS (P.map fun x => (x.2.length : Int)) = cntL b := by unfold cntL; rw [← knownBar_eq, ← hbar, if_neg hb0, ← hPe]; rfl
    exact ⟨j2, by rw [hcl], by rw [hcl]⟩
  · refine au [] ?_
    refine TK.perm (.cons _ (.cons _ (.cons _ List.perm_append_comm))) ?_
    rw [hb0] at hbar
    obtain ⟨hck, htr⟩ := known0 hbar.symm
    have hb := bkOk_of hck
    have hh := high_of hck
    have hL : LsIn P Q (statesR b) := ⟨hP, hPQ⟩
    have hlen := statesR_len hb
    have hSm := statesR_ok' hb hh
    have hS1 : ∀ S ∈ statesR b, S.length ≤ 1000 := fun S hS => by have := (hSm S hS).len; omega
    have hPl : P.length ≤ 65536 := by have := congrArg List.length hP; rw [List.length_map] at this; omega
    have hP1 : ∀ x ∈ P, x.2.length ≤ 1000 := fun x hx => hS1 _ (by rw [← hP]; exact List.mem_map_of_mem hx)
    refine au [1, 10, 10, 2, 2] ?_
    have h0 : askM b true = 0 := by rw [← knownBar_eq]; exact hbar.symm
    refine au [3, 4, 5, 2] ?_
    refine TK.virt 6 3 1 rfl fun j60 hj60 => ?_
    refine au [3, 4, 4, 5, 2, 3, 13] ?_
    refine TK.maskL [4, 5, 6, 7] ?_
    refine TK.loopN (fun n env K => ∃ (i jo : Nat), n = P.length - i ∧ i ≤ P.length ∧ env = slotsA 30 [(4, .row j P.length), (5, intA (askM b true)), (6, .row jo ((P.map fun x => (x.2.length : Int)).take i).length), (7, intA i)] ∧ K = (jo, .row (((P.map fun x => (x.2.length : Int)).take i).map intA) 3 1) :: (j, .row (refsL P) 28 1) :: (s, saysO b) :: (e, seenO b) :: (jb, .cells (bookC b s e) 27 true) :: objsL Q) P.length (by rw [h0]; exact ⟨0, j60, rfl, Nat.zero_le _, rfl, rfl⟩) fun n env K hI hnext => ?_
    obtain ⟨i, jo, rfl, hi, rfl, rfl⟩ := hI
    refine au [4, 4, 5, 1, 1, 28, 6, 3, 20] ?_
    refine ⟨fun hc0 => ?_, fun hc0 => ?_⟩
    · simp only [decide_eq_true_eq] at hc0
      have hil : i < P.length := by omega
      have hPi := hP1 P[i] (List.getElem_mem hil)
      have htl : ((P.map fun x => (x.2.length : Int)).take i).length ≤ i := by rw [List.length_take]; omega
      refine au [12, 4, 13, 5, 1, 1, 1, 37] ?_
      refine TK.a rfl (q_load1 rfl rfl TySz.h (by repeat (first | exact List.Mem.head _ | assumption | apply List.Mem.tail)) (refs_at (k := i) hil rfl)) ?_
      refine au [28] ?_
      refine TK.newR rfl rfl rfl (n_buildSlice (l := [_]) rfl SlEl.h TyZ.h (by decide) (by decide) rfl) (fun _ => putS rfl (by simp only [List.set]; rfl)) fun j8 hj8 => ?_
      refine TK.appR rfl rfl rfl (a_app rfl ApOf.h rfl (by repeat (first | exact List.Mem.head _ | assumption | apply List.Mem.tail)) (by simp <;> omega) rfl (src_row (ln := [_]) (by repeat (first | exact List.Mem.head _ | assumption | apply List.Mem.tail)) (by decide) (by simp) rfl) (by omega) rfl (by unfold maxLen; omega) (by omega)) (fun _ => (by repeat (first | exact Upd.head | apply Upd.tail))) (fun _ => putS rfl (by simp only [List.set]; rfl)) fun j3 => ?_
      refine au [2, 3, 14, 5, 1, 23, 2, 3] ?_
      refine TK.maskL [4, 5, 6, 7] ?_
      refine TK.kp (((j3, _) :: (j, _) :: (s, _) :: (e, _) :: (jb, _) :: objsL Q)) ?_
      exact hnext _ _ _ (by omega) ⟨i + 1, j3, rfl, by omega, by rw [lens_succ hil, List.length_append]; rfl, by rw [lens_succ hil, List.map_append]; rfl⟩
    simp only [decide_eq_false_iff_not] at hc0
    obtain rfl : i = P.length := by omega
    rw [List.take_of_length_le (by simp)]
    refine au [16, 4, 5, 1] ?_
    refine TK.cl rfl rfl rfl rfl (sortedR_ok hT (xs := P.map fun x => (x.2.length : Int)) (by simpa using hPl)) ?_
    rintro r9 K10 ⟨j2, rfl, rfl⟩
    refine au [1, 2, 2, 3] ?_
    refine TK.rt hret [(s, _), (e, _), (j2, _)] ?_
    have hcl : sortS (P.map fun x => (x.2.length : Int)) = cntL b := by
      unfold cntL
      rw [if_pos h0, ← counts_eq hb, ← hP, List.map_map]; rfl
    exact ⟨j2, by rw [hcl], by rw [hcl]⟩
end Go.Vel
end
