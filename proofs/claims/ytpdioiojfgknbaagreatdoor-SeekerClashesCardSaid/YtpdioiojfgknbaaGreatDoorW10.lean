/- The law SeekerClashes: the seekers that clash cannot all be right; with any one of them left out they can; and no smaller such list is there. It holds of every program, tape and world that the statements name, as each theorem says. -/
import Derived.Test.YtpdioiojfgknbaaGreatDoorW5
import Derived.Test.YtpdioiojfgknbaaGreatDoorW6
import Derived.Test.YtpdioiojfgknbaaGreatDoorW7
import Derived.Test.YtpdioiojfgknbaaGreatDoorW8
import Derived.Test.YtpdioiojfgknbaaGreatDoorW9
section
set_option linter.all false
set_option maxRecDepth 20000
set_option maxHeartbeats 60000000
namespace Go.Vel
open Go Go.Conc Go.Proofs
instance : EqG Tryz.prog 30 := ⟨by kernel_rfl⟩
instance : EqG Tryz.prog 42 := ⟨by kernel_rfl⟩
instance : FlatF Tryz.prog 30 [(9, 0), (3, 1), (3, 2), (28, 3), (4, 4)] := ⟨by kernel_rfl⟩
instance : FlatF Tryz.prog 42 [(3, 0), (4, 1)] := ⟨by kernel_rfl⟩
instance : Und Tryz.prog 28 (.int .i64) := ⟨by kernel_rfl⟩
end Go.Vel
end
section
set_option linter.all false
set_option maxRecDepth 20000
set_option maxHeartbeats 60000000
namespace Go.Vel
open Go Go.Conc Go.Proofs

section
variable {P : Program} {gm : Nat → Option Nat} {T : Goroutine → Hp → Prop} {Y : KX P gm T} {ds : List Nat} {k : List Item} {env env' : List AV} {K : KV}
/-- In a row of one, a slice of nothing is one of cells. -/
theorem TK.nilRow {t e : TypeId} {x : Option Addr} {s j : Nat} {K' : Nat → KV} (hu : ∀ j', Upd K j (.row [.v (.slice x 0 0)] t s) j (.row [.sl j' 0 0] t s) (K' j')) (h : ∀ j', j' ∉ keys K → TK Y ds k env ((j', .cells [] e false) :: K' j')) : TK Y ds k env K := fun A hA φ H ts h1 h2 h3 h4 h5 h6 => by
 have hk : A.length ∉ keys K := fun hm => absurd (hA.view.lt hm) (Nat.lt_irrefl _)
 have hH := h5.virtO (o := .cells [] e false) (fun φ n hl => absurd rfl hl) (fun hl => hl rfl)
 have hag := agr_upd3 φ A.length ⟨0, 0, 0⟩
 have hlen : (A ++ [AObj.cells [] e false]).length = A.length + 1 := by simp
 have hds : dsC (upd3 φ A.length ⟨0, 0, 0⟩) ds = dsC φ ds := by
  unfold dsC
  exact List.map_congr_left fun d hd' => by rw [hag d (h4 d hd')]
 have hj := hA.view.get (hu A.length).mem
 have hjl : j < A.length := (List.getElem?_eq_some_iff.1 hj).1
 have hj2 : (A ++ [AObj.cells [] e false])[j]? = some (.row [.v (.slice x 0 0)] t s) := by rw [List.getElem?_append_left hjl]; exact hj
 have hstep := hA.step (.push hA.view hA.nd (.cells [] e false))
 have hstep2 := hstep.step (.set hstep.view hstep.nd (Upd.tail (hu A.length)))
 rw [← hds]
 refine h _ hk _ hstep2 _ H ts (h1.trans hag h2) (by simp; omega) (by simpa using h3.mono hag (by omega)) (fun d hd => by have := h4 d hd; simp; omega) (hH.turn hj2 (fun ho => ?_) (fun h => h) (fun _ => rfl) (fun hs => hs)) (by simpa using h6.mono hag (by omega))
 obtain ⟨q0, q1, q2⟩ := ho
 refine ⟨fun hc => absurd (q0 hc) (by simp), q1, fun hc => ?_⟩
 obtain ⟨cur, p1, p2, p3, p4, p5⟩ := q2 hc
 refine ⟨cur, p1, p2, p3, by simpa using p4, fun t' a ha => ?_⟩
 cases t' with
 | zero =>
  simp only [List.getElem?_cons_zero, Option.some.injEq] at ha
  subst ha
  obtain ⟨y, hy, hr⟩ := p5 0 _ rfl
  refine ⟨y, hy, ?_⟩
  rw [inv_v hr]
  exact .sl (by simp) (Nat.zero_le _) fun hp => absurd hp (Nat.lt_irrefl _)
 | succ t' => simp at ha
end

/-! ### the specification's sets -/
def shortB (most : Int) (l : List Int) : Bool := decide ((l.length : Int) < most)
def moreM (most n : Int) (A : List (List Int)) : List (List Int) := (A.filter (shortB most)).map (· ++ [n])
def setsM (most : Int) : Nat → List (List Int)
 | 0 => [[]]
 | n + 1 => setsM most n ++ moreM most n (setsM most n).reverse
theorem moreM_app (most n : Int) (A B : List (List Int)) : moreM most n (A ++ B) = moreM most n A ++ moreM most n B := by simp [moreM]
theorem moreM_T {most n : Int} {l : List Int} (h : shortB most l = true) : moreM most n [l] = [l ++ [n]] := by simp [moreM, h]
theorem moreM_F {most n : Int} {l : List Int} (h : shortB most l = false) : moreM most n [l] = [] := by simp [moreM, h]
theorem moreM_len (most n : Int) (A : List (List Int)) : (moreM most n A).length ≤ A.length := by
 unfold moreM; rw [List.length_map]; exact List.length_filter_le _ _
theorem setsM_len (most : Int) : ∀ n, (setsM most n).length ≤ 2 ^ n
 | 0 => Nat.le_refl _
 | n + 1 => by
  have h1 := setsM_len most n
  have h2 := moreM_len most n (setsM most n).reverse
  rw [List.length_reverse] at h2
  show (setsM most n ++ _).length ≤ _
  rw [List.length_append, Nat.pow_succ]
  omega
theorem pow_le16 {n : Nat} (h : n ≤ 16) : 2 ^ n ≤ 65536 := Nat.le_trans (Nat.pow_le_pow_right (by decide) h) (by decide)
theorem setsM_short {most : Int} (hm : 0 ≤ most) : ∀ n, ∀ l ∈ setsM most n, (l.length : Int) ≤ most
 | 0, l, hl => by rw [List.mem_singleton.1 hl]; simpa using hm
 | n + 1, l, hl => by
  rcases List.mem_append.1 hl with hl | hl
  ·exact setsM_short hm n l hl
  ·obtain ⟨x, hx, rfl⟩ := List.mem_map.1 hl
   have := of_decide_eq_true (List.mem_filter.1 hx).2
   simp; omega
theorem takeR_succ {α : Type} (A : List α) {q : Nat} (h : q < A.length) : A.reverse.take (q + 1) = A.reverse.take q ++ [A[A.length - 1 - q]] := by
 rw [List.take_add_one, List.getElem?_eq_getElem (by simpa using h), List.getElem_reverse]; rfl

theorem refs_at {P : List (Nat × List Int)} {k : Nat} {n : Int} (hk : k < P.length) (h : n = (k : Int)) {e : TypeId} {sz : Nat} : takeO (.row (refsL P) e sz) (n.toNat * 1) 1 = some [.sl P[k].1 0 P[k].2.length] := by
 subst h
 rw [Int.toNat_natCast, Nat.mul_one]
 exact refs_take hk
theorem ints_one (xs : List Int) : (xs.map intA).all oneA = true := by
 rw [List.all_map]; exact List.all_eq_true.2 fun _ _ => rfl
theorem map_snd_get {P : List (Nat × List Int)} {A B : List (List Int)} (h : P.map (·.2) = A ++ B) {k : Nat} (hk : k < A.length) (hk2 : k < P.length) : P[k].2 = A[k] := by
 have h1 : (P.map (·.2))[k]? = some P[k].2 := by simp [hk2]
 rw [h, List.getElem?_append_left hk, List.getElem?_eq_getElem hk] at h1
 exact (Option.some.inj h1).symm

end Go.Vel
end
section
set_option linter.all false
set_option maxRecDepth 20000
set_option maxHeartbeats 60000000
namespace Go.Vel
open Go Go.Conc Go.Proofs

section
variable {P : Program} {gm : Nat → Option Nat} {T : Goroutine → Hp → Prop}
theorem Kstep.permR {K K' K2 : KV} {A A' : List AObj} (h : Kstep K A K' A') (hp : K'.Perm K2) : Kstep K A K2 A' :=
 ⟨h.view.sub fun x hx => hp.symm.subset hx, (keys_perm hp).nodup_iff.1 h.nd, fun i hi => h.own i ((keys_perm hp).symm.subset hi), h.kept, h.len⟩
theorem Kstep.permL {K K' K2 : KV} {A A' : List AObj} (h : Kstep K A K' A') (hp : K.Perm K2) : Kstep K2 A K' A' :=
 ⟨h.view, h.nd, fun i hi => (h.own i hi).imp (fun h => (keys_perm hp).subset h) id, fun j hj hn => h.kept j hj fun hm => hn ((keys_perm hp).subset hm), h.len⟩
/-- A contract that changes no object, with more objects beside. -/
theorem CallK.frameP {g : FuncId} {args : List AV} {K Kb R : KV} {Q : AV → Prop} (h : CallK P T gm g args K (fun r K' => Q r ∧ K' = K)) (hp : Kb.Perm (K ++ R)) : CallK P T gm g args Kb (fun r K' => Q r ∧ K' = Kb) := by
 intro A hv hn
 have hv2 : View (K ++ R) A := hv.sub fun x hx => hp.symm.subset hx
 have hn2 := (keys_perm hp).nodup_iff.1 hn
 have hn3 := hn2
 rw [keys_app] at hn3
 refine (h A (hv2.sub fun x hx => List.mem_append_left _ hx) (List.nodup_append.1 hn3).1).mono ?_
 rintro r A' ⟨K', hk, hq, rfl⟩
 refine ⟨Kb, ?_, hq, rfl⟩
 have hs : Split (K' ++ R) K' R := by
  have key : ∀ (K : KV), Split (K ++ R) K R := fun K => by
   induction K with
   | nil => exact .none _
   | cons x K ih => exact .left ih
  exact key K'
 exact ((hk.frame hs hv2 hn2).permR hp.symm).permL hp.symm
end
theorem high_of {b : Bk} (h : checkM b = 0) : 0 ≤ b.high := by
 unfold checkM at h
 split at h
 ·rename_i h1; rw [h] at h1; cases h1
 ·rename_i h1
  obtain ⟨q1, q2, q3, q4, q5, q6, q7⟩ := numbers_range (b := b) (by simpa using h1)
  omega
theorem setsM_mem {most : Int} : ∀ n, ∀ l ∈ setsM most n, ∀ x ∈ l, 0 ≤ x ∧ x < n
 | 0, l, hl, x, hx => by rw [List.mem_singleton.1 hl] at hx; cases hx
 | n + 1, l, hl, x, hx => by
  rcases List.mem_append.1 hl with hl | hl
  ·have := setsM_mem n l hl x hx; omega
  ·obtain ⟨y, hy, rfl⟩ := List.mem_map.1 hl
   rcases List.mem_append.1 hx with hx | hx
   ·have := setsM_mem n y (List.mem_reverse.1 (List.mem_filter.1 hy).1) x hx; omega
   ·rw [List.mem_singleton.1 hx]; omega
def setsB (b : Bk) : List (List Int) := setsM b.high b.steps.toNat
def statesR (b : Bk) : List (List Int) := (setsB b).filter (canM b)
theorem setsB_ok {b : Bk} (hb : BkOk b) (hh : 0 ≤ b.high) : ∀ l ∈ setsB b, SmOk b l := fun l hl => by
 refine ⟨?_, fun x hx => ?_⟩
 ·have := setsM_short hh _ l hl; have := hb.high; omega
 ·have := setsM_mem _ l hl x hx; have := hb.steps; omega
theorem setsB_len {b : Bk} (hb : BkOk b) : (setsB b).length ≤ 65536 := Nat.le_trans (setsM_len _ _) (pow_le16 (by have := hb.steps; omega))
theorem filt_T {α : Type} {p : α → Bool} {A : List α} {i : Nat} (hi : i < A.length) (h : p A[i] = true) : (A.take (i + 1)).filter p = (A.take i).filter p ++ [A[i]] := by
 rw [List.take_add_one, List.getElem?_eq_getElem hi, List.filter_append]; simp [h]
theorem filt_F {α : Type} {p : α → Bool} {A : List α} {i : Nat} (hi : i < A.length) (h : p A[i] = false) : (A.take (i + 1)).filter p = (A.take i).filter p := by
 rw [List.take_add_one, List.getElem?_eq_getElem hi, List.filter_append]; simp [h]
/-- One list of many is handed over. -/
theorem objs_split {Q : List (Nat × List Int)} {x : Nat × List Int} (hx : x ∈ Q) : ∃ R, Rem (objsL Q) (x.1, .cells (x.2.map intA) 3 false) R := rem_of_mem (objsL_mem hx)
theorem perm3 {a b x : Nat × AObj} {L R : KV} (h : Rem L x R) : (a :: b :: L).Perm ([a, b, x] ++ R) := .cons _ (.cons _ h.perm)
theorem perm2 {a x : Nat × AObj} {L R : KV} (h : Rem L x R) : (a :: L).Perm ([a, x] ++ R) := .cons _ h.perm
theorem perm1 {x : Nat × AObj} {L R : KV} (h : Rem L x R) : L.Perm ([x] ++ R) := h.perm

def knownBar (b : Bk) (t : Bool) : Int := if checkM b = 0 then if t = false then 6 else if statesR b = [] then 9 else 0 else checkM b

end Go.Vel
end
section
set_option linter.all false
set_option maxRecDepth 20000
set_option maxHeartbeats 60000000
namespace Go.Vel
open Go Go.Conc Go.Proofs

/-! ### the states of the program, and of the specification -/
theorem loop_sub {b : Bk} : ∀ (rest S R : List Int), R ∈ loopM b S rest → ∃ T, T.Sublist rest ∧ T ≠ [] ∧ R = S ++ T
 | [], S, R, h => by cases h
 | n :: rest, S, R, h => by
  simp only [loopM] at h
  split at h
  ·rcases List.mem_append.1 h with h | h
   ·rcases List.mem_append.1 h with h | h
    ·unfold ownM at h
     split at h
     ·rw [List.mem_singleton.1 h]
      exact ⟨[n], .cons_cons _ (List.nil_sublist _), by simp, rfl⟩
     ·cases h
    ·obtain ⟨T, h1, _, rfl⟩ := loop_sub rest _ R h
     exact ⟨n :: T, .cons_cons _ h1, by simp, by simp⟩
   ·obtain ⟨T, h1, h2, rfl⟩ := loop_sub rest _ R h
    exact ⟨T, .cons _ h1, h2, rfl⟩
  ·cases h
theorem own_nodup (b : Bk) (S : List Int) : (ownM b S).Nodup := by
 unfold ownM
 split <;> simp
theorem loop_nodup {b : Bk} : ∀ (rest S : List Int), rest.Nodup → (loopM b S rest).Nodup
 | [], S, _ => by simp [loopM]
 | n :: rest, S, h => by
  have h2 := List.nodup_cons.1 h
  simp only [loopM]
  split
  ·refine List.nodup_append.2 ⟨List.nodup_append.2 ⟨own_nodup _ _, loop_nodup rest _ h2.2, fun x hx y hy e => ?_⟩, loop_nodup rest _ h2.2, fun x hx y hy e => ?_⟩
   ·subst e
    obtain ⟨T, _, hT, rfl⟩ := loop_sub _ _ _ hy
    unfold ownM at hx
    split at hx
    ·have := List.mem_singleton.1 hx
     exact hT (by simpa using this)
    ·cases hx
   ·subst e
    obtain ⟨T, hT1, _, e2⟩ := loop_sub _ _ _ hy
    have hn : n ∈ T := by
     rcases List.mem_append.1 hx with hx | hx
     ·unfold ownM at hx
      split at hx
      ·have := List.mem_singleton.1 hx
       rw [e2] at this
       have := List.append_cancel_left this
       simp [this]
      ·cases hx
     ·obtain ⟨T', _, _, e3⟩ := loop_sub _ _ _ hx
      rw [e2, List.append_assoc] at e3
      have := List.append_cancel_left e3
      simp [this]
    exact h2.1 (hT1.subset hn)
  ·simp
theorem restM_pair (b : Bk) (i : Nat) : (restM b i).Pairwise (· < ·) := by
 unfold restM
 rw [List.pairwise_map]
 exact (List.pairwise_lt_range' (s := i) (n := b.steps.toNat - i)).imp fun h => by omega
theorem allM_nodup (b : Bk) : (allM b).Nodup := by
 have hr : (restM b 0).Nodup := (restM_pair b 0).imp fun h e => by omega
 refine List.nodup_append.2 ⟨own_nodup _ _, loop_nodup _ _ hr, fun x hx y hy e => ?_⟩
 subst e
 obtain ⟨T, _, hT, rfl⟩ := loop_sub _ _ _ hy
 unfold ownM at hx
 split at hx
 ·exact hT (by simpa using List.mem_singleton.1 hx)
 ·cases hx
theorem allM_pair {b : Bk} {R : List Int} (h : R ∈ allM b) : R.Pairwise (· < ·) := by
 rcases List.mem_append.1 h with h | h
 ·unfold ownM at h
  split at h
  ·rw [List.mem_singleton.1 h]; exact .nil
  ·cases h
 ·obtain ⟨T, h1, _, rfl⟩ := loop_sub _ _ _ h
  exact (restM_pair b 0).sublist h1
theorem loop_high {b : Bk} : ∀ (rest S R : List Int), R ∈ loopM b S rest → (R.length : Int) ≤ b.high
 | [], S, R, h => by cases h
 | n :: rest, S, R, h => by
  simp only [loopM] at h
  split at h
  ·rename_i hlt
   rcases List.mem_append.1 h with h | h
   ·rcases List.mem_append.1 h with h | h
    ·unfold ownM at h
     split at h
     ·rw [List.mem_singleton.1 h, List.length_append]
      simp; omega
     ·cases h
    ·exact loop_high rest _ R h
   ·exact loop_high rest _ R h
  ·cases h
theorem memA {b : Bk} {xs : List Int} (hp : xs.Pairwise (· < ·)) (hr : ∀ x ∈ xs, 0 ≤ x ∧ x < b.steps) (hs : seenM b xs = true) : xs ∈ allM b := by
 unfold allM
 have hh : ((xs.length : Int)) ≤ b.high := by
  unfold seenM at hs
  simp only [Bool.and_eq_true, decide_eq_true_eq] at hs
  exact hs.1.2
 by_cases h0 : xs = []
 ·subst h0
  refine List.mem_append.2 (.inl ?_)
  unfold ownM
  rw [if_pos hs]
  exact List.mem_singleton.2 rfl
 ·exact List.mem_append.2 (.inr (mem_loopM (restM b 0) [] xs (sub_rest _ 0 xs rfl hp fun x hx => by have := hr x hx; omega) h0 hh hs))

theorem sets_pair {most : Int} : ∀ n, ∀ l ∈ setsM most n, l.Pairwise (· < ·)
 | 0, l, hl => by rw [List.mem_singleton.1 hl]; exact .nil
 | n + 1, l, hl => by
  rcases List.mem_append.1 hl with hl | hl
  ·exact sets_pair n l hl
  ·obtain ⟨y, hy, rfl⟩ := List.mem_map.1 hl
   have hy' := List.mem_reverse.1 (List.mem_filter.1 hy).1
   refine List.pairwise_append.2 ⟨sets_pair n y hy', by simp, fun a ha c hc => ?_⟩
   rw [List.mem_singleton.1 hc]
   exact (setsM_mem n y hy' a ha).2
theorem sets_mem {most : Int} : ∀ (n : Nat) (l : List Int), l.Pairwise (· < ·) → (∀ x ∈ l, 0 ≤ x ∧ x < n) → (l.length : Int) ≤ most → l ∈ setsM most n
 | 0, l, _, hr, _ => by
  cases l with
  | nil => exact List.mem_singleton.2 rfl
  | cons x l => have := hr x (by simp); omega
 | n + 1, l, hp, hr, hl => by
  rcases List.eq_nil_or_concat l with rfl | ⟨y, a, rfl⟩
  ·exact List.mem_append.2 (.inl (sets_mem n [] .nil (fun x hx => by cases hx) hl))
  ·rw [List.concat_eq_append] at hp hr hl ⊢
   have hp2 := List.pairwise_append.1 hp
   have ha := hr a (by simp)
   have hlt : ∀ x ∈ y, x < a := fun x hx => hp2.2.2 x hx a (by simp)
   by_cases e : a = n
   ·subst e
    refine List.mem_append.2 (.inr (List.mem_map.2 ⟨y, List.mem_filter.2 ⟨List.mem_reverse.2 (sets_mem n y hp2.1 (fun x hx => ?_) ?_), ?_⟩, rfl⟩))
    ·have := hlt x hx; have := hr x (by simp [hx]); omega
    ·simp at hl; omega
    ·unfold shortB; simp at hl ⊢; omega
   ·refine List.mem_append.2 (.inl (sets_mem n _ hp (fun x hx => ?_) hl))
    have h1 := hr x hx
    rcases List.mem_append.1 hx with hx | hx
    ·have := hlt x hx; omega
    ·rw [List.mem_singleton.1 hx] at h1 ⊢; omega
theorem sets_nodup {most : Int} : ∀ n, (setsM most n).Nodup
 | 0 => by simp [setsM]
 | n + 1 => by
  have ih := sets_nodup (most := most) n
  refine List.nodup_append.2 ⟨ih, ?_, fun x hx y hy e => ?_⟩
  ·unfold moreM List.Nodup
   rw [List.pairwise_map]
   refine List.Pairwise.filter _ ?_
   exact (List.pairwise_reverse.2 (ih.imp fun {a c} h => (fun e => h e.symm : c ≠ a))).imp fun h e => h (List.append_cancel_right e)
  ·subst e
   obtain ⟨y, _, rfl⟩ := List.mem_map.1 hy
   have := setsM_mem n _ hx n (by simp)
   omega
theorem can_seen {b : Bk} {S : List Int} (h : canM b S = true) : seenM b S = true := by
 unfold canM at h
 simp only [Bool.and_eq_true] at h
 exact h.2
/-- THE STATES ARE THE SAME, IN ANOTHER ORDER. -/
theorem states_perm {b : Bk} (hb : BkOk b) : (statesM b).Perm (statesR b) := by
 unfold statesM statesR
 refine (List.perm_ext_iff_of_nodup (List.Pairwise.filter _ (allM_nodup b)) (List.Pairwise.filter _ (sets_nodup _))).2 fun S => ?_
 rw [List.mem_filter, List.mem_filter]
 constructor
 ·rintro ⟨h1, h2⟩
  refine ⟨sets_mem _ S (allM_pair h1) (fun x hx => ?_) ?_, h2⟩
  ·have := (allM_ok hb S h1).mem x hx; omega
  ·have := can_seen h2
   unfold seenM at this
   simp only [Bool.and_eq_true, decide_eq_true_eq] at this
   exact this.1.2
 ·rintro ⟨h1, h2⟩
  refine ⟨memA (sets_pair _ S h1) (fun x hx => ?_) (can_seen h2), h2⟩
  have := setsM_mem _ S h1 x hx
  have := hb.steps
  omega
theorem knownBar_eq (b : Bk) (t : Bool) : knownBar b t = askM b t := by
 unfold knownBar askM
 by_cases h : checkM b = 0
 ·have h' : ¬ checkM b ≠ 0 := fun h2 => h2 h
  simp only [h, if_true, h', if_false]
  have hp := states_perm (bkOk_of h)
  have he : (statesR b = []) ↔ (statesM b = []) := ⟨fun e => by rw [e] at hp; exact List.perm_nil.1 hp, fun e => by rw [e] at hp; exact List.nil_perm.1 hp⟩
  by_cases h0 : statesM b = []
  ·simp [h0, he.2 h0]
  ·have h1 : ¬ statesR b = [] := fun e => h0 (he.1 e)
   simp [h0, h1]
 ·simp only [h, if_false, ne_eq, not_false_eq_true, if_true]
end Go.Vel
end
section
set_option linter.all false
set_option maxRecDepth 20000
set_option maxHeartbeats 60000000
namespace Go.Vel
open Go Go.Conc Go.Proofs

/-! ### the specification's sums over states -/
def oftR (Ls : List (List Int)) (n : Int) : Int := ((Ls.filter fun S => decide (n ∈ S)).length : Nat)
theorem oftR_T {Ls : List (List Int)} {n : Int} {i : Nat} (h : i < Ls.length) (hr : decide (n ∈ Ls[i]) = true) : oftR (Ls.take (i + 1)) n = oftR (Ls.take i) n + 1 := by
 unfold oftR
 rw [List.take_add_one, List.getElem?_eq_getElem h, List.filter_append, List.length_append]; simp [of_decide_eq_true hr]
theorem oftR_F {Ls : List (List Int)} {n : Int} {i : Nat} (h : i < Ls.length) (hr : decide (n ∈ Ls[i]) = false) : oftR (Ls.take (i + 1)) n = oftR (Ls.take i) n := by
 unfold oftR
 rw [List.take_add_one, List.getElem?_eq_getElem h, List.filter_append, List.length_append]; simp [of_decide_eq_false hr]
theorem oftR_le (Ls : List (List Int)) (k : Int) : 0 ≤ oftR Ls k ∧ oftR Ls k ≤ Ls.length := ⟨Int.natCast_nonneg _, Int.ofNat_le.2 (List.length_filter_le _ _)⟩
/-- A list of lists in memory: where its parts lie, the lists, and their objects. -/
structure LsIn (P Q : List (Nat × List Int)) (Ls : List (List Int)) : Prop where
 eq : P.map (·.2) = Ls
 mem : ∀ x ∈ P, x ∈ Q
theorem LsIn.len {P Q : List (Nat × List Int)} {Ls : List (List Int)} (h : LsIn P Q Ls) : P.length = Ls.length := by rw [← h.eq, List.length_map]
theorem LsIn.get {P Q : List (Nat × List Int)} {Ls : List (List Int)} (h : LsIn P Q Ls) {i : Nat} (hi : i < P.length) : P[i].2 = Ls[i]'(h.len ▸ hi) := by
 have e := h.eq
 subst e
 simp
theorem LsIn.obj {P Q : List (Nat × List Int)} {Ls : List (List Int)} (h : LsIn P Q Ls) {i : Nat} (hi : i < P.length) : (P[i].1, AObj.cells (P[i].2.map intA) 3 false) ∈ objsL Q := objsL_mem (h.mem _ (List.getElem_mem hi))
theorem LsIn.split {P Q : List (Nat × List Int)} {Ls : List (List Int)} (h : LsIn P Q Ls) {i : Nat} (hi : i < P.length) : ∃ R, Rem (objsL Q) (P[i].1, .cells (P[i].2.map intA) 3 false) R := objs_split (h.mem _ (List.getElem_mem hi))

end Go.Vel
end
section
set_option linter.all false
set_option maxRecDepth 20000
set_option maxHeartbeats 60000000
namespace Go.Vel
open Go Go.Conc Go.Proofs
/-! ### the specification's sums are the program's -/
theorem oftR_eq : ∀ {Ls : List (List Int)} (_ : ∀ S ∈ Ls, S.Nodup) (n : Int), oftR Ls n = oftM Ls n
 | [], _, n => rfl
 | S :: Ls, h, n => by
  have ih := oftR_eq (fun T hT => h T (List.mem_cons_of_mem _ hT)) n
  unfold oftR oftM at ih ⊢
  rw [List.flatten_cons, List.count_append, List.filter_cons]
  have h1 := (h S List.mem_cons_self).count (a := n)
  by_cases hm : n ∈ S
  ·rw [if_pos (by simpa using hm)]
   rw [if_pos hm] at h1
   rw [h1, List.length_cons]
   omega
  ·rw [if_neg (by simpa using hm)]
   rw [if_neg hm] at h1
   rw [h1]
   omega
theorem oftM_perm {Ls Ms : List (List Int)} (h : Ls.Perm Ms) (n : Int) : oftM Ls n = oftM Ms n := by
 unfold oftM; rw [(h.flatten).count_eq]
theorem rightsM_perm {b : Bk} {Ls Ms : List (List Int)} (h : Ls.Perm Ms) (k : Nat) : rightsM b Ls k = rightsM b Ms k := by
 unfold rightsM; rw [(h.filter _).length_eq]
theorem bandM_comm (b : Bk) (lo w : Int) (z : Int × Int) (S T : List Int) : bandM b lo w (bandM b lo w z S) T = bandM b lo w (bandM b lo w z T) S := by
 unfold bandM
 generalize inM b S lo w = x
 generalize inM b T lo w = y
 obtain ⟨p, q⟩ := z
 refine Prod.ext ?_ ?_
 ·dsimp only
  (repeat' split) <;> omega
 ·dsimp only
  (repeat' split) <;> omega
theorem withinM_perm {b : Bk} {Ls Ms : List (List Int)} (h : Ls.Perm Ms) (lo w : Int) : withinM b Ls lo w = withinM b Ms lo w := by
 unfold withinM
 exact h.foldl_eq' (fun x _ y _ z => bandM_comm b lo w z x y) _
theorem statesR_nodup {b : Bk} : ∀ S ∈ statesR b, S.Nodup := fun S hS => (sets_pair _ S (List.mem_filter.1 hS).1).imp fun h e => by omega
theorem statesR_ok' {b : Bk} (hb : BkOk b) (hh : 0 ≤ b.high) : ∀ S ∈ statesR b, SmOk b S := fun S hS => setsB_ok hb hh S (List.mem_filter.1 hS).1
theorem statesR_len {b : Bk} (hb : BkOk b) : (statesR b).length ≤ 65536 := Nat.le_trans (List.length_filter_le _ _) (setsB_len hb)
theorem oft_eq {b : Bk} (hb : BkOk b) (n : Int) : oftR (statesR b) n = oftM (statesM b) n := by
 rw [oftR_eq statesR_nodup, oftM_perm (states_perm hb)]
theorem len_eq {b : Bk} (hb : BkOk b) : (statesR b).length = (statesM b).length := (states_perm hb).length_eq.symm
theorem rights_eq {b : Bk} (hb : BkOk b) (k : Nat) : rightsM b (statesR b) k = rightsM b (statesM b) k := (rightsM_perm (states_perm hb) k).symm
theorem within_eq {b : Bk} (hb : BkOk b) (lo w : Int) : withinM b (statesR b) lo w = withinM b (statesM b) lo w := (withinM_perm (states_perm hb) lo w).symm
theorem known0 {b : Bk} {t : Bool} (h : knownBar b t = 0) : checkM b = 0 ∧ t = true := by
 unfold knownBar at h
 split at h
 ·rename_i hc
  refine ⟨hc, ?_⟩
  cases t with
  | true => rfl
  | false => cases h
 ·rename_i hc; exact absurd h hc
end Go.Vel
end
section
set_option linter.all false
set_option maxRecDepth 20000
set_option maxHeartbeats 60000000
namespace Go.Vel
open Go Go.Conc Go.Proofs
/-! ### the specification's sorted list -/
def stepS (x : Int) (p : List Int × Bool) (o : Int) : List Int × Bool :=
 ((if (!p.2 && decide (o ≥ x)) = true then p.1 ++ [x] else p.1) ++ (if (o != x) = true then [o] else []), p.2 || decide (o ≥ x))
def finS (x : Int) (p : List Int × Bool) : List Int := if p.2 = true then p.1 else p.1 ++ [x]
def insS (out : List Int) (x : Int) : List Int := finS x (out.foldl (stepS x) ([], false))
def sortS (xs : List Int) : List Int := xs.foldl insS []
theorem stepS_put {x : Int} : ∀ (os : List Int) (nx : List Int), (∀ y ∈ os, x < y) → os.foldl (stepS x) (nx, true) = (nx ++ os, true)
 | [], nx, _ => by rw [List.foldl_nil, List.append_nil]
 | o :: os, nx, h => by
  have h1 : x < o := h o List.mem_cons_self
  rw [List.foldl_cons, show stepS x (nx, true) o = (nx ++ [o], true) from by
   unfold stepS
   rw [if_neg (by simp), if_pos (by simp; omega)]; rfl, stepS_put os _ fun y hy => h y (List.mem_cons_of_mem _ hy), List.append_assoc]
  rfl
theorem stepS_low {x : Int} : ∀ (os : List Int) (nx : List Int), os.Pairwise (· < ·) → finS x (os.foldl (stepS x) (nx, false)) = nx ++ (os.filter (fun y => decide (y < x)) ++ x :: os.filter (fun y => decide (x < y)))
 | [], nx, _ => by simp [finS]
 | o :: os, nx, h => by
  obtain ⟨h1, h2⟩ := List.pairwise_cons.1 h
  rw [List.foldl_cons]
  by_cases hc : o < x
  ·rw [show stepS x (nx, false) o = (nx ++ [o], false) from by
    unfold stepS
    rw [if_neg (by simp; omega), if_pos (by simp; omega)]
    simp; omega, stepS_low os _ h2, List.filter_cons, if_pos (by simpa using hc), List.filter_cons, if_neg (by simp; omega)]
   simp
  ·have h3 : ∀ y ∈ os, x < y := fun y hy => by have := h1 y hy; omega
   have h4 : os.filter (fun y => decide (y < x)) = [] := List.filter_eq_nil_iff.2 fun y hy => by have := h3 y hy; simp; omega
   have h5 : os.filter (fun y => decide (x < y)) = os := List.filter_eq_self.2 fun y hy => by simpa using h3 y hy
   rw [List.filter_cons, if_neg (by simpa using hc), List.filter_cons, h4, h5]
   by_cases he : o = x
   ·subst he
    rw [show stepS o (nx, false) o = (nx ++ [o], true) from by unfold stepS; simp, stepS_put os _ h3]
    simp [finS]
   ·rw [show stepS x (nx, false) o = (nx ++ [x] ++ [o], true) from by
     unfold stepS
     rw [if_pos (by simp; omega), if_pos (by simpa using he)]
     simp; omega, stepS_put os _ h3]
    rw [if_pos (by simp; omega)]
    simp [finS]
theorem insS_eq {out : List Int} {x : Int} (h : out.Pairwise (· < ·)) : insS out x = out.filter (fun y => decide (y < x)) ++ x :: out.filter (fun y => decide (x < y)) := by
 unfold insS; rw [stepS_low out [] h]; rfl
theorem insS_asc {out : List Int} {x : Int} (h : out.Pairwise (· < ·)) : (insS out x).Pairwise (· < ·) ∧ ∀ y, y ∈ insS out x ↔ y ∈ out ∨ y = x := by
 rw [insS_eq h]
 refine ⟨?_, fun y => ?_⟩
 ·refine List.pairwise_append.2 ⟨h.sublist List.filter_sublist, List.pairwise_cons.2 ⟨fun y hy => by simpa using (List.mem_filter.1 hy).2, h.sublist List.filter_sublist⟩, fun a ha c hc => ?_⟩
  have h1 : a < x := by simpa using (List.mem_filter.1 ha).2
  rcases List.mem_cons.1 hc with rfl | hc
  ·exact h1
  ·have h2 : x < c := by simpa using (List.mem_filter.1 hc).2
   omega
 ·simp only [List.mem_append, List.mem_filter, List.mem_cons, decide_eq_true_eq]
  constructor
  ·rintro (⟨h1, _⟩ | rfl | ⟨h1, _⟩)
   ·exact .inl h1
   ·exact .inr rfl
   ·exact .inl h1
  ·rintro (h1 | rfl)
   ·rcases Int.lt_trichotomy y x with h2 | h2 | h2
    ·exact .inl ⟨h1, h2⟩
    ·exact .inr (.inl h2)
    ·exact .inr (.inr ⟨h1, h2⟩)
   ·exact .inr (.inl rfl)
theorem sortS_asc (xs : List Int) : ∀ out : List Int, out.Pairwise (· < ·) → (xs.foldl insS out).Pairwise (· < ·) ∧ ∀ y, y ∈ xs.foldl insS out ↔ y ∈ out ∨ y ∈ xs := by
 induction xs with
 | nil => intro out h; exact ⟨h, fun y => by simp⟩
 | cons x xs ih =>
  intro out h
  obtain ⟨h1, h2⟩ := insS_asc (x := x) h
  obtain ⟨h3, h4⟩ := ih _ h1
  refine ⟨h3, fun y => ?_⟩
  rw [List.foldl_cons, h4, h2, List.mem_cons, or_assoc]
theorem asc_ext : ∀ {xs ys : List Int}, xs.Pairwise (· < ·) → ys.Pairwise (· < ·) → (∀ z, z ∈ xs ↔ z ∈ ys) → xs = ys
 | [], [], _, _, _ => rfl
 | [], y :: ys, _, _, h => absurd ((h y).2 List.mem_cons_self) (by simp)
 | x :: xs, [], _, _, h => absurd ((h x).1 List.mem_cons_self) (by simp)
 | x :: xs, y :: ys, h1, h2, h => by
  obtain ⟨h3, h4⟩ := List.pairwise_cons.1 h1
  obtain ⟨h5, h6⟩ := List.pairwise_cons.1 h2
  have hx := List.mem_cons.1 ((h x).1 List.mem_cons_self)
  have hy := List.mem_cons.1 ((h y).2 List.mem_cons_self)
  have he : x = y := by
   rcases hx with e | e
   ·exact e
   ·rcases hy with f | f
    ·exact f.symm
    ·have := h5 _ e; have := h3 _ f; omega
  subst he
  congr 1
  refine asc_ext h4 h6 fun z => ⟨fun hz => ?_, fun hz => ?_⟩
  ·rcases List.mem_cons.1 ((h z).1 (List.mem_cons_of_mem _ hz)) with e | e
   ·have := h3 _ hz; omega
   ·exact e
  ·rcases List.mem_cons.1 ((h z).2 (List.mem_cons_of_mem _ hz)) with e | e
   ·have := h5 _ hz; omega
   ·exact e
end Go.Vel
end
section
set_option linter.all false
set_option maxRecDepth 20000
set_option maxHeartbeats 60000000
namespace Go.Vel
open Go Go.Conc Go.Proofs
/-! ### the program's counts are the specification's -/
theorem compact_asc {d : Array Int} (hs : ∀ i j : Nat, i ≤ j → j < d.size → d[i]! ≤ d[j]!) : ∀ m : Nat, m ≤ d.size → (Lib.compactUpTo d m).Pairwise (· < ·) ∧ ∀ y, y ∈ Lib.compactUpTo d m ↔ ∃ i, i < m ∧ d[i]! = y
 | 0, _ => ⟨by simp [Lib.compactUpTo], fun y => by simp [Lib.compactUpTo]⟩
 | m + 1, hm => by
  obtain ⟨h1, h2⟩ := compact_asc hs m (by omega)
  rw [Lib.compactUpTo_succ]
  cases hk : Lib.keeps d m
  ·rw [if_neg (by decide), List.append_nil]
   refine ⟨h1, fun y => (h2 y).trans ⟨fun ⟨i, a, c⟩ => ⟨i, by omega, c⟩, fun ⟨i, a, c⟩ => ?_⟩⟩
   by_cases hi : i < m
   ·exact ⟨i, hi, c⟩
   ·obtain rfl : i = m := by omega
    simp [Lib.keeps] at hk
    exact ⟨i - 1, by omega, by rw [← c]; first | exact hk.2.symm | exact hk.2⟩
  ·rw [if_pos rfl]
   refine ⟨List.pairwise_append.2 ⟨h1, List.pairwise_singleton _ _, fun a ha c hc => ?_⟩, fun y => ?_⟩
   ·obtain ⟨i, hi, rfl⟩ := (h2 a).1 ha
    rw [List.mem_singleton.1 hc]
    have h3 := hs i (m - 1) (by omega) (by omega)
    have h4 := hs (m - 1) m (by omega) (by omega)
    simp [Lib.keeps] at hk
    rcases hk with hk | hk
    ·omega
    ·omega
   ·rw [List.mem_append, h2, List.mem_singleton]
    constructor
    ·rintro (⟨i, a, c⟩ | rfl)
     ·exact ⟨i, by omega, c⟩
     ·exact ⟨m, by omega, rfl⟩
    ·rintro ⟨i, a, c⟩
     by_cases hi : i < m
     ·exact .inl ⟨i, hi, c⟩
     ·obtain rfl : i = m := by omega
      exact .inr c.symm
theorem counts_eq {b : Bk} (hb : BkOk b) : sortS ((statesR b).map fun S => (S.length : Int)) = countsM b := by
 unfold sortS countsM Lib.compact
 obtain ⟨h1, h2⟩ := sortS_asc ((statesR b).map fun S => (S.length : Int)) [] List.Pairwise.nil
 generalize hz : sortI ((statesM b).map fun S => (S.length : Int)) = zs
 have hp : zs.Perm ((statesM b).map fun S => (S.length : Int)) := by rw [← hz]; exact List.mergeSort_perm _ _
 have hso : zs.Pairwise (fun x y => decide (x ≤ y) = true) := by
  rw [← hz]
  exact List.pairwise_mergeSort (fun a c e h3 h4 => by simp only [decide_eq_true_eq] at *; omega) (fun a c => by simp only [Bool.or_eq_true, decide_eq_true_eq]; omega) _
 have hs : ∀ i j : Nat, i ≤ j → j < zs.toArray.size → zs.toArray[i]! ≤ zs.toArray[j]! := fun i j hij hj => by
  rw [List.size_toArray] at hj
  rw [getElem!_pos zs.toArray i (by simp; omega), getElem!_pos zs.toArray j (by simpa using hj)]
  rcases Nat.lt_or_eq_of_le hij with h | rfl
  ·have := List.pairwise_iff_getElem.1 hso i j (by omega) hj h
   simpa using this
  ·exact Int.le_refl _
 obtain ⟨h5, h6⟩ := compact_asc hs zs.length (by simp)
 refine asc_ext h1 h5 fun z => ?_
 rw [h2, h6]
 have h7 : z ∈ (statesR b).map (fun S => (S.length : Int)) ↔ z ∈ zs := by
  rw [hp.mem_iff]
  exact ((states_perm hb).map _).mem_iff.symm
 rw [h7]
 constructor
 ·rintro (h | h)
  ·exact absurd h (by simp)
  ·obtain ⟨i, hi, rfl⟩ := List.mem_iff_getElem.1 h
   exact ⟨i, hi, by rw [getElem!_pos zs.toArray i (by simpa using hi)]; simp⟩
 ·rintro ⟨i, hi, rfl⟩
  refine .inr ?_
  rw [getElem!_pos zs.toArray i (by simpa using hi)]
  simp
end Go.Vel
end
section
set_option linter.all false
set_option maxRecDepth 20000
set_option maxHeartbeats 60000000
namespace Go.Vel
open Go Go.Conc Go.Proofs
/-! ### what is so of the states of a book -/
theorem mem_states {b : Bk} (hb : BkOk b) (S : List Int) : S ∈ statesM b ↔ S ∈ setsB b ∧ canM b S = true := by
 rw [(states_perm hb).mem_iff]; exact List.mem_filter
theorem states_nodup (b : Bk) : (statesM b).Nodup := List.Pairwise.filter _ (allM_nodup b)
theorem state_pair {b : Bk} {S : List Int} (h : S ∈ statesM b) : S.Pairwise (· < ·) := allM_pair (List.mem_filter.1 h).1
theorem state_nodup {b : Bk} {S : List Int} (h : S ∈ statesM b) : S.Nodup := (state_pair h).imp fun h e => by omega
theorem state_mem {b : Bk} (hb : BkOk b) {S : List Int} (h : S ∈ statesM b) : ∀ x ∈ S, 0 ≤ x ∧ x < b.steps := (allM_ok hb S (List.mem_filter.1 h).1).mem
theorem state_len {b : Bk} (hb : BkOk b) {S : List Int} (h : S ∈ statesM b) : S.length ≤ 3 := (allM_ok hb S (List.mem_filter.1 h).1).len
theorem setsB_iff {b : Bk} (hb : BkOk b) (hh : 0 ≤ b.high) (S : List Int) : S ∈ setsB b ↔ S.Pairwise (· < ·) ∧ (∀ x ∈ S, 0 ≤ x ∧ x < b.steps) ∧ (S.length : Int) ≤ b.high := by
 have hst := hb.steps
 constructor
 ·intro h
  exact ⟨sets_pair _ S h, fun x hx => by have := setsM_mem _ S h x hx; omega, setsM_short hh _ S h⟩
 ·rintro ⟨h1, h2, h3⟩
  exact sets_mem _ S h1 (fun x hx => by have := h2 x hx; omega) h3
theorem filt_add {α : Type} (p : α → Bool) : ∀ A : List α, (A.filter p).length + (A.filter fun x => !p x).length = A.length
 | [] => rfl
 | x :: A => by
  have ih := filt_add p A
  rw [List.filter_cons, List.filter_cons, List.length_cons]
  cases p x
  ·simp only [Bool.false_eq_true, if_false, Bool.not_false, if_true, List.length_cons]; omega
  ·simp only [Bool.not_true, Bool.false_eq_true, if_false, if_true, List.length_cons]; omega
theorem oft_len {b : Bk} (n : Int) : oftM (statesM b) n = (((statesM b).filter fun S => decide (n ∈ S)).length : Nat) := (oftR_eq (fun _ h => state_nodup h) n).symm
theorem filter_all_len {α : Type} {p : α → Bool} {A : List α} : (A.filter p).length = A.length ↔ ∀ S ∈ A, p S = true := by
 rw [List.length_filter_eq_length_iff]
theorem filter_none_len {α : Type} {p : α → Bool} {A : List α} : (A.filter p).length = 0 ↔ ∀ S ∈ A, p S = false := by
 rw [List.length_eq_zero_iff, List.filter_eq_nil_iff]
 exact ⟨fun h S hS => by simpa using h S hS, fun h S hS => by simpa using h S hS⟩
/-- A word of how many of some. -/
theorem word_of {α : Type} {p : α → Bool} {A : List α} (hne : A ≠ []) : (wordM A.length ((A.filter p).length : Nat) = 1 ↔ ∀ S ∈ A, p S = true) ∧ (wordM A.length ((A.filter p).length : Nat) = 2 ↔ ∀ S ∈ A, p S = false) ∧ (wordM A.length ((A.filter p).length : Nat) = 0 ↔ (∃ S ∈ A, p S = true) ∧ ∃ S ∈ A, p S = false) := by
 have h1 := filter_all_len (p := p) (A := A)
 have h2 := filter_none_len (p := p) (A := A)
 have h0 : A.length ≠ 0 := fun h => hne (List.length_eq_zero_iff.1 h)
 have e1 : (∃ S ∈ A, p S = true) ↔ ¬ (A.filter p).length = 0 := by
  rw [h2]
  constructor
  ·rintro ⟨S, hS, hp⟩ h; rw [h S hS] at hp; cases hp
  ·intro h
   refine Classical.byContradiction fun hc => h fun S hS => ?_
   rw [Bool.eq_false_iff]
   exact fun hp => hc ⟨S, hS, hp⟩
 have e2 : (∃ S ∈ A, p S = false) ↔ ¬ (A.filter p).length = A.length := by
  rw [h1]
  constructor
  ·rintro ⟨S, hS, hp⟩ h; rw [h S hS] at hp; cases hp
  ·intro h
   refine Classical.byContradiction fun hc => h fun S hS => ?_
   cases hp : p S with
   | true => rfl
   | false => exact absurd ⟨S, hS, hp⟩ hc
 rw [e1, e2, ← h1, ← h2]
 unfold wordM
 simp only [beq_iff_eq]
 generalize (A.filter p).length = m at *
 generalize A.length = n at *
 refine ⟨⟨fun h => ?_, fun h => ?_⟩, ⟨fun h => ?_, fun h => ?_⟩, ⟨fun h => ?_, fun h => ?_⟩⟩ <;> (repeat' split at *) <;> omega
theorem word_at {b : Bk} (hne : statesM b ≠ []) (n : Int) : (wordM (statesM b).length (oftM (statesM b) n) = 1 ↔ ∀ S ∈ statesM b, n ∈ S) ∧ (wordM (statesM b).length (oftM (statesM b) n) = 2 ↔ ∀ S ∈ statesM b, n ∉ S) ∧ (wordM (statesM b).length (oftM (statesM b) n) = 0 ↔ (∃ S ∈ statesM b, n ∈ S) ∧ ∃ S ∈ statesM b, n ∉ S) := by
 have := word_of (p := fun S => decide (n ∈ S)) hne
 rw [oft_len]
 simpa only [decide_eq_true_eq, decide_eq_false_iff_not] using this
theorem word_wrong {c : Bk} {A : List (List Int)} (hne : A ≠ []) (k : Nat) : (wordM A.length (A.length - rightsM c A k) = 1 ↔ ∀ S ∈ A, rightM c S k = false) ∧ (wordM A.length (A.length - rightsM c A k) = 2 ↔ ∀ S ∈ A, rightM c S k = true) ∧ (wordM A.length (A.length - rightsM c A k) = 0 ↔ (∃ S ∈ A, rightM c S k = false) ∧ ∃ S ∈ A, rightM c S k = true) := by
 have h := word_of (p := fun S => !rightM c S k) hne
 have e : (A.length : Int) - rightsM c A k = ((A.filter fun S => !rightM c S k).length : Nat) := by
  unfold rightsM
  have := filt_add (fun S => rightM c S k) A
  omega
 rw [e]
 simpa only [Bool.not_eq_true', Bool.not_eq_false'] using h
theorem counts_mem {b : Bk} (hb : BkOk b) (n : Int) : n ∈ countsM b ↔ ∃ S ∈ statesM b, (S.length : Int) = n := by
 rw [← counts_eq hb]
 unfold sortS
 rw [(sortS_asc _ [] .nil).2 n]
 simp only [List.not_mem_nil, false_or, List.mem_map, (states_perm hb).mem_iff]
theorem counts_asc {b : Bk} (hb : BkOk b) : (countsM b).Pairwise (· < ·) := by
 rw [← counts_eq hb]; exact (sortS_asc _ [] .nil).1
/-! bands -/
theorem band_fold (b : Bk) (lo w : Int) : ∀ (A : List (List Int)) (z : Int × Int), (A.foldl (bandM b lo w) z).1 ≤ z.1 ∧ z.2 ≤ (A.foldl (bandM b lo w) z).2 ∧ (∀ S ∈ A, (A.foldl (bandM b lo w) z).1 ≤ inM b S lo w ∧ inM b S lo w ≤ (A.foldl (bandM b lo w) z).2) ∧ ((A.foldl (bandM b lo w) z).1 = z.1 ∨ ∃ S ∈ A, (A.foldl (bandM b lo w) z).1 = inM b S lo w) ∧ ((A.foldl (bandM b lo w) z).2 = z.2 ∨ ∃ S ∈ A, (A.foldl (bandM b lo w) z).2 = inM b S lo w)
 | [], z => ⟨Int.le_refl _, Int.le_refl _, (fun S h => by cases h), .inl rfl, .inl rfl⟩
 | S :: A, z => by
  obtain ⟨h1, h2, h3, h4, h5⟩ := band_fold b lo w A (bandM b lo w z S)
  rw [List.foldl_cons]
  generalize A.foldl (bandM b lo w) (bandM b lo w z S) = r at *
  have e1 : (bandM b lo w z S).1 = if inM b S lo w < z.1 then inM b S lo w else z.1 := rfl
  have e2 : (bandM b lo w z S).2 = if z.2 < inM b S lo w then inM b S lo w else z.2 := rfl
  rw [e1] at h1 h4
  rw [e2] at h2 h5
  refine ⟨?_, ?_, fun T hT => ?_, ?_, ?_⟩
  ·split at h1 <;> omega
  ·split at h2 <;> omega
  ·rcases List.mem_cons.1 hT with rfl | hT
   ·constructor
    ·split at h1 <;> omega
    ·split at h2 <;> omega
   ·exact h3 T hT
  ·rcases h4 with h4 | ⟨T, hT, h4⟩
   ·split at h4
    ·exact .inr ⟨S, List.mem_cons_self, h4⟩
    ·exact .inl h4
   ·exact .inr ⟨T, List.mem_cons_of_mem _ hT, h4⟩
  ·rcases h5 with h5 | ⟨T, hT, h5⟩
   ·split at h5
    ·exact .inr ⟨S, List.mem_cons_self, h5⟩
    ·exact .inl h5
   ·exact .inr ⟨T, List.mem_cons_of_mem _ hT, h5⟩
theorem inM_bd {b : Bk} (hb : BkOk b) {S : List Int} (h : S ∈ statesM b) (lo w : Int) : 0 ≤ inM b S lo w ∧ inM b S lo w ≤ 3 := by
 have h1 := inM_le b S lo w
 have h2 := state_len hb h
 omega
/-- The band of an arc: each state lies in it, and its ends are met. -/
theorem within_of {b : Bk} (hb : BkOk b) (hne : statesM b ≠ []) (lo w : Int) : (∀ S ∈ statesM b, (withinM b (statesM b) lo w).1 ≤ inM b S lo w ∧ inM b S lo w ≤ (withinM b (statesM b) lo w).2) ∧ (∃ S ∈ statesM b, (withinM b (statesM b) lo w).1 = inM b S lo w) ∧ ∃ S ∈ statesM b, (withinM b (statesM b) lo w).2 = inM b S lo w := by
 obtain ⟨_, _, h3, h4, h5⟩ := band_fold b lo w (statesM b) (3, 0)
 obtain ⟨S, hS⟩ := List.exists_mem_of_ne_nil _ hne
 have hi := inM_bd hb hS lo w
 have h6 := h3 S hS
 unfold withinM
 refine ⟨h3, ?_, ?_⟩
 ·rcases h4 with h4 | h4
  ·exact ⟨S, hS, by rw [h4] at h6 ⊢; show (3 : Int) = _; have := h6.1; simp only at this; omega⟩
  ·exact h4
 ·rcases h5 with h5 | h5
  ·exact ⟨S, hS, by rw [h5] at h6 ⊢; show (0 : Int) = _; have := h6.2; simp only at this; omega⟩
  ·exact h5
end Go.Vel
end
section
set_option linter.all false
set_option maxRecDepth 20000
set_option maxHeartbeats 60000000
namespace Go.Vel
open Go Go.Conc Go.Proofs
/-! ### the least of a list, by an order that tells all apart -/
structure Tot {α : Type} (lt : α → α → Bool) : Prop where
 irr : ∀ a, lt a a = false
 tri : ∀ a b, lt a b = false → lt b a = false → a = b
 tr : ∀ a b c, lt a b = true → lt b c = true → lt a c = true
theorem Tot.neg {α : Type} {lt : α → α → Bool} (h : Tot lt) {a b c : α} (h1 : lt a b = false) (h2 : lt c b = true) : lt a c = false := by
 rw [Bool.eq_false_iff] at h1 ⊢
 exact fun h3 => h1 (h.tr _ _ _ h3 h2)
theorem Tot.least {α : Type} {lt : α → α → Bool} (h : Tot lt) : ∀ (xs : List α) (o : α), ∀ y ∈ o :: xs, lt y (firstL lt o xs) = false
 | [], o, y, hy => by
  rw [List.mem_singleton.1 hy]
  exact h.irr o
 | x :: xs, o, y, hy => by
  show lt y (firstL lt (if lt x o = true then x else o) xs) = false
  have ih := h.least xs (if lt x o = true then x else o)
  have key : ∀ z, z = x ∨ z = o → lt z (firstL lt (if lt x o = true then x else o) xs) = false := fun z hz => by
   by_cases hc : lt x o = true
   ·rw [if_pos hc] at ih ⊢
    have h1 := ih x List.mem_cons_self
    rcases hz with rfl | rfl
    ·exact h1
    ·rw [Bool.eq_false_iff] at h1 ⊢
     exact fun h2 => h1 (h.tr _ _ _ hc h2)
   ·rw [if_neg hc] at ih ⊢
    have h1 := ih o List.mem_cons_self
    rcases hz with rfl | rfl
    ·rw [Bool.eq_false_iff] at h1 ⊢
     intro h2
     have hc' : lt z o = false := by simpa using hc
     by_cases h3 : lt o z = true
     ·exact h1 (h.tr _ _ _ h3 h2)
     ·have := h.tri _ _ hc' (by simpa using h3)
      subst this
      exact h1 h2
    ·exact h1
  rcases List.mem_cons.1 hy with rfl | hy
  ·exact key _ (.inr rfl)
  ·rcases List.mem_cons.1 hy with rfl | hy
   ·exact key _ (.inl rfl)
   ·exact ih y (List.mem_cons_of_mem _ hy)
theorem Tot.uniq {α : Type} {lt : α → α → Bool} (h : Tot lt) {o m : α} {xs : List α} (hm : m ∈ o :: xs) (hl : ∀ y ∈ o :: xs, lt y m = false) : firstL lt o xs = m :=
 h.tri _ _ (hl _ firstL_mem) (h.least xs o m hm)
theorem Tot.same {α : Type} {lt : α → α → Bool} (h : Tot lt) {o o' : α} {xs xs' : List α} (he : ∀ y, y ∈ o :: xs ↔ y ∈ o' :: xs') : firstL lt o xs = firstL lt o' xs' :=
 h.uniq ((he _).2 firstL_mem) fun y hy => h.least _ _ y ((he y).1 hy)
/-- the least of a list, and what stands for that of none -/
def minL {α : Type} (lt : α → α → Bool) (d : α) (xs : List α) : α := firstL lt (xs.headD d) (xs.drop 1)
theorem minL_one {α : Type} {lt : α → α → Bool} {d x : α} : minL lt d [x] = x := rfl
theorem minL_app {α : Type} {lt : α → α → Bool} {d x : α} {xs : List α} (h : xs ≠ []) : minL lt d (xs ++ [x]) = if lt x (minL lt d xs) = true then x else minL lt d xs := by
 cases xs with
 | nil => exact absurd rfl h
 | cons y ys =>
  show firstL lt y (ys ++ [x]) = _
  unfold firstL
  rw [List.foldl_append]
  rfl
theorem minL_mem {α : Type} {lt : α → α → Bool} {d : α} {xs : List α} (h : xs ≠ []) : minL lt d xs ∈ xs := by
 cases xs with
 | nil => exact absurd rfl h
 | cons y ys => exact firstL_mem
theorem Tot.minL_same {α : Type} {lt : α → α → Bool} (h : Tot lt) {d : α} {xs ys : List α} (he : ∀ y, y ∈ xs ↔ y ∈ ys) : minL lt d xs = minL lt d ys := by
 cases xs with
 | nil =>
  cases ys with
  | nil => rfl
  | cons y ys => exact absurd ((he y).2 List.mem_cons_self) (by simp)
 | cons x xs =>
  cases ys with
  | nil => exact absurd ((he x).1 List.mem_cons_self) (by simp)
  | cons y ys => exact h.same he
/-! ### lists by number -/
theorem cmpI2_cases (x y : Int) : (x < y ∧ cmpI2 x y = -1) ∨ (x = y ∧ cmpI2 x y = 0) ∨ (y < x ∧ cmpI2 x y = 1) := by
 unfold cmpI2
 rcases Int.lt_trichotomy x y with h | h | h
 ·exact .inl ⟨h, if_pos h⟩
 ·exact .inr (.inl ⟨h, by rw [if_neg (by omega), if_neg (by omega)]⟩)
 ·exact .inr (.inr ⟨h, by rw [if_neg (by omega), if_pos h]⟩)
theorem cmpL_self : ∀ a : List Int, cmpL a a = 0
 | [] => rfl
 | x :: a => by
  have h := cmpI2_cases x x
  have h1 : cmpI2 x x = 0 := by omega
  show (if cmpI2 x x ≠ 0 then _ else cmpL a a) = 0
  rw [if_neg (by omega), cmpL_self a]
theorem cmpL_zero : ∀ a b : List Int, cmpL a b = 0 → a = b
 | [], [], _ => rfl
 | [], _ :: _, h => by cases h
 | _ :: _, [], h => by cases h
 | x :: a, y :: b, h => by
  have hc := cmpI2_cases x y
  have h : (if cmpI2 x y ≠ 0 then cmpI2 x y else cmpL a b) = 0 := h
  by_cases h0 : cmpI2 x y = 0
  ·rw [if_neg (by omega)] at h
   rw [cmpL_zero a b h, show x = y by omega]
  ·rw [if_pos h0] at h; omega
theorem cmpL_neg : ∀ a b : List Int, cmpL b a = - cmpL a b
 | [], [] => rfl
 | [], _ :: _ => rfl
 | _ :: _, [] => rfl
 | x :: a, y :: b => by
  have h1 := cmpI2_cases x y
  have h2 := cmpI2_cases y x
  show (if cmpI2 y x ≠ 0 then cmpI2 y x else cmpL b a) = - (if cmpI2 x y ≠ 0 then cmpI2 x y else cmpL a b)
  by_cases h0 : cmpI2 x y = 0
  ·rw [if_neg (by omega), if_neg (by omega), cmpL_neg a b]
  ·rw [if_pos (by omega), if_pos (by omega)]; omega
theorem cmpL_tr : ∀ a b c : List Int, cmpL a b < 0 → cmpL b c < 0 → cmpL a c < 0
 | [], [], _, h, _ => by cases h
 | [], _ :: _, [], _, h => by cases h
 | [], _ :: _, _ :: _, _, _ => show (-1 : Int) < 0 by omega
 | _ :: _, [], _, h, _ => by cases h
 | _ :: _, _ :: _, [], _, h => by cases h
 | x :: a, y :: b, z :: c, h1, h2 => by
  have h1 : (if cmpI2 x y ≠ 0 then cmpI2 x y else cmpL a b) < 0 := h1
  have h2 : (if cmpI2 y z ≠ 0 then cmpI2 y z else cmpL b c) < 0 := h2
  show (if cmpI2 x z ≠ 0 then cmpI2 x z else cmpL a c) < 0
  have c1 := cmpI2_cases x y
  have c2 := cmpI2_cases y z
  have c3 := cmpI2_cases x z
  by_cases e1 : cmpI2 x y = 0
  ·rw [if_neg (by omega)] at h1
   by_cases e2 : cmpI2 y z = 0
   ·rw [if_neg (by omega)] at h2
    rw [if_neg (by omega)]
    exact cmpL_tr a b c h1 h2
   ·rw [if_pos e2] at h2
    rw [if_pos (by omega)]; omega
  ·rw [if_pos e1] at h1
   by_cases e2 : cmpI2 y z = 0
   ·rw [if_pos (by omega)]; omega
   ·rw [if_pos e2] at h2
    rw [if_pos (by omega)]; omega
theorem ltLists_iff (a c : List Int) : ltLists a c = true ↔ a.length < c.length ∨ (a.length = c.length ∧ cmpL a c < 0) := by unfold ltLists; simp
theorem ltGuess_iff (a c : List Int × Int) : ltGuess a c = true ↔ a.2 < c.2 ∨ (a.2 = c.2 ∧ cmpL a.1 c.1 < 0) := by unfold ltGuess; simp
theorem tot_lists : Tot ltLists := by
 refine ⟨fun a => ?_, fun a b h1 h2 => ?_, fun a b c h1 h2 => ?_⟩
 ·rw [Bool.eq_false_iff, ne_eq, ltLists_iff]; have := cmpL_self a; omega
 ·rw [Bool.eq_false_iff, ne_eq, ltLists_iff] at h1 h2
  have := cmpL_neg a b
  exact cmpL_zero a b (by omega)
 ·rw [ltLists_iff] at h1 h2 ⊢
  have := cmpL_tr a b c
  omega
theorem tot_guess : Tot ltGuess := by
 refine ⟨fun a => ?_, fun a b h1 h2 => ?_, fun a b c h1 h2 => ?_⟩
 ·rw [Bool.eq_false_iff, ne_eq, ltGuess_iff]; have := cmpL_self a.1; omega
 ·rw [Bool.eq_false_iff, ne_eq, ltGuess_iff] at h1 h2
  have := cmpL_neg a.1 b.1
  exact Prod.ext (cmpL_zero a.1 b.1 (by omega)) (by omega)
 ·rw [ltGuess_iff] at h1 h2 ⊢
  have := cmpL_tr a.1 b.1 c.1
  omega
end Go.Vel
end
section
set_option linter.all false
set_option maxRecDepth 20000
set_option maxHeartbeats 60000000
namespace Go.Vel
open Go Go.Conc Go.Proofs
/-! ### the specification's Likely and Clash are the program's -/
theorem own_seen {b : Bk} {S R : List Int} (h : R ∈ ownM b S) : seenM b R = true := by
 unfold ownM at h
 split at h
 ·rename_i hc; rw [List.mem_singleton.1 h]; exact hc
 ·cases h
theorem loop_seen {b : Bk} : ∀ (rest S R : List Int), R ∈ loopM b S rest → seenM b R = true
 | [], S, R, h => by cases h
 | n :: rest, S, R, h => by
  simp only [loopM] at h
  split at h
  ·rcases List.mem_append.1 h with h | h
   ·rcases List.mem_append.1 h with h | h
    ·exact own_seen h
    ·exact loop_seen rest _ R h
   ·exact loop_seen rest _ R h
  ·cases h
theorem all_seen {b : Bk} {R : List Int} (h : R ∈ allM b) : seenM b R = true := by
 rcases List.mem_append.1 h with h | h
 ·exact own_seen h
 ·exact loop_seen _ _ _ h
theorem all_sets {b : Bk} (hb : BkOk b) (S : List Int) : S ∈ allM b ↔ S ∈ setsB b ∧ seenM b S = true := by
 constructor
 ·intro h1
  refine ⟨sets_mem _ S (allM_pair h1) (fun x hx => ?_) ?_, all_seen h1⟩
  ·have := (allM_ok hb S h1).mem x hx; omega
  ·have := all_seen h1
   unfold seenM at this
   simp only [Bool.and_eq_true, decide_eq_true_eq] at this
   exact this.1.2
 ·rintro ⟨h1, h2⟩
  refine memA (sets_pair _ S h1) (fun x hx => ?_) h2
  have := setsM_mem _ S h1 x hx
  have := hb.steps
  omega
def goodS (b : Bk) (S : List Int) : Bool := seenM b S && !badM b S b.seekers.length
def guessS (b : Bk) (pre : List (List Int)) : List (List Int × Int) := (pre.filter (goodS b)).map fun S => (S, wrongM b S)
theorem guessS_T {b : Bk} {A : List (List Int)} {i : Nat} (hi : i < A.length) (h : goodS b A[i] = true) : guessS b (A.take (i + 1)) = guessS b (A.take i) ++ [(A[i], wrongM b A[i])] := by
 unfold guessS; rw [filt_T hi h, List.map_append]; rfl
theorem guessS_F {b : Bk} {A : List (List Int)} {i : Nat} (hi : i < A.length) (h : goodS b A[i] = false) : guessS b (A.take (i + 1)) = guessS b (A.take i) := by
 unfold guessS; rw [filt_F hi h]
theorem guess_same {b : Bk} (hb : BkOk b) (y : List Int × Int) : y ∈ guessS b (setsB b) ↔ y ∈ guessM b (allM b) := by
 unfold guessS guessM goodS
 simp only [List.mem_map, List.mem_filter, Bool.and_eq_true, all_sets hb]
 constructor
 ·rintro ⟨S, ⟨h1, h2, h3⟩, rfl⟩; exact ⟨S, ⟨⟨h1, h2⟩, h3⟩, rfl⟩
 ·rintro ⟨S, ⟨⟨h1, h2⟩, h3⟩, rfl⟩; exact ⟨S, ⟨h1, h2, h3⟩, rfl⟩
theorem likely_eq {b : Bk} (hb : BkOk b) : minL ltGuess ([], 0) (guessS b (setsB b)) = likelyM b :=
 tot_guess.minL_same (guess_same hb)
theorem guess_nil {b : Bk} (hb : BkOk b) : guessS b (setsB b) = [] ↔ guessM b (allM b) = [] := by
 rw [List.eq_nil_iff_forall_not_mem, List.eq_nil_iff_forall_not_mem]
 exact ⟨fun h y hy => h y ((guess_same hb y).2 hy), fun h y hy => h y ((guess_same hb y).1 hy)⟩
/-! Clash -/
def allS (b : Bk) (S l : List Int) : Bool := l.all fun k => rightM b S k.toNat
def togS (b : Bk) (l : List Int) : Bool := (setsB b).any fun S => seenM b S && allS b S l
theorem allR_bits (b : Bk) (S : List Int) (bits n : Nat) : allR b S bits n = allS b S (bitsM n bits) := by
 unfold allR allS bitsM
 rw [List.all_map, List.all_filter]
 rfl
theorem tog_eq {b : Bk} (hb : BkOk b) (bits : Nat) : togM b bits = togS b (bitsM b.seekers.length bits) := by
 rw [Bool.eq_iff_iff]
 unfold togM togS
 simp only [List.any_eq_true, Bool.and_eq_true, allR_bits, all_sets hb]
 constructor
 ·rintro ⟨S, ⟨h1, h2⟩, h3⟩; exact ⟨S, h1, h2, h3⟩
 ·rintro ⟨S, h1, h2, h3⟩; exact ⟨S, ⟨h1, h2⟩, h3⟩
def uptoM (n : Nat) : List Int := (List.range n).map fun k : Nat => (k : Int)
theorem bitB_test (bits i : Nat) : bitB bits i = bits.testBit i := by
 unfold bitB
 rw [Nat.testBit_eq_decide_div_mod_eq, Bool.eq_iff_iff, beq_iff_eq, decide_eq_true_eq]
 omega
theorem bits_all (n : Nat) : bitsM n (2 ^ n - 1) = uptoM n := by
 unfold bitsM uptoM
 rw [List.filter_eq_self.2 fun i hi => ?_]
 rw [bitB_test, Nat.testBit_two_pow_sub_one]
 exact decide_eq_true (List.mem_range.1 hi)
theorem bits_up {n c : Nat} (h : c < 2 ^ n) : bitsM n (2 ^ n + c) = bitsM n c := by
 unfold bitsM
 congr 1
 refine List.filter_congr fun i hi => ?_
 rw [bitB_test, bitB_test, Nat.testBit_two_pow_add_gt (List.mem_range.1 hi)]
theorem bits_get : ∀ (n : Nat) (l : List Int), l.Pairwise (· < ·) → (∀ x ∈ l, 0 ≤ x ∧ x < n) → ∃ c, c < 2 ^ n ∧ bitsM n c = l
 | 0, l, _, hr => by
  cases l with
  | nil => exact ⟨0, by decide, rfl⟩
  | cons x l => have := hr x (by simp); omega
 | n + 1, l, hp, hr => by
  have hpw : 2 ^ (n + 1) = 2 ^ n + 2 ^ n := by rw [Nat.pow_succ]; omega
  have low : (∀ x ∈ l, x < (n : Int)) → ∃ c, c < 2 ^ (n + 1) ∧ bitsM (n + 1) c = l := fun h => by
   obtain ⟨c, h1, h2⟩ := bits_get n l hp fun x hx => ⟨(hr x hx).1, h x hx⟩
   refine ⟨c, by omega, ?_⟩
   rw [bitsM_F, h2]
   rw [bitB_test]
   exact Nat.testBit_lt_two_pow h1
  rcases List.eq_nil_or_concat l with rfl | ⟨y, a, rfl⟩
  ·exact low fun x hx => by cases hx
  ·rw [List.concat_eq_append] at hp hr low ⊢
   have hp2 := List.pairwise_append.1 hp
   have ha := hr a (by simp)
   have hlt : ∀ x ∈ y, x < a := fun x hx => hp2.2.2 x hx a (by simp)
   by_cases e : a = n
   ·subst e
    obtain ⟨c, h1, h2⟩ := bits_get n y hp2.1 fun x hx => ⟨(hr x (by simp [hx])).1, hlt x hx⟩
    refine ⟨2 ^ n + c, by omega, ?_⟩
    rw [bitsM_T, bits_up h1, h2]
    rw [bitB_test, Nat.testBit_two_pow_add_eq, Nat.testBit_lt_two_pow h1]; rfl
   ·refine low fun x hx => ?_
    have h1 := hr x hx
    rcases List.mem_append.1 hx with hx | hx
    ·have := hlt x hx; omega
    ·rw [List.mem_singleton.1 hx] at h1 ⊢; omega
theorem bits_sets {n c : Nat} : bitsM n c ∈ setsM n n := by
 have hp : (uptoM n).Pairwise (· < ·) := by
  unfold uptoM
  rw [List.pairwise_map]
  exact List.pairwise_lt_range.imp fun h => by omega
 have hs : (bitsM n c).Sublist (uptoM n) := List.Sublist.map _ List.filter_sublist
 refine sets_mem n _ (hp.sublist hs) (fun x hx => ?_) (by have := bitsM_len n c; omega)
 obtain ⟨k, hk, rfl⟩ := List.mem_map.1 (hs.subset hx)
 have := List.mem_range.1 hk
 omega
def oddS (b : Bk) (pre : List (List Int)) : List (List Int) := pre.filter fun l => !togS b l
theorem odd_same {b : Bk} (hb : BkOk b) (h0 : togS b (uptoM b.seekers.length) = false) (y : List Int) : y ∈ uptoM b.seekers.length :: oddS b (setsM b.seekers.length b.seekers.length) ↔ y ∈ oddM b (everyM b + 1) := by
 have hpw : everyM b + 1 = 2 ^ b.seekers.length := by unfold everyM; have := Nat.one_le_two_pow (n := b.seekers.length); omega
 unfold oddM oddS
 rw [hpw]
 simp only [List.mem_cons, List.mem_filter, List.mem_map, List.mem_range, tog_eq hb]
 constructor
 ·rintro (rfl | ⟨h1, h2⟩)
  ·exact ⟨2 ^ b.seekers.length - 1, ⟨by have := Nat.one_le_two_pow (n := b.seekers.length); omega, by rw [bits_all, h0]; rfl⟩, bits_all _⟩
  ·obtain ⟨c, h3, h4⟩ := bits_get _ y (sets_pair _ y h1) (setsM_mem _ y h1)
   exact ⟨c, ⟨h3, by rw [h4]; exact h2⟩, h4⟩
 ·rintro ⟨c, ⟨_, h2⟩, rfl⟩
  exact .inr ⟨bits_sets, h2⟩
theorem clash_eq {b : Bk} (hb : BkOk b) (h0 : togS b (uptoM b.seekers.length) = false) : firstL ltLists (uptoM b.seekers.length) (oddS b (setsM b.seekers.length b.seekers.length)) = clashM b := by
 have := tot_lists.minL_same (d := []) (odd_same hb h0)
 exact this
theorem tog_every {b : Bk} (hb : BkOk b) : togM b (everyM b) = togS b (uptoM b.seekers.length) := by
 rw [tog_eq hb, show everyM b = 2 ^ b.seekers.length - 1 from rfl, bits_all]
end Go.Vel
end
section
set_option linter.all false
set_option maxRecDepth 20000
set_option maxHeartbeats 60000000
namespace Go.Vel
open Go Go.Conc Go.Proofs
/-! ### which is likely -/
theorem likely_is {b : Bk} (hb : BkOk b) (hg : guessM b (allM b) ≠ []) : (likelyM b).1 ∈ setsB b ∧ seenM b (likelyM b).1 = true ∧ badM b (likelyM b).1 b.seekers.length = false ∧ (likelyM b).2 = wrongL b (likelyM b).1 b.seekers.length := by
 have h1 : likelyM b ∈ guessM b (allM b) := minL_mem (lt := ltGuess) (d := ([], 0)) hg
 obtain ⟨S, h2, h3⟩ := List.mem_map.1 h1
 obtain ⟨h4, h5⟩ := List.mem_filter.1 h2
 obtain ⟨h6, h7⟩ := (all_sets hb S).1 h4
 have h5 : badM b S b.seekers.length = false := by simpa using h5
 rw [← h3]
 refine ⟨h6, h7, h5, ?_⟩
 show wrongM b S = _
 unfold wrongM
 rw [if_neg (by rw [h5]; decide)]
theorem likely_min {b : Bk} (hb : BkOk b) {S : List Int} (h1 : S ∈ setsB b) (h2 : seenM b S = true) (h3 : badM b S b.seekers.length = false) : guessM b (allM b) ≠ [] ∧ ltGuess (S, (wrongL b S b.seekers.length : Int)) (likelyM b) = false := by
 have hw : wrongM b S = wrongL b S b.seekers.length := by unfold wrongM; rw [if_neg (by rw [h3]; decide)]
 have h8 : (S, wrongM b S) ∈ guessM b (allM b) := List.mem_map.2 ⟨S, List.mem_filter.2 ⟨(all_sets hb S).2 ⟨h1, h2⟩, by rw [h3]; rfl⟩, rfl⟩
 refine ⟨List.ne_nil_of_mem h8, ?_⟩
 rw [← hw]
 unfold likelyM
 generalize guessM b (allM b) = l at h8
 cases l with
 | nil => cases h8
 | cons x xs => exact tot_guess.least xs x _ h8
/-- There is a state just if no more need be wrong than the book says. -/
theorem states_likely {b : Bk} (hb : BkOk b) : statesM b ≠ [] ↔ guessM b (allM b) ≠ [] ∧ (likelyM b).2 ≤ b.wrong := by
 constructor
 ·intro h
  obtain ⟨S, hS⟩ := List.exists_mem_of_ne_nil _ h
  rw [mem_states hb] at hS
  obtain ⟨h1, h2⟩ := hS
  have hc := h2
  unfold canM at hc
  simp only [Bool.and_eq_true, Bool.not_eq_true', decide_eq_true_eq] at hc
  obtain ⟨h3, h4⟩ := likely_min hb h1 hc.2 hc.1.1
  refine ⟨h3, ?_⟩
  rw [Bool.eq_false_iff, ne_eq, ltGuess_iff] at h4
  simp only at h4
  omega
 ·rintro ⟨h1, h2⟩
  obtain ⟨h3, h4, h5, h6⟩ := likely_is hb h1
  refine List.ne_nil_of_mem ((mem_states hb (likelyM b).1).2 ⟨h3, ?_⟩)
  unfold canM
  rw [h5, h4, decide_eq_true (by omega)]; rfl
theorem can_iff (b : Bk) (S : List Int) : canM b S = true ↔ badM b S b.seekers.length = false ∧ (wrongL b S b.seekers.length : Int) ≤ b.wrong ∧ seenM b S = true := by
 unfold canM
 simp only [Bool.and_eq_true, Bool.not_eq_true', decide_eq_true_eq, and_assoc]
end Go.Vel
end
section
set_option linter.all false
set_option maxRecDepth 20000
set_option maxHeartbeats 60000000
namespace Go.Vel
open Go Go.Conc Go.Proofs
/-! ### seams that are handed in; some seekers alone -/
theorem firstNZ_all {f : Nat → Int} : ∀ {n : Nat}, (∀ i, i < n → f i = 0) → firstNZ f n = 0
 | 0, _ => rfl
 | n + 1, h => by
  unfold firstNZ
  rw [if_pos (firstNZ_all fun i hi => h i (by omega))]
  exact h n (by omega)
theorem barH_zero {b : Bk} {xs : List Int} (hp : xs.Pairwise (· < ·)) (hr : ∀ x ∈ xs, 0 ≤ x ∧ x < b.steps) : firstNZ (barH b xs) xs.length = 0 := by
 refine firstNZ_all fun i hi => ?_
 unfold barH
 rw [List.getElem?_eq_getElem hi]
 have h1 := hr _ (List.getElem_mem hi)
 have h2 : isStepM b xs[i] = true := by unfold isStepM; simp only [Bool.and_eq_true, decide_eq_true_eq]; omega
 simp only [h2, Bool.not_true, Bool.false_eq_true, if_false]
 rw [if_neg]
 simp only [Bool.and_eq_true, decide_eq_true_eq]
 rintro ⟨h3, h4⟩
 rw [List.getElem?_eq_getElem (by omega)] at h4
 have := List.pairwise_iff_getElem.1 hp (i - 1) i (by omega) hi (by omega)
 simp only [Option.getD_some] at h4
 omega
theorem handed_zero {b : Bk} {xs : List Int} (hl : xs.length ≤ 3) (hp : xs.Pairwise (· < ·)) (hr : ∀ x ∈ xs, 0 ≤ x ∧ x < b.steps) : handedM b xs = 0 := by
 unfold handedM
 rw [if_neg (by omega)]
 exact barH_zero hp hr
theorem right_zero {b : Bk} (hc : checkM b = 0) {xs : List Int} (hl : xs.length ≤ 3) (hp : xs.Pairwise (· < ·)) (hr : ∀ x ∈ xs, 0 ≤ x ∧ x < b.steps) {k : Nat} (hk : k < b.seekers.length) : rightApi b xs k = (rightM b xs k, 0) := by
 unfold rightApi
 rw [if_neg (by simp [hc]), if_neg (by simp [handed_zero hl hp hr]), if_neg (by unfold isSeekerM; simp; omega), Int.toNat_natCast]
theorem state_zero {b : Bk} (hc : checkM b = 0) {xs : List Int} (hl : (xs.length : Int) ≤ b.high) (hp : xs.Pairwise (· < ·)) (hr : ∀ x ∈ xs, 0 ≤ x ∧ x < b.steps) : stateApi b xs = (canM b xs, 0) := by
 have hb := bkOk_of hc
 have := hb.high
 unfold stateApi
 rw [if_neg (by simp [hc]), if_neg (by simp [handed_zero (by omega) hp hr])]
 congr 1
 cases h : canM b xs with
 | false => rw [Bool.and_false]
 | true =>
  rw [Bool.and_true]
  refine decide_eq_true ((all_sets hb xs).2 ⟨(setsB_iff hb (high_of hc) xs).2 ⟨hp, hr, hl⟩, ((can_iff b xs).1 h).2.2⟩)
end Go.Vel
end
section
set_option linter.all false
set_option maxRecDepth 20000
set_option maxHeartbeats 60000000
namespace Go.Vel
open Go Go.Conc Go.Proofs
/-! ### the specification's first arc is the program's -/
theorem arcK_some {b : Bk} {low k : Nat} : arcK b low = some k ↔ (withinM b (statesM b) low ((k : Int) + 1)).1 > 0 ∧ k < b.steps.toNat ∧ ∀ q < k, ¬ (withinM b (statesM b) low ((q : Int) + 1)).1 > 0 := by
 unfold arcK
 rw [List.find?_range_eq_some]
 simp only [List.mem_range, decide_eq_true_eq, Bool.not_eq_true', decide_eq_false_iff_not]
theorem arcs_mem {b : Bk} {y : Int × Int} : y ∈ arcsOf b (List.range b.steps.toNat) ↔ ∃ low k : Nat, low < b.steps.toNat ∧ arcK b low = some k ∧ y = ((low : Int), (k : Int) + 1) := by
 unfold arcsOf
 rw [List.mem_filterMap]
 constructor
 ·rintro ⟨low, h1, h2⟩
  unfold arcA at h2
  cases h5 : arcK b low with
  | none => rw [h5] at h2; exact absurd h2 (by simp)
  | some m =>
   rw [h5] at h2
   exact ⟨low, m, List.mem_range.1 h1, h5, (Option.some.inj h2).symm⟩
 ·rintro ⟨low, k, h1, h2, h3⟩
  refine ⟨low, List.mem_range.2 h1, ?_⟩
  unfold arcA
  rw [h2, h3]; rfl
theorem narrow_min {b : Bk} (hne : arcsOf b (List.range b.steps.toNat) ≠ []) : narrowM b ∈ arcsOf b (List.range b.steps.toNat) ∧ ∀ y ∈ arcsOf b (List.range b.steps.toNat), ltArc y (narrowM b) = false := by
 unfold narrowM
 generalize arcsOf b (List.range b.steps.toNat) = l at hne
 cases l with
 | nil => exact absurd rfl hne
 | cons x xs => exact ⟨firstL_mem, firstL_min⟩
theorem narrow_first {b : Bk} {w f : Int} (h1 : 1 ≤ w) (h2 : w ≤ b.steps) (h3 : 0 ≤ f) (h4 : f < b.steps) (hp : (withinM b (statesM b) f w).1 > 0)
  (hno : ∀ w' f' : Int, 1 ≤ w' → w' < w → 0 ≤ f' → f' < b.steps → ¬ (withinM b (statesM b) f' w').1 > 0)
  (hno2 : ∀ f' : Int, 0 ≤ f' → f' < f → ¬ (withinM b (statesM b) f' w).1 > 0) :
  arcsOf b (List.range b.steps.toNat) ≠ [] ∧ narrowM b = (f, w) := by
 obtain ⟨f, rfl⟩ := Int.eq_ofNat_of_zero_le h3
 obtain ⟨k, hk⟩ := Int.eq_ofNat_of_zero_le (show 0 ≤ w - 1 by omega)
 obtain rfl : w = (k : Int) + 1 := by omega
 have hm : ((f : Int), (k : Int) + 1) ∈ arcsOf b (List.range b.steps.toNat) :=
  arcs_mem.2 ⟨f, k, by omega, arcK_some.2 ⟨hp, by omega, fun q hq => hno _ _ (by omega) (by omega) h3 h4⟩, rfl⟩
 have hne : arcsOf b (List.range b.steps.toNat) ≠ [] := List.ne_nil_of_mem hm
 refine ⟨hne, ?_⟩
 obtain ⟨h5, h6⟩ := narrow_min hne
 have h7 := h6 _ hm
 generalize narrowM b = m at h5 h7
 obtain ⟨low, k', h8, h9, rfl⟩ := arcs_mem.1 h5
 obtain ⟨h10, h11, h12⟩ := arcK_some.1 h9
 rw [Bool.eq_false_iff, ne_eq, ltArc_iff] at h7
 simp only at h7
 have hk1 : ¬ k' < k := fun h => hno _ _ (by omega) (by omega) (by omega) (by omega) h10
 have hk2 : k' = k := by
  refine Classical.byContradiction fun h => ?_
  omega
 subst hk2
 have hf1 : ¬ low < f := fun h => hno2 low (by omega) (by omega) h10
 have hf2 : low = f := by omega
 rw [hf2]
theorem narrow_none {b : Bk} (hno : ∀ w' f' : Int, 1 ≤ w' → w' ≤ b.steps → 0 ≤ f' → f' < b.steps → ¬ (withinM b (statesM b) f' w').1 > 0) :
  arcsOf b (List.range b.steps.toNat) = [] := by
 refine List.eq_nil_iff_forall_not_mem.2 fun y hy => ?_
 obtain ⟨low, k, h1, h2, _⟩ := arcs_mem.1 hy
 obtain ⟨h3, h4, _⟩ := arcK_some.1 h2
 exact hno _ _ (by omega) (by omega) (by omega) (by omega) h3
end Go.Vel
end
section
set_option linter.all false
set_option maxRecDepth 20000
set_option maxHeartbeats 60000000
namespace Go.Vel
open Go Go.Conc Go.Proofs
/-! ### books that are made of others -/
theorem nodup_le {α : Type} : ∀ {l1 l2 : List α}, l1.Nodup → (∀ x ∈ l1, x ∈ l2) → l1.length ≤ l2.length
 | [], _, _, _ => Nat.zero_le _
 | x :: l1, l2, hn, hs => by
  obtain ⟨h1, h2⟩ := List.nodup_cons.1 hn
  obtain ⟨a, c, rfl⟩ := List.append_of_mem (hs x (by simp))
  have := nodup_le (l1 := l1) (l2 := a ++ c) h2 fun y hy => by
   have hne : y ≠ x := fun e => h1 (e ▸ hy)
   have := hs y (by simp [hy])
   simpa [hne] using this
  simp at this ⊢; omega
theorem seen_look (b : Bk) (x : Seen) (S : List Int) : seenM (lookB b x) S = (seenM b S && (decide (x.step ∈ S) == x.seam)) := by
 unfold seenM lookB
 rw [List.any_append, show ([x].any fun x => decide (x.step ∈ S) != x.seam) = (decide (x.step ∈ S) != x.seam) by simp]
 cases decide (b.low ≤ (S.length : Int)) <;> cases decide ((S.length : Int) ≤ b.high) <;> cases (b.seen.any fun x => decide (x.step ∈ S) != x.seam) <;> cases decide (x.step ∈ S) <;> cases x.seam <;> rfl
theorem can_look (b : Bk) (x : Seen) (S : List Int) : canM (lookB b x) S = (canM b S && (decide (x.step ∈ S) == x.seam)) := by
 unfold canM
 rw [seen_look, show badM (lookB b x) S (lookB b x).seekers.length = badM b S b.seekers.length from rfl, show wrongL (lookB b x) S (lookB b x).seekers.length = wrongL b S b.seekers.length from rfl, show (lookB b x).wrong = b.wrong from rfl, Bool.and_assoc, Bool.and_assoc, Bool.and_assoc]
theorem states_look {b : Bk} {x : Seen} (hb : BkOk b) (hx : BkOk (lookB b x)) (S : List Int) : S ∈ statesM (lookB b x) ↔ S ∈ statesM b ∧ decide (x.step ∈ S) = x.seam := by
 rw [mem_states hx, mem_states hb, can_look, show setsB (lookB b x) = setsB b from rfl, Bool.and_eq_true, beq_iff_eq, and_assoc]
theorem giveB_get (b : Bk) (k j : Nat) : (giveB b k).seekers[j]? = (b.seekers[j]?).map fun x => if j = k then { x with glass := true } else x := by
 unfold giveB
 simp only [List.getElem?_modify]
 cases b.seekers[j]? with
 | none => rfl
 | some x => by_cases h : k = j <;> simp [h, eq_comm]
theorem right_give (b : Bk) (k : Nat) (S : List Int) (j : Nat) : rightM (giveB b k) S j = rightM b S j := by
 unfold rightM
 rw [giveB_get]
 cases b.seekers[j]? with
 | none => rfl
 | some x => by_cases h : j = k <;> simp [h] <;> rfl
theorem glass_give (b : Bk) (k : Nat) (j : Nat) : glassM (giveB b k) j = (glassM b j || (decide (j = k) && decide (j < b.seekers.length))) := by
 unfold glassM
 rw [giveB_get]
 cases h : b.seekers[j]? with
 | none =>
  have : ¬ j < b.seekers.length := by simpa using h
  simp [this]
 | some x =>
  have : j < b.seekers.length := (List.getElem?_eq_some_iff.1 h).1
  by_cases h : j = k <;> simp [h, this]
  exact .inr (h ▸ this)
theorem giveB_len (b : Bk) (k : Nat) : (giveB b k).seekers.length = b.seekers.length := by unfold giveB; simp
theorem bad_give {b : Bk} {k : Nat} (hk : k < b.seekers.length) (S : List Int) : badM (giveB b k) S (giveB b k).seekers.length = (badM b S b.seekers.length || !rightM b S k) := by
 rw [giveB_len]
 unfold badM
 rw [Bool.eq_iff_iff]
 simp only [List.any_eq_true, List.mem_range, Bool.and_eq_true, Bool.or_eq_true, Bool.not_eq_true', right_give, glass_give, decide_eq_true_eq]
 constructor
 ·rintro ⟨j, h1, h2, h3 | ⟨rfl, _⟩⟩
  ·exact .inl ⟨j, h1, h2, h3⟩
  ·exact .inr h2
 ·rintro (⟨j, h1, h2, h3⟩ | h)
  ·exact ⟨j, h1, h2, .inl h3⟩
  ·exact ⟨k, hk, h, .inr ⟨rfl, hk⟩⟩
theorem wrong_give (b : Bk) (k : Nat) (S : List Int) : wrongL (giveB b k) S (giveB b k).seekers.length = wrongL b S b.seekers.length := by
 rw [giveB_len]
 unfold wrongL
 simp only [right_give]
theorem can_give {b : Bk} {k : Nat} (hk : k < b.seekers.length) (S : List Int) : canM (giveB b k) S = (canM b S && rightM b S k) := by
 unfold canM
 rw [bad_give hk, wrong_give, show seenM (giveB b k) S = seenM b S from rfl, show (giveB b k).wrong = b.wrong from rfl]
 cases badM b S b.seekers.length <;> cases rightM b S k <;> cases decide ((wrongL b S b.seekers.length : Int) ≤ b.wrong) <;> cases seenM b S <;> rfl
theorem states_give {b : Bk} {k : Nat} (hb : BkOk b) (hx : BkOk (giveB b k)) (hk : k < b.seekers.length) (S : List Int) : S ∈ statesM (giveB b k) ↔ S ∈ statesM b ∧ rightM b S k = true := by
 rw [mem_states hx, mem_states hb, can_give hk, show setsB (giveB b k) = setsB b from rfl, Bool.and_eq_true, and_assoc]
theorem right_hear {b : Bk} {x : Says} {S : List Int} {j : Nat} (h : j < b.seekers.length) : rightM (hearB b x) S j = rightM b S j := by
 unfold rightM hearB
 simp only [List.getElem?_append_left h]
 rfl
theorem can_hear {b : Bk} {x : Says} {S : List Int} (h : canM (hearB b x) S = true) : canM b S = true := by
 unfold canM at h ⊢
 have e : (hearB b x).seekers.length = b.seekers.length + 1 := by unfold hearB; simp
 have hb : badM b S b.seekers.length = true → badM (hearB b x) S (b.seekers.length + 1) = true := fun h => by
  unfold badM at h ⊢
  obtain ⟨j, h1, h2⟩ := List.any_eq_true.1 h
  have h3 := List.mem_range.1 h1
  refine List.any_eq_true.2 ⟨j, List.mem_range.2 (by omega), ?_⟩
  rw [right_hear h3, show glassM (hearB b x) j = glassM b j by unfold glassM hearB; simp only [List.getElem?_append_left h3]]
  exact h2
 have hw : wrongL b S b.seekers.length ≤ wrongL (hearB b x) S (b.seekers.length + 1) := by
  unfold wrongL
  have e2 : (List.range b.seekers.length).filter (fun k => !rightM b S k) = (List.range b.seekers.length).filter (fun k => !rightM (hearB b x) S k) := List.filter_congr fun j hj => by rw [right_hear (List.mem_range.1 hj)]
  rw [List.range_succ, List.filter_append, List.length_append, e2]
  exact Nat.le_add_right _ _
 rw [e] at h
 simp only [Bool.and_eq_true, Bool.not_eq_true', decide_eq_true_eq] at h ⊢
 obtain ⟨⟨h1, h2⟩, h3⟩ := h
 refine ⟨⟨?_, ?_⟩, h3⟩
 ·rw [Bool.eq_false_iff]; exact fun h => by rw [hb h] at h1; cases h1
 ·have : (hearB b x).wrong = b.wrong := rfl
  omega
/-- A book that leaves no more than another one of as many steps. -/
structure Less (was now : Bk) : Prop where
 okw : BkOk was
 okn : BkOk now
 steps : now.steps = was.steps
 sub : ∀ S ∈ statesM now, S ∈ statesM was
 ne : statesM now ≠ []
namespace Less
variable {was now : Bk}
theorem wne (h : Less was now) : statesM was ≠ [] := fun e => by
 obtain ⟨S, hS⟩ := List.exists_mem_of_ne_nil _ h.ne
 have := h.sub S hS
 rw [e] at this
 cases this
theorem inM (h : Less was now) (S : List Int) (lo w : Int) : inM now S lo w = inM was S lo w := by unfold Vel.inM; rw [h.steps]
theorem many (h : Less was now) : 1 ≤ ((statesM now).length : Int) ∧ ((statesM now).length : Int) ≤ (statesM was).length := by
 have h1 := nodup_le (states_nodup now) h.sub
 have h2 : (statesM now).length ≠ 0 := fun e => h.ne (List.length_eq_zero_iff.1 e)
 omega
theorem counts (h : Less was now) {n : Int} (hn : n ∈ countsM now) : n ∈ countsM was := by
 obtain ⟨S, h1, h2⟩ := (counts_mem h.okn n).1 hn
 exact (counts_mem h.okw n).2 ⟨S, h.sub S h1, h2⟩
theorem at_ (h : Less was now) (n : Int) (hu : wordM (statesM was).length (oftM (statesM was) n) ≠ 0) : wordM (statesM was).length (oftM (statesM was) n) = wordM (statesM now).length (oftM (statesM now) n) := by
 obtain ⟨w1, w2, w3⟩ := word_at h.wne n
 obtain ⟨v1, v2, _⟩ := word_at h.ne n
 have hc : wordM (statesM was).length (oftM (statesM was) n) = 1 ∨ wordM (statesM was).length (oftM (statesM was) n) = 2 := by
  unfold wordM at hu ⊢
  split at hu
  ·exact .inl (by rw [if_pos (by assumption)])
  ·split at hu
   ·exact .inr (by rw [if_neg (by assumption), if_pos (by assumption)])
   ·exact absurd rfl hu
 rcases hc with hc | hc
 ·rw [hc, v1.2 fun S hS => w1.1 hc S (h.sub S hS)]
 ·rw [hc, v2.2 fun S hS => w2.1 hc S (h.sub S hS)]
theorem wrong (h : Less was now) (k : Nat) (hr : ∀ S ∈ statesM now, rightM now S k = rightM was S k) (hu : wordM (statesM was).length ((statesM was).length - rightsM was (statesM was) k) ≠ 0) : wordM (statesM was).length ((statesM was).length - rightsM was (statesM was) k) = wordM (statesM now).length ((statesM now).length - rightsM now (statesM now) k) := by
 obtain ⟨w1, w2, _⟩ := word_wrong (c := was) h.wne k
 obtain ⟨v1, v2, _⟩ := word_wrong (c := now) h.ne k
 have hc : wordM (statesM was).length ((statesM was).length - rightsM was (statesM was) k) = 1 ∨ wordM (statesM was).length ((statesM was).length - rightsM was (statesM was) k) = 2 := by
  unfold wordM at hu ⊢
  split at hu
  ·exact .inl (by rw [if_pos (by assumption)])
  ·split at hu
   ·exact .inr (by rw [if_neg (by assumption), if_pos (by assumption)])
   ·exact absurd rfl hu
 rcases hc with hc | hc
 ·rw [hc, v1.2 fun S hS => by rw [hr S hS]; exact w1.1 hc S (h.sub S hS)]
 ·rw [hc, v2.2 fun S hS => by rw [hr S hS]; exact w2.1 hc S (h.sub S hS)]
theorem within (h : Less was now) (lo w : Int) : (withinM was (statesM was) lo w).1 ≤ (withinM now (statesM now) lo w).1 ∧ (withinM now (statesM now) lo w).1 ≤ (withinM now (statesM now) lo w).2 ∧ (withinM now (statesM now) lo w).2 ≤ (withinM was (statesM was) lo w).2 := by
 obtain ⟨a1, _, _⟩ := within_of h.okw h.wne lo w
 obtain ⟨b1, ⟨S, hS, b2⟩, ⟨T, hT, b3⟩⟩ := within_of h.okn h.ne lo w
 have c1 := a1 S (h.sub S hS)
 have c2 := a1 T (h.sub T hT)
 have c3 := b1 S hS
 rw [← h.inM S lo w] at c1
 rw [← h.inM T lo w] at c2
 omega
theorem arcs (h : Less was now) (ha : arcsOf was (List.range was.steps.toNat) ≠ []) : arcsOf now (List.range now.steps.toNat) ≠ [] ∧ (narrowM now).2 ≤ (narrowM was).2 := by
 obtain ⟨h1, _⟩ := narrow_min ha
 obtain ⟨low, k, h2, h3, h4⟩ := arcs_mem.1 h1
 obtain ⟨h5, h6, _⟩ := arcK_some.1 h3
 have h7 := (h.within low ((k : Int) + 1)).1
 have hp : (withinM now (statesM now) low ((k : Int) + 1)).1 > 0 := by omega
 obtain ⟨q, hq⟩ : ∃ q, arcK now low = some q := by
  cases hc : arcK now low with
  | some q => exact ⟨q, rfl⟩
  | none =>
   unfold arcK at hc
   rw [List.find?_eq_none] at hc
   have := hc k (List.mem_range.2 (by rw [h.steps]; exact h6))
   exact absurd hp (by simpa using this)
 have hqk : q ≤ k := by
  obtain ⟨_, _, h8⟩ := arcK_some.1 hq
  refine Classical.byContradiction fun hc => h8 k (by omega) hp
 have hm : ((low : Int), (q : Int) + 1) ∈ arcsOf now (List.range now.steps.toNat) := arcs_mem.2 ⟨low, q, by rw [h.steps]; exact h2, hq, rfl⟩
 have hne : arcsOf now (List.range now.steps.toNat) ≠ [] := List.ne_nil_of_mem hm
 refine ⟨hne, ?_⟩
 have h9 := (narrow_min hne).2 _ hm
 rw [Bool.eq_false_iff, ne_eq, ltArc_iff] at h9
 rw [h4]
 simp only at h9 ⊢
 omega
end Less
theorem less_look {b : Bk} {x : Seen} (hb : BkOk b) (hx : BkOk (lookB b x)) (hne : statesM (lookB b x) ≠ []) : Less b (lookB b x) := ⟨hb, hx, rfl, fun S hS => ((states_look hb hx S).1 hS).1, hne⟩
theorem less_give {b : Bk} {k : Nat} (hb : BkOk b) (hx : BkOk (giveB b k)) (hk : k < b.seekers.length) (hne : statesM (giveB b k) ≠ []) : Less b (giveB b k) := ⟨hb, hx, rfl, fun S hS => ((states_give hb hx hk S).1 hS).1, hne⟩
theorem less_hear {b : Bk} {x : Says} (hb : BkOk b) (hx : BkOk (hearB b x)) (hne : statesM (hearB b x) ≠ []) : Less b (hearB b x) :=
 ⟨hb, hx, rfl, fun S hS => by rw [mem_states hx] at hS; rw [mem_states hb]; exact ⟨hS.1, can_hear hS.2⟩, hne⟩
end Go.Vel
end
section
set_option linter.all false
set_option maxRecDepth 20000
set_option maxHeartbeats 60000000
namespace Go.Vel
open Go Go.Conc Go.Proofs
/-! ### arcs -/
theorem emod_cases {a n : Int} (h0 : 0 ≤ a) (h1 : a < 2 * n) : (a < n ∧ a % n = a) ∨ (n ≤ a ∧ a % n = a - n) := by
 by_cases h : a < n
 ·exact .inl ⟨h, Int.emod_eq_of_lt h0 h⟩
 ·refine .inr ⟨by omega, ?_⟩
  rw [← Int.sub_emod_right a n]
  exact Int.emod_eq_of_lt (by omega) (by omega)
theorem wide_arc {n i w : Int} (h0 : 0 ≤ i) (h1 : i < n) (h2 : 1 ≤ w) (h3 : w ≤ n) : ((i + w - 1) % n - i + n) % n + 1 = w := by
 have e1 := emod_cases (a := i + w - 1) (n := n) (by omega) (by omega)
 have e2 := emod_cases (a := (i + w - 1) % n - i + n) (n := n) (by omega) (by omega)
 omega
theorem wide_rest {n i w : Int} (h0 : 0 ≤ i) (h1 : i < n) (h2 : 1 ≤ w) (h3 : w < n) : ((i + n - 1) % n - (i + w) % n + n) % n + 1 = n - w := by
 have e1 := emod_cases (a := i + n - 1) (n := n) (by omega) (by omega)
 have e3 := emod_cases (a := i + w) (n := n) (by omega) (by omega)
 have e2 := emod_cases (a := (i + n - 1) % n - (i + w) % n + n) (n := n) (by omega) (by omega)
 omega
theorem step_emod {b : Bk} (hb : BkOk b) (x : Int) : isStepM b (x % b.steps) = true := by
 have := hb.steps
 have h1 := Int.emod_nonneg x (show b.steps ≠ 0 by omega)
 have h2 := Int.emod_lt_of_pos x (show 0 < b.steps by omega)
 unfold isStepM
 simp only [Bool.and_eq_true, decide_eq_true_eq]
 omega
theorem asc_nodup {l : List Int} (h : l.Pairwise (· < ·)) : l.Nodup := h.imp fun h e => by omega
end Go.Vel
end
section
set_option linter.all false
set_option maxRecDepth 20000
set_option maxHeartbeats 60000000
namespace Go.Vel
open Go Go.Conc Go.Proofs
/-! ### which books are valid; what is asked -/
theorem check_iff (b : Bk) : checkM b = 0 ↔ numbersM b = 0 ∧ heardM b = 0 ∧ lookedM b = 0 := by
 unfold checkM
 by_cases h1 : numbersM b = 0
 ·by_cases h2 : heardM b = 0
  ·rw [if_neg (by simpa using h1), if_neg (by simpa using h2)]
   exact ⟨fun h => ⟨h1, h2, h⟩, fun h => h.2.2⟩
  ·rw [if_neg (by simpa using h1), if_pos (by simpa using h2)]
   exact ⟨fun h => absurd h h2, fun h => absurd h.2.1 h2⟩
 ·rw [if_pos (by simpa using h1)]
  exact ⟨fun h => absurd h h1, fun h => absurd h.1 h1⟩
theorem heard_look (b : Bk) (x : Seen) : heardM (lookB b x) = heardM b := by
 have h1 : ∀ n, heardL (lookB b x) n = heardL b n := fun n => by
  induction n with
  | zero => rfl
  | succ n ih => unfold heardL; rw [ih]; rfl
 unfold heardM
 rw [show (lookB b x).seekers = b.seekers from rfl, h1]
theorem looked_look {b : Bk} {x : Seen} (h : lookedM b = 0) (hx : isStepM b x.step = true) : (b.seen.length < 4 → lookedM (lookB b x) = 0) ∧ (lookedM (lookB b x) = 0 ∨ lookedM (lookB b x) = 2) := by
 unfold lookedM at h
 split at h
 ·cases h
 ·rename_i h1
  split at h
  ·cases h
  ·rename_i h2
   unfold lookedM
   have e : (lookB b x).seen.length = b.seen.length + 1 := by unfold lookB; simp
   have e2 : ((lookB b x).seen.any fun y => !isStepM (lookB b x) y.step) = false := by
    show ((b.seen ++ [x]).any fun y => !isStepM b y.step) = false
    rw [List.any_append, show (b.seen.any fun y => !isStepM b y.step) = false by simpa using h2]
    simp [hx]
   rw [e, e2]
   refine ⟨fun h4 => by rw [if_neg (by omega)]; rfl, ?_⟩
   split
   ·exact .inr rfl
   ·exact .inl rfl
theorem check_look {b : Bk} {x : Seen} (h : checkM b = 0) (hx : isStepM b x.step = true) (hl : b.seen.length < 4) : checkM (lookB b x) = 0 := by
 obtain ⟨h1, h2, h3⟩ := (check_iff b).1 h
 exact (check_iff _).2 ⟨h1, (heard_look b x).trans h2, (looked_look h3 hx).1 hl⟩
theorem check_look2 {b : Bk} {x : Seen} (h : checkM b = 0) (hx : isStepM b x.step = true) : checkM (lookB b x) = 0 ∨ checkM (lookB b x) = 2 := by
 obtain ⟨h1, h2, h3⟩ := (check_iff b).1 h
 rcases (looked_look h3 hx).2 with h4 | h4
 ·exact .inl ((check_iff _).2 ⟨h1, (heard_look b x).trans h2, h4⟩)
 ·refine .inr ?_
  unfold checkM
  rw [show numbersM (lookB b x) = numbersM b from rfl, h1, heard_look, h2, h4]; rfl
theorem names_give (b : Bk) (k : Nat) : (giveB b k).seekers.map (·.name) = b.seekers.map (·.name) := by
 refine List.ext_getElem? fun j => ?_
 rw [List.getElem?_map, List.getElem?_map, giveB_get]
 cases b.seekers[j]? with
 | none => rfl
 | some x => by_cases h : j = k <;> simp [h]
theorem any_name (l : List Says) (i : Nat) (n : ByteArray) : ((l.take i).any fun o => o.name.toList == n.toList) = (((l.map (·.name)).take i).any fun o => o.toList == n.toList) := by
 rw [← List.map_take, List.any_map]; rfl
theorem heard1_give (b : Bk) (k i : Nat) : heard1 (giveB b k) i = heard1 b i := by
 unfold heard1
 rw [giveB_get]
 cases b.seekers[i]? with
 | none => rfl
 | some x =>
  simp only [Option.map_some]
  rw [any_name, names_give, ← any_name]
  by_cases h : i = k
  ·rw [if_pos h]; rfl
  ·rw [if_neg h]; rfl
theorem check_give {b : Bk} {k : Nat} (h : checkM b = 0) : checkM (giveB b k) = 0 := by
 obtain ⟨h1, h2, h3⟩ := (check_iff b).1 h
 refine (check_iff _).2 ⟨h1, ?_, h3⟩
 have h4 : ∀ n, heardL (giveB b k) n = heardL b n := fun n => by
  induction n with
  | zero => rfl
  | succ n ih => unfold heardL; rw [ih, heard1_give]
 unfold heardM at h2 ⊢
 rw [giveB_len, h4]; exact h2
theorem ask_iff {b : Bk} (h : checkM b = 0) : (askM b true = 0 ↔ statesM b ≠ []) ∧ (askM b true = 9 ↔ statesM b = []) ∧ (askM b true = 0 ∨ askM b true = 9) := by
 unfold askM
 rw [if_neg (by simp [h]), if_neg (by decide)]
 by_cases h0 : statesM b = []
 ·simp [h0]
 ·simp [h0]
theorem states_zero {b : Bk} : statesM b = [] ↔ ((statesM b).length : Int) = 0 := by
 rw [← List.length_eq_zero_iff]; omega
/-- How many states are left once it was looked. -/
theorem many_look {b : Bk} (hb : BkOk b) {i : Int} {t : Bool} (hx : BkOk (lookB b ⟨i, t⟩)) : ((statesM (lookB b ⟨i, t⟩)).length : Int) = if t = true then oftM (statesM b) i else (statesM b).length - oftM (statesM b) i := by
 have key : (statesM (lookB b ⟨i, t⟩)).length = ((statesM b).filter fun S => decide (i ∈ S) == t).length := by
  refine List.Perm.length_eq ((List.perm_ext_iff_of_nodup (states_nodup _) ((states_nodup b).filter _)).2 fun S => ?_)
  rw [states_look hb hx, List.mem_filter, beq_iff_eq]
 rw [key, oft_len]
 cases t with
 | true => rw [if_pos rfl]; congr 2; exact List.filter_congr fun S _ => by cases decide (i ∈ S) <;> rfl
 | false =>
  rw [if_neg (by decide)]
  have h1 := filt_add (fun S => decide (i ∈ S)) (statesM b)
  have h2 : ((statesM b).filter fun S => decide (i ∈ S) == false) = (statesM b).filter fun S => !decide (i ∈ S) := List.filter_congr fun S _ => by cases decide (i ∈ S) <;> rfl
  rw [h2]; omega
theorem many_give {b : Bk} (hb : BkOk b) {k : Nat} (hk : k < b.seekers.length) (hx : BkOk (giveB b k)) : ((statesM (giveB b k)).length : Int) = rightsM b (statesM b) k := by
 unfold rightsM
 congr 1
 refine List.Perm.length_eq ((List.perm_ext_iff_of_nodup (states_nodup _) ((states_nodup b).filter _)).2 fun S => ?_)
 rw [states_give hb hx hk, List.mem_filter]
theorem halves_of (len : Int) (p : Nat → Bool) (f : Nat → Int) : ∀ N : Nat,
  (((halvesM len p f N).1 = -1 ∧ (halvesM len p f N).2 = len) ∨ ∃ k : Nat, k < N ∧ (halvesM len p f N).1 = k ∧ p k = true ∧ (halvesM len p f N).2 = maxM (f k) (len - f k) ∧ (halvesM len p f N).2 < len) ∧
  ∀ k : Nat, k < N → p k = true → (halvesM len p f N).2 ≤ maxM (f k) (len - f k) ∧ (maxM (f k) (len - f k) = (halvesM len p f N).2 → (halvesM len p f N).1 ≤ k)
 | 0 => ⟨.inl ⟨rfl, rfl⟩, fun k h => absurd h (Nat.not_lt_zero _)⟩
 | N + 1 => by
  obtain ⟨h1, h2⟩ := halves_of len p f N
  have hle : (halvesM len p f N).2 ≤ len := by rcases h1 with h1 | ⟨_, _, _, _, _, h⟩ <;> omega
  by_cases hc : (p N && decide (maxM (f N) (len - f N) < (halvesM len p f N).2)) = true
  ·have e : halvesM len p f (N + 1) = ((N : Int), maxM (f N) (len - f N)) := if_pos hc
   simp only [Bool.and_eq_true, decide_eq_true_eq] at hc
   rw [e]
   refine ⟨.inr ⟨N, by omega, rfl, hc.1, rfl, by simp only; omega⟩, fun k hk hp => ?_⟩
   simp only
   by_cases hkN : k = N
   ·subst hkN; exact ⟨Int.le_refl _, fun _ => Int.le_refl _⟩
   ·have := (h2 k (by omega) hp).1
    exact ⟨by omega, fun h => by omega⟩
  ·have e : halvesM len p f (N + 1) = halvesM len p f N := if_neg hc
   rw [e]
   refine ⟨?_, fun k hk hp => ?_⟩
   ·rcases h1 with h1 | ⟨k, h3, h4⟩
    ·exact .inl h1
    ·exact .inr ⟨k, by omega, h4⟩
   ·by_cases hkN : k = N
    ·subst hkN
     simp only [hp, Bool.true_and, decide_eq_true_eq] at hc
     refine ⟨by omega, fun _ => ?_⟩
     rcases h1 with h1 | ⟨q, h3, h4, _⟩ <;> omega
    ·exact h2 k (by omega) hp
end Go.Vel
end
section
set_option linter.all false
set_option maxRecDepth 20000
set_option maxHeartbeats 60000000
namespace Go.Vel
open Go Go.Conc Go.Proofs
/-! ### a book by its lists -/
def okSay (b : Bk) (x : Says) : Prop := isNameM x.name = true ∧ isStepM b x.frm = true ∧ isStepM b x.til = true ∧ 0 ≤ x.says ∧ x.says ≤ 2
theorem heardL_iff (b : Bk) : ∀ n, heardL b n = 0 ↔ ∀ i, i < n → heard1 b i = 0
 | 0 => ⟨fun _ i h => absurd h (Nat.not_lt_zero _), fun _ => rfl⟩
 | n + 1 => by
  have ih := heardL_iff b n
  unfold heardL
  constructor
  ·intro h i hi
   split at h
   ·rename_i h0
    by_cases e : i = n
    ·subst e; exact h
    ·exact ih.1 h0 i (by omega)
   ·rename_i h0; exact absurd h h0
  ·intro h
   rw [if_pos (ih.2 fun i hi => h i (by omega))]
   exact h n (by omega)
theorem heard1_iff {b : Bk} {i : Nat} (hi : i < b.seekers.length) : heard1 b i = 0 ↔ okSay b b.seekers[i] ∧ ∀ j, (hj : j < i) → b.seekers[j].name.toList ≠ b.seekers[i].name.toList := by
 unfold heard1 okSay
 rw [List.getElem?_eq_getElem hi]
 simp only
 have ha : ((b.seekers.take i).any fun o => o.name.toList == b.seekers[i].name.toList) = true ↔ ∃ j, ∃ hj : j < i, b.seekers[j].name.toList = b.seekers[i].name.toList := by
  rw [List.any_eq_true]
  constructor
  ·rintro ⟨x, hx, h⟩
   obtain ⟨j, hj, rfl⟩ := List.mem_iff_getElem.1 hx
   rw [List.length_take] at hj
   exact ⟨j, by omega, by simpa using h⟩
  ·rintro ⟨j, hj, h⟩
   exact ⟨b.seekers[j], List.mem_iff_getElem.2 ⟨j, by rw [List.length_take]; omega, by simp⟩, by simpa using h⟩
 cases h1 : isNameM b.seekers[i].name
 ·simp
 ·rw [if_neg (by simp)]
  cases h2 : ((b.seekers.take i).any fun o => o.name.toList == b.seekers[i].name.toList)
  ·rw [if_neg (by simp)]
   have h2' : ∀ j, (hj : j < i) → b.seekers[j].name.toList ≠ b.seekers[i].name.toList := fun j hj e => by rw [ha.2 ⟨j, hj, e⟩] at h2; cases h2
   cases h3 : isStepM b b.seekers[i].frm
   ·simp
   ·cases h4 : isStepM b b.seekers[i].til
    ·simp
    ·rw [if_neg (by simp)]
     by_cases h5 : b.seekers[i].says < 0
     ·simp [h5]; omega
     ·by_cases h6 : b.seekers[i].says > 2
      ·simp [h6]; omega
      ·rw [if_neg (by simp; omega)]
       exact ⟨fun _ => ⟨⟨rfl, rfl, rfl, by omega, by omega⟩, h2'⟩, fun _ => rfl⟩
  ·rw [if_pos rfl]
   obtain ⟨j, hj, e⟩ := ha.1 h2
   exact ⟨(fun h => by cases h), fun h => absurd e (h.2 j hj)⟩
theorem heard_ok_iff (b : Bk) : heardM b = 0 ↔ b.seekers.length ≤ 5 ∧ (∀ x ∈ b.seekers, okSay b x) ∧ (b.seekers.map (·.name.toList)).Nodup := by
 unfold heardM
 by_cases hl : b.seekers.length > 5
 ·rw [if_pos hl]; exact ⟨(fun h => by cases h), fun h => by omega⟩
 ·rw [if_neg hl, heardL_iff]
  constructor
  ·intro h
   refine ⟨by omega, fun x hx => ?_, ?_⟩
   ·obtain ⟨i, hi, rfl⟩ := List.mem_iff_getElem.1 hx
    exact ((heard1_iff hi).1 (h i hi)).1
   ·refine List.pairwise_iff_getElem.2 fun i j hi hj hij => ?_
    rw [List.length_map] at hi hj
    rw [List.getElem_map, List.getElem_map]
    exact ((heard1_iff hj).1 (h j hj)).2 i hij
  ·rintro ⟨_, h1, h2⟩ i hi
   refine (heard1_iff hi).2 ⟨h1 _ (List.getElem_mem hi), fun j hj => ?_⟩
   have := List.pairwise_iff_getElem.1 h2 j i (by rw [List.length_map]; omega) (by rw [List.length_map]; omega) hj
   rwa [List.getElem_map, List.getElem_map] at this
theorem looked_ok_iff (b : Bk) : lookedM b = 0 ↔ b.seen.length ≤ 4 ∧ ∀ x ∈ b.seen, isStepM b x.step = true := by
 unfold lookedM
 by_cases hl : b.seen.length > 4
 ·rw [if_pos hl]; exact ⟨(fun h => by cases h), fun h => by omega⟩
 ·rw [if_neg hl]
  cases ha : (b.seen.any fun x => !isStepM b x.step)
  ·rw [if_neg (by decide)]
   refine ⟨fun _ => ⟨by omega, fun x hx => ?_⟩, fun _ => rfl⟩
   have := List.any_eq_false.1 ha x hx
   simpa using this
  ·rw [if_pos rfl]
   obtain ⟨x, hx, h⟩ := List.any_eq_true.1 ha
   exact ⟨(fun h => by cases h), fun h2 => by rw [h2.2 x hx] at h; cases h⟩
theorem numbers_iff (b : Bk) : numbersM b = 0 ↔ 4 ≤ b.steps ∧ b.steps ≤ 16 ∧ 0 ≤ b.wrong ∧ b.wrong ≤ 3 ∧ 0 ≤ b.low ∧ b.low ≤ b.high ∧ b.high ≤ 3 := by
 constructor
 ·intro h; exact numbers_range (by rw [h]; rfl)
 ·intro h
  unfold numbersM
  simp only [cond_eq_if, Bool.or_eq_true, Bool.not_eq_true', Bool.and_eq_false_iff, decide_eq_false_iff_not, decide_eq_true_eq]
  rw [if_neg (by omega)]
theorem check_ok_iff (b : Bk) : checkM b = 0 ↔ (4 ≤ b.steps ∧ b.steps ≤ 16 ∧ 0 ≤ b.wrong ∧ b.wrong ≤ 3 ∧ 0 ≤ b.low ∧ b.low ≤ b.high ∧ b.high ≤ 3) ∧ (b.seekers.length ≤ 5 ∧ (∀ x ∈ b.seekers, okSay b x) ∧ (b.seekers.map (·.name.toList)).Nodup) ∧ b.seen.length ≤ 4 ∧ ∀ x ∈ b.seen, isStepM b x.step = true := by
 rw [check_iff, numbers_iff, heard_ok_iff, looked_ok_iff]
/-- Whether what one says is so. -/
def sayR (b : Bk) (S : List Int) (x : Says) : Bool := saysM x.says (inM b S x.frm (wideM b x))
theorem right_say {b : Bk} {S : List Int} {k : Nat} (hk : k < b.seekers.length) : rightM b S k = sayR b S b.seekers[k] := by
 unfold rightM
 rw [List.getElem?_eq_getElem hk]; rfl
theorem bad_list (b : Bk) (S : List Int) : badM b S b.seekers.length = b.seekers.any fun x => !sayR b S x && x.glass := by
 rw [Bool.eq_iff_iff]
 unfold badM
 simp only [List.any_eq_true, List.mem_range]
 constructor
 ·rintro ⟨k, hk, h⟩
  refine ⟨b.seekers[k], List.getElem_mem hk, ?_⟩
  rw [right_say hk] at h
  unfold glassM at h
  rw [List.getElem?_eq_getElem hk] at h
  exact h
 ·rintro ⟨x, hx, h⟩
  obtain ⟨k, hk, rfl⟩ := List.mem_iff_getElem.1 hx
  refine ⟨k, hk, ?_⟩
  rw [right_say hk]
  unfold glassM
  rw [List.getElem?_eq_getElem hk]
  exact h
theorem list_snoc {α : Type} {motive : List α → Prop} (nil : motive []) (append_singleton : ∀ l a, motive l → motive (l ++ [a])) (l : List α) : motive l := by
 rw [← List.reverse_reverse l]
 generalize l.reverse = r
 induction r with
 | nil => exact nil
 | cons a r ih => rw [List.reverse_cons]; exact append_singleton _ _ ih
theorem range_filter {α : Type} (g : Option α → Bool) (l : List α) : ((List.range l.length).filter fun k => g l[k]?).length = (l.filter fun x => g (some x)).length := by
 induction l using list_snoc with
 | nil => rfl
 | append_singleton l a ih =>
  rw [List.length_append, List.length_singleton, List.range_succ, List.filter_append, List.filter_append, List.length_append, List.length_append, ← ih]
  congr 1
  ·congr 1
   exact List.filter_congr fun k hk => by rw [List.getElem?_append_left (List.mem_range.1 hk)]
  ·simp [List.filter_cons]
   split <;> rfl
theorem wrong_list (b : Bk) (S : List Int) : wrongL b S b.seekers.length = (b.seekers.filter fun x => !sayR b S x).length := by
 have h := range_filter (fun o : Option Says => !(match o with | some x => saysM x.says (inM b S x.frm (wideM b x)) | none => false)) b.seekers
 exact h
theorem seen_list (b : Bk) (S : List Int) : seenM b S = true ↔ (b.low ≤ S.length ∧ (S.length : Int) ≤ b.high) ∧ ∀ x ∈ b.seen, decide (x.step ∈ S) = x.seam := by
 unfold seenM
 simp only [Bool.and_eq_true, decide_eq_true_eq, Bool.not_eq_true', List.any_eq_false, bne_iff_ne, ne_eq, Decidable.not_not]
end Go.Vel
end
section
set_option linter.all false
set_option maxRecDepth 20000
set_option maxHeartbeats 60000000
namespace Go.Vel
open Go Go.Conc Go.Proofs
/-! ### a book whose lists are the other way round -/
def revB (b : Bk) : Bk := { b with seekers := b.seekers.reverse, seen := b.seen.reverse }
theorem rev_check {b : Bk} (h : checkM b = 0) : checkM (revB b) = 0 := by
 obtain ⟨h1, ⟨h2, h3, h4⟩, h5, h6⟩ := (check_ok_iff b).1 h
 refine (check_ok_iff _).2 ⟨h1, ⟨?_, fun x hx => h3 x (List.mem_reverse.1 hx), ?_⟩, ?_, fun x hx => h6 x (List.mem_reverse.1 hx)⟩
 ·show b.seekers.reverse.length ≤ 5
  rw [List.length_reverse]; exact h2
 ·show (b.seekers.reverse.map _).Nodup
  rw [List.map_reverse]
  exact (List.reverse_perm _).nodup_iff.2 h4
 ·show b.seen.reverse.length ≤ 4
  rw [List.length_reverse]; exact h5
theorem rev_say (b : Bk) (S : List Int) (x : Says) : sayR (revB b) S x = sayR b S x := rfl
theorem rev_bad (b : Bk) (S : List Int) : badM (revB b) S (revB b).seekers.length = badM b S b.seekers.length := by
 rw [bad_list, bad_list]
 show (b.seekers.reverse.any fun x => !sayR b S x && x.glass) = _
 rw [List.any_reverse]
theorem rev_wrong (b : Bk) (S : List Int) : wrongL (revB b) S (revB b).seekers.length = wrongL b S b.seekers.length := by
 rw [wrong_list, wrong_list]
 show (b.seekers.reverse.filter fun x => !sayR b S x).length = _
 rw [List.filter_reverse, List.length_reverse]
theorem rev_seen (b : Bk) (S : List Int) : seenM (revB b) S = seenM b S := by
 rw [Bool.eq_iff_iff, seen_list, seen_list]
 show (b.low ≤ (S.length : Int) ∧ (S.length : Int) ≤ b.high) ∧ (∀ x ∈ b.seen.reverse, decide (x.step ∈ S) = x.seam) ↔ _
 simp only [List.mem_reverse]
theorem rev_can (b : Bk) (S : List Int) : canM (revB b) S = canM b S := by
 rw [Bool.eq_iff_iff, can_iff, can_iff, rev_bad, rev_wrong, rev_seen]; rfl
theorem rev_states {b : Bk} (h : checkM b = 0) : (statesM (revB b)).Perm (statesM b) := by
 refine (List.perm_ext_iff_of_nodup (states_nodup _) (states_nodup _)).2 fun S => ?_
 rw [mem_states (bkOk_of (rev_check h)), mem_states (bkOk_of h), rev_can]; rfl
theorem rev_guess {b : Bk} (h : checkM b = 0) (y : List Int × Int) : y ∈ guessM (revB b) (allM (revB b)) ↔ y ∈ guessM b (allM b) := by
 unfold guessM
 simp only [List.mem_map, List.mem_filter, all_sets (bkOk_of (rev_check h)), all_sets (bkOk_of h), rev_seen, rev_bad]
 have hw : ∀ S, wrongM (revB b) S = wrongM b S := fun S => by unfold wrongM; rw [rev_bad, rev_wrong]
 simp only [hw]
 exact Iff.rfl
theorem rev_likely {b : Bk} (h : checkM b = 0) : likelyM (revB b) = likelyM b ∧ (guessM (revB b) (allM (revB b)) = [] ↔ guessM b (allM b) = []) := by
 refine ⟨tot_guess.minL_same (rev_guess h), ?_⟩
 rw [List.eq_nil_iff_forall_not_mem, List.eq_nil_iff_forall_not_mem]
 exact ⟨fun h2 y hy => h2 y ((rev_guess h y).2 hy), fun h2 y hy => h2 y ((rev_guess h y).1 hy)⟩
theorem rev_within {b : Bk} (h : checkM b = 0) (lo w : Int) : withinM (revB b) (statesM (revB b)) lo w = withinM b (statesM b) lo w := withinM_perm (rev_states h) lo w
theorem rev_oft {b : Bk} (h : checkM b = 0) (n : Int) : oftM (statesM (revB b)) n = oftM (statesM b) n := oftM_perm (rev_states h) n
theorem rev_len {b : Bk} (h : checkM b = 0) : (statesM (revB b)).length = (statesM b).length := (rev_states h).length_eq
theorem rev_ask {b : Bk} (h : checkM b = 0) (t : Bool) : askM (revB b) t = askM b t := by
 unfold askM
 rw [h, rev_check h]
 have : statesM (revB b) = [] ↔ statesM b = [] := by rw [← List.length_eq_zero_iff, ← List.length_eq_zero_iff, rev_len h]
 simp only [this]
theorem rev_narrow {b : Bk} (h : checkM b = 0) : narrowApi (revB b) = narrowApi b := by
 have e : arcsOf (revB b) (List.range (revB b).steps.toNat) = arcsOf b (List.range b.steps.toNat) := by
  unfold arcsOf
  congr 1
  funext low
  unfold arcA arcK
  rw [show (revB b).steps = b.steps from rfl]
  simp only [rev_within h]
 unfold narrowApi narrowM
 rw [e, rev_ask h]
theorem rev_pick {b : Bk} (h : checkM b = 0) (v : Int) (n : Nat) : pickL (revB b) v n = pickL b v n := by
 unfold pickL
 simp only [rev_oft h, rev_len h]
theorem rev_right {b : Bk} {S : List Int} {k : Nat} (hk : k < b.seekers.length) : rightM (revB b) S (b.seekers.length - 1 - k) = rightM b S k := by
 rw [right_say (b := revB b) (by show _ < b.seekers.reverse.length; rw [List.length_reverse]; omega), right_say hk, rev_say]
 congr 1
 show b.seekers.reverse[b.seekers.length - 1 - k]'_ = _
 rw [List.getElem_reverse]
 congr 1
 omega
theorem rev_rights {b : Bk} (h : checkM b = 0) {k : Nat} (hk : k < b.seekers.length) : rightsM (revB b) (statesM (revB b)) (b.seekers.length - 1 - k) = rightsM b (statesM b) k := by
 rw [rightsM_perm (rev_states h)]
 unfold rightsM
 congr 2
 exact List.filter_congr fun S _ => rev_right hk
theorem rev_halves {b : Bk} (h : checkM b = 0) : askApi (revB b) = askApi b := by
 have e : ∀ N, halvesM ((statesM (revB b)).length : Nat) (fun k => isStepM (revB b) k) (fun k => oftM (statesM (revB b)) k) N = halvesM ((statesM b).length : Nat) (fun k => isStepM b k) (fun k => oftM (statesM b) k) N := fun N => by
  rw [rev_len h, show (fun k : Nat => oftM (statesM (revB b)) k) = fun k : Nat => oftM (statesM b) k from funext fun k => rev_oft h k]; rfl
 unfold askApi
 rw [rev_ask h, e, show (revB b).steps = b.steps from rfl]
end Go.Vel
end
section
set_option linter.all false
set_option maxRecDepth 20000
set_option maxHeartbeats 60000000
namespace Go.Vel
open Go Go.Conc Go.Proofs
/-! ### who clash -/
theorem upto_sets (n : Nat) : uptoM n ∈ setsM (n : Int) n := by rw [← bits_all]; exact bits_sets
theorem clash_is {b : Bk} (hb : BkOk b) (h0 : togS b (uptoM b.seekers.length) = false) : clashM b ∈ setsM (b.seekers.length : Int) b.seekers.length ∧ togS b (clashM b) = false := by
 rw [← clash_eq hb h0]
 have h := firstL_mem (lt := ltLists) (o := uptoM b.seekers.length) (xs := oddS b (setsM b.seekers.length b.seekers.length))
 rcases List.mem_cons.1 h with h | h
 ·rw [h]; exact ⟨upto_sets _, h0⟩
 ·obtain ⟨h1, h2⟩ := List.mem_filter.1 h
  exact ⟨h1, by simpa using h2⟩
theorem clash_least {b : Bk} (hb : BkOk b) (h0 : togS b (uptoM b.seekers.length) = false) {l : List Int} (hl : l ∈ setsM (b.seekers.length : Int) b.seekers.length) (ht : togS b l = false) : ltLists l (clashM b) = false := by
 rw [← clash_eq hb h0]
 exact tot_lists.least _ _ l (List.mem_cons_of_mem _ (List.mem_filter.2 ⟨hl, by rw [ht]; rfl⟩))
theorem clash_len_le {b : Bk} (hb : BkOk b) (h0 : togS b (uptoM b.seekers.length) = false) {l : List Int} (hl : l ∈ setsM (b.seekers.length : Int) b.seekers.length) (ht : togS b l = false) : (clashM b).length ≤ l.length := by
 have h := clash_least hb h0 hl ht
 rw [Bool.eq_false_iff, ne_eq, ltLists_iff] at h
 omega
def refl (n : Nat) (l : List Int) : List Int := l.reverse.map fun x => (n : Int) - 1 - x
theorem refl_len (n : Nat) (l : List Int) : (refl n l).length = l.length := by unfold refl; rw [List.length_map, List.length_reverse]
theorem refl_sets {n : Nat} {l : List Int} (h : l ∈ setsM (n : Int) n) : refl n l ∈ setsM (n : Int) n := by
 have h1 := sets_pair _ l h
 have h2 := setsM_mem _ l h
 have h3 := setsM_short (most := (n : Int)) (by omega) _ l h
 refine sets_mem n _ ?_ (fun x hx => ?_) (by rw [refl_len]; exact h3)
 ·unfold refl
  rw [List.pairwise_map]
  exact (List.pairwise_reverse.2 h1).imp fun h => by omega
 ·unfold refl at hx
  obtain ⟨y, hy, rfl⟩ := List.mem_map.1 hx
  have := h2 y (List.mem_reverse.1 hy)
  omega
theorem rev_allS {b : Bk} {S l : List Int} (hl : ∀ x ∈ l, 0 ≤ x ∧ x < b.seekers.length) : allS (revB b) S l = allS b S (refl b.seekers.length l) := by
 rw [Bool.eq_iff_iff]
 unfold allS refl
 simp only [List.all_eq_true, List.mem_map, List.mem_reverse, forall_exists_index, and_imp, forall_apply_eq_imp_iff₂]
 have key : ∀ x ∈ l, rightM (revB b) S x.toNat = rightM b S ((b.seekers.length : Int) - 1 - x).toNat := fun x hx => by
  have := hl x hx
  have h := rev_right (b := b) (S := S) (k := ((b.seekers.length : Int) - 1 - x).toNat) (by omega)
  rw [← h]
  congr 1
  omega
 exact ⟨fun h x hx => by rw [← key x hx]; exact h x hx, fun h x hx => by rw [key x hx]; exact h x hx⟩
theorem rev_tog {b : Bk} {l : List Int} (hl : ∀ x ∈ l, 0 ≤ x ∧ x < b.seekers.length) : togS (revB b) l = togS b (refl b.seekers.length l) := by
 unfold togS
 rw [show setsB (revB b) = setsB b from rfl]
 congr 1
 funext S
 rw [rev_seen, rev_allS hl]
theorem tog_mono {b : Bk} {l m : List Int} (h : ∀ x ∈ l, x ∈ m) (ht : togS b m = true) : togS b l = true := by
 unfold togS allS at ht ⊢
 simp only [List.any_eq_true, Bool.and_eq_true, List.all_eq_true] at ht ⊢
 obtain ⟨S, h1, h2, h3⟩ := ht
 exact ⟨S, h1, h2, fun x hx => h3 x (h x hx)⟩
theorem rev_upto {b : Bk} : togS (revB b) (uptoM (revB b).seekers.length) = togS b (uptoM b.seekers.length) := by
 have hn : (revB b).seekers.length = b.seekers.length := by show b.seekers.reverse.length = _; rw [List.length_reverse]
 rw [hn, rev_tog fun x hx => setsM_mem _ _ (upto_sets _) x hx]
 have hm : ∀ x, x ∈ refl b.seekers.length (uptoM b.seekers.length) ↔ x ∈ uptoM b.seekers.length := fun x => by
  unfold refl uptoM
  simp only [List.mem_map, List.mem_reverse, List.mem_range]
  constructor
  ·rintro ⟨y, ⟨k, hk, rfl⟩, rfl⟩; exact ⟨b.seekers.length - 1 - k, by omega, by omega⟩
  ·rintro ⟨k, hk, rfl⟩; exact ⟨_, ⟨b.seekers.length - 1 - k, by omega, rfl⟩, by omega⟩
 rw [Bool.eq_iff_iff]
 exact ⟨tog_mono fun x hx => (hm x).2 hx, tog_mono fun x hx => (hm x).1 hx⟩
theorem rev_clash {b : Bk} (h : checkM b = 0) (h0 : togS b (uptoM b.seekers.length) = false) : (clashM (revB b)).length = (clashM b).length := by
 have hb := bkOk_of h
 have ho := bkOk_of (rev_check h)
 have hn : (revB b).seekers.length = b.seekers.length := by show b.seekers.reverse.length = _; rw [List.length_reverse]
 have h1 : togS (revB b) (uptoM (revB b).seekers.length) = false := by rw [rev_upto]; exact h0
 obtain ⟨c1, c2⟩ := clash_is hb h0
 obtain ⟨d1, d2⟩ := clash_is ho h1
 rw [hn] at d1
 have e1 : (clashM b).length ≤ (clashM (revB b)).length := by
  rw [← refl_len b.seekers.length (clashM (revB b))]
  exact clash_len_le hb h0 (refl_sets d1) (by rw [← rev_tog (setsM_mem _ _ d1)]; exact d2)
 have hrr : ∀ l : List Int, refl b.seekers.length (refl b.seekers.length l) = l := fun l => by
  unfold refl
  rw [← List.map_reverse, List.reverse_reverse, List.map_map]
  conv => rhs; rw [← List.map_id l]
  congr 1
  funext x
  show (b.seekers.length : Int) - 1 - ((b.seekers.length : Int) - 1 - x) = x
  omega
 have e2 : (clashM (revB b)).length ≤ (clashM b).length := by
  rw [← refl_len b.seekers.length (clashM b)]
  refine clash_len_le ho h1 (by rw [hn]; exact refl_sets c1) ?_
  rw [rev_tog (setsM_mem _ _ (refl_sets c1)), hrr]; exact c2
 omega
end Go.Vel
end
section
set_option linter.all false
set_option maxRecDepth 20000
set_option maxHeartbeats 60000000
namespace Go.Vel
open Go Go.Conc Go.Proofs
/-! some seekers alone, all with a glass -/
def subB (b : Bk) (l : List Int) : Bk := { b with seekers := l.map fun x => { b.seekers[x.toNat]! with glass := true } }
theorem sub_getB {b : Bk} {x : Int} (h : 0 ≤ x ∧ x < b.seekers.length) : b.seekers[x.toNat]! = b.seekers[x.toNat]'(by omega) := getElem!_pos _ _ _
theorem sub_check {b : Bk} {l : List Int} (h : checkM b = 0) (hl : ∀ x ∈ l, 0 ≤ x ∧ x < b.seekers.length) (hn : l.Nodup) : checkM (subB b l) = 0 := by
 obtain ⟨h1, ⟨h2, h3, h4⟩, h5⟩ := (check_ok_iff b).1 h
 have hll : l.length ≤ b.seekers.length := by
  have h6 := nodup_le (l1 := l) (l2 := uptoM b.seekers.length) hn fun x hx => List.mem_map.2 ⟨x.toNat, List.mem_range.2 (by have := hl x hx; omega), by have := hl x hx; omega⟩
  rwa [show (uptoM b.seekers.length).length = b.seekers.length by unfold uptoM; simp] at h6
 refine (check_ok_iff _).2 ⟨h1, ⟨?_, fun x hx => ?_, ?_⟩, h5⟩
 ·show (l.map _).length ≤ 5
  rw [List.length_map]; omega
 ·obtain ⟨y, hy, rfl⟩ := List.mem_map.1 hx
  have hy2 := hl y hy
  have := h3 _ (List.getElem_mem (l := b.seekers) (n := y.toNat) (by omega))
  rw [sub_getB hy2]
  exact this
 ·show ((l.map _).map _).Nodup
  rw [List.map_map]
  refine List.pairwise_map.2 ((List.pairwise_iff_getElem.1 hn |> fun _ => hn).imp_of_mem fun {x y} hx hy hne he => hne ?_)
  have hx2 := hl x hx
  have hy2 := hl y hy
  have he : b.seekers[x.toNat]!.name.toList = b.seekers[y.toNat]!.name.toList := he
  rw [sub_getB hx2, sub_getB hy2] at he
  refine Classical.byContradiction fun hc => ?_
  have hd := List.pairwise_iff_getElem.1 h4
  rcases Nat.lt_trichotomy x.toNat y.toNat with h7 | h7 | h7
  ·have := hd x.toNat y.toNat (by rw [List.length_map]; omega) (by rw [List.length_map]; omega) h7
   rw [List.getElem_map, List.getElem_map] at this
   exact this he
  ·exact hc (by omega)
  ·have := hd y.toNat x.toNat (by rw [List.length_map]; omega) (by rw [List.length_map]; omega) h7
   rw [List.getElem_map, List.getElem_map] at this
   exact this he.symm
theorem sub_bad {b : Bk} {l : List Int} (hl : ∀ x ∈ l, 0 ≤ x ∧ x < b.seekers.length) (S : List Int) : badM (subB b l) S (subB b l).seekers.length = !allS b S l := by
 rw [bad_list]
 unfold allS
 show ((l.map fun x => ({ b.seekers[x.toNat]! with glass := true } : Says)).any _) = _
 rw [List.any_map, List.not_all_eq_any_not]
 rw [Bool.eq_iff_iff]
 simp only [List.any_eq_true, Function.comp]
 have key : ∀ x ∈ l, sayR (subB b l) S { b.seekers[x.toNat]! with glass := true } = rightM b S x.toNat := fun x hx => by
  have h2 := hl x hx
  rw [right_say (by omega), sub_getB h2]; rfl
 constructor
 ·rintro ⟨x, hx, h⟩; exact ⟨x, hx, by rw [key x hx] at h; simpa using h⟩
 ·rintro ⟨x, hx, h⟩; exact ⟨x, hx, by rw [key x hx]; simpa using h⟩
theorem sub_wrong {b : Bk} {l : List Int} (hl : ∀ x ∈ l, 0 ≤ x ∧ x < b.seekers.length) {S : List Int} (h : allS b S l = true) : wrongL (subB b l) S (subB b l).seekers.length = 0 := by
 rw [wrong_list, List.length_eq_zero_iff, List.filter_eq_nil_iff]
 intro y hy
 obtain ⟨x, hx, rfl⟩ := List.mem_map.1 hy
 have h2 := hl x hx
 have h3 := List.all_eq_true.1 h x hx
 rw [right_say (by omega)] at h3
 rw [sub_getB h2]
 have h4 : sayR (subB b l) S { b.seekers[x.toNat]'(by omega) with glass := true } = sayR b S (b.seekers[x.toNat]'(by omega)) := rfl
 rw [h4, h3]; decide
theorem sub_tog {b : Bk} {l : List Int} (h : checkM b = 0) (hl : ∀ x ∈ l, 0 ≤ x ∧ x < b.seekers.length) (hn : l.Nodup) : statesM (subB b l) ≠ [] ↔ togS b l = true := by
 have ho := bkOk_of (sub_check h hl hn)
 have hb := bkOk_of h
 have hw := hb.wrong
 unfold togS
 rw [List.any_eq_true]
 constructor
 ·intro hne
  obtain ⟨S, hS⟩ := List.exists_mem_of_ne_nil _ hne
  obtain ⟨h1, h2⟩ := (mem_states ho S).1 hS
  obtain ⟨h3, h4, h5⟩ := (can_iff _ _).1 h2
  rw [sub_bad hl] at h3
  exact ⟨S, h1, by rw [show seenM b S = true from h5]; simpa using h3⟩
 ·rintro ⟨S, h1, h2⟩
  simp only [Bool.and_eq_true] at h2
  refine List.ne_nil_of_mem ((mem_states ho S).2 ⟨h1, (can_iff _ _).2 ⟨by rw [sub_bad hl, h2.2]; rfl, ?_, h2.1⟩⟩)
  rw [sub_wrong hl h2.2]
  exact hw.1
theorem sub_drop {n : Nat} {l : List Int} (h : l ∈ setsM (n : Int) n) (i : Nat) : l.eraseIdx i ∈ setsM (n : Int) n := by
 have hs : (l.eraseIdx i).Sublist l := List.eraseIdx_sublist l i
 refine sets_mem n _ ((sets_pair _ l h).sublist hs) (fun x hx => setsM_mem _ l h x (hs.subset hx)) ?_
 have := setsM_short (most := (n : Int)) (by omega) _ l h
 have := hs.length_le
 omega
theorem clash_drop {b : Bk} (hb : BkOk b) (h0 : togS b (uptoM b.seekers.length) = false) {i : Nat} (hi : i < (clashM b).length) : togS b ((clashM b).eraseIdx i) = true := by
 cases ht : togS b ((clashM b).eraseIdx i) with
 | true => rfl
 | false =>
  have h1 := clash_len_le hb h0 (sub_drop (clash_is hb h0).1 i) ht
  rw [List.length_eraseIdx_of_lt hi] at h1
  omega
end Go.Vel
end
section
set_option linter.all false
set_option maxRecDepth 20000
set_option maxHeartbeats 60000000
namespace Go.Vel
open Go Go.Conc Go.Proofs
/-! ### what Ask and Lend tell -/
theorem ask_bars (b : Bk) : (askApi b).2.2 = askM b true ∧ (lendApi b).2.2 = askM b true := by
 unfold askApi lendApi
 by_cases h : askM b true = 0
 ·rw [if_neg (by simp [h]), if_neg (by simp [h]), h]; exact ⟨rfl, rfl⟩
 ·rw [if_pos h, if_pos h]; exact ⟨rfl, rfl⟩
theorem ask_none {b : Bk} (h : askM b true ≠ 0) : (askApi b).1 = 0 ∧ (askApi b).2.1 = 0 ∧ (lendApi b).1 = 0 ∧ (lendApi b).2.1 = 0 := by
 unfold askApi lendApi
 rw [if_pos h, if_pos h]
 exact ⟨rfl, rfl, rfl, rfl⟩
theorem ask_pos {b : Bk} (hc : checkM b = 0) : (askM b true == 0) = decide (((statesM b).length : Int) > 0) := by
 rw [Bool.eq_iff_iff, beq_iff_eq, decide_eq_true_eq, (ask_iff hc).1, ne_eq, states_zero]
 omega
theorem states_one {b : Bk} (hc : checkM b = 0) : (statesApi b).1 = (statesM b).length ∧ (statesApi b).2 = 0 := by
 unfold statesApi
 rw [if_neg (by simp [hc])]
 exact ⟨rfl, rfl⟩
theorem ask_tells {b : Bk} (hc : checkM b = 0) (h0 : askM b true = 0) :
  (((askApi b).1 = -1 ∧ (askApi b).2.1 = (statesM b).length) ∨ ∃ k : Nat, (k : Int) < b.steps ∧ (askApi b).1 = k ∧ (askApi b).2.1 = maxM (oftM (statesM b) k) ((statesM b).length - oftM (statesM b) k) ∧ (askApi b).2.1 < (statesM b).length) ∧
  ∀ k : Nat, (k : Int) < b.steps → (askApi b).2.1 ≤ maxM (oftM (statesM b) k) ((statesM b).length - oftM (statesM b) k) ∧ (maxM (oftM (statesM b) k) ((statesM b).length - oftM (statesM b) k) = (askApi b).2.1 → (askApi b).1 ≤ k) := by
 obtain ⟨h1, h2⟩ := halves_of (statesM b).length (fun k => isStepM b k) (fun k => oftM (statesM b) k) b.steps.toNat
 unfold askApi
 rw [if_neg (by simp [h0])]
 refine ⟨?_, fun k hk => h2 k (by omega) ?_⟩
 ·rcases h1 with h1 | ⟨k, h3, h4, _, h5⟩
  ·exact .inl h1
  ·exact .inr ⟨k, by omega, h4, h5⟩
 ·unfold isStepM; simp only [Bool.and_eq_true, decide_eq_true_eq]; omega
theorem lend_tells {b : Bk} (h0 : askM b true = 0) :
  ((lendApi b).1 = -1 ∧ (lendApi b).2.1 = (statesM b).length) ∨ ∃ k : Nat, k < b.seekers.length ∧ (lendApi b).1 = k ∧ glassB b k = false ∧ (lendApi b).2.1 = maxM (rightsM b (statesM b) k) ((statesM b).length - rightsM b (statesM b) k) ∧ (lendApi b).2.1 < (statesM b).length := by
 obtain ⟨h1, _⟩ := halves_of (statesM b).length (fun k => !glassB b k) (fun k => rightsM b (statesM b) k) b.seekers.length
 unfold lendApi
 rw [if_neg (by simp [h0])]
 rcases h1 with h1 | ⟨k, h3, h4, h5, h6⟩
 ·exact .inl h1
 ·exact .inr ⟨k, h3, h4, by simpa using h5, h6⟩
def fitM (b : Bk) : Bool := !greatM b && checkM b == 0
/-- What is so of a book that can be asked about. -/
structure Fits9 (b : Bk) : Prop where
 check : checkM b = 0
 names : ∀ x ∈ b.seekers, x.name.size ≤ 1000
 seen : b.seen.length ≤ 1000
 says : b.seekers.length ≤ 1000
 small : ∀ x ∈ b.seekers, x.name.size ≤ 100
theorem fit_of {b : Bk} (h : fitM b = true) : Fits9 b := by
 unfold fitM at h
 simp only [Bool.and_eq_true, Bool.not_eq_true', beq_iff_eq] at h
 obtain ⟨h1, h2, h3⟩ := great_small h.1
 exact ⟨h.2, fun x hx => Nat.le_trans (h3 x hx) (by omega), by omega, by omega, h3⟩
end Go.Vel
end
section
set_option linter.all false
set_option maxRecDepth 20000
set_option maxHeartbeats 60000000
namespace Go.Vel
open Go Go.Conc Go.Proofs

theorem bytes_refl (a : ByteArray) : (a == a) = true := by show (a.data == a.data) = true; simp
section
variable {P : Program} {gm : Nat → Option Nat} {T : Goroutine → Hp → Prop} {Y : KX P gm T} {ds : List Nat} {k : List Item} {env env' : List AV} {K K' K1 : KV} {ops : Array Oper} {i : Nat} {L' : List Nat} {o : Oper} {envf : Nat → List AV} {pend pend' : List Pd}
/-- Some are appended, perhaps none, in a drawn region. -/
theorem TD.cappG {s x : Operand} {t e : TypeId} {size bytes j n m : Nat} {lo ln : List AV} {u : AV} {K'' : Nat → KV} (sl : List Nat) (ho : ops[i]? = some o) (hd : isDefer o.op = false) (hw : wantA ops (onl sl env) o = some true) (hp' : pendOf ops i pend = pend') (hc : chkC ops pend' L' sl i o.dst = true) (hop : o.op = .call { callee := .builtin .append, args := #[s, x], argTypes := #[t, t] }) (ht : apOf P t = some (e, size, bytes)) (hs : opndO gm (onl sl env) s = some (.row j n)) (hm : (j, .row lo e size) ∈ K) (hlo : lo.length = n * size) (hx : opndO gm (onl sl env) x = some u) (hl : lenA u = some m) (hsrc : 0 < m → srcO K size u m ln) (hln : m = 0 → ln = [])
  (hone : ln.all oneA = true) (hmax : n + m ≤ maxLen) (hbytes : (n + m) * bytes ≤ 140737488355328) (hu : ∀ j', Upd K j (.row lo e size) j' (.row (lo ++ ln) e size) (K'' j')) (he : ∀ j', putA env o.dst (.row j' (n + m)) = envf j') (hv : ∀ j', ∀ p ∈ pend', ∀ x ∈ p.V, x ∈ K'' j') (h : ∀ j', TD Y ds ops k pend' L' (envf j') (K'' j')) : TD Y ds ops k pend (i :: L') env K := by
 rcases Nat.eq_zero_or_pos m with e0 | hpos
 ·subst e0
  have hk : K'' j = K := (hu j).same (by rw [hln rfl, List.append_nil])
  have ht' := ht
  unfold apOf at ht'
  split at ht'
  ·rename_i e' h1
   split at ht'
   ·rename_i ti h2
    refine TD.cq (r := .row j n) sl ho hd hw hp' hc (q_app0 hop h1 h2 hs hx hl) (he j) (by rw [← hk]; exact hv j) ?_
    rw [← hk]; exact h j
   ·cases ht'
  ·cases ht'
 ·exact TD.capp sl ho hd hw hp' hc (a_app hop ht hs hm hlo hx (hsrc hpos) hpos hone hmax hbytes) hu he hv h
theorem exK_app {j n : Nat} {ob ob' : AObj} {K'' : Nat → KV} {sl : List Nat} (hd : isDefer o.op = false) (hq : ∀ A, View K A → OpOk P gm (onl sl env) A o (.row A.length n) (A.set j .gone ++ [ob'])) (hu : ∀ j', Upd K j ob j' ob' (K'' j')) (he : ∀ j', putA env o.dst (.row j' n) = envf j') (hv : ∀ j', ∀ p ∈ pend', ∀ x ∈ p.V, x ∈ K'' j') (h : ∀ j', TD Y ds ops k pend' L' (envf j') (K'' j')) :
  ExK Y (onl sl env) K o fun r K' => (∀ p ∈ pend', ∀ x ∈ p.V, x ∈ K') ∧ TD Y ds ops k pend' L' (putA env o.dst r) K' :=
 exK_op hd fun A hv' hn => ⟨_, _, _, hq A hv', .renew hv' hn (hu _), hv _, by rw [he]; exact h _⟩
theorem exK_appG {s x : Operand} {t e : TypeId} {size bytes j n m : Nat} {lo ln : List AV} {u : AV} {K'' : Nat → KV} {sl : List Nat} (hd : isDefer o.op = false) (hop : o.op = .call { callee := .builtin .append, args := #[s, x], argTypes := #[t, t] }) (ht : apOf P t = some (e, size, bytes)) (hs : opndO gm (onl sl env) s = some (.row j n)) (hm : (j, .row lo e size) ∈ K) (hlo : lo.length = n * size) (hx : opndO gm (onl sl env) x = some u) (hl : lenA u = some m) (hsrc : 0 < m → srcO K size u m ln) (hln : m = 0 → ln = [])
  (hone : ln.all oneA = true) (hmax : n + m ≤ maxLen) (hbytes : (n + m) * bytes ≤ 140737488355328) (hu : ∀ j', Upd K j (.row lo e size) j' (.row (lo ++ ln) e size) (K'' j')) (he : ∀ j', putA env o.dst (.row j' (n + m)) = envf j') (hv : ∀ j', ∀ p ∈ pend', ∀ x ∈ p.V, x ∈ K'' j') (h : ∀ j', TD Y ds ops k pend' L' (envf j') (K'' j')) :
  ExK Y (onl sl env) K o fun r K' => (∀ p ∈ pend', ∀ x ∈ p.V, x ∈ K') ∧ TD Y ds ops k pend' L' (putA env o.dst r) K' := by
 rcases Nat.eq_zero_or_pos m with e0 | hpos
 ·subst e0
  have hk : K'' j = K := (hu j).same (by rw [hln rfl, List.append_nil])
  have ht' := ht
  unfold apOf at ht'
  split at ht'
  ·rename_i e' h1
   split at ht'
   ·rename_i ti h2
    exact exK_op hd fun A hv' hn => ⟨.row j n, A, K, q_app0 hop h1 h2 hs hx hl A hv', .same hv' hn, by rw [← hk]; exact hv j, by rw [show putA env o.dst (.row j n) = envf j from he j, ← hk]; exact h j⟩
   ·cases ht'
  ·cases ht'
 ·exact exK_app hd (a_app hop ht hs hm hlo hx (hsrc hpos) hpos hone hmax hbytes) hu he hv h
end
theorem sameB_ok {main : Bool} {T : Goroutine → Hp → Prop} (hT : Shut Tryz.prog main T) {gm : Nat → Option Nat} {b : Bk} {s1 e1 s2 e2 : Nat} (hl : b.seen.length ≤ 1000) (hl2 : b.seekers.length ≤ 1000) :
  CallK Tryz.prog T gm 15 [.agg (bookC b s1 e1), .agg (bookC b s2 e2)] [(s1, saysO b), (e1, seenO b), (s2, saysO b), (e2, seenO b)] (fun r K' => r = boolA true ∧ K' = [(s1, saysO b), (e1, seenO b), (s2, saysO b), (e2, seenO b)]) := by
 refine callK_in 80 hT Tryz.func15 fun Y hret => ?_
 refine au [4, 5, 21] ?_
 intro jb hjb
 refine au [21] ?_
 intro jc hjc
 refine au [2, 3, 4, 4, 5, 7, 9, 7, 9, 6, 1] ?_
 refine TK.sp 12 (fun g1_6 => ?_) (fun g1_6 => ?_)
 ·simp at g1_6
 refine au [7, 9, 7, 9, 6, 25, 1] ?_
 refine TK.sp 19 (fun g1_13 => ?_) (fun g1_13 => ?_)
 ·simp at g1_13
 refine au [7, 8, 7, 8] ?_
 refine TK.a rfl (q_neqFlat rfl rfl rfl rfl rfl FlatF.h EqG.h) ?_
 refine au [25, 1] ?_
 refine TK.sp 26 (fun g1_20 => ?_) (fun g1_20 => ?_)
 ·simp at g1_20
 refine au [7, 9, 28, 7, 9, 28, 6, 25, 1] ?_
 refine TK.sp 35 (fun g1_29 => ?_) (fun g1_29 => ?_)
 ·simp at g1_29
 refine au [7, 9, 28, 7, 9, 28, 6, 25, 3, 20] ?_
 refine ⟨fun hc0 => ?_, fun hc0 => ?_⟩
 ·simp at hc0
 refine au [12, 4, 4, 5, 2, 3, 13] ?_
 refine TK.maskL [2, 3, 5] ?_
 refine TK.kp [(jc, _), (jb, _), (s1, _), (e1, _), (s2, _), (e2, _)] ?_
 refine TK.loopN (fun n env K => ∃ (i : Nat), n = b.seekers.length - i ∧ i ≤ b.seekers.length ∧ env = slotsA 80 [(2, .ptr jb 0), (3, .ptr jc 0), (5, intA i)] ∧ K = [(jc, .cells (bookC b s2 e2) 27 true), (jb, .cells (bookC b s1 e1) 27 true), (s1, saysO b), (e1, seenO b), (s2, saysO b), (e2, seenO b)]) b.seekers.length ⟨0, rfl, Nat.zero_le _, rfl, rfl⟩ fun n env K hI hnext => ?_
 obtain ⟨i, rfl, hi, rfl, rfl⟩ := hI
 refine au [4, 4, 5, 1, 7, 9, 28, 6, 3, 20] ?_
 refine ⟨fun hc1 => ?_, fun hc1 => ?_⟩
 ·simp only [decide_eq_true_eq] at hc1
  have hil : i < b.seekers.length := by omega
  refine au [12, 4, 13, 4] ?_
  refine TK.draw [0, 1, 2, 3, 4, 5, 6, 7, 8, 9, 10] [0, 1, 2, 3, 4, 5, 6, 7, 8, 9, 10] (by kernel_rfl) (by kernel_rfl) ?_
  refine TD.z [2] rfl (q_fieldAddr rfl rfl FldOf.h (by decide)) ?_
  refine TD.y [51] rfl (hq := q_load1 rfl rfl TySz.h (List.Mem.head _) rfl) (h := ?_)
  refine TD.z [5] rfl (q_move rfl rfl) ?_
  refine TD.z [52, 53] rfl (q_indexSl rfl rfl rfl SlEl.h (by omega) (by omega)) ?_
  refine TD.y [54] rfl (hq := q_load rfl rfl TySz.h (List.Mem.head _) (says_at b i hil)) (h := ?_)
  refine TD.z [3] rfl (q_fieldAddr rfl rfl FldOf.h (by decide)) ?_
  refine TD.y [56] rfl (hq := q_load1 rfl rfl TySz.h (List.Mem.head _) rfl) (h := ?_)
  refine TD.z [5] rfl (q_move rfl rfl) ?_
  refine TD.z [57, 58] rfl (q_indexSl rfl rfl rfl SlEl.h (by omega) (by omega)) ?_
  refine TD.y [59] rfl (hq := q_load rfl rfl TySz.h (List.Mem.head _) (says_at b i hil)) (h := ?_)
  refine TD.z [55, 60] rfl (q_neqFlat rfl rfl rfl rfl rfl FlatF.h EqG.h) ?_
  refine TD.fin ?_
  refine au [20] ?_
  refine ⟨fun hc2 => ?_, fun hc2 => ?_⟩
  ·simp [bytes_refl] at hc2
  refine au [12, 14, 5, 1, 23, 2, 3] ?_
  refine TK.maskL [2, 3, 5] ?_
  exact hnext _ _ _ (by omega) ⟨i + 1, rfl, by omega, rfl, rfl⟩
 simp only [decide_eq_false_iff_not] at hc1
 refine au [16, 4, 4, 5, 2, 3, 13] ?_
 refine TK.maskL [2, 3, 6] ?_
 refine TK.loopN (fun n env K => ∃ (i : Nat), n = b.seen.length - i ∧ i ≤ b.seen.length ∧ env = slotsA 80 [(2, .ptr jb 0), (3, .ptr jc 0), (6, intA i)] ∧ K = [(jc, .cells (bookC b s2 e2) 27 true), (jb, .cells (bookC b s1 e1) 27 true), (s1, saysO b), (e1, seenO b), (s2, saysO b), (e2, seenO b)]) b.seen.length ⟨0, rfl, Nat.zero_le _, rfl, rfl⟩ fun n env K hI hnext => ?_
 obtain ⟨i, rfl, hi, rfl, rfl⟩ := hI
 refine au [4, 4, 5, 1, 7, 9, 28, 6, 3, 20] ?_
 refine ⟨fun hc3 => ?_, fun hc3 => ?_⟩
 ·simp only [decide_eq_true_eq] at hc3
  have hil : i < b.seen.length := by omega
  refine au [12, 4, 13, 4] ?_
  refine TK.draw [0, 1, 2, 3, 4, 5, 6, 7, 8, 9, 10] [0, 1, 2, 3, 4, 5, 6, 7, 8, 9, 10] (by kernel_rfl) (by kernel_rfl) ?_
  refine TD.z [2] rfl (q_fieldAddr rfl rfl FldOf.h (by decide)) ?_
  refine TD.y [69] rfl (hq := q_load1 rfl rfl TySz.h (List.Mem.head _) rfl) (h := ?_)
  refine TD.z [6] rfl (q_move rfl rfl) ?_
  refine TD.z [70, 71] rfl (q_indexSl rfl rfl rfl SlEl.h (by omega) (by omega)) ?_
  refine TD.y [72] rfl (hq := q_load rfl rfl TySz.h (List.Mem.head _) (seen_at b i hil)) (h := ?_)
  refine TD.z [3] rfl (q_fieldAddr rfl rfl FldOf.h (by decide)) ?_
  refine TD.y [74] rfl (hq := q_load1 rfl rfl TySz.h (List.Mem.head _) rfl) (h := ?_)
  refine TD.z [6] rfl (q_move rfl rfl) ?_
  refine TD.z [75, 76] rfl (q_indexSl rfl rfl rfl SlEl.h (by omega) (by omega)) ?_
  refine TD.y [77] rfl (hq := q_load rfl rfl TySz.h (List.Mem.head _) (seen_at b i hil)) (h := ?_)
  refine TD.z [73, 78] rfl (q_neqFlat rfl rfl rfl rfl rfl FlatF.h EqG.h) ?_
  refine TD.fin ?_
  refine au [20] ?_
  refine ⟨fun hc4 => ?_, fun hc4 => ?_⟩
  ·simp at hc4
  refine au [12, 14, 5, 1, 23, 2, 3] ?_
  refine TK.maskL [2, 3, 6] ?_
  exact hnext _ _ _ (by omega) ⟨i + 1, rfl, by omega, rfl, rfl⟩
 simp only [decide_eq_false_iff_not] at hc3
 refine au [16, 4, 5, 2, 3] ?_
 refine TK.rt hret [(s1, _), (e1, _), (s2, _), (e2, _)] ?_
 exact ⟨rfl, rfl⟩
end Go.Vel
end
section
set_option linter.all false
set_option maxRecDepth 20000
set_option maxHeartbeats 60000000
namespace Go.Vel
open Go Go.Conc Go.Proofs

section
variable {P : Program} {gm : Nat → Option Nat} {T : Goroutine → Hp → Prop} {Y : KX P gm T} {ds : List Nat} {k : List Item} {env env' : List AV} {K K' : KV}
/-- A book's row of seekers is frozen; what was seen is. -/
theorem TK.freezeB1 (d : Nat) {a b c f : Value} {j1 n1 e m : Nat} {l1 : List AV} {e1 s1 : Nat} (hd : env[d]? = some (.agg [.v a, .v b, .v c, .v f, .row j1 n1, .sl e 0 m])) (hu : Upd K j1 (.row l1 e1 s1) j1 (.cells l1 e1 false) K') (he : env.set d (.agg [.v a, .v b, .v c, .v f, .sl j1 0 n1, .sl e 0 m]) = env') (h : TK Y ds k env' K') : TK Y ds k env K :=
 TK.freeze d hd hu (by rw [← he]; simp [unrow1, unrow]) h
theorem TK.freezeB2 (d : Nat) {a b c f : Value} {j1 n1 s m : Nat} {l1 : List AV} {e1 s1 : Nat} (hd : env[d]? = some (.agg [.v a, .v b, .v c, .v f, .sl s 0 m, .row j1 n1])) (hu : Upd K j1 (.row l1 e1 s1) j1 (.cells l1 e1 false) K') (he : env.set d (.agg [.v a, .v b, .v c, .v f, .sl s 0 m, .sl j1 0 n1]) = env') (h : TK Y ds k env' K') : TK Y ds k env K :=
 TK.freeze d hd hu (by rw [← he]; simp [unrow1, unrow]) h
end
def newsR (b o : Bk) : Int := if checkM b ≠ 0 then checkM b else knownBar o true
def giveR (b : Bk) (k : Int) : Int := if checkM b ≠ 0 then checkM b else if isSeekerM b k = false then 6 else if glassB b k.toNat = true then 5 else knownBar (giveB b k.toNat) true
theorem heardR_ok {main : Bool} {T : Goroutine → Hp → Prop} (hT : Shut Tryz.prog main T) {gm : Nat → Option Nat} {b : Bk} {s e : Nat} {x : Says} (hl2 : b.seekers.length ≤ 1000) :
  CallK Tryz.prog T gm 16 [.agg (bookC b s e), .agg (saysC x)] [(s, saysO b), (e, seenO b)] (fun r K' => ∃ j3, r = .agg (bookC (hearB b x) j3 e) ∧ K' = [(s, saysO b), (e, seenO b), (j3, saysO (hearB b x))]) := by
 refine callK_in 14 hT Tryz.func16 fun Y hret => ?_
 refine au [4, 5, 21] ?_
 intro jb hjb
 refine au [21] ?_
 intro jx hjx
 refine au [22] ?_
 intro jr hjr
 refine au [3, 4] ?_
 refine TK.draw [1, 2, 4, 0, 3, 5, 6, 7, 8] [0, 1, 2, 3, 4, 5, 6, 7, 8] (by kernel_rfl) (by kernel_rfl) ?_
 refine TD.z [2] rfl (q_fieldAddr rfl rfl FldOf.h (by decide)) ?_
 refine TD.y [6] rfl (hq := q_load1 rfl rfl TySz.h (List.Mem.head _) rfl) (h := ?_)
 refine TD.y [3] rfl (hq := q_load rfl rfl TySz.h (List.Mem.head _) rfl) (h := ?_)
 refine TD.c2 (i1 := 0) (i2 := 5) (pend1 := [⟨4, [3], [(_, _)]⟩, ⟨2, [6], [(_, _)]⟩, ⟨1, [2], []⟩]) (pend2 := [⟨2, [6], [(_, _)]⟩, ⟨1, [2], []⟩]) (L1 := [3, 5, 6, 7, 8]) (L2 := [0, 3, 6, 7, 8]) [] [9] rfl rfl rfl rfl rfl rfl rfl ?_ ?_
 ·refine exK_newR rfl (n_buildSlice (l := []) rfl SlEl.h TyZ.h (by decide) (by decide) rfl) (fun _ => putS rfl (by simp only [List.set]; rfl)) (by simp) fun j1 hj1 => ?_
  refine TD.c2 (i1 := 3) (i2 := 5) (pend1 := [⟨4, [3], [(_, _)]⟩, ⟨1, [2], []⟩]) (pend2 := [⟨2, [6], [(_, _)]⟩, ⟨1, [2], []⟩]) (L1 := [5, 6, 7, 8]) (L2 := [3, 6, 7, 8]) [5, 7] [9] rfl rfl rfl rfl rfl rfl rfl ?_ ?_
  ·refine exK_appG (ln := b.seekers.flatMap saysC) rfl rfl ApOf.h rfl (by repeat (first | exact List.Mem.head _ | assumption | apply List.Mem.tail)) rfl rfl rfl (fun hp => src_sl (by repeat (first | exact List.Mem.head _ | assumption | apply List.Mem.tail)) (by omega) (take_full (n := b.seekers.length) (size := 5) (flat_len saysC 5 (fun _ => rfl) _) (by omega))) (fun h => by rw [List.eq_nil_of_length_eq_zero h]; rfl) (flat_all saysC (fun _ => rfl) _) (by unfold maxLen; omega) (by omega) (fun _ => (by repeat (first | exact Upd.head | apply Upd.tail))) (fun _ => putS rfl (by simp only [List.set]; rfl)) (fun _ => by simp) fun j2 => ?_
   simp only [List.nil_append, Nat.zero_add]
   refine TD.cnewR (pend' := [⟨1, [2], []⟩]) [9] rfl rfl rfl rfl rfl (n_buildSlice (l := [_, _, _, _, _]) rfl SlEl.h TyZ.h (by decide) (by decide) rfl) (fun _ => putS rfl (by simp only [List.set]; rfl)) (by simp) fun j5 hj5 => ?_
   refine TD.capp (pend' := [⟨1, [2], []⟩]) [8, 10] rfl rfl rfl rfl rfl (a_app rfl ApOf.h rfl (by repeat (first | exact List.Mem.head _ | assumption | apply List.Mem.tail)) (flat_len saysC 5 (fun _ => rfl) _) rfl (src_row (ln := [_, _, _, _, _]) (by repeat (first | exact List.Mem.head _ | assumption | apply List.Mem.tail)) (by decide) (by simp) rfl) (by omega) rfl (by unfold maxLen; omega) (by omega)) (fun _ => (by repeat (first | exact Upd.head | apply Upd.tail))) (fun _ => putS rfl (by simp only [List.set]; rfl)) (fun _ => (by simp)) fun j3 => ?_
   refine TD.z [2] rfl (q_fieldAddr rfl rfl FldOf.h (by decide)) ?_
   refine TD.s (pend' := []) [11, 12] rfl rfl (q_store rfl rfl TySz.h rfl rfl (by repeat (first | exact List.Mem.head _ | assumption | apply List.Mem.tail)) rfl) ?_
   refine TD.fin ?_
   refine au [4, 5, 8] ?_
   refine TK.freezeB1 13 rfl (by repeat (first | exact Upd.head | apply Upd.tail)) rfl ?_
   refine au [17, 3] ?_
   refine TK.rt hret [(s, _), (e, _), (j3, _)] ?_
   exact ⟨j3, by unfold bookC; rw [← hear_len]; rfl, by unfold saysO; rw [hear_seekers]; rfl⟩
  ·refine exK_newR rfl (n_buildSlice (l := [_, _, _, _, _]) rfl SlEl.h TyZ.h (by decide) (by decide) rfl) (fun _ => putS rfl (by simp only [List.set]; rfl)) (by simp) fun j5 hj5 => ?_
   refine TD.cappG (ln := b.seekers.flatMap saysC) (pend' := [⟨1, [2], []⟩]) [5, 7] rfl rfl rfl rfl rfl rfl ApOf.h rfl (by repeat (first | exact List.Mem.head _ | assumption | apply List.Mem.tail)) rfl rfl rfl (fun hp => src_sl (by repeat (first | exact List.Mem.head _ | assumption | apply List.Mem.tail)) (by omega) (take_full (n := b.seekers.length) (size := 5) (flat_len saysC 5 (fun _ => rfl) _) (by omega))) (fun h => by rw [List.eq_nil_of_length_eq_zero h]; rfl) (flat_all saysC (fun _ => rfl) _) (by unfold maxLen; omega) (by omega) (fun _ => (by repeat (first | exact Upd.head | apply Upd.tail))) (fun _ => putS rfl (by simp only [List.set]; rfl)) (fun _ => by simp) fun j2 => ?_
   simp only [List.nil_append, Nat.zero_add]
   refine TD.capp (pend' := [⟨1, [2], []⟩]) [8, 10] rfl rfl rfl rfl rfl (a_app rfl ApOf.h rfl (by repeat (first | exact List.Mem.head _ | assumption | apply List.Mem.tail)) (flat_len saysC 5 (fun _ => rfl) _) rfl (src_row (ln := [_, _, _, _, _]) (by repeat (first | exact List.Mem.head _ | assumption | apply List.Mem.tail)) (by decide) (by simp) rfl) (by omega) rfl (by unfold maxLen; omega) (by omega)) (fun _ => (by repeat (first | exact Upd.head | apply Upd.tail))) (fun _ => putS rfl (by simp only [List.set]; rfl)) (fun _ => (by simp)) fun j3 => ?_
   refine TD.z [2] rfl (q_fieldAddr rfl rfl FldOf.h (by decide)) ?_
   refine TD.s (pend' := []) [11, 12] rfl rfl (q_store rfl rfl TySz.h rfl rfl (by repeat (first | exact List.Mem.head _ | assumption | apply List.Mem.tail)) rfl) ?_
   refine TD.fin ?_
   refine au [4, 5, 8] ?_
   refine TK.freezeB1 13 rfl (by repeat (first | exact Upd.head | apply Upd.tail)) rfl ?_
   refine au [17, 3] ?_
   refine TK.rt hret [(s, _), (e, _), (j3, _)] ?_
   exact ⟨j3, by unfold bookC; rw [← hear_len]; rfl, by unfold saysO; rw [hear_seekers]; rfl⟩
 ·refine exK_newR rfl (n_buildSlice (l := [_, _, _, _, _]) rfl SlEl.h TyZ.h (by decide) (by decide) rfl) (fun _ => putS rfl (by simp only [List.set]; rfl)) (by simp) fun j5 hj5 => ?_
  refine TD.cnewR (pend' := [⟨2, [6], [(_, _)]⟩, ⟨1, [2], []⟩]) [] rfl rfl rfl rfl rfl (n_buildSlice (l := []) rfl SlEl.h TyZ.h (by decide) (by decide) rfl) (fun _ => putS rfl (by simp only [List.set]; rfl)) (by simp) fun j1 hj1 => ?_
  refine TD.cappG (ln := b.seekers.flatMap saysC) (pend' := [⟨1, [2], []⟩]) [5, 7] rfl rfl rfl rfl rfl rfl ApOf.h rfl (by repeat (first | exact List.Mem.head _ | assumption | apply List.Mem.tail)) rfl rfl rfl (fun hp => src_sl (by repeat (first | exact List.Mem.head _ | assumption | apply List.Mem.tail)) (by omega) (take_full (n := b.seekers.length) (size := 5) (flat_len saysC 5 (fun _ => rfl) _) (by omega))) (fun h => by rw [List.eq_nil_of_length_eq_zero h]; rfl) (flat_all saysC (fun _ => rfl) _) (by unfold maxLen; omega) (by omega) (fun _ => (by repeat (first | exact Upd.head | apply Upd.tail))) (fun _ => putS rfl (by simp only [List.set]; rfl)) (fun _ => by simp) fun j2 => ?_
  simp only [List.nil_append, Nat.zero_add]
  refine TD.capp (pend' := [⟨1, [2], []⟩]) [8, 10] rfl rfl rfl rfl rfl (a_app rfl ApOf.h rfl (by repeat (first | exact List.Mem.head _ | assumption | apply List.Mem.tail)) (flat_len saysC 5 (fun _ => rfl) _) rfl (src_row (ln := [_, _, _, _, _]) (by repeat (first | exact List.Mem.head _ | assumption | apply List.Mem.tail)) (by decide) (by simp) rfl) (by omega) rfl (by unfold maxLen; omega) (by omega)) (fun _ => (by repeat (first | exact Upd.head | apply Upd.tail))) (fun _ => putS rfl (by simp only [List.set]; rfl)) (fun _ => (by simp)) fun j3 => ?_
  refine TD.z [2] rfl (q_fieldAddr rfl rfl FldOf.h (by decide)) ?_
  refine TD.s (pend' := []) [11, 12] rfl rfl (q_store rfl rfl TySz.h rfl rfl (by repeat (first | exact List.Mem.head _ | assumption | apply List.Mem.tail)) rfl) ?_
  refine TD.fin ?_
  refine au [4, 5, 8] ?_
  refine TK.freezeB1 13 rfl (by repeat (first | exact Upd.head | apply Upd.tail)) rfl ?_
  refine au [17, 3] ?_
  refine TK.rt hret [(s, _), (e, _), (j3, _)] ?_
  exact ⟨j3, by unfold bookC; rw [← hear_len]; rfl, by unfold saysO; rw [hear_seekers]; rfl⟩

theorem lookedR_ok {main : Bool} {T : Goroutine → Hp → Prop} (hT : Shut Tryz.prog main T) {gm : Nat → Option Nat} {b : Bk} {s e : Nat} {x : Seen} (hl : b.seen.length ≤ 1000) :
  CallK Tryz.prog T gm 20 [.agg (bookC b s e), .agg (seenC x)] [(s, saysO b), (e, seenO b)] (fun r K' => ∃ j3, r = .agg (bookC (lookB b x) s j3) ∧ K' = [(s, saysO b), (e, seenO b), (j3, seenO (lookB b x))]) := by
 refine callK_in 14 hT Tryz.func20 fun Y hret => ?_
 refine au [4, 5, 21] ?_
 intro jb hjb
 refine au [21] ?_
 intro jx hjx
 refine au [22] ?_
 intro jr hjr
 refine au [3, 4] ?_
 refine TK.draw [1, 2, 4, 0, 3, 5, 6, 7, 8] [0, 1, 2, 3, 4, 5, 6, 7, 8] (by kernel_rfl) (by kernel_rfl) ?_
 refine TD.z [2] rfl (q_fieldAddr rfl rfl FldOf.h (by decide)) ?_
 refine TD.y [6] rfl (hq := q_load1 rfl rfl TySz.h (List.Mem.head _) rfl) (h := ?_)
 refine TD.y [3] rfl (hq := q_load rfl rfl TySz.h (List.Mem.head _) rfl) (h := ?_)
 refine TD.c2 (i1 := 0) (i2 := 5) (pend1 := [⟨4, [3], [(_, _)]⟩, ⟨2, [6], [(_, _)]⟩, ⟨1, [2], []⟩]) (pend2 := [⟨2, [6], [(_, _)]⟩, ⟨1, [2], []⟩]) (L1 := [3, 5, 6, 7, 8]) (L2 := [0, 3, 6, 7, 8]) [] [9] rfl rfl rfl rfl rfl rfl rfl ?_ ?_
 ·refine exK_newR rfl (n_buildSlice (l := []) rfl SlEl.h TyZ.h (by decide) (by decide) rfl) (fun _ => putS rfl (by simp only [List.set]; rfl)) (by simp) fun j1 hj1 => ?_
  refine TD.c2 (i1 := 3) (i2 := 5) (pend1 := [⟨4, [3], [(_, _)]⟩, ⟨1, [2], []⟩]) (pend2 := [⟨2, [6], [(_, _)]⟩, ⟨1, [2], []⟩]) (L1 := [5, 6, 7, 8]) (L2 := [3, 6, 7, 8]) [5, 7] [9] rfl rfl rfl rfl rfl rfl rfl ?_ ?_
  ·refine exK_appG (ln := b.seen.flatMap seenC) rfl rfl ApOf.h rfl (by repeat (first | exact List.Mem.head _ | assumption | apply List.Mem.tail)) rfl rfl rfl (fun hp => src_sl (by repeat (first | exact List.Mem.head _ | assumption | apply List.Mem.tail)) (by omega) (take_full (n := b.seen.length) (size := 2) (flat_len seenC 2 (fun _ => rfl) _) (by omega))) (fun h => by rw [List.eq_nil_of_length_eq_zero h]; rfl) (flat_all seenC (fun _ => rfl) _) (by unfold maxLen; omega) (by omega) (fun _ => (by repeat (first | exact Upd.head | apply Upd.tail))) (fun _ => putS rfl (by simp only [List.set]; rfl)) (fun _ => by simp) fun j2 => ?_
   simp only [List.nil_append, Nat.zero_add]
   refine TD.cnewR (pend' := [⟨1, [2], []⟩]) [9] rfl rfl rfl rfl rfl (n_buildSlice (l := [_, _]) rfl SlEl.h TyZ.h (by decide) (by decide) rfl) (fun _ => putS rfl (by simp only [List.set]; rfl)) (by simp) fun j5 hj5 => ?_
   refine TD.capp (pend' := [⟨1, [2], []⟩]) [8, 10] rfl rfl rfl rfl rfl (a_app rfl ApOf.h rfl (by repeat (first | exact List.Mem.head _ | assumption | apply List.Mem.tail)) (flat_len seenC 2 (fun _ => rfl) _) rfl (src_row (ln := [_, _]) (by repeat (first | exact List.Mem.head _ | assumption | apply List.Mem.tail)) (by decide) (by simp) rfl) (by omega) rfl (by unfold maxLen; omega) (by omega)) (fun _ => (by repeat (first | exact Upd.head | apply Upd.tail))) (fun _ => putS rfl (by simp only [List.set]; rfl)) (fun _ => (by simp)) fun j3 => ?_
   refine TD.z [2] rfl (q_fieldAddr rfl rfl FldOf.h (by decide)) ?_
   refine TD.s (pend' := []) [11, 12] rfl rfl (q_store rfl rfl TySz.h rfl rfl (by repeat (first | exact List.Mem.head _ | assumption | apply List.Mem.tail)) rfl) ?_
   refine TD.fin ?_
   refine au [4, 5, 8] ?_
   refine TK.freezeB2 13 rfl (by repeat (first | exact Upd.head | apply Upd.tail)) rfl ?_
   refine au [17, 3] ?_
   refine TK.rt hret [(s, _), (e, _), (j3, _)] ?_
   exact ⟨j3, by unfold bookC; rw [← look_len]; rfl, by unfold seenO; rw [look_seen]; rfl⟩
  ·refine exK_newR rfl (n_buildSlice (l := [_, _]) rfl SlEl.h TyZ.h (by decide) (by decide) rfl) (fun _ => putS rfl (by simp only [List.set]; rfl)) (by simp) fun j5 hj5 => ?_
   refine TD.cappG (ln := b.seen.flatMap seenC) (pend' := [⟨1, [2], []⟩]) [5, 7] rfl rfl rfl rfl rfl rfl ApOf.h rfl (by repeat (first | exact List.Mem.head _ | assumption | apply List.Mem.tail)) rfl rfl rfl (fun hp => src_sl (by repeat (first | exact List.Mem.head _ | assumption | apply List.Mem.tail)) (by omega) (take_full (n := b.seen.length) (size := 2) (flat_len seenC 2 (fun _ => rfl) _) (by omega))) (fun h => by rw [List.eq_nil_of_length_eq_zero h]; rfl) (flat_all seenC (fun _ => rfl) _) (by unfold maxLen; omega) (by omega) (fun _ => (by repeat (first | exact Upd.head | apply Upd.tail))) (fun _ => putS rfl (by simp only [List.set]; rfl)) (fun _ => by simp) fun j2 => ?_
   simp only [List.nil_append, Nat.zero_add]
   refine TD.capp (pend' := [⟨1, [2], []⟩]) [8, 10] rfl rfl rfl rfl rfl (a_app rfl ApOf.h rfl (by repeat (first | exact List.Mem.head _ | assumption | apply List.Mem.tail)) (flat_len seenC 2 (fun _ => rfl) _) rfl (src_row (ln := [_, _]) (by repeat (first | exact List.Mem.head _ | assumption | apply List.Mem.tail)) (by decide) (by simp) rfl) (by omega) rfl (by unfold maxLen; omega) (by omega)) (fun _ => (by repeat (first | exact Upd.head | apply Upd.tail))) (fun _ => putS rfl (by simp only [List.set]; rfl)) (fun _ => (by simp)) fun j3 => ?_
   refine TD.z [2] rfl (q_fieldAddr rfl rfl FldOf.h (by decide)) ?_
   refine TD.s (pend' := []) [11, 12] rfl rfl (q_store rfl rfl TySz.h rfl rfl (by repeat (first | exact List.Mem.head _ | assumption | apply List.Mem.tail)) rfl) ?_
   refine TD.fin ?_
   refine au [4, 5, 8] ?_
   refine TK.freezeB2 13 rfl (by repeat (first | exact Upd.head | apply Upd.tail)) rfl ?_
   refine au [17, 3] ?_
   refine TK.rt hret [(s, _), (e, _), (j3, _)] ?_
   exact ⟨j3, by unfold bookC; rw [← look_len]; rfl, by unfold seenO; rw [look_seen]; rfl⟩
 ·refine exK_newR rfl (n_buildSlice (l := [_, _]) rfl SlEl.h TyZ.h (by decide) (by decide) rfl) (fun _ => putS rfl (by simp only [List.set]; rfl)) (by simp) fun j5 hj5 => ?_
  refine TD.cnewR (pend' := [⟨2, [6], [(_, _)]⟩, ⟨1, [2], []⟩]) [] rfl rfl rfl rfl rfl (n_buildSlice (l := []) rfl SlEl.h TyZ.h (by decide) (by decide) rfl) (fun _ => putS rfl (by simp only [List.set]; rfl)) (by simp) fun j1 hj1 => ?_
  refine TD.cappG (ln := b.seen.flatMap seenC) (pend' := [⟨1, [2], []⟩]) [5, 7] rfl rfl rfl rfl rfl rfl ApOf.h rfl (by repeat (first | exact List.Mem.head _ | assumption | apply List.Mem.tail)) rfl rfl rfl (fun hp => src_sl (by repeat (first | exact List.Mem.head _ | assumption | apply List.Mem.tail)) (by omega) (take_full (n := b.seen.length) (size := 2) (flat_len seenC 2 (fun _ => rfl) _) (by omega))) (fun h => by rw [List.eq_nil_of_length_eq_zero h]; rfl) (flat_all seenC (fun _ => rfl) _) (by unfold maxLen; omega) (by omega) (fun _ => (by repeat (first | exact Upd.head | apply Upd.tail))) (fun _ => putS rfl (by simp only [List.set]; rfl)) (fun _ => by simp) fun j2 => ?_
  simp only [List.nil_append, Nat.zero_add]
  refine TD.capp (pend' := [⟨1, [2], []⟩]) [8, 10] rfl rfl rfl rfl rfl (a_app rfl ApOf.h rfl (by repeat (first | exact List.Mem.head _ | assumption | apply List.Mem.tail)) (flat_len seenC 2 (fun _ => rfl) _) rfl (src_row (ln := [_, _]) (by repeat (first | exact List.Mem.head _ | assumption | apply List.Mem.tail)) (by decide) (by simp) rfl) (by omega) rfl (by unfold maxLen; omega) (by omega)) (fun _ => (by repeat (first | exact Upd.head | apply Upd.tail))) (fun _ => putS rfl (by simp only [List.set]; rfl)) (fun _ => (by simp)) fun j3 => ?_
  refine TD.z [2] rfl (q_fieldAddr rfl rfl FldOf.h (by decide)) ?_
  refine TD.s (pend' := []) [11, 12] rfl rfl (q_store rfl rfl TySz.h rfl rfl (by repeat (first | exact List.Mem.head _ | assumption | apply List.Mem.tail)) rfl) ?_
  refine TD.fin ?_
  refine au [4, 5, 8] ?_
  refine TK.freezeB2 13 rfl (by repeat (first | exact Upd.head | apply Upd.tail)) rfl ?_
  refine au [17, 3] ?_
  refine TK.rt hret [(s, _), (e, _), (j3, _)] ?_
  exact ⟨j3, by unfold bookC; rw [← look_len]; rfl, by unfold seenO; rw [look_seen]; rfl⟩

theorem givenR_ok {main : Bool} {T : Goroutine → Hp → Prop} (hT : Shut Tryz.prog main T) {gm : Nat → Option Nat} {b : Bk} {s e : Nat} {k : Nat} (hl2 : b.seekers.length ≤ 1000) (hk : k < b.seekers.length) :
  CallK Tryz.prog T gm 22 [.agg (bookC b s e), intA k] [(s, saysO b), (e, seenO b)] (fun r K' => ∃ j3, r = .agg (bookC (giveB b k) j3 e) ∧ K' = [(s, saysO b), (e, seenO b), (j3, saysO (giveB b k))]) := by
 refine callK_in 16 hT Tryz.func22 fun Y hret => ?_
 refine au [4, 5, 21] ?_
 intro jb hjb
 refine au [22] ?_
 intro jr hjr
 refine au [3, 4, 5] ?_
 refine TK.newR rfl rfl rfl (n_buildSlice (l := []) rfl SlEl.h TyZ.h (by decide) (by decide) rfl) (fun _ => putS rfl (by simp only [List.set]; rfl)) fun j1 hj1 => ?_
 refine au [7, 9] ?_
 refine TK.appG (ln := b.seekers.flatMap saysC) rfl rfl rfl ApOf.h rfl (by repeat (first | exact List.Mem.head _ | assumption | apply List.Mem.tail)) rfl rfl rfl (fun hp => src_sl (by repeat (first | exact List.Mem.head _ | assumption | apply List.Mem.tail)) (by omega) (take_full (n := b.seekers.length) (size := 5) (flat_len saysC 5 (fun _ => rfl) _) (by omega))) (fun h => by rw [List.eq_nil_of_length_eq_zero h]; rfl) (flat_all saysC (fun _ => rfl) _) (by unfold maxLen; omega) (by omega) (fun _ => (by repeat (first | exact Upd.head | apply Upd.tail))) (fun _ => putS rfl (by simp only [List.set]; rfl)) fun j2 => ?_
 simp only [List.nil_append, Nat.zero_add]
 refine au [7, 17, 3, 4, 5, 7, 9, 1, 37, 7] ?_
 refine TK.st rfl rfl rfl (q_store rfl rfl TySz.h rfl rfl (by repeat (first | exact List.Mem.head _ | assumption | apply List.Mem.tail)) (put_glass hk)) (by repeat (first | exact Upd.head | apply Upd.tail)) (putN rfl) ?_
 refine au [3, 4, 5, 8] ?_
 refine TK.freezeB1 15 rfl (by repeat (first | exact Upd.head | apply Upd.tail)) rfl ?_
 refine au [17, 3] ?_
 refine TK.rt hret [(s, _), (e, _), (j2, _)] ?_
 exact ⟨j2, by unfold bookC; rw [← give_len]; rfl, rfl⟩
end Go.Vel
end
