/- Texts for the statements of chapter 9: what all of them need, part 9. It holds of every program, tape and world that the statements name, as each theorem says. -/
import Derived.Shelf.Sort.Plain
import Derived.Shelf.Slices.CompactI
import Derived.Shelf.Slices.In.SortNone
import Derived.Sort.OwnSortedInts
import Derived.Test.YtpdioiojfgknbaaDoorW5
import Derived.Test.YtpdioiojfgknbaaDoorW7
section
set_option linter.all false
set_option maxRecDepth 20000
set_option maxHeartbeats 60000000
namespace Go.Vel
open Go Go.Conc Go.Proofs

def rowO (Ls : List (List Int)) : AObj := .row (Ls.flatMap seamsC) 81 4
theorem list_atR (Ls : List (List Int)) (i : Nat) (h : i < Ls.length) : takeO (rowO Ls) ((i : Int).toNat * 4) 4 = some (seamsC Ls[i]) := by
 have hle : (i + 1) * 4 ≤ Ls.length * 4 := Nat.mul_le_mul_right _ h
 simp only [takeO, AObj.look, rowO, Int.toNat_natCast]
 rw [if_pos ⟨by omega, by rw [flat_len seamsC 4 (fun _ => rfl)]; omega⟩, flat_take seamsC 4 (fun _ => rfl) _ _ h]

/-! ### arcs -/
def arcK (b : Bk) (low : Nat) : Option Nat := (List.range b.steps.toNat).find? fun k => decide ((withinM b (statesM b) low ((k : Int) + 1)).1 > 0)
def arcA (b : Bk) (low : Nat) : Option (Int × Int) := (arcK b low).map fun k => ((low : Int), (k : Int) + 1)
def msgN (b : Bk) (cg cn low : Nat) : Nat × Value := match arcK b low with
 | some k => (cg, .agg #[.int .i64 low, .int .i64 ((k : Int) + 1)])
 | none => (cn, .bool true)
def arcsOf (b : Bk) (rec : List Nat) : List (Int × Int) := rec.filterMap (arcA b)
def arcC (x : Int × Int) : List AV := [intA x.1, intA x.2]
def narrowM (b : Bk) : Int × Int := firstL ltArc ((arcsOf b (List.range b.steps.toNat)).headD (0, 0)) ((arcsOf b (List.range b.steps.toNat)).drop 1)
theorem ltArc_iff (a c : Int × Int) : ltArc a c = true ↔ a.2 < c.2 ∨ (a.2 = c.2 ∧ a.1 < c.1) := by
 unfold ltArc; simp
theorem firstL_min {o : Int × Int} {xs : List (Int × Int)} : ∀ y ∈ o :: xs, ltArc y (firstL ltArc o xs) = false := by
 induction xs generalizing o with
 | nil =>
  intro y hy
  simp only [List.mem_singleton] at hy
  subst hy
  unfold firstL ltArc; simp
 | cons x xs ih =>
  intro y hy
  show ltArc y (firstL ltArc (if ltArc x o = true then x else o) xs) = false
  have h0 := ih (o := if ltArc x o = true then x else o)
  generalize firstL ltArc (if ltArc x o = true then x else o) xs = m at h0
  rcases List.mem_cons.1 hy with rfl | hy
  ·by_cases hc : ltArc x y = true
   ·rw [if_pos hc] at h0
    have h1 := h0 x List.mem_cons_self
    rw [Bool.eq_false_iff] at h1 ⊢
    intro h2
    apply h1
    rw [ltArc_iff] at hc h2 ⊢
    omega
   ·rw [if_neg hc] at h0
    exact h0 y List.mem_cons_self
  ·rcases List.mem_cons.1 hy with rfl | hy
   ·by_cases hc : ltArc y o = true
    ·rw [if_pos hc] at h0; exact h0 y List.mem_cons_self
    ·rw [if_neg hc] at h0
     have h1 := h0 o List.mem_cons_self
     rw [Bool.eq_false_iff] at h1 ⊢
     intro h2
     apply h1
     rw [ltArc_iff] at hc h2 ⊢
     omega
   ·exact h0 y (List.mem_cons_of_mem _ hy)
theorem firstL_same {o o' : Int × Int} {xs xs' : List (Int × Int)} (h : ∀ y, y ∈ o :: xs ↔ y ∈ o' :: xs') : firstL ltArc o xs = firstL ltArc o' xs' := by
 have h1 := firstL_min (o := o) (xs := xs) _ ((h _).2 (firstL_mem (lt := ltArc) (o := o') (xs := xs')))
 have h2 := firstL_min (o := o') (xs := xs') _ ((h _).1 (firstL_mem (lt := ltArc) (o := o) (xs := xs)))
 rw [Bool.eq_false_iff, ne_eq, ltArc_iff] at h1 h2
 exact Prod.ext (by omega) (by omega)
theorem nodup_sub : ∀ {l1 l2 : List Nat}, l1.Nodup → (∀ x ∈ l1, x ∈ l2) → l1.length ≤ l2.length
 | [], _, _, _ => Nat.zero_le _
 | x :: l1, l2, hn, hs => by
  obtain ⟨h1, h2⟩ := List.nodup_cons.1 hn
  have hx : x ∈ l2 := hs x (by simp)
  have := nodup_sub (l1 := l1) (l2 := l2.erase x) h2 fun y hy => by
   have hne : y ≠ x := fun e => h1 (e ▸ hy)
   exact (List.mem_erase_of_ne hne).2 (hs y (by simp [hy]))
  rw [List.length_erase_of_mem hx] at this
  have : 0 < l2.length := List.length_pos_of_mem hx
  simp; omega
theorem rec_some {N : Nat} {rec : List Nat} (hn : rec.Nodup) (hlt : rec.length < N) : ∃ q, q < N ∧ q ∉ rec := by
 refine Classical.byContradiction fun h => ?_
 have hall : ∀ q ∈ List.range N, q ∈ rec := fun q hq => Classical.byContradiction fun hm => h ⟨q, List.mem_range.1 hq, hm⟩
 have := nodup_sub (List.nodup_range (n := N)) hall
 rw [List.length_range] at this
 omega
theorem rec_all {N : Nat} {rec : List Nat} (hn : rec.Nodup) (hs : ∀ q ∈ rec, q < N) (hl : rec.length = N) : ∀ q, q < N → q ∈ rec := fun q hq => Classical.byContradiction fun hm => by
 have := nodup_sub (l1 := q :: rec) (l2 := List.range N) (List.nodup_cons.2 ⟨hm, hn⟩) fun x hx => by
  rcases List.mem_cons.1 hx with rfl | hx
  ·exact List.mem_range.2 hq
  ·exact List.mem_range.2 (hs x hx)
 rw [List.length_range] at this
 simp at this
 omega
theorem arcsOf_same {b : Bk} {rec : List Nat} {N : Nat} (h : ∀ q, q ∈ rec ↔ q < N) (y : Int × Int) : y ∈ arcsOf b rec ↔ y ∈ arcsOf b (List.range N) := by
 unfold arcsOf
 simp only [List.mem_filterMap, List.mem_range, h]
theorem arcsOf_len (b : Bk) (rec : List Nat) : (arcsOf b rec).length ≤ rec.length := List.length_filterMap_le _ _
theorem arcsOf_S {b : Bk} {rec : List Nat} {q : Nat} {x : Int × Int} (h : arcA b q = some x) : arcsOf b (rec ++ [q]) = arcsOf b rec ++ [x] := by
 unfold arcsOf; rw [List.filterMap_append]; simp [h]
theorem arcsOf_N {b : Bk} {rec : List Nat} {q : Nat} (h : arcA b q = none) : arcsOf b (rec ++ [q]) = arcsOf b rec := by
 unfold arcsOf; rw [List.filterMap_append]; simp [h]
theorem arc_take {xs : List (Int × Int)} {k : Nat} (h : k < xs.length) {e : TypeId} {sz : Nat} : takeO (.row (xs.flatMap arcC) e sz) (k * 2) 2 = some [intA xs[k].1, intA xs[k].2] := by
 have hle : (k + 1) * 2 ≤ xs.length * 2 := Nat.mul_le_mul_right _ h
 have hl := flat_len arcC 2 (fun _ => rfl) xs
 simp only [takeO, AObj.look]
 rw [if_pos ⟨by omega, by omega⟩, flat_take arcC 2 (fun _ => rfl) _ _ h]
 rfl

section
variable {P : Program} {gm : Nat → Option Nat} {T : Goroutine → Hp → Prop} {cg cn : Nat} {msg : Nat → Nat × Value} {Stop : Goroutine → Hp → Prop} {Y : KX P gm T} {ds : List Nat} {k : List Item} {env : List AV} {K : KV} {φ0 : Nat → Loc3} {n0 : Nat}
theorem TK.loopJ {R : Nat → Bool} {c : Code} (I : Nat → List AV → KV → Prop) (N : Nat) (h0 : I 0 env K) (round : ∀ j env K, j ≤ N → I j env K → (∀ env' K', j < N → I (j + 1) env' K' → TK (phX Y cg cn msg Stop (j + 1) R φ0 n0) ds (.inLoop c :: k) env' K') → TK (phX Y cg cn msg Stop j R φ0 n0) ds (.code c :: .inLoop c :: k) env K) :
  TK (phX Y cg cn msg Stop 0 R φ0 n0) ds (.code (.loop c) :: k) env K := by
 have key : ∀ q j env K, N - j = q → j ≤ N → I j env K → TK (phX Y cg cn msg Stop j R φ0 n0) ds (.code c :: .inLoop c :: k) env K := by
  intro q
  induction q with
  | zero => exact fun j env K hq hj hI => round j env K hj hI fun env' K' hlt => absurd hlt (by omega)
  | succ q ih => exact fun j env K hq hj hI => round j env K hj hI fun env' K' hlt hI' => TK.inLoop (ih (j + 1) env' K' (by omega) (by omega) hI')
 exact TK.loop (key N 0 env K rfl (Nat.zero_le _) h0)
theorem TK.loopR {j : Nat} {R : Nat → Bool} {c : Code} (I : Nat → (Nat → Bool) → List AV → KV → Prop) (n : Nat) (h0 : I n R env K) (round : ∀ n R env K, I n R env K → (∀ n' R' env' K', n' < n → I n' R' env' K' → TK (phX Y cg cn msg Stop j R' φ0 n0) ds (.inLoop c :: k) env' K') → TK (phX Y cg cn msg Stop j R φ0 n0) ds (.code c :: .inLoop c :: k) env K) :
  TK (phX Y cg cn msg Stop j R φ0 n0) ds (.code (.loop c) :: k) env K := by
 have key : ∀ n R env K, I n R env K → TK (phX Y cg cn msg Stop j R φ0 n0) ds (.code c :: .inLoop c :: k) env K := by
  intro n
  induction n using Nat.strongRecOn with
  | _ n ih => exact fun R env K hI => round n R env K hI fun n' R' env' K' hlt hI' => TK.inLoop (ih n' hlt R' env' K' hI')
 exact TK.loop (key n R env K h0)
theorem fr_enterD {f : FuncId} {fn : Func} {c : Code} (args : Array Value) (hf : P.funcs[f]? = some fn) (hb : fn.body = some c) : Frame.enter P f args .deferred = fr .deferred f none (args ++ Array.replicate (fn.ntmps - args.size) undef) [] [.code c] := by
 simp [Frame.enter, hf, hb, fr]
/-- A worker's walk, from its birth. -/
theorem tree_of {m : Nat × Value} {g : FuncId} {fn : Func} {c : Code} {cp : List AV} {K : KV} {φ : Nat → Loc3} {A : List AObj} {Hc : Hp} {vs : Array Value} (hg : callable P g = true) (hf : P.funcs[g]? = some fn) (hb : fn.body = some c) (hv : View K A) (hn : (keys K).Nodup) (h3 : RelG gm φ A.length) (h5 : RelH φ A (fun _ => none) Hc) (h6 : RelL φ A.length cp vs)
  (h : ∀ Y : KX P gm (TreeW P (AtSend P m)), Y.X.kd = .deferred → Y.X.ro = none → Y.X.cs = [bot P] → Y.X.f = g → TK Y [] [.code c] (cp ++ List.replicate (fn.ntmps - cp.length) .any) K) : TreeW P (AtSend P m) (born P { target := .fn (.func g) vs, args := #[] }) Hc := by
 have hT := shut_treeW P (AtSend P m)
 refine hT.ctl rfl (fun w => birth hg #[] vs w) rfl ?_
 rw [Array.empty_append, fr_enterD vs hf hb]
 let X : Cx P gm (TreeW P (AtSend P m)) := { main := false, hT, φ0 := φ, n0 := A.length, F := fun _ => none, kd := .deferred, hkd := (fun h => by cases h), f := g, ro := none, cs := [bot P], L := fun _ _ _ _ => False, hL := fun _ _ _ _ _ _ _ _ _ h => h.elim }
 exact h ⟨X, A, keys K⟩ rfl rfl rfl rfl A ⟨hv, hn, fun i hi => .inl hi, fun _ _ _ => rfl, Nat.le_refl _⟩ φ Hc _ (Agr.refl _ _) (Nat.le_refl _) h3 (fun d hd => by cases hd) h5 (relL_undef h6 _)
end


theorem askR_ok {main : Bool} {T : Goroutine → Hp → Prop} (hT : Shut Tryd.prog main T)  {b : Bk} {s e : Nat} {yv : AV} {t : Bool} {Kt : KV} (hse : s ≠ e) (hn : ∀ x ∈ b.seekers, x.name.size ≤ 1000) (hl : b.seen.length ≤ 1000) (hy1 : oneA yv = true) (hth : BkOk b → CallFK Tryd.prog T gmS yv [.agg (bookC b s e)] Kt (fun r K' => r = boolA t ∧ K' = Kt)) :
  CallK Tryd.prog T gmS 31 [.agg (bookC b s e), yv] ((0, checksG) :: (1, saysG) :: (s, saysO b) :: (e, seenO b) :: Kt) (fun r K' => (askM b t ≠ 0 ∧ r = .tup [.agg zeroKn, intA (askM b t)] ∧ K' = (0, checksG) :: (1, saysG) :: (s, saysO b) :: (e, seenO b) :: Kt) ∨ (∃ jl m om, askM b t = 0 ∧ MapOk om (oftM (statesM b)) ∧ r = .tup [.agg (knownC b s e (.row jl (statesM b).length) m), intA 0] ∧ K' = (jl, rowO (statesM b)) :: (m, .raw om) :: (0, checksG) :: (1, saysG) :: (s, saysO b) :: (e, seenO b) :: Kt)) := by
 refine callK_in 59 hT Tryd.func31 fun Y hret => ?_
 refine au [4, 5, 21] ?_
 intro jb hjb
 refine au [22] ?_
 intro jk hjk
 refine au [2, 3, 4, 4, 5, 8] ?_
 refine TK.cl rfl rfl rfl rfl (check_ok hT (b := b) (s := s) (e := e) hn hl) ?_
 rintro r1 K2 ⟨rfl, rfl⟩
 refine au [2, 3, 4, 5, 1, 6, 3, 20] ?_
 refine ⟨fun hc0 => ?_, fun hc0 => ?_⟩
 ·refine au [4, 5, 45, 1, 17, 2, 3] ?_
  refine TK.rt hret (((0, checksG) :: (1, saysG) :: (s, saysO b) :: (e, seenO b) :: Kt)) ?_
  have ha : askM b t = checkM b := if_pos (by simpa using hc0)
  exact .inl ⟨by rw [ha]; simpa using hc0, by rw [ha]; rfl, rfl⟩
 have hc1 : checkM b = 0 := by simpa using hc0
 have hb := bkOk_of hc1
 refine au [12, 4, 5, 8, 43] ?_
 refine TK.newM rfl rfl rfl (n_makeMap rfl) (fun _ => putS rfl (by simp only [List.set]; rfl)) fun jm hjm => ?_
 refine au [45, 22] ?_
 intro jx hjx
 refine au [17, 3, 4, 4, 5, 1, 7, 8] ?_
 refine TK.callF' rfl rfl rfl rfl rfl (hth hb) (.right (.right (.right (.right (.right (.right (.right (.right (.all _))))))))) fun r4 K5 h6 => ?_
 obtain ⟨rfl, hK⟩ := h6
 refine au [] ?_
 rw [hK]
 refine TK.perm (K' := (jx, _) :: (jm, _) :: (0, _) :: (s, _) :: (e, _) :: (jk, _) :: (jb, _) :: (1, _) :: Kt) (List.perm_append_comm (l₁ := Kt)) ?_
 refine au [30, 3, 20] ?_
 refine ⟨fun hc2 => ?_, fun hc2 => ?_⟩
 ·have ht : t = false := by simpa using hc2
  refine au [4, 5, 45, 17, 2, 3] ?_
  refine TK.rt hret (((0, checksG) :: (1, saysG) :: (s, saysO b) :: (e, seenO b) :: Kt)) ?_
  have ha : askM b t = 6 := by unfold askM; rw [if_neg (by simpa using hc1), ht, if_pos rfl]
  exact .inl ⟨by rw [ha]; decide, by rw [ha]; rfl, rfl⟩
 have ht : t = true := by simpa using hc2
 refine au [12, 4, 4, 5, 7, 8] ?_
 refine TK.cl rfl rfl rfl rfl (states_ok hT hse hb) ?_
 rintro r7 K8 ⟨jl, rfl, rfl⟩
 refine au [7, 17, 3, 4, 5, 7, 9, 28, 6, 3, 20] ?_
 refine ⟨fun hc3 => ?_, fun hc3 => ?_⟩
 ·have hst : statesM b = [] := List.eq_nil_of_length_eq_zero (by have h : ((statesM b).length : Int) = 0 := (by simpa using hc3); omega)
  refine au [4, 5, 45, 17, 2, 3] ?_
  refine TK.rt hret (((0, checksG) :: (1, saysG) :: (s, saysO b) :: (e, seenO b) :: Kt)) ?_
  have ha : askM b t = 9 := by unfold askM; rw [if_neg (by simpa using hc1), ht, if_neg (by decide), if_pos hst]
  exact .inl ⟨by rw [ha]; decide, by rw [ha]; rfl, rfl⟩
 have hst : statesM b ≠ [] := fun h => by rw [h] at hc3; exact absurd hc3 (by decide)
 have hLo := statesM_ok hb
 have hLn := statesM_len hb
 refine au [12, 4, 4, 5, 7, 9, 28, 1, 3, 13] ?_
 refine TK.maskL [4, 7, 38, 39, 40] ?_
 refine TK.kp (((jx, _) :: (jm, _) :: (jl, _) :: (jk, _) :: (0, _) :: (1, _) :: (s, _) :: (e, _) :: Kt)) ?_
 refine TK.loopN (fun n env K => ∃ (i : Nat) (om : Obj), n = (statesM b).length - i ∧ i ≤ (statesM b).length ∧ MapOk om (fun q => (((statesM b).take i).flatten.count q : Nat)) ∧ env = slotsA 59 [(4, .ptr jk 0), (7, .ptr jx 0), (38, .row jl (statesM b).length), (39, intA (statesM b).length), (40, intA i)] ∧ K = (jx, .cells (knownC b s e (.row jl (statesM b).length) jm) 74 true) :: (jm, .raw om) :: (jl, rowO (statesM b)) :: (jk, .cells zeroKn 74 true) :: (0, checksG) :: (1, saysG) :: (s, saysO b) :: (e, seenO b) :: Kt) (statesM b).length ⟨0, _, rfl, Nat.zero_le _, mapOk_nil, rfl, rfl⟩ fun n env K hI' hnext => ?_
 obtain ⟨i, om, rfl, hi, hom, rfl, rfl⟩ := hI'
 refine au [4, 5, 6, 3, 4, 20] ?_
 refine ⟨fun hc => ?_, fun hc => ?_⟩
 ·simp only [decide_eq_true_eq] at hc
  have hil : i < (statesM b).length := by omega
  have hSm := hLo _ (List.getElem_mem hil)
  refine au [12, 4, 13, 4, 5, 37] ?_
  refine TK.a rfl (q_load rfl rfl TySz.h (by repeat (first | exact List.Mem.head _ | assumption | apply List.Mem.tail)) (list_atR (statesM b) i hil)) ?_
  refine au [22] ?_
  intro j9 hj9
  refine au [17, 3, 4, 5, 8] ?_
  refine TK.cl rfl rfl rfl rfl (list_ok hT hSm.len fun x hx => ⟨(hSm.mem x hx).1, by have := (hSm.mem x hx).2; have := hb.steps; omega⟩) ?_
  rintro r10 K11 ⟨jr, rfl, rfl⟩
  refine au [28, 1, 3, 13] ?_
  refine TK.maskL [4, 7, 38, 39, 40, 45, 46, 47] ?_
  refine TK.kp (((jr, _) :: (jx, _) :: (jm, _) :: (jl, _) :: (jk, _) :: (0, _) :: (1, _) :: (s, _) :: (e, _) :: Kt)) ?_
  refine TK.loopN (fun n env K => ∃ (q : Nat) (om2 : Obj), n = (statesM b)[i].length - q ∧ q ≤ (statesM b)[i].length ∧ MapOk om2 (fun z => (((((statesM b).take i).flatten ++ (statesM b)[i].take q).count z : Nat) : Int)) ∧ env = slotsA 59 [(4, .ptr jk 0), (7, .ptr jx 0), (38, .row jl (statesM b).length), (39, intA (statesM b).length), (40, intA i), (45, .row jr (statesM b)[i].length), (46, intA (statesM b)[i].length), (47, intA q)] ∧ K = (jr, .row ((statesM b)[i].map intA) 3 1) :: (jx, .cells (knownC b s e (.row jl (statesM b).length) jm) 74 true) :: (jm, .raw om2) :: (jl, rowO (statesM b)) :: (jk, .cells zeroKn 74 true) :: (0, checksG) :: (1, saysG) :: (s, saysO b) :: (e, seenO b) :: Kt) (statesM b)[i].length ⟨0, om, rfl, Nat.zero_le _, by simpa using hom, rfl, rfl⟩ fun n env K hI' hnext2 => ?_
  obtain ⟨q, om2, rfl, hq, hom2, rfl, rfl⟩ := hI'
  refine au [4, 5, 6, 3, 4, 20] ?_
  refine ⟨fun hcq => ?_, fun hcq => ?_⟩
  ·simp only [decide_eq_true_eq] at hcq
   have hlen3 := hSm.len
   have hql : q < (statesM b)[i].length := by omega
   have hcnt : (((statesM b).take i).flatten ++ (statesM b)[i].take q).count (statesM b)[i][q] ≤ 200000 := Nat.le_trans List.count_le_length (by
    have h1 := flatten_len (Ls := (statesM b).take i) (fun R hR => (hLo R (List.mem_of_mem_take hR)).len)
    have h2 : ((statesM b).take i).length ≤ 65536 := by rw [List.length_take]; omega
    have h3 := hSm.len
    rw [List.length_append, List.length_take]; omega)
   refine au [12, 4, 13, 4, 5, 37] ?_
   refine TK.a rfl (q_load1 rfl rfl TySz.h (by repeat (first | exact List.Mem.head _ | assumption | apply List.Mem.tail)) (row_take (i := q) hql rfl)) ?_
   refine au [2, 3, 5, 7, 9, 1] ?_
   refine TK.a rfl (q_lookup rfl rfl rfl Und.h Und.h InfO.h rfl (by repeat (first | exact List.Mem.head _ | assumption | apply List.Mem.tail)) hom2) ?_
   refine au [23] ?_
   refine TK.st rfl rfl rfl (s_mapUpdate rfl rfl rfl rfl Und.h Und.h (by repeat (first | exact List.Mem.head _ | assumption | apply List.Mem.tail)) hom2) (by repeat (first | exact Upd.head | apply Upd.tail)) (putN rfl) ?_
   refine au [3, 14, 5, 23, 1, 3] ?_
   refine TK.maskL [4, 7, 38, 39, 40, 45, 46, 47] ?_
   refine TK.kp (((jr, _) :: (jx, _) :: (jm, _) :: (jl, _) :: (jk, _) :: (0, _) :: (1, _) :: (s, _) :: (e, _) :: Kt)) ?_
   exact hnext2 _ _ _ (by omega) ⟨q + 1, _, rfl, by omega, mapOk_congr (upM_ok hom2) (fun z => (oft_step hil hql z).symm), rfl, rfl⟩
  simp only [decide_eq_false_iff_not] at hcq
  obtain rfl : q = (statesM b)[i].length := by omega
  refine au [16, 14, 5, 23, 1, 3] ?_
  refine TK.maskL [4, 7, 38, 39, 40] ?_
  refine TK.kp (((jx, _) :: (jm, _) :: (jl, _) :: (jk, _) :: (0, _) :: (1, _) :: (s, _) :: (e, _) :: Kt)) ?_
  exact hnext _ _ _ (by omega) ⟨i + 1, om2, rfl, by omega, mapOk_congr hom2 (fun q => by rw [oft_next hil]), rfl, rfl⟩
 simp only [decide_eq_false_iff_not] at hc
 obtain rfl : i = (statesM b).length := by omega
 refine au [16, 4, 5, 8, 17, 2, 3] ?_
 refine TK.rt hret (((jl, _) :: (jm, _) :: (0, checksG) :: (1, saysG) :: (s, saysO b) :: (e, seenO b) :: Kt)) ?_
 have ha : askM b t = 0 := by unfold askM; rw [if_neg (by simpa using hc1), ht, if_neg (by decide), if_neg hst]
 rw [List.take_length] at hom
 exact .inr ⟨jl, jm, _, ha, hom, rfl, rfl⟩

theorem worker_ok {gm : Nat → Option Nat} {m : Nat × Value} {b : Bk} {s e j9 j7 j8 jx jb jl jm low cg cn : Nat} (hb : BkOk b) (hlow : low < b.steps.toNat) (hm : m = msgN b cg cn low) (Y : KX Tryd.prog gm (TreeW Tryd.prog (AtSend Tryd.prog m))) (hkd : Y.X.kd = .deferred) (hro : Y.X.ro = none) (hcs : Y.X.cs = [bot Tryd.prog]) (hf : Y.X.f = 39) :
  TK Y [] [.code ((Tryd.f39.body).getD .skip)] ([.ptr jb 0, .ptr jx 0, .ptr j9 0, .ptr j7 0, .ptr j8 0] ++ List.replicate (Tryd.f39.ntmps - 5) .any) [(j9, .cells [intA low] 3 false), (j7, .cells [.v (.chan (some cg))] 86 false), (j8, .cells [.v (.chan (some cn))] 87 false), (jx, .cells (knownC b s e (.sl jl 0 (statesM b).length) jm) 74 false), (jb, .cells (bookC b s e) 27 false), (jl, listO (statesM b))] := by
 have hT := shut_treeW Tryd.prog (AtSend Tryd.prog m)
 have hLo := statesM_ok hb
 have hLn := statesM_len hb
 have hst16 := hb.steps
 refine TK.norm (he := rfl) (env' := [_, _, _, _, _, _, _, _, _, _, _, _, _, _, _, _, _, _, _, _, _, _, _]) ?_
 refine au [4, 4, 5, 2, 3, 13] ?_
 refine TK.maskL [0, 1, 2, 3, 4, 5] ?_
 refine TK.loopN (fun n env K => ∃ (i : Nat), n = b.steps.toNat - i ∧ i ≤ b.steps.toNat ∧ (∀ q, q < i → ¬ (withinM b (statesM b) low ((q : Int) + 1)).1 > 0) ∧ env = slotsA 23 [(0, .ptr jb 0), (1, .ptr jx 0), (2, .ptr j9 0), (3, .ptr j7 0), (4, .ptr j8 0), (5, intA ((i : Int) + 1))] ∧ K = [(j9, .cells [intA low] 3 false), (j7, .cells [.v (.chan (some cg))] 86 false), (j8, .cells [.v (.chan (some cn))] 87 false), (jx, .cells (knownC b s e (.sl jl 0 (statesM b).length) jm) 74 false), (jb, .cells (bookC b s e) 27 false), (jl, listO (statesM b))]) b.steps.toNat ⟨0, rfl, Nat.zero_le _, fun q hq => absurd hq (Nat.not_lt_zero _), rfl, rfl⟩ fun n env K hI' hnext => ?_
 obtain ⟨i, rfl, hi, hno, rfl, rfl⟩ := hI'
 refine au [4, 4, 5, 1, 7, 9, 6, 3, 20] ?_
 refine ⟨fun hc => ?_, fun hc => ?_⟩
 ·simp only [decide_eq_true_eq] at hc
  have hil : i < b.steps.toNat := by omega
  refine au [12, 4, 13, 4, 5, 8, 9, 1] ?_
  refine TK.cl rfl rfl rfl rfl (within_ok hT (b := b) (s := s) (e := e) (lo := low) (w := (i : Int) + 1) hb.steps hLo hLn (by omega)) ?_
  rintro r1 K2 ⟨rfl, rfl⟩
  refine au [31, 6, 3, 20] ?_
  refine ⟨fun hc1 => ?_, fun hc1 => ?_⟩
  ·have hak : arcK b low = some i := List.find?_range_eq_some.2 ⟨by simpa using hc1, List.mem_range.2 hil, fun q hq => by have := hno q hq; simpa using this⟩
   obtain rfl : m = (cg, .agg #[.int .i64 low, .int .i64 ((i : Int) + 1)]) := by rw [hm]; unfold msgN; rw [hak]
   refine au [4, 5, 9, 9, 1, 39] ?_
   exact TK.sendW rfl rfl rfl rfl rfl rfl hkd hro hcs fun ts => by rw [hf]; exact quits_ret Tryd.func39 rfl
  refine au [12, 14, 5, 1, 23, 2, 3] ?_
  refine TK.maskL [0, 1, 2, 3, 4, 5] ?_
  refine TK.kp [(j9, _), (j7, _), (j8, _), (jx, _), (jb, _), (jl, _)] ?_
  exact hnext _ _ _ (by omega) ⟨i + 1, rfl, by omega, fun q hq => by
   rcases Nat.lt_or_ge q i with h | h
   ·exact hno q h
   ·obtain rfl : q = i := by omega
    simpa using hc1, rfl, rfl⟩
 simp only [decide_eq_false_iff_not] at hc
 obtain rfl : i = b.steps.toNat := by omega
 have hak : arcK b low = none := List.find?_eq_none.2 fun q hq => by have := hno q (List.mem_range.1 hq); simpa using this
 obtain rfl : m = (cn, .bool true) := by rw [hm]; unfold msgN; rw [hak]
 refine au [16, 5, 9] ?_
 exact TK.sendW rfl rfl rfl rfl rfl rfl hkd hro hcs fun ts => by rw [hf]; exact quits_end Tryd.func39 rfl
end Go.Vel
end
section
set_option linter.all false
set_option maxRecDepth 20000
set_option maxHeartbeats 60000000
namespace Go.Vel
open Go Go.Conc Go.Proofs

section
variable {P : Program} {gm : Nat → Option Nat} {T : Goroutine → Hp → Prop} {Y : KX P gm T} {ds : List Nat} {k : List Item} {env : List AV} {K : KV}
theorem TK.share {c : Code} (E : Nat → Nat → Nat → Nat → List AV) (KK : Nat → Nat → Nat → Nat → KV) (h : (∀ a b c d, TK Y ds k (E a b c d) (KK a b c d)) → TK Y ds (.code c :: k) env K) (hc : ∀ a b c d, TK Y ds k (E a b c d) (KK a b c d)) : TK Y ds (.code c :: k) env K := h hc
end
def narrowApi (b : Bk) : (Int × Int) × Bool × Int := if askM b true ≠ 0 then ((0, 0), false, askM b true) else if arcsOf b (List.range b.steps.toNat) = [] then ((0, 0), false, 0) else (narrowM b, true, 0)
theorem flat_ne {Ls : List (List Int)} (h : Ls ≠ []) : Ls.flatMap seamsC ≠ [] := by
 cases Ls with
 | nil => exact absurd rfl h
 | cons S Ls => rw [List.flatMap_cons]; unfold seamsC; simp
theorem msgN_or (b : Bk) (cg cn i : Nat) : (msgN b cg cn i).1 = cg ∨ (msgN b cg cn i).1 = cn := by
 unfold msgN; split
 ·exact .inl rfl
 ·exact .inr rfl
theorem msgN_S {b : Bk} {cg cn q w : Nat} (h : arcK b q = some w) : msgN b cg cn q = (cg, .agg #[.int .i64 q, .int .i64 ((w : Int) + 1)]) ∧ arcA b q = some ((q : Int), (w : Int) + 1) := by
 unfold msgN arcA; rw [h]; exact ⟨rfl, rfl⟩
theorem msgN_N {b : Bk} {cg cn q : Nat} (h : arcK b q = none) : msgN b cg cn q = (cn, .bool true) ∧ arcA b q = none := by
 unfold msgN arcA; rw [h]; exact ⟨rfl, rfl⟩


theorem narrow_ok (tame : Tame Tryd.prog) {Ψ : Goroutine → World → Prop} {b : Bk} {s e : Nat} (hse : s ≠ e) (hn : ∀ x ∈ b.seekers, x.name.size ≤ 1000) (hl : b.seen.length ≤ 1000) : CallK Tryd.prog (BT Tryd.prog Ψ) gmS 9 [.agg (bookC b s e)] [(0, checksG), (1, saysG), (s, saysO b), (e, seenO b)] (fun r K' => r = .tup [intA (narrowApi b).1.1, intA (narrowApi b).1.2, boolA (narrowApi b).2.1, intA (narrowApi b).2.2] ∧ K' = [(0, checksG), (1, saysG), (s, saysO b), (e, seenO b)]) := by
 have hT := shut_BT tame Ψ
 refine callK_in 59 hT Tryd.func9 fun Y hret => ?_
 refine au [4, 5, 21] ?_
 intro jb hjb
 refine au [2, 2, 2, 2, 3, 4, 5, 8] ?_
 refine TK.cl rfl rfl rfl rfl (askR_ok hT (b := b) (s := s) (e := e) (t := true) hse hn hl rfl (fun hb => callFK_fn Cal.h (always_ok hT))) ?_
 rintro r1 K2 h3
 rcases h3 with ⟨hb0, rfl, rfl⟩ | ⟨jl, jm, om, hb0, hom, rfl, rfl⟩
 ·refine au [1, 10, 10, 22] ?_
  intro jx hjx
  refine au [17, 2, 3, 4, 4, 5, 1, 6, 3, 20] ?_
  refine ⟨fun hc0 => ?_, fun hc0 => ?_⟩
  ·
   refine au [4, 5, 1, 2, 2, 2, 2, 3] ?_
   refine TK.rt hret [(0, _), (1, _), (s, _), (e, _)] ?_
   exact ⟨by unfold narrowApi; rw [if_pos hb0]; rfl, rfl⟩
  exact absurd (by simpa using hc0) hb0
 ·refine au [1, 10, 10, 22] ?_
  intro jx hjx
  refine au [17, 2, 3, 4, 4, 5, 1, 6, 3, 20] ?_
  refine ⟨fun hc0 => ?_, fun hc0 => ?_⟩
  ·exact absurd hc0 (by decide)
  obtain ⟨hck, hth, hne⟩ := ask_zero hb0
  have hb := bkOk_of hck
  have hLo := statesM_ok hb
  have hLn := statesM_len hb
  refine au [12, 4] ?_
  refine TK.share (fun jc1 jc2 j7 j8 => slotsA 59 [(1, .ptr jb 0), (6, .ptr jx 0), (7, .ptr j7 0), (8, .ptr j8 0)]) (fun jc1 jc2 j7 j8 => (jc1, .raw (.chan 0 #[] false 0 0 false)) :: (jc2, .raw (.chan 0 #[] false 0 0 false)) :: (j7, .cells [.chan jc1] 86 true) :: (j8, .cells [.chan jc2] 87 true) :: (jx, .cells (knownC b s e (.row jl (statesM b).length) jm) 74 true) :: (jb, .cells (bookC b s e) 27 true) :: (jl, rowO (statesM b)) :: (0, checksG) :: (1, saysG) :: (s, saysO b) :: (e, seenO b) :: []) (fun hcont => ?_) (fun jc1 jc2 j7 j8 => ?_)
  ·refine TK.draw [0, 1, 2, 3, 4, 5] [0, 1, 2, 3, 4, 5] (by kernel_rfl) (by kernel_rfl) ?_
   refine TD.cM [0, 1, 2, 3] rfl ?_
   intro mm hmm
   simp only [List.mem_cons, List.not_mem_nil, or_false] at hmm
   rcases hmm with rfl | rfl | rfl | rfl
   ·refine ⟨[], _, [], [1, 2, 3, 4, 5], rfl, rfl, rfl, rfl, ?_⟩
    refine exK_newC rfl (n_makeChan rfl Und.h InfO.h) (fun _ => putS rfl (by simp only [List.set]; rfl)) (by simp) fun jc1 hjc1 => ?_
    refine TD.cM [1, 2, 3] rfl ?_
    intro mm hmm
    simp only [List.mem_cons, List.not_mem_nil, or_false] at hmm
    rcases hmm with rfl | rfl | rfl
    ·refine ⟨[], _, [], [2, 3, 4, 5], rfl, rfl, rfl, rfl, ?_⟩
     refine exK_newC rfl (n_makeChan rfl Und.h InfO.h) (fun _ => putS rfl (by simp only [List.set]; rfl)) (by simp) fun jc2 hjc2 => ?_
     refine TD.c2 (i1 := 2) (i2 := 3) (pend1 := []) (pend2 := []) (L1 := [3, 4, 5]) (L2 := [2, 4, 5]) [] [] rfl rfl rfl rfl rfl rfl rfl ?_ ?_
     ·refine exK_newP rfl (n_allocA rfl TyZA.h) (fun _ => putS rfl (by simp only [List.set]; rfl)) (by simp) fun j7 hj7 => ?_
      refine TD.cnewP (pend' := []) [] rfl rfl rfl rfl rfl (n_allocA rfl TyZA.h) (fun _ => putS rfl (by simp only [List.set]; rfl)) (by simp) fun j8 hj8 => ?_
      refine TD.s (pend' := []) [7, 21] rfl rfl (q_store rfl rfl TySz.h rfl rfl (by repeat (first | exact List.Mem.head _ | assumption | apply List.Mem.tail)) rfl) ?_
      refine TD.s (pend' := []) [8, 22] rfl rfl (q_store rfl rfl TySz.h rfl rfl (by repeat (first | exact List.Mem.head _ | assumption | apply List.Mem.tail)) rfl) ?_
      refine TD.fin ?_
      refine TK.maskL [1, 6, 7, 8] ?_
      refine TK.kp ((jc1, _) :: (jc2, _) :: (j7, _) :: (j8, _) :: (jx, _) :: (jb, _) :: (jl, _) :: (0, _) :: (1, _) :: (s, _) :: (e, _) :: []) ?_
      exact hcont jc1 jc2 j7 j8
     ·refine exK_newP rfl (n_allocA rfl TyZA.h) (fun _ => putS rfl (by simp only [List.set]; rfl)) (by simp) fun j8 hj8 => ?_
      refine TD.cnewP (pend' := []) [] rfl rfl rfl rfl rfl (n_allocA rfl TyZA.h) (fun _ => putS rfl (by simp only [List.set]; rfl)) (by simp) fun j7 hj7 => ?_
      refine TD.s (pend' := []) [7, 21] rfl rfl (q_store rfl rfl TySz.h rfl rfl (by repeat (first | exact List.Mem.head _ | assumption | apply List.Mem.tail)) rfl) ?_
      refine TD.s (pend' := []) [8, 22] rfl rfl (q_store rfl rfl TySz.h rfl rfl (by repeat (first | exact List.Mem.head _ | assumption | apply List.Mem.tail)) rfl) ?_
      refine TD.fin ?_
      refine TK.maskL [1, 6, 7, 8] ?_
      refine TK.kp ((jc1, _) :: (jc2, _) :: (j7, _) :: (j8, _) :: (jx, _) :: (jb, _) :: (jl, _) :: (0, _) :: (1, _) :: (s, _) :: (e, _) :: []) ?_
      exact hcont jc1 jc2 j7 j8
    ·refine ⟨[], _, [], [1, 3, 4, 5], rfl, rfl, rfl, rfl, ?_⟩
     refine exK_newP rfl (n_allocA rfl TyZA.h) (fun _ => putS rfl (by simp only [List.set]; rfl)) (by simp) fun j7 hj7 => ?_
     refine TD.c2 (i1 := 1) (i2 := 3) (pend1 := []) (pend2 := []) (L1 := [3, 4, 5]) (L2 := [1, 4, 5]) [] [] rfl rfl rfl rfl rfl rfl rfl ?_ ?_
     ·refine exK_newC rfl (n_makeChan rfl Und.h InfO.h) (fun _ => putS rfl (by simp only [List.set]; rfl)) (by simp) fun jc2 hjc2 => ?_
      refine TD.cnewP (pend' := []) [] rfl rfl rfl rfl rfl (n_allocA rfl TyZA.h) (fun _ => putS rfl (by simp only [List.set]; rfl)) (by simp) fun j8 hj8 => ?_
      refine TD.s (pend' := []) [7, 21] rfl rfl (q_store rfl rfl TySz.h rfl rfl (by repeat (first | exact List.Mem.head _ | assumption | apply List.Mem.tail)) rfl) ?_
      refine TD.s (pend' := []) [8, 22] rfl rfl (q_store rfl rfl TySz.h rfl rfl (by repeat (first | exact List.Mem.head _ | assumption | apply List.Mem.tail)) rfl) ?_
      refine TD.fin ?_
      refine TK.maskL [1, 6, 7, 8] ?_
      refine TK.kp ((jc1, _) :: (jc2, _) :: (j7, _) :: (j8, _) :: (jx, _) :: (jb, _) :: (jl, _) :: (0, _) :: (1, _) :: (s, _) :: (e, _) :: []) ?_
      exact hcont jc1 jc2 j7 j8
     ·refine exK_newP rfl (n_allocA rfl TyZA.h) (fun _ => putS rfl (by simp only [List.set]; rfl)) (by simp) fun j8 hj8 => ?_
      refine TD.c2 (i1 := 1) (i2 := 4) (pend1 := []) (pend2 := []) (L1 := [4, 5]) (L2 := [1, 5]) [] [7, 21] rfl rfl rfl rfl rfl rfl rfl ?_ ?_
      ·refine exK_newC rfl (n_makeChan rfl Und.h InfO.h) (fun _ => putS rfl (by simp only [List.set]; rfl)) (by simp) fun jc2 hjc2 => ?_
       refine TD.s (pend' := []) [7, 21] rfl rfl (q_store rfl rfl TySz.h rfl rfl (by repeat (first | exact List.Mem.head _ | assumption | apply List.Mem.tail)) rfl) ?_
       refine TD.s (pend' := []) [8, 22] rfl rfl (q_store rfl rfl TySz.h rfl rfl (by repeat (first | exact List.Mem.head _ | assumption | apply List.Mem.tail)) rfl) ?_
       refine TD.fin ?_
       refine TK.maskL [1, 6, 7, 8] ?_
       refine TK.kp ((jc1, _) :: (jc2, _) :: (j7, _) :: (j8, _) :: (jx, _) :: (jb, _) :: (jl, _) :: (0, _) :: (1, _) :: (s, _) :: (e, _) :: []) ?_
       exact hcont jc1 jc2 j7 j8
      ·refine exK_st rfl (q_store rfl rfl TySz.h rfl rfl (by repeat (first | exact List.Mem.head _ | assumption | apply List.Mem.tail)) rfl) (by repeat (first | exact Upd.head | apply Upd.tail)) (putN rfl) (by simp) ?_
       refine TD.c (pend' := []) [] rfl rfl rfl rfl (exK_newC rfl (n_makeChan rfl Und.h InfO.h) (fun _ => putS rfl (by simp only [List.set]; rfl)) (by simp) fun jc2 hjc2 => ?_)
       refine TD.s (pend' := []) [8, 22] rfl rfl (q_store rfl rfl TySz.h rfl rfl (by repeat (first | exact List.Mem.head _ | assumption | apply List.Mem.tail)) rfl) ?_
       refine TD.fin ?_
       refine TK.maskL [1, 6, 7, 8] ?_
       refine TK.kp ((jc1, _) :: (jc2, _) :: (j7, _) :: (j8, _) :: (jx, _) :: (jb, _) :: (jl, _) :: (0, _) :: (1, _) :: (s, _) :: (e, _) :: []) ?_
       exact hcont jc1 jc2 j7 j8
    ·refine ⟨[], _, [], [1, 2, 4, 5], rfl, rfl, rfl, rfl, ?_⟩
     refine exK_newP rfl (n_allocA rfl TyZA.h) (fun _ => putS rfl (by simp only [List.set]; rfl)) (by simp) fun j8 hj8 => ?_
     refine TD.c2 (i1 := 1) (i2 := 2) (pend1 := []) (pend2 := []) (L1 := [2, 4, 5]) (L2 := [1, 4, 5]) [] [] rfl rfl rfl rfl rfl rfl rfl ?_ ?_
     ·refine exK_newC rfl (n_makeChan rfl Und.h InfO.h) (fun _ => putS rfl (by simp only [List.set]; rfl)) (by simp) fun jc2 hjc2 => ?_
      refine TD.cnewP (pend' := []) [] rfl rfl rfl rfl rfl (n_allocA rfl TyZA.h) (fun _ => putS rfl (by simp only [List.set]; rfl)) (by simp) fun j7 hj7 => ?_
      refine TD.s (pend' := []) [7, 21] rfl rfl (q_store rfl rfl TySz.h rfl rfl (by repeat (first | exact List.Mem.head _ | assumption | apply List.Mem.tail)) rfl) ?_
      refine TD.s (pend' := []) [8, 22] rfl rfl (q_store rfl rfl TySz.h rfl rfl (by repeat (first | exact List.Mem.head _ | assumption | apply List.Mem.tail)) rfl) ?_
      refine TD.fin ?_
      refine TK.maskL [1, 6, 7, 8] ?_
      refine TK.kp ((jc1, _) :: (jc2, _) :: (j7, _) :: (j8, _) :: (jx, _) :: (jb, _) :: (jl, _) :: (0, _) :: (1, _) :: (s, _) :: (e, _) :: []) ?_
      exact hcont jc1 jc2 j7 j8
     ·refine exK_newP rfl (n_allocA rfl TyZA.h) (fun _ => putS rfl (by simp only [List.set]; rfl)) (by simp) fun j7 hj7 => ?_
      refine TD.c2 (i1 := 1) (i2 := 4) (pend1 := []) (pend2 := []) (L1 := [4, 5]) (L2 := [1, 5]) [] [7, 21] rfl rfl rfl rfl rfl rfl rfl ?_ ?_
      ·refine exK_newC rfl (n_makeChan rfl Und.h InfO.h) (fun _ => putS rfl (by simp only [List.set]; rfl)) (by simp) fun jc2 hjc2 => ?_
       refine TD.s (pend' := []) [7, 21] rfl rfl (q_store rfl rfl TySz.h rfl rfl (by repeat (first | exact List.Mem.head _ | assumption | apply List.Mem.tail)) rfl) ?_
       refine TD.s (pend' := []) [8, 22] rfl rfl (q_store rfl rfl TySz.h rfl rfl (by repeat (first | exact List.Mem.head _ | assumption | apply List.Mem.tail)) rfl) ?_
       refine TD.fin ?_
       refine TK.maskL [1, 6, 7, 8] ?_
       refine TK.kp ((jc1, _) :: (jc2, _) :: (j7, _) :: (j8, _) :: (jx, _) :: (jb, _) :: (jl, _) :: (0, _) :: (1, _) :: (s, _) :: (e, _) :: []) ?_
       exact hcont jc1 jc2 j7 j8
      ·refine exK_st rfl (q_store rfl rfl TySz.h rfl rfl (by repeat (first | exact List.Mem.head _ | assumption | apply List.Mem.tail)) rfl) (by repeat (first | exact Upd.head | apply Upd.tail)) (putN rfl) (by simp) ?_
       refine TD.c (pend' := []) [] rfl rfl rfl rfl (exK_newC rfl (n_makeChan rfl Und.h InfO.h) (fun _ => putS rfl (by simp only [List.set]; rfl)) (by simp) fun jc2 hjc2 => ?_)
       refine TD.s (pend' := []) [8, 22] rfl rfl (q_store rfl rfl TySz.h rfl rfl (by repeat (first | exact List.Mem.head _ | assumption | apply List.Mem.tail)) rfl) ?_
       refine TD.fin ?_
       refine TK.maskL [1, 6, 7, 8] ?_
       refine TK.kp ((jc1, _) :: (jc2, _) :: (j7, _) :: (j8, _) :: (jx, _) :: (jb, _) :: (jl, _) :: (0, _) :: (1, _) :: (s, _) :: (e, _) :: []) ?_
       exact hcont jc1 jc2 j7 j8
   ·refine ⟨[], _, [], [0, 2, 3, 4, 5], rfl, rfl, rfl, rfl, ?_⟩
    refine exK_newC rfl (n_makeChan rfl Und.h InfO.h) (fun _ => putS rfl (by simp only [List.set]; rfl)) (by simp) fun jc2 hjc2 => ?_
    refine TD.cM [0, 2, 3] rfl ?_
    intro mm hmm
    simp only [List.mem_cons, List.not_mem_nil, or_false] at hmm
    rcases hmm with rfl | rfl | rfl
    ·refine ⟨[], _, [], [2, 3, 4, 5], rfl, rfl, rfl, rfl, ?_⟩
     refine exK_newC rfl (n_makeChan rfl Und.h InfO.h) (fun _ => putS rfl (by simp only [List.set]; rfl)) (by simp) fun jc1 hjc1 => ?_
     refine TD.c2 (i1 := 2) (i2 := 3) (pend1 := []) (pend2 := []) (L1 := [3, 4, 5]) (L2 := [2, 4, 5]) [] [] rfl rfl rfl rfl rfl rfl rfl ?_ ?_
     ·refine exK_newP rfl (n_allocA rfl TyZA.h) (fun _ => putS rfl (by simp only [List.set]; rfl)) (by simp) fun j7 hj7 => ?_
      refine TD.cnewP (pend' := []) [] rfl rfl rfl rfl rfl (n_allocA rfl TyZA.h) (fun _ => putS rfl (by simp only [List.set]; rfl)) (by simp) fun j8 hj8 => ?_
      refine TD.s (pend' := []) [7, 21] rfl rfl (q_store rfl rfl TySz.h rfl rfl (by repeat (first | exact List.Mem.head _ | assumption | apply List.Mem.tail)) rfl) ?_
      refine TD.s (pend' := []) [8, 22] rfl rfl (q_store rfl rfl TySz.h rfl rfl (by repeat (first | exact List.Mem.head _ | assumption | apply List.Mem.tail)) rfl) ?_
      refine TD.fin ?_
      refine TK.maskL [1, 6, 7, 8] ?_
      refine TK.kp ((jc1, _) :: (jc2, _) :: (j7, _) :: (j8, _) :: (jx, _) :: (jb, _) :: (jl, _) :: (0, _) :: (1, _) :: (s, _) :: (e, _) :: []) ?_
      exact hcont jc1 jc2 j7 j8
     ·refine exK_newP rfl (n_allocA rfl TyZA.h) (fun _ => putS rfl (by simp only [List.set]; rfl)) (by simp) fun j8 hj8 => ?_
      refine TD.cnewP (pend' := []) [] rfl rfl rfl rfl rfl (n_allocA rfl TyZA.h) (fun _ => putS rfl (by simp only [List.set]; rfl)) (by simp) fun j7 hj7 => ?_
      refine TD.s (pend' := []) [7, 21] rfl rfl (q_store rfl rfl TySz.h rfl rfl (by repeat (first | exact List.Mem.head _ | assumption | apply List.Mem.tail)) rfl) ?_
      refine TD.s (pend' := []) [8, 22] rfl rfl (q_store rfl rfl TySz.h rfl rfl (by repeat (first | exact List.Mem.head _ | assumption | apply List.Mem.tail)) rfl) ?_
      refine TD.fin ?_
      refine TK.maskL [1, 6, 7, 8] ?_
      refine TK.kp ((jc1, _) :: (jc2, _) :: (j7, _) :: (j8, _) :: (jx, _) :: (jb, _) :: (jl, _) :: (0, _) :: (1, _) :: (s, _) :: (e, _) :: []) ?_
      exact hcont jc1 jc2 j7 j8
    ·refine ⟨[], _, [], [0, 3, 4, 5], rfl, rfl, rfl, rfl, ?_⟩
     refine exK_newP rfl (n_allocA rfl TyZA.h) (fun _ => putS rfl (by simp only [List.set]; rfl)) (by simp) fun j7 hj7 => ?_
     refine TD.c2 (i1 := 0) (i2 := 3) (pend1 := []) (pend2 := []) (L1 := [3, 4, 5]) (L2 := [0, 4, 5]) [] [] rfl rfl rfl rfl rfl rfl rfl ?_ ?_
     ·refine exK_newC rfl (n_makeChan rfl Und.h InfO.h) (fun _ => putS rfl (by simp only [List.set]; rfl)) (by simp) fun jc1 hjc1 => ?_
      refine TD.cnewP (pend' := []) [] rfl rfl rfl rfl rfl (n_allocA rfl TyZA.h) (fun _ => putS rfl (by simp only [List.set]; rfl)) (by simp) fun j8 hj8 => ?_
      refine TD.s (pend' := []) [7, 21] rfl rfl (q_store rfl rfl TySz.h rfl rfl (by repeat (first | exact List.Mem.head _ | assumption | apply List.Mem.tail)) rfl) ?_
      refine TD.s (pend' := []) [8, 22] rfl rfl (q_store rfl rfl TySz.h rfl rfl (by repeat (first | exact List.Mem.head _ | assumption | apply List.Mem.tail)) rfl) ?_
      refine TD.fin ?_
      refine TK.maskL [1, 6, 7, 8] ?_
      refine TK.kp ((jc1, _) :: (jc2, _) :: (j7, _) :: (j8, _) :: (jx, _) :: (jb, _) :: (jl, _) :: (0, _) :: (1, _) :: (s, _) :: (e, _) :: []) ?_
      exact hcont jc1 jc2 j7 j8
     ·refine exK_newP rfl (n_allocA rfl TyZA.h) (fun _ => putS rfl (by simp only [List.set]; rfl)) (by simp) fun j8 hj8 => ?_
      refine TD.c (pend' := []) [] rfl rfl rfl rfl (exK_newC rfl (n_makeChan rfl Und.h InfO.h) (fun _ => putS rfl (by simp only [List.set]; rfl)) (by simp) fun jc1 hjc1 => ?_)
      refine TD.s (pend' := []) [7, 21] rfl rfl (q_store rfl rfl TySz.h rfl rfl (by repeat (first | exact List.Mem.head _ | assumption | apply List.Mem.tail)) rfl) ?_
      refine TD.s (pend' := []) [8, 22] rfl rfl (q_store rfl rfl TySz.h rfl rfl (by repeat (first | exact List.Mem.head _ | assumption | apply List.Mem.tail)) rfl) ?_
      refine TD.fin ?_
      refine TK.maskL [1, 6, 7, 8] ?_
      refine TK.kp ((jc1, _) :: (jc2, _) :: (j7, _) :: (j8, _) :: (jx, _) :: (jb, _) :: (jl, _) :: (0, _) :: (1, _) :: (s, _) :: (e, _) :: []) ?_
      exact hcont jc1 jc2 j7 j8
    ·refine ⟨[], _, [], [0, 2, 4, 5], rfl, rfl, rfl, rfl, ?_⟩
     refine exK_newP rfl (n_allocA rfl TyZA.h) (fun _ => putS rfl (by simp only [List.set]; rfl)) (by simp) fun j8 hj8 => ?_
     refine TD.c2 (i1 := 0) (i2 := 2) (pend1 := []) (pend2 := []) (L1 := [2, 4, 5]) (L2 := [0, 4, 5]) [] [] rfl rfl rfl rfl rfl rfl rfl ?_ ?_
     ·refine exK_newC rfl (n_makeChan rfl Und.h InfO.h) (fun _ => putS rfl (by simp only [List.set]; rfl)) (by simp) fun jc1 hjc1 => ?_
      refine TD.cnewP (pend' := []) [] rfl rfl rfl rfl rfl (n_allocA rfl TyZA.h) (fun _ => putS rfl (by simp only [List.set]; rfl)) (by simp) fun j7 hj7 => ?_
      refine TD.s (pend' := []) [7, 21] rfl rfl (q_store rfl rfl TySz.h rfl rfl (by repeat (first | exact List.Mem.head _ | assumption | apply List.Mem.tail)) rfl) ?_
      refine TD.s (pend' := []) [8, 22] rfl rfl (q_store rfl rfl TySz.h rfl rfl (by repeat (first | exact List.Mem.head _ | assumption | apply List.Mem.tail)) rfl) ?_
      refine TD.fin ?_
      refine TK.maskL [1, 6, 7, 8] ?_
      refine TK.kp ((jc1, _) :: (jc2, _) :: (j7, _) :: (j8, _) :: (jx, _) :: (jb, _) :: (jl, _) :: (0, _) :: (1, _) :: (s, _) :: (e, _) :: []) ?_
      exact hcont jc1 jc2 j7 j8
     ·refine exK_newP rfl (n_allocA rfl TyZA.h) (fun _ => putS rfl (by simp only [List.set]; rfl)) (by simp) fun j7 hj7 => ?_
      refine TD.c (pend' := []) [] rfl rfl rfl rfl (exK_newC rfl (n_makeChan rfl Und.h InfO.h) (fun _ => putS rfl (by simp only [List.set]; rfl)) (by simp) fun jc1 hjc1 => ?_)
      refine TD.s (pend' := []) [7, 21] rfl rfl (q_store rfl rfl TySz.h rfl rfl (by repeat (first | exact List.Mem.head _ | assumption | apply List.Mem.tail)) rfl) ?_
      refine TD.s (pend' := []) [8, 22] rfl rfl (q_store rfl rfl TySz.h rfl rfl (by repeat (first | exact List.Mem.head _ | assumption | apply List.Mem.tail)) rfl) ?_
      refine TD.fin ?_
      refine TK.maskL [1, 6, 7, 8] ?_
      refine TK.kp ((jc1, _) :: (jc2, _) :: (j7, _) :: (j8, _) :: (jx, _) :: (jb, _) :: (jl, _) :: (0, _) :: (1, _) :: (s, _) :: (e, _) :: []) ?_
      exact hcont jc1 jc2 j7 j8
   ·refine ⟨[], _, [], [0, 1, 3, 4, 5], rfl, rfl, rfl, rfl, ?_⟩
    refine exK_newP rfl (n_allocA rfl TyZA.h) (fun _ => putS rfl (by simp only [List.set]; rfl)) (by simp) fun j7 hj7 => ?_
    refine TD.cM [0, 1, 3] rfl ?_
    intro mm hmm
    simp only [List.mem_cons, List.not_mem_nil, or_false] at hmm
    rcases hmm with rfl | rfl | rfl
    ·refine ⟨[], _, [], [1, 3, 4, 5], rfl, rfl, rfl, rfl, ?_⟩
     refine exK_newC rfl (n_makeChan rfl Und.h InfO.h) (fun _ => putS rfl (by simp only [List.set]; rfl)) (by simp) fun jc1 hjc1 => ?_
     refine TD.c2 (i1 := 1) (i2 := 3) (pend1 := []) (pend2 := []) (L1 := [3, 4, 5]) (L2 := [1, 4, 5]) [] [] rfl rfl rfl rfl rfl rfl rfl ?_ ?_
     ·refine exK_newC rfl (n_makeChan rfl Und.h InfO.h) (fun _ => putS rfl (by simp only [List.set]; rfl)) (by simp) fun jc2 hjc2 => ?_
      refine TD.cnewP (pend' := []) [] rfl rfl rfl rfl rfl (n_allocA rfl TyZA.h) (fun _ => putS rfl (by simp only [List.set]; rfl)) (by simp) fun j8 hj8 => ?_
      refine TD.s (pend' := []) [7, 21] rfl rfl (q_store rfl rfl TySz.h rfl rfl (by repeat (first | exact List.Mem.head _ | assumption | apply List.Mem.tail)) rfl) ?_
      refine TD.s (pend' := []) [8, 22] rfl rfl (q_store rfl rfl TySz.h rfl rfl (by repeat (first | exact List.Mem.head _ | assumption | apply List.Mem.tail)) rfl) ?_
      refine TD.fin ?_
      refine TK.maskL [1, 6, 7, 8] ?_
      refine TK.kp ((jc1, _) :: (jc2, _) :: (j7, _) :: (j8, _) :: (jx, _) :: (jb, _) :: (jl, _) :: (0, _) :: (1, _) :: (s, _) :: (e, _) :: []) ?_
      exact hcont jc1 jc2 j7 j8
     ·refine exK_newP rfl (n_allocA rfl TyZA.h) (fun _ => putS rfl (by simp only [List.set]; rfl)) (by simp) fun j8 hj8 => ?_
      refine TD.c2 (i1 := 1) (i2 := 4) (pend1 := []) (pend2 := []) (L1 := [4, 5]) (L2 := [1, 5]) [] [7, 21] rfl rfl rfl rfl rfl rfl rfl ?_ ?_
      ·refine exK_newC rfl (n_makeChan rfl Und.h InfO.h) (fun _ => putS rfl (by simp only [List.set]; rfl)) (by simp) fun jc2 hjc2 => ?_
       refine TD.s (pend' := []) [7, 21] rfl rfl (q_store rfl rfl TySz.h rfl rfl (by repeat (first | exact List.Mem.head _ | assumption | apply List.Mem.tail)) rfl) ?_
       refine TD.s (pend' := []) [8, 22] rfl rfl (q_store rfl rfl TySz.h rfl rfl (by repeat (first | exact List.Mem.head _ | assumption | apply List.Mem.tail)) rfl) ?_
       refine TD.fin ?_
       refine TK.maskL [1, 6, 7, 8] ?_
       refine TK.kp ((jc1, _) :: (jc2, _) :: (j7, _) :: (j8, _) :: (jx, _) :: (jb, _) :: (jl, _) :: (0, _) :: (1, _) :: (s, _) :: (e, _) :: []) ?_
       exact hcont jc1 jc2 j7 j8
      ·refine exK_st rfl (q_store rfl rfl TySz.h rfl rfl (by repeat (first | exact List.Mem.head _ | assumption | apply List.Mem.tail)) rfl) (by repeat (first | exact Upd.head | apply Upd.tail)) (putN rfl) (by simp) ?_
       refine TD.c (pend' := []) [] rfl rfl rfl rfl (exK_newC rfl (n_makeChan rfl Und.h InfO.h) (fun _ => putS rfl (by simp only [List.set]; rfl)) (by simp) fun jc2 hjc2 => ?_)
       refine TD.s (pend' := []) [8, 22] rfl rfl (q_store rfl rfl TySz.h rfl rfl (by repeat (first | exact List.Mem.head _ | assumption | apply List.Mem.tail)) rfl) ?_
       refine TD.fin ?_
       refine TK.maskL [1, 6, 7, 8] ?_
       refine TK.kp ((jc1, _) :: (jc2, _) :: (j7, _) :: (j8, _) :: (jx, _) :: (jb, _) :: (jl, _) :: (0, _) :: (1, _) :: (s, _) :: (e, _) :: []) ?_
       exact hcont jc1 jc2 j7 j8
    ·refine ⟨[], _, [], [0, 3, 4, 5], rfl, rfl, rfl, rfl, ?_⟩
     refine exK_newC rfl (n_makeChan rfl Und.h InfO.h) (fun _ => putS rfl (by simp only [List.set]; rfl)) (by simp) fun jc2 hjc2 => ?_
     refine TD.c2 (i1 := 0) (i2 := 3) (pend1 := []) (pend2 := []) (L1 := [3, 4, 5]) (L2 := [0, 4, 5]) [] [] rfl rfl rfl rfl rfl rfl rfl ?_ ?_
     ·refine exK_newC rfl (n_makeChan rfl Und.h InfO.h) (fun _ => putS rfl (by simp only [List.set]; rfl)) (by simp) fun jc1 hjc1 => ?_
      refine TD.cnewP (pend' := []) [] rfl rfl rfl rfl rfl (n_allocA rfl TyZA.h) (fun _ => putS rfl (by simp only [List.set]; rfl)) (by simp) fun j8 hj8 => ?_
      refine TD.s (pend' := []) [7, 21] rfl rfl (q_store rfl rfl TySz.h rfl rfl (by repeat (first | exact List.Mem.head _ | assumption | apply List.Mem.tail)) rfl) ?_
      refine TD.s (pend' := []) [8, 22] rfl rfl (q_store rfl rfl TySz.h rfl rfl (by repeat (first | exact List.Mem.head _ | assumption | apply List.Mem.tail)) rfl) ?_
      refine TD.fin ?_
      refine TK.maskL [1, 6, 7, 8] ?_
      refine TK.kp ((jc1, _) :: (jc2, _) :: (j7, _) :: (j8, _) :: (jx, _) :: (jb, _) :: (jl, _) :: (0, _) :: (1, _) :: (s, _) :: (e, _) :: []) ?_
      exact hcont jc1 jc2 j7 j8
     ·refine exK_newP rfl (n_allocA rfl TyZA.h) (fun _ => putS rfl (by simp only [List.set]; rfl)) (by simp) fun j8 hj8 => ?_
      refine TD.c (pend' := []) [] rfl rfl rfl rfl (exK_newC rfl (n_makeChan rfl Und.h InfO.h) (fun _ => putS rfl (by simp only [List.set]; rfl)) (by simp) fun jc1 hjc1 => ?_)
      refine TD.s (pend' := []) [7, 21] rfl rfl (q_store rfl rfl TySz.h rfl rfl (by repeat (first | exact List.Mem.head _ | assumption | apply List.Mem.tail)) rfl) ?_
      refine TD.s (pend' := []) [8, 22] rfl rfl (q_store rfl rfl TySz.h rfl rfl (by repeat (first | exact List.Mem.head _ | assumption | apply List.Mem.tail)) rfl) ?_
      refine TD.fin ?_
      refine TK.maskL [1, 6, 7, 8] ?_
      refine TK.kp ((jc1, _) :: (jc2, _) :: (j7, _) :: (j8, _) :: (jx, _) :: (jb, _) :: (jl, _) :: (0, _) :: (1, _) :: (s, _) :: (e, _) :: []) ?_
      exact hcont jc1 jc2 j7 j8
    ·refine ⟨[], _, [], [0, 1, 4, 5], rfl, rfl, rfl, rfl, ?_⟩
     refine exK_newP rfl (n_allocA rfl TyZA.h) (fun _ => putS rfl (by simp only [List.set]; rfl)) (by simp) fun j8 hj8 => ?_
     refine TD.c2 (i1 := 0) (i2 := 1) (pend1 := []) (pend2 := []) (L1 := [1, 4, 5]) (L2 := [0, 4, 5]) [] [] rfl rfl rfl rfl rfl rfl rfl ?_ ?_
     ·refine exK_newC rfl (n_makeChan rfl Und.h InfO.h) (fun _ => putS rfl (by simp only [List.set]; rfl)) (by simp) fun jc1 hjc1 => ?_
      refine TD.c2 (i1 := 1) (i2 := 4) (pend1 := []) (pend2 := []) (L1 := [4, 5]) (L2 := [1, 5]) [] [7, 21] rfl rfl rfl rfl rfl rfl rfl ?_ ?_
      ·refine exK_newC rfl (n_makeChan rfl Und.h InfO.h) (fun _ => putS rfl (by simp only [List.set]; rfl)) (by simp) fun jc2 hjc2 => ?_
       refine TD.s (pend' := []) [7, 21] rfl rfl (q_store rfl rfl TySz.h rfl rfl (by repeat (first | exact List.Mem.head _ | assumption | apply List.Mem.tail)) rfl) ?_
       refine TD.s (pend' := []) [8, 22] rfl rfl (q_store rfl rfl TySz.h rfl rfl (by repeat (first | exact List.Mem.head _ | assumption | apply List.Mem.tail)) rfl) ?_
       refine TD.fin ?_
       refine TK.maskL [1, 6, 7, 8] ?_
       refine TK.kp ((jc1, _) :: (jc2, _) :: (j7, _) :: (j8, _) :: (jx, _) :: (jb, _) :: (jl, _) :: (0, _) :: (1, _) :: (s, _) :: (e, _) :: []) ?_
       exact hcont jc1 jc2 j7 j8
      ·refine exK_st rfl (q_store rfl rfl TySz.h rfl rfl (by repeat (first | exact List.Mem.head _ | assumption | apply List.Mem.tail)) rfl) (by repeat (first | exact Upd.head | apply Upd.tail)) (putN rfl) (by simp) ?_
       refine TD.c (pend' := []) [] rfl rfl rfl rfl (exK_newC rfl (n_makeChan rfl Und.h InfO.h) (fun _ => putS rfl (by simp only [List.set]; rfl)) (by simp) fun jc2 hjc2 => ?_)
       refine TD.s (pend' := []) [8, 22] rfl rfl (q_store rfl rfl TySz.h rfl rfl (by repeat (first | exact List.Mem.head _ | assumption | apply List.Mem.tail)) rfl) ?_
       refine TD.fin ?_
       refine TK.maskL [1, 6, 7, 8] ?_
       refine TK.kp ((jc1, _) :: (jc2, _) :: (j7, _) :: (j8, _) :: (jx, _) :: (jb, _) :: (jl, _) :: (0, _) :: (1, _) :: (s, _) :: (e, _) :: []) ?_
       exact hcont jc1 jc2 j7 j8
     ·refine exK_newC rfl (n_makeChan rfl Und.h InfO.h) (fun _ => putS rfl (by simp only [List.set]; rfl)) (by simp) fun jc2 hjc2 => ?_
      refine TD.c (pend' := []) [] rfl rfl rfl rfl (exK_newC rfl (n_makeChan rfl Und.h InfO.h) (fun _ => putS rfl (by simp only [List.set]; rfl)) (by simp) fun jc1 hjc1 => ?_)
      refine TD.s (pend' := []) [7, 21] rfl rfl (q_store rfl rfl TySz.h rfl rfl (by repeat (first | exact List.Mem.head _ | assumption | apply List.Mem.tail)) rfl) ?_
      refine TD.s (pend' := []) [8, 22] rfl rfl (q_store rfl rfl TySz.h rfl rfl (by repeat (first | exact List.Mem.head _ | assumption | apply List.Mem.tail)) rfl) ?_
      refine TD.fin ?_
      refine TK.maskL [1, 6, 7, 8] ?_
      refine TK.kp ((jc1, _) :: (jc2, _) :: (j7, _) :: (j8, _) :: (jx, _) :: (jb, _) :: (jl, _) :: (0, _) :: (1, _) :: (s, _) :: (e, _) :: []) ?_
      exact hcont jc1 jc2 j7 j8
   ·refine ⟨[], _, [], [0, 1, 2, 4, 5], rfl, rfl, rfl, rfl, ?_⟩
    refine exK_newP rfl (n_allocA rfl TyZA.h) (fun _ => putS rfl (by simp only [List.set]; rfl)) (by simp) fun j8 hj8 => ?_
    refine TD.cM [0, 1, 2] rfl ?_
    intro mm hmm
    simp only [List.mem_cons, List.not_mem_nil, or_false] at hmm
    rcases hmm with rfl | rfl | rfl
    ·refine ⟨[], _, [], [1, 2, 4, 5], rfl, rfl, rfl, rfl, ?_⟩
     refine exK_newC rfl (n_makeChan rfl Und.h InfO.h) (fun _ => putS rfl (by simp only [List.set]; rfl)) (by simp) fun jc1 hjc1 => ?_
     refine TD.c2 (i1 := 1) (i2 := 2) (pend1 := []) (pend2 := []) (L1 := [2, 4, 5]) (L2 := [1, 4, 5]) [] [] rfl rfl rfl rfl rfl rfl rfl ?_ ?_
     ·refine exK_newC rfl (n_makeChan rfl Und.h InfO.h) (fun _ => putS rfl (by simp only [List.set]; rfl)) (by simp) fun jc2 hjc2 => ?_
      refine TD.cnewP (pend' := []) [] rfl rfl rfl rfl rfl (n_allocA rfl TyZA.h) (fun _ => putS rfl (by simp only [List.set]; rfl)) (by simp) fun j7 hj7 => ?_
      refine TD.s (pend' := []) [7, 21] rfl rfl (q_store rfl rfl TySz.h rfl rfl (by repeat (first | exact List.Mem.head _ | assumption | apply List.Mem.tail)) rfl) ?_
      refine TD.s (pend' := []) [8, 22] rfl rfl (q_store rfl rfl TySz.h rfl rfl (by repeat (first | exact List.Mem.head _ | assumption | apply List.Mem.tail)) rfl) ?_
      refine TD.fin ?_
      refine TK.maskL [1, 6, 7, 8] ?_
      refine TK.kp ((jc1, _) :: (jc2, _) :: (j7, _) :: (j8, _) :: (jx, _) :: (jb, _) :: (jl, _) :: (0, _) :: (1, _) :: (s, _) :: (e, _) :: []) ?_
      exact hcont jc1 jc2 j7 j8
     ·refine exK_newP rfl (n_allocA rfl TyZA.h) (fun _ => putS rfl (by simp only [List.set]; rfl)) (by simp) fun j7 hj7 => ?_
      refine TD.c2 (i1 := 1) (i2 := 4) (pend1 := []) (pend2 := []) (L1 := [4, 5]) (L2 := [1, 5]) [] [7, 21] rfl rfl rfl rfl rfl rfl rfl ?_ ?_
      ·refine exK_newC rfl (n_makeChan rfl Und.h InfO.h) (fun _ => putS rfl (by simp only [List.set]; rfl)) (by simp) fun jc2 hjc2 => ?_
       refine TD.s (pend' := []) [7, 21] rfl rfl (q_store rfl rfl TySz.h rfl rfl (by repeat (first | exact List.Mem.head _ | assumption | apply List.Mem.tail)) rfl) ?_
       refine TD.s (pend' := []) [8, 22] rfl rfl (q_store rfl rfl TySz.h rfl rfl (by repeat (first | exact List.Mem.head _ | assumption | apply List.Mem.tail)) rfl) ?_
       refine TD.fin ?_
       refine TK.maskL [1, 6, 7, 8] ?_
       refine TK.kp ((jc1, _) :: (jc2, _) :: (j7, _) :: (j8, _) :: (jx, _) :: (jb, _) :: (jl, _) :: (0, _) :: (1, _) :: (s, _) :: (e, _) :: []) ?_
       exact hcont jc1 jc2 j7 j8
      ·refine exK_st rfl (q_store rfl rfl TySz.h rfl rfl (by repeat (first | exact List.Mem.head _ | assumption | apply List.Mem.tail)) rfl) (by repeat (first | exact Upd.head | apply Upd.tail)) (putN rfl) (by simp) ?_
       refine TD.c (pend' := []) [] rfl rfl rfl rfl (exK_newC rfl (n_makeChan rfl Und.h InfO.h) (fun _ => putS rfl (by simp only [List.set]; rfl)) (by simp) fun jc2 hjc2 => ?_)
       refine TD.s (pend' := []) [8, 22] rfl rfl (q_store rfl rfl TySz.h rfl rfl (by repeat (first | exact List.Mem.head _ | assumption | apply List.Mem.tail)) rfl) ?_
       refine TD.fin ?_
       refine TK.maskL [1, 6, 7, 8] ?_
       refine TK.kp ((jc1, _) :: (jc2, _) :: (j7, _) :: (j8, _) :: (jx, _) :: (jb, _) :: (jl, _) :: (0, _) :: (1, _) :: (s, _) :: (e, _) :: []) ?_
       exact hcont jc1 jc2 j7 j8
    ·refine ⟨[], _, [], [0, 2, 4, 5], rfl, rfl, rfl, rfl, ?_⟩
     refine exK_newC rfl (n_makeChan rfl Und.h InfO.h) (fun _ => putS rfl (by simp only [List.set]; rfl)) (by simp) fun jc2 hjc2 => ?_
     refine TD.c2 (i1 := 0) (i2 := 2) (pend1 := []) (pend2 := []) (L1 := [2, 4, 5]) (L2 := [0, 4, 5]) [] [] rfl rfl rfl rfl rfl rfl rfl ?_ ?_
     ·refine exK_newC rfl (n_makeChan rfl Und.h InfO.h) (fun _ => putS rfl (by simp only [List.set]; rfl)) (by simp) fun jc1 hjc1 => ?_
      refine TD.cnewP (pend' := []) [] rfl rfl rfl rfl rfl (n_allocA rfl TyZA.h) (fun _ => putS rfl (by simp only [List.set]; rfl)) (by simp) fun j7 hj7 => ?_
      refine TD.s (pend' := []) [7, 21] rfl rfl (q_store rfl rfl TySz.h rfl rfl (by repeat (first | exact List.Mem.head _ | assumption | apply List.Mem.tail)) rfl) ?_
      refine TD.s (pend' := []) [8, 22] rfl rfl (q_store rfl rfl TySz.h rfl rfl (by repeat (first | exact List.Mem.head _ | assumption | apply List.Mem.tail)) rfl) ?_
      refine TD.fin ?_
      refine TK.maskL [1, 6, 7, 8] ?_
      refine TK.kp ((jc1, _) :: (jc2, _) :: (j7, _) :: (j8, _) :: (jx, _) :: (jb, _) :: (jl, _) :: (0, _) :: (1, _) :: (s, _) :: (e, _) :: []) ?_
      exact hcont jc1 jc2 j7 j8
     ·refine exK_newP rfl (n_allocA rfl TyZA.h) (fun _ => putS rfl (by simp only [List.set]; rfl)) (by simp) fun j7 hj7 => ?_
      refine TD.c (pend' := []) [] rfl rfl rfl rfl (exK_newC rfl (n_makeChan rfl Und.h InfO.h) (fun _ => putS rfl (by simp only [List.set]; rfl)) (by simp) fun jc1 hjc1 => ?_)
      refine TD.s (pend' := []) [7, 21] rfl rfl (q_store rfl rfl TySz.h rfl rfl (by repeat (first | exact List.Mem.head _ | assumption | apply List.Mem.tail)) rfl) ?_
      refine TD.s (pend' := []) [8, 22] rfl rfl (q_store rfl rfl TySz.h rfl rfl (by repeat (first | exact List.Mem.head _ | assumption | apply List.Mem.tail)) rfl) ?_
      refine TD.fin ?_
      refine TK.maskL [1, 6, 7, 8] ?_
      refine TK.kp ((jc1, _) :: (jc2, _) :: (j7, _) :: (j8, _) :: (jx, _) :: (jb, _) :: (jl, _) :: (0, _) :: (1, _) :: (s, _) :: (e, _) :: []) ?_
      exact hcont jc1 jc2 j7 j8
    ·refine ⟨[], _, [], [0, 1, 4, 5], rfl, rfl, rfl, rfl, ?_⟩
     refine exK_newP rfl (n_allocA rfl TyZA.h) (fun _ => putS rfl (by simp only [List.set]; rfl)) (by simp) fun j7 hj7 => ?_
     refine TD.c2 (i1 := 0) (i2 := 1) (pend1 := []) (pend2 := []) (L1 := [1, 4, 5]) (L2 := [0, 4, 5]) [] [] rfl rfl rfl rfl rfl rfl rfl ?_ ?_
     ·refine exK_newC rfl (n_makeChan rfl Und.h InfO.h) (fun _ => putS rfl (by simp only [List.set]; rfl)) (by simp) fun jc1 hjc1 => ?_
      refine TD.c2 (i1 := 1) (i2 := 4) (pend1 := []) (pend2 := []) (L1 := [4, 5]) (L2 := [1, 5]) [] [7, 21] rfl rfl rfl rfl rfl rfl rfl ?_ ?_
      ·refine exK_newC rfl (n_makeChan rfl Und.h InfO.h) (fun _ => putS rfl (by simp only [List.set]; rfl)) (by simp) fun jc2 hjc2 => ?_
       refine TD.s (pend' := []) [7, 21] rfl rfl (q_store rfl rfl TySz.h rfl rfl (by repeat (first | exact List.Mem.head _ | assumption | apply List.Mem.tail)) rfl) ?_
       refine TD.s (pend' := []) [8, 22] rfl rfl (q_store rfl rfl TySz.h rfl rfl (by repeat (first | exact List.Mem.head _ | assumption | apply List.Mem.tail)) rfl) ?_
       refine TD.fin ?_
       refine TK.maskL [1, 6, 7, 8] ?_
       refine TK.kp ((jc1, _) :: (jc2, _) :: (j7, _) :: (j8, _) :: (jx, _) :: (jb, _) :: (jl, _) :: (0, _) :: (1, _) :: (s, _) :: (e, _) :: []) ?_
       exact hcont jc1 jc2 j7 j8
      ·refine exK_st rfl (q_store rfl rfl TySz.h rfl rfl (by repeat (first | exact List.Mem.head _ | assumption | apply List.Mem.tail)) rfl) (by repeat (first | exact Upd.head | apply Upd.tail)) (putN rfl) (by simp) ?_
       refine TD.c (pend' := []) [] rfl rfl rfl rfl (exK_newC rfl (n_makeChan rfl Und.h InfO.h) (fun _ => putS rfl (by simp only [List.set]; rfl)) (by simp) fun jc2 hjc2 => ?_)
       refine TD.s (pend' := []) [8, 22] rfl rfl (q_store rfl rfl TySz.h rfl rfl (by repeat (first | exact List.Mem.head _ | assumption | apply List.Mem.tail)) rfl) ?_
       refine TD.fin ?_
       refine TK.maskL [1, 6, 7, 8] ?_
       refine TK.kp ((jc1, _) :: (jc2, _) :: (j7, _) :: (j8, _) :: (jx, _) :: (jb, _) :: (jl, _) :: (0, _) :: (1, _) :: (s, _) :: (e, _) :: []) ?_
       exact hcont jc1 jc2 j7 j8
     ·refine exK_newC rfl (n_makeChan rfl Und.h InfO.h) (fun _ => putS rfl (by simp only [List.set]; rfl)) (by simp) fun jc2 hjc2 => ?_
      refine TD.c (pend' := []) [] rfl rfl rfl rfl (exK_newC rfl (n_makeChan rfl Und.h InfO.h) (fun _ => putS rfl (by simp only [List.set]; rfl)) (by simp) fun jc1 hjc1 => ?_)
      refine TD.s (pend' := []) [7, 21] rfl rfl (q_store rfl rfl TySz.h rfl rfl (by repeat (first | exact List.Mem.head _ | assumption | apply List.Mem.tail)) rfl) ?_
      refine TD.s (pend' := []) [8, 22] rfl rfl (q_store rfl rfl TySz.h rfl rfl (by repeat (first | exact List.Mem.head _ | assumption | apply List.Mem.tail)) rfl) ?_
      refine TD.fin ?_
      refine TK.maskL [1, 6, 7, 8] ?_
      refine TK.kp ((jc1, _) :: (jc2, _) :: (j7, _) :: (j8, _) :: (jx, _) :: (jb, _) :: (jl, _) :: (0, _) :: (1, _) :: (s, _) :: (e, _) :: []) ?_
      exact hcont jc1 jc2 j7 j8
  ·refine TK.phase (fun cg cn => msgN b cg cn) (msgN_or b) (by simp [knownC]) (by simp [bookC]) (flat_ne hne) fun φ0 n0 cg cn hcc hag hn0 hsh hcs => ?_
   refine TK.kp ((j7, _) :: (j8, _) :: (jx, _) :: (jb, _) :: (jl, _) :: (0, _) :: (1, _) :: (s, _) :: (e, _) :: []) ?_
   refine TK.normK (K' := (j7, .cells [.v (.chan (some cg))] 86 false) :: (j8, .cells [.v (.chan (some cn))] 87 false) :: (jx, .cells (knownC b s e (.sl jl 0 (statesM b).length) jm) 74 false) :: (jb, .cells (bookC b s e) 27 false) :: (jl, listO (statesM b)) :: (0, checksG) :: (1, saysG) :: (s, saysO b) :: (e, seenO b) :: []) (by simp [knownC, unrow, intA]; rfl) ?_
   refine au [4, 4, 5, 7, 9, 1, 3, 13] ?_
   refine TK.maskL [1, 6, 7, 8, 24, 25] ?_
   refine TK.loopJ (fun q env K => env = slotsA 59 [(1, .ptr jb 0), (6, .ptr jx 0), (7, .ptr j7 0), (8, .ptr j8 0), (24, intA b.steps), (25, intA q)] ∧ K = (j7, .cells [.v (.chan (some cg))] 86 false) :: (j8, .cells [.v (.chan (some cn))] 87 false) :: (jx, .cells (knownC b s e (.sl jl 0 (statesM b).length) jm) 74 false) :: (jb, .cells (bookC b s e) 27 false) :: (jl, listO (statesM b)) :: (0, checksG) :: (1, saysG) :: (s, saysO b) :: (e, seenO b) :: []) b.steps.toNat ⟨rfl, rfl⟩ fun q env K hq hI' hnext => ?_
   obtain ⟨rfl, rfl⟩ := hI'
   refine au [4, 5, 6, 3, 4, 20] ?_
   refine ⟨fun hc1 => ?_, fun hc1 => ?_⟩
   ·simp only [decide_eq_true_eq] at hc1
    have hql : q < b.steps.toNat := by omega
    have hst16 := hb.steps
    refine au [12, 4, 13, 4, 5, 1, 22] ?_
    intro j9 hj9
    refine au [17, 3, 5, 32] ?_
    refine TK.nd fun hnd => ?_
    refine TK.spawn (j9 := j9) (l9 := [intA (q : Int)]) (e9 := 3) (K' := (j7, .cells [.v (.chan (some cg))] 86 false) :: (j8, .cells [.v (.chan (some cn))] 87 false) :: (jx, .cells (knownC b s e (.sl jl 0 (statesM b).length) jm) 74 false) :: (jb, .cells (bookC b s e) 27 false) :: (jl, listO (statesM b)) :: (0, checksG) :: (1, saysG) :: (s, saysO b) :: (e, seenO b) :: []) rfl rfl rfl rfl rfl (S := [(j7, .cells [.v (.chan (some cg))] 86 false), (j8, .cells [.v (.chan (some cn))] 87 false), (jx, .cells (knownC b s e (.sl jl 0 (statesM b).length) jm) 74 false), (jb, .cells (bookC b s e) 27 false), (jl, listO (statesM b))]) (fun x hx => ?_) .head (by simp) (fun φ A Hc vs hv hg hr hrel => ?_) ?_
    rotate_left 2
    ·refine au [3, 14, 5, 23, 1, 3] ?_
     refine TK.maskL [1, 6, 7, 8, 24, 25] ?_
     refine TK.kp (((j7, _) :: (j8, _) :: (jx, _) :: (jb, _) :: (jl, _) :: (0, _) :: (1, _) :: (s, _) :: (e, _) :: [])) ?_
     exact hnext _ _ hql ⟨rfl, rfl⟩
    ·simp only [List.mem_cons, List.not_mem_nil, or_false] at hx
     rcases hx with rfl | rfl | rfl | rfl | rfl
     ·exact ⟨by simp, (hsh j7 (by simp)).1, (hsh j7 (by simp)).2, _, _, by simp, rfl⟩
     ·exact ⟨by simp, (hsh j8 (by simp)).1, (hsh j8 (by simp)).2, _, _, by simp, rfl⟩
     ·exact ⟨by simp, (hsh jx (by simp)).1, (hsh jx (by simp)).2, _, _, by simp [knownC], rfl⟩
     ·exact ⟨by simp, (hsh jb (by simp)).1, (hsh jb (by simp)).2, _, _, by simp [bookC], rfl⟩
     ·exact ⟨by simp, (hsh jl (by simp)).1, (hsh jl (by simp)).2, _, _, flat_ne hne, rfl⟩
    ·refine tree_of (K := (j9, .cells [intA (q : Int)] 3 false) :: [(j7, .cells [.v (.chan (some cg))] 86 false), (j8, .cells [.v (.chan (some cn))] 87 false), (jx, .cells (knownC b s e (.sl jl 0 (statesM b).length) jm) 74 false), (jb, .cells (bookC b s e) 27 false), (jl, listO (statesM b))]) Cal.h Tryd.func39 rfl hv ?_ hg hr hrel fun Y2 k1 k2 k3 k4 => worker_ok hb hql rfl Y2 k1 k2 k3 k4
     simp only [keys, List.map_cons, List.map_nil, List.nodup_cons, List.mem_cons, List.not_mem_nil, or_false, not_or] at hnd ⊢
     obtain ⟨⟨a1, a2, a3, a4, a5, _⟩, ⟨b1, b2, b3, b4, _⟩, ⟨c1, c2, c3, _⟩, ⟨d1, d2, _⟩, ⟨g1, _⟩, _⟩ := hnd
     exact ⟨⟨a1, a2, a3, a4, a5⟩, ⟨b1, b2, b3, b4⟩, ⟨c1, c2, c3⟩, ⟨d1, d2⟩, g1, not_false, List.nodup_nil⟩
   simp only [decide_eq_false_iff_not] at hc1
   obtain rfl : q = b.steps.toNat := by omega
   refine au [16, 4, 5, 2] ?_
   refine TK.virt 10 89 2 rfl fun ja0 hja0 => ?_
   refine au [3, 4, 4, 5, 7, 9, 1, 3, 13] ?_
   refine TK.maskL [1, 6, 7, 8, 10, 31, 32] ?_
   refine TK.loopR (fun n R env K => ∃ (rec : List Nat) (ja : Nat), n = b.steps.toNat - rec.length ∧ rec.Nodup ∧ (∀ q, R q = true ↔ q ∈ rec) ∧ (∀ q ∈ rec, q < b.steps.toNat) ∧ env = slotsA 59 [(1, .ptr jb 0), (6, .ptr jx 0), (7, .ptr j7 0), (8, .ptr j8 0), (10, .row ja (arcsOf b rec).length), (31, intA b.steps), (32, intA rec.length)] ∧ K = (ja, .row ((arcsOf b rec).flatMap arcC) 89 2) :: (j7, .cells [.v (.chan (some cg))] 86 false) :: (j8, .cells [.v (.chan (some cn))] 87 false) :: (jx, .cells (knownC b s e (.sl jl 0 (statesM b).length) jm) 74 false) :: (jb, .cells (bookC b s e) 27 false) :: (jl, listO (statesM b)) :: (0, checksG) :: (1, saysG) :: (s, saysO b) :: (e, seenO b) :: []) b.steps.toNat ⟨[], ja0, rfl, List.nodup_nil, by simp, by simp, rfl, rfl⟩ fun n R env K hI' hnext => ?_
   obtain ⟨rec, ja, rfl, hrn, hRr, hrl, rfl, rfl⟩ := hI'
   have hal := arcsOf_len b rec
   refine au [4, 5, 6, 3, 4, 20] ?_
   refine ⟨fun hc2 => ?_, fun hc2 => ?_⟩
   ·simp only [decide_eq_true_eq] at hc2
    have hrlt : rec.length < b.steps.toNat := by omega
    have hst16b := hb.steps
    refine au [12, 4, 13, 4, 4, 5, 9, 3, 5, 9, 3, 4, 5] ?_
    refine TK.recv rfl rfl rfl rfl rfl InfO.h rfl InfO.h rfl (by obtain ⟨q, h1, h2⟩ := rec_some hrn hrlt; exact ⟨q, h1, by rw [Bool.eq_false_iff]; exact fun h => h2 ((hRr q).1 h)⟩) fun q hq hRq => ?_
    have hqr : q ∉ rec := fun h => by rw [(hRr q).2 h] at hRq; cases hRq
    have hrn2 : (rec ++ [q]).Nodup := List.nodup_append.2 ⟨hrn, by simp, fun x hx y hy => by rw [List.mem_singleton.1 hy]; exact fun h => hqr (h ▸ hx)⟩
    have hR2 : ∀ x, Go.ConcN.upd R q true x = true ↔ x ∈ rec ++ [q] := fun x => by
     by_cases hx : x = q
     ·subst hx; simp [Go.ConcN.upd]
     ·simp [Go.ConcN.upd, hx, hRr]
    have hrl2 : ∀ x ∈ rec ++ [q], x < b.steps.toNat := fun x hx => by
     rcases List.mem_append.1 hx with hx | hx
     ·exact hrl x hx
     ·rw [List.mem_singleton.1 hx]; exact hq
    rcases hak : arcK b q with _ | wq
    rotate_left
    ·have hma := msgN_S (cg := cg) (cn := cn) hak
     rw [hma.1, if_pos rfl]
     refine au [10, 6, 6, 3, 13, 20] ?_
     refine ⟨fun hc3 => ?_, fun hc3 => ?_⟩
     ·
      refine au [4, 5, 10, 22] ?_
      intro j11 hj11
      refine au [17, 3, 5, 1, 8] ?_
      refine TK.newR rfl rfl rfl (n_buildSlice (l := [_, _]) rfl SlEl.h TyZ.h (by decide) (by decide) rfl) (fun _ => putS rfl (by simp only [List.set]; rfl)) fun j4 hj4 => ?_
      refine TK.appR rfl rfl rfl (a_app rfl ApOf.h rfl (by repeat (first | exact List.Mem.head _ | assumption | apply List.Mem.tail)) (flat_len arcC 2 (fun _ => rfl) _) rfl (src_row (ln := [_, _]) (by repeat (first | exact List.Mem.head _ | assumption | apply List.Mem.tail)) (by decide) (by simp) rfl) (by omega) rfl (by unfold maxLen; omega) (by omega)) (fun _ => (by repeat (first | exact Upd.head | apply Upd.tail))) (fun _ => putS rfl (by simp only [List.set]; rfl)) fun ja2 => ?_
      refine au [2, 3, 14, 14, 5, 23, 1, 3] ?_
      refine TK.maskL [1, 6, 7, 8, 10, 31, 32] ?_
      refine TK.kp (((ja2, _) :: (j7, _) :: (j8, _) :: (jx, _) :: (jb, _) :: (jl, _) :: (0, _) :: (1, _) :: (s, _) :: (e, _) :: [])) ?_
      exact hnext _ _ _ _ (by rw [List.length_append]; simp; omega) ⟨rec ++ [q], ja2, rfl, hrn2, hR2, hrl2, by rw [arcsOf_S hma.2, List.length_append, List.length_append]; rfl, by rw [arcsOf_S hma.2, List.flatMap_append]; rfl⟩
     exact absurd hc3 (by decide)
    ·have hma := msgN_N (cg := cg) (cn := cn) hak
     rw [hma.1, if_neg (fun h => hcc h.symm)]
     refine au [10, 6, 6, 3, 13, 20] ?_
     refine ⟨fun hc3 => ?_, fun hc3 => ?_⟩
     ·exact absurd hc3 (by decide)
     
     refine au [20] ?_
     refine ⟨fun hc4 => ?_, fun hc4 => ?_⟩
     ·
      refine au [12, 14, 14, 5, 23, 1, 3] ?_
      refine TK.maskL [1, 6, 7, 8, 10, 31, 32] ?_
      refine TK.kp (((ja, _) :: (j7, _) :: (j8, _) :: (jx, _) :: (jb, _) :: (jl, _) :: (0, _) :: (1, _) :: (s, _) :: (e, _) :: [])) ?_
      exact hnext _ _ _ _ (by rw [List.length_append]; simp; omega) ⟨rec ++ [q], ja, rfl, hrn2, hR2, hrl2, by rw [arcsOf_N hma.2, List.length_append]; rfl, by rw [arcsOf_N hma.2]⟩
     exact absurd hc4 (by decide)
   simp only [decide_eq_false_iff_not] at hc2
   have hrle : rec.length ≤ b.steps.toNat := by have := nodup_sub (l2 := List.range b.steps.toNat) hrn (fun x hx => List.mem_range.2 (hrl x hx)); rwa [List.length_range] at this
   have hrall := rec_all hrn hrl (by omega)
   refine TK.stopM (fun q hq => (hRr q).2 (hrall q hq)) (by intro x hx; repeat (first | (cases hx; done) | (rcases List.mem_cons.1 hx with rfl | hx; · trivial))) hcs hag hn0 ?_
   have hsame := arcsOf_same (b := b) (rec := rec) (N := b.steps.toNat) fun q => ⟨hrl q, hrall q⟩
   have hst16c := hb.steps
   refine au [16, 4, 4, 5, 1, 28, 6, 3, 20] ?_
   refine ⟨fun hc5 => ?_, fun hc5 => ?_⟩
   ·have hnone : arcsOf b (List.range b.steps.toNat) = [] := List.eq_nil_iff_forall_not_mem.2 fun y hy => by
     have h0 : arcsOf b rec = [] := List.eq_nil_of_length_eq_zero (by have h : ((arcsOf b rec).length : Int) = 0 := (by simpa using hc5); omega)
     have := (hsame y).2 hy
     rw [h0] at this
     cases this
    refine au [4, 5, 2, 2, 2, 2, 3] ?_
    refine TK.rt hret [(0, _), (1, _), (s, _), (e, _)] ?_
    exact ⟨by unfold narrowApi; rw [if_neg (show ¬ (askM b true ≠ 0) by rw [hb0]; decide), if_pos hnone]; rfl, rfl⟩
   obtain ⟨p, ps, hps⟩ : ∃ p ps, arcsOf b rec = p :: ps := by
    cases h : arcsOf b rec with
    | nil => rw [h] at hc5; exact absurd hc5 (by decide)
    | cons p ps => exact ⟨p, ps, rfl⟩
   obtain ⟨p2, ps2, hps2⟩ : ∃ p ps, arcsOf b (List.range b.steps.toNat) = p :: ps := by
    cases h : arcsOf b (List.range b.steps.toNat) with
    | nil =>
     have := (hsame p).1 (by rw [hps]; simp)
     rw [h] at this; cases this
    | cons p ps => exact ⟨p, ps, rfl⟩
   have hsome : arcsOf b (List.range b.steps.toNat) ≠ [] := by rw [hps2]; simp
   have hres : firstL ltArc p ps = narrowM b := by
    unfold narrowM
    rw [hps2]
    show firstL ltArc p ps = firstL ltArc p2 ps2
    exact firstL_same fun y => by rw [← hps, ← hps2]; exact hsame y
   rw [hps] at hal ⊢
   refine au [12, 4] ?_
   refine TK.draw [0, 1, 2, 3, 4, 5, 6, 7] [0, 1, 2, 3, 4, 5, 6, 7] (by kernel_rfl) (by kernel_rfl) ?_
   refine TD.z [10] rfl (q_move rfl rfl) ?_
   refine TD.y [49] rfl (hq := q_indexRow rfl rfl rfl SlEl.h (List.Mem.head _) (by first | omega | (simp only [List.length_cons]; omega)) (by first | omega | (simp only [List.length_cons]; omega))) (h := ?_)
   refine TD.y [50] rfl (hq := q_load rfl rfl TySz.h (List.Mem.head _) (arc_take (k := 0) (by simp))) (h := ?_)
   refine TD.z [10] rfl (q_move rfl rfl) ?_
   refine TD.y [52] rfl (hq := q_sliceRow rfl rfl SlEl.h (List.Mem.head _) rfl rfl (by first | omega | (simp only [List.length_cons]; omega)) (by first | omega | (simp only [List.length_cons]; omega)) rfl) (h := ?_)
   refine TD.c2 (i1 := 5) (i2 := 6) (pend1 := [⟨3, [10], []⟩, ⟨1, [49], [(_, _)]⟩, ⟨0, [10], []⟩]) (pend2 := [⟨4, [52], [(_, _)]⟩, ⟨3, [10], []⟩, ⟨2, [50], [(_, _)]⟩, ⟨1, [49], [(_, _)]⟩, ⟨0, [10], []⟩]) (L1 := [6, 7]) (L2 := [5, 7]) [51, 53] [] rfl rfl rfl rfl rfl rfl rfl ?_ ?_
   ·refine exK_callO rfl rfl Cal.h rfl (firstArc_ok hT (o := p) (xs := ps) (lt := ltArc) (fv := .fn 41 [] []) (jo := ja) (off := 2) (obo := .row ((p :: ps).flatMap arcC) 89 2) (K := [(ja, .row ((p :: ps).flatMap arcC) 89 2)]) (by simp at hal; omega) (by simp) (fun k hk => by rw [show 2 + ((k : Int)).toNat * 2 = (k + 1) * 2 by rw [Int.toNat_natCast]; omega]; exact arc_take (xs := p :: ps) (k := k + 1) (by simpa using hk)) (fun x hx y hy => CallFK.frame (.none _) (callFK_fn Cal.h (narrow2_ok hT)))) (by repeat (first | exact Split.none _ | exact Split.all _ | (apply Split.rem; repeat (first | exact Rem.head | apply Rem.tail)) | apply Split.right)) fun r5 K6 h7 => ⟨?_, ?_⟩
    ·rcases h7 with ⟨rfl, rfl⟩
     all_goals simp
    obtain ⟨rfl, rfl⟩ := h7
    try simp only [List.cons_append, List.nil_append]
    refine TD.norm (env' := [_, _, _, _, _, _, _, _, _, _, _, _, _, _, _, _, _, _, _, _, _, _, _, _, _, _, _, _, _, _, _, _, _, _, _, _, _, _, _, _, _, _, _, _, _, _, _, _, _, _, _, _, _, _, _, _, _, _, _]) rfl ?_
    refine TD.cnewP (pend' := [⟨3, [10], []⟩, ⟨1, [49], [(_, _)]⟩, ⟨0, [10], []⟩]) [] rfl rfl rfl rfl rfl (n_allocA rfl TyZA.h) (fun _ => putS rfl (by simp only [List.set]; rfl)) (by simp) fun j12 hj12 => ?_
    refine TD.s (pend' := []) [12, 54] rfl rfl (q_store rfl rfl TySz.h rfl rfl (by repeat (first | exact List.Mem.head _ | assumption | apply List.Mem.tail)) rfl) ?_
    refine TD.fin ?_
    refine au [4] ?_
    refine TK.draw [0, 1, 2, 3, 4, 5, 6, 7] [0, 1, 4, 2, 3, 5, 6, 7] (by kernel_rfl) (by kernel_rfl) ?_
    refine TD.z [12] rfl (q_fieldAddr rfl rfl FldOf.h (by decide)) ?_
    refine TD.y [55] rfl (hq := q_load1 rfl rfl TySz.h (List.Mem.head _) rfl) (h := ?_)
    refine TD.z [12] rfl (q_fieldAddr rfl rfl FldOf.h (by decide)) ?_
    refine TD.y [57] rfl (hq := q_load1 rfl rfl TySz.h (List.Mem.head _) rfl) (h := ?_)
    refine TD.as (pend' := [⟨3, [57], [(_, _)]⟩, ⟨2, [12], []⟩]) [56] rfl rfl (q_assign rfl rfl) ?_
    refine TD.as (pend' := []) [58] rfl rfl (q_assign rfl rfl) ?_
    refine TD.as (pend' := []) [] rfl rfl (q_assign rfl rfl) ?_
    refine TD.as (pend' := []) [] rfl rfl (q_assign rfl rfl) ?_
    refine TD.fin ?_
    refine au [] ?_
    refine TK.rt hret [(0, _), (1, _), (s, _), (e, _)] ?_
    exact ⟨by unfold narrowApi; rw [if_neg (show ¬ (askM b true ≠ 0) by rw [hb0]; decide), if_neg hsome, ← hres]; rfl, rfl⟩
   ·refine exK_newP rfl (n_allocA rfl TyZA.h) (fun _ => putS rfl (by simp only [List.set]; rfl)) (by simp) fun j12 hj12 => ?_
    refine TD.cl (pend' := [⟨3, [10], []⟩, ⟨1, [49], [(_, _)]⟩, ⟨0, [10], []⟩]) [51, 53] rfl rfl rfl rfl rfl (firstArc_ok hT (o := p) (xs := ps) (lt := ltArc) (fv := .fn 41 [] []) (jo := ja) (off := 2) (obo := .row ((p :: ps).flatMap arcC) 89 2) (K := [(ja, .row ((p :: ps).flatMap arcC) 89 2)]) (by simp at hal; omega) (by simp) (fun k hk => by rw [show 2 + ((k : Int)).toNat * 2 = (k + 1) * 2 by rw [Int.toNat_natCast]; omega]; exact arc_take (xs := p :: ps) (k := k + 1) (by simpa using hk)) (fun x hx y hy => CallFK.frame (.none _) (callFK_fn Cal.h (narrow2_ok hT)))) (fun r8 K9 h10 => ⟨?_, ?_⟩)
    ·rcases h10 with ⟨rfl, rfl⟩
     all_goals simp
    obtain ⟨rfl, rfl⟩ := h10
    try simp only [List.cons_append, List.nil_append]
    refine TD.norm (by simp only [List.set]; rfl) ?_
    refine TD.s (pend' := []) [12, 54] rfl rfl (q_store rfl rfl TySz.h rfl rfl (by repeat (first | exact List.Mem.head _ | assumption | apply List.Mem.tail)) rfl) ?_
    refine TD.fin ?_
    refine au [4] ?_
    refine TK.draw [0, 1, 2, 3, 4, 5, 6, 7] [0, 1, 4, 2, 3, 5, 6, 7] (by kernel_rfl) (by kernel_rfl) ?_
    refine TD.z [12] rfl (q_fieldAddr rfl rfl FldOf.h (by decide)) ?_
    refine TD.y [55] rfl (hq := q_load1 rfl rfl TySz.h (List.Mem.head _) rfl) (h := ?_)
    refine TD.z [12] rfl (q_fieldAddr rfl rfl FldOf.h (by decide)) ?_
    refine TD.y [57] rfl (hq := q_load1 rfl rfl TySz.h (List.Mem.head _) rfl) (h := ?_)
    refine TD.as (pend' := [⟨3, [57], [(_, _)]⟩, ⟨2, [12], []⟩]) [56] rfl rfl (q_assign rfl rfl) ?_
    refine TD.as (pend' := []) [58] rfl rfl (q_assign rfl rfl) ?_
    refine TD.as (pend' := []) [] rfl rfl (q_assign rfl rfl) ?_
    refine TD.as (pend' := []) [] rfl rfl (q_assign rfl rfl) ?_
    refine TD.fin ?_
    refine au [] ?_
    refine TK.rt hret [(0, _), (1, _), (s, _), (e, _)] ?_
    exact ⟨by unfold narrowApi; rw [if_neg (show ¬ (askM b true ≠ 0) by rw [hb0]; decide), if_neg hsome, ← hres]; rfl, rfl⟩
end Go.Vel
end
section
set_option linter.all false
set_option maxRecDepth 20000
set_option maxHeartbeats 60000000
namespace Go.Proofs
open Go.Shelf
def Tryd.lays189_ren : Go.Shelf.Ren := ⟨fun | 189 => 33 | 125 => 70 | 257 => 69 | 128 => 89 | 129 => 90 | 294 => 80 | 295 => 81 | 296 => 82 | 297 => 83 | 298 => 84 | 299 => 85 | 216 => 86 | 300 => 87 | 301 => 88 | 328 => 95 | 329 => 96 | 330 => 97 | 331 => 98 | 332 => 99 | 215 => 94 | 343 => 102 | n => n, fun | 28 => 30 | 3 => 3 | 46 => 121 | 0 => 0 | 51 => 142 | 53 => 144 | 4 => 4 | 183 => 135 | 182 => 134 | 131 => 97 | 5 => 5 | 9 => 9 | 218 => 147 | 222 => 151 | 228 => 155 | 229 => 107 | n => n, fun n => n⟩
theorem Tryd.lays189 : Lays.n189 Tryd.prog Tryd.lays189_ren where
 mixed := by kernel_rfl
 f125 := Tryd.func70.trans (congrArg some (by kernel_rfl))
 f128 := Tryd.func89.trans (congrArg some (by kernel_rfl))
 f129 := Tryd.func90.trans (congrArg some (by kernel_rfl))
 f189 := Tryd.func33.trans (congrArg some (by kernel_rfl))
 f215 := Tryd.func94.trans (congrArg some (by kernel_rfl))
 f216 := Tryd.func86.trans (congrArg some (by kernel_rfl))
 f257 := Tryd.func69.trans (congrArg some (by kernel_rfl))
 f294 := Tryd.func80.trans (congrArg some (by kernel_rfl))
 f295 := Tryd.func81.trans (congrArg some (by kernel_rfl))
 f296 := Tryd.func82.trans (congrArg some (by kernel_rfl))
 f297 := Tryd.func83.trans (congrArg some (by kernel_rfl))
 f298 := Tryd.func84.trans (congrArg some (by kernel_rfl))
 f299 := Tryd.func85.trans (congrArg some (by kernel_rfl))
 f300 := Tryd.func87.trans (congrArg some (by kernel_rfl))
 f301 := Tryd.func88.trans (congrArg some (by kernel_rfl))
 f328 := Tryd.func95.trans (congrArg some (by kernel_rfl))
 f329 := Tryd.func96.trans (congrArg some (by kernel_rfl))
 f330 := Tryd.func97.trans (congrArg some (by kernel_rfl))
 f331 := Tryd.func98.trans (congrArg some (by kernel_rfl))
 f332 := Tryd.func99.trans (congrArg some (by kernel_rfl))
 f343 := Tryd.func102.trans (congrArg some (by kernel_rfl))
 t0 := Tryd.underlying0
 a0 := Tryd.isAgg0
 z0 := Tryd.sizeOf0
 v0 := Tryd.zeroValue0
 t3 := Tryd.underlying3
 a3 := Tryd.isAgg3
 z3 := Tryd.sizeOf3
 v3 := Tryd.zeroValue3
 t4 := Tryd.underlying4
 a4 := Tryd.isAgg4
 z4 := Tryd.sizeOf4
 v4 := Tryd.zeroValue4
 t5 := Tryd.underlying5
 a5 := Tryd.isAgg5
 z5 := Tryd.sizeOf5
 v5 := Tryd.zeroValue5
 t9 := Tryd.underlying9
 a9 := Tryd.isAgg9
 z9 := Tryd.sizeOf9
 v9 := Tryd.zeroValue9
 t28 := Tryd.underlying30
 a28 := Tryd.isAgg30
 z28 := Tryd.sizeOf30
 v28 := Tryd.zeroValue30
 t46 := Tryd.underlying121
 a46 := Tryd.isAgg121
 z46 := Tryd.sizeOf121
 v46 := Tryd.zeroValue121
 t51 := Tryd.underlying142
 a51 := Tryd.isAgg142
 z51 := Tryd.sizeOf142
 v51 := Tryd.zeroValue142
 t53 := Tryd.underlying144
 a53 := Tryd.isAgg144
 z53 := Tryd.sizeOf144
 v53 := Tryd.zeroValue144
 t131 := Tryd.underlying97
 a131 := Tryd.isAgg97
 z131 := Tryd.sizeOf97
 v131 := Tryd.zeroValue97
 t182 := Tryd.underlying134
 a182 := Tryd.isAgg134
 z182 := Tryd.sizeOf134
 v182 := Tryd.zeroValue134
 t183 := Tryd.underlying135
 a183 := Tryd.isAgg135
 z183 := Tryd.sizeOf135
 v183 := Tryd.zeroValue135
 t218 := Tryd.underlying147
 a218 := Tryd.isAgg147
 z218 := Tryd.sizeOf147
 v218 := Tryd.zeroValue147
 t222 := Tryd.underlying151
 a222 := Tryd.isAgg151
 z222 := Tryd.sizeOf151
 v222 := Tryd.zeroValue151
 t228 := Tryd.underlying155
 a228 := Tryd.isAgg155
 z228 := Tryd.sizeOf155
 v228 := Tryd.zeroValue155
 t229 := Tryd.underlying107
 a229 := Tryd.isAgg107
 z229 := Tryd.sizeOf107
 v229 := Tryd.zeroValue107
def Tryd.lays20_ren : Go.Shelf.Ren := ⟨fun | 20 => 34 | n => n, fun | 22 => 30 | 3 => 3 | 4 => 4 | 0 => 0 | n => n, fun n => n⟩
theorem Tryd.lays20 : Lays2.n20 Tryd.prog Tryd.lays20_ren where
 mixed := by kernel_rfl
 f20 := Tryd.func34.trans (congrArg some (by kernel_rfl))
 t0 := Tryd.underlying0
 a0 := Tryd.isAgg0
 z0 := Tryd.sizeOf0
 v0 := Tryd.zeroValue0
 t3 := Tryd.underlying3
 a3 := Tryd.isAgg3
 z3 := Tryd.sizeOf3
 v3 := Tryd.zeroValue3
 t4 := Tryd.underlying4
 a4 := Tryd.isAgg4
 z4 := Tryd.sizeOf4
 v4 := Tryd.zeroValue4
 t22 := Tryd.underlying30
 a22 := Tryd.isAgg30
 z22 := Tryd.sizeOf30
 v22 := Tryd.zeroValue30
 i3 := by kernel_rfl
end Go.Proofs
namespace Go.Vel
open Go Go.Conc Go.Proofs
theorem intsA_get {xs : List Int} {cur : Array Value} {φ : Nat → Loc3} {n : Nat} (h : ∀ (j : Nat) a, (xs.map intA)[j]? = some a → ∃ y, cur[j]? = some y ∧ RelV φ n a y) {j : Nat} (hj : j < xs.length) : cur[j]? = some (.int .i64 xs[j]) := by
 obtain ⟨y, h1, h2⟩ := h j (intA xs[j]) (by rw [List.getElem?_map, List.getElem?_eq_getElem hj]; rfl)
 cases h2
 exact h1
theorem intsA_take {xs : List Int} {cur : Array Value} {φ : Nat → Loc3} {n : Nat} (h : ∀ (j : Nat) a, (xs.map intA)[j]? = some a → ∃ y, cur[j]? = some y ∧ RelV φ n a y) : cur.toList.take xs.length = xs.map (Value.int .i64) := by
 apply List.ext_getElem?
 intro j
 by_cases hj : j < xs.length
 ·rw [List.getElem?_take_of_lt hj, Array.getElem?_toList, intsA_get h hj, List.getElem?_map, List.getElem?_eq_getElem hj]; rfl
 ·rw [List.getElem?_take_eq_none (by omega), List.getElem?_eq_none (by simp; omega)]
theorem put_get {xs : List Int} {cur : Array Value} (h : xs.length ≤ cur.size) {j : Nat} (hj : j < xs.length) : (Go.Sort.putCells (Value.int .i64) 0 xs.toArray cur)[j]? = some (.int .i64 xs[j]) := by
 have := Go.take_putCellsI cur xs h
 have h2 : ((Go.Sort.putCells (Value.int .i64) 0 xs.toArray cur).toList.take xs.length)[j]? = some (.int .i64 xs[j]) := by rw [this, List.getElem?_map, List.getElem?_eq_getElem hj]; rfl
 rwa [List.getElem?_take_of_lt hj, Array.getElem?_toList] at h2
theorem put_size {d : Array Int} {cur : Array Value} : (Go.Sort.putCells (Value.int .i64) 0 d cur).size = cur.size := by simp [Go.Sort.putCells]
theorem fits_put {H : Hp} {w w' : World} {g : Nat} {o : Obj} (hf : Fits H w) (hg : w'.heap[g]? = some o) (hk : ∀ k, k < w.heap.size → k ≠ g → w'.heap[k]? = w.heap[k]?) : Fits (H.put g (true, o)) w' := by
 intro b rw' x hb
 by_cases he : b = g
 ·subst he; rw [Hp.put_same] at hb; cases hb; exact hg
 ·rw [Hp.put_other H _ he] at hb
  rw [hk b (hf.lt hb) he]
  exact hf b _ _ hb
section
variable {Ψ : Goroutine → World → Prop} {gm : Nat → Option Nat}
/-- A call that turns a row of integers: from its lone contract. -/
theorem callK_row (tame : Tame Tryd.prog) {g : FuncId} {j m : Nat} {xs zs : List Int} {r : AV} {rv : Option Addr → Nat → Value} (hz : zs.length = xs.length) (hm : m ≤ xs.length)
  (hc : ∀ (b cap : Nat) (w : World), Go.Sort.Holds (Value.int .i64) w b 0 xs.toArray → b < w.heap.size → xs.length ≤ cap → cap ≤ maxLen → Calls Tryd.prog g #[.slice (some ⟨b, 0, none⟩) xs.length cap] w fun e w' => e = .returned (rv (some ⟨b, 0, none⟩) cap) ∧ ∃ n os, w' = Go.Sort.grow (Go.Sort.putRow (Value.int .i64) (Go.Sort.ahead w n) b 0 zs.toArray) os)
  (h0 : xs = [] → ∀ (p : Option Addr) (cap : Nat) (w : World), Calls Tryd.prog g #[.slice p 0 cap] w fun e w' => e = .returned (rv p cap) ∧ w' = w)
  (hr : ∀ (φ : Nat → Loc3) (n cap : Nat) (p : Option Addr), j < n → xs.length ≤ (φ j).cap → rowV (φ j) xs.length (.slice p xs.length cap) → RelV φ n r (rv p cap)) :
  CallK Tryd.prog (BT Tryd.prog Ψ) gm g [.row j xs.length] [(j, .row (xs.map intA) 3 1)] (fun r' K' => r' = r ∧ K' = [(j, .row ((zs.take m).map intA) 3 1)]) := by
 intro A hv hn φ F H vs c cs h1 h2 h3 k
 have hj := hv.get (.head _)
 obtain ⟨y, rfl⟩ : ∃ y, vs = #[y] := by
  have hs : vs.size = 1 := h3.1.symm
  exact ⟨vs[0], by apply Array.ext (by simpa using hs); intro i h1 h2; simp at h2; subst h2; rfl⟩
 have hy := h3.2 0 _ _ rfl rfl
 obtain ⟨hO0, hO1, hO2⟩ := h2.obj j _ hj
 cases hy with
 | row hi hle hrow =>
 have hup : Upd [(j, AObj.row (xs.map intA) 3 1)] j (.row (xs.map intA) 3 1) j (.row ((zs.take m).map intA) 3 1) [(j, .row ((zs.take m).map intA) 3 1)] := .head
 by_cases hx : xs = []
 ·obtain ⟨p, cap, rfl⟩ : ∃ p cap, y = .slice p xs.length cap := by
   unfold rowV at hrow
   split at hrow
   ·obtain ⟨p, rfl⟩ := hrow; exact ⟨p, 0, by rw [hx]; rfl⟩
   ·exact ⟨_, _, hrow⟩
  have hzz : zs.take m = xs := by rw [hx] at hz hm ⊢; rw [List.eq_nil_of_length_eq_zero hz]; simp
  refine callsM_lone tame (Post := fun v H' => v = rv p cap ∧ H' = H) (fun w hf => ?_) Ψ c cs fun v H' hp => ?_
  ·have := h0 hx p cap w
   rw [show xs.length = 0 by rw [hx]; rfl]
   exact this.mono fun e w' ⟨a, b⟩ => ⟨_, a, by rw [b]; exact ⟨rfl, rfl⟩, H, by rw [b]; exact hf, rfl, rfl⟩
  ·obtain ⟨rfl, rfl⟩ := hp
   refine k r A φ H' _ ⟨_, ?_, rfl, rfl⟩ (Agr.refl _ _) (Nat.le_refl _) h2 (hr φ _ cap p hi hle hrow)
   rw [hzz]
   exact Kstep.same hv hn
 ·have hcap : 0 < (φ j).cap := by
   rcases Nat.eq_zero_or_pos (φ j).cap with h | h
   ·exact absurd (hO0 h) (by simpa using hx)
   ·exact h
  obtain ⟨cur, q1, q2, q3, q4, q5⟩ := hO2 hcap
  have hrow' := hrow
  unfold rowV at hrow
  rw [if_neg (by omega)] at hrow
  subst hrow
  rw [List.length_map] at q4
  have hput : zs.length ≤ cur.size := by omega
  refine callsM_lone tame (Post := fun v H' => v = rv (some ⟨(φ j).blk, 0, none⟩) (φ j).cap ∧ H' = H.put (φ j).blk (true, .cells (Go.Sort.putCells (Value.int .i64) 0 zs.toArray cur) 3 (0, 0))) (fun w hf => ?_) Ψ c cs fun v H' hp => ?_
  ·have hb := hf _ _ _ q1
   refine (hc (φ j).blk (φ j).cap w (Go.holds_of_blockI hb (intsA_take q5)) (Array.getElem?_eq_some_iff.1 hb).1 hle q3).mono fun e w' ⟨a, n, os, b⟩ => ⟨_, a, by rw [b]; exact ⟨rfl, rfl⟩, _, ?_, rfl, rfl⟩
   subst b
   obtain ⟨_, _, _, _, hg⟩ := Go.grownBy_sortedI (w := w) (g := (φ j).blk) (n := n) (os := os) zs.toArray
   exact fits_put hf (Go.heap_sortedI zs.toArray hb) fun k' h1 h2 => hg k' h1 (fun e => h2 (by cases e; rfl))
  ·obtain ⟨rfl, rfl⟩ := hp
   refine k r (A.set j (.row ((zs.take m).map intA) 3 1)) φ _ _ ⟨_, Kstep.set hv hn hup, rfl, rfl⟩ (Agr.refl _ _) (by simp) (h2.set hj rfl hcap ?_) (by simpa using hr φ A.length _ _ hi hle hrow')
   refine ⟨fun h => by omega, hO1, fun _ => ⟨_, Hp.put_same _ _ _, by rw [put_size]; exact q2, q3, by rw [List.length_map, List.length_take, put_size]; omega, fun i a ha => ?_⟩⟩
   rw [List.getElem?_map, Option.map_eq_some_iff] at ha
   obtain ⟨z, hz1, rfl⟩ := ha
   rw [List.getElem?_take] at hz1
   split at hz1
   ·obtain ⟨hz2, rfl⟩ := List.getElem?_eq_some_iff.1 hz1
    exact ⟨_, put_get hput hz2, .v _⟩
   ·cases hz1
theorem compact_len (xs : List Int) : (Lib.compact xs).length ≤ xs.length := by
 unfold Lib.compact Lib.compactUpTo
 rw [List.length_map]
 exact Nat.le_trans (List.length_filter_le _ _) (by simp)
def sortI (xs : List Int) : List Int := xs.mergeSort fun x y => decide (x ≤ y)
theorem sortI_len (xs : List Int) : (sortI xs).length = xs.length := List.length_mergeSort _
theorem sort_ok (tame : Tame Tryd.prog) {j : Nat} {xs : List Int} (hlen : xs.length ≤ 100000) : CallK Tryd.prog (BT Tryd.prog Ψ) gm 33 [.row j xs.length] [(j, .row (xs.map intA) 3 1)] (fun r K' => r = .tup [] ∧ K' = [(j, .row ((sortI xs).map intA) 3 1)]) := by
 have h := callK_row (gm := gm) (Ψ := Ψ) tame (g := 33) (j := j) (m := xs.length) (xs := xs) (zs := sortI xs) (r := .tup []) (rv := fun _ _ => .tuple #[]) (sortI_len xs) (Nat.le_refl _)
  (fun b cap w hH hb h1 h2 => Any.slices_Sort_int Tryd.lays189 b 0 cap xs w hH hb (by omega))
  (fun _ p cap w => Any.slices_Sort_int_none Tryd.lays189 p cap w)
  (fun φ n cap p _ _ _ => .tup rfl (fun j a y ha => by simp at ha))
 rw [show (sortI xs).take xs.length = sortI xs by rw [← sortI_len xs]; exact List.take_length] at h
 exact h
theorem compact_ok (tame : Tame Tryd.prog) {j : Nat} {xs : List Int} : CallK Tryd.prog (BT Tryd.prog Ψ) gm 34 [.row j xs.length] [(j, .row (xs.map intA) 3 1)] (fun r K' => r = .row j (Lib.compact xs).length ∧ K' = [(j, .row ((Lib.compact xs).map intA) 3 1)]) := by
 have hl := compact_len xs
 have h := callK_row (gm := gm) (Ψ := Ψ) tame (g := 34) (j := j) (m := (Lib.compact xs).length) (xs := xs) (zs := Lib.compact xs ++ List.replicate (xs.length - (Lib.compact xs).length) 0) (r := .row j (Lib.compact xs).length) (rv := fun p cap => .slice p (Lib.compact xs).length cap) (by simp; omega) hl
  (fun b cap w hH hb h1 h2 => (Any.slices_Compact_int Tryd.lays20 b 0 cap xs w hH (by unfold maxLen at h2; omega) h1).mono fun e w' ⟨a, q, b⟩ => ⟨a, q, #[], by rw [b, Go.Sort.grow_empty]⟩)
  (fun hx p cap w => (Any.slices_Compact_int_empty Tryd.lays20 p cap w).mono fun e w' ⟨a, b⟩ => ⟨by rw [a, show (Lib.compact xs).length = 0 by subst hx; simpa using hl], b⟩)
  (fun φ n cap p hn hle hrow => by
   refine .row hn (by omega) ?_
   unfold rowV at hrow ⊢
   split at hrow
   ·rename_i h
    obtain ⟨q, hq⟩ := hrow
    rw [if_pos h]
    injection hq with h1 h2 h3
    exact ⟨q, by rw [h1, h3, show (Lib.compact xs).length = 0 by omega]⟩
   ·rename_i h
    rw [if_neg h]
    injection hrow with h1 h2 h3
    rw [h1, h3])
 rw [List.take_left' rfl] at h
 exact h
end
def countsM (b : Bk) : List Int := Lib.compact (sortI ((statesM b).map fun S => (S.length : Int)))


theorem counts_ok (tame : Tame Tryd.prog) {Ψ : Goroutine → World → Prop} {b : Bk} {s e : Nat} (hse : s ≠ e) (hn : ∀ x ∈ b.seekers, x.name.size ≤ 1000) (hl : b.seen.length ≤ 1000) : CallK Tryd.prog (BT Tryd.prog Ψ) gmS 7 [.agg (bookC b s e)] [(0, checksG), (1, saysG), (s, saysO b), (e, seenO b)] (fun r K' => (askM b true ≠ 0 ∧ r = .tup [.v (.slice none 0 0), intA (askM b true)] ∧ K' = [(0, checksG), (1, saysG), (s, saysO b), (e, seenO b)]) ∨ (askM b true = 0 ∧ ∃ j, r = .tup [.row j (countsM b).length, intA 0] ∧ K' = [(0, checksG), (1, saysG), (s, saysO b), (e, seenO b), (j, .row ((countsM b).map intA) 3 1)])) := by
 have hT := shut_BT tame Ψ
 refine callK_in 34 hT Tryd.func7 fun Y hret => ?_
 refine au [4, 5, 21] ?_
 intro jb hjb
 refine au [2, 2, 3, 4, 5, 8] ?_
 refine TK.cl rfl rfl rfl rfl (ask_ok hT (b := b) (s := s) (e := e) (t := true) hse hn hl rfl (fun hb => callFK_fn Cal.h (always_ok hT))) ?_
 rintro r1 K2 h3
 rcases h3 with ⟨hb0, rfl, rfl⟩ | ⟨jl, jm, om, hb0, hom, rfl, rfl⟩
 ·refine au [1, 10, 10, 22] ?_
  intro jx hjx
  refine au [17, 2, 3, 4, 4, 5, 1, 6, 3, 20] ?_
  refine ⟨fun hc0 => ?_, fun hc0 => ?_⟩
  ·
   refine au [4, 5, 1, 2, 2, 3] ?_
   refine TK.rt hret [(0, _), (1, _), (s, _), (e, _)] ?_
   exact .inl ⟨hb0, rfl, rfl⟩
  exact absurd (by simpa using hc0) hb0
 ·refine au [1, 10, 10, 22] ?_
  intro jx hjx
  refine au [17, 2, 3, 4, 4, 5, 1, 6, 3, 20] ?_
  refine ⟨fun hc0 => ?_, fun hc0 => ?_⟩
  ·exact absurd hc0 (by decide)
  obtain ⟨hck, hth, hne⟩ := ask_zero hb0
  have hb := bkOk_of hck
  have hLo := statesM_ok hb
  have hLn := statesM_len hb
  refine au [12, 4, 5, 2] ?_
  refine TK.virt 6 3 1 rfl fun j01 hj01 => ?_
  refine au [3, 4, 4, 5, 7, 9, 28, 1, 3, 13] ?_
  refine TK.maskL [6, 18, 19, 20] ?_
  refine TK.kp [(jx, _), (jm, _), (jl, _), (jb, _), (0, _), (1, _), (s, _), (e, _), (j01, _)] ?_
  refine TK.loopN (fun n env K => ∃ (i j1 : Nat), n = (statesM b).length - i ∧ i ≤ (statesM b).length ∧ env = slotsA 34 [(6, .row j1 (((statesM b).take i).map fun S => (S.length : Int)).length), (18, .sl jl 0 (statesM b).length), (19, intA (statesM b).length), (20, intA i)] ∧ K = [(jx, .cells (knownC b s e (.sl jl 0 (statesM b).length) jm) 74 true), (jm, .raw om), (jl, listO (statesM b)), (jb, .cells (bookC b s e) 27 true), (0, checksG), (1, saysG), (s, saysO b), (e, seenO b), (j1, .row ((((statesM b).take i).map fun S => (S.length : Int)).map intA) 3 1)]) (statesM b).length ⟨0, j01, rfl, Nat.zero_le _, rfl, rfl⟩ fun n env K hI' hnext => ?_
  obtain ⟨i, j1, rfl, hi, rfl, rfl⟩ := hI'
  refine au [4, 5, 6, 3, 4, 20] ?_
  refine ⟨fun hc1 => ?_, fun hc1 => ?_⟩
  ·simp only [decide_eq_true_eq] at hc1
   have hil : i < (statesM b).length := by omega
   have htl : (((statesM b).take i).map fun S => (S.length : Int)).length ≤ 65536 := by rw [List.length_map, List.length_take]; omega
   refine au [12, 4, 13, 4, 5, 36] ?_
   refine TK.a rfl (q_load rfl rfl TySz.h (by repeat (first | exact List.Mem.head _ | assumption | apply List.Mem.tail)) (list_at (statesM b) i hil)) ?_
   refine au [22] ?_
   intro j9 hj9
   refine au [17, 3, 5, 1, 7, 9] ?_
   refine TK.newR rfl rfl rfl (n_buildSlice (l := [_]) rfl SlEl.h TyZ.h (by decide) (by decide) rfl) (fun _ => putS rfl (by simp only [List.set]; rfl)) fun j4 hj4 => ?_
   refine TK.appR rfl rfl rfl (a_app rfl ApOf.h rfl (by repeat (first | exact List.Mem.head _ | assumption | apply List.Mem.tail)) (by simp <;> omega) rfl (src_row (ln := [_]) (by repeat (first | exact List.Mem.head _ | assumption | apply List.Mem.tail)) (by decide) (by simp) rfl) (by omega) rfl (by unfold maxLen; omega) (by omega)) (fun _ => (by repeat (first | exact Upd.head | apply Upd.tail))) (fun _ => putS rfl (by simp only [List.set]; rfl)) fun j3 => ?_
   refine au [2, 3, 14, 5, 23, 1, 3] ?_
   refine TK.maskL [6, 18, 19, 20] ?_
   refine TK.kp [(jx, _), (jm, _), (jl, _), (jb, _), (0, _), (1, _), (s, _), (e, _), (j3, _)] ?_
   have e1 : ((statesM b).take (i + 1)).map (fun S => (S.length : Int)) = ((statesM b).take i).map (fun S => (S.length : Int)) ++ [((statesM b)[i].length : Int)] := by rw [List.take_add_one, List.getElem?_eq_getElem hil, List.map_append]; rfl
   exact hnext _ _ _ (by omega) ⟨i + 1, j3, rfl, by omega, by rw [e1, List.length_append]; rfl, by rw [e1, List.map_append]; rfl⟩
  simp only [decide_eq_false_iff_not] at hc1
  obtain rfl : i = (statesM b).length := by omega
  rw [List.take_length]
  refine au [16, 4, 5, 1] ?_
  refine TK.cl rfl rfl rfl rfl (sort_ok tame (by rw [List.length_map]; omega)) ?_
  rintro r5 K6 ⟨rfl, rfl⟩
  refine au [] ?_
  rw [← sortI_len ((statesM b).map fun S => (S.length : Int))]
  refine au [3, 4, 5, 1] ?_
  refine TK.cl rfl rfl rfl rfl (compact_ok tame) ?_
  rintro r8 K9 ⟨rfl, rfl⟩
  refine au [2, 2, 3] ?_
  refine TK.rt hret [(0, _), (1, _), (s, _), (e, _), (j1, _)] ?_
  exact .inr ⟨hb0, j1, rfl, rfl⟩
end Go.Vel
end
section
set_option linter.all false
set_option maxRecDepth 20000
set_option maxHeartbeats 60000000
namespace Go.Vel
open Go Go.Conc Go.Proofs

section
variable {P : Program} {gm : Nat → Option Nat} {T : Goroutine → Hp → Prop} {Y : KX P gm T} {ds : List Nat} {k : List Item} {env env' : List AV} {K K' : KV}
theorem TK.nilAgg (d p : Nat) (e : TypeId) {l : List AV} {x : Option Addr} {c : Nat} (hx : env[d]? = some (.agg l)) (hp : l[p]? = some (.v (.slice x 0 c))) (h : ∀ j, j ∉ keys K → TK Y ds k (env.set d (.agg (l.set p (.sl j 0 0)))) ((j, .cells [] e false) :: K)) : TK Y ds k env K := fun A hA φ H ts h1 h2 h3 h4 h5 h6 => by
 have hk : A.length ∉ keys K := fun hm => absurd (hA.view.lt hm) (Nat.lt_irrefl _)
 have hH := h5.virtO (o := .cells [] e false) (fun φ n hl => absurd rfl hl) (fun hl => hl rfl)
 have hag := agr_upd3 φ A.length ⟨0, 0, 0⟩
 have hlen : (A ++ [AObj.cells [] e false]).length = A.length + 1 := by simp
 have hds : dsC (upd3 φ A.length ⟨0, 0, 0⟩) ds = dsC φ ds := by
  unfold dsC
  exact List.map_congr_left fun d hd' => by rw [hag d (h4 d hd')]
 rw [← hds]
 refine h _ hk _ (hA.step (.push hA.view hA.nd _)) _ H ts (h1.trans hag h2) (by omega) (h3.mono hag (by omega)) (fun d hd => by have := h4 d hd; omega) hH ?_
 have hE := h6.mono (n' := (A ++ [AObj.cells [] e false]).length) hag (by omega)
 exact hE.set' hx fun y hy => by
  obtain ⟨ys, rfl, q1, q2⟩ := inv_agg hy
  refine .agg (by simpa using q1) fun t u z hu hz => ?_
  rw [List.getElem?_set] at hu
  split at hu
  ·rename_i ht
   subst ht
   split at hu
   ·cases hu
    have := q2 p _ z hp hz
    rw [inv_v this]
    exact .sl (by omega) (Nat.zero_le _) fun hp => absurd hp (Nat.lt_irrefl _)
   ·cases hu
  ·exact q2 t u z hu hz
end
def greatM (b : Bk) : Bool := decide (b.seekers.length > 20) || decide (b.seen.length > 20) || b.seekers.any fun x => decide (x.name.size > 100)
theorem any_all {α : Type} {xs : List α} {p : α → Bool} (h : (xs.take xs.length).any p = false) : xs.any p = false := by rwa [List.take_length] at h
theorem any_all_of {α : Type} {xs : List α} {p : α → Bool} {i : Nat} {x : α} (h : xs[i]? = some x) (he : p x = true) : xs.any p = true := List.any_eq_true.2 ⟨x, List.mem_of_getElem? h, he⟩
theorem great_small {b : Bk} (h : greatM b = false) : b.seekers.length ≤ 20 ∧ b.seen.length ≤ 20 ∧ ∀ x ∈ b.seekers, x.name.size ≤ 100 := by
 unfold greatM at h
 simp only [Bool.or_eq_false_iff, decide_eq_false_iff_not] at h
 refine ⟨by omega, by omega, fun x hx => ?_⟩
 have := List.any_eq_false.1 h.2 x hx
 simp at this
 omega
def exB : Bk := ⟨8, 1, 1, 1, [⟨⟨#[97, 110, 110]⟩, 1, 3, 0, false⟩, ⟨⟨#[98, 111]⟩, 2, 5, 1, false⟩, ⟨⟨#[99, 121]⟩, 3, 6, 0, false⟩], []⟩
def exB2 : Bk := { exB with low := 2, high := 2 }
def exX : Says := ⟨⟨#[100, 105]⟩, 5, 1, 0, true⟩
theorem ex_check : checkM exB = 0 := by kernel_rfl
theorem ex_all : allM exB = [[0],[1],[2],[3],[4],[5],[6],[7]] := by kernel_rfl
theorem ex_states : statesM exB = [[1],[3],[6]] := by kernel_rfl
theorem ex_ask : askM exB true = 0 := by kernel_rfl
theorem ex_r0 : rightApi exB [3] 0 = (true, 0) := by kernel_rfl
theorem ex_r1 : rightApi exB [3] 1 = (false, 0) := by kernel_rfl
theorem ex_s3 : stateApi exB [3] = (true, 0) := by kernel_rfl
theorem ex_s4 : stateApi exB [4] = (false, 0) := by kernel_rfl
theorem ex_st : statesApi exB = (3, 0) := by kernel_rfl
theorem ex_at1 : atApi exB 1 = (0, 0) := by kernel_rfl
theorem ex_at0 : atApi exB 0 = (2, 0) := by kernel_rfl
theorem ex_p1 : pickL exB 1 exB.steps.toNat = [] := by kernel_rfl
theorem ex_p0 : pickL exB 0 exB.steps.toNat = [1, 3, 6] := by kernel_rfl
theorem ex_w : withinApi exB 6 1 = ((0, 1), 0) := by kernel_rfl
theorem ex_n : narrowApi exB = ((1, 6), true, 0) := by kernel_rfl
theorem ex_wr : wrongApi exB 0 = (0, 0) := by kernel_rfl
theorem ex_g0 : guessM exB (allM exB) ≠ [] := by decide +kernel
theorem ex_li : likelyM exB = ([1], 1) := by kernel_rfl
theorem ex_t : togM exB (everyM exB) = false := by kernel_rfl
theorem ex_cl : clashM exB = [0, 1, 2] := by kernel_rfl
theorem ex_askA : askApi exB = (1, 2, 0) := by kernel_rfl
theorem ex_lend : lendApi exB = (0, 2, 0) := by kernel_rfl
theorem ex_giv : giveM exB 0 = 0 := by kernel_rfl
theorem ex_g2 : statesApi (giveB exB 0) = (2, 0) := by kernel_rfl
theorem ex_g3 : narrowApi (giveB exB 0) = ((1, 3), true, 0) := by kernel_rfl
theorem ex_lk : newsM exB (lookB exB ⟨3, true⟩) = 0 := by kernel_rfl
theorem ex_lk2 : statesApi (lookB exB ⟨3, true⟩) = (1, 0) := by kernel_rfl
theorem ex_hr : newsM exB (hearB exB exX) = 0 := by kernel_rfl
theorem ex_hr2 : statesApi (hearB exB exX) = (2, 0) := by kernel_rfl
theorem ex2_st : statesApi exB2 = (17, 0) := by kernel_rfl
theorem ex2_ck : checkM exB2 = 0 := by kernel_rfl
theorem ex2_g : guessM exB2 (allM exB2) ≠ [] := by decide +kernel
theorem ex2_li : likelyM exB2 = ([1, 6], 0) := by kernel_rfl
theorem ex2_t : togM exB2 (everyM exB2) = true := by kernel_rfl
theorem ex_cnt : (statesM exB).map (fun S => (S.length : Int)) = [1, 1, 1] := by rw [ex_states]; rfl
theorem ex_counts : countsM exB = [1] := by
 unfold countsM sortI
 rw [ex_cnt, List.mergeSort_of_pairwise (by decide)]
 decide +kernel


theorem great_ok {main : Bool} {T : Goroutine → Hp → Prop} (hT : Shut Tryd.prog main T) {gm : Nat → Option Nat} {b : Bk} {s e : Nat} :
  CallK Tryd.prog T gm 19 [.agg (bookC b s e)] [(s, saysO b)] (fun r K' => r = boolA (greatM b) ∧ K' = [(s, saysO b)]) := by
 refine callK_in 29 hT Tryd.func19 fun Y hret => ?_
 refine au [4, 5, 21] ?_
 intro jb hjb
 refine au [2, 3, 4, 4, 5, 7, 9, 28, 6, 1] ?_
 refine TK.sp 8 (fun g1_5 => ?_) (fun g1_5 => ?_)
 ·refine au [11, 11, 11, 11, 26, 3, 18, 4, 5, 2, 3] ?_
  refine TK.rt hret [(s, _)] ?_
  exact ⟨by unfold greatM; rw [show decide (b.seekers.length > 20) = true by have := of_decide_eq_true g1_5; simp; omega]; rfl, rfl⟩
 have hlen20 : b.seekers.length ≤ 20 := by have := of_decide_eq_false g1_5; omega
 refine au [7, 9, 28, 6, 25, 3, 20] ?_
 refine ⟨fun hc0 => ?_, fun hc0 => ?_⟩
 ·refine au [4, 5, 2, 3] ?_
  refine TK.rt hret [(s, _)] ?_
  exact ⟨by unfold greatM; rw [show decide (b.seen.length > 20) = true by have := of_decide_eq_true hc0; simp; omega, Bool.or_true]; rfl, rfl⟩
 refine au [12, 4, 4, 5, 2, 3, 13] ?_
 refine TK.maskL [1, 3] ?_
 refine TK.loopN (fun n env K => ∃ (i : Nat), n = b.seekers.length - i ∧ i ≤ b.seekers.length ∧ ((b.seekers.take i).any fun x => decide (x.name.size > 100)) = false ∧ env = slotsA 29 [(1, .ptr jb 0), (3, intA i)] ∧ K = [(jb, .cells (bookC b s e) 27 true), (s, saysO b)]) b.seekers.length ⟨0, rfl, Nat.zero_le _, rfl, rfl, rfl⟩ fun n env K hI' hnext => ?_
 obtain ⟨i, rfl, hi, hany, rfl, rfl⟩ := hI'
 refine au [4, 4, 5, 1, 7, 9, 28, 6, 3, 20] ?_
 refine ⟨fun hc => ?_, fun hc => ?_⟩
 ·simp only [decide_eq_true_eq] at hc
  have hil : i < b.seekers.length := by omega
  obtain ⟨x, hx⟩ : ∃ x, b.seekers[i]? = some x := ⟨_, List.getElem?_eq_getElem hil⟩
  refine au [12, 4, 13, 4, 5, 7, 9, 1, 36, 7] ?_
  refine TK.a rfl (q_load1 rfl rfl TySz.h (by repeat (first | exact List.Mem.head _ | assumption | apply List.Mem.tail)) (take_fld (says_at' b hx) (by decide) rfl)) ?_
  refine au [29, 6, 3, 20] ?_
  refine ⟨fun hc2 => ?_, fun hc2 => ?_⟩
  ·refine au [4, 5, 2, 3] ?_
   refine TK.rt hret [(s, _)] ?_
   exact ⟨by unfold greatM; rw [any_all_of (p := fun x : Says => decide (x.name.size > 100)) hx (by have := of_decide_eq_true hc2; simp; omega), Bool.or_true]; rfl, rfl⟩
  refine au [12, 14, 5, 1, 23, 2, 3] ?_
  refine TK.maskL [1, 3] ?_
  refine TK.kp [(jb, _), (s, _)] ?_
  exact hnext _ _ _ (by omega) ⟨i + 1, rfl, by omega, any_take_next hx hany (by have := of_decide_eq_false hc2; simp; omega), rfl, rfl⟩
 simp only [decide_eq_false_iff_not] at hc
 obtain rfl : i = b.seekers.length := by omega
 refine au [16, 4, 5, 2, 3] ?_
 refine TK.rt hret [(s, _)] ?_
 exact ⟨by unfold greatM; rw [any_all hany, show decide (b.seekers.length > 20) = false by have := of_decide_eq_false g1_5; simp; omega, show decide (b.seen.length > 20) = false by have := of_decide_eq_false hc0; simp; omega]; rfl, rfl⟩

theorem to_ok {main : Bool} {T : Goroutine → Hp → Prop} (hT : Shut Tryd.prog main T) {gm : Nat → Option Nat} {a z : Int} :
  CallK Tryd.prog T gm 11 [intA a, intA z] [] (fun r K' => r = .agg [intA a, intA z] ∧ K' = []) := by
 refine callK_in 8 hT Tryd.func11 fun Y hret => ?_
 refine au [4, 5, 22] ?_
 intro j1 hj1
 refine au [3, 4, 5, 1, 1, 39, 17, 3] ?_
 refine TK.rt hret [] ?_
 exact ⟨rfl, rfl⟩

theorem one_ok2 {main : Bool} {T : Goroutine → Hp → Prop} (hT : Shut Tryd.prog main T) {gm : Nat → Option Nat} {n : Int} :
  CallK Tryd.prog T gm 30 [intA n] [] (fun r K' => r = .agg [intA n, intA n] ∧ K' = []) := by
 refine callK_in 6 hT Tryd.func30 fun Y hret => ?_
 refine au [4, 5, 22] ?_
 intro j1 hj1
 refine au [3, 4, 5, 1, 1] ?_
 refine TK.cl rfl rfl rfl rfl (to_ok hT) ?_
 rintro r2 K3 ⟨rfl, rfl⟩
 refine au [17, 3] ?_
 refine TK.rt hret [] ?_
 exact ⟨rfl, rfl⟩

theorem lists_ok {main : Bool} {T : Goroutine → Hp → Prop} (hT : Shut Tryd.prog main T) {gm : Nat → Option Nat} {j off j2 off2 : Nat} {ob ob2 : AObj} {xs ys : List Int} (hjj : j ≠ j2) (hI : IntsAt ob off xs) (hI2 : IntsAt ob2 off2 ys) (hlx : xs.length ≤ 100000) :
  CallK Tryd.prog T gm 25 [.sl j off xs.length, .sl j2 off2 ys.length] [(j, ob), (j2, ob2)] (fun r K' => r = boolA (decide (xs = ys)) ∧ K' = [(j, ob), (j2, ob2)]) := by
 refine callK_in 8 hT Tryd.func25 fun Y hret => ?_
 refine au [4, 5, 2, 3, 4, 5, 1, 1] ?_
 refine TK.cl rfl rfl rfl rfl (sameInts_ok hT hjj hI hI2 hlx) ?_
 rintro r1 K2 ⟨rfl, rfl⟩
 refine au [2, 3] ?_
 refine TK.rt hret [(j, _), (j2, _)] ?_
 exact ⟨rfl, rfl⟩

theorem example_ok {main : Bool} {T : Goroutine → Hp → Prop} (hT : Shut Tryd.prog main T) {gm : Nat → Option Nat}  :
  CallK Tryd.prog T gm 21 [] [] (fun r K' => ∃ s e, s ≠ e ∧ r = .agg (bookC exB s e) ∧ K' = [(s, saysO exB), (e, seenO exB)]) := by
 refine callK_in 7 hT Tryd.func21 fun Y hret => ?_
 refine au [4, 5, 22] ?_
 intro j1 hj1
 refine au [3, 4, 5] ?_
 refine TK.cl rfl rfl rfl rfl (one_ok2 hT) ?_
 rintro r2 K3 ⟨rfl, rfl⟩
 refine au [42, 42, 42] ?_
 refine TK.newR rfl rfl rfl (n_buildSlice (l := [_, _, _, _, _, _, _, _, _, _, _, _, _, _, _]) rfl SlEl.h TyZ.h (by decide) (by decide) rfl) (fun _ => putS rfl (by simp only [List.set]; rfl)) fun jS hjS => ?_
 refine TK.freezeR 5 rfl (by repeat (first | exact Upd.head | apply Upd.tail)) rfl ?_
 refine au [43] ?_
 refine TK.nilAgg 6 5 47 rfl rfl fun jE hjE => ?_
 refine au [17, 3] ?_
 refine TK.rt hret [(jS, _), (jE, _)] ?_
 exact ⟨jS, jE, fun h => hjE (by subst h; simp [keys]), rfl, rfl⟩
end Go.Vel
end
section
set_option linter.all false
set_option maxRecDepth 20000
set_option maxHeartbeats 60000000
namespace Go.Vel
open Go Go.Conc Go.Proofs

theorem pendS {ops : Array Oper} {i : Nat} {pend pend' : List Pd} {es : List Nat} (h : edgesOf .any ops i = es) (h2 : (pend.filter fun p => !(es.elem p.i)) = pend') : pendOf ops i pend = pend' := by unfold pendOf; rw [h]; exact h2
section
variable {P : Program} {gm : Nat → Option Nat} {T : Goroutine → Hp → Prop}
/-- A call that is handed a row it only reads. -/
theorem callK_frz {g : FuncId} {a1 : AV} {j j2 n : Nat} {ob : AObj} {l : List AV} {e : TypeId} {s : Nat} {Post : AV → KV → Prop} (h : CallK P T gm g [a1, .sl j2 0 n] [(j, ob), (j2, .cells l e false)] Post) : CallK P T gm g [a1, .row j2 n] [(j, ob), (j2, .row l e s)] Post := by
 intro A hv hn φ F H vs c cs h1 h2 h3 q
 have hj : A[j2]? = some (.row l e s) := hv.get (by simp)
 have hb : (φ j2).base = 0 := (h2.obj j2 _ hj).2.1
 have hst : Kstep [(j, ob), (j2, AObj.row l e s)] A [(j, ob), (j2, .cells l e false)] (A.set j2 (.cells l e false)) := .set hv hn (.tail .head)
 refine h (A.set j2 (.cells l e false)) hst.view hst.nd φ F H vs c cs (by simpa using h1) (h2.turn hj (fun ho hl => ?_) (fun h => by cases h) (fun _ => rfl) (fun hs => ?_)) ⟨by simpa using h3.1, fun t a y ha hy => ?_⟩ fun r A' φ' H' v ⟨K', hk, hp⟩ hA hlen hH' hv' => q r A' φ' H' v ⟨K', hst.trans hk, hp⟩ (by simpa using hA) (by simpa using hlen) hH' hv'
 ·have hc : 0 < (φ j2).cap := by
   rcases Nat.eq_zero_or_pos (φ j2).cap with e | e
   ·exact absurd (ho.1 e) hl
   ·exact e
  obtain ⟨cur, q1, q2, q3, q4, q5⟩ := ho.2.2 hc
  exact ⟨true, cur, (_, 0, 0), q1, (fun h => by cases h), fun t u hu => by rw [hb, Nat.zero_add]; exact q5 t u hu⟩
 ·show 0 < (φ j2).cap
  rcases Nat.eq_zero_or_pos (φ j2).cap with e | e
  ·exact absurd ((h2.obj j2 _ hj).1 e) hs
  ·exact e
 ·match t, ha with
  | 0, ha =>
   cases ha
   simpa using h3.2 0 a1 y rfl hy
  | 1, ha =>
   cases ha
   have := unrow_rel (j := j2) hb (h3.2 1 _ y rfl hy)
   simpa [unrow] using this
  | t + 2, ha => simp at ha
end
theorem same_ok {main : Bool} {T : Goroutine → Hp → Prop} (hT : Shut Tryd.prog main T) {gm : Nat → Option Nat} {j off j2 off2 : Nat} {ob ob2 : AObj} (xs : List Int) (hjj : j ≠ j2) (hI : IntsAt ob off xs) (hI2 : IntsAt ob2 off2 xs) (hlx : xs.length ≤ 100000) :
  CallK Tryd.prog T gm 25 [.sl j off xs.length, .sl j2 off2 xs.length] [(j, ob), (j2, ob2)] (fun r K' => r = boolA true ∧ K' = [(j, ob), (j2, ob2)]) :=
 (lists_ok hT hjj hI hI2 hlx).mono fun r K' ⟨h1, h2⟩ => ⟨by rw [h1, decide_eq_true rfl], h2⟩
theorem small_of {b : Bk} (h : (b.seekers.all fun x => decide (x.name.size ≤ 1000)) = true) : ∀ x ∈ b.seekers, x.name.size ≤ 1000 := fun x hx => of_decide_eq_true (List.all_eq_true.1 h x hx)
theorem ex_n1 : ∀ x ∈ exB.seekers, x.name.size ≤ 1000 := small_of (by kernel_rfl)
theorem ex_n2 : ∀ x ∈ exB2.seekers, x.name.size ≤ 1000 := small_of (by kernel_rfl)
theorem ex_n3 : ∀ x ∈ (giveB exB 0).seekers, x.name.size ≤ 1000 := small_of (by kernel_rfl)
theorem ex_n4 : ∀ x ∈ (lookB exB ⟨3, true⟩).seekers, x.name.size ≤ 1000 := small_of (by kernel_rfl)
theorem ex_n5 : ∀ x ∈ (hearB exB exX).seekers, x.name.size ≤ 1000 := small_of (by kernel_rfl)
theorem ex_l1 : exB.seen.length ≤ 1000 := by decide
theorem ex_l2 : exB2.seen.length ≤ 1000 := by decide
theorem ex_l3 : (giveB exB 0).seen.length ≤ 1000 := by decide
theorem ex_l4 : (lookB exB ⟨3, true⟩).seen.length ≤ 1000 := by decide
theorem ex_l5 : (hearB exB exX).seen.length ≤ 1000 := by decide


theorem sought_ok (tame : Tame Tryd.prog) {Ψ : Goroutine → World → Prop} : CallK Tryd.prog (BT Tryd.prog Ψ) gmS 6 [] [(0, checksG), (1, saysG)] (fun r K' => r = boolA true ∧ K' = [(0, checksG), (1, saysG)]) := by
 have hT := shut_BT tame Ψ
 refine callK_in 427 hT Tryd.func6 fun Y hret => ?_
 refine au [4, 5, 2, 3, 4, 5] ?_
 refine TK.cl rfl rfl rfl rfl (example_ok hT) ?_
 rintro r1 K2 ⟨s, e, hse, rfl, rfl⟩
 refine au [22] ?_
 intro j1 hj1
 refine au [17, 3, 4] ?_
 refine TK.kp [(j1, _), (0, _), (1, _), (s, _), (e, _)] ?_
 refine au [5, 8] ?_
 refine TK.newR rfl rfl rfl (n_buildSlice (l := [_]) rfl SlEl.h TyZ.h (by decide) (by decide) rfl) (fun _ => putS rfl (by simp only [List.set]; rfl)) fun ja2 hja2 => ?_
 refine TK.freezeR 40 rfl (by repeat (first | exact Upd.head | apply Upd.tail)) rfl ?_
 refine au [] ?_
 refine TK.cl rfl rfl rfl rfl (rightApi_ok hT (b := exB) (s := s) (e := e) (k := 0) (xs := [3]) ex_n1 ex_l1 (ints_at [3] 3 false) (by decide)) ?_
 rintro r4 K5 ⟨rfl, rfl⟩
 refine au [] ?_
 rw [ex_r0]
 refine au [1, 10, 10, 2, 2, 3, 4] ?_
 refine TK.kp [(j1, _), (0, _), (1, _), (s, _), (e, _)] ?_
 refine au [5, 8] ?_
 refine TK.newR rfl rfl rfl (n_buildSlice (l := [_]) rfl SlEl.h TyZ.h (by decide) (by decide) rfl) (fun _ => putS rfl (by simp only [List.set]; rfl)) fun ja3 hja3 => ?_
 refine TK.freezeR 46 rfl (by repeat (first | exact Upd.head | apply Upd.tail)) rfl ?_
 refine au [] ?_
 refine TK.cl rfl rfl rfl rfl (rightApi_ok hT (b := exB) (s := s) (e := e) (k := 1) (xs := [3]) ex_n1 ex_l1 (ints_at [3] 3 false) (by decide)) ?_
 rintro r7 K8 ⟨rfl, rfl⟩
 refine au [] ?_
 rw [ex_r1]
 refine au [1, 10, 10, 2, 2, 3, 4] ?_
 refine TK.kp [(j1, _), (0, _), (1, _), (s, _), (e, _)] ?_
 refine au [5, 8] ?_
 refine TK.newR rfl rfl rfl (n_buildSlice (l := [_]) rfl SlEl.h TyZ.h (by decide) (by decide) rfl) (fun _ => putS rfl (by simp only [List.set]; rfl)) fun ja4 hja4 => ?_
 refine TK.freezeR 52 rfl (by repeat (first | exact Upd.head | apply Upd.tail)) rfl ?_
 refine au [] ?_
 refine TK.cl rfl rfl rfl rfl (stateApi_ok hT (b := exB) (s := s) (e := e) hse (xs := [3]) ex_n1 ex_l1 (ints_at [3] 3 false) (by decide)) ?_
 rintro r10 K11 ⟨rfl, rfl⟩
 refine au [] ?_
 rw [ex_s3]
 refine au [1, 10, 10, 2, 2, 3, 4] ?_
 refine TK.kp [(j1, _), (0, _), (1, _), (s, _), (e, _)] ?_
 refine au [5, 8] ?_
 refine TK.newR rfl rfl rfl (n_buildSlice (l := [_]) rfl SlEl.h TyZ.h (by decide) (by decide) rfl) (fun _ => putS rfl (by simp only [List.set]; rfl)) fun ja5 hja5 => ?_
 refine TK.freezeR 58 rfl (by repeat (first | exact Upd.head | apply Upd.tail)) rfl ?_
 refine au [] ?_
 refine TK.cl rfl rfl rfl rfl (stateApi_ok hT (b := exB) (s := s) (e := e) hse (xs := [4]) ex_n1 ex_l1 (ints_at [4] 3 false) (by decide)) ?_
 rintro r13 K14 ⟨rfl, rfl⟩
 refine au [] ?_
 rw [ex_s4]
 refine au [1, 10, 10, 2, 2, 3, 4] ?_
 refine TK.kp [(j1, _), (0, _), (1, _), (s, _), (e, _)] ?_
 refine au [5, 8] ?_
 refine TK.cl rfl rfl rfl rfl (statesApi_ok hT (b := exB) (s := s) (e := e) hse ex_n1 ex_l1) ?_
 rintro r16 K17 ⟨rfl, rfl⟩
 refine au [] ?_
 rw [ex_st]
 refine au [1, 10, 10, 2, 2, 3, 4, 5, 8] ?_
 refine TK.cl rfl rfl rfl rfl (counts_ok tame (b := exB) (s := s) (e := e) hse ex_n1 ex_l1) ?_
 rintro r19 K20 h21
 rcases h21 with ⟨hb0, rfl, rfl⟩ | ⟨hb0, jc, rfl, rfl⟩
 ·refine au [] ?_
  exact absurd ex_ask hb0
 ·refine au [] ?_
  rw [ex_counts]
  refine au [1, 10] ?_
  refine TK.freezeR 70 rfl (by repeat (first | exact Upd.head | apply Upd.tail)) rfl ?_
  refine au [10, 2, 2, 3, 4, 5, 8] ?_
  refine TK.cl rfl rfl rfl rfl (atApi_ok hT (b := exB) (s := s) (e := e) (n := 1) hse ex_n1 ex_l1) ?_
  rintro r22 K23 ⟨rfl, rfl⟩
  refine au [] ?_
  rw [ex_at1]
  refine au [1, 10, 10, 2, 2, 3, 4, 5, 8] ?_
  refine TK.cl rfl rfl rfl rfl (atApi_ok hT (b := exB) (s := s) (e := e) (n := 0) hse ex_n1 ex_l1) ?_
  rintro r25 K26 ⟨rfl, rfl⟩
  refine au [] ?_
  rw [ex_at0]
  refine au [1, 10, 10, 2, 2, 3, 4, 4, 5, 1, 6, 1, 1, 6, 25, 1, 1, 6, 25, 1, 1, 6, 25, 1, 1, 6, 25, 1, 1, 6, 25, 1, 1, 6, 25, 1, 1, 6, 25, 1, 1, 30, 25, 1, 1, 25, 1, 1, 30, 25, 1, 1, 25, 1, 1, 6, 25, 1, 1] ?_
  refine TK.newR rfl rfl rfl (n_buildSlice (l := [_]) rfl SlEl.h TyZ.h (by decide) (by decide) rfl) (fun _ => putS rfl (by simp only [List.set]; rfl)) fun jd hjd => ?_
  refine TK.cl rfl rfl rfl rfl (callK_frz (same_ok hT [1] (j := jc) (j2 := jd) (fun h => hjd (by subst h; simp [keys])) (ints_at [1] 3 false) (ints_at [1] 3 false) (by decide))) ?_
  rintro r28 K29 ⟨rfl, rfl⟩
  refine au [30, 25, 1, 1, 6, 25, 1, 1, 6, 25, 3, 19, 12, 4] ?_
  refine TK.kp [(j1, _), (0, _), (1, _), (s, _), (e, _)] ?_
  refine au [5, 8] ?_
  refine TK.cl rfl rfl rfl rfl (stepsApi_ok hT (b := exB) (s := s) (e := e) hse ex_n1 ex_l1) ?_
  rintro r31 K32 h33
  rcases h33 with ⟨hb0, rfl, rfl⟩ | ⟨hb0, jp, jq, rfl, rfl⟩
  ·refine au [] ?_
   exact absurd ex_ask hb0
  ·refine au [] ?_
   rw [ex_p1, ex_p0]
   refine au [1, 10, 10] ?_
   refine TK.freezeR 148 rfl (by repeat (first | exact Upd.head | apply Upd.tail)) rfl ?_
   refine au [10, 2, 2, 2, 3, 4, 5, 8] ?_
   refine TK.cl rfl rfl rfl rfl (withinApi_ok hT (b := exB) (s := s) (e := e) (lo := 6) (hi := 1) hse ex_n1 ex_l1) ?_
   rintro r34 K35 ⟨rfl, rfl⟩
   refine au [] ?_
   rw [ex_w]
   refine au [1, 10, 10, 22] ?_
   intro jw hjw
   refine au [17, 2, 3, 4, 5, 8] ?_
   refine TK.cl rfl rfl rfl rfl (narrow_ok tame (b := exB) (s := s) (e := e) hse ex_n1 ex_l1) ?_
   rintro r37 K38 ⟨rfl, rfl⟩
   refine au [] ?_
   rw [ex_n]
   refine au [1, 10, 10, 10, 10, 2, 2, 2, 2, 3, 4, 5, 8] ?_
   refine TK.cl rfl rfl rfl rfl (wrongApi_ok hT (b := exB) (s := s) (e := e) (n := 0) hse ex_n1 ex_l1) ?_
   rintro r40 K41 ⟨rfl, rfl⟩
   refine au [] ?_
   rw [ex_wr]
   refine au [1, 10, 10, 2, 2, 3, 4, 5, 8] ?_
   refine TK.cl rfl rfl rfl rfl (likely_ok hT (b := exB) (s := s) (e := e) hse ex_n1 ex_l1) ?_
   rintro r43 K44 h45
   rcases h45 with ⟨hc0, rfl, rfl⟩ | ⟨hc0, hg0, rfl, rfl⟩ | ⟨hc0, hg0, jl, rfl, rfl⟩
   ·refine au [] ?_
    exact absurd ex_check hc0
   ·refine au [] ?_
    exact absurd hg0 ex_g0
   ·refine au [] ?_
    rw [ex_li]
    refine au [1, 10, 10, 10, 10, 2, 2, 2, 2, 3, 4, 5, 8] ?_
    refine TK.cl rfl rfl rfl rfl (clash_ok hT (b := exB) (s := s) (e := e) hse ex_n1 ex_l1) ?_
    rintro r46 K47 h48
    rcases h48 with ⟨hc0, rfl, rfl⟩ | ⟨hc0, hg0, rfl, rfl⟩ | ⟨hc0, hg0, jk, rfl, rfl⟩
    ·refine au [] ?_
     exact absurd ex_check hc0
    ·refine au [] ?_
     rw [ex_t] at hg0; cases hg0
    ·refine au [] ?_
     rw [ex_cl]
     refine au [1, 10, 10, 2, 2, 3, 4, 4] ?_
     refine TK.kp [(j1, _), (0, _), (1, _), (s, _), (e, _), (jp, _), (jq, _), (jw, _), (jl, _), (jk, _)] ?_
     refine TK.draw [0, 1, 2, 3, 4, 5, 6, 7, 8, 9, 10, 11, 12, 13, 14, 15, 16, 17, 18, 19, 20, 21, 22, 23, 24, 25, 26, 27, 28, 29, 30, 31, 32, 33, 34, 35, 36, 37, 38, 39, 40, 41, 42, 43, 44, 45, 46, 47, 48, 49, 50, 51, 52, 53, 54, 55, 56, 57, 58, 59, 60, 61, 62, 63, 64, 65, 66, 67, 68, 69, 70, 71, 72, 73] [0, 1, 2, 3, 4, 5, 6, 7, 8, 9, 10, 11, 12, 13, 14, 15, 16, 17, 18, 19, 20, 21, 22, 23, 24, 25, 26, 27, 28, 29, 30, 31, 32, 33, 34, 35, 36, 37, 38, 39, 40, 41, 42, 43, 44, 45, 46, 47, 48, 49, 50, 51, 52, 53, 54, 55, 56, 57, 58, 59, 60, 61, 62, 63, 64, 65, 66, 67, 68, 69, 70, 71, 72, 73] (by kernel_rfl) (by kernel_rfl) ?_
     refine TD.z [3] rfl (q_move rfl rfl) ?_
     refine TD.z [179] rfl (q_cmp rfl rfl rfl rfl) ?_
     refine TD.z [180] rfl (q_move rfl rfl) ?_
     refine TD.z [5, 181] rfl (q_move rfl rfl) ?_
     refine TD.z [181, 182] rfl (q_cmp rfl rfl rfl rfl) ?_
     refine TD.z [181, 183] rfl (q_pickF rfl rfl rfl) ?_
     refine TD.z [184] rfl (q_move rfl rfl) ?_
     refine TD.z [7, 185] rfl (q_move rfl rfl) ?_
     refine TD.z [185, 186] rfl (q_cmp rfl rfl rfl rfl) ?_
     refine TD.z [185, 187] rfl (q_pickF rfl rfl rfl) ?_
     refine TD.z [188] rfl (q_move rfl rfl) ?_
     refine TD.z [9, 189] rfl (q_move rfl rfl) ?_
     refine TD.z [189, 190] rfl (q_cmp rfl rfl rfl rfl) ?_
     refine TD.z [189, 191] rfl (q_pickF rfl rfl rfl) ?_
     refine TD.z [192] rfl (q_move rfl rfl) ?_
     refine TD.z [11, 193] rfl (q_move rfl rfl) ?_
     refine TD.z [193, 194] rfl (q_cmp rfl rfl rfl rfl) ?_
     refine TD.z [193, 195] rfl (q_pickF rfl rfl rfl) ?_
     refine TD.z [196] rfl (q_move rfl rfl) ?_
     refine TD.z [13, 197] rfl (q_move rfl rfl) ?_
     refine TD.z [197, 198] rfl (q_cmp rfl rfl rfl rfl) ?_
     refine TD.z [197, 199] rfl (q_pickF rfl rfl rfl) ?_
     refine TD.z [200] rfl (q_move rfl rfl) ?_
     refine TD.z [18, 201] rfl (q_move rfl rfl) ?_
     refine TD.z [201, 202] rfl (q_len rfl rfl rfl Und.h) ?_
     refine TD.z [201, 203] rfl (q_cmp rfl rfl rfl rfl) ?_
     refine TD.z [201, 204] rfl (q_pickF rfl rfl rfl) ?_
     refine TD.z [205] rfl (q_move rfl rfl) ?_
     refine TD.z [19, 206] rfl (q_move rfl rfl) ?_
     refine TD.cnewR (pend' := [Pd.mk 28 [19, 206] [], Pd.mk 26 [201, 204] [], Pd.mk 25 [201, 203] [], Pd.mk 24 [201, 202] [], Pd.mk 23 [18, 201] [], Pd.mk 22 [200] [], Pd.mk 21 [197, 199] [], Pd.mk 20 [197, 198] [], Pd.mk 19 [13, 197] [], Pd.mk 18 [196] [], Pd.mk 17 [193, 195] [], Pd.mk 16 [193, 194] [], Pd.mk 15 [11, 193] [], Pd.mk 14 [192] [], Pd.mk 13 [189, 191] [], Pd.mk 12 [189, 190] [], Pd.mk 11 [9, 189] [], Pd.mk 10 [188] [], Pd.mk 9 [185, 187] [], Pd.mk 8 [185, 186] [], Pd.mk 7 [7, 185] [], Pd.mk 6 [184] [], Pd.mk 5 [181, 183] [], Pd.mk 4 [181, 182] [], Pd.mk 3 [5, 181] [], Pd.mk 2 [180] [], Pd.mk 1 [179] [], Pd.mk 0 [3] []]) [206] rfl rfl rfl (pendS (es := [27]) rfl rfl) rfl (n_buildSlice (l := [_, _, _]) rfl SlEl.h TyZ.h (by decide) (by decide) rfl) (fun _ => putS rfl (by simp only [List.set]; rfl)) (by simp) fun jd1 hjd1 => ?_
     refine TD.cl (pend' := [Pd.mk 26 [201, 204] [], Pd.mk 25 [201, 203] [], Pd.mk 24 [201, 202] [], Pd.mk 23 [18, 201] [], Pd.mk 22 [200] [], Pd.mk 21 [197, 199] [], Pd.mk 20 [197, 198] [], Pd.mk 19 [13, 197] [], Pd.mk 18 [196] [], Pd.mk 17 [193, 195] [], Pd.mk 16 [193, 194] [], Pd.mk 15 [11, 193] [], Pd.mk 14 [192] [], Pd.mk 13 [189, 191] [], Pd.mk 12 [189, 190] [], Pd.mk 11 [9, 189] [], Pd.mk 10 [188] [], Pd.mk 9 [185, 187] [], Pd.mk 8 [185, 186] [], Pd.mk 7 [7, 185] [], Pd.mk 6 [184] [], Pd.mk 5 [181, 183] [], Pd.mk 4 [181, 182] [], Pd.mk 3 [5, 181] [], Pd.mk 2 [180] [], Pd.mk 1 [179] [], Pd.mk 0 [3] []]) [206, 207, 208] rfl (pendS (es := [28, 29, 27, 27]) rfl rfl) rfl rfl rfl (callK_frz (same_ok hT [1, 3, 6] (j := jq) (j2 := jd1) (fun h => hjd1 (by subst h; simp [keys])) (ints_at [1, 3, 6] 3 false) (ints_at [1, 3, 6] 3 false) (by decide))) (fun r49 K50 h51 => ⟨?_, ?_⟩)
     ·rcases h51 with ⟨rfl, rfl⟩
      all_goals simp
     obtain ⟨rfl, rfl⟩ := h51
     try simp only [List.cons_append, List.nil_append]
     refine TD.norm (by simp only [List.set]; rfl) ?_
     refine TD.z [206, 209] rfl (q_not rfl rfl) ?_
     refine TD.z [206, 210] rfl (q_pickF rfl rfl rfl) ?_
     refine TD.z [211] rfl (q_move rfl rfl) ?_
     refine TD.y [20, 212] rfl (hq := q_load rfl rfl TySz.h (List.Mem.head _) rfl) (h := ?_)
     refine TD.cl (pend' := [Pd.mk 34 [20, 212] [(_, _)], Pd.mk 32 [206, 210] [], Pd.mk 31 [206, 209] [], Pd.mk 26 [201, 204] [], Pd.mk 25 [201, 203] [], Pd.mk 24 [201, 202] [], Pd.mk 23 [18, 201] [], Pd.mk 22 [200] [], Pd.mk 21 [197, 199] [], Pd.mk 20 [197, 198] [], Pd.mk 19 [13, 197] [], Pd.mk 18 [196] [], Pd.mk 17 [193, 195] [], Pd.mk 16 [193, 194] [], Pd.mk 15 [11, 193] [], Pd.mk 14 [192] [], Pd.mk 13 [189, 191] [], Pd.mk 12 [189, 190] [], Pd.mk 11 [9, 189] [], Pd.mk 10 [188] [], Pd.mk 9 [185, 187] [], Pd.mk 8 [185, 186] [], Pd.mk 7 [7, 185] [], Pd.mk 6 [184] [], Pd.mk 5 [181, 183] [], Pd.mk 4 [181, 182] [], Pd.mk 3 [5, 181] [], Pd.mk 2 [180] [], Pd.mk 1 [179] [], Pd.mk 0 [3] []]) [212] rfl (pendS (es := [33, 33]) rfl rfl) rfl rfl rfl (to_ok hT) (fun r52 K53 h54 => ⟨?_, ?_⟩)
     ·rcases h54 with ⟨rfl, rfl⟩
      all_goals simp
     obtain ⟨rfl, rfl⟩ := h54
     try simp only [List.cons_append, List.nil_append]
     refine TD.norm (by simp only [List.set]; rfl) ?_
     refine TD.z [212, 213, 214] rfl (q_neqFlat rfl rfl rfl rfl rfl FlatF.h EqG.h) ?_
     refine TD.z [212, 215] rfl (q_pickF rfl rfl rfl) ?_
     refine TD.z [216] rfl (q_move rfl rfl) ?_
     refine TD.z [21, 217] rfl (q_move rfl rfl) ?_
     refine TD.z [217, 218] rfl (q_cmp rfl rfl rfl rfl) ?_
     refine TD.z [217, 219] rfl (q_pickF rfl rfl rfl) ?_
     refine TD.z [220] rfl (q_move rfl rfl) ?_
     refine TD.z [22, 221] rfl (q_move rfl rfl) ?_
     refine TD.z [221, 222] rfl (q_cmp rfl rfl rfl rfl) ?_
     refine TD.z [221, 223] rfl (q_pickF rfl rfl rfl) ?_
     refine TD.z [224] rfl (q_move rfl rfl) ?_
     refine TD.z [23, 225] rfl (q_move rfl rfl) ?_
     refine TD.z [225, 226] rfl (q_not rfl rfl) ?_
     refine TD.z [225, 227] rfl (q_pickF rfl rfl rfl) ?_
     refine TD.z [228] rfl (q_move rfl rfl) ?_
     refine TD.z [24, 229] rfl (q_move rfl rfl) ?_
     refine TD.z [229, 230] rfl (q_cmp rfl rfl rfl rfl) ?_
     refine TD.z [229, 231] rfl (q_pickF rfl rfl rfl) ?_
     refine TD.z [232] rfl (q_move rfl rfl) ?_
     refine TD.z [25, 233] rfl (q_move rfl rfl) ?_
     refine TD.cnewR (pend' := [Pd.mk 55 [25, 233] [], Pd.mk 53 [229, 231] [], Pd.mk 52 [229, 230] [], Pd.mk 51 [24, 229] [], Pd.mk 50 [228] [], Pd.mk 49 [225, 227] [], Pd.mk 48 [225, 226] [], Pd.mk 47 [23, 225] [], Pd.mk 46 [224] [], Pd.mk 45 [221, 223] [], Pd.mk 44 [221, 222] [], Pd.mk 43 [22, 221] [], Pd.mk 42 [220] [], Pd.mk 41 [217, 219] [], Pd.mk 40 [217, 218] [], Pd.mk 39 [21, 217] [], Pd.mk 38 [216] [], Pd.mk 37 [212, 215] [], Pd.mk 36 [212, 213, 214] [], Pd.mk 34 [20, 212] [(_, _)], Pd.mk 32 [206, 210] [], Pd.mk 31 [206, 209] [], Pd.mk 26 [201, 204] [], Pd.mk 25 [201, 203] [], Pd.mk 24 [201, 202] [], Pd.mk 23 [18, 201] [], Pd.mk 22 [200] [], Pd.mk 21 [197, 199] [], Pd.mk 20 [197, 198] [], Pd.mk 19 [13, 197] [], Pd.mk 18 [196] [], Pd.mk 17 [193, 195] [], Pd.mk 16 [193, 194] [], Pd.mk 15 [11, 193] [], Pd.mk 14 [192] [], Pd.mk 13 [189, 191] [], Pd.mk 12 [189, 190] [], Pd.mk 11 [9, 189] [], Pd.mk 10 [188] [], Pd.mk 9 [185, 187] [], Pd.mk 8 [185, 186] [], Pd.mk 7 [7, 185] [], Pd.mk 6 [184] [], Pd.mk 5 [181, 183] [], Pd.mk 4 [181, 182] [], Pd.mk 3 [5, 181] [], Pd.mk 2 [180] [], Pd.mk 1 [179] [], Pd.mk 0 [3] []]) [233] rfl rfl rfl (pendS (es := [54]) rfl rfl) rfl (n_buildSlice (l := [_]) rfl SlEl.h TyZ.h (by decide) (by decide) rfl) (fun _ => putS rfl (by simp only [List.set]; rfl)) (by simp) fun jd2 hjd2 => ?_
     refine TD.cl (pend' := [Pd.mk 53 [229, 231] [], Pd.mk 52 [229, 230] [], Pd.mk 51 [24, 229] [], Pd.mk 50 [228] [], Pd.mk 49 [225, 227] [], Pd.mk 48 [225, 226] [], Pd.mk 47 [23, 225] [], Pd.mk 46 [224] [], Pd.mk 45 [221, 223] [], Pd.mk 44 [221, 222] [], Pd.mk 43 [22, 221] [], Pd.mk 42 [220] [], Pd.mk 41 [217, 219] [], Pd.mk 40 [217, 218] [], Pd.mk 39 [21, 217] [], Pd.mk 38 [216] [], Pd.mk 37 [212, 215] [], Pd.mk 36 [212, 213, 214] [], Pd.mk 34 [20, 212] [(_, _)], Pd.mk 32 [206, 210] [], Pd.mk 31 [206, 209] [], Pd.mk 26 [201, 204] [], Pd.mk 25 [201, 203] [], Pd.mk 24 [201, 202] [], Pd.mk 23 [18, 201] [], Pd.mk 22 [200] [], Pd.mk 21 [197, 199] [], Pd.mk 20 [197, 198] [], Pd.mk 19 [13, 197] [], Pd.mk 18 [196] [], Pd.mk 17 [193, 195] [], Pd.mk 16 [193, 194] [], Pd.mk 15 [11, 193] [], Pd.mk 14 [192] [], Pd.mk 13 [189, 191] [], Pd.mk 12 [189, 190] [], Pd.mk 11 [9, 189] [], Pd.mk 10 [188] [], Pd.mk 9 [185, 187] [], Pd.mk 8 [185, 186] [], Pd.mk 7 [7, 185] [], Pd.mk 6 [184] [], Pd.mk 5 [181, 183] [], Pd.mk 4 [181, 182] [], Pd.mk 3 [5, 181] [], Pd.mk 2 [180] [], Pd.mk 1 [179] [], Pd.mk 0 [3] []]) [233, 234, 235] rfl (pendS (es := [55, 56, 54, 54]) rfl rfl) rfl rfl rfl (callK_frz (same_ok hT [1] (j := jl) (j2 := jd2) (fun h => hjd2 (by subst h; simp [keys])) (ints_at [1] 3 false) (ints_at [1] 3 false) (by decide))) (fun r55 K56 h57 => ⟨?_, ?_⟩)
     ·rcases h57 with ⟨rfl, rfl⟩
      all_goals simp
     obtain ⟨rfl, rfl⟩ := h57
     try simp only [List.cons_append, List.nil_append]
     refine TD.norm (by simp only [List.set]; rfl) ?_
     refine TD.z [233, 236] rfl (q_not rfl rfl) ?_
     refine TD.z [233, 237] rfl (q_pickF rfl rfl rfl) ?_
     refine TD.z [238] rfl (q_move rfl rfl) ?_
     refine TD.z [26, 239] rfl (q_move rfl rfl) ?_
     refine TD.z [239, 240] rfl (q_cmp rfl rfl rfl rfl) ?_
     refine TD.z [239, 241] rfl (q_pickF rfl rfl rfl) ?_
     refine TD.z [242] rfl (q_move rfl rfl) ?_
     refine TD.z [27, 243] rfl (q_move rfl rfl) ?_
     refine TD.z [243, 244] rfl (q_not rfl rfl) ?_
     refine TD.z [243, 245] rfl (q_pickF rfl rfl rfl) ?_
     refine TD.z [246] rfl (q_move rfl rfl) ?_
     refine TD.z [28, 247] rfl (q_move rfl rfl) ?_
     refine TD.cnewR (pend' := [Pd.mk 69 [28, 247] [], Pd.mk 67 [243, 245] [], Pd.mk 66 [243, 244] [], Pd.mk 65 [27, 243] [], Pd.mk 64 [242] [], Pd.mk 63 [239, 241] [], Pd.mk 62 [239, 240] [], Pd.mk 61 [26, 239] [], Pd.mk 60 [238] [], Pd.mk 59 [233, 237] [], Pd.mk 58 [233, 236] [], Pd.mk 53 [229, 231] [], Pd.mk 52 [229, 230] [], Pd.mk 51 [24, 229] [], Pd.mk 50 [228] [], Pd.mk 49 [225, 227] [], Pd.mk 48 [225, 226] [], Pd.mk 47 [23, 225] [], Pd.mk 46 [224] [], Pd.mk 45 [221, 223] [], Pd.mk 44 [221, 222] [], Pd.mk 43 [22, 221] [], Pd.mk 42 [220] [], Pd.mk 41 [217, 219] [], Pd.mk 40 [217, 218] [], Pd.mk 39 [21, 217] [], Pd.mk 38 [216] [], Pd.mk 37 [212, 215] [], Pd.mk 36 [212, 213, 214] [], Pd.mk 34 [20, 212] [(_, _)], Pd.mk 32 [206, 210] [], Pd.mk 31 [206, 209] [], Pd.mk 26 [201, 204] [], Pd.mk 25 [201, 203] [], Pd.mk 24 [201, 202] [], Pd.mk 23 [18, 201] [], Pd.mk 22 [200] [], Pd.mk 21 [197, 199] [], Pd.mk 20 [197, 198] [], Pd.mk 19 [13, 197] [], Pd.mk 18 [196] [], Pd.mk 17 [193, 195] [], Pd.mk 16 [193, 194] [], Pd.mk 15 [11, 193] [], Pd.mk 14 [192] [], Pd.mk 13 [189, 191] [], Pd.mk 12 [189, 190] [], Pd.mk 11 [9, 189] [], Pd.mk 10 [188] [], Pd.mk 9 [185, 187] [], Pd.mk 8 [185, 186] [], Pd.mk 7 [7, 185] [], Pd.mk 6 [184] [], Pd.mk 5 [181, 183] [], Pd.mk 4 [181, 182] [], Pd.mk 3 [5, 181] [], Pd.mk 2 [180] [], Pd.mk 1 [179] [], Pd.mk 0 [3] []]) [247] rfl rfl rfl (pendS (es := [68]) rfl rfl) rfl (n_buildSlice (l := [_, _, _]) rfl SlEl.h TyZ.h (by decide) (by decide) rfl) (fun _ => putS rfl (by simp only [List.set]; rfl)) (by simp) fun jd3 hjd3 => ?_
     refine TD.cl (pend' := [Pd.mk 67 [243, 245] [], Pd.mk 66 [243, 244] [], Pd.mk 65 [27, 243] [], Pd.mk 64 [242] [], Pd.mk 63 [239, 241] [], Pd.mk 62 [239, 240] [], Pd.mk 61 [26, 239] [], Pd.mk 60 [238] [], Pd.mk 59 [233, 237] [], Pd.mk 58 [233, 236] [], Pd.mk 53 [229, 231] [], Pd.mk 52 [229, 230] [], Pd.mk 51 [24, 229] [], Pd.mk 50 [228] [], Pd.mk 49 [225, 227] [], Pd.mk 48 [225, 226] [], Pd.mk 47 [23, 225] [], Pd.mk 46 [224] [], Pd.mk 45 [221, 223] [], Pd.mk 44 [221, 222] [], Pd.mk 43 [22, 221] [], Pd.mk 42 [220] [], Pd.mk 41 [217, 219] [], Pd.mk 40 [217, 218] [], Pd.mk 39 [21, 217] [], Pd.mk 38 [216] [], Pd.mk 37 [212, 215] [], Pd.mk 36 [212, 213, 214] [], Pd.mk 34 [20, 212] [(_, _)], Pd.mk 32 [206, 210] [], Pd.mk 31 [206, 209] [], Pd.mk 26 [201, 204] [], Pd.mk 25 [201, 203] [], Pd.mk 24 [201, 202] [], Pd.mk 23 [18, 201] [], Pd.mk 22 [200] [], Pd.mk 21 [197, 199] [], Pd.mk 20 [197, 198] [], Pd.mk 19 [13, 197] [], Pd.mk 18 [196] [], Pd.mk 17 [193, 195] [], Pd.mk 16 [193, 194] [], Pd.mk 15 [11, 193] [], Pd.mk 14 [192] [], Pd.mk 13 [189, 191] [], Pd.mk 12 [189, 190] [], Pd.mk 11 [9, 189] [], Pd.mk 10 [188] [], Pd.mk 9 [185, 187] [], Pd.mk 8 [185, 186] [], Pd.mk 7 [7, 185] [], Pd.mk 6 [184] [], Pd.mk 5 [181, 183] [], Pd.mk 4 [181, 182] [], Pd.mk 3 [5, 181] [], Pd.mk 2 [180] [], Pd.mk 1 [179] [], Pd.mk 0 [3] []]) [247, 248, 249] rfl (pendS (es := [69, 70, 68, 68]) rfl rfl) rfl rfl rfl (callK_frz (same_ok hT [0, 1, 2] (j := jk) (j2 := jd3) (fun h => hjd3 (by subst h; simp [keys])) (ints_at [0, 1, 2] 3 false) (ints_at [0, 1, 2] 3 false) (by decide))) (fun r58 K59 h60 => ⟨?_, ?_⟩)
     ·rcases h60 with ⟨rfl, rfl⟩
      all_goals simp
     obtain ⟨rfl, rfl⟩ := h60
     try simp only [List.cons_append, List.nil_append]
     refine TD.norm (by simp only [List.set]; rfl) ?_
     refine TD.z [247, 250] rfl (q_not rfl rfl) ?_
     refine TD.z [247, 251] rfl (q_pickF rfl rfl rfl) ?_
     refine TD.fin ?_
     refine au [19, 12, 4] ?_
     refine TK.kp [(j1, _), (0, _), (1, _), (s, _), (e, _)] ?_
     refine au [5, 8] ?_
     refine TK.cl rfl rfl rfl rfl (askApi_ok hT (b := exB) (s := s) (e := e) hse ex_n1 ex_l1) ?_
     rintro r61 K62 ⟨rfl, rfl⟩
     refine au [] ?_
     rw [ex_askA]
     refine au [1, 10, 10, 10, 2, 2, 2, 3, 4, 5, 8] ?_
     refine TK.cl rfl rfl rfl rfl (lendApi_ok hT (b := exB) (s := s) (e := e) hse ex_n1 ex_l1) ?_
     rintro r64 K65 ⟨rfl, rfl⟩
     refine au [] ?_
     rw [ex_lend]
     refine au [1, 10, 10, 10, 2, 2, 2, 3, 4, 5, 8] ?_
     refine TK.cl rfl rfl rfl rfl (give_ok hT (b := exB) (s := s) (e := e) (n := 0) hse ex_n1 ex_l1) ?_
     rintro r67 K68 h69
     rcases h69 with ⟨hb0, rfl, rfl⟩ | ⟨hb0, g3, g2, rfl, rfl⟩
     ·refine au [] ?_
      exact absurd ex_giv hb0
     ·refine au [] ?_
      refine TK.nd fun hnd => ?_
      have hg3 : g3 ≠ g2 := fun h => by subst h; simp [keys] at hnd
      try rw [show (0 : Int).toNat = 0 from rfl]
      refine au [1, 10, 10, 22] ?_
      intro jg hjg
      refine au [17, 2, 3, 4, 5, 8] ?_
      refine TK.cl rfl rfl rfl rfl (statesApi_ok hT (b := giveB exB 0) (s := g3) (e := g2) hg3 ex_n3 ex_l3) ?_
      rintro r70 K71 ⟨rfl, rfl⟩
      refine au [] ?_
      rw [ex_g2]
      refine au [1, 10, 10, 2, 2, 3, 4, 5, 8] ?_
      refine TK.cl rfl rfl rfl rfl (narrow_ok tame (b := giveB exB 0) (s := g3) (e := g2) hg3 ex_n3 ex_l3) ?_
      rintro r73 K74 ⟨rfl, rfl⟩
      refine au [] ?_
      rw [ex_g3]
      refine au [1, 10, 10, 10, 10, 2, 2, 2, 2, 3, 4] ?_
      refine TK.kp [(j1, _), (0, _), (1, _), (s, _), (e, _), (jg, _)] ?_
      refine au [5, 8] ?_
      refine TK.cl rfl rfl rfl rfl (look_ok hT (b := exB) (s := s) (e := e) (n := 3) (sm := true) hse ex_n1 ex_l1) ?_
      rintro r76 K77 h78
      rcases h78 with ⟨hb0, rfl, rfl⟩ | ⟨hb0, l3, l2, rfl, rfl⟩
      ·refine au [] ?_
       exact absurd ex_lk hb0
      ·refine au [] ?_
       refine TK.nd fun hnd => ?_
       have hl3 : l3 ≠ l2 := fun h => by subst h; simp [keys] at hnd
       refine au [1, 10, 10, 17, 2, 3, 4, 5, 8] ?_
       refine TK.cl rfl rfl rfl rfl (statesApi_ok hT (b := lookB exB ⟨3, true⟩) (s := l3) (e := l2) hl3 ex_n4 ex_l4) ?_
       rintro r79 K80 ⟨rfl, rfl⟩
       refine au [] ?_
       rw [ex_lk2]
       refine au [1, 10, 10, 2, 2, 3, 4] ?_
       refine TK.kp [(j1, _), (0, _), (1, _), (s, _), (e, _), (jg, _)] ?_
       refine au [5, 8, 42] ?_
       refine TK.cl rfl rfl rfl rfl (hear_ok hT (b := exB) (s := s) (e := e) (x := exX) hse ex_n1 ex_l1 (by decide)) ?_
       rintro r82 K83 h84
       rcases h84 with ⟨hb0, rfl, rfl⟩ | ⟨hb0, h3, h2, rfl, rfl⟩
       ·refine au [] ?_
        exact absurd ex_hr hb0
       ·refine au [] ?_
        refine TK.nd fun hnd => ?_
        have hh3 : h3 ≠ h2 := fun h => by subst h; simp [keys] at hnd
        refine au [1, 10, 10, 17, 2, 3, 4, 5, 8] ?_
        refine TK.cl rfl rfl rfl rfl (statesApi_ok hT (b := hearB exB exX) (s := h3) (e := h2) hh3 ex_n5 ex_l5) ?_
        rintro r85 K86 ⟨rfl, rfl⟩
        refine au [] ?_
        rw [ex_hr2]
        refine au [1, 10, 10, 2, 2, 3, 4, 4, 5, 1, 6, 1, 1, 6, 25, 1, 1, 6, 25, 1, 1, 6, 25, 1, 1, 6, 25, 1, 1, 6, 25, 1, 1, 6, 25, 1, 1, 6, 25, 1, 1, 6, 25, 1, 1, 6, 25, 1, 1, 6, 25, 1, 1, 6, 25, 1, 1, 6, 25, 1, 1, 6, 25, 1, 1, 6, 25, 1, 1, 6, 25, 1, 1, 30, 25, 1, 1, 6, 25, 1, 1, 6, 25, 3, 19, 12, 4] ?_
        refine TK.kp [(j1, _), (0, _), (1, _), (s, _), (e, _)] ?_
        refine au [5] ?_
        refine TK.cl rfl rfl rfl rfl (one_ok2 hT) ?_
        rintro r88 K89 ⟨rfl, rfl⟩
        refine au [7, 17, 3, 4, 5, 8] ?_
        refine TK.cl rfl rfl rfl rfl (statesApi_ok hT (b := exB2) (s := s) (e := e) hse ex_n2 ex_l2) ?_
        rintro r91 K92 ⟨rfl, rfl⟩
        refine au [] ?_
        rw [ex2_st]
        refine au [1, 10, 10, 2, 2, 3, 4, 5, 8] ?_
        refine TK.cl rfl rfl rfl rfl (likely_ok hT (b := exB2) (s := s) (e := e) hse ex_n2 ex_l2) ?_
        rintro r94 K95 h96
        rcases h96 with ⟨hc0, rfl, rfl⟩ | ⟨hc0, hg0, rfl, rfl⟩ | ⟨hc0, hg0, jl2, rfl, rfl⟩
        ·refine au [] ?_
         exact absurd ex2_ck hc0
        ·refine au [] ?_
         exact absurd hg0 ex2_g
        ·refine au [] ?_
         rw [ex2_li]
         refine au [1, 10, 10, 10, 10, 2, 2, 2, 2, 3, 4, 5, 8] ?_
         refine TK.cl rfl rfl rfl rfl (clash_ok hT (b := exB2) (s := s) (e := e) hse ex_n2 ex_l2) ?_
         rintro r97 K98 h99
         rcases h99 with ⟨hc0, rfl, rfl⟩ | ⟨hc0, hg0, rfl, rfl⟩ | ⟨hc0, hg0, jk2, rfl, rfl⟩
         ·refine au [] ?_
          exact absurd ex2_ck hc0
         ·refine au [1, 10, 10, 2, 2, 3, 4, 5, 1, 6, 1, 1, 6, 26, 1, 1, 6, 26, 1, 1, 6, 26, 1, 1] ?_
          refine TK.newR rfl rfl rfl (n_buildSlice (l := [_, _]) rfl SlEl.h TyZ.h (by decide) (by decide) rfl) (fun _ => putS rfl (by simp only [List.set]; rfl)) fun jd4 hjd4 => ?_
          refine TK.cl rfl rfl rfl rfl (callK_frz (same_ok hT [1, 6] (j := jl2) (j2 := jd4) (fun h => hjd4 (by subst h; simp [keys])) (ints_at [1, 6] 3 false) (ints_at [1, 6] 3 false) (by decide))) ?_
          rintro r100 K101 ⟨rfl, rfl⟩
          refine au [26, 1, 1, 6, 26, 1, 1, 26, 1, 1, 28, 6, 26, 2, 3] ?_
          refine TK.rt hret [(0, _), (1, _)] ?_
          exact ⟨rfl, rfl⟩
         ·refine au [] ?_
          rw [ex2_t] at hg0; cases hg0
end Go.Vel
end
