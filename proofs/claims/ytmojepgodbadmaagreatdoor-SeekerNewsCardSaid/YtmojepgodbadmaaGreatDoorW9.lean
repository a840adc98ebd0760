/- Texts for the statements of chapter 9: what all of them need, part 10. It holds of every program, tape and world that the statements name, as each theorem says. -/
import Derived.Shelf.Sort.Plain
import Derived.Shelf.Slices.CompactI
import Derived.Shelf.Slices.In.SortNone
import Derived.Sort.OwnSortedInts
import Derived.Test.YtmojepgodbadmaaGreatDoorW8
section
set_option linter.all false
namespace Go.Vel
open Go Go.Conc Go.Proofs

section
variable {P : Program} {gm : Nat → Option Nat} {T : Goroutine → Hp → Prop} {Y : KX P gm T} {ds : List Nat} {k : List Item} {env : List AV} {K : KV}
theorem TK.share {c : Code} (E : Nat → Nat → Nat → Nat → List AV) (KK : Nat → Nat → Nat → Nat → KV) (h : (∀ a b c d, TK Y ds k (E a b c d) (KK a b c d)) → TK Y ds (.code c :: k) env K) (hc : ∀ a b c d, TK Y ds k (E a b c d) (KK a b c d)) : TK Y ds (.code c :: k) env K := h hc
end
def narrowApi (b : Bk) : (Int × Int) × Bool × Int := if askM b true ≠ 0 then ((0, 0), false, askM b true) else if arcsOf b (List.range b.steps.toNat) = [] then ((0, 0), false, 0) else (narrowM b, true, 0)
theorem flat_ne {Ls : List (List Int)} (h : Ls ≠ []) : Ls.flatMap seamsC ≠ [] := by
  cases Ls with
  | nil => exact absurd rfl h
  | cons S Ls => rw [List.flatMap_cons]; unfold seamsC; simp
theorem msgN_or (b : Bk) (cg cn i : Nat) : (msgN b cg cn i).1 = cg ∨ (msgN b cg cn i).1 = cn := by
  unfold msgN; split
  · exact .inl rfl
  · exact .inr rfl
theorem msgN_S {b : Bk} {cg cn q w : Nat} (h : arcK b q = some w) : msgN b cg cn q = (cg, .agg #[.int .i64 q, .int .i64 ((w : Int) + 1)]) ∧ arcA b q = some ((q : Int), (w : Int) + 1) := by
  unfold msgN arcA; rw [h]; exact ⟨rfl, rfl⟩
theorem msgN_N {b : Bk} {cg cn q : Nat} (h : arcK b q = none) : msgN b cg cn q = (cn, .bool true) ∧ arcA b q = none := by
  unfold msgN arcA; rw [h]; exact ⟨rfl, rfl⟩


set_option maxRecDepth 20000 in
set_option maxHeartbeats 8000000 in
theorem narrow_ok (tame : Tame Tryz.prog) {Ψ : Goroutine → World → Prop} {b : Bk} {s e : Nat} (hse : s ≠ e) (hn : ∀ x ∈ b.seekers, x.name.size ≤ 1000) (hl : b.seen.length ≤ 1000) : CallK Tryz.prog (BT Tryz.prog Ψ) gmS 26 [.agg (bookC b s e)] [(0, checksG), (1, saysG), (s, saysO b), (e, seenO b)] (fun r K' => r = .tup [intA (narrowApi b).1.1, intA (narrowApi b).1.2, boolA (narrowApi b).2.1, intA (narrowApi b).2.2] ∧ K' = [(0, checksG), (1, saysG), (s, saysO b), (e, seenO b)]) := by
  have hT := shut_BT tame Ψ
  refine callK_in 59 hT Tryz.func26 fun Y hret => ?_
  refine au [4, 5, 21] ?_
  intro jb hjb
  refine au [2, 2, 2, 2, 3, 4, 5, 8] ?_
  refine TK.cl rfl rfl rfl rfl (askR_ok hT (b := b) (s := s) (e := e) (t := true) hse hn hl rfl (fun hb => callFK_fn Cal.h (always_ok hT))) ?_
  rintro r1 K2 h3
  rcases h3 with ⟨hb0, rfl, rfl⟩ | ⟨jl, jm, om, hb0, hom, rfl, rfl⟩
  · refine au [1, 10, 10, 22] ?_
    intro jx hjx
    refine au [17, 2, 3, 4, 4, 5, 1, 6, 3, 20] ?_
    refine ⟨fun hc0 => ?_, fun hc0 => ?_⟩
    · 
      refine au [4, 5, 1, 2, 2, 2, 2, 3] ?_
      refine TK.rt hret [(0, _), (1, _), (s, _), (e, _)] ?_
      exact ⟨by unfold narrowApi; rw [if_pos hb0]; rfl, rfl⟩
    exact absurd (by simpa using hc0) hb0
  · refine au [1, 10, 10, 22] ?_
    intro jx hjx
    refine au [17, 2, 3, 4, 4, 5, 1, 6, 3, 20] ?_
    refine ⟨fun hc0 => ?_, fun hc0 => ?_⟩
    · exact absurd hc0 (by decide)
    obtain ⟨hck, hth, hne⟩ := ask_zero hb0
    have hb := bkOk_of hck
    have hLo := statesM_ok hb
    have hLn := statesM_len hb
    refine au [12, 4] ?_
    refine TK.share (fun jc1 jc2 j7 j8 => slotsA 59 [(1, .ptr jb 0), (6, .ptr jx 0), (7, .ptr j7 0), (8, .ptr j8 0)]) (fun jc1 jc2 j7 j8 => (jc1, .raw (.chan 0 #[] false 0 0 false)) :: (jc2, .raw (.chan 0 #[] false 0 0 false)) :: (j7, .cells [.chan jc1] 111 true) :: (j8, .cells [.chan jc2] 112 true) :: (jx, .cells (knownC b s e (.row jl (statesM b).length) jm) 97 true) :: (jb, .cells (bookC b s e) 27 true) :: (jl, rowO (statesM b)) :: (0, checksG) :: (1, saysG) :: (s, saysO b) :: (e, seenO b) :: []) (fun hcont => ?_) (fun jc1 jc2 j7 j8 => ?_)
    · refine TK.draw [0, 1, 2, 3, 4, 5] [0, 1, 2, 3, 4, 5] (by kernel_rfl) (by kernel_rfl) ?_
      refine TD.cM [0, 1, 2, 3] rfl ?_
      intro mm hmm
      simp only [List.mem_cons, List.not_mem_nil, or_false] at hmm
      rcases hmm with rfl | rfl | rfl | rfl
      · refine ⟨[], _, [], [1, 2, 3, 4, 5], rfl, rfl, rfl, rfl, ?_⟩
        refine exK_newC (envf := fun _ => [_, _, _, _, _, _, _, _, _, _, _, _, _, _, _, _, _, _, _, _, _, _, _, _, _, _, _, _, _, _, _, _, _, _, _, _, _, _, _, _, _, _, _, _, _, _, _, _, _, _, _, _, _, _, _, _, _, _, _]) rfl (n_makeChan rfl Und.h InfO.h) (fun _ => rfl) (by simp) fun jc1 hjc1 => ?_
        refine TD.cM [1, 2, 3] rfl ?_
        intro mm hmm
        simp only [List.mem_cons, List.not_mem_nil, or_false] at hmm
        rcases hmm with rfl | rfl | rfl
        · refine ⟨[], _, [], [2, 3, 4, 5], rfl, rfl, rfl, rfl, ?_⟩
          refine exK_newC (envf := fun _ => [_, _, _, _, _, _, _, _, _, _, _, _, _, _, _, _, _, _, _, _, _, _, _, _, _, _, _, _, _, _, _, _, _, _, _, _, _, _, _, _, _, _, _, _, _, _, _, _, _, _, _, _, _, _, _, _, _, _, _]) rfl (n_makeChan rfl Und.h InfO.h) (fun _ => rfl) (by simp) fun jc2 hjc2 => ?_
          refine TD.c2 (i1 := 2) (i2 := 3) (pend1 := []) (pend2 := []) (L1 := [3, 4, 5]) (L2 := [2, 4, 5]) [] [] rfl rfl rfl rfl rfl rfl rfl ?_ ?_
          · refine exK_newP (envf := fun _ => [_, _, _, _, _, _, _, _, _, _, _, _, _, _, _, _, _, _, _, _, _, _, _, _, _, _, _, _, _, _, _, _, _, _, _, _, _, _, _, _, _, _, _, _, _, _, _, _, _, _, _, _, _, _, _, _, _, _, _]) rfl (n_allocA rfl TyZA.h) (fun _ => rfl) (by simp) fun j7 hj7 => ?_
            refine TD.cnewP (pend' := []) [] rfl rfl rfl rfl rfl (n_allocA rfl TyZA.h) (fun _ => putS rfl (by simp only [List.set]; rfl)) (by simp) fun j8 hj8 => ?_
            refine TD.cst (env' := [_, _, _, _, _, _, _, _, _, _, _, _, _, _, _, _, _, _, _, _, _, _, _, _, _, _, _, _, _, _, _, _, _, _, _, _, _, _, _, _, _, _, _, _, _, _, _, _, _, _, _, _, _, _, _, _, _, _, _]) (pend' := []) [7, 21] rfl rfl rfl rfl rfl (q_store rfl rfl TySz.h rfl rfl (by repeat (first | exact List.Mem.head _ | assumption | apply List.Mem.tail)) rfl) (by repeat (first | exact Upd.head | apply Upd.tail)) rfl (by simp) ?_
            refine TD.cst (env' := [_, _, _, _, _, _, _, _, _, _, _, _, _, _, _, _, _, _, _, _, _, _, _, _, _, _, _, _, _, _, _, _, _, _, _, _, _, _, _, _, _, _, _, _, _, _, _, _, _, _, _, _, _, _, _, _, _, _, _]) (pend' := []) [8, 22] rfl rfl rfl rfl rfl (q_store rfl rfl TySz.h rfl rfl (by repeat (first | exact List.Mem.head _ | assumption | apply List.Mem.tail)) rfl) (by repeat (first | exact Upd.head | apply Upd.tail)) rfl (by simp) ?_
            refine TD.fin ?_
            refine TK.maskL [1, 6, 7, 8] ?_
            refine TK.kp ((jc1, _) :: (jc2, _) :: (j7, _) :: (j8, _) :: (jx, _) :: (jb, _) :: (jl, _) :: (0, _) :: (1, _) :: (s, _) :: (e, _) :: []) ?_
            exact hcont jc1 jc2 j7 j8
          · refine exK_newP (envf := fun _ => [_, _, _, _, _, _, _, _, _, _, _, _, _, _, _, _, _, _, _, _, _, _, _, _, _, _, _, _, _, _, _, _, _, _, _, _, _, _, _, _, _, _, _, _, _, _, _, _, _, _, _, _, _, _, _, _, _, _, _]) rfl (n_allocA rfl TyZA.h) (fun _ => rfl) (by simp) fun j8 hj8 => ?_
            refine TD.cnewP (pend' := []) [] rfl rfl rfl rfl rfl (n_allocA rfl TyZA.h) (fun _ => putS rfl (by simp only [List.set]; rfl)) (by simp) fun j7 hj7 => ?_
            refine TD.cst (env' := [_, _, _, _, _, _, _, _, _, _, _, _, _, _, _, _, _, _, _, _, _, _, _, _, _, _, _, _, _, _, _, _, _, _, _, _, _, _, _, _, _, _, _, _, _, _, _, _, _, _, _, _, _, _, _, _, _, _, _]) (pend' := []) [7, 21] rfl rfl rfl rfl rfl (q_store rfl rfl TySz.h rfl rfl (by repeat (first | exact List.Mem.head _ | assumption | apply List.Mem.tail)) rfl) (by repeat (first | exact Upd.head | apply Upd.tail)) rfl (by simp) ?_
            refine TD.cst (env' := [_, _, _, _, _, _, _, _, _, _, _, _, _, _, _, _, _, _, _, _, _, _, _, _, _, _, _, _, _, _, _, _, _, _, _, _, _, _, _, _, _, _, _, _, _, _, _, _, _, _, _, _, _, _, _, _, _, _, _]) (pend' := []) [8, 22] rfl rfl rfl rfl rfl (q_store rfl rfl TySz.h rfl rfl (by repeat (first | exact List.Mem.head _ | assumption | apply List.Mem.tail)) rfl) (by repeat (first | exact Upd.head | apply Upd.tail)) rfl (by simp) ?_
            refine TD.fin ?_
            refine TK.maskL [1, 6, 7, 8] ?_
            refine TK.kp ((jc1, _) :: (jc2, _) :: (j7, _) :: (j8, _) :: (jx, _) :: (jb, _) :: (jl, _) :: (0, _) :: (1, _) :: (s, _) :: (e, _) :: []) ?_
            exact hcont jc1 jc2 j7 j8
        · refine ⟨[], _, [], [1, 3, 4, 5], rfl, rfl, rfl, rfl, ?_⟩
          refine exK_newP (envf := fun _ => [_, _, _, _, _, _, _, _, _, _, _, _, _, _, _, _, _, _, _, _, _, _, _, _, _, _, _, _, _, _, _, _, _, _, _, _, _, _, _, _, _, _, _, _, _, _, _, _, _, _, _, _, _, _, _, _, _, _, _]) rfl (n_allocA rfl TyZA.h) (fun _ => rfl) (by simp) fun j7 hj7 => ?_
          refine TD.c2 (i1 := 1) (i2 := 3) (pend1 := []) (pend2 := []) (L1 := [3, 4, 5]) (L2 := [1, 4, 5]) [] [] rfl rfl rfl rfl rfl rfl rfl ?_ ?_
          · refine exK_newC (envf := fun _ => [_, _, _, _, _, _, _, _, _, _, _, _, _, _, _, _, _, _, _, _, _, _, _, _, _, _, _, _, _, _, _, _, _, _, _, _, _, _, _, _, _, _, _, _, _, _, _, _, _, _, _, _, _, _, _, _, _, _, _]) rfl (n_makeChan rfl Und.h InfO.h) (fun _ => rfl) (by simp) fun jc2 hjc2 => ?_
            refine TD.cnewP (pend' := []) [] rfl rfl rfl rfl rfl (n_allocA rfl TyZA.h) (fun _ => putS rfl (by simp only [List.set]; rfl)) (by simp) fun j8 hj8 => ?_
            refine TD.cst (env' := [_, _, _, _, _, _, _, _, _, _, _, _, _, _, _, _, _, _, _, _, _, _, _, _, _, _, _, _, _, _, _, _, _, _, _, _, _, _, _, _, _, _, _, _, _, _, _, _, _, _, _, _, _, _, _, _, _, _, _]) (pend' := []) [7, 21] rfl rfl rfl rfl rfl (q_store rfl rfl TySz.h rfl rfl (by repeat (first | exact List.Mem.head _ | assumption | apply List.Mem.tail)) rfl) (by repeat (first | exact Upd.head | apply Upd.tail)) rfl (by simp) ?_
            refine TD.cst (env' := [_, _, _, _, _, _, _, _, _, _, _, _, _, _, _, _, _, _, _, _, _, _, _, _, _, _, _, _, _, _, _, _, _, _, _, _, _, _, _, _, _, _, _, _, _, _, _, _, _, _, _, _, _, _, _, _, _, _, _]) (pend' := []) [8, 22] rfl rfl rfl rfl rfl (q_store rfl rfl TySz.h rfl rfl (by repeat (first | exact List.Mem.head _ | assumption | apply List.Mem.tail)) rfl) (by repeat (first | exact Upd.head | apply Upd.tail)) rfl (by simp) ?_
            refine TD.fin ?_
            refine TK.maskL [1, 6, 7, 8] ?_
            refine TK.kp ((jc1, _) :: (jc2, _) :: (j7, _) :: (j8, _) :: (jx, _) :: (jb, _) :: (jl, _) :: (0, _) :: (1, _) :: (s, _) :: (e, _) :: []) ?_
            exact hcont jc1 jc2 j7 j8
          · refine exK_newP (envf := fun _ => [_, _, _, _, _, _, _, _, _, _, _, _, _, _, _, _, _, _, _, _, _, _, _, _, _, _, _, _, _, _, _, _, _, _, _, _, _, _, _, _, _, _, _, _, _, _, _, _, _, _, _, _, _, _, _, _, _, _, _]) rfl (n_allocA rfl TyZA.h) (fun _ => rfl) (by simp) fun j8 hj8 => ?_
            refine TD.c2 (i1 := 1) (i2 := 4) (pend1 := []) (pend2 := []) (L1 := [4, 5]) (L2 := [1, 5]) [] [7, 21] rfl rfl rfl rfl rfl rfl rfl ?_ ?_
            · refine exK_newC (envf := fun _ => [_, _, _, _, _, _, _, _, _, _, _, _, _, _, _, _, _, _, _, _, _, _, _, _, _, _, _, _, _, _, _, _, _, _, _, _, _, _, _, _, _, _, _, _, _, _, _, _, _, _, _, _, _, _, _, _, _, _, _]) rfl (n_makeChan rfl Und.h InfO.h) (fun _ => rfl) (by simp) fun jc2 hjc2 => ?_
              refine TD.cst (env' := [_, _, _, _, _, _, _, _, _, _, _, _, _, _, _, _, _, _, _, _, _, _, _, _, _, _, _, _, _, _, _, _, _, _, _, _, _, _, _, _, _, _, _, _, _, _, _, _, _, _, _, _, _, _, _, _, _, _, _]) (pend' := []) [7, 21] rfl rfl rfl rfl rfl (q_store rfl rfl TySz.h rfl rfl (by repeat (first | exact List.Mem.head _ | assumption | apply List.Mem.tail)) rfl) (by repeat (first | exact Upd.head | apply Upd.tail)) rfl (by simp) ?_
              refine TD.cst (env' := [_, _, _, _, _, _, _, _, _, _, _, _, _, _, _, _, _, _, _, _, _, _, _, _, _, _, _, _, _, _, _, _, _, _, _, _, _, _, _, _, _, _, _, _, _, _, _, _, _, _, _, _, _, _, _, _, _, _, _]) (pend' := []) [8, 22] rfl rfl rfl rfl rfl (q_store rfl rfl TySz.h rfl rfl (by repeat (first | exact List.Mem.head _ | assumption | apply List.Mem.tail)) rfl) (by repeat (first | exact Upd.head | apply Upd.tail)) rfl (by simp) ?_
              refine TD.fin ?_
              refine TK.maskL [1, 6, 7, 8] ?_
              refine TK.kp ((jc1, _) :: (jc2, _) :: (j7, _) :: (j8, _) :: (jx, _) :: (jb, _) :: (jl, _) :: (0, _) :: (1, _) :: (s, _) :: (e, _) :: []) ?_
              exact hcont jc1 jc2 j7 j8
            · refine exK_st (env' := [_, _, _, _, _, _, _, _, _, _, _, _, _, _, _, _, _, _, _, _, _, _, _, _, _, _, _, _, _, _, _, _, _, _, _, _, _, _, _, _, _, _, _, _, _, _, _, _, _, _, _, _, _, _, _, _, _, _, _]) rfl (q_store rfl rfl TySz.h rfl rfl (by repeat (first | exact List.Mem.head _ | assumption | apply List.Mem.tail)) rfl) (by repeat (first | exact Upd.head | apply Upd.tail)) rfl (by simp) ?_
              refine TD.c (pend' := []) [] rfl rfl rfl rfl (exK_newC (envf := fun _ => [_, _, _, _, _, _, _, _, _, _, _, _, _, _, _, _, _, _, _, _, _, _, _, _, _, _, _, _, _, _, _, _, _, _, _, _, _, _, _, _, _, _, _, _, _, _, _, _, _, _, _, _, _, _, _, _, _, _, _]) rfl (n_makeChan rfl Und.h InfO.h) (fun _ => rfl) (by simp) fun jc2 hjc2 => ?_)
              refine TD.cst (env' := [_, _, _, _, _, _, _, _, _, _, _, _, _, _, _, _, _, _, _, _, _, _, _, _, _, _, _, _, _, _, _, _, _, _, _, _, _, _, _, _, _, _, _, _, _, _, _, _, _, _, _, _, _, _, _, _, _, _, _]) (pend' := []) [8, 22] rfl rfl rfl rfl rfl (q_store rfl rfl TySz.h rfl rfl (by repeat (first | exact List.Mem.head _ | assumption | apply List.Mem.tail)) rfl) (by repeat (first | exact Upd.head | apply Upd.tail)) rfl (by simp) ?_
              refine TD.fin ?_
              refine TK.maskL [1, 6, 7, 8] ?_
              refine TK.kp ((jc1, _) :: (jc2, _) :: (j7, _) :: (j8, _) :: (jx, _) :: (jb, _) :: (jl, _) :: (0, _) :: (1, _) :: (s, _) :: (e, _) :: []) ?_
              exact hcont jc1 jc2 j7 j8
        · refine ⟨[], _, [], [1, 2, 4, 5], rfl, rfl, rfl, rfl, ?_⟩
          refine exK_newP (envf := fun _ => [_, _, _, _, _, _, _, _, _, _, _, _, _, _, _, _, _, _, _, _, _, _, _, _, _, _, _, _, _, _, _, _, _, _, _, _, _, _, _, _, _, _, _, _, _, _, _, _, _, _, _, _, _, _, _, _, _, _, _]) rfl (n_allocA rfl TyZA.h) (fun _ => rfl) (by simp) fun j8 hj8 => ?_
          refine TD.c2 (i1 := 1) (i2 := 2) (pend1 := []) (pend2 := []) (L1 := [2, 4, 5]) (L2 := [1, 4, 5]) [] [] rfl rfl rfl rfl rfl rfl rfl ?_ ?_
          · refine exK_newC (envf := fun _ => [_, _, _, _, _, _, _, _, _, _, _, _, _, _, _, _, _, _, _, _, _, _, _, _, _, _, _, _, _, _, _, _, _, _, _, _, _, _, _, _, _, _, _, _, _, _, _, _, _, _, _, _, _, _, _, _, _, _, _]) rfl (n_makeChan rfl Und.h InfO.h) (fun _ => rfl) (by simp) fun jc2 hjc2 => ?_
            refine TD.cnewP (pend' := []) [] rfl rfl rfl rfl rfl (n_allocA rfl TyZA.h) (fun _ => putS rfl (by simp only [List.set]; rfl)) (by simp) fun j7 hj7 => ?_
            refine TD.cst (env' := [_, _, _, _, _, _, _, _, _, _, _, _, _, _, _, _, _, _, _, _, _, _, _, _, _, _, _, _, _, _, _, _, _, _, _, _, _, _, _, _, _, _, _, _, _, _, _, _, _, _, _, _, _, _, _, _, _, _, _]) (pend' := []) [7, 21] rfl rfl rfl rfl rfl (q_store rfl rfl TySz.h rfl rfl (by repeat (first | exact List.Mem.head _ | assumption | apply List.Mem.tail)) rfl) (by repeat (first | exact Upd.head | apply Upd.tail)) rfl (by simp) ?_
            refine TD.cst (env' := [_, _, _, _, _, _, _, _, _, _, _, _, _, _, _, _, _, _, _, _, _, _, _, _, _, _, _, _, _, _, _, _, _, _, _, _, _, _, _, _, _, _, _, _, _, _, _, _, _, _, _, _, _, _, _, _, _, _, _]) (pend' := []) [8, 22] rfl rfl rfl rfl rfl (q_store rfl rfl TySz.h rfl rfl (by repeat (first | exact List.Mem.head _ | assumption | apply List.Mem.tail)) rfl) (by repeat (first | exact Upd.head | apply Upd.tail)) rfl (by simp) ?_
            refine TD.fin ?_
            refine TK.maskL [1, 6, 7, 8] ?_
            refine TK.kp ((jc1, _) :: (jc2, _) :: (j7, _) :: (j8, _) :: (jx, _) :: (jb, _) :: (jl, _) :: (0, _) :: (1, _) :: (s, _) :: (e, _) :: []) ?_
            exact hcont jc1 jc2 j7 j8
          · refine exK_newP (envf := fun _ => [_, _, _, _, _, _, _, _, _, _, _, _, _, _, _, _, _, _, _, _, _, _, _, _, _, _, _, _, _, _, _, _, _, _, _, _, _, _, _, _, _, _, _, _, _, _, _, _, _, _, _, _, _, _, _, _, _, _, _]) rfl (n_allocA rfl TyZA.h) (fun _ => rfl) (by simp) fun j7 hj7 => ?_
            refine TD.c2 (i1 := 1) (i2 := 4) (pend1 := []) (pend2 := []) (L1 := [4, 5]) (L2 := [1, 5]) [] [7, 21] rfl rfl rfl rfl rfl rfl rfl ?_ ?_
            · refine exK_newC (envf := fun _ => [_, _, _, _, _, _, _, _, _, _, _, _, _, _, _, _, _, _, _, _, _, _, _, _, _, _, _, _, _, _, _, _, _, _, _, _, _, _, _, _, _, _, _, _, _, _, _, _, _, _, _, _, _, _, _, _, _, _, _]) rfl (n_makeChan rfl Und.h InfO.h) (fun _ => rfl) (by simp) fun jc2 hjc2 => ?_
              refine TD.cst (env' := [_, _, _, _, _, _, _, _, _, _, _, _, _, _, _, _, _, _, _, _, _, _, _, _, _, _, _, _, _, _, _, _, _, _, _, _, _, _, _, _, _, _, _, _, _, _, _, _, _, _, _, _, _, _, _, _, _, _, _]) (pend' := []) [7, 21] rfl rfl rfl rfl rfl (q_store rfl rfl TySz.h rfl rfl (by repeat (first | exact List.Mem.head _ | assumption | apply List.Mem.tail)) rfl) (by repeat (first | exact Upd.head | apply Upd.tail)) rfl (by simp) ?_
              refine TD.cst (env' := [_, _, _, _, _, _, _, _, _, _, _, _, _, _, _, _, _, _, _, _, _, _, _, _, _, _, _, _, _, _, _, _, _, _, _, _, _, _, _, _, _, _, _, _, _, _, _, _, _, _, _, _, _, _, _, _, _, _, _]) (pend' := []) [8, 22] rfl rfl rfl rfl rfl (q_store rfl rfl TySz.h rfl rfl (by repeat (first | exact List.Mem.head _ | assumption | apply List.Mem.tail)) rfl) (by repeat (first | exact Upd.head | apply Upd.tail)) rfl (by simp) ?_
              refine TD.fin ?_
              refine TK.maskL [1, 6, 7, 8] ?_
              refine TK.kp ((jc1, _) :: (jc2, _) :: (j7, _) :: (j8, _) :: (jx, _) :: (jb, _) :: (jl, _) :: (0, _) :: (1, _) :: (s, _) :: (e, _) :: []) ?_
              exact hcont jc1 jc2 j7 j8
            · refine exK_st (env' := [_, _, _, _, _, _, _, _, _, _, _, _, _, _, _, _, _, _, _, _, _, _, _, _, _, _, _, _, _, _, _, _, _, _, _, _, _, _, _, _, _, _, _, _, _, _, _, _, _, _, _, _, _, _, _, _, _, _, _]) rfl (q_store rfl rfl TySz.h rfl rfl (by repeat (first | exact List.Mem.head _ | assumption | apply List.Mem.tail)) rfl) (by repeat (first | exact Upd.head | apply Upd.tail)) rfl (by simp) ?_
              refine TD.c (pend' := []) [] rfl rfl rfl rfl (exK_newC (envf := fun _ => [_, _, _, _, _, _, _, _, _, _, _, _, _, _, _, _, _, _, _, _, _, _, _, _, _, _, _, _, _, _, _, _, _, _, _, _, _, _, _, _, _, _, _, _, _, _, _, _, _, _, _, _, _, _, _, _, _, _, _]) rfl (n_makeChan rfl Und.h InfO.h) (fun _ => rfl) (by simp) fun jc2 hjc2 => ?_)
              refine TD.cst (env' := [_, _, _, _, _, _, _, _, _, _, _, _, _, _, _, _, _, _, _, _, _, _, _, _, _, _, _, _, _, _, _, _, _, _, _, _, _, _, _, _, _, _, _, _, _, _, _, _, _, _, _, _, _, _, _, _, _, _, _]) (pend' := []) [8, 22] rfl rfl rfl rfl rfl (q_store rfl rfl TySz.h rfl rfl (by repeat (first | exact List.Mem.head _ | assumption | apply List.Mem.tail)) rfl) (by repeat (first | exact Upd.head | apply Upd.tail)) rfl (by simp) ?_
              refine TD.fin ?_
              refine TK.maskL [1, 6, 7, 8] ?_
              refine TK.kp ((jc1, _) :: (jc2, _) :: (j7, _) :: (j8, _) :: (jx, _) :: (jb, _) :: (jl, _) :: (0, _) :: (1, _) :: (s, _) :: (e, _) :: []) ?_
              exact hcont jc1 jc2 j7 j8
      · refine ⟨[], _, [], [0, 2, 3, 4, 5], rfl, rfl, rfl, rfl, ?_⟩
        refine exK_newC (envf := fun _ => [_, _, _, _, _, _, _, _, _, _, _, _, _, _, _, _, _, _, _, _, _, _, _, _, _, _, _, _, _, _, _, _, _, _, _, _, _, _, _, _, _, _, _, _, _, _, _, _, _, _, _, _, _, _, _, _, _, _, _]) rfl (n_makeChan rfl Und.h InfO.h) (fun _ => rfl) (by simp) fun jc2 hjc2 => ?_
        refine TD.cM [0, 2, 3] rfl ?_
        intro mm hmm
        simp only [List.mem_cons, List.not_mem_nil, or_false] at hmm
        rcases hmm with rfl | rfl | rfl
        · refine ⟨[], _, [], [2, 3, 4, 5], rfl, rfl, rfl, rfl, ?_⟩
          refine exK_newC (envf := fun _ => [_, _, _, _, _, _, _, _, _, _, _, _, _, _, _, _, _, _, _, _, _, _, _, _, _, _, _, _, _, _, _, _, _, _, _, _, _, _, _, _, _, _, _, _, _, _, _, _, _, _, _, _, _, _, _, _, _, _, _]) rfl (n_makeChan rfl Und.h InfO.h) (fun _ => rfl) (by simp) fun jc1 hjc1 => ?_
          refine TD.c2 (i1 := 2) (i2 := 3) (pend1 := []) (pend2 := []) (L1 := [3, 4, 5]) (L2 := [2, 4, 5]) [] [] rfl rfl rfl rfl rfl rfl rfl ?_ ?_
          · refine exK_newP (envf := fun _ => [_, _, _, _, _, _, _, _, _, _, _, _, _, _, _, _, _, _, _, _, _, _, _, _, _, _, _, _, _, _, _, _, _, _, _, _, _, _, _, _, _, _, _, _, _, _, _, _, _, _, _, _, _, _, _, _, _, _, _]) rfl (n_allocA rfl TyZA.h) (fun _ => rfl) (by simp) fun j7 hj7 => ?_
            refine TD.cnewP (pend' := []) [] rfl rfl rfl rfl rfl (n_allocA rfl TyZA.h) (fun _ => putS rfl (by simp only [List.set]; rfl)) (by simp) fun j8 hj8 => ?_
            refine TD.cst (env' := [_, _, _, _, _, _, _, _, _, _, _, _, _, _, _, _, _, _, _, _, _, _, _, _, _, _, _, _, _, _, _, _, _, _, _, _, _, _, _, _, _, _, _, _, _, _, _, _, _, _, _, _, _, _, _, _, _, _, _]) (pend' := []) [7, 21] rfl rfl rfl rfl rfl (q_store rfl rfl TySz.h rfl rfl (by repeat (first | exact List.Mem.head _ | assumption | apply List.Mem.tail)) rfl) (by repeat (first | exact Upd.head | apply Upd.tail)) rfl (by simp) ?_
            refine TD.cst (env' := [_, _, _, _, _, _, _, _, _, _, _, _, _, _, _, _, _, _, _, _, _, _, _, _, _, _, _, _, _, _, _, _, _, _, _, _, _, _, _, _, _, _, _, _, _, _, _, _, _, _, _, _, _, _, _, _, _, _, _]) (pend' := []) [8, 22] rfl rfl rfl rfl rfl (q_store rfl rfl TySz.h rfl rfl (by repeat (first | exact List.Mem.head _ | assumption | apply List.Mem.tail)) rfl) (by repeat (first | exact Upd.head | apply Upd.tail)) rfl (by simp) ?_
            refine TD.fin ?_
            refine TK.maskL [1, 6, 7, 8] ?_
            refine TK.kp ((jc1, _) :: (jc2, _) :: (j7, _) :: (j8, _) :: (jx, _) :: (jb, _) :: (jl, _) :: (0, _) :: (1, _) :: (s, _) :: (e, _) :: []) ?_
            exact hcont jc1 jc2 j7 j8
          · refine exK_newP (envf := fun _ => [_, _, _, _, _, _, _, _, _, _, _, _, _, _, _, _, _, _, _, _, _, _, _, _, _, _, _, _, _, _, _, _, _, _, _, _, _, _, _, _, _, _, _, _, _, _, _, _, _, _, _, _, _, _, _, _, _, _, _]) rfl (n_allocA rfl TyZA.h) (fun _ => rfl) (by simp) fun j8 hj8 => ?_
            refine TD.cnewP (pend' := []) [] rfl rfl rfl rfl rfl (n_allocA rfl TyZA.h) (fun _ => putS rfl (by simp only [List.set]; rfl)) (by simp) fun j7 hj7 => ?_
            refine TD.cst (env' := [_, _, _, _, _, _, _, _, _, _, _, _, _, _, _, _, _, _, _, _, _, _, _, _, _, _, _, _, _, _, _, _, _, _, _, _, _, _, _, _, _, _, _, _, _, _, _, _, _, _, _, _, _, _, _, _, _, _, _]) (pend' := []) [7, 21] rfl rfl rfl rfl rfl (q_store rfl rfl TySz.h rfl rfl (by repeat (first | exact List.Mem.head _ | assumption | apply List.Mem.tail)) rfl) (by repeat (first | exact Upd.head | apply Upd.tail)) rfl (by simp) ?_
            refine TD.cst (env' := [_, _, _, _, _, _, _, _, _, _, _, _, _, _, _, _, _, _, _, _, _, _, _, _, _, _, _, _, _, _, _, _, _, _, _, _, _, _, _, _, _, _, _, _, _, _, _, _, _, _, _, _, _, _, _, _, _, _, _]) (pend' := []) [8, 22] rfl rfl rfl rfl rfl (q_store rfl rfl TySz.h rfl rfl (by repeat (first | exact List.Mem.head _ | assumption | apply List.Mem.tail)) rfl) (by repeat (first | exact Upd.head | apply Upd.tail)) rfl (by simp) ?_
            refine TD.fin ?_
            refine TK.maskL [1, 6, 7, 8] ?_
            refine TK.kp ((jc1, _) :: (jc2, _) :: (j7, _) :: (j8, _) :: (jx, _) :: (jb, _) :: (jl, _) :: (0, _) :: (1, _) :: (s, _) :: (e, _) :: []) ?_
            exact hcont jc1 jc2 j7 j8
        · refine ⟨[], _, [], [0, 3, 4, 5], rfl, rfl, rfl, rfl, ?_⟩
          refine exK_newP (envf := fun _ => [_, _, _, _, _, _, _, _, _, _, _, _, _, _, _, _, _, _, _, _, _, _, _, _, _, _, _, _, _, _, _, _, _, _, _, _, _, _, _, _, _, _, _, _, _, _, _, _, _, _, _, _, _, _, _, _, _, _, _]) rfl (n_allocA rfl TyZA.h) (fun _ => rfl) (by simp) fun j7 hj7 => ?_
          refine TD.c2 (i1 := 0) (i2 := 3) (pend1 := []) (pend2 := []) (L1 := [3, 4, 5]) (L2 := [0, 4, 5]) [] [] rfl rfl rfl rfl rfl rfl rfl ?_ ?_
          · refine exK_newC (envf := fun _ => [_, _, _, _, _, _, _, _, _, _, _, _, _, _, _, _, _, _, _, _, _, _, _, _, _, _, _, _, _, _, _, _, _, _, _, _, _, _, _, _, _, _, _, _, _, _, _, _, _, _, _, _, _, _, _, _, _, _, _]) rfl (n_makeChan rfl Und.h InfO.h) (fun _ => rfl) (by simp) fun jc1 hjc1 => ?_
            refine TD.cnewP (pend' := []) [] rfl rfl rfl rfl rfl (n_allocA rfl TyZA.h) (fun _ => putS rfl (by simp only [List.set]; rfl)) (by simp) fun j8 hj8 => ?_
            refine TD.cst (env' := [_, _, _, _, _, _, _, _, _, _, _, _, _, _, _, _, _, _, _, _, _, _, _, _, _, _, _, _, _, _, _, _, _, _, _, _, _, _, _, _, _, _, _, _, _, _, _, _, _, _, _, _, _, _, _, _, _, _, _]) (pend' := []) [7, 21] rfl rfl rfl rfl rfl (q_store rfl rfl TySz.h rfl rfl (by repeat (first | exact List.Mem.head _ | assumption | apply List.Mem.tail)) rfl) (by repeat (first | exact Upd.head | apply Upd.tail)) rfl (by simp) ?_
            refine TD.cst (env' := [_, _, _, _, _, _, _, _, _, _, _, _, _, _, _, _, _, _, _, _, _, _, _, _, _, _, _, _, _, _, _, _, _, _, _, _, _, _, _, _, _, _, _, _, _, _, _, _, _, _, _, _, _, _, _, _, _, _, _]) (pend' := []) [8, 22] rfl rfl rfl rfl rfl (q_store rfl rfl TySz.h rfl rfl (by repeat (first | exact List.Mem.head _ | assumption | apply List.Mem.tail)) rfl) (by repeat (first | exact Upd.head | apply Upd.tail)) rfl (by simp) ?_
            refine TD.fin ?_
            refine TK.maskL [1, 6, 7, 8] ?_
            refine TK.kp ((jc1, _) :: (jc2, _) :: (j7, _) :: (j8, _) :: (jx, _) :: (jb, _) :: (jl, _) :: (0, _) :: (1, _) :: (s, _) :: (e, _) :: []) ?_
            exact hcont jc1 jc2 j7 j8
          · refine exK_newP (envf := fun _ => [_, _, _, _, _, _, _, _, _, _, _, _, _, _, _, _, _, _, _, _, _, _, _, _, _, _, _, _, _, _, _, _, _, _, _, _, _, _, _, _, _, _, _, _, _, _, _, _, _, _, _, _, _, _, _, _, _, _, _]) rfl (n_allocA rfl TyZA.h) (fun _ => rfl) (by simp) fun j8 hj8 => ?_
            refine TD.c (pend' := []) [] rfl rfl rfl rfl (exK_newC (envf := fun _ => [_, _, _, _, _, _, _, _, _, _, _, _, _, _, _, _, _, _, _, _, _, _, _, _, _, _, _, _, _, _, _, _, _, _, _, _, _, _, _, _, _, _, _, _, _, _, _, _, _, _, _, _, _, _, _, _, _, _, _]) rfl (n_makeChan rfl Und.h InfO.h) (fun _ => rfl) (by simp) fun jc1 hjc1 => ?_)
            refine TD.cst (env' := [_, _, _, _, _, _, _, _, _, _, _, _, _, _, _, _, _, _, _, _, _, _, _, _, _, _, _, _, _, _, _, _, _, _, _, _, _, _, _, _, _, _, _, _, _, _, _, _, _, _, _, _, _, _, _, _, _, _, _]) (pend' := []) [7, 21] rfl rfl rfl rfl rfl (q_store rfl rfl TySz.h rfl rfl (by repeat (first | exact List.Mem.head _ | assumption | apply List.Mem.tail)) rfl) (by repeat (first | exact Upd.head | apply Upd.tail)) rfl (by simp) ?_
            refine TD.cst (env' := [_, _, _, _, _, _, _, _, _, _, _, _, _, _, _, _, _, _, _, _, _, _, _, _, _, _, _, _, _, _, _, _, _, _, _, _, _, _, _, _, _, _, _, _, _, _, _, _, _, _, _, _, _, _, _, _, _, _, _]) (pend' := []) [8, 22] rfl rfl rfl rfl rfl (q_store rfl rfl TySz.h rfl rfl (by repeat (first | exact List.Mem.head _ | assumption | apply List.Mem.tail)) rfl) (by repeat (first | exact Upd.head | apply Upd.tail)) rfl (by simp) ?_
            refine TD.fin ?_
            refine TK.maskL [1, 6, 7, 8] ?_
            refine TK.kp ((jc1, _) :: (jc2, _) :: (j7, _) :: (j8, _) :: (jx, _) :: (jb, _) :: (jl, _) :: (0, _) :: (1, _) :: (s, _) :: (e, _) :: []) ?_
            exact hcont jc1 jc2 j7 j8
        · refine ⟨[], _, [], [0, 2, 4, 5], rfl, rfl, rfl, rfl, ?_⟩
          refine exK_newP (envf := fun _ => [_, _, _, _, _, _, _, _, _, _, _, _, _, _, _, _, _, _, _, _, _, _, _, _, _, _, _, _, _, _, _, _, _, _, _, _, _, _, _, _, _, _, _, _, _, _, _, _, _, _, _, _, _, _, _, _, _, _, _]) rfl (n_allocA rfl TyZA.h) (fun _ => rfl) (by simp) fun j8 hj8 => ?_
          refine TD.c2 (i1 := 0) (i2 := 2) (pend1 := []) (pend2 := []) (L1 := [2, 4, 5]) (L2 := [0, 4, 5]) [] [] rfl rfl rfl rfl rfl rfl rfl ?_ ?_
          · refine exK_newC (envf := fun _ => [_, _, _, _, _, _, _, _, _, _, _, _, _, _, _, _, _, _, _, _, _, _, _, _, _, _, _, _, _, _, _, _, _, _, _, _, _, _, _, _, _, _, _, _, _, _, _, _, _, _, _, _, _, _, _, _, _, _, _]) rfl (n_makeChan rfl Und.h InfO.h) (fun _ => rfl) (by simp) fun jc1 hjc1 => ?_
            refine TD.cnewP (pend' := []) [] rfl rfl rfl rfl rfl (n_allocA rfl TyZA.h) (fun _ => putS rfl (by simp only [List.set]; rfl)) (by simp) fun j7 hj7 => ?_
            refine TD.cst (env' := [_, _, _, _, _, _, _, _, _, _, _, _, _, _, _, _, _, _, _, _, _, _, _, _, _, _, _, _, _, _, _, _, _, _, _, _, _, _, _, _, _, _, _, _, _, _, _, _, _, _, _, _, _, _, _, _, _, _, _]) (pend' := []) [7, 21] rfl rfl rfl rfl rfl (q_store rfl rfl TySz.h rfl rfl (by repeat (first | exact List.Mem.head _ | assumption | apply List.Mem.tail)) rfl) (by repeat (first | exact Upd.head | apply Upd.tail)) rfl (by simp) ?_
            refine TD.cst (env' := [_, _, _, _, _, _, _, _, _, _, _, _, _, _, _, _, _, _, _, _, _, _, _, _, _, _, _, _, _, _, _, _, _, _, _, _, _, _, _, _, _, _, _, _, _, _, _, _, _, _, _, _, _, _, _, _, _, _, _]) (pend' := []) [8, 22] rfl rfl rfl rfl rfl (q_store rfl rfl TySz.h rfl rfl (by repeat (first | exact List.Mem.head _ | assumption | apply List.Mem.tail)) rfl) (by repeat (first | exact Upd.head | apply Upd.tail)) rfl (by simp) ?_
            refine TD.fin ?_
            refine TK.maskL [1, 6, 7, 8] ?_
            refine TK.kp ((jc1, _) :: (jc2, _) :: (j7, _) :: (j8, _) :: (jx, _) :: (jb, _) :: (jl, _) :: (0, _) :: (1, _) :: (s, _) :: (e, _) :: []) ?_
            exact hcont jc1 jc2 j7 j8
          · refine exK_newP (envf := fun _ => [_, _, _, _, _, _, _, _, _, _, _, _, _, _, _, _, _, _, _, _, _, _, _, _, _, _, _, _, _, _, _, _, _, _, _, _, _, _, _, _, _, _, _, _, _, _, _, _, _, _, _, _, _, _, _, _, _, _, _]) rfl (n_allocA rfl TyZA.h) (fun _ => rfl) (by simp) fun j7 hj7 => ?_
            refine TD.c (pend' := []) [] rfl rfl rfl rfl (exK_newC (envf := fun _ => [_, _, _, _, _, _, _, _, _, _, _, _, _, _, _, _, _, _, _, _, _, _, _, _, _, _, _, _, _, _, _, _, _, _, _, _, _, _, _, _, _, _, _, _, _, _, _, _, _, _, _, _, _, _, _, _, _, _, _]) rfl (n_makeChan rfl Und.h InfO.h) (fun _ => rfl) (by simp) fun jc1 hjc1 => ?_)
            refine TD.cst (env' := [_, _, _, _, _, _, _, _, _, _, _, _, _, _, _, _, _, _, _, _, _, _, _, _, _, _, _, _, _, _, _, _, _, _, _, _, _, _, _, _, _, _, _, _, _, _, _, _, _, _, _, _, _, _, _, _, _, _, _]) (pend' := []) [7, 21] rfl rfl rfl rfl rfl (q_store rfl rfl TySz.h rfl rfl (by repeat (first | exact List.Mem.head _ | assumption | apply List.Mem.tail)) rfl) (by repeat (first | exact Upd.head | apply Upd.tail)) rfl (by simp) ?_
            refine TD.cst (env' := [_, _, _, _, _, _, _, _, _, _, _, _, _, _, _, _, _, _, _, _, _, _, _, _, _, _, _, _, _, _, _, _, _, _, _, _, _, _, _, _, _, _, _, _, _, _, _, _, _, _, _, _, _, _, _, _, _, _, _]) (pend' := []) [8, 22] rfl rfl rfl rfl rfl (q_store rfl rfl TySz.h rfl rfl (by repeat (first | exact List.Mem.head _ | assumption | apply List.Mem.tail)) rfl) (by repeat (first | exact Upd.head | apply Upd.tail)) rfl (by simp) ?_
            refine TD.fin ?_
            refine TK.maskL [1, 6, 7, 8] ?_
            refine TK.kp ((jc1, _) :: (jc2, _) :: (j7, _) :: (j8, _) :: (jx, _) :: (jb, _) :: (jl, _) :: (0, _) :: (1, _) :: (s, _) :: (e, _) :: []) ?_
            exact hcont jc1 jc2 j7 j8
      · refine ⟨[], _, [], [0, 1, 3, 4, 5], rfl, rfl, rfl, rfl, ?_⟩
        refine exK_newP (envf := fun _ => [_, _, _, _, _, _, _, _, _, _, _, _, _, _, _, _, _, _, _, _, _, _, _, _, _, _, _, _, _, _, _, _, _, _, _, _, _, _, _, _, _, _, _, _, _, _, _, _, _, _, _, _, _, _, _, _, _, _, _]) rfl (n_allocA rfl TyZA.h) (fun _ => rfl) (by simp) fun j7 hj7 => ?_
        refine TD.cM [0, 1, 3] rfl ?_
        intro mm hmm
        simp only [List.mem_cons, List.not_mem_nil, or_false] at hmm
        rcases hmm with rfl | rfl | rfl
        · refine ⟨[], _, [], [1, 3, 4, 5], rfl, rfl, rfl, rfl, ?_⟩
          refine exK_newC (envf := fun _ => [_, _, _, _, _, _, _, _, _, _, _, _, _, _, _, _, _, _, _, _, _, _, _, _, _, _, _, _, _, _, _, _, _, _, _, _, _, _, _, _, _, _, _, _, _, _, _, _, _, _, _, _, _, _, _, _, _, _, _]) rfl (n_makeChan rfl Und.h InfO.h) (fun _ => rfl) (by simp) fun jc1 hjc1 => ?_
          refine TD.c2 (i1 := 1) (i2 := 3) (pend1 := []) (pend2 := []) (L1 := [3, 4, 5]) (L2 := [1, 4, 5]) [] [] rfl rfl rfl rfl rfl rfl rfl ?_ ?_
          · refine exK_newC (envf := fun _ => [_, _, _, _, _, _, _, _, _, _, _, _, _, _, _, _, _, _, _, _, _, _, _, _, _, _, _, _, _, _, _, _, _, _, _, _, _, _, _, _, _, _, _, _, _, _, _, _, _, _, _, _, _, _, _, _, _, _, _]) rfl (n_makeChan rfl Und.h InfO.h) (fun _ => rfl) (by simp) fun jc2 hjc2 => ?_
            refine TD.cnewP (pend' := []) [] rfl rfl rfl rfl rfl (n_allocA rfl TyZA.h) (fun _ => putS rfl (by simp only [List.set]; rfl)) (by simp) fun j8 hj8 => ?_
            refine TD.cst (env' := [_, _, _, _, _, _, _, _, _, _, _, _, _, _, _, _, _, _, _, _, _, _, _, _, _, _, _, _, _, _, _, _, _, _, _, _, _, _, _, _, _, _, _, _, _, _, _, _, _, _, _, _, _, _, _, _, _, _, _]) (pend' := []) [7, 21] rfl rfl rfl rfl rfl (q_store rfl rfl TySz.h rfl rfl (by repeat (first | exact List.Mem.head _ | assumption | apply List.Mem.tail)) rfl) (by repeat (first | exact Upd.head | apply Upd.tail)) rfl (by simp) ?_
            refine TD.cst (env' := [_, _, _, _, _, _, _, _, _, _, _, _, _, _, _, _, _, _, _, _, _, _, _, _, _, _, _, _, _, _, _, _, _, _, _, _, _, _, _, _, _, _, _, _, _, _, _, _, _, _, _, _, _, _, _, _, _, _, _]) (pend' := []) [8, 22] rfl rfl rfl rfl rfl (q_store rfl rfl TySz.h rfl rfl (by repeat (first | exact List.Mem.head _ | assumption | apply List.Mem.tail)) rfl) (by repeat (first | exact Upd.head | apply Upd.tail)) rfl (by simp) ?_
            refine TD.fin ?_
            refine TK.maskL [1, 6, 7, 8] ?_
            refine TK.kp ((jc1, _) :: (jc2, _) :: (j7, _) :: (j8, _) :: (jx, _) :: (jb, _) :: (jl, _) :: (0, _) :: (1, _) :: (s, _) :: (e, _) :: []) ?_
            exact hcont jc1 jc2 j7 j8
          · refine exK_newP (envf := fun _ => [_, _, _, _, _, _, _, _, _, _, _, _, _, _, _, _, _, _, _, _, _, _, _, _, _, _, _, _, _, _, _, _, _, _, _, _, _, _, _, _, _, _, _, _, _, _, _, _, _, _, _, _, _, _, _, _, _, _, _]) rfl (n_allocA rfl TyZA.h) (fun _ => rfl) (by simp) fun j8 hj8 => ?_
            refine TD.c2 (i1 := 1) (i2 := 4) (pend1 := []) (pend2 := []) (L1 := [4, 5]) (L2 := [1, 5]) [] [7, 21] rfl rfl rfl rfl rfl rfl rfl ?_ ?_
            · refine exK_newC (envf := fun _ => [_, _, _, _, _, _, _, _, _, _, _, _, _, _, _, _, _, _, _, _, _, _, _, _, _, _, _, _, _, _, _, _, _, _, _, _, _, _, _, _, _, _, _, _, _, _, _, _, _, _, _, _, _, _, _, _, _, _, _]) rfl (n_makeChan rfl Und.h InfO.h) (fun _ => rfl) (by simp) fun jc2 hjc2 => ?_
              refine TD.cst (env' := [_, _, _, _, _, _, _, _, _, _, _, _, _, _, _, _, _, _, _, _, _, _, _, _, _, _, _, _, _, _, _, _, _, _, _, _, _, _, _, _, _, _, _, _, _, _, _, _, _, _, _, _, _, _, _, _, _, _, _]) (pend' := []) [7, 21] rfl rfl rfl rfl rfl (q_store rfl rfl TySz.h rfl rfl (by repeat (first | exact List.Mem.head _ | assumption | apply List.Mem.tail)) rfl) (by repeat (first | exact Upd.head | apply Upd.tail)) rfl (by simp) ?_
              refine TD.cst (env' := [_, _, _, _, _, _, _, _, _, _, _, _, _, _, _, _, _, _, _, _, _, _, _, _, _, _, _, _, _, _, _, _, _, _, _, _, _, _, _, _, _, _, _, _, _, _, _, _, _, _, _, _, _, _, _, _, _, _, _]) (pend' := []) [8, 22] rfl rfl rfl rfl rfl (q_store rfl rfl TySz.h rfl rfl (by repeat (first | exact List.Mem.head _ | assumption | apply List.Mem.tail)) rfl) (by repeat (first | exact Upd.head | apply Upd.tail)) rfl (by simp) ?_
              refine TD.fin ?_
              refine TK.maskL [1, 6, 7, 8] ?_
              refine TK.kp ((jc1, _) :: (jc2, _) :: (j7, _) :: (j8, _) :: (jx, _) :: (jb, _) :: (jl, _) :: (0, _) :: (1, _) :: (s, _) :: (e, _) :: []) ?_
              exact hcont jc1 jc2 j7 j8
            · refine exK_st (env' := [_, _, _, _, _, _, _, _, _, _, _, _, _, _, _, _, _, _, _, _, _, _, _, _, _, _, _, _, _, _, _, _, _, _, _, _, _, _, _, _, _, _, _, _, _, _, _, _, _, _, _, _, _, _, _, _, _, _, _]) rfl (q_store rfl rfl TySz.h rfl rfl (by repeat (first | exact List.Mem.head _ | assumption | apply List.Mem.tail)) rfl) (by repeat (first | exact Upd.head | apply Upd.tail)) rfl (by simp) ?_
              refine TD.c (pend' := []) [] rfl rfl rfl rfl (exK_newC (envf := fun _ => [_, _, _, _, _, _, _, _, _, _, _, _, _, _, _, _, _, _, _, _, _, _, _, _, _, _, _, _, _, _, _, _, _, _, _, _, _, _, _, _, _, _, _, _, _, _, _, _, _, _, _, _, _, _, _, _, _, _, _]) rfl (n_makeChan rfl Und.h InfO.h) (fun _ => rfl) (by simp) fun jc2 hjc2 => ?_)
              refine TD.cst (env' := [_, _, _, _, _, _, _, _, _, _, _, _, _, _, _, _, _, _, _, _, _, _, _, _, _, _, _, _, _, _, _, _, _, _, _, _, _, _, _, _, _, _, _, _, _, _, _, _, _, _, _, _, _, _, _, _, _, _, _]) (pend' := []) [8, 22] rfl rfl rfl rfl rfl (q_store rfl rfl TySz.h rfl rfl (by repeat (first | exact List.Mem.head _ | assumption | apply List.Mem.tail)) rfl) (by repeat (first | exact Upd.head | apply Upd.tail)) rfl (by simp) ?_
              refine TD.fin ?_
              refine TK.maskL [1, 6, 7, 8] ?_
              refine TK.kp ((jc1, _) :: (jc2, _) :: (j7, _) :: (j8, _) :: (jx, _) :: (jb, _) :: (jl, _) :: (0, _) :: (1, _) :: (s, _) :: (e, _) :: []) ?_
              exact hcont jc1 jc2 j7 j8
        · refine ⟨[], _, [], [0, 3, 4, 5], rfl, rfl, rfl, rfl, ?_⟩
          refine exK_newC (envf := fun _ => [_, _, _, _, _, _, _, _, _, _, _, _, _, _, _, _, _, _, _, _, _, _, _, _, _, _, _, _, _, _, _, _, _, _, _, _, _, _, _, _, _, _, _, _, _, _, _, _, _, _, _, _, _, _, _, _, _, _, _]) rfl (n_makeChan rfl Und.h InfO.h) (fun _ => rfl) (by simp) fun jc2 hjc2 => ?_
          refine TD.c2 (i1 := 0) (i2 := 3) (pend1 := []) (pend2 := []) (L1 := [3, 4, 5]) (L2 := [0, 4, 5]) [] [] rfl rfl rfl rfl rfl rfl rfl ?_ ?_
          · refine exK_newC (envf := fun _ => [_, _, _, _, _, _, _, _, _, _, _, _, _, _, _, _, _, _, _, _, _, _, _, _, _, _, _, _, _, _, _, _, _, _, _, _, _, _, _, _, _, _, _, _, _, _, _, _, _, _, _, _, _, _, _, _, _, _, _]) rfl (n_makeChan rfl Und.h InfO.h) (fun _ => rfl) (by simp) fun jc1 hjc1 => ?_
            refine TD.cnewP (pend' := []) [] rfl rfl rfl rfl rfl (n_allocA rfl TyZA.h) (fun _ => putS rfl (by simp only [List.set]; rfl)) (by simp) fun j8 hj8 => ?_
            refine TD.cst (env' := [_, _, _, _, _, _, _, _, _, _, _, _, _, _, _, _, _, _, _, _, _, _, _, _, _, _, _, _, _, _, _, _, _, _, _, _, _, _, _, _, _, _, _, _, _, _, _, _, _, _, _, _, _, _, _, _, _, _, _]) (pend' := []) [7, 21] rfl rfl rfl rfl rfl (q_store rfl rfl TySz.h rfl rfl (by repeat (first | exact List.Mem.head _ | assumption | apply List.Mem.tail)) rfl) (by repeat (first | exact Upd.head | apply Upd.tail)) rfl (by simp) ?_
            refine TD.cst (env' := [_, _, _, _, _, _, _, _, _, _, _, _, _, _, _, _, _, _, _, _, _, _, _, _, _, _, _, _, _, _, _, _, _, _, _, _, _, _, _, _, _, _, _, _, _, _, _, _, _, _, _, _, _, _, _, _, _, _, _]) (pend' := []) [8, 22] rfl rfl rfl rfl rfl (q_store rfl rfl TySz.h rfl rfl (by repeat (first | exact List.Mem.head _ | assumption | apply List.Mem.tail)) rfl) (by repeat (first | exact Upd.head | apply Upd.tail)) rfl (by simp) ?_
            refine TD.fin ?_
            refine TK.maskL [1, 6, 7, 8] ?_
            refine TK.kp ((jc1, _) :: (jc2, _) :: (j7, _) :: (j8, _) :: (jx, _) :: (jb, _) :: (jl, _) :: (0, _) :: (1, _) :: (s, _) :: (e, _) :: []) ?_
            exact hcont jc1 jc2 j7 j8
          · refine exK_newP (envf := fun _ => [_, _, _, _, _, _, _, _, _, _, _, _, _, _, _, _, _, _, _, _, _, _, _, _, _, _, _, _, _, _, _, _, _, _, _, _, _, _, _, _, _, _, _, _, _, _, _, _, _, _, _, _, _, _, _, _, _, _, _]) rfl (n_allocA rfl TyZA.h) (fun _ => rfl) (by simp) fun j8 hj8 => ?_
            refine TD.c (pend' := []) [] rfl rfl rfl rfl (exK_newC (envf := fun _ => [_, _, _, _, _, _, _, _, _, _, _, _, _, _, _, _, _, _, _, _, _, _, _, _, _, _, _, _, _, _, _, _, _, _, _, _, _, _, _, _, _, _, _, _, _, _, _, _, _, _, _, _, _, _, _, _, _, _, _]) rfl (n_makeChan rfl Und.h InfO.h) (fun _ => rfl) (by simp) fun jc1 hjc1 => ?_)
            refine TD.cst (env' := [_, _, _, _, _, _, _, _, _, _, _, _, _, _, _, _, _, _, _, _, _, _, _, _, _, _, _, _, _, _, _, _, _, _, _, _, _, _, _, _, _, _, _, _, _, _, _, _, _, _, _, _, _, _, _, _, _, _, _]) (pend' := []) [7, 21] rfl rfl rfl rfl rfl (q_store rfl rfl TySz.h rfl rfl (by repeat (first | exact List.Mem.head _ | assumption | apply List.Mem.tail)) rfl) (by repeat (first | exact Upd.head | apply Upd.tail)) rfl (by simp) ?_
            refine TD.cst (env' := [_, _, _, _, _, _, _, _, _, _, _, _, _, _, _, _, _, _, _, _, _, _, _, _, _, _, _, _, _, _, _, _, _, _, _, _, _, _, _, _, _, _, _, _, _, _, _, _, _, _, _, _, _, _, _, _, _, _, _]) (pend' := []) [8, 22] rfl rfl rfl rfl rfl (q_store rfl rfl TySz.h rfl rfl (by repeat (first | exact List.Mem.head _ | assumption | apply List.Mem.tail)) rfl) (by repeat (first | exact Upd.head | apply Upd.tail)) rfl (by simp) ?_
            refine TD.fin ?_
            refine TK.maskL [1, 6, 7, 8] ?_
            refine TK.kp ((jc1, _) :: (jc2, _) :: (j7, _) :: (j8, _) :: (jx, _) :: (jb, _) :: (jl, _) :: (0, _) :: (1, _) :: (s, _) :: (e, _) :: []) ?_
            exact hcont jc1 jc2 j7 j8
        · refine ⟨[], _, [], [0, 1, 4, 5], rfl, rfl, rfl, rfl, ?_⟩
          refine exK_newP (envf := fun _ => [_, _, _, _, _, _, _, _, _, _, _, _, _, _, _, _, _, _, _, _, _, _, _, _, _, _, _, _, _, _, _, _, _, _, _, _, _, _, _, _, _, _, _, _, _, _, _, _, _, _, _, _, _, _, _, _, _, _, _]) rfl (n_allocA rfl TyZA.h) (fun _ => rfl) (by simp) fun j8 hj8 => ?_
          refine TD.c2 (i1 := 0) (i2 := 1) (pend1 := []) (pend2 := []) (L1 := [1, 4, 5]) (L2 := [0, 4, 5]) [] [] rfl rfl rfl rfl rfl rfl rfl ?_ ?_
          · refine exK_newC (envf := fun _ => [_, _, _, _, _, _, _, _, _, _, _, _, _, _, _, _, _, _, _, _, _, _, _, _, _, _, _, _, _, _, _, _, _, _, _, _, _, _, _, _, _, _, _, _, _, _, _, _, _, _, _, _, _, _, _, _, _, _, _]) rfl (n_makeChan rfl Und.h InfO.h) (fun _ => rfl) (by simp) fun jc1 hjc1 => ?_
            refine TD.c2 (i1 := 1) (i2 := 4) (pend1 := []) (pend2 := []) (L1 := [4, 5]) (L2 := [1, 5]) [] [7, 21] rfl rfl rfl rfl rfl rfl rfl ?_ ?_
            · refine exK_newC (envf := fun _ => [_, _, _, _, _, _, _, _, _, _, _, _, _, _, _, _, _, _, _, _, _, _, _, _, _, _, _, _, _, _, _, _, _, _, _, _, _, _, _, _, _, _, _, _, _, _, _, _, _, _, _, _, _, _, _, _, _, _, _]) rfl (n_makeChan rfl Und.h InfO.h) (fun _ => rfl) (by simp) fun jc2 hjc2 => ?_
              refine TD.cst (env' := [_, _, _, _, _, _, _, _, _, _, _, _, _, _, _, _, _, _, _, _, _, _, _, _, _, _, _, _, _, _, _, _, _, _, _, _, _, _, _, _, _, _, _, _, _, _, _, _, _, _, _, _, _, _, _, _, _, _, _]) (pend' := []) [7, 21] rfl rfl rfl rfl rfl (q_store rfl rfl TySz.h rfl rfl (by repeat (first | exact List.Mem.head _ | assumption | apply List.Mem.tail)) rfl) (by repeat (first | exact Upd.head | apply Upd.tail)) rfl (by simp) ?_
              refine TD.cst (env' := [_, _, _, _, _, _, _, _, _, _, _, _, _, _, _, _, _, _, _, _, _, _, _, _, _, _, _, _, _, _, _, _, _, _, _, _, _, _, _, _, _, _, _, _, _, _, _, _, _, _, _, _, _, _, _, _, _, _, _]) (pend' := []) [8, 22] rfl rfl rfl rfl rfl (q_store rfl rfl TySz.h rfl rfl (by repeat (first | exact List.Mem.head _ | assumption | apply List.Mem.tail)) rfl) (by repeat (first | exact Upd.head | apply Upd.tail)) rfl (by simp) ?_
              refine TD.fin ?_
              refine TK.maskL [1, 6, 7, 8] ?_
              refine TK.kp ((jc1, _) :: (jc2, _) :: (j7, _) :: (j8, _) :: (jx, _) :: (jb, _) :: (jl, _) :: (0, _) :: (1, _) :: (s, _) :: (e, _) :: []) ?_
              exact hcont jc1 jc2 j7 j8
            · refine exK_st (env' := [_, _, _, _, _, _, _, _, _, _, _, _, _, _, _, _, _, _, _, _, _, _, _, _, _, _, _, _, _, _, _, _, _, _, _, _, _, _, _, _, _, _, _, _, _, _, _, _, _, _, _, _, _, _, _, _, _, _, _]) rfl (q_store rfl rfl TySz.h rfl rfl (by repeat (first | exact List.Mem.head _ | assumption | apply List.Mem.tail)) rfl) (by repeat (first | exact Upd.head | apply Upd.tail)) rfl (by simp) ?_
              refine TD.c (pend' := []) [] rfl rfl rfl rfl (exK_newC (envf := fun _ => [_, _, _, _, _, _, _, _, _, _, _, _, _, _, _, _, _, _, _, _, _, _, _, _, _, _, _, _, _, _, _, _, _, _, _, _, _, _, _, _, _, _, _, _, _, _, _, _, _, _, _, _, _, _, _, _, _, _, _]) rfl (n_makeChan rfl Und.h InfO.h) (fun _ => rfl) (by simp) fun jc2 hjc2 => ?_)
              refine TD.cst (env' := [_, _, _, _, _, _, _, _, _, _, _, _, _, _, _, _, _, _, _, _, _, _, _, _, _, _, _, _, _, _, _, _, _, _, _, _, _, _, _, _, _, _, _, _, _, _, _, _, _, _, _, _, _, _, _, _, _, _, _]) (pend' := []) [8, 22] rfl rfl rfl rfl rfl (q_store rfl rfl TySz.h rfl rfl (by repeat (first | exact List.Mem.head _ | assumption | apply List.Mem.tail)) rfl) (by repeat (first | exact Upd.head | apply Upd.tail)) rfl (by simp) ?_
              refine TD.fin ?_
              refine TK.maskL [1, 6, 7, 8] ?_
              refine TK.kp ((jc1, _) :: (jc2, _) :: (j7, _) :: (j8, _) :: (jx, _) :: (jb, _) :: (jl, _) :: (0, _) :: (1, _) :: (s, _) :: (e, _) :: []) ?_
              exact hcont jc1 jc2 j7 j8
          · refine exK_newC (envf := fun _ => [_, _, _, _, _, _, _, _, _, _, _, _, _, _, _, _, _, _, _, _, _, _, _, _, _, _, _, _, _, _, _, _, _, _, _, _, _, _, _, _, _, _, _, _, _, _, _, _, _, _, _, _, _, _, _, _, _, _, _]) rfl (n_makeChan rfl Und.h InfO.h) (fun _ => rfl) (by simp) fun jc2 hjc2 => ?_
            refine TD.c (pend' := []) [] rfl rfl rfl rfl (exK_newC (envf := fun _ => [_, _, _, _, _, _, _, _, _, _, _, _, _, _, _, _, _, _, _, _, _, _, _, _, _, _, _, _, _, _, _, _, _, _, _, _, _, _, _, _, _, _, _, _, _, _, _, _, _, _, _, _, _, _, _, _, _, _, _]) rfl (n_makeChan rfl Und.h InfO.h) (fun _ => rfl) (by simp) fun jc1 hjc1 => ?_)
            refine TD.cst (env' := [_, _, _, _, _, _, _, _, _, _, _, _, _, _, _, _, _, _, _, _, _, _, _, _, _, _, _, _, _, _, _, _, _, _, _, _, _, _, _, _, _, _, _, _, _, _, _, _, _, _, _, _, _, _, _, _, _, _, _]) (pend' := []) [7, 21] rfl rfl rfl rfl rfl (q_store rfl rfl TySz.h rfl rfl (by repeat (first | exact List.Mem.head _ | assumption | apply List.Mem.tail)) rfl) (by repeat (first | exact Upd.head | apply Upd.tail)) rfl (by simp) ?_
            refine TD.cst (env' := [_, _, _, _, _, _, _, _, _, _, _, _, _, _, _, _, _, _, _, _, _, _, _, _, _, _, _, _, _, _, _, _, _, _, _, _, _, _, _, _, _, _, _, _, _, _, _, _, _, _, _, _, _, _, _, _, _, _, _]) (pend' := []) [8, 22] rfl rfl rfl rfl rfl (q_store rfl rfl TySz.h rfl rfl (by repeat (first | exact List.Mem.head _ | assumption | apply List.Mem.tail)) rfl) (by repeat (first | exact Upd.head | apply Upd.tail)) rfl (by simp) ?_
            refine TD.fin ?_
            refine TK.maskL [1, 6, 7, 8] ?_
            refine TK.kp ((jc1, _) :: (jc2, _) :: (j7, _) :: (j8, _) :: (jx, _) :: (jb, _) :: (jl, _) :: (0, _) :: (1, _) :: (s, _) :: (e, _) :: []) ?_
            exact hcont jc1 jc2 j7 j8
      · refine ⟨[], _, [], [0, 1, 2, 4, 5], rfl, rfl, rfl, rfl, ?_⟩
        refine exK_newP (envf := fun _ => [_, _, _, _, _, _, _, _, _, _, _, _, _, _, _, _, _, _, _, _, _, _, _, _, _, _, _, _, _, _, _, _, _, _, _, _, _, _, _, _, _, _, _, _, _, _, _, _, _, _, _, _, _, _, _, _, _, _, _]) rfl (n_allocA rfl TyZA.h) (fun _ => rfl) (by simp) fun j8 hj8 => ?_
        refine TD.cM [0, 1, 2] rfl ?_
        intro mm hmm
        simp only [List.mem_cons, List.not_mem_nil, or_false] at hmm
        rcases hmm with rfl | rfl | rfl
        · refine ⟨[], _, [], [1, 2, 4, 5], rfl, rfl, rfl, rfl, ?_⟩
          refine exK_newC (envf := fun _ => [_, _, _, _, _, _, _, _, _, _, _, _, _, _, _, _, _, _, _, _, _, _, _, _, _, _, _, _, _, _, _, _, _, _, _, _, _, _, _, _, _, _, _, _, _, _, _, _, _, _, _, _, _, _, _, _, _, _, _]) rfl (n_makeChan rfl Und.h InfO.h) (fun _ => rfl) (by simp) fun jc1 hjc1 => ?_
          refine TD.c2 (i1 := 1) (i2 := 2) (pend1 := []) (pend2 := []) (L1 := [2, 4, 5]) (L2 := [1, 4, 5]) [] [] rfl rfl rfl rfl rfl rfl rfl ?_ ?_
          · refine exK_newC (envf := fun _ => [_, _, _, _, _, _, _, _, _, _, _, _, _, _, _, _, _, _, _, _, _, _, _, _, _, _, _, _, _, _, _, _, _, _, _, _, _, _, _, _, _, _, _, _, _, _, _, _, _, _, _, _, _, _, _, _, _, _, _]) rfl (n_makeChan rfl Und.h InfO.h) (fun _ => rfl) (by simp) fun jc2 hjc2 => ?_
            refine TD.cnewP (pend' := []) [] rfl rfl rfl rfl rfl (n_allocA rfl TyZA.h) (fun _ => putS rfl (by simp only [List.set]; rfl)) (by simp) fun j7 hj7 => ?_
            refine TD.cst (env' := [_, _, _, _, _, _, _, _, _, _, _, _, _, _, _, _, _, _, _, _, _, _, _, _, _, _, _, _, _, _, _, _, _, _, _, _, _, _, _, _, _, _, _, _, _, _, _, _, _, _, _, _, _, _, _, _, _, _, _]) (pend' := []) [7, 21] rfl rfl rfl rfl rfl (q_store rfl rfl TySz.h rfl rfl (by repeat (first | exact List.Mem.head _ | assumption | apply List.Mem.tail)) rfl) (by repeat (first | exact Upd.head | apply Upd.tail)) rfl (by simp) ?_
            refine TD.cst (env' := [_, _, _, _, _, _, _, _, _, _, _, _, _, _, _, _, _, _, _, _, _, _, _, _, _, _, _, _, _, _, _, _, _, _, _, _, _, _, _, _, _, _, _, _, _, _, _, _, _, _, _, _, _, _, _, _, _, _, _]) (pend' := []) [8, 22] rfl rfl rfl rfl rfl (q_store rfl rfl TySz.h rfl rfl (by repeat (first | exact List.Mem.head _ | assumption | apply List.Mem.tail)) rfl) (by repeat (first | exact Upd.head | apply Upd.tail)) rfl (by simp) ?_
            refine TD.fin ?_
            refine TK.maskL [1, 6, 7, 8] ?_
            refine TK.kp ((jc1, _) :: (jc2, _) :: (j7, _) :: (j8, _) :: (jx, _) :: (jb, _) :: (jl, _) :: (0, _) :: (1, _) :: (s, _) :: (e, _) :: []) ?_
            exact hcont jc1 jc2 j7 j8
          · refine exK_newP (envf := fun _ => [_, _, _, _, _, _, _, _, _, _, _, _, _, _, _, _, _, _, _, _, _, _, _, _, _, _, _, _, _, _, _, _, _, _, _, _, _, _, _, _, _, _, _, _, _, _, _, _, _, _, _, _, _, _, _, _, _, _, _]) rfl (n_allocA rfl TyZA.h) (fun _ => rfl) (by simp) fun j7 hj7 => ?_
            refine TD.c2 (i1 := 1) (i2 := 4) (pend1 := []) (pend2 := []) (L1 := [4, 5]) (L2 := [1, 5]) [] [7, 21] rfl rfl rfl rfl rfl rfl rfl ?_ ?_
            · refine exK_newC (envf := fun _ => [_, _, _, _, _, _, _, _, _, _, _, _, _, _, _, _, _, _, _, _, _, _, _, _, _, _, _, _, _, _, _, _, _, _, _, _, _, _, _, _, _, _, _, _, _, _, _, _, _, _, _, _, _, _, _, _, _, _, _]) rfl (n_makeChan rfl Und.h InfO.h) (fun _ => rfl) (by simp) fun jc2 hjc2 => ?_
              refine TD.cst (env' := [_, _, _, _, _, _, _, _, _, _, _, _, _, _, _, _, _, _, _, _, _, _, _, _, _, _, _, _, _, _, _, _, _, _, _, _, _, _, _, _, _, _, _, _, _, _, _, _, _, _, _, _, _, _, _, _, _, _, _]) (pend' := []) [7, 21] rfl rfl rfl rfl rfl (q_store rfl rfl TySz.h rfl rfl (by repeat (first | exact List.Mem.head _ | assumption | apply List.Mem.tail)) rfl) (by repeat (first | exact Upd.head | apply Upd.tail)) rfl (by simp) ?_
              refine TD.cst (env' := [_, _, _, _, _, _, _, _, _, _, _, _, _, _, _, _, _, _, _, _, _, _, _, _, _, _, _, _, _, _, _, _, _, _, _, _, _, _, _, _, _, _, _, _, _, _, _, _, _, _, _, _, _, _, _, _, _, _, _]) (pend' := []) [8, 22] rfl rfl rfl rfl rfl (q_store rfl rfl TySz.h rfl rfl (by repeat (first | exact List.Mem.head _ | assumption | apply List.Mem.tail)) rfl) (by repeat (first | exact Upd.head | apply Upd.tail)) rfl (by simp) ?_
              refine TD.fin ?_
              refine TK.maskL [1, 6, 7, 8] ?_
              refine TK.kp ((jc1, _) :: (jc2, _) :: (j7, _) :: (j8, _) :: (jx, _) :: (jb, _) :: (jl, _) :: (0, _) :: (1, _) :: (s, _) :: (e, _) :: []) ?_
              exact hcont jc1 jc2 j7 j8
            · refine exK_st (env' := [_, _, _, _, _, _, _, _, _, _, _, _, _, _, _, _, _, _, _, _, _, _, _, _, _, _, _, _, _, _, _, _, _, _, _, _, _, _, _, _, _, _, _, _, _, _, _, _, _, _, _, _, _, _, _, _, _, _, _]) rfl (q_store rfl rfl TySz.h rfl rfl (by repeat (first | exact List.Mem.head _ | assumption | apply List.Mem.tail)) rfl) (by repeat (first | exact Upd.head | apply Upd.tail)) rfl (by simp) ?_
              refine TD.c (pend' := []) [] rfl rfl rfl rfl (exK_newC (envf := fun _ => [_, _, _, _, _, _, _, _, _, _, _, _, _, _, _, _, _, _, _, _, _, _, _, _, _, _, _, _, _, _, _, _, _, _, _, _, _, _, _, _, _, _, _, _, _, _, _, _, _, _, _, _, _, _, _, _, _, _, _]) rfl (n_makeChan rfl Und.h InfO.h) (fun _ => rfl) (by simp) fun jc2 hjc2 => ?_)
              refine TD.cst (env' := [_, _, _, _, _, _, _, _, _, _, _, _, _, _, _, _, _, _, _, _, _, _, _, _, _, _, _, _, _, _, _, _, _, _, _, _, _, _, _, _, _, _, _, _, _, _, _, _, _, _, _, _, _, _, _, _, _, _, _]) (pend' := []) [8, 22] rfl rfl rfl rfl rfl (q_store rfl rfl TySz.h rfl rfl (by repeat (first | exact List.Mem.head _ | assumption | apply List.Mem.tail)) rfl) (by repeat (first | exact Upd.head | apply Upd.tail)) rfl (by simp) ?_
              refine TD.fin ?_
              refine TK.maskL [1, 6, 7, 8] ?_
              refine TK.kp ((jc1, _) :: (jc2, _) :: (j7, _) :: (j8, _) :: (jx, _) :: (jb, _) :: (jl, _) :: (0, _) :: (1, _) :: (s, _) :: (e, _) :: []) ?_
              exact hcont jc1 jc2 j7 j8
        · refine ⟨[], _, [], [0, 2, 4, 5], rfl, rfl, rfl, rfl, ?_⟩
          refine exK_newC (envf := fun _ => [_, _, _, _, _, _, _, _, _, _, _, _, _, _, _, _, _, _, _, _, _, _, _, _, _, _, _, _, _, _, _, _, _, _, _, _, _, _, _, _, _, _, _, _, _, _, _, _, _, _, _, _, _, _, _, _, _, _, _]) rfl (n_makeChan rfl Und.h InfO.h) (fun _ => rfl) (by simp) fun jc2 hjc2 => ?_
          refine TD.c2 (i1 := 0) (i2 := 2) (pend1 := []) (pend2 := []) (L1 := [2, 4, 5]) (L2 := [0, 4, 5]) [] [] rfl rfl rfl rfl rfl rfl rfl ?_ ?_
          · refine exK_newC (envf := fun _ => [_, _, _, _, _, _, _, _, _, _, _, _, _, _, _, _, _, _, _, _, _, _, _, _, _, _, _, _, _, _, _, _, _, _, _, _, _, _, _, _, _, _, _, _, _, _, _, _, _, _, _, _, _, _, _, _, _, _, _]) rfl (n_makeChan rfl Und.h InfO.h) (fun _ => rfl) (by simp) fun jc1 hjc1 => ?_
            refine TD.cnewP (pend' := []) [] rfl rfl rfl rfl rfl (n_allocA rfl TyZA.h) (fun _ => putS rfl (by simp only [List.set]; rfl)) (by simp) fun j7 hj7 => ?_
            refine TD.cst (env' := [_, _, _, _, _, _, _, _, _, _, _, _, _, _, _, _, _, _, _, _, _, _, _, _, _, _, _, _, _, _, _, _, _, _, _, _, _, _, _, _, _, _, _, _, _, _, _, _, _, _, _, _, _, _, _, _, _, _, _]) (pend' := []) [7, 21] rfl rfl rfl rfl rfl (q_store rfl rfl TySz.h rfl rfl (by repeat (first | exact List.Mem.head _ | assumption | apply List.Mem.tail)) rfl) (by repeat (first | exact Upd.head | apply Upd.tail)) rfl (by simp) ?_
            refine TD.cst (env' := [_, _, _, _, _, _, _, _, _, _, _, _, _, _, _, _, _, _, _, _, _, _, _, _, _, _, _, _, _, _, _, _, _, _, _, _, _, _, _, _, _, _, _, _, _, _, _, _, _, _, _, _, _, _, _, _, _, _, _]) (pend' := []) [8, 22] rfl rfl rfl rfl rfl (q_store rfl rfl TySz.h rfl rfl (by repeat (first | exact List.Mem.head _ | assumption | apply List.Mem.tail)) rfl) (by repeat (first | exact Upd.head | apply Upd.tail)) rfl (by simp) ?_
            refine TD.fin ?_
            refine TK.maskL [1, 6, 7, 8] ?_
            refine TK.kp ((jc1, _) :: (jc2, _) :: (j7, _) :: (j8, _) :: (jx, _) :: (jb, _) :: (jl, _) :: (0, _) :: (1, _) :: (s, _) :: (e, _) :: []) ?_
            exact hcont jc1 jc2 j7 j8
          · refine exK_newP (envf := fun _ => [_, _, _, _, _, _, _, _, _, _, _, _, _, _, _, _, _, _, _, _, _, _, _, _, _, _, _, _, _, _, _, _, _, _, _, _, _, _, _, _, _, _, _, _, _, _, _, _, _, _, _, _, _, _, _, _, _, _, _]) rfl (n_allocA rfl TyZA.h) (fun _ => rfl) (by simp) fun j7 hj7 => ?_
            refine TD.c (pend' := []) [] rfl rfl rfl rfl (exK_newC (envf := fun _ => [_, _, _, _, _, _, _, _, _, _, _, _, _, _, _, _, _, _, _, _, _, _, _, _, _, _, _, _, _, _, _, _, _, _, _, _, _, _, _, _, _, _, _, _, _, _, _, _, _, _, _, _, _, _, _, _, _, _, _]) rfl (n_makeChan rfl Und.h InfO.h) (fun _ => rfl) (by simp) fun jc1 hjc1 => ?_)
            refine TD.cst (env' := [_, _, _, _, _, _, _, _, _, _, _, _, _, _, _, _, _, _, _, _, _, _, _, _, _, _, _, _, _, _, _, _, _, _, _, _, _, _, _, _, _, _, _, _, _, _, _, _, _, _, _, _, _, _, _, _, _, _, _]) (pend' := []) [7, 21] rfl rfl rfl rfl rfl (q_store rfl rfl TySz.h rfl rfl (by repeat (first | exact List.Mem.head _ | assumption | apply List.Mem.tail)) rfl) (by repeat (first | exact Upd.head | apply Upd.tail)) rfl (by simp) ?_
            refine TD.cst (env' := [_, _, _, _, _, _, _, _, _, _, _, _, _, _, _, _, _, _, _, _, _, _, _, _, _, _, _, _, _, _, _, _, _, _, _, _, _, _, _, _, _, _, _, _, _, _, _, _, _, _, _, _, _, _, _, _, _, _, _]) (pend' := []) [8, 22] rfl rfl rfl rfl rfl (q_store rfl rfl TySz.h rfl rfl (by repeat (first | exact List.Mem.head _ | assumption | apply List.Mem.tail)) rfl) (by repeat (first | exact Upd.head | apply Upd.tail)) rfl (by simp) ?_
            refine TD.fin ?_
            refine TK.maskL [1, 6, 7, 8] ?_
            refine TK.kp ((jc1, _) :: (jc2, _) :: (j7, _) :: (j8, _) :: (jx, _) :: (jb, _) :: (jl, _) :: (0, _) :: (1, _) :: (s, _) :: (e, _) :: []) ?_
            exact hcont jc1 jc2 j7 j8
        · refine ⟨[], _, [], [0, 1, 4, 5], rfl, rfl, rfl, rfl, ?_⟩
          refine exK_newP (envf := fun _ => [_, _, _, _, _, _, _, _, _, _, _, _, _, _, _, _, _, _, _, _, _, _, _, _, _, _, _, _, _, _, _, _, _, _, _, _, _, _, _, _, _, _, _, _, _, _, _, _, _, _, _, _, _, _, _, _, _, _, _]) rfl (n_allocA rfl TyZA.h) (fun _ => rfl) (by simp) fun j7 hj7 => ?_
          refine TD.c2 (i1 := 0) (i2 := 1) (pend1 := []) (pend2 := []) (L1 := [1, 4, 5]) (L2 := [0, 4, 5]) [] [] rfl rfl rfl rfl rfl rfl rfl ?_ ?_
          · refine exK_newC (envf := fun _ => [_, _, _, _, _, _, _, _, _, _, _, _, _, _, _, _, _, _, _, _, _, _, _, _, _, _, _, _, _, _, _, _, _, _, _, _, _, _, _, _, _, _, _, _, _, _, _, _, _, _, _, _, _, _, _, _, _, _, _]) rfl (n_makeChan rfl Und.h InfO.h) (fun _ => rfl) (by simp) fun jc1 hjc1 => ?_
            refine TD.c2 (i1 := 1) (i2 := 4) (pend1 := []) (pend2 := []) (L1 := [4, 5]) (L2 := [1, 5]) [] [7, 21] rfl rfl rfl rfl rfl rfl rfl ?_ ?_
            · refine exK_newC (envf := fun _ => [_, _, _, _, _, _, _, _, _, _, _, _, _, _, _, _, _, _, _, _, _, _, _, _, _, _, _, _, _, _, _, _, _, _, _, _, _, _, _, _, _, _, _, _, _, _, _, _, _, _, _, _, _, _, _, _, _, _, _]) rfl (n_makeChan rfl Und.h InfO.h) (fun _ => rfl) (by simp) fun jc2 hjc2 => ?_
              refine TD.cst (env' := [_, _, _, _, _, _, _, _, _, _, _, _, _, _, _, _, _, _, _, _, _, _, _, _, _, _, _, _, _, _, _, _, _, _, _, _, _, _, _, _, _, _, _, _, _, _, _, _, _, _, _, _, _, _, _, _, _, _, _]) (pend' := []) [7, 21] rfl rfl rfl rfl rfl (q_store rfl rfl TySz.h rfl rfl (by repeat (first | exact List.Mem.head _ | assumption | apply List.Mem.tail)) rfl) (by repeat (first | exact Upd.head | apply Upd.tail)) rfl (by simp) ?_
              refine TD.cst (env' := [_, _, _, _, _, _, _, _, _, _, _, _, _, _, _, _, _, _, _, _, _, _, _, _, _, _, _, _, _, _, _, _, _, _, _, _, _, _, _, _, _, _, _, _, _, _, _, _, _, _, _, _, _, _, _, _, _, _, _]) (pend' := []) [8, 22] rfl rfl rfl rfl rfl (q_store rfl rfl TySz.h rfl rfl (by repeat (first | exact List.Mem.head _ | assumption | apply List.Mem.tail)) rfl) (by repeat (first | exact Upd.head | apply Upd.tail)) rfl (by simp) ?_
              refine TD.fin ?_
              refine TK.maskL [1, 6, 7, 8] ?_
              refine TK.kp ((jc1, _) :: (jc2, _) :: (j7, _) :: (j8, _) :: (jx, _) :: (jb, _) :: (jl, _) :: (0, _) :: (1, _) :: (s, _) :: (e, _) :: []) ?_
              exact hcont jc1 jc2 j7 j8
            · refine exK_st (env' := [_, _, _, _, _, _, _, _, _, _, _, _, _, _, _, _, _, _, _, _, _, _, _, _, _, _, _, _, _, _, _, _, _, _, _, _, _, _, _, _, _, _, _, _, _, _, _, _, _, _, _, _, _, _, _, _, _, _, _]) rfl (q_store rfl rfl TySz.h rfl rfl (by repeat (first | exact List.Mem.head _ | assumption | apply List.Mem.tail)) rfl) (by repeat (first | exact Upd.head | apply Upd.tail)) rfl (by simp) ?_
              refine TD.c (pend' := []) [] rfl rfl rfl rfl (exK_newC (envf := fun _ => [_, _, _, _, _, _, _, _, _, _, _, _, _, _, _, _, _, _, _, _, _, _, _, _, _, _, _, _, _, _, _, _, _, _, _, _, _, _, _, _, _, _, _, _, _, _, _, _, _, _, _, _, _, _, _, _, _, _, _]) rfl (n_makeChan rfl Und.h InfO.h) (fun _ => rfl) (by simp) fun jc2 hjc2 => ?_)
              refine TD.cst (env' := [_, _, _, _, _, _, _, _, _, _, _, _, _, _, _, _, _, _, _, _, _, _, _, _, _, _, _, _, _, _, _, _, _, _, _, _, _, _, _, _, _, _, _, _, _, _, _, _, _, _, _, _, _, _, _, _, _, _, _]) (pend' := []) [8, 22] rfl rfl rfl rfl rfl (q_store rfl rfl TySz.h rfl rfl (by repeat (first | exact List.Mem.head _ | assumption | apply List.Mem.tail)) rfl) (by repeat (first | exact Upd.head | apply Upd.tail)) rfl (by simp) ?_
              refine TD.fin ?_
              refine TK.maskL [1, 6, 7, 8] ?_
              refine TK.kp ((jc1, _) :: (jc2, _) :: (j7, _) :: (j8, _) :: (jx, _) :: (jb, _) :: (jl, _) :: (0, _) :: (1, _) :: (s, _) :: (e, _) :: []) ?_
              exact hcont jc1 jc2 j7 j8
          · refine exK_newC (envf := fun _ => [_, _, _, _, _, _, _, _, _, _, _, _, _, _, _, _, _, _, _, _, _, _, _, _, _, _, _, _, _, _, _, _, _, _, _, _, _, _, _, _, _, _, _, _, _, _, _, _, _, _, _, _, _, _, _, _, _, _, _]) rfl (n_makeChan rfl Und.h InfO.h) (fun _ => rfl) (by simp) fun jc2 hjc2 => ?_
            refine TD.c (pend' := []) [] rfl rfl rfl rfl (exK_newC (envf := fun _ => [_, _, _, _, _, _, _, _, _, _, _, _, _, _, _, _, _, _, _, _, _, _, _, _, _, _, _, _, _, _, _, _, _, _, _, _, _, _, _, _, _, _, _, _, _, _, _, _, _, _, _, _, _, _, _, _, _, _, _]) rfl (n_makeChan rfl Und.h InfO.h) (fun _ => rfl) (by simp) fun jc1 hjc1 => ?_)
            refine TD.cst (env' := [_, _, _, _, _, _, _, _, _, _, _, _, _, _, _, _, _, _, _, _, _, _, _, _, _, _, _, _, _, _, _, _, _, _, _, _, _, _, _, _, _, _, _, _, _, _, _, _, _, _, _, _, _, _, _, _, _, _, _]) (pend' := []) [7, 21] rfl rfl rfl rfl rfl (q_store rfl rfl TySz.h rfl rfl (by repeat (first | exact List.Mem.head _ | assumption | apply List.Mem.tail)) rfl) (by repeat (first | exact Upd.head | apply Upd.tail)) rfl (by simp) ?_
            refine TD.cst (env' := [_, _, _, _, _, _, _, _, _, _, _, _, _, _, _, _, _, _, _, _, _, _, _, _, _, _, _, _, _, _, _, _, _, _, _, _, _, _, _, _, _, _, _, _, _, _, _, _, _, _, _, _, _, _, _, _, _, _, _]) (pend' := []) [8, 22] rfl rfl rfl rfl rfl (q_store rfl rfl TySz.h rfl rfl (by repeat (first | exact List.Mem.head _ | assumption | apply List.Mem.tail)) rfl) (by repeat (first | exact Upd.head | apply Upd.tail)) rfl (by simp) ?_
            refine TD.fin ?_
            refine TK.maskL [1, 6, 7, 8] ?_
            refine TK.kp ((jc1, _) :: (jc2, _) :: (j7, _) :: (j8, _) :: (jx, _) :: (jb, _) :: (jl, _) :: (0, _) :: (1, _) :: (s, _) :: (e, _) :: []) ?_
            exact hcont jc1 jc2 j7 j8
    · refine TK.phase (fun cg cn => msgN b cg cn) (msgN_or b) (by simp [knownC]) (by simp [bookC]) (flat_ne hne) fun φ0 n0 cg cn hcc hag hn0 hsh hcs => ?_
      refine TK.kp ((j7, _) :: (j8, _) :: (jx, _) :: (jb, _) :: (jl, _) :: (0, _) :: (1, _) :: (s, _) :: (e, _) :: []) ?_
      refine TK.normK (K' := (j7, .cells [.v (.chan (some cg))] 111 false) :: (j8, .cells [.v (.chan (some cn))] 112 false) :: (jx, .cells (knownC b s e (.sl jl 0 (statesM b).length) jm) 97 false) :: (jb, .cells (bookC b s e) 27 false) :: (jl, listO (statesM b)) :: (0, checksG) :: (1, saysG) :: (s, saysO b) :: (e, seenO b) :: []) (by simp [knownC, unrow, intA]; rfl) ?_
      refine au [4, 4, 5, 7, 9, 1, 3, 13] ?_
      refine TK.maskL [1, 6, 7, 8, 24, 25] ?_
      refine TK.loopJ (fun q env K => env = slotsA 59 [(1, .ptr jb 0), (6, .ptr jx 0), (7, .ptr j7 0), (8, .ptr j8 0), (24, intA b.steps), (25, intA q)] ∧ K = (j7, .cells [.v (.chan (some cg))] 111 false) :: (j8, .cells [.v (.chan (some cn))] 112 false) :: (jx, .cells (knownC b s e (.sl jl 0 (statesM b).length) jm) 97 false) :: (jb, .cells (bookC b s e) 27 false) :: (jl, listO (statesM b)) :: (0, checksG) :: (1, saysG) :: (s, saysO b) :: (e, seenO b) :: []) b.steps.toNat ⟨rfl, rfl⟩ fun q env K hq hI' hnext => ?_
      obtain ⟨rfl, rfl⟩ := hI'
      refine au [4, 5, 6, 3, 4, 20] ?_
      refine ⟨fun hc1 => ?_, fun hc1 => ?_⟩
      · simp only [decide_eq_true_eq] at hc1
        have hql : q < b.steps.toNat := by omega
        have hst16 := hb.steps
        refine au [12, 4, 13, 4, 5, 1, 22] ?_
        intro j9 hj9
        refine au [17, 3, 5, 32] ?_
        refine TK.nd fun hnd => ?_
        refine TK.spawn (j9 := j9) (l9 := [intA (q : Int)]) (e9 := 3) (K' := (j7, .cells [.v (.chan (some cg))] 111 false) :: (j8, .cells [.v (.chan (some cn))] 112 false) :: (jx, .cells (knownC b s e (.sl jl 0 (statesM b).length) jm) 97 false) :: (jb, .cells (bookC b s e) 27 false) :: (jl, listO (statesM b)) :: (0, checksG) :: (1, saysG) :: (s, saysO b) :: (e, seenO b) :: []) rfl rfl rfl rfl rfl (S := [(j7, .cells [.v (.chan (some cg))] 111 false), (j8, .cells [.v (.chan (some cn))] 112 false), (jx, .cells (knownC b s e (.sl jl 0 (statesM b).length) jm) 97 false), (jb, .cells (bookC b s e) 27 false), (jl, listO (statesM b))]) (fun x hx => ?_) .head (by simp) (fun φ A Hc vs hv hg hr hrel => ?_) ?_
        rotate_left 2
        · refine au [3, 14, 5, 23, 1, 3] ?_
          refine TK.maskL [1, 6, 7, 8, 24, 25] ?_
          refine TK.kp (((j7, _) :: (j8, _) :: (jx, _) :: (jb, _) :: (jl, _) :: (0, _) :: (1, _) :: (s, _) :: (e, _) :: [])) ?_
          exact hnext _ _ hql ⟨rfl, rfl⟩
        · simp only [List.mem_cons, List.not_mem_nil, or_false] at hx
          rcases hx with rfl | rfl | rfl | rfl | rfl
          · exact ⟨by simp, (hsh j7 (by simp)).1, (hsh j7 (by simp)).2, _, _, by simp, rfl⟩
          · exact ⟨by simp, (hsh j8 (by simp)).1, (hsh j8 (by simp)).2, _, _, by simp, rfl⟩
          · exact ⟨by simp, (hsh jx (by simp)).1, (hsh jx (by simp)).2, _, _, by simp [knownC], rfl⟩
          · exact ⟨by simp, (hsh jb (by simp)).1, (hsh jb (by simp)).2, _, _, by simp [bookC], rfl⟩
          · exact ⟨by simp, (hsh jl (by simp)).1, (hsh jl (by simp)).2, _, _, flat_ne hne, rfl⟩
        · refine tree_of (K := (j9, .cells [intA (q : Int)] 3 false) :: [(j7, .cells [.v (.chan (some cg))] 111 false), (j8, .cells [.v (.chan (some cn))] 112 false), (jx, .cells (knownC b s e (.sl jl 0 (statesM b).length) jm) 97 false), (jb, .cells (bookC b s e) 27 false), (jl, listO (statesM b))]) Cal.h Tryz.func80 rfl hv ?_ hg hr hrel fun Y2 k1 k2 k3 k4 => worker_ok hb hql rfl Y2 k1 k2 k3 k4
          simp only [keys, List.map_cons, List.map_nil, List.nodup_cons, List.mem_cons, List.not_mem_nil, or_false, not_or] at hnd ⊢
          obtain ⟨⟨a1, a2, a3, a4, a5, _⟩, ⟨b1, b2, b3, b4, _⟩, ⟨c1, c2, c3, _⟩, ⟨d1, d2, _⟩, ⟨g1, _⟩, _⟩ := hnd
          exact ⟨⟨a1, a2, a3, a4, a5⟩, ⟨b1, b2, b3, b4⟩, ⟨c1, c2, c3⟩, ⟨d1, d2⟩, g1, not_false, List.nodup_nil⟩
      simp only [decide_eq_false_iff_not] at hc1
      obtain rfl : q = b.steps.toNat := by omega
      refine au [16, 4, 5, 2] ?_
      refine TK.virt 10 114 2 rfl fun ja0 hja0 => ?_
      refine au [3, 4, 4, 5, 7, 9, 1, 3, 13] ?_
      refine TK.maskL [1, 6, 7, 8, 10, 31, 32] ?_
      refine TK.loopR (fun n R env K => ∃ (rec : List Nat) (ja : Nat), n = b.steps.toNat - rec.length ∧ rec.Nodup ∧ (∀ q, R q = true ↔ q ∈ rec) ∧ (∀ q ∈ rec, q < b.steps.toNat) ∧ env = slotsA 59 [(1, .ptr jb 0), (6, .ptr jx 0), (7, .ptr j7 0), (8, .ptr j8 0), (10, .row ja (arcsOf b rec).length), (31, intA b.steps), (32, intA rec.length)] ∧ K = (ja, .row ((arcsOf b rec).flatMap arcC) 114 2) :: (j7, .cells [.v (.chan (some cg))] 111 false) :: (j8, .cells [.v (.chan (some cn))] 112 false) :: (jx, .cells (knownC b s e (.sl jl 0 (statesM b).length) jm) 97 false) :: (jb, .cells (bookC b s e) 27 false) :: (jl, listO (statesM b)) :: (0, checksG) :: (1, saysG) :: (s, saysO b) :: (e, seenO b) :: []) b.steps.toNat ⟨[], ja0, rfl, List.nodup_nil, by simp, by simp, rfl, rfl⟩ fun n R env K hI' hnext => ?_
      obtain ⟨rec, ja, rfl, hrn, hRr, hrl, rfl, rfl⟩ := hI'
      have hal := arcsOf_len b rec
      refine au [4, 5, 6, 3, 4, 20] ?_
      refine ⟨fun hc2 => ?_, fun hc2 => ?_⟩
      · simp only [decide_eq_true_eq] at hc2
        have hrlt : rec.length < b.steps.toNat := by omega
        have hst16b := hb.steps
        refine au [12, 4, 13, 4, 4, 5, 9, 3, 5, 9, 3, 4, 5] ?_
        refine TK.recv rfl rfl rfl rfl rfl InfO.h rfl InfO.h rfl (by obtain ⟨q, h1, h2⟩ := rec_some hrn hrlt; exact ⟨q, h1, by rw [Bool.eq_false_iff]; exact fun h => h2 ((hRr q).1 h)⟩) fun q hq hRq => ?_
        have hqr : q ∉ rec := fun h => by rw [(hRr q).2 h] at hRq; cases hRq
        have hrn2 : (rec ++ [q]).Nodup := List.nodup_append.2 ⟨hrn, by simp, fun x hx y hy => by rw [List.mem_singleton.1 hy]; exact fun h => hqr (h ▸ hx)⟩
        have hR2 : ∀ x, Go.ConcN.upd R q true x = true ↔ x ∈ rec ++ [q] := fun x => by
          by_cases hx : x = q
          · subst hx; simp [Go.ConcN.upd]
          · simp [Go.ConcN.upd, hx, hRr]
        have hrl2 : ∀ x ∈ rec ++ [q], x < b.steps.toNat := fun x hx => by
          rcases List.mem_append.1 hx with hx | hx
          · exact hrl x hx
          · rw [List.mem_singleton.1 hx]; exact hq
        rcases hak : arcK b q with _ | wq
        rotate_left
        · have hma := msgN_S (cg := cg) (cn := cn) hak
          rw [hma.1, if_pos rfl]
          refine au [10, 6, 6, 3, 13, 20] ?_
          refine ⟨fun hc3 => ?_, fun hc3 => ?_⟩
          · 
            refine au [4, 5, 10, 22] ?_
            intro j11 hj11
            refine au [17, 3, 5, 1, 8] ?_
            refine TK.newR rfl rfl rfl (n_buildSlice (l := [_, _]) rfl SlEl.h TyZ.h (by decide) (by decide) rfl) (fun _ => putS rfl (by simp only [List.set]; rfl)) fun j4 hj4 => ?_
            refine TK.appR rfl rfl rfl (a_app rfl ApOf.h rfl (by repeat (first | exact List.Mem.head _ | assumption | apply List.Mem.tail)) (flat_len arcC 2 (fun _ => rfl) _) rfl (src_row (ln := [_, _]) (by repeat (first | exact List.Mem.head _ | assumption | apply List.Mem.tail)) (by decide) (by simp) rfl) (by omega) rfl (by unfold maxLen; omega) (by omega)) (fun _ => (by repeat (first | exact Upd.head | apply Upd.tail))) (fun _ => putS rfl (by simp only [List.set]; rfl)) fun ja2 => ?_
            refine au [2, 3, 14, 14, 5, 23, 1, 3] ?_
            refine TK.maskL [1, 6, 7, 8, 10, 31, 32] ?_
            refine TK.kp (((ja2, _) :: (j7, _) :: (j8, _) :: (jx, _) :: (jb, _) :: (jl, _) :: (0, _) :: (1, _) :: (s, _) :: (e, _) :: [])) ?_
            exact hnext _ _ _ _ (by rw [List.length_append]; simp; omega) ⟨rec ++ [q], ja2, rfl, hrn2, hR2, hrl2, by rw [arcsOf_S hma.2, List.length_append, List.length_append]; rfl, by rw [arcsOf_S hma.2, List.flatMap_append]; rfl⟩
          exact absurd hc3 (by decide)
        · have hma := msgN_N (cg := cg) (cn := cn) hak
          rw [hma.1, if_neg (fun h => hcc h.symm)]
          refine au [10, 6, 6, 3, 13, 20] ?_
          refine ⟨fun hc3 => ?_, fun hc3 => ?_⟩
          · exact absurd hc3 (by decide)
          
          refine au [20] ?_
          refine ⟨fun hc4 => ?_, fun hc4 => ?_⟩
          · 
            refine au [12, 14, 14, 5, 23, 1, 3] ?_
            refine TK.maskL [1, 6, 7, 8, 10, 31, 32] ?_
            refine TK.kp (((ja, _) :: (j7, _) :: (j8, _) :: (jx, _) :: (jb, _) :: (jl, _) :: (0, _) :: (1, _) :: (s, _) :: (e, _) :: [])) ?_
            exact hnext _ _ _ _ (by rw [List.length_append]; simp; omega) ⟨rec ++ [q], ja, rfl, hrn2, hR2, hrl2, by rw [arcsOf_N hma.2, List.length_append]; rfl, by rw [arcsOf_N hma.2]⟩
          exact absurd hc4 (by decide)
      simp only [decide_eq_false_iff_not] at hc2
      have hrle : rec.length ≤ b.steps.toNat := by have := nodup_sub (l2 := List.range b.steps.toNat) hrn (fun x hx => List.mem_range.2 (hrl x hx)); rwa [List.length_range] at this
      have hrall := rec_all hrn hrl (by omega)
      refine TK.stopM (fun q hq => (hRr q).2 (hrall q hq)) (by intro x hx; repeat (first | (cases hx; done) | (rcases List.mem_cons.1 hx with rfl | hx; · trivial))) hcs hag hn0 ?_
      have hsame := arcsOf_same (b := b) (rec := rec) (N := b.steps.toNat) fun q => ⟨hrl q, hrall q⟩
      have hst16c := hb.steps
      refine au [16, 4, 4, 5, 1, 28, 6, 3, 20] ?_
      refine ⟨fun hc5 => ?_, fun hc5 => ?_⟩
      · have hnone : arcsOf b (List.range b.steps.toNat) = [] := List.eq_nil_iff_forall_not_mem.2 fun y hy => by
          have h0 : arcsOf b rec = [] := List.eq_nil_of_length_eq_zero (by have h : ((arcsOf b rec).length : Int) = 0 := (by simpa using hc5); omega)
          have := (hsame y).2 hy
          rw [h0] at this
          cases this
        refine au [4, 5, 2, 2, 2, 2, 3] ?_
        refine TK.rt hret [(0, _), (1, _), (s, _), (e, _)] ?_
        exact ⟨by unfold narrowApi; rw [if_neg (show ¬ (askM b true ≠ 0) by rw [hb0]; decide), if_pos hnone]; rfl, rfl⟩
      obtain ⟨p, ps, hps⟩ : ∃ p ps, arcsOf b rec = p :: ps := by
        cases h : arcsOf b rec with
        | nil => rw [h] at hc5; exact absurd hc5 (by decide)
        | cons p ps => exact ⟨p, ps, rfl⟩
      obtain ⟨p2, ps2, hps2⟩ : ∃ p ps, arcsOf b (List.range b.steps.toNat) = p :: ps := by
        cases h : arcsOf b (List.range b.steps.toNat) with
        | nil =>
          have := (hsame p).1 (by rw [hps]; simp)
          rw [h] at this; cases this
        | cons p ps => exact ⟨p, ps, rfl⟩
      have hsome : arcsOf b (List.range b.steps.toNat) ≠ [] := by rw [hps2]; simp
      have hres : firstL ltArc p ps = narrowM b := by
        unfold narrowM
        rw [hps2]
        show firstL ltArc p ps = firstL ltArc p2 ps2
        exact firstL_same fun y => by rw [← hps, ← hps2]; exact hsame y
      rw [hps] at hal ⊢
      refine au [12, 4] ?_
      refine TK.draw [0, 1, 2, 3, 4, 5, 6, 7] [0, 1, 2, 3, 4, 5, 6, 7] (by kernel_rfl) (by kernel_rfl) ?_
      refine TD.q [10] [] rfl rfl rfl rfl (by simp) (q_move rfl rfl) (putS rfl (by simp only [List.set]; rfl)) ?_
      refine TD.q [49] [(_, _)] rfl rfl rfl rfl (fun _ h => by rw [List.mem_singleton.1 h]; repeat (first | exact List.Mem.head _ | apply List.Mem.tail)) (q_indexRow rfl rfl rfl SlEl.h (List.Mem.head _) (by first | omega | (simp only [List.length_cons]; omega)) (by first | omega | (simp only [List.length_cons]; omega))) (putS rfl (by simp only [List.set]; rfl)) ?_
      refine TD.q [50] [(_, _)] rfl rfl rfl rfl (fun _ h => by rw [List.mem_singleton.1 h]; repeat (first | exact List.Mem.head _ | apply List.Mem.tail)) (q_load rfl rfl TySz.h (List.Mem.head _) (arc_take (k := 0) (by simp))) (putS rfl (by simp only [List.set]; rfl)) ?_
      refine TD.q [10] [] rfl rfl rfl rfl (by simp) (q_move rfl rfl) (putS rfl (by simp only [List.set]; rfl)) ?_
      refine TD.q [52] [(_, _)] rfl rfl rfl rfl (fun _ h => by rw [List.mem_singleton.1 h]; repeat (first | exact List.Mem.head _ | apply List.Mem.tail)) (q_sliceRow rfl rfl SlEl.h (List.Mem.head _) rfl rfl (by first | omega | (simp only [List.length_cons]; omega)) (by first | omega | (simp only [List.length_cons]; omega)) rfl) (putS rfl (by simp only [List.set]; rfl)) ?_
      refine TD.c2 (i1 := 5) (i2 := 6) (pend1 := [⟨3, [10], []⟩, ⟨1, [49], [(_, _)]⟩, ⟨0, [10], []⟩]) (pend2 := [⟨4, [52], [(_, _)]⟩, ⟨3, [10], []⟩, ⟨2, [50], [(_, _)]⟩, ⟨1, [49], [(_, _)]⟩, ⟨0, [10], []⟩]) (L1 := [6, 7]) (L2 := [5, 7]) [51, 53] [] rfl rfl rfl rfl rfl rfl rfl ?_ ?_
      · refine exK_callO rfl rfl Cal.h rfl (firstArc_ok hT (o := p) (xs := ps) (lt := ltArc) (fv := .fn 82 [] []) (jo := ja) (off := 2) (obo := .row ((p :: ps).flatMap arcC) 114 2) (K := [(ja, .row ((p :: ps).flatMap arcC) 114 2)]) (by simp at hal; omega) (by simp) (fun k hk => by rw [show 2 + ((k : Int)).toNat * 2 = (k + 1) * 2 by rw [Int.toNat_natCast]; omega]; exact arc_take (xs := p :: ps) (k := k + 1) (by simpa using hk)) (fun x hx y hy => CallFK.frame (.none _) (callFK_fn Cal.h (narrow2_ok hT)))) (by repeat (first | exact Split.none _ | exact Split.all _ | (apply Split.rem; repeat (first | exact Rem.head | apply Rem.tail)) | apply Split.right)) fun r5 K6 h7 => ⟨?_, ?_⟩
        · rcases h7 with ⟨rfl, rfl⟩
          all_goals simp
        obtain ⟨rfl, rfl⟩ := h7
        try simp only [List.cons_append, List.nil_append]
        refine TD.norm (env' := [_, _, _, _, _, _, _, _, _, _, _, _, _, _, _, _, _, _, _, _, _, _, _, _, _, _, _, _, _, _, _, _, _, _, _, _, _, _, _, _, _, _, _, _, _, _, _, _, _, _, _, _, _, _, _, _, _, _, _]) rfl ?_
        refine TD.cnewP (pend' := [⟨3, [10], []⟩, ⟨1, [49], [(_, _)]⟩, ⟨0, [10], []⟩]) [] rfl rfl rfl rfl rfl (n_allocA rfl TyZA.h) (fun _ => putS rfl (by simp only [List.set]; rfl)) (by simp) fun j12 hj12 => ?_
        refine TD.cst (env' := [_, _, _, _, _, _, _, _, _, _, _, _, _, _, _, _, _, _, _, _, _, _, _, _, _, _, _, _, _, _, _, _, _, _, _, _, _, _, _, _, _, _, _, _, _, _, _, _, _, _, _, _, _, _, _, _, _, _, _]) (pend' := []) [12, 54] rfl rfl rfl rfl rfl (q_store rfl rfl TySz.h rfl rfl (by repeat (first | exact List.Mem.head _ | assumption | apply List.Mem.tail)) rfl) (by repeat (first | exact Upd.head | apply Upd.tail)) rfl (by simp) ?_
        refine TD.fin ?_
        refine au [4] ?_
        refine TK.draw [0, 1, 2, 3, 4, 5, 6, 7] [0, 1, 4, 2, 3, 5, 6, 7] (by kernel_rfl) (by kernel_rfl) ?_
        refine TD.q [12] [] rfl rfl rfl rfl (by simp) (q_fieldAddr rfl rfl FldOf.h (by decide)) (putS rfl (by simp only [List.set]; rfl)) ?_
        refine TD.q [55] [(_, _)] rfl rfl rfl rfl (fun _ h => by rw [List.mem_singleton.1 h]; repeat (first | exact List.Mem.head _ | apply List.Mem.tail)) (q_load1 rfl rfl TySz.h (List.Mem.head _) rfl) (putS rfl (by simp only [List.set]; rfl)) ?_
        refine TD.q [12] [] rfl rfl rfl rfl (by simp) (q_fieldAddr rfl rfl FldOf.h (by decide)) (putS rfl (by simp only [List.set]; rfl)) ?_
        refine TD.q [57] [(_, _)] rfl rfl rfl rfl (fun _ h => by rw [List.mem_singleton.1 h]; repeat (first | exact List.Mem.head _ | apply List.Mem.tail)) (q_load1 rfl rfl TySz.h (List.Mem.head _) rfl) (putS rfl (by simp only [List.set]; rfl)) ?_
        refine TD.cq (env' := [_, _, _, _, _, _, _, _, _, _, _, _, _, _, _, _, _, _, _, _, _, _, _, _, _, _, _, _, _, _, _, _, _, _, _, _, _, _, _, _, _, _, _, _, _, _, _, _, _, _, _, _, _, _, _, _, _, _, _]) (pend' := [⟨3, [57], [(_, _)]⟩, ⟨2, [12], []⟩]) [56] rfl rfl rfl rfl rfl (q_assign rfl rfl) rfl (by simp) ?_
        refine TD.cq (env' := [_, _, _, _, _, _, _, _, _, _, _, _, _, _, _, _, _, _, _, _, _, _, _, _, _, _, _, _, _, _, _, _, _, _, _, _, _, _, _, _, _, _, _, _, _, _, _, _, _, _, _, _, _, _, _, _, _, _, _]) (pend' := []) [58] rfl rfl rfl rfl rfl (q_assign rfl rfl) rfl (by simp) ?_
        refine TD.cq (env' := [_, _, _, _, _, _, _, _, _, _, _, _, _, _, _, _, _, _, _, _, _, _, _, _, _, _, _, _, _, _, _, _, _, _, _, _, _, _, _, _, _, _, _, _, _, _, _, _, _, _, _, _, _, _, _, _, _, _, _]) (pend' := []) [] rfl rfl rfl rfl rfl (q_assign rfl rfl) rfl (by simp) ?_
        refine TD.cq (env' := [_, _, _, _, _, _, _, _, _, _, _, _, _, _, _, _, _, _, _, _, _, _, _, _, _, _, _, _, _, _, _, _, _, _, _, _, _, _, _, _, _, _, _, _, _, _, _, _, _, _, _, _, _, _, _, _, _, _, _]) (pend' := []) [] rfl rfl rfl rfl rfl (q_assign rfl rfl) rfl (by simp) ?_
        refine TD.fin ?_
        refine au [] ?_
        refine TK.rt hret [(0, _), (1, _), (s, _), (e, _)] ?_
        exact ⟨by unfold narrowApi; rw [if_neg (show ¬ (askM b true ≠ 0) by rw [hb0]; decide), if_neg hsome, ← hres]; rfl, rfl⟩
      · refine exK_newP (envf := fun _ => [_, _, _, _, _, _, _, _, _, _, _, _, _, _, _, _, _, _, _, _, _, _, _, _, _, _, _, _, _, _, _, _, _, _, _, _, _, _, _, _, _, _, _, _, _, _, _, _, _, _, _, _, _, _, _, _, _, _, _]) rfl (n_allocA rfl TyZA.h) (fun _ => rfl) (by simp) fun j12 hj12 => ?_
        refine TD.call' (pend' := [⟨3, [10], []⟩, ⟨1, [49], [(_, _)]⟩, ⟨0, [10], []⟩]) [51, 53] rfl rfl rfl rfl rfl rfl Cal.h rfl (firstArc_ok hT (o := p) (xs := ps) (lt := ltArc) (fv := .fn 82 [] []) (jo := ja) (off := 2) (obo := .row ((p :: ps).flatMap arcC) 114 2) (K := [(ja, .row ((p :: ps).flatMap arcC) 114 2)]) (by simp at hal; omega) (by simp) (fun k hk => by rw [show 2 + ((k : Int)).toNat * 2 = (k + 1) * 2 by rw [Int.toNat_natCast]; omega]; exact arc_take (xs := p :: ps) (k := k + 1) (by simpa using hk)) (fun x hx y hy => CallFK.frame (.none _) (callFK_fn Cal.h (narrow2_ok hT)))) (by repeat (first | exact Split.none _ | exact Split.all _ | (apply Split.rem; repeat (first | exact Rem.head | apply Rem.tail)) | apply Split.right)) fun r8 K9 h10 => ⟨?_, ?_⟩
        · rcases h10 with ⟨rfl, rfl⟩
          all_goals simp
        obtain ⟨rfl, rfl⟩ := h10
        try simp only [List.cons_append, List.nil_append]
        refine TD.norm (putS rfl (by simp only [List.set]; rfl)) ?_
        refine TD.cst (env' := [_, _, _, _, _, _, _, _, _, _, _, _, _, _, _, _, _, _, _, _, _, _, _, _, _, _, _, _, _, _, _, _, _, _, _, _, _, _, _, _, _, _, _, _, _, _, _, _, _, _, _, _, _, _, _, _, _, _, _]) (pend' := []) [12, 54] rfl rfl rfl rfl rfl (q_store rfl rfl TySz.h rfl rfl (by repeat (first | exact List.Mem.head _ | assumption | apply List.Mem.tail)) rfl) (by repeat (first | exact Upd.head | apply Upd.tail)) rfl (by simp) ?_
        refine TD.fin ?_
        refine au [4] ?_
        refine TK.draw [0, 1, 2, 3, 4, 5, 6, 7] [0, 1, 4, 2, 3, 5, 6, 7] (by kernel_rfl) (by kernel_rfl) ?_
        refine TD.q [12] [] rfl rfl rfl rfl (by simp) (q_fieldAddr rfl rfl FldOf.h (by decide)) (putS rfl (by simp only [List.set]; rfl)) ?_
        refine TD.q [55] [(_, _)] rfl rfl rfl rfl (fun _ h => by rw [List.mem_singleton.1 h]; repeat (first | exact List.Mem.head _ | apply List.Mem.tail)) (q_load1 rfl rfl TySz.h (List.Mem.head _) rfl) (putS rfl (by simp only [List.set]; rfl)) ?_
        refine TD.q [12] [] rfl rfl rfl rfl (by simp) (q_fieldAddr rfl rfl FldOf.h (by decide)) (putS rfl (by simp only [List.set]; rfl)) ?_
        refine TD.q [57] [(_, _)] rfl rfl rfl rfl (fun _ h => by rw [List.mem_singleton.1 h]; repeat (first | exact List.Mem.head _ | apply List.Mem.tail)) (q_load1 rfl rfl TySz.h (List.Mem.head _) rfl) (putS rfl (by simp only [List.set]; rfl)) ?_
        refine TD.cq (env' := [_, _, _, _, _, _, _, _, _, _, _, _, _, _, _, _, _, _, _, _, _, _, _, _, _, _, _, _, _, _, _, _, _, _, _, _, _, _, _, _, _, _, _, _, _, _, _, _, _, _, _, _, _, _, _, _, _, _, _]) (pend' := [⟨3, [57], [(_, _)]⟩, ⟨2, [12], []⟩]) [56] rfl rfl rfl rfl rfl (q_assign rfl rfl) rfl (by simp) ?_
        refine TD.cq (env' := [_, _, _, _, _, _, _, _, _, _, _, _, _, _, _, _, _, _, _, _, _, _, _, _, _, _, _, _, _, _, _, _, _, _, _, _, _, _, _, _, _, _, _, _, _, _, _, _, _, _, _, _, _, _, _, _, _, _, _]) (pend' := []) [58] rfl rfl rfl rfl rfl (q_assign rfl rfl) rfl (by simp) ?_
        refine TD.cq (env' := [_, _, _, _, _, _, _, _, _, _, _, _, _, _, _, _, _, _, _, _, _, _, _, _, _, _, _, _, _, _, _, _, _, _, _, _, _, _, _, _, _, _, _, _, _, _, _, _, _, _, _, _, _, _, _, _, _, _, _]) (pend' := []) [] rfl rfl rfl rfl rfl (q_assign rfl rfl) rfl (by simp) ?_
        refine TD.cq (env' := [_, _, _, _, _, _, _, _, _, _, _, _, _, _, _, _, _, _, _, _, _, _, _, _, _, _, _, _, _, _, _, _, _, _, _, _, _, _, _, _, _, _, _, _, _, _, _, _, _, _, _, _, _, _, _, _, _, _, _]) (pend' := []) [] rfl rfl rfl rfl rfl (q_assign rfl rfl) rfl (by simp) ?_
        refine TD.fin ?_
        refine au [] ?_
        refine TK.rt hret [(0, _), (1, _), (s, _), (e, _)] ?_
        exact ⟨by unfold narrowApi; rw [if_neg (show ¬ (askM b true ≠ 0) by rw [hb0]; decide), if_neg hsome, ← hres]; rfl, rfl⟩
end Go.Vel
end
section
set_option linter.all false
namespace Go.Proofs
open Go.Shelf
def Tryz.lays189_ren : Go.Shelf.Ren := ⟨fun | 189 => 66 | 125 => 120 | 257 => 119 | 128 => 137 | 129 => 138 | 294 => 128 | 295 => 129 | 296 => 130 | 297 => 131 | 298 => 132 | 299 => 133 | 216 => 134 | 300 => 135 | 301 => 136 | 328 => 142 | 329 => 143 | 330 => 144 | 331 => 145 | 332 => 146 | 215 => 139 | 343 => 148 | n => n, fun | 28 => 28 | 3 => 3 | 46 => 151 | 0 => 0 | 51 => 166 | 53 => 168 | 4 => 4 | 183 => 159 | 182 => 158 | 131 => 121 | 5 => 5 | 9 => 9 | 218 => 170 | 222 => 174 | 228 => 177 | 229 => 133 | n => n, fun n => n⟩
theorem Tryz.lays189 : Lays.n189 Tryz.prog Tryz.lays189_ren where
  mixed := by kernel_rfl
  f125 := Tryz.func120.trans (congrArg some (by kernel_rfl))
  f128 := Tryz.func137.trans (congrArg some (by kernel_rfl))
  f129 := Tryz.func138.trans (congrArg some (by kernel_rfl))
  f189 := Tryz.func66.trans (congrArg some (by kernel_rfl))
  f215 := Tryz.func139.trans (congrArg some (by kernel_rfl))
  f216 := Tryz.func134.trans (congrArg some (by kernel_rfl))
  f257 := Tryz.func119.trans (congrArg some (by kernel_rfl))
  f294 := Tryz.func128.trans (congrArg some (by kernel_rfl))
  f295 := Tryz.func129.trans (congrArg some (by kernel_rfl))
  f296 := Tryz.func130.trans (congrArg some (by kernel_rfl))
  f297 := Tryz.func131.trans (congrArg some (by kernel_rfl))
  f298 := Tryz.func132.trans (congrArg some (by kernel_rfl))
  f299 := Tryz.func133.trans (congrArg some (by kernel_rfl))
  f300 := Tryz.func135.trans (congrArg some (by kernel_rfl))
  f301 := Tryz.func136.trans (congrArg some (by kernel_rfl))
  f328 := Tryz.func142.trans (congrArg some (by kernel_rfl))
  f329 := Tryz.func143.trans (congrArg some (by kernel_rfl))
  f330 := Tryz.func144.trans (congrArg some (by kernel_rfl))
  f331 := Tryz.func145.trans (congrArg some (by kernel_rfl))
  f332 := Tryz.func146.trans (congrArg some (by kernel_rfl))
  f343 := Tryz.func148.trans (congrArg some (by kernel_rfl))
  t0 := Tryz.underlying0
  a0 := Tryz.isAgg0
  z0 := Tryz.sizeOf0
  v0 := Tryz.zeroValue0
  t3 := Tryz.underlying3
  a3 := Tryz.isAgg3
  z3 := Tryz.sizeOf3
  v3 := Tryz.zeroValue3
  t4 := Tryz.underlying4
  a4 := Tryz.isAgg4
  z4 := Tryz.sizeOf4
  v4 := Tryz.zeroValue4
  t5 := Tryz.underlying5
  a5 := Tryz.isAgg5
  z5 := Tryz.sizeOf5
  v5 := Tryz.zeroValue5
  t9 := Tryz.underlying9
  a9 := Tryz.isAgg9
  z9 := Tryz.sizeOf9
  v9 := Tryz.zeroValue9
  t28 := Tryz.underlying28
  a28 := Tryz.isAgg28
  z28 := Tryz.sizeOf28
  v28 := Tryz.zeroValue28
  t46 := Tryz.underlying151
  a46 := Tryz.isAgg151
  z46 := Tryz.sizeOf151
  v46 := Tryz.zeroValue151
  t51 := Tryz.underlying166
  a51 := Tryz.isAgg166
  z51 := Tryz.sizeOf166
  v51 := Tryz.zeroValue166
  t53 := Tryz.underlying168
  a53 := Tryz.isAgg168
  z53 := Tryz.sizeOf168
  v53 := Tryz.zeroValue168
  t131 := Tryz.underlying121
  a131 := Tryz.isAgg121
  z131 := Tryz.sizeOf121
  v131 := Tryz.zeroValue121
  t182 := Tryz.underlying158
  a182 := Tryz.isAgg158
  z182 := Tryz.sizeOf158
  v182 := Tryz.zeroValue158
  t183 := Tryz.underlying159
  a183 := Tryz.isAgg159
  z183 := Tryz.sizeOf159
  v183 := Tryz.zeroValue159
  t218 := Tryz.underlying170
  a218 := Tryz.isAgg170
  z218 := Tryz.sizeOf170
  v218 := Tryz.zeroValue170
  t222 := Tryz.underlying174
  a222 := Tryz.isAgg174
  z222 := Tryz.sizeOf174
  v222 := Tryz.zeroValue174
  t228 := Tryz.underlying177
  a228 := Tryz.isAgg177
  z228 := Tryz.sizeOf177
  v228 := Tryz.zeroValue177
  t229 := Tryz.underlying133
  a229 := Tryz.isAgg133
  z229 := Tryz.sizeOf133
  v229 := Tryz.zeroValue133
def Tryz.lays20_ren : Go.Shelf.Ren := ⟨fun | 20 => 67 | n => n, fun | 22 => 28 | 3 => 3 | 4 => 4 | 0 => 0 | n => n, fun n => n⟩
theorem Tryz.lays20 : Lays2.n20 Tryz.prog Tryz.lays20_ren where
  mixed := by kernel_rfl
  f20 := Tryz.func67.trans (congrArg some (by kernel_rfl))
  t0 := Tryz.underlying0
  a0 := Tryz.isAgg0
  z0 := Tryz.sizeOf0
  v0 := Tryz.zeroValue0
  t3 := Tryz.underlying3
  a3 := Tryz.isAgg3
  z3 := Tryz.sizeOf3
  v3 := Tryz.zeroValue3
  t4 := Tryz.underlying4
  a4 := Tryz.isAgg4
  z4 := Tryz.sizeOf4
  v4 := Tryz.zeroValue4
  t22 := Tryz.underlying28
  a22 := Tryz.isAgg28
  z22 := Tryz.sizeOf28
  v22 := Tryz.zeroValue28
  i3 := by kernel_rfl
end Go.Proofs
namespace Go.Vel
open Go Go.Conc Go.Proofs
theorem intsA_get {xs : List Int} {cur : Array Value} {φ : Nat → Loc3} {n : Nat} (h : ∀ (j : Nat) a, (xs.map intA)[j]? = some a → ∃ y, cur[j]? = some y ∧ RelV φ n a y) {j : Nat} (hj : j < xs.length) : cur[j]? = some (.int .i64 xs[j]) := by
  obtain ⟨y, h1, h2⟩ := h j (intA xs[j]) (by rw [List.getElem?_map, List.getElem?_eq_getElem hj]; rfl)
  cases h2
  exact h1
theorem intsA_take {xs : List Int} {cur : Array Value} {φ : Nat → Loc3} {n : Nat} (h : ∀ (j : Nat) a, (xs.map intA)[j]? = some a → ∃ y, cur[j]? = some y ∧ RelV φ n a y) : cur.toList.take xs.length = xs.map (Value.int .i64) := by
  apply List.ext_getElem?
  intro j
  by_cases hj : j < xs.length
  · rw [List.getElem?_take_of_lt hj, Array.getElem?_toList, intsA_get h hj, List.getElem?_map, List.getElem?_eq_getElem hj]; rfl
  · rw [List.getElem?_take_eq_none (by omega), List.getElem?_eq_none (by simp; omega)]
theorem put_get {xs : List Int} {cur : Array Value} (h : xs.length ≤ cur.size) {j : Nat} (hj : j < xs.length) : (Go.Sort.putCells (Value.int .i64) 0 xs.toArray cur)[j]? = some (.int .i64 xs[j]) := by
  have := Go.take_putCellsI cur xs h
  have h2 : ((Go.Sort.putCells (Value.int .i64) 0 xs.toArray cur).toList.take xs.length)[j]? = some (.int .i64 xs[j]) := by rw [this, List.getElem?_map, List.getElem?_eq_getElem hj]; rfl
  rwa [List.getElem?_take_of_lt hj, Array.getElem?_toList] at h2
theorem put_size {d : Array Int} {cur : Array Value} : (Go.Sort.putCells (Value.int .i64) 0 d cur).size = cur.size := by simp [Go.Sort.putCells]
theorem fits_put {H : Hp} {w w' : World} {g : Nat} {o : Obj} (hf : Fits H w) (hg : w'.heap[g]? = some o) (hk : ∀ k, k < w.heap.size → k ≠ g → w'.heap[k]? = w.heap[k]?) : Fits (H.put g (true, o)) w' := by
  intro b rw' x hb
  by_cases he : b = g
  · subst he; rw [Hp.put_same] at hb; cases hb; exact hg
  · rw [Hp.put_other H _ he] at hb
    rw [hk b (hf.lt hb) he]
    exact hf b _ _ hb
section
variable {Ψ : Goroutine → World → Prop} {gm : Nat → Option Nat}
/-- A call that turns a row of integers: from its lone contract. -/
theorem callK_row (tame : Tame Tryz.prog) {g : FuncId} {j m : Nat} {xs zs : List Int} {r : AV} {rv : Option Addr → Nat → Value} (hz : zs.length = xs.length) (hm : m ≤ xs.length)
    (hc : ∀ (b cap : Nat) (w : World), Go.Sort.Holds (Value.int .i64) w b 0 xs.toArray → b < w.heap.size → xs.length ≤ cap → cap ≤ maxLen → Calls Tryz.prog g #[.slice (some ⟨b, 0, none⟩) xs.length cap] w fun e w' => e = .returned (rv (some ⟨b, 0, none⟩) cap) ∧ ∃ n os, w' = Go.Sort.grow (Go.Sort.putRow (Value.int .i64) (Go.Sort.ahead w n) b 0 zs.toArray) os)
    (h0 : xs = [] → ∀ (p : Option Addr) (cap : Nat) (w : World), Calls Tryz.prog g #[.slice p 0 cap] w fun e w' => e = .returned (rv p cap) ∧ w' = w)
    (hr : ∀ (φ : Nat → Loc3) (n cap : Nat) (p : Option Addr), j < n → xs.length ≤ (φ j).cap → rowV (φ j) xs.length (.slice p xs.length cap) → RelV φ n r (rv p cap)) :
    CallK Tryz.prog (BT Tryz.prog Ψ) gm g [.row j xs.length] [(j, .row (xs.map intA) 3 1)] (fun r' K' => r' = r ∧ K' = [(j, .row ((zs.take m).map intA) 3 1)]) := by
  intro A hv hn φ F H vs c cs h1 h2 h3 k
  have hj := hv.get (.head _)
  obtain ⟨y, rfl⟩ : ∃ y, vs = #[y] := by
    have hs : vs.size = 1 := h3.1.symm
    exact ⟨vs[0], by apply Array.ext (by simpa using hs); intro i h1 h2; simp at h2; subst h2; rfl⟩
  have hy := h3.2 0 _ _ rfl rfl
  obtain ⟨hO0, hO1, hO2⟩ := h2.obj j _ hj
  cases hy with
  | row hi hle hrow =>
  have hup : Upd [(j, AObj.row (xs.map intA) 3 1)] j (.row (xs.map intA) 3 1) j (.row ((zs.take m).map intA) 3 1) [(j, .row ((zs.take m).map intA) 3 1)] := .head
  by_cases hx : xs = []
  · obtain ⟨p, cap, rfl⟩ : ∃ p cap, y = .slice p xs.length cap := by
      unfold rowV at hrow
      split at hrow
      · obtain ⟨p, rfl⟩ := hrow; exact ⟨p, 0, by rw [hx]; rfl⟩
      · exact ⟨_, _, hrow⟩
    have hzz : zs.take m = xs := by rw [hx] at hz hm ⊢; rw [List.eq_nil_of_length_eq_zero hz]; simp
    refine callsM_lone tame (Post := fun v H' => v = rv p cap ∧ H' = H) (fun w hf => ?_) Ψ c cs fun v H' hp => ?_
    · have := h0 hx p cap w
      rw [show xs.length = 0 by rw [hx]; rfl]
      exact this.mono fun e w' ⟨a, b⟩ => ⟨_, a, by rw [b]; exact ⟨rfl, rfl⟩, H, by rw [b]; exact hf, rfl, rfl⟩
    · obtain ⟨rfl, rfl⟩ := hp
      refine k r A φ H' _ ⟨_, ?_, rfl, rfl⟩ (Agr.refl _ _) (Nat.le_refl _) h2 (hr φ _ cap p hi hle hrow)
      rw [hzz]
      exact Kstep.same hv hn
  · have hcap : 0 < (φ j).cap := by
      rcases Nat.eq_zero_or_pos (φ j).cap with h | h
      · exact absurd (hO0 h) (by simpa using hx)
      · exact h
    obtain ⟨cur, q1, q2, q3, q4, q5⟩ := hO2 hcap
    have hrow' := hrow
    unfold rowV at hrow
    rw [if_neg (by omega)] at hrow
    subst hrow
    rw [List.length_map] at q4
    have hput : zs.length ≤ cur.size := by omega
    refine callsM_lone tame (Post := fun v H' => v = rv (some ⟨(φ j).blk, 0, none⟩) (φ j).cap ∧ H' = H.put (φ j).blk (true, .cells (Go.Sort.putCells (Value.int .i64) 0 zs.toArray cur) 3 (0, 0))) (fun w hf => ?_) Ψ c cs fun v H' hp => ?_
    · have hb := hf _ _ _ q1
      refine (hc (φ j).blk (φ j).cap w (Go.holds_of_blockI hb (intsA_take q5)) (Array.getElem?_eq_some_iff.1 hb).1 hle q3).mono fun e w' ⟨a, n, os, b⟩ => ⟨_, a, by rw [b]; exact ⟨rfl, rfl⟩, _, ?_, rfl, rfl⟩
      subst b
      obtain ⟨_, _, _, _, hg⟩ := Go.grownBy_sortedI (w := w) (g := (φ j).blk) (n := n) (os := os) zs.toArray
      exact fits_put hf (Go.heap_sortedI zs.toArray hb) fun k' h1 h2 => hg k' h1 (fun e => h2 (by cases e; rfl))
    · obtain ⟨rfl, rfl⟩ := hp
      refine k r (A.set j (.row ((zs.take m).map intA) 3 1)) φ _ _ ⟨_, Kstep.set hv hn hup, rfl, rfl⟩ (Agr.refl _ _) (by simp) (h2.set hj rfl hcap ?_) (by simpa using hr φ A.length _ _ hi hle hrow')
      refine ⟨fun h => by omega, hO1, fun _ => ⟨_, Hp.put_same _ _ _, by rw [put_size]; exact q2, q3, by rw [List.length_map, List.length_take, put_size]; omega, fun i a ha => ?_⟩⟩
      rw [List.getElem?_map, Option.map_eq_some_iff] at ha
      obtain ⟨z, hz1, rfl⟩ := ha
      rw [List.getElem?_take] at hz1
      split at hz1
      · obtain ⟨hz2, rfl⟩ := List.getElem?_eq_some_iff.1 hz1
        exact ⟨_, put_get hput hz2, .v _⟩
      · cases hz1
theorem compact_len (xs : List Int) : (Lib.compact xs).length ≤ xs.length := by
  unfold Lib.compact Lib.compactUpTo
  rw [List.length_map]
  exact Nat.le_trans (List.length_filter_le _ _) (by simp)
def sortI (xs : List Int) : List Int := xs.mergeSort fun x y => decide (x ≤ y)
theorem sortI_len (xs : List Int) : (sortI xs).length = xs.length := List.length_mergeSort _
theorem sort_ok (tame : Tame Tryz.prog) {j : Nat} {xs : List Int} (hlen : xs.length ≤ 100000) : CallK Tryz.prog (BT Tryz.prog Ψ) gm 66 [.row j xs.length] [(j, .row (xs.map intA) 3 1)] (fun r K' => r = .tup [] ∧ K' = [(j, .row ((sortI xs).map intA) 3 1)]) := by
  have h := callK_row (gm := gm) (Ψ := Ψ) tame (g := 66) (j := j) (m := xs.length) (xs := xs) (zs := sortI xs) (r := .tup []) (rv := fun _ _ => .tuple #[]) (sortI_len xs) (Nat.le_refl _)
    (fun b cap w hH hb h1 h2 => Any.slices_Sort_int Tryz.lays189 b 0 cap xs w hH hb (by omega))
    (fun _ p cap w => Any.slices_Sort_int_none Tryz.lays189 p cap w)
    (fun φ n cap p _ _ _ => .tup rfl (fun j a y ha => by simp at ha))
  rw [show (sortI xs).take xs.length = sortI xs by rw [← sortI_len xs]; exact List.take_length] at h
  exact h
theorem compact_ok (tame : Tame Tryz.prog) {j : Nat} {xs : List Int} : CallK Tryz.prog (BT Tryz.prog Ψ) gm 67 [.row j xs.length] [(j, .row (xs.map intA) 3 1)] (fun r K' => r = .row j (Lib.compact xs).length ∧ K' = [(j, .row ((Lib.compact xs).map intA) 3 1)]) := by
  have hl := compact_len xs
  have h := callK_row (gm := gm) (Ψ := Ψ) tame (g := 67) (j := j) (m := (Lib.compact xs).length) (xs := xs) (zs := Lib.compact xs ++ List.replicate (xs.length - (Lib.compact xs).length) 0) (r := .row j (Lib.compact xs).length) (rv := fun p cap => .slice p (Lib.compact xs).length cap) (by simp; omega) hl
    (fun b cap w hH hb h1 h2 => (Any.slices_Compact_int Tryz.lays20 b 0 cap xs w hH (by unfold maxLen at h2; omega) h1).mono fun e w' ⟨a, q, b⟩ => ⟨a, q, #[], by rw [b, Go.Sort.grow_empty]⟩)
    (fun hx p cap w => (Any.slices_Compact_int_empty Tryz.lays20 p cap w).mono fun e w' ⟨a, b⟩ => ⟨by rw [a, show (Lib.compact xs).length = 0 by subst hx; simpa using hl], b⟩)
    (fun φ n cap p hn hle hrow => by
      refine .row hn (by omega) ?_
      unfold rowV at hrow ⊢
      split at hrow
      · rename_i h
        obtain ⟨q, hq⟩ := hrow
        rw [if_pos h]
        injection hq with h1 h2 h3
        exact ⟨q, by rw [h1, h3, show (Lib.compact xs).length = 0 by omega]⟩
      · rename_i h
        rw [if_neg h]
        injection hrow with h1 h2 h3
        rw [h1, h3])
  rw [List.take_left' rfl] at h
  exact h
end
def countsM (b : Bk) : List Int := Lib.compact (sortI ((statesM b).map fun S => (S.length : Int)))


set_option maxRecDepth 20000 in
set_option maxHeartbeats 1000000 in
theorem counts_ok (tame : Tame Tryz.prog) {Ψ : Goroutine → World → Prop} {b : Bk} {s e : Nat} (hse : s ≠ e) (hn : ∀ x ∈ b.seekers, x.name.size ≤ 1000) (hl : b.seen.length ≤ 1000) : CallK Tryz.prog (BT Tryz.prog Ψ) gmS 17 [.agg (bookC b s e)] [(0, checksG), (1, saysG), (s, saysO b), (e, seenO b)] (fun r K' => (askM b true ≠ 0 ∧ r = .tup [.v (.slice none 0 0), intA (askM b true)] ∧ K' = [(0, checksG), (1, saysG), (s, saysO b), (e, seenO b)]) ∨ (askM b true = 0 ∧ ∃ j, r = .tup [.row j (countsM b).length, intA 0] ∧ K' = [(0, checksG), (1, saysG), (s, saysO b), (e, seenO b), (j, .row ((countsM b).map intA) 3 1)])) := by
  have hT := shut_BT tame Ψ
  refine callK_in 34 hT Tryz.func17 fun Y hret => ?_
  refine au [4, 5, 21] ?_
  intro jb hjb
  refine au [2, 2, 3, 4, 5, 8] ?_
  refine TK.cl rfl rfl rfl rfl (ask_ok hT (b := b) (s := s) (e := e) (t := true) hse hn hl rfl (fun hb => callFK_fn Cal.h (always_ok hT))) ?_
  rintro r1 K2 h3
  rcases h3 with ⟨hb0, rfl, rfl⟩ | ⟨jl, jm, om, hb0, hom, rfl, rfl⟩
  · refine au [1, 10, 10, 22] ?_
    intro jx hjx
    refine au [17, 2, 3, 4, 4, 5, 1, 6, 3, 20] ?_
    refine ⟨fun hc0 => ?_, fun hc0 => ?_⟩
    · 
      refine au [4, 5, 1, 2, 2, 3] ?_
      refine TK.rt hret [(0, _), (1, _), (s, _), (e, _)] ?_
      exact .inl ⟨hb0, rfl, rfl⟩
    exact absurd (by simpa using hc0) hb0
  · refine au [1, 10, 10, 22] ?_
    intro jx hjx
    refine au [17, 2, 3, 4, 4, 5, 1, 6, 3, 20] ?_
    refine ⟨fun hc0 => ?_, fun hc0 => ?_⟩
    · exact absurd hc0 (by decide)
    obtain ⟨hck, hth, hne⟩ := ask_zero hb0
    have hb := bkOk_of hck
    have hLo := statesM_ok hb
    have hLn := statesM_len hb
    refine au [12, 4, 5, 2] ?_
    refine TK.virt 6 3 1 rfl fun j01 hj01 => ?_
    refine au [3, 4, 4, 5, 7, 9, 28, 1, 3, 13] ?_
    refine TK.maskL [6, 18, 19, 20] ?_
    refine TK.kp [(jx, _), (jm, _), (jl, _), (jb, _), (0, _), (1, _), (s, _), (e, _), (j01, _)] ?_
    refine TK.loopN (fun n env K => ∃ (i j1 : Nat), n = (statesM b).length - i ∧ i ≤ (statesM b).length ∧ env = slotsA 34 [(6, .row j1 (((statesM b).take i).map fun S => (S.length : Int)).length), (18, .sl jl 0 (statesM b).length), (19, intA (statesM b).length), (20, intA i)] ∧ K = [(jx, .cells (knownC b s e (.sl jl 0 (statesM b).length) jm) 97 true), (jm, .raw om), (jl, listO (statesM b)), (jb, .cells (bookC b s e) 27 true), (0, checksG), (1, saysG), (s, saysO b), (e, seenO b), (j1, .row ((((statesM b).take i).map fun S => (S.length : Int)).map intA) 3 1)]) (statesM b).length ⟨0, j01, rfl, Nat.zero_le _, rfl, rfl⟩ fun n env K hI' hnext => ?_
    obtain ⟨i, j1, rfl, hi, rfl, rfl⟩ := hI'
    refine au [4, 5, 6, 3, 4, 20] ?_
    refine ⟨fun hc1 => ?_, fun hc1 => ?_⟩
    · simp only [decide_eq_true_eq] at hc1
      have hil : i < (statesM b).length := by omega
      have htl : (((statesM b).take i).map fun S => (S.length : Int)).length ≤ 65536 := by rw [List.length_map, List.length_take]; omega
      refine au [12, 4, 13, 4, 5, 36] ?_
      refine TK.a rfl (q_load rfl rfl TySz.h (by repeat (first | exact List.Mem.head _ | assumption | apply List.Mem.tail)) (list_at (statesM b) i hil)) ?_
      refine au [22] ?_
      intro j9 hj9
      refine au [17, 3, 5, 1, 7, 9] ?_
      refine TK.newR rfl rfl rfl (n_buildSlice (l := [_]) rfl SlEl.h TyZ.h (by decide) (by decide) rfl) (fun _ => putS rfl (by simp only [List.set]; rfl)) fun j4 hj4 => ?_
      refine TK.appR rfl rfl rfl (a_app rfl ApOf.h rfl (by repeat (first | exact List.Mem.head _ | assumption | apply List.Mem.tail)) (by simp <;> omega) rfl (src_row (ln := [_]) (by repeat (first | exact List.Mem.head _ | assumption | apply List.Mem.tail)) (by decide) (by simp) rfl) (by omega) rfl (by unfold maxLen; omega) (by omega)) (fun _ => (by repeat (first | exact Upd.head | apply Upd.tail))) (fun _ => putS rfl (by simp only [List.set]; rfl)) fun j3 => ?_
      refine au [2, 3, 14, 5, 23, 1, 3] ?_
      refine TK.maskL [6, 18, 19, 20] ?_
      refine TK.kp [(jx, _), (jm, _), (jl, _), (jb, _), (0, _), (1, _), (s, _), (e, _), (j3, _)] ?_
      have e1 : ((statesM b).take (i + 1)).map (fun S => (S.length : Int)) = ((statesM b).take i).map (fun S => (S.length : Int)) ++ [((statesM b)[i].length : Int)] := by rw [List.take_add_one, List.getElem?_eq_getElem hil, List.map_append]; rfl
      exact hnext _ _ _ (by omega) ⟨i + 1, j3, rfl, by omega, by rw [e1, List.length_append]; rfl, by rw [e1, List.map_append]; rfl⟩
    simp only [decide_eq_false_iff_not] at hc1
    obtain rfl : i = (statesM b).length := by omega
    rw [List.take_length]
    refine au [16, 4, 5, 1] ?_
    refine TK.cl rfl rfl rfl rfl (sort_ok tame (by rw [List.length_map]; omega)) ?_
    rintro r5 K6 ⟨rfl, rfl⟩
    refine au [] ?_
    rw [← sortI_len ((statesM b).map fun S => (S.length : Int))]
    refine au [3, 4, 5, 1] ?_
    refine TK.cl rfl rfl rfl rfl (compact_ok tame) ?_
    rintro r8 K9 ⟨rfl, rfl⟩
    refine au [2, 2, 3] ?_
    refine TK.rt hret [(0, _), (1, _), (s, _), (e, _), (j1, _)] ?_
    exact .inr ⟨hb0, j1, rfl, rfl⟩
end Go.Vel
end
section
set_option linter.all false
namespace Go.Vel
open Go Go.Conc Go.Proofs

section
variable {P : Program} {gm : Nat → Option Nat} {T : Goroutine → Hp → Prop} {Y : KX P gm T} {ds : List Nat} {k : List Item} {env env' : List AV} {K K' : KV}
theorem TK.nilAgg (d p : Nat) (e : TypeId) {l : List AV} {x : Option Addr} {c : Nat} (hx : env[d]? = some (.agg l)) (hp : l[p]? = some (.v (.slice x 0 c))) (h : ∀ j, j ∉ keys K → TK Y ds k (env.set d (.agg (l.set p (.sl j 0 0)))) ((j, .cells [] e false) :: K)) : TK Y ds k env K := fun A hA φ H ts h1 h2 h3 h4 h5 h6 => by
  have hk : A.length ∉ keys K := fun hm => absurd (hA.view.lt hm) (Nat.lt_irrefl _)
  have hH := h5.virtO (o := .cells [] e false) (fun φ n hl => absurd rfl hl) (fun hl => hl rfl)
  have hag := agr_upd3 φ A.length ⟨0, 0, 0⟩
  have hlen : (A ++ [AObj.cells [] e false]).length = A.length + 1 := by simp
  have hds : dsC (upd3 φ A.length ⟨0, 0, 0⟩) ds = dsC φ ds := by
    unfold dsC
    exact List.map_congr_left fun d hd' => by rw [hag d (h4 d hd')]
  rw [← hds]
  refine h _ hk _ (hA.step (.push hA.view hA.nd _)) _ H ts (h1.trans hag h2) (by omega) (h3.mono hag (by omega)) (fun d hd => by have := h4 d hd; omega) hH ?_
  have hE := h6.mono (n' := (A ++ [AObj.cells [] e false]).length) hag (by omega)
  exact hE.set' hx fun y hy => by
    obtain ⟨ys, rfl, q1, q2⟩ := inv_agg hy
    refine .agg (by simpa using q1) fun t u z hu hz => ?_
    rw [List.getElem?_set] at hu
    split at hu
    · rename_i ht
      subst ht
      split at hu
      · cases hu
        have := q2 p _ z hp hz
        rw [inv_v this]
        exact .sl (by omega) (Nat.zero_le _) fun hp => absurd hp (Nat.lt_irrefl _)
      · cases hu
    · exact q2 t u z hu hz
end
def greatM (b : Bk) : Bool := decide (b.seekers.length > 20) || decide (b.seen.length > 20) || b.seekers.any fun x => decide (x.name.size > 100)
theorem any_all {α : Type} {xs : List α} {p : α → Bool} (h : (xs.take xs.length).any p = false) : xs.any p = false := by rwa [List.take_length] at h
theorem any_all_of {α : Type} {xs : List α} {p : α → Bool} {i : Nat} {x : α} (h : xs[i]? = some x) (he : p x = true) : xs.any p = true := List.any_eq_true.2 ⟨x, List.mem_of_getElem? h, he⟩
theorem great_small {b : Bk} (h : greatM b = false) : b.seekers.length ≤ 20 ∧ b.seen.length ≤ 20 ∧ ∀ x ∈ b.seekers, x.name.size ≤ 100 := by
  unfold greatM at h
  simp only [Bool.or_eq_false_iff, decide_eq_false_iff_not] at h
  refine ⟨by omega, by omega, fun x hx => ?_⟩
  have := List.any_eq_false.1 h.2 x hx
  simp at this
  omega
def exB : Bk := ⟨8, 1, 1, 1, [⟨⟨#[97, 110, 110]⟩, 1, 3, 0, false⟩, ⟨⟨#[98, 111]⟩, 2, 5, 1, false⟩, ⟨⟨#[99, 121]⟩, 3, 6, 0, false⟩], []⟩
def exB2 : Bk := { exB with low := 2, high := 2 }
def exX : Says := ⟨⟨#[100, 105]⟩, 5, 1, 0, true⟩
theorem ex_check : checkM exB = 0 := by kernel_rfl
theorem ex_all : allM exB = [[0],[1],[2],[3],[4],[5],[6],[7]] := by kernel_rfl
theorem ex_states : statesM exB = [[1],[3],[6]] := by kernel_rfl
theorem ex_ask : askM exB true = 0 := by kernel_rfl
theorem ex_r0 : rightApi exB [3] 0 = (true, 0) := by kernel_rfl
theorem ex_r1 : rightApi exB [3] 1 = (false, 0) := by kernel_rfl
theorem ex_s3 : stateApi exB [3] = (true, 0) := by kernel_rfl
theorem ex_s4 : stateApi exB [4] = (false, 0) := by kernel_rfl
theorem ex_st : statesApi exB = (3, 0) := by kernel_rfl
theorem ex_at1 : atApi exB 1 = (0, 0) := by kernel_rfl
theorem ex_at0 : atApi exB 0 = (2, 0) := by kernel_rfl
theorem ex_p1 : pickL exB 1 exB.steps.toNat = [] := by kernel_rfl
theorem ex_p0 : pickL exB 0 exB.steps.toNat = [1, 3, 6] := by kernel_rfl
theorem ex_w : withinApi exB 6 1 = ((0, 1), 0) := by kernel_rfl
theorem ex_n : narrowApi exB = ((1, 6), true, 0) := by kernel_rfl
theorem ex_wr : wrongApi exB 0 = (0, 0) := by kernel_rfl
theorem ex_g0 : guessM exB (allM exB) ≠ [] := by decide +kernel
theorem ex_li : likelyM exB = ([1], 1) := by kernel_rfl
theorem ex_t : togM exB (everyM exB) = false := by kernel_rfl
theorem ex_cl : clashM exB = [0, 1, 2] := by kernel_rfl
theorem ex_askA : askApi exB = (1, 2, 0) := by kernel_rfl
theorem ex_lend : lendApi exB = (0, 2, 0) := by kernel_rfl
theorem ex_giv : giveM exB 0 = 0 := by kernel_rfl
theorem ex_g2 : statesApi (giveB exB 0) = (2, 0) := by kernel_rfl
theorem ex_g3 : narrowApi (giveB exB 0) = ((1, 3), true, 0) := by kernel_rfl
theorem ex_lk : newsM exB (lookB exB ⟨3, true⟩) = 0 := by kernel_rfl
theorem ex_lk2 : statesApi (lookB exB ⟨3, true⟩) = (1, 0) := by kernel_rfl
theorem ex_hr : newsM exB (hearB exB exX) = 0 := by kernel_rfl
theorem ex_hr2 : statesApi (hearB exB exX) = (2, 0) := by kernel_rfl
theorem ex2_st : statesApi exB2 = (17, 0) := by kernel_rfl
theorem ex2_ck : checkM exB2 = 0 := by kernel_rfl
theorem ex2_g : guessM exB2 (allM exB2) ≠ [] := by decide +kernel
theorem ex2_li : likelyM exB2 = ([1, 6], 0) := by kernel_rfl
theorem ex2_t : togM exB2 (everyM exB2) = true := by kernel_rfl
theorem ex_cnt : (statesM exB).map (fun S => (S.length : Int)) = [1, 1, 1] := by rw [ex_states]; rfl
theorem ex_counts : countsM exB = [1] := by
  unfold countsM sortI
  rw [ex_cnt, List.mergeSort_of_pairwise (by decide)]
  decide +kernel


set_option maxRecDepth 20000 in
set_option maxHeartbeats 1000000 in
theorem great_ok {main : Bool} {T : Goroutine → Hp → Prop} (hT : Shut Tryz.prog main T) {gm : Nat → Option Nat} {b : Bk} {s e : Nat} :
    CallK Tryz.prog T gm 7 [.agg (bookC b s e)] [(s, saysO b)] (fun r K' => r = boolA (greatM b) ∧ K' = [(s, saysO b)]) := by
  refine callK_in 29 hT Tryz.func7 fun Y hret => ?_
  refine au [4, 5, 21] ?_
  intro jb hjb
  refine au [2, 3, 4, 4, 5, 7, 9, 28, 6, 1] ?_
  refine TK.sp 8 (fun g1_5 => ?_) (fun g1_5 => ?_)
  · refine au [11, 11, 11, 11, 26, 3, 18, 4, 5, 2, 3] ?_
    refine TK.rt hret [(s, _)] ?_
    exact ⟨by unfold greatM; rw [show decide (b.seekers.length > 20) = true by have := of_decide_eq_true g1_5; simp; omega]; rfl, rfl⟩
  have hlen20 : b.seekers.length ≤ 20 := by have := of_decide_eq_false g1_5; omega
  refine au [7, 9, 28, 6, 25, 3, 20] ?_
  refine ⟨fun hc0 => ?_, fun hc0 => ?_⟩
  · refine au [4, 5, 2, 3] ?_
    refine TK.rt hret [(s, _)] ?_
    exact ⟨by unfold greatM; rw [show decide (b.seen.length > 20) = true by have := of_decide_eq_true hc0; simp; omega, Bool.or_true]; rfl, rfl⟩
  refine au [12, 4, 4, 5, 2, 3, 13] ?_
  refine TK.maskL [1, 3] ?_
  refine TK.loopN (fun n env K => ∃ (i : Nat), n = b.seekers.length - i ∧ i ≤ b.seekers.length ∧ ((b.seekers.take i).any fun x => decide (x.name.size > 100)) = false ∧ env = slotsA 29 [(1, .ptr jb 0), (3, intA i)] ∧ K = [(jb, .cells (bookC b s e) 27 true), (s, saysO b)]) b.seekers.length ⟨0, rfl, Nat.zero_le _, rfl, rfl, rfl⟩ fun n env K hI' hnext => ?_
  obtain ⟨i, rfl, hi, hany, rfl, rfl⟩ := hI'
  refine au [4, 4, 5, 1, 7, 9, 28, 6, 3, 20] ?_
  refine ⟨fun hc => ?_, fun hc => ?_⟩
  · simp only [decide_eq_true_eq] at hc
    have hil : i < b.seekers.length := by omega
    obtain ⟨x, hx⟩ : ∃ x, b.seekers[i]? = some x := ⟨_, List.getElem?_eq_getElem hil⟩
    refine au [12, 4, 13, 4, 5, 7, 9, 1, 36, 7] ?_
    refine TK.a rfl (q_load1 rfl rfl TySz.h (by repeat (first | exact List.Mem.head _ | assumption | apply List.Mem.tail)) (take_fld (says_at' b hx) (by decide) rfl)) ?_
    refine au [29, 6, 3, 20] ?_
    refine ⟨fun hc2 => ?_, fun hc2 => ?_⟩
    · refine au [4, 5, 2, 3] ?_
      refine TK.rt hret [(s, _)] ?_
      exact ⟨by unfold greatM; rw [any_all_of (p := fun x : Says => decide (x.name.size > 100)) hx (by have := of_decide_eq_true hc2; simp; omega), Bool.or_true]; rfl, rfl⟩
    refine au [12, 14, 5, 1, 23, 2, 3] ?_
    refine TK.maskL [1, 3] ?_
    refine TK.kp [(jb, _), (s, _)] ?_
    exact hnext _ _ _ (by omega) ⟨i + 1, rfl, by omega, any_take_next hx hany (by have := of_decide_eq_false hc2; simp; omega), rfl, rfl⟩
  simp only [decide_eq_false_iff_not] at hc
  obtain rfl : i = b.seekers.length := by omega
  refine au [16, 4, 5, 2, 3] ?_
  refine TK.rt hret [(s, _)] ?_
  exact ⟨by unfold greatM; rw [any_all hany, show decide (b.seekers.length > 20) = false by have := of_decide_eq_false g1_5; simp; omega, show decide (b.seen.length > 20) = false by have := of_decide_eq_false hc0; simp; omega]; rfl, rfl⟩

set_option maxRecDepth 20000 in
set_option maxHeartbeats 1000000 in
theorem to_ok {main : Bool} {T : Goroutine → Hp → Prop} (hT : Shut Tryz.prog main T) {gm : Nat → Option Nat} {a z : Int} :
    CallK Tryz.prog T gm 47 [intA a, intA z] [] (fun r K' => r = .agg [intA a, intA z] ∧ K' = []) := by
  refine callK_in 8 hT Tryz.func47 fun Y hret => ?_
  refine au [4, 5, 22] ?_
  intro j1 hj1
  refine au [3, 4, 5, 1, 1, 39, 17, 3] ?_
  refine TK.rt hret [] ?_
  exact ⟨rfl, rfl⟩

set_option maxRecDepth 20000 in
set_option maxHeartbeats 1000000 in
theorem one_ok2 {main : Bool} {T : Goroutine → Hp → Prop} (hT : Shut Tryz.prog main T) {gm : Nat → Option Nat} {n : Int} :
    CallK Tryz.prog T gm 48 [intA n] [] (fun r K' => r = .agg [intA n, intA n] ∧ K' = []) := by
  refine callK_in 6 hT Tryz.func48 fun Y hret => ?_
  refine au [4, 5, 22] ?_
  intro j1 hj1
  refine au [3, 4, 5, 1, 1] ?_
  refine TK.cl rfl rfl rfl rfl (to_ok hT) ?_
  rintro r2 K3 ⟨rfl, rfl⟩
  refine au [17, 3] ?_
  refine TK.rt hret [] ?_
  exact ⟨rfl, rfl⟩

set_option maxRecDepth 20000 in
set_option maxHeartbeats 1000000 in
theorem lists_ok {main : Bool} {T : Goroutine → Hp → Prop} (hT : Shut Tryz.prog main T) {gm : Nat → Option Nat} {j off j2 off2 : Nat} {ob ob2 : AObj} {xs ys : List Int} (hjj : j ≠ j2) (hI : IntsAt ob off xs) (hI2 : IntsAt ob2 off2 ys) (hlx : xs.length ≤ 100000) :
    CallK Tryz.prog T gm 46 [.sl j off xs.length, .sl j2 off2 ys.length] [(j, ob), (j2, ob2)] (fun r K' => r = boolA (decide (xs = ys)) ∧ K' = [(j, ob), (j2, ob2)]) := by
  refine callK_in 8 hT Tryz.func46 fun Y hret => ?_
  refine au [4, 5, 2, 3, 4, 5, 1, 1] ?_
  refine TK.cl rfl rfl rfl rfl (sameInts_ok hT hjj hI hI2 hlx) ?_
  rintro r1 K2 ⟨rfl, rfl⟩
  refine au [2, 3] ?_
  refine TK.rt hret [(j, _), (j2, _)] ?_
  exact ⟨rfl, rfl⟩

set_option maxRecDepth 20000 in
set_option maxHeartbeats 1000000 in
theorem example_ok {main : Bool} {T : Goroutine → Hp → Prop} (hT : Shut Tryz.prog main T) {gm : Nat → Option Nat}  :
    CallK Tryz.prog T gm 45 [] [] (fun r K' => ∃ s e, s ≠ e ∧ r = .agg (bookC exB s e) ∧ K' = [(s, saysO exB), (e, seenO exB)]) := by
  refine callK_in 7 hT Tryz.func45 fun Y hret => ?_
  refine au [4, 5, 22] ?_
  intro j1 hj1
  refine au [3, 4, 5] ?_
  refine TK.cl rfl rfl rfl rfl (one_ok2 hT) ?_
  rintro r2 K3 ⟨rfl, rfl⟩
  refine au [42, 42, 42] ?_
  refine TK.newR rfl rfl rfl (n_buildSlice (l := [_, _, _, _, _, _, _, _, _, _, _, _, _, _, _]) rfl SlEl.h TyZ.h (by decide) (by decide) rfl) (fun _ => putS rfl (by simp only [List.set]; rfl)) fun jS hjS => ?_
  refine TK.freezeR 5 rfl (by repeat (first | exact Upd.head | apply Upd.tail)) rfl ?_
  refine au [43] ?_
  refine TK.nilAgg 6 5 90 rfl rfl fun jE hjE => ?_
  refine au [17, 3] ?_
  refine TK.rt hret [(jS, _), (jE, _)] ?_
  exact ⟨jS, jE, fun h => hjE (by subst h; simp [keys]), rfl, rfl⟩
end Go.Vel
end
