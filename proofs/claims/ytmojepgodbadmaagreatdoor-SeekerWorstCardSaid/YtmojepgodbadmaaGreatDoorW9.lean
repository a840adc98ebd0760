/- Texts for the statements of chapter 9: what all of them need, part 10. It holds of every program, tape and world that the statements name, as each theorem says. -/
import Derived.Shelf.Sort.Plain
import Derived.Shelf.Slices.CompactI
import Derived.Shelf.Slices.In.SortNone
import Derived.Sort.OwnSortedInts
import Derived.Test.YtmojepgodbadmaaGreatDoorProg
import Derived.Test.YtmojepgodbadmaaGreatDoorRows
import Derived.ProofKit
import Derived.LaidMore
import Derived.LaidHandle
import Derived.LaidOnce
import Derived.OpenShut
import Derived.Stop.Joined
import Derived.Conc.LeavingOf
import Derived.Conc.Holds
import Derived.Carry
import Derived.LaidLaws
import Derived.Test.YtmojepgodbadmaaGreatDoorCards
import Derived.Test.YtmojepgodbadmaaGreatDoorTie
import Derived.SevenTiedAt
import Derived.Test.YtmojepgodbadmaaGreatDoorW0
import Derived.Test.YtmojepgodbadmaaGreatDoorW4
import Derived.Test.YtmojepgodbadmaaGreatDoorW5
import Derived.Test.YtmojepgodbadmaaGreatDoorW7
import Derived.Test.YtmojepgodbadmaaGreatDoorW8
section
set_option linter.all false
namespace Go.Proofs
open Go.Shelf
def Tryz.lays189_ren : Go.Shelf.Ren := ⟨fun | 189 => 66 | 125 => 120 | 257 => 119 | 128 => 137 | 129 => 138 | 294 => 128 | 295 => 129 | 296 => 130 | 297 => 131 | 298 => 132 | 299 => 133 | 216 => 134 | 300 => 135 | 301 => 136 | 328 => 142 | 329 => 143 | 330 => 144 | 331 => 145 | 332 => 146 | 215 => 139 | 343 => 148 | n => n, fun | 28 => 28 | 3 => 3 | 46 => 151 | 0 => 0 | 51 => 166 | 53 => 168 | 4 => 4 | 183 => 159 | 182 => 158 | 131 => 121 | 5 => 5 | 9 => 9 | 218 => 170 | 222 => 174 | 228 => 177 | 229 => 133 | n => n, fun n => n⟩
theorem Tryz.lays189 : Lays.n189 Tryz.prog Tryz.lays189_ren where
  mixed := by kernel_rfl
  f125 := Tryz.func120.trans (congrArg some (by kernel_rfl))
  f128 := Tryz.func137.trans (congrArg some (by kernel_rfl))
  f129 := Tryz.func138.trans (congrArg some (by kernel_rfl))
  f189 := Tryz.func66.trans (congrArg some (by kernel_rfl))
  f215 := Tryz.func139.trans (congrArg some (by kernel_rfl))
  f216 := Tryz.func134.trans (congrArg some (by kernel_rfl))
  f257 := Tryz.func119.trans (congrArg some (by kernel_rfl))
  f294 := Tryz.func128.trans (congrArg some (by kernel_rfl))
  f295 := Tryz.func129.trans (congrArg some (by kernel_rfl))
  f296 := Tryz.func130.trans (congrArg some (by kernel_rfl))
  f297 := Tryz.func131.trans (congrArg some (by kernel_rfl))
  f298 := Tryz.func132.trans (congrArg some (by kernel_rfl))
  f299 := Tryz.func133.trans (congrArg some (by kernel_rfl))
  f300 := Tryz.func135.trans (congrArg some (by kernel_rfl))
  f301 := Tryz.func136.trans (congrArg some (by kernel_rfl))
  f328 := Tryz.func142.trans (congrArg some (by kernel_rfl))
  f329 := Tryz.func143.trans (congrArg some (by kernel_rfl))
  f330 := Tryz.func144.trans (congrArg some (by kernel_rfl))
  f331 := Tryz.func145.trans (congrArg some (by kernel_rfl))
  f332 := Tryz.func146.trans (congrArg some (by kernel_rfl))
  f343 := Tryz.func148.trans (congrArg some (by kernel_rfl))
  t0 := Tryz.underlying0
  a0 := Tryz.isAgg0
  z0 := Tryz.sizeOf0
  v0 := Tryz.zeroValue0
  t3 := Tryz.underlying3
  a3 := Tryz.isAgg3
  z3 := Tryz.sizeOf3
  v3 := Tryz.zeroValue3
  t4 := Tryz.underlying4
  a4 := Tryz.isAgg4
  z4 := Tryz.sizeOf4
  v4 := Tryz.zeroValue4
  t5 := Tryz.underlying5
  a5 := Tryz.isAgg5
  z5 := Tryz.sizeOf5
  v5 := Tryz.zeroValue5
  t9 := Tryz.underlying9
  a9 := Tryz.isAgg9
  z9 := Tryz.sizeOf9
  v9 := Tryz.zeroValue9
  t28 := Tryz.underlying28
  a28 := Tryz.isAgg28
  z28 := Tryz.sizeOf28
  v28 := Tryz.zeroValue28
  t46 := Tryz.underlying151
  a46 := Tryz.isAgg151
  z46 := Tryz.sizeOf151
  v46 := Tryz.zeroValue151
  t51 := Tryz.underlying166
  a51 := Tryz.isAgg166
  z51 := Tryz.sizeOf166
  v51 := Tryz.zeroValue166
  t53 := Tryz.underlying168
  a53 := Tryz.isAgg168
  z53 := Tryz.sizeOf168
  v53 := Tryz.zeroValue168
  t131 := Tryz.underlying121
  a131 := Tryz.isAgg121
  z131 := Tryz.sizeOf121
  v131 := Tryz.zeroValue121
  t182 := Tryz.underlying158
  a182 := Tryz.isAgg158
  z182 := Tryz.sizeOf158
  v182 := Tryz.zeroValue158
  t183 := Tryz.underlying159
  a183 := Tryz.isAgg159
  z183 := Tryz.sizeOf159
  v183 := Tryz.zeroValue159
  t218 := Tryz.underlying170
  a218 := Tryz.isAgg170
  z218 := Tryz.sizeOf170
  v218 := Tryz.zeroValue170
  t222 := Tryz.underlying174
  a222 := Tryz.isAgg174
  z222 := Tryz.sizeOf174
  v222 := Tryz.zeroValue174
  t228 := Tryz.underlying177
  a228 := Tryz.isAgg177
  z228 := Tryz.sizeOf177
  v228 := Tryz.zeroValue177
  t229 := Tryz.underlying133
  a229 := Tryz.isAgg133
  z229 := Tryz.sizeOf133
  v229 := Tryz.zeroValue133
def Tryz.lays20_ren : Go.Shelf.Ren := ⟨fun | 20 => 67 | n => n, fun | 22 => 28 | 3 => 3 | 4 => 4 | 0 => 0 | n => n, fun n => n⟩
theorem Tryz.lays20 : Lays2.n20 Tryz.prog Tryz.lays20_ren where
  mixed := by kernel_rfl
  f20 := Tryz.func67.trans (congrArg some (by kernel_rfl))
  t0 := Tryz.underlying0
  a0 := Tryz.isAgg0
  z0 := Tryz.sizeOf0
  v0 := Tryz.zeroValue0
  t3 := Tryz.underlying3
  a3 := Tryz.isAgg3
  z3 := Tryz.sizeOf3
  v3 := Tryz.zeroValue3
  t4 := Tryz.underlying4
  a4 := Tryz.isAgg4
  z4 := Tryz.sizeOf4
  v4 := Tryz.zeroValue4
  t22 := Tryz.underlying28
  a22 := Tryz.isAgg28
  z22 := Tryz.sizeOf28
  v22 := Tryz.zeroValue28
  i3 := by kernel_rfl
end Go.Proofs
namespace Go.Vel
open Go Go.Conc Go.Proofs
theorem intsA_get {xs : List Int} {cur : Array Value} {φ : Nat → Loc3} {n : Nat} (h : ∀ (j : Nat) a, (xs.map intA)[j]? = some a → ∃ y, cur[j]? = some y ∧ RelV φ n a y) {j : Nat} (hj : j < xs.length) : cur[j]? = some (.int .i64 xs[j]) := by
  obtain ⟨y, h1, h2⟩ := h j (intA xs[j]) (by rw [List.getElem?_map, List.getElem?_eq_getElem hj]; rfl)
  cases h2
  exact h1
theorem intsA_take {xs : List Int} {cur : Array Value} {φ : Nat → Loc3} {n : Nat} (h : ∀ (j : Nat) a, (xs.map intA)[j]? = some a → ∃ y, cur[j]? = some y ∧ RelV φ n a y) : cur.toList.take xs.length = xs.map (Value.int .i64) := by
  apply List.ext_getElem?
  intro j
  by_cases hj : j < xs.length
  · rw [List.getElem?_take_of_lt hj, Array.getElem?_toList, intsA_get h hj, List.getElem?_map, List.getElem?_eq_getElem hj]; rfl
  · rw [List.getElem?_take_eq_none (by omega), List.getElem?_eq_none (by simp; omega)]
theorem put_get {xs : List Int} {cur : Array Value} (h : xs.length ≤ cur.size) {j : Nat} (hj : j < xs.length) : (Go.Sort.putCells (Value.int .i64) 0 xs.toArray cur)[j]? = some (.int .i64 xs[j]) := by
  have := Go.take_putCellsI cur xs h
  have h2 : ((Go.Sort.putCells (Value.int .i64) 0 xs.toArray cur).toList.take xs.length)[j]? = some (.int .i64 xs[j]) := by rw [this, List.getElem?_map, List.getElem?_eq_getElem hj]; rfl
  rwa [List.getElem?_take_of_lt hj, Array.getElem?_toList] at h2
theorem put_size {d : Array Int} {cur : Array Value} : (Go.Sort.putCells (Value.int .i64) 0 d cur).size = cur.size := by simp [Go.Sort.putCells]
theorem fits_put {H : Hp} {w w' : World} {g : Nat} {o : Obj} (hf : Fits H w) (hg : w'.heap[g]? = some o) (hk : ∀ k, k < w.heap.size → k ≠ g → w'.heap[k]? = w.heap[k]?) : Fits (H.put g (true, o)) w' := by
  intro b rw' x hb
  by_cases he : b = g
  · subst he; rw [Hp.put_same] at hb; cases hb; exact hg
  · rw [Hp.put_other H _ he] at hb
    rw [hk b (hf.lt hb) he]
    exact hf b _ _ hb
section
variable {Ψ : Goroutine → World → Prop} {gm : Nat → Option Nat}
/-- A call that turns a row of integers: from its lone contract. -/
theorem callK_row (tame : Tame Tryz.prog) {g : FuncId} {j m : Nat} {xs zs : List Int} {r : AV} {rv : Option Addr → Nat → Value} (hz : zs.length = xs.length) (hm : m ≤ xs.length)
    (hc : ∀ (b cap : Nat) (w : World), Go.Sort.Holds (Value.int .i64) w b 0 xs.toArray → b < w.heap.size → xs.length ≤ cap → cap ≤ maxLen → Calls Tryz.prog g #[.slice (some ⟨b, 0, none⟩) xs.length cap] w fun e w' => e = .returned (rv (some ⟨b, 0, none⟩) cap) ∧ ∃ n os, w' = Go.Sort.grow (Go.Sort.putRow (Value.int .i64) (Go.Sort.ahead w n) b 0 zs.toArray) os)
    (h0 : xs = [] → ∀ (p : Option Addr) (cap : Nat) (w : World), Calls Tryz.prog g #[.slice p 0 cap] w fun e w' => e = .returned (rv p cap) ∧ w' = w)
    (hr : ∀ (φ : Nat → Loc3) (n cap : Nat) (p : Option Addr), j < n → xs.length ≤ (φ j).cap → rowV (φ j) xs.length (.slice p xs.length cap) → RelV φ n r (rv p cap)) :
    CallK Tryz.prog (BT Tryz.prog Ψ) gm g [.row j xs.length] [(j, .row (xs.map intA) 3 1)] (fun r' K' => r' = r ∧ K' = [(j, .row ((zs.take m).map intA) 3 1)]) := by
  intro A hv hn φ F H vs c cs h1 h2 h3 k
  have hj := hv.get (.head _)
  obtain ⟨y, rfl⟩ : ∃ y, vs = #[y] := by
    have hs : vs.size = 1 := h3.1.symm
    exact ⟨vs[0], by apply Array.ext (by simpa using hs); intro i h1 h2; simp at h2; subst h2; rfl⟩
  have hy := h3.2 0 _ _ rfl rfl
  obtain ⟨hO0, hO1, hO2⟩ := h2.obj j _ hj
  cases hy with
  | row hi hle hrow =>
  have hup : Upd [(j, AObj.row (xs.map intA) 3 1)] j (.row (xs.map intA) 3 1) j (.row ((zs.take m).map intA) 3 1) [(j, .row ((zs.take m).map intA) 3 1)] := .head
  by_cases hx : xs = []
  · obtain ⟨p, cap, rfl⟩ : ∃ p cap, y = .slice p xs.length cap := by
      unfold rowV at hrow
      split at hrow
      · obtain ⟨p, rfl⟩ := hrow; exact ⟨p, 0, by rw [hx]; rfl⟩
      · exact ⟨_, _, hrow⟩
    have hzz : zs.take m = xs := by rw [hx] at hz hm ⊢; rw [List.eq_nil_of_length_eq_zero hz]; simp
    refine callsM_lone tame (Post := fun v H' => v = rv p cap ∧ H' = H) (fun w hf => ?_) Ψ c cs fun v H' hp => ?_
    · have := h0 hx p cap w
      rw [show xs.length = 0 by rw [hx]; rfl]
      exact this.mono fun e w' ⟨a, b⟩ => ⟨_, a, by rw [b]; exact ⟨rfl, rfl⟩, H, by rw [b]; exact hf, rfl, rfl⟩
    · obtain ⟨rfl, rfl⟩ := hp
      refine k r A φ H' _ ⟨_, ?_, rfl, rfl⟩ (Agr.refl _ _) (Nat.le_refl _) h2 (hr φ _ cap p hi hle hrow)
      rw [hzz]
      exact Kstep.same hv hn
  · have hcap : 0 < (φ j).cap := by
      rcases Nat.eq_zero_or_pos (φ j).cap with h | h
      · exact absurd (hO0 h) (by simpa using hx)
      · exact h
    obtain ⟨cur, q1, q2, q3, q4, q5⟩ := hO2 hcap
    have hrow' := hrow
    unfold rowV at hrow
    rw [if_neg (by omega)] at hrow
    subst hrow
    rw [List.length_map] at q4
    have hput : zs.length ≤ cur.size := by omega
    refine callsM_lone tame (Post := fun v H' => v = rv (some ⟨(φ j).blk, 0, none⟩) (φ j).cap ∧ H' = H.put (φ j).blk (true, .cells (Go.Sort.putCells (Value.int .i64) 0 zs.toArray cur) 3 (0, 0))) (fun w hf => ?_) Ψ c cs fun v H' hp => ?_
    · have hb := hf _ _ _ q1
      refine (hc (φ j).blk (φ j).cap w (Go.holds_of_blockI hb (intsA_take q5)) (Array.getElem?_eq_some_iff.1 hb).1 hle q3).mono fun e w' ⟨a, n, os, b⟩ => ⟨_, a, by rw [b]; exact ⟨rfl, rfl⟩, _, ?_, rfl, rfl⟩
      subst b
      obtain ⟨_, _, _, _, hg⟩ := Go.grownBy_sortedI (w := w) (g := (φ j).blk) (n := n) (os := os) zs.toArray
      exact fits_put hf (Go.heap_sortedI zs.toArray hb) fun k' h1 h2 => hg k' h1 (fun e => h2 (by cases e; rfl))
    · obtain ⟨rfl, rfl⟩ := hp
      refine k r (A.set j (.row ((zs.take m).map intA) 3 1)) φ _ _ ⟨_, Kstep.set hv hn hup, rfl, rfl⟩ (Agr.refl _ _) (by simp) (h2.set hj rfl hcap ?_) (by simpa using hr φ A.length _ _ hi hle hrow')
      refine ⟨fun h => by omega, hO1, fun _ => ⟨_, Hp.put_same _ _ _, by rw [put_size]; exact q2, q3, by rw [List.length_map, List.length_take, put_size]; omega, fun i a ha => ?_⟩⟩
      rw [List.getElem?_map, Option.map_eq_some_iff] at ha
      obtain ⟨z, hz1, rfl⟩ := ha
      rw [List.getElem?_take] at hz1
      split at hz1
      · obtain ⟨hz2, rfl⟩ := List.getElem?_eq_some_iff.1 hz1
        exact ⟨_, put_get hput hz2, .v _⟩
      · cases hz1
theorem compact_len (xs : List Int) : (Lib.compact xs).length ≤ xs.length := by
  unfold Lib.compact Lib.compactUpTo
  rw [List.length_map]
  exact Nat.le_trans (List.length_filter_le _ _) (by simp)
def sortI (xs : List Int) : List Int := xs.mergeSort fun x y => decide (x ≤ y)
theorem sortI_len (xs : List Int) : (sortI xs).length = xs.length := List.length_mergeSort _
theorem sort_ok (tame : Tame Tryz.prog) {j : Nat} {xs : List Int} (hlen : xs.length ≤ 100000) : CallK Tryz.prog (BT Tryz.prog Ψ) gm 66 [.row j xs.length] [(j, .row (xs.map intA) 3 1)] (fun r K' => r = .tup [] ∧ K' = [(j, .row ((sortI xs).map intA) 3 1)]) := by
  have h := callK_row (gm := gm) (Ψ := Ψ) tame (g := 66) (j := j) (m := xs.length) (xs := xs) (zs := sortI xs) (r := .tup []) (rv := fun _ _ => .tuple #[]) (sortI_len xs) (Nat.le_refl _)
    (fun b cap w hH hb h1 h2 => Any.slices_Sort_int Tryz.lays189 b 0 cap xs w hH hb (by omega))
    (fun _ p cap w => Any.slices_Sort_int_none Tryz.lays189 p cap w)
    (fun φ n cap p _ _ _ => .tup rfl (fun j a y ha => by simp at ha))
  rw [show (sortI xs).take xs.length = sortI xs by rw [← sortI_len xs]; exact List.take_length] at h
  exact h
theorem compact_ok (tame : Tame Tryz.prog) {j : Nat} {xs : List Int} : CallK Tryz.prog (BT Tryz.prog Ψ) gm 67 [.row j xs.length] [(j, .row (xs.map intA) 3 1)] (fun r K' => r = .row j (Lib.compact xs).length ∧ K' = [(j, .row ((Lib.compact xs).map intA) 3 1)]) := by
  have hl := compact_len xs
  have h := callK_row (gm := gm) (Ψ := Ψ) tame (g := 67) (j := j) (m := (Lib.compact xs).length) (xs := xs) (zs := Lib.compact xs ++ List.replicate (xs.length - (Lib.compact xs).length) 0) (r := .row j (Lib.compact xs).length) (rv := fun p cap => .slice p (Lib.compact xs).length cap) (by simp; omega) hl
    (fun b cap w hH hb h1 h2 => (Any.slices_Compact_int Tryz.lays20 b 0 cap xs w hH (by unfold maxLen at h2; omega) h1).mono fun e w' ⟨a, q, b⟩ => ⟨a, q, #[], by rw [b, Go.Sort.grow_empty]⟩)
    (fun hx p cap w => (Any.slices_Compact_int_empty Tryz.lays20 p cap w).mono fun e w' ⟨a, b⟩ => ⟨by rw [a, show (Lib.compact xs).length = 0 by subst hx; simpa using hl], b⟩)
    (fun φ n cap p hn hle hrow => by
      refine .row hn (by omega) ?_
      unfold rowV at hrow ⊢
      split at hrow
      · rename_i h
        obtain ⟨q, hq⟩ := hrow
        rw [if_pos h]
        injection hq with h1 h2 h3
        exact ⟨q, by rw [h1, h3, show (Lib.compact xs).length = 0 by omega]⟩
      · rename_i h
        rw [if_neg h]
        injection hrow with h1 h2 h3
        rw [h1, h3])
  rw [List.take_left' rfl] at h
  exact h
end
def countsM (b : Bk) : List Int := Lib.compact (sortI ((statesM b).map fun S => (S.length : Int)))


set_option maxRecDepth 20000 in
set_option maxHeartbeats 1000000 in
theorem counts_ok (tame : Tame Tryz.prog) {Ψ : Goroutine → World → Prop} {b : Bk} {s e : Nat} (hse : s ≠ e) (hn : ∀ x ∈ b.seekers, x.name.size ≤ 1000) (hl : b.seen.length ≤ 1000) : CallK Tryz.prog (BT Tryz.prog Ψ) gmS 17 [.agg (bookC b s e)] [(0, checksG), (1, saysG), (s, saysO b), (e, seenO b)] (fun r K' => (askM b true ≠ 0 ∧ r = .tup [.v (.slice none 0 0), intA (askM b true)] ∧ K' = [(0, checksG), (1, saysG), (s, saysO b), (e, seenO b)]) ∨ (askM b true = 0 ∧ ∃ j, r = .tup [.row j (countsM b).length, intA 0] ∧ K' = [(0, checksG), (1, saysG), (s, saysO b), (e, seenO b), (j, .row ((countsM b).map intA) 3 1)])) := by
  have hT := shut_BT tame Ψ
  refine callK_in 34 hT Tryz.func17 fun Y hret => ?_
  refine au [4, 5, 21] ?_
  intro jb hjb
  refine au [2, 2, 3, 4, 5, 8] ?_
  refine TK.cl rfl rfl rfl rfl (ask_ok hT (b := b) (s := s) (e := e) (t := true) hse hn hl rfl (fun hb => callFK_fn Cal.h (always_ok hT))) ?_
  rintro r1 K2 h3
  rcases h3 with ⟨hb0, rfl, rfl⟩ | ⟨jl, jm, om, hb0, hom, rfl, rfl⟩
  · refine au [1, 10, 10, 22] ?_
    intro jx hjx
    refine au [17, 2, 3, 4, 4, 5, 1, 6, 3, 20] ?_
    refine ⟨fun hc0 => ?_, fun hc0 => ?_⟩
    · 
      refine au [4, 5, 1, 2, 2, 3] ?_
      refine TK.rt hret [(0, _), (1, _), (s, _), (e, _)] ?_
      exact .inl ⟨hb0, rfl, rfl⟩
    exact absurd (by simpa using hc0) hb0
  · refine au [1, 10, 10, 22] ?_
    intro jx hjx
    refine au [17, 2, 3, 4, 4, 5, 1, 6, 3, 20] ?_
    refine ⟨fun hc0 => ?_, fun hc0 => ?_⟩
    · exact absurd hc0 (by decide)
    obtain ⟨hck, hth, hne⟩ := ask_zero hb0
    have hb := bkOk_of hck
    have hLo := statesM_ok hb
    have hLn := statesM_len hb
    refine au [12, 4, 5, 2] ?_
    refine TK.virt 6 3 1 rfl fun j01 hj01 => ?_
    refine au [3, 4, 4, 5, 7, 9, 28, 1, 3, 13] ?_
    refine TK.maskL [6, 18, 19, 20] ?_
    refine TK.kp [(jx, _), (jm, _), (jl, _), (jb, _), (0, _), (1, _), (s, _), (e, _), (j01, _)] ?_
    refine TK.loopN (fun n env K => ∃ (i j1 : Nat), n = (statesM b).length - i ∧ i ≤ (statesM b).length ∧ env = slotsA 34 [(6, .row j1 (((statesM b).take i).map fun S => (S.length : Int)).length), (18, .sl jl 0 (statesM b).length), (19, intA (statesM b).length), (20, intA i)] ∧ K = [(jx, .cells (knownC b s e (.sl jl 0 (statesM b).length) jm) 97 true), (jm, .raw om), (jl, listO (statesM b)), (jb, .cells (bookC b s e) 27 true), (0, checksG), (1, saysG), (s, saysO b), (e, seenO b), (j1, .row ((((statesM b).take i).map fun S => (S.length : Int)).map intA) 3 1)]) (statesM b).length ⟨0, j01, rfl, Nat.zero_le _, rfl, rfl⟩ fun n env K hI' hnext => ?_
    obtain ⟨i, j1, rfl, hi, rfl, rfl⟩ := hI'
    refine au [4, 5, 6, 3, 4, 20] ?_
    refine ⟨fun hc1 => ?_, fun hc1 => ?_⟩
    · simp only [decide_eq_true_eq] at hc1
      have hil : i < (statesM b).length := by omega
      have htl : (((statesM b).take i).map fun S => (S.length : Int)).length ≤ 65536 := by rw [List.length_map, List.length_take]; omega
      refine au [12, 4, 13, 4, 5, 36] ?_
      refine TK.a rfl (q_load rfl rfl TySz.h (by repeat (first | exact List.Mem.head _ | assumption | apply List.Mem.tail)) (list_at (statesM b) i hil)) ?_
      refine au [22] ?_
      intro j9 hj9
      refine au [17, 3, 5, 1, 7, 9] ?_
      refine TK.newR rfl rfl rfl (n_buildSlice (l := [_]) rfl SlEl.h TyZ.h (by decide) (by decide) rfl) (fun _ => putS rfl (by simp only [List.set]; rfl)) fun j4 hj4 => ?_
      refine TK.appR rfl rfl rfl (a_app rfl ApOf.h rfl (by repeat (first | exact List.Mem.head _ | assumption | apply List.Mem.tail)) (by simp <;> omega) rfl (src_row (ln := [_]) (by repeat (first | exact List.Mem.head _ | assumption | apply List.Mem.tail)) (by decide) (by simp) rfl) (by omega) rfl (by unfold maxLen; omega) (by omega)) (fun _ => (by repeat (first | exact Upd.head | apply Upd.tail))) (fun _ => putS rfl (by simp only [List.set]; rfl)) fun j3 => ?_
      refine au [2, 3, 14, 5, 23, 1, 3] ?_
      refine TK.maskL [6, 18, 19, 20] ?_
      refine TK.kp [(jx, _), (jm, _), (jl, _), (jb, _), (0, _), (1, _), (s, _), (e, _), (j3, _)] ?_
      have e1 : ((statesM b).take (i + 1)).map (fun S => (S.length : Int)) = ((statesM b).take i).map (fun S => (S.length : Int)) ++ [((statesM b)[i].length : Int)] := by rw [List.take_add_one, List.getElem?_eq_getElem hil, List.map_append]; rfl
      exact hnext _ _ _ (by omega) ⟨i + 1, j3, rfl, by omega, by rw [e1, List.length_append]; rfl, by rw [e1, List.map_append]; rfl⟩
    simp only [decide_eq_false_iff_not] at hc1
    obtain rfl : i = (statesM b).length := by omega
    rw [List.take_length]
    refine au [16, 4, 5, 1] ?_
    refine TK.cl rfl rfl rfl rfl (sort_ok tame (by rw [List.length_map]; omega)) ?_
    rintro r5 K6 ⟨rfl, rfl⟩
    refine au [] ?_
    rw [← sortI_len ((statesM b).map fun S => (S.length : Int))]
    refine au [3, 4, 5, 1] ?_
    refine TK.cl rfl rfl rfl rfl (compact_ok tame) ?_
    rintro r8 K9 ⟨rfl, rfl⟩
    refine au [2, 2, 3] ?_
    refine TK.rt hret [(0, _), (1, _), (s, _), (e, _), (j1, _)] ?_
    exact .inr ⟨hb0, j1, rfl, rfl⟩
end Go.Vel
end
section
set_option linter.all false
namespace Go.Vel
open Go Go.Conc Go.Proofs

section
variable {P : Program} {gm : Nat → Option Nat} {T : Goroutine → Hp → Prop} {Y : KX P gm T} {ds : List Nat} {k : List Item} {env env' : List AV} {K K' : KV}
theorem TK.nilAgg (d p : Nat) (e : TypeId) {l : List AV} {x : Option Addr} {c : Nat} (hx : env[d]? = some (.agg l)) (hp : l[p]? = some (.v (.slice x 0 c))) (h : ∀ j, j ∉ keys K → TK Y ds k (env.set d (.agg (l.set p (.sl j 0 0)))) ((j, .cells [] e false) :: K)) : TK Y ds k env K := fun A hA φ H ts h1 h2 h3 h4 h5 h6 => by
  have hk : A.length ∉ keys K := fun hm => absurd (hA.view.lt hm) (Nat.lt_irrefl _)
  have hH := h5.virtO (o := .cells [] e false) (fun φ n hl => absurd rfl hl) (fun hl => hl rfl)
  have hag := agr_upd3 φ A.length ⟨0, 0, 0⟩
  have hlen : (A ++ [AObj.cells [] e false]).length = A.length + 1 := by simp
  have hds : dsC (upd3 φ A.length ⟨0, 0, 0⟩) ds = dsC φ ds := by
    unfold dsC
    exact List.map_congr_left fun d hd' => by rw [hag d (h4 d hd')]
  rw [← hds]
  refine h _ hk _ (hA.step (.push hA.view hA.nd _)) _ H ts (h1.trans hag h2) (by omega) (h3.mono hag (by omega)) (fun d hd => by have := h4 d hd; omega) hH ?_
  have hE := h6.mono (n' := (A ++ [AObj.cells [] e false]).length) hag (by omega)
  exact hE.set' hx fun y hy => by
    obtain ⟨ys, rfl, q1, q2⟩ := inv_agg hy
    refine .agg (by simpa using q1) fun t u z hu hz => ?_
    rw [List.getElem?_set] at hu
    split at hu
    · rename_i ht
      subst ht
      split at hu
      · cases hu
        have := q2 p _ z hp hz
        rw [inv_v this]
        exact .sl (by omega) (Nat.zero_le _) fun hp => absurd hp (Nat.lt_irrefl _)
      · cases hu
    · exact q2 t u z hu hz
end
def greatM (b : Bk) : Bool := decide (b.seekers.length > 20) || decide (b.seen.length > 20) || b.seekers.any fun x => decide (x.name.size > 100)
theorem any_all {α : Type} {xs : List α} {p : α → Bool} (h : (xs.take xs.length).any p = false) : xs.any p = false := by rwa [List.take_length] at h
theorem any_all_of {α : Type} {xs : List α} {p : α → Bool} {i : Nat} {x : α} (h : xs[i]? = some x) (he : p x = true) : xs.any p = true := List.any_eq_true.2 ⟨x, List.mem_of_getElem? h, he⟩
theorem great_small {b : Bk} (h : greatM b = false) : b.seekers.length ≤ 20 ∧ b.seen.length ≤ 20 ∧ ∀ x ∈ b.seekers, x.name.size ≤ 100 := by
  unfold greatM at h
  simp only [Bool.or_eq_false_iff, decide_eq_false_iff_not] at h
  refine ⟨by omega, by omega, fun x hx => ?_⟩
  have := List.any_eq_false.1 h.2 x hx
  simp at this
  omega
def exB : Bk := ⟨8, 1, 1, 1, [⟨⟨#[97, 110, 110]⟩, 1, 3, 0, false⟩, ⟨⟨#[98, 111]⟩, 2, 5, 1, false⟩, ⟨⟨#[99, 121]⟩, 3, 6, 0, false⟩], []⟩
def exB2 : Bk := { exB with low := 2, high := 2 }
def exX : Says := ⟨⟨#[100, 105]⟩, 5, 1, 0, true⟩
theorem ex_check : checkM exB = 0 := by kernel_rfl
theorem ex_all : allM exB = [[0],[1],[2],[3],[4],[5],[6],[7]] := by kernel_rfl
theorem ex_states : statesM exB = [[1],[3],[6]] := by kernel_rfl
theorem ex_ask : askM exB true = 0 := by kernel_rfl
theorem ex_r0 : rightApi exB [3] 0 = (true, 0) := by kernel_rfl
theorem ex_r1 : rightApi exB [3] 1 = (false, 0) := by kernel_rfl
theorem ex_s3 : stateApi exB [3] = (true, 0) := by kernel_rfl
theorem ex_s4 : stateApi exB [4] = (false, 0) := by kernel_rfl
theorem ex_st : statesApi exB = (3, 0) := by kernel_rfl
theorem ex_at1 : atApi exB 1 = (0, 0) := by kernel_rfl
theorem ex_at0 : atApi exB 0 = (2, 0) := by kernel_rfl
theorem ex_p1 : pickL exB 1 exB.steps.toNat = [] := by kernel_rfl
theorem ex_p0 : pickL exB 0 exB.steps.toNat = [1, 3, 6] := by kernel_rfl
theorem ex_w : withinApi exB 6 1 = ((0, 1), 0) := by kernel_rfl
theorem ex_n : narrowApi exB = ((1, 6), true, 0) := by kernel_rfl
theorem ex_wr : wrongApi exB 0 = (0, 0) := by kernel_rfl
theorem ex_g0 : guessM exB (allM exB) ≠ [] := by decide +kernel
theorem ex_li : likelyM exB = ([1], 1) := by kernel_rfl
theorem ex_t : togM exB (everyM exB) = false := by kernel_rfl
theorem ex_cl : clashM exB = [0, 1, 2] := by kernel_rfl
theorem ex_askA : askApi exB = (1, 2, 0) := by kernel_rfl
theorem ex_lend : lendApi exB = (0, 2, 0) := by kernel_rfl
theorem ex_giv : giveM exB 0 = 0 := by kernel_rfl
theorem ex_g2 : statesApi (giveB exB 0) = (2, 0) := by kernel_rfl
theorem ex_g3 : narrowApi (giveB exB 0) = ((1, 3), true, 0) := by kernel_rfl
theorem ex_lk : newsM exB (lookB exB ⟨3, true⟩) = 0 := by kernel_rfl
theorem ex_lk2 : statesApi (lookB exB ⟨3, true⟩) = (1, 0) := by kernel_rfl
theorem ex_hr : newsM exB (hearB exB exX) = 0 := by kernel_rfl
theorem ex_hr2 : statesApi (hearB exB exX) = (2, 0) := by kernel_rfl
theorem ex2_st : statesApi exB2 = (17, 0) := by kernel_rfl
theorem ex2_ck : checkM exB2 = 0 := by kernel_rfl
theorem ex2_g : guessM exB2 (allM exB2) ≠ [] := by decide +kernel
theorem ex2_li : likelyM exB2 = ([1, 6], 0) := by kernel_rfl
theorem ex2_t : togM exB2 (everyM exB2) = true := by kernel_rfl
theorem ex_cnt : (statesM exB).map (fun S => (S.length : Int)) = [1, 1, 1] := by rw [ex_states]; rfl
theorem ex_counts : countsM exB = [1] := by
  unfold countsM sortI
  rw [ex_cnt, List.mergeSort_of_pairwise (by decide)]
  decide +kernel


set_option maxRecDepth 20000 in
set_option maxHeartbeats 1000000 in
theorem great_ok {main : Bool} {T : Goroutine → Hp → Prop} (hT : Shut Tryz.prog main T) {gm : Nat → Option Nat} {b : Bk} {s e : Nat} :
    CallK Tryz.prog T gm 7 [.agg (bookC b s e)] [(s, saysO b)] (fun r K' => r = boolA (greatM b) ∧ K' = [(s, saysO b)]) := by
  refine callK_in 29 hT Tryz.func7 fun Y hret => ?_
  refine au [4, 5, 21] ?_
  intro jb hjb
  refine au [2, 3, 4, 4, 5, 7, 9, 28, 6, 1] ?_
  refine TK.sp 8 (fun g1_5 => ?_) (fun g1_5 => ?_)
  · refine au [11, 11, 11, 11, 26, 3, 18, 4, 5, 2, 3] ?_
    refine TK.rt hret [(s, _)] ?_
    exact ⟨by unfold greatM; rw [show decide (b.seekers.length > 20) = true by have := of_decide_eq_true g1_5; simp; omega]; rfl, rfl⟩
  have hlen20 : b.seekers.length ≤ 20 := by have := of_decide_eq_false g1_5; omega
  refine au [7, 9, 28, 6, 25, 3, 20] ?_
  refine ⟨fun hc0 => ?_, fun hc0 => ?_⟩
  · refine au [4, 5, 2, 3] ?_
    refine TK.rt hret [(s, _)] ?_
    exact ⟨by unfold greatM; rw [show decide (b.seen.length > 20) = true by have := of_decide_eq_true hc0; simp; omega, Bool.or_true]; rfl, rfl⟩
  refine au [12, 4, 4, 5, 2, 3, 13] ?_
  refine TK.maskL [1, 3] ?_
  refine TK.loopN (fun n env K => ∃ (i : Nat), n = b.seekers.length - i ∧ i ≤ b.seekers.length ∧ ((b.seekers.take i).any fun x => decide (x.name.size > 100)) = false ∧ env = slotsA 29 [(1, .ptr jb 0), (3, intA i)] ∧ K = [(jb, .cells (bookC b s e) 27 true), (s, saysO b)]) b.seekers.length ⟨0, rfl, Nat.zero_le _, rfl, rfl, rfl⟩ fun n env K hI' hnext => ?_
  obtain ⟨i, rfl, hi, hany, rfl, rfl⟩ := hI'
  refine au [4, 4, 5, 1, 7, 9, 28, 6, 3, 20] ?_
  refine ⟨fun hc => ?_, fun hc => ?_⟩
  · simp only [decide_eq_true_eq] at hc
    have hil : i < b.seekers.length := by omega
    obtain ⟨x, hx⟩ : ∃ x, b.seekers[i]? = some x := ⟨_, List.getElem?_eq_getElem hil⟩
    refine au [12, 4, 13, 4, 5, 7, 9, 1, 36, 7] ?_
    refine TK.a rfl (q_load1 rfl rfl TySz.h (by repeat (first | exact List.Mem.head _ | assumption | apply List.Mem.tail)) (take_fld (says_at' b hx) (by decide) rfl)) ?_
    refine au [29, 6, 3, 20] ?_
    refine ⟨fun hc2 => ?_, fun hc2 => ?_⟩
    · refine au [4, 5, 2, 3] ?_
      refine TK.rt hret [(s, _)] ?_
      exact ⟨by unfold greatM; rw [any_all_of (p := fun x : Says => decide (x.name.size > 100)) hx (by have := of_decide_eq_true hc2; simp; omega), Bool.or_true]; rfl, rfl⟩
    refine au [12, 14, 5, 1, 23, 2, 3] ?_
    refine TK.maskL [1, 3] ?_
    refine TK.kp [(jb, _), (s, _)] ?_
    exact hnext _ _ _ (by omega) ⟨i + 1, rfl, by omega, any_take_next hx hany (by have := of_decide_eq_false hc2; simp; omega), rfl, rfl⟩
  simp only [decide_eq_false_iff_not] at hc
  obtain rfl : i = b.seekers.length := by omega
  refine au [16, 4, 5, 2, 3] ?_
  refine TK.rt hret [(s, _)] ?_
  exact ⟨by unfold greatM; rw [any_all hany, show decide (b.seekers.length > 20) = false by have := of_decide_eq_false g1_5; simp; omega, show decide (b.seen.length > 20) = false by have := of_decide_eq_false hc0; simp; omega]; rfl, rfl⟩

set_option maxRecDepth 20000 in
set_option maxHeartbeats 1000000 in
theorem to_ok {main : Bool} {T : Goroutine → Hp → Prop} (hT : Shut Tryz.prog main T) {gm : Nat → Option Nat} {a z : Int} :
    CallK Tryz.prog T gm 47 [intA a, intA z] [] (fun r K' => r = .agg [intA a, intA z] ∧ K' = []) := by
  refine callK_in 8 hT Tryz.func47 fun Y hret => ?_
  refine au [4, 5, 22] ?_
  intro j1 hj1
  refine au [3, 4, 5, 1, 1, 39, 17, 3] ?_
  refine TK.rt hret [] ?_
  exact ⟨rfl, rfl⟩

set_option maxRecDepth 20000 in
set_option maxHeartbeats 1000000 in
theorem one_ok2 {main : Bool} {T : Goroutine → Hp → Prop} (hT : Shut Tryz.prog main T) {gm : Nat → Option Nat} {n : Int} :
    CallK Tryz.prog T gm 48 [intA n] [] (fun r K' => r = .agg [intA n, intA n] ∧ K' = []) := by
  refine callK_in 6 hT Tryz.func48 fun Y hret => ?_
  refine au [4, 5, 22] ?_
  intro j1 hj1
  refine au [3, 4, 5, 1, 1] ?_
  refine TK.cl rfl rfl rfl rfl (to_ok hT) ?_
  rintro r2 K3 ⟨rfl, rfl⟩
  refine au [17, 3] ?_
  refine TK.rt hret [] ?_
  exact ⟨rfl, rfl⟩

set_option maxRecDepth 20000 in
set_option maxHeartbeats 1000000 in
theorem lists_ok {main : Bool} {T : Goroutine → Hp → Prop} (hT : Shut Tryz.prog main T) {gm : Nat → Option Nat} {j off j2 off2 : Nat} {ob ob2 : AObj} {xs ys : List Int} (hjj : j ≠ j2) (hI : IntsAt ob off xs) (hI2 : IntsAt ob2 off2 ys) (hlx : xs.length ≤ 100000) :
    CallK Tryz.prog T gm 46 [.sl j off xs.length, .sl j2 off2 ys.length] [(j, ob), (j2, ob2)] (fun r K' => r = boolA (decide (xs = ys)) ∧ K' = [(j, ob), (j2, ob2)]) := by
  refine callK_in 8 hT Tryz.func46 fun Y hret => ?_
  refine au [4, 5, 2, 3, 4, 5, 1, 1] ?_
  refine TK.cl rfl rfl rfl rfl (sameInts_ok hT hjj hI hI2 hlx) ?_
  rintro r1 K2 ⟨rfl, rfl⟩
  refine au [2, 3] ?_
  refine TK.rt hret [(j, _), (j2, _)] ?_
  exact ⟨rfl, rfl⟩

set_option maxRecDepth 20000 in
set_option maxHeartbeats 1000000 in
theorem example_ok {main : Bool} {T : Goroutine → Hp → Prop} (hT : Shut Tryz.prog main T) {gm : Nat → Option Nat}  :
    CallK Tryz.prog T gm 45 [] [] (fun r K' => ∃ s e, s ≠ e ∧ r = .agg (bookC exB s e) ∧ K' = [(s, saysO exB), (e, seenO exB)]) := by
  refine callK_in 7 hT Tryz.func45 fun Y hret => ?_
  refine au [4, 5, 22] ?_
  intro j1 hj1
  refine au [3, 4, 5] ?_
  refine TK.cl rfl rfl rfl rfl (one_ok2 hT) ?_
  rintro r2 K3 ⟨rfl, rfl⟩
  refine au [42, 42, 42] ?_
  refine TK.newR rfl rfl rfl (n_buildSlice (l := [_, _, _, _, _, _, _, _, _, _, _, _, _, _, _]) rfl SlEl.h TyZ.h (by decide) (by decide) rfl) (fun _ => putS rfl (by simp only [List.set]; rfl)) fun jS hjS => ?_
  refine TK.freezeR 5 rfl (by repeat (first | exact Upd.head | apply Upd.tail)) rfl ?_
  refine au [43] ?_
  refine TK.nilAgg 6 5 90 rfl rfl fun jE hjE => ?_
  refine au [17, 3] ?_
  refine TK.rt hret [(jS, _), (jE, _)] ?_
  exact ⟨jS, jE, fun h => hjE (by subst h; simp [keys]), rfl, rfl⟩
end Go.Vel
end
section
set_option linter.all false
namespace Go.Vel
open Go Go.Conc Go.Proofs

theorem pendS {ops : Array Oper} {i : Nat} {pend pend' : List Pd} {es : List Nat} (h : edgesOf .any ops i = es) (h2 : (pend.filter fun p => !(es.elem p.i)) = pend') : pendOf ops i pend = pend' := by unfold pendOf; rw [h]; exact h2
section
variable {P : Program} {gm : Nat → Option Nat} {T : Goroutine → Hp → Prop}
/-- A call that is handed a row it only reads. -/
theorem callK_frz {g : FuncId} {a1 : AV} {j j2 n : Nat} {ob : AObj} {l : List AV} {e : TypeId} {s : Nat} {Post : AV → KV → Prop} (h : CallK P T gm g [a1, .sl j2 0 n] [(j, ob), (j2, .cells l e false)] Post) : CallK P T gm g [a1, .row j2 n] [(j, ob), (j2, .row l e s)] Post := by
  intro A hv hn φ F H vs c cs h1 h2 h3 q
  have hj : A[j2]? = some (.row l e s) := hv.get (by simp)
  have hb : (φ j2).base = 0 := (h2.obj j2 _ hj).2.1
  have hst : Kstep [(j, ob), (j2, AObj.row l e s)] A [(j, ob), (j2, .cells l e false)] (A.set j2 (.cells l e false)) := .set hv hn (.tail .head)
  refine h (A.set j2 (.cells l e false)) hst.view hst.nd φ F H vs c cs (by simpa using h1) (h2.turn hj (fun ho hl => ?_) (fun h => by cases h) (fun _ => rfl) (fun hs => ?_)) ⟨by simpa using h3.1, fun t a y ha hy => ?_⟩ fun r A' φ' H' v ⟨K', hk, hp⟩ hA hlen hH' hv' => q r A' φ' H' v ⟨K', hst.trans hk, hp⟩ (by simpa using hA) (by simpa using hlen) hH' hv'
  · have hc : 0 < (φ j2).cap := by
      rcases Nat.eq_zero_or_pos (φ j2).cap with e | e
      · exact absurd (ho.1 e) hl
      · exact e
    obtain ⟨cur, q1, q2, q3, q4, q5⟩ := ho.2.2 hc
    exact ⟨true, cur, (_, 0, 0), q1, (fun h => by cases h), fun t u hu => by rw [hb, Nat.zero_add]; exact q5 t u hu⟩
  · show 0 < (φ j2).cap
    rcases Nat.eq_zero_or_pos (φ j2).cap with e | e
    · exact absurd ((h2.obj j2 _ hj).1 e) hs
    · exact e
  · match t, ha with
    | 0, ha =>
      cases ha
      simpa using h3.2 0 a1 y rfl hy
    | 1, ha =>
      cases ha
      have := unrow_rel (j := j2) hb (h3.2 1 _ y rfl hy)
      simpa [unrow] using this
    | t + 2, ha => simp at ha
end
theorem same_ok {main : Bool} {T : Goroutine → Hp → Prop} (hT : Shut Tryz.prog main T) {gm : Nat → Option Nat} {j off j2 off2 : Nat} {ob ob2 : AObj} (xs : List Int) (hjj : j ≠ j2) (hI : IntsAt ob off xs) (hI2 : IntsAt ob2 off2 xs) (hlx : xs.length ≤ 100000) :
    CallK Tryz.prog T gm 46 [.sl j off xs.length, .sl j2 off2 xs.length] [(j, ob), (j2, ob2)] (fun r K' => r = boolA true ∧ K' = [(j, ob), (j2, ob2)]) :=
  (lists_ok hT hjj hI hI2 hlx).mono fun r K' ⟨h1, h2⟩ => ⟨by rw [h1, decide_eq_true rfl], h2⟩
theorem small_of {b : Bk} (h : (b.seekers.all fun x => decide (x.name.size ≤ 1000)) = true) : ∀ x ∈ b.seekers, x.name.size ≤ 1000 := fun x hx => of_decide_eq_true (List.all_eq_true.1 h x hx)
theorem ex_n1 : ∀ x ∈ exB.seekers, x.name.size ≤ 1000 := small_of (by kernel_rfl)
theorem ex_n2 : ∀ x ∈ exB2.seekers, x.name.size ≤ 1000 := small_of (by kernel_rfl)
theorem ex_n3 : ∀ x ∈ (giveB exB 0).seekers, x.name.size ≤ 1000 := small_of (by kernel_rfl)
theorem ex_n4 : ∀ x ∈ (lookB exB ⟨3, true⟩).seekers, x.name.size ≤ 1000 := small_of (by kernel_rfl)
theorem ex_n5 : ∀ x ∈ (hearB exB exX).seekers, x.name.size ≤ 1000 := small_of (by kernel_rfl)
theorem ex_l1 : exB.seen.length ≤ 1000 := by decide
theorem ex_l2 : exB2.seen.length ≤ 1000 := by decide
theorem ex_l3 : (giveB exB 0).seen.length ≤ 1000 := by decide
theorem ex_l4 : (lookB exB ⟨3, true⟩).seen.length ≤ 1000 := by decide
theorem ex_l5 : (hearB exB exX).seen.length ≤ 1000 := by decide


set_option maxRecDepth 20000 in
set_option maxHeartbeats 20000000 in
theorem sought_ok (tame : Tame Tryz.prog) {Ψ : Goroutine → World → Prop} : CallK Tryz.prog (BT Tryz.prog Ψ) gmS 8 [] [(0, checksG), (1, saysG)] (fun r K' => r = boolA true ∧ K' = [(0, checksG), (1, saysG)]) := by
  have hT := shut_BT tame Ψ
  refine callK_in 427 hT Tryz.func8 fun Y hret => ?_
  refine au [4, 5, 2, 3, 4, 5] ?_
  refine TK.cl rfl rfl rfl rfl (example_ok hT) ?_
  rintro r1 K2 ⟨s, e, hse, rfl, rfl⟩
  refine au [22] ?_
  intro j1 hj1
  refine au [17, 3, 4] ?_
  refine TK.kp [(j1, _), (0, _), (1, _), (s, _), (e, _)] ?_
  refine au [5, 8] ?_
  refine TK.newR rfl rfl rfl (n_buildSlice (l := [_]) rfl SlEl.h TyZ.h (by decide) (by decide) rfl) (fun _ => putS rfl (by simp only [List.set]; rfl)) fun ja2 hja2 => ?_
  refine TK.freezeR 40 rfl (by repeat (first | exact Upd.head | apply Upd.tail)) rfl ?_
  refine au [] ?_
  refine TK.cl rfl rfl rfl rfl (rightApi_ok hT (b := exB) (s := s) (e := e) (k := 0) (xs := [3]) ex_n1 ex_l1 (ints_at [3] 3 false) (by decide)) ?_
  rintro r4 K5 ⟨rfl, rfl⟩
  refine au [] ?_
  rw [ex_r0]
  refine au [1, 10, 10, 2, 2, 3, 4] ?_
  refine TK.kp [(j1, _), (0, _), (1, _), (s, _), (e, _)] ?_
  refine au [5, 8] ?_
  refine TK.newR rfl rfl rfl (n_buildSlice (l := [_]) rfl SlEl.h TyZ.h (by decide) (by decide) rfl) (fun _ => putS rfl (by simp only [List.set]; rfl)) fun ja3 hja3 => ?_
  refine TK.freezeR 46 rfl (by repeat (first | exact Upd.head | apply Upd.tail)) rfl ?_
  refine au [] ?_
  refine TK.cl rfl rfl rfl rfl (rightApi_ok hT (b := exB) (s := s) (e := e) (k := 1) (xs := [3]) ex_n1 ex_l1 (ints_at [3] 3 false) (by decide)) ?_
  rintro r7 K8 ⟨rfl, rfl⟩
  refine au [] ?_
  rw [ex_r1]
  refine au [1, 10, 10, 2, 2, 3, 4] ?_
  refine TK.kp [(j1, _), (0, _), (1, _), (s, _), (e, _)] ?_
  refine au [5, 8] ?_
  refine TK.newR rfl rfl rfl (n_buildSlice (l := [_]) rfl SlEl.h TyZ.h (by decide) (by decide) rfl) (fun _ => putS rfl (by simp only [List.set]; rfl)) fun ja4 hja4 => ?_
  refine TK.freezeR 52 rfl (by repeat (first | exact Upd.head | apply Upd.tail)) rfl ?_
  refine au [] ?_
  refine TK.cl rfl rfl rfl rfl (stateApi_ok hT (b := exB) (s := s) (e := e) hse (xs := [3]) ex_n1 ex_l1 (ints_at [3] 3 false) (by decide)) ?_
  rintro r10 K11 ⟨rfl, rfl⟩
  refine au [] ?_
  rw [ex_s3]
  refine au [1, 10, 10, 2, 2, 3, 4] ?_
  refine TK.kp [(j1, _), (0, _), (1, _), (s, _), (e, _)] ?_
  refine au [5, 8] ?_
  refine TK.newR rfl rfl rfl (n_buildSlice (l := [_]) rfl SlEl.h TyZ.h (by decide) (by decide) rfl) (fun _ => putS rfl (by simp only [List.set]; rfl)) fun ja5 hja5 => ?_
  refine TK.freezeR 58 rfl (by repeat (first | exact Upd.head | apply Upd.tail)) rfl ?_
  refine au [] ?_
  refine TK.cl rfl rfl rfl rfl (stateApi_ok hT (b := exB) (s := s) (e := e) hse (xs := [4]) ex_n1 ex_l1 (ints_at [4] 3 false) (by decide)) ?_
  rintro r13 K14 ⟨rfl, rfl⟩
  refine au [] ?_
  rw [ex_s4]
  refine au [1, 10, 10, 2, 2, 3, 4] ?_
  refine TK.kp [(j1, _), (0, _), (1, _), (s, _), (e, _)] ?_
  refine au [5, 8] ?_
  refine TK.cl rfl rfl rfl rfl (statesApi_ok hT (b := exB) (s := s) (e := e) hse ex_n1 ex_l1) ?_
  rintro r16 K17 ⟨rfl, rfl⟩
  refine au [] ?_
  rw [ex_st]
  refine au [1, 10, 10, 2, 2, 3, 4, 5, 8] ?_
  refine TK.cl rfl rfl rfl rfl (counts_ok tame (b := exB) (s := s) (e := e) hse ex_n1 ex_l1) ?_
  rintro r19 K20 h21
  rcases h21 with ⟨hb0, rfl, rfl⟩ | ⟨hb0, jc, rfl, rfl⟩
  · refine au [] ?_
    exact absurd ex_ask hb0
  · refine au [] ?_
    rw [ex_counts]
    refine au [1, 10] ?_
    refine TK.freezeR 70 rfl (by repeat (first | exact Upd.head | apply Upd.tail)) rfl ?_
    refine au [10, 2, 2, 3, 4, 5, 8] ?_
    refine TK.cl rfl rfl rfl rfl (atApi_ok hT (b := exB) (s := s) (e := e) (n := 1) hse ex_n1 ex_l1) ?_
    rintro r22 K23 ⟨rfl, rfl⟩
    refine au [] ?_
    rw [ex_at1]
    refine au [1, 10, 10, 2, 2, 3, 4, 5, 8] ?_
    refine TK.cl rfl rfl rfl rfl (atApi_ok hT (b := exB) (s := s) (e := e) (n := 0) hse ex_n1 ex_l1) ?_
    rintro r25 K26 ⟨rfl, rfl⟩
    refine au [] ?_
    rw [ex_at0]
    refine au [1, 10, 10, 2, 2, 3, 4, 4, 5, 1, 6, 1, 1, 6, 25, 1, 1, 6, 25, 1, 1, 6, 25, 1, 1, 6, 25, 1, 1, 6, 25, 1, 1, 6, 25, 1, 1, 6, 25, 1, 1, 30, 25, 1, 1, 25, 1, 1, 30, 25, 1, 1, 25, 1, 1, 6, 25, 1, 1] ?_
    refine TK.newR rfl rfl rfl (n_buildSlice (l := [_]) rfl SlEl.h TyZ.h (by decide) (by decide) rfl) (fun _ => putS rfl (by simp only [List.set]; rfl)) fun jd hjd => ?_
    refine TK.cl rfl rfl rfl rfl (callK_frz (same_ok hT [1] (j := jc) (j2 := jd) (fun h => hjd (by subst h; simp [keys])) (ints_at [1] 3 false) (ints_at [1] 3 false) (by decide))) ?_
    rintro r28 K29 ⟨rfl, rfl⟩
    refine au [30, 25, 1, 1, 6, 25, 1, 1, 6, 25, 3, 19, 12, 4] ?_
    refine TK.kp [(j1, _), (0, _), (1, _), (s, _), (e, _)] ?_
    refine au [5, 8] ?_
    refine TK.cl rfl rfl rfl rfl (stepsApi_ok hT (b := exB) (s := s) (e := e) hse ex_n1 ex_l1) ?_
    rintro r31 K32 h33
    rcases h33 with ⟨hb0, rfl, rfl⟩ | ⟨hb0, jp, jq, rfl, rfl⟩
    · refine au [] ?_
      exact absurd ex_ask hb0
    · refine au [] ?_
      rw [ex_p1, ex_p0]
      refine au [1, 10, 10] ?_
      refine TK.freezeR 148 rfl (by repeat (first | exact Upd.head | apply Upd.tail)) rfl ?_
      refine au [10, 2, 2, 2, 3, 4, 5, 8] ?_
      refine TK.cl rfl rfl rfl rfl (withinApi_ok hT (b := exB) (s := s) (e := e) (lo := 6) (hi := 1) hse ex_n1 ex_l1) ?_
      rintro r34 K35 ⟨rfl, rfl⟩
      refine au [] ?_
      rw [ex_w]
      refine au [1, 10, 10, 22] ?_
      intro jw hjw
      refine au [17, 2, 3, 4, 5, 8] ?_
      refine TK.cl rfl rfl rfl rfl (narrow_ok tame (b := exB) (s := s) (e := e) hse ex_n1 ex_l1) ?_
      rintro r37 K38 ⟨rfl, rfl⟩
      refine au [] ?_
      rw [ex_n]
      refine au [1, 10, 10, 10, 10, 2, 2, 2, 2, 3, 4, 5, 8] ?_
      refine TK.cl rfl rfl rfl rfl (wrongApi_ok hT (b := exB) (s := s) (e := e) (n := 0) hse ex_n1 ex_l1) ?_
      rintro r40 K41 ⟨rfl, rfl⟩
      refine au [] ?_
      rw [ex_wr]
      refine au [1, 10, 10, 2, 2, 3, 4, 5, 8] ?_
      refine TK.cl rfl rfl rfl rfl (likely_ok hT (b := exB) (s := s) (e := e) hse ex_n1 ex_l1) ?_
      rintro r43 K44 h45
      rcases h45 with ⟨hc0, rfl, rfl⟩ | ⟨hc0, hg0, rfl, rfl⟩ | ⟨hc0, hg0, jl, rfl, rfl⟩
      · refine au [] ?_
        exact absurd ex_check hc0
      · refine au [] ?_
        exact absurd hg0 ex_g0
      · refine au [] ?_
        rw [ex_li]
        refine au [1, 10, 10, 10, 10, 2, 2, 2, 2, 3, 4, 5, 8] ?_
        refine TK.cl rfl rfl rfl rfl (clash_ok hT (b := exB) (s := s) (e := e) hse ex_n1 ex_l1) ?_
        rintro r46 K47 h48
        rcases h48 with ⟨hc0, rfl, rfl⟩ | ⟨hc0, hg0, rfl, rfl⟩ | ⟨hc0, hg0, jk, rfl, rfl⟩
        · refine au [] ?_
          exact absurd ex_check hc0
        · refine au [] ?_
          rw [ex_t] at hg0; cases hg0
        · refine au [] ?_
          rw [ex_cl]
          refine au [1, 10, 10, 2, 2, 3, 4, 4] ?_
          refine TK.kp [(j1, _), (0, _), (1, _), (s, _), (e, _), (jp, _), (jq, _), (jw, _), (jl, _), (jk, _)] ?_
          refine TK.draw [0, 1, 2, 3, 4, 5, 6, 7, 8, 9, 10, 11, 12, 13, 14, 15, 16, 17, 18, 19, 20, 21, 22, 23, 24, 25, 26, 27, 28, 29, 30, 31, 32, 33, 34, 35, 36, 37, 38, 39, 40, 41, 42, 43, 44, 45, 46, 47, 48, 49, 50, 51, 52, 53, 54, 55, 56, 57, 58, 59, 60, 61, 62, 63, 64, 65, 66, 67, 68, 69, 70, 71, 72, 73] [0, 1, 2, 3, 4, 5, 6, 7, 8, 9, 10, 11, 12, 13, 14, 15, 16, 17, 18, 19, 20, 21, 22, 23, 24, 25, 26, 27, 28, 29, 30, 31, 32, 33, 34, 35, 36, 37, 38, 39, 40, 41, 42, 43, 44, 45, 46, 47, 48, 49, 50, 51, 52, 53, 54, 55, 56, 57, 58, 59, 60, 61, 62, 63, 64, 65, 66, 67, 68, 69, 70, 71, 72, 73] (by kernel_rfl) (by kernel_rfl) ?_
          refine TD.z [3] rfl (q_move rfl rfl) ?_
          refine TD.z [179] rfl (q_cmp rfl rfl rfl rfl) ?_
          refine TD.z [180] rfl (q_move rfl rfl) ?_
          refine TD.z [5, 181] rfl (q_move rfl rfl) ?_
          refine TD.z [181, 182] rfl (q_cmp rfl rfl rfl rfl) ?_
          refine TD.z [181, 183] rfl (q_pickF rfl rfl rfl) ?_
          refine TD.z [184] rfl (q_move rfl rfl) ?_
          refine TD.z [7, 185] rfl (q_move rfl rfl) ?_
          refine TD.z [185, 186] rfl (q_cmp rfl rfl rfl rfl) ?_
          refine TD.z [185, 187] rfl (q_pickF rfl rfl rfl) ?_
          refine TD.z [188] rfl (q_move rfl rfl) ?_
          refine TD.z [9, 189] rfl (q_move rfl rfl) ?_
          refine TD.z [189, 190] rfl (q_cmp rfl rfl rfl rfl) ?_
          refine TD.z [189, 191] rfl (q_pickF rfl rfl rfl) ?_
          refine TD.z [192] rfl (q_move rfl rfl) ?_
          refine TD.z [11, 193] rfl (q_move rfl rfl) ?_
          refine TD.z [193, 194] rfl (q_cmp rfl rfl rfl rfl) ?_
          refine TD.z [193, 195] rfl (q_pickF rfl rfl rfl) ?_
          refine TD.z [196] rfl (q_move rfl rfl) ?_
          refine TD.z [13, 197] rfl (q_move rfl rfl) ?_
          refine TD.z [197, 198] rfl (q_cmp rfl rfl rfl rfl) ?_
          refine TD.z [197, 199] rfl (q_pickF rfl rfl rfl) ?_
          refine TD.z [200] rfl (q_move rfl rfl) ?_
          refine TD.z [18, 201] rfl (q_move rfl rfl) ?_
          refine TD.z [201, 202] rfl (q_len rfl rfl rfl Und.h) ?_
          refine TD.z [201, 203] rfl (q_cmp rfl rfl rfl rfl) ?_
          refine TD.z [201, 204] rfl (q_pickF rfl rfl rfl) ?_
          refine TD.z [205] rfl (q_move rfl rfl) ?_
          refine TD.z [19, 206] rfl (q_move rfl rfl) ?_
          refine TD.cnewR (pend' := [Pd.mk 28 [19, 206] [], Pd.mk 26 [201, 204] [], Pd.mk 25 [201, 203] [], Pd.mk 24 [201, 202] [], Pd.mk 23 [18, 201] [], Pd.mk 22 [200] [], Pd.mk 21 [197, 199] [], Pd.mk 20 [197, 198] [], Pd.mk 19 [13, 197] [], Pd.mk 18 [196] [], Pd.mk 17 [193, 195] [], Pd.mk 16 [193, 194] [], Pd.mk 15 [11, 193] [], Pd.mk 14 [192] [], Pd.mk 13 [189, 191] [], Pd.mk 12 [189, 190] [], Pd.mk 11 [9, 189] [], Pd.mk 10 [188] [], Pd.mk 9 [185, 187] [], Pd.mk 8 [185, 186] [], Pd.mk 7 [7, 185] [], Pd.mk 6 [184] [], Pd.mk 5 [181, 183] [], Pd.mk 4 [181, 182] [], Pd.mk 3 [5, 181] [], Pd.mk 2 [180] [], Pd.mk 1 [179] [], Pd.mk 0 [3] []]) [206] rfl rfl rfl (pendS (es := [27]) rfl rfl) rfl (n_buildSlice (l := [_, _, _]) rfl SlEl.h TyZ.h (by decide) (by decide) rfl) (fun _ => putS rfl (by simp only [List.set]; rfl)) (by simp) fun jd1 hjd1 => ?_
          refine TD.cl (pend' := [Pd.mk 26 [201, 204] [], Pd.mk 25 [201, 203] [], Pd.mk 24 [201, 202] [], Pd.mk 23 [18, 201] [], Pd.mk 22 [200] [], Pd.mk 21 [197, 199] [], Pd.mk 20 [197, 198] [], Pd.mk 19 [13, 197] [], Pd.mk 18 [196] [], Pd.mk 17 [193, 195] [], Pd.mk 16 [193, 194] [], Pd.mk 15 [11, 193] [], Pd.mk 14 [192] [], Pd.mk 13 [189, 191] [], Pd.mk 12 [189, 190] [], Pd.mk 11 [9, 189] [], Pd.mk 10 [188] [], Pd.mk 9 [185, 187] [], Pd.mk 8 [185, 186] [], Pd.mk 7 [7, 185] [], Pd.mk 6 [184] [], Pd.mk 5 [181, 183] [], Pd.mk 4 [181, 182] [], Pd.mk 3 [5, 181] [], Pd.mk 2 [180] [], Pd.mk 1 [179] [], Pd.mk 0 [3] []]) [206, 207, 208] rfl (pendS (es := [28, 29, 27, 27]) rfl rfl) rfl rfl rfl (callK_frz (same_ok hT [1, 3, 6] (j := jq) (j2 := jd1) (fun h => hjd1 (by subst h; simp [keys])) (ints_at [1, 3, 6] 3 false) (ints_at [1, 3, 6] 3 false) (by decide))) (fun r49 K50 h51 => ⟨?_, ?_⟩)
          · rcases h51 with ⟨rfl, rfl⟩
            all_goals simp
          obtain ⟨rfl, rfl⟩ := h51
          try simp only [List.cons_append, List.nil_append]
          refine TD.norm (by simp only [List.set]; rfl) ?_
          refine TD.z [206, 209] rfl (q_not rfl rfl) ?_
          refine TD.z [206, 210] rfl (q_pickF rfl rfl rfl) ?_
          refine TD.z [211] rfl (q_move rfl rfl) ?_
          refine TD.y [20, 212] rfl (hq := q_load rfl rfl TySz.h (List.Mem.head _) rfl) (h := ?_)
          refine TD.cl (pend' := [Pd.mk 34 [20, 212] [(_, _)], Pd.mk 32 [206, 210] [], Pd.mk 31 [206, 209] [], Pd.mk 26 [201, 204] [], Pd.mk 25 [201, 203] [], Pd.mk 24 [201, 202] [], Pd.mk 23 [18, 201] [], Pd.mk 22 [200] [], Pd.mk 21 [197, 199] [], Pd.mk 20 [197, 198] [], Pd.mk 19 [13, 197] [], Pd.mk 18 [196] [], Pd.mk 17 [193, 195] [], Pd.mk 16 [193, 194] [], Pd.mk 15 [11, 193] [], Pd.mk 14 [192] [], Pd.mk 13 [189, 191] [], Pd.mk 12 [189, 190] [], Pd.mk 11 [9, 189] [], Pd.mk 10 [188] [], Pd.mk 9 [185, 187] [], Pd.mk 8 [185, 186] [], Pd.mk 7 [7, 185] [], Pd.mk 6 [184] [], Pd.mk 5 [181, 183] [], Pd.mk 4 [181, 182] [], Pd.mk 3 [5, 181] [], Pd.mk 2 [180] [], Pd.mk 1 [179] [], Pd.mk 0 [3] []]) [212] rfl (pendS (es := [33, 33]) rfl rfl) rfl rfl rfl (to_ok hT) (fun r52 K53 h54 => ⟨?_, ?_⟩)
          · rcases h54 with ⟨rfl, rfl⟩
            all_goals simp
          obtain ⟨rfl, rfl⟩ := h54
          try simp only [List.cons_append, List.nil_append]
          refine TD.norm (by simp only [List.set]; rfl) ?_
          refine TD.z [212, 213, 214] rfl (q_neqFlat rfl rfl rfl rfl rfl FlatF.h EqG.h) ?_
          refine TD.z [212, 215] rfl (q_pickF rfl rfl rfl) ?_
          refine TD.z [216] rfl (q_move rfl rfl) ?_
          refine TD.z [21, 217] rfl (q_move rfl rfl) ?_
          refine TD.z [217, 218] rfl (q_cmp rfl rfl rfl rfl) ?_
          refine TD.z [217, 219] rfl (q_pickF rfl rfl rfl) ?_
          refine TD.z [220] rfl (q_move rfl rfl) ?_
          refine TD.z [22, 221] rfl (q_move rfl rfl) ?_
          refine TD.z [221, 222] rfl (q_cmp rfl rfl rfl rfl) ?_
          refine TD.z [221, 223] rfl (q_pickF rfl rfl rfl) ?_
          refine TD.z [224] rfl (q_move rfl rfl) ?_
          refine TD.z [23, 225] rfl (q_move rfl rfl) ?_
          refine TD.z [225, 226] rfl (q_not rfl rfl) ?_
          refine TD.z [225, 227] rfl (q_pickF rfl rfl rfl) ?_
          refine TD.z [228] rfl (q_move rfl rfl) ?_
          refine TD.z [24, 229] rfl (q_move rfl rfl) ?_
          refine TD.z [229, 230] rfl (q_cmp rfl rfl rfl rfl) ?_
          refine TD.z [229, 231] rfl (q_pickF rfl rfl rfl) ?_
          refine TD.z [232] rfl (q_move rfl rfl) ?_
          refine TD.z [25, 233] rfl (q_move rfl rfl) ?_
          refine TD.cnewR (pend' := [Pd.mk 55 [25, 233] [], Pd.mk 53 [229, 231] [], Pd.mk 52 [229, 230] [], Pd.mk 51 [24, 229] [], Pd.mk 50 [228] [], Pd.mk 49 [225, 227] [], Pd.mk 48 [225, 226] [], Pd.mk 47 [23, 225] [], Pd.mk 46 [224] [], Pd.mk 45 [221, 223] [], Pd.mk 44 [221, 222] [], Pd.mk 43 [22, 221] [], Pd.mk 42 [220] [], Pd.mk 41 [217, 219] [], Pd.mk 40 [217, 218] [], Pd.mk 39 [21, 217] [], Pd.mk 38 [216] [], Pd.mk 37 [212, 215] [], Pd.mk 36 [212, 213, 214] [], Pd.mk 34 [20, 212] [(_, _)], Pd.mk 32 [206, 210] [], Pd.mk 31 [206, 209] [], Pd.mk 26 [201, 204] [], Pd.mk 25 [201, 203] [], Pd.mk 24 [201, 202] [], Pd.mk 23 [18, 201] [], Pd.mk 22 [200] [], Pd.mk 21 [197, 199] [], Pd.mk 20 [197, 198] [], Pd.mk 19 [13, 197] [], Pd.mk 18 [196] [], Pd.mk 17 [193, 195] [], Pd.mk 16 [193, 194] [], Pd.mk 15 [11, 193] [], Pd.mk 14 [192] [], Pd.mk 13 [189, 191] [], Pd.mk 12 [189, 190] [], Pd.mk 11 [9, 189] [], Pd.mk 10 [188] [], Pd.mk 9 [185, 187] [], Pd.mk 8 [185, 186] [], Pd.mk 7 [7, 185] [], Pd.mk 6 [184] [], Pd.mk 5 [181, 183] [], Pd.mk 4 [181, 182] [], Pd.mk 3 [5, 181] [], Pd.mk 2 [180] [], Pd.mk 1 [179] [], Pd.mk 0 [3] []]) [233] rfl rfl rfl (pendS (es := [54]) rfl rfl) rfl (n_buildSlice (l := [_]) rfl SlEl.h TyZ.h (by decide) (by decide) rfl) (fun _ => putS rfl (by simp only [List.set]; rfl)) (by simp) fun jd2 hjd2 => ?_
          refine TD.cl (pend' := [Pd.mk 53 [229, 231] [], Pd.mk 52 [229, 230] [], Pd.mk 51 [24, 229] [], Pd.mk 50 [228] [], Pd.mk 49 [225, 227] [], Pd.mk 48 [225, 226] [], Pd.mk 47 [23, 225] [], Pd.mk 46 [224] [], Pd.mk 45 [221, 223] [], Pd.mk 44 [221, 222] [], Pd.mk 43 [22, 221] [], Pd.mk 42 [220] [], Pd.mk 41 [217, 219] [], Pd.mk 40 [217, 218] [], Pd.mk 39 [21, 217] [], Pd.mk 38 [216] [], Pd.mk 37 [212, 215] [], Pd.mk 36 [212, 213, 214] [], Pd.mk 34 [20, 212] [(_, _)], Pd.mk 32 [206, 210] [], Pd.mk 31 [206, 209] [], Pd.mk 26 [201, 204] [], Pd.mk 25 [201, 203] [], Pd.mk 24 [201, 202] [], Pd.mk 23 [18, 201] [], Pd.mk 22 [200] [], Pd.mk 21 [197, 199] [], Pd.mk 20 [197, 198] [], Pd.mk 19 [13, 197] [], Pd.mk 18 [196] [], Pd.mk 17 [193, 195] [], Pd.mk 16 [193, 194] [], Pd.mk 15 [11, 193] [], Pd.mk 14 [192] [], Pd.mk 13 [189, 191] [], Pd.mk 12 [189, 190] [], Pd.mk 11 [9, 189] [], Pd.mk 10 [188] [], Pd.mk 9 [185, 187] [], Pd.mk 8 [185, 186] [], Pd.mk 7 [7, 185] [], Pd.mk 6 [184] [], Pd.mk 5 [181, 183] [], Pd.mk 4 [181, 182] [], Pd.mk 3 [5, 181] [], Pd.mk 2 [180] [], Pd.mk 1 [179] [], Pd.mk 0 [3] []]) [233, 234, 235] rfl (pendS (es := [55, 56, 54, 54]) rfl rfl) rfl rfl rfl (callK_frz (same_ok hT [1] (j := jl) (j2 := jd2) (fun h => hjd2 (by subst h; simp [keys])) (ints_at [1] 3 false) (ints_at [1] 3 false) (by decide))) (fun r55 K56 h57 => ⟨?_, ?_⟩)
          · rcases h57 with ⟨rfl, rfl⟩
            all_goals simp
          obtain ⟨rfl, rfl⟩ := h57
          try simp only [List.cons_append, List.nil_append]
          refine TD.norm (by simp only [List.set]; rfl) ?_
          refine TD.z [233, 236] rfl (q_not rfl rfl) ?_
          refine TD.z [233, 237] rfl (q_pickF rfl rfl rfl) ?_
          refine TD.z [238] rfl (q_move rfl rfl) ?_
          refine TD.z [26, 239] rfl (q_move rfl rfl) ?_
          refine TD.z [239, 240] rfl (q_cmp rfl rfl rfl rfl) ?_
          refine TD.z [239, 241] rfl (q_pickF rfl rfl rfl) ?_
          refine TD.z [242] rfl (q_move rfl rfl) ?_
          refine TD.z [27, 243] rfl (q_move rfl rfl) ?_
          refine TD.z [243, 244] rfl (q_not rfl rfl) ?_
          refine TD.z [243, 245] rfl (q_pickF rfl rfl rfl) ?_
          refine TD.z [246] rfl (q_move rfl rfl) ?_
          refine TD.z [28, 247] rfl (q_move rfl rfl) ?_
          refine TD.cnewR (pend' := [Pd.mk 69 [28, 247] [], Pd.mk 67 [243, 245] [], Pd.mk 66 [243, 244] [], Pd.mk 65 [27, 243] [], Pd.mk 64 [242] [], Pd.mk 63 [239, 241] [], Pd.mk 62 [239, 240] [], Pd.mk 61 [26, 239] [], Pd.mk 60 [238] [], Pd.mk 59 [233, 237] [], Pd.mk 58 [233, 236] [], Pd.mk 53 [229, 231] [], Pd.mk 52 [229, 230] [], Pd.mk 51 [24, 229] [], Pd.mk 50 [228] [], Pd.mk 49 [225, 227] [], Pd.mk 48 [225, 226] [], Pd.mk 47 [23, 225] [], Pd.mk 46 [224] [], Pd.mk 45 [221, 223] [], Pd.mk 44 [221, 222] [], Pd.mk 43 [22, 221] [], Pd.mk 42 [220] [], Pd.mk 41 [217, 219] [], Pd.mk 40 [217, 218] [], Pd.mk 39 [21, 217] [], Pd.mk 38 [216] [], Pd.mk 37 [212, 215] [], Pd.mk 36 [212, 213, 214] [], Pd.mk 34 [20, 212] [(_, _)], Pd.mk 32 [206, 210] [], Pd.mk 31 [206, 209] [], Pd.mk 26 [201, 204] [], Pd.mk 25 [201, 203] [], Pd.mk 24 [201, 202] [], Pd.mk 23 [18, 201] [], Pd.mk 22 [200] [], Pd.mk 21 [197, 199] [], Pd.mk 20 [197, 198] [], Pd.mk 19 [13, 197] [], Pd.mk 18 [196] [], Pd.mk 17 [193, 195] [], Pd.mk 16 [193, 194] [], Pd.mk 15 [11, 193] [], Pd.mk 14 [192] [], Pd.mk 13 [189, 191] [], Pd.mk 12 [189, 190] [], Pd.mk 11 [9, 189] [], Pd.mk 10 [188] [], Pd.mk 9 [185, 187] [], Pd.mk 8 [185, 186] [], Pd.mk 7 [7, 185] [], Pd.mk 6 [184] [], Pd.mk 5 [181, 183] [], Pd.mk 4 [181, 182] [], Pd.mk 3 [5, 181] [], Pd.mk 2 [180] [], Pd.mk 1 [179] [], Pd.mk 0 [3] []]) [247] rfl rfl rfl (pendS (es := [68]) rfl rfl) rfl (n_buildSlice (l := [_, _, _]) rfl SlEl.h TyZ.h (by decide) (by decide) rfl) (fun _ => putS rfl (by simp only [List.set]; rfl)) (by simp) fun jd3 hjd3 => ?_
          refine TD.cl (pend' := [Pd.mk 67 [243, 245] [], Pd.mk 66 [243, 244] [], Pd.mk 65 [27, 243] [], Pd.mk 64 [242] [], Pd.mk 63 [239, 241] [], Pd.mk 62 [239, 240] [], Pd.mk 61 [26, 239] [], Pd.mk 60 [238] [], Pd.mk 59 [233, 237] [], Pd.mk 58 [233, 236] [], Pd.mk 53 [229, 231] [], Pd.mk 52 [229, 230] [], Pd.mk 51 [24, 229] [], Pd.mk 50 [228] [], Pd.mk 49 [225, 227] [], Pd.mk 48 [225, 226] [], Pd.mk 47 [23, 225] [], Pd.mk 46 [224] [], Pd.mk 45 [221, 223] [], Pd.mk 44 [221, 222] [], Pd.mk 43 [22, 221] [], Pd.mk 42 [220] [], Pd.mk 41 [217, 219] [], Pd.mk 40 [217, 218] [], Pd.mk 39 [21, 217] [], Pd.mk 38 [216] [], Pd.mk 37 [212, 215] [], Pd.mk 36 [212, 213, 214] [], Pd.mk 34 [20, 212] [(_, _)], Pd.mk 32 [206, 210] [], Pd.mk 31 [206, 209] [], Pd.mk 26 [201, 204] [], Pd.mk 25 [201, 203] [], Pd.mk 24 [201, 202] [], Pd.mk 23 [18, 201] [], Pd.mk 22 [200] [], Pd.mk 21 [197, 199] [], Pd.mk 20 [197, 198] [], Pd.mk 19 [13, 197] [], Pd.mk 18 [196] [], Pd.mk 17 [193, 195] [], Pd.mk 16 [193, 194] [], Pd.mk 15 [11, 193] [], Pd.mk 14 [192] [], Pd.mk 13 [189, 191] [], Pd.mk 12 [189, 190] [], Pd.mk 11 [9, 189] [], Pd.mk 10 [188] [], Pd.mk 9 [185, 187] [], Pd.mk 8 [185, 186] [], Pd.mk 7 [7, 185] [], Pd.mk 6 [184] [], Pd.mk 5 [181, 183] [], Pd.mk 4 [181, 182] [], Pd.mk 3 [5, 181] [], Pd.mk 2 [180] [], Pd.mk 1 [179] [], Pd.mk 0 [3] []]) [247, 248, 249] rfl (pendS (es := [69, 70, 68, 68]) rfl rfl) rfl rfl rfl (callK_frz (same_ok hT [0, 1, 2] (j := jk) (j2 := jd3) (fun h => hjd3 (by subst h; simp [keys])) (ints_at [0, 1, 2] 3 false) (ints_at [0, 1, 2] 3 false) (by decide))) (fun r58 K59 h60 => ⟨?_, ?_⟩)
          · rcases h60 with ⟨rfl, rfl⟩
            all_goals simp
          obtain ⟨rfl, rfl⟩ := h60
          try simp only [List.cons_append, List.nil_append]
          refine TD.norm (by simp only [List.set]; rfl) ?_
          refine TD.z [247, 250] rfl (q_not rfl rfl) ?_
          refine TD.z [247, 251] rfl (q_pickF rfl rfl rfl) ?_
          refine TD.fin ?_
          refine au [19, 12, 4] ?_
          refine TK.kp [(j1, _), (0, _), (1, _), (s, _), (e, _)] ?_
          refine au [5, 8] ?_
          refine TK.cl rfl rfl rfl rfl (askApi_ok hT (b := exB) (s := s) (e := e) hse ex_n1 ex_l1) ?_
          rintro r61 K62 ⟨rfl, rfl⟩
          refine au [] ?_
          rw [ex_askA]
          refine au [1, 10, 10, 10, 2, 2, 2, 3, 4, 5, 8] ?_
          refine TK.cl rfl rfl rfl rfl (lendApi_ok hT (b := exB) (s := s) (e := e) hse ex_n1 ex_l1) ?_
          rintro r64 K65 ⟨rfl, rfl⟩
          refine au [] ?_
          rw [ex_lend]
          refine au [1, 10, 10, 10, 2, 2, 2, 3, 4, 5, 8] ?_
          refine TK.cl rfl rfl rfl rfl (give_ok hT (b := exB) (s := s) (e := e) (n := 0) hse ex_n1 ex_l1) ?_
          rintro r67 K68 h69
          rcases h69 with ⟨hb0, rfl, rfl⟩ | ⟨hb0, g3, g2, rfl, rfl⟩
          · refine au [] ?_
            exact absurd ex_giv hb0
          · refine au [] ?_
            refine TK.nd fun hnd => ?_
            have hg3 : g3 ≠ g2 := fun h => by subst h; simp [keys] at hnd
            try rw [show (0 : Int).toNat = 0 from rfl]
            refine au [1, 10, 10, 22] ?_
            intro jg hjg
            refine au [17, 2, 3, 4, 5, 8] ?_
            refine TK.cl rfl rfl rfl rfl (statesApi_ok hT (b := giveB exB 0) (s := g3) (e := g2) hg3 ex_n3 ex_l3) ?_
            rintro r70 K71 ⟨rfl, rfl⟩
            refine au [] ?_
            rw [ex_g2]
            refine au [1, 10, 10, 2, 2, 3, 4, 5, 8] ?_
            refine TK.cl rfl rfl rfl rfl (narrow_ok tame (b := giveB exB 0) (s := g3) (e := g2) hg3 ex_n3 ex_l3) ?_
            rintro r73 K74 ⟨rfl, rfl⟩
            refine au [] ?_
            rw [ex_g3]
            refine au [1, 10, 10, 10, 10, 2, 2, 2, 2, 3, 4] ?_
            refine TK.kp [(j1, _), (0, _), (1, _), (s, _), (e, _), (jg, _)] ?_
            refine au [5, 8] ?_
            refine TK.cl rfl rfl rfl rfl (look_ok hT (b := exB) (s := s) (e := e) (n := 3) (sm := true) hse ex_n1 ex_l1) ?_
            rintro r76 K77 h78
            rcases h78 with ⟨hb0, rfl, rfl⟩ | ⟨hb0, l3, l2, rfl, rfl⟩
            · refine au [] ?_
              exact absurd ex_lk hb0
            · refine au [] ?_
              refine TK.nd fun hnd => ?_
              have hl3 : l3 ≠ l2 := fun h => by subst h; simp [keys] at hnd
              refine au [1, 10, 10, 17, 2, 3, 4, 5, 8] ?_
              refine TK.cl rfl rfl rfl rfl (statesApi_ok hT (b := lookB exB ⟨3, true⟩) (s := l3) (e := l2) hl3 ex_n4 ex_l4) ?_
              rintro r79 K80 ⟨rfl, rfl⟩
              refine au [] ?_
              rw [ex_lk2]
              refine au [1, 10, 10, 2, 2, 3, 4] ?_
              refine TK.kp [(j1, _), (0, _), (1, _), (s, _), (e, _), (jg, _)] ?_
              refine au [5, 8, 42] ?_
              refine TK.cl rfl rfl rfl rfl (hear_ok hT (b := exB) (s := s) (e := e) (x := exX) hse ex_n1 ex_l1 (by decide)) ?_
              rintro r82 K83 h84
              rcases h84 with ⟨hb0, rfl, rfl⟩ | ⟨hb0, h3, h2, rfl, rfl⟩
              · refine au [] ?_
                exact absurd ex_hr hb0
              · refine au [] ?_
                refine TK.nd fun hnd => ?_
                have hh3 : h3 ≠ h2 := fun h => by subst h; simp [keys] at hnd
                refine au [1, 10, 10, 17, 2, 3, 4, 5, 8] ?_
                refine TK.cl rfl rfl rfl rfl (statesApi_ok hT (b := hearB exB exX) (s := h3) (e := h2) hh3 ex_n5 ex_l5) ?_
                rintro r85 K86 ⟨rfl, rfl⟩
                refine au [] ?_
                rw [ex_hr2]
                refine au [1, 10, 10, 2, 2, 3, 4, 4, 5, 1, 6, 1, 1, 6, 25, 1, 1, 6, 25, 1, 1, 6, 25, 1, 1, 6, 25, 1, 1, 6, 25, 1, 1, 6, 25, 1, 1, 6, 25, 1, 1, 6, 25, 1, 1, 6, 25, 1, 1, 6, 25, 1, 1, 6, 25, 1, 1, 6, 25, 1, 1, 6, 25, 1, 1, 6, 25, 1, 1, 6, 25, 1, 1, 30, 25, 1, 1, 6, 25, 1, 1, 6, 25, 3, 19, 12, 4] ?_
                refine TK.kp [(j1, _), (0, _), (1, _), (s, _), (e, _)] ?_
                refine au [5] ?_
                refine TK.cl rfl rfl rfl rfl (one_ok2 hT) ?_
                rintro r88 K89 ⟨rfl, rfl⟩
                refine au [7, 17, 3, 4, 5, 8] ?_
                refine TK.cl rfl rfl rfl rfl (statesApi_ok hT (b := exB2) (s := s) (e := e) hse ex_n2 ex_l2) ?_
                rintro r91 K92 ⟨rfl, rfl⟩
                refine au [] ?_
                rw [ex2_st]
                refine au [1, 10, 10, 2, 2, 3, 4, 5, 8] ?_
                refine TK.cl rfl rfl rfl rfl (likely_ok hT (b := exB2) (s := s) (e := e) hse ex_n2 ex_l2) ?_
                rintro r94 K95 h96
                rcases h96 with ⟨hc0, rfl, rfl⟩ | ⟨hc0, hg0, rfl, rfl⟩ | ⟨hc0, hg0, jl2, rfl, rfl⟩
                · refine au [] ?_
                  exact absurd ex2_ck hc0
                · refine au [] ?_
                  exact absurd hg0 ex2_g
                · refine au [] ?_
                  rw [ex2_li]
                  refine au [1, 10, 10, 10, 10, 2, 2, 2, 2, 3, 4, 5, 8] ?_
                  refine TK.cl rfl rfl rfl rfl (clash_ok hT (b := exB2) (s := s) (e := e) hse ex_n2 ex_l2) ?_
                  rintro r97 K98 h99
                  rcases h99 with ⟨hc0, rfl, rfl⟩ | ⟨hc0, hg0, rfl, rfl⟩ | ⟨hc0, hg0, jk2, rfl, rfl⟩
                  · refine au [] ?_
                    exact absurd ex2_ck hc0
                  · refine au [1, 10, 10, 2, 2, 3, 4, 5, 1, 6, 1, 1, 6, 26, 1, 1, 6, 26, 1, 1, 6, 26, 1, 1] ?_
                    refine TK.newR rfl rfl rfl (n_buildSlice (l := [_, _]) rfl SlEl.h TyZ.h (by decide) (by decide) rfl) (fun _ => putS rfl (by simp only [List.set]; rfl)) fun jd4 hjd4 => ?_
                    refine TK.cl rfl rfl rfl rfl (callK_frz (same_ok hT [1, 6] (j := jl2) (j2 := jd4) (fun h => hjd4 (by subst h; simp [keys])) (ints_at [1, 6] 3 false) (ints_at [1, 6] 3 false) (by decide))) ?_
                    rintro r100 K101 ⟨rfl, rfl⟩
                    refine au [26, 1, 1, 6, 26, 1, 1, 26, 1, 1, 28, 6, 26, 2, 3] ?_
                    refine TK.rt hret [(0, _), (1, _)] ?_
                    exact ⟨rfl, rfl⟩
                  · refine au [] ?_
                    rw [ex2_t] at hg0; cases hg0
end Go.Vel
end
section
set_option linter.all false
namespace Go.Vel
open Go Go.Proofs
section
variable {P : Program}
theorem ok_text (s : String) : SysOk P (Extern.RuntimeError.text s) := trivial
instance (s : String) : SOk P (Extern.RuntimeError.text s) := ⟨ok_text s⟩
instance {α : Type} (a : α) : SOk P (pure a : Sem α) := ⟨trivial⟩
theorem ok_nothing (a : Array Value) : SysOk P (Extern.RuntimeError.nothing a) := trivial
theorem ok_bounds (a : Array Value) : SysOk P (Extern.RuntimeError.boundsError a) := by
  have hs : ∀ x, SysOk P (stuck x : Sem Value) := fun x => SOk.ok
  rcases a with ⟨_ | ⟨v, _ | ⟨w, l⟩⟩⟩
  · exact hs _
  · cases v <;> try exact hs _
    rename_i xs
    rcases xs with ⟨_ | ⟨v1, _ | ⟨v2, _ | ⟨v3, _ | ⟨v4, _ | ⟨v5, l⟩⟩⟩⟩⟩⟩ <;> try exact hs _
    · cases v1 <;> try exact hs _
      cases v2 <;> try exact hs _
      cases v3 <;> try exact hs _
      cases v4 <;> try exact hs _
      show SysOk P (match (_ : Option String) with | some fmt => Extern.RuntimeError.text _ | none => stuck _)
      split
      · exact ok_text _
      · exact hs _
  · cases v <;> exact hs _
theorem ok_gen {α : Type} (s : Sem α) (h : SysOk P s := by repeat' (first | assumption | exact SOk.ok | exact sysOk_halt _ | (refine sysOk_bind ?_ (fun _ => ?_)) | split | (intro _) | with_reducible exact trivial)) : SysOk P s := h
theorem ok_described (v : Value) : SysOk P (Extern.RuntimeError.described v) := by
  unfold Extern.RuntimeError.described
  repeat' (first | assumption | exact SOk.ok | exact sysOk_halt _ | (refine sysOk_bind ?_ (fun _ => ?_)) | split | (intro _) | with_reducible exact trivial)
instance (v : Value) : SOk P (Extern.RuntimeError.described v) := ⟨ok_described v⟩
theorem ok_pkgpath (v : TypeInfo) : SysOk P (Extern.RuntimeError.pkgpathOf v) := by
  unfold Extern.RuntimeError.pkgpathOf
  exact ok_gen _
instance (v : TypeInfo) : SOk P (Extern.RuntimeError.pkgpathOf v) := ⟨ok_pkgpath v⟩
theorem ok_unhash (a : Array Value) : SysOk P (Extern.RuntimeError.unhashableTypeError a) := by
  have hs : ∀ x, SysOk P (stuck x : Sem Value) := fun x => SOk.ok
  rcases a with ⟨_ | ⟨v, _ | ⟨w, l⟩⟩⟩
  · exact hs _
  · cases v <;> try exact hs _
    rename_i xs
    rcases xs with ⟨_ | ⟨t, _ | ⟨v2, l⟩⟩⟩
    · exact hs _
    · show SysOk P (Extern.RuntimeError.described t >>= _)
      exact ok_gen _
    · exact hs _
  · cases v <;> exact hs _
theorem ok_assert (a : Array Value) : SysOk P (Extern.RuntimeError.typeAssertionError a) := by
  unfold Extern.RuntimeError.typeAssertionError
  exact ok_gen _
theorem lookup_ok {l : List (String × (Array Value → Sem Value))} (h : ∀ x ∈ l, ∀ a, SysOk P (x.2 a)) {k : String} {e : Array Value → Sem Value} (he : l.lookup k = some e) (a : Array Value) : SysOk P (e a) := by
  induction l with
  | nil => cases he
  | cons x l ih =>
    obtain ⟨n, f⟩ := x
    rw [List.lookup_cons] at he
    split at he
    · cases he; exact h _ List.mem_cons_self a
    · exact ih (fun x hx => h x (List.mem_cons_of_mem _ hx)) he
theorem errors_ok : ∀ x ∈ Extern.RuntimeError.rows, ∀ a, SysOk P (x.2 a) := by
  intro x hx a
  unfold Extern.RuntimeError.rows at hx
  simp only [List.mem_cons, List.not_mem_nil, or_false] at hx
  rcases hx with rfl | rfl | rfl | rfl | rfl | rfl | rfl | rfl | rfl | rfl | rfl | rfl | rfl | rfl | rfl
  all_goals
    dsimp only
    first
    | exact ok_nothing a
    | exact ok_bounds a
    | exact ok_assert a
    | exact ok_unhash a
    | exact ok_text _
    | exact ok_gen _
theorem kind_ok {e : Array Value → Sem Value} (he : (Extern.ReflectliteType.rows.getLast?).map (·.2) = some e) (a : Array Value) : SysOk P (e a) := by
  unfold Extern.ReflectliteType.rows at he
  simp only [List.getLast?_cons_cons, List.getLast?_singleton, Option.map_some, Option.some.injEq] at he
  subst he
  exact ok_gen _
end
theorem nx0 : Extern.findNext Tryz.f0 = none := Option.isNone_iff_eq_none.1 (by kernel_rfl)
theorem fd0 : Extern.find Tryz.f0 = none := Option.isNone_iff_eq_none.1 (by kernel_rfl)
theorem nx1 : Extern.findNext Tryz.f1 = none := Option.isNone_iff_eq_none.1 (by kernel_rfl)
theorem fd1 : Extern.find Tryz.f1 = none := Option.isNone_iff_eq_none.1 (by kernel_rfl)
theorem nx149 : Extern.findNext Tryz.f149 = none := Option.isNone_iff_eq_none.1 (by kernel_rfl)
theorem fd149 : Extern.find Tryz.f149 = Extern.RuntimeError.rows.lookup Tryz.f149.name := by kernel_rfl
theorem nx150 : Extern.findNext Tryz.f150 = none := Option.isNone_iff_eq_none.1 (by kernel_rfl)
theorem fd150 : Extern.find Tryz.f150 = Extern.RuntimeError.rows.lookup Tryz.f150.name := by kernel_rfl
theorem nx151 : Extern.findNext Tryz.f151 = none := Option.isNone_iff_eq_none.1 (by kernel_rfl)
theorem fd151 : Extern.find Tryz.f151 = Extern.RuntimeError.rows.lookup Tryz.f151.name := by kernel_rfl
theorem nx152 : Extern.findNext Tryz.f152 = none := Option.isNone_iff_eq_none.1 (by kernel_rfl)
theorem fd152 : Extern.find Tryz.f152 = Extern.RuntimeError.rows.lookup Tryz.f152.name := by kernel_rfl
theorem nx153 : Extern.findNext Tryz.f153 = none := Option.isNone_iff_eq_none.1 (by kernel_rfl)
theorem fd153 : Extern.find Tryz.f153 = Extern.RuntimeError.rows.lookup Tryz.f153.name := by kernel_rfl
theorem nx154 : Extern.findNext Tryz.f154 = none := Option.isNone_iff_eq_none.1 (by kernel_rfl)
theorem fd154 : Extern.find Tryz.f154 = Extern.RuntimeError.rows.lookup Tryz.f154.name := by kernel_rfl
theorem nx155 : Extern.findNext Tryz.f155 = none := Option.isNone_iff_eq_none.1 (by kernel_rfl)
theorem fd155 : Extern.find Tryz.f155 = Extern.RuntimeError.rows.lookup Tryz.f155.name := by kernel_rfl
theorem nx156 : Extern.findNext Tryz.f156 = none := Option.isNone_iff_eq_none.1 (by kernel_rfl)
theorem fd156 : Extern.find Tryz.f156 = Extern.RuntimeError.rows.lookup Tryz.f156.name := by kernel_rfl
theorem nx157 : Extern.findNext Tryz.f157 = none := Option.isNone_iff_eq_none.1 (by kernel_rfl)
theorem fd157 : Extern.find Tryz.f157 = Extern.RuntimeError.rows.lookup Tryz.f157.name := by kernel_rfl
theorem nx158 : Extern.findNext Tryz.f158 = none := Option.isNone_iff_eq_none.1 (by kernel_rfl)
theorem fd158 : Extern.find Tryz.f158 = Extern.RuntimeError.rows.lookup Tryz.f158.name := by kernel_rfl
theorem nx159 : Extern.findNext Tryz.f159 = none := Option.isNone_iff_eq_none.1 (by kernel_rfl)
theorem fd159 : Extern.find Tryz.f159 = Extern.RuntimeError.rows.lookup Tryz.f159.name := by kernel_rfl
theorem nx160 : Extern.findNext Tryz.f160 = none := Option.isNone_iff_eq_none.1 (by kernel_rfl)
theorem fd160 : Extern.find Tryz.f160 = Extern.RuntimeError.rows.lookup Tryz.f160.name := by kernel_rfl
theorem nx161 : Extern.findNext Tryz.f161 = none := Option.isNone_iff_eq_none.1 (by kernel_rfl)
theorem fd161 : Extern.find Tryz.f161 = none := Option.isNone_iff_eq_none.1 (by kernel_rfl)
theorem nx162 : Extern.findNext Tryz.f162 = none := Option.isNone_iff_eq_none.1 (by kernel_rfl)
theorem fd162 : Extern.find Tryz.f162 = Extern.RuntimeError.rows.lookup Tryz.f162.name := by kernel_rfl
theorem nx163 : Extern.findNext Tryz.f163 = none := Option.isNone_iff_eq_none.1 (by kernel_rfl)
theorem fd163 : Extern.find Tryz.f163 = Extern.RuntimeError.rows.lookup Tryz.f163.name := by kernel_rfl
theorem nx165 : Extern.findNext Tryz.f165 = none := Option.isNone_iff_eq_none.1 (by kernel_rfl)
theorem fd165 : Extern.find Tryz.f165 = (Extern.ReflectliteType.rows.getLast?).map (·.2) := by kernel_rfl
theorem nx176 : Extern.findNext Tryz.f176 = none := Option.isNone_iff_eq_none.1 (by kernel_rfl)
theorem fd176 : Extern.find Tryz.f176 = none := Option.isNone_iff_eq_none.1 (by kernel_rfl)
theorem nx177 : Extern.findNext Tryz.f177 = none := Option.isNone_iff_eq_none.1 (by kernel_rfl)
theorem fd177 : Extern.find Tryz.f177 = none := Option.isNone_iff_eq_none.1 (by kernel_rfl)
theorem nx178 : Extern.findNext Tryz.f178 = none := Option.isNone_iff_eq_none.1 (by kernel_rfl)
theorem fd178 : Extern.find Tryz.f178 = none := Option.isNone_iff_eq_none.1 (by kernel_rfl)
theorem nx179 : Extern.findNext Tryz.f179 = none := Option.isNone_iff_eq_none.1 (by kernel_rfl)
theorem fd179 : Extern.find Tryz.f179 = none := Option.isNone_iff_eq_none.1 (by kernel_rfl)
theorem tameN : (Tryz.prog.funcs.all fun fn => !(fn.name == "runtime.NumGoroutine")) = true := by kernel_rfl
theorem tameB : ((List.range Tryz.prog.funcs.size).all fun i => [0, 1, 149, 150, 151, 152, 153, 154, 155, 156, 157, 158, 159, 160, 161, 162, 163, 165, 176, 177, 178, 179].elem i || ((Tryz.prog.funcs[i]?).map (·.body.isSome)).getD false) = true := by kernel_rfl
theorem tame : Tame Tryz.prog := fun f fn hf => by
  refine ⟨by simpa using Array.all_eq_true_iff_forall_mem.1 tameN fn (Array.mem_of_getElem? hf), fun hb => ?_⟩
  have hlt := (Array.getElem?_eq_some_iff.1 hf).1
  have h := List.all_eq_true.1 tameB f (List.mem_range.2 hlt)
  rw [hf, Option.map_some, Option.getD_some] at h
  rw [Option.isNone_iff_eq_none] at hb
  rw [hb] at h
  simp only [Option.isSome_none, Bool.or_false, List.elem_eq_mem, decide_eq_true_eq, List.mem_cons, List.not_mem_nil, or_false] at h
  rcases h with rfl | rfl | rfl | rfl | rfl | rfl | rfl | rfl | rfl | rfl | rfl | rfl | rfl | rfl | rfl | rfl | rfl | rfl | rfl | rfl | rfl | rfl
  · obtain rfl : fn = Tryz.f0 := (Option.some.inj (Tryz.func0.symm.trans hf)).symm
    exact ⟨nx0, fun e he => by rw [fd0] at he; cases he⟩
  · obtain rfl : fn = Tryz.f1 := (Option.some.inj (Tryz.func1.symm.trans hf)).symm
    exact ⟨nx1, fun e he => by rw [fd1] at he; cases he⟩
  · obtain rfl : fn = Tryz.f149 := (Option.some.inj (Tryz.func149.symm.trans hf)).symm
    exact ⟨nx149, fun e he args => by rw [fd149] at he; exact lookup_ok errors_ok he args⟩
  · obtain rfl : fn = Tryz.f150 := (Option.some.inj (Tryz.func150.symm.trans hf)).symm
    exact ⟨nx150, fun e he args => by rw [fd150] at he; exact lookup_ok errors_ok he args⟩
  · obtain rfl : fn = Tryz.f151 := (Option.some.inj (Tryz.func151.symm.trans hf)).symm
    exact ⟨nx151, fun e he args => by rw [fd151] at he; exact lookup_ok errors_ok he args⟩
  · obtain rfl : fn = Tryz.f152 := (Option.some.inj (Tryz.func152.symm.trans hf)).symm
    exact ⟨nx152, fun e he args => by rw [fd152] at he; exact lookup_ok errors_ok he args⟩
  · obtain rfl : fn = Tryz.f153 := (Option.some.inj (Tryz.func153.symm.trans hf)).symm
    exact ⟨nx153, fun e he args => by rw [fd153] at he; exact lookup_ok errors_ok he args⟩
  · obtain rfl : fn = Tryz.f154 := (Option.some.inj (Tryz.func154.symm.trans hf)).symm
    exact ⟨nx154, fun e he args => by rw [fd154] at he; exact lookup_ok errors_ok he args⟩
  · obtain rfl : fn = Tryz.f155 := (Option.some.inj (Tryz.func155.symm.trans hf)).symm
    exact ⟨nx155, fun e he args => by rw [fd155] at he; exact lookup_ok errors_ok he args⟩
  · obtain rfl : fn = Tryz.f156 := (Option.some.inj (Tryz.func156.symm.trans hf)).symm
    exact ⟨nx156, fun e he args => by rw [fd156] at he; exact lookup_ok errors_ok he args⟩
  · obtain rfl : fn = Tryz.f157 := (Option.some.inj (Tryz.func157.symm.trans hf)).symm
    exact ⟨nx157, fun e he args => by rw [fd157] at he; exact lookup_ok errors_ok he args⟩
  · obtain rfl : fn = Tryz.f158 := (Option.some.inj (Tryz.func158.symm.trans hf)).symm
    exact ⟨nx158, fun e he args => by rw [fd158] at he; exact lookup_ok errors_ok he args⟩
  · obtain rfl : fn = Tryz.f159 := (Option.some.inj (Tryz.func159.symm.trans hf)).symm
    exact ⟨nx159, fun e he args => by rw [fd159] at he; exact lookup_ok errors_ok he args⟩
  · obtain rfl : fn = Tryz.f160 := (Option.some.inj (Tryz.func160.symm.trans hf)).symm
    exact ⟨nx160, fun e he args => by rw [fd160] at he; exact lookup_ok errors_ok he args⟩
  · obtain rfl : fn = Tryz.f161 := (Option.some.inj (Tryz.func161.symm.trans hf)).symm
    exact ⟨nx161, fun e he => by rw [fd161] at he; cases he⟩
  · obtain rfl : fn = Tryz.f162 := (Option.some.inj (Tryz.func162.symm.trans hf)).symm
    exact ⟨nx162, fun e he args => by rw [fd162] at he; exact lookup_ok errors_ok he args⟩
  · obtain rfl : fn = Tryz.f163 := (Option.some.inj (Tryz.func163.symm.trans hf)).symm
    exact ⟨nx163, fun e he args => by rw [fd163] at he; exact lookup_ok errors_ok he args⟩
  · obtain rfl : fn = Tryz.f165 := (Option.some.inj (Tryz.func165.symm.trans hf)).symm
    exact ⟨nx165, fun e he args => by rw [fd165] at he; exact kind_ok he args⟩
  · obtain rfl : fn = Tryz.f176 := (Option.some.inj (Tryz.func176.symm.trans hf)).symm
    exact ⟨nx176, fun e he => by rw [fd176] at he; cases he⟩
  · obtain rfl : fn = Tryz.f177 := (Option.some.inj (Tryz.func177.symm.trans hf)).symm
    exact ⟨nx177, fun e he => by rw [fd177] at he; cases he⟩
  · obtain rfl : fn = Tryz.f178 := (Option.some.inj (Tryz.func178.symm.trans hf)).symm
    exact ⟨nx178, fun e he => by rw [fd178] at he; cases he⟩
  · obtain rfl : fn = Tryz.f179 := (Option.some.inj (Tryz.func179.symm.trans hf)).symm
    exact ⟨nx179, fun e he => by rw [fd179] at he; cases he⟩
end Go.Vel
end
section
set_option linter.all false
namespace Go.Vel
open Go Go.Proofs Go.ChangeShapes Go.WideShapes Go.ChangeAt Go.RowKit
def tblLaid : List (String × DataW Unit) := [("velarium/seeker.checks", Go.Proofs.YtmojepgodbadmaaGreatDoor.Rows.laid_velarium_seeker_checks), ("velarium/seeker.says", Go.Proofs.YtmojepgodbadmaaGreatDoor.Rows.laid_velarium_seeker_says)]
/-- A table of three functions, read. -/
theorem tbl3 {P : Program} {W : World} {n : String} {d : DataW Unit} {g0 t0 e0 : Nat} {ps rs : Array TypeId} {va : Bool} {b1 b2 b3 : UInt8} {r1 r2 r3 : List UInt8} {f1 f2 f3 : Nat} (h : funcsAt P W n d)
    (hg0 : P.globalNamed n = some g0) (ht0 : (P.globals[g0]?).map (·.type) = some t0) (hu : P.underlying t0 = some (.array 3 e0)) (he : P.underlying e0 = some (.func ps rs va)) (hc : P.cellsOf e0 = 1) (hc3 : P.cellsOf t0 = 3)
    (hd : d.funcsOut = .agg [.held (b1 :: r1), .held (b2 :: r2), .held (b3 :: r3)])
    (q1 : ((List.range P.funcs.size).filter fun f => (P.funcs[f]?).any (·.name.toUTF8.data.toList == b1 :: r1)) = [f1])
    (q2 : ((List.range P.funcs.size).filter fun f => (P.funcs[f]?).any (·.name.toUTF8.data.toList == b2 :: r2)) = [f2])
    (q3 : ((List.range P.funcs.size).filter fun f => (P.funcs[f]?).any (·.name.toUTF8.data.toList == b3 :: r3)) = [f3]) :
    ∃ cur e fz, W.heap[g0]? = some (.cells cur e fz) ∧ cur[0]? = some (.func (.func f1) #[] #[]) ∧ cur[1]? = some (.func (.func f2) #[] #[]) ∧ cur[2]? = some (.func (.func f3) #[] #[]) := by
  obtain ⟨g, t, cs, fuel, p, hg, ht, hv, htr⟩ := h
  obtain rfl := Option.some.inj (hg0.symm.trans hg)
  obtain rfl := Option.some.inj (ht0.symm.trans ht)
  rw [hd] at htr
  obtain ⟨xs, m, rfl, hx, hlen, hn, hel⟩ := DataW.trod_array hu htr
  match xs, hn with
  | [x0, x1, x2], _ =>
  simp only [Prod.mk.injEq, DataW.agg.injEq, List.map_cons, List.map_nil, List.cons.injEq, and_true] at hx
  obtain ⟨⟨e1, e2, e3⟩, _⟩ := hx
  rw [hc3] at hlen
  obtain ⟨l⟩ := cs
  match l, hlen with
  | [c0, c1, c2], _ =>
  have h0 := hel 0 (by decide)
  have h1 := hel 1 (by decide)
  have h2 := hel 2 (by decide)
  rw [hc] at h0 h1 h2
  obtain ⟨x0, y0⟩ := x0
  obtain ⟨x1, y1⟩ := x1
  obtain ⟨x2, y2⟩ := x2
  dsimp only at e1 e2 e3
  subst e1 e2 e3
  obtain rfl := func_of_trod (v := c0) he q1 h0
  obtain rfl := func_of_trod (v := c1) he q2 h1
  obtain rfl := func_of_trod (v := c2) he q3 h2
  have k0 := World.var?_cell hg hv 0
  have k1 := World.var?_cell hg hv 1
  have k2 := World.var?_cell hg hv 2
  simp only [List.getElem?_toArray, List.getElem?_cons_zero, List.getElem?_cons_succ] at k0 k1 k2
  simp only [World.cell?] at k0 k1 k2
  cases hh : W.heap[g0]? with
  | none => rw [hh] at k0; cases k0
  | some o =>
    cases o with
    | cells cur e fz => rw [hh] at k0 k1 k2; exact ⟨cur, e, fz, rfl, by simpa using k0, by simpa using k1, by simpa using k2⟩
    | _ => rw [hh] at k0; cases k0

set_option maxRecDepth 100000 in
theorem of_laid {W : World} (h : laidMetH Tryz.prog tblLaid W) : (∃ cur e fz, W.heap[0]? = some (.cells cur e fz) ∧ cur[0]? = some (.func (.func 166) #[] #[]) ∧ cur[1]? = some (.func (.func 167) #[] #[]) ∧ cur[2]? = some (.func (.func 168) #[] #[])) ∧
    ∃ cur e fz, W.heap[1]? = some (.cells cur e fz) ∧ cur[0]? = some (.func (.func 174) #[] #[]) ∧ cur[1]? = some (.func (.func 164) #[] #[]) ∧ cur[2]? = some (.func (.func 175) #[] #[]) :=
  ⟨tbl3 (h.funcs (n := "velarium/seeker.checks") (List.mem_cons_self ..)) (t0 := 85) (e0 := 84) (by kernel_rfl) (by kernel_rfl) Tryz.underlying85 Tryz.underlying84 (by kernel_rfl) (by kernel_rfl) rfl (by kernel_rfl) (by kernel_rfl) (by kernel_rfl),
   tbl3 (h.funcs (n := "velarium/seeker.says") (List.mem_cons_of_mem _ (List.mem_cons_self ..))) (t0 := 143) (e0 := 142) (by kernel_rfl) (by kernel_rfl) Tryz.underlying143 Tryz.underlying142 (by kernel_rfl) (by kernel_rfl) rfl (by kernel_rfl) (by kernel_rfl) (by kernel_rfl)⟩
end Go.Vel
end
section
set_option linter.all false
namespace Go.Vel
open Go Go.Proofs Go.ChangeShapes Go.WideShapes Go.ChangeAt Go.RowKit
theorem choose_list {α : Type} {p : Nat → α → Prop} : ∀ n, (∀ i, i < n → ∃ z, p i z) → ∃ zs : List α, zs.length = n ∧ ∀ (i : Nat) z, zs[i]? = some z → p i z
  | 0, _ => ⟨[], rfl, fun i z h => by simp at h⟩
  | n + 1, h => by
    obtain ⟨zs, h1, h2⟩ := choose_list n fun i hi => h i (by omega)
    obtain ⟨z, hz⟩ := h n (by omega)
    refine ⟨zs ++ [z], by simp [h1], fun i y hy => ?_⟩
    rcases Nat.lt_or_ge i n with hi | hi
    · rw [List.getElem?_append_left (by omega)] at hy
      exact h2 i y hy
    · rw [List.getElem?_append_right (by omega), h1] at hy
      rcases Nat.eq_zero_or_pos (i - n) with h0 | h0
      · rw [h0] at hy; cases hy
        obtain rfl : i = n := by omega
        exact hz
      · rw [List.getElem?_eq_none (by simp; omega)] at hy; cases hy
/-- A slice of things of several cells each, opened. -/
theorem open_list {H : Type} {enc : TypeId × Value → H} {P : Program} {W : World} {sp : Nat → Bool} {held : Bool} {α : Type} {vals : α → List Value} {c fuel : Nat} {t e : TypeId} {cs : List Value} {x : DataW H × List MemPlace} (hu : P.underlying t = some (.slice e)) (hce : P.cellsOf e = c) (hpos : 0 < c)
    (hdec : ∀ (m : Nat) cs x, DataW.trod enc P W 0 sp held m e cs = some x → ∃ z, cs = vals z) (h : DataW.trod enc P W 0 sp held fuel t cs = some x) :
    ∃ (zs : List α) (b : Option Addr) (cap : Nat), cs = [.slice b zs.length cap] ∧ zs.length ≤ cap ∧ (0 < zs.length → ∃ blk off cur e' fz, b = some ⟨blk, off, none⟩ ∧ W.heap[blk]? = some (.cells cur e' fz) ∧
      ∀ (i : Nat) z (j : Nat), zs[i]? = some z → j < c → cur[off + (i * c + j)]? = (vals z)[j]?) := by
  rcases DataW.trod_slice hu h with ⟨rfl, _⟩ | ⟨a, len, cap, elems, rest, n, _, rfl, _, _, hlc, _, hel, hat, _, _⟩
  · exact ⟨[], none, 0, rfl, Nat.le_refl _, fun h => absurd h (by simp)⟩
  · obtain ⟨zs, hz1, hz2⟩ := choose_list (p := fun i z => W.cells? 0 (a.add (i * P.cellsOf e)) (P.cellsOf e) = some (vals z)) len fun i hi => by
      have := hat i hi
      rw [List.getElem?_eq_getElem (by omega), Option.bind_eq_some_iff] at this
      obtain ⟨cs', h1, h2⟩ := this
      obtain ⟨z, rfl⟩ := hdec _ _ _ h2
      exact ⟨z, h1⟩
    refine ⟨zs, some a, cap, by rw [hz1], by omega, fun hp => ?_⟩
    have hcell : ∀ (i : Nat) z (j : Nat), zs[i]? = some z → j < c → W.cell? ((a.add (i * c)).add j) = (vals z)[j]? := fun i z j hi hj => by
      have := hz2 i z hi
      rw [hce] at this
      exact (World.cells?_some this).2.2 j hj
    have hlen : ∀ (i : Nat) z, zs[i]? = some z → (vals z).length = c := fun i z hi => by
      have := hz2 i z hi
      rw [hce] at this
      exact (World.cells?_some this).2.1
    obtain ⟨z0, hz0⟩ : ∃ z, zs[0]? = some z := ⟨_, List.getElem?_eq_getElem hp⟩
    have h00 := hcell 0 z0 0 hz0 hpos
    rw [List.getElem?_eq_getElem (by rw [hlen 0 z0 hz0]; exact hpos)] at h00
    have hspot : a.spot = none := by simpa [Addr.add] using World.cell?_spot h00
    obtain ⟨blk, off, spot⟩ := a
    dsimp only at hspot
    subst hspot
    have hadd : ∀ n, (⟨blk, off, none⟩ : Addr).add n = ⟨blk, off + n, none⟩ := fun n => by
      unfold Addr.add
      split
      · rename_i h; subst h; rfl
      · rfl
    have hadd2 : ∀ n m, ((⟨blk, off, none⟩ : Addr).add n).add m = ⟨blk, off + (n + m), none⟩ := fun n m => by
      rw [hadd]
      unfold Addr.add
      split
      · rename_i h; subst h; simp
      · simp [Nat.add_assoc]
    rw [hadd2] at h00
    unfold World.cell? at h00
    dsimp only at h00
    cases hh : W.heap[blk]? with
    | none => rw [hh] at h00; cases h00
    | some o =>
      cases o with
      | cells cur e' fz =>
        refine ⟨blk, off, cur, e', fz, rfl, hh, fun i z j hi hj => ?_⟩
        have := hcell i z j hi hj
        rw [hadd2] at this
        unfold World.cell? at this
        dsimp only at this
        rw [hh] at this
        simpa using this
      | _ => rw [hh] at h00; cases h00
end Go.Vel
end
section
set_option linter.all false
namespace Go.Vel
open Go Go.Proofs Go.ChangeShapes Go.WideShapes Go.ChangeAt Go.RowKit
def saysV (x : Says) : List Value := [.string x.name, .int .i64 x.frm, .int .i64 x.til, .int .i64 x.says, .bool x.glass]
def seenV (x : Seen) : List Value := [.int .i64 x.step, .bool x.seam]
theorem list5 {α : Type} {l : List α} (h : l.length = 5) : ∃ a b c d e, l = [a, b, c, d, e] := by
  match l, h with
  | [a, b, c, d, e], _ => exact ⟨a, b, c, d, e, rfl⟩
theorem list2 {α : Type} {l : List α} (h : l.length = 2) : ∃ a b, l = [a, b] := by
  match l, h with
  | [a, b], _ => exact ⟨a, b, rfl⟩
theorem list6 {α : Type} {l : List α} (h : l.length = 6) : ∃ a b c d e f, l = [a, b, c, d, e, f] := by
  match l, h with
  | [a, b, c, d, e, f], _ => exact ⟨a, b, c, d, e, f, rfl⟩
section
variable {H : Type} {enc : TypeId × Value → H} {W : World} {sp : Nat → Bool} {held : Bool}
theorem some_of {α : Type} {xs : List α} {n i : Nat} (h : xs.length = n) (hi : i < n) : ∃ y, xs[i]? = some y := ⟨_, List.getElem?_eq_getElem (h ▸ hi)⟩
theorem one_field {P : Program} {n : Nat} {t : TypeId} {c : Value} {y : Option (DataW H × List MemPlace)} {z : DataW H × List MemPlace} {l : List Value} (h : DataW.trod enc P W 0 sp held n t l = y) (hy : y = some z) (hl : l = [c]) : DataW.trod enc P W 0 sp held n t [c] = some z := by rw [← hl, h, hy]
theorem dec_says (m : Nat) (cs : List Value) (x : DataW H × List MemPlace) (h : DataW.trod enc Tryz.prog W 0 sp held m 58 cs = some x) : ∃ z, cs = saysV z := by
  obtain ⟨xs, n, rfl, hx, hlen, hxs, hf⟩ := DataW.trod_struct Tryz.underlying58 h
  have hlen' : cs.length = 5 := hlen.trans (by kernel_rfl)
  have hxs' : xs.length = 5 := hxs
  have c9 : Tryz.prog.cellsOf 9 = 1 := by kernel_rfl
  have c3 : Tryz.prog.cellsOf 3 = 1 := by kernel_rfl
  have c56 : Tryz.prog.cellsOf 56 = 1 := by kernel_rfl
  have c4 : Tryz.prog.cellsOf 4 = 1 := by kernel_rfl
  obtain ⟨v0, v1, v2, v3, v4, rfl⟩ := list5 hlen'
  obtain ⟨y0, q0⟩ := some_of hxs' (i := 0) (by decide)
  obtain ⟨y1, q1⟩ := some_of hxs' (i := 1) (by decide)
  obtain ⟨y2, q2⟩ := some_of hxs' (i := 2) (by decide)
  obtain ⟨y3, q3⟩ := some_of hxs' (i := 3) (by decide)
  obtain ⟨y4, q4⟩ := some_of hxs' (i := 4) (by decide)
  obtain ⟨s, e0, _⟩ := DataW.trod_string Tryz.underlying9 (one_field (c := v0) (hf 0 _ rfl) q0 (by show List.take (Tryz.prog.cellsOf 9) (List.drop 0 _) = _; rw [c9]; rfl))
  obtain ⟨a, e1, _⟩ := DataW.trod_int Tryz.underlying3 (one_field (c := v1) (hf 1 _ rfl) q1 (by show List.take (Tryz.prog.cellsOf 3) (List.drop 1 _) = _; rw [c3]; rfl))
  obtain ⟨b, e2, _⟩ := DataW.trod_int Tryz.underlying3 (one_field (c := v2) (hf 2 _ rfl) q2 (by show List.take (Tryz.prog.cellsOf 3) (List.drop 2 _) = _; rw [c3]; rfl))
  obtain ⟨d, e3, _⟩ := DataW.trod_int Tryz.underlying56 (one_field (c := v3) (hf 3 _ rfl) q3 (by show List.take (Tryz.prog.cellsOf 56) (List.drop 3 _) = _; rw [c56]; rfl))
  obtain ⟨g, e4, _⟩ := DataW.trod_bool Tryz.underlying4 (one_field (c := v4) (hf 4 _ rfl) q4 (by show List.take (Tryz.prog.cellsOf 4) (List.drop 4 _) = _; rw [c4]; rfl))
  cases e0; cases e1; cases e2; cases e3; cases e4
  exact ⟨⟨s, a, b, d, g⟩, rfl⟩
theorem dec_seen (m : Nat) (cs : List Value) (x : DataW H × List MemPlace) (h : DataW.trod enc Tryz.prog W 0 sp held m 90 cs = some x) : ∃ z, cs = seenV z := by
  obtain ⟨xs, n, rfl, hx, hlen, hxs, hf⟩ := DataW.trod_struct Tryz.underlying90 h
  have hlen' : cs.length = 2 := hlen.trans (by kernel_rfl)
  have hxs' : xs.length = 2 := hxs
  have c3 : Tryz.prog.cellsOf 3 = 1 := by kernel_rfl
  have c4 : Tryz.prog.cellsOf 4 = 1 := by kernel_rfl
  obtain ⟨v0, v1, rfl⟩ := list2 hlen'
  obtain ⟨y0, q0⟩ := some_of hxs' (i := 0) (by decide)
  obtain ⟨y1, q1⟩ := some_of hxs' (i := 1) (by decide)
  obtain ⟨s, e0, _⟩ := DataW.trod_int Tryz.underlying3 (one_field (c := v0) (hf 0 _ rfl) q0 (by show List.take (Tryz.prog.cellsOf 3) (List.drop 0 _) = _; rw [c3]; rfl))
  obtain ⟨g, e1, _⟩ := DataW.trod_bool Tryz.underlying4 (one_field (c := v1) (hf 1 _ rfl) q1 (by show List.take (Tryz.prog.cellsOf 4) (List.drop 1 _) = _; rw [c4]; rfl))
  cases e0; cases e1
  exact ⟨⟨s, g⟩, rfl⟩
theorem dec_int (m : Nat) (cs : List Value) (x : DataW H × List MemPlace) (h : DataW.trod enc Tryz.prog W 0 sp held m 3 cs = some x) : ∃ z : Int, cs = [.int .i64 z] := by
  obtain ⟨s, e0, _⟩ := DataW.trod_int Tryz.underlying3 h
  exact ⟨s, e0⟩
/-- What is known of a slice that came in. -/
def SlIn (W : World) {α : Type} (vals : α → List Value) (c : Nat) (zs : List α) (v : Value) : Prop := ∃ (b : Option Addr) (cap : Nat), v = .slice b zs.length cap ∧ zs.length ≤ cap ∧ (0 < zs.length → ∃ blk off cur e' fz, b = some ⟨blk, off, none⟩ ∧ W.heap[blk]? = some (.cells cur e' fz) ∧
      ∀ (i : Nat) z (j : Nat), zs[i]? = some z → j < c → cur[off + (i * c + j)]? = (vals z)[j]?)
set_option maxRecDepth 20000 in
theorem open_book {v : Value} {d : DataW H} {p : List MemPlace} (hv : ∃ cs, v = .agg cs) (h : DataW.Trod enc Tryz.prog W 0 sp held 27 v d p) : ∃ (b : Bk) (v1 v2 : Value), v = .agg #[.int .i64 b.steps, .int .i64 b.wrong, .int .i64 b.low, .int .i64 b.high, v1, v2] ∧ SlIn W saysV 5 b.seekers v1 ∧ SlIn W seenV 2 b.seen v2 := by
  obtain ⟨ca, rfl⟩ := hv
  obtain ⟨fuel, h⟩ := h
  generalize hcs : (Value.agg ca).cells.toList = cs at h
  obtain ⟨xs, n, rfl, hx, hlen, hxs, hf⟩ := DataW.trod_struct Tryz.underlying27 h
  have hlen' : cs.length = 6 := hlen.trans (by kernel_rfl)
  have hxs' : xs.length = 5 := hxs
  have c3 : Tryz.prog.cellsOf 3 = 1 := by kernel_rfl
  have c23 : Tryz.prog.cellsOf 23 = 2 := by kernel_rfl
  have c24 : Tryz.prog.cellsOf 24 = 1 := by kernel_rfl
  have c25 : Tryz.prog.cellsOf 25 = 1 := by kernel_rfl
  obtain ⟨v0, v1, v2, v3, v4, v5, rfl⟩ := list6 hlen'
  obtain ⟨y0, q0⟩ := some_of hxs' (i := 0) (by decide)
  obtain ⟨y1, q1⟩ := some_of hxs' (i := 1) (by decide)
  obtain ⟨y2, q2⟩ := some_of hxs' (i := 2) (by decide)
  obtain ⟨y3, q3⟩ := some_of hxs' (i := 3) (by decide)
  obtain ⟨y4, q4⟩ := some_of hxs' (i := 4) (by decide)
  obtain ⟨a, e0, _⟩ := DataW.trod_int Tryz.underlying3 (one_field (c := v0) (hf 0 _ rfl) q0 (by show List.take (Tryz.prog.cellsOf 3) (List.drop 0 _) = _; rw [c3]; rfl))
  obtain ⟨b, e1, _⟩ := DataW.trod_int Tryz.underlying3 (one_field (c := v1) (hf 1 _ rfl) q1 (by show List.take (Tryz.prog.cellsOf 3) (List.drop 1 _) = _; rw [c3]; rfl))
  have h2 : DataW.trod enc Tryz.prog W 0 sp held n 23 [v2, v3] = some y2 := by rw [← q2, ← hf 2 _ rfl]; show _ = DataW.trod enc Tryz.prog W 0 sp held n 23 (List.take (Tryz.prog.cellsOf 23) (List.drop 2 _)); rw [c23]; rfl
  obtain ⟨zs, n2, rfl, hz, _, hzs, hg⟩ := DataW.trod_struct Tryz.underlying23 h2
  have hzs' : zs.length = 2 := hzs
  obtain ⟨z0, p0⟩ := some_of hzs' (i := 0) (by decide)
  obtain ⟨z1, p1⟩ := some_of hzs' (i := 1) (by decide)
  obtain ⟨lo, e2, _⟩ := DataW.trod_int Tryz.underlying3 (one_field (c := v2) (hg 0 _ rfl) p0 (by show List.take (Tryz.prog.cellsOf 3) (List.drop 0 _) = _; rw [c3]; rfl))
  obtain ⟨hi, e3, _⟩ := DataW.trod_int Tryz.underlying3 (one_field (c := v3) (hg 1 _ rfl) p1 (by show List.take (Tryz.prog.cellsOf 3) (List.drop 1 _) = _; rw [c3]; rfl))
  obtain ⟨ss, b4, cap4, e4, l4, r4⟩ := open_list (vals := saysV) (c := 5) Tryz.underlying24 (by kernel_rfl) (by decide) dec_says (one_field (c := v4) (hf 3 _ rfl) q3 (by show List.take (Tryz.prog.cellsOf 24) (List.drop 4 _) = _; rw [c24]; rfl))
  obtain ⟨ns, b5, cap5, e5, l5, r5⟩ := open_list (vals := seenV) (c := 2) Tryz.underlying25 (by kernel_rfl) (by decide) dec_seen (one_field (c := v5) (hf 4 _ rfl) q4 (by show List.take (Tryz.prog.cellsOf 25) (List.drop 5 _) = _; rw [c25]; rfl))
  cases e0; cases e1; cases e2; cases e3; cases e4; cases e5
  refine ⟨⟨a, b, lo, hi, ss, ns⟩, _, _, ?_, ⟨b4, cap4, rfl, l4, r4⟩, ⟨b5, cap5, rfl, l5, r5⟩⟩
  have : ca.toList = _ := hcs
  rw [← Array.toArray_toList (xs := ca), this]
end
end Go.Vel
end
section
set_option linter.all false
namespace Go.Vel
open Go Go.Conc Go.Proofs
def locV : Value → Loc3
  | .slice (some a) _ _ => ⟨a.block, a.off, 0⟩
  | _ => ⟨0, 0, 0⟩
/-- All that there is, to be read alone. -/
def holdAll (W : World) : Hp := fun b => (W.heap[b]?).map fun o => (false, o)
theorem holdAll_fits (W : World) : Fits (holdAll W) W := fun b rw' o h => by
  unfold holdAll at h
  obtain ⟨x, h1, h2⟩ := Option.map_eq_some_iff.1 h
  cases h2
  exact h1
theorem holdAll_get {W : World} {b : Nat} {o : Obj} (h : W.heap[b]? = some o) : holdAll W b = some (false, o) := by unfold holdAll; rw [h]; rfl
theorem flat_get {α : Type} {f : α → List AV} {c : Nat} (hc : ∀ x, (f x).length = c) : ∀ (zs : List α) (j : Nat) a, (zs.flatMap f)[j]? = some a → ∃ i z jj, zs[i]? = some z ∧ jj < c ∧ j = i * c + jj ∧ (f z)[jj]? = some a
  | [], j, a, h => by simp at h
  | z :: zs, j, a, h => by
    rw [List.flatMap_cons] at h
    rcases Nat.lt_or_ge j c with hj | hj
    · rw [List.getElem?_append_left (by rw [hc]; exact hj)] at h
      exact ⟨0, z, j, rfl, hj, by omega, h⟩
    · rw [List.getElem?_append_right (by rw [hc]; exact hj), hc] at h
      obtain ⟨i, y, jj, h1, h2, h3, h4⟩ := flat_get hc zs _ a h
      exact ⟨i + 1, y, jj, h1, h2, by rw [Nat.succ_mul]; omega, h4⟩
theorem relO_in {W : World} {α : Type} {vals : α → List Value} {f : α → List AV} {c : Nat} {zs : List α} {v : Value} {φ : Nat → Loc3} {n : Nat} {e : TypeId} (h : SlIn W vals c zs v) (hc : ∀ x, (f x).length = c)
    (hrel : ∀ z (jj : Nat) a, (f z)[jj]? = some a → ∃ y, (vals z)[jj]? = some y ∧ RelV φ n a y) : RelO φ n (locV v) (holdAll W) (.cells (zs.flatMap f) e false) := by
  intro hne
  obtain ⟨b, cap, rfl, hle, hq⟩ := h
  have hpos : 0 < zs.length := by
    rcases Nat.eq_zero_or_pos zs.length with h0 | h0
    · rw [List.eq_nil_of_length_eq_zero h0] at hne; exact absurd rfl hne
    · exact h0
  obtain ⟨blk, off, cur, e', fz, rfl, hh, hcell⟩ := hq hpos
  refine ⟨false, cur, (e', fz), holdAll_get hh, (fun h => by cases h), fun j a ha => ?_⟩
  obtain ⟨i, z, jj, h1, h2, rfl, h4⟩ := flat_get hc zs j a ha
  obtain ⟨y, h5, h6⟩ := hrel z jj a h4
  exact ⟨y, (hcell i z jj h1 h2).trans h5, h6⟩
theorem relV_in {W : World} {α : Type} {vals : α → List Value} {c : Nat} {zs : List α} {v : Value} {φ : Nat → Loc3} {n i : Nat} (h : SlIn W vals c zs v) (hi : i < n) (hφ : φ i = locV v) : RelV φ n (.sl i 0 zs.length) v := by
  obtain ⟨b, cap, rfl, hle, hq⟩ := h
  refine .sl hi hle fun hpos => ?_
  obtain ⟨blk, off, cur, e', fz, rfl, _⟩ := hq hpos
  rw [hφ]
  rfl
theorem says_rel {φ : Nat → Loc3} {n : Nat} (z : Says) (jj : Nat) (a : AV) (h : (saysC z)[jj]? = some a) : ∃ y, (saysV z)[jj]? = some y ∧ RelV φ n a y := by
  match jj, h with
  | 0, h => cases h; exact ⟨_, rfl, .v _⟩
  | 1, h => cases h; exact ⟨_, rfl, .v _⟩
  | 2, h => cases h; exact ⟨_, rfl, .v _⟩
  | 3, h => cases h; exact ⟨_, rfl, .v _⟩
  | 4, h => cases h; exact ⟨_, rfl, .v _⟩
  | jj + 5, h => simp [saysC] at h
theorem seen_rel {φ : Nat → Loc3} {n : Nat} (z : Seen) (jj : Nat) (a : AV) (h : (seenC z)[jj]? = some a) : ∃ y, (seenV z)[jj]? = some y ∧ RelV φ n a y := by
  match jj, h with
  | 0, h => cases h; exact ⟨_, rfl, .v _⟩
  | 1, h => cases h; exact ⟨_, rfl, .v _⟩
  | jj + 2, h => simp [seenC] at h
theorem int_rel {φ : Nat → Loc3} {n : Nat} (z : Int) (jj : Nat) (a : AV) (h : ([intA z] : List AV)[jj]? = some a) : ∃ y, ([Value.int .i64 z] : List Value)[jj]? = some y ∧ RelV φ n a y := by
  match jj, h with
  | 0, h => cases h; exact ⟨_, rfl, .v _⟩
  | jj + 1, h => simp at h
theorem map_flat (xs : List Int) : xs.map intA = xs.flatMap fun x => [intA x] := by
  induction xs with
  | nil => rfl
  | cons x xs ih => rw [List.map_cons, List.flatMap_cons, ih]; rfl
end Go.Vel
end
section
set_option linter.all false
namespace Go.Vel
open Go Go.Conc Go.Proofs Go.ChangeShapes Go.WideShapes Go.ChangeAt Go.RowKit
theorem fn_rel {φ : Nat → Loc3} {n f : Nat} : RelV φ n (.fn f [] []) (.func (.func f) #[] #[]) := .fn rfl (fun j a y h => by simp at h) rfl (fun j a y h => by simp at h)
theorem tbl_rel {W : World} {φ : Nat → Loc3} {n g f1 f2 f3 : Nat} {e : TypeId} (h : ∃ cur e fz, W.heap[g]? = some (.cells cur e fz) ∧ cur[0]? = some (.func (.func f1) #[] #[]) ∧ cur[1]? = some (.func (.func f2) #[] #[]) ∧ cur[2]? = some (.func (.func f3) #[] #[])) : RelO φ n ⟨g, 0, 0⟩ (holdAll W) (.cells [.fn f1 [] [], .fn f2 [] [], .fn f3 [] []] e false) := by
  intro _
  obtain ⟨cur, e', fz, hh, h0, h1, h2⟩ := h
  refine ⟨false, cur, (e', fz), holdAll_get hh, (fun h => by cases h), fun j a ha => ?_⟩
  match j, ha with
  | 0, ha => cases ha; exact ⟨_, h0, fn_rel⟩
  | 1, ha => cases ha; exact ⟨_, h1, fn_rel⟩
  | 2, ha => cases ha; exact ⟨_, h2, fn_rel⟩
  | j + 3, ha => simp at ha
def KeptAll (W w : World) : Prop := ∀ i, i < W.heap.size → w.heap[i]? = W.heap[i]?
theorem own : ownKnob Tryz.prog.godebug = none := by kernel_rfl
set_option maxRecDepth 100000 in
theorem door_met (os : Os) (args : Array Value) : laidMetH Tryz.prog tblLaid ((World.doorLaid Tryz.prog 400 os).forCall (fun _ _ => 0) ⟨#[], args, []⟩).memory :=
  laidMetH_of_parts3 (fuel := 8) (laidMet_nil _ _) (by kernel_rfl) (by kernel_rfl)
theorem kept_but {W w : World} (ho : w.os = W.os) (hu : w.output = W.output) (hk : KeptAll W w) (may : MemPlace → Prop) : W.keptBut w may := by
  refine ⟨ho, hu, fun i hi => ?_⟩
  rw [hk i hi]
  cases W.heap[i]? with
  | none => rfl
  | some o => cases o <;> simp
theorem same_at {W w : World} (hk : KeptAll W w) {p : MemPlace} (hp : p.block < W.heap.size) : W.sameAt w p := by
  have := hk p.block hp
  cases p with
  | cell b o => exact World.cell?_of_block (w := W) this
  | map b => exact this
theorem okAgg {P : Program} {W : World} {base : Nat} {t : TypeId} {fs : Array Field} {v : Value} (ht : P.underlying t = some (.struct fs)) (h : Value.okWide P W .any base t v) : ∃ cs, v = .agg cs := by
  unfold Value.okWide at h
  rw [ht] at h
  obtain ⟨cs, h1, _⟩ := h
  exact ⟨cs, h1⟩
theorem laid_out : laidOutB Tryz.prog = true := by kernel_rfl
theorem trod_mono {H : Type} {enc : TypeId × Value → H} {W w : World} {t : TypeId} {v : Value} {d : DataW H} {p : List MemPlace} (hl : laidOutB Tryz.prog = true) (h : DataW.Trod enc Tryz.prog W 0 (fun _ => true) true t v d p) (hk : KeptAll W w) (hr : Tryz.prog.readableRec t = true := by kernel_rfl) (hrow : decide (t < Tryz.prog.types.size) = true := by kernel_rfl) : DataW.Trod enc Tryz.prog w 0 (fun b => decide (b < W.heap.size)) true t v d p := by
  have hlt : ∀ x ∈ p, x.block < W.heap.size := by obtain ⟨n, hn⟩ := h; exact DataW.trod_lt n t _ _ hn
  exact WideElems.Trod_stays hl hr (of_decide_eq_true hrow) h (fun x hx => same_at hk (hlt x hx)) (fun x hx => by simpa using hlt x hx)
theorem open_says {H : Type} {enc : TypeId × Value → H} {W : World} {sp : Nat → Bool} {held : Bool} {v : Value} {d : DataW H} {p : List MemPlace} (hv : ∃ cs, v = .agg cs) (h : DataW.Trod enc Tryz.prog W 0 sp held 58 v d p) : ∃ z : Says, v = .agg (saysV z).toArray := by
  obtain ⟨ca, rfl⟩ := hv
  obtain ⟨fuel, h⟩ := h
  obtain ⟨z, hz⟩ := dec_says _ _ _ h
  have hz : ca.toList = saysV z := hz
  exact ⟨z, by rw [← Array.toArray_toList (xs := ca), hz]⟩
/-- The tied card of a row whose call starts goroutines. -/
theorem holds_tied_goes (Lk : Looks) {p : Pinned} {s : OpenSpec} {c : OpenClaim} (kinds : List LaidKind) (tests : Bool) (har : Bool × String) (lk : Bool)
    (hc : c.holds p s) (hw : c.wfByText s = true)
    (htie : c.laidByTextAt Lk p kinds tests)
    (hst : c.start = .entering) (hnb : c.noBlocks = false ∧ c.again = false) (hm : p.checked.prog.mainIs = some (har.1, har.2.toList)) (hn : (!har.1 && har.2.isEmpty && !lk) = false)
    (hl : ∀ f fn, p.checked.prog.funcNamed c.func = some f → p.checked.prog.funcs[f]? = some fn → lk = p.checked.prog.looks [] ∧ ∀ (j : Nat) t, fn.params[j]? = some t → p.checked.prog.wantsStandIn t = false)
    (hg : true = c.goesBy p.checked.prog) :
    Claim7.holds p (.plain s) { stood := { row := c, standIns := [], harness := har, looks := lk }, kinds := [], alts := [], goes := true, laidByText := true, laidKinds := kinds, laidTests := tests, laidLooks := Lk } := by
  have h6 : ∀ r : OpenClaim, Claim7.isSixth { stood := { row := r, standIns := [], harness := har, looks := lk }, kinds := [] } = false := fun r => by simpa [Claim7.isSixth] using hn
  exact ⟨Claim7.tied_new_at Lk kinds tests (Claim7.new_of_sixth hc har lk hst hnb hm (h6 c) hl) hw, (fun D hD => by cases hD), htie, (fun h => by cases h), hg⟩
end Go.Vel
end
