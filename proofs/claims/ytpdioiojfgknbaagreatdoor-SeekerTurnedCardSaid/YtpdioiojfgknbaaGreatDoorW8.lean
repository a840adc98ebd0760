/- Texts for the statements of chapter 9: what all of them need, part 9. It holds of every program, tape and world that the statements name, as each theorem says. -/
import Derived.Shelf.Sort.Plain
import Derived.Shelf.Slices.CompactI
import Derived.Shelf.Slices.In.SortNone
import Derived.Sort.OwnSortedInts
import Derived.Test.YtpdioiojfgknbaaGreatDoorW5
import Derived.Test.YtpdioiojfgknbaaGreatDoorW7
section
set_option linter.all false
set_option maxRecDepth 20000
set_option maxHeartbeats 60000000
namespace Go.Vel
open Go Go.Conc
open Go.ConcN (upd)

theorem pureS_runT {α : Type} {P : Program} : ∀ (s : Sem α) {a : α}, pureS P s = some a → ∀ (w : World) (es : Array Event), s.runT P w es = (.ok a w, es) := by
 intro s
 induction s with
 | pure b => intro a h w es; cases h; rfl
 | program k ih => intro a h w es; exact ih P h w es
 | _ => intro a h; cases h

theorem pureS_pure' {α : Type} {P : Program} (a : α) : pureS P (pure a) = some a := rfl

/-- What is lent, and what is let go. -/
def lend (Bs del : List Nat) (H : Hp) : Hp := fun b => if del.elem b then none else if Bs.elem b then (H b).map fun x => (false, x.2) else H b

theorem lend_sub {Bs del : List Nat} {H : Hp} {b : Nat} {rw' : Bool} {o : Obj} (h : lend Bs del H b = some (rw', o)) : ∃ r, H b = some (r, o) ∧ (rw' = true → r = true) := by
 unfold lend at h
 split at h
 ·cases h
 ·split at h
  ·obtain ⟨x, hx, e⟩ := Option.map_eq_some_iff.1 h
   cases e
   exact ⟨x.1, hx, fun h => by cases h⟩
  ·exact ⟨rw', h, id⟩
theorem lend_other {Bs del : List Nat} {H : Hp} {b : Nat} (h1 : b ∉ Bs) (h2 : b ∉ del) : lend Bs del H b = H b := by
 unfold lend
 rw [if_neg (by simpa using h2), if_neg (by simpa using h1)]
theorem lend_at {Bs del : List Nat} {H : Hp} {b : Nat} {r : Bool} {o : Obj} (h2 : b ∉ del) (h : H b = some (r, o)) : ∃ r', lend Bs del H b = some (r', o) := by
 unfold lend
 rw [if_neg (by simpa using h2)]
 split
 ·exact ⟨false, by rw [h]; rfl⟩
 ·exact ⟨r, h⟩

theorem RelH.lend {φ : Nat → Loc3} {A : List AObj} {F H : Hp} (h : RelH φ A F H) (Bs del : List Nat) (hB : ∀ (t : Nat) o, A[t]? = some o → o.live = true → sol (φ t) o → (φ t).blk ∉ del ∧ (o.excl = true → (φ t).blk ∉ Bs)) (hF : ∀ b, b ∈ Bs ∨ b ∈ del → F b = none) : RelH φ A F (Go.Vel.lend Bs del H) := by
 refine ⟨fun t o ht => ?_, h.apart, fun b x hx => ?_, h.frx⟩
 ·have ho := h.obj t o ht
  cases o with
  | cells l e rw' =>
   intro hl
   obtain ⟨r, cur, fz, q1, q2, q3⟩ := ho hl
   obtain ⟨d1, d2⟩ := hB t _ ht rfl hl
   cases rw' with
   | false =>
    obtain ⟨r', hr'⟩ := lend_at (Bs := Bs) d1 q1
    exact ⟨r', cur, fz, hr', (fun h => by cases h), q3⟩
   | true => exact ⟨r, cur, fz, (lend_other (d2 rfl) d1).trans q1, q2, q3⟩
  | row l e size =>
   obtain ⟨h0, h2, hh⟩ := ho
   refine ⟨h0, h2, fun hc => ?_⟩
   obtain ⟨cur, q1, q2⟩ := hh hc
   obtain ⟨d1, d2⟩ := hB t _ ht rfl hc
   exact ⟨cur, (lend_other (d2 rfl) d1).trans q1, q2⟩
  | raw o =>
   obtain ⟨d1, d2⟩ := hB t _ ht rfl trivial
   exact (lend_other (d2 rfl) d1).trans ho
  | loop f env ps x y st pj =>
   obtain ⟨ts, d, q1, q2⟩ := ho
   obtain ⟨d1, d2⟩ := hB t _ ht rfl trivial
   exact ⟨ts, d, (lend_other (d2 rfl) d1).trans q1, q2⟩
  | gone => trivial
 ·have hn : ¬ (b ∈ Bs ∨ b ∈ del) := fun hm => by rw [hF b hm] at hx; cases hx
  rw [lend_other (fun hm => hn (.inl hm)) (fun hm => hn (.inr hm))]
  exact h.fr b x hx

section
variable {P : Program} {gm : Nat → Option Nat} {T : Goroutine → Hp → Prop} {cg cn : Nat} {msg : Nat → Nat × Value} {Stop : Goroutine → Hp → Prop} {Y : KX P gm T} {ds : List Nat} {k : List Item} {env env' : List AV} {K K' : KV} {ops : Array Oper} {i : Nat} {rest : List Nat} {o : Oper} {φ0 : Nat → Loc3} {n0 j : Nat} {R : Nat → Bool}

/-- The gathering's frame. -/
def phX (Y : KX P gm T) (cg cn : Nat) (msg : Nat → Nat × Value) (Stop : Goroutine → Hp → Prop) (j : Nat) (R : Nat → Bool) (φ0 : Nat → Loc3) (n0 : Nat) : KX P gm (MainT P cg cn msg Stop j R) :=
 ⟨{ main := true, hT := shut_mainT P cg cn msg Stop j R, φ0, n0, F := Y.X.F, kd := Y.X.kd, hkd := Y.X.hkd, f := Y.X.f, ro := Y.X.ro, cs := Y.X.cs, L := fun _ _ _ _ => False, hL := fun _ _ _ _ _ _ _ _ _ h => h.elim }, Y.A0, Y.K0⟩

theorem kn_ph {j' : Nat} {R' : Nat → Bool} {A : List AObj} (h : Kn (phX Y cg cn msg Stop j R φ0 n0) K A) : Kn (phX Y cg cn msg Stop j' R' φ0 n0) K A := ⟨h.view, h.nd, h.own, h.kept, h.len⟩

/-- It is received. -/
theorem TK.recv {c1 c2 : Operand} {e1 e2 : TypeId} {t1 t2 : TypeInfo} {z1 z2 : Value} (ho : ops[i]? = some o) (hop : o.op = .select #[{ chan := c1, send := none, elem := e1 }, { chan := c2, send := none, elem := e2 }] true) (hw : wantA ops env o = some true) (hc1 : opndO gm env c1 = some (.v (.chan (some cg)))) (hc2 : opndO gm env c2 = some (.v (.chan (some cn))))
  (hi1 : P.info? e1 = some t1) (hz1 : t1.zero = some z1) (hi2 : P.info? e2 = some t2) (hz2 : t2.zero = some z2) (hex : ∃ q, q < j ∧ R q = false)
  (h : ∀ q, q < j → R q = false → TK (phX Y cg cn msg Stop j (upd R q true) φ0 n0) ds (.inRegion ops rest :: k) (putA env o.dst (.tup (if (msg q).1 = cg then [.v (.int .i64 0), .v (.bool true), .v (msg q).2, .v z2] else [.v (.int .i64 1), .v (.bool true), .v z1, .v (msg q).2]))) K) :
  TK (phX Y cg cn msg Stop j R φ0 n0) ds (.inRegion ops (i :: rest) :: k) env K := fun A hA φ H ts h1 h2 h3 h4 h5 h6 => by
 have q1 := opnd_rel (a := ⟨ts, []⟩) h3 h6 c1
 rw [opndO_eq hc1] at q1
 have q2 := opnd_rel (a := ⟨ts, []⟩) h3 h6 c2
 rw [opndO_eq hc2] at q2
 have q1' : evT ts c1 = .chan (some cg) := inv_v q1
 have q2' : evT ts c2 = .chan (some cn) := inv_v q2
 have hz : ∀ {t : TypeId} {ti : TypeInfo} {z : Value}, P.info? t = some ti → ti.zero = some z → pureS P (zeroValue t) = some z := fun {t ti z} hi hz => by
  unfold zeroValue typeInfo
  show pureS P ((match P.info? t with | some i => pure i | none => stuck "no such type") >>= _) = _
  rw [hi]
  show pureS P (match ti.zero with | some z => _ | none => _) = _
  rw [hz]; rfl
 have hpure : pureS P (execOp (evT ts) o) = some (.comm (sel2 cg cn z1 z2) true .select) := by
  unfold execOp
  rw [hop]
  dsimp only
  rw [Array.mapM_eq_mapM_toList]
  simp only [List.mapM_cons, List.mapM_nil]
  have b1 : ∀ {α β : Type} {s : Sem α} {f : α → Sem β} {a : α} {b : β}, pureS P s = some a → pureS P (f a) = some b → pureS P (s >>= f) = some b := fun h1 h2 => pureS_bind h1 h2
  rw [q1', q2']
  refine b1 (a := sel2 cg cn z1 z2) ?_ rfl
  refine b1 (a := [rcase cg z1, rcase cn z2]) ?_ rfl
  refine b1 (a := rcase cg z1) (b1 (hz hi1 hz1) rfl) ?_
  refine b1 (a := [rcase cn z2]) ?_ rfl
  exact b1 (a := rcase cn z2) (b1 (hz hi2 hz2) rfl) rfl
 refine .recv (G (fr Y.X.kd Y.X.f Y.X.ro ts (dsC φ ds) (.inRegion ops (i :: rest) :: k)) Y.X.cs) z1 z2 rfl hex (fun w hf => ⟨#[], ?_, fun e he => by simp at he⟩) fun q hq hR p hp => ?_
 ·show stepG P true (G (fr Y.X.kd Y.X.f Y.X.ro ts (dsC φ ds) (.inRegion ops (i :: rest) :: k)) Y.X.cs) w = _
  rw [sf_oper Y.X.hkd ho (wantA_ok h6 hw) (by rw [hop]; rfl)]
  obtain ⟨r1, r2⟩ := runT_pair (pureS_runT _ hpure w #[])
  simp [stepG.apply, Sem.runT_eq, r1, r2, fr, GStep.after, seen]
  rfl
 ·have hfin := fr_finish Y.X.kd Y.X.f Y.X.ro ts (dsC φ ds) ops i rest k (commResult (sel2 cg cn z1 z2) .select p (msg q).2 true)
  simp only [ho, Option.bind_some] at hfin
  show MainT P cg cn msg Stop j (upd R q true) (G ((fr Y.X.kd Y.X.f Y.X.ro ts (dsC φ ds) (.inRegion ops (i :: rest) :: k)).finish (commResult (sel2 cg cn z1 z2) .select p (msg q).2 true)) Y.X.cs) H
  rw [hfin]
  refine h q hq hR A (kn_ph hA) φ H _ h1 h2 h3 h4 h5 (put_rel (a := ⟨ts, []⟩) h6 ?_ o.dst)
  have htup : ∀ (a b c d : Value), RelV φ A.length (.tup [.v a, .v b, .v c, .v d]) (.tuple #[a, b, c, d]) := fun a b c d => .tup rfl fun t x y hx hy => by
   rcases t with _ | _ | _ | _ | t <;> simp at hx hy <;> subst hx hy <;> exact .v _
  have c0 : ∀ v, commResult (sel2 cg cn z1 z2) .select ((0 : Nat) : Int) v true = .tuple #[.int .i64 0, .bool true, v, z2] := fun v => by
   simp [commResult, sel2, rcase, goInt, Array.zipIdx]
  have c1 : ∀ v, commResult (sel2 cg cn z1 z2) .select ((1 : Nat) : Int) v true = .tuple #[.int .i64 1, .bool true, z1, v] := fun v => by
   simp [commResult, sel2, rcase, goInt, Array.zipIdx]
  by_cases e : (msg q).1 = cg
  ·rw [if_pos e] at hp ⊢
   subst hp
   rw [c0]
   exact htup (.int .i64 0) (.bool true) (msg q).2 z2
  ·rw [if_neg e] at hp ⊢
   subst hp
   rw [c1]
   exact htup (.int .i64 1) (.bool true) z1 (msg q).2

/-- All is gathered. -/
theorem TK.stopM {Ψ : Goroutine → World → Prop} {Y : KX P gm (BT P Ψ)} (hR : ∀ q, q < j → R q = true) (hk : ∀ x ∈ k, okI x) (hcs : ∀ f ∈ Y.X.cs, okF f) (hag : Agr Y.X.φ0 φ0 Y.X.n0) (hn : Y.X.n0 ≤ n0) (h : TK Y ds k env K) :
  TK (phX Y cg cn msg (fun a Hs => okG a ∧ BT P Ψ a Hs) j R φ0 n0) ds k env K := fun A hA φ H ts h1 h2 h3 h4 h5 h6 =>
 .stop rfl hR ⟨⟨hk, hcs, fun t h => by cases h⟩, h A ⟨hA.view, hA.nd, hA.own, hA.kept, hA.len⟩ φ H ts (hag.trans h1 hn) (Nat.le_trans hn h2) h3 h4 h5 h6⟩

/-- A worker is born; what is in S is lent to it, and one object is given. -/
theorem TK.spawn {fo : Operand} {at_ : Array TypeId} {g : FuncId} {cp : List AV} {S : KV} {j9 : Nat} {l9 : List AV} {e9 : TypeId} (ho : ops[i]? = some o) (hop : o.op = .go { callee := .value fo, args := #[], argTypes := at_ }) (hw : wantA ops env o = some true) (hf : opndO gm env fo = some (.fn g [] cp)) (hR : R j = false)
  (hS : ∀ x ∈ S, x ∈ K ∧ x.1 < n0 ∧ Y.X.F (φ0 x.1).blk = none ∧ ∃ l e, l ≠ [] ∧ x.2 = .cells l e false) (hu : Rem K (j9, .cells l9 e9 true) K') (hl9 : l9 ≠ [])
  (hchild : ∀ (φ : Nat → Loc3) (A : List AObj) (Hc : Hp) (vs : Array Value), View ((j9, .cells l9 e9 false) :: S) A → RelG gm φ A.length → RelH φ A (fun _ => none) Hc → RelL φ A.length cp vs → TreeW P (AtSend P (msg j)) (born P { target := .fn (.func g) vs, args := #[] }) Hc)
  (h : TK (phX Y cg cn msg Stop (j + 1) R φ0 n0) ds (.inRegion ops rest :: k) (putA env o.dst (.v undef)) K') :
  TK (phX Y cg cn msg Stop j R φ0 n0) ds (.inRegion ops (i :: rest) :: k) env K := fun A hA φ H ts h1 h2 h3 h4 h5 h6 => by
 have hperm := hu.perm
 have hmem9 : (j9, AObj.cells l9 e9 true) ∈ K := hperm.symm.subset (by simp)
 have hj9 := hA.view.get hmem9
 have hj9l : j9 < A.length := (List.getElem?_eq_some_iff.1 hj9).1
 have hne9 : ∀ x ∈ S, x.1 ≠ j9 := fun x hx e => by
  obtain ⟨hxK, _, _, l, e', _, hx2⟩ := hS x hx
  have h9 := hA.view x hxK
  rw [e, hj9, hx2] at h9
  cases h9
 obtain ⟨rw9, cur9, fz9, hb9, hfz9, hc9⟩ := h5.obj j9 _ hj9 hl9
 -- the closure
 have hfo := opnd_rel (a := ⟨ts, []⟩) h3 h6 fo
 rw [opndO_eq hf] at hfo
 obtain ⟨xs, ys, ev, hr1, hr2⟩ := inv_fn hfo
 have hxs : xs = #[] := by
  have := hr1.1
  exact Array.eq_empty_of_size_eq_zero this.symm
 subst hxs
 let Bs : List Nat := (φ j9).blk :: S.map fun x => (φ x.1).blk
 have hφS : ∀ x ∈ S, φ x.1 = φ0 x.1 := fun x hx => h1 x.1 (hS x hx).2.1
 have hFB : ∀ b, b ∈ Bs → Y.X.F b = none := fun b hb => by
  rcases List.mem_cons.1 hb with rfl | hb
  ·exact h5.frx j9 _ hj9 rfl hl9
  ·obtain ⟨x, hx, rfl⟩ := List.mem_map.1 hb
   rw [hφS x hx]; exact (hS x hx).2.2.1
 -- what is left
 have hdrop := h5.drop j9
 have hcaller : RelH φ (A.set j9 .gone) Y.X.F (lend Bs [] H) := by
  refine hdrop.lend Bs [] (fun t q ht hl hs => ⟨by simp, fun hx hm => ?_⟩) fun b hb => hFB b (hb.resolve_right (by simp))
  by_cases htj : j9 = t
  ·subst htj
   rw [List.getElem?_set_self hj9l] at ht
   cases ht; cases hl
  ·rw [List.getElem?_set_ne htj] at ht
   rcases List.mem_cons.1 hm with hm | hm
   ·exact h5.apart t j9 q _ ht hj9 (fun e => htj e.symm) hx rfl hs hl9 hm
   ·obtain ⟨x, hx', hm⟩ := List.mem_map.1 hm
    obtain ⟨hxK, _, _, l, e', hl0, hx2⟩ := hS x hx'
    have hax := hA.view x hxK
    rw [hx2] at hax
    by_cases htx : t = x.1
    ·subst htx; rw [ht] at hax; cases hax; cases hx
    ·exact h5.apart t x.1 q _ ht hax htx hx rfl hs hl0 hm.symm
 have hkn : Kn (phX Y cg cn msg Stop (j + 1) R φ0 n0) K' (A.set j9 .gone) := by
  have hnd := (keys_perm hperm).nodup_iff.1 hA.nd
  rw [keys_cons, List.nodup_cons] at hnd
  refine ⟨fun x hx => ?_, hnd.2, fun t ht => hA.own t ((keys_perm hperm).symm.subset (List.mem_cons_of_mem _ ht)), fun t ht1 ht2 => ?_, by rw [List.length_set]; exact hA.len⟩
  ·have hne : j9 ≠ x.1 := fun e => hnd.1 (by show j9 ∈ keys K'; rw [e]; exact mem_keys hx)
   rw [List.getElem?_set_ne hne]
   exact hA.view x (hperm.symm.subset (List.mem_cons_of_mem _ hx))
  ·have hne : j9 ≠ t := fun e => by
    subst e
    rcases hA.own j9 (mem_keys' hmem9) with h | h
    ·exact ht2 h
    ·exact absurd ht1 (Nat.not_lt.2 h)
   rw [List.getElem?_set_ne hne]
   exact hA.kept t ht1 ht2
 -- the child's
 let Ac : List AObj := (List.range A.length).map fun t => if t = j9 then .cells l9 e9 false else if (S.map (·.1)).elem t then (A[t]?).getD .gone else .gone
 have hAcl : Ac.length = A.length := by simp [Ac]
 have hAc : ∀ (t : Nat) (q : AObj), Ac[t]? = some q → q.live = true → (t = j9 ∧ q = .cells l9 e9 false) ∨ ∃ x ∈ S, x.1 = t ∧ x.2 = q := fun t q ht hl => by
  have hlt : t < A.length := by rw [← hAcl]; exact (List.getElem?_eq_some_iff.1 ht).1
  simp only [Ac, List.getElem?_map, List.getElem?_range hlt, Option.map_some, Option.some.injEq] at ht
  split at ht
  ·rename_i e; exact .inl ⟨e, ht.symm⟩
  ·split at ht
   ·rename_i hm
    simp only [List.elem_eq_mem, decide_eq_true_eq] at hm
    obtain ⟨x, hx, e⟩ := List.mem_map.1 hm
    have hax := hA.view x (hS x hx).1
    rw [e] at hax
    rw [hax] at ht
    exact .inr ⟨x, hx, e, ht⟩
   ·subst ht; cases hl
 let Hc : Hp := fun b => if Bs.elem b then (H b).map fun x => (false, x.2) else none
 have hHc : ∀ b r o, b ∈ Bs → H b = some (r, o) → Hc b = some (false, o) := fun b r o hb hx => by
  simp only [Hc]
  rw [if_pos (by simpa using hb), hx]; rfl
 have hRc : RelH φ Ac (fun _ => none) Hc := by
  have hne : ∀ (t : Nat) (q : AObj), Ac[t]? = some q → q.excl = false := fun t q ht => by
   cases hl : q.live with
   | false => cases q <;> first | rfl | cases hl
   | true =>
    rcases hAc t q ht hl with ⟨_, rfl⟩ | ⟨x, hx, _, hq⟩
    ·rfl
    ·obtain ⟨_, _, _, l, e', _, hx2⟩ := hS x hx
     rw [← hq, hx2]; rfl
  refine ⟨fun t q ht => ?_, fun t t' q q' ht _ _ he => absurd he (by rw [hne t q ht]; decide), (fun b x hx => by cases hx), fun t q ht he => absurd he (by rw [hne t q ht]; decide)⟩
  rw [hAcl]
  cases hl : q.live with
  | false => cases q <;> first | trivial | cases hl
  | true =>
   rcases hAc t q ht hl with ⟨rfl, rfl⟩ | ⟨x, hx, rfl, rfl⟩
   ·intro _
    exact ⟨false, cur9, fz9, hHc _ _ _ List.mem_cons_self hb9, (fun h => by cases h), hc9⟩
   ·obtain ⟨hxK, _, _, l, e', hl0, hx2⟩ := hS x hx
    have hax := hA.view x hxK
    rw [hx2] at hax ⊢
    intro _
    obtain ⟨r, cur, fz, p1, _, p3⟩ := h5.obj x.1 _ hax hl0
    exact ⟨false, cur, fz, hHc _ _ _ (List.mem_cons_of_mem _ (List.mem_map_of_mem hx)) p1, (fun h => by cases h), p3⟩
 have hVc : View ((j9, .cells l9 e9 false) :: S) Ac := fun x hx => by
  rcases List.mem_cons.1 hx with rfl | hx
  ·simp [Ac, hj9l]
  ·have hax := hA.view x (hS x hx).1
   have hlt : x.1 < A.length := (List.getElem?_eq_some_iff.1 hax).1
   simp only [Ac, List.getElem?_map, List.getElem?_range hlt, Option.map_some]
   rw [if_neg (hne9 x hx), if_pos (by simpa using ⟨x.2, hx⟩), hax]; rfl
 have hch := hchild φ Ac Hc ys hVc (by rw [hAcl]; exact h3) hRc (by rw [hAcl]; exact hr2)
 have hfin := fr_finish Y.X.kd Y.X.f Y.X.ro ts (dsC φ ds) ops i rest k undef
 simp only [ho, Option.bind_some] at hfin
 refine .spawn (G (fr Y.X.kd Y.X.f Y.X.ro (putT ts o.dst undef) (dsC φ ds) (.inRegion ops rest :: k)) Y.X.cs) (born P { target := .fn (.func g) ys, args := #[] }) (Go.Vel.lend Bs [] H) Hc rfl (fun w hf => ⟨#[], ?_, fun e he => by simp at he⟩) rfl rfl hR (fun b r q hb => lend_sub hb) (fun b r q hb => ?_) (fun b q hb => ?_) hch ?_
 ·show stepG P true (G (fr Y.X.kd Y.X.f Y.X.ro ts (dsC φ ds) (.inRegion ops (i :: rest) :: k)) Y.X.cs) w = _
  rw [sf_oper Y.X.hkd ho (wantA_ok h6 hw) (by rw [hop]; rfl)]
  have hpure : pureS P (execOp (evT ts) o) = some (.spawn { target := .fn (.func g) ys, args := #[] }) := by
   unfold execOp
   rw [hop]
   dsimp only
   have ev' : evT ts fo = .func (.func g) #[] ys := ev
   refine pureS_bind (a := { target := .fn (.func g) ys, args := #[] }) ?_ rfl
   show pureS P (Deferred.ofValue (evT ts fo) ((#[] : Array Operand).map (evT ts))) = _
   rw [ev']
   simp [Deferred.ofValue, pureS_pure']
  obtain ⟨r1, r2⟩ := runT_pair (pureS_runT _ hpure w #[])
  simp only [fr] at hfin
  simp [stepG.apply, Sem.runT_eq, r1, r2, fr, GStep.after, seen, hfin, born]
  rfl
 ·simp only [Hc] at hb
  split at hb
  ·obtain ⟨x, hx, e⟩ := Option.map_eq_some_iff.1 hb
   cases e
   exact ⟨rfl, x.1, hx⟩
  ·cases hb
 ·simp only [Hc]
  split
  ·rename_i hm
   exfalso
   unfold Go.Vel.lend at hb
   rw [if_neg (by simp), if_pos hm] at hb
   obtain ⟨x, _, e⟩ := Option.map_eq_some_iff.1 hb
   cases e
  ·rfl
 ·have hA9l : (A.set j9 .gone).length = A.length := by simp
  refine h (A.set j9 .gone) hkn φ _ _ h1 (by rw [hA9l]; exact h2) (by rw [hA9l]; exact h3) (by rw [hA9l]; exact h4) hcaller ?_
  rw [hA9l]
  exact put_rel (a := ⟨ts, []⟩) h6 (.v undef) o.dst
end
end Go.Vel
end
section
set_option linter.all false
set_option maxRecDepth 20000
set_option maxHeartbeats 60000000
namespace Go.Vel
open Go Go.Conc

def Turned (φ : Nat → Loc3) (A A' : List AObj) : Prop := ∀ (t : Nat) (o : AObj), A'[t]? = some o → ∃ o', A[t]? = some o' ∧ (o.excl = true → o'.excl = true) ∧ (o.live = true → o'.live = true) ∧ (sol (φ t) o → sol (φ t) o')
theorem Turned.refl (φ : Nat → Loc3) (A : List AObj) : Turned φ A A := fun _ o h => ⟨o, h, id, id, id⟩
theorem Turned.trans {φ : Nat → Loc3} {A B C : List AObj} (h : Turned φ A B) (k : Turned φ B C) : Turned φ A C := fun t o ht => by
 obtain ⟨o1, h1, a1, a2, a3⟩ := k t o ht
 obtain ⟨o2, h2, b1, b2, b3⟩ := h t o1 h1
 exact ⟨o2, h2, fun x => b1 (a1 x), fun x => b2 (a2 x), fun x => b3 (a3 x)⟩

section
variable {P : Program} {gm : Nat → Option Nat} {T : Goroutine → Hp → Prop} {Y : KX P gm T} {ds : List Nat} {k : List Item} {env env' : List AV} {K K' : KV}

theorem rel_turn {φ : Nat → Loc3} {A A0 : List AObj} {F H : Hp} {j : Nat} {o o' : AObj} (hA : Kn Y K A) (hH : RelH φ A F H) (hT : Turned φ A0 A) (hl0 : A.length = A0.length) (hu : Upd K j o j o' K') (ho : RelO φ A0.length (φ j) H o → RelO φ A0.length (φ j) H o') (hx : o'.excl = true → o.excl = true) (hl : o'.live = true → o.live = true) (hs : sol (φ j) o' → sol (φ j) o) :
  ∃ A', Kn Y K' A' ∧ RelH φ A' F H ∧ Turned φ A0 A' ∧ A'.length = A0.length := by
 have hj := hA.view.get hu.mem
 refine ⟨A.set j o', hA.step (.set hA.view hA.nd hu), hH.turn hj (by rw [hl0]; exact ho) hx hl hs, hT.trans fun t q ht => ?_, by rw [List.length_set, hl0]⟩
 by_cases e : j = t
 ·subst e
  rw [List.getElem?_set_self (List.getElem?_eq_some_iff.1 hj).1] at ht
  cases ht
  exact ⟨o, hj, hx, hl, hs⟩
 ·rw [List.getElem?_set_ne e] at ht
  exact ⟨q, ht, id, id, id⟩

/-- The gathering begins. -/
theorem TK.phase {Ψ : Goroutine → World → Prop} {Y : KX P gm (BT P Ψ)} {jc1 jc2 j7 j8 jx jb jl : Nat} {e7 e8 ex eb el : TypeId} {sl : Nat} {lx lb l : List AV} {Kr : KV} (msgf : Nat → Nat → Nat → Nat × Value) (hmsg : ∀ cg cn i, (msgf cg cn i).1 = cg ∨ (msgf cg cn i).1 = cn) (hlx : lx ≠ []) (hlb : lb ≠ []) (hl : l ≠ [])
  (h : ∀ (φ0 : Nat → Loc3) (n0 cg cn : Nat), cg ≠ cn → Agr Y.X.φ0 φ0 Y.X.n0 → Y.X.n0 ≤ n0 → (∀ t ∈ [j7, j8, jx, jb, jl], t < n0 ∧ Y.X.F (φ0 t).blk = none) → (∀ f ∈ Y.X.cs, okF f) →
   TK (phX Y cg cn (msgf cg cn) (fun a Hs => okG a ∧ BT P Ψ a Hs) 0 (fun _ => false) φ0 n0) ds k env ((jc1, .gone) :: (jc2, .gone) :: (j7, .cells [.v (.chan (some cg))] e7 false) :: (j8, .cells [.v (.chan (some cn))] e8 false) :: (jx, .cells (lx.map (unrow jl)) ex false) :: (jb, .cells lb eb false) :: (jl, .cells l el false) :: Kr)) :
  TK Y ds k env ((jc1, .raw (.chan 0 #[] false 0 0 false)) :: (jc2, .raw (.chan 0 #[] false 0 0 false)) :: (j7, .cells [.chan jc1] e7 true) :: (j8, .cells [.chan jc2] e8 true) :: (jx, .cells lx ex true) :: (jb, .cells lb eb true) :: (jl, .row l el sl) :: Kr) := fun A hA φ H ts h1 h2 h3 h4 h5 h6 => by
 have g1 := hA.view.get (show (jc1, AObj.raw (.chan 0 #[] false 0 0 false)) ∈ _ from .head _)
 have g2 := hA.view.get (show (jc2, AObj.raw (.chan 0 #[] false 0 0 false)) ∈ _ from .tail _ (.head _))
 have g3 := hA.view.get (show (j7, AObj.cells [.chan jc1] e7 true) ∈ _ from .tail _ (.tail _ (.head _)))
 have g4 := hA.view.get (show (j8, AObj.cells [.chan jc2] e8 true) ∈ _ from .tail _ (.tail _ (.tail _ (.head _))))
 have g5 := hA.view.get (show (jx, AObj.cells lx ex true) ∈ _ from .tail _ (.tail _ (.tail _ (.tail _ (.head _)))))
 have g6 := hA.view.get (show (jb, AObj.cells lb eb true) ∈ _ from .tail _ (.tail _ (.tail _ (.tail _ (.tail _ (.head _))))))
 have g7 := hA.view.get (show (jl, AObj.row l el sl) ∈ _ from .tail _ (.tail _ (.tail _ (.tail _ (.tail _ (.tail _ (.head _)))))))
 have hnd := hA.nd
 have hsl : sol (φ jl) (.row l el sl) := by
  show 0 < (φ jl).cap
  rcases Nat.eq_zero_or_pos (φ jl).cap with e | e
  ·exact absurd ((h5.obj jl _ g7).1 e) hl
  ·exact e
 have hbase : (φ jl).base = 0 := (h5.obj jl _ g7).2.1
 have hfalse : ∀ {l' : List AV} {e' : TypeId} {jt : Nat}, RelO φ A.length (φ jt) H (.cells l' e' true) → RelO φ A.length (φ jt) H (.cells l' e' false) := fun ho hl0 => by
  obtain ⟨r, cur, fz, p1, _, p3⟩ := ho hl0
  exact ⟨r, cur, fz, p1, (fun h => by cases h), p3⟩
 have hone : ∀ {jt jc : Nat} {e' : TypeId}, RelO φ A.length (φ jt) H (.cells [.chan jc] e' true) → RelO φ A.length (φ jt) H (.cells [.v (.chan (some (φ jc).blk))] e' false) := fun ho hl0 => by
  obtain ⟨r, cur, fz, p1, _, p3⟩ := ho (by simp)
  refine ⟨r, cur, fz, p1, (fun h => by cases h), fun t a ha => ?_⟩
  cases t with
  | zero =>
   simp at ha; subst ha
   obtain ⟨y, hy, hr⟩ := p3 0 _ rfl
   exact ⟨y, hy, by rw [(inv_chan hr).2]; exact .v _⟩
  | succ t => simp at ha
 obtain ⟨A1, k1, r1, t1, n1⟩ := rel_turn (o' := .gone) hA h5 (Turned.refl φ A) rfl .head (fun _ => trivial) (fun h => by cases h) (fun h => by cases h) (fun _ => trivial)
 obtain ⟨A2, k2, r2, t2, n2⟩ := rel_turn (o' := .gone) k1 r1 t1 n1 (.tail .head) (fun _ => trivial) (fun h => by cases h) (fun h => by cases h) (fun _ => trivial)
 obtain ⟨A3, k3, r3, t3, n3⟩ := rel_turn (o' := .cells [.v (.chan (some (φ jc1).blk))] e7 false) k2 r2 t2 n2 (.tail (.tail .head)) hone (fun h => by cases h) (fun _ => rfl) (fun _ => by simp [sol])
 obtain ⟨A4, k4, r4, t4, n4⟩ := rel_turn (o' := .cells [.v (.chan (some (φ jc2).blk))] e8 false) k3 r3 t3 n3 (.tail (.tail (.tail .head))) hone (fun h => by cases h) (fun _ => rfl) (fun _ => by simp [sol])
 obtain ⟨A5, k5, r5, t5, n5⟩ := rel_turn (o' := .cells (lx.map (unrow jl)) ex false) k4 r4 t4 n4 (.tail (.tail (.tail (.tail .head)))) (fun ho hl0 => by
  obtain ⟨r, cur, fz, p1, _, p3⟩ := ho hlx
  refine ⟨r, cur, fz, p1, (fun h => by cases h), fun t a ha => ?_⟩
  rw [List.getElem?_map] at ha
  cases e : lx[t]? with
  | none => rw [e] at ha; cases ha
  | some a0 =>
   rw [e] at ha
   cases ha
   obtain ⟨y, hy, hr⟩ := p3 t a0 e
   exact ⟨y, hy, unrow_rel hbase hr⟩) (fun h => by cases h) (fun _ => rfl) (fun _ => hlx)
 obtain ⟨A6, k6, r6, t6, n6⟩ := rel_turn (o' := .cells lb eb false) k5 r5 t5 n5 (.tail (.tail (.tail (.tail (.tail .head))))) hfalse (fun h => by cases h) (fun _ => rfl) (fun h => h)
 obtain ⟨A7, k7, r7, t7, n7⟩ := rel_turn (o' := .cells l el false) k6 r6 t6 n6 (.tail (.tail (.tail (.tail (.tail (.tail .head)))))) (fun ho hl0 => by
  obtain ⟨cur, q1, q2, q3, q4, q5⟩ := ho.2.2 hsl
  exact ⟨true, cur, (_, 0, 0), q1, (fun h => by cases h), fun t u hu => by rw [hbase, Nat.zero_add]; exact q5 t u hu⟩) (fun h => by cases h) (fun _ => rfl) (fun _ => hsl)
 have v7 := k7.view
 have w1 := v7.get (show (jc1, AObj.gone) ∈ _ from .head _)
 have w2 := v7.get (show (jc2, AObj.gone) ∈ _ from .tail _ (.head _))
 have w3 := v7.get (show (j7, AObj.cells [.v (.chan (some (φ jc1).blk))] e7 false) ∈ _ from .tail _ (.tail _ (.head _)))
 have w4 := v7.get (show (j8, AObj.cells [.v (.chan (some (φ jc2).blk))] e8 false) ∈ _ from .tail _ (.tail _ (.tail _ (.head _))))
 have w5 := v7.get (show (jx, AObj.cells (lx.map (unrow jl)) ex false) ∈ _ from .tail _ (.tail _ (.tail _ (.tail _ (.head _)))))
 have w6 := v7.get (show (jb, AObj.cells lb eb false) ∈ _ from .tail _ (.tail _ (.tail _ (.tail _ (.tail _ (.head _))))))
 have w7 := v7.get (show (jl, AObj.cells l el false) ∈ _ from .tail _ (.tail _ (.tail _ (.tail _ (.tail _ (.tail _ (.head _)))))))
 let Bs : List Nat := [(φ j7).blk, (φ j8).blk, (φ jx).blk, (φ jb).blk, (φ jl).blk]
 have f1 := h5.frx jc1 _ g1 rfl trivial
 have f2 := h5.frx jc2 _ g2 rfl trivial
 have f3 := h5.frx j7 _ g3 rfl (by simp [sol])
 have f4 := h5.frx j8 _ g4 rfl (by simp [sol])
 have f5 := h5.frx jx _ g5 rfl hlx
 have f6 := h5.frx jb _ g6 rfl hlb
 have f7 := h5.frx jl _ g7 rfl hsl
 have hF : ∀ b, b ∈ Bs ∨ b ∈ [(φ jc1).blk, (φ jc2).blk] → Y.X.F b = none := fun b hb => by
  simp only [Bs, List.mem_cons, List.not_mem_nil, or_false] at hb
  rcases hb with (rfl | rfl | rfl | rfl | rfl) | (rfl | rfl) <;> assumption
 have hne12 : (φ jc1).blk ≠ (φ jc2).blk := by
  refine h5.apart jc1 jc2 _ _ g1 g2 (fun e => ?_) rfl rfl trivial trivial
  subst e
  simp [keys] at hnd
 have hrel := r7.lend Bs [(φ jc1).blk, (φ jc2).blk] (fun t o ht hlv hs => by
  obtain ⟨o', ho', x1, x2, x3⟩ := t7 t o ht
  have y2 := x2 hlv
  have y3 := x3 hs
  have d1 : jc1 ≠ t := fun e => by subst e; rw [w1] at ht; cases ht; cases hlv
  have d2 : jc2 ≠ t := fun e => by subst e; rw [w2] at ht; cases ht; cases hlv
  refine ⟨?_, fun hx => ?_⟩
  ·simp only [List.mem_cons, List.not_mem_nil, or_false, not_or]
   exact ⟨fun e => h5.apart jc1 t _ o' g1 ho' d1 rfl y2 trivial y3 e.symm, fun e => h5.apart jc2 t _ o' g2 ho' d2 rfl y2 trivial y3 e.symm⟩
  ·have y1 := x1 hx
   simp only [Bs, List.mem_cons, List.not_mem_nil, or_false, not_or]
   have dd : ∀ {jt : Nat} {lt : List AV} {et : TypeId}, A7[jt]? = some (.cells lt et false) → t ≠ jt := fun hw e => by subst e; rw [hw] at ht; cases ht; cases hx
   exact ⟨h5.apart t j7 o' _ ho' g3 (dd w3) y1 rfl y3 (by simp [sol]), h5.apart t j8 o' _ ho' g4 (dd w4) y1 rfl y3 (by simp [sol]), h5.apart t jx o' _ ho' g5 (dd w5) y1 rfl y3 hlx, h5.apart t jb o' _ ho' g6 (dd w6) y1 rfl y3 hlb, h5.apart t jl o' _ ho' g7 (dd w7) y1 rfl y3 hsl⟩) hF
 have lt := fun {t : Nat} {q : AObj} (hq : A[t]? = some q) => (List.getElem?_eq_some_iff.1 hq).1
 refine bt_of_main (cg := (φ jc1).blk) (cn := (φ jc2).blk) (msg := msgf _ _) (H' := Go.Vel.lend Bs [(φ jc1).blk, (φ jc2).blk] H) (hmsg _ _) hne12 (h5.obj jc1 _ g1) (h5.obj jc2 _ g2) (fun b rw' o hb => let ⟨r, hr, _⟩ := lend_sub hb; ⟨r, hr⟩) ⟨by simp [Go.Vel.lend], by simp [Go.Vel.lend]⟩ fun hok => ?_
 refine h φ A.length _ _ hne12 h1 h2 (fun t ht => ?_) hok.2.1 A7 ⟨k7.view, k7.nd, k7.own, k7.kept, k7.len⟩ φ _ ts (Agr.refl _ _) (by show A.length ≤ A7.length; omega) (by rw [n7]; exact h3) (by rw [n7]; exact h4) hrel (by rw [n7]; exact h6)
 simp only [List.mem_cons, List.not_mem_nil, or_false] at ht
 rcases ht with rfl | rfl | rfl | rfl | rfl
 ·exact ⟨lt g3, f3⟩
 ·exact ⟨lt g4, f4⟩
 ·exact ⟨lt g5, f5⟩
 ·exact ⟨lt g6, f6⟩
 ·exact ⟨lt g7, f7⟩
end
end Go.Vel
end
section
set_option linter.all false
set_option maxRecDepth 20000
set_option maxHeartbeats 60000000
namespace Go.Vel
open Go Go.Conc Go.Proofs

def rowO (Ls : List (List Int)) : AObj := .row (Ls.flatMap seamsC) 121 4
theorem list_atR (Ls : List (List Int)) (i : Nat) (h : i < Ls.length) : takeO (rowO Ls) ((i : Int).toNat * 4) 4 = some (seamsC Ls[i]) := by
 have hle : (i + 1) * 4 ≤ Ls.length * 4 := Nat.mul_le_mul_right _ h
 simp only [takeO, AObj.look, rowO, Int.toNat_natCast]
 rw [if_pos ⟨by omega, by rw [flat_len seamsC 4 (fun _ => rfl)]; omega⟩, flat_take seamsC 4 (fun _ => rfl) _ _ h]

/-! ### arcs -/
def arcK (b : Bk) (low : Nat) : Option Nat := (List.range b.steps.toNat).find? fun k => decide ((withinM b (statesM b) low ((k : Int) + 1)).1 > 0)
def arcA (b : Bk) (low : Nat) : Option (Int × Int) := (arcK b low).map fun k => ((low : Int), (k : Int) + 1)
def msgN (b : Bk) (cg cn low : Nat) : Nat × Value := match arcK b low with
 | some k => (cg, .agg #[.int .i64 low, .int .i64 ((k : Int) + 1)])
 | none => (cn, .bool true)
def arcsOf (b : Bk) (rec : List Nat) : List (Int × Int) := rec.filterMap (arcA b)
def arcC (x : Int × Int) : List AV := [intA x.1, intA x.2]
def narrowM (b : Bk) : Int × Int := firstL ltArc ((arcsOf b (List.range b.steps.toNat)).headD (0, 0)) ((arcsOf b (List.range b.steps.toNat)).drop 1)
theorem ltArc_iff (a c : Int × Int) : ltArc a c = true ↔ a.2 < c.2 ∨ (a.2 = c.2 ∧ a.1 < c.1) := by
 unfold ltArc; simp
theorem firstL_min {o : Int × Int} {xs : List (Int × Int)} : ∀ y ∈ o :: xs, ltArc y (firstL ltArc o xs) = false := by
 induction xs generalizing o with
 | nil =>
  intro y hy
  simp only [List.mem_singleton] at hy
  subst hy
  unfold firstL ltArc; simp
 | cons x xs ih =>
  intro y hy
  show ltArc y (firstL ltArc (if ltArc x o = true then x else o) xs) = false
  have h0 := ih (o := if ltArc x o = true then x else o)
  generalize firstL ltArc (if ltArc x o = true then x else o) xs = m at h0
  rcases List.mem_cons.1 hy with rfl | hy
  ·by_cases hc : ltArc x y = true
   ·rw [if_pos hc] at h0
    have h1 := h0 x List.mem_cons_self
    rw [Bool.eq_false_iff] at h1 ⊢
    intro h2
    apply h1
    rw [ltArc_iff] at hc h2 ⊢
    omega
   ·rw [if_neg hc] at h0
    exact h0 y List.mem_cons_self
  ·rcases List.mem_cons.1 hy with rfl | hy
   ·by_cases hc : ltArc y o = true
    ·rw [if_pos hc] at h0; exact h0 y List.mem_cons_self
    ·rw [if_neg hc] at h0
     have h1 := h0 o List.mem_cons_self
     rw [Bool.eq_false_iff] at h1 ⊢
     intro h2
     apply h1
     rw [ltArc_iff] at hc h2 ⊢
     omega
   ·exact h0 y (List.mem_cons_of_mem _ hy)
theorem firstL_same {o o' : Int × Int} {xs xs' : List (Int × Int)} (h : ∀ y, y ∈ o :: xs ↔ y ∈ o' :: xs') : firstL ltArc o xs = firstL ltArc o' xs' := by
 have h1 := firstL_min (o := o) (xs := xs) _ ((h _).2 (firstL_mem (lt := ltArc) (o := o') (xs := xs')))
 have h2 := firstL_min (o := o') (xs := xs') _ ((h _).1 (firstL_mem (lt := ltArc) (o := o) (xs := xs)))
 rw [Bool.eq_false_iff, ne_eq, ltArc_iff] at h1 h2
 exact Prod.ext (by omega) (by omega)
theorem nodup_sub : ∀ {l1 l2 : List Nat}, l1.Nodup → (∀ x ∈ l1, x ∈ l2) → l1.length ≤ l2.length
 | [], _, _, _ => Nat.zero_le _
 | x :: l1, l2, hn, hs => by
  obtain ⟨h1, h2⟩ := List.nodup_cons.1 hn
  have hx : x ∈ l2 := hs x (by simp)
  have := nodup_sub (l1 := l1) (l2 := l2.erase x) h2 fun y hy => by
   have hne : y ≠ x := fun e => h1 (e ▸ hy)
   exact (List.mem_erase_of_ne hne).2 (hs y (by simp [hy]))
  rw [List.length_erase_of_mem hx] at this
  have : 0 < l2.length := List.length_pos_of_mem hx
  simp; omega
theorem rec_some {N : Nat} {rec : List Nat} (hn : rec.Nodup) (hlt : rec.length < N) : ∃ q, q < N ∧ q ∉ rec := by
 refine Classical.byContradiction fun h => ?_
 have hall : ∀ q ∈ List.range N, q ∈ rec := fun q hq => Classical.byContradiction fun hm => h ⟨q, List.mem_range.1 hq, hm⟩
 have := nodup_sub (List.nodup_range (n := N)) hall
 rw [List.length_range] at this
 omega
theorem rec_all {N : Nat} {rec : List Nat} (hn : rec.Nodup) (hs : ∀ q ∈ rec, q < N) (hl : rec.length = N) : ∀ q, q < N → q ∈ rec := fun q hq => Classical.byContradiction fun hm => by
 have := nodup_sub (l1 := q :: rec) (l2 := List.range N) (List.nodup_cons.2 ⟨hm, hn⟩) fun x hx => by
  rcases List.mem_cons.1 hx with rfl | hx
  ·exact List.mem_range.2 hq
  ·exact List.mem_range.2 (hs x hx)
 rw [List.length_range] at this
 simp at this
 omega
theorem arcsOf_same {b : Bk} {rec : List Nat} {N : Nat} (h : ∀ q, q ∈ rec ↔ q < N) (y : Int × Int) : y ∈ arcsOf b rec ↔ y ∈ arcsOf b (List.range N) := by
 unfold arcsOf
 simp only [List.mem_filterMap, List.mem_range, h]
theorem arcsOf_len (b : Bk) (rec : List Nat) : (arcsOf b rec).length ≤ rec.length := List.length_filterMap_le _ _
theorem arcsOf_S {b : Bk} {rec : List Nat} {q : Nat} {x : Int × Int} (h : arcA b q = some x) : arcsOf b (rec ++ [q]) = arcsOf b rec ++ [x] := by
 unfold arcsOf; rw [List.filterMap_append]; simp [h]
theorem arcsOf_N {b : Bk} {rec : List Nat} {q : Nat} (h : arcA b q = none) : arcsOf b (rec ++ [q]) = arcsOf b rec := by
 unfold arcsOf; rw [List.filterMap_append]; simp [h]
theorem arc_take {xs : List (Int × Int)} {k : Nat} (h : k < xs.length) {e : TypeId} {sz : Nat} : takeO (.row (xs.flatMap arcC) e sz) (k * 2) 2 = some [intA xs[k].1, intA xs[k].2] := by
 have hle : (k + 1) * 2 ≤ xs.length * 2 := Nat.mul_le_mul_right _ h
 have hl := flat_len arcC 2 (fun _ => rfl) xs
 simp only [takeO, AObj.look]
 rw [if_pos ⟨by omega, by omega⟩, flat_take arcC 2 (fun _ => rfl) _ _ h]
 rfl

section
variable {P : Program} {gm : Nat → Option Nat} {T : Goroutine → Hp → Prop} {cg cn : Nat} {msg : Nat → Nat × Value} {Stop : Goroutine → Hp → Prop} {Y : KX P gm T} {ds : List Nat} {k : List Item} {env : List AV} {K : KV} {φ0 : Nat → Loc3} {n0 : Nat}
theorem TK.loopJ {R : Nat → Bool} {c : Code} (I : Nat → List AV → KV → Prop) (N : Nat) (h0 : I 0 env K) (round : ∀ j env K, j ≤ N → I j env K → (∀ env' K', j < N → I (j + 1) env' K' → TK (phX Y cg cn msg Stop (j + 1) R φ0 n0) ds (.inLoop c :: k) env' K') → TK (phX Y cg cn msg Stop j R φ0 n0) ds (.code c :: .inLoop c :: k) env K) :
  TK (phX Y cg cn msg Stop 0 R φ0 n0) ds (.code (.loop c) :: k) env K := by
 have key : ∀ q j env K, N - j = q → j ≤ N → I j env K → TK (phX Y cg cn msg Stop j R φ0 n0) ds (.code c :: .inLoop c :: k) env K := by
  intro q
  induction q with
  | zero => exact fun j env K hq hj hI => round j env K hj hI fun env' K' hlt => absurd hlt (by omega)
  | succ q ih => exact fun j env K hq hj hI => round j env K hj hI fun env' K' hlt hI' => TK.inLoop (ih (j + 1) env' K' (by omega) (by omega) hI')
 exact TK.loop (key N 0 env K rfl (Nat.zero_le _) h0)
theorem TK.loopR {j : Nat} {R : Nat → Bool} {c : Code} (I : Nat → (Nat → Bool) → List AV → KV → Prop) (n : Nat) (h0 : I n R env K) (round : ∀ n R env K, I n R env K → (∀ n' R' env' K', n' < n → I n' R' env' K' → TK (phX Y cg cn msg Stop j R' φ0 n0) ds (.inLoop c :: k) env' K') → TK (phX Y cg cn msg Stop j R φ0 n0) ds (.code c :: .inLoop c :: k) env K) :
  TK (phX Y cg cn msg Stop j R φ0 n0) ds (.code (.loop c) :: k) env K := by
 have key : ∀ n R env K, I n R env K → TK (phX Y cg cn msg Stop j R φ0 n0) ds (.code c :: .inLoop c :: k) env K := by
  intro n
  induction n using Nat.strongRecOn with
  | _ n ih => exact fun R env K hI => round n R env K hI fun n' R' env' K' hlt hI' => TK.inLoop (ih n' hlt R' env' K' hI')
 exact TK.loop (key n R env K h0)
theorem fr_enterD {f : FuncId} {fn : Func} {c : Code} (args : Array Value) (hf : P.funcs[f]? = some fn) (hb : fn.body = some c) : Frame.enter P f args .deferred = fr .deferred f none (args ++ Array.replicate (fn.ntmps - args.size) undef) [] [.code c] := by
 simp [Frame.enter, hf, hb, fr]
/-- A worker's walk, from its birth. -/
theorem tree_of {m : Nat × Value} {g : FuncId} {fn : Func} {c : Code} {cp : List AV} {K : KV} {φ : Nat → Loc3} {A : List AObj} {Hc : Hp} {vs : Array Value} (hg : callable P g = true) (hf : P.funcs[g]? = some fn) (hb : fn.body = some c) (hv : View K A) (hn : (keys K).Nodup) (h3 : RelG gm φ A.length) (h5 : RelH φ A (fun _ => none) Hc) (h6 : RelL φ A.length cp vs)
  (h : ∀ Y : KX P gm (TreeW P (AtSend P m)), Y.X.kd = .deferred → Y.X.ro = none → Y.X.cs = [bot P] → Y.X.f = g → TK Y [] [.code c] (cp ++ List.replicate (fn.ntmps - cp.length) .any) K) : TreeW P (AtSend P m) (born P { target := .fn (.func g) vs, args := #[] }) Hc := by
 have hT := shut_treeW P (AtSend P m)
 refine hT.ctl rfl (fun w => birth hg #[] vs w) rfl ?_
 rw [Array.empty_append, fr_enterD vs hf hb]
 let X : Cx P gm (TreeW P (AtSend P m)) := { main := false, hT, φ0 := φ, n0 := A.length, F := fun _ => none, kd := .deferred, hkd := (fun h => by cases h), f := g, ro := none, cs := [bot P], L := fun _ _ _ _ => False, hL := fun _ _ _ _ _ _ _ _ _ h => h.elim }
 exact h ⟨X, A, keys K⟩ rfl rfl rfl rfl A ⟨hv, hn, fun i hi => .inl hi, fun _ _ _ => rfl, Nat.le_refl _⟩ φ Hc _ (Agr.refl _ _) (Nat.le_refl _) h3 (fun d hd => by cases hd) h5 (relL_undef h6 _)
end


theorem askR_ok {main : Bool} {T : Goroutine → Hp → Prop} (hT : Shut Tryz.prog main T)  {b : Bk} {s e : Nat} {yv : AV} {t : Bool} {Kt : KV} (hse : s ≠ e) (hn : ∀ x ∈ b.seekers, x.name.size ≤ 1000) (hl : b.seen.length ≤ 1000) (hy1 : oneA yv = true) (hth : BkOk b → CallFK Tryz.prog T gmS yv [.agg (bookC b s e)] Kt (fun r K' => r = boolA t ∧ K' = Kt)) :
  CallK Tryz.prog T gmS 67 [.agg (bookC b s e), yv] ((0, checksG) :: (1, saysG) :: (s, saysO b) :: (e, seenO b) :: Kt) (fun r K' => (askM b t ≠ 0 ∧ r = .tup [.agg zeroKn, intA (askM b t)] ∧ K' = (0, checksG) :: (1, saysG) :: (s, saysO b) :: (e, seenO b) :: Kt) ∨ (∃ jl m om, askM b t = 0 ∧ MapOk om (oftM (statesM b)) ∧ r = .tup [.agg (knownC b s e (.row jl (statesM b).length) m), intA 0] ∧ K' = (jl, rowO (statesM b)) :: (m, .raw om) :: (0, checksG) :: (1, saysG) :: (s, saysO b) :: (e, seenO b) :: Kt)) := by
 refine callK_in 59 hT Tryz.func67 fun Y hret => ?_
 refine au [4, 5, 21] ?_
 intro jb hjb
 refine au [22] ?_
 intro jk hjk
 refine au [2, 3, 4, 4, 5, 8] ?_
 refine TK.cl rfl rfl rfl rfl (check_ok hT (b := b) (s := s) (e := e) hn hl) ?_
 rintro r1 K2 ⟨rfl, rfl⟩
 refine au [2, 3, 4, 5, 1, 6, 3, 20] ?_
 refine ⟨fun hc0 => ?_, fun hc0 => ?_⟩
 ·refine au [4, 5, 45, 1, 17, 2, 3] ?_
  refine TK.rt hret (((0, checksG) :: (1, saysG) :: (s, saysO b) :: (e, seenO b) :: Kt)) ?_
  have ha : askM b t = checkM b := if_pos (by simpa using hc0)
  exact .inl ⟨by rw [ha]; simpa using hc0, by rw [ha]; rfl, rfl⟩
 have hc1 : checkM b = 0 := by simpa using hc0
 have hb := bkOk_of hc1
 refine au [12, 4, 5, 8, 43] ?_
 refine TK.newM rfl rfl rfl (n_makeMap rfl) (fun _ => putS rfl (by simp only [List.set]; rfl)) fun jm hjm => ?_
 refine au [45, 22] ?_
 intro jx hjx
 refine au [17, 3, 4, 4, 5, 1, 7, 8] ?_
 refine TK.callF' rfl rfl rfl rfl rfl (hth hb) (.right (.right (.right (.right (.right (.right (.right (.right (.all _))))))))) fun r4 K5 h6 => ?_
 obtain ⟨rfl, hK⟩ := h6
 refine au [] ?_
 rw [hK]
 refine TK.perm (K' := (jx, _) :: (jm, _) :: (0, _) :: (s, _) :: (e, _) :: (jk, _) :: (jb, _) :: (1, _) :: Kt) (List.perm_append_comm (l₁ := Kt)) ?_
 refine au [30, 3, 20] ?_
 refine ⟨fun hc2 => ?_, fun hc2 => ?_⟩
 ·have ht : t = false := by simpa using hc2
  refine au [4, 5, 45, 17, 2, 3] ?_
  refine TK.rt hret (((0, checksG) :: (1, saysG) :: (s, saysO b) :: (e, seenO b) :: Kt)) ?_
  have ha : askM b t = 6 := by unfold askM; rw [if_neg (by simpa using hc1), ht, if_pos rfl]
  exact .inl ⟨by rw [ha]; decide, by rw [ha]; rfl, rfl⟩
 have ht : t = true := by simpa using hc2
 refine au [12, 4, 4, 5, 7, 8] ?_
 refine TK.cl rfl rfl rfl rfl (states_ok hT hse hb) ?_
 rintro r7 K8 ⟨jl, rfl, rfl⟩
 refine au [7, 17, 3, 4, 5, 7, 9, 28, 6, 3, 20] ?_
 refine ⟨fun hc3 => ?_, fun hc3 => ?_⟩
 ·have hst : statesM b = [] := List.eq_nil_of_length_eq_zero (by have h : ((statesM b).length : Int) = 0 := (by simpa using hc3); omega)
  refine au [4, 5, 45, 17, 2, 3] ?_
  refine TK.rt hret (((0, checksG) :: (1, saysG) :: (s, saysO b) :: (e, seenO b) :: Kt)) ?_
  have ha : askM b t = 9 := by unfold askM; rw [if_neg (by simpa using hc1), ht, if_neg (by decide), if_pos hst]
  exact .inl ⟨by rw [ha]; decide, by rw [ha]; rfl, rfl⟩
 have hst : statesM b ≠ [] := fun h => by rw [h] at hc3; exact absurd hc3 (by decide)
 have hLo := statesM_ok hb
 have hLn := statesM_len hb
 refine au [12, 4, 4, 5, 7, 9, 28, 1, 3, 13] ?_
 refine TK.maskL [4, 7, 38, 39, 40] ?_
 refine TK.kp (((jx, _) :: (jm, _) :: (jl, _) :: (jk, _) :: (0, _) :: (1, _) :: (s, _) :: (e, _) :: Kt)) ?_
 refine TK.loopN (fun n env K => ∃ (i : Nat) (om : Obj), n = (statesM b).length - i ∧ i ≤ (statesM b).length ∧ MapOk om (fun q => (((statesM b).take i).flatten.count q : Nat)) ∧ env = slotsA 59 [(4, .ptr jk 0), (7, .ptr jx 0), (38, .row jl (statesM b).length), (39, intA (statesM b).length), (40, intA i)] ∧ K = (jx, .cells (knownC b s e (.row jl (statesM b).length) jm) 107 true) :: (jm, .raw om) :: (jl, rowO (statesM b)) :: (jk, .cells zeroKn 107 true) :: (0, checksG) :: (1, saysG) :: (s, saysO b) :: (e, seenO b) :: Kt) (statesM b).length ⟨0, _, rfl, Nat.zero_le _, mapOk_nil, rfl, rfl⟩ fun n env K hI' hnext => ?_
 obtain ⟨i, om, rfl, hi, hom, rfl, rfl⟩ := hI'
 refine au [4, 5, 6, 3, 4, 20] ?_
 refine ⟨fun hc => ?_, fun hc => ?_⟩
 ·simp only [decide_eq_true_eq] at hc
  have hil : i < (statesM b).length := by omega
  have hSm := hLo _ (List.getElem_mem hil)
  refine au [12, 4, 13, 4, 5, 37] ?_
  refine TK.a rfl (q_load rfl rfl TySz.h (by repeat (first | exact List.Mem.head _ | assumption | apply List.Mem.tail)) (list_atR (statesM b) i hil)) ?_
  refine au [22] ?_
  intro j9 hj9
  refine au [17, 3, 4, 5, 8] ?_
  refine TK.cl rfl rfl rfl rfl (list_ok hT hSm.len fun x hx => ⟨(hSm.mem x hx).1, by have := (hSm.mem x hx).2; have := hb.steps; omega⟩) ?_
  rintro r10 K11 ⟨jr, rfl, rfl⟩
  refine au [28, 1, 3, 13] ?_
  refine TK.maskL [4, 7, 38, 39, 40, 45, 46, 47] ?_
  refine TK.kp (((jr, _) :: (jx, _) :: (jm, _) :: (jl, _) :: (jk, _) :: (0, _) :: (1, _) :: (s, _) :: (e, _) :: Kt)) ?_
  refine TK.loopN (fun n env K => ∃ (q : Nat) (om2 : Obj), n = (statesM b)[i].length - q ∧ q ≤ (statesM b)[i].length ∧ MapOk om2 (fun z => (((((statesM b).take i).flatten ++ (statesM b)[i].take q).count z : Nat) : Int)) ∧ env = slotsA 59 [(4, .ptr jk 0), (7, .ptr jx 0), (38, .row jl (statesM b).length), (39, intA (statesM b).length), (40, intA i), (45, .row jr (statesM b)[i].length), (46, intA (statesM b)[i].length), (47, intA q)] ∧ K = (jr, .row ((statesM b)[i].map intA) 3 1) :: (jx, .cells (knownC b s e (.row jl (statesM b).length) jm) 107 true) :: (jm, .raw om2) :: (jl, rowO (statesM b)) :: (jk, .cells zeroKn 107 true) :: (0, checksG) :: (1, saysG) :: (s, saysO b) :: (e, seenO b) :: Kt) (statesM b)[i].length ⟨0, om, rfl, Nat.zero_le _, by simpa using hom, rfl, rfl⟩ fun n env K hI' hnext2 => ?_
  obtain ⟨q, om2, rfl, hq, hom2, rfl, rfl⟩ := hI'
  refine au [4, 5, 6, 3, 4, 20] ?_
  refine ⟨fun hcq => ?_, fun hcq => ?_⟩
  ·simp only [decide_eq_true_eq] at hcq
   have hlen3 := hSm.len
   have hql : q < (statesM b)[i].length := by omega
   have hcnt : (((statesM b).take i).flatten ++ (statesM b)[i].take q).count (statesM b)[i][q] ≤ 200000 := Nat.le_trans List.count_le_length (by
    have h1 := flatten_len (Ls := (statesM b).take i) (fun R hR => (hLo R (List.mem_of_mem_take hR)).len)
    have h2 : ((statesM b).take i).length ≤ 65536 := by rw [List.length_take]; omega
    have h3 := hSm.len
    rw [List.length_append, List.length_take]; omega)
   refine au [12, 4, 13, 4, 5, 37] ?_
   refine TK.a rfl (q_load1 rfl rfl TySz.h (by repeat (first | exact List.Mem.head _ | assumption | apply List.Mem.tail)) (row_take (i := q) hql rfl)) ?_
   refine au [2, 3, 5, 7, 9, 1] ?_
   refine TK.a rfl (q_lookup rfl rfl rfl Und.h Und.h InfO.h rfl (by repeat (first | exact List.Mem.head _ | assumption | apply List.Mem.tail)) hom2) ?_
   refine au [23] ?_
   refine TK.st rfl rfl rfl (s_mapUpdate rfl rfl rfl rfl Und.h Und.h (by repeat (first | exact List.Mem.head _ | assumption | apply List.Mem.tail)) hom2) (by repeat (first | exact Upd.head | apply Upd.tail)) (putN rfl) ?_
   refine au [3, 14, 5, 23, 1, 3] ?_
   refine TK.maskL [4, 7, 38, 39, 40, 45, 46, 47] ?_
   refine TK.kp (((jr, _) :: (jx, _) :: (jm, _) :: (jl, _) :: (jk, _) :: (0, _) :: (1, _) :: (s, _) :: (e, _) :: Kt)) ?_
   exact hnext2 _ _ _ (by omega) ⟨q + 1, _, rfl, by omega, mapOk_congr (upM_ok hom2) (fun z => (oft_step hil hql z).symm), rfl, rfl⟩
  simp only [decide_eq_false_iff_not] at hcq
  obtain rfl : q = (statesM b)[i].length := by omega
  refine au [16, 14, 5, 23, 1, 3] ?_
  refine TK.maskL [4, 7, 38, 39, 40] ?_
  refine TK.kp (((jx, _) :: (jm, _) :: (jl, _) :: (jk, _) :: (0, _) :: (1, _) :: (s, _) :: (e, _) :: Kt)) ?_
  exact hnext _ _ _ (by omega) ⟨i + 1, om2, rfl, by omega, mapOk_congr hom2 (fun q => by rw [oft_next hil]), rfl, rfl⟩
 simp only [decide_eq_false_iff_not] at hc
 obtain rfl : i = (statesM b).length := by omega
 refine au [16, 4, 5, 8, 17, 2, 3] ?_
 refine TK.rt hret (((jl, _) :: (jm, _) :: (0, checksG) :: (1, saysG) :: (s, saysO b) :: (e, seenO b) :: Kt)) ?_
 have ha : askM b t = 0 := by unfold askM; rw [if_neg (by simpa using hc1), ht, if_neg (by decide), if_neg hst]
 rw [List.take_length] at hom
 exact .inr ⟨jl, jm, _, ha, hom, rfl, rfl⟩

theorem worker_ok {gm : Nat → Option Nat} {m : Nat × Value} {b : Bk} {s e j9 j7 j8 jx jb jl jm low cg cn : Nat} (hb : BkOk b) (hlow : low < b.steps.toNat) (hm : m = msgN b cg cn low) (Y : KX Tryz.prog gm (TreeW Tryz.prog (AtSend Tryz.prog m))) (hkd : Y.X.kd = .deferred) (hro : Y.X.ro = none) (hcs : Y.X.cs = [bot Tryz.prog]) (hf : Y.X.f = 98) :
  TK Y [] [.code ((Tryz.f98.body).getD .skip)] ([.ptr jb 0, .ptr jx 0, .ptr j9 0, .ptr j7 0, .ptr j8 0] ++ List.replicate (Tryz.f98.ntmps - 5) .any) [(j9, .cells [intA low] 3 false), (j7, .cells [.v (.chan (some cg))] 140 false), (j8, .cells [.v (.chan (some cn))] 141 false), (jx, .cells (knownC b s e (.sl jl 0 (statesM b).length) jm) 107 false), (jb, .cells (bookC b s e) 27 false), (jl, listO (statesM b))] := by
 have hT := shut_treeW Tryz.prog (AtSend Tryz.prog m)
 have hLo := statesM_ok hb
 have hLn := statesM_len hb
 have hst16 := hb.steps
 refine TK.norm (he := rfl) (env' := [_, _, _, _, _, _, _, _, _, _, _, _, _, _, _, _, _, _, _, _, _, _, _]) ?_
 refine au [4, 4, 5, 2, 3, 13] ?_
 refine TK.maskL [0, 1, 2, 3, 4, 5] ?_
 refine TK.loopN (fun n env K => ∃ (i : Nat), n = b.steps.toNat - i ∧ i ≤ b.steps.toNat ∧ (∀ q, q < i → ¬ (withinM b (statesM b) low ((q : Int) + 1)).1 > 0) ∧ env = slotsA 23 [(0, .ptr jb 0), (1, .ptr jx 0), (2, .ptr j9 0), (3, .ptr j7 0), (4, .ptr j8 0), (5, intA ((i : Int) + 1))] ∧ K = [(j9, .cells [intA low] 3 false), (j7, .cells [.v (.chan (some cg))] 140 false), (j8, .cells [.v (.chan (some cn))] 141 false), (jx, .cells (knownC b s e (.sl jl 0 (statesM b).length) jm) 107 false), (jb, .cells (bookC b s e) 27 false), (jl, listO (statesM b))]) b.steps.toNat ⟨0, rfl, Nat.zero_le _, fun q hq => absurd hq (Nat.not_lt_zero _), rfl, rfl⟩ fun n env K hI' hnext => ?_
 obtain ⟨i, rfl, hi, hno, rfl, rfl⟩ := hI'
 refine au [4, 4, 5, 1, 7, 9, 6, 3, 20] ?_
 refine ⟨fun hc => ?_, fun hc => ?_⟩
 ·simp only [decide_eq_true_eq] at hc
  have hil : i < b.steps.toNat := by omega
  refine au [12, 4, 13, 4, 5, 8, 9, 1] ?_
  refine TK.cl rfl rfl rfl rfl (within_ok hT (b := b) (s := s) (e := e) (lo := low) (w := (i : Int) + 1) hb.steps hLo hLn (by omega)) ?_
  rintro r1 K2 ⟨rfl, rfl⟩
  refine au [31, 6, 3, 20] ?_
  refine ⟨fun hc1 => ?_, fun hc1 => ?_⟩
  ·have hak : arcK b low = some i := List.find?_range_eq_some.2 ⟨by simpa using hc1, List.mem_range.2 hil, fun q hq => by have := hno q hq; simpa using this⟩
   obtain rfl : m = (cg, .agg #[.int .i64 low, .int .i64 ((i : Int) + 1)]) := by rw [hm]; unfold msgN; rw [hak]
   refine au [4, 5, 9, 9, 1, 39] ?_
   exact TK.sendW rfl rfl rfl rfl rfl rfl hkd hro hcs fun ts => by rw [hf]; exact quits_ret Tryz.func98 rfl
  refine au [12, 14, 5, 1, 23, 2, 3] ?_
  refine TK.maskL [0, 1, 2, 3, 4, 5] ?_
  refine TK.kp [(j9, _), (j7, _), (j8, _), (jx, _), (jb, _), (jl, _)] ?_
  exact hnext _ _ _ (by omega) ⟨i + 1, rfl, by omega, fun q hq => by
   rcases Nat.lt_or_ge q i with h | h
   ·exact hno q h
   ·obtain rfl : q = i := by omega
    simpa using hc1, rfl, rfl⟩
 simp only [decide_eq_false_iff_not] at hc
 obtain rfl : i = b.steps.toNat := by omega
 have hak : arcK b low = none := List.find?_eq_none.2 fun q hq => by have := hno q (List.mem_range.1 hq); simpa using this
 obtain rfl : m = (cn, .bool true) := by rw [hm]; unfold msgN; rw [hak]
 refine au [16, 5, 9] ?_
 exact TK.sendW rfl rfl rfl rfl rfl rfl hkd hro hcs fun ts => by rw [hf]; exact quits_end Tryz.func98 rfl
end Go.Vel
end
section
set_option linter.all false
set_option maxRecDepth 20000
set_option maxHeartbeats 60000000
namespace Go.Vel
open Go Go.Conc Go.Proofs

section
variable {P : Program} {gm : Nat → Option Nat} {T : Goroutine → Hp → Prop} {Y : KX P gm T} {ds : List Nat} {k : List Item} {env : List AV} {K : KV}
theorem TK.share {c : Code} (E : Nat → Nat → Nat → Nat → List AV) (KK : Nat → Nat → Nat → Nat → KV) (h : (∀ a b c d, TK Y ds k (E a b c d) (KK a b c d)) → TK Y ds (.code c :: k) env K) (hc : ∀ a b c d, TK Y ds k (E a b c d) (KK a b c d)) : TK Y ds (.code c :: k) env K := h hc
end
def narrowApi (b : Bk) : (Int × Int) × Bool × Int := if askM b true ≠ 0 then ((0, 0), false, askM b true) else if arcsOf b (List.range b.steps.toNat) = [] then ((0, 0), false, 0) else (narrowM b, true, 0)
theorem flat_ne {Ls : List (List Int)} (h : Ls ≠ []) : Ls.flatMap seamsC ≠ [] := by
 cases Ls with
 | nil => exact absurd rfl h
 | cons S Ls => rw [List.flatMap_cons]; unfold seamsC; simp
theorem msgN_or (b : Bk) (cg cn i : Nat) : (msgN b cg cn i).1 = cg ∨ (msgN b cg cn i).1 = cn := by
 unfold msgN; split
 ·exact .inl rfl
 ·exact .inr rfl
theorem msgN_S {b : Bk} {cg cn q w : Nat} (h : arcK b q = some w) : msgN b cg cn q = (cg, .agg #[.int .i64 q, .int .i64 ((w : Int) + 1)]) ∧ arcA b q = some ((q : Int), (w : Int) + 1) := by
 unfold msgN arcA; rw [h]; exact ⟨rfl, rfl⟩
theorem msgN_N {b : Bk} {cg cn q : Nat} (h : arcK b q = none) : msgN b cg cn q = (cn, .bool true) ∧ arcA b q = none := by
 unfold msgN arcA; rw [h]; exact ⟨rfl, rfl⟩


theorem narrow_ok (tame : Tame Tryz.prog) {Ψ : Goroutine → World → Prop} {b : Bk} {s e : Nat} (hse : s ≠ e) (hn : ∀ x ∈ b.seekers, x.name.size ≤ 1000) (hl : b.seen.length ≤ 1000) : CallK Tryz.prog (BT Tryz.prog Ψ) gmS 46 [.agg (bookC b s e)] [(0, checksG), (1, saysG), (s, saysO b), (e, seenO b)] (fun r K' => r = .tup [intA (narrowApi b).1.1, intA (narrowApi b).1.2, boolA (narrowApi b).2.1, intA (narrowApi b).2.2] ∧ K' = [(0, checksG), (1, saysG), (s, saysO b), (e, seenO b)]) := by
 have hT := shut_BT tame Ψ
 refine callK_in 59 hT Tryz.func46 fun Y hret => ?_
 refine au [4, 5, 21] ?_
 intro jb hjb
 refine au [2, 2, 2, 2, 3, 4, 5, 8] ?_
 refine TK.cl rfl rfl rfl rfl (askR_ok hT (b := b) (s := s) (e := e) (t := true) hse hn hl rfl (fun hb => callFK_fn Cal.h (always_ok hT))) ?_
 rintro r1 K2 h3
 rcases h3 with ⟨hb0, rfl, rfl⟩ | ⟨jl, jm, om, hb0, hom, rfl, rfl⟩
 ·refine au [1, 10, 10, 22] ?_
  intro jx hjx
  refine au [17, 2, 3, 4, 4, 5, 1, 6, 3, 20] ?_
  refine ⟨fun hc0 => ?_, fun hc0 => ?_⟩
  ·
   refine au [4, 5, 1, 2, 2, 2, 2, 3] ?_
   refine TK.rt hret [(0, _), (1, _), (s, _), (e, _)] ?_
   exact ⟨by unfold narrowApi; rw [if_pos hb0]; rfl, rfl⟩
  exact absurd (by simpa using hc0) hb0
 ·refine au [1, 10, 10, 22] ?_
  intro jx hjx
  refine au [17, 2, 3, 4, 4, 5, 1, 6, 3, 20] ?_
  refine ⟨fun hc0 => ?_, fun hc0 => ?_⟩
  ·exact absurd hc0 (by decide)
  obtain ⟨hck, hth, hne⟩ := ask_zero hb0
  have hb := bkOk_of hck
  have hLo := statesM_ok hb
  have hLn := statesM_len hb
  refine au [12, 4] ?_
  refine TK.share (fun jc1 jc2 j7 j8 => slotsA 59 [(1, .ptr jb 0), (6, .ptr jx 0), (7, .ptr j7 0), (8, .ptr j8 0)]) (fun jc1 jc2 j7 j8 => (jc1, .raw (.chan 0 #[] false 0 0 false)) :: (jc2, .raw (.chan 0 #[] false 0 0 false)) :: (j7, .cells [.chan jc1] 140 true) :: (j8, .cells [.chan jc2] 141 true) :: (jx, .cells (knownC b s e (.row jl (statesM b).length) jm) 107 true) :: (jb, .cells (bookC b s e) 27 true) :: (jl, rowO (statesM b)) :: (0, checksG) :: (1, saysG) :: (s, saysO b) :: (e, seenO b) :: []) (fun hcont => ?_) (fun jc1 jc2 j7 j8 => ?_)
  ·refine TK.draw [0, 1, 2, 3, 4, 5] [0, 1, 2, 3, 4, 5] (by kernel_rfl) (by kernel_rfl) ?_
   refine TD.cM [0, 1, 2, 3] rfl ?_
   intro mm hmm
   simp only [List.mem_cons, List.not_mem_nil, or_false] at hmm
   rcases hmm with rfl | rfl | rfl | rfl
   ·refine ⟨[], _, [], [1, 2, 3, 4, 5], rfl, rfl, rfl, rfl, ?_⟩
    refine exK_newC rfl (n_makeChan rfl Und.h InfO.h) (fun _ => putS rfl (by simp only [List.set]; rfl)) (by simp) fun jc1 hjc1 => ?_
    refine TD.cM [1, 2, 3] rfl ?_
    intro mm hmm
    simp only [List.mem_cons, List.not_mem_nil, or_false] at hmm
    rcases hmm with rfl | rfl | rfl
    ·refine ⟨[], _, [], [2, 3, 4, 5], rfl, rfl, rfl, rfl, ?_⟩
     refine exK_newC rfl (n_makeChan rfl Und.h InfO.h) (fun _ => putS rfl (by simp only [List.set]; rfl)) (by simp) fun jc2 hjc2 => ?_
     refine TD.c2 (i1 := 2) (i2 := 3) (pend1 := []) (pend2 := []) (L1 := [3, 4, 5]) (L2 := [2, 4, 5]) [] [] rfl rfl rfl rfl rfl rfl rfl ?_ ?_
     ·refine exK_newP rfl (n_allocA rfl TyZA.h) (fun _ => putS rfl (by simp only [List.set]; rfl)) (by simp) fun j7 hj7 => ?_
      refine TD.cnewP (pend' := []) [] rfl rfl rfl rfl rfl (n_allocA rfl TyZA.h) (fun _ => putS rfl (by simp only [List.set]; rfl)) (by simp) fun j8 hj8 => ?_
      refine TD.s (pend' := []) [7, 21] rfl rfl (q_store rfl rfl TySz.h rfl rfl (by repeat (first | exact List.Mem.head _ | assumption | apply List.Mem.tail)) rfl) ?_
      refine TD.s (pend' := []) [8, 22] rfl rfl (q_store rfl rfl TySz.h rfl rfl (by repeat (first | exact List.Mem.head _ | assumption | apply List.Mem.tail)) rfl) ?_
      refine TD.fin ?_
      refine TK.maskL [1, 6, 7, 8] ?_
      refine TK.kp ((jc1, _) :: (jc2, _) :: (j7, _) :: (j8, _) :: (jx, _) :: (jb, _) :: (jl, _) :: (0, _) :: (1, _) :: (s, _) :: (e, _) :: []) ?_
      exact hcont jc1 jc2 j7 j8
     ·refine exK_newP rfl (n_allocA rfl TyZA.h) (fun _ => putS rfl (by simp only [List.set]; rfl)) (by simp) fun j8 hj8 => ?_
      refine TD.cnewP (pend' := []) [] rfl rfl rfl rfl rfl (n_allocA rfl TyZA.h) (fun _ => putS rfl (by simp only [List.set]; rfl)) (by simp) fun j7 hj7 => ?_
      refine TD.s (pend' := []) [7, 21] rfl rfl (q_store rfl rfl TySz.h rfl rfl (by repeat (first | exact List.Mem.head _ | assumption | apply List.Mem.tail)) rfl) ?_
      refine TD.s (pend' := []) [8, 22] rfl rfl (q_store rfl rfl TySz.h rfl rfl (by repeat (first | exact List.Mem.head _ | assumption | apply List.Mem.tail)) rfl) ?_
      refine TD.fin ?_
      refine TK.maskL [1, 6, 7, 8] ?_
      refine TK.kp ((jc1, _) :: (jc2, _) :: (j7, _) :: (j8, _) :: (jx, _) :: (jb, _) :: (jl, _) :: (0, _) :: (1, _) :: (s, _) :: (e, _) :: []) ?_
      exact hcont jc1 jc2 j7 j8
    ·refine ⟨[], _, [], [1, 3, 4, 5], rfl, rfl, rfl, rfl, ?_⟩
     refine exK_newP rfl (n_allocA rfl TyZA.h) (fun _ => putS rfl (by simp only [List.set]; rfl)) (by simp) fun j7 hj7 => ?_
     refine TD.c2 (i1 := 1) (i2 := 3) (pend1 := []) (pend2 := []) (L1 := [3, 4, 5]) (L2 := [1, 4, 5]) [] [] rfl rfl rfl rfl rfl rfl rfl ?_ ?_
     ·refine exK_newC rfl (n_makeChan rfl Und.h InfO.h) (fun _ => putS rfl (by simp only [List.set]; rfl)) (by simp) fun jc2 hjc2 => ?_
      refine TD.cnewP (pend' := []) [] rfl rfl rfl rfl rfl (n_allocA rfl TyZA.h) (fun _ => putS rfl (by simp only [List.set]; rfl)) (by simp) fun j8 hj8 => ?_
      refine TD.s (pend' := []) [7, 21] rfl rfl (q_store rfl rfl TySz.h rfl rfl (by repeat (first | exact List.Mem.head _ | assumption | apply List.Mem.tail)) rfl) ?_
      refine TD.s (pend' := []) [8, 22] rfl rfl (q_store rfl rfl TySz.h rfl rfl (by repeat (first | exact List.Mem.head _ | assumption | apply List.Mem.tail)) rfl) ?_
      refine TD.fin ?_
      refine TK.maskL [1, 6, 7, 8] ?_
      refine TK.kp ((jc1, _) :: (jc2, _) :: (j7, _) :: (j8, _) :: (jx, _) :: (jb, _) :: (jl, _) :: (0, _) :: (1, _) :: (s, _) :: (e, _) :: []) ?_
      exact hcont jc1 jc2 j7 j8
     ·refine exK_newP rfl (n_allocA rfl TyZA.h) (fun _ => putS rfl (by simp only [List.set]; rfl)) (by simp) fun j8 hj8 => ?_
      refine TD.c2 (i1 := 1) (i2 := 4) (pend1 := []) (pend2 := []) (L1 := [4, 5]) (L2 := [1, 5]) [] [7, 21] rfl rfl rfl rfl rfl rfl rfl ?_ ?_
      ·refine exK_newC rfl (n_makeChan rfl Und.h InfO.h) (fun _ => putS rfl (by simp only [List.set]; rfl)) (by simp) fun jc2 hjc2 => ?_
       refine TD.s (pend' := []) [7, 21] rfl rfl (q_store rfl rfl TySz.h rfl rfl (by repeat (first | exact List.Mem.head _ | assumption | apply List.Mem.tail)) rfl) ?_
       refine TD.s (pend' := []) [8, 22] rfl rfl (q_store rfl rfl TySz.h rfl rfl (by repeat (first | exact List.Mem.head _ | assumption | apply List.Mem.tail)) rfl) ?_
       refine TD.fin ?_
       refine TK.maskL [1, 6, 7, 8] ?_
       refine TK.kp ((jc1, _) :: (jc2, _) :: (j7, _) :: (j8, _) :: (jx, _) :: (jb, _) :: (jl, _) :: (0, _) :: (1, _) :: (s, _) :: (e, _) :: []) ?_
       exact hcont jc1 jc2 j7 j8
      ·refine exK_st rfl (q_store rfl rfl TySz.h rfl rfl (by repeat (first | exact List.Mem.head _ | assumption | apply List.Mem.tail)) rfl) (by repeat (first | exact Upd.head | apply Upd.tail)) (putN rfl) (by simp) ?_
       refine TD.c (pend' := []) [] rfl rfl rfl rfl (exK_newC rfl (n_makeChan rfl Und.h InfO.h) (fun _ => putS rfl (by simp only [List.set]; rfl)) (by simp) fun jc2 hjc2 => ?_)
       refine TD.s (pend' := []) [8, 22] rfl rfl (q_store rfl rfl TySz.h rfl rfl (by repeat (first | exact List.Mem.head _ | assumption | apply List.Mem.tail)) rfl) ?_
       refine TD.fin ?_
       refine TK.maskL [1, 6, 7, 8] ?_
       refine TK.kp ((jc1, _) :: (jc2, _) :: (j7, _) :: (j8, _) :: (jx, _) :: (jb, _) :: (jl, _) :: (0, _) :: (1, _) :: (s, _) :: (e, _) :: []) ?_
       exact hcont jc1 jc2 j7 j8
    ·refine ⟨[], _, [], [1, 2, 4, 5], rfl, rfl, rfl, rfl, ?_⟩
     refine exK_newP rfl (n_allocA rfl TyZA.h) (fun _ => putS rfl (by simp only [List.set]; rfl)) (by simp) fun j8 hj8 => ?_
     refine TD.c2 (i1 := 1) (i2 := 2) (pend1 := []) (pend2 := []) (L1 := [2, 4, 5]) (L2 := [1, 4, 5]) [] [] rfl rfl rfl rfl rfl rfl rfl ?_ ?_
     ·refine exK_newC rfl (n_makeChan rfl Und.h InfO.h) (fun _ => putS rfl (by simp only [List.set]; rfl)) (by simp) fun jc2 hjc2 => ?_
      refine TD.cnewP (pend' := []) [] rfl rfl rfl rfl rfl (n_allocA rfl TyZA.h) (fun _ => putS rfl (by simp only [List.set]; rfl)) (by simp) fun j7 hj7 => ?_
      refine TD.s (pend' := []) [7, 21] rfl rfl (q_store rfl rfl TySz.h rfl rfl (by repeat (first | exact List.Mem.head _ | assumption | apply List.Mem.tail)) rfl) ?_
      refine TD.s (pend' := []) [8, 22] rfl rfl (q_store rfl rfl TySz.h rfl rfl (by repeat (first | exact List.Mem.head _ | assumption | apply List.Mem.tail)) rfl) ?_
      refine TD.fin ?_
      refine TK.maskL [1, 6, 7, 8] ?_
      refine TK.kp ((jc1, _) :: (jc2, _) :: (j7, _) :: (j8, _) :: (jx, _) :: (jb, _) :: (jl, _) :: (0, _) :: (1, _) :: (s, _) :: (e, _) :: []) ?_
      exact hcont jc1 jc2 j7 j8
     ·refine exK_newP rfl (n_allocA rfl TyZA.h) (fun _ => putS rfl (by simp only [List.set]; rfl)) (by simp) fun j7 hj7 => ?_
      refine TD.c2 (i1 := 1) (i2 := 4) (pend1 := []) (pend2 := []) (L1 := [4, 5]) (L2 := [1, 5]) [] [7, 21] rfl rfl rfl rfl rfl rfl rfl ?_ ?_
      ·refine exK_newC rfl (n_makeChan rfl Und.h InfO.h) (fun _ => putS rfl (by simp only [List.set]; rfl)) (by simp) fun jc2 hjc2 => ?_
       refine TD.s (pend' := []) [7, 21] rfl rfl (q_store rfl rfl TySz.h rfl rfl (by repeat (first | exact List.Mem.head _ | assumption | apply List.Mem.tail)) rfl) ?_
       refine TD.s (pend' := []) [8, 22] rfl rfl (q_store rfl rfl TySz.h rfl rfl (by repeat (first | exact List.Mem.head _ | assumption | apply List.Mem.tail)) rfl) ?_
       refine TD.fin ?_
       refine TK.maskL [1, 6, 7, 8] ?_
       refine TK.kp ((jc1, _) :: (jc2, _) :: (j7, _) :: (j8, _) :: (jx, _) :: (jb, _) :: (jl, _) :: (0, _) :: (1, _) :: (s, _) :: (e, _) :: []) ?_
       exact hcont jc1 jc2 j7 j8
      ·refine exK_st rfl (q_store rfl rfl TySz.h rfl rfl (by repeat (first | exact List.Mem.head _ | assumption | apply List.Mem.tail)) rfl) (by repeat (first | exact Upd.head | apply Upd.tail)) (putN rfl) (by simp) ?_
       refine TD.c (pend' := []) [] rfl rfl rfl rfl (exK_newC rfl (n_makeChan rfl Und.h InfO.h) (fun _ => putS rfl (by simp only [List.set]; rfl)) (by simp) fun jc2 hjc2 => ?_)
       refine TD.s (pend' := []) [8, 22] rfl rfl (q_store rfl rfl TySz.h rfl rfl (by repeat (first | exact List.Mem.head _ | assumption | apply List.Mem.tail)) rfl) ?_
       refine TD.fin ?_
       refine TK.maskL [1, 6, 7, 8] ?_
       refine TK.kp ((jc1, _) :: (jc2, _) :: (j7, _) :: (j8, _) :: (jx, _) :: (jb, _) :: (jl, _) :: (0, _) :: (1, _) :: (s, _) :: (e, _) :: []) ?_
       exact hcont jc1 jc2 j7 j8
   ·refine ⟨[], _, [], [0, 2, 3, 4, 5], rfl, rfl, rfl, rfl, ?_⟩
    refine exK_newC rfl (n_makeChan rfl Und.h InfO.h) (fun _ => putS rfl (by simp only [List.set]; rfl)) (by simp) fun jc2 hjc2 => ?_
    refine TD.cM [0, 2, 3] rfl ?_
    intro mm hmm
    simp only [List.mem_cons, List.not_mem_nil, or_false] at hmm
    rcases hmm with rfl | rfl | rfl
    ·refine ⟨[], _, [], [2, 3, 4, 5], rfl, rfl, rfl, rfl, ?_⟩
     refine exK_newC rfl (n_makeChan rfl Und.h InfO.h) (fun _ => putS rfl (by simp only [List.set]; rfl)) (by simp) fun jc1 hjc1 => ?_
     refine TD.c2 (i1 := 2) (i2 := 3) (pend1 := []) (pend2 := []) (L1 := [3, 4, 5]) (L2 := [2, 4, 5]) [] [] rfl rfl rfl rfl rfl rfl rfl ?_ ?_
     ·refine exK_newP rfl (n_allocA rfl TyZA.h) (fun _ => putS rfl (by simp only [List.set]; rfl)) (by simp) fun j7 hj7 => ?_
      refine TD.cnewP (pend' := []) [] rfl rfl rfl rfl rfl (n_allocA rfl TyZA.h) (fun _ => putS rfl (by simp only [List.set]; rfl)) (by simp) fun j8 hj8 => ?_
      refine TD.s (pend' := []) [7, 21] rfl rfl (q_store rfl rfl TySz.h rfl rfl (by repeat (first | exact List.Mem.head _ | assumption | apply List.Mem.tail)) rfl) ?_
      refine TD.s (pend' := []) [8, 22] rfl rfl (q_store rfl rfl TySz.h rfl rfl (by repeat (first | exact List.Mem.head _ | assumption | apply List.Mem.tail)) rfl) ?_
      refine TD.fin ?_
      refine TK.maskL [1, 6, 7, 8] ?_
      refine TK.kp ((jc1, _) :: (jc2, _) :: (j7, _) :: (j8, _) :: (jx, _) :: (jb, _) :: (jl, _) :: (0, _) :: (1, _) :: (s, _) :: (e, _) :: []) ?_
      exact hcont jc1 jc2 j7 j8
     ·refine exK_newP rfl (n_allocA rfl TyZA.h) (fun _ => putS rfl (by simp only [List.set]; rfl)) (by simp) fun j8 hj8 => ?_
      refine TD.cnewP (pend' := []) [] rfl rfl rfl rfl rfl (n_allocA rfl TyZA.h) (fun _ => putS rfl (by simp only [List.set]; rfl)) (by simp) fun j7 hj7 => ?_
      refine TD.s (pend' := []) [7, 21] rfl rfl (q_store rfl rfl TySz.h rfl rfl (by repeat (first | exact List.Mem.head _ | assumption | apply List.Mem.tail)) rfl) ?_
      refine TD.s (pend' := []) [8, 22] rfl rfl (q_store rfl rfl TySz.h rfl rfl (by repeat (first | exact List.Mem.head _ | assumption | apply List.Mem.tail)) rfl) ?_
      refine TD.fin ?_
      refine TK.maskL [1, 6, 7, 8] ?_
      refine TK.kp ((jc1, _) :: (jc2, _) :: (j7, _) :: (j8, _) :: (jx, _) :: (jb, _) :: (jl, _) :: (0, _) :: (1, _) :: (s, _) :: (e, _) :: []) ?_
      exact hcont jc1 jc2 j7 j8
    ·refine ⟨[], _, [], [0, 3, 4, 5], rfl, rfl, rfl, rfl, ?_⟩
     refine exK_newP rfl (n_allocA rfl TyZA.h) (fun _ => putS rfl (by simp only [List.set]; rfl)) (by simp) fun j7 hj7 => ?_
     refine TD.c2 (i1 := 0) (i2 := 3) (pend1 := []) (pend2 := []) (L1 := [3, 4, 5]) (L2 := [0, 4, 5]) [] [] rfl rfl rfl rfl rfl rfl rfl ?_ ?_
     ·refine exK_newC rfl (n_makeChan rfl Und.h InfO.h) (fun _ => putS rfl (by simp only [List.set]; rfl)) (by simp) fun jc1 hjc1 => ?_
      refine TD.cnewP (pend' := []) [] rfl rfl rfl rfl rfl (n_allocA rfl TyZA.h) (fun _ => putS rfl (by simp only [List.set]; rfl)) (by simp) fun j8 hj8 => ?_
      refine TD.s (pend' := []) [7, 21] rfl rfl (q_store rfl rfl TySz.h rfl rfl (by repeat (first | exact List.Mem.head _ | assumption | apply List.Mem.tail)) rfl) ?_
      refine TD.s (pend' := []) [8, 22] rfl rfl (q_store rfl rfl TySz.h rfl rfl (by repeat (first | exact List.Mem.head _ | assumption | apply List.Mem.tail)) rfl) ?_
      refine TD.fin ?_
      refine TK.maskL [1, 6, 7, 8] ?_
      refine TK.kp ((jc1, _) :: (jc2, _) :: (j7, _) :: (j8, _) :: (jx, _) :: (jb, _) :: (jl, _) :: (0, _) :: (1, _) :: (s, _) :: (e, _) :: []) ?_
      exact hcont jc1 jc2 j7 j8
     ·refine exK_newP rfl (n_allocA rfl TyZA.h) (fun _ => putS rfl (by simp only [List.set]; rfl)) (by simp) fun j8 hj8 => ?_
      refine TD.c (pend' := []) [] rfl rfl rfl rfl (exK_newC rfl (n_makeChan rfl Und.h InfO.h) (fun _ => putS rfl (by simp only [List.set]; rfl)) (by simp) fun jc1 hjc1 => ?_)
      refine TD.s (pend' := []) [7, 21] rfl rfl (q_store rfl rfl TySz.h rfl rfl (by repeat (first | exact List.Mem.head _ | assumption | apply List.Mem.tail)) rfl) ?_
      refine TD.s (pend' := []) [8, 22] rfl rfl (q_store rfl rfl TySz.h rfl rfl (by repeat (first | exact List.Mem.head _ | assumption | apply List.Mem.tail)) rfl) ?_
      refine TD.fin ?_
      refine TK.maskL [1, 6, 7, 8] ?_
      refine TK.kp ((jc1, _) :: (jc2, _) :: (j7, _) :: (j8, _) :: (jx, _) :: (jb, _) :: (jl, _) :: (0, _) :: (1, _) :: (s, _) :: (e, _) :: []) ?_
      exact hcont jc1 jc2 j7 j8
    ·refine ⟨[], _, [], [0, 2, 4, 5], rfl, rfl, rfl, rfl, ?_⟩
     refine exK_newP rfl (n_allocA rfl TyZA.h) (fun _ => putS rfl (by simp only [List.set]; rfl)) (by simp) fun j8 hj8 => ?_
     refine TD.c2 (i1 := 0) (i2 := 2) (pend1 := []) (pend2 := []) (L1 := [2, 4, 5]) (L2 := [0, 4, 5]) [] [] rfl rfl rfl rfl rfl rfl rfl ?_ ?_
     ·refine exK_newC rfl (n_makeChan rfl Und.h InfO.h) (fun _ => putS rfl (by simp only [List.set]; rfl)) (by simp) fun jc1 hjc1 => ?_
      refine TD.cnewP (pend' := []) [] rfl rfl rfl rfl rfl (n_allocA rfl TyZA.h) (fun _ => putS rfl (by simp only [List.set]; rfl)) (by simp) fun j7 hj7 => ?_
      refine TD.s (pend' := []) [7, 21] rfl rfl (q_store rfl rfl TySz.h rfl rfl (by repeat (first | exact List.Mem.head _ | assumption | apply List.Mem.tail)) rfl) ?_
      refine TD.s (pend' := []) [8, 22] rfl rfl (q_store rfl rfl TySz.h rfl rfl (by repeat (first | exact List.Mem.head _ | assumption | apply List.Mem.tail)) rfl) ?_
      refine TD.fin ?_
      refine TK.maskL [1, 6, 7, 8] ?_
      refine TK.kp ((jc1, _) :: (jc2, _) :: (j7, _) :: (j8, _) :: (jx, _) :: (jb, _) :: (jl, _) :: (0, _) :: (1, _) :: (s, _) :: (e, _) :: []) ?_
      exact hcont jc1 jc2 j7 j8
     ·refine exK_newP rfl (n_allocA rfl TyZA.h) (fun _ => putS rfl (by simp only [List.set]; rfl)) (by simp) fun j7 hj7 => ?_
      refine TD.c (pend' := []) [] rfl rfl rfl rfl (exK_newC rfl (n_makeChan rfl Und.h InfO.h) (fun _ => putS rfl (by simp only [List.set]; rfl)) (by simp) fun jc1 hjc1 => ?_)
      refine TD.s (pend' := []) [7, 21] rfl rfl (q_store rfl rfl TySz.h rfl rfl (by repeat (first | exact List.Mem.head _ | assumption | apply List.Mem.tail)) rfl) ?_
      refine TD.s (pend' := []) [8, 22] rfl rfl (q_store rfl rfl TySz.h rfl rfl (by repeat (first | exact List.Mem.head _ | assumption | apply List.Mem.tail)) rfl) ?_
      refine TD.fin ?_
      refine TK.maskL [1, 6, 7, 8] ?_
      refine TK.kp ((jc1, _) :: (jc2, _) :: (j7, _) :: (j8, _) :: (jx, _) :: (jb, _) :: (jl, _) :: (0, _) :: (1, _) :: (s, _) :: (e, _) :: []) ?_
      exact hcont jc1 jc2 j7 j8
   ·refine ⟨[], _, [], [0, 1, 3, 4, 5], rfl, rfl, rfl, rfl, ?_⟩
    refine exK_newP rfl (n_allocA rfl TyZA.h) (fun _ => putS rfl (by simp only [List.set]; rfl)) (by simp) fun j7 hj7 => ?_
    refine TD.cM [0, 1, 3] rfl ?_
    intro mm hmm
    simp only [List.mem_cons, List.not_mem_nil, or_false] at hmm
    rcases hmm with rfl | rfl | rfl
    ·refine ⟨[], _, [], [1, 3, 4, 5], rfl, rfl, rfl, rfl, ?_⟩
     refine exK_newC rfl (n_makeChan rfl Und.h InfO.h) (fun _ => putS rfl (by simp only [List.set]; rfl)) (by simp) fun jc1 hjc1 => ?_
     refine TD.c2 (i1 := 1) (i2 := 3) (pend1 := []) (pend2 := []) (L1 := [3, 4, 5]) (L2 := [1, 4, 5]) [] [] rfl rfl rfl rfl rfl rfl rfl ?_ ?_
     ·refine exK_newC rfl (n_makeChan rfl Und.h InfO.h) (fun _ => putS rfl (by simp only [List.set]; rfl)) (by simp) fun jc2 hjc2 => ?_
      refine TD.cnewP (pend' := []) [] rfl rfl rfl rfl rfl (n_allocA rfl TyZA.h) (fun _ => putS rfl (by simp only [List.set]; rfl)) (by simp) fun j8 hj8 => ?_
      refine TD.s (pend' := []) [7, 21] rfl rfl (q_store rfl rfl TySz.h rfl rfl (by repeat (first | exact List.Mem.head _ | assumption | apply List.Mem.tail)) rfl) ?_
      refine TD.s (pend' := []) [8, 22] rfl rfl (q_store rfl rfl TySz.h rfl rfl (by repeat (first | exact List.Mem.head _ | assumption | apply List.Mem.tail)) rfl) ?_
      refine TD.fin ?_
      refine TK.maskL [1, 6, 7, 8] ?_
      refine TK.kp ((jc1, _) :: (jc2, _) :: (j7, _) :: (j8, _) :: (jx, _) :: (jb, _) :: (jl, _) :: (0, _) :: (1, _) :: (s, _) :: (e, _) :: []) ?_
      exact hcont jc1 jc2 j7 j8
     ·refine exK_newP rfl (n_allocA rfl TyZA.h) (fun _ => putS rfl (by simp only [List.set]; rfl)) (by simp) fun j8 hj8 => ?_
      refine TD.c2 (i1 := 1) (i2 := 4) (pend1 := []) (pend2 := []) (L1 := [4, 5]) (L2 := [1, 5]) [] [7, 21] rfl rfl rfl rfl rfl rfl rfl ?_ ?_
      ·refine exK_newC rfl (n_makeChan rfl Und.h InfO.h) (fun _ => putS rfl (by simp only [List.set]; rfl)) (by simp) fun jc2 hjc2 => ?_
       refine TD.s (pend' := []) [7, 21] rfl rfl (q_store rfl rfl TySz.h rfl rfl (by repeat (first | exact List.Mem.head _ | assumption | apply List.Mem.tail)) rfl) ?_
       refine TD.s (pend' := []) [8, 22] rfl rfl (q_store rfl rfl TySz.h rfl rfl (by repeat (first | exact List.Mem.head _ | assumption | apply List.Mem.tail)) rfl) ?_
       refine TD.fin ?_
       refine TK.maskL [1, 6, 7, 8] ?_
       refine TK.kp ((jc1, _) :: (jc2, _) :: (j7, _) :: (j8, _) :: (jx, _) :: (jb, _) :: (jl, _) :: (0, _) :: (1, _) :: (s, _) :: (e, _) :: []) ?_
       exact hcont jc1 jc2 j7 j8
      ·refine exK_st rfl (q_store rfl rfl TySz.h rfl rfl (by repeat (first | exact List.Mem.head _ | assumption | apply List.Mem.tail)) rfl) (by repeat (first | exact Upd.head | apply Upd.tail)) (putN rfl) (by simp) ?_
       refine TD.c (pend' := []) [] rfl rfl rfl rfl (exK_newC rfl (n_makeChan rfl Und.h InfO.h) (fun _ => putS rfl (by simp only [List.set]; rfl)) (by simp) fun jc2 hjc2 => ?_)
       refine TD.s (pend' := []) [8, 22] rfl rfl (q_store rfl rfl TySz.h rfl rfl (by repeat (first | exact List.Mem.head _ | assumption | apply List.Mem.tail)) rfl) ?_
       refine TD.fin ?_
       refine TK.maskL [1, 6, 7, 8] ?_
       refine TK.kp ((jc1, _) :: (jc2, _) :: (j7, _) :: (j8, _) :: (jx, _) :: (jb, _) :: (jl, _) :: (0, _) :: (1, _) :: (s, _) :: (e, _) :: []) ?_
       exact hcont jc1 jc2 j7 j8
    ·refine ⟨[], _, [], [0, 3, 4, 5], rfl, rfl, rfl, rfl, ?_⟩
     refine exK_newC rfl (n_makeChan rfl Und.h InfO.h) (fun _ => putS rfl (by simp only [List.set]; rfl)) (by simp) fun jc2 hjc2 => ?_
     refine TD.c2 (i1 := 0) (i2 := 3) (pend1 := []) (pend2 := []) (L1 := [3, 4, 5]) (L2 := [0, 4, 5]) [] [] rfl rfl rfl rfl rfl rfl rfl ?_ ?_
     ·refine exK_newC rfl (n_makeChan rfl Und.h InfO.h) (fun _ => putS rfl (by simp only [List.set]; rfl)) (by simp) fun jc1 hjc1 => ?_
      refine TD.cnewP (pend' := []) [] rfl rfl rfl rfl rfl (n_allocA rfl TyZA.h) (fun _ => putS rfl (by simp only [List.set]; rfl)) (by simp) fun j8 hj8 => ?_
      refine TD.s (pend' := []) [7, 21] rfl rfl (q_store rfl rfl TySz.h rfl rfl (by repeat (first | exact List.Mem.head _ | assumption | apply List.Mem.tail)) rfl) ?_
      refine TD.s (pend' := []) [8, 22] rfl rfl (q_store rfl rfl TySz.h rfl rfl (by repeat (first | exact List.Mem.head _ | assumption | apply List.Mem.tail)) rfl) ?_
      refine TD.fin ?_
      refine TK.maskL [1, 6, 7, 8] ?_
      refine TK.kp ((jc1, _) :: (jc2, _) :: (j7, _) :: (j8, _) :: (jx, _) :: (jb, _) :: (jl, _) :: (0, _) :: (1, _) :: (s, _) :: (e, _) :: []) ?_
      exact hcont jc1 jc2 j7 j8
     ·refine exK_newP rfl (n_allocA rfl TyZA.h) (fun _ => putS rfl (by simp only [List.set]; rfl)) (by simp) fun j8 hj8 => ?_
      refine TD.c (pend' := []) [] rfl rfl rfl rfl (exK_newC rfl (n_makeChan rfl Und.h InfO.h) (fun _ => putS rfl (by simp only [List.set]; rfl)) (by simp) fun jc1 hjc1 => ?_)
      refine TD.s (pend' := []) [7, 21] rfl rfl (q_store rfl rfl TySz.h rfl rfl (by repeat (first | exact List.Mem.head _ | assumption | apply List.Mem.tail)) rfl) ?_
      refine TD.s (pend' := []) [8, 22] rfl rfl (q_store rfl rfl TySz.h rfl rfl (by repeat (first | exact List.Mem.head _ | assumption | apply List.Mem.tail)) rfl) ?_
      refine TD.fin ?_
      refine TK.maskL [1, 6, 7, 8] ?_
      refine TK.kp ((jc1, _) :: (jc2, _) :: (j7, _) :: (j8, _) :: (jx, _) :: (jb, _) :: (jl, _) :: (0, _) :: (1, _) :: (s, _) :: (e, _) :: []) ?_
      exact hcont jc1 jc2 j7 j8
    ·refine ⟨[], _, [], [0, 1, 4, 5], rfl, rfl, rfl, rfl, ?_⟩
     refine exK_newP rfl (n_allocA rfl TyZA.h) (fun _ => putS rfl (by simp only [List.set]; rfl)) (by simp) fun j8 hj8 => ?_
     refine TD.c2 (i1 := 0) (i2 := 1) (pend1 := []) (pend2 := []) (L1 := [1, 4, 5]) (L2 := [0, 4, 5]) [] [] rfl rfl rfl rfl rfl rfl rfl ?_ ?_
     ·refine exK_newC rfl (n_makeChan rfl Und.h InfO.h) (fun _ => putS rfl (by simp only [List.set]; rfl)) (by simp) fun jc1 hjc1 => ?_
      refine TD.c2 (i1 := 1) (i2 := 4) (pend1 := []) (pend2 := []) (L1 := [4, 5]) (L2 := [1, 5]) [] [7, 21] rfl rfl rfl rfl rfl rfl rfl ?_ ?_
      ·refine exK_newC rfl (n_makeChan rfl Und.h InfO.h) (fun _ => putS rfl (by simp only [List.set]; rfl)) (by simp) fun jc2 hjc2 => ?_
       refine TD.s (pend' := []) [7, 21] rfl rfl (q_store rfl rfl TySz.h rfl rfl (by repeat (first | exact List.Mem.head _ | assumption | apply List.Mem.tail)) rfl) ?_
       refine TD.s (pend' := []) [8, 22] rfl rfl (q_store rfl rfl TySz.h rfl rfl (by repeat (first | exact List.Mem.head _ | assumption | apply List.Mem.tail)) rfl) ?_
       refine TD.fin ?_
       refine TK.maskL [1, 6, 7, 8] ?_
       refine TK.kp ((jc1, _) :: (jc2, _) :: (j7, _) :: (j8, _) :: (jx, _) :: (jb, _) :: (jl, _) :: (0, _) :: (1, _) :: (s, _) :: (e, _) :: []) ?_
       exact hcont jc1 jc2 j7 j8
      ·refine exK_st rfl (q_store rfl rfl TySz.h rfl rfl (by repeat (first | exact List.Mem.head _ | assumption | apply List.Mem.tail)) rfl) (by repeat (first | exact Upd.head | apply Upd.tail)) (putN rfl) (by simp) ?_
       refine TD.c (pend' := []) [] rfl rfl rfl rfl (exK_newC rfl (n_makeChan rfl Und.h InfO.h) (fun _ => putS rfl (by simp only [List.set]; rfl)) (by simp) fun jc2 hjc2 => ?_)
       refine TD.s (pend' := []) [8, 22] rfl rfl (q_store rfl rfl TySz.h rfl rfl (by repeat (first | exact List.Mem.head _ | assumption | apply List.Mem.tail)) rfl) ?_
       refine TD.fin ?_
       refine TK.maskL [1, 6, 7, 8] ?_
       refine TK.kp ((jc1, _) :: (jc2, _) :: (j7, _) :: (j8, _) :: (jx, _) :: (jb, _) :: (jl, _) :: (0, _) :: (1, _) :: (s, _) :: (e, _) :: []) ?_
       exact hcont jc1 jc2 j7 j8
     ·refine exK_newC rfl (n_makeChan rfl Und.h InfO.h) (fun _ => putS rfl (by simp only [List.set]; rfl)) (by simp) fun jc2 hjc2 => ?_
      refine TD.c (pend' := []) [] rfl rfl rfl rfl (exK_newC rfl (n_makeChan rfl Und.h InfO.h) (fun _ => putS rfl (by simp only [List.set]; rfl)) (by simp) fun jc1 hjc1 => ?_)
      refine TD.s (pend' := []) [7, 21] rfl rfl (q_store rfl rfl TySz.h rfl rfl (by repeat (first | exact List.Mem.head _ | assumption | apply List.Mem.tail)) rfl) ?_
      refine TD.s (pend' := []) [8, 22] rfl rfl (q_store rfl rfl TySz.h rfl rfl (by repeat (first | exact List.Mem.head _ | assumption | apply List.Mem.tail)) rfl) ?_
      refine TD.fin ?_
      refine TK.maskL [1, 6, 7, 8] ?_
      refine TK.kp ((jc1, _) :: (jc2, _) :: (j7, _) :: (j8, _) :: (jx, _) :: (jb, _) :: (jl, _) :: (0, _) :: (1, _) :: (s, _) :: (e, _) :: []) ?_
      exact hcont jc1 jc2 j7 j8
   ·refine ⟨[], _, [], [0, 1, 2, 4, 5], rfl, rfl, rfl, rfl, ?_⟩
    refine exK_newP rfl (n_allocA rfl TyZA.h) (fun _ => putS rfl (by simp only [List.set]; rfl)) (by simp) fun j8 hj8 => ?_
    refine TD.cM [0, 1, 2] rfl ?_
    intro mm hmm
    simp only [List.mem_cons, List.not_mem_nil, or_false] at hmm
    rcases hmm with rfl | rfl | rfl
    ·refine ⟨[], _, [], [1, 2, 4, 5], rfl, rfl, rfl, rfl, ?_⟩
     refine exK_newC rfl (n_makeChan rfl Und.h InfO.h) (fun _ => putS rfl (by simp only [List.set]; rfl)) (by simp) fun jc1 hjc1 => ?_
     refine TD.c2 (i1 := 1) (i2 := 2) (pend1 := []) (pend2 := []) (L1 := [2, 4, 5]) (L2 := [1, 4, 5]) [] [] rfl rfl rfl rfl rfl rfl rfl ?_ ?_
     ·refine exK_newC rfl (n_makeChan rfl Und.h InfO.h) (fun _ => putS rfl (by simp only [List.set]; rfl)) (by simp) fun jc2 hjc2 => ?_
      refine TD.cnewP (pend' := []) [] rfl rfl rfl rfl rfl (n_allocA rfl TyZA.h) (fun _ => putS rfl (by simp only [List.set]; rfl)) (by simp) fun j7 hj7 => ?_
      refine TD.s (pend' := []) [7, 21] rfl rfl (q_store rfl rfl TySz.h rfl rfl (by repeat (first | exact List.Mem.head _ | assumption | apply List.Mem.tail)) rfl) ?_
      refine TD.s (pend' := []) [8, 22] rfl rfl (q_store rfl rfl TySz.h rfl rfl (by repeat (first | exact List.Mem.head _ | assumption | apply List.Mem.tail)) rfl) ?_
      refine TD.fin ?_
      refine TK.maskL [1, 6, 7, 8] ?_
      refine TK.kp ((jc1, _) :: (jc2, _) :: (j7, _) :: (j8, _) :: (jx, _) :: (jb, _) :: (jl, _) :: (0, _) :: (1, _) :: (s, _) :: (e, _) :: []) ?_
      exact hcont jc1 jc2 j7 j8
     ·refine exK_newP rfl (n_allocA rfl TyZA.h) (fun _ => putS rfl (by simp only [List.set]; rfl)) (by simp) fun j7 hj7 => ?_
      refine TD.c2 (i1 := 1) (i2 := 4) (pend1 := []) (pend2 := []) (L1 := [4, 5]) (L2 := [1, 5]) [] [7, 21] rfl rfl rfl rfl rfl rfl rfl ?_ ?_
      ·refine exK_newC rfl (n_makeChan rfl Und.h InfO.h) (fun _ => putS rfl (by simp only [List.set]; rfl)) (by simp) fun jc2 hjc2 => ?_
       refine TD.s (pend' := []) [7, 21] rfl rfl (q_store rfl rfl TySz.h rfl rfl (by repeat (first | exact List.Mem.head _ | assumption | apply List.Mem.tail)) rfl) ?_
       refine TD.s (pend' := []) [8, 22] rfl rfl (q_store rfl rfl TySz.h rfl rfl (by repeat (first | exact List.Mem.head _ | assumption | apply List.Mem.tail)) rfl) ?_
       refine TD.fin ?_
       refine TK.maskL [1, 6, 7, 8] ?_
       refine TK.kp ((jc1, _) :: (jc2, _) :: (j7, _) :: (j8, _) :: (jx, _) :: (jb, _) :: (jl, _) :: (0, _) :: (1, _) :: (s, _) :: (e, _) :: []) ?_
       exact hcont jc1 jc2 j7 j8
      ·refine exK_st rfl (q_store rfl rfl TySz.h rfl rfl (by repeat (first | exact List.Mem.head _ | assumption | apply List.Mem.tail)) rfl) (by repeat (first | exact Upd.head | apply Upd.tail)) (putN rfl) (by simp) ?_
       refine TD.c (pend' := []) [] rfl rfl rfl rfl (exK_newC rfl (n_makeChan rfl Und.h InfO.h) (fun _ => putS rfl (by simp only [List.set]; rfl)) (by simp) fun jc2 hjc2 => ?_)
       refine TD.s (pend' := []) [8, 22] rfl rfl (q_store rfl rfl TySz.h rfl rfl (by repeat (first | exact List.Mem.head _ | assumption | apply List.Mem.tail)) rfl) ?_
       refine TD.fin ?_
       refine TK.maskL [1, 6, 7, 8] ?_
       refine TK.kp ((jc1, _) :: (jc2, _) :: (j7, _) :: (j8, _) :: (jx, _) :: (jb, _) :: (jl, _) :: (0, _) :: (1, _) :: (s, _) :: (e, _) :: []) ?_
       exact hcont jc1 jc2 j7 j8
    ·refine ⟨[], _, [], [0, 2, 4, 5], rfl, rfl, rfl, rfl, ?_⟩
     refine exK_newC rfl (n_makeChan rfl Und.h InfO.h) (fun _ => putS rfl (by simp only [List.set]; rfl)) (by simp) fun jc2 hjc2 => ?_
     refine TD.c2 (i1 := 0) (i2 := 2) (pend1 := []) (pend2 := []) (L1 := [2, 4, 5]) (L2 := [0, 4, 5]) [] [] rfl rfl rfl rfl rfl rfl rfl ?_ ?_
     ·refine exK_newC rfl (n_makeChan rfl Und.h InfO.h) (fun _ => putS rfl (by simp only [List.set]; rfl)) (by simp) fun jc1 hjc1 => ?_
      refine TD.cnewP (pend' := []) [] rfl rfl rfl rfl rfl (n_allocA rfl TyZA.h) (fun _ => putS rfl (by simp only [List.set]; rfl)) (by simp) fun j7 hj7 => ?_
      refine TD.s (pend' := []) [7, 21] rfl rfl (q_store rfl rfl TySz.h rfl rfl (by repeat (first | exact List.Mem.head _ | assumption | apply List.Mem.tail)) rfl) ?_
      refine TD.s (pend' := []) [8, 22] rfl rfl (q_store rfl rfl TySz.h rfl rfl (by repeat (first | exact List.Mem.head _ | assumption | apply List.Mem.tail)) rfl) ?_
      refine TD.fin ?_
      refine TK.maskL [1, 6, 7, 8] ?_
      refine TK.kp ((jc1, _) :: (jc2, _) :: (j7, _) :: (j8, _) :: (jx, _) :: (jb, _) :: (jl, _) :: (0, _) :: (1, _) :: (s, _) :: (e, _) :: []) ?_
      exact hcont jc1 jc2 j7 j8
     ·refine exK_newP rfl (n_allocA rfl TyZA.h) (fun _ => putS rfl (by simp only [List.set]; rfl)) (by simp) fun j7 hj7 => ?_
      refine TD.c (pend' := []) [] rfl rfl rfl rfl (exK_newC rfl (n_makeChan rfl Und.h InfO.h) (fun _ => putS rfl (by simp only [List.set]; rfl)) (by simp) fun jc1 hjc1 => ?_)
      refine TD.s (pend' := []) [7, 21] rfl rfl (q_store rfl rfl TySz.h rfl rfl (by repeat (first | exact List.Mem.head _ | assumption | apply List.Mem.tail)) rfl) ?_
      refine TD.s (pend' := []) [8, 22] rfl rfl (q_store rfl rfl TySz.h rfl rfl (by repeat (first | exact List.Mem.head _ | assumption | apply List.Mem.tail)) rfl) ?_
      refine TD.fin ?_
      refine TK.maskL [1, 6, 7, 8] ?_
      refine TK.kp ((jc1, _) :: (jc2, _) :: (j7, _) :: (j8, _) :: (jx, _) :: (jb, _) :: (jl, _) :: (0, _) :: (1, _) :: (s, _) :: (e, _) :: []) ?_
      exact hcont jc1 jc2 j7 j8
    ·refine ⟨[], _, [], [0, 1, 4, 5], rfl, rfl, rfl, rfl, ?_⟩
     refine exK_newP rfl (n_allocA rfl TyZA.h) (fun _ => putS rfl (by simp only [List.set]; rfl)) (by simp) fun j7 hj7 => ?_
     refine TD.c2 (i1 := 0) (i2 := 1) (pend1 := []) (pend2 := []) (L1 := [1, 4, 5]) (L2 := [0, 4, 5]) [] [] rfl rfl rfl rfl rfl rfl rfl ?_ ?_
     ·refine exK_newC rfl (n_makeChan rfl Und.h InfO.h) (fun _ => putS rfl (by simp only [List.set]; rfl)) (by simp) fun jc1 hjc1 => ?_
      refine TD.c2 (i1 := 1) (i2 := 4) (pend1 := []) (pend2 := []) (L1 := [4, 5]) (L2 := [1, 5]) [] [7, 21] rfl rfl rfl rfl rfl rfl rfl ?_ ?_
      ·refine exK_newC rfl (n_makeChan rfl Und.h InfO.h) (fun _ => putS rfl (by simp only [List.set]; rfl)) (by simp) fun jc2 hjc2 => ?_
       refine TD.s (pend' := []) [7, 21] rfl rfl (q_store rfl rfl TySz.h rfl rfl (by repeat (first | exact List.Mem.head _ | assumption | apply List.Mem.tail)) rfl) ?_
       refine TD.s (pend' := []) [8, 22] rfl rfl (q_store rfl rfl TySz.h rfl rfl (by repeat (first | exact List.Mem.head _ | assumption | apply List.Mem.tail)) rfl) ?_
       refine TD.fin ?_
       refine TK.maskL [1, 6, 7, 8] ?_
       refine TK.kp ((jc1, _) :: (jc2, _) :: (j7, _) :: (j8, _) :: (jx, _) :: (jb, _) :: (jl, _) :: (0, _) :: (1, _) :: (s, _) :: (e, _) :: []) ?_
       exact hcont jc1 jc2 j7 j8
      ·refine exK_st rfl (q_store rfl rfl TySz.h rfl rfl (by repeat (first | exact List.Mem.head _ | assumption | apply List.Mem.tail)) rfl) (by repeat (first | exact Upd.head | apply Upd.tail)) (putN rfl) (by simp) ?_
       refine TD.c (pend' := []) [] rfl rfl rfl rfl (exK_newC rfl (n_makeChan rfl Und.h InfO.h) (fun _ => putS rfl (by simp only [List.set]; rfl)) (by simp) fun jc2 hjc2 => ?_)
       refine TD.s (pend' := []) [8, 22] rfl rfl (q_store rfl rfl TySz.h rfl rfl (by repeat (first | exact List.Mem.head _ | assumption | apply List.Mem.tail)) rfl) ?_
       refine TD.fin ?_
       refine TK.maskL [1, 6, 7, 8] ?_
       refine TK.kp ((jc1, _) :: (jc2, _) :: (j7, _) :: (j8, _) :: (jx, _) :: (jb, _) :: (jl, _) :: (0, _) :: (1, _) :: (s, _) :: (e, _) :: []) ?_
       exact hcont jc1 jc2 j7 j8
     ·refine exK_newC rfl (n_makeChan rfl Und.h InfO.h) (fun _ => putS rfl (by simp only [List.set]; rfl)) (by simp) fun jc2 hjc2 => ?_
      refine TD.c (pend' := []) [] rfl rfl rfl rfl (exK_newC rfl (n_makeChan rfl Und.h InfO.h) (fun _ => putS rfl (by simp only [List.set]; rfl)) (by simp) fun jc1 hjc1 => ?_)
      refine TD.s (pend' := []) [7, 21] rfl rfl (q_store rfl rfl TySz.h rfl rfl (by repeat (first | exact List.Mem.head _ | assumption | apply List.Mem.tail)) rfl) ?_
      refine TD.s (pend' := []) [8, 22] rfl rfl (q_store rfl rfl TySz.h rfl rfl (by repeat (first | exact List.Mem.head _ | assumption | apply List.Mem.tail)) rfl) ?_
      refine TD.fin ?_
      refine TK.maskL [1, 6, 7, 8] ?_
      refine TK.kp ((jc1, _) :: (jc2, _) :: (j7, _) :: (j8, _) :: (jx, _) :: (jb, _) :: (jl, _) :: (0, _) :: (1, _) :: (s, _) :: (e, _) :: []) ?_
      exact hcont jc1 jc2 j7 j8
  ·refine TK.phase (fun cg cn => msgN b cg cn) (msgN_or b) (by simp [knownC]) (by simp [bookC]) (flat_ne hne) fun φ0 n0 cg cn hcc hag hn0 hsh hcs => ?_
   refine TK.kp ((j7, _) :: (j8, _) :: (jx, _) :: (jb, _) :: (jl, _) :: (0, _) :: (1, _) :: (s, _) :: (e, _) :: []) ?_
   refine TK.normK (K' := (j7, .cells [.v (.chan (some cg))] 140 false) :: (j8, .cells [.v (.chan (some cn))] 141 false) :: (jx, .cells (knownC b s e (.sl jl 0 (statesM b).length) jm) 107 false) :: (jb, .cells (bookC b s e) 27 false) :: (jl, listO (statesM b)) :: (0, checksG) :: (1, saysG) :: (s, saysO b) :: (e, seenO b) :: []) (by simp [knownC, unrow, intA]; rfl) ?_
   refine au [4, 4, 5, 7, 9, 1, 3, 13] ?_
   refine TK.maskL [1, 6, 7, 8, 24, 25] ?_
   refine TK.loopJ (fun q env K => env = slotsA 59 [(1, .ptr jb 0), (6, .ptr jx 0), (7, .ptr j7 0), (8, .ptr j8 0), (24, intA b.steps), (25, intA q)] ∧ K = (j7, .cells [.v (.chan (some cg))] 140 false) :: (j8, .cells [.v (.chan (some cn))] 141 false) :: (jx, .cells (knownC b s e (.sl jl 0 (statesM b).length) jm) 107 false) :: (jb, .cells (bookC b s e) 27 false) :: (jl, listO (statesM b)) :: (0, checksG) :: (1, saysG) :: (s, saysO b) :: (e, seenO b) :: []) b.steps.toNat ⟨rfl, rfl⟩ fun q env K hq hI' hnext => ?_
   obtain ⟨rfl, rfl⟩ := hI'
   refine au [4, 5, 6, 3, 4, 20] ?_
   refine ⟨fun hc1 => ?_, fun hc1 => ?_⟩
   ·simp only [decide_eq_true_eq] at hc1
    have hql : q < b.steps.toNat := by omega
    have hst16 := hb.steps
    refine au [12, 4, 13, 4, 5, 1, 22] ?_
    intro j9 hj9
    refine au [17, 3, 5, 32] ?_
    refine TK.nd fun hnd => ?_
    refine TK.spawn (j9 := j9) (l9 := [intA (q : Int)]) (e9 := 3) (K' := (j7, .cells [.v (.chan (some cg))] 140 false) :: (j8, .cells [.v (.chan (some cn))] 141 false) :: (jx, .cells (knownC b s e (.sl jl 0 (statesM b).length) jm) 107 false) :: (jb, .cells (bookC b s e) 27 false) :: (jl, listO (statesM b)) :: (0, checksG) :: (1, saysG) :: (s, saysO b) :: (e, seenO b) :: []) rfl rfl rfl rfl rfl (S := [(j7, .cells [.v (.chan (some cg))] 140 false), (j8, .cells [.v (.chan (some cn))] 141 false), (jx, .cells (knownC b s e (.sl jl 0 (statesM b).length) jm) 107 false), (jb, .cells (bookC b s e) 27 false), (jl, listO (statesM b))]) (fun x hx => ?_) .head (by simp) (fun φ A Hc vs hv hg hr hrel => ?_) ?_
    rotate_left 2
    ·refine au [3, 14, 5, 23, 1, 3] ?_
     refine TK.maskL [1, 6, 7, 8, 24, 25] ?_
     refine TK.kp (((j7, _) :: (j8, _) :: (jx, _) :: (jb, _) :: (jl, _) :: (0, _) :: (1, _) :: (s, _) :: (e, _) :: [])) ?_
     exact hnext _ _ hql ⟨rfl, rfl⟩
    ·simp only [List.mem_cons, List.not_mem_nil, or_false] at hx
     rcases hx with rfl | rfl | rfl | rfl | rfl
     ·exact ⟨by simp, (hsh j7 (by simp)).1, (hsh j7 (by simp)).2, _, _, by simp, rfl⟩
     ·exact ⟨by simp, (hsh j8 (by simp)).1, (hsh j8 (by simp)).2, _, _, by simp, rfl⟩
     ·exact ⟨by simp, (hsh jx (by simp)).1, (hsh jx (by simp)).2, _, _, by simp [knownC], rfl⟩
     ·exact ⟨by simp, (hsh jb (by simp)).1, (hsh jb (by simp)).2, _, _, by simp [bookC], rfl⟩
     ·exact ⟨by simp, (hsh jl (by simp)).1, (hsh jl (by simp)).2, _, _, flat_ne hne, rfl⟩
    ·refine tree_of (K := (j9, .cells [intA (q : Int)] 3 false) :: [(j7, .cells [.v (.chan (some cg))] 140 false), (j8, .cells [.v (.chan (some cn))] 141 false), (jx, .cells (knownC b s e (.sl jl 0 (statesM b).length) jm) 107 false), (jb, .cells (bookC b s e) 27 false), (jl, listO (statesM b))]) Cal.h Tryz.func98 rfl hv ?_ hg hr hrel fun Y2 k1 k2 k3 k4 => worker_ok hb hql rfl Y2 k1 k2 k3 k4
     simp only [keys, List.map_cons, List.map_nil, List.nodup_cons, List.mem_cons, List.not_mem_nil, or_false, not_or] at hnd ⊢
     obtain ⟨⟨a1, a2, a3, a4, a5, _⟩, ⟨b1, b2, b3, b4, _⟩, ⟨c1, c2, c3, _⟩, ⟨d1, d2, _⟩, ⟨g1, _⟩, _⟩ := hnd
     exact ⟨⟨a1, a2, a3, a4, a5⟩, ⟨b1, b2, b3, b4⟩, ⟨c1, c2, c3⟩, ⟨d1, d2⟩, g1, not_false, List.nodup_nil⟩
   simp only [decide_eq_false_iff_not] at hc1
   obtain rfl : q = b.steps.toNat := by omega
   refine au [16, 4, 5, 2] ?_
   refine TK.virt 10 143 2 rfl fun ja0 hja0 => ?_
   refine au [3, 4, 4, 5, 7, 9, 1, 3, 13] ?_
   refine TK.maskL [1, 6, 7, 8, 10, 31, 32] ?_
   refine TK.loopR (fun n R env K => ∃ (rec : List Nat) (ja : Nat), n = b.steps.toNat - rec.length ∧ rec.Nodup ∧ (∀ q, R q = true ↔ q ∈ rec) ∧ (∀ q ∈ rec, q < b.steps.toNat) ∧ env = slotsA 59 [(1, .ptr jb 0), (6, .ptr jx 0), (7, .ptr j7 0), (8, .ptr j8 0), (10, .row ja (arcsOf b rec).length), (31, intA b.steps), (32, intA rec.length)] ∧ K = (ja, .row ((arcsOf b rec).flatMap arcC) 143 2) :: (j7, .cells [.v (.chan (some cg))] 140 false) :: (j8, .cells [.v (.chan (some cn))] 141 false) :: (jx, .cells (knownC b s e (.sl jl 0 (statesM b).length) jm) 107 false) :: (jb, .cells (bookC b s e) 27 false) :: (jl, listO (statesM b)) :: (0, checksG) :: (1, saysG) :: (s, saysO b) :: (e, seenO b) :: []) b.steps.toNat ⟨[], ja0, rfl, List.nodup_nil, by simp, by simp, rfl, rfl⟩ fun n R env K hI' hnext => ?_
   obtain ⟨rec, ja, rfl, hrn, hRr, hrl, rfl, rfl⟩ := hI'
   have hal := arcsOf_len b rec
   refine au [4, 5, 6, 3, 4, 20] ?_
   refine ⟨fun hc2 => ?_, fun hc2 => ?_⟩
   ·simp only [decide_eq_true_eq] at hc2
    have hrlt : rec.length < b.steps.toNat := by omega
    have hst16b := hb.steps
    refine au [12, 4, 13, 4, 4, 5, 9, 3, 5, 9, 3, 4, 5] ?_
    refine TK.recv rfl rfl rfl rfl rfl InfO.h rfl InfO.h rfl (by obtain ⟨q, h1, h2⟩ := rec_some hrn hrlt; exact ⟨q, h1, by rw [Bool.eq_false_iff]; exact fun h => h2 ((hRr q).1 h)⟩) fun q hq hRq => ?_
    have hqr : q ∉ rec := fun h => by rw [(hRr q).2 h] at hRq; cases hRq
    have hrn2 : (rec ++ [q]).Nodup := List.nodup_append.2 ⟨hrn, by simp, fun x hx y hy => by rw [List.mem_singleton.1 hy]; exact fun h => hqr (h ▸ hx)⟩
    have hR2 : ∀ x, Go.ConcN.upd R q true x = true ↔ x ∈ rec ++ [q] := fun x => by
     by_cases hx : x = q
     ·subst hx; simp [Go.ConcN.upd]
     ·simp [Go.ConcN.upd, hx, hRr]
    have hrl2 : ∀ x ∈ rec ++ [q], x < b.steps.toNat := fun x hx => by
     rcases List.mem_append.1 hx with hx | hx
     ·exact hrl x hx
     ·rw [List.mem_singleton.1 hx]; exact hq
    rcases hak : arcK b q with _ | wq
    rotate_left
    ·have hma := msgN_S (cg := cg) (cn := cn) hak
     rw [hma.1, if_pos rfl]
     refine au [10, 6, 6, 3, 13, 20] ?_
     refine ⟨fun hc3 => ?_, fun hc3 => ?_⟩
     ·
      refine au [4, 5, 10, 22] ?_
      intro j11 hj11
      refine au [17, 3, 5, 1, 8] ?_
      refine TK.newR rfl rfl rfl (n_buildSlice (l := [_, _]) rfl SlEl.h TyZ.h (by decide) (by decide) rfl) (fun _ => putS rfl (by simp only [List.set]; rfl)) fun j4 hj4 => ?_
      refine TK.appR rfl rfl rfl (a_app rfl ApOf.h rfl (by repeat (first | exact List.Mem.head _ | assumption | apply List.Mem.tail)) (flat_len arcC 2 (fun _ => rfl) _) rfl (src_row (ln := [_, _]) (by repeat (first | exact List.Mem.head _ | assumption | apply List.Mem.tail)) (by decide) (by simp) rfl) (by omega) rfl (by unfold maxLen; omega) (by omega)) (fun _ => (by repeat (first | exact Upd.head | apply Upd.tail))) (fun _ => putS rfl (by simp only [List.set]; rfl)) fun ja2 => ?_
      refine au [2, 3, 14, 14, 5, 23, 1, 3] ?_
      refine TK.maskL [1, 6, 7, 8, 10, 31, 32] ?_
      refine TK.kp (((ja2, _) :: (j7, _) :: (j8, _) :: (jx, _) :: (jb, _) :: (jl, _) :: (0, _) :: (1, _) :: (s, _) :: (e, _) :: [])) ?_
      exact hnext _ _ _ _ (by rw [List.length_append]; simp; omega) ⟨rec ++ [q], ja2, rfl, hrn2, hR2, hrl2, by rw [arcsOf_S hma.2, List.length_append, List.length_append]; rfl, by rw [arcsOf_S hma.2, List.flatMap_append]; rfl⟩
     exact absurd hc3 (by decide)
    ·have hma := msgN_N (cg := cg) (cn := cn) hak
     rw [hma.1, if_neg (fun h => hcc h.symm)]
     refine au [10, 6, 6, 3, 13, 20] ?_
     refine ⟨fun hc3 => ?_, fun hc3 => ?_⟩
     ·exact absurd hc3 (by decide)
     
     refine au [20] ?_
     refine ⟨fun hc4 => ?_, fun hc4 => ?_⟩
     ·
      refine au [12, 14, 14, 5, 23, 1, 3] ?_
      refine TK.maskL [1, 6, 7, 8, 10, 31, 32] ?_
      refine TK.kp (((ja, _) :: (j7, _) :: (j8, _) :: (jx, _) :: (jb, _) :: (jl, _) :: (0, _) :: (1, _) :: (s, _) :: (e, _) :: [])) ?_
      exact hnext _ _ _ _ (by rw [List.length_append]; simp; omega) ⟨rec ++ [q], ja, rfl, hrn2, hR2, hrl2, by rw [arcsOf_N hma.2, List.length_append]; rfl, by rw [arcsOf_N hma.2]⟩
     exact absurd hc4 (by decide)
   simp only [decide_eq_false_iff_not] at hc2
   have hrle : rec.length ≤ b.steps.toNat := by have := nodup_sub (l2 := List.range b.steps.toNat) hrn (fun x hx => List.mem_range.2 (hrl x hx)); rwa [List.length_range] at this
   have hrall := rec_all hrn hrl (by omega)
   refine TK.stopM (fun q hq => (hRr q).2 (hrall q hq)) (by intro x hx; repeat (first | (cases hx; done) | (rcases List.mem_cons.1 hx with rfl | hx; · trivial))) hcs hag hn0 ?_
   have hsame := arcsOf_same (b := b) (rec := rec) (N := b.steps.toNat) fun q => ⟨hrl q, hrall q⟩
   have hst16c := hb.steps
   refine au [16, 4, 4, 5, 1, 28, 6, 3, 20] ?_
   refine ⟨fun hc5 => ?_, fun hc5 => ?_⟩
   ·have hnone : arcsOf b (List.range b.steps.toNat) = [] := List.eq_nil_iff_forall_not_mem.2 fun y hy => by
     have h0 : arcsOf b rec = [] := List.eq_nil_of_length_eq_zero (by have h : ((arcsOf b rec).length : Int) = 0 := (by simpa using hc5); omega)
     have := (hsame y).2 hy
     rw [h0] at this
     cases this
    refine au [4, 5, 2, 2, 2, 2, 3] ?_
    refine TK.rt hret [(0, _), (1, _), (s, _), (e, _)] ?_
    exact ⟨by unfold narrowApi; rw [if_neg (show ¬ (askM b true ≠ 0) by rw [hb0]; decide), if_pos hnone]; rfl, rfl⟩
   obtain ⟨p, ps, hps⟩ : ∃ p ps, arcsOf b rec = p :: ps := by
    cases h : arcsOf b rec with
    | nil => rw [h] at hc5; exact absurd hc5 (by decide)
    | cons p ps => exact ⟨p, ps, rfl⟩
   obtain ⟨p2, ps2, hps2⟩ : ∃ p ps, arcsOf b (List.range b.steps.toNat) = p :: ps := by
    cases h : arcsOf b (List.range b.steps.toNat) with
    | nil =>
     have := (hsame p).1 (by rw [hps]; simp)
     rw [h] at this; cases this
    | cons p ps => exact ⟨p, ps, rfl⟩
   have hsome : arcsOf b (List.range b.steps.toNat) ≠ [] := by rw [hps2]; simp
   have hres : firstL ltArc p ps = narrowM b := by
    unfold narrowM
    rw [hps2]
    show firstL ltArc p ps = firstL ltArc p2 ps2
    exact firstL_same fun y => by rw [← hps, ← hps2]; exact hsame y
   rw [hps] at hal ⊢
   refine au [12, 4] ?_
   refine TK.draw [0, 1, 2, 3, 4, 5, 6, 7] [0, 1, 2, 3, 4, 5, 6, 7] (by kernel_rfl) (by kernel_rfl) ?_
   refine TD.z [10] rfl (q_move rfl rfl) ?_
   refine TD.y [49] rfl (hq := q_indexRow rfl rfl rfl SlEl.h (List.Mem.head _) (by first | omega | (simp only [List.length_cons]; omega)) (by first | omega | (simp only [List.length_cons]; omega))) (h := ?_)
   refine TD.y [50] rfl (hq := q_load rfl rfl TySz.h (List.Mem.head _) (arc_take (k := 0) (by simp))) (h := ?_)
   refine TD.z [10] rfl (q_move rfl rfl) ?_
   refine TD.y [52] rfl (hq := q_sliceRow rfl rfl SlEl.h (List.Mem.head _) rfl rfl (by first | omega | (simp only [List.length_cons]; omega)) (by first | omega | (simp only [List.length_cons]; omega)) rfl) (h := ?_)
   refine TD.c2 (i1 := 5) (i2 := 6) (pend1 := [⟨3, [10], []⟩, ⟨1, [49], [(_, _)]⟩, ⟨0, [10], []⟩]) (pend2 := [⟨4, [52], [(_, _)]⟩, ⟨3, [10], []⟩, ⟨2, [50], [(_, _)]⟩, ⟨1, [49], [(_, _)]⟩, ⟨0, [10], []⟩]) (L1 := [6, 7]) (L2 := [5, 7]) [51, 53] [] rfl rfl rfl rfl rfl rfl rfl ?_ ?_
   ·refine exK_callO rfl rfl Cal.h rfl (firstArc_ok hT (o := p) (xs := ps) (lt := ltArc) (fv := .fn 100 [] []) (jo := ja) (off := 2) (obo := .row ((p :: ps).flatMap arcC) 143 2) (K := [(ja, .row ((p :: ps).flatMap arcC) 143 2)]) (by simp at hal; omega) (by simp) (fun k hk => by rw [show 2 + ((k : Int)).toNat * 2 = (k + 1) * 2 by rw [Int.toNat_natCast]; omega]; exact arc_take (xs := p :: ps) (k := k + 1) (by simpa using hk)) (fun x hx y hy => CallFK.frame (.none _) (callFK_fn Cal.h (narrow2_ok hT)))) (by repeat (first | exact Split.none _ | exact Split.all _ | (apply Split.rem; repeat (first | exact Rem.head | apply Rem.tail)) | apply Split.right)) fun r5 K6 h7 => ⟨?_, ?_⟩
    ·rcases h7 with ⟨rfl, rfl⟩
     all_goals simp
    obtain ⟨rfl, rfl⟩ := h7
    try simp only [List.cons_append, List.nil_append]
    refine TD.norm (env' := [_, _, _, _, _, _, _, _, _, _, _, _, _, _, _, _, _, _, _, _, _, _, _, _, _, _, _, _, _, _, _, _, _, _, _, _, _, _, _, _, _, _, _, _, _, _, _, _, _, _, _, _, _, _, _, _, _, _, _]) rfl ?_
    refine TD.cnewP (pend' := [⟨3, [10], []⟩, ⟨1, [49], [(_, _)]⟩, ⟨0, [10], []⟩]) [] rfl rfl rfl rfl rfl (n_allocA rfl TyZA.h) (fun _ => putS rfl (by simp only [List.set]; rfl)) (by simp) fun j12 hj12 => ?_
    refine TD.s (pend' := []) [12, 54] rfl rfl (q_store rfl rfl TySz.h rfl rfl (by repeat (first | exact List.Mem.head _ | assumption | apply List.Mem.tail)) rfl) ?_
    refine TD.fin ?_
    refine au [4] ?_
    refine TK.draw [0, 1, 2, 3, 4, 5, 6, 7] [0, 1, 4, 2, 3, 5, 6, 7] (by kernel_rfl) (by kernel_rfl) ?_
    refine TD.z [12] rfl (q_fieldAddr rfl rfl FldOf.h (by decide)) ?_
    refine TD.y [55] rfl (hq := q_load1 rfl rfl TySz.h (List.Mem.head _) rfl) (h := ?_)
    refine TD.z [12] rfl (q_fieldAddr rfl rfl FldOf.h (by decide)) ?_
    refine TD.y [57] rfl (hq := q_load1 rfl rfl TySz.h (List.Mem.head _) rfl) (h := ?_)
    refine TD.as (pend' := [⟨3, [57], [(_, _)]⟩, ⟨2, [12], []⟩]) [56] rfl rfl (q_assign rfl rfl) ?_
    refine TD.as (pend' := []) [58] rfl rfl (q_assign rfl rfl) ?_
    refine TD.as (pend' := []) [] rfl rfl (q_assign rfl rfl) ?_
    refine TD.as (pend' := []) [] rfl rfl (q_assign rfl rfl) ?_
    refine TD.fin ?_
    refine au [] ?_
    refine TK.rt hret [(0, _), (1, _), (s, _), (e, _)] ?_
    exact ⟨by unfold narrowApi; rw [if_neg (show ¬ (askM b true ≠ 0) by rw [hb0]; decide), if_neg hsome, ← hres]; rfl, rfl⟩
   ·refine exK_newP rfl (n_allocA rfl TyZA.h) (fun _ => putS rfl (by simp only [List.set]; rfl)) (by simp) fun j12 hj12 => ?_
    refine TD.cl (pend' := [⟨3, [10], []⟩, ⟨1, [49], [(_, _)]⟩, ⟨0, [10], []⟩]) [51, 53] rfl rfl rfl rfl rfl (firstArc_ok hT (o := p) (xs := ps) (lt := ltArc) (fv := .fn 100 [] []) (jo := ja) (off := 2) (obo := .row ((p :: ps).flatMap arcC) 143 2) (K := [(ja, .row ((p :: ps).flatMap arcC) 143 2)]) (by simp at hal; omega) (by simp) (fun k hk => by rw [show 2 + ((k : Int)).toNat * 2 = (k + 1) * 2 by rw [Int.toNat_natCast]; omega]; exact arc_take (xs := p :: ps) (k := k + 1) (by simpa using hk)) (fun x hx y hy => CallFK.frame (.none _) (callFK_fn Cal.h (narrow2_ok hT)))) (fun r8 K9 h10 => ⟨?_, ?_⟩)
    ·rcases h10 with ⟨rfl, rfl⟩
     all_goals simp
    obtain ⟨rfl, rfl⟩ := h10
    try simp only [List.cons_append, List.nil_append]
    refine TD.norm (by simp only [List.set]; rfl) ?_
    refine TD.s (pend' := []) [12, 54] rfl rfl (q_store rfl rfl TySz.h rfl rfl (by repeat (first | exact List.Mem.head _ | assumption | apply List.Mem.tail)) rfl) ?_
    refine TD.fin ?_
    refine au [4] ?_
    refine TK.draw [0, 1, 2, 3, 4, 5, 6, 7] [0, 1, 4, 2, 3, 5, 6, 7] (by kernel_rfl) (by kernel_rfl) ?_
    refine TD.z [12] rfl (q_fieldAddr rfl rfl FldOf.h (by decide)) ?_
    refine TD.y [55] rfl (hq := q_load1 rfl rfl TySz.h (List.Mem.head _) rfl) (h := ?_)
    refine TD.z [12] rfl (q_fieldAddr rfl rfl FldOf.h (by decide)) ?_
    refine TD.y [57] rfl (hq := q_load1 rfl rfl TySz.h (List.Mem.head _) rfl) (h := ?_)
    refine TD.as (pend' := [⟨3, [57], [(_, _)]⟩, ⟨2, [12], []⟩]) [56] rfl rfl (q_assign rfl rfl) ?_
    refine TD.as (pend' := []) [58] rfl rfl (q_assign rfl rfl) ?_
    refine TD.as (pend' := []) [] rfl rfl (q_assign rfl rfl) ?_
    refine TD.as (pend' := []) [] rfl rfl (q_assign rfl rfl) ?_
    refine TD.fin ?_
    refine au [] ?_
    refine TK.rt hret [(0, _), (1, _), (s, _), (e, _)] ?_
    exact ⟨by unfold narrowApi; rw [if_neg (show ¬ (askM b true ≠ 0) by rw [hb0]; decide), if_neg hsome, ← hres]; rfl, rfl⟩
end Go.Vel
end
section
set_option linter.all false
set_option maxRecDepth 20000
set_option maxHeartbeats 60000000
namespace Go.Proofs
open Go.Shelf
def Tryz.lays189_ren : Go.Shelf.Ren := ⟨fun | 189 => 93 | 125 => 112 | 257 => 111 | 128 => 127 | 129 => 128 | 294 => 118 | 295 => 119 | 296 => 120 | 297 => 121 | 298 => 122 | 299 => 123 | 216 => 124 | 300 => 125 | 301 => 126 | 328 => 131 | 329 => 132 | 330 => 133 | 331 => 134 | 332 => 135 | 215 => 117 | 343 => 137 | n => n, fun | 28 => 61 | 3 => 3 | 46 => 158 | 0 => 0 | 51 => 174 | 53 => 176 | 4 => 4 | 183 => 167 | 182 => 166 | 131 => 53 | 5 => 5 | 9 => 9 | 218 => 178 | 222 => 182 | 228 => 185 | 229 => 111 | n => n, fun n => n⟩
theorem Tryz.lays189 : Lays.n189 Tryz.prog Tryz.lays189_ren where
 mixed := by kernel_rfl
 f125 := Tryz.func112.trans (congrArg some (by kernel_rfl))
 f128 := Tryz.func127.trans (congrArg some (by kernel_rfl))
 f129 := Tryz.func128.trans (congrArg some (by kernel_rfl))
 f189 := Tryz.func93.trans (congrArg some (by kernel_rfl))
 f215 := Tryz.func117.trans (congrArg some (by kernel_rfl))
 f216 := Tryz.func124.trans (congrArg some (by kernel_rfl))
 f257 := Tryz.func111.trans (congrArg some (by kernel_rfl))
 f294 := Tryz.func118.trans (congrArg some (by kernel_rfl))
 f295 := Tryz.func119.trans (congrArg some (by kernel_rfl))
 f296 := Tryz.func120.trans (congrArg some (by kernel_rfl))
 f297 := Tryz.func121.trans (congrArg some (by kernel_rfl))
 f298 := Tryz.func122.trans (congrArg some (by kernel_rfl))
 f299 := Tryz.func123.trans (congrArg some (by kernel_rfl))
 f300 := Tryz.func125.trans (congrArg some (by kernel_rfl))
 f301 := Tryz.func126.trans (congrArg some (by kernel_rfl))
 f328 := Tryz.func131.trans (congrArg some (by kernel_rfl))
 f329 := Tryz.func132.trans (congrArg some (by kernel_rfl))
 f330 := Tryz.func133.trans (congrArg some (by kernel_rfl))
 f331 := Tryz.func134.trans (congrArg some (by kernel_rfl))
 f332 := Tryz.func135.trans (congrArg some (by kernel_rfl))
 f343 := Tryz.func137.trans (congrArg some (by kernel_rfl))
 t0 := Tryz.underlying0
 a0 := Tryz.isAgg0
 z0 := Tryz.sizeOf0
 v0 := Tryz.zeroValue0
 t3 := Tryz.underlying3
 a3 := Tryz.isAgg3
 z3 := Tryz.sizeOf3
 v3 := Tryz.zeroValue3
 t4 := Tryz.underlying4
 a4 := Tryz.isAgg4
 z4 := Tryz.sizeOf4
 v4 := Tryz.zeroValue4
 t5 := Tryz.underlying5
 a5 := Tryz.isAgg5
 z5 := Tryz.sizeOf5
 v5 := Tryz.zeroValue5
 t9 := Tryz.underlying9
 a9 := Tryz.isAgg9
 z9 := Tryz.sizeOf9
 v9 := Tryz.zeroValue9
 t28 := Tryz.underlying61
 a28 := Tryz.isAgg61
 z28 := Tryz.sizeOf61
 v28 := Tryz.zeroValue61
 t46 := Tryz.underlying158
 a46 := Tryz.isAgg158
 z46 := Tryz.sizeOf158
 v46 := Tryz.zeroValue158
 t51 := Tryz.underlying174
 a51 := Tryz.isAgg174
 z51 := Tryz.sizeOf174
 v51 := Tryz.zeroValue174
 t53 := Tryz.underlying176
 a53 := Tryz.isAgg176
 z53 := Tryz.sizeOf176
 v53 := Tryz.zeroValue176
 t131 := Tryz.underlying53
 a131 := Tryz.isAgg53
 z131 := Tryz.sizeOf53
 v131 := Tryz.zeroValue53
 t182 := Tryz.underlying166
 a182 := Tryz.isAgg166
 z182 := Tryz.sizeOf166
 v182 := Tryz.zeroValue166
 t183 := Tryz.underlying167
 a183 := Tryz.isAgg167
 z183 := Tryz.sizeOf167
 v183 := Tryz.zeroValue167
 t218 := Tryz.underlying178
 a218 := Tryz.isAgg178
 z218 := Tryz.sizeOf178
 v218 := Tryz.zeroValue178
 t222 := Tryz.underlying182
 a222 := Tryz.isAgg182
 z222 := Tryz.sizeOf182
 v222 := Tryz.zeroValue182
 t228 := Tryz.underlying185
 a228 := Tryz.isAgg185
 z228 := Tryz.sizeOf185
 v228 := Tryz.zeroValue185
 t229 := Tryz.underlying111
 a229 := Tryz.isAgg111
 z229 := Tryz.sizeOf111
 v229 := Tryz.zeroValue111
def Tryz.lays20_ren : Go.Shelf.Ren := ⟨fun | 20 => 94 | n => n, fun | 22 => 61 | 3 => 3 | 4 => 4 | 0 => 0 | n => n, fun n => n⟩
theorem Tryz.lays20 : Lays2.n20 Tryz.prog Tryz.lays20_ren where
 mixed := by kernel_rfl
 f20 := Tryz.func94.trans (congrArg some (by kernel_rfl))
 t0 := Tryz.underlying0
 a0 := Tryz.isAgg0
 z0 := Tryz.sizeOf0
 v0 := Tryz.zeroValue0
 t3 := Tryz.underlying3
 a3 := Tryz.isAgg3
 z3 := Tryz.sizeOf3
 v3 := Tryz.zeroValue3
 t4 := Tryz.underlying4
 a4 := Tryz.isAgg4
 z4 := Tryz.sizeOf4
 v4 := Tryz.zeroValue4
 t22 := Tryz.underlying61
 a22 := Tryz.isAgg61
 z22 := Tryz.sizeOf61
 v22 := Tryz.zeroValue61
 i3 := by kernel_rfl
end Go.Proofs
namespace Go.Vel
open Go Go.Conc Go.Proofs
theorem intsA_get {xs : List Int} {cur : Array Value} {φ : Nat → Loc3} {n : Nat} (h : ∀ (j : Nat) a, (xs.map intA)[j]? = some a → ∃ y, cur[j]? = some y ∧ RelV φ n a y) {j : Nat} (hj : j < xs.length) : cur[j]? = some (.int .i64 xs[j]) := by
 obtain ⟨y, h1, h2⟩ := h j (intA xs[j]) (by rw [List.getElem?_map, List.getElem?_eq_getElem hj]; rfl)
 cases h2
 exact h1
theorem intsA_take {xs : List Int} {cur : Array Value} {φ : Nat → Loc3} {n : Nat} (h : ∀ (j : Nat) a, (xs.map intA)[j]? = some a → ∃ y, cur[j]? = some y ∧ RelV φ n a y) : cur.toList.take xs.length = xs.map (Value.int .i64) := by
 apply List.ext_getElem?
 intro j
 by_cases hj : j < xs.length
 ·rw [List.getElem?_take_of_lt hj, Array.getElem?_toList, intsA_get h hj, List.getElem?_map, List.getElem?_eq_getElem hj]; rfl
 ·rw [List.getElem?_take_eq_none (by omega), List.getElem?_eq_none (by simp; omega)]
theorem put_get {xs : List Int} {cur : Array Value} (h : xs.length ≤ cur.size) {j : Nat} (hj : j < xs.length) : (Go.Sort.putCells (Value.int .i64) 0 xs.toArray cur)[j]? = some (.int .i64 xs[j]) := by
 have := Go.take_putCellsI cur xs h
 have h2 : ((Go.Sort.putCells (Value.int .i64) 0 xs.toArray cur).toList.take xs.length)[j]? = some (.int .i64 xs[j]) := by rw [this, List.getElem?_map, List.getElem?_eq_getElem hj]; rfl
 rwa [List.getElem?_take_of_lt hj, Array.getElem?_toList] at h2
theorem put_size {d : Array Int} {cur : Array Value} : (Go.Sort.putCells (Value.int .i64) 0 d cur).size = cur.size := by simp [Go.Sort.putCells]
theorem fits_put {H : Hp} {w w' : World} {g : Nat} {o : Obj} (hf : Fits H w) (hg : w'.heap[g]? = some o) (hk : ∀ k, k < w.heap.size → k ≠ g → w'.heap[k]? = w.heap[k]?) : Fits (H.put g (true, o)) w' := by
 intro b rw' x hb
 by_cases he : b = g
 ·subst he; rw [Hp.put_same] at hb; cases hb; exact hg
 ·rw [Hp.put_other H _ he] at hb
  rw [hk b (hf.lt hb) he]
  exact hf b _ _ hb
section
variable {Ψ : Goroutine → World → Prop} {gm : Nat → Option Nat}
/-- A call that turns a row of integers: from its lone contract. -/
theorem callK_row (tame : Tame Tryz.prog) {g : FuncId} {j m : Nat} {xs zs : List Int} {r : AV} {rv : Option Addr → Nat → Value} (hz : zs.length = xs.length) (hm : m ≤ xs.length)
  (hc : ∀ (b cap : Nat) (w : World), Go.Sort.Holds (Value.int .i64) w b 0 xs.toArray → b < w.heap.size → xs.length ≤ cap → cap ≤ maxLen → Calls Tryz.prog g #[.slice (some ⟨b, 0, none⟩) xs.length cap] w fun e w' => e = .returned (rv (some ⟨b, 0, none⟩) cap) ∧ ∃ n os, w' = Go.Sort.grow (Go.Sort.putRow (Value.int .i64) (Go.Sort.ahead w n) b 0 zs.toArray) os)
  (h0 : xs = [] → ∀ (p : Option Addr) (cap : Nat) (w : World), Calls Tryz.prog g #[.slice p 0 cap] w fun e w' => e = .returned (rv p cap) ∧ w' = w)
  (hr : ∀ (φ : Nat → Loc3) (n cap : Nat) (p : Option Addr), j < n → xs.length ≤ (φ j).cap → rowV (φ j) xs.length (.slice p xs.length cap) → RelV φ n r (rv p cap)) :
  CallK Tryz.prog (BT Tryz.prog Ψ) gm g [.row j xs.length] [(j, .row (xs.map intA) 3 1)] (fun r' K' => r' = r ∧ K' = [(j, .row ((zs.take m).map intA) 3 1)]) := by
 intro A hv hn φ F H vs c cs h1 h2 h3 k
 have hj := hv.get (.head _)
 obtain ⟨y, rfl⟩ : ∃ y, vs = #[y] := by
  have hs : vs.size = 1 := h3.1.symm
  exact ⟨vs[0], by apply Array.ext (by simpa using hs); intro i h1 h2; simp at h2; subst h2; rfl⟩
 have hy := h3.2 0 _ _ rfl rfl
 obtain ⟨hO0, hO1, hO2⟩ := h2.obj j _ hj
 cases hy with
 | row hi hle hrow =>
 have hup : Upd [(j, AObj.row (xs.map intA) 3 1)] j (.row (xs.map intA) 3 1) j (.row ((zs.take m).map intA) 3 1) [(j, .row ((zs.take m).map intA) 3 1)] := .head
 by_cases hx : xs = []
 ·obtain ⟨p, cap, rfl⟩ : ∃ p cap, y = .slice p xs.length cap := by
   unfold rowV at hrow
   split at hrow
   ·obtain ⟨p, rfl⟩ := hrow; exact ⟨p, 0, by rw [hx]; rfl⟩
   ·exact ⟨_, _, hrow⟩
  have hzz : zs.take m = xs := by rw [hx] at hz hm ⊢; rw [List.eq_nil_of_length_eq_zero hz]; simp
  refine callsM_lone tame (Post := fun v H' => v = rv p cap ∧ H' = H) (fun w hf => ?_) Ψ c cs fun v H' hp => ?_
  ·have := h0 hx p cap w
   rw [show xs.length = 0 by rw [hx]; rfl]
   exact this.mono fun e w' ⟨a, b⟩ => ⟨_, a, by rw [b]; exact ⟨rfl, rfl⟩, H, by rw [b]; exact hf, rfl, rfl⟩
  ·obtain ⟨rfl, rfl⟩ := hp
   refine k r A φ H' _ ⟨_, ?_, rfl, rfl⟩ (Agr.refl _ _) (Nat.le_refl _) h2 (hr φ _ cap p hi hle hrow)
   rw [hzz]
   exact Kstep.same hv hn
 ·have hcap : 0 < (φ j).cap := by
   rcases Nat.eq_zero_or_pos (φ j).cap with h | h
   ·exact absurd (hO0 h) (by simpa using hx)
   ·exact h
  obtain ⟨cur, q1, q2, q3, q4, q5⟩ := hO2 hcap
  have hrow' := hrow
  unfold rowV at hrow
  rw [if_neg (by omega)] at hrow
  subst hrow
  rw [List.length_map] at q4
  have hput : zs.length ≤ cur.size := by omega
  refine callsM_lone tame (Post := fun v H' => v = rv (some ⟨(φ j).blk, 0, none⟩) (φ j).cap ∧ H' = H.put (φ j).blk (true, .cells (Go.Sort.putCells (Value.int .i64) 0 zs.toArray cur) 3 (0, 0))) (fun w hf => ?_) Ψ c cs fun v H' hp => ?_
  ·have hb := hf _ _ _ q1
   refine (hc (φ j).blk (φ j).cap w (Go.holds_of_blockI hb (intsA_take q5)) (Array.getElem?_eq_some_iff.1 hb).1 hle q3).mono fun e w' ⟨a, n, os, b⟩ => ⟨_, a, by rw [b]; exact ⟨rfl, rfl⟩, _, ?_, rfl, rfl⟩
   subst b
   obtain ⟨_, _, _, _, hg⟩ := Go.grownBy_sortedI (w := w) (g := (φ j).blk) (n := n) (os := os) zs.toArray
   exact fits_put hf (Go.heap_sortedI zs.toArray hb) fun k' h1 h2 => hg k' h1 (fun e => h2 (by cases e; rfl))
  ·obtain ⟨rfl, rfl⟩ := hp
   refine k r (A.set j (.row ((zs.take m).map intA) 3 1)) φ _ _ ⟨_, Kstep.set hv hn hup, rfl, rfl⟩ (Agr.refl _ _) (by simp) (h2.set hj rfl hcap ?_) (by simpa using hr φ A.length _ _ hi hle hrow')
   refine ⟨fun h => by omega, hO1, fun _ => ⟨_, Hp.put_same _ _ _, by rw [put_size]; exact q2, q3, by rw [List.length_map, List.length_take, put_size]; omega, fun i a ha => ?_⟩⟩
   rw [List.getElem?_map, Option.map_eq_some_iff] at ha
   obtain ⟨z, hz1, rfl⟩ := ha
   rw [List.getElem?_take] at hz1
   split at hz1
   ·obtain ⟨hz2, rfl⟩ := List.getElem?_eq_some_iff.1 hz1
    exact ⟨_, put_get hput hz2, .v _⟩
   ·cases hz1
theorem compact_len (xs : List Int) : (Lib.compact xs).length ≤ xs.length := by
 unfold Lib.compact Lib.compactUpTo
 rw [List.length_map]
 exact Nat.le_trans (List.length_filter_le _ _) (by simp)
def sortI (xs : List Int) : List Int := xs.mergeSort fun x y => decide (x ≤ y)
theorem sortI_len (xs : List Int) : (sortI xs).length = xs.length := List.length_mergeSort _
theorem sort_ok (tame : Tame Tryz.prog) {j : Nat} {xs : List Int} (hlen : xs.length ≤ 100000) : CallK Tryz.prog (BT Tryz.prog Ψ) gm 93 [.row j xs.length] [(j, .row (xs.map intA) 3 1)] (fun r K' => r = .tup [] ∧ K' = [(j, .row ((sortI xs).map intA) 3 1)]) := by
 have h := callK_row (gm := gm) (Ψ := Ψ) tame (g := 93) (j := j) (m := xs.length) (xs := xs) (zs := sortI xs) (r := .tup []) (rv := fun _ _ => .tuple #[]) (sortI_len xs) (Nat.le_refl _)
  (fun b cap w hH hb h1 h2 => Any.slices_Sort_int Tryz.lays189 b 0 cap xs w hH hb (by omega))
  (fun _ p cap w => Any.slices_Sort_int_none Tryz.lays189 p cap w)
  (fun φ n cap p _ _ _ => .tup rfl (fun j a y ha => by simp at ha))
 rw [show (sortI xs).take xs.length = sortI xs by rw [← sortI_len xs]; exact List.take_length] at h
 exact h
theorem compact_ok (tame : Tame Tryz.prog) {j : Nat} {xs : List Int} : CallK Tryz.prog (BT Tryz.prog Ψ) gm 94 [.row j xs.length] [(j, .row (xs.map intA) 3 1)] (fun r K' => r = .row j (Lib.compact xs).length ∧ K' = [(j, .row ((Lib.compact xs).map intA) 3 1)]) := by
 have hl := compact_len xs
 have h := callK_row (gm := gm) (Ψ := Ψ) tame (g := 94) (j := j) (m := (Lib.compact xs).length) (xs := xs) (zs := Lib.compact xs ++ List.replicate (xs.length - (Lib.compact xs).length) 0) (r := .row j (Lib.compact xs).length) (rv := fun p cap => .slice p (Lib.compact xs).length cap) (by simp; omega) hl
  (fun b cap w hH hb h1 h2 => (Any.slices_Compact_int Tryz.lays20 b 0 cap xs w hH (by unfold maxLen at h2; omega) h1).mono fun e w' ⟨a, q, b⟩ => ⟨a, q, #[], by rw [b, Go.Sort.grow_empty]⟩)
  (fun hx p cap w => (Any.slices_Compact_int_empty Tryz.lays20 p cap w).mono fun e w' ⟨a, b⟩ => ⟨by rw [a, show (Lib.compact xs).length = 0 by subst hx; simpa using hl], b⟩)
  (fun φ n cap p hn hle hrow => by
   refine .row hn (by omega) ?_
   unfold rowV at hrow ⊢
   split at hrow
   ·rename_i h
    obtain ⟨q, hq⟩ := hrow
    rw [if_pos h]
    injection hq with h1 h2 h3
    exact ⟨q, by rw [h1, h3, show (Lib.compact xs).length = 0 by omega]⟩
   ·rename_i h
    rw [if_neg h]
    injection hrow with h1 h2 h3
    rw [h1, h3])
 rw [List.take_left' rfl] at h
 exact h
end
def countsM (b : Bk) : List Int := Lib.compact (sortI ((statesM b).map fun S => (S.length : Int)))


theorem counts_ok (tame : Tame Tryz.prog) {Ψ : Goroutine → World → Prop} {b : Bk} {s e : Nat} (hse : s ≠ e) (hn : ∀ x ∈ b.seekers, x.name.size ≤ 1000) (hl : b.seen.length ≤ 1000) : CallK Tryz.prog (BT Tryz.prog Ψ) gmS 43 [.agg (bookC b s e)] [(0, checksG), (1, saysG), (s, saysO b), (e, seenO b)] (fun r K' => (askM b true ≠ 0 ∧ r = .tup [.v (.slice none 0 0), intA (askM b true)] ∧ K' = [(0, checksG), (1, saysG), (s, saysO b), (e, seenO b)]) ∨ (askM b true = 0 ∧ ∃ j, r = .tup [.row j (countsM b).length, intA 0] ∧ K' = [(0, checksG), (1, saysG), (s, saysO b), (e, seenO b), (j, .row ((countsM b).map intA) 3 1)])) := by
 have hT := shut_BT tame Ψ
 refine callK_in 34 hT Tryz.func43 fun Y hret => ?_
 refine au [4, 5, 21] ?_
 intro jb hjb
 refine au [2, 2, 3, 4, 5, 8] ?_
 refine TK.cl rfl rfl rfl rfl (ask_ok hT (b := b) (s := s) (e := e) (t := true) hse hn hl rfl (fun hb => callFK_fn Cal.h (always_ok hT))) ?_
 rintro r1 K2 h3
 rcases h3 with ⟨hb0, rfl, rfl⟩ | ⟨jl, jm, om, hb0, hom, rfl, rfl⟩
 ·refine au [1, 10, 10, 22] ?_
  intro jx hjx
  refine au [17, 2, 3, 4, 4, 5, 1, 6, 3, 20] ?_
  refine ⟨fun hc0 => ?_, fun hc0 => ?_⟩
  ·
   refine au [4, 5, 1, 2, 2, 3] ?_
   refine TK.rt hret [(0, _), (1, _), (s, _), (e, _)] ?_
   exact .inl ⟨hb0, rfl, rfl⟩
  exact absurd (by simpa using hc0) hb0
 ·refine au [1, 10, 10, 22] ?_
  intro jx hjx
  refine au [17, 2, 3, 4, 4, 5, 1, 6, 3, 20] ?_
  refine ⟨fun hc0 => ?_, fun hc0 => ?_⟩
  ·exact absurd hc0 (by decide)
  obtain ⟨hck, hth, hne⟩ := ask_zero hb0
  have hb := bkOk_of hck
  have hLo := statesM_ok hb
  have hLn := statesM_len hb
  refine au [12, 4, 5, 2] ?_
  refine TK.virt 6 3 1 rfl fun j01 hj01 => ?_
  refine au [3, 4, 4, 5, 7, 9, 28, 1, 3, 13] ?_
  refine TK.maskL [6, 18, 19, 20] ?_
  refine TK.kp [(jx, _), (jm, _), (jl, _), (jb, _), (0, _), (1, _), (s, _), (e, _), (j01, _)] ?_
  refine TK.loopN (fun n env K => ∃ (i j1 : Nat), n = (statesM b).length - i ∧ i ≤ (statesM b).length ∧ env = slotsA 34 [(6, .row j1 (((statesM b).take i).map fun S => (S.length : Int)).length), (18, .sl jl 0 (statesM b).length), (19, intA (statesM b).length), (20, intA i)] ∧ K = [(jx, .cells (knownC b s e (.sl jl 0 (statesM b).length) jm) 107 true), (jm, .raw om), (jl, listO (statesM b)), (jb, .cells (bookC b s e) 27 true), (0, checksG), (1, saysG), (s, saysO b), (e, seenO b), (j1, .row ((((statesM b).take i).map fun S => (S.length : Int)).map intA) 3 1)]) (statesM b).length ⟨0, j01, rfl, Nat.zero_le _, rfl, rfl⟩ fun n env K hI' hnext => ?_
  obtain ⟨i, j1, rfl, hi, rfl, rfl⟩ := hI'
  refine au [4, 5, 6, 3, 4, 20] ?_
  refine ⟨fun hc1 => ?_, fun hc1 => ?_⟩
  ·simp only [decide_eq_true_eq] at hc1
   have hil : i < (statesM b).length := by omega
   have htl : (((statesM b).take i).map fun S => (S.length : Int)).length ≤ 65536 := by rw [List.length_map, List.length_take]; omega
   refine au [12, 4, 13, 4, 5, 36] ?_
   refine TK.a rfl (q_load rfl rfl TySz.h (by repeat (first | exact List.Mem.head _ | assumption | apply List.Mem.tail)) (list_at (statesM b) i hil)) ?_
   refine au [22] ?_
   intro j9 hj9
   refine au [17, 3, 5, 1, 7, 9] ?_
   refine TK.newR rfl rfl rfl (n_buildSlice (l := [_]) rfl SlEl.h TyZ.h (by decide) (by decide) rfl) (fun _ => putS rfl (by simp only [List.set]; rfl)) fun j4 hj4 => ?_
   refine TK.appR rfl rfl rfl (a_app rfl ApOf.h rfl (by repeat (first | exact List.Mem.head _ | assumption | apply List.Mem.tail)) (by simp <;> omega) rfl (src_row (ln := [_]) (by repeat (first | exact List.Mem.head _ | assumption | apply List.Mem.tail)) (by decide) (by simp) rfl) (by omega) rfl (by unfold maxLen; omega) (by omega)) (fun _ => (by repeat (first | exact Upd.head | apply Upd.tail))) (fun _ => putS rfl (by simp only [List.set]; rfl)) fun j3 => ?_
   refine au [2, 3, 14, 5, 23, 1, 3] ?_
   refine TK.maskL [6, 18, 19, 20] ?_
   refine TK.kp [(jx, _), (jm, _), (jl, _), (jb, _), (0, _), (1, _), (s, _), (e, _), (j3, _)] ?_
   have e1 : ((statesM b).take (i + 1)).map (fun S => (S.length : Int)) = ((statesM b).take i).map (fun S => (S.length : Int)) ++ [((statesM b)[i].length : Int)] := by rw [List.take_add_one, List.getElem?_eq_getElem hil, List.map_append]; rfl
   exact hnext _ _ _ (by omega) ⟨i + 1, j3, rfl, by omega, by rw [e1, List.length_append]; rfl, by rw [e1, List.map_append]; rfl⟩
  simp only [decide_eq_false_iff_not] at hc1
  obtain rfl : i = (statesM b).length := by omega
  rw [List.take_length]
  refine au [16, 4, 5, 1] ?_
  refine TK.cl rfl rfl rfl rfl (sort_ok tame (by rw [List.length_map]; omega)) ?_
  rintro r5 K6 ⟨rfl, rfl⟩
  refine au [] ?_
  rw [← sortI_len ((statesM b).map fun S => (S.length : Int))]
  refine au [3, 4, 5, 1] ?_
  refine TK.cl rfl rfl rfl rfl (compact_ok tame) ?_
  rintro r8 K9 ⟨rfl, rfl⟩
  refine au [2, 2, 3] ?_
  refine TK.rt hret [(0, _), (1, _), (s, _), (e, _), (j1, _)] ?_
  exact .inr ⟨hb0, j1, rfl, rfl⟩
end Go.Vel
end
section
set_option linter.all false
set_option maxRecDepth 20000
set_option maxHeartbeats 60000000
namespace Go.Vel
open Go Go.Conc Go.Proofs

section
variable {P : Program} {gm : Nat → Option Nat} {T : Goroutine → Hp → Prop} {Y : KX P gm T} {ds : List Nat} {k : List Item} {env env' : List AV} {K K' : KV}
theorem TK.nilAgg (d p : Nat) (e : TypeId) {l : List AV} {x : Option Addr} {c : Nat} (hx : env[d]? = some (.agg l)) (hp : l[p]? = some (.v (.slice x 0 c))) (h : ∀ j, j ∉ keys K → TK Y ds k (env.set d (.agg (l.set p (.sl j 0 0)))) ((j, .cells [] e false) :: K)) : TK Y ds k env K := fun A hA φ H ts h1 h2 h3 h4 h5 h6 => by
 have hk : A.length ∉ keys K := fun hm => absurd (hA.view.lt hm) (Nat.lt_irrefl _)
 have hH := h5.virtO (o := .cells [] e false) (fun φ n hl => absurd rfl hl) (fun hl => hl rfl)
 have hag := agr_upd3 φ A.length ⟨0, 0, 0⟩
 have hlen : (A ++ [AObj.cells [] e false]).length = A.length + 1 := by simp
 have hds : dsC (upd3 φ A.length ⟨0, 0, 0⟩) ds = dsC φ ds := by
  unfold dsC
  exact List.map_congr_left fun d hd' => by rw [hag d (h4 d hd')]
 rw [← hds]
 refine h _ hk _ (hA.step (.push hA.view hA.nd _)) _ H ts (h1.trans hag h2) (by omega) (h3.mono hag (by omega)) (fun d hd => by have := h4 d hd; omega) hH ?_
 have hE := h6.mono (n' := (A ++ [AObj.cells [] e false]).length) hag (by omega)
 exact hE.set' hx fun y hy => by
  obtain ⟨ys, rfl, q1, q2⟩ := inv_agg hy
  refine .agg (by simpa using q1) fun t u z hu hz => ?_
  rw [List.getElem?_set] at hu
  split at hu
  ·rename_i ht
   subst ht
   split at hu
   ·cases hu
    have := q2 p _ z hp hz
    rw [inv_v this]
    exact .sl (by omega) (Nat.zero_le _) fun hp => absurd hp (Nat.lt_irrefl _)
   ·cases hu
  ·exact q2 t u z hu hz
end
def greatM (b : Bk) : Bool := decide (b.seekers.length > 20) || decide (b.seen.length > 20) || b.seekers.any fun x => decide (x.name.size > 100)
theorem any_all {α : Type} {xs : List α} {p : α → Bool} (h : (xs.take xs.length).any p = false) : xs.any p = false := by rwa [List.take_length] at h
theorem any_all_of {α : Type} {xs : List α} {p : α → Bool} {i : Nat} {x : α} (h : xs[i]? = some x) (he : p x = true) : xs.any p = true := List.any_eq_true.2 ⟨x, List.mem_of_getElem? h, he⟩
theorem great_small {b : Bk} (h : greatM b = false) : b.seekers.length ≤ 20 ∧ b.seen.length ≤ 20 ∧ ∀ x ∈ b.seekers, x.name.size ≤ 100 := by
 unfold greatM at h
 simp only [Bool.or_eq_false_iff, decide_eq_false_iff_not] at h
 refine ⟨by omega, by omega, fun x hx => ?_⟩
 have := List.any_eq_false.1 h.2 x hx
 simp at this
 omega
def exB : Bk := ⟨8, 1, 1, 1, [⟨⟨#[97, 110, 110]⟩, 1, 3, 0, false⟩, ⟨⟨#[98, 111]⟩, 2, 5, 1, false⟩, ⟨⟨#[99, 121]⟩, 3, 6, 0, false⟩], []⟩
def exB2 : Bk := { exB with low := 2, high := 2 }
def exX : Says := ⟨⟨#[100, 105]⟩, 5, 1, 0, true⟩
theorem ex_check : checkM exB = 0 := by kernel_rfl
theorem ex_all : allM exB = [[0],[1],[2],[3],[4],[5],[6],[7]] := by kernel_rfl
theorem ex_states : statesM exB = [[1],[3],[6]] := by kernel_rfl
theorem ex_ask : askM exB true = 0 := by kernel_rfl
theorem ex_r0 : rightApi exB [3] 0 = (true, 0) := by kernel_rfl
theorem ex_r1 : rightApi exB [3] 1 = (false, 0) := by kernel_rfl
theorem ex_s3 : stateApi exB [3] = (true, 0) := by kernel_rfl
theorem ex_s4 : stateApi exB [4] = (false, 0) := by kernel_rfl
theorem ex_st : statesApi exB = (3, 0) := by kernel_rfl
theorem ex_at1 : atApi exB 1 = (0, 0) := by kernel_rfl
theorem ex_at0 : atApi exB 0 = (2, 0) := by kernel_rfl
theorem ex_p1 : pickL exB 1 exB.steps.toNat = [] := by kernel_rfl
theorem ex_p0 : pickL exB 0 exB.steps.toNat = [1, 3, 6] := by kernel_rfl
theorem ex_w : withinApi exB 6 1 = ((0, 1), 0) := by kernel_rfl
theorem ex_n : narrowApi exB = ((1, 6), true, 0) := by kernel_rfl
theorem ex_wr : wrongApi exB 0 = (0, 0) := by kernel_rfl
theorem ex_g0 : guessM exB (allM exB) ≠ [] := by decide +kernel
theorem ex_li : likelyM exB = ([1], 1) := by kernel_rfl
theorem ex_t : togM exB (everyM exB) = false := by kernel_rfl
theorem ex_cl : clashM exB = [0, 1, 2] := by kernel_rfl
theorem ex_askA : askApi exB = (1, 2, 0) := by kernel_rfl
theorem ex_lend : lendApi exB = (0, 2, 0) := by kernel_rfl
theorem ex_giv : giveM exB 0 = 0 := by kernel_rfl
theorem ex_g2 : statesApi (giveB exB 0) = (2, 0) := by kernel_rfl
theorem ex_g3 : narrowApi (giveB exB 0) = ((1, 3), true, 0) := by kernel_rfl
theorem ex_lk : newsM exB (lookB exB ⟨3, true⟩) = 0 := by kernel_rfl
theorem ex_lk2 : statesApi (lookB exB ⟨3, true⟩) = (1, 0) := by kernel_rfl
theorem ex_hr : newsM exB (hearB exB exX) = 0 := by kernel_rfl
theorem ex_hr2 : statesApi (hearB exB exX) = (2, 0) := by kernel_rfl
theorem ex2_st : statesApi exB2 = (17, 0) := by kernel_rfl
theorem ex2_ck : checkM exB2 = 0 := by kernel_rfl
theorem ex2_g : guessM exB2 (allM exB2) ≠ [] := by decide +kernel
theorem ex2_li : likelyM exB2 = ([1, 6], 0) := by kernel_rfl
theorem ex2_t : togM exB2 (everyM exB2) = true := by kernel_rfl
theorem ex_cnt : (statesM exB).map (fun S => (S.length : Int)) = [1, 1, 1] := by rw [ex_states]; rfl
theorem ex_counts : countsM exB = [1] := by
 unfold countsM sortI
 rw [ex_cnt, List.mergeSort_of_pairwise (by decide)]
 decide +kernel


theorem great_ok {main : Bool} {T : Goroutine → Hp → Prop} (hT : Shut Tryz.prog main T) {gm : Nat → Option Nat} {b : Bk} {s e : Nat} :
  CallK Tryz.prog T gm 57 [.agg (bookC b s e)] [(s, saysO b)] (fun r K' => r = boolA (greatM b) ∧ K' = [(s, saysO b)]) := by
 refine callK_in 29 hT Tryz.func57 fun Y hret => ?_
 refine au [4, 5, 21] ?_
 intro jb hjb
 refine au [2, 3, 4, 4, 5, 7, 9, 28, 6, 1] ?_
 refine TK.sp 8 (fun g1_5 => ?_) (fun g1_5 => ?_)
 ·refine au [11, 11, 11, 11, 26, 3, 18, 4, 5, 2, 3] ?_
  refine TK.rt hret [(s, _)] ?_
  exact ⟨by unfold greatM; rw [show decide (b.seekers.length > 20) = true by have := of_decide_eq_true g1_5; simp; omega]; rfl, rfl⟩
 have hlen20 : b.seekers.length ≤ 20 := by have := of_decide_eq_false g1_5; omega
 refine au [7, 9, 28, 6, 25, 3, 20] ?_
 refine ⟨fun hc0 => ?_, fun hc0 => ?_⟩
 ·refine au [4, 5, 2, 3] ?_
  refine TK.rt hret [(s, _)] ?_
  exact ⟨by unfold greatM; rw [show decide (b.seen.length > 20) = true by have := of_decide_eq_true hc0; simp; omega, Bool.or_true]; rfl, rfl⟩
 refine au [12, 4, 4, 5, 2, 3, 13] ?_
 refine TK.maskL [1, 3] ?_
 refine TK.loopN (fun n env K => ∃ (i : Nat), n = b.seekers.length - i ∧ i ≤ b.seekers.length ∧ ((b.seekers.take i).any fun x => decide (x.name.size > 100)) = false ∧ env = slotsA 29 [(1, .ptr jb 0), (3, intA i)] ∧ K = [(jb, .cells (bookC b s e) 27 true), (s, saysO b)]) b.seekers.length ⟨0, rfl, Nat.zero_le _, rfl, rfl, rfl⟩ fun n env K hI' hnext => ?_
 obtain ⟨i, rfl, hi, hany, rfl, rfl⟩ := hI'
 refine au [4, 4, 5, 1, 7, 9, 28, 6, 3, 20] ?_
 refine ⟨fun hc => ?_, fun hc => ?_⟩
 ·simp only [decide_eq_true_eq] at hc
  have hil : i < b.seekers.length := by omega
  obtain ⟨x, hx⟩ : ∃ x, b.seekers[i]? = some x := ⟨_, List.getElem?_eq_getElem hil⟩
  refine au [12, 4, 13, 4, 5, 7, 9, 1, 36, 7] ?_
  refine TK.a rfl (q_load1 rfl rfl TySz.h (by repeat (first | exact List.Mem.head _ | assumption | apply List.Mem.tail)) (take_fld (says_at' b hx) (by decide) rfl)) ?_
  refine au [29, 6, 3, 20] ?_
  refine ⟨fun hc2 => ?_, fun hc2 => ?_⟩
  ·refine au [4, 5, 2, 3] ?_
   refine TK.rt hret [(s, _)] ?_
   exact ⟨by unfold greatM; rw [any_all_of (p := fun x : Says => decide (x.name.size > 100)) hx (by have := of_decide_eq_true hc2; simp; omega), Bool.or_true]; rfl, rfl⟩
  refine au [12, 14, 5, 1, 23, 2, 3] ?_
  refine TK.maskL [1, 3] ?_
  refine TK.kp [(jb, _), (s, _)] ?_
  exact hnext _ _ _ (by omega) ⟨i + 1, rfl, by omega, any_take_next hx hany (by have := of_decide_eq_false hc2; simp; omega), rfl, rfl⟩
 simp only [decide_eq_false_iff_not] at hc
 obtain rfl : i = b.seekers.length := by omega
 refine au [16, 4, 5, 2, 3] ?_
 refine TK.rt hret [(s, _)] ?_
 exact ⟨by unfold greatM; rw [any_all hany, show decide (b.seekers.length > 20) = false by have := of_decide_eq_false g1_5; simp; omega, show decide (b.seen.length > 20) = false by have := of_decide_eq_false hc0; simp; omega]; rfl, rfl⟩

theorem to_ok {main : Bool} {T : Goroutine → Hp → Prop} (hT : Shut Tryz.prog main T) {gm : Nat → Option Nat} {a z : Int} :
  CallK Tryz.prog T gm 30 [intA a, intA z] [] (fun r K' => r = .agg [intA a, intA z] ∧ K' = []) := by
 refine callK_in 8 hT Tryz.func30 fun Y hret => ?_
 refine au [4, 5, 22] ?_
 intro j1 hj1
 refine au [3, 4, 5, 1, 1, 39, 17, 3] ?_
 refine TK.rt hret [] ?_
 exact ⟨rfl, rfl⟩

theorem one_ok2 {main : Bool} {T : Goroutine → Hp → Prop} (hT : Shut Tryz.prog main T) {gm : Nat → Option Nat} {n : Int} :
  CallK Tryz.prog T gm 56 [intA n] [] (fun r K' => r = .agg [intA n, intA n] ∧ K' = []) := by
 refine callK_in 6 hT Tryz.func56 fun Y hret => ?_
 refine au [4, 5, 22] ?_
 intro j1 hj1
 refine au [3, 4, 5, 1, 1] ?_
 refine TK.cl rfl rfl rfl rfl (to_ok hT) ?_
 rintro r2 K3 ⟨rfl, rfl⟩
 refine au [17, 3] ?_
 refine TK.rt hret [] ?_
 exact ⟨rfl, rfl⟩

theorem lists_ok {main : Bool} {T : Goroutine → Hp → Prop} (hT : Shut Tryz.prog main T) {gm : Nat → Option Nat} {j off j2 off2 : Nat} {ob ob2 : AObj} {xs ys : List Int} (hjj : j ≠ j2) (hI : IntsAt ob off xs) (hI2 : IntsAt ob2 off2 ys) (hlx : xs.length ≤ 100000) :
  CallK Tryz.prog T gm 59 [.sl j off xs.length, .sl j2 off2 ys.length] [(j, ob), (j2, ob2)] (fun r K' => r = boolA (decide (xs = ys)) ∧ K' = [(j, ob), (j2, ob2)]) := by
 refine callK_in 8 hT Tryz.func59 fun Y hret => ?_
 refine au [4, 5, 2, 3, 4, 5, 1, 1] ?_
 refine TK.cl rfl rfl rfl rfl (sameInts_ok hT hjj hI hI2 hlx) ?_
 rintro r1 K2 ⟨rfl, rfl⟩
 refine au [2, 3] ?_
 refine TK.rt hret [(j, _), (j2, _)] ?_
 exact ⟨rfl, rfl⟩

theorem example_ok {main : Bool} {T : Goroutine → Hp → Prop} (hT : Shut Tryz.prog main T) {gm : Nat → Option Nat}  :
  CallK Tryz.prog T gm 58 [] [] (fun r K' => ∃ s e, s ≠ e ∧ r = .agg (bookC exB s e) ∧ K' = [(s, saysO exB), (e, seenO exB)]) := by
 refine callK_in 7 hT Tryz.func58 fun Y hret => ?_
 refine au [4, 5, 22] ?_
 intro j1 hj1
 refine au [3, 4, 5] ?_
 refine TK.cl rfl rfl rfl rfl (one_ok2 hT) ?_
 rintro r2 K3 ⟨rfl, rfl⟩
 refine au [42, 42, 42] ?_
 refine TK.newR rfl rfl rfl (n_buildSlice (l := [_, _, _, _, _, _, _, _, _, _, _, _, _, _, _]) rfl SlEl.h TyZ.h (by decide) (by decide) rfl) (fun _ => putS rfl (by simp only [List.set]; rfl)) fun jS hjS => ?_
 refine TK.freezeR 5 rfl (by repeat (first | exact Upd.head | apply Upd.tail)) rfl ?_
 refine au [43] ?_
 refine TK.nilAgg 6 5 42 rfl rfl fun jE hjE => ?_
 refine au [17, 3] ?_
 refine TK.rt hret [(jS, _), (jE, _)] ?_
 exact ⟨jS, jE, fun h => hjE (by subst h; simp [keys]), rfl, rfl⟩
end Go.Vel
end
