/- Texts for the statements of chapter 9: what all of them need, part 10. It holds of every program, tape and world that the statements name, as each theorem says. -/
import Derived.Test.YtpdioiojfgknbaaDoorProg
import Derived.Test.YtpdioiojfgknbaaDoorRows
import Derived.ProofKit
import Derived.LaidMore
import Derived.LaidHandle
import Derived.LaidOnce
import Derived.OpenShut
import Derived.Stop.Joined
import Derived.Conc.LeavingOf
import Derived.Conc.Holds
import Derived.Carry
import Derived.LaidLaws
import Derived.Test.YtpdioiojfgknbaaDoorCards
import Derived.Test.YtpdioiojfgknbaaDoorTie
import Derived.SevenTiedAt
import Derived.Test.YtpdioiojfgknbaaDoorW0
import Derived.Test.YtpdioiojfgknbaaDoorW4
import Derived.Test.YtpdioiojfgknbaaDoorW5
import Derived.Test.YtpdioiojfgknbaaDoorW7
import Derived.Test.YtpdioiojfgknbaaDoorW8
section
set_option linter.all false
set_option maxRecDepth 20000
set_option maxHeartbeats 60000000
namespace Go.Vel
open Go Go.Proofs
section
variable {P : Program}
theorem ok_text (s : String) : SysOk P (Extern.RuntimeError.text s) := trivial
instance (s : String) : SOk P (Extern.RuntimeError.text s) := ⟨ok_text s⟩
instance {α : Type} (a : α) : SOk P (pure a : Sem α) := ⟨trivial⟩
theorem ok_nothing (a : Array Value) : SysOk P (Extern.RuntimeError.nothing a) := trivial
theorem ok_bounds (a : Array Value) : SysOk P (Extern.RuntimeError.boundsError a) := by
 have hs : ∀ x, SysOk P (stuck x : Sem Value) := fun x => SOk.ok
 rcases a with ⟨_ | ⟨v, _ | ⟨w, l⟩⟩⟩
 ·exact hs _
 ·cases v <;> try exact hs _
  rename_i xs
  rcases xs with ⟨_ | ⟨v1, _ | ⟨v2, _ | ⟨v3, _ | ⟨v4, _ | ⟨v5, l⟩⟩⟩⟩⟩⟩ <;> try exact hs _
  ·cases v1 <;> try exact hs _
   cases v2 <;> try exact hs _
   cases v3 <;> try exact hs _
   cases v4 <;> try exact hs _
   show SysOk P (match (_ : Option String) with | some fmt => Extern.RuntimeError.text _ | none => stuck _)
   split
   ·exact ok_text _
   ·exact hs _
 ·cases v <;> exact hs _
theorem ok_gen {α : Type} (s : Sem α) (h : SysOk P s := by repeat' (first | assumption | exact SOk.ok | exact sysOk_halt _ | (refine sysOk_bind ?_ (fun _ => ?_)) | split | (intro _) | with_reducible exact trivial)) : SysOk P s := h
theorem ok_described (v : Value) : SysOk P (Extern.RuntimeError.described v) := by
 unfold Extern.RuntimeError.described
 repeat' (first | assumption | exact SOk.ok | exact sysOk_halt _ | (refine sysOk_bind ?_ (fun _ => ?_)) | split | (intro _) | with_reducible exact trivial)
instance (v : Value) : SOk P (Extern.RuntimeError.described v) := ⟨ok_described v⟩
theorem ok_pkgpath (v : TypeInfo) : SysOk P (Extern.RuntimeError.pkgpathOf v) := by
 unfold Extern.RuntimeError.pkgpathOf
 exact ok_gen _
instance (v : TypeInfo) : SOk P (Extern.RuntimeError.pkgpathOf v) := ⟨ok_pkgpath v⟩
theorem ok_unhash (a : Array Value) : SysOk P (Extern.RuntimeError.unhashableTypeError a) := by
 have hs : ∀ x, SysOk P (stuck x : Sem Value) := fun x => SOk.ok
 rcases a with ⟨_ | ⟨v, _ | ⟨w, l⟩⟩⟩
 ·exact hs _
 ·cases v <;> try exact hs _
  rename_i xs
  rcases xs with ⟨_ | ⟨t, _ | ⟨v2, l⟩⟩⟩
  ·exact hs _
  ·show SysOk P (Extern.RuntimeError.described t >>= _)
   exact ok_gen _
  ·exact hs _
 ·cases v <;> exact hs _
theorem ok_assert (a : Array Value) : SysOk P (Extern.RuntimeError.typeAssertionError a) := by
 unfold Extern.RuntimeError.typeAssertionError
 exact ok_gen _
theorem lookup_ok {l : List (String × (Array Value → Sem Value))} (h : ∀ x ∈ l, ∀ a, SysOk P (x.2 a)) {k : String} {e : Array Value → Sem Value} (he : l.lookup k = some e) (a : Array Value) : SysOk P (e a) := by
 induction l with
 | nil => cases he
 | cons x l ih =>
  obtain ⟨n, f⟩ := x
  rw [List.lookup_cons] at he
  split at he
  ·cases he; exact h _ List.mem_cons_self a
  ·exact ih (fun x hx => h x (List.mem_cons_of_mem _ hx)) he
theorem errors_ok : ∀ x ∈ Extern.RuntimeError.rows, ∀ a, SysOk P (x.2 a) := by
 intro x hx a
 unfold Extern.RuntimeError.rows at hx
 simp only [List.mem_cons, List.not_mem_nil, or_false] at hx
 rcases hx with rfl | rfl | rfl | rfl | rfl | rfl | rfl | rfl | rfl | rfl | rfl | rfl | rfl | rfl | rfl
 all_goals
  dsimp only
  first
  | exact ok_nothing a
  | exact ok_bounds a
  | exact ok_assert a
  | exact ok_unhash a
  | exact ok_text _
  | exact ok_gen _
theorem kind_ok {e : Array Value → Sem Value} (he : (Extern.ReflectliteType.rows.getLast?).map (·.2) = some e) (a : Array Value) : SysOk P (e a) := by
 unfold Extern.ReflectliteType.rows at he
 simp only [List.getLast?_cons_cons, List.getLast?_singleton, Option.map_some, Option.some.injEq] at he
 subst he
 exact ok_gen _
end
theorem nx0 : Extern.findNext Tryd.f0 = none := Option.isNone_iff_eq_none.1 (by kernel_rfl)
theorem fd0 : Extern.find Tryd.f0 = none := Option.isNone_iff_eq_none.1 (by kernel_rfl)
theorem nx1 : Extern.findNext Tryd.f1 = none := Option.isNone_iff_eq_none.1 (by kernel_rfl)
theorem fd1 : Extern.find Tryd.f1 = none := Option.isNone_iff_eq_none.1 (by kernel_rfl)
theorem nx104 : Extern.findNext Tryd.f104 = none := Option.isNone_iff_eq_none.1 (by kernel_rfl)
theorem fd104 : Extern.find Tryd.f104 = Extern.RuntimeError.rows.lookup Tryd.f104.name := by kernel_rfl
theorem nx105 : Extern.findNext Tryd.f105 = none := Option.isNone_iff_eq_none.1 (by kernel_rfl)
theorem fd105 : Extern.find Tryd.f105 = Extern.RuntimeError.rows.lookup Tryd.f105.name := by kernel_rfl
theorem nx106 : Extern.findNext Tryd.f106 = none := Option.isNone_iff_eq_none.1 (by kernel_rfl)
theorem fd106 : Extern.find Tryd.f106 = Extern.RuntimeError.rows.lookup Tryd.f106.name := by kernel_rfl
theorem nx107 : Extern.findNext Tryd.f107 = none := Option.isNone_iff_eq_none.1 (by kernel_rfl)
theorem fd107 : Extern.find Tryd.f107 = Extern.RuntimeError.rows.lookup Tryd.f107.name := by kernel_rfl
theorem nx108 : Extern.findNext Tryd.f108 = none := Option.isNone_iff_eq_none.1 (by kernel_rfl)
theorem fd108 : Extern.find Tryd.f108 = Extern.RuntimeError.rows.lookup Tryd.f108.name := by kernel_rfl
theorem nx109 : Extern.findNext Tryd.f109 = none := Option.isNone_iff_eq_none.1 (by kernel_rfl)
theorem fd109 : Extern.find Tryd.f109 = Extern.RuntimeError.rows.lookup Tryd.f109.name := by kernel_rfl
theorem nx110 : Extern.findNext Tryd.f110 = none := Option.isNone_iff_eq_none.1 (by kernel_rfl)
theorem fd110 : Extern.find Tryd.f110 = Extern.RuntimeError.rows.lookup Tryd.f110.name := by kernel_rfl
theorem nx111 : Extern.findNext Tryd.f111 = none := Option.isNone_iff_eq_none.1 (by kernel_rfl)
theorem fd111 : Extern.find Tryd.f111 = Extern.RuntimeError.rows.lookup Tryd.f111.name := by kernel_rfl
theorem nx112 : Extern.findNext Tryd.f112 = none := Option.isNone_iff_eq_none.1 (by kernel_rfl)
theorem fd112 : Extern.find Tryd.f112 = Extern.RuntimeError.rows.lookup Tryd.f112.name := by kernel_rfl
theorem nx113 : Extern.findNext Tryd.f113 = none := Option.isNone_iff_eq_none.1 (by kernel_rfl)
theorem fd113 : Extern.find Tryd.f113 = Extern.RuntimeError.rows.lookup Tryd.f113.name := by kernel_rfl
theorem nx114 : Extern.findNext Tryd.f114 = none := Option.isNone_iff_eq_none.1 (by kernel_rfl)
theorem fd114 : Extern.find Tryd.f114 = Extern.RuntimeError.rows.lookup Tryd.f114.name := by kernel_rfl
theorem nx115 : Extern.findNext Tryd.f115 = none := Option.isNone_iff_eq_none.1 (by kernel_rfl)
theorem fd115 : Extern.find Tryd.f115 = Extern.RuntimeError.rows.lookup Tryd.f115.name := by kernel_rfl
theorem nx116 : Extern.findNext Tryd.f116 = none := Option.isNone_iff_eq_none.1 (by kernel_rfl)
theorem fd116 : Extern.find Tryd.f116 = none := Option.isNone_iff_eq_none.1 (by kernel_rfl)
theorem nx117 : Extern.findNext Tryd.f117 = none := Option.isNone_iff_eq_none.1 (by kernel_rfl)
theorem fd117 : Extern.find Tryd.f117 = Extern.RuntimeError.rows.lookup Tryd.f117.name := by kernel_rfl
theorem nx118 : Extern.findNext Tryd.f118 = none := Option.isNone_iff_eq_none.1 (by kernel_rfl)
theorem fd118 : Extern.find Tryd.f118 = Extern.RuntimeError.rows.lookup Tryd.f118.name := by kernel_rfl
theorem nx120 : Extern.findNext Tryd.f120 = none := Option.isNone_iff_eq_none.1 (by kernel_rfl)
theorem fd120 : Extern.find Tryd.f120 = (Extern.ReflectliteType.rows.getLast?).map (·.2) := by kernel_rfl
theorem nx131 : Extern.findNext Tryd.f131 = none := Option.isNone_iff_eq_none.1 (by kernel_rfl)
theorem fd131 : Extern.find Tryd.f131 = none := Option.isNone_iff_eq_none.1 (by kernel_rfl)
theorem nx132 : Extern.findNext Tryd.f132 = none := Option.isNone_iff_eq_none.1 (by kernel_rfl)
theorem fd132 : Extern.find Tryd.f132 = none := Option.isNone_iff_eq_none.1 (by kernel_rfl)
theorem nx133 : Extern.findNext Tryd.f133 = none := Option.isNone_iff_eq_none.1 (by kernel_rfl)
theorem fd133 : Extern.find Tryd.f133 = none := Option.isNone_iff_eq_none.1 (by kernel_rfl)
theorem nx134 : Extern.findNext Tryd.f134 = none := Option.isNone_iff_eq_none.1 (by kernel_rfl)
theorem fd134 : Extern.find Tryd.f134 = none := Option.isNone_iff_eq_none.1 (by kernel_rfl)
theorem tameN : (Tryd.prog.funcs.all fun fn => !(fn.name == "runtime.NumGoroutine")) = true := by kernel_rfl
theorem tameB : ((List.range Tryd.prog.funcs.size).all fun i => [0, 1, 104, 105, 106, 107, 108, 109, 110, 111, 112, 113, 114, 115, 116, 117, 118, 120, 131, 132, 133, 134].elem i || ((Tryd.prog.funcs[i]?).map (·.body.isSome)).getD false) = true := by kernel_rfl
theorem tame : Tame Tryd.prog := fun f fn hf => by
 refine ⟨by simpa using Array.all_eq_true_iff_forall_mem.1 tameN fn (Array.mem_of_getElem? hf), fun hb => ?_⟩
 have hlt := (Array.getElem?_eq_some_iff.1 hf).1
 have h := List.all_eq_true.1 tameB f (List.mem_range.2 hlt)
 rw [hf, Option.map_some, Option.getD_some] at h
 rw [Option.isNone_iff_eq_none] at hb
 rw [hb] at h
 simp only [Option.isSome_none, Bool.or_false, List.elem_eq_mem, decide_eq_true_eq, List.mem_cons, List.not_mem_nil, or_false] at h
 rcases h with rfl | rfl | rfl | rfl | rfl | rfl | rfl | rfl | rfl | rfl | rfl | rfl | rfl | rfl | rfl | rfl | rfl | rfl | rfl | rfl | rfl | rfl
 ·obtain rfl : fn = Tryd.f0 := (Option.some.inj (Tryd.func0.symm.trans hf)).symm
  exact ⟨nx0, fun e he => by rw [fd0] at he; cases he⟩
 ·obtain rfl : fn = Tryd.f1 := (Option.some.inj (Tryd.func1.symm.trans hf)).symm
  exact ⟨nx1, fun e he => by rw [fd1] at he; cases he⟩
 ·obtain rfl : fn = Tryd.f104 := (Option.some.inj (Tryd.func104.symm.trans hf)).symm
  exact ⟨nx104, fun e he args => by rw [fd104] at he; exact lookup_ok errors_ok he args⟩
 ·obtain rfl : fn = Tryd.f105 := (Option.some.inj (Tryd.func105.symm.trans hf)).symm
  exact ⟨nx105, fun e he args => by rw [fd105] at he; exact lookup_ok errors_ok he args⟩
 ·obtain rfl : fn = Tryd.f106 := (Option.some.inj (Tryd.func106.symm.trans hf)).symm
  exact ⟨nx106, fun e he args => by rw [fd106] at he; exact lookup_ok errors_ok he args⟩
 ·obtain rfl : fn = Tryd.f107 := (Option.some.inj (Tryd.func107.symm.trans hf)).symm
  exact ⟨nx107, fun e he args => by rw [fd107] at he; exact lookup_ok errors_ok he args⟩
 ·obtain rfl : fn = Tryd.f108 := (Option.some.inj (Tryd.func108.symm.trans hf)).symm
  exact ⟨nx108, fun e he args => by rw [fd108] at he; exact lookup_ok errors_ok he args⟩
 ·obtain rfl : fn = Tryd.f109 := (Option.some.inj (Tryd.func109.symm.trans hf)).symm
  exact ⟨nx109, fun e he args => by rw [fd109] at he; exact lookup_ok errors_ok he args⟩
 ·obtain rfl : fn = Tryd.f110 := (Option.some.inj (Tryd.func110.symm.trans hf)).symm
  exact ⟨nx110, fun e he args => by rw [fd110] at he; exact lookup_ok errors_ok he args⟩
 ·obtain rfl : fn = Tryd.f111 := (Option.some.inj (Tryd.func111.symm.trans hf)).symm
  exact ⟨nx111, fun e he args => by rw [fd111] at he; exact lookup_ok errors_ok he args⟩
 ·obtain rfl : fn = Tryd.f112 := (Option.some.inj (Tryd.func112.symm.trans hf)).symm
  exact ⟨nx112, fun e he args => by rw [fd112] at he; exact lookup_ok errors_ok he args⟩
 ·obtain rfl : fn = Tryd.f113 := (Option.some.inj (Tryd.func113.symm.trans hf)).symm
  exact ⟨nx113, fun e he args => by rw [fd113] at he; exact lookup_ok errors_ok he args⟩
 ·obtain rfl : fn = Tryd.f114 := (Option.some.inj (Tryd.func114.symm.trans hf)).symm
  exact ⟨nx114, fun e he args => by rw [fd114] at he; exact lookup_ok errors_ok he args⟩
 ·obtain rfl : fn = Tryd.f115 := (Option.some.inj (Tryd.func115.symm.trans hf)).symm
  exact ⟨nx115, fun e he args => by rw [fd115] at he; exact lookup_ok errors_ok he args⟩
 ·obtain rfl : fn = Tryd.f116 := (Option.some.inj (Tryd.func116.symm.trans hf)).symm
  exact ⟨nx116, fun e he => by rw [fd116] at he; cases he⟩
 ·obtain rfl : fn = Tryd.f117 := (Option.some.inj (Tryd.func117.symm.trans hf)).symm
  exact ⟨nx117, fun e he args => by rw [fd117] at he; exact lookup_ok errors_ok he args⟩
 ·obtain rfl : fn = Tryd.f118 := (Option.some.inj (Tryd.func118.symm.trans hf)).symm
  exact ⟨nx118, fun e he args => by rw [fd118] at he; exact lookup_ok errors_ok he args⟩
 ·obtain rfl : fn = Tryd.f120 := (Option.some.inj (Tryd.func120.symm.trans hf)).symm
  exact ⟨nx120, fun e he args => by rw [fd120] at he; exact kind_ok he args⟩
 ·obtain rfl : fn = Tryd.f131 := (Option.some.inj (Tryd.func131.symm.trans hf)).symm
  exact ⟨nx131, fun e he => by rw [fd131] at he; cases he⟩
 ·obtain rfl : fn = Tryd.f132 := (Option.some.inj (Tryd.func132.symm.trans hf)).symm
  exact ⟨nx132, fun e he => by rw [fd132] at he; cases he⟩
 ·obtain rfl : fn = Tryd.f133 := (Option.some.inj (Tryd.func133.symm.trans hf)).symm
  exact ⟨nx133, fun e he => by rw [fd133] at he; cases he⟩
 ·obtain rfl : fn = Tryd.f134 := (Option.some.inj (Tryd.func134.symm.trans hf)).symm
  exact ⟨nx134, fun e he => by rw [fd134] at he; cases he⟩
end Go.Vel
end
section
set_option linter.all false
set_option maxRecDepth 20000
set_option maxHeartbeats 60000000
namespace Go.Vel
open Go Go.Proofs Go.ChangeShapes Go.WideShapes Go.ChangeAt Go.RowKit
def tblLaid : List (String × DataW Unit) := [("velarium/seeker.checks", Go.Proofs.YtpdioiojfgknbaaDoor.Rows.laid_velarium_seeker_checks), ("velarium/seeker.says", Go.Proofs.YtpdioiojfgknbaaDoor.Rows.laid_velarium_seeker_says)]
/-- A table of three functions, read. -/
theorem tbl3 {P : Program} {W : World} {n : String} {d : DataW Unit} {g0 t0 e0 : Nat} {ps rs : Array TypeId} {va : Bool} {b1 b2 b3 : UInt8} {r1 r2 r3 : List UInt8} {f1 f2 f3 : Nat} (h : funcsAt P W n d)
  (hg0 : P.globalNamed n = some g0) (ht0 : (P.globals[g0]?).map (·.type) = some t0) (hu : P.underlying t0 = some (.array 3 e0)) (he : P.underlying e0 = some (.func ps rs va)) (hc : P.cellsOf e0 = 1) (hc3 : P.cellsOf t0 = 3)
  (hd : d.funcsOut = .agg [.held (b1 :: r1), .held (b2 :: r2), .held (b3 :: r3)])
  (q1 : ((List.range P.funcs.size).filter fun f => (P.funcs[f]?).any (·.name.toUTF8.data.toList == b1 :: r1)) = [f1])
  (q2 : ((List.range P.funcs.size).filter fun f => (P.funcs[f]?).any (·.name.toUTF8.data.toList == b2 :: r2)) = [f2])
  (q3 : ((List.range P.funcs.size).filter fun f => (P.funcs[f]?).any (·.name.toUTF8.data.toList == b3 :: r3)) = [f3]) :
  ∃ cur e fz, W.heap[g0]? = some (.cells cur e fz) ∧ cur[0]? = some (.func (.func f1) #[] #[]) ∧ cur[1]? = some (.func (.func f2) #[] #[]) ∧ cur[2]? = some (.func (.func f3) #[] #[]) := by
 obtain ⟨g, t, cs, fuel, p, hg, ht, hv, htr⟩ := h
 obtain rfl := Option.some.inj (hg0.symm.trans hg)
 obtain rfl := Option.some.inj (ht0.symm.trans ht)
 rw [hd] at htr
 obtain ⟨xs, m, rfl, hx, hlen, hn, hel⟩ := DataW.trod_array hu htr
 match xs, hn with
 | [x0, x1, x2], _ =>
 simp only [Prod.mk.injEq, DataW.agg.injEq, List.map_cons, List.map_nil, List.cons.injEq, and_true] at hx
 obtain ⟨⟨e1, e2, e3⟩, _⟩ := hx
 rw [hc3] at hlen
 obtain ⟨l⟩ := cs
 match l, hlen with
 | [c0, c1, c2], _ =>
 have h0 := hel 0 (by decide)
 have h1 := hel 1 (by decide)
 have h2 := hel 2 (by decide)
 rw [hc] at h0 h1 h2
 obtain ⟨x0, y0⟩ := x0
 obtain ⟨x1, y1⟩ := x1
 obtain ⟨x2, y2⟩ := x2
 dsimp only at e1 e2 e3
 subst e1 e2 e3
 obtain rfl := func_of_trod (v := c0) he q1 h0
 obtain rfl := func_of_trod (v := c1) he q2 h1
 obtain rfl := func_of_trod (v := c2) he q3 h2
 have k0 := World.var?_cell hg hv 0
 have k1 := World.var?_cell hg hv 1
 have k2 := World.var?_cell hg hv 2
 simp only [List.getElem?_toArray, List.getElem?_cons_zero, List.getElem?_cons_succ] at k0 k1 k2
 simp only [World.cell?] at k0 k1 k2
 cases hh : W.heap[g0]? with
 | none => rw [hh] at k0; cases k0
 | some o =>
  cases o with
  | cells cur e fz => rw [hh] at k0 k1 k2; exact ⟨cur, e, fz, rfl, by simpa using k0, by simpa using k1, by simpa using k2⟩
  | _ => rw [hh] at k0; cases k0

set_option maxRecDepth 100000 in
theorem of_laid {W : World} (h : laidMetH Tryd.prog tblLaid W) : (∃ cur e fz, W.heap[0]? = some (.cells cur e fz) ∧ cur[0]? = some (.func (.func 121) #[] #[]) ∧ cur[1]? = some (.func (.func 122) #[] #[]) ∧ cur[2]? = some (.func (.func 123) #[] #[])) ∧
  ∃ cur e fz, W.heap[1]? = some (.cells cur e fz) ∧ cur[0]? = some (.func (.func 129) #[] #[]) ∧ cur[1]? = some (.func (.func 119) #[] #[]) ∧ cur[2]? = some (.func (.func 130) #[] #[]) :=
 ⟨tbl3 (h.funcs (n := "velarium/seeker.checks") (List.mem_cons_self ..)) (t0 := 124) (e0 := 123) (by kernel_rfl) (by kernel_rfl) Tryd.underlying124 Tryd.underlying123 (by kernel_rfl) (by kernel_rfl) rfl (by kernel_rfl) (by kernel_rfl) (by kernel_rfl),
  tbl3 (h.funcs (n := "velarium/seeker.says") (List.mem_cons_of_mem _ (List.mem_cons_self ..))) (t0 := 129) (e0 := 128) (by kernel_rfl) (by kernel_rfl) Tryd.underlying129 Tryd.underlying128 (by kernel_rfl) (by kernel_rfl) rfl (by kernel_rfl) (by kernel_rfl) (by kernel_rfl)⟩
end Go.Vel
end
section
set_option linter.all false
set_option maxRecDepth 20000
set_option maxHeartbeats 60000000
namespace Go.Vel
open Go Go.Proofs Go.ChangeShapes Go.WideShapes Go.ChangeAt Go.RowKit
theorem choose_list {α : Type} {p : Nat → α → Prop} : ∀ n, (∀ i, i < n → ∃ z, p i z) → ∃ zs : List α, zs.length = n ∧ ∀ (i : Nat) z, zs[i]? = some z → p i z
 | 0, _ => ⟨[], rfl, fun i z h => by simp at h⟩
 | n + 1, h => by
  obtain ⟨zs, h1, h2⟩ := choose_list n fun i hi => h i (by omega)
  obtain ⟨z, hz⟩ := h n (by omega)
  refine ⟨zs ++ [z], by simp [h1], fun i y hy => ?_⟩
  rcases Nat.lt_or_ge i n with hi | hi
  ·rw [List.getElem?_append_left (by omega)] at hy
   exact h2 i y hy
  ·rw [List.getElem?_append_right (by omega), h1] at hy
   rcases Nat.eq_zero_or_pos (i - n) with h0 | h0
   ·rw [h0] at hy; cases hy
    obtain rfl : i = n := by omega
    exact hz
   ·rw [List.getElem?_eq_none (by simp; omega)] at hy; cases hy
/-- A slice of things of several cells each, opened. -/
theorem open_list {H : Type} {enc : TypeId × Value → H} {P : Program} {W : World} {sp : Nat → Bool} {held : Bool} {α : Type} {vals : α → List Value} {c fuel : Nat} {t e : TypeId} {cs : List Value} {x : DataW H × List MemPlace} (hu : P.underlying t = some (.slice e)) (hce : P.cellsOf e = c) (hpos : 0 < c)
  (hdec : ∀ (m : Nat) cs x, DataW.trod enc P W 0 sp held m e cs = some x → ∃ z, cs = vals z) (h : DataW.trod enc P W 0 sp held fuel t cs = some x) :
  ∃ (zs : List α) (b : Option Addr) (cap : Nat), cs = [.slice b zs.length cap] ∧ zs.length ≤ cap ∧ (0 < zs.length → ∃ blk off cur e' fz, b = some ⟨blk, off, none⟩ ∧ W.heap[blk]? = some (.cells cur e' fz) ∧
   ∀ (i : Nat) z (j : Nat), zs[i]? = some z → j < c → cur[off + (i * c + j)]? = (vals z)[j]?) := by
 rcases DataW.trod_slice hu h with ⟨rfl, _⟩ | ⟨a, len, cap, elems, rest, n, _, rfl, _, _, hlc, _, hel, hat, _, _⟩
 ·exact ⟨[], none, 0, rfl, Nat.le_refl _, fun h => absurd h (by simp)⟩
 ·obtain ⟨zs, hz1, hz2⟩ := choose_list (p := fun i z => W.cells? 0 (a.add (i * P.cellsOf e)) (P.cellsOf e) = some (vals z)) len fun i hi => by
   have := hat i hi
   rw [List.getElem?_eq_getElem (by omega), Option.bind_eq_some_iff] at this
   obtain ⟨cs', h1, h2⟩ := this
   obtain ⟨z, rfl⟩ := hdec _ _ _ h2
   exact ⟨z, h1⟩
  refine ⟨zs, some a, cap, by rw [hz1], by omega, fun hp => ?_⟩
  have hcell : ∀ (i : Nat) z (j : Nat), zs[i]? = some z → j < c → W.cell? ((a.add (i * c)).add j) = (vals z)[j]? := fun i z j hi hj => by
   have := hz2 i z hi
   rw [hce] at this
   exact (World.cells?_some this).2.2 j hj
  have hlen : ∀ (i : Nat) z, zs[i]? = some z → (vals z).length = c := fun i z hi => by
   have := hz2 i z hi
   rw [hce] at this
   exact (World.cells?_some this).2.1
  obtain ⟨z0, hz0⟩ : ∃ z, zs[0]? = some z := ⟨_, List.getElem?_eq_getElem hp⟩
  have h00 := hcell 0 z0 0 hz0 hpos
  rw [List.getElem?_eq_getElem (by rw [hlen 0 z0 hz0]; exact hpos)] at h00
  have hspot : a.spot = none := by simpa [Addr.add] using World.cell?_spot h00
  obtain ⟨blk, off, spot⟩ := a
  dsimp only at hspot
  subst hspot
  have hadd : ∀ n, (⟨blk, off, none⟩ : Addr).add n = ⟨blk, off + n, none⟩ := fun n => by
   unfold Addr.add
   split
   ·rename_i h; subst h; rfl
   ·rfl
  have hadd2 : ∀ n m, ((⟨blk, off, none⟩ : Addr).add n).add m = ⟨blk, off + (n + m), none⟩ := fun n m => by
   rw [hadd]
   unfold Addr.add
   split
   ·rename_i h; subst h; simp
   ·simp [Nat.add_assoc]
  rw [hadd2] at h00
  unfold World.cell? at h00
  dsimp only at h00
  cases hh : W.heap[blk]? with
  | none => rw [hh] at h00; cases h00
  | some o =>
   cases o with
   | cells cur e' fz =>
    refine ⟨blk, off, cur, e', fz, rfl, hh, fun i z j hi hj => ?_⟩
    have := hcell i z j hi hj
    rw [hadd2] at this
    unfold World.cell? at this
    dsimp only at this
    rw [hh] at this
    simpa using this
   | _ => rw [hh] at h00; cases h00
end Go.Vel
end
section
set_option linter.all false
set_option maxRecDepth 20000
set_option maxHeartbeats 60000000
namespace Go.Vel
open Go Go.Proofs Go.ChangeShapes Go.WideShapes Go.ChangeAt Go.RowKit
def saysV (x : Says) : List Value := [.string x.name, .int .i64 x.frm, .int .i64 x.til, .int .i64 x.says, .bool x.glass]
def seenV (x : Seen) : List Value := [.int .i64 x.step, .bool x.seam]
theorem list5 {α : Type} {l : List α} (h : l.length = 5) : ∃ a b c d e, l = [a, b, c, d, e] := by
 match l, h with
 | [a, b, c, d, e], _ => exact ⟨a, b, c, d, e, rfl⟩
theorem list2 {α : Type} {l : List α} (h : l.length = 2) : ∃ a b, l = [a, b] := by
 match l, h with
 | [a, b], _ => exact ⟨a, b, rfl⟩
theorem list6 {α : Type} {l : List α} (h : l.length = 6) : ∃ a b c d e f, l = [a, b, c, d, e, f] := by
 match l, h with
 | [a, b, c, d, e, f], _ => exact ⟨a, b, c, d, e, f, rfl⟩
section
variable {H : Type} {enc : TypeId × Value → H} {W : World} {sp : Nat → Bool} {held : Bool}
theorem some_of {α : Type} {xs : List α} {n i : Nat} (h : xs.length = n) (hi : i < n) : ∃ y, xs[i]? = some y := ⟨_, List.getElem?_eq_getElem (h ▸ hi)⟩
theorem one_field {P : Program} {n : Nat} {t : TypeId} {c : Value} {y : Option (DataW H × List MemPlace)} {z : DataW H × List MemPlace} {l : List Value} (h : DataW.trod enc P W 0 sp held n t l = y) (hy : y = some z) (hl : l = [c]) : DataW.trod enc P W 0 sp held n t [c] = some z := by rw [← hl, h, hy]
theorem dec_says (m : Nat) (cs : List Value) (x : DataW H × List MemPlace) (h : DataW.trod enc Tryd.prog W 0 sp held m 45 cs = some x) : ∃ z, cs = saysV z := by
 obtain ⟨xs, n, rfl, hx, hlen, hxs, hf⟩ := DataW.trod_struct Tryd.underlying45 h
 have hlen' : cs.length = 5 := hlen.trans (by kernel_rfl)
 have hxs' : xs.length = 5 := hxs
 have c9 : Tryd.prog.cellsOf 9 = 1 := by kernel_rfl
 have c3 : Tryd.prog.cellsOf 3 = 1 := by kernel_rfl
 have c56 : Tryd.prog.cellsOf 43 = 1 := by kernel_rfl
 have c4 : Tryd.prog.cellsOf 4 = 1 := by kernel_rfl
 obtain ⟨v0, v1, v2, v3, v4, rfl⟩ := list5 hlen'
 obtain ⟨y0, q0⟩ := some_of hxs' (i := 0) (by decide)
 obtain ⟨y1, q1⟩ := some_of hxs' (i := 1) (by decide)
 obtain ⟨y2, q2⟩ := some_of hxs' (i := 2) (by decide)
 obtain ⟨y3, q3⟩ := some_of hxs' (i := 3) (by decide)
 obtain ⟨y4, q4⟩ := some_of hxs' (i := 4) (by decide)
 obtain ⟨s, e0, _⟩ := DataW.trod_string Tryd.underlying9 (one_field (c := v0) (hf 0 _ rfl) q0 (by show List.take (Tryd.prog.cellsOf 9) (List.drop 0 _) = _; rw [c9]; rfl))
 obtain ⟨a, e1, _⟩ := DataW.trod_int Tryd.underlying3 (one_field (c := v1) (hf 1 _ rfl) q1 (by show List.take (Tryd.prog.cellsOf 3) (List.drop 1 _) = _; rw [c3]; rfl))
 obtain ⟨b, e2, _⟩ := DataW.trod_int Tryd.underlying3 (one_field (c := v2) (hf 2 _ rfl) q2 (by show List.take (Tryd.prog.cellsOf 3) (List.drop 2 _) = _; rw [c3]; rfl))
 obtain ⟨d, e3, _⟩ := DataW.trod_int Tryd.underlying43 (one_field (c := v3) (hf 3 _ rfl) q3 (by show List.take (Tryd.prog.cellsOf 43) (List.drop 3 _) = _; rw [c56]; rfl))
 obtain ⟨g, e4, _⟩ := DataW.trod_bool Tryd.underlying4 (one_field (c := v4) (hf 4 _ rfl) q4 (by show List.take (Tryd.prog.cellsOf 4) (List.drop 4 _) = _; rw [c4]; rfl))
 cases e0; cases e1; cases e2; cases e3; cases e4
 exact ⟨⟨s, a, b, d, g⟩, rfl⟩
theorem dec_seen (m : Nat) (cs : List Value) (x : DataW H × List MemPlace) (h : DataW.trod enc Tryd.prog W 0 sp held m 47 cs = some x) : ∃ z, cs = seenV z := by
 obtain ⟨xs, n, rfl, hx, hlen, hxs, hf⟩ := DataW.trod_struct Tryd.underlying47 h
 have hlen' : cs.length = 2 := hlen.trans (by kernel_rfl)
 have hxs' : xs.length = 2 := hxs
 have c3 : Tryd.prog.cellsOf 3 = 1 := by kernel_rfl
 have c4 : Tryd.prog.cellsOf 4 = 1 := by kernel_rfl
 obtain ⟨v0, v1, rfl⟩ := list2 hlen'
 obtain ⟨y0, q0⟩ := some_of hxs' (i := 0) (by decide)
 obtain ⟨y1, q1⟩ := some_of hxs' (i := 1) (by decide)
 obtain ⟨s, e0, _⟩ := DataW.trod_int Tryd.underlying3 (one_field (c := v0) (hf 0 _ rfl) q0 (by show List.take (Tryd.prog.cellsOf 3) (List.drop 0 _) = _; rw [c3]; rfl))
 obtain ⟨g, e1, _⟩ := DataW.trod_bool Tryd.underlying4 (one_field (c := v1) (hf 1 _ rfl) q1 (by show List.take (Tryd.prog.cellsOf 4) (List.drop 1 _) = _; rw [c4]; rfl))
 cases e0; cases e1
 exact ⟨⟨s, g⟩, rfl⟩
theorem dec_int (m : Nat) (cs : List Value) (x : DataW H × List MemPlace) (h : DataW.trod enc Tryd.prog W 0 sp held m 3 cs = some x) : ∃ z : Int, cs = [.int .i64 z] := by
 obtain ⟨s, e0, _⟩ := DataW.trod_int Tryd.underlying3 h
 exact ⟨s, e0⟩
/-- What is known of a slice that came in. -/
def SlIn (W : World) {α : Type} (vals : α → List Value) (c : Nat) (zs : List α) (v : Value) : Prop := ∃ (b : Option Addr) (cap : Nat), v = .slice b zs.length cap ∧ zs.length ≤ cap ∧ (0 < zs.length → ∃ blk off cur e' fz, b = some ⟨blk, off, none⟩ ∧ W.heap[blk]? = some (.cells cur e' fz) ∧
   ∀ (i : Nat) z (j : Nat), zs[i]? = some z → j < c → cur[off + (i * c + j)]? = (vals z)[j]?)
theorem open_book {v : Value} {d : DataW H} {p : List MemPlace} (hv : ∃ cs, v = .agg cs) (h : DataW.Trod enc Tryd.prog W 0 sp held 27 v d p) : ∃ (b : Bk) (v1 v2 : Value), v = .agg #[.int .i64 b.steps, .int .i64 b.wrong, .int .i64 b.low, .int .i64 b.high, v1, v2] ∧ SlIn W saysV 5 b.seekers v1 ∧ SlIn W seenV 2 b.seen v2 := by
 obtain ⟨ca, rfl⟩ := hv
 obtain ⟨fuel, h⟩ := h
 generalize hcs : (Value.agg ca).cells.toList = cs at h
 obtain ⟨xs, n, rfl, hx, hlen, hxs, hf⟩ := DataW.trod_struct Tryd.underlying27 h
 have hlen' : cs.length = 6 := hlen.trans (by kernel_rfl)
 have hxs' : xs.length = 5 := hxs
 have c3 : Tryd.prog.cellsOf 3 = 1 := by kernel_rfl
 have c23 : Tryd.prog.cellsOf 23 = 2 := by kernel_rfl
 have c24 : Tryd.prog.cellsOf 24 = 1 := by kernel_rfl
 have c25 : Tryd.prog.cellsOf 25 = 1 := by kernel_rfl
 obtain ⟨v0, v1, v2, v3, v4, v5, rfl⟩ := list6 hlen'
 obtain ⟨y0, q0⟩ := some_of hxs' (i := 0) (by decide)
 obtain ⟨y1, q1⟩ := some_of hxs' (i := 1) (by decide)
 obtain ⟨y2, q2⟩ := some_of hxs' (i := 2) (by decide)
 obtain ⟨y3, q3⟩ := some_of hxs' (i := 3) (by decide)
 obtain ⟨y4, q4⟩ := some_of hxs' (i := 4) (by decide)
 obtain ⟨a, e0, _⟩ := DataW.trod_int Tryd.underlying3 (one_field (c := v0) (hf 0 _ rfl) q0 (by show List.take (Tryd.prog.cellsOf 3) (List.drop 0 _) = _; rw [c3]; rfl))
 obtain ⟨b, e1, _⟩ := DataW.trod_int Tryd.underlying3 (one_field (c := v1) (hf 1 _ rfl) q1 (by show List.take (Tryd.prog.cellsOf 3) (List.drop 1 _) = _; rw [c3]; rfl))
 have h2 : DataW.trod enc Tryd.prog W 0 sp held n 23 [v2, v3] = some y2 := by rw [← q2, ← hf 2 _ rfl]; show _ = DataW.trod enc Tryd.prog W 0 sp held n 23 (List.take (Tryd.prog.cellsOf 23) (List.drop 2 _)); rw [c23]; rfl
 obtain ⟨zs, n2, rfl, hz, _, hzs, hg⟩ := DataW.trod_struct Tryd.underlying23 h2
 have hzs' : zs.length = 2 := hzs
 obtain ⟨z0, p0⟩ := some_of hzs' (i := 0) (by decide)
 obtain ⟨z1, p1⟩ := some_of hzs' (i := 1) (by decide)
 obtain ⟨lo, e2, _⟩ := DataW.trod_int Tryd.underlying3 (one_field (c := v2) (hg 0 _ rfl) p0 (by show List.take (Tryd.prog.cellsOf 3) (List.drop 0 _) = _; rw [c3]; rfl))
 obtain ⟨hi, e3, _⟩ := DataW.trod_int Tryd.underlying3 (one_field (c := v3) (hg 1 _ rfl) p1 (by show List.take (Tryd.prog.cellsOf 3) (List.drop 1 _) = _; rw [c3]; rfl))
 obtain ⟨ss, b4, cap4, e4, l4, r4⟩ := open_list (vals := saysV) (c := 5) Tryd.underlying24 (by kernel_rfl) (by decide) dec_says (one_field (c := v4) (hf 3 _ rfl) q3 (by show List.take (Tryd.prog.cellsOf 24) (List.drop 4 _) = _; rw [c24]; rfl))
 obtain ⟨ns, b5, cap5, e5, l5, r5⟩ := open_list (vals := seenV) (c := 2) Tryd.underlying25 (by kernel_rfl) (by decide) dec_seen (one_field (c := v5) (hf 4 _ rfl) q4 (by show List.take (Tryd.prog.cellsOf 25) (List.drop 5 _) = _; rw [c25]; rfl))
 cases e0; cases e1; cases e2; cases e3; cases e4; cases e5
 refine ⟨⟨a, b, lo, hi, ss, ns⟩, _, _, ?_, ⟨b4, cap4, rfl, l4, r4⟩, ⟨b5, cap5, rfl, l5, r5⟩⟩
 have : ca.toList = _ := hcs
 rw [← Array.toArray_toList (xs := ca), this]
end
end Go.Vel
end
section
set_option linter.all false
set_option maxRecDepth 20000
set_option maxHeartbeats 60000000
namespace Go.Vel
open Go Go.Conc Go.Proofs
def locV : Value → Loc3
 | .slice (some a) _ _ => ⟨a.block, a.off, 0⟩
 | _ => ⟨0, 0, 0⟩
/-- All that there is, to be read alone. -/
def holdAll (W : World) : Hp := fun b => (W.heap[b]?).map fun o => (false, o)
theorem holdAll_fits (W : World) : Fits (holdAll W) W := fun b rw' o h => by
 unfold holdAll at h
 obtain ⟨x, h1, h2⟩ := Option.map_eq_some_iff.1 h
 cases h2
 exact h1
theorem holdAll_get {W : World} {b : Nat} {o : Obj} (h : W.heap[b]? = some o) : holdAll W b = some (false, o) := by unfold holdAll; rw [h]; rfl
theorem flat_get {α : Type} {f : α → List AV} {c : Nat} (hc : ∀ x, (f x).length = c) : ∀ (zs : List α) (j : Nat) a, (zs.flatMap f)[j]? = some a → ∃ i z jj, zs[i]? = some z ∧ jj < c ∧ j = i * c + jj ∧ (f z)[jj]? = some a
 | [], j, a, h => by simp at h
 | z :: zs, j, a, h => by
  rw [List.flatMap_cons] at h
  rcases Nat.lt_or_ge j c with hj | hj
  ·rw [List.getElem?_append_left (by rw [hc]; exact hj)] at h
   exact ⟨0, z, j, rfl, hj, by omega, h⟩
  ·rw [List.getElem?_append_right (by rw [hc]; exact hj), hc] at h
   obtain ⟨i, y, jj, h1, h2, h3, h4⟩ := flat_get hc zs _ a h
   exact ⟨i + 1, y, jj, h1, h2, by rw [Nat.succ_mul]; omega, h4⟩
theorem relO_in {W : World} {α : Type} {vals : α → List Value} {f : α → List AV} {c : Nat} {zs : List α} {v : Value} {φ : Nat → Loc3} {n : Nat} {e : TypeId} (h : SlIn W vals c zs v) (hc : ∀ x, (f x).length = c)
  (hrel : ∀ z (jj : Nat) a, (f z)[jj]? = some a → ∃ y, (vals z)[jj]? = some y ∧ RelV φ n a y) : RelO φ n (locV v) (holdAll W) (.cells (zs.flatMap f) e false) := by
 intro hne
 obtain ⟨b, cap, rfl, hle, hq⟩ := h
 have hpos : 0 < zs.length := by
  rcases Nat.eq_zero_or_pos zs.length with h0 | h0
  ·rw [List.eq_nil_of_length_eq_zero h0] at hne; exact absurd rfl hne
  ·exact h0
 obtain ⟨blk, off, cur, e', fz, rfl, hh, hcell⟩ := hq hpos
 refine ⟨false, cur, (e', fz), holdAll_get hh, (fun h => by cases h), fun j a ha => ?_⟩
 obtain ⟨i, z, jj, h1, h2, rfl, h4⟩ := flat_get hc zs j a ha
 obtain ⟨y, h5, h6⟩ := hrel z jj a h4
 exact ⟨y, (hcell i z jj h1 h2).trans h5, h6⟩
theorem relV_in {W : World} {α : Type} {vals : α → List Value} {c : Nat} {zs : List α} {v : Value} {φ : Nat → Loc3} {n i : Nat} (h : SlIn W vals c zs v) (hi : i < n) (hφ : φ i = locV v) : RelV φ n (.sl i 0 zs.length) v := by
 obtain ⟨b, cap, rfl, hle, hq⟩ := h
 refine .sl hi hle fun hpos => ?_
 obtain ⟨blk, off, cur, e', fz, rfl, _⟩ := hq hpos
 rw [hφ]
 rfl
theorem says_rel {φ : Nat → Loc3} {n : Nat} (z : Says) (jj : Nat) (a : AV) (h : (saysC z)[jj]? = some a) : ∃ y, (saysV z)[jj]? = some y ∧ RelV φ n a y := by
 match jj, h with
 | 0, h => cases h; exact ⟨_, rfl, .v _⟩
 | 1, h => cases h; exact ⟨_, rfl, .v _⟩
 | 2, h => cases h; exact ⟨_, rfl, .v _⟩
 | 3, h => cases h; exact ⟨_, rfl, .v _⟩
 | 4, h => cases h; exact ⟨_, rfl, .v _⟩
 | jj + 5, h => simp [saysC] at h
theorem seen_rel {φ : Nat → Loc3} {n : Nat} (z : Seen) (jj : Nat) (a : AV) (h : (seenC z)[jj]? = some a) : ∃ y, (seenV z)[jj]? = some y ∧ RelV φ n a y := by
 match jj, h with
 | 0, h => cases h; exact ⟨_, rfl, .v _⟩
 | 1, h => cases h; exact ⟨_, rfl, .v _⟩
 | jj + 2, h => simp [seenC] at h
theorem int_rel {φ : Nat → Loc3} {n : Nat} (z : Int) (jj : Nat) (a : AV) (h : ([intA z] : List AV)[jj]? = some a) : ∃ y, ([Value.int .i64 z] : List Value)[jj]? = some y ∧ RelV φ n a y := by
 match jj, h with
 | 0, h => cases h; exact ⟨_, rfl, .v _⟩
 | jj + 1, h => simp at h
theorem map_flat (xs : List Int) : xs.map intA = xs.flatMap fun x => [intA x] := by
 induction xs with
 | nil => rfl
 | cons x xs ih => rw [List.map_cons, List.flatMap_cons, ih]; rfl
end Go.Vel
end
section
set_option linter.all false
set_option maxRecDepth 20000
set_option maxHeartbeats 60000000
namespace Go.Vel
open Go Go.Conc Go.Proofs Go.ChangeShapes Go.WideShapes Go.ChangeAt Go.RowKit
theorem fn_rel {φ : Nat → Loc3} {n f : Nat} : RelV φ n (.fn f [] []) (.func (.func f) #[] #[]) := .fn rfl (fun j a y h => by simp at h) rfl (fun j a y h => by simp at h)
theorem tbl_rel {W : World} {φ : Nat → Loc3} {n g f1 f2 f3 : Nat} {e : TypeId} (h : ∃ cur e fz, W.heap[g]? = some (.cells cur e fz) ∧ cur[0]? = some (.func (.func f1) #[] #[]) ∧ cur[1]? = some (.func (.func f2) #[] #[]) ∧ cur[2]? = some (.func (.func f3) #[] #[])) : RelO φ n ⟨g, 0, 0⟩ (holdAll W) (.cells [.fn f1 [] [], .fn f2 [] [], .fn f3 [] []] e false) := by
 intro _
 obtain ⟨cur, e', fz, hh, h0, h1, h2⟩ := h
 refine ⟨false, cur, (e', fz), holdAll_get hh, (fun h => by cases h), fun j a ha => ?_⟩
 match j, ha with
 | 0, ha => cases ha; exact ⟨_, h0, fn_rel⟩
 | 1, ha => cases ha; exact ⟨_, h1, fn_rel⟩
 | 2, ha => cases ha; exact ⟨_, h2, fn_rel⟩
 | j + 3, ha => simp at ha
def KeptAll (W w : World) : Prop := ∀ i, i < W.heap.size → w.heap[i]? = W.heap[i]?
theorem own : ownKnob Tryd.prog.godebug = none := by kernel_rfl
set_option maxRecDepth 100000 in
theorem door_met (os : Os) (args : Array Value) : laidMetH Tryd.prog tblLaid ((World.doorLaid Tryd.prog 400 os).forCall (fun _ _ => 0) ⟨#[], args, []⟩).memory :=
 laidMetH_of_parts3 (fuel := 8) (laidMet_nil _ _) (by kernel_rfl) (by kernel_rfl)
theorem kept_but {W w : World} (ho : w.os = W.os) (hu : w.output = W.output) (hk : KeptAll W w) (may : MemPlace → Prop) : W.keptBut w may := by
 refine ⟨ho, hu, fun i hi => ?_⟩
 rw [hk i hi]
 cases W.heap[i]? with
 | none => rfl
 | some o => cases o <;> simp
theorem same_at {W w : World} (hk : KeptAll W w) {p : MemPlace} (hp : p.block < W.heap.size) : W.sameAt w p := by
 have := hk p.block hp
 cases p with
 | cell b o => exact World.cell?_of_block (w := W) this
 | map b => exact this
theorem okAgg {P : Program} {W : World} {base : Nat} {t : TypeId} {fs : Array Field} {v : Value} (ht : P.underlying t = some (.struct fs)) (h : Value.okWide P W .any base t v) : ∃ cs, v = .agg cs := by
 unfold Value.okWide at h
 rw [ht] at h
 obtain ⟨cs, h1, _⟩ := h
 exact ⟨cs, h1⟩
theorem laid_out : laidOutB Tryd.prog = true := by kernel_rfl
theorem trod_mono {H : Type} {enc : TypeId × Value → H} {W w : World} {t : TypeId} {v : Value} {d : DataW H} {p : List MemPlace} (hl : laidOutB Tryd.prog = true) (h : DataW.Trod enc Tryd.prog W 0 (fun _ => true) true t v d p) (hk : KeptAll W w) (hr : Tryd.prog.readableRec t = true := by kernel_rfl) (hrow : decide (t < Tryd.prog.types.size) = true := by kernel_rfl) : DataW.Trod enc Tryd.prog w 0 (fun b => decide (b < W.heap.size)) true t v d p := by
 have hlt : ∀ x ∈ p, x.block < W.heap.size := by obtain ⟨n, hn⟩ := h; exact DataW.trod_lt n t _ _ hn
 exact WideElems.Trod_stays hl hr (of_decide_eq_true hrow) h (fun x hx => same_at hk (hlt x hx)) (fun x hx => by simpa using hlt x hx)
theorem u8_wf {k : Int} (h : (Lit.int IntKind.u8 k).wf = true) : 0 ≤ k ∧ k < 256 := by
 simp only [Lit.wf, Bool.and_eq_true, decide_eq_true_eq] at h
 have h1 : IntKind.u8.min = 0 := by decide
 have h2 : IntKind.u8.max = 255 := by decide
 omega
theorem open_says {H : Type} {enc : TypeId × Value → H} {W : World} {sp : Nat → Bool} {held : Bool} {v : Value} {d : DataW H} {p : List MemPlace} (hv : ∃ cs, v = .agg cs) (h : DataW.Trod enc Tryd.prog W 0 sp held 45 v d p) : ∃ z : Says, v = .agg (saysV z).toArray := by
 obtain ⟨ca, rfl⟩ := hv
 obtain ⟨fuel, h⟩ := h
 obtain ⟨z, hz⟩ := dec_says _ _ _ h
 have hz : ca.toList = saysV z := hz
 exact ⟨z, by rw [← Array.toArray_toList (xs := ca), hz]⟩
/-- The tied card of a row whose call starts goroutines. -/
theorem holds_tied_goes (Lk : Looks) {p : Pinned} {s : OpenSpec} {c : OpenClaim} (kinds : List LaidKind) (tests : Bool) (har : Bool × String) (lk : Bool)
  (hc : c.holds p s) (hw : c.wfByText s = true)
  (htie : c.laidByTextAt Lk p kinds tests)
  (hst : c.start = .entering) (hnb : c.noBlocks = false ∧ c.again = false) (hm : p.checked.prog.mainIs = some (har.1, har.2.toList)) (hn : (!har.1 && har.2.isEmpty && !lk) = false)
  (hl : ∀ f fn, p.checked.prog.funcNamed c.func = some f → p.checked.prog.funcs[f]? = some fn → lk = p.checked.prog.looks [] ∧ ∀ (j : Nat) t, fn.params[j]? = some t → p.checked.prog.wantsStandIn t = false)
  (hg : true = c.goesBy p.checked.prog) :
  Claim7.holds p (.plain s) { stood := { row := c, standIns := [], harness := har, looks := lk }, kinds := [], alts := [], goes := true, laidByText := true, laidKinds := kinds, laidTests := tests, laidLooks := Lk } := by
 have h6 : ∀ r : OpenClaim, Claim7.isSixth { stood := { row := r, standIns := [], harness := har, looks := lk }, kinds := [] } = false := fun r => by simpa [Claim7.isSixth] using hn
 exact ⟨Claim7.tied_new_at Lk kinds tests (Claim7.new_of_sixth hc har lk hst hnb hm (h6 c) hl) hw, (fun D hD => by cases hD), htie, (fun h => by cases h), hg⟩
end Go.Vel
end
