/- Texts for the statements of chapter 9: what all of them need, part 4. It holds of every program, tape and world that the statements name, as each theorem says. -/
import Derived.Laws.Append
import Derived.KernelRfl
import Derived.Test.YtpdioiojfgknbaaDoorW0
import Derived.Test.YtpdioiojfgknbaaDoorW2
section
set_option linter.all false
set_option maxRecDepth 20000
set_option maxHeartbeats 60000000
namespace Go.Vel
open Go Go.Conc

section
variable {P : Program} {gm : Nat → Option Nat} {φ : Nat → Loc3} {A A' : List AObj} {F H : Hp} {env : List AV} {a : Act} {o : Oper} {r : AV}

theorem ok_index_row {t e : TypeId} {x y : Operand} {k : IntKind} {n : Int} {i len size : Nat} (ho : o.op = .indexAddr t x y) (hx : opnd gm env x = .row i len) (hy : opnd gm env y = .v (.int k n)) (ht : slElem P t = some (e, size)) (h0 : 0 ≤ n) (h1 : n < len)
  {l : List AV} {e' : TypeId} {s' : Nat} (hrow : A[i]? = some (.row l e' s')) : OpOk P gm env A o (.ptr i (n.toNat * size)) A := fun φ F H a hg hH hE => by
 unfold execOp; rw [ho]
 have hx' := opnd_rel hg hE x
 have hy' := opnd_rel hg hE y
 rw [hx] at hx'
 rw [hy] at hy'
 obtain ⟨ti, e1, e2, e3⟩ := slElem_spec ht
 obtain ⟨hi, hl, ez⟩ := inv_row hx'
 obtain ⟨_, hbase, _⟩ := hH.obj i _ hrow
 replace ez := rowV_pos (by omega) ez
 dsimp only
 rw [inv_v hy', ez]
 refine wpS_v ?_
 unfold Instr.indexAt
 refine wpS_bind_eq _ _ _ ?_
 refine wpS_bind_eq _ _ _ (wpS_underlying e1 ?_)
 refine wpS_bind_eq _ _ _ ?_
 refine wpS_bind_eq _ _ _ (wpS_underlying e1 ?_)
 simp only [Bool.and_false]
 rw [if_pos ⟨h0, h1⟩]
 refine wpS_bind_eq _ _ _ (wpS_sizeOf e2 ?_)
 show OpPost φ A F _ A (.value (.pointer (some (Addr.add _ (n.toNat * ti.size))))) H
 rw [add_off, e3, Nat.zero_add]
 have := RelV.ptr (φ := φ) (n := A.length) (off := n.toNat * size) hi
 rw [hbase, Nat.zero_add] at this
 exact OpPost.quiet hH this

theorem ok_index_arr {t e : TypeId} {x y : Operand} {k : IntKind} {n : Int} {i off len size : Nat} {g : Bool} (ho : o.op = .indexAddr t x y) (hx : opnd gm env x = .ptr i off) (hy : opnd gm env y = .v (.int k n)) (ht : arrElem P t = some (len, e, g, size)) (h0 : 0 ≤ n) (h1 : n < len) :
  OpOk P gm env A o (.ptr i (off + n.toNat * size)) A := fun φ F H a hg hH hE => by
 unfold execOp; rw [ho]
 have hx' := opnd_rel hg hE x
 have hy' := opnd_rel hg hE y
 rw [hx] at hx'
 rw [hy] at hy'
 obtain ⟨e1, e2⟩ := arrElem_spec ht
 obtain ⟨ti, td, e5, _, _, e6⟩ := tySize_spec e2
 obtain ⟨hi, ez⟩ := inv_ptr hx'
 dsimp only
 rw [inv_v hy', ez]
 refine wpS_v ?_
 unfold Instr.indexAt
 refine wpS_bind_eq _ _ _ ?_
 refine wpS_bind_eq _ _ _ (wpS_underlying e1 ?_)
 refine wpS_bind_eq _ _ _ ?_
 refine wpS_bind_eq _ _ _ ?_
 refine wpS_bind_eq _ _ _ (wpS_underlying e1 ?_)
 dsimp only
 rw [if_pos ⟨h0, h1⟩]
 refine wpS_bind_eq _ _ _ (wpS_sizeOf e5 ?_)
 show OpPost φ A F _ A (.value (.pointer (some (Addr.add _ (n.toNat * ti.size))))) H
 rw [add_off, e6, Nat.add_assoc]
 exact OpPost.quiet hH (.ptr hi)

/-! ### parts of a struct, of an array -/
def partA (g : Bool) (l : List AV) (off n : Nat) : Option AV := if g then (if off + n ≤ l.length then some (.agg ((l.drop off).take n)) else none) else l[off]?

theorem wpS_part {t : TypeId} {g : Bool} {n off : Nat} {l : List AV} {ys : Array Value} (ht : tySize P t = some (g, n)) (hr : RelL φ A.length l ys) (h : partA g l off n = some r) {Q : Value → Hp → Prop} (hq : ∀ v, RelV φ A.length r v → Q v H) : wpS P (part t ys off) H Q := by
 obtain ⟨ti, td, e5, e7, e8, e6⟩ := tySize_spec ht
 unfold part
 refine wpS_bind_eq _ _ _ (wpS_isAgg e7 ?_)
 rw [e8]
 unfold partA at h
 cases g with
 | true =>
  simp only [if_true] at h ⊢
  split at h
  ·rename_i hle
   cases h
   refine wpS_bind_eq _ _ _ (wpS_sizeOf e5 ?_)
   rw [e6]
   refine hq _ (.agg ?_ fun j u y hu hy => ?_)
   ·have := hr.1; simp; omega
   ·rw [List.getElem?_take] at hu
    split at hu
    ·rename_i hj
     rw [List.getElem?_drop] at hu
     rw [Array.getElem?_extract] at hy
     split at hy
     ·exact hr.2 _ u y hu hy
     ·cases hy
    ·cases hu
  ·cases h
 | false =>
  simp only [Bool.false_eq_true, if_false] at h ⊢
  obtain ⟨y, hy, hr'⟩ := hr.get h
  rw [hy]
  exact hq y hr'

theorem ok_field {t : TypeId} {x : Operand} {k off n : Nat} {g : Bool} {l : List AV} (ho : o.op = .field t x k) (hx : opnd gm env x = .agg l) (hf : fieldOf P t k = some (off, g, n)) (h : partA g l off n = some r) : OpOk P gm env A o r A := fun φ F H a hg hH hE => by
 unfold execOp; rw [ho]
 have hx' := opnd_rel hg hE x
 rw [hx] at hx'
 obtain ⟨ys, e, hr⟩ := inv_agg hx'
 obtain ⟨fs, f, e1, e2, e3, e4⟩ := fieldOf_spec hf
 dsimp only
 rw [e]
 refine wpS_v ?_
 unfold Instr.field
 refine wpS_bind_eq _ _ _ (wpS_underlying e1 ?_)
 simp only [e2]
 refine wpS_bind_eq _ _ _ ?_
 show wpS P (part f.type ys f.offset) H _
 rw [e3]
 exact wpS_part e4 hr h fun v hv => OpPost.quiet hH hv

theorem ok_index {t e : TypeId} {x y : Operand} {k : IntKind} {n : Int} {len size : Nat} {g : Bool} {l : List AV} (ho : o.op = .index t x y) (hx : opnd gm env x = .agg l) (hy : opnd gm env y = .v (.int k n)) (ht : arrElem P t = some (len, e, g, size)) (h0 : 0 ≤ n) (h1 : n < len)
  (h : partA g l (n.toNat * size) size = some r) : OpOk P gm env A o r A := fun φ F H a hg hH hE => by
 unfold execOp; rw [ho]
 have hx' := opnd_rel hg hE x
 have hy' := opnd_rel hg hE y
 rw [hx] at hx'
 rw [hy] at hy'
 obtain ⟨ys, ez, hr⟩ := inv_agg hx'
 obtain ⟨e1, e2⟩ := arrElem_spec ht
 obtain ⟨ti, td, e5, _, _, e6⟩ := tySize_spec e2
 dsimp only
 rw [inv_v hy', ez]
 refine wpS_v ?_
 unfold Instr.index
 refine wpS_bind_eq _ _ _ ?_
 refine wpS_bind_eq _ _ _ (wpS_underlying e1 ?_)
 dsimp only
 rw [if_pos ⟨h0, h1⟩]
 refine wpS_bind_eq _ _ _ (wpS_sizeOf e5 ?_)
 rw [e6]
 exact wpS_part e2 hr h fun v hv => OpPost.quiet hH hv

/-- A byte of a string. -/
theorem ok_index_str {t : TypeId} {x y : Operand} {k : IntKind} {n : Int} {s : ByteArray} {c : UInt8} (ho : o.op = .index t x y) (hx : opnd gm env x = .v (.string s)) (hy : opnd gm env y = .v (.int k n)) (ht : P.underlying t = some .string) (h0 : 0 ≤ n) (h1 : s[n.toNat]? = some c) :
  OpOk P gm env A o (.v (.int .u8 c.toNat)) A := fun φ F H a hg hH hE => by
 unfold execOp; rw [ho]
 have hx' := opnd_rel hg hE x
 have hy' := opnd_rel hg hE y
 rw [hx] at hx'
 rw [hy] at hy'
 dsimp only
 rw [inv_v hy', inv_v hx']
 refine wpS_v ?_
 unfold Instr.index
 refine wpS_bind_eq _ _ _ ?_
 refine wpS_bind_eq _ _ _ (wpS_underlying ht ?_)
 dsimp only
 rw [if_pos h0, h1]
 exact OpPost.quiet hH (.v _)

/-! ### builtins -/
theorem execOp_builtin {b : Builtin} {args : Array Operand} {ts : Array TypeId} (ho : o.op = .call { callee := .builtin b, args := args, argTypes := ts }) (ρ : Operand → Value) :
  execOp ρ o = builtin b ts o.type (args.map fun | .const _ => true | _ => false) (args.map ρ) := by
 unfold execOp; rw [ho]; rfl

/-- How long a slice is. -/
def lenA : AV → Option Nat
 | .sl _ _ n => some n
 | .row _ n => some n
 | .v (.slice _ n _) => some n
 | .e0 => some 0
 | .z0 => some 0
 | _ => none
theorem lenA_rel {n : Nat} {x : AV} {k : Nat} {y : Value} (h : lenA x = some k) (hr : RelV φ n x y) : ∃ b c, y = .slice b k c := by
 cases hr with
 | sl hi hl hb => cases h; exact ⟨_, _, rfl⟩
 | row hi hl hv => cases h; exact rowV_len hl hv
 | v => cases y <;> first | (cases h; exact ⟨_, _, rfl⟩) | cases h
 | e0 a c => cases h; exact ⟨_, _, rfl⟩
 | z0 a => cases h; exact ⟨_, _, rfl⟩
 | _ => cases h

theorem ok_len {x : Operand} {t e : TypeId} {n : Nat} (ho : o.op = .call { callee := .builtin .len, args := #[x], argTypes := #[t] }) (hx : lenA (opnd gm env x) = some n) (ht : P.underlying t = some (.slice e)) : OpOk P gm env A o (.v (.int .i64 n)) A := fun φ F H a hg hH hE => by
 rw [execOp_builtin ho]
 obtain ⟨b, c, e1⟩ := lenA_rel hx (opnd_rel hg hE x)
 simp only [builtin, List.map_toArray, List.map_cons, List.map_nil, e1]
 refine wpS_v ?_
 show wpS P (underlying t >>= _) H _
 refine wpS_bind_eq _ _ _ (wpS_underlying ht ?_)
 exact OpPost.quiet hH (.v _)
theorem ok_len_str {x : Operand} {t : TypeId} {s : ByteArray} (ho : o.op = .call { callee := .builtin .len, args := #[x], argTypes := #[t] }) (hx : opnd gm env x = .v (.string s)) (ht : P.underlying t = some .string) : OpOk P gm env A o (.v (.int .i64 s.size)) A := fun φ F H a hg hH hE => by
 rw [execOp_builtin ho]
 have e1 := opnd_rel hg hE x
 rw [hx] at e1
 simp only [builtin, List.map_toArray, List.map_cons, List.map_nil, inv_v e1]
 refine wpS_v ?_
 show wpS P (underlying t >>= _) H _
 refine wpS_bind_eq _ _ _ (wpS_underlying ht ?_)
 exact OpPost.quiet hH (.v _)

theorem ok_min {x y : Operand} {t u : TypeId} {k k' : IntKind} {m n : Int} (ho : o.op = .call { callee := .builtin .min, args := #[x, y], argTypes := #[t, u] }) (hx : opnd gm env x = .v (.int k m)) (hy : opnd gm env y = .v (.int k' n)) : OpOk P gm env A o (.v (.int k (if n < m then n else m))) A := fun φ F H a hg hH hE => by
 rw [execOp_builtin ho]
 have e1 := opnd_rel hg hE x
 have e2 := opnd_rel hg hE y
 rw [hx] at e1
 rw [hy] at e2
 simp only [builtin, List.map_toArray, List.map_cons, List.map_nil, inv_v e1, inv_v e2]
 refine wpS_v ?_
 exact OpPost.quiet hH (.v _)
theorem ok_max {x y : Operand} {t u : TypeId} {k k' : IntKind} {m n : Int} (ho : o.op = .call { callee := .builtin .max, args := #[x, y], argTypes := #[t, u] }) (hx : opnd gm env x = .v (.int k m)) (hy : opnd gm env y = .v (.int k' n)) : OpOk P gm env A o (.v (.int k (if m < n then n else m))) A := fun φ F H a hg hH hE => by
 rw [execOp_builtin ho]
 have e1 := opnd_rel hg hE x
 have e2 := opnd_rel hg hE y
 rw [hx] at e1
 rw [hy] at e2
 simp only [builtin, List.map_toArray, List.map_cons, List.map_nil, inv_v e1, inv_v e2]
 refine wpS_v ?_
 exact OpPost.quiet hH (.v _)

/-! ### slices of slices -/
/-- A bound that is left out, or a number. -/
def bndA (x : Option AV) (dflt : Nat) : Option Nat := match x with
 | none => some dflt
 | some (.v (.int _ n)) => if 0 ≤ n then some n.toNat else none
 | _ => none

theorem wpS_sliceBound {k : IntKind} {n : Int} {y : Nat} {c : BoundsCode} (h0 : 0 ≤ n) (h1 : n ≤ (y : Int)) {Q : Nat → Hp → Prop} (hq : Q n.toNat H) : wpS P (Instr.sliceBound (.int k n) y c) H Q := by
 unfold Instr.sliceBound
 refine wpS_bind_eq _ _ _ ?_
 show wpS P (if 0 ≤ n ∧ n ≤ (y : Int) then pure n.toNat else _) H _
 rw [if_pos ⟨h0, h1⟩]
 exact hq

theorem bndA_num {x : AV} {d q : Nat} (hx : bndA (some x) d = some q) : ∃ k n, x = .v (.int k n) ∧ 0 ≤ n ∧ q = n.toNat := by
 unfold bndA at hx
 split at hx
 ·rename_i e; cases e
 ·rename_i k n e
  cases e
  split at hx
  ·rename_i h0; cases hx; exact ⟨_, _, rfl, h0, rfl⟩
  ·cases hx
 ·cases hx

theorem wpS_sliceBounds {n0 : Nat} {b : Bool} {len cap l h : Nat} {low high : Option AV} {low' high' : Option Value} (hr1 : ∀ x, low = some x → ∃ y, low' = some y ∧ RelV φ n0 x y) (hr2 : ∀ x, high = some x → ∃ y, high' = some y ∧ RelV φ n0 x y)
  (hn1 : low = none → low' = none) (hn2 : high = none → high' = none) (hl : bndA low 0 = some l) (hh : bndA high len = some h) (h1 : l ≤ h) (h2 : h ≤ cap) {Q : Nat × Nat × Nat → Hp → Prop} (hq : Q (l, h, cap) H) :
  wpS P (Instr.sliceBounds b len cap low' high' none) H Q := by
 unfold Instr.sliceBounds
 refine wpS_bind_eq _ _ _ ?_
 simp only [wpS_pure]
 cases high with
 | none =>
  rw [hn2 rfl]
  obtain rfl : len = h := by simpa [bndA] using hh
  dsimp only
  refine wpS_bind_eq _ _ _ ?_
  simp only [wpS_pure]
  cases low with
  | none =>
   rw [hn1 rfl]
   obtain rfl : 0 = l := by simpa [bndA] using hl
   exact hq
  | some x =>
   obtain ⟨y, rfl, hr⟩ := hr1 x rfl
   obtain ⟨k, n, rfl, h0, rfl⟩ := bndA_num hl
   rw [inv_v hr]
   dsimp only
   exact wpS_bind_eq _ _ _ (wpS_sliceBound (y := len) h0 (by omega) hq)
 | some z =>
  obtain ⟨y', rfl, hr'⟩ := hr2 z rfl
  obtain ⟨k', n', rfl, h0', rfl⟩ := bndA_num hh
  rw [inv_v hr']
  dsimp only
  refine wpS_bind_eq _ _ _ (wpS_sliceBound (y := cap) h0' (by omega) ?_)
  cases low with
  | none =>
   rw [hn1 rfl]
   obtain rfl : 0 = l := by simpa [bndA] using hl
   exact hq
  | some x =>
   obtain ⟨y, rfl, hr⟩ := hr1 x rfl
   obtain ⟨k, n, rfl, h0, rfl⟩ := bndA_num hl
   rw [inv_v hr]
   dsimp only
   exact wpS_bind_eq _ _ _ (wpS_sliceBound (y := n'.toNat) h0 (by omega) hq)

/-- What is sliced of object i. -/
def subA (i off size l h : Nat) : AV := .sl i (off + l * size) (h - l)

theorem subA_rel {i off size l h cap n : Nat} (hi : i < n) (h1 : l ≤ h) (h2 : h ≤ cap) {b : Option Addr} (hb : 0 < cap → b = some ⟨(φ i).blk, (φ i).base + off, none⟩) : RelV φ n (subA i off size l h) (.slice (if cap = l then b else Option.map (fun x : Addr => x.add (l * size)) b) (h - l) (cap - l)) := by
 refine .sl hi (by omega) fun hpos => ?_
 rw [if_neg (by omega), hb (by omega), Option.map_some, add_off, Nat.add_assoc]

theorem opt_rel {n : Nat} (hg : RelG gm φ n) (hE : RelL φ n env a.tmps) (x : Option Operand) : ∀ u, x.map (opnd gm env) = some u → ∃ y, x.map a.eval = some y ∧ RelV φ n u y := by
 intro u hu
 cases x with
 | none => cases hu
 | some x => cases hu; exact ⟨_, rfl, opnd_rel hg hE x⟩

theorem ok_slice_sl {t e : TypeId} {x : Operand} {lo hi : Option Operand} {i off len size l h : Nat} (ho : o.op = .slice t x lo hi none) (hx : opnd gm env x = .sl i off len) (ht : slElem P t = some (e, size))
  (hlo : bndA (lo.map (opnd gm env)) 0 = some l) (hhi : bndA (hi.map (opnd gm env)) len = some h) (h1 : l ≤ h) (h2 : h ≤ len) : OpOk P gm env A o (subA i off size l h) A := fun φ F H a hg hH hE => by
 unfold execOp; rw [ho]
 have hx' := opnd_rel hg hE x
 rw [hx] at hx'
 obtain ⟨ti, e1, e2, e3⟩ := slElem_spec ht
 obtain ⟨hi', cap, b, hl, hb, ez⟩ := inv_sl hx'
 dsimp only
 rw [ez]
 refine wpS_v ?_
 unfold Instr.sliceAt
 refine wpS_bind_eq _ _ _ (wpS_underlying e1 ?_)
 dsimp only
 unfold Instr.slice
 refine wpS_bind_eq _ _ _ (wpS_underlying e1 ?_)
 dsimp only
 refine wpS_bind_eq _ _ _ (wpS_sliceBounds (opt_rel hg hE lo) (opt_rel hg hE hi) (fun e => by cases lo <;> first | rfl | cases e) (fun e => by cases hi <;> first | rfl | cases e) hlo hhi h1 (by omega) ?_)
 dsimp only
 refine wpS_bind_eq _ _ _ (wpS_sizeOf e2 ?_)
 rw [e3]
 rcases Nat.eq_zero_or_pos len with e0 | e0
 ·obtain rfl : h = 0 := by omega
  obtain rfl : l = 0 := by omega
  exact OpPost.quiet hH (.sl hi' (by omega) fun hpos => absurd hpos (by omega))
 ·exact OpPost.quiet hH (subA_rel hi' h1 (by omega) fun _ => hb e0)

theorem ok_slice_row {t e : TypeId} {x : Operand} {lo hi : Option Operand} {i len size l h : Nat} (ho : o.op = .slice t x lo hi none) (hx : opnd gm env x = .row i len) (ht : slElem P t = some (e, size)) {l0 : List AV} {e' : TypeId} {s' : Nat} (hrow : A[i]? = some (.row l0 e' s'))
  (hlo : bndA (lo.map (opnd gm env)) 0 = some l) (hhi : bndA (hi.map (opnd gm env)) len = some h) (h1 : l ≤ h) (h2 : h ≤ len) : OpOk P gm env A o (subA i 0 size l h) A := fun φ F H a hg hH hE => by
 unfold execOp; rw [ho]
 have hx' := opnd_rel hg hE x
 rw [hx] at hx'
 obtain ⟨ti, e1, e2, e3⟩ := slElem_spec ht
 obtain ⟨hi', hl, ez⟩ := inv_row hx'
 obtain ⟨_, hbase, _⟩ := hH.obj i _ hrow
 dsimp only
 obtain ⟨base, ez, hb⟩ : ∃ base, a.eval x = .slice base len (φ i).cap ∧ RelV φ A.length (subA i 0 size l h) (.slice (if (φ i).cap = l then base else Option.map (fun x : Addr => x.add (l * size)) base) (h - l) ((φ i).cap - l)) := by
  rcases Nat.eq_zero_or_pos (φ i).cap with e0 | e0
  ·unfold rowV at ez
   rw [if_pos e0] at ez
   obtain ⟨b, ez⟩ := ez
   obtain rfl : len = 0 := by omega
   obtain rfl : h = 0 := by omega
   obtain rfl : l = 0 := by omega
   refine ⟨b, by rw [ez, e0], ?_⟩
   rw [e0, if_pos rfl]
   exact .sl hi' (by omega) fun hpos => absurd hpos (by omega)
  ·refine ⟨_, rowV_pos e0 ez, ?_⟩
   refine subA_rel (φ := φ) (off := 0) (size := size) hi' h1 (by omega : h ≤ (φ i).cap) fun _ => ?_
   rw [hbase]
 rw [ez]
 refine wpS_v ?_
 unfold Instr.sliceAt
 refine wpS_bind_eq _ _ _ (wpS_underlying e1 ?_)
 dsimp only
 unfold Instr.slice
 refine wpS_bind_eq _ _ _ (wpS_underlying e1 ?_)
 dsimp only
 refine wpS_bind_eq _ _ _ (wpS_sliceBounds (opt_rel hg hE lo) (opt_rel hg hE hi) (fun e => by cases lo <;> first | rfl | cases e) (fun e => by cases hi <;> first | rfl | cases e) hlo hhi h1 (by omega) ?_)
 dsimp only
 refine wpS_bind_eq _ _ _ (wpS_sizeOf e2 ?_)
 rw [e3]
 exact OpPost.quiet hH hb

theorem ok_slice_arr {t e : TypeId} {x : Operand} {lo hi : Option Operand} {i off len size l h : Nat} {g : Bool} (ho : o.op = .slice t x lo hi none) (hx : opnd gm env x = .ptr i off) (ht : arrElem P t = some (len, e, g, size))
  (hlo : bndA (lo.map (opnd gm env)) 0 = some l) (hhi : bndA (hi.map (opnd gm env)) len = some h) (h1 : l ≤ h) (h2 : h ≤ len) : OpOk P gm env A o (subA i off size l h) A := fun φ F H a hg hH hE => by
 unfold execOp; rw [ho]
 have hx' := opnd_rel hg hE x
 rw [hx] at hx'
 obtain ⟨e1, e2⟩ := arrElem_spec ht
 obtain ⟨ti, td, e5, _, _, e6⟩ := tySize_spec e2
 obtain ⟨hi', ez⟩ := inv_ptr hx'
 dsimp only
 rw [ez]
 refine wpS_v ?_
 unfold Instr.sliceAt
 refine wpS_bind_eq _ _ _ (wpS_underlying e1 ?_)
 dsimp only
 refine wpS_bind_eq _ _ _ ?_
 simp only [Instr.sureAddr, wpS_pure]
 refine wpS_bind_eq _ _ _ ?_
 refine wpS_sliceBounds (opt_rel hg hE lo) (opt_rel hg hE hi) (fun e => by cases lo <;> first | rfl | cases e) (fun e => by cases hi <;> first | rfl | cases e) hlo hhi h1 (by omega) ?_
 dsimp only
 refine wpS_bind_eq _ _ _ (wpS_sizeOf e5 ?_)
 rw [e6]
 have := subA_rel (φ := φ) (off := off) (size := size) hi' h1 (by omega : h ≤ len) (b := some ⟨(φ i).blk, (φ i).base + off, none⟩) fun _ => rfl
 have ee : (if len = l then (some (⟨(φ i).blk, (φ i).base + off, none⟩ : Addr)) else Option.map (fun x : Addr => x.add (l * size)) (some ⟨(φ i).blk, (φ i).base + off, none⟩)) = some (if len = l then ⟨(φ i).blk, (φ i).base + off, none⟩ else (⟨(φ i).blk, (φ i).base + off, none⟩ : Addr).add (l * size)) := by split <;> rfl
 rw [ee] at this
 exact OpPost.quiet hH this

end
end Go.Vel
end
section
set_option linter.all false
set_option maxRecDepth 20000
set_option maxHeartbeats 60000000
namespace Go.Vel
open Go Go.Conc

section
variable {P : Program} {gm : Nat → Option Nat} {φ : Nat → Loc3} {A A' : List AObj} {F H : Hp} {env : List AV} {a : Act} {o : Oper} {r : AV}

/-- Object i moves: what it was is gone; it lies in its block still, as a new object. -/
theorem RelH.move (h : RelH φ A F H) {i : Nat} {o o' : AObj} (hi : A[i]? = some o) (hx : o.excl = true) (hs : sol (φ i) o) {loc : Loc3} (hloc : loc.blk = (φ i).blk) {x : Bool × Obj}
  (ho : RelO (upd3 φ A.length loc) (A.length + 1) loc (H.put loc.blk x) o') : RelH (upd3 φ A.length loc) (A.set i .gone ++ [o']) F (H.put loc.blk x) := by
 have hlt : i < A.length := (List.getElem?_eq_some_iff.1 hi).1
 have hlen : (A.set i .gone ++ [o']).length = A.length + 1 := by simp
 have hget : ∀ (j : Nat) q, (A.set i .gone ++ [o'])[j]? = some q → (j < A.length ∧ j ≠ i ∧ A[j]? = some q) ∨ (j < A.length ∧ q = .gone) ∨ (j = A.length ∧ q = o') := fun j q hj => by
  rcases Nat.lt_or_ge j A.length with hl | hge
  ·rw [List.getElem?_append_left (by simpa using hl), List.getElem?_set] at hj
   split at hj
   ·rename_i e
    exact .inr (.inl ⟨hl, (Option.some.inj hj).symm⟩)
   ·rename_i e
    exact .inl ⟨hl, Ne.symm e, hj⟩
  ·rw [List.getElem?_append_right (by simpa using hge), List.length_set] at hj
   have : j - A.length = 0 := by
    have := (List.getElem?_eq_some_iff.1 hj).1
    simp at this
    omega
   rw [this] at hj
   simp at hj
   exact .inr (.inr ⟨by omega, hj.symm⟩)
 have hFl : F loc.blk = none := by rw [hloc]; exact h.frx i o hi hx hs
 have hold : ∀ j, j < A.length → upd3 φ A.length loc j = φ j := fun j hj => by simp [upd3]; omega
 have hnew : upd3 φ A.length loc A.length = loc := by simp [upd3]
 have hne : ∀ (j : Nat) q, A[j]? = some q → j ≠ i → q.live = true → sol (φ j) q → (φ j).blk ≠ loc.blk := fun j q hj hji hl hsj => by
  rw [hloc]
  exact Ne.symm (h.apart i j o q hi hj (Ne.symm hji) hx hl hs hsj)
 refine ⟨fun j q hj => ?_, fun j k q1 q2 hj hk hjk he hl hs1 hs2 => ?_, Hp.ext_put h.fr hFl x, fun j q hj he hsj => ?_⟩
 rotate_left 2
 ·rcases hget j q hj with ⟨hl, _, hj'⟩ | ⟨_, rfl⟩ | ⟨rfl, rfl⟩
  ·rw [hold j hl] at hsj ⊢; exact h.frx j q hj' he hsj
  ·cases he
  ·rw [hnew]; exact hFl
 ·rw [hlen]
  rcases hget j q hj with ⟨hl, hji, hj'⟩ | ⟨hl, rfl⟩ | ⟨rfl, rfl⟩
  ·rw [hold j hl]
   exact (h.obj j q hj').mono (agr_upd3 φ _ loc) (by omega) fun hlv hsj => Hp.put_other _ _ (hne j q hj' hji hlv hsj)
  ·trivial
  ·rw [hnew]; exact ho
 ·rcases hget j q1 hj with ⟨hl1, hji, hj'⟩ | ⟨hl1, rfl⟩ | ⟨rfl, rfl⟩
  ·rcases hget k q2 hk with ⟨hl2, hki, hk'⟩ | ⟨hl2, rfl⟩ | ⟨rfl, rfl⟩
   ·rw [hold j hl1] at hs1 ⊢; rw [hold k hl2] at hs2 ⊢; exact h.apart j k q1 q2 hj' hk' hjk he hl hs1 hs2
   ·cases hl
   ·rw [hold j hl1] at hs1 ⊢; rw [hnew]
    refine hne j q1 hj' hji ?_ hs1
    cases q1 <;> first | rfl | (simp [AObj.excl] at he)
  ·cases he
  ·rcases hget k q2 hk with ⟨hl2, hki, hk'⟩ | ⟨hl2, rfl⟩ | ⟨rfl, _⟩
   ·rw [hold k hl2] at hs2 ⊢; rw [hnew]
    exact Ne.symm (hne k q2 hk' hki hl hs2)
   ·cases hl
   ·exact absurd rfl hjk

/-- What is appended: so many elements, their cells. -/
def srcA (A : List AObj) (size : Nat) : AV → Option (Nat × List AV)
 | .sl j off m => if m * size = 0 then some (m, []) else (loadA A j off (m * size)).map fun l => (m, l)
 | .row j m => if m * size = 0 then some (m, []) else match A[j]? with
  | some (.row _ _ _) => (loadA A j 0 (m * size)).map fun l => (m, l)
  | _ => none
 | .v (.slice none 0 _) => some (0, [])
 | .e0 => some (0, [])
 | .z0 => some (0, [])
 | _ => none

theorem srcA_rel {size m : Nat} {x : AV} {l : List AV} {y : Value} (hH : RelH φ A F H) (h : srcA A size x = some (m, l)) (hr : RelV φ A.length x y) :
  ∃ (b : Option Addr) (cap : Nat) (ys : List Value), y = .slice b m cap ∧ ys.length = m * size ∧ l.length = m * size ∧ RelL φ A.length l ys.toArray ∧ ∀ Q : Array Value → Hp → Prop, Q ys.toArray H → wpS P (Builtin.firstCells size m y) H Q := by
 have hload : ∀ (j off : Nat) (cap : Nat) (w : Option Addr), j < A.length → w = some ⟨(φ j).blk, (φ j).base + off, none⟩ → loadA A j off (m * size) = some l →
   ∃ (b : Option Addr) (cap' : Nat) (ys : List Value), Value.slice w m cap = .slice b m cap' ∧ ys.length = m * size ∧ l.length = m * size ∧ RelL φ A.length l ys.toArray ∧ ∀ Q : Array Value → Hp → Prop, Q ys.toArray H → wpS P (Builtin.firstCells size m (.slice w m cap)) H Q := by
  intro j off cap w hj hw hl
  obtain ⟨hlen, rw', cur, e, fz, ys, h1, h2, h3, h4⟩ := loadA_rel hH hl
  refine ⟨w, cap, ys, rfl, h2, hlen, h3, fun Q hq => ?_⟩
  rw [hw]
  show wpS P (loadCells _ (m * size)) H Q
  rw [← h2]
  exact wpS_loadCells h1 ys h4 hq
 have hnone : ∀ (w : Option Addr) (cap : Nat), m * size = 0 → ∃ (b : Option Addr) (cap' : Nat) (ys : List Value), Value.slice w m cap = .slice b m cap' ∧ ys.length = m * size ∧ ([] : List AV).length = m * size ∧ RelL φ A.length [] ys.toArray ∧ ∀ Q : Array Value → Hp → Prop, Q ys.toArray H → wpS P (Builtin.firstCells size m (.slice w m cap)) H Q := by
  intro w cap h00
  refine ⟨w, cap, [], rfl, by rw [h00]; rfl, by rw [h00]; rfl, relL_nil _ _, fun Q hq => ?_⟩
  cases w with
  | none => exact hq
  | some w =>
   show wpS P (loadCells _ (m * size)) H Q
   rw [h00]
   exact hq
 cases hr with
 | @sl j off len cap b hi hl hb =>
  simp only [srcA] at h
  split at h
  ·rename_i h00
   cases h
   exact hnone _ _ h00
  rename_i h00
  have hpos : 0 < len := by
   rcases Nat.eq_zero_or_pos len with e | e
   ·rw [e, Nat.zero_mul] at h00; exact absurd rfl h00
   ·exact e
  obtain rfl := hb hpos
  cases e : loadA A j off (len * size) with
  | none => rw [e] at h; cases h
  | some l' =>
   rw [e] at h
   cases h
   exact hload j off cap _ hi rfl e
 | @row j len y hi hl hv =>
  simp only [srcA] at h
  split at h
  ·rename_i h00
   cases h
   obtain ⟨b, c, rfl⟩ := rowV_len hl hv
   exact hnone _ _ h00
  rename_i h00
  have hpos : 0 < len := by
   rcases Nat.eq_zero_or_pos len with e | e
   ·rw [e, Nat.zero_mul] at h00; exact absurd rfl h00
   ·exact e
  obtain rfl := rowV_pos (by omega) hv
  split at h
  ·rename_i l0 e0 s0 hrow
   obtain ⟨_, hbase, _⟩ := hH.obj j _ hrow
   cases e : loadA A j 0 (len * size) with
   | none => rw [e] at h; cases h
   | some l' =>
    rw [e] at h
    cases h
    exact hload j 0 _ _ hi (by rw [hbase]) e
  ·cases h
 | v =>
  cases y with
  | slice b len cap =>
   cases b with
   | none =>
    cases len with
    | zero =>
     cases h
     exact ⟨none, cap, [], rfl, by simp, by simp, relL_nil _ _, fun Q hq => hq⟩
    | succ len => cases h
   | some b => cases h
  | _ => cases h
 | e0 b cap =>
  cases h
  exact hnone b cap (Nat.zero_mul _)
 | z0 b =>
  cases h
  refine ⟨some b, 0, [], rfl, by simp, by simp, relL_nil _ _, fun Q hq => ?_⟩
  show wpS P (loadCells _ (0 * size)) H Q
  rw [Nat.zero_mul]
  exact hq
 | _ => cases h

/-- A row, and its slice. -/
theorem relO_row {n : Nat} {φ : Nat → Loc3} {l : List AV} {e : TypeId} {size : Nat} {loc : Loc3} {H : Hp} {cur : Array Value} (hH : H loc.blk = some (true, .cells cur e (0, 0))) (hb : loc.base = 0) (hs : cur.size = loc.cap * size) (hc : loc.cap ≤ maxLen) {ys : List Value}
  (hr : RelL φ n l ys.toArray) (hget : ∀ (j : Nat) y, ys[j]? = some y → cur[j]? = some y) (hle : ys.length ≤ cur.size) : RelO φ n loc H (.row l e size) := by
 refine ⟨fun e => ?_, hb, fun _ => ⟨cur, hH, hs, hc, ?_, fun j u hu => ?_⟩⟩
 ·have := hr.1
  rw [e, Nat.zero_mul] at hs
  simp at this
  exact List.eq_nil_of_length_eq_zero (by omega)
 ·have := hr.1; simp at this; omega
 ·obtain ⟨y, hy, hr'⟩ := hr.get hu
  exact ⟨y, hget j y (by simpa using hy), hr'⟩

theorem relL_append {n : Nat} {φ : Nat → Loc3} {l l' : List AV} {ys ys' : List Value} (h : RelL φ n l ys.toArray) (h' : RelL φ n l' ys'.toArray) : RelL φ n (l ++ l') (ys ++ ys').toArray := by
 have h1 := h.1
 have h2 := h'.1
 simp at h1 h2
 refine ⟨by simp; omega, fun j u y hu hy => ?_⟩
 simp only [List.getElem?_toArray] at hy
 rcases Nat.lt_or_ge j l.length with hlt | hge
 ·rw [List.getElem?_append_left hlt] at hu
  rw [List.getElem?_append_left (by omega)] at hy
  exact h.2 j u y hu (by simpa using hy)
 ·rw [List.getElem?_append_right hge] at hu
  rw [List.getElem?_append_right (by omega)] at hy
  exact h'.2 (j - l.length) u y hu (by simpa [h1] using hy)

theorem cap_choice {need old : Nat} {e : TypeId} {n : Nat} (hneed : need < 2 ^ 63) (h1 : (Question.appendCap need old e).forced = true → n = 0) (h2 : (Question.appendCap need old e).forced = false → ∃ t, n = (Question.appendCap need old e).cut t) : need ≤ n ∧ n < 2 ^ 63 := by
 obtain ⟨t, rfl⟩ := h2 rfl
 simp only [Question.cut]
 have := Nat.mod_lt t (show 2 ^ 63 - need > 0 by omega)
 omega

/-- How a new row is made: what was there, what is new, and noughts. -/
theorem wpS_grow {e : TypeId} {z : Value} {size : Nat} (hsz : z.cells.size = size) {n m : Nat} {olds news : List Value} {lo ln : List AV} (ho : RelL φ A.length lo olds.toArray) (hn : RelL φ A.length ln news.toArray)
  (hlo : olds.length = n * size) (hln : news.length = m * size) {cap : Nat} (hc0 : 0 < n + m) (hc1 : n + m ≤ cap) (hc2 : cap ≤ maxLen) {A0 : List AObj} (hA0 : A0.length = A.length) (hH0 : RelH φ A0 F H) :
  wpS P (do let rest := Builtin.zeroCells z.cells (cap - (n + m)); pure (Value.slice (some (← newRow e (olds.toArray ++ news.toArray ++ rest))) (n + m) cap)) H
   (fun v H' => OpPost φ A F (.row A.length (n + m)) (A0 ++ [.row (lo ++ ln) e size]) (.value v) H') := by
 refine wpS_bind_eq _ _ _ ?_
 refine wpS_bind_eq _ _ _ fun b hb => ?_
 show OpPost φ A F _ _ (.value (.slice (some ⟨b, 0, none⟩) (n + m) cap)) (H.put b (true, .cells _ e (0, 0)))
 have hsize : (olds.toArray ++ news.toArray ++ Builtin.zeroCells z.cells (cap - (n + m))).size = cap * size := by
  simp only [Array.size_append, List.size_toArray, Builtin.zeroCells, Array.size_map, Array.size_range, hsz, hlo, hln]
  rw [← Nat.add_mul, ← Nat.add_mul]
  congr 1
  omega
 have hpush : RelH (upd3 φ A0.length ⟨b, 0, cap⟩) (A0 ++ [.row (lo ++ ln) e size]) F (H.put b (true, .cells (olds.toArray ++ news.toArray ++ Builtin.zeroCells z.cells (cap - (n + m))) e (0, 0))) := by
  refine hH0.push hb rfl ?_
  refine relO_row (ys := olds ++ news) (Hp.put_same _ _ _) rfl hsize hc2 ?_ (fun j y hy => ?_) ?_
  ·rw [hA0]
   exact (relL_append ho hn).mono (agr_upd3 _ _ _) (by omega)
  ·rw [Array.getElem?_append_left (by have := (List.getElem?_eq_some_iff.1 hy).1; simp at this ⊢; omega)]
   have : (olds.toArray ++ news.toArray) = (olds ++ news).toArray := by simp
   rw [this]
   simpa using hy
  ·rw [hsize]
   simp only [List.length_append, hlo, hln]
   rw [← Nat.add_mul]
   exact Nat.mul_le_mul_right _ hc1
 rw [hA0] at hpush
 refine ⟨_, _, .inl rfl, agr_upd3 _ _ _, by simp; omega, hpush, ?_⟩
 refine RelV.row (by simp; omega) (by simp [upd3]; omega) ?_
 unfold rowV
 simp only [upd3, if_true]
 rw [if_neg (by omega)]
 trivial

/-- What append comes to: nothing is there yet, or a row of one's own. -/
theorem ok_append {s x : Operand} {t e : TypeId} {ti : TypeInfo} {z : Value} {size bytes n m : Nat} {lo ln : List AV} {A0 : List AObj} (ho : o.op = .call { callee := .builtin .append, args := #[s, x], argTypes := #[t, t] }) (ht : P.underlying t = some (.slice e)) (hi : P.info? e = some ti) (hz : ti.zero = some z)
  (hsz : z.cells.size = size) (hts : ti.size = size) (hby : ti.bytes = bytes) (hs0 : 0 < size)
  (hd : (opnd gm env s = .v (.slice none 0 0) ∧ n = 0 ∧ lo = [] ∧ A0 = A) ∨ (opnd gm env s = .z0 ∧ n = 0 ∧ lo = [] ∧ A0 = A) ∨ ∃ i, opnd gm env s = .row i n ∧ A[i]? = some (.row lo e size) ∧ lo.length = n * size ∧ A0 = A.set i .gone)
  (hx : srcA A size (opnd gm env x) = some (m, ln)) (hm : 0 < m) (hone : ln.all oneA = true) (hmax : n + m ≤ maxLen) (hbytes : (n + m) * bytes ≤ 140737488355328) :
  OpOk P gm env A o (.row A.length (n + m)) (A0 ++ [.row (lo ++ ln) e size]) := fun φ F H a hg hH hE => by
 rw [execOp_builtin ho]
 obtain ⟨bx, capx, ys, ex, hys, hln, hrn, hfirst⟩ := srcA_rel hH hx (opnd_rel hg hE x)
 have hs' := opnd_rel hg hE s
 simp only [builtin, List.map_toArray, List.map_cons, List.map_nil]
 refine wpS_v ?_
 have h63 : n + m < 2 ^ 63 := by unfold maxLen at hmax; omega
 have hA0 : A0.length = A.length := by rcases hd with ⟨_, _, _, h4⟩ | ⟨_, _, _, h4⟩ | ⟨i, _, _, _, h4⟩ <;> simp [h4]
 have hH0 : RelH φ A0 F H := by
  rcases hd with ⟨_, _, _, h4⟩ | ⟨_, _, _, h4⟩ | ⟨i, _, _, _, h4⟩
  ·rw [h4]; exact hH
  ·rw [h4]; exact hH
  ·rw [h4]; exact hH.drop i
 -- the growing
 have hgrow : ∀ (base : Option Addr) (cap : Nat) (olds : List Value), a.eval s = .slice base n cap → cap < n + m → olds.length = n * size → RelL φ A.length lo olds.toArray → (∀ Q : Array Value → Hp → Prop, Q olds.toArray H → wpS P (Builtin.firstCells size n (.slice base n cap)) H Q) →
   wpS P (Builtin.append_ #[t, t] o.type #[a.eval s, a.eval x]) H (fun v H' => OpPost φ A F (.row A.length (n + m)) (A0 ++ [.row (lo ++ ln) e size]) (.value v) H') := by
  intro base cap olds es hcap hol hro hfo
  rw [es, ex]
  unfold Builtin.append_
  show wpS P (underlying t >>= _) H _
  refine wpS_bind_eq _ _ _ (wpS_underlying ht ?_)
  dsimp only
  refine wpS_bind_eq _ _ _ (wpS_sizeOf hi ?_)
  refine wpS_bind_eq _ _ _ ?_
  refine wpS_underlying (t := t) ht ?_
  dsimp only
  refine wpS_bind_eq _ _ _ ?_
  rw [wpS_pure]
  simp only [Bool.false_eq_true, if_false, Bool.not_false, if_true]
  refine wpS_bind_eq _ _ _ ?_
  show wpS P (if n + m ≤ cap then _ else _) H _
  rw [if_neg (by omega)]
  refine wpS_bind_eq _ _ _ (wpS_typeInfo hi ?_)
  rw [if_neg (by rintro ⟨h1, _⟩; have : IntKind.i64.max = 9223372036854775807 := rfl; omega)]
  refine wpS_bind_eq _ _ _ (wpS_typeInfo hi ?_)
  rw [if_neg (by rw [hby]; have := growslice_fits hcap hbytes; omega)]
  refine wpS_bind_eq _ _ _ fun cap' hc1 hc2 => ?_
  obtain ⟨hcn, hcm⟩ := cap_choice h63 hc1 hc2
  refine wpS_bind_eq _ _ _ (wpS_typeInfo hi ?_)
  refine wpS_bind_eq _ _ _ ?_
  have hroom : ∀ (b : Nat) (Q : Unit → Hp → Prop), Q () H → wpS P (askRoom b) H Q := fun b Q hq => by
   unfold askRoom
   split
   ·exact ⟨.inl rfl, hq⟩
   ·exact hq
  refine hroom _ _ ?_
  refine wpS_bind_eq _ _ _ ?_
  show wpS P (Builtin.firstCells ti.size n (.slice base n cap)) H _
  rw [hts]
  refine hfo _ ?_
  refine wpS_bind_eq _ _ _ ?_
  show wpS P (Builtin.firstCells size m (.slice bx m capx)) H _
  rw [← ex]
  refine hfirst _ ?_
  refine wpS_bind_eq _ _ _ (wpS_zeroValue hi hz ?_)
  exact wpS_grow hsz hro hrn hol hys (by omega) hcn (by unfold maxLen; omega) hA0 hH0
 rcases hd with ⟨e1, rfl, rfl, e4⟩ | ⟨e1, rfl, rfl, e4⟩ | ⟨i, e1, hrow, hlo, e4⟩
 ·rw [e1] at hs'
  have es := inv_v hs'
  exact hgrow none 0 [] es (by omega) (by simp) (relL_nil _ _) (fun Q hq => hq)
 ·rw [e1] at hs'
  obtain ⟨b, es⟩ := inv_z0 hs'
  refine hgrow (some b) 0 [] es (by omega) (by simp) (relL_nil _ _) (fun Q hq => ?_)
  show wpS P (loadCells _ (0 * size)) H Q
  rw [Nat.zero_mul]
  exact hq
 ·rw [e1] at hs'
  obtain ⟨hilt, hcapi, es⟩ := inv_row hs'
  obtain ⟨hr0, hbase, hrw⟩ := hH.obj i _ hrow
  rcases Nat.eq_zero_or_pos (φ i).cap with ecap | ecap
  ·unfold rowV at es
   rw [if_pos ecap] at es
   obtain ⟨base, es⟩ := es
   obtain rfl : n = 0 := by omega
   obtain rfl := hr0 ecap
   refine hgrow base 0 [] es (by omega) (by simp) (relL_nil _ _) (fun Q hq => ?_)
   cases base with
   | none => exact hq
   | some b =>
    show wpS P (loadCells _ (0 * size)) H Q
    rw [Nat.zero_mul]
    exact hq
  replace es := rowV_pos ecap es
  obtain ⟨cur, hb, hcs, hcm, hle, hcells⟩ := hrw ecap
  -- what is there, as values
  obtain ⟨olds, hol, hro, hget⟩ : ∃ olds : List Value, olds.length = n * size ∧ RelL φ A.length lo olds.toArray ∧ ∀ (j : Nat) y, olds[j]? = some y → cur[j]? = some y := by
   refine ⟨(cur.toList.take (n * size)), by simp; omega, ⟨by simp; omega, fun j u y hu hy => ?_⟩, fun j y hy => ?_⟩
   ·obtain ⟨y', hy', hr⟩ := hcells j u hu
    simp only [List.getElem?_toArray, List.getElem?_take, Array.getElem?_toList] at hy
    split at hy
    ·rw [hy'] at hy; cases hy; exact hr
    ·cases hy
   ·simp only [List.getElem?_take, Array.getElem?_toList] at hy
    split at hy
    ·exact hy
    ·cases hy
  have hfo : ∀ Q : Array Value → Hp → Prop, Q olds.toArray H → wpS P (Builtin.firstCells size n (.slice (some ⟨(φ i).blk, 0, none⟩) n (φ i).cap)) H Q := fun Q hq => by
   show wpS P (loadCells _ (n * size)) H Q
   rw [← hol]
   exact wpS_loadCells hb olds (fun j y hy => by rw [Nat.zero_add]; exact hget j y hy) hq
  by_cases hcap : (φ i).cap < n + m
  ·exact hgrow _ _ olds es hcap hol hro hfo
  ·-- there is room
   rw [es, ex]
   unfold Builtin.append_
   show wpS P (underlying t >>= _) H _
   refine wpS_bind_eq _ _ _ (wpS_underlying ht ?_)
   dsimp only
   refine wpS_bind_eq _ _ _ (wpS_sizeOf hi ?_)
   refine wpS_bind_eq _ _ _ ?_
   refine wpS_underlying (t := t) ht ?_
   dsimp only
   refine wpS_bind_eq _ _ _ ?_
   rw [wpS_pure]
   simp only [Bool.false_eq_true, if_false, Bool.not_false, if_true]
   refine wpS_bind_eq _ _ _ ?_
   show wpS P (if n + m ≤ (φ i).cap then _ else _) H _
   rw [if_pos (by omega)]
   refine wpS_bind_eq _ _ _ ?_
   show wpS P (Builtin.firstCells ti.size m (.slice bx m capx)) H _
   rw [hts, ← ex]
   refine hfirst _ ?_
   refine wpS_bind_eq _ _ _ ?_
   rw [add_off]
   have hfit : n * size + m * size ≤ cur.size := by rw [hcs, ← Nat.add_mul]; exact Nat.mul_le_mul_right _ (by omega)
   refine wpS_storeCells ys 0 cur H hb (by omega) (fun y hy => ?_) ?_
   ·obtain ⟨j, hj⟩ := List.mem_iff_getElem?.1 hy
    obtain ⟨u, hu, hr⟩ := hrn.back (y := y) (j := j) (by simpa using hj)
    exact oneA_rel (List.all_eq_true.1 hone u (List.mem_of_getElem? hu)) hr
   show OpPost φ A F _ _ (.value (.slice _ (n + m) (φ i).cap)) _
   rw [Nat.add_zero, Nat.zero_add]
   have hset : ∀ (j : Nat) y, (olds ++ ys)[j]? = some y → (setCs cur (n * size) ys)[j]? = some y := fun j y hy => by
    rw [setCs_get _ _ _ _ (by omega)]
    rcases Nat.lt_or_ge j olds.length with hlt | hge
    ·rw [List.getElem?_append_left hlt] at hy
     rw [if_neg (by omega)]
     exact hget j y hy
    ·rw [List.getElem?_append_right hge] at hy
     have := (List.getElem?_eq_some_iff.1 hy).1
     rw [if_pos (by omega), ← hol]
     exact hy
   have hmove := hH.move (o' := .row (lo ++ ln) e size) (x := (true, .cells (setCs cur (n * size) ys) e (0, 0))) (loc := φ i) hrow rfl ecap rfl ?_
   ·rw [e4]
    refine ⟨_, _, .inl rfl, agr_upd3 _ _ _, by simp, hmove, ?_⟩
    refine RelV.row (by simp) (by simp [upd3]; omega) ?_
    unfold rowV
    simp only [upd3, if_true]
    rw [if_neg (by omega)]
    trivial
   ·refine relO_row (ys := olds ++ ys) (Hp.put_same _ _ _) hbase (by rw [setCs_size]; exact hcs) hcm ((relL_append hro hrn).mono (agr_upd3 _ _ _) (by omega)) hset ?_
    rw [setCs_size]
    simp only [List.length_append]
    omega
end
end Go.Vel
end
section
set_option linter.all false
set_option maxRecDepth 20000
set_option maxHeartbeats 60000000
namespace Go.Vel
open Go Go.Conc

section
variable {P : Program} {gm : Nat → Option Nat} {φ : Nat → Loc3} {A A' : List AObj} {F H : Hp} {env : List AV} {a : Act} {o : Oper} {r : AV}

/-! ### composites -/
theorem wpS_map {α β : Type} (f : α → β) (s : Sem α) (Q : β → Hp → Prop) (h : wpS P s H (fun a H' => Q (f a) H')) : wpS P (f <$> s) H Q := wpS_bind s (fun a => pure (f a)) H Q h
theorem wpS_list_mapM {α β : Type} {f : α → Sem β} {g : α → β} : ∀ (l : List α), (∀ x ∈ l, ∀ (Q : β → Hp → Prop), Q (g x) H → wpS P (f x) H Q) → ∀ (Q : List β → Hp → Prop), Q (l.map g) H → wpS P (l.mapM f) H Q
 | [], _, Q, hq => by rw [List.mapM_nil]; exact hq
 | x :: l, hf, Q, hq => by
  rw [List.mapM_cons]
  refine wpS_bind_eq _ _ _ (hf x (by simp) _ ?_)
  refine wpS_bind_eq _ _ _ (wpS_list_mapM l (fun y hy => hf y (by simp [hy])) _ ?_)
  exact hq
theorem wpS_array_mapM {α β : Type} {f : α → Sem β} {g : α → β} (xs : Array α) (hf : ∀ x ∈ xs.toList, ∀ (Q : β → Hp → Prop), Q (g x) H → wpS P (f x) H Q) (Q : Array β → Hp → Prop) (hq : Q (xs.map g) H) : wpS P (xs.mapM f) H Q := by
 rw [Array.mapM_eq_mapM_toList]
 refine wpS_map _ _ _ (wpS_list_mapM xs.toList hf _ ?_)
 have : (xs.toList.map g).toArray = xs.map g := by
  apply Array.ext'
  simp
 rw [this]; exact hq

def plcOf (P : Program) : List Field → Option (List (Nat × Nat))
 | [] => some []
 | f :: fs => match tySize P f.type, plcOf P fs with
  | some (_, n), some l => some ((f.offset, n) :: l)
  | _, _ => none
/-- The places of a composite's parts. -/
def bldOf (P : Program) (t : TypeId) : Option (List (Nat × Nat)) :=
 match P.underlying t with
 | some (.struct fs) => plcOf P fs.toList
 | some (.array n e) => (tySize P e).map fun (_, k) => (List.range n).map fun i => (i * k, k)
 | _ => none

def fillA (pl : List (Nat × Nat)) (cells : List AV) : List (Nat × AV) → Option (List AV)
 | [] => some cells
 | (i, v) :: rest => match pl[i]? with
  | some (off, size) => match cellsA v with
   | some vs => if vs.length = size ∧ off + size ≤ cells.length then fillA pl (setL cells off vs) rest else none
   | none => none
  | none => none

theorem foldl_setCs (off : Nat) : ∀ (l : List Value) (k : Nat) (cs : Array Value), (l.zipIdx k).foldl (fun cs (c, j) => cs.setIfInBounds (off + j) c) cs = setCs cs (off + k) l
 | [], _, _ => rfl
 | c :: l, k, cs => by
  rw [List.zipIdx_cons, List.foldl_cons, foldl_setCs off l (k + 1) _]
  rfl
theorem foldl_setCs' (off : Nat) (xs : Array Value) (cs : Array Value) : xs.zipIdx.foldl (fun cs (c, j) => cs.setIfInBounds (off + j) c) cs = setCs cs off xs.toList := by
 rw [← Array.foldl_toList, Array.toList_zipIdx]
 exact foldl_setCs off xs.toList 0 cs

theorem relL_setCs {n off : Nat} {l vs : List AV} {ys xs : Array Value} (h : RelL φ n l ys) (h' : RelL φ n vs xs) (hle : off + vs.length ≤ l.length) : RelL φ n (setL l off vs) (setCs ys off xs.toList) := by
 have e1 := h.1
 have e2 : xs.toList.length = vs.length := by rw [Array.length_toList]; exact h'.1.symm
 refine ⟨by rw [setL_length, setCs_size]; exact e1, fun j u y hu hy => ?_⟩
 rw [setL_get _ _ _ _ hle] at hu
 rw [setCs_get _ _ _ _ (by omega)] at hy
 by_cases hj : off ≤ j ∧ j < off + vs.length
 ·rw [if_pos hj] at hu
  rw [if_pos (by omega), Array.getElem?_toList] at hy
  exact h'.2 _ u y hu hy
 ·rw [if_neg hj] at hu
  rw [if_neg (by omega)] at hy
  exact h.2 j u y hu hy

theorem fill_rel {n : Nat} {pl : List (Nat × Nat)} {place : Nat → Option (Nat × Nat)} (hp : ∀ (i : Nat) x, pl[i]? = some x → place i = some x) (hE : RelL φ n env a.tmps) (hg : RelG gm φ n) :
  ∀ (ps : List (Nat × Operand)) (cells : List AV) (ys : Array Value) (l : List AV), RelL φ n cells ys → fillA pl cells (ps.map fun (i, x) => (i, opnd gm env x)) = some l → ∃ ys', Instr.fill place ys (ps.map fun (i, x) => (i, a.eval x)) = some ys' ∧ RelL φ n l ys'
 | [], cells, ys, l, hc, h => by
  simp only [List.map_nil, fillA] at h
  cases h
  exact ⟨ys, rfl, hc⟩
 | (i, x) :: ps, cells, ys, l, hc, h => by
  simp only [List.map_cons, fillA] at h
  split at h
  ·rename_i off size hpl
   split at h
   ·rename_i vs hvs
    split at h
    ·rename_i hle
     have hr := cellsA_rel hvs (opnd_rel hg hE x)
     have hlen := hr.1
     have hcl := hc.1
     have hset := relL_setCs hc hr (off := off) (by omega)
     obtain ⟨ys', h1, h2⟩ := fill_rel hp hE hg ps _ _ l hset h
     refine ⟨ys', ?_, h2⟩
     simp only [List.map_cons, Instr.fill, hp i _ hpl]
     rw [if_neg (by simp; omega), foldl_setCs']
     exact h1
    ·cases h
   ·cases h
  ·cases h

theorem plcOf_spec : ∀ (fs : List Field) (pl : List (Nat × Nat)), plcOf P fs = some pl → (∀ f ∈ fs, ∃ i, P.info? f.type = some i) ∧ pl = fs.map fun f => (f.offset, ((P.info? f.type).map (·.size)).getD 0)
 | [], pl, h => by cases h; exact ⟨fun f hf => by simp at hf, rfl⟩
 | f :: fs, pl, h => by
  simp only [plcOf] at h
  split at h
  ·rename_i g n l h1 h2
   cases h
   obtain ⟨i, d, e1, e2, e3, e4⟩ := tySize_spec h1
   obtain ⟨h3, rfl⟩ := plcOf_spec fs l h2
   refine ⟨fun f' hf' => ?_, ?_⟩
   ·rcases List.mem_cons.1 hf' with rfl | hf'
    ·exact ⟨i, e1⟩
    ·exact h3 f' hf'
   ·simp [e1, e4]
  ·cases h

theorem ok_build {t : TypeId} {parts : Array (Nat × Operand)} {z : List Value} {pl : List (Nat × Nat)} {l : List AV} (ho : o.op = .build t parts) (hz : tyZero P t = some z) (hp : bldOf P t = some pl) (h : fillA pl (z.map .v) (parts.toList.map fun (i, x) => (i, opnd gm env x)) = some l) :
  OpOk P gm env A o (.agg l) A := fun φ F H a hg hH hE => by
 unfold execOp; rw [ho]
 obtain ⟨i, zv, e1, e2, e3⟩ := tyZero_spec hz
 have hzr : RelL φ A.length (z.map .v) zv.cells := by rw [← e3]; exact relL_vs φ _ _
 have hpl : ∀ x : Array (Nat × Value), True := fun _ => trivial
 have eparts : (parts.map fun (i, x) => (i, a.eval x)).toList = parts.toList.map fun (i, x) => (i, a.eval x) := by simp
 refine wpS_v ?_
 unfold Instr.build
 refine wpS_bind_eq _ _ _ (wpS_zeroValue e1 e2 ?_)
 unfold bldOf at hp
 split at hp
 ·rename_i fs hu
  obtain ⟨h3, rfl⟩ := plcOf_spec _ _ hp
  refine wpS_bind_eq _ _ _ (wpS_underlying hu ?_)
  dsimp only
  refine wpS_bind_eq _ _ _ (wpS_array_mapM (g := fun f : Field => (f.offset, ((P.info? f.type).map (·.size)).getD 0)) fs (fun f hf Q hq => ?_) _ ?_)
  ·obtain ⟨ti, hti⟩ := h3 f hf
   rw [hti] at hq
   exact wpS_bind_eq _ _ _ (wpS_sizeOf hti hq)
  ·obtain ⟨ys', h1, h2⟩ := fill_rel (place := fun i => (fs.map fun f : Field => (f.offset, ((P.info? f.type).map (·.size)).getD 0))[i]?) (fun i x hx => by
    rw [List.getElem?_map, Array.getElem?_toList] at hx
    rw [Array.getElem?_map]
    exact hx) hE hg parts.toList _ _ l hzr h
   rw [eparts]
   simp only [h1]
   exact OpPost.quiet hH (.agg h2.1 h2.2)
 ·rename_i n e hu
  cases e4 : tySize P e with
  | none => rw [e4] at hp; cases hp
  | some x =>
   obtain ⟨g, k⟩ := x
   rw [e4] at hp
   cases hp
   obtain ⟨ti, td, e5, _, _, e6⟩ := tySize_spec e4
   refine wpS_bind_eq _ _ _ (wpS_underlying hu ?_)
   dsimp only
   refine wpS_bind_eq _ _ _ (wpS_sizeOf e5 ?_)
   rw [e6]
   obtain ⟨ys', h1, h2⟩ := fill_rel (place := fun i => some (i * k, k)) (fun i x hx => by
    rw [List.getElem?_map] at hx
    cases e7 : (List.range n)[i]? with
    | none => rw [e7] at hx; cases hx
    | some q =>
     rw [e7] at hx
     have := List.getElem?_eq_some_iff.1 e7
     obtain ⟨hlt, e8⟩ := this
     simp at e8
     subst e8
     exact hx) hE hg parts.toList _ _ l hzr h
   rw [eparts]
   simp only [h1]
   exact OpPost.quiet hH (.agg h2.1 h2.2)
 ·cases hp

theorem ok_buildSlice {t e : TypeId} {len size : Nat} {parts : Array (Nat × Operand)} {z : List Value} {l : List AV} (ho : o.op = .buildSlice t len parts) (ht : slElem P t = some (e, size)) (hz : tyZero P e = some z) (hlen : len * size ≤ 16777216) (hmax : len ≤ 16777216)
  (h : fillA ((List.range len).map fun i => (i * size, size)) (List.replicate (len * size) .any) (parts.toList.map fun (i, x) => (i, opnd gm env x)) = some l) : OpOk P gm env A o (.row A.length len) (A ++ [.row l e size]) := fun φ F H a hg hH hE => by
 unfold execOp; rw [ho]
 obtain ⟨ti, e1, e2, e3⟩ := slElem_spec ht
 obtain ⟨i, zv, e4, e5, e6⟩ := tyZero_spec hz
 have eparts : (parts.map fun (i, x) => (i, a.eval x)).toList = parts.toList.map fun (i, x) => (i, a.eval x) := by simp
 refine wpS_v ?_
 unfold Instr.buildSlice
 refine wpS_bind_eq _ _ _ (wpS_underlying e1 ?_)
 dsimp only
 refine wpS_bind_eq _ _ _ (wpS_sizeOf e2 ?_)
 rw [e3, if_neg (by omega)]
 have hend : ∀ zero : Array Value, wpS P (do
   let some cells := Instr.fill (fun i => some (i * size, size)) ((Array.range (len * size)).map (zero[· % zero.size]!)) (parts.map fun (i, x) => (i, a.eval x)).toList | stuck "buildSlice: a part of the wrong size"
   pure (Value.slice (some (← newRow e cells)) len len)) H (fun v H' => OpPost φ A F (.row A.length len) (A ++ [.row l e size]) (.value v) H') := fun zero => by
  have hr0 : RelL φ A.length (List.replicate (len * size) .any) ((Array.range (len * size)).map (zero[· % zero.size]!)) := by
   refine ⟨by simp, fun j u y hu hy => ?_⟩
   rw [List.getElem?_replicate] at hu
   split at hu
   ·cases hu; exact .any _
   ·cases hu
  obtain ⟨ys', h1, h2⟩ := fill_rel (place := fun i => some (i * size, size)) (fun i x hx => by
   rw [List.getElem?_map] at hx
   cases e7 : (List.range len)[i]? with
   | none => rw [e7] at hx; cases hx
   | some q =>
    rw [e7] at hx
    obtain ⟨hlt, e8⟩ := List.getElem?_eq_some_iff.1 e7
    simp at e8
    subst e8
    exact hx) hE hg parts.toList _ _ l hr0 h
  have hl : l.length = len * size := by
   have : ∀ (ps : List (Nat × AV)) (c : List AV) l, fillA ((List.range len).map fun i => (i * size, size)) c ps = some l → l.length = c.length := by
    intro ps
    induction ps with
    | nil => intro c l h; cases h; rfl
    | cons p ps ih =>
     intro c l h
     obtain ⟨i, v⟩ := p
     simp only [fillA] at h
     split at h
     ·split at h
      ·split at h
       ·rw [ih _ _ h, setL_length]
       ·cases h
      ·cases h
     ·cases h
   rw [this _ _ _ h]; simp
  rw [eparts]
  simp only [h1]
  refine wpS_bind_eq _ _ _ ?_
  refine wpS_bind_eq _ _ _ fun b hb => ?_
  show OpPost φ A F _ _ (.value (.slice (some ⟨b, 0, none⟩) len len)) (H.put b (true, .cells ys' e (0, 0)))
  refine ⟨_, upd3 φ A.length ⟨b, 0, len⟩, .inl rfl, agr_upd3 _ _ _, by simp, hH.push hb rfl ?_, ?_⟩
  ·refine relO_row (ys := ys'.toList) (Hp.put_same _ _ _) rfl (by rw [← h2.1, hl]) (by show len ≤ maxLen; unfold maxLen; omega) ?_ (fun j y hy => by rw [Array.getElem?_toList] at hy; exact hy) (by simp)
   have : RelL φ A.length l ys'.toList.toArray := by simpa using h2
   exact this.mono (agr_upd3 _ _ _) (by omega)
  ·refine RelV.row (by simp) (by simp [upd3]) ?_
   unfold rowV
   simp only [upd3, if_true]
   split
   ·rename_i e0
    exact ⟨_, by rw [e0]⟩
   ·trivial
 split
 ·exact wpS_bind_eq _ _ _ (hend #[])
 ·exact wpS_bind_eq _ _ _ (wpS_zeroValue e4 e5 (wpS_bind_eq _ _ _ (hend zv.cells)))

/-! ### nil -/
/-- Whether a slice, a function, a map is nil. -/
def isNilA : AV → Option Bool
 | .v (.slice none _ _) => some true
 | .v (.nilFunc) => some true
 | .v (.map none) => some true
 | .v (.pointer none) => some true
 | .sl _ _ n => if 0 < n then some false else none
 | .row _ n => if 0 < n then some false else none
 | .z0 => some false
 | .fn .. => some false
 | _ => none
end
end Go.Vel
end
section
set_option linter.all false
set_option maxRecDepth 20000
set_option maxHeartbeats 60000000
namespace Go.Vel
open Go Go.Conc

/-! ### frames, in a round or not -/
def fr (kd : CallKind) (f : FuncId) (ro : Option Nat) (ts : Array Value) (ds : List Deferred) (todo : List Item) : Frame := { fn := f, tmps := ts, todo, defers := ds, mode := .run, kind := kd, roundOf := ro }
def evT (ts : Array Value) : Operand → Value := Act.eval ⟨ts, []⟩
def putT (ts : Array Value) (d : Option Tmp) (v : Value) : Array Value := (Act.put ⟨ts, []⟩ d v).tmps

theorem fr_eval (kd : CallKind) (f : FuncId) (ro : Option Nat) (ts : Array Value) (ds : List Deferred) (todo : List Item) : (fr kd f ro ts ds todo).eval = evT ts := by
 funext x
 cases x <;> rfl
theorem fr_finish (kd : CallKind) (f : FuncId) (ro : Option Nat) (ts : Array Value) (ds : List Deferred) (ops : Array Oper) (i : Nat) (rest : List Nat) (k : List Item) (v : Value) : (fr kd f ro ts ds (.inRegion ops (i :: rest) :: k)).finish v = fr kd f ro (putT ts ((ops[i]?).bind (·.dst)) v) ds (.inRegion ops rest :: k) := by
 cases h : (ops[i]?).bind (·.dst) <;> simp [Frame.finish, fr, putT, Act.put, h]
theorem fr_enter {P : Program} {f : FuncId} {fn : Func} {c : Code} (args : Array Value) (hf : P.funcs[f]? = some fn) (hb : fn.body = some c) : Frame.enter P f args .normal = fr .normal f none (args ++ Array.replicate (fn.ntmps - args.size) undef) [] [.code c] := by
 simp [Frame.enter, hf, hb, fr]
theorem fr_round (l : Nat) (f : FuncId) (ts : Array Value) (x y : Code) : Frame.round l f ts x y .normal = fr .normal f (some l) ts [] [.code x, .beginRound, .code y] := rfl

def isDefer : Op → Bool | .defer _ => true | _ => false

section
variable {P : Program} {main : Bool} {T : Goroutine → Hp → Prop} {kd : CallKind} {f : FuncId} {ro : Option Nat} {ts : Array Value} {ds : List Deferred} {k : List Item} {cs : List Frame} {H : Hp} {w : World}

theorem sf_skip : stepG P main (G (fr kd f ro ts ds (.code .skip :: k)) cs) w = .go (G (fr kd f ro ts ds k) cs) w #[] := by simp [G, stepG, stepG.exec, fr]
theorem sf_inBlock {id : Nat} : stepG P main (G (fr kd f ro ts ds (.inBlock id :: k)) cs) w = .go (G (fr kd f ro ts ds k) cs) w #[] := by simp [G, stepG, stepG.exec, fr]
theorem sf_label {l : Nat} : stepG P main (G (fr kd f ro ts ds (.code (.label l) :: k)) cs) w = .go (G (fr kd f ro ts ds k) cs) w #[] := by simp [G, stepG, stepG.exec, fr]
theorem sf_seq {x y : Code} : stepG P main (G (fr kd f ro ts ds (.code (.seq x y) :: k)) cs) w = .go (G (fr kd f ro ts ds (.code x :: .code y :: k)) cs) w #[] := by simp [G, stepG, stepG.exec, fr]
theorem sf_cond {c : Operand} {x y : Code} {t : Bool} (h : evT ts c = .bool t) : stepG P main (G (fr kd f ro ts ds (.code (.cond c x y) :: k)) cs) w = .go (G (fr kd f ro ts ds (.code (if t then x else y) :: k)) cs) w #[] := by
 have h' : (fr kd f ro ts ds (.code (.cond c x y) :: k)).eval c = .bool t := by rw [fr_eval]; exact h
 simp only [fr] at h'
 simp [G, stepG, stepG.exec, fr, h']
theorem sf_block {id : Nat} {c : Code} : stepG P main (G (fr kd f ro ts ds (.code (.block id c) :: k)) cs) w = .go (G (fr kd f ro ts ds (.code c :: .inBlock id :: k)) cs) w #[] := by simp [G, stepG, stepG.exec, fr]
theorem sf_loop {c : Code} : stepG P main (G (fr kd f ro ts ds (.code (.loop c) :: k)) cs) w = .go (G (fr kd f ro ts ds (.code c :: .inLoop c :: k)) cs) w #[] := by simp [G, stepG, stepG.exec, fr]
theorem sf_inLoop {c : Code} : stepG P main (G (fr kd f ro ts ds (.inLoop c :: k)) cs) w = .go (G (fr kd f ro ts ds (.code c :: .inLoop c :: k)) cs) w #[] := by simp [G, stepG, stepG.exec, fr]
theorem sf_exit {id : Nat} {k' : List Item} (h : exitTo id k = some k') : stepG P main (G (fr kd f ro ts ds (.code (.exit id) :: k)) cs) w = .go (G (fr kd f ro ts ds k') cs) w #[] := by simp [G, stepG, stepG.exec, fr, h]
theorem sf_region {id : Nat} {ops : Array Oper} : stepG P main (G (fr kd f ro ts ds (.code (.region id ops false) :: k)) cs) w = .go (G (fr kd f ro ts ds (.inRegion ops (List.range ops.size) :: k)) cs) w #[] := by simp [G, stepG, stepG.exec, fr]
theorem sf_region_draw {id : Nat} {ops : Array Oper} : stepG P main (G (fr kd f ro ts ds (.code (.region id ops true) :: k)) cs) w = .go (G (fr kd f ro ts ds (.inRegion ops (Region.schedule (P.follows .mixedOrders) ops (w.tape w.drawn (.order f id))) :: k)) cs) { w with drawn := w.drawn + 1 } #[] := by
 simp [G, stepG, stepG.exec, fr, choose, Sem.run, Question.forced, Question.cut]
theorem sf_region_end {ops : Array Oper} : stepG P main (G (fr kd f ro ts ds (.inRegion ops [] :: k)) cs) w = .go (G (fr kd f ro ts ds k) cs) w #[] := by simp [G, stepG, stepG.exec, fr]
theorem sf_ret : stepG P main (G (fr kd f none ts ds (.code .ret :: k)) cs) w = .go (G { fr kd f none ts ds (.code .ret :: k) with mode := .returning } cs) w #[] := by simp [G, stepG, stepG.exec, fr]
theorem sf_end : stepG P main (G (fr kd f none ts ds []) cs) w = .go (G { fr kd f none ts ds [] with mode := .returning } cs) w #[] := by simp [G, stepG, stepG.exec, fr]
theorem sf_unwanted {ops : Array Oper} {i : Nat} {rest : List Nat} {o : Oper} (ho : ops[i]? = some o) (hw : Region.wanted o (yielded ops ts) = false) :
  stepG P main (G (fr kd f ro ts ds (.inRegion ops (i :: rest) :: k)) cs) w = .go (G (fr kd f ro (putT ts o.dst undef) ds (.inRegion ops rest :: k)) cs) w #[] := by
 have hfin := fr_finish kd f ro ts ds ops i rest k undef
 rw [ho] at hfin
 simp only [Option.bind_some] at hfin
 rw [← hfin]
 simp [G, stepG, stepG.exec, fr, ho, hw]

theorem sf_oper (hkd : kd ≠ .early) {ops : Array Oper} {i : Nat} {rest : List Nat} {o : Oper} (ho : ops[i]? = some o) (hw : Region.wanted o (yielded ops ts) = true) (hd : isDefer o.op = false) :
  stepG P main (G (fr kd f ro ts ds (.inRegion ops (i :: rest) :: k)) cs) w = stepG.apply P true (fr kd f ro ts ds (.inRegion ops (i :: rest) :: k)) cs none (execOp (evT ts) o) w := by
 have he := fr_eval kd f ro ts ds (.inRegion ops (i :: rest) :: k)
 simp only [fr] at he
 obtain ⟨dst, op, ty, pos, after, guard⟩ := o
 cases ro with
 | none => simp [G, stepG, stepG.exec, stepG.oper, Frame.oper?, fr, ho, hw, he]
 | some l =>
  cases op <;> first | (simp [isDefer] at hd; done) | simp [G, stepG, stepG.exec, stepG.oper, Frame.oper?, fr, ho, hw, he]

/-- Behind an operation. -/
def uponF (P : Program) (T : Goroutine → Hp → Prop) (kd : CallKind) (f : FuncId) (ro : Option Nat) (ts : Array Value) (ds : List Deferred) (k : List Item) (cs : List Frame) (ops : Array Oper) (i : Nat) (rest : List Nat) (o : Oper) : Next → Hp → Prop
 | .value v, H => T (G (fr kd f ro (putT ts o.dst v) ds (.inRegion ops rest :: k)) cs) H
 | .skip, H => T (G (fr kd f ro (putT ts o.dst undef) ds (.inRegion ops rest :: k)) cs) H
 | .enter g args, H => T (G (Frame.enter P g args .normal) (fr kd f ro ts ds (.inRegion ops (i :: rest) :: k) :: cs)) H
 | .round l g us x y, H => T (G (Frame.round l g us x y .normal) (fr kd f ro ts ds (.inRegion ops (i :: rest) :: k) :: cs)) H
 | _, _ => False

theorem Shut.opF (hT : Shut P main T) (hkd : kd ≠ .early) {ops : Array Oper} {i : Nat} {rest : List Nat} {o : Oper} (ho : ops[i]? = some o) (hw : Region.wanted o (yielded ops ts) = true) (hd : isDefer o.op = false)
  (h : wpS P (execOp (evT ts) o) H (uponF P T kd f ro ts ds k cs ops i rest o)) : T (G (fr kd f ro ts ds (.inRegion ops (i :: rest) :: k)) cs) H := by
 refine hT _ _ rfl fun w hf => ?_
 obtain ⟨x, w', es, h1, h2, h3⟩ := wpS_sound _ _ _ w #[] h hf
 rw [Array.empty_append] at h1
 have hrun : (execOp (evT ts) o).run P w = .ok x w' := by
  have := Sem.runT_eq P (execOp (evT ts) o) w #[]
  rw [h1] at this
  exact (congrArg Prod.fst this).symm
 have hev : (execOp (evT ts) o).events P w #[] = es := by
  have := Sem.runT_eq P (execOp (evT ts) o) w #[]
  rw [h1] at this
  exact (congrArg Prod.snd this).symm
 have hS : StepH H w w' (seen P f es) := ⟨h2.size, h2.kept, fun e he => h2.evs e (mem_seen he), h2.os, h2.out, h2.tape⟩
 have hfin := fun v => fr_finish kd f ro ts ds ops i rest k v
 simp only [ho, Option.bind_some] at hfin
 cases x with
 | value v => exact ⟨_, _, _, by rw [sf_oper hkd ho hw hd]; simp only [stepG.apply, Sem.runT_eq, hrun, hev, hfin]; simp [fr, GStep.after, hkd]; try rfl, hS, rfl, h3⟩
 | skip => exact ⟨_, _, _, by rw [sf_oper hkd ho hw hd]; simp only [stepG.apply, Sem.runT_eq, hrun, hev, hfin]; simp [fr, GStep.after, hkd]; try rfl, hS, rfl, h3⟩
 | enter g args => exact ⟨_, _, _, by rw [sf_oper hkd ho hw hd]; simp only [stepG.apply, Sem.runT_eq, hrun, hev]; simp [fr, GStep.after, hkd]; try rfl, hS, rfl, h3⟩
 | round l g us x y => exact ⟨_, _, _, by rw [sf_oper hkd ho hw hd]; simp only [stepG.apply, Sem.runT_eq, hrun, hev]; simp [fr, GStep.after, hkd]; try rfl, hS, rfl, h3⟩
 | _ => exact h3.elim

theorem Shut.ctlF (hT : Shut P main T) {g g' : Goroutine} (hr : g.status = .running) (h : ∀ w, stepG P main g w = .go g' w #[]) (hr' : g'.status = .running) (hn : T g' H) : T g H := hT.ctl hr h hr' hn

/-- The region's order is drawn. -/
theorem Shut.drawF (hT : Shut P main T) {id : Nat} {ops : Array Oper} (h : ∀ t, T (G (fr kd f ro ts ds (.inRegion ops (Region.schedule (P.follows .mixedOrders) ops t) :: k)) cs) H) : T (G (fr kd f ro ts ds (.code (.region id ops true) :: k)) cs) H := by
 refine hT _ _ rfl fun w hf => ⟨_, _, _, sf_region_draw, ?_, rfl, ?_⟩
 ·have := stepH_self hf (es := #[]) (fun e he => by simp at he)
  exact ⟨this.size, this.kept, this.evs, this.os, this.out, this.tape⟩
 ·have hn : H.next w { w with drawn := w.drawn + 1 } = H := next_drawn hf _
  rw [hn]; exact h _

/-- The frame is left. -/
theorem Shut.leaveF (hT : Shut P main T) {fn : Func} {c : Frame} (hf : P.funcs[f]? = some fn) (h : wpS P (results fn ts) H fun v H' => T (G (c.finish v) cs) H') : T (G { fr .normal f ro ts [] k with mode := .returning } (c :: cs)) H := by
 refine hT _ _ rfl fun w hw => ?_
 obtain ⟨v, w', es, h1, h2, h3⟩ := wpS_sound _ _ _ w #[] h hw
 rw [Array.empty_append] at h1
 have hS : StepH H w w' (seen P f es) := ⟨h2.size, h2.kept, fun e he => h2.evs e (mem_seen he), h2.os, h2.out, h2.tape⟩
 refine ⟨_, _, _, ?_, hS, rfl, h3⟩
 simp only [G, stepG, unwind, doReturn, fr, hf, h1]
 simp [GStep.after]
end
end Go.Vel
end
section
set_option linter.all false
set_option maxRecDepth 20000
set_option maxHeartbeats 60000000
namespace Go.Vel
open Go Go.Conc

/-- Where a frame is left: at its end, by a return, by an exit that leads out of it. -/
inductive Leave : Option Code → List Item → Prop
 | fin : Leave none []
 | ret (k : List Item) : Leave (some .ret) (.code .ret :: k)
 | exit (id : Nat) (k : List Item) : exitTo id k = none → Leave (some (.exit id)) (.code (.exit id) :: k)

/-- Blocks of deferred calls. -/
def dsC (φ : Nat → Loc3) (ds : List Nat) : List Deferred := ds.map fun i => { target := .collected (φ i).blk, args := #[] }

/-- What stands fast in a frame's walk. -/
structure Cx (P : Program) (gm : Nat → Option Nat) (T : Goroutine → Hp → Prop) where
 main : Bool
 hT : Shut P main T
 φ0 : Nat → Loc3
 n0 : Nat
 F : Hp
 kd : CallKind
 hkd : kd ≠ .early
 f : FuncId
 ro : Option Nat
 cs : List Frame
 L : Option Code → List Nat → List AV → List AObj → Prop
 hL : ∀ j k ds env A φ H ts, Leave j k → L j ds env A → Agr φ0 φ n0 → n0 ≤ A.length → RelG gm φ A.length → (∀ d ∈ ds, d < A.length) → RelH φ A F H → RelL φ A.length env ts → T (G (fr kd f ro ts (dsC φ ds) k) cs) H

/-- A walk over values and objects. -/
def TA {P : Program} {gm : Nat → Option Nat} {T : Goroutine → Hp → Prop} (X : Cx P gm T) (ds : List Nat) (k : List Item) (env : List AV) (A : List AObj) : Prop :=
 ∀ (φ : Nat → Loc3) (H : Hp) (ts : Array Value), Agr X.φ0 φ X.n0 → X.n0 ≤ A.length → RelG gm φ A.length → (∀ d ∈ ds, d < A.length) → RelH φ A X.F H → RelL φ A.length env ts → T (G (fr X.kd X.f X.ro ts (dsC φ ds) k) X.cs) H

section
variable {P : Program} {gm : Nat → Option Nat} {T : Goroutine → Hp → Prop} {X : Cx P gm T} {ds : List Nat} {k : List Item} {env : List AV} {A : List AObj}

theorem TA.leave {j : Option Code} (hl : Leave j k) (h : X.L j ds env A) : TA X ds k env A := fun _ _ _ h1 h2 h3 h4 h5 h6 => X.hL j k ds env A _ _ _ hl h h1 h2 h3 h4 h5 h6
theorem TA.skip (h : TA X ds k env A) : TA X ds (.code .skip :: k) env A := fun φ H ts h1 h2 h3 h4 h5 h6 => X.hT.ctlF rfl (fun _ => sf_skip) rfl (h φ H ts h1 h2 h3 h4 h5 h6)
theorem TA.inBlock {id : Nat} (h : TA X ds k env A) : TA X ds (.inBlock id :: k) env A := fun φ H ts h1 h2 h3 h4 h5 h6 => X.hT.ctlF rfl (fun _ => sf_inBlock) rfl (h φ H ts h1 h2 h3 h4 h5 h6)
theorem TA.label {l : Nat} (h : TA X ds k env A) : TA X ds (.code (.label l) :: k) env A := fun φ H ts h1 h2 h3 h4 h5 h6 => X.hT.ctlF rfl (fun _ => sf_label) rfl (h φ H ts h1 h2 h3 h4 h5 h6)
theorem TA.seq {x y : Code} (h : TA X ds (.code x :: .code y :: k) env A) : TA X ds (.code (.seq x y) :: k) env A := fun φ H ts h1 h2 h3 h4 h5 h6 => X.hT.ctlF rfl (fun _ => sf_seq) rfl (h φ H ts h1 h2 h3 h4 h5 h6)
theorem TA.block {id : Nat} {c : Code} (h : TA X ds (.code c :: .inBlock id :: k) env A) : TA X ds (.code (.block id c) :: k) env A := fun φ H ts h1 h2 h3 h4 h5 h6 => X.hT.ctlF rfl (fun _ => sf_block) rfl (h φ H ts h1 h2 h3 h4 h5 h6)
theorem TA.loop {c : Code} (h : TA X ds (.code c :: .inLoop c :: k) env A) : TA X ds (.code (.loop c) :: k) env A := fun φ H ts h1 h2 h3 h4 h5 h6 => X.hT.ctlF rfl (fun _ => sf_loop) rfl (h φ H ts h1 h2 h3 h4 h5 h6)
theorem TA.inLoop {c : Code} (h : TA X ds (.code c :: .inLoop c :: k) env A) : TA X ds (.inLoop c :: k) env A := fun φ H ts h1 h2 h3 h4 h5 h6 => X.hT.ctlF rfl (fun _ => sf_inLoop) rfl (h φ H ts h1 h2 h3 h4 h5 h6)
theorem TA.exit {id : Nat} {k' : List Item} (hk : exitTo id k = some k') (h : TA X ds k' env A) : TA X ds (.code (.exit id) :: k) env A := fun φ H ts h1 h2 h3 h4 h5 h6 => X.hT.ctlF rfl (fun _ => sf_exit hk) rfl (h φ H ts h1 h2 h3 h4 h5 h6)
theorem TA.region {id : Nat} {ops : Array Oper} (h : TA X ds (.inRegion ops (List.range ops.size) :: k) env A) : TA X ds (.code (.region id ops false) :: k) env A := fun φ H ts h1 h2 h3 h4 h5 h6 => X.hT.ctlF rfl (fun _ => sf_region) rfl (h φ H ts h1 h2 h3 h4 h5 h6)
theorem TA.draw {id : Nat} {ops : Array Oper} (h : ∀ t, TA X ds (.inRegion ops (Region.schedule (P.follows .mixedOrders) ops t) :: k) env A) : TA X ds (.code (.region id ops true) :: k) env A := fun φ H ts h1 h2 h3 h4 h5 h6 => X.hT.drawF fun t => h t φ H ts h1 h2 h3 h4 h5 h6
theorem TA.regionEnd {ops : Array Oper} (h : TA X ds k env A) : TA X ds (.inRegion ops [] :: k) env A := fun φ H ts h1 h2 h3 h4 h5 h6 => X.hT.ctlF rfl (fun _ => sf_region_end) rfl (h φ H ts h1 h2 h3 h4 h5 h6)
theorem TA.cond {c : Operand} {x y : Code} (t : Bool) (hc : opnd gm env c = .v (.bool t)) (h : TA X ds (.code (if t then x else y) :: k) env A) : TA X ds (.code (.cond c x y) :: k) env A := fun φ H ts h1 h2 h3 h4 h5 h6 => by
 have hr := opnd_rel (a := ⟨ts, []⟩) h3 h6 c
 rw [hc] at hr
 exact X.hT.ctlF rfl (fun _ => sf_cond (inv_v hr)) rfl (h φ H ts h1 h2 h3 h4 h5 h6)

/-! ### guards -/
/-- What a guard's operation yielded: a truth value, or nothing (it was not carried out). -/
def yieldA (ops : Array Oper) (env : List AV) (j : Nat) : Option (Option Bool) := match ((ops[j]?).bind (·.dst)).bind (env[·]?) with
 | some (.v (.bool b)) => some (some b)
 | some (.v (.tuple _)) => some none
 | _ => none
/-- Whether an operation is carried out. -/
def wantA (ops : Array Oper) (env : List AV) (o : Oper) : Option Bool := match o.guard with
 | none => some true
 | some (j, want) => match yieldA ops env j with | some y => some (y == some want) | none => none
theorem wantA_ok {φ : Nat → Loc3} {n : Nat} {ops : Array Oper} {ts : Array Value} {o : Oper} {b : Bool} (hE : RelL φ n env ts) (h : wantA ops env o = some b) : Region.wanted o (yielded ops ts) = b := by
 unfold wantA at h
 unfold Region.wanted
 split at h
 ·rename_i e; cases h; rw [e]
 ·rename_i j want e
  split at h
  ·rename_i y e'
   cases h
   rw [e]
   simp only
   have : yielded ops ts j = y := by
    unfold yieldA at e'
    unfold yielded
    cases e3 : (ops[j]?).bind (·.dst) with
    | none => rw [e3] at e'; cases e'
    | some t =>
     rw [e3] at e'
     simp only [Option.bind_some] at e' ⊢
     split at e'
     ·rename_i b'' e''
      cases e'
      obtain ⟨y, hy, hr⟩ := hE.get e''
      rw [hy, inv_v hr]
     ·rename_i b'' e''
      cases e'
      obtain ⟨y, hy, hr⟩ := hE.get e''
      rw [hy, inv_v hr]
     ·cases e'
   rw [this]
  ·cases h

theorem TA.op {ops : Array Oper} {i : Nat} {rest : List Nat} {o : Oper} {r : AV} {A' : List AObj} (ho : ops[i]? = some o) (hd : isDefer o.op = false) (hw : wantA ops env o = some true) (hok : OpOk P gm env A o r A') (h : TA X ds (.inRegion ops rest :: k) (putA env o.dst r) A') :
  TA X ds (.inRegion ops (i :: rest) :: k) env A := fun φ H ts h1 h2 h3 h4 h5 h6 => by
 refine X.hT.opF X.hkd ho (wantA_ok h6 hw) hd (wpS_mono _ _ _ _ ?_ (hok φ X.F H ⟨ts, []⟩ h3 h5 h6))
 rintro nx H' ⟨v, φ', hnx, hA, hlen, hH', hr⟩
 have hE := put_rel (a := ⟨ts, []⟩) (h6.mono hA hlen) hr o.dst
 have hds : dsC φ' ds = dsC φ ds := by
  unfold dsC
  refine List.map_congr_left fun d hd' => ?_
  rw [hA d (h4 d hd')]
 have := h φ' H' _ (h1.trans hA h2) (by omega) (h3.mono hA hlen) (fun d hd' => Nat.lt_of_lt_of_le (h4 d hd') hlen) hH' hE
 rw [hds] at this
 rcases hnx with rfl | ⟨rfl, rfl⟩ <;> exact this

theorem TA.unwanted {ops : Array Oper} {i : Nat} {rest : List Nat} {o : Oper} (ho : ops[i]? = some o) (hw : wantA ops env o = some false) (h : TA X ds (.inRegion ops rest :: k) (putA env o.dst (.v undef)) A) :
  TA X ds (.inRegion ops (i :: rest) :: k) env A := fun φ H ts h1 h2 h3 h4 h5 h6 => by
 refine X.hT.ctlF rfl (fun _ => sf_unwanted ho (wantA_ok h6 hw)) rfl ?_
 exact h φ H _ h1 h2 h3 h4 h5 (put_rel (a := ⟨ts, []⟩) h6 (.v undef) o.dst)

/-! ### calls -/
/-- A contract: entered with these, it comes back with a value and objects that satisfy Post. -/
def CallT (P : Program) (T : Goroutine → Hp → Prop) (gm : Nat → Option Nat) (g : FuncId) (args : List AV) (A : List AObj) (Post : AV → List AObj → Prop) : Prop :=
 ∀ (φ : Nat → Loc3) (F H : Hp) (vs : Array Value) (c : Frame) (cs : List Frame), RelG gm φ A.length → RelH φ A F H → RelL φ A.length args vs →
  (∀ r A' φ' H' v, Post r A' → Agr φ φ' A.length → A.length ≤ A'.length → RelH φ' A' F H' → RelV φ' A'.length r v → T (G (c.finish v) cs) H') → T (G (Frame.enter P g vs .normal) (c :: cs)) H

theorem CallT.mono {g : FuncId} {args : List AV} {Post Post' : AV → List AObj → Prop} (h : CallT P T gm g args A Post) (hp : ∀ r A', Post r A' → Post' r A') : CallT P T gm g args A Post' :=
 fun φ F H vs c cs h1 h2 h3 k => h φ F H vs c cs h1 h2 h3 fun r A' φ' H' v x => k r A' φ' H' v (hp r A' x)

def callable (P : Program) (g : FuncId) : Bool := match P.funcs[g]? with
 | some fn => !(fn.name == "runtime.NumGoroutine") && fn.body.isSome
 | none => false

theorem wpS_callFunc {P : Program} {H : Hp} {g : FuncId} (hc : callable P g = true) (args : Array Value) {Q : Next → Hp → Prop} (hq : Q (.enter g args) H) : wpS P (callFunc g args) H Q := by
 unfold callable at hc
 split at hc
 ·rename_i fn e
  simp only [Bool.and_eq_true, Bool.not_eq_true'] at hc
  show wpS P (match P.funcs[g]? with | none => _ | some fn => _) H Q
  rw [e]
  simp only [hc.1, Bool.false_eq_true, if_false]
  have hb : fn.body.isNone = false := by
   cases e' : fn.body with
   | none => rw [e'] at hc; simp at hc
   | some _ => rfl
  simp only [hb, Bool.false_eq_true, if_false]
  exact hq
 ·cases hc

theorem relL_app {φ : Nat → Loc3} {n : Nat} {l l' : List AV} {ys ys' : Array Value} (h : RelL φ n l ys) (h' : RelL φ n l' ys') : RelL φ n (l ++ l') (ys ++ ys') := by
 have := relL_append (ys := ys.toList) (ys' := ys'.toList) (by simpa using h) (by simpa using h')
 have e : (ys.toList ++ ys'.toList).toArray = ys ++ ys' := by
  apply Array.ext'
  simp
 rwa [e] at this

theorem TA.call {ops : Array Oper} {i : Nat} {rest : List Nat} {o : Oper} {fo : Operand} {ars : Array Operand} {at_ : Array TypeId} {g : FuncId} {fs cp : List AV} {args : List AV} {Post : AV → List AObj → Prop} (ho : ops[i]? = some o) (hop : o.op = .call { callee := .value fo, args := ars, argTypes := at_ })
  (hw : wantA ops env o = some true) (hf : opnd gm env fo = .fn g fs cp) (hg : callable P g = true) (hargs : fs ++ ars.toList.map (opnd gm env) ++ cp = args) (hc : CallT P T gm g args A Post) (h : ∀ r A', Post r A' → TA X ds (.inRegion ops rest :: k) (putA env o.dst r) A') :
  TA X ds (.inRegion ops (i :: rest) :: k) env A := fun φ H ts h1 h2 h3 h4 h5 h6 => by
 refine X.hT.opF X.hkd ho (wantA_ok h6 hw) (by rw [hop]; rfl) ?_
 have hfo := opnd_rel (a := ⟨ts, []⟩) h3 h6 fo
 rw [hf] at hfo
 obtain ⟨xs, ys, e, hr1, hr2⟩ := inv_fn hfo
 unfold execOp
 rw [hop]
 dsimp only
 refine wpS_bind_eq _ _ _ ?_
 show wpS P (Deferred.ofValue (Act.eval ⟨ts, []⟩ fo) (ars.map (evT ts))) H _
 rw [e]
 show wpS P (callFunc g ((xs ++ ars.map (evT ts)) ++ ys)) H _
 refine wpS_callFunc hg _ ?_
 show T (G (Frame.enter P g _ .normal) (_ :: X.cs)) H
 have hrel : RelL φ A.length args ((xs ++ ars.map (evT ts)) ++ ys) := by
  rw [← hargs]
  exact relL_app (relL_app hr1 (relL_map (a := ⟨ts, []⟩) h3 h6 ars)) hr2
 refine hc φ X.F H _ _ _ h3 h5 hrel fun r A' φ' H' v hp hA hlen hH' hr => ?_
 have hfin := fr_finish X.kd X.f X.ro ts (dsC φ ds) ops i rest k v
 simp only [ho, Option.bind_some] at hfin
 rw [hfin]
 have hE := put_rel (a := ⟨ts, []⟩) (h6.mono hA hlen) hr o.dst
 have hds : dsC φ' ds = dsC φ ds := by
  unfold dsC
  refine List.map_congr_left fun d hd' => ?_
  rw [hA d (h4 d hd')]
 have := h r A' hp φ' H' _ (h1.trans hA h2) (by omega) (h3.mono hA hlen) (fun d hd' => Nat.lt_of_lt_of_le (h4 d hd') hlen) hH' hE
 rw [hds] at this
 exact this
end
end Go.Vel
end
section
set_option linter.all false
set_option maxRecDepth 20000
set_option maxHeartbeats 60000000
namespace Go.Vel
open Go Go.Conc

/-! ### results -/
def varA (P : Program) (A : List AObj) (t : TypeId) : AV → Option AV
 | .ptr i off => match tySize P t with
  | some (true, n) => match loadA A i off n with | some l => some (.agg l) | none => none
  | some (false, _) => match loadA A i off 1 with | some [u] => some u | _ => none
  | none => none
 | _ => none
def resA1 (P : Program) (env : List AV) (A : List AObj) : ResultVar → Option AV
 | .tmp t => some (env.getD t .any)
 | .cell a t => varA P A t (env.getD a .any)
def resAs (P : Program) (env : List AV) (A : List AObj) : List ResultVar → Option (List AV)
 | [] => some []
 | v :: vs => match resA1 P env A v, resAs P env A vs with
  | some r, some rs => some (r :: rs)
  | _, _ => none
def resA (P : Program) (rs : List ResultVar) (env : List AV) (A : List AObj) : Option AV := match resAs P env A rs with
 | some [r] => some r
 | some rs => some (.tup rs)
 | none => none

section
variable {P : Program} {gm : Nat → Option Nat} {φ : Nat → Loc3} {A A' : List AObj} {F H : Hp} {env : List AV} {ts : Array Value}

theorem wpS_loadVar {t : TypeId} {i off : Nat} {r : AV} (hi : i < A.length) (hH : RelH φ A F H) (h : varA P A t (.ptr i off) = some r) {Q : Value → Hp → Prop} (hq : ∀ v, RelV φ A.length r v → Q v H) :
  wpS P (loadVar t ⟨(φ i).blk, (φ i).base + off, none⟩) H Q := by
 unfold varA at h
 unfold loadVar
 dsimp only at h
 split at h
 ·rename_i n e2
  obtain ⟨ti, td, e5, e7, e8, e6⟩ := tySize_spec e2
  split at h
  ·rename_i l hl
   cases h
   obtain ⟨_, rw', cur, e, fz, ys, hb, hn, hr, hc⟩ := loadA_rel hH hl
   refine wpS_bind_eq _ _ _ (wpS_isAgg e7 ?_)
   rw [e8, if_pos rfl]
   refine wpS_bind_eq _ _ _ (wpS_sizeOf e5 ?_)
   rw [e6, ← hn]
   exact wpS_bind_eq _ _ _ (wpS_loadCells hb ys hc (hq _ (.agg hr.1 hr.2)))
  ·cases h
 ·rename_i n e2
  obtain ⟨ti, td, e5, e7, e8, e6⟩ := tySize_spec e2
  split at h
  ·rename_i u hl
   cases h
   obtain ⟨_, rw', cur, e, fz, ys, hb, hn, hr, hc⟩ := loadA_rel hH hl
   refine wpS_bind_eq _ _ _ (wpS_isAgg e7 ?_)
   rw [e8, if_neg (by simp)]
   obtain ⟨y, rfl⟩ : ∃ y, ys = [y] := by
    cases ys with
    | nil => simp at hn
    | cons y ys => cases ys with
     | nil => exact ⟨y, rfl⟩
     | cons z zs => simp at hn
   exact ⟨rw', cur, e, fz, y, hb, rfl, hc 0 y rfl, hq _ (hr.2 0 r y rfl rfl)⟩
  ·cases h
 ·cases h

theorem wpS_res1 (hH : RelH φ A F H) (hE : RelL φ A.length env ts) {v : ResultVar} {r : AV} (h : resA1 P env A v = some r) {Q : Value → Hp → Prop} (hq : ∀ y, RelV φ A.length r y → Q y H) :
  wpS P (match v with | .tmp t => pure (ts.getD t undef) | .cell a t => do loadVar t (← asAddr (ts.getD a undef))) H Q := by
 cases v with
 | tmp t =>
  cases h
  exact hq _ (opnd_rel (gm := fun _ => none) (a := ⟨ts, []⟩) (fun g i e => by cases e) hE (.tmp t))
 | cell a t =>
  have hr := opnd_rel (gm := fun _ => none) (a := ⟨ts, []⟩) (fun g i e => by cases e) hE (.tmp a)
  simp only [opnd, Act.eval] at hr
  have hptr : ∃ i off, env.getD a .any = .ptr i off := by
   unfold resA1 varA at h
   dsimp only at h
   split at h
   ·rename_i e; exact ⟨_, _, e⟩
   ·cases h
  obtain ⟨i, off, e⟩ := hptr
  rw [e] at hr
  obtain ⟨hi, e2⟩ := inv_ptr hr
  dsimp only
  rw [e2]
  refine wpS_bind_eq _ _ _ ?_
  refine wpS_loadVar hi hH ?_ hq
  have h' : varA P A t (env.getD a .any) = some r := h
  rw [e] at h'
  exact h'

theorem wpS_resList (hH : RelH φ A F H) (hE : RelL φ A.length env ts) : ∀ (vs : List ResultVar) (rs : List AV), resAs P env A vs = some rs → ∀ (Q : List Value → Hp → Prop), (∀ ys : List Value, RelL φ A.length rs ys.toArray → Q ys H) →
  wpS P (vs.mapM fun | .tmp t => pure (ts.getD t undef) | .cell a t => do loadVar t (← asAddr (ts.getD a undef))) H Q
 | [], rs, h, Q, hq => by
  cases h
  rw [List.mapM_nil]
  exact hq [] (relL_nil _ _)
 | v :: vs, rs, h, Q, hq => by
  simp only [resAs] at h
  split at h
  ·rename_i r rs' h1 h2
   cases h
   rw [List.mapM_cons]
   refine wpS_bind_eq _ _ _ (wpS_res1 hH hE h1 fun y hy => ?_)
   refine wpS_bind_eq _ _ _ (wpS_resList hH hE vs rs' h2 _ fun ys hys => ?_)
   refine hq (y :: ys) ?_
   have := relL_append (ys := [y]) (relL_one hy) hys
   exact this
  ·cases h

theorem wpS_results {fn : Func} {r : AV} (hH : RelH φ A F H) (hE : RelL φ A.length env ts) (h : resA P fn.results.toList env A = some r) {Q : Value → Hp → Prop} (hq : ∀ y, RelV φ A.length r y → Q y H) : wpS P (results fn ts) H Q := by
 unfold results
 refine wpS_bind_eq _ _ _ ?_
 rw [Array.mapM_eq_mapM_toList]
 unfold resA at h
 split at h
 ·rename_i r' e
  cases h
  refine wpS_map _ _ _ (wpS_resList hH hE _ _ e _ fun ys hys => ?_)
  obtain ⟨y, rfl⟩ : ∃ y, ys = [y] := by
   have := hys.1
   cases ys with
   | nil => simp at this
   | cons y ys => cases ys with
    | nil => exact ⟨y, rfl⟩
    | cons z zs => simp at this
  exact hq y (hys.2 0 r y rfl rfl)
 ·rename_i rs hne e
  cases h
  refine wpS_map _ _ _ (wpS_resList hH hE _ _ e _ fun ys hys => ?_)
  have hlen : ys.toArray.size ≠ 1 := by
   intro h1
   have := hys.1
   rw [h1] at this
   cases rs with
   | nil => simp at this
   | cons u us => cases us with
    | nil => exact hne u rfl
    | cons u' us => simp at this
  show Q (if h : ys.toArray.size = 1 then ys.toArray[0] else .tuple ys.toArray) H
  rw [dif_neg hlen]
  exact hq _ (.tup hys.1 hys.2)
 ·cases h
end

section
variable {P : Program} {gm : Nat → Option Nat} {T : Goroutine → Hp → Prop}

theorem relL_undef {φ : Nat → Loc3} {n : Nat} {args : List AV} {vs : Array Value} (h : RelL φ n args vs) (m : Nat) : RelL φ n (args ++ List.replicate (m - args.length) .any) (vs ++ Array.replicate (m - vs.size) undef) := by
 refine relL_app h ⟨by simp [h.1], fun j a y ha _ => ?_⟩
 rw [List.getElem?_replicate] at ha
 split at ha
 ·cases ha; exact .any _
 ·cases ha

/-- A contract is entered. -/
theorem callT_enter {main : Bool} (hT : Shut P main T) {g : FuncId} {fn : Func} {c : Code} {args : List AV} {A : List AObj} {Post : AV → List AObj → Prop} (hf : P.funcs[g]? = some fn) (hb : fn.body = some c)
  (h : ∀ X : Cx P gm T, (∀ env A' r, resA P fn.results.toList env A' = some r → Post r A' → X.L (some .ret) [] env A') → (∀ env A' r, resA P fn.results.toList env A' = some r → Post r A' → X.L none [] env A') →
   TA X [] [.code c] (args ++ List.replicate (fn.ntmps - args.length) .any) A) : CallT P T gm g args A Post := by
 intro φ F H vs c0 cs hg hH hargs hfin
 have hleave : ∀ (k : List Item) (env : List AV) (A' : List AObj) (φ' : Nat → Loc3) (H' : Hp) (ts : Array Value) (r : AV), resA P fn.results.toList env A' = some r → Post r A' → Agr φ φ' A.length → A.length ≤ A'.length → RelH φ' A' F H' → RelL φ' A'.length env ts →
   T (G { fr .normal g none ts [] k with mode := .returning } (c0 :: cs)) H' := fun k env A' φ' H' ts r hr hp hA hlen hH' hE =>
  hT.leaveF hf (wpS_results hH' hE hr fun y hy => hfin r A' φ' H' y hp hA hlen hH' hy)
 let X : Cx P gm T := {
  main, hT, φ0 := φ, n0 := A.length, F, kd := .normal, hkd := (fun h => by cases h), f := g, ro := none, cs := c0 :: cs
  L := fun j ds env A' => (j = none ∨ j = some .ret) ∧ ds = [] ∧ ∃ r, resA P fn.results.toList env A' = some r ∧ Post r A'
  hL := by
   rintro j k ds env A' φ' H' ts hl ⟨hj, rfl, r, hr, hp⟩ hA hlen hg' _ hH' hE
   cases hl with
   | fin => exact hT.ctlF rfl (fun _ => sf_end) rfl (hleave _ env A' φ' H' ts r hr hp hA hlen hH' hE)
   | ret k => exact hT.ctlF rfl (fun _ => sf_ret) rfl (hleave _ env A' φ' H' ts r hr hp hA hlen hH' hE)
   | exit id k _ => rcases hj with hj | hj <;> cases hj }
 rw [fr_enter vs hf hb]
 exact h X (fun env A' r hr hp => ⟨.inr rfl, rfl, r, hr, hp⟩) (fun env A' r hr hp => ⟨.inl rfl, rfl, r, hr, hp⟩) φ H _ (Agr.refl _ _) (Nat.le_refl _) hg (fun d hd => by cases hd) hH (relL_undef hargs _)

variable {X : Cx P gm T} {ds : List Nat} {k : List Item} {env : List AV} {A : List AObj}

/-- A loop. -/
theorem TA.loopN {c : Code} (I : Nat → List AV → List AObj → Prop) (n : Nat) (h0 : I n env A)
  (round : ∀ n env A, I n env A → (∀ n' env' A', n' < n → I n' env' A' → TA X ds (.inLoop c :: k) env' A') → TA X ds (.code c :: .inLoop c :: k) env A) : TA X ds (.code (.loop c) :: k) env A := by
 refine TA.loop ?_
 have key : ∀ n env A, I n env A → TA X ds (.code c :: .inLoop c :: k) env A := by
  intro n
  induction n using Nat.strongRecOn with
  | _ n ih =>
   intro env A hI
   exact round n env A hI fun n' env' A' hlt hI' => TA.inLoop (ih n' hlt env' A' hI')
 exact key n env A h0

/-- What is forgotten of the slots. -/
def maskA : List Bool → List AV → List AV
 | true :: bs, a :: l => a :: maskA bs l
 | false :: bs, _ :: l => .any :: maskA bs l
 | [], l => l
 | _, [] => []
theorem maskA_len : ∀ (bs : List Bool) (l : List AV), (maskA bs l).length = l.length
 | [], l => by simp [maskA]
 | true :: bs, [] => rfl
 | false :: bs, [] => rfl
 | true :: bs, a :: l => by simp [maskA, maskA_len bs l]
 | false :: bs, a :: l => by simp [maskA, maskA_len bs l]
theorem maskA_get : ∀ (bs : List Bool) (l : List AV) (j : Nat) a, (maskA bs l)[j]? = some a → a = .any ∨ l[j]? = some a
 | [], l, j, a, h => .inr (by simpa [maskA] using h)
 | true :: bs, [], j, a, h => by simp [maskA] at h
 | false :: bs, [], j, a, h => by simp [maskA] at h
 | true :: bs, b :: l, 0, a, h => .inr h
 | false :: bs, b :: l, 0, a, h => by simp [maskA] at h; exact .inl h.symm
 | true :: bs, b :: l, j + 1, a, h => maskA_get bs l j a (by simpa [maskA] using h)
 | false :: bs, b :: l, j + 1, a, h => maskA_get bs l j a (by simpa [maskA] using h)
theorem TA.mask (bs : List Bool) (h : TA X ds k (maskA bs env) A) : TA X ds k env A := fun φ H ts h1 h2 h3 h4 h5 h6 => by
 refine h φ H ts h1 h2 h3 h4 h5 ⟨(maskA_len bs env).trans h6.1, fun j a y ha hy => ?_⟩
 rcases maskA_get bs env j a ha with rfl | ha'
 ·exact .any _
 ·exact h6.2 j a y ha' hy
end
end Go.Vel
end
section
set_option linter.all false
set_option maxRecDepth 20000
set_option maxHeartbeats 60000000
namespace Go.Vel
open Go Go.Conc

section
variable {P : Program} {gm : Nat → Option Nat} {T : Goroutine → Hp → Prop} {X : Cx P gm T} {ds : List Nat} {k : List Item} {env env' : List AV} {A A' A'' : List AObj}

/-- An operation; what is new, written out. -/
theorem TA.opN {ops : Array Oper} {i : Nat} {rest : List Nat} {o : Oper} {r : AV} (ho : ops[i]? = some o) (hd : isDefer o.op = false) (hw : wantA ops env o = some true) (hok : OpOk P gm env A o r A') (he : putA env o.dst r = env') (hA : A' = A'') (h : TA X ds (.inRegion ops rest :: k) env' A'') :
  TA X ds (.inRegion ops (i :: rest) :: k) env A := TA.op ho hd hw hok (by rw [he, hA]; exact h)
end
end Go.Vel
end
section
set_option linter.all false
set_option maxRecDepth 20000
set_option maxHeartbeats 60000000
namespace Go.Vel
open Go Go.Conc

/-! ### what is known of the objects: a list of some of them -/
abbrev KV := List (Nat × AObj)
def View (K : KV) (A : List AObj) : Prop := ∀ x ∈ K, A[x.1]? = some x.2
def keys (K : KV) : List Nat := K.map (·.1)
theorem mem_keys {K : KV} {x : Nat × AObj} (h : x ∈ K) : x.1 ∈ keys K := List.mem_map_of_mem (f := fun x : Nat × AObj => x.1) h
theorem mem_keys' {K : KV} {i : Nat} {o : AObj} (h : (i, o) ∈ K) : i ∈ keys K := mem_keys h
theorem keys_app (K L : KV) : keys (K ++ L) = keys K ++ keys L := List.map_append
theorem keys_perm {K L : KV} (h : K.Perm L) : (keys K).Perm (keys L) := h.map _
theorem keys_cons (x : Nat × AObj) (K : KV) : keys (x :: K) = x.1 :: keys K := rfl

theorem View.get {K : KV} {A : List AObj} (h : View K A) {i : Nat} {o : AObj} (hm : (i, o) ∈ K) : A[i]? = some o := h _ hm
theorem View.sub {K K' : KV} {A : List AObj} (h : View K A) (hs : ∀ x ∈ K', x ∈ K) : View K' A := fun x hx => h x (hs x hx)
theorem View.lt {K : KV} {A : List AObj} (h : View K A) {i : Nat} (hi : i ∈ keys K) : i < A.length := by
 obtain ⟨x, hx, rfl⟩ := List.mem_map.1 hi
 exact (List.getElem?_eq_some_iff.1 (h x hx)).1
theorem View.push {K : KV} {A : List AObj} (h : View K A) (l : List AObj) : View K (A ++ l) := fun x hx => by
 rw [List.getElem?_append_left (h.lt (mem_keys hx))]; exact h x hx

/-- Of the list, one entry is another. -/
inductive Upd : KV → Nat → AObj → Nat → AObj → KV → Prop
 | head {i j : Nat} {o o' : AObj} {K : KV} : Upd ((i, o) :: K) i o j o' ((j, o') :: K)
 | tail {i j : Nat} {o o' : AObj} {x : Nat × AObj} {K K' : KV} : Upd K i o j o' K' → Upd (x :: K) i o j o' (x :: K')

theorem Upd.mem {K K' : KV} {i j : Nat} {o o' : AObj} (h : Upd K i o j o' K') : (i, o) ∈ K := by
 induction h with
 | head => simp
 | tail _ ih => simp [ih]
theorem Upd.mem' {K K' : KV} {i j : Nat} {o o' : AObj} (h : Upd K i o j o' K') : ∀ x ∈ K', x = (j, o') ∨ (x ∈ K ∧ ((keys K).Nodup → x.1 ≠ i)) := by
 induction h with
 | @head i j o o' K =>
  intro x hx
  rcases List.mem_cons.1 hx with rfl | hx
  ·exact .inl rfl
  ·refine .inr ⟨by simp [hx], fun hn => ?_⟩
   have h1 := (List.nodup_cons.1 hn).1
   intro e
   exact h1 (by have := mem_keys hx; rw [e] at this; exact this)
 | @tail i j o o' y K K' hu ih =>
  intro x hx
  rcases List.mem_cons.1 hx with rfl | hx
  ·refine .inr ⟨by simp, fun hn e => ?_⟩
   have h1 := (List.nodup_cons.1 hn).1
   have := hu.mem
   exact h1 (by show x.1 ∈ keys K; rw [e]; exact mem_keys' this)
  ·rcases ih x hx with h1 | ⟨h1, h2⟩
   ·exact .inl h1
   ·exact .inr ⟨by simp [h1], fun hn => h2 (List.nodup_cons.1 hn).2⟩
theorem Upd.keys {K K' : KV} {i j : Nat} {o o' : AObj} (h : Upd K i o j o' K') : ∀ k ∈ keys K', k = j ∨ k ∈ keys K := fun k hk => by
 obtain ⟨x, hx, rfl⟩ := List.mem_map.1 hk
 rcases h.mem' x hx with rfl | ⟨h1, _⟩
 ·exact .inl rfl
 ·exact .inr (mem_keys h1)
theorem Upd.nodup {K K' : KV} {i j : Nat} {o o' : AObj} (h : Upd K i o j o' K') (hn : (Go.Vel.keys K).Nodup) (hj : j = i ∨ j ∉ Go.Vel.keys K) : (Go.Vel.keys K').Nodup := by
 induction h with
 | @head i j o o' K =>
  have h1 := List.nodup_cons.1 hn
  refine List.nodup_cons.2 ⟨?_, h1.2⟩
  rcases hj with rfl | hj
  ·exact h1.1
  ·exact fun hm => hj (List.mem_cons_of_mem _ hm)
 | @tail i j o o' y K K' hu ih =>
  have h1 := List.nodup_cons.1 hn
  refine List.nodup_cons.2 ⟨fun hm => ?_, ih h1.2 (hj.imp id fun h hm => h (List.mem_cons_of_mem _ hm))⟩
  rcases hu.keys _ hm with e | hm
  ·rcases hj with rfl | hj
   ·exact h1.1 (by rw [e]; exact mem_keys' hu.mem)
   ·exact hj (by rw [← e]; exact List.mem_cons_self)
  ·exact h1.1 hm

theorem View.set {K K' : KV} {A : List AObj} {i : Nat} {o o' : AObj} (h : View K A) (hu : Upd K i o i o' K') (hn : (keys K).Nodup) : View K' (A.set i o') := fun x hx => by
 rcases hu.mem' x hx with rfl | ⟨h1, h2⟩
 ·exact List.getElem?_set_self (h.lt (mem_keys' hu.mem))
 ·rw [List.getElem?_set_ne (Ne.symm (h2 hn))]; exact h x h1
theorem View.renew {K K' : KV} {A : List AObj} {i : Nat} {o o' : AObj} (h : View K A) (hu : Upd K i o A.length o' K') (hn : (keys K).Nodup) : View K' (A.set i .gone ++ [o']) := fun x hx => by
 rcases hu.mem' x hx with rfl | ⟨h1, h2⟩
 ·rw [List.getElem?_append_right (by simp)]; simp
 ·have := h.lt (mem_keys h1)
  rw [List.getElem?_append_left (by simpa using this), List.getElem?_set_ne (Ne.symm (h2 hn))]; exact h x h1

/-- One entry, and the others. -/
inductive Rem : KV → (Nat × AObj) → KV → Prop
 | head {x : Nat × AObj} {K : KV} : Rem (x :: K) x K
 | tail {x y : Nat × AObj} {K R : KV} : Rem K x R → Rem (y :: K) x (y :: R)
theorem Rem.perm {K R : KV} {x : Nat × AObj} (h : Rem K x R) : K.Perm (x :: R) := by
 induction h with
 | head => exact .refl _
 | tail _ ih => exact (List.Perm.cons _ ih).trans (.swap _ _ _)
/-- Some entries, and the others. -/
inductive Split : KV → KV → KV → Prop
 | rem {x : Nat × AObj} {K K1 L R : KV} : Rem K x K1 → Split K1 L R → Split K (x :: L) R
 | none (K : KV) : Split K [] K
 | all (K : KV) : Split K K []
 | left {x : Nat × AObj} {K L R : KV} : Split K L R → Split (x :: K) (x :: L) R
 | right {x : Nat × AObj} {K L R : KV} : Split K L R → Split (x :: K) L (x :: R)
theorem Split.perm {K L R : KV} (h : Split K L R) : K.Perm (L ++ R) := by
 induction h with
 | rem h1 _ ih => exact h1.perm.trans (.cons _ ih)
 | none K => exact .refl _
 | all K => rw [List.append_nil]
 | left _ ih => exact .cons _ ih
 | right _ ih => exact (List.Perm.cons _ ih).trans List.perm_middle.symm

section
variable {P : Program} {gm : Nat → Option Nat} {T : Goroutine → Hp → Prop}

structure KX (P : Program) (gm : Nat → Option Nat) (T : Goroutine → Hp → Prop) where
 X : Cx P gm T
 A0 : List AObj
 K0 : List Nat

/-- What is known holds, and all else is as it was. -/
structure Kn (Y : KX P gm T) (K : KV) (A : List AObj) : Prop where
 view : View K A
 nd : (keys K).Nodup
 own : ∀ i ∈ keys K, i ∈ Y.K0 ∨ Y.A0.length ≤ i
 kept : ∀ j, j < Y.A0.length → j ∉ Y.K0 → A[j]? = Y.A0[j]?
 len : Y.A0.length ≤ A.length

/-- From what is known to what is known then. -/
structure Kstep (K : KV) (A : List AObj) (K' : KV) (A' : List AObj) : Prop where
 view : View K' A'
 nd : (keys K').Nodup
 own : ∀ i ∈ keys K', i ∈ keys K ∨ A.length ≤ i
 kept : ∀ j, j < A.length → j ∉ keys K → A'[j]? = A[j]?
 len : A.length ≤ A'.length

theorem Kn.step {Y : KX P gm T} {K K' : KV} {A A' : List AObj} (h : Kn Y K A) (hs : Kstep K A K' A') : Kn Y K' A' := by
 refine ⟨hs.view, hs.nd, fun i hi => ?_, fun j hj hn => ?_, Nat.le_trans h.len hs.len⟩
 ·rcases hs.own i hi with h1 | h1
  ·exact h.own i h1
  ·exact .inr (Nat.le_trans h.len h1)
 ·rw [hs.kept j (Nat.lt_of_lt_of_le hj h.len) (fun hm => ?_)]
  ·exact h.kept j hj hn
  ·rcases h.own j hm with h1 | h1
   ·exact hn h1
   ·omega

theorem Kstep.same {K : KV} {A : List AObj} (hv : View K A) (hn : (keys K).Nodup) : Kstep K A K A := ⟨hv, hn, fun _ h => .inl h, fun _ _ _ => rfl, Nat.le_refl _⟩
theorem Kstep.push {K : KV} {A : List AObj} (hv : View K A) (hn : (keys K).Nodup) (o : AObj) : Kstep K A ((A.length, o) :: K) (A ++ [o]) := by
 refine ⟨fun x hx => ?_, ?_, fun i hi => ?_, fun j hj _ => List.getElem?_append_left hj, by simp⟩
 ·rcases List.mem_cons.1 hx with rfl | hx
  ·rw [List.getElem?_append_right (Nat.le_refl _)]; simp
  ·exact hv.push _ x hx
 ·refine List.nodup_cons.2 ⟨fun hm => ?_, hn⟩
  exact Nat.lt_irrefl _ (hv.lt (i := A.length) hm)
 ·rcases List.mem_cons.1 hi with rfl | hi
  ·exact .inr (Nat.le_refl _)
  ·exact .inl hi
theorem Kstep.set {K K' : KV} {A : List AObj} {i : Nat} {o o' : AObj} (hv : View K A) (hn : (keys K).Nodup) (hu : Upd K i o i o' K') : Kstep K A K' (A.set i o') := by
 refine ⟨hv.set hu hn, hu.nodup hn (.inl rfl), fun k hk => .inl ?_, fun j _ hj => ?_, by simp⟩
 ·rcases hu.keys k hk with rfl | h
  ·exact mem_keys' hu.mem
  ·exact h
 ·exact List.getElem?_set_ne (fun e => hj (by rw [← e]; exact mem_keys' hu.mem))
theorem Kstep.renew {K K' : KV} {A : List AObj} {i : Nat} {o o' : AObj} (hv : View K A) (hn : (keys K).Nodup) (hu : Upd K i o A.length o' K') : Kstep K A K' (A.set i .gone ++ [o']) := by
 have hi : i ∈ keys K := mem_keys' hu.mem
 refine ⟨hv.renew hu hn, hu.nodup hn (.inr fun hm => ?_), fun k hk => ?_, fun j hj1 hj => ?_, by simp⟩
 ·have := hv.lt hm; omega
 ·rcases hu.keys k hk with rfl | h
  ·exact .inr (Nat.le_refl _)
  ·exact .inl h
 ·rw [List.getElem?_append_left (by simpa using hj1), List.getElem?_set_ne (fun e => hj (by rw [← e]; exact hi))]

/-- A walk over values and what is known of objects. -/
def TK (Y : KX P gm T) (ds : List Nat) (k : List Item) (env : List AV) (K : KV) : Prop := ∀ A, Kn Y K A → TA Y.X ds k env A

/-- An operation. -/
def OpK (P : Program) (gm : Nat → Option Nat) (env : List AV) (K : KV) (o : Oper) (Q : AV → KV → Prop) : Prop :=
 ∀ A, View K A → (keys K).Nodup → ∃ r A' K', OpOk P gm env A o r A' ∧ Kstep K A K' A' ∧ Q r K'

variable {Y : KX P gm T} {ds : List Nat} {k : List Item} {env env' : List AV} {K K' : KV} {ops : Array Oper} {i : Nat} {rest : List Nat} {o : Oper} {r : AV}

theorem TK.skip (h : TK Y ds k env K) : TK Y ds (.code .skip :: k) env K := fun A hA => (h A hA).skip
theorem TK.inBlock {id : Nat} (h : TK Y ds k env K) : TK Y ds (.inBlock id :: k) env K := fun A hA => (h A hA).inBlock
theorem TK.label {l : Nat} (h : TK Y ds k env K) : TK Y ds (.code (.label l) :: k) env K := fun A hA => (h A hA).label
theorem TK.seq {x y : Code} (h : TK Y ds (.code x :: .code y :: k) env K) : TK Y ds (.code (.seq x y) :: k) env K := fun A hA => (h A hA).seq
theorem TK.block {id : Nat} {c : Code} (h : TK Y ds (.code c :: .inBlock id :: k) env K) : TK Y ds (.code (.block id c) :: k) env K := fun A hA => (h A hA).block
theorem TK.inLoop {c : Code} (h : TK Y ds (.code c :: .inLoop c :: k) env K) : TK Y ds (.inLoop c :: k) env K := fun A hA => (h A hA).inLoop
theorem TK.exit {id : Nat} {k' : List Item} (hk : exitTo id k = some k') (h : TK Y ds k' env K) : TK Y ds (.code (.exit id) :: k) env K := fun A hA => (h A hA).exit hk
theorem TK.region {id : Nat} (h : TK Y ds (.inRegion ops (List.range ops.size) :: k) env K) : TK Y ds (.code (.region id ops false) :: k) env K := fun A hA => (h A hA).region
theorem TK.regionEnd (h : TK Y ds k env K) : TK Y ds (.inRegion ops [] :: k) env K := fun A hA => (h A hA).regionEnd
theorem TK.cond {c : Operand} {x y : Code} {t : Bool} (hc : opnd gm env c = .v (.bool t)) (h1 : t = true → TK Y ds (.code x :: k) env K) (h2 : t = false → TK Y ds (.code y :: k) env K) : TK Y ds (.code (.cond c x y) :: k) env K := fun A hA => by
 cases t with
 | true => exact TA.cond true hc (h1 rfl A hA)
 | false => exact TA.cond false hc (h2 rfl A hA)
theorem TK.mask (bs : List Bool) (he : maskA bs env = env') (h : TK Y ds k env' K) : TK Y ds k env K := fun A hA => TA.mask bs (he ▸ h A hA)

theorem TK.op (ho : ops[i]? = some o) (hd : isDefer o.op = false) (hw : wantA ops env o = some true) (h : OpK P gm env K o fun r K' => TK Y ds (.inRegion ops rest :: k) (putA env o.dst r) K') : TK Y ds (.inRegion ops (i :: rest) :: k) env K := fun A hA => by
 obtain ⟨r, A', K', h1, h2, h3⟩ := h A hA.view hA.nd
 exact TA.op ho hd hw h1 (h3 A' (hA.step h2))

/-- One that changes nothing. -/
theorem TK.q (ho : ops[i]? = some o) (hd : isDefer o.op = false) (hw : wantA ops env o = some true) (hq : ∀ A, View K A → OpOk P gm env A o r A) (he : putA env o.dst r = env') (h : TK Y ds (.inRegion ops rest :: k) env' K) : TK Y ds (.inRegion ops (i :: rest) :: k) env K :=
 TK.op ho hd hw fun A hv hn => ⟨r, A, K, hq A hv, .same hv hn, by subst he; exact h⟩
/-- One that makes an object. -/
theorem TK.new {f : Nat → AV} {ob : AObj} {env'' : Nat → List AV} (ho : ops[i]? = some o) (hd : isDefer o.op = false) (hw : wantA ops env o = some true) (hq : ∀ A, View K A → OpOk P gm env A o (f A.length) (A ++ [ob])) (he : ∀ j, putA env o.dst (f j) = env'' j) (h : ∀ j, j ∉ keys K → TK Y ds (.inRegion ops rest :: k) (env'' j) ((j, ob) :: K)) : TK Y ds (.inRegion ops (i :: rest) :: k) env K :=
 TK.op ho hd hw fun A hv hn => ⟨_, _, _, hq A hv, .push hv hn ob, by dsimp only; rw [he]; exact h _ fun hm => absurd (hv.lt hm) (Nat.lt_irrefl _)⟩
/-- One that changes an object. -/
theorem TK.st {j : Nat} {ob ob' : AObj} (ho : ops[i]? = some o) (hd : isDefer o.op = false) (hw : wantA ops env o = some true) (hq : ∀ A, View K A → OpOk P gm env A o r (A.set j ob')) (hu : Upd K j ob j ob' K') (he : putA env o.dst r = env') (h : TK Y ds (.inRegion ops rest :: k) env' K') : TK Y ds (.inRegion ops (i :: rest) :: k) env K :=
 TK.op ho hd hw fun A hv hn => ⟨r, _, K', hq A hv, .set hv hn hu, by subst he; exact h⟩
/-- One that makes a row out of a row. -/
theorem TK.app {j : Nat} {f : Nat → AV} {ob ob' : AObj} {env'' : Nat → List AV} {K'' : Nat → KV} (ho : ops[i]? = some o) (hd : isDefer o.op = false) (hw : wantA ops env o = some true) (hq : ∀ A, View K A → OpOk P gm env A o (f A.length) (A.set j .gone ++ [ob'])) (hu : ∀ j', Upd K j ob j' ob' (K'' j')) (he : ∀ j', putA env o.dst (f j') = env'' j') (h : ∀ j', TK Y ds (.inRegion ops rest :: k) (env'' j') (K'' j')) : TK Y ds (.inRegion ops (i :: rest) :: k) env K :=
 TK.op ho hd hw fun A hv hn => ⟨_, _, _, hq A hv, .renew hv hn (hu _), by dsimp only; rw [he]; exact h _⟩
theorem TK.unwanted (ho : ops[i]? = some o) (hw : wantA ops env o = some false) (he : putA env o.dst (.v undef) = env') (h : TK Y ds (.inRegion ops rest :: k) env' K) : TK Y ds (.inRegion ops (i :: rest) :: k) env K := fun A hA => TA.unwanted ho hw (he ▸ h A hA)

/-- Less is known. -/
theorem TK.drop {L R : KV} (hs : Split K L R) (h : TK Y ds k env R) : TK Y ds k env K := fun A hA => by
 refine h A ⟨hA.view.sub fun x hx => hs.perm.symm.subset (by simp [hx]), ?_, fun i hi => hA.own i ?_, hA.kept, hA.len⟩
 ·have := (keys_perm hs.perm).nodup_iff.1 hA.nd
  rw [keys_app] at this
  exact (List.nodup_append.1 this).2.1
 ·obtain ⟨x, hx, rfl⟩ := List.mem_map.1 hi
  exact mem_keys (hs.perm.symm.subset (by simp [hx]))
/-- What is kept, in an order of its own. -/
theorem TK.keep {L R : KV} (hs : Split K R L) (h : TK Y ds k env R) : TK Y ds k env K := fun A hA => by
 refine h A ⟨hA.view.sub fun x hx => hs.perm.symm.subset (by simp [hx]), ?_, fun i hi => hA.own i ?_, hA.kept, hA.len⟩
 ·have := (keys_perm hs.perm).nodup_iff.1 hA.nd
  rw [keys_app] at this
  exact (List.nodup_append.1 this).1
 ·obtain ⟨x, hx, rfl⟩ := List.mem_map.1 hi
  exact mem_keys (hs.perm.symm.subset (by simp [hx]))
/-- In another order. -/
theorem TK.perm (hp : K.Perm K') (h : TK Y ds k env K') : TK Y ds k env K := fun A hA =>
 h A ⟨hA.view.sub fun x hx => hp.symm.subset hx, (keys_perm hp).nodup_iff.1 hA.nd, fun i hi => hA.own i ((keys_perm hp).symm.subset hi), hA.kept, hA.len⟩

/-- A slice of nothing is a row that lies nowhere yet. -/
theorem TK.virt (d : Nat) (e : TypeId) (size : Nat) {x : Option Addr} (hx : env[d]? = some (.v (.slice x 0 0))) (h : ∀ j, j ∉ keys K → TK Y ds k (env.set d (.row j 0)) ((j, .row [] e size) :: K)) : TK Y ds k env K := fun A hA φ H ts h1 h2 h3 h4 h5 h6 => by
 have hk : A.length ∉ keys K := fun hm => absurd (hA.view.lt hm) (Nat.lt_irrefl _)
 have hH := h5.virt e size
 have hag := agr_upd3 φ A.length ⟨0, 0, 0⟩
 have hlen : (A ++ [AObj.row [] e size]).length = A.length + 1 := by simp
 have hds : dsC (upd3 φ A.length ⟨0, 0, 0⟩) ds = dsC φ ds := by
  unfold dsC
  exact List.map_congr_left fun d hd' => by rw [hag d (h4 d hd')]
 rw [← hds]
 refine h _ hk _ (hA.step (.push hA.view hA.nd _)) _ H ts (h1.trans hag h2) (by omega) (h3.mono hag (by omega)) (fun d hd => by have := h4 d hd; omega) hH ?_
 have hE := h6.mono (n' := (A ++ [AObj.row [] e size]).length) hag (by omega)
 refine ⟨by simp [hE.1], fun j u y hu hy => ?_⟩
 rw [List.getElem?_set] at hu
 split at hu
 ·rename_i e
  subst e
  split at hu
  ·cases hu
   have hr := h6.2 d _ y hx hy
   rw [inv_v hr]
   refine .row (by omega) (by simp) ?_
   unfold rowV
   simp [upd3]
  ·cases hu
 ·exact hE.2 j u y hu hy

/-! ### contracts -/
def CallK (P : Program) (T : Goroutine → Hp → Prop) (gm : Nat → Option Nat) (g : FuncId) (args : List AV) (K : KV) (Post : AV → KV → Prop) : Prop :=
 ∀ A, View K A → (keys K).Nodup → CallT P T gm g args A fun r A' => ∃ K', Kstep K A K' A' ∧ Post r K'

theorem CallK.mono {g : FuncId} {args : List AV} {Post Post' : AV → KV → Prop} (h : CallK P T gm g args K Post) (hp : ∀ r K', Post r K' → Post' r K') : CallK P T gm g args K Post' :=
 fun A hv hn => (h A hv hn).mono fun r A' ⟨K', h1, h2⟩ => ⟨K', h1, hp r K' h2⟩

theorem callK_enter {main : Bool} (hT : Shut P main T) {g : FuncId} {fn : Func} {c : Code} {args : List AV} {Post : AV → KV → Prop} (hf : P.funcs[g]? = some fn) (hb : fn.body = some c)
  (h : ∀ Y : KX P gm T, (∀ j env K' r, (j = none ∨ j = some .ret) → (∀ A', View K' A' → resA P fn.results.toList env A' = some r) → Post r K' → ∀ A', Kn Y K' A' → Y.X.L j [] env A') → TK Y [] [.code c] (args ++ List.replicate (fn.ntmps - args.length) .any) K) : CallK P T gm g args K Post := by
 intro A hv hn
 refine callT_enter hT hf hb fun X hret hend => ?_
 refine h ⟨X, A, keys K⟩ (fun j env K' r hj hres hp A' hA' => ?_) A ⟨hv, hn, fun i hi => .inl hi, fun _ _ _ => rfl, Nat.le_refl _⟩
 have hq : ∃ K', Kstep K A K' A' ∧ Post r K' := ⟨K', ⟨hA'.view, hA'.nd, hA'.own, hA'.kept, hA'.len⟩, hp⟩
 rcases hj with rfl | rfl
 ·exact hend env A' r (hres A' hA'.view) hq
 ·exact hret env A' r (hres A' hA'.view) hq

theorem TK.leave {j : Option Code} (hl : Leave j k) (h : ∀ A, Kn Y K A → Y.X.L j ds env A) : TK Y ds k env K := fun A hA => TA.leave hl (h A hA)

theorem TK.call {fo : Operand} {ars : Array Operand} {at_ : Array TypeId} {g : FuncId} {fs cp args : List AV} {Kf R : KV} {Post : AV → KV → Prop} (ho : ops[i]? = some o) (hop : o.op = .call { callee := .value fo, args := ars, argTypes := at_ })
  (hw : wantA ops env o = some true) (hf : opnd gm env fo = .fn g fs cp) (hg : callable P g = true) (hargs : fs ++ ars.toList.map (opnd gm env) ++ cp = args) (hc : CallK P T gm g args Kf Post) (hs : Split K Kf R)
  (h : ∀ r K', Post r K' → TK Y ds (.inRegion ops rest :: k) (putA env o.dst r) (K' ++ R)) : TK Y ds (.inRegion ops (i :: rest) :: k) env K := fun A hA => by
 have hp := hs.perm
 have hv : View Kf A := hA.view.sub fun x hx => hp.symm.subset (by simp [hx])
 have hnd := (keys_perm hp).nodup_iff.1 hA.nd
 rw [keys_app] at hnd
 have hnd' := List.nodup_append.1 hnd
 refine TA.call ho hop hw hf hg hargs (hc A hv hnd'.1) fun r A' ⟨K', hk, hpost⟩ => h r K' hpost A' (hA.step ?_)
 have hR : View R A := hA.view.sub fun x hx => hp.symm.subset (by simp [hx])
 have hRl : ∀ x ∈ R, x.1 < A.length ∧ x.1 ∉ keys Kf := fun x hx => ⟨hR.lt (mem_keys hx), fun hm => hnd'.2.2 x.1 hm x.1 (mem_keys hx) rfl⟩
 refine ⟨fun x hx => ?_, ?_, fun j hj => ?_, fun j hj hn => ?_, hk.len⟩
 ·rcases List.mem_append.1 hx with hx | hx
  ·exact hk.view x hx
  ·rw [hk.kept _ (hRl x hx).1 (hRl x hx).2]; exact hR x hx
 ·rw [keys_app]
  refine List.nodup_append.2 ⟨hk.nd, hnd'.2.1, fun a ha b hb e => ?_⟩
  subst e
  obtain ⟨x, hx, rfl⟩ := List.mem_map.1 hb
  rcases hk.own _ ha with h1 | h1
  ·exact (hRl x hx).2 h1
  ·have := (hRl x hx).1; omega
 ·rw [keys_app] at hj
  rcases List.mem_append.1 hj with hj | hj
  ·rcases hk.own j hj with h1 | h1
   ·exact .inl ((keys_perm hp).symm.subset (by rw [keys_app]; exact List.mem_append_left _ h1))
   ·exact .inr h1
  ·exact .inl ((keys_perm hp).symm.subset (by rw [keys_app]; exact List.mem_append_right _ hj))
 ·exact hk.kept j hj fun hm => hn ((keys_perm hp).symm.subset (by rw [keys_app]; exact List.mem_append_left _ hm))

/-- A loop. -/
theorem TK.loopN {c : Code} (I : Nat → List AV → KV → Prop) (n : Nat) (h0 : I n env K)
  (round : ∀ n env K, I n env K → (∀ n' env' K', n' < n → I n' env' K' → TK Y ds (.inLoop c :: k) env' K') → TK Y ds (.code c :: .inLoop c :: k) env K) : TK Y ds (.code (.loop c) :: k) env K := by
 have key : ∀ n env K, I n env K → TK Y ds (.code c :: .inLoop c :: k) env K := by
  intro n
  induction n using Nat.strongRecOn with
  | _ n ih =>
   intro env K hI
   exact round n env K hI fun n' env' K' hlt hI' => TK.inLoop (ih n' hlt env' K' hI')
 exact fun A hA => TA.loop (key n env K h0 A hA)
end
end Go.Vel
end
section
set_option linter.all false
set_option maxRecDepth 20000
set_option maxHeartbeats 60000000
namespace Go.Vel
open Go Go.Conc

/-! ### drawn orders -/
def edgesOf (m : Region.Mode) (ops : Array Oper) (i : Nat) : List Nat := match ops[i]? with
 | some o => o.after.toList.filterMap fun e => if Region.binds m e then some e.on else none
 | none => []

theorem edges_any {m : Region.Mode} {ops : Array Oper} {i j : Nat} (h : j ∈ edgesOf .any ops i) : j ∈ edgesOf m ops i := by
 unfold edgesOf at h ⊢
 split at h
 ·rename_i o e
  simp only [List.mem_filterMap] at h ⊢
  obtain ⟨e', h1, h2⟩ := h
  refine ⟨e', h1, ?_⟩
  have : Region.binds m e' = true := by
   unfold Region.binds at h2 ⊢
   cases hg : e'.ground <;> rw [hg] at h2 <;> first | rfl | (simp at h2; done) | (exact absurd h2 (by simp [show (Region.Mode.any == Region.Mode.text) = false from rfl, show (Region.Mode.any == Region.Mode.gc) = false from rfl]))
  rw [if_pos this]
  split at h2
  ·exact h2
  ·cases h2
 ·cases h

/-- None waits for one that comes behind it. -/
def Resp (ops : Array Oper) : List Nat → Prop
 | [] => True
 | i :: q => (∀ j ∈ edgesOf .any ops i, j ∉ i :: q) ∧ Resp ops q

/-- An order in which none waits for a later one, of all. -/
def topo (m : Region.Mode) (ops : Array Oper) : List Nat → List Nat → Bool
 | seen, [] => (List.range ops.size).all fun i => seen.elem i
 | seen, i :: q => (edgesOf m ops i).all (fun j => seen.elem j) && decide (i < ops.size) && topo m ops (i :: seen) q

theorem topo_first {m : Region.Mode} {ops : Array Oper} (listed : Nat → Prop) [DecidablePred listed] : ∀ (ρ seen : List Nat), topo m ops seen ρ = true → (∀ i ∈ seen, listed i) → (∀ i, i < ops.size → listed i) ∨ ∃ i, i < ops.size ∧ ¬ listed i ∧ ∀ j ∈ edgesOf m ops i, listed j := by
 intro ρ
 induction ρ with
 | nil =>
  intro seen h hs
  left
  intro i hi
  simp only [topo, List.all_eq_true, List.mem_range] at h
  exact hs i (by simpa using h i hi)
 | cons i q ih =>
  intro seen h hs
  simp only [topo, Bool.and_eq_true, List.all_eq_true, decide_eq_true_eq] at h
  by_cases hl : listed i
  ·exact ih (i :: seen) h.2 fun j hj => by
    rcases List.mem_cons.1 hj with rfl | hj
    ·exact hl
    ·exact hs j hj
  ·exact .inr ⟨i, h.1.2, hl, fun j hj => hs j (by simpa using h.1.1 j hj)⟩

theorem nodup_len : ∀ (n : Nat) (l : List Nat), l.Nodup → (∀ i ∈ l, i < n) → l.length ≤ n
 | 0, l, _, h => by
  cases l with
  | nil => simp
  | cons a l => exact absurd (h a (by simp)) (by omega)
 | n + 1, l, hn, h => by
  have h1 := nodup_len n (l.erase n) (hn.erase n) fun i hi => by
   have := (hn.mem_erase_iff).1 hi
   have := h i this.2
   omega
  have h2 := List.length_erase (a := n) (l := l)
  split at h2 <;> omega
theorem nodup_all : ∀ (n : Nat) (l : List Nat), l.Nodup → (∀ i ∈ l, i < n) → n ≤ l.length → ∀ i, i < n → i ∈ l
 | 0, _, _, _, _, i, hi => absurd hi (by omega)
 | n + 1, l, hn, h, hl, i, hi => by
  have hm : n ∈ l := by
   apply Classical.byContradiction
   intro hnm
   have := nodup_len n l hn fun i hi => by
    have := h i hi
    have : i ≠ n := fun e => hnm (e ▸ hi)
    omega
   omega
  by_cases e : i = n
  ·rw [e]; exact hm
  ·refine List.mem_of_mem_erase (nodup_all n (l.erase n) (hn.erase n) (fun i hi => ?_) ?_ i (by omega))
   ·have := (hn.mem_erase_iff).1 hi
    have := h i this.2
    omega
   ·rw [List.length_erase_of_mem hm]; omega

theorem lin_go {m : Region.Mode} {ops : Array Oper} {ρ : List Nat} (hρ : topo m ops [] ρ = true) : ∀ (fuel t : Nat) (listed : Array Bool) (acc : List Nat), listed.size = ops.size → (∀ i, i < ops.size → (listed.getD i true = true ↔ i ∈ acc)) → (∀ i ∈ acc, i < ops.size) → acc.Nodup →
  ops.size ≤ fuel + acc.length → ∃ q, Region.linearise.go m ops fuel t listed acc = acc.reverse ++ q ∧ q.Nodup ∧ (∀ i ∈ q, i < ops.size ∧ i ∉ acc) ∧ Resp ops q ∧ ∀ i, i < ops.size → i ∈ acc ∨ i ∈ q := by
 intro fuel
 induction fuel with
 | zero =>
  intro t listed acc hs hl hb hn hf
  refine ⟨[], by simp [Region.linearise.go], by simp, by simp, trivial, fun i hi => .inl ?_⟩
  exact nodup_all ops.size acc hn hb (by omega) i hi
 | succ fuel ih =>
  intro t listed acc hs hl hb hn hf
  unfold Region.linearise.go
  dsimp only
  generalize hrs : ((List.range ops.size).filter fun i => !listed.getD i true && ((ops[i]?).map (·.after.all fun e => !Region.binds m e || listed.getD e.on false)).getD false) = rs
  have hmem : ∀ i, i ∈ rs ↔ i < ops.size ∧ i ∉ acc ∧ ∀ j ∈ edgesOf m ops i, j < ops.size ∧ j ∈ acc := by
   intro i
   rw [← hrs, List.mem_filter, List.mem_range]
   constructor
   ·rintro ⟨h1, h2⟩
    simp only [Bool.and_eq_true, Bool.not_eq_true'] at h2
    refine ⟨h1, fun hm => ?_, fun j hj => ?_⟩
    ·rw [(hl i h1).2 hm] at h2; exact absurd h2.1 (by simp)
    ·unfold edgesOf at hj
     rw [Array.getElem?_eq_getElem h1] at hj h2
     simp only [List.mem_filterMap] at hj
     obtain ⟨e, he, h3⟩ := hj
     split at h3
     ·rename_i hbd
      cases h3
      have h4 := h2.2
      simp only [Option.map_some, Option.getD_some, Array.all_eq_true_iff_forall_mem] at h4
      have h5 := h4 e (by simpa using he)
      rw [hbd] at h5
      simp only [Bool.not_true, Bool.false_or] at h5
      by_cases hlt : e.on < ops.size
      ·refine ⟨hlt, (hl e.on hlt).1 ?_⟩
       rw [Array.getD_eq_getD_getElem?] at h5 ⊢
       rw [Array.getElem?_eq_getElem (by rw [hs]; exact hlt)] at h5 ⊢
       exact h5
      ·rw [Array.getD_eq_getD_getElem?, Array.getElem?_eq_none (by rw [hs]; omega)] at h5
       cases h5
     ·cases h3
   ·rintro ⟨h1, h2, h3⟩
    refine ⟨h1, ?_⟩
    simp only [Bool.and_eq_true, Bool.not_eq_true']
    refine ⟨?_, ?_⟩
    ·cases e : listed.getD i true with
     | false => rfl
     | true => exact absurd ((hl i h1).1 e) h2
    ·rw [Array.getElem?_eq_getElem h1]
     simp only [Option.map_some, Option.getD_some, Array.all_eq_true_iff_forall_mem]
     intro e he
     cases hbd : Region.binds m e with
     | false => rfl
     | true =>
      simp only [Bool.not_true, Bool.false_or]
      obtain ⟨h4, h5⟩ := h3 e.on (by
       unfold edgesOf
       rw [Array.getElem?_eq_getElem h1]
       simp only [List.mem_filterMap]
       exact ⟨e, by simpa using he, by rw [if_pos hbd]⟩)
      have := (hl e.on h4).2 h5
      rw [Array.getD_eq_getD_getElem?] at this ⊢
      rw [Array.getElem?_eq_getElem (by rw [hs]; exact h4)] at this ⊢
      exact this
  cases hpick : rs[t % rs.length]? with
  | none =>
   dsimp only
   have hnil : rs = [] := by
    cases rs with
    | nil => rfl
    | cons a l =>
     exfalso
     have : t % (a :: l).length < (a :: l).length := Nat.mod_lt _ (by simp)
     rw [List.getElem?_eq_getElem this] at hpick
     cases hpick
   refine ⟨[], by simp, by simp, by simp, trivial, fun i hi => .inl ?_⟩
   rcases topo_first (m := m) (ops := ops) (fun i => i ∈ acc) ρ [] hρ (by simp) with h | ⟨i', h1, h2, h3⟩
   ·exact h i hi
   ·exfalso
    have : i' ∈ rs := (hmem i').2 ⟨h1, h2, fun j hj => ⟨hb j (h3 j hj), h3 j hj⟩⟩
    rw [hnil] at this
    cases this
  | some i =>
   dsimp only
   have hi := (hmem i).1 (List.mem_of_getElem? hpick)
   obtain ⟨q, h1, h2, h3, h4, h5⟩ := ih (t / rs.length) (listed.setIfInBounds i true) (i :: acc) (by simp [hs]) (fun j hj => by
    rw [Array.getD_eq_getD_getElem?, Array.getElem?_setIfInBounds]
    by_cases hij : i = j
    ·subst hij
     simp [hs, hj]
    ·rw [if_neg hij, ← Array.getD_eq_getD_getElem?, hl j hj]
     simp [Ne.symm hij]) (fun j hj => by
    rcases List.mem_cons.1 hj with rfl | hj
    ·exact hi.1
    ·exact hb j hj) (List.nodup_cons.2 ⟨hi.2.1, hn⟩) (by simp; omega)
   refine ⟨i :: q, by rw [h1]; simp, List.nodup_cons.2 ⟨fun hm => (h3 i hm).2 (by simp), h2⟩, fun j hj => ?_, ⟨fun j hj => ?_, h4⟩, fun j hj => ?_⟩
   ·rcases List.mem_cons.1 hj with rfl | hj
    ·exact ⟨hi.1, hi.2.1⟩
    ·exact ⟨(h3 j hj).1, fun hm => (h3 j hj).2 (by simp [hm])⟩
   ·have := (hi.2.2 j (edges_any hj)).2
    intro hm
    rcases List.mem_cons.1 hm with rfl | hm
    ·exact hi.2.1 this
    ·exact (h3 j hm).2 (by simp [this])
   ·rcases h5 j hj with h6 | h6
    ·rcases List.mem_cons.1 h6 with rfl | h6
     ·exact .inr (by simp)
     ·exact .inl h6
    ·exact .inr (by simp [h6])

theorem lin_ok {m : Region.Mode} {ops : Array Oper} {ρ : List Nat} (hρ : topo m ops [] ρ = true) (t : Nat) : (Region.linearise m ops t).Nodup ∧ Resp ops (Region.linearise m ops t) ∧ ∀ i, i ∈ Region.linearise m ops t ↔ i < ops.size := by
 obtain ⟨q, h1, h2, h3, h4, h5⟩ := lin_go hρ ops.size t (Array.replicate ops.size false) [] (by simp) (fun i hi => by
  rw [Array.getD_eq_getD_getElem?, Array.getElem?_replicate, if_pos hi]
  simp) (by simp) (by simp) (by simp)
 have e : Region.linearise m ops t = q := by
  unfold Region.linearise
  rw [h1]
  simp
 rw [e]
 exact ⟨h2, h4, fun i => ⟨fun hi => (h3 i hi).1, fun hi => (h5 i hi).resolve_left (by simp)⟩⟩

/-- The orders that a region can be drawn in. -/
def drawnOk (ops : Array Oper) (ρt ρg : List Nat) : Bool := if Region.departs ops then topo .text ops [] ρt && topo .gc ops [] ρg && topo .any ops [] ρt else topo .any ops [] ρt
theorem sched_ok {ops : Array Oper} {ρt ρg : List Nat} (h : drawnOk ops ρt ρg = true) (mixed : Bool) (t : Nat) : (Region.schedule mixed ops t).Nodup ∧ Resp ops (Region.schedule mixed ops t) ∧ ∀ i, i ∈ Region.schedule mixed ops t ↔ i < ops.size := by
 unfold drawnOk at h
 unfold Region.schedule
 cases hd : Region.departs ops with
 | false =>
  rw [hd] at h
  simp only [Bool.not_false, Bool.or_true, if_true]
  exact lin_ok (by simpa using h) t
 | true =>
  rw [hd] at h
  simp only [if_true, Bool.and_eq_true] at h
  cases mixed with
  | true => exact lin_ok h.2 t
  | false =>
   simp only [Bool.not_true, Bool.or_self, Bool.false_eq_true, if_false]
   split
   ·exact lin_ok h.1.1 _
   ·exact lin_ok h.1.2 _
end Go.Vel
end
section
set_option linter.all false
set_option maxRecDepth 20000
set_option maxHeartbeats 60000000
namespace Go.Vel
open Go Go.Conc

/-! ### an operation or a call, whatever stands behind it -/
section
variable {P : Program} {gm : Nat → Option Nat} {T : Goroutine → Hp → Prop}

def Ex (X : Cx P gm T) (env : List AV) (A : List AObj) (o : Oper) (Q : AV → List AObj → Prop) : Prop :=
 ∀ (ops : Array Oper) (i : Nat) (rest : List Nat) (k : List Item) (ds : List Deferred) (φ : Nat → Loc3) (H : Hp) (ts : Array Value), ops[i]? = some o → Region.wanted o (yielded ops ts) = true → RelG gm φ A.length → RelH φ A X.F H → RelL φ A.length env ts →
  (∀ r A' φ' H' v, Q r A' → Agr φ φ' A.length → A.length ≤ A'.length → RelH φ' A' X.F H' → RelV φ' A'.length r v → T (G (fr X.kd X.f X.ro (putT ts o.dst v) ds (.inRegion ops rest :: k)) X.cs) H') → T (G (fr X.kd X.f X.ro ts ds (.inRegion ops (i :: rest) :: k)) X.cs) H

theorem ex_op {X : Cx P gm T} {env : List AV} {A A' : List AObj} {o : Oper} {r : AV} (hd : isDefer o.op = false) (hok : OpOk P gm env A o r A') : Ex X env A o fun r1 A1 => r1 = r ∧ A1 = A' := fun ops i rest k ds φ H ts ho hw h3 h5 h6 hq => by
 refine X.hT.opF X.hkd ho hw hd (wpS_mono _ _ _ _ ?_ (hok φ X.F H ⟨ts, []⟩ h3 h5 h6))
 rintro nx H' ⟨v, φ', hnx, hA, hlen, hH', hr⟩
 have := hq r A' φ' H' v ⟨rfl, rfl⟩ hA hlen hH' hr
 rcases hnx with rfl | ⟨rfl, rfl⟩ <;> exact this

theorem ex_call {X : Cx P gm T} {env : List AV} {A : List AObj} {o : Oper} {fo : Operand} {ars : Array Operand} {at_ : Array TypeId} {g : FuncId} {fs cp : List AV} {args : List AV} {Post : AV → List AObj → Prop} (hop : o.op = .call { callee := .value fo, args := ars, argTypes := at_ })
  (hf : opnd gm env fo = .fn g fs cp) (hg : callable P g = true) (hargs : fs ++ ars.toList.map (opnd gm env) ++ cp = args) (hc : CallT P T gm g args A Post) : Ex X env A o Post := fun ops i rest k ds φ H ts ho hw h3 h5 h6 hq => by
 refine X.hT.opF X.hkd ho hw (by rw [hop]; rfl) ?_
 have hfo := opnd_rel (a := ⟨ts, []⟩) h3 h6 fo
 rw [hf] at hfo
 obtain ⟨xs, ys, e, hr1, hr2⟩ := inv_fn hfo
 unfold execOp
 rw [hop]
 dsimp only
 refine wpS_bind_eq _ _ _ ?_
 show wpS P (Deferred.ofValue (Act.eval ⟨ts, []⟩ fo) (ars.map (evT ts))) H _
 rw [e]
 show wpS P (callFunc g ((xs ++ ars.map (evT ts)) ++ ys)) H _
 refine wpS_callFunc hg _ ?_
 show T (G (Frame.enter P g _ .normal) (_ :: X.cs)) H
 have hrel : RelL φ A.length args ((xs ++ ars.map (evT ts)) ++ ys) := by
  rw [← hargs]
  exact relL_app (relL_app hr1 (relL_map (a := ⟨ts, []⟩) h3 h6 ars)) hr2
 refine hc φ X.F H _ _ _ h3 h5 hrel fun r A' φ' H' v hp hA hlen hH' hr => ?_
 have hfin := fr_finish X.kd X.f X.ro ts ds ops i rest k v
 simp only [ho, Option.bind_some] at hfin
 rw [hfin]
 exact hq r A' φ' H' v hp hA hlen hH' hr

def ExK (Y : KX P gm T) (env : List AV) (K : KV) (o : Oper) (Q : AV → KV → Prop) : Prop := ∀ A, Kn Y K A → Ex Y.X env A o fun r A' => ∃ K', Kstep K A K' A' ∧ Q r K'

theorem Ex.mono {X : Cx P gm T} {env : List AV} {A : List AObj} {o : Oper} {Q Q' : AV → List AObj → Prop} (h : Ex X env A o Q) (hq : ∀ r A', Q r A' → Q' r A') : Ex X env A o Q' :=
 fun ops i rest k ds φ H ts h1 h2 h3 h4 h5 h6 => h ops i rest k ds φ H ts h1 h2 h3 h4 h5 fun r A' φ' H' v hp => h6 r A' φ' H' v (hq r A' hp)

variable {Y : KX P gm T} {ds : List Nat} {k : List Item} {env env' : List AV} {K K' : KV} {ops : Array Oper} {i : Nat} {rest : List Nat} {o : Oper} {r : AV}

theorem exK_op (hd : isDefer o.op = false) {Q : AV → KV → Prop} (h : OpK P gm env K o Q) : ExK Y env K o Q := fun A hA => by
 obtain ⟨r, A', K', h1, h2, h3⟩ := h A hA.view hA.nd
 exact (ex_op hd h1).mono fun r1 A1 ⟨e1, e2⟩ => ⟨K', e2 ▸ h2, e1 ▸ h3⟩

/-- A call: of what is known, a part is handed over. -/
theorem exK_call {fo : Operand} {ars : Array Operand} {at_ : Array TypeId} {g : FuncId} {fs cp args : List AV} {Kf R : KV} {Post : AV → KV → Prop} (hop : o.op = .call { callee := .value fo, args := ars, argTypes := at_ })
  (hf : opnd gm env fo = .fn g fs cp) (hg : callable P g = true) (hargs : fs ++ ars.toList.map (opnd gm env) ++ cp = args) (hc : CallK P T gm g args Kf Post) (hs : Split K Kf R) {Q : AV → KV → Prop} (hq : ∀ r K', Post r K' → Q r (K' ++ R)) : ExK Y env K o Q := fun A hA => by
 have hp := hs.perm
 have hv : View Kf A := hA.view.sub fun x hx => hp.symm.subset (by simp [hx])
 have hnd := (keys_perm hp).nodup_iff.1 hA.nd
 rw [keys_app] at hnd
 have hnd' := List.nodup_append.1 hnd
 refine (ex_call hop hf hg hargs (hc A hv hnd'.1)).mono fun r A' ⟨K', hk, hpost⟩ => ⟨K' ++ R, ?_, hq r K' hpost⟩
 have hR : View R A := hA.view.sub fun x hx => hp.symm.subset (by simp [hx])
 have hRl : ∀ x ∈ R, x.1 < A.length ∧ x.1 ∉ keys Kf := fun x hx => ⟨hR.lt (mem_keys hx), fun hm => hnd'.2.2 x.1 hm x.1 (mem_keys hx) rfl⟩
 refine ⟨fun x hx => ?_, ?_, fun j hj => ?_, fun j hj hn => ?_, hk.len⟩
 ·rcases List.mem_append.1 hx with hx | hx
  ·exact hk.view x hx
  ·rw [hk.kept _ (hRl x hx).1 (hRl x hx).2]; exact hR x hx
 ·rw [keys_app]
  refine List.nodup_append.2 ⟨hk.nd, hnd'.2.1, fun a ha b hb e => ?_⟩
  subst e
  obtain ⟨x, hx, rfl⟩ := List.mem_map.1 hb
  rcases hk.own _ ha with h1 | h1
  ·exact (hRl x hx).2 h1
  ·have := (hRl x hx).1; omega
 ·rw [keys_app] at hj
  rcases List.mem_append.1 hj with hj | hj
  ·rcases hk.own j hj with h1 | h1
   ·exact .inl ((keys_perm hp).symm.subset (by rw [keys_app]; exact List.mem_append_left _ h1))
   ·exact .inr h1
  ·exact .inl ((keys_perm hp).symm.subset (by rw [keys_app]; exact List.mem_append_right _ hj))
 ·exact hk.kept j hj fun hm => hn ((keys_perm hp).symm.subset (by rw [keys_app]; exact List.mem_append_left _ hm))

theorem TK.ex (ho : ops[i]? = some o) (hw : wantA ops env o = some true) (h : ExK Y env K o fun r K' => TK Y ds (.inRegion ops rest :: k) (putA env o.dst r) K') : TK Y ds (.inRegion ops (i :: rest) :: k) env K := fun A hA φ H ts h1 h2 h3 h4 h5 h6 => by
 refine h A hA ops i rest k (dsC φ ds) φ H ts ho (wantA_ok h6 hw) h3 h5 h6 fun r A' φ' H' v ⟨K', hk, hq⟩ hA' hlen hH' hr => ?_
 have hE := put_rel (a := ⟨ts, []⟩) (h6.mono hA' hlen) hr o.dst
 have hds : dsC φ' ds = dsC φ ds := by
  unfold dsC
  exact List.map_congr_left fun d hd' => by rw [hA' d (h4 d hd')]
 have := hq A' (hA.step hk) φ' H' _ (h1.trans hA' h2) (by omega) (h3.mono hA' hlen) (fun d hd' => Nat.lt_of_lt_of_le (h4 d hd') hlen) hH' hE
 rw [hds] at this
 exact this

/-! ### regions whose order is drawn -/
/-- Of the slots, some. -/
def only (s : List Nat) : Nat → List AV → List AV
 | _, [] => []
 | j, a :: l => (if s.elem j then a else .any) :: only s (j + 1) l
def onl (s : List Nat) (env : List AV) : List AV := only s 0 env
theorem only_len (s : List Nat) : ∀ (l : List AV) (j : Nat), (only s j l).length = l.length
 | [], _ => rfl
 | a :: l, j => by simp [only, only_len s l]
theorem only_get (s : List Nat) : ∀ (l : List AV) (j t : Nat) a, (only s j l)[t]? = some a → a = .any ∨ (s.elem (j + t) = true ∧ l[t]? = some a)
 | [], j, t, a, h => by simp [only] at h
 | b :: l, j, 0, a, h => by
  simp only [only, List.getElem?_cons_zero, Option.some.injEq] at h
  split at h
  ·rename_i e; exact .inr ⟨e, by simp [h]⟩
  ·exact .inl h.symm
 | b :: l, j, t + 1, a, h => by
  rw [only, List.getElem?_cons_succ] at h
  rcases only_get s l (j + 1) t a h with h1 | ⟨h1, h2⟩
  ·exact .inl h1
  ·exact .inr ⟨by rw [show j + (t + 1) = j + 1 + t by omega]; exact h1, by simpa using h2⟩
theorem only_set (s : List Nat) (d : Nat) (r : AV) : ∀ (l : List AV) (j : Nat), s.elem (j + d) = false → (s.elem (j + d) = false) → only s j (l.set d r) = only s j l := by
 induction d with
 | zero =>
  intro l j h _
  cases l with
  | nil => rfl
  | cons a l =>
   simp only [List.set_cons_zero, only]
   rw [Nat.add_zero] at h
   rw [h]; rfl
 | succ d ih =>
  intro l j h _
  cases l with
  | nil => rfl
  | cons a l =>
   simp only [List.set_cons_succ, only]
   have h' : s.elem (j + 1 + d) = false := by rw [show j + 1 + d = j + (d + 1) by omega]; exact h
   rw [ih l (j + 1) h' h']
theorem onl_set {s : List Nat} {d : Nat} {r : AV} {env : List AV} (h : s.elem d = false) : onl s (env.set d r) = onl s env := only_set s d r env 0 (by rwa [Nat.zero_add]) (by rwa [Nat.zero_add])

structure Pd where
 i : Nat
 s : List Nat
 V : KV

def dstOf (ops : Array Oper) (i : Nat) : Option Nat := (ops[i]?).bind (·.dst)
def slotv (env : List AV) : Option Nat → AV | some d => env.getD d .any | none => .any

/-- What a quiet operation yields, or that it is not wanted. -/
def QS (P : Program) (gm : Nat → Option Nat) (ops : Array Oper) (env : List AV) (A : List AObj) (o : Oper) (r : AV) : Prop :=
 (wantA ops env o = some true ∧ isDefer o.op = false ∧ OpOk P gm env A o r A) ∨ (wantA ops env o = some false ∧ r = .v undef)

def Jq (P : Program) (gm : Nat → Option Nat) (ops : Array Oper) (env : List AV) (p : Pd) : Prop :=
 ∃ o r, ops[p.i]? = some o ∧ (∀ d, o.dst = some d → env[d]? = some r) ∧ ∀ A, View p.V A → QS P gm ops (onl p.s env) A o r

/-- One that sets a variable is never due: it is carried out in its turn. -/
def asgAt (ops : Array Oper) (j : Nat) : Bool := match ops[j]? with
 | some o => match o.op with
  | .assign _ => true
  | _ => false
 | none => false
def rawOk (ops : Array Oper) (i : Nat) (s : List Nat) : Bool := (List.range ops.size).all fun j => match dstOf ops j with
 | some d => !(s.elem d) || (edgesOf .any ops i).elem j || asgAt ops j
 | none => true
def rawP (ops : Array Oper) (i : Nat) (s : List Nat) : Bool := rawOk ops i s && !asgAt ops i
theorem rawP_ok {ops : Array Oper} {i : Nat} {s : List Nat} (h : rawP ops i s = true) : rawOk ops i s = true := by
 unfold rawP at h; simp only [Bool.and_eq_true] at h; exact h.1
theorem rawP_asg {ops : Array Oper} {i : Nat} {s : List Nat} (h : rawP ops i s = true) : asgAt ops i = false := by
 unfold rawP at h; simp only [Bool.and_eq_true, Bool.not_eq_true'] at h; exact h.2

def Hid (ops : Array Oper) (pend : List Pd) (σ : List Nat) (j : Nat) : Prop := ∃ p ∈ pend, p.i ∈ σ ∧ dstOf ops p.i = some j
def RelHid (φ : Nat → Loc3) (n : Nat) (hid : Nat → Prop) (env : List AV) (ts : Array Value) : Prop := env.length = ts.size ∧ ∀ j a y, env[j]? = some a → ts[j]? = some y → ¬ hid j → RelV φ n a y

def TD (Y : KX P gm T) (ds : List Nat) (ops : Array Oper) (k : List Item) (pend : List Pd) (L : List Nat) (env : List AV) (K : KV) : Prop :=
 (∀ p ∈ pend, Jq P gm ops env p) → (∀ p ∈ pend, rawP ops p.i p.s = true) → (∀ p ∈ pend, ∀ x ∈ p.V, x ∈ K) → ∀ A, Kn Y K A → ∀ σ : List Nat, σ.Nodup → Resp ops σ → (∀ j ∈ σ, j < ops.size) → (∀ j ∈ L, j ∈ σ) → (∀ j ∈ σ, j ∈ L ∨ ∃ p ∈ pend, p.i = j) →
  ∀ (φ : Nat → Loc3) (H : Hp) (ts : Array Value), Agr Y.X.φ0 φ Y.X.n0 → Y.X.n0 ≤ A.length → RelG gm φ A.length → (∀ d ∈ ds, d < A.length) → RelH φ A Y.X.F H → RelHid φ A.length (Hid ops pend σ) env ts → T (G (fr Y.X.kd Y.X.f Y.X.ro ts (dsC φ ds) (.inRegion ops σ :: k)) Y.X.cs) H

theorem raw_rel {φ : Nat → Loc3} {n : Nat} {pend : List Pd} {σ : List Nat} {c : Nat} {s : List Nat} {ts : Array Value} (hsz : ∀ j ∈ c :: σ, j < ops.size) (hresp : Resp ops (c :: σ)) (hraw : rawOk ops c s = true) (hraws : ∀ p ∈ pend, rawP ops p.i p.s = true) (h : RelHid φ n (Hid ops pend (c :: σ)) env ts) : RelL φ n (onl s env) ts := by
 refine ⟨by rw [onl, only_len]; exact h.1, fun j a y ha hy => ?_⟩
 rcases only_get s env 0 j a ha with rfl | ⟨h1, h2⟩
 ·exact .any _
 ·refine h.2 j a y h2 hy fun ⟨p, hp, hpm, hd⟩ => ?_
  rw [Nat.zero_add] at h1
  have := List.all_eq_true.1 hraw p.i (List.mem_range.2 (hsz _ hpm))
  rw [hd] at this
  simp only [h1, Bool.not_true, Bool.false_or, rawP_asg (hraws p hp), Bool.or_false] at this
  exact hresp.1 p.i (by simpa using this) hpm

/-- One that was due is carried out. -/
theorem td_fire {pend : List Pd} {A : List AObj} {c : Nat} {σ : List Nat} {p : Pd} (hp : p ∈ pend) (hc : p.i = c) (hj : Jq P gm ops env p) (hraws : ∀ p ∈ pend, rawP ops p.i p.s = true) (hv : ∀ x ∈ p.V, x ∈ K) (hA : Kn Y K A) (hnd : (c :: σ).Nodup) (hsz : ∀ j ∈ c :: σ, j < ops.size) (hresp : Resp ops (c :: σ))
  {φ : Nat → Loc3} {H : Hp} {ts : Array Value} (h1 : Agr Y.X.φ0 φ Y.X.n0) (h2 : Y.X.n0 ≤ A.length) (h3 : RelG gm φ A.length) (h4 : ∀ d ∈ ds, d < A.length) (h5 : RelH φ A Y.X.F H) (h6 : RelHid φ A.length (Hid ops pend (c :: σ)) env ts)
  (hq : ∀ (φ : Nat → Loc3) (H : Hp) (ts : Array Value), Agr Y.X.φ0 φ Y.X.n0 → RelG gm φ A.length → RelH φ A Y.X.F H → RelHid φ A.length (Hid ops pend σ) env ts → T (G (fr Y.X.kd Y.X.f Y.X.ro ts (dsC φ ds) (.inRegion ops σ :: k)) Y.X.cs) H) :
  T (G (fr Y.X.kd Y.X.f Y.X.ro ts (dsC φ ds) (.inRegion ops (c :: σ) :: k)) Y.X.cs) H := by
 obtain ⟨o, r, ho, hd, hqs⟩ := hj
 rw [hc] at ho
 have hrel := raw_rel hsz hresp (hc ▸ rawP_ok (hraws p hp)) hraws h6
 have hput : ∀ (φ' : Nat → Loc3) (v : Value), Agr φ φ' A.length → RelV φ' A.length r v → RelHid φ' A.length (Hid ops pend σ) env (putT ts o.dst v) := fun φ' v hA' hr => by
  refine ⟨?_, fun j a y ha hy hnh => ?_⟩
  ·rw [h6.1]; cases o.dst <;> simp [putT, Act.put]
  ·cases hdst : o.dst with
   | none =>
    rw [hdst] at hy
    refine (h6.2 j a y ha hy fun ⟨q, hq1, hq2, hq3⟩ => ?_).mono hA' (Nat.le_refl _)
    rcases List.mem_cons.1 hq2 with e | hq2
    ·rw [e] at hq3; simp [dstOf, ho, hdst] at hq3
    ·exact hnh ⟨q, hq1, hq2, hq3⟩
   | some d =>
    rw [hdst] at hy
    by_cases hjd : d = j
    ·subst hjd
     have := hd d hdst
     rw [this] at ha
     cases ha
     have hlt : d < ts.size := by rw [← h6.1]; exact (List.getElem?_eq_some_iff.1 this).1
     simp only [putT, Act.put] at hy
     rw [Array.getElem?_setIfInBounds_self_of_lt hlt] at hy
     cases hy
     exact hr
    ·simp only [putT, Act.put] at hy
     rw [Array.getElem?_setIfInBounds_ne hjd] at hy
     refine (h6.2 j a y ha hy fun ⟨q, hq1, hq2, hq3⟩ => ?_).mono hA' (Nat.le_refl _)
     rcases List.mem_cons.1 hq2 with e | hq2
     ·rw [e] at hq3; simp [dstOf, ho, hdst] at hq3; exact hjd hq3
     ·exact hnh ⟨q, hq1, hq2, hq3⟩
 rcases hqs A (hA.view.sub hv) with ⟨hw, hdf, hok⟩ | ⟨hw, hr⟩
 ·refine ex_op (X := Y.X) hdf hok ops c σ k (dsC φ ds) φ H ts ho (wantA_ok hrel hw) h3 h5 hrel fun r1 A1 φ' H' v ⟨e1, e2⟩ hA' hlen hH' hr => ?_
  subst e1 e2
  have hds : dsC φ' ds = dsC φ ds := by
   unfold dsC
   exact List.map_congr_left fun d hd' => by rw [hA' d (h4 d hd')]
  rw [← hds]
  exact hq φ' H' _ (h1.trans hA' h2) (h3.mono hA' (Nat.le_refl _)) hH' (hput φ' v hA' hr)
 ·refine Y.X.hT.ctlF rfl (fun _ => sf_unwanted ho (wantA_ok hrel hw)) rfl ?_
  exact hq φ H _ h1 h3 h5 (hput φ undef (Agr.refl _ _) (hr ▸ .v _))

/-- A region is drawn. -/
theorem TK.draw {id : Nat} (L ρg : List Nat) (hd : drawnOk ops (List.range ops.size) ρg = true) (hL : (List.range ops.size).all (fun i => L.elem i) && L.all (fun i => decide (i < ops.size)) = true) (h : TD Y ds ops k [] L env K) : TK Y ds (.code (.region id ops true) :: k) env K := fun A hA => by
 refine TA.draw fun t => ?_
 intro φ H ts h1 h2 h3 h4 h5 h6
 obtain ⟨s1, s2, s3⟩ := sched_ok hd (P.follows .mixedOrders) t
 simp only [Bool.and_eq_true, List.all_eq_true, List.mem_range, decide_eq_true_eq] at hL
 exact h (by simp) (by simp) (by simp) A hA _ s1 s2 (fun j hj => (s3 j).1 hj) (fun j hj => (s3 j).2 (hL.2 j hj)) (fun j hj => .inl (by simpa using hL.1 j ((s3 j).1 hj))) φ H ts h1 h2 h3 h4 h5 ⟨h6.1, fun j a y ha hy _ => h6.2 j a y ha hy⟩

theorem TD.fin {pend : List Pd} (h : TK Y ds k env K) : TD Y ds ops k pend [] env K := fun hj hraw hV A hA σ => by
 induction σ with
 | nil =>
  intro _ _ _ _ _ φ H ts h1 h2 h3 h4 h5 h6
  exact TA.regionEnd (h A hA) φ H ts h1 h2 h3 h4 h5 ⟨h6.1, fun j a y ha hy => h6.2 j a y ha hy fun ⟨p, _, hm, _⟩ => by cases hm⟩
 | cons c σ ih =>
  intro hnd hresp hsz hL hcov φ H ts h1 h2 h3 h4 h5 h6
  obtain ⟨p, hp, hc⟩ := (hcov c (by simp)).resolve_left (by simp)
  exact td_fire hp hc (hj p hp) hraw (hV p hp) hA hnd hsz hresp h1 h2 h3 h4 h5 h6 fun φ H ts h1 h3 h5 h6 =>
   ih (List.nodup_cons.1 hnd).2 hresp.2 (fun j hj => hsz j (by simp [hj])) (by simp) (fun j hj => hcov j (by simp [hj])) φ H ts h1 h2 h3 h4 h5 h6

/-- Whether a quiet one may be taken as done. -/
def chkQ (ops : Array Oper) (pend : List Pd) (s : List Nat) (i n : Nat) (d : Option Nat) : Bool := rawP ops i s && match d with
 | some d => !(s.elem d) && decide (d < n) && pend.all fun p => !(p.s.elem d) && dstOf ops p.i != some d
 | none => true

theorem jq_set {pend : List Pd} {d : Nat} {r : AV} (hc : pend.all (fun p => !(p.s.elem d) && dstOf ops p.i != some d) = true) (h : ∀ p ∈ pend, Jq P gm ops env p) : ∀ p ∈ pend, Jq P gm ops (env.set d r) p := fun p hp => by
 obtain ⟨o, r', ho, hd, hq⟩ := h p hp
 have := List.all_eq_true.1 hc p hp
 simp only [Bool.and_eq_true, Bool.not_eq_true', bne_iff_ne, ne_eq] at this
 refine ⟨o, r', ho, fun d' hd' => ?_, fun A hA => ?_⟩
 ·rw [List.getElem?_set_ne (fun e => this.2 (by simp [dstOf, ho, hd', e]))]
  exact hd d' hd'
 ·rw [onl_set this.1]; exact hq A hA

/-- A quiet one is taken as done. -/
theorem TD.qs {pend : List Pd} {L' : List Nat} (s : List Nat) (V : KV) (ho : ops[i]? = some o) (hc : chkQ ops pend s i env.length o.dst = true) (hV : ∀ x ∈ V, x ∈ K) (hq : ∀ A, View V A → QS P gm ops (onl s env) A o r) (he : putA env o.dst r = env') (h : TD Y ds ops k (⟨i, s, V⟩ :: pend) L' env' K) : TD Y ds ops k pend (i :: L') env K := by
 subst he
 intro hj hraw hVp A hA σ hnd hresp hsz hL hcov φ H ts h1 h2 h3 h4 h5 h6
 simp only [chkQ, Bool.and_eq_true] at hc
 have hjn : ∀ p ∈ (⟨i, s, V⟩ :: pend : List Pd), Jq P gm ops (putA env o.dst r) p := by
  intro p hp
  cases hdst : o.dst with
  | none =>
   rcases List.mem_cons.1 hp with rfl | hp
   ·exact ⟨o, r, ho, (fun d hd => by rw [hdst] at hd; cases hd), fun A hA => hq A hA⟩
   ·exact hj p hp
  | some d =>
   have h7 := hc.2
   rw [hdst] at h7
   simp only [Bool.and_eq_true, Bool.not_eq_true', decide_eq_true_eq] at h7
   rcases List.mem_cons.1 hp with rfl | hp
   ·refine ⟨o, r, ho, fun d' hd' => ?_, fun A hA => ?_⟩
    ·rw [hdst] at hd'; cases hd'
     exact List.getElem?_set_self h7.1.2
    ·show QS P gm ops (onl s (env.set d r)) A o r
     rw [onl_set h7.1.1]; exact hq A hA
   ·exact jq_set h7.2 hj p hp
 refine h hjn (fun p hp => ?_) (fun p hp => ?_) A hA σ hnd hresp hsz (fun j hj => hL j (by simp [hj])) (fun j hj => ?_) φ H ts h1 h2 h3 h4 h5 ⟨?_, fun j a y ha hy hnh => ?_⟩
 ·rcases List.mem_cons.1 hp with rfl | hp
  ·exact hc.1
  ·exact hraw p hp
 ·rcases List.mem_cons.1 hp with rfl | hp
  ·exact hV
  ·exact hVp p hp
 ·rcases hcov j hj with h7 | ⟨p, hp, e⟩
  ·rcases List.mem_cons.1 h7 with rfl | h7
   ·exact .inr ⟨_, List.mem_cons_self, rfl⟩
   ·exact .inl h7
  ·exact .inr ⟨p, by simp [hp], e⟩
 ·rw [← h6.1]; cases o.dst <;> simp [putA]
 ·have hne : o.dst ≠ some j := fun e => hnh ⟨⟨i, s, V⟩, by simp, hL i (by simp), by simp [dstOf, ho, e]⟩
  refine h6.2 j a y ?_ hy fun ⟨p, hp, h8, h9⟩ => hnh ⟨p, by simp [hp], h8, h9⟩
  cases hdst : o.dst with
  | none => rw [hdst] at ha; exact ha
  | some d =>
   rw [hdst] at ha
   simp only [putA] at ha
   rwa [List.getElem?_set_ne (fun e => hne (by rw [hdst, e]))] at ha

theorem TD.q {pend : List Pd} {L' : List Nat} (s : List Nat) (V : KV) (ho : ops[i]? = some o) (hd : isDefer o.op = false) (hw : wantA ops (onl s env) o = some true) (hc : chkQ ops pend s i env.length o.dst = true) (hV : ∀ x ∈ V, x ∈ K) (hq : ∀ A, View V A → OpOk P gm (onl s env) A o r A) (he : putA env o.dst r = env') (h : TD Y ds ops k (⟨i, s, V⟩ :: pend) L' env' K) : TD Y ds ops k pend (i :: L') env K :=
 TD.qs s V ho hc hV (fun A hA => .inl ⟨hw, hd, hq A hA⟩) he h
theorem TD.unwanted {pend : List Pd} {L' : List Nat} (s : List Nat) (ho : ops[i]? = some o) (hw : wantA ops (onl s env) o = some false) (hc : chkQ ops pend s i env.length o.dst = true) (he : putA env o.dst (.v undef) = env') (h : TD Y ds ops k (⟨i, s, []⟩ :: pend) L' env' K) : TD Y ds ops k pend (i :: L') env K :=
 TD.qs s [] ho hc (by simp) (fun _ _ => .inr ⟨hw, rfl⟩) he h

/-- Whether one is to be carried out next, but for those that are due. -/
def chkC (ops : Array Oper) (pend' : List Pd) (L' s : List Nat) (i : Nat) (d : Option Nat) : Bool := rawOk ops i s && L'.all (fun j => (edgesOf .any ops j).any fun e => e == i || L'.elem e) && match d with
 | some d => pend'.all fun p => !(p.s.elem d) && dstOf ops p.i != some d
 | none => true
def pendOf (ops : Array Oper) (i : Nat) (pend : List Pd) : List Pd := pend.filter fun p => !((edgesOf .any ops i).elem p.i)

/-- One of those that are ordered. -/
theorem TD.c {pend pend' : List Pd} {L' : List Nat} (s : List Nat) (ho : ops[i]? = some o) (hw : wantA ops (onl s env) o = some true) (hp' : pendOf ops i pend = pend') (hc : chkC ops pend' L' s i o.dst = true)
  (h : ExK Y (onl s env) K o fun r K' => (∀ p ∈ pend', ∀ x ∈ p.V, x ∈ K') ∧ TD Y ds ops k pend' L' (putA env o.dst r) K') : TD Y ds ops k pend (i :: L') env K := fun hj hraw hV A hA σ => by
 subst hp'
 simp only [chkC, Bool.and_eq_true] at hc
 induction σ with
 | nil =>
  intro _ _ _ hL
  exact absurd (hL i (by simp)) (by simp)
 | cons c σ ih =>
  intro hnd hresp hsz hL hcov φ H ts h1 h2 h3 h4 h5 h6
  by_cases hci : c = i
  ·subst hci
   have hrel := raw_rel hsz hresp hc.1.1 hraw h6
   refine h A hA ops c σ k (dsC φ ds) φ H ts ho (wantA_ok hrel hw) h3 h5 hrel fun r A' φ' H' v ⟨K', hk, hV', hq⟩ hA' hlen hH' hr => ?_
   have hds : dsC φ' ds = dsC φ ds := by
    unfold dsC
    exact List.map_congr_left fun d hd' => by rw [hA' d (h4 d hd')]
   rw [← hds]
   have hnd' := List.nodup_cons.1 hnd
   have hkeep : ∀ p ∈ pend, p.i ∈ σ → p ∈ pendOf ops c pend := fun p hp hm => by
    refine List.mem_filter.2 ⟨hp, ?_⟩
    simp only [Bool.not_eq_true']
    cases e : (edgesOf .any ops c).elem p.i with
    | false => rfl
    | true => exact absurd (List.mem_cons_of_mem _ hm) (hresp.1 p.i (by simpa using e))
   refine hq (fun p hp => ?_) (fun p hp => hraw p (List.mem_filter.1 hp).1) hV' A' (hA.step hk) σ hnd'.2 hresp.2 (fun j hj => hsz j (by simp [hj])) (fun j hj => ?_) (fun j hj => ?_) φ' H' _ (h1.trans hA' h2) (by omega) (h3.mono hA' hlen) (fun d hd' => Nat.lt_of_lt_of_le (h4 d hd') hlen) hH' ⟨?_, fun j a y ha hy hnh => ?_⟩
   ·have hj' : ∀ p ∈ pendOf ops c pend, Jq P gm ops env p := fun p hp => hj p (List.mem_filter.1 hp).1
    cases hdst : o.dst with
    | none => exact hj' p hp
    | some d =>
     have h7 := hc.2
     rw [hdst] at h7
     exact jq_set h7 hj' p hp
   ·have hb := List.all_eq_true.1 hc.1.2 j hj
    have hjm := hL j (by simp [hj])
    rcases List.mem_cons.1 hjm with e | hjm
    ·exfalso
     subst e
     rw [List.any_eq_true] at hb
     obtain ⟨e, he1, he2⟩ := hb
     refine hresp.1 e he1 ?_
     simp only [Bool.or_eq_true, beq_iff_eq] at he2
     rcases he2 with rfl | he2
     ·simp
     ·exact hL e (by simp at he2; simp [he2])
    ·exact hjm
   ·rcases hcov j (by simp [hj]) with h7 | ⟨p, hp, e⟩
    ·rcases List.mem_cons.1 h7 with rfl | h7
     ·exact absurd hj hnd'.1
     ·exact .inl h7
    ·exact .inr ⟨p, hkeep p hp (e ▸ hj), e⟩
   ·have : (putT ts o.dst v).size = ts.size := by cases o.dst <;> simp [putT, Act.put]
    rw [this, ← h6.1]; cases o.dst <;> simp [putA]
   ·have hback : o.dst ≠ some j → ts[j]? = some y → env[j]? = some a → RelV φ' A'.length a y := fun hne hy' ha' => by
     refine (h6.2 j a y ha' hy' fun ⟨p, hp, h8, h9⟩ => ?_).mono hA' hlen
     rcases List.mem_cons.1 h8 with e | h8
     ·rw [e] at h9; simp [dstOf, ho] at h9; exact hne h9
     ·exact hnh ⟨p, hkeep p hp h8, h8, h9⟩
    cases hdst : o.dst with
    | none => rw [hdst] at ha hy; exact hback (by rw [hdst]; simp) hy ha
    | some d =>
     rw [hdst] at ha hy
     simp only [putA, putT, Act.put] at ha hy
     by_cases e : d = j
     ·subst e
      have hlt : d < env.length := by have := (List.getElem?_eq_some_iff.1 ha).1; simpa using this
      rw [List.getElem?_set_self hlt] at ha
      rw [Array.getElem?_setIfInBounds_self_of_lt (by rw [← h6.1]; exact hlt)] at hy
      cases ha; cases hy
      exact hr
     ·rw [List.getElem?_set_ne e] at ha
      rw [Array.getElem?_setIfInBounds_ne e] at hy
      exact hback (by rw [hdst]; simpa using e) hy ha
  ·have hnd' := List.nodup_cons.1 hnd
   rcases hcov c (by simp) with h7 | ⟨p, hp, e⟩
   ·exfalso
    rcases List.mem_cons.1 h7 with h7 | h7
    ·exact hci h7
    ·have hb := List.all_eq_true.1 hc.1.2 c h7
     rw [List.any_eq_true] at hb
     obtain ⟨e, he1, he2⟩ := hb
     refine hresp.1 e he1 ?_
     simp only [Bool.or_eq_true, beq_iff_eq] at he2
     rcases he2 with rfl | he2
     ·exact hL e (by simp)
     ·exact hL e (by simp at he2; simp [he2])
   ·by_cases hcL : c ∈ i :: L'
    ·exfalso
     rcases List.mem_cons.1 hcL with h7 | h7
     ·exact hci h7
     ·have hb := List.all_eq_true.1 hc.1.2 c h7
      rw [List.any_eq_true] at hb
      obtain ⟨e, he1, he2⟩ := hb
      refine hresp.1 e he1 ?_
      simp only [Bool.or_eq_true, beq_iff_eq] at he2
      rcases he2 with rfl | he2
      ·exact hL e (by simp)
      ·exact hL e (by simp at he2; simp [he2])
    ·refine td_fire hp e (hj p hp) hraw (hV p hp) hA hnd hsz hresp h1 h2 h3 h4 h5 h6 fun φ H ts h1 h3 h5 h6 =>
      ih hnd'.2 hresp.2 (fun j hj => hsz j (by simp [hj])) (fun j hj => ?_) (fun j hj => hcov j (by simp [hj])) φ H ts h1 h2 h3 h4 h5 h6
     rcases List.mem_cons.1 (hL j hj) with h8 | h8
     ·exact absurd (h8 ▸ hj) hcL
     ·exact h8

/-- A truth value is one or the other. -/
theorem TD.split {pend : List Pd} {L : List Nat} (d : Nat) {t : Bool} (hd : env[d]? = some (.v (.bool t))) (h1 : t = true → TD Y ds ops k pend L (env.set d (.v (.bool true))) K) (h0 : t = false → TD Y ds ops k pend L (env.set d (.v (.bool false))) K) : TD Y ds ops k pend L env K := by
 have e : env.set d (.v (.bool t)) = env := by
  obtain ⟨hlt, he⟩ := List.getElem?_eq_some_iff.1 hd
  rw [← he]; exact List.set_getElem_self hlt
 cases t with
 | true => rw [← e]; exact h1 rfl
 | false => rw [← e]; exact h0 rfl
theorem TK.split (d : Nat) {t : Bool} (hd : env[d]? = some (.v (.bool t))) (h1 : t = true → TK Y ds k (env.set d (.v (.bool true))) K) (h0 : t = false → TK Y ds k (env.set d (.v (.bool false))) K) : TK Y ds k env K := by
 have e : env.set d (.v (.bool t)) = env := by
  obtain ⟨hlt, he⟩ := List.getElem?_eq_some_iff.1 hd
  rw [← he]; exact List.set_getElem_self hlt
 cases t with
 | true => rw [← e]; exact h1 rfl
 | false => rw [← e]; exact h0 rfl
end
end Go.Vel
end
