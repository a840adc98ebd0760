/- Texts for the statements of chapter 9: what all of them need, part 5. It holds of every program, tape and world that the statements name, as each theorem says. -/
import Derived.Conc.LeavingOf
import Derived.Conc.Own4
import Derived.Test.YtpdioiojfgknbaaDoorW2
import Derived.Test.YtpdioiojfgknbaaDoorW3
section
set_option linter.all false
set_option maxRecDepth 20000
set_option maxHeartbeats 60000000
namespace Go.Vel
open Go Go.Conc

/-! ### operations, where some objects are known -/
section
variable {P : Program} {gm : Nat → Option Nat} {V : KV} {env : List AV} {o : Oper} {r : AV}

abbrev Qk (P : Program) (gm : Nat → Option Nat) (env : List AV) (V : KV) (o : Oper) (r : AV) : Prop := ∀ A, View V A → OpOk P gm env A o r A
abbrev Nk (P : Program) (gm : Nat → Option Nat) (env : List AV) (V : KV) (o : Oper) (f : Nat → AV) (ob : AObj) : Prop := ∀ A, View V A → OpOk P gm env A o (f A.length) (A ++ [ob])

def opndO (gm : Nat → Option Nat) (env : List AV) : Operand → Option AV
 | .tmp t => env[t]?
 | .const v => some (.v v)
 | .global g => some (match gm g with | some i => .ptr i 0 | none => .v (.pointer (some ⟨g, 0, none⟩)))
 | .func f => some (.fn f [] [])
theorem opndO_eq {x : Operand} (h : opndO gm env x = some r) : opnd gm env x = r := by
 cases x with
 | tmp t => simp only [opndO] at h; simp only [opnd, List.getD_eq_getElem?_getD, h, Option.getD_some]
 | const v => cases h; rfl
 | global g => cases h; rfl
 | func f => cases h; rfl

theorem q_move {x : Operand} (ho : o.op = .move x) (hx : opndO gm env x = some r) : Qk P gm env V o r := fun _ _ => opndO_eq hx ▸ ok_move ho
theorem q_assign {x : Operand} (ho : o.op = .assign x) (hx : opndO gm env x = some r) : Qk P gm env V o r := fun _ _ => opndO_eq hx ▸ ok_assign ho
theorem q_pickT {c x y : Operand} (ho : o.op = .pick c x y) (hc : opndO gm env c = some (.v (.bool true))) (hx : opndO gm env x = some r) : Qk P gm env V o r := fun A _ φ F H a hg hH hE => by
 unfold execOp; rw [ho]
 have h1 := opnd_rel hg hE c
 rw [opndO_eq hc] at h1
 simp only [inv_v h1]
 exact OpPost.quiet hH (opndO_eq hx ▸ opnd_rel hg hE x)
theorem q_pickF {c x y : Operand} (ho : o.op = .pick c x y) (hc : opndO gm env c = some (.v (.bool false))) (hy : opndO gm env y = some r) : Qk P gm env V o r := fun A _ φ F H a hg hH hE => by
 unfold execOp; rw [ho]
 have h1 := opnd_rel hg hE c
 rw [opndO_eq hc] at h1
 simp only [inv_v h1]
 exact OpPost.quiet hH (opndO_eq hy ▸ opnd_rel hg hE y)
theorem q_pick {c x y : Operand} {t a b : Bool} (ho : o.op = .pick c x y) (hc : opndO gm env c = some (.v (.bool t))) (hx : opndO gm env x = some (.v (.bool a))) (hy : opndO gm env y = some (.v (.bool b))) : Qk P gm env V o (.v (.bool (bif t then a else b))) := fun A _ => by
 have := ok_pick (P := P) (A := A) ho (opndO_eq hc)
 rw [opndO_eq hx, opndO_eq hy] at this
 exact this

/-! #### numbers -/
theorem eqg_int (op : BinOp) (t : TypeId) (x y : Operand) (k k' : IntKind) (a b : Int) : eqGuard op t x y (.int k a) (.int k' b) = pure () := by unfold eqGuard; cases op <;> rfl
theorem eqg_str (op : BinOp) (t : TypeId) (x y : Operand) (a b : ByteArray) : eqGuard op t x y (.string a) (.string b) = pure () := by unfold eqGuard; cases op <;> rfl
theorem eqg_bool (op : BinOp) (t : TypeId) (x y : Operand) (a b : Bool) : eqGuard op t x y (.bool a) (.bool b) = pure () := by unfold eqGuard; cases op <;> rfl
theorem pureS_bind {α β : Type} {P : Program} : ∀ {s : Sem α} {f : α → Sem β} {a : α} {b : β}, pureS P s = some a → pureS P (f a) = some b → pureS P (s >>= f) = some b := by
 intro s
 induction s with
 | pure c => intro f a b h k; cases h; exact k
 | program k' ih => intro f a b h k; exact ih P h k
 | _ => intro f a b h; cases h

theorem pureS_underlying {P : Program} {t : TypeId} {d : TypeDesc} (h : P.underlying t = some d) : pureS P (underlying t) = some d := by
 show pureS P (match P.underlying t with | some d => pure d | none => stuck "no such type") = _
 rw [h]; rfl

theorem ok_int {op : BinOp} {t yt : TypeId} {x y : Operand} {k : IntKind} {a b : Int} {z : Value} (ho : o.op = .binOp op t x y yt) (hx : opndO gm env x = some (.v (.int k a))) (hy : opndO gm env y = some (.v (.int k b))) (h : pureS P (binOp op t (.int k a) (.int k b)) = some z) : Qk P gm env V o (.v z) := fun A _ =>
 ok_bin ho (by rw [opndO_eq hx]; rfl) (by rw [opndO_eq hy]; rfl) (by rw [eqg_int]; exact h)

theorem wrap_i64 {n : Int} (h : -9223372036854775808 ≤ n ∧ n < 9223372036854775808) : IntKind.i64.wrap n = n := by
 unfold IntKind.wrap
 simp only [show IntKind.i64.bits = 64 from rfl, show IntKind.i64.signed = true from rfl, Bool.true_and]
 split <;> rename_i h1 <;> simp only [decide_eq_true_eq] at h1 <;> omega
theorem q_add {t yt : TypeId} {x y : Operand} {a b : Int} (ho : o.op = .binOp .add t x y yt) (hx : opndO gm env x = some (.v (.int .i64 a))) (hy : opndO gm env y = some (.v (.int .i64 b))) (h : -9223372036854775808 ≤ a + b ∧ a + b < 9223372036854775808) : Qk P gm env V o (.v (.int .i64 (a + b))) := by
 refine ok_int ho hx hy ?_
 show some (Value.int .i64 (IntKind.i64.wrap (a + b))) = _
 rw [wrap_i64 h]
theorem q_sub {t yt : TypeId} {x y : Operand} {a b : Int} (ho : o.op = .binOp .sub t x y yt) (hx : opndO gm env x = some (.v (.int .i64 a))) (hy : opndO gm env y = some (.v (.int .i64 b))) (h : -9223372036854775808 ≤ a - b ∧ a - b < 9223372036854775808) : Qk P gm env V o (.v (.int .i64 (a - b))) := by
 refine ok_int ho hx hy ?_
 show some (Value.int .i64 (IntKind.i64.wrap (a - b))) = _
 rw [wrap_i64 h]
theorem q_mul {t yt : TypeId} {x y : Operand} {a b : Int} (ho : o.op = .binOp .mul t x y yt) (hx : opndO gm env x = some (.v (.int .i64 a))) (hy : opndO gm env y = some (.v (.int .i64 b))) (h : -9223372036854775808 ≤ a * b ∧ a * b < 9223372036854775808) : Qk P gm env V o (.v (.int .i64 (a * b))) := by
 refine ok_int ho hx hy ?_
 show some (Value.int .i64 (IntKind.i64.wrap (a * b))) = _
 rw [wrap_i64 h]
theorem q_rem {t yt : TypeId} {x y : Operand} {k : IntKind} {a b : Int} (ho : o.op = .binOp .rem t x y yt) (hx : opndO gm env x = some (.v (.int k a))) (hy : opndO gm env y = some (.v (.int k b))) (h0 : 0 ≤ a) (h1 : 0 < b) : Qk P gm env V o (.v (.int k (a % b))) := by
 refine ok_int ho hx hy ?_
 show pureS P (if k ≠ k then _ else _) = _
 rw [if_neg (by simp)]
 show pureS P (if b = 0 then _ else _) = _
 rw [if_neg (by omega)]
 show some (Value.int k (a.tmod b)) = _
 rw [Int.tmod_eq_emod_of_nonneg h0]
theorem q_quo {t yt : TypeId} {x y : Operand} {a b : Int} (ho : o.op = .binOp .quo t x y yt) (hx : opndO gm env x = some (.v (.int .i64 a))) (hy : opndO gm env y = some (.v (.int .i64 b))) (h0 : 0 ≤ a) (h1 : 0 < b) (h2 : a < 9223372036854775808) : Qk P gm env V o (.v (.int .i64 (a / b))) := by
 refine ok_int ho hx hy ?_
 show pureS P (if b = 0 then _ else _) = _
 rw [if_neg (by omega)]
 show some (Value.int .i64 (IntKind.i64.wrap (a.tdiv b))) = _
 rw [Int.tdiv_eq_ediv_of_nonneg h0, wrap_i64 ⟨Int.le_trans (by omega) (Int.ediv_nonneg h0 (by omega)), Int.lt_of_le_of_lt (Int.ediv_le_self b h0) h2⟩]

def cmpI : BinOp → Int → Int → Option Bool
 | .eql, a, b => some (a == b)
 | .neq, a, b => some (a != b)
 | .lss, a, b => some (decide (a < b))
 | .leq, a, b => some (decide (a ≤ b))
 | .gtr, a, b => some (decide (a > b))
 | .geq, a, b => some (decide (a ≥ b))
 | _, _, _ => none
theorem q_cmp {op : BinOp} {t yt : TypeId} {x y : Operand} {k : IntKind} {a b : Int} {z : Bool} (ho : o.op = .binOp op t x y yt) (hx : opndO gm env x = some (.v (.int k a))) (hy : opndO gm env y = some (.v (.int k b))) (h : cmpI op a b = some z) : Qk P gm env V o (.v (.bool z)) := by
 refine ok_int ho hx hy ?_
 cases op <;> first | (cases h; done) | skip
 all_goals
  cases h
  show pureS P (if k ≠ k then _ else _) = _
  rw [if_neg (by simp)]
  rfl

def cmpS : BinOp → ByteArray → ByteArray → Option Bool
 | .eql, a, b => some (a.toList == b.toList)
 | .neq, a, b => some (!(a.toList == b.toList))
 | _, _, _ => none
theorem q_cmpS {op : BinOp} {t yt : TypeId} {x y : Operand} {a b : ByteArray} {z : Bool} (ho : o.op = .binOp op t x y yt) (hx : opndO gm env x = some (.v (.string a))) (hy : opndO gm env y = some (.v (.string b))) (h : cmpS op a b = some z) : Qk P gm env V o (.v (.bool z)) := fun A _ => by
 refine ok_bin ho (by rw [opndO_eq hx]; rfl) (by rw [opndO_eq hy]; rfl) ?_
 rw [eqg_str]
 cases op <;> first | (cases h; done) | (cases h; rfl)

def cmpB : BinOp → Bool → Bool → Option Bool
 | .eql, a, b => some (a == b)
 | .neq, a, b => some (!(a == b))
 | _, _, _ => none
theorem q_cmpB {op : BinOp} {t yt : TypeId} {x y : Operand} {a b z : Bool} (ho : o.op = .binOp op t x y yt) (hx : opndO gm env x = some (.v (.bool a))) (hy : opndO gm env y = some (.v (.bool b))) (ht : P.underlying t = some .bool) (h : cmpB op a b = some z) : Qk P gm env V o (.v (.bool z)) := fun A _ => by
 refine ok_bin ho (by rw [opndO_eq hx]; rfl) (by rw [opndO_eq hy]; rfl) ?_
 rw [eqg_bool]
 have he : pureS P (Op.equal t (.bool a) (.bool b)) = some (a == b) := by
  show pureS P (Op.equalIn (9999 + 1) t (.bool a) (.bool b)) = _
  unfold Op.equalIn
  exact pureS_bind (pureS_underlying ht) rfl
 cases op <;> first | (cases h; done) | skip
 ·cases h
  exact pureS_bind (f := fun z => (pure (Value.bool z) : Sem Value)) he rfl
 ·cases h
  exact pureS_bind (f := fun z => (pure (Value.bool !z) : Sem Value)) he rfl

theorem q_not {t : TypeId} {x : Operand} {a : Bool} (ho : o.op = .unOp .not t x) (hx : opndO gm env x = some (.v (.bool a))) : Qk P gm env V o (.v (.bool !a)) := fun A _ =>
 ok_un ho (by rw [opndO_eq hx]; rfl) rfl
theorem q_convInt {s d : TypeId} {x : Operand} {k k' : IntKind} {ds : TypeDesc} {n m : Int} (ho : o.op = .convert s d x) (hx : opndO gm env x = some (.v (.int k n))) (hs : P.underlying s = some ds) (hd : P.underlying d = some (.int k')) (h : k'.wrap n = m) : Qk P gm env V o (.v (.int k' m)) := fun A _ =>
 ok_convert ho (by rw [opndO_eq hx]; rfl) (by
  unfold convert
  refine pureS_bind (pureS_underlying hs) (pureS_bind (pureS_underlying hd) ?_)
  have : pureS P (Conv.intToInt k' n) = some (.int k' m) := by rw [← h]; rfl
  cases ds <;> exact this)

/-! #### composites -/
theorem q_extract {x : Operand} {k : Nat} {l : List AV} (ho : o.op = .extract x k) (hx : opndO gm env x = some (.tup l)) (h : l[k]? = some r) : Qk P gm env V o r := fun _ _ => ok_extract ho (opndO_eq hx) h
theorem q_field {t : TypeId} {x : Operand} {k off n : Nat} {g : Bool} {l : List AV} (ho : o.op = .field t x k) (hx : opndO gm env x = some (.agg l)) (hf : fieldOf P t k = some (off, g, n)) (h : partA g l off n = some r) : Qk P gm env V o r := fun _ _ => ok_field ho (opndO_eq hx) hf h
theorem q_fieldAddr {t : TypeId} {x : Operand} {k i off d n : Nat} {g : Bool} (ho : o.op = .fieldAddr t x k) (hx : opndO gm env x = some (.ptr i off)) (hf : fieldOf P t k = some (d, g, n)) (hn : n ≠ 0) : Qk P gm env V o (.ptr i (off + d)) := fun _ _ => ok_fieldAddr ho (opndO_eq hx) hf hn
theorem q_makeFunc {f : FuncId} {fs cs : Array Operand} {l m : List AV} (ho : o.op = .makeFunc (.func f) fs cs) (h1 : fs.toList.map (opnd gm env) = l) (h2 : cs.toList.map (opnd gm env) = m) : Qk P gm env V o (.fn f l m) := fun _ _ => by
 subst h1 h2
 exact ok_makeFunc ho
theorem q_build {t : TypeId} {parts : Array (Nat × Operand)} {z : List Value} {pl : List (Nat × Nat)} {l : List AV} (ho : o.op = .build t parts) (hz : tyZero P t = some z) (hp : bldOf P t = some pl) (h : fillA pl (z.map .v) (parts.toList.map fun (i, x) => (i, opnd gm env x)) = some l) : Qk P gm env V o (.agg l) := fun _ _ => ok_build ho hz hp h

/-! #### objects -/
/-- Some cells of an object. -/
def takeO (ob : AObj) (off n : Nat) : Option (List AV) := match ob.look with
 | some l => if 0 < n ∧ off + n ≤ l.length then some ((l.drop off).take n) else none
 | none => none
theorem loadA_of {A : List AObj} {i off n : Nat} {ob : AObj} (h : A[i]? = some ob) : loadA A i off n = takeO ob off n := by
 unfold loadA takeO
 rw [h]
 rfl

theorem q_load {t : TypeId} {x : Operand} {i off n : Nat} {ob : AObj} {l : List AV} (ho : o.op = .load t x) (hx : opndO gm env x = some (.ptr i off)) (ht : tySize P t = some (true, n)) (hm : (i, ob) ∈ V) (hl : takeO ob off n = some l) : Qk P gm env V o (.agg l) := fun _ hA => ok_load ho (opndO_eq hx) ht ((loadA_of (hA.get hm)).trans hl)
theorem q_load1 {t : TypeId} {x : Operand} {i off n : Nat} {ob : AObj} (ho : o.op = .load t x) (hx : opndO gm env x = some (.ptr i off)) (ht : tySize P t = some (false, n)) (hm : (i, ob) ∈ V) (hl : takeO ob off 1 = some [r]) : Qk P gm env V o r := fun _ hA => ok_load1 ho (opndO_eq hx) ht ((loadA_of (hA.get hm)).trans hl)

/-- An object with some cells laid anew. -/
def putO (ob : AObj) (off : Nat) (vs : List AV) : Option AObj := match ob with
 | .cells l e true => if off + vs.length ≤ l.length ∧ 0 < vs.length ∧ vs.all oneA = true then some (.cells (setL l off vs) e true) else none
 | .row l e size => if off + vs.length ≤ l.length ∧ 0 < vs.length ∧ vs.all oneA = true then some (.row (setL l off vs) e size) else none
 | _ => none
theorem storeA_of {A : List AObj} {i off : Nat} {ob ob' : AObj} {vs : List AV} (h : A[i]? = some ob) (hp : putO ob off vs = some ob') : storeA A i off vs = some (A.set i ob') := by
 unfold putO at hp
 unfold storeA
 rw [h]
 split at hp
 ·split at hp
  ·rename_i hc; cases hp; simp only [hc, and_self, if_true]
  ·cases hp
 ·split at hp
  ·rename_i hc; cases hp; simp only [hc, and_self, if_true]
  ·cases hp
 ·cases hp
theorem q_store {t : TypeId} {x y : Operand} {i off n : Nat} {g : Bool} {vs : List AV} {ob ob' : AObj} (ho : o.op = .store t x y) (hx : opndO gm env x = some (.ptr i off)) (ht : tySize P t = some (g, n)) (hy : cellsA (opnd gm env y) = some vs) (hn : vs.length = n) (hm : (i, ob) ∈ V) (hs : putO ob off vs = some ob') :
  ∀ A, View V A → OpOk P gm env A o .any (A.set i ob') := fun _ hA => ok_store ho (opndO_eq hx) ht hy hn (storeA_of (hA.get hm) hs)
theorem n_box {t : TypeId} {x : Operand} {l : List AV} (ho : o.op = .box t x) (hx : cellsA (opnd gm env x) = some l) : Nk P gm env V o (fun j => .ptr j 0) (.cells l t true) := fun _ _ => ok_box ho hx
theorem n_alloc {t : TypeId} {z : List Value} (ho : o.op = .alloc t) (hz : tyZero P t = some z) : Nk P gm env V o (fun j => .ptr j 0) (.cells (z.map .v) t true) := fun _ _ => ok_alloc ho hz
theorem n_buildSlice {t e : TypeId} {len size : Nat} {parts : Array (Nat × Operand)} {z : List Value} {l : List AV} (ho : o.op = .buildSlice t len parts) (ht : slElem P t = some (e, size)) (hz : tyZero P e = some z) (hlen : len * size ≤ 16777216) (hmax : len ≤ 16777216)
  (h : fillA ((List.range len).map fun i => (i * size, size)) (List.replicate (len * size) .any) (parts.toList.map fun (i, x) => (i, opnd gm env x)) = some l) : Nk P gm env V o (fun j => .row j len) (.row l e size) := fun _ _ => ok_buildSlice ho ht hz hlen hmax h

theorem q_indexRow {t e : TypeId} {x y : Operand} {k : IntKind} {n : Int} {i len size : Nat} (ho : o.op = .indexAddr t x y) (hx : opndO gm env x = some (.row i len)) (hy : opndO gm env y = some (.v (.int k n))) (ht : slElem P t = some (e, size)) {l : List AV} {e' : TypeId} {s' : Nat} (hm : (i, .row l e' s') ∈ V) (h0 : 0 ≤ n) (h1 : n < len) :
  Qk P gm env V o (.ptr i (n.toNat * size)) := fun _ hA => ok_index_row ho (opndO_eq hx) (opndO_eq hy) ht h0 h1 (hA.get hm)
theorem q_indexSl {t e : TypeId} {x y : Operand} {k : IntKind} {n : Int} {i off len size : Nat} (ho : o.op = .indexAddr t x y) (hx : opndO gm env x = some (.sl i off len)) (hy : opndO gm env y = some (.v (.int k n))) (ht : slElem P t = some (e, size)) (h0 : 0 ≤ n) (h1 : n < len) :
  Qk P gm env V o (.ptr i (off + n.toNat * size)) := fun _ _ => ok_index_sl ho (opndO_eq hx) (opndO_eq hy) ht h0 h1
theorem q_indexArr {t e : TypeId} {x y : Operand} {k : IntKind} {n : Int} {i off len size : Nat} {g : Bool} (ho : o.op = .indexAddr t x y) (hx : opndO gm env x = some (.ptr i off)) (hy : opndO gm env y = some (.v (.int k n))) (ht : arrElem P t = some (len, e, g, size)) (h0 : 0 ≤ n) (h1 : n < len) :
  Qk P gm env V o (.ptr i (off + n.toNat * size)) := fun _ _ => ok_index_arr ho (opndO_eq hx) (opndO_eq hy) ht h0 h1
theorem q_index {t e : TypeId} {x y : Operand} {k : IntKind} {n : Int} {len size : Nat} {g : Bool} {l : List AV} (ho : o.op = .index t x y) (hx : opndO gm env x = some (.agg l)) (hy : opndO gm env y = some (.v (.int k n))) (ht : arrElem P t = some (len, e, g, size)) (h0 : 0 ≤ n) (h1 : n < len)
  (h : partA g l (n.toNat * size) size = some r) : Qk P gm env V o r := fun _ _ => ok_index ho (opndO_eq hx) (opndO_eq hy) ht h0 h1 h
theorem q_indexStr {t : TypeId} {x y : Operand} {k : IntKind} {n : Int} {s : ByteArray} {c : UInt8} (ho : o.op = .index t x y) (hx : opndO gm env x = some (.v (.string s))) (hy : opndO gm env y = some (.v (.int k n))) (ht : P.underlying t = some .string) (h0 : 0 ≤ n) (h1 : s[n.toNat]? = some c) :
  Qk P gm env V o (.v (.int .u8 c.toNat)) := fun _ _ => ok_index_str ho (opndO_eq hx) (opndO_eq hy) ht h0 h1

theorem q_len {x : Operand} {u : AV} {t e : TypeId} {n : Nat} (ho : o.op = .call { callee := .builtin .len, args := #[x], argTypes := #[t] }) (hx : opndO gm env x = some u) (hl : lenA u = some n) (ht : P.underlying t = some (.slice e)) : Qk P gm env V o (.v (.int .i64 n)) := fun _ _ => ok_len ho (by rw [opndO_eq hx]; exact hl) ht
theorem q_lenStr {x : Operand} {t : TypeId} {s : ByteArray} (ho : o.op = .call { callee := .builtin .len, args := #[x], argTypes := #[t] }) (hx : opndO gm env x = some (.v (.string s))) (ht : P.underlying t = some .string) : Qk P gm env V o (.v (.int .i64 s.size)) := fun _ _ => ok_len_str ho (opndO_eq hx) ht
theorem q_min {x y : Operand} {t u : TypeId} {k k' : IntKind} {m n : Int} (ho : o.op = .call { callee := .builtin .min, args := #[x, y], argTypes := #[t, u] }) (hx : opndO gm env x = some (.v (.int k m))) (hy : opndO gm env y = some (.v (.int k' n))) : Qk P gm env V o (.v (.int k (if n < m then n else m))) := fun _ _ => ok_min ho (opndO_eq hx) (opndO_eq hy)
theorem q_max {x y : Operand} {t u : TypeId} {k k' : IntKind} {m n : Int} (ho : o.op = .call { callee := .builtin .max, args := #[x, y], argTypes := #[t, u] }) (hx : opndO gm env x = some (.v (.int k m))) (hy : opndO gm env y = some (.v (.int k' n))) : Qk P gm env V o (.v (.int k (if m < n then n else m))) := fun _ _ => ok_max ho (opndO_eq hx) (opndO_eq hy)

theorem q_sliceSl {t e : TypeId} {x : Operand} {lo hi : Option Operand} {i off len size l h : Nat} (ho : o.op = .slice t x lo hi none) (hx : opndO gm env x = some (.sl i off len)) (ht : slElem P t = some (e, size))
  (hlo : bndA (lo.map (opnd gm env)) 0 = some l) (hhi : bndA (hi.map (opnd gm env)) len = some h) (h1 : l ≤ h) (h2 : h ≤ len) (hr : subA i off size l h = r) : Qk P gm env V o r := fun _ _ => hr ▸ ok_slice_sl ho (opndO_eq hx) ht hlo hhi h1 h2
theorem q_sliceRow {t e : TypeId} {x : Operand} {lo hi : Option Operand} {i len size l h : Nat} (ho : o.op = .slice t x lo hi none) (hx : opndO gm env x = some (.row i len)) (ht : slElem P t = some (e, size)) {l0 : List AV} {e' : TypeId} {s' : Nat} (hm : (i, .row l0 e' s') ∈ V)
  (hlo : bndA (lo.map (opnd gm env)) 0 = some l) (hhi : bndA (hi.map (opnd gm env)) len = some h) (h1 : l ≤ h) (h2 : h ≤ len) (hr : subA i 0 size l h = r) : Qk P gm env V o r := fun _ hA => hr ▸ ok_slice_row ho (opndO_eq hx) ht (hA.get hm) hlo hhi h1 h2
theorem q_sliceArr {t e : TypeId} {x : Operand} {lo hi : Option Operand} {i off len size l h : Nat} {g : Bool} (ho : o.op = .slice t x lo hi none) (hx : opndO gm env x = some (.ptr i off)) (ht : arrElem P t = some (len, e, g, size))
  (hlo : bndA (lo.map (opnd gm env)) 0 = some l) (hhi : bndA (hi.map (opnd gm env)) len = some h) (h1 : l ≤ h) (h2 : h ≤ len) (hr : subA i off size l h = r) : Qk P gm env V o r := fun _ _ => hr ▸ ok_slice_arr ho (opndO_eq hx) ht hlo hhi h1 h2

/-- The cells that are appended. -/
def srcO (V : KV) (size : Nat) (x : AV) (m : Nat) (ln : List AV) : Prop := ∀ A, View V A → srcA A size x = some (m, ln)
theorem a_append {s x : Operand} {t e : TypeId} {ti : TypeInfo} {z : Value} {size bytes i n m : Nat} {lo ln : List AV} {u : AV} (ho : o.op = .call { callee := .builtin .append, args := #[s, x], argTypes := #[t, t] }) (ht : P.underlying t = some (.slice e)) (hi : P.info? e = some ti) (hz : ti.zero = some z)
  (hsz : z.cells.size = size) (hts : ti.size = size) (hby : ti.bytes = bytes) (hs0 : 0 < size) (hs : opndO gm env s = some (.row i n)) (hm : (i, .row lo e size) ∈ V) (hlo : lo.length = n * size) (hx : opndO gm env x = some u) (hsrc : srcO V size u m ln) (hm0 : 0 < m) (hone : ln.all oneA = true) (hmax : n + m ≤ maxLen) (hbytes : (n + m) * bytes ≤ 140737488355328) :
  ∀ A, View V A → OpOk P gm env A o (.row A.length (n + m)) (A.set i .gone ++ [.row (lo ++ ln) e size]) := fun A hA =>
 ok_append ho ht hi hz hsz hts hby hs0 (.inr (.inr ⟨i, opndO_eq hs, hA.get hm, hlo, rfl⟩)) (by rw [opndO_eq hx]; exact hsrc A hA) hm0 hone hmax hbytes
end
end Go.Vel
end
section
set_option linter.all false
set_option maxRecDepth 20000
set_option maxHeartbeats 60000000
namespace Go.Vel
open Go Go.Conc

/-! ### rules as the walker writes them -/
section
variable {P : Program} {gm : Nat → Option Nat} {T : Goroutine → Hp → Prop} {Y : KX P gm T} {ds : List Nat} {k : List Item} {env env' env1 env0 : List AV} {K K' : KV} {ops : Array Oper} {i : Nat} {rest L L' : List Nat} {o : Oper} {r : AV} {ob ob' : AObj} {envf : Nat → List AV} {pend pend' : List Pd} {V : KV}

theorem TK.norm (he : env = env') (h : TK Y ds k env' K) : TK Y ds k env K := he ▸ h
theorem TD.norm (he : env = env') (h : TD Y ds ops k pend L env' K) : TD Y ds ops k pend L env K := he ▸ h
theorem TK.regionL {id : Nat} (hL : List.range ops.size = L) (h : TK Y ds (.inRegion ops L :: k) env K) : TK Y ds (.code (.region id ops false) :: k) env K := TK.region (by rw [hL]; exact h)
theorem TK.newP (ho : ops[i]? = some o) (hd : isDefer o.op = false) (hw : wantA ops env o = some true) (hq : Nk P gm env K o (fun j => .ptr j 0) ob) (he : ∀ j, putA env o.dst (.ptr j 0) = envf j) (h : ∀ j, j ∉ keys K → TK Y ds (.inRegion ops rest :: k) (envf j) ((j, ob) :: K)) : TK Y ds (.inRegion ops (i :: rest) :: k) env K := TK.new ho hd hw hq he h
theorem TK.newR {n : Nat} (ho : ops[i]? = some o) (hd : isDefer o.op = false) (hw : wantA ops env o = some true) (hq : Nk P gm env K o (fun j => .row j n) ob) (he : ∀ j, putA env o.dst (.row j n) = envf j) (h : ∀ j, j ∉ keys K → TK Y ds (.inRegion ops rest :: k) (envf j) ((j, ob) :: K)) : TK Y ds (.inRegion ops (i :: rest) :: k) env K := TK.new ho hd hw hq he h
theorem TK.appR {j n : Nat} {K'' : Nat → KV} (ho : ops[i]? = some o) (hd : isDefer o.op = false) (hw : wantA ops env o = some true) (hq : ∀ A, View K A → OpOk P gm env A o (.row A.length n) (A.set j .gone ++ [ob'])) (hu : ∀ j', Upd K j ob j' ob' (K'' j')) (he : ∀ j', putA env o.dst (.row j' n) = envf j') (h : ∀ j', TK Y ds (.inRegion ops rest :: k) (envf j') (K'' j')) : TK Y ds (.inRegion ops (i :: rest) :: k) env K := TK.app (f := fun j' => .row j' n) ho hd hw hq hu he h
theorem TK.splitN (d : Nat) {t : Bool} (hd : env[d]? = some (.v (.bool t))) (h1 : env.set d (.v (.bool true)) = env1) (h0 : env.set d (.v (.bool false)) = env0) (k1 : t = true → TK Y ds k env1 K) (k0 : t = false → TK Y ds k env0 K) : TK Y ds k env K := by
 subst h1 h0
 exact TK.split d hd k1 k0
theorem TD.splitN (d : Nat) {t : Bool} (hd : env[d]? = some (.v (.bool t))) (h1 : env.set d (.v (.bool true)) = env1) (h0 : env.set d (.v (.bool false)) = env0) (k1 : t = true → TD Y ds ops k pend L env1 K) (k0 : t = false → TD Y ds ops k pend L env0 K) : TD Y ds ops k pend L env K := by
 subst h1 h0
 exact TD.split d hd k1 k0

/-! #### in a drawn region: the ordered ones -/
theorem TD.cq (s : List Nat) (ho : ops[i]? = some o) (hd : isDefer o.op = false) (hw : wantA ops (onl s env) o = some true) (hp' : pendOf ops i pend = pend') (hc : chkC ops pend' L' s i o.dst = true) (hq : Qk P gm (onl s env) K o r) (he : putA env o.dst r = env') (hv : ∀ p ∈ pend', ∀ x ∈ p.V, x ∈ K) (h : TD Y ds ops k pend' L' env' K) : TD Y ds ops k pend (i :: L') env K :=
 TD.c s ho hw hp' hc (exK_op hd fun A hv' hn => ⟨r, A, K, hq A hv', .same hv' hn, hv, by rw [he]; exact h⟩)
theorem TD.cnewP (s : List Nat) (ho : ops[i]? = some o) (hd : isDefer o.op = false) (hw : wantA ops (onl s env) o = some true) (hp' : pendOf ops i pend = pend') (hc : chkC ops pend' L' s i o.dst = true) (hq : Nk P gm (onl s env) K o (fun j => .ptr j 0) ob) (he : ∀ j, putA env o.dst (.ptr j 0) = envf j) (hv : ∀ p ∈ pend', ∀ x ∈ p.V, x ∈ K) (h : ∀ j, j ∉ keys K → TD Y ds ops k pend' L' (envf j) ((j, ob) :: K)) : TD Y ds ops k pend (i :: L') env K :=
 TD.c s ho hw hp' hc (exK_op hd fun A hv' hn => ⟨_, _, _, hq A hv', .push hv' hn ob, fun p hp x hx => List.mem_cons_of_mem _ (hv p hp x hx), by dsimp only; rw [he]; exact h _ fun hm => absurd (hv'.lt hm) (Nat.lt_irrefl _)⟩)
theorem TD.cnewR {n : Nat} (s : List Nat) (ho : ops[i]? = some o) (hd : isDefer o.op = false) (hw : wantA ops (onl s env) o = some true) (hp' : pendOf ops i pend = pend') (hc : chkC ops pend' L' s i o.dst = true) (hq : Nk P gm (onl s env) K o (fun j => .row j n) ob) (he : ∀ j, putA env o.dst (.row j n) = envf j) (hv : ∀ p ∈ pend', ∀ x ∈ p.V, x ∈ K) (h : ∀ j, j ∉ keys K → TD Y ds ops k pend' L' (envf j) ((j, ob) :: K)) : TD Y ds ops k pend (i :: L') env K :=
 TD.c s ho hw hp' hc (exK_op hd fun A hv' hn => ⟨_, _, _, hq A hv', .push hv' hn ob, fun p hp x hx => List.mem_cons_of_mem _ (hv p hp x hx), by dsimp only; rw [he]; exact h _ fun hm => absurd (hv'.lt hm) (Nat.lt_irrefl _)⟩)
theorem TD.cst {j : Nat} (s : List Nat) (ho : ops[i]? = some o) (hd : isDefer o.op = false) (hw : wantA ops (onl s env) o = some true) (hp' : pendOf ops i pend = pend') (hc : chkC ops pend' L' s i o.dst = true) (hq : ∀ A, View K A → OpOk P gm (onl s env) A o r (A.set j ob')) (hu : Upd K j ob j ob' K') (he : putA env o.dst r = env') (hv : ∀ p ∈ pend', ∀ x ∈ p.V, x ∈ K') (h : TD Y ds ops k pend' L' env' K') : TD Y ds ops k pend (i :: L') env K :=
 TD.c s ho hw hp' hc (exK_op hd fun A hv' hn => ⟨r, _, K', hq A hv', .set hv' hn hu, hv, by rw [he]; exact h⟩)
theorem TD.capp {j n : Nat} {K'' : Nat → KV} (s : List Nat) (ho : ops[i]? = some o) (hd : isDefer o.op = false) (hw : wantA ops (onl s env) o = some true) (hp' : pendOf ops i pend = pend') (hc : chkC ops pend' L' s i o.dst = true) (hq : ∀ A, View K A → OpOk P gm (onl s env) A o (.row A.length n) (A.set j .gone ++ [ob'])) (hu : ∀ j', Upd K j ob j' ob' (K'' j')) (he : ∀ j', putA env o.dst (.row j' n) = envf j') (hv : ∀ j', ∀ p ∈ pend', ∀ x ∈ p.V, x ∈ K'' j') (h : ∀ j', TD Y ds ops k pend' L' (envf j') (K'' j')) : TD Y ds ops k pend (i :: L') env K :=
 TD.c s ho hw hp' hc (exK_op hd fun A hv' hn => ⟨_, _, _, hq A hv', .renew hv' hn (hu _), hv _, by rw [he]; exact h _⟩)

/-- A call. -/
theorem TK.call' {fo : Operand} {ars : Array Operand} {at_ : Array TypeId} {g : FuncId} {fs cp args : List AV} {Kf R : KV} {Post : AV → KV → Prop} (ho : ops[i]? = some o) (hw : wantA ops env o = some true) (hop : o.op = .call { callee := .value fo, args := ars, argTypes := at_ })
  (hf : opndO gm env fo = some (.fn g fs cp)) (hg : callable P g = true) (hargs : fs ++ ars.toList.map (opnd gm env) ++ cp = args) (hc : CallK P T gm g args Kf Post) (hs : Split K Kf R)
  (h : ∀ r K', Post r K' → TK Y ds (.inRegion ops rest :: k) (putA env o.dst r) (K' ++ R)) : TK Y ds (.inRegion ops (i :: rest) :: k) env K := TK.ex ho hw (exK_call hop (opndO_eq hf) hg hargs hc hs h)
theorem TD.call' {fo : Operand} {ars : Array Operand} {at_ : Array TypeId} {g : FuncId} {fs cp args : List AV} {Kf R : KV} {Post : AV → KV → Prop} (s : List Nat) (ho : ops[i]? = some o) (hw : wantA ops (onl s env) o = some true) (hp' : pendOf ops i pend = pend') (hc' : chkC ops pend' L' s i o.dst = true) (hop : o.op = .call { callee := .value fo, args := ars, argTypes := at_ })
  (hf : opndO gm (onl s env) fo = some (.fn g fs cp)) (hg : callable P g = true) (hargs : fs ++ ars.toList.map (opnd gm (onl s env)) ++ cp = args) (hc : CallK P T gm g args Kf Post) (hs : Split K Kf R)
  (h : ∀ r K', Post r K' → (∀ p ∈ pend', ∀ x ∈ p.V, x ∈ K' ++ R) ∧ TD Y ds ops k pend' L' (putA env o.dst r) (K' ++ R)) : TD Y ds ops k pend (i :: L') env K := TD.c s ho hw hp' hc' (exK_call hop (opndO_eq hf) hg hargs hc hs h)

/-! #### the cells that are appended -/
theorem src_row {j m size : Nat} {l ln : List AV} {e : TypeId} {s' : Nat} (hm : (j, .row l e s') ∈ V) (hpos : 0 < m * size) (hle : m * size ≤ l.length) (hl : l.take (m * size) = ln) : srcO V size (.row j m) m ln := fun A hA => by
 simp only [srcA]
 rw [if_neg (by omega), hA.get hm]
 simp only [loadA, hA.get hm, AObj.look, List.drop_zero, Nat.zero_add]
 rw [if_pos ⟨hpos, hle⟩, hl]
 rfl
theorem src_sl {j off m size : Nat} {ob : AObj} {ln : List AV} (hm : (j, ob) ∈ V) (hpos : 0 < m * size) (hl : takeO ob off (m * size) = some ln) : srcO V size (.sl j off m) m ln := fun A hA => by
 simp only [srcA]
 rw [if_neg (by omega), loadA_of (hA.get hm), hl]
 rfl
def tyZeroA (P : Program) (t : TypeId) : Option (List AV) := (tyZero P t).map fun z => z.map .v
theorem n_allocA {t : TypeId} {l : List AV} (ho : o.op = .alloc t) (hz : tyZeroA P t = some l) : Nk P gm env V o (fun j => .ptr j 0) (.cells l t true) := by
 unfold tyZeroA at hz
 cases e : tyZero P t with
 | none => rw [e] at hz; cases hz
 | some z => rw [e] at hz; cases hz; exact n_alloc ho e
/-- What append is to know of a slice's type. -/
def apOf (P : Program) (t : TypeId) : Option (TypeId × Nat × Nat) := match P.underlying t with
 | some (.slice e) => match P.info? e with
  | some ti => match ti.zero with
   | some z => if z.cells.size = ti.size ∧ 0 < ti.size then some (e, ti.size, ti.bytes) else none
   | none => none
  | none => none
 | _ => none
theorem a_app {s x : Operand} {t e : TypeId} {size bytes i n m : Nat} {lo ln : List AV} {u : AV} (ho : o.op = .call { callee := .builtin .append, args := #[s, x], argTypes := #[t, t] }) (ht : apOf P t = some (e, size, bytes)) (hs : opndO gm env s = some (.row i n)) (hm : (i, .row lo e size) ∈ V) (hlo : lo.length = n * size) (hx : opndO gm env x = some u) (hsrc : srcO V size u m ln) (hm0 : 0 < m) (hone : ln.all oneA = true) (hmax : n + m ≤ maxLen) (hbytes : (n + m) * bytes ≤ 140737488355328) :
  ∀ A, View V A → OpOk P gm env A o (.row A.length (n + m)) (A.set i .gone ++ [.row (lo ++ ln) e size]) := by
 unfold apOf at ht
 split at ht
 ·rename_i e' h1
  split at ht
  ·rename_i ti h2
   split at ht
   ·rename_i z h3
    split at ht
    ·rename_i h4
     cases ht
     exact a_append ho h1 h2 h3 h4.1 rfl rfl h4.2 hs hm hlo hx hsrc hm0 hone hmax hbytes
    ·cases ht
   ·cases ht
  ·cases ht
 ·cases ht

/-! #### results -/
inductive ResK (P : Program) (K : KV) (env : List AV) : ResultVar → AV → Prop
 | tmp {t : Nat} {r : AV} : env[t]? = some r → ResK P K env (.tmp t) r
 | cell {a t i off n : Nat} {ob : AObj} {l : List AV} : env[a]? = some (.ptr i off) → tySize P t = some (true, n) → (i, ob) ∈ K → takeO ob off n = some l → ResK P K env (.cell a t) (.agg l)
 | cell1 {a t i off n : Nat} {ob : AObj} {r : AV} : env[a]? = some (.ptr i off) → tySize P t = some (false, n) → (i, ob) ∈ K → takeO ob off 1 = some [r] → ResK P K env (.cell a t) r
theorem rk_tmp {t : Nat} (h : env[t]? = some r) : ResK P K env (.tmp t) r := .tmp h
theorem rk_cell {a t i off n : Nat} {l : List AV} (h : env[a]? = some (.ptr i off)) (ht : tySize P t = some (true, n)) (hm : (i, ob) ∈ K) (hl : takeO ob off n = some l) : ResK P K env (.cell a t) (.agg l) := .cell h ht hm hl
theorem rk_cell1 {a t i off n : Nat} (h : env[a]? = some (.ptr i off)) (ht : tySize P t = some (false, n)) (hm : (i, ob) ∈ K) (hl : takeO ob off 1 = some [r]) : ResK P K env (.cell a t) r := .cell1 h ht hm hl
theorem getD_of {l : List AV} {t : Nat} (h : l[t]? = some r) : l.getD t .any = r := by rw [List.getD_eq_getElem?_getD, h]; rfl
theorem ResK.res {v : ResultVar} (h : ResK P K env v r) {A : List AObj} (hA : View K A) : resA1 P env A v = some r := by
 cases h with
 | tmp h => simp only [resA1, getD_of h]
 | cell h ht hm hl => simp only [resA1, getD_of h, varA, ht, loadA_of (hA.get hm), hl]
 | cell1 h ht hm hl => simp only [resA1, getD_of h, varA, ht, loadA_of (hA.get hm), hl]
inductive ResKs (P : Program) (K : KV) (env : List AV) : List ResultVar → List AV → Prop
 | nil : ResKs P K env [] []
 | cons {v : ResultVar} {r : AV} {vs : List ResultVar} {rs : List AV} : ResK P K env v r → ResKs P K env vs rs → ResKs P K env (v :: vs) (r :: rs)
theorem ResKs.res {vs : List ResultVar} {rs : List AV} (h : ResKs P K env vs rs) {A : List AObj} (hA : View K A) : resAs P env A vs = some rs := by
 induction h with
 | nil => rfl
 | cons h _ ih => simp only [resAs, h.res hA, ih]
theorem res_one {v : ResultVar} (h : ResK P K env v r) : ∀ A, View K A → resA P [v] env A = some r := fun A hA => by
 simp only [resA, resAs, h.res hA]
theorem res_many {vs : List ResultVar} {rs : List AV} (h : ResKs P K env vs rs) (hl : (rs.length == 1) = false) : ∀ A, View K A → resA P vs env A = some (.tup rs) := fun A hA => by
 unfold resA
 rw [h.res hA]
 split
 ·rename_i e; cases e; cases hl
 ·rename_i e; cases e; rfl
 ·rename_i e; cases e
end
end Go.Vel
end
section
set_option linter.all false
set_option maxRecDepth 20000
set_option maxHeartbeats 60000000
namespace Go.Vel
open Go Go.Conc

/-! ### an object seen otherwise -/
theorem RelH.turn {φ : Nat → Loc3} {A : List AObj} {F H : Hp} (h : RelH φ A F H) {i : Nat} {o o' : AObj} (hi : A[i]? = some o) (ho : RelO φ A.length (φ i) H o → RelO φ A.length (φ i) H o') (hx : o'.excl = true → o.excl = true) (hl : o'.live = true → o.live = true) (hs : sol (φ i) o' → sol (φ i) o) : RelH φ (A.set i o') F H := by
 have hlt : i < A.length := (List.getElem?_eq_some_iff.1 hi).1
 have hget : ∀ (j : Nat) q, (A.set i o')[j]? = some q → (j ≠ i ∧ A[j]? = some q) ∨ (j = i ∧ q = o') := fun j q hj => by
  rw [List.getElem?_set] at hj
  split at hj
  ·rename_i e
   subst e
   simp [hlt] at hj
   exact .inr ⟨rfl, hj.symm⟩
  ·rename_i e
   exact .inl ⟨Ne.symm e, hj⟩
 refine ⟨fun j q hj => ?_, fun j k q1 q2 hj hk hjk he hl' hs1 hs2 => ?_, h.fr, fun j q hj he hsj => ?_⟩
 ·rw [List.length_set]
  rcases hget j q hj with ⟨_, hj'⟩ | ⟨rfl, rfl⟩
  ·exact h.obj j q hj'
  ·exact ho (h.obj j o hi)
 ·rcases hget j q1 hj with ⟨_, hj'⟩ | ⟨rfl, rfl⟩
  ·rcases hget k q2 hk with ⟨_, hk'⟩ | ⟨rfl, rfl⟩
   ·exact h.apart j k q1 q2 hj' hk' hjk he hl' hs1 hs2
   ·exact h.apart j k q1 o hj' hi hjk he (hl hl') hs1 (hs hs2)
  ·rcases hget k q2 hk with ⟨_, hk'⟩ | ⟨rfl, rfl⟩
   ·exact h.apart j k o q2 hi hk' hjk (hx he) hl' (hs hs1) hs2
   ·exact absurd rfl hjk
 ·rcases hget j q hj with ⟨_, hj'⟩ | ⟨rfl, rfl⟩
  ·exact h.frx j q hj' he hsj
  ·exact h.frx j o hi (hx he) (hs hsj)

/-- An object that lies nowhere. -/
theorem RelH.virtO {φ : Nat → Loc3} {A : List AObj} {F H : Hp} (h : RelH φ A F H) {o : AObj} (ho : ∀ (φ : Nat → Loc3) n, RelO φ n ⟨0, 0, 0⟩ H o) (hs : ¬ sol ⟨0, 0, 0⟩ o) : RelH (upd3 φ A.length ⟨0, 0, 0⟩) (A ++ [o]) F H := by
 have hlen : (A ++ [o]).length = A.length + 1 := by simp
 have hget : ∀ (i : Nat) o', (A ++ [o])[i]? = some o' → (i < A.length ∧ A[i]? = some o') ∨ (i = A.length ∧ o' = o) := fun i o' hi => by
  rcases Nat.lt_or_ge i A.length with hlt | hge
  ·rw [List.getElem?_append_left hlt] at hi; exact .inl ⟨hlt, hi⟩
  ·rw [List.getElem?_append_right hge] at hi
   have : i - A.length = 0 := by
    have := (List.getElem?_eq_some_iff.1 hi).1
    simp at this
    omega
   rw [this] at hi
   simp at hi
   exact .inr ⟨by omega, hi.symm⟩
 have hold : ∀ i, i < A.length → upd3 φ A.length ⟨0, 0, 0⟩ i = φ i := fun i hi => by simp [upd3]; omega
 have hnew : upd3 φ A.length ⟨0, 0, 0⟩ A.length = ⟨0, 0, 0⟩ := by simp [upd3]
 refine ⟨fun i o' hi => ?_, fun i j o1 o2 hi hj hij he hl hs1 hs2 => ?_, h.fr, fun i o' hi he hsi => ?_⟩
 ·rw [hlen]
  rcases hget i o' hi with ⟨hlt, hi'⟩ | ⟨rfl, rfl⟩
  ·rw [hold i hlt]; exact (h.obj i o' hi').mono (agr_upd3 φ _ _) (by omega) (fun _ _ => rfl)
  ·rw [hnew]; exact ho _ _
 ·rcases hget i o1 hi with ⟨hi1, hi'⟩ | ⟨rfl, rfl⟩
  ·rcases hget j o2 hj with ⟨hj1, hj'⟩ | ⟨rfl, rfl⟩
   ·rw [hold i hi1] at hs1 ⊢; rw [hold j hj1] at hs2 ⊢; exact h.apart i j o1 o2 hi' hj' hij he hl hs1 hs2
   ·rw [hnew] at hs2; exact absurd hs2 hs
  ·rw [hnew] at hs1; exact absurd hs1 hs
 ·rcases hget i o' hi with ⟨hlt, hi'⟩ | ⟨rfl, rfl⟩
  ·rw [hold i hlt] at hsi ⊢; exact h.frx i o' hi' he hsi
  ·rw [hnew] at hsi; exact absurd hsi hs

section
variable {P : Program} {gm : Nat → Option Nat} {T : Goroutine → Hp → Prop} {Y : KX P gm T} {ds : List Nat} {k : List Item} {env env' : List AV} {K K' : KV}

/-- A slot's value, seen otherwise. -/
theorem RelL.set' {φ : Nat → Loc3} {n : Nat} {ts : Array Value} (h : RelL φ n env ts) {d : Nat} {a a' : AV} (hd : env[d]? = some a) (hr : ∀ y, RelV φ n a y → RelV φ n a' y) : RelL φ n (env.set d a') ts := by
 refine ⟨by simp [h.1], fun j u y hu hy => ?_⟩
 rw [List.getElem?_set] at hu
 split at hu
 ·rename_i e
  subst e
  split at hu
  ·cases hu; exact hr y (h.2 d a y hd hy)
  ·cases hu
 ·exact h.2 j u y hu hy

/-- A row as a slice of cells. -/
def unrow (j : Nat) : AV → AV
 | .row i n => if i = j then .sl i 0 n else .row i n
 | a => a
theorem unrow_rel {φ : Nat → Loc3} {n j : Nat} (hb : (φ j).base = 0) {a : AV} {y : Value} (h : RelV φ n a y) : RelV φ n (unrow j a) y := by
 cases a with
 | row i len =>
  show RelV φ n (if i = j then .sl i 0 len else .row i len) y
  split
  ·rename_i e
   subst e
   obtain ⟨h1, h2, h3⟩ := inv_row h
   unfold rowV at h3
   split at h3
   ·rename_i e0
    obtain ⟨b, rfl⟩ := h3
    obtain rfl : len = 0 := by omega
    exact .sl h1 (Nat.le_refl _) fun hp => absurd hp (Nat.lt_irrefl _)
   ·rw [h3]
    exact .sl h1 h2 fun _ => by rw [hb]
  ·exact h
 | _ => exact h
def unrow1 (j : Nat) : AV → AV
 | .agg l => .agg (l.map (unrow j))
 | a => unrow j a
theorem unrow1_rel {φ : Nat → Loc3} {n j : Nat} (hb : (φ j).base = 0) {a : AV} {y : Value} (h : RelV φ n a y) : RelV φ n (unrow1 j a) y := by
 cases a with
 | agg l =>
  obtain ⟨ys, rfl, h1, h2⟩ := inv_agg h
  refine .agg (by simpa using h1) fun t u z hu hz => ?_
  rw [List.getElem?_map] at hu
  cases e : l[t]? with
  | none => rw [e] at hu; cases hu
  | some v => rw [e] at hu; cases hu; exact unrow_rel hb (h2 t v z e hz)
 | _ => exact unrow_rel hb h

/-- A row is no longer to grow: it is a slice of cells that none changes. -/
theorem TK.freeze (d : Nat) {j : Nat} {l : List AV} {e : TypeId} {s : Nat} {a : AV} (hd : env[d]? = some a) (hu : Upd K j (.row l e s) j (.cells l e false) K') (he : env.set d (unrow1 j a) = env') (h : TK Y ds k env' K') : TK Y ds k env K := fun A hA φ H ts h1 h2 h3 h4 h5 h6 => by
 have hj := hA.view.get hu.mem
 have hb : (φ j).base = 0 := (h5.obj j _ hj).2.1
 subst he
 refine h _ (hA.step (.set hA.view hA.nd hu)) φ H ts h1 (by simpa using h2) (by simpa using h3) (by simpa using h4) ?_ (by simpa using h6.set' hd fun y hy => unrow1_rel hb hy)
 refine h5.turn hj (fun ho hl => ?_) (fun h => by cases h) (fun _ => rfl) (fun hs => ?_)
 ·have hc : 0 < (φ j).cap := by
   rcases Nat.eq_zero_or_pos (φ j).cap with e | e
   ·exact absurd (ho.1 e) hl
   ·exact e
  obtain ⟨cur, q1, q2, q3, q4, q5⟩ := ho.2.2 hc
  exact ⟨true, cur, (_, 0, 0), q1, (fun h => by cases h), fun t u hu => by rw [hb, Nat.zero_add]; exact q5 t u hu⟩
 ·show 0 < (φ j).cap
  rcases Nat.eq_zero_or_pos (φ j).cap with e | e
  ·exact absurd ((h5.obj j _ hj).1 e) hs
  ·exact e
/-- What one may change, one may leave as it is. -/
theorem TK.ro {j : Nat} {l : List AV} {e : TypeId} (hu : Upd K j (.cells l e true) j (.cells l e false) K') (h : TK Y ds k env K') : TK Y ds k env K := fun A hA φ H ts h1 h2 h3 h4 h5 h6 => by
 have hj := hA.view.get hu.mem
 refine h _ (hA.step (.set hA.view hA.nd hu)) φ H ts h1 (by simpa using h2) (by simpa using h3) (by simpa using h4) (h5.turn hj (fun ho hl => ?_) (fun h => by cases h) (fun _ => rfl) (fun hs => hs)) (by simpa using h6)
 obtain ⟨rw', cur, fz, q1, _, q3⟩ := ho hl
 exact ⟨rw', cur, fz, q1, (fun h => by cases h), q3⟩
/-- A slice of nothing is one of cells. -/
theorem TK.nilSl (d : Nat) (e : TypeId) {x : Option Addr} {c : Nat} (hx : env[d]? = some (.v (.slice x 0 c))) (h : ∀ j, j ∉ keys K → TK Y ds k (env.set d (.sl j 0 0)) ((j, .cells [] e false) :: K)) : TK Y ds k env K := fun A hA φ H ts h1 h2 h3 h4 h5 h6 => by
 have hk : A.length ∉ keys K := fun hm => absurd (hA.view.lt hm) (Nat.lt_irrefl _)
 have hH := h5.virtO (o := .cells [] e false) (fun φ n hl => absurd rfl hl) (fun hl => hl rfl)
 have hag := agr_upd3 φ A.length ⟨0, 0, 0⟩
 have hlen : (A ++ [AObj.cells [] e false]).length = A.length + 1 := by simp
 have hds : dsC (upd3 φ A.length ⟨0, 0, 0⟩) ds = dsC φ ds := by
  unfold dsC
  exact List.map_congr_left fun d hd' => by rw [hag d (h4 d hd')]
 rw [← hds]
 refine h _ hk _ (hA.step (.push hA.view hA.nd _)) _ H ts (h1.trans hag h2) (by omega) (h3.mono hag (by omega)) (fun d hd => by have := h4 d hd; omega) hH ?_
 have hE := h6.mono (n' := (A ++ [AObj.cells [] e false]).length) hag (by omega)
 exact hE.set' hx fun y hy => by
  rw [inv_v hy]
  exact .sl (by omega) (Nat.zero_le _) fun hp => absurd hp (Nat.lt_irrefl _)
/-- A contract is entered; at its end, of what is known some is handed back. -/
theorem callK_enter2 {main : Bool} (hT : Shut P main T) {g : FuncId} {fn : Func} {c : Code} {args : List AV} {Post : AV → KV → Prop} (hf : P.funcs[g]? = some fn) (hb : fn.body = some c)
  (h : ∀ Y : KX P gm T, (∀ j env K' K'' D r, (j = none ∨ j = some .ret) → Split K' K'' D → (∀ A', View K' A' → resA P fn.results.toList env A' = some r) → Post r K'' → ∀ A', Kn Y K' A' → Y.X.L j [] env A') → TK Y [] [.code c] (args ++ List.replicate (fn.ntmps - args.length) .any) K) : CallK P T gm g args K Post := by
 intro A hv hn
 refine callT_enter hT hf hb fun X hret hend => ?_
 refine h ⟨X, A, keys K⟩ (fun j env K' K'' D r hj hsp hres hp A' hA' => ?_) A ⟨hv, hn, fun i hi => .inl hi, fun _ _ _ => rfl, Nat.le_refl _⟩
 have hpm := hsp.perm
 have hnd := (keys_perm hpm).nodup_iff.1 hA'.nd
 rw [keys_app] at hnd
 have hq : ∃ K', Kstep K A K' A' ∧ Post r K' := ⟨K'', ⟨hA'.view.sub fun x hx => hpm.symm.subset (by simp [hx]), (List.nodup_append.1 hnd).1, fun i hi => hA'.own i (by
  obtain ⟨x, hx, rfl⟩ := List.mem_map.1 hi
  exact mem_keys (hpm.symm.subset (by simp [hx]))), hA'.kept, hA'.len⟩, hp⟩
 rcases hj with rfl | rfl
 ·exact hend env A' r (hres A' hA'.view) hq
 ·exact hret env A' r (hres A' hA'.view) hq
end
end Go.Vel
end
section
set_option linter.all false
set_option maxRecDepth 20000
set_option maxHeartbeats 60000000
namespace Go.Vel
open Go Go.Conc
/-- An environment of which only some slots are known. -/
def liveA (live : List Nat) : Nat → List AV → List AV
 | _, [] => []
 | i, a :: l => (bif live.elem i then a else .any) :: liveA live (i + 1) l
def liveB (live : List Nat) : Nat → List AV → List Bool
 | _, [] => []
 | i, _ :: l => live.elem i :: liveB live (i + 1) l
theorem liveA_eq (live : List Nat) : ∀ (i : Nat) (l : List AV), maskA (liveB live i l) l = liveA live i l
 | _, [] => rfl
 | i, a :: l => by
  unfold liveA liveB
  cases h : live.elem i
  ·show AV.any :: maskA (liveB live (i + 1) l) l = _
   rw [liveA_eq live (i + 1) l]; rfl
  ·show a :: maskA (liveB live (i + 1) l) l = _
   rw [liveA_eq live (i + 1) l]; rfl
theorem TK.maskL {P : Program} {gm : Nat → Option Nat} {T : Goroutine → Hp → Prop} {Y : KX P gm T} {ds : List Nat} {k : List Item} {env : List AV} {K : KV} (live : List Nat) (h : TK Y ds k (liveA live 0 env) K) : TK Y ds k env K := TK.mask _ (liveA_eq live 0 env) h
theorem putS {env env' : List AV} {x : Option Nat} {d : Nat} {r : AV} (h : x = some d) (he : env.set d r = env') : putA env x r = env' := by subst h; exact he
theorem putN {env : List AV} {x : Option Nat} {r : AV} (h : x = none) : putA env x r = env := by subst h; rfl
end Go.Vel
end
section
set_option linter.all false
set_option maxRecDepth 20000
set_option maxHeartbeats 60000000
namespace Go.Vel
open Go Go.Conc
section
variable {P : Program} {gm : Nat → Option Nat} {T : Goroutine → Hp → Prop} {Y : KX P gm T} {ds : List Nat} {k : List Item} {env env' : List AV} {K : KV} {ops : Array Oper} {i d : Nat} {o : Oper} {r : AV} {rest : List Nat}
theorem TK.a (ho : ops[i]? = some o) (hq : ∀ A, View K A → OpOk P gm env A o r A) (h : TK Y ds (.inRegion ops rest :: k) env' K) (hd : isDefer o.op = false := by rfl) (hw : wantA ops env o = some true := by rfl) (hx : o.dst = some d := by rfl) (he : env.set d r = env' := by simp only [List.set]; rfl) : TK Y ds (.inRegion ops (i :: rest) :: k) env K :=
 TK.q ho hd hw hq (putS hx he) h
end
end Go.Vel
end
section
set_option linter.all false
set_option maxRecDepth 20000
set_option maxHeartbeats 60000000
namespace Go.Vel
open Go Go.Conc

section
variable {P : Program} {gm : Nat → Option Nat} {V : KV} {env : List AV} {o : Oper} {r : AV}

def byteA (b : UInt8) : AV := .v (.int .u8 b.toNat)
/-- The bytes of a string. -/
theorem n_toBytes {sT dT e : TypeId} {x : Operand} {s : ByteArray} (ho : o.op = .convert sT dT x) (hx : opndO gm env x = some (.v (.string s))) (hs : P.underlying sT = some .string) (hd : P.underlying dT = some (.slice e)) (he : P.underlying e = some (.int .u8)) (hl : s.size ≤ 1000000) :
  Nk P gm env V o (fun j => .sl j 0 s.size) (.cells (s.data.toList.map byteA) e false) := fun A _ φ F H a hg hH hE => by
 unfold execOp; rw [ho]; dsimp only
 have hx' := opnd_rel hg hE x
 rw [opndO_eq hx] at hx'
 rw [inv_v hx']
 refine wpS_v ?_
 unfold convert
 refine wpS_bind_eq _ _ _ (wpS_underlying hs ?_)
 refine wpS_bind_eq _ _ _ (wpS_underlying hd ?_)
 dsimp only
 refine wpS_bind_eq _ _ _ (wpS_underlying he ?_)
 dsimp only
 unfold Conv.stringToBytes
 refine wpS_bind_eq _ _ _ fun cap hc1 hc2 => ?_
 have hcap := cap_choice (e := e) (old := 0) (by omega) hc1 hc2
 dsimp only
 unfold newRow
 refine wpS_bind_eq _ _ _ ?_
 refine wpS_bind_eq _ _ _ fun b hb => ?_
 refine wpS_bind_eq _ _ _ ?_
 unfold markStringish
 refine wpS_bind_eq _ _ _ ?_
 refine ⟨_, _, Hp.put_same _ _ _, ?_⟩
 dsimp only [shapeOf]
 refine ⟨by omega, _, _, _, Hp.put_same _ _ _, ?_⟩
 rw [Hp.put_put]
 refine ⟨_, upd3 φ A.length ⟨b, 0, 0⟩, .inl rfl, agr_upd3 _ _ _, by simp, hH.push hb rfl ?_, ?_⟩
 ·refine fun _ => ⟨true, _, (_, _, _), Hp.put_same _ _ _, (fun h => by cases h), fun j u hu => ?_⟩
  rw [List.getElem?_map] at hu
  cases e1 : s.data.toList[j]? with
  | none => rw [e1] at hu; cases hu
  | some c =>
   rw [e1] at hu
   cases hu
   refine ⟨.int .u8 c.toNat, ?_, .v _⟩
   rw [Nat.zero_add]
   have hlt : j < s.data.size := by have := (List.getElem?_eq_some_iff.1 e1).1; simpa using this
   rw [Array.getElem?_append_left (by simpa using hlt), Array.getElem?_map]
   rw [Array.getElem?_toList] at e1
   rw [e1]; rfl
 ·refine .sl (by simp) hcap.1 fun _ => ?_
  simp [upd3]
variable {T : Goroutine → Hp → Prop} {Y : KX P gm T} {ds : List Nat} {k : List Item} {K : KV} {ops : Array Oper} {i : Nat} {rest : List Nat} {ob : AObj} {envf : Nat → List AV}
theorem TK.loop {c : Code} (h : TK Y ds (.code c :: .inLoop c :: k) env K) : TK Y ds (.code (.loop c) :: k) env K := fun A hA => (h A hA).loop
theorem TK.newS {n : Nat} (ho : ops[i]? = some o) (hd : isDefer o.op = false) (hw : wantA ops env o = some true) (hq : Nk P gm env K o (fun j => .sl j 0 n) ob) (he : ∀ j, putA env o.dst (.sl j 0 n) = envf j) (h : ∀ j, j ∉ keys K → TK Y ds (.inRegion ops rest :: k) (envf j) ((j, ob) :: K)) : TK Y ds (.inRegion ops (i :: rest) :: k) env K := TK.new ho hd hw hq he h
end
end Go.Vel
end
section
set_option linter.all false
set_option maxRecDepth 20000
set_option maxHeartbeats 60000000
namespace Go.Vel
open Go Go.Conc

/-! ### range over a function -/
section
variable {P : Program} {main : Bool} {T : Goroutine → Hp → Prop} {kd : CallKind} {f : FuncId} {ro : Option Nat} {ts : Array Value} {ds : List Deferred} {k : List Item} {cs : List Frame} {H : Hp} {w : World}

def ylCall (fo : Operand) (l : Nat) : Call := { callee := .value fo, args := #[.const (.func (.yield l) #[] #[])], argTypes := #[] }

theorem StepH.seen {w' : World} {es : Array Event} (h : StepH H w w' es) : StepH H w w' (Go.seen P f es) := ⟨h.size, h.kept, fun e he => h.evs e (mem_seen he), h.os, h.out, h.tape⟩

theorem runT_pair {α : Type} {P : Program} {s : Sem α} {w w1 : World} {a : α} {es : Array Event} (h : s.runT P w #[] = (.ok a w1, es)) : s.run P w = .ok a w1 ∧ s.events P w #[] = es := by
 have := Sem.runT_eq P s w #[]
 rw [h] at this
 exact ⟨(congrArg Prod.fst this).symm, (congrArg Prod.snd this).symm⟩

theorem Shut.rangeF (hT : Shut P main T) (hkd : kd ≠ .early) {fo : Operand} {ps : Array Tmp} {x y : Code}
  (h : wpS P (Instr.enterLoop f ts ps x y ro) H fun lm H1 => wpS P (resolve (evT ts) (ylCall fo lm.1) 0 >>= fun d => invoke d.target d.args) H1 fun nx H2 => match nx with
   | .enter g us => T (G (Frame.enter P g us .normal) (fr kd f ro ts (lm.2 ++ ds) (.inRangeFunc lm.1 :: k) :: cs)) H2
   | _ => False) : T (G (fr kd f ro ts ds (.code (.rangeFunc fo ps x y) :: k)) cs) H := by
 refine hT _ _ rfl fun w hf => ?_
 obtain ⟨⟨l, mark⟩, w1, es1, h1, h2, h3⟩ := wpS_sound _ _ _ w #[] h hf
 obtain ⟨nx, w2, es2, q1, q2, q3⟩ := wpS_sound _ _ _ w1 #[] h3 (hf.next h2)
 rw [Array.empty_append] at h1 q1
 cases nx with
 | enter g us =>
  refine ⟨_, _, Go.seen P f es1 ++ Go.seen P f es2, ?_, StepH.trans hf h2.seen q2.seen, rfl, by rw [← next_next h2.size q2.size hf]; exact q3⟩
  have he := fr_eval kd f ro ts (mark ++ ds) (.inRangeFunc l :: k)
  simp only [fr] at he
  obtain ⟨e1, e2⟩ := runT_pair h1
  obtain ⟨e3, e4⟩ := runT_pair q1
  simp only [ylCall] at e3 e4
  simp only [G, stepG, stepG.exec, fr, Sem.runT_eq, e1, e2, stepG.apply, he, if_true, e3, e4]
  simp [GStep.after, hkd]
 | _ => exact q3.elim

theorem Shut.endRangeF (hT : Shut P main T) {l : Nat} (h : wpS P (Instr.endLoop l) H fun jump H' => T (G (fr kd f ro ts ds ((jump.map Item.code).toList ++ k)) cs) H') : T (G (fr kd f ro ts ds (.endRangeFunc l :: k)) cs) H := by
 refine hT _ _ rfl fun w hf => ?_
 obtain ⟨jump, w1, es1, h1, h2, h3⟩ := wpS_sound _ _ _ w #[] h hf
 rw [Array.empty_append] at h1
 refine ⟨_, _, Go.seen P f es1, ?_, h2.seen, rfl, h3⟩
 obtain ⟨e1, e2⟩ := runT_pair h1
 simp [G, stepG, stepG.exec, fr, Sem.runT_eq, e1, e2, GStep.after]

theorem Shut.beginF (hT : Shut P main T) (hkd : kd ≠ .early) {l : Nat} (h : wpS P (Instr.beginRound l) H fun _ H' => T (G (fr kd f (some l) ts ds k) cs) H') : T (G (fr kd f (some l) ts ds (.beginRound :: k)) cs) H := by
 refine hT _ _ rfl fun w hf => ?_
 obtain ⟨nx, w1, es1, h1, h2, h3⟩ := wpS_sound (Instr.beginRound l >>= fun _ => Pure.pure Next.skip) H (fun nx H' => nx = .skip ∧ T (G (fr kd f (some l) ts ds k) cs) H') w #[] (wpS_bind _ _ _ _ (wpS_mono _ _ _ _ (fun _ _ h => (⟨rfl, h⟩ : _ ∧ _)) h)) hf
 rw [Array.empty_append] at h1
 obtain ⟨rfl, h3⟩ := h3
 refine ⟨_, _, Go.seen P f es1, ?_, h2.seen, rfl, h3⟩
 obtain ⟨e1, e2⟩ := runT_pair h1
 simp only [G, stepG, stepG.exec, fr, stepG.apply, Option.elim, Sem.runT_eq, if_true, e1, e2]
 simp [GStep.after, Frame.finish, hkd]

theorem Shut.endRoundF (hT : Shut P main T) {l : Nat} {j : Option Code} (hl : Leave j k) {c : Frame} (h : wpS P (Instr.endRound l j) H fun v H' => T (G (c.finish v) cs) H') : T (G (fr .normal f (some l) ts ds k) (c :: cs)) H := by
 refine hT _ _ rfl fun w hf => ?_
 obtain ⟨v, w1, es1, h1, h2, h3⟩ := wpS_sound _ _ _ w #[] h hf
 rw [Array.empty_append] at h1
 refine ⟨_, _, Go.seen P f es1, ?_, h2.seen, rfl, h3⟩
 cases hl with
 | fin =>
  obtain ⟨e1, e2⟩ := runT_pair h1
  simp [G, stepG, stepG.exec, fr, Sem.runT_eq, e1, e2, GStep.after, doReturn]
 | ret k =>
  obtain ⟨e1, e2⟩ := runT_pair h1
  simp [G, stepG, stepG.exec, fr, Sem.runT_eq, e1, e2, GStep.after, doReturn]
 | exit id k he =>
  obtain ⟨e1, e2⟩ := runT_pair h1
  simp [G, stepG, stepG.exec, fr, he, Sem.runT_eq, e1, e2, GStep.after, doReturn]

theorem Shut.takeF (hT : Shut P main T) {b : Nat} (h : wpS P (Instr.takeDeferred b) H fun d1 H' => T (G { fr kd f ro ts (d1 ++ ds) k with mode := .returning } cs) H') : T (G { fr kd f ro ts ({ target := .collected b, args := #[] } :: ds) k with mode := .returning } cs) H := by
 refine hT _ _ rfl fun w hf => ?_
 obtain ⟨d1, w1, es1, h1, h2, h3⟩ := wpS_sound _ _ _ w #[] h hf
 rw [Array.empty_append] at h1
 refine ⟨_, _, Go.seen P f es1, ?_, h2.seen, rfl, h3⟩
 obtain ⟨e1, e2⟩ := runT_pair h1
 simp [G, stepG, unwind, fr, Sem.runT_eq, e1, e2, GStep.after]

/-! #### the words of a loop -/
theorem wpS_getLoop {l : Nat} {rw' : Bool} {r : Loop} (h : H l = some (rw', .loop r)) {Q : Loop → Hp → Prop} (hq : Q r H) : wpS P (Instr.getLoop l) H Q := ⟨rw', _, h, rfl, rfl, hq⟩
theorem wpS_setLoop {l : Nat} {o0 : Obj} {r : Loop} (h : H l = some (true, o0)) (h0 : isCells o0 = false) {Q : Unit → Hp → Prop} (hq : Q () (H.put l (true, .loop r))) : wpS P (setObj l (.loop r)) H Q := ⟨o0, h, h0, rfl, hq⟩

/-- What stands for a function value. -/
def CallF (P : Program) (T : Goroutine → Hp → Prop) (gm : Nat → Option Nat) (yv : AV) (args : List AV) (A : List AObj) (Post : AV → List AObj → Prop) : Prop :=
 ∀ (φ : Nat → Loc3) (F H : Hp) (y : Value) (vs : Array Value) (c : Frame) (cs : List Frame), RelG gm φ A.length → RelH φ A F H → RelV φ A.length yv y → RelL φ A.length args vs →
  (∀ r A' φ' H' v, Post r A' → Agr φ φ' A.length → A.length ≤ A'.length → RelH φ' A' F H' → RelV φ' A'.length r v → T (G (c.finish v) cs) H') →
  wpS P (Deferred.ofValue y vs >>= fun d => invoke d.target d.args) H fun nx H' => match nx with
   | .enter g us => T (G (Frame.enter P g us .normal) (c :: cs)) H'
   | .round l g us x y => T (G (Frame.round l g us x y .normal) (c :: cs)) H'
   | _ => False
theorem CallF.mono {gm : Nat → Option Nat} {yv : AV} {args : List AV} {A : List AObj} {Post Post' : AV → List AObj → Prop} (h : CallF P T gm yv args A Post) (hp : ∀ r A', Post r A' → Post' r A') : CallF P T gm yv args A Post' :=
 fun φ F H y vs c cs h1 h2 h3 h4 k => h φ F H y vs c cs h1 h2 h3 h4 fun r A' φ' H' v x => k r A' φ' H' v (hp r A' x)

def CallFK (P : Program) (T : Goroutine → Hp → Prop) (gm : Nat → Option Nat) (yv : AV) (args : List AV) (K : KV) (Post : AV → KV → Prop) : Prop :=
 ∀ A, View K A → (keys K).Nodup → CallF P T gm yv args A fun r A' => ∃ K', Kstep K A K' A' ∧ Post r K'
theorem CallFK.mono {gm : Nat → Option Nat} {yv : AV} {args : List AV} {K : KV} {Post Post' : AV → KV → Prop} (h : CallFK P T gm yv args K Post) (hp : ∀ r K', Post r K' → Post' r K') : CallFK P T gm yv args K Post' :=
 fun A hv hn => (h A hv hn).mono fun r A' ⟨K', h1, h2⟩ => ⟨K', h1, hp r K' h2⟩

/-- A closure is one. -/
theorem callFK_fn {gm : Nat → Option Nat} {g : FuncId} {fs cp args : List AV} {K : KV} {Post : AV → KV → Prop} (hg : callable P g = true) (h : CallK P T gm g (fs ++ args ++ cp) K Post) : CallFK P T gm (.fn g fs cp) args K Post := by
 intro A hv hn φ F H y vs c cs h1 h2 h3 h4 hq
 obtain ⟨xs, ys, rfl, hr1, hr2⟩ := inv_fn h3
 refine wpS_callFunc hg _ ?_
 exact h A hv hn φ F H _ c cs h1 h2 (relL_app (relL_app hr1 h4) hr2) hq

variable {gm : Nat → Option Nat}

theorem inv_yl {φ : Nat → Loc3} {n i : Nat} {y : Value} (h : RelV φ n (.yl i) y) : i < n ∧ y = .func (.yield (φ i).blk) #[] #[] := by cases h; exact ⟨‹_›, rfl⟩

/-- The slots of a round. -/
def putAll : List AV → List (Tmp × AV) → List AV
 | env, [] => env
 | env, (t, a) :: l => putAll (env.set t a) l
theorem putAll_rel {φ : Nat → Loc3} {n : Nat} : ∀ (l : List (Tmp × AV)) (l' : List (Tmp × Value)) (env : List AV) (ts : Array Value), RelL φ n env ts → l.map (·.1) = l'.map (·.1) → (∀ (j : Nat) x z, l[j]? = some x → l'[j]? = some z → RelV φ n x.2 z.2) →
  RelL φ n (putAll env l) (l'.foldl (fun ts z => ts.setIfInBounds z.1 z.2) ts)
 | [], [], env, ts, h, _, _ => h
 | (t, a) :: l, (t', v) :: l', env, ts, h, he, hr => by
  simp only [List.map_cons, List.cons.injEq] at he
  obtain ⟨rfl, he⟩ := he
  refine putAll_rel l l' _ _ ?_ he fun j x z hx hz => hr (j + 1) x z (by simpa using hx) (by simpa using hz)
  exact put_rel (a := ⟨ts, []⟩) h (hr 0 _ _ rfl rfl) (some t)
 | [], _ :: _, _, _, _, he, _ => by simp at he
 | _ :: _, [], _, _, _, he, _ => by simp at he

theorem loop_at {φ : Nat → Loc3} {A : List AObj} {F H : Hp} (h : RelH φ A F H) {i : Nat} {f : FuncId} {env : List AV} {ps : Array Tmp} {x y : Code} {st : LoopState} {pj : Option Code} (hi : A[i]? = some (.loop f env ps x y st pj)) :
  ∃ ts d, H (φ i).blk = some (true, .loop { state := st, pending := pj, fn := f, tmps := ts, params := ps, assign := x, body := y, defers := d }) ∧ RelL φ A.length env ts := h.obj i _ hi

/-- A round. -/
theorem callF_yl (hT : Shut P main T) {i : Nat} {f : FuncId} {env args : List AV} {ps : Array Tmp} {x y : Code} {A : List AObj} {Post : AV → List AObj → Prop} (hi : A[i]? = some (.loop f env ps x y .ready none)) (hargs : args.length = ps.size)
  (h : ∀ X : Cx P gm T, X.ro = some (X.φ0 i).blk → i < X.n0 → (∀ j env' A' st pj, A'[i]? = some (.loop f env ps x y st pj) → Post (.v (.bool j.isNone)) (A'.set i (.loop f env ps x y (if j.isNone then .ready else .done) j)) → X.L j [] env' A') →
   TA X [] [.code x, .beginRound, .code y] (putAll env (ps.toList.zip args)) A) : CallF P T gm (.yl i) args A Post := by
 intro φ F H y' vs c cs hg hH hy hvs hq
 obtain ⟨hlt, rfl⟩ := inv_yl hy
 obtain ⟨ts, d, hb, hrel⟩ := loop_at hH hi
 have hvl : vs.size = ps.size := by rw [← hvs.1]; exact hargs
 have hround : ∀ us, us = (ps.zip vs).foldl (fun tmps (t, a) => tmps.setIfInBounds t a) ts → T (G (Frame.round (φ i).blk f us x y .normal) (c :: cs)) H := by
  intro us hus
  let X : Cx P gm T := {
   main, hT, φ0 := φ, n0 := A.length, F, kd := .normal, hkd := (fun h => by cases h), f, ro := some (φ i).blk, cs := c :: cs
   L := fun j ds env' A' => ∃ st pj, A'[i]? = some (.loop f env ps x y st pj) ∧ Post (.v (.bool j.isNone)) (A'.set i (.loop f env ps x y (if j.isNone then .ready else .done) j))
   hL := by
    rintro j k ds env' A' φ' H' ts' hl ⟨st, pj, hi', hp⟩ hA hlen hg' _ hH' hE
    refine hT.endRoundF hl ?_
    obtain ⟨ts1, d1, hb1, hrel1⟩ := loop_at hH' hi'
    have hφ : φ' i = φ i := hA i hlt
    rw [hφ] at hb1
    refine wpS_bind _ _ _ _ (wpS_getLoop hb1 ?_)
    refine wpS_bind _ _ _ _ (wpS_setLoop hb1 rfl ?_)
    have hH2 := hH'.set (x := (true, .loop { state := if j.isNone then .ready else .done, pending := j, fn := f, tmps := ts1, params := ps, assign := x, body := y, defers := d1 })) (o' := .loop f env ps x y (if j.isNone then .ready else .done) j) hi' rfl trivial ⟨ts1, d1, Hp.put_same _ _ _, hrel1⟩
    rw [hφ] at hH2
    exact hq _ _ _ _ _ hp hA (by simpa using hlen) hH2 (.v _) }
  have hX := h X rfl hlt fun j env' A' st pj hi' hp => ⟨st, pj, hi', hp⟩
  refine hX φ H us (Agr.refl _ _) (Nat.le_refl _) hg (fun d hd => by cases hd) hH ?_
  subst hus
  have := putAll_rel (n := A.length) (φ := φ) (ps.toList.zip args) (ps.toList.zip vs.toList) env ts hrel (by rw [List.map_fst_zip (by simp [hargs]), List.map_fst_zip (by simp [hvl])]) fun j x z hx hz => by
   rw [List.getElem?_zip_eq_some] at hx hz
   exact hvs.2 j _ _ hx.2 (by rw [← Array.getElem?_toList]; exact hz.2)
  rw [← Array.foldl_toList, Array.toList_zip]
  exact this
 show wpS P (Instr.yield (φ i).blk (#[] ++ vs ++ #[])) H _
 rw [Array.empty_append, Array.append_empty]
 refine wpS_bind _ _ _ _ (wpS_getLoop hb ?_)
 dsimp only
 rw [if_neg (by simpa using hvl)]
 exact hround _ rfl

variable {X : Cx P gm T} {ds' : List Nat} {env : List AV} {A : List AObj}

theorem TA.beginRound {i : Nat} {g : FuncId} {env0 : List AV} {ps : Array Tmp} {x y : Code} {pj : Option Code} (hro : X.ro = some (X.φ0 i).blk) (hi0 : i < X.n0) (hi : A[i]? = some (.loop g env0 ps x y .ready pj)) (h : TA X ds' k env (A.set i (.loop g env0 ps x y .busy pj))) : TA X ds' (.beginRound :: k) env A := fun φ H ts h1 h2 h3 h4 h5 h6 => by
 rw [hro]
 refine X.hT.beginF X.hkd ?_
 obtain ⟨ts1, d1, hb1, hrel1⟩ := loop_at h5 hi
 have hφ : φ i = X.φ0 i := h1 i hi0
 have hH2 := h5.set (x := (true, .loop { state := .busy, pending := pj, fn := g, tmps := ts1, params := ps, assign := x, body := y, defers := d1 })) (o' := .loop g env0 ps x y .busy pj) hi rfl trivial ⟨ts1, d1, Hp.put_same _ _ _, hrel1⟩
 rw [hφ] at hb1 hH2
 refine wpS_bind _ _ _ _ (wpS_getLoop hb1 ?_)
 refine wpS_bind _ _ _ _ (wpS_setLoop hb1 rfl ?_)
 have := h φ _ ts h1 (by simpa using h2) (by simpa using h3) (by simpa using h4) hH2 (by simpa using h6)
 rw [hro] at this
 exact this

/-- A loop over a function. -/
theorem TA.rangeFunc {fo : Operand} {ps : Array Tmp} {x y : Code} {g : FuncId} {fs cp : List AV} {Post : AV → List AObj → Prop} (hro : X.ro = none) (hf : opnd gm env fo = .fn g fs cp) (hg : callable P g = true)
  (hc : CallT P T gm g (fs ++ [.yl (A.length + 1)] ++ cp) (A ++ [.raw (.deferred (some [])), .loop X.f env ps x y .ready none]) Post)
  (h : ∀ r A', Post r A' → A.length + 2 ≤ A'.length → ∃ st pj, (st == LoopState.busy) = false ∧ A'[A.length + 1]? = some (.loop X.f env ps x y st pj) ∧ TA X (A.length :: ds') ((pj.map Item.code).toList ++ k) env (A'.set (A.length + 1) .gone)) :
  TA X ds' (.code (.rangeFunc fo ps x y) :: k) env A := fun φ H ts h1 h2 h3 h4 h5 h6 => by
 rw [hro]
 refine X.hT.rangeF X.hkd ?_
 unfold Instr.enterLoop
 dsimp only
 refine wpS_bind _ _ _ _ ?_
 intro r hr
 refine wpS_bind _ _ _ _ ?_
 intro l hl
 have hH1 := h5.push (loc := ⟨r, 0, 0⟩) (o := .raw (.deferred (some []))) (x := (true, .deferred (some []))) hr rfl (Hp.put_same _ _ _)
 have hag1 := agr_upd3 φ A.length ⟨r, 0, 0⟩
 have hlen1 : (A ++ [AObj.raw (.deferred (some []))]).length = A.length + 1 := by simp
 have hH2 := hH1.push (loc := ⟨l, 0, 0⟩) (o := .loop X.f env ps x y .ready none) (x := (true, .loop { state := .ready, pending := none, fn := X.f, tmps := ts, params := ps, assign := x, body := y, defers := r })) hl rfl
  ⟨ts, r, Hp.put_same _ _ _, (h6.mono hag1 (by omega)).mono (agr_upd3 _ _ _) (by omega)⟩
 have hag2 := agr_upd3 (upd3 φ A.length ⟨r, 0, 0⟩) (A.length + 1) ⟨l, 0, 0⟩
 rw [hlen1] at hH2
 have eA : (A ++ [AObj.raw (.deferred (some []))]) ++ [.loop X.f env ps x y .ready none] = A ++ [.raw (.deferred (some [])), .loop X.f env ps x y .ready none] := by simp
 rw [eA] at hH2
 have hag : Agr φ (upd3 (upd3 φ A.length ⟨r, 0, 0⟩) (A.length + 1) ⟨l, 0, 0⟩) A.length := hag1.trans hag2 (by omega)
 have hb1 : (upd3 (upd3 φ A.length ⟨r, 0, 0⟩) (A.length + 1) ⟨l, 0, 0⟩) A.length = ⟨r, 0, 0⟩ := by simp [upd3]
 have hb2 : (upd3 (upd3 φ A.length ⟨r, 0, 0⟩) (A.length + 1) ⟨l, 0, 0⟩) (A.length + 1) = ⟨l, 0, 0⟩ := by simp [upd3]
 generalize hφ2 : upd3 (upd3 φ A.length ⟨r, 0, 0⟩) (A.length + 1) ⟨l, 0, 0⟩ = φ2 at hH2 hag hb1 hb2
 have hlen2 : (A ++ [AObj.raw (.deferred (some [])), .loop X.f env ps x y .ready none]).length = A.length + 2 := by simp
 show wpS P (resolve (evT ts) (ylCall fo l) 0 >>= fun d => invoke d.target d.args) ((H.put r _).put l _) _
 rw [show resolve (evT ts) (ylCall fo l) 0 = Deferred.ofValue (evT ts fo) #[.func (.yield l) #[] #[]] by simp [resolve, ylCall, evT, Act.eval]]
 have hfo := opnd_rel (a := ⟨ts, []⟩) h3 h6 fo
 rw [hf] at hfo
 obtain ⟨xs, ys, e, hr1, hr2⟩ := inv_fn hfo
 have e' : evT ts fo = .func (.func g) xs ys := e
 rw [e']
 refine wpS_callFunc hg _ ?_
 have hyl : RelV φ2 (A.length + 2) (.yl (A.length + 1)) (.func (.yield l) #[] #[]) := by
  have := RelV.yl (φ := φ2) (n := A.length + 2) (i := A.length + 1) (by omega)
  rwa [hb2] at this
 refine hc φ2 X.F _ _ _ _ (h3.mono hag (by omega)) hH2 ?_ ?_
 ·rw [hlen2]
  exact relL_app (relL_app (hr1.mono hag (by omega)) (relL_one hyl)) (hr2.mono hag (by omega))
 ·intro r' A' φ' H' v hp hA' hlen' hH' hr'
  rw [hlen2] at hA' hlen'
  obtain ⟨st, pj, hst, hloop, hTA⟩ := h r' A' hp hlen'
  show T (G (fr X.kd X.f none ts _ (.endRangeFunc l :: k)) X.cs) H'
  refine X.hT.endRangeF ?_
  obtain ⟨ts1, d1, hbl, _⟩ := loop_at hH' hloop
  have e1 : φ' (A.length + 1) = ⟨l, 0, 0⟩ := (hA' _ (by omega)).trans hb2
  have e0 : φ' A.length = ⟨r, 0, 0⟩ := (hA' _ (by omega)).trans hb1
  have hH3 := hH'.set (x := (true, .loop { state := .exhausted, pending := pj, fn := X.f, tmps := ts1, params := ps, assign := x, body := y, defers := d1 })) (o' := .gone) hloop rfl trivial trivial
  rw [e1] at hbl hH3
  refine wpS_bind _ _ _ _ (wpS_getLoop hbl ?_)
  dsimp only
  rw [hst]
  refine wpS_bind _ _ _ _ (wpS_setLoop hbl rfl ?_)
  have hagf : Agr φ φ' A.length := hag.trans hA' (by omega)
  have hds : dsC φ' (A.length :: ds') = { target := .collected r, args := #[] } :: dsC φ ds' := by
   show { target := .collected (φ' A.length).blk, args := #[] } :: dsC φ' ds' = _
   rw [e0]
   congr 1
   unfold dsC
   exact List.map_congr_left fun d hd' => by rw [hagf d (h4 d hd')]
  have := hTA φ' _ ts (h1.trans hagf h2) (by simp; omega) (by simpa using h3.mono hagf (by omega)) (fun d hd => by
   rcases List.mem_cons.1 hd with rfl | hd
   ·simp; omega
   ·have := h4 d hd; simp; omega) hH3 (by simpa using h6.mono hagf (by omega))
  rw [hds, hro] at this
  exact this
end
end Go.Vel
end
section
set_option linter.all false
set_option maxRecDepth 20000
set_option maxHeartbeats 60000000
namespace Go.Vel
open Go Go.Conc

section
variable {P : Program} {gm : Nat → Option Nat} {T : Goroutine → Hp → Prop}

/-- What is not handed over is as it was. -/
theorem Kstep.frame {K Kf R K' : KV} {A A' : List AObj} (hs : Split K Kf R) (hv : View K A) (hn : (keys K).Nodup) (hk : Kstep Kf A K' A') : Kstep K A (K' ++ R) A' := by
 have hp := hs.perm
 have hnd := (keys_perm hp).nodup_iff.1 hn
 rw [keys_app] at hnd
 have hnd' := List.nodup_append.1 hnd
 have hR : View R A := hv.sub fun x hx => hp.symm.subset (by simp [hx])
 have hRl : ∀ x ∈ R, x.1 < A.length ∧ x.1 ∉ keys Kf := fun x hx => ⟨hR.lt (mem_keys hx), fun hm => hnd'.2.2 x.1 hm x.1 (mem_keys hx) rfl⟩
 refine ⟨fun x hx => ?_, ?_, fun j hj => ?_, fun j hj hn => ?_, hk.len⟩
 ·rcases List.mem_append.1 hx with hx | hx
  ·exact hk.view x hx
  ·rw [hk.kept _ (hRl x hx).1 (hRl x hx).2]; exact hR x hx
 ·rw [keys_app]
  refine List.nodup_append.2 ⟨hk.nd, hnd'.2.1, fun a ha b hb e => ?_⟩
  subst e
  obtain ⟨x, hx, rfl⟩ := List.mem_map.1 hb
  rcases hk.own _ ha with h1 | h1
  ·exact (hRl x hx).2 h1
  ·have := (hRl x hx).1; omega
 ·rw [keys_app] at hj
  rcases List.mem_append.1 hj with hj | hj
  ·rcases hk.own j hj with h1 | h1
   ·exact .inl ((keys_perm hp).symm.subset (by rw [keys_app]; exact List.mem_append_left _ h1))
   ·exact .inr h1
  ·exact .inl ((keys_perm hp).symm.subset (by rw [keys_app]; exact List.mem_append_right _ hj))
 ·exact hk.kept j hj fun hm => hn ((keys_perm hp).symm.subset (by rw [keys_app]; exact List.mem_append_left _ hm))

theorem Split.view {K Kf R : KV} {A : List AObj} (hs : Split K Kf R) (hv : View K A) (hn : (keys K).Nodup) : View Kf A ∧ (keys Kf).Nodup := by
 have hp := hs.perm
 have hnd := (keys_perm hp).nodup_iff.1 hn
 rw [keys_app] at hnd
 exact ⟨hv.sub fun x hx => hp.symm.subset (by simp [hx]), (List.nodup_append.1 hnd).1⟩

theorem ex_callF {X : Cx P gm T} {env : List AV} {A : List AObj} {o : Oper} {fo : Operand} {ars : Array Operand} {at_ : Array TypeId} {yv : AV} {args : List AV} {Post : AV → List AObj → Prop} (hop : o.op = .call { callee := .value fo, args := ars, argTypes := at_ })
  (hf : opnd gm env fo = yv) (hargs : ars.toList.map (opnd gm env) = args) (hc : CallF P T gm yv args A Post) : Ex X env A o Post := fun ops i rest k ds φ H ts ho hw h3 h5 h6 hq => by
 refine X.hT.opF X.hkd ho hw (by rw [hop]; rfl) ?_
 have hfo := opnd_rel (a := ⟨ts, []⟩) h3 h6 fo
 rw [hf] at hfo
 unfold execOp
 rw [hop]
 dsimp only
 have hrel : RelL φ A.length args (ars.map (evT ts)) := by
  rw [← hargs]
  exact relL_map (a := ⟨ts, []⟩) h3 h6 ars
 have h := hc φ X.F H _ _ (fr X.kd X.f X.ro ts ds (.inRegion ops (i :: rest) :: k)) X.cs h3 h5 hfo hrel fun r A' φ' H' v hp hA hlen hH' hr => by
  have hfin := fr_finish X.kd X.f X.ro ts ds ops i rest k v
  simp only [ho, Option.bind_some] at hfin
  rw [hfin]
  exact hq r A' φ' H' v hp hA hlen hH' hr
 refine wpS_mono _ _ _ _ ?_ h
 intro nx H' hnx
 cases nx <;> first | exact hnx | exact hnx.elim

variable {Y : KX P gm T} {ds : List Nat} {k : List Item} {env env' : List AV} {K K' : KV} {ops : Array Oper} {i : Nat} {rest L L' : List Nat} {o : Oper} {r : AV} {pend pend' : List Pd}

/-- A call of a function value. -/
theorem exK_callF {fo : Operand} {ars : Array Operand} {at_ : Array TypeId} {yv : AV} {args : List AV} {Kf R : KV} {Post : AV → KV → Prop} (hop : o.op = .call { callee := .value fo, args := ars, argTypes := at_ })
  (hf : opnd gm env fo = yv) (hargs : ars.toList.map (opnd gm env) = args) (hc : CallFK P T gm yv args Kf Post) (hs : Split K Kf R) {Q : AV → KV → Prop} (hq : ∀ r K', Post r K' → Q r (K' ++ R)) : ExK Y env K o Q := fun A hA => by
 obtain ⟨hv, hn⟩ := hs.view hA.view hA.nd
 exact (ex_callF hop hf hargs (hc A hv hn)).mono fun r A' ⟨K', hk, hpost⟩ => ⟨K' ++ R, hk.frame hs hA.view hA.nd, hq r K' hpost⟩

theorem TK.callF' {fo : Operand} {ars : Array Operand} {at_ : Array TypeId} {yv : AV} {args : List AV} {Kf R : KV} {Post : AV → KV → Prop} (ho : ops[i]? = some o) (hw : wantA ops env o = some true) (hop : o.op = .call { callee := .value fo, args := ars, argTypes := at_ })
  (hf : opndO gm env fo = some yv) (hargs : ars.toList.map (opnd gm env) = args) (hc : CallFK P T gm yv args Kf Post) (hs : Split K Kf R)
  (h : ∀ r K', Post r K' → TK Y ds (.inRegion ops rest :: k) (putA env o.dst r) (K' ++ R)) : TK Y ds (.inRegion ops (i :: rest) :: k) env K := TK.ex ho hw (exK_callF hop (opndO_eq hf) hargs hc hs h)
theorem TD.callF' {fo : Operand} {ars : Array Operand} {at_ : Array TypeId} {yv : AV} {args : List AV} {Kf R : KV} {Post : AV → KV → Prop} (s : List Nat) (ho : ops[i]? = some o) (hw : wantA ops (onl s env) o = some true) (hp' : pendOf ops i pend = pend') (hc' : chkC ops pend' L' s i o.dst = true) (hop : o.op = .call { callee := .value fo, args := ars, argTypes := at_ })
  (hf : opndO gm (onl s env) fo = some yv) (hargs : ars.toList.map (opnd gm (onl s env)) = args) (hc : CallFK P T gm yv args Kf Post) (hs : Split K Kf R)
  (h : ∀ r K', Post r K' → (∀ p ∈ pend', ∀ x ∈ p.V, x ∈ K' ++ R) ∧ TD Y ds ops k pend' L' (putA env o.dst r) (K' ++ R)) : TD Y ds ops k pend (i :: L') env K := TD.c s ho hw hp' hc' (exK_callF hop (opndO_eq hf) hargs hc hs h)

/-! ### rounds -/
theorem callFK_yl {main : Bool} (hT : Shut P main T) {i : Nat} {f : FuncId} {env args : List AV} {ps : Array Tmp} {x y : Code} {K : KV} {Post : AV → KV → Prop} (hi : (i, .loop f env ps x y .ready none) ∈ K) (hargs : args.length = ps.size)
  (h : ∀ Y : KX P gm T, Y.X.ro = some (Y.X.φ0 i).blk → i < Y.X.n0 →
   (∀ j env' K' K'' D st pj, Split K' ((i, .loop f env ps x y st pj) :: K'') D → Post (.v (.bool j.isNone)) ((i, .loop f env ps x y (if j.isNone then .ready else .done) j) :: K'') → ∀ A', Kn Y K' A' → Y.X.L j [] env' A') →
   TK Y [] [.code x, .beginRound, .code y] (putAll env (ps.toList.zip args)) K) : CallFK P T gm (.yl i) args K Post := by
 intro A hv hn
 refine callF_yl hT (hv.get hi) hargs fun X hro hi0 hret => ?_
 refine h ⟨X, A, keys K⟩ hro hi0 (fun j env' K' K'' D st pj hsp hp A' hA' => ?_) A ⟨hv, hn, fun i hi => .inl hi, fun _ _ _ => rfl, Nat.le_refl _⟩
 have hpm := hsp.perm
 obtain ⟨hv', hn'⟩ := hsp.view hA'.view hA'.nd
 refine hret j env' A' st pj (hv'.get (by simp)) ⟨_, ?_, hp⟩
 have hst : Kstep ((i, .loop f env ps x y st pj) :: K'') A' ((i, .loop f env ps x y (if j.isNone then .ready else .done) j) :: K'') (A'.set i (.loop f env ps x y (if j.isNone then .ready else .done) j)) := .set hv' hn' .head
 have hall := hst.frame hsp hA'.view hA'.nd
 refine ⟨hst.view, hst.nd, fun t ht => ?_, fun t ht1 ht2 => ?_, Nat.le_trans hA'.len hst.len⟩
 ·rcases hst.own t ht with h1 | h1
  ·obtain ⟨z, hz, rfl⟩ := List.mem_map.1 h1
   exact hA'.own _ (mem_keys (hpm.symm.subset (List.mem_append_left _ hz)))
  ·exact .inr (Nat.le_trans hA'.len h1)
 ·have hne : i ≠ t := fun e => ht2 (e ▸ mem_keys' hi)
  rw [List.getElem?_set_ne hne]
  exact hA'.kept t ht1 ht2

theorem TK.beginRound {i : Nat} {g : FuncId} {env0 : List AV} {ps : Array Tmp} {x y : Code} {pj : Option Code} (hro : Y.X.ro = some (Y.X.φ0 i).blk) (hi0 : i < Y.X.n0) (hu : Upd K i (.loop g env0 ps x y .ready pj) i (.loop g env0 ps x y .busy pj) K') (h : TK Y ds k env K') : TK Y ds (.beginRound :: k) env K := fun A hA =>
 TA.beginRound hro hi0 (hA.view.get hu.mem) (h _ (hA.step (.set hA.view hA.nd hu)))

theorem TK.rangeFunc {fo : Operand} {ps : Array Tmp} {x y : Code} {g : FuncId} {fs cp : List AV} {Kf R : KV} {Post : Nat → AV → KV → Prop} {Q : Option Code → KV → Prop} (hro : Y.X.ro = none) (hf : opndO gm env fo = some (.fn g fs cp)) (hg : callable P g = true) (hs : Split K Kf R)
  (hc : ∀ l, l ∉ keys K → CallK P T gm g (fs ++ [.yl l] ++ cp) ((l, .loop Y.X.f env ps x y .ready none) :: Kf) (Post l))
  (hpost : ∀ l r K', Post l r K' → ∃ st pj K'', K' = (l, .loop Y.X.f env ps x y st pj) :: K'' ∧ (st == LoopState.busy) = false ∧ Q pj K'')
  (h : ∀ d pj K'', Q pj K'' → TK Y (d :: ds) ((pj.map Item.code).toList ++ k) env ((d, .raw (.deferred (some []))) :: (K'' ++ R))) : TK Y ds (.code (.rangeFunc fo ps x y) :: k) env K := fun A hA => by
 have hd : A.length ∉ keys K := fun hm => absurd (hA.view.lt hm) (Nat.lt_irrefl _)
 have hl : A.length + 1 ∉ keys K := fun hm => by have := hA.view.lt hm; omega
 have k1 := Kstep.push hA.view hA.nd (.raw (.deferred (some [])))
 have k2 := Kstep.push k1.view k1.nd (.loop Y.X.f env ps x y .ready none)
 have eA : (A ++ [AObj.raw (.deferred (some []))]) ++ [.loop Y.X.f env ps x y .ready none] = A ++ [.raw (.deferred (some [])), .loop Y.X.f env ps x y .ready none] := by simp
 rw [eA] at k2
 have el : (A ++ [AObj.raw (.deferred (some []))]).length = A.length + 1 := by simp
 rw [el] at k2
 have hA2 := (hA.step k1).step k2
 have hs2 : Split ((A.length + 1, .loop Y.X.f env ps x y .ready none) :: (A.length, .raw (.deferred (some []))) :: K) ((A.length + 1, .loop Y.X.f env ps x y .ready none) :: Kf) ((A.length, .raw (.deferred (some []))) :: R) := .left (.right hs)
 obtain ⟨hvf, hnf⟩ := hs2.view k2.view k2.nd
 refine TA.rangeFunc hro (opndO_eq hf) hg (hc _ hl _ hvf hnf) fun r A' ⟨K', hk, hp⟩ _ => ?_
 obtain ⟨st, pj, K'', rfl, hst, hq⟩ := hpost _ _ _ hp
 have hA3 := hA2.step (hk.frame hs2 k2.view k2.nd)
 refine ⟨st, pj, hst, hA3.view.get (by simp), ?_⟩
 refine h _ pj K'' hq _ ?_
 have hnd3 := hA3.nd
 rw [List.cons_append, keys_cons, List.nodup_cons] at hnd3
 have hperm : (K'' ++ (A.length, AObj.raw (.deferred (some []))) :: R).Perm ((A.length, .raw (.deferred (some []))) :: (K'' ++ R)) := List.perm_middle
 refine ⟨fun z hz => ?_, ?_, fun t ht => ?_, fun t ht1 ht2 => ?_, by simpa using hA3.len⟩
 ·have hz' := hperm.symm.subset hz
  have hne : A.length + 1 ≠ z.1 := fun e => hnd3.1 (by have := mem_keys hz'; rw [← e] at this; exact this)
  rw [List.getElem?_set_ne hne]
  exact hA3.view z (List.mem_cons_of_mem _ hz')
 ·exact (keys_perm hperm).nodup_iff.1 hnd3.2
 ·exact hA3.own t (List.mem_cons_of_mem _ ((keys_perm hperm).symm.subset ht))
 ·have hlen := hA.len
  rw [List.getElem?_set_ne (by omega)]
  exact hA3.kept t ht1 ht2

/-! ### the end of a frame in which functions were ranged over -/
def clr : List Nat → List AObj → List AObj
 | [], A => A
 | d :: ds, A => clr ds (A.set d .gone)
theorem clr_len : ∀ (ds : List Nat) (A : List AObj), (clr ds A).length = A.length
 | [], _ => rfl
 | d :: ds, A => by rw [clr, clr_len ds]; simp
theorem clr_get : ∀ (ds : List Nat) (A : List AObj) (t : Nat), t ∉ ds → (clr ds A)[t]? = A[t]?
 | [], _, _, _ => rfl
 | d :: ds, A, t, h => by
  rw [clr, clr_get ds _ t (fun hm => h (by simp [hm])), List.getElem?_set_ne (fun e => h (by simp [e]))]

theorem take_all {main : Bool} (hT : Shut P main T) {f : FuncId} {ts : Array Value} {φ : Nat → Loc3} {F : Hp} {cs : List Frame} {todo : List Item} : ∀ (ds : List Nat) (A : List AObj) (H : Hp), (∀ d ∈ ds, A[d]? = some (.raw (.deferred (some [])))) → ds.Nodup → RelH φ A F H →
  (∀ H', RelH φ (clr ds A) F H' → T (G { fr .normal f none ts [] todo with mode := .returning } cs) H') → T (G { fr .normal f none ts (dsC φ ds) todo with mode := .returning } cs) H
 | [], A, H, _, _, hH, hq => hq H hH
 | d :: ds, A, H, hd, hn, hH, hq => by
  have h0 := hd d (by simp)
  have hb : H (φ d).blk = some (true, .deferred (some [])) := hH.obj d _ h0
  refine hT.takeF ?_
  refine wpS_bind _ _ _ _ ⟨true, _, hb, rfl, rfl, ?_⟩
  refine wpS_bind _ _ _ _ ⟨_, hb, rfl, rfl, ?_⟩
  have hH2 := hH.set (x := (true, .deferred none)) (o' := .gone) h0 rfl trivial trivial
  obtain ⟨hn1, hn2⟩ := List.nodup_cons.1 hn
  exact take_all hT ds _ _ (fun d' hd' => by
   have hne : d ≠ d' := fun e => hn1 (by rw [e]; exact hd')
   rw [List.getElem?_set_ne hne]; exact hd d' (by simp [hd'])) hn2 hH2 hq

theorem callT_enter3 {main : Bool} (hT : Shut P main T) {g : FuncId} {fn : Func} {c : Code} {args : List AV} {A : List AObj} {Post : AV → List AObj → Prop} (hf : P.funcs[g]? = some fn) (hb : fn.body = some c)
  (h : ∀ X : Cx P gm T, X.ro = none → (∀ j ds env A' r, (j = none ∨ j = some .ret) → (∀ d ∈ ds, A'[d]? = some (.raw (.deferred (some [])))) → ds.Nodup → resA P fn.results.toList env (clr ds A') = some r → Post r (clr ds A') → X.L j ds env A') →
   TA X [] [.code c] (args ++ List.replicate (fn.ntmps - args.length) .any) A) : CallT P T gm g args A Post := by
 intro φ F H vs c0 cs hg hH hargs hfin
 have hleave : ∀ (k : List Item) (ds : List Nat) (env : List AV) (A' : List AObj) (φ' : Nat → Loc3) (H' : Hp) (ts : Array Value) (r : AV), (∀ d ∈ ds, A'[d]? = some (.raw (.deferred (some [])))) → ds.Nodup → resA P fn.results.toList env (clr ds A') = some r → Post r (clr ds A') → Agr φ φ' A.length → A.length ≤ A'.length → RelH φ' A' F H' → RelL φ' A'.length env ts →
   T (G { fr .normal g none ts (dsC φ' ds) k with mode := .returning } (c0 :: cs)) H' := fun k ds env A' φ' H' ts r hd hn hr hp hA hlen hH' hE =>
  take_all hT ds A' H' hd hn hH' fun H2 hH2 =>
   hT.leaveF hf (wpS_results hH2 (by rw [clr_len]; exact hE) hr fun y hy => hfin r _ φ' H2 y hp hA (by rw [clr_len]; exact hlen) hH2 hy)
 let X : Cx P gm T := {
  main, hT, φ0 := φ, n0 := A.length, F, kd := .normal, hkd := (fun h => by cases h), f := g, ro := none, cs := c0 :: cs
  L := fun j ds env A' => (j = none ∨ j = some .ret) ∧ (∀ d ∈ ds, A'[d]? = some (.raw (.deferred (some [])))) ∧ ds.Nodup ∧ ∃ r, resA P fn.results.toList env (clr ds A') = some r ∧ Post r (clr ds A')
  hL := by
   rintro j k ds env A' φ' H' ts hl ⟨hj, hd, hn, r, hr, hp⟩ hA hlen hg' _ hH' hE
   cases hl with
   | fin => exact hT.ctlF rfl (fun _ => sf_end) rfl (hleave _ ds env A' φ' H' ts r hd hn hr hp hA hlen hH' hE)
   | ret k => exact hT.ctlF rfl (fun _ => sf_ret) rfl (hleave _ ds env A' φ' H' ts r hd hn hr hp hA hlen hH' hE)
   | exit id k _ => rcases hj with hj | hj <;> cases hj }
 rw [fr_enter vs hf hb]
 exact h X rfl (fun j ds env A' r hj hd hn hr hp => ⟨hj, hd, hn, r, hr, hp⟩) φ H _ (Agr.refl _ _) (Nat.le_refl _) hg (fun d hd => by cases hd) hH (relL_undef hargs _)

theorem callK_enter3 {main : Bool} (hT : Shut P main T) {g : FuncId} {fn : Func} {c : Code} {args : List AV} {Post : AV → KV → Prop} (hf : P.funcs[g]? = some fn) (hb : fn.body = some c)
  (h : ∀ Y : KX P gm T, Y.X.ro = none → (∀ j ds env K' K1 K'' D1 D2 r, (j = none ∨ j = some .ret) → Split K' K1 D1 → ds.Nodup → (∀ d ∈ ds, (d, .raw (.deferred (some []))) ∈ D1) → Split K1 K'' D2 → (∀ A', View K1 A' → resA P fn.results.toList env A' = some r) → Post r K'' → ∀ A', Kn Y K' A' → Y.X.L j ds env A') →
   TK Y [] [.code c] (args ++ List.replicate (fn.ntmps - args.length) .any) K) : CallK P T gm g args K Post := by
 intro A hv hn
 refine callT_enter3 hT hf hb fun X hro hret => ?_
 refine h ⟨X, A, keys K⟩ hro (fun j ds env K' K1 K'' D1 D2 r hj hs1 hdn hds hs2 hres hp A' hA' => ?_) A ⟨hv, hn, fun i hi => .inl hi, fun _ _ _ => rfl, Nat.le_refl _⟩
 have hp1 := hs1.perm
 have hnd := (keys_perm hp1).nodup_iff.1 hA'.nd
 rw [keys_app] at hnd
 have hnd' := List.nodup_append.1 hnd
 have hdk : ∀ d ∈ ds, d ∈ keys D1 := fun d hd => mem_keys' (hds d hd)
 have hv1 : View K1 (clr ds A') := fun x hx => by
  rw [clr_get _ _ _ (fun hm => hnd'.2.2 x.1 (mem_keys hx) x.1 (hdk _ hm) rfl)]
  exact hA'.view x (hp1.symm.subset (by simp [hx]))
 obtain ⟨hv2, hn2⟩ := hs2.view hv1 hnd'.1
 refine hret j ds env A' r hj (fun d hd => hA'.view _ (hp1.symm.subset (List.mem_append_right _ (hds d hd)))) hdn (hres _ hv1) ⟨K'', ⟨hv2, hn2, fun t ht => ?_, fun t ht1 ht2 => ?_, ?_⟩, hp⟩
 ·obtain ⟨z, hz, rfl⟩ := List.mem_map.1 ht
  refine hA'.own _ (mem_keys (hp1.symm.subset ?_))
  exact List.mem_append_left _ (hs2.perm.symm.subset (List.mem_append_left _ hz))
 ·rw [clr_get _ _ _ (fun hm => ?_)]
  ·exact hA'.kept t ht1 ht2
  ·have : t ∈ keys K' := (keys_perm hp1).symm.subset (by rw [keys_app]; exact List.mem_append_right _ (hdk t hm))
   rcases hA'.own t this with h1 | h1
   ·exact ht2 h1
   ·have h2 : A.length ≤ t := h1
    have h3 : t < A.length := ht1
    omega
 ·rw [clr_len]; exact hA'.len
end
end Go.Vel
end
section
set_option linter.all false
set_option maxRecDepth 20000
set_option maxHeartbeats 60000000
namespace Go.Vel
open Go Go.Conc

section
variable {P : Program} {gm : Nat → Option Nat} {T : Goroutine → Hp → Prop} {Y : KX P gm T} {ds : List Nat} {k : List Item} {V : KV} {env env' : List AV} {K K' : KV} {ops : Array Oper} {i : Nat} {rest : List Nat} {o : Oper} {r : AV} {pend pend' : List Pd} {L' : List Nat}

/-! ### maps from numbers to numbers -/
def IntEs (es : List MapEntry) : Prop := ∀ en ∈ es, ∃ k v, en.key = .int .i64 k ∧ en.val = .int .i64 v
def valOf : Value → Int | .int _ v => v | _ => 0
def fiM (n : Int) : List MapEntry → Nat → Option (Nat × Value)
 | [], _ => none
 | en :: es, i => if valOf en.key = n then some (i, en.val) else fiM n es (i + 1)
def getM (n : Int) : List MapEntry → Int
 | [] => 0
 | en :: es => if valOf en.key = n then valOf en.val else getM n es
theorem findNow_int {ik : IntKind} {n : Int} : ∀ (es : List MapEntry) (i : Nat), IntEs es → Instr.findNow (.int ik) (.int .i64 n) es i = some (fiM n es i)
 | [], _, _ => rfl
 | en :: es, i, h => by
  obtain ⟨k, v, hk, hv⟩ := h en (by simp)
  have ih := findNow_int es (i + 1) (fun e he => h e (by simp [he])) (ik := ik) (n := n)
  simp only [Instr.findNow, fiM, hk, Instr.sameNow, valOf, if_true]
  by_cases e : n = k
  ·subst e; simp
  ·have e' : (n == k) = false := by simpa using e
   rw [e', if_neg (fun h => e h.symm)]
   exact ih
theorem getM_fiM {n : Int} : ∀ (es : List MapEntry) (i : Nat), getM n es = match fiM n es i with | some (_, v) => valOf v | none => 0
 | [], _ => rfl
 | en :: es, i => by
  simp only [getM, fiM]
  split
  ·rfl
  ·exact getM_fiM es (i + 1)
theorem fiM_val {n : Int} : ∀ (es : List MapEntry) (i : Nat) {j : Nat} {v : Value}, IntEs es → fiM n es i = some (j, v) → v = .int .i64 (valOf v) ∧ i ≤ j ∧ ∃ en, es[j - i]? = some en ∧ en.key = .int .i64 n
 | [], _, _, _, _, h => by cases h
 | en :: es, i, j, v, hI, h => by
  simp only [fiM] at h
  obtain ⟨k, v', hk, hv⟩ := hI en (by simp)
  split at h
  ·rename_i e
   cases h
   rw [hk] at e
   simp only [valOf] at e
   subst e
   exact ⟨by rw [hv]; rfl, Nat.le_refl _, en, by simp, hk⟩
  ·obtain ⟨h1, h2, en', h3, h4⟩ := fiM_val es (i + 1) (fun e he => hI e (by simp [he])) h
   exact ⟨h1, by omega, en', by rw [show j - i = (j - (i + 1)) + 1 by omega]; simpa using h3, h4⟩

/-- A map's object. -/
def MapOk (ob : Obj) (f : Int → Int) : Prop := ∃ es clock, ob = .map es clock ∧ IntEs es.toList ∧ ∀ n, getM n es.toList = f n
def upM (ob : Obj) (n v : Int) : Obj := match ob with
 | .map es clock => match fiM n es.toList 0 with
  | some (i, _) => .map (es.modify i fun e => { e with key := .int .i64 n, val := .int .i64 v }) clock
  | none => .map (es.push { key := .int .i64 n, val := .int .i64 v, born := clock }) (clock + 1)
 | ob => ob
theorem mapOk_nil : MapOk (.map #[] 0) fun _ => 0 := ⟨#[], 0, rfl, fun _ h => by simp at h, fun _ => rfl⟩

theorem getM_mod {n v : Int} : ∀ (es : List MapEntry) (i j : Nat) (w : Value), IntEs es → fiM n es i = some (j, w) → ∀ m, getM m (es.modify (j - i) fun e => { e with key := .int .i64 n, val := .int .i64 v }) = if m = n then v else getM m es
 | [], _, _, _, _, h, _ => by cases h
 | en :: es, i, j, w, hI, h, m => by
  obtain ⟨k, v', hk, hv⟩ := hI en (by simp)
  simp only [fiM] at h
  split at h
  ·rename_i e
   cases h
   rw [Nat.sub_self, List.modify_zero_cons]
   show (if n = m then v else getM m es) = if m = n then v else (if valOf en.key = m then valOf en.val else getM m es)
   by_cases e2 : m = n
   ·subst e2; simp
   ·rw [if_neg (fun h : n = m => e2 h.symm), if_neg e2, e, if_neg (fun h : n = m => e2 h.symm)]
  ·rename_i hne
   have hle := (fiM_val es (i + 1) (fun e he => hI e (by simp [he])) h).2.1
   rw [show j - i = (j - (i + 1)) + 1 by omega, List.modify_succ_cons]
   simp only [getM]
   rw [getM_mod es (i + 1) j w (fun e he => hI e (by simp [he])) h m]
   by_cases e2 : m = n
   ·subst e2; rw [if_neg hne, if_pos rfl, if_pos rfl]
   ·rw [if_neg e2, if_neg e2]
theorem getM_app {n v : Int} {c : Nat} : ∀ (es : List MapEntry) (i : Nat), fiM n es i = none → ∀ m, getM m (es ++ [{ key := .int .i64 n, val := .int .i64 v, born := c }]) = if m = n then v else getM m es
 | [], _, _, m => by
  show (if n = m then v else 0) = if m = n then v else 0
  by_cases e : m = n
  ·subst e; simp
  ·rw [if_neg (fun h : n = m => e h.symm), if_neg e]
 | en :: es, i, h, m => by
  simp only [fiM] at h
  split at h
  ·cases h
  ·rename_i hne
   simp only [List.cons_append, getM]
   rw [getM_app es (i + 1) h m]
   by_cases e : m = n
   ·subst e; rw [if_neg hne, if_pos rfl, if_pos rfl]
   ·rw [if_neg e, if_neg e]
theorem upM_ok {ob : Obj} {f : Int → Int} {n v : Int} (h : MapOk ob f) : MapOk (upM ob n v) fun m => if m = n then v else f m := by
 obtain ⟨es, c, rfl, hI, hf⟩ := h
 unfold upM
 dsimp only
 cases e : fiM n es.toList 0 with
 | none =>
  refine ⟨_, _, rfl, fun en he => ?_, fun m => ?_⟩
  ·rw [Array.toList_push] at he
   rcases List.mem_append.1 he with he | he
   ·exact hI en he
   ·rw [List.mem_singleton.1 he]; exact ⟨n, v, rfl, rfl⟩
  ·rw [Array.toList_push, getM_app _ 0 e, hf]
 | some x =>
  obtain ⟨j, w⟩ := x
  refine ⟨_, _, rfl, fun en he => ?_, fun m => ?_⟩
  ·rw [Array.toList_modify] at he
   obtain ⟨t, ht⟩ := List.mem_iff_getElem?.1 he
   rw [List.getElem?_modify] at ht
   cases e2 : es.toList[t]? with
   | none => rw [e2] at ht; cases ht
   | some e0 =>
    rw [e2] at ht
    simp only [Option.map_eq_map, Option.map_some, Option.some.injEq] at ht
    split at ht
    ·subst ht; exact ⟨n, v, rfl, rfl⟩
    ·subst ht; exact hI _ (List.mem_of_getElem? e2)
  ·rw [Array.toList_modify]
   have := getM_mod (v := v) es.toList 0 j w hI e m
   rw [Nat.sub_zero] at this
   rw [this, hf]

theorem inv_map {φ : Nat → Loc3} {n i : Nat} {y : Value} (h : RelV φ n (.map i) y) : i < n ∧ y = .map (some (φ i).blk) := by cases h; exact ⟨‹_›, rfl⟩
theorem wpS_checkKey {H : Hp} {e : Bool} {t : TypeId} {v : Value} {ik : IntKind} (h : P.underlying t = some (.int ik)) {Q : Unit → Hp → Prop} (hq : Q () H) : wpS P (Instr.checkKey e 10000 t v) H Q := by
 show wpS P (Instr.checkKey e (9999 + 1) t v) H Q
 unfold Instr.checkKey
 refine wpS_bind_eq _ _ _ (wpS_underlying h ?_)
 dsimp only
 exact hq
theorem wpS_findKey {H : Hp} {t : TypeId} {n : Int} {ik : IntKind} (h : P.underlying t = some (.int ik)) {es : List MapEntry} (hI : IntEs es) {Q : Option (Nat × Value) → Hp → Prop} (hq : Q (fiM n es 0) H) : wpS P (Instr.findKey t (.int .i64 n) es) H Q := by
 unfold Instr.findKey
 refine wpS_bind_eq _ _ _ (wpS_underlying h ?_)
 rw [findNow_int es 0 hI]
 exact hq

theorem n_makeMap {t : TypeId} (ho : o.op = .makeMap t none) : Nk P gm env V o (fun j => .map j) (.raw (.map #[] 0)) := fun A _ φ F H a hg hH hE => by
 unfold execOp; rw [ho]
 refine wpS_v ?_
 unfold Instr.makeMap
 refine wpS_bind_eq _ _ _ ?_
 intro r hr
 refine ⟨_, upd3 φ A.length ⟨r, 0, 0⟩, .inl rfl, agr_upd3 _ _ _, by simp, hH.push hr rfl (Hp.put_same _ _ _), ?_⟩
 have := RelV.map (φ := upd3 φ A.length ⟨r, 0, 0⟩) (n := (A ++ [AObj.raw (.map #[] 0)]).length) (i := A.length) (by simp)
 simpa [upd3] using this
theorem q_lookup {t kt et : TypeId} {x y : Operand} {j : Nat} {n : Int} {ob : Obj} {f : Int → Int} {ti : TypeInfo} (ho : o.op = .lookup t x y false) (hx : opndO gm env x = some (.map j)) (hy : opndO gm env y = some (.v (.int .i64 n))) (ht : P.underlying t = some (.map kt et)) (hk : P.underlying kt = some (.int .i64)) (hi : P.info? et = some ti) (hz : ti.zero = some (.int .i64 0)) (hm : (j, .raw ob) ∈ V) (hf : MapOk ob f) : Qk P gm env V o (.v (.int .i64 (f n))) := fun A hA φ F H a hg hH hE => by
 unfold execOp; rw [ho]
 refine wpS_v ?_
 have h1 := opnd_rel hg hE x
 rw [opndO_eq hx] at h1
 obtain ⟨hj, e1⟩ := inv_map h1
 have h2 := opnd_rel hg hE y
 rw [opndO_eq hy] at h2
 rw [e1, inv_v h2]
 obtain ⟨es, c, rfl, hI, hfn⟩ := hf
 have hb : H (φ j).blk = some (true, .map es c) := hH.obj j _ (hA.get hm)
 unfold Instr.lookup
 refine wpS_bind_eq _ _ _ (wpS_underlying ht ?_)
 dsimp only
 refine wpS_bind_eq _ _ _ ?_
 refine ⟨true, _, hb, rfl, rfl, ?_⟩
 refine wpS_bind_eq _ _ _ ?_
 rw [wpS_pure]
 refine wpS_bind_eq _ _ _ (wpS_checkKey hk ?_)
 refine wpS_bind_eq _ _ _ (wpS_findKey hk hI ?_)
 have hg' := getM_fiM (n := n) es.toList 0
 cases e : fiM n es.toList 0 with
 | none =>
  rw [e] at hg'
  refine wpS_bind_eq _ _ _ (wpS_zeroValue hi hz ?_)
  refine OpPost.quiet hH ?_
  rw [← hfn n, hg']
  exact .v _
 | some z =>
  obtain ⟨i, v⟩ := z
  rw [e] at hg'
  refine OpPost.quiet hH ?_
  have := (fiM_val es.toList 0 hI e).1
  rw [← hfn n, hg']
  dsimp only
  rw [← this]
  exact .v _
theorem s_mapUpdate {t kt et : TypeId} {x y z : Operand} {j : Nat} {n v : Int} {ob : Obj} {f : Int → Int} (ho : o.op = .mapUpdate t x y z) (hx : opndO gm env x = some (.map j)) (hy : opndO gm env y = some (.v (.int .i64 n))) (hz : opndO gm env z = some (.v (.int .i64 v))) (ht : P.underlying t = some (.map kt et)) (hk : P.underlying kt = some (.int .i64)) (hm : (j, .raw ob) ∈ V) (hf : MapOk ob f) :
  ∀ A, View V A → OpOk P gm env A o .any (A.set j (.raw (upM ob n v))) := fun A hA φ F H a hg hH hE => by
 unfold execOp; rw [ho]
 refine wpS_u ?_
 have h1 := opnd_rel hg hE x
 rw [opndO_eq hx] at h1
 obtain ⟨hj, e1⟩ := inv_map h1
 have h2 := opnd_rel hg hE y
 rw [opndO_eq hy] at h2
 have h3 := opnd_rel hg hE z
 rw [opndO_eq hz] at h3
 rw [e1, inv_v h2, inv_v h3]
 obtain ⟨es, c, rfl, hI, hfn⟩ := hf
 have hb : H (φ j).blk = some (true, .map es c) := hH.obj j _ (hA.get hm)
 have hend : ∀ o', upM (.map es c) n v = o' → OpPost φ A F .any (A.set j (.raw (upM (.map es c) n v))) .skip (H.put (φ j).blk (true, o')) := fun o' ho' => by
  subst ho'
  exact ⟨undef, φ, .inr ⟨rfl, rfl⟩, Agr.refl _ _, by simp, hH.set (hA.get hm) rfl trivial (Hp.put_same _ _ _), .any _⟩
 unfold Instr.mapUpdate
 refine wpS_bind_eq _ _ _ (wpS_underlying ht ?_)
 dsimp only
 refine wpS_bind_eq _ _ _ ?_
 refine ⟨true, _, hb, rfl, rfl, ?_⟩
 refine wpS_bind_eq _ _ _ (wpS_checkKey hk ?_)
 refine wpS_bind_eq _ _ _ (wpS_findKey hk hI ?_)
 cases e : fiM n es.toList 0 with
 | none =>
  refine ⟨_, hb, rfl, rfl, ?_⟩
  exact hend _ (by unfold upM; dsimp only; rw [e])
 | some w =>
  obtain ⟨i, u⟩ := w
  obtain ⟨_, _, en, he1, he2⟩ := fiM_val es.toList 0 hI e
  rw [Nat.sub_zero, Array.getElem?_toList] at he1
  dsimp only
  refine wpS_bind_eq _ _ _ ?_
  rw [he1]
  simp only [Option.map_some, Option.getD_some, he2]
  unfold Instr.keyThatStays
  rw [if_pos (by show Instr.sameBits (9999 + 1) _ _ = true; simp [Instr.sameBits])]
  refine ⟨_, hb, rfl, rfl, ?_⟩
  exact hend _ (by unfold upM; dsimp only; rw [e])

theorem TK.newM {ob : AObj} {envf : Nat → List AV} (ho : ops[i]? = some o) (hd : isDefer o.op = false) (hw : wantA ops env o = some true) (hq : Nk P gm env K o (fun j => .map j) ob) (he : ∀ j, putA env o.dst (.map j) = envf j) (h : ∀ j, j ∉ keys K → TK Y ds (.inRegion ops rest :: k) (envf j) ((j, ob) :: K)) : TK Y ds (.inRegion ops (i :: rest) :: k) env K := TK.new (f := fun j => .map j) ho hd hw hq he h

/-! ### a slice of nothing in a cell -/
theorem TK.virtC {t e : TypeId} {rw' : Bool} {x : Option Addr} {size j : Nat} {K' : Nat → KV} (hu : ∀ j', Upd K j (.cells [.v (.slice x 0 0)] t rw') j (.cells [.row j' 0] t rw') (K' j')) (h : ∀ j', j' ∉ keys K → TK Y ds k env ((j', .row [] e size) :: K' j')) : TK Y ds k env K := fun A hA φ H ts h1 h2 h3 h4 h5 h6 => by
 have hk : A.length ∉ keys K := fun hm => absurd (hA.view.lt hm) (Nat.lt_irrefl _)
 have hH := h5.virt e size
 have hag := agr_upd3 φ A.length ⟨0, 0, 0⟩
 have hlen : (A ++ [AObj.row [] e size]).length = A.length + 1 := by simp
 have hds : dsC (upd3 φ A.length ⟨0, 0, 0⟩) ds = dsC φ ds := by
  unfold dsC
  exact List.map_congr_left fun d hd' => by rw [hag d (h4 d hd')]
 have hj := hA.view.get (hu A.length).mem
 have hjl : j < A.length := (List.getElem?_eq_some_iff.1 hj).1
 have hj2 : (A ++ [AObj.row [] e size])[j]? = some (.cells [.v (.slice x 0 0)] t rw') := by rw [List.getElem?_append_left hjl]; exact hj
 have hstep := hA.step (.push hA.view hA.nd (.row [] e size))
 have hstep2 := hstep.step (.set hstep.view hstep.nd (Upd.tail (hu A.length)))
 rw [← hds]
 refine h _ hk _ hstep2 _ H ts (h1.trans hag h2) (by simp; omega) (by simpa using h3.mono hag (by omega)) (fun d hd => by have := h4 d hd; simp; omega) (hH.turn hj2 (fun ho hl => ?_) (fun h => h) (fun _ => rfl) (fun hs => by simp [sol])) (by simpa using h6.mono hag (by omega))
 obtain ⟨rw2, cur, fz, q1, q2, q3⟩ := ho (by simp)
 refine ⟨rw2, cur, fz, q1, q2, fun t' a ha => ?_⟩
 cases t' with
 | zero =>
  simp only [List.getElem?_cons_zero, Option.some.injEq] at ha
  subst ha
  obtain ⟨y, hy, hr⟩ := q3 0 _ rfl
  refine ⟨y, hy, ?_⟩
  rw [inv_v hr]
  refine .row (by omega) (by simp) ?_
  unfold rowV
  simp [upd3]
 | succ t' => simp at ha

/-! ### whether a slice is nil -/
theorem wpS_eqNil {H : Hp} {t e : TypeId} {b : Option Addr} {n c : Nat} (ht : P.underlying t = some (.slice e)) {Q : Value → Hp → Prop} (hq : Q (.bool b.isNone) H) : wpS P (binOp .eql t (.slice b n c) (.slice none 0 0)) H Q := by
 show wpS P (Op.equalIn (9999 + 1) t (.slice b n c) (.slice none 0 0) >>= fun v => pure (Value.bool v)) H Q
 refine wpS_bind_eq _ _ _ ?_
 unfold Op.equalIn
 refine wpS_bind_eq _ _ _ (wpS_underlying ht ?_)
 cases b <;> exact hq
theorem TK.nilT {t e yt : TypeId} {x : Operand} {j off len : Nat} (ho : ops[i]? = some o) (hop : o.op = .binOp .eql t x (.const (.slice none 0 0)) yt) (hw : wantA ops env o = some true) (hx : opndO gm env x = some (.sl j off len)) (ht : P.underlying t = some (.slice e))
  (h : ∀ b : Bool, (b = true → len = 0) → TK Y ds (.inRegion ops rest :: k) (putA env o.dst (.v (.bool b))) K) : TK Y ds (.inRegion ops (i :: rest) :: k) env K := fun A hA φ H ts h1 h2 h3 h4 h5 h6 => by
 refine Y.X.hT.opF Y.X.hkd ho (wantA_ok h6 hw) (by rw [hop]; rfl) ?_
 have hr := opnd_rel (a := ⟨ts, []⟩) h3 h6 x
 rw [opndO_eq hx] at hr
 obtain ⟨hj, cap, b, hl, hb, ey⟩ := inv_sl hr
 unfold execOp; rw [hop]; dsimp only
 have e1 : evT ts x = .slice b len cap := ey
 rw [e1]
 refine wpS_v ?_
 refine wpS_bind_eq _ _ _ ?_
 show wpS P (eqGuard .eql t x _ (.slice b len cap) (.slice none 0 0)) H _
 unfold eqGuard
 refine wpS_eqNil ht ?_
 refine h b.isNone (fun hn => ?_) A hA φ H _ h1 h2 h3 h4 h5 (put_rel (a := ⟨ts, []⟩) h6 (.v _) o.dst)
 cases b with
 | none =>
  rcases Nat.eq_zero_or_pos len with h | h
  ·exact h
  ·cases hb h
 | some _ => cases hn

/-! ### nothing is appended -/
theorem q_app0 {s x : Operand} {t e : TypeId} {ti : TypeInfo} {j n : Nat} (ho : o.op = .call { callee := .builtin .append, args := #[s, x], argTypes := #[t, t] }) (ht : P.underlying t = some (.slice e)) (hi : P.info? e = some ti) (hs : opndO gm env s = some (.row j n)) {u : AV} (hx : opndO gm env x = some u) (hl : lenA u = some 0) : Qk P gm env V o (.row j n) := fun A _ φ F H a hg hH hE => by
 rw [execOp_builtin ho]
 have hs' := opnd_rel hg hE s
 rw [opndO_eq hs] at hs'
 obtain ⟨h1, h2, h3⟩ := inv_row hs'
 obtain ⟨b, c, es⟩ := rowV_len h2 h3
 obtain ⟨b', c', ex⟩ := lenA_rel hl (opndO_eq hx ▸ opnd_rel hg hE x)
 have hcap : n ≤ c := by
  unfold rowV at h3
  split at h3
  ·rename_i e0
   have : n = 0 := by omega
   omega
  ·rw [es] at h3; cases h3; exact h2
 have hend : OpPost φ A F (.row j n) A (.value (.slice b n c)) H := OpPost.quiet hH (es ▸ hs')
 simp only [builtin, List.map_toArray, List.map_cons, List.map_nil]
 refine wpS_v ?_
 rw [es, ex]
 unfold Builtin.append_
 show wpS P (underlying t >>= _) H _
 refine wpS_bind_eq _ _ _ (wpS_underlying ht ?_)
 dsimp only
 refine wpS_bind_eq _ _ _ (wpS_sizeOf hi ?_)
 refine wpS_bind_eq _ _ _ ?_
 refine wpS_underlying (t := t) ht ?_
 dsimp only
 refine wpS_bind_eq _ _ _ ?_
 rw [wpS_pure]
 simp only [Bool.false_eq_true, if_false, Bool.not_false, if_true]
 refine wpS_bind_eq _ _ _ ?_
 show wpS P (if n + 0 ≤ c then _ else _) H _
 rw [if_pos (by omega)]
 refine wpS_bind_eq _ _ _ ?_
 have hf : ∀ Q : Array Value → Hp → Prop, Q #[] H → wpS P (Builtin.firstCells ti.size 0 (.slice b' 0 c')) H Q := fun Q hq => by
  cases b' with
  | none => exact hq
  | some a =>
   show wpS P (loadCells a (0 * ti.size)) H Q
   rw [Nat.zero_mul]
   exact hq
 refine hf _ ?_
 cases b with
 | none => exact hend
 | some a => exact hend

/-! ### bits -/
theorem q_shl {t yt : TypeId} {x y : Operand} {k' : IntKind} {a b : Int} (ho : o.op = .binOp .shl t x y yt) (hx : opndO gm env x = some (.v (.int .i64 a))) (hy : opndO gm env y = some (.v (.int k' b))) (h0 : 0 ≤ b ∧ b ≤ 60) (h : -9223372036854775808 ≤ a * 2 ^ b.toNat ∧ a * 2 ^ b.toNat < 9223372036854775808) : Qk P gm env V o (.v (.int .i64 (a * 2 ^ b.toNat))) := fun A _ => by
 refine ok_bin ho (by rw [opndO_eq hx]; rfl) (by rw [opndO_eq hy]; rfl) ?_
 rw [eqg_int]
 show pureS P (Op.shift .shl .i64 a k' b) = _
 unfold Op.shift
 rw [if_neg (by omega)]
 show some (Value.int .i64 (IntKind.i64.wrap (a * 2 ^ min b.toNat 64))) = _
 rw [Nat.min_eq_left (by omega), wrap_i64 h]
theorem q_shr {t yt : TypeId} {x y : Operand} {k' : IntKind} {a b : Int} (ho : o.op = .binOp .shr t x y yt) (hx : opndO gm env x = some (.v (.int .i64 a))) (hy : opndO gm env y = some (.v (.int k' b))) (h0 : 0 ≤ b ∧ b ≤ 60) : Qk P gm env V o (.v (.int .i64 (a.fdiv (2 ^ b.toNat)))) := fun A _ => by
 refine ok_bin ho (by rw [opndO_eq hx]; rfl) (by rw [opndO_eq hy]; rfl) ?_
 rw [eqg_int]
 show pureS P (Op.shift .shr .i64 a k' b) = _
 unfold Op.shift
 rw [if_neg (by omega)]
 show some (Value.int .i64 (a.fdiv (2 ^ min b.toNat 64))) = _
 rw [Nat.min_eq_left (by omega)]
theorem q_and1 {t yt : TypeId} {x y : Operand} {a : Nat} (ho : o.op = .binOp .and t x y yt) (hx : opndO gm env x = some (.v (.int .i64 a))) (hy : opndO gm env y = some (.v (.int .i64 1))) (h : a < 9223372036854775808) : Qk P gm env V o (.v (.int .i64 ((a % 2 : Nat) : Int))) := by
 refine ok_int ho hx hy ?_
 show some (Value.int .i64 (IntKind.i64.wrap ((BitVec.ofInt 64 (a : Int) &&& BitVec.ofInt 64 1).toNat : Int))) = _
 have : (BitVec.ofInt 64 (a : Int) &&& BitVec.ofInt 64 1).toNat = a % 2 := by
  rw [BitVec.toNat_and]
  have e1 : (BitVec.ofInt 64 (a : Int)).toNat = a := by
   rw [BitVec.toNat_ofInt]
   omega
  rw [e1]
  show a &&& 1 = a % 2
  exact Nat.and_one_is_mod a
 rw [this, wrap_i64 (by omega)]
end
end Go.Vel
end
section
set_option linter.all false
set_option maxRecDepth 20000
set_option maxHeartbeats 60000000
namespace Go.Vel
open Go Go.Conc

section
variable {P : Program}

/-- Goroutine 0 stands at its return, nobody below it. -/
def AtRet (P : Program) (f : FuncId) (R : Value → World → Prop) (g : Goroutine) (W : World) : Prop :=
 ∃ (b : Frame) (a : Act) (todo : List Item) (fn : Func) (v : Value), g = G { b.at a todo with mode := .returning } [] ∧ b.fn = f ∧ b.kind = .normal ∧ a.defers = [] ∧ P.funcs[f]? = some fn ∧
  (∀ w, (results fn a.tmps).run P w = .ok v w) ∧ (∀ w, (results fn a.tmps).events P w #[] = #[]) ∧ R v W

theorem atRet_here {Φ : Goroutine → World → Prop} {g : Goroutine} {H : Hp} (h : ∀ w, Fits H w → Φ g w) : BT P Φ g H := fun _ w hf => Besides.here ⟨⟨rfl, rfl⟩, h w hf⟩

/-- ████ A WALK BESIDE LEAVERS, FROM THE CALL's BEGINNING TO ITS RETURN, IS A GOOD RUN. ████ -/
theorem good_run {f : FuncId} {fn : Func} {c : Code} {args : Array Value} {w : World} {H : Hp} {R : Value → World → Prop} (hf : P.funcs[f]? = some fn) (hb : fn.body = some c) (hi : P.inits.idxOf? f = none)
  {R' : Value → World → Prop} (hRR : ∀ v w', w'.os = w.os → w'.output = w.output → R v w' → R' v w') (hR : ∀ v w τ d, R' v w → R' v (Go.Vel.on w τ d)) (hfit : Fits H w) (h : BT P (AtRet P f R) (G (Frame.enter P f args .normal) []) H) :
  ∃ M last o w' t', runNT P (M + 1) (solo (G (Frame.enter P f args .normal) []) w) #[] = (.ended o w', t') ∧ runN P M (solo (G (Frame.enter P f args .normal) []) w) = .next last ∧
   step P last = .ended o w' ∧ Conc.Good P R' last o w' t' := by
 have hok : okG (G (Frame.enter P f args .normal) []) := by
  refine ⟨fun i hx => ?_, (fun _ hx => by cases hx), (fun _ hx => by cases hx)⟩
  simp only [G, Frame.enter, hf] at hx
  simp [hb] at hx
  subst hx
  trivial
 obtain ⟨N, gs', g', w', d', sl', t', q', hr, h0, ⟨⟨hos, hout⟩, b, a', todo, fn', v, rfl, hbf, hk, hd, hf', hv, he, hRv0⟩, hL, hP⟩ := h hok w hfit w.tape w.drawn #[_] none #[] (fun _ => 0) rfl (leavers_one P _) (past_nil.mono (Nat.zero_le _))
 have hRv := hRR v w' hos hout hRv0
 have hG : Goes P true AtRel (fun _ _ _ => False) (AtEnd P NoShun w'.heap.size R') 0 (G { b.at a' todo with mode := .returning } []) (Go.Vel.on w' w.tape d') := by
  refine Goes.stop fun w₁ hw₁ => ?_
  obtain ⟨d, rfl⟩ := hw₁
  refine ⟨rfl, v, seen P f #[], ?_, fun e hem => ?_, hR v _ _ _ (hR v _ w.tape d' hRv)⟩
  ·simp only [G, stepG, unwind, doReturn, Frame.at, hd, hbf, hf', hk]
   simp only [Sem.runT_eq, hv, he]
   simp [hi, GStep.after]
  ·simp [seen] at hem
 obtain ⟨K, last, o, W, t2, e1, e2, e3, e4⟩ := beside_ends (P := P) (Shun := NoShun) (sl := sl') (fun _ _ _ x => x.elim) h0 hL hP hG
 have hrun : runNT P N (solo (G (Frame.enter P f args .normal) []) w) #[] = (.next (crowd gs' (Go.Vel.on w' w.tape d') sl'), t') := hr
 refine ⟨N + K, last, o, W, t2, ?_, ?_, e3, e4⟩
 ·rw [Nat.add_assoc, runNT_add N (K + 1) _ _ _ _ hrun]; exact e1
 ·have h1 : runN P N (solo (G (Frame.enter P f args .normal) []) w) = .next (crowd gs' (Go.Vel.on w' w.tape d') sl') := by
   rw [← runNT_fst P _ _ #[], hrun]
  rw [Go.Vel.runN_add N K _ _ h1]; exact e2
end
end Go.Vel
end
section
set_option linter.all false
set_option maxRecDepth 20000
set_option maxHeartbeats 60000000
namespace Go.Vel
open Go Go.Conc
section
variable {P : Program} {gm : Nat → Option Nat}
/-- A contract is entered by nobody: its end is the run's. -/
theorem topK_enter {R : Value → World → Prop} (T : Tame P) {g : FuncId} {fn : Func} {c : Code} {args : List AV} {K : KV} {A : List AObj} {Post : AV → KV → Prop} (hf : P.funcs[g]? = some fn) (hb : fn.body = some c)
  (hres2 : ∀ (ts : Array Value), ∃ v, (∀ w, (results fn ts).run P w = .ok v w) ∧ (∀ w, (results fn ts).events P w #[] = #[]) ∧ ∀ H Q, wpS P (results fn ts) H Q → Q v H)
  {φ : Nat → Loc3} {F H : Hp} {vs : Array Value} (hv : View K A) (hn : (keys K).Nodup) (hg : RelG gm φ A.length) (hH : RelH φ A F H) (hargs : RelL φ A.length args vs)
  (hR : ∀ r K' φ' A' H' v w, Post r K' → RelH φ' A' F H' → RelV φ' A'.length r v → Fits H' w → R v w)
  (h : ∀ Y : KX P gm (BT P (AtRet P g R)), (∀ j env K' K'' D r, (j = none ∨ j = some .ret) → Split K' K'' D → (∀ A', View K' A' → resA P fn.results.toList env A' = some r) → Post r K'' → ∀ A', Kn Y K' A' → Y.X.L j [] env A') → TK Y [] [.code c] (args ++ List.replicate (fn.ntmps - args.length) .any) K) :
  BT P (AtRet P g R) (G (Frame.enter P g vs .normal) []) H := by
 have hT := shut_BT T (AtRet P g R)
 have hleave : ∀ (k : List Item) (env : List AV) (A' : List AObj) (φ' : Nat → Loc3) (H' : Hp) (ts : Array Value) (r : AV) (K' : KV), resA P fn.results.toList env A' = some r → Post r K' → RelH φ' A' F H' → RelL φ' A'.length env ts →
   BT P (AtRet P g R) (G { fr .normal g none ts [] k with mode := .returning } []) H' := fun k env A' φ' H' ts r K' hr hp hH' hE => by
  obtain ⟨v, q1, q2, q3⟩ := hres2 ts
  have hrel : RelV φ' A'.length r v := q3 H' (fun y _ => RelV φ' A'.length r y) (wpS_results hH' hE hr fun y hy => hy)
  exact atRet_here fun w hfit => ⟨fr .normal g none ts [] k, ⟨ts, []⟩, k, fn, v, rfl, rfl, rfl, rfl, hf, q1, q2, hR r K' φ' A' H' v w hp hH' hrel hfit⟩
 let X : Cx P gm (BT P (AtRet P g R)) := {
  main := true, hT, φ0 := φ, n0 := A.length, F, kd := .normal, hkd := (fun h => by cases h), f := g, ro := none, cs := []
  L := fun j ds env A' => (j = none ∨ j = some .ret) ∧ ds = [] ∧ ∃ r K', resA P fn.results.toList env A' = some r ∧ Post r K'
  hL := by
   rintro j k ds env A' φ' H' ts hl ⟨hj, rfl, r, K', hr, hp⟩ hA hlen hg' _ hH' hE
   cases hl with
   | fin => exact hT.ctlF rfl (fun _ => sf_end) rfl (hleave _ env A' φ' H' ts r K' hr hp hH' hE)
   | ret k => exact hT.ctlF rfl (fun _ => sf_ret) rfl (hleave _ env A' φ' H' ts r K' hr hp hH' hE)
   | exit id k _ => rcases hj with hj | hj <;> cases hj }
 rw [fr_enter vs hf hb]
 refine h ⟨X, A, keys K⟩ (fun j env K' K'' _ r hj _ hres hp A' hA' => ⟨hj, rfl, r, K'', hres A' hA'.view, hp⟩) A ⟨hv, hn, fun i hi => .inl hi, fun _ _ _ => rfl, Nat.le_refl _⟩ φ H _ (Agr.refl _ _) (Nat.le_refl _) hg (fun d hd => by cases hd) hH (relL_undef hargs _)
/-- One result in a slot. -/
theorem res_tmp {fn : Func} {t : Tmp} (hr : fn.results = #[.tmp t]) (ts : Array Value) : ∃ v, (∀ w, (results fn ts).run P w = .ok v w) ∧ (∀ w, (results fn ts).events P w #[] = #[]) ∧ ∀ H Q, wpS P (results fn ts) H Q → Q v H := by
 have h : results fn ts = pure (ts.getD t undef) := by
  unfold results
  rw [hr, Array.mapM_eq_mapM_toList]
  rfl
 rw [h]
 exact ⟨_, fun w => rfl, fun w => rfl, fun H Q q => q⟩
end
end Go.Vel
end
section
set_option linter.all false
set_option maxRecDepth 20000
set_option maxHeartbeats 60000000
namespace Go.Vel
open Go Go.Conc

/-! ### facts on the program's types, found by their types' numbers -/
class TySz (P : Program) (t : TypeId) (g : outParam Bool) (n : outParam Nat) : Prop where h : tySize P t = some (g, n)
class FldOf (P : Program) (t : TypeId) (k : Nat) (o : outParam Nat) (g : outParam Bool) (n : outParam Nat) : Prop where h : fieldOf P t k = some (o, g, n)
class SlEl (P : Program) (t : TypeId) (e : outParam TypeId) (n : outParam Nat) : Prop where h : slElem P t = some (e, n)
class ArEl (P : Program) (t : TypeId) (m : outParam Nat) (e : outParam TypeId) (g : outParam Bool) (n : outParam Nat) : Prop where h : arrElem P t = some (m, e, g, n)
class Und (P : Program) (t : TypeId) (d : outParam TypeDesc) : Prop where h : P.underlying t = some d
class TyZA (P : Program) (t : TypeId) (l : outParam (List AV)) : Prop where h : tyZeroA P t = some l
class TyZ (P : Program) (t : TypeId) (l : outParam (List Value)) : Prop where h : tyZero P t = some l
class BlOf (P : Program) (t : TypeId) (l : outParam (List (Nat × Nat))) : Prop where h : bldOf P t = some l
class ApOf (P : Program) (t : TypeId) (e : outParam TypeId) (n b : outParam Nat) : Prop where h : apOf P t = some (e, n, b)
class InfO (P : Program) (t : TypeId) (i : outParam TypeInfo) : Prop where h : P.info? t = some i
class Cal (P : Program) (g : FuncId) : Prop where h : callable P g = true
class RgL (ops : Array Oper) (L : outParam (List Nat)) : Prop where h : List.range ops.size = L
instance {a0 : Oper} : RgL #[a0] [0] := ⟨rfl⟩
instance {a0 a1 : Oper} : RgL #[a0, a1] [0, 1] := ⟨rfl⟩
instance {a0 a1 a2 : Oper} : RgL #[a0, a1, a2] [0, 1, 2] := ⟨rfl⟩
instance {a0 a1 a2 a3 : Oper} : RgL #[a0, a1, a2, a3] [0, 1, 2, 3] := ⟨rfl⟩
instance {a0 a1 a2 a3 a4 : Oper} : RgL #[a0, a1, a2, a3, a4] [0, 1, 2, 3, 4] := ⟨rfl⟩
instance {a0 a1 a2 a3 a4 a5 : Oper} : RgL #[a0, a1, a2, a3, a4, a5] [0, 1, 2, 3, 4, 5] := ⟨rfl⟩
instance {a0 a1 a2 a3 a4 a5 a6 : Oper} : RgL #[a0, a1, a2, a3, a4, a5, a6] [0, 1, 2, 3, 4, 5, 6] := ⟨rfl⟩
instance {a0 a1 a2 a3 a4 a5 a6 a7 : Oper} : RgL #[a0, a1, a2, a3, a4, a5, a6, a7] [0, 1, 2, 3, 4, 5, 6, 7] := ⟨rfl⟩
instance {a0 a1 a2 a3 a4 a5 a6 a7 a8 : Oper} : RgL #[a0, a1, a2, a3, a4, a5, a6, a7, a8] [0, 1, 2, 3, 4, 5, 6, 7, 8] := ⟨rfl⟩
instance {a0 a1 a2 a3 a4 a5 a6 a7 a8 a9 : Oper} : RgL #[a0, a1, a2, a3, a4, a5, a6, a7, a8, a9] [0, 1, 2, 3, 4, 5, 6, 7, 8, 9] := ⟨rfl⟩
instance {a0 a1 a2 a3 a4 a5 a6 a7 a8 a9 a10 : Oper} : RgL #[a0, a1, a2, a3, a4, a5, a6, a7, a8, a9, a10] [0, 1, 2, 3, 4, 5, 6, 7, 8, 9, 10] := ⟨rfl⟩
instance {a0 a1 a2 a3 a4 a5 a6 a7 a8 a9 a10 a11 : Oper} : RgL #[a0, a1, a2, a3, a4, a5, a6, a7, a8, a9, a10, a11] [0, 1, 2, 3, 4, 5, 6, 7, 8, 9, 10, 11] := ⟨rfl⟩
instance {a0 a1 a2 a3 a4 a5 a6 a7 a8 a9 a10 a11 a12 : Oper} : RgL #[a0, a1, a2, a3, a4, a5, a6, a7, a8, a9, a10, a11, a12] [0, 1, 2, 3, 4, 5, 6, 7, 8, 9, 10, 11, 12] := ⟨rfl⟩
instance {a0 a1 a2 a3 a4 a5 a6 a7 a8 a9 a10 a11 a12 a13 : Oper} : RgL #[a0, a1, a2, a3, a4, a5, a6, a7, a8, a9, a10, a11, a12, a13] [0, 1, 2, 3, 4, 5, 6, 7, 8, 9, 10, 11, 12, 13] := ⟨rfl⟩
instance {a0 a1 a2 a3 a4 a5 a6 a7 a8 a9 a10 a11 a12 a13 a14 : Oper} : RgL #[a0, a1, a2, a3, a4, a5, a6, a7, a8, a9, a10, a11, a12, a13, a14] [0, 1, 2, 3, 4, 5, 6, 7, 8, 9, 10, 11, 12, 13, 14] := ⟨rfl⟩
instance {a0 a1 a2 a3 a4 a5 a6 a7 a8 a9 a10 a11 a12 a13 a14 a15 : Oper} : RgL #[a0, a1, a2, a3, a4, a5, a6, a7, a8, a9, a10, a11, a12, a13, a14, a15] [0, 1, 2, 3, 4, 5, 6, 7, 8, 9, 10, 11, 12, 13, 14, 15] := ⟨rfl⟩
instance {a0 a1 a2 a3 a4 a5 a6 a7 a8 a9 a10 a11 a12 a13 a14 a15 a16 : Oper} : RgL #[a0, a1, a2, a3, a4, a5, a6, a7, a8, a9, a10, a11, a12, a13, a14, a15, a16] [0, 1, 2, 3, 4, 5, 6, 7, 8, 9, 10, 11, 12, 13, 14, 15, 16] := ⟨rfl⟩
instance {a0 a1 a2 a3 a4 a5 a6 a7 a8 a9 a10 a11 a12 a13 a14 a15 a16 a17 : Oper} : RgL #[a0, a1, a2, a3, a4, a5, a6, a7, a8, a9, a10, a11, a12, a13, a14, a15, a16, a17] [0, 1, 2, 3, 4, 5, 6, 7, 8, 9, 10, 11, 12, 13, 14, 15, 16, 17] := ⟨rfl⟩
instance {a0 a1 a2 a3 a4 a5 a6 a7 a8 a9 a10 a11 a12 a13 a14 a15 a16 a17 a18 : Oper} : RgL #[a0, a1, a2, a3, a4, a5, a6, a7, a8, a9, a10, a11, a12, a13, a14, a15, a16, a17, a18] [0, 1, 2, 3, 4, 5, 6, 7, 8, 9, 10, 11, 12, 13, 14, 15, 16, 17, 18] := ⟨rfl⟩
instance {a0 a1 a2 a3 a4 a5 a6 a7 a8 a9 a10 a11 a12 a13 a14 a15 a16 a17 a18 a19 : Oper} : RgL #[a0, a1, a2, a3, a4, a5, a6, a7, a8, a9, a10, a11, a12, a13, a14, a15, a16, a17, a18, a19] [0, 1, 2, 3, 4, 5, 6, 7, 8, 9, 10, 11, 12, 13, 14, 15, 16, 17, 18, 19] := ⟨rfl⟩

section
variable {P : Program} {gm : Nat → Option Nat} {T : Goroutine → Hp → Prop} {Y : KX P gm T} {ds : List Nat} {k : List Item} {env env' : List AV} {K K' : KV} {ops : Array Oper} {i d : Nat} {o : Oper} {r : AV} {rest L : List Nat}

/-- An environment, some slots of which are known. -/
def slotsA (n : Nat) (l : List (Nat × AV)) : List AV := l.foldl (fun e x => e.set x.1 x.2) (List.replicate n .any)

theorem TK.rgn {id : Nat} (hL : List.range ops.size = L) (h : TK Y ds (.inRegion ops L :: k) env K) : TK Y ds (.code (.region id ops false) :: k) env K := TK.regionL hL h
theorem TK.isOp (h : TK Y ds (.inRegion ops (i :: rest) :: k) env K) : TK Y ds (.inRegion ops (i :: rest) :: k) env K := h
theorem TK.nrm (h : TK Y ds k env' K') (he : env = env') (hk : K = K') : TK Y ds k env K := by subst he hk; exact h
theorem TK.condA {c : Operand} {x y : Code} {t : Bool} (hc : opnd gm env c = .v (.bool t)) (h : (t = true → TK Y ds (.code x :: k) env K) ∧ (t = false → TK Y ds (.code y :: k) env K)) : TK Y ds (.code (.cond c x y) :: k) env K := TK.cond hc h.1 h.2
theorem TK.condT {c : Operand} {x y : Code} (hc : opnd gm env c = .v (.bool true)) (h : TK Y ds (.code x :: k) env K) : TK Y ds (.code (.cond c x y) :: k) env K := TK.cond hc (fun _ => h) (fun h => by cases h)
theorem TK.condF {c : Operand} {x y : Code} (hc : opnd gm env c = .v (.bool false)) (h : TK Y ds (.code y :: k) env K) : TK Y ds (.code (.cond c x y) :: k) env K := TK.cond hc (fun h => by cases h) (fun _ => h)

/-- A goal, and some plain steps on the way to it, given by their numbers. -/
structure Run (l : List Nat) (G : Prop) : Prop where
 go : G
/-- The same, where calls may be deferred. -/
theorem callK_in3 (n : Nat) {main : Bool} (hT : Shut P main T) {g : FuncId} {fn : Func} {c : Code} {args : List AV} {Post : AV → KV → Prop} (hf : P.funcs[g]? = some fn)
  (h : ∀ Y : KX P gm T, Y.X.ro = none → (∀ j ds env K' K1 K'' D1 D2 r, (j = none ∨ j = some .ret) → Split K' K1 D1 → ds.Nodup → (∀ d ∈ ds, (d, .raw (.deferred (some []))) ∈ D1) → Split K1 K'' D2 → (∀ A', View K1 A' → resA P fn.results.toList env A' = some r) → Post r K'' → ∀ A', Kn Y K' A' → Y.X.L j ds env A') →
   TK Y [] [.code c] (args ++ List.replicate (n - args.length) .any) K) (hb : fn.body = some c := by rfl) (hn : fn.ntmps = n := by rfl) : CallK P T gm g args K Post := by
 subst hn
 exact callK_enter3 hT hf hb h
structure Hide (p : Prop) : Prop where
 out : p
theorem Run.s {l : List Nat} {A B : Prop} (f : A → B) (h : Run l A) : Run l B := ⟨f h.go⟩
theorem R1 {l : List Nat} {G : Prop} (h : Run l G) : Run (1 :: l) G := ⟨h.go⟩
theorem R2 {l : List Nat} {G : Prop} (h : Run l G) : Run (2 :: l) G := ⟨h.go⟩
theorem R3 {l : List Nat} {G : Prop} (h : Run l G) : Run (3 :: l) G := ⟨h.go⟩
theorem R4 {l : List Nat} {G : Prop} (h : Run l G) : Run (4 :: l) G := ⟨h.go⟩
theorem R5 {l : List Nat} {G : Prop} (h : Run l G) : Run (5 :: l) G := ⟨h.go⟩
theorem R6 {l : List Nat} {G : Prop} (h : Run l G) : Run (6 :: l) G := ⟨h.go⟩
theorem R7 {l : List Nat} {G : Prop} (h : Run l G) : Run (7 :: l) G := ⟨h.go⟩
theorem R8 {l : List Nat} {G : Prop} (h : Run l G) : Run (8 :: l) G := ⟨h.go⟩
theorem R9 {l : List Nat} {G : Prop} (h : Run l G) : Run (9 :: l) G := ⟨h.go⟩
theorem R10 {l : List Nat} {G : Prop} (h : Run l G) : Run (10 :: l) G := ⟨h.go⟩
theorem R11 {l : List Nat} {G : Prop} (h : Run l G) : Run (11 :: l) G := ⟨h.go⟩
theorem R12 {l : List Nat} {G : Prop} (h : Run l G) : Run (12 :: l) G := ⟨h.go⟩
theorem R13 {l : List Nat} {G : Prop} (h : Run l G) : Run (13 :: l) G := ⟨h.go⟩
theorem R14 {l : List Nat} {G : Prop} (h : Run l G) : Run (14 :: l) G := ⟨h.go⟩
theorem R15 {l : List Nat} {G : Prop} (h : Run l G) : Run (15 :: l) G := ⟨h.go⟩
theorem R16 {l : List Nat} {G : Prop} (h : Run l G) : Run (16 :: l) G := ⟨h.go⟩
theorem R17 {l : List Nat} {G : Prop} (h : Run l G) : Run (17 :: l) G := ⟨h.go⟩
theorem R18 {l : List Nat} {G : Prop} (h : Run l G) : Run (18 :: l) G := ⟨h.go⟩
theorem R19 {l : List Nat} {G : Prop} (h : Run l G) : Run (19 :: l) G := ⟨h.go⟩
theorem R20 {l : List Nat} {G : Prop} (h : Run l G) : Run (20 :: l) G := ⟨h.go⟩
theorem R21 {l : List Nat} {G : Prop} (h : Run l G) : Run (21 :: l) G := ⟨h.go⟩
theorem R22 {l : List Nat} {G : Prop} (h : Run l G) : Run (22 :: l) G := ⟨h.go⟩
theorem R23 {l : List Nat} {G : Prop} (h : Run l G) : Run (23 :: l) G := ⟨h.go⟩
theorem R24 {l : List Nat} {G : Prop} (h : Run l G) : Run (24 :: l) G := ⟨h.go⟩
theorem R25 {l : List Nat} {G : Prop} (h : Run l G) : Run (25 :: l) G := ⟨h.go⟩
theorem R26 {l : List Nat} {G : Prop} (h : Run l G) : Run (26 :: l) G := ⟨h.go⟩
theorem R27 {l : List Nat} {G : Prop} (h : Run l G) : Run (27 :: l) G := ⟨h.go⟩
theorem R28 {l : List Nat} {G : Prop} (h : Run l G) : Run (28 :: l) G := ⟨h.go⟩
theorem R29 {l : List Nat} {G : Prop} (h : Run l G) : Run (29 :: l) G := ⟨h.go⟩
theorem R30 {l : List Nat} {G : Prop} (h : Run l G) : Run (30 :: l) G := ⟨h.go⟩
theorem R31 {l : List Nat} {G : Prop} (h : Run l G) : Run (31 :: l) G := ⟨h.go⟩
theorem R32 {l : List Nat} {G : Prop} (h : Run l G) : Run (32 :: l) G := ⟨h.go⟩
theorem R33 {l : List Nat} {G : Prop} (h : Run l G) : Run (33 :: l) G := ⟨h.go⟩
theorem R34 {l : List Nat} {G : Prop} (h : Run l G) : Run (34 :: l) G := ⟨h.go⟩
theorem R35 {l : List Nat} {G : Prop} (h : Run l G) : Run (35 :: l) G := ⟨h.go⟩
theorem R36 {l : List Nat} {G : Prop} (h : Run l G) : Run (36 :: l) G := ⟨h.go⟩
theorem R37 {l : List Nat} {G : Prop} (h : Run l G) : Run (37 :: l) G := ⟨h.go⟩
theorem R38 {l : List Nat} {G : Prop} (h : Run l G) : Run (38 :: l) G := ⟨h.go⟩
theorem R39 {l : List Nat} {G : Prop} (h : Run l G) : Run (39 :: l) G := ⟨h.go⟩
theorem R40 {l : List Nat} {G : Prop} (h : Run l G) : Run (40 :: l) G := ⟨h.go⟩
theorem R41 {l : List Nat} {G : Prop} (h : Run l G) : Run (41 :: l) G := ⟨h.go⟩
theorem R42 {l : List Nat} {G : Prop} (h : Run l G) : Run (42 :: l) G := ⟨h.go⟩
theorem R43 {l : List Nat} {G : Prop} (h : Run l G) : Run (43 :: l) G := ⟨h.go⟩
theorem R44 {l : List Nat} {G : Prop} (h : Run l G) : Run (44 :: l) G := ⟨h.go⟩
theorem R45 {l : List Nat} {G : Prop} (h : Run l G) : Run (45 :: l) G := ⟨h.go⟩
theorem R46 {l : List Nat} {G : Prop} (h : Run l G) : Run (46 :: l) G := ⟨h.go⟩
theorem R47 {l : List Nat} {G : Prop} (h : Run l G) : Run (47 :: l) G := ⟨h.go⟩
theorem au (l : List Nat) {G G' : Prop} (h : G') (hs : Hide G' → Run l G := by
 intro hid
 refine Run.s (fun h => TK.nrm h (by first | ((with_reducible show putA _ _ _ = _); first | exact putS rfl (by simp only [List.set]; rfl) | exact putN rfl) | (simp only [putAll, List.zip_cons_cons, List.zip_nil_right, slotsA, List.foldl_cons, List.foldl_nil, List.replicate, List.set, List.cons_append, List.nil_append, List.length_cons, List.length_nil, Nat.reduceAdd, Nat.reduceSub, Nat.zero_add]; rfl) | rfl) (by first | (simp only [List.cons_append, List.nil_append]; rfl) | rfl)) ?_
 repeat (first
  | (refine R1 ?_; refine Run.s (fun h => TK.a rfl (q_move rfl rfl) h) ?_)
  | (refine R2 ?_; refine Run.s (fun h => TK.a rfl (q_assign rfl rfl) h) ?_)
  | (refine R3 ?_; refine Run.s (fun h => TK.regionEnd h) ?_)
  | (refine R4 ?_; refine Run.s (fun h => TK.seq h) ?_)
  | (refine R5 ?_; refine Run.s (fun h => TK.rgn RgL.h h) ?_)
  | (refine R6 ?_; refine Run.s (fun h => TK.a rfl (q_cmp rfl rfl rfl rfl) h) ?_)
  | (refine R7 ?_; refine Run.s (fun h => TK.a rfl (q_fieldAddr rfl rfl FldOf.h (by decide)) h) ?_)
  | (refine R8 ?_; refine Run.s (fun h => TK.a rfl (q_load rfl rfl TySz.h (by repeat (first | exact List.Mem.head _ | assumption | apply List.Mem.tail)) rfl) h) ?_)
  | (refine R9 ?_; refine Run.s (fun h => TK.a rfl (q_load1 rfl rfl TySz.h (by repeat (first | exact List.Mem.head _ | assumption | apply List.Mem.tail)) rfl) h) ?_)
  | (refine R10 ?_; refine Run.s (fun h => TK.a rfl (q_extract rfl rfl rfl) h) ?_)
  | (refine R11 ?_; refine Run.s (fun h => TK.unwanted rfl rfl (putS rfl (by simp only [List.set]; rfl)) h) ?_)
  | (refine R12 ?_; refine Run.s (fun h => TK.skip h) ?_)
  | (refine R13 ?_; refine Run.s (fun h => TK.block h) ?_)
  | (refine R14 ?_; refine Run.s (fun h => TK.inBlock h) ?_)
  | (refine R15 ?_; refine Run.s (fun h => TK.label h) ?_)
  | (refine R16 ?_; refine Run.s (fun h => TK.exit rfl h) ?_)
  | (refine R17 ?_; refine Run.s (fun h => TK.st rfl rfl rfl (q_store rfl rfl TySz.h rfl rfl (by repeat (first | exact List.Mem.head _ | assumption | apply List.Mem.tail)) rfl) (by repeat (first | exact Upd.head | apply Upd.tail)) (putN rfl) h) ?_)
  | (refine R18 ?_; refine Run.s (fun h => TK.condT rfl h) ?_)
  | (refine R19 ?_; refine Run.s (fun h => TK.condF rfl h) ?_)
  | (refine R20 ?_; refine Run.s (fun h => TK.condA rfl h) ?_)
  | (refine R21 ?_; refine Run.s (fun h => TK.newP rfl rfl rfl (n_box rfl rfl) (fun _ => (putS rfl (by simp only [List.set]; rfl))) h) ?_)
  | (refine R22 ?_; refine Run.s (fun h => TK.newP rfl rfl rfl (n_allocA rfl TyZA.h) (fun _ => (putS rfl (by simp only [List.set]; rfl))) h) ?_)
  | (refine R23 ?_; refine Run.s (fun h => TK.a rfl (q_add rfl rfl rfl (by omega)) h) ?_)
  | (refine R24 ?_; refine Run.s (fun h => TK.a rfl (q_sub rfl rfl rfl (by omega)) h) ?_)
  | (refine R25 ?_; refine Run.s (fun h => TK.a rfl (q_pickF rfl rfl rfl) h) ?_)
  | (refine R26 ?_; refine Run.s (fun h => TK.a rfl (q_pickT rfl rfl rfl) h) ?_)
  | (refine R27 ?_; refine Run.s (fun h => TK.a rfl (q_pick rfl rfl rfl rfl) h) ?_)
  | (refine R28 ?_; refine Run.s (fun h => TK.a rfl (q_len rfl rfl rfl Und.h) h) ?_)
  | (refine R29 ?_; refine Run.s (fun h => TK.a rfl (q_lenStr rfl rfl Und.h) h) ?_)
  | (refine R30 ?_; refine Run.s (fun h => TK.a rfl (q_not rfl rfl) h) ?_)
  | (refine R31 ?_; refine Run.s (fun h => TK.a rfl (q_field rfl rfl FldOf.h rfl) h) ?_)
  | (refine R32 ?_; refine Run.s (fun h => TK.a rfl (q_makeFunc rfl rfl rfl) h) ?_)
  | (refine R33 ?_; refine Run.s (fun h => TK.a rfl (q_cmpS rfl rfl rfl rfl) h) ?_)
  | (refine R34 ?_; refine Run.s (fun h => TK.a rfl (q_cmpB rfl rfl rfl Und.h rfl) h) ?_)
  | (refine R35 ?_; refine Run.s (fun h => TK.a rfl (q_convInt rfl rfl Und.h Und.h rfl) h) ?_)
  | (refine R36 ?_; refine Run.s (fun h => TK.a rfl (q_indexSl rfl rfl rfl SlEl.h (by omega) (by omega)) h) ?_)
  | (refine R37 ?_; refine Run.s (fun h => TK.a rfl (q_indexRow rfl rfl rfl SlEl.h (by repeat (first | exact List.Mem.head _ | assumption | apply List.Mem.tail)) (by omega) (by omega)) h) ?_)
  | (refine R38 ?_; refine Run.s (fun h => TK.a rfl (q_build (l := [_]) rfl TyZ.h BlOf.h rfl) h) ?_)
  | (refine R39 ?_; refine Run.s (fun h => TK.a rfl (q_build (l := [_, _]) rfl TyZ.h BlOf.h rfl) h) ?_)
  | (refine R40 ?_; refine Run.s (fun h => TK.a rfl (q_build (l := [_, _, _]) rfl TyZ.h BlOf.h rfl) h) ?_)
  | (refine R41 ?_; refine Run.s (fun h => TK.a rfl (q_build (l := [_, _, _, _]) rfl TyZ.h BlOf.h rfl) h) ?_)
  | (refine R42 ?_; refine Run.s (fun h => TK.a rfl (q_build (l := [_, _, _, _, _]) rfl TyZ.h BlOf.h rfl) h) ?_)
  | (refine R43 ?_; refine Run.s (fun h => TK.a rfl (q_build (l := [_, _, _, _, _, _]) rfl TyZ.h BlOf.h rfl) h) ?_)
  | (refine R44 ?_; refine Run.s (fun h => TK.a rfl (q_build (l := [_, _, _, _, _, _, _]) rfl TyZ.h BlOf.h rfl) h) ?_)
  | (refine R45 ?_; refine Run.s (fun h => TK.a rfl (q_build (l := [_, _, _, _, _, _, _, _]) rfl TyZ.h BlOf.h rfl) h) ?_)
  | (refine R46 ?_; refine Run.s (fun h => TK.a rfl (q_build (l := [_, _, _, _, _, _, _, _, _]) rfl TyZ.h BlOf.h rfl) h) ?_)
  | (refine R47 ?_; refine Run.s (fun h => TK.a rfl (q_build (l := [_, _, _, _, _, _, _, _, _, _]) rfl TyZ.h BlOf.h rfl) h) ?_))
 exact Run.mk (l := []) hid.out) : G := (hs ⟨h⟩).go

/-- What a function's end wants. -/
def RetK (Y : KX P gm T) (vs : List ResultVar) (Post : AV → KV → Prop) : Prop :=
 ∀ j env K' K'' D r, (j = none ∨ j = some .ret) → Split K' K'' D → (∀ A', View K' A' → resA P vs env A' = some r) → Post r K'' → ∀ A', Kn Y K' A' → Y.X.L j [] env A'
theorem callK_in (n : Nat) {main : Bool} (hT : Shut P main T) {g : FuncId} {fn : Func} {c : Code} {args : List AV} {Post : AV → KV → Prop} (hf : P.funcs[g]? = some fn)
  (h : ∀ Y : KX P gm T, RetK Y fn.results.toList Post → TK Y [] [.code c] (args ++ List.replicate (n - args.length) .any) K) (hb : fn.body = some c := by rfl) (hn : fn.ntmps = n := by rfl) : CallK P T gm g args K Post := by
 subst hn
 exact callK_enter2 hT hf hb h

/-- A contract is entered by nobody: its end is the run's. -/
theorem topK_in (n : Nat) {R : Value → World → Prop} (Tm : Tame P) {g : FuncId} {fn : Func} {c : Code} {t : Tmp} {args : List AV} {A : List AObj} {Post : AV → KV → Prop} (hf : P.funcs[g]? = some fn)
  {φ : Nat → Loc3} {F H : Hp} {vs : Array Value} (hv : View K A) (hnd : (keys K).Nodup) (hg : RelG gm φ A.length) (hH : RelH φ A F H) (hargs : RelL φ A.length args vs)
  (hR : ∀ r K' φ' A' H' v w, Post r K' → RelH φ' A' F H' → RelV φ' A'.length r v → Fits H' w → R v w)
  (h : ∀ Y : KX P gm (BT P (AtRet P g R)), RetK Y fn.results.toList Post → TK Y [] [.code c] (args ++ List.replicate (n - args.length) .any) K) (hb : fn.body = some c := by rfl) (hr : fn.results = #[.tmp t] := by rfl) (hn : fn.ntmps = n := by rfl) :
  BT P (AtRet P g R) (G (Frame.enter P g vs .normal) []) H := by
 subst hn
 exact topK_enter Tm hf hb (fun ts => res_tmp hr ts) hv hnd hg hH hargs hR h
theorem res_0 : ∀ A, View K A → resA P [] env A = some (.tup []) := res_many .nil rfl
theorem res_2 {v1 v2 : ResultVar} {r1 r2 : AV} (h1 : ResK P K env v1 r1) (h2 : ResK P K env v2 r2) : ∀ A, View K A → resA P [v1, v2] env A = some (.tup [r1, r2]) := res_many (.cons h1 (.cons h2 .nil)) rfl
theorem res_3 {v1 v2 v3 : ResultVar} {r1 r2 r3 : AV} (h1 : ResK P K env v1 r1) (h2 : ResK P K env v2 r2) (h3 : ResK P K env v3 r3) : ∀ A, View K A → resA P [v1, v2, v3] env A = some (.tup [r1, r2, r3]) := res_many (.cons h1 (.cons h2 (.cons h3 .nil))) rfl
theorem res_4 {v1 v2 v3 v4 : ResultVar} {r1 r2 r3 r4 : AV} (h1 : ResK P K env v1 r1) (h2 : ResK P K env v2 r2) (h3 : ResK P K env v3 r3) (h4 : ResK P K env v4 r4) : ∀ A, View K A → resA P [v1, v2, v3, v4] env A = some (.tup [r1, r2, r3, r4]) := res_many (.cons h1 (.cons h2 (.cons h3 (.cons h4 .nil)))) rfl
/-- A return: what is kept, what is said of it. -/
theorem TK.rt {vs : List ResultVar} {Post : AV → KV → Prop} {D : KV} (hr : RetK Y vs Post) (R : KV) (h : Post r R) (hs : Split K R D := by repeat (first | exact Split.none _ | exact Split.all _ | (apply Split.rem; repeat (first | exact Rem.head | apply Rem.tail)) | apply Split.right)) (hres : ∀ A, View K A → resA P vs env A = some r := by first | exact res_one (rk_tmp rfl) | exact res_2 (rk_tmp rfl) (rk_tmp rfl) | exact res_3 (rk_tmp rfl) (rk_tmp rfl) (rk_tmp rfl) | exact res_4 (rk_tmp rfl) (rk_tmp rfl) (rk_tmp rfl) (rk_tmp rfl) | exact res_2 (rk_cell rfl TySz.h (by repeat (first | exact List.Mem.head _ | assumption | apply List.Mem.tail)) rfl) (rk_tmp rfl) | exact res_one (rk_cell rfl TySz.h (by repeat (first | exact List.Mem.head _ | assumption | apply List.Mem.tail)) rfl) | exact res_one (rk_cell1 rfl TySz.h (by repeat (first | exact List.Mem.head _ | assumption | apply List.Mem.tail)) rfl) | exact res_2 (rk_cell1 rfl TySz.h (by repeat (first | exact List.Mem.head _ | assumption | apply List.Mem.tail)) rfl) (rk_cell1 rfl TySz.h (by repeat (first | exact List.Mem.head _ | assumption | apply List.Mem.tail)) rfl) | exact res_3 (rk_cell rfl TySz.h (by repeat (first | exact List.Mem.head _ | assumption | apply List.Mem.tail)) rfl) (rk_cell rfl TySz.h (by repeat (first | exact List.Mem.head _ | assumption | apply List.Mem.tail)) rfl) (rk_tmp rfl) | exact res_0) : TK Y [] (.code .ret :: k) env K :=
 TK.leave (.ret _) fun A hA => hr _ _ _ _ _ _ (.inr rfl) hs hres h A hA
theorem TK.rt0 {vs : List ResultVar} {Post : AV → KV → Prop} {D : KV} (hr : RetK Y vs Post) (R : KV) (h : Post r R) (hs : Split K R D := by repeat (first | exact Split.none _ | exact Split.all _ | (apply Split.rem; repeat (first | exact Rem.head | apply Rem.tail)) | apply Split.right)) (hres : ∀ A, View K A → resA P vs env A = some r := by first | exact res_one (rk_tmp rfl) | exact res_2 (rk_tmp rfl) (rk_tmp rfl) | exact res_3 (rk_tmp rfl) (rk_tmp rfl) (rk_tmp rfl) | exact res_4 (rk_tmp rfl) (rk_tmp rfl) (rk_tmp rfl) (rk_tmp rfl) | exact res_2 (rk_cell rfl TySz.h (by repeat (first | exact List.Mem.head _ | assumption | apply List.Mem.tail)) rfl) (rk_tmp rfl) | exact res_one (rk_cell rfl TySz.h (by repeat (first | exact List.Mem.head _ | assumption | apply List.Mem.tail)) rfl) | exact res_one (rk_cell1 rfl TySz.h (by repeat (first | exact List.Mem.head _ | assumption | apply List.Mem.tail)) rfl) | exact res_2 (rk_cell1 rfl TySz.h (by repeat (first | exact List.Mem.head _ | assumption | apply List.Mem.tail)) rfl) (rk_cell1 rfl TySz.h (by repeat (first | exact List.Mem.head _ | assumption | apply List.Mem.tail)) rfl) | exact res_3 (rk_cell rfl TySz.h (by repeat (first | exact List.Mem.head _ | assumption | apply List.Mem.tail)) rfl) (rk_cell rfl TySz.h (by repeat (first | exact List.Mem.head _ | assumption | apply List.Mem.tail)) rfl) (rk_tmp rfl) | exact res_0) : TK Y [] [] env K :=
 TK.leave .fin fun A hA => hr _ _ _ _ _ _ (.inl rfl) hs hres h A hA
theorem TK.rta {vs : List ResultVar} {Post : AV → KV → Prop} (hr : RetK Y vs Post) (h : Post r K) (hres : ∀ A, View K A → resA P vs env A = some r := by first | exact res_one (rk_tmp rfl) | exact res_2 (rk_tmp rfl) (rk_tmp rfl) | exact res_3 (rk_tmp rfl) (rk_tmp rfl) (rk_tmp rfl) | exact res_4 (rk_tmp rfl) (rk_tmp rfl) (rk_tmp rfl) (rk_tmp rfl) | exact res_2 (rk_cell rfl TySz.h (by repeat (first | exact List.Mem.head _ | assumption | apply List.Mem.tail)) rfl) (rk_tmp rfl) | exact res_one (rk_cell rfl TySz.h (by repeat (first | exact List.Mem.head _ | assumption | apply List.Mem.tail)) rfl) | exact res_one (rk_cell1 rfl TySz.h (by repeat (first | exact List.Mem.head _ | assumption | apply List.Mem.tail)) rfl) | exact res_2 (rk_cell1 rfl TySz.h (by repeat (first | exact List.Mem.head _ | assumption | apply List.Mem.tail)) rfl) (rk_cell1 rfl TySz.h (by repeat (first | exact List.Mem.head _ | assumption | apply List.Mem.tail)) rfl) | exact res_3 (rk_cell rfl TySz.h (by repeat (first | exact List.Mem.head _ | assumption | apply List.Mem.tail)) rfl) (rk_cell rfl TySz.h (by repeat (first | exact List.Mem.head _ | assumption | apply List.Mem.tail)) rfl) (rk_tmp rfl) | exact res_0) : TK Y [] (.code .ret :: k) env K :=
 TK.leave (.ret _) fun A hA => hr _ _ _ _ _ _ (.inr rfl) (.all _) hres h A hA
theorem TK.rt0a {vs : List ResultVar} {Post : AV → KV → Prop} (hr : RetK Y vs Post) (h : Post r K) (hres : ∀ A, View K A → resA P vs env A = some r := by first | exact res_one (rk_tmp rfl) | exact res_2 (rk_tmp rfl) (rk_tmp rfl) | exact res_3 (rk_tmp rfl) (rk_tmp rfl) (rk_tmp rfl) | exact res_4 (rk_tmp rfl) (rk_tmp rfl) (rk_tmp rfl) (rk_tmp rfl) | exact res_2 (rk_cell rfl TySz.h (by repeat (first | exact List.Mem.head _ | assumption | apply List.Mem.tail)) rfl) (rk_tmp rfl) | exact res_one (rk_cell rfl TySz.h (by repeat (first | exact List.Mem.head _ | assumption | apply List.Mem.tail)) rfl) | exact res_one (rk_cell1 rfl TySz.h (by repeat (first | exact List.Mem.head _ | assumption | apply List.Mem.tail)) rfl) | exact res_2 (rk_cell1 rfl TySz.h (by repeat (first | exact List.Mem.head _ | assumption | apply List.Mem.tail)) rfl) (rk_cell1 rfl TySz.h (by repeat (first | exact List.Mem.head _ | assumption | apply List.Mem.tail)) rfl) | exact res_3 (rk_cell rfl TySz.h (by repeat (first | exact List.Mem.head _ | assumption | apply List.Mem.tail)) rfl) (rk_cell rfl TySz.h (by repeat (first | exact List.Mem.head _ | assumption | apply List.Mem.tail)) rfl) (rk_tmp rfl) | exact res_0) : TK Y [] [] env K :=
 TK.leave .fin fun A hA => hr _ _ _ _ _ _ (.inl rfl) (.all _) hres h A hA
/-- What is kept. -/
theorem TK.kp {D : KV} (R : KV) (h : TK Y ds k env R) (hs : Split K R D := by repeat (first | exact Split.none _ | exact Split.all _ | (apply Split.rem; repeat (first | exact Rem.head | apply Rem.tail)) | apply Split.right)) : TK Y ds k env K := TK.keep hs h
/-- A call. -/
theorem TK.cl {fo : Operand} {ars : Array Operand} {at_ : Array TypeId} {g : FuncId} {fs cp args : List AV} {Kf R : KV} {Post : AV → KV → Prop} (ho : ops[i]? = some o) (hop : o.op = .call { callee := .value fo, args := ars, argTypes := at_ })
  (hf : opndO gm env fo = some (.fn g fs cp)) (hargs : fs ++ ars.toList.map (opnd gm env) ++ cp = args) (hc : CallK P T gm g args Kf Post)
  (h : ∀ r K', Post r K' → TK Y ds (.inRegion ops rest :: k) (env.set d r) (K' ++ R)) (hs : Split K Kf R := by repeat (first | exact Split.none _ | exact Split.all _ | (apply Split.rem; repeat (first | exact Rem.head | apply Rem.tail)) | apply Split.right)) (hw : wantA ops env o = some true := by rfl) (hg : callable P g = true := by exact Cal.h) (hx : o.dst = some d := by rfl) : TK Y ds (.inRegion ops (i :: rest) :: k) env K :=
 TK.call' ho hw hop hf hg hargs hc hs fun r K' hp => by rw [hx]; exact h r K' hp
/-- A call whose results are left. -/
theorem TK.cln {fo : Operand} {ars : Array Operand} {at_ : Array TypeId} {g : FuncId} {fs cp args : List AV} {Kf R : KV} {Post : AV → KV → Prop} (ho : ops[i]? = some o) (hop : o.op = .call { callee := .value fo, args := ars, argTypes := at_ })
  (hf : opndO gm env fo = some (.fn g fs cp)) (hargs : fs ++ ars.toList.map (opnd gm env) ++ cp = args) (hc : CallK P T gm g args Kf Post)
  (h : ∀ r K', Post r K' → TK Y ds (.inRegion ops rest :: k) env (K' ++ R)) (hs : Split K Kf R := by repeat (first | exact Split.none _ | exact Split.all _ | (apply Split.rem; repeat (first | exact Rem.head | apply Rem.tail)) | apply Split.right)) (hw : wantA ops env o = some true := by rfl) (hg : callable P g = true := by exact Cal.h) (hx : o.dst = none := by rfl) : TK Y ds (.inRegion ops (i :: rest) :: k) env K :=
 TK.call' ho hw hop hf hg hargs hc hs fun r K' hp => by rw [hx]; exact h r K' hp
/-- A guard. -/
theorem TK.sp (d : Nat) {t : Bool} {env1 env0 : List AV} (k1 : t = true → TK Y ds k env1 K) (k0 : t = false → TK Y ds k env0 K) (hd : env[d]? = some (.v (.bool t)) := by rfl) (h1 : env.set d (.v (.bool true)) = env1 := by simp only [List.set]; rfl) (h0 : env.set d (.v (.bool false)) = env0 := by simp only [List.set]; rfl) : TK Y ds k env K := TK.splitN d hd h1 h0 k1 k0
theorem TD.sp {pend : List Pd} (d : Nat) {t : Bool} {env1 env0 : List AV} (k1 : t = true → TD Y ds ops k pend L env1 K) (k0 : t = false → TD Y ds ops k pend L env0 K) (hd : env[d]? = some (.v (.bool t)) := by rfl) (h1 : env.set d (.v (.bool true)) = env1 := by simp only [List.set]; rfl) (h0 : env.set d (.v (.bool false)) = env0 := by simp only [List.set]; rfl) : TD Y ds ops k pend L env K := TD.splitN d hd h1 h0 k1 k0
end
end Go.Vel
end
