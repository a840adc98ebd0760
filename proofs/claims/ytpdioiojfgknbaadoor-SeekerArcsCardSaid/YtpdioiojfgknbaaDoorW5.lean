/- Texts for the statements of chapter 9: what all of them need, part 6. It holds of every program, tape and world that the statements name, as each theorem says. -/
import Derived.Conc.DeferLaws
import Derived.Test.YtpdioiojfgknbaaDoorProg
import Derived.Test.YtpdioiojfgknbaaDoorW2
import Derived.Test.YtpdioiojfgknbaaDoorW4
section
set_option linter.all false
set_option maxRecDepth 20000
set_option maxHeartbeats 60000000
namespace Go.Vel
open Go Go.Conc

/-! ### the equality of flat structs -/
/-- A scalar type, by what its values are. -/
def scalT (P : Program) (t : TypeId) : Bool := match P.underlying t with
 | some (.int _) => true
 | some .bool => true
 | some .string => true
 | _ => false
/-- The fields of a flat struct: types and places. -/
def flatF (P : Program) (t : TypeId) : Option (List (TypeId × Nat)) := match P.underlying t with
 | some (.struct fs) => if fs.toList.all (fun f => f.name != "_" && scalT P f.type) && !P.stoodInHeld t then some (fs.toList.map fun f => (f.type, f.offset)) else none
 | _ => none
/-- The equality of scalars. -/
def eqV : Value → Value → Option Bool
 | .int k a, .int k' b => if k = k' then some (a == b) else none
 | .bool a, .bool b => some (a == b)
 | .string a, .string b => some (a == b)
 | _, _ => none
def fitV (P : Program) (t : TypeId) (v : Value) : Bool := match P.underlying t, v with
 | some (.int _), .int _ _ => true
 | some .bool, .bool _ => true
 | some .string, .string _ => true
 | _, _ => false
section
variable {P : Program}
theorem fit_scal {t : TypeId} {v : Value} (h : fitV P t v = true) : scalT P t = true := by
 unfold fitV at h
 unfold scalT
 split at h <;> first | (rename_i heq; rw [heq]) | (rename_i heq _; rw [heq]) | (cases h)
theorem eq_scal {d : Nat} {t : TypeId} {v w : Value} {b : Bool} (h1 : fitV P t v = true) (h2 : fitV P t w = true) (h : eqV v w = some b) : pureS P (Op.equalIn (d + 1) t v w) = some b := by
 unfold Op.equalIn
 unfold fitV at h1 h2
 split at h1
 ·rename_i k k1 n1 e
  rw [e] at h2
  cases w <;> simp only [Bool.false_eq_true] at h2
  rename_i k2 n2
  simp only [eqV] at h
  split at h
  ·rename_i ek
   cases h
   refine pureS_bind (pureS_underlying e) ?_
   dsimp only
   rw [if_pos ek]; rfl
  ·cases h
 ·rename_i a e
  rw [e] at h2
  cases w <;> simp only [Bool.false_eq_true] at h2
  cases h
  exact pureS_bind (pureS_underlying e) rfl
 ·rename_i a e
  rw [e] at h2
  cases w <;> simp only [Bool.false_eq_true] at h2
  cases h
  exact pureS_bind (pureS_underlying e) rfl
 ·cases h1
theorem part_scal {t : TypeId} {cs : Array Value} {off : Nat} {v : Value} (hs : scalT P t = true) (h : cs[off]? = some v) : pureS P (part t cs off) = some v := by
 unfold part isAgg
 unfold scalT at hs
 refine pureS_bind (a := false) ?_ ?_
 ·split at hs <;> first | (rename_i e; exact pureS_bind (pureS_underlying e) rfl) | cases hs
 ·simp [h]; rfl
/-- Two rows of values, field by field. -/
inductive EqL (P : Program) (xs ys : Array Value) : List (TypeId × Nat) → List Bool → Prop
 | nil : EqL P xs ys [] []
 | cons {t : TypeId} {off : Nat} {v w : Value} {b : Bool} {l : List (TypeId × Nat)} {bs : List Bool} : xs[off]? = some v → ys[off]? = some w → fitV P t v = true → fitV P t w = true → eqV v w = some b → EqL P xs ys l bs → EqL P xs ys ((t, off) :: l) (b :: bs)
theorem eq_loop {xs ys : Array Value} (F : Field → Option Bool × Unit → Sem (ForInStep (Option Bool × Unit))) : ∀ {l : List (TypeId × Nat)} {bs : List Bool} (fl : List Field)
  (hF : ∀ f ∈ fl, ∀ v w b, xs[f.offset]? = some v → ys[f.offset]? = some w → fitV P f.type v = true → fitV P f.type w = true → eqV v w = some b → pureS P (F f (none, ())) = some (if b = true then .yield (none, ()) else .done (some false, ()))),
  fl.map (fun f => (f.type, f.offset)) = l → EqL P xs ys l bs → pureS P (forIn fl (none, ()) F) = some (if bs.all id = true then none else some false, ()) := by
 intro l bs fl hF hm h
 induction h generalizing fl with
 | nil =>
  cases fl with
  | nil => rfl
  | cons f fl => cases hm
 | @cons t off v w b l bs hv hw h1 h2 he _ ih =>
  cases fl with
  | nil => cases hm
  | cons f fl =>
   simp only [List.map_cons, List.cons.injEq, Prod.mk.injEq] at hm
   obtain ⟨⟨rfl, rfl⟩, hm⟩ := hm
   rw [List.forIn_cons]
   refine pureS_bind (hF f List.mem_cons_self v w b hv hw h1 h2 he) ?_
   cases b with
   | false => rfl
   | true =>
    simp only [if_true]
    rw [ih fl (fun f hf => hF f (List.mem_cons_of_mem _ hf)) hm]
    simp
theorem eq_flat {t : TypeId} {l : List (TypeId × Nat)} {xs ys : Array Value} {bs : List Bool} (hl : flatF P t = some l) (h : EqL P xs ys l bs) : pureS P (Op.equal t (.agg xs) (.agg ys)) = some (bs.all id) := by
 unfold flatF at hl
 split at hl
 ·rename_i fs hu
  split at hl
  ·rename_i hc
   simp only [Bool.and_eq_true, List.all_eq_true, Bool.not_eq_true'] at hc
   obtain ⟨hall, hst⟩ := hc
   show pureS _ (Op.equalIn (9999 + 1) t _ _) = _
   unfold Op.equalIn
   refine pureS_bind (pureS_underlying hu) ?_
   dsimp only
   refine pureS_bind (a := P) rfl ?_
   rw [hst]
   simp only [Bool.false_eq_true, if_false]
   refine pureS_bind (a := (if bs.all id = true then none else some false, ())) ?_ (by cases bs.all id <;> rfl)
   rw [← Array.forIn_toList]
   refine eq_loop _ fs.toList (fun f hf v w b hv hw h1 h2 he => ?_) (Option.some.inj hl) h
   have hn : f.name ≠ "_" := by have := (hall f hf).1; simpa using this
   have hs := (hall f hf).2
   rw [if_pos hn]
   refine pureS_bind (part_scal hs hv) (pureS_bind (part_scal hs hw) (pureS_bind (eq_scal (d := 9998) h1 h2 he) ?_))
   cases b <;> rfl
  ·cases hl
 ·cases hl
theorem EqL.consI {xs ys : Array Value} {t : TypeId} {off : Nat} {k k1 : IntKind} {a b : Int} {l : List (TypeId × Nat)} {bs : List Bool} (hu : P.underlying t = some (.int k)) (hx : xs[off]? = some (.int k1 a)) (hy : ys[off]? = some (.int k1 b)) (h : EqL P xs ys l bs) : EqL P xs ys ((t, off) :: l) ((a == b) :: bs) :=
 .cons hx hy (by unfold fitV; rw [hu]) (by unfold fitV; rw [hu]) (by simp [eqV]) h
theorem EqL.consB {xs ys : Array Value} {t : TypeId} {off : Nat} {a b : Bool} {l : List (TypeId × Nat)} {bs : List Bool} (hu : P.underlying t = some .bool) (hx : xs[off]? = some (.bool a)) (hy : ys[off]? = some (.bool b)) (h : EqL P xs ys l bs) : EqL P xs ys ((t, off) :: l) ((a == b) :: bs) :=
 .cons hx hy (by unfold fitV; rw [hu]) (by unfold fitV; rw [hu]) rfl h
theorem EqL.consS {xs ys : Array Value} {t : TypeId} {off : Nat} {a b : ByteArray} {l : List (TypeId × Nat)} {bs : List Bool} (hu : P.underlying t = some .string) (hx : xs[off]? = some (.string a)) (hy : ys[off]? = some (.string b)) (h : EqL P xs ys l bs) : EqL P xs ys ((t, off) :: l) ((a == b) :: bs) :=
 .cons hx hy (by unfold fitV; rw [hu]) (by unfold fitV; rw [hu]) rfl h
theorem guard_flat {op : BinOp} {t : TypeId} {x y : Operand} {xs ys : Array Value} (hop : op = .eql ∨ op = .neq) (hg : P.eqGuardType P.depth t = false) {s : Sem Value} {z : Value} (h : pureS P s = some z) : pureS P (eqGuard op t x y (.agg xs) (.agg ys) >>= fun _ => s) = some z := by
 refine pureS_bind (a := ()) ?_ h
 rcases hop with rfl | rfl
 all_goals
  unfold eqGuard
  show pureS P (if (!P.eqGuardType P.depth t) = true then pure () else _) = _
  rw [hg]
  rfl
class FlatF (P : Program) (t : TypeId) (l : outParam (List (TypeId × Nat))) : Prop where h : flatF P t = some l
class EqG (P : Program) (t : TypeId) : Prop where h : P.eqGuardType P.depth t = false
variable {gm : Nat → Option Nat} {V : KV} {env : List AV} {o : Oper}
theorem q_eqFlat {t : TypeId} {x y : Operand} {ax ay : AV} {xs ys : Array Value} {l : List (TypeId × Nat)} {bs : List Bool} (ho : o.op = .binOp .eql t x y t) (hx : opndO gm env x = some ax) (hy : opndO gm env y = some ay) (hvx : toV ax = some (.agg xs)) (hvy : toV ay = some (.agg ys)) (hl : flatF P t = some l) (hg : P.eqGuardType P.depth t = false)
  (h : EqL P xs ys l bs := by repeat (first | exact EqL.nil | apply EqL.consI Und.h rfl rfl | apply EqL.consB Und.h rfl rfl | apply EqL.consS Und.h rfl rfl)) : Qk P gm env V o (.v (.bool (bs.all id))) := fun A _ =>
 ok_bin ho (by rw [opndO_eq hx]; exact hvx) (by rw [opndO_eq hy]; exact hvy) (guard_flat (.inl rfl) hg (pureS_bind (eq_flat hl h) rfl))
theorem q_neqFlat {t : TypeId} {x y : Operand} {ax ay : AV} {xs ys : Array Value} {l : List (TypeId × Nat)} {bs : List Bool} (ho : o.op = .binOp .neq t x y t) (hx : opndO gm env x = some ax) (hy : opndO gm env y = some ay) (hvx : toV ax = some (.agg xs)) (hvy : toV ay = some (.agg ys)) (hl : flatF P t = some l) (hg : P.eqGuardType P.depth t = false)
  (h : EqL P xs ys l bs := by repeat (first | exact EqL.nil | apply EqL.consI Und.h rfl rfl | apply EqL.consB Und.h rfl rfl | apply EqL.consS Und.h rfl rfl)) : Qk P gm env V o (.v (.bool (!bs.all id))) := fun A _ =>
 ok_bin ho (by rw [opndO_eq hx]; exact hvx) (by rw [opndO_eq hy]; exact hvy) (guard_flat (.inr rfl) hg (pureS_bind (eq_flat hl h) rfl))
end
end Go.Vel
end
section
set_option linter.all false
set_option maxRecDepth 20000
set_option maxHeartbeats 60000000
namespace Go.Vel
open Go Go.Conc

section
variable {P : Program} {cg cn : Nat} {msg : Nat → Nat × Value}

/-- From beside leavers into the gathering, and back. -/
theorem bt_of_main {Ψ : Goroutine → World → Prop} (hmsg : ∀ i, (msg i).1 = cg ∨ (msg i).1 = cn) (hne : cg ≠ cn) {g : Goroutine} {H H' : Hp} {t1 t2 : Bool} (hg : H cg = some (true, .chan 0 #[] false 0 0 t1)) (hn : H cn = some (true, .chan 0 #[] false 0 0 t2))
  (hsub : ∀ b rw o, H' b = some (rw, o) → ∃ rw', H b = some (rw', o)) (hno : H' cg = none ∧ H' cn = none)
  (hM : okG g → MainT P cg cn msg (fun a Hs => okG a ∧ BT P Ψ a Hs) 0 (fun _ => false) g H') : BT P Ψ g H := by
 intro hok w hf τ d gs sl t q h0 hL hP
 have hf0 : Fits H (Go.Vel.on w τ d) := hf
 have hfits : Fits H' (Go.Vel.on w τ d) := fun b rw' o hb => let ⟨_, h⟩ := hsub b rw' o hb; hf0 b _ o h
 have hsz : 0 < gs.size := (Array.getElem?_eq_some_iff.1 h0).1
 have hact : ∀ i, ¬ ((fun i : Nat => if i < gs.size then WS.left (q i) else WS.left 0) i).act := fun i => by
  dsimp only
  split <;> exact fun h => h
 have hG : GInv P cg cn msg gs.size gs (Go.Vel.on w τ d) t 0 (fun _ => false) H' (fun i => if i < gs.size then .left (q i) else .left 0) := by
  refine ⟨hsz, rfl, hfits, fun i x hi hx => ?_, fun i hi => ?_, hL.above, ?_, ⟨0, t1, 0, t2, hf0 _ _ _ hg, hf0 _ _ _ hn⟩, fun i hi => ?_, fun i hi => absurd hi (Nat.not_lt_zero _), fun i _ _ => hact i, fun _ _ => rfl⟩
  ·have hlt : i < gs.size := (Array.getElem?_eq_some_iff.1 hx).1
   rw [if_pos hlt]
   exact hL.old i x hi hx
  ·rw [if_neg (by omega)]
  ·have hk := tinv_of_past hP H'
   exact ⟨hk.clean, hk.hears, hk.low, fun idx a ha hm => .inl ((hk.known idx a ha hm).elim id fun ⟨_, h, _⟩ => h.elim), fun i hi => absurd hi.2 (hact i), fun i hi => absurd hi.2 (hact i), fun i hi => absurd hi.2 (hact i), fun i k b o hi hk' hne' => by
    rcases hi with rfl | hi
    ·rcases hk' with rfl | hk'
     ·exact absurd rfl hne'
     ·exact absurd hk'.2 (hact k)
    ·exact absurd hi.2 (hact i)⟩
  ·rcases hi with rfl | hi
   ·exact hno
   ·exact absurd hi (hact i)
 obtain ⟨N, gs', w', sl', t', q', a', H2, hr, h0', _, ⟨hok', hBT⟩, hf', hL', hP', _, htp, hos, hout⟩ := gather hmsg hne (hM hok) gs (Go.Vel.on w τ d) sl t _ hG h0
 have ew : Go.Vel.on w' τ w'.drawn = w' := by
  have : w'.tape = τ := htp
  rw [← this]; rfl
 obtain ⟨M, gs2, a2, w2, d2, sl2, t2', q2, r2, g2, hψ, L2, P2⟩ := hBT hok' w' hf' τ w'.drawn gs' sl' t' q' h0' hL' hP'
 rw [ew] at r2
 exact ⟨N + M, gs2, a2, w2, d2, sl2, t2', q2, by rw [runNT_add N M _ _ _ _ hr]; exact r2, g2, ⟨⟨hψ.1.1.trans hos, hψ.1.2.trans hout⟩, hψ.2⟩, L2, P2⟩
end
end Go.Vel
end
section
set_option linter.all false
set_option maxRecDepth 20000
set_option maxHeartbeats 60000000
namespace Go.Vel
open Go Go.Conc

section
variable {P : Program} {gm : Nat → Option Nat} {T : Goroutine → Hp → Prop} {Y : KX P gm T} {ds : List Nat} {k : List Item} {env env' : List AV} {K K' : KV} {ops : Array Oper} {i : Nat} {o : Oper} {r : AV} {pend pend' : List Pd}

def dstOk (pend' : List Pd) (ops : Array Oper) (d : Option Nat) : Bool := match d with
 | some d => pend'.all fun p => !(p.s.elem d) && dstOf ops p.i != some d
 | none => true

/-- One of those that are ordered stands at the head. -/
theorem td_do {L L' : List Nat} (s : List Nat) (ho : ops[i]? = some o) (hw : wantA ops (onl s env) o = some true) (hp' : pendOf ops i pend = pend') (hraw : rawOk ops i s = true) (hdst : dstOk pend' ops o.dst = true) (hin : i ∈ L) (hsub : ∀ j ∈ L', j ∈ L ∧ j ≠ i) (hcov' : ∀ j ∈ L, j = i ∨ j ∈ L')
  (h : ExK Y (onl s env) K o fun r K' => (∀ p ∈ pend', ∀ x ∈ p.V, x ∈ K') ∧ TD Y ds ops k pend' L' (putA env o.dst r) K')
  (hj : ∀ p ∈ pend, Jq P gm ops env p) (hraws : ∀ p ∈ pend, rawP ops p.i p.s = true) {A : List AObj} (hA : Kn Y K A) {σ : List Nat} (hnd : (i :: σ).Nodup) (hresp : Resp ops (i :: σ)) (hsz : ∀ j ∈ i :: σ, j < ops.size) (hL : ∀ j ∈ L, j ∈ i :: σ) (hcov : ∀ j ∈ i :: σ, j ∈ L ∨ ∃ p ∈ pend, p.i = j)
  {φ : Nat → Loc3} {H : Hp} {ts : Array Value} (h1 : Agr Y.X.φ0 φ Y.X.n0) (h2 : Y.X.n0 ≤ A.length) (h3 : RelG gm φ A.length) (h4 : ∀ d ∈ ds, d < A.length) (h5 : RelH φ A Y.X.F H) (h6 : RelHid φ A.length (Hid ops pend (i :: σ)) env ts) :
  T (G (fr Y.X.kd Y.X.f Y.X.ro ts (dsC φ ds) (.inRegion ops (i :: σ) :: k)) Y.X.cs) H := by
 subst hp'
 have hrel := raw_rel hsz hresp hraw hraws h6
 refine h A hA ops i σ k (dsC φ ds) φ H ts ho (wantA_ok hrel hw) h3 h5 hrel fun r A' φ' H' v ⟨K', hk, hV', hq⟩ hA' hlen hH' hr => ?_
 have hds : dsC φ' ds = dsC φ ds := by
  unfold dsC
  exact List.map_congr_left fun d hd' => by rw [hA' d (h4 d hd')]
 rw [← hds]
 have hnd' := List.nodup_cons.1 hnd
 have hkeep : ∀ p ∈ pend, p.i ∈ σ → p ∈ pendOf ops i pend := fun p hp hm => by
  refine List.mem_filter.2 ⟨hp, ?_⟩
  simp only [Bool.not_eq_true']
  cases e : (edgesOf .any ops i).elem p.i with
  | false => rfl
  | true => exact absurd (List.mem_cons_of_mem _ hm) (hresp.1 p.i (by simpa using e))
 refine hq (fun p hp => ?_) (fun p hp => hraws p (List.mem_filter.1 hp).1) hV' A' (hA.step hk) σ hnd'.2 hresp.2 (fun j hj => hsz j (by simp [hj])) (fun j hj => ?_) (fun j hj => ?_) φ' H' _ (h1.trans hA' h2) (by omega) (h3.mono hA' hlen) (fun d hd' => Nat.lt_of_lt_of_le (h4 d hd') hlen) hH' ⟨?_, fun j a y ha hy hnh => ?_⟩
 ·have hj' : ∀ p ∈ pendOf ops i pend, Jq P gm ops env p := fun p hp => hj p (List.mem_filter.1 hp).1
  cases hdst' : o.dst with
  | none => exact hj' p hp
  | some d =>
   unfold dstOk at hdst
   rw [hdst'] at hdst
   exact jq_set hdst hj' p hp
 ·have hm := hsub j hj
  rcases List.mem_cons.1 (hL j hm.1) with e | e
  ·exact absurd e hm.2
  ·exact e
 ·rcases hcov j (by simp [hj]) with h7 | ⟨p, hp, e⟩
  ·rcases hcov' j h7 with rfl | h7
   ·exact absurd hj hnd'.1
   ·exact .inl h7
  ·exact .inr ⟨p, hkeep p hp (e ▸ hj), e⟩
 ·have : (putT ts o.dst v).size = ts.size := by cases o.dst <;> simp [putT, Act.put]
  rw [this, ← h6.1]; cases o.dst <;> simp [putA]
 ·have hback : o.dst ≠ some j → ts[j]? = some y → env[j]? = some a → RelV φ' A'.length a y := fun hne hy' ha' => by
   refine (h6.2 j a y ha' hy' fun ⟨p, hp, h8, h9⟩ => ?_).mono hA' hlen
   rcases List.mem_cons.1 h8 with e | h8
   ·rw [e] at h9; simp [dstOf, ho] at h9; exact hne h9
   ·exact hnh ⟨p, hkeep p hp h8, h8, h9⟩
  cases hdst' : o.dst with
  | none => rw [hdst'] at ha hy; exact hback (by rw [hdst']; simp) hy ha
  | some d =>
   rw [hdst'] at ha hy
   simp only [putA, putT, Act.put] at ha hy
   by_cases e : d = j
   ·subst e
    have hlt : d < env.length := by have := (List.getElem?_eq_some_iff.1 ha).1; simpa using this
    rw [List.getElem?_set_self hlt] at ha
    rw [Array.getElem?_setIfInBounds_self_of_lt (by rw [← h6.1]; exact hlt)] at hy
    cases ha; cases hy
    exact hr
   ·rw [List.getElem?_set_ne e] at ha
    rw [Array.getElem?_setIfInBounds_ne e] at hy
    exact hback (by rw [hdst']; simpa using e) hy ha

/-- Two may come next. -/
theorem TD.c2 {i1 i2 : Nat} {o1 o2 : Oper} {L L1 L2 : List Nat} {pend1 pend2 : List Pd} (s1 s2 : List Nat) (ho1 : ops[i1]? = some o1) (ho2 : ops[i2]? = some o2) (hw1 : wantA ops (onl s1 env) o1 = some true) (hw2 : wantA ops (onl s2 env) o2 = some true) (hp1 : pendOf ops i1 pend = pend1) (hp2 : pendOf ops i2 pend = pend2)
  (hc : (rawOk ops i1 s1 && rawOk ops i2 s2 && dstOk pend1 ops o1.dst && dstOk pend2 ops o2.dst && L.elem i1 && L.elem i2 && L1.all (fun j => L.elem j && j != i1) && L2.all (fun j => L.elem j && j != i2) && L.all (fun j => j == i1 || L1.elem j) && L.all (fun j => j == i2 || L2.elem j) && L.all (fun j => j == i1 || j == i2 || (edgesOf .any ops j).any fun e => L.elem e)) = true)
  (h1 : ExK Y (onl s1 env) K o1 fun r K' => (∀ p ∈ pend1, ∀ x ∈ p.V, x ∈ K') ∧ TD Y ds ops k pend1 L1 (putA env o1.dst r) K') (h2 : ExK Y (onl s2 env) K o2 fun r K' => (∀ p ∈ pend2, ∀ x ∈ p.V, x ∈ K') ∧ TD Y ds ops k pend2 L2 (putA env o2.dst r) K') : TD Y ds ops k pend L env K := fun hj hraw hV A hA σ => by
 simp only [Bool.and_eq_true, List.all_eq_true, Bool.or_eq_true, beq_iff_eq, bne_iff_ne, List.elem_eq_mem, decide_eq_true_eq] at hc
 obtain ⟨⟨⟨⟨⟨⟨⟨⟨⟨⟨q1, q2⟩, q3⟩, q4⟩, q5⟩, q6⟩, q7⟩, q8⟩, q9⟩, q10⟩, q11⟩ := hc
 induction σ with
 | nil =>
  intro _ _ _ hL
  exact absurd (hL i1 q5) (by simp)
 | cons c σ ih =>
  intro hnd hresp hsz hL hcov φ H ts e1 e2 e3 e4 e5 e6
  by_cases hc1 : c = i1
  ·subst hc1
   exact td_do s1 ho1 hw1 hp1 q1 q3 q5 q7 q9 h1 hj hraw hA hnd hresp hsz hL hcov e1 e2 e3 e4 e5 e6
  by_cases hc2 : c = i2
  ·subst hc2
   exact td_do s2 ho2 hw2 hp2 q2 q4 q6 q8 q10 h2 hj hraw hA hnd hresp hsz hL hcov e1 e2 e3 e4 e5 e6
  have hnd' := List.nodup_cons.1 hnd
  have hno : c ∉ L := fun hm => by
   rcases q11 c hm with (h | h) | h
   ·exact hc1 h
   ·exact hc2 h
   ·rw [List.any_eq_true] at h
    obtain ⟨e, he1, he2⟩ := h
    exact hresp.1 e he1 (hL e (by simpa using he2))
  rcases hcov c (by simp) with h7 | ⟨p, hp, e⟩
  ·exact absurd h7 hno
  ·refine td_fire hp e (hj p hp) hraw (hV p hp) hA hnd hsz hresp e1 e2 e3 e4 e5 e6 fun φ H ts h1 h3 h5 h6 =>
    ih hnd'.2 hresp.2 (fun j hj => hsz j (by simp [hj])) (fun j hj => ?_) (fun j hj => hcov j (by simp [hj])) φ H ts h1 e2 h3 e4 h5 h6
   rcases List.mem_cons.1 (hL j hj) with h8 | h8
   ·exact absurd (h8 ▸ hj) hno
   ·exact h8

theorem exK_newP {s L' : List Nat} {ob : AObj} {envf : Nat → List AV} (hd : isDefer o.op = false) (hq : Nk P gm (onl s env) K o (fun j => .ptr j 0) ob) (he : ∀ j, putA env o.dst (.ptr j 0) = envf j) (hv : ∀ p ∈ pend', ∀ x ∈ p.V, x ∈ K) (h : ∀ j, j ∉ keys K → TD Y ds ops k pend' L' (envf j) ((j, ob) :: K)) :
  ExK Y (onl s env) K o fun r K' => (∀ p ∈ pend', ∀ x ∈ p.V, x ∈ K') ∧ TD Y ds ops k pend' L' (putA env o.dst r) K' :=
 exK_op hd fun A hv' hn => ⟨_, _, _, hq A hv', .push hv' hn ob, fun p hp x hx => List.mem_cons_of_mem _ (hv p hp x hx), by dsimp only; rw [he]; exact h _ fun hm => absurd (hv'.lt hm) (Nat.lt_irrefl _)⟩
theorem exK_newR {s L' : List Nat} {n : Nat} {ob : AObj} {envf : Nat → List AV} (hd : isDefer o.op = false) (hq : Nk P gm (onl s env) K o (fun j => .row j n) ob) (he : ∀ j, putA env o.dst (.row j n) = envf j) (hv : ∀ p ∈ pend', ∀ x ∈ p.V, x ∈ K) (h : ∀ j, j ∉ keys K → TD Y ds ops k pend' L' (envf j) ((j, ob) :: K)) :
  ExK Y (onl s env) K o fun r K' => (∀ p ∈ pend', ∀ x ∈ p.V, x ∈ K') ∧ TD Y ds ops k pend' L' (putA env o.dst r) K' :=
 exK_op hd fun A hv' hn => ⟨_, _, _, hq A hv', .push hv' hn ob, fun p hp x hx => List.mem_cons_of_mem _ (hv p hp x hx), by dsimp only; rw [he]; exact h _ fun hm => absurd (hv'.lt hm) (Nat.lt_irrefl _)⟩
theorem exK_callO {fo : Operand} {ars : Array Operand} {at_ : Array TypeId} {g : FuncId} {fs cp args : List AV} {Kf R : KV} {Post : AV → KV → Prop} (hop : o.op = .call { callee := .value fo, args := ars, argTypes := at_ })
  (hf : opndO gm env fo = some (.fn g fs cp)) (hg : callable P g = true) (hargs : fs ++ ars.toList.map (opnd gm env) ++ cp = args) (hc : CallK P T gm g args Kf Post) (hs : Split K Kf R) {Q : AV → KV → Prop} (hq : ∀ r K', Post r K' → Q r (K' ++ R)) : ExK Y env K o Q := exK_call hop (opndO_eq hf) hg hargs hc hs hq
end
end Go.Vel
end
section
set_option linter.all false
set_option maxRecDepth 20000
set_option maxHeartbeats 60000000
namespace Go.Vel
open Go Go.Conc
open Go.ConcN (upd)

section
variable {P : Program} {gm : Nat → Option Nat} {T : Goroutine → Hp → Prop} {Y : KX P gm T} {ds : List Nat} {k : List Item} {env env' : List AV} {K K' : KV} {ops : Array Oper} {i : Nat} {rest : List Nat} {o : Oper} {r : AV} {pend pend' : List Pd} {V : KV}

theorem inv_chan {φ : Nat → Loc3} {n i : Nat} {y : Value} (h : RelV φ n (.chan i) y) : i < n ∧ y = .chan (some (φ i).blk) := by cases h; exact ⟨‹_›, rfl⟩
theorem n_makeChan {t e : TypeId} {ti : TypeInfo} {d : ChanDir} (ho : o.op = .makeChan t (.const (.int .i64 0))) (ht : P.underlying t = some (.chan d e)) (hi : P.info? e = some ti) : Nk P gm env V o (fun j => .chan j) (.raw (.chan 0 #[] false 0 0 false)) := fun A _ φ F H a hg hH hE => by
 unfold execOp; rw [ho]
 refine wpS_v ?_
 unfold Instr.makeChan
 refine wpS_bind_eq _ _ _ ?_
 show wpS P (underlying t >>= _) H _
 refine wpS_bind_eq _ _ _ (wpS_underlying ht ?_)
 dsimp only
 refine wpS_bind_eq _ _ _ (wpS_typeInfo hi ?_)
 rw [if_neg (by have : IntKind.i64.max = 9223372036854775807 := rfl; omega)]
 refine wpS_bind_eq _ _ _ ?_
 intro r hr
 refine ⟨_, upd3 φ A.length ⟨r, 0, 0⟩, .inl rfl, agr_upd3 _ _ _, by simp, hH.push hr rfl (Hp.put_same _ _ _), ?_⟩
 have := RelV.chan (φ := upd3 φ A.length ⟨r, 0, 0⟩) (n := (A ++ [AObj.raw (.chan 0 #[] false 0 0 false)]).length) (i := A.length) (by simp)
 simpa [upd3] using this

/-- Some may come next. -/
theorem TD.cM {L : List Nat} (M : List Nat) (hM : (!M.isEmpty && M.all (fun j => L.elem j) && L.all (fun j => M.elem j || (edgesOf .any ops j).any fun e => L.elem e)) = true)
  (h : ∀ m ∈ M, ∃ (s : List Nat) (o : Oper) (pend' : List Pd) (L' : List Nat), ops[m]? = some o ∧ wantA ops (onl s env) o = some true ∧ pendOf ops m pend = pend' ∧ (rawOk ops m s && dstOk pend' ops o.dst && L'.all (fun j => L.elem j && j != m) && L.all (fun j => j == m || L'.elem j)) = true ∧
   ExK Y (onl s env) K o fun r K' => (∀ p ∈ pend', ∀ x ∈ p.V, x ∈ K') ∧ TD Y ds ops k pend' L' (putA env o.dst r) K') : TD Y ds ops k pend L env K := fun hj hraw hV A hA σ => by
 simp only [Bool.and_eq_true, List.all_eq_true, Bool.or_eq_true, List.elem_eq_mem, decide_eq_true_eq, Bool.not_eq_true', List.isEmpty_eq_false_iff] at hM
 obtain ⟨⟨q1, q2⟩, q3⟩ := hM
 induction σ with
 | nil =>
  intro _ _ _ hL
  obtain ⟨m, hm⟩ := List.exists_mem_of_ne_nil M q1
  exact absurd (hL m (q2 m hm)) (by simp)
 | cons c σ ih =>
  intro hnd hresp hsz hL hcov φ H ts e1 e2 e3 e4 e5 e6
  by_cases hcM : c ∈ M
  ·obtain ⟨s, o, pend', L', ho, hw, hp, hc, hx⟩ := h c hcM
   simp only [Bool.and_eq_true, List.all_eq_true, Bool.or_eq_true, beq_iff_eq, bne_iff_ne, List.elem_eq_mem, decide_eq_true_eq] at hc
   obtain ⟨⟨⟨p1, p2⟩, p3⟩, p4⟩ := hc
   exact td_do s ho hw hp p1 p2 (q2 c hcM) p3 p4 hx hj hraw hA hnd hresp hsz hL hcov e1 e2 e3 e4 e5 e6
  have hnd' := List.nodup_cons.1 hnd
  have hno : c ∉ L := fun hm => by
   rcases q3 c hm with h | h
   ·exact hcM h
   ·rw [List.any_eq_true] at h
    obtain ⟨e, he1, he2⟩ := h
    exact hresp.1 e he1 (hL e (by simpa using he2))
  rcases hcov c (by simp) with h7 | ⟨p, hp, e⟩
  ·exact absurd h7 hno
  ·refine td_fire hp e (hj p hp) hraw (hV p hp) hA hnd hsz hresp e1 e2 e3 e4 e5 e6 fun φ H ts h1 h3 h5 h6 =>
    ih hnd'.2 hresp.2 (fun j hj => hsz j (by simp [hj])) (fun j hj => ?_) (fun j hj => hcov j (by simp [hj])) φ H ts h1 e2 h3 e4 h5 h6
   rcases List.mem_cons.1 (hL j hj) with h8 | h8
   ·exact absurd (h8 ▸ hj) hno
   ·exact h8
theorem exK_st {s L' : List Nat} {j : Nat} {ob ob' : AObj} (hd : isDefer o.op = false) (hq : ∀ A, View K A → OpOk P gm (onl s env) A o r (A.set j ob')) (hu : Upd K j ob j ob' K') (he : putA env o.dst r = env') (hv : ∀ p ∈ pend', ∀ x ∈ p.V, x ∈ K') (h : TD Y ds ops k pend' L' env' K') :
  ExK Y (onl s env) K o fun r K' => (∀ p ∈ pend', ∀ x ∈ p.V, x ∈ K') ∧ TD Y ds ops k pend' L' (putA env o.dst r) K' :=
 exK_op hd fun A hv' hn => ⟨r, _, K', hq A hv', .set hv' hn hu, hv, by rw [he]; exact h⟩
theorem exK_newC {s L' : List Nat} {ob : AObj} {envf : Nat → List AV} (hd : isDefer o.op = false) (hq : Nk P gm (onl s env) K o (fun j => .chan j) ob) (he : ∀ j, putA env o.dst (.chan j) = envf j) (hv : ∀ p ∈ pend', ∀ x ∈ p.V, x ∈ K) (h : ∀ j, j ∉ keys K → TD Y ds ops k pend' L' (envf j) ((j, ob) :: K)) :
  ExK Y (onl s env) K o fun r K' => (∀ p ∈ pend', ∀ x ∈ p.V, x ∈ K') ∧ TD Y ds ops k pend' L' (putA env o.dst r) K' :=
 exK_op hd fun A hv' hn => ⟨_, _, _, hq A hv', .push hv' hn ob, fun p hp x hx => List.mem_cons_of_mem _ (hv p hp x hx), by dsimp only; rw [he]; exact h _ fun hm => absurd (hv'.lt hm) (Nat.lt_irrefl _)⟩
end

/-! ### a worker -/
section
variable {P : Program}
def bot (P : Program) : Frame := { (default : Frame) with fn := P.funcs.size, defers := [], mode := .panicking [goexitEntry] }

theorem birth {main : Bool} {g : FuncId} (hg : callable P g = true) (xs ys : Array Value) (w : World) : stepG P main (born P { target := .fn (.func g) ys, args := xs }) w = .go (G (Frame.enter P g (xs ++ ys) .deferred) [bot P]) w #[] := by
 unfold callable at hg
 split at hg
 ·rename_i fn e
  simp only [Bool.and_eq_true, Bool.not_eq_true'] at hg
  have hb : fn.body.isNone = false := by
   cases e' : fn.body with
   | none => rw [e'] at hg; simp at hg
   | some _ => rfl
  have hr : (callFunc g (xs ++ ys)).runT P w #[] = (.ok (.enter g (xs ++ ys)) w, #[]) := by
   show (match P.funcs[g]? with | none => _ | some fn => _ : Sem Next).runT P w #[] = _
   rw [e]
   simp only [hg.1, hb, Bool.false_eq_true, if_false]
   rfl
  obtain ⟨e1, e2⟩ := runT_pair hr
  simp [born, stepG, unwind, callDeferred, invoke, Sem.runT_eq, e1, e2, seen, GStep.after, G, bot]
 ·cases hg

/-- A worker that has sent, and ends by a return. -/
theorem quits_leave {g : FuncId} {fn : Func} {ts : Array Value} {k : List Item} (hf : P.funcs[g]? = some fn) (hr : fn.results = #[]) : QuitsD P 3 0 (G { fr .deferred g none ts [] k with mode := .returning } [bot P]) := by
 right
 refine ⟨rfl, G (bot P) [], #[], fun e he => by simp at he, fun w => ?_, ?_⟩
 ·have : (results fn ts).runT P w #[] = (.ok (.tuple #[]) w, #[]) := by
   unfold results
   rw [hr, Array.mapM_eq_mapM_toList]
   rfl
  obtain ⟨e1, e2⟩ := runT_pair this
  simp [G, stepG, unwind, fr, hf, Sem.runT_eq, e1, e2, GStep.after, seen, doReturn, bot, goexitEntry]
 ·right
  refine ⟨rfl, { frame := bot P, callers := [], status := .finished, dying := none }, #[], fun e he => by simp at he, fun w => ?_, ?_⟩
  ·have : (default : Frame).todo = [] := rfl
   simp [G, stepG, unwind, bot, Frame.catches, goexitEntry, this]
  ·left
   exact ⟨rfl, rfl⟩
theorem quits_ctl {n : Nat} {g g' : Goroutine} (hs : g.status = .running) (h : ∀ w, stepG P false g w = .go g' w #[]) (hq : QuitsD P n 0 g') : QuitsD P (n + 1) 0 g := .inr ⟨hs, g', #[], fun e he => by simp at he, h, hq⟩
theorem quits_ret {g : FuncId} {fn : Func} {ops : Array Oper} {ts : Array Value} {k : List Item} (hf : P.funcs[g]? = some fn) (hr : fn.results = #[]) : QuitsD P 5 0 (G (fr .deferred g none ts [] (.inRegion ops [] :: .code .ret :: k)) [bot P]) :=
 quits_ctl rfl (fun _ => sf_region_end) (quits_ctl rfl (fun _ => sf_ret) (quits_leave hf hr))
theorem quits_end {g : FuncId} {fn : Func} {ops : Array Oper} {ts : Array Value} (hf : P.funcs[g]? = some fn) (hr : fn.results = #[]) : QuitsD P 5 0 (G (fr .deferred g none ts [] [.inRegion ops []]) [bot P]) :=
 quits_ctl rfl (fun _ => sf_region_end) (quits_ctl rfl (fun _ => sf_end) (quits_leave hf hr))

variable {gm : Nat → Option Nat} {m : Nat × Value} {Y : KX P gm (TreeW P (AtSend P m))} {env : List AV} {K : KV} {ops : Array Oper} {i : Nat} {o : Oper} {k : List Item}
/-- It sends. -/
theorem TK.sendW {c x : Operand} {u : AV} (ho : ops[i]? = some o) (hop : o.op = .send c x) (hw : wantA ops env o = some true) (hc : opndO gm env c = some (.v (.chan (some m.1)))) (hx : opndO gm env x = some u) (hu : toV u = some m.2)
  (hkd : Y.X.kd = .deferred) (hro : Y.X.ro = none) (hcs : Y.X.cs = [bot P]) (hq : ∀ ts, QuitsD P 5 0 (G (fr .deferred Y.X.f none ts [] (.inRegion ops [] :: k)) [bot P])) : TK Y [] (.inRegion ops [i] :: k) env K := fun A hA φ H ts h1 h2 h3 h4 h5 h6 => by
 refine .stop ⟨G (fr Y.X.kd Y.X.f Y.X.ro ts (dsC φ []) (.inRegion ops [i] :: k)) Y.X.cs, .tuple #[], 5, rfl, ?_, fun w hf => ⟨#[], ?_, fun e he => by simp at he⟩⟩
 ·have hfin := fr_finish Y.X.kd Y.X.f Y.X.ro ts (dsC φ []) ops i [] k undef
  simp only [Go.Conc.served, G] at *
  rw [hfin, hkd, hro, hcs]
  exact hq _
 ·have e1 := opnd_rel (a := ⟨ts, []⟩) h3 h6 c
  rw [opndO_eq hc] at e1
  have e2 := opnd_rel (a := ⟨ts, []⟩) h3 h6 x
  rw [opndO_eq hx] at e2
  have e1' : evT ts c = .chan (some m.1) := inv_v e1
  have e2' : evT ts x = m.2 := toV_rel hu e2
  rw [sf_oper Y.X.hkd ho (wantA_ok h6 hw) (by rw [hop]; rfl)]
  have hex : execOp (evT ts) o = pure (.comm #[scase m.1 m.2 (.tuple #[])] true .send) := by
   unfold execOp
   rw [hop]
   dsimp only
   rw [e1', e2']
   rfl
  rw [hex]
  simp [stepG.apply, Sem.runT, fr, GStep.after, seen, pure]
  rfl
end
end Go.Vel
end
section
set_option linter.all false
set_option maxRecDepth 20000
set_option maxHeartbeats 60000000
namespace Go.Vel
open Go Go.Conc
/-! ### drawn regions, short -/
section
variable {P : Program} {gm : Nat → Option Nat} {T : Goroutine → Hp → Prop} {Y : KX P gm T} {ds : List Nat} {k : List Item} {env env' : List AV} {K K' : KV} {ops : Array Oper} {i d : Nat} {L' : List Nat} {o : Oper} {r : AV} {pend pend' : List Pd}
/-- A quiet one that looks at no object. -/
theorem TD.z (s : List Nat) (ho : ops[i]? = some o) (hq : ∀ A, View [] A → OpOk P gm (onl s env) A o r A) (h : TD Y ds ops k (⟨i, s, []⟩ :: pend) L' env' K) (hd : isDefer o.op = false := by rfl) (hw : wantA ops (onl s env) o = some true := by rfl) (hc : chkQ ops pend s i env.length o.dst = true := by rfl) (hx : o.dst = some d := by rfl) (he : env.set d r = env' := by simp only [List.set]; rfl) : TD Y ds ops k pend (i :: L') env K :=
 TD.q s [] ho hd hw hc (by simp) hq (putS hx he) h
/-- One that looks at one. -/
theorem TD.y (s : List Nat) {x : Nat × AObj} (ho : ops[i]? = some o) (hm : x ∈ K := by repeat (first | exact List.Mem.head _ | assumption | apply List.Mem.tail)) (hq : ∀ A, View [x] A → OpOk P gm (onl s env) A o r A) (h : TD Y ds ops k (⟨i, s, [x]⟩ :: pend) L' env' K) (hd : isDefer o.op = false := by rfl) (hw : wantA ops (onl s env) o = some true := by rfl) (hc : chkQ ops pend s i env.length o.dst = true := by rfl) (hx : o.dst = some d := by rfl) (he : env.set d r = env' := by simp only [List.set]; rfl) : TD Y ds ops k pend (i :: L') env K :=
 TD.q s [x] ho hd hw hc (fun y hy => by rw [List.mem_singleton.1 hy]; exact hm) hq (putS hx he) h
/-- One that is left out. -/
theorem TD.u (s : List Nat) (ho : ops[i]? = some o) (h : TD Y ds ops k (⟨i, s, []⟩ :: pend) L' env' K) (hw : wantA ops (onl s env) o = some false := by rfl) (hc : chkQ ops pend s i env.length o.dst = true := by rfl) (he : putA env o.dst (.v undef) = env' := by first | exact putS rfl (by simp only [List.set]; rfl) | exact putN rfl) : TD Y ds ops k pend (i :: L') env K :=
 TD.unwanted s ho hw hc he h
/-- A store. -/
theorem TD.s {j : Nat} {ob ob' : AObj} (s : List Nat) (ho : ops[i]? = some o) (hp' : pendOf ops i pend = pend') (hq : ∀ A, View K A → OpOk P gm (onl s env) A o r (A.set j ob')) (h : TD Y ds ops k pend' L' env K') (hu : Upd K j ob j ob' K' := by repeat (first | exact Upd.head | apply Upd.tail)) (hv : ∀ p ∈ pend', ∀ x ∈ p.V, x ∈ K' := by simp) (hd : isDefer o.op = false := by rfl) (hw : wantA ops (onl s env) o = some true := by rfl) (hc : chkC ops pend' L' s i o.dst = true := by rfl) (hx : o.dst = none := by rfl) : TD Y ds ops k pend (i :: L') env K :=
 TD.cst s ho hd hw hp' hc hq hu (putN hx) hv h
/-- An assignment. -/
theorem TD.as (s : List Nat) (ho : ops[i]? = some o) (hp' : pendOf ops i pend = pend') (hq : Qk P gm (onl s env) K o r) (h : TD Y ds ops k pend' L' env' K) (hv : ∀ p ∈ pend', ∀ x ∈ p.V, x ∈ K := by simp) (hd : isDefer o.op = false := by rfl) (hw : wantA ops (onl s env) o = some true := by rfl) (hc : chkC ops pend' L' s i o.dst = true := by rfl) (hx : o.dst = some d := by rfl) (he : env.set d r = env' := by simp only [List.set]; rfl) : TD Y ds ops k pend (i :: L') env K :=
 TD.cq s ho hd hw hp' hc hq (putS hx he) hv h
/-- A call. -/
theorem TD.cl {fo : Operand} {ars : Array Operand} {at_ : Array TypeId} {g : FuncId} {fs cp args : List AV} {Kf R : KV} {Post : AV → KV → Prop} (s : List Nat) (ho : ops[i]? = some o) (hp' : pendOf ops i pend = pend') (hop : o.op = .call { callee := .value fo, args := ars, argTypes := at_ })
  (hf : opndO gm (onl s env) fo = some (.fn g fs cp)) (hargs : fs ++ ars.toList.map (opnd gm (onl s env)) ++ cp = args) (hc : CallK P T gm g args Kf Post)
  (h : ∀ r K', Post r K' → (∀ p ∈ pend', ∀ x ∈ p.V, x ∈ K' ++ R) ∧ TD Y ds ops k pend' L' (env.set d r) (K' ++ R)) (hs : Split K Kf R := by repeat (first | exact Split.none _ | exact Split.all _ | (apply Split.rem; repeat (first | exact Rem.head | apply Rem.tail)) | apply Split.right)) (hw : wantA ops (onl s env) o = some true := by rfl) (hc' : chkC ops pend' L' s i o.dst = true := by rfl) (hg : callable P g = true := by exact Cal.h) (hx : o.dst = some d := by rfl) : TD Y ds ops k pend (i :: L') env K :=
 TD.call' s ho hw hp' hc' hop hf hg hargs hc hs fun r K' hp => by rw [hx]; exact h r K' hp
end
end Go.Vel
end
section
set_option linter.all false
set_option maxRecDepth 20000
set_option maxHeartbeats 60000000
namespace Go.Vel
open Go Go.Conc Go.Proofs
instance : ApOf Tryd.prog 105 30 1 24 := ⟨by kernel_rfl⟩
instance : ApOf Tryd.prog 24 45 5 48 := ⟨by kernel_rfl⟩
instance : ApOf Tryd.prog 25 47 2 16 := ⟨by kernel_rfl⟩
instance : ApOf Tryd.prog 30 3 1 8 := ⟨by kernel_rfl⟩
instance : ApOf Tryd.prog 71 81 4 32 := ⟨by kernel_rfl⟩
instance : ApOf Tryd.prog 90 89 2 16 := ⟨by kernel_rfl⟩
instance : ApOf Tryd.prog 95 101 2 32 := ⟨by kernel_rfl⟩
instance : ArEl Tryd.prog 124 3 123 false 1 := ⟨by kernel_rfl⟩
instance : ArEl Tryd.prog 129 3 128 false 1 := ⟨by kernel_rfl⟩
instance : ArEl Tryd.prog 79 3 3 false 1 := ⟨by kernel_rfl⟩
instance : BlOf Tryd.prog 101 [(0, 1), (1, 1)] := ⟨by kernel_rfl⟩
instance : BlOf Tryd.prog 23 [(0, 1), (1, 1)] := ⟨by kernel_rfl⟩
instance : BlOf Tryd.prog 27 [(0, 1), (1, 1), (2, 2), (4, 1), (5, 1)] := ⟨by kernel_rfl⟩
instance : BlOf Tryd.prog 45 [(0, 1), (1, 1), (2, 1), (3, 1), (4, 1)] := ⟨by kernel_rfl⟩
instance : BlOf Tryd.prog 47 [(0, 1), (1, 1)] := ⟨by kernel_rfl⟩
instance : BlOf Tryd.prog 70 [(0, 6)] := ⟨by kernel_rfl⟩
instance : BlOf Tryd.prog 74 [(0, 6), (6, 1), (7, 1)] := ⟨by kernel_rfl⟩
instance : BlOf Tryd.prog 81 [(0, 1), (1, 3)] := ⟨by kernel_rfl⟩
instance : BlOf Tryd.prog 89 [(0, 1), (1, 1)] := ⟨by kernel_rfl⟩
instance : Cal Tryd.prog 10 := ⟨by kernel_rfl⟩
instance : Cal Tryd.prog 100 := ⟨by kernel_rfl⟩
instance : Cal Tryd.prog 101 := ⟨by kernel_rfl⟩
instance : Cal Tryd.prog 103 := ⟨by kernel_rfl⟩
instance : Cal Tryd.prog 11 := ⟨by kernel_rfl⟩
instance : Cal Tryd.prog 119 := ⟨by kernel_rfl⟩
instance : Cal Tryd.prog 12 := ⟨by kernel_rfl⟩
instance : Cal Tryd.prog 121 := ⟨by kernel_rfl⟩
instance : Cal Tryd.prog 122 := ⟨by kernel_rfl⟩
instance : Cal Tryd.prog 123 := ⟨by kernel_rfl⟩
instance : Cal Tryd.prog 124 := ⟨by kernel_rfl⟩
instance : Cal Tryd.prog 125 := ⟨by kernel_rfl⟩
instance : Cal Tryd.prog 126 := ⟨by kernel_rfl⟩
instance : Cal Tryd.prog 127 := ⟨by kernel_rfl⟩
instance : Cal Tryd.prog 128 := ⟨by kernel_rfl⟩
instance : Cal Tryd.prog 129 := ⟨by kernel_rfl⟩
instance : Cal Tryd.prog 13 := ⟨by kernel_rfl⟩
instance : Cal Tryd.prog 130 := ⟨by kernel_rfl⟩
instance : Cal Tryd.prog 14 := ⟨by kernel_rfl⟩
instance : Cal Tryd.prog 15 := ⟨by kernel_rfl⟩
instance : Cal Tryd.prog 16 := ⟨by kernel_rfl⟩
instance : Cal Tryd.prog 17 := ⟨by kernel_rfl⟩
instance : Cal Tryd.prog 18 := ⟨by kernel_rfl⟩
instance : Cal Tryd.prog 21 := ⟨by kernel_rfl⟩
instance : Cal Tryd.prog 22 := ⟨by kernel_rfl⟩
instance : Cal Tryd.prog 23 := ⟨by kernel_rfl⟩
instance : Cal Tryd.prog 24 := ⟨by kernel_rfl⟩
instance : Cal Tryd.prog 25 := ⟨by kernel_rfl⟩
instance : Cal Tryd.prog 26 := ⟨by kernel_rfl⟩
instance : Cal Tryd.prog 27 := ⟨by kernel_rfl⟩
instance : Cal Tryd.prog 28 := ⟨by kernel_rfl⟩
instance : Cal Tryd.prog 29 := ⟨by kernel_rfl⟩
instance : Cal Tryd.prog 30 := ⟨by kernel_rfl⟩
instance : Cal Tryd.prog 31 := ⟨by kernel_rfl⟩
instance : Cal Tryd.prog 32 := ⟨by kernel_rfl⟩
instance : Cal Tryd.prog 33 := ⟨by kernel_rfl⟩
instance : Cal Tryd.prog 34 := ⟨by kernel_rfl⟩
instance : Cal Tryd.prog 35 := ⟨by kernel_rfl⟩
instance : Cal Tryd.prog 36 := ⟨by kernel_rfl⟩
instance : Cal Tryd.prog 37 := ⟨by kernel_rfl⟩
instance : Cal Tryd.prog 38 := ⟨by kernel_rfl⟩
instance : Cal Tryd.prog 39 := ⟨by kernel_rfl⟩
instance : Cal Tryd.prog 40 := ⟨by kernel_rfl⟩
instance : Cal Tryd.prog 41 := ⟨by kernel_rfl⟩
instance : Cal Tryd.prog 42 := ⟨by kernel_rfl⟩
instance : Cal Tryd.prog 43 := ⟨by kernel_rfl⟩
instance : Cal Tryd.prog 44 := ⟨by kernel_rfl⟩
instance : Cal Tryd.prog 45 := ⟨by kernel_rfl⟩
instance : Cal Tryd.prog 46 := ⟨by kernel_rfl⟩
instance : Cal Tryd.prog 47 := ⟨by kernel_rfl⟩
instance : Cal Tryd.prog 48 := ⟨by kernel_rfl⟩
instance : Cal Tryd.prog 49 := ⟨by kernel_rfl⟩
instance : Cal Tryd.prog 50 := ⟨by kernel_rfl⟩
instance : Cal Tryd.prog 51 := ⟨by kernel_rfl⟩
instance : Cal Tryd.prog 52 := ⟨by kernel_rfl⟩
instance : Cal Tryd.prog 53 := ⟨by kernel_rfl⟩
instance : Cal Tryd.prog 54 := ⟨by kernel_rfl⟩
instance : Cal Tryd.prog 55 := ⟨by kernel_rfl⟩
instance : Cal Tryd.prog 56 := ⟨by kernel_rfl⟩
instance : Cal Tryd.prog 57 := ⟨by kernel_rfl⟩
instance : Cal Tryd.prog 58 := ⟨by kernel_rfl⟩
instance : Cal Tryd.prog 59 := ⟨by kernel_rfl⟩
instance : Cal Tryd.prog 60 := ⟨by kernel_rfl⟩
instance : Cal Tryd.prog 61 := ⟨by kernel_rfl⟩
instance : Cal Tryd.prog 62 := ⟨by kernel_rfl⟩
instance : Cal Tryd.prog 63 := ⟨by kernel_rfl⟩
instance : Cal Tryd.prog 64 := ⟨by kernel_rfl⟩
instance : Cal Tryd.prog 65 := ⟨by kernel_rfl⟩
instance : Cal Tryd.prog 66 := ⟨by kernel_rfl⟩
instance : Cal Tryd.prog 67 := ⟨by kernel_rfl⟩
instance : Cal Tryd.prog 68 := ⟨by kernel_rfl⟩
instance : Cal Tryd.prog 7 := ⟨by kernel_rfl⟩
instance : Cal Tryd.prog 71 := ⟨by kernel_rfl⟩
instance : Cal Tryd.prog 72 := ⟨by kernel_rfl⟩
instance : Cal Tryd.prog 73 := ⟨by kernel_rfl⟩
instance : Cal Tryd.prog 74 := ⟨by kernel_rfl⟩
instance : Cal Tryd.prog 75 := ⟨by kernel_rfl⟩
instance : Cal Tryd.prog 76 := ⟨by kernel_rfl⟩
instance : Cal Tryd.prog 77 := ⟨by kernel_rfl⟩
instance : Cal Tryd.prog 78 := ⟨by kernel_rfl⟩
instance : Cal Tryd.prog 79 := ⟨by kernel_rfl⟩
instance : Cal Tryd.prog 8 := ⟨by kernel_rfl⟩
instance : Cal Tryd.prog 9 := ⟨by kernel_rfl⟩
instance : Cal Tryd.prog 91 := ⟨by kernel_rfl⟩
instance : Cal Tryd.prog 92 := ⟨by kernel_rfl⟩
instance : Cal Tryd.prog 93 := ⟨by kernel_rfl⟩
instance : Cal Tryd.prog 94 := ⟨by kernel_rfl⟩
instance : EqG Tryd.prog 23 := ⟨by kernel_rfl⟩
instance : FlatF Tryd.prog 23 [(3, 0), (3, 1)] := ⟨by kernel_rfl⟩
instance : FldOf Tryd.prog 101 0 0 false 1 := ⟨by kernel_rfl⟩
instance : FldOf Tryd.prog 101 1 1 false 1 := ⟨by kernel_rfl⟩
instance : FldOf Tryd.prog 23 0 0 false 1 := ⟨by kernel_rfl⟩
instance : FldOf Tryd.prog 23 1 1 false 1 := ⟨by kernel_rfl⟩
instance : FldOf Tryd.prog 27 0 0 false 1 := ⟨by kernel_rfl⟩
instance : FldOf Tryd.prog 27 1 1 false 1 := ⟨by kernel_rfl⟩
instance : FldOf Tryd.prog 27 2 2 true 2 := ⟨by kernel_rfl⟩
instance : FldOf Tryd.prog 27 3 4 false 1 := ⟨by kernel_rfl⟩
instance : FldOf Tryd.prog 27 4 5 false 1 := ⟨by kernel_rfl⟩
instance : FldOf Tryd.prog 45 0 0 false 1 := ⟨by kernel_rfl⟩
instance : FldOf Tryd.prog 45 1 1 false 1 := ⟨by kernel_rfl⟩
instance : FldOf Tryd.prog 45 2 2 false 1 := ⟨by kernel_rfl⟩
instance : FldOf Tryd.prog 45 3 3 false 1 := ⟨by kernel_rfl⟩
instance : FldOf Tryd.prog 45 4 4 false 1 := ⟨by kernel_rfl⟩
instance : FldOf Tryd.prog 47 0 0 false 1 := ⟨by kernel_rfl⟩
instance : FldOf Tryd.prog 47 1 1 false 1 := ⟨by kernel_rfl⟩
instance : FldOf Tryd.prog 70 0 0 true 6 := ⟨by kernel_rfl⟩
instance : FldOf Tryd.prog 74 0 0 true 6 := ⟨by kernel_rfl⟩
instance : FldOf Tryd.prog 74 1 6 false 1 := ⟨by kernel_rfl⟩
instance : FldOf Tryd.prog 74 2 7 false 1 := ⟨by kernel_rfl⟩
instance : FldOf Tryd.prog 81 0 0 false 1 := ⟨by kernel_rfl⟩
instance : FldOf Tryd.prog 81 1 1 true 3 := ⟨by kernel_rfl⟩
instance : FldOf Tryd.prog 89 0 0 false 1 := ⟨by kernel_rfl⟩
instance : FldOf Tryd.prog 89 1 1 false 1 := ⟨by kernel_rfl⟩
instance : InfO Tryd.prog 114 Tryd.t114 := ⟨by kernel_rfl⟩
instance : InfO Tryd.prog 3 Tryd.t3 := ⟨by kernel_rfl⟩
instance : InfO Tryd.prog 4 Tryd.t4 := ⟨by kernel_rfl⟩
instance : InfO Tryd.prog 89 Tryd.t89 := ⟨by kernel_rfl⟩
instance {a0 a1 a2 a3 a4 a5 a6 a7 a8 a9 a10 a11 a12 a13 a14 a15 a16 a17 a18 a19 a20 : Oper} : RgL #[a0, a1, a2, a3, a4, a5, a6, a7, a8, a9, a10, a11, a12, a13, a14, a15, a16, a17, a18, a19, a20] [0, 1, 2, 3, 4, 5, 6, 7, 8, 9, 10, 11, 12, 13, 14, 15, 16, 17, 18, 19, 20] := ⟨rfl⟩
instance {a0 a1 a2 a3 a4 a5 a6 a7 a8 a9 a10 a11 a12 a13 a14 a15 a16 a17 a18 a19 a20 a21 a22 a23 a24 a25 a26 a27 a28 a29 a30 a31 : Oper} : RgL #[a0, a1, a2, a3, a4, a5, a6, a7, a8, a9, a10, a11, a12, a13, a14, a15, a16, a17, a18, a19, a20, a21, a22, a23, a24, a25, a26, a27, a28, a29, a30, a31] [0, 1, 2, 3, 4, 5, 6, 7, 8, 9, 10, 11, 12, 13, 14, 15, 16, 17, 18, 19, 20, 21, 22, 23, 24, 25, 26, 27, 28, 29, 30, 31] := ⟨rfl⟩
instance {a0 a1 a2 a3 a4 a5 a6 a7 a8 a9 a10 a11 a12 a13 a14 a15 a16 a17 a18 a19 a20 a21 a22 a23 a24 a25 a26 a27 a28 a29 a30 a31 a32 a33 a34 a35 a36 : Oper} : RgL #[a0, a1, a2, a3, a4, a5, a6, a7, a8, a9, a10, a11, a12, a13, a14, a15, a16, a17, a18, a19, a20, a21, a22, a23, a24, a25, a26, a27, a28, a29, a30, a31, a32, a33, a34, a35, a36] [0, 1, 2, 3, 4, 5, 6, 7, 8, 9, 10, 11, 12, 13, 14, 15, 16, 17, 18, 19, 20, 21, 22, 23, 24, 25, 26, 27, 28, 29, 30, 31, 32, 33, 34, 35, 36] := ⟨rfl⟩
instance {a0 a1 a2 a3 a4 a5 a6 a7 a8 a9 a10 a11 a12 a13 a14 a15 a16 a17 a18 a19 a20 a21 a22 a23 a24 a25 a26 a27 a28 a29 a30 a31 a32 a33 a34 a35 a36 a37 a38 a39 a40 a41 a42 a43 a44 a45 a46 a47 a48 a49 a50 a51 a52 a53 a54 a55 a56 a57 a58 a59 a60 a61 : Oper} : RgL #[a0, a1, a2, a3, a4, a5, a6, a7, a8, a9, a10, a11, a12, a13, a14, a15, a16, a17, a18, a19, a20, a21, a22, a23, a24, a25, a26, a27, a28, a29, a30, a31, a32, a33, a34, a35, a36, a37, a38, a39, a40, a41, a42, a43, a44, a45, a46, a47, a48, a49, a50, a51, a52, a53, a54, a55, a56, a57, a58, a59, a60, a61] [0, 1, 2, 3, 4, 5, 6, 7, 8, 9, 10, 11, 12, 13, 14, 15, 16, 17, 18, 19, 20, 21, 22, 23, 24, 25, 26, 27, 28, 29, 30, 31, 32, 33, 34, 35, 36, 37, 38, 39, 40, 41, 42, 43, 44, 45, 46, 47, 48, 49, 50, 51, 52, 53, 54, 55, 56, 57, 58, 59, 60, 61] := ⟨rfl⟩
instance {a0 a1 a2 a3 a4 a5 a6 a7 a8 a9 a10 a11 a12 a13 a14 a15 a16 a17 a18 a19 a20 a21 a22 a23 a24 a25 a26 a27 a28 a29 a30 a31 a32 a33 a34 a35 a36 a37 a38 a39 a40 a41 a42 a43 a44 a45 a46 a47 a48 a49 a50 a51 a52 a53 a54 a55 a56 a57 a58 a59 a60 a61 a62 a63 a64 a65 a66 a67 a68 a69 a70 a71 a72 a73 : Oper} : RgL (List.toArray (List.append [a0, a1, a2, a3, a4, a5, a6, a7, a8, a9, a10, a11, a12, a13, a14, a15, a16, a17, a18, a19, a20, a21, a22, a23, a24, a25, a26, a27, a28, a29, a30, a31, a32, a33, a34, a35, a36] [a37, a38, a39, a40, a41, a42, a43, a44, a45, a46, a47, a48, a49, a50, a51, a52, a53, a54, a55, a56, a57, a58, a59, a60, a61, a62, a63, a64, a65, a66, a67, a68, a69, a70, a71, a72, a73])) (0 :: 1 :: 2 :: 3 :: 4 :: 5 :: 6 :: 7 :: 8 :: 9 :: 10 :: 11 :: 12 :: 13 :: 14 :: 15 :: 16 :: 17 :: 18 :: 19 :: 20 :: 21 :: 22 :: 23 :: 24 :: 25 :: 26 :: 27 :: 28 :: 29 :: 30 :: 31 :: 32 :: 33 :: 34 :: 35 :: 36 :: 37 :: 38 :: 39 :: 40 :: 41 :: 42 :: 43 :: 44 :: 45 :: 46 :: 47 :: 48 :: 49 :: 50 :: 51 :: 52 :: 53 :: 54 :: 55 :: 56 :: 57 :: 58 :: 59 :: 60 :: 61 :: 62 :: 63 :: 64 :: 65 :: 66 :: 67 :: 68 :: 69 :: 70 :: 71 :: 72 :: 73 :: []) := ⟨rfl⟩
instance : SlEl Tryd.prog 105 30 1 := ⟨by kernel_rfl⟩
instance : SlEl Tryd.prog 177 5 1 := ⟨by kernel_rfl⟩
instance : SlEl Tryd.prog 24 45 5 := ⟨by kernel_rfl⟩
instance : SlEl Tryd.prog 25 47 2 := ⟨by kernel_rfl⟩
instance : SlEl Tryd.prog 30 3 1 := ⟨by kernel_rfl⟩
instance : SlEl Tryd.prog 71 81 4 := ⟨by kernel_rfl⟩
instance : SlEl Tryd.prog 90 89 2 := ⟨by kernel_rfl⟩
instance : SlEl Tryd.prog 95 101 2 := ⟨by kernel_rfl⟩
instance : TySz Tryd.prog 101 true 2 := ⟨by kernel_rfl⟩
instance : TySz Tryd.prog 115 false 1 := ⟨by kernel_rfl⟩
instance : TySz Tryd.prog 116 false 1 := ⟨by kernel_rfl⟩
instance : TySz Tryd.prog 124 true 3 := ⟨by kernel_rfl⟩
instance : TySz Tryd.prog 128 false 1 := ⟨by kernel_rfl⟩
instance : TySz Tryd.prog 23 true 2 := ⟨by kernel_rfl⟩
instance : TySz Tryd.prog 24 false 1 := ⟨by kernel_rfl⟩
instance : TySz Tryd.prog 25 false 1 := ⟨by kernel_rfl⟩
instance : TySz Tryd.prog 27 true 6 := ⟨by kernel_rfl⟩
instance : TySz Tryd.prog 3 false 1 := ⟨by kernel_rfl⟩
instance : TySz Tryd.prog 30 false 1 := ⟨by kernel_rfl⟩
instance : TySz Tryd.prog 31 false 1 := ⟨by kernel_rfl⟩
instance : TySz Tryd.prog 4 false 1 := ⟨by kernel_rfl⟩
instance : TySz Tryd.prog 43 false 1 := ⟨by kernel_rfl⟩
instance : TySz Tryd.prog 45 true 5 := ⟨by kernel_rfl⟩
instance : TySz Tryd.prog 47 true 2 := ⟨by kernel_rfl⟩
instance : TySz Tryd.prog 5 false 1 := ⟨by kernel_rfl⟩
instance : TySz Tryd.prog 70 true 6 := ⟨by kernel_rfl⟩
instance : TySz Tryd.prog 71 false 1 := ⟨by kernel_rfl⟩
instance : TySz Tryd.prog 72 false 1 := ⟨by kernel_rfl⟩
instance : TySz Tryd.prog 74 true 8 := ⟨by kernel_rfl⟩
instance : TySz Tryd.prog 79 true 3 := ⟨by kernel_rfl⟩
instance : TySz Tryd.prog 81 true 4 := ⟨by kernel_rfl⟩
instance : TySz Tryd.prog 86 false 1 := ⟨by kernel_rfl⟩
instance : TySz Tryd.prog 87 false 1 := ⟨by kernel_rfl⟩
instance : TySz Tryd.prog 89 true 2 := ⟨by kernel_rfl⟩
instance : TySz Tryd.prog 9 false 1 := ⟨by kernel_rfl⟩
instance : TySz Tryd.prog 95 false 1 := ⟨by kernel_rfl⟩
instance : TyZ Tryd.prog 101 [.slice none 0 0, .int .i64 0] := ⟨by kernel_rfl⟩
instance : TyZ Tryd.prog 23 [.int .i64 0, .int .i64 0] := ⟨by kernel_rfl⟩
instance : TyZ Tryd.prog 27 [.int .i64 0, .int .i64 0, .int .i64 0, .int .i64 0, .slice none 0 0, .slice none 0 0] := ⟨by kernel_rfl⟩
instance : TyZ Tryd.prog 3 [.int .i64 0] := ⟨by kernel_rfl⟩
instance : TyZ Tryd.prog 30 [.slice none 0 0] := ⟨by kernel_rfl⟩
instance : TyZ Tryd.prog 45 [.string ⟨#[]⟩, .int .i64 0, .int .i64 0, .int .i64 0, .bool false] := ⟨by kernel_rfl⟩
instance : TyZ Tryd.prog 47 [.int .i64 0, .bool false] := ⟨by kernel_rfl⟩
instance : TyZ Tryd.prog 70 [.int .i64 0, .int .i64 0, .int .i64 0, .int .i64 0, .slice none 0 0, .slice none 0 0] := ⟨by kernel_rfl⟩
instance : TyZ Tryd.prog 74 [.int .i64 0, .int .i64 0, .int .i64 0, .int .i64 0, .slice none 0 0, .slice none 0 0, .slice none 0 0, .map none] := ⟨by kernel_rfl⟩
instance : TyZ Tryd.prog 81 [.int .i64 0, .int .i64 0, .int .i64 0, .int .i64 0] := ⟨by kernel_rfl⟩
instance : TyZ Tryd.prog 89 [.int .i64 0, .int .i64 0] := ⟨by kernel_rfl⟩
instance : TyZA Tryd.prog 101 [.v (.slice none 0 0), .v (.int .i64 0)] := ⟨by kernel_rfl⟩
instance : TyZA Tryd.prog 115 [.v (.nilFunc)] := ⟨by kernel_rfl⟩
instance : TyZA Tryd.prog 23 [.v (.int .i64 0), .v (.int .i64 0)] := ⟨by kernel_rfl⟩
instance : TyZA Tryd.prog 27 [.v (.int .i64 0), .v (.int .i64 0), .v (.int .i64 0), .v (.int .i64 0), .v (.slice none 0 0), .v (.slice none 0 0)] := ⟨by kernel_rfl⟩
instance : TyZA Tryd.prog 3 [.v (.int .i64 0)] := ⟨by kernel_rfl⟩
instance : TyZA Tryd.prog 31 [.v (.int .i64 0)] := ⟨by kernel_rfl⟩
instance : TyZA Tryd.prog 4 [.v (.bool false)] := ⟨by kernel_rfl⟩
instance : TyZA Tryd.prog 45 [.v (.string ⟨#[]⟩), .v (.int .i64 0), .v (.int .i64 0), .v (.int .i64 0), .v (.bool false)] := ⟨by kernel_rfl⟩
instance : TyZA Tryd.prog 70 [.v (.int .i64 0), .v (.int .i64 0), .v (.int .i64 0), .v (.int .i64 0), .v (.slice none 0 0), .v (.slice none 0 0)] := ⟨by kernel_rfl⟩
instance : TyZA Tryd.prog 71 [.v (.slice none 0 0)] := ⟨by kernel_rfl⟩
instance : TyZA Tryd.prog 74 [.v (.int .i64 0), .v (.int .i64 0), .v (.int .i64 0), .v (.int .i64 0), .v (.slice none 0 0), .v (.slice none 0 0), .v (.slice none 0 0), .v (.map none)] := ⟨by kernel_rfl⟩
instance : TyZA Tryd.prog 81 [.v (.int .i64 0), .v (.int .i64 0), .v (.int .i64 0), .v (.int .i64 0)] := ⟨by kernel_rfl⟩
instance : TyZA Tryd.prog 86 [.v (.chan none)] := ⟨by kernel_rfl⟩
instance : TyZA Tryd.prog 87 [.v (.chan none)] := ⟨by kernel_rfl⟩
instance : TyZA Tryd.prog 89 [.v (.int .i64 0), .v (.int .i64 0)] := ⟨by kernel_rfl⟩
instance : TyZA Tryd.prog 95 [.v (.slice none 0 0)] := ⟨by kernel_rfl⟩
instance : Und Tryd.prog 105 (.slice 30) := ⟨by kernel_rfl⟩
instance : Und Tryd.prog 177 (.slice 5) := ⟨by kernel_rfl⟩
instance : Und Tryd.prog 24 (.slice 45) := ⟨by kernel_rfl⟩
instance : Und Tryd.prog 25 (.slice 47) := ⟨by kernel_rfl⟩
instance : Und Tryd.prog 3 (.int .i64) := ⟨by kernel_rfl⟩
instance : Und Tryd.prog 30 (.slice 3) := ⟨by kernel_rfl⟩
instance : Und Tryd.prog 4 .bool := ⟨by kernel_rfl⟩
instance : Und Tryd.prog 5 (.int .u8) := ⟨by kernel_rfl⟩
instance : Und Tryd.prog 71 (.slice 81) := ⟨by kernel_rfl⟩
instance : Und Tryd.prog 72 (.map 3 3) := ⟨by kernel_rfl⟩
instance : Und Tryd.prog 86 (.chan .both 89) := ⟨by kernel_rfl⟩
instance : Und Tryd.prog 87 (.chan .both 4) := ⟨by kernel_rfl⟩
instance : Und Tryd.prog 9 .string := ⟨by kernel_rfl⟩
instance : Und Tryd.prog 90 (.slice 89) := ⟨by kernel_rfl⟩
instance : Und Tryd.prog 95 (.slice 101) := ⟨by kernel_rfl⟩
end Go.Vel
end
section
set_option linter.all false
set_option maxRecDepth 20000
set_option maxHeartbeats 60000000
namespace Go.Vel
open Go Go.Conc Go.Proofs

/-! ### books, seams -/
structure Says where
 name : ByteArray
 frm : Int
 til : Int
 says : Int
 glass : Bool
structure Seen where
 step : Int
 seam : Bool
structure Bk where
 steps : Int
 wrong : Int
 low : Int
 high : Int
 seekers : List Says
 seen : List Seen
instance : Inhabited Says := ⟨⟨ByteArray.empty, 0, 0, 0, false⟩⟩
instance : Inhabited Seen := ⟨⟨0, false⟩⟩

def intA (n : Int) : AV := .v (.int .i64 n)
def boolA (t : Bool) : AV := .v (.bool t)
def saysC (x : Says) : List AV := [.v (.string x.name), intA x.frm, intA x.til, intA x.says, boolA x.glass]
def seenC (x : Seen) : List AV := [intA x.step, boolA x.seam]
def bookC (b : Bk) (s e : Nat) : List AV := [intA b.steps, intA b.wrong, intA b.low, intA b.high, .sl s 0 b.seekers.length, .sl e 0 b.seen.length]
def saysO (b : Bk) : AObj := .cells (b.seekers.flatMap saysC) 45 false
def seenO (b : Bk) : AObj := .cells (b.seen.flatMap seenC) 47 false
def slotS (S : List Int) (i : Nat) : AV := intA (((S[i]?).map (· + 1)).getD 0)
def seamsC (S : List Int) : List AV := [intA S.length, slotS S 0, slotS S 1, slotS S 2]

theorem slot_take {S : List Int} (hS : S.length ≤ 3) {i : Nat} (hi : i < S.length) {n : Int} {e : TypeId} {rw : Bool} (h : n = (i : Int)) : takeO (.cells (seamsC S) e rw) (1 + n.toNat * 1) 1 = some [intA (S[i] + 1)] := by
 subst h
 have : i = 0 ∨ i = 1 ∨ i = 2 := by omega
 rcases this with rfl | rfl | rfl <;> simp [takeO, AObj.look, seamsC, slotS, hi]
theorem row_take {xs : List Int} {i : Nat} (hi : i < xs.length) {n : Int} {e : TypeId} {s : Nat} (h : n = (i : Int)) : takeO (.row (xs.map intA) e s) (n.toNat * 1) 1 = some [intA xs[i]] := by
 subst h
 simp only [takeO, AObj.look]
 rw [if_pos (by simp; omega)]
 simp [List.take_one, hi]

def inM (b : Bk) (S : List Int) (lo w : Int) : Int := (S.filter fun x => decide ((x - lo + b.steps) % b.steps < w)).length
theorem inM_le (b : Bk) (S : List Int) (lo w : Int) : 0 ≤ inM b S lo w ∧ inM b S lo w ≤ S.length := ⟨Int.natCast_nonneg _, Int.ofNat_le.2 (List.length_filter_le _ _)⟩
theorem inM_succ {b : Bk} {S : List Int} {lo w : Int} {i : Nat} (h : i < S.length) : inM b (S.take (i + 1)) lo w = inM b (S.take i) lo w + if (S[i] - lo + b.steps) % b.steps < w then 1 else 0 := by
 unfold inM
 rw [List.take_add_one, List.getElem?_eq_getElem h, List.filter_append, List.length_append]
 by_cases hc : (S[i] - lo + b.steps) % b.steps < w
 ·rw [if_pos hc]; simp only [Option.toList, List.filter_cons, List.filter_nil, decide_eq_true hc, if_true]; rfl
 ·rw [if_neg hc]; simp only [Option.toList, List.filter_cons, List.filter_nil, decide_eq_false hc, Bool.false_eq_true, if_false]; rfl


theorem list_ok {main : Bool} {T : Goroutine → Hp → Prop} (hT : Shut Tryd.prog main T) {gm : Nat → Option Nat} {S : List Int} (hS : S.length ≤ 3) (hB : ∀ x ∈ S, 0 ≤ x ∧ x < 1000) :
  CallK Tryd.prog T gm 47 [.agg (seamsC S)] [] (fun r K' => ∃ j, r = .row j S.length ∧ K' = [(j, .row (S.map intA) 3 1)]) := by
 refine callK_in 22 hT Tryd.func47 fun Y hret => ?_
 refine au [4, 5, 21] ?_
 intro js hjs
 refine au [2, 3, 4, 5, 2] ?_
 refine TK.virt 3 3 1 rfl fun j0 hj0 => ?_
 refine au [3, 4, 4, 5, 7, 7, 9] ?_
 refine TK.a rfl (q_sliceArr rfl rfl ArEl.h rfl rfl (by omega) (by omega) rfl) ?_
 refine au [28, 1, 3, 13] ?_
 refine TK.maskL [3, 9, 10, 11] ?_
 refine TK.loopN (fun n env K => ∃ (i j : Nat), n = S.length - i ∧ i ≤ S.length ∧ env = slotsA 22 [(3, .row j i), (9, .sl js 1 S.length), (10, intA S.length), (11, intA i)] ∧ K = [(j, .row ((S.take i).map intA) 3 1), (js, .cells (seamsC S) 81 true)]) S.length ⟨0, j0, rfl, Nat.zero_le _, rfl, rfl⟩ fun n env K hI hnext => ?_
 obtain ⟨i, j, rfl, hi, rfl, rfl⟩ := hI
 refine au [4, 5, 6, 3, 4, 20] ?_
 refine ⟨fun hc => ?_, fun hc => ?_⟩
 ·simp only [decide_eq_true_eq] at hc
  have hil : i < S.length := by omega
  refine au [12, 4, 13, 4, 5, 36] ?_
  refine TK.a rfl (q_load1 rfl rfl TySz.h (by repeat (first | exact List.Mem.head _ | assumption | apply List.Mem.tail)) (slot_take (i := i) hS (by omega) rfl)) ?_
  refine au [2, 3, 5, 1, 1] ?_
  refine TK.a rfl (q_sub rfl rfl rfl (by have := hB S[i] (List.getElem_mem _); omega)) ?_
  refine TK.newR rfl rfl rfl (n_buildSlice (l := [_]) rfl SlEl.h TyZ.h (by decide) (by decide) rfl) (fun _ => putS rfl (by simp only [List.set]; rfl)) fun j1 hj1 => ?_
  refine TK.appR rfl rfl rfl (a_app rfl ApOf.h rfl (by repeat (first | exact List.Mem.head _ | assumption | apply List.Mem.tail)) (by simp <;> omega) rfl (src_row (ln := [_]) (by repeat (first | exact List.Mem.head _ | assumption | apply List.Mem.tail)) (by decide) (by simp) rfl) (by omega) rfl (by unfold maxLen; omega) (by omega)) (fun _ => (by repeat (first | exact Upd.head | apply Upd.tail))) (fun _ => putS rfl (by simp only [List.set]; rfl)) fun j2 => ?_
  refine au [2, 3, 14, 5, 23, 1, 3] ?_
  refine TK.maskL [3, 9, 10, 11] ?_
  refine TK.kp [(j2, _), (js, _)] ?_
  exact hnext _ _ _ (by omega) ⟨i + 1, _, rfl, by omega, rfl, by rw [List.take_add_one (l := S), List.getElem?_eq_getElem hil, List.map_append, Int.add_sub_cancel]; rfl⟩
 simp only [decide_eq_false_iff_not] at hc
 obtain rfl : i = S.length := by omega
 refine au [16, 4, 5, 1, 2, 3] ?_
 refine TK.rt hret [(j, _)] ?_
 exact ⟨_, rfl, by rw [List.take_length]⟩

theorem from_ok {main : Bool} {T : Goroutine → Hp → Prop} (hT : Shut Tryd.prog main T) {gm : Nat → Option Nat} {n lo hi : Int} :
  CallK Tryd.prog T gm 71 [intA n, intA lo, intA hi] [] (fun r K' => r = boolA (decide (lo ≤ n) && decide (n ≤ hi)) ∧ K' = []) := by
 refine callK_in 15 hT Tryd.func71 fun Y hret => ?_
 refine au [4, 5, 2, 3, 4, 5, 1, 1, 6, 1] ?_
 refine TK.sp 10 (fun g1_4 => ?_) (fun g1_4 => ?_)
 ·refine au [1, 1, 6, 26, 2, 3] ?_
  refine TK.rta hret ?_
  exact ⟨by simp [boolA, g1_4], rfl⟩
 refine au [11, 11, 11, 25, 2, 3] ?_
 refine TK.rta hret ?_
 exact ⟨by simp [boolA, g1_4], rfl⟩

theorem isStep_ok {main : Bool} {T : Goroutine → Hp → Prop} (hT : Shut Tryd.prog main T) {gm : Nat → Option Nat} {b : Bk} {s e : Nat} {n : Int} (hs : 0 ≤ b.steps ∧ b.steps ≤ 16) :
  CallK Tryd.prog T gm 36 [.agg (bookC b s e), intA n] [] (fun r K' => r = boolA (decide (0 ≤ n) && decide (n ≤ b.steps - 1)) ∧ K' = []) := by
 refine callK_in 11 hT Tryd.func36 fun Y hret => ?_
 refine au [4, 5, 21] ?_
 intro j1 hj1
 refine au [2, 3, 4, 5, 1, 7, 7, 9, 24] ?_
 refine TK.cl rfl rfl rfl rfl (from_ok hT) ?_
 rintro r2 K3 ⟨rfl, rfl⟩
 refine au [2, 3] ?_
 refine TK.rt hret [] ?_
 exact ⟨rfl, rfl⟩

theorem wide_ok {main : Bool} {T : Goroutine → Hp → Prop} (hT : Shut Tryd.prog main T) {gm : Nat → Option Nat} {b : Bk} {s e : Nat} {lo hi : Int} (hs : 4 ≤ b.steps ∧ b.steps ≤ 16) (h0 : 0 ≤ lo ∧ lo < b.steps) (h1 : 0 ≤ hi ∧ hi < b.steps) :
  CallK Tryd.prog T gm 38 [.agg (bookC b s e), intA lo, intA hi] [] (fun r K' => r = intA ((hi - lo + b.steps) % b.steps + 1) ∧ K' = []) := by
 refine callK_in 19 hT Tryd.func38 fun Y hret => ?_
 refine au [4, 5, 21] ?_
 intro j1 hj1
 refine au [2, 3, 4, 5, 1, 1, 24, 7, 7, 9, 23, 7, 7, 9] ?_
 refine TK.a rfl (q_rem rfl rfl rfl (by omega) (by omega)) ?_
 refine TK.a rfl (q_add rfl rfl rfl (by have := Int.emod_lt_of_pos (hi - lo + b.steps) (show 0 < b.steps by omega); have := Int.emod_nonneg (hi - lo + b.steps) (show b.steps ≠ 0 by omega); omega)) ?_
 refine au [2, 3] ?_
 refine TK.rt hret [] ?_
 exact ⟨rfl, rfl⟩

theorem in_ok {main : Bool} {T : Goroutine → Hp → Prop} (hT : Shut Tryd.prog main T) {gm : Nat → Option Nat} {b : Bk} {s e : Nat} {S : List Int} {lo w : Int} (hs : 4 ≤ b.steps ∧ b.steps ≤ 16) (hS : S.length ≤ 3) (hB : ∀ x ∈ S, 0 ≤ x ∧ x < b.steps) (h0 : 0 ≤ lo ∧ lo < b.steps) :
  CallK Tryd.prog T gm 72 [.agg (bookC b s e), .agg (seamsC S), intA lo, intA w] [] (fun r K' => r = intA (inM b S lo w) ∧ K' = []) := by
 refine callK_in 36 hT Tryd.func72 fun Y hret => ?_
 refine au [4, 5, 21] ?_
 intro jb hjb
 refine au [21] ?_
 intro js hjs
 refine au [2, 3, 4, 5, 2, 3, 4, 4, 5, 8] ?_
 refine TK.cl rfl rfl rfl rfl (list_ok hT hS fun x hx => ⟨(hB x hx).1, by have := (hB x hx).2; omega⟩) ?_
 rintro r1 K2 ⟨jr, rfl, rfl⟩
 refine au [28, 1, 3, 13] ?_
 refine TK.maskL [2, 3, 4, 9, 13, 14, 15] ?_
 refine TK.loopN (fun n env K => ∃ (i : Nat), n = S.length - i ∧ i ≤ S.length ∧ env = slotsA 36 [(2, intA lo), (3, intA w), (4, .ptr jb 0), (9, intA (inM b (S.take i) lo w)), (13, .row jr S.length), (14, intA S.length), (15, intA i)] ∧ K = [(jr, .row (S.map intA) 3 1), (js, .cells (seamsC S) 81 true), (jb, .cells (bookC b s e) 70 true)]) S.length ⟨0, rfl, Nat.zero_le _, rfl, rfl⟩ fun n env K hI hnext => ?_
 obtain ⟨i, rfl, hi, rfl, rfl⟩ := hI
 refine au [4, 5, 6, 3, 4, 20] ?_
 refine ⟨fun hc => ?_, fun hc => ?_⟩
 ·simp only [decide_eq_true_eq] at hc
  have hil : i < S.length := by omega
  have hx := hB S[i] (List.getElem_mem _)
  have hn := inM_le b (S.take i) lo w
  have hn2 : (S.take i).length ≤ 3 := by simp; omega
  refine au [12, 4, 13, 4, 5, 37] ?_
  refine TK.a rfl (q_load1 rfl rfl TySz.h (by repeat (first | exact List.Mem.head _ | assumption | apply List.Mem.tail)) (row_take (i := i) (by omega) rfl)) ?_
  refine au [2, 3, 4, 5, 1, 1, 24, 7, 7, 9, 23, 7, 7, 9] ?_
  refine TK.a rfl (q_rem rfl rfl rfl (by omega) (by omega)) ?_
  refine au [1, 6, 3, 20] ?_
  refine ⟨fun hc1 => ?_, fun hc1 => ?_⟩
  ·simp only [decide_eq_true_eq] at hc1
   refine au [5, 1, 23, 2, 3, 14, 5, 23, 1, 3] ?_
   refine TK.maskL [2, 3, 4, 9, 13, 14, 15] ?_
   exact hnext _ _ _ (by omega) ⟨i + 1, rfl, by omega, by rw [inM_succ hil, if_pos hc1]; rfl, rfl⟩
  simp only [decide_eq_false_iff_not] at hc1
  refine au [12, 14, 5, 23, 1, 3] ?_
  refine TK.maskL [2, 3, 4, 9, 13, 14, 15] ?_
  exact hnext _ _ _ (by omega) ⟨i + 1, rfl, by omega, by rw [inM_succ hil, if_neg hc1, Int.add_zero]; rfl, rfl⟩
 simp only [decide_eq_false_iff_not] at hc
 obtain rfl : i = S.length := by omega
 refine au [16, 4, 5, 1, 2, 3] ?_
 refine TK.rt hret [] ?_
 exact ⟨by rw [show S.take S.length = S from List.take_length], rfl⟩
end Go.Vel
end
section
set_option linter.all false
set_option maxRecDepth 20000
set_option maxHeartbeats 60000000
namespace Go.Vel
open Go Go.Conc Go.Proofs

/-- Where a list of numbers lies. -/
def IntsAt (ob : AObj) (off : Nat) (xs : List Int) : Prop := ∀ (i : Nat) (h : i < xs.length), takeO ob (off + (i : Int).toNat * 1) 1 = some [intA xs[i]]
def SeenAt (ob : AObj) (off : Nat) (xs : List Seen) : Prop := ∀ (i : Nat) (h : i < xs.length), takeO ob (off + (i : Int).toNat * 2) 2 = some (seenC xs[i])
theorem mem_take_succ {xs : List Int} {v : Int} {i : Nat} (h : i < xs.length) (hn : v ∉ xs.take i) (he : v ≠ xs[i]) : v ∉ xs.take (i + 1) := by
 rw [List.take_add_one, List.getElem?_eq_getElem h]
 simp only [Option.toList, List.mem_append, List.mem_singleton, not_or]
 exact ⟨hn, he⟩
theorem any_take_succ {xs : List Seen} {p : Seen → Bool} {i : Nat} (h : i < xs.length) (hn : (xs.take i).any p = false) (he : p xs[i] = false) : (xs.take (i + 1)).any p = false := by
 rw [List.take_add_one, List.getElem?_eq_getElem h, List.any_append, hn]
 simp [he]

theorem mem_succ {S : List Int} {n : Int} : n + 1 ∈ S.map (· + 1) ↔ n ∈ S := by
 rw [List.mem_map]
 constructor
 ·rintro ⟨x, hx, e⟩
  obtain rfl : x = n := by omega
  exact hx
 ·exact fun h => ⟨n, h, rfl⟩


theorem index_ok {main : Bool} {T : Goroutine → Hp → Prop} (hT : Shut Tryd.prog main T) {gm : Nat → Option Nat} {j off : Nat} {ob : AObj} {xs : List Int} {v : Int} (hI : IntsAt ob off xs) (hl : xs.length ≤ 1000) :
  CallK Tryd.prog T gm 103 [.sl j off xs.length, intA v] [(j, ob)] (fun r K' => (∃ n : Int, r = intA n ∧ decide (n ≥ 0) = decide (v ∈ xs)) ∧ K' = [(j, ob)]) := by
 refine callK_in 19 hT Tryd.func103 fun Y hret => ?_
 refine au [4, 5, 2, 3, 4, 4, 5, 1, 28, 1, 3, 13] ?_
 refine TK.maskL [0, 1, 7, 8] ?_
 refine TK.loopN (fun n env K => ∃ (i : Nat), n = xs.length - i ∧ i ≤ xs.length ∧ v ∉ xs.take i ∧ env = slotsA 19 [(0, .sl j off xs.length), (1, intA v), (7, intA xs.length), (8, intA i)] ∧ K = [(j, ob)]) xs.length ⟨0, rfl, Nat.zero_le _, by simp, rfl, rfl⟩ fun n env K hI' hnext => ?_
 obtain ⟨i, rfl, hi, hn, rfl, rfl⟩ := hI'
 refine au [4, 5, 6, 3, 4, 20] ?_
 refine ⟨fun hc => ?_, fun hc => ?_⟩
 ·simp only [decide_eq_true_eq] at hc
  have hil : i < xs.length := by omega
  refine au [12, 4, 13, 4, 5, 1, 2, 3, 4, 5, 1, 1, 1, 36] ?_
  refine TK.a rfl (q_load1 rfl rfl TySz.h (by repeat (first | exact List.Mem.head _ | assumption | apply List.Mem.tail)) (hI i hil)) ?_
  refine au [6, 3, 20] ?_
  refine ⟨fun hc1 => ?_, fun hc1 => ?_⟩
  ·simp only [beq_iff_eq] at hc1
   refine au [4, 5, 1, 2, 3] ?_
   refine TK.rta hret ?_
   exact ⟨⟨i, rfl, by rw [decide_eq_true (Int.natCast_nonneg i), decide_eq_true (by rw [hc1]; exact List.getElem_mem _)]⟩, rfl⟩
  simp only [beq_eq_false_iff_ne] at hc1
  refine au [12, 14, 5, 23, 1, 3] ?_
  refine TK.maskL [0, 1, 7, 8] ?_
  exact hnext _ _ _ (by omega) ⟨i + 1, rfl, by omega, mem_take_succ hil hn hc1, rfl, rfl⟩
 simp only [decide_eq_false_iff_not] at hc
 obtain rfl : i = xs.length := by omega
 refine au [16, 4, 5, 2, 3] ?_
 refine TK.rta hret ?_
 rw [List.take_length] at hn
 exact ⟨⟨-1, rfl, by rw [decide_eq_false hn]; rfl⟩, rfl⟩

theorem contains_ok {main : Bool} {T : Goroutine → Hp → Prop} (hT : Shut Tryd.prog main T) {gm : Nat → Option Nat} {j off : Nat} {ob : AObj} {xs : List Int} {v : Int} (hI : IntsAt ob off xs) (hl : xs.length ≤ 1000) :
  CallK Tryd.prog T gm 101 [.sl j off xs.length, intA v] [(j, ob)] (fun r K' => r = boolA (decide (v ∈ xs)) ∧ K' = [(j, ob)]) := by
 refine callK_in 9 hT Tryd.func101 fun Y hret => ?_
 refine au [4, 5, 2, 3, 4, 5, 1, 1] ?_
 refine TK.cl rfl rfl rfl rfl (index_ok hT hI hl) ?_
 rintro r1 K2 ⟨⟨m, rfl, hm⟩, rfl⟩
 refine au [6, 2, 3] ?_
 refine TK.rta hret ?_
 exact ⟨by rw [← hm]; rfl, rfl⟩

theorem has_ok {main : Bool} {T : Goroutine → Hp → Prop} (hT : Shut Tryd.prog main T) {gm : Nat → Option Nat} {S : List Int} {n : Int} (hS : S.length ≤ 3) (hn : -1000 ≤ n ∧ n ≤ 1000) :
  CallK Tryd.prog T gm 93 [.agg (seamsC S), intA n] [] (fun r K' => r = boolA (decide (n ∈ S)) ∧ K' = []) := by
 refine callK_in 12 hT Tryd.func93 fun Y hret => ?_
 refine au [4, 5, 21] ?_
 intro js hjs
 refine au [2, 3, 4, 5, 7, 7, 9] ?_
 refine TK.a rfl (q_sliceArr rfl rfl ArEl.h rfl rfl (by omega) (by omega) rfl) ?_
 refine au [1, 23] ?_
 rw [show S.length = (S.map (· + 1)).length by simp]
 refine TK.cl rfl rfl rfl rfl (contains_ok hT (off := 1) (ob := .cells (seamsC S) 81 true) (xs := S.map (· + 1)) (v := n + 1) (fun i h => by rw [slot_take (i := i) hS (by simpa using h) rfl]; simp) (by simp; omega)) ?_
 rintro r1 K2 ⟨rfl, rfl⟩
 refine au [2, 3] ?_
 refine TK.rt hret [] ?_
 exact ⟨by rw [decide_eq_decide.2 mem_succ], rfl⟩

theorem indexSeen_ok {main : Bool} {T : Goroutine → Hp → Prop} (hT : Shut Tryd.prog main T) {gm : Nat → Option Nat} {j off : Nat} {ob : AObj} {xs : List Seen} {p : Seen → Bool} {g : FuncId} {cp : List AV} {Kc : KV} (hg : callable Tryd.prog g = true) (hp : ∀ x ∈ xs, CallK Tryd.prog T gm g ([.agg (seenC x)] ++ cp) Kc (fun r K' => r = boolA (p x) ∧ K' = Kc)) (hI : SeenAt ob off xs) (hl : xs.length ≤ 1000) :
  CallK Tryd.prog T gm 100 [.sl j off xs.length, .fn g [] cp] ((j, ob) :: Kc) (fun r K' => (∃ n : Int, r = intA n ∧ decide (n ≥ 0) = xs.any p) ∧ K' = (j, ob) :: Kc) := by
 refine callK_in 19 hT Tryd.func100 fun Y hret => ?_
 refine au [4, 5, 2, 3, 4, 4, 5, 1, 28, 1, 3, 13] ?_
 refine TK.maskL [0, 1, 7, 8] ?_
 refine TK.loopN (fun n env K => ∃ (i : Nat), n = xs.length - i ∧ i ≤ xs.length ∧ (xs.take i).any p = false ∧ env = slotsA 19 [(0, .sl j off xs.length), (1, .fn g [] cp), (7, intA xs.length), (8, intA i)] ∧ K = (j, ob) :: Kc) xs.length ⟨0, rfl, Nat.zero_le _, by simp, rfl, rfl⟩ fun n env K hI' hnext => ?_
 obtain ⟨i, rfl, hi, hn, rfl, rfl⟩ := hI'
 refine au [4, 5, 6, 3, 4, 20] ?_
 refine ⟨fun hc => ?_, fun hc => ?_⟩
 ·simp only [decide_eq_true_eq] at hc
  have hil : i < xs.length := by omega
  refine au [12, 4, 13, 4, 5, 1, 2, 3, 4, 5, 1, 1, 1, 36] ?_
  refine TK.a rfl (q_load rfl rfl TySz.h (by repeat (first | exact List.Mem.head _ | assumption | apply List.Mem.tail)) (hI i hil)) ?_
  refine TK.cl rfl rfl rfl rfl (hp xs[i] (List.getElem_mem _)) ?_ (hs := (.right (.all _))) (hg := hg)
  rintro r1 K2 ⟨rfl, hK⟩
  refine au [] ?_
  rw [hK]
  refine TK.perm (K' := (j, ob) :: Kc) (List.perm_append_singleton _ _) ?_
  refine au [3, 20] ?_
  refine ⟨fun hc1 => ?_, fun hc1 => ?_⟩
  ·refine au [4, 5, 1, 2, 3] ?_
   refine TK.rta hret ?_
   exact ⟨⟨i, rfl, by rw [decide_eq_true (Int.natCast_nonneg i), List.any_eq_true.2 ⟨xs[i], List.getElem_mem _, hc1⟩]⟩, rfl⟩
  refine au [12, 14, 5, 23, 1, 3] ?_
  refine TK.maskL [0, 1, 7, 8] ?_
  exact hnext _ _ _ (by omega) ⟨i + 1, rfl, by omega, any_take_succ hil hn hc1, rfl, rfl⟩
 simp only [decide_eq_false_iff_not] at hc
 obtain rfl : i = xs.length := by omega
 refine au [16, 4, 5, 2, 3] ?_
 refine TK.rta hret ?_
 rw [List.take_length] at hn
 exact ⟨⟨-1, rfl, by rw [hn]; rfl⟩, rfl⟩
end Go.Vel
end
section
set_option linter.all false
set_option maxRecDepth 20000
set_option maxHeartbeats 60000000
namespace Go.Vel
open Go Go.Conc Go.Proofs

theorem flat_take {α : Type} (f : α → List AV) (c : Nat) (hc : ∀ x, (f x).length = c) : ∀ (xs : List α) (i : Nat) (h : i < xs.length), ((xs.flatMap f).drop (i * c)).take c = f xs[i]
 | x :: xs, 0, _ => by
  rw [Nat.zero_mul, List.drop_zero, List.flatMap_cons, List.take_left' (hc x)]; rfl
 | x :: xs, i + 1, h => by
  rw [List.flatMap_cons, Nat.succ_mul, Nat.add_comm, ← List.drop_drop, List.drop_left' (hc x)]
  exact flat_take f c hc xs i (by simpa using h)
theorem flat_len {α : Type} (f : α → List AV) (c : Nat) (hc : ∀ x, (f x).length = c) (xs : List α) : (xs.flatMap f).length = xs.length * c := by
 induction xs with
 | nil => simp
 | cons x xs ih => rw [List.flatMap_cons, List.length_append, ih, hc, List.length_cons, Nat.succ_mul, Nat.add_comm]
theorem seen_at (b : Bk) : SeenAt (seenO b) 0 b.seen := fun i h => by
 have hle : (i + 1) * 2 ≤ b.seen.length * 2 := Nat.mul_le_mul_right _ h
 simp only [takeO, AObj.look, seenO, Int.toNat_natCast, Nat.zero_add]
 rw [if_pos ⟨by omega, by rw [flat_len seenC 2 (fun _ => rfl)]; omega⟩, flat_take seenC 2 (fun _ => rfl) _ _ h]
theorem says_at (b : Bk) (i : Nat) (h : i < b.seekers.length) : takeO (saysO b) (0 + (i : Int).toNat * 5) 5 = some (saysC b.seekers[i]) := by
 have hle : (i + 1) * 5 ≤ b.seekers.length * 5 := Nat.mul_le_mul_right _ h
 simp only [takeO, AObj.look, saysO, Int.toNat_natCast, Nat.zero_add]
 rw [if_pos ⟨by omega, by rw [flat_len saysC 5 (fun _ => rfl)]; omega⟩, flat_take saysC 5 (fun _ => rfl) _ _ h]
def seenM (b : Bk) (S : List Int) : Bool := (decide (b.low ≤ S.length) && decide ((S.length : Int) ≤ b.high)) && !(b.seen.any fun x => decide (x.step ∈ S) != x.seam)
def wideM (b : Bk) (x : Says) : Int := (x.til - x.frm + b.steps) % b.steps + 1
def saysM (k : Int) (n : Int) : Bool := if k = 0 then decide (n > 0) else if k = 1 then n == 0 else n == 1
def rightM (b : Bk) (S : List Int) (i : Nat) : Bool := match b.seekers[i]? with
 | some x => saysM x.says (inM b S x.frm (wideM b x))
 | none => false
/-- What a book keeps that has no bar (as far as it is needed). -/
structure BkOk (b : Bk) : Prop where
 steps : 4 ≤ b.steps ∧ b.steps ≤ 16
 low : 0 ≤ b.low
 high : b.high ≤ 3
 wrong : 0 ≤ b.wrong ∧ b.wrong ≤ 3
 ns : b.seekers.length ≤ 5
 ne : b.seen.length ≤ 4
 frm : ∀ x ∈ b.seekers, 0 ≤ x.frm ∧ x.frm < b.steps ∧ 0 ≤ x.til ∧ x.til < b.steps ∧ 0 ≤ x.says ∧ x.says ≤ 2
 sn : ∀ x ∈ b.seen, 0 ≤ x.step ∧ x.step < b.steps
/-- Seams of a book's round. -/
structure SmOk (b : Bk) (S : List Int) : Prop where
 len : S.length ≤ 3
 mem : ∀ x ∈ S, 0 ≤ x ∧ x < b.steps


theorem containsSeen_ok {main : Bool} {T : Goroutine → Hp → Prop} (hT : Shut Tryd.prog main T) {gm : Nat → Option Nat} {j off : Nat} {ob : AObj} {xs : List Seen} {p : Seen → Bool} {g : FuncId} {cp : List AV} {Kc : KV} (hg : callable Tryd.prog g = true) (hp : ∀ x ∈ xs, CallK Tryd.prog T gm g ([.agg (seenC x)] ++ cp) Kc (fun r K' => r = boolA (p x) ∧ K' = Kc)) (hI : SeenAt ob off xs) (hl : xs.length ≤ 1000) :
  CallK Tryd.prog T gm 91 [.sl j off xs.length, .fn g [] cp] ((j, ob) :: Kc) (fun r K' => r = boolA (xs.any p) ∧ K' = (j, ob) :: Kc) := by
 refine callK_in 9 hT Tryd.func91 fun Y hret => ?_
 refine au [4, 5, 2, 3, 4, 5, 1, 1] ?_
 refine TK.cl rfl rfl rfl rfl (indexSeen_ok hT hg hp hI hl) ?_ (hs := (.all _))
 rintro r1 K2 ⟨⟨m, rfl, hm⟩, hK⟩
 refine au [] ?_
 rw [hK, List.append_nil]
 refine au [6, 2, 3] ?_
 refine TK.rta hret ?_
 exact ⟨by rw [← hm]; rfl, rfl⟩

theorem seen1_ok {main : Bool} {T : Goroutine → Hp → Prop} (hT : Shut Tryd.prog main T) {gm : Nat → Option Nat} {S : List Int} {x : Seen} {js : Nat} (hS : S.length ≤ 3) (hx : -1000 ≤ x.step ∧ x.step ≤ 1000) :
  CallK Tryd.prog T gm 92 [.agg (seenC x), .ptr js 0] [(js, .cells (seamsC S) 81 true)] (fun r K' => r = boolA (decide (x.step ∈ S) != x.seam) ∧ K' = [(js, .cells (seamsC S) 81 true)]) := by
 refine callK_in 11 hT Tryd.func92 fun Y hret => ?_
 refine au [4, 5, 21] ?_
 intro j1 hj1
 refine au [2, 3, 4] ?_
 refine TK.draw [0, 1, 2, 4, 5, 3, 6, 7] [0, 1, 2, 3, 4, 5, 6, 7] (by kernel_rfl) (by kernel_rfl) ?_
 refine TD.y [1] rfl (hq := q_load rfl rfl TySz.h (List.Mem.head _) rfl) (h := ?_)
 refine TD.z [2] rfl (q_fieldAddr rfl rfl FldOf.h (by decide)) ?_
 refine TD.y [5] rfl (hq := q_load1 rfl rfl TySz.h (List.Mem.head _) rfl) (h := ?_)
 refine TD.z [2] rfl (q_fieldAddr rfl rfl FldOf.h (by decide)) ?_
 refine TD.y [8] rfl (hq := q_load1 rfl rfl TySz.h (List.Mem.head _) rfl) (h := ?_)
 refine TD.cl (pend' := [⟨5, [8], [(_, _)]⟩, ⟨4, [2], []⟩, ⟨1, [2], []⟩]) [4, 6] rfl rfl rfl rfl rfl (has_ok hT hS hx) (fun r2 K3 h4 => ⟨?_, ?_⟩)
 ·rcases h4 with ⟨rfl, rfl⟩
  all_goals simp
 obtain ⟨rfl, rfl⟩ := h4
 try simp only [List.cons_append, List.nil_append]
 refine TD.norm (by simp only [List.set]; rfl) ?_
 refine TD.z [7, 9] rfl (q_cmpB rfl rfl rfl Und.h rfl) ?_
 refine TD.as (pend' := []) [10] rfl rfl (q_assign rfl rfl) ?_
 refine TD.fin ?_
 refine au [] ?_
 refine TK.rt hret [(js, _)] ?_
 exact ⟨rfl, rfl⟩

theorem seen_ok {main : Bool} {T : Goroutine → Hp → Prop} (hT : Shut Tryd.prog main T) {gm : Nat → Option Nat} {b : Bk} {s e : Nat} {S : List Int} (hb : BkOk b) (hS : S.length ≤ 3) :
  CallK Tryd.prog T gm 74 [.agg (bookC b s e), .agg (seamsC S)] [(e, seenO b)] (fun r K' => r = boolA (seenM b S) ∧ K' = [(e, seenO b)]) := by
 refine callK_in 24 hT Tryd.func74 fun Y hret => ?_
 refine au [4, 5, 21] ?_
 intro jb hjb
 refine au [21] ?_
 intro js hjs
 refine au [2, 3, 4, 5, 7, 9, 7, 7, 7, 9, 7, 7, 7, 9] ?_
 refine TK.cl rfl rfl rfl rfl (from_ok hT) ?_
 rintro r1 K2 ⟨rfl, rfl⟩
 refine au [1] ?_
 refine TK.sp 16 (fun g1_12 => ?_) (fun g1_12 => ?_)
 ·refine au [7, 7, 9, 32] ?_
  refine TK.perm (K' := [(e, seenO b), (js, .cells (seamsC S) 81 true), (jb, .cells (bookC b s e) 70 true)]) ?_ ?_
  ·exact (List.Perm.cons _ (List.Perm.swap _ _ _)).trans ((List.Perm.swap _ _ _).trans (List.Perm.cons _ (.refl _)))
  refine TK.cl rfl rfl rfl rfl (containsSeen_ok hT (cp := [.ptr js 0]) (Kc := [(js, .cells (seamsC S) 81 true)]) (p := fun x => decide (x.step ∈ S) != x.seam) Cal.h (fun x hx => seen1_ok hT hS (by have := hb.sn x hx; have := hb.steps; omega)) (seen_at b) (by have := hb.ne; omega)) ?_
  rintro r4 K5 ⟨rfl, rfl⟩
  refine au [30, 26, 2, 3] ?_
  refine TK.rt hret [(e, _)] ?_
  refine ⟨?_, rfl⟩
  unfold seenM
  rw [g1_12]
  rfl
 refine au [11, 11, 11, 11, 11, 11, 25, 2, 3] ?_
 refine TK.rt hret [(e, _)] ?_
 refine ⟨?_, rfl⟩
 unfold seenM
 rw [g1_12]
 rfl

theorem some_ok {main : Bool} {T : Goroutine → Hp → Prop} (hT : Shut Tryd.prog main T) {gm : Nat → Option Nat} {n : Int} :
  CallK Tryd.prog T gm 129 [intA n] [] (fun r K' => r = boolA (decide (n > 0)) ∧ K' = []) := by
 refine callK_in 5 hT Tryd.func129 fun Y hret => ?_
 refine au [4, 5, 2, 3, 4, 5, 1, 6, 2, 3] ?_
 refine TK.rta hret ?_
 exact ⟨rfl, rfl⟩

theorem none_ok {main : Bool} {T : Goroutine → Hp → Prop} (hT : Shut Tryd.prog main T) {gm : Nat → Option Nat} {n : Int} :
  CallK Tryd.prog T gm 119 [intA n] [] (fun r K' => r = boolA (n == 0) ∧ K' = []) := by
 refine callK_in 5 hT Tryd.func119 fun Y hret => ?_
 refine au [4, 5, 2, 3, 4, 5, 1, 6, 2, 3] ?_
 refine TK.rta hret ?_
 exact ⟨rfl, rfl⟩

theorem one_ok {main : Bool} {T : Goroutine → Hp → Prop} (hT : Shut Tryd.prog main T) {gm : Nat → Option Nat} {n : Int} :
  CallK Tryd.prog T gm 130 [intA n] [] (fun r K' => r = boolA (n == 1) ∧ K' = []) := by
 refine callK_in 5 hT Tryd.func130 fun Y hret => ?_
 refine au [4, 5, 2, 3, 4, 5, 1, 6, 2, 3] ?_
 refine TK.rta hret ?_
 exact ⟨rfl, rfl⟩
end Go.Vel
end
section
set_option linter.all false
set_option maxRecDepth 20000
set_option maxHeartbeats 60000000
namespace Go.Vel
open Go Go.Conc Go.Proofs

def gmS : Nat → Option Nat
 | 0 => some 0
 | 1 => some 1
 | _ => none
/-- The table of what seekers can say. -/
def saysG : AObj := .cells [.fn 129 [] [], .fn 119 [] [], .fn 130 [] []] 129 false
theorem says_at' (b : Bk) {i : Nat} {x : Says} (h : b.seekers[i]? = some x) : takeO (saysO b) (0 + (i : Int).toNat * 5) 5 = some (saysC x) := by
 obtain ⟨h1, h2⟩ := List.getElem?_eq_some_iff.1 h
 rw [says_at b i h1, h2]
def glassM (b : Bk) (i : Nat) : Bool := match b.seekers[i]? with | some x => x.glass | none => false
def wrongL (b : Bk) (S : List Int) (i : Nat) : Nat := ((List.range i).filter fun k => !rightM b S k).length
def badM (b : Bk) (S : List Int) (i : Nat) : Bool := (List.range i).any fun k => !rightM b S k && glassM b k
theorem wrongL_succ (b : Bk) (S : List Int) (i : Nat) : wrongL b S (i + 1) = wrongL b S i + if rightM b S i = true then 0 else 1 := by
 unfold wrongL
 rw [List.range_succ, List.filter_append, List.length_append]
 cases h : rightM b S i <;> simp [h]
theorem badM_succ (b : Bk) (S : List Int) (i : Nat) : badM b S (i + 1) = (badM b S i || (!rightM b S i && glassM b i)) := by
 unfold badM
 rw [List.range_succ, List.any_append]
 simp
theorem wrongL_le (b : Bk) (S : List Int) (i : Nat) : wrongL b S i ≤ i := by
 have := List.length_filter_le (fun k => !rightM b S k) (List.range i)
 rw [List.length_range] at this
 exact this
theorem badM_of {b : Bk} {S : List Int} {i n : Nat} (hi : i < n) (h : rightM b S i = false) (hg : glassM b i = true) : badM b S n = true := by
 unfold badM
 rw [List.any_eq_true]
 exact ⟨i, List.mem_range.2 hi, by rw [h, hg]; rfl⟩
def wrongM (b : Bk) (S : List Int) : Int := if badM b S b.seekers.length = true then 0 else wrongL b S b.seekers.length
def canM (b : Bk) (S : List Int) : Bool := !badM b S b.seekers.length && decide ((wrongL b S b.seekers.length : Int) ≤ b.wrong) && seenM b S


theorem right0_ok {main : Bool} {T : Goroutine → Hp → Prop} (hT : Shut Tryd.prog main T)  {b : Bk} {s e : Nat} {S : List Int} {i : Nat} {nm : ByteArray} {fr ti : Int} {gl : Bool} (hb : BkOk b) (hS : SmOk b S) (hx : b.seekers[i]? = some ⟨nm, fr, ti, 0, gl⟩) :
  CallK Tryd.prog T gmS 63 [.agg (bookC b s e), .agg (seamsC S), intA i] [(1, saysG), (s, saysO b)] (fun r K' => r = boolA (rightM b S i) ∧ K' = [(1, saysG), (s, saysO b)]) := by
 refine callK_in 30 hT Tryd.func63 fun Y hret => ?_
 refine au [] ?_
 have hi := (List.getElem?_eq_some_iff.1 hx).1
 have hf := hb.frm _ (List.mem_of_getElem? hx)
 dsimp only at hf
 refine au [4, 5, 21] ?_
 intro jb hjb
 refine au [21] ?_
 intro js hjs
 refine au [2, 3, 4, 5, 7, 7, 9, 1, 36] ?_
 refine TK.a rfl (q_load rfl rfl TySz.h (by repeat (first | exact List.Mem.head _ | assumption | apply List.Mem.tail)) (says_at' b hx)) ?_
 refine au [22] ?_
 intro jx hjx
 refine au [17, 3, 4] ?_
 refine TK.draw [0, 1, 2, 3, 4, 5, 6, 7, 8, 9, 10, 11, 12, 13, 14, 15, 16] [0, 1, 2, 3, 4, 5, 6, 7, 8, 9, 10, 11, 12, 13, 14, 15, 16] (by kernel_rfl) (by kernel_rfl) ?_
 refine TD.z [7] rfl (q_fieldAddr rfl rfl FldOf.h (by decide)) ?_
 refine TD.y [14] rfl (hq := q_load1 rfl rfl TySz.h (List.Mem.head _) rfl) (h := ?_)
 refine TD.z [15] rfl (q_indexArr rfl rfl rfl ArEl.h (by first | omega | (dsimp only; omega)) (by first | omega | (dsimp only; omega))) ?_
 refine TD.y [16] rfl (hq := q_load1 rfl rfl TySz.h (List.Mem.head _) rfl) (h := ?_)
 refine TD.y [3] rfl (hq := q_load rfl rfl TySz.h (List.Mem.head _) rfl) (h := ?_)
 refine TD.y [4] rfl (hq := q_load rfl rfl TySz.h (List.Mem.head _) rfl) (h := ?_)
 refine TD.z [7] rfl (q_fieldAddr rfl rfl FldOf.h (by decide)) ?_
 refine TD.y [20] rfl (hq := q_load1 rfl rfl TySz.h (List.Mem.head _) rfl) (h := ?_)
 refine TD.y [3] rfl (hq := q_load rfl rfl TySz.h (List.Mem.head _) rfl) (h := ?_)
 refine TD.z [7] rfl (q_fieldAddr rfl rfl FldOf.h (by decide)) ?_
 refine TD.y [23] rfl (hq := q_load1 rfl rfl TySz.h (List.Mem.head _) rfl) (h := ?_)
 refine TD.z [7] rfl (q_fieldAddr rfl rfl FldOf.h (by decide)) ?_
 refine TD.y [25] rfl (hq := q_load1 rfl rfl TySz.h (List.Mem.head _) rfl) (h := ?_)
 refine TD.cl (pend' := [⟨11, [7], []⟩, ⟨9, [7], []⟩, ⟨7, [20], [(_, _)]⟩, ⟨6, [7], []⟩, ⟨5, [4], [(_, _)]⟩, ⟨4, [3], [(_, _)]⟩, ⟨3, [16], [(_, _)]⟩, ⟨2, [15], []⟩, ⟨1, [14], [(_, _)]⟩, ⟨0, [7], []⟩]) [22, 24, 26] rfl rfl rfl rfl rfl (wide_ok hT (b := b) (s := s) (e := e) (lo := fr) (hi := ti) hb.steps ⟨by omega, by omega⟩ ⟨by omega, by omega⟩) (fun r1 K2 h3 => ⟨?_, ?_⟩)
 ·rcases h3 with ⟨rfl, rfl⟩
  all_goals simp
 obtain ⟨rfl, rfl⟩ := h3
 try simp only [List.cons_append, List.nil_append]
 refine TD.norm (by simp only [List.set]; rfl) ?_
 refine TD.cl (pend' := [⟨11, [7], []⟩, ⟨9, [7], []⟩, ⟨6, [7], []⟩, ⟨3, [16], [(_, _)]⟩, ⟨2, [15], []⟩, ⟨1, [14], [(_, _)]⟩, ⟨0, [7], []⟩]) [18, 19, 21, 27] rfl rfl rfl rfl rfl (in_ok hT (b := b) (s := s) (e := e) (S := S) (lo := fr) (w := (ti - fr + b.steps) % b.steps + 1) hb.steps hS.len hS.mem ⟨by omega, by omega⟩) (fun r4 K5 h6 => ⟨?_, ?_⟩)
 ·rcases h6 with ⟨rfl, rfl⟩
  all_goals simp
 obtain ⟨rfl, rfl⟩ := h6
 try simp only [List.cons_append, List.nil_append]
 refine TD.norm (by simp only [List.set]; rfl) ?_
 refine TD.cl (pend' := [⟨11, [7], []⟩, ⟨9, [7], []⟩, ⟨6, [7], []⟩, ⟨2, [15], []⟩, ⟨1, [14], [(_, _)]⟩, ⟨0, [7], []⟩]) [17, 28] rfl rfl rfl rfl rfl (some_ok hT) (fun r7 K8 h9 => ⟨?_, ?_⟩)
 ·rcases h9 with ⟨rfl, rfl⟩
  all_goals simp
 obtain ⟨rfl, rfl⟩ := h9
 try simp only [List.cons_append, List.nil_append]
 refine TD.norm (by simp only [List.set]; rfl) ?_
 refine TD.as (pend' := []) [29] rfl rfl (q_assign rfl rfl) ?_
 refine TD.fin ?_
 refine au [] ?_
 refine TK.rt hret [(1, _), (s, _)] ?_
 exact ⟨by unfold rightM; rw [hx]; rfl, rfl⟩

theorem right1_ok {main : Bool} {T : Goroutine → Hp → Prop} (hT : Shut Tryd.prog main T)  {b : Bk} {s e : Nat} {S : List Int} {i : Nat} {nm : ByteArray} {fr ti : Int} {gl : Bool} (hb : BkOk b) (hS : SmOk b S) (hx : b.seekers[i]? = some ⟨nm, fr, ti, 1, gl⟩) :
  CallK Tryd.prog T gmS 63 [.agg (bookC b s e), .agg (seamsC S), intA i] [(1, saysG), (s, saysO b)] (fun r K' => r = boolA (rightM b S i) ∧ K' = [(1, saysG), (s, saysO b)]) := by
 refine callK_in 30 hT Tryd.func63 fun Y hret => ?_
 refine au [] ?_
 have hi := (List.getElem?_eq_some_iff.1 hx).1
 have hf := hb.frm _ (List.mem_of_getElem? hx)
 dsimp only at hf
 refine au [4, 5, 21] ?_
 intro jb hjb
 refine au [21] ?_
 intro js hjs
 refine au [2, 3, 4, 5, 7, 7, 9, 1, 36] ?_
 refine TK.a rfl (q_load rfl rfl TySz.h (by repeat (first | exact List.Mem.head _ | assumption | apply List.Mem.tail)) (says_at' b hx)) ?_
 refine au [22] ?_
 intro jx hjx
 refine au [17, 3, 4] ?_
 refine TK.draw [0, 1, 2, 3, 4, 5, 6, 7, 8, 9, 10, 11, 12, 13, 14, 15, 16] [0, 1, 2, 3, 4, 5, 6, 7, 8, 9, 10, 11, 12, 13, 14, 15, 16] (by kernel_rfl) (by kernel_rfl) ?_
 refine TD.z [7] rfl (q_fieldAddr rfl rfl FldOf.h (by decide)) ?_
 refine TD.y [14] rfl (hq := q_load1 rfl rfl TySz.h (List.Mem.head _) rfl) (h := ?_)
 refine TD.z [15] rfl (q_indexArr rfl rfl rfl ArEl.h (by first | omega | (dsimp only; omega)) (by first | omega | (dsimp only; omega))) ?_
 refine TD.y [16] rfl (hq := q_load1 rfl rfl TySz.h (List.Mem.head _) rfl) (h := ?_)
 refine TD.y [3] rfl (hq := q_load rfl rfl TySz.h (List.Mem.head _) rfl) (h := ?_)
 refine TD.y [4] rfl (hq := q_load rfl rfl TySz.h (List.Mem.head _) rfl) (h := ?_)
 refine TD.z [7] rfl (q_fieldAddr rfl rfl FldOf.h (by decide)) ?_
 refine TD.y [20] rfl (hq := q_load1 rfl rfl TySz.h (List.Mem.head _) rfl) (h := ?_)
 refine TD.y [3] rfl (hq := q_load rfl rfl TySz.h (List.Mem.head _) rfl) (h := ?_)
 refine TD.z [7] rfl (q_fieldAddr rfl rfl FldOf.h (by decide)) ?_
 refine TD.y [23] rfl (hq := q_load1 rfl rfl TySz.h (List.Mem.head _) rfl) (h := ?_)
 refine TD.z [7] rfl (q_fieldAddr rfl rfl FldOf.h (by decide)) ?_
 refine TD.y [25] rfl (hq := q_load1 rfl rfl TySz.h (List.Mem.head _) rfl) (h := ?_)
 refine TD.cl (pend' := [⟨11, [7], []⟩, ⟨9, [7], []⟩, ⟨7, [20], [(_, _)]⟩, ⟨6, [7], []⟩, ⟨5, [4], [(_, _)]⟩, ⟨4, [3], [(_, _)]⟩, ⟨3, [16], [(_, _)]⟩, ⟨2, [15], []⟩, ⟨1, [14], [(_, _)]⟩, ⟨0, [7], []⟩]) [22, 24, 26] rfl rfl rfl rfl rfl (wide_ok hT (b := b) (s := s) (e := e) (lo := fr) (hi := ti) hb.steps ⟨by omega, by omega⟩ ⟨by omega, by omega⟩) (fun r1 K2 h3 => ⟨?_, ?_⟩)
 ·rcases h3 with ⟨rfl, rfl⟩
  all_goals simp
 obtain ⟨rfl, rfl⟩ := h3
 try simp only [List.cons_append, List.nil_append]
 refine TD.norm (by simp only [List.set]; rfl) ?_
 refine TD.cl (pend' := [⟨11, [7], []⟩, ⟨9, [7], []⟩, ⟨6, [7], []⟩, ⟨3, [16], [(_, _)]⟩, ⟨2, [15], []⟩, ⟨1, [14], [(_, _)]⟩, ⟨0, [7], []⟩]) [18, 19, 21, 27] rfl rfl rfl rfl rfl (in_ok hT (b := b) (s := s) (e := e) (S := S) (lo := fr) (w := (ti - fr + b.steps) % b.steps + 1) hb.steps hS.len hS.mem ⟨by omega, by omega⟩) (fun r4 K5 h6 => ⟨?_, ?_⟩)
 ·rcases h6 with ⟨rfl, rfl⟩
  all_goals simp
 obtain ⟨rfl, rfl⟩ := h6
 try simp only [List.cons_append, List.nil_append]
 refine TD.norm (by simp only [List.set]; rfl) ?_
 refine TD.cl (pend' := [⟨11, [7], []⟩, ⟨9, [7], []⟩, ⟨6, [7], []⟩, ⟨2, [15], []⟩, ⟨1, [14], [(_, _)]⟩, ⟨0, [7], []⟩]) [17, 28] rfl rfl rfl rfl rfl (none_ok hT) (fun r7 K8 h9 => ⟨?_, ?_⟩)
 ·rcases h9 with ⟨rfl, rfl⟩
  all_goals simp
 obtain ⟨rfl, rfl⟩ := h9
 try simp only [List.cons_append, List.nil_append]
 refine TD.norm (by simp only [List.set]; rfl) ?_
 refine TD.as (pend' := []) [29] rfl rfl (q_assign rfl rfl) ?_
 refine TD.fin ?_
 refine au [] ?_
 refine TK.rt hret [(1, _), (s, _)] ?_
 exact ⟨by unfold rightM; rw [hx]; rfl, rfl⟩

theorem right2_ok {main : Bool} {T : Goroutine → Hp → Prop} (hT : Shut Tryd.prog main T)  {b : Bk} {s e : Nat} {S : List Int} {i : Nat} {nm : ByteArray} {fr ti : Int} {gl : Bool} (hb : BkOk b) (hS : SmOk b S) (hx : b.seekers[i]? = some ⟨nm, fr, ti, 2, gl⟩) :
  CallK Tryd.prog T gmS 63 [.agg (bookC b s e), .agg (seamsC S), intA i] [(1, saysG), (s, saysO b)] (fun r K' => r = boolA (rightM b S i) ∧ K' = [(1, saysG), (s, saysO b)]) := by
 refine callK_in 30 hT Tryd.func63 fun Y hret => ?_
 refine au [] ?_
 have hi := (List.getElem?_eq_some_iff.1 hx).1
 have hf := hb.frm _ (List.mem_of_getElem? hx)
 dsimp only at hf
 refine au [4, 5, 21] ?_
 intro jb hjb
 refine au [21] ?_
 intro js hjs
 refine au [2, 3, 4, 5, 7, 7, 9, 1, 36] ?_
 refine TK.a rfl (q_load rfl rfl TySz.h (by repeat (first | exact List.Mem.head _ | assumption | apply List.Mem.tail)) (says_at' b hx)) ?_
 refine au [22] ?_
 intro jx hjx
 refine au [17, 3, 4] ?_
 refine TK.draw [0, 1, 2, 3, 4, 5, 6, 7, 8, 9, 10, 11, 12, 13, 14, 15, 16] [0, 1, 2, 3, 4, 5, 6, 7, 8, 9, 10, 11, 12, 13, 14, 15, 16] (by kernel_rfl) (by kernel_rfl) ?_
 refine TD.z [7] rfl (q_fieldAddr rfl rfl FldOf.h (by decide)) ?_
 refine TD.y [14] rfl (hq := q_load1 rfl rfl TySz.h (List.Mem.head _) rfl) (h := ?_)
 refine TD.z [15] rfl (q_indexArr rfl rfl rfl ArEl.h (by first | omega | (dsimp only; omega)) (by first | omega | (dsimp only; omega))) ?_
 refine TD.y [16] rfl (hq := q_load1 rfl rfl TySz.h (List.Mem.head _) rfl) (h := ?_)
 refine TD.y [3] rfl (hq := q_load rfl rfl TySz.h (List.Mem.head _) rfl) (h := ?_)
 refine TD.y [4] rfl (hq := q_load rfl rfl TySz.h (List.Mem.head _) rfl) (h := ?_)
 refine TD.z [7] rfl (q_fieldAddr rfl rfl FldOf.h (by decide)) ?_
 refine TD.y [20] rfl (hq := q_load1 rfl rfl TySz.h (List.Mem.head _) rfl) (h := ?_)
 refine TD.y [3] rfl (hq := q_load rfl rfl TySz.h (List.Mem.head _) rfl) (h := ?_)
 refine TD.z [7] rfl (q_fieldAddr rfl rfl FldOf.h (by decide)) ?_
 refine TD.y [23] rfl (hq := q_load1 rfl rfl TySz.h (List.Mem.head _) rfl) (h := ?_)
 refine TD.z [7] rfl (q_fieldAddr rfl rfl FldOf.h (by decide)) ?_
 refine TD.y [25] rfl (hq := q_load1 rfl rfl TySz.h (List.Mem.head _) rfl) (h := ?_)
 refine TD.cl (pend' := [⟨11, [7], []⟩, ⟨9, [7], []⟩, ⟨7, [20], [(_, _)]⟩, ⟨6, [7], []⟩, ⟨5, [4], [(_, _)]⟩, ⟨4, [3], [(_, _)]⟩, ⟨3, [16], [(_, _)]⟩, ⟨2, [15], []⟩, ⟨1, [14], [(_, _)]⟩, ⟨0, [7], []⟩]) [22, 24, 26] rfl rfl rfl rfl rfl (wide_ok hT (b := b) (s := s) (e := e) (lo := fr) (hi := ti) hb.steps ⟨by omega, by omega⟩ ⟨by omega, by omega⟩) (fun r1 K2 h3 => ⟨?_, ?_⟩)
 ·rcases h3 with ⟨rfl, rfl⟩
  all_goals simp
 obtain ⟨rfl, rfl⟩ := h3
 try simp only [List.cons_append, List.nil_append]
 refine TD.norm (by simp only [List.set]; rfl) ?_
 refine TD.cl (pend' := [⟨11, [7], []⟩, ⟨9, [7], []⟩, ⟨6, [7], []⟩, ⟨3, [16], [(_, _)]⟩, ⟨2, [15], []⟩, ⟨1, [14], [(_, _)]⟩, ⟨0, [7], []⟩]) [18, 19, 21, 27] rfl rfl rfl rfl rfl (in_ok hT (b := b) (s := s) (e := e) (S := S) (lo := fr) (w := (ti - fr + b.steps) % b.steps + 1) hb.steps hS.len hS.mem ⟨by omega, by omega⟩) (fun r4 K5 h6 => ⟨?_, ?_⟩)
 ·rcases h6 with ⟨rfl, rfl⟩
  all_goals simp
 obtain ⟨rfl, rfl⟩ := h6
 try simp only [List.cons_append, List.nil_append]
 refine TD.norm (by simp only [List.set]; rfl) ?_
 refine TD.cl (pend' := [⟨11, [7], []⟩, ⟨9, [7], []⟩, ⟨6, [7], []⟩, ⟨2, [15], []⟩, ⟨1, [14], [(_, _)]⟩, ⟨0, [7], []⟩]) [17, 28] rfl rfl rfl rfl rfl (one_ok hT) (fun r7 K8 h9 => ⟨?_, ?_⟩)
 ·rcases h9 with ⟨rfl, rfl⟩
  all_goals simp
 obtain ⟨rfl, rfl⟩ := h9
 try simp only [List.cons_append, List.nil_append]
 refine TD.norm (by simp only [List.set]; rfl) ?_
 refine TD.as (pend' := []) [29] rfl rfl (q_assign rfl rfl) ?_
 refine TD.fin ?_
 refine au [] ?_
 refine TK.rt hret [(1, _), (s, _)] ?_
 exact ⟨by unfold rightM; rw [hx]; rfl, rfl⟩
theorem right_ok {main : Bool} {T : Goroutine → Hp → Prop} (hT : Shut Tryd.prog main T) {b : Bk} {s e : Nat} {S : List Int} {i : Nat} (hb : BkOk b) (hS : SmOk b S) (hi : i < b.seekers.length) :
  CallK Tryd.prog T gmS 63 [.agg (bookC b s e), .agg (seamsC S), intA i] [(1, saysG), (s, saysO b)] (fun r K' => r = boolA (rightM b S i) ∧ K' = [(1, saysG), (s, saysO b)]) := by
 have hx := List.getElem?_eq_getElem hi
 have hf := hb.frm _ (List.getElem_mem hi)
 generalize b.seekers[i] = x at hx hf
 obtain ⟨nm, fr, ti, sy, gl⟩ := x
 dsimp only at hf
 have : sy = 0 ∨ sy = 1 ∨ sy = 2 := by omega
 rcases this with rfl | rfl | rfl
 ·exact right0_ok hT hb hS hx
 ·exact right1_ok hT hb hS hx
 ·exact right2_ok hT hb hS hx

theorem wrong_ok {main : Bool} {T : Goroutine → Hp → Prop} (hT : Shut Tryd.prog main T)  {b : Bk} {s e : Nat} {S : List Int} (hb : BkOk b) (hS : SmOk b S) :
  CallK Tryd.prog T gmS 46 [.agg (bookC b s e), .agg (seamsC S)] [(1, saysG), (s, saysO b)] (fun r K' => r = .tup [intA (wrongM b S), boolA (!badM b S b.seekers.length)] ∧ K' = [(1, saysG), (s, saysO b)]) := by
 refine callK_in 28 hT Tryd.func46 fun Y hret => ?_
 refine au [4, 5, 21] ?_
 intro jb hjb
 refine au [21] ?_
 intro js hjs
 refine au [2, 2, 3, 4, 5, 2, 3, 4, 4, 5, 7, 7, 9, 28, 1, 3, 13] ?_
 refine TK.maskL [2, 3, 6, 11, 12, 13] ?_
 refine TK.loopN (fun n env K => ∃ (i : Nat), n = b.seekers.length - i ∧ i ≤ b.seekers.length ∧ badM b S i = false ∧ env = slotsA 28 [(2, .ptr jb 0), (3, .ptr js 0), (6, intA (wrongL b S i)), (11, .sl s 0 b.seekers.length), (12, intA b.seekers.length), (13, intA i)] ∧ K = [(js, .cells (seamsC S) 81 true), (jb, .cells (bookC b s e) 70 true), (1, saysG), (s, saysO b)]) b.seekers.length ⟨0, rfl, Nat.zero_le _, rfl, rfl, rfl⟩ fun n env K hI hnext => ?_
 obtain ⟨i, rfl, hi, hbd, rfl, rfl⟩ := hI
 refine au [4, 5, 6, 3, 4, 20] ?_
 refine ⟨fun hc => ?_, fun hc => ?_⟩
 ·simp only [decide_eq_true_eq] at hc
  have hil : i < b.seekers.length := by omega
  have hx := List.getElem?_eq_getElem hil
  have hwl := wrongL_le b S i
  have hn5 := hb.ns
  refine au [12, 4, 13, 4, 5, 1, 36] ?_
  refine TK.a rfl (q_load rfl rfl TySz.h (by repeat (first | exact List.Mem.head _ | assumption | apply List.Mem.tail)) (says_at' b hx)) ?_
  refine au [22] ?_
  intro jx hjx
  refine au [2, 17, 3, 4, 4, 5, 8, 8, 1] ?_
  refine TK.cl rfl rfl rfl rfl (right_ok hT (s := s) (e := e) hb hS hil) ?_
  rintro r1 K2 ⟨rfl, rfl⟩
  refine au [3, 20] ?_
  refine ⟨fun hc1 => ?_, fun hc1 => ?_⟩
  ·refine au [16, 5, 23, 1, 3] ?_
   refine TK.maskL [2, 3, 6, 11, 12, 13] ?_
   refine TK.kp [(js, _), (jb, _), (1, _), (s, _)] ?_
   exact hnext _ _ _ (by omega) ⟨i + 1, rfl, by omega, by rw [badM_succ, hbd, hc1]; rfl, by rw [wrongL_succ, if_pos hc1]; rfl, rfl⟩
  have hcf := hc1
  refine au [12, 4, 4, 5, 7, 9, 3, 20] ?_
  refine ⟨fun hc2 => ?_, fun hc2 => ?_⟩
  ·have hg : glassM b i = true := by unfold glassM; rw [hx]; exact hc2
   refine au [4, 5, 2, 2, 3] ?_
   refine TK.rt hret [(1, _), (s, _)] ?_
   have hbad := badM_of hil hcf hg
   exact ⟨by unfold wrongM; rw [hbad]; rfl, rfl⟩
  have hgf : glassM b i = false := by unfold glassM; rw [hx]; exact hc2
  refine au [12, 5, 1, 23, 2, 3, 14, 5, 23, 1, 3] ?_
  refine TK.maskL [2, 3, 6, 11, 12, 13] ?_
  refine TK.kp [(js, _), (jb, _), (1, _), (s, _)] ?_
  exact hnext _ _ _ (by omega) ⟨i + 1, rfl, by omega, by rw [badM_succ, hbd, hgf]; simp, by rw [wrongL_succ, if_neg (by rw [hc1]; decide)]; rfl, rfl⟩
 simp only [decide_eq_false_iff_not] at hc
 obtain rfl : i = b.seekers.length := by omega
 refine au [16, 4, 5, 1, 2, 2, 3] ?_
 refine TK.rt hret [(1, _), (s, _)] ?_
 exact ⟨by unfold wrongM; rw [hbd]; rfl, rfl⟩

theorem can_ok {main : Bool} {T : Goroutine → Hp → Prop} (hT : Shut Tryd.prog main T)  {b : Bk} {s e : Nat} {S : List Int} (hse : s ≠ e) (hb : BkOk b) (hS : SmOk b S) :
  CallK Tryd.prog T gmS 64 [.agg (bookC b s e), .agg (seamsC S)] [(1, saysG), (s, saysO b), (e, seenO b)] (fun r K' => r = boolA (canM b S) ∧ K' = [(1, saysG), (s, saysO b), (e, seenO b)]) := by
 refine callK_in 26 hT Tryd.func64 fun Y hret => ?_
 refine au [4, 5, 21] ?_
 intro jb hjb
 refine au [21] ?_
 intro js hjs
 refine au [2, 3, 4, 5, 8, 8] ?_
 refine TK.cl rfl rfl rfl rfl (wrong_ok hT (s := s) (e := e) hb hS) ?_
 rintro r1 K2 ⟨rfl, rfl⟩
 refine au [1, 10, 10, 2, 2, 3, 4, 5, 1, 1] ?_
 refine TK.sp 14 (fun g2_2 => ?_) (fun g2_2 => ?_)
 ·refine au [1, 7, 7, 9, 6, 26, 1] ?_
  refine TK.sp 21 (fun g2_9 => ?_) (fun g2_9 => ?_)
  ·refine au [8, 8] ?_
   refine TK.cl rfl rfl rfl rfl (seen_ok hT (s := s) (e := e) hb hS.len) ?_
   rintro r4 K5 ⟨rfl, rfl⟩
   refine au [26, 2, 3] ?_
   refine TK.rt hret [(1, _), (s, _), (e, _)] ?_
   refine ⟨?_, rfl⟩
   have hb2 : badM b S b.seekers.length = false := by simpa using g2_2
   have hw2 : wrongM b S = wrongL b S b.seekers.length := by unfold wrongM; rw [hb2]; rfl
   rw [hw2] at g2_9
   unfold canM
   rw [hb2, g2_9]
   rfl
  refine au [11, 11, 11, 25, 2, 3] ?_
  refine TK.rt hret [(1, _), (s, _), (e, _)] ?_
  refine ⟨?_, rfl⟩
  have hb2 : badM b S b.seekers.length = false := by simpa using g2_2
  have hw2 : wrongM b S = wrongL b S b.seekers.length := by unfold wrongM; rw [hb2]; rfl
  rw [hw2] at g2_9
  unfold canM
  rw [hb2, g2_9]
  rfl
 refine au [11, 11, 11, 11, 11, 25, 1, 11, 11, 11, 25, 2, 3] ?_
 refine TK.rt hret [(1, _), (s, _), (e, _)] ?_
 refine ⟨?_, rfl⟩
 unfold canM
 rw [g2_2]
 rfl
end Go.Vel
end
section
set_option linter.all false
set_option maxRecDepth 20000
set_option maxHeartbeats 60000000
namespace Go.Vel
open Go Go.Conc Go.Proofs

theorem with_put {S : List Int} {n : Int} {e : TypeId} (h : S.length < 3) : putO (.cells (seamsC S) e true) (1 + (S.length : Int).toNat * 1) [intA (n + 1)] = some (.cells [intA S.length, slotS (S ++ [n]) 0, slotS (S ++ [n]) 1, slotS (S ++ [n]) 2] e true) := by
 rcases S with _ | ⟨x, _ | ⟨y, _ | ⟨z, S⟩⟩⟩
 ·rfl
 ·rfl
 ·rfl
 ·simp at h; omega
def numbersM (b : Bk) : Int := bif !(decide (4 ≤ b.steps) && decide (b.steps ≤ 16)) || (!(decide (0 ≤ b.wrong) && decide (b.wrong ≤ 3)) || (decide (b.low < 0) || (decide (b.low > b.high) || decide (b.high > 3)))) then 1 else 0
def isStepM (b : Bk) (n : Int) : Bool := decide (0 ≤ n) && decide (n ≤ b.steps - 1)
def lookedM (b : Bk) : Int := if b.seen.length > 4 then 2 else if (b.seen.any fun x => !isStepM b x.step) = true then 6 else 0


theorem with_ok {main : Bool} {T : Goroutine → Hp → Prop} (hT : Shut Tryd.prog main T) {gm : Nat → Option Nat} {S : List Int} {n : Int} (hS : S.length < 3) (hn : -1000 ≤ n ∧ n ≤ 1000) :
  CallK Tryd.prog T gm 75 [.agg (seamsC S), intA n] [] (fun r K' => r = .agg (seamsC (S ++ [n])) ∧ K' = []) := by
 refine callK_in 16 hT Tryd.func75 fun Y hret => ?_
 refine au [4, 5, 21] ?_
 intro js hjs
 refine au [22] ?_
 intro jr hjr
 refine au [3, 4, 5, 7, 9, 1, 23, 7] ?_
 refine TK.a rfl (q_indexArr rfl rfl rfl ArEl.h (by omega) (by omega)) ?_
 refine TK.st rfl rfl rfl (q_store rfl rfl TySz.h rfl rfl (by repeat (first | exact List.Mem.head _ | assumption | apply List.Mem.tail)) (with_put hS)) (by repeat (first | exact Upd.head | apply Upd.tail)) (putN rfl) ?_
 refine au [3, 4, 5, 7, 9, 23, 7, 17, 3, 4, 5, 8, 17, 3] ?_
 refine TK.rt hret [] ?_
 exact ⟨by show AV.agg [intA (S.length + 1), _, _, _] = _; unfold seamsC; rw [List.length_append]; rfl, rfl⟩

theorem numbers_ok {main : Bool} {T : Goroutine → Hp → Prop} (hT : Shut Tryd.prog main T) {gm : Nat → Option Nat} {b : Bk} {s e : Nat} :
  CallK Tryd.prog T gm 121 [.agg (bookC b s e)] [] (fun r K' => r = intA (numbersM b) ∧ K' = []) := by
 refine callK_in 40 hT Tryd.func121 fun Y hret => ?_
 refine au [4, 5, 21] ?_
 intro j1 hj1
 refine au [2, 3, 4, 4, 5, 7, 7, 9] ?_
 refine TK.cl rfl rfl rfl rfl (from_ok hT) ?_
 rintro r2 K3 ⟨rfl, rfl⟩
 refine au [30, 1] ?_
 refine TK.sp 8 (fun g1_6 => ?_) (fun g1_6 => ?_)
 ·refine au [11, 11, 11, 11, 11, 26, 1, 11, 11, 11, 11, 11, 26, 1, 11, 11, 11, 11, 11, 11, 11, 11, 11, 26, 1, 11, 11, 11, 11, 11, 26, 3, 18, 4, 5, 2, 3] ?_
  refine TK.rt hret [] ?_
  exact ⟨by unfold numbersM; rw [g1_6]; rfl, rfl⟩
 refine au [7, 7, 9] ?_
 refine TK.cl rfl rfl rfl rfl (from_ok hT) ?_
 rintro r5 K6 ⟨rfl, rfl⟩
 refine au [30, 25, 1] ?_
 refine TK.sp 15 (fun g1_13 => ?_) (fun g1_13 => ?_)
 ·refine au [11, 11, 11, 11, 11, 26, 1, 11, 11, 11, 11, 11, 11, 11, 11, 11, 26, 1, 11, 11, 11, 11, 11, 26, 3, 18, 4, 5, 2, 3] ?_
  refine TK.rt hret [] ?_
  exact ⟨by unfold numbersM; rw [g1_6, g1_13]; rfl, rfl⟩
 refine au [7, 7, 7, 9, 6, 25, 1] ?_
 refine TK.sp 22 (fun g1_20 => ?_) (fun g1_20 => ?_)
 ·refine au [11, 11, 11, 11, 11, 11, 11, 11, 11, 26, 1, 11, 11, 11, 11, 11, 26, 3, 18, 4, 5, 2, 3] ?_
  refine TK.rt hret [] ?_
  exact ⟨by unfold numbersM; rw [g1_6, g1_13, g1_20]; rfl, rfl⟩
 refine au [7, 7, 7, 9, 7, 7, 7, 9, 6, 25, 1] ?_
 refine TK.sp 33 (fun g1_31 => ?_) (fun g1_31 => ?_)
 ·refine au [11, 11, 11, 11, 11, 26, 3, 18, 4, 5, 2, 3] ?_
  refine TK.rt hret [] ?_
  exact ⟨by unfold numbersM; rw [g1_6, g1_13, g1_20, g1_31]; rfl, rfl⟩
 refine au [7, 7, 7, 9, 6, 25, 3, 20] ?_
 refine ⟨fun k0 => ?_, fun k0 => ?_⟩
 ·refine au [4, 5, 2, 3] ?_
  refine TK.rt hret [] ?_
  exact ⟨by unfold numbersM; rw [g1_6, g1_13, g1_20, g1_31, k0]; rfl, rfl⟩
 refine au [12, 4, 5, 2, 3] ?_
 refine TK.rt hret [] ?_
 exact ⟨by unfold numbersM; rw [g1_6, g1_13, g1_20, g1_31, k0]; rfl, rfl⟩

theorem looked1_ok {main : Bool} {T : Goroutine → Hp → Prop} (hT : Shut Tryd.prog main T) {gm : Nat → Option Nat} {b : Bk} {s e jb : Nat} {x : Seen} (hs : 0 ≤ b.steps ∧ b.steps ≤ 16) :
  CallK Tryd.prog T gm 127 [.agg (seenC x), .ptr jb 0] [(jb, .cells (bookC b s e) 70 true)] (fun r K' => r = boolA (!isStepM b x.step) ∧ K' = [(jb, .cells (bookC b s e) 70 true)]) := by
 refine callK_in 9 hT Tryd.func127 fun Y hret => ?_
 refine au [4, 5, 21] ?_
 intro j1 hj1
 refine au [2, 3, 4, 5, 8, 7, 9] ?_
 refine TK.cl rfl rfl rfl rfl (isStep_ok hT (s := s) (e := e) hs) ?_
 rintro r2 K3 ⟨rfl, rfl⟩
 refine au [30, 2, 3] ?_
 refine TK.rt hret [(jb, _)] ?_
 exact ⟨rfl, rfl⟩

theorem looked_ok {main : Bool} {T : Goroutine → Hp → Prop} (hT : Shut Tryd.prog main T) {gm : Nat → Option Nat} {b : Bk} {s e : Nat} (hs : 0 ≤ b.steps ∧ b.steps ≤ 16) (hl : b.seen.length ≤ 1000) :
  CallK Tryd.prog T gm 123 [.agg (bookC b s e)] [(e, seenO b)] (fun r K' => r = intA (lookedM b) ∧ K' = [(e, seenO b)]) := by
 refine callK_in 13 hT Tryd.func123 fun Y hret => ?_
 refine au [4, 5, 21] ?_
 intro jb hjb
 refine au [2, 3, 4, 4, 5, 7, 7, 9, 28, 6, 3, 20] ?_
 refine ⟨fun k0 => ?_, fun k0 => ?_⟩
 ·have k0 : b.seen.length > 4 := by have := of_decide_eq_true k0; omega
  refine au [4, 5, 2, 3] ?_
  refine TK.rt hret [(e, _)] ?_
  exact ⟨by unfold lookedM; rw [if_pos k0]; rfl, rfl⟩
 have k0 : ¬ b.seen.length > 4 := by have := of_decide_eq_false k0; omega
 refine au [12, 4, 4, 5, 7, 7, 9, 32] ?_
 refine TK.cl rfl rfl rfl rfl (containsSeen_ok hT (cp := [.ptr jb 0]) (Kc := [(jb, .cells (bookC b s e) 70 true)]) (p := fun x => !isStepM b x.step) Cal.h (fun x _ => looked1_ok hT hs) (seen_at b) hl) ?_
 rintro r1 K2 ⟨rfl, rfl⟩
 refine au [3, 20] ?_
 refine ⟨fun k1 => ?_, fun k1 => ?_⟩
 ·refine au [4, 5, 2, 3] ?_
  refine TK.rt hret [(e, _)] ?_
  exact ⟨by unfold lookedM; rw [if_neg k0, if_pos k1]; rfl, rfl⟩
 have k1 : ¬ (b.seen.any fun x => !isStepM b x.step) = true := by rw [k1]; decide
 refine au [12, 4, 5, 2, 3] ?_
 refine TK.rt hret [(e, _)] ?_
 exact ⟨by unfold lookedM; rw [if_neg k0, if_neg k1]; rfl, rfl⟩
end Go.Vel
end
section
set_option linter.all false
set_option maxRecDepth 20000
set_option maxHeartbeats 60000000
namespace Go.Vel
open Go Go.Conc Go.Proofs

def SaysAt (ob : AObj) (off : Nat) (xs : List Says) : Prop := ∀ (i : Nat) (h : i < xs.length), takeO ob (off + (i : Int).toNat * 5) 5 = some (saysC xs[i])
theorem anyS_take_succ {xs : List Says} {p : Says → Bool} {i : Nat} (h : i < xs.length) (hn : (xs.take i).any p = false) (he : p xs[i] = false) : (xs.take (i + 1)).any p = false := by
 rw [List.take_add_one, List.getElem?_eq_getElem h, List.any_append, hn]
 simp [he]


theorem indexSays_ok {main : Bool} {T : Goroutine → Hp → Prop} (hT : Shut Tryd.prog main T) {gm : Nat → Option Nat} {j off : Nat} {ob : AObj} {xs : List Says} {p : Says → Bool} {g : FuncId} {cp : List AV} {Kc : KV} (hg : callable Tryd.prog g = true) (hp : ∀ x ∈ xs, CallK Tryd.prog T gm g ([.agg (saysC x)] ++ cp) Kc (fun r K' => r = boolA (p x) ∧ K' = Kc)) (hI : SaysAt ob off xs) (hl : xs.length ≤ 1000) :
  CallK Tryd.prog T gm 128 [.sl j off xs.length, .fn g [] cp] ((j, ob) :: Kc) (fun r K' => (∃ n : Int, r = intA n ∧ decide (n ≥ 0) = xs.any p) ∧ K' = (j, ob) :: Kc) := by
 refine callK_in 19 hT Tryd.func128 fun Y hret => ?_
 refine au [4, 5, 2, 3, 4, 4, 5, 1, 28, 1, 3, 13] ?_
 refine TK.maskL [0, 1, 7, 8] ?_
 refine TK.loopN (fun n env K => ∃ (i : Nat), n = xs.length - i ∧ i ≤ xs.length ∧ (xs.take i).any p = false ∧ env = slotsA 19 [(0, .sl j off xs.length), (1, .fn g [] cp), (7, intA xs.length), (8, intA i)] ∧ K = (j, ob) :: Kc) xs.length ⟨0, rfl, Nat.zero_le _, by simp, rfl, rfl⟩ fun n env K hI' hnext => ?_
 obtain ⟨i, rfl, hi, hn, rfl, rfl⟩ := hI'
 refine au [4, 5, 6, 3, 4, 20] ?_
 refine ⟨fun hc => ?_, fun hc => ?_⟩
 ·simp only [decide_eq_true_eq] at hc
  have hil : i < xs.length := by omega
  refine au [12, 4, 13, 4, 5, 1, 2, 3, 4, 5, 1, 1, 1, 36] ?_
  refine TK.a rfl (q_load rfl rfl TySz.h (by repeat (first | exact List.Mem.head _ | assumption | apply List.Mem.tail)) (hI i hil)) ?_
  refine TK.cl rfl rfl rfl rfl (hp xs[i] (List.getElem_mem _)) ?_ (hs := (.right (.all _))) (hg := hg)
  rintro r1 K2 ⟨rfl, hK⟩
  refine au [] ?_
  rw [hK]
  refine TK.perm (K' := (j, ob) :: Kc) (List.perm_append_singleton _ _) ?_
  refine au [3, 20] ?_
  refine ⟨fun hc1 => ?_, fun hc1 => ?_⟩
  ·refine au [4, 5, 1, 2, 3] ?_
   refine TK.rta hret ?_
   exact ⟨⟨i, rfl, by rw [decide_eq_true (Int.natCast_nonneg i), List.any_eq_true.2 ⟨xs[i], List.getElem_mem _, hc1⟩]⟩, rfl⟩
  refine au [12, 14, 5, 23, 1, 3] ?_
  refine TK.maskL [0, 1, 7, 8] ?_
  exact hnext _ _ _ (by omega) ⟨i + 1, rfl, by omega, anyS_take_succ hil hn hc1, rfl, rfl⟩
 simp only [decide_eq_false_iff_not] at hc
 obtain rfl : i = xs.length := by omega
 refine au [16, 4, 5, 2, 3] ?_
 refine TK.rta hret ?_
 rw [List.take_length] at hn
 exact ⟨⟨-1, rfl, by rw [hn]; rfl⟩, rfl⟩

theorem containsSays_ok {main : Bool} {T : Goroutine → Hp → Prop} (hT : Shut Tryd.prog main T) {gm : Nat → Option Nat} {j off : Nat} {ob : AObj} {xs : List Says} {p : Says → Bool} {g : FuncId} {cp : List AV} {Kc : KV} (hg : callable Tryd.prog g = true) (hp : ∀ x ∈ xs, CallK Tryd.prog T gm g ([.agg (saysC x)] ++ cp) Kc (fun r K' => r = boolA (p x) ∧ K' = Kc)) (hI : SaysAt ob off xs) (hl : xs.length ≤ 1000) :
  CallK Tryd.prog T gm 125 [.sl j off xs.length, .fn g [] cp] ((j, ob) :: Kc) (fun r K' => r = boolA (xs.any p) ∧ K' = (j, ob) :: Kc) := by
 refine callK_in 9 hT Tryd.func125 fun Y hret => ?_
 refine au [4, 5, 2, 3, 4, 5, 1, 1] ?_
 refine TK.cl rfl rfl rfl rfl (indexSays_ok hT hg hp hI hl) ?_ (hs := (.all _))
 rintro r1 K2 ⟨⟨m, rfl, hm⟩, hK⟩
 refine au [] ?_
 rw [hK, List.append_nil]
 refine au [6, 2, 3] ?_
 refine TK.rta hret ?_
 exact ⟨by rw [← hm]; rfl, rfl⟩

theorem heard1_ok {main : Bool} {T : Goroutine → Hp → Prop} (hT : Shut Tryd.prog main T) {gm : Nat → Option Nat} {x y : Says} {jy : Nat} {e : TypeId} :
  CallK Tryd.prog T gm 126 [.agg (saysC x), .ptr jy 0] [(jy, .cells (saysC y) e true)] (fun r K' => r = boolA (x.name.toList == y.name.toList) ∧ K' = [(jy, .cells (saysC y) e true)]) := by
 refine callK_in 9 hT Tryd.func126 fun Y hret => ?_
 refine au [4, 5, 21] ?_
 intro j1 hj1
 refine au [2, 3, 4, 5, 7, 9, 7, 9, 33, 2, 3] ?_
 refine TK.rt hret [(jy, _)] ?_
 exact ⟨rfl, rfl⟩
end Go.Vel
end
section
set_option linter.all false
set_option maxRecDepth 20000
set_option maxHeartbeats 60000000
namespace Go.Vel
open Go Go.Conc Go.Proofs

def byteOk (i : Nat) (c : Int) : Bool := (decide (97 ≤ c) && decide (c ≤ 122)) || ((decide ((i : Int) > 0) && decide (48 ≤ c)) && decide (c ≤ 57))
def bytesOk (s : ByteArray) (n : Nat) : Bool := (List.range n).all fun i => byteOk i (((s.data[i]?).map fun b => (b.toNat : Int)).getD 0)
def isNameM (s : ByteArray) : Bool := bytesOk s s.size && (decide (1 ≤ (s.size : Int)) && decide ((s.size : Int) ≤ 12))
theorem bytesOk_succ {s : ByteArray} {i : Nat} {c : UInt8} (h : s.data[i]? = some c) : bytesOk s (i + 1) = (bytesOk s i && byteOk i c.toNat) := by
 unfold bytesOk
 rw [List.range_succ, List.all_append]
 simp [h]
theorem bytesOk_bad {s : ByteArray} {i n : Nat} {c : UInt8} (h : s.data[i]? = some c) (hi : i < n) (hb : byteOk i c.toNat = false) : bytesOk s n = false := by
 unfold bytesOk
 rw [List.all_eq_false]
 exact ⟨i, List.mem_range.2 hi, by simp [h, hb]⟩
theorem bytes_take {s : ByteArray} {i : Nat} {c : UInt8} (h : s.data[i]? = some c) {e : TypeId} {rw : Bool} : takeO (.cells (s.data.toList.map byteA) e rw) (0 + (i : Int).toNat * 1) 1 = some [byteA c] := by
 have hlt : i < s.data.size := (Array.getElem?_eq_some_iff.1 h).1
 simp only [takeO, AObj.look, Int.toNat_natCast, Nat.zero_add, Nat.mul_one]
 rw [if_pos ⟨by omega, by rw [List.length_map, Array.length_toList]; omega⟩, List.take_one, List.head?_drop, List.getElem?_map, Array.getElem?_toList, h]
 rfl


theorem isName_ok {main : Bool} {T : Goroutine → Hp → Prop} (hT : Shut Tryd.prog main T) {gm : Nat → Option Nat} {s : ByteArray} (hl : s.size ≤ 1000) :
  CallK Tryd.prog T gm 124 [.v (.string s)] [] (fun r K' => r = boolA (isNameM s) ∧ K' = []) := by
 refine callK_in 35 hT Tryd.func124 fun Y hret => ?_
 refine au [4, 5, 2, 3, 4, 4, 5, 1] ?_
 refine TK.newS rfl rfl rfl (n_toBytes rfl rfl Und.h Und.h Und.h (by omega)) (fun _ => putS rfl (by simp only [List.set]; rfl)) fun jt hjt => ?_
 refine au [28, 1, 3, 13] ?_
 refine TK.maskL [0, 6, 7, 8] ?_
 refine TK.loopN (fun n env K => ∃ (i : Nat), n = s.size - i ∧ i ≤ s.size ∧ bytesOk s i = true ∧ env = slotsA 35 [(0, .v (.string s)), (6, .sl jt 0 s.size), (7, intA s.size), (8, intA i)] ∧ K = [(jt, .cells (s.data.toList.map byteA) 5 false)]) s.size ⟨0, rfl, Nat.zero_le _, rfl, rfl, rfl⟩ fun n env K hI hnext => ?_
 obtain ⟨i, rfl, hi, hok, rfl, rfl⟩ := hI
 refine au [4, 5, 6, 3, 4, 20] ?_
 refine ⟨fun hc => ?_, fun hc => ?_⟩
 ·simp only [decide_eq_true_eq] at hc
  have hil : i < s.data.size := by have : s.data.size = s.size := rfl; omega
  obtain ⟨cb, hcb⟩ : ∃ cb, s.data[i]? = some cb := ⟨_, Array.getElem?_eq_getElem hil⟩
  refine au [12, 4, 13, 4, 5, 1, 36] ?_
  refine TK.a rfl (q_load1 rfl rfl TySz.h (by repeat (first | exact List.Mem.head _ | assumption | apply List.Mem.tail)) (bytes_take hcb)) ?_
  refine au [2, 2, 3, 13, 4, 5, 1, 6, 1] ?_
  refine TK.sp 16 (fun g5_3 => ?_) (fun g5_3 => ?_)
  ·refine au [1, 6, 26, 2, 3, 20] ?_
   refine ⟨fun k1 => ?_, fun k1 => ?_⟩
   ·refine au [12, 14, 14, 5, 23, 1, 3] ?_
    refine TK.maskL [0, 6, 7, 8] ?_
    refine TK.kp [(jt, _)] ?_
    exact hnext _ _ _ (by omega) ⟨i + 1, rfl, by omega, by rw [bytesOk_succ hcb, hok]; unfold byteOk; first | (simp only [*]; rfl) | simp only [*], rfl, rfl⟩
   refine au [4, 5, 1, 6, 1] ?_
   refine TK.sp 23 (fun g6_3 => ?_) (fun g6_3 => ?_)
   ·refine au [1, 6, 26, 1] ?_
    refine TK.sp 27 (fun g6_7 => ?_) (fun g6_7 => ?_)
    ·refine au [1, 6, 26, 2, 3, 20] ?_
     refine ⟨fun k2 => ?_, fun k2 => ?_⟩
     ·refine au [12, 14, 14, 5, 23, 1, 3] ?_
      refine TK.maskL [0, 6, 7, 8] ?_
      refine TK.kp [(jt, _)] ?_
      exact hnext _ _ _ (by omega) ⟨i + 1, rfl, by omega, by rw [bytesOk_succ hcb, hok]; unfold byteOk; first | (simp only [*]; rfl) | simp only [*], rfl, rfl⟩
     refine au [4, 5, 2, 3] ?_
     refine TK.rt hret [] ?_
     exact ⟨by unfold isNameM; rw [bytesOk_bad (n := s.size) hcb hil (by unfold byteOk; first | (simp only [*]; rfl) | simp only [*])]; rfl, rfl⟩
    refine au [11, 11, 25, 2, 3, 19, 4, 5, 2, 3] ?_
    refine TK.rt hret [] ?_
    exact ⟨by unfold isNameM; rw [bytesOk_bad (n := s.size) hcb hil (by unfold byteOk; first | (simp only [*]; rfl) | simp only [*])]; rfl, rfl⟩
   refine au [11, 11, 25, 1, 11, 11, 25, 2, 3, 19, 4, 5, 2, 3] ?_
   refine TK.rt hret [] ?_
   exact ⟨by unfold isNameM; rw [bytesOk_bad (n := s.size) hcb hil (by unfold byteOk; first | (simp only [*]; rfl) | simp only [*])]; rfl, rfl⟩
  refine au [11, 11, 25, 2, 3, 19, 4, 5, 1, 6, 1] ?_
  refine TK.sp 23 (fun g6_3 => ?_) (fun g6_3 => ?_)
  ·refine au [1, 6, 26, 1] ?_
   refine TK.sp 27 (fun g6_7 => ?_) (fun g6_7 => ?_)
   ·refine au [1, 6, 26, 2, 3, 20] ?_
    refine ⟨fun k2 => ?_, fun k2 => ?_⟩
    ·refine au [12, 14, 14, 5, 23, 1, 3] ?_
     refine TK.maskL [0, 6, 7, 8] ?_
     refine TK.kp [(jt, _)] ?_
     exact hnext _ _ _ (by omega) ⟨i + 1, rfl, by omega, by rw [bytesOk_succ hcb, hok]; unfold byteOk; first | (simp only [*]; rfl) | simp only [*], rfl, rfl⟩
    refine au [4, 5, 2, 3] ?_
    refine TK.rt hret [] ?_
    exact ⟨by unfold isNameM; rw [bytesOk_bad (n := s.size) hcb hil (by unfold byteOk; first | (simp only [*]; rfl) | simp only [*])]; rfl, rfl⟩
   refine au [11, 11, 25, 2, 3, 19, 4, 5, 2, 3] ?_
   refine TK.rt hret [] ?_
   exact ⟨by unfold isNameM; rw [bytesOk_bad (n := s.size) hcb hil (by unfold byteOk; first | (simp only [*]; rfl) | simp only [*])]; rfl, rfl⟩
  refine au [11, 11, 25, 1, 11, 11, 25, 2, 3, 19, 4, 5, 2, 3] ?_
  refine TK.rt hret [] ?_
  exact ⟨by unfold isNameM; rw [bytesOk_bad (n := s.size) hcb hil (by unfold byteOk; first | (simp only [*]; rfl) | simp only [*])]; rfl, rfl⟩
 simp only [decide_eq_false_iff_not] at hc
 obtain rfl : i = s.size := by omega
 refine au [16, 4, 5, 1, 29] ?_
 refine TK.cl rfl rfl rfl rfl (from_ok hT) ?_
 rintro r1 K2 ⟨rfl, rfl⟩
 refine au [2, 3] ?_
 refine TK.rt hret [] ?_
 exact ⟨by unfold isNameM; rw [hok]; rfl, rfl⟩
end Go.Vel
end
section
set_option linter.all false
set_option maxRecDepth 20000
set_option maxHeartbeats 60000000
namespace Go.Vel
open Go Go.Conc Go.Proofs

def heard1 (b : Bk) (i : Nat) : Int := match b.seekers[i]? with
 | some x => if (!isNameM x.name) = true then 4 else if ((b.seekers.take i).any fun o => o.name.toList == x.name.toList) = true then 5 else if (!isStepM b x.frm || !isStepM b x.til) = true then 6 else if (decide (x.says < 0) || decide (x.says > 2)) = true then 1 else 0
 | none => 0
def heardL (b : Bk) : Nat → Int
 | 0 => 0
 | n + 1 => if heardL b n = 0 then heard1 b n else heardL b n
def heardM (b : Bk) : Int := if b.seekers.length > 5 then 2 else heardL b b.seekers.length
theorem heardL_of {b : Bk} {i : Nat} {c : Int} (h0 : heardL b i = 0) (h1 : heard1 b i = c) (hc : c ≠ 0) : ∀ {n : Nat}, i < n → heardL b n = c
 | 0, h => absurd h (Nat.not_lt_zero _)
 | n + 1, h => by
  rcases Nat.lt_or_ge i n with hlt | hge
  ·have := heardL_of h0 h1 hc hlt
   unfold heardL
   rw [this, if_neg hc]
  ·obtain rfl : i = n := by omega
   unfold heardL
   rw [if_pos h0, h1]
theorem sub_take {b : Bk} {s i : Nat} (h : i ≤ b.seekers.length) : subA s 0 5 0 ((i : Int).toNat) = .sl s 0 (b.seekers.take i).length := by
 rw [List.length_take, Nat.min_eq_left h]
 rfl
theorem says_take (b : Bk) (i : Nat) : SaysAt (saysO b) 0 (b.seekers.take i) := fun k h => by
 rw [List.length_take] at h
 rw [List.getElem_take]
 exact says_at' b (List.getElem?_eq_getElem (by omega))


theorem heard_ok {main : Bool} {T : Goroutine → Hp → Prop} (hT : Shut Tryd.prog main T) {gm : Nat → Option Nat} {b : Bk} {s e : Nat} (hs : 0 ≤ b.steps ∧ b.steps ≤ 16) (hn : ∀ x ∈ b.seekers, x.name.size ≤ 1000) :
  CallK Tryd.prog T gm 122 [.agg (bookC b s e)] [(s, saysO b)] (fun r K' => r = intA (heardM b) ∧ K' = [(s, saysO b)]) := by
 refine callK_in 55 hT Tryd.func122 fun Y hret => ?_
 refine au [4, 5, 21] ?_
 intro jb hjb
 refine au [2, 3, 4, 4, 5, 7, 7, 9, 28, 6, 3, 20] ?_
 refine ⟨fun k0 => ?_, fun k0 => ?_⟩
 ·have k0 : b.seekers.length > 5 := by have := of_decide_eq_true k0; omega
  refine au [4, 5, 2, 3] ?_
  refine TK.rt hret [(s, _)] ?_
  exact ⟨by unfold heardM; rw [if_pos k0]; rfl, rfl⟩
 have k0 : ¬ b.seekers.length > 5 := by have := of_decide_eq_false k0; omega
 refine au [12, 4, 4, 5, 7, 7, 9, 28, 1, 3, 13] ?_
 refine TK.maskL [1, 12, 13, 14] ?_
 refine TK.loopN (fun n env K => ∃ (i : Nat), n = b.seekers.length - i ∧ i ≤ b.seekers.length ∧ heardL b i = 0 ∧ env = slotsA 55 [(1, .ptr jb 0), (12, .sl s 0 b.seekers.length), (13, intA b.seekers.length), (14, intA i)] ∧ K = [(jb, .cells (bookC b s e) 70 true), (s, saysO b)]) b.seekers.length ⟨0, rfl, Nat.zero_le _, rfl, rfl, rfl⟩ fun n env K hI hnext => ?_
 obtain ⟨i, rfl, hi, h0, rfl, rfl⟩ := hI
 refine au [4, 5, 6, 3, 4, 20] ?_
 refine ⟨fun hc => ?_, fun hc => ?_⟩
 ·simp only [decide_eq_true_eq] at hc
  have hil : i < b.seekers.length := by omega
  obtain ⟨x, hx⟩ : ∃ x, b.seekers[i]? = some x := ⟨_, List.getElem?_eq_getElem hil⟩
  have hxm := List.mem_of_getElem? hx
  refine au [12, 4, 13, 4, 5, 1, 36] ?_
  refine TK.a rfl (q_load rfl rfl TySz.h (by repeat (first | exact List.Mem.head _ | assumption | apply List.Mem.tail)) (says_at' b hx)) ?_
  refine au [22] ?_
  intro jx hjx
  refine au [2, 17, 3, 13, 4, 5, 7, 9] ?_
  refine TK.cl rfl rfl rfl rfl (isName_ok hT (hn x hxm)) ?_
  rintro r1 K2 ⟨rfl, rfl⟩
  refine au [30, 2, 3, 20] ?_
  refine ⟨fun k2 => ?_, fun k2 => ?_⟩
  ·refine au [4, 5, 2, 3] ?_
   refine TK.rt hret [(s, _)] ?_
   exact ⟨by unfold heardM; rw [if_neg k0, heardL_of h0 (c := 4) (by unfold heard1 isStepM; rw [hx]; simp only [*, if_true]) (by decide) hil]; rfl, rfl⟩
  refine au [4, 5, 7, 7, 9, 1] ?_
  refine TK.a rfl (q_sliceSl rfl rfl SlEl.h rfl rfl (by omega) (by omega) (sub_take (b := b) hi)) ?_
  refine au [32] ?_
  refine TK.cl rfl rfl rfl rfl (containsSays_ok hT (cp := [.ptr jx 0]) (Kc := [(jx, .cells (saysC x) 45 true)]) (p := fun o => o.name.toList == x.name.toList) Cal.h (fun y _ => heard1_ok hT) (says_take b i) (by rw [List.length_take]; omega)) ?_
  rintro r4 K5 ⟨rfl, rfl⟩
  refine au [2, 3, 20] ?_
  refine ⟨fun k3 => ?_, fun k3 => ?_⟩
  ·refine au [4, 5, 2, 3] ?_
   refine TK.rt hret [(s, _)] ?_
   exact ⟨by unfold heardM; rw [if_neg k0, heardL_of h0 (c := 5) (by unfold heard1 isStepM; rw [hx]; simp only [*]; rfl) (by decide) hil]; rfl, rfl⟩
  refine au [4, 5, 8, 7, 9] ?_
  refine TK.cl rfl rfl rfl rfl (isStep_ok hT (b := b) (s := s) (e := e) hs) ?_
  rintro r7 K8 ⟨rfl, rfl⟩
  refine au [30, 1] ?_
  refine TK.sp 38 (fun g10_6 => ?_) (fun g10_6 => ?_)
  ·refine au [11, 11, 11, 11, 11, 26, 2, 3, 18, 4, 5, 2, 3] ?_
   refine TK.rt hret [(s, _)] ?_
   exact ⟨by unfold heardM; rw [if_neg k0, heardL_of h0 (c := 6) (by unfold heard1 isStepM; rw [hx]; simp only [*]; rfl) (by decide) hil]; rfl, rfl⟩
  refine au [8, 7, 9] ?_
  refine TK.cl rfl rfl rfl rfl (isStep_ok hT (b := b) (s := s) (e := e) hs) ?_
  rintro r10 K11 ⟨rfl, rfl⟩
  refine au [30, 25, 2, 3, 20] ?_
  refine ⟨fun k4 => ?_, fun k4 => ?_⟩
  ·refine au [4, 5, 2, 3] ?_
   refine TK.rt hret [(s, _)] ?_
   exact ⟨by unfold heardM; rw [if_neg k0, heardL_of h0 (c := 6) (by unfold heard1 isStepM; rw [hx]; simp only [*]; rfl) (by decide) hil]; rfl, rfl⟩
  refine au [4, 5, 7, 9, 6, 1] ?_
  refine TK.sp 49 (fun g12_4 => ?_) (fun g12_4 => ?_)
  ·refine au [11, 11, 11, 26, 2, 3, 18, 4, 5, 2, 3] ?_
   refine TK.rt hret [(s, _)] ?_
   exact ⟨by unfold heardM; rw [if_neg k0, heardL_of h0 (c := 1) (by unfold heard1 isStepM; rw [hx]; simp only [*]; rfl) (by decide) hil]; rfl, rfl⟩
  refine au [7, 9, 6, 25, 2, 3, 20] ?_
  refine ⟨fun k5 => ?_, fun k5 => ?_⟩
  ·refine au [4, 5, 2, 3] ?_
   refine TK.rt hret [(s, _)] ?_
   exact ⟨by unfold heardM; rw [if_neg k0, heardL_of h0 (c := 1) (by unfold heard1 isStepM; rw [hx]; simp only [*]; rfl) (by decide) hil]; rfl, rfl⟩
  refine au [12, 14, 14, 5, 23, 1, 3] ?_
  refine TK.maskL [1, 12, 13, 14] ?_
  refine TK.kp [(jb, _), (s, _)] ?_
  exact hnext _ _ _ (by omega) ⟨i + 1, rfl, by omega, by unfold heardL; rw [if_pos h0]; unfold heard1 isStepM; rw [hx]; simp only [*]; rfl, rfl, rfl⟩
 simp only [decide_eq_false_iff_not] at hc
 obtain rfl : i = b.seekers.length := by omega
 refine au [16, 4, 5, 2, 3] ?_
 refine TK.rt hret [(s, _)] ?_
 exact ⟨by unfold heardM; rw [if_neg k0, h0]; rfl, rfl⟩
end Go.Vel
end
section
set_option linter.all false
set_option maxRecDepth 20000
set_option maxHeartbeats 60000000
namespace Go.Vel
open Go Go.Conc Go.Proofs

/-- The table of checks. -/
def checksG : AObj := .cells [.fn 121 [] [], .fn 122 [] [], .fn 123 [] []] 124 false
def checkM (b : Bk) : Int := if (numbersM b != 0) = true then numbersM b else if (heardM b != 0) = true then heardM b else lookedM b
theorem numbers_range {b : Bk} (h : (numbersM b != 0) = false) : 4 ≤ b.steps ∧ b.steps ≤ 16 ∧ 0 ≤ b.wrong ∧ b.wrong ≤ 3 ∧ 0 ≤ b.low ∧ b.low ≤ b.high ∧ b.high ≤ 3 := by
 unfold numbersM at h
 cases hc : (!(decide (4 ≤ b.steps) && decide (b.steps ≤ 16)) || (!(decide (0 ≤ b.wrong) && decide (b.wrong ≤ 3)) || (decide (b.low < 0) || (decide (b.low > b.high) || decide (b.high > 3))))) with
 | true => rw [hc] at h; cases h
 | false =>
  simp only [Bool.or_eq_false_iff, Bool.not_eq_false', Bool.and_eq_true, decide_eq_true_eq, decide_eq_false_iff_not] at hc
  omega


theorem check_ok {main : Bool} {T : Goroutine → Hp → Prop} (hT : Shut Tryd.prog main T)  {b : Bk} {s e : Nat} (hn : ∀ x ∈ b.seekers, x.name.size ≤ 1000) (hl : b.seen.length ≤ 1000) :
  CallK Tryd.prog T gmS 43 [.agg (bookC b s e)] [(0, checksG), (s, saysO b), (e, seenO b)] (fun r K' => r = intA (checkM b) ∧ K' = [(0, checksG), (s, saysO b), (e, seenO b)]) := by
 refine callK_in 18 hT Tryd.func43 fun Y hret => ?_
 refine au [4, 5, 21] ?_
 intro jb hjb
 refine au [2, 3, 4, 4, 5, 8, 1, 3, 13] ?_
 refine TK.loop ?_
 refine au [4, 5, 6, 3, 4, 20] ?_
 refine ⟨fun k0 => ?_, fun k0 => ?_⟩
 ·
  refine au [12, 4, 13, 4, 5] ?_
  refine TK.a rfl (q_index rfl rfl rfl ArEl.h (by omega) (by omega) rfl) ?_
  refine au [2, 3, 4, 5, 1, 8, 43] ?_
  refine TK.cl rfl rfl rfl rfl (numbers_ok hT (b := b) (s := s) (e := e)) ?_
  rintro r1 K2 ⟨rfl, rfl⟩
  refine au [2, 3, 4, 5, 1, 6, 3, 20] ?_
  refine ⟨fun k1 => ?_, fun k1 => ?_⟩
  ·refine au [4, 5, 1, 2, 3] ?_
   refine TK.rt hret [(0, _), (s, _), (e, _)] ?_
   exact ⟨by unfold checkM; rw [if_pos k1], rfl⟩
  have q1 := k1
  have hr := numbers_range q1
  refine au [12, 14, 5, 23, 1, 3] ?_
  refine TK.inLoop ?_
  refine au [4, 5, 6, 3, 4, 20] ?_
  refine ⟨fun k0 => ?_, fun k0 => ?_⟩
  ·
   refine au [12, 4, 13, 4, 5] ?_
   refine TK.a rfl (q_index rfl rfl rfl ArEl.h (by omega) (by omega) rfl) ?_
   refine au [2, 3, 4, 5, 1, 8, 43] ?_
   refine TK.cl rfl rfl rfl rfl (heard_ok hT (b := b) (s := s) (e := e) (by omega) hn) ?_
   rintro r4 K5 ⟨rfl, rfl⟩
   refine au [2, 3, 4, 5, 1, 6, 3, 20] ?_
   refine ⟨fun k1 => ?_, fun k1 => ?_⟩
   ·refine au [4, 5, 1, 2, 3] ?_
    refine TK.rt hret [(0, _), (s, _), (e, _)] ?_
    exact ⟨by unfold checkM; rw [if_neg (by rw [q1]; decide), if_pos k1], rfl⟩
   have q2 := k1
   refine au [12, 14, 5, 23, 1, 3] ?_
   refine TK.inLoop ?_
   refine au [4, 5, 6, 3, 4, 20] ?_
   refine ⟨fun k0 => ?_, fun k0 => ?_⟩
   ·
    refine au [12, 4, 13, 4, 5] ?_
    refine TK.a rfl (q_index rfl rfl rfl ArEl.h (by omega) (by omega) rfl) ?_
    refine au [2, 3, 4, 5, 1, 8, 43] ?_
    refine TK.cl rfl rfl rfl rfl (looked_ok hT (b := b) (s := s) (e := e) (by omega) hl) ?_
    rintro r7 K8 ⟨rfl, rfl⟩
    refine au [2, 3, 4, 5, 1, 6, 3, 20] ?_
    refine ⟨fun k1 => ?_, fun k1 => ?_⟩
    ·refine au [4, 5, 1, 2, 3] ?_
     refine TK.rt hret [(0, _), (s, _), (e, _)] ?_
     exact ⟨by unfold checkM; rw [if_neg (by rw [q1]; decide), if_neg (by rw [q2]; decide)], rfl⟩
    
    refine au [12, 14, 5, 23, 1, 3] ?_
    refine TK.inLoop ?_
    refine au [4, 5, 6, 3, 4, 20] ?_
    refine ⟨fun k0 => ?_, fun k0 => ?_⟩
    ·exact absurd k0 (by decide)
    
    refine au [16, 4, 5, 2, 3] ?_
    refine TK.rt hret [(0, _), (s, _), (e, _)] ?_
    exact ⟨by unfold checkM; rw [if_neg (by rw [q1]; decide), if_neg (by rw [q2]; decide)]; rw [show lookedM b = 0 by simpa using k1]; rfl, rfl⟩
   exact absurd k0 (by decide)
  exact absurd k0 (by decide)
 exact absurd k0 (by decide)
end Go.Vel
end
