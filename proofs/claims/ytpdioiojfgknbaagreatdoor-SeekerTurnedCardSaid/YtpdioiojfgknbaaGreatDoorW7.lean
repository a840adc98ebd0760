/- Texts for the statements of chapter 9: what all of them need, part 8. It holds of every program, tape and world that the statements name, as each theorem says. -/
import Derived.Test.YtpdioiojfgknbaaGreatDoorW5
import Derived.Test.YtpdioiojfgknbaaGreatDoorW6
section
set_option linter.all false
set_option maxRecDepth 20000
set_option maxHeartbeats 60000000
namespace Go.Vel
open Go Go.Conc Go.Proofs

section
variable {P : Program} {gm : Nat → Option Nat} {T : Goroutine → Hp → Prop} {Y : KX P gm T} {ds : List Nat} {k : List Item} {env env' : List AV} {K K' K1 : KV} {ops : Array Oper} {i : Nat} {rest : List Nat} {o : Oper} {envf : Nat → List AV}
theorem Upd.same' {K K' : KV} {i j : Nat} {o o' : AObj} (h : Upd K i o j o' K') : i = j → o' = o → K' = K := by
 induction h with
 | head => intro hj e; rw [e, hj]
 | tail _ ih => intro hj e; rw [ih hj e]
theorem Upd.same {K K' : KV} {i : Nat} {o o' : AObj} (h : Upd K i o i o' K') (e : o' = o) : K' = K := h.same' rfl e
/-- Some are appended, perhaps none. -/
theorem TK.appG {s x : Operand} {t e : TypeId} {size bytes j n m : Nat} {lo ln : List AV} {u : AV} {K'' : Nat → KV} (ho : ops[i]? = some o) (hw : wantA ops env o = some true) (hop : o.op = .call { callee := .builtin .append, args := #[s, x], argTypes := #[t, t] }) (ht : apOf P t = some (e, size, bytes)) (hs : opndO gm env s = some (.row j n)) (hm : (j, .row lo e size) ∈ K) (hlo : lo.length = n * size) (hx : opndO gm env x = some u) (hl : lenA u = some m) (hsrc : 0 < m → srcO K size u m ln) (hln : m = 0 → ln = [])
  (hone : ln.all oneA = true) (hmax : n + m ≤ maxLen) (hbytes : (n + m) * bytes ≤ 140737488355328) (hu : ∀ j', Upd K j (.row lo e size) j' (.row (lo ++ ln) e size) (K'' j')) (he : ∀ j', putA env o.dst (.row j' (n + m)) = envf j') (h : ∀ j', TK Y ds (.inRegion ops rest :: k) (envf j') (K'' j')) : TK Y ds (.inRegion ops (i :: rest) :: k) env K := by
 rcases Nat.eq_zero_or_pos m with e0 | hpos
 ·subst e0
  have hk : K'' j = K := (hu j).same (by rw [hln rfl, List.append_nil])
  have ht' := ht
  unfold apOf at ht'
  split at ht'
  ·rename_i e' h1
   split at ht'
   ·rename_i ti h2
    refine TK.q (r := .row j n) ho (by rw [hop]; rfl) hw (q_app0 hop h1 h2 hs hx hl) (he j) ?_
    rw [← hk]; exact h j
   ·cases ht'
  ·cases ht'
 ·exact TK.appR ho (by rw [hop]; rfl) hw (a_app hop ht hs hm hlo hx (hsrc hpos) hpos hone hmax hbytes) hu he h
theorem TK.normK (he : K = K') (h : TK Y ds k env K') : TK Y ds k env K := he ▸ h
theorem TK.nd (h : (keys K).Nodup → TK Y ds k env K) : TK Y ds k env K := fun A hA => h hA.nd A hA
/-- A book's rows are frozen. -/
theorem TK.freezeBk (d : Nat) {a b c f : Value} {j1 n1 j2 n2 : Nat} {l1 l2 : List AV} {e1 s1 e2 s2 : Nat} (hd : env[d]? = some (.agg [.v a, .v b, .v c, .v f, .row j1 n1, .row j2 n2])) (hu1 : Upd K j1 (.row l1 e1 s1) j1 (.cells l1 e1 false) K1) (hu2 : Upd K1 j2 (.row l2 e2 s2) j2 (.cells l2 e2 false) K') (he : env.set d (.agg [.v a, .v b, .v c, .v f, .sl j1 0 n1, .sl j2 0 n2]) = env') (h : TK Y ds k env' K') : TK Y ds k env K := by
 have hlt : d < env.length := (List.getElem?_eq_some_iff.1 hd).1
 refine TK.freeze d hd hu1 rfl ?_
 refine TK.freeze d (List.getElem?_set_self hlt) hu2 (env' := env') ?_ h
 rw [← he, List.set_set]
 congr 1
 by_cases h : j2 = j1
 ·subst h; simp [unrow1, unrow]
 ·simp [unrow1, unrow, h]
end
theorem take_full {l : List AV} {e : TypeId} {rw' : Bool} {n size : Nat} (hl : l.length = n * size) (h : 0 < n * size) : takeO (.cells l e rw') 0 (n * size) = some l := by
 simp only [takeO, AObj.look, Nat.zero_add, List.drop_zero]
 rw [if_pos ⟨h, by omega⟩, ← hl, List.take_length]
theorem flat_all {α : Type} (f : α → List AV) (h : ∀ x, (f x).all oneA = true) (xs : List α) : (xs.flatMap f).all oneA = true := by
 induction xs with
 | nil => rfl
 | cons x xs ih => rw [List.flatMap_cons, List.all_append, h, ih]; rfl
def ownC (b : Bk) (j1 j2 : Nat) : List AV := [intA b.steps, intA b.wrong, intA b.low, intA b.high, .row j1 b.seekers.length, .row j2 b.seen.length]
def hearB (b : Bk) (x : Says) : Bk := { b with seekers := b.seekers ++ [x] }
def lookB (b : Bk) (x : Seen) : Bk := { b with seen := b.seen ++ [x] }
def giveB (b : Bk) (k : Nat) : Bk := { b with seekers := b.seekers.modify k fun x => { x with glass := true } }
theorem set_glass : ∀ (xs : List Says) (k : Nat), k < xs.length → (xs.flatMap saysC).set (k * 5 + 4) (boolA true) = (xs.modify k fun x => { x with glass := true }).flatMap saysC
 | x :: xs, 0, _ => rfl
 | x :: xs, k + 1, h => by
  rw [List.modify_succ_cons, List.flatMap_cons, List.flatMap_cons, ← set_glass xs k (by simpa using h), show (k + 1) * 5 + 4 = (k * 5 + 4) + 5 by omega]
  rfl
theorem put_glass {b : Bk} {k : Nat} (hk : k < b.seekers.length) : putO (.row (b.seekers.flatMap saysC) 30 5) ((k : Int).toNat * 5 + 4) [boolA true] = some (.row ((giveB b k).seekers.flatMap saysC) 30 5) := by
 have hl := flat_len saysC 5 (fun _ => rfl) b.seekers
 have hle : (k + 1) * 5 ≤ b.seekers.length * 5 := Nat.mul_le_mul_right _ hk
 unfold putO
 dsimp only
 rw [if_pos ⟨by rw [hl]; simp; omega, by simp, rfl⟩]
 show some (AObj.row ((b.seekers.flatMap saysC).set ((k : Int).toNat * 5 + 4) (boolA true)) _ _) = _
 rw [Int.toNat_natCast, set_glass _ _ hk]; rfl
def newsM (b o : Bk) : Int := if checkM b ≠ 0 then checkM b else askM o true
def giveM (b : Bk) (k : Int) : Int := if checkM b ≠ 0 then checkM b else if isSeekerM b k = false then 6 else if glassB b k.toNat = true then 5 else askM (giveB b k.toNat) true
theorem hear_seekers (b : Bk) (x : Says) : (hearB b x).seekers.flatMap saysC = b.seekers.flatMap saysC ++ saysC x := by simp [hearB]
theorem look_seen (b : Bk) (x : Seen) : (lookB b x).seen.flatMap seenC = b.seen.flatMap seenC ++ seenC x := by simp [lookB]
theorem hear_len (b : Bk) (x : Says) : b.seekers.length + 1 = (hearB b x).seekers.length := by simp [hearB]
theorem look_len (b : Bk) (x : Seen) : b.seen.length + 1 = (lookB b x).seen.length := by simp [lookB]
theorem give_len (b : Bk) (k : Nat) : b.seekers.length = (giveB b k).seekers.length := by simp [giveB]
theorem give_names {b : Bk} {k : Nat} (hn : ∀ x ∈ b.seekers, x.name.size ≤ 1000) : ∀ x ∈ (giveB b k).seekers, x.name.size ≤ 1000 := fun x hx => by
 obtain ⟨i, hi⟩ := List.mem_iff_getElem?.1 hx
 unfold giveB at hi
 simp only [List.getElem?_modify] at hi
 cases e : b.seekers[i]? with
 | none => rw [e] at hi; cases hi
 | some y =>
  rw [e] at hi
  have hy := hn y (List.mem_of_getElem? e)
  simp only [Option.map_eq_map, Option.map_some, Option.some.injEq] at hi
  subst hi
  split <;> exact hy
theorem hear_names {b : Bk} {x : Says} (hn : ∀ x ∈ b.seekers, x.name.size ≤ 1000) (hx : x.name.size ≤ 1000) : ∀ y ∈ (hearB b x).seekers, y.name.size ≤ 1000 := fun y hy => by
 rcases List.mem_append.1 hy with h | h
 ·exact hn y h
 ·rw [List.mem_singleton.1 h]; exact hx


theorem agreed_ok {main : Bool} {T : Goroutine → Hp → Prop} (hT : Shut Tryz.prog main T)  {b : Bk} {s e : Nat} (hse : s ≠ e) (hn : ∀ x ∈ b.seekers, x.name.size ≤ 1000) (hl : b.seen.length ≤ 1000) :
  CallK Tryz.prog T gmS 62 [.agg (bookC b s e)] [(0, checksG), (1, saysG), (s, saysO b), (e, seenO b)] (fun r K' => ((askM b true ≠ 0 ∧ r = .tup [.agg zeroBk, intA (askM b true)]) ∨ (askM b true = 0 ∧ r = .tup [.agg (bookC b s e), intA 0])) ∧ K' = [(0, checksG), (1, saysG), (s, saysO b), (e, seenO b)]) := by
 refine callK_in 16 hT Tryz.func62 fun Y hret => ?_
 refine au [4, 5, 21] ?_
 intro j1 hj1
 refine au [22] ?_
 intro j2 hj2
 refine au [2, 3, 4, 4, 5, 8] ?_
 refine TK.cl rfl rfl rfl rfl (ask_ok hT (b := b) (s := s) (e := e) (t := true) hse hn hl rfl (fun hb => callFK_fn Cal.h (always_ok hT))) ?_
 rintro r3 K4 h5
 rcases h5 with ⟨hb0, rfl, rfl⟩ | ⟨jl, jm, om, hb0, hom, rfl, rfl⟩
 ·refine au [1, 10, 10, 22] ?_
  intro j6 hj6
  refine au [17, 2, 3, 4, 5, 1, 6, 3, 20] ?_
  refine ⟨fun hc0 => ?_, fun hc0 => ?_⟩
  ·
   refine au [4, 5, 43, 1, 17, 2, 3] ?_
   refine TK.rt hret [(0, _), (1, _), (s, _), (e, _)] ?_
   exact ⟨.inl ⟨hb0, rfl⟩, rfl⟩
  exact absurd (by simpa using hc0) hb0
 ·refine au [1, 10, 10, 22] ?_
  intro j7 hj7
  refine au [17, 2, 3, 4, 5, 1, 6, 3, 20] ?_
  refine ⟨fun hc0 => ?_, fun hc0 => ?_⟩
  ·exact absurd hc0 (by decide)
  obtain ⟨hck, hth, hne⟩ := ask_zero hb0
  have hb := bkOk_of hck
  have hLo := statesM_ok hb
  have hLn := statesM_len hb
  refine au [12, 4, 5, 8, 17, 2, 3] ?_
  refine TK.rt hret [(0, _), (1, _), (s, _), (e, _)] ?_
  exact ⟨.inr ⟨hb0, rfl⟩, rfl⟩

theorem cloneSays_ok {main : Bool} {T : Goroutine → Hp → Prop} (hT : Shut Tryz.prog main T) {gm : Nat → Option Nat} {j n : Nat} {l : List AV} {rw' : Bool} (hl : l.length = n * 5) (hone : l.all oneA = true) (hn : n ≤ 100000) :
  CallK Tryz.prog T gm 103 [.sl j 0 n] [(j, .cells l 30 rw')] (fun r K' => ∃ j2, r = .row j2 n ∧ K' = [(j, .cells l 30 rw'), (j2, .row l 30 5)]) := by
 refine callK_in 8 hT Tryz.func103 fun Y hret => ?_
 refine au [4, 5, 2, 3, 4, 4, 5, 1] ?_
 refine TK.nilT rfl rfl rfl rfl Und.h fun tz hz => ?_
 refine au [3, 20] ?_
 refine ⟨fun hc0 => ?_, fun hc0 => ?_⟩
 ·refine au [4, 5, 2] ?_
  refine TK.virt 2 30 5 rfl fun j0 hj0 => ?_
  refine au [3] ?_
  refine TK.rt hret [(j, _), (j0, _)] ?_
  obtain rfl := hz hc0
  obtain rfl := List.eq_nil_of_length_eq_zero (by simpa using hl)
  exact ⟨_, rfl, rfl⟩
 refine au [12, 4, 5] ?_
 refine TK.newR rfl rfl rfl (n_buildSlice (l := []) rfl SlEl.h TyZ.h (by decide) (by decide) rfl) (fun _ => putS rfl (by simp only [List.set]; rfl)) fun j1 hj1 => ?_
 refine au [1] ?_
 refine TK.appG (envf := fun _ => [_, _, _, _, _, _, _, _]) (ln := l) rfl rfl rfl ApOf.h rfl (by repeat (first | exact List.Mem.head _ | assumption | apply List.Mem.tail)) rfl rfl rfl (fun hp => src_sl (by repeat (first | exact List.Mem.head _ | assumption | apply List.Mem.tail)) (by omega) (take_full hl (by omega))) (fun h => by subst h; exact List.eq_nil_of_length_eq_zero (by simpa using hl)) hone (by unfold maxLen; omega) (by omega) (fun _ => (by repeat (first | exact Upd.head | apply Upd.tail))) (fun _ => rfl) fun j2 => ?_
 simp only [List.nil_append, Nat.zero_add]
 refine au [2, 3] ?_
 refine TK.rt hret [(j, _), (j2, _)] ?_
 exact ⟨_, rfl, rfl⟩

theorem cloneSeen_ok {main : Bool} {T : Goroutine → Hp → Prop} (hT : Shut Tryz.prog main T) {gm : Nat → Option Nat} {j n : Nat} {l : List AV} {rw' : Bool} (hl : l.length = n * 2) (hone : l.all oneA = true) (hn : n ≤ 100000) :
  CallK Tryz.prog T gm 104 [.sl j 0 n] [(j, .cells l 42 rw')] (fun r K' => ∃ j2, r = .row j2 n ∧ K' = [(j, .cells l 42 rw'), (j2, .row l 42 2)]) := by
 refine callK_in 8 hT Tryz.func104 fun Y hret => ?_
 refine au [4, 5, 2, 3, 4, 4, 5, 1] ?_
 refine TK.nilT rfl rfl rfl rfl Und.h fun tz hz => ?_
 refine au [3, 20] ?_
 refine ⟨fun hc0 => ?_, fun hc0 => ?_⟩
 ·refine au [4, 5, 2] ?_
  refine TK.virt 2 42 2 rfl fun j0 hj0 => ?_
  refine au [3] ?_
  refine TK.rt hret [(j, _), (j0, _)] ?_
  obtain rfl := hz hc0
  obtain rfl := List.eq_nil_of_length_eq_zero (by simpa using hl)
  exact ⟨_, rfl, rfl⟩
 refine au [12, 4, 5] ?_
 refine TK.newR rfl rfl rfl (n_buildSlice (l := []) rfl SlEl.h TyZ.h (by decide) (by decide) rfl) (fun _ => putS rfl (by simp only [List.set]; rfl)) fun j1 hj1 => ?_
 refine au [1] ?_
 refine TK.appG (envf := fun _ => [_, _, _, _, _, _, _, _]) (ln := l) rfl rfl rfl ApOf.h rfl (by repeat (first | exact List.Mem.head _ | assumption | apply List.Mem.tail)) rfl rfl rfl (fun hp => src_sl (by repeat (first | exact List.Mem.head _ | assumption | apply List.Mem.tail)) (by omega) (take_full hl (by omega))) (fun h => by subst h; exact List.eq_nil_of_length_eq_zero (by simpa using hl)) hone (by unfold maxLen; omega) (by omega) (fun _ => (by repeat (first | exact Upd.head | apply Upd.tail))) (fun _ => rfl) fun j2 => ?_
 simp only [List.nil_append, Nat.zero_add]
 refine au [2, 3] ?_
 refine TK.rt hret [(j, _), (j2, _)] ?_
 exact ⟨_, rfl, rfl⟩

theorem own_ok {main : Bool} {T : Goroutine → Hp → Prop} (hT : Shut Tryz.prog main T) {gm : Nat → Option Nat} {b : Bk} {s e : Nat} (hs5 : b.seekers.length ≤ 1000) (he5 : b.seen.length ≤ 1000) :
  CallK Tryz.prog T gm 61 [.agg (bookC b s e)] [(s, saysO b), (e, seenO b)] (fun r K' => ∃ j1 j2, r = .agg (ownC b j1 j2) ∧ K' = [(s, saysO b), (e, seenO b), (j1, .row (b.seekers.flatMap saysC) 30 5), (j2, .row (b.seen.flatMap seenC) 42 2)]) := by
 refine callK_in 12 hT Tryz.func61 fun Y hret => ?_
 refine au [4, 5, 21] ?_
 intro jb hjb
 refine au [22] ?_
 intro jr hjr
 refine au [3, 4] ?_
 refine TK.draw [0, 1, 3, 4, 2, 6, 5, 7, 8, 9] [0, 1, 2, 3, 4, 5, 6, 7, 8, 9] (by kernel_rfl) (by kernel_rfl) ?_
 refine TD.z [1] rfl (q_fieldAddr rfl rfl FldOf.h (by decide)) ?_
 refine TD.y [3] rfl (hq := q_load1 rfl rfl TySz.h (List.Mem.head _) rfl) (h := ?_)
 refine TD.z [1] rfl (q_fieldAddr rfl rfl FldOf.h (by decide)) ?_
 refine TD.y [6] rfl (hq := q_load1 rfl rfl TySz.h (List.Mem.head _) rfl) (h := ?_)
 refine TD.cl (pend' := [⟨4, [6], [(_, _)]⟩, ⟨3, [1], []⟩, ⟨0, [1], []⟩]) [4] rfl rfl rfl rfl rfl (cloneSays_ok hT (flat_len saysC 5 (fun _ => rfl) b.seekers) (flat_all saysC (fun _ => rfl) _) (by omega)) (fun r1 K2 h3 => ⟨?_, ?_⟩)
 ·rcases h3 with ⟨j1, rfl, rfl⟩
  all_goals simp
 obtain ⟨j1, rfl, rfl⟩ := h3
 try simp only [List.cons_append, List.nil_append]
 refine TD.norm (by simp only [List.set]; rfl) ?_
 refine TD.z [1] rfl (q_fieldAddr rfl rfl FldOf.h (by decide)) ?_
 refine TD.cl (pend' := [⟨6, [1], []⟩, ⟨3, [1], []⟩, ⟨0, [1], []⟩]) [7] rfl rfl rfl rfl rfl (cloneSeen_ok hT (flat_len seenC 2 (fun _ => rfl) b.seen) (flat_all seenC (fun _ => rfl) _) (by omega)) (fun r4 K5 h6 => ⟨?_, ?_⟩)
 ·rcases h6 with ⟨j2, rfl, rfl⟩
  all_goals simp
 obtain ⟨j2, rfl, rfl⟩ := h6
 try simp only [List.cons_append, List.nil_append]
 refine TD.norm (by simp only [List.set]; rfl) ?_
 refine TD.s (pend' := []) [5, 9] rfl rfl (q_store rfl rfl TySz.h rfl rfl (by repeat (first | exact List.Mem.head _ | assumption | apply List.Mem.tail)) rfl) ?_
 refine TD.z [1] rfl (q_fieldAddr rfl rfl FldOf.h (by decide)) ?_
 refine TD.s (pend' := []) [8, 10] rfl rfl (q_store rfl rfl TySz.h rfl rfl (by repeat (first | exact List.Mem.head _ | assumption | apply List.Mem.tail)) rfl) ?_
 refine TD.fin ?_
 refine au [4, 5, 8, 17, 3] ?_
 refine TK.rt hret [(s, _), (e, _), (j1, _), (j2, _)] ?_
 exact ⟨j1, j2, rfl, rfl⟩

theorem hear_ok {main : Bool} {T : Goroutine → Hp → Prop} (hT : Shut Tryz.prog main T)  {b : Bk} {s e : Nat} {x : Says} (hse : s ≠ e) (hn : ∀ x ∈ b.seekers, x.name.size ≤ 1000) (hl : b.seen.length ≤ 1000) (hx : x.name.size ≤ 1000) :
  CallK Tryz.prog T gmS 14 [.agg (bookC b s e), .agg (saysC x)] [(0, checksG), (1, saysG), (s, saysO b), (e, seenO b)] (fun r K' => (newsM b (hearB b x) ≠ 0 ∧ r = .tup [.agg zeroBk, intA (newsM b (hearB b x))] ∧ K' = [(0, checksG), (1, saysG), (s, saysO b), (e, seenO b)]) ∨ (newsM b (hearB b x) = 0 ∧ ∃ j3 j2, r = .tup [.agg (bookC (hearB b x) j3 j2), intA 0] ∧ K' = [(0, checksG), (1, saysG), (s, saysO b), (e, seenO b), (j3, saysO (hearB b x)), (j2, seenO (hearB b x))])) := by
 refine callK_in 26 hT Tryz.func14 fun Y hret => ?_
 refine au [4, 5, 21] ?_
 intro j1 hj1
 refine au [21] ?_
 intro j2 hj2
 refine au [22] ?_
 intro jr hjr
 refine au [2, 3, 4, 4, 5, 8] ?_
 refine TK.cl rfl rfl rfl rfl (check_ok hT (b := b) (s := s) (e := e) hn hl) ?_
 rintro r3 K4 ⟨rfl, rfl⟩
 refine au [2, 3, 4, 5, 1, 6, 3, 20] ?_
 refine ⟨fun hc0 => ?_, fun hc0 => ?_⟩
 ·refine au [4, 5, 43, 1, 17, 2, 3] ?_
  refine TK.rt hret [(0, _), (1, _), (s, _), (e, _)] ?_
  have ha : newsM b (hearB b x) = checkM b := if_pos (by simpa using hc0)
  exact .inl ⟨by rw [ha]; simpa using hc0, by rw [ha]; rfl, rfl⟩
 have hb := bkOk_of (b := b) (by simpa using hc0)
 refine au [12, 4, 5, 8] ?_
 refine TK.cl rfl rfl rfl rfl (own_ok hT (by have := hb.ns; omega) (by have := hb.ne; omega)) ?_
 rintro r6 K7 ⟨j1, j2, rfl, rfl⟩
 refine au [22] ?_
 intro jo hjo
 refine au [17, 3, 4, 5, 7, 9, 8] ?_
 refine TK.newR rfl rfl rfl (n_buildSlice (l := [_, _, _, _, _]) rfl SlEl.h TyZ.h (by decide) (by decide) rfl) (fun _ => putS rfl (by simp only [List.set]; rfl)) fun j9 hj9 => ?_
 refine TK.appR rfl rfl rfl (a_app rfl ApOf.h rfl (by repeat (first | exact List.Mem.head _ | assumption | apply List.Mem.tail)) (flat_len saysC 5 (fun _ => rfl) _) rfl (src_row (ln := [_, _, _, _, _]) (by repeat (first | exact List.Mem.head _ | assumption | apply List.Mem.tail)) (by decide) (by simp) rfl) (by omega) rfl (by have := hb.ns; unfold maxLen; omega) (by have := hb.ns; omega)) (fun _ => (by repeat (first | exact Upd.head | apply Upd.tail))) (fun _ => putS rfl (by simp only [List.set]; rfl)) fun j3 => ?_
 refine au [7, 17, 3, 4, 5, 8] ?_
 refine TK.freezeBk 22 rfl (by repeat (first | exact Upd.head | apply Upd.tail)) (by repeat (first | exact Upd.head | apply Upd.tail)) rfl ?_
 refine TK.kp [(j3, _), (j2, _), (0, _), (1, _), (s, _), (e, _), (jr, _)] ?_
 refine TK.normK (K' := [(j3, saysO (hearB b x)), (j2, seenO (hearB b x)), (0, _), (1, _), (s, _), (e, _), (jr, _)]) (by unfold saysO; rw [hear_seekers]; rfl) ?_
 rw [hear_len b x]
 refine au [] ?_
 refine TK.nd fun hnd => ?_
 have hjj : j3 ≠ j2 := fun h => by subst h; simp [keys] at hnd
 refine TK.cl rfl rfl rfl rfl (agreed_ok hT (b := hearB b x) (s := j3) (e := j2) hjj (hear_names hn hx) (hl)) ?_
 rintro r10 K11 h12
 rcases h12 with ⟨⟨hb0, rfl⟩ | ⟨hb0, rfl⟩, rfl⟩
 ·refine au [10, 10, 17, 2, 3] ?_
  refine TK.rt hret [(0, _), (1, _), (s, _), (e, _)] ?_
  have ha : newsM b (hearB b x) = askM (hearB b x) true := if_neg (by simpa using hc0)
  exact .inl ⟨by rw [ha]; exact hb0, by rw [ha]; rfl, rfl⟩
 ·refine au [10, 10, 17, 2, 3] ?_
  refine TK.rt hret [(0, _), (1, _), (s, _), (e, _), (j3, _), (j2, _)] ?_
  have ha : newsM b (hearB b x) = askM (hearB b x) true := if_neg (by simpa using hc0)
  exact .inr ⟨by rw [ha]; exact hb0, j3, j2, rfl, rfl⟩

theorem look_ok {main : Bool} {T : Goroutine → Hp → Prop} (hT : Shut Tryz.prog main T)  {b : Bk} {s e : Nat} {n : Int} {sm : Bool} (hse : s ≠ e) (hn : ∀ x ∈ b.seekers, x.name.size ≤ 1000) (hl : b.seen.length ≤ 1000) :
  CallK Tryz.prog T gmS 19 [.agg (bookC b s e), intA n, boolA sm] [(0, checksG), (1, saysG), (s, saysO b), (e, seenO b)] (fun r K' => (newsM b (lookB b ⟨n, sm⟩) ≠ 0 ∧ r = .tup [.agg zeroBk, intA (newsM b (lookB b ⟨n, sm⟩))] ∧ K' = [(0, checksG), (1, saysG), (s, saysO b), (e, seenO b)]) ∨ (newsM b (lookB b ⟨n, sm⟩) = 0 ∧ ∃ j3 j2, r = .tup [.agg (bookC (lookB b ⟨n, sm⟩) j3 j2), intA 0] ∧ K' = [(0, checksG), (1, saysG), (s, saysO b), (e, seenO b), (j3, saysO (lookB b ⟨n, sm⟩)), (j2, seenO (lookB b ⟨n, sm⟩))])) := by
 refine callK_in 30 hT Tryz.func19 fun Y hret => ?_
 refine au [4, 5, 21] ?_
 intro j1 hj1
 refine au [22] ?_
 intro jr hjr
 refine au [2, 3, 4, 4, 5, 8] ?_
 refine TK.cl rfl rfl rfl rfl (check_ok hT (b := b) (s := s) (e := e) hn hl) ?_
 rintro r2 K3 ⟨rfl, rfl⟩
 refine au [2, 3, 4, 5, 1, 6, 3, 20] ?_
 refine ⟨fun hc0 => ?_, fun hc0 => ?_⟩
 ·refine au [4, 5, 43, 1, 17, 2, 3] ?_
  refine TK.rt hret [(0, _), (1, _), (s, _), (e, _)] ?_
  have ha : newsM b (lookB b ⟨n, sm⟩) = checkM b := if_pos (by simpa using hc0)
  exact .inl ⟨by rw [ha]; simpa using hc0, by rw [ha]; rfl, rfl⟩
 have hb := bkOk_of (b := b) (by simpa using hc0)
 refine au [12, 4, 5, 8] ?_
 refine TK.cl rfl rfl rfl rfl (own_ok hT (by have := hb.ns; omega) (by have := hb.ne; omega)) ?_
 rintro r5 K6 ⟨j1, j2, rfl, rfl⟩
 refine au [22] ?_
 intro jo hjo
 refine au [17, 3, 4, 5, 7, 9, 1, 1, 39] ?_
 refine TK.newR rfl rfl rfl (n_buildSlice (l := [_, _]) rfl SlEl.h TyZ.h (by decide) (by decide) rfl) (fun _ => putS rfl (by simp only [List.set]; rfl)) fun j8 hj8 => ?_
 refine TK.appR rfl rfl rfl (a_app rfl ApOf.h rfl (by repeat (first | exact List.Mem.head _ | assumption | apply List.Mem.tail)) (flat_len seenC 2 (fun _ => rfl) _) rfl (src_row (ln := [_, _]) (by repeat (first | exact List.Mem.head _ | assumption | apply List.Mem.tail)) (by decide) (by simp) rfl) (by omega) rfl (by have := hb.ne; unfold maxLen; omega) (by have := hb.ne; omega)) (fun _ => (by repeat (first | exact Upd.head | apply Upd.tail))) (fun _ => putS rfl (by simp only [List.set]; rfl)) fun j3 => ?_
 refine au [7, 17, 3, 4, 5, 8] ?_
 refine TK.freezeBk 26 rfl (by repeat (first | exact Upd.head | apply Upd.tail)) (by repeat (first | exact Upd.head | apply Upd.tail)) rfl ?_
 refine TK.kp [(j1, _), (j3, _), (0, _), (1, _), (s, _), (e, _), (jr, _)] ?_
 refine TK.normK (K' := [(j1, saysO (lookB b ⟨n, sm⟩)), (j3, seenO (lookB b ⟨n, sm⟩)), (0, _), (1, _), (s, _), (e, _), (jr, _)]) (by unfold seenO; rw [look_seen]; rfl) ?_
 rw [look_len b ⟨n, sm⟩]
 refine au [] ?_
 refine TK.nd fun hnd => ?_
 have hjj : j1 ≠ j3 := fun h => by subst h; simp [keys] at hnd
 refine TK.cl rfl rfl rfl rfl (agreed_ok hT (b := lookB b ⟨n, sm⟩) (s := j1) (e := j3) hjj (hn) (by have := hb.ne; simp [lookB]; omega)) ?_
 rintro r9 K10 h11
 rcases h11 with ⟨⟨hb0, rfl⟩ | ⟨hb0, rfl⟩, rfl⟩
 ·refine au [10, 10, 17, 2, 3] ?_
  refine TK.rt hret [(0, _), (1, _), (s, _), (e, _)] ?_
  have ha : newsM b (lookB b ⟨n, sm⟩) = askM (lookB b ⟨n, sm⟩) true := if_neg (by simpa using hc0)
  exact .inl ⟨by rw [ha]; exact hb0, by rw [ha]; rfl, rfl⟩
 ·refine au [10, 10, 17, 2, 3] ?_
  refine TK.rt hret [(0, _), (1, _), (s, _), (e, _), (j1, _), (j3, _)] ?_
  have ha : newsM b (lookB b ⟨n, sm⟩) = askM (lookB b ⟨n, sm⟩) true := if_neg (by simpa using hc0)
  exact .inr ⟨by rw [ha]; exact hb0, j1, j3, rfl, rfl⟩

theorem give_ok {main : Bool} {T : Goroutine → Hp → Prop} (hT : Shut Tryz.prog main T)  {b : Bk} {s e : Nat} {n : Int} (hse : s ≠ e) (hn : ∀ x ∈ b.seekers, x.name.size ≤ 1000) (hl : b.seen.length ≤ 1000) :
  CallK Tryz.prog T gmS 21 [.agg (bookC b s e), intA n] [(0, checksG), (1, saysG), (s, saysO b), (e, seenO b)] (fun r K' => (giveM b n ≠ 0 ∧ r = .tup [.agg zeroBk, intA (giveM b n)] ∧ K' = [(0, checksG), (1, saysG), (s, saysO b), (e, seenO b)]) ∨ (giveM b n = 0 ∧ ∃ j3 j2, r = .tup [.agg (bookC (giveB b n.toNat) j3 j2), intA 0] ∧ K' = [(0, checksG), (1, saysG), (s, saysO b), (e, seenO b), (j3, saysO (giveB b n.toNat)), (j2, seenO (giveB b n.toNat))])) := by
 refine callK_in 40 hT Tryz.func21 fun Y hret => ?_
 refine au [4, 5, 21] ?_
 intro jb hjb
 refine au [22] ?_
 intro jr hjr
 refine au [2, 3, 4, 4, 5, 8] ?_
 refine TK.cl rfl rfl rfl rfl (check_ok hT (b := b) (s := s) (e := e) hn hl) ?_
 rintro r1 K2 ⟨rfl, rfl⟩
 refine au [2, 3, 4, 5, 1, 6, 3, 20] ?_
 refine ⟨fun hc0 => ?_, fun hc0 => ?_⟩
 ·refine au [4, 5, 43, 1, 17, 2, 3] ?_
  refine TK.rt hret [(0, _), (1, _), (s, _), (e, _)] ?_
  have ha : giveM b n = checkM b := if_pos (by simpa using hc0)
  exact .inl ⟨by rw [ha]; simpa using hc0, by rw [ha]; rfl, rfl⟩
 have hb := bkOk_of (b := b) (by simpa using hc0)
 refine au [12, 4, 13, 4, 5, 8, 43, 1] ?_
 refine TK.cl rfl rfl rfl rfl (isSeeker_ok hT (b := b) (s := s) (e := e) (by have := hb.ns; omega)) ?_
 rintro r4 K5 ⟨rfl, rfl⟩
 refine au [30, 2, 3, 20] ?_
 refine ⟨fun hc1 => ?_, fun hc1 => ?_⟩
 ·refine au [4, 5, 43, 17, 2, 3] ?_
  refine TK.rt hret [(0, _), (1, _), (s, _), (e, _)] ?_
  have ha : giveM b n = 6 := by unfold giveM; rw [if_neg (by simpa using hc0), if_pos (by simpa using hc1)]
  exact .inl ⟨by rw [ha]; decide, by rw [ha]; rfl, rfl⟩
 have hk0 : isSeekerM b n = true := by simpa using hc1
 obtain ⟨k, rfl⟩ : ∃ k : Nat, n = k := ⟨n.toNat, by simp only [isSeekerM, Bool.and_eq_true, decide_eq_true_eq] at hk0; omega⟩
 have hk : k < b.seekers.length := by simp only [isSeekerM, Bool.and_eq_true, decide_eq_true_eq] at hk0; omega
 refine au [4, 5, 7, 9, 1, 36, 7] ?_
 refine TK.a rfl (q_load1 rfl rfl TySz.h (by repeat (first | exact List.Mem.head _ | assumption | apply List.Mem.tail)) (says_glass hk)) ?_
 refine au [2, 3, 20] ?_
 refine ⟨fun hc2 => ?_, fun hc2 => ?_⟩
 ·refine au [4, 5, 43, 17, 2, 3] ?_
  refine TK.rt hret [(0, _), (1, _), (s, _), (e, _)] ?_
  have ha : giveM b (k : Int) = 5 := by unfold giveM; rw [if_neg (by simpa using hc0), hk0, if_neg (by decide), Int.toNat_natCast, hc2, if_pos rfl]
  exact .inl ⟨by rw [ha]; decide, by rw [ha]; rfl, rfl⟩
 refine au [12, 14, 4, 5, 8] ?_
 refine TK.cl rfl rfl rfl rfl (own_ok hT (by have := hb.ns; omega) (by have := hb.ne; omega)) ?_
 rintro r7 K8 ⟨j1, j2, rfl, rfl⟩
 refine au [22] ?_
 intro jo hjo
 refine au [17, 3, 4, 5, 7, 9, 1, 37, 7] ?_
 refine TK.st rfl rfl rfl (q_store rfl rfl TySz.h rfl rfl (by repeat (first | exact List.Mem.head _ | assumption | apply List.Mem.tail)) (put_glass hk)) (by repeat (first | exact Upd.head | apply Upd.tail)) (putN rfl) ?_
 refine au [3, 4, 5, 8] ?_
 refine TK.freezeBk 36 rfl (by repeat (first | exact Upd.head | apply Upd.tail)) (by repeat (first | exact Upd.head | apply Upd.tail)) rfl ?_
 refine TK.kp [(j1, _), (j2, _), (0, _), (1, _), (s, _), (e, _), (jr, _)] ?_
 refine TK.normK (K' := [(j1, saysO (giveB b k)), (j2, seenO (giveB b k)), (0, _), (1, _), (s, _), (e, _), (jr, _)]) (by rfl) ?_
 rw [give_len b k]
 refine au [] ?_
 refine TK.nd fun hnd => ?_
 have hjj : j1 ≠ j2 := fun h => by subst h; simp [keys] at hnd
 refine TK.cl rfl rfl rfl rfl (agreed_ok hT (b := giveB b k) (s := j1) (e := j2) hjj (give_names hn) (hl)) ?_
 rintro r10 K11 h12
 rcases h12 with ⟨⟨hb0, rfl⟩ | ⟨hb0, rfl⟩, rfl⟩
 ·refine au [10, 10, 17, 2, 3] ?_
  refine TK.rt hret [(0, _), (1, _), (s, _), (e, _)] ?_
  have ha : giveM b (k : Int) = askM (giveB b k) true := by unfold giveM; rw [if_neg (by simpa using hc0), hk0, if_neg (by decide), Int.toNat_natCast, hc2, if_neg (by decide)]
  exact .inl ⟨by rw [ha]; exact hb0, by rw [ha]; rfl, rfl⟩
 ·refine au [10, 10, 17, 2, 3] ?_
  refine TK.rt hret [(0, _), (1, _), (s, _), (e, _), (j1, _), (j2, _)] ?_
  have ha : giveM b (k : Int) = askM (giveB b k) true := by unfold giveM; rw [if_neg (by simpa using hc0), hk0, if_neg (by decide), Int.toNat_natCast, hc2, if_neg (by decide)]
  exact .inr ⟨by rw [ha]; exact hb0, j1, j2, rfl, rfl⟩
end Go.Vel
end
section
set_option linter.all false
set_option maxRecDepth 20000
set_option maxHeartbeats 60000000
namespace Go.Vel
open Go Go.Conc Go.Proofs

def cmpI2 (x y : Int) : Int := if x < y then -1 else if x > y then 1 else 0
def cmpL : List Int → List Int → Int
 | [], [] => 0
 | [], _ :: _ => -1
 | _ :: _, [] => 1
 | x :: xs, y :: ys => if cmpI2 x y ≠ 0 then cmpI2 x y else cmpL xs ys
theorem cmpL_step {xs ys : List Int} {i : Nat} (h1 : i < xs.length) (h2 : i < ys.length) : cmpL (xs.drop i) (ys.drop i) = if cmpI2 xs[i] ys[i] ≠ 0 then cmpI2 xs[i] ys[i] else cmpL (xs.drop (i + 1)) (ys.drop (i + 1)) := by
 rw [List.drop_eq_getElem_cons h1, List.drop_eq_getElem_cons h2]; rfl
theorem cmpL_big {xs ys : List Int} {i : Nat} (h1 : i < xs.length) (h2 : ys.length ≤ i) : cmpL (xs.drop i) (ys.drop i) = 1 := by
 rw [List.drop_eq_getElem_cons h1, List.drop_eq_nil_of_le h2]; rfl
theorem cmpL_end {xs ys : List Int} (h : xs.length ≤ ys.length) : cmpL (xs.drop xs.length) (ys.drop xs.length) = if xs.length < ys.length then -1 else 0 := by
 rw [List.drop_eq_nil_of_le (Nat.le_refl _)]
 split
 ·rename_i h2; rw [List.drop_eq_getElem_cons h2]; rfl
 ·rw [List.drop_eq_nil_of_le (by omega)]; rfl
def ltLists (a b : List Int) : Bool := decide (a.length < b.length) || (a.length == b.length && decide (cmpL a b < 0))
def ltGuess (a b : List Int × Int) : Bool := decide (a.2 < b.2) || (a.2 == b.2 && decide (cmpL a.1 b.1 < 0))
def ltArc (a b : Int × Int) : Bool := decide (a.2 < b.2) || (a.2 == b.2 && decide (a.1 < b.1))
def firstL {α : Type} (lt : α → α → Bool) (o : α) (xs : List α) : α := xs.foldl (fun o x => if lt x o = true then x else o) o
theorem firstL_T {α : Type} {lt : α → α → Bool} {o : α} {xs : List α} {i : Nat} (h : i < xs.length) (hl : lt xs[i] (firstL lt o (xs.take i)) = true) : firstL lt o (xs.take (i + 1)) = xs[i] := by
 unfold firstL at hl ⊢
 rw [List.take_add_one, List.getElem?_eq_getElem h, List.foldl_append]; simp [hl]
theorem firstL_F {α : Type} {lt : α → α → Bool} {o : α} {xs : List α} {i : Nat} (h : i < xs.length) (hl : lt xs[i] (firstL lt o (xs.take i)) = false) : firstL lt o (xs.take (i + 1)) = firstL lt o (xs.take i) := by
 unfold firstL at hl ⊢
 rw [List.take_add_one, List.getElem?_eq_getElem h, List.foldl_append]; simp [hl]
theorem firstL_mem {α : Type} {lt : α → α → Bool} {o : α} : ∀ {xs : List α}, firstL lt o xs ∈ o :: xs := by
 intro xs
 induction xs generalizing o with
 | nil => simp [firstL]
 | cons x xs ih =>
  have := ih (o := if lt x o = true then x else o)
  show firstL lt (if lt x o = true then x else o) xs ∈ _
  rcases List.mem_cons.1 this with h | h
  ·rw [h]; split <;> simp
  ·simp [h]
theorem firstL_mem' {α : Type} {lt : α → α → Bool} {o : α} {xs : List α} {i : Nat} : firstL lt o (xs.take i) ∈ o :: xs := by
 rcases List.mem_cons.1 (firstL_mem (lt := lt) (o := o) (xs := xs.take i)) with h | h
 ·rw [h]; simp
 ·exact List.mem_cons_of_mem _ (List.mem_of_mem_take h)


theorem nan_ok {main : Bool} {T : Goroutine → Hp → Prop} (hT : Shut Tryz.prog main T) {gm : Nat → Option Nat} {n : Int} :
  CallK Tryz.prog T gm 117 [intA n] [] (fun r K' => r = boolA false ∧ K' = []) := by
 refine callK_in 6 hT Tryz.func117 fun Y hret => ?_
 refine au [4, 5, 2, 3, 4, 5, 1, 1, 6, 2, 3] ?_
 refine TK.rta hret ?_
 exact ⟨by simp [boolA], rfl⟩

theorem cmp_ok {main : Bool} {T : Goroutine → Hp → Prop} (hT : Shut Tryz.prog main T) {gm : Nat → Option Nat} {x y : Int} :
  CallK Tryz.prog T gm 109 [intA x, intA y] [] (fun r K' => r = intA (cmpI2 x y) ∧ K' = []) := by
 refine callK_in 20 hT Tryz.func109 fun Y hret => ?_
 refine au [4, 5, 2, 3, 4, 5, 1] ?_
 refine TK.cl rfl rfl rfl rfl (nan_ok hT) ?_
 rintro r1 K2 ⟨rfl, rfl⟩
 refine au [2, 3, 4, 5, 1] ?_
 refine TK.cl rfl rfl rfl rfl (nan_ok hT) ?_
 rintro r4 K5 ⟨rfl, rfl⟩
 refine au [2, 3, 4, 4, 5, 1, 3, 19, 12, 4, 4, 5, 1, 3, 19, 12, 4, 4, 5, 1, 1, 6, 3, 20] ?_
 refine ⟨fun hc0 => ?_, fun hc0 => ?_⟩
 ·refine au [4, 5, 2, 3] ?_
  refine TK.rta hret ?_
  exact ⟨by unfold cmpI2; rw [if_pos (by simpa using hc0)]; rfl, rfl⟩
 refine au [12, 4, 4, 5, 1, 1, 6, 3, 20] ?_
 refine ⟨fun hc1 => ?_, fun hc1 => ?_⟩
 ·refine au [4, 5, 2, 3] ?_
  refine TK.rta hret ?_
  exact ⟨by unfold cmpI2; rw [if_neg (by simpa using hc0), if_pos (by simpa using hc1)]; rfl, rfl⟩
 refine au [12, 4, 5, 2, 3] ?_
 refine TK.rta hret ?_
 exact ⟨by unfold cmpI2; rw [if_neg (by simpa using hc0), if_neg (by simpa using hc1)]; rfl, rfl⟩

theorem compare_ok {main : Bool} {T : Goroutine → Hp → Prop} (hT : Shut Tryz.prog main T) {gm : Nat → Option Nat} {j1 j2 : Nat} {ob1 ob2 : AObj} {xs ys : List Int} {K : KV} (h1 : (j1, ob1) ∈ K) (h2 : (j2, ob2) ∈ K) (hI1 : IntsAt ob1 0 xs) (hI2 : IntsAt ob2 0 ys) (hl1 : xs.length ≤ 1000) (hl2 : ys.length ≤ 1000) :
  CallK Tryz.prog T gm 83 [.sl j1 0 xs.length, .sl j2 0 ys.length] K (fun r K' => r = intA (cmpL xs ys) ∧ K' = K) := by
 refine callK_in 36 hT Tryz.func83 fun Y hret => ?_
 refine au [4, 5, 2, 3, 4, 4, 5, 1, 28, 1, 3, 13] ?_
 refine TK.maskL [0, 1, 9, 10, 11] ?_
 refine TK.loopN (fun n env K' => ∃ (i : Nat), n = xs.length - i ∧ i ≤ xs.length ∧ i ≤ ys.length ∧ cmpL (xs.drop i) (ys.drop i) = cmpL xs ys ∧ env = slotsA 36 [(0, .sl j1 0 xs.length), (1, .sl j2 0 ys.length), (9, .sl j1 0 xs.length), (10, intA xs.length), (11, intA i)] ∧ K' = K) xs.length ⟨0, rfl, Nat.zero_le _, Nat.zero_le _, rfl, rfl, rfl⟩ fun n env K' hI' hnext => ?_
 obtain ⟨i, rfl, hi, hiy, hcm, rfl, rfl⟩ := hI'
 refine au [4, 5, 6, 3, 4, 20] ?_
 refine ⟨fun hc => ?_, fun hc => ?_⟩
 ·simp only [decide_eq_true_eq] at hc
  have hil : i < xs.length := by omega
  refine au [12, 4, 13, 4, 5, 1, 36] ?_
  refine TK.a rfl (q_load1 rfl rfl TySz.h (by repeat (first | exact List.Mem.head _ | assumption | apply List.Mem.tail)) (hI1 i hil)) ?_
  refine au [2, 2, 3, 4, 4, 5, 1, 1, 28, 6, 3, 20] ?_
  refine ⟨fun hc1 => ?_, fun hc1 => ?_⟩
  ·refine au [4, 5, 2, 3] ?_
   refine TK.rta hret ?_
   exact ⟨by rw [← hcm, cmpL_big hil (by have := of_decide_eq_true hc1; omega)]; rfl, rfl⟩
  have hyl : i < ys.length := by have := of_decide_eq_false hc1; omega
  refine au [12, 4, 5, 1, 1, 36] ?_
  refine TK.a rfl (q_load1 rfl rfl TySz.h (by repeat (first | exact List.Mem.head _ | assumption | apply List.Mem.tail)) (hI2 i hyl)) ?_
  refine au [2, 3, 4, 5, 1, 1] ?_
  refine TK.cl rfl rfl rfl rfl (cmp_ok hT) ?_ (hs := (.none _))
  rintro r1 K2 ⟨rfl, rfl⟩
  refine au [] ?_
  skip
  refine au [2, 3, 4, 5, 1, 6, 3, 20] ?_
  refine ⟨fun hc2 => ?_, fun hc2 => ?_⟩
  ·have hc2 : cmpI2 xs[i] ys[i] ≠ 0 := by simpa using hc2
   refine au [4, 5, 1, 2, 3] ?_
   refine TK.rta hret ?_
   exact ⟨by rw [← hcm, cmpL_step hil hyl, if_pos hc2], rfl⟩
  have hc2 : cmpI2 xs[i] ys[i] = 0 := by simpa using hc2
  refine au [12, 14, 5, 23, 1, 3] ?_
  refine TK.maskL [0, 1, 9, 10, 11] ?_
  exact hnext _ _ _ (by omega) ⟨i + 1, rfl, by omega, by omega, by rw [← hcm, cmpL_step hil hyl, if_neg (fun h => h hc2)], rfl, rfl⟩
 simp only [decide_eq_false_iff_not] at hc
 obtain rfl : i = xs.length := by omega
 refine au [16, 4, 4, 5, 1, 28, 1, 28, 6, 3, 20] ?_
 refine ⟨fun hc3 => ?_, fun hc3 => ?_⟩
 ·refine au [4, 5, 2, 3] ?_
  refine TK.rta hret ?_
  exact ⟨by rw [← hcm, cmpL_end hiy, if_pos (by have := of_decide_eq_true hc3; omega)]; rfl, rfl⟩
 refine au [12, 4, 5, 2, 3] ?_
 refine TK.rta hret ?_
 exact ⟨by rw [← hcm, cmpL_end hiy, if_neg (by have := of_decide_eq_false hc3; omega)]; rfl, rfl⟩

theorem clash1_ok {main : Bool} {T : Goroutine → Hp → Prop} (hT : Shut Tryz.prog main T) {gm : Nat → Option Nat} {j1 j2 : Nat} {ob1 ob2 : AObj} {xs ys : List Int} {K : KV} (h1 : (j1, ob1) ∈ K) (h2 : (j2, ob2) ∈ K) (hI1 : IntsAt ob1 0 xs) (hI2 : IntsAt ob2 0 ys) (hl1 : xs.length ≤ 1000) (hl2 : ys.length ≤ 1000) :
  CallK Tryz.prog T gm 91 [.sl j1 0 xs.length, .sl j2 0 ys.length] K (fun r K' => r = boolA (ltLists xs ys) ∧ K' = K) := by
 refine callK_in 23 hT Tryz.func91 fun Y hret => ?_
 refine au [4, 5, 2, 3, 4, 5, 1, 28, 1, 28, 6, 1] ?_
 refine TK.sp 10 (fun g1_6 => ?_) (fun g1_6 => ?_)
 ·refine au [11, 11, 11, 11, 11, 11, 11, 11, 11, 11, 11, 26, 2, 3] ?_
  refine TK.rta hret ?_
  exact ⟨by unfold ltLists; rw [show decide (xs.length < ys.length) = true by have := of_decide_eq_true g1_6; exact decide_eq_true (by omega)]; rfl, rfl⟩
 refine au [1, 28, 1, 28, 6, 1] ?_
 refine TK.sp 16 (fun g1_12 => ?_) (fun g1_12 => ?_)
 ·refine au [1, 1] ?_
  refine TK.cl rfl rfl rfl rfl (compare_ok hT h1 h2 hI1 hI2 hl1 hl2) ?_ (hs := (.all _))
  rintro r1 K2 ⟨rfl, rfl⟩
  refine au [] ?_
  rw [List.append_nil]
  refine au [6, 26, 25, 2, 3] ?_
  refine TK.rta hret ?_
  exact ⟨by unfold ltLists; rw [show decide (xs.length < ys.length) = false by have := of_decide_eq_false g1_6; exact decide_eq_false (by omega), show (xs.length == ys.length) = true from beq_iff_eq.2 (by have := eq_of_beq g1_12; omega)]; rfl, rfl⟩
 refine au [11, 11, 11, 11, 25, 25, 2, 3] ?_
 refine TK.rta hret ?_
 exact ⟨by unfold ltLists; rw [show decide (xs.length < ys.length) = false by have := of_decide_eq_false g1_6; exact decide_eq_false (by omega), show (xs.length == ys.length) = false from beq_eq_false_iff_ne.2 (fun h => by rw [h] at g1_12; simp at g1_12)]; rfl, rfl⟩

theorem likely1_ok {main : Bool} {T : Goroutine → Hp → Prop} (hT : Shut Tryz.prog main T) {gm : Nat → Option Nat} {j1 j2 : Nat} {ob1 ob2 : AObj} {xs ys : List Int} {K : KV} {u v : Int} (h1 : (j1, ob1) ∈ K) (h2 : (j2, ob2) ∈ K) (hI1 : IntsAt ob1 0 xs) (hI2 : IntsAt ob2 0 ys) (hl1 : xs.length ≤ 1000) (hl2 : ys.length ≤ 1000) :
  CallK Tryz.prog T gm 82 [.agg [.sl j1 0 xs.length, intA u], .agg [.sl j2 0 ys.length, intA v]] K (fun r K' => r = boolA (ltGuess (xs, u) (ys, v)) ∧ K' = K) := by
 refine callK_in 25 hT Tryz.func82 fun Y hret => ?_
 refine au [4, 5, 21] ?_
 intro ja hja
 refine au [21] ?_
 intro jb hjb
 refine au [2, 3, 4, 5, 7, 9, 7, 9, 6, 1] ?_
 refine TK.sp 10 (fun g1_6 => ?_) (fun g1_6 => ?_)
 ·refine au [11, 11, 11, 11, 11, 11, 11, 11, 11, 11, 11, 11, 11, 26, 2, 3] ?_
  refine TK.rt hret (K) ?_ (hs := (.right (.right (.all _))))
  exact ⟨by unfold ltGuess; dsimp only; rw [g1_6]; rfl, rfl⟩
 refine au [7, 9, 7, 9, 6, 1] ?_
 refine TK.sp 16 (fun g1_12 => ?_) (fun g1_12 => ?_)
 ·refine au [7, 9, 7, 9] ?_
  refine TK.cl rfl rfl rfl rfl (compare_ok hT h1 h2 hI1 hI2 hl1 hl2) ?_ (hs := (.right (.right (.all _))))
  rintro r1 K2 ⟨rfl, hK⟩
  refine au [] ?_
  rw [hK]
  refine TK.perm (K' := (jb, _) :: (ja, _) :: K) (List.perm_append_comm (l₁ := K)) ?_
  refine au [6, 26, 25, 2, 3] ?_
  refine TK.rt hret (K) ?_ (hs := (.right (.right (.all _))))
  exact ⟨by unfold ltGuess; dsimp only; rw [g1_6, g1_12]; rfl, rfl⟩
 refine au [11, 11, 11, 11, 11, 11, 25, 25, 2, 3] ?_
 refine TK.rt hret (K) ?_ (hs := (.right (.right (.all _))))
 exact ⟨by unfold ltGuess; dsimp only; rw [g1_6, g1_12]; rfl, rfl⟩

theorem narrow2_ok {main : Bool} {T : Goroutine → Hp → Prop} (hT : Shut Tryz.prog main T) {gm : Nat → Option Nat} {a b : Int × Int} :
  CallK Tryz.prog T gm 100 [.agg [intA a.1, intA a.2], .agg [intA b.1, intA b.2]] [] (fun r K' => r = boolA (ltArc a b) ∧ K' = []) := by
 refine callK_in 24 hT Tryz.func100 fun Y hret => ?_
 refine au [4, 5, 21] ?_
 intro j1 hj1
 refine au [21] ?_
 intro j2 hj2
 refine au [2, 3, 4, 5, 7, 9, 7, 9, 6, 1] ?_
 refine TK.sp 10 (fun g1_6 => ?_) (fun g1_6 => ?_)
 ·refine au [11, 11, 11, 11, 11, 11, 11, 11, 11, 11, 11, 11, 26, 2, 3] ?_
  refine TK.rt hret [] ?_
  exact ⟨by unfold ltArc; rw [g1_6]; rfl, rfl⟩
 refine au [7, 9, 7, 9, 6, 1] ?_
 refine TK.sp 16 (fun g1_12 => ?_) (fun g1_12 => ?_)
 ·refine au [7, 9, 7, 9, 6, 26, 25, 2, 3] ?_
  refine TK.rt hret [] ?_
  exact ⟨by unfold ltArc; rw [g1_6, g1_12]; rfl, rfl⟩
 refine au [11, 11, 11, 11, 11, 25, 25, 2, 3] ?_
 refine TK.rt hret [] ?_
 exact ⟨by unfold ltArc; rw [g1_6, g1_12]; rfl, rfl⟩

theorem firstInts_ok {main : Bool} {T : Goroutine → Hp → Prop} (hT : Shut Tryz.prog main T) {gm : Nat → Option Nat} {o : Nat × List Int} {xs : List (Nat × List Int)} {lt : Nat × List Int → Nat × List Int → Bool} {fv : AV} {jo off : Nat} {obo : AObj} {K : KV} (hl : xs.length ≤ 100000) (hm : (jo, obo) ∈ K) (hI : ∀ i (h : i < xs.length), takeO obo (off + (i : Int).toNat * 1) 1 = some [.sl xs[i].1 0 xs[i].2.length]) (hf : ∀ a ∈ o :: xs, ∀ c ∈ o :: xs, CallFK Tryz.prog T gm fv [.sl a.1 0 a.2.length, .sl c.1 0 c.2.length] K (fun r K' => r = boolA (lt a c) ∧ K' = K)) :
  CallK Tryz.prog T gm 90 [fv, .sl o.1 0 o.2.length, .sl jo off xs.length] K (fun r K' => r = .sl (firstL lt o xs).1 0 (firstL lt o xs).2.length ∧ K' = K) := by
 refine callK_in 22 hT Tryz.func90 fun Y hret => ?_
 refine au [4, 5, 2, 3, 4, 4, 5, 1, 28, 1, 3, 13] ?_
 refine TK.maskL [0, 1, 9, 10, 11] ?_
 refine TK.loopN (fun n env K' => ∃ (i : Nat), n = xs.length - i ∧ i ≤ xs.length ∧ env = slotsA 22 [(0, fv), (1, .sl (firstL lt o (xs.take i)).1 0 (firstL lt o (xs.take i)).2.length), (9, .sl jo off xs.length), (10, intA xs.length), (11, intA i)] ∧ K' = K) xs.length ⟨0, rfl, Nat.zero_le _, rfl, rfl⟩ fun n env K' hI' hnext => ?_
 obtain ⟨i, rfl, hi, rfl, rfl⟩ := hI'
 refine au [4, 5, 6, 3, 4, 20] ?_
 refine ⟨fun hc => ?_, fun hc => ?_⟩
 ·simp only [decide_eq_true_eq] at hc
  have hil : i < xs.length := by omega
  refine au [12, 4, 13, 4, 5, 36] ?_
  refine TK.a rfl (q_load1 rfl rfl TySz.h (by repeat (first | exact List.Mem.head _ | assumption | apply List.Mem.tail)) (hI i hil)) ?_
  refine au [2, 3, 4, 5, 1, 1, 1] ?_
  refine TK.callF' rfl rfl rfl rfl rfl (hf xs[i] (List.mem_cons_of_mem _ (List.getElem_mem hil)) (firstL lt o (xs.take i)) firstL_mem') (.all _) fun r1 K2 h3 => ?_
  obtain ⟨rfl, hK⟩ := h3
  refine au [] ?_
  rw [hK, List.append_nil]
  refine au [3, 20] ?_
  refine ⟨fun hc1 => ?_, fun hc1 => ?_⟩
  ·refine au [5, 1, 2, 3, 14, 5, 23, 1, 3] ?_
   refine TK.maskL [0, 1, 9, 10, 11] ?_
   exact hnext _ _ _ (by omega) ⟨i + 1, rfl, by omega, by rw [firstL_T hil hc1] <;> rfl, rfl⟩
  refine au [12, 14, 5, 23, 1, 3] ?_
  refine TK.maskL [0, 1, 9, 10, 11] ?_
  exact hnext _ _ _ (by omega) ⟨i + 1, rfl, by omega, by rw [firstL_F hil hc1] <;> rfl, rfl⟩
 simp only [decide_eq_false_iff_not] at hc
 obtain rfl : i = xs.length := by omega
 refine au [16, 4, 5, 1, 2, 3] ?_
 refine TK.rta hret ?_
 exact ⟨by rw [List.take_length] <;> rfl, rfl⟩

theorem firstArc_ok {main : Bool} {T : Goroutine → Hp → Prop} (hT : Shut Tryz.prog main T) {gm : Nat → Option Nat} {o : Int × Int} {xs : List (Int × Int)} {lt : Int × Int → Int × Int → Bool} {fv : AV} {jo off : Nat} {obo : AObj} {K : KV} (hl : xs.length ≤ 100000) (hm : (jo, obo) ∈ K) (hI : ∀ i (h : i < xs.length), takeO obo (off + (i : Int).toNat * 2) 2 = some [intA xs[i].1, intA xs[i].2]) (hf : ∀ a ∈ o :: xs, ∀ c ∈ o :: xs, CallFK Tryz.prog T gm fv [.agg [intA a.1, intA a.2], .agg [intA c.1, intA c.2]] K (fun r K' => r = boolA (lt a c) ∧ K' = K)) :
  CallK Tryz.prog T gm 99 [fv, .agg [intA o.1, intA o.2], .sl jo off xs.length] K (fun r K' => r = .agg [intA (firstL lt o xs).1, intA (firstL lt o xs).2] ∧ K' = K) := by
 refine callK_in 22 hT Tryz.func99 fun Y hret => ?_
 refine au [4, 5, 21] ?_
 intro jc hjc
 refine au [22] ?_
 intro jr hjr
 refine au [3, 4, 4, 5, 1, 28, 1, 3, 13] ?_
 refine TK.maskL [0, 4, 6, 9, 10, 11] ?_
 refine TK.perm (List.Perm.swap _ _ _) ?_
 refine TK.loopN (fun n env K' => ∃ (i : Nat), n = xs.length - i ∧ i ≤ xs.length ∧ env = slotsA 22 [(0, fv), (4, .ptr jc 0), (6, .ptr jr 0), (9, .sl jo off xs.length), (10, intA xs.length), (11, intA i)] ∧ K' = (jc, .cells [intA (firstL lt o (xs.take i)).1, intA (firstL lt o (xs.take i)).2] 143 true) :: (jr, .cells [intA 0, intA 0] 143 true) :: K) xs.length ⟨0, rfl, Nat.zero_le _, rfl, rfl⟩ fun n env K' hI' hnext => ?_
 obtain ⟨i, rfl, hi, rfl, rfl⟩ := hI'
 refine au [4, 5, 6, 3, 4, 20] ?_
 refine ⟨fun hc => ?_, fun hc => ?_⟩
 ·simp only [decide_eq_true_eq] at hc
  have hil : i < xs.length := by omega
  refine au [12, 4, 13, 4, 5, 36] ?_
  refine TK.a rfl (q_load rfl rfl TySz.h (by repeat (first | exact List.Mem.head _ | assumption | apply List.Mem.tail)) (hI i hil)) ?_
  refine au [22] ?_
  intro j9 hj9
  refine au [17, 3, 4, 5, 1, 8, 8] ?_
  refine TK.callF' rfl rfl rfl rfl rfl (hf xs[i] (List.mem_cons_of_mem _ (List.getElem_mem hil)) (firstL lt o (xs.take i)) firstL_mem') (.right (.right (.right (.all _)))) fun r1 K2 h3 => ?_
  obtain ⟨rfl, hK⟩ := h3
  refine au [] ?_
  rw [hK]
  refine TK.perm (K' := (j9, _) :: (jc, _) :: (jr, _) :: K) (List.perm_append_comm (l₁ := K)) ?_
  refine au [3, 20] ?_
  refine ⟨fun hc1 => ?_, fun hc1 => ?_⟩
  ·refine au [5, 8, 17, 3, 14, 5, 23, 1, 3] ?_
   refine TK.maskL [0, 4, 6, 9, 10, 11] ?_
   refine TK.keep (R := ((jc, _) :: (jr, _) :: K)) (.rem (by repeat (first | exact Rem.head | apply Rem.tail)) (.rem (by repeat (first | exact Rem.head | apply Rem.tail)) (.right (.all _)))) ?_
   exact hnext _ _ _ (by omega) ⟨i + 1, rfl, by omega, rfl, by rw [firstL_T hil hc1] <;> rfl⟩
  refine au [12, 14, 5, 23, 1, 3] ?_
  refine TK.maskL [0, 4, 6, 9, 10, 11] ?_
  refine TK.keep (R := ((jc, _) :: (jr, _) :: K)) (.rem (by repeat (first | exact Rem.head | apply Rem.tail)) (.rem (by repeat (first | exact Rem.head | apply Rem.tail)) (.right (.all _)))) ?_
  exact hnext _ _ _ (by omega) ⟨i + 1, rfl, by omega, rfl, by rw [firstL_F hil hc1] <;> rfl⟩
 simp only [decide_eq_false_iff_not] at hc
 obtain rfl : i = xs.length := by omega
 refine au [16, 4, 5, 8, 17, 3] ?_
 refine TK.rt hret (K) ?_
 exact ⟨by rw [List.take_length] <;> rfl, rfl⟩

theorem firstGuess_ok {main : Bool} {T : Goroutine → Hp → Prop} (hT : Shut Tryz.prog main T) {gm : Nat → Option Nat} {o : Nat × List Int × Int} {xs : List (Nat × List Int × Int)} {lt : Nat × List Int × Int → Nat × List Int × Int → Bool} {fv : AV} {jo off : Nat} {obo : AObj} {K : KV} (hl : xs.length ≤ 100000) (hm : (jo, obo) ∈ K) (hI : ∀ i (h : i < xs.length), takeO obo (off + (i : Int).toNat * 2) 2 = some [.sl xs[i].1 0 xs[i].2.1.length, intA xs[i].2.2]) (hf : ∀ a ∈ o :: xs, ∀ c ∈ o :: xs, CallFK Tryz.prog T gm fv [.agg [.sl a.1 0 a.2.1.length, intA a.2.2], .agg [.sl c.1 0 c.2.1.length, intA c.2.2]] K (fun r K' => r = boolA (lt a c) ∧ K' = K)) :
  CallK Tryz.prog T gm 81 [fv, .agg [.sl o.1 0 o.2.1.length, intA o.2.2], .sl jo off xs.length] K (fun r K' => r = .agg [.sl (firstL lt o xs).1 0 (firstL lt o xs).2.1.length, intA (firstL lt o xs).2.2] ∧ K' = K) := by
 refine callK_in 22 hT Tryz.func81 fun Y hret => ?_
 refine au [4, 5, 21] ?_
 intro jc hjc
 refine au [22] ?_
 intro jr hjr
 refine au [3, 4, 4, 5, 1, 28, 1, 3, 13] ?_
 refine TK.maskL [0, 4, 6, 9, 10, 11] ?_
 refine TK.perm (List.Perm.swap _ _ _) ?_
 refine TK.loopN (fun n env K' => ∃ (i : Nat), n = xs.length - i ∧ i ≤ xs.length ∧ env = slotsA 22 [(0, fv), (4, .ptr jc 0), (6, .ptr jr 0), (9, .sl jo off xs.length), (10, intA xs.length), (11, intA i)] ∧ K' = (jc, .cells [.sl (firstL lt o (xs.take i)).1 0 (firstL lt o (xs.take i)).2.1.length, intA (firstL lt o (xs.take i)).2.2] 125 true) :: (jr, .cells [.v (.slice none 0 0), intA 0] 125 true) :: K) xs.length ⟨0, rfl, Nat.zero_le _, rfl, rfl⟩ fun n env K' hI' hnext => ?_
 obtain ⟨i, rfl, hi, rfl, rfl⟩ := hI'
 refine au [4, 5, 6, 3, 4, 20] ?_
 refine ⟨fun hc => ?_, fun hc => ?_⟩
 ·simp only [decide_eq_true_eq] at hc
  have hil : i < xs.length := by omega
  refine au [12, 4, 13, 4, 5, 36] ?_
  refine TK.a rfl (q_load rfl rfl TySz.h (by repeat (first | exact List.Mem.head _ | assumption | apply List.Mem.tail)) (hI i hil)) ?_
  refine au [22] ?_
  intro j9 hj9
  refine au [17, 3, 4, 5, 1, 8, 8] ?_
  refine TK.callF' rfl rfl rfl rfl rfl (hf xs[i] (List.mem_cons_of_mem _ (List.getElem_mem hil)) (firstL lt o (xs.take i)) firstL_mem') (.right (.right (.right (.all _)))) fun r1 K2 h3 => ?_
  obtain ⟨rfl, hK⟩ := h3
  refine au [] ?_
  rw [hK]
  refine TK.perm (K' := (j9, _) :: (jc, _) :: (jr, _) :: K) (List.perm_append_comm (l₁ := K)) ?_
  refine au [3, 20] ?_
  refine ⟨fun hc1 => ?_, fun hc1 => ?_⟩
  ·refine au [5, 8, 17, 3, 14, 5, 23, 1, 3] ?_
   refine TK.maskL [0, 4, 6, 9, 10, 11] ?_
   refine TK.keep (R := ((jc, _) :: (jr, _) :: K)) (.rem (by repeat (first | exact Rem.head | apply Rem.tail)) (.rem (by repeat (first | exact Rem.head | apply Rem.tail)) (.right (.all _)))) ?_
   exact hnext _ _ _ (by omega) ⟨i + 1, rfl, by omega, rfl, by rw [firstL_T hil hc1] <;> rfl⟩
  refine au [12, 14, 5, 23, 1, 3] ?_
  refine TK.maskL [0, 4, 6, 9, 10, 11] ?_
  refine TK.keep (R := ((jc, _) :: (jr, _) :: K)) (.rem (by repeat (first | exact Rem.head | apply Rem.tail)) (.rem (by repeat (first | exact Rem.head | apply Rem.tail)) (.right (.all _)))) ?_
  exact hnext _ _ _ (by omega) ⟨i + 1, rfl, by omega, rfl, by rw [firstL_F hil hc1] <;> rfl⟩
 simp only [decide_eq_false_iff_not] at hc
 obtain rfl : i = xs.length := by omega
 refine au [16, 4, 5, 8, 17, 3] ?_
 refine TK.rt hret (K) ?_
 exact ⟨by rw [List.take_length] <;> rfl, rfl⟩
end Go.Vel
end
section
set_option linter.all false
set_option maxRecDepth 20000
set_option maxHeartbeats 60000000
namespace Go.Vel
open Go Go.Conc Go.Proofs

section
variable {P : Program} {main : Bool} {gm : Nat → Option Nat} {T : Goroutine → Hp → Prop} {Y : KX P gm T} {ds : List Nat} {k : List Item} {env : List AV} {K : KV} {V : KV} {o : Oper}
theorem sf_scope {kd : CallKind} {f : FuncId} {ro : Option Nat} {ts : Array Value} {ds : List Deferred} {cs : List Frame} {w : World} {c : Code} : stepG P main (G (fr kd f ro ts ds (.code (.scope c) :: k)) cs) w = .go (G (fr kd f ro ts ds (.code c :: .inScope c :: k)) cs) w #[] := by simp [G, stepG, stepG.exec, fr]
theorem sf_inScope {kd : CallKind} {f : FuncId} {ro : Option Nat} {ts : Array Value} {ds : List Deferred} {cs : List Frame} {w : World} {c : Code} : stepG P main (G (fr kd f ro ts ds (.inScope c :: k)) cs) w = .go (G (fr kd f ro ts ds k) cs) w #[] := by simp [G, stepG, stepG.exec, fr]
theorem TK.scope {c : Code} (h : TK Y ds (.code c :: .inScope c :: k) env K) : TK Y ds (.code (.scope c) :: k) env K := fun A hA φ H ts h1 h2 h3 h4 h5 h6 => Y.X.hT.ctlF rfl (fun _ => sf_scope) rfl (h A hA φ H ts h1 h2 h3 h4 h5 h6)
theorem TK.inScope {c : Code} (h : TK Y ds k env K) : TK Y ds (.inScope c :: k) env K := fun A hA φ H ts h1 h2 h3 h4 h5 h6 => Y.X.hT.ctlF rfl (fun _ => sf_inScope) rfl (h A hA φ H ts h1 h2 h3 h4 h5 h6)
theorem q_shrN {t yt : TypeId} {x y : Operand} {k' : IntKind} {a b : Nat} (ho : o.op = .binOp .shr t x y yt) (hx : opndO gm env x = some (.v (.int .i64 a))) (hy : opndO gm env y = some (.v (.int k' b))) (h0 : b ≤ 60) : Qk P gm env V o (.v (.int .i64 ((a / 2 ^ b : Nat) : Int))) := by
 have := q_shr (P := P) (V := V) ho hx hy (by omega)
 rwa [Int.toNat_natCast, show ((a : Int).fdiv (2 ^ b)) = ((a / 2 ^ b : Nat) : Int) by rw [Int.fdiv_eq_ediv_of_nonneg _ (by exact_mod_cast Nat.zero_le (2 ^ b))]; norm_cast] at this
theorem q_shl1 {t yt : TypeId} {x y : Operand} {k' : IntKind} {b : Nat} (ho : o.op = .binOp .shl t x y yt) (hx : opndO gm env x = some (.v (.int .i64 1))) (hy : opndO gm env y = some (.v (.int k' b))) (h0 : b ≤ 20) : Qk P gm env V o (.v (.int .i64 ((2 ^ b : Nat) : Int))) := by
 have hp : 2 ^ b ≤ 2 ^ 20 := Nat.pow_le_pow_right (by omega) h0
 have e : (1 * 2 ^ b : Int) = ((2 ^ b : Nat) : Int) := by rw [Int.one_mul]; norm_cast
 have := q_shl (P := P) (V := V) ho hx hy (by omega) (by rw [Int.toNat_natCast, e]; have hp' : 2 ^ b ≤ 1048576 := hp; generalize 2 ^ b = m at hp' ⊢; omega)
 rwa [Int.toNat_natCast, e] at this
theorem Kstep.trans {K1 K2 : KV} {A A1 A2 : List AObj} (h1 : Kstep K A K1 A1) (h2 : Kstep K1 A1 K2 A2) : Kstep K A K2 A2 := by
 refine ⟨h2.view, h2.nd, fun i hi => ?_, fun j hj hn => ?_, Nat.le_trans h1.len h2.len⟩
 ·rcases h2.own i hi with h | h
  ·exact h1.own i h
  ·exact .inr (Nat.le_trans h1.len h)
 ·rw [h2.kept j (Nat.lt_of_lt_of_le hj h1.len) (fun hm => ?_)]
  ·exact h1.kept j hj hn
  ·rcases h1.own j hm with h | h
   ·exact hn h
   ·omega
/-- What a call made is frozen. -/
theorem callK_freeze {g : FuncId} {args : List AV} {n : Nat} {l : List AV} {e : TypeId} {s : Nat} {R : KV} (h : CallK P T gm g args K fun r K' => ∃ j, r = .row j n ∧ K' = (j, .row l e s) :: R) : CallK P T gm g args K fun r K' => ∃ j, r = .sl j 0 n ∧ K' = (j, .cells l e false) :: R := by
 intro A hv hn φ F H vs c cs h1 h2 h3 q
 refine h A hv hn φ F H vs c cs h1 h2 h3 fun r A' φ' H' v ⟨K', hk, j, hr, he⟩ hA hlen hH' hv' => ?_
 subst hr he
 have hj : A'[j]? = some (.row l e s) := hk.view.get (by simp)
 have hb : (φ' j).base = 0 := (hH'.obj j _ hj).2.1
 refine q (.sl j 0 n) (A'.set j (.cells l e false)) φ' H' v ⟨_, hk.trans (.set hk.view hk.nd .head), j, rfl, rfl⟩ hA (by simpa using hlen) (hH'.turn hj (fun ho hl => ?_) (fun h => by cases h) (fun _ => rfl) (fun hs => ?_)) ?_
 ·have hc : 0 < (φ' j).cap := by
   rcases Nat.eq_zero_or_pos (φ' j).cap with e | e
   ·exact absurd (ho.1 e) hl
   ·exact e
  obtain ⟨cur, q1, q2, q3, q4, q5⟩ := ho.2.2 hc
  exact ⟨true, cur, (_, 0, 0), q1, (fun h => by cases h), fun t u hu => by rw [hb, Nat.zero_add]; exact q5 t u hu⟩
 ·show 0 < (φ' j).cap
  rcases Nat.eq_zero_or_pos (φ' j).cap with e | e
  ·exact absurd ((hH'.obj j _ hj).1 e) hs
  ·exact e
 ·have := unrow_rel (j := j) hb hv'
  simpa [unrow] using this
end
theorem ints_at (xs : List Int) (e : TypeId) (rw' : Bool) : IntsAt (.cells (xs.map intA) e rw') 0 xs := fun i h => by
 simp only [takeO, AObj.look, Int.toNat_natCast, Nat.zero_add, Nat.mul_one]
 rw [if_pos (by simp; omega)]
 simp [List.take_one, h]
theorem rem_of_mem {K : KV} {x : Nat × AObj} : x ∈ K → ∃ R, Rem K x R := by
 induction K with
 | nil => intro h; cases h
 | cons y K ih =>
  intro h
  rcases List.mem_cons.1 h with rfl | h
  ·exact ⟨_, .head⟩
  ·obtain ⟨R, hR⟩ := ih h; exact ⟨_, .tail hR⟩
theorem listF_ok {main : Bool} {T : Goroutine → Hp → Prop} (hT : Shut Tryz.prog main T) {gm : Nat → Option Nat} {S : List Int} (hS : S.length ≤ 3) (hB : ∀ x ∈ S, 0 ≤ x ∧ x < 1000) : CallK Tryz.prog T gm 80 [.agg (seamsC S)] [] (fun r K' => ∃ j, r = .sl j 0 S.length ∧ K' = [(j, .cells (S.map intA) 3 false)]) := callK_freeze (list_ok hT hS hB)
def bitB (bits i : Nat) : Bool := ((bits / 2 ^ i % 2 : Nat) : Int) == 1
def allR (b : Bk) (S : List Int) (bits n : Nat) : Bool := (List.range n).all fun i => !(bitB bits i) || rightM b S i
def togM (b : Bk) (bits : Nat) : Bool := (allM b).any fun S => allR b S bits b.seekers.length
theorem allR_succ (b : Bk) (S : List Int) (bits i : Nat) : allR b S bits (i + 1) = (allR b S bits i && (!(bitB bits i) || rightM b S i)) := by
 unfold allR; rw [List.range_succ, List.all_append]; simp
theorem allR_bad {b : Bk} {S : List Int} {bits i n : Nat} (hi : i < n) (h : (!(bitB bits i) || rightM b S i) = false) : allR b S bits n = false := by
 unfold allR
 rw [List.all_eq_false]
 exact ⟨i, List.mem_range.2 hi, by rw [h]; decide⟩


theorem together_ok {main : Bool} {T : Goroutine → Hp → Prop} (hT : Shut Tryz.prog main T)  {b : Bk} {s e : Nat} {bits : Nat} (hse : s ≠ e) (hb : BkOk b) (hbt : bits < 100000) :
  CallK Tryz.prog T gmS 89 [.agg (bookC b s e), intA bits] [(1, saysG), (s, saysO b), (e, seenO b)] (fun r K' => r = boolA (togM b bits) ∧ K' = [(1, saysG), (s, saysO b), (e, seenO b)]) := by
 refine callK_in3 30 hT Tryz.func89 fun Y hro hret => ?_
 refine au [4, 5, 21] ?_
 intro jb hjb
 refine au [21] ?_
 intro jt hjt
 refine au [22] ?_
 intro jr hjr
 refine au [3] ?_
 refine TK.scope ?_
 refine au [4, 15, 4, 4, 5, 8, 32, 3, 13] ?_
 refine TK.rangeAll hT hb (s := s) (e := e) (J := fun pre K1 => K1 = [(jr, .cells [boolA false] 4 true), (jb, .cells (bookC b s e) 102 true), (jt, .cells [intA bits] 3 true), (1, saysG), (s, saysO b)] ∧ ∀ S ∈ pre, allR b S bits b.seekers.length = false) (D := fun c K1 => c = .ret ∧ K1 = [(jr, .cells [boolA true] 4 true), (jb, .cells (bookC b s e) 102 true), (jt, .cells [intA bits] 3 true), (1, saysG), (s, saysO b)] ∧ togM b bits = true) rfl hro rfl (by repeat (first | exact Split.none _ | exact Split.all _ | (apply Split.rem; repeat (first | exact Rem.head | apply Rem.tail)) | apply Split.right)) ⟨rfl, by simp⟩ (fun Y' l lo lb pre S K1 hbegin hfin hout hpre hJ => ?_) (fun d K2 hJ => ?_) (fun d c K2 hD => ?_)
 ·obtain ⟨rfl, hni⟩ := hJ
  have hSm := allM_pre hb hpre
  have hn5 := hb.ns
  refine au [5, 22] ?_
  intro j9 hj9
  refine au [17, 3] ?_
  refine hbegin _ _ _ _ _ (by repeat (first | exact Upd.head | apply Upd.tail)) ?_
  refine au [13, 4, 4, 5, 7, 7, 9, 28, 1, 3, 13] ?_
  refine TK.maskL [2, 3, 4, 5, 13, 14] ?_
  refine TK.kp [(j9, _), (l, _), (e, _), (jr, _), (jb, _), (jt, _), (1, _), (s, _)] ?_
  refine TK.loopN (fun n env K => ∃ (i : Nat), n = b.seekers.length - i ∧ i ≤ b.seekers.length ∧ allR b S bits i = true ∧ env = slotsA 30 [(2, .ptr jb 0), (3, .ptr jt 0), (4, .ptr jr 0), (5, .ptr j9 0), (13, intA b.seekers.length), (14, intA i)] ∧ K = [(j9, .cells (seamsC S) 121 true), (l, lb), (e, seenO b), (jr, .cells [boolA false] 4 true), (jb, .cells (bookC b s e) 102 true), (jt, .cells [intA bits] 3 true), (1, saysG), (s, saysO b)]) b.seekers.length ⟨0, rfl, Nat.zero_le _, rfl, rfl, rfl⟩ fun n env K hI' hnext => ?_
  obtain ⟨i, rfl, hi, hall, rfl, rfl⟩ := hI'
  refine au [4, 5, 6, 3, 4, 20] ?_
  refine ⟨fun hc => ?_, fun hc => ?_⟩
  ·simp only [decide_eq_true_eq] at hc
   have hil : i < b.seekers.length := by omega
   refine au [12, 4, 13, 4, 5, 1, 2, 3, 4, 5, 9, 1] ?_
   refine TK.a rfl (q_shrN rfl rfl rfl (by omega)) ?_
   refine TK.a rfl (q_and1 rfl rfl rfl (by have := Nat.div_le_self bits (2 ^ i); omega)) ?_
   refine au [6, 1] ?_
   refine TK.sp 22 (fun g6_6 => ?_) (fun g6_6 => ?_)
   ·refine au [8, 8, 1] ?_
    refine TK.cl rfl rfl rfl rfl (right_ok hT (s := s) (e := e) hb hSm hil) ?_
    rintro r1 K2 ⟨rfl, rfl⟩
    refine au [30, 26, 3, 20] ?_
    refine ⟨fun hc1 => ?_, fun hc1 => ?_⟩
    ·refine au [16] ?_
     exact hfin _ _ [(jr, _), (jb, _), (jt, _), (1, _), (s, _)] _ (by repeat (first | exact Split.none _ | exact Split.all _ | (apply Split.rem; repeat (first | exact Rem.head | apply Rem.tail)) | apply Split.right)) ⟨rfl, fun R hR => by
      rcases List.mem_append.1 hR with hR | hR
      ·exact hni R hR
      ·rw [List.mem_singleton.1 hR]; exact allR_bad hil (by rw [show bitB bits i = true from g6_6, show rightM b S i = false by simpa using hc1]; rfl)⟩
    refine au [12, 14, 5, 23, 1, 3] ?_
    refine TK.maskL [2, 3, 4, 5, 13, 14] ?_
    refine TK.kp [(j9, _), (l, _), (e, _), (jr, _), (jb, _), (jt, _), (1, _), (s, _)] ?_
    exact hnext _ _ _ (by omega) ⟨i + 1, rfl, by omega, by rw [allR_succ, hall, show rightM b S i = true by simpa using hc1]; simp, rfl, rfl⟩
   refine au [11, 11, 11, 11, 11, 25, 3, 19, 12, 14, 5, 23, 1, 3] ?_
   refine TK.maskL [2, 3, 4, 5, 13, 14] ?_
   refine TK.kp [(j9, _), (l, _), (e, _), (jr, _), (jb, _), (jt, _), (1, _), (s, _)] ?_
   exact hnext _ _ _ (by omega) ⟨i + 1, rfl, by omega, by rw [allR_succ, hall, show bitB bits i = false from g6_6]; rfl, rfl, rfl⟩
  simp only [decide_eq_false_iff_not] at hc
  obtain rfl : i = b.seekers.length := by omega
  refine au [16, 4, 5, 17, 3] ?_
  exact hout _ _ _ _ [(jr, _), (jb, _), (jt, _), (1, _), (s, _)] _ (.ret _) (by repeat (first | exact Split.none _ | exact Split.all _ | (apply Split.rem; repeat (first | exact Rem.head | apply Rem.tail)) | apply Split.right)) ⟨rfl, rfl, List.any_eq_true.2 ⟨S, hpre.subset (by simp), hall⟩⟩
 ·obtain ⟨rfl, hni⟩ := hJ
  simp only [List.cons_append, List.nil_append]
  refine au [14, 4, 5, 17, 3] ?_
  refine TK.leave (.ret _) fun A hA => hret _ _ _ _ ([(1, _), (s, _), (e, _), (jr, _)]) ([(1, _), (s, _), (e, _)]) _ _ _ (.inr rfl) (by repeat (first | exact Split.none _ | exact Split.all _ | (apply Split.rem; repeat (first | exact Rem.head | apply Rem.tail)) | apply Split.right)) (by simp) (by simp) (by repeat (first | exact Split.none _ | exact Split.all _ | (apply Split.rem; repeat (first | exact Rem.head | apply Rem.tail)) | apply Split.right)) (res_one (rk_cell1 rfl TySz.h (by repeat (first | exact List.Mem.head _ | assumption | apply List.Mem.tail)) rfl)) ?_ A hA
  exact ⟨by rw [show togM b bits = false from List.any_eq_false.2 fun S hS => by rw [hni S hS]; decide]; rfl, rfl⟩
 ·obtain ⟨rfl, rfl, htg⟩ := hD
  simp only [List.cons_append, List.nil_append]
  refine au [] ?_
  refine TK.leave (.ret _) fun A hA => hret _ _ _ _ ([(1, _), (s, _), (e, _), (jr, _)]) ([(1, _), (s, _), (e, _)]) _ _ _ (.inr rfl) (by repeat (first | exact Split.none _ | exact Split.all _ | (apply Split.rem; repeat (first | exact Rem.head | apply Rem.tail)) | apply Split.right)) (by simp) (by simp) (by repeat (first | exact Split.none _ | exact Split.all _ | (apply Split.rem; repeat (first | exact Rem.head | apply Rem.tail)) | apply Split.right)) (res_one (rk_cell1 rfl TySz.h (by repeat (first | exact List.Mem.head _ | assumption | apply List.Mem.tail)) rfl)) ?_ A hA
  exact ⟨by rw [htg] <;> rfl, rfl⟩
end Go.Vel
end
section
set_option linter.all false
set_option maxRecDepth 20000
set_option maxHeartbeats 60000000
namespace Go.Vel
open Go Go.Conc Go.Proofs

theorem not_f {a : Bool} (h : (!a) = true) : a = false := by cases a <;> simp_all
theorem not_t {a : Bool} (h : (!a) = false) : a = true := by cases a <;> simp_all
theorem wrap_u8 (c : UInt8) : IntKind.i64.wrap (c.toNat : Int) = (c.toNat : Int) := wrap_i64 (by have := c.toNat_lt; omega)
theorem take_fld {ob : AObj} {p n c : Nat} {l : List AV} {v : AV} (h : takeO ob p n = some l) (hc : c < n) (hl : l[c]? = some v) : takeO ob (p + c) 1 = some [v] := by
 unfold takeO at h ⊢
 cases hk : ob.look with
 | none => rw [hk] at h; cases h
 | some q =>
  rw [hk] at h
  dsimp only at h ⊢
  split at h
  ·rename_i hb
   cases h
   rw [if_pos ⟨by omega, by omega⟩]
   rw [List.getElem?_take, if_pos hc, List.getElem?_drop] at hl
   obtain ⟨h1, h2⟩ := List.getElem?_eq_some_iff.1 hl
   rw [List.take_one, List.head?_drop, hl]
   rfl
  ·cases h
def insideM (a z lo hi : Int) : Bool := (decide (lo ≤ a) && decide (a ≤ z)) && decide (z ≤ hi)
theorem numbers_eq (b : Bk) : numbersM b = bif !(decide (4 ≤ b.steps) && decide (b.steps ≤ 16)) || (!(decide (0 ≤ b.wrong) && decide (b.wrong ≤ 3)) || !insideM b.low b.high 0 3) then 1 else 0 := by
 unfold numbersM insideM
 congr 3
 have e1 : decide (b.low < 0) = !decide (0 ≤ b.low) := by by_cases h : 0 ≤ b.low <;> simp [h] <;> omega
 have e2 : decide (b.low > b.high) = !decide (b.low ≤ b.high) := by by_cases h : b.low ≤ b.high <;> simp [h] <;> omega
 have e3 : decide (b.high > 3) = !decide (b.high ≤ 3) := by by_cases h : b.high ≤ 3 <;> simp [h] <;> omega
 rw [e1, e2, e3]
 cases decide (0 ≤ b.low) <;> cases decide (b.low ≤ b.high) <;> cases decide (b.high ≤ 3) <;> rfl
theorem check_num {b : Bk} (h : numbersM b = 1) : checkM b = 1 := by unfold checkM; rw [h]; rfl
theorem check_heard {b : Bk} {c : Int} (h : numbersM b = 0) (h2 : heardM b = c) (hc : c ≠ 0) : checkM b = c := by
 unfold checkM; rw [h, if_neg (by decide), h2, if_pos (by simpa using hc)]
theorem check_looked {b : Bk} (h : numbersM b = 0) (h2 : heardM b = 0) : checkM b = lookedM b := by
 unfold checkM; rw [h, if_neg (by decide), h2, if_neg (by decide)]
theorem says_bad {n : Int} : (decide (n < 0) || decide (n > 2)) = !(decide (0 ≤ n) && decide (n ≤ 2)) := by
 by_cases h1 : n < 0 <;> by_cases h2 : n > 2 <;> simp [h1, h2] <;> omega
theorem any_take_next {α : Type} {xs : List α} {p : α → Bool} {i : Nat} {x : α} (h : xs[i]? = some x) (hn : (xs.take i).any p = false) (he : p x = false) : (xs.take (i + 1)).any p = false := by
 rw [List.take_add_one, h, List.any_append, hn]; simp [he]
theorem any_of {α : Type} {xs : List α} {p : α → Bool} {i n : Nat} {x : α} (h : xs[i]? = some x) (hi : i < n) (he : p x = true) : (xs.take n).any p = true := by
 rw [List.any_eq_true]
 refine ⟨x, List.mem_of_getElem? (i := i) ?_, he⟩
 rw [List.getElem?_take, if_pos hi, h]
theorem byteOk_in {i : Nat} {c : Int} (h : (!(decide (97 ≤ c) && decide (c ≤ 122))) = false) : byteOk i c = true := by
 unfold byteOk
 rw [show (decide (97 ≤ c) && decide (c ≤ 122)) = true by simpa using h]; rfl
theorem byteOk_first {i : Nat} {c : Int} (h : (!(decide (97 ≤ c) && decide (c ≤ 122))) = true) (h2 : ((i : Int) == 0) = true) : byteOk i c = false := by
 unfold byteOk
 rw [show (decide (97 ≤ c) && decide (c ≤ 122)) = false from not_f h, show (i : Int) = 0 by simpa using h2]; rfl
theorem byteOk_rest {i : Nat} {c : Int} (h : (!(decide (97 ≤ c) && decide (c ≤ 122))) = true) (h2 : ((i : Int) == 0) = false) : byteOk i c = (decide (48 ≤ c) && decide (c ≤ 57)) := by
 unfold byteOk
 rw [show (decide (97 ≤ c) && decide (c ≤ 122)) = false from not_f h, show decide ((i : Int) > 0) = true by have : (i : Int) ≠ 0 := (by simpa using h2); simp; omega]; rfl
theorem str_get (s : ByteArray) (i : Nat) : s[i]? = s.data[i]? := by
 first | rfl | (simp [ByteArray.getElem?_eq, Array.getElem?_eq] <;> rfl) | (by_cases h : i < s.size <;> simp [getElem?_pos, getElem?_neg, h] <;> rfl)


theorem between_ok {main : Bool} {T : Goroutine → Hp → Prop} (hT : Shut Tryz.prog main T) {gm : Nat → Option Nat} {n lo hi : Int} :
  CallK Tryz.prog T gm 26 [intA n, intA lo, intA hi] [] (fun r K' => r = boolA (decide (lo ≤ n) && decide (n ≤ hi)) ∧ K' = []) := by
 refine callK_in 15 hT Tryz.func26 fun Y hret => ?_
 refine au [4, 5, 2, 3, 4, 5, 1, 1, 6, 1] ?_
 refine TK.sp 10 (fun g1_4 => ?_) (fun g1_4 => ?_)
 ·refine au [1, 1, 6, 26, 2, 3] ?_
  refine TK.rta hret ?_
  exact ⟨by simp [boolA, g1_4], rfl⟩
 refine au [11, 11, 11, 25, 2, 3] ?_
 refine TK.rta hret ?_
 exact ⟨by simp [boolA, g1_4], rfl⟩

theorem inside_ok {main : Bool} {T : Goroutine → Hp → Prop} (hT : Shut Tryz.prog main T) {gm : Nat → Option Nat} {a z lo hi : Int} :
  CallK Tryz.prog T gm 63 [.agg [intA a, intA z], intA lo, intA hi] [] (fun r K' => r = boolA (insideM a z lo hi) ∧ K' = []) := by
 refine callK_in 24 hT Tryz.func63 fun Y hret => ?_
 refine au [4, 5, 21] ?_
 intro j1 hj1
 refine au [2, 3, 4, 5, 1, 7, 9, 6, 1] ?_
 refine TK.sp 11 (fun g1_5 => ?_) (fun g1_5 => ?_)
 ·refine au [7, 9, 7, 9, 6, 26, 1] ?_
  refine TK.sp 18 (fun g1_12 => ?_) (fun g1_12 => ?_)
  ·refine au [7, 9, 1, 6, 26, 2, 3] ?_
   refine TK.rt hret [] ?_
   exact ⟨by simp [insideM, boolA, g1_5, g1_12], rfl⟩
  refine au [11, 11, 11, 11, 25, 2, 3] ?_
  refine TK.rt hret [] ?_
  exact ⟨by simp [insideM, boolA, g1_5, g1_12], rfl⟩
 refine au [11, 11, 11, 11, 11, 25, 1, 11, 11, 11, 11, 25, 2, 3] ?_
 refine TK.rt hret [] ?_
 exact ⟨by simp [insideM, boolA, g1_5], rfl⟩

theorem isNameR_ok {main : Bool} {T : Goroutine → Hp → Prop} (hT : Shut Tryz.prog main T) {gm : Nat → Option Nat} {s : ByteArray} (hl : s.size ≤ 1000) :
  CallK Tryz.prog T gm 64 [.v (.string s)] [] (fun r K' => r = boolA (isNameM s) ∧ K' = []) := by
 refine callK_in 31 hT Tryz.func64 fun Y hret => ?_
 refine au [4, 5, 2, 3, 4, 4, 5, 2, 3, 13] ?_
 refine TK.maskL [0, 3] ?_
 refine TK.loopN (fun n env K => ∃ (i : Nat), n = s.size - i ∧ i ≤ s.size ∧ bytesOk s i = true ∧ env = slotsA 31 [(0, .v (.string s)), (3, intA i)] ∧ K = []) s.size ⟨0, rfl, Nat.zero_le _, rfl, rfl, rfl⟩ fun n env K hI hnext => ?_
 obtain ⟨i, rfl, hi, hok, rfl, rfl⟩ := hI
 refine au [4, 4, 5, 1, 1, 29, 6, 3, 20] ?_
 refine ⟨fun hc => ?_, fun hc => ?_⟩
 ·simp only [decide_eq_true_eq] at hc
  have hil : i < s.data.size := by have : s.data.size = s.size := rfl; omega
  obtain ⟨cb, hcb⟩ : ∃ cb, s.data[i]? = some cb := ⟨_, Array.getElem?_eq_getElem hil⟩
  have hcs : s[((i : Int)).toNat]? = some cb := by rw [Int.toNat_natCast]; exact (str_get s i).trans hcb
  refine au [12, 4, 13, 4, 5, 1, 1] ?_
  refine TK.a rfl (q_indexStr rfl rfl rfl Und.h (by omega) (by exact hcs)) ?_
  refine TK.a rfl (q_convInt rfl rfl Und.h Und.h (wrap_u8 _)) ?_
  refine TK.cl rfl rfl rfl rfl (between_ok hT) ?_
  rintro r1 K2 ⟨rfl, rfl⟩
  refine au [30, 1] ?_
  refine TK.sp 16 (fun g4_7 => ?_) (fun g4_7 => ?_)
  ·refine au [1, 6, 1] ?_
   refine TK.sp 19 (fun g4_10 => ?_) (fun g4_10 => ?_)
   ·refine au [11, 11, 11, 11, 11, 11, 26, 26, 3, 18, 4, 5, 2, 3] ?_
    refine TK.rt hret [] ?_
    exact ⟨by unfold isNameM; rw [bytesOk_bad (n := s.size) hcb hil (byteOk_first g4_7 g4_10)]; rfl, rfl⟩
   refine au [1, 1] ?_
   refine TK.a rfl (q_indexStr rfl rfl rfl Und.h (by omega) (by exact hcs)) ?_
   refine TK.a rfl (q_convInt rfl rfl Und.h Und.h (wrap_u8 _)) ?_
   refine TK.cl rfl rfl rfl rfl (between_ok hT) ?_
   rintro r4 K5 ⟨rfl, rfl⟩
   refine au [30, 25, 26, 3, 20] ?_
   refine ⟨fun hc1 => ?_, fun hc1 => ?_⟩
   ·refine au [4, 5, 2, 3] ?_
    refine TK.rt hret [] ?_
    exact ⟨by unfold isNameM; rw [bytesOk_bad (n := s.size) hcb hil (by exact (byteOk_rest g4_7 g4_10).trans (not_f hc1))]; rfl, rfl⟩
   refine au [12, 14, 5, 1, 23, 2, 3] ?_
   refine TK.maskL [0, 3] ?_
   exact hnext _ _ _ (by omega) ⟨i + 1, rfl, by omega, by rw [bytesOk_succ hcb, hok, byteOk_rest g4_7 g4_10, not_t hc1]; rfl, rfl, rfl⟩
  refine au [11, 11, 11, 11, 11, 11, 11, 11, 11, 11, 25, 3, 19, 12, 14, 5, 1, 23, 2, 3] ?_
  refine TK.maskL [0, 3] ?_
  exact hnext _ _ _ (by omega) ⟨i + 1, rfl, by omega, by rw [bytesOk_succ hcb, hok, byteOk_in g4_7]; rfl, rfl, rfl⟩
 simp only [decide_eq_false_iff_not] at hc
 obtain rfl : i = s.size := by omega
 refine au [16, 4, 5, 1, 29] ?_
 refine TK.cl rfl rfl rfl rfl (between_ok hT) ?_
 rintro r7 K8 ⟨rfl, rfl⟩
 refine au [2, 3] ?_
 refine TK.rt hret [] ?_
 exact ⟨by unfold isNameM; rw [hok]; rfl, rfl⟩

theorem isStepR_ok {main : Bool} {T : Goroutine → Hp → Prop} (hT : Shut Tryz.prog main T) {gm : Nat → Option Nat} {b : Bk} {s e : Nat} {n : Int} (hs : 0 ≤ b.steps ∧ b.steps ≤ 16) :
  CallK Tryz.prog T gm 65 [.agg (bookC b s e), intA n] [] (fun r K' => r = boolA (isStepM b n) ∧ K' = []) := by
 refine callK_in 10 hT Tryz.func65 fun Y hret => ?_
 refine au [4, 5, 21] ?_
 intro j1 hj1
 refine au [2, 3, 4, 5, 1, 7, 9, 24] ?_
 refine TK.cl rfl rfl rfl rfl (between_ok hT) ?_
 rintro r2 K3 ⟨rfl, rfl⟩
 refine au [2, 3] ?_
 refine TK.rt hret [] ?_
 exact ⟨rfl, rfl⟩

theorem checkR_ok {main : Bool} {T : Goroutine → Hp → Prop} (hT : Shut Tryz.prog main T) {gm : Nat → Option Nat} {b : Bk} {s e : Nat} (hse : s ≠ e) (hn : ∀ x ∈ b.seekers, x.name.size ≤ 1000) (hl : b.seen.length ≤ 1000) (hl2 : b.seekers.length ≤ 1000) :
  CallK Tryz.prog T gm 17 [.agg (bookC b s e)] [(s, saysO b), (e, seenO b)] (fun r K' => r = intA (checkM b) ∧ K' = [(s, saysO b), (e, seenO b)]) := by
 refine callK_in 93 hT Tryz.func17 fun Y hret => ?_
 refine au [4, 5, 21] ?_
 intro jb hjb
 refine au [2, 3, 4, 4, 5, 7, 9] ?_
 refine TK.cl rfl rfl rfl rfl (between_ok hT) ?_
 rintro r1 K2 ⟨rfl, rfl⟩
 refine au [30, 1] ?_
 refine TK.sp 11 (fun g1_5 => ?_) (fun g1_5 => ?_)
 ·refine au [11, 11, 11, 11, 26, 1, 11, 11, 11, 11, 26, 3, 18, 4, 5, 2, 3] ?_
  refine TK.rt hret [(s, _), (e, _)] ?_
  exact ⟨by rw [check_num (b := b) (by rw [numbers_eq]; simp only [*, Bool.true_or, Bool.or_true, cond_true])]; rfl, rfl⟩
 refine au [7, 9] ?_
 refine TK.cl rfl rfl rfl rfl (between_ok hT) ?_
 rintro r4 K5 ⟨rfl, rfl⟩
 refine au [30, 25, 1] ?_
 refine TK.sp 17 (fun g1_11 => ?_) (fun g1_11 => ?_)
 ·refine au [11, 11, 11, 11, 26, 3, 18, 4, 5, 2, 3] ?_
  refine TK.rt hret [(s, _), (e, _)] ?_
  exact ⟨by rw [check_num (b := b) (by rw [numbers_eq]; simp only [*, Bool.true_or, Bool.or_true, cond_true])]; rfl, rfl⟩
 refine au [7, 8] ?_
 refine TK.cl rfl rfl rfl rfl (inside_ok hT) ?_
 rintro r7 K8 ⟨rfl, rfl⟩
 refine au [30, 25, 3, 20] ?_
 refine ⟨fun hc0 => ?_, fun hc0 => ?_⟩
 ·refine au [4, 5, 2, 3] ?_
  refine TK.rt hret [(s, _), (e, _)] ?_
  exact ⟨by rw [check_num (b := b) (by rw [numbers_eq]; simp only [*, Bool.true_or, Bool.or_true, cond_true])]; rfl, rfl⟩
 have hnum : numbersM b = 0 := by rw [numbers_eq]; simp only [*]; rfl
 have hs := numbers_range (b := b) (by rw [hnum]; rfl)
 refine au [12, 4, 4, 5, 7, 9, 28] ?_
 refine TK.a rfl (q_cmp rfl rfl rfl rfl) ?_
 refine au [3, 20] ?_
 refine ⟨fun hc1 => ?_, fun hc1 => ?_⟩
 ·have hc1 : b.seekers.length > 5 := by have := of_decide_eq_true hc1; omega
  refine au [4, 5, 2, 3] ?_
  refine TK.rt hret [(s, _), (e, _)] ?_
  exact ⟨by rw [check_heard hnum (c := 2) (if_pos hc1) (by decide)]; rfl, rfl⟩
 have hc1 : ¬ b.seekers.length > 5 := by have := of_decide_eq_false hc1; omega
 refine au [12, 4, 4, 5, 2, 3, 13] ?_
 refine TK.maskL [1, 3] ?_
 refine TK.loopN (fun n env K => ∃ (i : Nat), n = b.seekers.length - i ∧ i ≤ b.seekers.length ∧ heardL b i = 0 ∧ env = slotsA 93 [(1, .ptr jb 0), (3, intA i)] ∧ K = [(jb, .cells (bookC b s e) 27 true), (s, saysO b), (e, seenO b)]) b.seekers.length ⟨0, rfl, Nat.zero_le _, rfl, rfl, rfl⟩ fun n env K hI hnext => ?_
 obtain ⟨i, rfl, hi, h0, rfl, rfl⟩ := hI
 refine au [4, 4, 5, 1, 7, 9, 28, 6, 3, 20] ?_
 refine ⟨fun hc => ?_, fun hc => ?_⟩
 ·simp only [decide_eq_true_eq] at hc
  have hil : i < b.seekers.length := by omega
  obtain ⟨x, hx⟩ : ∃ x, b.seekers[i]? = some x := ⟨_, List.getElem?_eq_getElem hil⟩
  have hxm := List.mem_of_getElem? hx
  refine au [12, 4, 13, 4, 5, 7, 9, 1, 36] ?_
  refine TK.a rfl (q_load rfl rfl TySz.h (by repeat (first | exact List.Mem.head _ | assumption | apply List.Mem.tail)) (says_at' b hx)) ?_
  refine au [22] ?_
  intro jx hjx
  refine au [17, 3, 4, 4, 5, 7, 9] ?_
  refine TK.cl rfl rfl rfl rfl (isNameR_ok hT (hn x hxm)) ?_
  rintro r10 K11 ⟨rfl, rfl⟩
  refine au [30, 3, 20] ?_
  refine ⟨fun hnm => ?_, fun hnm => ?_⟩
  ·refine au [4, 5, 2, 3] ?_
   refine TK.rt hret [(s, _), (e, _)] ?_
   exact ⟨by rw [check_heard hnum (c := 4) (by unfold heardM; rw [if_neg hc1]; exact heardL_of h0 (c := 4) (by unfold heard1; rw [hx]; dsimp only; rw [if_pos hnm]) (by decide) hil) (by decide)]; rfl, rfl⟩
  refine au [12, 4, 4, 5, 2, 3, 13] ?_
  refine TK.maskL [1, 3, 4, 5] ?_
  refine TK.loopN (fun n env K => ∃ (k : Nat), n = i - k ∧ k ≤ i ∧ ((b.seekers.take k).any fun o => o.name.toList == x.name.toList) = false ∧ env = slotsA 93 [(1, .ptr jb 0), (3, intA i), (4, .ptr jx 0), (5, intA k)] ∧ K = [(jx, .cells (saysC x) 30 true), (jb, .cells (bookC b s e) 27 true), (s, saysO b), (e, seenO b)]) i ⟨0, rfl, Nat.zero_le _, rfl, rfl, rfl⟩ fun n env K hI hnext2 => ?_
  obtain ⟨k, rfl, hk, hany, rfl, rfl⟩ := hI
  refine au [4, 4, 5, 1, 1, 6, 3, 20] ?_
  refine ⟨fun hc4 => ?_, fun hc4 => ?_⟩
  ·simp only [decide_eq_true_eq] at hc4
   have hki : k < i := by omega
   obtain ⟨y, hy⟩ : ∃ y, b.seekers[k]? = some y := ⟨_, List.getElem?_eq_getElem (by omega)⟩
   refine au [12, 4, 13, 4] ?_
   refine TK.draw [0, 1, 2, 3, 4, 5, 6, 7, 8] [0, 1, 2, 3, 4, 5, 6, 7, 8] (by kernel_rfl) (by kernel_rfl) ?_
   refine TD.z [1] rfl (q_fieldAddr rfl rfl FldOf.h (by decide)) ?_
   refine TD.y [48] rfl (hq := q_load1 rfl rfl TySz.h (List.Mem.head _) rfl) (h := ?_)
   refine TD.z [5] rfl (q_move rfl rfl) ?_
   refine TD.z [49, 50] rfl (q_indexSl rfl rfl rfl SlEl.h (by omega) (by omega)) ?_
   refine TD.z [51] rfl (q_fieldAddr rfl rfl FldOf.h (by decide)) ?_
   refine TD.y [52] rfl (hq := q_load1 rfl rfl TySz.h (List.Mem.head _) (take_fld (says_at' b hy) (by decide) rfl)) (h := ?_)
   refine TD.z [4] rfl (q_fieldAddr rfl rfl FldOf.h (by decide)) ?_
   refine TD.y [54] rfl (hq := q_load1 rfl rfl TySz.h (List.Mem.head _) rfl) (h := ?_)
   refine TD.z [53, 55] rfl (q_cmpS rfl rfl rfl rfl) ?_
   refine TD.fin ?_
   refine au [20] ?_
   refine ⟨fun hc5 => ?_, fun hc5 => ?_⟩
   ·have hdup : ((b.seekers.take i).any fun o => o.name.toList == x.name.toList) = true := any_of hy hki hc5
    refine au [4, 5, 2, 3] ?_
    refine TK.rt hret [(s, _), (e, _)] ?_
    exact ⟨by rw [check_heard hnum (c := 5) (by unfold heardM; rw [if_neg hc1]; exact heardL_of h0 (c := 5) (by unfold heard1; rw [hx]; dsimp only; rw [if_neg (by rw [hnm]; decide), if_pos hdup]) (by decide) hil) (by decide)]; rfl, rfl⟩
   refine au [12, 14, 5, 1, 23, 2, 3] ?_
   refine TK.maskL [1, 3, 4, 5] ?_
   refine TK.kp [(jx, _), (jb, _), (s, _), (e, _)] ?_
   exact hnext2 _ _ _ (by omega) ⟨k + 1, rfl, by omega, any_take_next hy hany hc5, rfl, rfl⟩
  simp only [decide_eq_false_iff_not] at hc4
  obtain rfl : i = k := by omega
  refine au [16, 4, 4, 5, 8, 7, 9] ?_
  refine TK.cl rfl rfl rfl rfl (isStepR_ok hT (b := b) (s := s) (e := e) (by omega)) ?_
  rintro r13 K14 ⟨rfl, rfl⟩
  refine au [30, 1] ?_
  refine TK.sp 62 (fun g16_6 => ?_) (fun g16_6 => ?_)
  ·refine au [11, 11, 11, 11, 11, 26, 3, 18, 4, 5, 2, 3] ?_
   refine TK.rt hret [(s, _), (e, _)] ?_
   exact ⟨by rw [check_heard hnum (c := 6) (by unfold heardM; rw [if_neg hc1]; exact heardL_of h0 (c := 6) (by unfold heard1; rw [hx]; dsimp only; rw [if_neg (by rw [hnm]; decide), if_neg (by rw [hany]; decide), if_pos (by rw [show (!isStepM b x.frm) = true from g16_6]; rfl)]) (by decide) hil) (by decide)]; rfl, rfl⟩
  refine au [8, 7, 9] ?_
  refine TK.cl rfl rfl rfl rfl (isStepR_ok hT (b := b) (s := s) (e := e) (by omega)) ?_
  rintro r16 K17 ⟨rfl, rfl⟩
  refine au [30, 25, 3, 20] ?_
  refine ⟨fun hc6 => ?_, fun hc6 => ?_⟩
  ·refine au [4, 5, 2, 3] ?_
   refine TK.rt hret [(s, _), (e, _)] ?_
   exact ⟨by rw [check_heard hnum (c := 6) (by unfold heardM; rw [if_neg hc1]; exact heardL_of h0 (c := 6) (by unfold heard1; rw [hx]; dsimp only; rw [if_neg (by rw [hnm]; decide), if_neg (by rw [hany]; decide), if_pos (by rw [show (!isStepM b x.til) = true from hc6, Bool.or_true])]) (by decide) hil) (by decide)]; rfl, rfl⟩
  have hst2 : (!isStepM b x.frm || !isStepM b x.til) = false := by rw [hc6, g16_6]; rfl
  refine au [12, 4, 5, 7, 9] ?_
  refine TK.cl rfl rfl rfl rfl (between_ok hT) ?_
  rintro r19 K20 ⟨rfl, rfl⟩
  refine au [30, 3, 20] ?_
  refine ⟨fun hc7 => ?_, fun hc7 => ?_⟩
  ·refine au [4, 5, 2, 3] ?_
   refine TK.rt hret [(s, _), (e, _)] ?_
   exact ⟨by rw [check_heard hnum (c := 1) (by unfold heardM; rw [if_neg hc1]; exact heardL_of h0 (c := 1) (by unfold heard1; rw [hx]; dsimp only; rw [if_neg (by rw [hnm]; decide), if_neg (by rw [hany]; decide), if_neg (by rw [hst2]; decide), says_bad, if_pos hc7]) (by decide) hil) (by decide)]; rfl, rfl⟩
  refine au [12, 14, 5, 1, 23, 2, 3] ?_
  refine TK.maskL [1, 3] ?_
  refine TK.kp [(jb, _), (s, _), (e, _)] ?_
  exact hnext _ _ _ (by omega) ⟨i + 1, rfl, by omega, by unfold heardL; rw [if_pos h0]; unfold heard1; rw [hx]; dsimp only; rw [if_neg (by rw [hnm]; decide), if_neg (by rw [hany]; decide), if_neg (by rw [hst2]; decide), says_bad, if_neg (by rw [hc7]; decide)], rfl, rfl⟩
 simp only [decide_eq_false_iff_not] at hc
 obtain rfl : i = b.seekers.length := by omega
 have hheard : heardM b = 0 := by unfold heardM; rw [if_neg hc1, h0]
 refine au [16, 4, 4, 5, 7, 9, 28, 6, 3, 20] ?_
 refine ⟨fun hc8 => ?_, fun hc8 => ?_⟩
 ·have hc8 : b.seen.length > 4 := by have := of_decide_eq_true hc8; omega
  refine au [4, 5, 2, 3] ?_
  refine TK.rt hret [(s, _), (e, _)] ?_
  exact ⟨by rw [check_looked hnum hheard]; unfold lookedM; rw [if_pos hc8]; rfl, rfl⟩
 have hc8 : ¬ b.seen.length > 4 := by have := of_decide_eq_false hc8; omega
 refine au [12, 4, 4, 5, 2, 3, 13] ?_
 refine TK.maskL [1, 6] ?_
 refine TK.loopN (fun n env K => ∃ (k : Nat), n = b.seen.length - k ∧ k ≤ b.seen.length ∧ ((b.seen.take k).any fun x => !isStepM b x.step) = false ∧ env = slotsA 93 [(1, .ptr jb 0), (6, intA k)] ∧ K = [(jb, .cells (bookC b s e) 27 true), (s, saysO b), (e, seenO b)]) b.seen.length ⟨0, rfl, Nat.zero_le _, rfl, rfl, rfl⟩ fun n env K hI hnext3 => ?_
 obtain ⟨k, rfl, hk, hany2, rfl, rfl⟩ := hI
 refine au [4, 4, 5, 1, 7, 9, 28, 6, 3, 20] ?_
 refine ⟨fun hc9 => ?_, fun hc9 => ?_⟩
 ·simp only [decide_eq_true_eq] at hc9
  obtain ⟨z, hz⟩ : ∃ z, b.seen[k]? = some z := ⟨_, List.getElem?_eq_getElem (by omega)⟩
  have hzt := seen_at b k (by omega)
  rw [(List.getElem?_eq_some_iff.1 hz).2] at hzt
  refine au [12, 4, 13, 4] ?_
  refine TK.draw [0, 1, 2, 3, 4, 5, 6, 7, 8] [0, 1, 2, 3, 4, 5, 6, 7, 8] (by kernel_rfl) (by kernel_rfl) ?_
  refine TD.y [1] rfl (hq := q_load rfl rfl TySz.h (List.Mem.head _) rfl) (h := ?_)
  refine TD.z [1] rfl (q_fieldAddr rfl rfl FldOf.h (by decide)) ?_
  refine TD.y [85] rfl (hq := q_load1 rfl rfl TySz.h (List.Mem.head _) rfl) (h := ?_)
  refine TD.z [6] rfl (q_move rfl rfl) ?_
  refine TD.z [86, 87] rfl (q_indexSl rfl rfl rfl SlEl.h (by omega) (by omega)) ?_
  refine TD.z [88] rfl (q_fieldAddr rfl rfl FldOf.h (by decide)) ?_
  refine TD.y [89] rfl (hq := q_load1 rfl rfl TySz.h (List.Mem.head _) (take_fld hzt (by decide) rfl)) (h := ?_)
  refine TD.cl (pend' := [⟨5, [88], []⟩, ⟨4, [86, 87], []⟩, ⟨3, [6], []⟩, ⟨2, [85], [(_, _)]⟩, ⟨1, [1], []⟩]) [84, 90] rfl rfl rfl rfl rfl (isStepR_ok hT (b := b) (s := s) (e := e) (by omega)) (fun r22 K23 h24 => ⟨?_, ?_⟩)
  ·rcases h24 with ⟨rfl, rfl⟩
   all_goals simp
  obtain ⟨rfl, rfl⟩ := h24
  try simp only [List.cons_append, List.nil_append]
  refine TD.norm (by simp only [List.set]; rfl) ?_
  refine TD.z [91] rfl (q_not rfl rfl) ?_
  refine TD.fin ?_
  refine au [20] ?_
  refine ⟨fun hc10 => ?_, fun hc10 => ?_⟩
  ·refine au [4, 5, 2, 3] ?_
   refine TK.rt hret [(s, _), (e, _)] ?_
   exact ⟨by rw [check_looked hnum hheard]; unfold lookedM; rw [if_neg hc8, if_pos (List.any_eq_true.2 ⟨z, List.mem_of_getElem? hz, hc10⟩)]; rfl, rfl⟩
  refine au [12, 14, 5, 1, 23, 2, 3] ?_
  refine TK.maskL [1, 6] ?_
  refine TK.kp [(jb, _), (s, _), (e, _)] ?_
  exact hnext3 _ _ _ (by omega) ⟨k + 1, rfl, by omega, any_take_next hz hany2 hc10, rfl, rfl⟩
 simp only [decide_eq_false_iff_not] at hc9
 obtain rfl : k = b.seen.length := by omega
 refine au [16, 4, 5, 2, 3] ?_
 refine TK.rt hret [(s, _), (e, _)] ?_
 exact ⟨by rw [check_looked hnum hheard]; unfold lookedM; rw [if_neg hc8, if_neg (by rw [List.take_length] at hany2; rw [hany2]; decide)]; rfl, rfl⟩
end Go.Vel
end
section
set_option linter.all false
set_option maxRecDepth 20000
set_option maxHeartbeats 60000000
namespace Go.Vel
open Go Go.Conc Go.Proofs

theorem right_says {b : Bk} {S : List Int} {i : Nat} {x : Says} (hx : b.seekers[i]? = some x) : rightM b S i = saysM x.says (inM b S x.frm (wideM b x)) := by unfold rightM; rw [hx]
theorem prev_at {ob : AObj} {off : Nat} {xs : List Int} (hI : IntsAt ob off xs) {i : Nat} (hi : i < xs.length) (h0 : 0 < i) : takeO ob (off + ((i : Int) - 1).toNat * 1) 1 = some [intA xs[i - 1]] := by
 have h := hI (i - 1) (by omega)
 rw [show ((i - 1 : Nat) : Int).toNat = ((i : Int) - 1).toNat by omega] at h
 exact h
theorem bar_six {b : Bk} {xs : List Int} {i : Nat} {x : Int} (hx : xs[i]? = some x) (h : (!isStepM b x) = true) : barH b xs i = 6 := by unfold barH; rw [hx]; dsimp only; rw [if_pos h]
theorem bar_seven {b : Bk} {xs : List Int} {i : Nat} {x : Int} (hx : xs[i]? = some x) (h : (!isStepM b x) = false) (h1 : decide ((i : Int) > 0) = true) (h2 : decide (x ≤ (xs[i - 1]?).getD 0) = true) : barH b xs i = 7 := by
 unfold barH; rw [hx]; dsimp only; rw [if_neg (by rw [h]; decide), if_pos (by rw [h1, h2]; rfl)]
theorem bar_zero {b : Bk} {xs : List Int} {i : Nat} {x : Int} (hx : xs[i]? = some x) (h : (!isStepM b x) = false) (h1 : decide ((i : Int) > 0) = true) (h2 : decide (x ≤ (xs[i - 1]?).getD 0) = false) : barH b xs i = 0 := by
 unfold barH; rw [hx]; dsimp only; rw [if_neg (by rw [h]; decide), if_neg (by rw [h1, h2]; decide)]
theorem bar_first {b : Bk} {xs : List Int} {i : Nat} {x : Int} (hx : xs[i]? = some x) (h : (!isStepM b x) = false) (h1 : decide ((i : Int) > 0) = false) : barH b xs i = 0 := by
 unfold barH; rw [hx]; dsimp only; rw [if_neg (by rw [h]; decide), if_neg (by rw [h1]; simp)]
theorem bars_next {b : Bk} {xs : List Int} {i : Nat} (h0 : firstNZ (barH b xs) i = 0) (h : barH b xs i = 0) : firstNZ (barH b xs) (i + 1) = 0 := by unfold firstNZ; rw [if_pos h0, h]
theorem glass_of {b : Bk} {i : Nat} {x : Says} (hx : b.seekers[i]? = some x) : glassM b i = x.glass := by unfold glassM; rw [hx]
theorem take_next {xs ys : List Int} {i : Nat} (h : i < xs.length) (h2 : i < ys.length) (ht : xs.take i = ys.take i) (he : xs[i] = ys[i]) : xs.take (i + 1) = ys.take (i + 1) := by
 rw [List.take_add_one, List.take_add_one, List.getElem?_eq_getElem h, List.getElem?_eq_getElem h2, ht, he]
theorem not_t' {a : Bool} (h : (!a) = true) : (!a) = true := h
theorem not_f' {a : Bool} (h : (!a) = false) : (!a) = false := h
def stateSim (b : Bk) (xs : List Int) : Bool × Int := if checkM b ≠ 0 then (false, checkM b) else if handedM b xs ≠ 0 then (false, handedM b xs) else (canM b xs, 0)
theorem ns_of {b : Bk} (h : b.seekers.length ≤ 1000) : b.seekers.length ≤ 1000 := h


theorem wideR_ok {main : Bool} {T : Goroutine → Hp → Prop} (hT : Shut Tryz.prog main T) {gm : Nat → Option Nat} {b : Bk} {s e : Nat} {lo hi : Int} (hs : 4 ≤ b.steps ∧ b.steps ≤ 16) (h0 : 0 ≤ lo ∧ lo < b.steps) (h1 : 0 ≤ hi ∧ hi < b.steps) :
  CallK Tryz.prog T gm 92 [.agg (bookC b s e), intA lo, intA hi] [] (fun r K' => r = intA ((hi - lo + b.steps) % b.steps + 1) ∧ K' = []) := by
 refine callK_in 17 hT Tryz.func92 fun Y hret => ?_
 refine au [4, 5, 21] ?_
 intro j1 hj1
 refine au [2, 3, 4, 5, 1, 1, 24, 7, 9, 23, 7, 9] ?_
 refine TK.a rfl (q_rem rfl rfl rfl (by omega) (by omega)) ?_
 refine TK.a rfl (q_add rfl rfl rfl (by have := Int.emod_lt_of_pos (hi - lo + b.steps) (show 0 < b.steps by omega); have := Int.emod_nonneg (hi - lo + b.steps) (show b.steps ≠ 0 by omega); omega)) ?_
 refine au [2, 3] ?_
 refine TK.rt hret [] ?_
 exact ⟨rfl, rfl⟩

theorem inR_ok {main : Bool} {T : Goroutine → Hp → Prop} (hT : Shut Tryz.prog main T) {gm : Nat → Option Nat} {b : Bk} {s e j off : Nat} {ob : AObj} {xs : List Int} {lo w : Int} (hs : 4 ≤ b.steps ∧ b.steps ≤ 16) (hB : ∀ x ∈ xs, 0 ≤ x ∧ x < b.steps) (h0 : 0 ≤ lo ∧ lo < b.steps) (hI : IntsAt ob off xs) (hlx : xs.length ≤ 1000)  :
  CallK Tryz.prog T gm 51 [.agg (bookC b s e), .sl j off xs.length, intA lo, intA w] [(j, ob)] (fun r K' => r = intA (inM b xs lo w) ∧ K' = [(j, ob)]) := by
 refine callK_in 34 hT Tryz.func51 fun Y hret => ?_
 refine au [4, 5, 21] ?_
 intro jb hjb
 refine au [2, 3, 4, 5, 2, 3, 4, 4, 5, 2, 3, 13] ?_
 refine TK.maskL [1, 2, 3, 4, 9, 10] ?_
 refine TK.loopN (fun n env K => ∃ (i : Nat), n = xs.length - i ∧ i ≤ xs.length ∧ env = slotsA 34 [(1, .sl j off xs.length), (2, intA lo), (3, intA w), (4, .ptr jb 0), (9, intA (inM b (xs.take i) lo w)), (10, intA i)] ∧ K = [(jb, .cells (bookC b s e) 27 true), (j, ob)]) xs.length ⟨0, rfl, Nat.zero_le _, rfl, rfl⟩ fun n env K hI' hnext => ?_
 obtain ⟨i, rfl, hi, rfl, rfl⟩ := hI'
 refine au [4, 4, 5, 1, 1, 28, 6, 3, 20] ?_
 refine ⟨fun hc => ?_, fun hc => ?_⟩
 ·simp only [decide_eq_true_eq] at hc
  have hil : i < xs.length := by omega
  have hx := hB xs[i] (List.getElem_mem _)
  have hn := inM_le b (xs.take i) lo w
  have hn2 : (xs.take i).length ≤ 1000 := by simp; omega
  refine au [12, 4, 13, 4] ?_
  refine TK.draw [0, 1, 2, 3, 4, 5, 6, 7, 8, 9, 10, 11, 12, 13] [0, 1, 2, 3, 4, 5, 6, 7, 8, 9, 10, 11, 12, 13] (by kernel_rfl) (by kernel_rfl) ?_
  refine TD.z [1] rfl (q_move rfl rfl) ?_
  refine TD.z [10] rfl (q_move rfl rfl) ?_
  refine TD.z [17, 18] rfl (q_indexSl rfl rfl rfl SlEl.h (by omega) (by omega)) ?_
  refine TD.y [19] rfl (hq := q_load1 rfl rfl TySz.h (List.Mem.head _) (hI i hil)) (h := ?_)
  refine TD.z [2] rfl (q_move rfl rfl) ?_
  refine TD.z [20, 21] rfl (q_sub rfl rfl rfl (by omega)) ?_
  refine TD.z [4] rfl (q_fieldAddr rfl rfl FldOf.h (by decide)) ?_
  refine TD.y [23] rfl (hq := q_load1 rfl rfl TySz.h (List.Mem.head _) rfl) (h := ?_)
  refine TD.z [22, 24] rfl (q_add rfl rfl rfl (by omega)) ?_
  refine TD.z [4] rfl (q_fieldAddr rfl rfl FldOf.h (by decide)) ?_
  refine TD.y [26] rfl (hq := q_load1 rfl rfl TySz.h (List.Mem.head _) rfl) (h := ?_)
  refine TD.z [25, 27] rfl (q_rem rfl rfl rfl (by omega) (by omega)) ?_
  refine TD.z [3] rfl (q_move rfl rfl) ?_
  refine TD.z [28, 29] rfl (q_cmp rfl rfl rfl rfl) ?_
  refine TD.fin ?_
  refine au [20] ?_
  refine ⟨fun hc1 => ?_, fun hc1 => ?_⟩
  ·simp only [decide_eq_true_eq] at hc1
   refine au [5, 1, 23, 2, 3, 14, 5, 1, 23, 2, 3] ?_
   refine TK.maskL [1, 2, 3, 4, 9, 10] ?_
   exact hnext _ _ _ (by omega) ⟨i + 1, rfl, by omega, by rw [inM_succ hil, if_pos hc1]; rfl, rfl⟩
  simp only [decide_eq_false_iff_not] at hc1
  refine au [12, 14, 5, 1, 23, 2, 3] ?_
  refine TK.maskL [1, 2, 3, 4, 9, 10] ?_
  exact hnext _ _ _ (by omega) ⟨i + 1, rfl, by omega, by rw [inM_succ hil, if_neg hc1, Int.add_zero]; rfl, rfl⟩
 simp only [decide_eq_false_iff_not] at hc
 obtain rfl : i = xs.length := by omega
 refine au [16, 4, 5, 1, 2, 3] ?_
 refine TK.rt hret [(j, _)] ?_
 exact ⟨by rw [List.take_length], rfl⟩

theorem rightR_ok {main : Bool} {T : Goroutine → Hp → Prop} (hT : Shut Tryz.prog main T) {gm : Nat → Option Nat} {b : Bk} {s e j off : Nat} {ob : AObj} {xs : List Int} {i : Nat} (hb : BkOk b) (hS : SmOk b xs) (hi : i < b.seekers.length) (hI : IntsAt ob off xs) (hlx : xs.length ≤ 1000)  :
  CallK Tryz.prog T gm 53 [.agg (bookC b s e), .sl j off xs.length, intA i] [(s, saysO b), (j, ob)] (fun r K' => r = boolA (rightM b xs i) ∧ K' = [(s, saysO b), (j, ob)]) := by
 refine callK_in 37 hT Tryz.func53 fun Y hret => ?_
 refine au [] ?_
 obtain ⟨x, hx⟩ : ∃ x, b.seekers[i]? = some x := ⟨_, List.getElem?_eq_getElem hi⟩
 have hf := hb.frm x (List.mem_of_getElem? hx)
 refine au [4, 5, 21] ?_
 intro jb hjb
 refine au [2, 3, 4, 5, 7, 9, 1, 36] ?_
 refine TK.a rfl (q_load rfl rfl TySz.h (by repeat (first | exact List.Mem.head _ | assumption | apply List.Mem.tail)) (says_at' b hx)) ?_
 refine au [22] ?_
 intro jx hjx
 refine au [17, 3, 4] ?_
 refine TK.draw [0, 1, 2, 3, 4, 5, 6, 7, 8, 9, 10, 11] [0, 1, 2, 3, 4, 5, 6, 7, 8, 9, 10, 11] (by kernel_rfl) (by kernel_rfl) ?_
 refine TD.y [3] rfl (hq := q_load rfl rfl TySz.h (List.Mem.head _) rfl) (h := ?_)
 refine TD.z [1] rfl (q_move rfl rfl) ?_
 refine TD.z [7] rfl (q_fieldAddr rfl rfl FldOf.h (by decide)) ?_
 refine TD.y [16] rfl (hq := q_load1 rfl rfl TySz.h (List.Mem.head _) rfl) (h := ?_)
 refine TD.y [3] rfl (hq := q_load rfl rfl TySz.h (List.Mem.head _) rfl) (h := ?_)
 refine TD.z [7] rfl (q_fieldAddr rfl rfl FldOf.h (by decide)) ?_
 refine TD.y [19] rfl (hq := q_load1 rfl rfl TySz.h (List.Mem.head _) rfl) (h := ?_)
 refine TD.z [7] rfl (q_fieldAddr rfl rfl FldOf.h (by decide)) ?_
 refine TD.y [21] rfl (hq := q_load1 rfl rfl TySz.h (List.Mem.head _) rfl) (h := ?_)
 refine TD.cl (pend' := [⟨7, [7], []⟩, ⟨5, [7], []⟩, ⟨3, [16], [(_, _)]⟩, ⟨2, [7], []⟩, ⟨1, [1], []⟩, ⟨0, [3], [(_, _)]⟩]) [18, 20, 22] rfl rfl rfl rfl rfl (wideR_ok hT (b := b) (s := s) (e := e) (lo := x.frm) (hi := x.til) hb.steps ⟨by omega, by omega⟩ ⟨by omega, by omega⟩) (fun r1 K2 h3 => ⟨?_, ?_⟩)
 ·rcases h3 with ⟨rfl, rfl⟩
  all_goals simp
 obtain ⟨rfl, rfl⟩ := h3
 try simp only [List.cons_append, List.nil_append]
 refine TD.norm (by simp only [List.set]; rfl) ?_
 refine TD.cl (pend' := [⟨7, [7], []⟩, ⟨5, [7], []⟩, ⟨2, [7], []⟩]) [14, 15, 17, 23] rfl rfl rfl rfl rfl (inR_ok hT (b := b) (s := s) (e := e) (xs := xs) (lo := x.frm) (w := wideM b x) hb.steps hS.mem ⟨by omega, by omega⟩ hI hlx) (fun r4 K5 h6 => ⟨?_, ?_⟩)
 ·rcases h6 with ⟨rfl, rfl⟩
  all_goals simp
 obtain ⟨rfl, rfl⟩ := h6
 try simp only [List.cons_append, List.nil_append]
 refine TD.norm (by simp only [List.set]; rfl) ?_
 refine TD.as (pend' := []) [24] rfl rfl (q_assign rfl rfl) ?_
 refine TD.fin ?_
 refine au [4, 4, 5, 7, 9, 6, 3, 20] ?_
 refine ⟨fun hc0 => ?_, fun hc0 => ?_⟩
 ·refine au [4, 5, 1, 6, 2, 3] ?_
  refine TK.rt hret [(s, _), (j, _)] ?_
  exact ⟨by rw [right_says hx, show x.says = 1 by simpa using hc0]; rfl, rfl⟩
 refine au [12, 4, 4, 5, 7, 9, 6, 3, 20] ?_
 refine ⟨fun hc1 => ?_, fun hc1 => ?_⟩
 ·refine au [4, 5, 1, 6, 2, 3] ?_
  refine TK.rt hret [(s, _), (j, _)] ?_
  exact ⟨by rw [right_says hx, show x.says = 2 by simpa using hc1]; rfl, rfl⟩
 refine au [12, 4, 5, 1, 6, 2, 3] ?_
 refine TK.rt hret [(s, _), (j, _)] ?_
 have h0 : x.says = 0 := by have h1 : x.says ≠ 1 := (by simpa using hc0); have h2 : x.says ≠ 2 := (by simpa using hc1); omega
 exact ⟨by rw [right_says hx, h0]; rfl, rfl⟩

theorem climbs_ok {main : Bool} {T : Goroutine → Hp → Prop} (hT : Shut Tryz.prog main T) {gm : Nat → Option Nat} {b : Bk} {s e j off : Nat} {ob : AObj} {xs : List Int} (hs : 0 ≤ b.steps ∧ b.steps ≤ 16) (hI : IntsAt ob off xs) (hlx : xs.length ≤ 1000)  :
  CallK Tryz.prog T gm 37 [.sl j off xs.length, intA b.steps] [(j, ob)] (fun r K' => r = intA (firstNZ (barH b xs) xs.length) ∧ K' = [(j, ob)]) := by
 refine callK_in 34 hT Tryz.func37 fun Y hret => ?_
 refine au [4, 5, 2, 3, 4, 4, 5, 2, 3, 13] ?_
 refine TK.maskL [0, 1, 5] ?_
 refine TK.loopN (fun n env K => ∃ (i : Nat), n = xs.length - i ∧ i ≤ xs.length ∧ firstNZ (barH b xs) i = 0 ∧ env = slotsA 34 [(0, .sl j off xs.length), (1, intA b.steps), (5, intA i)] ∧ K = [(j, ob)]) xs.length ⟨0, rfl, Nat.zero_le _, rfl, rfl, rfl⟩ fun n env K hI' hnext => ?_
 obtain ⟨i, rfl, hi, h0, rfl, rfl⟩ := hI'
 refine au [4, 4, 5, 1, 1, 28, 6, 3, 20] ?_
 refine ⟨fun hc => ?_, fun hc => ?_⟩
 ·simp only [decide_eq_true_eq] at hc
  have hil : i < xs.length := by omega
  have hx := List.getElem?_eq_getElem hil
  refine au [12, 4, 13, 4, 4, 5, 1, 1, 36] ?_
  refine TK.a rfl (q_load1 rfl rfl TySz.h (by repeat (first | exact List.Mem.head _ | assumption | apply List.Mem.tail)) (hI i hil)) ?_
  refine au [1, 24] ?_
  refine TK.cl rfl rfl rfl rfl (between_ok hT) ?_
  rintro r1 K2 ⟨rfl, rfl⟩
  refine au [30, 3, 20] ?_
  refine ⟨fun hc1 => ?_, fun hc1 => ?_⟩
  ·refine au [4, 5, 2, 3] ?_
   refine TK.rt hret [(j, _)] ?_
   exact ⟨by rw [firstNZ_of h0 (bar_six hx hc1) (by decide) hil]; rfl, rfl⟩
  refine au [12, 4] ?_
  refine TK.draw [0, 1, 2, 3, 4, 5, 6, 7, 8, 9, 10, 11, 12, 13] [0, 1, 2, 3, 4, 5, 6, 7, 8, 9, 10, 11, 12, 13] (by kernel_rfl) (by kernel_rfl) ?_
  refine TD.z [5] rfl (q_move rfl rfl) ?_
  refine TD.z [20] rfl (q_cmp rfl rfl rfl rfl) ?_
  refine TD.z [21] rfl (q_move rfl rfl) ?_
  refine TD.sp 22 (fun g6_3 => ?_) (fun g6_3 => ?_)
  ·have hgi : 0 < i := by have := of_decide_eq_true g6_3; omega
   refine TD.z [0, 22] rfl (q_move rfl rfl) ?_
   refine TD.z [5, 22] rfl (q_move rfl rfl) ?_
   refine TD.z [22, 23, 24] rfl (q_indexSl rfl rfl rfl SlEl.h (by omega) (by omega)) ?_
   refine TD.y [22, 25] rfl (hq := q_load1 rfl rfl TySz.h (List.Mem.head _) (hI i hil)) (h := ?_)
   refine TD.z [0, 22] rfl (q_move rfl rfl) ?_
   refine TD.z [5, 22] rfl (q_move rfl rfl) ?_
   refine TD.z [22, 28] rfl (q_sub rfl rfl rfl (by omega)) ?_
   refine TD.z [22, 27, 29] rfl (q_indexSl rfl rfl rfl SlEl.h (by omega) (by omega)) ?_
   refine TD.y [22, 30] rfl (hq := q_load1 rfl rfl TySz.h (List.Mem.head _) (prev_at hI hil hgi)) (h := ?_)
   refine TD.z [22, 26, 31] rfl (q_cmp rfl rfl rfl rfl) ?_
   refine TD.z [22, 32] rfl (q_pickT rfl rfl rfl) ?_
   refine TD.fin ?_
   refine au [20] ?_
   refine ⟨fun hc2 => ?_, fun hc2 => ?_⟩
   ·refine au [4, 5, 2, 3] ?_
    refine TK.rt hret [(j, _)] ?_
    exact ⟨by rw [firstNZ_of h0 (bar_seven hx hc1 g6_3 (by rw [stepPrev (show i - 1 < xs.length by omega)]; exact hc2)) (by decide) hil]; rfl, rfl⟩
   refine au [12, 14, 5, 1, 23, 2, 3] ?_
   refine TK.maskL [0, 1, 5] ?_
   exact hnext _ _ _ (by omega) ⟨i + 1, rfl, by omega, bars_next h0 (bar_zero hx hc1 g6_3 (by rw [stepPrev (show i - 1 < xs.length by omega)]; exact hc2)), rfl, rfl⟩
  refine TD.u [0, 22] rfl ?_
  refine TD.u [5, 22] rfl ?_
  refine TD.u [22, 23, 24] rfl ?_
  refine TD.u [22, 25] rfl ?_
  refine TD.u [0, 22] rfl ?_
  refine TD.u [5, 22] rfl ?_
  refine TD.u [22, 28] rfl ?_
  refine TD.u [22, 27, 29] rfl ?_
  refine TD.u [22, 30] rfl ?_
  refine TD.u [22, 26, 31] rfl ?_
  refine TD.z [22, 32] rfl (q_pickF rfl rfl rfl) ?_
  refine TD.fin ?_
  refine au [19, 12, 14, 5, 1, 23, 2, 3] ?_
  refine TK.maskL [0, 1, 5] ?_
  exact hnext _ _ _ (by omega) ⟨i + 1, rfl, by omega, bars_next h0 (bar_first hx hc1 g6_3), rfl, rfl⟩
 simp only [decide_eq_false_iff_not] at hc
 obtain rfl : i = xs.length := by omega
 refine au [16, 4, 5, 2, 3] ?_
 refine TK.rt hret [(j, _)] ?_
 exact ⟨by rw [h0]; rfl, rfl⟩

theorem holds_ok {main : Bool} {T : Goroutine → Hp → Prop} (hT : Shut Tryz.prog main T) {gm : Nat → Option Nat} {j off : Nat} {ob : AObj} {xs : List Int} {v : Int} (hI : IntsAt ob off xs) (hlx : xs.length ≤ 1000)  :
  CallK Tryz.prog T gm 47 [.sl j off xs.length, intA v] [(j, ob)] (fun r K' => r = boolA (decide (v ∈ xs)) ∧ K' = [(j, ob)]) := by
 refine callK_in 18 hT Tryz.func47 fun Y hret => ?_
 refine au [4, 5, 2, 3, 4, 4, 5, 2, 3, 13] ?_
 refine TK.maskL [0, 1, 5] ?_
 refine TK.loopN (fun n env K => ∃ (i : Nat), n = xs.length - i ∧ i ≤ xs.length ∧ v ∉ xs.take i ∧ env = slotsA 18 [(0, .sl j off xs.length), (1, intA v), (5, intA i)] ∧ K = [(j, ob)]) xs.length ⟨0, rfl, Nat.zero_le _, by simp, rfl, rfl⟩ fun n env K hI' hnext => ?_
 obtain ⟨i, rfl, hi, hn, rfl, rfl⟩ := hI'
 refine au [4, 4, 5, 1, 1, 28, 6, 3, 20] ?_
 refine ⟨fun hc => ?_, fun hc => ?_⟩
 ·simp only [decide_eq_true_eq] at hc
  have hil : i < xs.length := by omega
  refine au [12, 4, 13, 4, 5, 1, 1, 36] ?_
  refine TK.a rfl (q_load1 rfl rfl TySz.h (by repeat (first | exact List.Mem.head _ | assumption | apply List.Mem.tail)) (hI i hil)) ?_
  refine au [1, 6, 3, 20] ?_
  refine ⟨fun hc1 => ?_, fun hc1 => ?_⟩
  ·refine au [4, 5, 2, 3] ?_
   refine TK.rt hret [(j, _)] ?_
   exact ⟨by rw [decide_eq_true (show v ∈ xs by have h : xs[i] = v := (by simpa using hc1); rw [← h]; exact List.getElem_mem hil)]; rfl, rfl⟩
  refine au [12, 14, 5, 1, 23, 2, 3] ?_
  refine TK.maskL [0, 1, 5] ?_
  exact hnext _ _ _ (by omega) ⟨i + 1, rfl, by omega, mem_take_succ hil hn (fun h => by rw [h] at hc1; simp at hc1), rfl, rfl⟩
 simp only [decide_eq_false_iff_not] at hc
 obtain rfl : i = xs.length := by omega
 refine au [16, 4, 5, 2, 3] ?_
 refine TK.rt hret [(j, _)] ?_
 exact ⟨by rw [decide_eq_false (by rwa [List.take_length] at hn)]; rfl, rfl⟩

theorem wrongR_ok {main : Bool} {T : Goroutine → Hp → Prop} (hT : Shut Tryz.prog main T) {gm : Nat → Option Nat} {b : Bk} {s e j off : Nat} {ob : AObj} {xs : List Int} (hb : BkOk b) (hS : SmOk b xs) (hI : IntsAt ob off xs) (hlx : xs.length ≤ 1000)  :
  CallK Tryz.prog T gm 50 [.agg (bookC b s e), .sl j off xs.length] [(s, saysO b), (j, ob)] (fun r K' => r = intA (wrongL b xs b.seekers.length) ∧ K' = [(s, saysO b), (j, ob)]) := by
 refine callK_in 22 hT Tryz.func50 fun Y hret => ?_
 refine au [4, 5, 21] ?_
 intro jb hjb
 refine au [2, 3, 4, 5, 2, 3, 4, 4, 5, 2, 3, 13] ?_
 refine TK.maskL [1, 2, 5, 6] ?_
 refine TK.loopN (fun n env K => ∃ (i : Nat), n = b.seekers.length - i ∧ i ≤ b.seekers.length ∧ env = slotsA 22 [(1, .sl j off xs.length), (2, .ptr jb 0), (5, intA (wrongL b xs i)), (6, intA i)] ∧ K = [(jb, .cells (bookC b s e) 27 true), (s, saysO b), (j, ob)]) b.seekers.length ⟨0, rfl, Nat.zero_le _, rfl, rfl⟩ fun n env K hI' hnext => ?_
 obtain ⟨i, rfl, hi, rfl, rfl⟩ := hI'
 refine au [4, 4, 5, 1, 7, 9, 28, 6, 3, 20] ?_
 refine ⟨fun hc => ?_, fun hc => ?_⟩
 ·simp only [decide_eq_true_eq] at hc
  have hn5 := hb.ns
  have hil : i < b.seekers.length := by omega
  have hwl := wrongL_le b xs i
  refine au [12, 4, 13, 4, 5, 8, 1, 1] ?_
  refine TK.cl rfl rfl rfl rfl (rightR_ok hT (s := s) (e := e) hb hS hil hI hlx) ?_
  rintro r1 K2 ⟨rfl, rfl⟩
  refine au [30, 3, 20] ?_
  refine ⟨fun hc1 => ?_, fun hc1 => ?_⟩
  ·refine au [5, 1, 23, 2, 3, 14, 5, 1, 23, 2, 3] ?_
   refine TK.maskL [1, 2, 5, 6] ?_
   refine TK.kp [(jb, _), (s, _), (j, _)] ?_
   exact hnext _ _ _ (by omega) ⟨i + 1, rfl, by omega, by rw [wrongL_succ, if_neg (by rw [not_f hc1]; decide)]; rfl, rfl⟩
  refine au [12, 14, 5, 1, 23, 2, 3] ?_
  refine TK.maskL [1, 2, 5, 6] ?_
  refine TK.kp [(jb, _), (s, _), (j, _)] ?_
  exact hnext _ _ _ (by omega) ⟨i + 1, rfl, by omega, by rw [wrongL_succ, if_pos (not_t hc1)]; rfl, rfl⟩
 simp only [decide_eq_false_iff_not] at hc
 obtain rfl : i = b.seekers.length := by omega
 refine au [16, 4, 5, 1, 2, 3] ?_
 refine TK.rt hret [(s, _), (j, _)] ?_
 exact ⟨rfl, rfl⟩

theorem sameInts_ok {main : Bool} {T : Goroutine → Hp → Prop} (hT : Shut Tryz.prog main T) {gm : Nat → Option Nat} {j off j2 off2 : Nat} {ob ob2 : AObj} {xs ys : List Int} (hjj : j ≠ j2) (hI : IntsAt ob off xs) (hI2 : IntsAt ob2 off2 ys) (hlx : xs.length ≤ 100000) :
  CallK Tryz.prog T gm 55 [.sl j off xs.length, .sl j2 off2 ys.length] [(j, ob), (j2, ob2)] (fun r K' => r = boolA (decide (xs = ys)) ∧ K' = [(j, ob), (j2, ob2)]) := by
 refine callK_in 26 hT Tryz.func55 fun Y hret => ?_
 refine au [4, 5, 2, 3, 4, 4, 5, 1, 28, 1, 28, 6, 3, 20] ?_
 refine ⟨fun hc0 => ?_, fun hc0 => ?_⟩
 ·refine au [4, 5, 2, 3] ?_
  refine TK.rt hret [(j, _), (j2, _)] ?_
  exact ⟨by rw [decide_eq_false (fun h => by rw [h] at hc0; simp at hc0)]; rfl, rfl⟩
 have hlen : xs.length = ys.length := by have h : (xs.length : Int) = ys.length := (by simpa using hc0); omega
 refine au [12, 4, 4, 5, 2, 3, 13] ?_
 refine TK.maskL [0, 1, 5] ?_
 refine TK.loopN (fun n env K => ∃ (i : Nat), n = xs.length - i ∧ i ≤ xs.length ∧ xs.take i = ys.take i ∧ env = slotsA 26 [(0, .sl j off xs.length), (1, .sl j2 off2 ys.length), (5, intA i)] ∧ K = [(j, ob), (j2, ob2)]) xs.length ⟨0, rfl, Nat.zero_le _, rfl, rfl, rfl⟩ fun n env K hI' hnext => ?_
 obtain ⟨i, rfl, hi, hn, rfl, rfl⟩ := hI'
 refine au [4, 4, 5, 1, 1, 28, 6, 3, 20] ?_
 refine ⟨fun hc => ?_, fun hc => ?_⟩
 ·simp only [decide_eq_true_eq] at hc
  have hil : i < xs.length := by omega
  refine au [12, 4, 13, 4] ?_
  refine TK.draw [0, 1, 2, 3, 4, 5, 6, 7, 8] [0, 1, 2, 3, 4, 5, 6, 7, 8] (by kernel_rfl) (by kernel_rfl) ?_
  refine TD.z [0] rfl (q_move rfl rfl) ?_
  refine TD.z [5] rfl (q_move rfl rfl) ?_
  refine TD.z [17, 18] rfl (q_indexSl rfl rfl rfl SlEl.h (by omega) (by omega)) ?_
  refine TD.y [19] rfl (hq := q_load1 rfl rfl TySz.h (List.Mem.head _) (hI i hil)) (h := ?_)
  refine TD.z [1] rfl (q_move rfl rfl) ?_
  refine TD.z [5] rfl (q_move rfl rfl) ?_
  refine TD.z [21, 22] rfl (q_indexSl rfl rfl rfl SlEl.h (by omega) (by omega)) ?_
  refine TD.y [23] rfl (hq := q_load1 rfl rfl TySz.h (List.Mem.head _) (hI2 i (by omega))) (h := ?_)
  refine TD.z [20, 24] rfl (q_cmp rfl rfl rfl rfl) ?_
  refine TD.fin ?_
  refine au [20] ?_
  refine ⟨fun hc2 => ?_, fun hc2 => ?_⟩
  ·refine au [4, 5, 2, 3] ?_
   refine TK.rt hret [(j, _), (j2, _)] ?_
   exact ⟨by rw [decide_eq_false (fun h => by subst h; simp at hc2)]; rfl, rfl⟩
  refine au [12, 14, 5, 1, 23, 2, 3] ?_
  refine TK.maskL [0, 1, 5] ?_
  exact hnext _ _ _ (by omega) ⟨i + 1, rfl, by omega, take_next hil (by omega) hn (by simpa using hc2), rfl, rfl⟩
 simp only [decide_eq_false_iff_not] at hc
 obtain rfl : i = xs.length := by omega
 refine au [16, 4, 5, 2, 3] ?_
 refine TK.rt hret [(j, _), (j2, _)] ?_
 exact ⟨by rw [decide_eq_true (by rwa [List.take_length, hlen, List.take_length] at hn)]; rfl, rfl⟩
end Go.Vel
end
section
set_option linter.all false
set_option maxRecDepth 20000
set_option maxHeartbeats 60000000
namespace Go.Vel
open Go Go.Conc Go.Proofs

theorem mem_loopM {b : Bk} : ∀ (rest S T : List Int), T.Sublist rest → T ≠ [] → ((S ++ T).length : Int) ≤ b.high → seenM b (S ++ T) = true → S ++ T ∈ loopM b S rest
 | [], S, T, hs, hne, _, _ => absurd (List.sublist_nil.1 hs) hne
 | n :: rest, S, T, hs, hne, hl, hsn => by
  have hlt : (S.length : Int) < b.high := by
   have : 0 < T.length := List.length_pos_iff.2 hne
   rw [List.length_append] at hl
   omega
  unfold loopM
  rw [if_pos hlt]
  cases hs with
  | cons _ h => exact List.mem_append.2 (.inr (mem_loopM rest S T h hne hl hsn))
  | cons_cons _ h =>
   rename_i T'
   refine List.mem_append.2 (.inl ?_)
   rw [show S ++ n :: T' = (S ++ [n]) ++ T' by simp] at hl hsn ⊢
   by_cases h0 : T' = []
   ·subst h0
    rw [List.append_nil] at hl hsn ⊢
    refine List.mem_append.2 (.inl ?_)
    unfold ownM
    rw [if_pos hsn]
    exact List.mem_singleton.2 rfl
   ·exact List.mem_append.2 (.inr (mem_loopM rest (S ++ [n]) T' h h0 hl hsn))
theorem sub_rest {b : Bk} : ∀ (m i : Nat) (xs : List Int), b.steps.toNat - i = m → xs.Pairwise (· < ·) → (∀ x ∈ xs, (i : Int) ≤ x ∧ x < b.steps) → xs.Sublist (restM b i)
 | _, _, [], _, _, _ => List.nil_sublist _
 | 0, i, x :: xs, hm, _, hb => by have := hb x (by simp); omega
 | m + 1, i, x :: xs, hm, hp, hb => by
  rw [restM_cons (by omega)]
  have h2 := List.pairwise_cons.1 hp
  by_cases hx : x = i
  ·subst hx
   refine .cons_cons _ (sub_rest m (i + 1) xs (by omega) h2.2 fun y hy => ?_)
   have := h2.1 y hy
   have := hb y (by simp [hy])
   omega
  ·refine .cons _ (sub_rest m (i + 1) (x :: xs) (by omega) hp fun y hy => ?_)
   have h3 := hb x (by simp)
   have h4 := hb y hy
   rcases List.mem_cons.1 hy with rfl | hy
   ·omega
   ·have := h2.1 y hy; omega
theorem handed_lt {b : Bk} {xs : List Int} (h : handedM b xs = 0) {i : Nat} (hi : i + 1 < xs.length) : xs[i] < xs[i + 1] := by
 have h1 := handed_bar h hi
 unfold barH at h1
 rw [List.getElem?_eq_getElem hi] at h1
 dsimp only at h1
 split at h1
 ·cases h1
 ·split at h1
  ·cases h1
  ·rename_i h2
   rw [show i + 1 - 1 = i by omega, List.getElem?_eq_getElem (show i < xs.length by omega)] at h2
   simp only [Option.getD_some, Bool.and_eq_true, decide_eq_true_eq, not_and] at h2
   have := h2 (by omega)
   omega
theorem handed_pair {b : Bk} {xs : List Int} (h : handedM b xs = 0) : xs.Pairwise (· < ·) := by
 rw [List.pairwise_iff_getElem]
 intro i j hi hj hij
 obtain ⟨d, rfl⟩ : ∃ d, j = i + 1 + d := ⟨j - (i + 1), by omega⟩
 clear hij
 induction d with
 | zero => exact handed_lt h hj
 | succ d ih => exact Int.lt_trans (ih (by omega)) (handed_lt h (show i + 1 + d + 1 < xs.length from hj))
theorem mem_allM {b : Bk} {xs : List Int} (h : handedM b xs = 0) (hs : seenM b xs = true) : xs ∈ allM b := by
 unfold allM
 have hh : ((xs.length : Int)) ≤ b.high := by
  unfold seenM at hs
  simp only [Bool.and_eq_true, decide_eq_true_eq] at hs
  exact hs.1.2
 by_cases h0 : xs = []
 ·subst h0
  refine List.mem_append.2 (.inl ?_)
  unfold ownM
  rw [if_pos hs]
  exact List.mem_singleton.2 rfl
 ·exact List.mem_append.2 (.inr (mem_loopM (restM b 0) [] xs (sub_rest _ 0 xs rfl (handed_pair h) fun x hx => by have := (handed_ok h).mem x hx; omega) h0 hh hs))
theorem state_eq (b : Bk) (xs : List Int) : stateApi b xs = stateSim b xs := by
 unfold stateApi stateSim
 by_cases h1 : checkM b ≠ 0
 ·rw [if_pos h1, if_pos h1]
 ·rw [if_neg h1, if_neg h1]
  by_cases h2 : handedM b xs ≠ 0
  ·rw [if_pos h2, if_pos h2]
  ·rw [if_neg h2, if_neg h2]
   cases h3 : canM b xs with
   | false => rw [Bool.and_false]
   | true =>
    have h4 : seenM b xs = true := by
     unfold canM at h3
     simp only [Bool.and_eq_true] at h3
     exact h3.2
    rw [decide_eq_true (mem_allM (by simpa using h2) h4)]; rfl
end Go.Vel
end
section
set_option linter.all false
set_option maxRecDepth 20000
set_option maxHeartbeats 60000000
namespace Go.Vel
open Go Go.Conc Go.Proofs

/-! ### lists of lists -/
def objsL (P : List (Nat × List Int)) : KV := P.map fun x => (x.1, .cells (x.2.map intA) 3 false)
def refsL (P : List (Nat × List Int)) : List AV := P.map fun x => .sl x.1 0 x.2.length
theorem objsL_app (P : List (Nat × List Int)) (x : Nat × List Int) : objsL (P ++ [x]) = objsL P ++ [(x.1, .cells (x.2.map intA) 3 false)] := by simp [objsL]
theorem refsL_app (P : List (Nat × List Int)) (x : Nat × List Int) : refsL (P ++ [x]) = refsL P ++ [.sl x.1 0 x.2.length] := by simp [refsL]
theorem objsL_mem {P : List (Nat × List Int)} {x : Nat × List Int} (h : x ∈ P) : (x.1, AObj.cells (x.2.map intA) 3 false) ∈ objsL P := List.mem_map.2 ⟨x, h, rfl⟩
theorem refs_take {P : List (Nat × List Int)} {k : Nat} (h : k < P.length) {e : TypeId} {sz : Nat} : takeO (.row (refsL P) e sz) k 1 = some [.sl P[k].1 0 P[k].2.length] := by
 simp only [takeO, AObj.look]
 rw [if_pos (by simp [refsL]; omega)]
 simp [List.take_one, refsL, h]
abbrev Gs := Nat × List Int × Int
def objsG (P : List Gs) : KV := P.map fun x => (x.1, .cells (x.2.1.map intA) 3 false)
def refsG (P : List Gs) : List AV := P.flatMap fun x => [.sl x.1 0 x.2.1.length, intA x.2.2]
theorem objsG_app (P : List Gs) (x : Gs) : objsG (P ++ [x]) = objsG P ++ [(x.1, .cells (x.2.1.map intA) 3 false)] := by simp [objsG]
theorem refsG_app (P : List Gs) (x : Gs) : refsG (P ++ [x]) = refsG P ++ [.sl x.1 0 x.2.1.length, intA x.2.2] := by simp [refsG]
theorem objsG_mem {P : List Gs} {x : Gs} (h : x ∈ P) : (x.1, AObj.cells (x.2.1.map intA) 3 false) ∈ objsG P := List.mem_map.2 ⟨x, h, rfl⟩
theorem refsG_len (P : List Gs) : (refsG P).length = P.length * 2 := flat_len _ 2 (fun _ => rfl) P
theorem refsG_take {P : List Gs} {k : Nat} (h : k < P.length) {e : TypeId} {sz : Nat} : takeO (.row (refsG P) e sz) (k * 2) 2 = some [.sl P[k].1 0 P[k].2.1.length, intA P[k].2.2] := by
 have hle : (k + 1) * 2 ≤ P.length * 2 := Nat.mul_le_mul_right _ h
 have hl := refsG_len P
 simp only [takeO, AObj.look]
 rw [if_pos ⟨by omega, by omega⟩]
 unfold refsG
 rw [flat_take _ 2 (fun _ => rfl) _ _ h]
theorem firstL_map {α β : Type} (f : α → β) (lt : β → β → Bool) (o : α) (xs : List α) : f (firstL (fun a c => lt (f a) (f c)) o xs) = firstL lt (f o) (xs.map f) := by
 induction xs generalizing o with
 | nil => rfl
 | cons x xs ih =>
  show f (firstL _ (if lt (f x) (f o) = true then x else o) xs) = firstL lt (if lt (f x) (f o) = true then f x else f o) (xs.map f)
  rw [ih]
  split <;> rfl
def bitsM (n bits : Nat) : List Int := ((List.range n).filter (bitB bits)).map fun k : Nat => (k : Int)
theorem bitsM_T {n bits : Nat} (h : bitB bits n = true) : bitsM (n + 1) bits = bitsM n bits ++ [(n : Int)] := by
 unfold bitsM; rw [List.range_succ, List.filter_append]; simp [h]
theorem bitsM_F {n bits : Nat} (h : bitB bits n = false) : bitsM (n + 1) bits = bitsM n bits := by
 unfold bitsM; rw [List.range_succ, List.filter_append]; simp [h]
theorem bitsM_len (n bits : Nat) : (bitsM n bits).length ≤ n := by
 unfold bitsM; rw [List.length_map]; exact Nat.le_trans (List.length_filter_le _ _) (by simp)
def oddM (b : Bk) (k : Nat) : List (List Int) := ((List.range k).filter fun bits => !togM b bits).map (bitsM b.seekers.length)
theorem oddM_T {b : Bk} {k : Nat} (h : togM b k = true) : oddM b (k + 1) = oddM b k := by
 unfold oddM; rw [List.range_succ, List.filter_append]; simp [h]
theorem oddM_F {b : Bk} {k : Nat} (h : togM b k = false) : oddM b (k + 1) = oddM b k ++ [bitsM b.seekers.length k] := by
 unfold oddM; rw [List.range_succ, List.filter_append]; simp [h]
theorem oddM_len (b : Bk) (k : Nat) : (oddM b k).length ≤ k := by
 unfold oddM; rw [List.length_map]; exact Nat.le_trans (List.length_filter_le _ _) (by simp)
theorem oddM_all {b : Bk} {k : Nat} : ∀ L ∈ oddM b k, L.length ≤ b.seekers.length := fun L hL => by
 obtain ⟨q, _, rfl⟩ := List.mem_map.1 hL
 exact bitsM_len _ _
def everyM (b : Bk) : Nat := 2 ^ b.seekers.length - 1
def clashM (b : Bk) : List Int := firstL ltLists ((oddM b (everyM b + 1)).headD []) ((oddM b (everyM b + 1)).drop 1)
def guessM (b : Bk) (pre : List (List Int)) : List (List Int × Int) := (pre.filter fun S => !badM b S b.seekers.length).map fun S => (S, wrongM b S)
theorem guessM_T {b : Bk} {pre : List (List Int)} {S : List Int} (h : badM b S b.seekers.length = false) : guessM b (pre ++ [S]) = guessM b pre ++ [(S, wrongM b S)] := by
 unfold guessM; rw [List.filter_append]; simp [h]
theorem guessM_F {b : Bk} {pre : List (List Int)} {S : List Int} (h : badM b S b.seekers.length = true) : guessM b (pre ++ [S]) = guessM b pre := by
 unfold guessM; rw [List.filter_append]; simp [h]
def likelyM (b : Bk) : List Int × Int := firstL ltGuess ((guessM b (allM b)).headD ([], 0)) ((guessM b (allM b)).drop 1)


theorem clash_ok {main : Bool} {T : Goroutine → Hp → Prop} (hT : Shut Tryz.prog main T)  {b : Bk} {s e : Nat} (hse : s ≠ e) (hn : ∀ x ∈ b.seekers, x.name.size ≤ 1000) (hl : b.seen.length ≤ 1000) :
  CallK Tryz.prog T gmS 36 [.agg (bookC b s e)] [(0, checksG), (1, saysG), (s, saysO b), (e, seenO b)] (fun r K' => (checkM b ≠ 0 ∧ r = .tup [.v (.slice none 0 0), intA (checkM b)] ∧ K' = [(0, checksG), (1, saysG), (s, saysO b), (e, seenO b)]) ∨ (checkM b = 0 ∧ togM b (everyM b) = true ∧ r = .tup [.v (.slice none 0 0), intA 0] ∧ K' = [(0, checksG), (1, saysG), (s, saysO b), (e, seenO b)]) ∨ (checkM b = 0 ∧ togM b (everyM b) = false ∧ ∃ j, r = .tup [.sl j 0 (clashM b).length, intA 0] ∧ K' = [(0, checksG), (1, saysG), (s, saysO b), (e, seenO b), (j, .cells ((clashM b).map intA) 3 false)])) := by
 refine callK_in 60 hT Tryz.func36 fun Y hret => ?_
 refine au [4, 5, 21] ?_
 intro jb hjb
 refine au [2, 2, 3, 4, 4, 5, 8] ?_
 refine TK.cl rfl rfl rfl rfl (check_ok hT (b := b) (s := s) (e := e) hn hl) ?_
 rintro r1 K2 ⟨rfl, rfl⟩
 refine au [2, 3, 4, 5, 1, 6, 3, 20] ?_
 refine ⟨fun hc0 => ?_, fun hc0 => ?_⟩
 ·refine au [4, 5, 1, 2, 2, 3] ?_
  refine TK.rt hret [(0, _), (1, _), (s, _), (e, _)] ?_
  exact .inl ⟨by simpa using hc0, rfl, rfl⟩
 have hck : checkM b = 0 := by simpa using hc0
 have hb := bkOk_of hck
 have hn5 := hb.ns
 have hp32 : 2 ^ b.seekers.length ≤ 32 := Nat.le_trans (Nat.pow_le_pow_right (by omega) hn5) (by decide)
 have hp1 : 1 ≤ 2 ^ b.seekers.length := Nat.one_le_two_pow
 have hev : (((2 ^ b.seekers.length : Nat) : Int) - 1) = ((everyM b : Nat) : Int) := by unfold everyM; omega
 have hel : everyM b ≤ 31 := by unfold everyM; omega
 refine au [12, 4, 5, 7, 9, 28] ?_
 refine TK.a rfl (q_shl1 rfl rfl rfl (by omega)) ?_
 refine TK.a rfl (q_sub rfl rfl rfl (by rw [hev]; omega)) ?_
 rw [hev]
 refine au [2, 3, 4, 4, 5, 8, 43, 1] ?_
 refine TK.cl rfl rfl rfl rfl (together_ok hT (bits := everyM b) hse hb (by omega)) ?_
 rintro r4 K5 ⟨rfl, rfl⟩
 refine au [3, 20] ?_
 refine ⟨fun hc1 => ?_, fun hc1 => ?_⟩
 ·refine au [4, 5, 2, 2, 3] ?_
  refine TK.rt hret [(0, _), (1, _), (s, _), (e, _)] ?_
  exact .inr (.inl ⟨hck, hc1, rfl, rfl⟩)
 refine au [12, 4, 5, 2] ?_
 refine TK.virt 6 61 1 rfl fun jo0 hjo0 => ?_
 refine au [3, 4, 4, 5, 1, 23, 1, 3, 13] ?_
 refine TK.maskL [1, 6, 25, 26] ?_
 refine TK.kp [(jo0, _), (jb, _), (0, _), (1, _), (s, _), (e, _)] ?_
 refine TK.loopN (fun n env K => ∃ (i jo : Nat) (P : List (Nat × List Int)), n = everyM b + 1 - i ∧ i ≤ everyM b + 1 ∧ P.map (·.2) = oddM b i ∧ env = slotsA 60 [(1, .ptr jb 0), (6, .row jo P.length), (25, intA (everyM b + 1)), (26, intA i)] ∧ K = (jo, .row (refsL P) 61 1) :: (jb, .cells (bookC b s e) 27 true) :: (0, checksG) :: (1, saysG) :: (s, saysO b) :: (e, seenO b) :: objsL P) (everyM b + 1) ⟨0, jo0, [], rfl, Nat.zero_le _, rfl, rfl, rfl⟩ fun n env K hI' hnext => ?_
 obtain ⟨i, jo, P, rfl, hi, hP, rfl, rfl⟩ := hI'
 have hPl : P.length ≤ i := by have := oddM_len b i; rw [← hP, List.length_map] at this; exact this
 refine au [4, 5, 6, 3, 4, 20] ?_
 refine ⟨fun hc2 => ?_, fun hc2 => ?_⟩
 ·simp only [decide_eq_true_eq] at hc2
  have hil : i < everyM b + 1 := by omega
  refine au [12, 4, 13, 4, 5, 1, 2, 3, 4, 4, 5, 8, 43, 1] ?_
  refine TK.cl rfl rfl rfl rfl (together_ok hT (bits := i) hse hb (by omega)) ?_
  rintro r7 K8 ⟨rfl, rfl⟩
  refine au [3, 20] ?_
  refine ⟨fun hc3 => ?_, fun hc3 => ?_⟩
  ·refine au [16] ?_
   
   refine au [5, 23, 1, 3] ?_
   refine TK.maskL [1, 6, 25, 26] ?_
   refine TK.kp (((jo, _) :: (jb, _) :: (0, _) :: (1, _) :: (s, _) :: (e, _) :: objsL P)) ?_
   exact hnext _ _ _ (by omega) ⟨i + 1, jo, P, rfl, by omega, by rw [oddM_T hc3]; exact hP, rfl, rfl⟩
  refine au [12, 4, 5, 2] ?_
  refine TK.virt 8 3 1 rfl fun j80 hj80 => ?_
  refine au [3, 4, 4, 5, 7, 9, 28, 1, 3, 13] ?_
  refine TK.maskL [1, 6, 7, 8, 25, 26, 35, 36] ?_
  refine TK.kp ((j80, _) :: (jo, _) :: (jb, _) :: (0, _) :: (1, _) :: (s, _) :: (e, _) :: objsL P) ?_
  refine TK.loopN (fun n env K => ∃ (q j8 : Nat), n = b.seekers.length - q ∧ q ≤ b.seekers.length ∧ env = slotsA 60 [(1, .ptr jb 0), (6, .row jo P.length), (7, intA i), (8, .row j8 (bitsM q i).length), (25, intA (everyM b + 1)), (26, intA i), (35, intA b.seekers.length), (36, intA q)] ∧ K = (j8, .row ((bitsM q i).map intA) 3 1) :: (jo, .row (refsL P) 61 1) :: (jb, .cells (bookC b s e) 27 true) :: (0, checksG) :: (1, saysG) :: (s, saysO b) :: (e, seenO b) :: objsL P) b.seekers.length ⟨0, j80, rfl, Nat.zero_le _, rfl, rfl⟩ fun n env K hI' hnext2 => ?_
  obtain ⟨q, j8, rfl, hq, rfl, rfl⟩ := hI'
  have hql2 := bitsM_len q i
  refine au [4, 5, 6, 3, 4, 20] ?_
  refine ⟨fun hc4 => ?_, fun hc4 => ?_⟩
  ·simp only [decide_eq_true_eq] at hc4
   have hql : q < b.seekers.length := by omega
   refine au [12, 4, 13, 4, 5, 1, 2, 3, 4, 5, 1, 1] ?_
   refine TK.a rfl (q_shrN rfl rfl rfl (by omega)) ?_
   refine TK.a rfl (q_and1 rfl rfl rfl (by have := Nat.div_le_self i (2 ^ q); omega)) ?_
   refine au [6, 3, 20] ?_
   refine ⟨fun hc5 => ?_, fun hc5 => ?_⟩
   ·have hc5 : bitB i q = true := hc5
    refine au [5, 1, 1] ?_
    refine TK.newR rfl rfl rfl (n_buildSlice (l := [_]) rfl SlEl.h TyZ.h (by decide) (by decide) rfl) (fun _ => putS rfl (by simp only [List.set]; rfl)) fun j10 hj10 => ?_
    refine TK.appR rfl rfl rfl (a_app rfl ApOf.h rfl (by repeat (first | exact List.Mem.head _ | assumption | apply List.Mem.tail)) (by simp <;> omega) rfl (src_row (ln := [_]) (by repeat (first | exact List.Mem.head _ | assumption | apply List.Mem.tail)) (by decide) (by simp) rfl) (by omega) rfl (by unfold maxLen; omega) (by omega)) (fun _ => (by repeat (first | exact Upd.head | apply Upd.tail))) (fun _ => putS rfl (by simp only [List.set]; rfl)) fun j82 => ?_
    refine au [2, 3, 14, 5, 23, 1, 3] ?_
    refine TK.maskL [1, 6, 7, 8, 25, 26, 35, 36] ?_
    refine TK.kp (((j82, _) :: (jo, _) :: (jb, _) :: (0, _) :: (1, _) :: (s, _) :: (e, _) :: objsL P)) ?_
    exact hnext2 _ _ _ (by omega) ⟨q + 1, j82, rfl, by omega, by rw [bitsM_T hc5, List.length_append]; rfl, by rw [bitsM_T hc5, List.map_append]; rfl⟩
   have hc5 : bitB i q = false := hc5
   refine au [12, 14, 5, 23, 1, 3] ?_
   refine TK.maskL [1, 6, 7, 8, 25, 26, 35, 36] ?_
   refine TK.kp (((j8, _) :: (jo, _) :: (jb, _) :: (0, _) :: (1, _) :: (s, _) :: (e, _) :: objsL P)) ?_
   exact hnext2 _ _ _ (by omega) ⟨q + 1, j8, rfl, by omega, by rw [bitsM_F hc5] <;> rfl, by rw [bitsM_F hc5] <;> rfl⟩
  simp only [decide_eq_false_iff_not] at hc4
  obtain rfl : q = b.seekers.length := by omega
  refine au [16] ?_
  refine TK.freezeR 8 rfl (by repeat (first | exact Upd.head | apply Upd.tail)) rfl ?_
  refine au [5, 1, 1] ?_
  refine TK.newR rfl rfl rfl (n_buildSlice (l := [_]) rfl SlEl.h TyZ.h (by decide) (by decide) rfl) (fun _ => putS rfl (by simp only [List.set]; rfl)) fun j19 hj19 => ?_
  refine TK.appR rfl rfl rfl (a_app rfl ApOf.h rfl (by repeat (first | exact List.Mem.head _ | assumption | apply List.Mem.tail)) (by simp [refsL]) rfl (src_row (ln := [_]) (by repeat (first | exact List.Mem.head _ | assumption | apply List.Mem.tail)) (by decide) (by simp) rfl) (by omega) rfl (by unfold maxLen; omega) (by omega)) (fun _ => (by repeat (first | exact Upd.head | apply Upd.tail))) (fun _ => putS rfl (by simp only [List.set]; rfl)) fun jo2 => ?_
  refine au [2, 3, 14] ?_
  
  refine au [5, 23, 1, 3] ?_
  refine TK.maskL [1, 6, 25, 26] ?_
  refine TK.kp (((j8, _) :: (jo2, _) :: (jb, _) :: (0, _) :: (1, _) :: (s, _) :: (e, _) :: objsL P)) ?_
  refine TK.perm (K' := (jo2, .row (refsL (P ++ [(j8, bitsM b.seekers.length i)])) 61 1) :: (jb, .cells (bookC b s e) 27 true) :: (0, checksG) :: (1, saysG) :: (s, saysO b) :: (e, seenO b) :: objsL (P ++ [(j8, bitsM b.seekers.length i)])) (by rw [objsL_app, refsL_app]; exact (List.perm_append_singleton _ ((jo2, _) :: (jb, _) :: (0, _) :: (1, _) :: (s, _) :: (e, _) :: objsL P)).symm) ?_
  exact hnext _ _ _ (by omega) ⟨i + 1, jo2, P ++ [(j8, bitsM b.seekers.length i)], rfl, by omega, by rw [oddM_F hc3, List.map_append, hP]; rfl, by rw [List.length_append]; rfl, rfl⟩
 simp only [decide_eq_false_iff_not] at hc2
 obtain rfl : i = everyM b + 1 := by omega
 obtain ⟨p, ps, rfl⟩ : ∃ p ps, P = p :: ps := by
  cases P with
  | nil =>
   rw [oddM_F hc1] at hP
   have := congrArg List.length hP
   simp at this
  | cons p ps => exact ⟨p, ps, rfl⟩
 have hlen : ∀ x ∈ p :: ps, x.2.length ≤ 1000 := fun x hx => by
  have := oddM_all (b := b) (k := everyM b + 1) x.2 (by rw [← hP]; exact List.mem_map_of_mem (f := fun x : Nat × List Int => x.2) hx)
  omega
 refine au [16, 4] ?_
 refine TK.draw [0, 1, 2, 3, 4, 5, 6, 7] [0, 1, 2, 3, 4, 5, 6, 7] (by kernel_rfl) (by kernel_rfl) ?_
 refine TD.z [6] rfl (q_move rfl rfl) ?_
 refine TD.y [54] rfl (hq := q_indexRow rfl rfl rfl SlEl.h (List.Mem.head _) (by first | omega | (simp only [List.length_cons]; omega)) (by first | omega | (simp only [List.length_cons]; omega))) (h := ?_)
 refine TD.y [55] rfl (hq := q_load1 rfl rfl TySz.h (List.Mem.head _) (refs_take (k := 0) (by simp))) (h := ?_)
 refine TD.z [6] rfl (q_move rfl rfl) ?_
 refine TD.y [57] rfl (hq := q_sliceRow rfl rfl SlEl.h (List.Mem.head _) rfl rfl (by first | omega | (simp only [List.length_cons]; omega)) (by first | omega | (simp only [List.length_cons]; omega)) rfl) (h := ?_)
 refine TD.cl (pend' := [⟨3, [6], []⟩, ⟨1, [54], [(_, _)]⟩, ⟨0, [6], []⟩]) [56, 58] rfl rfl rfl rfl rfl (firstInts_ok hT (o := p) (xs := ps) (lt := fun a c => ltLists a.2 c.2) (fv := .fn 91 [] []) (jo := jo) (off := 1) (obo := .row (refsL (p :: ps)) 61 1) (K := (jo, .row (refsL (p :: ps)) 61 1) :: objsL (p :: ps)) (by simp at hPl; omega) (by simp) (fun k hk => by rw [show 1 + ((k : Int)).toNat * 1 = k + 1 by rw [Int.toNat_natCast]; omega]; exact refs_take (P := p :: ps) (k := k + 1) (by simpa using hk)) (fun x hx y hy => callFK_fn Cal.h (clash1_ok hT (List.mem_cons_of_mem _ (objsL_mem hx)) (List.mem_cons_of_mem _ (objsL_mem hy)) (ints_at _ _ _) (ints_at _ _ _) (hlen x hx) (hlen y hy)))) (fun r11 K12 h13 => ⟨?_, ?_⟩)
 ·rcases h13 with ⟨rfl, rfl⟩
  all_goals simp
 obtain ⟨rfl, rfl⟩ := h13
 try simp only [List.cons_append, List.nil_append]
 refine TD.norm (by simp only [List.set]; rfl) ?_
 refine TD.perm (List.Perm.cons _ List.perm_append_comm) ?_
 simp only [List.cons_append, List.nil_append]
 generalize hres0 : firstL (fun (a c : Nat × List Int) => ltLists a.2 c.2) p ps = res
 have hmem : res ∈ p :: ps := hres0 ▸ firstL_mem
 obtain ⟨R1, hR1⟩ := rem_of_mem (objsL_mem hmem)
 have hcl : res.2 = clashM b := by
  rw [← hres0, firstL_map (fun x : Nat × List Int => x.2)]
  unfold clashM
  rw [← hP]; rfl
 refine TD.as (pend' := []) [59] rfl rfl (q_assign rfl rfl) ?_
 refine TD.as (pend' := []) [] rfl rfl (q_assign rfl rfl) ?_
 refine TD.fin ?_
 refine au [] ?_
 refine TK.rt hret [(0, _), (1, _), (s, _), (e, _), (res.1, .cells (res.2.map intA) 3 false)] ?_ (hs := (by repeat (first | exact Split.none _ | exact Split.all _ | (apply Split.rem; repeat (first | exact Rem.head | exact hR1 | apply Rem.tail)) | apply Split.right)))
 refine .inr (.inr ⟨hck, hc1, res.1, ?_, ?_⟩)
 ·rw [← hcl]; rfl
 ·rw [← hcl]
end Go.Vel
end
section
set_option linter.all false
set_option maxRecDepth 20000
set_option maxHeartbeats 60000000
namespace Go.Vel
open Go Go.Conc Go.Proofs


theorem likely_ok {main : Bool} {T : Goroutine → Hp → Prop} (hT : Shut Tryz.prog main T)  {b : Bk} {s e : Nat} (hse : s ≠ e) (hn : ∀ x ∈ b.seekers, x.name.size ≤ 1000) (hl : b.seen.length ≤ 1000) :
  CallK Tryz.prog T gmS 31 [.agg (bookC b s e)] [(0, checksG), (1, saysG), (s, saysO b), (e, seenO b)] (fun r K' => (checkM b ≠ 0 ∧ r = .tup [.v (.slice none 0 0), intA 0, boolA false, intA (checkM b)] ∧ K' = [(0, checksG), (1, saysG), (s, saysO b), (e, seenO b)]) ∨ (checkM b = 0 ∧ guessM b (allM b) = [] ∧ r = .tup [.v (.slice none 0 0), intA 0, boolA false, intA 0] ∧ K' = [(0, checksG), (1, saysG), (s, saysO b), (e, seenO b)]) ∨ (checkM b = 0 ∧ guessM b (allM b) ≠ [] ∧ ∃ j, r = .tup [.sl j 0 (likelyM b).1.length, intA (likelyM b).2, boolA true, intA 0] ∧ K' = [(0, checksG), (1, saysG), (s, saysO b), (e, seenO b), (j, .cells ((likelyM b).1.map intA) 3 false)])) := by
 refine callK_in3 50 hT Tryz.func31 fun Y hro hret => ?_
 refine au [4, 5, 21] ?_
 intro jb hjb
 refine au [2, 2, 2, 2, 3, 4, 4, 5, 8] ?_
 refine TK.cl rfl rfl rfl rfl (check_ok hT (b := b) (s := s) (e := e) hn hl) ?_
 rintro r1 K2 ⟨rfl, rfl⟩
 refine au [2, 3, 4, 5, 1, 6, 3, 20] ?_
 refine ⟨fun hc0 => ?_, fun hc0 => ?_⟩
 ·refine au [4, 5, 1, 2, 2, 2, 2, 3] ?_
  refine TK.leave (.ret _) fun A hA => hret _ _ _ _ ([(0, _), (1, _), (s, _), (e, _)]) ([(0, _), (1, _), (s, _), (e, _)]) _ _ _ (.inr rfl) (by repeat (first | exact Split.none _ | exact Split.all _ | (apply Split.rem; repeat (first | exact Rem.head | apply Rem.tail)) | apply Split.right)) (by simp) (by simp) (by repeat (first | exact Split.none _ | exact Split.all _ | (apply Split.rem; repeat (first | exact Rem.head | apply Rem.tail)) | apply Split.right)) (res_many (.cons (rk_tmp rfl) (.cons (rk_tmp rfl) (.cons (rk_tmp rfl) (.cons (rk_tmp rfl) ResKs.nil)))) rfl) ?_ A hA
  exact .inl ⟨by simpa using hc0, rfl, rfl⟩
 have hck : checkM b = 0 := by simpa using hc0
 have hb := bkOk_of hck
 refine au [12, 4, 5, 8, 43, 22] ?_
 intro jx hjx
 refine au [17, 3, 4, 5, 22] ?_
 intro jl hjl
 refine TK.virtC (t := 116) (e := 125) (size := 2) (fun _ => (by repeat (first | exact Upd.head | apply Upd.tail))) fun jo0 hjo0 => ?_
 refine au [3, 4, 4, 5, 8, 32, 3, 13] ?_
 refine TK.rangeAll hT hb (s := s) (e := e) (K0 := (jl, .cells [.row jo0 0] 116 true) :: (jo0, .row [] 125 2) :: (jx, .cells (bookC b s e) 102 true) :: (1, saysG) :: (s, saysO b) :: []) (J := fun pre K1 => ∃ (jo : Nat) (P : List Gs), P.map (·.2) = guessM b pre ∧ K1 = (jl, .cells [.row jo P.length] 116 true) :: (jo, .row (refsG P) 125 2) :: (jx, .cells (bookC b s e) 102 true) :: (1, saysG) :: (s, saysO b) :: objsG P) (D := fun _ _ => False) rfl hro rfl (by repeat (first | exact Split.none _ | exact Split.all _ | (apply Split.rem; repeat (first | exact Rem.head | apply Rem.tail)) | apply Split.right)) ⟨jo0, [], rfl, rfl⟩ (fun Y' l lo lb pre S K1 hbegin hfin hout hpre hJ => ?_) (fun d K2 hJ => ?_) (fun d c K2 hD => ?_)
 ·obtain ⟨jo, P, hP, rfl⟩ := hJ
  have hSm := allM_pre hb hpre
  have hpl := pre_len hb hpre (fun S => !badM b S b.seekers.length)
  have hPl : P.length ≤ 65536 := by have := congrArg List.length hP; unfold guessM at this; simp only [List.length_map] at this; omega
  refine au [5, 22] ?_
  intro j4 hj4
  refine au [17, 3] ?_
  refine hbegin _ _ _ _ _ (by repeat (first | exact Upd.head | apply Upd.tail)) ?_
  refine au [13, 4, 5, 8, 8] ?_
  refine TK.cl rfl rfl rfl rfl (wrong_ok hT (s := s) (e := e) hb hSm) ?_
  rintro r5 K6 ⟨rfl, rfl⟩
  refine au [1, 10, 10, 2, 2, 3, 4, 5, 1, 3, 20] ?_
  refine ⟨fun hc1 => ?_, fun hc1 => ?_⟩
  ·have hwr : 0 ≤ wrongM b S ∧ wrongM b S ≤ 100 := by unfold wrongM; have := wrongL_le b S b.seekers.length; have := hb.ns; split <;> omega
   refine TK.draw [0, 1, 3, 2, 4, 5, 6, 7] [0, 1, 2, 3, 4, 5, 6, 7] (by kernel_rfl) (by kernel_rfl) ?_
   refine TD.y [8] rfl (hq := q_load1 rfl rfl TySz.h (List.Mem.head _) rfl) (h := ?_)
   refine TD.y [9] rfl (hq := q_load rfl rfl TySz.h (List.Mem.head _) rfl) (h := ?_)
   refine TD.z [10] rfl (q_move rfl rfl) ?_
   refine TD.cl (pend' := [⟨3, [10], []⟩, ⟨0, [8], [(_, _)]⟩]) [31] rfl rfl rfl rfl rfl (listF_ok hT hSm.len fun x hx => ⟨(hSm.mem x hx).1, by have := (hSm.mem x hx).2; have := hb.steps; omega⟩) (fun r8 K9 h10 => ⟨?_, ?_⟩)
   ·rcases h10 with ⟨jr, rfl, rfl⟩
    all_goals simp
   obtain ⟨jr, rfl, rfl⟩ := h10
   try simp only [List.cons_append, List.nil_append]
   refine TD.norm (by simp only [List.set]; rfl) ?_
   refine TD.z [32, 33] rfl (q_build (l := [_, _]) rfl TyZ.h BlOf.h rfl) ?_
   refine TD.cnewR (pend' := [⟨3, [10], []⟩, ⟨0, [8], [(_, _)]⟩]) [34] rfl rfl rfl rfl rfl (n_buildSlice (l := [_, _]) rfl SlEl.h TyZ.h (by decide) (by decide) rfl) (fun _ => putS rfl (by simp only [List.set]; rfl)) (by simp) fun j11 hj11 => ?_
   refine TD.capp (pend' := [⟨3, [10], []⟩]) [30, 35] rfl rfl rfl rfl rfl (a_app rfl ApOf.h rfl (by repeat (first | exact List.Mem.head _ | assumption | apply List.Mem.tail)) (refsG_len P) rfl (src_row (ln := [_, _]) (by repeat (first | exact List.Mem.head _ | assumption | apply List.Mem.tail)) (by decide) (by simp) rfl) (by omega) rfl (by unfold maxLen; omega) (by omega)) (fun _ => (by repeat (first | exact Upd.head | apply Upd.tail))) (fun _ => putS rfl (by simp only [List.set]; rfl)) (fun _ => (by simp)) fun jo2 => ?_
   refine TD.s (pend' := []) [8, 36] rfl rfl (q_store rfl rfl TySz.h rfl rfl (by repeat (first | exact List.Mem.head _ | assumption | apply List.Mem.tail)) rfl) ?_
   refine TD.fin ?_
   refine au [14] ?_
   refine TK.kp ((l, lb) :: (e, seenO b) :: (jr, _) :: (jl, _) :: (jo2, _) :: (jx, _) :: (1, _) :: (s, _) :: objsG P) ?_
   refine TK.perm (K' := (l, lb) :: (e, seenO b) :: (jl, _) :: (jo2, _) :: (jx, _) :: (1, _) :: (s, _) :: objsG (P ++ [(jr, S, wrongM b S)])) (by rw [objsG_app]; exact (List.Perm.cons _ (List.Perm.cons _ (List.perm_append_singleton _ ((jl, _) :: (jo2, _) :: (jx, _) :: (1, _) :: (s, _) :: objsG P)).symm))) ?_
   exact hfin _ _ ((jl, _) :: (jo2, _) :: (jx, _) :: (1, _) :: (s, _) :: objsG (P ++ [(jr, S, wrongM b S)])) _ (.all _) ⟨jo2, P ++ [(jr, S, wrongM b S)], by rw [guessM_T (by simpa using hc1), List.map_append, hP]; rfl, by rw [refsG_app, List.length_append] <;> rfl⟩
  refine au [12, 14] ?_
  exact hfin _ _ ((jl, _) :: (jo, _) :: (jx, _) :: (1, _) :: (s, _) :: objsG P) _ (by repeat (first | exact Split.none _ | exact Split.all _ | (apply Split.rem; repeat (first | exact Rem.head | apply Rem.tail)) | apply Split.right)) ⟨jo, P, by rw [guessM_F (by simpa using hc1)]; exact hP, rfl⟩
 ·obtain ⟨jo, P, hP, rfl⟩ := hJ
  have hPl : P.length ≤ 65536 := by
   have h1 := congrArg List.length hP
   have h2 := allM_len hb
   have h3 := List.length_filter_le (fun S => !badM b S b.seekers.length) (allM b)
   unfold guessM at h1
   simp only [List.length_map] at h1
   omega
  simp only [List.cons_append, List.nil_append]
  refine TK.perm (List.Perm.cons _ (List.Perm.cons _ (List.Perm.cons _ (List.Perm.cons _ (List.Perm.cons _ (List.Perm.cons _ (List.Perm.cons _ List.perm_append_comm))))))) ?_
  simp only [List.cons_append, List.nil_append]
  refine au [14, 4, 4, 5, 9, 28, 6, 3, 20] ?_
  refine ⟨fun hc2 => ?_, fun hc2 => ?_⟩
  ·have hPn : P = [] := List.eq_nil_of_length_eq_zero (by have h : (P.length : Int) = 0 := (by simpa using hc2); omega)
   refine au [4, 5, 2, 2, 2, 2, 3] ?_
   refine TK.leave (.ret _) fun A hA => hret _ _ _ _ ([(0, _), (1, _), (s, _), (e, _)]) ([(0, _), (1, _), (s, _), (e, _)]) _ _ _ (.inr rfl) (by repeat (first | exact Split.none _ | exact Split.all _ | (apply Split.rem; repeat (first | exact Rem.head | apply Rem.tail)) | apply Split.right)) (by simp) (by simp) (by repeat (first | exact Split.none _ | exact Split.all _ | (apply Split.rem; repeat (first | exact Rem.head | apply Rem.tail)) | apply Split.right)) (res_many (.cons (rk_tmp rfl) (.cons (rk_tmp rfl) (.cons (rk_tmp rfl) (.cons (rk_tmp rfl) ResKs.nil)))) rfl) ?_ A hA
   exact .inr (.inl ⟨hck, by rw [← hP, hPn]; rfl, rfl, rfl⟩)
  obtain ⟨p, ps, rfl⟩ : ∃ p ps, P = p :: ps := by
   cases P with
   | nil => exact absurd hc2 (by decide)
   | cons p ps => exact ⟨p, ps, rfl⟩
  have hlen : ∀ x ∈ p :: ps, x.2.1.length ≤ 1000 := fun x hx => by
   have h1 : x.2 ∈ guessM b (allM b) := by rw [← hP]; exact List.mem_map_of_mem (f := fun x : Gs => x.2) hx
   obtain ⟨S, hS, h2⟩ := List.mem_map.1 h1
   have := (allM_ok hb S (List.mem_filter.1 hS).1).len
   rw [← h2]; dsimp only; omega
  refine au [12, 4] ?_
  refine TK.draw [0, 1, 2, 3, 4, 5, 6, 7] [0, 1, 2, 3, 4, 5, 6, 7] (by kernel_rfl) (by kernel_rfl) ?_
  refine TD.y [8] rfl (hq := q_load1 rfl rfl TySz.h (List.Mem.head _) rfl) (h := ?_)
  refine TD.y [40] rfl (hq := q_indexRow rfl rfl rfl SlEl.h (List.Mem.head _) (by first | omega | (simp only [List.length_cons]; omega)) (by first | omega | (simp only [List.length_cons]; omega))) (h := ?_)
  refine TD.y [41] rfl (hq := q_load rfl rfl TySz.h (List.Mem.head _) (refsG_take (k := 0) (by simp))) (h := ?_)
  refine TD.y [8] rfl (hq := q_load1 rfl rfl TySz.h (List.Mem.head _) rfl) (h := ?_)
  refine TD.y [43] rfl (hq := q_sliceRow rfl rfl SlEl.h (List.Mem.head _) rfl rfl (by first | omega | (simp only [List.length_cons]; omega)) (by first | omega | (simp only [List.length_cons]; omega)) rfl) (h := ?_)
  refine TD.c2 (i1 := 5) (i2 := 6) (pend1 := [⟨3, [8], [(_, _)]⟩, ⟨1, [40], [(_, _)]⟩, ⟨0, [8], [(_, _)]⟩]) (pend2 := [⟨4, [43], [(_, _)]⟩, ⟨3, [8], [(_, _)]⟩, ⟨2, [41], [(_, _)]⟩, ⟨1, [40], [(_, _)]⟩, ⟨0, [8], [(_, _)]⟩]) (L1 := [6, 7]) (L2 := [5, 7]) [42, 44] [] rfl rfl rfl rfl rfl rfl rfl ?_ ?_
  ·refine exK_callO rfl rfl Cal.h rfl (firstGuess_ok hT (o := p) (xs := ps) (lt := fun a c => ltGuess a.2 c.2) (fv := .fn 82 [] []) (jo := jo) (off := 2) (obo := .row (refsG (p :: ps)) 125 2) (K := (jo, .row (refsG (p :: ps)) 125 2) :: objsG (p :: ps)) (by simp at hPl; omega) (by simp) (fun k hk => by rw [show 2 + ((k : Int)).toNat * 2 = (k + 1) * 2 by rw [Int.toNat_natCast]; omega]; exact refsG_take (P := p :: ps) (k := k + 1) (by simpa using hk)) (fun x hx y hy => callFK_fn Cal.h (likely1_ok hT (List.mem_cons_of_mem _ (objsG_mem hx)) (List.mem_cons_of_mem _ (objsG_mem hy)) (ints_at _ _ _) (ints_at _ _ _) (hlen x hx) (hlen y hy)))) (by repeat (first | exact Split.none _ | exact Split.all _ | (apply Split.rem; repeat (first | exact Rem.head | apply Rem.tail)) | apply Split.right)) fun r12 K13 h14 => ⟨?_, ?_⟩
   ·rcases h14 with ⟨rfl, rfl⟩
    all_goals simp
   obtain ⟨rfl, rfl⟩ := h14
   try simp only [List.cons_append, List.nil_append]
   refine TD.norm (env' := [_, _, _, _, _, _, _, _, _, _, _, _, _, _, _, _, _, _, _, _, _, _, _, _, _, _, _, _, _, _, _, _, _, _, _, _, _, _, _, _, _, _, _, _, _, _, _, _, _, _]) rfl ?_
   refine TD.perm (List.Perm.cons _ List.perm_append_comm) ?_
   simp only [List.cons_append, List.nil_append]
   generalize hres0 : firstL (fun (a c : Gs) => ltGuess a.2 c.2) p ps = res
   have hmem : res ∈ p :: ps := hres0 ▸ firstL_mem
   obtain ⟨R1, hR1⟩ := rem_of_mem (objsG_mem hmem)
   have hcl : res.2 = likelyM b := by
    rw [← hres0, firstL_map (fun x : Gs => x.2)]
    unfold likelyM
    rw [← hP]; rfl
   refine TD.cnewP (pend' := [⟨3, [8], [(_, _)]⟩, ⟨1, [40], [(_, _)]⟩, ⟨0, [8], [(_, _)]⟩]) [] rfl rfl rfl rfl rfl (n_allocA rfl TyZA.h) (fun _ => putS rfl (by simp only [List.set]; rfl)) (by simp) fun jg hjg => ?_
   refine TD.s (pend' := []) [12, 45] rfl rfl (q_store rfl rfl TySz.h rfl rfl (by repeat (first | exact List.Mem.head _ | assumption | apply List.Mem.tail)) rfl) ?_
   refine TD.fin ?_
   refine au [4] ?_
   refine TK.draw [0, 1, 2, 3, 4, 5, 6, 7] [0, 1, 4, 2, 3, 5, 6, 7] (by kernel_rfl) (by kernel_rfl) ?_
   refine TD.z [12] rfl (q_fieldAddr rfl rfl FldOf.h (by decide)) ?_
   refine TD.y [46] rfl (hq := q_load1 rfl rfl TySz.h (List.Mem.head _) rfl) (h := ?_)
   refine TD.z [12] rfl (q_fieldAddr rfl rfl FldOf.h (by decide)) ?_
   refine TD.y [48] rfl (hq := q_load1 rfl rfl TySz.h (List.Mem.head _) rfl) (h := ?_)
   refine TD.as (pend' := [⟨3, [48], [(_, _)]⟩, ⟨2, [12], []⟩]) [47] rfl rfl (q_assign rfl rfl) ?_
   refine TD.as (pend' := []) [49] rfl rfl (q_assign rfl rfl) ?_
   refine TD.as (pend' := []) [] rfl rfl (q_assign rfl rfl) ?_
   refine TD.as (pend' := []) [] rfl rfl (q_assign rfl rfl) ?_
   refine TD.fin ?_
   refine TK.leave (.ret _) fun A hA => hret _ _ _ _ ([(0, _), (1, _), (s, _), (e, _), (res.1, .cells (res.2.1.map intA) 3 false)]) ([(0, _), (1, _), (s, _), (e, _), (res.1, .cells (res.2.1.map intA) 3 false)]) _ _ _ (.inr rfl) (by repeat (first | exact Split.none _ | exact Split.all _ | (apply Split.rem; repeat (first | exact Rem.head | exact hR1 | apply Rem.tail)) | apply Split.right)) (by simp) (by simp) (by repeat (first | exact Split.none _ | exact Split.all _ | (apply Split.rem; repeat (first | exact Rem.head | exact hR1 | apply Rem.tail)) | apply Split.right)) (res_many (.cons (rk_tmp rfl) (.cons (rk_tmp rfl) (.cons (rk_tmp rfl) (.cons (rk_tmp rfl) ResKs.nil)))) rfl) ?_ A hA
   refine .inr (.inr ⟨hck, by rw [← hP]; simp, res.1, ?_, ?_⟩)
   ·rw [← hcl]; rfl
   ·rw [← hcl]
  ·refine exK_newP rfl (n_allocA rfl TyZA.h) (fun _ => putS rfl (by simp only [List.set]; rfl)) (by simp) fun jg hjg => ?_
   refine TD.cl (pend' := [⟨3, [8], [(_, _)]⟩, ⟨1, [40], [(_, _)]⟩, ⟨0, [8], [(_, _)]⟩]) [42, 44] rfl rfl rfl rfl rfl (firstGuess_ok hT (o := p) (xs := ps) (lt := fun a c => ltGuess a.2 c.2) (fv := .fn 82 [] []) (jo := jo) (off := 2) (obo := .row (refsG (p :: ps)) 125 2) (K := (jo, .row (refsG (p :: ps)) 125 2) :: objsG (p :: ps)) (by simp at hPl; omega) (by simp) (fun k hk => by rw [show 2 + ((k : Int)).toNat * 2 = (k + 1) * 2 by rw [Int.toNat_natCast]; omega]; exact refsG_take (P := p :: ps) (k := k + 1) (by simpa using hk)) (fun x hx y hy => callFK_fn Cal.h (likely1_ok hT (List.mem_cons_of_mem _ (objsG_mem hx)) (List.mem_cons_of_mem _ (objsG_mem hy)) (ints_at _ _ _) (ints_at _ _ _) (hlen x hx) (hlen y hy)))) (fun r15 K16 h17 => ⟨?_, ?_⟩)
   ·rcases h17 with ⟨rfl, rfl⟩
    all_goals simp
   obtain ⟨rfl, rfl⟩ := h17
   try simp only [List.cons_append, List.nil_append]
   refine TD.norm (by simp only [List.set]; rfl) ?_
   refine TD.perm (List.Perm.cons _ List.perm_append_comm) ?_
   simp only [List.cons_append, List.nil_append]
   generalize hres0 : firstL (fun (a c : Gs) => ltGuess a.2 c.2) p ps = res
   have hmem : res ∈ p :: ps := hres0 ▸ firstL_mem
   obtain ⟨R1, hR1⟩ := rem_of_mem (objsG_mem hmem)
   have hcl : res.2 = likelyM b := by
    rw [← hres0, firstL_map (fun x : Gs => x.2)]
    unfold likelyM
    rw [← hP]; rfl
   refine TD.s (pend' := []) [12, 45] rfl rfl (q_store rfl rfl TySz.h rfl rfl (by repeat (first | exact List.Mem.head _ | assumption | apply List.Mem.tail)) rfl) ?_
   refine TD.fin ?_
   refine au [4] ?_
   refine TK.draw [0, 1, 2, 3, 4, 5, 6, 7] [0, 1, 4, 2, 3, 5, 6, 7] (by kernel_rfl) (by kernel_rfl) ?_
   refine TD.z [12] rfl (q_fieldAddr rfl rfl FldOf.h (by decide)) ?_
   refine TD.y [46] rfl (hq := q_load1 rfl rfl TySz.h (List.Mem.head _) rfl) (h := ?_)
   refine TD.z [12] rfl (q_fieldAddr rfl rfl FldOf.h (by decide)) ?_
   refine TD.y [48] rfl (hq := q_load1 rfl rfl TySz.h (List.Mem.head _) rfl) (h := ?_)
   refine TD.as (pend' := [⟨3, [48], [(_, _)]⟩, ⟨2, [12], []⟩]) [47] rfl rfl (q_assign rfl rfl) ?_
   refine TD.as (pend' := []) [49] rfl rfl (q_assign rfl rfl) ?_
   refine TD.as (pend' := []) [] rfl rfl (q_assign rfl rfl) ?_
   refine TD.as (pend' := []) [] rfl rfl (q_assign rfl rfl) ?_
   refine TD.fin ?_
   refine TK.leave (.ret _) fun A hA => hret _ _ _ _ ([(0, _), (1, _), (s, _), (e, _), (res.1, .cells (res.2.1.map intA) 3 false)]) ([(0, _), (1, _), (s, _), (e, _), (res.1, .cells (res.2.1.map intA) 3 false)]) _ _ _ (.inr rfl) (by repeat (first | exact Split.none _ | exact Split.all _ | (apply Split.rem; repeat (first | exact Rem.head | exact hR1 | apply Rem.tail)) | apply Split.right)) (by simp) (by simp) (by repeat (first | exact Split.none _ | exact Split.all _ | (apply Split.rem; repeat (first | exact Rem.head | exact hR1 | apply Rem.tail)) | apply Split.right)) (res_many (.cons (rk_tmp rfl) (.cons (rk_tmp rfl) (.cons (rk_tmp rfl) (.cons (rk_tmp rfl) ResKs.nil)))) rfl) ?_ A hA
   refine .inr (.inr ⟨hck, by rw [← hP]; simp, res.1, ?_, ?_⟩)
   ·rw [← hcl]; rfl
   ·rw [← hcl]
 ·exact hD.elim
end Go.Vel
end
