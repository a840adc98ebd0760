/- Texts for the statements of chapter 8: what all of them need, part 1. It holds of every program, tape and world that the statements name, as each theorem says. -/
import Derived.Conc.Beside
import Derived.Laws.Sem
import Derived.Conc.CompanyMem
import Derived.Conc.AppendWalk
import Derived.ProofKit
import Derived.Laws.Slices
import Derived.Laws.Build
import Derived.Laws.Small
import Derived.Laws.Append
namespace Go.Vel
theorem Z.{u} {α:Sort u} {a:α}:a=a:=rfl
theorem mQ {α:Type} {x:α} {K:List α} (h:List.Mem x K:=by repeat (first | exact List.Mem.head _ | assumption | apply List.Mem.tail)):List.Mem x K:=h
theorem oQ {p:Prop} (h:p:=by omega):p:=h
theorem dQ {p:Prop} (h:p:=by decide):p:=h
theorem sQ {p:Prop} (h:p:=by simp):p:=h
theorem tQ {α:Type} {a b:α} (h:a=b:=by simp only [List.set]; rfl):a=b:=h
theorem cA {α:Type}:(∀ (a:α) (l m:List α),a::l++m=a::(l++m))/\∀ m:List α,[]++m=m:=⟨fun _ _ _=>rfl,fun _=>rfl⟩
end Go.Vel
section
set_option linter.all false
set_option maxRecDepth 20000
set_option maxHeartbeats 60000000
open List renaming getElem?_eq_getElem -> lA, getElem?_eq_some_iff -> lD, getD_eq_getElem?_getD -> lE, length_append -> lF, getElem?_append_left -> lG, length_map -> lJ, mem_of_getElem? -> lN, getElem?_append_right -> lO, getElem?_map -> lQ, mem_singleton -> lS, getElem?_set -> lX, length_cons -> lZ, map_congr_left -> mA, replicate -> mB
open Array renaming getElem?_eq_getElem -> mD, getElem?_setIfInBounds_ne -> mE, getElem?_setIfInBounds_self_of_lt -> mF, getElem?_eq_some_iff -> mG, getElem?_toList -> mI, getElem?_map -> mJ, empty_append -> mK
open Nat renaming le_refl -> mL, lt_of_lt_of_le -> mM, zero_le -> mN, zero_add -> mO, eq_zero_or_pos -> mP, lt_or_ge -> mR
open Bool renaming false_eq_true -> mU
open Option renaming map_eq_some_iff -> mY
namespace Go.Vel
open Go Go.Conc
open Go.ConcN (sumTo upd upd_ne upd_same)
theorem zk8 {n:Nat} {r:Nat} (w s:Bool) (h:r<n):(MemAct.ofEvent ⟨.obj r,w,s⟩).low n:=by cases w <;> cases s <;> exact h
abbrev Hp:=Nat->Option (Bool×Obj)
def z6 (H:Hp) (w:World):Prop:=∀ b rw o,H b=some (rw,o)->w.heap[b]? =some o
def Hp.next (H:Hp) (w w':World):Hp:=fun b=>match H b with
 | some (false,o)=>some (false,o)
 | some (true,_)=>(w'.heap[b]?).map fun o=>(true,o)
 | none=>if w.heap.size<=b then (w'.heap[b]?).map fun o=>(true,o) else none
def blk:Loc->Nat
 | .cell a=>a.block
 | .obj r=>r
 | _=>0
def Hp.lets (H:Hp) (b:Nat) (write:Bool):Prop:=∃ rw o,H b=some (rw,o)/\(write=true->rw=true)
def EvH (H:Hp) (e:Event):Prop:=match e.loc with
 | .cell a=>H.lets a.block e.write
 | .obj r=>e.sync=false/\H.lets r e.write
 | .mark m=>m=.noRoom\/∃ f,m=.extern f
 | _=>False
structure StepH (H:Hp) (w w':World) (es:Array Event):Prop where
 size:w.heap.size<=w'.heap.size
 kept:∀ b,b<w.heap.size->(∀ o,H b≠some (true,o))->w'.heap[b]? =w.heap[b]?
 evs:∀ e∈es,EvH (H.next w w') e
 os:w'.os=w.os
 out:w'.output=w.output
 tape:w'.tape=w.tape
theorem z6.lt {H:Hp} {w:World} (h:z6 H w) {b:Nat} {x:Bool×Obj} (hb:H b=some x):b<w.heap.size:=(mG.1 (h b x.1 x.2 hb)).1
theorem z6.next {H:Hp} {w w':World} {es:Array Event} (h:z6 H w) (hs:StepH H w w' es):z6 (H.next w w') w':=by
 intro b rw o hb;unfold Hp.next at hb;split at hb
 ·rename_i o' e;cases hb;rw [hs.kept b (h.lt e) (fun o'' e'=>by rw [e] at e'; cases e')];exact h b _ _ e
 ·obtain ⟨x,hx,e⟩:=mY.1 hb;cases e; exact hx
 ·split at hb
  ·obtain ⟨x,hx,e⟩:=mY.1 hb;cases e; exact hx
  ·cases hb
theorem z6.other {H K:Hp} {w w':World} {es:Array Event} (h:z6 K w) (hs:StepH H w w' es) (hd:∀ b o,H b=some (true,o)->K b=none):z6 K w':=by
 intro b rw o hb;rw [hs.kept b (h.lt hb) (fun o' e=>by rw [hd b o' e] at hb; cases hb)];exact h b rw o hb
theorem zhP {n:Nat} {x:MemAct} {a:Touch} (h:x.low n) (ht:x.touch? =some a) (hm:a.loc.isMemory=true):blk a.loc<n:=by
 cases x with
 | access e =>
  simp only [MemAct.touch?,Option.some.injEq] at ht;subst ht;obtain ⟨loc,wr,sy⟩:=e;cases loc <;> first | exact h | (simp [Loc.isMemory] at hm)
 | mark m =>
  cases m <;> simp only [MemAct.touch?,Option.some.injEq,reduceCtorEq] at ht;all_goals (subst ht; exact h)
 | _=>simp [MemAct.touch?] at ht
theorem zbi {t:Trace} {n idx:Nat} {a:Touch} (h:∀ op∈t,op.act.low n) (ht:touchAt t idx=some a) (hm:a.loc.isMemory=true):blk a.loc<n:=by
 obtain ⟨x,hx,hxa⟩:=touch_of ht;exact zhP (h x (Array.mem_of_getElem? hx)) hxa hm
theorem vW {said:Bool} {t u:Trace} (h:¬ Race said t) (hu:∀ op∈u,op.act.touch? =none):¬ Race said (t++u):=by
 rintro ⟨i,j,hij,⟨a,b,ha,hb,hc⟩,n1,n2⟩;obtain ⟨x,hx,hxa⟩:=touch_of ha;obtain ⟨y,hy,hyb⟩:=touch_of hb;rcases getElem?_append_cases hx with ⟨_,hx'⟩ | ⟨_,hxu⟩
 ·rcases getElem?_append_cases hy with ⟨_,hy'⟩ | ⟨_,hyu⟩
  ·exact h ⟨i,j,hij,⟨a,b,by simp [Trace.act?,hx',hxa],by simp [Trace.act?,hy',hyb],hc⟩,fun e=>n1 (hb_app u e),fun e=>n2 (hb_app u e)⟩
  ·rw [hu y hyu] at hyb; cases hyb
 ·rw [hu x hxu] at hxa; cases hxa
theorem kC {t u:Trace} (hu:∀ op∈u,op.act.touch? =none) {idx:Nat} {a:Touch} (h:touchAt (t++u) idx=some a):touchAt t idx=some a/\idx<t.size:=by
 obtain ⟨x,hx,hxa⟩:=touch_of h;rcases getElem?_append_cases hx with ⟨hlt,hx'⟩ | ⟨_,hxu⟩
 ·exact ⟨by rw [touchAt_of hx']; exact hxa,hlt⟩
 ·rw [hu x hxu] at hxa; cases hxa
theorem wI {t u:Trace} {g:Nat} (hu:∀ op∈u,op.act≠.mark .disable/\op.act≠.mark .enable):Deaf (t++u) g=Deaf t g:=by
 obtain ⟨l⟩:=u;rw [Deaf_append]
 induction l generalizing t with
 | nil=>rfl
 | cons y l ih =>
  have hy:=hu y sQ;have e1:deafStep g (Deaf t g) y=Deaf t g:=by
   unfold deafStep;split
   ·rename_i e; exact absurd e hy.1
   ·rename_i e; exact absurd e hy.2
   ·rfl
  rw [List.foldl_cons,e1];exact ih fun op hop=>hu op (by simp at hop ⊢; exact .inr hop)
theorem zef {t u:Trace} {g:Nat} {y:MemOp} (hy:y.g=g) (hd:Deaf t g=0):(t++#[y]++u).heard t.size:=by
 have e:(t++#[y]++u)[t.size]? =some y:=by
  rw [getElem?_append_old sQ];simp
 refine ⟨g,by unfold Trace.g?; rw [e,Option.map_some,hy],?_⟩;rw [Array.append_assoc,deaf_old (mL _)];exact hd
theorem zde {X:Type} (r:X->X->Prop):∀ (N:Nat) (C:(Nat->X)->Prop),(∀ f:Nat->X,(∀ i,i<N->∀ y,r y (f i)->C (upd f i y))->C f)->∀ f:Nat->X,(∀ i,i<N->Acc r (f i))->C f
 | 0,C,step,f,_=>step f fun i hi=>by omega
 | N+1,C,step,f,hf=>by
  have key:∀ x,Acc r x->∀ f:Nat->X,f N=x->(∀ i,i<N->Acc r (f i))->C f:=by
   intro x hx
   induction hx with
   | intro x _ ih =>
    intro f hfx hacc;refine zde r N (fun f=>f N=x->(∀ i,i<N->Acc r (f i))->C f) (fun f hstep hfx hacc=>?_) f hacc hfx hacc;refine step f fun i hi y hy=>?_;rcases mR i N with hlt | hge
    ·refine hstep i hlt y hy (by rw [upd_ne f y oQ]; exact hfx) fun k hk=>?_;by_cases hki:k=i
     ·subst hki;rw [upd_same];exact (hacc k hk).inv hy
     ·rw [upd_ne f y hki]; exact hacc k hk
    ·obtain rfl:i=N:=by omega
     refine ih y (by rw [<- hfx]; exact hy) (upd f i y) (upd_same f i y) fun k hk=>?_;rw [upd_ne f y oQ];exact hacc k hk
  exact key (f N) (hf N oQ) f rfl fun i hi=>hf i oQ
section
variable {w w':World}
theorem zdc {K:Hp} {es:Array Event} (hf:z6 K w) (hs:StepH K w w' es) {b:Nat} {wr:Bool} (h:K.lets b wr):(K.next w w').lets b wr:=by
 obtain ⟨rw,o,hb,himp⟩:=h;cases rw with
 | false=>exact ⟨false,o,by unfold Hp.next; rw [hb],himp⟩
 | true =>
  have hlt:=hf.lt hb;refine ⟨true,w'.heap[b]'(mM hlt hs.size),?_,fun _=>rfl⟩;unfold Hp.next;rw [hb];simp [mD (mM hlt hs.size)]
theorem zaB {K:Hp} {b:Nat} {rw:Bool} {o:Obj} (h:K.next w w' b=some (rw,o)):(∃ o',K b=some (rw,o'))\/w.heap.size<=b:=by
 unfold Hp.next at h;split at h
 ·rename_i e; cases h; exact .inl ⟨_,e⟩
 ·rename_i e;obtain ⟨x,_,e'⟩:=mY.1 h;cases e'; exact .inl ⟨_,e⟩
 ·split at h
  ·rename_i hge; exact .inr hge
  ·cases h
theorem zau {K:Hp} {e:Event} (h:EvH K e) {b:Touch} (hb:(MemAct.ofEvent e).touch? =some b) (hm:b.loc.isMemory=true):K.lets (blk b.loc) b.write:=by
 obtain ⟨loc,wr,sy⟩:=e;cases loc with
 | cell a =>
  simp only [MemAct.ofEvent,MemAct.touch?,Option.some.injEq] at hb;subst hb;exact h
 | obj r =>
  obtain ⟨hs,hl⟩:=h;simp only at hs;subst hs;have:MemAct.ofEvent ⟨.obj r,wr,false⟩=.access ⟨.obj r,wr,false⟩:=by cases wr <;> rfl
  rw [this] at hb;simp only [MemAct.touch?,Option.some.injEq] at hb;subst hb;exact hl
 | mark m =>
  rcases h with h | ⟨g,h⟩
  ·subst h; simp [MemAct.ofEvent,MemAct.touch?] at hb
  ·subst h; simp [MemAct.ofEvent,MemAct.touch?] at hb
 | _=>exact h.elim
theorem zcw {K:Hp} (hf:z6 K w) {e:Event} (h:EvH K e):(MemAct.ofEvent e).low w.heap.size:=by
 obtain ⟨loc,wr,sy⟩:=e;cases loc with
 | cell a=>obtain ⟨rw,o,hb,_⟩:=h; exact hf.lt hb
 | obj r =>
  obtain ⟨_,rw,o,hb,_⟩:=h;exact zk8 _ _ (hf.lt hb)
 | mark m =>
  rcases h with h | ⟨g,h⟩
  ·subst h; trivial
  ·subst h; trivial
 | _=>exact h.elim
theorem uP {K:Hp} {e:Event} (h:EvH K e):e.loc≠.mark .disable/\e.loc≠.mark .enable:=by
 obtain ⟨loc,wr,sy⟩:=e;cases loc with
 | mark m =>
  rcases h with h | ⟨g,h⟩
  ·subst h; exact ⟨by simp,by simp⟩
  ·subst h; exact ⟨by simp,by simp⟩
 | _=>exact ⟨by simp,by simp⟩
theorem yE {i:Nat} {fn:FuncId} {pos:String} {es:Array Event}:∀ op∈MemOp.ofEvents i fn pos es,op.g=i:=fun op hop=>by
 obtain ⟨e,_,rfl⟩:=Go.Conc.mem_ofEvents hop; rfl
end
end Go.Vel
namespace Go.Vel
open Go Go.Conc
def zm (P:Program) (main:Bool) (T:Goroutine->Hp->Prop):Prop :=
 ∀ g H,g.status=.running->(∀ w,z6 H w->∃ g' w' es,stepG P main g w=.go g' w' es/\StepH H w w' es/\g'.status=.running/\T g' (H.next w w'))->T g H
theorem yS {H:Hp} {w:World} (h:z6 H w):H.next w w=H:=by
 funext b;unfold Hp.next;cases e:H b with
 | none =>
  simp only;split
  ·rename_i hge; rw [Array.getElem?_eq_none hge]; rfl
  ·rfl
 | some x =>
  obtain ⟨rw,o⟩:=x;cases rw with
  | false=>rfl
  | true=>simp only; rw [h b true o e]; rfl
theorem yP {H:Hp} {w:World} (h:z6 H w) {es:Array Event} (he:∀ e∈es,EvH H e):StepH H w w es :=
 ⟨mL _,fun _ _ _=>rfl,by rw [yS h]; exact he,rfl,rfl,rfl⟩
section
variable {P:Program} {main:Bool} {T:Goroutine->Hp->Prop} {H:Hp} {b:Frame} {a:Act} {k:List Item} {cs:List Frame}
theorem zm.ctl (hT:zm P main T) {g g':Goroutine} (hr:g.status=.running) (h:∀ w,stepG P main g w=.go g' w #[]) (hr':g'.status=.running) (hn:T g' H):T g H :=
 hT g H hr fun w hw=>⟨g',w,#[],h w,yP hw (fun e he=>by simp at he),hr',by rw [yS hw]; exact hn⟩
theorem zm.skip (hT:zm P main T) (h:T (G (b.at a k) cs) H):T (G (b.at a (.code .skip::k)) cs) H:=hT.ctl rfl (fun _=>stepG_skip) rfl h
theorem zm.seq (hT:zm P main T) {x y:Code} (h:T (G (b.at a (.code x::.code y::k)) cs) H):T (G (b.at a (.code (.seq x y)::k)) cs) H:=hT.ctl rfl (fun _=>stepG_seq) rfl h
theorem zm.cond (hT:zm P main T) {c:Operand} {x y:Code} (t:Bool) (hc:a.eval c=.bool t) (h:T (G (b.at a (.code (if t then x else y)::k)) cs) H):T (G (b.at a (.code (.cond c x y)::k)) cs) H:=hT.ctl rfl (fun _=>stepG_cond hc) rfl h
theorem zm.block (hT:zm P main T) {id:Nat} {c:Code} (h:T (G (b.at a (.code c::.inBlock id::k)) cs) H):T (G (b.at a (.code (.block id c)::k)) cs) H:=hT.ctl rfl (fun _=>stepG_block) rfl h
theorem zm.inBlock (hT:zm P main T) {id:Nat} (h:T (G (b.at a k) cs) H):T (G (b.at a (.inBlock id::k)) cs) H:=hT.ctl rfl (fun _=>stepG_inBlock) rfl h
theorem zm.loop (hT:zm P main T) {c:Code} (h:T (G (b.at a (.code c::.inLoop c::k)) cs) H):T (G (b.at a (.code (.loop c)::k)) cs) H:=hT.ctl rfl (fun _=>stepG_loop) rfl h
theorem zm.inLoop (hT:zm P main T) {c:Code} (h:T (G (b.at a (.code c::.inLoop c::k)) cs) H):T (G (b.at a (.inLoop c::k)) cs) H:=hT.ctl rfl (fun _=>stepG_inLoop) rfl h
theorem zm.exit (hT:zm P main T) {id:Nat} {k':List Item} (hk:exitTo id k=some k') (h:T (G (b.at a k') cs) H):T (G (b.at a (.code (.exit id)::k)) cs) H:=hT.ctl rfl (fun _=>stepG_exit hk) rfl h
theorem zm.region (hT:zm P main T) {id:Nat} {ops:Array Oper} (h:T (G (b.at a (.inRegion ops (List.range ops.size)::k)) cs) H):T (G (b.at a (.code (.region id ops false)::k)) cs) H:=hT.ctl rfl (fun _=>stepG_region) rfl h
theorem zm.regionEnd (hT:zm P main T) {ops:Array Oper} (h:T (G (b.at a k) cs) H):T (G (b.at a (.inRegion ops []::k)) cs) H:=hT.ctl rfl (fun _=>stepG_region_end) rfl h
theorem zm.ret (hT:zm P main T) (h:T (G { b.at a (.code .ret::k) with mode:=.returning } cs) H):T (G (b.at a (.code .ret::k)) cs) H:=hT.ctl rfl (fun _=>stepG_ret') rfl h
variable {ops:Array Oper} {i:Nat} {rest:List Nat} {o:Oper}
theorem zm.op (hT:zm P main T) (ho:ops[i]? =some o) (hw:Region.wanted o (yielded ops a.tmps)=true) (hk:b.kind≠.early)
  (h:∀ w,z6 H w->∀ K:Act->World->Prop,(∀ a' w',StepH H w w' (listed P b.fn a o w)->T (G (b.at a' (.inRegion ops rest::k)) cs) (H.next w w')->K a' w')->uponK o a K ((execOp a.eval o).run P w)) :
  T (G (b.at a (.inRegion ops (i::rest)::k)) cs) H:=by
 refine hT _ _ Z fun w hf=>?_;have:=h w hf (fun a' w'=>StepH H w w' (listed P b.fn a o w)/\T (G (b.at a' (.inRegion ops rest::k)) cs) (H.next w w')) fun _ _ x y=>⟨x,y⟩;generalize hr:(execOp a.eval o).run P w=r at this
 match r,this with
 | .ok (.value v) w',h=>exact ⟨_,_,_,stepG_value ho hw hk hr,h.1,rfl,h.2⟩
 | .ok .skip w',h=>exact ⟨_,_,_,stepG_none ho hw hk hr,h.1,rfl,h.2⟩
theorem zm.look (hT:zm P main T) {v:Value} (ho:ops[i]? =some o) (hw:Region.wanted o (yielded ops a.tmps)=true) (hk:b.kind≠.early)
  (h:∀ w,z6 H w->∀ K:Result Next->Prop,K (.ok (.value v) w)->K ((execOp a.eval o).run P w)) (he:∀ w,z6 H w->∀ e∈(execOp a.eval o).events P w #[],EvH H e)
  (hn:T (G (b.at (a.put o.dst v) (.inRegion ops rest::k)) cs) H):T (G (b.at a (.inRegion ops (i::rest)::k)) cs) H:=by
 refine hT _ _ Z fun w hf=>?_;have hr:=h w hf (· = .ok (.value v) w) rfl;exact ⟨_,_,_,stepG_value ho hw hk hr,yP hf fun e hm=>he w hf e (mem_listed hm),rfl,by rw [yS hf]; exact hn⟩
theorem zm.pure (hT:zm P main T) {v:Value} (ho:ops[i]? =some o) (hw:Region.wanted o (yielded ops a.tmps)=true) (hk:b.kind≠.early)
  (h:∀ w,∀ K:Result Next->Prop,K (.ok (.value v) w)->K ((execOp a.eval o).run P w)) (he:∀ w,(execOp a.eval o).events P w #[]=#[])
  (hn:T (G (b.at (a.put o.dst v) (.inRegion ops rest::k)) cs) H):T (G (b.at a (.inRegion ops (i::rest)::k)) cs) H :=
 hT.look ho hw hk (fun w _=>h w) (fun w _ e hm=>by rw [he w] at hm; simp at hm) hn
theorem zm.unwanted (hT:zm P main T) (ho:ops[i]? =some o) (hw:Region.wanted o (yielded ops a.tmps)=false)
  (hn:T (G (b.at (a.put o.dst undef) (.inRegion ops rest::k)) cs) H):T (G (b.at a (.inRegion ops (i::rest)::k)) cs) H :=
 hT.ctl rfl (fun _=>stepG_unwanted ho hw) rfl hn
theorem zm.enter (hT:zm P main T) {f:FuncId} {args:Array Value} (ho:ops[i]? =some o) (hw:Region.wanted o (yielded ops a.tmps)=true) (hk:b.kind≠.early)
  (h:∀ w,∀ K:Result Next->Prop,K (.ok (.enter f args) w)->K ((execOp a.eval o).run P w)) (he:∀ w,(execOp a.eval o).events P w #[]=#[])
  (hn:T (G (Frame.enter P f args .normal) (b.at a (.inRegion ops (i::rest)::k)::cs)) H):T (G (b.at a (.inRegion ops (i::rest)::k)) cs) H:=by
 refine hT.ctl (g':=G (Frame.enter P f args .normal) (b.at a (.inRegion ops (i::rest)::k)::cs)) Z (fun w=>?_) rfl hn;rw [stepG_enter ho hw hk (h w (· = .ok (.enter f args) w) rfl)];congr 1;exact listed_nil (he w)
theorem zm.leave (hT:zm P main T) {fn:Func} {todo:List Item} {c:Frame} {v:Value} (hn:b.kind=.normal) (hd:a.defers=[]) (hf:P.funcs[b.fn]? =some fn)
  (hr:∀ w,z6 H w->(results fn a.tmps).run P w=.ok v w) (he:∀ w,z6 H w->∀ e∈(results fn a.tmps).events P w #[],EvH H e)
  (h:T (G (c.finish v) cs) H):T (G { b.at a todo with mode:=.returning } (c::cs)) H:=by
 refine hT _ _ Z fun w hw=>⟨G (c.finish v) cs,w,seen P b.fn ((results fn a.tmps).events P w #[]),?_,yP hw fun e hm=>he w hw e (mem_seen hm),rfl,by rw [yS hw]; exact h⟩;simp [G,stepG,unwind,doReturn,Frame.at,hn,hd,hf,hr w hw,GStep.after]
def CallsH (P:Program) (main:Bool) (f:FuncId) (args:Array Value) (H:Hp) (Post:Value->Hp->Prop):Prop :=
 ∀ T,zm P main T->∀ (c:Frame) (cs:List Frame),(∀ v H',Post v H'->T (G (c.finish v) cs) H')->T (G (Frame.enter P f args .normal) (c::cs)) H
theorem zm.call (hT:zm P main T) {f:FuncId} {args:Array Value} {Post:Value->Hp->Prop} (ho:ops[i]? =some o) (hw:Region.wanted o (yielded ops a.tmps)=true) (hk:b.kind≠.early)
  (h:∀ w,∀ K:Result Next->Prop,K (.ok (.enter f args) w)->K ((execOp a.eval o).run P w)) (he:∀ w,(execOp a.eval o).events P w #[]=#[]) (hc:CallsH P main f args H Post)
  (hn:∀ v H',Post v H'->T (G (b.at (a.put o.dst v) (.inRegion ops rest::k)) cs) H'):T (G (b.at a (.inRegion ops (i::rest)::k)) cs) H:=by
 refine hT.enter ho hw hk h he (hc T hT _ _ fun v H' hp=>?_);rw [Frame.finish_at,ho];exact hn v H' hp
end
def Hp.put (H:Hp) (r:Nat) (x:Bool×Obj):Hp:=fun b=>if b=r then some x else H b
theorem Hp.put_same (H:Hp) (r:Nat) (x:Bool×Obj):H.put r x r=some x:=by simp [Hp.put]
theorem Hp.put_other (H:Hp) {r b:Nat} (x:Bool×Obj) (h:b≠r):H.put r x b=H b:=by simp [Hp.put,h]
theorem Hp.put_put (H:Hp) (r:Nat) (x y:Bool×Obj):(H.put r x).put r y=H.put r y:=by
 funext b;unfold Hp.put;split <;> rfl
def wput (w:World) (r:Nat) (o:Obj):World:={ w with heap:=w.heap.setIfInBounds r o }
section
variable {H:Hp} {w:World}
theorem zb8 (h:z6 H w) (o:Obj):H.next w (w.alloc o)=H.put w.heap.size (true,o):=by
 funext b;have hsz:(w.alloc o).heap=w.heap.push o:=rfl;by_cases hb:b=w.heap.size
 ·subst hb;rw [Hp.put_same];unfold Hp.next;cases e:H w.heap.size with
  | none=>simp [hsz]
  | some x=>exact absurd (h.lt e) (Nat.lt_irrefl _)
 ·rw [Hp.put_other _ _ hb];unfold Hp.next;cases e:H b with
  | none =>
   simp only;split
   ·rw [hsz,Array.getElem?_eq_none (by simp; omega)]; rfl
   ·rfl
  | some x =>
   obtain ⟨rw',o'⟩:=x;cases rw' with
   | false=>rfl
   | true =>
    simp only;have hlt:=h.lt e;rw [hsz,Array.getElem?_push,if_neg hb,h b true o' e];rfl
theorem vo (h:z6 H w) {r:Nat} {o o':Obj} (hr:H r=some (true,o)):H.next w (wput w r o')=H.put r (true,o'):=by
 funext b;have hlt:=h.lt hr;by_cases hb:b=r
 ·subst hb;rw [Hp.put_same];unfold Hp.next;rw [hr];simp only [wput];rw [mF hlt];rfl
 ·rw [Hp.put_other _ _ hb];unfold Hp.next;cases e:H b with
  | none =>
   simp only;split
   ·rename_i hge;rw [wput,mE (Ne.symm hb),Array.getElem?_eq_none hge]; rfl
   ·rfl
  | some x =>
   obtain ⟨rw',o''⟩:=x;cases rw' with
   | false=>rfl
   | true =>
    simp only;rw [wput,mE (Ne.symm hb),h b true o'' e];rfl
theorem zbp (o:Obj):StepH H w (w.alloc o) #[]:=by
 refine ⟨by rw [World.size_alloc]; omega,fun b hb _=>?_,fun e he=>by simp at he,rfl,rfl,rfl⟩;show (w.heap.push o)[b]? =_;rw [Array.getElem?_push,if_neg oQ]
theorem zen {r:Nat} {o o':Obj} (hr:H r=some (true,o)) {b:Nat} {wr:Bool} (h:H.lets b wr):(H.put r (true,o')).lets b wr:=by
 by_cases hb:b=r
 ·subst hb; exact ⟨true,o',Hp.put_same _ _ _,fun _=>rfl⟩
 ·obtain ⟨rw',o'',e,himp⟩:=h;exact ⟨rw',o'',by rw [Hp.put_other _ _ hb]; exact e,himp⟩
theorem zkQ {r:Nat} {o o':Obj} (hr:H r=some (true,o)) {e:Event} (h:EvH H e):EvH (H.put r (true,o')) e:=by
 obtain ⟨loc,wr,sy⟩:=e;cases loc with
 | cell a=>exact zen hr h
 | obj x=>exact ⟨h.1,zen hr h.2⟩
 | mark m=>exact h
 | _=>exact h.elim
theorem vE (h:z6 H w) {r:Nat} {o o':Obj} (hr:H r=some (true,o)) {es:Array Event} (he:∀ e∈es,EvH H e):StepH H w (wput w r o') es:=by
 refine ⟨by simp [wput],fun b _ hn=>?_,fun e hm=>?_,rfl,rfl,rfl⟩
 ·have hb:r≠b:=fun e=>hn o (e ▸ hr);show (w.heap.setIfInBounds r o')[b]? =_;rw [mE hb]
 ·rw [vo h hr];exact zkQ hr (he e hm)
theorem zeW {r off:Nat} {c:Array Value} {e:TypeId} {fz:Nat×Nat} {v:Value} (h:w.heap[r]? =some (.cells c e fz)):w.setCell ⟨r,off,none⟩ v=wput w r (.cells (c.setIfInBounds off v) e fz):=by
 obtain ⟨hlt,he⟩:=mG.1 h;unfold World.setCell wput;congr 1;apply Array.ext_getElem?;intro k;rw [Array.getElem?_modify];by_cases hk:r=k
 ·subst hk;rw [if_pos rfl,h,mF hlt];rfl
 ·rw [if_neg hk,mE hk]
theorem z6.cell (h:z6 H w) {r off:Nat} {rw':Bool} {c:Array Value} {e:TypeId} {fz:Nat×Nat} {v:Value} (hr:H r=some (rw',.cells c e fz)) (hv:c[off]? =some v):w.cell? ⟨r,off,none⟩=some v:=by
 unfold World.cell?;rw [h r _ _ hr];simp [hv]
theorem z6.frozen (h:z6 H w) {r:Nat} (off:Nat) {rw':Bool} {c:Array Value} {e:TypeId} (hr:H r=some (rw',.cells c e (0,0))):w.frozen? ⟨r,off,none⟩=false:=by
 unfold World.frozen?;rw [h r _ _ hr];simp
end
section
variable {P:Program} {main:Bool} {T:Goroutine->Hp->Prop} {H:Hp} {b:Frame} {a:Act} {k:List Item} {cs:List Frame} {ops:Array Oper} {i:Nat} {rest:List Nat} {o:Oper}
theorem zm.new (hT:zm P main T) {o':Obj} (ho:ops[i]? =some o) (hw:Region.wanted o (yielded ops a.tmps)=true) (hk:b.kind≠.early)
  (h:∀ w,∀ K:Result Next->Prop,K (.ok (.value (.pointer (some ⟨w.heap.size,0,none⟩))) (w.alloc o'))->K ((execOp a.eval o).run P w)) (he:∀ w,(execOp a.eval o).events P w #[]=#[])
  (hn:∀ r,H r=none->T (G (b.at (a.put o.dst (.pointer (some ⟨r,0,none⟩))) (.inRegion ops rest::k)) cs) (H.put r (true,o'))):T (G (b.at a (.inRegion ops (i::rest)::k)) cs) H:=by
 refine hT _ _ Z fun w hf=>?_;have hr:=h w (· = .ok (.value (.pointer (some ⟨w.heap.size,0,none⟩))) (w.alloc o')) rfl;refine ⟨_,_,_,stepG_value ho hw hk hr,?_,rfl,?_⟩
 ·rw [listed_nil (he w)]; exact zbp o'
 ·rw [zb8 hf];refine hn _ ?_;cases e:H w.heap.size with
  | none=>rfl
  | some x=>exact absurd (hf.lt e) (Nat.lt_irrefl _)
theorem zm.store (hT:zm P main T) {r:Nat} {o₁ o':Obj} (hr:H r=some (true,o₁)) (ho:ops[i]? =some o) (hw:Region.wanted o (yielded ops a.tmps)=true) (hk:b.kind≠.early)
  (h:∀ w,z6 H w->∀ K:Result Next->Prop,K (.ok .skip (wput w r o'))->K ((execOp a.eval o).run P w)) (he:∀ w,z6 H w->∀ e∈(execOp a.eval o).events P w #[],EvH H e)
  (hn:T (G (b.at (a.put o.dst undef) (.inRegion ops rest::k)) cs) (H.put r (true,o'))):T (G (b.at a (.inRegion ops (i::rest)::k)) cs) H:=by
 refine hT _ _ Z fun w hf=>?_;have hrun:=h w hf (· = .ok .skip (wput w r o')) rfl;exact ⟨_,_,_,stepG_none ho hw hk hrun,vE hf hr fun e hm=>he w hf e (mem_listed hm),rfl,by rw [vo hf hr]; exact hn⟩
end
def Hp.ownsRow (H:Hp) (e:TypeId) (size:Nat) (v:Value) (n:Nat) (xs:List Value):Prop :=
 xs.length=n*size/\((v=.slice none 0 0/\n=0) \/
  ∃ g cap cur,v=.slice (some ⟨g,0,none⟩) n cap/\H g=some (true,.cells cur e (0,0))/\n<=cap/\cap<=maxLen/\cur.size=cap*size/\cur.toList.take (n*size)=xs)
theorem Hp.ownsRow.world {H:Hp} {e:TypeId} {size:Nat} {v:Value} {n:Nat} {xs:List Value} (h:H.ownsRow e size v n xs) {w:World} (hw:z6 H w):w.ownsRow 0 e size v n xs:=by
 refine ⟨h.1,h.2.imp id ?_⟩;rintro ⟨g,cap,cur,h1,h2,h3⟩;exact ⟨g,cap,cur,h1,mN _,hw g _ _ h2,h3⟩
theorem Hp.ownsRow.put {H:Hp} {e:TypeId} {size:Nat} {v:Value} {n:Nat} {xs:List Value} (h:H.ownsRow e size v n xs) {r:Nat} (hr:H r=none) (x:Bool×Obj):(H.put r x).ownsRow e size v n xs:=by
 refine ⟨h.1,h.2.imp id ?_⟩;rintro ⟨g,cap,cur,h1,h2,h3⟩;have:g≠r:=fun e=>by rw [e,hr] at h2; cases h2
 exact ⟨g,cap,cur,h1,by rw [Hp.put_other _ _ this]; exact h2,h3⟩
theorem Hp.ownsRow.get {H:Hp} {e:TypeId} {a0:Option Addr} {n c:Nat} {xs:List Value} (h:H.ownsRow e 1 (.slice a0 n c) n xs) {j:Nat} {u:Value} (hu:xs[j]? =some u):∃ g cur,a0=some ⟨g,0,none⟩/\H g=some (true,.cells cur e (0,0))/\cur[j]? =some u:=by
 have hlt:j<xs.length:=(lD.1 hu).1;rcases h.2 with ⟨_,rfl⟩ | ⟨g,cap,cur,e1,h2,_,_,_,h3⟩
 ·rw [h.1] at hlt; omega
 ·cases e1;refine ⟨g,cur,rfl,h2,?_⟩;rw [<- h3,List.getElem?_take] at hu;split at hu
  ·simpa using hu
  ·cases hu
theorem zdJ {P:Program} (w:World) (t ty e:TypeId) (i:TypeInfo) (z:Value) (size bytes:Nat) (ht:P.underlying t=some (.slice e)) (hi:P.info? e=some i) (hz:i.zero=some z)
  (hsize:i.size=size) (hby:i.bytes=bytes)
  (v:Value) (n:Nat) (xs:List Value) (hown:w.ownsRow 0 e size v n xs)
  (a:Addr) (m c:Nat) (news:List Value) (hl:news.length=m*size) (hnews:∀ j u,news[j]? =some u->w.cell? (a.add j)=some u) (h1:∀ u∈news,u.oneCell'=true)
  (h63:n+m<=maxLen) (hbytes:(n+m)*bytes<=140737488355328) {v':Value} {w':World} (hr:(Builtin.append_ #[t,t] ty #[v,.slice (some a) m c]).run P w=.ok v' w') :
  ∀ g,v'.ownBlock=some g->v.ownBlock=some g\/w.heap.size<=g:=by
 subst hsize;subst hby;have hsmall:n+m<=9223372036854775807:=by simp only [maxLen] at h63; omega
 intro g' hg';rcases hown.2 with ⟨rfl,rfl⟩ | ⟨g,cap,cur,rfl,_,hg,hnc,hcm,hcs,htake⟩
 ·by_cases hm:m=0
  ·subst hm;have:(Builtin.append_ #[t,t] ty #[.slice none 0 0,.slice (some a) 0 c]).run P w=.ok (.slice none 0 0) w:=by
    simp [Builtin.append_,run_underlying ht,sizeOf,typeInfo,hi,Builtin.lenOf,Builtin.firstCells,loadCells,loadCellsFrom]
   rw [this] at hr;cases hr;cases hg'
  ·have h2:=run_append_nil (P:=P) w t ty e i z ht hi hz a m c news hl hnews oQ oQ (by have hb:=hbytes; simp only [mO] at hb; omega);rw [h2] at hr;cases hr;cases hg';exact .inr (mL _)
 ·by_cases hroom:n+m<=cap
  ·have hfit:n*i.size+news.length<=cur.size:=by rw [hl,hcs,<- Nat.add_mul]; exact Nat.mul_le_mul_right _ hroom
   have h2:=run_append_room (P:=P) w t ty e i ht hi g n cap cur hg a m c news hl hnews h1 hroom hfit;rw [h2] at hr;cases hr;exact .inl hg'
  ·have holds:∀ j u,xs[j]? =some u->w.cell? ((⟨g,0,none⟩:Addr).add j)=some u:=hown.cells (g:=g) rfl;have h2:=run_append_grow (P:=P) w t ty e i z ht hi hz ⟨g,0,none⟩ n cap xs hown.1 holds a m c news hl hnews oQ oQ (growslice_fits oQ hbytes);rw [h2] at hr;cases hr;cases hg';exact .inr (mL _)
theorem zhW {H:Hp} {w w':World} (hw:z6 H w) {b:Nat} {x:Bool×Obj} (hb:H b=some x) (h:w'.heap[b]? =w.heap[b]?):H.next w w' b=some x:=by
 obtain ⟨rw',o⟩:=x;unfold Hp.next;rw [hb];cases rw' with
 | false=>rfl
 | true=>simp only; rw [h,hw b true o hb]; rfl
section
variable {P:Program} {main:Bool} {T:Goroutine->Hp->Prop} {H:Hp} {b:Frame} {a:Act} {k:List Item} {cs:List Frame} {ops:Array Oper} {i:Nat} {rest:List Nat} {o:Oper}
theorem zm.loopN (hT:zm P main T) {c:Code} (I:Nat->Act->Hp->Prop) (n:Nat) (h0:I n a H)
  (round:∀ n a H,I n a H->(∀ n' a' H',n'<n->I n' a' H'->T (G (b.at a' (.inLoop c::k)) cs) H')->T (G (b.at a (.code c::.inLoop c::k)) cs) H):T (G (b.at a (.code (.loop c)::k)) cs) H:=by
 refine hT.loop ?_;have key:∀ n a H,I n a H->T (G (b.at a (.code c::.inLoop c::k)) cs) H:=by
  intro n
  induction n using Nat.strongRecOn with
  | _ n ih =>
   intro a H hI;exact round n a H hI fun n' a' H' hlt hI'=>hT.inLoop (ih n' hlt a' H' hI')
 exact key n a H h0
def Hp.ext (H H':Hp):Prop:=∀ b x,H b=some x->H' b=some x
theorem Hp.ext_put {H H':Hp} (h:H.ext H') {r:Nat} (hr:H r=none) (x:Bool×Obj):H.ext (H'.put r x):=fun b y hb=>by
 have:b≠r:=fun e=>by rw [e,hr] at hb; cases hb
 rw [Hp.put_other _ _ this];exact h b y hb
theorem zm.append (hT:zm P main T) (ho:ops[i]? =some o) (hw:Region.wanted o (yielded ops a.tmps)=true) (hk:b.kind≠.early) (s x:Operand) (t:TypeId)
  (hop:o.op=.call { callee:=.builtin .append,args:=#[s,x],argTypes:=#[t,t] }) {e:TypeId} {ti:TypeInfo} {z:Value} {size bytes:Nat} (ht:P.underlying t=some (.slice e)) (hi:P.info? e=some ti) (hz:ti.zero=some z)
  (hsize:ti.size=size) (hby:ti.bytes=bytes) (hzs:z.cells.size=size) (hsz:0<size) {v:Value} {n:Nat} {xs:List Value} (hs:a.eval s=v) (hown:H.ownsRow e size v n xs)
  {ad:Addr} {m c:Nat} {news:List Value} (hx:a.eval x=.slice (some ad) m c) (hl:news.length=m*size) (hnews:∀ w,z6 H w->∀ j u,news[j]? =some u->w.cell? (ad.add j)=some u) (hlets:H.lets ad.block false)
  (h1:∀ u∈news,u.oneCell'=true) (h63:n+m<=maxLen) (hbytes:(n+m)*bytes<=140737488355328)
  (hn:∀ v' H',H'.ownsRow e size v' (n+m) (xs++news)->(∀ b x,H b=some x->some b≠v.ownBlock->H' b=some x)->(v'=.slice none 0 0↔v=.slice none 0 0/\m=0) ->
   (∀ g,v'.ownBlock=some g->v.ownBlock=some g\/H g=none)->T (G (b.at (a.put o.dst v') (.inRegion ops rest::k)) cs) H') :
  T (G (b.at a (.inRegion ops (i::rest)::k)) cs) H:=by
 refine hT _ _ Z fun w hf=>?_;have how:=hown.world hf;obtain ⟨v',w',hr,ho',hg,hiff⟩:=run_append_own (P:=P) w 0 t o.type e ti z size bytes ht hi hz hsize hby hzs hsz v n xs how ad m c news hl (hnews w hf) h1 h63 hbytes (mN _);have hrun:(execOp a.eval o).run P w=.ok (.value v') w':=by
  unfold execOp;simp only [hop,resolve,invoke,builtin,Sem.run_bind,Sem.run_pure,Result.andThen_ok,List.map_toArray,List.map_cons,List.map_nil,hs,hx,hr]
 have hblk:=zdJ (P:=P) w t o.type e ti z size bytes ht hi hz hsize hby v n xs how ad m c news hl (hnews w hf) h1 h63 hbytes hr;have hmine:∀ g,v.ownBlock=some g->∃ o,H g=some (true,o):=fun g hg=>by
  rcases hown.2 with ⟨rfl,_⟩ | ⟨g',cap,cur,rfl,h2,_⟩
  ·cases hg
  ·cases hg; exact ⟨_,h2⟩
 have hkept:∀ b,b<w.heap.size->some b≠v.ownBlock->w'.heap[b]? =w.heap[b]? :=hg.block;have hS:StepH H w w' (listed P b.fn a o w):=by
  refine ⟨hg.size,fun b hb hno=>hkept b hb fun e=>?_,fun ev hev=>?_,hg.os,hg.output,hg.tape⟩
  ·obtain ⟨o,h2⟩:=hmine b e.symm;exact hno o h2
  ·have hm:=mem_listed hev;rw [events_append_op s x t hop hs hx] at hm;rcases events_append_where (P:=P) w 0 t o.type e ti z size bytes ht hi hz hsize hby v n xs how ad m c news hl (hnews w hf) h1 h63 hbytes ev hm with ⟨ad',hloc,hcase⟩ | ⟨mk,rfl,hneu⟩
   ·obtain ⟨loc,wr,sy⟩:=ev;simp only at hloc hcase;subst hloc;have hl':∀ b,(∃ x,H b=some x)->∃ rw' o',H.next w w' b=some (rw',o')/\((∃ o,H b=some (true,o))->rw'=true):=fun b ⟨x,hb⟩=>by
     obtain ⟨rw',o'⟩:=x;have hlt:=hf.lt hb;unfold Hp.next;rw [hb];cases rw' with
     | false=>exact ⟨false,o',rfl,fun ⟨o,e⟩=>by cases e⟩
     | true=>simp only [mD (mM hlt hg.size)]; exact ⟨true,_,rfl,fun _=>rfl⟩
    rcases hcase with ⟨hwr,hb⟩ | hb
    ·obtain ⟨rw0,o0,h2,_⟩:=hlets;obtain ⟨rw',o',h3,_⟩:=hl' ad'.block ⟨_,by rw [hb]; exact h2⟩;exact ⟨rw',o',h3,fun h=>by rw [hwr] at h; cases h⟩
    ·obtain ⟨o0,h2⟩:=hmine ad'.block hb.symm;obtain ⟨rw',o',h3,h4⟩:=hl' ad'.block ⟨_,h2⟩;exact ⟨rw',o',h3,fun _=>h4 ⟨_,h2⟩⟩
   ·exact .inl hneu
 refine ⟨_,_,_,stepG_value ho hw hk hrun,hS,rfl,?_⟩;refine hn v' _ ⟨ho'.1,ho'.2.imp id ?_⟩ (fun b x hb hne=>?_) hiff fun g hg'=>?_
 ·rintro ⟨g,cap,cur,e1,_,e2,e3⟩;refine ⟨g,cap,cur,e1,?_,e3⟩;rcases hblk g (by rw [e1]; rfl) with hb | hb
  ·obtain ⟨o0,h2⟩:=hmine g hb;unfold Hp.next;rw [h2];simp only;rw [e2];rfl
  ·unfold Hp.next;cases e:H g with
   | none=>simp only; rw [if_pos hb,e2]; rfl
   | some x=>have:=hf.lt e; omega
 ·exact zhW hf hb (hkept b (hf.lt hb) hne)
 ·rcases hblk g hg' with h | h
  ·exact .inl h
  ·right;cases e:H g with
   | none=>rfl
   | some x=>have:=hf.lt e; omega
end
def oneCell:Value->Bool | .agg _ | .tuple _=>false | _=>true
def isCells:Obj->Bool | .cells .. => true | _=>false
def shapeOf:Obj->Option (TypeId×Nat) | .cells c e _=>some (e,c.size) | _=>none
def frozenOf (off:Nat):Obj->Bool | .cells _ _ (lo,hi)=>decide (lo<=off)&&decide (off<hi) | _=>false
def fzOf (fz:Nat×Nat) (off n:Nat):Nat×Nat:=if fz.1==fz.2 then (off,off+n) else (min fz.1 off,max fz.2 (off+n))
theorem zfo {w:World} {a:Addr} {n:Nat} {c:Array Value} {e:TypeId} {fz:Nat×Nat} (hn:n≠0) (h:w.heap[a.block]? =some (.cells c e fz)):w.freeze a n=wput w a.block (.cells c e (fzOf fz a.off n)):=by
 obtain ⟨hlt,he⟩:=mG.1 h;unfold World.freeze wput;rw [if_neg hn];congr 1;apply Array.ext_getElem?;intro k;rw [Array.getElem?_modify];by_cases hk:a.block=k
 ·subst hk;rw [if_pos rfl,h,mF hlt];rfl
 ·rw [if_neg hk,mE hk]
def wpS {α:Type} (P:Program):Sem α->Hp->(α->Hp->Prop)->Prop
 | .pure a,H,Q=>Q a H
 | .load _ a k,H,Q=>∃ rw c e fz v,H a.block=some (rw,.cells c e fz)/\a.spot=none/\c[a.off]? =some v/\wpS P (k v) H Q
 | .store _ a v k,H,Q=>oneCell v=true/\∃ c e lo hi,H a.block=some (true,.cells c e (lo,hi))/\a.spot=none/\a.off<c.size/\(decide (lo<=a.off)&&decide (a.off<hi))=false/\wpS P k (H.put a.block (true,.cells (c.setIfInBounds a.off v) e (lo,hi))) Q
 | .new o k,H,Q=>∀ r,H r=none->wpS P (k r) (H.put r (true,o)) Q
 | .shape r k,H,Q=>∃ rw o,H r=some (rw,o)/\wpS P (k (shapeOf o)) H Q
 | .frozen a k,H,Q=>∃ rw o,H a.block=some (rw,o)/\wpS P (k (frozenOf a.off o)) H Q
 | .freeze a n k,H,Q=>n≠0/\∃ c e fz,H a.block=some (true,.cells c e fz)/\wpS P k (H.put a.block (true,.cells c e (fzOf fz a.off n))) Q
 | .getObj r k,H,Q=>∃ rw o,H r=some (rw,o)/\isCells o=false/\o.isChan=false/\wpS P (k o) H Q
 | .setObj r o k,H,Q=>∃ o0,H r=some (true,o0)/\isCells o0=false/\o.isChan=false/\wpS P k (H.put r (true,o)) Q
 | .choose q k,H,Q=>∀ n,(q.forced=true->n=0)->(q.forced=false->∃ t,n=q.cut t)->wpS P (k n) H Q
 | .sys _ _,_,_=>False
 | .program k,H,Q=>wpS P (k P) H Q
 | .mark m k,H,Q=>(m=.noRoom\/∃ f,m=.extern f)/\wpS P k H Q
 | .halt _,_,_=>False
theorem zjl {H:Hp} {w w':World} {es:Array Event} (hf:z6 H w) (hs:StepH H w w' es) {e:Event} (h:EvH H e):EvH (H.next w w') e:=by
 obtain ⟨loc,wr,sy⟩:=e;cases loc with
 | cell a=>exact zdc hf hs h
 | obj x=>exact ⟨h.1,zdc hf hs h.2⟩
 | mark m=>exact h
 | _=>exact h.elim
theorem wL {H:Hp} {w w1 w2:World} (h1:w.heap.size<=w1.heap.size) (h2:w1.heap.size<=w2.heap.size) (hf:z6 H w):(H.next w w1).next w1 w2=H.next w w2:=by
 funext b;unfold Hp.next;cases e:H b with
 | none =>
  simp only;by_cases hb:w.heap.size<=b
  ·rw [if_pos hb,if_pos hb];by_cases hb1:b<w1.heap.size
   ·rw [mD hb1];rfl
   ·rw [Array.getElem?_eq_none oQ];simp only [Option.map_none];rw [if_pos oQ]
  ·rw [if_neg hb,if_neg hb];simp only;rw [if_neg oQ]
 | some x =>
  obtain ⟨rw',o⟩:=x;cases rw' with
  | false=>rfl
  | true =>
   have hlt:=hf.lt e;simp only;rw [mD (mM hlt h1)];rfl
theorem StepH.trans {H:Hp} {w w1 w2:World} {es1 es2:Array Event} (hf:z6 H w) (h1:StepH H w w1 es1) (h2:StepH (H.next w w1) w1 w2 es2):StepH H w w2 (es1++es2):=by
 refine ⟨Nat.le_trans h1.size h2.size,fun b hb hno=>?_,fun e he=>?_,h2.os.trans h1.os,h2.out.trans h1.out,h2.tape.trans h1.tape⟩
 ·rw [h2.kept b (mM hb h1.size) ?_]
  ·exact h1.kept b hb hno
  ·intro o hc;unfold Hp.next at hc;cases e:H b with
   | none =>
    rw [e] at hc;simp only at hc;rw [if_neg oQ] at hc;cases hc
   | some x =>
    obtain ⟨rw',o'⟩:=x;cases rw' with
    | false=>rw [e] at hc; cases hc
    | true=>exact hno o' e
 ·rw [<- wL h1.size h2.size hf];rcases Array.mem_append.1 he with he | he
  ·exact zjl (hf.next h1) h2 (h1.evs e he)
  ·exact h2.evs e he
theorem zgU {H:Hp} {w:World} (hf:z6 H w) (d:Nat):H.next w { w with drawn:=d }=H:=yS (w:=w) hf
theorem kR {P:Program} {α:Type} (s:Sem α):∀ (H:Hp) (Q:α->Hp->Prop) (w:World) (es0:Array Event),wpS P s H Q->z6 H w ->
  ∃ a w' es,s.runT P w es0=(.ok a w',es0++es)/\StepH H w w' es/\Q a (H.next w w'):=by
 induction s with
 | pure a =>
  intro H Q w es0 h hf;exact ⟨a,w,#[],by simp [Sem.runT],yP hf (fun e he=>by simp at he),by rw [yS hf]; exact h⟩
 | load m a k ih =>
  intro H Q w es0 h hf;obtain ⟨rw',c,e,fz,v,hH,hs,hc,h⟩:=h;obtain ⟨blk,off,sp⟩:=a;simp only at hH hs hc;subst hs;have hcell:=hf.cell hH hc;obtain ⟨x,w',es,h1,h2,h3⟩:=ih v H Q w (es0.push ⟨.cell ⟨blk,off,none⟩,false,m==.atomic⟩) h hf;refine ⟨x,w',#[⟨.cell ⟨blk,off,none⟩,false,m==.atomic⟩]++es,?_,?_,h3⟩
  ·simp only [Sem.runT,hcell,h1];simp
  ·have h0:StepH H w w #[⟨.cell ⟨blk,off,none⟩,false,m==.atomic⟩]:=yP hf (fun e he=>by
    simp only [List.mem_toArray,lS] at he;subst he;exact ⟨rw',_,hH,fun hx=>by cases hx⟩)
   have:=StepH.trans (w2:=w') hf h0 (by rw [yS hf]; exact h2);exact this
 | store m a v k ih =>
  intro H Q w es0 h hf;obtain ⟨hv,c,e,lo,hi,hH,hs,hlt,hfz,h⟩:=h;obtain ⟨blk,off,sp⟩:=a;simp only at hH hs hlt hfz h;subst hs;have hcell:=hf.cell (v:=c[off]) hH (mD hlt);have hfr:w.frozen? ⟨blk,off,none⟩=false:=by
   unfold World.frozen?;rw [hf blk _ _ hH];exact hfz
  have hset:w.setCell ⟨blk,off,none⟩ v=wput w blk (.cells (c.setIfInBounds off v) e (lo,hi)):=zeW (hf blk _ _ hH);have hS:StepH H w (wput w blk (.cells (c.setIfInBounds off v) e (lo,hi))) #[⟨.cell ⟨blk,off,none⟩,true,m==.atomic⟩]:=vE hf hH (fun ev he=>by
    simp only [List.mem_toArray,lS] at he;subst he;exact ⟨true,_,hH,fun _=>rfl⟩)
  have hn:=vo (o':=.cells (c.setIfInBounds off v) e (lo,hi)) hf hH;have hf1:=hf.next hS;rw [hn] at hf1;obtain ⟨x,w',es,h1,h2,h3⟩:=ih _ Q _ (es0.push ⟨.cell ⟨blk,off,none⟩,true,m==.atomic⟩) h hf1;refine ⟨x,w',#[⟨.cell ⟨blk,off,none⟩,true,m==.atomic⟩]++es,?_,StepH.trans hf hS (by rw [hn]; exact h2),?_⟩
  ·have hrun:(Sem.store m ⟨blk,off,none⟩ v k).runT P w es0=k.runT P (w.setCell ⟨blk,off,none⟩ v) (es0.push ⟨.cell ⟨blk,off,none⟩,true,m==.atomic⟩):=by
    cases v <;> first | (simp [oneCell] at hv; done) | (simp only [Sem.runT,hcell,hfr,mU,if_false])
   rw [hrun,hset,h1];simp
  ·rw [<- wL hS.size h2.size hf,hn]; exact h3
 | new o k ih =>
  intro H Q w es0 h hf;have hr:H w.heap.size=none:=by
   cases e:H w.heap.size with
   | none=>rfl
   | some x=>exact absurd (hf.lt e) (Nat.lt_irrefl _)
  have hS:StepH H w (w.alloc o) #[]:=zbp o;have hn:=zb8 hf o;have hf1:=hf.next hS;rw [hn] at hf1;obtain ⟨x,w',es,h1,h2,h3⟩:=ih w.heap.size _ Q _ es0 (h _ hr) hf1;refine ⟨x,w',es,h1,?_,?_⟩
  ·have:=StepH.trans hf hS (by rw [hn]; exact h2);rwa [mK] at this
  ·rw [<- wL hS.size h2.size hf,hn]; exact h3
 | shape r k ih =>
  intro H Q w es0 h hf;obtain ⟨rw',o,hH,h⟩:=h;obtain ⟨x,w',es,h1,h2,h3⟩:=ih _ H Q w es0 h hf;refine ⟨x,w',es,?_,h2,h3⟩;have:w.shape? r=shapeOf o:=by
   unfold World.shape?;rw [hf r _ _ hH];cases o <;> rfl
  simp only [Sem.runT,this];exact h1
 | freeze a n k ih =>
  intro H Q w es0 h hf;obtain ⟨hn0,c,e,fz,hH,h⟩:=h;obtain ⟨blk,off,sp⟩:=a;simp only at hH h;have hset:=zfo (a:=⟨blk,off,sp⟩) hn0 (hf blk _ _ hH);have hS:StepH H w (wput w blk (.cells c e (fzOf fz off n))) #[]:=vE hf hH (fun ev he=>by simp at he);have hnx:=vo (o':=.cells c e (fzOf fz off n)) hf hH;have hf1:=hf.next hS;rw [hnx] at hf1;obtain ⟨x,w',es,h1,h2,h3⟩:=ih _ Q _ es0 h hf1;refine ⟨x,w',es,?_,?_,?_⟩
  ·simp only [Sem.runT,hset]; exact h1
  ·have:=StepH.trans hf hS (by rw [hnx]; exact h2);rwa [mK] at this
  ·rw [<- wL hS.size h2.size hf,hnx]; exact h3
 | frozen a k ih =>
  intro H Q w es0 h hf;obtain ⟨rw',o,hH,h⟩:=h;obtain ⟨x,w',es,h1,h2,h3⟩:=ih _ H Q w es0 h hf;refine ⟨x,w',es,?_,h2,h3⟩;have:w.frozen? a=frozenOf a.off o:=by
   unfold World.frozen?;rw [hf a.block _ _ hH];cases o <;> rfl
  simp only [Sem.runT,this];exact h1
 | getObj r k ih =>
  intro H Q w es0 h hf;obtain ⟨rw',o,hH,hc,hch,h⟩:=h;obtain ⟨x,w',es,h1,h2,h3⟩:=ih o H Q w (es0.push ⟨.obj r,false,o.isChan⟩) h hf;refine ⟨x,w',#[⟨.obj r,false,o.isChan⟩]++es,?_,?_,h3⟩
  ·have hrun:(Sem.getObj r k).runT P w es0=(k o).runT P w (es0.push ⟨.obj r,false,o.isChan⟩):=by
    simp only [Sem.runT,hf r _ _ hH];cases o <;> first | (simp [isCells] at hc; done) | rfl
   rw [hrun,h1];simp
  ·have h0:StepH H w w #[⟨.obj r,false,o.isChan⟩]:=yP hf (fun e he=>by
    simp only [List.mem_toArray,lS] at he;subst he;exact ⟨hch,rw',_,hH,fun hx=>by cases hx⟩)
   exact StepH.trans (w2:=w') hf h0 (by rw [yS hf]; exact h2)
 | setObj r o k ih =>
  intro H Q w es0 h hf;obtain ⟨o0,hH,hc,hch,h⟩:=h;have hS:StepH H w (wput w r o) #[⟨.obj r,true,o.isChan⟩]:=vE hf hH (fun ev he=>by
    simp only [List.mem_toArray,lS] at he;subst he;exact ⟨hch,true,_,hH,fun _=>rfl⟩)
  have hn:=vo (o':=o) hf hH;have hf1:=hf.next hS;rw [hn] at hf1;obtain ⟨x,w',es,h1,h2,h3⟩:=ih _ Q _ (es0.push ⟨.obj r,true,o.isChan⟩) h hf1;refine ⟨x,w',#[⟨.obj r,true,o.isChan⟩]++es,?_,StepH.trans hf hS (by rw [hn]; exact h2),?_⟩
  ·have hrun:(Sem.setObj r o k).runT P w es0=k.runT P (wput w r o) (es0.push ⟨.obj r,true,o.isChan⟩):=by
    simp only [Sem.runT,hf r _ _ hH];cases o0 <;> first | (simp [isCells] at hc; done) | rfl
   rw [hrun,h1];simp
  ·rw [<- wL hS.size h2.size hf,hn]; exact h3
 | choose q k ih =>
  intro H Q w es0 h hf;by_cases hq:q.forced=true
  ·obtain ⟨x,w',es,h1,h2,h3⟩:=ih 0 H Q w es0 (h 0 (fun _=>rfl) (fun e=>by rw [hq] at e; cases e)) hf;exact ⟨x,w',es,by simp only [Sem.runT,hq,if_true]; exact h1,h2,h3⟩
  ·have hq':q.forced=false:=by simpa using hq
   obtain ⟨x,w',es,h1,h2,h3⟩:=ih (q.cut (w.tape w.drawn q)) H Q { w with drawn:=w.drawn+1 } es0 (h _ (fun e=>absurd e hq) (fun _=>⟨_,rfl⟩)) hf;exact ⟨x,w',es,by simp only [Sem.runT,hq',mU,if_false]; exact h1,⟨h2.size,h2.kept,h2.evs,h2.os,h2.out,h2.tape⟩,h3⟩
 | sys c k ih=>intro H Q w es0 h; exact h.elim
 | program k ih =>
  intro H Q w es0 h hf;obtain ⟨x,w',es,h1,h2,h3⟩:=ih P H Q w es0 h hf;exact ⟨x,w',es,h1,h2,h3⟩
 | mark m k ih =>
  intro H Q w es0 h hf;obtain ⟨hm,h⟩:=h;obtain ⟨x,w',es,h1,h2,h3⟩:=ih H Q w (es0.push ⟨.mark m,false,true⟩) h hf;refine ⟨x,w',#[⟨.mark m,false,true⟩]++es,?_,?_,h3⟩
  ·simp only [Sem.runT,h1];simp
  ·have h0:StepH H w w #[⟨.mark m,false,true⟩]:=yP hf (fun e he=>by
    simp only [List.mem_toArray,lS] at he;subst he;exact hm)
   exact StepH.trans (w2:=w') hf h0 (by rw [yS hf]; exact h2)
 | halt h=>intro H Q w es0 h; exact h.elim
theorem zaf {P:Program} {α:Type} (s:Sem α):∀ (H:Hp) (Q Q':α->Hp->Prop),(∀ a H,Q a H->Q' a H)->wpS P s H Q->wpS P s H Q':=by
 induction s with
 | pure a=>exact fun H Q Q' hq h=>hq _ _ h
 | load m a k ih=>exact fun H Q Q' hq ⟨rw',c,e,fz,v,h1,h2,h3,h⟩=>⟨rw',c,e,fz,v,h1,h2,h3,ih v H Q Q' hq h⟩
 | store m a v k ih=>exact fun H Q Q' hq ⟨hv,c,e,lo,hi,h1,h2,h3,h4,h⟩=>⟨hv,c,e,lo,hi,h1,h2,h3,h4,ih _ Q Q' hq h⟩
 | new o k ih=>exact fun H Q Q' hq h r hr=>ih r _ Q Q' hq (h r hr)
 | shape r k ih=>exact fun H Q Q' hq ⟨rw',o,h1,h⟩=>⟨rw',o,h1,ih _ H Q Q' hq h⟩
 | freeze a n k ih=>exact fun H Q Q' hq ⟨hn,c,e,fz,h1,h⟩=>⟨hn,c,e,fz,h1,ih _ Q Q' hq h⟩
 | frozen a k ih=>exact fun H Q Q' hq ⟨rw',o,h1,h⟩=>⟨rw',o,h1,ih _ H Q Q' hq h⟩
 | getObj r k ih=>exact fun H Q Q' hq ⟨rw',o,h1,h2,h3,h⟩=>⟨rw',o,h1,h2,h3,ih o H Q Q' hq h⟩
 | setObj r o k ih=>exact fun H Q Q' hq ⟨o0,h1,h2,h3,h⟩=>⟨o0,h1,h2,h3,ih _ Q Q' hq h⟩
 | choose q k ih=>exact fun H Q Q' hq h n h1 h2=>ih n H Q Q' hq (h n h1 h2)
 | sys c k ih=>exact fun _ _ _ _ h=>h.elim
 | program k ih=>exact fun H Q Q' hq h=>ih P H Q Q' hq h
 | mark m k ih=>exact fun H Q Q' hq ⟨hm,h⟩=>⟨hm,ih H Q Q' hq h⟩
 | halt h=>exact fun _ _ _ _ h=>h.elim
theorem yW {P:Program} {α β:Type} (s:Sem α) (f:α->Sem β):∀ (H:Hp) (Q:β->Hp->Prop),wpS P s H (fun a H'=>wpS P (f a) H' Q)->wpS P (s >>= f) H Q:=by
 show ∀ (H:Hp) (Q:β->Hp->Prop),wpS P s H (fun a H'=>wpS P (f a) H' Q)->wpS P (s.bind f) H Q
 induction s with
 | pure a=>exact fun H Q h=>h
 | load m a k ih=>exact fun H Q ⟨rw',c,e,fz,v,h1,h2,h3,h⟩=>⟨rw',c,e,fz,v,h1,h2,h3,ih v H Q h⟩
 | store m a v k ih=>exact fun H Q ⟨hv,c,e,lo,hi,h1,h2,h3,h4,h⟩=>⟨hv,c,e,lo,hi,h1,h2,h3,h4,ih _ Q h⟩
 | new o k ih=>exact fun H Q h r hr=>ih r _ Q (h r hr)
 | shape r k ih=>exact fun H Q ⟨rw',o,h1,h⟩=>⟨rw',o,h1,ih _ H Q h⟩
 | freeze a n k ih=>exact fun H Q ⟨hn,c,e,fz,h1,h⟩=>⟨hn,c,e,fz,h1,ih _ Q h⟩
 | frozen a k ih=>exact fun H Q ⟨rw',o,h1,h⟩=>⟨rw',o,h1,ih _ H Q h⟩
 | getObj r k ih=>exact fun H Q ⟨rw',o,h1,h2,h3,h⟩=>⟨rw',o,h1,h2,h3,ih o H Q h⟩
 | setObj r o k ih=>exact fun H Q ⟨o0,h1,h2,h3,h⟩=>⟨o0,h1,h2,h3,ih _ Q h⟩
 | choose q k ih=>exact fun H Q h n h1 h2=>ih n H Q (h n h1 h2)
 | sys c k ih=>exact fun _ _ h=>h.elim
 | program k ih=>exact fun H Q h=>ih P H Q h
 | mark m k ih=>exact fun H Q ⟨hm,h⟩=>⟨hm,ih H Q h⟩
 | halt h=>exact fun _ _ h=>h.elim
section
variable {P:Program} {main:Bool} {T:Goroutine->Hp->Prop} {H:Hp} {b:Frame} {a:Act} {k:List Item} {cs:List Frame} {ops:Array Oper} {i:Nat} {rest:List Nat} {o:Oper}
def uponS (P:Program) (T:Goroutine->Hp->Prop) (b:Frame) (a:Act) (k:List Item) (cs:List Frame) (ops:Array Oper) (i:Nat) (rest:List Nat) (o:Oper):Next->Hp->Prop
 | .value v,H=>T (G (b.at (a.put o.dst v) (.inRegion ops rest::k)) cs) H
 | .skip,H=>T (G (b.at (a.put o.dst undef) (.inRegion ops rest::k)) cs) H
 | .enter f args,H=>T (G (Frame.enter P f args .normal) (b.at a (.inRegion ops (i::rest)::k)::cs)) H
 | _,_=>False
end
inductive AV where
 | v (x:Value)
 | ptr (i off:Nat)
 | sl (i off len:Nat)
 | row (i len:Nat)
 | agg (l:List AV)
 | tup (l:List AV)
 | fn (f:FuncId) (fs cs:List AV)
 | e0
 | z0
 | map (i:Nat)
 | yl (i:Nat)
 | chan (i:Nat)
 | any
instance:Inhabited AV:=⟨.any⟩
structure Loc3 where
 blk:Nat
 base:Nat
 cap:Nat
def rowV (loc:Loc3) (len:Nat) (y:Value):Prop:=if loc.cap=0 then ∃ b,y=.slice b 0 0 else y=.slice (some ⟨loc.blk,0,none⟩) len loc.cap
inductive RelV (φ:Nat->Loc3) (n:Nat):AV->Value->Prop
 | v (x:Value):RelV φ n (.v x) x
 | ptr {i off:Nat}:i<n->RelV φ n (.ptr i off) (.pointer (some ⟨(φ i).blk,(φ i).base+off,none⟩))
 | sl {i off len cap:Nat} {b:Option Addr}:i<n->len<=cap->(0<len->b=some ⟨(φ i).blk,(φ i).base+off,none⟩)->RelV φ n (.sl i off len) (.slice b len cap)
 | row {i len:Nat} {y:Value}:i<n->len<=(φ i).cap->rowV (φ i) len y->RelV φ n (.row i len) y
 | agg {l:List AV} {ys:Array Value}:l.length=ys.size->(∀ (j:Nat) a y,l[j]? =some a->ys[j]? =some y->RelV φ n a y)->RelV φ n (.agg l) (.agg ys)
 | tup {l:List AV} {ys:Array Value}:l.length=ys.size->(∀ (j:Nat) a y,l[j]? =some a->ys[j]? =some y->RelV φ n a y)->RelV φ n (.tup l) (.tuple ys)
 | fn {f:FuncId} {fs cs:List AV} {xs ys:Array Value}:fs.length=xs.size->(∀ (j:Nat) a y,fs[j]? =some a->xs[j]? =some y->RelV φ n a y) ->
   cs.length=ys.size->(∀ (j:Nat) a y,cs[j]? =some a->ys[j]? =some y->RelV φ n a y)->RelV φ n (.fn f fs cs) (.func (.func f) xs ys)
 | e0 (a:Option Addr) (cap:Nat):RelV φ n .e0 (.slice a 0 cap)
 | z0 (a:Addr):RelV φ n .z0 (.slice (some a) 0 0)
 | map {i:Nat}:i<n->RelV φ n (.map i) (.map (some (φ i).blk))
 | yl {i:Nat}:i<n->RelV φ n (.yl i) (.func (.yield (φ i).blk) #[] #[])
 | chan {i:Nat}:i<n->RelV φ n (.chan i) (.chan (some (φ i).blk))
 | any (y:Value):RelV φ n .any y
def zM (φ:Nat->Loc3) (n:Nat) (l:List AV) (ys:Array Value):Prop:=l.length=ys.size/\∀ (j:Nat) a y,l[j]? =some a->ys[j]? =some y->RelV φ n a y
def Agr (φ φ':Nat->Loc3) (n:Nat):Prop:=∀ i,i<n->φ' i=φ i
theorem Agr.refl (φ:Nat->Loc3) (n:Nat):Agr φ φ n:=fun _ _=>rfl
theorem Agr.trans {φ φ' φ'':Nat->Loc3} {n m:Nat} (h:Agr φ φ' n) (k:Agr φ' φ'' m) (hn:n<=m):Agr φ φ'' n:=fun i hi=>(k i oQ).trans (h i hi)
theorem Agr.mono {φ φ':Nat->Loc3} {n m:Nat} (h:Agr φ φ' n) (hm:m<=n):Agr φ φ' m:=fun i hi=>h i oQ
theorem RelV.mono {φ φ':Nat->Loc3} {n n':Nat} (hA:Agr φ φ' n) (hn:n<=n') {a:AV} {y:Value} (h:RelV φ n a y):RelV φ' n' a y:=by
 induction h with
 | v x=>exact .v x
 | ptr hi=>rw [<- hA _ hi]; exact .ptr oQ
 | sl hi hl hb=>rw [<- hA _ hi] at hb; exact .sl oQ hl hb
 | row hi hl hv =>
  rw [<- hA _ hi] at hl hv;exact .row oQ hl hv
 | agg hl _ ih=>exact .agg hl ih
 | tup hl _ ih=>exact .tup hl ih
 | fn h1 _ h2 _ ih1 ih2=>exact .fn h1 ih1 h2 ih2
 | e0 a c=>exact .e0 a c
 | z0 a=>exact .z0 a
 | map hi=>rw [<- hA _ hi]; exact .map oQ
 | yl hi=>rw [<- hA _ hi]; exact .yl oQ
 | chan hi=>rw [<- hA _ hi]; exact .chan oQ
 | any y=>exact .any y
theorem zM.mono {φ φ':Nat->Loc3} {n n':Nat} (hA:Agr φ φ' n) (hn:n<=n') {l:List AV} {ys:Array Value} (h:zM φ n l ys):zM φ' n' l ys:=⟨h.1,fun j a y ha hy=>(h.2 j a y ha hy).mono hA hn⟩
inductive AObj where
 | cells (l:List AV) (elem:TypeId) (rw:Bool)
 | row (l:List AV) (elem:TypeId) (size:Nat)
 | raw (o:Obj)
 | loop (f:FuncId) (env:List AV) (ps:Array Tmp) (x y:Code) (st:LoopState) (pj:Option Code)
 | gone
 | ro (o:Obj)
def AObj.excl:AObj->Bool | .cells _ _ rw=>rw | .row .. => true | .raw _=>true | .loop .. => true | .gone=>false | .ro _=>false
def AObj.live:AObj->Bool | .gone=>false | _=>true
def sol (loc:Loc3):AObj->Prop | .row .. => 0<loc.cap | .cells l _ _=>l≠[] | _=>True
def RelO (φ:Nat->Loc3) (n:Nat) (loc:Loc3) (H:Hp):AObj->Prop
 | .cells l e rw=>l≠[]->∃ rw' cur q,H loc.blk=some (rw',.cells cur q.1 q.2)/\(rw=true->(rw'=true/\q=(e,0,0))/\loc.base=0/\cur.size=l.length)/\∀ (j:Nat) a,l[j]? =some a->∃ y,cur[loc.base+j]? =some y/\RelV φ n a y
 | .row l e size=>(loc.cap=0->l=[])/\loc.base=0/\(0<loc.cap->∃ cur,H loc.blk=some (true,.cells cur e (0,0))/\cur.size=loc.cap*size/\loc.cap<=maxLen/\l.length<=cur.size/\∀ (j:Nat) a,l[j]? =some a->∃ y,cur[j]? =some y/\RelV φ n a y)
 | .raw o=>H loc.blk=some (true,o)
 | .loop f env ps x y st pj=>∃ ts d,H loc.blk=some (true,.loop { state:=st,pending:=pj,fn:=f,tmps:=ts,params:=ps,assign:=x,body:=y,defers:=d })/\zM φ n env ts
 | .gone=>True
 | .ro o=>∃ rw',H loc.blk=some (rw',o)
structure RelH (φ:Nat->Loc3) (A:List AObj) (F H:Hp):Prop where
 obj:∀ (i:Nat) o,A[i]? =some o->RelO φ A.length (φ i) H o
 apart:∀ (i j:Nat) o o',A[i]? =some o->A[j]? =some o'->i≠j->o.excl=true->o'.live=true->sol (φ i) o->sol (φ j) o'->(φ i).blk≠(φ j).blk
 fr:F.ext H
 frx:∀ (i:Nat) o,A[i]? =some o->o.excl=true->sol (φ i) o->F (φ i).blk=none
theorem RelO.mono {φ φ':Nat->Loc3} {n n':Nat} (hA:Agr φ φ' n) (hn:n<=n') {loc:Loc3} {H H':Hp} {o:AObj} (hH:o.live=true->sol loc o->H' loc.blk=H loc.blk) (h:RelO φ n loc H o):RelO φ' n' loc H' o:=by
 cases o with
 | cells l e rw' =>
  intro hl;obtain ⟨rw'',cur,fz,h1,h2,h3⟩:=h hl;exact ⟨rw'',cur,fz,(hH rfl hl).trans h1,h2,fun j a ha=>let ⟨y,h4,h5⟩:=h3 j a ha; ⟨y,h4,h5.mono hA hn⟩⟩
 | row l e size =>
  obtain ⟨h0,h2,h⟩:=h;refine ⟨h0,h2,fun hc=>?_⟩;obtain ⟨cur,h1,h3,h4,h5,h6⟩:=h hc;exact ⟨cur,(hH rfl hc).trans h1,h3,h4,h5,fun j a ha=>let ⟨y,h7,h8⟩:=h6 j a ha; ⟨y,h7,h8.mono hA hn⟩⟩
 | raw o=>exact (hH rfl trivial).trans h
 | loop f env ps x y st pj=>obtain ⟨ts,d,h1,h2⟩:=h; exact ⟨ts,d,(hH rfl trivial).trans h1,h2.mono hA hn⟩
 | gone=>trivial
 | ro o=>obtain ⟨r,h⟩:=h; exact ⟨r,(hH rfl trivial).trans h⟩
theorem RelH.ext {φ:Nat->Loc3} {A:List AObj} {F H H':Hp} (h:RelH φ A F H) (he:H.ext H'):RelH φ A F H':=by
 refine ⟨fun i o hi=>?_,h.apart,fun b x hb=>he b x (h.fr b x hb),h.frx⟩;have ho:=h.obj i o hi;cases o with
 | cells l e rw'=>exact fun hl=>let ⟨rw'',cur,fz,h1,h2⟩:=ho hl; ⟨rw'',cur,fz,he _ _ h1,h2⟩
 | row l e size=>obtain ⟨h0,h2,ho⟩:=ho; exact ⟨h0,h2,fun hc=>let ⟨cur,h1,h3⟩:=ho hc; ⟨cur,he _ _ h1,h3⟩⟩
 | raw o=>exact he _ _ ho
 | loop f env ps x y st pj=>obtain ⟨ts,d,h1,h2⟩:=ho; exact ⟨ts,d,he _ _ h1,h2⟩
 | gone=>trivial
 | ro o=>obtain ⟨r,h1⟩:=ho; exact ⟨r,he _ _ h1⟩
def upd3 (φ:Nat->Loc3) (i:Nat) (x:Loc3):Nat->Loc3:=fun j=>if j=i then x else φ j
theorem yr (φ:Nat->Loc3) (n:Nat) (x:Loc3):Agr φ (upd3 φ n x) n:=fun i hi=>by simp [upd3]; omega
theorem RelO.held {φ:Nat->Loc3} {n:Nat} {loc:Loc3} {H:Hp} {o:AObj} (h:RelO φ n loc H o) (hl:o.live=true) (hs:sol loc o):∃ x,H loc.blk=some x:=by
 cases o with
 | cells l e rw'=>obtain ⟨rw'',cur,fz,h1,_⟩:=h hs; exact ⟨_,h1⟩
 | row l e size=>obtain ⟨cur,h1,_⟩:=h.2.2 hs; exact ⟨_,h1⟩
 | raw o=>exact ⟨_,h⟩
 | loop f env ps x y st pj=>obtain ⟨ts,d,h1,_⟩:=h; exact ⟨_,h1⟩
 | gone=>cases hl
 | ro o=>obtain ⟨r,h⟩:=h; exact ⟨_,h⟩
theorem RelH.push {φ:Nat->Loc3} {A:List AObj} {F H:Hp} (h:RelH φ A F H) {r:Nat} (hr:H r=none) {loc:Loc3} (hloc:loc.blk=r) {o:AObj} {x:Bool×Obj} (ho:RelO (upd3 φ A.length loc) (A.length+1) loc (H.put r x) o) :
  RelH (upd3 φ A.length loc) (A++[o]) F (H.put r x):=by
 have hlen:(A++[o]).length=A.length+1:=by simp
 have hget:∀ (i:Nat) o',(A++[o])[i]? =some o'->(i<A.length/\A[i]? =some o')\/(i=A.length/\o'=o):=fun i o' hi=>by
  rcases mR i A.length with hlt | hge
  ·rw [lG hlt] at hi; exact .inl ⟨hlt,hi⟩
  ·rw [lO hge] at hi;have:i - A.length=0:=by
    have:=(lD.1 hi).1;simp at this;omega
   rw [this] at hi;simp at hi;exact .inr ⟨by omega,hi.symm⟩
 have hold:∀ i,i<A.length->upd3 φ A.length loc i=φ i:=fun i hi=>by simp [upd3]; omega
 have hnew:upd3 φ A.length loc A.length=loc:=by simp [upd3]
 have hne:∀ (i:Nat) o',A[i]? =some o'->o'.live=true->sol (φ i) o'->(φ i).blk≠r:=fun i o' hi hl hs e=>by
  obtain ⟨y,hy⟩:=(h.obj i o' hi).held hl hs;rw [e,hr] at hy; cases hy
 have hFr:F r=none:=by
  cases e:F r with
  | none=>rfl
  | some y=>have:=h.fr r y e; rw [hr] at this; cases this
 refine ⟨fun i o' hi=>?_,fun i j o1 o2 hi hj hij he hl hs1 hs2=>?_,Hp.ext_put h.fr hFr x,fun i o' hi he hs=>?_⟩;rotate_left 2
 ·rcases hget i o' hi with ⟨hlt,hi'⟩ | ⟨rfl,rfl⟩
  ·rw [hold i hlt] at hs ⊢; exact h.frx i o' hi' he hs
  ·rw [hnew,hloc]; exact hFr
 ·rw [hlen];rcases hget i o' hi with ⟨hlt,hi'⟩ | ⟨rfl,rfl⟩
  ·rw [hold i hlt];exact (h.obj i o' hi').mono (yr φ _ loc) oQ (fun hl hs=>Hp.put_other _ _ (hne i o' hi' hl hs))
  ·rw [hnew]; exact ho
 ·rcases hget i o1 hi with ⟨hi1,hi'⟩ | ⟨rfl,rfl⟩
  ·rcases hget j o2 hj with ⟨hj1,hj'⟩ | ⟨rfl,rfl⟩
   ·rw [hold i hi1] at hs1 ⊢; rw [hold j hj1] at hs2 ⊢; exact h.apart i j o1 o2 hi' hj' hij he hl hs1 hs2
   ·rw [hold i hi1] at hs1 ⊢; rw [hnew,hloc];refine hne i o1 hi' ?_ hs1;cases o1 <;> first | rfl | (simp [AObj.excl] at he)
  ·rcases hget j o2 hj with ⟨hj1,hj'⟩ | ⟨rfl,_⟩
   ·rw [hold j hj1] at hs2 ⊢; rw [hnew,hloc];exact Ne.symm (hne j o2 hj' hl hs2)
   ·exact absurd rfl hij
theorem RelH.set {φ:Nat->Loc3} {A:List AObj} {F H:Hp} (h:RelH φ A F H) {i:Nat} {o o':AObj} (hi:A[i]? =some o) (hx:o.excl=true) (hs:sol (φ i) o) {x:Bool×Obj} (ho:RelO φ A.length (φ i) (H.put (φ i).blk x) o') :
  RelH φ (A.set i o') F (H.put (φ i).blk x):=by
 have hlt:i<A.length:=(lD.1 hi).1;have hget:∀ (j:Nat) q,(A.set i o')[j]? =some q->(j≠i/\A[j]? =some q)\/(j=i/\q=o'):=fun j q hj=>by
  rw [lX] at hj;split at hj
  ·rename_i e;subst e;simp [hlt] at hj;exact .inr ⟨rfl,hj.symm⟩
  ·rename_i e;exact .inl ⟨Ne.symm e,hj⟩
 refine ⟨fun j q hj=>?_,fun j k q1 q2 hj hk hjk he hl hs1 hs2=>?_,Hp.ext_put h.fr (h.frx i o hi hx hs) x,fun j q hj he hsj=>?_⟩;rotate_left 2
 ·rcases hget j q hj with ⟨_,hj'⟩ | ⟨rfl,rfl⟩
  ·exact h.frx j q hj' he hsj
  ·exact h.frx j o hi hx hs
 ·rw [List.length_set];rcases hget j q hj with ⟨hne,hj'⟩ | ⟨rfl,rfl⟩
  ·refine (h.obj j q hj').mono (Agr.refl _ _) (mL _) fun hl hsj=>Hp.put_other _ _ ?_;exact Ne.symm (h.apart i j o q hi hj' (Ne.symm hne) hx hl hs hsj)
  ·exact ho
 ·rcases hget j q1 hj with ⟨hne,hj'⟩ | ⟨rfl,rfl⟩
  ·rcases hget k q2 hk with ⟨hne2,hk'⟩ | ⟨rfl,rfl⟩
   ·exact h.apart j k q1 q2 hj' hk' hjk he hl hs1 hs2
   ·refine Ne.symm (h.apart k j o q1 hi hj' (Ne.symm hjk) hx ?_ hs hs1);cases q1 <;> first | rfl | (simp [AObj.excl] at he)
  ·rcases hget k q2 hk with ⟨hne2,hk'⟩ | ⟨rfl,rfl⟩
   ·exact h.apart j k o q2 hi hk' hjk hx hl hs hs2
   ·exact absurd rfl hjk
theorem RelH.drop {φ:Nat->Loc3} {A:List AObj} {F H:Hp} (h:RelH φ A F H) (i:Nat):RelH φ (A.set i .gone) F H:=by
 have hget:∀ (j:Nat) q,(A.set i .gone)[j]? =some q->A[j]? =some q\/q=.gone:=fun j q hj=>by
  rw [lX] at hj;split at hj
  ·split at hj
   ·exact .inr (Option.some.inj hj).symm
   ·cases hj
  ·exact .inl hj
 refine ⟨fun j q hj=>?_,fun j k q1 q2 hj hk hjk he hl hs1 hs2=>?_,h.fr,fun j q hj he hs=>?_⟩;rotate_left 2
 ·rcases hget j q hj with h1 | rfl
  ·exact h.frx j q h1 he hs
  ·cases he
 ·rw [List.length_set];rcases hget j q hj with h1 | rfl
  ·exact h.obj j q h1
  ·trivial
 ·rcases hget j q1 hj with h1 | rfl
  ·rcases hget k q2 hk with h2 | rfl
   ·exact h.apart j k q1 q2 h1 h2 hjk he hl hs1 hs2
   ·cases hl
  ·cases he
theorem RelH.virt {φ:Nat->Loc3} {A:List AObj} {F H:Hp} (h:RelH φ A F H) (e:TypeId) (size:Nat):RelH (upd3 φ A.length ⟨0,0,0⟩) (A++[.row [] e size]) F H:=by
 have hlen:(A++[AObj.row [] e size]).length=A.length+1:=by simp
 have hget:∀ (i:Nat) o',(A++[AObj.row [] e size])[i]? =some o'->(i<A.length/\A[i]? =some o')\/(i=A.length/\o'=.row [] e size):=fun i o' hi=>by
  rcases mR i A.length with hlt | hge
  ·rw [lG hlt] at hi; exact .inl ⟨hlt,hi⟩
  ·rw [lO hge] at hi;have:i - A.length=0:=by
    have:=(lD.1 hi).1;simp at this;omega
   rw [this] at hi;simp at hi;exact .inr ⟨by omega,hi.symm⟩
 have hold:∀ i,i<A.length->upd3 φ A.length ⟨0,0,0⟩ i=φ i:=fun i hi=>by simp [upd3]; omega
 have hnew:upd3 φ A.length ⟨0,0,0⟩ A.length=⟨0,0,0⟩:=by simp [upd3]
 refine ⟨fun i o' hi=>?_,fun i j o1 o2 hi hj hij he hl hs1 hs2=>?_,h.fr,fun i o' hi he hs=>?_⟩
 ·rw [hlen];rcases hget i o' hi with ⟨hlt,hi'⟩ | ⟨rfl,rfl⟩
  ·rw [hold i hlt]; exact (h.obj i o' hi').mono (yr φ _ _) oQ (fun _ _=>rfl)
  ·rw [hnew]; exact ⟨fun _=>rfl,rfl,fun hc=>absurd hc sQ⟩
 ·rcases hget i o1 hi with ⟨hi1,hi'⟩ | ⟨rfl,rfl⟩
  ·rcases hget j o2 hj with ⟨hj1,hj'⟩ | ⟨rfl,rfl⟩
   ·rw [hold i hi1] at hs1 ⊢; rw [hold j hj1] at hs2 ⊢; exact h.apart i j o1 o2 hi' hj' hij he hl hs1 hs2
   ·rw [hnew] at hs2; exact absurd hs2 (by simp [sol])
  ·rw [hnew] at hs1; exact absurd hs1 (by simp [sol])
 ·rcases hget i o' hi with ⟨hlt,hi'⟩ | ⟨rfl,rfl⟩
  ·rw [hold i hlt] at hs ⊢; exact h.frx i o' hi' he hs
  ·rw [hnew] at hs; exact absurd hs (by simp [sol])
section
variable {P:Program} {H:Hp}
theorem ze {α β:Type} (s:Sem α) (f:α->Sem β) (Q:β->Hp->Prop):wpS P s H (fun a H'=>wpS P (f a) H' Q)->wpS P (s >>= f) H Q:=yW s f H Q
theorem ki {α:Type} (a:α) (Q:α->Hp->Prop):wpS P (pure a) H Q=Q a H:=rfl
theorem zG {t:TypeId} {d:TypeDesc} (h:P.underlying t=some d) {Q:TypeDesc->Hp->Prop} (hq:Q d H):wpS P (underlying t) H Q:=by
 show wpS P (match P.underlying t with | some d=>pure d | none=>stuck "no such type") H Q
 rw [h]; exact hq
theorem kP {t:TypeId} {i:TypeInfo} (h:P.info? t=some i) {Q:TypeInfo->Hp->Prop} (hq:Q i H):wpS P (typeInfo t) H Q:=by
 show wpS P (match P.info? t with | some i=>pure i | none=>stuck "no such type") H Q
 rw [h]; exact hq
theorem yq {t:TypeId} {i:TypeInfo} (h:P.info? t=some i) {Q:Nat->Hp->Prop} (hq:Q i.size H):wpS P (sizeOf t) H Q:=by
 unfold sizeOf;exact ze _ _ _ (kP h hq)
theorem kj {t:TypeId} {i:TypeInfo} {z:Value} (h:P.info? t=some i) (hz:i.zero=some z) {Q:Value->Hp->Prop} (hq:Q z H):wpS P (zeroValue t) H Q:=by
 unfold zeroValue;refine ze _ _ _ (kP h ?_);rw [hz]; exact hq
def isAggD:TypeDesc->Bool | .struct _ | .array _ _=>true | _=>false
theorem vz {t:TypeId} {d:TypeDesc} (h:P.underlying t=some d) {Q:Bool->Hp->Prop} (hq:Q (isAggD d) H):wpS P (isAgg t) H Q:=by
 unfold isAgg;refine ze _ _ _ (zG h ?_);cases d <;> exact hq
def tySize (P:Program) (t:TypeId):Option (Bool×Nat) :=
 match P.info? t,P.underlying t with
 | some i,some d=>some (isAggD d,i.size)
 | _,_=>none
theorem yF {t:TypeId} {g:Bool} {n:Nat} (h:tySize P t=some (g,n)):∃ i d,P.info? t=some i/\P.underlying t=some d/\isAggD d=g/\i.size=n:=by
 unfold tySize at h;split at h
 ·rename_i i d h1 h2; cases h; exact ⟨i,d,h1,h2,rfl,rfl⟩
 ·cases h
def tyZero (P:Program) (t:TypeId):Option (List Value):=(P.info? t).bind fun i=>i.zero.map fun z=>z.cells.toList
theorem wC {t:TypeId} {l:List Value} (h:tyZero P t=some l):∃ i z,P.info? t=some i/\i.zero=some z/\z.cells.toList=l:=by
 unfold tyZero at h;cases e:P.info? t with
 | none=>rw [e] at h; cases h
 | some i =>
  rw [e] at h;simp only [Option.bind_some] at h;cases e2:i.zero with
  | none=>rw [e2] at h; cases h
  | some z=>rw [e2] at h; cases h; exact ⟨i,z,rfl,e2,rfl⟩
def fieldOf (P:Program) (t:TypeId) (k:Nat):Option (Nat×Bool×Nat) :=
 match P.underlying t with
 | some (.struct fs)=>(fs[k]?).bind fun f=>(tySize P f.type).map fun (g,n)=>(f.offset,g,n)
 | _=>none
theorem wQ {t:TypeId} {k off n:Nat} {g:Bool} (h:fieldOf P t k=some (off,g,n)):∃ fs f,P.underlying t=some (.struct fs)/\fs[k]? =some f/\f.offset=off/\tySize P f.type=some (g,n):=by
 unfold fieldOf at h;split at h
 ·rename_i fs h1;cases e:fs[k]? with
  | none=>rw [e] at h; cases h
  | some f =>
   rw [e] at h;simp only [Option.bind_some] at h;cases e2:tySize P f.type with
   | none=>rw [e2] at h; cases h
   | some x =>
    obtain ⟨g',n'⟩:=x;rw [e2] at h;cases h;exact ⟨fs,f,h1,e,rfl,e2⟩
 ·cases h
def slElem (P:Program) (t:TypeId):Option (TypeId×Nat) :=
 match P.underlying t with
 | some (.slice e)=>(P.info? e).map fun i=>(e,i.size)
 | _=>none
theorem wc {t e:TypeId} {n:Nat} (h:slElem P t=some (e,n)):∃ i,P.underlying t=some (.slice e)/\P.info? e=some i/\i.size=n:=by
 unfold slElem at h;split at h
 ·rename_i e' h1;cases e2:P.info? e' with
  | none=>rw [e2] at h; cases h
  | some i=>rw [e2] at h; cases h; exact ⟨i,h1,e2,rfl⟩
 ·cases h
def arrElem (P:Program) (t:TypeId):Option (Nat×TypeId×Bool×Nat) :=
 match P.underlying t with
 | some (.array n e)=>(tySize P e).map fun (g,k)=>(n,e,g,k)
 | _=>none
theorem vN {t e:TypeId} {n k:Nat} {g:Bool} (h:arrElem P t=some (n,e,g,k)):P.underlying t=some (.array n e)/\tySize P e=some (g,k):=by
 unfold arrElem at h;split at h
 ·rename_i n' e' h1;cases e2:tySize P e' with
  | none=>rw [e2] at h; cases h
  | some x=>obtain ⟨g',k'⟩:=x; rw [e2] at h; cases h; exact ⟨h1,e2⟩
 ·cases h
theorem yY (b off i:Nat):(⟨b,off,none⟩:Addr).add i=⟨b,off+i,none⟩:=by
 unfold Addr.add;split
 ·rename_i h; subst h; rfl
 ·rfl
theorem vA {b off:Nat} {rw':Bool} {cur:Array Value} {e:TypeId} {fz:Nat×Nat} (hb:H b=some (rw',.cells cur e fz)) {Q:Array Value->Hp->Prop} :
  ∀ (ys:List Value) (i:Nat) (acc:Array Value),(∀ (j:Nat) y,ys[j]? =some y->cur[off+(i+j)]? =some y)->Q (acc++ys.toArray) H->wpS P (loadCellsFrom ⟨b,off,none⟩ i ys.length acc) H Q
 | [],i,acc,_,hq=>by simpa [loadCellsFrom,ki] using hq
 | y::ys,i,acc,h,hq=>by
  show wpS P (loadCellsFrom ⟨b,off,none⟩ i (ys.length+1) acc) H Q;unfold loadCellsFrom;refine ze _ _ _ ?_;refine ⟨rw',cur,e,fz,y,?_,?_,?_,?_⟩
  ·rw [yY]; exact hb
  ·rw [yY]
  ·rw [yY]; simpa using h 0 y rfl
  ·refine vA hb ys (i+1) (acc.push y) (fun j z hz=>?_) ?_
   ·have:=h (j+1) z hz;rwa [show off+(i+1+j)=off+(i+(j+1)) by omega]
   ·have e1:acc.push y++ys.toArray=acc++(y::ys).toArray:=by
     apply Array.ext';simp
    rw [e1]; exact hq
theorem wD {b off:Nat} {rw':Bool} {cur:Array Value} {e:TypeId} {fz:Nat×Nat} (hb:H b=some (rw',.cells cur e fz)) {Q:Array Value->Hp->Prop} (ys:List Value) (h:∀ (j:Nat) y,ys[j]? =some y->cur[off+j]? =some y) (hq:Q ys.toArray H) :
  wpS P (loadCells ⟨b,off,none⟩ ys.length) H Q:=by
 refine vA hb ys 0 #[] (fun j y hy=>by rw [mO]; exact h j y hy) ?_;rwa [mK]
def setCs (cur:Array Value) (off:Nat):List Value->Array Value
 | []=>cur
 | y::ys=>setCs (cur.setIfInBounds off y) (off+1) ys
theorem wv (off:Nat):∀ (ys:List Value) (cur:Array Value) ,(setCs cur off ys).size=cur.size:=by
 intro ys
 induction ys generalizing off with
 | nil=>intro cur; rfl
 | cons y ys ih=>intro cur; rw [setCs,ih,Array.size_setIfInBounds]
theorem uh:∀ (ys:List Value) (cur:Array Value) (off j:Nat),off+ys.length<=cur.size->(setCs cur off ys)[j]? =if off<=j/\j<off+ys.length then ys[j - off]? else cur[j]? :=by
 intro ys
 induction ys with
 | nil=>intro cur off j _; simp [setCs]; omega
 | cons y ys ih =>
  intro cur off j h;rw [setCs,ih _ _ _ (by simp at h ⊢; omega)];simp only [lZ] at h ⊢;by_cases h1:off+1<=j/\j<off+1+ys.length
  ·rw [if_pos h1,if_pos oQ,show j - off=(j - (off+1))+1 by omega,List.getElem?_cons_succ]
  ·rw [if_neg h1];by_cases h2:j=off
   ·subst h2;rw [if_pos oQ,Nat.sub_self,List.getElem?_cons_zero,mF oQ]
   ·rw [if_neg oQ,mE (Ne.symm h2)]
theorem wx {b off:Nat} {e:TypeId} {Q:Unit->Hp->Prop} :
  ∀ (ys:List Value) (i:Nat) (cur:Array Value) (H:Hp),H b=some (true,.cells cur e (0,0))->off+i+ys.length<=cur.size->(∀ y∈ys,oneCell y=true) ->
   Q () (H.put b (true,.cells (setCs cur (off+i) ys) e (0,0)))->wpS P (storeCells ⟨b,off,none⟩ ys i) H Q
 | [],i,cur,H,hb,_,_,hq=>by
  have:H.put b (true,.cells (setCs cur (off+i) []) e (0,0))=H:=by
   funext c;unfold Hp.put;split
   ·rename_i h; rw [h,hb]; rfl
   ·rfl
  rw [this] at hq;exact hq
 | y::ys,i,cur,H,hb,hsz,h1,hq=>by
  unfold storeCells;refine ze _ _ _ ?_;simp only [lZ] at hsz;refine ⟨h1 y sQ,cur,e,0,0,?_,?_,?_,?_,?_⟩
  ·rw [yY]; exact hb
  ·rw [yY]
  ·rw [yY]; show off+i<cur.size; omega
  ·simp
  ·rw [yY];refine wx ys (i+1) (cur.setIfInBounds (off+i) y) _ (Hp.put_same _ _ _) (by simp; omega) (fun z hz=>h1 z (by simp [hz])) ?_;rw [Hp.put_put];rw [setCs] at hq;rwa [show off+(i+1)=off+i+1 by omega]
end
def zL (gm:Nat->Option Nat) (env:List AV):Operand->AV
 | .tmp t=>env.getD t .any
 | .const v=>.v v
 | .global g=>match gm g with | some i=>.ptr i 0 | none=>.v (.pointer (some ⟨g,0,none⟩))
 | .func f=>.fn f [] []
theorem wH (φ:Nat->Loc3) (n:Nat):zM φ n [] #[]:=⟨rfl,fun j a y h=>by simp at h⟩
theorem zM.get {φ:Nat->Loc3} {n:Nat} {l:List AV} {ys:Array Value} (h:zM φ n l ys) {j:Nat} {a:AV} (ha:l[j]? =some a):∃ y,ys[j]? =some y/\RelV φ n a y:=by
 have hlt:j<ys.size:=by rw [<- h.1]; exact (lD.1 ha).1
 exact ⟨ys[j],mD hlt,h.2 j a _ ha (mD hlt)⟩
theorem zM.back {φ:Nat->Loc3} {n:Nat} {l:List AV} {ys:Array Value} (h:zM φ n l ys) {j:Nat} {y:Value} (hy:ys[j]? =some y):∃ a,l[j]? =some a/\RelV φ n a y:=by
 have hlt:j<l.length:=by rw [h.1]; exact (mG.1 hy).1
 exact ⟨l[j],lA hlt,h.2 j _ y (lA hlt) hy⟩
def RelG (gm:Nat->Option Nat) (φ:Nat->Loc3) (n:Nat):Prop:=∀ g i,gm g=some i->i<n/\(φ i).blk=g/\(φ i).base=0
theorem RelG.mono {gm:Nat->Option Nat} {φ φ':Nat->Loc3} {n n':Nat} (h:RelG gm φ n) (hA:Agr φ φ' n) (hn:n<=n'):RelG gm φ' n':=fun g i hi=>by
 obtain ⟨h1,h2,h3⟩:=h g i hi;rw [hA i h1];exact ⟨by omega,h2,h3⟩
theorem zD {gm:Nat->Option Nat} {φ:Nat->Loc3} {n:Nat} {env:List AV} {a:Act} (hg:RelG gm φ n) (h:zM φ n env a.tmps) (x:Operand):RelV φ n (zL gm env x) (a.eval x):=by
 cases x with
 | tmp t =>
  simp only [zL,Act.eval];cases e:env[t]? with
  | none=>rw [lE,e]; exact .any _
  | some v =>
   obtain ⟨y,hy,hr⟩:=h.get e;rw [lE,e,Array.getD_eq_getD_getElem?,hy];exact hr
 | const v=>exact .v v
 | global g =>
  simp only [zL,Act.eval];split
  ·rename_i i e;obtain ⟨h1,h2,h3⟩:=hg g i e;have:=RelV.ptr (φ:=φ) (off:=0) h1;rwa [h2,h3] at this
  ·exact .v _
 | func f=>exact .fn rfl (fun j a y h=>by simp at h) rfl (fun j a y h=>by simp at h)
theorem kU {gm:Nat->Option Nat} {φ:Nat->Loc3} {n:Nat} {env:List AV} {a:Act} (hg:RelG gm φ n) (h:zM φ n env a.tmps) (xs:Array Operand):zM φ n (xs.toList.map (zL gm env)) (xs.map a.eval):=by
 refine ⟨by simp,fun j u y hu hy=>?_⟩;rw [lQ] at hu;rw [mJ] at hy;rw [mI] at hu;cases e:xs[j]? with
 | none=>rw [e] at hu; cases hu
 | some x =>
  rw [e] at hu hy;cases hu; cases hy;exact zD hg h x
def zR (env:List AV) (d:Option Tmp) (r:AV):List AV:=match d with | some d=>env.set d r | none=>env
theorem yB {φ:Nat->Loc3} {n:Nat} {env:List AV} {a:Act} (h:zM φ n env a.tmps) {r:AV} {v:Value} (hr:RelV φ n r v) (d:Option Tmp):zM φ n (zR env d r) (a.put d v).tmps:=by
 cases d with
 | none=>exact h
 | some d =>
  simp only [zR,Act.put];refine ⟨by simp [h.1],fun j u y hu hy=>?_⟩;rw [lX] at hu;by_cases hj:d=j
  ·subst hj;rw [if_pos rfl] at hu;split at hu
   ·rename_i hlt;cases hu;rw [mF (by rw [<- h.1]; exact hlt)] at hy;cases hy;exact hr
   ·cases hu
  ·rw [if_neg hj] at hu;rw [mE hj] at hy;exact h.2 j u y hu hy
def toVs:List AV->Option (List Value)
 | []=>some []
 | .v x::l=>match toVs l with | some zs=>some (x::zs) | none=>none
 | _::_=>none
def toV:AV->Option Value
 | .v x=>some x
 | .agg l=>match toVs l with | some zs=>some (.agg zs.toArray) | none=>none
 | _=>none
theorem zff:∀ {l:List AV} {zs:List Value},toVs l=some zs->l=zs.map AV.v
 | [],zs,h=>by cases h; rfl
 | .v x::l,zs,h=>by
  simp only [toVs] at h;split at h
  ·rename_i zs' e;cases h;rw [zff e];rfl
  ·cases h
 | .ptr _ _::_,_,h=>by cases h
 | .sl _ _ _::_,_,h=>by cases h
 | .row _ _::_,_,h=>by cases h
 | .agg _::_,_,h=>by cases h
 | .tup _::_,_,h=>by cases h
 | .fn _ _ _::_,_,h=>by cases h
 | .e0::_,_,h=>by cases h
 | .z0::_,_,h=>by cases h
 | .map _::_,_,h=>by cases h
 | .yl _::_,_,h=>by cases h
 | .chan _::_,_,h=>by cases h
 | .any::_,_,h=>by cases h
theorem zba {φ:Nat->Loc3} {n:Nat} {a:AV} {x y:Value} (h:toV a=some x) (hr:RelV φ n a y):y=x:=by
 cases hr with
 | v z=>cases h; rfl
 | @agg l ys hl hrel =>
  simp only [toV] at h;split at h
  ·rename_i zs e;cases h;congr 1;have hm:=zff e;subst hm;apply Array.ext_getElem?;intro j;by_cases hj:j<ys.size
   ·have hjz:j<zs.length:=by rw [lJ] at hl; omega
    have h3:=hrel j (.v zs[j]) ys[j] (by simp [hjz]) (mD hj);rw [mD hj];simp only [List.getElem?_toArray,lA hjz];generalize ys[j]=q at h3 ⊢;generalize zs[j]=p at h3 ⊢;cases h3;rfl
   ·rw [lJ] at hl;rw [Array.getElem?_eq_none oQ];simp only [List.getElem?_toArray];rw [List.getElem?_eq_none oQ]
  ·cases h
 | _=>cases h
def zJ {α:Type} (P:Program):Sem α->Option α
 | .pure a=>some a
 | .program k=>zJ P (k P)
 | _=>none
theorem vu {α:Type} {P:Program} (s:Sem α):∀ {a:α} {H:Hp} {Q:α->Hp->Prop},zJ P s=some a->Q a H->wpS P s H Q:=by
 induction s with
 | pure b=>intro a H Q h hq; cases h; exact hq
 | program k ih=>intro a H Q h hq; exact ih P h hq
 | _=>intro a H Q h; cases h
def cellsA:AV->Option (List AV)
 | .any=>none
 | .tup _=>none
 | .agg l=>some l
 | .v (.agg ys)=>some (ys.toList.map .v)
 | .v (.tuple _)=>none
 | a=>some [a]
theorem kf {φ:Nat->Loc3} {n:Nat} {a:AV} {y:Value} (h:RelV φ n a y):zM φ n [a] #[y]:=⟨rfl,fun j u z hu hz=>by
 cases j with
 | zero=>simp at hu hz; subst hu hz; exact h
 | succ j=>simp at hu⟩
theorem za6 (φ:Nat->Loc3) (n:Nat) (ys:Array Value):zM φ n (ys.toList.map .v) ys:=⟨by simp,fun j u z hu hz=>by
 rw [lQ,mI,hz] at hu;cases hu;exact .v z⟩
theorem zcg {loc:Loc3} {len:Nat} {y:Value} (h:rowV loc len y):∃ b n c,y=.slice b n c:=by
 unfold rowV at h;split at h
 ·obtain ⟨b,e⟩:=h; exact ⟨_,_,_,e⟩
 ·exact ⟨_,_,_,h⟩
theorem zbJ {loc:Loc3} {len:Nat} {y:Value} (hl:len<=loc.cap) (h:rowV loc len y):∃ b c,y=.slice b len c:=by
 unfold rowV at h;split at h
 ·obtain ⟨b,e⟩:=h;obtain rfl:len=0:=by omega
  exact ⟨_,_,e⟩
 ·exact ⟨_,_,h⟩
theorem uZ {loc:Loc3} {len:Nat} {y:Value} (hc:0<loc.cap) (h:rowV loc len y):y=.slice (some ⟨loc.blk,0,none⟩) len loc.cap:=by
 unfold rowV at h;rwa [if_neg oQ] at h
theorem uK {φ:Nat->Loc3} {n:Nat} {a:AV} {l:List AV} {y:Value} (h:cellsA a=some l) (hr:RelV φ n a y):zM φ n l y.cells:=by
 cases hr with
 | any=>cases h
 | tup=>cases h
 | agg h1 h2=>cases h; exact ⟨h1,h2⟩
 | v =>
  cases y <;> first
   | (cases h; exact kf (.v _))
   | (cases h; exact za6 φ n _)
   | (cases h)
 | ptr hi=>cases h; exact kf (.ptr hi)
 | sl hi hl hb=>cases h; exact kf (.sl hi hl hb)
 | row hi hl hv =>
  cases h;obtain ⟨b,n,c,rfl⟩:=zcg hv;exact kf (.row hi hl hv)
 | fn h1 h2 h3 h4=>cases h; exact kf (.fn h1 h2 h3 h4)
 | e0 a c=>cases h; exact kf (.e0 a c)
 | z0 a=>cases h; exact kf (.z0 a)
 | map hi=>cases h; exact kf (.map hi)
 | yl hi=>cases h; exact kf (.yl hi)
 | chan hi=>cases h; exact kf (.chan hi)
def oneA:AV->Bool
 | .v x=>oneCell x
 | .ptr .. | .sl .. | .row .. | .fn .. | .e0 | .z0 | .map _ | .yl _ | .chan _=>true
 | _=>false
theorem zeA {φ:Nat->Loc3} {n:Nat} {a:AV} {y:Value} (h:oneA a=true) (hr:RelV φ n a y):oneCell y=true:=by
 cases hr with
 | row hi hl hv=>obtain ⟨b,n,c,rfl⟩:=zcg hv; rfl
 | v=>exact h
 | any=>cases h
 | tup=>cases h
 | agg=>cases h
 | _=>rfl
def AObj.look:AObj->Option (List AV)
 | .cells l _ _=>some l
 | .row l _ _=>some l
 | .raw _=>none
 | .loop .. => none
 | .gone=>none
 | .ro _=>none
theorem RelO.look {φ:Nat->Loc3} {n:Nat} {loc:Loc3} {H:Hp} {o:AObj} {l:List AV} (h:RelO φ n loc H o) (hl:o.look=some l) (hpos:0<l.length) :
  ∃ rw' cur e fz,H loc.blk=some (rw',.cells cur e fz)/\∀ (j:Nat) a,l[j]? =some a->∃ y,cur[loc.base+j]? =some y/\RelV φ n a y:=by
 cases o with
 | cells l' e rw'=>cases hl; obtain ⟨rw'',cur,fz,h1,_,h3⟩:=h (by intro e; rw [e] at hpos; simp at hpos); exact ⟨_,_,_,_,h1,h3⟩
 | row l' e size =>
  cases hl;obtain ⟨h0,h2,h⟩:=h;have hc:0<loc.cap:=by
   rcases mP loc.cap with e | e
   ·rw [h0 e] at hpos; simp at hpos
   ·exact e
  obtain ⟨cur,h1,_,_,_,h6⟩:=h hc;exact ⟨_,_,_,_,h1,fun j a ha=>by rw [h2,mO]; exact h6 j a ha⟩
 | raw o=>cases hl
 | loop f env ps x y st pj=>cases hl
 | gone=>cases hl
 | ro o=>cases hl
def loadA (A:List AObj) (i off n:Nat):Option (List AV) :=
 match A[i]? with
 | some o=>match o.look with
  | some l=>if 0<n/\off+n<=l.length then some ((l.drop off).take n) else none
  | none=>none
 | none=>none
theorem vn {φ:Nat->Loc3} {A:List AObj} {F H:Hp} {i off n:Nat} {l:List AV} (hH:RelH φ A F H) (h:loadA A i off n=some l) :
  l.length=n/\∃ (rw':Bool) (cur:Array Value) (e:TypeId) (fz:Nat×Nat) (ys:List Value),H (φ i).blk=some (rw',.cells cur e fz)/\ys.length=n/\zM φ A.length l ys.toArray/\∀ (j:Nat) y,ys[j]? =some y->cur[(φ i).base+off+j]? =some y:=by
 unfold loadA at h;split at h
 ·rename_i o ho;split at h
  ·rename_i l' hl';split at h
   ·rename_i hle;obtain ⟨hn0,hle⟩:=hle;cases h;obtain ⟨rw',cur,e,fz,h1,h2⟩:=(hH.obj i o ho).look hl' oQ;have hlen:((l'.drop off).take n).length=n:=by simp; omega
    refine ⟨hlen,rw',cur,e,fz,(List.range n).map fun j=>(cur[(φ i).base+off+j]?).getD undef,h1,by simp,⟨by simp; omega,fun j a y ha hy=>?_⟩,fun j y hy=>?_⟩
    ·have hj:j<n:=by rw [<- hlen]; exact (lD.1 ha).1
     rw [List.getElem?_take,if_pos hj,List.getElem?_drop] at ha;obtain ⟨z,hz,hr⟩:=h2 (off+j) a ha;simp only [List.getElem?_toArray,lQ,List.getElem?_range hj,Option.map_some,Option.some.injEq] at hy;rw [show (φ i).base+off+j=(φ i).base+(off+j) by omega,hz] at hy;cases hy; exact hr
    ·have hj:j<n:=by have:=(lD.1 hy).1; simpa using this
     rw [lQ,List.getElem?_range hj] at hy;have hlt:off+j<l'.length:=by omega
     obtain ⟨z,hz,_⟩:=h2 (off+j) l'[off+j] (lA hlt);simp only [Option.map_some,Option.some.injEq] at hy;rw [show (φ i).base+off+j=(φ i).base+(off+j) by omega] at hy ⊢;rw [hz] at hy ⊢;exact congrArg some hy
   ·cases h
  ·cases h
 ·cases h
def setL (l:List AV) (off:Nat):List AV->List AV
 | []=>l
 | v::vs=>setL (l.set off v) (off+1) vs
theorem vj (off:Nat):∀ (vs l:List AV),(setL l off vs).length=l.length:=by
 intro vs
 induction vs generalizing off with
 | nil=>intro l; rfl
 | cons v vs ih=>intro l; rw [setL,ih,List.length_set]
theorem zbK:∀ (vs l:List AV) (off j:Nat),off+vs.length<=l.length->(setL l off vs)[j]? =if off<=j/\j<off+vs.length then vs[j - off]? else l[j]? :=by
 intro vs
 induction vs with
 | nil=>intro l off j _; simp [setL]; omega
 | cons y ys ih =>
  intro l off j h;rw [setL,ih _ _ _ (by simp at h ⊢; omega)];simp only [lZ] at h ⊢;by_cases h1:off+1<=j/\j<off+1+ys.length
  ·rw [if_pos h1,if_pos oQ,show j - off=(j - (off+1))+1 by omega,List.getElem?_cons_succ]
  ·rw [if_neg h1];by_cases h2:j=off
   ·subst h2;rw [if_pos oQ,Nat.sub_self,List.getElem?_cons_zero,List.getElem?_set_self oQ]
   ·rw [if_neg oQ,List.getElem?_set_ne (Ne.symm h2)]
def storeA (A:List AObj) (i off:Nat) (vs:List AV):Option (List AObj) :=
 match A[i]? with
 | some (.cells l e true)=>if off+vs.length<=l.length/\0<vs.length/\vs.all oneA=true then some (A.set i (.cells (setL l off vs) e true)) else none
 | some (.row l e size)=>if off+vs.length<=l.length/\0<vs.length/\vs.all oneA=true then some (A.set i (.row (setL l off vs) e size)) else none
 | _=>none
theorem zaT {P:Program} {φ:Nat->Loc3} {A A':List AObj} {F H:Hp} {i off:Nat} {vs:List AV} {ys:Array Value} (hH:RelH φ A F H) (h:storeA A i off vs=some A') (hr:zM φ A.length vs ys) {Q:Unit->Hp->Prop}
  (hq:∀ H',RelH φ A' F H'->A'.length=A.length->Q () H'):wpS P (storeCells ⟨(φ i).blk,(φ i).base+off,none⟩ ys.toList) H Q:=by
 have hone:vs.all oneA=true->∀ y∈ys.toList,oneCell y=true:=fun hall y hy=>by
  obtain ⟨j,hj⟩:=List.mem_iff_getElem?.1 hy;rw [mI] at hj;obtain ⟨a,ha,hra⟩:=hr.back hj;exact zeA (List.all_eq_true.1 hall a (lN ha)) hra
 have hsz:ys.toList.length=vs.length:=by rw [Array.length_toList]; exact hr.1.symm
 unfold storeA at h;split at h
 ·rename_i l e ho;split at h
  ·rename_i hc;cases h;have hne:l≠[]:=by
    intro e;have h1:=hc.1;have h2:=hc.2.1;rw [e,List.length_nil] at h1;omega
   obtain ⟨rw',cur,fz,h1,h2,h3⟩:=hH.obj i _ ho hne;obtain ⟨⟨rfl,rfl⟩,hb0,hcl⟩:=h2 rfl;have hcur:(φ i).base+l.length<=cur.size:=by
    obtain ⟨y,hy,_⟩:=h3 (l.length - 1) l[l.length - 1] (lA oQ);have:=(mG.1 hy).1;omega
   refine wx ys.toList 0 cur H h1 oQ (hone hc.2.2) (hq _ ?_ sQ);refine hH.set (o:=.cells l e true) ho Z hne ?_;refine fun _=>⟨true,_,_,Hp.put_same _ _ _,fun _=>⟨⟨rfl,rfl⟩,hb0,by rw [wv,vj]; exact hcl⟩,fun j a ha=>?_⟩;rw [zbK _ _ _ _ hc.1] at ha;rw [Nat.add_zero,uh _ _ _ _ oQ];by_cases hj:off<=j/\j<off+vs.length
   ·rw [if_pos hj] at ha;rw [if_pos oQ];obtain ⟨y,hy,hra⟩:=hr.get ha;refine ⟨y,?_,hra⟩;rw [mI,show (φ i).base+j - ((φ i).base+off)=j - off by omega];exact hy
   ·rw [if_neg hj] at ha;rw [if_neg oQ];exact h3 j a ha
  ·cases h
 ·rename_i l e size ho;split at h
  ·rename_i hc;cases h;obtain ⟨h0,h2,hrow⟩:=hH.obj i _ ho;have hcap:0<(φ i).cap:=by
    rcases mP (φ i).cap with e | e
    ·have hc1:=hc.1;rw [h0 e,List.length_nil] at hc1;have:=hc.2.1;omega
    ·exact e
   obtain ⟨cur,h1,h3,h4,h5,h6⟩:=hrow hcap;refine wx ys.toList 0 cur H h1 oQ (hone hc.2.2) (hq _ ?_ sQ);refine hH.set (o:=.row l e size) ho Z hcap ?_;refine ⟨fun e=>absurd e oQ,h2,fun _=>⟨_,Hp.put_same _ _ _,by rw [wv]; exact h3,h4,by rw [vj,wv]; exact h5,fun j a ha=>?_⟩⟩;rw [zbK _ _ _ _ hc.1] at ha;rw [Nat.add_zero,uh _ _ _ _ oQ,h2,mO];by_cases hj:off<=j/\j<off+vs.length
   ·rw [if_pos hj] at ha;rw [if_pos oQ];obtain ⟨y,hy,hra⟩:=hr.get ha;refine ⟨y,?_,hra⟩;rw [mI];exact hy
   ·rw [if_neg hj] at ha;rw [if_neg oQ];exact h6 j a ha
  ·cases h
 ·cases h
def zX (φ:Nat->Loc3) (A:List AObj) (F:Hp) (r:AV) (A':List AObj) (nx:Next) (H':Hp):Prop :=
 ∃ v φ',(nx=.value v\/(nx=.skip/\v=undef))/\Agr φ φ' A.length/\A.length<=A'.length/\RelH φ' A' F H'/\RelV φ' A'.length r v
section
variable {P:Program} {gm:Nat->Option Nat} {φ:Nat->Loc3} {A A':List AObj} {F H:Hp} {env:List AV} {a:Act} {o:Oper} {r:AV}
theorem zX.quiet (hH:RelH φ A F H) {v:Value} (hv:RelV φ A.length r v):zX φ A F r A (.value v) H:=⟨v,φ,.inl rfl,Agr.refl _ _,mL _,hH,hv⟩
theorem wb {n i off:Nat} {y:Value} (h:RelV φ n (.ptr i off) y):i<n/\y=.pointer (some ⟨(φ i).blk,(φ i).base+off,none⟩):=by cases h; exact ⟨‹_›,rfl⟩
theorem zay {n i off len:Nat} {y:Value} (h:RelV φ n (.sl i off len) y):i<n/\∃ cap b,len<=cap/\(0<len->b=some ⟨(φ i).blk,(φ i).base+off,none⟩)/\y=.slice b len cap:=by cases h; exact ⟨‹_›,_,_,‹_›,‹_›,rfl⟩
theorem uE {n i len:Nat} {y:Value} (h:RelV φ n (.row i len) y):i<n/\len<=(φ i).cap/\rowV (φ i) len y:=by cases h; exact ⟨‹_›,‹_›,‹_›⟩
theorem zl7 {n:Nat} {y:Value} (h:RelV φ n .z0 y):∃ b,y=.slice (some b) 0 0:=by cases h; exact ⟨_,rfl⟩
theorem inv_v {n:Nat} {x y:Value} (h:RelV φ n (.v x) y):y=x:=by cases h; rfl
theorem zk1 {n:Nat} {l:List AV} {y:Value} (h:RelV φ n (.tup l) y):∃ ys,y=.tuple ys/\zM φ n l ys:=by cases h; exact ⟨_,rfl,‹_›,‹_›⟩
theorem za2 {n:Nat} {l:List AV} {y:Value} (h:RelV φ n (.agg l) y):∃ ys,y=.agg ys/\zM φ n l ys:=by cases h; exact ⟨_,rfl,‹_›,‹_›⟩
theorem vR {n:Nat} {f:FuncId} {fs cs:List AV} {y:Value} (h:RelV φ n (.fn f fs cs) y):∃ xs ys,y=.func (.func f) xs ys/\zM φ n fs xs/\zM φ n cs ys:=by cases h; exact ⟨_,_,rfl,⟨‹_›,‹_›⟩,‹_›,‹_›⟩
def OpOk (P:Program) (gm:Nat->Option Nat) (env:List AV) (A:List AObj) (o:Oper) (r:AV) (A':List AObj):Prop :=
 ∀ (φ:Nat->Loc3) (F H:Hp) (a:Act),RelG gm φ A.length->RelH φ A F H->zM φ A.length env a.tmps->wpS P (execOp a.eval o) H (zX φ A F r A')
theorem wpS_v {s:Sem Value} {Q:Next->Hp->Prop} (h:wpS P s H (fun v H'=>Q (.value v) H')):wpS P (do pure (Next.value (<- s))) H Q:=ze _ _ _ h
theorem wpS_u {s:Sem Unit} {Q:Next->Hp->Prop} (h:wpS P s H (fun _ H'=>Q .skip H')):wpS P (do s; pure Next.skip) H Q:=ze _ _ _ h
theorem zln {x:Operand} (ho:o.op=.move x):OpOk P gm env A o (zL gm env x) A:=fun φ F H a hg hH hE=>by
 unfold execOp; rw [ho]; exact zX.quiet hH (zD hg hE x)
theorem zh4 {x:Operand} (ho:o.op=.assign x):OpOk P gm env A o (zL gm env x) A:=fun φ F H a hg hH hE=>by
 unfold execOp; rw [ho]; exact zX.quiet hH (zD hg hE x)
def pickA (t:Bool):AV->AV->AV
 | .v (.bool x),.v (.bool y)=>.v (.bool (bif t then x else y))
 | .v x,.v y=>.v (bif t then x else y)
 | x,y=>bif t then x else y
theorem zib {n:Nat} {t:Bool} {x y:AV} {u v:Value} (hx:RelV φ n x u) (hy:RelV φ n y v):RelV φ n (pickA t x y) (if t then u else v):=by
 unfold pickA;split
 ·cases hx; cases hy;cases t <;> exact .v _
 ·cases hx; cases hy;cases t <;> exact .v _
 ·cases t
  ·exact hy
  ·exact hx
theorem zlo {c x y:Operand} {t:Bool} (ho:o.op=.pick c x y) (hc:zL gm env c=.v (.bool t)):OpOk P gm env A o (pickA t (zL gm env x) (zL gm env y)) A:=fun φ F H a hg hH hE=>by
 unfold execOp; rw [ho];have h1:=zD hg hE c;rw [hc] at h1;simp only [inv_v h1];exact zX.quiet hH (zib (zD hg hE x) (zD hg hE y))
theorem vq {op:BinOp} {t yt:TypeId} {x y:Operand} {u v z:Value} (ho:o.op=.binOp op t x y yt) (hx:toV (zL gm env x)=some u) (hy:toV (zL gm env y)=some v)
  (h:zJ P (eqGuard op t x y u v >>= fun _=>binOp op t u v)=some z):OpOk P gm env A o (.v z) A:=fun φ F H a hg hH hE=>by
 unfold execOp; rw [ho]; dsimp only;rw [zba hx (zD hg hE x),zba hy (zD hg hE y)];exact wpS_v (vu _ h (zX.quiet hH (.v z)))
theorem ok_un {op:UnOp} {t:TypeId} {x:Operand} {u z:Value} (ho:o.op=.unOp op t x) (hx:toV (zL gm env x)=some u) (h:zJ P (Op.unary op u)=some z):OpOk P gm env A o (.v z) A:=fun φ F H a hg hH hE=>by
 unfold execOp; rw [ho]; dsimp only;rw [zba hx (zD hg hE x)];exact wpS_v (vu _ h (zX.quiet hH (.v z)))
theorem zgX {s d:TypeId} {x:Operand} {u z:Value} (ho:o.op=.convert s d x) (hx:toV (zL gm env x)=some u) (h:zJ P (convert s d u)=some z):OpOk P gm env A o (.v z) A:=fun φ F H a hg hH hE=>by
 unfold execOp; rw [ho]; dsimp only;rw [zba hx (zD hg hE x)];exact wpS_v (vu _ h (zX.quiet hH (.v z)))
theorem zgY {x:Operand} {k:Nat} {l:List AV} (ho:o.op=.extract x k) (hx:zL gm env x=.tup l) (h:l[k]? =some r):OpOk P gm env A o r A:=fun φ F H a hg hH hE=>by
 unfold execOp; rw [ho];have h1:=zD hg hE x;rw [hx] at h1;obtain ⟨ys,e,hrel⟩:=zk1 h1;obtain ⟨y,hy,hr⟩:=hrel.get h;dsimp only;simp only [e,Instr.extract,hy];exact zX.quiet hH hr
theorem zeu {t:TypeId} {x:Operand} {k i off d n:Nat} {g:Bool} (ho:o.op=.fieldAddr t x k) (hx:zL gm env x=.ptr i off) (hf:fieldOf P t k=some (d,g,n)) (hn:n≠0):OpOk P gm env A o (.ptr i (off+d)) A:=fun φ F H a hg hH hE=>by
 unfold execOp; rw [ho];have h1:=zD hg hE x;rw [hx] at h1;obtain ⟨fs,f,e1,e2,e3,e4⟩:=wQ hf;obtain ⟨ti,td,e5,_,_,e6⟩:=yF e4;obtain ⟨hi,e⟩:=wb h1;dsimp only;rw [e];refine wpS_v ?_;unfold Instr.fieldAt;refine ze _ _ _ (zG e1 ?_);simp only [e2];refine ze _ _ _ ?_;refine ze _ _ _ ?_;unfold fieldPlace;refine ze _ _ _ (yq e5 ?_);rw [e6,if_neg hn];show zX φ A F (.ptr i (off+d)) A (.value (.pointer (some (Addr.add _ f.offset)))) H;rw [yY,e3,Nat.add_assoc];exact zX.quiet hH (.ptr hi)
theorem zlm {t:TypeId} {x:Operand} {i off n:Nat} {l:List AV} (ho:o.op=.load t x) (hx:zL gm env x=.ptr i off) (ht:tySize P t=some (true,n)) (hl:loadA A i off n=some l):OpOk P gm env A o (.agg l) A:=fun φ F H a hg hH hE=>by
 unfold execOp; rw [ho];have h1:=zD hg hE x;rw [hx] at h1;obtain ⟨ti,td,e5,e7,e8,e6⟩:=yF ht;obtain ⟨_,rw',cur,e,fz,ys,hb,hn,hr,hc⟩:=vn hH hl;obtain ⟨hi,ez⟩:=wb h1;dsimp only;rw [ez]
 ·refine wpS_v ?_;unfold Instr.loadAt;show wpS P (loadVar t _) H _;unfold loadVar;refine ze _ _ _ (vz e7 ?_);rw [e8,if_pos rfl];refine ze _ _ _ (yq e5 ?_);rw [e6,<- hn];refine ze _ _ _ (wD hb ys hc ?_);exact zX.quiet hH (.agg hr.1 hr.2)
theorem zjU {t:TypeId} {x:Operand} {i off n:Nat} (ho:o.op=.load t x) (hx:zL gm env x=.ptr i off) (ht:tySize P t=some (false,n)) (hl:loadA A i off 1=some [r]):OpOk P gm env A o r A:=fun φ F H a hg hH hE=>by
 unfold execOp; rw [ho];have h1:=zD hg hE x;rw [hx] at h1;obtain ⟨ti,td,e5,e7,e8,e6⟩:=yF ht;obtain ⟨_,rw',cur,e,fz,ys,hb,hn,hr,hc⟩:=vn hH hl;obtain ⟨hi,ez⟩:=wb h1;dsimp only;rw [ez]
 ·refine wpS_v ?_;unfold Instr.loadAt;show wpS P (loadVar t _) H _;unfold loadVar;refine ze _ _ _ (vz e7 ?_);rw [e8,if_neg sQ];obtain ⟨y,rfl⟩:∃ y,ys=[y]:=by
   cases ys with
   | nil=>simp at hn
   | cons y ys=>cases ys with
    | nil=>exact ⟨y,rfl⟩
    | cons z zs=>simp at hn
  exact ⟨rw',cur,e,fz,y,hb,rfl,hc 0 y rfl,zX.quiet hH (hr.2 0 r y rfl rfl)⟩
theorem zjV {t:TypeId} {x y:Operand} {i off n:Nat} {g:Bool} {vs:List AV} (ho:o.op=.store t x y) (hx:zL gm env x=.ptr i off) (ht:tySize P t=some (g,n)) (hy:cellsA (zL gm env y)=some vs) (hn:vs.length=n) (hs:storeA A i off vs=some A') :
  OpOk P gm env A o .any A':=fun φ F H a hg hH hE=>by
 unfold execOp; rw [ho];have h1:=zD hg hE x;rw [hx] at h1;obtain ⟨ti,td,e5,e7,e8,e6⟩:=yF ht;have hr:=uK hy (zD hg hE y);obtain ⟨hi,ez⟩:=wb h1;dsimp only;rw [ez]
 ·refine wpS_u ?_;unfold Instr.storeAt;show wpS P (storeVar t _ (a.eval y)) H _;unfold storeVar;refine ze _ _ _ (yq e5 ?_);rw [if_neg (by rw [e6,<- hn,<- hr.1]; simp)];show wpS P (storeCells _ (a.eval y).cells.toList) H _;refine zaT hH hs hr fun H' hH' hlen=>⟨undef,φ,.inr ⟨rfl,rfl⟩,Agr.refl _ _,oQ,hH',.any _⟩
theorem zh5 {s:Sem Value} (l:List AV) (t:TypeId) (hs:∀ (φ:Nat->Loc3) (F H:Hp) (a:Act),RelG gm φ A.length->RelH φ A F H->zM φ A.length env a.tmps->∃ ys:Array Value,zM φ A.length l ys/\∀ Q:Next->Hp->Prop,(wpS P (newRow t ys) H (fun x H'=>Q (.value (.pointer (some x))) H'))->wpS P (execOp a.eval o) H Q) :
  OpOk P gm env A o (.ptr A.length 0) (A++[.cells l t true]):=fun φ F H a hg hH hE=>by
 obtain ⟨ys,hr,hq⟩:=hs φ F H a hg hH hE;refine hq _ ?_;unfold newRow;refine ze _ _ _ fun b hb=>?_;show zX φ A F (.ptr A.length 0) (A++[.cells l t true]) (.value (.pointer (some ⟨b,0,none⟩))) (H.put b (true,.cells ys t (0,0)));refine ⟨_,upd3 φ A.length ⟨b,0,0⟩,.inl rfl,yr _ _ _,by simp,hH.push hb Z ?_,?_⟩
 ·refine fun _=>⟨true,ys,_,Hp.put_same _ _ _,fun _=>⟨⟨rfl,rfl⟩,by simp [upd3],hr.1.symm⟩,fun j u hu=>?_⟩;obtain ⟨y,hy,hr'⟩:=hr.get hu;exact ⟨y,by rw [mO]; exact hy,hr'.mono (yr _ _ _) oQ⟩
 ·have:=RelV.ptr (φ:=upd3 φ A.length ⟨b,0,0⟩) (n:=(A++[AObj.cells l t true]).length) (i:=A.length) (off:=0) sQ;simpa [upd3] using this
theorem zjO {t:TypeId} {z:List Value} (ho:o.op=.alloc t) (hz:tyZero P t=some z):OpOk P gm env A o (.ptr A.length 0) (A++[.cells (z.map .v) t true]):=by
 obtain ⟨i,zv,e1,e2,e3⟩:=wC hz;refine zh5 (s:=pure undef) _ t fun φ F H a hg hH hE=>⟨zv.cells,?_,fun Q hq=>?_⟩
 ·rw [<- e3]; exact za6 φ _ _
 ·unfold execOp; rw [ho];refine wpS_v ?_;unfold Instr.alloc;refine ze _ _ _ (kj e1 e2 ?_);exact ze _ _ _ hq
theorem zmC {t:TypeId} {x:Operand} {l:List AV} (ho:o.op=.box t x) (hx:cellsA (zL gm env x)=some l):OpOk P gm env A o (.ptr A.length 0) (A++[.cells l t true]):=by
 refine zh5 (s:=pure undef) _ t fun φ F H a hg hH hE=>⟨(a.eval x).cells,uK hx (zD hg hE x),fun Q hq=>?_⟩;unfold execOp; rw [ho];refine wpS_v ?_;unfold Instr.box;exact ze _ _ _ hq
theorem zfu {f:FuncId} {fs cs:Array Operand} (ho:o.op=.makeFunc (.func f) fs cs):OpOk P gm env A o (.fn f (fs.toList.map (zL gm env)) (cs.toList.map (zL gm env))) A:=fun φ F H a hg hH hE=>by
 unfold execOp; rw [ho];have h1:=kU hg hE fs;have h2:=kU hg hE cs;exact zX.quiet hH (.fn h1.1 h1.2 h2.1 h2.2)
theorem zft {t e:TypeId} {x y:Operand} {k:IntKind} {n:Int} {i off len size:Nat} (ho:o.op=.indexAddr t x y) (hx:zL gm env x=.sl i off len) (hy:zL gm env y=.v (.int k n)) (ht:slElem P t=some (e,size)) (h0:0<=n) (h1:n<len) :
  OpOk P gm env A o (.ptr i (off+n.toNat*size)) A:=fun φ F H a hg hH hE=>by
 unfold execOp; rw [ho];have hx':=zD hg hE x;have hy':=zD hg hE y;rw [hx] at hx';rw [hy] at hy';obtain ⟨ti,e1,e2,e3⟩:=wc ht;obtain ⟨hi,cap,b,hl,hb,ez⟩:=zay hx';obtain rfl:=hb oQ;dsimp only;rw [inv_v hy',ez]
 ·refine wpS_v ?_;unfold Instr.indexAt;refine ze _ _ _ ?_;refine ze _ _ _ (zG e1 ?_);refine ze _ _ _ ?_;refine ze _ _ _ (zG e1 ?_);simp only [Bool.and_false];rw [if_pos ⟨h0,h1⟩];refine ze _ _ _ (yq e2 ?_);show zX φ A F _ A (.value (.pointer (some (Addr.add _ (n.toNat*ti.size))))) H;rw [yY,e3,Nat.add_assoc];exact zX.quiet hH (.ptr hi)
end
section
variable {P:Program} {gm:Nat->Option Nat} {φ:Nat->Loc3} {A A':List AObj} {F H:Hp} {env:List AV} {a:Act} {o:Oper} {r:AV}
theorem zew {t e:TypeId} {x y:Operand} {k:IntKind} {n:Int} {i len size:Nat} (ho:o.op=.indexAddr t x y) (hx:zL gm env x=.row i len) (hy:zL gm env y=.v (.int k n)) (ht:slElem P t=some (e,size)) (h0:0<=n) (h1:n<len)
  {l:List AV} {e':TypeId} {s':Nat} (hrow:A[i]? =some (.row l e' s')):OpOk P gm env A o (.ptr i (n.toNat*size)) A:=fun φ F H a hg hH hE=>by
 unfold execOp; rw [ho];have hx':=zD hg hE x;have hy':=zD hg hE y;rw [hx] at hx';rw [hy] at hy';obtain ⟨ti,e1,e2,e3⟩:=wc ht;obtain ⟨hi,hl,ez⟩:=uE hx';obtain ⟨_,hbase,_⟩:=hH.obj i _ hrow
 replace ez:=uZ oQ ez
 dsimp only;rw [inv_v hy',ez];refine wpS_v ?_;unfold Instr.indexAt;refine ze _ _ _ ?_;refine ze _ _ _ (zG e1 ?_);refine ze _ _ _ ?_;refine ze _ _ _ (zG e1 ?_);simp only [Bool.and_false];rw [if_pos ⟨h0,h1⟩];refine ze _ _ _ (yq e2 ?_);show zX φ A F _ A (.value (.pointer (some (Addr.add _ (n.toNat*ti.size))))) H;rw [yY,e3,mO];have:=RelV.ptr (φ:=φ) (n:=A.length) (off:=n.toNat*size) hi;rw [hbase,mO] at this;exact zX.quiet hH this
theorem zev {t e:TypeId} {x y:Operand} {k:IntKind} {n:Int} {i off len size:Nat} {g:Bool} (ho:o.op=.indexAddr t x y) (hx:zL gm env x=.ptr i off) (hy:zL gm env y=.v (.int k n)) (ht:arrElem P t=some (len,e,g,size)) (h0:0<=n) (h1:n<len) :
  OpOk P gm env A o (.ptr i (off+n.toNat*size)) A:=fun φ F H a hg hH hE=>by
 unfold execOp; rw [ho];have hx':=zD hg hE x;have hy':=zD hg hE y;rw [hx] at hx';rw [hy] at hy';obtain ⟨e1,e2⟩:=vN ht;obtain ⟨ti,td,e5,_,_,e6⟩:=yF e2;obtain ⟨hi,ez⟩:=wb hx';dsimp only;rw [inv_v hy',ez];refine wpS_v ?_;unfold Instr.indexAt;refine ze _ _ _ ?_;refine ze _ _ _ (zG e1 ?_);refine ze _ _ _ ?_;refine ze _ _ _ ?_;refine ze _ _ _ (zG e1 ?_);dsimp only;rw [if_pos ⟨h0,h1⟩];refine ze _ _ _ (yq e5 ?_);show zX φ A F _ A (.value (.pointer (some (Addr.add _ (n.toNat*ti.size))))) H;rw [yY,e6,Nat.add_assoc];exact zX.quiet hH (.ptr hi)
def partA (g:Bool) (l:List AV) (off n:Nat):Option AV:=if g then (if off+n<=l.length then some (.agg ((l.drop off).take n)) else none) else l[off]?
theorem zfh {t:TypeId} {g:Bool} {n off:Nat} {l:List AV} {ys:Array Value} (ht:tySize P t=some (g,n)) (hr:zM φ A.length l ys) (h:partA g l off n=some r) {Q:Value->Hp->Prop} (hq:∀ v,RelV φ A.length r v->Q v H):wpS P (part t ys off) H Q:=by
 obtain ⟨ti,td,e5,e7,e8,e6⟩:=yF ht;unfold part;refine ze _ _ _ (vz e7 ?_);rw [e8];unfold partA at h;cases g with
 | true =>
  simp only [if_true] at h ⊢;split at h
  ·rename_i hle;cases h;refine ze _ _ _ (yq e5 ?_);rw [e6];refine hq _ (.agg ?_ fun j u y hu hy=>?_)
   ·have:=hr.1; simp; omega
   ·rw [List.getElem?_take] at hu;split at hu
    ·rename_i hj;rw [List.getElem?_drop] at hu;rw [Array.getElem?_extract] at hy;split at hy
     ·exact hr.2 _ u y hu hy
     ·cases hy
    ·cases hu
  ·cases h
 | false =>
  simp only [mU,if_false] at h ⊢;obtain ⟨y,hy,hr'⟩:=hr.get h;rw [hy];exact hq y hr'
theorem zjS {t:TypeId} {x:Operand} {k off n:Nat} {g:Bool} {l:List AV} (ho:o.op=.field t x k) (hx:zL gm env x=.agg l) (hf:fieldOf P t k=some (off,g,n)) (h:partA g l off n=some r):OpOk P gm env A o r A:=fun φ F H a hg hH hE=>by
 unfold execOp; rw [ho];have hx':=zD hg hE x;rw [hx] at hx';obtain ⟨ys,e,hr⟩:=za2 hx';obtain ⟨fs,f,e1,e2,e3,e4⟩:=wQ hf;dsimp only;rw [e];refine wpS_v ?_;unfold Instr.field;refine ze _ _ _ (zG e1 ?_);simp only [e2];refine ze _ _ _ ?_;show wpS P (part f.type ys f.offset) H _;rw [e3];exact zfh e4 hr h fun v hv=>zX.quiet hH hv
theorem zjT {t e:TypeId} {x y:Operand} {k:IntKind} {n:Int} {len size:Nat} {g:Bool} {l:List AV} (ho:o.op=.index t x y) (hx:zL gm env x=.agg l) (hy:zL gm env y=.v (.int k n)) (ht:arrElem P t=some (len,e,g,size)) (h0:0<=n) (h1:n<len)
  (h:partA g l (n.toNat*size) size=some r):OpOk P gm env A o r A:=fun φ F H a hg hH hE=>by
 unfold execOp; rw [ho];have hx':=zD hg hE x;have hy':=zD hg hE y;rw [hx] at hx';rw [hy] at hy';obtain ⟨ys,ez,hr⟩:=za2 hx';obtain ⟨e1,e2⟩:=vN ht;obtain ⟨ti,td,e5,_,_,e6⟩:=yF e2;dsimp only;rw [inv_v hy',ez];refine wpS_v ?_;unfold Instr.index;refine ze _ _ _ ?_;refine ze _ _ _ (zG e1 ?_);dsimp only;rw [if_pos ⟨h0,h1⟩];refine ze _ _ _ (yq e5 ?_);rw [e6];exact zfh e2 hr h fun v hv=>zX.quiet hH hv
theorem zex {t:TypeId} {x y:Operand} {k:IntKind} {n:Int} {s:ByteArray} {c:UInt8} (ho:o.op=.index t x y) (hx:zL gm env x=.v (.string s)) (hy:zL gm env y=.v (.int k n)) (ht:P.underlying t=some .string) (h0:0<=n) (h1:s[n.toNat]? =some c) :
  OpOk P gm env A o (.v (.int .u8 c.toNat)) A:=fun φ F H a hg hH hE=>by
 unfold execOp; rw [ho];have hx':=zD hg hE x;have hy':=zD hg hE y;rw [hx] at hx';rw [hy] at hy';dsimp only;rw [inv_v hy',inv_v hx'];refine wpS_v ?_;unfold Instr.index;refine ze _ _ _ ?_;refine ze _ _ _ (zG ht ?_);dsimp only;rw [if_pos h0,h1];exact zX.quiet hH (.v _)
theorem yM {b:Builtin} {args:Array Operand} {ts:Array TypeId} (ho:o.op=.call { callee:=.builtin b,args:=args,argTypes:=ts }) (ρ:Operand->Value) :
  execOp ρ o=builtin b ts o.type (args.map fun | .const _=>true | _=>false) (args.map ρ):=by
 unfold execOp; rw [ho]; rfl
def lenA:AV->Option Nat
 | .sl _ _ n=>some n
 | .row _ n=>some n
 | .v (.slice _ n _)=>some n
 | .e0=>some 0
 | .z0=>some 0
 | _=>none
theorem zem {n:Nat} {x:AV} {k:Nat} {y:Value} (h:lenA x=some k) (hr:RelV φ n x y):∃ b c,y=.slice b k c:=by
 cases hr with
 | sl hi hl hb=>cases h; exact ⟨_,_,rfl⟩
 | row hi hl hv=>cases h; exact zbJ hl hv
 | v=>cases y <;> first | (cases h; exact ⟨_,_,rfl⟩) | cases h
 | e0 a c=>cases h; exact ⟨_,_,rfl⟩
 | z0 a=>cases h; exact ⟨_,_,rfl⟩
 | _=>cases h
theorem zmD {x:Operand} {t e:TypeId} {n:Nat} (ho:o.op=.call { callee:=.builtin .len,args:=#[x],argTypes:=#[t] }) (hx:lenA (zL gm env x)=some n) (ht:P.underlying t=some (.slice e)):OpOk P gm env A o (.v (.int .i64 n)) A:=fun φ F H a hg hH hE=>by
 rw [yM ho];obtain ⟨b,c,e1⟩:=zem hx (zD hg hE x);simp only [builtin,List.map_toArray,List.map_cons,List.map_nil,e1];refine wpS_v ?_;show wpS P (underlying t >>= _) H _;refine ze _ _ _ (zG ht ?_);exact zX.quiet hH (.v _)
theorem zgZ {x:Operand} {t:TypeId} {s:ByteArray} (ho:o.op=.call { callee:=.builtin .len,args:=#[x],argTypes:=#[t] }) (hx:zL gm env x=.v (.string s)) (ht:P.underlying t=some .string):OpOk P gm env A o (.v (.int .i64 s.size)) A:=fun φ F H a hg hH hE=>by
 rw [yM ho];have e1:=zD hg hE x;rw [hx] at e1;simp only [builtin,List.map_toArray,List.map_cons,List.map_nil,inv_v e1];refine wpS_v ?_;show wpS P (underlying t >>= _) H _;refine ze _ _ _ (zG ht ?_);exact zX.quiet hH (.v _)
theorem zmF {x y:Operand} {t u:TypeId} {k k':IntKind} {m n:Int} (ho:o.op=.call { callee:=.builtin .min,args:=#[x,y],argTypes:=#[t,u] }) (hx:zL gm env x=.v (.int k m)) (hy:zL gm env y=.v (.int k' n)):OpOk P gm env A o (.v (.int k (if n<m then n else m))) A:=fun φ F H a hg hH hE=>by
 rw [yM ho];have e1:=zD hg hE x;have e2:=zD hg hE y;rw [hx] at e1;rw [hy] at e2;simp only [builtin,List.map_toArray,List.map_cons,List.map_nil,inv_v e1,inv_v e2];refine wpS_v ?_;exact zX.quiet hH (.v _)
theorem zmE {x y:Operand} {t u:TypeId} {k k':IntKind} {m n:Int} (ho:o.op=.call { callee:=.builtin .max,args:=#[x,y],argTypes:=#[t,u] }) (hx:zL gm env x=.v (.int k m)) (hy:zL gm env y=.v (.int k' n)):OpOk P gm env A o (.v (.int k (if m<n then n else m))) A:=fun φ F H a hg hH hE=>by
 rw [yM ho];have e1:=zD hg hE x;have e2:=zD hg hE y;rw [hx] at e1;rw [hy] at e2;simp only [builtin,List.map_toArray,List.map_cons,List.map_nil,inv_v e1,inv_v e2];refine wpS_v ?_;exact zX.quiet hH (.v _)
def bndA (x:Option AV) (dflt:Nat):Option Nat:=match x with
 | none=>some dflt
 | some (.v (.int _ n))=>if 0<=n then some n.toNat else none
 | _=>none
theorem vg {k:IntKind} {n:Int} {y:Nat} {c:BoundsCode} (h0:0<=n) (h1:n<=(y:Int)) {Q:Nat->Hp->Prop} (hq:Q n.toNat H):wpS P (Instr.sliceBound (.int k n) y c) H Q:=by
 unfold Instr.sliceBound;refine ze _ _ _ ?_;show wpS P (if 0<=n/\n<=(y:Int) then pure n.toNat else _) H _;rw [if_pos ⟨h0,h1⟩];exact hq
theorem zbt {x:AV} {d q:Nat} (hx:bndA (some x) d=some q):∃ k n,x=.v (.int k n)/\0<=n/\q=n.toNat:=by
 unfold bndA at hx;split at hx
 ·rename_i e; cases e
 ·rename_i k n e;cases e;split at hx
  ·rename_i h0; cases hx; exact ⟨_,_,rfl,h0,rfl⟩
  ·cases hx
 ·cases hx
theorem wX {n0:Nat} {b:Bool} {len cap l h:Nat} {low high:Option AV} {low' high':Option Value} (hr1:∀ x,low=some x->∃ y,low'=some y/\RelV φ n0 x y) (hr2:∀ x,high=some x->∃ y,high'=some y/\RelV φ n0 x y)
  (hn1:low=none->low'=none) (hn2:high=none->high'=none) (hl:bndA low 0=some l) (hh:bndA high len=some h) (h1:l<=h) (h2:h<=cap) {Q:Nat×Nat×Nat->Hp->Prop} (hq:Q (l,h,cap) H) :
  wpS P (Instr.sliceBounds b len cap low' high' none) H Q:=by
 unfold Instr.sliceBounds;refine ze _ _ _ ?_;simp only [ki];cases high with
 | none =>
  rw [hn2 rfl];obtain rfl:len=h:=by simpa [bndA] using hh
  dsimp only;refine ze _ _ _ ?_;simp only [ki];cases low with
  | none =>
   rw [hn1 rfl];obtain rfl:0=l:=by simpa [bndA] using hl
   exact hq
  | some x =>
   obtain ⟨y,rfl,hr⟩:=hr1 x rfl;obtain ⟨k,n,rfl,h0,rfl⟩:=zbt hl;rw [inv_v hr];dsimp only;exact ze _ _ _ (vg (y:=len) h0 oQ hq)
 | some z =>
  obtain ⟨y',rfl,hr'⟩:=hr2 z rfl;obtain ⟨k',n',rfl,h0',rfl⟩:=zbt hh;rw [inv_v hr'];dsimp only;refine ze _ _ _ (vg (y:=cap) h0' oQ ?_);cases low with
  | none =>
   rw [hn1 rfl];obtain rfl:0=l:=by simpa [bndA] using hl
   exact hq
  | some x =>
   obtain ⟨y,rfl,hr⟩:=hr1 x rfl;obtain ⟨k,n,rfl,h0,rfl⟩:=zbt hl;rw [inv_v hr];dsimp only;exact ze _ _ _ (vg (y:=n'.toNat) h0 oQ hq)
def subA (i off size l h:Nat):AV:=.sl i (off+l*size) (h - l)
theorem zbM {i off size l h cap n:Nat} (hi:i<n) (h1:l<=h) (h2:h<=cap) {b:Option Addr} (hb:0<cap->b=some ⟨(φ i).blk,(φ i).base+off,none⟩):RelV φ n (subA i off size l h) (.slice (if cap=l then b else Option.map (fun x:Addr=>x.add (l*size)) b) (h - l) (cap - l)):=by
 refine .sl hi oQ fun hpos=>?_;rw [if_neg oQ,hb oQ,Option.map_some,yY,Nat.add_assoc]
theorem vI {n:Nat} (hg:RelG gm φ n) (hE:zM φ n env a.tmps) (x:Option Operand):∀ u,x.map (zL gm env)=some u->∃ y,x.map a.eval=some y/\RelV φ n u y:=by
 intro u hu;cases x with
 | none=>cases hu
 | some x=>cases hu; exact ⟨_,rfl,zD hg hE x⟩
theorem zfv {t e:TypeId} {x:Operand} {lo hi:Option Operand} {i off len size l h:Nat} (ho:o.op=.slice t x lo hi none) (hx:zL gm env x=.sl i off len) (ht:slElem P t=some (e,size))
  (hlo:bndA (lo.map (zL gm env)) 0=some l) (hhi:bndA (hi.map (zL gm env)) len=some h) (h1:l<=h) (h2:h<=len):OpOk P gm env A o (subA i off size l h) A:=fun φ F H a hg hH hE=>by
 unfold execOp; rw [ho];have hx':=zD hg hE x;rw [hx] at hx';obtain ⟨ti,e1,e2,e3⟩:=wc ht;obtain ⟨hi',cap,b,hl,hb,ez⟩:=zay hx';dsimp only;rw [ez];refine wpS_v ?_;unfold Instr.sliceAt;refine ze _ _ _ (zG e1 ?_);dsimp only;unfold Instr.slice;refine ze _ _ _ (zG e1 ?_);dsimp only;refine ze _ _ _ (wX (vI hg hE lo) (vI hg hE hi) (fun e=>by cases lo <;> first | rfl | cases e) (fun e=>by cases hi <;> first | rfl | cases e) hlo hhi h1 oQ ?_);dsimp only;refine ze _ _ _ (yq e2 ?_);rw [e3];rcases mP len with e0 | e0
 ·obtain rfl:h=0:=by omega
  obtain rfl:l=0:=by omega
  exact zX.quiet hH (.sl hi' oQ fun hpos=>absurd hpos oQ)
 ·exact zX.quiet hH (zbM hi' h1 oQ fun _=>hb e0)
theorem zez {t e:TypeId} {x:Operand} {lo hi:Option Operand} {i len size l h:Nat} (ho:o.op=.slice t x lo hi none) (hx:zL gm env x=.row i len) (ht:slElem P t=some (e,size)) {l0:List AV} {e':TypeId} {s':Nat} (hrow:A[i]? =some (.row l0 e' s'))
  (hlo:bndA (lo.map (zL gm env)) 0=some l) (hhi:bndA (hi.map (zL gm env)) len=some h) (h1:l<=h) (h2:h<=len):OpOk P gm env A o (subA i 0 size l h) A:=fun φ F H a hg hH hE=>by
 unfold execOp; rw [ho];have hx':=zD hg hE x;rw [hx] at hx';obtain ⟨ti,e1,e2,e3⟩:=wc ht;obtain ⟨hi',hl,ez⟩:=uE hx';obtain ⟨_,hbase,_⟩:=hH.obj i _ hrow;dsimp only;obtain ⟨base,ez,hb⟩:∃ base,a.eval x=.slice base len (φ i).cap/\RelV φ A.length (subA i 0 size l h) (.slice (if (φ i).cap=l then base else Option.map (fun x:Addr=>x.add (l*size)) base) (h - l) ((φ i).cap - l)):=by
  rcases mP (φ i).cap with e0 | e0
  ·unfold rowV at ez;rw [if_pos e0] at ez;obtain ⟨b,ez⟩:=ez;obtain rfl:len=0:=by omega
   obtain rfl:h=0:=by omega
   obtain rfl:l=0:=by omega
   refine ⟨b,by rw [ez,e0],?_⟩;rw [e0,if_pos rfl];exact .sl hi' oQ fun hpos=>absurd hpos oQ
  ·refine ⟨_,uZ e0 ez,?_⟩;refine zbM (φ:=φ) (off:=0) (size:=size) hi' h1 (by omega:h<=(φ i).cap) fun _=>?_;rw [hbase]
 rw [ez];refine wpS_v ?_;unfold Instr.sliceAt;refine ze _ _ _ (zG e1 ?_);dsimp only;unfold Instr.slice;refine ze _ _ _ (zG e1 ?_);dsimp only;refine ze _ _ _ (wX (vI hg hE lo) (vI hg hE hi) (fun e=>by cases lo <;> first | rfl | cases e) (fun e=>by cases hi <;> first | rfl | cases e) hlo hhi h1 oQ ?_);dsimp only;refine ze _ _ _ (yq e2 ?_);rw [e3];exact zX.quiet hH hb
theorem zey {t e:TypeId} {x:Operand} {lo hi:Option Operand} {i off len size l h:Nat} {g:Bool} (ho:o.op=.slice t x lo hi none) (hx:zL gm env x=.ptr i off) (ht:arrElem P t=some (len,e,g,size))
  (hlo:bndA (lo.map (zL gm env)) 0=some l) (hhi:bndA (hi.map (zL gm env)) len=some h) (h1:l<=h) (h2:h<=len):OpOk P gm env A o (subA i off size l h) A:=fun φ F H a hg hH hE=>by
 unfold execOp; rw [ho];have hx':=zD hg hE x;rw [hx] at hx';obtain ⟨e1,e2⟩:=vN ht;obtain ⟨ti,td,e5,_,_,e6⟩:=yF e2;obtain ⟨hi',ez⟩:=wb hx';dsimp only;rw [ez];refine wpS_v ?_;unfold Instr.sliceAt;refine ze _ _ _ (zG e1 ?_);dsimp only;refine ze _ _ _ ?_;simp only [Instr.sureAddr,ki];refine ze _ _ _ ?_;refine wX (vI hg hE lo) (vI hg hE hi) (fun e=>by cases lo <;> first | rfl | cases e) (fun e=>by cases hi <;> first | rfl | cases e) hlo hhi h1 oQ ?_;dsimp only;refine ze _ _ _ (yq e5 ?_);rw [e6];have:=zbM (φ:=φ) (off:=off) (size:=size) hi' h1 (by omega:h<=len) (b:=some ⟨(φ i).blk,(φ i).base+off,none⟩) fun _=>rfl;have ee:(if len=l then (some (⟨(φ i).blk,(φ i).base+off,none⟩:Addr)) else Option.map (fun x:Addr=>x.add (l*size)) (some ⟨(φ i).blk,(φ i).base+off,none⟩))=some (if len=l then ⟨(φ i).blk,(φ i).base+off,none⟩ else (⟨(φ i).blk,(φ i).base+off,none⟩:Addr).add (l*size)):=by split <;> rfl
 rw [ee] at this;exact zX.quiet hH this
end
section
variable {P:Program} {gm:Nat->Option Nat} {φ:Nat->Loc3} {A A':List AObj} {F H:Hp} {env:List AV} {a:Act} {o:Oper} {r:AV}
theorem RelH.move (h:RelH φ A F H) {i:Nat} {o o':AObj} (hi:A[i]? =some o) (hx:o.excl=true) (hs:sol (φ i) o) {loc:Loc3} (hloc:loc.blk=(φ i).blk) {x:Bool×Obj}
  (ho:RelO (upd3 φ A.length loc) (A.length+1) loc (H.put loc.blk x) o'):RelH (upd3 φ A.length loc) (A.set i .gone++[o']) F (H.put loc.blk x):=by
 have hlt:i<A.length:=(lD.1 hi).1;have hlen:(A.set i .gone++[o']).length=A.length+1:=by simp
 have hget:∀ (j:Nat) q,(A.set i .gone++[o'])[j]? =some q->(j<A.length/\j≠i/\A[j]? =some q)\/(j<A.length/\q=.gone)\/(j=A.length/\q=o'):=fun j q hj=>by
  rcases mR j A.length with hl | hge
  ·rw [lG (by simpa using hl),lX] at hj;split at hj
   ·rename_i e;exact .inr (.inl ⟨hl,(Option.some.inj hj).symm⟩)
   ·rename_i e;exact .inl ⟨hl,Ne.symm e,hj⟩
  ·rw [lO (by simpa using hge),List.length_set] at hj;have:j - A.length=0:=by
    have:=(lD.1 hj).1;simp at this;omega
   rw [this] at hj;simp at hj;exact .inr (.inr ⟨by omega,hj.symm⟩)
 have hFl:F loc.blk=none:=by rw [hloc]; exact h.frx i o hi hx hs
 have hold:∀ j,j<A.length->upd3 φ A.length loc j=φ j:=fun j hj=>by simp [upd3]; omega
 have hnew:upd3 φ A.length loc A.length=loc:=by simp [upd3]
 have hne:∀ (j:Nat) q,A[j]? =some q->j≠i->q.live=true->sol (φ j) q->(φ j).blk≠loc.blk:=fun j q hj hji hl hsj=>by
  rw [hloc];exact Ne.symm (h.apart i j o q hi hj (Ne.symm hji) hx hl hs hsj)
 refine ⟨fun j q hj=>?_,fun j k q1 q2 hj hk hjk he hl hs1 hs2=>?_,Hp.ext_put h.fr hFl x,fun j q hj he hsj=>?_⟩;rotate_left 2
 ·rcases hget j q hj with ⟨hl,_,hj'⟩ | ⟨_,rfl⟩ | ⟨rfl,rfl⟩
  ·rw [hold j hl] at hsj ⊢; exact h.frx j q hj' he hsj
  ·cases he
  ·rw [hnew]; exact hFl
 ·rw [hlen];rcases hget j q hj with ⟨hl,hji,hj'⟩ | ⟨hl,rfl⟩ | ⟨rfl,rfl⟩
  ·rw [hold j hl];exact (h.obj j q hj').mono (yr φ _ loc) oQ fun hlv hsj=>Hp.put_other _ _ (hne j q hj' hji hlv hsj)
  ·trivial
  ·rw [hnew]; exact ho
 ·rcases hget j q1 hj with ⟨hl1,hji,hj'⟩ | ⟨hl1,rfl⟩ | ⟨rfl,rfl⟩
  ·rcases hget k q2 hk with ⟨hl2,hki,hk'⟩ | ⟨hl2,rfl⟩ | ⟨rfl,rfl⟩
   ·rw [hold j hl1] at hs1 ⊢; rw [hold k hl2] at hs2 ⊢; exact h.apart j k q1 q2 hj' hk' hjk he hl hs1 hs2
   ·cases hl
   ·rw [hold j hl1] at hs1 ⊢; rw [hnew];refine hne j q1 hj' hji ?_ hs1;cases q1 <;> first | rfl | (simp [AObj.excl] at he)
  ·cases he
  ·rcases hget k q2 hk with ⟨hl2,hki,hk'⟩ | ⟨hl2,rfl⟩ | ⟨rfl,_⟩
   ·rw [hold k hl2] at hs2 ⊢; rw [hnew];exact Ne.symm (hne k q2 hk' hki hl hs2)
   ·cases hl
   ·exact absurd rfl hjk
def srcA (A:List AObj) (size:Nat):AV->Option (Nat×List AV)
 | .sl j off m=>if m*size=0 then some (m,[]) else (loadA A j off (m*size)).map fun l=>(m,l)
 | .row j m=>if m*size=0 then some (m,[]) else match A[j]? with
  | some (.row _ _ _)=>(loadA A j 0 (m*size)).map fun l=>(m,l)
  | _=>none
 | .v (.slice none 0 _)=>some (0,[])
 | .e0=>some (0,[])
 | .z0=>some (0,[])
 | _=>none
theorem ze9 {size m:Nat} {x:AV} {l:List AV} {y:Value} (hH:RelH φ A F H) (h:srcA A size x=some (m,l)) (hr:RelV φ A.length x y) :
  ∃ (b:Option Addr) (cap:Nat) (ys:List Value),y=.slice b m cap/\ys.length=m*size/\l.length=m*size/\zM φ A.length l ys.toArray/\∀ Q:Array Value->Hp->Prop,Q ys.toArray H->wpS P (Builtin.firstCells size m y) H Q:=by
 have hload:∀ (j off:Nat) (cap:Nat) (w:Option Addr),j<A.length->w=some ⟨(φ j).blk,(φ j).base+off,none⟩->loadA A j off (m*size)=some l ->
   ∃ (b:Option Addr) (cap':Nat) (ys:List Value),Value.slice w m cap=.slice b m cap'/\ys.length=m*size/\l.length=m*size/\zM φ A.length l ys.toArray/\∀ Q:Array Value->Hp->Prop,Q ys.toArray H->wpS P (Builtin.firstCells size m (.slice w m cap)) H Q:=by
  intro j off cap w hj hw hl;obtain ⟨hlen,rw',cur,e,fz,ys,h1,h2,h3,h4⟩:=vn hH hl;refine ⟨w,cap,ys,rfl,h2,hlen,h3,fun Q hq=>?_⟩;rw [hw];show wpS P (loadCells _ (m*size)) H Q;rw [<- h2];exact wD h1 ys h4 hq
 have hnone:∀ (w:Option Addr) (cap:Nat),m*size=0->∃ (b:Option Addr) (cap':Nat) (ys:List Value),Value.slice w m cap=.slice b m cap'/\ys.length=m*size/\([]:List AV).length=m*size/\zM φ A.length [] ys.toArray/\∀ Q:Array Value->Hp->Prop,Q ys.toArray H->wpS P (Builtin.firstCells size m (.slice w m cap)) H Q:=by
  intro w cap h00;refine ⟨w,cap,[],rfl,by rw [h00]; rfl,by rw [h00]; rfl,wH _ _,fun Q hq=>?_⟩;cases w with
  | none=>exact hq
  | some w =>
   show wpS P (loadCells _ (m*size)) H Q;rw [h00];exact hq
 cases hr with
 | @sl j off len cap b hi hl hb =>
  simp only [srcA] at h;split at h
  ·rename_i h00;cases h;exact hnone _ _ h00
  rename_i h00;have hpos:0<len:=by
   rcases mP len with e | e
   ·rw [e,Nat.zero_mul] at h00; exact absurd rfl h00
   ·exact e
  obtain rfl:=hb hpos;cases e:loadA A j off (len*size) with
  | none=>rw [e] at h; cases h
  | some l' =>
   rw [e] at h;cases h;exact hload j off cap _ hi rfl e
 | @row j len y hi hl hv =>
  simp only [srcA] at h;split at h
  ·rename_i h00;cases h;obtain ⟨b,c,rfl⟩:=zbJ hl hv;exact hnone _ _ h00
  rename_i h00;have hpos:0<len:=by
   rcases mP len with e | e
   ·rw [e,Nat.zero_mul] at h00; exact absurd rfl h00
   ·exact e
  obtain rfl:=uZ oQ hv;split at h
  ·rename_i l0 e0 s0 hrow;obtain ⟨_,hbase,_⟩:=hH.obj j _ hrow;cases e:loadA A j 0 (len*size) with
   | none=>rw [e] at h; cases h
   | some l' =>
    rw [e] at h;cases h;exact hload j 0 _ _ hi (by rw [hbase]) e
  ·cases h
 | v =>
  cases y with
  | slice b len cap =>
   cases b with
   | none =>
    cases len with
    | zero =>
     cases h;exact ⟨none,cap,[],rfl,by simp,by simp,wH _ _,fun Q hq=>hq⟩
    | succ len=>cases h
   | some b=>cases h
  | _=>cases h
 | e0 b cap =>
  cases h;exact hnone b cap (Nat.zero_mul _)
 | z0 b =>
  cases h;refine ⟨some b,0,[],rfl,by simp,by simp,wH _ _,fun Q hq=>?_⟩;show wpS P (loadCells _ (0*size)) H Q;rw [Nat.zero_mul];exact hq
 | _=>cases h
theorem zbG {n:Nat} {φ:Nat->Loc3} {l:List AV} {e:TypeId} {size:Nat} {loc:Loc3} {H:Hp} {cur:Array Value} (hH:H loc.blk=some (true,.cells cur e (0,0))) (hb:loc.base=0) (hs:cur.size=loc.cap*size) (hc:loc.cap<=maxLen) {ys:List Value}
  (hr:zM φ n l ys.toArray) (hget:∀ (j:Nat) y,ys[j]? =some y->cur[j]? =some y) (hle:ys.length<=cur.size):RelO φ n loc H (.row l e size):=by
 refine ⟨fun e=>?_,hb,fun _=>⟨cur,hH,hs,hc,?_,fun j u hu=>?_⟩⟩
 ·have:=hr.1;rw [e,Nat.zero_mul] at hs;simp at this;exact List.eq_nil_of_length_eq_zero oQ
 ·have:=hr.1; simp at this; omega
 ·obtain ⟨y,hy,hr'⟩:=hr.get hu;exact ⟨y,hget j y (by simpa using hy),hr'⟩
theorem vi {n:Nat} {φ:Nat->Loc3} {l l':List AV} {ys ys':List Value} (h:zM φ n l ys.toArray) (h':zM φ n l' ys'.toArray):zM φ n (l++l') (ys++ys').toArray:=by
 have h1:=h.1;have h2:=h'.1;simp at h1 h2;refine ⟨by simp; omega,fun j u y hu hy=>?_⟩;simp only [List.getElem?_toArray] at hy;rcases mR j l.length with hlt | hge
 ·rw [lG hlt] at hu;rw [lG oQ] at hy;exact h.2 j u y hu (by simpa using hy)
 ·rw [lO hge] at hu;rw [lO oQ] at hy;exact h'.2 (j - l.length) u y hu (by simpa [h1] using hy)
theorem zgy {need old:Nat} {e:TypeId} {n:Nat} (hneed:need<2 ^ 63) (h1:(Question.appendCap need old e).forced=true->n=0) (h2:(Question.appendCap need old e).forced=false->∃ t,n=(Question.appendCap need old e).cut t):need<=n/\n<2 ^ 63:=by
 obtain ⟨t,rfl⟩:=h2 rfl;simp only [Question.cut];have:=Nat.mod_lt t (show 2 ^ 63 - need>0 by omega);omega
theorem zkt {e:TypeId} {z:Value} {size:Nat} (hsz:z.cells.size=size) {n m:Nat} {olds news:List Value} {lo ln:List AV} (ho:zM φ A.length lo olds.toArray) (hn:zM φ A.length ln news.toArray)
  (hlo:olds.length=n*size) (hln:news.length=m*size) {cap:Nat} (hc0:0<n+m) (hc1:n+m<=cap) (hc2:cap<=maxLen) {A0:List AObj} (hA0:A0.length=A.length) (hH0:RelH φ A0 F H) :
  wpS P (do let rest:=Builtin.zeroCells z.cells (cap - (n+m)); pure (Value.slice (some (<- newRow e (olds.toArray++news.toArray++rest))) (n+m) cap)) H
   (fun v H'=>zX φ A F (.row A.length (n+m)) (A0++[.row (lo++ln) e size]) (.value v) H'):=by
 refine ze _ _ _ ?_;refine ze _ _ _ fun b hb=>?_;show zX φ A F _ _ (.value (.slice (some ⟨b,0,none⟩) (n+m) cap)) (H.put b (true,.cells _ e (0,0)));have hsize:(olds.toArray++news.toArray++Builtin.zeroCells z.cells (cap - (n+m))).size=cap*size:=by
  simp only [Array.size_append,List.size_toArray,Builtin.zeroCells,Array.size_map,Array.size_range,hsz,hlo,hln];rw [<- Nat.add_mul,<- Nat.add_mul];congr 1;omega
 have hpush:RelH (upd3 φ A0.length ⟨b,0,cap⟩) (A0++[.row (lo++ln) e size]) F (H.put b (true,.cells (olds.toArray++news.toArray++Builtin.zeroCells z.cells (cap - (n+m))) e (0,0))):=by
  refine hH0.push hb Z ?_;refine zbG (ys:=olds++news) (Hp.put_same _ _ _) Z hsize hc2 ?_ (fun j y hy=>?_) ?_
  ·rw [hA0];exact (vi ho hn).mono (yr _ _ _) oQ
  ·rw [Array.getElem?_append_left (by have:=(lD.1 hy).1; simp at this ⊢; omega)];have:(olds.toArray++news.toArray)=(olds++news).toArray:=by simp
   rw [this];simpa using hy
  ·rw [hsize];simp only [lF,hlo,hln];rw [<- Nat.add_mul];exact Nat.mul_le_mul_right _ hc1
 rw [hA0] at hpush;refine ⟨_,_,.inl rfl,yr _ _ _,by simp; omega,hpush,?_⟩;refine RelV.row (by simp; omega) (by simp [upd3]; omega) ?_;unfold rowV;simp only [upd3,if_true];rw [if_neg oQ]
 trivial
theorem zh3 {s x:Operand} {t e:TypeId} {ti:TypeInfo} {z:Value} {size bytes n m:Nat} {lo ln:List AV} {A0:List AObj} (ho:o.op=.call { callee:=.builtin .append,args:=#[s,x],argTypes:=#[t,t] }) (ht:P.underlying t=some (.slice e)) (hi:P.info? e=some ti) (hz:ti.zero=some z)
  (hsz:z.cells.size=size) (hts:ti.size=size) (hby:ti.bytes=bytes) (hs0:0<size)
  (hd:(zL gm env s=.v (.slice none 0 0)/\n=0/\lo=[]/\A0=A)\/(zL gm env s=.z0/\n=0/\lo=[]/\A0=A)\/∃ i,zL gm env s=.row i n/\A[i]? =some (.row lo e size)/\lo.length=n*size/\A0=A.set i .gone)
  (hx:srcA A size (zL gm env x)=some (m,ln)) (hm:0<m) (hone:ln.all oneA=true) (hmax:n+m<=maxLen) (hbytes:(n+m)*bytes<=140737488355328) :
  OpOk P gm env A o (.row A.length (n+m)) (A0++[.row (lo++ln) e size]):=fun φ F H a hg hH hE=>by
 rw [yM ho];obtain ⟨bx,capx,ys,ex,hys,hln,hrn,hfirst⟩:=ze9 hH hx (zD hg hE x);have hs':=zD hg hE s;simp only [builtin,List.map_toArray,List.map_cons,List.map_nil];refine wpS_v ?_;have h63:n+m<2 ^ 63:=by unfold maxLen at hmax; omega
 have hA0:A0.length=A.length:=by rcases hd with ⟨_,_,_,h4⟩ | ⟨_,_,_,h4⟩ | ⟨i,_,_,_,h4⟩ <;> simp [h4]
 have hH0:RelH φ A0 F H:=by
  rcases hd with ⟨_,_,_,h4⟩ | ⟨_,_,_,h4⟩ | ⟨i,_,_,_,h4⟩
  ·rw [h4]; exact hH
  ·rw [h4]; exact hH
  ·rw [h4]; exact hH.drop i
 have hgrow:∀ (base:Option Addr) (cap:Nat) (olds:List Value),a.eval s=.slice base n cap->cap<n+m->olds.length=n*size->zM φ A.length lo olds.toArray->(∀ Q:Array Value->Hp->Prop,Q olds.toArray H->wpS P (Builtin.firstCells size n (.slice base n cap)) H Q) ->
   wpS P (Builtin.append_ #[t,t] o.type #[a.eval s,a.eval x]) H (fun v H'=>zX φ A F (.row A.length (n+m)) (A0++[.row (lo++ln) e size]) (.value v) H'):=by
  intro base cap olds es hcap hol hro hfo;rw [es,ex];unfold Builtin.append_;show wpS P (underlying t >>= _) H _;refine ze _ _ _ (zG ht ?_);dsimp only;refine ze _ _ _ (yq hi ?_);refine ze _ _ _ ?_;refine zG (t:=t) ht ?_;dsimp only;refine ze _ _ _ ?_;rw [ki];simp only [mU,if_false,Bool.not_false,if_true];refine ze _ _ _ ?_;show wpS P (if n+m<=cap then _ else _) H _;rw [if_neg oQ];refine ze _ _ _ (kP hi ?_);rw [if_neg (by rintro ⟨h1,_⟩; have:IntKind.i64.max=9223372036854775807:=rfl; omega)];refine ze _ _ _ (kP hi ?_);rw [if_neg (by rw [hby]; have:=growslice_fits hcap hbytes; omega)];refine ze _ _ _ fun cap' hc1 hc2=>?_;obtain ⟨hcn,hcm⟩:=zgy h63 hc1 hc2;refine ze _ _ _ (kP hi ?_);refine ze _ _ _ ?_;have hroom:∀ (b:Nat) (Q:Unit->Hp->Prop),Q () H->wpS P (askRoom b) H Q:=fun b Q hq=>by
   unfold askRoom;split
   ·exact ⟨.inl rfl,hq⟩
   ·exact hq
  refine hroom _ _ ?_;refine ze _ _ _ ?_;show wpS P (Builtin.firstCells ti.size n (.slice base n cap)) H _;rw [hts];refine hfo _ ?_;refine ze _ _ _ ?_;show wpS P (Builtin.firstCells size m (.slice bx m capx)) H _;rw [<- ex];refine hfirst _ ?_;refine ze _ _ _ (kj hi hz ?_);exact zkt hsz hro hrn hol hys oQ hcn (by unfold maxLen; omega) hA0 hH0
 rcases hd with ⟨e1,rfl,rfl,e4⟩ | ⟨e1,rfl,rfl,e4⟩ | ⟨i,e1,hrow,hlo,e4⟩
 ·rw [e1] at hs';have es:=inv_v hs';exact hgrow none 0 [] es oQ sQ (wH _ _) (fun Q hq=>hq)
 ·rw [e1] at hs';obtain ⟨b,es⟩:=zl7 hs';refine hgrow (some b) 0 [] es oQ sQ (wH _ _) (fun Q hq=>?_);show wpS P (loadCells _ (0*size)) H Q;rw [Nat.zero_mul];exact hq
 ·rw [e1] at hs';obtain ⟨hilt,hcapi,es⟩:=uE hs';obtain ⟨hr0,hbase,hrw⟩:=hH.obj i _ hrow;rcases mP (φ i).cap with ecap | ecap
  ·unfold rowV at es;rw [if_pos ecap] at es;obtain ⟨base,es⟩:=es;obtain rfl:n=0:=by omega
   obtain rfl:=hr0 ecap;refine hgrow base 0 [] es oQ sQ (wH _ _) (fun Q hq=>?_);cases base with
   | none=>exact hq
   | some b =>
    show wpS P (loadCells _ (0*size)) H Q;rw [Nat.zero_mul];exact hq
  replace es:=uZ ecap es
  obtain ⟨cur,hb,hcs,hcm,hle,hcells⟩:=hrw ecap;obtain ⟨olds,hol,hro,hget⟩:∃ olds:List Value,olds.length=n*size/\zM φ A.length lo olds.toArray/\∀ (j:Nat) y,olds[j]? =some y->cur[j]? =some y:=by
   refine ⟨(cur.toList.take (n*size)),by simp; omega,⟨by simp; omega,fun j u y hu hy=>?_⟩,fun j y hy=>?_⟩
   ·obtain ⟨y',hy',hr⟩:=hcells j u hu;simp only [List.getElem?_toArray,List.getElem?_take,mI] at hy;split at hy
    ·rw [hy'] at hy; cases hy; exact hr
    ·cases hy
   ·simp only [List.getElem?_take,mI] at hy;split at hy
    ·exact hy
    ·cases hy
  have hfo:∀ Q:Array Value->Hp->Prop,Q olds.toArray H->wpS P (Builtin.firstCells size n (.slice (some ⟨(φ i).blk,0,none⟩) n (φ i).cap)) H Q:=fun Q hq=>by
   show wpS P (loadCells _ (n*size)) H Q;rw [<- hol];exact wD hb olds (fun j y hy=>by rw [mO]; exact hget j y hy) hq
  by_cases hcap:(φ i).cap<n+m
  ·exact hgrow _ _ olds es hcap hol hro hfo
  ·
   rw [es,ex];unfold Builtin.append_;show wpS P (underlying t >>= _) H _;refine ze _ _ _ (zG ht ?_);dsimp only;refine ze _ _ _ (yq hi ?_);refine ze _ _ _ ?_;refine zG (t:=t) ht ?_;dsimp only;refine ze _ _ _ ?_;rw [ki];simp only [mU,if_false,Bool.not_false,if_true];refine ze _ _ _ ?_;show wpS P (if n+m<=(φ i).cap then _ else _) H _;rw [if_pos oQ];refine ze _ _ _ ?_;show wpS P (Builtin.firstCells ti.size m (.slice bx m capx)) H _;rw [hts,<- ex];refine hfirst _ ?_;refine ze _ _ _ ?_;rw [yY];have hfit:n*size+m*size<=cur.size:=by rw [hcs,<- Nat.add_mul]; exact Nat.mul_le_mul_right _ oQ
   refine wx ys 0 cur H hb oQ (fun y hy=>?_) ?_
   ·obtain ⟨j,hj⟩:=List.mem_iff_getElem?.1 hy;obtain ⟨u,hu,hr⟩:=hrn.back (y:=y) (j:=j) (by simpa using hj);exact zeA (List.all_eq_true.1 hone u (lN hu)) hr
   show zX φ A F _ _ (.value (.slice _ (n+m) (φ i).cap)) _;rw [Nat.add_zero,mO];have hset:∀ (j:Nat) y,(olds++ys)[j]? =some y->(setCs cur (n*size) ys)[j]? =some y:=fun j y hy=>by
    rw [uh _ _ _ _ oQ];rcases mR j olds.length with hlt | hge
    ·rw [lG hlt] at hy;rw [if_neg oQ];exact hget j y hy
    ·rw [lO hge] at hy;have:=(lD.1 hy).1;rw [if_pos oQ,<- hol];exact hy
   have hmove:=hH.move (o':=.row (lo++ln) e size) (x:=(true,.cells (setCs cur (n*size) ys) e (0,0))) (loc:=φ i) hrow rfl ecap rfl ?_
   ·rw [e4];refine ⟨_,_,.inl rfl,yr _ _ _,by simp,hmove,?_⟩;refine RelV.row sQ (by simp [upd3]; omega) ?_;unfold rowV;simp only [upd3,if_true];rw [if_neg oQ]
    trivial
   ·refine zbG (ys:=olds++ys) (Hp.put_same _ _ _) hbase (by rw [wv]; exact hcs) hcm ((vi hro hrn).mono (yr _ _ _) oQ) hset ?_;rw [wv];simp only [lF];omega
end
section
variable {P:Program} {gm:Nat->Option Nat} {φ:Nat->Loc3} {A A':List AObj} {F H:Hp} {env:List AV} {a:Act} {o:Oper} {r:AV}
theorem zcQ {α β:Type} (f:α->β) (s:Sem α) (Q:β->Hp->Prop) (h:wpS P s H (fun a H'=>Q (f a) H')):wpS P (f <$> s) H Q:=yW s (fun a=>pure (f a)) H Q h
theorem zal {α β:Type} {f:α->Sem β} {g:α->β}:∀ (l:List α),(∀ x∈l,∀ (Q:β->Hp->Prop),Q (g x) H->wpS P (f x) H Q)->∀ (Q:List β->Hp->Prop),Q (l.map g) H->wpS P (l.mapM f) H Q
 | [],_,Q,hq=>by rw [List.mapM_nil]; exact hq
 | x::l,hf,Q,hq=>by
  rw [List.mapM_cons];refine ze _ _ _ (hf x sQ _ ?_);refine ze _ _ _ (zal l (fun y hy=>hf y (by simp [hy])) _ ?_);exact hq
theorem zcP {α β:Type} {f:α->Sem β} {g:α->β} (xs:Array α) (hf:∀ x∈xs.toList,∀ (Q:β->Hp->Prop),Q (g x) H->wpS P (f x) H Q) (Q:Array β->Hp->Prop) (hq:Q (xs.map g) H):wpS P (xs.mapM f) H Q:=by
 rw [Array.mapM_eq_mapM_toList];refine zcQ _ _ _ (zal xs.toList hf _ ?_);have:(xs.toList.map g).toArray=xs.map g:=by
  apply Array.ext';simp
 rw [this]; exact hq
def plcOf (P:Program):List Field->Option (List (Nat×Nat))
 | []=>some []
 | f::fs=>match tySize P f.type,plcOf P fs with
  | some (_,n),some l=>some ((f.offset,n)::l)
  | _,_=>none
def bldOf (P:Program) (t:TypeId):Option (List (Nat×Nat)) :=
 match P.underlying t with
 | some (.struct fs)=>plcOf P fs.toList
 | some (.array n e)=>(tySize P e).map fun (_,k)=>(List.range n).map fun i=>(i*k,k)
 | _=>none
def fillA (pl:List (Nat×Nat)) (cells:List AV):List (Nat×AV)->Option (List AV)
 | []=>some cells
 | (i,v)::rest=>match pl[i]? with
  | some (off,size)=>match cellsA v with
   | some vs=>if vs.length=size/\off+size<=cells.length then fillA pl (setL cells off vs) rest else none
   | none=>none
  | none=>none
theorem zbg (off:Nat):∀ (l:List Value) (k:Nat) (cs:Array Value),(l.zipIdx k).foldl (fun cs (c,j)=>cs.setIfInBounds (off+j) c) cs=setCs cs (off+k) l
 | [],_,_=>rfl
 | c::l,k,cs=>by
  rw [List.zipIdx_cons,List.foldl_cons,zbg off l (k+1) _];rfl
theorem foldl_setCs' (off:Nat) (xs:Array Value) (cs:Array Value):xs.zipIdx.foldl (fun cs (c,j)=>cs.setIfInBounds (off+j) c) cs=setCs cs off xs.toList:=by
 rw [<- Array.foldl_toList,Array.toList_zipIdx];exact zbg off xs.toList 0 cs
theorem zg4 {n off:Nat} {l vs:List AV} {ys xs:Array Value} (h:zM φ n l ys) (h':zM φ n vs xs) (hle:off+vs.length<=l.length):zM φ n (setL l off vs) (setCs ys off xs.toList):=by
 have e1:=h.1;have e2:xs.toList.length=vs.length:=by rw [Array.length_toList]; exact h'.1.symm
 refine ⟨by rw [vj,wv]; exact e1,fun j u y hu hy=>?_⟩;rw [zbK _ _ _ _ hle] at hu;rw [uh _ _ _ _ oQ] at hy;by_cases hj:off<=j/\j<off+vs.length
 ·rw [if_pos hj] at hu;rw [if_pos oQ,mI] at hy;exact h'.2 _ u y hu hy
 ·rw [if_neg hj] at hu;rw [if_neg oQ] at hy;exact h.2 j u y hu hy
theorem uR {n:Nat} {pl:List (Nat×Nat)} {place:Nat->Option (Nat×Nat)} (hp:∀ (i:Nat) x,pl[i]? =some x->place i=some x) (hE:zM φ n env a.tmps) (hg:RelG gm φ n) :
  ∀ (ps:List (Nat×Operand)) (cells:List AV) (ys:Array Value) (l:List AV),zM φ n cells ys->fillA pl cells (ps.map fun (i,x)=>(i,zL gm env x))=some l->∃ ys',Instr.fill place ys (ps.map fun (i,x)=>(i,a.eval x))=some ys'/\zM φ n l ys'
 | [],cells,ys,l,hc,h=>by
  simp only [List.map_nil,fillA] at h;cases h;exact ⟨ys,rfl,hc⟩
 | (i,x)::ps,cells,ys,l,hc,h=>by
  simp only [List.map_cons,fillA] at h;split at h
  ·rename_i off size hpl;split at h
   ·rename_i vs hvs;split at h
    ·rename_i hle;have hr:=uK hvs (zD hg hE x);have hlen:=hr.1;have hcl:=hc.1;have hset:=zg4 hc hr (off:=off) oQ;obtain ⟨ys',h1,h2⟩:=uR hp hE hg ps _ _ l hset h;refine ⟨ys',?_,h2⟩;simp only [List.map_cons,Instr.fill,hp i _ hpl];rw [if_neg (by simp; omega),foldl_setCs'];exact h1
    ·cases h
   ·cases h
  ·cases h
theorem zcb:∀ (fs:List Field) (pl:List (Nat×Nat)),plcOf P fs=some pl->(∀ f∈fs,∃ i,P.info? f.type=some i)/\pl=fs.map fun f=>(f.offset,((P.info? f.type).map (·.size)).getD 0)
 | [],pl,h=>by cases h; exact ⟨fun f hf=>by simp at hf,rfl⟩
 | f::fs,pl,h=>by
  simp only [plcOf] at h;split at h
  ·rename_i g n l h1 h2;cases h;obtain ⟨i,d,e1,e2,e3,e4⟩:=yF h1;obtain ⟨h3,rfl⟩:=zcb fs l h2;refine ⟨fun f' hf'=>?_,?_⟩
   ·rcases List.mem_cons.1 hf' with rfl | hf'
    ·exact ⟨i,e1⟩
    ·exact h3 f' hf'
   ·simp [e1,e4]
  ·cases h
theorem zjP {t:TypeId} {parts:Array (Nat×Operand)} {z:List Value} {pl:List (Nat×Nat)} {l:List AV} (ho:o.op=.build t parts) (hz:tyZero P t=some z) (hp:bldOf P t=some pl) (h:fillA pl (z.map .v) (parts.toList.map fun (i,x)=>(i,zL gm env x))=some l) :
  OpOk P gm env A o (.agg l) A:=fun φ F H a hg hH hE=>by
 unfold execOp; rw [ho];obtain ⟨i,zv,e1,e2,e3⟩:=wC hz;have hzr:zM φ A.length (z.map .v) zv.cells:=by rw [<- e3]; exact za6 φ _ _
 have hpl:∀ x:Array (Nat×Value),True:=fun _=>trivial;have eparts:(parts.map fun (i,x)=>(i,a.eval x)).toList=parts.toList.map fun (i,x)=>(i,a.eval x):=by simp
 refine wpS_v ?_;unfold Instr.build;refine ze _ _ _ (kj e1 e2 ?_);unfold bldOf at hp;split at hp
 ·rename_i fs hu;obtain ⟨h3,rfl⟩:=zcb _ _ hp;refine ze _ _ _ (zG hu ?_);dsimp only;refine ze _ _ _ (zcP (g:=fun f:Field=>(f.offset,((P.info? f.type).map (·.size)).getD 0)) fs (fun f hf Q hq=>?_) _ ?_)
  ·obtain ⟨ti,hti⟩:=h3 f hf;rw [hti] at hq;exact ze _ _ _ (yq hti hq)
  ·obtain ⟨ys',h1,h2⟩:=uR (place:=fun i=>(fs.map fun f:Field=>(f.offset,((P.info? f.type).map (·.size)).getD 0))[i]?) (fun i x hx=>by
    rw [lQ,mI] at hx;rw [mJ];exact hx) hE hg parts.toList _ _ l hzr h
   rw [eparts];simp only [h1];exact zX.quiet hH (.agg h2.1 h2.2)
 ·rename_i n e hu;cases e4:tySize P e with
  | none=>rw [e4] at hp; cases hp
  | some x =>
   obtain ⟨g,k⟩:=x;rw [e4] at hp;cases hp;obtain ⟨ti,td,e5,_,_,e6⟩:=yF e4;refine ze _ _ _ (zG hu ?_);dsimp only;refine ze _ _ _ (yq e5 ?_);rw [e6];obtain ⟨ys',h1,h2⟩:=uR (place:=fun i=>some (i*k,k)) (fun i x hx=>by
    rw [lQ] at hx;cases e7:(List.range n)[i]? with
    | none=>rw [e7] at hx; cases hx
    | some q =>
     rw [e7] at hx;have:=lD.1 e7;obtain ⟨hlt,e8⟩:=this;simp at e8;subst e8;exact hx) hE hg parts.toList _ _ l hzr h
   rw [eparts];simp only [h1];exact zX.quiet hH (.agg h2.1 h2.2)
 ·cases hp
theorem zdE {t e:TypeId} {len size:Nat} {parts:Array (Nat×Operand)} {z:List Value} {l:List AV} (ho:o.op=.buildSlice t len parts) (ht:slElem P t=some (e,size)) (hz:tyZero P e=some z) (hlen:len*size<=16777216) (hmax:len<=16777216)
  (h:fillA ((List.range len).map fun i=>(i*size,size)) (mB (len*size) .any) (parts.toList.map fun (i,x)=>(i,zL gm env x))=some l):OpOk P gm env A o (.row A.length len) (A++[.row l e size]):=fun φ F H a hg hH hE=>by
 unfold execOp; rw [ho];obtain ⟨ti,e1,e2,e3⟩:=wc ht;obtain ⟨i,zv,e4,e5,e6⟩:=wC hz;have eparts:(parts.map fun (i,x)=>(i,a.eval x)).toList=parts.toList.map fun (i,x)=>(i,a.eval x):=by simp
 refine wpS_v ?_;unfold Instr.buildSlice;refine ze _ _ _ (zG e1 ?_);dsimp only;refine ze _ _ _ (yq e2 ?_);rw [e3,if_neg oQ];have hend:∀ zero:Array Value,wpS P (do
   let some cells:=Instr.fill (fun i=>some (i*size,size)) ((Array.range (len*size)).map (zero[· % zero.size]!)) (parts.map fun (i,x)=>(i,a.eval x)).toList | stuck "buildSlice: a part of the wrong size"
   pure (Value.slice (some (<- newRow e cells)) len len)) H (fun v H'=>zX φ A F (.row A.length len) (A++[.row l e size]) (.value v) H'):=fun zero=>by
  have hr0:zM φ A.length (mB (len*size) .any) ((Array.range (len*size)).map (zero[· % zero.size]!)):=by
   refine ⟨by simp,fun j u y hu hy=>?_⟩;rw [List.getElem?_replicate] at hu;split at hu
   ·cases hu; exact .any _
   ·cases hu
  obtain ⟨ys',h1,h2⟩:=uR (place:=fun i=>some (i*size,size)) (fun i x hx=>by
   rw [lQ] at hx;cases e7:(List.range len)[i]? with
   | none=>rw [e7] at hx; cases hx
   | some q =>
    rw [e7] at hx;obtain ⟨hlt,e8⟩:=lD.1 e7;simp at e8;subst e8;exact hx) hE hg parts.toList _ _ l hr0 h
  have hl:l.length=len*size:=by
   have:∀ (ps:List (Nat×AV)) (c:List AV) l,fillA ((List.range len).map fun i=>(i*size,size)) c ps=some l->l.length=c.length:=by
    intro ps
    induction ps with
    | nil=>intro c l h; cases h; rfl
    | cons p ps ih =>
     intro c l h;obtain ⟨i,v⟩:=p;simp only [fillA] at h;split at h
     ·split at h
      ·split at h
       ·rw [ih _ _ h,vj]
       ·cases h
      ·cases h
     ·cases h
   rw [this _ _ _ h]; simp
  rw [eparts];simp only [h1];refine ze _ _ _ ?_;refine ze _ _ _ fun b hb=>?_;show zX φ A F _ _ (.value (.slice (some ⟨b,0,none⟩) len len)) (H.put b (true,.cells ys' e (0,0)));refine ⟨_,upd3 φ A.length ⟨b,0,len⟩,.inl rfl,yr _ _ _,by simp,hH.push hb Z ?_,?_⟩
  ·refine zbG (ys:=ys'.toList) (Hp.put_same _ _ _) Z (by rw [<- h2.1,hl]) (by show len<=maxLen; unfold maxLen; omega) ?_ (fun j y hy=>by rw [mI] at hy; exact hy) sQ;have:zM φ A.length l ys'.toList.toArray:=by simpa using h2
   exact this.mono (yr _ _ _) oQ
  ·refine RelV.row sQ (by simp [upd3]) ?_;unfold rowV;simp only [upd3,if_true];split
   ·rename_i e0;exact ⟨_,by rw [e0]⟩
   ·trivial
 split
 ·exact ze _ _ _ (hend #[])
 ·exact ze _ _ _ (kj e4 e5 (ze _ _ _ (hend zv.cells)))
def isNilA:AV->Option Bool
 | .v (.slice none _ _)=>some true
 | .v (.nilFunc)=>some true
 | .v (.map none)=>some true
 | .v (.pointer none)=>some true
 | .sl _ _ n=>if 0<n then some false else none
 | .row _ n=>if 0<n then some false else none
 | .z0=>some false
 | .fn .. => some false
 | _=>none
end
def fr (kd:CallKind) (f:FuncId) (ro:Option Nat) (ts:Array Value) (ds:List Deferred) (todo:List Item):Frame:={ fn:=f,tmps:=ts,todo,defers:=ds,mode:=.run,kind:=kd,roundOf:=ro }
def evT (ts:Array Value):Operand->Value:=Act.eval ⟨ts,[]⟩
def putT (ts:Array Value) (d:Option Tmp) (v:Value):Array Value:=(Act.put ⟨ts,[]⟩ d v).tmps
theorem zcy (kd:CallKind) (f:FuncId) (ro:Option Nat) (ts:Array Value) (ds:List Deferred) (todo:List Item):(fr kd f ro ts ds todo).eval=evT ts:=by
 funext x;cases x <;> rfl
theorem kb (kd:CallKind) (f:FuncId) (ro:Option Nat) (ts:Array Value) (ds:List Deferred) (ops:Array Oper) (i:Nat) (rest:List Nat) (k:List Item) (v:Value):(fr kd f ro ts ds (.inRegion ops (i::rest)::k)).finish v=fr kd f ro (putT ts ((ops[i]?).bind (·.dst)) v) ds (.inRegion ops rest::k):=by
 cases h:(ops[i]?).bind (·.dst) <;> simp [Frame.finish,fr,putT,Act.put,h]
theorem wh {P:Program} {f:FuncId} {fn:Func} {c:Code} (args:Array Value) (hf:P.funcs[f]? =some fn) (hb:fn.body=some c):Frame.enter P f args .normal=fr .normal f none (args++Array.replicate (fn.ntmps - args.size) undef) [] [.code c]:=by
 simp [Frame.enter,hf,hb,fr]
def yf:Op->Bool | .defer _=>true | _=>false
section
variable {P:Program} {main:Bool} {T:Goroutine->Hp->Prop} {kd:CallKind} {f:FuncId} {ro:Option Nat} {ts:Array Value} {ds:List Deferred} {k:List Item} {cs:List Frame} {H:Hp} {w:World}
theorem zgi:stepG P main (G (fr kd f ro ts ds (.code .skip::k)) cs) w=.go (G (fr kd f ro ts ds k) cs) w #[]:=by simp [G,stepG,stepG.exec,fr]
theorem zch {id:Nat}:stepG P main (G (fr kd f ro ts ds (.inBlock id::k)) cs) w=.go (G (fr kd f ro ts ds k) cs) w #[]:=by simp [G,stepG,stepG.exec,fr]
theorem ze4 {l:Nat}:stepG P main (G (fr kd f ro ts ds (.code (.label l)::k)) cs) w=.go (G (fr kd f ro ts ds k) cs) w #[]:=by simp [G,stepG,stepG.exec,fr]
theorem ziv {x y:Code}:stepG P main (G (fr kd f ro ts ds (.code (.seq x y)::k)) cs) w=.go (G (fr kd f ro ts ds (.code x::.code y::k)) cs) w #[]:=by simp [G,stepG,stepG.exec,fr]
theorem zgf {c:Operand} {x y:Code} {t:Bool} (h:evT ts c=.bool t):stepG P main (G (fr kd f ro ts ds (.code (.cond c x y)::k)) cs) w=.go (G (fr kd f ro ts ds (.code (if t then x else y)::k)) cs) w #[]:=by
 have h':(fr kd f ro ts ds (.code (.cond c x y)::k)).eval c=.bool t:=by rw [zcy]; exact h
 simp only [fr] at h';simp [G,stepG,stepG.exec,fr,h']
theorem ze3 {id:Nat} {c:Code}:stepG P main (G (fr kd f ro ts ds (.code (.block id c)::k)) cs) w=.go (G (fr kd f ro ts ds (.code c::.inBlock id::k)) cs) w #[]:=by simp [G,stepG,stepG.exec,fr]
theorem zgh {c:Code}:stepG P main (G (fr kd f ro ts ds (.code (.loop c)::k)) cs) w=.go (G (fr kd f ro ts ds (.code c::.inLoop c::k)) cs) w #[]:=by simp [G,stepG,stepG.exec,fr]
theorem zdr {c:Code}:stepG P main (G (fr kd f ro ts ds (.inLoop c::k)) cs) w=.go (G (fr kd f ro ts ds (.code c::.inLoop c::k)) cs) w #[]:=by simp [G,stepG,stepG.exec,fr]
theorem zgg {id:Nat} {k':List Item} (h:exitTo id k=some k'):stepG P main (G (fr kd f ro ts ds (.code (.exit id)::k)) cs) w=.go (G (fr kd f ro ts ds k') cs) w #[]:=by simp [G,stepG,stepG.exec,fr,h]
theorem zds {id:Nat} {ops:Array Oper}:stepG P main (G (fr kd f ro ts ds (.code (.region id ops false)::k)) cs) w=.go (G (fr kd f ro ts ds (.inRegion ops (List.range ops.size)::k)) cs) w #[]:=by simp [G,stepG,stepG.exec,fr]
theorem zcM {id:Nat} {ops:Array Oper}:stepG P main (G (fr kd f ro ts ds (.code (.region id ops true)::k)) cs) w=.go (G (fr kd f ro ts ds (.inRegion ops (Region.schedule (P.follows .mixedOrders) ops (w.tape w.drawn (.order f id)))::k)) cs) { w with drawn:=w.drawn+1 } #[]:=by
 simp [G,stepG,stepG.exec,fr,choose,Sem.run,Question.forced,Question.cut]
theorem zah {ops:Array Oper}:stepG P main (G (fr kd f ro ts ds (.inRegion ops []::k)) cs) w=.go (G (fr kd f ro ts ds k) cs) w #[]:=by simp [G,stepG,stepG.exec,fr]
theorem vx:stepG P main (G (fr kd f none ts ds (.code .ret::k)) cs) w=.go (G { fr kd f none ts ds (.code .ret::k) with mode:=.returning } cs) w #[]:=by simp [G,stepG,stepG.exec,fr]
theorem wW:stepG P main (G (fr kd f none ts ds []) cs) w=.go (G { fr kd f none ts ds [] with mode:=.returning } cs) w #[]:=by simp [G,stepG,stepG.exec,fr]
theorem un {ops:Array Oper} {i:Nat} {rest:List Nat} {o:Oper} (ho:ops[i]? =some o) (hw:Region.wanted o (yielded ops ts)=false) :
  stepG P main (G (fr kd f ro ts ds (.inRegion ops (i::rest)::k)) cs) w=.go (G (fr kd f ro (putT ts o.dst undef) ds (.inRegion ops rest::k)) cs) w #[]:=by
 have hfin:=kb kd f ro ts ds ops i rest k undef;rw [ho] at hfin;simp only [Option.bind_some] at hfin;rw [<- hfin];simp [G,stepG,stepG.exec,fr,ho,hw]
theorem vM (hkd:kd≠.early) {ops:Array Oper} {i:Nat} {rest:List Nat} {o:Oper} (ho:ops[i]? =some o) (hw:Region.wanted o (yielded ops ts)=true) (hd:yf o.op=false) :
  stepG P main (G (fr kd f ro ts ds (.inRegion ops (i::rest)::k)) cs) w=stepG.apply P true (fr kd f ro ts ds (.inRegion ops (i::rest)::k)) cs none (execOp (evT ts) o) w:=by
 have he:=zcy kd f ro ts ds (.inRegion ops (i::rest)::k);simp only [fr] at he;obtain ⟨dst,op,ty,pos,after,guard⟩:=o;cases ro with
 | none=>simp [G,stepG,stepG.exec,stepG.oper,Frame.oper?,fr,ho,hw,he]
 | some l =>
  cases op <;> first | (simp [yf] at hd; done) | simp [G,stepG,stepG.exec,stepG.oper,Frame.oper?,fr,ho,hw,he]
def uponF (P:Program) (T:Goroutine->Hp->Prop) (kd:CallKind) (f:FuncId) (ro:Option Nat) (ts:Array Value) (ds:List Deferred) (k:List Item) (cs:List Frame) (ops:Array Oper) (i:Nat) (rest:List Nat) (o:Oper):Next->Hp->Prop
 | .value v,H=>T (G (fr kd f ro (putT ts o.dst v) ds (.inRegion ops rest::k)) cs) H
 | .skip,H=>T (G (fr kd f ro (putT ts o.dst undef) ds (.inRegion ops rest::k)) cs) H
 | .enter g args,H=>T (G (Frame.enter P g args .normal) (fr kd f ro ts ds (.inRegion ops (i::rest)::k)::cs)) H
 | .round l g us x y,H=>T (G (Frame.round l g us x y .normal) (fr kd f ro ts ds (.inRegion ops (i::rest)::k)::cs)) H
 | _,_=>False
theorem zm.opF (hT:zm P main T) (hkd:kd≠.early) {ops:Array Oper} {i:Nat} {rest:List Nat} {o:Oper} (ho:ops[i]? =some o) (hw:Region.wanted o (yielded ops ts)=true) (hd:yf o.op=false)
  (h:wpS P (execOp (evT ts) o) H (uponF P T kd f ro ts ds k cs ops i rest o)):T (G (fr kd f ro ts ds (.inRegion ops (i::rest)::k)) cs) H:=by
 refine hT _ _ Z fun w hf=>?_;obtain ⟨x,w',es,h1,h2,h3⟩:=kR _ _ _ w #[] h hf;rw [mK] at h1;have hrun:(execOp (evT ts) o).run P w=.ok x w':=by
  have:=Sem.runT_eq P (execOp (evT ts) o) w #[];rw [h1] at this;exact (congrArg Prod.fst this).symm
 have hev:(execOp (evT ts) o).events P w #[]=es:=by
  have:=Sem.runT_eq P (execOp (evT ts) o) w #[];rw [h1] at this;exact (congrArg Prod.snd this).symm
 have hS:StepH H w w' (seen P f es):=⟨h2.size,h2.kept,fun e he=>h2.evs e (mem_seen he),h2.os,h2.out,h2.tape⟩;have hfin:=fun v=>kb kd f ro ts ds ops i rest k v;simp only [ho,Option.bind_some] at hfin;cases x with
 | value v=>exact ⟨_,_,_,by rw [vM hkd ho hw hd]; simp only [stepG.apply,Sem.runT_eq,hrun,hev,hfin]; simp [fr,GStep.after,hkd]; try rfl,hS,rfl,h3⟩
 | skip=>exact ⟨_,_,_,by rw [vM hkd ho hw hd]; simp only [stepG.apply,Sem.runT_eq,hrun,hev,hfin]; simp [fr,GStep.after,hkd]; try rfl,hS,rfl,h3⟩
 | enter g args=>exact ⟨_,_,_,by rw [vM hkd ho hw hd]; simp only [stepG.apply,Sem.runT_eq,hrun,hev]; simp [fr,GStep.after,hkd]; try rfl,hS,rfl,h3⟩
 | round l g us x y=>exact ⟨_,_,_,by rw [vM hkd ho hw hd]; simp only [stepG.apply,Sem.runT_eq,hrun,hev]; simp [fr,GStep.after,hkd]; try rfl,hS,rfl,h3⟩
 | _=>exact h3.elim
theorem zm.ctlF (hT:zm P main T) {g g':Goroutine} (hr:g.status=.running) (h:∀ w,stepG P main g w=.go g' w #[]) (hr':g'.status=.running) (hn:T g' H):T g H:=hT.ctl hr h hr' hn
theorem zm.drawF (hT:zm P main T) {id:Nat} {ops:Array Oper} (h:∀ t,T (G (fr kd f ro ts ds (.inRegion ops (Region.schedule (P.follows .mixedOrders) ops t)::k)) cs) H):T (G (fr kd f ro ts ds (.code (.region id ops true)::k)) cs) H:=by
 refine hT _ _ Z fun w hf=>⟨_,_,_,zcM,?_,rfl,?_⟩
 ·have:=yP hf (es:=#[]) (fun e he=>by simp at he);exact ⟨this.size,this.kept,this.evs,this.os,this.out,this.tape⟩
 ·have hn:H.next w { w with drawn:=w.drawn+1 }=H:=zgU hf _;rw [hn]; exact h _
theorem zm.leaveF (hT:zm P main T) {fn:Func} {c:Frame} (hf:P.funcs[f]? =some fn) (h:wpS P (results fn ts) H fun v H'=>T (G (c.finish v) cs) H'):T (G { fr .normal f ro ts [] k with mode:=.returning } (c::cs)) H:=by
 refine hT _ _ Z fun w hw=>?_;obtain ⟨v,w',es,h1,h2,h3⟩:=kR _ _ _ w #[] h hw;rw [mK] at h1;have hS:StepH H w w' (seen P f es):=⟨h2.size,h2.kept,fun e he=>h2.evs e (mem_seen he),h2.os,h2.out,h2.tape⟩;refine ⟨_,_,_,?_,hS,rfl,h3⟩;simp only [G,stepG,unwind,doReturn,fr,hf,h1];simp [GStep.after]
end
inductive Leave:Option Code->List Item->Prop
 | fin:Leave none []
 | ret (k:List Item):Leave (some .ret) (.code .ret::k)
 | exit (id:Nat) (k:List Item):exitTo id k=none->Leave (some (.exit id)) (.code (.exit id)::k)
def dsC (φ:Nat->Loc3) (ds:List Nat):List Deferred:=ds.map fun i=>{ target:=.collected (φ i).blk,args:=#[] }
abbrev nF:Hp:=fun _=>none
structure Cx (P:Program) (gm:Nat->Option Nat) (T:Goroutine->Hp->Prop) where
 main:Bool
 hT:zm P main T
 φ0:Nat->Loc3
 n0:Nat
 F:Hp
 hF0:F=nF
 kd:CallKind
 hkd:kd≠.early
 f:FuncId
 ro:Option Nat
 cs:List Frame
 dd:List Deferred:=[]
 L:Option Code->List Nat->List AV->List AObj->Prop
 hL:∀ j k ds env A φ H ts,Leave j k->L j ds env A->Agr φ0 φ n0->n0<=A.length->RelG gm φ A.length->(∀ d∈ds,d<A.length)->RelH φ A F H->zM φ A.length env ts->T (G (fr kd f ro ts (dsC φ ds++dd) k) cs) H
def TA {P:Program} {gm:Nat->Option Nat} {T:Goroutine->Hp->Prop} (X:Cx P gm T) (ds:List Nat) (k:List Item) (env:List AV) (A:List AObj):Prop :=
 ∀ (φ:Nat->Loc3) (H:Hp) (ts:Array Value),Agr X.φ0 φ X.n0->X.n0<=A.length->RelG gm φ A.length->(∀ d∈ds,d<A.length)->RelH φ A X.F H->zM φ A.length env ts->T (G (fr X.kd X.f X.ro ts (dsC φ ds++X.dd) k) X.cs) H
section
variable {P:Program} {gm:Nat->Option Nat} {T:Goroutine->Hp->Prop} {X:Cx P gm T} {ds:List Nat} {k:List Item} {env:List AV} {A:List AObj}
theorem TA.leave {j:Option Code} (hl:Leave j k) (h:X.L j ds env A):TA X ds k env A:=fun _ _ _ h1 h2 h3 h4 h5 h6=>X.hL j k ds env A _ _ _ hl h h1 h2 h3 h4 h5 h6
theorem TA.skip (h:TA X ds k env A):TA X ds (.code .skip::k) env A:=fun φ H ts h1 h2 h3 h4 h5 h6=>X.hT.ctlF rfl (fun _=>zgi) rfl (h φ H ts h1 h2 h3 h4 h5 h6)
theorem TA.inBlock {id:Nat} (h:TA X ds k env A):TA X ds (.inBlock id::k) env A:=fun φ H ts h1 h2 h3 h4 h5 h6=>X.hT.ctlF rfl (fun _=>zch) rfl (h φ H ts h1 h2 h3 h4 h5 h6)
theorem TA.label {l:Nat} (h:TA X ds k env A):TA X ds (.code (.label l)::k) env A:=fun φ H ts h1 h2 h3 h4 h5 h6=>X.hT.ctlF rfl (fun _=>ze4) rfl (h φ H ts h1 h2 h3 h4 h5 h6)
theorem TA.seq {x y:Code} (h:TA X ds (.code x::.code y::k) env A):TA X ds (.code (.seq x y)::k) env A:=fun φ H ts h1 h2 h3 h4 h5 h6=>X.hT.ctlF rfl (fun _=>ziv) rfl (h φ H ts h1 h2 h3 h4 h5 h6)
theorem TA.block {id:Nat} {c:Code} (h:TA X ds (.code c::.inBlock id::k) env A):TA X ds (.code (.block id c)::k) env A:=fun φ H ts h1 h2 h3 h4 h5 h6=>X.hT.ctlF rfl (fun _=>ze3) rfl (h φ H ts h1 h2 h3 h4 h5 h6)
theorem TA.loop {c:Code} (h:TA X ds (.code c::.inLoop c::k) env A):TA X ds (.code (.loop c)::k) env A:=fun φ H ts h1 h2 h3 h4 h5 h6=>X.hT.ctlF rfl (fun _=>zgh) rfl (h φ H ts h1 h2 h3 h4 h5 h6)
theorem TA.inLoop {c:Code} (h:TA X ds (.code c::.inLoop c::k) env A):TA X ds (.inLoop c::k) env A:=fun φ H ts h1 h2 h3 h4 h5 h6=>X.hT.ctlF rfl (fun _=>zdr) rfl (h φ H ts h1 h2 h3 h4 h5 h6)
theorem TA.exit {id:Nat} {k':List Item} (hk:exitTo id k=some k') (h:TA X ds k' env A):TA X ds (.code (.exit id)::k) env A:=fun φ H ts h1 h2 h3 h4 h5 h6=>X.hT.ctlF rfl (fun _=>zgg hk) rfl (h φ H ts h1 h2 h3 h4 h5 h6)
theorem TA.region {id:Nat} {ops:Array Oper} (h:TA X ds (.inRegion ops (List.range ops.size)::k) env A):TA X ds (.code (.region id ops false)::k) env A:=fun φ H ts h1 h2 h3 h4 h5 h6=>X.hT.ctlF rfl (fun _=>zds) rfl (h φ H ts h1 h2 h3 h4 h5 h6)
theorem TA.draw {id:Nat} {ops:Array Oper} (h:∀ t,TA X ds (.inRegion ops (Region.schedule (P.follows .mixedOrders) ops t)::k) env A):TA X ds (.code (.region id ops true)::k) env A:=fun φ H ts h1 h2 h3 h4 h5 h6=>X.hT.drawF fun t=>h t φ H ts h1 h2 h3 h4 h5 h6
theorem TA.regionEnd {ops:Array Oper} (h:TA X ds k env A):TA X ds (.inRegion ops []::k) env A:=fun φ H ts h1 h2 h3 h4 h5 h6=>X.hT.ctlF rfl (fun _=>zah) rfl (h φ H ts h1 h2 h3 h4 h5 h6)
theorem TA.cond {c:Operand} {x y:Code} (t:Bool) (hc:zL gm env c=.v (.bool t)) (h:TA X ds (.code (if t then x else y)::k) env A):TA X ds (.code (.cond c x y)::k) env A:=fun φ H ts h1 h2 h3 h4 h5 h6=>by
 have hr:=zD (a:=⟨ts,[]⟩) h3 h6 c;rw [hc] at hr;exact X.hT.ctlF rfl (fun _=>zgf (inv_v hr)) rfl (h φ H ts h1 h2 h3 h4 h5 h6)
def yieldA (ops:Array Oper) (env:List AV) (j:Nat):Option (Option Bool):=match ((ops[j]?).bind (·.dst)).bind (env[·]?) with
 | some (.v (.bool b))=>some (some b)
 | some (.v (.tuple _))=>some none
 | _=>none
def zO (ops:Array Oper) (env:List AV) (o:Oper):Option Bool:=match o.guard with
 | none=>some true
 | some (j,want)=>match yieldA ops env j with | some y=>some (y==some want) | none=>none
theorem zP {φ:Nat->Loc3} {n:Nat} {ops:Array Oper} {ts:Array Value} {o:Oper} {b:Bool} (hE:zM φ n env ts) (h:zO ops env o=some b):Region.wanted o (yielded ops ts)=b:=by
 unfold zO at h;unfold Region.wanted;split at h
 ·rename_i e; cases h; rw [e]
 ·rename_i j want e;split at h
  ·rename_i y e';cases h;rw [e];simp only;have:yielded ops ts j=y:=by
    unfold yieldA at e';unfold yielded;cases e3:(ops[j]?).bind (·.dst) with
    | none=>rw [e3] at e'; cases e'
    | some t =>
     rw [e3] at e';simp only [Option.bind_some] at e' ⊢;split at e'
     ·rename_i b'' e'';cases e';obtain ⟨y,hy,hr⟩:=hE.get e'';rw [hy,inv_v hr]
     ·rename_i b'' e'';cases e';obtain ⟨y,hy,hr⟩:=hE.get e'';rw [hy,inv_v hr]
     ·cases e'
   rw [this]
  ·cases h
theorem TA.op {ops:Array Oper} {i:Nat} {rest:List Nat} {o:Oper} {r:AV} {A':List AObj} (ho:ops[i]? =some o) (hd:yf o.op=false) (hw:zO ops env o=some true) (hok:OpOk P gm env A o r A') (h:TA X ds (.inRegion ops rest::k) (zR env o.dst r) A') :
  TA X ds (.inRegion ops (i::rest)::k) env A:=fun φ H ts h1 h2 h3 h4 h5 h6=>by
 refine X.hT.opF X.hkd ho (zP h6 hw) hd (zaf _ _ _ _ ?_ (hok φ X.F H ⟨ts,[]⟩ h3 h5 h6));rintro nx H' ⟨v,φ',hnx,hA,hlen,hH',hr⟩;have hE:=yB (a:=⟨ts,[]⟩) (h6.mono hA hlen) hr o.dst;have hds:dsC φ' ds=dsC φ ds:=by
  unfold dsC;refine mA fun d hd'=>?_;rw [hA d (h4 d hd')]
 have:=h φ' H' _ (h1.trans hA h2) oQ (h3.mono hA hlen) (fun d hd'=>mM (h4 d hd') hlen) hH' hE;rw [hds] at this;rcases hnx with rfl | ⟨rfl,rfl⟩ <;> exact this
theorem TA.unwanted {ops:Array Oper} {i:Nat} {rest:List Nat} {o:Oper} (ho:ops[i]? =some o) (hw:zO ops env o=some false) (h:TA X ds (.inRegion ops rest::k) (zR env o.dst (.v undef)) A) :
  TA X ds (.inRegion ops (i::rest)::k) env A:=fun φ H ts h1 h2 h3 h4 h5 h6=>by
 refine X.hT.ctlF Z (fun _=>un ho (zP h6 hw)) rfl ?_;exact h φ H _ h1 h2 h3 h4 h5 (yB (a:=⟨ts,[]⟩) h6 (.v undef) o.dst)
def CallT (P:Program) (T:Goroutine->Hp->Prop) (gm:Nat->Option Nat) (g:FuncId) (args:List AV) (A:List AObj) (Post:AV->List AObj->Prop):Prop :=
 ∀ (φ:Nat->Loc3) (F H:Hp) (vs:Array Value) (c:Frame) (cs:List Frame),F=nF->RelG gm φ A.length->RelH φ A F H->zM φ A.length args vs ->
  (∀ r A' φ' H' v,Post r A'->Agr φ φ' A.length->A.length<=A'.length->RelH φ' A' F H'->RelV φ' A'.length r v->T (G (c.finish v) cs) H')->T (G (Frame.enter P g vs .normal) (c::cs)) H
theorem CallT.mono {g:FuncId} {args:List AV} {Post Post':AV->List AObj->Prop} (h:CallT P T gm g args A Post) (hp:∀ r A',Post r A'->Post' r A'):CallT P T gm g args A Post' :=
 fun φ F H vs c cs h0 h1 h2 h3 k=>h φ F H vs c cs h0 h1 h2 h3 fun r A' φ' H' v x=>k r A' φ' H' v (hp r A' x)
def yk (P:Program) (g:FuncId):Bool:=match P.funcs[g]? with
 | some fn => !(fn.name == "runtime.NumGoroutine")&&fn.body.isSome
 | none=>false
theorem kO {P:Program} {H:Hp} {g:FuncId} (hc:yk P g=true) (args:Array Value) {Q:Next->Hp->Prop} (hq:Q (.enter g args) H):wpS P (callFunc g args) H Q:=by
 unfold yk at hc;split at hc
 ·rename_i fn e;simp only [Bool.and_eq_true,Bool.not_eq_true'] at hc;show wpS P (match P.funcs[g]? with | none=>_ | some fn=>_) H Q;rw [e];simp only [hc.1,mU,if_false];have hb:fn.body.isNone=false:=by
   cases e':fn.body with
   | none=>rw [e'] at hc; simp at hc
   | some _=>rfl
  simp only [hb,mU,if_false];exact hq
 ·cases hc
theorem kT {φ:Nat->Loc3} {n:Nat} {l l':List AV} {ys ys':Array Value} (h:zM φ n l ys) (h':zM φ n l' ys'):zM φ n (l++l') (ys++ys'):=by
 have:=vi (ys:=ys.toList) (ys':=ys'.toList) (by simpa using h) (by simpa using h');have e:(ys.toList++ys'.toList).toArray=ys++ys':=by
  apply Array.ext';simp
 rwa [e] at this
theorem TA.call {ops:Array Oper} {i:Nat} {rest:List Nat} {o:Oper} {fo:Operand} {ars:Array Operand} {at_:Array TypeId} {g:FuncId} {fs cp:List AV} {args:List AV} {Post:AV->List AObj->Prop} (ho:ops[i]? =some o) (hop:o.op=.call { callee:=.value fo,args:=ars,argTypes:=at_ })
  (hw:zO ops env o=some true) (hf:zL gm env fo=.fn g fs cp) (hg:yk P g=true) (hargs:fs++ars.toList.map (zL gm env)++cp=args) (hc:CallT P T gm g args A Post) (h:∀ r A',Post r A'->TA X ds (.inRegion ops rest::k) (zR env o.dst r) A') :
  TA X ds (.inRegion ops (i::rest)::k) env A:=fun φ H ts h1 h2 h3 h4 h5 h6=>by
 refine X.hT.opF X.hkd ho (zP h6 hw) (by rw [hop]; rfl) ?_;have hfo:=zD (a:=⟨ts,[]⟩) h3 h6 fo;rw [hf] at hfo;obtain ⟨xs,ys,e,hr1,hr2⟩:=vR hfo;unfold execOp;rw [hop];dsimp only;refine ze _ _ _ ?_;show wpS P (Deferred.ofValue (Act.eval ⟨ts,[]⟩ fo) (ars.map (evT ts))) H _;rw [e];show wpS P (callFunc g ((xs++ars.map (evT ts))++ys)) H _;refine kO hg _ ?_;show T (G (Frame.enter P g _ .normal) (_::X.cs)) H;have hrel:zM φ A.length args ((xs++ars.map (evT ts))++ys):=by
  rw [<- hargs];exact kT (kT hr1 (kU (a:=⟨ts,[]⟩) h3 h6 ars)) hr2
 refine hc φ X.F H _ _ _ X.hF0 h3 h5 hrel fun r A' φ' H' v hp hA hlen hH' hr=>?_;have hfin:=kb X.kd X.f X.ro ts (dsC φ ds++X.dd) ops i rest k v;simp only [ho,Option.bind_some] at hfin;rw [hfin];have hE:=yB (a:=⟨ts,[]⟩) (h6.mono hA hlen) hr o.dst;have hds:dsC φ' ds=dsC φ ds:=by
  unfold dsC;refine mA fun d hd'=>?_;rw [hA d (h4 d hd')]
 have:=h r A' hp φ' H' _ (h1.trans hA h2) oQ (h3.mono hA hlen) (fun d hd'=>mM (h4 d hd') hlen) hH' hE;rw [hds] at this;exact this
end
end Go.Vel
end
