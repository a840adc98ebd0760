/- Texts for the statements of chapter 8: what all of them need, part 6. It holds of every program, tape and world that the statements name, as each theorem says. -/
import Derived.Test.YtamcohjpanjdiaaGreatDoorV4
section
set_option linter.all false
set_option maxRecDepth 20000
set_option maxHeartbeats 60000000
namespace Go.Vel
open Go Go.Conc
open Go.ConcN (sumTo upd upd_ne upd_same)
open Go.ConcM (OsLater MuAt muA msA)
open Go.ConcR (KK wgBlock WgAt stA smA mk rd wr)
open Mx (TT Th Mn S4 auto Mv4 ok4 bl4 kd dl MPc Pc okW okM Mv nx4)
section
variable {P:Program} {main:Bool} {T:Goroutine->Prop}
theorem pureS_run {α:Type} {P:Program} (s:Sem α):∀ {a:α},pureS P s=some a->∀ w,s.run P w=.ok a w/\s.events P w #[]=#[]:=by
 induction s with
 | pure b=>intro a h w; cases h; exact ⟨rfl,rfl⟩
 | program k ih=>intro a h w; exact ih P h w
 | _=>intro a h; cases h
def ShQ (P:Program) (main:Bool) (T:Goroutine->Prop):Prop:=∀ g g',g.status=.running->g'.status=.running->(∀ w,stepG P main g w=.go g' w #[])->T g'->T g
variable {gm:Nat->Option Nat}
def Pk (P:Program) (env:List AV) (o:Oper) (r:AV):Prop:=∀ (φ:Nat->Loc3) (n:Nat) (a:Act),RelL φ n env a.tmps->∃ v,pureS P (execOp a.eval o)=some (.value v)/\RelV φ n r v
abbrev gN:Nat->Option Nat:=fun _=>none
variable {env env':List AV} {o:Oper}
theorem p_move {x:Operand} {r:AV} (ho:o.op=.move x) (hx:opndO gN env x=some r):Pk P env o r:=fun φ n a hE=>by
 have:=opnd_rel (relG_none φ n) hE x
 rw [opndO_eq hx] at this
 exact ⟨_,by unfold execOp; rw [ho]; rfl,this⟩
theorem p_assign {x:Operand} {r:AV} (ho:o.op=.assign x) (hx:opndO gN env x=some r):Pk P env o r:=fun φ n a hE=>by
 have:=opnd_rel (relG_none φ n) hE x
 rw [opndO_eq hx] at this
 exact ⟨_,by unfold execOp; rw [ho]; rfl,this⟩
theorem p_ev {φ:Nat->Loc3} {n:Nat} {a:Act} {c:Operand} {z:Value} (hE:RelL φ n env a.tmps) (h:opndO gN env c=some (.v z)):a.eval c=z:=inv_v' (relG_none φ n) hE h
theorem p_nilV {x:Operand} {l:Addr} (ho:o.op=.nilCheck x) (hx:opndO gN env x=some (.v (.pointer (some l)))):Pk P env o (.v (.pointer (some l))):=fun φ n a hE =>
 ⟨_,by unfold execOp; rw [ho]; dsimp only; rw [p_ev hE hx]; rfl,.v _⟩
theorem p_int {op:BinOp} {t yt:TypeId} {x y:Operand} {k k':IntKind} {a b:Int} {z:Value} (ho:o.op=.binOp op t x y yt) (hx:opndO gN env x=some (.v (.int k a))) (hy:opndO gN env y=some (.v (.int k' b))) (h:pureS P (binOp op t (.int k a) (.int k' b))=some z):Pk P env o (.v z):=fun φ n ac hE=>by
 refine ⟨z,?_,.v z⟩
 unfold execOp; rw [ho]; dsimp only
 rw [p_ev hE hx,p_ev hE hy,eqg_int]
 exact pureS_bind (pureS_bind rfl h) rfl
theorem p_bits {op:BinOp} {t yt:TypeId} {x y:Operand} {k:IntKind} {a b:Int} {r:Int} (ho:o.op=.binOp op t x y yt) (hx:opndO gN env x=some (.v (.int k a))) (hy:opndO gN env y=some (.v (.int k b))) (hop:op=.and\/op=.or\/op=.andNot) (hr:bits op k a b=r):Pk P env o (.v (.int k r)):=by
 refine p_int ho hx hy ?_
 subst hr
 rcases hop with rfl | rfl | rfl
 all_goals
  show pureS P (if k≠k then _ else _)=_
  rw [if_neg sQ]
  rfl
theorem p_wrap {op:BinOp} {t yt:TypeId} {x y:Operand} {k:IntKind} {a b:Int} {r:Int} (ho:o.op=.binOp op t x y yt) (hx:opndO gN env x=some (.v (.int k a))) (hy:opndO gN env y=some (.v (.int k b))) (h:(op=.add/\k.wrap (a+b)=r)\/(op=.sub/\k.wrap (a - b)=r)):Pk P env o (.v (.int k r)):=by
 refine p_int ho hx hy ?_
 rcases h with ⟨rfl,rfl⟩ | ⟨rfl,rfl⟩
 all_goals
  show pureS P (if k≠k then _ else _)=_
  rw [if_neg sQ]
  rfl
theorem p_cmp {op:BinOp} {t yt:TypeId} {x y:Operand} {k:IntKind} {a b:Int} {z:Bool} (ho:o.op=.binOp op t x y yt) (hx:opndO gN env x=some (.v (.int k a))) (hy:opndO gN env y=some (.v (.int k b))) (h:cmpI op a b=some z):Pk P env o (.v (.bool z)):=by
 refine p_int ho hx hy ?_
 cases op <;> first | (cases h; done) | skip
 all_goals
  cases h
  show pureS P (if k≠k then _ else _)=_
  rw [if_neg sQ]
  rfl
theorem p_sh {t yt:TypeId} {x y:Operand} {k k':IntKind} {a b:Int} {r:Int} (ho:o.op=.binOp .shr t x y yt) (hx:opndO gN env x=some (.v (.int k a))) (hy:opndO gN env y=some (.v (.int k' b))) (h0:0<=b/\b<=k.bits) (hr:a / 2 ^ b.toNat=r):Pk P env o (.v (.int k r)):=by
 refine p_int ho hx hy ?_
 show pureS P (Op.shift .shr k a k' b)=_
 rw [shift_shr k k' a b h0.1 h0.2,hr]
 rfl
theorem p_shL {t yt:TypeId} {x y:Operand} {k k':IntKind} {a b:Int} {r:Int} (ho:o.op=.binOp .shl t x y yt) (hx:opndO gN env x=some (.v (.int k a))) (hy:opndO gN env y=some (.v (.int k' b))) (h0:0<=b/\b<=k.bits) (hr:k.wrap (a*2 ^ b.toNat)=r):Pk P env o (.v (.int k r)):=by
 refine p_int ho hx hy ?_
 show pureS P (Op.shift .shl k a k' b)=_
 rw [shift_shl k k' a b h0.1 h0.2,hr]
 rfl
theorem p_convInt {s d:TypeId} {x:Operand} {k k':IntKind} {ds:TypeDesc} {n m:Int} (ho:o.op=.convert s d x) (hx:opndO gN env x=some (.v (.int k n))) (hs:P.underlying s=some ds) (hd:P.underlying d=some (.int k')) (h:k'.wrap n=m):Pk P env o (.v (.int k' m)):=fun φ n' ac hE=>by
 refine ⟨_,?_,.v _⟩
 unfold execOp; rw [ho]; dsimp only
 rw [p_ev hE hx]
 refine pureS_bind (a:=.int k' m) ?_ rfl
 unfold convert
 refine pureS_bind (pureS_underlying hs) (pureS_bind (pureS_underlying hd) ?_)
 have:pureS P (Conv.intToInt k' n)=some (.int k' m):=by rw [<- h]; rfl
 cases ds <;> exact this
theorem p_pickT {c x y:Operand} {r:AV} (ho:o.op=.pick c x y) (hc:opndO gN env c=some (.v (.bool true))) (hx:opndO gN env x=some r):Pk P env o r:=fun φ n a hE=>by
 have:=opnd_rel (relG_none φ n) hE x
 rw [opndO_eq hx] at this
 exact ⟨_,by unfold execOp; rw [ho]; simp only [p_ev hE hc]; rfl,this⟩
theorem p_pickF {c x y:Operand} {r:AV} (ho:o.op=.pick c x y) (hc:opndO gN env c=some (.v (.bool false))) (hy:opndO gN env y=some r):Pk P env o r:=fun φ n a hE=>by
 have:=opnd_rel (relG_none φ n) hE y
 rw [opndO_eq hy] at this
 exact ⟨_,by unfold execOp; rw [ho]; simp only [p_ev hE hc]; rfl,this⟩
theorem pureS_typeInfo {t:TypeId} {i:TypeInfo} (h:P.info? t=some i):pureS P (typeInfo t)=some i:=by
 show pureS P (match P.info? t with | some i=>pure i | none=>stuck "no such type")=_
 rw [h]; rfl
theorem pureS_sizeOf {t:TypeId} {i:TypeInfo} (h:P.info? t=some i):pureS P (sizeOf t)=some i.size:=by
 unfold sizeOf
 exact pureS_bind (pureS_typeInfo h) rfl
theorem p_fieldV {t:TypeId} {x:Operand} {k off d m:Nat} {g:Bool} {b:Nat} (ho:o.op=.fieldAddr t x k) (hx:opndO gN env x=some (.v (.pointer (some ⟨b,off,none⟩)))) (hf:fieldOf P t k=some (d,g,m)) (hn:m≠0):Pk P env o (.v (.pointer (some ⟨b,off+d,none⟩))):=fun φ n ac hE=>by
 refine ⟨_,?_,.v _⟩
 unfold execOp; rw [ho]
 obtain ⟨fs,f,e1,e2,e3,e4⟩:=fieldOf_spec hf
 obtain ⟨ti,td,e5,_,_,e6⟩:=tySize_spec e4
 dsimp only
 rw [p_ev hE hx]
 refine pureS_bind (a:=.pointer (some ⟨b,off+d,none⟩)) ?_ rfl
 unfold Instr.fieldAt
 refine pureS_bind (pureS_underlying e1) ?_
 simp only [e2]
 have hp:pureS P (fieldPlace ⟨b,off,none⟩ f)=some ⟨b,off+d,none⟩:=by
  unfold fieldPlace
  refine pureS_bind (pureS_sizeOf e5) ?_
  rw [e6,if_neg hn]
  show some (Addr.add ⟨b,off,none⟩ f.offset)=_
  rw [add_off,e3]
 exact pureS_bind rfl (pureS_bind hp rfl)
variable (φ0:Nat->Loc3) in
def TQ (P:Program) (T:Goroutine->Prop) (kdf:CallKind) (f:FuncId) (cs:List Frame) (de:List Deferred) (k:List Item) (env:List AV):Prop:=∀ ts,RelL φ0 0 env ts->T (G (fr kdf f none ts de k) cs)
variable {φ0:Nat->Loc3} {kdf:CallKind} {f:FuncId} {cs:List Frame} {de:List Deferred} {k:List Item} {ops:Array Oper} {q:Nat} {rest:List Nat}
local notation "W" => TQ φ0 P T kdf f cs de
theorem TQ.skip (hT:ShQ P main T) (h:W k env):W (.code .skip::k) env:=fun ts hE=>hT _ _ rfl rfl (fun _=>sf_skip) (h ts hE)
theorem TQ.inBlock (hT:ShQ P main T) {id:Nat} (h:W k env):W (.inBlock id::k) env:=fun ts hE=>hT _ _ rfl rfl (fun _=>sf_inBlock) (h ts hE)
theorem TQ.label (hT:ShQ P main T) {l:Nat} (h:W k env):W (.code (.label l)::k) env:=fun ts hE=>hT _ _ rfl rfl (fun _=>sf_label) (h ts hE)
theorem TQ.seq (hT:ShQ P main T) {x y:Code} (h:W (.code x::.code y::k) env):W (.code (.seq x y)::k) env:=fun ts hE=>hT _ _ rfl rfl (fun _=>sf_seq) (h ts hE)
theorem TQ.block (hT:ShQ P main T) {id:Nat} {c:Code} (h:W (.code c::.inBlock id::k) env):W (.code (.block id c)::k) env:=fun ts hE=>hT _ _ rfl rfl (fun _=>sf_block) (h ts hE)
theorem TQ.loop (hT:ShQ P main T) {c:Code} (h:W (.code c::.inLoop c::k) env):W (.code (.loop c)::k) env:=fun ts hE=>hT _ _ rfl rfl (fun _=>sf_loop) (h ts hE)
theorem TQ.inLoop (hT:ShQ P main T) {c:Code} (h:W (.code c::.inLoop c::k) env):W (.inLoop c::k) env:=fun ts hE=>hT _ _ rfl rfl (fun _=>sf_inLoop) (h ts hE)
theorem TQ.exit (hT:ShQ P main T) {id:Nat} {k':List Item} (hk:exitTo id k=some k') (h:W k' env):W (.code (.exit id)::k) env:=fun ts hE=>hT _ _ rfl rfl (fun _=>sf_exit hk) (h ts hE)
theorem TQ.rgn (hT:ShQ P main T) {id:Nat} {L:List Nat} (hL:List.range ops.size=L) (h:W (.inRegion ops L::k) env):W (.code (.region id ops false)::k) env:=fun ts hE=>hT _ _ rfl rfl (fun _=>sf_region) (by rw [hL]; exact h ts hE)
theorem TQ.end (hT:ShQ P main T) (h:W k env):W (.inRegion ops []::k) env:=fun ts hE=>hT _ _ rfl rfl (fun _=>sf_region_end) (h ts hE)
theorem TQ.cond (hT:ShQ P main T) {c:Operand} {x y:Code} {t:Bool} (hc:opndO gN env c=some (.v (.bool t))) (h:(t=true->W (.code x::k) env)/\(t=false->W (.code y::k) env)):W (.code (.cond c x y)::k) env:=fun ts hE=>by
 refine hT _ _ rfl rfl (fun _=>sf_cond (t:=t) (by have:=p_ev (a:=⟨ts,[]⟩) hE hc; rw [eval_at] at this; exact this)) ?_
 cases t with
 | true=>exact h.1 rfl ts hE
 | false=>exact h.2 rfl ts hE
theorem TQ.condT (hT:ShQ P main T) {c:Operand} {x y:Code} (hc:opndO gN env c=some (.v (.bool true))) (h:W (.code x::k) env):W (.code (.cond c x y)::k) env:=TQ.cond hT hc ⟨fun _=>h,fun h=>(by cases h)⟩
theorem TQ.condF (hT:ShQ P main T) {c:Operand} {x y:Code} (hc:opndO gN env c=some (.v (.bool false))) (h:W (.code y::k) env):W (.code (.cond c x y)::k) env:=TQ.cond hT hc ⟨fun h=>(by cases h),fun _=>h⟩
theorem TQ.norm (he:env=env') (h:W k env'):W k env:=he ▸ h
theorem TQ.mask (live:List Nat) (h:W k (liveA live 0 env)):W k env:=fun ts hE=>h ts (by
 have e:=liveA_eq live 0 env
 rw [<- e]
 refine ⟨by rw [maskA_len]; exact hE.1,fun j a y ha hy=>?_⟩
 rcases maskA_get _ _ _ _ ha with rfl | h
 ·exact .any _
 ·exact hE.2 j a y h hy)
theorem TQ.a (hT:ShQ P main T) (hkd:kdf≠.early) {r:AV} {d:Nat} (ho:ops[q]? =some o) (hq:Pk P env o r) (h:W (.inRegion ops rest::k) env') (hd:isDefer o.op=false:=by rfl) (hw:wantA ops env o=some true:=by rfl) (hx:o.dst=some d:=by rfl) (he:env.set d r=env':=by simp only [List.set]; rfl):W (.inRegion ops (q::rest)::k) env:=fun ts hE=>by
 obtain ⟨v,hv,hr⟩:=hq φ0 0 ⟨ts,[]⟩ hE
 rw [eval_at] at hv
 have hP:=put_rel (a:=⟨ts,[]⟩) hE hr o.dst
 rw [hx] at hP
 have hP2:RelL φ0 0 env' (putT ts o.dst v):=by rw [hx,<- he]; exact hP
 refine hT _ _ rfl rfl (fun w=>?_) (h (putT ts o.dst v) hP2)
 obtain ⟨e1,e2⟩:=pureS_run _ hv w
 rw [fr_at,stepG_value (b:=bf kdf f) (a:=⟨ts,de⟩) (v:=v) (w':=w) ho (wantA_ok (ts:=ts) hE hw) hkd (by rw [eval_at]; exact e1),putT_at,listed_nil (by rw [eval_at]; exact e2)]
 rfl
theorem TQ.unwanted (hT:ShQ P main T) (ho:ops[q]? =some o) (hw:wantA ops env o=some false) (he:putA env o.dst (.v undef)=env') (h:W (.inRegion ops rest::k) env'):W (.inRegion ops (q::rest)::k) env:=fun ts hE=>by
 have hP:=put_rel (a:=⟨ts,[]⟩) hE (RelV.v (φ:=φ0) (n:=0) undef) o.dst
 rw [he] at hP
 exact hT _ _ rfl rfl (fun _=>sf_unwanted ho (wantA_ok hE hw)) (h _ hP)
theorem TQ.sp (d:Nat) {t:Bool} {env1 env0:List AV} (k1:t=true->W k env1) (k0:t=false->W k env0) (hd:env[d]? =some (.v (.bool t)):=by rfl) (h1:env.set d (.v (.bool true))=env1:=by simp only [List.set]; rfl) (h0:env.set d (.v (.bool false))=env0:=by simp only [List.set]; rfl):W k env:=fun ts hE=>by
 have hs:∀ b,t=b->env=env.set d (.v (.bool b)):=fun b e=>by
  subst e
  refine List.ext_getElem? fun j=>?_
  rw [List.getElem?_set]
  split
  ·rename_i e
   subst e
   split
   ·exact hd
   ·rename_i hlt
    rw [List.getElem?_eq_none oQ] at hd
    cases hd
  ·rfl
 cases t with
 | true=>exact k1 rfl ts (by rw [<- h1,<- hs _ rfl]; exact hE)
 | false=>exact k0 rfl ts (by rw [<- h0,<- hs _ rfl]; exact hE)
theorem TQ.pure (hT:ShQ P main T) (hkd:kdf≠.early) {g:FuncId} {as0:Array Operand} {ats:Array TypeId} {e:Array Value->Sem Value} {v:Value} [hx:Ext P g e] (ho:ops[q]? =some o) (hop:o.op=.call { callee:=.value (.func g),args:=as0,argTypes:=ats }) (h:W (.inRegion ops rest::k) env') (he:e=(fun _=>Sem.pure v):=by rfl) (hw:wantA ops env o=some true:=by rfl) (hd:putA env o.dst (.v v)=env':=by exact putS rfl (by simp only [List.set]; rfl)):W (.inRegion ops (q::rest)::k) env:=fun ts hE=>by
 obtain ⟨fn,e1,e2,e3,e4,e5⟩:=hx.h
 subst he
 have hP:=put_rel (a:=⟨ts,[]⟩) hE (RelV.v (φ:=φ0) (n:=0) v) o.dst
 rw [hd] at hP
 refine hT _ _ rfl rfl (fun w=>?_) (h _ hP)
 rw [fr_at,stepG_entry_pure (b:=bf kdf f) (a:=⟨ts,de⟩) v ho (wantA_ok (ts:=ts) hE hw) hkd hop e1 e2 e3 e4 e5,putT_at]
 rfl
theorem TQ.defer (hT:ShQ P main T) (hkd:kdf≠.early) {g:FuncId} {ats:Array TypeId} (ho:ops[q]? =some o) (hop:o.op=.defer { callee:=.value (.func g),args:=#[],argTypes:=ats }) (h:TQ φ0 P T kdf f cs (dcall g #[]::de) (.inRegion ops rest::k) env') (hw:wantA ops env o=some true:=by rfl) (hd:putA env o.dst (.v undef)=env':=by first | exact putN rfl | exact putS rfl (by simp only [List.set]; rfl)):W (.inRegion ops (q::rest)::k) env:=fun ts hE=>by
 have hP:=put_rel (a:=⟨ts,[]⟩) hE (RelV.v (φ:=φ0) (n:=0) undef) o.dst
 rw [hd] at hP
 refine hT _ _ rfl rfl (fun w=>?_) (h _ hP)
 have e:(#[]:Array Operand).map (⟨ts,de⟩:Act).eval=#[]:=by simp
 rw [fr_at,stepG_defer (b:=bf kdf f) (a:=⟨ts,de⟩) ho (wantA_ok (ts:=ts) hE hw) hkd hop,e,putT_at]
 rfl
def CallQ (P:Program) (T:Goroutine->Prop) (g:FuncId) (vs:List Value) (R:Value->(Goroutine->Prop)->Prop):Prop :=
 ∀ (c:Frame) (cs:List Frame),(∀ T' v,R v T'->T' (G (c.finish v) cs))->T (G (Frame.enter P g vs.toArray .normal) (c::cs))
theorem callQ_in (n:Nat) {g:FuncId} {fn:Func} {c:Code} {vs:List Value} {R:Value->(Goroutine->Prop)->Prop} (hf:P.funcs[g]? =some fn)
  (h:∀ (c0:Frame) (cs:List Frame),(∀ T' v,R v T'->T' (G (c0.finish v) cs))->TQ (fun _=>⟨0,0,0⟩) P T .normal g (c0::cs) [] [.code c] (vs.map .v++List.replicate (n - (vs.map AV.v).length) .any)) (hb:fn.body=some c:=by rfl) (hn:fn.ntmps=n:=by rfl):CallQ P T g vs R:=by
 subst hn
 intro c0 cs hfin
 rw [fr_enter vs.toArray hf hb]
 exact h c0 cs hfin _ (relL_undef (relL_v _ _ vs) _)
theorem TQ.call (hT:ShQ P main T) (hkd:kdf≠.early) {g:FuncId} {ars:Array Operand} {at_:Array TypeId} {vs:List Value} {R:Value->(Goroutine->Prop)->Prop} {env2:Value->List AV} (ho:ops[q]? =some o) (hop:o.op=.call { callee:=.value (.func g),args:=ars,argTypes:=at_ }) (hargs:ars.toList.map (opnd gN env)=vs.map .v) (hc:CallQ P T g vs R)
  (h:∀ v T',R v T'->TQ φ0 P T' kdf f cs de (.inRegion ops rest::k) (env2 v)) (hw:wantA ops env o=some true:=by rfl) (hg:callable P g=true:=by exact Cal.h) (he:∀ v,putA env o.dst (.v v)=env2 v:=by exact fun _=>putS rfl (by simp only [List.set]; rfl)):W (.inRegion ops (q::rest)::k) env:=fun ts hE=>by
 have hfin:=fun v=>fr_finish kdf f none ts de ops q rest k v
 simp only [ho,Option.bind_some] at hfin
 refine hT _ (G (Frame.enter P g vs.toArray .normal) (fr kdf f none ts de (.inRegion ops (q::rest)::k)::cs)) rfl rfl (fun w=>?_) (hc _ cs fun T' v hr=>?_)
 ·have hv:=vals_eq (relG_none φ0 0) hE hargs
  have hcf:pureS P (callFunc g vs.toArray)=some (.enter g vs.toArray):=by
   unfold callable at hg
   split at hg
   ·rename_i fn' ef
    simp only [Bool.and_eq_true,Bool.not_eq_true'] at hg
    show pureS P (match P.funcs[g]? with | none=>_ | some fn=>_)=_
    rw [ef]
    simp only [hg.1,Bool.false_eq_true,if_false]
    have hb:fn'.body.isNone=false:=by
     cases e':fn'.body with
     | none=>rw [e'] at hg; simp at hg
     | some _=>rfl
    simp only [hb,Bool.false_eq_true,if_false]
    rfl
   ·cases hg
  have hp:pureS P (execOp (evT ts) o)=some (.enter g vs.toArray):=by
   unfold execOp
   rw [hop]
   dsimp only
   show pureS P (Deferred.ofValue (.func (.func g) #[] #[]) (ars.map (evT ts)) >>= fun d=>invoke d.target d.args)=_
   rw [hv]
   show pureS P (callFunc g ((#[]++vs.toArray)++#[]))=_
   rw [Array.empty_append,Array.append_empty]
   exact hcf
  obtain ⟨e1,e2⟩:=pureS_run _ hp w
  rw [sf_oper hkd ho (wantA_ok hE hw) (by rw [hop]; rfl)]
  simp only [stepG.apply,Sem.runT_eq,e1,e2]
  simp [fr,GStep.after,hkd,seen_none]
  rfl
 ·rw [hfin]
  have hP:=put_rel (a:=⟨ts,[]⟩) hE (RelV.v (φ:=φ0) (n:=0) v) o.dst
  rw [he] at hP
  exact h v T' hr _ hP
theorem TQ.ret (hT:ShQ P main T) {fn:Func} {c0:Frame} {r:Value} (hf:P.funcs[f]? =some fn) (hres:∀ ts,RelL φ0 0 env ts->pureS P (results fn ts)=some r) (hfin:T (G (c0.finish r) cs)):TQ φ0 P T .normal f (c0::cs) [] (.code .ret::k) env:=fun ts hE=>by
 refine hT _ _ rfl rfl (fun _=>sf_ret) (hT _ _ rfl rfl (fun w=>?_) hfin)
 obtain ⟨e1,e2⟩:=pureS_run _ (hres ts hE) w
 exact stepG_leave (b:=bf .normal f) (a:=⟨ts,[]⟩) rfl rfl hf e1 e2
theorem TQ.ret0 (hT:ShQ P main T) {fn:Func} {c0:Frame} {r:Value} (hf:P.funcs[f]? =some fn) (hres:∀ ts,RelL φ0 0 env ts->pureS P (results fn ts)=some r) (hfin:T (G (c0.finish r) cs)):TQ φ0 P T .normal f (c0::cs) [] [] env:=fun ts hE=>by
 refine hT _ _ rfl rfl (fun _=>sf_end) (hT _ _ rfl rfl (fun w=>?_) hfin)
 obtain ⟨e1,e2⟩:=pureS_run _ (hres ts hE) w
 exact stepG_leave (b:=bf .normal f) (a:=⟨ts,[]⟩) rfl rfl hf e1 e2
end
end Go.Vel
namespace Go.Vel
open Go Go.Conc
open Go.ConcN (sumTo upd upd_ne upd_same)
open Go.ConcM (OsLater MuAt muA msA)
open Go.ConcR (KK wgBlock WgAt stA smA mk rd wr)
open Mx (TT Th Mn S4 auto Mv4 ok4 bl4 kd dl MPc Pc okW okM Mv nx4 cnt)
section
variable {P:Program} {y:Sy P} {Ch:Nat->Goroutine->Hp->Prop} {k i:Nat} {T T':TT} {x:Nat->Bool}
def Sy.Sq2 (y:Sy P) (Ch:Nat->Goroutine->Hp->Prop) (k i:Nat) (T:TT) (x:Nat->Bool) (g:Goroutine):Prop:=Seg P false true (LiveS y.A y.sh) (y.At false Ch k i T x) g (fun _=>none)
def Tq (P:Program) (d:Nat) (g:Goroutine):Prop:=∃ n,QuitsD P n d g
theorem shq_q (d:Nat):ShQ P false (Tq P d):=fun g g' hr hr' h ⟨n,hq⟩=>⟨n+1,.ctl hr h hq⟩
theorem shq_s (y:Sy P) {Ch:Nat->Goroutine->Hp->Prop} {k i:Nat} {T:TT} {x:Nat->Bool}:ShQ P false (y.Sq2 Ch k i T x):=fun g g' hr hr' h hq=>by
 refine .step hr (fun w hf hl=>⟨g',w,#[],h w,stepH_self hf (fun e he=>by simp at he),hr',fun _=>⟨rfl,rfl⟩⟩) fun w g2 w' es hf hl he=>?_
 have:=(h w).symm.trans he
 cases this
 rw [next_self hf]
 exact hq
variable {φ0:Nat->Loc3} {kdf:CallKind} {f:FuncId} {cs:List Frame} {de:List Deferred} {kk:List Item} {env env':List AV} {ops:Array Oper} {q:Nat} {rest:List Nat} {o:Oper}
local notation "W" => fun T=>TQ φ0 P T kdf f cs de
theorem TQ.book (hk:kd T=.book) (hb:∀ s,¬ bl4 T s) (hwk:y.A.wk T->∀ ts,mayWake P (G (fr kdf f none ts de (.inRegion ops (q::rest)::kk)) cs)=true)
  (h:∀ (w:World) (s:S4) (ts:Array Value),RelL φ0 0 env ts->y.sh w s->ok4 T s->∃ T' s' v w' es,Mv4 y.n T s T' s'/\stepG P false (G (fr kdf f none ts de (.inRegion ops (q::rest)::kk)) cs) w=.go (G (fr kdf f none (putT ts o.dst v) de (.inRegion ops rest::kk)) cs) w' es/\Eff y.S2 w w'/\y.sh w' s'/\EvB false y.S2 (dl T) (dl T') es /\
   ((kd T'=.quit/\W (Tq P (dl T')) (.inRegion ops rest::kk) (putA env o.dst (.v v)))\/(kd T'≠.quit/\y.A.aft T'=true/\∀ k',k'<k->W (y.Sq2 Ch k' i T' x) (.inRegion ops rest::kk) (putA env o.dst (.v v))))) :
  W (y.Sq2 Ch k i T x) (.inRegion ops (q::rest)::kk) env:=by
 intro ts hE
 refine .stop ?_
 cases k with
 | zero=>trivial
 | succ k' =>
  refine ⟨rfl,rfl,fun hw=>hwk hw ts,?_⟩
  have hk0:y.A.kd T=.book:=hk
  rw [hk0]
  intro w s hf hsh hok
  refine ⟨fun hb'=>absurd hb' (hb s),fun _=>?_⟩
  obtain ⟨T',s',v,w',es,m1,m2,m3,m4,m5,m6⟩:=h w s ts hE hsh hok
  have hP:=put_rel (a:=⟨ts,[]⟩) hE (RelV.v (φ:=φ0) (n:=0) v) o.dst
  refine ⟨T',s',_,w',es,m1,m2,m3,m4,m5,?_⟩
  rcases m6 with ⟨a,b⟩ | ⟨a,b,c⟩
  ·exact .inl ⟨a,b _ hP⟩
  ·refine .inr ⟨a,rfl,?_⟩
   have hb':y.A.aft T'=true:=b
   rw [hb']
   exact c k' (Nat.lt_succ_self _) _ hP
theorem TQ.sMark {g:FuncId} {as0:Array Operand} {ats:Array TypeId} {e:Array Value->Sem Value} (hkd:kdf≠.early) (T':TT) (m:Mark) (hm:∀ g,m≠.extern g) [hx:Ext P g e] (ho:ops[q]? =some o) (hop:o.op=.call { callee:=.value (.func g),args:=as0,argTypes:=ats })
  (hmv:∀ s,ok4 T s->Mv4 y.n T s T' s) (hev:EvB false y.S2 (dl T) (dl T') #[mk m]) (hT':y.A.aft T'=true) (h:∀ k',k'<k->W (y.Sq2 Ch k' i T' x) (.inRegion ops rest::kk) env')
  (hw:wantA ops env o=some true:=by rfl) (he:e=(fun _=>do mark m; Sem.pure Extern.Race.none_):=by rfl) (hk:kd T=.book:=by rfl) (hk':kd T'≠.quit:=by exact fun h=>by cases h) (hb:∀ s,¬ bl4 T s:=by exact fun _ h=>by cases h.1) (hwk:¬ y.A.wk T:=by exact fun h=>by cases h <;> rename_i h <;> cases h) (hd:putA env o.dst (.v (.tuple #[]))=env':=by exact putS rfl (by simp only [List.set]; rfl)) :
  W (y.Sq2 Ch k i T x) (.inRegion ops (q::rest)::kk) env:=by
 refine TQ.book (o:=o) hk hb (fun h=>absurd h hwk) fun w s ts hE hsh hok=>⟨T',s,.tuple #[],w,#[mk m],hmv s hok,?_,eff_self w,hsh,hev,.inr ⟨hk',hT',fun k' hk''=>by rw [hd]; exact h k' hk''⟩⟩
 obtain ⟨fn,e1,e2,e3,e4,e5⟩:=hx.h
 subst he
 rw [fr_at,stepG_mark0 (b:=bf kdf f) (a:=⟨ts,de⟩) m hm ho (wantA_ok (ts:=ts) hE hw) hkd hop e1 e2 e3 e4 e5,putT_at]; rfl
theorem TQ.gAdd {g:FuncId} {ca cb:Operand} {ats:Array TypeId} {e:Array Value->Sem Value} (hkd:kdf≠.early) (d:Int) [hx:Ext P g e] (ho:ops[q]? =some o) (hop:o.op=.call { callee:=.value (.func g),args:=#[ca,cb],argTypes:=ats })
  (h1:opndO gN env ca=some (.v (.pointer (some (stA y.Wg))))) (h2:opndO gN env cb=some (.v (.int .u64 d))) (hnew:∀ s:S4,∀ v,s.v=v+1->s.v<64->s.wt<=1->IntKind.u64.wrap (gval s+d)=gval { s with v:=v })
  (hl:∀ k',k'<k->W (y.Sq2 Ch k' i (.w { pc:=.d2 }) x) (.inRegion ops rest::kk) (putA env o.dst (.v (.int .u64 1))))
  (hq:∀ v wt:Nat,v<64->wt<=1->¬ (v=0/\wt=1)->W (Tq P 1) (.inRegion ops rest::kk) (putA env o.dst (.v (.int .u64 ((v:Int)*KK+wt)))))
  (hw:wantA ops env o=some true:=by rfl) (he:e=Extern.Atomic.update (Op.intArith .add) .u64 true:=by rfl) :
  W (y.Sq2 Ch k i (.w { pc:=.d1 }) x) (.inRegion ops (q::rest)::kk) env:=by
 refine TQ.book (o:=o) rfl (fun _ h=>by cases h.1) (fun h=>by cases h <;> rename_i h <;> cases h) fun w s ts hE hsh hok=>?_
 obtain ⟨fn,e1,e2,e3,e4,e5⟩:=hx.h
 subst he
 obtain ⟨_,_,_,_,q5,q6,q7,q8⟩:=hok
 obtain ⟨v,hv⟩:∃ v,s.v=v+1:=⟨s.v - 1,by have:1<=s.v:=q7; omega⟩
 have hn:=hnew s v hv q5 q6
 have hst:stepG P false (G (fr kdf f none ts de (.inRegion ops (q::rest)::kk)) cs) w=.go (G (fr kdf f none (putT ts o.dst (.int .u64 (gval { s with v:=v }))) de (.inRegion ops rest::kk)) cs) (w.setCell (stA y.Wg) (.int .u64 (gval { s with v:=v }))) #[⟨.cell (stA y.Wg),false,true⟩,⟨.cell (stA y.Wg),true,true⟩]:=by
  rw [fr_at,stepG_add_atomic (b:=bf kdf f) (a:=⟨ts,de⟩) ho (wantA_ok (ts:=ts) hE hw) hkd hop e1 e2 e3 e4 .u64 e5 (ad:=stA y.Wg) (v:=gval s) (d:=d) (p_ev hE h1) (p_ev hE h2) hsh.2.cellSt (hsh.2.thaw 0),putT_at,hn]; rfl
 have hsh':y.sh (w.setCell (stA y.Wg) (.int .u64 (gval { s with v:=v }))) { s with v:=v }:=⟨mu_set hsh.1 (wg_ne (stA y.Wg) rfl) _,hsh.2.setSt _⟩
 by_cases hz:v=0/\s.wt=1
 ·obtain ⟨rfl,hw1⟩:=hz
  have hg:gval { s with v:=0 }=1:=by unfold gval; dsimp only; rw [hw1]; simp
  refine ⟨.w { pc:=.d2 },{ s with v:=0 },_,_,_,.d1a rfl oQ hw1,hst,eff_set (a:=stA y.Wg) (.inr rfl) _,hsh',evb_rw Nat.zero_lt_one (a:=stA y.Wg) (.inr rfl),.inr ⟨fun h=>(by cases h),rfl,fun k' hk'=>?_⟩⟩
  rw [hg]; exact hl k' hk'
 ·refine ⟨.w { pc:=.quit },{ s with v:=v },_,_,_,.d1b rfl hv hz,hst,eff_set (a:=stA y.Wg) (.inr rfl) _,hsh',evb_rw Nat.zero_lt_one (a:=stA y.Wg) (.inr rfl),.inl ⟨rfl,hq v s.wt oQ q6 hz⟩⟩
theorem TQ.gLoad {g:FuncId} {ca:Operand} {ats:Array TypeId} {e:Array Value->Sem Value} (hkd:kdf≠.early) [hx:Ext P g e] (ho:ops[q]? =some o) (hop:o.op=.call { callee:=.value (.func g),args:=#[ca],argTypes:=ats })
  (h1:opndO gN env ca=some (.v (.pointer (some (stA y.Wg))))) (hl:∀ k',k'<k->W (y.Sq2 Ch k' i (.w { pc:=.d3 }) x) (.inRegion ops rest::kk) (putA env o.dst (.v (.int .u64 1))))
  (hw:wantA ops env o=some true:=by rfl) (he:e=Extern.Atomic.loadT (.int .u64):=by rfl) :
  W (y.Sq2 Ch k i (.w { pc:=.d2 }) x) (.inRegion ops (q::rest)::kk) env:=by
 refine TQ.book (o:=o) rfl (fun _ h=>by cases h.1) (fun h=>by cases h <;> rename_i h <;> cases h) fun w s ts hE hsh hok=>?_
 obtain ⟨fn,e1,e2,e3,e4,e5⟩:=hx.h
 subst he
 obtain ⟨_,_,_,_,_,_,q7,q8,q9⟩:=hok
 have hg:gval s=1:=by unfold gval; rw [q7,q8]; simp
 refine ⟨.w { pc:=.d3 },s,.int .u64 1,w,_,.d2 rfl,?_,eff_self w,hsh,evb_r Nat.zero_lt_one (a:=stA y.Wg) (.inr rfl),.inr ⟨fun h=>(by cases h),rfl,hl⟩⟩
 rw [fr_at,stepG_load_atomic (b:=bf kdf f) (a:=⟨ts,de⟩) ho (wantA_ok (ts:=ts) hE hw) hkd hop e1 e2 e3 e4 .u64 e5 (ad:=stA y.Wg) (v:=gval s) (p_ev hE h1) hsh.2.cellSt,putT_at,hg]; rfl
theorem TQ.gStore {g:FuncId} {ca cb:Operand} {ats:Array TypeId} {e:Array Value->Sem Value} (hkd:kdf≠.early) [hx:Ext P g e] (ho:ops[q]? =some o) (hop:o.op=.call { callee:=.value (.func g),args:=#[ca,cb],argTypes:=ats })
  (h1:opndO gN env ca=some (.v (.pointer (some (stA y.Wg))))) (h2:opndO gN env cb=some (.v (.int .u64 0))) (hl:∀ k',k'<k->W (y.Sq2 Ch k' i (.w { pc:=.d4 }) x) (.inRegion ops rest::kk) env')
  (hw:wantA ops env o=some true:=by rfl) (he:e=Extern.Atomic.storeT:=by rfl) (hd:putA env o.dst (.v (.tuple #[]))=env':=by exact putS rfl (by simp only [List.set]; rfl)) :
  W (y.Sq2 Ch k i (.w { pc:=.d3 }) x) (.inRegion ops (q::rest)::kk) env:=by
 refine TQ.book (o:=o) rfl (fun _ h=>by cases h.1) (fun h=>by cases h <;> rename_i h <;> cases h) fun w s ts hE hsh hok=>?_
 obtain ⟨fn,e1,e2,e3,e4,e5⟩:=hx.h
 subst he
 obtain ⟨_,_,_,_,_,_,q7,q8,q9⟩:=hok
 have hg:gval { s with wt:=0 }=0:=by unfold gval; dsimp only; rw [q7]; simp
 refine ⟨.w { pc:=.d4 },{ s with wt:=0 },.tuple #[],w.setCell (stA y.Wg) (.int .u64 0),#[⟨.cell (stA y.Wg),true,true⟩],.d3 rfl,?_,eff_set (a:=stA y.Wg) (.inr rfl) (.int .u64 0),⟨mu_set hsh.1 (wg_ne (stA y.Wg) rfl) _,?_⟩,?_,.inr ⟨fun h=>(by cases h),rfl,fun k' hk'=>by rw [hd]; exact hl k' hk'⟩⟩
 ·rw [fr_at,stepG_store_atomic (b:=bf kdf f) (a:=⟨ts,de⟩) ho (wantA_ok (ts:=ts) hE hw) hkd hop e1 e2 e3 e4 e5 (ad:=stA y.Wg) (k:=.u64) (v:=0) (p_ev hE h1) (p_ev hE h2) hsh.2.cellSt (hsh.2.thaw 0),putT_at]; rfl
 ·have:=hsh.2.setSt (0:Int)
  rw [<- hg] at this ⊢
  exact this
 ·exact evb_tch Nat.zero_lt_one fun e he=>by simp at he; subst he; exact tch_cell (a:=stA y.Wg) (.inr rfl) _
theorem TQ.gRel {g:FuncId} {as0:Array Operand} {ats:Array TypeId} {e:Array Value->Sem Value} (hkd:kdf≠.early) [hx:Ext P g e] (ho:ops[q]? =some o) (hop:o.op=.call { callee:=.value (.func g),args:=as0,argTypes:=ats })
  (h1:∀ c,as0[0]? =some c->opndO gN env c=some (.v (.pointer (some (smA y.Wg))))) (h0:as0[0]?.isSome=true) (hq:W (Tq P 1) (.inRegion ops rest::kk) env')
  (hw:wantA ops env o=some true:=by rfl) (he:e=Extern.Sync.semrelease:=by rfl) (hd:putA env o.dst (.v (.tuple #[]))=env':=by exact putS rfl (by simp only [List.set]; rfl)) :
  W (y.Sq2 Ch k i (.w { pc:=.d4 }) x) (.inRegion ops (q::rest)::kk) env:=by
 obtain ⟨fn,e1,e2,e3,e4,e5⟩:=hx.h
 refine TQ.book (o:=o) rfl (fun _ h=>by cases h.1) (fun _ ts=>Go.ConcR.Gen.mayWake_entry (b:=bf kdf f) (a:=⟨ts,de⟩) ho hop e1 e3) fun w s ts hE hsh hok=>?_
 subst he
 obtain ⟨_,_,_,_,_,_,q7,q8,q9⟩:=hok
 obtain ⟨c,hc⟩:=Option.isSome_iff_exists.1 h0
 have hx0:(as0.map (⟨ts,de⟩:Act).eval)[0]? =some (.pointer (some (smA y.Wg))):=by
  rw [Array.getElem?_map,hc]
  exact congrArg some (p_ev hE (h1 c hc))
 refine ⟨.w { pc:=.quit },{ s with ws:=s.ws+1 },.tuple #[],_,_,.d4 rfl,?_,eff_set (a:=smA y.Wg) (.inr rfl) (.int .u32 1),⟨mu_set hsh.1 (wg_ne (smA y.Wg) rfl) _,?_⟩,evb_sem Nat.zero_lt_one (a:=smA y.Wg) (.inr rfl),.inl ⟨rfl,by rw [hd]; exact hq⟩⟩
 ·rw [fr_at,stepG_semrelease (b:=bf kdf f) (a:=⟨ts,de⟩) ho (wantA_ok (ts:=ts) hE hw) hkd hop e1 e2 e3 e4 e5 hx0 hsh.2.cellSm (hsh.2.thaw 1),putT_at,q9]; rfl
 ·have:=hsh.2.setSm (1:Int)
  rw [q9]
  exact this
theorem TQ.retQ {g:FuncId} {e:Array Value->Sem Value} {fn:Func} {c0:Frame} {r:Value} [hx:Ext P g e] (hf:P.funcs[f]? =some fn) (hres:∀ ts,RelL φ0 0 env ts->pureS P (results fn ts)=some r) (hfin:Tq P 0 (G (c0.finish r) cs)) (he:e=(fun _=>do mark .enable; Sem.pure Extern.Race.none_):=by rfl) :
  TQ φ0 P (Tq P 1) .normal f (c0::cs) [dcall g #[]] (.code .ret::kk) env:=by
 intro ts hE
 obtain ⟨fn',e1,e2,e3,e4,e5⟩:=hx.h
 subst he
 obtain ⟨n,hn⟩:=hfin
 refine shq_q 1 _ (G { fr .normal f none ts [dcall g #[]] (.code .ret::kk) with mode:=.returning } (c0::cs)) rfl rfl (fun _=>sf_ret) ?_
 refine ⟨n+1+1,QuitsD.unwind_mark (b:=bf .normal f) (a:=⟨ts,[dcall g #[]]⟩) (ds:=[]) .enable rfl sQ rfl e1 e2 e3 e4 e5 ?_⟩
 rw [show deafBehind 1 #[⟨.mark .enable,false,true⟩]=0 from rfl]
 refine .ctl rfl (fun w=>?_) hn
 obtain ⟨r1,r2⟩:=pureS_run _ (hres ts hE) w
 exact stepG_leave (b:=bf .normal f) (a:=⟨ts,[]⟩) rfl rfl hf r1 r2
theorem TQ.retQ0 {g:FuncId} {e:Array Value->Sem Value} {fn:Func} {c0:Frame} {r:Value} [hx:Ext P g e] (hf:P.funcs[f]? =some fn) (hres:∀ ts,RelL φ0 0 env ts->pureS P (results fn ts)=some r) (hfin:Tq P 0 (G (c0.finish r) cs)) (he:e=(fun _=>do mark .enable; Sem.pure Extern.Race.none_):=by rfl) :
  TQ φ0 P (Tq P 1) .normal f (c0::cs) [dcall g #[]] [] env:=by
 intro ts hE
 obtain ⟨fn',e1,e2,e3,e4,e5⟩:=hx.h
 subst he
 obtain ⟨n,hn⟩:=hfin
 refine shq_q 1 _ (G { fr .normal f none ts [dcall g #[]] [] with mode:=.returning } (c0::cs)) rfl rfl (fun _=>sf_end) ?_
 refine ⟨n+1+1,QuitsD.unwind_mark (b:=bf .normal f) (a:=⟨ts,[dcall g #[]]⟩) (ds:=[]) .enable rfl sQ rfl e1 e2 e3 e4 e5 ?_⟩
 rw [show deafBehind 1 #[⟨.mark .enable,false,true⟩]=0 from rfl]
 refine .ctl rfl (fun w=>?_) hn
 obtain ⟨r1,r2⟩:=pureS_run _ (hres ts hE) w
 exact stepG_leave (b:=bf .normal f) (a:=⟨ts,[]⟩) rfl rfl hf r1 r2
theorem TK.relW {gm:Nat->Option Nat} {hkd:kdf≠.early} {A0:List AObj} {K0:List Nat} {K:KV} {g:FuncId} {c:Operand} {ats:Array TypeId} {e:Array Value->Sem Value} (hkd':kdf≠.early) [hx:Ext P g e] (ho:ops[q]? =some o) (hop:o.op=.call { callee:=.value (.func g),args:=#[c],argTypes:=ats }) (hc:opndO gm env c=some (.v (.pointer (some (stA y.Wg)))))
  (h:∀ k',k'<k->TQ φ0 P (y.Sq2 Ch k' i (.w { pc:=.wk }) x) kdf f cs de (.inRegion ops rest::kk) env')
  (hw:wantA ops env o=some true:=by rfl) (he:e=Extern.Race.marked .releaseMerge:=by rfl) (hd:putA (env.map plainV) o.dst (.v (.tuple #[]))=env':=by exact putS rfl (by simp only [List.map,plainV,List.set]; rfl)) :
  TK (YT y false Ch k i (.w { pc:=.wr }) x gm φ0 kdf hkd f cs de A0 K0) [] (.inRegion ops (q::rest)::kk) env K:=by
 intro A hA φ H ts h1 h2 h3 h4 h5 h6
 show y.Sf false Ch k i (.w { pc:=.wr }) x _ _
 refine .stop ?_
 cases k with
 | zero=>trivial
 | succ k' =>
  obtain ⟨fn,e1,e2,e3,e4,e5⟩:=hx.h
  subst he
  refine ⟨rfl,rfl,fun hw=>(by cases hw <;> rename_i hw <;> cases hw),?_⟩
  have hk':y.A.kd (.w { pc:=.wr })=.relW:=rfl
  rw [hk']
  intro w s hf hsh
  refine ⟨G (fr kdf f none (putT ts o.dst (.tuple #[])) de (.inRegion ops rest::kk)) cs,rfl,?_,?_⟩
  ·show stepG P false (G (fr kdf f none ts de _) cs) w=_
   rw [fr_at,stepG_markAt (b:=bf kdf f) (a:=⟨ts,de⟩) .releaseMerge sQ ho (wantA_ok (ts:=ts) h6 hw) hkd' hop e1 e2 e3 e4 e5 (ad:=stA y.Wg) (by simp [ev_v (dd:=de) h3 h6 hc]),putT_at]
   rfl
  ·have hP:=put_rel (a:=⟨ts,[]⟩) (plain_rel (φ':=φ0) h6) (RelV.v (φ:=φ0) (n:=0) (.tuple #[])) o.dst
   rw [hd] at hP
   exact h k' (Nat.lt_succ_self _) _ hP
end
end Go.Vel
namespace Go.Vel
open Go Go.Conc Go.Proofs
open Go.ConcN (sumTo upd upd_ne upd_same)
open Go.ConcM (OsLater MuAt muA msA)
open Go.ConcR (KK wgBlock WgAt stA smA mk rd wr)
open Mx (TT Th Mn S4 auto Mv4 ok4 bl4 kd dl MPc Pc okW okM Mv nx4 cnt newOf)
instance:Ext Tryz.prog 210 (Extern.Atomic.storeT):=⟨_,Tryz.func210,by kernel_rfl,by kernel_rfl,by kernel_rfl,by kernel_rfl⟩
instance:Ext Tryz.prog 177 (Extern.Sync.semrelease):=⟨_,Tryz.func177,by kernel_rfl,by kernel_rfl,by kernel_rfl,by kernel_rfl⟩
theorem gval_n (v wt:Nat):(v:Int)*KK+wt=((v*4294967296+wt:Nat):Int):=by unfold KK; simp
theorem gsub_val {s:S4} {v:Nat} (h1:s.v=v+1) (h2:s.v<64) (h3:s.wt<=1):IntKind.u64.wrap (gval s+18446744069414584320)=gval { s with v:=v }:=by
 have e:gval s=(((v+1)*4294967296+s.wt:Nat):Int):=by unfold gval; rw [h1]; exact gval_n _ _
 have e2:gval { s with v:=v }=((v*4294967296+s.wt:Nat):Int):=gval_n _ _
 rw [e,e2]
 unfold IntKind.wrap
 simp only [show IntKind.u64.bits=64 from rfl,show IntKind.u64.signed=false from rfl,Bool.false_and]
 simp
 omega
theorem bU3:∀ a:Nat,a<64->∀ b:Nat,b<2->bits .and .u64 ((a*4294967296+b:Nat):Int) 2147483648=0:=by decide +kernel
theorem bU4:∀ a:Nat,a<64->∀ b:Nat,b<2->bits .and .u64 ((a*4294967296+b:Nat):Int) 2147483647=((b:Nat):Int):=by decide +kernel
theorem wu32 {n:Int} (h:0<=n/\n<4294967296):IntKind.u32.wrap n=n:=by
 unfold IntKind.wrap
 simp only [show IntKind.u32.bits=32 from rfl,show IntKind.u32.signed=false from rfl,Bool.false_and]
 simp
 omega
theorem res_noneQ {fn:Func} {env:List AV} {φ:Nat->Loc3} (hr:fn.results=#[]) (ts:Array Value) (_:RelL φ 0 env ts):pureS Tryz.prog (results fn ts)=some (.tuple #[]):=by
 unfold results
 rw [hr,Array.mapM_eq_mapM_toList]
 rfl
theorem res_tmpQ {fn:Func} {env:List AV} {φ:Nat->Loc3} {t:Tmp} {v:Value} (hr:fn.results=#[.tmp t]) (he:env[t]? =some (.v v):=by rfl) (ts:Array Value) (h:RelL φ 0 env ts):pureS Tryz.prog (results fn ts)=some v:=by
 have e:results fn ts=pure (ts.getD t undef):=by
  unfold results
  rw [hr,Array.mapM_eq_mapM_toList]
  rfl
 obtain ⟨y,hy,hr⟩:=h.get he
 have:ts.getD t undef=v:=by
  rw [Array.getD_eq_getD_getElem?,hy]
  exact inv_v hr
 rw [e,this]
 rfl
instance:Cal Tryz.prog 151:=⟨by kernel_rfl⟩
instance:Cal Tryz.prog 175:=⟨by kernel_rfl⟩
end Go.Vel
namespace Go.Vel
open Go Go.Conc
open Go.ConcN (sumTo upd upd_ne upd_same)
open Go.ConcM (OsLater MuAt muA msA)
open Go.ConcR (KK wgBlock WgAt stA smA mk rd wr)
open Mx (TT Th Mn S4 auto Mv4 ok4 bl4 kd dl MPc Pc okW okM Mv nx4 cnt)
section
variable {P:Program} {gm:Nat->Option Nat}
variable {φ0:Nat->Loc3} {kdf:CallKind} {hkd:kdf≠.early} {f:FuncId} {cs:List Frame} {de:List Deferred} {A0:List AObj} {K0:List Nat} {kk:List Item} {env env':List AV} {K:KV} {ops:Array Oper} {q:Nat} {rest:List Nat} {o:Oper}
theorem TK.callZq {T:Goroutine->Hp->Prop} {hT:Shut P false T} {fo:Operand} {ars:Array Operand} {at_:Array TypeId} {g:FuncId} {vs:List Value} {env2:Value->List AV} (ho:ops[q]? =some o) (hop:o.op=.call { callee:=.value fo,args:=ars,argTypes:=at_ })
  (hf:opndO gm env fo=some (.fn g [] [])) (hargs:ars.toList.map (opnd gm env)=vs.map .v) (hc:CallZ P T g vs (fun T'=>T'=fun g _=>Tq P 0 g))
  (h:∀ v,TQ φ0 P (Tq P 0) kdf f cs de (.inRegion ops rest::kk) (env2 v)) (he:∀ v,putA (env.map plainV) o.dst (.v v)=env2 v:=by exact fun _=>putS rfl (by simp only [List.map,plainV,List.set]; rfl)) (hw:wantA ops env o=some true:=by rfl) (hg:callable P g=true:=by exact Cal.h) :
  TK (YU hT gm φ0 kdf hkd f cs de A0 K0) [] (.inRegion ops (q::rest)::kk) env K:=by
 intro A hA φ H ts h1 h2 h3 h4 h5 h6
 refine hT.opF hkd ho (wantA_ok h6 hw) (by rw [hop]; rfl) (wpS_fnCall (dd:=de) hop (fn_eval h3 h6 hf) hg ?_)
 rw [vals_eq h3 h6 hargs]
 refine hc H _ cs fun T' v H' hp'=>?_
 subst hp'
 have hfin:=fr_finish kdf f none ts (dsC φ []++de) ops q rest kk v
 simp only [ho,Option.bind_some] at hfin
 show Tq P 0 (G ((fr kdf f none ts (dsC φ []++de) (.inRegion ops (q::rest)::kk)).finish v) cs)
 rw [hfin]
 have hE:=put_rel (a:=⟨ts,[]⟩) (plain_rel (φ':=φ0) h6) (RelV.v (φ:=φ0) (n:=0) v) o.dst
 rw [he] at hE
 exact h v _ hE
theorem TQ.endD {fn:Func} {c0:Frame} (hf:P.funcs[f]? =some fn) (hr:fn.results=#[]) (hc:c0.mode=.returning) (hfin:Tq P 0 (G c0 cs)):TQ φ0 P (Tq P 0) .deferred f (c0::cs) [] [] env:=by
 intro ts hE
 obtain ⟨n,hn⟩:=hfin
 exact shq_q 0 _ (G { fr .deferred f none ts [] [] with mode:=.returning } (c0::cs)) rfl rfl (fun _=>sf_end) ⟨n+1,QuitsD.leaveD (b:=bf .deferred f) (a:=⟨ts,[]⟩) rfl rfl hf hr hc hn⟩
variable {y:Sy P} {Ch:Nat->Goroutine->Hp->Prop} {k i:Nat} {x:Nat->Bool}
theorem TK.bye {g:FuncId} {fn fd:Func} {c:Code} {vs:Array Value} (hf:P.funcs[f]? =some fn) (hr:fn.results=#[]) (hd:P.funcs[g]? =some fd) (hn:(fd.name == "runtime.NumGoroutine")=false) (hb:fd.body=some c)
  (h:∀ (c0:Frame) (cs:List Frame) (H:Hp),c0.mode=.returning->Tq P 0 (G c0 cs)->y.Sf false Ch k i (.w { pc:=.wr }) x (G (fr .deferred g none (vs++Array.replicate (fd.ntmps - vs.size) undef) [] [.code c]) (c0::cs)) H) :
  TK (YT y false Ch k i (.w { pc:=.wr }) x gm φ0 .deferred (fun h=>by cases h) f [bot P] [dcall g vs] A0 K0) [] [] env K:=by
 intro A hA φ H ts h1 h2 h3 h4 h5 h6
 refine (y.shutF false Ch k i _ x).ctlF rfl (fun _=>sf_end) rfl ?_
 refine (y.shutF false Ch k i _ x).ctlF rfl (fun w=>stepG_unwind_enter (b:=bf .deferred f) (a:=⟨ts,[dcall g vs]⟩) (ds:=[]) (todo:=[]) rfl hd hn hb) rfl ?_
 exact h _ _ H rfl ⟨3,quits_leave hf hr⟩
end
theorem pureS_pure' {α:Type} {P:Program} (a:α):pureS P (pure a)=some a:=rfl
def lend (Bs del:List Nat) (H:Hp):Hp:=fun b=>if del.elem b then none else if Bs.elem b then (H b).map fun x=>(false,x.2) else H b
theorem lend_sub {Bs del:List Nat} {H:Hp} {b:Nat} {rw':Bool} {o:Obj} (h:lend Bs del H b=some (rw',o)):∃ r,H b=some (r,o)/\(rw'=true->r=true):=by
 unfold lend at h
 split at h
 ·cases h
 ·split at h
  ·obtain ⟨x,hx,e⟩:=Option.map_eq_some_iff.1 h
   cases e
   exact ⟨x.1,hx,fun h=>by cases h⟩
  ·exact ⟨rw',h,id⟩
theorem lend_other {Bs del:List Nat} {H:Hp} {b:Nat} (h1:b∉Bs) (h2:b∉del):lend Bs del H b=H b:=by
 unfold lend
 rw [if_neg (by simpa using h2),if_neg (by simpa using h1)]
theorem lend_at {Bs del:List Nat} {H:Hp} {b:Nat} {r:Bool} {o:Obj} (h2:b∉del) (h:H b=some (r,o)):∃ r',lend Bs del H b=some (r',o):=by
 unfold lend
 rw [if_neg (by simpa using h2)]
 split
 ·exact ⟨false,by rw [h]; rfl⟩
 ·exact ⟨r,h⟩
theorem RelH.lend {φ:Nat->Loc3} {A:List AObj} {F H:Hp} (h:RelH φ A F H) (Bs del:List Nat) (hB:∀ (t:Nat) o,A[t]? =some o->o.live=true->sol (φ t) o->(φ t).blk∉del/\(o.excl=true->(φ t).blk∉Bs)) (hF:∀ b,b∈Bs\/b∈del->F b=none):RelH φ A F (Go.Vel.lend Bs del H):=by
 refine ⟨fun t o ht=>?_,h.apart,fun b x hx=>?_,h.frx⟩
 ·have ho:=h.obj t o ht
  cases o with
  | cells l e rw' =>
   intro hl
   obtain ⟨r,cur,fz,q1,q2,q3⟩:=ho hl
   obtain ⟨d1,d2⟩:=hB t _ ht rfl hl
   cases rw' with
   | false =>
    obtain ⟨r',hr'⟩:=lend_at (Bs:=Bs) d1 q1
    exact ⟨r',cur,fz,hr',(fun h=>by cases h),q3⟩
   | true=>exact ⟨r,cur,fz,(lend_other (d2 rfl) d1).trans q1,q2,q3⟩
  | row l e size =>
   obtain ⟨h0,h2,hh⟩:=ho
   refine ⟨h0,h2,fun hc=>?_⟩
   obtain ⟨cur,q1,q2⟩:=hh hc
   obtain ⟨d1,d2⟩:=hB t _ ht rfl hc
   exact ⟨cur,(lend_other (d2 rfl) d1).trans q1,q2⟩
  | raw o =>
   obtain ⟨d1,d2⟩:=hB t _ ht rfl trivial
   exact (lend_other (d2 rfl) d1).trans ho
  | loop f env ps x y st pj =>
   obtain ⟨ts,d,q1,q2⟩:=ho
   obtain ⟨d1,d2⟩:=hB t _ ht rfl trivial
   exact ⟨ts,d,(lend_other (d2 rfl) d1).trans q1,q2⟩
  | gone=>trivial
  | ro o =>
   obtain ⟨r,q1⟩:=ho
   obtain ⟨d1,_⟩:=hB t _ ht rfl trivial
   obtain ⟨r',hr'⟩:=lend_at (Bs:=Bs) d1 q1
   exact ⟨r',hr'⟩
 ·have hn:¬ (b∈Bs\/b∈del):=fun hm=>by rw [hF b hm] at hx; cases hx
  rw [lend_other (fun hm=>hn (.inl hm)) (fun hm=>hn (.inr hm))]
  exact h.fr b x hx
section
variable {P:Program} {gm:Nat->Option Nat} {y:Sy P} {k i:Nat} {T:TT} {x:Nat->Bool}
variable {φ0:Nat->Loc3} {kdf:CallKind} {hkd:kdf≠.early} {f:FuncId} {cs:List Frame} {de:List Deferred} {A0:List AObj} {K0:List Nat} {ds:List Nat} {kk:List Item} {env env':List AV} {K:KV} {ops:Array Oper} {q:Nat} {rest:List Nat} {o:Oper}
theorem TK.fork {fo:Operand} {at_:Array TypeId} {g:FuncId} {cp:List AV} {S:KV} {lo:Nat×Loc3} (hkf:kd T=.fork) (ho:ops[q]? =some o) (hop:o.op=.go { callee:=.value fo,args:=#[],argTypes:=at_ }) (hw:wantA ops env o=some true) (hf:opndO gm env fo=some (.fn g [] cp)) (hg:callable P g=true)
  (hS:∀ z∈S,z∈K/\∃ l e,l≠[]/\z.2=.cells l e false) (hSn:(keys S).Nodup) (hl1:lo.1<A0.length) (hl2:φ0 lo.1=lo.2) (hlS:lo.1∉keys S)
  (hchild:∀ k x φ A Hc vs,View ((lo.1,.gone)::S) A->(keys ((lo.1,AObj.gone)::S)).Nodup->lo.1<A.length->φ lo.1=lo.2->RelG gm φ A.length->RelH φ A nF Hc->RelL φ A.length cp vs->y.Sf false (fun _ _ _=>False) k (y.A.ix T) (y.A.st (y.A.ix T)) x (G (Frame.enter P g vs .deferred) [bot P]) Hc)
  (h:∀ k',k'<k->TK (YT y true y.Chd k' i (nx4 y.n T) x gm φ0 kdf hkd f cs de A0 K0) ds (.inRegion ops rest::kk) (putA env o.dst (.v undef)) K)
  (hwk:¬ y.A.wk T:=by exact fun h=>by cases h <;> rename_i h <;> cases h) :
  TK (YT y true y.Chd k i T x gm φ0 kdf hkd f cs de A0 K0) ds (.inRegion ops (q::rest)::kk) env K:=by
 intro A hA φ H ts h1 h2 h3 h4 h5 h6
 show y.Sf true y.Chd k i T x _ _
 refine .stop ?_
 cases k with
 | zero=>trivial
 | succ k' =>
 refine ⟨rfl,rfl,fun hw=>absurd hw hwk,?_⟩
 have hk':y.A.kd T=.fork:=hkf
 rw [hk']
 have hfo:=opnd_rel (a:=⟨ts,[]⟩) h3 h6 fo
 rw [opndO_eq hf] at hfo
 obtain ⟨xs,ys,ev,hr1,hr2⟩:=inv_fn hfo
 have hxs:xs=#[]:=Array.eq_empty_of_size_eq_zero (by have:=hr1.1; simpa using this.symm)
 subst hxs
 let Bs:List Nat:=S.map fun z=>(φ z.1).blk
 have hcaller:RelH φ A nF (lend Bs [] H):=by
  refine h5.lend Bs [] (fun t w ht hl hs=>⟨by simp,fun hx hm=>?_⟩) fun b hb=>rfl
  obtain ⟨z,hz,hm⟩:=List.mem_map.1 hm
  obtain ⟨hzK,l,e',hl0,hz2⟩:=hS z hz
  have haz:=hA.view z hzK
  rw [hz2] at haz
  by_cases htz:t=z.1
  ·subst htz; rw [ht] at haz; cases haz; cases hx
  ·exact h5.apart t z.1 w _ ht haz htz hx rfl hs hl0 hm.symm
 let Ac:List AObj:=(List.range A.length).map fun t=>if (S.map (·.1)).elem t then (A[t]?).getD .gone else .gone
 have hAcl:Ac.length=A.length:=by simp [Ac]
 have hAc:∀ (t:Nat) (w:AObj),Ac[t]? =some w->w.live=true->∃ z∈S,z.1=t/\z.2=w:=fun t w ht hl=>by
  have hlt:t<A.length:=by rw [<- hAcl]; exact (List.getElem?_eq_some_iff.1 ht).1
  simp only [Ac,List.getElem?_map,List.getElem?_range hlt,Option.map_some,Option.some.injEq] at ht
  split at ht
  ·rename_i hm
   simp only [List.elem_eq_mem,decide_eq_true_eq] at hm
   obtain ⟨z,hz,e⟩:=List.mem_map.1 hm
   have haz:=hA.view z (hS z hz).1
   rw [e] at haz
   rw [haz] at ht
   exact ⟨z,hz,e,ht⟩
  ·subst ht; cases hl
 let Hc:Hp:=fun b=>if Bs.elem b then (H b).map fun z=>(false,z.2) else none
 have hHc:∀ b r w,b∈Bs->H b=some (r,w)->Hc b=some (false,w):=fun b r w hb hz=>by
  simp only [Hc]
  rw [if_pos (by simpa using hb),hz]; rfl
 have hRc:RelH φ Ac nF Hc:=by
  have hne:∀ (t:Nat) (w:AObj),Ac[t]? =some w->w.excl=false:=fun t w ht=>by
   cases hl:w.live with
   | false=>cases w <;> first | rfl | cases hl
   | true =>
    obtain ⟨z,hz,_,hq⟩:=hAc t w ht hl
    obtain ⟨_,l,e',_,hz2⟩:=hS z hz
    rw [<- hq,hz2]; rfl
  refine ⟨fun t w ht=>?_,fun t t' w w' ht _ _ he=>absurd he (by rw [hne t w ht]; decide),(fun b z hz=>by cases hz),fun t w ht he=>absurd he (by rw [hne t w ht]; decide)⟩
  rw [hAcl]
  cases hl:w.live with
  | false=>cases w <;> first | trivial | cases hl
  | true =>
   obtain ⟨z,hz,rfl,rfl⟩:=hAc t w ht hl
   obtain ⟨hzK,l,e',hl0,hz2⟩:=hS z hz
   have haz:=hA.view z hzK
   rw [hz2] at haz ⊢
   intro _
   obtain ⟨r,cur,fz,p1,_,p3⟩:=h5.obj z.1 _ haz hl0
   exact ⟨false,cur,fz,hHc _ _ _ (List.mem_map_of_mem (f:=fun z:Nat×AObj=>(φ z.1).blk) hz) p1,(fun h=>by cases h),p3⟩
 have hlt:lo.1<A.length:=Nat.lt_of_lt_of_le hl1 hA.len
 have hVc:View ((lo.1,.gone)::S) Ac:=fun z hz=>by
  rcases List.mem_cons.1 hz with rfl | hz
  ·simp only [Ac,List.getElem?_map,List.getElem?_range hlt,Option.map_some]
   rw [if_neg (by
    simp only [List.elem_eq_mem,decide_eq_true_eq]
    exact hlS)]
  ·have haz:=hA.view z (hS z hz).1
   have hlz:z.1<A.length:=(List.getElem?_eq_some_iff.1 haz).1
   simp only [Ac,List.getElem?_map,List.getElem?_range hlz,Option.map_some]
   rw [if_pos (by simpa using ⟨z.2,hz⟩),haz]; rfl
 have hfin:=fr_finish kdf f none ts (dsC φ ds++de) ops q rest kk undef
 simp only [ho,Option.bind_some] at hfin
 refine ⟨G (fr kdf f none (putT ts o.dst undef) (dsC φ ds++de) (.inRegion ops rest::kk)) cs,born P { target:=.fn (.func g) ys,args:=#[] },lend Bs [] H,Hc,rfl,rfl,fun w hfit=>⟨#[],?_,fun e he=>by simp at he⟩,(fun b r w hb=>?_),(fun b r w hb=>?_),⟨fun b w hb=>?_,fun b w hb=>?_⟩,?_,?_⟩
 ·show stepG P true (G (fr kdf f none ts (dsC φ ds++de) (.inRegion ops (q::rest)::kk)) cs) w=_
  rw [sf_oper hkd ho (wantA_ok h6 hw) (by rw [hop]; rfl)]
  have hpure:pureS P (execOp (evT ts) o)=some (.spawn { target:=.fn (.func g) ys,args:=#[] }):=by
   unfold execOp
   rw [hop]
   dsimp only
   have ev':evT ts fo=.func (.func g) #[] ys:=ev
   refine pureS_bind (a:={ target:=.fn (.func g) ys,args:=#[] }) ?_ rfl
   show pureS P (Deferred.ofValue (evT ts fo) ((#[]:Array Operand).map (evT ts)))=_
   rw [ev']
   simp [Deferred.ofValue,pureS_pure']
  obtain ⟨r1,r2⟩:=pureS_run _ hpure w
  simp only [fr] at hfin
  simp [stepG.apply,Sem.runT_eq,r1,r2,fr,GStep.after,seen,hfin,born]
  rfl
 ·obtain ⟨r',e1,e2⟩:=lend_sub hb
  exact ⟨r',e1,e2⟩
 ·simp only [Hc] at hb
  split at hb
  ·obtain ⟨z,hz,e⟩:=Option.map_eq_some_iff.1 hb
   cases e
   exact ⟨z.1,hz,fun h=>by cases h⟩
  ·cases hb
 ·simp only [Hc]
  split
  ·rename_i hm
   exfalso
   unfold Go.Vel.lend at hb
   rw [if_neg sQ,if_pos hm] at hb
   obtain ⟨z,_,e⟩:=Option.map_eq_some_iff.1 hb
   cases e
  ·rfl
 ·exfalso
  simp only [Hc] at hb
  split at hb
  ·obtain ⟨z,_,e⟩:=Option.map_eq_some_iff.1 hb
   cases e
  ·cases hb
 ·intro k x
  have hch:=hchild k x φ Ac Hc ys hVc (by rw [keys_cons]; exact List.nodup_cons.2 ⟨hlS,hSn⟩) (by rw [hAcl]; exact hlt) ((h1 _ hl1).trans hl2) (by rw [hAcl]; exact h3) hRc (by rw [hAcl]; exact hr2)
  exact (y.shutF false _ k (y.A.ix T) _ x).ctlF rfl (fun w=>by have:=birth (main:=false) hg #[] ys w; rw [Array.empty_append] at this; exact this) rfl hch
 ·exact h k' (Nat.lt_succ_self _) A ⟨hA.view,hA.nd,hA.own,hA.kept,hA.len⟩ φ _ _ h1 h2 h3 h4 hcaller (put_rel (a:=⟨ts,[]⟩) h6 (.v undef) o.dst)
end
section
variable {P:Program} {gm:Nat->Option Nat}
def oneB (b:Nat) (x:Bool×Obj):Hp:=fun c=>if c=b then some x else none
theorem cells_v {φ:Nat->Loc3} {n:Nat} {loc:Loc3} {H:Hp} {vs:List Value} {e:TypeId} (h:RelO φ n loc H (.cells (vs.map .v) e true)) (hne:vs≠[]):loc.base=0/\H loc.blk=some (true,.cells vs.toArray e (0,0)):=by
 obtain ⟨rw',cur,q,h1,h2,h3⟩:=h (by simpa using hne)
 obtain ⟨⟨rfl,rfl⟩,hb,hl⟩:=h2 rfl
 refine ⟨hb,?_⟩
 have:cur=vs.toArray:=by
  refine Array.ext' ?_
  refine List.ext_getElem? fun j=>?_
  rw [List.length_map] at hl
  by_cases hj:j<vs.length
  ·obtain ⟨y,hy,hr⟩:=h3 j (.v vs[j]) (by simp [hj])
   rw [hb,Nat.zero_add] at hy
   have:=inv_v hr
   rw [Array.getElem?_toList,hy,this]
   simp [hj]
  ·rw [List.getElem?_eq_none (by rw [Array.length_toList]; omega),List.getElem?_eq_none (by simpa using hj)]
 rw [<- this]
 exact h1
theorem TK.into {Ψ:Goroutine->World->Prop} {Y:KX P gm (BT P Ψ)} {n:Nat} {lkr:Nat->Bool} {tM tW tO:TypeId} {jm jw jo d7 d8:Nat} {vs9:List Value} {R:KV} {kk:List Item} {env:List AV} (GI:Loc3->(Nat->Bool)->Hp->Prop) (hn:1<=n/\n<=31) (hro:Y.X.ro=none)
  (h7:env[d7]? =some (.ptr jm 0)) (h8:env[d8]? =some (.ptr jw 0)) (h78:d7≠d8) (h9:vs9≠[]) (hG0:∀ lo,lo.base=0->GI lo (fun _=>false) (oneB lo.blk (true,.cells vs9.toArray tO (0,0))))
  (h:∀ (y:Sy P) (φ0:Nat->Loc3) (A0:List AObj),y.n=n->y.lkr=lkr->y.Stop=BT P Ψ->y.GI=GI (φ0 jo)->(φ0 jo).base=0->jo<A0.length ->
   (∀ {ds k env K'},TK Y ds k env K'->TK (YU (shut_BT (P:=P) Ψ) gm φ0 Y.X.kd Y.X.hkd Y.X.f Y.X.cs Y.X.dd A0 (jm::jw::jo::keys R)) ds k env K') ->
   ∀ k,TK (YT y true y.Chd k 0 (.m { pc:=.a0,j:=0 }) (fun _=>false) gm φ0 Y.X.kd Y.X.hkd Y.X.f Y.X.cs Y.X.dd A0 (jm::jw::jo::keys R)) [] kk ((env.set d7 (.v (.pointer (some ⟨y.Mu,0,none⟩)))).set d8 (.v (.pointer (some ⟨y.Wg,0,none⟩)))) ((jo,.gone)::R)) :
  TK Y [] kk env ((jm,.cells ([.int .i32 0,.int .u32 0].map .v) tM true)::(jw,.cells ([.int .u64 0,.int .u32 0].map .v) tW true)::(jo,.cells (vs9.map .v) tO true)::R):=by
 intro A hA φ H ts h1 h2 h3 h4 h5 h6
 have hvm:=hA.view _ (List.mem_cons_self)
 have hvw:=hA.view _ (List.mem_cons_of_mem _ List.mem_cons_self)
 have hvo:=hA.view _ (List.mem_cons_of_mem _ (List.mem_cons_of_mem _ List.mem_cons_self))
 obtain ⟨bm,em⟩:=cells_v (h5.obj _ _ hvm) sQ
 obtain ⟨bw,ew⟩:=cells_v (h5.obj _ _ hvw) sQ
 obtain ⟨bo,eo⟩:=cells_v (h5.obj _ _ hvo) h9
 have hnd:=hA.nd
 rw [keys_cons,keys_cons,keys_cons,List.nodup_cons,List.nodup_cons,List.nodup_cons] at hnd
 obtain ⟨n1,n2,n3,n4⟩:=hnd
 have jmw:jm≠jw:=fun e=>n1 (by rw [e]; exact List.mem_cons_self)
 have jmo:jm≠jo:=fun e=>n1 (by rw [e]; exact List.mem_cons_of_mem _ List.mem_cons_self)
 have jwo:jw≠jo:=fun e=>n2 (by rw [e]; exact List.mem_cons_self)
 have jmR:jm∉keys R:=fun e=>n1 (List.mem_cons_of_mem _ (List.mem_cons_of_mem _ e))
 have jwR:jw∉keys R:=fun e=>n2 (List.mem_cons_of_mem _ e)
 have hne:(φ jm).blk≠(φ jw).blk:=h5.apart jm jw _ _ hvm hvw jmw rfl rfl (by simp [sol]) (by simp [sol])
 have hneo:(φ jm).blk≠(φ jo).blk:=h5.apart jm jo _ _ hvm hvo jmo rfl rfl (by simp [sol]) (by simpa [sol] using h9)
 have hnewo:(φ jw).blk≠(φ jo).blk:=h5.apart jw jo _ _ hvw hvo jwo rfl rfl (by simp [sol]) (by simpa [sol] using h9)
 let y:Sy P:={ n,lkr,tM,tW,Mu:=(φ jm).blk,Wg:=(φ jw).blk,hne,GI:=GI (φ jo),Stop:=BT P Ψ }
 let A':List AObj:=((A.set jm .gone).set jw .gone).set jo .gone
 have hAl:A'.length=A.length:=by simp [A']
 have hlt:jo<A.length:=(List.getElem?_eq_some_iff.1 hvo).1
 have hget:∀ t,t≠jm->t≠jw->t≠jo->A'[t]? =A[t]? :=fun t a b c=>by
  simp only [A']
  rw [List.getElem?_set_ne (Ne.symm c),List.getElem?_set_ne (Ne.symm b),List.getElem?_set_ne (Ne.symm a)]
 have hlive:∀ t (w:AObj),A'[t]? =some w->w.live=true->t≠jm/\t≠jw/\t≠jo:=fun t w ht hl=>by
  simp only [A',List.getElem?_set] at ht
  refine ⟨fun e=>?_,fun e=>?_,fun e=>?_⟩ <;> subst e
  ·rw [if_neg (Ne.symm jmo),if_neg (Ne.symm jmw)] at ht
   simp only [↓reduceIte] at ht
   split at ht <;> cases ht
   cases hl
  ·rw [if_neg (Ne.symm jwo)] at ht
   simp only [↓reduceIte] at ht
   split at ht <;> cases ht
   cases hl
  ·simp only [↓reduceIte] at ht
   split at ht <;> cases ht
   cases hl
 let H':Hp:=fun b=>if b=(φ jm).blk\/b=(φ jw).blk\/b=(φ jo).blk then none else H b
 let L:Hp:=oneB (φ jo).blk (true,.cells vs9.toArray tO (0,0))
 have hblk:∀ t (w:AObj),A'[t]? =some w->w.live=true->sol (φ t) w->H' (φ t).blk=H (φ t).blk:=fun t w ht hl hs=>by
  obtain ⟨a,b,c⟩:=hlive t w ht hl
  rw [hget t a b c] at ht
  simp only [H']
  rw [if_neg]
  rintro (e | e | e)
  ·exact h5.apart jm t _ _ hvm ht (Ne.symm a) rfl hl (by simp [sol]) hs e.symm
  ·exact h5.apart jw t _ _ hvw ht (Ne.symm b) rfl hl (by simp [sol]) hs e.symm
  ·exact h5.apart jo t _ _ hvo ht (Ne.symm c) rfl hl (by simpa [sol] using h9) hs e.symm
 have hF0:=Y.X.hF0
 have hR':RelH φ A' nF H':=by
  refine ⟨fun t w ht=>?_,fun t t' w w' ht ht' hn' he hl s1 s2=>?_,fun b x hx=>(by cases hx),fun t w ht he hs=>rfl⟩
  ·rw [hAl]
   cases hl:w.live with
   | false=>cases w <;> first | trivial | cases hl
   | true =>
    obtain ⟨a,b,c⟩:=hlive t w ht hl
    have ho:=h5.obj t w (by rw [<- hget t a b c]; exact ht)
    exact ho.mono (Agr.refl _ _) (Nat.le_refl _) (fun _ hs=>hblk t w ht hl hs)
  ·have l1:w.live=true:=by cases w <;> first | rfl | cases he
   obtain ⟨a,b,c⟩:=hlive t w ht l1
   obtain ⟨a',b',c'⟩:=hlive t' w' ht' hl
   exact h5.apart t t' w w' (by rw [<- hget t a b c]; exact ht) (by rw [<- hget t' a' b' c']; exact ht') hn' he hl s1 s2
 have hvR:View R A:=hA.view.sub fun x hx=>List.mem_cons_of_mem _ (List.mem_cons_of_mem _ (List.mem_cons_of_mem _ hx))
 have hK:Kn (YT y true y.Chd 0 0 (.m { pc:=.a0,j:=0 }) (fun _=>false) gm φ Y.X.kd Y.X.hkd Y.X.f Y.X.cs Y.X.dd A' (jm::jw::jo::keys R)) ((jo,.gone)::R) A':=by
  refine ⟨fun x hx=>?_,?_,fun i hi=>?_,fun _ _ _=>rfl,Nat.le_refl _⟩
  ·rcases List.mem_cons.1 hx with rfl | hx
   ·simp only [A']
    rw [List.getElem?_set_self (by simpa using hlt)]
   ·have hm:=mem_keys hx
    rw [hget x.1 (fun e=>jmR (e ▸ hm)) (fun e=>jwR (e ▸ hm)) (fun e=>n3 (e ▸ hm))]
    exact hvR x hx
  ·rw [keys_cons]; exact List.nodup_cons.2 ⟨n3,n4⟩
  ·left
   rw [keys_cons] at hi
   exact List.mem_cons_of_mem _ (List.mem_cons_of_mem _ hi)
 have hE:RelL φ A'.length ((env.set d7 (.v (.pointer (some ⟨y.Mu,0,none⟩)))).set d8 (.v (.pointer (some ⟨y.Wg,0,none⟩)))) ts:=by
  rw [hAl]
  refine ⟨by simpa using h6.1,fun j a z ha hz=>?_⟩
  rw [List.getElem?_set] at ha
  split at ha
  ·rename_i e
   subst e
   split at ha
   ·cases ha
    obtain ⟨_,e⟩:=inv_ptr (h6.2 _ _ z h8 hz)
    rw [e,bw]
    exact .v _
   ·cases ha
  ·rw [List.getElem?_set] at ha
   split at ha
   ·rename_i e
    subst e
    split at ha
    ·cases ha
     obtain ⟨_,e⟩:=inv_ptr (h6.2 _ _ z h7 hz)
     rw [e,bm]
     exact .v _
    ·cases ha
   ·exact h6.2 j a z ha hz
 have hfr:G (fr Y.X.kd Y.X.f Y.X.ro ts (dsC φ []++Y.X.dd) kk) Y.X.cs=G (fr Y.X.kd Y.X.f none ts (dsC φ []++Y.X.dd) kk) Y.X.cs:=by rw [hro]
 rw [hfr]
 refine bt_of_crowd y (H':=H') (L:=L) hn ?_ ?_ rfl (fun b r o hb=>?_) (fun b r o hb=>?_) ⟨fun b o hb=>?_,fun b o hb=>?_⟩ (fun b z hb=>?_) (fun b z hb=>?_) (hG0 _ bo) (fun a Hs hs=>hs) fun k=>?_
 ·exact em
 ·exact ew
 ·simp only [H'] at hb
  split at hb
  ·cases hb
  ·exact ⟨r,hb,id⟩
 ·simp only [L,oneB] at hb
  split at hb
  ·rename_i e; subst e; cases hb; exact ⟨true,eo,id⟩
  ·cases hb
 ·simp only [L,oneB]
  split
  ·rename_i e; subst e
   simp only [H'] at hb
   rw [if_pos sQ] at hb
   cases hb
  ·rfl
 ·simp only [L,oneB] at hb
  split at hb
  ·rename_i e; subst e
   simp only [H']
   rw [if_pos sQ]
  ·cases hb
 ·rintro (e | e)
  ·have e':b=(φ jm).blk:=e
   subst e'
   simp only [H'] at hb
   rw [if_pos sQ] at hb
   cases hb
  ·have e':b=(φ jw).blk:=e
   subst e'
   simp only [H'] at hb
   rw [if_pos sQ] at hb
   cases hb
 ·rintro (e | e)
  ·have e':b=(φ jm).blk:=e
   subst e'
   simp only [L,oneB] at hb
   rw [if_neg hneo] at hb
   cases hb
  ·have e':b=(φ jw).blk:=e
   subst e'
   simp only [L,oneB] at hb
   rw [if_neg hnewo] at hb
   cases hb
 ·refine h y φ A' rfl rfl rfl rfl bo (by rw [hAl]; exact hlt) ?_ k A' ⟨hK.view,hK.nd,hK.own,hK.kept,hK.len⟩ φ H' ts (Agr.refl _ _) (Nat.le_refl _) (by rw [hAl]; exact h3) (fun d hd=>by cases hd) hR' hE
  intro ds k2 env2 K2 hT A2 hA2 φ2 H2 ts2 g1 g2 g3 g4 g5 g6
  have hlen:A.length<=A2.length:=by have:=hA2.len; rw [<- hAl]; exact this
  have e0:(YU (shut_BT (P:=P) Ψ) gm φ Y.X.kd Y.X.hkd Y.X.f Y.X.cs Y.X.dd A' (jm::jw::jo::keys R)).X.n0=A.length:=hAl
  have hag:Agr φ φ2 A.length:=fun i hi=>g1 i (by rw [e0]; exact hi)
  have hKn:Kn Y K2 A2:=by
   refine ⟨hA2.view,hA2.nd,fun i hi=>?_,fun t ht1 ht2=>?_,Nat.le_trans hA.len hlen⟩
   ·rcases hA2.own i hi with hm | hm
    ·exact hA.own i hm
    ·have hm':A'.length<=i:=hm
     rw [hAl] at hm'
     exact .inr (Nat.le_trans hA.len hm')
   ·have hnk:t∉jm::jw::jo::keys R:=fun hm=>by
     rcases hA.own t hm with h' | h'
     ·exact ht2 h'
     ·omega
    have hk2:=hA2.kept t (by show t<A'.length; rw [hAl]; exact Nat.lt_of_lt_of_le ht1 hA.len) hnk
    rw [hk2]
    show A'[t]? =_
    rw [hget t (fun e=>hnk (by simp [e])) (fun e=>hnk (by simp [e])) (fun e=>hnk (by simp [e]))]
    exact hA.kept t ht1 ht2
  have:=hT A2 hKn φ2 H2 ts2 (h1.trans hag h2) (Nat.le_trans h2 hlen) g3 g4 (by rw [hF0]; exact g5) g6
  have hfr2:G (fr Y.X.kd Y.X.f Y.X.ro ts2 (dsC φ2 ds++Y.X.dd) k2) Y.X.cs=G (fr Y.X.kd Y.X.f none ts2 (dsC φ2 ds++Y.X.dd) k2) Y.X.cs:=by rw [hro]
  rw [hfr2] at this
  exact this
end
end Go.Vel
namespace Go.Vel
open Go Go.Conc
section
variable {P:Program} {gm:Nat->Option Nat} {T:Goroutine->Hp->Prop} {Y:KX P gm T} {ds:List Nat} {k:List Item} {env:List AV} {K K':KV}
theorem relH_frz {φ:Nat->Loc3} {A:List AObj} {F H:Hp} (h:RelH φ A F H) {j:Nat} {l:List AV} {e:TypeId} (hj:A[j]? =some (.cells l e true)):RelH φ (A.set j (.cells l e false)) F H:=by
 have hg:∀ t w,(A.set j (.cells l e false))[t]? =some w->(t=j/\w=.cells l e false)\/(t≠j/\A[t]? =some w):=fun t w ht=>by
  rw [List.getElem?_set] at ht
  split at ht
  ·rename_i e'
   split at ht
   ·cases ht; exact .inl ⟨e'.symm,rfl⟩
   ·cases ht
  ·rename_i e'
   exact .inr ⟨fun h=>e' h.symm,ht⟩
 refine ⟨fun t w ht=>?_,fun t t' w w' ht ht' hn he hl s1 s2=>?_,h.fr,fun t w ht he hs=>?_⟩
 ·rw [List.length_set]
  rcases hg t w ht with ⟨rfl,rfl⟩ | ⟨_,h2⟩
  ·intro hl
   obtain ⟨rw',cur,q,h1,h2,h3⟩:=h.obj t _ hj hl
   exact ⟨rw',cur,q,h1,(fun h=>by cases h),h3⟩
  ·exact h.obj t w h2
 ·rcases hg t w ht with ⟨rfl,rfl⟩ | ⟨_,h2⟩
  ·cases he
  ·rcases hg t' w' ht' with ⟨rfl,rfl⟩ | ⟨_,h2'⟩
   ·exact h.apart t t' w _ h2 hj hn he rfl s1 s2
   ·exact h.apart t t' w w' h2 h2' hn he hl s1 s2
 ·rcases hg t w ht with ⟨rfl,rfl⟩ | ⟨_,h2⟩
  ·cases he
  ·exact h.frx t w h2 he hs
theorem TK.frz {j:Nat} {l:List AV} {e:TypeId} (h:TK Y ds k env K') (hu:Upd K j (.cells l e true) j (.cells l e false) K':=by repeat (first | exact Upd.head | apply Upd.tail)):TK Y ds k env K:=fun A hA φ H ts h1 h2 h3 h4 h5 h6=>by
 have hj:=hA.view.get hu.mem
 have hl:(A.set j (.cells l e false)).length=A.length:=by simp
 exact h _ (hA.step (.set hA.view hA.nd hu)) φ H ts h1 (by rw [hl]; exact h2) (by rw [hl]; exact h3) (by rw [hl]; exact h4) (relH_frz h5 hj) (by rw [hl]; exact h6)
end
section
variable {φ:Nat->Loc3} {A:List AObj} {H:Hp}
theorem relO_some {n:Nat} {loc:Loc3} {w:AObj} (h:RelO φ n loc H w) (hl:w.live=true) (hs:sol loc w):∃ x,H loc.blk=some x:=by
 cases w with
 | cells l e rw'=>obtain ⟨r,cur,q,h1,_⟩:=h hs; exact ⟨_,h1⟩
 | row l e size=>obtain ⟨_,_,hc⟩:=h; obtain ⟨cur,h1,_⟩:=hc hs; exact ⟨_,h1⟩
 | raw o=>exact ⟨_,h⟩
 | loop f env ps x y st pj=>obtain ⟨ts,d,h1,_⟩:=h; exact ⟨_,h1⟩
 | gone=>cases hl
 | ro o=>obtain ⟨r,h⟩:=h; exact ⟨_,h⟩
theorem relO_excl {n:Nat} {loc:Loc3} {w:AObj} (h:RelO φ n loc H w) (he:w.excl=true) (hs:sol loc w):∃ o,H loc.blk=some (true,o):=by
 cases w with
 | cells l e rw' =>
  obtain ⟨r,cur,q,h1,h2,_⟩:=h hs
  have hr:rw'=true:=he
  rw [(h2 hr).1.1] at h1
  exact ⟨_,h1⟩
 | row l e size=>obtain ⟨_,_,hc⟩:=h; obtain ⟨cur,h1,_⟩:=hc hs; exact ⟨_,h1⟩
 | raw o=>exact ⟨_,h⟩
 | loop f env ps x y st pj=>obtain ⟨ts,d,h1,_⟩:=h; exact ⟨_,h1⟩
 | gone=>cases he
 | ro o=>cases he
theorem relH_in (h:RelH φ A nF H) {j:Nat} (hj:A[j]? =some .gone) {o:AObj} (ho:RelO φ A.length (φ j) H o) (hd:∀ t w,A[t]? =some w->t≠j->w.live=true->sol (φ t) w->(φ t).blk≠(φ j).blk):RelH φ (A.set j o) nF H:=by
 have hg:∀ t w,(A.set j o)[t]? =some w->(t=j/\w=o)\/(t≠j/\A[t]? =some w):=fun t w ht=>by
  rw [List.getElem?_set] at ht
  split at ht
  ·rename_i e'
   split at ht
   ·cases ht; exact .inl ⟨e'.symm,rfl⟩
   ·cases ht
  ·rename_i e'
   exact .inr ⟨fun h=>e' h.symm,ht⟩
 refine ⟨fun t w ht=>?_,fun t t' w w' ht ht' hn he hl s1 s2=>?_,h.fr,fun t w ht he hs=>rfl⟩
 ·rw [List.length_set]
  rcases hg t w ht with ⟨rfl,rfl⟩ | ⟨_,h2⟩
  ·exact ho
  ·exact h.obj t w h2
 ·have lv:∀ {z:AObj},z.excl=true->z.live=true:=fun {z} hz=>by cases z <;> first | rfl | cases hz
  rcases hg t w ht with ⟨rfl,rfl⟩ | ⟨hne,h2⟩
  ·rcases hg t' w' ht' with ⟨rfl,rfl⟩ | ⟨hne',h2'⟩
   ·exact absurd rfl hn
   ·exact fun e=>hd t' w' h2' hne' hl s2 e.symm
  ·rcases hg t' w' ht' with ⟨rfl,rfl⟩ | ⟨_,h2'⟩
   ·exact hd t w h2 hne (lv he) s1
   ·exact h.apart t t' w w' h2 h2' hn he hl s1 s2
theorem relH_ro (h:RelH φ A nF H) {loc:Loc3} {l:List AV} {e:TypeId} (ho:RelO (upd3 φ A.length loc) (A.length+1) loc H (.cells l e false)) (hd:∀ t w,A[t]? =some w->w.excl=true->sol (φ t) w->(φ t).blk≠loc.blk):RelH (upd3 φ A.length loc) (A++[.cells l e false]) nF H:=by
 have hu:∀ t,t<A.length->upd3 φ A.length loc t=φ t:=fun t ht=>agr_upd3 φ A.length loc t ht
 have hu':upd3 φ A.length loc A.length=loc:=by simp [upd3]
 have hg:∀ t w,(A++[AObj.cells l e false])[t]? =some w->(t=A.length/\w=.cells l e false)\/(t<A.length/\A[t]? =some w):=fun t w ht=>by
  rcases Nat.lt_trichotomy t A.length with hlt | heq | hgt
  ·rw [List.getElem?_append_left hlt] at ht; exact .inr ⟨hlt,ht⟩
  ·subst heq
   rw [List.getElem?_append_right (Nat.le_refl _),Nat.sub_self] at ht
   cases ht
   exact .inl ⟨rfl,rfl⟩
  ·rw [List.getElem?_eq_none (by simp; omega)] at ht; cases ht
 have hlen:(A++[AObj.cells l e false]).length=A.length+1:=by simp
 refine ⟨fun t w ht=>?_,fun t t' w w' ht ht' hn he hl s1 s2=>?_,h.fr,fun t w ht he hs=>rfl⟩
 ·rw [hlen]
  rcases hg t w ht with ⟨rfl,rfl⟩ | ⟨hlt,h2⟩
  ·rw [hu']; exact ho
  ·rw [hu t hlt]
   exact (h.obj t w h2).mono (agr_upd3 _ _ _) oQ (fun _ _=>rfl)
 ·rcases hg t w ht with ⟨rfl,rfl⟩ | ⟨hlt,h2⟩
  ·cases he
  ·rw [hu t hlt] at s1 ⊢
   rcases hg t' w' ht' with ⟨rfl,rfl⟩ | ⟨hlt',h2'⟩
   ·rw [hu']; exact hd t w h2 he s1
   ·rw [hu t' hlt'] at s2 ⊢
    exact h.apart t t' w w' h2 h2' hn he hl s1 s2
abbrev z9:List Value:=[.slice none 0 0,.int .i64 0,.bool false]
def GIb (lo:Loc3) (tO:TypeId):Option (List Int×Int)->Hp->Prop
 | none,L=>L=oneB lo.blk (true,.cells #[.slice none 0 0,.int .i64 0,.bool false] tO (0,0))
 | some (cs,cost),L=>∃ rb rbase cap cur q,rb≠lo.blk/\cs≠[]/\cs.length<=cap/\(∀ (j:Nat) (a:Int),cs[j]? =some a->cur[rbase+j]? =some (.int .i64 a)) /\
   L=fun c=>if c=lo.blk then some (true,.cells #[.slice (some ⟨rb,rbase,none⟩) cs.length cap,.int .i64 cost,.bool true] tO (0,0)) else if c=rb then some (false,.cells cur (q:TypeId×Nat×Nat).1 q.2) else none
def PLb (jo:Nat) (tO:TypeId):Option (List Int×Int)->KV->Prop
 | none,K=>K=[(jo,.cells (z9.map AV.v) tO true)]
 | some (cs,cost),K=>∃ jr e,K=[(jr,.cells (cs.map fun a=>.v (.int .i64 a)) e false),(jo,.cells [.sl jr 0 cs.length,.v (.int .i64 cost),.v (.bool true)] tO true)]
theorem join_ext (H L:Hp):H.ext (H.join L):=fun b x hb=>by
 show (H b).or (L b)=some x
 rw [hb]; rfl
theorem gib_in {lo:Nat×Loc3} {tO:TypeId} {b:Option (List Int×Int)} {L:Hp} (hG:GIb lo.2 tO b L) (hb0:lo.2.base=0) (hlt:lo.1<A.length) (hφ:φ lo.1=lo.2) (hv:View [(lo.1,.gone)] A) (hH:RelH φ A nF H) (hD:H.Dis L) (hA:Agrees H L) :
  ∃ φ' A' K',Agr φ φ' A.length/\A.length<=A'.length/\Kstep [(lo.1,.gone)] A K' A'/\PLb lo.1 tO b K'/\RelH φ' A' nF (H.join L):=by
 have hgone:=hv _ (List.mem_singleton.2 rfl)
 have hJ:=hH.ext (join_ext H L)
 have hk1:(keys [(lo.1,AObj.gone)]).Nodup:=by simp [keys]
 cases b with
 | none =>
  have hL:L=oneB lo.2.blk (true,.cells #[.slice none 0 0,.int .i64 0,.bool false] tO (0,0)):=hG
  have hLo:L lo.2.blk=some (true,.cells #[.slice none 0 0,.int .i64 0,.bool false] tO (0,0)):=by rw [hL]; simp [oneB]
  have hHo:H lo.2.blk=none:=hD.2 _ _ hLo
  have hJo:(H.join L) lo.2.blk=some (true,.cells #[.slice none 0 0,.int .i64 0,.bool false] tO (0,0)):=by show (H _).or (L _)=_; rw [hHo,hLo]; rfl
  refine ⟨φ,A.set lo.1 (.cells (z9.map AV.v) tO true),_,Agr.refl _ _,by simp,.set hv hk1 .head,rfl,relH_in hJ hgone ?_ ?_⟩
  ·rw [hφ]
   intro _
   refine ⟨true,_,(tO,0,0),hJo,fun _=>⟨⟨rfl,rfl⟩,hb0,rfl⟩,fun j a ha=>?_⟩
   rw [hb0,Nat.zero_add]
   rcases j with _ | _ | _ | j <;> simp at ha <;> subst ha <;> exact ⟨_,rfl,.v _⟩
  ·intro t w ht hne hl hs e
   rw [hφ] at e
   obtain ⟨x,hx⟩:=relO_some (hH.obj t w ht) hl hs
   rw [e,hHo] at hx
   cases hx
 | some z =>
  obtain ⟨cs,cost⟩:=z
  obtain ⟨rb,rbase,cap,cur,q,hrb,hcs,hcap,hcur,hL⟩:=hG
  have hLo:L lo.2.blk=some (true,.cells #[.slice (some ⟨rb,rbase,none⟩) cs.length cap,.int .i64 cost,.bool true] tO (0,0)):=by rw [hL]; simp
  have hLr:L rb=some (false,.cells cur q.1 q.2):=by rw [hL]; simp [hrb]
  have hHo:H lo.2.blk=none:=hD.2 _ _ hLo
  have hJo:(H.join L) lo.2.blk=some (true,.cells #[.slice (some ⟨rb,rbase,none⟩) cs.length cap,.int .i64 cost,.bool true] tO (0,0)):=by show (H _).or (L _)=_; rw [hHo,hLo]; rfl
  have hJr:∃ r,(H.join L) rb=some (r,.cells cur q.1 q.2):=by
   cases e:H rb with
   | none=>exact ⟨false,by show (H _).or (L _)=_; rw [e,hLr]; rfl⟩
   | some x =>
    obtain ⟨r,o⟩:=x
    exact ⟨r,by show (H _).or (L _)=_; rw [e,hA rb r o _ _ e hLr]; rfl⟩
  obtain ⟨r,hJr⟩:=hJr
  have hR1:RelH (upd3 φ A.length ⟨rb,rbase,cap⟩) (A++[.cells (cs.map fun a=>.v (.int .i64 a)) 0 false]) nF (H.join L):=by
   refine relH_ro hJ (fun _=>⟨r,cur,q,hJr,(fun h=>by cases h),fun j a ha=>?_⟩) fun t w ht he hs e=>?_
   ·rw [List.getElem?_map] at ha
    cases e:cs[j]? with
    | none=>rw [e] at ha; cases ha
    | some z =>
     rw [e] at ha; cases ha
     exact ⟨_,hcur j z e,.v _⟩
   ·obtain ⟨o,hx⟩:=relO_excl (hH.obj t w ht) he hs
    have e':(φ t).blk=rb:=e
    have:=hD.1 _ _ hx
    rw [e',hLr] at this
    cases this
  have hu:upd3 φ A.length ⟨rb,rbase,cap⟩ lo.1=φ lo.1:=agr_upd3 _ _ _ _ hlt
  have hu':upd3 φ A.length ⟨rb,rbase,cap⟩ A.length=⟨rb,rbase,cap⟩:=by simp [upd3]
  have hv1:View ((A.length,.cells (cs.map fun a=>.v (.int .i64 a)) 0 false)::[(lo.1,.gone)]) (A++[.cells (cs.map fun a=>.v (.int .i64 a)) 0 false]):=(Kstep.push hv hk1 _).view
  have hgone1:(A++[AObj.cells (cs.map fun a=>.v (.int .i64 a)) 0 false])[lo.1]? =some .gone:=by rw [List.getElem?_append_left hlt]; exact hgone
  refine ⟨_,(A++[AObj.cells (cs.map fun a=>.v (.int .i64 a)) 0 false]).set lo.1 (.cells [.sl A.length 0 cs.length,.v (.int .i64 cost),.v (.bool true)] tO true),_,agr_upd3 φ A.length ⟨rb,rbase,cap⟩,by simp,?_,⟨A.length,0,rfl⟩,relH_in hR1 hgone1 ?_ ?_⟩
  ·have s1:=Kstep.push hv hk1 (.cells (cs.map fun a=>.v (.int .i64 a)) 0 false)
   have s2:=Kstep.set (o':=.cells [.sl A.length 0 cs.length,.v (.int .i64 cost),.v (.bool true)] tO true) s1.view s1.nd (.tail (.head (i:=lo.1)))
   refine ⟨s2.view,s2.nd,fun i hi=>?_,fun t ht hn=>?_,Nat.le_trans s1.len s2.len⟩
   ·rcases s2.own i hi with h' | h'
    ·exact s1.own i h'
    ·exact .inr (Nat.le_trans s1.len h')
   ·rw [s2.kept t (Nat.lt_of_lt_of_le ht s1.len) (fun hm=>?_)]
    ·exact s1.kept t ht hn
    ·rcases s1.own t hm with h' | h'
     ·exact hn h'
     ·omega
  ·rw [hu,hφ]
   intro _
   refine ⟨true,_,(tO,0,0),hJo,fun _=>⟨⟨rfl,rfl⟩,hb0,rfl⟩,fun j a ha=>?_⟩
   rw [hb0,Nat.zero_add]
   rcases j with _ | _ | _ | j <;> simp at ha <;> subst ha
   ·refine ⟨_,rfl,.sl sQ hcap fun _=>?_⟩
    rw [hu',Nat.add_zero]
   ·exact ⟨_,rfl,.v _⟩
   ·exact ⟨_,rfl,.v _⟩
  ·intro t w ht hne hl hs e
   rw [hu,hφ] at e
   rcases Nat.lt_or_ge t A.length with hlt' | hge
   ·rw [List.getElem?_append_left hlt'] at ht
    rw [agr_upd3 _ _ _ _ hlt'] at e hs
    obtain ⟨x,hx⟩:=relO_some (hH.obj t w ht) hl hs
    rw [e,hHo] at hx
    cases hx
   ·have:t=A.length:=by
     have:=(List.getElem?_eq_some_iff.1 ht).1
     simp at this; omega
    subst this
    rw [hu'] at e
    exact hrb e
theorem gib_out {lo:Nat×Loc3} {tO e:TypeId} {jr:Nat} {cs:List Int} {cost:Int} {K:KV} (hcs:cs≠[]) (hr:(jr,AObj.cells (cs.map fun a=>.v (.int .i64 a)) e false)∈K) (ho:(lo.1,AObj.cells [.sl jr 0 cs.length,.v (.int .i64 cost),.v (.bool true)] tO true)∈K) (hφ:φ lo.1=lo.2) (hv:View K A) (hH:RelH φ A nF H) :
  ∃ L,L.Sub H/\GIb lo.2 tO (some (cs,cost)) L:=by
 have ar:=hv _ hr
 have ao:=hv _ ho
 have hne:lo.1≠jr:=fun h=>by
  have ar':A[jr]? =some (AObj.cells (cs.map fun a=>.v (.int .i64 a)) e false):=ar
  have ao':A[lo.1]? =some (AObj.cells [.sl jr 0 cs.length,.v (.int .i64 cost),.v (.bool true)] tO true):=ao
  rw [h,ar'] at ao'
  have hx:=congrArg AObj.excl (Option.some.inj ao')
  simp [AObj.excl] at hx
 obtain ⟨r,cur,q,h1,_,h3⟩:=hH.obj jr _ ar (by simpa using hcs)
 obtain ⟨r',cur',q',g1,g2,g3⟩:=hH.obj lo.1 _ ao sQ
 obtain ⟨⟨rfl,rfl⟩,gb,gs⟩:=g2 rfl
 have hblk:(φ lo.1).blk≠(φ jr).blk:=hH.apart lo.1 jr _ _ ao ar hne rfl rfl (by simp [sol]) (by simpa [sol] using hcs)
 obtain ⟨y0,hy0,r0⟩:=g3 0 _ rfl
 obtain ⟨y1,hy1,r1⟩:=g3 1 _ rfl
 obtain ⟨y2,hy2,r2⟩:=g3 2 _ rfl
 rw [gb,Nat.zero_add] at hy0 hy1 hy2
 rw [inv_v r1] at hy1
 rw [inv_v r2] at hy2
 have hpos:0<cs.length:=List.length_pos_iff.2 hcs
 have hsl:∃ cap,cs.length<=cap/\y0=.slice (some ⟨(φ jr).blk,(φ jr).base,none⟩) cs.length cap:=by
  cases r0 with
  | @sl _ _ _ cap b hi hle hb =>
   refine ⟨cap,hle,?_⟩
   rw [hb hpos,Nat.add_zero]
 obtain ⟨cap,hcap,rfl⟩:=hsl
 have hc3:cur'=#[.slice (some ⟨(φ jr).blk,(φ jr).base,none⟩) cs.length cap,.int .i64 cost,.bool true]:=by
  refine Array.ext (by simpa using gs) fun j h1' h2'=>?_
  have hj:j=0\/j=1\/j=2:=by
   have:cur'.size=3:=gs
   omega
  rcases hj with rfl | rfl | rfl
  ·rw [Array.getElem?_eq_getElem h1'] at hy0; exact Option.some.inj hy0
  ·rw [Array.getElem?_eq_getElem h1'] at hy1; exact Option.some.inj hy1
  ·rw [Array.getElem?_eq_getElem h1'] at hy2; exact Option.some.inj hy2
 subst hc3
 refine ⟨fun c=>if c=lo.2.blk then some (true,.cells #[.slice (some ⟨(φ jr).blk,(φ jr).base,none⟩) cs.length cap,.int .i64 cost,.bool true] tO (0,0)) else if c=(φ jr).blk then some (false,.cells cur q.1 q.2) else none,fun b rw' o hb=>?_,(φ jr).blk,(φ jr).base,cap,cur,q,?_,hcs,hcap,fun j a ha=>?_,rfl⟩
 ·dsimp only at hb
  split at hb
  ·rename_i e; subst e; cases hb
   rw [hφ] at g1
   exact ⟨true,g1,id⟩
  ·split at hb
   ·rename_i e; subst e; cases hb
    exact ⟨r,h1,fun h=>by cases h⟩
   ·cases hb
 ·rw [<- hφ]; exact hblk.symm
 ·obtain ⟨y,hy,hr'⟩:=h3 j (.v (.int .i64 a)) (by rw [List.getElem?_map,ha]; rfl)
  rw [inv_v hr'] at hy
  exact hy
end
section
variable {α:Type} (lkr:Nat->Bool) (off:Nat->α) (bt:α->α->Bool)
def IsBest (x:Nat->Bool):Option α->Prop
 | none=>∀ i,lkr i=true->x i=false
 | some p=>(∃ i,lkr i=true/\x i=true/\off i=p)/\∀ i,lkr i=true->x i=true->off i=p\/bt p (off i)=true
variable {lkr off bt} {x:Nat->Bool}
def keepB (bt:α->α->Bool) (p:α):Option α->α
 | none=>p
 | some q=>if bt p q=true then p else q
theorem best_step {i:Nat} {b:Option α} (h:IsBest lkr off bt x b) (hi:lkr i=true) (htr:∀ p q r,bt p q=true->bt q r=true->bt p r=true) (htot:∀ i j,lkr i=true->lkr j=true->off i=off j\/bt (off i) (off j)=true\/bt (off j) (off i)=true) :
  IsBest lkr off bt (Go.ConcN.upd x i true) (some (keepB bt (off i) b)):=by
 have hx:∀ j,Go.ConcN.upd x i true j=true->j=i\/x j=true:=fun j hj=>by
  by_cases e:j=i
  ·exact .inl e
  ·rw [Go.ConcN.upd_ne _ _ e] at hj; exact .inr hj
 have hxi:Go.ConcN.upd x i true i=true:=Go.ConcN.upd_same ..
 have hup:∀ j,x j=true->Go.ConcN.upd x i true j=true:=fun j hj=>by
  by_cases e:j=i
  ·rw [e]; exact hxi
  ·rw [Go.ConcN.upd_ne _ _ e]; exact hj
 cases b with
 | none =>
  refine ⟨⟨i,hi,hxi,rfl⟩,fun j hj hxj=>?_⟩
  rcases hx j hxj with rfl | hxj
  ·exact .inl rfl
  ·rw [h j hj] at hxj; cases hxj
 | some q =>
  obtain ⟨⟨i0,h1,h2,h3⟩,h4⟩:=h
  by_cases hb:bt (off i) q=true
  ·have e:keepB bt (off i) (some q)=off i:=if_pos hb
   rw [e]
   refine ⟨⟨i,hi,hxi,rfl⟩,fun j hj hxj=>?_⟩
   rcases hx j hxj with rfl | hxj
   ·exact .inl rfl
   ·rcases h4 j hj hxj with e | e
    ·right; rw [e]; exact hb
    ·right; exact htr _ _ _ hb e
  ·have e:keepB bt (off i) (some q)=q:=if_neg hb
   rw [e]
   refine ⟨⟨i0,h1,hup _ h2,h3⟩,fun j hj hxj=>?_⟩
   rcases hx j hxj with rfl | hxj
   ·rcases htot j i0 hj h1 with e | e | e
    ·left; rw [e,h3]
    ·rw [h3] at e; exact absurd e hb
    ·right; rw [<- h3]; exact e
   ·exact h4 j hj hxj
end
section
variable {P:Program} {lkr:Nat->Bool} {off:Nat->List Int×Int} {bt:List Int×Int->List Int×Int->Bool} {tO:TypeId}
def GIo (lkr:Nat->Bool) (off:Nat->List Int×Int) (bt:List Int×Int->List Int×Int->Bool) (tO:TypeId) (lo:Loc3) (x:Nat->Bool) (L:Hp):Prop:=∃ b,IsBest lkr off bt x b/\GIb lo tO b L
def PLo (lkr:Nat->Bool) (off:Nat->List Int×Int) (bt:List Int×Int->List Int×Int->Bool) (tO:TypeId) (jo:Nat) (x:Nat->Bool) (K:KV):Prop:=∃ b,IsBest lkr off bt x b/\PLb jo tO b K
theorem gio_zero (lo:Loc3):GIo lkr off bt tO lo (fun _=>false) (oneB lo.blk (true,.cells z9.toArray tO (0,0))):=⟨none,fun _ _=>rfl,rfl⟩
theorem gin_of {y:Sy P} {lo:Nat×Loc3} (hy:y.GI=GIo lkr off bt tO lo.2) (hb:lo.2.base=0) (i:Nat):GIn y lo i (PLo lkr off bt tO lo.1):=by
 intro x' L A φ H hG hx hlt hφ hv hn hH hD hA
 rw [hy] at hG
 obtain ⟨b,h1,h2⟩:=hG
 obtain ⟨φ',A',K',a,b',c,d,e⟩:=gib_in h2 hb hlt hφ hv hH hD hA
 exact ⟨φ',A',K',a,b',c,⟨b,h1,d⟩,e⟩
theorem giw_of {y:Sy P} {lo:Nat×Loc3} (hy:y.GI=GIo lkr off bt tO lo.2) (hb:lo.2.base=0) {x:Nat->Bool}:∀ L A φ H,y.GI x L->lo.1<A.length->φ lo.1=lo.2->View [(lo.1,.gone)] A->(keys [(lo.1,AObj.gone)]).Nodup->RelH φ A nF H->H.Dis L->Agrees H L->∃ φ' A' K',Agr φ φ' A.length/\A.length<=A'.length/\Kstep [(lo.1,.gone)] A K' A'/\PLo lkr off bt tO lo.1 x K'/\RelH φ' A' nF (H.join L):=by
 intro L A φ H hG hlt hφ hv hn hH hD hA
 rw [hy] at hG
 obtain ⟨b,h1,h2⟩:=hG
 obtain ⟨φ',A',K',a,b',c,d,e⟩:=gib_in h2 hb hlt hφ hv hH hD hA
 exact ⟨φ',A',K',a,b',c,⟨b,h1,d⟩,e⟩
theorem give_of {y:Sy P} {lo:Nat×Loc3} (hy:y.GI=GIo lkr off bt tO lo.2) {x:Nat->Bool} {i:Nat} {cs:List Int} {cost:Int} {jr:Nat} {e:TypeId} {K:KV} (hcs:cs≠[]) (hbest:IsBest lkr off bt (Go.ConcN.upd x i true) (some (cs,cost)))
  (hr:(jr,AObj.cells (cs.map fun a=>.v (.int .i64 a)) e false)∈K) (ho:(lo.1,AObj.cells [.sl jr 0 cs.length,.v (.int .i64 cost),.v (.bool true)] tO true)∈K) :
  ∀ A φ H,lo.1<A.length->φ lo.1=lo.2->View K A->(keys K).Nodup->RelH φ A nF H->∃ L',L'.Sub H/\y.GI (Go.ConcN.upd x i true) L':=by
 intro A φ H hlt hφ hv hn hH
 obtain ⟨L,h1,h2⟩:=gib_out hcs hr ho hφ hv hH
 exact ⟨L,h1,by rw [hy]; exact ⟨_,hbest,h2⟩⟩
end
end Go.Vel
namespace Go.Vel
open Go Go.Conc Go.Proofs
open Go.ConcN (sumTo upd upd_ne upd_same)
open Go.ConcM (OsLater MuAt muA msA)
open Go.ConcR (KK wgBlock WgAt stA smA mk rd wr)
open Mx (TT Th Mn S4 auto Mv4 ok4 bl4 kd dl MPc Pc okW okM Mv nx4 cnt newOf)
instance:FldOf Tryz.prog 187 0 0 true 2:=⟨by kernel_rfl⟩
instance:FldOf Tryz.prog 187 1 2 false 1:=⟨by kernel_rfl⟩
instance:TySz Tryz.prog 143 true 2:=⟨by kernel_rfl⟩
instance:TySz Tryz.prog 4 false 1:=⟨by kernel_rfl⟩
instance:BlOf Tryz.prog 143 [(0,1),(1,1)]:=⟨by kernel_rfl⟩
instance:Cal Tryz.prog 135:=⟨by kernel_rfl⟩
instance:Cal Tryz.prog 153:=⟨by kernel_rfl⟩
instance:FldOf Tryz.prog 51 1 1 false 1:=⟨by kernel_rfl⟩
instance:TySz Tryz.prog 139 true 8:=⟨by kernel_rfl⟩
instance:TySz Tryz.prog 146 false 1:=⟨by kernel_rfl⟩
instance:TySz Tryz.prog 27 false 1:=⟨by kernel_rfl⟩
instance:TySz Tryz.prog 3 false 1:=⟨by kernel_rfl⟩
instance:TySz Tryz.prog 51 true 2:=⟨by kernel_rfl⟩
instance:TyZ Tryz.prog 143 [.slice none 0 0,.int .i64 0]:=⟨by kernel_rfl⟩
instance:TyZA Tryz.prog 51 [.v (.int .i64 0),.v (.int .i64 0)]:=⟨by kernel_rfl⟩
theorem gsub_ok {Ch:Nat->Goroutine->Hp->Prop} (y:Sy Tryz.prog) {k i:Nat} {x:Nat->Bool} :
  CallQ Tryz.prog (y.Sq2 Ch k i (.w { pc:=.d1 }) x) 172 [.pointer (some ⟨y.Wg,0,none⟩),.int .u64 18446744069414584320] (fun r T'=>(∃ v wt:Nat,v<64/\wt<=1/\¬ (v=0/\wt=1)/\r=.int .u64 ((v*4294967296+wt:Nat):Int)/\T'=Tq Tryz.prog 1)\/(r=.int .u64 1/\∃ k',k'<k/\T'=y.Sq2 Ch k' i (.w { pc:=.d2 }) x)):=by
 refine callQ_in 10 Tryz.func172 fun c0 cs hret=>?_
 refine TQ.norm (env':=[.v (.pointer (some ⟨y.Wg,0,none⟩)),.v (.int .u64 18446744069414584320),.any,.any,.any,.any,.any,.any,.any,.any]) rfl ?_
 skip
 refine TQ.seq (by first | exact shq_s y | exact shq_q _) ?_
 refine TQ.rgn (by first | exact shq_s y | exact shq_q _) RgL.h ?_
 refine TQ.a (by first | exact shq_s y | exact shq_q _) ne_early rfl (p_assign rfl rfl) ?_
 refine TQ.end (by first | exact shq_s y | exact shq_q _) ?_
 refine TQ.seq (by first | exact shq_s y | exact shq_q _) ?_
 refine TQ.rgn (by first | exact shq_s y | exact shq_q _) RgL.h ?_
 refine TQ.a (by first | exact shq_s y | exact shq_q _) ne_early rfl (p_move rfl rfl) ?_
 refine TQ.a (by first | exact shq_s y | exact shq_q _) ne_early rfl (p_nilV rfl rfl) ?_
 refine TQ.a (by first | exact shq_s y | exact shq_q _) ne_early rfl (p_fieldV rfl rfl FldOf.h dQ) ?_
 refine TQ.a (by first | exact shq_s y | exact shq_q _) ne_early rfl (p_move rfl rfl) ?_
 refine TQ.gAdd ne_early 18446744069414584320 rfl rfl rfl rfl (fun s v h1 h2 h3=>gsub_val h1 h2 h3) (fun k1 hk1=>?_) (fun v wt hv hwt hne=>?_)
 ·refine TQ.norm (putS rfl (by simp only [List.set]; rfl)) ?_
  refine TQ.a (by first | exact shq_s y | exact shq_q _) ne_early rfl (p_assign rfl rfl) ?_
  refine TQ.end (by first | exact shq_s y | exact shq_q _) ?_
  skip
  refine TQ.ret (by first | exact shq_s y | exact shq_q _) Tryz.func172 (res_tmpQ rfl) (hret _ _ ?_)
  exact .inr ⟨rfl,k1,hk1,rfl⟩
 ·refine TQ.norm (putS rfl (by simp only [List.set]; rfl)) ?_
  refine TQ.a (by first | exact shq_s y | exact shq_q _) ne_early rfl (p_assign rfl rfl) ?_
  refine TQ.end (by first | exact shq_s y | exact shq_q _) ?_
  skip
  refine TQ.ret (by first | exact shq_s y | exact shq_q _) Tryz.func172 (res_tmpQ rfl) (hret _ _ ?_)
  exact .inl ⟨v,wt,hv,hwt,hne,congrArg (Value.int .u64) (gval_n v wt),rfl⟩
theorem gload1_ok {Ch:Nat->Goroutine->Hp->Prop} (y:Sy Tryz.prog) {k i:Nat} {x:Nat->Bool} :
  CallQ Tryz.prog (y.Sq2 Ch k i (.w { pc:=.d2 }) x) 174 [.pointer (some ⟨y.Wg,0,none⟩)] (fun r T'=>r=.int .u64 1/\∃ k',k'<k/\T'=y.Sq2 Ch k' i (.w { pc:=.d3 }) x):=by
 refine callQ_in 7 Tryz.func174 fun c0 cs hret=>?_
 refine TQ.norm (env':=[.v (.pointer (some ⟨y.Wg,0,none⟩)),.any,.any,.any,.any,.any,.any]) rfl ?_
 skip
 refine TQ.seq (by first | exact shq_s y | exact shq_q _) ?_
 refine TQ.rgn (by first | exact shq_s y | exact shq_q _) RgL.h ?_
 refine TQ.a (by first | exact shq_s y | exact shq_q _) ne_early rfl (p_assign rfl rfl) ?_
 refine TQ.end (by first | exact shq_s y | exact shq_q _) ?_
 refine TQ.seq (by first | exact shq_s y | exact shq_q _) ?_
 refine TQ.rgn (by first | exact shq_s y | exact shq_q _) RgL.h ?_
 refine TQ.a (by first | exact shq_s y | exact shq_q _) ne_early rfl (p_move rfl rfl) ?_
 refine TQ.a (by first | exact shq_s y | exact shq_q _) ne_early rfl (p_nilV rfl rfl) ?_
 refine TQ.a (by first | exact shq_s y | exact shq_q _) ne_early rfl (p_fieldV rfl rfl FldOf.h dQ) ?_
 refine TQ.gLoad ne_early rfl rfl rfl (fun k1 hk1=>?_)
 refine TQ.norm (putS rfl (by simp only [List.set]; rfl)) ?_
 refine TQ.a (by first | exact shq_s y | exact shq_q _) ne_early rfl (p_assign rfl rfl) ?_
 refine TQ.end (by first | exact shq_s y | exact shq_q _) ?_
 skip
 refine TQ.ret (by first | exact shq_s y | exact shq_q _) Tryz.func174 (res_tmpQ rfl) (hret _ _ ?_)
 exact ⟨rfl,k1,hk1,rfl⟩
theorem gstore0_ok {Ch:Nat->Goroutine->Hp->Prop} (y:Sy Tryz.prog) {k i:Nat} {x:Nat->Bool} :
  CallQ Tryz.prog (y.Sq2 Ch k i (.w { pc:=.d3 }) x) 175 [.pointer (some ⟨y.Wg,0,none⟩),.int .u64 0] (fun r T'=>∃ k',k'<k/\T'=y.Sq2 Ch k' i (.w { pc:=.d4 }) x):=by
 refine callQ_in 9 Tryz.func175 fun c0 cs hret=>?_
 refine TQ.norm (env':=[.v (.pointer (some ⟨y.Wg,0,none⟩)),.v (.int .u64 0),.any,.any,.any,.any,.any,.any,.any]) rfl ?_
 skip
 refine TQ.rgn (by first | exact shq_s y | exact shq_q _) RgL.h ?_
 refine TQ.a (by first | exact shq_s y | exact shq_q _) ne_early rfl (p_move rfl rfl) ?_
 refine TQ.a (by first | exact shq_s y | exact shq_q _) ne_early rfl (p_nilV rfl rfl) ?_
 refine TQ.a (by first | exact shq_s y | exact shq_q _) ne_early rfl (p_fieldV rfl rfl FldOf.h dQ) ?_
 refine TQ.a (by first | exact shq_s y | exact shq_q _) ne_early rfl (p_move rfl rfl) ?_
 refine TQ.gStore ne_early rfl rfl rfl rfl (fun k1 hk1=>?_)
 refine TQ.end (by first | exact shq_s y | exact shq_q _) ?_
 skip
 refine TQ.ret0 (by first | exact shq_s y | exact shq_q _) Tryz.func175 (res_noneQ rfl) (hret _ _ ?_)
 exact ⟨k1,hk1,rfl⟩
theorem wgSub_ok {Ch:Nat->Goroutine->Hp->Prop} (y:Sy Tryz.prog) {k i:Nat} {x:Nat->Bool} :
  CallZ Tryz.prog (y.Sf false Ch k i (.w { pc:=.wr }) x) 149 [.pointer (some ⟨y.Wg,0,none⟩),.int .i64 (-1)] (fun T'=>T'=fun g _=>Tq Tryz.prog 0 g):=by
 refine callZ_in 117 (y.shutF _ _ _ _ _ _) Tryz.func149 fun φ0 c0 cs hret=>?_
 refine TK.nrm (env':=[.v (.pointer (some ⟨y.Wg,0,none⟩)),.v (.int .i64 (-1)),.any,.any,.any,.any,.any,.any,.any,.any,.any,.any,.any,.any,.any,.any,.any,.any,.any,.any,.any,.any,.any,.any,.any,.any,.any,.any,.any,.any,.any,.any,.any,.any,.any,.any,.any,.any,.any,.any,.any,.any,.any,.any,.any,.any,.any,.any,.any,.any,.any,.any,.any,.any,.any,.any,.any,.any,.any,.any,.any,.any,.any,.any,.any,.any,.any,.any,.any,.any,.any,.any,.any,.any,.any,.any,.any,.any,.any,.any,.any,.any,.any,.any,.any,.any,.any,.any,.any,.any,.any,.any,.any,.any,.any,.any,.any,.any,.any,.any,.any,.any,.any,.any,.any,.any,.any,.any,.any,.any,.any,.any,.any,.any,.any,.any,.any]) ?_ rfl rfl
 refine au [4,18,4,4,5,1,6,3,18,5,1] ?_
 refine TK.sConv rfl rfl rfl uP217 uP219 z201 (fun w s h=>⟨_,h.2.cellSt⟩) ?_
 refine au [] ?_
 refine TK.relW (φ0:=φ0) ne_early rfl rfl rfl (fun k1 hk1=>?_)
 refine TQ.end (by first | exact shq_s y | exact shq_q _) ?_
 refine TQ.seq (by first | exact shq_s y | exact shq_q _) ?_
 refine TQ.rgn (by first | exact shq_s y | exact shq_q _) RgL.h ?_
 refine TQ.sMark ne_early (.w { pc:=.d1 }) .disable sQ rfl rfl (fun s _=>mx0 (.wk rfl)) (evb_dis 0) rfl (fun k2 hk2=>?_)
 refine TQ.end (by first | exact shq_s y | exact shq_q _) ?_
 refine TQ.rgn (by first | exact shq_s y | exact shq_q _) RgL.h ?_
 refine TQ.defer (by first | exact shq_s y | exact shq_q _) ne_early rfl rfl ?_
 refine TQ.end (by first | exact shq_s y | exact shq_q _) ?_
 refine TQ.seq (by first | exact shq_s y | exact shq_q _) ?_
 refine TQ.rgn (by first | exact shq_s y | exact shq_q _) RgL.h ?_
 refine TQ.a (by first | exact shq_s y | exact shq_q _) ne_early rfl (p_assign rfl rfl) ?_
 refine TQ.end (by first | exact shq_s y | exact shq_q _) ?_
 refine TQ.seq (by first | exact shq_s y | exact shq_q _) ?_
 refine TQ.seq (by first | exact shq_s y | exact shq_q _) ?_
 refine TQ.rgn (by first | exact shq_s y | exact shq_q _) RgL.h ?_
 refine TQ.pure (by first | exact shq_s y | exact shq_q _) ne_early rfl rfl ?_
 refine TQ.end (by first | exact shq_s y | exact shq_q _) ?_
 refine TQ.condF (by first | exact shq_s y | exact shq_q _) rfl ?_
 refine TQ.skip (by first | exact shq_s y | exact shq_q _) ?_
 refine TQ.seq (by first | exact shq_s y | exact shq_q _) ?_
 refine TQ.rgn (by first | exact shq_s y | exact shq_q _) RgL.h ?_
 refine TQ.a (by first | exact shq_s y | exact shq_q _) ne_early rfl (p_move rfl rfl) ?_
 refine TQ.a (by first | exact shq_s y | exact shq_q _) ne_early rfl (p_nilV rfl rfl) ?_
 refine TQ.a (by first | exact shq_s y | exact shq_q _) ne_early rfl (p_fieldV rfl rfl FldOf.h dQ) ?_
 refine TQ.a (by first | exact shq_s y | exact shq_q _) ne_early rfl (p_move rfl rfl) ?_
 refine TQ.a (by first | exact shq_s y | exact shq_q _) ne_early rfl (p_convInt rfl rfl Und.h Und.h (m:=18446744073709551615) dQ) ?_
 refine TQ.a (by first | exact shq_s y | exact shq_q _) ne_early rfl (p_shL rfl rfl rfl dQ (r:=18446744069414584320) dQ) ?_
 refine TQ.call (by first | exact shq_s y | exact shq_q _) ne_early rfl rfl rfl (gsub_ok y) ?_
 rintro r2 T2 (⟨v,wt,hv,hwt,hne,rfl,rfl⟩ | ⟨rfl,k3,hk3,rfl⟩)
 ·skip
  refine TQ.a (by first | exact shq_s y | exact shq_q _) ne_early rfl (p_assign rfl rfl) ?_
  refine TQ.end (by first | exact shq_s y | exact shq_q _) ?_
  refine TQ.seq (by first | exact shq_s y | exact shq_q _) ?_
  refine TQ.seq (by first | exact shq_s y | exact shq_q _) ?_
  refine TQ.rgn (by first | exact shq_s y | exact shq_q _) RgL.h ?_
  refine TQ.a (by first | exact shq_s y | exact shq_q _) ne_early rfl (p_move rfl rfl) ?_
  refine TQ.a (by first | exact shq_s y | exact shq_q _) ne_early rfl (p_bits rfl rfl rfl (.inl rfl) (bU3 v hv wt oQ)) ?_
  refine TQ.a (by first | exact shq_s y | exact shq_q _) ne_early rfl (p_cmp rfl rfl rfl rfl) ?_
  refine TQ.a (by first | exact shq_s y | exact shq_q _) ne_early rfl (p_move rfl rfl) ?_
  refine TQ.unwanted (by first | exact shq_s y | exact shq_q _) rfl rfl (putS rfl (by simp only [List.set]; rfl)) ?_
  refine TQ.unwanted (by first | exact shq_s y | exact shq_q _) rfl rfl (putS rfl (by simp only [List.set]; rfl)) ?_
  refine TQ.a (by first | exact shq_s y | exact shq_q _) ne_early rfl (p_pickF rfl rfl rfl) ?_
  refine TQ.end (by first | exact shq_s y | exact shq_q _) ?_
  refine TQ.condF (by first | exact shq_s y | exact shq_q _) rfl ?_
  refine TQ.skip (by first | exact shq_s y | exact shq_q _) ?_
  refine TQ.seq (by first | exact shq_s y | exact shq_q _) ?_
  refine TQ.rgn (by first | exact shq_s y | exact shq_q _) RgL.h ?_
  refine TQ.a (by first | exact shq_s y | exact shq_q _) ne_early rfl (p_move rfl rfl) ?_
  refine TQ.a (by first | exact shq_s y | exact shq_q _) ne_early rfl (p_sh rfl rfl rfl dQ (r:=((v:Nat):Int)) (by show ((v*4294967296+wt:Nat):Int) / 4294967296=_; omega)) ?_
  refine TQ.a (by first | exact shq_s y | exact shq_q _) ne_early rfl (p_convInt rfl rfl Und.h Und.h (m:=((v:Nat):Int)) (w32 oQ)) ?_
  refine TQ.a (by first | exact shq_s y | exact shq_q _) ne_early rfl (p_assign rfl rfl) ?_
  refine TQ.end (by first | exact shq_s y | exact shq_q _) ?_
  refine TQ.seq (by first | exact shq_s y | exact shq_q _) ?_
  refine TQ.rgn (by first | exact shq_s y | exact shq_q _) RgL.h ?_
  refine TQ.a (by first | exact shq_s y | exact shq_q _) ne_early rfl (p_move rfl rfl) ?_
  refine TQ.a (by first | exact shq_s y | exact shq_q _) ne_early rfl (p_bits rfl rfl rfl (.inl rfl) (bU4 v hv wt oQ)) ?_
  refine TQ.a (by first | exact shq_s y | exact shq_q _) ne_early rfl (p_convInt rfl rfl Und.h Und.h (m:=((wt:Nat):Int)) (wu32 oQ)) ?_
  refine TQ.a (by first | exact shq_s y | exact shq_q _) ne_early rfl (p_assign rfl rfl) ?_
  refine TQ.end (by first | exact shq_s y | exact shq_q _) ?_
  refine TQ.seq (by first | exact shq_s y | exact shq_q _) ?_
  refine TQ.seq (by first | exact shq_s y | exact shq_q _) ?_
  refine TQ.rgn (by first | exact shq_s y | exact shq_q _) RgL.h ?_
  refine TQ.a (by first | exact shq_s y | exact shq_q _) ne_early rfl (p_move rfl rfl) ?_
  refine TQ.a (by first | exact shq_s y | exact shq_q _) ne_early rfl (p_move rfl rfl) ?_
  refine TQ.a (by first | exact shq_s y | exact shq_q _) ne_early rfl (p_cmp rfl rfl rfl rfl) ?_
  refine TQ.a (by first | exact shq_s y | exact shq_q _) ne_early rfl (p_pickT rfl rfl rfl) ?_
  refine TQ.a (by first | exact shq_s y | exact shq_q _) ne_early rfl (p_move rfl rfl) ?_
  refine TQ.unwanted (by first | exact shq_s y | exact shq_q _) rfl rfl (putS rfl (by simp only [List.set]; rfl)) ?_
  refine TQ.unwanted (by first | exact shq_s y | exact shq_q _) rfl rfl (putS rfl (by simp only [List.set]; rfl)) ?_
  refine TQ.unwanted (by first | exact shq_s y | exact shq_q _) rfl rfl (putS rfl (by simp only [List.set]; rfl)) ?_
  refine TQ.unwanted (by first | exact shq_s y | exact shq_q _) rfl rfl (putS rfl (by simp only [List.set]; rfl)) ?_
  refine TQ.a (by first | exact shq_s y | exact shq_q _) ne_early rfl (p_pickF rfl rfl rfl) ?_
  refine TQ.end (by first | exact shq_s y | exact shq_q _) ?_
  refine TQ.condF (by first | exact shq_s y | exact shq_q _) rfl ?_
  refine TQ.skip (by first | exact shq_s y | exact shq_q _) ?_
  refine TQ.seq (by first | exact shq_s y | exact shq_q _) ?_
  refine TQ.seq (by first | exact shq_s y | exact shq_q _) ?_
  refine TQ.rgn (by first | exact shq_s y | exact shq_q _) RgL.h ?_
  refine TQ.a (by first | exact shq_s y | exact shq_q _) ne_early rfl (p_move rfl rfl) ?_
  refine TQ.a (by first | exact shq_s y | exact shq_q _) ne_early rfl (p_cmp rfl rfl rfl rfl) ?_
  refine TQ.end (by first | exact shq_s y | exact shq_q _) ?_
  refine TQ.cond (by first | exact shq_s y | exact shq_q _) rfl ?_
  refine ⟨fun hc9=>?_,fun hc9=>?_⟩
  ·exfalso
   simp at hc9 <;> omega
  refine TQ.skip (by first | exact shq_s y | exact shq_q _) ?_
  refine TQ.seq (by first | exact shq_s y | exact shq_q _) ?_
  refine TQ.seq (by first | exact shq_s y | exact shq_q _) ?_
  refine TQ.rgn (by first | exact shq_s y | exact shq_q _) RgL.h ?_
  refine TQ.a (by first | exact shq_s y | exact shq_q _) ne_early rfl (p_move rfl rfl) ?_
  refine TQ.a (by first | exact shq_s y | exact shq_q _) ne_early rfl (p_cmp rfl rfl rfl rfl) ?_
  refine TQ.a (by first | exact shq_s y | exact shq_q _) ne_early rfl (p_move rfl rfl) ?_
  refine TQ.sp 78 (fun g24_3=>?_) (fun g24_3=>?_)
  ·refine TQ.a (by first | exact shq_s y | exact shq_q _) ne_early rfl (p_move rfl rfl) ?_
   refine TQ.a (by first | exact shq_s y | exact shq_q _) ne_early rfl (p_cmp rfl rfl rfl rfl) ?_
   refine TQ.a (by first | exact shq_s y | exact shq_q _) ne_early rfl (p_pickT rfl rfl rfl) ?_
   refine TQ.a (by first | exact shq_s y | exact shq_q _) ne_early rfl (p_move rfl rfl) ?_
   refine TQ.unwanted (by first | exact shq_s y | exact shq_q _) rfl rfl (putS rfl (by simp only [List.set]; rfl)) ?_
   refine TQ.unwanted (by first | exact shq_s y | exact shq_q _) rfl rfl (putS rfl (by simp only [List.set]; rfl)) ?_
   refine TQ.unwanted (by first | exact shq_s y | exact shq_q _) rfl rfl (putS rfl (by simp only [List.set]; rfl)) ?_
   refine TQ.unwanted (by first | exact shq_s y | exact shq_q _) rfl rfl (putS rfl (by simp only [List.set]; rfl)) ?_
   refine TQ.a (by first | exact shq_s y | exact shq_q _) ne_early rfl (p_pickF rfl rfl rfl) ?_
   refine TQ.end (by first | exact shq_s y | exact shq_q _) ?_
   refine TQ.condF (by first | exact shq_s y | exact shq_q _) rfl ?_
   refine TQ.skip (by first | exact shq_s y | exact shq_q _) ?_
   refine TQ.seq (by first | exact shq_s y | exact shq_q _) ?_
   refine TQ.seq (by first | exact shq_s y | exact shq_q _) ?_
   refine TQ.rgn (by first | exact shq_s y | exact shq_q _) RgL.h ?_
   refine TQ.a (by first | exact shq_s y | exact shq_q _) ne_early rfl (p_move rfl rfl) ?_
   refine TQ.a (by first | exact shq_s y | exact shq_q _) ne_early rfl (p_cmp rfl rfl rfl rfl) ?_
   refine TQ.a (by first | exact shq_s y | exact shq_q _) ne_early rfl (p_move rfl rfl) ?_
   refine TQ.sp 91 (fun g26_3=>?_) (fun g26_3=>?_)
   ·skip
    refine TQ.unwanted (by first | exact shq_s y | exact shq_q _) rfl rfl (putS rfl (by simp only [List.set]; rfl)) ?_
    refine TQ.unwanted (by first | exact shq_s y | exact shq_q _) rfl rfl (putS rfl (by simp only [List.set]; rfl)) ?_
    refine TQ.a (by first | exact shq_s y | exact shq_q _) ne_early rfl (p_pickT rfl rfl rfl) ?_
    refine TQ.end (by first | exact shq_s y | exact shq_q _) ?_
    refine TQ.condT (by first | exact shq_s y | exact shq_q _) rfl ?_
    skip
    refine TQ.retQ Tryz.func149 (res_noneQ rfl) (hret _ _ (fun _=>none) rfl)
    skip
   refine TQ.a (by first | exact shq_s y | exact shq_q _) ne_early rfl (p_move rfl rfl) ?_
   refine TQ.a (by first | exact shq_s y | exact shq_q _) ne_early rfl (p_cmp rfl rfl rfl rfl) ?_
   refine TQ.a (by first | exact shq_s y | exact shq_q _) ne_early rfl (p_pickF rfl rfl rfl) ?_
   refine TQ.end (by first | exact shq_s y | exact shq_q _) ?_
   refine TQ.cond (by first | exact shq_s y | exact shq_q _) rfl ?_
   refine ⟨fun hc11=>?_,fun hc11=>?_⟩
   ·skip
    skip
    refine TQ.retQ Tryz.func149 (res_noneQ rfl) (hret _ _ (fun _=>none) rfl)
    skip
   exfalso
   simp at g26_3 hc11
   omega
  refine TQ.unwanted (by first | exact shq_s y | exact shq_q _) rfl rfl (putS rfl (by simp only [List.set]; rfl)) ?_
  refine TQ.unwanted (by first | exact shq_s y | exact shq_q _) rfl rfl (putS rfl (by simp only [List.set]; rfl)) ?_
  refine TQ.a (by first | exact shq_s y | exact shq_q _) ne_early rfl (p_pickF rfl rfl rfl) ?_
  refine TQ.a (by first | exact shq_s y | exact shq_q _) ne_early rfl (p_move rfl rfl) ?_
  refine TQ.unwanted (by first | exact shq_s y | exact shq_q _) rfl rfl (putS rfl (by simp only [List.set]; rfl)) ?_
  refine TQ.unwanted (by first | exact shq_s y | exact shq_q _) rfl rfl (putS rfl (by simp only [List.set]; rfl)) ?_
  refine TQ.unwanted (by first | exact shq_s y | exact shq_q _) rfl rfl (putS rfl (by simp only [List.set]; rfl)) ?_
  refine TQ.unwanted (by first | exact shq_s y | exact shq_q _) rfl rfl (putS rfl (by simp only [List.set]; rfl)) ?_
  refine TQ.a (by first | exact shq_s y | exact shq_q _) ne_early rfl (p_pickF rfl rfl rfl) ?_
  refine TQ.end (by first | exact shq_s y | exact shq_q _) ?_
  refine TQ.condF (by first | exact shq_s y | exact shq_q _) rfl ?_
  refine TQ.skip (by first | exact shq_s y | exact shq_q _) ?_
  refine TQ.seq (by first | exact shq_s y | exact shq_q _) ?_
  refine TQ.seq (by first | exact shq_s y | exact shq_q _) ?_
  refine TQ.rgn (by first | exact shq_s y | exact shq_q _) RgL.h ?_
  refine TQ.a (by first | exact shq_s y | exact shq_q _) ne_early rfl (p_move rfl rfl) ?_
  refine TQ.a (by first | exact shq_s y | exact shq_q _) ne_early rfl (p_cmp rfl rfl rfl rfl) ?_
  refine TQ.a (by first | exact shq_s y | exact shq_q _) ne_early rfl (p_move rfl rfl) ?_
  refine TQ.sp 91 (fun g26_3=>?_) (fun g26_3=>?_)
  ·skip
   refine TQ.unwanted (by first | exact shq_s y | exact shq_q _) rfl rfl (putS rfl (by simp only [List.set]; rfl)) ?_
   refine TQ.unwanted (by first | exact shq_s y | exact shq_q _) rfl rfl (putS rfl (by simp only [List.set]; rfl)) ?_
   refine TQ.a (by first | exact shq_s y | exact shq_q _) ne_early rfl (p_pickT rfl rfl rfl) ?_
   refine TQ.end (by first | exact shq_s y | exact shq_q _) ?_
   refine TQ.condT (by first | exact shq_s y | exact shq_q _) rfl ?_
   skip
   refine TQ.retQ Tryz.func149 (res_noneQ rfl) (hret _ _ (fun _=>none) rfl)
   skip
  refine TQ.a (by first | exact shq_s y | exact shq_q _) ne_early rfl (p_move rfl rfl) ?_
  refine TQ.a (by first | exact shq_s y | exact shq_q _) ne_early rfl (p_cmp rfl rfl rfl rfl) ?_
  refine TQ.a (by first | exact shq_s y | exact shq_q _) ne_early rfl (p_pickF rfl rfl rfl) ?_
  refine TQ.end (by first | exact shq_s y | exact shq_q _) ?_
  refine TQ.cond (by first | exact shq_s y | exact shq_q _) rfl ?_
  refine ⟨fun hc11=>?_,fun hc11=>?_⟩
  ·skip
   skip
   refine TQ.retQ Tryz.func149 (res_noneQ rfl) (hret _ _ (fun _=>none) rfl)
   skip
  exfalso
  simp at g26_3 hc11
  omega
 ·skip
  refine TQ.a (by first | exact shq_s y | exact shq_q _) ne_early rfl (p_assign rfl rfl) ?_
  refine TQ.end (by first | exact shq_s y | exact shq_q _) ?_
  refine TQ.seq (by first | exact shq_s y | exact shq_q _) ?_
  refine TQ.seq (by first | exact shq_s y | exact shq_q _) ?_
  refine TQ.rgn (by first | exact shq_s y | exact shq_q _) RgL.h ?_
  refine TQ.a (by first | exact shq_s y | exact shq_q _) ne_early rfl (p_move rfl rfl) ?_
  refine TQ.a (by first | exact shq_s y | exact shq_q _) ne_early rfl (p_bits rfl rfl rfl (.inl rfl) (r:=0) dQ) ?_
  refine TQ.a (by first | exact shq_s y | exact shq_q _) ne_early rfl (p_cmp rfl rfl rfl rfl) ?_
  refine TQ.a (by first | exact shq_s y | exact shq_q _) ne_early rfl (p_move rfl rfl) ?_
  refine TQ.unwanted (by first | exact shq_s y | exact shq_q _) rfl rfl (putS rfl (by simp only [List.set]; rfl)) ?_
  refine TQ.unwanted (by first | exact shq_s y | exact shq_q _) rfl rfl (putS rfl (by simp only [List.set]; rfl)) ?_
  refine TQ.a (by first | exact shq_s y | exact shq_q _) ne_early rfl (p_pickF rfl rfl rfl) ?_
  refine TQ.end (by first | exact shq_s y | exact shq_q _) ?_
  refine TQ.condF (by first | exact shq_s y | exact shq_q _) rfl ?_
  refine TQ.skip (by first | exact shq_s y | exact shq_q _) ?_
  refine TQ.seq (by first | exact shq_s y | exact shq_q _) ?_
  refine TQ.rgn (by first | exact shq_s y | exact shq_q _) RgL.h ?_
  refine TQ.a (by first | exact shq_s y | exact shq_q _) ne_early rfl (p_move rfl rfl) ?_
  refine TQ.a (by first | exact shq_s y | exact shq_q _) ne_early rfl (p_sh rfl rfl rfl dQ (r:=((0:Nat):Int)) dQ) ?_
  refine TQ.a (by first | exact shq_s y | exact shq_q _) ne_early rfl (p_convInt rfl rfl Und.h Und.h (m:=((0:Nat):Int)) rfl) ?_
  refine TQ.a (by first | exact shq_s y | exact shq_q _) ne_early rfl (p_assign rfl rfl) ?_
  refine TQ.end (by first | exact shq_s y | exact shq_q _) ?_
  refine TQ.seq (by first | exact shq_s y | exact shq_q _) ?_
  refine TQ.rgn (by first | exact shq_s y | exact shq_q _) RgL.h ?_
  refine TQ.a (by first | exact shq_s y | exact shq_q _) ne_early rfl (p_move rfl rfl) ?_
  refine TQ.a (by first | exact shq_s y | exact shq_q _) ne_early rfl (p_bits rfl rfl rfl (.inl rfl) (r:=1) dQ) ?_
  refine TQ.a (by first | exact shq_s y | exact shq_q _) ne_early rfl (p_convInt rfl rfl Und.h Und.h (m:=1) dQ) ?_
  refine TQ.a (by first | exact shq_s y | exact shq_q _) ne_early rfl (p_assign rfl rfl) ?_
  refine TQ.end (by first | exact shq_s y | exact shq_q _) ?_
  refine TQ.seq (by first | exact shq_s y | exact shq_q _) ?_
  refine TQ.seq (by first | exact shq_s y | exact shq_q _) ?_
  refine TQ.rgn (by first | exact shq_s y | exact shq_q _) RgL.h ?_
  refine TQ.a (by first | exact shq_s y | exact shq_q _) ne_early rfl (p_move rfl rfl) ?_
  refine TQ.a (by first | exact shq_s y | exact shq_q _) ne_early rfl (p_move rfl rfl) ?_
  refine TQ.a (by first | exact shq_s y | exact shq_q _) ne_early rfl (p_cmp rfl rfl rfl rfl) ?_
  refine TQ.a (by first | exact shq_s y | exact shq_q _) ne_early rfl (p_pickT rfl rfl rfl) ?_
  refine TQ.a (by first | exact shq_s y | exact shq_q _) ne_early rfl (p_move rfl rfl) ?_
  refine TQ.unwanted (by first | exact shq_s y | exact shq_q _) rfl rfl (putS rfl (by simp only [List.set]; rfl)) ?_
  refine TQ.unwanted (by first | exact shq_s y | exact shq_q _) rfl rfl (putS rfl (by simp only [List.set]; rfl)) ?_
  refine TQ.unwanted (by first | exact shq_s y | exact shq_q _) rfl rfl (putS rfl (by simp only [List.set]; rfl)) ?_
  refine TQ.unwanted (by first | exact shq_s y | exact shq_q _) rfl rfl (putS rfl (by simp only [List.set]; rfl)) ?_
  refine TQ.a (by first | exact shq_s y | exact shq_q _) ne_early rfl (p_pickF rfl rfl rfl) ?_
  refine TQ.end (by first | exact shq_s y | exact shq_q _) ?_
  refine TQ.condF (by first | exact shq_s y | exact shq_q _) rfl ?_
  refine TQ.skip (by first | exact shq_s y | exact shq_q _) ?_
  refine TQ.seq (by first | exact shq_s y | exact shq_q _) ?_
  refine TQ.seq (by first | exact shq_s y | exact shq_q _) ?_
  refine TQ.rgn (by first | exact shq_s y | exact shq_q _) RgL.h ?_
  refine TQ.a (by first | exact shq_s y | exact shq_q _) ne_early rfl (p_move rfl rfl) ?_
  refine TQ.a (by first | exact shq_s y | exact shq_q _) ne_early rfl (p_cmp rfl rfl rfl rfl) ?_
  refine TQ.end (by first | exact shq_s y | exact shq_q _) ?_
  refine TQ.cond (by first | exact shq_s y | exact shq_q _) rfl ?_
  refine ⟨fun hc9=>?_,fun hc9=>?_⟩
  ·exfalso
   simp at hc9 <;> omega
  refine TQ.skip (by first | exact shq_s y | exact shq_q _) ?_
  refine TQ.seq (by first | exact shq_s y | exact shq_q _) ?_
  refine TQ.seq (by first | exact shq_s y | exact shq_q _) ?_
  refine TQ.rgn (by first | exact shq_s y | exact shq_q _) RgL.h ?_
  refine TQ.a (by first | exact shq_s y | exact shq_q _) ne_early rfl (p_move rfl rfl) ?_
  refine TQ.a (by first | exact shq_s y | exact shq_q _) ne_early rfl (p_cmp rfl rfl rfl rfl) ?_
  refine TQ.a (by first | exact shq_s y | exact shq_q _) ne_early rfl (p_move rfl rfl) ?_
  refine TQ.sp 78 (fun g24_3=>?_) (fun g24_3=>?_)
  ·refine TQ.a (by first | exact shq_s y | exact shq_q _) ne_early rfl (p_move rfl rfl) ?_
   refine TQ.a (by first | exact shq_s y | exact shq_q _) ne_early rfl (p_cmp rfl rfl rfl rfl) ?_
   refine TQ.a (by first | exact shq_s y | exact shq_q _) ne_early rfl (p_pickT rfl rfl rfl) ?_
   refine TQ.a (by first | exact shq_s y | exact shq_q _) ne_early rfl (p_move rfl rfl) ?_
   refine TQ.unwanted (by first | exact shq_s y | exact shq_q _) rfl rfl (putS rfl (by simp only [List.set]; rfl)) ?_
   refine TQ.unwanted (by first | exact shq_s y | exact shq_q _) rfl rfl (putS rfl (by simp only [List.set]; rfl)) ?_
   refine TQ.unwanted (by first | exact shq_s y | exact shq_q _) rfl rfl (putS rfl (by simp only [List.set]; rfl)) ?_
   refine TQ.unwanted (by first | exact shq_s y | exact shq_q _) rfl rfl (putS rfl (by simp only [List.set]; rfl)) ?_
   refine TQ.a (by first | exact shq_s y | exact shq_q _) ne_early rfl (p_pickF rfl rfl rfl) ?_
   refine TQ.end (by first | exact shq_s y | exact shq_q _) ?_
   refine TQ.condF (by first | exact shq_s y | exact shq_q _) rfl ?_
   refine TQ.skip (by first | exact shq_s y | exact shq_q _) ?_
   refine TQ.seq (by first | exact shq_s y | exact shq_q _) ?_
   refine TQ.seq (by first | exact shq_s y | exact shq_q _) ?_
   refine TQ.rgn (by first | exact shq_s y | exact shq_q _) RgL.h ?_
   refine TQ.a (by first | exact shq_s y | exact shq_q _) ne_early rfl (p_move rfl rfl) ?_
   refine TQ.a (by first | exact shq_s y | exact shq_q _) ne_early rfl (p_cmp rfl rfl rfl rfl) ?_
   refine TQ.a (by first | exact shq_s y | exact shq_q _) ne_early rfl (p_move rfl rfl) ?_
   refine TQ.sp 91 (fun g26_3=>?_) (fun g26_3=>?_)
   ·exfalso
    simp at g26_3
   refine TQ.a (by first | exact shq_s y | exact shq_q _) ne_early rfl (p_move rfl rfl) ?_
   refine TQ.a (by first | exact shq_s y | exact shq_q _) ne_early rfl (p_cmp rfl rfl rfl rfl) ?_
   refine TQ.a (by first | exact shq_s y | exact shq_q _) ne_early rfl (p_pickF rfl rfl rfl) ?_
   refine TQ.end (by first | exact shq_s y | exact shq_q _) ?_
   refine TQ.cond (by first | exact shq_s y | exact shq_q _) rfl ?_
   refine ⟨fun hc11=>?_,fun hc11=>?_⟩
   ·exfalso
    simp at hc11
   skip
   refine TQ.skip (by first | exact shq_s y | exact shq_q _) ?_
   refine TQ.seq (by first | exact shq_s y | exact shq_q _) ?_
   refine TQ.seq (by first | exact shq_s y | exact shq_q _) ?_
   refine TQ.rgn (by first | exact shq_s y | exact shq_q _) RgL.h ?_
   refine TQ.a (by first | exact shq_s y | exact shq_q _) ne_early rfl (p_move rfl rfl) ?_
   refine TQ.a (by first | exact shq_s y | exact shq_q _) ne_early rfl (p_nilV rfl rfl) ?_
   refine TQ.a (by first | exact shq_s y | exact shq_q _) ne_early rfl (p_fieldV rfl rfl FldOf.h dQ) ?_
   refine TQ.call (by first | exact shq_s y | exact shq_q _) ne_early rfl rfl rfl (gload1_ok y) ?_
   rintro r2 T2 ⟨rfl,k4,hk4,rfl⟩
   refine TQ.a (by first | exact shq_s y | exact shq_q _) ne_early rfl (p_move rfl rfl) ?_
   refine TQ.a (by first | exact shq_s y | exact shq_q _) ne_early rfl (p_cmp rfl rfl rfl rfl) ?_
   refine TQ.end (by first | exact shq_s y | exact shq_q _) ?_
   refine TQ.condF (by first | exact shq_s y | exact shq_q _) rfl ?_
   refine TQ.skip (by first | exact shq_s y | exact shq_q _) ?_
   refine TQ.seq (by first | exact shq_s y | exact shq_q _) ?_
   refine TQ.rgn (by first | exact shq_s y | exact shq_q _) RgL.h ?_
   refine TQ.a (by first | exact shq_s y | exact shq_q _) ne_early rfl (p_move rfl rfl) ?_
   refine TQ.a (by first | exact shq_s y | exact shq_q _) ne_early rfl (p_nilV rfl rfl) ?_
   refine TQ.a (by first | exact shq_s y | exact shq_q _) ne_early rfl (p_fieldV rfl rfl FldOf.h dQ) ?_
   refine TQ.call (by first | exact shq_s y | exact shq_q _) ne_early rfl rfl rfl (gstore0_ok y) ?_
   rintro r2 T2 ⟨k5,hk5,rfl⟩
   refine TQ.end (by first | exact shq_s y | exact shq_q _) ?_
   refine TQ.seq (by first | exact shq_s y | exact shq_q _) ?_
   refine TQ.seq (by first | exact shq_s y | exact shq_q _) ?_
   refine TQ.rgn (by first | exact shq_s y | exact shq_q _) RgL.h ?_
   refine TQ.a (by first | exact shq_s y | exact shq_q _) ne_early rfl (p_move rfl rfl) ?_
   refine TQ.end (by first | exact shq_s y | exact shq_q _) ?_
   refine TQ.condF (by first | exact shq_s y | exact shq_q _) rfl ?_
   refine TQ.skip (by first | exact shq_s y | exact shq_q _) ?_
   refine TQ.block (by first | exact shq_s y | exact shq_q _) ?_
   refine TQ.loop (by first | exact shq_s y | exact shq_q _) ?_
   refine TQ.seq (by first | exact shq_s y | exact shq_q _) ?_
   refine TQ.seq (by first | exact shq_s y | exact shq_q _) ?_
   refine TQ.rgn (by first | exact shq_s y | exact shq_q _) RgL.h ?_
   refine TQ.a (by first | exact shq_s y | exact shq_q _) ne_early rfl (p_move rfl rfl) ?_
   refine TQ.a (by first | exact shq_s y | exact shq_q _) ne_early rfl (p_cmp rfl rfl rfl rfl) ?_
   refine TQ.end (by first | exact shq_s y | exact shq_q _) ?_
   refine TQ.condT (by first | exact shq_s y | exact shq_q _) rfl ?_
   refine TQ.skip (by first | exact shq_s y | exact shq_q _) ?_
   refine TQ.seq (by first | exact shq_s y | exact shq_q _) ?_
   refine TQ.block (by first | exact shq_s y | exact shq_q _) ?_
   refine TQ.rgn (by first | exact shq_s y | exact shq_q _) RgL.h ?_
   refine TQ.a (by first | exact shq_s y | exact shq_q _) ne_early rfl (p_move rfl rfl) ?_
   refine TQ.a (by first | exact shq_s y | exact shq_q _) ne_early rfl (p_nilV rfl rfl) ?_
   refine TQ.a (by first | exact shq_s y | exact shq_q _) ne_early rfl (p_fieldV rfl rfl FldOf.h dQ) ?_
   refine TQ.gRel ne_early rfl rfl (fun c hc=>by simp at hc; subst hc; rfl) rfl ?_
   refine TQ.end (by first | exact shq_s y | exact shq_q _) ?_
   refine TQ.inBlock (by first | exact shq_s y | exact shq_q _) ?_
   refine TQ.rgn (by first | exact shq_s y | exact shq_q _) RgL.h ?_
   refine TQ.a (by first | exact shq_s y | exact shq_q _) ne_early rfl (p_move rfl rfl) ?_
   refine TQ.a (by first | exact shq_s y | exact shq_q _) ne_early rfl (p_wrap rfl rfl rfl (r:=0) (.inr ⟨rfl,by decide⟩)) ?_
   refine TQ.a (by first | exact shq_s y | exact shq_q _) ne_early rfl (p_assign rfl rfl) ?_
   refine TQ.end (by first | exact shq_s y | exact shq_q _) ?_
   refine TQ.inLoop (by first | exact shq_s y | exact shq_q _) ?_
   refine TQ.seq (by first | exact shq_s y | exact shq_q _) ?_
   refine TQ.seq (by first | exact shq_s y | exact shq_q _) ?_
   refine TQ.rgn (by first | exact shq_s y | exact shq_q _) RgL.h ?_
   refine TQ.a (by first | exact shq_s y | exact shq_q _) ne_early rfl (p_move rfl rfl) ?_
   refine TQ.a (by first | exact shq_s y | exact shq_q _) ne_early rfl (p_cmp rfl rfl rfl rfl) ?_
   refine TQ.end (by first | exact shq_s y | exact shq_q _) ?_
   refine TQ.condF (by first | exact shq_s y | exact shq_q _) rfl ?_
   refine TQ.exit (by first | exact shq_s y | exact shq_q _) rfl ?_
   skip
   refine TQ.retQ0 Tryz.func149 (res_noneQ rfl) (hret _ _ (fun _=>none) rfl)
   skip
  refine TQ.unwanted (by first | exact shq_s y | exact shq_q _) rfl rfl (putS rfl (by simp only [List.set]; rfl)) ?_
  refine TQ.unwanted (by first | exact shq_s y | exact shq_q _) rfl rfl (putS rfl (by simp only [List.set]; rfl)) ?_
  refine TQ.a (by first | exact shq_s y | exact shq_q _) ne_early rfl (p_pickF rfl rfl rfl) ?_
  refine TQ.a (by first | exact shq_s y | exact shq_q _) ne_early rfl (p_move rfl rfl) ?_
  refine TQ.unwanted (by first | exact shq_s y | exact shq_q _) rfl rfl (putS rfl (by simp only [List.set]; rfl)) ?_
  refine TQ.unwanted (by first | exact shq_s y | exact shq_q _) rfl rfl (putS rfl (by simp only [List.set]; rfl)) ?_
  refine TQ.unwanted (by first | exact shq_s y | exact shq_q _) rfl rfl (putS rfl (by simp only [List.set]; rfl)) ?_
  refine TQ.unwanted (by first | exact shq_s y | exact shq_q _) rfl rfl (putS rfl (by simp only [List.set]; rfl)) ?_
  refine TQ.a (by first | exact shq_s y | exact shq_q _) ne_early rfl (p_pickF rfl rfl rfl) ?_
  refine TQ.end (by first | exact shq_s y | exact shq_q _) ?_
  refine TQ.condF (by first | exact shq_s y | exact shq_q _) rfl ?_
  refine TQ.skip (by first | exact shq_s y | exact shq_q _) ?_
  refine TQ.seq (by first | exact shq_s y | exact shq_q _) ?_
  refine TQ.seq (by first | exact shq_s y | exact shq_q _) ?_
  refine TQ.rgn (by first | exact shq_s y | exact shq_q _) RgL.h ?_
  refine TQ.a (by first | exact shq_s y | exact shq_q _) ne_early rfl (p_move rfl rfl) ?_
  refine TQ.a (by first | exact shq_s y | exact shq_q _) ne_early rfl (p_cmp rfl rfl rfl rfl) ?_
  refine TQ.a (by first | exact shq_s y | exact shq_q _) ne_early rfl (p_move rfl rfl) ?_
  refine TQ.sp 91 (fun g26_3=>?_) (fun g26_3=>?_)
  ·exfalso
   simp at g26_3
  refine TQ.a (by first | exact shq_s y | exact shq_q _) ne_early rfl (p_move rfl rfl) ?_
  refine TQ.a (by first | exact shq_s y | exact shq_q _) ne_early rfl (p_cmp rfl rfl rfl rfl) ?_
  refine TQ.a (by first | exact shq_s y | exact shq_q _) ne_early rfl (p_pickF rfl rfl rfl) ?_
  refine TQ.end (by first | exact shq_s y | exact shq_q _) ?_
  refine TQ.cond (by first | exact shq_s y | exact shq_q _) rfl ?_
  refine ⟨fun hc11=>?_,fun hc11=>?_⟩
  ·exfalso
   simp at hc11
  skip
  refine TQ.skip (by first | exact shq_s y | exact shq_q _) ?_
  refine TQ.seq (by first | exact shq_s y | exact shq_q _) ?_
  refine TQ.seq (by first | exact shq_s y | exact shq_q _) ?_
  refine TQ.rgn (by first | exact shq_s y | exact shq_q _) RgL.h ?_
  refine TQ.a (by first | exact shq_s y | exact shq_q _) ne_early rfl (p_move rfl rfl) ?_
  refine TQ.a (by first | exact shq_s y | exact shq_q _) ne_early rfl (p_nilV rfl rfl) ?_
  refine TQ.a (by first | exact shq_s y | exact shq_q _) ne_early rfl (p_fieldV rfl rfl FldOf.h dQ) ?_
  refine TQ.call (by first | exact shq_s y | exact shq_q _) ne_early rfl rfl rfl (gload1_ok y) ?_
  rintro r2 T2 ⟨rfl,k4,hk4,rfl⟩
  refine TQ.a (by first | exact shq_s y | exact shq_q _) ne_early rfl (p_move rfl rfl) ?_
  refine TQ.a (by first | exact shq_s y | exact shq_q _) ne_early rfl (p_cmp rfl rfl rfl rfl) ?_
  refine TQ.end (by first | exact shq_s y | exact shq_q _) ?_
  refine TQ.condF (by first | exact shq_s y | exact shq_q _) rfl ?_
  refine TQ.skip (by first | exact shq_s y | exact shq_q _) ?_
  refine TQ.seq (by first | exact shq_s y | exact shq_q _) ?_
  refine TQ.rgn (by first | exact shq_s y | exact shq_q _) RgL.h ?_
  refine TQ.a (by first | exact shq_s y | exact shq_q _) ne_early rfl (p_move rfl rfl) ?_
  refine TQ.a (by first | exact shq_s y | exact shq_q _) ne_early rfl (p_nilV rfl rfl) ?_
  refine TQ.a (by first | exact shq_s y | exact shq_q _) ne_early rfl (p_fieldV rfl rfl FldOf.h dQ) ?_
  refine TQ.call (by first | exact shq_s y | exact shq_q _) ne_early rfl rfl rfl (gstore0_ok y) ?_
  rintro r2 T2 ⟨k5,hk5,rfl⟩
  refine TQ.end (by first | exact shq_s y | exact shq_q _) ?_
  refine TQ.seq (by first | exact shq_s y | exact shq_q _) ?_
  refine TQ.seq (by first | exact shq_s y | exact shq_q _) ?_
  refine TQ.rgn (by first | exact shq_s y | exact shq_q _) RgL.h ?_
  refine TQ.a (by first | exact shq_s y | exact shq_q _) ne_early rfl (p_move rfl rfl) ?_
  refine TQ.end (by first | exact shq_s y | exact shq_q _) ?_
  refine TQ.condF (by first | exact shq_s y | exact shq_q _) rfl ?_
  refine TQ.skip (by first | exact shq_s y | exact shq_q _) ?_
  refine TQ.block (by first | exact shq_s y | exact shq_q _) ?_
  refine TQ.loop (by first | exact shq_s y | exact shq_q _) ?_
  refine TQ.seq (by first | exact shq_s y | exact shq_q _) ?_
  refine TQ.seq (by first | exact shq_s y | exact shq_q _) ?_
  refine TQ.rgn (by first | exact shq_s y | exact shq_q _) RgL.h ?_
  refine TQ.a (by first | exact shq_s y | exact shq_q _) ne_early rfl (p_move rfl rfl) ?_
  refine TQ.a (by first | exact shq_s y | exact shq_q _) ne_early rfl (p_cmp rfl rfl rfl rfl) ?_
  refine TQ.end (by first | exact shq_s y | exact shq_q _) ?_
  refine TQ.condT (by first | exact shq_s y | exact shq_q _) rfl ?_
  refine TQ.skip (by first | exact shq_s y | exact shq_q _) ?_
  refine TQ.seq (by first | exact shq_s y | exact shq_q _) ?_
  refine TQ.block (by first | exact shq_s y | exact shq_q _) ?_
  refine TQ.rgn (by first | exact shq_s y | exact shq_q _) RgL.h ?_
  refine TQ.a (by first | exact shq_s y | exact shq_q _) ne_early rfl (p_move rfl rfl) ?_
  refine TQ.a (by first | exact shq_s y | exact shq_q _) ne_early rfl (p_nilV rfl rfl) ?_
  refine TQ.a (by first | exact shq_s y | exact shq_q _) ne_early rfl (p_fieldV rfl rfl FldOf.h dQ) ?_
  refine TQ.gRel ne_early rfl rfl (fun c hc=>by simp at hc; subst hc; rfl) rfl ?_
  refine TQ.end (by first | exact shq_s y | exact shq_q _) ?_
  refine TQ.inBlock (by first | exact shq_s y | exact shq_q _) ?_
  refine TQ.rgn (by first | exact shq_s y | exact shq_q _) RgL.h ?_
  refine TQ.a (by first | exact shq_s y | exact shq_q _) ne_early rfl (p_move rfl rfl) ?_
  refine TQ.a (by first | exact shq_s y | exact shq_q _) ne_early rfl (p_wrap rfl rfl rfl (r:=0) (.inr ⟨rfl,by decide⟩)) ?_
  refine TQ.a (by first | exact shq_s y | exact shq_q _) ne_early rfl (p_assign rfl rfl) ?_
  refine TQ.end (by first | exact shq_s y | exact shq_q _) ?_
  refine TQ.inLoop (by first | exact shq_s y | exact shq_q _) ?_
  refine TQ.seq (by first | exact shq_s y | exact shq_q _) ?_
  refine TQ.seq (by first | exact shq_s y | exact shq_q _) ?_
  refine TQ.rgn (by first | exact shq_s y | exact shq_q _) RgL.h ?_
  refine TQ.a (by first | exact shq_s y | exact shq_q _) ne_early rfl (p_move rfl rfl) ?_
  refine TQ.a (by first | exact shq_s y | exact shq_q _) ne_early rfl (p_cmp rfl rfl rfl rfl) ?_
  refine TQ.end (by first | exact shq_s y | exact shq_q _) ?_
  refine TQ.condF (by first | exact shq_s y | exact shq_q _) rfl ?_
  refine TQ.exit (by first | exact shq_s y | exact shq_q _) rfl ?_
  skip
  refine TQ.retQ0 Tryz.func149 (res_noneQ rfl) (hret _ _ (fun _=>none) rfl)
  skip
theorem done_ok {Ch:Nat->Goroutine->Hp->Prop} (y:Sy Tryz.prog) {k i:Nat} {x:Nat->Bool} {c0:Frame} {cs:List Frame} {H:Hp} (hc:c0.mode=.returning) (hq:Tq Tryz.prog 0 (G c0 cs)) :
  y.Sf false Ch k i (.w { pc:=.wr }) x (G (fr .deferred 151 none (#[.pointer (some ⟨y.Wg,0,none⟩)]++Array.replicate (Tryz.f151.ntmps - (#[.pointer (some ⟨y.Wg,0,none⟩)]:Array Value).size) undef) [] [.code (Tryz.f151.body.getD .skip)]) (c0::cs)) H:=by
 have key:TK (YU (y.shutF false Ch k i (.w { pc:=.wr }) x) gN (fun _=>⟨0,0,0⟩) .deferred (fun h=>by cases h) 151 (c0::cs) [] [] []) [] [.code (Tryz.f151.body.getD .skip)] [.v (.pointer (some ⟨y.Wg,0,none⟩)),.any,.any,.any] []:=by
  refine TK.nrm (env':=[.v (.pointer (some ⟨y.Wg,0,none⟩)),.any,.any,.any]) ?_ rfl rfl
  refine au [5,1] ?_
  refine TK.callZq (φ0:=fun _=>⟨0,0,0⟩) (vs:=[.pointer (some ⟨y.Wg,0,none⟩),.int .i64 (-1)]) rfl rfl rfl rfl (wgSub_ok y) (fun v=>?_)
  refine TQ.end (by first | exact shq_s y | exact shq_q _) ?_
  refine TQ.endD Tryz.func151 rfl hc hq
 have hl:=key [] ⟨fun x hx=>(by cases hx),List.nodup_nil,fun i hi=>(by cases hi),fun _ _ _=>rfl,Nat.le_refl _⟩ (fun _=>⟨0,0,0⟩) H (#[.pointer (some ⟨y.Wg,0,none⟩)]++Array.replicate (Tryz.f151.ntmps - (#[.pointer (some ⟨y.Wg,0,none⟩)]:Array Value).size) undef) (Agr.refl _ _) (Nat.le_refl _) (relG_none _ _) (fun d hd=>by cases hd) (relH_nil _ _) (relL_undef (relL_v _ _ [.pointer (some ⟨y.Wg,0,none⟩)]) 4)
 exact hl
theorem bye_ok {Ch:Nat->Goroutine->Hp->Prop} (y:Sy Tryz.prog) {k i:Nat} {x:Nat->Bool} {gm:Nat->Option Nat} {φ0:Nat->Loc3} {A0:List AObj} {K0:List Nat} {env:List AV} {K:KV} {f:FuncId} {fn:Func} (hf:Tryz.prog.funcs[f]? =some fn) (hr:fn.results=#[]) :
  TK (YT y false Ch k i (.w { pc:=.wr }) x gm φ0 .deferred (fun h=>by cases h) f [bot Tryz.prog] [dcall 151 #[.pointer (some ⟨y.Wg,0,none⟩)]] A0 K0) [] [] env K :=
 TK.bye hf hr Tryz.func151 (by kernel_rfl) (c:=Tryz.f151.body.getD .skip) rfl fun c0 cs H hc hq=>done_ok y hc hq
theorem offer0_ok {main:Bool} {T:Goroutine->Hp->Prop} (hT:Shut Tryz.prog main T) {gm:Nat->Option Nat} {jo jr:Nat} {cs:List Int} {cost:Int} {e:TypeId} {f:AV} :
  CallK Tryz.prog T gm 153 [.ptr jo 0,.agg [.sl jr 0 cs.length,.v (.int .i64 cost)],f] [(jo,.cells (z9.map AV.v) 187 true),(jr,.cells (cs.map fun a=>.v (.int .i64 a)) e false)] (fun r K'=>K'=[(jo,.cells [.sl jr 0 cs.length,.v (.int .i64 cost),.v (.bool true)] 187 true),(jr,.cells (cs.map fun a=>.v (.int .i64 a)) e false)]):=by
 refine callK_in 27 hT Tryz.func153 fun Y hret=>?_
 refine au [4,5,21] ?_
 intro jb hjb
 refine au [3,4] ?_
 refine TK.draw [0,1,2,3,4,5,6,7,8,9,10,11,12,13] [0,1,2,3,4,5,6,7,8,9,10,11,12,13] (by kernel_rfl) (by kernel_rfl) ?_
 refine TD.z [0] rfl (q_move rfl rfl) ?_
 refine TD.z [6] rfl (q_nilP rfl rfl) ?_
 refine TD.z [7] rfl (q_fieldAddr rfl rfl FldOf.h dQ) ?_
 refine TD.y [8] rfl (hq:=q_load1 rfl rfl TySz.h (List.Mem.head _) rfl) (h:=?_)
 refine TD.z [9] rfl (q_not rfl rfl) ?_
 refine TD.z [10] rfl (q_move rfl rfl) ?_
 refine TD.sp 11 (fun g1_6=>?_) (fun g1_6=>?_)
 ·refine TD.u [2,11] rfl ?_
  refine TD.u [4,11] rfl ?_
  refine TD.u [0,11] rfl ?_
  refine TD.u [11,14] rfl ?_
  refine TD.u [11,15] rfl ?_
  refine TD.u [11,16] rfl ?_
  refine TD.u [11,12,13,17] rfl ?_
  refine TD.z [11,18] rfl (q_pickT rfl rfl rfl) ?_
  refine TD.fin ?_
  refine au [18,5,1,1,8] ?_
  refine TK.a rfl (q_nilP rfl rfl) ?_
  refine au [7,17] ?_
  refine TK.a rfl (q_nilP rfl rfl) ?_
  refine au [7,17,3] ?_
  refine TK.rt0 hret [(jo,_),(jr,_)] ?_
  exact rfl
 simp at g1_6
theorem offer1_ok {main:Bool} {T:Goroutine->Hp->Prop} (hT:Shut Tryz.prog main T) {gm:Nat->Option Nat} {jo jr j0:Nat} {cs cs0:List Int} {cost cost0:Int} {e e0:TypeId} {f:AV} {t:Bool}
  (hbt:CallFK Tryz.prog T gm f [.agg [.sl jr 0 cs.length,.v (.int .i64 cost)],.agg [.sl j0 0 cs0.length,.v (.int .i64 cost0)]] [(jr,.cells (cs.map fun a=>.v (.int .i64 a)) e false),(j0,.cells (cs0.map fun a=>.v (.int .i64 a)) e0 false)] (fun r K'=>r=.v (.bool t)/\K'=[(jr,.cells (cs.map fun a=>.v (.int .i64 a)) e false),(j0,.cells (cs0.map fun a=>.v (.int .i64 a)) e0 false)])) :
  CallK Tryz.prog T gm 153 [.ptr jo 0,.agg [.sl jr 0 cs.length,.v (.int .i64 cost)],f] [(jo,.cells [.sl j0 0 cs0.length,.v (.int .i64 cost0),.v (.bool true)] 187 true),(j0,.cells (cs0.map fun a=>.v (.int .i64 a)) e0 false),(jr,.cells (cs.map fun a=>.v (.int .i64 a)) e false)] (fun r K'=>(t=true/\K'=[(jo,.cells [.sl jr 0 cs.length,.v (.int .i64 cost),.v (.bool true)] 187 true),(jr,.cells (cs.map fun a=>.v (.int .i64 a)) e false)])\/(t=false/\K'=[(jo,.cells [.sl j0 0 cs0.length,.v (.int .i64 cost0),.v (.bool true)] 187 true),(j0,.cells (cs0.map fun a=>.v (.int .i64 a)) e0 false)])):=by
 refine callK_in 27 hT Tryz.func153 fun Y hret=>?_
 refine au [4,5,21] ?_
 intro jb hjb
 refine au [3,4] ?_
 refine TK.draw [0,1,2,3,4,5,6,7,8,9,10,11,12,13] [0,1,2,3,4,5,6,7,8,9,10,11,12,13] (by kernel_rfl) (by kernel_rfl) ?_
 refine TD.z [0] rfl (q_move rfl rfl) ?_
 refine TD.z [6] rfl (q_nilP rfl rfl) ?_
 refine TD.z [7] rfl (q_fieldAddr rfl rfl FldOf.h dQ) ?_
 refine TD.y [8] rfl (hq:=q_load1 rfl rfl TySz.h (List.Mem.head _) rfl) (h:=?_)
 refine TD.z [9] rfl (q_not rfl rfl) ?_
 refine TD.z [10] rfl (q_move rfl rfl) ?_
 refine TD.sp 11 (fun g1_6=>?_) (fun g1_6=>?_)
 ·simp at g1_6
 refine TD.z [2,11] rfl (q_move rfl rfl) ?_
 refine TD.y [4,11] rfl (hq:=q_load rfl rfl TySz.h (List.Mem.head _) rfl) (h:=?_)
 refine TD.z [0,11] rfl (q_move rfl rfl) ?_
 refine TD.z [11,14] rfl (q_nilP rfl rfl) ?_
 refine TD.z [11,15] rfl (q_fieldAddr rfl rfl FldOf.h dQ) ?_
 refine TD.y [11,16] rfl (hq:=q_load rfl rfl TySz.h (List.Mem.head _) rfl) (h:=?_)
 refine TD.callF' (pend':=[⟨10,[11,15],[]⟩,⟨9,[11,14],[]⟩,⟨8,[0,11],[]⟩,⟨4,[9],[]⟩,⟨3,[8],[(_,_)]⟩,⟨2,[7],[]⟩,⟨1,[6],[]⟩,⟨0,[0],[]⟩]) [11,12,13,17] rfl rfl rfl rfl rfl rfl rfl (hbt) (by repeat (first | exact Split.none _ | exact Split.all _ | (apply Split.rem; repeat (first | exact Rem.head | apply Rem.tail)) | apply Split.right)) fun r1 K2 h3=>⟨?_,?_⟩
 ·rcases h3 with ⟨rfl,rfl⟩
  all_goals simp
 obtain ⟨rfl,rfl⟩:=h3
 try simp only [List.cons_append,List.nil_append]
 refine TD.norm (putS rfl (by simp only [List.set]; rfl)) ?_
 refine TD.z [11,18] rfl (q_pickF rfl rfl rfl) ?_
 refine TD.fin ?_
 refine au [20] ?_
 refine ⟨fun hc0=>?_,fun hc0=>?_⟩
 ·refine au [5,1,1,8] ?_
  refine TK.a rfl (q_nilP rfl rfl) ?_
  refine au [7,17] ?_
  refine TK.a rfl (q_nilP rfl rfl) ?_
  refine au [7,17,3] ?_
  refine TK.rt0 hret [(jo,_),(jr,_)] ?_
  exact .inl ⟨hc0,rfl⟩
 refine au [12] ?_
 refine TK.rt0 hret [(jo,_),(j0,_)] ?_
 exact .inr ⟨hc0,rfl⟩
section
variable {P:Program} {gm:Nat->Option Nat} {T:Goroutine->Hp->Prop}
theorem Kstep.permR {K K' K2:KV} {A A':List AObj} (h:Kstep K A K' A') (hp:K'.Perm K2):Kstep K A K2 A' :=
 ⟨h.view.sub fun x hx=>hp.symm.subset hx,(keys_perm hp).nodup_iff.1 h.nd,fun i hi=>h.own i ((keys_perm hp).symm.subset hi),h.kept,h.len⟩
theorem Kstep.permL {K K' K2:KV} {A A':List AObj} (h:Kstep K A K' A') (hp:K.Perm K2):Kstep K2 A K' A' :=
 ⟨h.view,h.nd,fun i hi=>(h.own i hi).imp (fun h=>(keys_perm hp).subset h) id,fun j hj hn=>h.kept j hj fun hm=>hn ((keys_perm hp).subset hm),h.len⟩
theorem CallK.frameP {g:FuncId} {args:List AV} {K Kb R:KV} {Q:AV->Prop} (h:CallK P T gm g args K (fun r K'=>Q r/\K'=K)) (hp:Kb.Perm (K++R)):CallK P T gm g args Kb (fun r K'=>Q r/\K'=Kb):=by
 intro A hv hn
 have hv2:View (K++R) A:=hv.sub fun x hx=>hp.symm.subset hx
 have hn2:=(keys_perm hp).nodup_iff.1 hn
 have hn3:=hn2
 rw [keys_app] at hn3
 refine (h A (hv2.sub fun x hx=>List.mem_append_left _ hx) (List.nodup_append.1 hn3).1).mono ?_
 rintro r A' ⟨K',hk,hq,rfl⟩
 refine ⟨Kb,?_,hq,rfl⟩
 have hs:Split (K'++R) K' R:=by
  have key:∀ (K:KV),Split (K++R) K R:=fun K=>by
   induction K with
   | nil=>exact .none _
   | cons x K ih=>exact .left ih
  exact key K'
 exact ((hk.frame hs hv2 hn2).permR hp.symm).permL hp.symm
end
theorem worker_ok (y:Sy Tryz.prog) {gm:Nat->Option Nat} {lo:Nat×Loc3} {off:Nat->List Int×Int} {bt:List Int×Int->List Int×Int->Bool} {jk jc jr jf:Nat} {a0 a1 a2 a3 a4 a5 a6 a7:AV} {cs:List Int} {a cost:Int} {e:TypeId} {gF:FuncId} {Sq:KV} {i:Nat}
  (hy:y.GI=GIo y.lkr off bt 187 lo.2) (hb0:lo.2.base=0) (hoff:y.lkr i=true->off i=(cs,cost)) (hnee:∀ i,y.lkr i=true->(off i).1≠[])
  (htr:∀ p q r,bt p q=true->bt q r=true->bt p r=true) (htot:∀ i j,y.lkr i=true->y.lkr j=true->off i=off j\/bt (off i) (off j)=true\/bt (off j) (off i)=true)
  (hsq:∀ {T:Goroutine->Hp->Prop},Shut Tryz.prog false T->CallK Tryz.prog T gm 135 [.agg [a0,a1,a2,a3,a4,a5,a6,a7],.sl jr 0 cs.length] ((jr,.cells (cs.map fun a=>.v (.int .i64 a)) e false)::Sq) (fun r K'=>r=.tup [.agg [.v (.int .i64 a),.v (.int .i64 cost)],.v (.bool (y.lkr i))]/\K'=(jr,.cells (cs.map fun a=>.v (.int .i64 a)) e false)::Sq))
  (hbt:∀ {T:Goroutine->Hp->Prop},Shut Tryz.prog false T->∀ (cs0:List Int) (cost0:Int) (j0:Nat) (e0:TypeId),CallFK Tryz.prog T gm (.fn gF [] []) [.agg [.sl jr 0 cs.length,.v (.int .i64 cost)],.agg [.sl j0 0 cs0.length,.v (.int .i64 cost0)]] [(jr,.cells (cs.map fun a=>.v (.int .i64 a)) e false),(j0,.cells (cs0.map fun a=>.v (.int .i64 a)) e0 false)] (fun r K'=>r=.v (.bool (bt (cs,cost) (cs0,cost0)))/\K'=[(jr,.cells (cs.map fun a=>.v (.int .i64 a)) e false),(j0,.cells (cs0.map fun a=>.v (.int .i64 a)) e0 false)]))
  {k:Nat} {x:Nat->Bool} {φ:Nat->Loc3} {A:List AObj} {Hc:Hp} {vs:Array Value} (hv:View ((lo.1,.gone)::(jk,.cells [a0,a1,a2,a3,a4,a5,a6,a7] 139 false)::(jc,.cells [.sl jr 0 cs.length] 27 false)::(jr,.cells (cs.map fun a=>.v (.int .i64 a)) e false)::(jf,.cells [.fn gF [] []] 146 false)::Sq) A) (hnd:(keys ((lo.1,AObj.gone)::(jk,.cells [a0,a1,a2,a3,a4,a5,a6,a7] 139 false)::(jc,.cells [.sl jr 0 cs.length] 27 false)::(jr,.cells (cs.map fun a=>.v (.int .i64 a)) e false)::(jf,.cells [.fn gF [] []] 146 false)::Sq)).Nodup) (hl1:lo.1<A.length) (hl2:φ lo.1=lo.2) (hg:RelG gm φ A.length) (hH:RelH φ A nF Hc) (hvs:RelL φ A.length [.v (.pointer (some ⟨y.Wg,0,none⟩)),.ptr jk 0,.ptr jc 0,.v (.pointer (some ⟨y.Mu,0,none⟩)),.ptr lo.1 0,.ptr jf 0] vs) :
  y.Sf false (fun _ _ _=>False) k i (y.A.st i) x (G (Frame.enter Tryz.prog 150 vs .deferred) [bot Tryz.prog]) Hc:=by
 rw [enter_atD (c:=Tryz.f150.body.getD .skip) vs Tryz.func150 rfl]
 refine (?_:TK (YT y false (fun _ _ _=>False) k i (y.A.st i) x gm φ .deferred (fun h=>by cases h) 150 [bot Tryz.prog] [] A (keys ((lo.1,AObj.gone)::(jk,.cells [a0,a1,a2,a3,a4,a5,a6,a7] 139 false)::(jc,.cells [.sl jr 0 cs.length] 27 false)::(jr,.cells (cs.map fun a=>.v (.int .i64 a)) e false)::(jf,.cells [.fn gF [] []] 146 false)::Sq))) [] [.code (Tryz.f150.body.getD .skip)] ([.v (.pointer (some ⟨y.Wg,0,none⟩)),.ptr jk 0,.ptr jc 0,.v (.pointer (some ⟨y.Mu,0,none⟩)),.ptr lo.1 0,.ptr jf 0]++List.replicate 17 .any) ((lo.1,.gone)::(jk,.cells [a0,a1,a2,a3,a4,a5,a6,a7] 139 false)::(jc,.cells [.sl jr 0 cs.length] 27 false)::(jr,.cells (cs.map fun a=>.v (.int .i64 a)) e false)::(jf,.cells [.fn gF [] []] 146 false)::Sq)) A ⟨hv,hnd,fun i hi=>.inl hi,fun _ _ _=>rfl,Nat.le_refl _⟩ φ Hc _ (Agr.refl _ _) (Nat.le_refl _) hg (fun d hd=>by cases hd) hH (relL_undef hvs 23)
 refine au [4,5] ?_
 refine TK.sDefer (vs:=[.pointer (some ⟨y.Wg,0,none⟩)]) rfl rfl rfl ?_
 refine au [3,4,5,8,9] ?_
 refine TK.cl rfl rfl rfl rfl ((hsq (y.shutF _ _ _ _ _ _)).frameP (R:=[_,_,_,_]) (((List.Perm.swap _ _ _).cons _ |>.cons _ |>.cons _).trans (List.perm_append_comm (l₁:=[_,_,_,_])))) ?_ (hs:=(.all _))
 rintro r1 K2 ⟨rfl,rfl⟩
 refine au [1,10,10,22] ?_
 intro j6 hj6
 refine au [17,2,3,4,5,1,3,20] ?_
 refine ⟨fun hc0=>?_,fun hc0=>?_⟩
 ·refine TK.castT (T':=.w { pc:=.ld }) rfl (by show TT.w { pc:=if y.lkr i=true then .ld else .wr }=_; rw [if_pos hc0]) ?_
  refine au [4,5] ?_
  refine TK.callS rfl rfl rfl rfl (lock_ok y (gin_of hy hb0 i)) hl1 hl2 ?_
  rintro r2 K2 T2 ⟨rfl,k2,x2,hk2,hx2,⟨b,hbest,hpl⟩,rfl⟩
  refine ⟨y.shutF _ _ _ _ _ _,?_⟩
  have hst:=fun b (h:IsBest y.lkr off bt x2 b)=>best_step (i:=i) h hc0 htr htot
  rw [hoff hc0] at hst
  rcases b with _ | ⟨cs0,cost0⟩
  ·have hpl:K2=[(lo.1,.cells (z9.map AV.v) 187 true)]:=hpl
   subst hpl
   refine au [3,4,5,9,7,9,39,9] ?_
   refine TK.cl rfl rfl rfl rfl (offer0_ok (y.shutF _ _ _ _ _ _)) ?_
   rintro r4 K5 rfl
   refine au [3,5] ?_
   refine TK.callE rfl rfl rfl rfl (unlock_ok y (give_of (cs:=cs) (cost:=cost) (jr:=jr) (e:=e) hy (by have:=hnee i hc0; rw [hoff hc0] at this; exact this) (hst none hbest) sQ sQ)) hl1 hl2 ?_
   rintro T4 r4 ⟨k4,hk4,rfl⟩
   refine ⟨y.shutF _ _ _ _ _ _,?_⟩
   refine au [3] ?_
   exact bye_ok y Tryz.func150 rfl
   skip
  ·obtain ⟨j0,e0,rfl⟩:=hpl
   refine au [3,4,5,9,7,9,39,9] ?_
   refine TK.cl rfl rfl rfl rfl (offer1_ok (y.shutF _ _ _ _ _ _) (hbt (y.shutF _ _ _ _ _ _) cs0 cost0 j0 e0)) ?_
   rintro r7 K8 h9
   rcases h9 with ⟨ht,rfl⟩ | ⟨ht,rfl⟩
   ·refine au [3,5] ?_
    refine TK.callE rfl rfl rfl rfl (unlock_ok y (give_of (cs:=cs) (cost:=cost) (jr:=jr) (e:=e) hy (by have:=hnee i hc0; rw [hoff hc0] at this; exact this) (by have:=hst _ hbest; rw [show keepB bt (cs,cost) (some (cs0,cost0))=(cs,cost) from if_pos ht] at this; exact this) sQ sQ)) hl1 hl2 ?_
    rintro T4 r4 ⟨k4,hk4,rfl⟩
    refine ⟨y.shutF _ _ _ _ _ _,?_⟩
    refine au [3] ?_
    exact bye_ok y Tryz.func150 rfl
    skip
   ·refine au [3,5] ?_
    refine TK.callE rfl rfl rfl rfl (unlock_ok y (give_of (cs:=cs0) (cost:=cost0) (jr:=j0) (e:=e0) hy (by obtain ⟨⟨i0,h1,_,h3⟩,_⟩:=hbest; have:=hnee i0 h1; rw [h3] at this; exact this) (by have:=hst _ hbest; rw [show keepB bt (cs,cost) (some (cs0,cost0))=(cs0,cost0) from if_neg (by rw [ht]; decide)] at this; exact this) sQ sQ)) hl1 hl2 ?_
    rintro T4 r4 ⟨k4,hk4,rfl⟩
    refine ⟨y.shutF _ _ _ _ _ _,?_⟩
    refine au [3] ?_
    exact bye_ok y Tryz.func150 rfl
    skip
 refine TK.castT (T':=.w { pc:=.wr }) rfl (by show TT.w { pc:=if y.lkr i=true then .ld else .wr }=_; rw [if_neg (by rw [hc0]; decide)]) ?_
 refine au [12] ?_
 exact bye_ok y Tryz.func150 rfl
 skip
instance:ApOf Tryz.prog 27 3 1 8:=⟨by kernel_rfl⟩
instance:FldOf Tryz.prog 113 0 0 true 7:=⟨by kernel_rfl⟩
instance:FldOf Tryz.prog 139 0 0 true 7:=⟨by kernel_rfl⟩
instance:FldOf Tryz.prog 26 4 4 false 1:=⟨by kernel_rfl⟩
instance:SlEl Tryz.prog 27 3 1:=⟨by kernel_rfl⟩
instance:TySz Tryz.prog 22 false 1:=⟨by kernel_rfl⟩
instance:TyZ Tryz.prog 3 [.int .i64 0]:=⟨by kernel_rfl⟩
instance:TyZA Tryz.prog 143 [.v (.slice none 0 0),.v (.int .i64 0)]:=⟨by kernel_rfl⟩
instance:TyZA Tryz.prog 187 [.v (.slice none 0 0),.v (.int .i64 0),.v (.bool false)]:=⟨by kernel_rfl⟩
instance:TyZA Tryz.prog 194 [.v (.int .i32 0),.v (.int .u32 0)]:=⟨by kernel_rfl⟩
instance:TyZA Tryz.prog 201 [.v (.int .u64 0),.v (.int .u32 0)]:=⟨by kernel_rfl⟩
instance:TyZA Tryz.prog 27 [.v (.slice none 0 0)]:=⟨by kernel_rfl⟩
instance:Und Tryz.prog 22 (.slice 94):=⟨by kernel_rfl⟩
instance:Und Tryz.prog 27 (.slice 3):=⟨by kernel_rfl⟩
end Go.Vel
namespace Go.Vel
open Go Go.Conc
open Mx (TT Th Mn S4 auto Mv4 ok4 bl4 kd dl MPc Pc okW okM Mv nx4 cnt)
section
variable {P:Program} {gm:Nat->Option Nat} {y:Sy P} {main:Bool} {Ch:Nat->Goroutine->Hp->Prop} {k i:Nat} {T:TT} {x:Nat->Bool}
variable {φ0:Nat->Loc3} {kdf:CallKind} {hkd:kdf≠.early} {f:FuncId} {cs:List Frame} {de:List Deferred} {A0:List AObj} {K0:List Nat} {ds:List Nat} {kk:List Item} {env:List AV} {K:KV}
local notation "Y" => YT y main Ch
theorem TK.loopR {c:Code} {ι:Type} (Tf:ι->TT) (I:Nat->ι->List AV->KV->Prop) (r0:Nat) (b0:ι) (h0:I r0 b0 env K) (e0:T=Tf b0)
  (round:∀ r k b env K,I r b env K->(∀ r' k' b' env' K',r'<r->I r' b' env' K'->TK (Y k' i (Tf b') x gm φ0 kdf hkd f cs de A0 K0) ds (.inLoop c::kk) env' K')->TK (Y k i (Tf b) x gm φ0 kdf hkd f cs de A0 K0) ds (.code c::.inLoop c::kk) env K) :
  TK (Y k i T x gm φ0 kdf hkd f cs de A0 K0) ds (.code (.loop c)::kk) env K:=by
 subst e0
 have key:∀ r k b env K,I r b env K->TK (Y k i (Tf b) x gm φ0 kdf hkd f cs de A0 K0) ds (.code c::.inLoop c::kk) env K:=by
  intro r
  induction r using Nat.strongRecOn with
  | _ r ih =>
   intro k b env K hI
   exact round r k b env K hI fun r' k' b' env' K' hlt hI'=>TK.inLoop (ih r' hlt k' b' env' K' hI')
 exact fun A hA=>TA.loop (key r0 k b0 env K h0 A hA)
end
end Go.Vel
namespace Go.Vel
open Go Go.Conc
section
variable {P:Program} {gm:Nat->Option Nat} {T:Goroutine->Hp->Prop} {Y:KX P gm T} {ds:List Nat} {k:List Item} {env:List AV} {K K':KV}
theorem TK.virtAt {l:List AV} {i:Nat} {t e:TypeId} {rw':Bool} {x:Option Addr} {size j:Nat} {K':Nat->KV} (hi:l[i]? =some (.v (.slice x 0 0))) (hu:∀ j',Upd K j (.cells l t rw') j (.cells (l.set i (.row j' 0)) t rw') (K' j')) (h:∀ j',j'∉keys K->TK Y ds k env ((j',.row [] e size)::K' j')):TK Y ds k env K:=fun A hA φ H ts h1 h2 h3 h4 h5 h6=>by
 have hk:A.length∉keys K:=fun hm=>absurd (hA.view.lt hm) (Nat.lt_irrefl _)
 have hH:=h5.virt e size
 have hag:=agr_upd3 φ A.length ⟨0,0,0⟩
 have hlen:(A++[AObj.row [] e size]).length=A.length+1:=by simp
 have hds:dsC (upd3 φ A.length ⟨0,0,0⟩) ds=dsC φ ds:=by
  unfold dsC
  exact List.map_congr_left fun d hd'=>by rw [hag d (h4 d hd')]
 have hj:=hA.view.get (hu A.length).mem
 have hjl:j<A.length:=(List.getElem?_eq_some_iff.1 hj).1
 have hj2:(A++[AObj.row [] e size])[j]? =some (.cells l t rw'):=by rw [List.getElem?_append_left hjl]; exact hj
 have hstep:=hA.step (.push hA.view hA.nd (.row [] e size))
 have hstep2:=hstep.step (.set hstep.view hstep.nd (Upd.tail (hu A.length)))
 have hil:i<l.length:=(List.getElem?_eq_some_iff.1 hi).1
 have hne:l≠[]:=fun e=>by rw [e] at hil; exact absurd hil (Nat.not_lt_zero _)
 rw [<- hds]
 refine h _ hk _ hstep2 _ H ts (h1.trans hag h2) (by simp; omega) (by simpa using h3.mono hag oQ) (fun d hd=>by have:=h4 d hd; simp; omega) (hH.turn hj2 (fun ho hl=>?_) (fun h=>h) (fun _=>rfl) (fun hs=>by simpa [sol] using hne)) (by simpa using h6.mono hag oQ)
 obtain ⟨rw2,cur,fz,q1,q2,q3⟩:=ho hne
 refine ⟨rw2,cur,fz,q1,fun h=>⟨(q2 h).1,(q2 h).2.1,by rw [List.length_set]; exact (q2 h).2.2⟩,fun t' a ha=>?_⟩
 by_cases e:t'=i
 ·subst e
  rw [List.getElem?_set_self hil] at ha
  cases ha
  obtain ⟨y,hy,hr⟩:=q3 t' _ hi
  refine ⟨y,hy,?_⟩
  rw [inv_v hr]
  refine .row oQ sQ ?_
  unfold rowV
  simp [upd3]
 ·rw [List.getElem?_set_ne (fun h=>e h.symm)] at ha
  exact q3 t' a ha
theorem TK.unrowAt {c i j n:Nat} {l l1:List AV} {t e1:TypeId} {s1:Nat} {rw':Bool} (hi:l[i]? =some (.row j n)) (hm:(j,.row l1 e1 s1)∈K) (hu:Upd K c (.cells l t rw') c (.cells (l.set i (.sl j 0 n)) t rw') K') (h:TK Y ds k env K'):TK Y ds k env K:=fun A hA φ H ts h1 h2 h3 h4 h5 h6=>by
 have hj:=hA.view.get hu.mem
 have hb:(φ j).base=0:=(h5.obj j _ (hA.view.get hm)).2.1
 have hil:i<l.length:=(List.getElem?_eq_some_iff.1 hi).1
 have hne:l≠[]:=fun e=>by rw [e] at hil; exact absurd hil (Nat.not_lt_zero _)
 refine h _ (hA.step (.set hA.view hA.nd hu)) φ H ts h1 (by simpa using h2) (by simpa using h3) (by simpa using h4) (h5.turn hj (fun ho hl=>?_) (fun h=>h) (fun _=>rfl) (fun hs=>by simpa [sol] using hne)) (by simpa using h6)
 obtain ⟨rw2,cur,fz,q1,q2,q3⟩:=ho hne
 refine ⟨rw2,cur,fz,q1,fun h=>⟨(q2 h).1,(q2 h).2.1,by rw [List.length_set]; exact (q2 h).2.2⟩,fun t' a ha=>?_⟩
 by_cases e:t'=i
 ·subst e
  rw [List.getElem?_set_self hil] at ha
  cases ha
  obtain ⟨y,hy,hr⟩:=q3 t' _ hi
  exact ⟨y,hy,by have:=unrow_rel (j:=j) hb hr; simpa [unrow] using this⟩
 ·rw [List.getElem?_set_ne (fun h=>e h.symm)] at ha
  exact q3 t' a ha
theorem relH_frzRow {φ:Nat->Loc3} {A:List AObj} {F H:Hp} (h:RelH φ A F H) {j:Nat} {l:List AV} {e:TypeId} {sz:Nat} (hj:A[j]? =some (.row l e sz)):RelH φ (A.set j (.cells l e false)) F H:=by
 have hg:∀ t w,(A.set j (.cells l e false))[t]? =some w->(t=j/\w=.cells l e false)\/(t≠j/\A[t]? =some w):=fun t w ht=>by
  rw [List.getElem?_set] at ht
  split at ht
  ·rename_i e'
   split at ht
   ·cases ht; exact .inl ⟨e'.symm,rfl⟩
   ·cases ht
  ·rename_i e'
   exact .inr ⟨fun h=>e' h.symm,ht⟩
 have hcap:l≠[]->0<(φ j).cap:=fun hl=>by
  rcases Nat.eq_zero_or_pos (φ j).cap with e | e
  ·exact absurd ((h.obj j _ hj).1 e) hl
  ·exact e
 refine ⟨fun t w ht=>?_,fun t t' w w' ht ht' hn he hl s1 s2=>?_,h.fr,fun t w ht he hs=>?_⟩
 ·rw [List.length_set]
  rcases hg t w ht with ⟨rfl,rfl⟩ | ⟨_,h2⟩
  ·intro hl
   obtain ⟨_,hb,hc⟩:=h.obj t _ hj
   obtain ⟨cur,h1,_,_,_,h3⟩:=hc (hcap hl)
   exact ⟨true,cur,(e,0,0),h1,(fun h=>by cases h),fun i a ha=>by rw [hb,Nat.zero_add]; exact h3 i a ha⟩
  ·exact h.obj t w h2
 ·rcases hg t w ht with ⟨rfl,rfl⟩ | ⟨_,h2⟩
  ·cases he
  ·rcases hg t' w' ht' with ⟨rfl,rfl⟩ | ⟨_,h2'⟩
   ·exact h.apart t t' w _ h2 hj hn he rfl s1 (hcap s2)
   ·exact h.apart t t' w w' h2 h2' hn he hl s1 s2
 ·rcases hg t w ht with ⟨rfl,rfl⟩ | ⟨_,h2⟩
  ·cases he
  ·exact h.frx t w h2 he hs
theorem TK.frzRow {j:Nat} {l:List AV} {e:TypeId} {sz:Nat} (h:TK Y ds k env K') (hu:Upd K j (.row l e sz) j (.cells l e false) K':=by repeat (first | exact Upd.head | apply Upd.tail)):TK Y ds k env K:=fun A hA φ H ts h1 h2 h3 h4 h5 h6=>by
 have hj:=hA.view.get hu.mem
 have hl:(A.set j (.cells l e false)).length=A.length:=by simp
 exact h _ (hA.step (.set hA.view hA.nd hu)) φ H ts h1 (by rw [hl]; exact h2) (by rw [hl]; exact h3) (by rw [hl]; exact h4) (relH_frzRow h5 hj) (by rw [hl]; exact h6)
end
end Go.Vel
end
