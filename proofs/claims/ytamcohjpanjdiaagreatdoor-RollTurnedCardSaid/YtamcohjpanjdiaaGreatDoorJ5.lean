/- Texts for the statements of chapter 8: what all of them need, part 6. It holds of every program, tape and world that the statements name, as each theorem says. -/
import Derived.Test.YtamcohjpanjdiaaGreatDoorJ3
import Derived.Test.YtamcohjpanjdiaaGreatDoorJ4
section
set_option linter.all false
set_option maxRecDepth 20000
set_option maxHeartbeats 60000000
open Go.Proofs.Tryz renaming prog -> tp
open List renaming getElem?_eq_getElem -> lA, getElem?_eq_some_iff -> lD, getD_eq_getElem?_getD -> lE, length_append -> lF, getElem?_append_left -> lG, mem_cons -> lI, length_map -> lJ, mem_cons_of_mem -> lL, mem_of_getElem? -> lN, getElem?_set_ne -> lP, getElem?_map -> lQ, mem_singleton -> lS, getElem?_eq_none -> lU, getElem?_set -> lX, mem_map -> lY, length_cons -> lZ, replicate -> mB
open Array renaming getElem?_eq_getElem -> mD
open Nat renaming le_refl -> mL, lt_of_lt_of_le -> mM, zero_le -> mN, zero_add -> mO, eq_zero_or_pos -> mP, zero_lt_one -> mS, le_trans -> mT
open Bool renaming and_eq_true -> mX
open Option renaming map_eq_some_iff -> mY
open Int renaming toNat_natCast -> mZ
open Go.Vel.TK renaming maskL -> bA, kp -> bC, a -> bH
namespace Go.Vel
open Go Go.Conc
open Go.ConcN (sumTo upd upd_ne upd_same)
open Go.ConcM (OsLater MuAt muA msA)
open Go.ConcR (KK wgBlock WgAt stA smA mk rd wr)
open Mx (TT Th Mn S4 auto Mv4 ok4 bl4 kd dl MPc Pc okW okM Mv nx4 cnt)
section
variable {P:Program} {y:Sy P} {Ch:Nat->Goroutine->Hp->Prop} {k i:Nat} {T T':TT} {x:Nat->Bool}
def Sy.Sq2 (y:Sy P) (Ch:Nat->Goroutine->Hp->Prop) (k i:Nat) (T:TT) (x:Nat->Bool) (g:Goroutine):Prop:=Seg P false true (LiveS y.A y.sh) (y.At false Ch k i T x) g (fun _=>none)
def Tq (P:Program) (d:Nat) (g:Goroutine):Prop:=∃ n,QuitsD P n d g
theorem za (d:Nat):ShQ P false (Tq P d):=fun g g' hr hr' h ⟨n,hq⟩=>⟨n+1,.ctl hr h hq⟩
theorem zb (y:Sy P) {Ch:Nat->Goroutine->Hp->Prop} {k i:Nat} {T:TT} {x:Nat->Bool}:ShQ P false (y.Sq2 Ch k i T x):=fun g g' hr hr' h hq=>by
 refine .step hr (fun w hf hl=>⟨g',w,#[],h w,yG hf (fun e he=>by simp at he),hr',fun _=>⟨rfl,rfl⟩⟩) fun w g2 w' es hf hl he=>?_;have:=(h w).symm.trans he;cases this;rw [yJ hf];exact hq
theorem qqQ {p:Prop} (h:p:=by first | exact zb _ | exact za _):p:=h
variable {φ0:Nat->Loc3} {kdf:CallKind} {f:FuncId} {cs:List Frame} {de:List Deferred} {kk:List Item} {env env':List AV} {ops:Array Oper} {q:Nat} {rest:List Nat} {o:Oper}
theorem TQ.book (hk:kd T=.book) (hb:∀ s,¬ bl4 T s) (hwk:y.A.wk T->∀ ts,mayWake P (G (fr kdf f none ts de (.inRegion ops (q::rest)::kk)) cs)=true)
  (h:∀ (w:World) (s:S4) (ts:Array Value),zG φ0 0 env ts->y.sh w s->ok4 T s->∃ T' s' v w' es,Mv4 y.n T s T' s'/\stepG P false (G (fr kdf f none ts de (.inRegion ops (q::rest)::kk)) cs) w=.go (G (fr kdf f none (putT ts o.dst v) de (.inRegion ops rest::kk)) cs) w' es/\Eff y.S2 w w'/\y.sh w' s'/\EvB false y.S2 (dl T) (dl T') es /\
   ((kd T'=.quit/\TQ φ0 P (Tq P (dl T')) kdf f cs de (.inRegion ops rest::kk) (zO env o.dst (.v v)))\/(kd T'≠.quit/\y.A.aft T'=true/\∀ k',k'<k->TQ φ0 P (y.Sq2 Ch k' i T' x) kdf f cs de (.inRegion ops rest::kk) (zO env o.dst (.v v))))) :
  TQ φ0 P (y.Sq2 Ch k i T x) kdf f cs de (.inRegion ops (q::rest)::kk) env:=by
 intro ts hE;refine .stop ?_;cases k with
 | zero=>trivial
 | succ k' =>
  refine ⟨rfl,rfl,fun hw=>hwk hw ts,?_⟩;have hk0:y.A.kd T=.book:=hk;rw [hk0];intro w s hf hsh hok;refine ⟨fun hb'=>absurd hb' (hb s),fun _=>?_⟩;obtain ⟨T',s',v,w',es,m1,m2,m3,m4,m5,m6⟩:=h w s ts hE hsh hok;have hP:=yo (a:=⟨ts,[]⟩) hE (RelV.v (φ:=φ0) (n:=0) v) o.dst;refine ⟨T',s',_,w',es,m1,m2,m3,m4,m5,?_⟩;rcases m6 with ⟨a,b⟩ | ⟨a,b,c⟩
  ·exact .inl ⟨a,b _ hP⟩
  ·refine .inr ⟨a,rfl,?_⟩;have hb':y.A.aft T'=true:=b;rw [hb'];exact c k' (Nat.lt_succ_self _) _ hP
theorem TQ.sMark {g:FuncId} {as0:Array Operand} {ats:Array TypeId} {e:Array Value->Sem Value} (hkd:kdf≠.early) (T':TT) (m:Mark) (hm:∀ g,m≠.extern g) [hx:Ext P g e] (ho:ops[q]? =some o) (hop:o.op=.call { callee:=.value (.func g),args:=as0,argTypes:=ats })
  (hmv:∀ s,ok4 T s->Mv4 y.n T s T' s) (hev:EvB false y.S2 (dl T) (dl T') #[mk m]) (hT':y.A.aft T'=true) (h:∀ k',k'<k->TQ φ0 P (y.Sq2 Ch k' i T' x) kdf f cs de (.inRegion ops rest::kk) env')
  (hw:zK ops env o=some true:=by rfl) (he:e=(fun _=>do mark m; Sem.pure Extern.Race.none_):=by rfl) (hk:kd T=.book:=by rfl) (hk':kd T'≠.quit:=by exact fun h=>by cases h) (hb:∀ s,¬ bl4 T s:=by exact fun _ h=>by cases h.1) (hwk:¬ y.A.wk T:=by exact fun h=>by cases h <;> rename_i h <;> cases h) (hd:zO env o.dst (.v (.tuple #[]))=env':=by exact zu rfl tQ) :
  TQ φ0 P (y.Sq2 Ch k i T x) kdf f cs de (.inRegion ops (q::rest)::kk) env:=by
 refine TQ.book (o:=o) hk hb (fun h=>absurd h hwk) fun w s ts hE hsh hok=>⟨T',s,.tuple #[],w,#[mk m],hmv s hok,?_,ki w,hsh,hev,.inr ⟨hk',hT',fun k' hk''=>by rw [hd]; exact h k' hk''⟩⟩;obtain ⟨fn,e1,e2,e3,e4,e5⟩:=hx.h;subst he;rw [fr_at,stepG_mark0 (b:=bf kdf f) (a:=⟨ts,de⟩) m hm ho (zJ (ts:=ts) hE hw) hkd hop e1 e2 e3 e4 e5,yd]; rfl
theorem TQ.gAdd {g:FuncId} {ca cb:Operand} {ats:Array TypeId} {e:Array Value->Sem Value} (hkd:kdf≠.early) (d:Int) [hx:Ext P g e] (ho:ops[q]? =some o) (hop:o.op=.call { callee:=.value (.func g),args:=#[ca,cb],argTypes:=ats })
  (h1:zn gN env ca=some (.v (.pointer (some (stA y.Wg))))) (h2:zn gN env cb=some (.v (.int .u64 d))) (hnew:∀ s:S4,∀ v,s.v=v+1->s.v<64->s.wt<=1->IntKind.u64.wrap (gval s+d)=gval { s with v:=v })
  (hl:∀ k',k'<k->TQ φ0 P (y.Sq2 Ch k' i (.w { pc:=.d2 }) x) kdf f cs de (.inRegion ops rest::kk) (zO env o.dst (.v (.int .u64 1))))
  (hq:∀ v wt:Nat,v<64->wt<=1->¬ (v=0/\wt=1)->TQ φ0 P (Tq P 1) kdf f cs de (.inRegion ops rest::kk) (zO env o.dst (.v (.int .u64 ((v:Int)*KK+wt)))))
  (hw:zK ops env o=some true:=by rfl) (he:e=Extern.Atomic.update (Op.intArith .add) .u64 true:=by rfl) :
  TQ φ0 P (y.Sq2 Ch k i (.w { pc:=.d1 }) x) kdf f cs de (.inRegion ops (q::rest)::kk) env:=by
 refine TQ.book (o:=o) Z (fun _ h=>by cases h.1) (fun h=>by cases h <;> rename_i h <;> cases h) fun w s ts hE hsh hok=>?_;obtain ⟨fn,e1,e2,e3,e4,e5⟩:=hx.h;subst he;obtain ⟨_,_,_,_,q5,q6,q7,q8⟩:=hok;obtain ⟨v,hv⟩:∃ v,s.v=v+1:=⟨s.v - 1,by have:1<=s.v:=q7; omega⟩;have hn:=hnew s v hv q5 q6;have hst:stepG P false (G (fr kdf f none ts de (.inRegion ops (q::rest)::kk)) cs) w=.go (G (fr kdf f none (putT ts o.dst (.int .u64 (gval { s with v:=v }))) de (.inRegion ops rest::kk)) cs) (w.setCell (stA y.Wg) (.int .u64 (gval { s with v:=v }))) #[⟨.cell (stA y.Wg),false,true⟩,⟨.cell (stA y.Wg),true,true⟩]:=by
  rw [fr_at,stepG_add_atomic (b:=bf kdf f) (a:=⟨ts,de⟩) ho (zJ (ts:=ts) hE hw) hkd hop e1 e2 e3 e4 .u64 e5 (ad:=stA y.Wg) (v:=gval s) (d:=d) (p_ev hE h1) (p_ev hE h2) hsh.2.cellSt (hsh.2.thaw 0),yd,hn]; rfl
 have hsh':y.sh (w.setCell (stA y.Wg) (.int .u64 (gval { s with v:=v }))) { s with v:=v }:=⟨vT hsh.1 (wg_ne (stA y.Wg) rfl) _,hsh.2.setSt _⟩;by_cases hz:v=0/\s.wt=1
 ·obtain ⟨rfl,hw1⟩:=hz;have hg:gval { s with v:=0 }=1:=by unfold gval; dsimp only; rw [hw1]; simp
  refine ⟨.w { pc:=.d2 },{ s with v:=0 },_,_,_,.d1a Z oQ hw1,hst,kv (a:=stA y.Wg) (.inr Z) _,hsh',vQ mS (a:=stA y.Wg) (.inr Z),.inr ⟨fun h=>(by cases h),rfl,fun k' hk'=>?_⟩⟩;rw [hg]; exact hl k' hk'
 ·refine ⟨.w { pc:=.quit },{ s with v:=v },_,_,_,.d1b Z hv hz,hst,kv (a:=stA y.Wg) (.inr Z) _,hsh',vQ mS (a:=stA y.Wg) (.inr Z),.inl ⟨rfl,hq v s.wt oQ q6 hz⟩⟩
theorem TQ.gLoad {g:FuncId} {ca:Operand} {ats:Array TypeId} {e:Array Value->Sem Value} (hkd:kdf≠.early) [hx:Ext P g e] (ho:ops[q]? =some o) (hop:o.op=.call { callee:=.value (.func g),args:=#[ca],argTypes:=ats })
  (h1:zn gN env ca=some (.v (.pointer (some (stA y.Wg))))) (hl:∀ k',k'<k->TQ φ0 P (y.Sq2 Ch k' i (.w { pc:=.d3 }) x) kdf f cs de (.inRegion ops rest::kk) (zO env o.dst (.v (.int .u64 1))))
  (hw:zK ops env o=some true:=by rfl) (he:e=Extern.Atomic.loadT (.int .u64):=by rfl) :
  TQ φ0 P (y.Sq2 Ch k i (.w { pc:=.d2 }) x) kdf f cs de (.inRegion ops (q::rest)::kk) env:=by
 refine TQ.book (o:=o) Z (fun _ h=>by cases h.1) (fun h=>by cases h <;> rename_i h <;> cases h) fun w s ts hE hsh hok=>?_;obtain ⟨fn,e1,e2,e3,e4,e5⟩:=hx.h;subst he;obtain ⟨_,_,_,_,_,_,q7,q8,q9⟩:=hok;have hg:gval s=1:=by unfold gval; rw [q7,q8]; simp
 refine ⟨.w { pc:=.d3 },s,.int .u64 1,w,_,.d2 rfl,?_,ki w,hsh,evb_r mS (a:=stA y.Wg) (.inr Z),.inr ⟨fun h=>(by cases h),rfl,hl⟩⟩;rw [fr_at,stepG_load_atomic (b:=bf kdf f) (a:=⟨ts,de⟩) ho (zJ (ts:=ts) hE hw) hkd hop e1 e2 e3 e4 .u64 e5 (ad:=stA y.Wg) (v:=gval s) (p_ev hE h1) hsh.2.cellSt,yd,hg]; rfl
theorem TQ.gStore {g:FuncId} {ca cb:Operand} {ats:Array TypeId} {e:Array Value->Sem Value} (hkd:kdf≠.early) [hx:Ext P g e] (ho:ops[q]? =some o) (hop:o.op=.call { callee:=.value (.func g),args:=#[ca,cb],argTypes:=ats })
  (h1:zn gN env ca=some (.v (.pointer (some (stA y.Wg))))) (h2:zn gN env cb=some (.v (.int .u64 0))) (hl:∀ k',k'<k->TQ φ0 P (y.Sq2 Ch k' i (.w { pc:=.d4 }) x) kdf f cs de (.inRegion ops rest::kk) env')
  (hw:zK ops env o=some true:=by rfl) (he:e=Extern.Atomic.storeT:=by rfl) (hd:zO env o.dst (.v (.tuple #[]))=env':=by exact zu rfl tQ) :
  TQ φ0 P (y.Sq2 Ch k i (.w { pc:=.d3 }) x) kdf f cs de (.inRegion ops (q::rest)::kk) env:=by
 refine TQ.book (o:=o) Z (fun _ h=>by cases h.1) (fun h=>by cases h <;> rename_i h <;> cases h) fun w s ts hE hsh hok=>?_;obtain ⟨fn,e1,e2,e3,e4,e5⟩:=hx.h;subst he;obtain ⟨_,_,_,_,_,_,q7,q8,q9⟩:=hok;have hg:gval { s with wt:=0 }=0:=by unfold gval; dsimp only; rw [q7]; simp
 refine ⟨.w { pc:=.d4 },{ s with wt:=0 },.tuple #[],w.setCell (stA y.Wg) (.int .u64 0),#[⟨.cell (stA y.Wg),true,true⟩],.d3 rfl,?_,kv (a:=stA y.Wg) (.inr Z) (.int .u64 0),⟨vT hsh.1 (wg_ne (stA y.Wg) Z) _,?_⟩,?_,.inr ⟨fun h=>(by cases h),rfl,fun k' hk'=>by rw [hd]; exact hl k' hk'⟩⟩
 ·rw [fr_at,stepG_store_atomic (b:=bf kdf f) (a:=⟨ts,de⟩) ho (zJ (ts:=ts) hE hw) hkd hop e1 e2 e3 e4 e5 (ad:=stA y.Wg) (k:=.u64) (v:=0) (p_ev hE h1) (p_ev hE h2) hsh.2.cellSt (hsh.2.thaw 0),yd]; rfl
 ·have:=hsh.2.setSt (0:Int);rw [<- hg] at this ⊢;exact this
 ·exact zad mS fun e he=>by simp at he; subst he; exact wL (a:=stA y.Wg) (.inr rfl) _
theorem TQ.gRel {g:FuncId} {as0:Array Operand} {ats:Array TypeId} {e:Array Value->Sem Value} (hkd:kdf≠.early) [hx:Ext P g e] (ho:ops[q]? =some o) (hop:o.op=.call { callee:=.value (.func g),args:=as0,argTypes:=ats })
  (h1:∀ c,as0[0]? =some c->zn gN env c=some (.v (.pointer (some (smA y.Wg))))) (h0:as0[0]?.isSome=true) (hq:TQ φ0 P (Tq P 1) kdf f cs de (.inRegion ops rest::kk) env')
  (hw:zK ops env o=some true:=by rfl) (he:e=Extern.Sync.semrelease:=by rfl) (hd:zO env o.dst (.v (.tuple #[]))=env':=by exact zu rfl tQ) :
  TQ φ0 P (y.Sq2 Ch k i (.w { pc:=.d4 }) x) kdf f cs de (.inRegion ops (q::rest)::kk) env:=by
 obtain ⟨fn,e1,e2,e3,e4,e5⟩:=hx.h;refine TQ.book (o:=o) Z (fun _ h=>by cases h.1) (fun _ ts=>Go.ConcR.Gen.mayWake_entry (b:=bf kdf f) (a:=⟨ts,de⟩) ho hop e1 e3) fun w s ts hE hsh hok=>?_;subst he;obtain ⟨_,_,_,_,_,_,q7,q8,q9⟩:=hok;obtain ⟨c,hc⟩:=Option.isSome_iff_exists.1 h0;have hx0:(as0.map (⟨ts,de⟩:Act).eval)[0]? =some (.pointer (some (smA y.Wg))):=by
  rw [Array.getElem?_map,hc];exact congrArg some (p_ev hE (h1 c hc))
 refine ⟨.w { pc:=.quit },{ s with ws:=s.ws+1 },.tuple #[],_,_,.d4 rfl,?_,kv (a:=smA y.Wg) (.inr Z) (.int .u32 1),⟨vT hsh.1 (wg_ne (smA y.Wg) Z) _,?_⟩,zac mS (a:=smA y.Wg) (.inr Z),.inl ⟨rfl,by rw [hd]; exact hq⟩⟩
 ·rw [fr_at,stepG_semrelease (b:=bf kdf f) (a:=⟨ts,de⟩) ho (zJ (ts:=ts) hE hw) hkd hop e1 e2 e3 e4 e5 hx0 hsh.2.cellSm (hsh.2.thaw 1),yd,q9]; rfl
 ·have:=hsh.2.setSm (1:Int);rw [q9];exact this
theorem TQ.retQ {g:FuncId} {e:Array Value->Sem Value} {fn:Func} {c0:Frame} {r:Value} [hx:Ext P g e] (hf:P.funcs[f]? =some fn) (hres:∀ ts,zG φ0 0 env ts->zR P (results fn ts)=some r) (hfin:Tq P 0 (G (c0.finish r) cs)) (he:e=(fun _=>do mark .enable; Sem.pure Extern.Race.none_):=by rfl) :
  TQ φ0 P (Tq P 1) .normal f (c0::cs) [dcall g #[]] (.code .ret::kk) env:=by
 intro ts hE;obtain ⟨fn',e1,e2,e3,e4,e5⟩:=hx.h;subst he;obtain ⟨n,hn⟩:=hfin;refine za 1 _ (G { fr .normal f none ts [dcall g #[]] (.code .ret::kk) with mode:=.returning } (c0::cs)) Z Z (fun _=>wV) ?_;refine ⟨n+1+1,QuitsD.unwind_mark (b:=bf .normal f) (a:=⟨ts,[dcall g #[]]⟩) (ds:=[]) .enable Z sQ Z e1 e2 e3 e4 e5 ?_⟩;rw [show deafBehind 1 #[⟨.mark .enable,false,true⟩]=0 from rfl];refine .ctl Z (fun w=>?_) hn;obtain ⟨r1,r2⟩:=kO _ (hres ts hE) w;exact stepG_leave (b:=bf .normal f) (a:=⟨ts,[]⟩) rfl rfl hf r1 r2
theorem TQ.retQ0 {g:FuncId} {e:Array Value->Sem Value} {fn:Func} {c0:Frame} {r:Value} [hx:Ext P g e] (hf:P.funcs[f]? =some fn) (hres:∀ ts,zG φ0 0 env ts->zR P (results fn ts)=some r) (hfin:Tq P 0 (G (c0.finish r) cs)) (he:e=(fun _=>do mark .enable; Sem.pure Extern.Race.none_):=by rfl) :
  TQ φ0 P (Tq P 1) .normal f (c0::cs) [dcall g #[]] [] env:=by
 intro ts hE;obtain ⟨fn',e1,e2,e3,e4,e5⟩:=hx.h;subst he;obtain ⟨n,hn⟩:=hfin;refine za 1 _ (G { fr .normal f none ts [dcall g #[]] [] with mode:=.returning } (c0::cs)) Z Z (fun _=>wC) ?_;refine ⟨n+1+1,QuitsD.unwind_mark (b:=bf .normal f) (a:=⟨ts,[dcall g #[]]⟩) (ds:=[]) .enable Z sQ Z e1 e2 e3 e4 e5 ?_⟩;rw [show deafBehind 1 #[⟨.mark .enable,false,true⟩]=0 from rfl];refine .ctl Z (fun w=>?_) hn;obtain ⟨r1,r2⟩:=kO _ (hres ts hE) w;exact stepG_leave (b:=bf .normal f) (a:=⟨ts,[]⟩) rfl rfl hf r1 r2
theorem TK.relW {gm:Nat->Option Nat} {hkd:kdf≠.early} {A0:List AObj} {K0:List Nat} {K:KV} {g:FuncId} {c:Operand} {ats:Array TypeId} {e:Array Value->Sem Value} (hkd':kdf≠.early) [hx:Ext P g e] (ho:ops[q]? =some o) (hop:o.op=.call { callee:=.value (.func g),args:=#[c],argTypes:=ats }) (hc:zn gm env c=some (.v (.pointer (some (stA y.Wg)))))
  (h:∀ k',k'<k->TQ φ0 P (y.Sq2 Ch k' i (.w { pc:=.wk }) x) kdf f cs de (.inRegion ops rest::kk) env')
  (hw:zK ops env o=some true:=by rfl) (he:e=Extern.Race.marked .releaseMerge:=by rfl) (hd:zO (env.map plainV) o.dst (.v (.tuple #[]))=env':=by exact zu rfl (by simp only [List.map,plainV,List.set]; rfl)) :
  TK (YT y false Ch k i (.w { pc:=.wr }) x gm φ0 kdf hkd f cs de A0 K0) [] (.inRegion ops (q::rest)::kk) env K:=by
 intro A hA φ H ts h1 h2 h3 h4 h5 h6;show y.Sf false Ch k i (.w { pc:=.wr }) x _ _;refine .stop ?_;cases k with
 | zero=>trivial
 | succ k' =>
  obtain ⟨fn,e1,e2,e3,e4,e5⟩:=hx.h;subst he;refine ⟨rfl,rfl,fun hw=>(by cases hw <;> rename_i hw <;> cases hw),?_⟩;have hk':y.A.kd (.w { pc:=.wr })=.relW:=rfl;rw [hk'];intro w s hf hsh;refine ⟨G (fr kdf f none (putT ts o.dst (.tuple #[])) de (.inRegion ops rest::kk)) cs,rfl,?_,?_⟩
  ·show stepG P false (G (fr kdf f none ts de _) cs) w=_;rw [fr_at,stepG_markAt (b:=bf kdf f) (a:=⟨ts,de⟩) .releaseMerge sQ ho (zJ (ts:=ts) h6 hw) hkd' hop e1 e2 e3 e4 e5 (ad:=stA y.Wg) (by simp [ev_v (dd:=de) h3 h6 hc]),yd];rfl
  ·have hP:=yo (a:=⟨ts,[]⟩) (wT (φ':=φ0) h6) (RelV.v (φ:=φ0) (n:=0) (.tuple #[])) o.dst;rw [hd] at hP;exact h k' (Nat.lt_succ_self _) _ hP
end
end Go.Vel
namespace Go.Vel
open Go Go.Conc Go.Proofs
open Go.ConcN (sumTo upd upd_ne upd_same)
open Go.ConcM (OsLater MuAt muA msA)
open Go.ConcR (KK wgBlock WgAt stA smA mk rd wr)
open Mx (TT Th Mn S4 auto Mv4 ok4 bl4 kd dl MPc Pc okW okM Mv nx4 cnt newOf)
instance:Ext tp 210 (Extern.Atomic.storeT):=⟨_,Tryz.func210,by kernel_rfl,by kernel_rfl,by kernel_rfl,by kernel_rfl⟩
instance:Ext tp 177 (Extern.Sync.semrelease):=⟨_,Tryz.func177,by kernel_rfl,by kernel_rfl,by kernel_rfl,by kernel_rfl⟩
theorem zcu (v wt:Nat):(v:Int)*KK+wt=((v*4294967296+wt:Nat):Int):=by unfold KK; simp
theorem zf1 {s:S4} {v:Nat} (h1:s.v=v+1) (h2:s.v<64) (h3:s.wt<=1):IntKind.u64.wrap (gval s+18446744069414584320)=gval { s with v:=v }:=by
 have e:gval s=(((v+1)*4294967296+s.wt:Nat):Int):=by unfold gval; rw [h1]; exact zcu _ _
 have e2:gval { s with v:=v }=((v*4294967296+s.wt:Nat):Int):=zcu _ _;rw [e,e2];unfold IntKind.wrap;simp only [show IntKind.u64.bits=64 from rfl,show IntKind.u64.signed=false from rfl,Bool.false_and];simp;omega
theorem bU3:∀ a:Nat,a<64->∀ b:Nat,b<2->bits .and .u64 ((a*4294967296+b:Nat):Int) 2147483648=0:=by decide +kernel
theorem bU4:∀ a:Nat,a<64->∀ b:Nat,b<2->bits .and .u64 ((a*4294967296+b:Nat):Int) 2147483647=((b:Nat):Int):=by decide +kernel
theorem wu32 {n:Int} (h:0<=n/\n<4294967296):IntKind.u32.wrap n=n:=by
 unfold IntKind.wrap;simp only [show IntKind.u32.bits=32 from rfl,show IntKind.u32.signed=false from rfl,Bool.false_and];simp;omega
theorem kP {fn:Func} {env:List AV} {φ:Nat->Loc3} (hr:fn.results=#[]) (ts:Array Value) (_:zG φ 0 env ts):zR tp (results fn ts)=some (.tuple #[]):=by
 unfold results;rw [hr,Array.mapM_eq_mapM_toList];rfl
theorem zaF {fn:Func} {env:List AV} {φ:Nat->Loc3} {t:Tmp} {v:Value} (hr:fn.results=#[.tmp t]) (he:env[t]? =some (.v v):=by rfl) (ts:Array Value) (h:zG φ 0 env ts):zR Tryz.prog (results fn ts)=some v:=by
 have e:results fn ts=pure (ts.getD t undef):=by
  unfold results;rw [hr,Array.mapM_eq_mapM_toList];rfl
 obtain ⟨y,hy,hr⟩:=h.get he;have:ts.getD t undef=v:=by
  rw [Array.getD_eq_getD_getElem?,hy];exact inv_v hr
 rw [e,this];rfl
instance:Cal tp 151:={}
instance:Cal tp 175:={}
end Go.Vel
namespace Go.Vel
open Go Go.Conc
open Go.ConcN (sumTo upd upd_ne upd_same)
open Go.ConcM (OsLater MuAt muA msA)
open Go.ConcR (KK wgBlock WgAt stA smA mk rd wr)
open Mx (TT Th Mn S4 auto Mv4 ok4 bl4 kd dl MPc Pc okW okM Mv nx4 cnt)
section
variable {P:Program} {gm:Nat->Option Nat}
variable {φ0:Nat->Loc3} {kdf:CallKind} {hkd:kdf≠.early} {f:FuncId} {cs:List Frame} {de:List Deferred} {A0:List AObj} {K0:List Nat} {kk:List Item} {env env':List AV} {K:KV} {ops:Array Oper} {q:Nat} {rest:List Nat} {o:Oper}
theorem TK.callZq {T:Goroutine->Hp->Prop} {hT:zo P false T} {fo:Operand} {ars:Array Operand} {at_:Array TypeId} {g:FuncId} {vs:List Value} {env2:Value->List AV} (ho:ops[q]? =some o) (hop:o.op=.call { callee:=.value fo,args:=ars,argTypes:=at_ })
  (hf:zn gm env fo=some (.fn g [] [])) (hargs:ars.toList.map (zI gm env)=vs.map .v) (hc:CallZ P T g vs (fun T'=>T'=fun g _=>Tq P 0 g))
  (h:∀ v,TQ φ0 P (Tq P 0) kdf f cs de (.inRegion ops rest::kk) (env2 v)) (he:∀ v,zO (env.map plainV) o.dst (.v v)=env2 v:=by exact fun _=>zu rfl (by simp only [List.map,plainV,List.set]; rfl)) (hw:zK ops env o=some true:=by rfl) (hg:yj P g=true:=by exact Cal.h) :
  TK (YU hT gm φ0 kdf hkd f cs de A0 K0) [] (.inRegion ops (q::rest)::kk) env K:=by
 intro A hA φ H ts h1 h2 h3 h4 h5 h6;refine hT.opF hkd ho (zJ h6 hw) (by rw [hop]; rfl) (uq (dd:=de) hop (zbf h3 h6 hf) hg ?_);rw [zbt h3 h6 hargs];refine hc H _ cs fun T' v H' hp'=>?_;subst hp';have hfin:=yU kdf f none ts (dsC φ []++de) ops q rest kk v;simp only [ho,Option.bind_some] at hfin;show Tq P 0 (G ((fr kdf f none ts (dsC φ []++de) (.inRegion ops (q::rest)::kk)).finish v) cs);rw [hfin];have hE:=yo (a:=⟨ts,[]⟩) (wT (φ':=φ0) h6) (RelV.v (φ:=φ0) (n:=0) v) o.dst;rw [he] at hE;exact h v _ hE
theorem TQ.endD {fn:Func} {c0:Frame} (hf:P.funcs[f]? =some fn) (hr:fn.results=#[]) (hc:c0.mode=.returning) (hfin:Tq P 0 (G c0 cs)):TQ φ0 P (Tq P 0) .deferred f (c0::cs) [] [] env:=by
 intro ts hE;obtain ⟨n,hn⟩:=hfin;exact za 0 _ (G { fr .deferred f none ts [] [] with mode:=.returning } (c0::cs)) rfl rfl (fun _=>wC) ⟨n+1,QuitsD.leaveD (b:=bf .deferred f) (a:=⟨ts,[]⟩) rfl rfl hf hr hc hn⟩
variable {y:Sy P} {Ch:Nat->Goroutine->Hp->Prop} {k i:Nat} {x:Nat->Bool}
theorem TK.bye {g:FuncId} {fn fd:Func} {c:Code} {vs:Array Value} (hf:P.funcs[f]? =some fn) (hr:fn.results=#[]) (hd:P.funcs[g]? =some fd) (hn:(fd.name == "runtime.NumGoroutine")=false) (hb:fd.body=some c)
  (h:∀ (c0:Frame) (cs:List Frame) (H:Hp),c0.mode=.returning->Tq P 0 (G c0 cs)->y.Sf false Ch k i (.w { pc:=.wr }) x (G (fr .deferred g none (vs++Array.replicate (fd.ntmps - vs.size) undef) [] [.code c]) (c0::cs)) H) :
  TK (YT y false Ch k i (.w { pc:=.wr }) x gm φ0 .deferred (fun h=>by cases h) f [bot P] [dcall g vs] A0 K0) [] [] env K:=by
 intro A hA φ H ts h1 h2 h3 h4 h5 h6;refine (y.shutF false Ch k i _ x).ctlF Z (fun _=>wC) rfl ?_;refine (y.shutF false Ch k i _ x).ctlF Z (fun w=>stepG_unwind_enter (b:=bf .deferred f) (a:=⟨ts,[dcall g vs]⟩) (ds:=[]) (todo:=[]) rfl hd hn hb) rfl ?_;exact h _ _ H rfl ⟨3,zdv hf hr⟩
end
theorem pureS_pure' {α:Type} {P:Program} (a:α):zR P (pure a)=some a:=rfl
def lend (Bs del:List Nat) (H:Hp):Hp:=fun b=>if del.elem b then none else if Bs.elem b then (H b).map fun x=>(false,x.2) else H b
theorem zf4 {Bs del:List Nat} {H:Hp} {b:Nat} {rw':Bool} {o:Obj} (h:lend Bs del H b=some (rw',o)):∃ r,H b=some (r,o)/\(rw'=true->r=true):=by
 unfold lend at h;split at h
 ·cases h
 ·split at h
  ·obtain ⟨x,hx,e⟩:=mY.1 h;cases e;exact ⟨x.1,hx,fun h=>by cases h⟩
  ·exact ⟨rw',h,id⟩
theorem wx {Bs del:List Nat} {H:Hp} {b:Nat} (h1:b∉Bs) (h2:b∉del):lend Bs del H b=H b:=by
 unfold lend;rw [if_neg (by simpa using h2),if_neg (by simpa using h1)]
theorem zdL {Bs del:List Nat} {H:Hp} {b:Nat} {r:Bool} {o:Obj} (h2:b∉del) (h:H b=some (r,o)):∃ r',lend Bs del H b=some (r',o):=by
 unfold lend;rw [if_neg (by simpa using h2)];split
 ·exact ⟨false,by rw [h]; rfl⟩
 ·exact ⟨r,h⟩
theorem RelH.lend {φ:Nat->Loc3} {A:List AObj} {F H:Hp} (h:RelH φ A F H) (Bs del:List Nat) (hB:∀ (t:Nat) o,A[t]? =some o->o.live=true->sol (φ t) o->(φ t).blk∉del/\(o.excl=true->(φ t).blk∉Bs)) (hF:∀ b,b∈Bs\/b∈del->F b=none):RelH φ A F (Go.Vel.lend Bs del H):=by
 refine ⟨fun t o ht=>?_,h.apart,fun b x hx=>?_,h.frx⟩
 ·have ho:=h.obj t o ht;cases o with
  | cells l e rw' =>
   intro hl;obtain ⟨r,cur,fz,q1,q2,q3⟩:=ho hl;obtain ⟨d1,d2⟩:=hB t _ ht rfl hl;cases rw' with
   | false =>
    obtain ⟨r',hr'⟩:=zdL (Bs:=Bs) d1 q1;exact ⟨r',cur,fz,hr',(fun h=>by cases h),q3⟩
   | true=>exact ⟨r,cur,fz,(wx (d2 rfl) d1).trans q1,q2,q3⟩
  | row l e size =>
   obtain ⟨h0,h2,hh⟩:=ho;refine ⟨h0,h2,fun hc=>?_⟩;obtain ⟨cur,q1,q2⟩:=hh hc;obtain ⟨d1,d2⟩:=hB t _ ht rfl hc;exact ⟨cur,(wx (d2 rfl) d1).trans q1,q2⟩
  | raw o =>
   obtain ⟨d1,d2⟩:=hB t _ ht rfl trivial;exact (wx (d2 rfl) d1).trans ho
  | loop f env ps x y st pj =>
   obtain ⟨ts,d,q1,q2⟩:=ho;obtain ⟨d1,d2⟩:=hB t _ ht rfl trivial;exact ⟨ts,d,(wx (d2 rfl) d1).trans q1,q2⟩
  | gone=>trivial
  | ro o =>
   obtain ⟨r,q1⟩:=ho;obtain ⟨d1,_⟩:=hB t _ ht rfl trivial;obtain ⟨r',hr'⟩:=zdL (Bs:=Bs) d1 q1;exact ⟨r',hr'⟩
 ·have hn:¬ (b∈Bs\/b∈del):=fun hm=>by rw [hF b hm] at hx; cases hx
  rw [wx (fun hm=>hn (.inl hm)) (fun hm=>hn (.inr hm))];exact h.fr b x hx
section
variable {P:Program} {gm:Nat->Option Nat} {y:Sy P} {k i:Nat} {T:TT} {x:Nat->Bool}
variable {φ0:Nat->Loc3} {kdf:CallKind} {hkd:kdf≠.early} {f:FuncId} {cs:List Frame} {de:List Deferred} {A0:List AObj} {K0:List Nat} {ds:List Nat} {kk:List Item} {env env':List AV} {K:KV} {ops:Array Oper} {q:Nat} {rest:List Nat} {o:Oper}
theorem TK.fork {fo:Operand} {at_:Array TypeId} {g:FuncId} {cp:List AV} {S:KV} {lo:Nat×Loc3} (hkf:kd T=.fork) (ho:ops[q]? =some o) (hop:o.op=.go { callee:=.value fo,args:=#[],argTypes:=at_ }) (hw:zK ops env o=some true) (hf:zn gm env fo=some (.fn g [] cp)) (hg:yj P g=true)
  (hS:∀ z∈S,z∈K/\∃ l e,l≠[]/\z.2=.cells l e false) (hSn:(keys S).Nodup) (hl1:lo.1<A0.length) (hl2:φ0 lo.1=lo.2) (hlS:lo.1∉keys S)
  (hchild:∀ k x φ A Hc vs,zM ((lo.1,.gone)::S) A->(keys ((lo.1,AObj.gone)::S)).Nodup->lo.1<A.length->φ lo.1=lo.2->RelG gm φ A.length->RelH φ A nF Hc->zG φ A.length cp vs->y.Sf false (fun _ _ _=>False) k (y.A.ix T) (y.A.st (y.A.ix T)) x (G (Frame.enter P g vs .deferred) [bot P]) Hc)
  (h:∀ k',k'<k->TK (YT y true y.Chd k' i (nx4 y.n T) x gm φ0 kdf hkd f cs de A0 K0) ds (.inRegion ops rest::kk) (zO env o.dst (.v undef)) K)
  (hwk:¬ y.A.wk T:=by exact fun h=>by cases h <;> rename_i h <;> cases h) :
  TK (YT y true y.Chd k i T x gm φ0 kdf hkd f cs de A0 K0) ds (.inRegion ops (q::rest)::kk) env K:=by
 intro A hA φ H ts h1 h2 h3 h4 h5 h6;show y.Sf true y.Chd k i T x _ _;refine .stop ?_;cases k with
 | zero=>trivial
 | succ k' =>
 refine ⟨rfl,rfl,fun hw=>absurd hw hwk,?_⟩;have hk':y.A.kd T=.fork:=hkf;rw [hk'];have hfo:=zz (a:=⟨ts,[]⟩) h3 h6 fo;rw [zx hf] at hfo;obtain ⟨xs,ys,ev,hr1,hr2⟩:=vn hfo;have hxs:xs=#[]:=Array.eq_empty_of_size_eq_zero (by have:=hr1.1; simpa using this.symm);subst hxs
 let Bs:List Nat:=S.map fun z=>(φ z.1).blk
 have hcaller:RelH φ A nF (lend Bs [] H):=by
  refine h5.lend Bs [] (fun t w ht hl hs=>⟨by simp,fun hx hm=>?_⟩) fun b hb=>rfl;obtain ⟨z,hz,hm⟩:=lY.1 hm;obtain ⟨hzK,l,e',hl0,hz2⟩:=hS z hz;have haz:=hA.view z hzK;rw [hz2] at haz;by_cases htz:t=z.1
  ·subst htz; rw [ht] at haz; cases haz; cases hx
  ·exact h5.apart t z.1 w _ ht haz htz hx rfl hs hl0 hm.symm
 let Ac:List AObj:=(List.range A.length).map fun t=>if (S.map (·.1)).elem t then (A[t]?).getD .gone else .gone
 have hAcl:Ac.length=A.length:=by simp [Ac]
 have hAc:∀ (t:Nat) (w:AObj),Ac[t]? =some w->w.live=true->∃ z∈S,z.1=t/\z.2=w:=fun t w ht hl=>by
  have hlt:t<A.length:=by rw [<- hAcl]; exact (lD.1 ht).1
  simp only [Ac,lQ,List.getElem?_range hlt,Option.map_some,Option.some.injEq] at ht;split at ht
  ·rename_i hm;simp only [List.elem_eq_mem,decide_eq_true_eq] at hm;obtain ⟨z,hz,e⟩:=lY.1 hm;have haz:=hA.view z (hS z hz).1;rw [e] at haz;rw [haz] at ht;exact ⟨z,hz,e,ht⟩
  ·subst ht; cases hl
 let Hc:Hp:=fun b=>if Bs.elem b then (H b).map fun z=>(false,z.2) else none
 have hHc:∀ b r w,b∈Bs->H b=some (r,w)->Hc b=some (false,w):=fun b r w hb hz=>by
  simp only [Hc];rw [if_pos (by simpa using hb),hz]; rfl
 have hRc:RelH φ Ac nF Hc:=by
  have hne:∀ (t:Nat) (w:AObj),Ac[t]? =some w->w.excl=false:=fun t w ht=>by
   cases hl:w.live with
   | false=>cases w <;> first | rfl | cases hl
   | true =>
    obtain ⟨z,hz,_,hq⟩:=hAc t w ht hl;obtain ⟨_,l,e',_,hz2⟩:=hS z hz;rw [<- hq,hz2]; rfl
  refine ⟨fun t w ht=>?_,fun t t' w w' ht _ _ he=>absurd he (by rw [hne t w ht]; decide),(fun b z hz=>by cases hz),fun t w ht he=>absurd he (by rw [hne t w ht]; decide)⟩;rw [hAcl];cases hl:w.live with
  | false=>cases w <;> first | trivial | cases hl
  | true =>
   obtain ⟨z,hz,rfl,rfl⟩:=hAc t w ht hl;obtain ⟨hzK,l,e',hl0,hz2⟩:=hS z hz;have haz:=hA.view z hzK;rw [hz2] at haz ⊢;intro _;obtain ⟨r,cur,fz,p1,_,p3⟩:=h5.obj z.1 _ haz hl0;exact ⟨false,cur,fz,hHc _ _ _ (List.mem_map_of_mem (f:=fun z:Nat×AObj=>(φ z.1).blk) hz) p1,(fun h=>by cases h),p3⟩
 have hlt:lo.1<A.length:=mM hl1 hA.len;have hVc:zM ((lo.1,.gone)::S) Ac:=fun z hz=>by
  rcases lI.1 hz with rfl | hz
  ·simp only [Ac,lQ,List.getElem?_range hlt,Option.map_some];rw [if_neg (by
    simp only [List.elem_eq_mem,decide_eq_true_eq];exact hlS)]
  ·have haz:=hA.view z (hS z hz).1;have hlz:z.1<A.length:=(lD.1 haz).1;simp only [Ac,lQ,List.getElem?_range hlz,Option.map_some];rw [if_pos (by simpa using ⟨z.2,hz⟩),haz]; rfl
 have hfin:=yU kdf f none ts (dsC φ ds++de) ops q rest kk undef;simp only [ho,Option.bind_some] at hfin;refine ⟨G (fr kdf f none (putT ts o.dst undef) (dsC φ ds++de) (.inRegion ops rest::kk)) cs,born P { target:=.fn (.func g) ys,args:=#[] },lend Bs [] H,Hc,rfl,rfl,fun w hfit=>⟨#[],?_,fun e he=>by simp at he⟩,(fun b r w hb=>?_),(fun b r w hb=>?_),⟨fun b w hb=>?_,fun b w hb=>?_⟩,?_,?_⟩
 ·show stepG P true (G (fr kdf f none ts (dsC φ ds++de) (.inRegion ops (q::rest)::kk)) cs) w=_;rw [vh hkd ho (zJ h6 hw) (by rw [hop]; rfl)];have hpure:zR P (execOp (evT ts) o)=some (.spawn { target:=.fn (.func g) ys,args:=#[] }):=by
   unfold execOp;rw [hop];dsimp only;have ev':evT ts fo=.func (.func g) #[] ys:=ev;refine zL (a:={ target:=.fn (.func g) ys,args:=#[] }) ?_ rfl;show zR P (Deferred.ofValue (evT ts fo) ((#[]:Array Operand).map (evT ts)))=_;rw [ev'];simp [Deferred.ofValue,pureS_pure']
  obtain ⟨r1,r2⟩:=kO _ hpure w;simp only [fr] at hfin;simp [stepG.apply,Sem.runT_eq,r1,r2,fr,GStep.after,seen,hfin,born];rfl
 ·obtain ⟨r',e1,e2⟩:=zf4 hb;exact ⟨r',e1,e2⟩
 ·simp only [Hc] at hb;split at hb
  ·obtain ⟨z,hz,e⟩:=mY.1 hb;cases e;exact ⟨z.1,hz,fun h=>by cases h⟩
  ·cases hb
 ·simp only [Hc];split
  ·rename_i hm;exfalso;unfold Go.Vel.lend at hb;rw [if_neg sQ,if_pos hm] at hb;obtain ⟨z,_,e⟩:=mY.1 hb;cases e
  ·rfl
 ·exfalso;simp only [Hc] at hb;split at hb
  ·obtain ⟨z,_,e⟩:=mY.1 hb;cases e
  ·cases hb
 ·intro k x;have hch:=hchild k x φ Ac Hc ys hVc (by rw [kN]; exact List.nodup_cons.2 ⟨hlS,hSn⟩) (by rw [hAcl]; exact hlt) ((h1 _ hl1).trans hl2) (by rw [hAcl]; exact h3) hRc (by rw [hAcl]; exact hr2);exact (y.shutF false _ k (y.A.ix T) _ x).ctlF rfl (fun w=>by have:=birth (main:=false) hg #[] ys w; rw [Array.empty_append] at this; exact this) rfl hch
 ·exact h k' (Nat.lt_succ_self _) A ⟨hA.view,hA.nd,hA.own,hA.kept,hA.len⟩ φ _ _ h1 h2 h3 h4 hcaller (yo (a:=⟨ts,[]⟩) h6 (.v undef) o.dst)
end
section
variable {P:Program} {gm:Nat->Option Nat}
def oneB (b:Nat) (x:Bool×Obj):Hp:=fun c=>if c=b then some x else none
theorem zbc {φ:Nat->Loc3} {n:Nat} {loc:Loc3} {H:Hp} {vs:List Value} {e:TypeId} (h:RelO φ n loc H (.cells (vs.map .v) e true)) (hne:vs≠[]):loc.base=0/\H loc.blk=some (true,.cells vs.toArray e (0,0)):=by
 obtain ⟨rw',cur,q,h1,h2,h3⟩:=h (by simpa using hne);obtain ⟨⟨rfl,rfl⟩,hb,hl⟩:=h2 rfl;refine ⟨hb,?_⟩;have:cur=vs.toArray:=by
  refine Array.ext' ?_;refine List.ext_getElem? fun j=>?_;rw [lJ] at hl;by_cases hj:j<vs.length
  ·obtain ⟨y,hy,hr⟩:=h3 j (.v vs[j]) (by simp [hj]);rw [hb,mO] at hy;have:=inv_v hr;rw [Array.getElem?_toList,hy,this];simp [hj]
  ·rw [lU (by rw [Array.length_toList]; omega),lU (by simpa using hj)]
 rw [<- this];exact h1
theorem TK.into {Ψ:Goroutine->World->Prop} {Y:KX P gm (BT P Ψ)} {n:Nat} {lkr:Nat->Bool} {tM tW tO:TypeId} {jm jw jo d7 d8:Nat} {vs9:List Value} {R:KV} {kk:List Item} {env:List AV} (GI:Loc3->(Nat->Bool)->Hp->Prop) (hn:1<=n/\n<=31) (hro:Y.X.ro=none)
  (h7:env[d7]? =some (.ptr jm 0)) (h8:env[d8]? =some (.ptr jw 0)) (h78:d7≠d8) (h9:vs9≠[]) (hG0:∀ lo,lo.base=0->GI lo (fun _=>false) (oneB lo.blk (true,.cells vs9.toArray tO (0,0))))
  (h:∀ (y:Sy P) (φ0:Nat->Loc3) (A0:List AObj),y.n=n->y.lkr=lkr->y.Stop=BT P Ψ->y.GI=GI (φ0 jo)->(φ0 jo).base=0->jo<A0.length ->
   (∀ {ds k env K'},TK Y ds k env K'->TK (YU (kI (P:=P) Ψ) gm φ0 Y.X.kd Y.X.hkd Y.X.f Y.X.cs Y.X.dd A0 (jm::jw::jo::keys R)) ds k env K') ->
   ∀ k,TK (YT y true y.Chd k 0 (.m { pc:=.a0,j:=0 }) (fun _=>false) gm φ0 Y.X.kd Y.X.hkd Y.X.f Y.X.cs Y.X.dd A0 (jm::jw::jo::keys R)) [] kk ((env.set d7 (.v (.pointer (some ⟨y.Mu,0,none⟩)))).set d8 (.v (.pointer (some ⟨y.Wg,0,none⟩)))) ((jo,.gone)::R)) :
  TK Y [] kk env ((jm,.cells ([.int .i32 0,.int .u32 0].map .v) tM true)::(jw,.cells ([.int .u64 0,.int .u32 0].map .v) tW true)::(jo,.cells (vs9.map .v) tO true)::R):=by
 intro A hA φ H ts h1 h2 h3 h4 h5 h6;have hvm:=hA.view _ (List.mem_cons_self);have hvw:=hA.view _ (lL _ List.mem_cons_self);have hvo:=hA.view _ (lL _ (lL _ List.mem_cons_self));obtain ⟨bm,em⟩:=zbc (h5.obj _ _ hvm) sQ;obtain ⟨bw,ew⟩:=zbc (h5.obj _ _ hvw) sQ;obtain ⟨bo,eo⟩:=zbc (h5.obj _ _ hvo) h9;have hnd:=hA.nd;rw [kN,kN,kN,List.nodup_cons,List.nodup_cons,List.nodup_cons] at hnd;obtain ⟨n1,n2,n3,n4⟩:=hnd;have jmw:jm≠jw:=fun e=>n1 (by rw [e]; exact List.mem_cons_self);have jmo:jm≠jo:=fun e=>n1 (by rw [e]; exact lL _ List.mem_cons_self);have jwo:jw≠jo:=fun e=>n2 (by rw [e]; exact List.mem_cons_self);have jmR:jm∉keys R:=fun e=>n1 (lL _ (lL _ e));have jwR:jw∉keys R:=fun e=>n2 (lL _ e);have hne:(φ jm).blk≠(φ jw).blk:=h5.apart jm jw _ _ hvm hvw jmw rfl rfl (by simp [sol]) (by simp [sol]);have hneo:(φ jm).blk≠(φ jo).blk:=h5.apart jm jo _ _ hvm hvo jmo rfl rfl (by simp [sol]) (by simpa [sol] using h9);have hnewo:(φ jw).blk≠(φ jo).blk:=h5.apart jw jo _ _ hvw hvo jwo rfl rfl (by simp [sol]) (by simpa [sol] using h9)
 let y:Sy P:={ n,lkr,tM,tW,Mu:=(φ jm).blk,Wg:=(φ jw).blk,hne,GI:=GI (φ jo),Stop:=BT P Ψ }
 let A':List AObj:=((A.set jm .gone).set jw .gone).set jo .gone
 have hAl:A'.length=A.length:=by simp [A']
 have hlt:jo<A.length:=(lD.1 hvo).1;have hget:∀ t,t≠jm->t≠jw->t≠jo->A'[t]? =A[t]? :=fun t a b c=>by
  simp only [A'];rw [lP (Ne.symm c),lP (Ne.symm b),lP (Ne.symm a)]
 have hlive:∀ t (w:AObj),A'[t]? =some w->w.live=true->t≠jm/\t≠jw/\t≠jo:=fun t w ht hl=>by
  simp only [A',lX] at ht;refine ⟨fun e=>?_,fun e=>?_,fun e=>?_⟩ <;> subst e
  ·rw [if_neg (Ne.symm jmo),if_neg (Ne.symm jmw)] at ht;simp only [↓reduceIte] at ht;split at ht <;> cases ht;cases hl
  ·rw [if_neg (Ne.symm jwo)] at ht;simp only [↓reduceIte] at ht;split at ht <;> cases ht;cases hl
  ·simp only [↓reduceIte] at ht;split at ht <;> cases ht;cases hl
 let H':Hp:=fun b=>if b=(φ jm).blk\/b=(φ jw).blk\/b=(φ jo).blk then none else H b
 let L:Hp:=oneB (φ jo).blk (true,.cells vs9.toArray tO (0,0))
 have hblk:∀ t (w:AObj),A'[t]? =some w->w.live=true->sol (φ t) w->H' (φ t).blk=H (φ t).blk:=fun t w ht hl hs=>by
  obtain ⟨a,b,c⟩:=hlive t w ht hl;rw [hget t a b c] at ht;simp only [H'];rw [if_neg];rintro (e | e | e)
  ·exact h5.apart jm t _ _ hvm ht (Ne.symm a) rfl hl (by simp [sol]) hs e.symm
  ·exact h5.apart jw t _ _ hvw ht (Ne.symm b) rfl hl (by simp [sol]) hs e.symm
  ·exact h5.apart jo t _ _ hvo ht (Ne.symm c) rfl hl (by simpa [sol] using h9) hs e.symm
 have hF0:=Y.X.hF0;have hR':RelH φ A' nF H':=by
  refine ⟨fun t w ht=>?_,fun t t' w w' ht ht' hn' he hl s1 s2=>?_,fun b x hx=>(by cases hx),fun t w ht he hs=>rfl⟩
  ·rw [hAl];cases hl:w.live with
   | false=>cases w <;> first | trivial | cases hl
   | true =>
    obtain ⟨a,b,c⟩:=hlive t w ht hl;have ho:=h5.obj t w (by rw [<- hget t a b c]; exact ht);exact ho.mono (Agr.refl _ _) (mL _) (fun _ hs=>hblk t w ht hl hs)
  ·have l1:w.live=true:=by cases w <;> first | rfl | cases he
   obtain ⟨a,b,c⟩:=hlive t w ht l1;obtain ⟨a',b',c'⟩:=hlive t' w' ht' hl;exact h5.apart t t' w w' (by rw [<- hget t a b c]; exact ht) (by rw [<- hget t' a' b' c']; exact ht') hn' he hl s1 s2
 have hvR:zM R A:=hA.view.sub fun x hx=>lL _ (lL _ (lL _ hx));have hK:Kn (YT y true y.Chd 0 0 (.m { pc:=.a0,j:=0 }) (fun _=>false) gm φ Y.X.kd Y.X.hkd Y.X.f Y.X.cs Y.X.dd A' (jm::jw::jo::keys R)) ((jo,.gone)::R) A':=by
  refine ⟨fun x hx=>?_,?_,fun i hi=>?_,fun _ _ _=>rfl,mL _⟩
  ·rcases lI.1 hx with rfl | hx
   ·simp only [A'];rw [List.getElem?_set_self (by simpa using hlt)]
   ·have hm:=yp hx;rw [hget x.1 (fun e=>jmR (e ▸ hm)) (fun e=>jwR (e ▸ hm)) (fun e=>n3 (e ▸ hm))];exact hvR x hx
  ·rw [kN]; exact List.nodup_cons.2 ⟨n3,n4⟩
  ·left;rw [kN] at hi;exact lL _ (lL _ hi)
 have hE:zG φ A'.length ((env.set d7 (.v (.pointer (some ⟨y.Mu,0,none⟩)))).set d8 (.v (.pointer (some ⟨y.Wg,0,none⟩)))) ts:=by
  rw [hAl];refine ⟨by simpa using h6.1,fun j a z ha hz=>?_⟩;rw [lX] at ha;split at ha
  ·rename_i e;subst e;split at ha
   ·cases ha;obtain ⟨_,e⟩:=kH (h6.2 _ _ z h8 hz);rw [e,bw];exact .v _
   ·cases ha
  ·rw [lX] at ha;split at ha
   ·rename_i e;subst e;split at ha
    ·cases ha;obtain ⟨_,e⟩:=kH (h6.2 _ _ z h7 hz);rw [e,bm];exact .v _
    ·cases ha
   ·exact h6.2 j a z ha hz
 have hfr:G (fr Y.X.kd Y.X.f Y.X.ro ts (dsC φ []++Y.X.dd) kk) Y.X.cs=G (fr Y.X.kd Y.X.f none ts (dsC φ []++Y.X.dd) kk) Y.X.cs:=by rw [hro]
 rw [hfr];refine zdj y (H':=H') (L:=L) hn ?_ ?_ Z (fun b r o hb=>?_) (fun b r o hb=>?_) ⟨fun b o hb=>?_,fun b o hb=>?_⟩ (fun b z hb=>?_) (fun b z hb=>?_) (hG0 _ bo) (fun a Hs hs=>hs) fun k=>?_
 ·exact em
 ·exact ew
 ·simp only [H'] at hb;split at hb
  ·cases hb
  ·exact ⟨r,hb,id⟩
 ·simp only [L,oneB] at hb;split at hb
  ·rename_i e; subst e; cases hb; exact ⟨true,eo,id⟩
  ·cases hb
 ·simp only [L,oneB];split
  ·rename_i e; subst e;simp only [H'] at hb;rw [if_pos sQ] at hb;cases hb
  ·rfl
 ·simp only [L,oneB] at hb;split at hb
  ·rename_i e; subst e;simp only [H'];rw [if_pos sQ]
  ·cases hb
 ·rintro (e | e)
  ·have e':b=(φ jm).blk:=e;subst e';simp only [H'] at hb;rw [if_pos sQ] at hb;cases hb
  ·have e':b=(φ jw).blk:=e;subst e';simp only [H'] at hb;rw [if_pos sQ] at hb;cases hb
 ·rintro (e | e)
  ·have e':b=(φ jm).blk:=e;subst e';simp only [L,oneB] at hb;rw [if_neg hneo] at hb;cases hb
  ·have e':b=(φ jw).blk:=e;subst e';simp only [L,oneB] at hb;rw [if_neg hnewo] at hb;cases hb
 ·refine h y φ A' Z Z Z Z bo (by rw [hAl]; exact hlt) ?_ k A' ⟨hK.view,hK.nd,hK.own,hK.kept,hK.len⟩ φ H' ts (Agr.refl _ _) (mL _) (by rw [hAl]; exact h3) (fun d hd=>by cases hd) hR' hE;intro ds k2 env2 K2 hT A2 hA2 φ2 H2 ts2 g1 g2 g3 g4 g5 g6;have hlen:A.length<=A2.length:=by have:=hA2.len; rw [<- hAl]; exact this
  have e0:(YU (kI (P:=P) Ψ) gm φ Y.X.kd Y.X.hkd Y.X.f Y.X.cs Y.X.dd A' (jm::jw::jo::keys R)).X.n0=A.length:=hAl;have hag:Agr φ φ2 A.length:=fun i hi=>g1 i (by rw [e0]; exact hi);have hKn:Kn Y K2 A2:=by
   refine ⟨hA2.view,hA2.nd,fun i hi=>?_,fun t ht1 ht2=>?_,mT hA.len hlen⟩
   ·rcases hA2.own i hi with hm | hm
    ·exact hA.own i hm
    ·have hm':A'.length<=i:=hm;rw [hAl] at hm';exact .inr (mT hA.len hm')
   ·have hnk:t∉jm::jw::jo::keys R:=fun hm=>by
     rcases hA.own t hm with h' | h'
     ·exact ht2 h'
     ·omega
    have hk2:=hA2.kept t (by show t<A'.length; rw [hAl]; exact mM ht1 hA.len) hnk;rw [hk2];show A'[t]? =_;rw [hget t (fun e=>hnk (by simp [e])) (fun e=>hnk (by simp [e])) (fun e=>hnk (by simp [e]))];exact hA.kept t ht1 ht2
  have:=hT A2 hKn φ2 H2 ts2 (h1.trans hag h2) (mT h2 hlen) g3 g4 (by rw [hF0]; exact g5) g6;have hfr2:G (fr Y.X.kd Y.X.f Y.X.ro ts2 (dsC φ2 ds++Y.X.dd) k2) Y.X.cs=G (fr Y.X.kd Y.X.f none ts2 (dsC φ2 ds++Y.X.dd) k2) Y.X.cs:=by rw [hro]
  rw [hfr2] at this;exact this
end
end Go.Vel
namespace Go.Vel
open Go Go.Conc
section
variable {P:Program} {gm:Nat->Option Nat} {T:Goroutine->Hp->Prop} {Y:KX P gm T} {ds:List Nat} {k:List Item} {env:List AV} {K K':KV}
theorem zgs {φ:Nat->Loc3} {A:List AObj} {F H:Hp} (h:RelH φ A F H) {j:Nat} {l:List AV} {e:TypeId} (hj:A[j]? =some (.cells l e true)):RelH φ (A.set j (.cells l e false)) F H:=by
 have hg:∀ t w,(A.set j (.cells l e false))[t]? =some w->(t=j/\w=.cells l e false)\/(t≠j/\A[t]? =some w):=fun t w ht=>by
  rw [lX] at ht;split at ht
  ·rename_i e';split at ht
   ·cases ht; exact .inl ⟨e'.symm,rfl⟩
   ·cases ht
  ·rename_i e';exact .inr ⟨fun h=>e' h.symm,ht⟩
 refine ⟨fun t w ht=>?_,fun t t' w w' ht ht' hn he hl s1 s2=>?_,h.fr,fun t w ht he hs=>?_⟩
 ·rw [List.length_set];rcases hg t w ht with ⟨rfl,rfl⟩ | ⟨_,h2⟩
  ·intro hl;obtain ⟨rw',cur,q,h1,h2,h3⟩:=h.obj t _ hj hl;exact ⟨rw',cur,q,h1,(fun h=>by cases h),h3⟩
  ·exact h.obj t w h2
 ·rcases hg t w ht with ⟨rfl,rfl⟩ | ⟨_,h2⟩
  ·cases he
  ·rcases hg t' w' ht' with ⟨rfl,rfl⟩ | ⟨_,h2'⟩
   ·exact h.apart t t' w _ h2 hj hn he rfl s1 s2
   ·exact h.apart t t' w w' h2 h2' hn he hl s1 s2
 ·rcases hg t w ht with ⟨rfl,rfl⟩ | ⟨_,h2⟩
  ·cases he
  ·exact h.frx t w h2 he hs
theorem TK.frz {j:Nat} {l:List AV} {e:TypeId} (h:TK Y ds k env K') (hu:Upd K j (.cells l e true) j (.cells l e false) K':=by repeat (first | exact Upd.head | apply Upd.tail)):TK Y ds k env K:=fun A hA φ H ts h1 h2 h3 h4 h5 h6=>by
 have hj:=hA.view.get hu.mem;have hl:(A.set j (.cells l e false)).length=A.length:=by simp
 exact h _ (hA.step (.set hA.view hA.nd hu)) φ H ts h1 (by rw [hl]; exact h2) (by rw [hl]; exact h3) (by rw [hl]; exact h4) (zgs h5 hj) (by rw [hl]; exact h6)
end
section
variable {φ:Nat->Loc3} {A:List AObj} {H:Hp}
theorem zbS {n:Nat} {loc:Loc3} {w:AObj} (h:RelO φ n loc H w) (hl:w.live=true) (hs:sol loc w):∃ x,H loc.blk=some x:=by
 cases w with
 | cells l e rw'=>obtain ⟨r,cur,q,h1,_⟩:=h hs; exact ⟨_,h1⟩
 | row l e size=>obtain ⟨_,_,hc⟩:=h; obtain ⟨cur,h1,_⟩:=hc hs; exact ⟨_,h1⟩
 | raw o=>exact ⟨_,h⟩
 | loop f env ps x y st pj=>obtain ⟨ts,d,h1,_⟩:=h; exact ⟨_,h1⟩
 | gone=>cases hl
 | ro o=>obtain ⟨r,h⟩:=h; exact ⟨_,h⟩
theorem zfj {n:Nat} {loc:Loc3} {w:AObj} (h:RelO φ n loc H w) (he:w.excl=true) (hs:sol loc w):∃ o,H loc.blk=some (true,o):=by
 cases w with
 | cells l e rw' =>
  obtain ⟨r,cur,q,h1,h2,_⟩:=h hs;have hr:rw'=true:=he;rw [(h2 hr).1.1] at h1;exact ⟨_,h1⟩
 | row l e size=>obtain ⟨_,_,hc⟩:=h; obtain ⟨cur,h1,_⟩:=hc hs; exact ⟨_,h1⟩
 | raw o=>exact ⟨_,h⟩
 | loop f env ps x y st pj=>obtain ⟨ts,d,h1,_⟩:=h; exact ⟨_,h1⟩
 | gone=>cases he
 | ro o=>cases he
theorem zdU (h:RelH φ A nF H) {j:Nat} (hj:A[j]? =some .gone) {o:AObj} (ho:RelO φ A.length (φ j) H o) (hd:∀ t w,A[t]? =some w->t≠j->w.live=true->sol (φ t) w->(φ t).blk≠(φ j).blk):RelH φ (A.set j o) nF H:=by
 have hg:∀ t w,(A.set j o)[t]? =some w->(t=j/\w=o)\/(t≠j/\A[t]? =some w):=fun t w ht=>by
  rw [lX] at ht;split at ht
  ·rename_i e';split at ht
   ·cases ht; exact .inl ⟨e'.symm,rfl⟩
   ·cases ht
  ·rename_i e';exact .inr ⟨fun h=>e' h.symm,ht⟩
 refine ⟨fun t w ht=>?_,fun t t' w w' ht ht' hn he hl s1 s2=>?_,h.fr,fun t w ht he hs=>rfl⟩
 ·rw [List.length_set];rcases hg t w ht with ⟨rfl,rfl⟩ | ⟨_,h2⟩
  ·exact ho
  ·exact h.obj t w h2
 ·have lv:∀ {z:AObj},z.excl=true->z.live=true:=fun {z} hz=>by cases z <;> first | rfl | cases hz
  rcases hg t w ht with ⟨rfl,rfl⟩ | ⟨hne,h2⟩
  ·rcases hg t' w' ht' with ⟨rfl,rfl⟩ | ⟨hne',h2'⟩
   ·exact absurd rfl hn
   ·exact fun e=>hd t' w' h2' hne' hl s2 e.symm
  ·rcases hg t' w' ht' with ⟨rfl,rfl⟩ | ⟨_,h2'⟩
   ·exact hd t w h2 hne (lv he) s1
   ·exact h.apart t t' w w' h2 h2' hn he hl s1 s2
theorem zhy (h:RelH φ A nF H) {loc:Loc3} {l:List AV} {e:TypeId} (ho:RelO (upd3 φ A.length loc) (A.length+1) loc H (.cells l e false)) (hd:∀ t w,A[t]? =some w->w.excl=true->sol (φ t) w->(φ t).blk≠loc.blk):RelH (upd3 φ A.length loc) (A++[.cells l e false]) nF H:=by
 have hu:∀ t,t<A.length->upd3 φ A.length loc t=φ t:=fun t ht=>ym φ A.length loc t ht;have hu':upd3 φ A.length loc A.length=loc:=by simp [upd3]
 have hg:∀ t w,(A++[AObj.cells l e false])[t]? =some w->(t=A.length/\w=.cells l e false)\/(t<A.length/\A[t]? =some w):=fun t w ht=>by
  rcases Nat.lt_trichotomy t A.length with hlt | heq | hgt
  ·rw [lG hlt] at ht; exact .inr ⟨hlt,ht⟩
  ·subst heq;rw [List.getElem?_append_right (mL _),Nat.sub_self] at ht;cases ht;exact .inl ⟨rfl,rfl⟩
  ·rw [lU (by simp; omega)] at ht; cases ht
 have hlen:(A++[AObj.cells l e false]).length=A.length+1:=by simp
 refine ⟨fun t w ht=>?_,fun t t' w w' ht ht' hn he hl s1 s2=>?_,h.fr,fun t w ht he hs=>rfl⟩
 ·rw [hlen];rcases hg t w ht with ⟨rfl,rfl⟩ | ⟨hlt,h2⟩
  ·rw [hu']; exact ho
  ·rw [hu t hlt];exact (h.obj t w h2).mono (ym _ _ _) oQ (fun _ _=>rfl)
 ·rcases hg t w ht with ⟨rfl,rfl⟩ | ⟨hlt,h2⟩
  ·cases he
  ·rw [hu t hlt] at s1 ⊢;rcases hg t' w' ht' with ⟨rfl,rfl⟩ | ⟨hlt',h2'⟩
   ·rw [hu']; exact hd t w h2 he s1
   ·rw [hu t' hlt'] at s2 ⊢;exact h.apart t t' w w' h2 h2' hn he hl s1 s2
abbrev z9:List Value:=[.slice none 0 0,.int .i64 0,.bool false]
def GIb (lo:Loc3) (tO:TypeId):Option (List Int×Int)->Hp->Prop
 | none,L=>L=oneB lo.blk (true,.cells #[.slice none 0 0,.int .i64 0,.bool false] tO (0,0))
 | some (cs,cost),L=>∃ rb rbase cap cur q,rb≠lo.blk/\cs≠[]/\cs.length<=cap/\(∀ (j:Nat) (a:Int),cs[j]? =some a->cur[rbase+j]? =some (.int .i64 a)) /\
   L=fun c=>if c=lo.blk then some (true,.cells #[.slice (some ⟨rb,rbase,none⟩) cs.length cap,.int .i64 cost,.bool true] tO (0,0)) else if c=rb then some (false,.cells cur (q:TypeId×Nat×Nat).1 q.2) else none
def PLb (jo:Nat) (tO:TypeId):Option (List Int×Int)->KV->Prop
 | none,K=>K=[(jo,.cells (z9.map AV.v) tO true)]
 | some (cs,cost),K=>∃ jr e,K=[(jr,.cells (cs.map fun a=>.v (.int .i64 a)) e false),(jo,.cells [.sl jr 0 cs.length,.v (.int .i64 cost),.v (.bool true)] tO true)]
theorem zf2 (H L:Hp):H.ext (H.join L):=fun b x hb=>by
 show (H b).or (L b)=some x;rw [hb]; rfl
theorem zeS {lo:Nat×Loc3} {tO:TypeId} {b:Option (List Int×Int)} {L:Hp} (hG:GIb lo.2 tO b L) (hb0:lo.2.base=0) (hlt:lo.1<A.length) (hφ:φ lo.1=lo.2) (hv:zM [(lo.1,.gone)] A) (hH:RelH φ A nF H) (hD:H.Dis L) (hA:Agrees H L) :
  ∃ φ' A' K',Agr φ φ' A.length/\A.length<=A'.length/\Kstep [(lo.1,.gone)] A K' A'/\PLb lo.1 tO b K'/\RelH φ' A' nF (H.join L):=by
 have hgone:=hv _ (lS.2 rfl);have hJ:=hH.ext (zf2 H L);have hk1:(keys [(lo.1,AObj.gone)]).Nodup:=by simp [keys]
 cases b with
 | none =>
  have hL:L=oneB lo.2.blk (true,.cells #[.slice none 0 0,.int .i64 0,.bool false] tO (0,0)):=hG;have hLo:L lo.2.blk=some (true,.cells #[.slice none 0 0,.int .i64 0,.bool false] tO (0,0)):=by rw [hL]; simp [oneB]
  have hHo:H lo.2.blk=none:=hD.2 _ _ hLo;have hJo:(H.join L) lo.2.blk=some (true,.cells #[.slice none 0 0,.int .i64 0,.bool false] tO (0,0)):=by show (H _).or (L _)=_; rw [hHo,hLo]; rfl
  refine ⟨φ,A.set lo.1 (.cells (z9.map AV.v) tO true),_,Agr.refl _ _,by simp,.set hv hk1 .head,rfl,zdU hJ hgone ?_ ?_⟩
  ·rw [hφ];intro _;refine ⟨true,_,(tO,0,0),hJo,fun _=>⟨⟨rfl,rfl⟩,hb0,rfl⟩,fun j a ha=>?_⟩;rw [hb0,mO];rcases j with _ | _ | _ | j <;> simp at ha <;> subst ha <;> exact ⟨_,rfl,.v _⟩
  ·intro t w ht hne hl hs e;rw [hφ] at e;obtain ⟨x,hx⟩:=zbS (hH.obj t w ht) hl hs;rw [e,hHo] at hx;cases hx
 | some z =>
  obtain ⟨cs,cost⟩:=z;obtain ⟨rb,rbase,cap,cur,q,hrb,hcs,hcap,hcur,hL⟩:=hG;have hLo:L lo.2.blk=some (true,.cells #[.slice (some ⟨rb,rbase,none⟩) cs.length cap,.int .i64 cost,.bool true] tO (0,0)):=by rw [hL]; simp
  have hLr:L rb=some (false,.cells cur q.1 q.2):=by rw [hL]; simp [hrb]
  have hHo:H lo.2.blk=none:=hD.2 _ _ hLo;have hJo:(H.join L) lo.2.blk=some (true,.cells #[.slice (some ⟨rb,rbase,none⟩) cs.length cap,.int .i64 cost,.bool true] tO (0,0)):=by show (H _).or (L _)=_; rw [hHo,hLo]; rfl
  have hJr:∃ r,(H.join L) rb=some (r,.cells cur q.1 q.2):=by
   cases e:H rb with
   | none=>exact ⟨false,by show (H _).or (L _)=_; rw [e,hLr]; rfl⟩
   | some x =>
    obtain ⟨r,o⟩:=x;exact ⟨r,by show (H _).or (L _)=_; rw [e,hA rb r o _ _ e hLr]; rfl⟩
  obtain ⟨r,hJr⟩:=hJr;have hR1:RelH (upd3 φ A.length ⟨rb,rbase,cap⟩) (A++[.cells (cs.map fun a=>.v (.int .i64 a)) 0 false]) nF (H.join L):=by
   refine zhy hJ (fun _=>⟨r,cur,q,hJr,(fun h=>by cases h),fun j a ha=>?_⟩) fun t w ht he hs e=>?_
   ·rw [lQ] at ha;cases e:cs[j]? with
    | none=>rw [e] at ha; cases ha
    | some z =>
     rw [e] at ha; cases ha;exact ⟨_,hcur j z e,.v _⟩
   ·obtain ⟨o,hx⟩:=zfj (hH.obj t w ht) he hs;have e':(φ t).blk=rb:=e;have:=hD.1 _ _ hx;rw [e',hLr] at this;cases this
  have hu:upd3 φ A.length ⟨rb,rbase,cap⟩ lo.1=φ lo.1:=ym _ _ _ _ hlt;have hu':upd3 φ A.length ⟨rb,rbase,cap⟩ A.length=⟨rb,rbase,cap⟩:=by simp [upd3]
  have hv1:zM ((A.length,.cells (cs.map fun a=>.v (.int .i64 a)) 0 false)::[(lo.1,.gone)]) (A++[.cells (cs.map fun a=>.v (.int .i64 a)) 0 false]):=(Kstep.push hv hk1 _).view;have hgone1:(A++[AObj.cells (cs.map fun a=>.v (.int .i64 a)) 0 false])[lo.1]? =some .gone:=by rw [lG hlt]; exact hgone
  refine ⟨_,(A++[AObj.cells (cs.map fun a=>.v (.int .i64 a)) 0 false]).set lo.1 (.cells [.sl A.length 0 cs.length,.v (.int .i64 cost),.v (.bool true)] tO true),_,ym φ A.length ⟨rb,rbase,cap⟩,by simp,?_,⟨A.length,0,rfl⟩,zdU hR1 hgone1 ?_ ?_⟩
  ·have s1:=Kstep.push hv hk1 (.cells (cs.map fun a=>.v (.int .i64 a)) 0 false);have s2:=Kstep.set (o':=.cells [.sl A.length 0 cs.length,.v (.int .i64 cost),.v (.bool true)] tO true) s1.view s1.nd (.tail (.head (i:=lo.1)));refine ⟨s2.view,s2.nd,fun i hi=>?_,fun t ht hn=>?_,mT s1.len s2.len⟩
   ·rcases s2.own i hi with h' | h'
    ·exact s1.own i h'
    ·exact .inr (mT s1.len h')
   ·rw [s2.kept t (mM ht s1.len) (fun hm=>?_)]
    ·exact s1.kept t ht hn
    ·rcases s1.own t hm with h' | h'
     ·exact hn h'
     ·omega
  ·rw [hu,hφ];intro _;refine ⟨true,_,(tO,0,0),hJo,fun _=>⟨⟨rfl,rfl⟩,hb0,rfl⟩,fun j a ha=>?_⟩;rw [hb0,mO];rcases j with _ | _ | _ | j <;> simp at ha <;> subst ha
   ·refine ⟨_,rfl,.sl sQ hcap fun _=>?_⟩;rw [hu',Nat.add_zero]
   ·exact ⟨_,rfl,.v _⟩
   ·exact ⟨_,rfl,.v _⟩
  ·intro t w ht hne hl hs e;rw [hu,hφ] at e;rcases Nat.lt_or_ge t A.length with hlt' | hge
   ·rw [lG hlt'] at ht;rw [ym _ _ _ _ hlt'] at e hs;obtain ⟨x,hx⟩:=zbS (hH.obj t w ht) hl hs;rw [e,hHo] at hx;cases hx
   ·have:t=A.length:=by
     have:=(lD.1 ht).1;simp at this; omega
    subst this;rw [hu'] at e;exact hrb e
theorem zg4 {lo:Nat×Loc3} {tO e:TypeId} {jr:Nat} {cs:List Int} {cost:Int} {K:KV} (hcs:cs≠[]) (hr:(jr,AObj.cells (cs.map fun a=>.v (.int .i64 a)) e false)∈K) (ho:(lo.1,AObj.cells [.sl jr 0 cs.length,.v (.int .i64 cost),.v (.bool true)] tO true)∈K) (hφ:φ lo.1=lo.2) (hv:zM K A) (hH:RelH φ A nF H) :
  ∃ L,L.Sub H/\GIb lo.2 tO (some (cs,cost)) L:=by
 have ar:=hv _ hr;have ao:=hv _ ho;have hne:lo.1≠jr:=fun h=>by
  have ar':A[jr]? =some (AObj.cells (cs.map fun a=>.v (.int .i64 a)) e false):=ar;have ao':A[lo.1]? =some (AObj.cells [.sl jr 0 cs.length,.v (.int .i64 cost),.v (.bool true)] tO true):=ao;rw [h,ar'] at ao';have hx:=congrArg AObj.excl (Option.some.inj ao');simp [AObj.excl] at hx
 obtain ⟨r,cur,q,h1,_,h3⟩:=hH.obj jr _ ar (by simpa using hcs);obtain ⟨r',cur',q',g1,g2,g3⟩:=hH.obj lo.1 _ ao sQ;obtain ⟨⟨rfl,rfl⟩,gb,gs⟩:=g2 rfl;have hblk:(φ lo.1).blk≠(φ jr).blk:=hH.apart lo.1 jr _ _ ao ar hne rfl rfl (by simp [sol]) (by simpa [sol] using hcs);obtain ⟨y0,hy0,r0⟩:=g3 0 _ rfl;obtain ⟨y1,hy1,r1⟩:=g3 1 _ rfl;obtain ⟨y2,hy2,r2⟩:=g3 2 _ rfl;rw [gb,mO] at hy0 hy1 hy2;rw [inv_v r1] at hy1;rw [inv_v r2] at hy2;have hpos:0<cs.length:=List.length_pos_iff.2 hcs;have hsl:∃ cap,cs.length<=cap/\y0=.slice (some ⟨(φ jr).blk,(φ jr).base,none⟩) cs.length cap:=by
  cases r0 with
  | @sl _ _ _ cap b hi hle hb =>
   refine ⟨cap,hle,?_⟩;rw [hb hpos,Nat.add_zero]
 obtain ⟨cap,hcap,rfl⟩:=hsl;have hc3:cur'=#[.slice (some ⟨(φ jr).blk,(φ jr).base,none⟩) cs.length cap,.int .i64 cost,.bool true]:=by
  refine Array.ext (by simpa using gs) fun j h1' h2'=>?_;have hj:j=0\/j=1\/j=2:=by
   have:cur'.size=3:=gs;omega
  rcases hj with rfl | rfl | rfl
  ·rw [mD h1'] at hy0; exact Option.some.inj hy0
  ·rw [mD h1'] at hy1; exact Option.some.inj hy1
  ·rw [mD h1'] at hy2; exact Option.some.inj hy2
 subst hc3;refine ⟨fun c=>if c=lo.2.blk then some (true,.cells #[.slice (some ⟨(φ jr).blk,(φ jr).base,none⟩) cs.length cap,.int .i64 cost,.bool true] tO (0,0)) else if c=(φ jr).blk then some (false,.cells cur q.1 q.2) else none,fun b rw' o hb=>?_,(φ jr).blk,(φ jr).base,cap,cur,q,?_,hcs,hcap,fun j a ha=>?_,rfl⟩
 ·dsimp only at hb;split at hb
  ·rename_i e; subst e; cases hb;rw [hφ] at g1;exact ⟨true,g1,id⟩
  ·split at hb
   ·rename_i e; subst e; cases hb;exact ⟨r,h1,fun h=>by cases h⟩
   ·cases hb
 ·rw [<- hφ]; exact hblk.symm
 ·obtain ⟨y,hy,hr'⟩:=h3 j (.v (.int .i64 a)) (by rw [lQ,ha]; rfl);rw [inv_v hr'] at hy;exact hy
end
section
variable {α:Type} (lkr:Nat->Bool) (off:Nat->α) (bt:α->α->Bool)
def IsBest (x:Nat->Bool):Option α->Prop
 | none=>∀ i,lkr i=true->x i=false
 | some p=>(∃ i,lkr i=true/\x i=true/\off i=p)/\∀ i,lkr i=true->x i=true->off i=p\/bt p (off i)=true
variable {lkr off bt} {x:Nat->Bool}
def keepB (bt:α->α->Bool) (p:α):Option α->α
 | none=>p
 | some q=>if bt p q=true then p else q
theorem zeD {i:Nat} {b:Option α} (h:IsBest lkr off bt x b) (hi:lkr i=true) (htr:∀ p q r,bt p q=true->bt q r=true->bt p r=true) (htot:∀ i j,lkr i=true->lkr j=true->off i=off j\/bt (off i) (off j)=true\/bt (off j) (off i)=true) :
  IsBest lkr off bt (Go.ConcN.upd x i true) (some (keepB bt (off i) b)):=by
 have hx:∀ j,Go.ConcN.upd x i true j=true->j=i\/x j=true:=fun j hj=>by
  by_cases e:j=i
  ·exact .inl e
  ·rw [Go.ConcN.upd_ne _ _ e] at hj; exact .inr hj
 have hxi:Go.ConcN.upd x i true i=true:=Go.ConcN.upd_same ..;have hup:∀ j,x j=true->Go.ConcN.upd x i true j=true:=fun j hj=>by
  by_cases e:j=i
  ·rw [e]; exact hxi
  ·rw [Go.ConcN.upd_ne _ _ e]; exact hj
 cases b with
 | none =>
  refine ⟨⟨i,hi,hxi,rfl⟩,fun j hj hxj=>?_⟩;rcases hx j hxj with rfl | hxj
  ·exact .inl rfl
  ·rw [h j hj] at hxj; cases hxj
 | some q =>
  obtain ⟨⟨i0,h1,h2,h3⟩,h4⟩:=h;by_cases hb:bt (off i) q=true
  ·have e:keepB bt (off i) (some q)=off i:=if_pos hb;rw [e];refine ⟨⟨i,hi,hxi,rfl⟩,fun j hj hxj=>?_⟩;rcases hx j hxj with rfl | hxj
   ·exact .inl rfl
   ·rcases h4 j hj hxj with e | e
    ·right; rw [e]; exact hb
    ·right; exact htr _ _ _ hb e
  ·have e:keepB bt (off i) (some q)=q:=if_neg hb;rw [e];refine ⟨⟨i0,h1,hup _ h2,h3⟩,fun j hj hxj=>?_⟩;rcases hx j hxj with rfl | hxj
   ·rcases htot j i0 hj h1 with e | e | e
    ·left; rw [e,h3]
    ·rw [h3] at e; exact absurd e hb
    ·right; rw [<- h3]; exact e
   ·exact h4 j hj hxj
end
section
variable {P:Program} {lkr:Nat->Bool} {off:Nat->List Int×Int} {bt:List Int×Int->List Int×Int->Bool} {tO:TypeId}
def GIo (lkr:Nat->Bool) (off:Nat->List Int×Int) (bt:List Int×Int->List Int×Int->Bool) (tO:TypeId) (lo:Loc3) (x:Nat->Bool) (L:Hp):Prop:=∃ b,IsBest lkr off bt x b/\GIb lo tO b L
def PLo (lkr:Nat->Bool) (off:Nat->List Int×Int) (bt:List Int×Int->List Int×Int->Bool) (tO:TypeId) (jo:Nat) (x:Nat->Bool) (K:KV):Prop:=∃ b,IsBest lkr off bt x b/\PLb jo tO b K
theorem zfY (lo:Loc3):GIo lkr off bt tO lo (fun _=>false) (oneB lo.blk (true,.cells z9.toArray tO (0,0))):=⟨none,fun _ _=>rfl,rfl⟩
theorem zhS {y:Sy P} {lo:Nat×Loc3} (hy:y.GI=GIo lkr off bt tO lo.2) (hb:lo.2.base=0) (i:Nat):GIn y lo i (PLo lkr off bt tO lo.1):=by
 intro x' L A φ H hG hx hlt hφ hv hn hH hD hA;rw [hy] at hG;obtain ⟨b,h1,h2⟩:=hG;obtain ⟨φ',A',K',a,b',c,d,e⟩:=zeS h2 hb hlt hφ hv hH hD hA;exact ⟨φ',A',K',a,b',c,⟨b,h1,d⟩,e⟩
theorem zhT {y:Sy P} {lo:Nat×Loc3} (hy:y.GI=GIo lkr off bt tO lo.2) (hb:lo.2.base=0) {x:Nat->Bool}:∀ L A φ H,y.GI x L->lo.1<A.length->φ lo.1=lo.2->zM [(lo.1,.gone)] A->(keys [(lo.1,AObj.gone)]).Nodup->RelH φ A nF H->H.Dis L->Agrees H L->∃ φ' A' K',Agr φ φ' A.length/\A.length<=A'.length/\Kstep [(lo.1,.gone)] A K' A'/\PLo lkr off bt tO lo.1 x K'/\RelH φ' A' nF (H.join L):=by
 intro L A φ H hG hlt hφ hv hn hH hD hA;rw [hy] at hG;obtain ⟨b,h1,h2⟩:=hG;obtain ⟨φ',A',K',a,b',c,d,e⟩:=zeS h2 hb hlt hφ hv hH hD hA;exact ⟨φ',A',K',a,b',c,⟨b,h1,d⟩,e⟩
theorem zbi {y:Sy P} {lo:Nat×Loc3} (hy:y.GI=GIo lkr off bt tO lo.2) {x:Nat->Bool} {i:Nat} {cs:List Int} {cost:Int} {jr:Nat} {e:TypeId} {K:KV} (hcs:cs≠[]) (hbest:IsBest lkr off bt (Go.ConcN.upd x i true) (some (cs,cost)))
  (hr:(jr,AObj.cells (cs.map fun a=>.v (.int .i64 a)) e false)∈K) (ho:(lo.1,AObj.cells [.sl jr 0 cs.length,.v (.int .i64 cost),.v (.bool true)] tO true)∈K) :
  ∀ A φ H,lo.1<A.length->φ lo.1=lo.2->zM K A->(keys K).Nodup->RelH φ A nF H->∃ L',L'.Sub H/\y.GI (Go.ConcN.upd x i true) L':=by
 intro A φ H hlt hφ hv hn hH;obtain ⟨L,h1,h2⟩:=zg4 hcs hr ho hφ hv hH;exact ⟨L,h1,by rw [hy]; exact ⟨_,hbest,h2⟩⟩
end
end Go.Vel
namespace Go.Vel
open Go Go.Conc Go.Proofs
open Go.ConcN (sumTo upd upd_ne upd_same)
open Go.ConcM (OsLater MuAt muA msA)
open Go.ConcR (KK wgBlock WgAt stA smA mk rd wr)
open Mx (TT Th Mn S4 auto Mv4 ok4 bl4 kd dl MPc Pc okW okM Mv nx4 cnt newOf)
instance:zl tp 187 0 0 true 2:={}
instance:zl tp 187 1 2 false 1:={}
instance:zi tp 143 true 2:={}
instance:zi tp 4 false 1:={}
instance:BlOf tp 143 [(0,1),(1,1)]:={}
instance:Cal tp 135:={}
instance:Cal tp 153:={}
instance:zl tp 51 1 1 false 1:={}
instance:zi tp 139 true 8:={}
instance:zi tp 146 false 1:={}
instance:zi tp 27 false 1:={}
instance:zi tp 3 false 1:={}
instance:zi tp 51 true 2:={}
instance:TyZ tp 143 [.slice none 0 0,.int .i64 0]:={}
instance:TyZA tp 51 [.v (.int .i64 0),.v (.int .i64 0)]:={}
theorem zg6 {Ch:Nat->Goroutine->Hp->Prop} (y:Sy tp) {k i:Nat} {x:Nat->Bool} :
  CallQ tp (y.Sq2 Ch k i (.w { pc:=.d1 }) x) 172 [.pointer (some ⟨y.Wg,0,none⟩),.int .u64 18446744069414584320] (fun r T'=>(∃ v wt:Nat,v<64/\wt<=1/\¬ (v=0/\wt=1)/\r=.int .u64 ((v*4294967296+wt:Nat):Int)/\T'=Tq tp 1)\/(r=.int .u64 1/\∃ k',k'<k/\T'=y.Sq2 Ch k' i (.w { pc:=.d2 }) x)):=by
 refine zay 10 Tryz.func172 fun c0 cs hret=>?_;refine TQ.norm (env':=[.v (.pointer (some ⟨y.Wg,0,none⟩)),.v (.int .u64 18446744069414584320),.any,.any,.any,.any,.any,.any,.any,.any]) Z ?_;skip;refine TQ.seq qqQ ?_;refine TQ.rgn qqQ RgL.h ?_;refine TQ.a qqQ ze Z (yM Z Z) ?_;refine TQ.end qqQ ?_;refine TQ.seq qqQ ?_;refine TQ.rgn qqQ RgL.h ?_;refine TQ.a qqQ ze Z (zS Z Z) ?_;refine TQ.a qqQ ze Z (kW Z Z) ?_;refine TQ.a qqQ ze Z (kj Z Z zl.h dQ) ?_;refine TQ.a qqQ ze Z (zS Z Z) ?_;refine TQ.gAdd ze 18446744069414584320 Z Z Z Z (fun s v h1 h2 h3=>zf1 h1 h2 h3) (fun k1 hk1=>?_) (fun v wt hv hwt hne=>?_)
 ·refine TQ.norm (zu Z tQ) ?_;refine TQ.a qqQ ze Z (yM Z Z) ?_;refine TQ.end qqQ ?_;skip;refine TQ.ret qqQ Tryz.func172 (zaF Z) (hret _ _ ?_);exact .inr ⟨rfl,k1,hk1,rfl⟩
 ·refine TQ.norm (zu Z tQ) ?_;refine TQ.a qqQ ze Z (yM Z Z) ?_;refine TQ.end qqQ ?_;skip;refine TQ.ret qqQ Tryz.func172 (zaF Z) (hret _ _ ?_);exact .inl ⟨v,wt,hv,hwt,hne,congrArg (Value.int .u64) (zcu v wt),rfl⟩
theorem zbF {Ch:Nat->Goroutine->Hp->Prop} (y:Sy tp) {k i:Nat} {x:Nat->Bool} :
  CallQ tp (y.Sq2 Ch k i (.w { pc:=.d2 }) x) 174 [.pointer (some ⟨y.Wg,0,none⟩)] (fun r T'=>r=.int .u64 1/\∃ k',k'<k/\T'=y.Sq2 Ch k' i (.w { pc:=.d3 }) x):=by
 refine zay 7 Tryz.func174 fun c0 cs hret=>?_;refine TQ.norm (env':=[.v (.pointer (some ⟨y.Wg,0,none⟩)),.any,.any,.any,.any,.any,.any]) Z ?_;skip;refine TQ.seq qqQ ?_;refine TQ.rgn qqQ RgL.h ?_;refine TQ.a qqQ ze Z (yM Z Z) ?_;refine TQ.end qqQ ?_;refine TQ.seq qqQ ?_;refine TQ.rgn qqQ RgL.h ?_;refine TQ.a qqQ ze Z (zS Z Z) ?_;refine TQ.a qqQ ze Z (kW Z Z) ?_;refine TQ.a qqQ ze Z (kj Z Z zl.h dQ) ?_;refine TQ.gLoad ze Z Z Z (fun k1 hk1=>?_);refine TQ.norm (zu Z tQ) ?_;refine TQ.a qqQ ze Z (yM Z Z) ?_;refine TQ.end qqQ ?_;skip;refine TQ.ret qqQ Tryz.func174 (zaF Z) (hret _ _ ?_);exact ⟨rfl,k1,hk1,rfl⟩
theorem zaT {Ch:Nat->Goroutine->Hp->Prop} (y:Sy tp) {k i:Nat} {x:Nat->Bool} :
  CallQ tp (y.Sq2 Ch k i (.w { pc:=.d3 }) x) 175 [.pointer (some ⟨y.Wg,0,none⟩),.int .u64 0] (fun r T'=>∃ k',k'<k/\T'=y.Sq2 Ch k' i (.w { pc:=.d4 }) x):=by
 refine zay 9 Tryz.func175 fun c0 cs hret=>?_;refine TQ.norm (env':=[.v (.pointer (some ⟨y.Wg,0,none⟩)),.v (.int .u64 0),.any,.any,.any,.any,.any,.any,.any]) Z ?_;skip;refine TQ.rgn qqQ RgL.h ?_;refine TQ.a qqQ ze Z (zS Z Z) ?_;refine TQ.a qqQ ze Z (kW Z Z) ?_;refine TQ.a qqQ ze Z (kj Z Z zl.h dQ) ?_;refine TQ.a qqQ ze Z (zS Z Z) ?_;refine TQ.gStore ze Z Z Z Z (fun k1 hk1=>?_);refine TQ.end qqQ ?_;skip;refine TQ.ret0 qqQ Tryz.func175 (kP Z) (hret _ _ ?_);exact ⟨k1,hk1,rfl⟩
theorem zgB {Ch:Nat->Goroutine->Hp->Prop} (y:Sy tp) {k i:Nat} {x:Nat->Bool} :
  CallZ tp (y.Sf false Ch k i (.w { pc:=.wr }) x) 149 [.pointer (some ⟨y.Wg,0,none⟩),.int .i64 (-1)] (fun T'=>T'=fun g _=>Tq tp 0 g):=by
 refine zcg 117 (y.shutF _ _ _ _ _ _) Tryz.func149 fun φ0 c0 cs hret=>?_;refine TK.nrm (env':=[.v (.pointer (some ⟨y.Wg,0,none⟩)),.v (.int .i64 (-1)),.any,.any,.any,.any,.any,.any,.any,.any,.any,.any,.any,.any,.any,.any,.any,.any,.any,.any,.any,.any,.any,.any,.any,.any,.any,.any,.any,.any,.any,.any,.any,.any,.any,.any,.any,.any,.any,.any,.any,.any,.any,.any,.any,.any,.any,.any,.any,.any,.any,.any,.any,.any,.any,.any,.any,.any,.any,.any,.any,.any,.any,.any,.any,.any,.any,.any,.any,.any,.any,.any,.any,.any,.any,.any,.any,.any,.any,.any,.any,.any,.any,.any,.any,.any,.any,.any,.any,.any,.any,.any,.any,.any,.any,.any,.any,.any,.any,.any,.any,.any,.any,.any,.any,.any,.any,.any,.any,.any,.any,.any,.any,.any,.any,.any,.any]) ?_ Z rfl;refine au 141803714221802 ?_;refine TK.sConv Z Z Z uP217 uP219 z201 (fun w s h=>⟨_,h.2.cellSt⟩) ?_;refine au 0 ?_;refine TK.relW (φ0:=φ0) ze Z Z Z (fun k1 hk1=>?_);refine TQ.end qqQ ?_;refine TQ.seq qqQ ?_;refine TQ.rgn qqQ RgL.h ?_;refine TQ.sMark ze (.w { pc:=.d1 }) .disable sQ Z Z (fun s _=>mx0 (.wk rfl)) (vP 0) rfl (fun k2 hk2=>?_);refine TQ.end qqQ ?_;refine TQ.rgn qqQ RgL.h ?_;refine TQ.defer qqQ ze Z Z ?_;refine TQ.end qqQ ?_;refine TQ.seq qqQ ?_;refine TQ.rgn qqQ RgL.h ?_;refine TQ.a qqQ ze Z (yM Z Z) ?_;refine TQ.end qqQ ?_;refine TQ.seq qqQ ?_;refine TQ.seq qqQ ?_;refine TQ.rgn qqQ RgL.h ?_;refine TQ.pure qqQ ze Z Z ?_;refine TQ.end qqQ ?_;refine TQ.condF qqQ Z ?_;refine TQ.skip qqQ ?_;refine TQ.seq qqQ ?_;refine TQ.rgn qqQ RgL.h ?_;refine TQ.a qqQ ze Z (zS Z Z) ?_;refine TQ.a qqQ ze Z (kW Z Z) ?_;refine TQ.a qqQ ze Z (kj Z Z zl.h dQ) ?_;refine TQ.a qqQ ze Z (zS Z Z) ?_;refine TQ.a qqQ ze Z (wS Z Z Und.h Und.h (m:=18446744073709551615) dQ) ?_;refine TQ.a qqQ ze Z (p_shL Z Z Z dQ (r:=18446744069414584320) dQ) ?_;refine TQ.call qqQ ze Z Z Z (zg6 y) ?_;rintro r2 T2 (⟨v,wt,hv,hwt,hne,rfl,rfl⟩ | ⟨rfl,k3,hk3,rfl⟩)
 ·skip;refine TQ.a qqQ ze Z (yM Z Z) ?_;refine TQ.end qqQ ?_;refine TQ.seq qqQ ?_;refine TQ.seq qqQ ?_;refine TQ.rgn qqQ RgL.h ?_;refine TQ.a qqQ ze Z (zS Z Z) ?_;refine TQ.a qqQ ze Z (zaY Z Z Z (.inl Z) (bU3 v hv wt oQ)) ?_;refine TQ.a qqQ ze Z (p_cmp Z Z Z Z) ?_;refine TQ.a qqQ ze Z (zS Z Z) ?_;refine TQ.unwanted qqQ Z Z (zu Z tQ) ?_;refine TQ.unwanted qqQ Z Z (zu Z tQ) ?_;refine TQ.a qqQ ze Z (yX Z Z Z) ?_;refine TQ.end qqQ ?_;refine TQ.condF qqQ Z ?_;refine TQ.skip qqQ ?_;refine TQ.seq qqQ ?_;refine TQ.rgn qqQ RgL.h ?_;refine TQ.a qqQ ze Z (zS Z Z) ?_;refine TQ.a qqQ ze Z (p_sh Z Z Z dQ (r:=((v:Nat):Int)) (by show ((v*4294967296+wt:Nat):Int) / 4294967296=_; omega)) ?_;refine TQ.a qqQ ze Z (wS Z Z Und.h Und.h (m:=((v:Nat):Int)) (w32 oQ)) ?_;refine TQ.a qqQ ze Z (yM Z Z) ?_;refine TQ.end qqQ ?_;refine TQ.seq qqQ ?_;refine TQ.rgn qqQ RgL.h ?_;refine TQ.a qqQ ze Z (zS Z Z) ?_;refine TQ.a qqQ ze Z (zaY Z Z Z (.inl Z) (bU4 v hv wt oQ)) ?_;refine TQ.a qqQ ze Z (wS Z Z Und.h Und.h (m:=((wt:Nat):Int)) (wu32 oQ)) ?_;refine TQ.a qqQ ze Z (yM Z Z) ?_;refine TQ.end qqQ ?_;refine TQ.seq qqQ ?_;refine TQ.seq qqQ ?_;refine TQ.rgn qqQ RgL.h ?_;refine TQ.a qqQ ze Z (zS Z Z) ?_;refine TQ.a qqQ ze Z (zS Z Z) ?_;refine TQ.a qqQ ze Z (p_cmp Z Z Z Z) ?_;refine TQ.a qqQ ze Z (vg Z Z Z) ?_;refine TQ.a qqQ ze Z (zS Z Z) ?_;refine TQ.unwanted qqQ Z Z (zu Z tQ) ?_;refine TQ.unwanted qqQ Z Z (zu Z tQ) ?_;refine TQ.unwanted qqQ Z Z (zu Z tQ) ?_;refine TQ.unwanted qqQ Z Z (zu Z tQ) ?_;refine TQ.a qqQ ze Z (yX Z Z Z) ?_;refine TQ.end qqQ ?_;refine TQ.condF qqQ Z ?_;refine TQ.skip qqQ ?_;refine TQ.seq qqQ ?_;refine TQ.seq qqQ ?_;refine TQ.rgn qqQ RgL.h ?_;refine TQ.a qqQ ze Z (zS Z Z) ?_;refine TQ.a qqQ ze Z (p_cmp Z Z Z Z) ?_;refine TQ.end qqQ ?_;refine TQ.cond qqQ Z ?_;constructor<;>intro hc9
  ·exfalso;simp at hc9 <;> omega
  refine TQ.skip qqQ ?_;refine TQ.seq qqQ ?_;refine TQ.seq qqQ ?_;refine TQ.rgn qqQ RgL.h ?_;refine TQ.a qqQ ze Z (zS Z Z) ?_;refine TQ.a qqQ ze Z (p_cmp Z Z Z Z) ?_;refine TQ.a qqQ ze Z (zS Z Z) ?_;refine TQ.sp 78 (fun g24_3=>?_) (fun g24_3=>?_)
  ·refine TQ.a qqQ ze Z (zS Z Z) ?_;refine TQ.a qqQ ze Z (p_cmp Z Z Z Z) ?_;refine TQ.a qqQ ze Z (vg Z Z Z) ?_;refine TQ.a qqQ ze Z (zS Z Z) ?_;refine TQ.unwanted qqQ Z Z (zu Z tQ) ?_;refine TQ.unwanted qqQ Z Z (zu Z tQ) ?_;refine TQ.unwanted qqQ Z Z (zu Z tQ) ?_;refine TQ.unwanted qqQ Z Z (zu Z tQ) ?_;refine TQ.a qqQ ze Z (yX Z Z Z) ?_;refine TQ.end qqQ ?_;refine TQ.condF qqQ Z ?_;refine TQ.skip qqQ ?_;refine TQ.seq qqQ ?_;refine TQ.seq qqQ ?_;refine TQ.rgn qqQ RgL.h ?_;refine TQ.a qqQ ze Z (zS Z Z) ?_;refine TQ.a qqQ ze Z (p_cmp Z Z Z Z) ?_;refine TQ.a qqQ ze Z (zS Z Z) ?_;refine TQ.sp 91 (fun g26_3=>?_) (fun g26_3=>?_)
   ·skip;refine TQ.unwanted qqQ Z Z (zu Z tQ) ?_;refine TQ.unwanted qqQ Z Z (zu Z tQ) ?_;refine TQ.a qqQ ze Z (vg Z Z Z) ?_;refine TQ.end qqQ ?_;refine TQ.condT qqQ Z ?_;skip;refine TQ.retQ Tryz.func149 (kP Z) (hret _ _ (fun _=>none) rfl);skip
   refine TQ.a qqQ ze Z (zS Z Z) ?_;refine TQ.a qqQ ze Z (p_cmp Z Z Z Z) ?_;refine TQ.a qqQ ze Z (yX Z Z Z) ?_;refine TQ.end qqQ ?_;refine TQ.cond qqQ Z ?_;constructor<;>intro hc11
   ·skip;skip;refine TQ.retQ Tryz.func149 (kP Z) (hret _ _ (fun _=>none) rfl);skip
   exfalso;simp at g26_3 hc11;omega
  refine TQ.unwanted qqQ Z Z (zu Z tQ) ?_;refine TQ.unwanted qqQ Z Z (zu Z tQ) ?_;refine TQ.a qqQ ze Z (yX Z Z Z) ?_;refine TQ.a qqQ ze Z (zS Z Z) ?_;refine TQ.unwanted qqQ Z Z (zu Z tQ) ?_;refine TQ.unwanted qqQ Z Z (zu Z tQ) ?_;refine TQ.unwanted qqQ Z Z (zu Z tQ) ?_;refine TQ.unwanted qqQ Z Z (zu Z tQ) ?_;refine TQ.a qqQ ze Z (yX Z Z Z) ?_;refine TQ.end qqQ ?_;refine TQ.condF qqQ Z ?_;refine TQ.skip qqQ ?_;refine TQ.seq qqQ ?_;refine TQ.seq qqQ ?_;refine TQ.rgn qqQ RgL.h ?_;refine TQ.a qqQ ze Z (zS Z Z) ?_;refine TQ.a qqQ ze Z (p_cmp Z Z Z Z) ?_;refine TQ.a qqQ ze Z (zS Z Z) ?_;refine TQ.sp 91 (fun g26_3=>?_) (fun g26_3=>?_)
  ·skip;refine TQ.unwanted qqQ Z Z (zu Z tQ) ?_;refine TQ.unwanted qqQ Z Z (zu Z tQ) ?_;refine TQ.a qqQ ze Z (vg Z Z Z) ?_;refine TQ.end qqQ ?_;refine TQ.condT qqQ Z ?_;skip;refine TQ.retQ Tryz.func149 (kP Z) (hret _ _ (fun _=>none) rfl);skip
  refine TQ.a qqQ ze Z (zS Z Z) ?_;refine TQ.a qqQ ze Z (p_cmp Z Z Z Z) ?_;refine TQ.a qqQ ze Z (yX Z Z Z) ?_;refine TQ.end qqQ ?_;refine TQ.cond qqQ Z ?_;constructor<;>intro hc11
  ·skip;skip;refine TQ.retQ Tryz.func149 (kP Z) (hret _ _ (fun _=>none) rfl);skip
  exfalso;simp at g26_3 hc11;omega
 ·skip;refine TQ.a qqQ ze Z (yM Z Z) ?_;refine TQ.end qqQ ?_;refine TQ.seq qqQ ?_;refine TQ.seq qqQ ?_;refine TQ.rgn qqQ RgL.h ?_;refine TQ.a qqQ ze Z (zS Z Z) ?_;refine TQ.a qqQ ze Z (zaY Z Z Z (.inl Z) (r:=0) dQ) ?_;refine TQ.a qqQ ze Z (p_cmp Z Z Z Z) ?_;refine TQ.a qqQ ze Z (zS Z Z) ?_;refine TQ.unwanted qqQ Z Z (zu Z tQ) ?_;refine TQ.unwanted qqQ Z Z (zu Z tQ) ?_;refine TQ.a qqQ ze Z (yX Z Z Z) ?_;refine TQ.end qqQ ?_;refine TQ.condF qqQ Z ?_;refine TQ.skip qqQ ?_;refine TQ.seq qqQ ?_;refine TQ.rgn qqQ RgL.h ?_;refine TQ.a qqQ ze Z (zS Z Z) ?_;refine TQ.a qqQ ze Z (p_sh Z Z Z dQ (r:=((0:Nat):Int)) dQ) ?_;refine TQ.a qqQ ze Z (wS Z Z Und.h Und.h (m:=((0:Nat):Int)) Z) ?_;refine TQ.a qqQ ze Z (yM Z Z) ?_;refine TQ.end qqQ ?_;refine TQ.seq qqQ ?_;refine TQ.rgn qqQ RgL.h ?_;refine TQ.a qqQ ze Z (zS Z Z) ?_;refine TQ.a qqQ ze Z (zaY Z Z Z (.inl Z) (r:=1) dQ) ?_;refine TQ.a qqQ ze Z (wS Z Z Und.h Und.h (m:=1) dQ) ?_;refine TQ.a qqQ ze Z (yM Z Z) ?_;refine TQ.end qqQ ?_;refine TQ.seq qqQ ?_;refine TQ.seq qqQ ?_;refine TQ.rgn qqQ RgL.h ?_;refine TQ.a qqQ ze Z (zS Z Z) ?_;refine TQ.a qqQ ze Z (zS Z Z) ?_;refine TQ.a qqQ ze Z (p_cmp Z Z Z Z) ?_;refine TQ.a qqQ ze Z (vg Z Z Z) ?_;refine TQ.a qqQ ze Z (zS Z Z) ?_;refine TQ.unwanted qqQ Z Z (zu Z tQ) ?_;refine TQ.unwanted qqQ Z Z (zu Z tQ) ?_;refine TQ.unwanted qqQ Z Z (zu Z tQ) ?_;refine TQ.unwanted qqQ Z Z (zu Z tQ) ?_;refine TQ.a qqQ ze Z (yX Z Z Z) ?_;refine TQ.end qqQ ?_;refine TQ.condF qqQ Z ?_;refine TQ.skip qqQ ?_;refine TQ.seq qqQ ?_;refine TQ.seq qqQ ?_;refine TQ.rgn qqQ RgL.h ?_;refine TQ.a qqQ ze Z (zS Z Z) ?_;refine TQ.a qqQ ze Z (p_cmp Z Z Z Z) ?_;refine TQ.end qqQ ?_;refine TQ.cond qqQ Z ?_;constructor<;>intro hc9
  ·exfalso;simp at hc9 <;> omega
  refine TQ.skip qqQ ?_;refine TQ.seq qqQ ?_;refine TQ.seq qqQ ?_;refine TQ.rgn qqQ RgL.h ?_;refine TQ.a qqQ ze Z (zS Z Z) ?_;refine TQ.a qqQ ze Z (p_cmp Z Z Z Z) ?_;refine TQ.a qqQ ze Z (zS Z Z) ?_;refine TQ.sp 78 (fun g24_3=>?_) (fun g24_3=>?_)
  ·refine TQ.a qqQ ze Z (zS Z Z) ?_;refine TQ.a qqQ ze Z (p_cmp Z Z Z Z) ?_;refine TQ.a qqQ ze Z (vg Z Z Z) ?_;refine TQ.a qqQ ze Z (zS Z Z) ?_;refine TQ.unwanted qqQ Z Z (zu Z tQ) ?_;refine TQ.unwanted qqQ Z Z (zu Z tQ) ?_;refine TQ.unwanted qqQ Z Z (zu Z tQ) ?_;refine TQ.unwanted qqQ Z Z (zu Z tQ) ?_;refine TQ.a qqQ ze Z (yX Z Z Z) ?_;refine TQ.end qqQ ?_;refine TQ.condF qqQ Z ?_;refine TQ.skip qqQ ?_;refine TQ.seq qqQ ?_;refine TQ.seq qqQ ?_;refine TQ.rgn qqQ RgL.h ?_;refine TQ.a qqQ ze Z (zS Z Z) ?_;refine TQ.a qqQ ze Z (p_cmp Z Z Z Z) ?_;refine TQ.a qqQ ze Z (zS Z Z) ?_;refine TQ.sp 91 (fun g26_3=>?_) (fun g26_3=>?_)
   ·exfalso;simp at g26_3
   refine TQ.a qqQ ze Z (zS Z Z) ?_;refine TQ.a qqQ ze Z (p_cmp Z Z Z Z) ?_;refine TQ.a qqQ ze Z (yX Z Z Z) ?_;refine TQ.end qqQ ?_;refine TQ.cond qqQ Z ?_;constructor<;>intro hc11
   ·exfalso;simp at hc11
   skip;refine TQ.skip qqQ ?_;refine TQ.seq qqQ ?_;refine TQ.seq qqQ ?_;refine TQ.rgn qqQ RgL.h ?_;refine TQ.a qqQ ze Z (zS Z Z) ?_;refine TQ.a qqQ ze Z (kW Z Z) ?_;refine TQ.a qqQ ze Z (kj Z Z zl.h dQ) ?_;refine TQ.call qqQ ze Z Z Z (zbF y) ?_;rintro r2 T2 ⟨rfl,k4,hk4,rfl⟩;refine TQ.a qqQ ze Z (zS Z Z) ?_;refine TQ.a qqQ ze Z (p_cmp Z Z Z Z) ?_;refine TQ.end qqQ ?_;refine TQ.condF qqQ Z ?_;refine TQ.skip qqQ ?_;refine TQ.seq qqQ ?_;refine TQ.rgn qqQ RgL.h ?_;refine TQ.a qqQ ze Z (zS Z Z) ?_;refine TQ.a qqQ ze Z (kW Z Z) ?_;refine TQ.a qqQ ze Z (kj Z Z zl.h dQ) ?_;refine TQ.call qqQ ze Z Z Z (zaT y) ?_;rintro r2 T2 ⟨k5,hk5,rfl⟩;refine TQ.end qqQ ?_;refine TQ.seq qqQ ?_;refine TQ.seq qqQ ?_;refine TQ.rgn qqQ RgL.h ?_;refine TQ.a qqQ ze Z (zS Z Z) ?_;refine TQ.end qqQ ?_;refine TQ.condF qqQ Z ?_;refine TQ.skip qqQ ?_;refine TQ.block qqQ ?_;refine TQ.loop qqQ ?_;refine TQ.seq qqQ ?_;refine TQ.seq qqQ ?_;refine TQ.rgn qqQ RgL.h ?_;refine TQ.a qqQ ze Z (zS Z Z) ?_;refine TQ.a qqQ ze Z (p_cmp Z Z Z Z) ?_;refine TQ.end qqQ ?_;refine TQ.condT qqQ Z ?_;refine TQ.skip qqQ ?_;refine TQ.seq qqQ ?_;refine TQ.block qqQ ?_;refine TQ.rgn qqQ RgL.h ?_;refine TQ.a qqQ ze Z (zS Z Z) ?_;refine TQ.a qqQ ze Z (kW Z Z) ?_;refine TQ.a qqQ ze Z (kj Z Z zl.h dQ) ?_;refine TQ.gRel ze Z Z (fun c hc=>by simp at hc; subst hc; rfl) rfl ?_;refine TQ.end qqQ ?_;refine TQ.inBlock qqQ ?_;refine TQ.rgn qqQ RgL.h ?_;refine TQ.a qqQ ze Z (zS Z Z) ?_;refine TQ.a qqQ ze Z (zfc Z Z Z (r:=0) (.inr ⟨rfl,by decide⟩)) ?_;refine TQ.a qqQ ze Z (yM Z Z) ?_;refine TQ.end qqQ ?_;refine TQ.inLoop qqQ ?_;refine TQ.seq qqQ ?_;refine TQ.seq qqQ ?_;refine TQ.rgn qqQ RgL.h ?_;refine TQ.a qqQ ze Z (zS Z Z) ?_;refine TQ.a qqQ ze Z (p_cmp Z Z Z Z) ?_;refine TQ.end qqQ ?_;refine TQ.condF qqQ Z ?_;refine TQ.exit qqQ Z ?_;skip;refine TQ.retQ0 Tryz.func149 (kP Z) (hret _ _ (fun _=>none) rfl);skip
  refine TQ.unwanted qqQ Z Z (zu Z tQ) ?_;refine TQ.unwanted qqQ Z Z (zu Z tQ) ?_;refine TQ.a qqQ ze Z (yX Z Z Z) ?_;refine TQ.a qqQ ze Z (zS Z Z) ?_;refine TQ.unwanted qqQ Z Z (zu Z tQ) ?_;refine TQ.unwanted qqQ Z Z (zu Z tQ) ?_;refine TQ.unwanted qqQ Z Z (zu Z tQ) ?_;refine TQ.unwanted qqQ Z Z (zu Z tQ) ?_;refine TQ.a qqQ ze Z (yX Z Z Z) ?_;refine TQ.end qqQ ?_;refine TQ.condF qqQ Z ?_;refine TQ.skip qqQ ?_;refine TQ.seq qqQ ?_;refine TQ.seq qqQ ?_;refine TQ.rgn qqQ RgL.h ?_;refine TQ.a qqQ ze Z (zS Z Z) ?_;refine TQ.a qqQ ze Z (p_cmp Z Z Z Z) ?_;refine TQ.a qqQ ze Z (zS Z Z) ?_;refine TQ.sp 91 (fun g26_3=>?_) (fun g26_3=>?_)
  ·exfalso;simp at g26_3
  refine TQ.a qqQ ze Z (zS Z Z) ?_;refine TQ.a qqQ ze Z (p_cmp Z Z Z Z) ?_;refine TQ.a qqQ ze Z (yX Z Z Z) ?_;refine TQ.end qqQ ?_;refine TQ.cond qqQ Z ?_;constructor<;>intro hc11
  ·exfalso;simp at hc11
  skip;refine TQ.skip qqQ ?_;refine TQ.seq qqQ ?_;refine TQ.seq qqQ ?_;refine TQ.rgn qqQ RgL.h ?_;refine TQ.a qqQ ze Z (zS Z Z) ?_;refine TQ.a qqQ ze Z (kW Z Z) ?_;refine TQ.a qqQ ze Z (kj Z Z zl.h dQ) ?_;refine TQ.call qqQ ze Z Z Z (zbF y) ?_;rintro r2 T2 ⟨rfl,k4,hk4,rfl⟩;refine TQ.a qqQ ze Z (zS Z Z) ?_;refine TQ.a qqQ ze Z (p_cmp Z Z Z Z) ?_;refine TQ.end qqQ ?_;refine TQ.condF qqQ Z ?_;refine TQ.skip qqQ ?_;refine TQ.seq qqQ ?_;refine TQ.rgn qqQ RgL.h ?_;refine TQ.a qqQ ze Z (zS Z Z) ?_;refine TQ.a qqQ ze Z (kW Z Z) ?_;refine TQ.a qqQ ze Z (kj Z Z zl.h dQ) ?_;refine TQ.call qqQ ze Z Z Z (zaT y) ?_;rintro r2 T2 ⟨k5,hk5,rfl⟩;refine TQ.end qqQ ?_;refine TQ.seq qqQ ?_;refine TQ.seq qqQ ?_;refine TQ.rgn qqQ RgL.h ?_;refine TQ.a qqQ ze Z (zS Z Z) ?_;refine TQ.end qqQ ?_;refine TQ.condF qqQ Z ?_;refine TQ.skip qqQ ?_;refine TQ.block qqQ ?_;refine TQ.loop qqQ ?_;refine TQ.seq qqQ ?_;refine TQ.seq qqQ ?_;refine TQ.rgn qqQ RgL.h ?_;refine TQ.a qqQ ze Z (zS Z Z) ?_;refine TQ.a qqQ ze Z (p_cmp Z Z Z Z) ?_;refine TQ.end qqQ ?_;refine TQ.condT qqQ Z ?_;refine TQ.skip qqQ ?_;refine TQ.seq qqQ ?_;refine TQ.block qqQ ?_;refine TQ.rgn qqQ RgL.h ?_;refine TQ.a qqQ ze Z (zS Z Z) ?_;refine TQ.a qqQ ze Z (kW Z Z) ?_;refine TQ.a qqQ ze Z (kj Z Z zl.h dQ) ?_;refine TQ.gRel ze Z Z (fun c hc=>by simp at hc; subst hc; rfl) rfl ?_;refine TQ.end qqQ ?_;refine TQ.inBlock qqQ ?_;refine TQ.rgn qqQ RgL.h ?_;refine TQ.a qqQ ze Z (zS Z Z) ?_;refine TQ.a qqQ ze Z (zfc Z Z Z (r:=0) (.inr ⟨rfl,by decide⟩)) ?_;refine TQ.a qqQ ze Z (yM Z Z) ?_;refine TQ.end qqQ ?_;refine TQ.inLoop qqQ ?_;refine TQ.seq qqQ ?_;refine TQ.seq qqQ ?_;refine TQ.rgn qqQ RgL.h ?_;refine TQ.a qqQ ze Z (zS Z Z) ?_;refine TQ.a qqQ ze Z (p_cmp Z Z Z Z) ?_;refine TQ.end qqQ ?_;refine TQ.condF qqQ Z ?_;refine TQ.exit qqQ Z ?_;skip;refine TQ.retQ0 Tryz.func149 (kP Z) (hret _ _ (fun _=>none) rfl);skip
theorem zgW {Ch:Nat->Goroutine->Hp->Prop} (y:Sy tp) {k i:Nat} {x:Nat->Bool} {c0:Frame} {cs:List Frame} {H:Hp} (hc:c0.mode=.returning) (hq:Tq tp 0 (G c0 cs)) :
  y.Sf false Ch k i (.w { pc:=.wr }) x (G (fr .deferred 151 none (#[.pointer (some ⟨y.Wg,0,none⟩)]++Array.replicate (Tryz.f151.ntmps - (#[.pointer (some ⟨y.Wg,0,none⟩)]:Array Value).size) undef) [] [.code (Tryz.f151.body.getD .skip)]) (c0::cs)) H:=by
 have key:TK (YU (y.shutF false Ch k i (.w { pc:=.wr }) x) gN (fun _=>⟨0,0,0⟩) .deferred (fun h=>by cases h) 151 (c0::cs) [] [] []) [] [.code (Tryz.f151.body.getD .skip)] [.v (.pointer (some ⟨y.Wg,0,none⟩)),.any,.any,.any] []:=by
  refine TK.nrm (env':=[.v (.pointer (some ⟨y.Wg,0,none⟩)),.any,.any,.any]) ?_ Z rfl;refine au 14 ?_;refine TK.callZq (φ0:=fun _=>⟨0,0,0⟩) (vs:=[.pointer (some ⟨y.Wg,0,none⟩),.int .i64 (-1)]) rfl rfl rfl rfl (zgB y) (fun v=>?_);refine TQ.end qqQ ?_;refine TQ.endD Tryz.func151 Z hc hq
 have hl:=key [] ⟨fun x hx=>(by cases hx),List.nodup_nil,fun i hi=>(by cases hi),fun _ _ _=>rfl,mL _⟩ (fun _=>⟨0,0,0⟩) H (#[.pointer (some ⟨y.Wg,0,none⟩)]++Array.replicate (Tryz.f151.ntmps - (#[.pointer (some ⟨y.Wg,0,none⟩)]:Array Value).size) undef) (Agr.refl _ _) (mL _) (y9 _ _) (fun d hd=>by cases hd) (vu _ _) (yS (zc1 _ _ [.pointer (some ⟨y.Wg,0,none⟩)]) 4);exact hl
theorem zaN {Ch:Nat->Goroutine->Hp->Prop} (y:Sy tp) {k i:Nat} {x:Nat->Bool} {gm:Nat->Option Nat} {φ0:Nat->Loc3} {A0:List AObj} {K0:List Nat} {env:List AV} {K:KV} {f:FuncId} {fn:Func} (hf:tp.funcs[f]? =some fn) (hr:fn.results=#[]) :
  TK (YT y false Ch k i (.w { pc:=.wr }) x gm φ0 .deferred (fun h=>by cases h) f [bot tp] [dcall 151 #[.pointer (some ⟨y.Wg,0,none⟩)]] A0 K0) [] [] env K :=
 TK.bye hf hr Tryz.func151 (by kernel_rfl) (c:=Tryz.f151.body.getD .skip) rfl fun c0 cs H hc hq=>zgW y hc hq
theorem ze7 {main T} (hT:zo tp main T) {gm} {jo jr:Nat} {cs:List Int} {cost:Int} {e:TypeId} {f:AV} :
  zA tp T gm 153 [.ptr jo 0,.agg [.sl jr 0 cs.length,.v (.int .i64 cost)],f] [(jo,.cells (z9.map AV.v) 187 true),(jr,.cells (cs.map fun a=>.v (.int .i64 a)) e false)] (fun r K'=>K'=[(jo,.cells [.sl jr 0 cs.length,.v (.int .i64 cost),.v (.bool true)] 187 true),(jr,.cells (cs.map fun a=>.v (.int .i64 a)) e false)]):=by
 refine zp 27 hT Tryz.func153 fun Y hret=>?_;refine au 21042 ?_;intro jb hjb;refine au 23 ?_;refine TK.dq [0,1,2,3,4,5,6,7,8,9,10,11,12,13] ?_;refine ad [[1,0]] ?_;refine TD.z [6] Z (kf Z Z) ?_;refine ad [[3,7],[10,8]] ?_;refine TD.z [9] Z (q_not Z Z) ?_;refine ad [[1,10]] ?_;refine TD.sp 11 (fun g1_6=>?_) (fun g1_6=>?_)
 ·refine ad [[11,2,11],[11,4,11],[11,0,11],[11,11,14],[11,11,15],[11,11,16],[11,11,12,13,17],[7,11,18],[14]] ?_;refine au 680114180 ?_;refine bH Z (kf Z Z) ?_;refine au 170670 ?_;refine bH Z (kf Z Z) ?_;refine au 3170670 ?_;refine TK.rt0 hret [(jo,_),(jr,_)] ?_;exact rfl
 simp at g1_6
theorem ze8 {main T} (hT:zo tp main T) {gm} {jo jr j0:Nat} {cs cs0:List Int} {cost cost0:Int} {e e0:TypeId} {f:AV} {t:Bool}
  (hbt:CallFK tp T gm f [.agg [.sl jr 0 cs.length,.v (.int .i64 cost)],.agg [.sl j0 0 cs0.length,.v (.int .i64 cost0)]] [(jr,.cells (cs.map fun a=>.v (.int .i64 a)) e false),(j0,.cells (cs0.map fun a=>.v (.int .i64 a)) e0 false)] (fun r K'=>r=.v (.bool t)/\K'=[(jr,.cells (cs.map fun a=>.v (.int .i64 a)) e false),(j0,.cells (cs0.map fun a=>.v (.int .i64 a)) e0 false)])) :
  zA tp T gm 153 [.ptr jo 0,.agg [.sl jr 0 cs.length,.v (.int .i64 cost)],f] [(jo,.cells [.sl j0 0 cs0.length,.v (.int .i64 cost0),.v (.bool true)] 187 true),(j0,.cells (cs0.map fun a=>.v (.int .i64 a)) e0 false),(jr,.cells (cs.map fun a=>.v (.int .i64 a)) e false)] (fun r K'=>(t=true/\K'=[(jo,.cells [.sl jr 0 cs.length,.v (.int .i64 cost),.v (.bool true)] 187 true),(jr,.cells (cs.map fun a=>.v (.int .i64 a)) e false)])\/(t=false/\K'=[(jo,.cells [.sl j0 0 cs0.length,.v (.int .i64 cost0),.v (.bool true)] 187 true),(j0,.cells (cs0.map fun a=>.v (.int .i64 a)) e0 false)])):=by
 refine zp 27 hT Tryz.func153 fun Y hret=>?_;refine au 21042 ?_;intro jb hjb;refine au 23 ?_;refine TK.dq [0,1,2,3,4,5,6,7,8,9,10,11,12,13] ?_;refine ad [[1,0]] ?_;refine TD.z [6] Z (kf Z Z) ?_;refine ad [[3,7],[10,8]] ?_;refine TD.z [9] Z (q_not Z Z) ?_;refine ad [[1,10]] ?_;refine TD.sp 11 (fun g1_6=>?_) (fun g1_6=>?_)
 ·simp at g1_6
 refine ad [[1,2,11],[12,4,11],[1,0,11]] ?_;refine TD.z [11,14] Z (kf Z Z) ?_;refine ad [[3,11,15],[12,11,16]] ?_;refine TD.callF' (pend':=[⟨10,[11,15],[]⟩,⟨9,[11,14],[]⟩,⟨8,[0,11],[]⟩,⟨4,[9],[]⟩,⟨3,[8],[(_,_)]⟩,⟨2,[7],[]⟩,⟨1,[6],[]⟩,⟨0,[0],[]⟩]) [11,12,13,17] Z Z Z Z Z Z Z (hbt) (by repeat (first | exact Split.none _ | exact Split.all _ | (apply Split.rem; repeat (first | exact Rem.head | apply Rem.tail)) | apply Split.right)) fun r1 K2 h3=>⟨?_,?_⟩
 ·rcases h3 with ⟨rfl,rfl⟩
  all_goals simp
 obtain ⟨rfl,rfl⟩:=h3;try simp only [cA]
 refine TD.norm (zu Z tQ) ?_;refine ad [[6,11,18],[14]] ?_;refine au 9 ?_;constructor<;>intro hc0
 ·refine au 680114 ?_;refine bH Z (kf Z Z) ?_;refine au 170670 ?_;refine bH Z (kf Z Z) ?_;refine au 3170670 ?_;refine TK.rt0 hret [(jo,_),(jr,_)] ?_;exact .inl ⟨hc0,rfl⟩
 refine au 120 ?_;refine TK.rt0 hret [(jo,_),(j0,_)] ?_;exact .inr ⟨hc0,rfl⟩
section
variable {P:Program} {gm:Nat->Option Nat} {T:Goroutine->Hp->Prop}
theorem Kstep.permR {K K' K2:KV} {A A':List AObj} (h:Kstep K A K' A') (hp:K'.Perm K2):Kstep K A K2 A' :=
 ⟨h.view.sub fun x hx=>hp.symm.subset hx,(zT hp).nodup_iff.1 h.nd,fun i hi=>h.own i ((zT hp).symm.subset hi),h.kept,h.len⟩
theorem Kstep.permL {K K' K2:KV} {A A':List AObj} (h:Kstep K A K' A') (hp:K.Perm K2):Kstep K2 A K' A' :=
 ⟨h.view,h.nd,fun i hi=>(h.own i hi).imp (fun h=>(zT hp).subset h) id,fun j hj hn=>h.kept j hj fun hm=>hn ((zT hp).subset hm),h.len⟩
theorem zA.frameP {g:FuncId} {args:List AV} {K Kb R:KV} {Q:AV->Prop} (h:zA P T gm g args K (fun r K'=>Q r/\K'=K)) (hp:Kb.Perm (K++R)):zA P T gm g args Kb (fun r K'=>Q r/\K'=Kb):=by
 intro A hv hn;have hv2:zM (K++R) A:=hv.sub fun x hx=>hp.symm.subset hx;have hn2:=(zT hp).nodup_iff.1 hn;have hn3:=hn2;rw [yb] at hn3;refine (h A (hv2.sub fun x hx=>List.mem_append_left _ hx) (List.nodup_append.1 hn3).1).mono ?_;rintro r A' ⟨K',hk,hq,rfl⟩;refine ⟨Kb,?_,hq,rfl⟩;have hs:Split (K'++R) K' R:=by
  have key:∀ (K:KV),Split (K++R) K R:=fun K=>by
   induction K with
   | nil=>exact .none _
   | cons x K ih=>exact .left ih
  exact key K'
 exact ((hk.frame hs hv2 hn2).permR hp.symm).permL hp.symm
end
theorem zfA (y:Sy tp) {gm:Nat->Option Nat} {lo:Nat×Loc3} {off:Nat->List Int×Int} {bt:List Int×Int->List Int×Int->Bool} {jk jc jr jf:Nat} {a0 a1 a2 a3 a4 a5 a6 a7:AV} {cs:List Int} {a cost:Int} {e:TypeId} {gF:FuncId} {Sq:KV} {i:Nat}
  (hy:y.GI=GIo y.lkr off bt 187 lo.2) (hb0:lo.2.base=0) (hoff:y.lkr i=true->off i=(cs,cost)) (hnee:∀ i,y.lkr i=true->(off i).1≠[])
  (htr:∀ p q r,bt p q=true->bt q r=true->bt p r=true) (htot:∀ i j,y.lkr i=true->y.lkr j=true->off i=off j\/bt (off i) (off j)=true\/bt (off j) (off i)=true)
  (hsq:∀ {T:Goroutine->Hp->Prop},zo tp false T->zA tp T gm 135 [.agg [a0,a1,a2,a3,a4,a5,a6,a7],.sl jr 0 cs.length] ((jr,.cells (cs.map fun a=>.v (.int .i64 a)) e false)::Sq) (fun r K'=>r=.tup [.agg [.v (.int .i64 a),.v (.int .i64 cost)],.v (.bool (y.lkr i))]/\K'=(jr,.cells (cs.map fun a=>.v (.int .i64 a)) e false)::Sq))
  (hbt:∀ {T:Goroutine->Hp->Prop},zo tp false T->∀ (cs0:List Int) (cost0:Int) (j0:Nat) (e0:TypeId),CallFK tp T gm (.fn gF [] []) [.agg [.sl jr 0 cs.length,.v (.int .i64 cost)],.agg [.sl j0 0 cs0.length,.v (.int .i64 cost0)]] [(jr,.cells (cs.map fun a=>.v (.int .i64 a)) e false),(j0,.cells (cs0.map fun a=>.v (.int .i64 a)) e0 false)] (fun r K'=>r=.v (.bool (bt (cs,cost) (cs0,cost0)))/\K'=[(jr,.cells (cs.map fun a=>.v (.int .i64 a)) e false),(j0,.cells (cs0.map fun a=>.v (.int .i64 a)) e0 false)]))
  {k:Nat} {x:Nat->Bool} {φ:Nat->Loc3} {A:List AObj} {Hc:Hp} {vs:Array Value} (hv:zM ((lo.1,.gone)::(jk,.cells [a0,a1,a2,a3,a4,a5,a6,a7] 139 false)::(jc,.cells [.sl jr 0 cs.length] 27 false)::(jr,.cells (cs.map fun a=>.v (.int .i64 a)) e false)::(jf,.cells [.fn gF [] []] 146 false)::Sq) A) (hnd:(keys ((lo.1,AObj.gone)::(jk,.cells [a0,a1,a2,a3,a4,a5,a6,a7] 139 false)::(jc,.cells [.sl jr 0 cs.length] 27 false)::(jr,.cells (cs.map fun a=>.v (.int .i64 a)) e false)::(jf,.cells [.fn gF [] []] 146 false)::Sq)).Nodup) (hl1:lo.1<A.length) (hl2:φ lo.1=lo.2) (hg:RelG gm φ A.length) (hH:RelH φ A nF Hc) (hvs:zG φ A.length [.v (.pointer (some ⟨y.Wg,0,none⟩)),.ptr jk 0,.ptr jc 0,.v (.pointer (some ⟨y.Mu,0,none⟩)),.ptr lo.1 0,.ptr jf 0] vs) :
  y.Sf false (fun _ _ _=>False) k i (y.A.st i) x (G (Frame.enter tp 150 vs .deferred) [bot tp]) Hc:=by
 rw [enter_atD (c:=Tryz.f150.body.getD .skip) vs Tryz.func150 rfl];refine (?_:TK (YT y false (fun _ _ _=>False) k i (y.A.st i) x gm φ .deferred (fun h=>by cases h) 150 [bot tp] [] A (keys ((lo.1,AObj.gone)::(jk,.cells [a0,a1,a2,a3,a4,a5,a6,a7] 139 false)::(jc,.cells [.sl jr 0 cs.length] 27 false)::(jr,.cells (cs.map fun a=>.v (.int .i64 a)) e false)::(jf,.cells [.fn gF [] []] 146 false)::Sq))) [] [.code (Tryz.f150.body.getD .skip)] ([.v (.pointer (some ⟨y.Wg,0,none⟩)),.ptr jk 0,.ptr jc 0,.v (.pointer (some ⟨y.Mu,0,none⟩)),.ptr lo.1 0,.ptr jf 0]++mB 17 .any) ((lo.1,.gone)::(jk,.cells [a0,a1,a2,a3,a4,a5,a6,a7] 139 false)::(jc,.cells [.sl jr 0 cs.length] 27 false)::(jr,.cells (cs.map fun a=>.v (.int .i64 a)) e false)::(jf,.cells [.fn gF [] []] 146 false)::Sq)) A ⟨hv,hnd,fun i hi=>.inl hi,fun _ _ _=>rfl,mL _⟩ φ Hc _ (Agr.refl _ _) (mL _) hg (fun d hd=>by cases hd) hH (yS hvs 23);refine au 42 ?_;refine TK.sDefer (vs:=[.pointer (some ⟨y.Wg,0,none⟩)]) Z Z Z ?_;refine au 690680423 ?_;refine TK.cl Z Z Z Z ((hsq (y.shutF _ _ _ _ _ _)).frameP (R:=[_,_,_,_]) (((List.Perm.swap _ _ _).cons _ |>.cons _ |>.cons _).trans (List.perm_append_comm (l₁:=[_,_,_,_])))) ?_ (hs:=(.all _));rintro r1 K2 ⟨rfl,rfl⟩;refine au 220661 ?_;intro j6 hj6;refine au 9314235170 ?_;constructor<;>intro hc0
 ·refine TK.castT (T':=.w { pc:=.ld }) Z (by show TT.w { pc:=if y.lkr i=true then .ld else .wr }=_; rw [if_pos hc0]) ?_;refine au 42 ?_;refine TK.callS Z Z Z Z (zhb y (zhS hy hb0 i)) hl1 hl2 ?_;rintro r2 K2 T2 ⟨rfl,k2,x2,hk2,hx2,⟨b,hbest,hpl⟩,rfl⟩;refine ⟨y.shutF _ _ _ _ _ _,?_⟩;have hst:=fun b (h:IsBest y.lkr off bt x2 b)=>zeD (i:=i) h hc0 htr htot;rw [hoff hc0] at hst;rcases b with _ | ⟨cs0,cost0⟩
  ·have hpl:K2=[(lo.1,.cells (z9.map AV.v) 187 true)]:=hpl;subst hpl;refine au 690390690670690423 ?_;refine TK.cl Z Z Z Z (ze7 (y.shutF _ _ _ _ _ _)) ?_;rintro r4 K5 rfl;refine au 43 ?_;refine TK.callE Z Z Z Z (uY y (zbi (cs:=cs) (cost:=cost) (jr:=jr) (e:=e) hy (by have:=hnee i hc0; rw [hoff hc0] at this; exact this) (hst none hbest) sQ sQ)) hl1 hl2 ?_;rintro T4 r4 ⟨k4,hk4,rfl⟩;refine ⟨y.shutF _ _ _ _ _ _,?_⟩;refine au 3 ?_;exact zaN y Tryz.func150 rfl;skip
  ·obtain ⟨j0,e0,rfl⟩:=hpl;refine au 690390690670690423 ?_;refine TK.cl Z Z Z Z (ze8 (y.shutF _ _ _ _ _ _) (hbt (y.shutF _ _ _ _ _ _) cs0 cost0 j0 e0)) ?_;rintro r7 K8 h9;rcases h9 with ⟨ht,rfl⟩ | ⟨ht,rfl⟩
   ·refine au 43 ?_;refine TK.callE Z Z Z Z (uY y (zbi (cs:=cs) (cost:=cost) (jr:=jr) (e:=e) hy (by have:=hnee i hc0; rw [hoff hc0] at this; exact this) (by have:=hst _ hbest; rw [show keepB bt (cs,cost) (some (cs0,cost0))=(cs,cost) from if_pos ht] at this; exact this) sQ sQ)) hl1 hl2 ?_;rintro T4 r4 ⟨k4,hk4,rfl⟩;refine ⟨y.shutF _ _ _ _ _ _,?_⟩;refine au 3 ?_;exact zaN y Tryz.func150 rfl;skip
   ·refine au 43 ?_;refine TK.callE Z Z Z Z (uY y (zbi (cs:=cs0) (cost:=cost0) (jr:=j0) (e:=e0) hy (by obtain ⟨⟨i0,h1,_,h3⟩,_⟩:=hbest; have:=hnee i0 h1; rw [h3] at this; exact this) (by have:=hst _ hbest; rw [show keepB bt (cs,cost) (some (cs0,cost0))=(cs0,cost0) from if_neg (by rw [ht]; decide)] at this; exact this) sQ sQ)) hl1 hl2 ?_;rintro T4 r4 ⟨k4,hk4,rfl⟩;refine ⟨y.shutF _ _ _ _ _ _,?_⟩;refine au 3 ?_;exact zaN y Tryz.func150 rfl;skip
 refine TK.castT (T':=.w { pc:=.wr }) Z (by show TT.w { pc:=if y.lkr i=true then .ld else .wr }=_; rw [if_neg (by rw [hc0]; decide)]) ?_;refine au 120 ?_;exact zaN y Tryz.func150 rfl;skip
instance:ApOf tp 27 3 1 8:={}
instance:zl tp 113 0 0 true 7:={}
instance:zl tp 139 0 0 true 7:={}
instance:zl tp 26 4 4 false 1:={}
instance:zF tp 27 3 1:={}
instance:zi tp 22 false 1:={}
instance:TyZ tp 3 [.int .i64 0]:={}
instance:TyZA tp 143 [.v (.slice none 0 0),.v (.int .i64 0)]:={}
instance:TyZA tp 187 [.v (.slice none 0 0),.v (.int .i64 0),.v (.bool false)]:={}
instance:TyZA tp 194 [.v (.int .i32 0),.v (.int .u32 0)]:={}
instance:TyZA tp 201 [.v (.int .u64 0),.v (.int .u32 0)]:={}
instance:TyZA tp 27 [.v (.slice none 0 0)]:={}
instance:Und tp 22 (.slice 94):={}
instance:Und tp 27 (.slice 3):={}
end Go.Vel
namespace Go.Vel
open Go Go.Conc
open Mx (TT Th Mn S4 auto Mv4 ok4 bl4 kd dl MPc Pc okW okM Mv nx4 cnt)
section
variable {P:Program} {gm:Nat->Option Nat} {y:Sy P} {main:Bool} {Ch:Nat->Goroutine->Hp->Prop} {k i:Nat} {T:TT} {x:Nat->Bool}
variable {φ0:Nat->Loc3} {kdf:CallKind} {hkd:kdf≠.early} {f:FuncId} {cs:List Frame} {de:List Deferred} {A0:List AObj} {K0:List Nat} {ds:List Nat} {kk:List Item} {env:List AV} {K:KV}
theorem TK.loopR {c:Code} {ι:Type} (Tf:ι->TT) (I:Nat->ι->List AV->KV->Prop) (r0:Nat) (b0:ι) (h0:I r0 b0 env K) (e0:T=Tf b0)
  (round:∀ r k b env K,I r b env K->(∀ r' k' b' env' K',r'<r->I r' b' env' K'->TK ((YT y main Ch) k' i (Tf b') x gm φ0 kdf hkd f cs de A0 K0) ds (.inLoop c::kk) env' K')->TK ((YT y main Ch) k i (Tf b) x gm φ0 kdf hkd f cs de A0 K0) ds (.code c::.inLoop c::kk) env K) :
  TK ((YT y main Ch) k i T x gm φ0 kdf hkd f cs de A0 K0) ds (.code (.loop c)::kk) env K:=by
 subst e0;have key:∀ r k b env K,I r b env K->TK ((YT y main Ch) k i (Tf b) x gm φ0 kdf hkd f cs de A0 K0) ds (.code c::.inLoop c::kk) env K:=by
  intro r
  induction r using Nat.strongRecOn with
  | _ r ih =>
   intro k b env K hI;exact round r k b env K hI fun r' k' b' env' K' hlt hI'=>TK.inLoop (ih r' hlt k' b' env' K' hI')
 exact fun A hA=>TA.loop (key r0 k b0 env K h0 A hA)
end
end Go.Vel
namespace Go.Vel
open Go Go.Conc
section
variable {P:Program} {gm:Nat->Option Nat} {T:Goroutine->Hp->Prop} {Y:KX P gm T} {ds:List Nat} {k:List Item} {env:List AV} {K K':KV}
theorem TK.virtAt {l:List AV} {i:Nat} {t e:TypeId} {rw':Bool} {x:Option Addr} {size j:Nat} {K':Nat->KV} (hi:l[i]? =some (.v (.slice x 0 0))) (hu:∀ j',Upd K j (.cells l t rw') j (.cells (l.set i (.row j' 0)) t rw') (K' j')) (h:∀ j',j'∉keys K->TK Y ds k env ((j',.row [] e size)::K' j')):TK Y ds k env K:=fun A hA φ H ts h1 h2 h3 h4 h5 h6=>by
 have hk:A.length∉keys K:=fun hm=>absurd (hA.view.lt hm) (Nat.lt_irrefl _);have hH:=h5.virt e size;have hag:=ym φ A.length ⟨0,0,0⟩;have hlen:(A++[AObj.row [] e size]).length=A.length+1:=by simp
 have hds:dsC (upd3 φ A.length ⟨0,0,0⟩) ds=dsC φ ds:=by
  unfold dsC;exact List.map_congr_left fun d hd'=>by rw [hag d (h4 d hd')]
 have hj:=hA.view.get (hu A.length).mem;have hjl:j<A.length:=(lD.1 hj).1;have hj2:(A++[AObj.row [] e size])[j]? =some (.cells l t rw'):=by rw [lG hjl]; exact hj
 have hstep:=hA.step (.push hA.view hA.nd (.row [] e size));have hstep2:=hstep.step (.set hstep.view hstep.nd (Upd.tail (hu A.length)));have hil:i<l.length:=(lD.1 hi).1;have hne:l≠[]:=fun e=>by rw [e] at hil; exact absurd hil (Nat.not_lt_zero _)
 rw [<- hds];refine h _ hk _ hstep2 _ H ts (h1.trans hag h2) (by simp; omega) (by simpa using h3.mono hag oQ) (fun d hd=>by have:=h4 d hd; simp; omega) (hH.turn hj2 (fun ho hl=>?_) (fun h=>h) (fun _=>rfl) (fun hs=>by simpa [sol] using hne)) (by simpa using h6.mono hag oQ);obtain ⟨rw2,cur,fz,q1,q2,q3⟩:=ho hne;refine ⟨rw2,cur,fz,q1,fun h=>⟨(q2 h).1,(q2 h).2.1,by rw [List.length_set]; exact (q2 h).2.2⟩,fun t' a ha=>?_⟩;by_cases e:t'=i
 ·subst e;rw [List.getElem?_set_self hil] at ha;cases ha;obtain ⟨y,hy,hr⟩:=q3 t' _ hi;refine ⟨y,hy,?_⟩;rw [inv_v hr];refine .row oQ sQ ?_;unfold rowV;simp [upd3]
 ·rw [lP (fun h=>e h.symm)] at ha;exact q3 t' a ha
theorem TK.unrowAt {c i j n:Nat} {l l1:List AV} {t e1:TypeId} {s1:Nat} {rw':Bool} (hi:l[i]? =some (.row j n)) (hm:(j,.row l1 e1 s1)∈K) (hu:Upd K c (.cells l t rw') c (.cells (l.set i (.sl j 0 n)) t rw') K') (h:TK Y ds k env K'):TK Y ds k env K:=fun A hA φ H ts h1 h2 h3 h4 h5 h6=>by
 have hj:=hA.view.get hu.mem;have hb:(φ j).base=0:=(h5.obj j _ (hA.view.get hm)).2.1;have hil:i<l.length:=(lD.1 hi).1;have hne:l≠[]:=fun e=>by rw [e] at hil; exact absurd hil (Nat.not_lt_zero _)
 refine h _ (hA.step (.set hA.view hA.nd hu)) φ H ts h1 (by simpa using h2) (by simpa using h3) (by simpa using h4) (h5.turn hj (fun ho hl=>?_) (fun h=>h) (fun _=>rfl) (fun hs=>by simpa [sol] using hne)) (by simpa using h6);obtain ⟨rw2,cur,fz,q1,q2,q3⟩:=ho hne;refine ⟨rw2,cur,fz,q1,fun h=>⟨(q2 h).1,(q2 h).2.1,by rw [List.length_set]; exact (q2 h).2.2⟩,fun t' a ha=>?_⟩;by_cases e:t'=i
 ·subst e;rw [List.getElem?_set_self hil] at ha;cases ha;obtain ⟨y,hy,hr⟩:=q3 t' _ hi;exact ⟨y,hy,by have:=vF (j:=j) hb hr; simpa [unrow] using this⟩
 ·rw [lP (fun h=>e h.symm)] at ha;exact q3 t' a ha
theorem zdw {φ:Nat->Loc3} {A:List AObj} {F H:Hp} (h:RelH φ A F H) {j:Nat} {l:List AV} {e:TypeId} {sz:Nat} (hj:A[j]? =some (.row l e sz)):RelH φ (A.set j (.cells l e false)) F H:=by
 have hg:∀ t w,(A.set j (.cells l e false))[t]? =some w->(t=j/\w=.cells l e false)\/(t≠j/\A[t]? =some w):=fun t w ht=>by
  rw [lX] at ht;split at ht
  ·rename_i e';split at ht
   ·cases ht; exact .inl ⟨e'.symm,rfl⟩
   ·cases ht
  ·rename_i e';exact .inr ⟨fun h=>e' h.symm,ht⟩
 have hcap:l≠[]->0<(φ j).cap:=fun hl=>by
  rcases mP (φ j).cap with e | e
  ·exact absurd ((h.obj j _ hj).1 e) hl
  ·exact e
 refine ⟨fun t w ht=>?_,fun t t' w w' ht ht' hn he hl s1 s2=>?_,h.fr,fun t w ht he hs=>?_⟩
 ·rw [List.length_set];rcases hg t w ht with ⟨rfl,rfl⟩ | ⟨_,h2⟩
  ·intro hl;obtain ⟨_,hb,hc⟩:=h.obj t _ hj;obtain ⟨cur,h1,_,_,_,h3⟩:=hc (hcap hl);exact ⟨true,cur,(e,0,0),h1,(fun h=>by cases h),fun i a ha=>by rw [hb,mO]; exact h3 i a ha⟩
  ·exact h.obj t w h2
 ·rcases hg t w ht with ⟨rfl,rfl⟩ | ⟨_,h2⟩
  ·cases he
  ·rcases hg t' w' ht' with ⟨rfl,rfl⟩ | ⟨_,h2'⟩
   ·exact h.apart t t' w _ h2 hj hn he rfl s1 (hcap s2)
   ·exact h.apart t t' w w' h2 h2' hn he hl s1 s2
 ·rcases hg t w ht with ⟨rfl,rfl⟩ | ⟨_,h2⟩
  ·cases he
  ·exact h.frx t w h2 he hs
theorem TK.frzRow {j:Nat} {l:List AV} {e:TypeId} {sz:Nat} (h:TK Y ds k env K') (hu:Upd K j (.row l e sz) j (.cells l e false) K':=by repeat (first | exact Upd.head | apply Upd.tail)):TK Y ds k env K:=fun A hA φ H ts h1 h2 h3 h4 h5 h6=>by
 have hj:=hA.view.get hu.mem;have hl:(A.set j (.cells l e false)).length=A.length:=by simp
 exact h _ (hA.step (.set hA.view hA.nd hu)) φ H ts h1 (by rw [hl]; exact h2) (by rw [hl]; exact h3) (by rw [hl]; exact h4) (zdw h5 hj) (by rw [hl]; exact h6)
end
end Go.Vel
namespace Go.Vel
open Go Go.Conc Go.Proofs
open Go.ConcN (sumTo upd upd_ne upd_same)
open Go.ConcM (OsLater MuAt muA msA)
open Go.ConcR (KK wgBlock WgAt stA smA mk rd wr)
open Mx (TT Th Mn S4 auto Mv4 ok4 bl4 kd dl MPc Pc okW okM Mv nx4 cnt newOf)
section
variable {P:Program} {gm:Nat->Option Nat} {T:Goroutine->Hp->Prop} {Y:KX P gm T} {ds:List Nat} {k:List Item} {env:List AV} {K:KV}
theorem TK.nd (h:(keys K).Nodup->TK Y ds k env K):TK Y ds k env K:=fun A hA=>h hA.nd A hA
end
def zw (b:Nat):Nat->List Int
 | 0=>[]
 | i+1=>zw b i++(if b / 2 ^ i % 2=1 then [(i:Int)] else [])
theorem wF (b:Nat):∀ i,(zw b i).length<=i
 | 0=>mL _
 | i+1=>by
  have:=wF b i;unfold zw;rw [lF];split <;> simp <;> omega
theorem vw {m b:Nat} (hm:m<=5) (hb:b<2 ^ m) (h:zw b m=[]):b=0:=by
 have key:∀ m,m<=5->∀ b,b<32->b<2 ^ m->zw b m=[]->b=0:=by decide +kernel
 have:2 ^ m<=2 ^ 5:=Nat.pow_le_pow_right dQ hm;exact key m hm b oQ hb h
def PlanR (Sq:KV) (m:Nat) (bt:List Int×Int->List Int×Int->Bool) (hi:Nat->Int) (ok:Nat->Bool) (r:AV) (K':KV):Prop :=
 (r=.tup [.agg [.v (.slice none 0 0),.v (.int .i64 0)],.v (.bool false)]/\K'=Sq/\∀ b,0<b->b<2 ^ m->ok b=false) \/
 ∃ b j e,0<b/\b<2 ^ m/\ok b=true/\(∀ c,0<c->c<2 ^ m->ok c=true->(zw c m,hi c)=(zw b m,hi b)\/bt (zw b m,hi b) (zw c m,hi c)=true) /\
  r=.tup [.agg [.sl j 0 (zw b m).length,.v (.int .i64 (hi b))],.v (.bool true)]/\K'=(j,.cells ((zw b m).map fun a=>.v (.int .i64 a)) e false)::Sq
theorem zeF (m:Nat):zw 0 m=[]:=by
 induction m with
 | zero=>rfl
 | succ m ih=>unfold zw; rw [ih,Nat.zero_div,if_neg dQ]; rfl
theorem zfq (b i:Nat):((b:Nat):Int) / 2 ^ ((i:Nat):Int).toNat=((b / 2 ^ i:Nat):Int):=by
 rw [mZ];simp
theorem zht {Ψ:Goroutine->World->Prop} {gm:Nat->Option Nat} {m s:Nat} {a0 a1 a2 a3 a5 a6 a7:AV} {gF:FuncId} {Sq:KV} {bt:List Int×Int->List Int×Int->Bool} {lw hi:Nat->Int} {ok:Nat->Bool} (hm:1<=m/\m<=5) (hSq:∀ z∈Sq,∃ l e,l≠[]/\z.2=.cells l e false)
  (htr:∀ p q r,bt p q=true->bt q r=true->bt p r=true) (htot:∀ b c,0<b->b<2 ^ m->0<c->c<2 ^ m->ok b=true->ok c=true->(zw b m,hi b)=(zw c m,hi c)\/bt (zw b m,hi b) (zw c m,hi c)=true\/bt (zw c m,hi c) (zw b m,hi b)=true)
  (hsq:∀ b,0<b->b<2 ^ m->∀ (jr:Nat) {T:Goroutine->Hp->Prop},zo tp false T->zA tp T gm 135 [.agg [a0,a1,a2,a3,.sl s 0 m,a5,a6,a7],.sl jr 0 (zw b m).length] ((jr,.cells ((zw b m).map fun a=>.v (.int .i64 a)) 3 false)::Sq) (fun r K'=>r=.tup [.agg [.v (.int .i64 (lw b)),.v (.int .i64 (hi b))],.v (.bool (ok b))]/\K'=(jr,.cells ((zw b m).map fun a=>.v (.int .i64 a)) 3 false)::Sq))
  (hbt:∀ {T:Goroutine->Hp->Prop},zo tp false T->∀ (jr:Nat) (cs:List Int) (cost:Int) (cs0:List Int) (cost0:Int) (j0:Nat) (e0:TypeId),cs.length<=5->CallFK tp T gm (.fn gF [] []) [.agg [.sl jr 0 cs.length,.v (.int .i64 cost)],.agg [.sl j0 0 cs0.length,.v (.int .i64 cost0)]] [(jr,.cells (cs.map fun a=>.v (.int .i64 a)) 3 false),(j0,.cells (cs0.map fun a=>.v (.int .i64 a)) e0 false)] (fun r K'=>r=.v (.bool (bt (cs,cost) (cs0,cost0)))/\K'=[(jr,.cells (cs.map fun a=>.v (.int .i64 a)) 3 false),(j0,.cells (cs0.map fun a=>.v (.int .i64 a)) e0 false)])) :
  zA tp (BT tp Ψ) gm 108 [.agg [a0,a1,a2,a3,.sl s 0 m,a5,a6,a7],.fn gF [] []] Sq (fun r K'=>PlanR Sq m bt hi ok r K'):=by
 obtain ⟨n,hn⟩:∃ n,n=2 ^ m - 1:=⟨_,rfl⟩;obtain ⟨lkr,hlk⟩:∃ lkr:Nat->Bool,lkr=fun i=>decide (i<2 ^ m - 1)&&ok (i+1):=⟨_,rfl⟩;obtain ⟨off,hof⟩:∃ off:Nat->List Int×Int,off=fun i=>(zw (i+1) m,hi (i+1)):=⟨_,rfl⟩;refine vx 50 (kI Ψ) Tryz.func108 fun Y hro hret3=>?_;have hret:RetK Y Tryz.f108.results.toList (fun r K'=>PlanR Sq m bt hi ok r K'):=fun j env K' K'' D r hj hs hres hp A' hA'=>hret3 j [] env K' K' K'' [] D r hj (.all _) List.nodup_nil sQ hs hres hp A' hA';have hn1:1<=n/\n<=31:=by
  obtain ⟨h1,h2⟩:=hm;have:m=1\/m=2\/m=3\/m=4\/m=5:=by omega
  rcases this with rfl | rfl | rfl | rfl | rfl <;> subst hn <;> decide
 have hsh:IntKind.i64.wrap (1*2 ^ ((m:Nat):Int).toNat)=((2 ^ m:Nat):Int):=by
  obtain ⟨h1,h2⟩:=hm;have:m=1\/m=2\/m=3\/m=4\/m=5:=by omega
  rcases this with rfl | rfl | rfl | rfl | rfl <;> decide
 have hm2:2 ^ m<=32:=by omega
 have hlk1:∀ i,lkr i=true->i+1<2 ^ m/\ok (i+1)=true:=fun i h=>by
  rw [hlk] at h;simp only [mX,decide_eq_true_eq] at h;exact ⟨by omega,h.2⟩
 have hnee:∀ i,lkr i=true->(off i).1≠[]:=fun i h=>by
  rw [hof];exact fun e=>by have:=vw hm.2 (hlk1 i h).1 e; omega
 refine au 21042 ?_;intro jk hjk;refine au 210 ?_;intro jf hjf;refine au 220 ?_;intro jres hjres;refine au 2204235 ?_;intro jo hjo;refine au 220423 ?_;intro jm hjm;refine au 220423 ?_;intro jw hjw;refine au 223 ?_;refine bC ((jm,_)::(jw,_)::(jo,_)::(jk,_)::(jf,_)::(jres,_)::Sq) ?_;refine TK.into (n:=n) (lkr:=lkr) (tM:=194) (tW:=201) (tO:=187) (d7:=7) (d8:=8) (vs9:=z9) (GIo lkr off bt 187) hn1 hro Z Z dQ sQ (fun lo hlo=>zfY lo) ?_;intro y φ0 A0 hyn hyl hyS hyG hyb hjo hback k;refine TK.frz (j:=jk) ?_;refine TK.frz (j:=jf) ?_;refine au 2806906706706704 ?_;refine bH Z (q_shL Z Z Z ⟨by omega,by show ((m:Nat):Int)<=64; omega⟩ (r:=((2 ^ m:Nat):Int)) hsh) ?_;refine au 13031 ?_;refine bA [2,3,4,5,6,7,8,17,18] ?_;refine TK.loopR (ι:=Nat) (fun b=>.m { pc:=if b - 1<n then .a0 else .w0,j:=b - 1 }) (fun r b env K=>b<=2 ^ m/\r=2 ^ m - b/\K=(jo,AObj.gone)::(jk,AObj.cells [a0,a1,a2,a3,.sl s 0 m,a5,a6,a7] 139 false)::(jf,AObj.cells [.fn gF [] []] 146 false)::(jres,AObj.cells [.v (.slice none 0 0),.v (.int .i64 0)] 143 true)::Sq/\env=[.any,.any,.ptr jk 0,.ptr jf 0,.ptr jres 0,.v (.bool false),.ptr jo 0,.v (.pointer (some ⟨y.Mu,0,none⟩)),.v (.pointer (some ⟨y.Wg,0,none⟩)),.any,.any,.any,.any,.any,.any,.any,.any,.v (.int .i64 ((2 ^ m:Nat):Int)),.v (.int .i64 ((b:Nat):Int)),.any,.any,.any,.any,.any,.any,.any,.any,.any,.any,.any,.any,.any,.any,.any,.any,.any,.any,.any,.any,.any,.any,.any,.any,.any,.any,.any,.any,.any,.any,.any]) (2 ^ m) 0 ⟨mN _,rfl,rfl,rfl⟩ (by rw [if_pos oQ]) ?_;rintro r k b env K ⟨hb,hr,rfl,rfl⟩ ih;refine au 923742 ?_;constructor<;>intro hc0
 ·have hbn:b<2 ^ m:=Int.ofNat_lt.1 (of_decide_eq_true hc0);refine au 22042351421302120 ?_;intro jc hjc;refine TK.virtAt (i:=0) (e:=3) (size:=1) Z (fun _=>uQ) fun jn0 hjn0=>?_;refine au 130312806906706706704223 ?_;refine bA [2,3,4,5,6,7,8,9,10,17,18,25,26] ?_;refine bC ((jc,_)::(jn0,_)::(jo,AObj.gone)::(jk,AObj.cells [a0,a1,a2,a3,.sl s 0 m,a5,a6,a7] 139 false)::(jf,AObj.cells [.fn gF [] []] 146 false)::(jres,AObj.cells [.v (.slice none 0 0),.v (.int .i64 0)] 143 true)::Sq) ?_;refine TK.loopN (fun n1 env K=>∃ (i jr:Nat),n1=m - i/\i<=m/\env=naL 2 (.ptr jk 0::.ptr jf 0::.ptr jres 0::.v (.bool false)::.ptr jo 0::.v (.pointer (some ⟨y.Mu,0,none⟩))::.v (.pointer (some ⟨y.Wg,0,none⟩))::.v (.int .i64 ((b:Nat):Int))::.ptr jc 0::naL 6 (.v (.int .i64 ((2 ^ m:Nat):Int))::.v (.int .i64 ((b:Nat):Int))::naL 6 (.v (.int .i64 ((m:Nat):Int))::.v (.int .i64 ((i:Nat):Int))::naL 23 [])))/\K=(jc,AObj.cells [.row jr (zw b i).length] 27 true)::(jr,AObj.row ((zw b i).map fun a=>.v (.int .i64 a)) 3 1)::(jo,AObj.gone)::(jk,AObj.cells [a0,a1,a2,a3,.sl s 0 m,a5,a6,a7] 139 false)::(jf,AObj.cells [.fn gF [] []] 146 false)::(jres,AObj.cells [.v (.slice none 0 0),.v (.int .i64 0)] 143 true)::Sq) m ⟨0,jn0,rfl,mN _,rfl,rfl⟩ fun n1 env K hI hnext=>?_;obtain ⟨i,jr,rfl,him,rfl,rfl⟩:=hI;have hbl:=wF b i;refine TK.na nQ ?_;refine au 923742 ?_;constructor<;>intro hc1
  ·have hlt:i<m:=by simp at hc1; omega
   refine au 1142351421302120 ?_;refine bH Z (q_sh Z Z Z ⟨by omega,by show ((i:Nat):Int)<=64; omega⟩ (zfq b i)) ?_;refine bH Z (zfh Z Z Z (by have:=Nat.div_le_self b (2 ^ i); omega)) ?_;refine au 937 ?_;constructor<;>intro hc2
   ·have hbit:b / 2 ^ i % 2=1:=by have h:=eq_of_beq hc2; omega
    refine au 16904 ?_;refine TK.newR Z Z Z (zt (l:=[_]) Z zF.h TyZ.h dQ dQ Z) (fun _=>zu rfl tQ) fun j1 hj1=>?_;refine TK.appR Z Z Z (a_app Z ApOf.h Z mQ sQ Z (yw (ln:=[_]) mQ dQ sQ Z) oQ Z (by unfold maxLen; omega) oQ) (fun _=>uQ) (fun _=>zu rfl tQ) fun jr2=>?_;refine au 3123041403170 ?_;refine bA [2,3,4,5,6,7,8,9,10,17,18,25,26] ?_;refine bC ((jc,_)::(jr2,_)::(jo,AObj.gone)::(jk,AObj.cells [a0,a1,a2,a3,.sl s 0 m,a5,a6,a7] 139 false)::(jf,AObj.cells [.fn gF [] []] 146 false)::(jres,AObj.cells [.v (.slice none 0 0),.v (.int .i64 0)] 143 true)::Sq) ?_;have hk:zw b (i+1)=zw b i++[(i:Int)]:=by show zw b i++_=_; rw [if_pos hbit]
    have hl:(zw b (i+1)).length=(zw b i).length+1:=by rw [hk]; simp
    exact hnext (m - (i+1)) _ _ oQ ⟨i+1,jr2,rfl,oQ,rfl,by rw [hl,hk,List.map_append]; rfl⟩
   have hbit:¬ b / 2 ^ i % 2=1:=fun h=>by rw [h] at hc2; simp at hc2
   refine au 312304140120 ?_;refine bA [2,3,4,5,6,7,8,9,10,17,18,25,26] ?_;exact hnext (m - (i+1)) _ _ oQ ⟨i+1,jr,rfl,oQ,rfl,by rw [show zw b (i+1)=zw b i from by show zw b i++_=_; rw [if_neg hbit,List.append_nil]]⟩
  obtain rfl:m=i:=by simp at hc1; omega
  refine au 937280690422160 ?_;constructor<;>intro hc3
  ·have hb0:b=0:=vw hm.2 hbn (List.length_eq_zero_iff.1 (by have:=eq_of_beq hc3; omega));refine au 312304160 ?_;refine bA [2,3,4,5,6,7,8,17,18] ?_;refine bC ((jo,AObj.gone)::(jk,AObj.cells [a0,a1,a2,a3,.sl s 0 m,a5,a6,a7] 139 false)::(jf,AObj.cells [.fn gF [] []] 146 false)::(jres,AObj.cells [.v (.slice none 0 0),.v (.int .i64 0)] 143 true)::Sq) ?_;refine TK.castT (T':=.m { pc:=if b+1 - 1<n then .a0 else .w0,j:=b+1 - 1 }) Z (by subst hb0; rfl) ?_;exact ih (2 ^ m - (b+1)) _ (b+1) _ _ oQ ⟨by omega,rfl,rfl,rfl⟩
  have hb1:0<b:=Nat.pos_of_ne_zero fun e=>by subst e; rw [zeF] at hc3; simp at hc3
  refine au 42120 ?_;refine TK.castT (T':=.m { pc:=.a0,j:=b - 1 }) Z (by show TT.m { pc:=if b - 1<n then .a0 else .w0,j:=b - 1 }=_; rw [if_pos oQ]) ?_;refine TK.callS Z Z Z Z (zgA (lo:=(jo,φ0 jo)) y) hjo Z ?_;rintro r2 K2 T2 ⟨rfl,rfl,k2,hk2,rfl⟩;refine ⟨y.shutF _ _ _ _ _ _,?_⟩;refine au 3 ?_;refine bC ((jc,_)::(jr,_)::(jo,AObj.gone)::(jk,AObj.cells [a0,a1,a2,a3,.sl s 0 m,a5,a6,a7] 139 false)::(jf,AObj.cells [.fn gF [] []] 146 false)::(jres,AObj.cells [.v (.slice none 0 0),.v (.int .i64 0)] 143 true)::Sq) ?_;refine TK.unrowAt (c:=jc) (i:=0) (j:=jr) Z mQ uQ ?_;refine TK.frz (j:=jc) ?_;refine TK.frzRow (j:=jr) ?_;refine TK.nd fun hnd=>?_;refine au 3204 ?_;have hlb:lkr (b - 1)=ok b:=by rw [hlk]; show (decide (b - 1<2 ^ m - 1)&&ok (b - 1+1))=ok b; rw [show b - 1+1=b by omega,decide_eq_true oQ,Bool.true_and]
  have hob:off (b - 1)=(zw b m,hi b):=by rw [hof]; show (zw (b - 1+1) m,hi (b - 1+1))=_; rw [show b - 1+1=b by omega]
  have hnd:(jc::jr::jo::jk::jf::jres::keys Sq).Nodup:=hnd;simp only [List.nodup_cons,lI,not_or] at hnd;refine TK.fork (S:=(jk,AObj.cells [a0,a1,a2,a3,.sl s 0 m,a5,a6,a7] 139 false)::(jc,AObj.cells [.sl jr 0 (zw b m).length] 27 false)::(jr,AObj.cells ((zw b m).map fun a=>.v (.int .i64 a)) 3 false)::(jf,AObj.cells [.fn gF [] []] 146 false)::Sq) (lo:=(jo,φ0 jo)) rfl rfl rfl rfl rfl (by kernel_rfl) (fun z hz=>by
   simp only [lI] at hz;rcases hz with rfl | rfl | rfl | rfl | hz
   ·exact ⟨by simp,_,_,List.cons_ne_nil _ _,rfl⟩
   ·exact ⟨by simp,_,_,List.cons_ne_nil _ _,rfl⟩
   ·exact ⟨by simp,_,_,fun e=>by rw [List.map_eq_nil_iff] at e; have:=vw hm.2 hbn e; omega,rfl⟩
   ·exact ⟨by simp,_,_,List.cons_ne_nil _ _,rfl⟩
   ·exact ⟨by simp [hz],hSq z hz⟩)
   (by show (jk::jc::jr::jf::keys Sq).Nodup; simp only [List.nodup_cons,lI,not_or]; grind)
   hjo rfl (by show jo∉jk::jc::jr::jf::keys Sq; simp only [lI,not_or]; grind)
   (fun k3 x3 φ3 A3 Hc3 vs3 hv3 hd3 hl3 hl4 hg3 hH3 hvs3=>zfA (lo:=(jo,φ0 jo)) (i:=b - 1) (cs:=zw b m) (a:=lw b) (cost:=hi b) (off:=off) (bt:=bt) y (by rw [hyl]; exact hyG) hyb (fun _=>hob) (by rw [hyl]; exact hnee) htr
    (by rw [hyl]; intro i1 i2 h1 h2; rw [hof]; exact htot (i1+1) (i2+1) oQ (hlk1 i1 h1).1 oQ (hlk1 i2 h2).1 (hlk1 i1 h1).2 (hlk1 i2 h2).2)
    (fun hT=>by rw [hyl,hlb]; exact hsq b hb1 hbn jr hT) (fun hT cs0 cost0 j0 e0=>hbt hT jr _ _ cs0 cost0 j0 e0 (by have:=wF b m; omega)) hv3 hd3 hl3 hl4 hg3 hH3 hvs3) (fun k3 hk3=>?_)
  refine au 3123041403 ?_;refine bA [2,3,4,5,6,7,8,17,18] ?_;refine bC ((jo,AObj.gone)::(jk,AObj.cells [a0,a1,a2,a3,.sl s 0 m,a5,a6,a7] 139 false)::(jf,AObj.cells [.fn gF [] []] 146 false)::(jres,AObj.cells [.v (.slice none 0 0),.v (.int .i64 0)] 143 true)::Sq) ?_;refine TK.castT (T':=.m { pc:=if b+1 - 1<n then .a0 else .w0,j:=b+1 - 1 }) Z (by show TT.m { pc:=if b - 1+1<y.n then .a0 else .w0,j:=b - 1+1 }=_; rw [hyn,show b - 1+1=b by omega,Nat.add_sub_cancel]) ?_;exact ih (2 ^ m - (b+1)) _ (b+1) _ _ oQ ⟨by omega,rfl,rfl,rfl⟩
 have hbn:¬ b<2 ^ m:=fun h=>of_decide_eq_false hc0 (Int.ofNat_lt.2 h);obtain rfl:b=2 ^ m:=by omega
 refine au 42160 ?_;refine TK.castT (T':=.m { pc:=.w0,j:=2 ^ m - 1 }) Z (by show TT.m { pc:=if 2 ^ m - 1<n then .a0 else .w0,j:=2 ^ m - 1 }=_; rw [if_neg oQ]) ?_;refine TK.callS Z Z Z Z (zfx (lo:=(jo,φ0 jo)) (PW:=PLo lkr off bt 187 jo y.all) y (hyS ▸ kI Ψ) (zhT hyG hyb)) hjo Z ?_;rintro r2 K2 T2 ⟨rfl,⟨best,hbest,hpl⟩,hT2⟩;obtain rfl:T2=BT tp Ψ:=hT2.trans hyS;refine ⟨kI Ψ,?_⟩;refine hback ?_;have hall:∀ c,0<c->c<2 ^ m->ok c=true->lkr (c - 1)=true/\y.all (c - 1)=true/\off (c - 1)=(zw c m,hi c):=fun c h1 h2 h3=>by
  have e:lkr (c - 1)=true:=by rw [hlk]; show (decide (c - 1<2 ^ m - 1)&&ok (c - 1+1))=true; rw [show c - 1+1=c by omega,decide_eq_true oQ,h3]; rfl
  refine ⟨e,?_,?_⟩
  ·show (y.lkr (c - 1)&&decide (c - 1<y.n))=true;rw [hyl,e,hyn,decide_eq_true oQ]; rfl
  ·rw [hof]; show (zw (c - 1+1) m,hi (c - 1+1))=_; rw [show c - 1+1=c by omega]
 rcases best with _ | ⟨cs0,cost0⟩
 ·have hpl:K2=[(jo,.cells (z9.map AV.v) 187 true)]:=hpl;subst hpl;refine au 23 ?_;refine TK.dq [0,1,4,2,3,5] ?_;refine ad [[3,6],[12,46],[3,6],[10,48]] ?_;refine TD.s (pend':=[⟨3,[48],[(_,_)]⟩,⟨2,[6],[]⟩]) [4,47] Z Z (zX Z Z zi.h Z Z mQ Z) ?_;refine ad [[13,49],[14]] ?_;refine au 0 ?_;refine TK.rt hret (Sq) ?_;refine .inl ⟨rfl,rfl,fun c h1 h2=>?_⟩;cases h3:ok c with
  | false=>rfl
  | true =>
   obtain ⟨q1,q2,q3⟩:=hall c h1 h2 h3;have:=hbest (c - 1) q1;rw [q2] at this;cases this
 ·obtain ⟨j0,e0,rfl⟩:=hpl;refine au 23 ?_;refine TK.dq [0,1,4,2,3,5] ?_;refine ad [[3,6],[12,46],[3,6],[10,48]] ?_;refine TD.s (pend':=[⟨3,[48],[(_,_)]⟩,⟨2,[6],[]⟩]) [4,47] Z Z (zX Z Z zi.h Z Z mQ Z) ?_;refine ad [[13,49],[14]] ?_;refine au 0 ?_;refine TK.rt hret ((j0,_)::Sq) ?_;obtain ⟨⟨i0,h1,h2,h3⟩,h4⟩:=hbest;obtain ⟨q1,q2⟩:=hlk1 i0 h1;rw [hof] at h3;cases h3;refine .inr ⟨i0+1,j0,e0,oQ,q1,q2,fun c g1 g2 g3=>?_,rfl,rfl⟩;obtain ⟨p1,p2,p3⟩:=hall c g1 g2 g3;have:=h4 (c - 1) p1 p2;rw [p3] at this;exact this
end Go.Vel
namespace Go.Vel
open Go Go.Conc
structure RSeam where
 step:Int
 most:Int
 busy:Int
 spoil:Int
 whole:Bool
 deriving DecidableEq
structure RBand where
 low:Int
 high:Int
 deriving DecidableEq
structure RMeas where
 cloth:Int
 many:Int
 wide:Int
 deriving DecidableEq
structure RBk where
 steps:Int
 round:Int
 roll:Int
 rolls:Int
 seams:List RSeam
 shrinks:List RBand
 measures:List RMeas
 deriving DecidableEq
instance:Inhabited RSeam:=⟨⟨0,0,0,0,false⟩⟩
instance:Inhabited RBand:=⟨⟨0,0⟩⟩
instance:Inhabited RMeas:=⟨⟨0,0,0⟩⟩
abbrev intA (n:Int):AV:=.v (.int .i64 n)
abbrev zP (t:Bool):AV:=.v (.bool t)
def seamC (x:RSeam):List AV:=[intA x.step,intA x.most,intA x.busy,intA x.spoil,zP x.whole]
def bandC (x:RBand):List AV:=[intA x.low,intA x.high]
def measC (x:RMeas):List AV:=[intA x.cloth,intA x.many,intA x.wide]
def zE (b:RBk) (s h e:Nat):List AV:=[intA b.steps,intA b.round,intA b.roll,intA b.rolls,.sl s 0 b.seams.length,.sl h 0 b.shrinks.length,.sl e 0 b.measures.length]
abbrev zk (b:RBk):AObj:=.cells (b.seams.flatMap seamC) 94 false
abbrev zB (b:RBk):AObj:=.cells (b.shrinks.flatMap bandC) 51 false
abbrev zq (b:RBk):AObj:=.cells (b.measures.flatMap measC) 49 false
abbrev intsO (l:List Int):AObj:=.cells (l.map intA) 3 false
def slotR (s:List Int) (i:Nat):AV:=intA (s.getD i 0)
def stC (s:List Int):List AV:=[slotR s 0,slotR s 1,slotR s 2,slotR s 3,slotR s 4]
theorem uH {α:Type} (f:α->List AV) (c:Nat) (hc:∀ x,(f x).length=c):∀ (xs:List α) (i:Nat) (h:i<xs.length),((xs.flatMap f).drop (i*c)).take c=f xs[i]
 | x::xs,0,_=>by
  rw [Nat.zero_mul,List.drop_zero,List.flatMap_cons,List.take_left' (hc x)]; rfl
 | x::xs,i+1,h=>by
  rw [List.flatMap_cons,Nat.succ_mul,Nat.add_comm,<- List.drop_drop,List.drop_left' (hc x)];exact uH f c hc xs i (by simpa using h)
theorem yz {α:Type} (f:α->List AV) (c:Nat) (hc:∀ x,(f x).length=c) (xs:List α):(xs.flatMap f).length=xs.length*c:=by
 induction xs with
 | nil=>simp
 | cons x xs ih=>rw [List.flatMap_cons,lF,ih,hc,lZ,Nat.succ_mul,Nat.add_comm]
theorem vb {α:Type} {f:α->List AV} {c:Nat} (hc:∀ x,(f x).length=c) {xs:List α} {x:α} {i:Nat} {n:Int} {e:TypeId} {rw':Bool} (h:xs[i]? =some x) (hn:n=(i:Int)) (h0:0<c):takeO (.cells (xs.flatMap f) e rw') (0+n.toNat*c) c=some (f x):=by
 subst hn;obtain ⟨h1,h2⟩:=lD.1 h;have hle:(i+1)*c<=xs.length*c:=Nat.mul_le_mul_right _ h1;have:(i+1)*c=i*c+c:=Nat.succ_mul ..;simp only [takeO,AObj.look,mZ,mO];rw [if_pos ⟨by omega,by rw [yz f c hc]; omega⟩,uH f c hc _ _ h1,h2]
theorem yi {l:List Int} {i:Nat} {n x:Int} {e:TypeId} {rw':Bool} (h:l[i]? =some x) (hn:n=(i:Int)):takeO (.cells (l.map intA) e rw') (0+n.toNat*1) 1=some [intA x]:=by
 subst hn;obtain ⟨h1,h2⟩:=lD.1 h;simp only [takeO,AObj.look,mZ,mO,Nat.mul_one];rw [if_pos ⟨by omega,by rw [lJ]; omega⟩,List.take_one,List.head?_drop,lQ,h];rfl
theorem zaj {l:List Int} {i:Nat} {n x:Int} {e:TypeId} {s:Nat} (h:l[i]? =some x) (hn:n=(i:Int)):takeO (.row (l.map intA) e s) (n.toNat*1) 1=some [intA x]:=by
 subst hn;obtain ⟨h1,h2⟩:=lD.1 h;simp only [takeO,AObj.look,mZ,Nat.mul_one];rw [if_pos ⟨by omega,by rw [lJ]; omega⟩,List.take_one,List.head?_drop,lQ,h];rfl
theorem yn {ob:AObj} {p n c:Nat} {l:List AV} {v:AV} (h:takeO ob p n=some l) (hc:c<n) (hl:l[c]? =some v):takeO ob (p+c) 1=some [v]:=by
 unfold takeO at h ⊢;cases hk:ob.look with
 | none=>rw [hk] at h; cases h
 | some q =>
  rw [hk] at h;dsimp only at h ⊢;split at h
  ·rename_i hb;cases h;rw [if_pos ⟨by omega,oQ⟩];rw [List.getElem?_take,if_pos hc,List.getElem?_drop] at hl;obtain ⟨h1,h2⟩:=lD.1 hl;rw [List.take_one,List.head?_drop,hl];rfl
  ·cases h
theorem zH {α:Type} {l:List α} {i:Nat} {x:α} (h:l[i]? =some x):l.drop i=x::l.drop (i+1):=by
 obtain ⟨h1,rfl⟩:=lD.1 h;exact List.drop_eq_getElem_cons h1
theorem yQ {α:Type} {l:List α} {i:Nat} {x:α} (h:l[i]? =some x):l.take (i+1)=l.take i++[x]:=by
 rw [List.take_add_one,h]; rfl
def sm (b:RBk) (i:Nat):RSeam:=b.seams.getD i default
theorem yW {b:RBk} {i:Nat} (h:i<b.seams.length):b.seams[i]? =some (sm b i):=by
 unfold sm;rw [lE,lA h]; rfl
theorem ziE {b:RBk} {i:Nat} (h:i<b.seams.length):sm b i∈b.seams:=lN (yW h)
def bd (b:RBk) (i:Nat):RBand:=b.shrinks.getD i default
theorem kq {b:RBk} {i:Nat} (h:i<b.shrinks.length):b.shrinks[i]? =some (bd b i):=by
 unfold bd;rw [lE,lA h]; rfl
theorem sm_at (b:RBk) {i:Nat} {n:Int} {e:TypeId} {rw':Bool} (h:i<b.seams.length) (hn:n=(i:Int)):takeO (.cells (b.seams.flatMap seamC) e rw') (0+n.toNat*5) 5=some (seamC (sm b i)):=vb (c:=5) (fun _=>rfl) (yW h) hn dQ
theorem bd_at (b:RBk) {i:Nat} {n:Int} {e:TypeId} {rw':Bool} (h:i<b.shrinks.length) (hn:n=(i:Int)):takeO (.cells (b.shrinks.flatMap bandC) e rw') (0+n.toNat*2) 2=some (bandC (bd b i)):=vb (c:=2) (fun _=>rfl) (kq h) hn dQ
def wideM (b:RBk) (i:Nat):Int:=(if i+1<b.seams.length then (sm b (i+1)).step else (sm b 0).step+b.steps) - (sm b i).step
def betw (n lo hi:Int):Bool:=decide (lo<=n)&&decide (n<=hi)
theorem vN {n lo hi:Int} (h:betw n lo hi=true):lo<=n/\n<=hi:=by simpa [betw] using h
def isBd (x:RBand) (lo hi:Int):Bool:=decide (lo<=x.low)&&decide (x.low<=x.high)&&decide (x.high<=hi)
def roundsM (b:RBk):Int:=if (betw b.steps 2 24&&betw b.round b.steps 40&&betw b.roll 1 24&&betw b.rolls 1 5)=true then 0 else 1
def seamB (b:RBk) (s:RSeam):Bool:=betw s.step 0 (b.steps - 1)&&betw s.most 0 9&&betw s.busy 0 9&&betw s.spoil 0 9
def seamsL (b:RBk):Int->List RSeam->Int
 | _,[]=>0
 | last,s::r=>if seamB b s=false then 1 else if s.step<=last then 7 else seamsL b s.step r
def seamsM (b:RBk):Int:=if betw b.seams.length 1 5=false then 2 else seamsL b (-1) b.seams
def bandB (x:RBand):Bool:=isBd x 0 5&&decide (x.high - x.low<3)
def clothsL (b:RBk):Nat->List RBand->Int
 | _,[]=>0
 | i,x::r=>if bandB x=false then 1 else if wideM b i<=x.high then 8 else clothsL b (i+1) r
def clothsM (b:RBk):Int:=if b.shrinks.length≠b.seams.length then 2 else clothsL b 0 b.shrinks
def thereM (b:RBk) (n:Int):Int:=if betw n 0 (b.seams.length - 1)=true then 0 else 6
def measB (b:RBk) (m:RMeas):Bool:=betw m.many 1 b.seams.length&&betw m.wide 0 24
def measL (b:RBk):List RMeas->Int
 | []=>0
 | m::r=>if thereM b m.cloth≠0 then thereM b m.cloth else if measB b m=false then 1 else measL b r
def measM (b:RBk):Int:=if 3<b.measures.length then 2 else measL b b.measures
def zr (b:RBk):Int:=if roundsM b≠0 then roundsM b else if seamsM b≠0 then seamsM b else if clothsM b≠0 then clothsM b else measM b
structure RndOk (b:RBk):Prop where
 steps:2<=b.steps/\b.steps<=24
 round:b.steps<=b.round/\b.round<=40
 roll:1<=b.roll/\b.roll<=24
 rolls:1<=b.rolls/\b.rolls<=5
theorem uk {b:RBk} (h:roundsM b=0):RndOk b:=by
 unfold roundsM at h;split at h
 ·rename_i h1;simp only [betw,mX,decide_eq_true_eq] at h1;obtain ⟨⟨⟨⟨h1,h2⟩,h3,h4⟩,h5,h6⟩,h7,h8⟩:=h1;exact ⟨⟨h1,h2⟩,⟨h3,h4⟩,⟨h5,h6⟩,⟨h7,h8⟩⟩
 ·cases h
structure SmOk (b:RBk):Prop where
 len:1<=b.seams.length/\b.seams.length<=5
 fld:∀ i,i<b.seams.length->0<=(sm b i).step/\(sm b i).step<b.steps/\0<=(sm b i).most/\(sm b i).most<=9/\0<=(sm b i).busy/\(sm b i).busy<=9/\0<=(sm b i).spoil/\(sm b i).spoil<=9
 asc:∀ i j,i<j->j<b.seams.length->(sm b i).step<(sm b j).step
theorem zdV {b:RBk} {s:RSeam} (h:seamB b s=true):0<=s.step/\s.step<b.steps/\0<=s.most/\s.most<=9/\0<=s.busy/\s.busy<=9/\0<=s.spoil/\s.spoil<=9:=by
 simp only [seamB,betw,mX,decide_eq_true_eq] at h;omega
theorem zc5 {b:RBk}:∀ (l:List RSeam) (last:Int),seamsL b last l=0->(∀ s∈l,seamB b s=true/\last<s.step)/\l.Pairwise fun s t=>s.step<t.step
 | [],last,_=>⟨fun s hs=>by simp at hs,.nil⟩
 | s::r,last,h=>by
  unfold seamsL at h;split at h
  ·cases h
  ·rename_i h1;split at h
   ·cases h
   ·rename_i h2;obtain ⟨q1,q2⟩:=zc5 r _ h;refine ⟨fun t ht=>?_,.cons (fun t ht=>(q1 t ht).2) q2⟩;rcases lI.1 ht with rfl | ht
    ·exact ⟨by simpa using h1,oQ⟩
    ·have:=(q1 t ht).2;exact ⟨(q1 t ht).1,oQ⟩
theorem uT {b:RBk} (h:seamsM b=0):SmOk b:=by
 unfold seamsM at h;split at h
 ·cases h
 ·rename_i h1;have h1:betw b.seams.length 1 5=true:=by simpa using h1
  have hl:=vN h1;obtain ⟨q1,q2⟩:=zc5 _ _ h;refine ⟨by omega,fun i hi=>zdV (q1 _ (ziE hi)).1,fun i j hij hj=>?_⟩;have hi:i<b.seams.length:=by omega
  have:=List.pairwise_iff_getElem.1 q2 i j hi hj hij;have e1:b.seams[i]=sm b i:=by have:=yW hi; rw [lA hi] at this; exact Option.some.inj this
  have e2:b.seams[j]=sm b j:=by have:=yW hj; rw [lA hj] at this; exact Option.some.inj this
  rwa [e1,e2] at this
theorem zhF {b:RBk} (hr:RndOk b) (hs:SmOk b) {i:Nat} (hi:i<b.seams.length):1<=wideM b i/\wideM b i<=b.steps:=by
 unfold wideM;have h1:=hs.fld i hi;have h0:=hs.fld 0 oQ;split
 ·rename_i h;have:=hs.asc i (i+1) oQ h;have:=hs.fld (i+1) h;omega
 ·rcases mP i with rfl | hp
  ·have:=hr.steps; omega
  ·have:=hs.asc 0 i hp hi;omega
structure ClOk (b:RBk):Prop where
 len:b.shrinks.length=b.seams.length
 bnd:∀ i,i<b.seams.length->0<=(bd b i).low/\(bd b i).low<=(bd b i).high/\(bd b i).high<=5/\(bd b i).high - (bd b i).low<3/\(bd b i).high<wideM b i
theorem zgP {x:RBand} (h:bandB x=true):0<=x.low/\x.low<=x.high/\x.high<=5/\x.high - x.low<3:=by
 simp only [bandB,isBd,mX,decide_eq_true_eq] at h;omega
theorem zbz {b:RBk}:∀ (l:List RBand) (i:Nat),clothsL b i l=0->∀ k x,l[k]? =some x->bandB x=true/\x.high<wideM b (i+k)
 | [],i,_,k,x,hx=>by simp at hx
 | y::r,i,h,k,x,hx=>by
  unfold clothsL at h;split at h
  ·cases h
  ·rename_i h1;split at h
   ·cases h
   ·rename_i h2;cases k with
    | zero=>simp at hx; subst hx; exact ⟨by simpa using h1,by simpa using h2⟩
    | succ k =>
     have:=zbz r (i+1) h k x (by simpa using hx);rw [show i+(k+1)=i+1+k by omega];exact this
theorem zee {b:RBk} (h:clothsM b=0):ClOk b:=by
 unfold clothsM at h;split at h
 ·cases h
 ·rename_i h1;have hl:b.shrinks.length=b.seams.length:=by simpa using h1
  refine ⟨hl,fun i hi=>?_⟩;obtain ⟨q1,q2⟩:=zbz _ _ h i _ (kq oQ);have:=zgP q1;rw [mO] at q2;omega
structure MeOk (b:RBk):Prop where
 len:b.measures.length<=3
 bnd:∀ m∈b.measures,0<=m.cloth/\m.cloth<b.seams.length/\1<=m.many/\m.many<=b.seams.length/\0<=m.wide/\m.wide<=24
theorem zak {b:RBk} {n:Int} (h:thereM b n=0):0<=n/\n<b.seams.length:=by
 unfold thereM at h;split at h
 ·rename_i h1; have:=vN h1; omega
 ·cases h
theorem zdM {b:RBk}:∀ (l:List RMeas),measL b l=0->∀ m∈l,0<=m.cloth/\m.cloth<b.seams.length/\1<=m.many/\m.many<=b.seams.length/\0<=m.wide/\m.wide<=24
 | [],_,m,hm=>by simp at hm
 | y::r,h,m,hm=>by
  unfold measL at h;split at h
  ·rename_i h1; exact absurd h h1
  ·rename_i h1;split at h
   ·cases h
   ·rename_i h2;rcases lI.1 hm with rfl | hm
    ·have h3:=zak (b:=b) (n:=m.cloth) (by simpa using h1);have h2:measB b m=true:=by simpa using h2
     simp only [measB,betw,mX,decide_eq_true_eq] at h2;omega
    ·exact zdM r h m hm
theorem zf8 {b:RBk} (h:measM b=0):MeOk b:=by
 unfold measM at h;split at h
 ·cases h
 ·exact ⟨by omega,zdM _ h⟩
structure ROk (b:RBk):Prop where
 rnd:RndOk b
 sms:SmOk b
 cls:ClOk b
 mes:MeOk b
theorem zZ {b:RBk} (h:zr b=0):ROk b:=by
 unfold zr at h;split at h
 ·rename_i h1; exact absurd h h1
 ·rename_i h1;split at h
  ·rename_i h2; exact absurd h h2
  ·rename_i h2;split at h
   ·rename_i h3; exact absurd h h3
   ·rename_i h3;exact ⟨uk (by simpa using h1),uT (by simpa using h2),zee (by simpa using h3),zf8 h⟩
theorem ROk.wide {b:RBk} (h:ROk b) {i:Nat} (hi:i<b.seams.length):1<=wideM b i/\wideM b i<=24:=by
 have:=zhF h.rnd h.sms hi;have:=h.rnd.steps;omega
def notAft:Option Int->Int->Bool
 | some k,n=>decide (n<=k)
 | none,_=>false
def cutsL (b:RBk):Option Int->List Int->Int
 | _,[]=>0
 | last,n::r=>if thereM b n≠0 then thereM b n else if notAft last n=true then 7 else cutsL b (some n) r
def cutsM (b:RBk) (l:List Int):Int:=if l.length=0 then 2 else cutsL b none l
structure CutsOk (b:RBk) (l:List Int):Prop where
 pos:0<l.length
 bnd:∀ n∈l,0<=n/\n<b.seams.length
 asc:l.Pairwise (· < ·)
theorem zdC {b:RBk}:∀ (l:List Int) (last:Option Int),cutsL b last l=0->(∀ n∈l,0<=n/\n<b.seams.length/\∀ k,last=some k->k<n)/\l.Pairwise (· < ·)
 | [],_,_=>⟨fun n hn=>by simp at hn,.nil⟩
 | n::r,last,h=>by
  unfold cutsL at h;split at h
  ·rename_i h1; exact absurd h h1
  ·rename_i h1;split at h
   ·cases h
   ·rename_i h2;obtain ⟨q1,q2⟩:=zdC r _ h;have ht:=zak (b:=b) (n:=n) (by simpa using h1);have hk:∀ k,last=some k->k<n:=fun k hk=>by subst hk; simp [notAft] at h2; exact h2
    refine ⟨fun t ht'=>?_,.cons (fun t ht'=>(q1 t ht').2.2 n rfl) q2⟩;rcases lI.1 ht' with rfl | ht'
    ·exact ⟨ht.1,ht.2,hk⟩
    ·obtain ⟨a1,a2,a3⟩:=q1 t ht';exact ⟨a1,a2,fun k e=>by have:=hk k e; have:=a3 n rfl; omega⟩
theorem wG {b:RBk} {l:List Int} (h:cutsM b l=0):CutsOk b l:=by
 unfold cutsM at h;split at h
 ·cases h
 ·obtain ⟨q1,q2⟩:=zdC _ _ h;exact ⟨by omega,fun n hn=>⟨(q1 n hn).1,(q1 n hn).2.1⟩,q2⟩
theorem zfg:∀ (l:List Int) (a m:Int),(∀ n∈l,a<=n/\n<m)->l.Pairwise (· < ·)->a+l.length<=m\/l=[]
 | [],_,_,_,_=>.inr rfl
 | x::r,a,m,h,hp=>by
  left;obtain ⟨h1,h2⟩:=List.pairwise_cons.1 hp;have hx:=h x sQ;rcases zfg r (x+1) m (fun n hn=>⟨by have:=h1 n hn; omega,(h n (by simp [hn])).2⟩) h2 with h3 | rfl
  ·simp only [lZ]; omega
  ·simp; omega
theorem CutsOk.len {b:RBk} {l:List Int} (h:CutsOk b l):l.length<=b.seams.length:=by
 rcases zfg l 0 b.seams.length (fun n hn=>h.bnd n hn) h.asc with h1 | h1
 ·omega
 ·subst h1; simp
def zN (l:List Int) (k:Nat):Int:=l.getD k 0
theorem z6 {l:List Int} {k:Nat} (h:k<l.length):l[k]? =some (zN l k):=by
 unfold zN;rw [lE,lA h]; rfl
theorem zgV {l:List Int} {k:Nat} (h:k<l.length):zN l k∈l:=lN (z6 h)
def cutS (b:RBk) (l:List Int) (k:Nat):RSeam:=sm b (zN l k).toNat
theorem CutsOk.lt {b:RBk} {l:List Int} (h:CutsOk b l) {k:Nat} (hk:k<l.length):0<=zN l k/\zN l k<b.seams.length/\(zN l k).toNat<b.seams.length:=by
 have:=h.bnd _ (zgV hk);omega
def shL (b:RBk):Nat->List Int->Int
 | _,[]=>0
 | i,n::r=>if betw n 0 5=false then 1 else if wideM b i<=n then 8 else shL b (i+1) r
def shM (b:RBk) (l:List Int):Int:=if l.length≠b.seams.length then 2 else shL b 0 l
structure StOk (b:RBk) (s:List Int):Prop where
 len:s.length=b.seams.length
 bnd:∀ i,i<b.seams.length->0<=s.getD i 0/\s.getD i 0<=5/\s.getD i 0<wideM b i
theorem shL_0 {b:RBk}:∀ (l:List Int) (i:Nat),shL b i l=0->∀ k x,l[k]? =some x->0<=x/\x<=5/\x<wideM b (i+k)
 | [],i,_,k,x,hx=>by simp at hx
 | y::r,i,h,k,x,hx=>by
  unfold shL at h;split at h
  ·cases h
  ·rename_i h1;split at h
   ·cases h
   ·rename_i h2;cases k with
    | zero =>
     simp at hx; subst hx;have h1:betw y 0 5=true:=by simpa using h1
     have:=vN h1;rw [Nat.add_zero]; omega
    | succ k =>
     have:=shL_0 r (i+1) h k x (by simpa using hx);rw [show i+(k+1)=i+1+k by omega];exact this
theorem zfr {b:RBk} {l:List Int} (h:shM b l=0):StOk b l:=by
 unfold shM at h;split at h
 ·cases h
 ·rename_i h1;have hl:l.length=b.seams.length:=by simpa using h1
  refine ⟨hl,fun i hi=>?_⟩;have hg:l[i]? =some (l.getD i 0):=by rw [lE,lA oQ]; rfl
  have:=shL_0 _ _ h i _ hg;rw [mO] at this;exact this
def endM (b:RBk) (l:List Int) (k:Nat):Int:=if k+1<l.length then (cutS b l (k+1)).step else (cutS b l 0).step+b.steps
def stripM (b:RBk) (l:List Int) (k:Nat):Int×Int:=(zN l k,endM b l k - (cutS b l k).step)
def stripsM (b:RBk) (l:List Int):List (Int×Int):=(List.range l.length).map (stripM b l)
def pairC (x:Int×Int):List AV:=[intA x.1,intA x.2]
def fitsM (b:RBk) (l:List Int):Bool:=decide ((l.length:Int)<=b.rolls)&&(List.range l.length).all fun k => !(cutS b l k).whole&&decide ((stripM b l k).2<=b.roll)
section
variable {α:Type} (lt:α->α->Bool)
def insJ (x:α) (S:List α):Nat->List α
 | 0=>x::S
 | j+1=>match S[j]? with
  | some y=>if lt x y=true then insJ x S j else S.take (j+1)++x::S.drop (j+1)
  | none=>S++[x]
def insR (x:α) (S:List α):List α:=insJ lt x S S.length
def sortN (l:List α):Nat->List α
 | 0=>[]
 | i+1=>match l[i]? with
  | some x=>insR lt x (sortN l i)
  | none=>sortN l i
def sortR (l:List α):List α:=sortN lt l l.length
variable {lt}
theorem zcy (x:α) (S:List α):∀ j,(insJ lt x S j).length=S.length+1
 | 0=>rfl
 | j+1=>by
  unfold insJ;split
  ·rename_i y hy;split
   ·exact zcy x S j
   ·have:=(lD.1 hy).1;simp; omega
  ·simp
theorem wW (l:List α):∀ i,i<=l.length->(sortN lt l i).length=i
 | 0,_=>rfl
 | i+1,h=>by
  unfold sortN;rw [lA oQ];dsimp only;unfold insR;rw [zcy,wW l i oQ]
end
def freshM (b:RBk) (s:List Int):Int:=b.round - b.steps+(s.getD 0 0+s.getD 1 0+s.getD 2 0+s.getD 3 0+s.getD 4 0)
theorem StOk.slot {b:RBk} {s:List Int} (hb:ROk b) (h:StOk b s) (i:Nat):0<=s.getD i 0/\s.getD i 0<=5:=by
 by_cases hi:i<b.seams.length
 ·have:=h.bnd i hi; omega
 ·rw [lE,lU (by have:=h.len; omega)];exact ⟨Int.le_refl _,by decide⟩
theorem zcm {b:RBk} (hb:ROk b) {s:List Int} (h:StOk b s):0<=freshM b s/\freshM b s<=65:=by
 have h0:=h.slot hb 0;have h1:=h.slot hb 1;have h2:=h.slot hb 2;have h3:=h.slot hb 3;have h4:=h.slot hb 4;have:=hb.rnd.round;have:=hb.rnd.steps;unfold freshM;omega
def busyLt (b:RBk) (l:List Int) (x y:Int):Bool:=decide ((cutS b l x.toNat).busy<(cutS b l y.toNat).busy)||(decide ((cutS b l x.toNat).busy=(cutS b l y.toNat).busy)&&decide (y<x))
def idxM (n:Nat):List Int:=(List.range n).map fun (k:Nat)=>(k:Int)
def ordM (b:RBk) (l:List Int):List Int:=sortR (busyLt b l) (idxM l.length)
def spoilM (b:RBk) (l:List Int):Nat->Int
 | 0=>0
 | k+1=>spoilM b l k+(cutS b l k).spoil
structure Alloc where
 steps:List Int
 squares:Int
 left:Int
def allocM (b:RBk) (l:List Int) (z:Alloc) (k:Int):Alloc :=
 let n:=min z.left (cutS b l k.toNat).most
 ⟨z.steps.set k.toNat n,z.squares+n*(cutS b l k.toNat).busy,z.left - n⟩
def alloc0 (b:RBk) (l:List Int) (n:Int):Alloc:=⟨mB l.length 0,spoilM b l l.length,n⟩
def allocA (b:RBk) (l:List Int) (n:Int):Alloc:=(ordM b l).foldl (allocM b l) (alloc0 b l n)
def hangM (b:RBk) (l s:List Int):Option (List Int×Int) :=
 if fitsM b l=false then none else
 let z:=allocA b l (freshM b s)
 if 0<z.left then none else some (z.steps,z.squares)
def nowM (b:RBk) (s:List Int) (i:Nat):Int:=wideM b i - s.getD i 0
def togM (b:RBk) (s:List Int) (c:Nat):Nat->Int
 | 0=>0
 | k+1=>togM b s c k+nowM b s ((c+k) % b.seams.length)
def rightM (b:RBk) (s:List Int):Bool:=b.measures.all fun m=>decide (togM b s m.cloth.toNat m.many.toNat=m.wide)
def numsF (n:Int):Nat->List Int
 | 0=>[]
 | k+1=>n::numsF (n+1) k
def numsM (x:RBand):List Int:=numsF x.low (x.high+1 - x.low).toNat
def fromM (b:RBk):List Int->List RBand->List (List Int)
 | p,[]=>if rightM b p=true then [p] else []
 | p,x::r=>(numsM x).flatMap fun n=>fromM b (p++[n]) r
def zf (b:RBk):List (List Int):=fromM b [] b.shrinks
theorem za9 {b:RBk} (hb:ROk b) {s:List Int} (hs:StOk b s) {c:Nat}:∀ k,0<=togM b s c k/\togM b s c k<=24*k
 | 0=>by simp [togM]
 | k+1=>by
  have:=za9 hb hs (c:=c) k;have hi:(c+k) % b.seams.length<b.seams.length:=Nat.mod_lt _ (by have:=hb.sms.len; omega);have h1:=hb.wide hi;have h2:=hs.bnd _ hi;unfold togM nowM;omega
theorem uM:∀ (k:Nat) (n x:Int),x∈numsF n k↔n<=x/\x<n+k
 | 0,n,x=>by simp [numsF]
 | k+1,n,x=>by
  unfold numsF;rw [lI,uM k];omega
theorem zgc {x:RBand} (h:x.low<=x.high) {n:Int}:n∈numsM x↔x.low<=n/\n<=x.high:=by
 unfold numsM;rw [uM];omega
def InB (b:RBk) (s:List Int):Prop:=s.length=b.shrinks.length/\∀ i,i<b.shrinks.length->(bd b i).low<=s.getD i 0/\s.getD i 0<=(bd b i).high
theorem zeW {b:RBk} (hb:ROk b) {s:List Int} (h:InB b s):StOk b s:=by
 have hl:=hb.cls.len;refine ⟨by rw [h.1,hl],fun i hi=>?_⟩;have h1:=h.2 i oQ;have h2:=hb.cls.bnd i hi;omega
def PreB (b:RBk) (p:List Int):Prop:=p.length<=b.shrinks.length/\∀ i,i<p.length->(bd b i).low<=p.getD i 0/\p.getD i 0<=(bd b i).high
theorem zdS (b:RBk):PreB b []:=⟨mN _,fun i hi=>by simp at hi⟩
theorem zei {p:List Int} {n:Int} {i:Nat} (h:i<p.length):(p++[n]).getD i 0=p.getD i 0:=by
 rw [lE,lE,lG h]
theorem zdp {p:List Int} {n:Int}:(p++[n]).getD p.length 0=n:=by
 rw [lE]; simp
theorem zcT {b:RBk} {p:List Int} {n:Int} (h:PreB b p) (hl:p.length<b.shrinks.length) (h1:(bd b p.length).low<=n) (h2:n<=(bd b p.length).high):PreB b (p++[n]):=by
 refine ⟨by simp; omega,fun i hi=>?_⟩;rw [lF,List.length_singleton] at hi;by_cases e:i<p.length
 ·rw [zei e]; exact h.2 i e
 ·have:i=p.length:=by omega
  subst this;rw [zdp]; exact ⟨h1,h2⟩
theorem zcp {b:RBk} (hb:ROk b):∀ (r:List RBand) (p:List Int),PreB b p->r=b.shrinks.drop p.length->∀ s∈fromM b p r,InB b s/\rightM b s=true
 | [],p,hp,hr,s,hs=>by
  unfold fromM at hs;split at hs
  ·rename_i h1;rw [lS.1 hs];have:p.length=b.shrinks.length:=by
    have:=congrArg List.length hr;simp at this;have:=hp.1;omega
   exact ⟨⟨this,fun i hi=>hp.2 i oQ⟩,h1⟩
  ·cases hs
 | x::r,p,hp,hr,s,hs=>by
  unfold fromM at hs;obtain ⟨n,hn,hs1⟩:=List.mem_flatMap.1 hs;have hlt:p.length<b.shrinks.length:=by
   have:=congrArg List.length hr;simp at this;omega
  have hx:b.shrinks.drop p.length=bd b p.length::b.shrinks.drop (p.length+1):=zH (kq hlt);rw [hx] at hr;cases hr;have hb2:=hb.cls.bnd p.length (by have:=hb.cls.len; omega);rw [zgc oQ] at hn;exact zcp hb _ (p++[n]) (zcT hp hlt hn.1 hn.2) sQ s hs1
theorem y8 {b:RBk} (hb:ROk b) {s:List Int} (h:s∈zf b):StOk b s/\rightM b s=true:=by
 obtain ⟨h1,h2⟩:=zcp hb _ [] (zdS b) rfl s h;exact ⟨zeW hb h1,h2⟩
def okAll (b:RBk) (all:List (List Int)):Prop:=∀ s∈all,StOk b s
def spreadM:List Int->Int×Int
 | []=>(0,0)
 | x::r=>(r.foldl min x,r.foldl max x)
def waysM (b:RBk) (all:List (List Int)) (l:List Int):List (List Int×Int):=all.filterMap (hangM b l)
def squaresM (b:RBk) (all:List (List Int)) (l:List Int):Option (Int×Int) :=
 if (waysM b all l).length<all.length then none else some (spreadM ((waysM b all l).map (·.2)))
def lexM:List Int->List Int->Int
 | [],[]=>0
 | [],_::_ => -1
 | _::_,[]=>1
 | x::r,y::t=>if x<y then -1 else if y<x then 1 else lexM r t
def smallerM (x y:List Int):Bool:=decide (x.length<y.length)||(decide (x.length=y.length)&&decide (lexM x y<0))
def cheaperM (x y:List Int×Int):Bool:=decide (x.2<y.2)||(decide (x.2=y.2)&&smallerM x.1 y.1)
def shorterM (x y:List Int×Int):Bool:=smallerM x.1 y.1
end Go.Vel
end
