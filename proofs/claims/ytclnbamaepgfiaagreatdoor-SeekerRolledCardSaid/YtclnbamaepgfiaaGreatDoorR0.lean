/- Texts for the law SeekerRolled (chapters 8 and 9), part 1. It holds of every program, tape and world that the statements name, as each theorem says. -/
import Derived.Conc.Beside
import Derived.Laws.Sem
import Derived.Conc.CompanyMem
import Derived.Conc.AppendWalk
import Derived.ProofKit
import Derived.Laws.Slices
import Derived.Laws.Build
import Derived.Laws.Small
import Derived.Laws.Append
import Derived.KernelRfl
open Go renaming Goroutine -> gG, TypeId -> gT, Operand -> gO, Program -> gP, FuncId -> gF, Value -> gV, World -> gW, CallKind -> gK, Deferred -> gD, ResultVar -> gR, Oper -> gB, TypeInfo -> gI, IntKind -> gJ, Frame -> gQ
open Bool renaming true -> tt, false -> ff
namespace Go.Vel
theorem dT_{p:Prop}[Decidable p]:(decide p=true)=p:=decide_eq_true_eq
theorem dF_{p:Prop}[Decidable p]:decide p=false<->¬p:=decide_eq_false_iff_not
theorem oT_{p:Prop}[Decidable p](h:decide p=true):p:=of_decide_eq_true h
theorem oF_{p:Prop}[Decidable p](h:decide p=false):¬p:=of_decide_eq_false h
theorem aI{a b:Prop}(h:a)(k:b):a/\b:=⟨h,k⟩
theorem Z.{u}{α:Sort u}{a:α}:a=a:=rfl
theorem mQ{α:Type}{x:α}{K:List α}(h:List.Mem x K:=by repeat (first|exact List.Mem.head _|assumption|apply List.Mem.tail)):List.Mem x K:=h
theorem oQ{p:Prop}(h:p:=by omega):p:=h
theorem dQ{p:Prop}(h:p:=by decide):p:=h
theorem sQ{p:Prop}(h:p:=by simp):p:=h
theorem tQ{α:Type}{a b:α}(h:a=b:=by simp only[List.set];rfl):a=b:=h
theorem cA{α:Type}:(∀(a:α)(l m:List α),a::l++m=a::(l++m))/\∀ m:List α,[]++m=m:=⟨fun _ _ _=>rfl,fun _=>rfl⟩
end Go.Vel
section
set_option linter.all false
set_option maxRecDepth 20000
set_option maxHeartbeats 60000000
open List renaming getElem?_eq_getElem -> lA, getElem?_eq_some_iff -> lD, getD_eq_getElem?_getD -> lE, length_append -> lF, getElem?_append_left -> lG, length_map -> lJ, mem_of_getElem? -> lN, getElem?_append_right -> lO, getElem?_map -> lQ, mem_singleton -> lS, getElem?_set -> lX, length_cons -> lZ, replicate -> mB
open Array renaming getElem?_eq_getElem -> mD, getElem?_setIfInBounds_ne -> mE, getElem?_setIfInBounds_self_of_lt -> mF, getElem?_eq_some_iff -> mG, getElem?_toList -> mI, getElem?_map -> mJ, empty_append -> mK
open Nat renaming le_refl -> mL, lt_of_lt_of_le -> mM, zero_add -> mO, eq_zero_or_pos -> mP, lt_or_ge -> mR
open Bool renaming false_eq_true -> mU
open Option renaming map_eq_some_iff -> mY
namespace Go.Vel
open Go Go.Conc
open Go.ConcN (sumTo upd upd_ne upd_same)
theorem znl{n:Nat}{r:Nat}(w s:Bool)(h:r<n):(MemAct.ofEvent ⟨.obj r,w,s⟩).low n:=by cases w <;> cases s <;> exact h
abbrev Hp:=Nat->Option (Bool×Obj)
def z5(H:Hp)(w:gW):Prop:=∀ b rw o,H b=some (rw,o)->w.heap[b]? =some o
def Hp.next(H:Hp)(w w':gW):Hp:=fun b=>match H b with
 | some (ff,o)=>some (ff,o)
 | some (tt,_)=>(w'.heap[b]?).map fun o=>(tt,o)
 | none=>if w.heap.size<=b then(w'.heap[b]?).map fun o=>(tt,o)else none
def blk:Loc->Nat
 | .cell a=>a.block
 | .obj r=>r
 | _=>0
def Hp.lets(H:Hp)(b:Nat)(write:Bool):Prop:=∃ rw o,H b=some (rw,o)/\(write=tt->rw=tt)
def EvH(H:Hp)(e:Event):Prop:=match e.loc with
 | .cell a=>H.lets a.block e.write
 | .obj r=>e.sync=ff/\H.lets r e.write
 | .mark m=>m=.noRoom\/∃ f,m=.extern f
 | _=>False
structure StepH(H:Hp)(w w':gW)(es:Array Event):Prop where
 size:w.heap.size<=w'.heap.size
 kept:∀ b,b<w.heap.size->(∀ o,H b≠some (tt,o))->w'.heap[b]? =w.heap[b]?
 evs:∀ e∈es,EvH (H.next w w') e
 os:w'.os=w.os
 out:w'.output=w.output
 tape:w'.tape=w.tape
theorem z5.lt{H:Hp}{w:gW}(h:z5 H w){b:Nat}{x:Bool×Obj}(hb:H b=some x):b<w.heap.size:=(mG.1 (h b x.1 x.2 hb)).1
theorem z5.next{H:Hp}{w w':gW}{es:Array Event}(h:z5 H w)(hs:StepH H w w' es):z5 (H.next w w') w':=by
 intro b rw o hb;unfold Hp.next at hb;split at hb
 ·rename_i o' e;cases hb;rw[hs.kept b (h.lt e) (fun o'' e'=>by rw[e]at e';cases e')];exact h b _ _ e
 ·obtain⟨x,hx,e⟩:=mY.1 hb;cases e;exact hx
 ·split at hb
  ·obtain⟨x,hx,e⟩:=mY.1 hb;cases e;exact hx
  ·cases hb
theorem z5.other{H K:Hp}{w w':gW}{es:Array Event}(h:z5 K w)(hs:StepH H w w' es)(hd:∀ b o,H b=some (tt,o)->K b=none):z5 K w':=by
 intro b rw o hb;rw[hs.kept b (h.lt hb) (fun o' e=>by rw[hd b o' e]at hb;cases hb)];exact h b rw o hb
theorem zjG{n:Nat}{x:MemAct}{a:Touch}(h:x.low n)(ht:x.touch? =some a)(hm:a.loc.isMemory=tt):blk a.loc<n:=by
 cases x with
 | access e =>
  simp only[MemAct.touch?,Option.some.injEq]at ht;subst ht;obtain⟨loc,wr,sy⟩:=e;cases loc <;> first|exact h|(simp[Loc.isMemory]at hm)
 | mark m =>
  cases m <;> simp only[MemAct.touch?,Option.some.injEq,reduceCtorEq]at ht;all_goals (subst ht;exact h)
 | _=>simp[MemAct.touch?]at ht
theorem vD{t:Trace}{n idx:Nat}{a:Touch}(h:∀ op∈t,op.act.low n)(ht:touchAt t idx=some a)(hm:a.loc.isMemory=tt):blk a.loc<n:=by
 obtain⟨x,hx,hxa⟩:=touch_of ht;exact zjG (h x (Array.mem_of_getElem? hx)) hxa hm
theorem wb{said:Bool}{t u:Trace}(h:¬ Race said t)(hu:∀ op∈u,op.act.touch? =none):¬ Race said (t++u):=by
 rintro⟨i,j,hij,⟨a,b,ha,hb,hc⟩,n1,n2⟩;obtain⟨x,hx,hxa⟩:=touch_of ha;obtain⟨y,hy,hyb⟩:=touch_of hb;rcases getElem?_append_cases hx with⟨_,hx'⟩|⟨_,hxu⟩
 ·rcases getElem?_append_cases hy with⟨_,hy'⟩|⟨_,hyu⟩
  ·exact h ⟨i,j,hij,⟨a,b,by simp[Trace.act?,hx',hxa],by simp[Trace.act?,hy',hyb],hc⟩,fun e=>n1 (hb_app u e),fun e=>n2 (hb_app u e)⟩
  ·rw[hu y hyu]at hyb;cases hyb
 ·rw[hu x hxu]at hxa;cases hxa
theorem yI{t u:Trace}(hu:∀ op∈u,op.act.touch? =none){idx:Nat}{a:Touch}(h:touchAt (t++u) idx=some a):touchAt t idx=some a/\idx<t.size:=by
 obtain⟨x,hx,hxa⟩:=touch_of h;rcases getElem?_append_cases hx with⟨Qp,hx'⟩|⟨_,hxu⟩
 ·exact⟨by rw[touchAt_of hx'];exact hxa,Qp⟩
 ·rw[hu x hxu]at hxa;cases hxa
theorem yS{t u:Trace}{g:Nat}(hu:∀ op∈u,op.act≠.mark .disable/\op.act≠.mark .enable):Deaf (t++u) g=Deaf t g:=by
 obtain⟨l⟩:=u;rw[Deaf_append]
 induction l generalizing t with
 | nil=>rfl
 | cons y l ih =>
  have hy:=hu y sQ;have e1:deafStep g (Deaf t g) y=Deaf t g:=by
   unfold deafStep;split
   ·rename_i e;exact absurd e hy.1
   ·rename_i e;exact absurd e hy.2
   ·rfl
  rw[List.foldl_cons,e1];exact ih fun op Qw=>hu op (by simp at Qw ⊢;exact .inr Qw)
theorem vz{t u:Trace}{g:Nat}{y:MemOp}(hy:y.g=g)(hd:Deaf t g=0):(t++#[y]++u).heard t.size:=by
 have e:(t++#[y]++u)[t.size]? =some y:=by
  rw[getElem?_append_old sQ];simp
 refine⟨g,by unfold Trace.g?;rw[e,Option.map_some,hy],?_⟩;rw[Array.append_assoc,deaf_old (mL _)];exact hd
theorem zbg{X:Type}(r:X->X->Prop):∀(N:Nat)(C:(Nat->X)->Prop),(∀ f:Nat->X,(∀ i,i<N->∀ y,r y (f i)->C (upd f i y))->C f)->∀ f:Nat->X,(∀ i,i<N->Acc r (f i))->C f
 | 0,C,step,f,_=>step f fun i hi=>by omega
 | N+1,C,step,f,hf=>by
  have key:∀ x,Acc r x->∀ f:Nat->X,f N=x->(∀ i,i<N->Acc r (f i))->C f:=by
   intro x hx
   induction hx with
   | intro x _ ih =>
    intro f hfx hacc;refine zbg r N (fun f=>f N=x->(∀ i,i<N->Acc r (f i))->C f) (fun f hstep hfx hacc=>?_) f hacc hfx hacc;refine step f fun i hi y hy=>?_;rcases mR i N with Qp|hge
    ·refine hstep i Qp y hy (by rw[upd_ne f y oQ];exact hfx) fun k hk=>?_;by_cases hki:k=i
     ·subst hki;rw[upd_same];exact(hacc k hk).inv hy
     ·rw[upd_ne f y hki];exact hacc k hk
    ·obtain rfl:i=N:=by omega
     refine ih y (by rw[<- hfx];exact hy) (upd f i y) (upd_same f i y) fun k hk=>?_;rw[upd_ne f y oQ];exact hacc k hk
  exact key (f N) (hf N oQ) f rfl fun i hi=>hf i oQ
section
variable {w w':gW}
theorem zba{K:Hp}{es:Array Event}(hf:z5 K w)(hs:StepH K w w' es){b:Nat}{wr:Bool}(h:K.lets b wr):(K.next w w').lets b wr:=by
 obtain⟨rw,o,hb,himp⟩:=h;cases rw with
 | false=>exact⟨ff,o,by unfold Hp.next;rw[hb],himp⟩
 | true =>
  have Qp:=hf.lt hb;refine⟨tt,w'.heap[b]'(mM Qp hs.size),?_,fun _=>rfl⟩;unfold Hp.next;rw[hb];simp[mD (mM Qp hs.size)]
theorem uJ{K:Hp}{b:Nat}{rw:Bool}{o:Obj}(h:K.next w w' b=some (rw,o)):(∃ o',K b=some (rw,o'))\/w.heap.size<=b:=by
 unfold Hp.next at h;split at h
 ·rename_i e;cases h;exact .inl ⟨_,e⟩
 ·rename_i e;obtain⟨x,_,e'⟩:=mY.1 h;cases e';exact .inl ⟨_,e⟩
 ·split at h
  ·rename_i hge;exact .inr hge
  ·cases h
theorem vL{K:Hp}{e:Event}(h:EvH K e){b:Touch}(hb:(MemAct.ofEvent e).touch? =some b)(hm:b.loc.isMemory=tt):K.lets (blk b.loc) b.write:=by
 obtain⟨loc,wr,sy⟩:=e;cases loc with
 | cell a =>
  simp only[MemAct.ofEvent,MemAct.touch?,Option.some.injEq]at hb;subst hb;exact h
 | obj r =>
  obtain⟨hs,hl⟩:=h;simp only at hs;subst hs;have:MemAct.ofEvent ⟨.obj r,wr,ff⟩=.access ⟨.obj r,wr,ff⟩:=by cases wr <;> rfl
  rw[this]at hb;simp only[MemAct.touch?,Option.some.injEq]at hb;subst hb;exact hl
 | mark m =>
  rcases h with h|⟨g,h⟩
  ·subst h;simp[MemAct.ofEvent,MemAct.touch?]at hb
  ·subst h;simp[MemAct.ofEvent,MemAct.touch?]at hb
 | _=>exact h.elim
theorem zac{K:Hp}(hf:z5 K w){e:Event}(h:EvH K e):(MemAct.ofEvent e).low w.heap.size:=by
 obtain⟨loc,wr,sy⟩:=e;cases loc with
 | cell a=>obtain⟨rw,o,hb,_⟩:=h;exact hf.lt hb
 | obj r =>
  obtain⟨_,rw,o,hb,_⟩:=h;exact znl _ _ (hf.lt hb)
 | mark m =>
  rcases h with h|⟨g,h⟩
  ·subst h;trivial
  ·subst h;trivial
 | _=>exact h.elim
theorem vw{K:Hp}{e:Event}(h:EvH K e):e.loc≠.mark .disable/\e.loc≠.mark .enable:=by
 obtain⟨loc,wr,sy⟩:=e;cases loc with
 | mark m =>
  rcases h with h|⟨g,h⟩
  ·subst h;exact⟨by simp,by simp⟩
  ·subst h;exact⟨by simp,by simp⟩
 | _=>exact⟨by simp,by simp⟩
theorem ya{i:Nat}{fn:gF}{pos:String}{es:Array Event}:∀ op∈MemOp.ofEvents i fn pos es,op.g=i:=fun op Qw=>by
 obtain⟨e,_,rfl⟩:=Go.Conc.mem_ofEvents Qw;rfl
end
end Go.Vel
namespace Go.Vel
open Go Go.Conc
def zo(P:gP)(main:Bool)(T:gG->Hp->Prop):Prop :=
 ∀ g H,g.status=.running->(∀ w,z5 H w->∃ g' w' es,stepG P main g w=.go g' w' es/\StepH H w w' es/\g'.status=.running/\T g' (H.next w w'))->T g H
theorem ks{H:Hp}{w:gW}(h:z5 H w):H.next w w=H:=by
 funext b;unfold Hp.next;cases e:H b with
 | none =>
  simp only;split
  ·rename_i hge;rw[Array.getElem?_eq_none hge];rfl
  ·rfl
 | some x =>
  obtain⟨rw,o⟩:=x;cases rw with
  | false=>rfl
  | true=>simp only;rw[h b tt o e];rfl
theorem kr{H:Hp}{w:gW}(h:z5 H w){es:Array Event}(he:∀ e∈es,EvH H e):StepH H w w es :=
 ⟨mL _,fun _ _ _=>rfl,by rw[ks h];exact he,rfl,rfl,rfl⟩
section
variable {P:gP}{main:Bool}{T:gG->Hp->Prop}{H:Hp}{b:gQ}{a:Act}{k:List Item}{cs:List gQ}
theorem zo.ctl(hT:zo P main T){g g':gG}(hr:g.status=.running)(h:∀ w,stepG P main g w=.go g' w #[])(hr':g'.status=.running)(hn:T g' H):T g H :=
 hT g H hr fun w hw=>⟨g',w,#[],h w,kr hw (fun e he=>by simp at he),hr',by rw[ks hw];exact hn⟩
variable {Qy:Array gB}{i:Nat}{Wp:List Nat}{o:gB}
end
def Hp.put(H:Hp)(r:Nat)(x:Bool×Obj):Hp:=fun b=>if b=r then some x else H b
theorem Hp.put_same(H:Hp)(r:Nat)(x:Bool×Obj):H.put r x r=some x:=by simp[Hp.put]
theorem Hp.put_other(H:Hp){r b:Nat}(x:Bool×Obj)(h:b≠r):H.put r x b=H b:=by simp[Hp.put,h]
theorem Hp.put_put(H:Hp)(r:Nat)(x y:Bool×Obj):(H.put r x).put r y=H.put r y:=by
 funext b;unfold Hp.put;split <;> rfl
def wput(w:gW)(r:Nat)(o:Obj):gW:={ w with heap:=w.heap.setIfInBounds r o }
section
variable {H:Hp}{w:gW}
theorem zih(h:z5 H w)(o:Obj):H.next w (w.alloc o)=H.put w.heap.size (tt,o):=by
 funext b;have hsz:(w.alloc o).heap=w.heap.push o:=rfl;by_cases hb:b=w.heap.size
 ·subst hb;rw[Hp.put_same];unfold Hp.next;cases e:H w.heap.size with
  | none=>simp[hsz]
  | some x=>exact absurd (h.lt e) (Nat.lt_irrefl _)
 ·rw[Hp.put_other _ _ hb];unfold Hp.next;cases e:H b with
  | none =>
   simp only;split
   ·rw[hsz,Array.getElem?_eq_none (by simp;omega)];rfl
   ·rfl
  | some x =>
   obtain⟨rw',o'⟩:=x;cases rw' with
   | false=>rfl
   | true =>
    simp only;have Qp:=h.lt e;rw[hsz,Array.getElem?_push,if_neg hb,h b tt o' e];rfl
theorem uK(h:z5 H w){r:Nat}{o o':Obj}(hr:H r=some (tt,o)):H.next w (wput w r o')=H.put r (tt,o'):=by
 funext b;have Qp:=h.lt hr;by_cases hb:b=r
 ·subst hb;rw[Hp.put_same];unfold Hp.next;rw[hr];simp only[wput];rw[mF Qp];rfl
 ·rw[Hp.put_other _ _ hb];unfold Hp.next;cases e:H b with
  | none =>
   simp only;split
   ·rename_i hge;rw[wput,mE (Ne.symm hb),Array.getElem?_eq_none hge];rfl
   ·rfl
  | some x =>
   obtain⟨rw',o''⟩:=x;cases rw' with
   | false=>rfl
   | true =>
    simp only;rw[wput,mE (Ne.symm hb),h b tt o'' e];rfl
theorem zgZ(o:Obj):StepH H w (w.alloc o) #[]:=by
 refine⟨by rw[World.size_alloc];omega,fun b hb _=>?_,fun e he=>by simp at he,rfl,rfl,rfl⟩;show(w.heap.push o)[b]? =_;rw[Array.getElem?_push,if_neg oQ]
theorem zfH{r:Nat}{o o':Obj}(hr:H r=some (tt,o)){b:Nat}{wr:Bool}(h:H.lets b wr):(H.put r (tt,o')).lets b wr:=by
 by_cases hb:b=r
 ·subst hb;exact⟨tt,o',Hp.put_same _ _ _,fun _=>rfl⟩
 ·obtain⟨rw',o'',e,himp⟩:=h;exact⟨rw',o'',by rw[Hp.put_other _ _ hb];exact e,himp⟩
theorem zmZ{r:Nat}{o o':Obj}(hr:H r=some (tt,o)){e:Event}(h:EvH H e):EvH (H.put r (tt,o')) e:=by
 obtain⟨loc,wr,sy⟩:=e;cases loc with
 | cell a=>exact zfH hr h
 | obj x=>exact⟨h.1,zfH hr h.2⟩
 | mark m=>exact h
 | _=>exact h.elim
theorem zaT(h:z5 H w){r:Nat}{o o':Obj}(hr:H r=some (tt,o)){es:Array Event}(he:∀ e∈es,EvH H e):StepH H w (wput w r o') es:=by
 refine⟨by simp[wput],fun b _ hn=>?_,fun e hm=>?_,rfl,rfl,rfl⟩
 ·have hb:r≠b:=fun e=>hn o (e ▸ hr);show(w.heap.setIfInBounds r o')[b]? =_;rw[mE hb]
 ·rw[uK h hr];exact zmZ hr (he e hm)
theorem zge{r off:Nat}{c:Array gV}{e:gT}{fz:Nat×Nat}{v:gV}(h:w.heap[r]? =some (.cells c e fz)):w.setCell ⟨r,off,none⟩ v=wput w r (.cells (c.setIfInBounds off v) e fz):=by
 obtain⟨Qp,he⟩:=mG.1 h;unfold World.setCell wput;congr 1;apply Array.ext_getElem?;intro k;rw[Array.getElem?_modify];by_cases hk:r=k
 ·subst hk;rw[if_pos rfl,h,mF Qp];rfl
 ·rw[if_neg hk,mE hk]
theorem z5.cell(h:z5 H w){r off:Nat}{rw':Bool}{c:Array gV}{e:gT}{fz:Nat×Nat}{v:gV}(hr:H r=some (rw',.cells c e fz))(hv:c[off]? =some v):w.cell? ⟨r,off,none⟩=some v:=by
 unfold World.cell?;rw[h r _ _ hr];simp[hv]
end
section
variable {P:gP}{main:Bool}{T:gG->Hp->Prop}{H:Hp}{b:gQ}{a:Act}{k:List Item}{cs:List gQ}{Qy:Array gB}{i:Nat}{Wp:List Nat}{o:gB}
end
section
variable {P:gP}{main:Bool}{T:gG->Hp->Prop}{H:Hp}{b:gQ}{a:Act}{k:List Item}{cs:List gQ}{Qy:Array gB}{i:Nat}{Wp:List Nat}{o:gB}
def Hp.ext(H H':Hp):Prop:=∀ b x,H b=some x->H' b=some x
theorem Hp.ext_put{H H':Hp}(h:H.ext H'){r:Nat}(hr:H r=none)(x:Bool×Obj):H.ext (H'.put r x):=fun b y hb=>by
 have:b≠r:=fun e=>by rw[e,hr]at hb;cases hb
 rw[Hp.put_other _ _ this];exact h b y hb
end
def oneCell:gV->Bool|.agg _|.tuple _=>ff|_=>tt
def isCells:Obj->Bool|.cells .. => tt|_=>ff
def shapeOf:Obj->Option (gT×Nat)|.cells c e _=>some (e,c.size)|_=>none
def frozenOf(off:Nat):Obj->Bool|.cells _ _ (lo,hi)=>decide (lo<=off)&&decide (off<hi)|_=>ff
def fzOf(fz:Nat×Nat)(off n:Nat):Nat×Nat:=if fz.1==fz.2 then(off,off+n)else(min fz.1 off,max fz.2 (off+n))
theorem zgE{w:gW}{a:Addr}{n:Nat}{c:Array gV}{e:gT}{fz:Nat×Nat}(hn:n≠0)(h:w.heap[a.block]? =some (.cells c e fz)):w.freeze a n=wput w a.block (.cells c e (fzOf fz a.off n)):=by
 obtain⟨Qp,he⟩:=mG.1 h;unfold World.freeze wput;rw[if_neg hn];congr 1;apply Array.ext_getElem?;intro k;rw[Array.getElem?_modify];by_cases hk:a.block=k
 ·subst hk;rw[if_pos rfl,h,mF Qp];rfl
 ·rw[if_neg hk,mE hk]
def wpS{α:Type}(P:gP):Sem α->Hp->(α->Hp->Prop)->Prop
 | .pure a,H,Q=>Q a H
 | .load _ a k,H,Q=>∃ rw c e fz v,H a.block=some (rw,.cells c e fz)/\a.spot=none/\c[a.off]? =some v/\wpS P (k v) H Q
 | .store _ a v k,H,Q=>oneCell v=tt/\∃ c e lo hi,H a.block=some (tt,.cells c e (lo,hi))/\a.spot=none/\a.off<c.size/\(decide (lo<=a.off)&&decide (a.off<hi))=ff/\wpS P k (H.put a.block (tt,.cells (c.setIfInBounds a.off v) e (lo,hi))) Q
 | .new o k,H,Q=>∀ r,H r=none->wpS P (k r) (H.put r (tt,o)) Q
 | .shape r k,H,Q=>∃ rw o,H r=some (rw,o)/\wpS P (k (shapeOf o)) H Q
 | .frozen a k,H,Q=>∃ rw o,H a.block=some (rw,o)/\wpS P (k (frozenOf a.off o)) H Q
 | .freeze a n k,H,Q=>n≠0/\∃ c e fz,H a.block=some (tt,.cells c e fz)/\wpS P k (H.put a.block (tt,.cells c e (fzOf fz a.off n))) Q
 | .getObj r k,H,Q=>∃ rw o,H r=some (rw,o)/\isCells o=ff/\o.isChan=ff/\wpS P (k o) H Q
 | .setObj r o k,H,Q=>∃ o0,H r=some (tt,o0)/\isCells o0=ff/\o.isChan=ff/\wpS P k (H.put r (tt,o)) Q
 | .choose q k,H,Q=>∀ n,(q.forced=tt->n=0)->(q.forced=ff->∃ t,n=q.cut t)->wpS P (k n) H Q
 | .sys _ _,_,_=>False
 | .program k,H,Q=>wpS P (k P) H Q
 | .mark m k,H,Q=>(m=.noRoom\/∃ f,m=.extern f)/\wpS P k H Q
 | .halt _,_,_=>False
theorem zk6{H:Hp}{w w':gW}{es:Array Event}(hf:z5 H w)(hs:StepH H w w' es){e:Event}(h:EvH H e):EvH (H.next w w') e:=by
 obtain⟨loc,wr,sy⟩:=e;cases loc with
 | cell a=>exact zba hf hs h
 | obj x=>exact⟨h.1,zba hf hs h.2⟩
 | mark m=>exact h
 | _=>exact h.elim
theorem vf{H:Hp}{w w1 w2:gW}(h1:w.heap.size<=w1.heap.size)(h2:w1.heap.size<=w2.heap.size)(hf:z5 H w):(H.next w w1).next w1 w2=H.next w w2:=by
 funext b;unfold Hp.next;cases e:H b with
 | none =>
  simp only;by_cases hb:w.heap.size<=b
  ·rw[if_pos hb,if_pos hb];by_cases hb1:b<w1.heap.size
   ·rw[mD hb1];rfl
   ·rw[Array.getElem?_eq_none oQ];simp only[Option.map_none];rw[if_pos oQ]
  ·rw[if_neg hb,if_neg hb];simp only;rw[if_neg oQ]
 | some x =>
  obtain⟨rw',o⟩:=x;cases rw' with
  | false=>rfl
  | true =>
   have Qp:=hf.lt e;simp only;rw[mD (mM Qp h1)];rfl
theorem StepH.trans{H:Hp}{w w1 w2:gW}{es1 es2:Array Event}(hf:z5 H w)(h1:StepH H w w1 es1)(h2:StepH (H.next w w1) w1 w2 es2):StepH H w w2 (es1++es2):=by
 refine⟨Nat.le_trans h1.size h2.size,fun b hb hno=>?_,fun e he=>?_,h2.os.trans h1.os,h2.out.trans h1.out,h2.tape.trans h1.tape⟩
 ·rw[h2.kept b (mM hb h1.size) ?_]
  ·exact h1.kept b hb hno
  ·intro o hc;unfold Hp.next at hc;cases e:H b with
   | none =>
    rw[e]at hc;simp only at hc;rw[if_neg oQ]at hc;cases hc
   | some x =>
    obtain⟨rw',o'⟩:=x;cases rw' with
    | false=>rw[e]at hc;cases hc
    | true=>exact hno o' e
 ·rw[<- vf h1.size h2.size hf];rcases Array.mem_append.1 he with he|he
  ·exact zk6 (hf.next h1) h2 (h1.evs e he)
  ·exact h2.evs e he
theorem zii{H:Hp}{w:gW}(hf:z5 H w)(d:Nat):H.next w { w with drawn:=d }=H:=ks (w:=w) hf
theorem wg{P:gP}{α:Type}(s:Sem α):∀(H:Hp)(Q:α->Hp->Prop)(w:gW)(es0:Array Event),wpS P s H Q->z5 H w ->
  ∃ a w' es,s.runT P w es0=(.ok a w',es0++es)/\StepH H w w' es/\Q a (H.next w w'):=by
 induction s with
 | pure a =>
  intro H Q w es0 h hf;exact⟨a,w,#[],by simp[Sem.runT],kr hf (fun e he=>by simp at he),by rw[ks hf];exact h⟩
 | load m a k ih =>
  intro H Q w es0 h hf;obtain⟨rw',c,e,fz,v,hH,hs,hc,h⟩:=h;obtain⟨blk,off,sp⟩:=a;simp only at hH hs hc;subst hs;have hcell:=hf.cell hH hc;obtain⟨x,w',es,h1,h2,h3⟩:=ih v H Q w (es0.push ⟨.cell ⟨blk,off,none⟩,ff,m==.atomic⟩) h hf;refine⟨x,w',#[⟨.cell ⟨blk,off,none⟩,ff,m==.atomic⟩]++es,?_,?_,h3⟩
  ·simp only[Sem.runT,hcell,h1];simp
  ·have h0:StepH H w w #[⟨.cell ⟨blk,off,none⟩,ff,m==.atomic⟩]:=kr hf (fun e he=>by
    simp only[List.mem_toArray,lS]at he;subst he;exact⟨rw',_,hH,fun hx=>by cases hx⟩)
   have:=StepH.trans (w2:=w') hf h0 (by rw[ks hf];exact h2);exact this
 | store m a v k ih =>
  intro H Q w es0 h hf;obtain⟨hv,c,e,lo,hi,hH,hs,Qp,hfz,h⟩:=h;obtain⟨blk,off,sp⟩:=a;simp only at hH hs Qp hfz h;subst hs;have hcell:=hf.cell (v:=c[off]) hH (mD Qp);have hfr:w.frozen? ⟨blk,off,none⟩=ff:=by
   unfold World.frozen?;rw[hf blk _ _ hH];exact hfz
  have hset:w.setCell ⟨blk,off,none⟩ v=wput w blk (.cells (c.setIfInBounds off v) e (lo,hi)):=zge (hf blk _ _ hH);have hS:StepH H w (wput w blk (.cells (c.setIfInBounds off v) e (lo,hi))) #[⟨.cell ⟨blk,off,none⟩,tt,m==.atomic⟩]:=zaT hf hH (fun ev he=>by
    simp only[List.mem_toArray,lS]at he;subst he;exact⟨tt,_,hH,fun _=>rfl⟩)
  have hn:=uK (o':=.cells (c.setIfInBounds off v) e (lo,hi)) hf hH;have hf1:=hf.next hS;rw[hn]at hf1;obtain⟨x,w',es,h1,h2,h3⟩:=ih _ Q _ (es0.push ⟨.cell ⟨blk,off,none⟩,tt,m==.atomic⟩) h hf1;refine⟨x,w',#[⟨.cell ⟨blk,off,none⟩,tt,m==.atomic⟩]++es,?_,StepH.trans hf hS (by rw[hn];exact h2),?_⟩
  ·have hrun:(Sem.store m ⟨blk,off,none⟩ v k).runT P w es0=k.runT P (w.setCell ⟨blk,off,none⟩ v) (es0.push ⟨.cell ⟨blk,off,none⟩,tt,m==.atomic⟩):=by
    cases v <;> first|(simp[oneCell]at hv;done)|(simp only[Sem.runT,hcell,hfr,mU,if_false])
   rw[hrun,hset,h1];simp
  ·rw[<- vf hS.size h2.size hf,hn];exact h3
 | new o k ih =>
  intro H Q w es0 h hf;have hr:H w.heap.size=none:=by
   cases e:H w.heap.size with
   | none=>rfl
   | some x=>exact absurd (hf.lt e) (Nat.lt_irrefl _)
  have hS:StepH H w (w.alloc o) #[]:=zgZ o;have hn:=zih hf o;have hf1:=hf.next hS;rw[hn]at hf1;obtain⟨x,w',es,h1,h2,h3⟩:=ih w.heap.size _ Q _ es0 (h _ hr) hf1;refine⟨x,w',es,h1,?_,?_⟩
  ·have:=StepH.trans hf hS (by rw[hn];exact h2);rwa[mK]at this
  ·rw[<- vf hS.size h2.size hf,hn];exact h3
 | shape r k ih =>
  intro H Q w es0 h hf;obtain⟨rw',o,hH,h⟩:=h;obtain⟨x,w',es,h1,h2,h3⟩:=ih _ H Q w es0 h hf;refine⟨x,w',es,?_,h2,h3⟩;have:w.shape? r=shapeOf o:=by
   unfold World.shape?;rw[hf r _ _ hH];cases o <;> rfl
  simp only[Sem.runT,this];exact h1
 | freeze a n k ih =>
  intro H Q w es0 h hf;obtain⟨hn0,c,e,fz,hH,h⟩:=h;obtain⟨blk,off,sp⟩:=a;simp only at hH h;have hset:=zgE (a:=⟨blk,off,sp⟩) hn0 (hf blk _ _ hH);have hS:StepH H w (wput w blk (.cells c e (fzOf fz off n))) #[]:=zaT hf hH (fun ev he=>by simp at he);have hnx:=uK (o':=.cells c e (fzOf fz off n)) hf hH;have hf1:=hf.next hS;rw[hnx]at hf1;obtain⟨x,w',es,h1,h2,h3⟩:=ih _ Q _ es0 h hf1;refine⟨x,w',es,?_,?_,?_⟩
  ·simp only[Sem.runT,hset];exact h1
  ·have:=StepH.trans hf hS (by rw[hnx];exact h2);rwa[mK]at this
  ·rw[<- vf hS.size h2.size hf,hnx];exact h3
 | frozen a k ih =>
  intro H Q w es0 h hf;obtain⟨rw',o,hH,h⟩:=h;obtain⟨x,w',es,h1,h2,h3⟩:=ih _ H Q w es0 h hf;refine⟨x,w',es,?_,h2,h3⟩;have:w.frozen? a=frozenOf a.off o:=by
   unfold World.frozen?;rw[hf a.block _ _ hH];cases o <;> rfl
  simp only[Sem.runT,this];exact h1
 | getObj r k ih =>
  intro H Q w es0 h hf;obtain⟨rw',o,hH,hc,hch,h⟩:=h;obtain⟨x,w',es,h1,h2,h3⟩:=ih o H Q w (es0.push ⟨.obj r,ff,o.isChan⟩) h hf;refine⟨x,w',#[⟨.obj r,ff,o.isChan⟩]++es,?_,?_,h3⟩
  ·have hrun:(Sem.getObj r k).runT P w es0=(k o).runT P w (es0.push ⟨.obj r,ff,o.isChan⟩):=by
    simp only[Sem.runT,hf r _ _ hH];cases o <;> first|(simp[isCells]at hc;done)|rfl
   rw[hrun,h1];simp
  ·have h0:StepH H w w #[⟨.obj r,ff,o.isChan⟩]:=kr hf (fun e he=>by
    simp only[List.mem_toArray,lS]at he;subst he;exact⟨hch,rw',_,hH,fun hx=>by cases hx⟩)
   exact StepH.trans (w2:=w') hf h0 (by rw[ks hf];exact h2)
 | setObj r o k ih =>
  intro H Q w es0 h hf;obtain⟨o0,hH,hc,hch,h⟩:=h;have hS:StepH H w (wput w r o) #[⟨.obj r,tt,o.isChan⟩]:=zaT hf hH (fun ev he=>by
    simp only[List.mem_toArray,lS]at he;subst he;exact⟨hch,tt,_,hH,fun _=>rfl⟩)
  have hn:=uK (o':=o) hf hH;have hf1:=hf.next hS;rw[hn]at hf1;obtain⟨x,w',es,h1,h2,h3⟩:=ih _ Q _ (es0.push ⟨.obj r,tt,o.isChan⟩) h hf1;refine⟨x,w',#[⟨.obj r,tt,o.isChan⟩]++es,?_,StepH.trans hf hS (by rw[hn];exact h2),?_⟩
  ·have hrun:(Sem.setObj r o k).runT P w es0=k.runT P (wput w r o) (es0.push ⟨.obj r,tt,o.isChan⟩):=by
    simp only[Sem.runT,hf r _ _ hH];cases o0 <;> first|(simp[isCells]at hc;done)|rfl
   rw[hrun,h1];simp
  ·rw[<- vf hS.size h2.size hf,hn];exact h3
 | choose q k ih =>
  intro H Q w es0 h hf;by_cases hq:q.forced=tt
  ·obtain⟨x,w',es,h1,h2,h3⟩:=ih 0 H Q w es0 (h 0 (fun _=>rfl) (fun e=>by rw[hq]at e;cases e)) hf;exact⟨x,w',es,by simp only[Sem.runT,hq,if_true];exact h1,h2,h3⟩
  ·have hq':q.forced=ff:=by simpa using hq
   obtain⟨x,w',es,h1,h2,h3⟩:=ih (q.cut (w.tape w.drawn q)) H Q { w with drawn:=w.drawn+1 } es0 (h _ (fun e=>absurd e hq) (fun _=>⟨_,rfl⟩)) hf;exact⟨x,w',es,by simp only[Sem.runT,hq',mU,if_false];exact h1,⟨h2.size,h2.kept,h2.evs,h2.os,h2.out,h2.tape⟩,h3⟩
 | sys c k ih=>intro H Q w es0 h;exact h.elim
 | program k ih =>
  intro H Q w es0 h hf;obtain⟨x,w',es,h1,h2,h3⟩:=ih P H Q w es0 h hf;exact⟨x,w',es,h1,h2,h3⟩
 | mark m k ih =>
  intro H Q w es0 h hf;obtain⟨hm,h⟩:=h;obtain⟨x,w',es,h1,h2,h3⟩:=ih H Q w (es0.push ⟨.mark m,ff,tt⟩) h hf;refine⟨x,w',#[⟨.mark m,ff,tt⟩]++es,?_,?_,h3⟩
  ·simp only[Sem.runT,h1];simp
  ·have h0:StepH H w w #[⟨.mark m,ff,tt⟩]:=kr hf (fun e he=>by
    simp only[List.mem_toArray,lS]at he;subst he;exact hm)
   exact StepH.trans (w2:=w') hf h0 (by rw[ks hf];exact h2)
 | halt h=>intro H Q w es0 h;exact h.elim
theorem zaW{P:gP}{α:Type}(s:Sem α):∀(H:Hp)(Q Q':α->Hp->Prop),(∀ a H,Q a H->Q' a H)->wpS P s H Q->wpS P s H Q':=by
 induction s with
 | pure a=>exact fun H Q Q' hq h=>hq _ _ h
 | load m a k ih=>exact fun H Q Q' hq ⟨rw',c,e,fz,v,h1,h2,h3,h⟩=>⟨rw',c,e,fz,v,h1,h2,h3,ih v H Q Q' hq h⟩
 | store m a v k ih=>exact fun H Q Q' hq ⟨hv,c,e,lo,hi,h1,h2,h3,h4,h⟩=>⟨hv,c,e,lo,hi,h1,h2,h3,h4,ih _ Q Q' hq h⟩
 | new o k ih=>exact fun H Q Q' hq h r hr=>ih r _ Q Q' hq (h r hr)
 | shape r k ih=>exact fun H Q Q' hq ⟨rw',o,h1,h⟩=>⟨rw',o,h1,ih _ H Q Q' hq h⟩
 | freeze a n k ih=>exact fun H Q Q' hq ⟨hn,c,e,fz,h1,h⟩=>⟨hn,c,e,fz,h1,ih _ Q Q' hq h⟩
 | frozen a k ih=>exact fun H Q Q' hq ⟨rw',o,h1,h⟩=>⟨rw',o,h1,ih _ H Q Q' hq h⟩
 | getObj r k ih=>exact fun H Q Q' hq ⟨rw',o,h1,h2,h3,h⟩=>⟨rw',o,h1,h2,h3,ih o H Q Q' hq h⟩
 | setObj r o k ih=>exact fun H Q Q' hq ⟨o0,h1,h2,h3,h⟩=>⟨o0,h1,h2,h3,ih _ Q Q' hq h⟩
 | choose q k ih=>exact fun H Q Q' hq h n h1 h2=>ih n H Q Q' hq (h n h1 h2)
 | sys c k ih=>exact fun _ _ _ _ h=>h.elim
 | program k ih=>exact fun H Q Q' hq h=>ih P H Q Q' hq h
 | mark m k ih=>exact fun H Q Q' hq ⟨hm,h⟩=>⟨hm,ih H Q Q' hq h⟩
 | halt h=>exact fun _ _ _ _ h=>h.elim
theorem kf{P:gP}{α β:Type}(s:Sem α)(f:α->Sem β):∀(H:Hp)(Q:β->Hp->Prop),wpS P s H (fun a H'=>wpS P (f a) H' Q)->wpS P (s >>= f) H Q:=by
 show ∀(H:Hp)(Q:β->Hp->Prop),wpS P s H (fun a H'=>wpS P (f a) H' Q)->wpS P (s.bind f) H Q
 induction s with
 | pure a=>exact fun H Q h=>h
 | load m a k ih=>exact fun H Q ⟨rw',c,e,fz,v,h1,h2,h3,h⟩=>⟨rw',c,e,fz,v,h1,h2,h3,ih v H Q h⟩
 | store m a v k ih=>exact fun H Q ⟨hv,c,e,lo,hi,h1,h2,h3,h4,h⟩=>⟨hv,c,e,lo,hi,h1,h2,h3,h4,ih _ Q h⟩
 | new o k ih=>exact fun H Q h r hr=>ih r _ Q (h r hr)
 | shape r k ih=>exact fun H Q ⟨rw',o,h1,h⟩=>⟨rw',o,h1,ih _ H Q h⟩
 | freeze a n k ih=>exact fun H Q ⟨hn,c,e,fz,h1,h⟩=>⟨hn,c,e,fz,h1,ih _ Q h⟩
 | frozen a k ih=>exact fun H Q ⟨rw',o,h1,h⟩=>⟨rw',o,h1,ih _ H Q h⟩
 | getObj r k ih=>exact fun H Q ⟨rw',o,h1,h2,h3,h⟩=>⟨rw',o,h1,h2,h3,ih o H Q h⟩
 | setObj r o k ih=>exact fun H Q ⟨o0,h1,h2,h3,h⟩=>⟨o0,h1,h2,h3,ih _ Q h⟩
 | choose q k ih=>exact fun H Q h n h1 h2=>ih n H Q (h n h1 h2)
 | sys c k ih=>exact fun _ _ h=>h.elim
 | program k ih=>exact fun H Q h=>ih P H Q h
 | mark m k ih=>exact fun H Q ⟨hm,h⟩=>⟨hm,ih H Q h⟩
 | halt h=>exact fun _ _ h=>h.elim
section
variable {P:gP}{main:Bool}{T:gG->Hp->Prop}{H:Hp}{b:gQ}{a:Act}{k:List Item}{cs:List gQ}{Qy:Array gB}{i:Nat}{Wp:List Nat}{o:gB}
end
inductive AV where
 | v (x:gV)
 | ptr (i off:Nat)
 | sl (i off len:Nat)
 | row (i len:Nat)
 | agg (l:List AV)
 | tup (l:List AV)
 | fn (f:gF) (fs cs:List AV)
 | e0
 | z0
 | map (i:Nat)
 | yl (i:Nat)
 | chan (i:Nat)
 | any
instance:Inhabited AV:=⟨.any⟩
structure Loc3 where
 blk:Nat
 base:Nat
 cap:Nat
def rowV(loc:Loc3)(len:Nat)(y:gV):Prop:=if loc.cap=0 then ∃ b,y=.slice b 0 0 else y=.slice (some ⟨loc.blk,0,none⟩) len loc.cap
inductive RelV(φ:Nat->Loc3)(n:Nat):AV->gV->Prop
 | v (x:gV):RelV φ n (.v x) x
 | ptr {i off:Nat}:i<n->RelV φ n (.ptr i off) (.pointer (some ⟨(φ i).blk,(φ i).base+off,none⟩))
 | sl {i off len cap:Nat} {b:Option Addr}:i<n->len<=cap->(0<len->b=some ⟨(φ i).blk,(φ i).base+off,none⟩)->RelV φ n (.sl i off len) (.slice b len cap)
 | row {i len:Nat} {y:gV}:i<n->len<=(φ i).cap->rowV (φ i) len y->RelV φ n (.row i len) y
 | agg {l:List AV} {ys:Array gV}:l.length=ys.size->(∀(j:Nat) a y,l[j]? =some a->ys[j]? =some y->RelV φ n a y)->RelV φ n (.agg l) (.agg ys)
 | tup {l:List AV} {ys:Array gV}:l.length=ys.size->(∀(j:Nat) a y,l[j]? =some a->ys[j]? =some y->RelV φ n a y)->RelV φ n (.tup l) (.tuple ys)
 | fn {f:gF} {fs cs:List AV} {xs ys:Array gV}:fs.length=xs.size->(∀(j:Nat) a y,fs[j]? =some a->xs[j]? =some y->RelV φ n a y) ->
   cs.length=ys.size->(∀(j:Nat) a y,cs[j]? =some a->ys[j]? =some y->RelV φ n a y)->RelV φ n (.fn f fs cs) (.func (.func f) xs ys)
 | e0 (a:Option Addr) (cap:Nat):RelV φ n .e0 (.slice a 0 cap)
 | z0 (a:Addr):RelV φ n .z0 (.slice (some a) 0 0)
 | map {i:Nat}:i<n->RelV φ n (.map i) (.map (some (φ i).blk))
 | yl {i:Nat}:i<n->RelV φ n (.yl i) (.func (.yield (φ i).blk) #[] #[])
 | chan {i:Nat}:i<n->RelV φ n (.chan i) (.chan (some (φ i).blk))
 | any (y:gV):RelV φ n .any y
def zN(φ:Nat->Loc3)(n:Nat)(l:List AV)(ys:Array gV):Prop:=l.length=ys.size/\∀(j:Nat) a y,l[j]? =some a->ys[j]? =some y->RelV φ n a y
def Agr(φ φ':Nat->Loc3)(n:Nat):Prop:=∀ i,i<n->φ' i=φ i
theorem Agr.refl(φ:Nat->Loc3)(n:Nat):Agr φ φ n:=fun _ _=>rfl
theorem Agr.trans{φ φ' φ'':Nat->Loc3}{n m:Nat}(h:Agr φ φ' n)(k:Agr φ' φ'' m)(hn:n<=m):Agr φ φ'' n:=fun i hi=>(k i oQ).trans (h i hi)
theorem RelV.mono{φ φ':Nat->Loc3}{n n':Nat}(hA:Agr φ φ' n)(hn:n<=n'){a:AV}{y:gV}(h:RelV φ n a y):RelV φ' n' a y:=by
 induction h with
 | v x=>exact .v x
 | ptr hi=>rw[<- hA _ hi];exact .ptr oQ
 | sl hi hl hb=>rw[<- hA _ hi]at hb;exact .sl oQ hl hb
 | row hi hl hv =>
  rw[<- hA _ hi]at hl hv;exact .row oQ hl hv
 | agg hl _ ih=>exact .agg hl ih
 | tup hl _ ih=>exact .tup hl ih
 | fn h1 _ h2 _ ih1 ih2=>exact .fn h1 ih1 h2 ih2
 | e0 a c=>exact .e0 a c
 | z0 a=>exact .z0 a
 | map hi=>rw[<- hA _ hi];exact .map oQ
 | yl hi=>rw[<- hA _ hi];exact .yl oQ
 | chan hi=>rw[<- hA _ hi];exact .chan oQ
 | any y=>exact .any y
theorem zN.mono{φ φ':Nat->Loc3}{n n':Nat}(hA:Agr φ φ' n)(hn:n<=n'){l:List AV}{ys:Array gV}(h:zN φ n l ys):zN φ' n' l ys:=⟨h.1,fun j a y ha hy=>(h.2 j a y ha hy).mono hA hn⟩
inductive AObj where
 | cells (l:List AV) (elem:gT) (rw:Bool)
 | row (l:List AV) (elem:gT) (size:Nat)
 | raw (o:Obj)
 | loop (f:gF) (Wq:List AV) (ps:Array Tmp) (x y:Code) (st:LoopState) (pj:Option Code)
 | gone
 | ro (o:Obj)
def AObj.excl:AObj->Bool|.cells _ _ rw=>rw|.row .. => tt|.raw _=>tt|.loop .. => tt|.gone=>ff|.ro _=>ff
def AObj.live:AObj->Bool|.gone=>ff|_=>tt
def sol(loc:Loc3):AObj->Prop|.row .. => 0<loc.cap|.cells l _ _=>l≠[]|_=>True
def RelO(φ:Nat->Loc3)(n:Nat)(loc:Loc3)(H:Hp):AObj->Prop
 | .cells l e rw=>l≠[]->∃ rw' cur q,H loc.blk=some (rw',.cells cur q.1 q.2)/\(rw=tt->(rw'=tt/\q=(e,0,0))/\loc.base=0/\cur.size=l.length)/\∀(j:Nat) a,l[j]? =some a->∃ y,cur[loc.base+j]? =some y/\RelV φ n a y
 | .row l e size=>(loc.cap=0->l=[])/\loc.base=0/\(0<loc.cap->∃ cur,H loc.blk=some (tt,.cells cur e (0,0))/\cur.size=loc.cap*size/\loc.cap<=maxLen/\l.length<=cur.size/\∀(j:Nat) a,l[j]? =some a->∃ y,cur[j]? =some y/\RelV φ n a y)
 | .raw o=>H loc.blk=some (tt,o)
 | .loop f Wq ps x y st pj=>∃ ts d,H loc.blk=some (tt,.loop { state:=st,pending:=pj,fn:=f,tmps:=ts,params:=ps,assign:=x,body:=y,defers:=d })/\zN φ n Wq ts
 | .gone=>True
 | .ro o=>∃ rw',H loc.blk=some (rw',o)
structure RelH(φ:Nat->Loc3)(A:List AObj)(F H:Hp):Prop where
 obj:∀(i:Nat) o,A[i]? =some o->RelO φ A.length (φ i) H o
 apart:∀(i j:Nat) o o',A[i]? =some o->A[j]? =some o'->i≠j->o.excl=tt->o'.live=tt->sol (φ i) o->sol (φ j) o'->(φ i).blk≠(φ j).blk
 fr:F.ext H
 frx:∀(i:Nat) o,A[i]? =some o->o.excl=tt->sol (φ i) o->F (φ i).blk=none
theorem RelO.mono{φ φ':Nat->Loc3}{n n':Nat}(hA:Agr φ φ' n)(hn:n<=n'){loc:Loc3}{H H':Hp}{o:AObj}(hH:o.live=tt->sol loc o->H' loc.blk=H loc.blk)(h:RelO φ n loc H o):RelO φ' n' loc H' o:=by
 cases o with
 | cells l e rw' =>
  intro hl;obtain⟨rw'',cur,fz,h1,h2,h3⟩:=h hl;exact⟨rw'',cur,fz,(hH rfl hl).trans h1,h2,fun j a ha=>let ⟨y,h4,h5⟩:=h3 j a ha;⟨y,h4,h5.mono hA hn⟩⟩
 | row l e size =>
  obtain⟨h0,h2,h⟩:=h;refine⟨h0,h2,fun hc=>?_⟩;obtain⟨cur,h1,h3,h4,h5,h6⟩:=h hc;exact⟨cur,(hH rfl hc).trans h1,h3,h4,h5,fun j a ha=>let ⟨y,h7,h8⟩:=h6 j a ha;⟨y,h7,h8.mono hA hn⟩⟩
 | raw o=>exact(hH rfl trivial).trans h
 | loop f Wq ps x y st pj=>obtain⟨ts,d,h1,h2⟩:=h;exact⟨ts,d,(hH rfl trivial).trans h1,h2.mono hA hn⟩
 | gone=>trivial
 | ro o=>obtain⟨r,h⟩:=h;exact⟨r,(hH rfl trivial).trans h⟩
theorem RelH.ext{φ:Nat->Loc3}{A:List AObj}{F H H':Hp}(h:RelH φ A F H)(he:H.ext H'):RelH φ A F H':=by
 refine⟨fun i o hi=>?_,h.apart,fun b x hb=>he b x (h.fr b x hb),h.frx⟩;have ho:=h.obj i o hi;cases o with
 | cells l e rw'=>exact fun hl=>let ⟨rw'',cur,fz,h1,h2⟩:=ho hl;⟨rw'',cur,fz,he _ _ h1,h2⟩
 | row l e size=>obtain⟨h0,h2,ho⟩:=ho;exact⟨h0,h2,fun hc=>let ⟨cur,h1,h3⟩:=ho hc;⟨cur,he _ _ h1,h3⟩⟩
 | raw o=>exact he _ _ ho
 | loop f Wq ps x y st pj=>obtain⟨ts,d,h1,h2⟩:=ho;exact⟨ts,d,he _ _ h1,h2⟩
 | gone=>trivial
 | ro o=>obtain⟨r,h1⟩:=ho;exact⟨r,he _ _ h1⟩
def yc(φ:Nat->Loc3)(i:Nat)(x:Loc3):Nat->Loc3:=fun j=>if j=i then x else φ j
theorem yn(φ:Nat->Loc3)(n:Nat)(x:Loc3):Agr φ (yc φ n x) n:=fun i hi=>by simp[yc];omega
theorem RelO.held{φ:Nat->Loc3}{n:Nat}{loc:Loc3}{H:Hp}{o:AObj}(h:RelO φ n loc H o)(hl:o.live=tt)(hs:sol loc o):∃ x,H loc.blk=some x:=by
 cases o with
 | cells l e rw'=>obtain⟨rw'',cur,fz,h1,_⟩:=h hs;exact⟨_,h1⟩
 | row l e size=>obtain⟨cur,h1,_⟩:=h.2.2 hs;exact⟨_,h1⟩
 | raw o=>exact⟨_,h⟩
 | loop f Wq ps x y st pj=>obtain⟨ts,d,h1,_⟩:=h;exact⟨_,h1⟩
 | gone=>cases hl
 | ro o=>obtain⟨r,h⟩:=h;exact⟨_,h⟩
theorem RelH.push{φ:Nat->Loc3}{A:List AObj}{F H:Hp}(h:RelH φ A F H){r:Nat}(hr:H r=none){loc:Loc3}(hloc:loc.blk=r){o:AObj}{x:Bool×Obj}(ho:RelO (yc φ A.length loc) (A.length+1) loc (H.put r x) o) :
  RelH (yc φ A.length loc) (A++[o]) F (H.put r x):=by
 have Wb:(A++[o]).length=A.length+1:=by simp
 have hget:∀(i:Nat) o',(A++[o])[i]? =some o'->(i<A.length/\A[i]? =some o')\/(i=A.length/\o'=o):=fun i o' hi=>by
  rcases mR i A.length with Qp|hge
  ·rw[lG Qp]at hi;exact .inl ⟨Qp,hi⟩
  ·rw[lO hge]at hi;have:i - A.length=0:=by
    have:=(lD.1 hi).1;simp at this;omega
   rw[this]at hi;simp at hi;exact .inr ⟨by omega,hi.symm⟩
 have hold:∀ i,i<A.length->yc φ A.length loc i=φ i:=fun i hi=>by simp[yc];omega
 have hnew:yc φ A.length loc A.length=loc:=by simp[yc]
 have hne:∀(i:Nat) o',A[i]? =some o'->o'.live=tt->sol (φ i) o'->(φ i).blk≠r:=fun i o' hi hl hs e=>by
  obtain⟨y,hy⟩:=(h.obj i o' hi).held hl hs;rw[e,hr]at hy;cases hy
 have hFr:F r=none:=by
  cases e:F r with
  | none=>rfl
  | some y=>have:=h.fr r y e;rw[hr]at this;cases this
 refine⟨fun i o' hi=>?_,fun i j o1 o2 hi hj hij he hl hs1 hs2=>?_,Hp.ext_put h.fr hFr x,fun i o' hi he hs=>?_⟩;rotate_left 2
 ·rcases hget i o' hi with⟨Qp,hi'⟩|⟨rfl,rfl⟩
  ·rw[hold i Qp]at hs ⊢;exact h.frx i o' hi' he hs
  ·rw[hnew,hloc];exact hFr
 ·rw[Wb];rcases hget i o' hi with⟨Qp,hi'⟩|⟨rfl,rfl⟩
  ·rw[hold i Qp];exact(h.obj i o' hi').mono (yn φ _ loc) oQ (fun hl hs=>Hp.put_other _ _ (hne i o' hi' hl hs))
  ·rw[hnew];exact ho
 ·rcases hget i o1 hi with⟨hi1,hi'⟩|⟨rfl,rfl⟩
  ·rcases hget j o2 hj with⟨hj1,hj'⟩|⟨rfl,rfl⟩
   ·rw[hold i hi1]at hs1 ⊢;rw[hold j hj1]at hs2 ⊢;exact h.apart i j o1 o2 hi' hj' hij he hl hs1 hs2
   ·rw[hold i hi1]at hs1 ⊢;rw[hnew,hloc];refine hne i o1 hi' ?_ hs1;cases o1 <;> first|rfl|(simp[AObj.excl]at he)
  ·rcases hget j o2 hj with⟨hj1,hj'⟩|⟨rfl,_⟩
   ·rw[hold j hj1]at hs2 ⊢;rw[hnew,hloc];exact Ne.symm (hne j o2 hj' hl hs2)
   ·exact absurd rfl hij
theorem RelH.set{φ:Nat->Loc3}{A:List AObj}{F H:Hp}(h:RelH φ A F H){i:Nat}{o o':AObj}(hi:A[i]? =some o)(hx:o.excl=tt)(hs:sol (φ i) o){x:Bool×Obj}(ho:RelO φ A.length (φ i) (H.put (φ i).blk x) o') :
  RelH φ (A.set i o') F (H.put (φ i).blk x):=by
 have Qp:i<A.length:=(lD.1 hi).1;have hget:∀(j:Nat) q,(A.set i o')[j]? =some q->(j≠i/\A[j]? =some q)\/(j=i/\q=o'):=fun j q hj=>by
  rw[lX]at hj;split at hj
  ·rename_i e;subst e;simp[Qp]at hj;exact .inr ⟨rfl,hj.symm⟩
  ·rename_i e;exact .inl ⟨Ne.symm e,hj⟩
 refine⟨fun j q hj=>?_,fun j k q1 q2 hj hk hjk he hl hs1 hs2=>?_,Hp.ext_put h.fr (h.frx i o hi hx hs) x,fun j q hj he hsj=>?_⟩;rotate_left 2
 ·rcases hget j q hj with⟨_,hj'⟩|⟨rfl,rfl⟩
  ·exact h.frx j q hj' he hsj
  ·exact h.frx j o hi hx hs
 ·rw[List.length_set];rcases hget j q hj with⟨hne,hj'⟩|⟨rfl,rfl⟩
  ·refine(h.obj j q hj').mono (Agr.refl _ _) (mL _) fun hl hsj=>Hp.put_other _ _ ?_;exact Ne.symm (h.apart i j o q hi hj' (Ne.symm hne) hx hl hs hsj)
  ·exact ho
 ·rcases hget j q1 hj with⟨hne,hj'⟩|⟨rfl,rfl⟩
  ·rcases hget k q2 hk with⟨hne2,hk'⟩|⟨rfl,rfl⟩
   ·exact h.apart j k q1 q2 hj' hk' hjk he hl hs1 hs2
   ·refine Ne.symm (h.apart k j o q1 hi hj' (Ne.symm hjk) hx ?_ hs hs1);cases q1 <;> first|rfl|(simp[AObj.excl]at he)
  ·rcases hget k q2 hk with⟨hne2,hk'⟩|⟨rfl,rfl⟩
   ·exact h.apart j k o q2 hi hk' hjk hx hl hs hs2
   ·exact absurd rfl hjk
theorem RelH.drop{φ:Nat->Loc3}{A:List AObj}{F H:Hp}(h:RelH φ A F H)(i:Nat):RelH φ (A.set i .gone) F H:=by
 have hget:∀(j:Nat) q,(A.set i .gone)[j]? =some q->A[j]? =some q\/q=.gone:=fun j q hj=>by
  rw[lX]at hj;split at hj
  ·split at hj
   ·exact .inr (Option.some.inj hj).symm
   ·cases hj
  ·exact .inl hj
 refine⟨fun j q hj=>?_,fun j k q1 q2 hj hk hjk he hl hs1 hs2=>?_,h.fr,fun j q hj he hs=>?_⟩;rotate_left 2
 ·rcases hget j q hj with h1|rfl
  ·exact h.frx j q h1 he hs
  ·cases he
 ·rw[List.length_set];rcases hget j q hj with h1|rfl
  ·exact h.obj j q h1
  ·trivial
 ·rcases hget j q1 hj with h1|rfl
  ·rcases hget k q2 hk with h2|rfl
   ·exact h.apart j k q1 q2 h1 h2 hjk he hl hs1 hs2
   ·cases hl
  ·cases he
theorem RelH.virt{φ:Nat->Loc3}{A:List AObj}{F H:Hp}(h:RelH φ A F H)(e:gT)(size:Nat):RelH (yc φ A.length ⟨0,0,0⟩) (A++[.row [] e size]) F H:=by
 have Wb:(A++[AObj.row [] e size]).length=A.length+1:=by simp
 have hget:∀(i:Nat) o',(A++[AObj.row [] e size])[i]? =some o'->(i<A.length/\A[i]? =some o')\/(i=A.length/\o'=.row [] e size):=fun i o' hi=>by
  rcases mR i A.length with Qp|hge
  ·rw[lG Qp]at hi;exact .inl ⟨Qp,hi⟩
  ·rw[lO hge]at hi;have:i - A.length=0:=by
    have:=(lD.1 hi).1;simp at this;omega
   rw[this]at hi;simp at hi;exact .inr ⟨by omega,hi.symm⟩
 have hold:∀ i,i<A.length->yc φ A.length ⟨0,0,0⟩ i=φ i:=fun i hi=>by simp[yc];omega
 have hnew:yc φ A.length ⟨0,0,0⟩ A.length=⟨0,0,0⟩:=by simp[yc]
 refine⟨fun i o' hi=>?_,fun i j o1 o2 hi hj hij he hl hs1 hs2=>?_,h.fr,fun i o' hi he hs=>?_⟩
 ·rw[Wb];rcases hget i o' hi with⟨Qp,hi'⟩|⟨rfl,rfl⟩
  ·rw[hold i Qp];exact(h.obj i o' hi').mono (yn φ _ _) oQ (fun _ _=>rfl)
  ·rw[hnew];exact⟨fun _=>rfl,rfl,fun hc=>absurd hc sQ⟩
 ·rcases hget i o1 hi with⟨hi1,hi'⟩|⟨rfl,rfl⟩
  ·rcases hget j o2 hj with⟨hj1,hj'⟩|⟨rfl,rfl⟩
   ·rw[hold i hi1]at hs1 ⊢;rw[hold j hj1]at hs2 ⊢;exact h.apart i j o1 o2 hi' hj' hij he hl hs1 hs2
   ·rw[hnew]at hs2;exact absurd hs2 (by simp[sol])
  ·rw[hnew]at hs1;exact absurd hs1 (by simp[sol])
 ·rcases hget i o' hi with⟨Qp,hi'⟩|⟨rfl,rfl⟩
  ·rw[hold i Qp]at hs ⊢;exact h.frx i o' hi' he hs
  ·rw[hnew]at hs;exact absurd hs (by simp[sol])
section
variable {P:gP}{H:Hp}
theorem zf{α β:Type}(s:Sem α)(f:α->Sem β)(Q:β->Hp->Prop):wpS P s H (fun a H'=>wpS P (f a) H' Q)->wpS P (s >>= f) H Q:=kf s f H Q
theorem kN{α:Type}(a:α)(Q:α->Hp->Prop):wpS P (pure a) H Q=Q a H:=rfl
theorem zB{t:gT}{d:TypeDesc}(h:P.underlying t=some d){Q:TypeDesc->Hp->Prop}(hq:Q d H):wpS P (underlying t) H Q:=by
 show wpS P (match P.underlying t with|some d=>pure d|none=>stuck "no such type") H Q
 rw[h];exact hq
theorem kO{t:gT}{i:gI}(h:P.info? t=some i){Q:gI->Hp->Prop}(hq:Q i H):wpS P (typeInfo t) H Q:=by
 show wpS P (match P.info? t with|some i=>pure i|none=>stuck "no such type") H Q
 rw[h];exact hq
theorem yy{t:gT}{i:gI}(h:P.info? t=some i){Q:Nat->Hp->Prop}(hq:Q i.size H):wpS P (sizeOf t) H Q:=by
 unfold sizeOf;exact zf _ _ _ (kO h hq)
theorem kD{t:gT}{i:gI}{z:gV}(h:P.info? t=some i)(hz:i.zero=some z){Q:gV->Hp->Prop}(hq:Q z H):wpS P (zeroValue t) H Q:=by
 unfold zeroValue;refine zf _ _ _ (kO h ?_);rw[hz];exact hq
def isAggD:TypeDesc->Bool|.struct _|.array _ _=>tt|_=>ff
theorem vW{t:gT}{d:TypeDesc}(h:P.underlying t=some d){Q:Bool->Hp->Prop}(hq:Q (isAggD d) H):wpS P (isAgg t) H Q:=by
 unfold isAgg;refine zf _ _ _ (zB h ?_);cases d <;> exact hq
def tySize(P:gP)(t:gT):Option (Bool×Nat) :=
 match P.info? t,P.underlying t with
 | some i,some d=>some (isAggD d,i.size)
 | _,_=>none
theorem yL{t:gT}{g:Bool}{n:Nat}(h:tySize P t=some (g,n)):∃ i d,P.info? t=some i/\P.underlying t=some d/\isAggD d=g/\i.size=n:=by
 unfold tySize at h;split at h
 ·rename_i i d h1 h2;cases h;exact⟨i,d,h1,h2,rfl,rfl⟩
 ·cases h
def tyZero(P:gP)(t:gT):Option (List gV):=(P.info? t).bind fun i=>i.zero.map fun z=>z.cells.toList
theorem wS{t:gT}{l:List gV}(h:tyZero P t=some l):∃ i z,P.info? t=some i/\i.zero=some z/\z.cells.toList=l:=by
 unfold tyZero at h;cases e:P.info? t with
 | none=>rw[e]at h;cases h
 | some i =>
  rw[e]at h;simp only[Option.bind_some]at h;cases e2:i.zero with
  | none=>rw[e2]at h;cases h
  | some z=>rw[e2]at h;cases h;exact⟨i,z,rfl,e2,rfl⟩
def fieldOf(P:gP)(t:gT)(k:Nat):Option (Nat×Bool×Nat) :=
 match P.underlying t with
 | some (.struct fs)=>(fs[k]?).bind fun f=>(tySize P f.type).map fun(g,n)=>(f.offset,g,n)
 | _=>none
theorem vl{t:gT}{k off n:Nat}{g:Bool}(h:fieldOf P t k=some (off,g,n)):∃ fs f,P.underlying t=some (.struct fs)/\fs[k]? =some f/\f.offset=off/\tySize P f.type=some (g,n):=by
 unfold fieldOf at h;split at h
 ·rename_i fs h1;cases e:fs[k]? with
  | none=>rw[e]at h;cases h
  | some f =>
   rw[e]at h;simp only[Option.bind_some]at h;cases e2:tySize P f.type with
   | none=>rw[e2]at h;cases h
   | some x =>
    obtain⟨g',n'⟩:=x;rw[e2]at h;cases h;exact⟨fs,f,h1,e,rfl,e2⟩
 ·cases h
def slElem(P:gP)(t:gT):Option (gT×Nat) :=
 match P.underlying t with
 | some (.slice e)=>(P.info? e).map fun i=>(e,i.size)
 | _=>none
theorem wR{t e:gT}{n:Nat}(h:slElem P t=some (e,n)):∃ i,P.underlying t=some (.slice e)/\P.info? e=some i/\i.size=n:=by
 unfold slElem at h;split at h
 ·rename_i e' h1;cases e2:P.info? e' with
  | none=>rw[e2]at h;cases h
  | some i=>rw[e2]at h;cases h;exact⟨i,h1,e2,rfl⟩
 ·cases h
def arrElem(P:gP)(t:gT):Option (Nat×gT×Bool×Nat) :=
 match P.underlying t with
 | some (.array n e)=>(tySize P e).map fun(g,k)=>(n,e,g,k)
 | _=>none
theorem uk{t e:gT}{n k:Nat}{g:Bool}(h:arrElem P t=some (n,e,g,k)):P.underlying t=some (.array n e)/\tySize P e=some (g,k):=by
 unfold arrElem at h;split at h
 ·rename_i n' e' h1;cases e2:tySize P e' with
  | none=>rw[e2]at h;cases h
  | some x=>obtain⟨g',k'⟩:=x;rw[e2]at h;cases h;exact⟨h1,e2⟩
 ·cases h
theorem kn(b off i:Nat):(⟨b,off,none⟩:Addr).add i=⟨b,off+i,none⟩:=by
 unfold Addr.add;split
 ·rename_i h;subst h;rfl
 ·rfl
theorem vZ{b off:Nat}{rw':Bool}{cur:Array gV}{e:gT}{fz:Nat×Nat}(hb:H b=some (rw',.cells cur e fz)){Q:Array gV->Hp->Prop} :
  ∀(ys:List gV)(i:Nat)(acc:Array gV),(∀(j:Nat) y,ys[j]? =some y->cur[off+(i+j)]? =some y)->Q (acc++ys.toArray) H->wpS P (loadCellsFrom ⟨b,off,none⟩ i ys.length acc) H Q
 | [],i,acc,_,hq=>by simpa[loadCellsFrom,kN]using hq
 | y::ys,i,acc,h,hq=>by
  show wpS P (loadCellsFrom ⟨b,off,none⟩ i (ys.length+1) acc) H Q;unfold loadCellsFrom;refine zf _ _ _ ?_;refine⟨rw',cur,e,fz,y,?_,?_,?_,?_⟩
  ·rw[kn];exact hb
  ·rw[kn]
  ·rw[kn];simpa using h 0 y rfl
  ·refine vZ hb ys (i+1) (acc.push y) (fun j z hz=>?_) ?_
   ·have:=h (j+1) z hz;rwa[show off+(i+1+j)=off+(i+(j+1)) by omega]
   ·have e1:acc.push y++ys.toArray=acc++(y::ys).toArray:=by
     apply Array.ext';simp
    rw[e1];exact hq
theorem wV{b off:Nat}{rw':Bool}{cur:Array gV}{e:gT}{fz:Nat×Nat}(hb:H b=some (rw',.cells cur e fz)){Q:Array gV->Hp->Prop}(ys:List gV)(h:∀(j:Nat) y,ys[j]? =some y->cur[off+j]? =some y)(hq:Q ys.toArray H) :
  wpS P (loadCells ⟨b,off,none⟩ ys.length) H Q:=by
 refine vZ hb ys 0 #[] (fun j y hy=>by rw[mO];exact h j y hy) ?_;rwa[mK]
def setCs(cur:Array gV)(off:Nat):List gV->Array gV
 | []=>cur
 | y::ys=>setCs (cur.setIfInBounds off y) (off+1) ys
theorem wM(off:Nat):∀(ys:List gV)(cur:Array gV) ,(setCs cur off ys).size=cur.size:=by
 intro ys
 induction ys generalizing off with
 | nil=>intro cur;rfl
 | cons y ys ih=>intro cur;rw[setCs,ih,Array.size_setIfInBounds]
theorem uO:∀(ys:List gV)(cur:Array gV)(off j:Nat),off+ys.length<=cur.size->(setCs cur off ys)[j]? =if off<=j/\j<off+ys.length then ys[j - off]? else cur[j]? :=by
 intro ys
 induction ys with
 | nil=>intro cur off j _;simp[setCs];omega
 | cons y ys ih =>
  intro cur off j h;rw[setCs,ih _ _ _ (by simp at h ⊢;omega)];simp only[lZ]at h ⊢;by_cases h1:off+1<=j/\j<off+1+ys.length
  ·rw[if_pos h1,if_pos oQ,show j - off=(j - (off+1))+1 by omega,List.getElem?_cons_succ]
  ·rw[if_neg h1];by_cases h2:j=off
   ·subst h2;rw[if_pos oQ,Nat.sub_self,List.getElem?_cons_zero,mF oQ]
   ·rw[if_neg oQ,mE (Ne.symm h2)]
theorem wO{b off:Nat}{e:gT}{Q:Unit->Hp->Prop} :
  ∀(ys:List gV)(i:Nat)(cur:Array gV)(H:Hp),H b=some (tt,.cells cur e (0,0))->off+i+ys.length<=cur.size->(∀ y∈ys,oneCell y=tt) ->
   Q () (H.put b (tt,.cells (setCs cur (off+i) ys) e (0,0)))->wpS P (storeCells ⟨b,off,none⟩ ys i) H Q
 | [],i,cur,H,hb,_,_,hq=>by
  have:H.put b (tt,.cells (setCs cur (off+i) []) e (0,0))=H:=by
   funext c;unfold Hp.put;split
   ·rename_i h;rw[h,hb];rfl
   ·rfl
  rw[this]at hq;exact hq
 | y::ys,i,cur,H,hb,hsz,h1,hq=>by
  unfold storeCells;refine zf _ _ _ ?_;simp only[lZ]at hsz;refine⟨h1 y sQ,cur,e,0,0,?_,?_,?_,?_,?_⟩
  ·rw[kn];exact hb
  ·rw[kn]
  ·rw[kn];show off+i<cur.size;omega
  ·simp
  ·rw[kn];refine wO ys (i+1) (cur.setIfInBounds (off+i) y) _ (Hp.put_same _ _ _) (by simp;omega) (fun z hz=>h1 z (by simp[hz])) ?_;rw[Hp.put_put];rw[setCs]at hq;rwa[show off+(i+1)=off+i+1 by omega]
end
def zT(gm:Nat->Option Nat)(Wq:List AV):gO->AV
 | .tmp t=>Wq.getD t .any
 | .const v=>.v v
 | .global g=>match gm g with|some i=>.ptr i 0|none=>.v (.pointer (some ⟨g,0,none⟩))
 | .func f=>.fn f [] []
theorem w8(φ:Nat->Loc3)(n:Nat):zN φ n [] #[]:=⟨rfl,fun j a y h=>by simp at h⟩
theorem zN.get{φ:Nat->Loc3}{n:Nat}{l:List AV}{ys:Array gV}(h:zN φ n l ys){j:Nat}{a:AV}(ha:l[j]? =some a):∃ y,ys[j]? =some y/\RelV φ n a y:=by
 have Qp:j<ys.size:=by rw[<- h.1];exact(lD.1 ha).1
 exact⟨ys[j],mD Qp,h.2 j a _ ha (mD Qp)⟩
theorem zN.back{φ:Nat->Loc3}{n:Nat}{l:List AV}{ys:Array gV}(h:zN φ n l ys){j:Nat}{y:gV}(hy:ys[j]? =some y):∃ a,l[j]? =some a/\RelV φ n a y:=by
 have Qp:j<l.length:=by rw[h.1];exact(mG.1 hy).1
 exact⟨l[j],lA Qp,h.2 j _ y (lA Qp) hy⟩
def RelG(gm:Nat->Option Nat)(φ:Nat->Loc3)(n:Nat):Prop:=∀ g i,gm g=some i->i<n/\(φ i).blk=g/\(φ i).base=0
theorem RelG.mono{gm:Nat->Option Nat}{φ φ':Nat->Loc3}{n n':Nat}(h:RelG gm φ n)(hA:Agr φ φ' n)(hn:n<=n'):RelG gm φ' n':=fun g i hi=>by
 obtain⟨h1,h2,h3⟩:=h g i hi;rw[hA i h1];exact⟨by omega,h2,h3⟩
theorem zy{gm:Nat->Option Nat}{φ:Nat->Loc3}{n:Nat}{Wq:List AV}{a:Act}(hg:RelG gm φ n)(h:zN φ n Wq a.tmps)(x:gO):RelV φ n (zT gm Wq x) (a.eval x):=by
 cases x with
 | tmp t =>
  simp only[zT,Act.eval];cases e:Wq[t]? with
  | none=>rw[lE,e];exact .any _
  | some v =>
   obtain⟨y,hy,hr⟩:=h.get e;rw[lE,e,Array.getD_eq_getD_getElem?,hy];exact hr
 | const v=>exact .v v
 | global g =>
  simp only[zT,Act.eval];split
  ·rename_i i e;obtain⟨h1,h2,h3⟩:=hg g i e;have:=RelV.ptr (φ:=φ) (off:=0) h1;rwa[h2,h3]at this
  ·exact .v _
 | func f=>exact .fn rfl (fun j a y h=>by simp at h) rfl (fun j a y h=>by simp at h)
theorem wG{gm:Nat->Option Nat}{φ:Nat->Loc3}{n:Nat}{Wq:List AV}{a:Act}(hg:RelG gm φ n)(h:zN φ n Wq a.tmps)(xs:Array gO):zN φ n (xs.toList.map (zT gm Wq)) (xs.map a.eval):=by
 refine⟨by simp,fun j u y hu hy=>?_⟩;rw[lQ]at hu;rw[mJ]at hy;rw[mI]at hu;cases e:xs[j]? with
 | none=>rw[e]at hu;cases hu
 | some x =>
  rw[e]at hu hy;cases hu;cases hy;exact zy hg h x
def zV(Wq:List AV)(d:Option Tmp)(r:AV):List AV:=match d with|some d=>Wq.set d r|none=>Wq
theorem yF{φ:Nat->Loc3}{n:Nat}{Wq:List AV}{a:Act}(h:zN φ n Wq a.tmps){r:AV}{v:gV}(hr:RelV φ n r v)(d:Option Tmp):zN φ n (zV Wq d r) (a.put d v).tmps:=by
 cases d with
 | none=>exact h
 | some d =>
  simp only[zV,Act.put];refine⟨by simp[h.1],fun j u y hu hy=>?_⟩;rw[lX]at hu;by_cases hj:d=j
  ·subst hj;rw[if_pos rfl]at hu;split at hu
   ·rename_i Qp;cases hu;rw[mF (by rw[<- h.1];exact Qp)]at hy;cases hy;exact hr
   ·cases hu
  ·rw[if_neg hj]at hu;rw[mE hj]at hy;exact h.2 j u y hu hy
def toVs:List AV->Option (List gV)
 | []=>some []
 | .v x::l=>match toVs l with|some zs=>some (x::zs)|none=>none
 | _::_=>none
def toV:AV->Option gV
 | .v x=>some x
 | .agg l=>match toVs l with|some zs=>some (.agg zs.toArray)|none=>none
 | _=>none
theorem zgq:∀{l:List AV}{zs:List gV},toVs l=some zs->l=zs.map AV.v
 | [],zs,h=>by cases h;rfl
 | .v x::l,zs,h=>by
  simp only[toVs]at h;split at h
  ·rename_i zs' e;cases h;rw[zgq e];rfl
  ·cases h
 | .ptr _ _::_,_,h=>by cases h
 | .sl _ _ _::_,_,h=>by cases h
 | .row _ _::_,_,h=>by cases h
 | .agg _::_,_,h=>by cases h
 | .tup _::_,_,h=>by cases h
 | .fn _ _ _::_,_,h=>by cases h
 | .e0::_,_,h=>by cases h
 | .z0::_,_,h=>by cases h
 | .map _::_,_,h=>by cases h
 | .yl _::_,_,h=>by cases h
 | .chan _::_,_,h=>by cases h
 | .any::_,_,h=>by cases h
theorem zao{φ:Nat->Loc3}{n:Nat}{a:AV}{x y:gV}(h:toV a=some x)(hr:RelV φ n a y):y=x:=by
 cases hr with
 | v z=>cases h;rfl
 | @agg l ys hl hrel =>
  simp only[toV]at h;split at h
  ·rename_i zs e;cases h;congr 1;have hm:=zgq e;subst hm;apply Array.ext_getElem?;intro j;by_cases hj:j<ys.size
   ·have hjz:j<zs.length:=by rw[lJ]at hl;omega
    have h3:=hrel j (.v zs[j]) ys[j] (by simp[hjz]) (mD hj);rw[mD hj];simp only[List.getElem?_toArray,lA hjz];generalize ys[j]=q at h3 ⊢;generalize zs[j]=p at h3 ⊢;cases h3;rfl
   ·rw[lJ]at hl;rw[Array.getElem?_eq_none oQ];simp only[List.getElem?_toArray];rw[List.getElem?_eq_none oQ]
  ·cases h
 | _=>cases h
def zL{α:Type}(P:gP):Sem α->Option α
 | .pure a=>some a
 | .program k=>zL P (k P)
 | _=>none
theorem zbl{α:Type}{P:gP}(s:Sem α):∀{a:α}{H:Hp}{Q:α->Hp->Prop},zL P s=some a->Q a H->wpS P s H Q:=by
 induction s with
 | pure b=>intro a H Q h hq;cases h;exact hq
 | program k ih=>intro a H Q h hq;exact ih P h hq
 | _=>intro a H Q h;cases h
def cellsA:AV->Option (List AV)
 | .any=>none
 | .tup _=>none
 | .agg l=>some l
 | .v (.agg ys)=>some (ys.toList.map .v)
 | .v (.tuple _)=>none
 | a=>some [a]
theorem kB{φ:Nat->Loc3}{n:Nat}{a:AV}{y:gV}(h:RelV φ n a y):zN φ n [a] #[y]:=⟨rfl,fun j u z hu hz=>by
 cases j with
 | zero=>simp at hu hz;subst hu hz;exact h
 | succ j=>simp at hu⟩
theorem zbG(φ:Nat->Loc3)(n:Nat)(ys:Array gV):zN φ n (ys.toList.map .v) ys:=⟨by simp,fun j u z hu hz=>by
 rw[lQ,mI,hz]at hu;cases hu;exact .v z⟩
theorem zc8{loc:Loc3}{len:Nat}{y:gV}(h:rowV loc len y):∃ b n c,y=.slice b n c:=by
 unfold rowV at h;split at h
 ·obtain⟨b,e⟩:=h;exact⟨_,_,_,e⟩
 ·exact⟨_,_,_,h⟩
theorem zcn{loc:Loc3}{len:Nat}{y:gV}(hl:len<=loc.cap)(h:rowV loc len y):∃ b c,y=.slice b len c:=by
 unfold rowV at h;split at h
 ·obtain⟨b,e⟩:=h;obtain rfl:len=0:=by omega
  exact⟨_,_,e⟩
 ·exact⟨_,_,h⟩
theorem zaP{loc:Loc3}{len:Nat}{y:gV}(hc:0<loc.cap)(h:rowV loc len y):y=.slice (some ⟨loc.blk,0,none⟩) len loc.cap:=by
 unfold rowV at h;rwa[if_neg oQ]at h
theorem zat{φ:Nat->Loc3}{n:Nat}{a:AV}{l:List AV}{y:gV}(h:cellsA a=some l)(hr:RelV φ n a y):zN φ n l y.cells:=by
 cases hr with
 | any=>cases h
 | tup=>cases h
 | agg h1 h2=>cases h;exact⟨h1,h2⟩
 | v =>
  cases y <;> first
   | (cases h;exact kB (.v _))
   | (cases h;exact zbG φ n _)
   | (cases h)
 | ptr hi=>cases h;exact kB (.ptr hi)
 | sl hi hl hb=>cases h;exact kB (.sl hi hl hb)
 | row hi hl hv =>
  cases h;obtain⟨b,n,c,rfl⟩:=zc8 hv;exact kB (.row hi hl hv)
 | fn h1 h2 h3 h4=>cases h;exact kB (.fn h1 h2 h3 h4)
 | e0 a c=>cases h;exact kB (.e0 a c)
 | z0 a=>cases h;exact kB (.z0 a)
 | map hi=>cases h;exact kB (.map hi)
 | yl hi=>cases h;exact kB (.yl hi)
 | chan hi=>cases h;exact kB (.chan hi)
def oneA:AV->Bool
 | .v x=>oneCell x
 | .ptr ..|.sl ..|.row ..|.fn ..|.e0|.z0|.map _|.yl _|.chan _=>tt
 | _=>ff
theorem zfW{φ:Nat->Loc3}{n:Nat}{a:AV}{y:gV}(h:oneA a=tt)(hr:RelV φ n a y):oneCell y=tt:=by
 cases hr with
 | row hi hl hv=>obtain⟨b,n,c,rfl⟩:=zc8 hv;rfl
 | v=>exact h
 | any=>cases h
 | tup=>cases h
 | agg=>cases h
 | _=>rfl
def AObj.look:AObj->Option (List AV)
 | .cells l _ _=>some l
 | .row l _ _=>some l
 | .raw _=>none
 | .loop .. => none
 | .gone=>none
 | .ro _=>none
theorem RelO.look{φ:Nat->Loc3}{n:Nat}{loc:Loc3}{H:Hp}{o:AObj}{l:List AV}(h:RelO φ n loc H o)(hl:o.look=some l)(Qx:0<l.length) :
  ∃ rw' cur e fz,H loc.blk=some (rw',.cells cur e fz)/\∀(j:Nat) a,l[j]? =some a->∃ y,cur[loc.base+j]? =some y/\RelV φ n a y:=by
 cases o with
 | cells l' e rw'=>cases hl;obtain⟨rw'',cur,fz,h1,_,h3⟩:=h (by intro e;rw[e]at Qx;simp at Qx);exact⟨_,_,_,_,h1,h3⟩
 | row l' e size =>
  cases hl;obtain⟨h0,h2,h⟩:=h;have hc:0<loc.cap:=by
   rcases mP loc.cap with e|e
   ·rw[h0 e]at Qx;simp at Qx
   ·exact e
  obtain⟨cur,h1,_,_,_,h6⟩:=h hc;exact⟨_,_,_,_,h1,fun j a ha=>by rw[h2,mO];exact h6 j a ha⟩
 | raw o=>cases hl
 | loop f Wq ps x y st pj=>cases hl
 | gone=>cases hl
 | ro o=>cases hl
def loadA(A:List AObj)(i off n:Nat):Option (List AV) :=
 match A[i]? with
 | some o=>match o.look with
  | some l=>if 0<n/\off+n<=l.length then some ((l.drop off).take n)else none
  | none=>none
 | none=>none
theorem vP{φ:Nat->Loc3}{A:List AObj}{F H:Hp}{i off n:Nat}{l:List AV}(hH:RelH φ A F H)(h:loadA A i off n=some l) :
  l.length=n/\∃(rw':Bool)(cur:Array gV)(e:gT)(fz:Nat×Nat)(ys:List gV),H (φ i).blk=some (rw',.cells cur e fz)/\ys.length=n/\zN φ A.length l ys.toArray/\∀(j:Nat) y,ys[j]? =some y->cur[(φ i).base+off+j]? =some y:=by
 unfold loadA at h;split at h
 ·rename_i o ho;split at h
  ·rename_i l' hl';split at h
   ·rename_i hle;obtain⟨hn0,hle⟩:=hle;cases h;obtain⟨rw',cur,e,fz,h1,h2⟩:=(hH.obj i o ho).look hl' oQ;have Wb:((l'.drop off).take n).length=n:=by simp;omega
    refine⟨Wb,rw',cur,e,fz,(List.range n).map fun j=>(cur[(φ i).base+off+j]?).getD undef,h1,by simp,⟨by simp;omega,fun j a y ha hy=>?_⟩,fun j y hy=>?_⟩
    ·have hj:j<n:=by rw[<- Wb];exact(lD.1 ha).1
     rw[List.getElem?_take,if_pos hj,List.getElem?_drop]at ha;obtain⟨z,hz,hr⟩:=h2 (off+j) a ha;simp only[List.getElem?_toArray,lQ,List.getElem?_range hj,Option.map_some,Option.some.injEq]at hy;rw[show(φ i).base+off+j=(φ i).base+(off+j) by omega,hz]at hy;cases hy;exact hr
    ·have hj:j<n:=by have:=(lD.1 hy).1;simpa using this
     rw[lQ,List.getElem?_range hj]at hy;have Qp:off+j<l'.length:=by omega
     obtain⟨z,hz,_⟩:=h2 (off+j) l'[off+j] (lA Qp);simp only[Option.map_some,Option.some.injEq]at hy;rw[show(φ i).base+off+j=(φ i).base+(off+j) by omega]at hy ⊢;rw[hz]at hy ⊢;exact congrArg some hy
   ·cases h
  ·cases h
 ·cases h
def setL(l:List AV)(off:Nat):List AV->List AV
 | []=>l
 | v::vs=>setL (l.set off v) (off+1) vs
theorem vH(off:Nat):∀(vs l:List AV),(setL l off vs).length=l.length:=by
 intro vs
 induction vs generalizing off with
 | nil=>intro l;rfl
 | cons v vs ih=>intro l;rw[setL,ih,List.length_set]
theorem zcr:∀(vs l:List AV)(off j:Nat),off+vs.length<=l.length->(setL l off vs)[j]? =if off<=j/\j<off+vs.length then vs[j - off]? else l[j]? :=by
 intro vs
 induction vs with
 | nil=>intro l off j _;simp[setL];omega
 | cons y ys ih =>
  intro l off j h;rw[setL,ih _ _ _ (by simp at h ⊢;omega)];simp only[lZ]at h ⊢;by_cases h1:off+1<=j/\j<off+1+ys.length
  ·rw[if_pos h1,if_pos oQ,show j - off=(j - (off+1))+1 by omega,List.getElem?_cons_succ]
  ·rw[if_neg h1];by_cases h2:j=off
   ·subst h2;rw[if_pos oQ,Nat.sub_self,List.getElem?_cons_zero,List.getElem?_set_self oQ]
   ·rw[if_neg oQ,List.getElem?_set_ne (Ne.symm h2)]
def storeA(A:List AObj)(i off:Nat)(vs:List AV):Option (List AObj) :=
 match A[i]? with
 | some (.cells l e tt)=>if off+vs.length<=l.length/\0<vs.length/\vs.all oneA=tt then some (A.set i (.cells (setL l off vs) e tt))else none
 | some (.row l e size)=>if off+vs.length<=l.length/\0<vs.length/\vs.all oneA=tt then some (A.set i (.row (setL l off vs) e size))else none
 | _=>none
theorem zeH{P:gP}{φ:Nat->Loc3}{A A':List AObj}{F H:Hp}{i off:Nat}{vs:List AV}{ys:Array gV}(hH:RelH φ A F H)(h:storeA A i off vs=some A')(hr:zN φ A.length vs ys){Q:Unit->Hp->Prop}
  (hq:∀ H',RelH φ A' F H'->A'.length=A.length->Q () H'):wpS P (storeCells ⟨(φ i).blk,(φ i).base+off,none⟩ ys.toList) H Q:=by
 have hone:vs.all oneA=tt->∀ y∈ys.toList,oneCell y=tt:=fun hall y hy=>by
  obtain⟨j,hj⟩:=List.mem_iff_getElem?.1 hy;rw[mI]at hj;obtain⟨a,ha,hra⟩:=hr.back hj;exact zfW (List.all_eq_true.1 hall a (lN ha)) hra
 have hsz:ys.toList.length=vs.length:=by rw[Array.length_toList];exact hr.1.symm
 unfold storeA at h;split at h
 ·rename_i l e ho;split at h
  ·rename_i hc;cases h;have hne:l≠[]:=by
    intro e;have h1:=hc.1;have h2:=hc.2.1;rw[e,List.length_nil]at h1;omega
   obtain⟨rw',cur,fz,h1,h2,h3⟩:=hH.obj i _ ho hne;obtain⟨⟨rfl,rfl⟩,hb0,hcl⟩:=h2 rfl;have hcur:(φ i).base+l.length<=cur.size:=by
    obtain⟨y,hy,_⟩:=h3 (l.length - 1) l[l.length - 1] (lA oQ);have:=(mG.1 hy).1;omega
   refine wO ys.toList 0 cur H h1 oQ (hone hc.2.2) (hq _ ?_ sQ);refine hH.set (o:=.cells l e tt) ho Z hne ?_;refine fun _=>⟨tt,_,_,Hp.put_same _ _ _,fun _=>⟨⟨rfl,rfl⟩,hb0,by rw[wM,vH];exact hcl⟩,fun j a ha=>?_⟩;rw[zcr _ _ _ _ hc.1]at ha;rw[Nat.add_zero,uO _ _ _ _ oQ];by_cases hj:off<=j/\j<off+vs.length
   ·rw[if_pos hj]at ha;rw[if_pos oQ];obtain⟨y,hy,hra⟩:=hr.get ha;refine⟨y,?_,hra⟩;rw[mI,show(φ i).base+j - ((φ i).base+off)=j - off by omega];exact hy
   ·rw[if_neg hj]at ha;rw[if_neg oQ];exact h3 j a ha
  ·cases h
 ·rename_i l e size ho;split at h
  ·rename_i hc;cases h;obtain⟨h0,h2,hrow⟩:=hH.obj i _ ho;have hcap:0<(φ i).cap:=by
    rcases mP (φ i).cap with e|e
    ·have Jx:=hc.1;rw[h0 e,List.length_nil]at Jx;have:=hc.2.1;omega
    ·exact e
   obtain⟨cur,h1,h3,h4,h5,h6⟩:=hrow hcap;refine wO ys.toList 0 cur H h1 oQ (hone hc.2.2) (hq _ ?_ sQ);refine hH.set (o:=.row l e size) ho Z hcap ?_;refine⟨fun e=>absurd e oQ,h2,fun _=>⟨_,Hp.put_same _ _ _,by rw[wM];exact h3,h4,by rw[vH,wM];exact h5,fun j a ha=>?_⟩⟩;rw[zcr _ _ _ _ hc.1]at ha;rw[Nat.add_zero,uO _ _ _ _ oQ,h2,mO];by_cases hj:off<=j/\j<off+vs.length
   ·rw[if_pos hj]at ha;rw[if_pos oQ];obtain⟨y,hy,hra⟩:=hr.get ha;refine⟨y,?_,hra⟩;rw[mI];exact hy
   ·rw[if_neg hj]at ha;rw[if_neg oQ];exact h6 j a ha
  ·cases h
 ·cases h
def z7(φ:Nat->Loc3)(A:List AObj)(F:Hp)(r:AV)(A':List AObj)(nx:Next)(H':Hp):Prop :=
 ∃ v φ',(nx=.value v\/(nx=.skip/\v=undef))/\Agr φ φ' A.length/\A.length<=A'.length/\RelH φ' A' F H'/\RelV φ' A'.length r v
section
variable {P:gP}{gm:Nat->Option Nat}{φ:Nat->Loc3}{A A':List AObj}{F H:Hp}{Wq:List AV}{a:Act}{o:gB}{r:AV}
theorem z7.quiet(hH:RelH φ A F H){v:gV}(hv:RelV φ A.length r v):z7 φ A F r A (.value v) H:=⟨v,φ,.inl rfl,Agr.refl _ _,mL _,hH,hv⟩
theorem wx{n i off:Nat}{y:gV}(h:RelV φ n (.ptr i off) y):i<n/\y=.pointer (some ⟨(φ i).blk,(φ i).base+off,none⟩):=by cases h;exact⟨‹_›,rfl⟩
theorem zcP{n i off len:Nat}{y:gV}(h:RelV φ n (.sl i off len) y):i<n/\∃ cap b,len<=cap/\(0<len->b=some ⟨(φ i).blk,(φ i).base+off,none⟩)/\y=.slice b len cap:=by cases h;exact⟨‹_›,_,_,‹_›,‹_›,rfl⟩
theorem zah{n i len:Nat}{y:gV}(h:RelV φ n (.row i len) y):i<n/\len<=(φ i).cap/\rowV (φ i) len y:=by cases h;exact⟨‹_›,‹_›,‹_›⟩
theorem zoB{n:Nat}{y:gV}(h:RelV φ n .z0 y):∃ b,y=.slice (some b) 0 0:=by cases h;exact⟨_,rfl⟩
theorem inv_v{n:Nat}{x y:gV}(h:RelV φ n (.v x) y):y=x:=by cases h;rfl
theorem znh{n:Nat}{l:List AV}{y:gV}(h:RelV φ n (.tup l) y):∃ ys,y=.tuple ys/\zN φ n l ys:=by cases h;exact⟨_,rfl,‹_›,‹_›⟩
theorem zbB{n:Nat}{l:List AV}{y:gV}(h:RelV φ n (.agg l) y):∃ ys,y=.agg ys/\zN φ n l ys:=by cases h;exact⟨_,rfl,‹_›,‹_›⟩
theorem uu{n:Nat}{f:gF}{fs cs:List AV}{y:gV}(h:RelV φ n (.fn f fs cs) y):∃ xs ys,y=.func (.func f) xs ys/\zN φ n fs xs/\zN φ n cs ys:=by cases h;exact⟨_,_,rfl,⟨‹_›,‹_›⟩,‹_›,‹_›⟩
def OpOk(P:gP)(gm:Nat->Option Nat)(Wq:List AV)(A:List AObj)(o:gB)(r:AV)(A':List AObj):Prop :=
 ∀(φ:Nat->Loc3)(F H:Hp)(a:Act),RelG gm φ A.length->RelH φ A F H->zN φ A.length Wq a.tmps->wpS P (execOp a.eval o) H (z7 φ A F r A')
theorem wpS_v{s:Sem gV}{Q:Next->Hp->Prop}(h:wpS P s H (fun v H'=>Q (.value v) H')):wpS P (do pure (Next.value (<- s))) H Q:=zf _ _ _ h
theorem wpS_u{s:Sem Unit}{Q:Next->Hp->Prop}(h:wpS P s H (fun _ H'=>Q .skip H')):wpS P (do s;pure Next.skip) H Q:=zf _ _ _ h
theorem znA{x:gO}(ho:o.op=.move x):OpOk P gm Wq A o (zT gm Wq x) A:=fun φ F H a hg hH hE=>by
 unfold execOp;rw[ho];exact z7.quiet hH (zy hg hE x)
theorem zjQ{x:gO}(ho:o.op=.assign x):OpOk P gm Wq A o (zT gm Wq x) A:=fun φ F H a hg hH hE=>by
 unfold execOp;rw[ho];exact z7.quiet hH (zy hg hE x)
def pickA(t:Bool):AV->AV->AV
 | .v (.bool x),.v (.bool y)=>.v (.bool (bif t then x else y))
 | .v x,.v y=>.v (bif t then x else y)
 | x,y=>bif t then x else y
theorem zjV{n:Nat}{t:Bool}{x y:AV}{u v:gV}(hx:RelV φ n x u)(hy:RelV φ n y v):RelV φ n (pickA t x y) (if t then u else v):=by
 unfold pickA;split
 ·cases hx;cases hy;cases t <;> exact .v _
 ·cases hx;cases hy;cases t <;> exact .v _
 ·cases t
  ·exact hy
  ·exact hx
theorem znB{c x y:gO}{t:Bool}(ho:o.op=.pick c x y)(hc:zT gm Wq c=.v (.bool t)):OpOk P gm Wq A o (pickA t (zT gm Wq x) (zT gm Wq y)) A:=fun φ F H a hg hH hE=>by
 unfold execOp;rw[ho];have h1:=zy hg hE c;rw[hc]at h1;simp only[inv_v h1];exact z7.quiet hH (zjV (zy hg hE x) (zy hg hE y))
theorem wu{op:BinOp}{t yt:gT}{x y:gO}{u v z:gV}(ho:o.op=.binOp op t x y yt)(hx:toV (zT gm Wq x)=some u)(hy:toV (zT gm Wq y)=some v)
  (h:zL P (eqGuard op t x y u v >>= fun _=>binOp op t u v)=some z):OpOk P gm Wq A o (.v z) A:=fun φ F H a hg hH hE=>by
 unfold execOp;rw[ho];dsimp only;rw[zao hx (zy hg hE x),zao hy (zy hg hE y)];exact wpS_v (zbl _ h (z7.quiet hH (.v z)))
theorem ok_un{op:UnOp}{t:gT}{x:gO}{u z:gV}(ho:o.op=.unOp op t x)(hx:toV (zT gm Wq x)=some u)(h:zL P (Op.unary op u)=some z):OpOk P gm Wq A o (.v z) A:=fun φ F H a hg hH hE=>by
 unfold execOp;rw[ho];dsimp only;rw[zao hx (zy hg hE x)];exact wpS_v (zbl _ h (z7.quiet hH (.v z)))
theorem zil{s d:gT}{x:gO}{u z:gV}(ho:o.op=.convert s d x)(hx:toV (zT gm Wq x)=some u)(h:zL P (convert s d u)=some z):OpOk P gm Wq A o (.v z) A:=fun φ F H a hg hH hE=>by
 unfold execOp;rw[ho];dsimp only;rw[zao hx (zy hg hE x)];exact wpS_v (zbl _ h (z7.quiet hH (.v z)))
theorem zim{x:gO}{k:Nat}{l:List AV}(ho:o.op=.extract x k)(hx:zT gm Wq x=.tup l)(h:l[k]? =some r):OpOk P gm Wq A o r A:=fun φ F H a hg hH hE=>by
 unfold execOp;rw[ho];have h1:=zy hg hE x;rw[hx]at h1;obtain⟨ys,e,hrel⟩:=znh h1;obtain⟨y,hy,hr⟩:=hrel.get h;dsimp only;simp only[e,Instr.extract,hy];exact z7.quiet hH hr
theorem zfQ{t:gT}{x:gO}{k i off d n:Nat}{g:Bool}(ho:o.op=.fieldAddr t x k)(hx:zT gm Wq x=.ptr i off)(hf:fieldOf P t k=some (d,g,n))(hn:n≠0):OpOk P gm Wq A o (.ptr i (off+d)) A:=fun φ F H a hg hH hE=>by
 unfold execOp;rw[ho];have h1:=zy hg hE x;rw[hx]at h1;obtain⟨fs,f,e1,e2,e3,e4⟩:=vl hf;obtain⟨ti,td,e5,_,_,e6⟩:=yL e4;obtain⟨hi,e⟩:=wx h1;dsimp only;rw[e];refine wpS_v ?_;unfold Instr.fieldAt;refine zf _ _ _ (zB e1 ?_);simp only[e2];refine zf _ _ _ ?_;refine zf _ _ _ ?_;unfold fieldPlace;refine zf _ _ _ (yy e5 ?_);rw[e6,if_neg hn];show z7 φ A F (.ptr i (off+d)) A (.value (.pointer (some (Addr.add _ f.offset)))) H;rw[kn,e3,Nat.add_assoc];exact z7.quiet hH (.ptr hi)
theorem znz{t:gT}{x:gO}{i off n:Nat}{l:List AV}(ho:o.op=.load t x)(hx:zT gm Wq x=.ptr i off)(ht:tySize P t=some (tt,n))(hl:loadA A i off n=some l):OpOk P gm Wq A o (.agg l) A:=fun φ F H a hg hH hE=>by
 unfold execOp;rw[ho];have h1:=zy hg hE x;rw[hx]at h1;obtain⟨ti,td,e5,e7,e8,e6⟩:=yL ht;obtain⟨_,rw',cur,e,fz,ys,hb,hn,hr,hc⟩:=vP hH hl;obtain⟨hi,ez⟩:=wx h1;dsimp only;rw[ez]
 ·refine wpS_v ?_;unfold Instr.loadAt;show wpS P (loadVar t _) H _;unfold loadVar;refine zf _ _ _ (vW e7 ?_);rw[e8,if_pos rfl];refine zf _ _ _ (yy e5 ?_);rw[e6,<- hn];refine zf _ _ _ (wV hb ys hc ?_);exact z7.quiet hH (.agg hr.1 hr.2)
theorem zlZ{t:gT}{x:gO}{i off n:Nat}(ho:o.op=.load t x)(hx:zT gm Wq x=.ptr i off)(ht:tySize P t=some (ff,n))(hl:loadA A i off 1=some [r]):OpOk P gm Wq A o r A:=fun φ F H a hg hH hE=>by
 unfold execOp;rw[ho];have h1:=zy hg hE x;rw[hx]at h1;obtain⟨ti,td,e5,e7,e8,e6⟩:=yL ht;obtain⟨_,rw',cur,e,fz,ys,hb,hn,hr,hc⟩:=vP hH hl;obtain⟨hi,ez⟩:=wx h1;dsimp only;rw[ez]
 ·refine wpS_v ?_;unfold Instr.loadAt;show wpS P (loadVar t _) H _;unfold loadVar;refine zf _ _ _ (vW e7 ?_);rw[e8,if_neg sQ];obtain⟨y,rfl⟩:∃ y,ys=[y]:=by
   cases ys with
   | nil=>simp at hn
   | cons y ys=>cases ys with
    | nil=>exact⟨y,rfl⟩
    | cons z zs=>simp at hn
  exact⟨rw',cur,e,fz,y,hb,rfl,hc 0 y rfl,z7.quiet hH (hr.2 0 r y rfl rfl)⟩
theorem zl0{t:gT}{x y:gO}{i off n:Nat}{g:Bool}{vs:List AV}(ho:o.op=.store t x y)(hx:zT gm Wq x=.ptr i off)(ht:tySize P t=some (g,n))(hy:cellsA (zT gm Wq y)=some vs)(hn:vs.length=n)(hs:storeA A i off vs=some A') :
  OpOk P gm Wq A o .any A':=fun φ F H a hg hH hE=>by
 unfold execOp;rw[ho];have h1:=zy hg hE x;rw[hx]at h1;obtain⟨ti,td,e5,e7,e8,e6⟩:=yL ht;have hr:=zat hy (zy hg hE y);obtain⟨hi,ez⟩:=wx h1;dsimp only;rw[ez]
 ·refine wpS_u ?_;unfold Instr.storeAt;show wpS P (storeVar t _ (a.eval y)) H _;unfold storeVar;refine zf _ _ _ (yy e5 ?_);rw[if_neg (by rw[e6,<- hn,<- hr.1];simp)];show wpS P (storeCells _ (a.eval y).cells.toList) H _;refine zeH hH hs hr fun H' hH' Wb=>⟨undef,φ,.inr ⟨rfl,rfl⟩,Agr.refl _ _,oQ,hH',.any _⟩
theorem zjR{s:Sem gV}(l:List AV)(t:gT)(hs:∀(φ:Nat->Loc3)(F H:Hp)(a:Act),RelG gm φ A.length->RelH φ A F H->zN φ A.length Wq a.tmps->∃ ys:Array gV,zN φ A.length l ys/\∀ Q:Next->Hp->Prop,(wpS P (newRow t ys) H (fun x H'=>Q (.value (.pointer (some x))) H'))->wpS P (execOp a.eval o) H Q) :
  OpOk P gm Wq A o (.ptr A.length 0) (A++[.cells l t tt]):=fun φ F H a hg hH hE=>by
 obtain⟨ys,hr,hq⟩:=hs φ F H a hg hH hE;refine hq _ ?_;unfold newRow;refine zf _ _ _ fun b hb=>?_;show z7 φ A F (.ptr A.length 0) (A++[.cells l t tt]) (.value (.pointer (some ⟨b,0,none⟩))) (H.put b (tt,.cells ys t (0,0)));refine⟨_,yc φ A.length ⟨b,0,0⟩,.inl rfl,yn _ _ _,by simp,hH.push hb Z ?_,?_⟩
 ·refine fun _=>⟨tt,ys,_,Hp.put_same _ _ _,fun _=>⟨⟨rfl,rfl⟩,by simp[yc],hr.1.symm⟩,fun j u hu=>?_⟩;obtain⟨y,hy,hr'⟩:=hr.get hu;exact⟨y,by rw[mO];exact hy,hr'.mono (yn _ _ _) oQ⟩
 ·have:=RelV.ptr (φ:=yc φ A.length ⟨b,0,0⟩) (n:=(A++[AObj.cells l t tt]).length) (i:=A.length) (off:=0) sQ;simpa[yc]using this
theorem zlU{t:gT}{z:List gV}(ho:o.op=.alloc t)(hz:tyZero P t=some z):OpOk P gm Wq A o (.ptr A.length 0) (A++[.cells (z.map .v) t tt]):=by
 obtain⟨i,zv,e1,e2,e3⟩:=wS hz;refine zjR (s:=pure undef) _ t fun φ F H a hg hH hE=>⟨zv.cells,?_,fun Q hq=>?_⟩
 ·rw[<- e3];exact zbG φ _ _
 ·unfold execOp;rw[ho];refine wpS_v ?_;unfold Instr.alloc;refine zf _ _ _ (kD e1 e2 ?_);exact zf _ _ _ hq
theorem zo8{t:gT}{x:gO}{l:List AV}(ho:o.op=.box t x)(hx:cellsA (zT gm Wq x)=some l):OpOk P gm Wq A o (.ptr A.length 0) (A++[.cells l t tt]):=by
 refine zjR (s:=pure undef) _ t fun φ F H a hg hH hE=>⟨(a.eval x).cells,zat hx (zy hg hE x),fun Q hq=>?_⟩;unfold execOp;rw[ho];refine wpS_v ?_;unfold Instr.box;exact zf _ _ _ hq
theorem zgN{f:gF}{fs cs:Array gO}(ho:o.op=.makeFunc (.func f) fs cs):OpOk P gm Wq A o (.fn f (fs.toList.map (zT gm Wq)) (cs.toList.map (zT gm Wq))) A:=fun φ F H a hg hH hE=>by
 unfold execOp;rw[ho];have h1:=wG hg hE fs;have h2:=wG hg hE cs;exact z7.quiet hH (.fn h1.1 h1.2 h2.1 h2.2)
theorem zgM{t e:gT}{x y:gO}{k:gJ}{n:Int}{i off len size:Nat}(ho:o.op=.indexAddr t x y)(hx:zT gm Wq x=.sl i off len)(hy:zT gm Wq y=.v (.int k n))(ht:slElem P t=some (e,size))(h0:0<=n)(h1:n<len) :
  OpOk P gm Wq A o (.ptr i (off+n.toNat*size)) A:=fun φ F H a hg hH hE=>by
 unfold execOp;rw[ho];have hx':=zy hg hE x;have hy':=zy hg hE y;rw[hx]at hx';rw[hy]at hy';obtain⟨ti,e1,e2,e3⟩:=wR ht;obtain⟨hi,cap,b,hl,hb,ez⟩:=zcP hx';obtain rfl:=hb oQ;dsimp only;rw[inv_v hy',ez]
 ·refine wpS_v ?_;unfold Instr.indexAt;refine zf _ _ _ ?_;refine zf _ _ _ (zB e1 ?_);refine zf _ _ _ ?_;refine zf _ _ _ (zB e1 ?_);simp only[Bool.and_false];rw[if_pos ⟨h0,h1⟩];refine zf _ _ _ (yy e2 ?_);show z7 φ A F _ A (.value (.pointer (some (Addr.add _ (n.toNat*ti.size))))) H;rw[kn,e3,Nat.add_assoc];exact z7.quiet hH (.ptr hi)
end
section
variable {P:gP}{gm:Nat->Option Nat}{φ:Nat->Loc3}{A A':List AObj}{F H:Hp}{Wq:List AV}{a:Act}{o:gB}{r:AV}
theorem zfS{t e:gT}{x y:gO}{k:gJ}{n:Int}{i len size:Nat}(ho:o.op=.indexAddr t x y)(hx:zT gm Wq x=.row i len)(hy:zT gm Wq y=.v (.int k n))(ht:slElem P t=some (e,size))(h0:0<=n)(h1:n<len)
  {l:List AV} {e':gT} {s':Nat} (hrow:A[i]? =some (.row l e' s')):OpOk P gm Wq A o (.ptr i (n.toNat*size)) A:=fun φ F H a hg hH hE=>by
 unfold execOp;rw[ho];have hx':=zy hg hE x;have hy':=zy hg hE y;rw[hx]at hx';rw[hy]at hy';obtain⟨ti,e1,e2,e3⟩:=wR ht;obtain⟨hi,hl,ez⟩:=zah hx';obtain⟨_,hbase,_⟩:=hH.obj i _ hrow
 replace ez:=zaP oQ ez
 dsimp only;rw[inv_v hy',ez];refine wpS_v ?_;unfold Instr.indexAt;refine zf _ _ _ ?_;refine zf _ _ _ (zB e1 ?_);refine zf _ _ _ ?_;refine zf _ _ _ (zB e1 ?_);simp only[Bool.and_false];rw[if_pos ⟨h0,h1⟩];refine zf _ _ _ (yy e2 ?_);show z7 φ A F _ A (.value (.pointer (some (Addr.add _ (n.toNat*ti.size))))) H;rw[kn,e3,mO];have:=RelV.ptr (φ:=φ) (n:=A.length) (off:=n.toNat*size) hi;rw[hbase,mO]at this;exact z7.quiet hH this
theorem zfR{t e:gT}{x y:gO}{k:gJ}{n:Int}{i off len size:Nat}{g:Bool}(ho:o.op=.indexAddr t x y)(hx:zT gm Wq x=.ptr i off)(hy:zT gm Wq y=.v (.int k n))(ht:arrElem P t=some (len,e,g,size))(h0:0<=n)(h1:n<len) :
  OpOk P gm Wq A o (.ptr i (off+n.toNat*size)) A:=fun φ F H a hg hH hE=>by
 unfold execOp;rw[ho];have hx':=zy hg hE x;have hy':=zy hg hE y;rw[hx]at hx';rw[hy]at hy';obtain⟨e1,e2⟩:=uk ht;obtain⟨ti,td,e5,_,_,e6⟩:=yL e2;obtain⟨hi,ez⟩:=wx hx';dsimp only;rw[inv_v hy',ez];refine wpS_v ?_;unfold Instr.indexAt;refine zf _ _ _ ?_;refine zf _ _ _ (zB e1 ?_);refine zf _ _ _ ?_;refine zf _ _ _ ?_;refine zf _ _ _ (zB e1 ?_);dsimp only;rw[if_pos ⟨h0,h1⟩];refine zf _ _ _ (yy e5 ?_);show z7 φ A F _ A (.value (.pointer (some (Addr.add _ (n.toNat*ti.size))))) H;rw[kn,e6,Nat.add_assoc];exact z7.quiet hH (.ptr hi)
def partA(g:Bool)(l:List AV)(off n:Nat):Option AV:=if g then(if off+n<=l.length then some (.agg ((l.drop off).take n))else none)else l[off]?
theorem zgv{t:gT}{g:Bool}{n off:Nat}{l:List AV}{ys:Array gV}(ht:tySize P t=some (g,n))(hr:zN φ A.length l ys)(h:partA g l off n=some r){Q:gV->Hp->Prop}(hq:∀ v,RelV φ A.length r v->Q v H):wpS P (part t ys off) H Q:=by
 obtain⟨ti,td,e5,e7,e8,e6⟩:=yL ht;unfold part;refine zf _ _ _ (vW e7 ?_);rw[e8];unfold partA at h;cases g with
 | true =>
  simp only[if_true]at h ⊢;split at h
  ·rename_i hle;cases h;refine zf _ _ _ (yy e5 ?_);rw[e6];refine hq _ (.agg ?_ fun j u y hu hy=>?_)
   ·have:=hr.1;simp;omega
   ·rw[List.getElem?_take]at hu;split at hu
    ·rename_i hj;rw[List.getElem?_drop]at hu;rw[Array.getElem?_extract]at hy;split at hy
     ·exact hr.2 _ u y hu hy
     ·cases hy
    ·cases hu
  ·cases h
 | false =>
  simp only[mU,if_false]at h ⊢;obtain⟨y,hy,hr'⟩:=hr.get h;rw[hy];exact hq y hr'
theorem zlX{t:gT}{x:gO}{k off n:Nat}{g:Bool}{l:List AV}(ho:o.op=.field t x k)(hx:zT gm Wq x=.agg l)(hf:fieldOf P t k=some (off,g,n))(h:partA g l off n=some r):OpOk P gm Wq A o r A:=fun φ F H a hg hH hE=>by
 unfold execOp;rw[ho];have hx':=zy hg hE x;rw[hx]at hx';obtain⟨ys,e,hr⟩:=zbB hx';obtain⟨fs,f,e1,e2,e3,e4⟩:=vl hf;dsimp only;rw[e];refine wpS_v ?_;unfold Instr.field;refine zf _ _ _ (zB e1 ?_);simp only[e2];refine zf _ _ _ ?_;show wpS P (part f.type ys f.offset) H _;rw[e3];exact zgv e4 hr h fun v hv=>z7.quiet hH hv
theorem zlY{t e:gT}{x y:gO}{k:gJ}{n:Int}{len size:Nat}{g:Bool}{l:List AV}(ho:o.op=.index t x y)(hx:zT gm Wq x=.agg l)(hy:zT gm Wq y=.v (.int k n))(ht:arrElem P t=some (len,e,g,size))(h0:0<=n)(h1:n<len)
  (h:partA g l (n.toNat*size) size=some r):OpOk P gm Wq A o r A:=fun φ F H a hg hH hE=>by
 unfold execOp;rw[ho];have hx':=zy hg hE x;have hy':=zy hg hE y;rw[hx]at hx';rw[hy]at hy';obtain⟨ys,ez,hr⟩:=zbB hx';obtain⟨e1,e2⟩:=uk ht;obtain⟨ti,td,e5,_,_,e6⟩:=yL e2;dsimp only;rw[inv_v hy',ez];refine wpS_v ?_;unfold Instr.index;refine zf _ _ _ ?_;refine zf _ _ _ (zB e1 ?_);dsimp only;rw[if_pos ⟨h0,h1⟩];refine zf _ _ _ (yy e5 ?_);rw[e6];exact zgv e2 hr h fun v hv=>z7.quiet hH hv
theorem zfT{t:gT}{x y:gO}{k:gJ}{n:Int}{s:ByteArray}{c:UInt8}(ho:o.op=.index t x y)(hx:zT gm Wq x=.v (.string s))(hy:zT gm Wq y=.v (.int k n))(ht:P.underlying t=some .string)(h0:0<=n)(h1:s[n.toNat]? =some c) :
  OpOk P gm Wq A o (.v (.int .u8 c.toNat)) A:=fun φ F H a hg hH hE=>by
 unfold execOp;rw[ho];have hx':=zy hg hE x;have hy':=zy hg hE y;rw[hx]at hx';rw[hy]at hy';dsimp only;rw[inv_v hy',inv_v hx'];refine wpS_v ?_;unfold Instr.index;refine zf _ _ _ ?_;refine zf _ _ _ (zB ht ?_);dsimp only;rw[if_pos h0,h1];exact z7.quiet hH (.v _)
theorem ko{b:Builtin}{args:Array gO}{ts:Array gT}(ho:o.op=.call { callee:=.builtin b,args:=args,argTypes:=ts })(ρ:gO->gV) :
  execOp ρ o=builtin b ts o.type (args.map fun|.const _=>tt|_=>ff) (args.map ρ):=by
 unfold execOp;rw[ho];rfl
def lenA:AV->Option Nat
 | .sl _ _ n=>some n
 | .row _ n=>some n
 | .v (.slice _ n _)=>some n
 | .e0=>some 0
 | .z0=>some 0
 | _=>none
theorem zfG{n:Nat}{x:AV}{k:Nat}{y:gV}(h:lenA x=some k)(hr:RelV φ n x y):∃ b c,y=.slice b k c:=by
 cases hr with
 | sl hi hl hb=>cases h;exact⟨_,_,rfl⟩
 | row hi hl hv=>cases h;exact zcn hl hv
 | v=>cases y <;> first|(cases h;exact⟨_,_,rfl⟩)|cases h
 | e0 a c=>cases h;exact⟨_,_,rfl⟩
 | z0 a=>cases h;exact⟨_,_,rfl⟩
 | _=>cases h
theorem zo9{x:gO}{t e:gT}{n:Nat}(ho:o.op=.call { callee:=.builtin .len,args:=#[x],argTypes:=#[t] })(hx:lenA (zT gm Wq x)=some n)(ht:P.underlying t=some (.slice e)):OpOk P gm Wq A o (.v (.int .i64 n)) A:=fun φ F H a hg hH hE=>by
 rw[ko ho];obtain⟨b,c,e1⟩:=zfG hx (zy hg hE x);simp only[builtin,List.map_toArray,List.map_cons,List.map_nil,e1];refine wpS_v ?_;show wpS P (underlying t >>= _) H _;refine zf _ _ _ (zB ht ?_);exact z7.quiet hH (.v _)
theorem zin{x:gO}{t:gT}{s:ByteArray}(ho:o.op=.call { callee:=.builtin .len,args:=#[x],argTypes:=#[t] })(hx:zT gm Wq x=.v (.string s))(ht:P.underlying t=some .string):OpOk P gm Wq A o (.v (.int .i64 s.size)) A:=fun φ F H a hg hH hE=>by
 rw[ko ho];have e1:=zy hg hE x;rw[hx]at e1;simp only[builtin,List.map_toArray,List.map_cons,List.map_nil,inv_v e1];refine wpS_v ?_;show wpS P (underlying t >>= _) H _;refine zf _ _ _ (zB ht ?_);exact z7.quiet hH (.v _)
theorem zpb{x y:gO}{t u:gT}{k k':gJ}{m n:Int}(ho:o.op=.call { callee:=.builtin .min,args:=#[x,y],argTypes:=#[t,u] })(hx:zT gm Wq x=.v (.int k m))(hy:zT gm Wq y=.v (.int k' n)):OpOk P gm Wq A o (.v (.int k (if n<m then n else m))) A:=fun φ F H a hg hH hE=>by
 rw[ko ho];have e1:=zy hg hE x;have e2:=zy hg hE y;rw[hx]at e1;rw[hy]at e2;simp only[builtin,List.map_toArray,List.map_cons,List.map_nil,inv_v e1,inv_v e2];refine wpS_v ?_;exact z7.quiet hH (.v _)
theorem zpa{x y:gO}{t u:gT}{k k':gJ}{m n:Int}(ho:o.op=.call { callee:=.builtin .max,args:=#[x,y],argTypes:=#[t,u] })(hx:zT gm Wq x=.v (.int k m))(hy:zT gm Wq y=.v (.int k' n)):OpOk P gm Wq A o (.v (.int k (if m<n then n else m))) A:=fun φ F H a hg hH hE=>by
 rw[ko ho];have e1:=zy hg hE x;have e2:=zy hg hE y;rw[hx]at e1;rw[hy]at e2;simp only[builtin,List.map_toArray,List.map_cons,List.map_nil,inv_v e1,inv_v e2];refine wpS_v ?_;exact z7.quiet hH (.v _)
def bndA(x:Option AV)(dflt:Nat):Option Nat:=match x with
 | none=>some dflt
 | some (.v (.int _ n))=>if 0<=n then some n.toNat else none
 | _=>none
theorem vB{k:gJ}{n:Int}{y:Nat}{c:BoundsCode}(h0:0<=n)(h1:n<=(y:Int)){Q:Nat->Hp->Prop}(hq:Q n.toNat H):wpS P (Instr.sliceBound (.int k n) y c) H Q:=by
 unfold Instr.sliceBound;refine zf _ _ _ ?_;show wpS P (if 0<=n/\n<=(y:Int)then pure n.toNat else _) H _;rw[if_pos ⟨h0,h1⟩];exact hq
theorem zb5{x:AV}{d q:Nat}(hx:bndA (some x) d=some q):∃ k n,x=.v (.int k n)/\0<=n/\q=n.toNat:=by
 unfold bndA at hx;split at hx
 ·rename_i e;cases e
 ·rename_i k n e;cases e;split at hx
  ·rename_i h0;cases hx;exact⟨_,_,rfl,h0,rfl⟩
  ·cases hx
 ·cases hx
theorem vt{n0:Nat}{b:Bool}{len cap l h:Nat}{low high:Option AV}{low' high':Option gV}(hr1:∀ x,low=some x->∃ y,low'=some y/\RelV φ n0 x y)(hr2:∀ x,high=some x->∃ y,high'=some y/\RelV φ n0 x y)
  (hn1:low=none->low'=none) (hn2:high=none->high'=none) (hl:bndA low 0=some l) (hh:bndA high len=some h) (h1:l<=h) (h2:h<=cap) {Q:Nat×Nat×Nat->Hp->Prop} (hq:Q (l,h,cap) H) :
  wpS P (Instr.sliceBounds b len cap low' high' none) H Q:=by
 unfold Instr.sliceBounds;refine zf _ _ _ ?_;simp only[kN];cases high with
 | none =>
  rw[hn2 rfl];obtain rfl:len=h:=by simpa[bndA]using hh
  dsimp only;refine zf _ _ _ ?_;simp only[kN];cases low with
  | none =>
   rw[hn1 rfl];obtain rfl:0=l:=by simpa[bndA]using hl
   exact hq
  | some x =>
   obtain⟨y,rfl,hr⟩:=hr1 x rfl;obtain⟨k,n,rfl,h0,rfl⟩:=zb5 hl;rw[inv_v hr];dsimp only;exact zf _ _ _ (vB (y:=len) h0 oQ hq)
 | some z =>
  obtain⟨y',rfl,hr'⟩:=hr2 z rfl;obtain⟨k',n',rfl,h0',rfl⟩:=zb5 hh;rw[inv_v hr'];dsimp only;refine zf _ _ _ (vB (y:=cap) h0' oQ ?_);cases low with
  | none =>
   rw[hn1 rfl];obtain rfl:0=l:=by simpa[bndA]using hl
   exact hq
  | some x =>
   obtain⟨y,rfl,hr⟩:=hr1 x rfl;obtain⟨k,n,rfl,h0,rfl⟩:=zb5 hl;rw[inv_v hr];dsimp only;exact zf _ _ _ (vB (y:=n'.toNat) h0 oQ hq)
def subA(i off size l h:Nat):AV:=.sl i (off+l*size) (h - l)
theorem zcv{i off size l h cap n:Nat}(hi:i<n)(h1:l<=h)(h2:h<=cap){b:Option Addr}(hb:0<cap->b=some ⟨(φ i).blk,(φ i).base+off,none⟩):RelV φ n (subA i off size l h) (.slice (if cap=l then b else Option.map (fun x:Addr=>x.add (l*size)) b) (h - l) (cap - l)):=by
 refine .sl hi oQ fun Qx=>?_;rw[if_neg oQ,hb oQ,Option.map_some,kn,Nat.add_assoc]
theorem ui{n:Nat}(hg:RelG gm φ n)(hE:zN φ n Wq a.tmps)(x:Option gO):∀ u,x.map (zT gm Wq)=some u->∃ y,x.map a.eval=some y/\RelV φ n u y:=by
 intro u hu;cases x with
 | none=>cases hu
 | some x=>cases hu;exact⟨_,rfl,zy hg hE x⟩
theorem zgO{t e:gT}{x:gO}{lo hi:Option gO}{i off len size l h:Nat}(ho:o.op=.slice t x lo hi none)(hx:zT gm Wq x=.sl i off len)(ht:slElem P t=some (e,size))
  (hlo:bndA (lo.map (zT gm Wq)) 0=some l) (hhi:bndA (hi.map (zT gm Wq)) len=some h) (h1:l<=h) (h2:h<=len):OpOk P gm Wq A o (subA i off size l h) A:=fun φ F H a hg hH hE=>by
 unfold execOp;rw[ho];have hx':=zy hg hE x;rw[hx]at hx';obtain⟨ti,e1,e2,e3⟩:=wR ht;obtain⟨hi',cap,b,hl,hb,ez⟩:=zcP hx';dsimp only;rw[ez];refine wpS_v ?_;unfold Instr.sliceAt;refine zf _ _ _ (zB e1 ?_);dsimp only;unfold Instr.slice;refine zf _ _ _ (zB e1 ?_);dsimp only;refine zf _ _ _ (vt (ui hg hE lo) (ui hg hE hi) (fun e=>by cases lo <;> first|rfl|cases e) (fun e=>by cases hi <;> first|rfl|cases e) hlo hhi h1 oQ ?_);dsimp only;refine zf _ _ _ (yy e2 ?_);rw[e3];rcases mP len with e0|e0
 ·obtain rfl:h=0:=by omega
  obtain rfl:l=0:=by omega
  exact z7.quiet hH (.sl hi' oQ fun Qx=>absurd Qx oQ)
 ·exact z7.quiet hH (zcv hi' h1 oQ fun _=>hb e0)
theorem zfV{t e:gT}{x:gO}{lo hi:Option gO}{i len size l h:Nat}(ho:o.op=.slice t x lo hi none)(hx:zT gm Wq x=.row i len)(ht:slElem P t=some (e,size)){l0:List AV}{e':gT}{s':Nat}(hrow:A[i]? =some (.row l0 e' s'))
  (hlo:bndA (lo.map (zT gm Wq)) 0=some l) (hhi:bndA (hi.map (zT gm Wq)) len=some h) (h1:l<=h) (h2:h<=len):OpOk P gm Wq A o (subA i 0 size l h) A:=fun φ F H a hg hH hE=>by
 unfold execOp;rw[ho];have hx':=zy hg hE x;rw[hx]at hx';obtain⟨ti,e1,e2,e3⟩:=wR ht;obtain⟨hi',hl,ez⟩:=zah hx';obtain⟨_,hbase,_⟩:=hH.obj i _ hrow;dsimp only;obtain⟨base,ez,hb⟩:∃ base,a.eval x=.slice base len (φ i).cap/\RelV φ A.length (subA i 0 size l h) (.slice (if (φ i).cap=l then base else Option.map (fun x:Addr=>x.add (l*size)) base) (h - l) ((φ i).cap - l)):=by
  rcases mP (φ i).cap with e0|e0
  ·unfold rowV at ez;rw[if_pos e0]at ez;obtain⟨b,ez⟩:=ez;obtain rfl:len=0:=by omega
   obtain rfl:h=0:=by omega
   obtain rfl:l=0:=by omega
   refine⟨b,by rw[ez,e0],?_⟩;rw[e0,if_pos rfl];exact .sl hi' oQ fun Qx=>absurd Qx oQ
  ·refine⟨_,zaP e0 ez,?_⟩;refine zcv (φ:=φ) (off:=0) (size:=size) hi' h1 (by omega:h<=(φ i).cap) fun _=>?_;rw[hbase]
 rw[ez];refine wpS_v ?_;unfold Instr.sliceAt;refine zf _ _ _ (zB e1 ?_);dsimp only;unfold Instr.slice;refine zf _ _ _ (zB e1 ?_);dsimp only;refine zf _ _ _ (vt (ui hg hE lo) (ui hg hE hi) (fun e=>by cases lo <;> first|rfl|cases e) (fun e=>by cases hi <;> first|rfl|cases e) hlo hhi h1 oQ ?_);dsimp only;refine zf _ _ _ (yy e2 ?_);rw[e3];exact z7.quiet hH hb
theorem zfU{t e:gT}{x:gO}{lo hi:Option gO}{i off len size l h:Nat}{g:Bool}(ho:o.op=.slice t x lo hi none)(hx:zT gm Wq x=.ptr i off)(ht:arrElem P t=some (len,e,g,size))
  (hlo:bndA (lo.map (zT gm Wq)) 0=some l) (hhi:bndA (hi.map (zT gm Wq)) len=some h) (h1:l<=h) (h2:h<=len):OpOk P gm Wq A o (subA i off size l h) A:=fun φ F H a hg hH hE=>by
 unfold execOp;rw[ho];have hx':=zy hg hE x;rw[hx]at hx';obtain⟨e1,e2⟩:=uk ht;obtain⟨ti,td,e5,_,_,e6⟩:=yL e2;obtain⟨hi',ez⟩:=wx hx';dsimp only;rw[ez];refine wpS_v ?_;unfold Instr.sliceAt;refine zf _ _ _ (zB e1 ?_);dsimp only;refine zf _ _ _ ?_;simp only[Instr.sureAddr,kN];refine zf _ _ _ ?_;refine vt (ui hg hE lo) (ui hg hE hi) (fun e=>by cases lo <;> first|rfl|cases e) (fun e=>by cases hi <;> first|rfl|cases e) hlo hhi h1 oQ ?_;dsimp only;refine zf _ _ _ (yy e5 ?_);rw[e6];have:=zcv (φ:=φ) (off:=off) (size:=size) hi' h1 (by omega:h<=len) (b:=some ⟨(φ i).blk,(φ i).base+off,none⟩) fun _=>rfl;have ee:(if len=l then(some (⟨(φ i).blk,(φ i).base+off,none⟩:Addr))else Option.map (fun x:Addr=>x.add (l*size)) (some ⟨(φ i).blk,(φ i).base+off,none⟩))=some (if len=l then⟨(φ i).blk,(φ i).base+off,none⟩else(⟨(φ i).blk,(φ i).base+off,none⟩:Addr).add (l*size)):=by split <;> rfl
 rw[ee]at this;exact z7.quiet hH this
end
section
variable {P:gP}{gm:Nat->Option Nat}{φ:Nat->Loc3}{A A':List AObj}{F H:Hp}{Wq:List AV}{a:Act}{o:gB}{r:AV}
theorem RelH.move(h:RelH φ A F H){i:Nat}{o o':AObj}(hi:A[i]? =some o)(hx:o.excl=tt)(hs:sol (φ i) o){loc:Loc3}(hloc:loc.blk=(φ i).blk){x:Bool×Obj}
  (ho:RelO (yc φ A.length loc) (A.length+1) loc (H.put loc.blk x) o'):RelH (yc φ A.length loc) (A.set i .gone++[o']) F (H.put loc.blk x):=by
 have Qp:i<A.length:=(lD.1 hi).1;have Wb:(A.set i .gone++[o']).length=A.length+1:=by simp
 have hget:∀(j:Nat) q,(A.set i .gone++[o'])[j]? =some q->(j<A.length/\j≠i/\A[j]? =some q)\/(j<A.length/\q=.gone)\/(j=A.length/\q=o'):=fun j q hj=>by
  rcases mR j A.length with hl|hge
  ·rw[lG (by simpa using hl),lX]at hj;split at hj
   ·rename_i e;exact .inr (.inl ⟨hl,(Option.some.inj hj).symm⟩)
   ·rename_i e;exact .inl ⟨hl,Ne.symm e,hj⟩
  ·rw[lO (by simpa using hge),List.length_set]at hj;have:j - A.length=0:=by
    have:=(lD.1 hj).1;simp at this;omega
   rw[this]at hj;simp at hj;exact .inr (.inr ⟨by omega,hj.symm⟩)
 have hFl:F loc.blk=none:=by rw[hloc];exact h.frx i o hi hx hs
 have hold:∀ j,j<A.length->yc φ A.length loc j=φ j:=fun j hj=>by simp[yc];omega
 have hnew:yc φ A.length loc A.length=loc:=by simp[yc]
 have hne:∀(j:Nat) q,A[j]? =some q->j≠i->q.live=tt->sol (φ j) q->(φ j).blk≠loc.blk:=fun j q hj hji hl hsj=>by
  rw[hloc];exact Ne.symm (h.apart i j o q hi hj (Ne.symm hji) hx hl hs hsj)
 refine⟨fun j q hj=>?_,fun j k q1 q2 hj hk hjk he hl hs1 hs2=>?_,Hp.ext_put h.fr hFl x,fun j q hj he hsj=>?_⟩;rotate_left 2
 ·rcases hget j q hj with⟨hl,_,hj'⟩|⟨_,rfl⟩|⟨rfl,rfl⟩
  ·rw[hold j hl]at hsj ⊢;exact h.frx j q hj' he hsj
  ·cases he
  ·rw[hnew];exact hFl
 ·rw[Wb];rcases hget j q hj with⟨hl,hji,hj'⟩|⟨hl,rfl⟩|⟨rfl,rfl⟩
  ·rw[hold j hl];exact(h.obj j q hj').mono (yn φ _ loc) oQ fun hlv hsj=>Hp.put_other _ _ (hne j q hj' hji hlv hsj)
  ·trivial
  ·rw[hnew];exact ho
 ·rcases hget j q1 hj with⟨hl1,hji,hj'⟩|⟨hl1,rfl⟩|⟨rfl,rfl⟩
  ·rcases hget k q2 hk with⟨hl2,hki,hk'⟩|⟨hl2,rfl⟩|⟨rfl,rfl⟩
   ·rw[hold j hl1]at hs1 ⊢;rw[hold k hl2]at hs2 ⊢;exact h.apart j k q1 q2 hj' hk' hjk he hl hs1 hs2
   ·cases hl
   ·rw[hold j hl1]at hs1 ⊢;rw[hnew];refine hne j q1 hj' hji ?_ hs1;cases q1 <;> first|rfl|(simp[AObj.excl]at he)
  ·cases he
  ·rcases hget k q2 hk with⟨hl2,hki,hk'⟩|⟨hl2,rfl⟩|⟨rfl,_⟩
   ·rw[hold k hl2]at hs2 ⊢;rw[hnew];exact Ne.symm (hne k q2 hk' hki hl hs2)
   ·cases hl
   ·exact absurd rfl hjk
def srcA(A:List AObj)(size:Nat):AV->Option (Nat×List AV)
 | .sl j off m=>if m*size=0 then some (m,[])else(loadA A j off (m*size)).map fun l=>(m,l)
 | .row j m=>if m*size=0 then some (m,[])else match A[j]? with
  | some (.row _ _ _)=>(loadA A j 0 (m*size)).map fun l=>(m,l)
  | _=>none
 | .v (.slice none 0 _)=>some (0,[])
 | .e0=>some (0,[])
 | .z0=>some (0,[])
 | _=>none
theorem zmw{size m:Nat}{x:AV}{l:List AV}{y:gV}(hH:RelH φ A F H)(h:srcA A size x=some (m,l))(hr:RelV φ A.length x y) :
  ∃(b:Option Addr)(cap:Nat)(ys:List gV),y=.slice b m cap/\ys.length=m*size/\l.length=m*size/\zN φ A.length l ys.toArray/\∀ Q:Array gV->Hp->Prop,Q ys.toArray H->wpS P (Builtin.firstCells size m y) H Q:=by
 have hload:∀(j off:Nat)(cap:Nat)(w:Option Addr),j<A.length->w=some ⟨(φ j).blk,(φ j).base+off,none⟩->loadA A j off (m*size)=some l ->
   ∃(b:Option Addr)(cap':Nat)(ys:List gV),Value.slice w m cap=.slice b m cap'/\ys.length=m*size/\l.length=m*size/\zN φ A.length l ys.toArray/\∀ Q:Array gV->Hp->Prop,Q ys.toArray H->wpS P (Builtin.firstCells size m (.slice w m cap)) H Q:=by
  intro j off cap w hj hw hl;obtain⟨Wb,rw',cur,e,fz,ys,h1,h2,h3,h4⟩:=vP hH hl;refine⟨w,cap,ys,rfl,h2,Wb,h3,fun Q hq=>?_⟩;rw[hw];show wpS P (loadCells _ (m*size)) H Q;rw[<- h2];exact wV h1 ys h4 hq
 have hnone:∀(w:Option Addr)(cap:Nat),m*size=0->∃(b:Option Addr)(cap':Nat)(ys:List gV),Value.slice w m cap=.slice b m cap'/\ys.length=m*size/\([]:List AV).length=m*size/\zN φ A.length [] ys.toArray/\∀ Q:Array gV->Hp->Prop,Q ys.toArray H->wpS P (Builtin.firstCells size m (.slice w m cap)) H Q:=by
  intro w cap h00;refine⟨w,cap,[],rfl,by rw[h00];rfl,by rw[h00];rfl,w8 _ _,fun Q hq=>?_⟩;cases w with
  | none=>exact hq
  | some w =>
   show wpS P (loadCells _ (m*size)) H Q;rw[h00];exact hq
 cases hr with
 | @sl j off len cap b hi hl hb =>
  simp only[srcA]at h;split at h
  ·rename_i h00;cases h;exact hnone _ _ h00
  rename_i h00;have Qx:0<len:=by
   rcases mP len with e|e
   ·rw[e,Nat.zero_mul]at h00;exact absurd rfl h00
   ·exact e
  obtain rfl:=hb Qx;cases e:loadA A j off (len*size)with
  | none=>rw[e]at h;cases h
  | some l' =>
   rw[e]at h;cases h;exact hload j off cap _ hi rfl e
 | @row j len y hi hl hv =>
  simp only[srcA]at h;split at h
  ·rename_i h00;cases h;obtain⟨b,c,rfl⟩:=zcn hl hv;exact hnone _ _ h00
  rename_i h00;have Qx:0<len:=by
   rcases mP len with e|e
   ·rw[e,Nat.zero_mul]at h00;exact absurd rfl h00
   ·exact e
  obtain rfl:=zaP oQ hv;split at h
  ·rename_i l0 e0 s0 hrow;obtain⟨_,hbase,_⟩:=hH.obj j _ hrow;cases e:loadA A j 0 (len*size)with
   | none=>rw[e]at h;cases h
   | some l' =>
    rw[e]at h;cases h;exact hload j 0 _ _ hi (by rw[hbase]) e
  ·cases h
 | v =>
  cases y with
  | slice b len cap =>
   cases b with
   | none =>
    cases len with
    | zero =>
     cases h;exact⟨none,cap,[],rfl,by simp,by simp,w8 _ _,fun Q hq=>hq⟩
    | succ len=>cases h
   | some b=>cases h
  | _=>cases h
 | e0 b cap =>
  cases h;exact hnone b cap (Nat.zero_mul _)
 | z0 b =>
  cases h;refine⟨some b,0,[],rfl,by simp,by simp,w8 _ _,fun Q hq=>?_⟩;show wpS P (loadCells _ (0*size)) H Q;rw[Nat.zero_mul];exact hq
 | _=>cases h
theorem zcl{n:Nat}{φ:Nat->Loc3}{l:List AV}{e:gT}{size:Nat}{loc:Loc3}{H:Hp}{cur:Array gV}(hH:H loc.blk=some (tt,.cells cur e (0,0)))(hb:loc.base=0)(hs:cur.size=loc.cap*size)(hc:loc.cap<=maxLen){ys:List gV}
  (hr:zN φ n l ys.toArray) (hget:∀(j:Nat) y,ys[j]? =some y->cur[j]? =some y) (hle:ys.length<=cur.size):RelO φ n loc H (.row l e size):=by
 refine⟨fun e=>?_,hb,fun _=>⟨cur,hH,hs,hc,?_,fun j u hu=>?_⟩⟩
 ·have:=hr.1;rw[e,Nat.zero_mul]at hs;simp at this;exact List.eq_nil_of_length_eq_zero oQ
 ·have:=hr.1;simp at this;omega
 ·obtain⟨y,hy,hr'⟩:=hr.get hu;exact⟨y,hget j y (by simpa using hy),hr'⟩
theorem vG{n:Nat}{φ:Nat->Loc3}{l l':List AV}{ys ys':List gV}(h:zN φ n l ys.toArray)(h':zN φ n l' ys'.toArray):zN φ n (l++l') (ys++ys').toArray:=by
 have h1:=h.1;have h2:=h'.1;simp at h1 h2;refine⟨by simp;omega,fun j u y hu hy=>?_⟩;simp only[List.getElem?_toArray]at hy;rcases mR j l.length with Qp|hge
 ·rw[lG Qp]at hu;rw[lG oQ]at hy;exact h.2 j u y hu (by simpa using hy)
 ·rw[lO hge]at hu;rw[lO oQ]at hy;exact h'.2 (j - l.length) u y hu (by simpa[h1]using hy)
theorem zcE{need old:Nat}{e:gT}{n:Nat}(hneed:need<2 ^ 63)(h1:(Question.appendCap need old e).forced=tt->n=0)(h2:(Question.appendCap need old e).forced=ff->∃ t,n=(Question.appendCap need old e).cut t):need<=n/\n<2 ^ 63:=by
 obtain⟨t,rfl⟩:=h2 rfl;simp only[Question.cut];have:=Nat.mod_lt t (show 2 ^ 63 - need>0 by omega);omega
theorem zmC{e:gT}{z:gV}{size:Nat}(hsz:z.cells.size=size){n m:Nat}{olds news:List gV}{lo ln:List AV}(ho:zN φ A.length lo olds.toArray)(hn:zN φ A.length ln news.toArray)
  (hlo:olds.length=n*size) (hln:news.length=m*size) {cap:Nat} (Jz:0<n+m) (Jx:n+m<=cap) (hc2:cap<=maxLen) {A0:List AObj} (hA0:A0.length=A.length) (hH0:RelH φ A0 F H) :
  wpS P (do let Wp:=Builtin.zeroCells z.cells (cap - (n+m));pure (Value.slice (some (<- newRow e (olds.toArray++news.toArray++Wp))) (n+m) cap)) H
   (fun v H'=>z7 φ A F (.row A.length (n+m)) (A0++[.row (lo++ln) e size]) (.value v) H'):=by
 refine zf _ _ _ ?_;refine zf _ _ _ fun b hb=>?_;show z7 φ A F _ _ (.value (.slice (some ⟨b,0,none⟩) (n+m) cap)) (H.put b (tt,.cells _ e (0,0)));have hsize:(olds.toArray++news.toArray++Builtin.zeroCells z.cells (cap - (n+m))).size=cap*size:=by
  simp only[Array.size_append,List.size_toArray,Builtin.zeroCells,Array.size_map,Array.size_range,hsz,hlo,hln];rw[<- Nat.add_mul,<- Nat.add_mul];congr 1;omega
 have hpush:RelH (yc φ A0.length ⟨b,0,cap⟩) (A0++[.row (lo++ln) e size]) F (H.put b (tt,.cells (olds.toArray++news.toArray++Builtin.zeroCells z.cells (cap - (n+m))) e (0,0))):=by
  refine hH0.push hb Z ?_;refine zcl (ys:=olds++news) (Hp.put_same _ _ _) Z hsize hc2 ?_ (fun j y hy=>?_) ?_
  ·rw[hA0];exact(vG ho hn).mono (yn _ _ _) oQ
  ·rw[Array.getElem?_append_left (by have:=(lD.1 hy).1;simp at this ⊢;omega)];have:(olds.toArray++news.toArray)=(olds++news).toArray:=by simp
   rw[this];simpa using hy
  ·rw[hsize];simp only[lF,hlo,hln];rw[<- Nat.add_mul];exact Nat.mul_le_mul_right _ Jx
 rw[hA0]at hpush;refine⟨_,_,.inl rfl,yn _ _ _,by simp;omega,hpush,?_⟩;refine RelV.row (by simp;omega) (by simp[yc];omega) ?_;unfold rowV;simp only[yc,if_true];rw[if_neg oQ]
 trivial
theorem zjP{s x:gO}{t e:gT}{ti:gI}{z:gV}{size bytes n m:Nat}{lo ln:List AV}{A0:List AObj}(ho:o.op=.call { callee:=.builtin .append,args:=#[s,x],argTypes:=#[t,t] })(ht:P.underlying t=some (.slice e))(hi:P.info? e=some ti)(hz:ti.zero=some z)
  (hsz:z.cells.size=size) (hts:ti.size=size) (hby:ti.bytes=bytes) (hs0:0<size)
  (hd:(zT gm Wq s=.v (.slice none 0 0)/\n=0/\lo=[]/\A0=A)\/(zT gm Wq s=.z0/\n=0/\lo=[]/\A0=A)\/∃ i,zT gm Wq s=.row i n/\A[i]? =some (.row lo e size)/\lo.length=n*size/\A0=A.set i .gone)
  (hx:srcA A size (zT gm Wq x)=some (m,ln)) (hm:0<m) (hone:ln.all oneA=tt) (hmax:n+m<=maxLen) (hbytes:(n+m)*bytes<=140737488355328) :
  OpOk P gm Wq A o (.row A.length (n+m)) (A0++[.row (lo++ln) e size]):=fun φ F H a hg hH hE=>by
 rw[ko ho];obtain⟨bx,capx,ys,ex,hys,hln,hrn,hfirst⟩:=zmw hH hx (zy hg hE x);have hs':=zy hg hE s;simp only[builtin,List.map_toArray,List.map_cons,List.map_nil];refine wpS_v ?_;have h63:n+m<2 ^ 63:=by unfold maxLen at hmax;omega
 have hA0:A0.length=A.length:=by rcases hd with⟨_,_,_,h4⟩|⟨_,_,_,h4⟩|⟨i,_,_,_,h4⟩ <;> simp[h4]
 have hH0:RelH φ A0 F H:=by
  rcases hd with⟨_,_,_,h4⟩|⟨_,_,_,h4⟩|⟨i,_,_,_,h4⟩
  ·rw[h4];exact hH
  ·rw[h4];exact hH
  ·rw[h4];exact hH.drop i
 have hgrow:∀(base:Option Addr)(cap:Nat)(olds:List gV),a.eval s=.slice base n cap->cap<n+m->olds.length=n*size->zN φ A.length lo olds.toArray->(∀ Q:Array gV->Hp->Prop,Q olds.toArray H->wpS P (Builtin.firstCells size n (.slice base n cap)) H Q) ->
   wpS P (Builtin.append_ #[t,t] o.type #[a.eval s,a.eval x]) H (fun v H'=>z7 φ A F (.row A.length (n+m)) (A0++[.row (lo++ln) e size]) (.value v) H'):=by
  intro base cap olds es hcap hol hro hfo;rw[es,ex];unfold Builtin.append_;show wpS P (underlying t >>= _) H _;refine zf _ _ _ (zB ht ?_);dsimp only;refine zf _ _ _ (yy hi ?_);refine zf _ _ _ ?_;refine zB (t:=t) ht ?_;dsimp only;refine zf _ _ _ ?_;rw[kN];simp only[mU,if_false,Bool.not_false,if_true];refine zf _ _ _ ?_;show wpS P (if n+m<=cap then _ else _) H _;rw[if_neg oQ];refine zf _ _ _ (kO hi ?_);rw[if_neg (by rintro⟨h1,_⟩;have:IntKind.i64.max=9223372036854775807:=rfl;omega)];refine zf _ _ _ (kO hi ?_);rw[if_neg (by rw[hby];have:=growslice_fits hcap hbytes;omega)];refine zf _ _ _ fun cap' Jx hc2=>?_;obtain⟨hcn,hcm⟩:=zcE h63 Jx hc2;refine zf _ _ _ (kO hi ?_);refine zf _ _ _ ?_;have hroom:∀(b:Nat)(Q:Unit->Hp->Prop),Q () H->wpS P (askRoom b) H Q:=fun b Q hq=>by
   unfold askRoom;split
   ·exact⟨.inl rfl,hq⟩
   ·exact hq
  refine hroom _ _ ?_;refine zf _ _ _ ?_;show wpS P (Builtin.firstCells ti.size n (.slice base n cap)) H _;rw[hts];refine hfo _ ?_;refine zf _ _ _ ?_;show wpS P (Builtin.firstCells size m (.slice bx m capx)) H _;rw[<- ex];refine hfirst _ ?_;refine zf _ _ _ (kD hi hz ?_);exact zmC hsz hro hrn hol hys oQ hcn (by unfold maxLen;omega) hA0 hH0
 rcases hd with⟨e1,rfl,rfl,e4⟩|⟨e1,rfl,rfl,e4⟩|⟨i,e1,hrow,hlo,e4⟩
 ·rw[e1]at hs';have es:=inv_v hs';exact hgrow none 0 [] es oQ sQ (w8 _ _) (fun Q hq=>hq)
 ·rw[e1]at hs';obtain⟨b,es⟩:=zoB hs';refine hgrow (some b) 0 [] es oQ sQ (w8 _ _) (fun Q hq=>?_);show wpS P (loadCells _ (0*size)) H Q;rw[Nat.zero_mul];exact hq
 ·rw[e1]at hs';obtain⟨hilt,hcapi,es⟩:=zah hs';obtain⟨hr0,hbase,hrw⟩:=hH.obj i _ hrow;rcases mP (φ i).cap with ecap|ecap
  ·unfold rowV at es;rw[if_pos ecap]at es;obtain⟨base,es⟩:=es;obtain rfl:n=0:=by omega
   obtain rfl:=hr0 ecap;refine hgrow base 0 [] es oQ sQ (w8 _ _) (fun Q hq=>?_);cases base with
   | none=>exact hq
   | some b =>
    show wpS P (loadCells _ (0*size)) H Q;rw[Nat.zero_mul];exact hq
  replace es:=zaP ecap es
  obtain⟨cur,hb,hcs,hcm,hle,hcells⟩:=hrw ecap;obtain⟨olds,hol,hro,hget⟩:∃ olds:List gV,olds.length=n*size/\zN φ A.length lo olds.toArray/\∀(j:Nat) y,olds[j]? =some y->cur[j]? =some y:=by
   refine⟨(cur.toList.take (n*size)),by simp;omega,⟨by simp;omega,fun j u y hu hy=>?_⟩,fun j y hy=>?_⟩
   ·obtain⟨y',hy',hr⟩:=hcells j u hu;simp only[List.getElem?_toArray,List.getElem?_take,mI]at hy;split at hy
    ·rw[hy']at hy;cases hy;exact hr
    ·cases hy
   ·simp only[List.getElem?_take,mI]at hy;split at hy
    ·exact hy
    ·cases hy
  have hfo:∀ Q:Array gV->Hp->Prop,Q olds.toArray H->wpS P (Builtin.firstCells size n (.slice (some ⟨(φ i).blk,0,none⟩) n (φ i).cap)) H Q:=fun Q hq=>by
   show wpS P (loadCells _ (n*size)) H Q;rw[<- hol];exact wV hb olds (fun j y hy=>by rw[mO];exact hget j y hy) hq
  by_cases hcap:(φ i).cap<n+m
  ·exact hgrow _ _ olds es hcap hol hro hfo
  ·
   rw[es,ex];unfold Builtin.append_;show wpS P (underlying t >>= _) H _;refine zf _ _ _ (zB ht ?_);dsimp only;refine zf _ _ _ (yy hi ?_);refine zf _ _ _ ?_;refine zB (t:=t) ht ?_;dsimp only;refine zf _ _ _ ?_;rw[kN];simp only[mU,if_false,Bool.not_false,if_true];refine zf _ _ _ ?_;show wpS P (if n+m<=(φ i).cap then _ else _) H _;rw[if_pos oQ];refine zf _ _ _ ?_;show wpS P (Builtin.firstCells ti.size m (.slice bx m capx)) H _;rw[hts,<- ex];refine hfirst _ ?_;refine zf _ _ _ ?_;rw[kn];have hfit:n*size+m*size<=cur.size:=by rw[hcs,<- Nat.add_mul];exact Nat.mul_le_mul_right _ oQ
   refine wO ys 0 cur H hb oQ (fun y hy=>?_) ?_
   ·obtain⟨j,hj⟩:=List.mem_iff_getElem?.1 hy;obtain⟨u,hu,hr⟩:=hrn.back (y:=y) (j:=j) (by simpa using hj);exact zfW (List.all_eq_true.1 hone u (lN hu)) hr
   show z7 φ A F _ _ (.value (.slice _ (n+m) (φ i).cap)) _;rw[Nat.add_zero,mO];have hset:∀(j:Nat) y,(olds++ys)[j]? =some y->(setCs cur (n*size) ys)[j]? =some y:=fun j y hy=>by
    rw[uO _ _ _ _ oQ];rcases mR j olds.length with Qp|hge
    ·rw[lG Qp]at hy;rw[if_neg oQ];exact hget j y hy
    ·rw[lO hge]at hy;have:=(lD.1 hy).1;rw[if_pos oQ,<- hol];exact hy
   have hmove:=hH.move (o':=.row (lo++ln) e size) (x:=(tt,.cells (setCs cur (n*size) ys) e (0,0))) (loc:=φ i) hrow rfl ecap rfl ?_
   ·rw[e4];refine⟨_,_,.inl rfl,yn _ _ _,by simp,hmove,?_⟩;refine RelV.row sQ (by simp[yc];omega) ?_;unfold rowV;simp only[yc,if_true];rw[if_neg oQ]
    trivial
   ·refine zcl (ys:=olds++ys) (Hp.put_same _ _ _) hbase (by rw[wM];exact hcs) hcm ((vG hro hrn).mono (yn _ _ _) oQ) hset ?_;rw[wM];simp only[lF];omega
end
section
variable {P:gP}{gm:Nat->Option Nat}{φ:Nat->Loc3}{A A':List AObj}{F H:Hp}{Wq:List AV}{a:Act}{o:gB}{r:AV}
theorem zdI{α β:Type}(f:α->β)(s:Sem α)(Q:β->Hp->Prop)(h:wpS P s H (fun a H'=>Q (f a) H')):wpS P (f <$> s) H Q:=kf s (fun a=>pure (f a)) H Q h
theorem zaZ{α β:Type}{f:α->Sem β}{g:α->β}:∀(l:List α),(∀ x∈l,∀(Q:β->Hp->Prop),Q (g x) H->wpS P (f x) H Q)->∀(Q:List β->Hp->Prop),Q (l.map g) H->wpS P (l.mapM f) H Q
 | [],_,Q,hq=>by rw[List.mapM_nil];exact hq
 | x::l,hf,Q,hq=>by
  rw[List.mapM_cons];refine zf _ _ _ (hf x sQ _ ?_);refine zf _ _ _ (zaZ l (fun y hy=>hf y (by simp[hy])) _ ?_);exact hq
theorem zdH{α β:Type}{f:α->Sem β}{g:α->β}(xs:Array α)(hf:∀ x∈xs.toList,∀(Q:β->Hp->Prop),Q (g x) H->wpS P (f x) H Q)(Q:Array β->Hp->Prop)(hq:Q (xs.map g) H):wpS P (xs.mapM f) H Q:=by
 rw[Array.mapM_eq_mapM_toList];refine zdI _ _ _ (zaZ xs.toList hf _ ?_);have:(xs.toList.map g).toArray=xs.map g:=by
  apply Array.ext';simp
 rw[this];exact hq
def plcOf(P:gP):List Field->Option (List (Nat×Nat))
 | []=>some []
 | f::fs=>match tySize P f.type,plcOf P fs with
  | some (_,n),some l=>some ((f.offset,n)::l)
  | _,_=>none
def bldOf(P:gP)(t:gT):Option (List (Nat×Nat)) :=
 match P.underlying t with
 | some (.struct fs)=>plcOf P fs.toList
 | some (.array n e)=>(tySize P e).map fun(_,k)=>(List.range n).map fun i=>(i*k,k)
 | _=>none
def fillA(pl:List (Nat×Nat))(cells:List AV):List (Nat×AV)->Option (List AV)
 | []=>some cells
 | (i,v)::Wp=>match pl[i]? with
  | some (off,size)=>match cellsA v with
   | some vs=>if vs.length=size/\off+size<=cells.length then fillA pl (setL cells off vs) Wp else none
   | none=>none
  | none=>none
theorem zbP(off:Nat):∀(l:List gV)(k:Nat)(cs:Array gV),(l.zipIdx k).foldl (fun cs (c,j)=>cs.setIfInBounds (off+j) c) cs=setCs cs (off+k) l
 | [],_,_=>rfl
 | c::l,k,cs=>by
  rw[List.zipIdx_cons,List.foldl_cons,zbP off l (k+1) _];rfl
theorem foldl_setCs'(off:Nat)(xs:Array gV)(cs:Array gV):xs.zipIdx.foldl (fun cs (c,j)=>cs.setIfInBounds (off+j) c) cs=setCs cs off xs.toList:=by
 rw[<- Array.foldl_toList,Array.toList_zipIdx];exact zbP off xs.toList 0 cs
theorem ziw{n off:Nat}{l vs:List AV}{ys xs:Array gV}(h:zN φ n l ys)(h':zN φ n vs xs)(hle:off+vs.length<=l.length):zN φ n (setL l off vs) (setCs ys off xs.toList):=by
 have e1:=h.1;have e2:xs.toList.length=vs.length:=by rw[Array.length_toList];exact h'.1.symm
 refine⟨by rw[vH,wM];exact e1,fun j u y hu hy=>?_⟩;rw[zcr _ _ _ _ hle]at hu;rw[uO _ _ _ _ oQ]at hy;by_cases hj:off<=j/\j<off+vs.length
 ·rw[if_pos hj]at hu;rw[if_pos oQ,mI]at hy;exact h'.2 _ u y hu hy
 ·rw[if_neg hj]at hu;rw[if_neg oQ]at hy;exact h.2 j u y hu hy
theorem zaw{n:Nat}{pl:List (Nat×Nat)}{place:Nat->Option (Nat×Nat)}(hp:∀(i:Nat) x,pl[i]? =some x->place i=some x)(hE:zN φ n Wq a.tmps)(hg:RelG gm φ n) :
  ∀(ps:List (Nat×gO))(cells:List AV)(ys:Array gV)(l:List AV),zN φ n cells ys->fillA pl cells (ps.map fun(i,x)=>(i,zT gm Wq x))=some l->∃ ys',Instr.fill place ys (ps.map fun(i,x)=>(i,a.eval x))=some ys'/\zN φ n l ys'
 | [],cells,ys,l,hc,h=>by
  simp only[List.map_nil,fillA]at h;cases h;exact⟨ys,rfl,hc⟩
 | (i,x)::ps,cells,ys,l,hc,h=>by
  simp only[List.map_cons,fillA]at h;split at h
  ·rename_i off size hpl;split at h
   ·rename_i vs hvs;split at h
    ·rename_i hle;have hr:=zat hvs (zy hg hE x);have Wb:=hr.1;have hcl:=hc.1;have hset:=ziw hc hr (off:=off) oQ;obtain⟨ys',h1,h2⟩:=zaw hp hE hg ps _ _ l hset h;refine⟨ys',?_,h2⟩;simp only[List.map_cons,Instr.fill,hp i _ hpl];rw[if_neg (by simp;omega),foldl_setCs'];exact h1
    ·cases h
   ·cases h
  ·cases h
theorem zc0:∀(fs:List Field)(pl:List (Nat×Nat)),plcOf P fs=some pl->(∀ f∈fs,∃ i,P.info? f.type=some i)/\pl=fs.map fun f=>(f.offset,((P.info? f.type).map (·.size)).getD 0)
 | [],pl,h=>by cases h;exact⟨fun f hf=>by simp at hf,rfl⟩
 | f::fs,pl,h=>by
  simp only[plcOf]at h;split at h
  ·rename_i g n l h1 h2;cases h;obtain⟨i,d,e1,e2,e3,e4⟩:=yL h1;obtain⟨h3,rfl⟩:=zc0 fs l h2;refine⟨fun f' hf'=>?_,?_⟩
   ·rcases List.mem_cons.1 hf' with rfl|hf'
    ·exact⟨i,e1⟩
    ·exact h3 f' hf'
   ·simp[e1,e4]
  ·cases h
theorem zlV{t:gT}{parts:Array (Nat×gO)}{z:List gV}{pl:List (Nat×Nat)}{l:List AV}(ho:o.op=.build t parts)(hz:tyZero P t=some z)(hp:bldOf P t=some pl)(h:fillA pl (z.map .v) (parts.toList.map fun(i,x)=>(i,zT gm Wq x))=some l) :
  OpOk P gm Wq A o (.agg l) A:=fun φ F H a hg hH hE=>by
 unfold execOp;rw[ho];obtain⟨i,zv,e1,e2,e3⟩:=wS hz;have hzr:zN φ A.length (z.map .v) zv.cells:=by rw[<- e3];exact zbG φ _ _
 have hpl:∀ x:Array (Nat×gV),True:=fun _=>trivial;have eparts:(parts.map fun(i,x)=>(i,a.eval x)).toList=parts.toList.map fun(i,x)=>(i,a.eval x):=by simp
 refine wpS_v ?_;unfold Instr.build;refine zf _ _ _ (kD e1 e2 ?_);unfold bldOf at hp;split at hp
 ·rename_i fs hu;obtain⟨h3,rfl⟩:=zc0 _ _ hp;refine zf _ _ _ (zB hu ?_);dsimp only;refine zf _ _ _ (zdH (g:=fun f:Field=>(f.offset,((P.info? f.type).map (·.size)).getD 0)) fs (fun f hf Q hq=>?_) _ ?_)
  ·obtain⟨ti,hti⟩:=h3 f hf;rw[hti]at hq;exact zf _ _ _ (yy hti hq)
  ·obtain⟨ys',h1,h2⟩:=zaw (place:=fun i=>(fs.map fun f:Field=>(f.offset,((P.info? f.type).map (·.size)).getD 0))[i]?) (fun i x hx=>by
    rw[lQ,mI]at hx;rw[mJ];exact hx) hE hg parts.toList _ _ l hzr h
   rw[eparts];simp only[h1];exact z7.quiet hH (.agg h2.1 h2.2)
 ·rename_i n e hu;cases e4:tySize P e with
  | none=>rw[e4]at hp;cases hp
  | some x =>
   obtain⟨g,k⟩:=x;rw[e4]at hp;cases hp;obtain⟨ti,td,e5,_,_,e6⟩:=yL e4;refine zf _ _ _ (zB hu ?_);dsimp only;refine zf _ _ _ (yy e5 ?_);rw[e6];obtain⟨ys',h1,h2⟩:=zaw (place:=fun i=>some (i*k,k)) (fun i x hx=>by
    rw[lQ]at hx;cases e7:(List.range n)[i]? with
    | none=>rw[e7]at hx;cases hx
    | some q =>
     rw[e7]at hx;have:=lD.1 e7;obtain⟨Qp,e8⟩:=this;simp at e8;subst e8;exact hx) hE hg parts.toList _ _ l hzr h
   rw[eparts];simp only[h1];exact z7.quiet hH (.agg h2.1 h2.2)
 ·cases hp
theorem zeM{t e:gT}{len size:Nat}{parts:Array (Nat×gO)}{z:List gV}{l:List AV}(ho:o.op=.buildSlice t len parts)(ht:slElem P t=some (e,size))(hz:tyZero P e=some z)(Wb:len*size<=16777216)(hmax:len<=16777216)
  (h:fillA ((List.range len).map fun i=>(i*size,size)) (mB (len*size) .any) (parts.toList.map fun(i,x)=>(i,zT gm Wq x))=some l):OpOk P gm Wq A o (.row A.length len) (A++[.row l e size]):=fun φ F H a hg hH hE=>by
 unfold execOp;rw[ho];obtain⟨ti,e1,e2,e3⟩:=wR ht;obtain⟨i,zv,e4,e5,e6⟩:=wS hz;have eparts:(parts.map fun(i,x)=>(i,a.eval x)).toList=parts.toList.map fun(i,x)=>(i,a.eval x):=by simp
 refine wpS_v ?_;unfold Instr.buildSlice;refine zf _ _ _ (zB e1 ?_);dsimp only;refine zf _ _ _ (yy e2 ?_);rw[e3,if_neg oQ];have hend:∀ zero:Array gV,wpS P (do
   let some cells:=Instr.fill (fun i=>some (i*size,size)) ((Array.range (len*size)).map (zero[· % zero.size]!)) (parts.map fun(i,x)=>(i,a.eval x)).toList|stuck "buildSlice: a part of the wrong size"
   pure (Value.slice (some (<- newRow e cells)) len len)) H (fun v H'=>z7 φ A F (.row A.length len) (A++[.row l e size]) (.value v) H'):=fun zero=>by
  have hr0:zN φ A.length (mB (len*size) .any) ((Array.range (len*size)).map (zero[· % zero.size]!)):=by
   refine⟨by simp,fun j u y hu hy=>?_⟩;rw[List.getElem?_replicate]at hu;split at hu
   ·cases hu;exact .any _
   ·cases hu
  obtain⟨ys',h1,h2⟩:=zaw (place:=fun i=>some (i*size,size)) (fun i x hx=>by
   rw[lQ]at hx;cases e7:(List.range len)[i]? with
   | none=>rw[e7]at hx;cases hx
   | some q =>
    rw[e7]at hx;obtain⟨Qp,e8⟩:=lD.1 e7;simp at e8;subst e8;exact hx) hE hg parts.toList _ _ l hr0 h
  have hl:l.length=len*size:=by
   have:∀(ps:List (Nat×AV))(c:List AV) l,fillA ((List.range len).map fun i=>(i*size,size)) c ps=some l->l.length=c.length:=by
    intro ps
    induction ps with
    | nil=>intro c l h;cases h;rfl
    | cons p ps ih =>
     intro c l h;obtain⟨i,v⟩:=p;simp only[fillA]at h;split at h
     ·split at h
      ·split at h
       ·rw[ih _ _ h,vH]
       ·cases h
      ·cases h
     ·cases h
   rw[this _ _ _ h];simp
  rw[eparts];simp only[h1];refine zf _ _ _ ?_;refine zf _ _ _ fun b hb=>?_;show z7 φ A F _ _ (.value (.slice (some ⟨b,0,none⟩) len len)) (H.put b (tt,.cells ys' e (0,0)));refine⟨_,yc φ A.length ⟨b,0,len⟩,.inl rfl,yn _ _ _,by simp,hH.push hb Z ?_,?_⟩
  ·refine zcl (ys:=ys'.toList) (Hp.put_same _ _ _) Z (by rw[<- h2.1,hl]) (by show len<=maxLen;unfold maxLen;omega) ?_ (fun j y hy=>by rw[mI]at hy;exact hy) sQ;have:zN φ A.length l ys'.toList.toArray:=by simpa using h2
   exact this.mono (yn _ _ _) oQ
  ·refine RelV.row sQ (by simp[yc]) ?_;unfold rowV;simp only[yc,if_true];split
   ·rename_i e0;exact⟨_,by rw[e0]⟩
   ·trivial
 split
 ·exact zf _ _ _ (hend #[])
 ·exact zf _ _ _ (kD e4 e5 (zf _ _ _ (hend zv.cells)))
end
def fr(kd:gK)(f:gF)(ro:Option Nat)(ts:Array gV)(ds:List gD)(todo:List Item):gQ:={ fn:=f,tmps:=ts,todo,defers:=ds,mode:=.run,kind:=kd,roundOf:=ro }
def evT(ts:Array gV):gO->gV:=Act.eval ⟨ts,[]⟩
def putT(ts:Array gV)(d:Option Tmp)(v:gV):Array gV:=(Act.put ⟨ts,[]⟩ d v).tmps
theorem zdq(kd:gK)(f:gF)(ro:Option Nat)(ts:Array gV)(ds:List gD)(todo:List Item):(fr kd f ro ts ds todo).eval=evT ts:=by
 funext x;cases x <;> rfl
theorem yZ(kd:gK)(f:gF)(ro:Option Nat)(ts:Array gV)(ds:List gD)(Qy:Array gB)(i:Nat)(Wp:List Nat)(k:List Item)(v:gV):(fr kd f ro ts ds (.inRegion Qy (i::Wp)::k)).finish v=fr kd f ro (putT ts ((Qy[i]?).bind (·.dst)) v) ds (.inRegion Qy Wp::k):=by
 cases h:(Qy[i]?).bind (·.dst) <;> simp[Frame.finish,fr,putT,Act.put,h]
theorem wD{P:gP}{f:gF}{fn:Func}{c:Code}(args:Array gV)(hf:P.funcs[f]? =some fn)(hb:fn.body=some c):Frame.enter P f args .normal=fr .normal f none (args++Array.replicate (fn.ntmps - args.size) undef) [] [.code c]:=by
 simp[Frame.enter,hf,hb,fr]
def yp:Op->Bool|.defer _=>tt|_=>ff
section
variable {P:gP}{main:Bool}{T:gG->Hp->Prop}{kd:gK}{f:gF}{ro:Option Nat}{ts:Array gV}{ds:List gD}{k:List Item}{cs:List gQ}{H:Hp}{w:gW}
theorem zhD:stepG P main (G (fr kd f ro ts ds (.code .skip::k)) cs) w=.go (G (fr kd f ro ts ds k) cs) w #[]:=by simp[G,stepG,stepG.exec,fr]
theorem zdb{id:Nat}:stepG P main (G (fr kd f ro ts ds (.inBlock id::k)) cs) w=.go (G (fr kd f ro ts ds k) cs) w #[]:=by simp[G,stepG,stepG.exec,fr]
theorem zmq{l:Nat}:stepG P main (G (fr kd f ro ts ds (.code (.label l)::k)) cs) w=.go (G (fr kd f ro ts ds k) cs) w #[]:=by simp[G,stepG,stepG.exec,fr]
theorem zkt{x y:Code}:stepG P main (G (fr kd f ro ts ds (.code (.seq x y)::k)) cs) w=.go (G (fr kd f ro ts ds (.code x::.code y::k)) cs) w #[]:=by simp[G,stepG,stepG.exec,fr]
theorem zhA{c:gO}{x y:Code}{t:Bool}(h:evT ts c=.bool t):stepG P main (G (fr kd f ro ts ds (.code (.cond c x y)::k)) cs) w=.go (G (fr kd f ro ts ds (.code (if t then x else y)::k)) cs) w #[]:=by
 have h':(fr kd f ro ts ds (.code (.cond c x y)::k)).eval c=.bool t:=by rw[zdq];exact h
 simp only[fr]at h';simp[G,stepG,stepG.exec,fr,h']
theorem zgh{id:Nat}{c:Code}:stepG P main (G (fr kd f ro ts ds (.code (.block id c)::k)) cs) w=.go (G (fr kd f ro ts ds (.code c::.inBlock id::k)) cs) w #[]:=by simp[G,stepG,stepG.exec,fr]
theorem zhC{c:Code}:stepG P main (G (fr kd f ro ts ds (.code (.loop c)::k)) cs) w=.go (G (fr kd f ro ts ds (.code c::.inLoop c::k)) cs) w #[]:=by simp[G,stepG,stepG.exec,fr]
theorem zev{c:Code}:stepG P main (G (fr kd f ro ts ds (.inLoop c::k)) cs) w=.go (G (fr kd f ro ts ds (.code c::.inLoop c::k)) cs) w #[]:=by simp[G,stepG,stepG.exec,fr]
theorem zhB{id:Nat}{k':List Item}(h:exitTo id k=some k'):stepG P main (G (fr kd f ro ts ds (.code (.exit id)::k)) cs) w=.go (G (fr kd f ro ts ds k') cs) w #[]:=by simp[G,stepG,stepG.exec,fr,h]
theorem zew{id:Nat}{Qy:Array gB}:stepG P main (G (fr kd f ro ts ds (.code (.region id Qy ff)::k)) cs) w=.go (G (fr kd f ro ts ds (.inRegion Qy (List.range Qy.size)::k)) cs) w #[]:=by simp[G,stepG,stepG.exec,fr]
theorem zdE{id:Nat}{Qy:Array gB}:stepG P main (G (fr kd f ro ts ds (.code (.region id Qy tt)::k)) cs) w=.go (G (fr kd f ro ts ds (.inRegion Qy (Region.schedule (P.follows .mixedOrders) Qy (w.tape w.drawn (.order f id)))::k)) cs) { w with drawn:=w.drawn+1 } #[]:=by
 simp[G,stepG,stepG.exec,fr,choose,Sem.run,Question.forced,Question.cut]
theorem wU{Qy:Array gB}:stepG P main (G (fr kd f ro ts ds (.inRegion Qy []::k)) cs) w=.go (G (fr kd f ro ts ds k) cs) w #[]:=by simp[G,stepG,stepG.exec,fr]
theorem vq:stepG P main (G (fr kd f none ts ds (.code .ret::k)) cs) w=.go (G { fr kd f none ts ds (.code .ret::k)with mode:=.returning } cs) w #[]:=by simp[G,stepG,stepG.exec,fr]
theorem wQ:stepG P main (G (fr kd f none ts ds []) cs) w=.go (G { fr kd f none ts ds []with mode:=.returning } cs) w #[]:=by simp[G,stepG,stepG.exec,fr]
theorem uX{Qy:Array gB}{i:Nat}{Wp:List Nat}{o:gB}(ho:Qy[i]? =some o)(hw:Region.wanted o (yielded Qy ts)=ff) :
  stepG P main (G (fr kd f ro ts ds (.inRegion Qy (i::Wp)::k)) cs) w=.go (G (fr kd f ro (putT ts o.dst undef) ds (.inRegion Qy Wp::k)) cs) w #[]:=by
 have Qj:=yZ kd f ro ts ds Qy i Wp k undef;rw[ho]at Qj;simp only[Option.bind_some]at Qj;rw[<- Qj];simp[G,stepG,stepG.exec,fr,ho,hw]
theorem wN(hkd:kd≠.early){Qy:Array gB}{i:Nat}{Wp:List Nat}{o:gB}(ho:Qy[i]? =some o)(hw:Region.wanted o (yielded Qy ts)=tt)(hd:yp o.op=ff) :
  stepG P main (G (fr kd f ro ts ds (.inRegion Qy (i::Wp)::k)) cs) w=stepG.apply P tt (fr kd f ro ts ds (.inRegion Qy (i::Wp)::k)) cs none (execOp (evT ts) o) w:=by
 have he:=zdq kd f ro ts ds (.inRegion Qy (i::Wp)::k);simp only[fr]at he;obtain⟨dst,op,ty,pos,after,guard⟩:=o;cases ro with
 | none=>simp[G,stepG,stepG.exec,stepG.oper,Frame.oper?,fr,ho,hw,he]
 | some l =>
  cases op <;> first|(simp[yp]at hd;done)|simp[G,stepG,stepG.exec,stepG.oper,Frame.oper?,fr,ho,hw,he]
def uponF(P:gP)(T:gG->Hp->Prop)(kd:gK)(f:gF)(ro:Option Nat)(ts:Array gV)(ds:List gD)(k:List Item)(cs:List gQ)(Qy:Array gB)(i:Nat)(Wp:List Nat)(o:gB):Next->Hp->Prop
 | .value v,H=>T (G (fr kd f ro (putT ts o.dst v) ds (.inRegion Qy Wp::k)) cs) H
 | .skip,H=>T (G (fr kd f ro (putT ts o.dst undef) ds (.inRegion Qy Wp::k)) cs) H
 | .enter g args,H=>T (G (Frame.enter P g args .normal) (fr kd f ro ts ds (.inRegion Qy (i::Wp)::k)::cs)) H
 | .round l g us x y,H=>T (G (Frame.round l g us x y .normal) (fr kd f ro ts ds (.inRegion Qy (i::Wp)::k)::cs)) H
 | _,_=>False
theorem zo.opF(hT:zo P main T)(hkd:kd≠.early){Qy:Array gB}{i:Nat}{Wp:List Nat}{o:gB}(ho:Qy[i]? =some o)(hw:Region.wanted o (yielded Qy ts)=tt)(hd:yp o.op=ff)
  (h:wpS P (execOp (evT ts) o) H (uponF P T kd f ro ts ds k cs Qy i Wp o)):T (G (fr kd f ro ts ds (.inRegion Qy (i::Wp)::k)) cs) H:=by
 refine hT _ _ Z fun w hf=>?_;obtain⟨x,w',es,h1,h2,h3⟩:=wg _ _ _ w #[] h hf;rw[mK]at h1;have hrun:(execOp (evT ts) o).run P w=.ok x w':=by
  have:=Sem.runT_eq P (execOp (evT ts) o) w #[];rw[h1]at this;exact(congrArg Prod.fst this).symm
 have hev:(execOp (evT ts) o).events P w #[]=es:=by
  have:=Sem.runT_eq P (execOp (evT ts) o) w #[];rw[h1]at this;exact(congrArg Prod.snd this).symm
 have hS:StepH H w w' (seen P f es):=⟨h2.size,h2.kept,fun e he=>h2.evs e (mem_seen he),h2.os,h2.out,h2.tape⟩;have Qj:=fun v=>yZ kd f ro ts ds Qy i Wp k v;simp only[ho,Option.bind_some]at Qj;cases x with
 | value v=>exact⟨_,_,_,by rw[wN hkd ho hw hd];simp only[stepG.apply,Sem.runT_eq,hrun,hev,Qj];simp[fr,GStep.after,hkd];try rfl,hS,rfl,h3⟩
 | skip=>exact⟨_,_,_,by rw[wN hkd ho hw hd];simp only[stepG.apply,Sem.runT_eq,hrun,hev,Qj];simp[fr,GStep.after,hkd];try rfl,hS,rfl,h3⟩
 | enter g args=>exact⟨_,_,_,by rw[wN hkd ho hw hd];simp only[stepG.apply,Sem.runT_eq,hrun,hev];simp[fr,GStep.after,hkd];try rfl,hS,rfl,h3⟩
 | round l g us x y=>exact⟨_,_,_,by rw[wN hkd ho hw hd];simp only[stepG.apply,Sem.runT_eq,hrun,hev];simp[fr,GStep.after,hkd];try rfl,hS,rfl,h3⟩
 | _=>exact h3.elim
theorem zo.ctlF(hT:zo P main T){g g':gG}(hr:g.status=.running)(h:∀ w,stepG P main g w=.go g' w #[])(hr':g'.status=.running)(hn:T g' H):T g H:=hT.ctl hr h hr' hn
theorem zo.drawF(hT:zo P main T){id:Nat}{Qy:Array gB}(h:∀ t,T (G (fr kd f ro ts ds (.inRegion Qy (Region.schedule (P.follows .mixedOrders) Qy t)::k)) cs) H):T (G (fr kd f ro ts ds (.code (.region id Qy tt)::k)) cs) H:=by
 refine hT _ _ Z fun w hf=>⟨_,_,_,zdE,?_,rfl,?_⟩
 ·have:=kr hf (es:=#[]) (fun e he=>by simp at he);exact⟨this.size,this.kept,this.evs,this.os,this.out,this.tape⟩
 ·have hn:H.next w { w with drawn:=w.drawn+1 }=H:=zii hf _;rw[hn];exact h _
theorem zo.leaveF(hT:zo P main T){fn:Func}{c:gQ}(hf:P.funcs[f]? =some fn)(h:wpS P (results fn ts) H fun v H'=>T (G (c.finish v) cs) H'):T (G { fr .normal f ro ts [] k with mode:=.returning } (c::cs)) H:=by
 refine hT _ _ Z fun w hw=>?_;obtain⟨v,w',es,h1,h2,h3⟩:=wg _ _ _ w #[] h hw;rw[mK]at h1;have hS:StepH H w w' (seen P f es):=⟨h2.size,h2.kept,fun e he=>h2.evs e (mem_seen he),h2.os,h2.out,h2.tape⟩;refine⟨_,_,_,?_,hS,rfl,h3⟩;simp only[G,stepG,unwind,doReturn,fr,hf,h1];simp[GStep.after]
end
inductive Leave:Option Code->List Item->Prop
 | fin:Leave none []
 | ret (k:List Item):Leave (some .ret) (.code .ret::k)
 | exit (id:Nat) (k:List Item):exitTo id k=none->Leave (some (.exit id)) (.code (.exit id)::k)
def dsC(φ:Nat->Loc3)(ds:List Nat):List gD:=ds.map fun i=>{ target:=.collected (φ i).blk,args:=#[] }
abbrev nF:Hp:=fun _=>none
structure Cx(P:gP)(gm:Nat->Option Nat)(T:gG->Hp->Prop) where
 main:Bool
 hT:zo P main T
 φ0:Nat->Loc3
 n0:Nat
 F:Hp
 hF0:F=nF
 kd:gK
 hkd:kd≠.early
 f:gF
 ro:Option Nat
 cs:List gQ
 dd:List gD:=[]
 L:Option Code->List Nat->List AV->List AObj->Prop
 hL:∀ j k ds Wq A φ H ts,Leave j k->L j ds Wq A->Agr φ0 φ n0->n0<=A.length->RelG gm φ A.length->(∀ d∈ds,d<A.length)->RelH φ A F H->zN φ A.length Wq ts->T (G (fr kd f ro ts (dsC φ ds++dd) k) cs) H
def TA{P:gP}{gm:Nat->Option Nat}{T:gG->Hp->Prop}(X:Cx P gm T)(ds:List Nat)(k:List Item)(Wq:List AV)(A:List AObj):Prop :=
 ∀(φ:Nat->Loc3)(H:Hp)(ts:Array gV),Agr X.φ0 φ X.n0->X.n0<=A.length->RelG gm φ A.length->(∀ d∈ds,d<A.length)->RelH φ A X.F H->zN φ A.length Wq ts->T (G (fr X.kd X.f X.ro ts (dsC φ ds++X.dd) k) X.cs) H
section
variable {P:gP}{gm:Nat->Option Nat}{T:gG->Hp->Prop}{X:Cx P gm T}{ds:List Nat}{k:List Item}{Wq:List AV}{A:List AObj}
theorem TA.leave{j:Option Code}(hl:Leave j k)(h:X.L j ds Wq A):TA X ds k Wq A:=fun _ _ _ h1 h2 h3 h4 h5 h6=>X.hL j k ds Wq A _ _ _ hl h h1 h2 h3 h4 h5 h6
theorem TA.skip(h:TA X ds k Wq A):TA X ds (.code .skip::k) Wq A:=fun φ H ts h1 h2 h3 h4 h5 h6=>X.hT.ctlF rfl (fun _=>zhD) rfl (h φ H ts h1 h2 h3 h4 h5 h6)
theorem TA.inBlock{id:Nat}(h:TA X ds k Wq A):TA X ds (.inBlock id::k) Wq A:=fun φ H ts h1 h2 h3 h4 h5 h6=>X.hT.ctlF rfl (fun _=>zdb) rfl (h φ H ts h1 h2 h3 h4 h5 h6)
theorem TA.label{l:Nat}(h:TA X ds k Wq A):TA X ds (.code (.label l)::k) Wq A:=fun φ H ts h1 h2 h3 h4 h5 h6=>X.hT.ctlF rfl (fun _=>zmq) rfl (h φ H ts h1 h2 h3 h4 h5 h6)
theorem TA.seq{x y:Code}(h:TA X ds (.code x::.code y::k) Wq A):TA X ds (.code (.seq x y)::k) Wq A:=fun φ H ts h1 h2 h3 h4 h5 h6=>X.hT.ctlF rfl (fun _=>zkt) rfl (h φ H ts h1 h2 h3 h4 h5 h6)
theorem TA.block{id:Nat}{c:Code}(h:TA X ds (.code c::.inBlock id::k) Wq A):TA X ds (.code (.block id c)::k) Wq A:=fun φ H ts h1 h2 h3 h4 h5 h6=>X.hT.ctlF rfl (fun _=>zgh) rfl (h φ H ts h1 h2 h3 h4 h5 h6)
theorem TA.loop{c:Code}(h:TA X ds (.code c::.inLoop c::k) Wq A):TA X ds (.code (.loop c)::k) Wq A:=fun φ H ts h1 h2 h3 h4 h5 h6=>X.hT.ctlF rfl (fun _=>zhC) rfl (h φ H ts h1 h2 h3 h4 h5 h6)
theorem TA.inLoop{c:Code}(h:TA X ds (.code c::.inLoop c::k) Wq A):TA X ds (.inLoop c::k) Wq A:=fun φ H ts h1 h2 h3 h4 h5 h6=>X.hT.ctlF rfl (fun _=>zev) rfl (h φ H ts h1 h2 h3 h4 h5 h6)
theorem TA.exit{id:Nat}{k':List Item}(hk:exitTo id k=some k')(h:TA X ds k' Wq A):TA X ds (.code (.exit id)::k) Wq A:=fun φ H ts h1 h2 h3 h4 h5 h6=>X.hT.ctlF rfl (fun _=>zhB hk) rfl (h φ H ts h1 h2 h3 h4 h5 h6)
theorem TA.region{id:Nat}{Qy:Array gB}(h:TA X ds (.inRegion Qy (List.range Qy.size)::k) Wq A):TA X ds (.code (.region id Qy ff)::k) Wq A:=fun φ H ts h1 h2 h3 h4 h5 h6=>X.hT.ctlF rfl (fun _=>zew) rfl (h φ H ts h1 h2 h3 h4 h5 h6)
theorem TA.draw{id:Nat}{Qy:Array gB}(h:∀ t,TA X ds (.inRegion Qy (Region.schedule (P.follows .mixedOrders) Qy t)::k) Wq A):TA X ds (.code (.region id Qy tt)::k) Wq A:=fun φ H ts h1 h2 h3 h4 h5 h6=>X.hT.drawF fun t=>h t φ H ts h1 h2 h3 h4 h5 h6
theorem TA.regionEnd{Qy:Array gB}(h:TA X ds k Wq A):TA X ds (.inRegion Qy []::k) Wq A:=fun φ H ts h1 h2 h3 h4 h5 h6=>X.hT.ctlF rfl (fun _=>wU) rfl (h φ H ts h1 h2 h3 h4 h5 h6)
theorem TA.cond{c:gO}{x y:Code}(t:Bool)(hc:zT gm Wq c=.v (.bool t))(h:TA X ds (.code (if t then x else y)::k) Wq A):TA X ds (.code (.cond c x y)::k) Wq A:=fun φ H ts h1 h2 h3 h4 h5 h6=>by
 have hr:=zy (a:=⟨ts,[]⟩) h3 h6 c;rw[hc]at hr;exact X.hT.ctlF rfl (fun _=>zhA (inv_v hr)) rfl (h φ H ts h1 h2 h3 h4 h5 h6)
def yieldA(Qy:Array gB)(Wq:List AV)(j:Nat):Option (Option Bool):=match ((Qy[j]?).bind (·.dst)).bind (Wq[·]?)with
 | some (.v (.bool b))=>some (some b)
 | some (.v (.tuple _))=>some none
 | _=>none
def zM(Qy:Array gB)(Wq:List AV)(o:gB):Option Bool:=match o.guard with
 | none=>some tt
 | some (j,want)=>match yieldA Qy Wq j with|some y=>some (y==some want)|none=>none
theorem zO{φ:Nat->Loc3}{n:Nat}{Qy:Array gB}{ts:Array gV}{o:gB}{b:Bool}(hE:zN φ n Wq ts)(h:zM Qy Wq o=some b):Region.wanted o (yielded Qy ts)=b:=by
 unfold zM at h;unfold Region.wanted;split at h
 ·rename_i e;cases h;rw[e]
 ·rename_i j want e;split at h
  ·rename_i y e';cases h;rw[e];simp only;have:yielded Qy ts j=y:=by
    unfold yieldA at e';unfold yielded;cases e3:(Qy[j]?).bind (·.dst)with
    | none=>rw[e3]at e';cases e'
    | some t =>
     rw[e3]at e';simp only[Option.bind_some]at e' ⊢;split at e'
     ·rename_i b'' e'';cases e';obtain⟨y,hy,hr⟩:=hE.get e'';rw[hy,inv_v hr]
     ·rename_i b'' e'';cases e';obtain⟨y,hy,hr⟩:=hE.get e'';rw[hy,inv_v hr]
     ·cases e'
   rw[this]
  ·cases h
theorem TA.op{Qy:Array gB}{i:Nat}{Wp:List Nat}{o:gB}{r:AV}{A':List AObj}(ho:Qy[i]? =some o)(hd:yp o.op=ff)(hw:zM Qy Wq o=some tt)(hok:OpOk P gm Wq A o r A')(h:TA X ds (.inRegion Qy Wp::k) (zV Wq o.dst r) A') :
  TA X ds (.inRegion Qy (i::Wp)::k) Wq A:=fun φ H ts h1 h2 h3 h4 h5 h6=>by
 refine X.hT.opF X.hkd ho (zO h6 hw) hd (zaW _ _ _ _ ?_ (hok φ X.F H ⟨ts,[]⟩ h3 h5 h6));rintro nx H' ⟨v,φ',hnx,hA,Wb,hH',hr⟩;have hE:=yF (a:=⟨ts,[]⟩) (h6.mono hA Wb) hr o.dst;have hds:dsC φ' ds=dsC φ ds:=by
  unfold dsC;refine List.map_congr_left fun d hd'=>?_;rw[hA d (h4 d hd')]
 have:=h φ' H' _ (h1.trans hA h2) oQ (h3.mono hA Wb) (fun d hd'=>mM (h4 d hd') Wb) hH' hE;rw[hds]at this;rcases hnx with rfl|⟨rfl,rfl⟩ <;> exact this
theorem TA.unwanted{Qy:Array gB}{i:Nat}{Wp:List Nat}{o:gB}(ho:Qy[i]? =some o)(hw:zM Qy Wq o=some ff)(h:TA X ds (.inRegion Qy Wp::k) (zV Wq o.dst (.v undef)) A) :
  TA X ds (.inRegion Qy (i::Wp)::k) Wq A:=fun φ H ts h1 h2 h3 h4 h5 h6=>by
 refine X.hT.ctlF Z (fun _=>uX ho (zO h6 hw)) rfl ?_;exact h φ H _ h1 h2 h3 h4 h5 (yF (a:=⟨ts,[]⟩) h6 (.v undef) o.dst)
def CallT(P:gP)(T:gG->Hp->Prop)(gm:Nat->Option Nat)(g:gF)(args:List AV)(A:List AObj)(Post:AV->List AObj->Prop):Prop :=
 ∀(φ:Nat->Loc3)(F H:Hp)(vs:Array gV)(c:gQ)(cs:List gQ),F=nF->RelG gm φ A.length->RelH φ A F H->zN φ A.length args vs ->
  (∀ r A' φ' H' v,Post r A'->Agr φ φ' A.length->A.length<=A'.length->RelH φ' A' F H'->RelV φ' A'.length r v->T (G (c.finish v) cs) H')->T (G (Frame.enter P g vs .normal) (c::cs)) H
theorem CallT.mono{g:gF}{args:List AV}{Post Post':AV->List AObj->Prop}(h:CallT P T gm g args A Post)(hp:∀ r A',Post r A'->Post' r A'):CallT P T gm g args A Post' :=
 fun φ F H vs c cs h0 h1 h2 h3 k=>h φ F H vs c cs h0 h1 h2 h3 fun r A' φ' H' v x=>k r A' φ' H' v (hp r A' x)
def yk(P:gP)(g:gF):Bool:=match P.funcs[g]? with
 | some fn => !(fn.name == "runtime.NumGoroutine")&&fn.body.isSome
 | none=>ff
theorem wK{P:gP}{H:Hp}{g:gF}(hc:yk P g=tt)(args:Array gV){Q:Next->Hp->Prop}(hq:Q (.enter g args) H):wpS P (callFunc g args) H Q:=by
 unfold yk at hc;split at hc
 ·rename_i fn e;simp only[Bool.and_eq_true,Bool.not_eq_true']at hc;show wpS P (match P.funcs[g]? with|none=>_|some fn=>_) H Q;rw[e];simp only[hc.1,mU,if_false];have hb:fn.body.isNone=ff:=by
   cases e':fn.body with
   | none=>rw[e']at hc;simp at hc
   | some _=>rfl
  simp only[hb,mU,if_false];exact hq
 ·cases hc
theorem wZ{φ:Nat->Loc3}{n:Nat}{l l':List AV}{ys ys':Array gV}(h:zN φ n l ys)(h':zN φ n l' ys'):zN φ n (l++l') (ys++ys'):=by
 have:=vG (ys:=ys.toList) (ys':=ys'.toList) (by simpa using h) (by simpa using h');have e:(ys.toList++ys'.toList).toArray=ys++ys':=by
  apply Array.ext';simp
 rwa[e]at this
end
def varA(P:gP)(A:List AObj)(t:gT):AV->Option AV
 | .ptr i off=>match tySize P t with
  | some (tt,n)=>match loadA A i off n with|some l=>some (.agg l)|none=>none
  | some (ff,_)=>match loadA A i off 1 with|some [u]=>some u|_=>none
  | none=>none
 | _=>none
def resA1(P:gP)(Wq:List AV)(A:List AObj):gR->Option AV
 | .tmp t=>some (Wq.getD t .any)
 | .cell a t=>varA P A t (Wq.getD a .any)
def resAs(P:gP)(Wq:List AV)(A:List AObj):List gR->Option (List AV)
 | []=>some []
 | v::vs=>match resA1 P Wq A v,resAs P Wq A vs with
  | some r,some rs=>some (r::rs)
  | _,_=>none
def resA(P:gP)(rs:List gR)(Wq:List AV)(A:List AObj):Option AV:=match resAs P Wq A rs with
 | some [r]=>some r
 | some rs=>some (.tup rs)
 | none=>none
section
variable {P:gP}{gm:Nat->Option Nat}{φ:Nat->Loc3}{A A':List AObj}{F H:Hp}{Wq:List AV}{ts:Array gV}
theorem zg1{t:gT}{i off:Nat}{r:AV}(hi:i<A.length)(hH:RelH φ A F H)(h:varA P A t (.ptr i off)=some r){Q:gV->Hp->Prop}(hq:∀ v,RelV φ A.length r v->Q v H) :
  wpS P (loadVar t ⟨(φ i).blk,(φ i).base+off,none⟩) H Q:=by
 unfold varA at h;unfold loadVar;dsimp only at h;split at h
 ·rename_i n e2;obtain⟨ti,td,e5,e7,e8,e6⟩:=yL e2;split at h
  ·rename_i l hl;cases h;obtain⟨_,rw',cur,e,fz,ys,hb,hn,hr,hc⟩:=vP hH hl;refine zf _ _ _ (vW e7 ?_);rw[e8,if_pos rfl];refine zf _ _ _ (yy e5 ?_);rw[e6,<- hn];exact zf _ _ _ (wV hb ys hc (hq _ (.agg hr.1 hr.2)))
  ·cases h
 ·rename_i n e2;obtain⟨ti,td,e5,e7,e8,e6⟩:=yL e2;split at h
  ·rename_i u hl;cases h;obtain⟨_,rw',cur,e,fz,ys,hb,hn,hr,hc⟩:=vP hH hl;refine zf _ _ _ (vW e7 ?_);rw[e8,if_neg sQ];obtain⟨y,rfl⟩:∃ y,ys=[y]:=by
    cases ys with
    | nil=>simp at hn
    | cons y ys=>cases ys with
     | nil=>exact⟨y,rfl⟩
     | cons z zs=>simp at hn
   exact⟨rw',cur,e,fz,y,hb,rfl,hc 0 y rfl,hq _ (hr.2 0 r y rfl rfl)⟩
  ·cases h
 ·cases h
theorem zmD(hH:RelH φ A F H)(hE:zN φ A.length Wq ts){v:gR}{r:AV}(h:resA1 P Wq A v=some r){Q:gV->Hp->Prop}(hq:∀ y,RelV φ A.length r y->Q y H) :
  wpS P (match v with|.tmp t=>pure (ts.getD t undef)|.cell a t=>do loadVar t (<- asAddr (ts.getD a undef))) H Q:=by
 cases v with
 | tmp t =>
  cases h;exact hq _ (zy (gm:=fun _=>none) (a:=⟨ts,[]⟩) (fun g i e=>by cases e) hE (.tmp t))
 | cell a t =>
  have hr:=zy (gm:=fun _=>none) (a:=⟨ts,[]⟩) (fun g i e=>by cases e) hE (.tmp a);simp only[zT,Act.eval]at hr;have hptr:∃ i off,Wq.getD a .any=.ptr i off:=by
   unfold resA1 varA at h;dsimp only at h;split at h
   ·rename_i e;exact⟨_,_,e⟩
   ·cases h
  obtain⟨i,off,e⟩:=hptr;rw[e]at hr;obtain⟨hi,e2⟩:=wx hr;dsimp only;rw[e2];refine zf _ _ _ ?_;refine zg1 hi hH ?_ hq;have h':varA P A t (Wq.getD a .any)=some r:=h;rw[e]at h';exact h'
theorem uY(hH:RelH φ A F H)(hE:zN φ A.length Wq ts):∀(vs:List gR)(rs:List AV),resAs P Wq A vs=some rs->∀(Q:List gV->Hp->Prop),(∀ ys:List gV,zN φ A.length rs ys.toArray->Q ys H) ->
  wpS P (vs.mapM fun|.tmp t=>pure (ts.getD t undef)|.cell a t=>do loadVar t (<- asAddr (ts.getD a undef))) H Q
 | [],rs,h,Q,hq=>by
  cases h;rw[List.mapM_nil];exact hq [] (w8 _ _)
 | v::vs,rs,h,Q,hq=>by
  simp only[resAs]at h;split at h
  ·rename_i r rs' h1 h2;cases h;rw[List.mapM_cons];refine zf _ _ _ (zmD hH hE h1 fun y hy=>?_);refine zf _ _ _ (uY hH hE vs rs' h2 _ fun ys hys=>?_);refine hq (y::ys) ?_;have:=vG (ys:=[y]) (kB hy) hys;exact this
  ·cases h
theorem kW{fn:Func}{r:AV}(hH:RelH φ A F H)(hE:zN φ A.length Wq ts)(h:resA P fn.results.toList Wq A=some r){Q:gV->Hp->Prop}(hq:∀ y,RelV φ A.length r y->Q y H):wpS P (results fn ts) H Q:=by
 unfold results;refine zf _ _ _ ?_;rw[Array.mapM_eq_mapM_toList];unfold resA at h;split at h
 ·rename_i r' e;cases h;refine zdI _ _ _ (uY hH hE _ _ e _ fun ys hys=>?_);obtain⟨y,rfl⟩:∃ y,ys=[y]:=by
   have:=hys.1;cases ys with
   | nil=>simp at this
   | cons y ys=>cases ys with
    | nil=>exact⟨y,rfl⟩
    | cons z zs=>simp at this
  exact hq y (hys.2 0 r y rfl rfl)
 ·rename_i rs hne e;cases h;refine zdI _ _ _ (uY hH hE _ _ e _ fun ys hys=>?_);have Wb:ys.toArray.size≠1:=by
   intro h1;have:=hys.1;rw[h1]at this;cases rs with
   | nil=>simp at this
   | cons u us=>cases us with
    | nil=>exact hne u rfl
    | cons u' us=>simp at this
  show Q (if h:ys.toArray.size=1 then ys.toArray[0]else .tuple ys.toArray) H;rw[dif_neg Wb];exact hq _ (.tup hys.1 hys.2)
 ·cases h
end
section
variable {P:gP}{gm:Nat->Option Nat}{T:gG->Hp->Prop}
theorem ke{φ:Nat->Loc3}{n:Nat}{args:List AV}{vs:Array gV}(h:zN φ n args vs)(m:Nat):zN φ n (args++mB (m - args.length) .any) (vs++Array.replicate (m - vs.size) undef):=by
 refine wZ h ⟨by simp[h.1],fun j a y ha _=>?_⟩;rw[List.getElem?_replicate]at ha;split at ha
 ·cases ha;exact .any _
 ·cases ha
theorem zgz{main:Bool}(hT:zo P main T){g:gF}{fn:Func}{c:Code}{args:List AV}{A:List AObj}{Post:AV->List AObj->Prop}(hf:P.funcs[g]? =some fn)(hb:fn.body=some c)
  (h:∀ X:Cx P gm T,(∀ Wq A' r,resA P fn.results.toList Wq A'=some r->Post r A'->X.L (some .ret) [] Wq A')->(∀ Wq A' r,resA P fn.results.toList Wq A'=some r->Post r A'->X.L none [] Wq A') ->
   TA X [] [.code c] (args++mB (fn.ntmps - args.length) .any) A):CallT P T gm g args A Post:=by
 intro φ F H vs c0 cs hF0 hg hH Qg Qj;have hleave:∀(k:List Item)(Wq:List AV)(A':List AObj)(φ':Nat->Loc3)(H':Hp)(ts:Array gV)(r:AV),resA P fn.results.toList Wq A'=some r->Post r A'->Agr φ φ' A.length->A.length<=A'.length->RelH φ' A' F H'->zN φ' A'.length Wq ts ->
   T (G { fr .normal g none ts [] k with mode:=.returning } (c0::cs)) H':=fun k Wq A' φ' H' ts r hr hp hA Wb hH' hE =>
  hT.leaveF hf (kW hH' hE hr fun y hy=>Qj r A' φ' H' y hp hA Wb hH' hy)
 let X:Cx P gm T:={
  main,hT,φ0:=φ,n0:=A.length,F,hF0,kd:=.normal,hkd:=(fun h=>by cases h),f:=g,ro:=none,cs:=c0::cs
  L:=fun j ds Wq A'=>(j=none\/j=some .ret)/\ds=[]/\∃ r,resA P fn.results.toList Wq A'=some r/\Post r A'
  hL:=by
   rintro j k ds Wq A' φ' H' ts hl ⟨hj,rfl,r,hr,hp⟩ hA Wb hg' _ hH' hE;cases hl with
   | fin=>exact hT.ctlF rfl (fun _=>wQ) rfl (hleave _ Wq A' φ' H' ts r hr hp hA Wb hH' hE)
   | ret k=>exact hT.ctlF rfl (fun _=>vq) rfl (hleave _ Wq A' φ' H' ts r hr hp hA Wb hH' hE)
   | exit id k _=>rcases hj with hj|hj <;> cases hj }
 rw[wD vs hf hb];exact h X (fun Wq A' r hr hp=>⟨.inr rfl,rfl,r,hr,hp⟩) (fun Wq A' r hr hp=>⟨.inl rfl,rfl,r,hr,hp⟩) φ H _ (Agr.refl _ _) (mL _) hg (fun d hd=>by cases hd) hH (ke Qg _)
variable {X:Cx P gm T}{ds:List Nat}{k:List Item}{Wq:List AV}{A:List AObj}
def maskA:List Bool->List AV->List AV
 | true::bs,a::l=>a::maskA bs l
 | false::bs,_::l=>.any::maskA bs l
 | [],l=>l
 | _,[]=>[]
theorem zbe:∀(bs:List Bool)(l:List AV),(maskA bs l).length=l.length
 | [],l=>by simp[maskA]
 | true::bs,[]=>rfl
 | false::bs,[]=>rfl
 | true::bs,a::l=>by simp[maskA,zbe bs l]
 | false::bs,a::l=>by simp[maskA,zbe bs l]
theorem zbd:∀(bs:List Bool)(l:List AV)(j:Nat) a,(maskA bs l)[j]? =some a->a=.any\/l[j]? =some a
 | [],l,j,a,h=>.inr (by simpa[maskA]using h)
 | true::bs,[],j,a,h=>by simp[maskA]at h
 | false::bs,[],j,a,h=>by simp[maskA]at h
 | true::bs,b::l,0,a,h=>.inr h
 | false::bs,b::l,0,a,h=>by simp[maskA]at h;exact .inl h.symm
 | true::bs,b::l,j+1,a,h=>zbd bs l j a (by simpa[maskA]using h)
 | false::bs,b::l,j+1,a,h=>zbd bs l j a (by simpa[maskA]using h)
theorem TA.mask(bs:List Bool)(h:TA X ds k (maskA bs Wq) A):TA X ds k Wq A:=fun φ H ts h1 h2 h3 h4 h5 h6=>by
 refine h φ H ts h1 h2 h3 h4 h5 ⟨(zbe bs Wq).trans h6.1,fun j a y ha hy=>?_⟩;rcases zbd bs Wq j a ha with rfl|ha'
 ·exact .any _
 ·exact h6.2 j a y ha' hy
end
section
variable {P:gP}{gm:Nat->Option Nat}{T:gG->Hp->Prop}{X:Cx P gm T}{ds:List Nat}{k:List Item}{Wq Wk:List AV}{A A' A'':List AObj}
end
end Go.Vel
end
