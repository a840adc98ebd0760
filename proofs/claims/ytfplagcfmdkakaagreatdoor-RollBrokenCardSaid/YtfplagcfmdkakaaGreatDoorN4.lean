/- Texts for the statements of chapter 8: what all of them need, part 5. It holds of every program, tape and world that the statements name, as each theorem says. -/
import Derived.Conc.DeferLaws
import Derived.Test.YtfplagcfmdkakaaGreatDoorProg
import Derived.Test.YtfplagcfmdkakaaGreatDoorN1
import Derived.Test.YtfplagcfmdkakaaGreatDoorN3
section
set_option linter.all false
set_option maxRecDepth 20000
set_option maxHeartbeats 60000000
open Go.Proofs.Tryz renaming prog -> tp
open List renaming getElem?_eq_some_iff -> lD, mem_cons -> lI, getElem?_map -> lQ, append_nil -> lR, getElem?_eq_none -> lU, mem_map -> lY, replicate -> mB
open Array renaming getElem?_eq_getElem -> mD, getElem?_map -> mJ, empty_append -> mK
open Nat renaming le_refl -> mL, lt_of_lt_of_le -> mM, zero_lt_one -> mS, le_trans -> mT
open Bool renaming false_eq_true -> mU, not_eq_true' -> mV, and_eq_true -> mX
open Option renaming map_eq_some_iff -> mY
namespace Go.Vel
open Go Go.Conc
section
variable {P:Program} {gm:Nat->Option Nat} {T:Goroutine->Hp->Prop} {Y:KX P gm T} {ds:List Nat} {k:List Item} {env env':List AV} {K K':KV} {ops:Array Oper} {i:Nat} {o:Oper} {r:AV} {pend pend':List Pd}
def dstOk (pend':List Pd) (ops:Array Oper) (d:Option Nat):Bool:=match d with
 | some d=>pend'.all fun p => !(p.s.elem d)&&dstOf ops p.i !=some d
 | none=>true
theorem td_do {L L':List Nat} (s:List Nat) (ho:ops[i]? =some o) (hw:zO ops (onl s env) o=some true) (hp':pendOf ops i pend=pend') (hraw:rawOk ops i s=true) (hdst:dstOk pend' ops o.dst=true) (hin:i∈L) (hsub:∀ j∈L',j∈L/\j≠i) (hcov':∀ j∈L,j=i\/j∈L')
  (h:ExK Y (onl s env) K o fun r K'=>(∀ p∈pend',∀ x∈p.V,x∈K')/\TD Y ds ops k pend' L' (zR env o.dst r) K')
  (hj:∀ p∈pend,Jq P gm ops env p) (hraws:∀ p∈pend,rawP ops p.i p.s=true) {A:List AObj} (hA:Kn Y K A) {σ:List Nat} (hnd:(i::σ).Nodup) (hresp:Resp ops (i::σ)) (hsz:∀ j∈i::σ,j<ops.size) (hL:∀ j∈L,j∈i::σ) (hcov:∀ j∈i::σ,j∈L\/∃ p∈pend,p.i=j)
  {φ:Nat->Loc3} {H:Hp} {ts:Array Value} (h1:Agr Y.X.φ0 φ Y.X.n0) (h2:Y.X.n0<=A.length) (h3:RelG gm φ A.length) (h4:∀ d∈ds,d<A.length) (h5:RelH φ A Y.X.F H) (h6:RelHid φ A.length (Hid ops pend (i::σ)) env ts) :
  T (G (fr Y.X.kd Y.X.f Y.X.ro ts (dsC φ ds++Y.X.dd) (.inRegion ops (i::σ)::k)) Y.X.cs) H:=by
 subst hp';have hrel:=zcI hsz hresp hraw hraws h6;refine h A hA ops i σ k (dsC φ ds++Y.X.dd) φ H ts ho (zP hrel hw) h3 h5 hrel fun r A' φ' H' v ⟨K',hk,hV',hq⟩ hA' hlen hH' hr=>?_;have hds:dsC φ' ds=dsC φ ds:=by
  unfold dsC;exact List.map_congr_left fun d hd'=>by rw [hA' d (h4 d hd')]
 rw [<- hds];have hnd':=List.nodup_cons.1 hnd;have hkeep:∀ p∈pend,p.i∈σ->p∈pendOf ops i pend:=fun p hp hm=>by
  refine List.mem_filter.2 ⟨hp,?_⟩;simp only [Bool.not_eq_true'];cases e:(edgesOf .any ops i).elem p.i with
  | false=>rfl
  | true=>exact absurd (List.mem_cons_of_mem _ hm) (hresp.1 p.i (by simpa using e))
 refine hq (fun p hp=>?_) (fun p hp=>hraws p (List.mem_filter.1 hp).1) hV' A' (hA.step hk) σ hnd'.2 hresp.2 (fun j hj=>hsz j (by simp [hj])) (fun j hj=>?_) (fun j hj=>?_) φ' H' _ (h1.trans hA' h2) oQ (h3.mono hA' hlen) (fun d hd'=>Nat.lt_of_lt_of_le (h4 d hd') hlen) hH' ⟨?_,fun j a y ha hy hnh=>?_⟩
 ·have hj':∀ p∈pendOf ops i pend,Jq P gm ops env p:=fun p hp=>hj p (List.mem_filter.1 hp).1;cases hdst':o.dst with
  | none=>exact hj' p hp
  | some d =>
   unfold dstOk at hdst;rw [hdst'] at hdst;exact zel hdst hj' p hp
 ·have hm:=hsub j hj;rcases List.mem_cons.1 (hL j hm.1) with e | e
  ·exact absurd e hm.2
  ·exact e
 ·rcases hcov j (by simp [hj]) with h7 | ⟨p,hp,e⟩
  ·rcases hcov' j h7 with rfl | h7
   ·exact absurd hj hnd'.1
   ·exact .inl h7
  ·exact .inr ⟨p,hkeep p hp (e ▸ hj),e⟩
 ·have:(putT ts o.dst v).size=ts.size:=by cases o.dst <;> simp [putT,Act.put]
  rw [this,<- h6.1]; cases o.dst <;> simp [zR]
 ·have hback:o.dst≠some j->ts[j]? =some y->env[j]? =some a->RelV φ' A'.length a y:=fun hne hy' ha'=>by
   refine (h6.2 j a y ha' hy' fun ⟨p,hp,h8,h9⟩=>?_).mono hA' hlen;rcases List.mem_cons.1 h8 with e | h8
   ·rw [e] at h9; simp [dstOf,ho] at h9; exact hne h9
   ·exact hnh ⟨p,hkeep p hp h8,h8,h9⟩
  cases hdst':o.dst with
  | none=>rw [hdst'] at ha hy; exact hback (by rw [hdst']; simp) hy ha
  | some d =>
   rw [hdst'] at ha hy;simp only [zR,putT,Act.put] at ha hy;by_cases e:d=j
   ·subst e;have hlt:d<env.length:=by have:=(List.getElem?_eq_some_iff.1 ha).1; simpa using this
    rw [List.getElem?_set_self hlt] at ha;rw [Array.getElem?_setIfInBounds_self_of_lt (by rw [<- h6.1]; exact hlt)] at hy;cases ha; cases hy;exact hr
   ·rw [List.getElem?_set_ne e] at ha;rw [Array.getElem?_setIfInBounds_ne e] at hy;exact hback (by rw [hdst']; simpa using e) hy ha
theorem TD.c2 {i1 i2:Nat} {o1 o2:Oper} {L L1 L2:List Nat} {pend1 pend2:List Pd} (s1 s2:List Nat) (ho1:ops[i1]? =some o1) (ho2:ops[i2]? =some o2) (hw1:zO ops (onl s1 env) o1=some true) (hw2:zO ops (onl s2 env) o2=some true) (hp1:pendOf ops i1 pend=pend1) (hp2:pendOf ops i2 pend=pend2)
  (hc:(rawOk ops i1 s1&&rawOk ops i2 s2&&dstOk pend1 ops o1.dst&&dstOk pend2 ops o2.dst&&L.elem i1&&L.elem i2&&L1.all (fun j=>L.elem j&&j !=i1)&&L2.all (fun j=>L.elem j&&j !=i2)&&L.all (fun j=>j==i1||L1.elem j)&&L.all (fun j=>j==i2||L2.elem j)&&L.all (fun j=>j==i1||j==i2||(edgesOf .any ops j).any fun e=>L.elem e))=true)
  (h1:ExK Y (onl s1 env) K o1 fun r K'=>(∀ p∈pend1,∀ x∈p.V,x∈K')/\TD Y ds ops k pend1 L1 (zR env o1.dst r) K') (h2:ExK Y (onl s2 env) K o2 fun r K'=>(∀ p∈pend2,∀ x∈p.V,x∈K')/\TD Y ds ops k pend2 L2 (zR env o2.dst r) K'):TD Y ds ops k pend L env K:=fun hj hraw hV A hA σ=>by
 simp only [Bool.and_eq_true,List.all_eq_true,Bool.or_eq_true,beq_iff_eq,bne_iff_ne,List.elem_eq_mem,decide_eq_true_eq] at hc;obtain ⟨⟨⟨⟨⟨⟨⟨⟨⟨⟨q1,q2⟩,q3⟩,q4⟩,q5⟩,q6⟩,q7⟩,q8⟩,q9⟩,q10⟩,q11⟩:=hc
 induction σ with
 | nil =>
  intro _ _ _ hL;exact absurd (hL i1 q5) sQ
 | cons c σ ih =>
  intro hnd hresp hsz hL hcov φ H ts e1 e2 e3 e4 e5 e6;by_cases hc1:c=i1
  ·subst hc1;exact td_do s1 ho1 hw1 hp1 q1 q3 q5 q7 q9 h1 hj hraw hA hnd hresp hsz hL hcov e1 e2 e3 e4 e5 e6
  by_cases hc2:c=i2
  ·subst hc2;exact td_do s2 ho2 hw2 hp2 q2 q4 q6 q8 q10 h2 hj hraw hA hnd hresp hsz hL hcov e1 e2 e3 e4 e5 e6
  have hnd':=List.nodup_cons.1 hnd;have hno:c∉L:=fun hm=>by
   rcases q11 c hm with (h | h) | h
   ·exact hc1 h
   ·exact hc2 h
   ·rw [List.any_eq_true] at h;obtain ⟨e,he1,he2⟩:=h;exact hresp.1 e he1 (hL e (by simpa using he2))
  rcases hcov c sQ with h7 | ⟨p,hp,e⟩
  ·exact absurd h7 hno
  ·refine za8 hp e (hj p hp) hraw (hV p hp) hA hnd hsz hresp e1 e2 e3 e4 e5 e6 fun φ H ts h1 h3 h5 h6 =>
    ih hnd'.2 hresp.2 (fun j hj=>hsz j (by simp [hj])) (fun j hj=>?_) (fun j hj=>hcov j (by simp [hj])) φ H ts h1 e2 h3 e4 h5 h6
   rcases List.mem_cons.1 (hL j hj) with h8 | h8
   ·exact absurd (h8 ▸ hj) hno
   ·exact h8
theorem yu {s L':List Nat} {ob:AObj} {envf:Nat->List AV} (hd:yf o.op=false) (hq:Nk P gm (onl s env) K o (fun j=>.ptr j 0) ob) (he:∀ j,zR env o.dst (.ptr j 0)=envf j) (hv:∀ p∈pend',∀ x∈p.V,x∈K) (h:∀ j,j∉keys K->TD Y ds ops k pend' L' (envf j) ((j,ob)::K)) :
  ExK Y (onl s env) K o fun r K'=>(∀ p∈pend',∀ x∈p.V,x∈K')/\TD Y ds ops k pend' L' (zR env o.dst r) K' :=
 wP hd fun A hv' hn=>⟨_,_,_,hq A hv',.push hv' hn ob,fun p hp x hx=>List.mem_cons_of_mem _ (hv p hp x hx),by dsimp only; rw [he]; exact h _ fun hm=>absurd (hv'.lt hm) (Nat.lt_irrefl _)⟩
theorem wF {s L':List Nat} {n:Nat} {ob:AObj} {envf:Nat->List AV} (hd:yf o.op=false) (hq:Nk P gm (onl s env) K o (fun j=>.row j n) ob) (he:∀ j,zR env o.dst (.row j n)=envf j) (hv:∀ p∈pend',∀ x∈p.V,x∈K) (h:∀ j,j∉keys K->TD Y ds ops k pend' L' (envf j) ((j,ob)::K)) :
  ExK Y (onl s env) K o fun r K'=>(∀ p∈pend',∀ x∈p.V,x∈K')/\TD Y ds ops k pend' L' (zR env o.dst r) K' :=
 wP hd fun A hv' hn=>⟨_,_,_,hq A hv',.push hv' hn ob,fun p hp x hx=>List.mem_cons_of_mem _ (hv p hp x hx),by dsimp only; rw [he]; exact h _ fun hm=>absurd (hv'.lt hm) (Nat.lt_irrefl _)⟩
theorem yA {fo:Operand} {ars:Array Operand} {at_:Array TypeId} {g:FuncId} {fs cp args:List AV} {Kf R:KV} {Post:AV->KV->Prop} (hop:o.op=.call { callee:=.value fo,args:=ars,argTypes:=at_ })
  (hf:zo gm env fo=some (.fn g fs cp)) (hg:yk P g=true) (hargs:fs++ars.toList.map (zL gm env)++cp=args) (hc:zq P T gm g args Kf Post) (hs:Split K Kf R) {Q:AV->KV->Prop} (hq:∀ r K',Post r K'->Q r (K'++R)):ExK Y env K o Q:=zbw hop (zy hf) hg hargs hc hs hq
end
end Go.Vel
namespace Go.Vel
open Go Go.Conc
open Go.ConcN (upd)
section
variable {P:Program} {gm:Nat->Option Nat} {T:Goroutine->Hp->Prop} {Y:KX P gm T} {ds:List Nat} {k:List Item} {env env':List AV} {K K':KV} {ops:Array Oper} {i:Nat} {rest:List Nat} {o:Oper} {r:AV} {pend pend':List Pd} {V:KV}
theorem TD.cM {L:List Nat} (M:List Nat) (hM:(!M.isEmpty&&M.all (fun j=>L.elem j)&&L.all (fun j=>M.elem j||(edgesOf .any ops j).any fun e=>L.elem e))=true)
  (h:∀ m∈M,∃ (s:List Nat) (o:Oper) (pend':List Pd) (L':List Nat),ops[m]? =some o/\zO ops (onl s env) o=some true/\pendOf ops m pend=pend'/\(rawOk ops m s&&dstOk pend' ops o.dst&&L'.all (fun j=>L.elem j&&j !=m)&&L.all (fun j=>j==m||L'.elem j))=true /\
   ExK Y (onl s env) K o fun r K'=>(∀ p∈pend',∀ x∈p.V,x∈K')/\TD Y ds ops k pend' L' (zR env o.dst r) K'):TD Y ds ops k pend L env K:=fun hj hraw hV A hA σ=>by
 simp only [mX,List.all_eq_true,Bool.or_eq_true,List.elem_eq_mem,decide_eq_true_eq,mV,List.isEmpty_eq_false_iff] at hM;obtain ⟨⟨q1,q2⟩,q3⟩:=hM
 induction σ with
 | nil =>
  intro _ _ _ hL;obtain ⟨m,hm⟩:=List.exists_mem_of_ne_nil M q1;exact absurd (hL m (q2 m hm)) sQ
 | cons c σ ih =>
  intro hnd hresp hsz hL hcov φ H ts e1 e2 e3 e4 e5 e6;by_cases hcM:c∈M
  ·obtain ⟨s,o,pend',L',ho,hw,hp,hc,hx⟩:=h c hcM;simp only [mX,List.all_eq_true,Bool.or_eq_true,beq_iff_eq,bne_iff_ne,List.elem_eq_mem,decide_eq_true_eq] at hc;obtain ⟨⟨⟨p1,p2⟩,p3⟩,p4⟩:=hc;exact td_do s ho hw hp p1 p2 (q2 c hcM) p3 p4 hx hj hraw hA hnd hresp hsz hL hcov e1 e2 e3 e4 e5 e6
  have hnd':=List.nodup_cons.1 hnd;have hno:c∉L:=fun hm=>by
   rcases q3 c hm with h | h
   ·exact hcM h
   ·rw [List.any_eq_true] at h;obtain ⟨e,he1,he2⟩:=h;exact hresp.1 e he1 (hL e (by simpa using he2))
  rcases hcov c sQ with h7 | ⟨p,hp,e⟩
  ·exact absurd h7 hno
  ·refine za8 hp e (hj p hp) hraw (hV p hp) hA hnd hsz hresp e1 e2 e3 e4 e5 e6 fun φ H ts h1 h3 h5 h6 =>
    ih hnd'.2 hresp.2 (fun j hj=>hsz j (by simp [hj])) (fun j hj=>?_) (fun j hj=>hcov j (by simp [hj])) φ H ts h1 e2 h3 e4 h5 h6
   rcases lI.1 (hL j hj) with h8 | h8
   ·exact absurd (h8 ▸ hj) hno
   ·exact h8
end
section
variable {P:Program}
def bot (P:Program):Frame:={ (default:Frame) with fn:=P.funcs.size,defers:=[],mode:=.panicking [goexitEntry] }
theorem birth {main:Bool} {g:FuncId} (hg:yk P g=true) (xs ys:Array Value) (w:World):stepG P main (born P { target:=.fn (.func g) ys,args:=xs }) w=.go (G (Frame.enter P g (xs++ys) .deferred) [bot P]) w #[]:=by
 unfold yk at hg;split at hg
 ·rename_i fn e;simp only [mX,mV] at hg;have hb:fn.body.isNone=false:=by
   cases e':fn.body with
   | none=>rw [e'] at hg; simp at hg
   | some _=>rfl
  have hr:(callFunc g (xs++ys)).runT P w #[]=(.ok (.enter g (xs++ys)) w,#[]):=by
   show (match P.funcs[g]? with | none=>_ | some fn=>_:Sem Next).runT P w #[]=_;rw [e];simp only [hg.1,hb,mU,if_false];rfl
  obtain ⟨e1,e2⟩:=kn hr;simp [born,stepG,unwind,callDeferred,invoke,Sem.runT_eq,e1,e2,seen,GStep.after,G,bot]
 ·cases hg
theorem zfw {g:FuncId} {fn:Func} {ts:Array Value} {k:List Item} (hf:P.funcs[g]? =some fn) (hr:fn.results=#[]):QuitsD P 3 0 (G { fr .deferred g none ts [] k with mode:=.returning } [bot P]):=by
 right;refine ⟨rfl,G (bot P) [],#[],fun e he=>by simp at he,fun w=>?_,?_⟩
 ·have:(results fn ts).runT P w #[]=(.ok (.tuple #[]) w,#[]):=by
   unfold results;rw [hr,Array.mapM_eq_mapM_toList];rfl
  obtain ⟨e1,e2⟩:=kn this;simp [G,stepG,unwind,fr,hf,Sem.runT_eq,e1,e2,GStep.after,seen,doReturn,bot,goexitEntry]
 ·right;refine ⟨rfl,{ frame:=bot P,callers:=[],status:=.finished,dying:=none },#[],fun e he=>by simp at he,fun w=>?_,?_⟩
  ·have:(default:Frame).todo=[]:=rfl;simp [G,stepG,unwind,bot,Frame.catches,goexitEntry,this]
  ·left;exact ⟨rfl,rfl⟩
end
end Go.Vel
namespace Go.Vel
open Go Go.Conc
section
variable {P:Program} {gm:Nat->Option Nat} {T:Goroutine->Hp->Prop} {Y:KX P gm T} {ds:List Nat} {k:List Item} {env env':List AV} {K K':KV} {ops:Array Oper} {i d:Nat} {L':List Nat} {o:Oper} {r:AV} {pend pend':List Pd}
theorem TD.z (s:List Nat) (ho:ops[i]? =some o) (hq:∀ A,zQ [] A->OpOk P gm (onl s env) A o r A) (h:TD Y ds ops k (⟨i,s,[]⟩::pend) L' env' K) (hd:yf o.op=false:=by rfl) (hw:zO ops (onl s env) o=some true:=by rfl) (hc:chkQ ops pend s i env.length o.dst=true:=by rfl) (hx:o.dst=some d:=by rfl) (he:env.set d r=env':=by simp only [List.set]; rfl):TD Y ds ops k pend (i::L') env K :=
 TD.q s [] ho hd hw hc sQ hq (zn hx he) h
theorem TD.y (s:List Nat) {x:Nat×AObj} (ho:ops[i]? =some o) (hm:x∈K:=by repeat (first | exact List.Mem.head _ | assumption | apply List.Mem.tail)) (hq:∀ A,zQ [x] A->OpOk P gm (onl s env) A o r A) (h:TD Y ds ops k (⟨i,s,[x]⟩::pend) L' env' K) (hd:yf o.op=false:=by rfl) (hw:zO ops (onl s env) o=some true:=by rfl) (hc:chkQ ops pend s i env.length o.dst=true:=by rfl) (hx:o.dst=some d:=by rfl) (he:env.set d r=env':=by simp only [List.set]; rfl):TD Y ds ops k pend (i::L') env K :=
 TD.q s [x] ho hd hw hc (fun y hy=>by rw [List.mem_singleton.1 hy]; exact hm) hq (zn hx he) h
theorem TD.u (s:List Nat) (ho:ops[i]? =some o) (h:TD Y ds ops k (⟨i,s,[]⟩::pend) L' env' K) (hw:zO ops (onl s env) o=some false:=by rfl) (hc:chkQ ops pend s i env.length o.dst=true:=by rfl) (he:zR env o.dst (.v undef)=env':=by first | exact zn rfl tQ | exact putN rfl):TD Y ds ops k pend (i::L') env K :=
 TD.unwanted s ho hw hc he h
theorem TD.s {j:Nat} {ob ob':AObj} (s:List Nat) (ho:ops[i]? =some o) (hp':pendOf ops i pend=pend') (hq:∀ A,zQ K A->OpOk P gm (onl s env) A o r (A.set j ob')) (h:TD Y ds ops k pend' L' env K') (hu:Upd K j ob j ob' K':=by repeat (first | exact Upd.head | apply Upd.tail)) (hv:∀ p∈pend',∀ x∈p.V,x∈K':=by simp) (hd:yf o.op=false:=by rfl) (hw:zO ops (onl s env) o=some true:=by rfl) (hc:chkC ops pend' L' s i o.dst=true:=by rfl) (hx:o.dst=none:=by rfl):TD Y ds ops k pend (i::L') env K :=
 TD.cst s ho hd hw hp' hc hq hu (putN hx) hv h
theorem TD.as (s:List Nat) (ho:ops[i]? =some o) (hp':pendOf ops i pend=pend') (hq:Qk P gm (onl s env) K o r) (h:TD Y ds ops k pend' L' env' K) (hv:∀ p∈pend',∀ x∈p.V,x∈K:=by simp) (hd:yf o.op=false:=by rfl) (hw:zO ops (onl s env) o=some true:=by rfl) (hc:chkC ops pend' L' s i o.dst=true:=by rfl) (hx:o.dst=some d:=by rfl) (he:env.set d r=env':=by simp only [List.set]; rfl):TD Y ds ops k pend (i::L') env K :=
 TD.cq s ho hd hw hp' hc hq (zn hx he) hv h
theorem TD.cl {fo:Operand} {ars:Array Operand} {at_:Array TypeId} {g:FuncId} {fs cp args:List AV} {Kf R:KV} {Post:AV->KV->Prop} (s:List Nat) (ho:ops[i]? =some o) (hp':pendOf ops i pend=pend') (hop:o.op=.call { callee:=.value fo,args:=ars,argTypes:=at_ })
  (hf:zo gm (onl s env) fo=some (.fn g fs cp)) (hargs:fs++ars.toList.map (zL gm (onl s env))++cp=args) (hc:zq P T gm g args Kf Post)
  (h:∀ r K',Post r K'->(∀ p∈pend',∀ x∈p.V,x∈K'++R)/\TD Y ds ops k pend' L' (env.set d r) (K'++R)) (hs:Split K Kf R:=by repeat (first | exact Split.none _ | exact Split.all _ | (apply Split.rem; repeat (first | exact Rem.head | apply Rem.tail)) | apply Split.right)) (hw:zO ops (onl s env) o=some true:=by rfl) (hc':chkC ops pend' L' s i o.dst=true:=by rfl) (hg:yk P g=true:=by exact Cal.h) (hx:o.dst=some d:=by rfl):TD Y ds ops k pend (i::L') env K :=
 TD.call' s ho hw hp' hc' hop hf hg hargs hc hs fun r K' hp=>by rw [hx]; exact h r K' hp
end
structure Tag (s:List Nat):Prop where
structure RunS (s:List Nat) (l:List (List Nat)) (G:Prop):Prop where
 go:G
structure RunD (l:List (List Nat)) (G:Prop):Prop where
 go:G
theorem Dc (c:Nat) {s:List Nat} {l:List (List Nat)} {G:Prop} (h:RunS s l G):RunD ((c::s)::l) G:=⟨h.go⟩
theorem Ds {s:List Nat} {l:List (List Nat)} {A B:Prop} (f:Tag s->A->B) (h:RunD l A):RunS s l B:=⟨f ⟨⟩ h.go⟩
section
variable {P:Program} {gm:Nat->Option Nat} {T:Goroutine->Hp->Prop} {Y:KX P gm T} {ds:List Nat} {k:List Item} {env env':List AV} {K:KV} {ops:Array Oper} {i d id:Nat} {s L':List Nat} {o:Oper} {r:AV} {pend:List Pd}
theorem TK.dr (L ρg:List Nat) (h:TD Y ds ops k [] L env K) (hd:drawnOk ops (List.range ops.size) ρg=true:=by kernel_rfl) (hL:(List.range ops.size).all (fun i=>L.elem i) && L.all (fun i=>decide (i < ops.size))=true:=by kernel_rfl):TK Y ds (.code (.region id ops true)::k) env K:=TK.draw L ρg hd hL h
theorem TD.q0 (t:Tag s) (ho:ops[i]?=some o) (hq:∀ A,zQ [] A->OpOk P gm (onl s env) A o r A) (h:TD Y ds ops k (⟨i,s,[]⟩::pend) L' env' K) (hd:yf o.op=false:=by rfl) (hw:zO ops (onl s env) o=some true:=by rfl) (hc:chkQ ops pend s i env.length o.dst=true:=by rfl) (hx:o.dst=some d:=by rfl) (he:env.set d r=env':=by simp only [List.set]; rfl):TD Y ds ops k pend (i::L') env K:=TD.z s ho hq h hd hw hc hx he
theorem TD.ld (t:Tag s) {x:Nat×AObj} (ho:ops[i]?=some o) (hq:∀ A,zQ [x] A->OpOk P gm (onl s env) A o r A) (h:TD Y ds ops k (⟨i,s,[x]⟩::pend) L' env' K) (hm:x ∈ K:=by repeat (first | exact List.Mem.head _ | assumption | apply List.Mem.tail)) (hd:yf o.op=false:=by rfl) (hw:zO ops (onl s env) o=some true:=by rfl) (hc:chkQ ops pend s i env.length o.dst=true:=by rfl) (hx:o.dst=some d:=by rfl) (he:env.set d r=env':=by simp only [List.set]; rfl):TD Y ds ops k pend (i::L') env K:=TD.y s ho hm hq h hd hw hc hx he
theorem TD.a0 (t:Tag s) (h:TD Y ds ops k [] L' env' K) (ho:ops[i]?=some o:=by rfl) (hp:pendOf ops i pend=[]:=by rfl) (hq:Qk P gm (onl s env) K o r:=by exact zw rfl rfl) (hd:yf o.op=false:=by rfl) (hw:zO ops (onl s env) o=some true:=by rfl) (hc:chkC ops [] L' s i o.dst=true:=by rfl) (hx:o.dst=some d:=by rfl) (he:env.set d r=env':=by simp only [List.set]; rfl):TD Y ds ops k pend (i::L') env K:=TD.as s ho hp hq h (fun _ q=>(List.not_mem_nil q).elim) hd hw hc hx he
theorem TK.dq [rl:RgL ops L'] (ρg:List Nat) (h:TD Y ds ops k [] L' env K) (hd:drawnOk ops (List.range ops.size) ρg=true:=by kernel_rfl) (hL:(List.range ops.size).all (fun i=>L'.elem i) && L'.all (fun i=>decide (i < ops.size))=true:=by kernel_rfl):TK Y ds (.code (.region id ops true)::k) env K:=TK.draw L' ρg hd hL h
theorem TD.u0 (t:Tag s) (h:TD Y ds ops k (⟨i,s,[]⟩::pend) L' env' K) (ho:ops[i]?=some o:=by rfl) (hw:zO ops (onl s env) o=some false:=by rfl) (hc:chkQ ops pend s i env.length o.dst=true:=by rfl) (he:zR env o.dst (.v undef)=env':=by first | exact zn rfl (by simp only [List.set]; rfl) | exact putN rfl):TD Y ds ops k pend (i::L') env K:=TD.u s ho h hw hc he
end
theorem ad (l:List (List Nat)) {G G':Prop} (h:G') (hs:Hide G'->RunD l G:=by
  intro hid;repeat (first
    | (refine Dc 1 ?_; refine Ds (fun t h=>TD.q0 t rfl (zh rfl rfl) h) ?_)
    | (refine Dc 2 ?_; refine Ds (fun t h=>TD.q0 t rfl (zH rfl rfl rfl zz.h (by omega) (by omega)) h) ?_)
    | (refine Dc 3 ?_; refine Ds (fun t h=>TD.q0 t rfl (za rfl rfl zf.h (by decide)) h) ?_)
    | (refine Dc 4 ?_; refine Ds (fun t h=>TD.q0 t rfl (q_cmp rfl rfl rfl rfl) h) ?_)
    | (refine Dc 5 ?_; refine Ds (fun t h=>TD.q0 t rfl (ya rfl rfl rfl) h) ?_)
    | (refine Dc 6 ?_; refine Ds (fun t h=>TD.q0 t rfl (yg rfl rfl rfl) h) ?_)
    | (refine Dc 7 ?_; refine Ds (fun t h=>TD.q0 t rfl (yH rfl rfl rfl) h) ?_)
    | (refine Dc 8 ?_; refine Ds (fun t h=>TD.q0 t rfl (q_add rfl rfl rfl (by omega)) h) ?_)
    | (refine Dc 9 ?_; refine Ds (fun t h=>TD.q0 t rfl (q_sub rfl rfl rfl (by omega)) h) ?_)
    | (refine Dc 10 ?_; refine Ds (fun t h=>TD.ld t rfl (zg rfl rfl zd.h (List.Mem.head _) rfl) h) ?_)
    | (refine Dc 11 ?_; refine Ds (fun t h=>TD.u0 t h) ?_)
    | (refine Dc 12 ?_; refine Ds (fun t h=>TD.ld t rfl (zI rfl rfl zd.h (List.Mem.head _) rfl) h) ?_)
    | (refine Dc 13 ?_; refine Ds (fun t h=>TD.a0 t h) ?_)
    | (refine Dc 14 ?_; refine Ds (fun t h=>TD.fin h) ?_))
  exact RunD.mk (l:=[]) hid.out):G:=(hs ⟨h⟩).go
end Go.Vel
namespace Go.Vel
open Go Go.Conc Go.Proofs
open Go.ConcN (sumTo upd upd_ne upd_same)
open Go.ConcM (OsLater MuAt muA msA)
open Go.ConcR (KK wgBlock WgAt stA smA mk rd wr)
open Mx (TT Th Mn S4 auto Mv4 ok4 bl4 kd dl MPc Pc okW okM Mv nx4 cnt newOf)
instance:Ext tp 187 (Extern.Atomic.casT (.int .i32)):=⟨_,Tryz.func187,by kernel_rfl,by kernel_rfl,by kernel_rfl,by kernel_rfl⟩
instance:Ext tp 189 (Extern.Atomic.update (Op.intArith .add) .i32 true):=⟨_,Tryz.func189,by kernel_rfl,by kernel_rfl,by kernel_rfl,by kernel_rfl⟩
instance:Ext tp 198 (Extern.Sync.canSpin):=⟨_,Tryz.func198,by kernel_rfl,by kernel_rfl,by kernel_rfl,by kernel_rfl⟩
instance:Ext tp 199 (fun _=>pure (.tuple #[])):=⟨_,Tryz.func199,by kernel_rfl,by kernel_rfl,by kernel_rfl,by kernel_rfl⟩
instance:Ext tp 201 (Extern.OsHooks.nano):=⟨_,Tryz.func201,by kernel_rfl,by kernel_rfl,by kernel_rfl,by kernel_rfl⟩
instance:Ext tp 202 (Extern.Sync.semacquire):=⟨_,Tryz.func202,by kernel_rfl,by kernel_rfl,by kernel_rfl,by kernel_rfl⟩
instance:Ext tp 204 (Extern.Sync.semrelease):=⟨_,Tryz.func204,by kernel_rfl,by kernel_rfl,by kernel_rfl,by kernel_rfl⟩
instance:Ext tp 140 (fun _=>do mark .disable; pure Extern.Race.none_):=⟨_,Tryz.func140,by kernel_rfl,by kernel_rfl,by kernel_rfl,by kernel_rfl⟩
instance:Ext tp 141 (fun _=>do mark .enable; pure Extern.Race.none_):=⟨_,Tryz.func141,by kernel_rfl,by kernel_rfl,by kernel_rfl,by kernel_rfl⟩
instance:Ext tp 154 (Extern.Race.marked .acquire):=⟨_,Tryz.func154,by kernel_rfl,by kernel_rfl,by kernel_rfl,by kernel_rfl⟩
instance:Ext tp 139 (Extern.Race.marked .releaseMerge):=⟨_,Tryz.func139,by kernel_rfl,by kernel_rfl,by kernel_rfl,by kernel_rfl⟩
instance:ExtQ tp 201:=⟨fun fn h=>by rw [Tryz.func201] at h; cases h; kernel_rfl⟩
theorem ld21 {o:Oper} {c:Operand} (hop:o.op=.load 21 c) (ev:Operand->Value) (w:World) (a:Addr) (v:Value) (hx:ev c=.pointer (some a)) (hc:w.cell? a=some v):(execOp ev o).run tp w=.ok (.value v) w/\(execOp ev o).events tp w #[]=#[⟨.cell a,false,false⟩]:=by
 have e1:tp.info? 21=some Tryz.t21:=by kernel_rfl
 unfold execOp;rw [hop];constructor
 ·simp [hx,hc,go_sem,e1]
 ·simp [hx,hc,go_sem,e1]
theorem nr212:(tp.funcs[(188:FuncId)]?).any (·.norace)=true:=by rw [Tryz.func188]; kernel_rfl
theorem nr214:(tp.funcs[(190:FuncId)]?).any (·.norace)=true:=by rw [Tryz.func190]; kernel_rfl
theorem nr179:(tp.funcs[(153:FuncId)]?).any (·.norace)=true:=by rw [Tryz.func153]; kernel_rfl
theorem uP256:tp.underlying 283=some (.pointer 199):=by kernel_rfl
theorem uP219:tp.underlying 244=some .unsafePointer:=by kernel_rfl
theorem z192:(tp.info? 199).map (fun i=>decide (i.size=0))=some false:=by kernel_rfl
instance:zf tp 199 0 0 false 1:={}
instance:zf tp 199 1 1 false 1:={}
instance:zf tp 201 1 0 true 2:={}
set_option linter.unusedVariables false in
theorem zfr {gm:Nat->Option Nat} {main:Bool} {Ch:Nat->Goroutine->Hp->Prop} (y:Sy tp) {lo:Nat×Loc3} {PL:(Nat->Bool)->KV->Prop} {k i:Nat} {x:Nat->Bool} (hGI:GIn y lo i PL) :
  CallS tp gm lo (y.Sf main Ch k i (.w { pc:=.r0 }) x) 188 [.v (.pointer (some ⟨y.Mu,0,none⟩))] [(lo.1,.gone)] (LockR y main Ch k i PL):=by
 refine wE 139 (y.shutF _ _ _ _ _ _) Tryz.func188 fun φ0 c0 cs A0 hl1 hl2 hret=>?_;refine au 1423542354235423542 ?_;refine TK.a Z (yx Z Z) ?_;refine TK.a Z (z8 Z Z zf.h dQ) ?_;refine TK.sLoad (fun v=>.w (Mx.hd { pc:=.r0,old:=v })) rfl rfl rfl rfl (ld21 Z) nr212 (fun s _=>mx0 (.r0 rfl)) (fun v=>hd_dl _) (fun v=>wy _) (fun v=>hd_kd _) fun s hok k1 hk1=>?_;refine au 130235 ?_;refine TK.maskL [0,2,3,4,5,6] ?_;have hmu:=hok.1;refine TK.loopS (ι:=Th×Int) (fun b=>.w (Mx.hd b.1)) (fun b=>wy b.1) (fun (b:Th×Int) env K=>b.1.old<256/\(b.1.aw=true->Mx.wk b.1.old=1)/\(b.1.sv=true->b.1.aw=true)/\b.1.it<=4/\K=[(lo.1,AObj.gone)]/\env=[.v (.pointer (some ⟨y.Mu,0,none⟩)),.any,.v (.int .i64 b.2),.v (.bool b.1.sv),.v (.bool b.1.aw),.v (.int .i64 ((b.1.it:Nat):Int)),.v (.int .i32 ((b.1.old:Nat):Int)),.any,.any,.any,.any,.any,.any,.any,.any,.any,.any,.any,.any,.any,.any,.any,.any,.any,.any,.any,.any,.any,.any,.any,.any,.any,.any,.any,.any,.any,.any,.any,.any,.any,.any,.any,.any,.any,.any,.any,.any,.any,.any,.any,.any,.any,.any,.any,.any,.any,.any,.any,.any,.any,.any,.any,.any,.any,.any,.any,.any,.any,.any,.any,.any,.any,.any,.any,.any,.any,.any,.any,.any,.any,.any,.any,.any,.any,.any,.any,.any,.any,.any,.any,.any,.any,.any,.any,.any,.any,.any,.any,.any,.any,.any,.any,.any,.any,.any,.any,.any,.any,.any,.any,.any,.any,.any,.any,.any,.any,.any,.any,.any,.any,.any,.any,.any,.any,.any,.any,.any,.any,.any,.any,.any,.any,.any,.any,.any,.any,.any,.any,.any]) ({ pc:=.r0,old:=s.mu },0) ⟨hmu,(fun h=>by cases h),(fun h=>by cases h),by show 0<=4; omega,rfl,rfl⟩ rfl ?_;clear hok hmu s;rintro k2 hk2 ⟨⟨p0,old,n0,aw,sv,it⟩,wst⟩ env K ⟨hold,haw,hsv,hit,rfl,rfl⟩ ih;dsimp only at hold haw hsv hit ⊢;obtain ⟨hn1,hn2,hn3⟩:=zmB old hold;obtain ⟨hn3,hn4,hn5⟩:=hn3 sv;have hn5:=hn5 aw haw;refine au 22130 ?_;refine TK.splitS (ι:=Unit) (fun _=>.w { pc:=.c2,old:=old,nw:=newOf old aw sv,aw:=aw,sv:=sv,it:=it }) (fun _=>rfl) (fun _=>True) (fun _=>[.v (.pointer (some ⟨y.Mu,0,none⟩)),.any,.v (.int .i64 wst),.v (.bool sv),.v (.bool aw),.v (.int .i64 ((it:Nat):Int)),.v (.int .i32 ((old:Nat):Int)),.any,.any,.any,.any,.any,.any,.any,.any,.any,.any,.any,.any,.any,.any,.any,.any,.any,.any,.any,.any,.any,.any,.any,.any,.any,.any,.any,.any,.any,.any,.any,.any,.any,.any,.any,.any,.any,.any,.any,.any,.any,.any,.any,.any,.any,.any,.any,.any,.any,.any,.any,.any,.any,.any,.any,.any,.any,.any,.any,.any,.any,.any,.any,.any,.any,.any,.any,.any,.any,.any,.any,.any,.any,.any,.any,.any,.any,.any,.any,.any,.any,.any,.any,.any,.any,.any,.any,.any,.any,.any,.any,.any,.any,.any,.any,.any,.any,.any,.any,.any,.any,.any,.any,.any,.any,.any,.any,.any,.any,.any,.any,.any,.any,.any,.any,.any,.any,.any,.any,.any,.any,.any,.any,.any,.any,.any,.any,.any,.any,.any,.any,.any]) [(lo.1,AObj.gone)] (fun hsh=>?_) ?_
 ·skip;refine au 14 ?_;refine TK.a Z (yN Z Z Z (.inl Z) (bA5 old hold)) ?_;refine au 17 ?_;refine TK.sp 17 (fun g5_4=>?_) (fun g5_4=>?_)
  ·have hsq:Mx.lk old=1/\Mx.st old=0:=by simp at g5_4; dsimp only [Mx.st,Mx.lk,Mx.wk,Mx.wt] at *; omega
   refine TK.castT (T':=.w { pc:=.sq,old:=old,nw:=n0,aw:=aw,sv:=sv,it:=it }) Z (congrArg TT.w (if_pos hsq)) ?_;refine au 1 ?_;refine TK.sSpin (.w (if aw=false/\Mx.wk old=0/\Mx.wt old≠0 then { pc:=.c1,old:=old,nw:=n0,aw:=aw,sv:=sv,it:=it } else { pc:=.r1,old:=old,nw:=n0,aw:=aw,sv:=sv,it:=it })) (.w { pc:=.c2,old:=old,nw:=newOf old aw sv,aw:=aw,sv:=sv,it:=it }) it Z Z Z Z (fun s _ h4=>?_) (fun s _=>mx0 (.sqn rfl)) ⟨by split <;> rfl,rfl⟩ (by split <;> rfl) rfl (by split <;> exact fun h=>by cases h) (fun h=>by cases h) (fun hi4 k3 hk3=>?_) (fun k3 hk3=>?_);rotate_left
   ·refine au 130014221803260 ?_;refine TK.sp 23 (fun g6_3=>?_) (fun g6_3=>?_)
    ·refine au 1 ?_;refine TK.a Z (yN Z Z Z (.inl Z) (bA2 old oQ)) ?_;refine au 12607 ?_;refine TK.sp 28 (fun g6_8=>?_) (fun g6_8=>?_)
     ·refine au 1 ?_;refine TK.a Z (q_sh Z Z Z dQ (r:=((old / 8:Nat):Int)) (by show ((old:Nat):Int) / 8=((old / 8:Nat):Int); omega)) ?_;refine au 12607 ?_;refine TK.sp 33 (fun g6_13=>?_) (fun g6_13=>?_)
      ·have ha1:aw=false:=by simpa using g6_3
       have ha2:Mx.wk old=0:=by simp at g6_8; dsimp only [Mx.st,Mx.lk,Mx.wk,Mx.wt] at *; omega
       have ha3:Mx.wt old≠0:=by simp at g6_13; dsimp only [Mx.st,Mx.lk,Mx.wk,Mx.wt] at *; omega
       refine TK.castT (T':=.w { pc:=.c1,old:=old,nw:=n0,aw:=aw,sv:=sv,it:=it }) Z (congrArg TT.w (if_pos ⟨ha1,ha2,ha3⟩)) ?_;refine au 1 ?_;refine TK.a Z (yx Z Z) ?_;refine TK.a Z (z8 Z Z zf.h dQ) ?_;refine au 11 ?_;refine TK.a Z (yN Z Z Z (.inr (.inl Z)) (bO2 old oQ)) ?_;have hnew:old - 2*(old / 2 % 2)+2=old+2:=by dsimp only [Mx.st,Mx.lk,Mx.wk,Mx.wt] at *; omega
       refine TK.sCas (.w { pc:=.r1,old:=old,nw:=n0,aw:=true,sv:=sv,it:=it }) (.w { pc:=.r1,old:=old,nw:=n0,aw:=aw,sv:=sv,it:=it }) old (old - 2*(old / 2 % 2)+2) Z Z Z Z Z Z (fun s _ e=>by rw [hnew]; exact mxM (.c1h rfl e)) (fun s _ e=>mx0 (.c1m rfl e)) ⟨mS,rfl,rfl⟩ rfl rfl (fun h=>by cases h) (fun h=>by cases h) (fun k4 hk4=>?_) (fun k4 hk4=>?_)
       ·refine au 423541803260 ?_;refine TK.sPure Z Z ?_;refine au 1423 ?_;refine TK.a Z (q_add Z Z Z oQ) ?_;refine au 14235 ?_;refine TK.a Z (yx Z Z) ?_;refine TK.a Z (z8 Z Z zf.h dQ) ?_;refine TK.sLoad (fun v=>.w (Mx.hd { pc:=.r1,old:=v,nw:=n0,aw:=true,sv:=sv,it:=it+1 })) rfl rfl rfl rfl (ld21 Z) nr212 (fun s _=>mx0 (.r1 rfl)) (fun v=>hd_dl _) (fun v=>wy _) (fun v=>hd_kd _) fun s hok k5 hk5=>?_;refine au 16035 ?_;refine TK.maskL [0,2,3,4,5,6] ?_;exact ih _ ({ pc:=.r1,old:=s.mu,nw:=n0,aw:=true,sv:=sv,it:=it+1 },wst) _ _ oQ ⟨hok.1,hok.2.2.2.2.2.2,(fun _=>rfl),by show it+1<=4; omega,rfl,rfl⟩
       ·refine au 421201903260 ?_;refine TK.sPure Z Z ?_;refine au 1423 ?_;refine TK.a Z (q_add Z Z Z oQ) ?_;refine au 14235 ?_;refine TK.a Z (yx Z Z) ?_;refine TK.a Z (z8 Z Z zf.h dQ) ?_;refine TK.sLoad (fun v=>.w (Mx.hd { pc:=.r1,old:=v,nw:=n0,aw:=aw,sv:=sv,it:=it+1 })) rfl rfl rfl rfl (ld21 Z) nr212 (fun s _=>mx0 (.r1 rfl)) (fun v=>hd_dl _) (fun v=>wy _) (fun v=>hd_kd _) fun s hok k5 hk5=>?_;refine au 16035 ?_;refine TK.maskL [0,2,3,4,5,6] ?_;exact ih _ ({ pc:=.r1,old:=s.mu,nw:=n0,aw:=aw,sv:=sv,it:=it+1 },wst) _ _ oQ ⟨hok.1,hok.2.2.2.2.2.2,hsv,by show it+1<=4; omega,rfl,rfl⟩
      have ha1:¬ Mx.wt old≠0:=by simp at g6_13; dsimp only [Mx.st,Mx.lk,Mx.wk,Mx.wt] at *; omega
      refine TK.castT (T':=.w { pc:=.r1,old:=old,nw:=n0,aw:=aw,sv:=sv,it:=it }) Z (congrArg TT.w (if_neg (fun h=>ha1 h.2.2))) ?_;refine au 4212019032508888888 ?_;refine TK.sPure Z Z ?_;refine au 1423 ?_;refine TK.a Z (q_add Z Z Z oQ) ?_;refine au 14235 ?_;refine TK.a Z (yx Z Z) ?_;refine TK.a Z (z8 Z Z zf.h dQ) ?_;refine TK.sLoad (fun v=>.w (Mx.hd { pc:=.r1,old:=v,nw:=n0,aw:=aw,sv:=sv,it:=it+1 })) rfl rfl rfl rfl (ld21 Z) nr212 (fun s _=>mx0 (.r1 rfl)) (fun v=>hd_dl _) (fun v=>wy _) (fun v=>hd_kd _) fun s hok k5 hk5=>?_;refine au 16035 ?_;refine TK.maskL [0,2,3,4,5,6] ?_;exact ih _ ({ pc:=.r1,old:=s.mu,nw:=n0,aw:=aw,sv:=sv,it:=it+1 },wst) _ _ oQ ⟨hok.1,hok.2.2.2.2.2.2,hsv,by show it+1<=4; omega,rfl,rfl⟩
     have ha1:Mx.wk old≠0:=by simp at g6_8; dsimp only [Mx.st,Mx.lk,Mx.wk,Mx.wt] at *; omega
     refine TK.castT (T':=.w { pc:=.r1,old:=old,nw:=n0,aw:=aw,sv:=sv,it:=it }) Z (congrArg TT.w (if_neg (fun h=>ha1 h.2.1))) ?_;refine au 42120190325088888881250888 ?_;refine TK.sPure Z Z ?_;refine au 1423 ?_;refine TK.a Z (q_add Z Z Z oQ) ?_;refine au 14235 ?_;refine TK.a Z (yx Z Z) ?_;refine TK.a Z (z8 Z Z zf.h dQ) ?_;refine TK.sLoad (fun v=>.w (Mx.hd { pc:=.r1,old:=v,nw:=n0,aw:=aw,sv:=sv,it:=it+1 })) rfl rfl rfl rfl (ld21 Z) nr212 (fun s _=>mx0 (.r1 rfl)) (fun v=>hd_dl _) (fun v=>wy _) (fun v=>hd_kd _) fun s hok k5 hk5=>?_;refine au 16035 ?_;refine TK.maskL [0,2,3,4,5,6] ?_;exact ih _ ({ pc:=.r1,old:=s.mu,nw:=n0,aw:=aw,sv:=sv,it:=it+1 },wst) _ _ oQ ⟨hok.1,hok.2.2.2.2.2.2,hsv,by show it+1<=4; omega,rfl,rfl⟩
    have ha1:aw=true:=by simpa using g6_3
    refine TK.castT (T':=.w { pc:=.r1,old:=old,nw:=n0,aw:=aw,sv:=sv,it:=it }) Z (congrArg TT.w (if_neg (fun h=>by rw [ha1] at h; cases h.1))) ?_;refine au 421201903250888888812508881250888 ?_;refine TK.sPure Z Z ?_;refine au 1423 ?_;refine TK.a Z (q_add Z Z Z oQ) ?_;refine au 14235 ?_;refine TK.a Z (yx Z Z) ?_;refine TK.a Z (z8 Z Z zf.h dQ) ?_;refine TK.sLoad (fun v=>.w (Mx.hd { pc:=.r1,old:=v,nw:=n0,aw:=aw,sv:=sv,it:=it+1 })) rfl rfl rfl rfl (ld21 Z) nr212 (fun s _=>mx0 (.r1 rfl)) (fun v=>hd_dl _) (fun v=>wy _) (fun v=>hd_kd _) fun s hok k5 hk5=>?_;refine au 16035 ?_;refine TK.maskL [0,2,3,4,5,6] ?_;exact ih _ ({ pc:=.r1,old:=s.mu,nw:=n0,aw:=aw,sv:=sv,it:=it+1 },wst) _ _ oQ ⟨hok.1,hok.2.2.2.2.2.2,hsv,by show it+1<=4; omega,rfl,rfl⟩
   ·refine au 1201903260 ?_;refine TK.maskL [0,2,3,4,5,6] ?_;exact hsh _ () oQ trivial
   ·split
    ·rename_i h; exact mx0 (.sqc rfl h4 h.1 h.2.1 h.2.2)
    ·rename_i h; exact mx0 (.sqr rfl h4 h)
  have hsq:¬ (Mx.lk old=1/\Mx.st old=0):=by simp at g5_4; dsimp only [Mx.st,Mx.lk,Mx.wk,Mx.wt] at *; omega
  refine TK.castT (T':=.w { pc:=.c2,old:=old,nw:=newOf old aw sv,aw:=aw,sv:=sv,it:=it }) Z (congrArg TT.w (if_neg hsq)) ?_;refine au 120190325088 ?_;refine TK.maskL [0,2,3,4,5,6] ?_;exact hsh _ () oQ trivial
 ·intro k3 _ hk3 _;refine au 142235142 ?_;refine TK.a Z (yN Z Z Z (.inl Z) (bA4 old oQ)) ?_;refine au 37 ?_;refine TK.share1 ([.v (.pointer (some ⟨y.Mu,0,none⟩)),.any,.v (.int .i64 wst),.v (.bool sv),.v (.bool aw),.v (.int .i64 ((it:Nat):Int)),.v (.int .i32 ((old:Nat):Int)),.v (.int .i32 ((nv1 old:Nat):Int)),.any,.any,.any,.any,.any,.any,.any,.any,.any,.any,.any,.any,.any,.any,.any,.any,.any,.any,.any,.any,.any,.any,.any,.any,.any,.any,.any,.any,.any,.any,.any,.any,.any,.any,.any,.any,.any,.any,.any,.any,.any,.any,.any,.any,.any,.any,.any,.any,.any,.any,.any,.any,.any,.any,.any,.any,.any,.any,.any,.any,.any,.any,.any,.any,.any,.any,.any,.any,.any,.any,.any,.any,.any,.any,.any,.any,.any,.any,.any,.any,.any,.any,.any,.any,.any,.any,.any,.any,.any,.any,.any,.any,.any,.any,.any,.any,.any,.any,.any,.any,.any,.any,.any,.any,.any,.any,.any,.any,.any,.any,.any,.any,.any,.any,.any,.any,.any,.any,.any,.any,.any,.any,.any,.any,.any,.any,.any,.any,.any,.any,.any]) [(lo.1,AObj.gone)] (fun hsh=>?_) ?_
  ·skip;refine au 9 ?_;constructor<;>intro hc2
   ·skip;refine au 14 ?_;refine TK.a Z (yN Z Z Z (.inr (.inl Z)) (bO1 old oQ)) ?_;refine au 35 ?_;refine TK.maskL [0,2,3,4,5,6,7] ?_;have e7:nv1 old=old - old % 2+1:=by simp at hc2; unfold nv1; rw [if_pos (by dsimp only [Mx.st,Mx.lk,Mx.wk,Mx.wt] at *; omega)]
    rw [e7] at hsh;exact hsh
   ·skip;refine au 120 ?_;refine TK.maskL [0,2,3,4,5,6,7] ?_;have e7:nv1 old=old:=by simp at hc2; unfold nv1; rw [if_neg (by dsimp only [Mx.st,Mx.lk,Mx.wk,Mx.wt] at *; omega)]
    rw [e7] at hsh;exact hsh
  ·skip;refine au 1422 ?_;refine TK.a Z (yN Z Z Z (.inl Z) (bA5 old hold)) ?_;refine au 37 ?_;refine TK.share1 ([.v (.pointer (some ⟨y.Mu,0,none⟩)),.any,.v (.int .i64 wst),.v (.bool sv),.v (.bool aw),.v (.int .i64 ((it:Nat):Int)),.v (.int .i32 ((old:Nat):Int)),.v (.int .i32 ((nv2 old:Nat):Int)),.any,.any,.any,.any,.any,.any,.any,.any,.any,.any,.any,.any,.any,.any,.any,.any,.any,.any,.any,.any,.any,.any,.any,.any,.any,.any,.any,.any,.any,.any,.any,.any,.any,.any,.any,.any,.any,.any,.any,.any,.any,.any,.any,.any,.any,.any,.any,.any,.any,.any,.any,.any,.any,.any,.any,.any,.any,.any,.any,.any,.any,.any,.any,.any,.any,.any,.any,.any,.any,.any,.any,.any,.any,.any,.any,.any,.any,.any,.any,.any,.any,.any,.any,.any,.any,.any,.any,.any,.any,.any,.any,.any,.any,.any,.any,.any,.any,.any,.any,.any,.any,.any,.any,.any,.any,.any,.any,.any,.any,.any,.any,.any,.any,.any,.any,.any,.any,.any,.any,.any,.any,.any,.any,.any,.any,.any,.any,.any,.any,.any,.any]) [(lo.1,AObj.gone)] (fun hsh=>?_) ?_
   ·skip;refine au 9 ?_;constructor<;>intro hc3
    ·skip;refine au 14 ?_;refine TK.a Z (vX Z Z Z (r:=((nv1 old+8:Nat):Int)) (.inl ⟨rfl,by rw [w32 oQ]; omega⟩)) ?_;refine au 35 ?_;refine TK.maskL [0,2,3,4,5,6,7] ?_;have e7:nv2 old=nv1 old+8:=by simp at hc3; unfold nv2; rw [if_pos (by dsimp only [Mx.st,Mx.lk,Mx.wk,Mx.wt] at *; omega)]
     rw [e7] at hsh;exact hsh
    ·skip;refine au 120 ?_;refine TK.maskL [0,2,3,4,5,6,7] ?_;have e7:nv2 old=nv1 old:=by simp at hc3; unfold nv2; rw [if_neg (by dsimp only [Mx.st,Mx.lk,Mx.wk,Mx.wt] at *; omega)]
     rw [e7] at hsh;exact hsh
   ·skip;refine au 22 ?_;refine TK.splitS (ι:=Unit) (fun _=>.w { pc:=.c2,old:=old,nw:=newOf old aw sv,aw:=aw,sv:=sv,it:=it }) (fun _=>rfl) (fun _=>True) (fun _=>[.v (.pointer (some ⟨y.Mu,0,none⟩)),.any,.v (.int .i64 wst),.v (.bool sv),.v (.bool aw),.v (.int .i64 ((it:Nat):Int)),.v (.int .i32 ((old:Nat):Int)),.v (.int .i32 ((nv3 old sv:Nat):Int)),.any,.any,.any,.any,.any,.any,.any,.any,.any,.any,.any,.any,.any,.any,.any,.any,.any,.any,.any,.any,.any,.any,.any,.any,.any,.any,.any,.any,.any,.any,.any,.any,.any,.any,.any,.any,.any,.any,.any,.any,.any,.any,.any,.any,.any,.any,.any,.any,.any,.any,.any,.any,.any,.any,.any,.any,.any,.any,.any,.any,.any,.any,.any,.any,.any,.any,.any,.any,.any,.any,.any,.any,.any,.any,.any,.any,.any,.any,.any,.any,.any,.any,.any,.any,.any,.any,.any,.any,.any,.any,.any,.any,.any,.any,.any,.any,.any,.any,.any,.any,.any,.any,.any,.any,.any,.any,.any,.any,.any,.any,.any,.any,.any,.any,.any,.any,.any,.any,.any,.any,.any,.any,.any,.any,.any,.any,.any,.any,.any,.any,.any]) [(lo.1,AObj.gone)] (fun hsh=>?_) ?_
    ·skip;refine au 114 ?_;refine TK.sp 61 (fun g16_2=>?_) (fun g16_2=>?_)
     ·refine au 1 ?_;refine TK.a Z (yN Z Z Z (.inl Z) (bA1 old oQ)) ?_;refine au 932607 ?_;constructor<;>intro hc4
      ·refine au 14 ?_;refine TK.a Z (yN Z Z Z (.inr (.inl Z)) (bO4 (nv2 old) oQ)) ?_;refine au 35 ?_;refine TK.maskL [0,2,3,4,5,6,7] ?_;have e7:nv3 old sv=nv2 old - 4*(nv2 old / 4 % 2)+4:=by simp at hc4; unfold nv3; rw [if_pos ⟨g16_2,by dsimp only [Mx.st,Mx.lk,Mx.wk,Mx.wt] at *; omega⟩]
       rw [e7] at hsh;exact hsh _ () (mL _) trivial
      refine au 120 ?_;refine TK.maskL [0,2,3,4,5,6,7] ?_;have e7:nv3 old sv=nv2 old:=by simp at hc4; unfold nv3; rw [if_neg (fun h=>by have:=h.2; dsimp only [Mx.st,Mx.lk,Mx.wk,Mx.wt] at *; omega)]
      rw [e7] at hsh;exact hsh _ () (mL _) trivial
     refine au 1201903250888 ?_;refine TK.maskL [0,2,3,4,5,6,7] ?_;have e7:nv3 old sv=nv2 old:=by unfold nv3; rw [if_neg (fun h=>by rw [h.1] at g16_2; cases g16_2)]
     rw [e7] at hsh;exact hsh _ () (mL _) trivial
    ·intro k4 _ hk4 _;refine au 31422 ?_;refine TK.share1 ([.v (.pointer (some ⟨y.Mu,0,none⟩)),.any,.v (.int .i64 wst),.v (.bool sv),.v (.bool aw),.v (.int .i64 ((it:Nat):Int)),.v (.int .i32 ((old:Nat):Int)),.v (.int .i32 ((newOf old aw sv:Nat):Int)),.any,.any,.any,.any,.any,.any,.any,.any,.any,.any,.any,.any,.any,.any,.any,.any,.any,.any,.any,.any,.any,.any,.any,.any,.any,.any,.any,.any,.any,.any,.any,.any,.any,.any,.any,.any,.any,.any,.any,.any,.any,.any,.any,.any,.any,.any,.any,.any,.any,.any,.any,.any,.any,.any,.any,.any,.any,.any,.any,.any,.any,.any,.any,.any,.any,.any,.any,.any,.any,.any,.any,.any,.any,.any,.any,.any,.any,.any,.any,.any,.any,.any,.any,.any,.any,.any,.any,.any,.any,.any,.any,.any,.any,.any,.any,.any,.any,.any,.any,.any,.any,.any,.any,.any,.any,.any,.any,.any,.any,.any,.any,.any,.any,.any,.any,.any,.any,.any,.any,.any,.any,.any,.any,.any,.any,.any,.any,.any,.any,.any,.any]) [(lo.1,AObj.gone)] (fun hsh=>?_) ?_
     ·skip;refine au 9 ?_;constructor<;>intro hc5
      ·skip;refine au 1422 ?_;refine TK.a Z (yN Z Z Z (.inl Z) (bA2 (nv3 old sv) hn3)) ?_;refine au 937 ?_;constructor<;>intro hc6
       ·have:=hn4 (haw hc5);exfalso;simp at hc6;dsimp only [Mx.st,Mx.lk,Mx.wk,Mx.wt] at *
        omega
       refine au 14120 ?_;refine TK.a Z (yN Z Z Z (.inr (.inr Z)) (bN2 (nv3 old sv) hn3)) ?_;refine au 35 ?_;refine TK.maskL [0,2,3,4,5,6,7] ?_;have e7:newOf old aw sv=nv3 old sv - 2*(nv3 old sv / 2 % 2):=by rw [<- hn5]; unfold nv4; rw [if_pos hc5]
       rw [<- e7];exact hsh
      ·skip;refine au 120 ?_;refine TK.maskL [0,2,3,4,5,6,7] ?_;have e7:newOf old aw sv=nv3 old sv:=by rw [<- hn5]; unfold nv4; rw [if_neg (by rw [hc5]; decide)]
       rw [<- e7];exact hsh
     ·skip;refine au 142 ?_;refine TK.a Z (yx Z Z) ?_;refine TK.a Z (z8 Z Z zf.h dQ) ?_;refine au 11 ?_;refine TK.sCas (if Mx.lk old=0/\Mx.st old=0 then .w { pc:=.le } else if wst=0 then .w { pc:=.t1,old:=old,nw:=newOf old aw sv,aw:=aw,sv:=sv,it:=it } else .w { pc:=.s1,old:=old,nw:=newOf old aw sv,aw:=aw,sv:=sv,it:=it }) (.w { pc:=.r3,old:=old,nw:=newOf old aw sv,aw:=aw,sv:=sv,it:=it }) old (newOf old aw sv) Z Z Z Z Z Z (fun s _ e=>?_) (fun s _ e=>mx0 (.c2m rfl e)) ⟨mS,by split <;> first | rfl | (split <;> rfl),rfl⟩ (by split <;> first | rfl | (split <;> rfl)) rfl (by split <;> first | exact fun h=>by cases h | (split <;> exact fun h=>by cases h)) (fun h=>by cases h) (fun k5 hk5=>?_) (fun k5 hk5=>?_);rotate_left
      ·refine au 14221803 ?_;refine TK.a Z (yN Z Z Z (.inl Z) (bA5 old hold)) ?_;refine au 937 ?_;constructor<;>intro hc8
       ·have h8:Mx.lk old=0/\Mx.st old=0:=by simp at hc8; dsimp only [Mx.st,Mx.lk,Mx.wk,Mx.wt] at *; omega
        refine TK.castT (T':=.w { pc:=.le }) Z (if_pos h8) ?_;refine au 42180160 ?_;refine TK.sMark (.w { pc:=.la }) .enable sQ Z Z Z (fun s _=>mx0 (.le rfl)) (we 0) rfl (fun k8 hk8=>?_);refine au 143 ?_;refine TK.sConv Z Z Z uP256 uP219 z192 (fun w s h=>⟨_,h.1.cellSt⟩) ?_;refine au 0 ?_;refine TK.acqL Z Z Z Z Z hl1 hl2 hGI fun k9 x5 K5 hk9 hx5 hp5=>?_;refine au 3 ?_;refine TK.rt0a (hret (hT':=y.shutF _ _ _ _ _ _)) ?_ res_0;exact ⟨rfl,_,_,oQ,hx5,hp5,rfl⟩
       have h8:¬ (Mx.lk old=0/\Mx.st old=0):=by simp at hc8; dsimp only [Mx.st,Mx.lk,Mx.wk,Mx.wt] at *; omega
       refine TK.castT (T':=if wst=0 then .w { pc:=.t1,old:=old,nw:=newOf old aw sv,aw:=aw,sv:=sv,it:=it } else .w { pc:=.s1,old:=old,nw:=newOf old aw sv,aw:=aw,sv:=sv,it:=it }) (by split <;> rfl) (if_neg h8) ?_;refine au 22357142120 ?_;obtain ⟨w0,hw0⟩:∃ w0:Bool,w0=(wst !=0):=⟨_,rfl⟩;rw [<- hw0];refine TK.splitS (ι:=Int) (fun _=>.w { pc:=.s1,old:=old,nw:=newOf old aw sv,aw:=aw,sv:=sv,it:=it }) (fun _=>rfl) (fun _=>True) (fun wst=>[.v (.pointer (some ⟨y.Mu,0,none⟩)),.any,.v (.int .i64 wst),.v (.bool sv),.any,.any,.any,.any,.v (.bool w0),.any,.any,.any,.any,.any,.any,.any,.any,.any,.any,.any,.any,.any,.any,.any,.any,.any,.any,.any,.any,.any,.any,.any,.any,.any,.any,.any,.any,.any,.any,.any,.any,.any,.any,.any,.any,.any,.any,.any,.any,.any,.any,.any,.any,.any,.any,.any,.any,.any,.any,.any,.any,.any,.any,.any,.any,.any,.any,.any,.any,.any,.any,.any,.any,.any,.any,.any,.any,.any,.any,.any,.any,.any,.any,.any,.any,.any,.any,.any,.any,.any,.any,.any,.any,.any,.any,.any,.any,.any,.any,.any,.any,.any,.any,.any,.any,.any,.any,.any,.any,.any,.any,.any,.any,.any,.any,.any,.any,.any,.any,.any,.any,.any,.any,.any,.any,.any,.any,.any,.any,.any,.any,.any,.any,.any,.any,.any,.any,.any,.any]) [(lo.1,AObj.gone)] (fun hsh=>?_) ?_
       ·skip;refine au 93714 ?_;constructor<;>intro hc9
        ·have h9:wst=0:=by simpa using hc9
         refine TK.castT (T':=.w { pc:=.t1,old:=old,nw:=newOf old aw sv,aw:=aw,sv:=sv,it:=it }) Z (if_pos h9) ?_;refine au 4 ?_;refine TK.sTime (fun _=>.w { pc:=.s1,old:=old,nw:=newOf old aw sv,aw:=aw,sv:=sv,it:=it }) rfl rfl rfl (fun s t _=>mx0 (.t1 rfl)) (fun _=>rfl) (fun _=>rfl) (fun _ h=>by cases h) fun t k6 hk6=>?_;refine au 35 ?_;refine TK.maskL [0,2,3,8] ?_;exact hsh _ _ oQ trivial
        have h9:¬ wst=0:=by simpa using hc9
        refine TK.castT (T':=.w { pc:=.s1,old:=old,nw:=newOf old aw sv,aw:=aw,sv:=sv,it:=it }) Z (if_neg h9) ?_;refine au 120 ?_;refine TK.maskL [0,2,3,8] ?_;exact hsh _ _ oQ trivial
       ·intro k6 wst2 hk6 _;refine au 142 ?_;refine TK.a Z (yx Z Z) ?_;refine TK.a Z (z8 Z Z zf.h dQ) ?_;refine au 1 ?_;refine TK.sSem (if sv=true then .w { pc:=.r2,old:=old,nw:=newOf old aw sv,aw:=aw,sv:=sv,it:=it } else .w { pc:=.t2,old:=old,nw:=newOf old aw sv,aw:=aw,sv:=sv,it:=it }) Z Z Z Z (fun c hc=>by simp at hc; subst hc; rfl) rfl (fun s _ hz=>?_) ⟨rfl,by split <;> rfl⟩ (by split <;> rfl) (by split <;> exact fun h=>by cases h) fun k7 hk7=>?_
        ·split
         ·rename_i h; exact mxS (.s1s rfl hz h)
         ·exact mxS (.s1 rfl hz)
        refine au 23 ?_;refine TK.shareS (ι:=Bool) (fun b=>.w { pc:=.r2,old:=old,nw:=newOf old aw sv,aw:=aw,sv:=b,it:=it }) (fun _=>rfl) (fun _=>True) (fun b=>[.v (.pointer (some ⟨y.Mu,0,none⟩)),.any,.v (.int .i64 wst2),.v (.bool b),.any,.any,.any,.any,.any,.any,.any,.any,.any,.any,.any,.any,.any,.any,.any,.any,.any,.any,.any,.any,.any,.any,.any,.any,.any,.any,.any,.any,.any,.any,.any,.any,.any,.any,.any,.any,.any,.any,.any,.any,.any,.any,.any,.any,.any,.any,.any,.any,.any,.any,.any,.any,.any,.any,.any,.any,.any,.any,.any,.any,.any,.any,.any,.any,.any,.any,.any,.any,.any,.any,.any,.any,.any,.any,.any,.any,.any,.any,.any,.any,.any,.any,.any,.any,.any,.any,.any,.any,.any,.any,.any,.any,.any,.any,.any,.any,.any,.any,.any,.any,.any,.any,.any,.any,.any,.any,.any,.any,.any,.any,.any,.any,.any,.any,.any,.any,.any,.any,.any,.any,.any,.any,.any,.any,.any,.any,.any,.any,.any,.any,.any,.any,.any,.any,.any]) [(lo.1,AObj.gone)] (fun hsh=>?_) ?_
        ·skip;refine au 114 ?_;refine TK.sp 95 (fun g28_2=>?_) (fun g28_2=>?_)
         ·refine TK.castT (T':=.w { pc:=.r2,old:=old,nw:=newOf old aw sv,aw:=aw,sv:=true,it:=it }) Z ?_ ?_
          ·rw [if_pos g28_2,g28_2]
          refine au 352608888 ?_;refine TK.maskL [0,2,3] ?_;exact hsh _ true oQ trivial
         refine TK.castT (T':=.w { pc:=.t2,old:=old,nw:=newOf old aw sv,aw:=aw,sv:=sv,it:=it }) Z (if_neg (by rw [g28_2]; decide)) ?_;refine TK.sTime (fun t=>.w { pc:=.r2,old:=old,nw:=newOf old aw sv,aw:=aw,sv:=decide (IntKind.i64.wrap (t - wst2)>1000000),it:=it }) rfl rfl rfl (fun s t _=>mx0 (.t2 _ rfl)) (fun _=>rfl) (fun _=>rfl) (fun _ h=>by cases h) fun t k9 hk9=>?_;refine au 1 ?_;refine TK.a Z (vX Z Z Z (.inr ⟨rfl,rfl⟩)) ?_;refine au 352507 ?_;refine TK.maskL [0,2,3] ?_;exact hsh _ _ oQ trivial
        ·intro k8 sv2 hk8 _;refine au 142 ?_;refine TK.a Z (yx Z Z) ?_;refine TK.a Z (z8 Z Z zf.h dQ) ?_;refine TK.sLoad (fun v=>if Mx.st v=0 then .w (Mx.hd { pc:=.r2,old:=v,nw:=newOf old aw sv,aw:=true,sv:=sv2,it:=0 }) else .w { pc:=.a1,old:=old,nw:=if sv2=false\/Mx.wt v=1 then 1 else 0,aw:=aw,sv:=sv2,it:=it }) rfl rfl rfl rfl (ld21 Z) nr212 (fun s hok=>?_) (fun v=>by split; exact hd_dl _; rfl) (fun v=>by split; exact wy _; rfl) (fun v=>by split; exact hd_kd _; exact fun h=>by cases h) fun s hok k9 hk9=>?_
         ·split
          ·rename_i h; exact mx0 (.r2n rfl h)
          ·rename_i h; exact mx0 (.r2s rfl (by have h0:¬ s.mu / 4 % 2=0:=h; show s.mu / 4 % 2=1; omega))
         refine au 0 ?_;obtain ⟨v,hv⟩:∃ v,v=s.mu:=⟨_,rfl⟩;have hv1:v<256:=hv ▸ hok.1;have hv2:(Mx.st v=1->Mx.lk v=0/\Mx.wk v=0/\1<=Mx.wt v)/\(Mx.st v=0->Mx.wk v=1):=hv ▸ hok.2.2.2.2.2.2;rw [<- hv];clear hok hv s;refine au 142235 ?_;refine TK.a Z (yN Z Z Z (.inl Z) (bA4 v oQ)) ?_;refine au 937 ?_;constructor<;>intro hc10
         ·have h10:Mx.st v=1:=by simp at hc10; dsimp only [Mx.st,Mx.lk,Mx.wk,Mx.wt] at *; omega
          obtain ⟨h11,h12,h13⟩:=hv2.1 h10;refine TK.castT (T':=.w { pc:=.a1,old:=old,nw:=if sv2=false\/Mx.wt v=1 then 1 else 0,aw:=aw,sv:=sv2,it:=it }) Z (if_neg oQ) ?_;refine au 1422 ?_;refine TK.a Z (yN Z Z Z (.inl Z) (bA3 v oQ)) ?_;refine au 17 ?_;refine TK.sp 111 (fun g31_4=>?_) (fun g31_4=>?_)
          ·exfalso;simp at g31_4;dsimp only [Mx.st,Mx.lk,Mx.wk,Mx.wt] at *
           omega
          refine au 1 ?_;refine TK.a Z (q_sh Z Z Z dQ (r:=((v / 8:Nat):Int)) (by show ((v:Nat):Int) / 8=((v / 8:Nat):Int); omega)) ?_;refine au 932507 ?_;constructor<;>intro hc11
          ·exfalso;simp at hc11;dsimp only [Mx.st,Mx.lk,Mx.wk,Mx.wt] at *
           omega
          refine au 130014223542120 ?_;refine TK.sp 119 (fun g34_3=>?_) (fun g34_3=>?_)
          ·have h34:sv2=false:=by simpa using g34_3
           refine TK.castT (T':=.w { pc:=.a1,old:=old,nw:=1,aw:=aw,sv:=sv2,it:=it }) Z (by rw [if_pos (.inl h34)]) ?_;refine au 141803260888 ?_;refine TK.a Z (vX Z Z Z (r := -11) (.inr ⟨rfl,by decide⟩)) ?_;refine au 14235 ?_;refine TK.a Z (yx Z Z) ?_;refine TK.a Z (z8 Z Z zf.h dQ) ?_;refine au 1 ?_;refine TK.sAdd (-11) (fun v=>v+1 - 8 - 4*1) (fun _=>.w { pc:=.le }) rfl rfl rfl rfl rfl (fun s hok=>by obtain ⟨q1,_,_,_,_,_,q2,q3,q4,q5,q6⟩:=hok; dsimp only [Mx.st,Mx.lk,Mx.wk,Mx.wt] at *; rw [w32 oQ]; omega) (fun s _=>mxM (.a1 rfl)) ⟨mS,fun _=>rfl⟩ (fun _=>rfl) (fun _ h=>by cases h) fun s _ k7 hk7=>?_;refine au 421801603 ?_;refine TK.sMark (.w { pc:=.la }) .enable sQ Z Z Z (fun s _=>mx0 (.le rfl)) (we 0) rfl (fun k8 hk8=>?_);refine au 143 ?_;refine TK.sConv Z Z Z uP256 uP219 z192 (fun w s h=>⟨_,h.1.cellSt⟩) ?_;refine au 0 ?_;refine TK.acqL Z Z Z Z Z hl1 hl2 hGI fun k9 x5 K5 hk9 hx5 hp5=>?_;refine au 3 ?_;refine TK.rt0a (hret (hT':=y.shutF _ _ _ _ _ _)) ?_ res_0;exact ⟨rfl,_,_,oQ,hx5,hp5,rfl⟩
          refine au 1 ?_;refine TK.a Z (q_sh Z Z Z dQ (r:=((v / 8:Nat):Int)) (by show ((v:Nat):Int) / 8=((v / 8:Nat):Int); omega)) ?_;refine au 932507 ?_;constructor<;>intro hc12
          ·have h35:Mx.wt v=1:=by simp at hc12; dsimp only [Mx.st,Mx.lk,Mx.wk,Mx.wt] at *; omega
           refine TK.castT (T':=.w { pc:=.a1,old:=old,nw:=1,aw:=aw,sv:=sv2,it:=it }) Z (by rw [if_pos (.inr h35)]) ?_;refine au 14 ?_;refine TK.a Z (vX Z Z Z (r := -11) (.inr ⟨rfl,by decide⟩)) ?_;refine au 14235 ?_;refine TK.a Z (yx Z Z) ?_;refine TK.a Z (z8 Z Z zf.h dQ) ?_;refine au 1 ?_;refine TK.sAdd (-11) (fun v=>v+1 - 8 - 4*1) (fun _=>.w { pc:=.le }) rfl rfl rfl rfl rfl (fun s hok=>by obtain ⟨q1,_,_,_,_,_,q2,q3,q4,q5,q6⟩:=hok; dsimp only [Mx.st,Mx.lk,Mx.wk,Mx.wt] at *; rw [w32 oQ]; omega) (fun s _=>mxM (.a1 rfl)) ⟨mS,fun _=>rfl⟩ (fun _=>rfl) (fun _ h=>by cases h) fun s _ k7 hk7=>?_;refine au 421801603 ?_;refine TK.sMark (.w { pc:=.la }) .enable sQ Z Z Z (fun s _=>mx0 (.le rfl)) (we 0) rfl (fun k8 hk8=>?_);refine au 143 ?_;refine TK.sConv Z Z Z uP256 uP219 z192 (fun w s h=>⟨_,h.1.cellSt⟩) ?_;refine au 0 ?_;refine TK.acqL Z Z Z Z Z hl1 hl2 hGI fun k9 x5 K5 hk9 hx5 hp5=>?_;refine au 3 ?_;refine TK.rt0a (hret (hT':=y.shutF _ _ _ _ _ _)) ?_ res_0;exact ⟨rfl,_,_,oQ,hx5,hp5,rfl⟩
          have h35:¬ Mx.wt v=1:=by simp at hc12; dsimp only [Mx.st,Mx.lk,Mx.wk,Mx.wt] at *; omega
          have h34:¬ sv2=false:=by simpa using g34_3
          refine TK.castT (T':=.w { pc:=.a1,old:=old,nw:=0,aw:=aw,sv:=sv2,it:=it }) Z (by rw [if_neg (by rintro (h | h); exact h34 h; exact h35 h)]) ?_;refine au 142120 ?_;refine TK.a Z (yx Z Z) ?_;refine TK.a Z (z8 Z Z zf.h dQ) ?_;refine au 1 ?_;refine TK.sAdd (-7) (fun v=>v+1 - 8 - 4*0) (fun _=>.w { pc:=.le }) rfl rfl rfl rfl rfl (fun s hok=>by obtain ⟨q1,_,_,_,_,_,q2,q3,q4,q5,q6⟩:=hok; dsimp only [Mx.st,Mx.lk,Mx.wk,Mx.wt] at *; rw [w32 oQ]; omega) (fun s _=>mxM (.a1 rfl)) ⟨mS,fun _=>rfl⟩ (fun _=>rfl) (fun _ h=>by cases h) fun s _ k7 hk7=>?_;refine au 421801603 ?_;refine TK.sMark (.w { pc:=.la }) .enable sQ Z Z Z (fun s _=>mx0 (.le rfl)) (we 0) rfl (fun k8 hk8=>?_);refine au 143 ?_;refine TK.sConv Z Z Z uP256 uP219 z192 (fun w s h=>⟨_,h.1.cellSt⟩) ?_;refine au 0 ?_;refine TK.acqL Z Z Z Z Z hl1 hl2 hGI fun k9 x5 K5 hk9 hx5 hp5=>?_;refine au 3 ?_;refine TK.rt0a (hret (hT':=y.shutF _ _ _ _ _ _)) ?_ res_0;exact ⟨rfl,_,_,oQ,hx5,hp5,rfl⟩
         have h10:Mx.st v=0:=by simp at hc10; dsimp only [Mx.st,Mx.lk,Mx.wk,Mx.wt] at *; omega
         refine TK.castT (T':=.w (Mx.hd { pc:=.r2,old:=v,nw:=newOf old aw sv,aw:=true,sv:=sv2,it:=0 })) (wy _) (if_pos h10) ?_;refine au 1403543542120 ?_;refine TK.maskL [0,2,3,4,5,6] ?_;exact ih _ ({ pc:=.r2,old:=v,nw:=newOf old aw sv,aw:=true,sv:=sv2,it:=0 },wst2) _ _ oQ ⟨hv1,(fun _=>hv2.2 h10),(fun _=>rfl),by show 0<=4; omega,rfl,rfl⟩
      ·refine au 141903 ?_;refine TK.a Z (yx Z Z) ?_;refine TK.a Z (z8 Z Z zf.h dQ) ?_;refine TK.sLoad (fun v=>.w (Mx.hd { pc:=.r3,old:=v,nw:=newOf old aw sv,aw:=aw,sv:=sv,it:=it })) rfl rfl rfl rfl (ld21 Z) nr212 (fun s _=>mx0 (.r3 rfl)) (fun v=>hd_dl _) (fun v=>wy _) (fun v=>hd_kd _) fun s hok k9 hk9=>?_;refine au 14035 ?_;refine TK.maskL [0,2,3,4,5,6] ?_;exact ih _ ({ pc:=.r3,old:=s.mu,nw:=newOf old aw sv,aw:=aw,sv:=sv,it:=it },wst) _ _ oQ ⟨hok.1,hok.2.2.2.2.2.2,hsv,hit,rfl,rfl⟩
      ·split
       ·rename_i h; exact mxM (.c2t rfl e h.1 h.2)
       ·rename_i h;have h2:Mx.lk old=1\/Mx.st old=1:=by dsimp only [Mx.st,Mx.lk,Mx.wk,Mx.wt] at *; omega
        split
        ·exact mxM (.c2r .t1 (.inl rfl) rfl e h2)
        ·exact mxM (.c2r .s1 (.inr rfl) rfl e h2)
theorem zjD {gm:Nat->Option Nat} {main:Bool} {Ch:Nat->Goroutine->Hp->Prop} (y:Sy tp) {lo:Nat×Loc3} {PL:(Nat->Bool)->KV->Prop} {k i:Nat} {x:Nat->Bool} (hGI:GIn y lo i PL) :
  CallS tp gm lo (y.Sf main Ch k i (.w { pc:=.ld }) x) 152 [.v (.pointer (some ⟨y.Mu,0,none⟩))] [(lo.1,.gone)] (LockR y main Ch k i PL):=by
 refine wE 13 (y.shutF _ _ _ _ _ _) Tryz.func152 fun φ0 c0 cs A0 hl1 hl2 hret=>?_;refine au 42 ?_;refine TK.sMark (.w { pc:=.l0 }) .disable sQ Z Z Z (fun s _=>mx0 (.ld rfl)) (uz 0) rfl (fun k1 hk1=>?_);refine au 14223 ?_;refine TK.a Z (yx Z Z) ?_;refine TK.a Z (z8 Z Z zf.h dQ) ?_;refine TK.sCas (.w { pc:=.le }) (.w { pc:=.r0 }) 0 1 Z Z Z Z Z Z (fun s _ e=>mxM (.l0h rfl e)) (fun s _ e=>mx0 (.l0m rfl e)) ⟨mS,rfl,rfl⟩ rfl rfl (fun h=>by cases h) (fun h=>by cases h) (fun k2 hk2=>?_) (fun k2 hk2=>?_)
 ·refine au 4218021803 ?_;refine TK.sMark (.w { pc:=.la }) .enable sQ Z Z Z (fun s _=>mx0 (.le rfl)) (we 0) rfl (fun k8 hk8=>?_);refine au 143 ?_;refine TK.sConv Z Z Z uP256 uP219 z192 (fun w s h=>⟨_,h.1.cellSt⟩) ?_;refine au 0 ?_;refine TK.acqL Z Z Z Z Z hl1 hl2 hGI fun k9 x5 K5 hk9 hx5 hp5=>?_;refine au 3 ?_;refine TK.rta (hret (hT':=y.shutF _ _ _ _ _ _)) ?_ res_0;exact ⟨rfl,_,_,oQ,hx5,hp5,rfl⟩
 ·refine au 141201903 ?_;refine TK.callS Z Z Z Z (zfr y hGI) hl1 hl2 ?_;rintro r2 K2 T2 ⟨rfl,k2,x2,hk2,hx2,hp2,rfl⟩;refine ⟨y.shutF _ _ _ _ _ _,?_⟩;rw [lR];refine au 3 ?_;refine TK.rt0a (hret (hT':=y.shutF _ _ _ _ _ _)) ?_ res_0;exact ⟨rfl,_,_,oQ,hx2,hp2,rfl⟩
theorem zk6 {gm:Nat->Option Nat} {main:Bool} {Ch:Nat->Goroutine->Hp->Prop} (y:Sy tp) {lo:Nat×Loc3} {PL:(Nat->Bool)->KV->Prop} {k i:Nat} {x:Nat->Bool} (hGI:GIn y lo i PL) :
  CallS tp gm lo (y.Sf main Ch k i (.w { pc:=.ld }) x) 108 [.v (.pointer (some ⟨y.Mu,0,none⟩))] [(lo.1,.gone)] (LockR y main Ch k i PL):=by
 refine wE 6 (y.shutF _ _ _ _ _ _) Tryz.func108 fun φ0 c0 cs A0 hl1 hl2 hret=>?_;refine au 14 ?_;refine TK.a Z (yx Z Z) ?_;refine TK.a Z (z8 Z Z zf.h dQ) ?_;refine TK.callS Z Z Z Z (zjD y hGI) hl1 hl2 ?_;rintro r2 K2 T2 ⟨rfl,k2,x2,hk2,hx2,hp2,rfl⟩;refine ⟨y.shutF _ _ _ _ _ _,?_⟩;rw [lR];refine au 3 ?_;refine TK.rt0a (hret (hT':=y.shutF _ _ _ _ _ _)) ?_ res_0;exact ⟨rfl,_,_,oQ,hx2,hp2,rfl⟩
theorem zdF {main:Bool} {Ch:Nat->Goroutine->Hp->Prop} (y:Sy tp) {k i v:Nat} {x:Nat->Bool} (hv:v<256) (hl:Mx.lk v=1) :
  CallZ tp (y.Sf main Ch k i (if Mx.st v=1 then .w { pc:=.us } else .w (Mx.hdU (v - 1))) x) 190 [.pointer (some ⟨y.Mu,0,none⟩),.int .i32 ((v - 1:Nat):Int)] (fun T'=>∃ k',k'<=k/\T'=y.Sf main Ch k' i (.w { pc:=.ue }) x):=by
 refine zdS 43 (y.shutF _ _ _ _ _ _) Tryz.func190 fun φ0 c0 cs hret=>?_;refine TK.nrm (env':=[.v (.pointer (some ⟨y.Mu,0,none⟩)),.v (.int .i32 ((v - 1:Nat):Int)),.any,.any,.any,.any,.any,.any,.any,.any,.any,.any,.any,.any,.any,.any,.any,.any,.any,.any,.any,.any,.any,.any,.any,.any,.any,.any,.any,.any,.any,.any,.any,.any,.any,.any,.any,.any,.any,.any,.any,.any,.any]) ?_ Z rfl;refine au 1422 ?_;refine TK.a Z (vX Z Z Z (r:=((v:Nat):Int)) (.inl ⟨rfl,by rw [w32 oQ]; dsimp only [Mx.st,Mx.lk,Mx.wk,Mx.wt] at *; omega⟩)) ?_;refine TK.a Z (yN Z Z Z (.inl Z) (bA1 v oQ)) ?_;refine au 937 ?_;constructor<;>intro hc0
 ·exfalso;simp at hc0;dsimp only [Mx.st,Mx.lk,Mx.wk,Mx.wt] at *
  omega
 refine au 142120 ?_;refine TK.a Z (yN Z Z Z (.inl Z) (bA4 (v - 1) oQ)) ?_;refine au 937 ?_;constructor<;>intro hc1
 ·have h1:¬ Mx.st v=1:=by simp at hc1; dsimp only [Mx.st,Mx.lk,Mx.wk,Mx.wt] at *; omega
  refine TK.castT (T':=.w (Mx.hdU (v - 1))) (uC _) (if_neg h1) ?_;refine au 13035142 ?_;refine TK.maskL [0,4] ?_;refine TK.loopS (ι:=Nat) (fun b=>.w (Mx.hdU b)) (fun b=>uC b) (fun (b:Nat) env K=>b<256/\K=[]/\env=[.v (.pointer (some ⟨y.Mu,0,none⟩)),.any,.any,.any,.v (.int .i32 ((b:Nat):Int)),.any,.any,.any,.any,.any,.any,.any,.any,.any,.any,.any,.any,.any,.any,.any,.any,.any,.any,.any,.any,.any,.any,.any,.any,.any,.any,.any,.any,.any,.any,.any,.any,.any,.any,.any,.any,.any,.any]) (v - 1) ⟨by omega,rfl,rfl⟩ rfl ?_;rintro k2 hk2 old env K ⟨hold,rfl,rfl⟩ ih;refine au 1422130 ?_;refine TK.a Z (q_sh Z Z Z dQ (r:=((old / 8:Nat):Int)) (by show ((old:Nat):Int) / 8=((old / 8:Nat):Int); omega)) ?_;refine au 17 ?_;refine TK.sp 17 (fun g4_4=>?_) (fun g4_4=>?_)
  ·have h2:Mx.wt old=0\/old % 8≠0:=by left; simp at g4_4; dsimp only [Mx.st,Mx.lk,Mx.wk,Mx.wt] at *; omega
   refine TK.castT (T':=.w { pc:=.ue }) Z (congrArg TT.w (if_pos h2)) ?_;refine au 1803260888 ?_;refine TK.retZ Tryz.func190 (fun v H'=>hret _ v H' ⟨_,oQ,rfl⟩) res_0;skip
  refine au 1 ?_;refine TK.a Z (yN Z Z Z (.inl Z) (bA7 old oQ)) ?_;refine au 932507 ?_;constructor<;>intro hc2
  ·have h2:Mx.wt old=0\/old % 8≠0:=by right; simp at hc2; omega
   refine TK.castT (T':=.w { pc:=.ue }) Z (congrArg TT.w (if_pos h2)) ?_;refine au 0 ?_;refine TK.retZ Tryz.func190 (fun v H'=>hret _ v H' ⟨_,oQ,rfl⟩) res_0;skip
  have h2:¬ (Mx.wt old=0\/old % 8≠0):=by simp at g4_4 hc2; dsimp only [Mx.st,Mx.lk,Mx.wk,Mx.wt] at *; omega
  refine TK.castT (T':=.w { pc:=.uc,old:=old,nw:=old - 8+2 }) Z (congrArg TT.w (if_neg h2)) ?_;refine au 142120 ?_;refine TK.a Z (vX Z Z Z (r:=((old - 8:Nat):Int)) (.inr ⟨rfl,by rw [w32 oQ]; dsimp only [Mx.st,Mx.lk,Mx.wk,Mx.wt] at *; omega⟩)) ?_;refine TK.a Z (yN Z Z Z (.inr (.inl Z)) (bO2 (old - 8) oQ)) ?_;refine au 142235 ?_;refine TK.a Z (yx Z Z) ?_;refine TK.a Z (z8 Z Z zf.h dQ) ?_;refine au 11 ?_;have hnew:old - 8 - 2*((old - 8) / 2 % 2)+2=old - 8+2:=by dsimp only [Mx.st,Mx.lk,Mx.wk,Mx.wt] at *; omega
  refine TK.sCas (.w { pc:=.us }) (.w { pc:=.ux }) old (old - 8 - 2*((old - 8) / 2 % 2)+2) Z Z Z Z Z Z (fun s _ e=>by rw [hnew]; exact mxM (.uch rfl e)) (fun s _ e=>mx0 (.ucm rfl e)) ⟨mS,rfl,rfl⟩ rfl rfl (fun h=>by cases h) (fun h=>by cases h) (fun k4 hk4=>?_) (fun k4 hk4=>?_)
  ·refine au 1421803 ?_;refine TK.a Z (yx Z Z) ?_;refine TK.a Z (z8 Z Z zf.h dQ) ?_;refine TK.sRel (.w { pc:=.ue }) Z Z Z Z Z (fun c hc=>by simp at hc; subst hc; rfl) rfl (fun s _=>mxS (.us rfl)) ⟨rfl,rfl⟩ rfl (fun h=>by cases h) (fun k5 hk5=>?_);refine au 3 ?_;refine TK.retZ Tryz.func190 (fun v H'=>hret _ v H' ⟨_,oQ,rfl⟩) res_0;skip
  ·refine au 141201903 ?_;refine TK.a Z (yx Z Z) ?_;refine TK.a Z (z8 Z Z zf.h dQ) ?_;refine TK.sLoad (fun v=>.w (Mx.hdU v)) rfl rfl rfl rfl (ld21 Z) nr214 (fun s _=>mx0 (.ux rfl)) (fun v=>zhH _) (fun v=>uC _) (fun v=>zhI _) fun s hok k5 hk5=>?_;refine au 14035 ?_;refine TK.maskL [0,4] ?_;exact ih _ s.mu _ _ oQ ⟨hok.1,rfl,rfl⟩
 have h1:Mx.st v=1:=by simp at hc1; dsimp only [Mx.st,Mx.lk,Mx.wk,Mx.wt] at *; omega
 refine TK.castT (T':=.w { pc:=.us }) Z (if_pos h1) ?_;refine au 14 ?_;refine TK.a Z (yx Z Z) ?_;refine TK.a Z (z8 Z Z zf.h dQ) ?_;refine TK.sRel (.w { pc:=.ue }) Z Z Z Z Z (fun c hc=>by simp at hc; subst hc; rfl) rfl (fun s _=>mxS (.us rfl)) ⟨rfl,rfl⟩ rfl (fun h=>by cases h) (fun k5 hk5=>?_);refine au 3 ?_;refine TK.retZ0 Tryz.func190 (fun v H'=>hret _ v H' ⟨_,oQ,rfl⟩) res_0;skip
theorem zhg {gm:Nat->Option Nat} {main:Bool} {Ch:Nat->Goroutine->Hp->Prop} (y:Sy tp) {lo:Nat×Loc3} {K0:KV} {k i:Nat} {x:Nat->Bool} (hgive:∀ A φ H,lo.1<A.length->φ lo.1=lo.2->zQ K0 A->(keys K0).Nodup->RelH φ A nF H->∃ L',L'.Sub H/\y.GI (upd x i true) L') :
  CallE tp gm lo (y.Sf main Ch k i (.w { pc:=.ur }) x) 153 [.v (.pointer (some ⟨y.Mu,0,none⟩))] K0 (fun T'=>∃ k',k'<=k/\T'=y.Sf main Ch k' i (.w { pc:=.wr }) x):=by
 refine zdO 21 (y.shutF _ _ _ _ _ _) Tryz.func153 fun φ0 c0 cs A0 hl1 hl2 hret=>?_;refine au 1421802 ?_;refine TK.a Z (yx Z Z) ?_;refine TK.a Z (z8 Z Z zf.h dQ) ?_;refine TK.sPeek Z Z Z (ld21 Z) nr179 (fun v0=>?_);refine au 1423 ?_;refine TK.sConv Z Z Z uP256 uP219 z192 (fun w s h=>⟨_,h.1.cellSt⟩) ?_;refine au 0 ?_;refine TK.relL Z Z Z Z Z hl1 hl2 hgive (fun k1 hk1=>?_);refine au 43 ?_;refine TK.sMark (.w { pc:=.u0 }) .disable sQ Z Z Z (fun s _=>mx0 (.ud rfl)) (uz 0) rfl (fun k2 hk2=>?_);refine au 1423 ?_;refine TK.a Z (yx Z Z) ?_;refine TK.a Z (z8 Z Z zf.h dQ) ?_;refine TK.sAdd (-1) (fun v=>v - 1) (fun v=>if v=1 then .w { pc:=.ue } else (if Mx.st v=1 then .w { pc:=.us } else .w (Mx.hdU (v - 1)))) rfl rfl rfl rfl rfl (fun s hok=>by obtain ⟨q1,_,_,_,_,_,q2⟩:=hok; dsimp only [Mx.st,Mx.lk,Mx.wk,Mx.wt] at *; rw [w32 oQ]; omega) (fun s _=>?_) ⟨mS,fun v=>by split; rfl; split; rfl; exact zhH _⟩ (fun v=>by split; rfl; split; rfl; exact uC _) (fun v=>by split; (exact fun h=>(by cases h)); split; (exact fun h=>(by cases h)); exact zhI _) fun s hok k3 hk3=>?_
 ·split
  ·rename_i h; rw [h]; exact mxM (.u0z rfl h)
  ·rename_i h; split
   ·rename_i h2; exact mxM (.u0s rfl h h2)
   ·rename_i h2; exact mxM (.u0n rfl h (by have h0:¬ s.mu / 4 % 2=1:=h2; show s.mu / 4 % 2=0; omega))
 refine au 0 ?_;obtain ⟨v,hv⟩:∃ v,v=s.mu:=⟨_,rfl⟩;have hv1:v<256:=hv ▸ hok.1;have hv2:Mx.lk v=1:=hv ▸ hok.2.2.2.2.2.2;rw [<- hv];clear hok hv s;refine au 937142235 ?_;constructor<;>intro hc1
 ·have h1:¬ v=1:=by simp at hc1; omega
  refine TK.castT (T':=(if Mx.st v=1 then .w { pc:=.us } else .w (Mx.hdU (v - 1)))) (by split; rfl; exact uC _) (if_neg h1) ?_;refine au 114 ?_;refine TK.callZ (vs:=[.pointer (some ⟨y.Mu,0,none⟩),.int .i32 ((v - 1:Nat):Int)]) Z Z Z Z (zdF y hv1 hv2) ?_;rintro T4 r4 ⟨k4,hk4,rfl⟩;refine ⟨y.shutF _ _ _ _ _ _,?_⟩;refine au 43 ?_;refine TK.sMark (.w { pc:=.wr }) .enable sQ Z Z Z (fun s _=>mx0 (.ue rfl)) (we 0) rfl (fun k8 hk8=>?_);refine au 3 ?_;refine TK.retZ0 Tryz.func153 (fun v H'=>hret _ v H' ⟨_,oQ,rfl⟩) res_0;skip
 have h1:v=1:=by simp at hc1; dsimp only [Mx.st,Mx.lk,Mx.wk,Mx.wt] at *; omega
 refine TK.castT (T':=.w { pc:=.ue }) Z (if_pos h1) ?_;refine au 4120 ?_;refine TK.sMark (.w { pc:=.wr }) .enable sQ Z Z Z (fun s _=>mx0 (.ue rfl)) (we 0) rfl (fun k8 hk8=>?_);refine au 3 ?_;refine TK.retZ0 Tryz.func153 (fun v H'=>hret _ v H' ⟨_,oQ,rfl⟩) res_0;skip
theorem zaR {gm:Nat->Option Nat} {main:Bool} {Ch:Nat->Goroutine->Hp->Prop} (y:Sy tp) {lo:Nat×Loc3} {K0:KV} {k i:Nat} {x:Nat->Bool} (hgive:∀ A φ H,lo.1<A.length->φ lo.1=lo.2->zQ K0 A->(keys K0).Nodup->RelH φ A nF H->∃ L',L'.Sub H/\y.GI (upd x i true) L') :
  CallE tp gm lo (y.Sf main Ch k i (.w { pc:=.ur }) x) 110 [.v (.pointer (some ⟨y.Mu,0,none⟩))] K0 (fun T'=>∃ k',k'<=k/\T'=y.Sf main Ch k' i (.w { pc:=.wr }) x):=by
 refine zdO 6 (y.shutF _ _ _ _ _ _) Tryz.func110 fun φ0 c0 cs A0 hl1 hl2 hret=>?_;refine au 14 ?_;refine TK.a Z (yx Z Z) ?_;refine TK.a Z (z8 Z Z zf.h dQ) ?_;refine TK.callE Z Z Z Z (zhg y hgive) hl1 hl2 ?_;rintro T4 r4 ⟨k4,hk4,rfl⟩;refine ⟨y.shutF _ _ _ _ _ _,?_⟩;refine au 3 ?_;refine TK.retZ0 Tryz.func110 (fun v H'=>hret _ v H' ⟨_,oQ,rfl⟩) res_0;skip
end Go.Vel
namespace Go.Vel
open Go Go.Conc
open Go.ConcN (sumTo upd upd_ne upd_same)
open Go.ConcM (OsLater MuAt muA msA)
open Go.ConcR (KK wgBlock WgAt stA smA mk rd wr)
open Mx (TT Th Mn S4 auto Mv4 ok4 bl4 kd dl MPc Pc okW okM Mv nx4)
section
variable {P:Program} {gm:Nat->Option Nat} {y:Sy P} {main:Bool} {Ch:Nat->Goroutine->Hp->Prop} {k i:Nat} {T:TT} {x:Nat->Bool}
variable {φ0:Nat->Loc3} {kdf:CallKind} {hkd:kdf≠.early} {f:FuncId} {cs:List Frame} {de:List Deferred} {A0:List AObj} {K0:List Nat} {ds:List Nat} {kk:List Item} {env env':List AV} {K:KV} {ops:Array Oper} {q:Nat} {rest:List Nat} {o:Oper}
def gval (s:S4):Int:=(s.v:Int)*KK+s.wt
theorem uF {t:TypeId} {M:Nat} {w:World} {a b:Int} (h:MuAt t M w a b) {l:Addr} (hne:l.block≠M) (v:Value):MuAt t M (w.setCell l v) a b:=by
 unfold MuAt at *
 simp only [World.setCell];rw [Array.getElem?_modify,if_neg hne];exact h
theorem wg_ne (l:Addr) (h:l.block=y.Wg):l.block≠y.Mu:=fun e=>y.hne (e.symm.trans h)
theorem TK.gAdd {g:FuncId} {ca cb:Operand} {ats:Array TypeId} {e:Array Value->Sem Value} (d:Int) (new:S4->S4) (Tn:S4->TT) [hx:Ext P g e] (ho:ops[q]? =some o) (hop:o.op=.call { callee:=.value (.func g),args:=#[ca,cb],argTypes:=ats }) (hw:zO ops env o=some true)
  (h1:zo gm env ca=some (.v (.pointer (some (stA y.Wg))))) (h2:zo gm env cb=some (.v (.int .u64 d)))
  (hnew:∀ s,ok4 T s->IntKind.u64.wrap (gval s+d)=gval (new s)/\(new s).mu=s.mu/\(new s).ms=s.ms/\(new s).ws=s.ws) (hmv:∀ s,ok4 T s->Mv4 y.n T s (Tn s) (new s)) (hdl:0<dl T/\∀ s,dl (Tn s)=dl T) (hT':∀ s,y.A.aft (Tn s)=false) (hk':∀ s,kd (Tn s)≠.quit)
  (h:∀ (s:S4),ok4 T s->∀ k',k'<k->TK ((YT y main Ch) k' i (Tn s) x gm φ0 kdf hkd f cs de A0 K0) ds (.inRegion ops rest::kk) (zR env o.dst (.v (.int .u64 (gval (new s))))) K)
  (he:e=Extern.Atomic.update (Op.intArith .add) .u64 true:=by rfl) (hk:kd T=.book:=by rfl) (hb:∀ s,¬ bl4 T s:=by exact fun _ h=>by cases h.1) (hwk:¬ y.A.wk T:=by exact fun h=>by cases h <;> rename_i h <;> cases h) :
  TK ((YT y main Ch) k i T x gm φ0 kdf hkd f cs de A0 K0) ds (.inRegion ops (q::rest)::kk) env K:=by
 refine TK.book (o:=o) hk (fun h=>absurd h hwk) fun w s ts dd φ n hg hE hsh hok=>.inr ⟨hb s,?_⟩;obtain ⟨fn,e1,e2,e3,e4,e5⟩:=hx.h;subst he;obtain ⟨hn1,hn2,hn3,hn4⟩:=hnew s hok;refine ⟨Tn s,new s,.int .u64 (gval (new s)),_,_,hmv s hok,?_,kM (a:=stA y.Wg) (.inr Z) (.int .u64 (gval (new s))),⟨?_,?_⟩,by rw [hdl.2]; exact uB hdl.1 (a:=stA y.Wg) (.inr Z),hk' _,hT' _,fun k' hk''=>h s hok k' hk''⟩
 ·rw [fr_at,stepG_add_atomic (b:=bf kdf f) (a:=⟨ts,dd⟩) ho (zP (ts:=ts) hE hw) hkd hop e1 e2 e3 e4 .u64 e5 (ad:=stA y.Wg) (v:=gval s) (d:=d) (ev_v hg hE h1) (ev_v hg hE h2) hsh.2.cellSt (hsh.2.thaw 0),yi,hn1]; rfl
 ·rw [hn2,hn3]; exact uF hsh.1 (wg_ne (stA y.Wg) rfl) _
 ·rw [hn4]; exact hsh.2.setSt _
theorem TK.gLoad {g:FuncId} {ca:Operand} {ats:Array TypeId} {e:Array Value->Sem Value} (Tn:S4->TT) [hx:Ext P g e] (ho:ops[q]? =some o) (hop:o.op=.call { callee:=.value (.func g),args:=#[ca],argTypes:=ats }) (hw:zO ops env o=some true)
  (h1:zo gm env ca=some (.v (.pointer (some (stA y.Wg))))) (hmv:∀ s,ok4 T s->Mv4 y.n T s (Tn s) s) (hdl:0<dl T/\∀ s,dl (Tn s)=dl T) (hT':∀ s,y.A.aft (Tn s)=false) (hk':∀ s,kd (Tn s)≠.quit)
  (h:∀ (s:S4),ok4 T s->∀ k',k'<k->TK ((YT y main Ch) k' i (Tn s) x gm φ0 kdf hkd f cs de A0 K0) ds (.inRegion ops rest::kk) (zR env o.dst (.v (.int .u64 (gval s)))) K)
  (he:e=Extern.Atomic.loadT (.int .u64):=by rfl) (hk:kd T=.book:=by rfl) (hb:∀ s,¬ bl4 T s:=by exact fun _ h=>by cases h.1) (hwk:¬ y.A.wk T:=by exact fun h=>by cases h <;> rename_i h <;> cases h) :
  TK ((YT y main Ch) k i T x gm φ0 kdf hkd f cs de A0 K0) ds (.inRegion ops (q::rest)::kk) env K:=by
 refine TK.book (o:=o) hk (fun h=>absurd h hwk) fun w s ts dd φ n hg hE hsh hok=>.inr ⟨hb s,?_⟩;obtain ⟨fn,e1,e2,e3,e4,e5⟩:=hx.h;subst he;refine ⟨Tn s,s,.int .u64 (gval s),w,_,hmv s hok,?_,kG w,hsh,by rw [hdl.2]; exact evb_r hdl.1 (a:=stA y.Wg) (.inr Z),hk' _,hT' _,fun k' hk''=>h s hok k' hk''⟩;rw [fr_at,stepG_load_atomic (b:=bf kdf f) (a:=⟨ts,dd⟩) ho (zP (ts:=ts) hE hw) hkd hop e1 e2 e3 e4 .u64 e5 (ad:=stA y.Wg) (v:=gval s) (ev_v hg hE h1) hsh.2.cellSt,yi]; rfl
theorem TK.gCas {g:FuncId} {ca cb cc:Operand} {ats:Array TypeId} {e:Array Value->Sem Value} (Th Tm:TT) (old nw:Int) (new:S4->S4) [hx:Ext P g e] (ho:ops[q]? =some o) (hop:o.op=.call { callee:=.value (.func g),args:=#[ca,cb,cc],argTypes:=ats }) (hw:zO ops env o=some true)
  (h1:zo gm env ca=some (.v (.pointer (some (stA y.Wg))))) (h2:zo gm env cb=some (.v (.int .u64 old))) (h3:zo gm env cc=some (.v (.int .u64 nw)))
  (hnew:∀ s,ok4 T s->gval s=old->gval (new s)=nw/\(new s).mu=s.mu/\(new s).ms=s.ms/\(new s).ws=s.ws) (hmh:∀ s,ok4 T s->gval s=old->Mv4 y.n T s Th (new s)) (hmm:∀ s,ok4 T s->gval s≠old->Mv4 y.n T s Tm s) (hdl:0<dl T/\dl Th=dl T/\dl Tm=dl T) (hTh:y.A.aft Th=false) (hTm:y.A.aft Tm=false) (hkh:kd Th≠.quit) (hkm:kd Tm≠.quit)
  (hh:∀ k',k'<k->TK ((YT y main Ch) k' i Th x gm φ0 kdf hkd f cs de A0 K0) ds (.inRegion ops rest::kk) (zR env o.dst (.v (.bool true))) K) (hmiss:∀ k',k'<k->TK ((YT y main Ch) k' i Tm x gm φ0 kdf hkd f cs de A0 K0) ds (.inRegion ops rest::kk) (zR env o.dst (.v (.bool false))) K)
  (he:e=Extern.Atomic.casT (.int .u64):=by rfl) (hk:kd T=.book:=by rfl) (hb:∀ s,¬ bl4 T s:=by exact fun _ h=>by cases h.1) (hwk:¬ y.A.wk T:=by exact fun h=>by cases h <;> rename_i h <;> cases h) :
  TK ((YT y main Ch) k i T x gm φ0 kdf hkd f cs de A0 K0) ds (.inRegion ops (q::rest)::kk) env K:=by
 refine TK.book (o:=o) hk (fun h=>absurd h hwk) fun w s ts dd φ n hg hE hsh hok=>.inr ⟨hb s,?_⟩;obtain ⟨fn,e1,e2,e3,e4,e5⟩:=hx.h;subst he;by_cases hc:gval s=old
 ·obtain ⟨hn1,hn2,hn3,hn4⟩:=hnew s hok hc;refine ⟨Th,new s,.bool true,_,_,hmh s hok hc,?_,kM (a:=stA y.Wg) (.inr Z) (.int .u64 nw),⟨?_,?_⟩,by rw [hdl.2.1]; exact uB hdl.1 (a:=stA y.Wg) (.inr Z),hkh,hTh,hh⟩
  ·rw [fr_at,stepG_cas_hit (b:=bf kdf f) (a:=⟨ts,dd⟩) ho (zP (ts:=ts) hE hw) hkd hop e1 e2 e3 e4 .u64 e5 (ad:=stA y.Wg) (v:=old) (n:=nw) (ev_v hg hE h1) (ev_v hg hE h2) (ev_v hg hE h3) (by rw [hsh.2.cellSt]; exact congrArg (fun z=>some (Value.int .u64 z)) hc) (hsh.2.thaw 0),yi]; rfl
  ·rw [hn2,hn3]; exact uF hsh.1 (wg_ne (stA y.Wg) rfl) _
  ·rw [hn4,<- hn1]; exact hsh.2.setSt _
 ·refine ⟨Tm,s,.bool false,w,_,hmm s hok hc,?_,kG w,hsh,by rw [hdl.2.2]; exact evb_r hdl.1 (a:=stA y.Wg) (.inr Z),hkm,hTm,hmiss⟩;rw [fr_at,stepG_cas_miss (b:=bf kdf f) (a:=⟨ts,dd⟩) ho (zP (ts:=ts) hE hw) hkd hop e1 e2 e3 e4 .u64 e5 (ad:=stA y.Wg) (v:=gval s) (old:=old) (n:=nw) (ev_v hg hE h1) (ev_v hg hE h2) (ev_v hg hE h3) hsh.2.cellSt (hsh.2.thaw 0) hc,yi]; rfl
theorem TK.gSem {g:FuncId} {as0:Array Operand} {ats:Array TypeId} {e:Array Value->Sem Value} {M:Mn} (T':TT) [hx:Ext P g e] (ho:ops[q]? =some o) (hop:o.op=.call { callee:=.value (.func g),args:=as0,argTypes:=ats }) (hw:zO ops env o=some true) (hpc:M.pc=.w3)
  (h1:∀ c,as0[0]? =some c->zo gm env c=some (.v (.pointer (some (smA y.Wg))))) (h0:as0[0]?.isSome=true)
  (hmv:∀ s,ok4 (.m M) s->s.ws≠0->Mv4 y.n (.m M) s T' { s with ws:=s.ws - 1 }) (hdl:dl (.m M)=1/\dl T'=1) (hT':y.A.aft T'=false) (hk':kd T'≠.quit)
  (h:∀ k',k'<k->TK ((YT y main Ch) k' i T' x gm φ0 kdf hkd f cs de A0 K0) ds (.inRegion ops rest::kk) env' K)
  (he:e=Extern.Sync.semacquire:=by rfl) (hd:zR env o.dst (.v (.tuple #[]))=env':=by exact zn rfl tQ) :
  TK ((YT y main Ch) k i (.m M) x gm φ0 kdf hkd f cs de A0 K0) ds (.inRegion ops (q::rest)::kk) env K:=by
 refine TK.book (o:=o) (by simp [kd,Mx.kdM,hpc]) (fun h=>h.elim) fun w s ts dd φ n hg hE hsh hok=>?_;obtain ⟨fn,e1,e2,e3,e4,e5⟩:=hx.h;subst he;obtain ⟨c,hc⟩:=Option.isSome_iff_exists.1 h0;have hx0:(as0.map (⟨ts,dd⟩:Act).eval)[0]? =some (.pointer (some (smA y.Wg))):=by
  rw [mJ,hc];exact congrArg some (ev_v hg hE (h1 c hc))
 by_cases hz:s.ws=0
 ·left;refine ⟨⟨hpc,hz⟩,?_⟩;rw [fr_at,stepG_semacquire_wait (b:=bf kdf f) (a:=⟨ts,dd⟩) ho (zP (ts:=ts) hE hw) hop e1 e2 e3 e4 e5 hx0 (by rw [hsh.2.cellSm,hz]; rfl)]
 ·right;refine ⟨fun hb=>hz hb.2,T',{ s with ws:=s.ws - 1 },.tuple #[],_,_,hmv s hok hz,?_,kM (a:=smA y.Wg) (.inr rfl) (.int .u32 ((s.ws:Int) - 1)),⟨uF hsh.1 (wg_ne (smA y.Wg) rfl) _,?_⟩,by rw [hdl.1,hdl.2]; exact zaY oQ (a:=smA y.Wg) (.inr rfl),hk',hT',fun k' hk''=>by rw [hd]; exact h k' hk''⟩
  ·rw [fr_at,stepG_semacquire (b:=bf kdf f) (a:=⟨ts,dd⟩) ho (zP (ts:=ts) hE hw) hkd hop e1 e2 e3 e4 e5 hx0 hsh.2.cellSm oQ (hsh.2.thaw 1),yi]; rfl
  ·have:=hsh.2.setSm ((s.ws:Int) - 1);rw [show ((s.ws:Int) - 1)=((s.ws - 1:Nat):Int) by omega] at this ⊢;exact this
theorem TK.gSaid {g:FuncId} {c:Operand} {ats:Array TypeId} {e:Array Value->Sem Value} (T':TT) (m:Addr->Mark) (hm:∀ ad g,m ad≠.extern g) (hmm:m=.read\/m=.write) (hmain:main=true) [hx:Ext P g e] (ho:ops[q]? =some o) (hop:o.op=.call { callee:=.value (.func g),args:=#[c],argTypes:=ats }) (hw:zO ops env o=some true)
  (h1:zo gm env c=some (.v (.pointer (some (smA y.Wg))))) (hmv:∀ s,ok4 T s->Mv4 y.n T s T' s) (hdl:0<dl T/\dl T'=dl T) (hT':y.A.aft T'=false) (hk':kd T'≠.quit)
  (h:∀ k',k'<k->TK ((YT y main Ch) k' i T' x gm φ0 kdf hkd f cs de A0 K0) ds (.inRegion ops rest::kk) env' K)
  (he:e=Extern.Race.marked m:=by rfl) (hk:kd T=.book:=by rfl) (hb:∀ s,¬ bl4 T s:=by exact fun _ h=>by cases h.1) (hwk:¬ y.A.wk T:=by exact fun h=>by cases h <;> rename_i h <;> cases h) (hd:zR env o.dst (.v (.tuple #[]))=env':=by exact zn rfl tQ) :
  TK ((YT y main Ch) k i T x gm φ0 kdf hkd f cs de A0 K0) ds (.inRegion ops (q::rest)::kk) env K:=by
 refine TK.book (o:=o) hk (fun h=>absurd h hwk) fun w s ts dd φ n hg hE hsh hok=>.inr ⟨hb s,T',s,.tuple #[],w,#[mk (m (smA y.Wg))],hmv s hok,?_,kG w,hsh,?_,hk',hT',fun k' hk''=>by rw [hd]; exact h k' hk''⟩
 ·obtain ⟨fn,e1,e2,e3,e4,e5⟩:=hx.h;subst he;rw [fr_at,stepG_markAt (b:=bf kdf f) (a:=⟨ts,dd⟩) m hm ho (zP (ts:=ts) hE hw) hkd hop e1 e2 e3 e4 e5 (ad:=smA y.Wg) (by simp [ev_v (dd:=dd) hg hE h1]),yi]; rfl
 ·subst hmain;rw [hdl.2];exact zjm hdl.1 (a:=smA y.Wg) (.inr rfl) (by rcases hmm with rfl | rfl; exact .inl rfl; exact .inr rfl)
end
section
variable {P:Program} {gm:Nat->Option Nat} {main:Bool}
theorem zhm (n:Nat) {T:Goroutine->Hp->Prop} (hT:zm P main T) {lo:Nat×Loc3} {g:FuncId} {fn:Func} {c:Code} {args:List AV} {K:KV} {R:AV->KV->(Goroutine->Hp->Prop)->Prop} (hf:P.funcs[g]? =some fn)
  (h:∀ (φ0:Nat->Loc3) (c0:Frame) (cs:List Frame) (A0:List AObj),lo.1<A0.length->φ0 lo.1=lo.2->(∀ r K' T',R r K' T'->∀ A' φ' H' v,Kstep K A0 K' A'->Agr φ0 φ' A0.length->A0.length<=A'.length->RelH φ' A' nF H'->RelV φ' A'.length r v->T' (G (c0.finish v) cs) H') ->
   TK (YU hT gm φ0 .normal zi g (c0::cs) [] A0 (keys K)) [] [.code c] (args++mB (n - args.length) .any) K) (hb:fn.body=some c:=by rfl) (hn:fn.ntmps=n:=by rfl):CallS P gm lo T g args K R:=by
 subst hn;intro A hv hnd φ H vs c0 cs hl1 hl2 hg hH hargs hfin;rw [wh vs hf hb];exact h φ c0 cs A hl1 hl2 (fun r K' T' hr A' φ' H' v a b c d e=>hfin r K' T' A' φ' H' v hr a b c d e) A ⟨hv,hnd,fun i hi=>.inl hi,fun _ _ _=>rfl,mL _⟩ φ H _ (Agr.refl _ _) (mL _) hg (fun d hd=>by cases hd) hH (y7 hargs _)
variable {φ0:Nat->Loc3} {kdf:CallKind} {hkd:kdf≠.early} {f:FuncId} {cs:List Frame} {de:List Deferred} {A0:List AObj} {K0:List Nat} {ds:List Nat} {kk:List Item} {env env':List AV} {K:KV} {ops:Array Oper} {q:Nat} {rest:List Nat} {o:Oper}
theorem zcN {φ:Nat->Loc3} {n:Nat} {ts:Array Value} {ars:Array Operand} {vs:List Value} (h3:RelG gm φ n) (h6:zM φ n env ts) (hargs:ars.toList.map (zL gm env)=vs.map .v):ars.map (evT ts)=vs.toArray:=by
 have hm:=kU (a:=⟨ts,[]⟩) h3 h6 ars;rw [yQ,hargs] at hm;refine Array.ext' ?_;refine List.ext_getElem? fun j=>?_;have hl:=hm.1;by_cases hj:j<vs.length
 ·have h2:=hm.2 j (.v vs[j]) ((ars.map (evT ts))[j]'(by rw [<- hl]; simpa using hj)) (by simp [hj]) (by rw [mD]);have:=inv_v h2;rw [Array.getElem?_toList,mD (by rw [<- hl]; simpa using hj),this];simp [hj]
 ·rw [lU (by simp at hl ⊢; omega),lU (by simpa using hj)]
theorem TK.sDefer {T:Goroutine->Hp->Prop} {hT:zm P main T} {g:FuncId} {as0:Array Operand} {ats:Array TypeId} {vs:List Value} (ho:ops[q]? =some o) (hop:o.op=.defer { callee:=.value (.func g),args:=as0,argTypes:=ats }) (hargs:as0.toList.map (zL gm env)=vs.map .v)
  (h:TK (YU hT gm φ0 kdf hkd f cs (dcall g vs.toArray::de) A0 K0) [] (.inRegion ops rest::kk) env' K) (hw:zO ops env o=some true:=by rfl) (hd:zR env o.dst (.v undef)=env':=by first | exact putN rfl | exact zn rfl tQ) :
  TK (YU hT gm φ0 kdf hkd f cs de A0 K0) [] (.inRegion ops (q::rest)::kk) env K:=by
 intro A hA φ H ts h1 h2 h3 h4 h5 h6;have hE:=yB (a:=⟨ts,[]⟩) h6 (RelV.v (φ:=φ) (n:=A.length) undef) o.dst;rw [hd] at hE;refine hT.ctlF Z (fun w=>?_) rfl (h A ⟨hA.view,hA.nd,hA.own,hA.kept,hA.len⟩ φ H _ h1 h2 h3 h4 h5 hE);show stepG P main (G (fr kdf f none ts de _) cs) w=_;rw [fr_at,stepG_defer (b:=bf kdf f) (a:=⟨ts,de⟩) ho (zP (ts:=ts) h6 hw) hkd hop];have e:as0.map (⟨ts,de⟩:Act).eval=vs.toArray:=by rw [yQ]; exact zcN h3 h6 hargs
 rw [e,yi];rfl
variable {y:Sy P} {Ch:Nat->Goroutine->Hp->Prop} {k i:Nat} {T:TT} {x:Nat->Bool}
theorem TK.retD {g:FuncId} {e:Array Value->Sem Value} {fn:Func} {c0:Frame} {r:AV} (T':TT) (m:Mark) (hm:∀ g,m≠.extern g) [hx:Ext P g e] (hmv:∀ s,ok4 T s->Mv4 y.n T s T' s) (hev:EvB main y.S2 (dl T) (dl T') #[mk m]) (hT':y.A.aft T'=false) (hf:P.funcs[f]? =some fn) (hres:∀ A,zQ K A->resA P fn.results.toList env A=some r)
  (hfin:∀ k',k'<k->∀ A φ' H' v,Kn ((YT y main Ch) k i T x gm φ0 .normal zi f (c0::cs) [dcall g #[]] A0 K0) K A->Agr φ0 φ' A0.length->A0.length<=A.length->RelH φ' A nF H'->RelV φ' A.length r v->y.Sf main Ch k' i T' x (G (c0.finish v) cs) H')
  (he:e=(fun _=>do mark m; pure Extern.Race.none_):=by rfl) (hk:kd T=.book:=by rfl) (hk':kd T'≠.quit:=by exact fun h=>by cases h) (hb:∀ s,¬ bl4 T s:=by exact fun _ h=>by cases h.1) (hwk:¬ y.A.wk T:=by exact fun h=>by cases h <;> rename_i h <;> cases h) :
  TK ((YT y main Ch) k i T x gm φ0 .normal zi f (c0::cs) [dcall g #[]] A0 K0) [] (.code .ret::kk) env K:=by
 intro A hA φ H ts h1 h2 h3 h4 h5 h6;refine (y.shutF main Ch k i T x).ctlF Z (fun _=>vx) rfl ?_;refine .stop ?_;cases k with
 | zero=>trivial
 | succ k' =>
  obtain ⟨fn',e1,e2,e3,e4,e5⟩:=hx.h;subst he;refine ⟨rfl,rfl,fun hw=>absurd hw hwk,?_⟩;have hk0:y.A.kd T=.book:=hk;rw [hk0];intro w s hfit hsh hok;refine ⟨fun hb'=>absurd hb' (hb s),fun _=>⟨T',s,G { fr .normal f none ts [] (.code .ret::kk) with mode:=.returning } (c0::cs),w,#[mk m],hmv s hok,?_,kG w,hsh,hev,.inr ⟨hk',rfl,(y.sf_iff hT').2 ?_⟩⟩⟩
  ·exact stepG_unwind_entry (b:=bf .normal f) (a:=⟨ts,[dcall g #[]]⟩) (ds:=[]) (v:=.tuple #[]) (evs:=#[⟨.mark m,false,true⟩]) rfl e1 e2 e3 e4 e5 (by simp [Extern.Race.none_]) sQ (by
    intro x hx';simp at hx';subst hx';exact ⟨rfl,fun g h=>hm g (Loc.mark.inj h)⟩)
  ·exact (y.shutF main Ch k' i T' x).leaveF hf (kK h5 h6 (hres A hA.view) fun v hv=>hfin k' (Nat.lt_succ_self _) A φ H v hA h1 (mT (mL _) hA.len) h5 hv)
theorem TK.acqW {g:FuncId} {c:Operand} {ats:Array TypeId} {e:Array Value->Sem Value} {lo:Nat×Loc3} [hx:Ext P g e] (ho:ops[q]? =some o) (hop:o.op=.call { callee:=.value (.func g),args:=#[c],argTypes:=ats }) (hc:zo gm env c=some (.v (.pointer (some (stA y.Wg))))) (hk:kd T=.acqW)
  {PW:KV->Prop} (hl1:lo.1<A0.length) (hl2:φ0 lo.1=lo.2) (hS:zm P main y.Stop)
  (hGI:∀ L A φ H,y.GI y.all L->lo.1<A.length->φ lo.1=lo.2->zQ K A->(keys K).Nodup->RelH φ A nF H->H.Dis L->Agrees H L->∃ φ' A' K',Agr φ φ' A.length/\A.length<=A'.length/\Kstep K A K' A'/\PW K'/\RelH φ' A' nF (H.join L))
  (h:∀ K',PW K'->TK (YU hS gm φ0 kdf hkd f cs de A0 K0) ds (.inRegion ops rest::kk) env' K')
  (hw:zO ops env o=some true:=by rfl) (he:e=Extern.Race.marked .acquire:=by rfl) (hwk:¬ y.A.wk T:=by exact fun h=>by cases h <;> rename_i h <;> cases h) (hd:zR env o.dst (.v (.tuple #[]))=env':=by exact zn rfl tQ) :
  TK ((YT y main Ch) k i T x gm φ0 kdf hkd f cs de A0 K0) ds (.inRegion ops (q::rest)::kk) env K:=by
 intro A hA φ H ts h1 h2 h3 h4 h5 h6;show y.Sf main Ch k i T x _ _;refine .stop ?_;cases k with
 | zero=>trivial
 | succ k' =>
  obtain ⟨fn,e1,e2,e3,e4,e5⟩:=hx.h;subst he;refine ⟨rfl,rfl,fun hw=>absurd hw hwk,?_⟩;have hk':y.A.kd T=.acqW:=hk;rw [hk'];refine ⟨G (fr kdf f none (putT ts o.dst (.tuple #[])) (dsC φ ds++de) (.inRegion ops rest::kk)) cs,rfl,fun w hf=>?_,fun L hG hD hAg=>?_⟩
  ·show stepG P main (G (fr kdf f none ts (dsC φ ds++de) _) cs) w=_;rw [fr_at,stepG_markAt (b:=bf kdf f) (a:=⟨ts,dsC φ ds++de⟩) .acquire sQ ho (zP (ts:=ts) h6 hw) hkd hop e1 e2 e3 e4 e5 (ad:=stA y.Wg) (by simp [ev_v (dd:=dsC φ ds++de) h3 h6 hc]),yi];rfl
  ·obtain ⟨φ',A',K',ha,hl,hst,hp,hH⟩:=hGI L A φ H hG (mM hl1 hA.len) ((h1 _ hl1).trans hl2) hA.view hA.nd h5 hD hAg;have hE:=yB (a:=⟨ts,[]⟩) (h6.mono ha hl) (RelV.v (φ:=φ') (n:=A'.length) (.tuple #[])) o.dst;have hds:dsC φ' ds=dsC φ ds:=by
    unfold dsC;exact List.map_congr_left fun d hd'=>by rw [ha d (h4 d hd')]
   rw [hd] at hE;have hA':=hA.step hst;have:=h K' hp A' ⟨hA'.view,hA'.nd,hA'.own,hA'.kept,hA'.len⟩ φ' (H.join L) (putT ts o.dst (.tuple #[])) (h1.trans ha hA.len) (mT hA.len hl) (h3.mono ha hl) (fun d hd=>mM (h4 d hd) hl) hH hE;rw [hds] at this;exact this
end
end Go.Vel
namespace Go.Vel
open Go Go.Conc Go.Proofs
open Go.ConcN (sumTo upd upd_ne upd_same)
open Go.ConcM (OsLater MuAt muA msA)
open Go.ConcR (KK wgBlock WgAt stA smA mk rd wr)
open Mx (TT Th Mn S4 auto Mv4 ok4 bl4 kd dl MPc Pc okW okM Mv nx4 cnt newOf)
instance:Ext tp 184 (Extern.Atomic.update (Op.intArith .add) .u64 true):=⟨_,Tryz.func184,by kernel_rfl,by kernel_rfl,by kernel_rfl,by kernel_rfl⟩
instance:Ext tp 185 (Extern.Atomic.loadT (.int .u64)):=⟨_,Tryz.func185,by kernel_rfl,by kernel_rfl,by kernel_rfl,by kernel_rfl⟩
instance:Ext tp 191 (Extern.Atomic.casT (.int .u64)):=⟨_,Tryz.func191,by kernel_rfl,by kernel_rfl,by kernel_rfl,by kernel_rfl⟩
instance:Ext tp 142 (fun _=>pure (.bool false)):=⟨_,Tryz.func142,by kernel_rfl,by kernel_rfl,by kernel_rfl,by kernel_rfl⟩
instance:Ext tp 147 (Extern.Race.marked .read):=⟨_,Tryz.func147,by kernel_rfl,by kernel_rfl,by kernel_rfl,by kernel_rfl⟩
instance:Ext tp 157 (Extern.Race.marked .write):=⟨_,Tryz.func157,by kernel_rfl,by kernel_rfl,by kernel_rfl,by kernel_rfl⟩
instance:Ext tp 158 (Extern.Sync.semacquire):=⟨_,Tryz.func158,by kernel_rfl,by kernel_rfl,by kernel_rfl,by kernel_rfl⟩
theorem uP224:tp.underlying 249=some (.pointer 197):=by kernel_rfl
theorem uP217:tp.underlying 242=some (.pointer 208):=by kernel_rfl
theorem z190:(tp.info? 197).map (fun i=>decide (i.size=0))=some false:=by kernel_rfl
theorem z201:(tp.info? 208).map (fun i=>decide (i.size=0))=some false:=by kernel_rfl
def GIw (y:Sy tp) (lo:Nat×Loc3) (PW:KV->Prop):Prop :=
 ∀ L A φ H,y.GI y.all L->lo.1<A.length->φ lo.1=lo.2->zQ [(lo.1,.gone)] A->(keys [(lo.1,AObj.gone)]).Nodup->RelH φ A nF H->H.Dis L->Agrees H L->∃ φ' A' K',Agr φ φ' A.length/\A.length<=A'.length/\Kstep [(lo.1,.gone)] A K' A'/\PW K'/\RelH φ' A' nF (H.join L)
theorem bU1:∀ a:Nat,a<66->bits .and .u64 ((a*4294967296:Nat):Int) 2147483648=0:=by decide +kernel
theorem bU2:∀ a:Nat,a<66->bits .and .u64 ((a*4294967296:Nat):Int) 2147483647=0:=by decide +kernel
theorem wu64 {n:Int} (h:0<=n/\n<18446744073709551616):IntKind.u64.wrap n=n:=by
 unfold IntKind.wrap;simp only [show IntKind.u64.bits=64 from rfl,show IntKind.u64.signed=false from rfl,Bool.false_and];simp;omega
theorem zax {s:S4} (h:s.wt=0):gval s=((s.v*4294967296:Nat):Int):=by unfold gval KK; rw [h]; simp
theorem zhF {s:S4} (h:s.wt=0):gval { s with v:=s.v+1 }=(((s.v+1)*4294967296:Nat):Int):=by unfold gval KK; rw [h]; simp
theorem zjs {s:S4} (hv:s.v<64) (h:s.wt=0):IntKind.u64.wrap (gval s+4294967296)=gval { s with v:=s.v+1 }:=by
 rw [zhF h,zax h,wu64 oQ];omega
theorem zhC {s:S4} {v:Nat} (h:s.wt=0) (e:gval s=((v*4294967296:Nat):Int)):s.v=v:=by rw [zax h] at e; omega
theorem zjt {s:S4} {v:Nat} (h:s.wt=0) (e:gval s=((v*4294967296:Nat):Int)):gval { s with wt:=1 }=((v*4294967296+1:Nat):Int):=by
 have:=zhC h e;unfold gval KK;dsimp only;omega
theorem q_shL {P:Program} {gm:Nat->Option Nat} {env:List AV} {V:KV} {o:Oper} {t yt:TypeId} {x y:Operand} {k k':IntKind} {a b:Int} {r:Int} (ho:o.op=.binOp .shl t x y yt) (hx:zo gm env x=some (.v (.int k a))) (hy:zo gm env y=some (.v (.int k' b))) (h0:0<=b/\b<=k.bits) (hr:k.wrap (a*2 ^ b.toNat)=r):Qk P gm env V o (.v (.int k r)):=fun A _=>by
 refine vq ho (by rw [zy hx]; rfl) (by rw [zy hy]; rfl) ?_;rw [zaX];show zJ P (Op.shift .shl k a k' b)=_;rw [shift_shl k k' a b h0.1 h0.2,hr];rfl
instance:zf tp 206 2 0 false 1:={}
instance:zf tp 208 1 0 true 1:={}
instance:zf tp 208 2 1 false 1:={}
instance:Und tp 197 (.int .u32):={}
instance:Und tp 204 (.int .u64):={}
instance:Und tp 21 (.int .i32):={}
instance:Und tp 3 (.int .i64):={}
theorem zkU {gm:Nat->Option Nat} {Ch:Nat->Goroutine->Hp->Prop} (y:Sy tp) {lo:Nat×Loc3} {k j:Nat} {x:Nat->Bool} {K:KV} :
  CallS tp gm lo (y.Sf true Ch k 0 (.m { pc:=.a1,j:=j }) x) 146 [.v (.pointer (some ⟨y.Wg,0,none⟩)),.v (.int .u64 4294967296)] K (fun r K' T'=>K'=K/\∃ v k',v<64/\k'<k/\r=.v (.int .u64 (((v+1)*4294967296:Nat):Int))/\T'=y.Sf true Ch k' 0 (.m { pc:=if v=0 then .ar else .a2,j:=j }) x):=by
 refine wE 10 (y.shutF _ _ _ _ _ _) Tryz.func146 fun φ0 c0 cs A0 hl1 hl2 hret=>?_;refine au 1423542 ?_;refine TK.a Z (yx Z Z) ?_;refine TK.a Z (z8 Z Z zf.h dQ) ?_;refine au 1 ?_;refine TK.gAdd 4294967296 (fun s=>{ s with v:=s.v+1 }) (fun s=>.m { pc:=if s.v=0 then .ar else .a2,j:=j }) rfl rfl rfl rfl rfl (fun s hok=>⟨?_,rfl,rfl,rfl⟩) (fun s _=>.a1 rfl) ⟨mS,fun s=>by by_cases h:s.v=0 <;> simp only [h,↓reduceIte] <;> rfl⟩ (fun s=>rfl) (fun s=>by by_cases h:s.v=0 <;> simp only [h,↓reduceIte] <;> exact fun h=>by cases h) fun s hok k1 hk1=>?_
 ·obtain ⟨q1,q2,q3,q4⟩:=hok;exact zjs q1 q3
 have hv:s.v<64:=hok.1;have hval:gval { s with v:=s.v+1 }=(((s.v+1)*4294967296:Nat):Int):=zhF hok.2.2.1;rw [hval];refine au 35 ?_;refine TK.rta (hret (hT':=y.shutF _ _ _ _ _ _)) ?_ (yK (zV Z));exact ⟨rfl,s.v,_,hv,hk1,rfl,rfl⟩
theorem zeb {gm:Nat->Option Nat} {Ch:Nat->Goroutine->Hp->Prop} (y:Sy tp) {lo:Nat×Loc3} {k:Nat} {x:Nat->Bool} {K:KV} {T:TT} (Tn:S4->TT) (hmv:∀ s,ok4 T s->Mv4 y.n T s (Tn s) s) (hdl:0<dl T/\∀ s,dl (Tn s)=dl T) (hT':∀ s,y.A.aft (Tn s)=false) (hk':∀ s,kd (Tn s)≠.quit) (hk:kd T=.book) (hb:∀ s,¬ bl4 T s) (hwk:¬ y.A.wk T) :
  CallS tp gm lo (y.Sf true Ch k 0 T x) 148 [.v (.pointer (some ⟨y.Wg,0,none⟩))] K (fun r K' T'=>K'=K/\∃ s k',ok4 T s/\k'<k/\r=.v (.int .u64 (gval s))/\T'=y.Sf true Ch k' 0 (Tn s) x):=by
 refine wE 7 (y.shutF _ _ _ _ _ _) Tryz.func148 fun φ0 c0 cs A0 hl1 hl2 hret=>?_;refine au 1423542 ?_;refine TK.a Z (yx Z Z) ?_;refine TK.a Z (z8 Z Z zf.h dQ) ?_;refine TK.gLoad Tn Z Z Z Z hmv hdl hT' hk' (fun s hok k1 hk1=>?_) rfl hk hb hwk;refine au 35 ?_;refine TK.rta (hret (hT':=y.shutF _ _ _ _ _ _)) ?_ (yK (zV Z));exact ⟨rfl,s,_,hok,hk1,rfl,rfl⟩
theorem zkV {gm:Nat->Option Nat} {Ch:Nat->Goroutine->Hp->Prop} (y:Sy tp) {lo:Nat×Loc3} {k j v:Nat} {x:Nat->Bool} {K:KV} :
  CallS tp gm lo (y.Sf true Ch k 0 (.m { pc:=.w2,j:=j,old:=v }) x) 156 [.v (.pointer (some ⟨y.Wg,0,none⟩)),.v (.int .u64 ((v*4294967296:Nat):Int)),.v (.int .u64 ((v*4294967296+1:Nat):Int))] K (fun r K' T'=>K'=K/\∃ b k',k'<k/\r=.v (.bool b)/\T'=y.Sf true Ch k' 0 (.m { pc:=if b=true then .wr else .w1,j:=j,old:=v }) x):=by
 refine wE 13 (y.shutF _ _ _ _ _ _) Tryz.func156 fun φ0 c0 cs A0 hl1 hl2 hret=>?_;refine au 1423542 ?_;refine TK.a Z (yx Z Z) ?_;refine TK.a Z (z8 Z Z zf.h dQ) ?_;refine au 11 ?_;refine TK.gCas (.m { pc:=.wr,j:=j,old:=v }) (.m { pc:=.w1,j:=j,old:=v }) ((v*4294967296:Nat):Int) ((v*4294967296+1:Nat):Int) (fun s=>{ s with wt:=1 }) rfl rfl rfl rfl rfl rfl (fun s hok e=>⟨?_,rfl,rfl,rfl⟩) (fun s hok e=>.w2h rfl ?_) (fun s hok e=>.w2m rfl ?_) ⟨mS,rfl,rfl⟩ rfl rfl (fun h=>by cases h) (fun h=>by cases h) (fun k1 hk1=>?_) (fun k1 hk1=>?_);rotate_left;rotate_left;rotate_left
 ·refine au 35 ?_;refine TK.rta (hret (hT':=y.shutF _ _ _ _ _ _)) ?_ (yK (zV Z));exact ⟨rfl,true,_,hk1,rfl,rfl⟩
 ·refine au 35 ?_;refine TK.rta (hret (hT':=y.shutF _ _ _ _ _ _)) ?_ (yK (zV Z));exact ⟨rfl,false,_,hk1,rfl,rfl⟩
 ·exact zjt hok.2.2.1 e
 ·exact zhC hok.2.2.1 e
 ·exact fun h=>e (by rw [<- (show s.v=v from h)]; exact zax hok.2.2.1)
theorem zkr {gm:Nat->Option Nat} {Ch:Nat->Goroutine->Hp->Prop} (y:Sy tp) {lo:Nat×Loc3} {k j:Nat} {x:Nat->Bool} :
  CallS tp gm lo (y.Sf true Ch k 0 (.m { pc:=.a0,j:=j }) x) 105 [.v (.pointer (some ⟨y.Wg,0,none⟩)),.v (.int .i64 1)] [] (fun r K' T'=>r=.tup []/\K'=[]/\∃ k',k'<k/\T'=y.Sf true Ch k' 0 (.m { pc:=.go,j:=j }) x):=by
 refine zhm 117 (y.shutF _ _ _ _ _ _) Tryz.func105 fun φ0 c0 cs A0 hl1 hl2 hfin=>?_;refine au 14221802 ?_;refine TK.a Z (q_cmp Z Z Z Z) ?_;refine au 93 ?_;constructor<;>intro hc1
 ·exfalso;simp at hc1
 refine au 42120 ?_;refine TK.sMark (.m { pc:=.a1,j:=j }) .disable sQ Z Z Z (fun s _=>.a0 rfl) (uz 0) rfl (fun k1 hk1=>?_);refine au 43 ?_;refine TK.sDefer (vs:=[]) Z Z Z ?_;refine au 42235423 ?_;refine TK.sPure Z Z ?_;refine au 1421201903 ?_;refine TK.a Z (yx Z Z) ?_;refine TK.a Z (z8 Z Z zf.h dQ) ?_;refine au 1 ?_;refine TK.a Z (yT Z Z Und.h Und.h (m:=1) Z) ?_;refine TK.a Z (q_shL Z Z Z dQ (r:=4294967296) dQ) ?_;refine TK.callS Z Z Z Z (zkU y) hl1 hl2 ?_;rintro r2 K2 T2 ⟨rfl,v,k2,hv,hk2,rfl,rfl⟩;refine ⟨y.shutF _ _ _ _ _ _,?_⟩;refine au 142235 ?_;refine TK.a Z (yN Z Z Z (.inl Z) (bU1 (v+1) oQ)) ?_;refine au 17 ?_;refine TK.sp 47 (fun g16_4=>?_) (fun g16_4=>?_)
 ·exfalso;simp at g16_4
 refine au 142120190325088 ?_;refine TK.a Z (q_sh Z Z Z dQ (r:=((v+1:Nat):Int)) (by show (((v+1)*4294967296:Nat):Int) / 4294967296=_; omega)) ?_;refine TK.a Z (yT Z Z Und.h Und.h (m:=((v+1:Nat):Int)) (w32 oQ)) ?_;refine au 14235 ?_;refine TK.a Z (yN Z Z Z (.inl Z) (bU2 (v+1) oQ)) ?_;refine TK.a Z (yT Z Z Und.h Und.h (m:=0) Z) ?_;refine au 126071142235 ?_;refine TK.sp 62 (fun g20_5=>?_) (fun g20_5=>?_)
 ·refine au 11 ?_;refine TK.a Z (yT Z Z Und.h Und.h (m:=1) Z) ?_;refine au 932607 ?_;constructor<;>intro hc8
  ·have h8:v=0:=by simp at hc8; omega
   refine TK.castT (T':=.m { pc:=.ar,j:=j }) Z (by rw [if_pos h8]) ?_;refine au 14 ?_;refine TK.a Z (yx Z Z) ?_;refine TK.a Z (z8 Z Z zf.h dQ) ?_;refine TK.sConv Z Z Z uP224 uP219 z190 (fun w s h=>⟨_,h.2.cellSm⟩) ?_;refine au 0 ?_;refine TK.gSaid (.m { pc:=.a2,j:=j }) .read sQ (.inl Z) Z Z Z Z Z (fun s _=>.ar rfl) ⟨mS,rfl⟩ rfl (fun h=>by cases h) (fun k3 hk3=>?_);refine au 93714223 ?_;constructor<;>intro hc9
   ·exfalso;simp at hc9 <;> omega
   refine au 171422120 ?_;refine TK.sp 78 (fun g24_3=>?_) (fun g24_3=>?_)
   ·exfalso;simp at g24_3
   refine au 17142212019032508888125088 ?_;refine TK.sp 91 (fun g26_3=>?_) (fun g26_3=>?_)
   ·refine au 180326088 ?_;refine TK.retD (.m { pc:=.go,j:=j }) .enable sQ (fun s _=>.a2 rfl) (we 0) rfl Tryz.func105 res_0 (fun k9 hk9 A φ' H' v hA ha hl hH hv=>hfin _ _ _ ⟨rfl,rfl,_,oQ,rfl⟩ A φ' H' v ⟨hA.view,hA.nd,hA.own,hA.kept,hA.len⟩ ha hl hH hv);skip
   exfalso;simp at g26_3 <;> omega
  have h8:¬ v=0:=by simp at hc8; omega
  refine TK.castT (T':=.m { pc:=.a2,j:=j }) Z (by rw [if_neg h8]) ?_;refine au 9371422120 ?_;constructor<;>intro hc9
  ·exfalso;simp at hc9 <;> omega
  refine au 171422120 ?_;refine TK.sp 78 (fun g24_3=>?_) (fun g24_3=>?_)
  ·exfalso;simp at g24_3
  refine au 17142212019032508888125088 ?_;refine TK.sp 91 (fun g26_3=>?_) (fun g26_3=>?_)
  ·refine au 180326088 ?_;refine TK.retD (.m { pc:=.go,j:=j }) .enable sQ (fun s _=>.a2 rfl) (we 0) rfl Tryz.func105 res_0 (fun k9 hk9 A φ' H' v hA ha hl hH hv=>hfin _ _ _ ⟨rfl,rfl,_,oQ,rfl⟩ A φ' H' v ⟨hA.view,hA.nd,hA.own,hA.kept,hA.len⟩ ha hl hH hv);skip
  exfalso;simp at g26_3 <;> omega
 exfalso;simp at g20_5
theorem ziT {gm:Nat->Option Nat} {Ch:Nat->Goroutine->Hp->Prop} (y:Sy tp) {lo:Nat×Loc3} {PW:KV->Prop} {k j:Nat} {x:Nat->Bool} (hS:zm tp true y.Stop) (hGI:GIw y lo PW) :
  CallS tp gm lo (y.Sf true Ch k 0 (.m { pc:=.w0,j:=j }) x) 111 [.v (.pointer (some ⟨y.Wg,0,none⟩))] [(lo.1,.gone)] (fun r K' T'=>r=.tup []/\PW K'/\T'=y.Stop):=by
 refine wE 84 (y.shutF _ _ _ _ _ _) Tryz.func111 fun φ0 c0 cs A0 hl1 hl2 hret=>?_;refine au 41802 ?_;refine TK.sMark (.m { pc:=.w1,j:=j }) .disable sQ Z Z Z (fun s _=>.w0 rfl) (uz 0) rfl (fun k1 hk1=>?_);refine au 1303 ?_;refine TK.maskL [0] ?_;refine TK.loopS (ι:=Nat) (fun b=>.m { pc:=.w1,j:=j,old:=b }) (fun _=>rfl) (fun b env K=>K=[(lo.1,AObj.gone)]/\env=[.v (.pointer (some ⟨y.Wg,0,none⟩)),.any,.any,.any,.any,.any,.any,.any,.any,.any,.any,.any,.any,.any,.any,.any,.any,.any,.any,.any,.any,.any,.any,.any,.any,.any,.any,.any,.any,.any,.any,.any,.any,.any,.any,.any,.any,.any,.any,.any,.any,.any,.any,.any,.any,.any,.any,.any,.any,.any,.any,.any,.any,.any,.any,.any,.any,.any,.any,.any,.any,.any,.any,.any,.any,.any,.any,.any,.any,.any,.any,.any,.any,.any,.any,.any,.any,.any,.any,.any,.any,.any,.any,.any]) 0 ⟨rfl,rfl⟩ rfl ?_;rintro k1 hk1 old env K ⟨rfl,rfl⟩ ih;refine au 142130 ?_;refine TK.a Z (yx Z Z) ?_;refine TK.a Z (z8 Z Z zf.h dQ) ?_;refine TK.callS Z Z Z Z (zeb y (T:=.m { pc:=.w1,j:=j,old:=old }) (fun s=>.m { pc:=if s.v=0 then .w5 else .w2,j:=j,old:=s.v }) (fun s _=>.w1 rfl) ⟨mS,fun s=>by by_cases h:s.v=0 <;> simp only [h,↓reduceIte] <;> rfl⟩ (fun s=>rfl) (fun s=>by by_cases h:s.v=0 <;> simp only [h,↓reduceIte] <;> exact fun h=>by cases h) rfl (fun _ h=>by cases h.1) (fun h=>h.elim)) hl1 hl2 ?_;rintro r2 K2 T2 ⟨rfl,s,k2,hok,hk2,rfl,rfl⟩;refine ⟨y.shutF _ _ _ _ _ _,?_⟩;refine au 0 ?_;rw [zax hok.2.2.1];obtain ⟨v,hv⟩:∃ v,v=s.v:=⟨_,rfl⟩;have hv1:v<64:=hv ▸ hok.1;rw [<- hv];clear hok hv s;refine au 14235 ?_;refine TK.a Z (q_sh Z Z Z dQ (r:=((v:Nat):Int)) (by show ((v*4294967296:Nat):Int) / 4294967296=_; omega)) ?_;refine TK.a Z (yT Z Z Und.h Und.h (m:=((v:Nat):Int)) (w32 oQ)) ?_;refine au 14235 ?_;refine TK.a Z (yN Z Z Z (.inl Z) (bU2 v oQ)) ?_;refine TK.a Z (yT Z Z Und.h Und.h (m:=0) Z) ?_;refine au 937142235 ?_;constructor<;>intro hc1
 ·have h1:v=0:=by simp at hc1; omega
  refine TK.castT (T':=.m { pc:=.w5,j:=j,old:=v }) Z (by rw [if_pos h1]) ?_;refine au 421802 ?_;refine TK.sMark (.m { pc:=.w6,j:=j,old:=v }) .enable sQ Z Z Z (fun s _=>.w5 rfl) (we 0) rfl (fun k8 hk8=>?_);refine au 143 ?_;refine TK.sConv Z Z Z uP217 uP219 z201 (fun w s h=>⟨_,h.2.cellSt⟩) ?_;refine au 0 ?_;refine TK.acqW Z Z Z Z hl1 hl2 hS hGI (fun K5 hp5=>?_);refine au 1714223 ?_;refine TK.sp 26 (fun g7_3=>?_) (fun g7_3=>?_)
  ·refine au 1 ?_;refine TK.a Z (yN Z Z Z (.inl Z) (bU1 v oQ)) ?_;refine au 12607 ?_;refine TK.sp 31 (fun g7_8=>?_) (fun g7_8=>?_)
   ·exfalso;simp at g7_8
   refine au 120190325088 ?_;refine TK.rta (hret (hT':=hS)) ?_ res_0;exact ⟨rfl,hp5,rfl⟩
  exfalso;simp at g7_3
 have h1:¬ v=0:=by simp at hc1; omega
 refine TK.castT (T':=.m { pc:=.w2,j:=j,old:=v }) Z (by rw [if_neg h1]) ?_;refine au 142120 ?_;refine TK.a Z (yx Z Z) ?_;refine TK.a Z (z8 Z Z zf.h dQ) ?_;refine au 11 ?_;refine TK.a Z (vX Z Z Z (r:=((v*4294967296+1:Nat):Int)) (.inl ⟨rfl,by rw [wu64 oQ]; omega⟩)) ?_;refine TK.callS Z Z Z Z (zkV y) hl1 hl2 ?_;rintro r2 K2 T2 ⟨rfl,b,k3,hk3,rfl,rfl⟩;refine ⟨y.shutF _ _ _ _ _ _,?_⟩;refine au 93 ?_;constructor<;>intro hc5
 ·refine TK.castT (T':=.m { pc:=.wr,j:=j,old:=v }) Z (by rw [if_pos hc5]) ?_;refine au 93260711422 ?_;constructor<;>intro hc6
  ·refine au 14 ?_;refine TK.a Z (yx Z Z) ?_;refine TK.a Z (z8 Z Z zf.h dQ) ?_;refine TK.sConv Z Z Z uP224 uP219 z190 (fun w s h=>⟨_,h.2.cellSm⟩) ?_;refine au 0 ?_;refine TK.gSaid (.m { pc:=.w3,j:=j,old:=v }) .write sQ (.inr Z) Z Z Z Z Z (fun s _=>.wr rfl) ⟨mS,rfl⟩ rfl (fun h=>by cases h) (fun k4 hk4=>?_);refine au 142235423 ?_;refine TK.a Z (yN Z Z Z (.inl Z) (bU1 v oQ)) ?_;refine au 17 ?_;refine TK.sp 61 (fun g14_4=>?_) (fun g14_4=>?_)
   ·exfalso;simp at g14_4
   refine au 14212019032508 ?_;refine TK.a Z (yx Z Z) ?_;refine TK.a Z (z8 Z Z zf.h dQ) ?_;refine au 1 ?_;refine TK.gSem (.m { pc:=.w4,j:=j,old:=v }) Z Z Z Z (fun c hc=>by simp at hc; subst hc; rfl) rfl (fun s _ hz=>.w3 rfl hz) ⟨rfl,rfl⟩ rfl (fun h=>by cases h) (fun k5 hk5=>?_);refine au 1423 ?_;refine TK.a Z (yx Z Z) ?_;refine TK.a Z (z8 Z Z zf.h dQ) ?_;refine TK.callS Z Z Z Z (zeb y (T:=.m { pc:=.w4,j:=j,old:=v }) (fun _=>.m { pc:=.w5,j:=j,old:=v }) (fun s _=>.w4 rfl) ⟨mS,fun s=>rfl⟩ (fun s=>rfl) (fun s h=>by cases h) rfl (fun _ h=>by cases h.1) (fun h=>h.elim)) hl1 hl2 ?_;rintro r2 K2 T2 ⟨rfl,s,k6,hok,hk6,rfl,rfl⟩;refine ⟨y.shutF _ _ _ _ _ _,?_⟩;refine au 0 ?_;rw [zax hok.2.2.2.1,hok.2.2.1];clear hok s;refine au 421802357 ?_;refine TK.sMark (.m { pc:=.w6,j:=j,old:=v }) .enable sQ Z Z Z (fun s _=>.w5 rfl) (we 0) rfl (fun k8 hk8=>?_);refine au 143 ?_;refine TK.sConv Z Z Z uP217 uP219 z201 (fun w s h=>⟨_,h.2.cellSt⟩) ?_;refine au 0 ?_;refine TK.acqW Z Z Z Z hl1 hl2 hS hGI (fun K5 hp5=>?_);refine au 9314223 ?_;constructor<;>intro hc12
   ·exfalso;simp at hc12
   refine au 120 ?_;refine TK.rta (hret (hT':=hS)) ?_ res_0;exact ⟨rfl,hp5,rfl⟩
  exfalso;simp at hc6
 refine TK.castT (T':=.m { pc:=.w1,j:=j,old:=v }) Z (by rw [if_neg (by rw [hc5]; decide)]) ?_;refine au 140120 ?_;refine TK.maskL [0] ?_;exact ih _ v _ _ oQ ⟨rfl,rfl⟩
end Go.Vel
namespace Go.Vel
open Go Go.Conc
open Go.ConcN (sumTo upd upd_ne upd_same)
open Go.ConcM (OsLater MuAt muA msA)
open Go.ConcR (KK wgBlock WgAt stA smA mk rd wr)
open Mx (TT Th Mn S4 auto Mv4 ok4 bl4 kd dl MPc Pc okW okM Mv nx4)
section
variable {P:Program} {main:Bool} {T:Goroutine->Prop}
theorem wl {α:Type} {P:Program} (s:Sem α):∀ {a:α},zJ P s=some a->∀ w,s.run P w=.ok a w/\s.events P w #[]=#[]:=by
 induction s with
 | pure b=>intro a h w; cases h; exact ⟨rfl,rfl⟩
 | program k ih=>intro a h w; exact ih P h w
 | _=>intro a h; cases h
def ShQ (P:Program) (main:Bool) (T:Goroutine->Prop):Prop:=∀ g g',g.status=.running->g'.status=.running->(∀ w,stepG P main g w=.go g' w #[])->T g'->T g
variable {gm:Nat->Option Nat}
def Pk (P:Program) (env:List AV) (o:Oper) (r:AV):Prop:=∀ (φ:Nat->Loc3) (n:Nat) (a:Act),zM φ n env a.tmps->∃ v,zJ P (execOp a.eval o)=some (.value v)/\RelV φ n r v
abbrev gN:Nat->Option Nat:=fun _=>none
variable {env env':List AV} {o:Oper}
theorem zT {x:Operand} {r:AV} (ho:o.op=.move x) (hx:zo gN env x=some r):Pk P env o r:=fun φ n a hE=>by
 have:=zD (km φ n) hE x;rw [zy hx] at this;exact ⟨_,by unfold execOp; rw [ho]; rfl,this⟩
theorem yU {x:Operand} {r:AV} (ho:o.op=.assign x) (hx:zo gN env x=some r):Pk P env o r:=fun φ n a hE=>by
 have:=zD (km φ n) hE x;rw [zy hx] at this;exact ⟨_,by unfold execOp; rw [ho]; rfl,this⟩
theorem p_ev {φ:Nat->Loc3} {n:Nat} {a:Act} {c:Operand} {z:Value} (hE:zM φ n env a.tmps) (h:zo gN env c=some (.v z)):a.eval c=z:=inv_v' (km φ n) hE h
theorem wA {x:Operand} {l:Addr} (ho:o.op=.nilCheck x) (hx:zo gN env x=some (.v (.pointer (some l)))):Pk P env o (.v (.pointer (some l))):=fun φ n a hE =>
 ⟨_,by unfold execOp; rw [ho]; dsimp only; rw [p_ev hE hx]; rfl,.v _⟩
theorem p_int {op:BinOp} {t yt:TypeId} {x y:Operand} {k k':IntKind} {a b:Int} {z:Value} (ho:o.op=.binOp op t x y yt) (hx:zo gN env x=some (.v (.int k a))) (hy:zo gN env y=some (.v (.int k' b))) (h:zJ P (binOp op t (.int k a) (.int k' b))=some z):Pk P env o (.v z):=fun φ n ac hE=>by
 refine ⟨z,?_,.v z⟩;unfold execOp; rw [ho]; dsimp only;rw [p_ev hE hx,p_ev hE hy,zaX];exact zE (zE rfl h) rfl
theorem zca {op:BinOp} {t yt:TypeId} {x y:Operand} {k:IntKind} {a b:Int} {r:Int} (ho:o.op=.binOp op t x y yt) (hx:zo gN env x=some (.v (.int k a))) (hy:zo gN env y=some (.v (.int k b))) (hop:op=.and\/op=.or\/op=.andNot) (hr:bits op k a b=r):Pk P env o (.v (.int k r)):=by
 refine p_int ho hx hy ?_;subst hr;rcases hop with rfl | rfl | rfl;all_goals
  show zJ P (if k≠k then _ else _)=_;rw [if_neg sQ];rfl
theorem zh8 {op:BinOp} {t yt:TypeId} {x y:Operand} {k:IntKind} {a b:Int} {r:Int} (ho:o.op=.binOp op t x y yt) (hx:zo gN env x=some (.v (.int k a))) (hy:zo gN env y=some (.v (.int k b))) (h:(op=.add/\k.wrap (a+b)=r)\/(op=.sub/\k.wrap (a - b)=r)):Pk P env o (.v (.int k r)):=by
 refine p_int ho hx hy ?_;rcases h with ⟨rfl,rfl⟩ | ⟨rfl,rfl⟩;all_goals
  show zJ P (if k≠k then _ else _)=_;rw [if_neg sQ];rfl
theorem p_cmp {op:BinOp} {t yt:TypeId} {x y:Operand} {k:IntKind} {a b:Int} {z:Bool} (ho:o.op=.binOp op t x y yt) (hx:zo gN env x=some (.v (.int k a))) (hy:zo gN env y=some (.v (.int k b))) (h:cmpI op a b=some z):Pk P env o (.v (.bool z)):=by
 refine p_int ho hx hy ?_;cases op <;> first | (cases h; done) | skip
 all_goals
  cases h;show zJ P (if k≠k then _ else _)=_;rw [if_neg sQ];rfl
theorem p_sh {t yt:TypeId} {x y:Operand} {k k':IntKind} {a b:Int} {r:Int} (ho:o.op=.binOp .shr t x y yt) (hx:zo gN env x=some (.v (.int k a))) (hy:zo gN env y=some (.v (.int k' b))) (h0:0<=b/\b<=k.bits) (hr:a / 2 ^ b.toNat=r):Pk P env o (.v (.int k r)):=by
 refine p_int ho hx hy ?_;show zJ P (Op.shift .shr k a k' b)=_;rw [shift_shr k k' a b h0.1 h0.2,hr];rfl
theorem p_shL {t yt:TypeId} {x y:Operand} {k k':IntKind} {a b:Int} {r:Int} (ho:o.op=.binOp .shl t x y yt) (hx:zo gN env x=some (.v (.int k a))) (hy:zo gN env y=some (.v (.int k' b))) (h0:0<=b/\b<=k.bits) (hr:k.wrap (a*2 ^ b.toNat)=r):Pk P env o (.v (.int k r)):=by
 refine p_int ho hx hy ?_;show zJ P (Op.shift .shl k a k' b)=_;rw [shift_shl k k' a b h0.1 h0.2,hr];rfl
theorem vr {s d:TypeId} {x:Operand} {k k':IntKind} {ds:TypeDesc} {n m:Int} (ho:o.op=.convert s d x) (hx:zo gN env x=some (.v (.int k n))) (hs:P.underlying s=some ds) (hd:P.underlying d=some (.int k')) (h:k'.wrap n=m):Pk P env o (.v (.int k' m)):=fun φ n' ac hE=>by
 refine ⟨_,?_,.v _⟩;unfold execOp; rw [ho]; dsimp only;rw [p_ev hE hx];refine zE (a:=.int k' m) ?_ rfl;unfold convert;refine zE (z5 hs) (zE (z5 hd) ?_);have:zJ P (Conv.intToInt k' n)=some (.int k' m):=by rw [<- h]; rfl
 cases ds <;> exact this
theorem vJ {c x y:Operand} {r:AV} (ho:o.op=.pick c x y) (hc:zo gN env c=some (.v (.bool true))) (hx:zo gN env x=some r):Pk P env o r:=fun φ n a hE=>by
 have:=zD (km φ n) hE x;rw [zy hx] at this;exact ⟨_,by unfold execOp; rw [ho]; simp only [p_ev hE hc]; rfl,this⟩
theorem kc {c x y:Operand} {r:AV} (ho:o.op=.pick c x y) (hc:zo gN env c=some (.v (.bool false))) (hy:zo gN env y=some r):Pk P env o r:=fun φ n a hE=>by
 have:=zD (km φ n) hE y;rw [zy hy] at this;exact ⟨_,by unfold execOp; rw [ho]; simp only [p_ev hE hc]; rfl,this⟩
theorem zcH {t:TypeId} {i:TypeInfo} (h:P.info? t=some i):zJ P (typeInfo t)=some i:=by
 show zJ P (match P.info? t with | some i=>pure i | none=>stuck "no such type")=_
 rw [h]; rfl
theorem zeI {t:TypeId} {i:TypeInfo} (h:P.info? t=some i):zJ P (sizeOf t)=some i.size:=by
 unfold sizeOf;exact zE (zcH h) rfl
theorem kH {t:TypeId} {x:Operand} {k off d m:Nat} {g:Bool} {b:Nat} (ho:o.op=.fieldAddr t x k) (hx:zo gN env x=some (.v (.pointer (some ⟨b,off,none⟩)))) (hf:fieldOf P t k=some (d,g,m)) (hn:m≠0):Pk P env o (.v (.pointer (some ⟨b,off+d,none⟩))):=fun φ n ac hE=>by
 refine ⟨_,?_,.v _⟩;unfold execOp; rw [ho];obtain ⟨fs,f,e1,e2,e3,e4⟩:=wQ hf;obtain ⟨ti,td,e5,_,_,e6⟩:=yF e4;dsimp only;rw [p_ev hE hx];refine zE (a:=.pointer (some ⟨b,off+d,none⟩)) ?_ rfl;unfold Instr.fieldAt;refine zE (z5 e1) ?_;simp only [e2];have hp:zJ P (fieldPlace ⟨b,off,none⟩ f)=some ⟨b,off+d,none⟩:=by
  unfold fieldPlace;refine zE (zeI e5) ?_;rw [e6,if_neg hn];show some (Addr.add ⟨b,off,none⟩ f.offset)=_;rw [yY,e3]
 exact zE rfl (zE hp rfl)
variable (φ0:Nat->Loc3) in
def TQ (P:Program) (T:Goroutine->Prop) (kdf:CallKind) (f:FuncId) (cs:List Frame) (de:List Deferred) (k:List Item) (env:List AV):Prop:=∀ ts,zM φ0 0 env ts->T (G (fr kdf f none ts de k) cs)
variable {φ0:Nat->Loc3} {kdf:CallKind} {f:FuncId} {cs:List Frame} {de:List Deferred} {k:List Item} {ops:Array Oper} {q:Nat} {rest:List Nat}
theorem TQ.skip (hT:ShQ P main T) (h:(TQ φ0 P T kdf f cs de) k env):(TQ φ0 P T kdf f cs de) (.code .skip::k) env:=fun ts hE=>hT _ _ rfl rfl (fun _=>zgi) (h ts hE)
theorem TQ.inBlock (hT:ShQ P main T) {id:Nat} (h:(TQ φ0 P T kdf f cs de) k env):(TQ φ0 P T kdf f cs de) (.inBlock id::k) env:=fun ts hE=>hT _ _ rfl rfl (fun _=>zch) (h ts hE)
theorem TQ.label (hT:ShQ P main T) {l:Nat} (h:(TQ φ0 P T kdf f cs de) k env):(TQ φ0 P T kdf f cs de) (.code (.label l)::k) env:=fun ts hE=>hT _ _ rfl rfl (fun _=>ze4) (h ts hE)
theorem TQ.seq (hT:ShQ P main T) {x y:Code} (h:(TQ φ0 P T kdf f cs de) (.code x::.code y::k) env):(TQ φ0 P T kdf f cs de) (.code (.seq x y)::k) env:=fun ts hE=>hT _ _ rfl rfl (fun _=>ziv) (h ts hE)
theorem TQ.block (hT:ShQ P main T) {id:Nat} {c:Code} (h:(TQ φ0 P T kdf f cs de) (.code c::.inBlock id::k) env):(TQ φ0 P T kdf f cs de) (.code (.block id c)::k) env:=fun ts hE=>hT _ _ rfl rfl (fun _=>ze3) (h ts hE)
theorem TQ.loop (hT:ShQ P main T) {c:Code} (h:(TQ φ0 P T kdf f cs de) (.code c::.inLoop c::k) env):(TQ φ0 P T kdf f cs de) (.code (.loop c)::k) env:=fun ts hE=>hT _ _ rfl rfl (fun _=>zgh) (h ts hE)
theorem TQ.inLoop (hT:ShQ P main T) {c:Code} (h:(TQ φ0 P T kdf f cs de) (.code c::.inLoop c::k) env):(TQ φ0 P T kdf f cs de) (.inLoop c::k) env:=fun ts hE=>hT _ _ rfl rfl (fun _=>zdr) (h ts hE)
theorem TQ.exit (hT:ShQ P main T) {id:Nat} {k':List Item} (hk:exitTo id k=some k') (h:(TQ φ0 P T kdf f cs de) k' env):(TQ φ0 P T kdf f cs de) (.code (.exit id)::k) env:=fun ts hE=>hT _ _ rfl rfl (fun _=>zgg hk) (h ts hE)
theorem TQ.rgn (hT:ShQ P main T) {id:Nat} {L:List Nat} (hL:List.range ops.size=L) (h:(TQ φ0 P T kdf f cs de) (.inRegion ops L::k) env):(TQ φ0 P T kdf f cs de) (.code (.region id ops false)::k) env:=fun ts hE=>hT _ _ rfl rfl (fun _=>zds) (by rw [hL]; exact h ts hE)
theorem TQ.end (hT:ShQ P main T) (h:(TQ φ0 P T kdf f cs de) k env):(TQ φ0 P T kdf f cs de) (.inRegion ops []::k) env:=fun ts hE=>hT _ _ rfl rfl (fun _=>zah) (h ts hE)
theorem TQ.cond (hT:ShQ P main T) {c:Operand} {x y:Code} {t:Bool} (hc:zo gN env c=some (.v (.bool t))) (h:(t=true->(TQ φ0 P T kdf f cs de) (.code x::k) env)/\(t=false->(TQ φ0 P T kdf f cs de) (.code y::k) env)):(TQ φ0 P T kdf f cs de) (.code (.cond c x y)::k) env:=fun ts hE=>by
 refine hT _ _ Z Z (fun _=>zgf (t:=t) (by have:=p_ev (a:=⟨ts,[]⟩) hE hc; rw [yQ] at this; exact this)) ?_;cases t with
 | true=>exact h.1 rfl ts hE
 | false=>exact h.2 rfl ts hE
theorem TQ.condT (hT:ShQ P main T) {c:Operand} {x y:Code} (hc:zo gN env c=some (.v (.bool true))) (h:(TQ φ0 P T kdf f cs de) (.code x::k) env):(TQ φ0 P T kdf f cs de) (.code (.cond c x y)::k) env:=TQ.cond hT hc ⟨fun _=>h,fun h=>(by cases h)⟩
theorem TQ.condF (hT:ShQ P main T) {c:Operand} {x y:Code} (hc:zo gN env c=some (.v (.bool false))) (h:(TQ φ0 P T kdf f cs de) (.code y::k) env):(TQ φ0 P T kdf f cs de) (.code (.cond c x y)::k) env:=TQ.cond hT hc ⟨fun h=>(by cases h),fun _=>h⟩
theorem TQ.norm (he:env=env') (h:(TQ φ0 P T kdf f cs de) k env'):(TQ φ0 P T kdf f cs de) k env:=he ▸ h
theorem TQ.mask (live:List Nat) (h:(TQ φ0 P T kdf f cs de) k (liveA live 0 env)):(TQ φ0 P T kdf f cs de) k env:=fun ts hE=>h ts (by
 have e:=uV live 0 env;rw [<- e];refine ⟨by rw [uf]; exact hE.1,fun j a y ha hy=>?_⟩;rcases ub _ _ _ _ ha with rfl | h
 ·exact .any _
 ·exact hE.2 j a y h hy)
theorem TQ.a (hT:ShQ P main T) (hkd:kdf≠.early) {r:AV} {d:Nat} (ho:ops[q]? =some o) (hq:Pk P env o r) (h:(TQ φ0 P T kdf f cs de) (.inRegion ops rest::k) env') (hd:yf o.op=false:=by rfl) (hw:zO ops env o=some true:=by rfl) (hx:o.dst=some d:=by rfl) (he:env.set d r=env':=by simp only [List.set]; rfl):(TQ φ0 P T kdf f cs de) (.inRegion ops (q::rest)::k) env:=fun ts hE=>by
 obtain ⟨v,hv,hr⟩:=hq φ0 0 ⟨ts,[]⟩ hE;rw [yQ] at hv;have hP:=yB (a:=⟨ts,[]⟩) hE hr o.dst;rw [hx] at hP;have hP2:zM φ0 0 env' (putT ts o.dst v):=by rw [hx,<- he]; exact hP
 refine hT _ _ Z Z (fun w=>?_) (h (putT ts o.dst v) hP2);obtain ⟨e1,e2⟩:=wl _ hv w;rw [fr_at,stepG_value (b:=bf kdf f) (a:=⟨ts,de⟩) (v:=v) (w':=w) ho (zP (ts:=ts) hE hw) hkd (by rw [yQ]; exact e1),yi,listed_nil (by rw [yQ]; exact e2)];rfl
theorem TQ.unwanted (hT:ShQ P main T) (ho:ops[q]? =some o) (hw:zO ops env o=some false) (he:zR env o.dst (.v undef)=env') (h:(TQ φ0 P T kdf f cs de) (.inRegion ops rest::k) env'):(TQ φ0 P T kdf f cs de) (.inRegion ops (q::rest)::k) env:=fun ts hE=>by
 have hP:=yB (a:=⟨ts,[]⟩) hE (RelV.v (φ:=φ0) (n:=0) undef) o.dst;rw [he] at hP;exact hT _ _ rfl rfl (fun _=>un ho (zP hE hw)) (h _ hP)
theorem TQ.sp (d:Nat) {t:Bool} {env1 env0:List AV} (k1:t=true->(TQ φ0 P T kdf f cs de) k env1) (k0:t=false->(TQ φ0 P T kdf f cs de) k env0) (hd:env[d]? =some (.v (.bool t)):=by rfl) (h1:env.set d (.v (.bool true))=env1:=by simp only [List.set]; rfl) (h0:env.set d (.v (.bool false))=env0:=by simp only [List.set]; rfl):(TQ φ0 P T kdf f cs de) k env:=fun ts hE=>by
 have hs:∀ b,t=b->env=env.set d (.v (.bool b)):=fun b e=>by
  subst e;refine List.ext_getElem? fun j=>?_;rw [List.getElem?_set];split
  ·rename_i e;subst e;split
   ·exact hd
   ·rename_i hlt;rw [lU oQ] at hd;cases hd
  ·rfl
 cases t with
 | true=>exact k1 rfl ts (by rw [<- h1,<- hs _ rfl]; exact hE)
 | false=>exact k0 rfl ts (by rw [<- h0,<- hs _ rfl]; exact hE)
theorem TQ.pure (hT:ShQ P main T) (hkd:kdf≠.early) {g:FuncId} {as0:Array Operand} {ats:Array TypeId} {e:Array Value->Sem Value} {v:Value} [hx:Ext P g e] (ho:ops[q]? =some o) (hop:o.op=.call { callee:=.value (.func g),args:=as0,argTypes:=ats }) (h:(TQ φ0 P T kdf f cs de) (.inRegion ops rest::k) env') (he:e=(fun _=>Sem.pure v):=by rfl) (hw:zO ops env o=some true:=by rfl) (hd:zR env o.dst (.v v)=env':=by exact zn rfl tQ):(TQ φ0 P T kdf f cs de) (.inRegion ops (q::rest)::k) env:=fun ts hE=>by
 obtain ⟨fn,e1,e2,e3,e4,e5⟩:=hx.h;subst he;have hP:=yB (a:=⟨ts,[]⟩) hE (RelV.v (φ:=φ0) (n:=0) v) o.dst;rw [hd] at hP;refine hT _ _ Z Z (fun w=>?_) (h _ hP);rw [fr_at,stepG_entry_pure (b:=bf kdf f) (a:=⟨ts,de⟩) v ho (zP (ts:=ts) hE hw) hkd hop e1 e2 e3 e4 e5,yi];rfl
theorem TQ.defer (hT:ShQ P main T) (hkd:kdf≠.early) {g:FuncId} {ats:Array TypeId} (ho:ops[q]? =some o) (hop:o.op=.defer { callee:=.value (.func g),args:=#[],argTypes:=ats }) (h:TQ φ0 P T kdf f cs (dcall g #[]::de) (.inRegion ops rest::k) env') (hw:zO ops env o=some true:=by rfl) (hd:zR env o.dst (.v undef)=env':=by first | exact putN rfl | exact zn rfl tQ):(TQ φ0 P T kdf f cs de) (.inRegion ops (q::rest)::k) env:=fun ts hE=>by
 have hP:=yB (a:=⟨ts,[]⟩) hE (RelV.v (φ:=φ0) (n:=0) undef) o.dst;rw [hd] at hP;refine hT _ _ Z Z (fun w=>?_) (h _ hP);have e:(#[]:Array Operand).map (⟨ts,de⟩:Act).eval=#[]:=by simp
 rw [fr_at,stepG_defer (b:=bf kdf f) (a:=⟨ts,de⟩) ho (zP (ts:=ts) hE hw) hkd hop,e,yi];rfl
def CallQ (P:Program) (T:Goroutine->Prop) (g:FuncId) (vs:List Value) (R:Value->(Goroutine->Prop)->Prop):Prop :=
 ∀ (c:Frame) (cs:List Frame),(∀ T' v,R v T'->T' (G (c.finish v) cs))->T (G (Frame.enter P g vs.toArray .normal) (c::cs))
theorem zbu (n:Nat) {g:FuncId} {fn:Func} {c:Code} {vs:List Value} {R:Value->(Goroutine->Prop)->Prop} (hf:P.funcs[g]? =some fn)
  (h:∀ (c0:Frame) (cs:List Frame),(∀ T' v,R v T'->T' (G (c0.finish v) cs))->TQ (fun _=>⟨0,0,0⟩) P T .normal g (c0::cs) [] [.code c] (vs.map .v++mB (n - (vs.map AV.v).length) .any)) (hb:fn.body=some c:=by rfl) (hn:fn.ntmps=n:=by rfl):CallQ P T g vs R:=by
 subst hn;intro c0 cs hfin;rw [wh vs.toArray hf hb];exact h c0 cs hfin _ (y7 (zeP _ _ vs) _)
theorem TQ.call (hT:ShQ P main T) (hkd:kdf≠.early) {g:FuncId} {ars:Array Operand} {at_:Array TypeId} {vs:List Value} {R:Value->(Goroutine->Prop)->Prop} {env2:Value->List AV} (ho:ops[q]? =some o) (hop:o.op=.call { callee:=.value (.func g),args:=ars,argTypes:=at_ }) (hargs:ars.toList.map (zL gN env)=vs.map .v) (hc:CallQ P T g vs R)
  (h:∀ v T',R v T'->TQ φ0 P T' kdf f cs de (.inRegion ops rest::k) (env2 v)) (hw:zO ops env o=some true:=by rfl) (hg:yk P g=true:=by exact Cal.h) (he:∀ v,zR env o.dst (.v v)=env2 v:=by exact fun _=>zn rfl tQ):(TQ φ0 P T kdf f cs de) (.inRegion ops (q::rest)::k) env:=fun ts hE=>by
 have hfin:=fun v=>kb kdf f none ts de ops q rest k v;simp only [ho,Option.bind_some] at hfin;refine hT _ (G (Frame.enter P g vs.toArray .normal) (fr kdf f none ts de (.inRegion ops (q::rest)::k)::cs)) Z Z (fun w=>?_) (hc _ cs fun T' v hr=>?_)
 ·have hv:=zcN (km φ0 0) hE hargs;have hcf:zJ P (callFunc g vs.toArray)=some (.enter g vs.toArray):=by
   unfold yk at hg;split at hg
   ·rename_i fn' ef;simp only [mX,mV] at hg;show zJ P (match P.funcs[g]? with | none=>_ | some fn=>_)=_;rw [ef];simp only [hg.1,mU,if_false];have hb:fn'.body.isNone=false:=by
     cases e':fn'.body with
     | none=>rw [e'] at hg; simp at hg
     | some _=>rfl
    simp only [hb,mU,if_false];rfl
   ·cases hg
  have hp:zJ P (execOp (evT ts) o)=some (.enter g vs.toArray):=by
   unfold execOp;rw [hop];dsimp only;show zJ P (Deferred.ofValue (.func (.func g) #[] #[]) (ars.map (evT ts)) >>= fun d=>invoke d.target d.args)=_;rw [hv];show zJ P (callFunc g ((#[]++vs.toArray)++#[]))=_;rw [mK,Array.append_empty];exact hcf
  obtain ⟨e1,e2⟩:=wl _ hp w;rw [vM hkd ho (zP hE hw) (by rw [hop]; rfl)];simp only [stepG.apply,Sem.runT_eq,e1,e2];simp [fr,GStep.after,hkd,seen_none];rfl
 ·rw [hfin];have hP:=yB (a:=⟨ts,[]⟩) hE (RelV.v (φ:=φ0) (n:=0) v) o.dst;rw [he] at hP;exact h v T' hr _ hP
theorem TQ.ret (hT:ShQ P main T) {fn:Func} {c0:Frame} {r:Value} (hf:P.funcs[f]? =some fn) (hres:∀ ts,zM φ0 0 env ts->zJ P (results fn ts)=some r) (hfin:T (G (c0.finish r) cs)):TQ φ0 P T .normal f (c0::cs) [] (.code .ret::k) env:=fun ts hE=>by
 refine hT _ _ Z Z (fun _=>vx) (hT _ _ rfl rfl (fun w=>?_) hfin);obtain ⟨e1,e2⟩:=wl _ (hres ts hE) w;exact stepG_leave (b:=bf .normal f) (a:=⟨ts,[]⟩) rfl rfl hf e1 e2
theorem TQ.ret0 (hT:ShQ P main T) {fn:Func} {c0:Frame} {r:Value} (hf:P.funcs[f]? =some fn) (hres:∀ ts,zM φ0 0 env ts->zJ P (results fn ts)=some r) (hfin:T (G (c0.finish r) cs)):TQ φ0 P T .normal f (c0::cs) [] [] env:=fun ts hE=>by
 refine hT _ _ Z Z (fun _=>wW) (hT _ _ rfl rfl (fun w=>?_) hfin);obtain ⟨e1,e2⟩:=wl _ (hres ts hE) w;exact stepG_leave (b:=bf .normal f) (a:=⟨ts,[]⟩) rfl rfl hf e1 e2
end
end Go.Vel
namespace Go.Vel
open Go Go.Conc
open Go.ConcN (sumTo upd upd_ne upd_same)
open Go.ConcM (OsLater MuAt muA msA)
open Go.ConcR (KK wgBlock WgAt stA smA mk rd wr)
open Mx (TT Th Mn S4 auto Mv4 ok4 bl4 kd dl MPc Pc okW okM Mv nx4 cnt)
section
variable {P:Program} {y:Sy P} {Ch:Nat->Goroutine->Hp->Prop} {k i:Nat} {T T':TT} {x:Nat->Bool}
def Sy.Sq2 (y:Sy P) (Ch:Nat->Goroutine->Hp->Prop) (k i:Nat) (T:TT) (x:Nat->Bool) (g:Goroutine):Prop:=Seg P false true (LiveS y.A y.sh) (y.At false Ch k i T x) g (fun _=>none)
def Tq (P:Program) (d:Nat) (g:Goroutine):Prop:=∃ n,QuitsD P n d g
theorem zb (d:Nat):ShQ P false (Tq P d):=fun g g' hr hr' h ⟨n,hq⟩=>⟨n+1,.ctl hr h hq⟩
theorem zc (y:Sy P) {Ch:Nat->Goroutine->Hp->Prop} {k i:Nat} {T:TT} {x:Nat->Bool}:ShQ P false (y.Sq2 Ch k i T x):=fun g g' hr hr' h hq=>by
 refine .step hr (fun w hf hl=>⟨g',w,#[],h w,yP hf (fun e he=>by simp at he),hr',fun _=>⟨rfl,rfl⟩⟩) fun w g2 w' es hf hl he=>?_;have:=(h w).symm.trans he;cases this;rw [yS hf];exact hq
theorem qqQ {p:Prop} (h:p:=by first | exact zc _ | exact zb _):p:=h
variable {φ0:Nat->Loc3} {kdf:CallKind} {f:FuncId} {cs:List Frame} {de:List Deferred} {kk:List Item} {env env':List AV} {ops:Array Oper} {q:Nat} {rest:List Nat} {o:Oper}
theorem TQ.book (hk:kd T=.book) (hb:∀ s,¬ bl4 T s) (hwk:y.A.wk T->∀ ts,mayWake P (G (fr kdf f none ts de (.inRegion ops (q::rest)::kk)) cs)=true)
  (h:∀ (w:World) (s:S4) (ts:Array Value),zM φ0 0 env ts->y.sh w s->ok4 T s->∃ T' s' v w' es,Mv4 y.n T s T' s'/\stepG P false (G (fr kdf f none ts de (.inRegion ops (q::rest)::kk)) cs) w=.go (G (fr kdf f none (putT ts o.dst v) de (.inRegion ops rest::kk)) cs) w' es/\Eff y.S2 w w'/\y.sh w' s'/\EvB false y.S2 (dl T) (dl T') es /\
   ((kd T'=.quit/\TQ φ0 P (Tq P (dl T')) kdf f cs de (.inRegion ops rest::kk) (zR env o.dst (.v v)))\/(kd T'≠.quit/\y.A.aft T'=true/\∀ k',k'<k->TQ φ0 P (y.Sq2 Ch k' i T' x) kdf f cs de (.inRegion ops rest::kk) (zR env o.dst (.v v))))) :
  TQ φ0 P (y.Sq2 Ch k i T x) kdf f cs de (.inRegion ops (q::rest)::kk) env:=by
 intro ts hE;refine .stop ?_;cases k with
 | zero=>trivial
 | succ k' =>
  refine ⟨rfl,rfl,fun hw=>hwk hw ts,?_⟩;have hk0:y.A.kd T=.book:=hk;rw [hk0];intro w s hf hsh hok;refine ⟨fun hb'=>absurd hb' (hb s),fun _=>?_⟩;obtain ⟨T',s',v,w',es,m1,m2,m3,m4,m5,m6⟩:=h w s ts hE hsh hok;have hP:=yB (a:=⟨ts,[]⟩) hE (RelV.v (φ:=φ0) (n:=0) v) o.dst;refine ⟨T',s',_,w',es,m1,m2,m3,m4,m5,?_⟩;rcases m6 with ⟨a,b⟩ | ⟨a,b,c⟩
  ·exact .inl ⟨a,b _ hP⟩
  ·refine .inr ⟨a,rfl,?_⟩;have hb':y.A.aft T'=true:=b;rw [hb'];exact c k' (Nat.lt_succ_self _) _ hP
theorem TQ.sMark {g:FuncId} {as0:Array Operand} {ats:Array TypeId} {e:Array Value->Sem Value} (hkd:kdf≠.early) (T':TT) (m:Mark) (hm:∀ g,m≠.extern g) [hx:Ext P g e] (ho:ops[q]? =some o) (hop:o.op=.call { callee:=.value (.func g),args:=as0,argTypes:=ats })
  (hmv:∀ s,ok4 T s->Mv4 y.n T s T' s) (hev:EvB false y.S2 (dl T) (dl T') #[mk m]) (hT':y.A.aft T'=true) (h:∀ k',k'<k->TQ φ0 P (y.Sq2 Ch k' i T' x) kdf f cs de (.inRegion ops rest::kk) env')
  (hw:zO ops env o=some true:=by rfl) (he:e=(fun _=>do mark m; Sem.pure Extern.Race.none_):=by rfl) (hk:kd T=.book:=by rfl) (hk':kd T'≠.quit:=by exact fun h=>by cases h) (hb:∀ s,¬ bl4 T s:=by exact fun _ h=>by cases h.1) (hwk:¬ y.A.wk T:=by exact fun h=>by cases h <;> rename_i h <;> cases h) (hd:zR env o.dst (.v (.tuple #[]))=env':=by exact zn rfl tQ) :
  TQ φ0 P (y.Sq2 Ch k i T x) kdf f cs de (.inRegion ops (q::rest)::kk) env:=by
 refine TQ.book (o:=o) hk hb (fun h=>absurd h hwk) fun w s ts hE hsh hok=>⟨T',s,.tuple #[],w,#[mk m],hmv s hok,?_,kG w,hsh,hev,.inr ⟨hk',hT',fun k' hk''=>by rw [hd]; exact h k' hk''⟩⟩;obtain ⟨fn,e1,e2,e3,e4,e5⟩:=hx.h;subst he;rw [fr_at,stepG_mark0 (b:=bf kdf f) (a:=⟨ts,de⟩) m hm ho (zP (ts:=ts) hE hw) hkd hop e1 e2 e3 e4 e5,yi]; rfl
theorem TQ.gAdd {g:FuncId} {ca cb:Operand} {ats:Array TypeId} {e:Array Value->Sem Value} (hkd:kdf≠.early) (d:Int) [hx:Ext P g e] (ho:ops[q]? =some o) (hop:o.op=.call { callee:=.value (.func g),args:=#[ca,cb],argTypes:=ats })
  (h1:zo gN env ca=some (.v (.pointer (some (stA y.Wg))))) (h2:zo gN env cb=some (.v (.int .u64 d))) (hnew:∀ s:S4,∀ v,s.v=v+1->s.v<64->s.wt<=1->IntKind.u64.wrap (gval s+d)=gval { s with v:=v })
  (hl:∀ k',k'<k->TQ φ0 P (y.Sq2 Ch k' i (.w { pc:=.d2 }) x) kdf f cs de (.inRegion ops rest::kk) (zR env o.dst (.v (.int .u64 1))))
  (hq:∀ v wt:Nat,v<64->wt<=1->¬ (v=0/\wt=1)->TQ φ0 P (Tq P 1) kdf f cs de (.inRegion ops rest::kk) (zR env o.dst (.v (.int .u64 ((v:Int)*KK+wt)))))
  (hw:zO ops env o=some true:=by rfl) (he:e=Extern.Atomic.update (Op.intArith .add) .u64 true:=by rfl) :
  TQ φ0 P (y.Sq2 Ch k i (.w { pc:=.d1 }) x) kdf f cs de (.inRegion ops (q::rest)::kk) env:=by
 refine TQ.book (o:=o) Z (fun _ h=>by cases h.1) (fun h=>by cases h <;> rename_i h <;> cases h) fun w s ts hE hsh hok=>?_;obtain ⟨fn,e1,e2,e3,e4,e5⟩:=hx.h;subst he;obtain ⟨_,_,_,_,q5,q6,q7,q8⟩:=hok;obtain ⟨v,hv⟩:∃ v,s.v=v+1:=⟨s.v - 1,by have:1<=s.v:=q7; omega⟩;have hn:=hnew s v hv q5 q6;have hst:stepG P false (G (fr kdf f none ts de (.inRegion ops (q::rest)::kk)) cs) w=.go (G (fr kdf f none (putT ts o.dst (.int .u64 (gval { s with v:=v }))) de (.inRegion ops rest::kk)) cs) (w.setCell (stA y.Wg) (.int .u64 (gval { s with v:=v }))) #[⟨.cell (stA y.Wg),false,true⟩,⟨.cell (stA y.Wg),true,true⟩]:=by
  rw [fr_at,stepG_add_atomic (b:=bf kdf f) (a:=⟨ts,de⟩) ho (zP (ts:=ts) hE hw) hkd hop e1 e2 e3 e4 .u64 e5 (ad:=stA y.Wg) (v:=gval s) (d:=d) (p_ev hE h1) (p_ev hE h2) hsh.2.cellSt (hsh.2.thaw 0),yi,hn]; rfl
 have hsh':y.sh (w.setCell (stA y.Wg) (.int .u64 (gval { s with v:=v }))) { s with v:=v }:=⟨uF hsh.1 (wg_ne (stA y.Wg) rfl) _,hsh.2.setSt _⟩;by_cases hz:v=0/\s.wt=1
 ·obtain ⟨rfl,hw1⟩:=hz;have hg:gval { s with v:=0 }=1:=by unfold gval; dsimp only; rw [hw1]; simp
  refine ⟨.w { pc:=.d2 },{ s with v:=0 },_,_,_,.d1a Z oQ hw1,hst,kM (a:=stA y.Wg) (.inr Z) _,hsh',uB mS (a:=stA y.Wg) (.inr Z),.inr ⟨fun h=>(by cases h),rfl,fun k' hk'=>?_⟩⟩;rw [hg]; exact hl k' hk'
 ·refine ⟨.w { pc:=.quit },{ s with v:=v },_,_,_,.d1b Z hv hz,hst,kM (a:=stA y.Wg) (.inr Z) _,hsh',uB mS (a:=stA y.Wg) (.inr Z),.inl ⟨rfl,hq v s.wt oQ q6 hz⟩⟩
theorem TQ.gLoad {g:FuncId} {ca:Operand} {ats:Array TypeId} {e:Array Value->Sem Value} (hkd:kdf≠.early) [hx:Ext P g e] (ho:ops[q]? =some o) (hop:o.op=.call { callee:=.value (.func g),args:=#[ca],argTypes:=ats })
  (h1:zo gN env ca=some (.v (.pointer (some (stA y.Wg))))) (hl:∀ k',k'<k->TQ φ0 P (y.Sq2 Ch k' i (.w { pc:=.d3 }) x) kdf f cs de (.inRegion ops rest::kk) (zR env o.dst (.v (.int .u64 1))))
  (hw:zO ops env o=some true:=by rfl) (he:e=Extern.Atomic.loadT (.int .u64):=by rfl) :
  TQ φ0 P (y.Sq2 Ch k i (.w { pc:=.d2 }) x) kdf f cs de (.inRegion ops (q::rest)::kk) env:=by
 refine TQ.book (o:=o) Z (fun _ h=>by cases h.1) (fun h=>by cases h <;> rename_i h <;> cases h) fun w s ts hE hsh hok=>?_;obtain ⟨fn,e1,e2,e3,e4,e5⟩:=hx.h;subst he;obtain ⟨_,_,_,_,_,_,q7,q8,q9⟩:=hok;have hg:gval s=1:=by unfold gval; rw [q7,q8]; simp
 refine ⟨.w { pc:=.d3 },s,.int .u64 1,w,_,.d2 rfl,?_,kG w,hsh,evb_r mS (a:=stA y.Wg) (.inr Z),.inr ⟨fun h=>(by cases h),rfl,hl⟩⟩;rw [fr_at,stepG_load_atomic (b:=bf kdf f) (a:=⟨ts,de⟩) ho (zP (ts:=ts) hE hw) hkd hop e1 e2 e3 e4 .u64 e5 (ad:=stA y.Wg) (v:=gval s) (p_ev hE h1) hsh.2.cellSt,yi,hg]; rfl
theorem TQ.gStore {g:FuncId} {ca cb:Operand} {ats:Array TypeId} {e:Array Value->Sem Value} (hkd:kdf≠.early) [hx:Ext P g e] (ho:ops[q]? =some o) (hop:o.op=.call { callee:=.value (.func g),args:=#[ca,cb],argTypes:=ats })
  (h1:zo gN env ca=some (.v (.pointer (some (stA y.Wg))))) (h2:zo gN env cb=some (.v (.int .u64 0))) (hl:∀ k',k'<k->TQ φ0 P (y.Sq2 Ch k' i (.w { pc:=.d4 }) x) kdf f cs de (.inRegion ops rest::kk) env')
  (hw:zO ops env o=some true:=by rfl) (he:e=Extern.Atomic.storeT:=by rfl) (hd:zR env o.dst (.v (.tuple #[]))=env':=by exact zn rfl tQ) :
  TQ φ0 P (y.Sq2 Ch k i (.w { pc:=.d3 }) x) kdf f cs de (.inRegion ops (q::rest)::kk) env:=by
 refine TQ.book (o:=o) Z (fun _ h=>by cases h.1) (fun h=>by cases h <;> rename_i h <;> cases h) fun w s ts hE hsh hok=>?_;obtain ⟨fn,e1,e2,e3,e4,e5⟩:=hx.h;subst he;obtain ⟨_,_,_,_,_,_,q7,q8,q9⟩:=hok;have hg:gval { s with wt:=0 }=0:=by unfold gval; dsimp only; rw [q7]; simp
 refine ⟨.w { pc:=.d4 },{ s with wt:=0 },.tuple #[],w.setCell (stA y.Wg) (.int .u64 0),#[⟨.cell (stA y.Wg),true,true⟩],.d3 rfl,?_,kM (a:=stA y.Wg) (.inr Z) (.int .u64 0),⟨uF hsh.1 (wg_ne (stA y.Wg) Z) _,?_⟩,?_,.inr ⟨fun h=>(by cases h),rfl,fun k' hk'=>by rw [hd]; exact hl k' hk'⟩⟩
 ·rw [fr_at,stepG_store_atomic (b:=bf kdf f) (a:=⟨ts,de⟩) ho (zP (ts:=ts) hE hw) hkd hop e1 e2 e3 e4 e5 (ad:=stA y.Wg) (k:=.u64) (v:=0) (p_ev hE h1) (p_ev hE h2) hsh.2.cellSt (hsh.2.thaw 0),yi]; rfl
 ·have:=hsh.2.setSt (0:Int);rw [<- hg] at this ⊢;exact this
 ·exact zaZ mS fun e he=>by simp at he; subst he; exact vf (a:=stA y.Wg) (.inr rfl) _
theorem TQ.gRel {g:FuncId} {as0:Array Operand} {ats:Array TypeId} {e:Array Value->Sem Value} (hkd:kdf≠.early) [hx:Ext P g e] (ho:ops[q]? =some o) (hop:o.op=.call { callee:=.value (.func g),args:=as0,argTypes:=ats })
  (h1:∀ c,as0[0]? =some c->zo gN env c=some (.v (.pointer (some (smA y.Wg))))) (h0:as0[0]?.isSome=true) (hq:TQ φ0 P (Tq P 1) kdf f cs de (.inRegion ops rest::kk) env')
  (hw:zO ops env o=some true:=by rfl) (he:e=Extern.Sync.semrelease:=by rfl) (hd:zR env o.dst (.v (.tuple #[]))=env':=by exact zn rfl tQ) :
  TQ φ0 P (y.Sq2 Ch k i (.w { pc:=.d4 }) x) kdf f cs de (.inRegion ops (q::rest)::kk) env:=by
 obtain ⟨fn,e1,e2,e3,e4,e5⟩:=hx.h;refine TQ.book (o:=o) Z (fun _ h=>by cases h.1) (fun _ ts=>Go.ConcR.Gen.mayWake_entry (b:=bf kdf f) (a:=⟨ts,de⟩) ho hop e1 e3) fun w s ts hE hsh hok=>?_;subst he;obtain ⟨_,_,_,_,_,_,q7,q8,q9⟩:=hok;obtain ⟨c,hc⟩:=Option.isSome_iff_exists.1 h0;have hx0:(as0.map (⟨ts,de⟩:Act).eval)[0]? =some (.pointer (some (smA y.Wg))):=by
  rw [mJ,hc];exact congrArg some (p_ev hE (h1 c hc))
 refine ⟨.w { pc:=.quit },{ s with ws:=s.ws+1 },.tuple #[],_,_,.d4 rfl,?_,kM (a:=smA y.Wg) (.inr Z) (.int .u32 1),⟨uF hsh.1 (wg_ne (smA y.Wg) Z) _,?_⟩,zaY mS (a:=smA y.Wg) (.inr Z),.inl ⟨rfl,by rw [hd]; exact hq⟩⟩
 ·rw [fr_at,stepG_semrelease (b:=bf kdf f) (a:=⟨ts,de⟩) ho (zP (ts:=ts) hE hw) hkd hop e1 e2 e3 e4 e5 hx0 hsh.2.cellSm (hsh.2.thaw 1),yi,q9]; rfl
 ·have:=hsh.2.setSm (1:Int);rw [q9];exact this
theorem TQ.retQ {g:FuncId} {e:Array Value->Sem Value} {fn:Func} {c0:Frame} {r:Value} [hx:Ext P g e] (hf:P.funcs[f]? =some fn) (hres:∀ ts,zM φ0 0 env ts->zJ P (results fn ts)=some r) (hfin:Tq P 0 (G (c0.finish r) cs)) (he:e=(fun _=>do mark .enable; Sem.pure Extern.Race.none_):=by rfl) :
  TQ φ0 P (Tq P 1) .normal f (c0::cs) [dcall g #[]] (.code .ret::kk) env:=by
 intro ts hE;obtain ⟨fn',e1,e2,e3,e4,e5⟩:=hx.h;subst he;obtain ⟨n,hn⟩:=hfin;refine zb 1 _ (G { fr .normal f none ts [dcall g #[]] (.code .ret::kk) with mode:=.returning } (c0::cs)) Z Z (fun _=>vx) ?_;refine ⟨n+1+1,QuitsD.unwind_mark (b:=bf .normal f) (a:=⟨ts,[dcall g #[]]⟩) (ds:=[]) .enable Z sQ Z e1 e2 e3 e4 e5 ?_⟩;rw [show deafBehind 1 #[⟨.mark .enable,false,true⟩]=0 from rfl];refine .ctl Z (fun w=>?_) hn;obtain ⟨r1,r2⟩:=wl _ (hres ts hE) w;exact stepG_leave (b:=bf .normal f) (a:=⟨ts,[]⟩) rfl rfl hf r1 r2
theorem TQ.retQ0 {g:FuncId} {e:Array Value->Sem Value} {fn:Func} {c0:Frame} {r:Value} [hx:Ext P g e] (hf:P.funcs[f]? =some fn) (hres:∀ ts,zM φ0 0 env ts->zJ P (results fn ts)=some r) (hfin:Tq P 0 (G (c0.finish r) cs)) (he:e=(fun _=>do mark .enable; Sem.pure Extern.Race.none_):=by rfl) :
  TQ φ0 P (Tq P 1) .normal f (c0::cs) [dcall g #[]] [] env:=by
 intro ts hE;obtain ⟨fn',e1,e2,e3,e4,e5⟩:=hx.h;subst he;obtain ⟨n,hn⟩:=hfin;refine zb 1 _ (G { fr .normal f none ts [dcall g #[]] [] with mode:=.returning } (c0::cs)) Z Z (fun _=>wW) ?_;refine ⟨n+1+1,QuitsD.unwind_mark (b:=bf .normal f) (a:=⟨ts,[dcall g #[]]⟩) (ds:=[]) .enable Z sQ Z e1 e2 e3 e4 e5 ?_⟩;rw [show deafBehind 1 #[⟨.mark .enable,false,true⟩]=0 from rfl];refine .ctl Z (fun w=>?_) hn;obtain ⟨r1,r2⟩:=wl _ (hres ts hE) w;exact stepG_leave (b:=bf .normal f) (a:=⟨ts,[]⟩) rfl rfl hf r1 r2
theorem TK.relW {gm:Nat->Option Nat} {hkd:kdf≠.early} {A0:List AObj} {K0:List Nat} {K:KV} {g:FuncId} {c:Operand} {ats:Array TypeId} {e:Array Value->Sem Value} (hkd':kdf≠.early) [hx:Ext P g e] (ho:ops[q]? =some o) (hop:o.op=.call { callee:=.value (.func g),args:=#[c],argTypes:=ats }) (hc:zo gm env c=some (.v (.pointer (some (stA y.Wg)))))
  (h:∀ k',k'<k->TQ φ0 P (y.Sq2 Ch k' i (.w { pc:=.wk }) x) kdf f cs de (.inRegion ops rest::kk) env')
  (hw:zO ops env o=some true:=by rfl) (he:e=Extern.Race.marked .releaseMerge:=by rfl) (hd:zR (env.map plainV) o.dst (.v (.tuple #[]))=env':=by exact zn rfl (by simp only [List.map,plainV,List.set]; rfl)) :
  TK (YT y false Ch k i (.w { pc:=.wr }) x gm φ0 kdf hkd f cs de A0 K0) [] (.inRegion ops (q::rest)::kk) env K:=by
 intro A hA φ H ts h1 h2 h3 h4 h5 h6;show y.Sf false Ch k i (.w { pc:=.wr }) x _ _;refine .stop ?_;cases k with
 | zero=>trivial
 | succ k' =>
  obtain ⟨fn,e1,e2,e3,e4,e5⟩:=hx.h;subst he;refine ⟨rfl,rfl,fun hw=>(by cases hw <;> rename_i hw <;> cases hw),?_⟩;have hk':y.A.kd (.w { pc:=.wr })=.relW:=rfl;rw [hk'];intro w s hf hsh;refine ⟨G (fr kdf f none (putT ts o.dst (.tuple #[])) de (.inRegion ops rest::kk)) cs,rfl,?_,?_⟩
  ·show stepG P false (G (fr kdf f none ts de _) cs) w=_;rw [fr_at,stepG_markAt (b:=bf kdf f) (a:=⟨ts,de⟩) .releaseMerge sQ ho (zP (ts:=ts) h6 hw) hkd' hop e1 e2 e3 e4 e5 (ad:=stA y.Wg) (by simp [ev_v (dd:=de) h3 h6 hc]),yi];rfl
  ·have hP:=yB (a:=⟨ts,[]⟩) (vt (φ':=φ0) h6) (RelV.v (φ:=φ0) (n:=0) (.tuple #[])) o.dst;rw [hd] at hP;exact h k' (Nat.lt_succ_self _) _ hP
end
end Go.Vel
namespace Go.Vel
open Go Go.Conc Go.Proofs
open Go.ConcN (sumTo upd upd_ne upd_same)
open Go.ConcM (OsLater MuAt muA msA)
open Go.ConcR (KK wgBlock WgAt stA smA mk rd wr)
open Mx (TT Th Mn S4 auto Mv4 ok4 bl4 kd dl MPc Pc okW okM Mv nx4 cnt newOf)
instance:Ext tp 186 (Extern.Atomic.storeT):=⟨_,Tryz.func186,by kernel_rfl,by kernel_rfl,by kernel_rfl,by kernel_rfl⟩
instance:Ext tp 151 (Extern.Sync.semrelease):=⟨_,Tryz.func151,by kernel_rfl,by kernel_rfl,by kernel_rfl,by kernel_rfl⟩
theorem zed (v wt:Nat):(v:Int)*KK+wt=((v*4294967296+wt:Nat):Int):=by unfold KK; simp
theorem zjx {s:S4} {v:Nat} (h1:s.v=v+1) (h2:s.v<64) (h3:s.wt<=1):IntKind.u64.wrap (gval s+18446744069414584320)=gval { s with v:=v }:=by
 have e:gval s=(((v+1)*4294967296+s.wt:Nat):Int):=by unfold gval; rw [h1]; exact zed _ _
 have e2:gval { s with v:=v }=((v*4294967296+s.wt:Nat):Int):=zed _ _;rw [e,e2];unfold IntKind.wrap;simp only [show IntKind.u64.bits=64 from rfl,show IntKind.u64.signed=false from rfl,Bool.false_and];simp;omega
theorem bU3:∀ a:Nat,a<64->∀ b:Nat,b<2->bits .and .u64 ((a*4294967296+b:Nat):Int) 2147483648=0:=by decide +kernel
theorem bU4:∀ a:Nat,a<64->∀ b:Nat,b<2->bits .and .u64 ((a*4294967296+b:Nat):Int) 2147483647=((b:Nat):Int):=by decide +kernel
theorem wu32 {n:Int} (h:0<=n/\n<4294967296):IntKind.u32.wrap n=n:=by
 unfold IntKind.wrap;simp only [show IntKind.u32.bits=32 from rfl,show IntKind.u32.signed=false from rfl,Bool.false_and];simp;omega
theorem wm {fn:Func} {env:List AV} {φ:Nat->Loc3} (hr:fn.results=#[]) (ts:Array Value) (_:zM φ 0 env ts):zJ tp (results fn ts)=some (.tuple #[]):=by
 unfold results;rw [hr,Array.mapM_eq_mapM_toList];rfl
theorem zbH {fn:Func} {env:List AV} {φ:Nat->Loc3} {t:Tmp} {v:Value} (hr:fn.results=#[.tmp t]) (he:env[t]? =some (.v v):=by rfl) (ts:Array Value) (h:zM φ 0 env ts):zJ Tryz.prog (results fn ts)=some v:=by
 have e:results fn ts=pure (ts.getD t undef):=by
  unfold results;rw [hr,Array.mapM_eq_mapM_toList];rfl
 obtain ⟨y,hy,hr⟩:=h.get he;have:ts.getD t undef=v:=by
  rw [Array.getD_eq_getD_getElem?,hy];exact inv_v hr
 rw [e,this];rfl
end Go.Vel
namespace Go.Vel
open Go Go.Conc
open Go.ConcN (sumTo upd upd_ne upd_same)
open Go.ConcM (OsLater MuAt muA msA)
open Go.ConcR (KK wgBlock WgAt stA smA mk rd wr)
open Mx (TT Th Mn S4 auto Mv4 ok4 bl4 kd dl MPc Pc okW okM Mv nx4 cnt)
section
variable {P:Program} {gm:Nat->Option Nat}
variable {φ0:Nat->Loc3} {kdf:CallKind} {hkd:kdf≠.early} {f:FuncId} {cs:List Frame} {de:List Deferred} {A0:List AObj} {K0:List Nat} {kk:List Item} {env env':List AV} {K:KV} {ops:Array Oper} {q:Nat} {rest:List Nat} {o:Oper}
theorem TK.callZq {T:Goroutine->Hp->Prop} {hT:zm P false T} {fo:Operand} {ars:Array Operand} {at_:Array TypeId} {g:FuncId} {vs:List Value} {env2:Value->List AV} (ho:ops[q]? =some o) (hop:o.op=.call { callee:=.value fo,args:=ars,argTypes:=at_ })
  (hf:zo gm env fo=some (.fn g [] [])) (hargs:ars.toList.map (zL gm env)=vs.map .v) (hc:CallZ P T g vs (fun T'=>T'=fun g _=>Tq P 0 g))
  (h:∀ v,TQ φ0 P (Tq P 0) kdf f cs de (.inRegion ops rest::kk) (env2 v)) (he:∀ v,zR (env.map plainV) o.dst (.v v)=env2 v:=by exact fun _=>zn rfl (by simp only [List.map,plainV,List.set]; rfl)) (hw:zO ops env o=some true:=by rfl) (hg:yk P g=true:=by exact Cal.h) :
  TK (YU hT gm φ0 kdf hkd f cs de A0 K0) [] (.inRegion ops (q::rest)::kk) env K:=by
 intro A hA φ H ts h1 h2 h3 h4 h5 h6;refine hT.opF hkd ho (zP h6 hw) (by rw [hop]; rfl) (zae (dd:=de) hop (zcx h3 h6 hf) hg ?_);rw [zcN h3 h6 hargs];refine hc H _ cs fun T' v H' hp'=>?_;subst hp';have hfin:=kb kdf f none ts (dsC φ []++de) ops q rest kk v;simp only [ho,Option.bind_some] at hfin;show Tq P 0 (G ((fr kdf f none ts (dsC φ []++de) (.inRegion ops (q::rest)::kk)).finish v) cs);rw [hfin];have hE:=yB (a:=⟨ts,[]⟩) (vt (φ':=φ0) h6) (RelV.v (φ:=φ0) (n:=0) v) o.dst;rw [he] at hE;exact h v _ hE
theorem TQ.endD {fn:Func} {c0:Frame} (hf:P.funcs[f]? =some fn) (hr:fn.results=#[]) (hc:c0.mode=.returning) (hfin:Tq P 0 (G c0 cs)):TQ φ0 P (Tq P 0) .deferred f (c0::cs) [] [] env:=by
 intro ts hE;obtain ⟨n,hn⟩:=hfin;exact zb 0 _ (G { fr .deferred f none ts [] [] with mode:=.returning } (c0::cs)) rfl rfl (fun _=>wW) ⟨n+1,QuitsD.leaveD (b:=bf .deferred f) (a:=⟨ts,[]⟩) rfl rfl hf hr hc hn⟩
variable {y:Sy P} {Ch:Nat->Goroutine->Hp->Prop} {k i:Nat} {x:Nat->Bool}
theorem TK.bye {g:FuncId} {fn fd:Func} {c:Code} {vs:Array Value} (hf:P.funcs[f]? =some fn) (hr:fn.results=#[]) (hd:P.funcs[g]? =some fd) (hn:(fd.name == "runtime.NumGoroutine")=false) (hb:fd.body=some c)
  (h:∀ (c0:Frame) (cs:List Frame) (H:Hp),c0.mode=.returning->Tq P 0 (G c0 cs)->y.Sf false Ch k i (.w { pc:=.wr }) x (G (fr .deferred g none (vs++Array.replicate (fd.ntmps - vs.size) undef) [] [.code c]) (c0::cs)) H) :
  TK (YT y false Ch k i (.w { pc:=.wr }) x gm φ0 .deferred (fun h=>by cases h) f [bot P] [dcall g vs] A0 K0) [] [] env K:=by
 intro A hA φ H ts h1 h2 h3 h4 h5 h6;refine (y.shutF false Ch k i _ x).ctlF Z (fun _=>wW) rfl ?_;refine (y.shutF false Ch k i _ x).ctlF Z (fun w=>stepG_unwind_enter (b:=bf .deferred f) (a:=⟨ts,[dcall g vs]⟩) (ds:=[]) (todo:=[]) rfl hd hn hb) rfl ?_;exact h _ _ H rfl ⟨3,zfw hf hr⟩
end
theorem pureS_pure' {α:Type} {P:Program} (a:α):zJ P (pure a)=some a:=rfl
def lend (Bs del:List Nat) (H:Hp):Hp:=fun b=>if del.elem b then none else if Bs.elem b then (H b).map fun x=>(false,x.2) else H b
theorem zjB {Bs del:List Nat} {H:Hp} {b:Nat} {rw':Bool} {o:Obj} (h:lend Bs del H b=some (rw',o)):∃ r,H b=some (r,o)/\(rw'=true->r=true):=by
 unfold lend at h;split at h
 ·cases h
 ·split at h
  ·obtain ⟨x,hx,e⟩:=mY.1 h;cases e;exact ⟨x.1,hx,fun h=>by cases h⟩
  ·exact ⟨rw',h,id⟩
theorem wT {Bs del:List Nat} {H:Hp} {b:Nat} (h1:b∉Bs) (h2:b∉del):lend Bs del H b=H b:=by
 unfold lend;rw [if_neg (by simpa using h2),if_neg (by simpa using h1)]
theorem zfY {Bs del:List Nat} {H:Hp} {b:Nat} {r:Bool} {o:Obj} (h2:b∉del) (h:H b=some (r,o)):∃ r',lend Bs del H b=some (r',o):=by
 unfold lend;rw [if_neg (by simpa using h2)];split
 ·exact ⟨false,by rw [h]; rfl⟩
 ·exact ⟨r,h⟩
theorem RelH.lend {φ:Nat->Loc3} {A:List AObj} {F H:Hp} (h:RelH φ A F H) (Bs del:List Nat) (hB:∀ (t:Nat) o,A[t]? =some o->o.live=true->sol (φ t) o->(φ t).blk∉del/\(o.excl=true->(φ t).blk∉Bs)) (hF:∀ b,b∈Bs\/b∈del->F b=none):RelH φ A F (Go.Vel.lend Bs del H):=by
 refine ⟨fun t o ht=>?_,h.apart,fun b x hx=>?_,h.frx⟩
 ·have ho:=h.obj t o ht;cases o with
  | cells l e rw' =>
   intro hl;obtain ⟨r,cur,fz,q1,q2,q3⟩:=ho hl;obtain ⟨d1,d2⟩:=hB t _ ht rfl hl;cases rw' with
   | false =>
    obtain ⟨r',hr'⟩:=zfY (Bs:=Bs) d1 q1;exact ⟨r',cur,fz,hr',(fun h=>by cases h),q3⟩
   | true=>exact ⟨r,cur,fz,(wT (d2 rfl) d1).trans q1,q2,q3⟩
  | row l e size =>
   obtain ⟨h0,h2,hh⟩:=ho;refine ⟨h0,h2,fun hc=>?_⟩;obtain ⟨cur,q1,q2⟩:=hh hc;obtain ⟨d1,d2⟩:=hB t _ ht rfl hc;exact ⟨cur,(wT (d2 rfl) d1).trans q1,q2⟩
  | raw o =>
   obtain ⟨d1,d2⟩:=hB t _ ht rfl trivial;exact (wT (d2 rfl) d1).trans ho
  | loop f env ps x y st pj =>
   obtain ⟨ts,d,q1,q2⟩:=ho;obtain ⟨d1,d2⟩:=hB t _ ht rfl trivial;exact ⟨ts,d,(wT (d2 rfl) d1).trans q1,q2⟩
  | gone=>trivial
  | ro o =>
   obtain ⟨r,q1⟩:=ho;obtain ⟨d1,_⟩:=hB t _ ht rfl trivial;obtain ⟨r',hr'⟩:=zfY (Bs:=Bs) d1 q1;exact ⟨r',hr'⟩
 ·have hn:¬ (b∈Bs\/b∈del):=fun hm=>by rw [hF b hm] at hx; cases hx
  rw [wT (fun hm=>hn (.inl hm)) (fun hm=>hn (.inr hm))];exact h.fr b x hx
section
variable {P:Program} {gm:Nat->Option Nat} {y:Sy P} {k i:Nat} {T:TT} {x:Nat->Bool}
variable {φ0:Nat->Loc3} {kdf:CallKind} {hkd:kdf≠.early} {f:FuncId} {cs:List Frame} {de:List Deferred} {A0:List AObj} {K0:List Nat} {ds:List Nat} {kk:List Item} {env env':List AV} {K:KV} {ops:Array Oper} {q:Nat} {rest:List Nat} {o:Oper}
theorem TK.fork {fo:Operand} {at_:Array TypeId} {g:FuncId} {cp:List AV} {S:KV} {lo:Nat×Loc3} (hkf:kd T=.fork) (ho:ops[q]? =some o) (hop:o.op=.go { callee:=.value fo,args:=#[],argTypes:=at_ }) (hw:zO ops env o=some true) (hf:zo gm env fo=some (.fn g [] cp)) (hg:yk P g=true)
  (hS:∀ z∈S,z∈K/\∃ l e,l≠[]/\z.2=.cells l e false) (hSn:(keys S).Nodup) (hl1:lo.1<A0.length) (hl2:φ0 lo.1=lo.2) (hlS:lo.1∉keys S)
  (hchild:∀ k x φ A Hc vs,zQ ((lo.1,.gone)::S) A->(keys ((lo.1,AObj.gone)::S)).Nodup->lo.1<A.length->φ lo.1=lo.2->RelG gm φ A.length->RelH φ A nF Hc->zM φ A.length cp vs->y.Sf false (fun _ _ _=>False) k (y.A.ix T) (y.A.st (y.A.ix T)) x (G (Frame.enter P g vs .deferred) [bot P]) Hc)
  (h:∀ k',k'<k->TK (YT y true y.Chd k' i (nx4 y.n T) x gm φ0 kdf hkd f cs de A0 K0) ds (.inRegion ops rest::kk) (zR env o.dst (.v undef)) K)
  (hwk:¬ y.A.wk T:=by exact fun h=>by cases h <;> rename_i h <;> cases h) :
  TK (YT y true y.Chd k i T x gm φ0 kdf hkd f cs de A0 K0) ds (.inRegion ops (q::rest)::kk) env K:=by
 intro A hA φ H ts h1 h2 h3 h4 h5 h6;show y.Sf true y.Chd k i T x _ _;refine .stop ?_;cases k with
 | zero=>trivial
 | succ k' =>
 refine ⟨rfl,rfl,fun hw=>absurd hw hwk,?_⟩;have hk':y.A.kd T=.fork:=hkf;rw [hk'];have hfo:=zD (a:=⟨ts,[]⟩) h3 h6 fo;rw [zy hf] at hfo;obtain ⟨xs,ys,ev,hr1,hr2⟩:=vR hfo;have hxs:xs=#[]:=Array.eq_empty_of_size_eq_zero (by have:=hr1.1; simpa using this.symm);subst hxs
 let Bs:List Nat:=S.map fun z=>(φ z.1).blk
 have hcaller:RelH φ A nF (lend Bs [] H):=by
  refine h5.lend Bs [] (fun t w ht hl hs=>⟨by simp,fun hx hm=>?_⟩) fun b hb=>rfl;obtain ⟨z,hz,hm⟩:=lY.1 hm;obtain ⟨hzK,l,e',hl0,hz2⟩:=hS z hz;have haz:=hA.view z hzK;rw [hz2] at haz;by_cases htz:t=z.1
  ·subst htz; rw [ht] at haz; cases haz; cases hx
  ·exact h5.apart t z.1 w _ ht haz htz hx rfl hs hl0 hm.symm
 let Ac:List AObj:=(List.range A.length).map fun t=>if (S.map (·.1)).elem t then (A[t]?).getD .gone else .gone
 have hAcl:Ac.length=A.length:=by simp [Ac]
 have hAc:∀ (t:Nat) (w:AObj),Ac[t]? =some w->w.live=true->∃ z∈S,z.1=t/\z.2=w:=fun t w ht hl=>by
  have hlt:t<A.length:=by rw [<- hAcl]; exact (lD.1 ht).1
  simp only [Ac,lQ,List.getElem?_range hlt,Option.map_some,Option.some.injEq] at ht;split at ht
  ·rename_i hm;simp only [List.elem_eq_mem,decide_eq_true_eq] at hm;obtain ⟨z,hz,e⟩:=lY.1 hm;have haz:=hA.view z (hS z hz).1;rw [e] at haz;rw [haz] at ht;exact ⟨z,hz,e,ht⟩
  ·subst ht; cases hl
 let Hc:Hp:=fun b=>if Bs.elem b then (H b).map fun z=>(false,z.2) else none
 have hHc:∀ b r w,b∈Bs->H b=some (r,w)->Hc b=some (false,w):=fun b r w hb hz=>by
  simp only [Hc];rw [if_pos (by simpa using hb),hz]; rfl
 have hRc:RelH φ Ac nF Hc:=by
  have hne:∀ (t:Nat) (w:AObj),Ac[t]? =some w->w.excl=false:=fun t w ht=>by
   cases hl:w.live with
   | false=>cases w <;> first | rfl | cases hl
   | true =>
    obtain ⟨z,hz,_,hq⟩:=hAc t w ht hl;obtain ⟨_,l,e',_,hz2⟩:=hS z hz;rw [<- hq,hz2]; rfl
  refine ⟨fun t w ht=>?_,fun t t' w w' ht _ _ he=>absurd he (by rw [hne t w ht]; decide),(fun b z hz=>by cases hz),fun t w ht he=>absurd he (by rw [hne t w ht]; decide)⟩;rw [hAcl];cases hl:w.live with
  | false=>cases w <;> first | trivial | cases hl
  | true =>
   obtain ⟨z,hz,rfl,rfl⟩:=hAc t w ht hl;obtain ⟨hzK,l,e',hl0,hz2⟩:=hS z hz;have haz:=hA.view z hzK;rw [hz2] at haz ⊢;intro _;obtain ⟨r,cur,fz,p1,_,p3⟩:=h5.obj z.1 _ haz hl0;exact ⟨false,cur,fz,hHc _ _ _ (List.mem_map_of_mem (f:=fun z:Nat×AObj=>(φ z.1).blk) hz) p1,(fun h=>by cases h),p3⟩
 have hlt:lo.1<A.length:=mM hl1 hA.len;have hVc:zQ ((lo.1,.gone)::S) Ac:=fun z hz=>by
  rcases lI.1 hz with rfl | hz
  ·simp only [Ac,lQ,List.getElem?_range hlt,Option.map_some];rw [if_neg (by
    simp only [List.elem_eq_mem,decide_eq_true_eq];exact hlS)]
  ·have haz:=hA.view z (hS z hz).1;have hlz:z.1<A.length:=(lD.1 haz).1;simp only [Ac,lQ,List.getElem?_range hlz,Option.map_some];rw [if_pos (by simpa using ⟨z.2,hz⟩),haz]; rfl
 have hfin:=kb kdf f none ts (dsC φ ds++de) ops q rest kk undef;simp only [ho,Option.bind_some] at hfin;refine ⟨G (fr kdf f none (putT ts o.dst undef) (dsC φ ds++de) (.inRegion ops rest::kk)) cs,born P { target:=.fn (.func g) ys,args:=#[] },lend Bs [] H,Hc,rfl,rfl,fun w hfit=>⟨#[],?_,fun e he=>by simp at he⟩,(fun b r w hb=>?_),(fun b r w hb=>?_),⟨fun b w hb=>?_,fun b w hb=>?_⟩,?_,?_⟩
 ·show stepG P true (G (fr kdf f none ts (dsC φ ds++de) (.inRegion ops (q::rest)::kk)) cs) w=_;rw [vM hkd ho (zP h6 hw) (by rw [hop]; rfl)];have hpure:zJ P (execOp (evT ts) o)=some (.spawn { target:=.fn (.func g) ys,args:=#[] }):=by
   unfold execOp;rw [hop];dsimp only;have ev':evT ts fo=.func (.func g) #[] ys:=ev;refine zE (a:={ target:=.fn (.func g) ys,args:=#[] }) ?_ rfl;show zJ P (Deferred.ofValue (evT ts fo) ((#[]:Array Operand).map (evT ts)))=_;rw [ev'];simp [Deferred.ofValue,pureS_pure']
  obtain ⟨r1,r2⟩:=wl _ hpure w;simp only [fr] at hfin;simp [stepG.apply,Sem.runT_eq,r1,r2,fr,GStep.after,seen,hfin,born];rfl
 ·obtain ⟨r',e1,e2⟩:=zjB hb;exact ⟨r',e1,e2⟩
 ·simp only [Hc] at hb;split at hb
  ·obtain ⟨z,hz,e⟩:=mY.1 hb;cases e;exact ⟨z.1,hz,fun h=>by cases h⟩
  ·cases hb
 ·simp only [Hc];split
  ·rename_i hm;exfalso;unfold Go.Vel.lend at hb;rw [if_neg sQ,if_pos hm] at hb;obtain ⟨z,_,e⟩:=mY.1 hb;cases e
  ·rfl
 ·exfalso;simp only [Hc] at hb;split at hb
  ·obtain ⟨z,_,e⟩:=mY.1 hb;cases e
  ·cases hb
 ·intro k x;have hch:=hchild k x φ Ac Hc ys hVc (by rw [wi]; exact List.nodup_cons.2 ⟨hlS,hSn⟩) (by rw [hAcl]; exact hlt) ((h1 _ hl1).trans hl2) (by rw [hAcl]; exact h3) hRc (by rw [hAcl]; exact hr2);exact (y.shutF false _ k (y.A.ix T) _ x).ctlF rfl (fun w=>by have:=birth (main:=false) hg #[] ys w; rw [mK] at this; exact this) rfl hch
 ·exact h k' (Nat.lt_succ_self _) A ⟨hA.view,hA.nd,hA.own,hA.kept,hA.len⟩ φ _ _ h1 h2 h3 h4 hcaller (yB (a:=⟨ts,[]⟩) h6 (.v undef) o.dst)
end
end Go.Vel
end
