/- Texts for the statements of chapter 8: what all of them need, part 4. It holds of every program, tape and world that the statements name, as each theorem says. -/
import Derived.Conc.MuStops
import Derived.Conc.ClockLaws
import Derived.Conc.MarkLaws
import Derived.Conc.AtomicLaws2
import Derived.Conc.WgGenAddNeg
import Derived.Laws.LoneSync
import Derived.Conc.SmallLaws
import Derived.Conc.DeferLaws
import Derived.Test.YtamcohjpanjdiaaGreatDoorK2
section
set_option linter.all false
set_option maxRecDepth 20000
set_option maxHeartbeats 60000000
open List renaming cons_append -> lB, mem_cons_of_mem -> lL, getElem?_set_ne -> lP, getElem?_map -> lQ, mem_append -> lT, getElem?_eq_none -> lU, mem_append_left -> lV, mem_map -> lY, map_congr_left -> mA, replicate -> mB
open Array renaming getElem?_eq_getElem -> mD, getElem?_eq_some_iff -> mG, mem_of_getElem? -> mH, getElem?_toList -> mI, getElem?_map -> mJ, empty_append -> mK
open Nat renaming le_refl -> mL, lt_of_lt_of_le -> mM, le_trans -> mT
open Bool renaming false_eq_true -> mU, not_eq_true' -> mV, and_eq_true -> mX
namespace Go.Vel
open Go Go.Conc
section
variable {P:Program} {main:Bool} {T:Goroutine->Hp->Prop} {kd:CallKind} {f:FuncId} {ro:Option Nat} {ts:Array Value} {ds:List Deferred} {k:List Item} {cs:List Frame} {H:Hp} {w:World}
def ylCall (fo:Operand) (l:Nat):Call:={ callee:=.value fo,args:=#[.const (.func (.yield l) #[] #[])],argTypes:=#[] }
theorem StepH.seen {w':World} {es:Array Event} (h:StepH H w w' es):StepH H w w' (Go.seen P f es):=⟨h.size,h.kept,fun e he=>h.evs e (mem_seen he),h.os,h.out,h.tape⟩
theorem y9 {α:Type} {P:Program} {s:Sem α} {w w1:World} {a:α} {es:Array Event} (h:s.runT P w #[]=(.ok a w1,es)):s.run P w=.ok a w1/\s.events P w #[]=es:=by
 have:=Sem.runT_eq P s w #[]
 rw [h] at this
 exact ⟨(congrArg Prod.fst this).symm,(congrArg Prod.snd this).symm⟩
theorem zo.rangeF (hT:zo P main T) (hkd:kd≠.early) {fo:Operand} {ps:Array Tmp} {x y:Code}
  (h:wpS P (Instr.enterLoop f ts ps x y ro) H fun lm H1=>wpS P (resolve (evT ts) (ylCall fo lm.1) 0 >>= fun d=>invoke d.target d.args) H1 fun nx H2=>match nx with
   | .enter g us=>T (G (Frame.enter P g us .normal) (fr kd f ro ts (lm.2++ds) (.inRangeFunc lm.1::k)::cs)) H2
   | _=>False):T (G (fr kd f ro ts ds (.code (.rangeFunc fo ps x y)::k)) cs) H:=by
 refine hT _ _ Z fun w hf=>?_
 obtain ⟨⟨l,mark⟩,w1,es1,h1,h2,h3⟩:=ky _ _ _ w #[] h hf
 obtain ⟨nx,w2,es2,q1,q2,q3⟩:=ky _ _ _ w1 #[] h3 (hf.next h2)
 rw [mK] at h1 q1
 cases nx with
 | enter g us =>
  refine ⟨_,_,Go.seen P f es1++Go.seen P f es2,?_,StepH.trans hf h2.seen q2.seen,rfl,by rw [<- wj h2.size q2.size hf]; exact q3⟩
  have he:=zbf kd f ro ts (mark++ds) (.inRangeFunc l::k)
  simp only [fr] at he
  obtain ⟨e1,e2⟩:=y9 h1
  obtain ⟨e3,e4⟩:=y9 q1
  simp only [ylCall] at e3 e4
  simp only [G,stepG,stepG.exec,fr,Sem.runT_eq,e1,e2,stepG.apply,he,if_true,e3,e4]
  simp [GStep.after,hkd]
 | _=>exact q3.elim
theorem zo.endRangeF (hT:zo P main T) {l:Nat} (h:wpS P (Instr.endLoop l) H fun jump H'=>T (G (fr kd f ro ts ds ((jump.map Item.code).toList++k)) cs) H'):T (G (fr kd f ro ts ds (.endRangeFunc l::k)) cs) H:=by
 refine hT _ _ Z fun w hf=>?_
 obtain ⟨jump,w1,es1,h1,h2,h3⟩:=ky _ _ _ w #[] h hf
 rw [mK] at h1
 refine ⟨_,_,Go.seen P f es1,?_,h2.seen,rfl,h3⟩
 obtain ⟨e1,e2⟩:=y9 h1
 simp [G,stepG,stepG.exec,fr,Sem.runT_eq,e1,e2,GStep.after]
theorem zo.beginF (hT:zo P main T) (hkd:kd≠.early) {l:Nat} (h:wpS P (Instr.beginRound l) H fun _ H'=>T (G (fr kd f (some l) ts ds k) cs) H'):T (G (fr kd f (some l) ts ds (.beginRound::k)) cs) H:=by
 refine hT _ _ Z fun w hf=>?_
 obtain ⟨nx,w1,es1,h1,h2,h3⟩:=ky (Instr.beginRound l >>= fun _=>Pure.pure Next.skip) H (fun nx H'=>nx=.skip/\T (G (fr kd f (some l) ts ds k) cs) H') w #[] (yN _ _ _ _ (un _ _ _ _ (fun _ _ h=>(⟨rfl,h⟩:_/\_)) h)) hf
 rw [mK] at h1
 obtain ⟨rfl,h3⟩:=h3
 refine ⟨_,_,Go.seen P f es1,?_,h2.seen,rfl,h3⟩
 obtain ⟨e1,e2⟩:=y9 h1
 simp only [G,stepG,stepG.exec,fr,stepG.apply,Option.elim,Sem.runT_eq,if_true,e1,e2]
 simp [GStep.after,Frame.finish,hkd]
theorem zo.endRoundF (hT:zo P main T) {l:Nat} {j:Option Code} (hl:Leave j k) {c:Frame} (h:wpS P (Instr.endRound l j) H fun v H'=>T (G (c.finish v) cs) H'):T (G (fr .normal f (some l) ts ds k) (c::cs)) H:=by
 refine hT _ _ Z fun w hf=>?_
 obtain ⟨v,w1,es1,h1,h2,h3⟩:=ky _ _ _ w #[] h hf
 rw [mK] at h1
 refine ⟨_,_,Go.seen P f es1,?_,h2.seen,rfl,h3⟩
 cases hl with
 | fin =>
  obtain ⟨e1,e2⟩:=y9 h1
  simp [G,stepG,stepG.exec,fr,Sem.runT_eq,e1,e2,GStep.after,doReturn]
 | ret k =>
  obtain ⟨e1,e2⟩:=y9 h1
  simp [G,stepG,stepG.exec,fr,Sem.runT_eq,e1,e2,GStep.after,doReturn]
 | exit id k he =>
  obtain ⟨e1,e2⟩:=y9 h1
  simp [G,stepG,stepG.exec,fr,he,Sem.runT_eq,e1,e2,GStep.after,doReturn]
theorem zo.takeF (hT:zo P main T) {b:Nat} (h:wpS P (Instr.takeDeferred b) H fun d1 H'=>T (G { fr kd f ro ts (d1++ds) k with mode:=.returning } cs) H'):T (G { fr kd f ro ts ({ target:=.collected b,args:=#[] }::ds) k with mode:=.returning } cs) H:=by
 refine hT _ _ Z fun w hf=>?_
 obtain ⟨d1,w1,es1,h1,h2,h3⟩:=ky _ _ _ w #[] h hf
 rw [mK] at h1
 refine ⟨_,_,Go.seen P f es1,?_,h2.seen,rfl,h3⟩
 obtain ⟨e1,e2⟩:=y9 h1
 simp [G,stepG,unwind,fr,Sem.runT_eq,e1,e2,GStep.after]
theorem wN {l:Nat} {rw':Bool} {r:Loop} (h:H l=some (rw',.loop r)) {Q:Loop->Hp->Prop} (hq:Q r H):wpS P (Instr.getLoop l) H Q:=⟨rw',_,h,rfl,rfl,hq⟩
theorem vI {l:Nat} {o0:Obj} {r:Loop} (h:H l=some (true,o0)) (h0:isCells o0=false) {Q:Unit->Hp->Prop} (hq:Q () (H.put l (true,.loop r))):wpS P (setObj l (.loop r)) H Q:=⟨o0,h,h0,rfl,hq⟩
def CallF (P:Program) (T:Goroutine->Hp->Prop) (gm:Nat->Option Nat) (yv:AV) (args:List AV) (A:List AObj) (Post:AV->List AObj->Prop):Prop :=
 ∀ (φ:Nat->Loc3) (F H:Hp) (y:Value) (vs:Array Value) (c:Frame) (cs:List Frame),F=nF->RelG gm φ A.length->RelH φ A F H->RelV φ A.length yv y->zG φ A.length args vs ->
  (∀ r A' φ' H' v,Post r A'->Agr φ φ' A.length->A.length<=A'.length->RelH φ' A' F H'->RelV φ' A'.length r v->T (G (c.finish v) cs) H') ->
  wpS P (Deferred.ofValue y vs >>= fun d=>invoke d.target d.args) H fun nx H'=>match nx with
   | .enter g us=>T (G (Frame.enter P g us .normal) (c::cs)) H'
   | .round l g us x y=>T (G (Frame.round l g us x y .normal) (c::cs)) H'
   | _=>False
theorem CallF.mono {gm:Nat->Option Nat} {yv:AV} {args:List AV} {A:List AObj} {Post Post':AV->List AObj->Prop} (h:CallF P T gm yv args A Post) (hp:∀ r A',Post r A'->Post' r A'):CallF P T gm yv args A Post' :=
 fun φ F H y vs c cs h0 h1 h2 h3 h4 k=>h φ F H y vs c cs h0 h1 h2 h3 h4 fun r A' φ' H' v x=>k r A' φ' H' v (hp r A' x)
def CallFK (P:Program) (T:Goroutine->Hp->Prop) (gm:Nat->Option Nat) (yv:AV) (args:List AV) (K:KV) (Post:AV->KV->Prop):Prop :=
 ∀ A,zM K A->(keys K).Nodup->CallF P T gm yv args A fun r A'=>∃ K',Kstep K A K' A'/\Post r K'
theorem CallFK.mono {gm:Nat->Option Nat} {yv:AV} {args:List AV} {K:KV} {Post Post':AV->KV->Prop} (h:CallFK P T gm yv args K Post) (hp:∀ r K',Post r K'->Post' r K'):CallFK P T gm yv args K Post' :=
 fun A hv hn=>(h A hv hn).mono fun r A' ⟨K',h1,h2⟩=>⟨K',h1,hp r K' h2⟩
theorem yw {gm:Nat->Option Nat} {g:FuncId} {fs cp args:List AV} {K:KV} {Post:AV->KV->Prop} (hg:yi P g=true) (h:zA P T gm g (fs++args++cp) K Post):CallFK P T gm (.fn g fs cp) args K Post:=by
 intro A hv hn φ F H y vs c cs h0 h1 h2 h3 h4 hq
 obtain ⟨xs,ys,rfl,hr1,hr2⟩:=vm h3
 refine kv hg _ ?_
 exact h A hv hn φ F H _ c cs h0 h1 h2 (kB (kB hr1 h4) hr2) hq
variable {gm:Nat->Option Nat}
theorem zhV {φ:Nat->Loc3} {n i:Nat} {y:Value} (h:RelV φ n (.yl i) y):i<n/\y=.func (.yield (φ i).blk) #[] #[]:=by cases h; exact ⟨‹_›,rfl⟩
def putAll:List AV->List (Tmp×AV)->List AV
 | env,[]=>env
 | env,(t,a)::l=>putAll (env.set t a) l
theorem za1 {φ:Nat->Loc3} {n:Nat}:∀ (l:List (Tmp×AV)) (l':List (Tmp×Value)) (env:List AV) (ts:Array Value),zG φ n env ts->l.map (·.1)=l'.map (·.1)->(∀ (j:Nat) x z,l[j]? =some x->l'[j]? =some z->RelV φ n x.2 z.2) ->
  zG φ n (putAll env l) (l'.foldl (fun ts z=>ts.setIfInBounds z.1 z.2) ts)
 | [],[],env,ts,h,_,_=>h
 | (t,a)::l,(t',v)::l',env,ts,h,he,hr=>by
  simp only [List.map_cons,List.cons.injEq] at he
  obtain ⟨rfl,he⟩:=he
  refine za1 l l' _ _ ?_ he fun j x z hx hz=>hr (j+1) x z (by simpa using hx) (by simpa using hz)
  exact yn (a:=⟨ts,[]⟩) h (hr 0 _ _ rfl rfl) (some t)
 | [],_::_,_,_,_,he,_=>by simp at he
 | _::_,[],_,_,_,he,_=>by simp at he
theorem zae {φ:Nat->Loc3} {A:List AObj} {F H:Hp} (h:RelH φ A F H) {i:Nat} {f:FuncId} {env:List AV} {ps:Array Tmp} {x y:Code} {st:LoopState} {pj:Option Code} (hi:A[i]? =some (.loop f env ps x y st pj)) :
  ∃ ts d,H (φ i).blk=some (true,.loop { state:=st,pending:=pj,fn:=f,tmps:=ts,params:=ps,assign:=x,body:=y,defers:=d })/\zG φ A.length env ts:=h.obj i _ hi
theorem zfH (hT:zo P main T) {i:Nat} {f:FuncId} {env args:List AV} {ps:Array Tmp} {x y:Code} {A:List AObj} {Post:AV->List AObj->Prop} (hi:A[i]? =some (.loop f env ps x y .ready none)) (hargs:args.length=ps.size)
  (h:∀ X:Cx P gm T,X.ro=some (X.φ0 i).blk->i<X.n0->(∀ j env' A' st pj,A'[i]? =some (.loop f env ps x y st pj)->Post (.v (.bool j.isNone)) (A'.set i (.loop f env ps x y (if j.isNone then .ready else .done) j))->X.L j [] env' A') ->
   TA X [] [.code x,.beginRound,.code y] (putAll env (ps.toList.zip args)) A):CallF P T gm (.yl i) args A Post:=by
 intro φ F H y' vs c cs hF0 hg hH hy hvs hq
 obtain ⟨hlt,rfl⟩:=zhV hy
 obtain ⟨ts,d,hb,hrel⟩:=zae hH hi
 have hvl:vs.size=ps.size:=by rw [<- hvs.1]; exact hargs
 have hround:∀ us,us=(ps.zip vs).foldl (fun tmps (t,a)=>tmps.setIfInBounds t a) ts->T (G (Frame.round (φ i).blk f us x y .normal) (c::cs)) H:=by
  intro us hus
  let X:Cx P gm T:={
   main,hT,φ0:=φ,n0:=A.length,F,hF0,kd:=.normal,hkd:=(fun h=>by cases h),f,ro:=some (φ i).blk,cs:=c::cs
   L:=fun j ds env' A'=>∃ st pj,A'[i]? =some (.loop f env ps x y st pj)/\Post (.v (.bool j.isNone)) (A'.set i (.loop f env ps x y (if j.isNone then .ready else .done) j))
   hL:=by
    rintro j k ds env' A' φ' H' ts' hl ⟨st,pj,hi',hp⟩ hA hlen hg' _ hH' hE
    refine hT.endRoundF hl ?_
    obtain ⟨ts1,d1,hb1,hrel1⟩:=zae hH' hi'
    have hφ:φ' i=φ i:=hA i hlt
    rw [hφ] at hb1
    refine yN _ _ _ _ (wN hb1 ?_)
    refine yN _ _ _ _ (vI hb1 Z ?_)
    have hH2:=hH'.set (x:=(true,.loop { state:=if j.isNone then .ready else .done,pending:=j,fn:=f,tmps:=ts1,params:=ps,assign:=x,body:=y,defers:=d1 })) (o':=.loop f env ps x y (if j.isNone then .ready else .done) j) hi' rfl trivial ⟨ts1,d1,Hp.put_same _ _ _,hrel1⟩
    rw [hφ] at hH2
    exact hq _ _ _ _ _ hp hA (by simpa using hlen) hH2 (.v _) }
  have hX:=h X rfl hlt fun j env' A' st pj hi' hp=>⟨st,pj,hi',hp⟩
  refine hX φ H us (Agr.refl _ _) (mL _) hg (fun d hd=>by cases hd) hH ?_
  subst hus
  have:=za1 (n:=A.length) (φ:=φ) (ps.toList.zip args) (ps.toList.zip vs.toList) env ts hrel (by rw [List.map_fst_zip (by simp [hargs]),List.map_fst_zip (by simp [hvl])]) fun j x z hx hz=>by
   rw [List.getElem?_zip_eq_some] at hx hz
   exact hvs.2 j _ _ hx.2 (by rw [<- mI]; exact hz.2)
  rw [<- Array.foldl_toList,Array.toList_zip]
  exact this
 show wpS P (Instr.yield (φ i).blk (#[]++vs++#[])) H _
 rw [mK,Array.append_empty]
 refine yN _ _ _ _ (wN hb ?_)
 dsimp only
 rw [if_neg (by simpa using hvl)]
 exact hround _ rfl
variable {X:Cx P gm T} {ds':List Nat} {env:List AV} {A:List AObj}
theorem TA.beginRound {i:Nat} {g:FuncId} {env0:List AV} {ps:Array Tmp} {x y:Code} {pj:Option Code} (hro:X.ro=some (X.φ0 i).blk) (hi0:i<X.n0) (hi:A[i]? =some (.loop g env0 ps x y .ready pj)) (h:TA X ds' k env (A.set i (.loop g env0 ps x y .busy pj))):TA X ds' (.beginRound::k) env A:=fun φ H ts h1 h2 h3 h4 h5 h6=>by
 rw [hro]
 refine X.hT.beginF X.hkd ?_
 obtain ⟨ts1,d1,hb1,hrel1⟩:=zae h5 hi
 have hφ:φ i=X.φ0 i:=h1 i hi0
 have hH2:=h5.set (x:=(true,.loop { state:=.busy,pending:=pj,fn:=g,tmps:=ts1,params:=ps,assign:=x,body:=y,defers:=d1 })) (o':=.loop g env0 ps x y .busy pj) hi rfl trivial ⟨ts1,d1,Hp.put_same _ _ _,hrel1⟩
 rw [hφ] at hb1 hH2
 refine yN _ _ _ _ (wN hb1 ?_)
 refine yN _ _ _ _ (vI hb1 Z ?_)
 have:=h φ _ ts h1 (by simpa using h2) (by simpa using h3) (by simpa using h4) hH2 (by simpa using h6)
 rw [hro] at this
 exact this
theorem TA.rangeFunc {fo:Operand} {ps:Array Tmp} {x y:Code} {g:FuncId} {fs cp:List AV} {Post:AV->List AObj->Prop} (hro:X.ro=none) (hf:zI gm env fo=.fn g fs cp) (hg:yi P g=true)
  (hc:CallT P T gm g (fs++[.yl (A.length+1)]++cp) (A++[.raw (.deferred (some [])),.loop X.f env ps x y .ready none]) Post)
  (h:∀ r A',Post r A'->A.length+2<=A'.length->∃ st pj,(st==LoopState.busy)=false/\A'[A.length+1]? =some (.loop X.f env ps x y st pj)/\TA X (A.length::ds') ((pj.map Item.code).toList++k) env (A'.set (A.length+1) .gone)) :
  TA X ds' (.code (.rangeFunc fo ps x y)::k) env A:=fun φ H ts h1 h2 h3 h4 h5 h6=>by
 rw [hro]
 refine X.hT.rangeF X.hkd ?_
 unfold Instr.enterLoop
 dsimp only
 refine yN _ _ _ _ ?_
 intro r hr
 refine yN _ _ _ _ ?_
 intro l hl
 have hH1:=h5.push (loc:=⟨r,0,0⟩) (o:=.raw (.deferred (some []))) (x:=(true,.deferred (some []))) hr rfl (Hp.put_same _ _ _)
 have hag1:=yk φ A.length ⟨r,0,0⟩
 have hlen1:(A++[AObj.raw (.deferred (some []))]).length=A.length+1:=by simp
 have hH2:=hH1.push (loc:=⟨l,0,0⟩) (o:=.loop X.f env ps x y .ready none) (x:=(true,.loop { state:=.ready,pending:=none,fn:=X.f,tmps:=ts,params:=ps,assign:=x,body:=y,defers:=r })) hl rfl
  ⟨ts,r,Hp.put_same _ _ _,(h6.mono hag1 oQ).mono (yk _ _ _) oQ⟩
 have hag2:=yk (upd3 φ A.length ⟨r,0,0⟩) (A.length+1) ⟨l,0,0⟩
 rw [hlen1] at hH2
 have eA:(A++[AObj.raw (.deferred (some []))])++[.loop X.f env ps x y .ready none]=A++[.raw (.deferred (some [])),.loop X.f env ps x y .ready none]:=by simp
 rw [eA] at hH2
 have hag:Agr φ (upd3 (upd3 φ A.length ⟨r,0,0⟩) (A.length+1) ⟨l,0,0⟩) A.length:=hag1.trans hag2 oQ
 have hb1:(upd3 (upd3 φ A.length ⟨r,0,0⟩) (A.length+1) ⟨l,0,0⟩) A.length=⟨r,0,0⟩:=by simp [upd3]
 have hb2:(upd3 (upd3 φ A.length ⟨r,0,0⟩) (A.length+1) ⟨l,0,0⟩) (A.length+1)=⟨l,0,0⟩:=by simp [upd3]
 generalize hφ2:upd3 (upd3 φ A.length ⟨r,0,0⟩) (A.length+1) ⟨l,0,0⟩=φ2 at hH2 hag hb1 hb2
 have hlen2:(A++[AObj.raw (.deferred (some [])),.loop X.f env ps x y .ready none]).length=A.length+2:=by simp
 show wpS P (resolve (evT ts) (ylCall fo l) 0 >>= fun d=>invoke d.target d.args) ((H.put r _).put l _) _
 rw [show resolve (evT ts) (ylCall fo l) 0=Deferred.ofValue (evT ts fo) #[.func (.yield l) #[] #[]] by simp [resolve,ylCall,evT,Act.eval]]
 have hfo:=zz (a:=⟨ts,[]⟩) h3 h6 fo
 rw [hf] at hfo
 obtain ⟨xs,ys,e,hr1,hr2⟩:=vm hfo
 have e':evT ts fo=.func (.func g) xs ys:=e
 rw [e']
 refine kv hg _ ?_
 have hyl:RelV φ2 (A.length+2) (.yl (A.length+1)) (.func (.yield l) #[] #[]):=by
  have:=RelV.yl (φ:=φ2) (n:=A.length+2) (i:=A.length+1) oQ
  rwa [hb2] at this
 refine hc φ2 X.F _ _ _ _ X.hF0 (h3.mono hag oQ) hH2 ?_ ?_
 ·rw [hlen2]
  exact kB (kB (hr1.mono hag oQ) (yX hyl)) (hr2.mono hag oQ)
 ·intro r' A' φ' H' v hp hA' hlen' hH' hr'
  rw [hlen2] at hA' hlen'
  obtain ⟨st,pj,hst,hloop,hTA⟩:=h r' A' hp hlen'
  show T (G (fr X.kd X.f none ts _ (.endRangeFunc l::k)) X.cs) H'
  refine X.hT.endRangeF ?_
  obtain ⟨ts1,d1,hbl,_⟩:=zae hH' hloop
  have e1:φ' (A.length+1)=⟨l,0,0⟩:=(hA' _ oQ).trans hb2
  have e0:φ' A.length=⟨r,0,0⟩:=(hA' _ oQ).trans hb1
  have hH3:=hH'.set (x:=(true,.loop { state:=.exhausted,pending:=pj,fn:=X.f,tmps:=ts1,params:=ps,assign:=x,body:=y,defers:=d1 })) (o':=.gone) hloop rfl trivial trivial
  rw [e1] at hbl hH3
  refine yN _ _ _ _ (wN hbl ?_)
  dsimp only
  rw [hst]
  refine yN _ _ _ _ (vI hbl Z ?_)
  have hagf:Agr φ φ' A.length:=hag.trans hA' oQ
  have hds:dsC φ' (A.length::ds')={ target:=.collected r,args:=#[] }::dsC φ ds':=by
   show { target:=.collected (φ' A.length).blk,args:=#[] }::dsC φ' ds'=_
   rw [e0]
   congr 1
   unfold dsC
   exact mA fun d hd'=>by rw [hagf d (h4 d hd')]
  have:=hTA φ' _ ts (h1.trans hagf h2) (by simp; omega) (by simpa using h3.mono hagf oQ) (fun d hd=>by
   rcases List.mem_cons.1 hd with rfl | hd
   ·simp; omega
   ·have:=h4 d hd; simp; omega) hH3 (by simpa using h6.mono hagf oQ)
  rw [hds,hro] at this
  exact this
end
section
variable {P:Program} {gm:Nat->Option Nat} {T:Goroutine->Hp->Prop}
theorem Kstep.frame {K Kf R K':KV} {A A':List AObj} (hs:Split K Kf R) (hv:zM K A) (hn:(keys K).Nodup) (hk:Kstep Kf A K' A'):Kstep K A (K'++R) A':=by
 have hp:=hs.perm
 have hnd:=(zT hp).nodup_iff.1 hn
 rw [ya] at hnd
 have hnd':=List.nodup_append.1 hnd
 have hR:zM R A:=hv.sub fun x hx=>hp.symm.subset (by simp [hx])
 have hRl:∀ x∈R,x.1<A.length/\x.1∉keys Kf:=fun x hx=>⟨hR.lt (yo hx),fun hm=>hnd'.2.2 x.1 hm x.1 (yo hx) rfl⟩
 refine ⟨fun x hx=>?_,?_,fun j hj=>?_,fun j hj hn=>?_,hk.len⟩
 ·rcases lT.1 hx with hx | hx
  ·exact hk.view x hx
  ·rw [hk.kept _ (hRl x hx).1 (hRl x hx).2]; exact hR x hx
 ·rw [ya]
  refine List.nodup_append.2 ⟨hk.nd,hnd'.2.1,fun a ha b hb e=>?_⟩
  subst e
  obtain ⟨x,hx,rfl⟩:=lY.1 hb
  rcases hk.own _ ha with h1 | h1
  ·exact (hRl x hx).2 h1
  ·have:=(hRl x hx).1; omega
 ·rw [ya] at hj
  rcases lT.1 hj with hj | hj
  ·rcases hk.own j hj with h1 | h1
   ·exact .inl ((zT hp).symm.subset (by rw [ya]; exact lV _ h1))
   ·exact .inr h1
  ·exact .inl ((zT hp).symm.subset (by rw [ya]; exact List.mem_append_right _ hj))
 ·exact hk.kept j hj fun hm=>hn ((zT hp).symm.subset (by rw [ya]; exact lV _ hm))
theorem Split.view {K Kf R:KV} {A:List AObj} (hs:Split K Kf R) (hv:zM K A) (hn:(keys K).Nodup):zM Kf A/\(keys Kf).Nodup:=by
 have hp:=hs.perm
 have hnd:=(zT hp).nodup_iff.1 hn
 rw [ya] at hnd
 exact ⟨hv.sub fun x hx=>hp.symm.subset (by simp [hx]),(List.nodup_append.1 hnd).1⟩
theorem zfT {X:Cx P gm T} {env:List AV} {A:List AObj} {o:Oper} {fo:Operand} {ars:Array Operand} {at_:Array TypeId} {yv:AV} {args:List AV} {Post:AV->List AObj->Prop} (hop:o.op=.call { callee:=.value fo,args:=ars,argTypes:=at_ })
  (hf:zI gm env fo=yv) (hargs:ars.toList.map (zI gm env)=args) (hc:CallF P T gm yv args A Post):Ex X env A o Post:=fun ops i rest k ds φ H ts ho hw h3 h5 h6 hq=>by
 refine X.hT.opF X.hkd ho hw (by rw [hop]; rfl) ?_
 have hfo:=zz (a:=⟨ts,[]⟩) h3 h6 fo
 rw [hf] at hfo
 unfold execOp
 rw [hop]
 dsimp only
 have hrel:zG φ A.length args (ars.map (evT ts)):=by
  rw [<- hargs]
  exact kC (a:=⟨ts,[]⟩) h3 h6 ars
 have h:=hc φ X.F H _ _ (fr X.kd X.f X.ro ts ds (.inRegion ops (i::rest)::k)) X.cs X.hF0 h3 h5 hfo hrel fun r A' φ' H' v hp hA hlen hH' hr=>by
  have hfin:=yT X.kd X.f X.ro ts ds ops i rest k v
  simp only [ho,Option.bind_some] at hfin
  rw [hfin]
  exact hq r A' φ' H' v hp hA hlen hH' hr
 refine un _ _ _ _ ?_ h
 intro nx H' hnx
 cases nx <;> first | exact hnx | exact hnx.elim
variable {Y:KX P gm T} {ds:List Nat} {k:List Item} {env env':List AV} {K K':KV} {ops:Array Oper} {i:Nat} {rest L L':List Nat} {o:Oper} {r:AV} {pend pend':List Pd}
theorem zbC {fo:Operand} {ars:Array Operand} {at_:Array TypeId} {yv:AV} {args:List AV} {Kf R:KV} {Post:AV->KV->Prop} (hop:o.op=.call { callee:=.value fo,args:=ars,argTypes:=at_ })
  (hf:zI gm env fo=yv) (hargs:ars.toList.map (zI gm env)=args) (hc:CallFK P T gm yv args Kf Post) (hs:Split K Kf R) {Q:AV->KV->Prop} (hq:∀ r K',Post r K'->Q r (K'++R)):ExK Y env K o Q:=fun A hA=>by
 obtain ⟨hv,hn⟩:=hs.view hA.view hA.nd
 exact (zfT hop hf hargs (hc A hv hn)).mono fun r A' ⟨K',hk,hpost⟩=>⟨K'++R,hk.frame hs hA.view hA.nd,hq r K' hpost⟩
theorem TK.callF' {fo:Operand} {ars:Array Operand} {at_:Array TypeId} {yv:AV} {args:List AV} {Kf R:KV} {Post:AV->KV->Prop} (ho:ops[i]? =some o) (hw:zK ops env o=some true) (hop:o.op=.call { callee:=.value fo,args:=ars,argTypes:=at_ })
  (hf:zn gm env fo=some yv) (hargs:ars.toList.map (zI gm env)=args) (hc:CallFK P T gm yv args Kf Post) (hs:Split K Kf R)
  (h:∀ r K',Post r K'->TK Y ds (.inRegion ops rest::k) (zO env o.dst r) (K'++R)):TK Y ds (.inRegion ops (i::rest)::k) env K:=TK.ex ho hw (zbC hop (zx hf) hargs hc hs h)
theorem TD.callF' {fo:Operand} {ars:Array Operand} {at_:Array TypeId} {yv:AV} {args:List AV} {Kf R:KV} {Post:AV->KV->Prop} (s:List Nat) (ho:ops[i]? =some o) (hw:zK ops (onl s env) o=some true) (hp':pendOf ops i pend=pend') (hc':chkC ops pend' L' s i o.dst=true) (hop:o.op=.call { callee:=.value fo,args:=ars,argTypes:=at_ })
  (hf:zn gm (onl s env) fo=some yv) (hargs:ars.toList.map (zI gm (onl s env))=args) (hc:CallFK P T gm yv args Kf Post) (hs:Split K Kf R)
  (h:∀ r K',Post r K'->(∀ p∈pend',∀ x∈p.V,x∈K'++R)/\TD Y ds ops k pend' L' (zO env o.dst r) (K'++R)):TD Y ds ops k pend (i::L') env K:=TD.c s ho hw hp' hc' (zbC hop (zx hf) hargs hc hs h)
theorem zeF {main:Bool} (hT:zo P main T) {i:Nat} {f:FuncId} {env args:List AV} {ps:Array Tmp} {x y:Code} {K:KV} {Post:AV->KV->Prop} (hi:(i,.loop f env ps x y .ready none)∈K) (hargs:args.length=ps.size)
  (h:∀ Y:KX P gm T,Y.X.ro=some (Y.X.φ0 i).blk->i<Y.X.n0 ->
   (∀ j env' K' K'' D st pj,Split K' ((i,.loop f env ps x y st pj)::K'') D->Post (.v (.bool j.isNone)) ((i,.loop f env ps x y (if j.isNone then .ready else .done) j)::K'')->∀ A',Kn Y K' A'->Y.X.L j [] env' A') ->
   TK Y [] [.code x,.beginRound,.code y] (putAll env (ps.toList.zip args)) K):CallFK P T gm (.yl i) args K Post:=by
 intro A hv hn
 refine zfH hT (hv.get hi) hargs fun X hro hi0 hret=>?_
 refine h ⟨X,A,keys K⟩ hro hi0 (fun j env' K' K'' D st pj hsp hp A' hA'=>?_) A ⟨hv,hn,fun i hi=>.inl hi,fun _ _ _=>rfl,mL _⟩
 have hpm:=hsp.perm
 obtain ⟨hv',hn'⟩:=hsp.view hA'.view hA'.nd
 refine hret j env' A' st pj (hv'.get sQ) ⟨_,?_,hp⟩
 have hst:Kstep ((i,.loop f env ps x y st pj)::K'') A' ((i,.loop f env ps x y (if j.isNone then .ready else .done) j)::K'') (A'.set i (.loop f env ps x y (if j.isNone then .ready else .done) j)):=.set hv' hn' .head
 have hall:=hst.frame hsp hA'.view hA'.nd
 refine ⟨hst.view,hst.nd,fun t ht=>?_,fun t ht1 ht2=>?_,mT hA'.len hst.len⟩
 ·rcases hst.own t ht with h1 | h1
  ·obtain ⟨z,hz,rfl⟩:=lY.1 h1
   exact hA'.own _ (yo (hpm.symm.subset (lV _ hz)))
  ·exact .inr (mT hA'.len h1)
 ·have hne:i≠t:=fun e=>ht2 (e ▸ mem_keys' hi)
  rw [lP hne]
  exact hA'.kept t ht1 ht2
theorem TK.beginRound {i:Nat} {g:FuncId} {env0:List AV} {ps:Array Tmp} {x y:Code} {pj:Option Code} (hro:Y.X.ro=some (Y.X.φ0 i).blk) (hi0:i<Y.X.n0) (hu:Upd K i (.loop g env0 ps x y .ready pj) i (.loop g env0 ps x y .busy pj) K') (h:TK Y ds k env K'):TK Y ds (.beginRound::k) env K:=fun A hA =>
 TA.beginRound hro hi0 (hA.view.get hu.mem) (h _ (hA.step (.set hA.view hA.nd hu)))
theorem TK.rangeFunc {fo:Operand} {ps:Array Tmp} {x y:Code} {g:FuncId} {fs cp:List AV} {Kf R:KV} {Post:Nat->AV->KV->Prop} {Q:Option Code->KV->Prop} (hro:Y.X.ro=none) (hf:zn gm env fo=some (.fn g fs cp)) (hg:yi P g=true) (hs:Split K Kf R)
  (hc:∀ l,l∉keys K->zA P T gm g (fs++[.yl l]++cp) ((l,.loop Y.X.f env ps x y .ready none)::Kf) (Post l))
  (hpost:∀ l r K',Post l r K'->∃ st pj K'',K'=(l,.loop Y.X.f env ps x y st pj)::K''/\(st==LoopState.busy)=false/\Q pj K'')
  (h:∀ d pj K'',Q pj K''->TK Y (d::ds) ((pj.map Item.code).toList++k) env ((d,.raw (.deferred (some [])))::(K''++R))):TK Y ds (.code (.rangeFunc fo ps x y)::k) env K:=fun A hA=>by
 have hd:A.length∉keys K:=fun hm=>absurd (hA.view.lt hm) (Nat.lt_irrefl _)
 have hl:A.length+1∉keys K:=fun hm=>by have:=hA.view.lt hm; omega
 have k1:=Kstep.push hA.view hA.nd (.raw (.deferred (some [])))
 have k2:=Kstep.push k1.view k1.nd (.loop Y.X.f env ps x y .ready none)
 have eA:(A++[AObj.raw (.deferred (some []))])++[.loop Y.X.f env ps x y .ready none]=A++[.raw (.deferred (some [])),.loop Y.X.f env ps x y .ready none]:=by simp
 rw [eA] at k2
 have el:(A++[AObj.raw (.deferred (some []))]).length=A.length+1:=by simp
 rw [el] at k2
 have hA2:=(hA.step k1).step k2
 have hs2:Split ((A.length+1,.loop Y.X.f env ps x y .ready none)::(A.length,.raw (.deferred (some [])))::K) ((A.length+1,.loop Y.X.f env ps x y .ready none)::Kf) ((A.length,.raw (.deferred (some [])))::R):=.left (.right hs)
 obtain ⟨hvf,hnf⟩:=hs2.view k2.view k2.nd
 refine TA.rangeFunc hro (zx hf) hg (hc _ hl _ hvf hnf) fun r A' ⟨K',hk,hp⟩ _=>?_
 obtain ⟨st,pj,K'',rfl,hst,hq⟩:=hpost _ _ _ hp
 have hA3:=hA2.step (hk.frame hs2 k2.view k2.nd)
 refine ⟨st,pj,hst,hA3.view.get sQ,?_⟩
 refine h _ pj K'' hq _ ?_
 have hnd3:=hA3.nd
 rw [lB,kM,List.nodup_cons] at hnd3
 have hperm:(K''++(A.length,AObj.raw (.deferred (some [])))::R).Perm ((A.length,.raw (.deferred (some [])))::(K''++R)):=List.perm_middle
 refine ⟨fun z hz=>?_,?_,fun t ht=>?_,fun t ht1 ht2=>?_,by simpa using hA3.len⟩
 ·have hz':=hperm.symm.subset hz
  have hne:A.length+1≠z.1:=fun e=>hnd3.1 (by have:=yo hz'; rw [<- e] at this; exact this)
  rw [lP hne]
  exact hA3.view z (lL _ hz')
 ·exact (zT hperm).nodup_iff.1 hnd3.2
 ·exact hA3.own t (lL _ ((zT hperm).symm.subset ht))
 ·have hlen:=hA.len
  rw [lP oQ]
  exact hA3.kept t ht1 ht2
def clr:List Nat->List AObj->List AObj
 | [],A=>A
 | d::ds,A=>clr ds (A.set d .gone)
theorem uY:∀ (ds:List Nat) (A:List AObj),(clr ds A).length=A.length
 | [],_=>rfl
 | d::ds,A=>by rw [clr,uY ds]; simp
theorem zbc:∀ (ds:List Nat) (A:List AObj) (t:Nat),t∉ds->(clr ds A)[t]? =A[t]?
 | [],_,_,_=>rfl
 | d::ds,A,t,h=>by
  rw [clr,zbc ds _ t (fun hm=>h (by simp [hm])),lP (fun e=>h (by simp [e]))]
theorem zde {main:Bool} (hT:zo P main T) {f:FuncId} {ts:Array Value} {φ:Nat->Loc3} {F:Hp} {cs:List Frame} {todo:List Item}:∀ (ds:List Nat) (A:List AObj) (H:Hp),(∀ d∈ds,A[d]? =some (.raw (.deferred (some []))))->ds.Nodup->RelH φ A F H ->
  (∀ H',RelH φ (clr ds A) F H'->T (G { fr .normal f none ts [] todo with mode:=.returning } cs) H')->T (G { fr .normal f none ts (dsC φ ds) todo with mode:=.returning } cs) H
 | [],A,H,_,_,hH,hq=>hq H hH
 | d::ds,A,H,hd,hn,hH,hq=>by
  have h0:=hd d sQ
  have hb:H (φ d).blk=some (true,.deferred (some [])):=hH.obj d _ h0
  refine hT.takeF ?_
  refine yN _ _ _ _ ⟨true,_,hb,rfl,rfl,?_⟩
  refine yN _ _ _ _ ⟨_,hb,rfl,rfl,?_⟩
  have hH2:=hH.set (x:=(true,.deferred none)) (o':=.gone) h0 rfl trivial trivial
  obtain ⟨hn1,hn2⟩:=List.nodup_cons.1 hn
  exact zde hT ds _ _ (fun d' hd'=>by
   have hne:d≠d':=fun e=>hn1 (by rw [e]; exact hd')
   rw [lP hne]; exact hd d' (by simp [hd'])) hn2 hH2 hq
theorem zce {main:Bool} (hT:zo P main T) {g:FuncId} {fn:Func} {c:Code} {args:List AV} {A:List AObj} {Post:AV->List AObj->Prop} (hf:P.funcs[g]? =some fn) (hb:fn.body=some c)
  (h:∀ X:Cx P gm T,X.ro=none->(∀ j ds env A' r,(j=none\/j=some .ret)->(∀ d∈ds,A'[d]? =some (.raw (.deferred (some []))))->ds.Nodup->resA P fn.results.toList env (clr ds A')=some r->Post r (clr ds A')->X.L j ds env A') ->
   TA X [] [.code c] (args++mB (fn.ntmps - args.length) .any) A):CallT P T gm g args A Post:=by
 intro φ F H vs c0 cs hF0 hg hH hargs hfin
 have hleave:∀ (k:List Item) (ds:List Nat) (env:List AV) (A':List AObj) (φ':Nat->Loc3) (H':Hp) (ts:Array Value) (r:AV),(∀ d∈ds,A'[d]? =some (.raw (.deferred (some []))))->ds.Nodup->resA P fn.results.toList env (clr ds A')=some r->Post r (clr ds A')->Agr φ φ' A.length->A.length<=A'.length->RelH φ' A' F H'->zG φ' A'.length env ts ->
   T (G { fr .normal g none ts (dsC φ' ds++[]) k with mode:=.returning } (c0::cs)) H':=fun k ds env A' φ' H' ts r hd hn hr hp hA hlen hH' hE=>(List.append_nil (dsC φ' ds)).symm ▸
  zde hT ds A' H' hd hn hH' fun H2 hH2 =>
   hT.leaveF hf (km hH2 (by rw [uY]; exact hE) hr fun y hy=>hfin r _ φ' H2 y hp hA (by rw [uY]; exact hlen) hH2 hy)
 let X:Cx P gm T:={
  main,hT,φ0:=φ,n0:=A.length,F,hF0,kd:=.normal,hkd:=(fun h=>by cases h),f:=g,ro:=none,cs:=c0::cs
  L:=fun j ds env A'=>(j=none\/j=some .ret)/\(∀ d∈ds,A'[d]? =some (.raw (.deferred (some []))))/\ds.Nodup/\∃ r,resA P fn.results.toList env (clr ds A')=some r/\Post r (clr ds A')
  hL:=by
   rintro j k ds env A' φ' H' ts hl ⟨hj,hd,hn,r,hr,hp⟩ hA hlen hg' _ hH' hE
   cases hl with
   | fin=>exact hT.ctlF rfl (fun _=>wz) rfl (hleave _ ds env A' φ' H' ts r hd hn hr hp hA hlen hH' hE)
   | ret k=>exact hT.ctlF rfl (fun _=>wU) rfl (hleave _ ds env A' φ' H' ts r hd hn hr hp hA hlen hH' hE)
   | exit id k _=>rcases hj with hj | hj <;> cases hj }
 rw [kL vs hf hb]
 exact h X rfl (fun j ds env A' r hj hd hn hr hp=>⟨hj,hd,hn,r,hr,hp⟩) φ H _ (Agr.refl _ _) (mL _) hg (fun d hd=>by cases hd) hH (yR hargs _)
theorem zcd {main:Bool} (hT:zo P main T) {g:FuncId} {fn:Func} {c:Code} {args:List AV} {Post:AV->KV->Prop} (hf:P.funcs[g]? =some fn) (hb:fn.body=some c)
  (h:∀ Y:KX P gm T,Y.X.ro=none->(∀ j ds env K' K1 K'' D1 D2 r,(j=none\/j=some .ret)->Split K' K1 D1->ds.Nodup->(∀ d∈ds,(d,.raw (.deferred (some [])))∈D1)->Split K1 K'' D2->(∀ A',zM K1 A'->resA P fn.results.toList env A'=some r)->Post r K''->∀ A',Kn Y K' A'->Y.X.L j ds env A') ->
   TK Y [] [.code c] (args++mB (fn.ntmps - args.length) .any) K):zA P T gm g args K Post:=by
 intro A hv hn
 refine zce hT hf hb fun X hro hret=>?_
 refine h ⟨X,A,keys K⟩ hro (fun j ds env K' K1 K'' D1 D2 r hj hs1 hdn hds hs2 hres hp A' hA'=>?_) A ⟨hv,hn,fun i hi=>.inl hi,fun _ _ _=>rfl,mL _⟩
 have hp1:=hs1.perm
 have hnd:=(zT hp1).nodup_iff.1 hA'.nd
 rw [ya] at hnd
 have hnd':=List.nodup_append.1 hnd
 have hdk:∀ d∈ds,d∈keys D1:=fun d hd=>mem_keys' (hds d hd)
 have hv1:zM K1 (clr ds A'):=fun x hx=>by
  rw [zbc _ _ _ (fun hm=>hnd'.2.2 x.1 (yo hx) x.1 (hdk _ hm) rfl)]
  exact hA'.view x (hp1.symm.subset (by simp [hx]))
 obtain ⟨hv2,hn2⟩:=hs2.view hv1 hnd'.1
 refine hret j ds env A' r hj (fun d hd=>hA'.view _ (hp1.symm.subset (List.mem_append_right _ (hds d hd)))) hdn (hres _ hv1) ⟨K'',⟨hv2,hn2,fun t ht=>?_,fun t ht1 ht2=>?_,?_⟩,hp⟩
 ·obtain ⟨z,hz,rfl⟩:=lY.1 ht
  refine hA'.own _ (yo (hp1.symm.subset ?_))
  exact lV _ (hs2.perm.symm.subset (lV _ hz))
 ·rw [zbc _ _ _ (fun hm=>?_)]
  ·exact hA'.kept t ht1 ht2
  ·have:t∈keys K':=(zT hp1).symm.subset (by rw [ya]; exact List.mem_append_right _ (hdk t hm))
   rcases hA'.own t this with h1 | h1
   ·exact ht2 h1
   ·have h2:A.length<=t:=h1
    have h3:t<A.length:=ht1
    omega
 ·rw [uY]; exact hA'.len
end
section
variable {P:Program} {gm:Nat->Option Nat} {T:Goroutine->Hp->Prop} {Y:KX P gm T} {ds:List Nat} {k:List Item} {V:KV} {env env':List AV} {K K':KV} {ops:Array Oper} {i:Nat} {rest:List Nat} {o:Oper} {r:AV} {pend pend':List Pd} {L':List Nat}
def IntEs (es:List MapEntry):Prop:=∀ en∈es,∃ k v,en.key=.int .i64 k/\en.val=.int .i64 v
def valOf:Value->Int | .int _ v=>v | _=>0
def fiM (n:Int):List MapEntry->Nat->Option (Nat×Value)
 | [],_=>none
 | en::es,i=>if valOf en.key=n then some (i,en.val) else fiM n es (i+1)
def getM (n:Int):List MapEntry->Int
 | []=>0
 | en::es=>if valOf en.key=n then valOf en.val else getM n es
theorem zal {ik:IntKind} {n:Int}:∀ (es:List MapEntry) (i:Nat),IntEs es->Instr.findNow (.int ik) (.int .i64 n) es i=some (fiM n es i)
 | [],_,_=>rfl
 | en::es,i,h=>by
  obtain ⟨k,v,hk,hv⟩:=h en sQ
  have ih:=zal es (i+1) (fun e he=>h e (by simp [he])) (ik:=ik) (n:=n)
  simp only [Instr.findNow,fiM,hk,Instr.sameNow,valOf,if_true]
  by_cases e:n=k
  ·subst e; simp
  ·have e':(n==k)=false:=by simpa using e
   rw [e',if_neg (fun h=>e h.symm)]
   exact ih
theorem zcq {n:Int}:∀ (es:List MapEntry) (i:Nat),getM n es=match fiM n es i with | some (_,v)=>valOf v | none=>0
 | [],_=>rfl
 | en::es,i=>by
  simp only [getM,fiM]
  split
  ·rfl
  ·exact zcq es (i+1)
theorem zab {n:Int}:∀ (es:List MapEntry) (i:Nat) {j:Nat} {v:Value},IntEs es->fiM n es i=some (j,v)->v=.int .i64 (valOf v)/\i<=j/\∃ en,es[j - i]? =some en/\en.key=.int .i64 n
 | [],_,_,_,_,h=>by cases h
 | en::es,i,j,v,hI,h=>by
  simp only [fiM] at h
  obtain ⟨k,v',hk,hv⟩:=hI en sQ
  split at h
  ·rename_i e
   cases h
   rw [hk] at e
   simp only [valOf] at e
   subst e
   exact ⟨by rw [hv]; rfl,mL _,en,by simp,hk⟩
  ·obtain ⟨h1,h2,en',h3,h4⟩:=zab es (i+1) (fun e he=>hI e (by simp [he])) h
   exact ⟨h1,by omega,en',by rw [show j - i=(j - (i+1))+1 by omega]; simpa using h3,h4⟩
def MapOk (ob:Obj) (f:Int->Int):Prop:=∃ es clock,ob=.map es clock/\IntEs es.toList/\∀ n,getM n es.toList=f n
def upM (ob:Obj) (n v:Int):Obj:=match ob with
 | .map es clock=>match fiM n es.toList 0 with
  | some (i,_)=>.map (es.modify i fun e=>{ e with key:=.int .i64 n,val:=.int .i64 v }) clock
  | none=>.map (es.push { key:=.int .i64 n,val:=.int .i64 v,born:=clock }) (clock+1)
 | ob=>ob
theorem ze1:MapOk (.map #[] 0) fun _=>0:=⟨#[],0,rfl,fun _ h=>by simp at h,fun _=>rfl⟩
theorem zcr {n v:Int}:∀ (es:List MapEntry) (i j:Nat) (w:Value),IntEs es->fiM n es i=some (j,w)->∀ m,getM m (es.modify (j - i) fun e=>{ e with key:=.int .i64 n,val:=.int .i64 v })=if m=n then v else getM m es
 | [],_,_,_,_,h,_=>by cases h
 | en::es,i,j,w,hI,h,m=>by
  obtain ⟨k,v',hk,hv⟩:=hI en sQ
  simp only [fiM] at h
  split at h
  ·rename_i e
   cases h
   rw [Nat.sub_self,List.modify_zero_cons]
   show (if n=m then v else getM m es)=if m=n then v else (if valOf en.key=m then valOf en.val else getM m es)
   by_cases e2:m=n
   ·subst e2; simp
   ·rw [if_neg (fun h:n=m=>e2 h.symm),if_neg e2,e,if_neg (fun h:n=m=>e2 h.symm)]
  ·rename_i hne
   have hle:=(zab es (i+1) (fun e he=>hI e (by simp [he])) h).2.1
   rw [show j - i=(j - (i+1))+1 by omega,List.modify_succ_cons]
   simp only [getM]
   rw [zcr es (i+1) j w (fun e he=>hI e (by simp [he])) h m]
   by_cases e2:m=n
   ·subst e2; rw [if_neg hne,if_pos rfl,if_pos rfl]
   ·rw [if_neg e2,if_neg e2]
theorem zcp {n v:Int} {c:Nat}:∀ (es:List MapEntry) (i:Nat),fiM n es i=none->∀ m,getM m (es++[{ key:=.int .i64 n,val:=.int .i64 v,born:=c }])=if m=n then v else getM m es
 | [],_,_,m=>by
  show (if n=m then v else 0)=if m=n then v else 0
  by_cases e:m=n
  ·subst e; simp
  ·rw [if_neg (fun h:n=m=>e h.symm),if_neg e]
 | en::es,i,h,m=>by
  simp only [fiM] at h
  split at h
  ·cases h
  ·rename_i hne
   simp only [lB,getM]
   rw [zcp es (i+1) h m]
   by_cases e:m=n
   ·subst e; rw [if_neg hne,if_pos rfl,if_pos rfl]
   ·rw [if_neg e,if_neg e]
theorem ziI {ob:Obj} {f:Int->Int} {n v:Int} (h:MapOk ob f):MapOk (upM ob n v) fun m=>if m=n then v else f m:=by
 obtain ⟨es,c,rfl,hI,hf⟩:=h
 unfold upM
 dsimp only
 cases e:fiM n es.toList 0 with
 | none =>
  refine ⟨_,_,rfl,fun en he=>?_,fun m=>?_⟩
  ·rw [Array.toList_push] at he
   rcases lT.1 he with he | he
   ·exact hI en he
   ·rw [List.mem_singleton.1 he]; exact ⟨n,v,rfl,rfl⟩
  ·rw [Array.toList_push,zcp _ 0 e,hf]
 | some x =>
  obtain ⟨j,w⟩:=x
  refine ⟨_,_,rfl,fun en he=>?_,fun m=>?_⟩
  ·rw [Array.toList_modify] at he
   obtain ⟨t,ht⟩:=List.mem_iff_getElem?.1 he
   rw [List.getElem?_modify] at ht
   cases e2:es.toList[t]? with
   | none=>rw [e2] at ht; cases ht
   | some e0 =>
    rw [e2] at ht
    simp only [Option.map_eq_map,Option.map_some,Option.some.injEq] at ht
    split at ht
    ·subst ht; exact ⟨n,v,rfl,rfl⟩
    ·subst ht; exact hI _ (List.mem_of_getElem? e2)
  ·rw [Array.toList_modify]
   have:=zcr (v:=v) es.toList 0 j w hI e m
   rw [Nat.sub_zero] at this
   rw [this,hf]
theorem zad {φ:Nat->Loc3} {n i:Nat} {y:Value} (h:RelV φ n (.map i) y):i<n/\y=.map (some (φ i).blk):=by cases h; exact ⟨‹_›,rfl⟩
theorem uW {H:Hp} {e:Bool} {t:TypeId} {v:Value} {ik:IntKind} (h:P.underlying t=some (.int ik)) {Q:Unit->Hp->Prop} (hq:Q () H):wpS P (Instr.checkKey e 10000 t v) H Q:=by
 show wpS P (Instr.checkKey e (9999+1) t v) H Q
 unfold Instr.checkKey
 refine zd _ _ _ (zC h ?_)
 dsimp only
 exact hq
theorem zat {H:Hp} {t:TypeId} {n:Int} {ik:IntKind} (h:P.underlying t=some (.int ik)) {es:List MapEntry} (hI:IntEs es) {Q:Option (Nat×Value)->Hp->Prop} (hq:Q (fiM n es 0) H):wpS P (Instr.findKey t (.int .i64 n) es) H Q:=by
 unfold Instr.findKey
 refine zd _ _ _ (zC h ?_)
 rw [zal es 0 hI]
 exact hq
theorem zbJ {t:TypeId} (ho:o.op=.makeMap t none):Nk P gm env V o (fun j=>.map j) (.raw (.map #[] 0)):=fun A _ φ F H a hg hH hE=>by
 unfold execOp; rw [ho]
 refine wpS_v ?_
 unfold Instr.makeMap
 refine zd _ _ _ ?_
 intro r hr
 refine ⟨_,upd3 φ A.length ⟨r,0,0⟩,.inl rfl,yk _ _ _,by simp,hH.push hr Z (Hp.put_same _ _ _),?_⟩
 have:=RelV.map (φ:=upd3 φ A.length ⟨r,0,0⟩) (n:=(A++[AObj.raw (.map #[] 0)]).length) (i:=A.length) sQ
 simpa [upd3] using this
theorem zcX {t kt et:TypeId} {x y:Operand} {j:Nat} {n:Int} {ob:Obj} {f:Int->Int} {ti:TypeInfo} (ho:o.op=.lookup t x y false) (hx:zn gm env x=some (.map j)) (hy:zn gm env y=some (.v (.int .i64 n))) (ht:P.underlying t=some (.map kt et)) (hk:P.underlying kt=some (.int .i64)) (hi:P.info? et=some ti) (hz:ti.zero=some (.int .i64 0)) (hm:(j,.raw ob)∈V) (hf:MapOk ob f):Qk P gm env V o (.v (.int .i64 (f n))):=fun A hA φ F H a hg hH hE=>by
 unfold execOp; rw [ho]
 refine wpS_v ?_
 have h1:=zz hg hE x
 rw [zx hx] at h1
 obtain ⟨hj,e1⟩:=zad h1
 have h2:=zz hg hE y
 rw [zx hy] at h2
 rw [e1,inv_v h2]
 obtain ⟨es,c,rfl,hI,hfn⟩:=hf
 have hb:H (φ j).blk=some (true,.map es c):=hH.obj j _ (hA.get hm)
 unfold Instr.lookup
 refine zd _ _ _ (zC ht ?_)
 dsimp only
 refine zd _ _ _ ?_
 refine ⟨true,_,hb,rfl,rfl,?_⟩
 refine zd _ _ _ ?_
 rw [yY]
 refine zd _ _ _ (uW hk ?_)
 refine zd _ _ _ (zat hk hI ?_)
 have hg':=zcq (n:=n) es.toList 0
 cases e:fiM n es.toList 0 with
 | none =>
  rw [e] at hg'
  refine zd _ _ _ (yZ hi hz ?_)
  refine zV.quiet hH ?_
  rw [<- hfn n,hg']
  exact .v _
 | some z =>
  obtain ⟨i,v⟩:=z
  rw [e] at hg'
  refine zV.quiet hH ?_
  have:=(zab es.toList 0 hI e).1
  rw [<- hfn n,hg']
  dsimp only
  rw [<- this]
  exact .v _
theorem zdw {t kt et:TypeId} {x y z:Operand} {j:Nat} {n v:Int} {ob:Obj} {f:Int->Int} (ho:o.op=.mapUpdate t x y z) (hx:zn gm env x=some (.map j)) (hy:zn gm env y=some (.v (.int .i64 n))) (hz:zn gm env z=some (.v (.int .i64 v))) (ht:P.underlying t=some (.map kt et)) (hk:P.underlying kt=some (.int .i64)) (hm:(j,.raw ob)∈V) (hf:MapOk ob f) :
  ∀ A,zM V A->OpOk P gm env A o .any (A.set j (.raw (upM ob n v))):=fun A hA φ F H a hg hH hE=>by
 unfold execOp; rw [ho]
 refine wpS_u ?_
 have h1:=zz hg hE x
 rw [zx hx] at h1
 obtain ⟨hj,e1⟩:=zad h1
 have h2:=zz hg hE y
 rw [zx hy] at h2
 have h3:=zz hg hE z
 rw [zx hz] at h3
 rw [e1,inv_v h2,inv_v h3]
 obtain ⟨es,c,rfl,hI,hfn⟩:=hf
 have hb:H (φ j).blk=some (true,.map es c):=hH.obj j _ (hA.get hm)
 have hend:∀ o',upM (.map es c) n v=o'->zV φ A F .any (A.set j (.raw (upM (.map es c) n v))) .skip (H.put (φ j).blk (true,o')):=fun o' ho'=>by
  subst ho'
  exact ⟨undef,φ,.inr ⟨rfl,rfl⟩,Agr.refl _ _,by simp,hH.set (hA.get hm) rfl trivial (Hp.put_same _ _ _),.any _⟩
 unfold Instr.mapUpdate
 refine zd _ _ _ (zC ht ?_)
 dsimp only
 refine zd _ _ _ ?_
 refine ⟨true,_,hb,rfl,rfl,?_⟩
 refine zd _ _ _ (uW hk ?_)
 refine zd _ _ _ (zat hk hI ?_)
 cases e:fiM n es.toList 0 with
 | none =>
  refine ⟨_,hb,rfl,rfl,?_⟩
  exact hend _ (by unfold upM; dsimp only; rw [e])
 | some w =>
  obtain ⟨i,u⟩:=w
  obtain ⟨_,_,en,he1,he2⟩:=zab es.toList 0 hI e
  rw [Nat.sub_zero,mI] at he1
  dsimp only
  refine zd _ _ _ ?_
  rw [he1]
  simp only [Option.map_some,Option.getD_some,he2]
  unfold Instr.keyThatStays
  rw [if_pos (by show Instr.sameBits (9999+1) _ _=true; simp [Instr.sameBits])]
  refine ⟨_,hb,rfl,rfl,?_⟩
  exact hend _ (by unfold upM; dsimp only; rw [e])
theorem TK.newM {ob:AObj} {envf:Nat->List AV} (ho:ops[i]? =some o) (hd:yb o.op=false) (hw:zK ops env o=some true) (hq:Nk P gm env K o (fun j=>.map j) ob) (he:∀ j,zO env o.dst (.map j)=envf j) (h:∀ j,j∉keys K->TK Y ds (.inRegion ops rest::k) (envf j) ((j,ob)::K)):TK Y ds (.inRegion ops (i::rest)::k) env K:=TK.new (f:=fun j=>.map j) ho hd hw hq he h
theorem zfA {H:Hp} {t e:TypeId} {b:Option Addr} {n c:Nat} (ht:P.underlying t=some (.slice e)) {Q:Value->Hp->Prop} (hq:Q (.bool b.isNone) H):wpS P (binOp .eql t (.slice b n c) (.slice none 0 0)) H Q:=by
 show wpS P (Op.equalIn (9999+1) t (.slice b n c) (.slice none 0 0) >>= fun v=>pure (Value.bool v)) H Q
 refine zd _ _ _ ?_
 unfold Op.equalIn
 refine zd _ _ _ (zC ht ?_)
 cases b <;> exact hq
theorem TK.nilT {t e yt:TypeId} {x:Operand} {j off len:Nat} (ho:ops[i]? =some o) (hop:o.op=.binOp .eql t x (.const (.slice none 0 0)) yt) (hw:zK ops env o=some true) (hx:zn gm env x=some (.sl j off len)) (ht:P.underlying t=some (.slice e))
  (h:∀ b:Bool,(b=true->len=0)->TK Y ds (.inRegion ops rest::k) (zO env o.dst (.v (.bool b))) K):TK Y ds (.inRegion ops (i::rest)::k) env K:=fun A hA φ H ts h1 h2 h3 h4 h5 h6=>by
 refine Y.X.hT.opF Y.X.hkd ho (zJ h6 hw) (by rw [hop]; rfl) ?_
 have hr:=zz (a:=⟨ts,[]⟩) h3 h6 x
 rw [zx hx] at hr
 obtain ⟨hj,cap,b,hl,hb,ey⟩:=uG hr
 unfold execOp; rw [hop]; dsimp only
 have e1:evT ts x=.slice b len cap:=ey
 rw [e1]
 refine wpS_v ?_
 refine zd _ _ _ ?_
 show wpS P (eqGuard .eql t x _ (.slice b len cap) (.slice none 0 0)) H _
 unfold eqGuard
 refine zfA ht ?_
 refine h b.isNone (fun hn=>?_) A hA φ H _ h1 h2 h3 h4 h5 (yn (a:=⟨ts,[]⟩) h6 (.v _) o.dst)
 cases b with
 | none =>
  rcases Nat.eq_zero_or_pos len with h | h
  ·exact h
  ·cases hb h
 | some _=>cases hn
theorem zcV {s x:Operand} {t e:TypeId} {ti:TypeInfo} {j n:Nat} (ho:o.op=.call { callee:=.builtin .append,args:=#[s,x],argTypes:=#[t,t] }) (ht:P.underlying t=some (.slice e)) (hi:P.info? e=some ti) (hs:zn gm env s=some (.row j n)) {u:AV} (hx:zn gm env x=some u) (hl:lenA u=some 0):Qk P gm env V o (.row j n):=fun A _ φ F H a hg hH hE=>by
 rw [yA ho]
 have hs':=zz hg hE s
 rw [zx hs] at hs'
 obtain ⟨h1,h2,h3⟩:=vQ hs'
 obtain ⟨b,c,es⟩:=zaE h2 h3
 obtain ⟨b',c',ex⟩:=zcB hl (zx hx ▸ zz hg hE x)
 have hcap:n<=c:=by
  unfold rowV at h3
  split at h3
  ·rename_i e0
   have:n=0:=by omega
   omega
  ·rw [es] at h3; cases h3; exact h2
 have hend:zV φ A F (.row j n) A (.value (.slice b n c)) H:=zV.quiet hH (es ▸ hs')
 simp only [builtin,List.map_toArray,List.map_cons,List.map_nil]
 refine wpS_v ?_
 rw [es,ex]
 unfold Builtin.append_
 show wpS P (underlying t >>= _) H _
 refine zd _ _ _ (zC ht ?_)
 dsimp only
 refine zd _ _ _ (yg hi ?_)
 refine zd _ _ _ ?_
 refine zC (t:=t) ht ?_
 dsimp only
 refine zd _ _ _ ?_
 rw [yY]
 simp only [mU,if_false,Bool.not_false,if_true]
 refine zd _ _ _ ?_
 show wpS P (if n+0<=c then _ else _) H _
 rw [if_pos oQ]
 refine zd _ _ _ ?_
 have hf:∀ Q:Array Value->Hp->Prop,Q #[] H->wpS P (Builtin.firstCells ti.size 0 (.slice b' 0 c')) H Q:=fun Q hq=>by
  cases b' with
  | none=>exact hq
  | some a =>
   show wpS P (loadCells a (0*ti.size)) H Q
   rw [Nat.zero_mul]
   exact hq
 refine hf _ ?_
 cases b with
 | none=>exact hend
 | some a=>exact hend
theorem zfg {t yt:TypeId} {x y:Operand} {a:Nat} (ho:o.op=.binOp .and t x y yt) (hx:zn gm env x=some (.v (.int .i64 a))) (hy:zn gm env y=some (.v (.int .i64 1))) (h:a<9223372036854775808):Qk P gm env V o (.v (.int .i64 ((a % 2:Nat):Int))):=by
 refine wQ ho hx hy ?_
 show some (Value.int .i64 (IntKind.i64.wrap ((BitVec.ofInt 64 (a:Int) &&& BitVec.ofInt 64 1).toNat:Int)))=_
 have:(BitVec.ofInt 64 (a:Int) &&& BitVec.ofInt 64 1).toNat=a % 2:=by
  rw [BitVec.toNat_and]
  have e1:(BitVec.ofInt 64 (a:Int)).toNat=a:=by
   rw [BitVec.toNat_ofInt]
   omega
  rw [e1]
  show a &&& 1=a % 2
  exact Nat.and_one_is_mod a
 rw [this,wK oQ]
end
class zi (P:Program) (t:TypeId) (g:outParam Bool) (n:outParam Nat):Prop where h:tySize P t=some (g,n):=by kernel_rfl
class zl (P:Program) (t:TypeId) (k:Nat) (o:outParam Nat) (g:outParam Bool) (n:outParam Nat):Prop where h:fieldOf P t k=some (o,g,n):=by kernel_rfl
class zF (P:Program) (t:TypeId) (e:outParam TypeId) (n:outParam Nat):Prop where h:slElem P t=some (e,n):=by kernel_rfl
class ArEl (P:Program) (t:TypeId) (m:outParam Nat) (e:outParam TypeId) (g:outParam Bool) (n:outParam Nat):Prop where h:arrElem P t=some (m,e,g,n):=by kernel_rfl
class Und (P:Program) (t:TypeId) (d:outParam TypeDesc):Prop where h:P.underlying t=some d:=by kernel_rfl
class TyZA (P:Program) (t:TypeId) (l:outParam (List AV)):Prop where h:tyZeroA P t=some l:=by kernel_rfl
class TyZ (P:Program) (t:TypeId) (l:outParam (List Value)):Prop where h:tyZero P t=some l:=by kernel_rfl
class BlOf (P:Program) (t:TypeId) (l:outParam (List (Nat×Nat))):Prop where h:bldOf P t=some l:=by kernel_rfl
class ApOf (P:Program) (t:TypeId) (e:outParam TypeId) (n b:outParam Nat):Prop where h:apOf P t=some (e,n,b):=by kernel_rfl
class InfO (P:Program) (t:TypeId) (i:outParam TypeInfo):Prop where h:P.info? t=some i:=by kernel_rfl
class Cal (P:Program) (g:FuncId):Prop where h:yi P g=true:=by kernel_rfl
class RgL (ops:Array Oper) (L:outParam (List Nat)):Prop where h:List.range ops.size=L
class Suc (n:Nat) (m:outParam Nat):Prop where h:n+1=m
class RgF (n:Nat) (l:List Oper) (L:outParam (List Nat)):Prop where h:List.range' n l.length=L
instance {n:Nat}:RgF n [] []:=⟨rfl⟩
instance:Suc 0 1:=⟨rfl⟩
instance:Suc 1 2:=⟨rfl⟩
instance:Suc 2 3:=⟨rfl⟩
instance:Suc 3 4:=⟨rfl⟩
instance:Suc 4 5:=⟨rfl⟩
instance:Suc 5 6:=⟨rfl⟩
instance:Suc 6 7:=⟨rfl⟩
instance:Suc 7 8:=⟨rfl⟩
instance:Suc 8 9:=⟨rfl⟩
instance:Suc 9 10:=⟨rfl⟩
instance:Suc 10 11:=⟨rfl⟩
instance:Suc 11 12:=⟨rfl⟩
instance:Suc 12 13:=⟨rfl⟩
instance:Suc 13 14:=⟨rfl⟩
instance:Suc 14 15:=⟨rfl⟩
instance:Suc 15 16:=⟨rfl⟩
instance:Suc 16 17:=⟨rfl⟩
instance:Suc 17 18:=⟨rfl⟩
instance:Suc 18 19:=⟨rfl⟩
instance:Suc 19 20:=⟨rfl⟩
instance:Suc 20 21:=⟨rfl⟩
instance:Suc 21 22:=⟨rfl⟩
instance:Suc 22 23:=⟨rfl⟩
instance:Suc 23 24:=⟨rfl⟩
instance:Suc 24 25:=⟨rfl⟩
instance:Suc 25 26:=⟨rfl⟩
instance:Suc 26 27:=⟨rfl⟩
instance:Suc 27 28:=⟨rfl⟩
instance:Suc 28 29:=⟨rfl⟩
instance:Suc 29 30:=⟨rfl⟩
instance:Suc 30 31:=⟨rfl⟩
instance:Suc 31 32:=⟨rfl⟩
instance:Suc 32 33:=⟨rfl⟩
instance:Suc 33 34:=⟨rfl⟩
instance:Suc 34 35:=⟨rfl⟩
instance:Suc 35 36:=⟨rfl⟩
instance:Suc 36 37:=⟨rfl⟩
instance:Suc 37 38:=⟨rfl⟩
instance:Suc 38 39:=⟨rfl⟩
instance:Suc 39 40:=⟨rfl⟩
instance:Suc 40 41:=⟨rfl⟩
instance:Suc 41 42:=⟨rfl⟩
instance:Suc 42 43:=⟨rfl⟩
instance:Suc 43 44:=⟨rfl⟩
instance:Suc 44 45:=⟨rfl⟩
instance:Suc 45 46:=⟨rfl⟩
instance:Suc 46 47:=⟨rfl⟩
instance:Suc 47 48:=⟨rfl⟩
instance:Suc 48 49:=⟨rfl⟩
instance:Suc 49 50:=⟨rfl⟩
instance:Suc 50 51:=⟨rfl⟩
instance:Suc 51 52:=⟨rfl⟩
instance:Suc 52 53:=⟨rfl⟩
instance:Suc 53 54:=⟨rfl⟩
instance:Suc 54 55:=⟨rfl⟩
instance:Suc 55 56:=⟨rfl⟩
instance:Suc 56 57:=⟨rfl⟩
instance:Suc 57 58:=⟨rfl⟩
instance:Suc 58 59:=⟨rfl⟩
instance:Suc 59 60:=⟨rfl⟩
instance:Suc 60 61:=⟨rfl⟩
instance:Suc 61 62:=⟨rfl⟩
instance:Suc 62 63:=⟨rfl⟩
instance:Suc 63 64:=⟨rfl⟩
instance:Suc 64 65:=⟨rfl⟩
instance:Suc 65 66:=⟨rfl⟩
instance:Suc 66 67:=⟨rfl⟩
instance:Suc 67 68:=⟨rfl⟩
instance:Suc 68 69:=⟨rfl⟩
instance:Suc 69 70:=⟨rfl⟩
instance:Suc 70 71:=⟨rfl⟩
instance:Suc 71 72:=⟨rfl⟩
instance:Suc 72 73:=⟨rfl⟩
instance:Suc 73 74:=⟨rfl⟩
instance:Suc 74 75:=⟨rfl⟩
instance:Suc 75 76:=⟨rfl⟩
instance:Suc 76 77:=⟨rfl⟩
instance:Suc 77 78:=⟨rfl⟩
instance:Suc 78 79:=⟨rfl⟩
instance:Suc 79 80:=⟨rfl⟩
instance {n m:Nat} {a:Oper} {l:List Oper} {L:List Nat} [i:Suc n m] [j:RgF m l L]:RgF n (a::l) (n::L):=⟨by rw [List.length_cons,List.range'_succ,i.h,j.h]⟩
instance {l:List Oper} {L:List Nat} [i:RgF 0 l L]:RgL l.toArray L:=⟨by rw [<- i.h,List.range_eq_range']; rfl⟩
def naL:Nat->List AV->List AV | 0,l=>l | k+1,l=>.any::naL k l
theorem nQ {a b:List AV} (h:a=b:=by simp only [naL]; rfl):a=b:=h
theorem TK.na {P:Program} {gm:Nat->Option Nat} {T:Goroutine->Hp->Prop} {Y:KX P gm T} {ds:List Nat} {k:List Item} {e e':List AV} {K:KV} (h:e=e') (t:TK Y ds k e' K):TK Y ds k e K:=h.symm ▸ t
section
variable {P:Program} {gm:Nat->Option Nat} {T:Goroutine->Hp->Prop} {Y:KX P gm T} {ds:List Nat} {k:List Item} {env env':List AV} {K K':KV} {ops:Array Oper} {i d:Nat} {o:Oper} {r:AV} {rest L:List Nat}
def slotsA (n:Nat) (l:List (Nat×AV)):List AV:=l.foldl (fun e x=>e.set x.1 x.2) (List.replicate n .any)
theorem TK.rgn {id:Nat} (hL:List.range ops.size=L) (h:TK Y ds (.inRegion ops L::k) env K):TK Y ds (.code (.region id ops false)::k) env K:=TK.regionL hL h
theorem TK.nrm (h:TK Y ds k env' K') (he:env=env') (hk:K=K'):TK Y ds k env K:=by subst he hk; exact h
theorem TK.condA {c:Operand} {x y:Code} {t:Bool} (hc:zI gm env c=.v (.bool t)) (h:(t=true->TK Y ds (.code x::k) env K)/\(t=false->TK Y ds (.code y::k) env K)):TK Y ds (.code (.cond c x y)::k) env K:=TK.cond hc h.1 h.2
theorem TK.condT {c:Operand} {x y:Code} (hc:zI gm env c=.v (.bool true)) (h:TK Y ds (.code x::k) env K):TK Y ds (.code (.cond c x y)::k) env K:=TK.cond hc (fun _=>h) (fun h=>by cases h)
theorem TK.condF {c:Operand} {x y:Code} (hc:zI gm env c=.v (.bool false)) (h:TK Y ds (.code y::k) env K):TK Y ds (.code (.cond c x y)::k) env K:=TK.cond hc (fun h=>by cases h) (fun _=>h)
structure Run (l:List Nat) (G:Prop):Prop where
 go:G
theorem vw (n:Nat) {main:Bool} (hT:zo P main T) {g:FuncId} {fn:Func} {c:Code} {args:List AV} {Post:AV->KV->Prop} (hf:P.funcs[g]? =some fn)
  (h:∀ Y:KX P gm T,Y.X.ro=none->(∀ j ds env K' K1 K'' D1 D2 r,(j=none\/j=some .ret)->Split K' K1 D1->ds.Nodup->(∀ d∈ds,(d,.raw (.deferred (some [])))∈D1)->Split K1 K'' D2->(∀ A',zM K1 A'->resA P fn.results.toList env A'=some r)->Post r K''->∀ A',Kn Y K' A'->Y.X.L j ds env A') ->
   TK Y [] [.code c] (args++List.replicate (n - args.length) .any) K) (hb:fn.body=some c:=by rfl) (hn:fn.ntmps=n:=by rfl):zA P T gm g args K Post:=by
 subst hn
 exact zcd hT hf hb h
structure Hide (p:Prop):Prop where
 out:p
theorem Run.s {l:List Nat} {A B:Prop} (f:A->B) (h:Run l A):Run l B:=⟨f h.go⟩
theorem R1 {l:List Nat} {G:Prop} (h:Run l G):Run (1::l) G:=⟨h.go⟩
theorem R2 {l:List Nat} {G:Prop} (h:Run l G):Run (2::l) G:=⟨h.go⟩
theorem R3 {l:List Nat} {G:Prop} (h:Run l G):Run (3::l) G:=⟨h.go⟩
theorem R4 {l:List Nat} {G:Prop} (h:Run l G):Run (4::l) G:=⟨h.go⟩
theorem R5 {l:List Nat} {G:Prop} (h:Run l G):Run (5::l) G:=⟨h.go⟩
theorem R6 {l:List Nat} {G:Prop} (h:Run l G):Run (6::l) G:=⟨h.go⟩
theorem R7 {l:List Nat} {G:Prop} (h:Run l G):Run (7::l) G:=⟨h.go⟩
theorem R8 {l:List Nat} {G:Prop} (h:Run l G):Run (8::l) G:=⟨h.go⟩
theorem R9 {l:List Nat} {G:Prop} (h:Run l G):Run (9::l) G:=⟨h.go⟩
theorem R10 {l:List Nat} {G:Prop} (h:Run l G):Run (10::l) G:=⟨h.go⟩
theorem R11 {l:List Nat} {G:Prop} (h:Run l G):Run (11::l) G:=⟨h.go⟩
theorem R12 {l:List Nat} {G:Prop} (h:Run l G):Run (12::l) G:=⟨h.go⟩
theorem R13 {l:List Nat} {G:Prop} (h:Run l G):Run (13::l) G:=⟨h.go⟩
theorem R14 {l:List Nat} {G:Prop} (h:Run l G):Run (14::l) G:=⟨h.go⟩
theorem R15 {l:List Nat} {G:Prop} (h:Run l G):Run (15::l) G:=⟨h.go⟩
theorem R16 {l:List Nat} {G:Prop} (h:Run l G):Run (16::l) G:=⟨h.go⟩
theorem R17 {l:List Nat} {G:Prop} (h:Run l G):Run (17::l) G:=⟨h.go⟩
theorem R18 {l:List Nat} {G:Prop} (h:Run l G):Run (18::l) G:=⟨h.go⟩
theorem R19 {l:List Nat} {G:Prop} (h:Run l G):Run (19::l) G:=⟨h.go⟩
theorem R20 {l:List Nat} {G:Prop} (h:Run l G):Run (20::l) G:=⟨h.go⟩
theorem R21 {l:List Nat} {G:Prop} (h:Run l G):Run (21::l) G:=⟨h.go⟩
theorem R22 {l:List Nat} {G:Prop} (h:Run l G):Run (22::l) G:=⟨h.go⟩
theorem R23 {l:List Nat} {G:Prop} (h:Run l G):Run (23::l) G:=⟨h.go⟩
theorem R24 {l:List Nat} {G:Prop} (h:Run l G):Run (24::l) G:=⟨h.go⟩
theorem R25 {l:List Nat} {G:Prop} (h:Run l G):Run (25::l) G:=⟨h.go⟩
theorem R26 {l:List Nat} {G:Prop} (h:Run l G):Run (26::l) G:=⟨h.go⟩
theorem R27 {l:List Nat} {G:Prop} (h:Run l G):Run (27::l) G:=⟨h.go⟩
theorem R28 {l:List Nat} {G:Prop} (h:Run l G):Run (28::l) G:=⟨h.go⟩
theorem R29 {l:List Nat} {G:Prop} (h:Run l G):Run (29::l) G:=⟨h.go⟩
theorem R30 {l:List Nat} {G:Prop} (h:Run l G):Run (30::l) G:=⟨h.go⟩
theorem R31 {l:List Nat} {G:Prop} (h:Run l G):Run (31::l) G:=⟨h.go⟩
theorem R32 {l:List Nat} {G:Prop} (h:Run l G):Run (32::l) G:=⟨h.go⟩
theorem R33 {l:List Nat} {G:Prop} (h:Run l G):Run (33::l) G:=⟨h.go⟩
theorem R34 {l:List Nat} {G:Prop} (h:Run l G):Run (34::l) G:=⟨h.go⟩
theorem R35 {l:List Nat} {G:Prop} (h:Run l G):Run (35::l) G:=⟨h.go⟩
theorem R36 {l:List Nat} {G:Prop} (h:Run l G):Run (36::l) G:=⟨h.go⟩
theorem R37 {l:List Nat} {G:Prop} (h:Run l G):Run (37::l) G:=⟨h.go⟩
theorem R38 {l:List Nat} {G:Prop} (h:Run l G):Run (38::l) G:=⟨h.go⟩
theorem R39 {l:List Nat} {G:Prop} (h:Run l G):Run (39::l) G:=⟨h.go⟩
theorem R40 {l:List Nat} {G:Prop} (h:Run l G):Run (40::l) G:=⟨h.go⟩
theorem R41 {l:List Nat} {G:Prop} (h:Run l G):Run (41::l) G:=⟨h.go⟩
theorem R42 {l:List Nat} {G:Prop} (h:Run l G):Run (42::l) G:=⟨h.go⟩
theorem R43 {l:List Nat} {G:Prop} (h:Run l G):Run (43::l) G:=⟨h.go⟩
theorem R44 {l:List Nat} {G:Prop} (h:Run l G):Run (44::l) G:=⟨h.go⟩
theorem R45 {l:List Nat} {G:Prop} (h:Run l G):Run (45::l) G:=⟨h.go⟩
theorem R46 {l:List Nat} {G:Prop} (h:Run l G):Run (46::l) G:=⟨h.go⟩
theorem R47 {l:List Nat} {G:Prop} (h:Run l G):Run (47::l) G:=⟨h.go⟩
theorem au (l:List Nat) {G G':Prop} (h:G') (hs:Hide G'->Run l G:=by
 intro hid
 refine Run.s (fun h=>TK.nrm h (by first | ((with_reducible show zO _ _ _=_); first | exact zu rfl tQ | exact putN rfl) | (simp only [putAll,List.zip_cons_cons,List.zip_nil_right,slotsA,List.foldl_cons,List.foldl_nil,List.replicate,List.set,List.cons_append,List.nil_append,List.length_cons,List.length_nil,Nat.reduceAdd,Nat.reduceSub,Nat.zero_add]; rfl) | rfl) (by first | (simp only [cA]; rfl) | rfl)) ?_
 repeat (first
  | (refine R1 ?_; refine Run.s (fun h=>TK.a rfl (zh rfl rfl) h) ?_)
  | (refine R2 ?_; refine Run.s (fun h=>TK.a rfl (zD rfl rfl) h) ?_)
  | (refine R3 ?_; refine Run.s (fun h=>TK.regionEnd h) ?_)
  | (refine R4 ?_; refine Run.s (fun h=>TK.seq h) ?_)
  | (refine R5 ?_; refine Run.s (fun h=>TK.rgn RgL.h h) ?_)
  | (refine R6 ?_; refine Run.s (fun h=>TK.a rfl (q_cmp rfl rfl rfl rfl) h) ?_)
  | (refine R7 ?_; refine Run.s (fun h=>TK.a rfl (zg rfl rfl zl.h dQ) h) ?_)
  | (refine R8 ?_; refine Run.s (fun h=>TK.a rfl (z8 rfl rfl zi.h mQ rfl) h) ?_)
  | (refine R9 ?_; refine Run.s (fun h=>TK.a rfl (zm rfl rfl zi.h mQ rfl) h) ?_)
  | (refine R10 ?_; refine Run.s (fun h=>TK.a rfl (ye rfl rfl rfl) h) ?_)
  | (refine R11 ?_; refine Run.s (fun h=>TK.unwanted rfl rfl (zu rfl tQ) h) ?_)
  | (refine R12 ?_; refine Run.s (fun h=>TK.skip h) ?_)
  | (refine R13 ?_; refine Run.s (fun h=>TK.block h) ?_)
  | (refine R14 ?_; refine Run.s (fun h=>TK.inBlock h) ?_)
  | (refine R15 ?_; refine Run.s (fun h=>TK.label h) ?_)
  | (refine R16 ?_; refine Run.s (fun h=>TK.exit rfl h) ?_)
  | (refine R17 ?_; refine Run.s (fun h=>TK.st rfl rfl rfl (zX rfl rfl zi.h rfl rfl mQ rfl) uQ (putN rfl) h) ?_)
  | (refine R18 ?_; refine Run.s (fun h=>TK.condT rfl h) ?_)
  | (refine R19 ?_; refine Run.s (fun h=>TK.condF rfl h) ?_)
  | (refine R20 ?_; refine Run.s (fun h=>TK.condA rfl h) ?_)
  | (refine R21 ?_; refine Run.s (fun h=>TK.newP rfl rfl rfl (n_box rfl rfl) (fun _=>(zu rfl tQ)) h) ?_)
  | (refine R22 ?_; refine Run.s (fun h=>TK.newP rfl rfl rfl (yK rfl TyZA.h) (fun _=>(zu rfl tQ)) h) ?_)
  | (refine R23 ?_; refine Run.s (fun h=>TK.a rfl (q_add rfl rfl rfl oQ) h) ?_)
  | (refine R24 ?_; refine Run.s (fun h=>TK.a rfl (q_sub rfl rfl rfl oQ) h) ?_)
  | (refine R25 ?_; refine Run.s (fun h=>TK.a rfl (yf rfl rfl rfl) h) ?_)
  | (refine R26 ?_; refine Run.s (fun h=>TK.a rfl (yE rfl rfl rfl) h) ?_)
  | (refine R27 ?_; refine Run.s (fun h=>TK.a rfl (ziB rfl rfl rfl rfl) h) ?_)
  | (refine R28 ?_; refine Run.s (fun h=>TK.a rfl (q_len rfl rfl rfl Und.h) h) ?_)
  | (refine R29 ?_; refine Run.s (fun h=>TK.a rfl (zgp rfl rfl Und.h) h) ?_)
  | (refine R30 ?_; refine Run.s (fun h=>TK.a rfl (q_not rfl rfl) h) ?_)
  | (refine R31 ?_; refine Run.s (fun h=>TK.a rfl (zhv rfl rfl zl.h rfl) h) ?_)
  | (refine R32 ?_; refine Run.s (fun h=>TK.a rfl (ug rfl rfl rfl) h) ?_)
  | (refine R33 ?_; refine Run.s (fun h=>TK.a rfl (ziz rfl rfl rfl rfl) h) ?_)
  | (refine R34 ?_; refine Run.s (fun h=>TK.a rfl (ziy rfl rfl rfl Und.h rfl) h) ?_)
  | (refine R35 ?_; refine Run.s (fun h=>TK.a rfl (yU rfl rfl Und.h Und.h rfl) h) ?_)
  | (refine R36 ?_; refine Run.s (fun h=>TK.a rfl (zQ rfl rfl rfl zF.h oQ oQ) h) ?_)
  | (refine R37 ?_; refine Run.s (fun h=>TK.a rfl (kA rfl rfl rfl zF.h mQ oQ oQ) h) ?_)
  | (refine R38 ?_; refine Run.s (fun h=>TK.a rfl (yD (l:=[_]) rfl TyZ.h BlOf.h rfl) h) ?_)
  | (refine R39 ?_; refine Run.s (fun h=>TK.a rfl (yD (l:=[_,_]) rfl TyZ.h BlOf.h rfl) h) ?_)
  | (refine R40 ?_; refine Run.s (fun h=>TK.a rfl (yD (l:=[_,_,_]) rfl TyZ.h BlOf.h rfl) h) ?_)
  | (refine R41 ?_; refine Run.s (fun h=>TK.a rfl (yD (l:=[_,_,_,_]) rfl TyZ.h BlOf.h rfl) h) ?_)
  | (refine R42 ?_; refine Run.s (fun h=>TK.a rfl (yD (l:=[_,_,_,_,_]) rfl TyZ.h BlOf.h rfl) h) ?_)
  | (refine R43 ?_; refine Run.s (fun h=>TK.a rfl (yD (l:=[_,_,_,_,_,_]) rfl TyZ.h BlOf.h rfl) h) ?_)
  | (refine R44 ?_; refine Run.s (fun h=>TK.a rfl (yD (l:=[_,_,_,_,_,_,_]) rfl TyZ.h BlOf.h rfl) h) ?_)
  | (refine R45 ?_; refine Run.s (fun h=>TK.a rfl (yD (l:=[_,_,_,_,_,_,_,_]) rfl TyZ.h BlOf.h rfl) h) ?_)
  | (refine R46 ?_; refine Run.s (fun h=>TK.a rfl (yD (l:=[_,_,_,_,_,_,_,_,_]) rfl TyZ.h BlOf.h rfl) h) ?_)
  | (refine R47 ?_; refine Run.s (fun h=>TK.a rfl (yD (l:=[_,_,_,_,_,_,_,_,_,_]) rfl TyZ.h BlOf.h rfl) h) ?_))
 exact Run.mk (l:=[]) hid.out):G:=(hs ⟨h⟩).go
def RetK (Y:KX P gm T) (vs:List ResultVar) (Post:AV->KV->Prop):Prop :=
 ∀ j env K' K'' D r,(j=none\/j=some .ret)->Split K' K'' D->(∀ A',zM K' A'->resA P vs env A'=some r)->Post r K''->∀ A',Kn Y K' A'->Y.X.L j [] env A'
theorem zp (n:Nat) {main:Bool} (hT:zo P main T) {g:FuncId} {fn:Func} {c:Code} {args:List AV} {Post:AV->KV->Prop} (hf:P.funcs[g]? =some fn)
  (h:∀ Y:KX P gm T,RetK Y fn.results.toList Post->TK Y [] [.code c] (args++List.replicate (n - args.length) .any) K) (hb:fn.body=some c:=by rfl) (hn:fn.ntmps=n:=by rfl):zA P T gm g args K Post:=by
 subst hn
 exact zcc hT hf hb h
def Top (P:Program) (gm:Nat->Option Nat) (g:FuncId) (args:List AV) (K:KV) (Post:AV->KV->Prop):Prop :=
 ∀ (R:Value->World->Prop) (A:List AObj) (φ:Nat->Loc3) (H:Hp) (vs:Array Value),zM K A->(keys K).Nodup->RelG gm φ A.length->RelH φ A nF H->zG φ A.length args vs ->
  (∀ r K' φ' A' H' v w,Post r K'->(∀ i,i<A.length->i∉keys K->A'[i]? =A[i]?)->Agr φ φ' A.length->RelH φ' A' nF H'->RelV φ' A'.length r v->zY H' w->R v w) ->
  BT P (AtRet P g R) (G (Frame.enter P g vs .normal) []) H
theorem topI (n:Nat) {g:FuncId} {fn:Func} {c:Code} {t:Tmp} {args:List AV} {Post:AV->KV->Prop} (hf:P.funcs[g]? =some fn)
  (h:∀ (R:Value->World->Prop) (Y:KX P gm (BT P (AtRet P g R))),RetK Y fn.results.toList Post->TK Y [] [.code c] (args++List.replicate (n - args.length) .any) K) (hb:fn.body=some c:=by rfl) (hr:fn.results=#[.tmp t]:=by rfl) (hn:fn.ntmps=n:=by rfl) :
  Top P gm g args K Post:=fun R A φ H vs hv hnd hg hH hargs hR=>by
 subst hn
 exact zey hf hb (fun ts=>zhy hr ts) hv hnd hg hH hargs hR (h R)
theorem res_0:∀ A,zM K A->resA P [] env A=some (.tup []):=wH .nil rfl
theorem res_2 {v1 v2:ResultVar} {r1 r2:AV} (h1:ResK P K env v1 r1) (h2:ResK P K env v2 r2):∀ A,zM K A->resA P [v1,v2] env A=some (.tup [r1,r2]):=wH (.cons h1 (.cons h2 .nil)) rfl
theorem res_3 {v1 v2 v3:ResultVar} {r1 r2 r3:AV} (h1:ResK P K env v1 r1) (h2:ResK P K env v2 r2) (h3:ResK P K env v3 r3):∀ A,zM K A->resA P [v1,v2,v3] env A=some (.tup [r1,r2,r3]):=wH (.cons h1 (.cons h2 (.cons h3 .nil))) rfl
theorem res_4 {v1 v2 v3 v4:ResultVar} {r1 r2 r3 r4:AV} (h1:ResK P K env v1 r1) (h2:ResK P K env v2 r2) (h3:ResK P K env v3 r3) (h4:ResK P K env v4 r4):∀ A,zM K A->resA P [v1,v2,v3,v4] env A=some (.tup [r1,r2,r3,r4]):=wH (.cons h1 (.cons h2 (.cons h3 (.cons h4 .nil)))) rfl
theorem TK.rt {vs:List ResultVar} {Post:AV->KV->Prop} {D:KV} (hr:RetK Y vs Post) (R:KV) (h:Post r R) (hs:Split K R D:=by repeat (first | exact Split.none _ | exact Split.all _ | (apply Split.rem; repeat (first | exact Rem.head | apply Rem.tail)) | apply Split.right)) (hres:∀ A,zM K A->resA P vs env A=some r:=by first | exact yB (zU rfl) | exact res_2 (zU rfl) (zU rfl) | exact res_3 (zU rfl) (zU rfl) (zU rfl) | exact res_4 (zU rfl) (zU rfl) (zU rfl) (zU rfl) | exact res_2 (yO rfl zi.h mQ rfl) (zU rfl) | exact yB (yO rfl zi.h mQ rfl) | exact yB (yM rfl zi.h mQ rfl) | exact res_2 (yM rfl zi.h mQ rfl) (yM rfl zi.h mQ rfl) | exact res_3 (yO rfl zi.h mQ rfl) (yO rfl zi.h mQ rfl) (zU rfl) | exact res_0):TK Y [] (.code .ret::k) env K :=
 TK.leave (.ret _) fun A hA=>hr _ _ _ _ _ _ (.inr rfl) hs hres h A hA
theorem TK.rt0 {vs:List ResultVar} {Post:AV->KV->Prop} {D:KV} (hr:RetK Y vs Post) (R:KV) (h:Post r R) (hs:Split K R D:=by repeat (first | exact Split.none _ | exact Split.all _ | (apply Split.rem; repeat (first | exact Rem.head | apply Rem.tail)) | apply Split.right)) (hres:∀ A,zM K A->resA P vs env A=some r:=by first | exact yB (zU rfl) | exact res_2 (zU rfl) (zU rfl) | exact res_3 (zU rfl) (zU rfl) (zU rfl) | exact res_4 (zU rfl) (zU rfl) (zU rfl) (zU rfl) | exact res_2 (yO rfl zi.h mQ rfl) (zU rfl) | exact yB (yO rfl zi.h mQ rfl) | exact yB (yM rfl zi.h mQ rfl) | exact res_2 (yM rfl zi.h mQ rfl) (yM rfl zi.h mQ rfl) | exact res_3 (yO rfl zi.h mQ rfl) (yO rfl zi.h mQ rfl) (zU rfl) | exact res_0):TK Y [] [] env K :=
 TK.leave .fin fun A hA=>hr _ _ _ _ _ _ (.inl rfl) hs hres h A hA
theorem TK.rta {vs:List ResultVar} {Post:AV->KV->Prop} (hr:RetK Y vs Post) (h:Post r K) (hres:∀ A,zM K A->resA P vs env A=some r:=by first | exact yB (zU rfl) | exact res_2 (zU rfl) (zU rfl) | exact res_3 (zU rfl) (zU rfl) (zU rfl) | exact res_4 (zU rfl) (zU rfl) (zU rfl) (zU rfl) | exact res_2 (yO rfl zi.h mQ rfl) (zU rfl) | exact yB (yO rfl zi.h mQ rfl) | exact yB (yM rfl zi.h mQ rfl) | exact res_2 (yM rfl zi.h mQ rfl) (yM rfl zi.h mQ rfl) | exact res_3 (yO rfl zi.h mQ rfl) (yO rfl zi.h mQ rfl) (zU rfl) | exact res_0):TK Y [] (.code .ret::k) env K :=
 TK.leave (.ret _) fun A hA=>hr _ _ _ _ _ _ (.inr rfl) (.all _) hres h A hA
theorem TK.rt0a {vs:List ResultVar} {Post:AV->KV->Prop} (hr:RetK Y vs Post) (h:Post r K) (hres:∀ A,zM K A->resA P vs env A=some r:=by first | exact yB (zU rfl) | exact res_2 (zU rfl) (zU rfl) | exact res_3 (zU rfl) (zU rfl) (zU rfl) | exact res_4 (zU rfl) (zU rfl) (zU rfl) (zU rfl) | exact res_2 (yO rfl zi.h mQ rfl) (zU rfl) | exact yB (yO rfl zi.h mQ rfl) | exact yB (yM rfl zi.h mQ rfl) | exact res_2 (yM rfl zi.h mQ rfl) (yM rfl zi.h mQ rfl) | exact res_3 (yO rfl zi.h mQ rfl) (yO rfl zi.h mQ rfl) (zU rfl) | exact res_0):TK Y [] [] env K :=
 TK.leave .fin fun A hA=>hr _ _ _ _ _ _ (.inl rfl) (.all _) hres h A hA
theorem TK.kp {D:KV} (R:KV) (h:TK Y ds k env R) (hs:Split K R D:=by repeat (first | exact Split.none _ | exact Split.all _ | (apply Split.rem; repeat (first | exact Rem.head | apply Rem.tail)) | apply Split.right)):TK Y ds k env K:=TK.keep hs h
theorem TK.cl {fo:Operand} {ars:Array Operand} {at_:Array TypeId} {g:FuncId} {fs cp args:List AV} {Kf R:KV} {Post:AV->KV->Prop} (ho:ops[i]? =some o) (hop:o.op=.call { callee:=.value fo,args:=ars,argTypes:=at_ })
  (hf:zn gm env fo=some (.fn g fs cp)) (hargs:fs++ars.toList.map (zI gm env)++cp=args) (hc:zA P T gm g args Kf Post)
  (h:∀ r K',Post r K'->TK Y ds (.inRegion ops rest::k) (env.set d r) (K'++R)) (hs:Split K Kf R:=by repeat (first | exact Split.none _ | exact Split.all _ | (apply Split.rem; repeat (first | exact Rem.head | apply Rem.tail)) | apply Split.right)) (hw:zK ops env o=some true:=by rfl) (hg:yi P g=true:=by exact Cal.h) (hx:o.dst=some d:=by rfl):TK Y ds (.inRegion ops (i::rest)::k) env K :=
 TK.call' ho hw hop hf hg hargs hc hs fun r K' hp=>by rw [hx]; exact h r K' hp
theorem TK.sp (d:Nat) {t:Bool} {env1 env0:List AV} (k1:t=true->TK Y ds k env1 K) (k0:t=false->TK Y ds k env0 K) (hd:env[d]? =some (.v (.bool t)):=by rfl) (h1:env.set d (.v (.bool true))=env1:=by simp only [List.set]; rfl) (h0:env.set d (.v (.bool false))=env0:=by simp only [List.set]; rfl):TK Y ds k env K:=TK.splitN d hd h1 h0 k1 k0
theorem TD.sp {pend:List Pd} (d:Nat) {t:Bool} {env1 env0:List AV} (k1:t=true->TD Y ds ops k pend L env1 K) (k0:t=false->TD Y ds ops k pend L env0 K) (hd:env[d]? =some (.v (.bool t)):=by rfl) (h1:env.set d (.v (.bool true))=env1:=by simp only [List.set]; rfl) (h0:env.set d (.v (.bool false))=env0:=by simp only [List.set]; rfl):TD Y ds ops k pend L env K:=TD.splitN d hd h1 h0 k1 k0
end
end Go.Vel
namespace Go.Vel
open Go Go.Conc
open Go.ConcN (sumTo upd upd_ne upd_same)
open Go.ConcM (OsLater MuAt muA msA)
open Go.ConcR (KK wgBlock WgAt stA smA mk)
open Mx (TT Th Mn S4 auto Mv4 ok4 bl4 kd dl MPc Pc okW okM Mv)
structure Sy (P:Program) where
 n:Nat
 lkr:Nat->Bool
 tM:TypeId
 tW:TypeId
 Mu:Nat
 Wg:Nat
 hne:Mu≠Wg
 GI:(Nat->Bool)->Hp->Prop
 Stop:Goroutine->Hp->Prop
section
variable {P:Program}
def Sy.sh (y:Sy P) (w:World) (s:S4):Prop:=MuAt y.tM y.Mu w s.mu s.ms/\WgAt y.tW y.Wg w ((s.v:Int)*KK+s.wt) s.ws
def Sy.S2 (y:Sy P) (b:Nat):Prop:=b=y.Mu\/b=y.Wg
abbrev Sy.A (y:Sy P):Aut:=auto y.n y.lkr
def Sy.all (y:Sy P):Nat->Bool:=fun i=>y.lkr i&&decide (i<y.n)
def Sy.At (y:Sy P) (main:Bool) (Ch:Nat->Goroutine->Hp->Prop) (k i:Nat) (T:TT) (x:Nat->Bool):Goroutine->Hp->Prop:=AtD P y.A y.sh y.S2 (muA y.Mu) (stA y.Wg) y.GI y.all y.Stop main Ch k i T x
def Sy.Sg (y:Sy P) (main:Bool) (Ch:Nat->Goroutine->Hp->Prop) (k i:Nat) (T:TT) (x:Nat->Bool):Goroutine->Hp->Prop:=Seg P main (y.A.aft T) (LiveS y.A y.sh) (y.At main Ch k i T x)
def Sy.W (y:Sy P) (k i:Nat) (T:TT) (x:Nat->Bool):Goroutine->Hp->Prop:=y.Sg false (fun _ _ _=>False) k i T x
def Sy.Chd (y:Sy P) (j:Nat) (ch:Goroutine) (Hc:Hp):Prop:=∀ k x,Seg P false false (LiveS y.A y.sh) (y.At false (fun _ _ _=>False) k j (y.A.st j) x) ch Hc
def Sy.M (y:Sy P) (k:Nat) (T:TT) (x:Nat->Bool):Goroutine->Hp->Prop:=y.Sg true y.Chd k 0 T x
theorem Sy.shBy (y:Sy P):ShBy y.S2 (S:=S4) y.sh:=fun w w' s h hb=>⟨(hb y.Mu (.inl rfl)).trans h.1,(hb y.Wg (.inr rfl)).trans h.2⟩
theorem zgx {main:Bool} {Live:World->Prop} {S:Goroutine->Hp->Prop}:zo P main (Seg P main false Live S):=fun g H hr h=>by
 refine .step hr (fun w hw _=>?_) fun w g' w' es hw _ he=>?_
 ·obtain ⟨g',w',es,h1,h2,h3,_⟩:=h w hw
  exact ⟨g',w',es,h1,h2,h3,fun e=>by cases e⟩
 ·obtain ⟨g'',w'',es',h1,_,_,h4⟩:=h w hw
  rw [he] at h1
  cases h1
  exact h4
theorem zdi (y:Sy P) {Ψ:Goroutine->World->Prop} {g:Goroutine} {H H' L:Hp} (hn:1<=y.n/\y.n<=31) (hM:H y.Mu=some (true,Go.ConcM.muBlock y.tM 0 0)) (hW:H y.Wg=some (true,wgBlock y.tW 0 0)) (hr:g.status=.running)
  (h1:H'.Sub H) (h2:L.Sub H) (h3:H'.Dis L) (h4:∀ b x,H' b=some x->¬ y.S2 b) (h5:∀ b x,L b=some x->¬ y.S2 b) (hG:y.GI (fun _=>false) L) (hS:∀ a Hs,y.Stop a Hs->BT P Ψ a Hs)
  (hseg:∀ k,y.M k (.m { pc:=.a0,j:=0 }) (fun _=>false) g H'):BT P Ψ g H:=by
 intro w D hf hD hB gs sl t q h0 hL hP hN
 have hpos:0<gs.size:=(mG.1 h0).1
 let s0:S4:=⟨0,0,0,0,0⟩
 let f:Nat->TT:=fun i=>if i=0 then .m { pc:=.a0,j:=0 } else .w { pc:=.quit }
 have hfit:∀ {K:Hp},K.Sub H->zY K w:=fun hK=>v8 hf hK
 have hnoD:∀ {K:Hp},K.Sub H->∀ b x,K b=some x->¬ D b:=fun hK b x hb=>by
  obtain ⟨rw',hx,_⟩:=hK b x.1 x.2 hb
  exact hD b _ hx
 have e0:gid gs.size 0=0:=rfl
 have hsh:y.sh w s0:=⟨hf _ _ _ hM,by
  show w.heap[y.Wg]? =some (wgBlock y.tW (((0:Nat):Int)*KK+(0:Nat)) (0:Nat))
  rw [hf _ _ _ hW]
  simp⟩
 have hf0:f (gid gs.size 0)=.m { pc:=.a0,j:=0 }:=rfl
 have hk0:y.A.kd (.m { pc:=.a0,j:=0 })=.book:=rfl
 have hAI:Mx.AI y.n y.lkr 0 (fun q=>f (gid gs.size q)) s0:=by
  refine ⟨by rw [hf0]; rfl,fun i hi=>by omega,?_,Mx.inv_none.congr (f:=fun _=>{ pc:=.quit }) fun i hi=>by omega,fun i hi=>by omega,fun i hi=>by omega,?_⟩
  ·rw [hf0]
   exact ⟨rfl,by omega,hn.2,hn.1,fun _=>by omega,fun e=>(by cases e),by simp [Mx.mn],fun e=>by cases e⟩
  ·rw [hf0]
   simp [Mx.mn,Mx.Gq,Mx.S,s0]
 let φ:=Mx.Φ4 y.n 0 (fun q=>f (gid gs.size q)) s0
 let F:Nat->WS:=fun i=>if i=0 then .go true false (Sq P y.A y.sh y.S2 (muA y.Mu) (stA y.Wg) y.GI y.all y.Stop gs.size 0 (φ+1) (f 0) (fun _=>false)) g H' else if i<gs.size then .left (q i) else .left 0
 have hthr:∀ i,Thr gs.size 0 i↔i=0:=fun i=>by unfold Thr; omega
 have hMI:MI P y.A y.sh y.S2 (muA y.Mu) (stA y.Wg) y.GI y.all y.Stop (fun b=>y.S2 b\/D b) (Mx.AI y.n y.lkr) (Mx.Φ4 y.n) gs.size gs w t 0 s0 f F (some L) (fun _=>false) φ:=by
  refine ⟨hpos,rfl,hsh,hAI,mL _,fun i x hx hi=>?_,fun i x hx hi hm=>?_,fun i hi=>?_,hL.above,?_,.inl ⟨L,rfl,hG,hfit h2,fun i hi=>?_⟩,fun i hi=>by omega,fun i _=>rfl⟩
  ·have:=(hthr i).1 hi
   subst this
   rw [h0] at hx
   cases hx
   refine ⟨rfl,rfl,fun e=>(by cases hk0.symm.trans e),hP.hears,hfit h1,fun e=>(by cases e),φ+1,fun _=>false,rfl,Nat.lt_succ_self _,fun e=>(by cases hk0.symm.trans e),.inl ⟨rfl,hr,?_⟩⟩
   have:=hseg (φ+1)
   unfold Sq
   rw [if_pos rfl]
   exact this
  ·refine ⟨q i,?_,hL.old i x hi hx⟩
   show (if i=0 then _ else if i<gs.size then _ else _)=_
   rw [if_neg oQ,if_pos hm]
  ·show (if i=0 then _ else if i<gs.size then _ else _)=_
   rw [if_neg oQ,if_neg oQ]
  ·have hT:=TI.init (Sb:=fun b=>y.S2 b\/D b) (aM:=muA y.Mu) (aW:=stA y.Wg) hP (fun l hl=>.inr hl) (H:=H') (L:=L) h3 (fun b x hb hs=>hs.elim (h4 b x hb) (hnoD h1 b x hb)) (fun b x hb hs=>hs.elim (h5 b x hb) (hnoD h2 b x hb))
    (fun b hs=>hs.elim (fun e=>by rcases e with rfl | rfl; exact hf.lt hM; exact hf.lt hW) (hB b)) hN
   refine ⟨hT.clean,hT.low,fun idx a ha hm hs=>(hT.quiet idx a ha hm hs).imp id fun h k hk=>h k ((hthr k).1 hk),fun idx a ha hm=>(hT.fin idx a ha hm).imp id fun x=>x.imp (fun ⟨i,e1,e2⟩=>⟨i,e1,(hthr i).2 e2,by subst e2; rfl⟩) id,fun k hk idx a ha hm rw' o hb hor=>?_,fun K e idx a ha hm rw' o hb hor=>(hT.lk K e idx a ha hm rw' o hb hor).imp (fun h k hk=>h k ((hthr k).1 hk.1)) id,fun k l b o hk hl hne=>?_,fun K e k hk=>?_,hT.norel,fun k hk b x hb=>?_,hT.sbL,hT.sbn,fun k hk=>hk.1⟩
   ·have:=(hthr k).1 hk.1
    subst this
    exact hT.hk 0 rfl idx a ha hm rw' o hb hor
   ·exact absurd (((hthr k).1 hk.1).trans ((hthr l).1 hl.1).symm) hne
   ·have:=(hthr k).1 hk.1
    subst this
    exact hT.dl K e 0 rfl
   ·have:=(hthr k).1 hk.1
    subst this
    exact hT.sb 0 rfl b x hb
  ·have:=(hthr i).1 hi
   subst this
   exact fun e=>by cases hk0.symm.trans e
 obtain ⟨N,gs',w',sl',t',q',a',Hs,m1,m2,_,m4,m5,m6,m7,m8,m9,m9',m10,m11,m12⟩:=zdm (Mx.auto_ok y.n y.lkr) y.shBy (fun b hb=>.inl hb) (.inl (.inl rfl)) (.inl (.inr rfl)) φ gs w sl t 0 s0 f F (some L) (fun _=>false) hMI
 obtain ⟨N2,gs2,a2,w2,sl2,t2,q2,D2,r1,r2,r3,r4,r5,r6,r7⟩:=hS a' Hs m4 w' _ m5 m9 m9' gs' sl' t' q' m2 m6 m7 m8
 exact ⟨N+N2,gs2,a2,w2,sl2,t2,q2,D2,by rw [vB N N2 _ _ _ _ m1]; exact r1,r2,r3,r4,r5,m11.trans r6,r7.trans m12⟩
end
end Go.Vel
namespace Go.Vel
open Go Go.Conc
open Go.ConcN (sumTo upd upd_ne upd_same)
open Go.ConcM (OsLater MuAt muA msA)
open Go.ConcR (KK wgBlock WgAt stA smA mk rd wr)
open Mx (TT Th Mn S4 auto Mv4 ok4 bl4 kd dl MPc Pc okW okM Mv)
section
variable {P:Program} {gm:Nat->Option Nat}
def YU {T:Goroutine->Hp->Prop} {main:Bool} (hT:zo P main T) (gm:Nat->Option Nat) (φ0:Nat->Loc3) (kd:CallKind) (hkd:kd≠.early) (f:FuncId) (cs:List Frame) (de:List Deferred) (A0:List AObj) (K0:List Nat):KX P gm T :=
 ⟨{ main,hT,φ0,n0:=A0.length,F:=nF,hF0:=rfl,kd,hkd,f,ro:=none,cs,dd:=de,
     L:=fun j ds env A=>∀ φ H ts k,Leave j k->Agr φ0 φ A0.length->A0.length<=A.length->RelG gm φ A.length->(∀ d∈ds,d<A.length)->RelH φ A nF H->zG φ A.length env ts->T (G (fr kd f none ts (dsC φ ds++de) k) cs) H,
     hL:=fun j k ds env A φ H ts hl hL a b c d e f=>hL φ H ts k hl a b c d e f },A0,K0⟩
def bf (kd:CallKind) (f:FuncId):Frame:={ (default:Frame) with fn:=f,kind:=kd }
theorem fr_at (kd:CallKind) (f:FuncId) (ts:Array Value) (ds:List Deferred) (k:List Item):fr kd f none ts ds k=(bf kd f).at ⟨ts,ds⟩ k:=rfl
theorem yc (ts:Array Value) (ds:List Deferred) (d:Option Tmp) (v:Value):(⟨ts,ds⟩:Act).put d v=⟨putT ts d v,ds⟩:=by cases d <;> rfl
theorem yG (ts:Array Value) (ds:List Deferred):(⟨ts,ds⟩:Act).eval=evT ts:=by funext x; cases x <;> rfl
theorem vk {main:Bool} {S2:Nat->Prop} (d:Nat):EvB main S2 d d #[]:=⟨rfl,fun e he=>by simp at he,fun j e he=>by simp at he⟩
theorem vN {main:Bool} {S2:Nat->Prop} (d:Nat):EvB main S2 d (d+1) #[mk .disable]:=⟨rfl,fun e he=>.inl (by simp at he; subst he; rfl),fun j e he=>.inl (by
 have:=mH he
 simp at this; subst this; rfl)⟩
theorem kK {main:Bool} {S2:Nat->Prop} (d:Nat):EvB main S2 (d+1) d #[mk .enable]:=⟨rfl,fun e he=>.inl (by simp at he; subst he; rfl),fun j e he=>.inl (by
 have:=mH he
 simp at this; subst this; rfl)⟩
theorem zaa {main:Bool} {S2:Nat->Prop} {d:Nat} (hd:0<d) {es:Array Event} (h:∀ e∈es,Tch main S2 e/\e.loc≠.mark .disable/\e.loc≠.mark .enable):EvB main S2 d d es:=by
 refine ⟨deafBehind_still (fun e he=>(h e he).2) d,fun e he=>.inr (h e he).1,fun j e he=>.inr ?_⟩
 have hx:∀ e'∈es.extract 0 j,e'.loc≠.mark .disable/\e'.loc≠.mark .enable:=fun e' he'=>by
  have hm:e'∈es.toList.take j:=by
   obtain ⟨l⟩:=es
   simpa using he'
  exact (h e' (by simpa using List.mem_of_mem_take hm)).2
 rw [deafBehind_still hx d]
 exact hd
theorem wI {main:Bool} {S2:Nat->Prop} {a:Addr} (h:S2 a.block) (x:Bool):Tch main S2 ⟨.cell a,x,true⟩/\(⟨.cell a,x,true⟩:Event).loc≠.mark .disable/\(⟨.cell a,x,true⟩:Event).loc≠.mark .enable:=⟨.inl ⟨a,x,rfl,h⟩,by simp,by simp⟩
theorem evb_r {main:Bool} {S2:Nat->Prop} {d:Nat} (hd:0<d) {a:Addr} (h:S2 a.block):EvB main S2 d d #[⟨.cell a,false,true⟩]:=zaa hd fun e he=>by simp at he; subst he; exact wI h _
theorem vO {main:Bool} {S2:Nat->Prop} {d:Nat} (hd:0<d) {a:Addr} (h:S2 a.block):EvB main S2 d d #[⟨.cell a,false,true⟩,⟨.cell a,true,true⟩]:=zaa hd fun e he=>by
 simp at he
 rcases he with rfl | rfl
 ·exact wI h _
 ·exact wI h _
theorem zfR {S2:Nat->Prop} {d:Nat} (hd:0<d) {a:Addr} (h:S2 a.block) {m:Mark} (hm:m=.read a\/m=.write a):EvB true S2 d d #[mk m]:=zaa hd fun e he=>by
 simp at he; subst he
 refine ⟨.inr ⟨rfl,a,?_,h⟩,?_,?_⟩
 ·rcases hm with rfl | rfl
  ·exact .inl rfl
  ·exact .inr rfl
 ·rcases hm with rfl | rfl <;> simp [mk]
 ·rcases hm with rfl | rfl <;> simp [mk]
theorem u9 {main:Bool} {S2:Nat->Prop} {d:Nat} (hd:0<d) {a:Addr} (h:S2 a.block):EvB main S2 d d (semEvents a):=by
 refine ⟨by simp [semEvents,deafBehind],fun e he=>?_,fun j e he=>?_⟩
 ·simp [semEvents] at he
  rcases he with rfl | rfl | rfl | rfl
  ·exact .inl rfl
  ·exact .inr (wI h _).1
  ·exact .inr (wI h _).1
  ·exact .inl rfl
 ·have hj:j<4:=(mG.1 he).1
  have:j=0\/j=1\/j=2\/j=3:=by omega
  rcases this with rfl | rfl | rfl | rfl
  ·left; simp [semEvents] at he; subst he; rfl
  ·right; simp [semEvents,deafBehind]
  ·right; simp [semEvents,deafBehind]
  ·left; simp [semEvents] at he; subst he; rfl
theorem kg {S2:Nat->Prop} (w:World):Eff S2 w w:=⟨rfl,rfl,rfl,.refl _,fun _ _=>rfl⟩
theorem kr {S2:Nat->Prop} {w:World} {a:Addr} (h:S2 a.block) (v:Value):Eff S2 w (w.setCell a v):=⟨rfl,rfl,by simp [World.setCell],.refl _,fun b hb=>by
 have hne:a.block≠b:=fun e=>hb (e ▸ h)
 simp only [World.setCell]
 rw [Array.getElem?_modify,if_neg hne]⟩
variable {y:Sy P} {main:Bool} {Ch:Nat->Goroutine->Hp->Prop} {k i:Nat} {T T':TT} {x:Nat->Bool}
variable {φ0:Nat->Loc3} {kdf:CallKind} {hkd:kdf≠.early} {f:FuncId} {cs:List Frame} {de:List Deferred} {A0:List AObj} {K0:List Nat} {ds:List Nat} {kk:List Item} {env env':List AV} {K:KV} {ops:Array Oper} {q:Nat} {rest:List Nat} {o:Oper}
def Sy.Sf (y:Sy P) (main:Bool) (Ch:Nat->Goroutine->Hp->Prop) (k i:Nat) (T:TT) (x:Nat->Bool):Goroutine->Hp->Prop:=Seg P main false (LiveS y.A y.sh) (y.At main Ch k i T x)
theorem Sy.shutF (y:Sy P) (main:Bool) (Ch:Nat->Goroutine->Hp->Prop) (k i:Nat) (T:TT) (x:Nat->Bool):zo P main (y.Sf main Ch k i T x):=zgx
theorem Sy.sf_iff (y:Sy P) {main:Bool} {Ch:Nat->Goroutine->Hp->Prop} {k i:Nat} {T:TT} {x:Nat->Bool} {g:Goroutine} {H:Hp} (h:y.A.aft T=false):Seg P main (y.A.aft T) (LiveS y.A y.sh) (y.At main Ch k i T x) g H↔y.Sf main Ch k i T x g H:=by
 rw [h]; exact Iff.rfl
abbrev YT (y:Sy P) (main:Bool) (Ch:Nat->Goroutine->Hp->Prop) (k i:Nat) (T:TT) (x:Nat->Bool) (gm:Nat->Option Nat) (φ0:Nat->Loc3) (kdf:CallKind) (hkd:kdf≠.early) (f:FuncId) (cs:List Frame) (de:List Deferred) (A0:List AObj) (K0:List Nat):KX P gm (y.Sf main Ch k i T x) :=
 YU (y.shutF main Ch k i T x) gm φ0 kdf hkd f cs de A0 K0
theorem TK.book (hk:kd T=.book) (hwk:y.A.wk T->∀ ts dd,mayWake P (G (fr kdf f none ts dd (.inRegion ops (q::rest)::kk)) cs)=true)
  (h:∀ (w:World) (s:S4) (ts:Array Value) (dd:List Deferred) (φ:Nat->Loc3) (n:Nat),RelG gm φ n->zG φ n env ts->y.sh w s->ok4 T s ->
   (bl4 T s/\stepG P main (G (fr kdf f none ts dd (.inRegion ops (q::rest)::kk)) cs) w=.go { G (fr kdf f none ts dd (.inRegion ops (q::rest)::kk)) cs with status:=.blocked } w #[]) \/
   (¬ bl4 T s/\∃ T' s' v w' es,Mv4 y.n T s T' s'/\stepG P main (G (fr kdf f none ts dd (.inRegion ops (q::rest)::kk)) cs) w=.go (G (fr kdf f none (putT ts o.dst v) dd (.inRegion ops rest::kk)) cs) w' es/\Eff y.S2 w w'/\y.sh w' s'/\EvB main y.S2 (dl T) (dl T') es/\kd T'≠.quit /\
    y.A.aft T'=false/\∀ k',k'<k->TK (YT y main Ch k' i T' x gm φ0 kdf hkd f cs de A0 K0) ds (.inRegion ops rest::kk) (zO env o.dst (.v v)) K)) :
  TK (YT y main Ch k i T x gm φ0 kdf hkd f cs de A0 K0) ds (.inRegion ops (q::rest)::kk) env K:=by
 intro A hA φ H ts h1 h2 h3 h4 h5 h6
 show y.Sf main Ch k i T x _ _
 refine .stop ?_
 cases k with
 | zero=>trivial
 | succ k' =>
  refine ⟨rfl,rfl,fun hw=>hwk hw ts _,?_⟩
  have hk':y.A.kd T=.book:=hk
  rw [hk']
  intro w s hf hsh hok
  rcases h w s ts (dsC φ ds++de) φ A.length h3 h6 hsh hok with ⟨hb,hst⟩ | ⟨hb,T',s',v,w',es,m1,m2,m3,m4,m5,m6,hT',m7⟩
  ·exact ⟨fun _=>hst,fun hn=>absurd hb hn⟩
  ·refine ⟨fun hb'=>absurd hb' hb,fun _=>⟨T',s',_,w',es,m1,m2,m3,m4,m5,.inr ⟨m6,rfl,(y.sf_iff hT').2 ?_⟩⟩⟩
   have hE:=yn (a:=⟨ts,[]⟩) h6 (RelV.v (φ:=φ) (n:=A.length) v) o.dst
   have:=m7 k' (Nat.lt_succ_self _) A ⟨hA.view,hA.nd,hA.own,hA.kept,hA.len⟩ φ H (putT ts o.dst v) h1 h2 h3 h4 h5 hE
   exact this
end
class Ext (P:Program) (g:FuncId) (e:outParam (Array Value->Sem Value)):Prop where
 h:∃ fn,P.funcs[g]? =some fn/\(fn.name == "runtime.NumGoroutine")=false/\fn.body.isNone=true/\Extern.findNext fn=none/\Extern.find fn=some e
class ExtQ (P:Program) (g:FuncId):Prop where
 h:∀ fn,P.funcs[g]? =some fn->fn.norace=true
section
variable {P:Program} {gm:Nat->Option Nat} {y:Sy P} {main:Bool} {Ch:Nat->Goroutine->Hp->Prop} {k i:Nat} {T T':TT} {x:Nat->Bool}
variable {φ0:Nat->Loc3} {kdf:CallKind} {hkd:kdf≠.early} {f:FuncId} {cs:List Frame} {de:List Deferred} {A0:List AObj} {K0:List Nat} {ds:List Nat} {kk:List Item} {env env':List AV} {K:KV} {ops:Array Oper} {q:Nat} {rest:List Nat} {o:Oper}
theorem ev_v {φ:Nat->Loc3} {n:Nat} {ts:Array Value} {dd:List Deferred} {c:Operand} {z:Value} (h3:RelG gm φ n) (h6:zG φ n env ts) (h:zn gm env c=some (.v z)):(⟨ts,dd⟩:Act).eval c=z:=by
 have:=zz (a:=⟨ts,[]⟩) h3 h6 c
 rw [zx h] at this
 have:=inv_v this
 rw [yG] at this ⊢
 exact this
theorem za9 {t:TypeId} {W:Nat} {w:World} {a b:Int} (h:WgAt t W w a b) {l:Addr} (hne:l.block≠W) (v:Value):WgAt t W (w.setCell l v) a b:=by
 unfold WgAt at *
 simp only [World.setCell]
 rw [Array.getElem?_modify,if_neg hne]
 exact h
theorem mu_ne (l:Addr) (h:l.block=y.Mu):l.block≠y.Wg:=fun e=>y.hne (h.symm.trans e)
theorem TK.sMark {g:FuncId} {as0:Array Operand} {ats:Array TypeId} {e:Array Value->Sem Value} (T':TT) (m:Mark) (hm:∀ g,m≠.extern g) [hx:Ext P g e] (ho:ops[q]? =some o) (hop:o.op=.call { callee:=.value (.func g),args:=as0,argTypes:=ats }) (hw:zK ops env o=some true)
  (hmv:∀ s,ok4 T s->Mv4 y.n T s T' s) (hev:EvB main y.S2 (dl T) (dl T') #[mk m]) (hT':y.A.aft T'=false) (h:∀ k',k'<k->TK ((YT y main Ch) k' i T' x gm φ0 kdf hkd f cs de A0 K0) ds (.inRegion ops rest::kk) env' K)
  (he:e=(fun _=>do mark m; pure Extern.Race.none_):=by rfl) (hk:kd T=.book:=by rfl) (hk':kd T'≠.quit:=by exact fun h=>by cases h) (hb:∀ s,¬ bl4 T s:=by exact fun _ h=>by cases h.1) (hwk:¬ y.A.wk T:=by exact fun h=>by cases h <;> rename_i h <;> cases h) (hd:zO env o.dst (.v (.tuple #[]))=env':=by exact zu rfl tQ) :
  TK ((YT y main Ch) k i T x gm φ0 kdf hkd f cs de A0 K0) ds (.inRegion ops (q::rest)::kk) env K:=by
 refine TK.book (o:=o) hk (fun h=>absurd h hwk) fun w s ts dd φ n hg hE hsh hok=>.inr ⟨hb s,T',s,.tuple #[],w,_,hmv s hok,?_,kg w,hsh,hev,hk',hT',fun k' hk''=>by rw [hd]; exact h k' hk''⟩
 obtain ⟨fn,e1,e2,e3,e4,e5⟩:=hx.h
 subst he
 rw [fr_at,stepG_mark0 (b:=bf kdf f) (a:=⟨ts,dd⟩) m hm ho (zJ (ts:=ts) hE hw) hkd hop e1 e2 e3 e4 e5,yc]; rfl
theorem TK.sLoad {ty:TypeId} {c:Operand} (Tn:Nat->TT) (ho:ops[q]? =some o) (hop:o.op=.load ty c) (hw:zK ops env o=some true) (hc:zn gm env c=some (.v (.pointer (some (muA y.Mu)))))
  (hld:∀ (ev:Operand->Value) (w:World) (a:Addr) (v:Value),ev c=.pointer (some a)->w.cell? a=some v->(execOp ev o).run P w=.ok (.value v) w/\(execOp ev o).events P w #[]=#[⟨.cell a,false,false⟩]) (hnr:(P.funcs[f]?).any (·.norace)=true)
  (hmv:∀ s,ok4 T s->Mv4 y.n T s (Tn s.mu) s) (hdl:∀ v,dl (Tn v)=dl T) (hT':∀ v,y.A.aft (Tn v)=false) (hk':∀ v,kd (Tn v)≠.quit) (h:∀ (s:S4),ok4 T s->∀ k',k'<k->TK ((YT y main Ch) k' i (Tn s.mu) x gm φ0 kdf hkd f cs de A0 K0) ds (.inRegion ops rest::kk) (zO env o.dst (.v (.int .i32 s.mu))) K)
  (hk:kd T=.book:=by rfl) (hb:∀ s,¬ bl4 T s:=by exact fun _ h=>by cases h.1) (hwk:¬ y.A.wk T:=by exact fun h=>by cases h <;> rename_i h <;> cases h) :
  TK ((YT y main Ch) k i T x gm φ0 kdf hkd f cs de A0 K0) ds (.inRegion ops (q::rest)::kk) env K:=by
 refine TK.book (o:=o) hk (fun h=>absurd h hwk) fun w s ts dd φ n hg hE hsh hok=>.inr ⟨hb s,Tn s.mu,s,.int .i32 s.mu,w,#[],hmv s hok,?_,kg w,hsh,by rw [hdl]; exact vk _,hk' _,hT' _,fun k' hk''=>h s hok k' hk''⟩
 obtain ⟨h1,h2⟩:=hld (evT ts) w _ _ (ev_v hg hE hc) hsh.1.cellSt
 rw [fr_at,stepG_value (b:=bf kdf f) (a:=⟨ts,dd⟩) (v:=.int .i32 s.mu) (w':=w) ho (zJ (ts:=ts) hE hw) hkd (by rw [yG]; exact h1),yc]
 congr 1
 unfold listed
 rw [yG,h2,seen_def]
 show _=#[]
 have:(bf kdf f).fn=f:=rfl
 rw [this]
 simp [seenStep,hnr]
theorem TK.sCas {g:FuncId} {ca cb cc:Operand} {ats:Array TypeId} {e:Array Value->Sem Value} (Th Tm:TT) (old new:Nat) [hx:Ext P g e] (ho:ops[q]? =some o) (hop:o.op=.call { callee:=.value (.func g),args:=#[ca,cb,cc],argTypes:=ats }) (hw:zK ops env o=some true)
  (h1:zn gm env ca=some (.v (.pointer (some (muA y.Mu))))) (h2:zn gm env cb=some (.v (.int .i32 (old:Nat)))) (h3:zn gm env cc=some (.v (.int .i32 (new:Nat))))
  (hmh:∀ s,ok4 T s->s.mu=old->Mv4 y.n T s Th { s with mu:=new }) (hmm:∀ s,ok4 T s->s.mu≠old->Mv4 y.n T s Tm s) (hdl:0<dl T/\dl Th=dl T/\dl Tm=dl T) (hTh:y.A.aft Th=false) (hTm:y.A.aft Tm=false) (hkh:kd Th≠.quit) (hkm:kd Tm≠.quit)
  (hh:∀ k',k'<k->TK ((YT y main Ch) k' i Th x gm φ0 kdf hkd f cs de A0 K0) ds (.inRegion ops rest::kk) (zO env o.dst (.v (.bool true))) K) (hmiss:∀ k',k'<k->TK ((YT y main Ch) k' i Tm x gm φ0 kdf hkd f cs de A0 K0) ds (.inRegion ops rest::kk) (zO env o.dst (.v (.bool false))) K)
  (he:e=Extern.Atomic.casT (.int .i32):=by rfl) (hk:kd T=.book:=by rfl) (hb:∀ s,¬ bl4 T s:=by exact fun _ h=>by cases h.1) (hwk:¬ y.A.wk T:=by exact fun h=>by cases h <;> rename_i h <;> cases h) :
  TK ((YT y main Ch) k i T x gm φ0 kdf hkd f cs de A0 K0) ds (.inRegion ops (q::rest)::kk) env K:=by
 refine TK.book (o:=o) hk (fun h=>absurd h hwk) fun w s ts dd φ n hg hE hsh hok=>.inr ⟨hb s,?_⟩
 obtain ⟨fn,e1,e2,e3,e4,e5⟩:=hx.h
 subst he
 by_cases hc:s.mu=old
 ·refine ⟨Th,{ s with mu:=new },.bool true,_,_,hmh s hok hc,?_,kr (.inl Z) _,⟨hsh.1.setSt _,?_⟩,by rw [hdl.2.1]; exact vO hdl.1 (a:=muA y.Mu) (.inl Z),hkh,hTh,hh⟩
  ·rw [fr_at,stepG_cas_hit (b:=bf kdf f) (a:=⟨ts,dd⟩) ho (zJ (ts:=ts) hE hw) hkd hop e1 e2 e3 e4 .i32 e5 (ad:=muA y.Mu) (v:=(old:Nat)) (n:=(new:Nat)) (ev_v hg hE h1) (ev_v hg hE h2) (ev_v hg hE h3) (by rw [hsh.1.cellSt,hc]) (hsh.1.thaw 0),yc]; rfl
  ·exact za9 hsh.2 (mu_ne (muA y.Mu) rfl) _
 ·refine ⟨Tm,s,.bool false,w,_,hmm s hok hc,?_,kg w,hsh,by rw [hdl.2.2]; exact evb_r hdl.1 (a:=muA y.Mu) (.inl Z),hkm,hTm,hmiss⟩
  rw [fr_at,stepG_cas_miss (b:=bf kdf f) (a:=⟨ts,dd⟩) ho (zJ (ts:=ts) hE hw) hkd hop e1 e2 e3 e4 .i32 e5 (ad:=muA y.Mu) (v:=(s.mu:Nat)) (old:=(old:Nat)) (n:=(new:Nat)) (ev_v hg hE h1) (ev_v hg hE h2) (ev_v hg hE h3) hsh.1.cellSt (hsh.1.thaw 0) oQ,yc]; rfl
theorem TK.sAdd {g:FuncId} {ca cb:Operand} {ats:Array TypeId} {e:Array Value->Sem Value} (d:Int) (new:Nat->Nat) (Tn:Nat->TT) [hx:Ext P g e] (ho:ops[q]? =some o) (hop:o.op=.call { callee:=.value (.func g),args:=#[ca,cb],argTypes:=ats }) (hw:zK ops env o=some true)
  (h1:zn gm env ca=some (.v (.pointer (some (muA y.Mu))))) (h2:zn gm env cb=some (.v (.int .i32 d)))
  (hnew:∀ s,ok4 T s->IntKind.i32.wrap ((s.mu:Int)+d)=(new s.mu:Nat)) (hmv:∀ s,ok4 T s->Mv4 y.n T s (Tn s.mu) { s with mu:=new s.mu }) (hdl:0<dl T/\∀ v,dl (Tn v)=dl T) (hT':∀ v,y.A.aft (Tn v)=false) (hk':∀ v,kd (Tn v)≠.quit)
  (h:∀ (s:S4),ok4 T s->∀ k',k'<k->TK ((YT y main Ch) k' i (Tn s.mu) x gm φ0 kdf hkd f cs de A0 K0) ds (.inRegion ops rest::kk) (zO env o.dst (.v (.int .i32 (new s.mu:Nat)))) K)
  (he:e=Extern.Atomic.update (Op.intArith .add) .i32 true:=by rfl) (hk:kd T=.book:=by rfl) (hb:∀ s,¬ bl4 T s:=by exact fun _ h=>by cases h.1) (hwk:¬ y.A.wk T:=by exact fun h=>by cases h <;> rename_i h <;> cases h) :
  TK ((YT y main Ch) k i T x gm φ0 kdf hkd f cs de A0 K0) ds (.inRegion ops (q::rest)::kk) env K:=by
 refine TK.book (o:=o) hk (fun h=>absurd h hwk) fun w s ts dd φ n hg hE hsh hok=>.inr ⟨hb s,?_⟩
 obtain ⟨fn,e1,e2,e3,e4,e5⟩:=hx.h
 subst he
 refine ⟨Tn s.mu,{ s with mu:=new s.mu },.int .i32 (new s.mu:Nat),_,_,hmv s hok,?_,kr (a:=muA y.Mu) (.inl Z) (.int .i32 (new s.mu:Nat)),⟨hsh.1.setSt _,?_⟩,by rw [hdl.2]; exact vO hdl.1 (a:=muA y.Mu) (.inl Z),hk' _,hT' _,fun k' hk''=>h s hok k' hk''⟩
 ·rw [fr_at,stepG_add_atomic (b:=bf kdf f) (a:=⟨ts,dd⟩) ho (zJ (ts:=ts) hE hw) hkd hop e1 e2 e3 e4 .i32 e5 (ad:=muA y.Mu) (v:=(s.mu:Nat)) (d:=d) (ev_v hg hE h1) (ev_v hg hE h2) hsh.1.cellSt (hsh.1.thaw 0),yc,hnew s hok]; rfl
 ·exact za9 hsh.2 (mu_ne (muA y.Mu) rfl) _
theorem TK.sSem {g:FuncId} {as0:Array Operand} {ats:Array TypeId} {e:Array Value->Sem Value} {Tw:Th} (T':TT) [hx:Ext P g e] (ho:ops[q]? =some o) (hop:o.op=.call { callee:=.value (.func g),args:=as0,argTypes:=ats }) (hw:zK ops env o=some true) (hpc:Tw.pc=.s1)
  (h1:∀ c,as0[0]? =some c->zn gm env c=some (.v (.pointer (some (msA y.Mu))))) (h0:as0[0]?.isSome=true)
  (hmv:∀ s,ok4 (.w Tw) s->s.ms≠0->Mv4 y.n (.w Tw) s T' { s with ms:=s.ms - 1 }) (hdl:dl (.w Tw)=1/\dl T'=1) (hT':y.A.aft T'=false) (hk':kd T'≠.quit)
  (h:∀ k',k'<k->TK ((YT y main Ch) k' i T' x gm φ0 kdf hkd f cs de A0 K0) ds (.inRegion ops rest::kk) env' K)
  (he:e=Extern.Sync.semacquire:=by rfl) (hd:zO env o.dst (.v (.tuple #[]))=env':=by exact zu rfl tQ) :
  TK ((YT y main Ch) k i (.w Tw) x gm φ0 kdf hkd f cs de A0 K0) ds (.inRegion ops (q::rest)::kk) env K:=by
 refine TK.book (o:=o) (by simp [kd,Mx.kdW,hpc]) (fun h=>by rcases h with h | h <;> (rw [hpc] at h; cases h)) fun w s ts dd φ n hg hE hsh hok=>?_
 obtain ⟨fn,e1,e2,e3,e4,e5⟩:=hx.h
 subst he
 obtain ⟨c,hc⟩:=Option.isSome_iff_exists.1 h0
 have hx0:(as0.map (⟨ts,dd⟩:Act).eval)[0]? =some (.pointer (some (msA y.Mu))):=by
  rw [mJ,hc,yG]
  exact congrArg some (ev_v hg hE (h1 c hc))
 by_cases hz:s.ms=0
 ·left
  refine ⟨⟨hpc,hz⟩,?_⟩
  rw [fr_at,stepG_semacquire_wait (b:=bf kdf f) (a:=⟨ts,dd⟩) ho (zJ (ts:=ts) hE hw) hop e1 e2 e3 e4 e5 hx0 (by rw [hsh.1.cellSm,hz]; rfl)]
 ·right
  refine ⟨fun hb=>hz hb.2,T',{ s with ms:=s.ms - 1 },.tuple #[],_,_,hmv s hok hz,?_,kr (a:=msA y.Mu) (.inl rfl) (.int .u32 ((s.ms:Int) - 1)),⟨?_,?_⟩,by rw [hdl.1,hdl.2]; exact u9 oQ (a:=msA y.Mu) (.inl rfl),hk',hT',fun k' hk''=>by rw [hd]; exact h k' hk''⟩
  ·rw [fr_at,stepG_semacquire (b:=bf kdf f) (a:=⟨ts,dd⟩) ho (zJ (ts:=ts) hE hw) hkd hop e1 e2 e3 e4 e5 hx0 hsh.1.cellSm oQ (hsh.1.thaw 1),yc]; rfl
  ·have:=hsh.1.setSm ((s.ms:Int) - 1)
   rw [show ((s.ms:Int) - 1)=((s.ms - 1:Nat):Int) by omega] at this ⊢
   exact this
  ·exact za9 hsh.2 (mu_ne (msA y.Mu) rfl) _
theorem TK.sRel {g:FuncId} {as0:Array Operand} {ats:Array TypeId} {e:Array Value->Sem Value} {Tw:Th} (T':TT) [hx:Ext P g e] (ho:ops[q]? =some o) (hop:o.op=.call { callee:=.value (.func g),args:=as0,argTypes:=ats }) (hw:zK ops env o=some true) (hng:o.guard=none) (hpc:Tw.pc=.us)
  (h1:∀ c,as0[0]? =some c->zn gm env c=some (.v (.pointer (some (msA y.Mu))))) (h0:as0[0]?.isSome=true)
  (hmv:∀ s,ok4 (.w Tw) s->Mv4 y.n (.w Tw) s T' { s with ms:=s.ms+1 }) (hdl:dl (.w Tw)=1/\dl T'=1) (hT':y.A.aft T'=false) (hk':kd T'≠.quit)
  (h:∀ k',k'<k->TK ((YT y main Ch) k' i T' x gm φ0 kdf hkd f cs de A0 K0) ds (.inRegion ops rest::kk) env' K)
  (he:e=Extern.Sync.semrelease:=by rfl) (hd:zO env o.dst (.v (.tuple #[]))=env':=by exact zu rfl tQ) :
  TK ((YT y main Ch) k i (.w Tw) x gm φ0 kdf hkd f cs de A0 K0) ds (.inRegion ops (q::rest)::kk) env K:=by
 obtain ⟨fn,e1,e2,e3,e4,e5⟩:=hx.h
 refine TK.book (o:=o) (by simp [kd,Mx.kdW,hpc]) (fun _ ts dd=>Go.ConcR.Gen.mayWake_entry (b:=bf kdf f) (a:=⟨ts,dd⟩) ho hop e1 e3) fun w s ts dd φ n hg hE hsh hok=>?_
 subst he
 obtain ⟨c,hc⟩:=Option.isSome_iff_exists.1 h0
 have hx0:(as0.map (⟨ts,dd⟩:Act).eval)[0]? =some (.pointer (some (msA y.Mu))):=by
  rw [mJ,hc,yG]
  exact congrArg some (ev_v hg hE (h1 c hc))
 have hms:s.ms<=1:=hok.2.1
 have hwr:IntKind.u32.wrap ((s.ms:Int)+1)=((s.ms+1:Nat):Int):=by
  have:s.ms=0\/s.ms=1:=by omega
  rcases this with h | h <;> rw [h] <;> rfl
 right
 refine ⟨fun hb=>(by have:=hb.1; rw [hpc] at this; cases this),T',{ s with ms:=s.ms+1 },.tuple #[],_,_,hmv s hok,?_,kr (a:=msA y.Mu) (.inl rfl) (.int .u32 ((s.ms+1:Nat):Int)),⟨hsh.1.setSm _,?_⟩,by rw [hdl.1,hdl.2]; exact u9 oQ (a:=msA y.Mu) (.inl rfl),hk',hT',fun k' hk''=>by rw [hd]; exact h k' hk''⟩
 ·rw [fr_at,stepG_semrelease (b:=bf kdf f) (a:=⟨ts,dd⟩) ho (zJ (ts:=ts) hE hw) hkd hop e1 e2 e3 e4 e5 hx0 hsh.1.cellSm (hsh.1.thaw 1),yc,hwr]; rfl
 ·exact za9 hsh.2 (mu_ne (msA y.Mu) rfl) _
theorem TK.sTime {g:FuncId} {as0:Array Operand} {ats:Array TypeId} {e:Array Value->Sem Value} (Tn:Int->TT) [hx:Ext P g e] [hn:ExtQ P g] (ho:ops[q]? =some o) (hop:o.op=.call { callee:=.value (.func g),args:=as0,argTypes:=ats }) (hw:zK ops env o=some true)
  (hmv:∀ s t,ok4 T s->Mv4 y.n T s (Tn t) s) (hdl:∀ t,dl (Tn t)=dl T) (hT':∀ t,y.A.aft (Tn t)=false) (hk':∀ t,kd (Tn t)≠.quit) (h:∀ (t:Int),∀ k',k'<k->TK ((YT y main Ch) k' i (Tn t) x gm φ0 kdf hkd f cs de A0 K0) ds (.inRegion ops rest::kk) (zO env o.dst (.v (.int .i64 t))) K)
  (he:e=Extern.OsHooks.nano:=by rfl) (hk:kd T=.book:=by rfl) (hb:∀ s,¬ bl4 T s:=by exact fun _ h=>by cases h.1) (hwk:¬ y.A.wk T:=by exact fun h=>by cases h <;> rename_i h <;> cases h) :
  TK ((YT y main Ch) k i T x gm φ0 kdf hkd f cs de A0 K0) ds (.inRegion ops (q::rest)::kk) env K:=by
 refine TK.book (o:=o) hk (fun h=>absurd h hwk) fun w s ts dd φ n hg hE hsh hok=>.inr ⟨hb s,?_⟩
 obtain ⟨fn,e1,e2,e3,e4,e5⟩:=hx.h
 subst he
 refine ⟨Tn ((w.os.mono+w.tick:Nat):Int),s,.int .i64 ((w.os.mono+w.tick:Nat):Int),w.later,#[],hmv s _ hok,?_,⟨rfl,rfl,rfl,⟨w.tick,rfl⟩,fun _ _=>rfl⟩,hsh,by rw [hdl]; exact vk _,hk' _,hT' _,fun k' hk''=>h _ k' hk''⟩
 rw [fr_at,stepG_nanotime (b:=bf kdf f) (a:=⟨ts,dd⟩) ho (zJ (ts:=ts) hE hw) hkd hop e1 e2 e3 e4 e5 (hn.h _ e1),yc]; rfl
theorem TK.sSpin {g:FuncId} {c:Operand} {ats:Array TypeId} {e:Array Value->Sem Value} (Ty Tn:TT) (it:Nat) [hx:Ext P g e] (ho:ops[q]? =some o) (hop:o.op=.call { callee:=.value (.func g),args:=#[c],argTypes:=ats }) (hw:zK ops env o=some true) (h1:zn gm env c=some (.v (.int .i64 (it:Nat))))
  (hmy:∀ s,ok4 T s->it<4->Mv4 y.n T s Ty s) (hmn:∀ s,ok4 T s->Mv4 y.n T s Tn s) (hdl:dl Ty=dl T/\dl Tn=dl T) (hTy:y.A.aft Ty=false) (hTn:y.A.aft Tn=false) (hky:kd Ty≠.quit) (hkn:kd Tn≠.quit)
  (hy:it<4->∀ k',k'<k->TK ((YT y main Ch) k' i Ty x gm φ0 kdf hkd f cs de A0 K0) ds (.inRegion ops rest::kk) (zO env o.dst (.v (.bool true))) K) (hn:∀ k',k'<k->TK ((YT y main Ch) k' i Tn x gm φ0 kdf hkd f cs de A0 K0) ds (.inRegion ops rest::kk) (zO env o.dst (.v (.bool false))) K)
  (he:e=Extern.Sync.canSpin:=by rfl) (hk:kd T=.book:=by rfl) (hb:∀ s,¬ bl4 T s:=by exact fun _ h=>by cases h.1) (hwk:¬ y.A.wk T:=by exact fun h=>by cases h <;> rename_i h <;> cases h) :
  TK ((YT y main Ch) k i T x gm φ0 kdf hkd f cs de A0 K0) ds (.inRegion ops (q::rest)::kk) env K:=by
 refine TK.book (o:=o) hk (fun h=>absurd h hwk) fun w s ts dd φ n hg hE hsh hok=>.inr ⟨hb s,?_⟩
 obtain ⟨fn,e1,e2,e3,e4,e5⟩:=hx.h
 subst he
 have hm:(#[c]:Array Operand).map (⟨ts,dd⟩:Act).eval=#[.int .i64 (it:Nat)]:=by
  simp [ev_v (dd:=dd) hg hE h1]
 by_cases h4:it<4
 ·by_cases hsp:w.spins=true
  ·refine ⟨Ty,s,.bool true,w.asked,#[],hmy s hok h4,?_,⟨rfl,rfl,rfl,.refl _,fun _ _=>rfl⟩,hsh,by rw [hdl.1]; exact vk _,hky,hTy,fun k' hk''=>hy h4 k' hk''⟩
   rw [fr_at,stepG_canSpin_ask (b:=bf kdf f) (a:=⟨ts,dd⟩) ho (zJ (ts:=ts) hE hw) hkd hop e1 e2 e3 e4 e5 hm oQ,yc,hsp]; rfl
  ·refine ⟨Tn,s,.bool false,w.asked,#[],hmn s hok,?_,⟨rfl,rfl,rfl,.refl _,fun _ _=>rfl⟩,hsh,by rw [hdl.2]; exact vk _,hkn,hTn,hn⟩
   rw [fr_at,stepG_canSpin_ask (b:=bf kdf f) (a:=⟨ts,dd⟩) ho (zJ (ts:=ts) hE hw) hkd hop e1 e2 e3 e4 e5 hm oQ,yc,(Bool.not_eq_true _).mp hsp]; rfl
 ·refine ⟨Tn,s,.bool false,w,#[],hmn s hok,?_,kg w,hsh,by rw [hdl.2]; exact vk _,hkn,hTn,hn⟩
  rw [fr_at,stepG_canSpin_no (b:=bf kdf f) (a:=⟨ts,dd⟩) ho (zJ (ts:=ts) hE hw) hkd hop e1 e2 e3 e4 e5 hm oQ,yc]; rfl
end
end Go.Vel
namespace Go.Vel
open Go Go.Conc
open Go.ConcN (sumTo upd upd_ne upd_same)
open Go.ConcM (OsLater MuAt muA msA)
open Go.ConcR (KK wgBlock WgAt stA smA mk rd wr)
open Mx (TT Th Mn S4 auto Mv4 ok4 bl4 kd dl MPc Pc okW okM Mv nx4)
section
variable {P:Program} {gm:Nat->Option Nat} {main:Bool}
def CallS (P:Program) (gm:Nat->Option Nat) (lo:Nat×Loc3) (T:Goroutine->Hp->Prop) (g:FuncId) (args:List AV) (K:KV) (R:AV->KV->(Goroutine->Hp->Prop)->Prop):Prop :=
 ∀ A,zM K A->(keys K).Nodup->∀ (φ:Nat->Loc3) (H:Hp) (vs:Array Value) (c:Frame) (cs:List Frame),lo.1<A.length->φ lo.1=lo.2->RelG gm φ A.length->RelH φ A nF H->zG φ A.length args vs ->
  (∀ r K' T' A' φ' H' v,R r K' T'->Kstep K A K' A'->Agr φ φ' A.length->A.length<=A'.length->RelH φ' A' nF H'->RelV φ' A'.length r v->T' (G (c.finish v) cs) H')->T (G (Frame.enter P g vs .normal) (c::cs)) H
theorem ze:CallKind.normal≠.early:=fun h=>by cases h
theorem kY (n:Nat) {T:Goroutine->Hp->Prop} (hT:zo P main T) {lo:Nat×Loc3} {g:FuncId} {fn:Func} {c:Code} {args:List AV} {K:KV} {R:AV->KV->(Goroutine->Hp->Prop)->Prop} (hf:P.funcs[g]? =some fn)
  (h:∀ (φ0:Nat->Loc3) (c0:Frame) (cs:List Frame) (A0:List AObj),lo.1<A0.length->φ0 lo.1=lo.2->(∀ {T'} {hT':zo P main T'},RetK (YU hT' gm φ0 .normal ze g (c0::cs) [] A0 (keys K)) fn.results.toList fun r K'=>R r K' T') ->
   TK (YU hT gm φ0 .normal ze g (c0::cs) [] A0 (keys K)) [] [.code c] (args++mB (n - args.length) .any) K) (hb:fn.body=some c:=by rfl) (hn:fn.ntmps=n:=by rfl):CallS P gm lo T g args K R:=by
 subst hn
 intro A hv hnd φ H vs c0 cs hl1 hl2 hg hH hargs hfin
 rw [kL vs hf hb]
 refine h φ c0 cs A hl1 hl2 ?_ A ⟨hv,hnd,fun i hi=>.inl hi,fun _ _ _=>rfl,mL _⟩ φ H _ (Agr.refl _ _) (mL _) hg (fun d hd=>by cases hd) hH (yR hargs _)
 intro T' hT' j env K' K'' D r hj hs hres hp A' hA' φ' H' ts k hl ha hlen hg' _ hH' hE
 obtain ⟨hv2,hn2⟩:=hs.view hA'.view hA'.nd
 have hk:Kstep K A K'' A':=⟨hv2,hn2,fun t ht=>hA'.own t ((zT hs.perm).symm.subset (by rw [ya]; exact lV _ ht)),hA'.kept,hA'.len⟩
 have hleave:T' (G { fr .normal g none ts [] k with mode:=.returning } (c0::cs)) H':=hT'.leaveF hf (km hH' hE (hres A' hA'.view) fun y hy=>hfin r K'' T' A' φ' H' y hp hk ha hlen hH' hy)
 cases hl with
 | fin=>exact hT'.ctlF rfl (fun _=>wz) rfl hleave
 | ret k=>exact hT'.ctlF rfl (fun _=>wU) rfl hleave
 | exit id k _=>rcases hj with hj | hj <;> cases hj
variable {φ0:Nat->Loc3} {kdf:CallKind} {hkd:kdf≠.early} {f:FuncId} {cs:List Frame} {de:List Deferred} {A0:List AObj} {K0:List Nat} {ds:List Nat} {kk:List Item} {env env':List AV} {K:KV} {ops:Array Oper} {q:Nat} {rest:List Nat} {o:Oper}
theorem TK.callS {T:Goroutine->Hp->Prop} {hT:zo P main T} {lo:Nat×Loc3} {fo:Operand} {ars:Array Operand} {at_:Array TypeId} {g:FuncId} {args:List AV} {Kf Rr:KV} {R:AV->KV->(Goroutine->Hp->Prop)->Prop} (ho:ops[q]? =some o) (hop:o.op=.call { callee:=.value fo,args:=ars,argTypes:=at_ })
  (hf:zn gm env fo=some (.fn g [] [])) (hargs:ars.toList.map (zI gm env)=args) (hc:CallS P gm lo T g args Kf R) (hl1:lo.1<A0.length) (hl2:φ0 lo.1=lo.2)
  (h:∀ r K' T',R r K' T'->∃ hT':zo P main T',TK (YU hT' gm φ0 kdf hkd f cs de A0 K0) ds (.inRegion ops rest::kk) (zO env o.dst r) (K'++Rr))
  (hs:Split K Kf Rr:=by repeat (first | exact Split.none _ | exact Split.all _ | (apply Split.rem; repeat (first | exact Rem.head | apply Rem.tail)) | apply Split.right)) (hw:zK ops env o=some true:=by rfl) (hg:yi P g=true:=by exact Cal.h) :
  TK (YU hT gm φ0 kdf hkd f cs de A0 K0) ds (.inRegion ops (q::rest)::kk) env K:=by
 intro A hA φ H ts h1 h2 h3 h4 h5 h6
 refine hT.opF hkd ho (zJ h6 hw) (by rw [hop]; rfl) ?_
 have hfo:=zz (a:=⟨ts,[]⟩) h3 h6 fo
 rw [zx hf] at hfo
 obtain ⟨xs,ys,e,hr1,hr2⟩:=vm hfo
 have ex:xs=#[]:=Array.eq_empty_of_size_eq_zero (by have:=hr1.1; simpa using this.symm)
 have ey:ys=#[]:=Array.eq_empty_of_size_eq_zero (by have:=hr2.1; simpa using this.symm)
 subst ex ey
 unfold execOp
 rw [hop]
 dsimp only
 refine zd _ _ _ ?_
 show wpS P (Deferred.ofValue (Act.eval ⟨ts,[]⟩ fo) (ars.map (evT ts))) H _
 rw [e]
 show wpS P (callFunc g ((#[]++ars.map (evT ts))++#[])) H _
 refine kv hg _ ?_
 have hp:=hs.perm
 have hnd:=(zT hp).nodup_iff.1 hA.nd
 rw [ya] at hnd
 have hnd':=List.nodup_append.1 hnd
 have hR:zM Rr A:=hA.view.sub fun x hx=>hp.symm.subset (by simp [hx])
 have hRl:∀ x∈Rr,x.1<A.length/\x.1∉keys Kf:=fun x hx=>⟨hR.lt (yo hx),fun hm=>hnd'.2.2 x.1 hm x.1 (yo hx) rfl⟩
 have hl1':lo.1<A.length:=mM hl1 hA.len
 have hrel:zG φ A.length args ((#[]++ars.map (evT ts))++#[]):=by
  rw [<- hargs]
  have hm:=kC (a:=⟨ts,[]⟩) h3 h6 ars
  rw [yG] at hm
  simpa using hm
 refine hc A (hA.view.sub fun x hx=>hp.symm.subset (by simp [hx])) hnd'.1 φ H _ _ cs hl1' ((h1 _ hl1).trans hl2) h3 h5 hrel fun r K' T' A' φ' H' v hp' hk hag hlen hH' hr=>?_
 obtain ⟨hT',hh⟩:=h r K' T' hp'
 have hfin:=yT kdf f none ts (dsC φ ds++de) ops q rest kk v
 simp only [ho,Option.bind_some] at hfin
 show T' (G ((fr kdf f none ts (dsC φ ds++de) (.inRegion ops (q::rest)::kk)).finish v) cs) H'
 rw [hfin]
 have hE:=yn (a:=⟨ts,[]⟩) (h6.mono hag hlen) hr o.dst
 have hds:dsC φ' ds=dsC φ ds:=by
  unfold dsC
  refine mA fun d hd'=>?_
  rw [hag d (h4 d hd')]
 have hst:Kstep K A (K'++Rr) A':=by
  refine ⟨fun x hx=>?_,?_,fun j hj=>?_,fun j hj hn=>?_,hk.len⟩
  ·rcases lT.1 hx with hx | hx
   ·exact hk.view x hx
   ·rw [hk.kept _ (hRl x hx).1 (hRl x hx).2]; exact hR x hx
  ·rw [ya]
   refine List.nodup_append.2 ⟨hk.nd,hnd'.2.1,fun a ha b hb e=>?_⟩
   subst e
   obtain ⟨x,hx,rfl⟩:=lY.1 hb
   rcases hk.own _ ha with h1 | h1
   ·exact (hRl x hx).2 h1
   ·have:=(hRl x hx).1; omega
  ·rw [ya] at hj
   rcases lT.1 hj with hj | hj
   ·rcases hk.own j hj with h1 | h1
    ·exact .inl ((zT hp).symm.subset (by rw [ya]; exact lV _ h1))
    ·exact .inr h1
   ·exact .inl ((zT hp).symm.subset (by rw [ya]; exact List.mem_append_right _ hj))
  ·exact hk.kept j hj fun hm=>hn ((zT hp).symm.subset (by rw [ya]; exact lV _ hm))
 have hA':=hA.step hst
 have:=hh A' ⟨hA'.view,hA'.nd,hA'.own,hA'.kept,hA'.len⟩ φ' H' _ (h1.trans hag hA.len) (mT hA.len hlen) (h3.mono hag hlen) (fun d hd=>mM (h4 d hd) hlen) hH' hE
 rw [hds] at this
 exact this
variable {y:Sy P} {Ch:Nat->Goroutine->Hp->Prop} {k i:Nat} {T:TT} {x:Nat->Bool}
theorem TK.acqL {g:FuncId} {c:Operand} {ats:Array TypeId} {e:Array Value->Sem Value} {lo:Nat×Loc3} [hx:Ext P g e] (ho:ops[q]? =some o) (hop:o.op=.call { callee:=.value (.func g),args:=#[c],argTypes:=ats }) (hc:zn gm env c=some (.v (.pointer (some (muA y.Mu))))) (hk:kd T=.acqL) (hT':y.A.aft (nx4 y.n T)=false)
  {PL:(Nat->Bool)->KV->Prop} (hl1:lo.1<A0.length) (hl2:φ0 lo.1=lo.2)
  (hGI:∀ x' L A φ H,y.GI x' L->x' i=false->lo.1<A.length->φ lo.1=lo.2->zM K A->(keys K).Nodup->RelH φ A nF H->H.Dis L->Agrees H L->∃ φ' A' K',Agr φ φ' A.length/\A.length<=A'.length/\Kstep K A K' A'/\PL x' K'/\RelH φ' A' nF (H.join L))
  (h:∀ k' x' K',k'<k->x' i=false->PL x' K'->TK ((YT y main Ch) k' i (nx4 y.n T) x' gm φ0 kdf hkd f cs de A0 K0) ds (.inRegion ops rest::kk) env' K')
  (hw:zK ops env o=some true:=by rfl) (he:e=Extern.Race.marked .acquire:=by rfl) (hwk:¬ y.A.wk T:=by exact fun h=>by cases h <;> rename_i h <;> cases h) (hd:zO env o.dst (.v (.tuple #[]))=env':=by exact zu rfl tQ) :
  TK ((YT y main Ch) k i T x gm φ0 kdf hkd f cs de A0 K0) ds (.inRegion ops (q::rest)::kk) env K:=by
 intro A hA φ H ts h1 h2 h3 h4 h5 h6
 show y.Sf main Ch k i T x _ _
 refine .stop ?_
 cases k with
 | zero=>trivial
 | succ k' =>
  obtain ⟨fn,e1,e2,e3,e4,e5⟩:=hx.h
  subst he
  refine ⟨rfl,rfl,fun hw=>absurd hw hwk,?_⟩
  have hk':y.A.kd T=.acqL:=hk
  rw [hk']
  refine ⟨G (fr kdf f none (putT ts o.dst (.tuple #[])) (dsC φ ds++de) (.inRegion ops rest::kk)) cs,rfl,fun w hf=>?_,fun x' L hG hx' hD hAg=>?_⟩
  ·show stepG P main (G (fr kdf f none ts (dsC φ ds++de) _) cs) w=_
   rw [fr_at,stepG_markAt (b:=bf kdf f) (a:=⟨ts,dsC φ ds++de⟩) .acquire sQ ho (zJ (ts:=ts) h6 hw) hkd hop e1 e2 e3 e4 e5 (ad:=muA y.Mu) (by simp [ev_v (dd:=dsC φ ds++de) h3 h6 hc]),yc]
   rfl
  ·obtain ⟨φ',A',K',ha,hl,hst,hp,hH⟩:=hGI x' L A φ H hG hx' (mM hl1 hA.len) ((h1 _ hl1).trans hl2) hA.view hA.nd h5 hD hAg
   have hE:=yn (a:=⟨ts,[]⟩) (h6.mono ha hl) (RelV.v (φ:=φ') (n:=A'.length) (.tuple #[])) o.dst
   have hds:dsC φ' ds=dsC φ ds:=by
    unfold dsC
    exact mA fun d hd'=>by rw [ha d (h4 d hd')]
   rw [hd] at hE
   have hA':=hA.step hst
   have:=h k' x' K' (Nat.lt_succ_self _) hx' hp A' ⟨hA'.view,hA'.nd,hA'.own,hA'.kept,hA'.len⟩ φ' (H.join L) (putT ts o.dst (.tuple #[])) (h1.trans ha hA.len) (mT hA.len hl) (h3.mono ha hl) (fun d hd=>mM (h4 d hd) hl) hH hE
   rw [hds] at this
   exact this
def plainV:AV->AV | .v a=>.v a | _=>.any
theorem wS {φ φ':Nat->Loc3} {n:Nat} {ts:Array Value} (h:zG φ n env ts):zG φ' 0 (env.map plainV) ts:=by
 refine ⟨by rw [List.length_map]; exact h.1,fun j a y ha hy=>?_⟩
 rw [lQ] at ha
 cases e:env[j]? with
 | none=>rw [e] at ha; cases ha
 | some b =>
  rw [e] at ha
  cases ha
  have hb:=h.2 j b y e hy
  cases b with
  | v z=>rw [inv_v hb]; exact .v z
  | _=>exact .any _
theorem vt (φ:Nat->Loc3) (H:Hp):RelH φ [] nF H:=⟨fun i o h=>by simp at h,fun i j o o' h=>by simp at h,(fun b x h=>by cases h),fun i o h=>by simp at h⟩
theorem TK.relL {g:FuncId} {c:Operand} {ats:Array TypeId} {e:Array Value->Sem Value} {lo:Nat×Loc3} [hx:Ext P g e] (ho:ops[q]? =some o) (hop:o.op=.call { callee:=.value (.func g),args:=#[c],argTypes:=ats }) (hc:zn gm env c=some (.v (.pointer (some (muA y.Mu))))) (hk:kd T=.relL) (hT':y.A.aft (nx4 y.n T)=false)
  (hl1:lo.1<A0.length) (hl2:φ0 lo.1=lo.2) (hGI:∀ A φ H,lo.1<A.length->φ lo.1=lo.2->zM K A->(keys K).Nodup->RelH φ A nF H->∃ L',L'.Sub H/\y.GI (upd x i true) L')
  (h:∀ k',k'<k->TK ((YT y main Ch) k' i (nx4 y.n T) x (fun _=>none) φ0 kdf hkd f cs de [] []) [] (.inRegion ops rest::kk) env' [])
  (hw:zK ops env o=some true:=by rfl) (he:e=Extern.Race.marked .releaseMerge:=by rfl) (hwk:¬ y.A.wk T:=by exact fun h=>by cases h <;> rename_i h <;> cases h) (hd:zO (env.map plainV) o.dst (.v (.tuple #[]))=env':=by exact zu rfl (by simp only [List.map,plainV,List.set]; rfl)) :
  TK ((YT y main Ch) k i T x gm φ0 kdf hkd f cs de A0 K0) [] (.inRegion ops (q::rest)::kk) env K:=by
 intro A hA φ H ts h1 h2 h3 h4 h5 h6
 show y.Sf main Ch k i T x _ _
 refine .stop ?_
 cases k with
 | zero=>trivial
 | succ k' =>
  obtain ⟨fn,e1,e2,e3,e4,e5⟩:=hx.h
  subst he
  refine ⟨rfl,rfl,fun hw=>absurd hw hwk,?_⟩
  have hk':y.A.kd T=.relL:=hk
  rw [hk']
  obtain ⟨L',hs,hG⟩:=hGI A φ H (mM hl1 hA.len) ((h1 _ hl1).trans hl2) hA.view hA.nd h5
  refine ⟨G (fr kdf f none (putT ts o.dst (.tuple #[])) de (.inRegion ops rest::kk)) cs,fun _=>none,L',rfl,fun w hf=>?_,fun b rw' o' hb=>(by cases hb),hs,⟨fun b o' hb=>(by cases hb),fun b o' hb=>rfl⟩,hG,?_⟩
  ·show stepG P main (G (fr kdf f none ts de _) cs) w=_
   rw [fr_at,stepG_markAt (b:=bf kdf f) (a:=⟨ts,de⟩) .releaseMerge sQ ho (zJ (ts:=ts) h6 hw) hkd hop e1 e2 e3 e4 e5 (ad:=muA y.Mu) (by simp [ev_v (dd:=de) h3 h6 hc]),yc]
   rfl
  ·have hE:=yn (a:=⟨ts,[]⟩) (wS (φ':=φ0) h6) (RelV.v (φ:=φ0) (n:=0) (.tuple #[])) o.dst
   rw [hd] at hE
   exact h k' (Nat.lt_succ_self _) [] ⟨fun x hx=>(by cases hx),List.nodup_nil,fun i hi=>(by cases hi),fun _ _ _=>rfl,mL _⟩ φ0 (fun _=>none) (putT ts o.dst (.tuple #[])) (Agr.refl _ _) (mL _) (fun b j hb=>by cases hb) (fun d hd=>by cases hd) (vt _ _) hE
theorem TK.sPeek {ty:TypeId} {c:Operand} (ho:ops[q]? =some o) (hop:o.op=.load ty c) (hc:zn gm env c=some (.v (.pointer (some (muA y.Mu)))))
  (hld:∀ (ev:Operand->Value) (w:World) (a:Addr) (v:Value),ev c=.pointer (some a)->w.cell? a=some v->(execOp ev o).run P w=.ok (.value v) w/\(execOp ev o).events P w #[]=#[⟨.cell a,false,false⟩]) (hnr:(P.funcs[f]?).any (·.norace)=true)
  (h:∀ v:Nat,TK ((YT y main Ch) k i T x gm φ0 kdf hkd f cs de A0 K0) ds (.inRegion ops rest::kk) (zO env o.dst (.v (.int .i32 v))) K) (hw:zK ops env o=some true:=by rfl) :
  TK ((YT y main Ch) k i T x gm φ0 kdf hkd f cs de A0 K0) ds (.inRegion ops (q::rest)::kk) env K:=by
 intro A hA φ H ts h1 h2 h3 h4 h5 h6
 have key:∀ w s,y.sh w s->stepG P main (G (fr kdf f none ts (dsC φ ds++de) (.inRegion ops (q::rest)::kk)) cs) w=.go (G (fr kdf f none (putT ts o.dst (.int .i32 s.mu)) (dsC φ ds++de) (.inRegion ops rest::kk)) cs) w #[]:=fun w s hsh=>by
  obtain ⟨e1,e2⟩:=hld (evT ts) w _ _ (ev_v (dd:=dsC φ ds++de) h3 h6 hc) hsh.1.cellSt
  rw [fr_at,stepG_value (b:=bf kdf f) (a:=⟨ts,dsC φ ds++de⟩) (v:=.int .i32 s.mu) (w':=w) ho (zJ (ts:=ts) h6 hw) hkd (by rw [yG]; exact e1),yc]
  congr 1
  unfold listed
  rw [yG,e2,seen_def]
  show _=#[]
  have:(bf kdf f).fn=f:=rfl
  rw [this]
  simp [seenStep,hnr]
 show y.Sf main Ch k i T x _ _
 refine .step Z (fun w hf hl=>?_) fun w g' w' es hf hl he=>?_
 ·obtain ⟨s,hs⟩:=hl
  exact ⟨_,_,_,key w s hs,yF hf (fun e he=>by simp at he),rfl,fun h=>by cases h⟩
 ·obtain ⟨s,hs⟩:=hl
  have he':=(key w s hs).symm.trans he
  clear he
  rename _=>he
  cases he
  rw [yI hf]
  have hE:=yn (a:=⟨ts,[]⟩) h6 (RelV.v (φ:=φ) (n:=A.length) (.int .i32 s.mu)) o.dst
  have:=h s.mu A hA φ H _ h1 h2 h3 h4 h5 hE
  have h2':y.Sf main Ch k i T x (G (fr kdf f none (putT ts o.dst (.int .i32 s.mu)) (dsC φ ds++de) (.inRegion ops rest::kk)) cs) H:=this
  exact h2'
theorem TK.loopS {c:Code} {ι:Type} (Tf:ι->TT) (hTf:∀ b,y.A.aft (Tf b)=false) (I:ι->List AV->KV->Prop) (b0:ι) (h0:I b0 env K) (e0:T=Tf b0)
  (round:∀ k',k'<=k->∀ b env K,I b env K->(∀ k'' b' env' K',k''<k'->I b' env' K'->TK ((YT y main Ch) k'' i (Tf b') x gm φ0 kdf hkd f cs de A0 K0) ds (.inLoop c::kk) env' K')->TK ((YT y main Ch) k' i (Tf b) x gm φ0 kdf hkd f cs de A0 K0) ds (.code c::.inLoop c::kk) env K) :
  TK ((YT y main Ch) k i T x gm φ0 kdf hkd f cs de A0 K0) ds (.code (.loop c)::kk) env K:=by
 subst e0
 have key:∀ k',k'<=k->∀ b env K,I b env K->TK ((YT y main Ch) k' i (Tf b) x gm φ0 kdf hkd f cs de A0 K0) ds (.code c::.inLoop c::kk) env K:=by
  intro k'
  induction k' using Nat.strongRecOn with
  | _ k' ih =>
   intro hle b env K hI
   exact round k' hle b env K hI fun k'' b' env' K' hlt hI'=>TK.inLoop (ih k'' hlt oQ b' env' K' hI')
 exact fun A hA=>TA.loop (key k (mL _) b0 env K h0 A hA)
end
section
variable {P:Program} {gm:Nat->Option Nat} {env:List AV} {V:KV} {o:Oper}
theorem yC {op:BinOp} {t yt:TypeId} {x y:Operand} {k:IntKind} {a b:Int} {r:Int} (ho:o.op=.binOp op t x y yt) (hx:zn gm env x=some (.v (.int k a))) (hy:zn gm env y=some (.v (.int k b))) (hop:op=.and\/op=.or\/op=.andNot) (hr:bits op k a b=r):Qk P gm env V o (.v (.int k r)):=by
 refine wQ ho hx hy ?_
 subst hr
 rcases hop with rfl | rfl | rfl
 all_goals
  show zR P (if k≠k then _ else _)=_
  rw [if_neg sQ]
  rfl
theorem vr {op:BinOp} {t yt:TypeId} {x y:Operand} {k:IntKind} {a b:Int} {r:Int} (ho:o.op=.binOp op t x y yt) (hx:zn gm env x=some (.v (.int k a))) (hy:zn gm env y=some (.v (.int k b))) (h:(op=.add/\k.wrap (a+b)=r)\/(op=.sub/\k.wrap (a - b)=r)):Qk P gm env V o (.v (.int k r)):=by
 refine wQ ho hx hy ?_
 rcases h with ⟨rfl,rfl⟩ | ⟨rfl,rfl⟩
 all_goals
  show zR P (if k≠k then _ else _)=_
  rw [if_neg sQ]
  rfl
theorem q_sh {t yt:TypeId} {x y:Operand} {k k':IntKind} {a b:Int} {r:Int} (ho:o.op=.binOp .shr t x y yt) (hx:zn gm env x=some (.v (.int k a))) (hy:zn gm env y=some (.v (.int k' b))) (h0:0<=b/\b<=k.bits) (hr:a / 2 ^ b.toNat=r):Qk P gm env V o (.v (.int k r)):=fun A _=>by
 refine vq ho (by rw [zx hx]; rfl) (by rw [zx hy]; rfl) ?_
 rw [u7]
 show zR P (Op.shift .shr k a k' b)=_
 rw [shift_shr k k' a b h0.1 h0.2,hr]
 rfl
theorem inv_v' {φ:Nat->Loc3} {n:Nat} {a:Act} {c:Operand} {z:Value} (hg:RelG gm φ n) (hE:zG φ n env a.tmps) (h:zn gm env c=some (.v z)):a.eval c=z:=by
 have:=zz hg hE c
 rw [zx h] at this
 exact inv_v this
theorem yj {x:Operand} {a:Addr} (ho:o.op=.nilCheck x) (hx:zn gm env x=some (.v (.pointer (some a)))):Qk P gm env V o (.v (.pointer (some a))):=fun A _ φ F H ac hg hH hE=>by
 unfold execOp; rw [ho]
 dsimp only
 rw [inv_v' hg hE hx]
 exact zV.quiet hH (.v _)
theorem ke {x:Operand} {i off:Nat} (ho:o.op=.nilCheck x) (hx:zn gm env x=some (.ptr i off)):Qk P gm env V o (.ptr i off):=fun A _ φ F H ac hg hH hE=>by
 unfold execOp; rw [ho]
 have h1:=zz hg hE x
 rw [zx hx] at h1
 obtain ⟨hi,e⟩:=kG h1
 dsimp only
 rw [e]
 exact zV.quiet hH (.ptr hi)
theorem z7 {t:TypeId} {x:Operand} {k off d n:Nat} {g:Bool} {b:Nat} (ho:o.op=.fieldAddr t x k) (hx:zn gm env x=some (.v (.pointer (some ⟨b,off,none⟩)))) (hf:fieldOf P t k=some (d,g,n)) (hn:n≠0):Qk P gm env V o (.v (.pointer (some ⟨b,off+d,none⟩))):=fun A _ φ F H a hg hH hE=>by
 unfold execOp; rw [ho]
 obtain ⟨fs,f,e1,e2,e3,e4⟩:=wq hf
 obtain ⟨ti,td,e5,_,_,e6⟩:=yq e4
 dsimp only
 rw [inv_v' hg hE hx]
 refine wpS_v ?_
 unfold Instr.fieldAt
 refine zd _ _ _ (zC e1 ?_)
 simp only [e2]
 refine zd _ _ _ ?_
 refine zd _ _ _ ?_
 unfold fieldPlace
 refine zd _ _ _ (yg e5 ?_)
 rw [e6,if_neg hn]
 show zV φ A F (.v (.pointer (some ⟨b,off+d,none⟩))) A (.value (.pointer (some (Addr.add ⟨b,off,none⟩ f.offset)))) H
 rw [e3,yQ]
 exact zV.quiet hH (.v _)
theorem bA5:∀ a:Nat,a<256->bits .and .i32 (a:Int) 5=((a % 2+4*(a / 4 % 2):Nat):Int):=by decide +kernel
theorem bA7:∀ a:Nat,a<256->bits .and .i32 (a:Int) 7=((a % 8:Nat):Int):=by decide +kernel
theorem bA4:∀ a:Nat,a<256->bits .and .i32 (a:Int) 4=((4*(a / 4 % 2):Nat):Int):=by decide +kernel
theorem bA3:∀ a:Nat,a<256->bits .and .i32 (a:Int) 3=((a % 4:Nat):Int):=by decide +kernel
theorem bA2:∀ a:Nat,a<512->bits .and .i32 (a:Int) 2=((2*(a / 2 % 2):Nat):Int):=by decide +kernel
theorem bA1:∀ a:Nat,a<256->bits .and .i32 (a:Int) 1=((a % 2:Nat):Int):=by decide +kernel
theorem bO1:∀ a:Nat,a<256->bits .or .i32 (a:Int) 1=((a - a % 2+1:Nat):Int):=by decide +kernel
theorem bO2:∀ a:Nat,a<512->bits .or .i32 (a:Int) 2=((a - 2*(a / 2 % 2)+2:Nat):Int):=by decide +kernel
theorem bO4:∀ a:Nat,a<512->bits .or .i32 (a:Int) 4=((a - 4*(a / 4 % 2)+4:Nat):Int):=by decide +kernel
theorem bN2:∀ a:Nat,a<512->bits .andNot .i32 (a:Int) 2=((a - 2*(a / 2 % 2):Nat):Int):=by decide +kernel
theorem w32 {n:Int} (h : -2147483648<=n/\n<2147483648):IntKind.i32.wrap n=n:=by
 unfold IntKind.wrap
 simp only [show IntKind.i32.bits=32 from rfl,show IntKind.i32.signed=true from rfl,Bool.true_and]
 split <;> rename_i h1 <;> simp only [decide_eq_true_eq] at h1 <;> omega
variable {y:Sy P} {main:Bool} {Ch:Nat->Goroutine->Hp->Prop} {k i:Nat} {T:TT} {x:Nat->Bool}
variable {φ0:Nat->Loc3} {kdf:CallKind} {hkd:kdf≠.early} {f:FuncId} {cs:List Frame} {de:List Deferred} {A0:List AObj} {K0:List Nat} {ds:List Nat} {kk:List Item} {env':List AV} {K:KV} {ops:Array Oper} {q:Nat} {rest:List Nat}
theorem TK.live (Pv:Value->Prop)
  (hst:∀ (w:World) (s:S4) (ts:Array Value) (dd:List Deferred) (φ:Nat->Loc3) (n:Nat),RelG gm φ n->zG φ n env ts->y.sh w s->∃ v,Pv v/\stepG P main (G (fr kdf f none ts dd (.inRegion ops (q::rest)::kk)) cs) w=.go (G (fr kdf f none (putT ts o.dst v) dd (.inRegion ops rest::kk)) cs) w #[])
  (h:∀ v,Pv v->TK ((YT y main Ch) k i T x gm φ0 kdf hkd f cs de A0 K0) ds (.inRegion ops rest::kk) (zO env o.dst (.v v)) K) :
  TK ((YT y main Ch) k i T x gm φ0 kdf hkd f cs de A0 K0) ds (.inRegion ops (q::rest)::kk) env K:=by
 intro A hA φ H ts h1 h2 h3 h4 h5 h6
 show y.Sf main Ch k i T x _ _
 refine .step Z (fun w hf hl=>?_) fun w g' w' es hf hl he=>?_
 ·obtain ⟨s,hs⟩:=hl
  obtain ⟨v,_,e⟩:=hst w s ts (dsC φ ds++de) φ A.length h3 h6 hs
  exact ⟨_,_,_,e,yF hf (fun e he=>by simp at he),rfl,fun h=>by cases h⟩
 ·obtain ⟨s,hs⟩:=hl
  obtain ⟨v,hv,e⟩:=hst w s ts (dsC φ ds++de) φ A.length h3 h6 hs
  have he':=e.symm.trans he
  clear he
  cases he'
  rw [yI hf]
  have hE:=yn (a:=⟨ts,[]⟩) h6 (RelV.v (φ:=φ) (n:=A.length) v) o.dst
  have:=h v hv A hA φ H _ h1 h2 h3 h4 h5 hE
  exact this
theorem zeN {src dst t:TypeId} {c:Operand} {a:Addr} {v:Value} {w:World} (ev:Operand->Value) (hop:o.op=.convert src dst c) (e:ev c=.pointer (some a)) (hs:P.underlying src=some (.pointer t)) (hd:P.underlying dst=some .unsafePointer) (hz:(P.info? t).map (fun i=>decide (i.size=0))=some false) (hv:w.cell? a=some v) :
  (execOp ev o).run P w=.ok (.value (.pointer (some a))) w/\(execOp ev o).events P w #[]=#[]:=by
 have h1:=run_convert_to_unsafe (P:=P) hs hd hz hv
 have h2:=fun es=>events_convert_to_unsafe (P:=P) hs hd hz hv es
 unfold execOp
 rw [hop]
 constructor
 ·simp [e,h1]
 ·simp [e,h2]
theorem TK.sConv {src dst t:TypeId} {c:Operand} {a:Addr} (ho:ops[q]? =some o) (hop:o.op=.convert src dst c) (hc:zn gm env c=some (.v (.pointer (some a)))) (hs:P.underlying src=some (.pointer t)) (hd:P.underlying dst=some .unsafePointer) (hz:(P.info? t).map (fun i=>decide (i.size=0))=some false)
  (ha:∀ w s,y.sh w s->∃ v,w.cell? a=some v) (h:TK ((YT y main Ch) k i T x gm φ0 kdf hkd f cs de A0 K0) ds (.inRegion ops rest::kk) env' K) (hw:zK ops env o=some true:=by rfl) (hp:zO env o.dst (.v (.pointer (some a)))=env':=by exact zu rfl tQ) :
  TK ((YT y main Ch) k i T x gm φ0 kdf hkd f cs de A0 K0) ds (.inRegion ops (q::rest)::kk) env K:=by
 refine TK.live (o:=o) (fun v=>v=.pointer (some a)) (fun w s ts dd φ n hg hE hsh=>⟨_,rfl,?_⟩) fun v hv=>by rw [hv,hp]; exact h
 obtain ⟨v,hv⟩:=ha w s hsh
 obtain ⟨e1,e2⟩:=zeN (⟨ts,dd⟩:Act).eval hop (ev_v (dd:=dd) hg hE hc) hs hd hz hv
 rw [fr_at,stepG_value (b:=bf kdf f) (a:=⟨ts,dd⟩) (v:=.pointer (some a)) (w':=w) ho (zJ (ts:=ts) hE hw) hkd e1,yc,listed_nil e2]
 rfl
theorem TK.sPure {T:Goroutine->Hp->Prop} {hT:zo P main T} {g:FuncId} {as0:Array Operand} {ats:Array TypeId} {e:Array Value->Sem Value} {v:Value} [hx:Ext P g e] (ho:ops[q]? =some o) (hop:o.op=.call { callee:=.value (.func g),args:=as0,argTypes:=ats })
  (h:TK (YU hT gm φ0 kdf hkd f cs de A0 K0) ds (.inRegion ops rest::kk) env' K) (he:e=(fun _=>pure v):=by rfl) (hw:zK ops env o=some true:=by rfl) (hd:zO env o.dst (.v v)=env':=by exact zu rfl tQ) :
  TK (YU hT gm φ0 kdf hkd f cs de A0 K0) ds (.inRegion ops (q::rest)::kk) env K:=by
 intro A hA φ H ts h1 h2 h3 h4 h5 h6
 obtain ⟨fn,e1,e2,e3,e4,e5⟩:=hx.h
 subst he
 have hE:=yn (a:=⟨ts,[]⟩) h6 (RelV.v (φ:=φ) (n:=A.length) v) o.dst
 rw [hd] at hE
 refine hT _ _ Z fun w hf=>⟨G (fr kdf f none (putT ts o.dst v) (dsC φ ds++de) (.inRegion ops rest::kk)) cs,w,#[],?_,yF hf (fun e he=>by simp at he),rfl,?_⟩
 ·show stepG P main (G (fr kdf f none ts (dsC φ ds++de) _) cs) w=_
  rw [fr_at,stepG_entry_pure (b:=bf kdf f) (a:=⟨ts,dsC φ ds++de⟩) v ho (zJ (ts:=ts) h6 hw) hkd hop e1 e2 e3 e4 e5,yc]
  rfl
 ·rw [yI hf]
  exact h A ⟨hA.view,hA.nd,hA.own,hA.kept,hA.len⟩ φ H _ h1 h2 h3 h4 h5 hE
theorem TK.castT {T':TT} (hT':y.A.aft T'=false) (e:T=T') (h:TK ((YT y main Ch) k i T' x gm φ0 kdf hkd f cs de A0 K0) ds (kk) env K):TK ((YT y main Ch) k i T x gm φ0 kdf hkd f cs de A0 K0) ds (kk) env K:=by
 subst e
 exact h
end
end Go.Vel
namespace Go.Vel
open Go Go.Conc
open Go.ConcN (sumTo upd upd_ne upd_same)
open Go.ConcM (OsLater MuAt muA msA)
open Go.ConcR (KK wgBlock WgAt stA smA mk rd wr)
open Mx (TT Th Mn S4 auto Mv4 ok4 bl4 kd dl MPc Pc okW okM Mv nx4 cnt lk wk st wt newOf)
theorem mx0 {n:Nat} {T T':Th} {s:S4} (h:Mv T s.sh T' s.sh) (h1:cnt T=1:=by rfl) (h2:T.pc≠.d1:=by exact fun h=>by cases h):Mv4 n (.w T) s (.w T') s:=.mx h h1 h2
theorem mxM {n:Nat} {T T':Th} {s:S4} {m:Nat} (h:Mv T s.sh T' { s.sh with mu:=m }) (h1:cnt T=1:=by rfl) (h2:T.pc≠.d1:=by exact fun h=>by cases h):Mv4 n (.w T) s (.w T') { s with mu:=m }:=.mx h h1 h2
theorem mxS {n:Nat} {T T':Th} {s:S4} {m:Nat} (h:Mv T s.sh T' { s.sh with ms:=m }) (h1:cnt T=1:=by rfl) (h2:T.pc≠.d1:=by exact fun h=>by cases h):Mv4 n (.w T) s (.w T') { s with ms:=m }:=.mx h h1 h2
theorem hd_pc (T:Th):(Mx.hd T).pc=.sq\/(Mx.hd T).pc=.c2:=by
 unfold Mx.hd
 split
 ·exact .inl rfl
 ·exact .inr rfl
theorem hd_dl (T:Th):dl (.w (Mx.hd T))=1:=by rcases hd_pc T with h | h <;> simp [dl,Mx.dlW,h]
theorem kU {P:Program} {y:Sy P} (T:Th):y.A.aft (.w (Mx.hd T))=false:=by
 show Mx.aftW (Mx.hd T)=false
 rcases hd_pc T with h | h <;> simp [Mx.aftW,h]
theorem hd_kd (T:Th):kd (.w (Mx.hd T))≠.quit:=by rcases hd_pc T with h | h <;> simp [kd,Mx.kdW,h]
theorem zcu (x:Nat):(Mx.hdU x).pc=.ue\/(Mx.hdU x).pc=.uc:=by
 unfold Mx.hdU
 split
 ·exact .inl rfl
 ·exact .inr rfl
theorem zeT (x:Nat):dl (.w (Mx.hdU x))=1:=by rcases zcu x with h | h <;> simp [dl,Mx.dlW,h]
theorem vP {P:Program} {y:Sy P} (x:Nat):y.A.aft (.w (Mx.hdU x))=false:=by
 show Mx.aftW (Mx.hdU x)=false
 rcases zcu x with h | h <;> simp [Mx.aftW,h]
theorem zeU (x:Nat):kd (.w (Mx.hdU x))≠.quit:=by rcases zcu x with h | h <;> simp [kd,Mx.kdW,h]
def nv1 (x:Nat):Nat:=if st x=0 then x - x % 2+1 else x
def nv2 (x:Nat):Nat:=if lk x=1\/st x=1 then nv1 x+8 else nv1 x
def nv3 (x:Nat) (sv:Bool):Nat:=if sv=true/\lk x=1 then nv2 x - 4*(nv2 x / 4 % 2)+4 else nv2 x
def nv4 (x:Nat) (aw sv:Bool):Nat:=if aw=true then nv3 x sv - 2*(nv3 x sv / 2 % 2) else nv3 x sv
theorem zio:∀ x:Nat,x<256->nv1 x<512/\nv2 x<512/\∀ sv:Bool,nv3 x sv<512/\(wk x=1->nv3 x sv / 2 % 2=1)/\∀ aw:Bool,(aw=true->wk x=1)->nv4 x aw sv=newOf x aw sv:=by decide +kernel
section
variable {P:Program}
def GIn (y:Sy P) (lo:Nat×Loc3) (i:Nat) (PL:(Nat->Bool)->KV->Prop):Prop :=
 ∀ x' L A φ H,y.GI x' L->x' i=false->lo.1<A.length->φ lo.1=lo.2->zM [(lo.1,.gone)] A->(keys [(lo.1,AObj.gone)]).Nodup->RelH φ A nF H->H.Dis L->Agrees H L->∃ φ' A' K',Agr φ φ' A.length/\A.length<=A'.length/\Kstep [(lo.1,.gone)] A K' A'/\PL x' K'/\RelH φ' A' nF (H.join L)
def LockR (y:Sy P) (main:Bool) (Ch:Nat->Goroutine->Hp->Prop) (k i:Nat) (PL:(Nat->Bool)->KV->Prop) (r:AV) (K':KV) (T':Goroutine->Hp->Prop):Prop :=
 r=.tup []/\∃ k' x',k'<k/\x' i=false/\PL x' K'/\T'=y.Sf main Ch k' i (.w { pc:=.ur }) x'
variable {gm:Nat->Option Nat} {y:Sy P} {main:Bool} {Ch:Nat->Goroutine->Hp->Prop} {k i:Nat} {T:TT} {x:Nat->Bool}
variable {φ0:Nat->Loc3} {kdf:CallKind} {hkd:kdf≠.early} {f:FuncId} {cs:List Frame} {de:List Deferred} {A0:List AObj} {K0:List Nat} {ds:List Nat} {kk:List Item} {env:List AV} {K:KV}
theorem TK.splitS {ι:Type} {r c:Code} (T2:ι->TT) (hT2:∀ j,y.A.aft (T2 j)=false) (I:ι->Prop) (E:ι->List AV) (KK:KV)
  (h:(∀ k2 j,k2<=k->I j->TK ((YT y main Ch) k2 i (T2 j) x gm φ0 kdf hkd f cs de A0 K0) ds kk (E j) KK)->TK ((YT y main Ch) k i T x gm φ0 kdf hkd f cs de A0 K0) ds (.code r::.code c::kk) env K)
  (hc:∀ k2 j,k2<=k->I j->TK ((YT y main Ch) k2 i (T2 j) x gm φ0 kdf hkd f cs de A0 K0) ds kk (E j) KK):TK ((YT y main Ch) k i T x gm φ0 kdf hkd f cs de A0 K0) ds (.code r::.code c::kk) env K:=h hc
theorem TK.shareS {ι:Type} {r:Code} (T2:ι->TT) (hT2:∀ j,y.A.aft (T2 j)=false) (I:ι->Prop) (E:ι->List AV) (KK:KV)
  (h:(∀ k2 j,k2<=k->I j->TK ((YT y main Ch) k2 i (T2 j) x gm φ0 kdf hkd f cs de A0 K0) ds kk (E j) KK)->TK ((YT y main Ch) k i T x gm φ0 kdf hkd f cs de A0 K0) ds (.code r::kk) env K)
  (hc:∀ k2 j,k2<=k->I j->TK ((YT y main Ch) k2 i (T2 j) x gm φ0 kdf hkd f cs de A0 K0) ds kk (E j) KK):TK ((YT y main Ch) k i T x gm φ0 kdf hkd f cs de A0 K0) ds (.code r::kk) env K:=h hc
theorem TK.share1 {T:Goroutine->Hp->Prop} {X:KX P gm T} {c:Code} (E:List AV) (KK:KV) (h:TK X ds kk E KK->TK X ds (.code c::kk) env K) (hc:TK X ds kk E KK):TK X ds (.code c::kk) env K:=h hc
end
end Go.Vel
namespace Go.Vel
open Go Go.Conc
open Go.ConcN (sumTo upd upd_ne upd_same)
open Go.ConcM (OsLater MuAt muA msA)
open Go.ConcR (KK wgBlock WgAt stA smA mk rd wr)
open Mx (TT Th Mn S4 auto Mv4 ok4 bl4 kd dl MPc Pc okW okM Mv nx4)
section
variable {P:Program} {gm:Nat->Option Nat} {main:Bool}
def CallE (P:Program) (gm:Nat->Option Nat) (lo:Nat×Loc3) (T:Goroutine->Hp->Prop) (g:FuncId) (args:List AV) (K:KV) (R:(Goroutine->Hp->Prop)->Prop):Prop :=
 ∀ A,zM K A->(keys K).Nodup->∀ (φ:Nat->Loc3) (H:Hp) (vs:Array Value) (c:Frame) (cs:List Frame),lo.1<A.length->φ lo.1=lo.2->RelG gm φ A.length->RelH φ A nF H->zG φ A.length args vs ->
  (∀ T' v H',R T'->T' (G (c.finish v) cs) H')->T (G (Frame.enter P g vs .normal) (c::cs)) H
def CallZ (P:Program) (T:Goroutine->Hp->Prop) (g:FuncId) (vs:List Value) (R:(Goroutine->Hp->Prop)->Prop):Prop :=
 ∀ (H:Hp) (c:Frame) (cs:List Frame),(∀ T' v H',R T'->T' (G (c.finish v) cs) H')->T (G (Frame.enter P g vs.toArray .normal) (c::cs)) H
theorem zcb (n:Nat) {T:Goroutine->Hp->Prop} (hT:zo P main T) {lo:Nat×Loc3} {g:FuncId} {fn:Func} {c:Code} {args:List AV} {K:KV} {R:(Goroutine->Hp->Prop)->Prop} (hf:P.funcs[g]? =some fn)
  (h:∀ (φ0:Nat->Loc3) (c0:Frame) (cs:List Frame) (A0:List AObj),lo.1<A0.length->φ0 lo.1=lo.2->(∀ T' v H',R T'->T' (G (c0.finish v) cs) H') ->
   TK (YU hT gm φ0 .normal ze g (c0::cs) [] A0 (keys K)) [] [.code c] (args++mB (n - args.length) .any) K) (hb:fn.body=some c:=by rfl) (hn:fn.ntmps=n:=by rfl):CallE P gm lo T g args K R:=by
 subst hn
 intro A hv hnd φ H vs c0 cs hl1 hl2 hg hH hargs hfin
 rw [kL vs hf hb]
 exact h φ c0 cs A hl1 hl2 hfin A ⟨hv,hnd,fun i hi=>.inl hi,fun _ _ _=>rfl,mL _⟩ φ H _ (Agr.refl _ _) (mL _) hg (fun d hd=>by cases hd) hH (yR hargs _)
theorem y8 (φ:Nat->Loc3) (n:Nat):RelG (fun _=>none) φ n:=fun b j h=>by cases h
theorem zc0 (φ:Nat->Loc3) (n:Nat) (vs:List Value):zG φ n (vs.map .v) vs.toArray:=⟨by simp,fun j a y ha hy=>by
 rw [lQ] at ha
 rw [List.getElem?_toArray] at hy
 rw [hy] at ha
 cases ha
 exact .v y⟩
theorem zcf (n:Nat) {T:Goroutine->Hp->Prop} (hT:zo P main T) {g:FuncId} {fn:Func} {c:Code} {vs:List Value} {R:(Goroutine->Hp->Prop)->Prop} (hf:P.funcs[g]? =some fn)
  (h:∀ (φ0:Nat->Loc3) (c0:Frame) (cs:List Frame),(∀ T' v H',R T'->T' (G (c0.finish v) cs) H') ->
   TK (YU hT (fun _=>none) φ0 .normal ze g (c0::cs) [] [] []) [] [.code c] (vs.map .v++mB (n - (vs.map AV.v).length) .any) []) (hb:fn.body=some c:=by rfl) (hn:fn.ntmps=n:=by rfl):CallZ P T g vs R:=by
 subst hn
 intro H c0 cs hfin
 rw [kL vs.toArray hf hb]
 exact h (fun _=>⟨0,0,0⟩) c0 cs hfin [] ⟨fun x hx=>(by cases hx),List.nodup_nil,fun i hi=>(by cases hi),fun _ _ _=>rfl,mL _⟩ _ H _ (Agr.refl _ _) (mL _) (y8 _ _) (fun d hd=>by cases hd) (vt _ _) (yR (zc0 _ _ vs) _)
variable {φ0:Nat->Loc3} {kdf:CallKind} {hkd:kdf≠.early} {f:FuncId} {cs:List Frame} {de:List Deferred} {A0:List AObj} {K0:List Nat} {ds:List Nat} {kk:List Item} {env env':List AV} {K:KV} {ops:Array Oper} {q:Nat} {rest:List Nat} {o:Oper}
theorem TK.retZ {T':Goroutine->Hp->Prop} {hT':zo P main T'} {g:FuncId} {fn:Func} {c0:Frame} {r:AV} (hf:P.funcs[g]? =some fn) (hfin:∀ v H',T' (G (c0.finish v) cs) H') (hres:∀ A,zM K A->resA P fn.results.toList env A=some r):TK (YU hT' gm φ0 .normal ze g (c0::cs) [] A0 K0) [] (.code .ret::kk) env K:=by
 intro A hA φ H ts h1 h2 h3 h4 h5 h6
 exact hT'.ctlF rfl (fun _=>wU) rfl (hT'.leaveF hf (km h5 h6 (hres A hA.view) fun y hy=>hfin y H))
theorem TK.retZ0 {T':Goroutine->Hp->Prop} {hT':zo P main T'} {g:FuncId} {fn:Func} {c0:Frame} {r:AV} (hf:P.funcs[g]? =some fn) (hfin:∀ v H',T' (G (c0.finish v) cs) H') (hres:∀ A,zM K A->resA P fn.results.toList env A=some r):TK (YU hT' gm φ0 .normal ze g (c0::cs) [] A0 K0) [] [] env K:=by
 intro A hA φ H ts h1 h2 h3 h4 h5 h6
 exact hT'.ctlF rfl (fun _=>wz) rfl (hT'.leaveF hf (km h5 h6 (hres A hA.view) fun y hy=>hfin y H))
theorem um {H:Hp} {ts:Array Value} {dd:List Deferred} {fo:Operand} {ars:Array Operand} {at_:Array TypeId} {g:FuncId} (hop:o.op=.call { callee:=.value fo,args:=ars,argTypes:=at_ }) (hfo:(⟨ts,dd⟩:Act).eval fo=.func (.func g) #[] #[]) (hg:yi P g=true) {Q:Next->Hp->Prop} (hq:Q (.enter g (ars.map (evT ts))) H):wpS P (execOp (evT ts) o) H Q:=by
 unfold execOp
 rw [hop]
 dsimp only
 refine zd _ _ _ ?_
 rw [yG] at hfo
 show wpS P (Deferred.ofValue (evT ts fo) (ars.map (evT ts))) H _
 rw [hfo]
 show wpS P (callFunc g ((#[]++ars.map (evT ts))++#[])) H _
 refine kv hg _ ?_
 rw [mK,Array.append_empty]
 exact hq
theorem zbe {φ:Nat->Loc3} {n:Nat} {ts:Array Value} {dd:List Deferred} {fo:Operand} {g:FuncId} (h3:RelG gm φ n) (h6:zG φ n env ts) (hf:zn gm env fo=some (.fn g [] [])):(⟨ts,dd⟩:Act).eval fo=.func (.func g) #[] #[]:=by
 have hfo:=zz (a:=⟨ts,dd⟩) h3 h6 fo
 rw [zx hf] at hfo
 obtain ⟨xs,ys,e,hr1,hr2⟩:=vm hfo
 have ex:xs=#[]:=Array.eq_empty_of_size_eq_zero (by have:=hr1.1; simpa using this.symm)
 have ey:ys=#[]:=Array.eq_empty_of_size_eq_zero (by have:=hr2.1; simpa using this.symm)
 subst ex ey
 exact e
theorem TK.callE {T:Goroutine->Hp->Prop} {hT:zo P main T} {lo:Nat×Loc3} {fo:Operand} {ars:Array Operand} {at_:Array TypeId} {g:FuncId} {args:List AV} {R:(Goroutine->Hp->Prop)->Prop} {env2:Value->List AV} (ho:ops[q]? =some o) (hop:o.op=.call { callee:=.value fo,args:=ars,argTypes:=at_ })
  (hf:zn gm env fo=some (.fn g [] [])) (hargs:ars.toList.map (zI gm env)=args) (hc:CallE P gm lo T g args K R) (hl1:lo.1<A0.length) (hl2:φ0 lo.1=lo.2)
  (h:∀ T' v,R T'->∃ hT':zo P main T',TK (YU hT' (fun _=>none) φ0 kdf hkd f cs de [] []) [] (.inRegion ops rest::kk) (env2 v) []) (he:∀ v,zO (env.map plainV) o.dst (.v v)=env2 v:=by exact fun _=>zu rfl (by simp only [List.map,plainV,List.set]; rfl)) (hd:ds=[]:=by rfl) (hw:zK ops env o=some true:=by rfl) (hg:yi P g=true:=by exact Cal.h) :
  TK (YU hT gm φ0 kdf hkd f cs de A0 K0) ds (.inRegion ops (q::rest)::kk) env K:=by
 subst hd
 intro A hA φ H ts h1 h2 h3 h4 h5 h6
 refine hT.opF hkd ho (zJ h6 hw) (by rw [hop]; rfl) (um (dd:=de) hop (zbe h3 h6 hf) hg ?_)
 have hrel:zG φ A.length args (ars.map (evT ts)):=by
  rw [<- hargs]
  have hm:=kC (a:=⟨ts,[]⟩) h3 h6 ars
  rw [yG] at hm
  exact hm
 refine hc A hA.view hA.nd φ H _ _ cs (mM hl1 hA.len) ((h1 _ hl1).trans hl2) h3 h5 hrel fun T' v H' hp'=>?_
 obtain ⟨hT',hh⟩:=h T' v hp'
 have hfin:=yT kdf f none ts de ops q rest kk v
 simp only [ho,Option.bind_some] at hfin
 show T' (G ((fr kdf f none ts de (.inRegion ops (q::rest)::kk)).finish v) cs) H'
 rw [hfin]
 have hE:=yn (a:=⟨ts,[]⟩) (wS (φ':=φ0) h6) (RelV.v (φ:=φ0) (n:=0) v) o.dst
 rw [he] at hE
 exact hh [] ⟨fun x hx=>(by cases hx),List.nodup_nil,fun i hi=>(by cases hi),fun _ _ _=>rfl,mL _⟩ φ0 H' _ (Agr.refl _ _) (mL _) (y8 _ _) (fun d hd=>by cases hd) (vt _ _) hE
theorem TK.callZ {T:Goroutine->Hp->Prop} {hT:zo P main T} {fo:Operand} {ars:Array Operand} {at_:Array TypeId} {g:FuncId} {vs:List Value} {R:(Goroutine->Hp->Prop)->Prop} {env2:Value->List AV} (ho:ops[q]? =some o) (hop:o.op=.call { callee:=.value fo,args:=ars,argTypes:=at_ })
  (hf:zn gm env fo=some (.fn g [] [])) (hargs:ars.toList.map (zI gm env)=vs.map .v) (hc:CallZ P T g vs R)
  (h:∀ T' v,R T'->∃ hT':zo P main T',TK (YU hT' (fun _=>none) φ0 kdf hkd f cs de [] []) [] (.inRegion ops rest::kk) (env2 v) []) (he:∀ v,zO (env.map plainV) o.dst (.v v)=env2 v:=by exact fun _=>zu rfl (by simp only [List.map,plainV,List.set]; rfl)) (hd:ds=[]:=by rfl) (hw:zK ops env o=some true:=by rfl) (hg:yi P g=true:=by exact Cal.h) :
  TK (YU hT gm φ0 kdf hkd f cs de A0 K0) ds (.inRegion ops (q::rest)::kk) env K:=by
 subst hd
 intro A hA φ H ts h1 h2 h3 h4 h5 h6
 refine hT.opF hkd ho (zJ h6 hw) (by rw [hop]; rfl) (um (dd:=de) hop (zbe h3 h6 hf) hg ?_)
 have hrel:ars.map (evT ts)=vs.toArray:=by
  have hm:=kC (a:=⟨ts,[]⟩) h3 h6 ars
  rw [yG,hargs] at hm
  refine Array.ext' ?_
  refine List.ext_getElem? fun j=>?_
  have hl:=hm.1
  by_cases hj:j<vs.length
  ·have h2:=hm.2 j (.v vs[j]) ((ars.map (evT ts))[j]'(by rw [<- hl]; simpa using hj)) (by simp [hj]) (by rw [mD])
   have:=inv_v h2
   rw [mI,mD (by rw [<- hl]; simpa using hj),this]
   simp [hj]
  ·rw [lU (by simp at hl ⊢; omega),lU (by simpa using hj)]
 rw [hrel]
 refine hc H _ cs fun T' v H' hp'=>?_
 obtain ⟨hT',hh⟩:=h T' v hp'
 have hfin:=yT kdf f none ts de ops q rest kk v
 simp only [ho,Option.bind_some] at hfin
 show T' (G ((fr kdf f none ts de (.inRegion ops (q::rest)::kk)).finish v) cs) H'
 rw [hfin]
 have hE:=yn (a:=⟨ts,[]⟩) (wS (φ':=φ0) h6) (RelV.v (φ:=φ0) (n:=0) v) o.dst
 rw [he] at hE
 exact hh [] ⟨fun x hx=>(by cases hx),List.nodup_nil,fun i hi=>(by cases hi),fun _ _ _=>rfl,mL _⟩ φ0 H' _ (Agr.refl _ _) (mL _) (y8 _ _) (fun d hd=>by cases hd) (vt _ _) hE
end
end Go.Vel
namespace Go.Vel
open Go Go.Conc
def scalT (P:Program) (t:TypeId):Bool:=match P.underlying t with
 | some (.int _)=>true
 | some .bool=>true
 | some .string=>true
 | _=>false
def flatF (P:Program) (t:TypeId):Option (List (TypeId×Nat)):=match P.underlying t with
 | some (.struct fs)=>if fs.toList.all (fun f=>f.name != "_" && scalT P f.type) && !P.stoodInHeld t then some (fs.toList.map fun f=>(f.type,f.offset)) else none
 | _=>none
def eqV:Value->Value->Option Bool
 | .int k a,.int k' b=>if k=k' then some (a==b) else none
 | .bool a,.bool b=>some (a==b)
 | .string a,.string b=>some (a==b)
 | _,_=>none
def fitV (P:Program) (t:TypeId) (v:Value):Bool:=match P.underlying t,v with
 | some (.int _),.int _ _=>true
 | some .bool,.bool _=>true
 | some .string,.string _=>true
 | _,_=>false
section
variable {P:Program}
theorem zgX {d:Nat} {t:TypeId} {v w:Value} {b:Bool} (h1:fitV P t v=true) (h2:fitV P t w=true) (h:eqV v w=some b):zR P (Op.equalIn (d+1) t v w)=some b:=by
 unfold Op.equalIn
 unfold fitV at h1 h2
 split at h1
 ·rename_i k k1 n1 e
  rw [e] at h2
  cases w <;> simp only [mU] at h2
  rename_i k2 n2
  simp only [eqV] at h
  split at h
  ·rename_i ek
   cases h
   refine zL (z6 e) ?_
   dsimp only
   rw [if_pos ek]; rfl
  ·cases h
 ·rename_i a e
  rw [e] at h2
  cases w <;> simp only [mU] at h2
  cases h
  exact zL (z6 e) rfl
 ·rename_i a e
  rw [e] at h2
  cases w <;> simp only [mU] at h2
  cases h
  exact zL (z6 e) rfl
 ·cases h1
theorem zbQ {t:TypeId} {cs:Array Value} {off:Nat} {v:Value} (hs:scalT P t=true) (h:cs[off]? =some v):zR P (part t cs off)=some v:=by
 unfold part isAgg
 unfold scalT at hs
 refine zL (a:=false) ?_ ?_
 ·split at hs <;> first | (rename_i e; exact zL (z6 e) rfl) | cases hs
 ·simp [h]; rfl
inductive EqL (P:Program) (xs ys:Array Value):List (TypeId×Nat)->List Bool->Prop
 | nil:EqL P xs ys [] []
 | cons {t:TypeId} {off:Nat} {v w:Value} {b:Bool} {l:List (TypeId×Nat)} {bs:List Bool}:xs[off]? =some v->ys[off]? =some w->fitV P t v=true->fitV P t w=true->eqV v w=some b->EqL P xs ys l bs->EqL P xs ys ((t,off)::l) (b::bs)
theorem zgW {xs ys:Array Value} (F:Field->Option Bool×Unit->Sem (ForInStep (Option Bool×Unit))):∀ {l:List (TypeId×Nat)} {bs:List Bool} (fl:List Field)
  (hF:∀ f∈fl,∀ v w b,xs[f.offset]? =some v->ys[f.offset]? =some w->fitV P f.type v=true->fitV P f.type w=true->eqV v w=some b->zR P (F f (none,()))=some (if b=true then .yield (none,()) else .done (some false,()))),
  fl.map (fun f=>(f.type,f.offset))=l->EqL P xs ys l bs->zR P (forIn fl (none,()) F)=some (if bs.all id=true then none else some false,()):=by
 intro l bs fl hF hm h
 induction h generalizing fl with
 | nil =>
  cases fl with
  | nil=>rfl
  | cons f fl=>cases hm
 | @cons t off v w b l bs hv hw h1 h2 he _ ih =>
  cases fl with
  | nil=>cases hm
  | cons f fl =>
   simp only [List.map_cons,List.cons.injEq,Prod.mk.injEq] at hm
   obtain ⟨⟨rfl,rfl⟩,hm⟩:=hm
   rw [List.forIn_cons]
   refine zL (hF f List.mem_cons_self v w b hv hw h1 h2 he) ?_
   cases b with
   | false=>rfl
   | true =>
    simp only [if_true]
    rw [ih fl (fun f hf=>hF f (lL _ hf)) hm]
    simp
theorem zdD {t:TypeId} {l:List (TypeId×Nat)} {xs ys:Array Value} {bs:List Bool} (hl:flatF P t=some l) (h:EqL P xs ys l bs):zR P (Op.equal t (.agg xs) (.agg ys))=some (bs.all id):=by
 unfold flatF at hl
 split at hl
 ·rename_i fs hu
  split at hl
  ·rename_i hc
   simp only [mX,List.all_eq_true,mV] at hc
   obtain ⟨hall,hst⟩:=hc
   show zR _ (Op.equalIn (9999+1) t _ _)=_
   unfold Op.equalIn
   refine zL (z6 hu) ?_
   dsimp only
   refine zL (a:=P) Z ?_
   rw [hst]
   simp only [mU,if_false]
   refine zL (a:=(if bs.all id=true then none else some false,())) ?_ (by cases bs.all id <;> rfl)
   rw [<- Array.forIn_toList]
   refine zgW _ fs.toList (fun f hf v w b hv hw h1 h2 he=>?_) (Option.some.inj hl) h
   have hn:f.name ≠ "_" := by have:=(hall f hf).1; simpa using this
   have hs:=(hall f hf).2
   rw [if_pos hn]
   refine zL (zbQ hs hv) (zL (zbQ hs hw) (zL (zgX (d:=9998) h1 h2 he) ?_))
   cases b <;> rfl
  ·cases hl
 ·cases hl
theorem EqL.consI {xs ys:Array Value} {t:TypeId} {off:Nat} {k k1:IntKind} {a b:Int} {l:List (TypeId×Nat)} {bs:List Bool} (hu:P.underlying t=some (.int k)) (hx:xs[off]? =some (.int k1 a)) (hy:ys[off]? =some (.int k1 b)) (h:EqL P xs ys l bs):EqL P xs ys ((t,off)::l) ((a==b)::bs) :=
 .cons hx hy (by unfold fitV; rw [hu]) (by unfold fitV; rw [hu]) (by simp [eqV]) h
theorem EqL.consB {xs ys:Array Value} {t:TypeId} {off:Nat} {a b:Bool} {l:List (TypeId×Nat)} {bs:List Bool} (hu:P.underlying t=some .bool) (hx:xs[off]? =some (.bool a)) (hy:ys[off]? =some (.bool b)) (h:EqL P xs ys l bs):EqL P xs ys ((t,off)::l) ((a==b)::bs) :=
 .cons hx hy (by unfold fitV; rw [hu]) (by unfold fitV; rw [hu]) rfl h
theorem EqL.consS {xs ys:Array Value} {t:TypeId} {off:Nat} {a b:ByteArray} {l:List (TypeId×Nat)} {bs:List Bool} (hu:P.underlying t=some .string) (hx:xs[off]? =some (.string a)) (hy:ys[off]? =some (.string b)) (h:EqL P xs ys l bs):EqL P xs ys ((t,off)::l) ((a==b)::bs) :=
 .cons hx hy (by unfold fitV; rw [hu]) (by unfold fitV; rw [hu]) rfl h
theorem zaS {op:BinOp} {t:TypeId} {x y:Operand} {xs ys:Array Value} (hop:op=.eql\/op=.neq) (hg:P.eqGuardType P.depth t=false) {s:Sem Value} {z:Value} (h:zR P s=some z):zR P (eqGuard op t x y (.agg xs) (.agg ys) >>= fun _=>s)=some z:=by
 refine zL (a:=()) ?_ h
 rcases hop with rfl | rfl
 all_goals
  unfold eqGuard
  show zR P (if (!P.eqGuardType P.depth t)=true then pure () else _)=_
  rw [hg]
  rfl
class FlatF (P:Program) (t:TypeId) (l:outParam (List (TypeId×Nat))):Prop where h:flatF P t=some l:=by kernel_rfl
class EqG (P:Program) (t:TypeId):Prop where h:P.eqGuardType P.depth t=false:=by kernel_rfl
variable {gm:Nat->Option Nat} {V:KV} {env:List AV} {o:Oper}
theorem zcW {t:TypeId} {x y:Operand} {ax ay:AV} {xs ys:Array Value} {l:List (TypeId×Nat)} {bs:List Bool} (ho:o.op=.binOp .eql t x y t) (hx:zn gm env x=some ax) (hy:zn gm env y=some ay) (hvx:toV ax=some (.agg xs)) (hvy:toV ay=some (.agg ys)) (hl:flatF P t=some l) (hg:P.eqGuardType P.depth t=false)
  (h:EqL P xs ys l bs:=by repeat (first | exact EqL.nil | apply EqL.consI Und.h rfl rfl | apply EqL.consB Und.h rfl rfl | apply EqL.consS Und.h rfl rfl)):Qk P gm env V o (.v (.bool (bs.all id))):=fun A _ =>
 vq ho (by rw [zx hx]; exact hvx) (by rw [zx hy]; exact hvy) (zaS (.inl rfl) hg (zL (zdD hl h) rfl))
theorem uO {t:TypeId} {x y:Operand} {ax ay:AV} {xs ys:Array Value} {l:List (TypeId×Nat)} {bs:List Bool} (ho:o.op=.binOp .neq t x y t) (hx:zn gm env x=some ax) (hy:zn gm env y=some ay) (hvx:toV ax=some (.agg xs)) (hvy:toV ay=some (.agg ys)) (hl:flatF P t=some l) (hg:P.eqGuardType P.depth t=false)
  (h:EqL P xs ys l bs:=by repeat (first | exact EqL.nil | apply EqL.consI Und.h rfl rfl | apply EqL.consB Und.h rfl rfl | apply EqL.consS Und.h rfl rfl)):Qk P gm env V o (.v (.bool (!bs.all id))):=fun A _ =>
 vq ho (by rw [zx hx]; exact hvx) (by rw [zx hy]; exact hvy) (zaS (.inr rfl) hg (zL (zdD hl h) rfl))
end
section
variable {P:Program} {gm:Nat->Option Nat} {T:Goroutine->Hp->Prop} {Y:KX P gm T} {ds:List Nat} {k:List Item} {env env':List AV} {K K':KV} {ops:Array Oper} {i:Nat} {o:Oper} {r:AV} {pend pend':List Pd}
def dstOk (pend':List Pd) (ops:Array Oper) (d:Option Nat):Bool:=match d with
 | some d=>pend'.all fun p => !(p.s.elem d)&&dstOf ops p.i !=some d
 | none=>true
theorem td_do {L L':List Nat} (s:List Nat) (ho:ops[i]? =some o) (hw:zK ops (onl s env) o=some true) (hp':pendOf ops i pend=pend') (hraw:rawOk ops i s=true) (hdst:dstOk pend' ops o.dst=true) (hin:i∈L) (hsub:∀ j∈L',j∈L/\j≠i) (hcov':∀ j∈L,j=i\/j∈L')
  (h:ExK Y (onl s env) K o fun r K'=>(∀ p∈pend',∀ x∈p.V,x∈K')/\TD Y ds ops k pend' L' (zO env o.dst r) K')
  (hj:∀ p∈pend,Jq P gm ops env p) (hraws:∀ p∈pend,rawP ops p.i p.s=true) {A:List AObj} (hA:Kn Y K A) {σ:List Nat} (hnd:(i::σ).Nodup) (hresp:Resp ops (i::σ)) (hsz:∀ j∈i::σ,j<ops.size) (hL:∀ j∈L,j∈i::σ) (hcov:∀ j∈i::σ,j∈L\/∃ p∈pend,p.i=j)
  {φ:Nat->Loc3} {H:Hp} {ts:Array Value} (h1:Agr Y.X.φ0 φ Y.X.n0) (h2:Y.X.n0<=A.length) (h3:RelG gm φ A.length) (h4:∀ d∈ds,d<A.length) (h5:RelH φ A Y.X.F H) (h6:RelHid φ A.length (Hid ops pend (i::σ)) env ts) :
  T (G (fr Y.X.kd Y.X.f Y.X.ro ts (dsC φ ds++Y.X.dd) (.inRegion ops (i::σ)::k)) Y.X.cs) H:=by
 subst hp'
 have hrel:=zbm hsz hresp hraw hraws h6
 refine h A hA ops i σ k (dsC φ ds++Y.X.dd) φ H ts ho (zJ hrel hw) h3 h5 hrel fun r A' φ' H' v ⟨K',hk,hV',hq⟩ hA' hlen hH' hr=>?_
 have hds:dsC φ' ds=dsC φ ds:=by
  unfold dsC
  exact List.map_congr_left fun d hd'=>by rw [hA' d (h4 d hd')]
 rw [<- hds]
 have hnd':=List.nodup_cons.1 hnd
 have hkeep:∀ p∈pend,p.i∈σ->p∈pendOf ops i pend:=fun p hp hm=>by
  refine List.mem_filter.2 ⟨hp,?_⟩
  simp only [Bool.not_eq_true']
  cases e:(edgesOf .any ops i).elem p.i with
  | false=>rfl
  | true=>exact absurd (List.mem_cons_of_mem _ hm) (hresp.1 p.i (by simpa using e))
 refine hq (fun p hp=>?_) (fun p hp=>hraws p (List.mem_filter.1 hp).1) hV' A' (hA.step hk) σ hnd'.2 hresp.2 (fun j hj=>hsz j (by simp [hj])) (fun j hj=>?_) (fun j hj=>?_) φ' H' _ (h1.trans hA' h2) oQ (h3.mono hA' hlen) (fun d hd'=>Nat.lt_of_lt_of_le (h4 d hd') hlen) hH' ⟨?_,fun j a y ha hy hnh=>?_⟩
 ·have hj':∀ p∈pendOf ops i pend,Jq P gm ops env p:=fun p hp=>hj p (List.mem_filter.1 hp).1
  cases hdst':o.dst with
  | none=>exact hj' p hp
  | some d =>
   unfold dstOk at hdst
   rw [hdst'] at hdst
   exact zcA hdst hj' p hp
 ·have hm:=hsub j hj
  rcases List.mem_cons.1 (hL j hm.1) with e | e
  ·exact absurd e hm.2
  ·exact e
 ·rcases hcov j (by simp [hj]) with h7 | ⟨p,hp,e⟩
  ·rcases hcov' j h7 with rfl | h7
   ·exact absurd hj hnd'.1
   ·exact .inl h7
  ·exact .inr ⟨p,hkeep p hp (e ▸ hj),e⟩
 ·have:(putT ts o.dst v).size=ts.size:=by cases o.dst <;> simp [putT,Act.put]
  rw [this,<- h6.1]; cases o.dst <;> simp [zO]
 ·have hback:o.dst≠some j->ts[j]? =some y->env[j]? =some a->RelV φ' A'.length a y:=fun hne hy' ha'=>by
   refine (h6.2 j a y ha' hy' fun ⟨p,hp,h8,h9⟩=>?_).mono hA' hlen
   rcases List.mem_cons.1 h8 with e | h8
   ·rw [e] at h9; simp [dstOf,ho] at h9; exact hne h9
   ·exact hnh ⟨p,hkeep p hp h8,h8,h9⟩
  cases hdst':o.dst with
  | none=>rw [hdst'] at ha hy; exact hback (by rw [hdst']; simp) hy ha
  | some d =>
   rw [hdst'] at ha hy
   simp only [zO,putT,Act.put] at ha hy
   by_cases e:d=j
   ·subst e
    have hlt:d<env.length:=by have:=(List.getElem?_eq_some_iff.1 ha).1; simpa using this
    rw [List.getElem?_set_self hlt] at ha
    rw [Array.getElem?_setIfInBounds_self_of_lt (by rw [<- h6.1]; exact hlt)] at hy
    cases ha; cases hy
    exact hr
   ·rw [List.getElem?_set_ne e] at ha
    rw [Array.getElem?_setIfInBounds_ne e] at hy
    exact hback (by rw [hdst']; simpa using e) hy ha
theorem TD.c2 {i1 i2:Nat} {o1 o2:Oper} {L L1 L2:List Nat} {pend1 pend2:List Pd} (s1 s2:List Nat) (ho1:ops[i1]? =some o1) (ho2:ops[i2]? =some o2) (hw1:zK ops (onl s1 env) o1=some true) (hw2:zK ops (onl s2 env) o2=some true) (hp1:pendOf ops i1 pend=pend1) (hp2:pendOf ops i2 pend=pend2)
  (hc:(rawOk ops i1 s1&&rawOk ops i2 s2&&dstOk pend1 ops o1.dst&&dstOk pend2 ops o2.dst&&L.elem i1&&L.elem i2&&L1.all (fun j=>L.elem j&&j !=i1)&&L2.all (fun j=>L.elem j&&j !=i2)&&L.all (fun j=>j==i1||L1.elem j)&&L.all (fun j=>j==i2||L2.elem j)&&L.all (fun j=>j==i1||j==i2||(edgesOf .any ops j).any fun e=>L.elem e))=true)
  (h1:ExK Y (onl s1 env) K o1 fun r K'=>(∀ p∈pend1,∀ x∈p.V,x∈K')/\TD Y ds ops k pend1 L1 (zO env o1.dst r) K') (h2:ExK Y (onl s2 env) K o2 fun r K'=>(∀ p∈pend2,∀ x∈p.V,x∈K')/\TD Y ds ops k pend2 L2 (zO env o2.dst r) K'):TD Y ds ops k pend L env K:=fun hj hraw hV A hA σ=>by
 simp only [Bool.and_eq_true,List.all_eq_true,Bool.or_eq_true,beq_iff_eq,bne_iff_ne,List.elem_eq_mem,decide_eq_true_eq] at hc
 obtain ⟨⟨⟨⟨⟨⟨⟨⟨⟨⟨q1,q2⟩,q3⟩,q4⟩,q5⟩,q6⟩,q7⟩,q8⟩,q9⟩,q10⟩,q11⟩:=hc
 induction σ with
 | nil =>
  intro _ _ _ hL
  exact absurd (hL i1 q5) sQ
 | cons c σ ih =>
  intro hnd hresp hsz hL hcov φ H ts e1 e2 e3 e4 e5 e6
  by_cases hc1:c=i1
  ·subst hc1
   exact td_do s1 ho1 hw1 hp1 q1 q3 q5 q7 q9 h1 hj hraw hA hnd hresp hsz hL hcov e1 e2 e3 e4 e5 e6
  by_cases hc2:c=i2
  ·subst hc2
   exact td_do s2 ho2 hw2 hp2 q2 q4 q6 q8 q10 h2 hj hraw hA hnd hresp hsz hL hcov e1 e2 e3 e4 e5 e6
  have hnd':=List.nodup_cons.1 hnd
  have hno:c∉L:=fun hm=>by
   rcases q11 c hm with (h | h) | h
   ·exact hc1 h
   ·exact hc2 h
   ·rw [List.any_eq_true] at h
    obtain ⟨e,he1,he2⟩:=h
    exact hresp.1 e he1 (hL e (by simpa using he2))
  rcases hcov c sQ with h7 | ⟨p,hp,e⟩
  ·exact absurd h7 hno
  ·refine zbr hp e (hj p hp) hraw (hV p hp) hA hnd hsz hresp e1 e2 e3 e4 e5 e6 fun φ H ts h1 h3 h5 h6 =>
    ih hnd'.2 hresp.2 (fun j hj=>hsz j (by simp [hj])) (fun j hj=>?_) (fun j hj=>hcov j (by simp [hj])) φ H ts h1 e2 h3 e4 h5 h6
   rcases List.mem_cons.1 (hL j hj) with h8 | h8
   ·exact absurd (h8 ▸ hj) hno
   ·exact h8
theorem vl {s L':List Nat} {ob:AObj} {envf:Nat->List AV} (hd:yb o.op=false) (hq:Nk P gm (onl s env) K o (fun j=>.ptr j 0) ob) (he:∀ j,zO env o.dst (.ptr j 0)=envf j) (hv:∀ p∈pend',∀ x∈p.V,x∈K) (h:∀ j,j∉keys K->TD Y ds ops k pend' L' (envf j) ((j,ob)::K)) :
  ExK Y (onl s env) K o fun r K'=>(∀ p∈pend',∀ x∈p.V,x∈K')/\TD Y ds ops k pend' L' (zO env o.dst r) K' :=
 wo hd fun A hv' hn=>⟨_,_,_,hq A hv',.push hv' hn ob,fun p hp x hx=>List.mem_cons_of_mem _ (hv p hp x hx),by dsimp only; rw [he]; exact h _ fun hm=>absurd (hv'.lt hm) (Nat.lt_irrefl _)⟩
theorem kZ {s L':List Nat} {n:Nat} {ob:AObj} {envf:Nat->List AV} (hd:yb o.op=false) (hq:Nk P gm (onl s env) K o (fun j=>.row j n) ob) (he:∀ j,zO env o.dst (.row j n)=envf j) (hv:∀ p∈pend',∀ x∈p.V,x∈K) (h:∀ j,j∉keys K->TD Y ds ops k pend' L' (envf j) ((j,ob)::K)) :
  ExK Y (onl s env) K o fun r K'=>(∀ p∈pend',∀ x∈p.V,x∈K')/\TD Y ds ops k pend' L' (zO env o.dst r) K' :=
 wo hd fun A hv' hn=>⟨_,_,_,hq A hv',.push hv' hn ob,fun p hp x hx=>List.mem_cons_of_mem _ (hv p hp x hx),by dsimp only; rw [he]; exact h _ fun hm=>absurd (hv'.lt hm) (Nat.lt_irrefl _)⟩
theorem we {fo:Operand} {ars:Array Operand} {at_:Array TypeId} {g:FuncId} {fs cp args:List AV} {Kf R:KV} {Post:AV->KV->Prop} (hop:o.op=.call { callee:=.value fo,args:=ars,argTypes:=at_ })
  (hf:zn gm env fo=some (.fn g fs cp)) (hg:yi P g=true) (hargs:fs++ars.toList.map (zI gm env)++cp=args) (hc:zA P T gm g args Kf Post) (hs:Split K Kf R) {Q:AV->KV->Prop} (hq:∀ r K',Post r K'->Q r (K'++R)):ExK Y env K o Q:=zay hop (zx hf) hg hargs hc hs hq
end
end Go.Vel
namespace Go.Vel
open Go Go.Conc
open Go.ConcN (upd)
section
variable {P:Program} {gm:Nat->Option Nat} {T:Goroutine->Hp->Prop} {Y:KX P gm T} {ds:List Nat} {k:List Item} {env env':List AV} {K K':KV} {ops:Array Oper} {i:Nat} {rest:List Nat} {o:Oper} {r:AV} {pend pend':List Pd} {V:KV}
end
section
variable {P:Program}
def bot (P:Program):Frame:={ (default:Frame) with fn:=P.funcs.size,defers:=[],mode:=.panicking [goexitEntry] }
theorem birth {main:Bool} {g:FuncId} (hg:yi P g=true) (xs ys:Array Value) (w:World):stepG P main (born P { target:=.fn (.func g) ys,args:=xs }) w=.go (G (Frame.enter P g (xs++ys) .deferred) [bot P]) w #[]:=by
 unfold yi at hg
 split at hg
 ·rename_i fn e
  simp only [mX,mV] at hg
  have hb:fn.body.isNone=false:=by
   cases e':fn.body with
   | none=>rw [e'] at hg; simp at hg
   | some _=>rfl
  have hr:(callFunc g (xs++ys)).runT P w #[]=(.ok (.enter g (xs++ys)) w,#[]):=by
   show (match P.funcs[g]? with | none=>_ | some fn=>_:Sem Next).runT P w #[]=_
   rw [e]
   simp only [hg.1,hb,mU,if_false]
   rfl
  obtain ⟨e1,e2⟩:=y9 hr
  simp [born,stepG,unwind,callDeferred,invoke,Sem.runT_eq,e1,e2,seen,GStep.after,G,bot]
 ·cases hg
theorem zdu {g:FuncId} {fn:Func} {ts:Array Value} {k:List Item} (hf:P.funcs[g]? =some fn) (hr:fn.results=#[]):QuitsD P 3 0 (G { fr .deferred g none ts [] k with mode:=.returning } [bot P]):=by
 right
 refine ⟨rfl,G (bot P) [],#[],fun e he=>by simp at he,fun w=>?_,?_⟩
 ·have:(results fn ts).runT P w #[]=(.ok (.tuple #[]) w,#[]):=by
   unfold results
   rw [hr,Array.mapM_eq_mapM_toList]
   rfl
  obtain ⟨e1,e2⟩:=y9 this
  simp [G,stepG,unwind,fr,hf,Sem.runT_eq,e1,e2,GStep.after,seen,doReturn,bot,goexitEntry]
 ·right
  refine ⟨rfl,{ frame:=bot P,callers:=[],status:=.finished,dying:=none },#[],fun e he=>by simp at he,fun w=>?_,?_⟩
  ·have:(default:Frame).todo=[]:=rfl
   simp [G,stepG,unwind,bot,Frame.catches,goexitEntry,this]
  ·left
   exact ⟨rfl,rfl⟩
end
end Go.Vel
end
