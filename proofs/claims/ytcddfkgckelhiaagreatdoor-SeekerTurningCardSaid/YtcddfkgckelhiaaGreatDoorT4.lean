/- Texts for the statements of chapter 9: what all of them need, part 5. It holds of every program, tape and world that the statements name, as each theorem says. -/
import Derived.Conc.DeferLaws
import Derived.Test.YtcddfkgckelhiaaGreatDoorProg
import Derived.Test.YtcddfkgckelhiaaGreatDoorT0
import Derived.Test.YtcddfkgckelhiaaGreatDoorT3
section
set_option linter.all false
set_option maxRecDepth 20000
set_option maxHeartbeats 60000000
open Go.Proofs.Tryz renaming prog -> tp
open List renaming getElem?_eq_getElem -> lA, getElem?_eq_some_iff -> lD, length_append -> lF, perm_append_comm -> lH, mem_of_getElem? -> lN, append_nil -> lR, mem_singleton -> lS, mem_append -> lT, take_length -> lW, mem_map -> lY, length_cons -> lZ
open Nat renaming le_refl -> mL, zero_le -> mN, zero_add -> mO, lt_or_ge -> mR, le_trans -> mT
open Bool renaming false_eq_true -> mU, not_eq_true' -> mV, and_eq_true -> mX
open Int renaming toNat_natCast -> mZ
namespace Go.Vel
open Go Go.Conc
open Go.ConcN (upd)
section
variable {P:Program} {gm:Nat->Option Nat} {T:Goroutine->Hp->Prop} {Y:KX P gm T} {ds:List Nat} {k:List Item} {env env':List AV} {K K':KV} {ops:Array Oper} {i:Nat} {rest:List Nat} {o:Oper} {r:AV} {pend pend':List Pd} {V:KV}
theorem zkt {φ:Nat->Loc3} {n i:Nat} {y:Value} (h:RelV φ n (.chan i) y):i<n/\y=.chan (some (φ i).blk):=by cases h; exact ⟨‹_›,rfl⟩
theorem zH {t e:TypeId} {ti:TypeInfo} {d:ChanDir} (ho:o.op=.makeChan t (.const (.int .i64 0))) (ht:P.underlying t=some (.chan d e)) (hi:P.info? e=some ti):Nk P gm env V o (fun j=>.chan j) (.raw (.chan 0 #[] false 0 0 false)):=fun A _ φ F H a hg hH hE=>by
 unfold execOp; rw [ho];refine wpS_v ?_;unfold Instr.makeChan;refine za _ _ _ ?_;show wpS P (underlying t >>= _) H _;refine za _ _ _ (zz ht ?_);dsimp only;refine za _ _ _ (kB hi ?_);rw [if_neg (by have:IntKind.i64.max=9223372036854775807:=rfl; omega)];refine za _ _ _ ?_;intro r hr;refine ⟨_,upd3 φ A.length ⟨r,0,0⟩,.inl rfl,yw _ _ _,by simp,hH.push hr Z (Hp.put_same _ _ _),?_⟩;have:=RelV.chan (φ:=upd3 φ A.length ⟨r,0,0⟩) (n:=(A++[AObj.raw (.chan 0 #[] false 0 0 false)]).length) (i:=A.length) sQ;simpa [upd3] using this
theorem TD.cM {L:List Nat} (M:List Nat) (hM:(!M.isEmpty&&M.all (fun j=>L.elem j)&&L.all (fun j=>M.elem j||(edgesOf .any ops j).any fun e=>L.elem e))=true)
  (h:∀ m∈M,∃ (s:List Nat) (o:Oper) (pend':List Pd) (L':List Nat),ops[m]? =some o/\yd ops (onl s env) o=some true/\pendOf ops m pend=pend'/\(rawOk ops m s&&dstOk pend' ops o.dst&&L'.all (fun j=>L.elem j&&j !=m)&&L.all (fun j=>j==m||L'.elem j))=true /\
   ExK Y (onl s env) K o fun r K'=>(∀ p∈pend',∀ x∈p.V,x∈K')/\TD Y ds ops k pend' L' (putA env o.dst r) K'):TD Y ds ops k pend L env K:=fun hj hraw hV A hA σ=>by
 simp only [mX,List.all_eq_true,Bool.or_eq_true,List.elem_eq_mem,decide_eq_true_eq,mV,List.isEmpty_eq_false_iff] at hM;obtain ⟨⟨q1,q2⟩,q3⟩:=hM
 induction σ with
 | nil =>
  intro _ _ _ hL;obtain ⟨m,hm⟩:=List.exists_mem_of_ne_nil M q1;exact absurd (hL m (q2 m hm)) sQ
 | cons c σ ih =>
  intro hnd hresp hsz hL hcov φ H ts e1 e2 e3 e4 e5 e6;by_cases hcM:c∈M
  ·obtain ⟨s,o,pend',L',ho,hw,hp,hc,hx⟩:=h c hcM;simp only [mX,List.all_eq_true,Bool.or_eq_true,beq_iff_eq,bne_iff_ne,List.elem_eq_mem,decide_eq_true_eq] at hc;obtain ⟨⟨⟨p1,p2⟩,p3⟩,p4⟩:=hc;exact td_do s ho hw hp p1 p2 (q2 c hcM) p3 p4 hx hj hraw hA hnd hresp hsz hL hcov e1 e2 e3 e4 e5 e6
  have hnd':=List.nodup_cons.1 hnd;have hno:c∉L:=fun hm=>by
   rcases q3 c hm with h | h
   ·exact hcM h
   ·rw [List.any_eq_true] at h;obtain ⟨e,he1,he2⟩:=h;exact hresp.1 e he1 (hL e (by simpa using he2))
  rcases hcov c sQ with h7 | ⟨p,hp,e⟩
  ·exact absurd h7 hno
  ·refine zbo hp e (hj p hp) hraw (hV p hp) hA hnd hsz hresp e1 e2 e3 e4 e5 e6 fun φ H ts h1 h3 h5 h6 =>
    ih hnd'.2 hresp.2 (fun j hj=>hsz j (by simp [hj])) (fun j hj=>?_) (fun j hj=>hcov j (by simp [hj])) φ H ts h1 e2 h3 e4 h5 h6
   rcases List.mem_cons.1 (hL j hj) with h8 | h8
   ·exact absurd (h8 ▸ hj) hno
   ·exact h8
theorem uH {s L':List Nat} {j:Nat} {ob ob':AObj} (hd:yc o.op=false) (hq:∀ A,zP K A->OpOk P gm (onl s env) A o r (A.set j ob')) (hu:Upd K j ob j ob' K') (he:putA env o.dst r=env') (hv:∀ p∈pend',∀ x∈p.V,x∈K') (h:TD Y ds ops k pend' L' env' K') :
  ExK Y (onl s env) K o fun r K'=>(∀ p∈pend',∀ x∈p.V,x∈K')/\TD Y ds ops k pend' L' (putA env o.dst r) K' :=
 k9 hd fun A hv' hn=>⟨r,_,K',hq A hv',.set hv' hn hu,hv,by rw [he]; exact h⟩
theorem zX {s L':List Nat} {ob:AObj} {envf:Nat->List AV} (hd:yc o.op=false) (hq:Nk P gm (onl s env) K o (fun j=>.chan j) ob) (he:∀ j,putA env o.dst (.chan j)=envf j) (hv:∀ p∈pend',∀ x∈p.V,x∈K) (h:∀ j,j∉keys K->TD Y ds ops k pend' L' (envf j) ((j,ob)::K)) :
  ExK Y (onl s env) K o fun r K'=>(∀ p∈pend',∀ x∈p.V,x∈K')/\TD Y ds ops k pend' L' (putA env o.dst r) K' :=
 k9 hd fun A hv' hn=>⟨_,_,_,hq A hv',.push hv' hn ob,fun p hp x hx=>List.mem_cons_of_mem _ (hv p hp x hx),by dsimp only; rw [he]; exact h _ fun hm=>absurd (hv'.lt hm) (Nat.lt_irrefl _)⟩
end
section
variable {P:Program}
def bot (P:Program):Frame:={ (default:Frame) with fn:=P.funcs.size,defers:=[],mode:=.panicking [goexitEntry] }
theorem birth {main:Bool} {g:FuncId} (hg:ym P g=true) (xs ys:Array Value) (w:World):stepG P main (born P { target:=.fn (.func g) ys,args:=xs }) w=.go (G (Frame.enter P g (xs++ys) .deferred) [bot P]) w #[]:=by
 unfold ym at hg;split at hg
 ·rename_i fn e;simp only [mX,mV] at hg;have hb:fn.body.isNone=false:=by
   cases e':fn.body with
   | none=>rw [e'] at hg; simp at hg
   | some _=>rfl
  have hr:(callFunc g (xs++ys)).runT P w #[]=(.ok (.enter g (xs++ys)) w,#[]):=by
   show (match P.funcs[g]? with | none=>_ | some fn=>_:Sem Next).runT P w #[]=_;rw [e];simp only [hg.1,hb,mU,if_false];rfl
  obtain ⟨e1,e2⟩:=yU hr;simp [born,stepG,unwind,callDeferred,invoke,Sem.runT_eq,e1,e2,seen,GStep.after,G,bot]
 ·cases hg
theorem zbD {g:FuncId} {fn:Func} {ts:Array Value} {k:List Item} (hf:P.funcs[g]? =some fn) (hr:fn.results=#[]):QuitsD P 3 0 (G { fr .deferred g none ts [] k with mode:=.returning } [bot P]):=by
 right;refine ⟨rfl,G (bot P) [],#[],fun e he=>by simp at he,fun w=>?_,?_⟩
 ·have:(results fn ts).runT P w #[]=(.ok (.tuple #[]) w,#[]):=by
   unfold results;rw [hr,Array.mapM_eq_mapM_toList];rfl
  obtain ⟨e1,e2⟩:=yU this;simp [G,stepG,unwind,fr,hf,Sem.runT_eq,e1,e2,GStep.after,seen,doReturn,bot,goexitEntry]
 ·right;refine ⟨rfl,{ frame:=bot P,callers:=[],status:=.finished,dying:=none },#[],fun e he=>by simp at he,fun w=>?_,?_⟩
  ·have:(default:Frame).todo=[]:=rfl;simp [G,stepG,unwind,bot,Frame.catches,goexitEntry,this]
  ·left;exact ⟨rfl,rfl⟩
theorem uo {n:Nat} {g g':Goroutine} (hs:g.status=.running) (h:∀ w,stepG P false g w=.go g' w #[]) (hq:QuitsD P n 0 g'):QuitsD P (n+1) 0 g:=.inr ⟨hs,g',#[],fun e he=>by simp at he,h,hq⟩
theorem zjn {g:FuncId} {fn:Func} {ops:Array Oper} {ts:Array Value} {k:List Item} (hf:P.funcs[g]? =some fn) (hr:fn.results=#[]):QuitsD P 5 0 (G (fr .deferred g none ts [] (.inRegion ops []::.code .ret::k)) [bot P]) :=
 uo rfl (fun _=>vD) (uo rfl (fun _=>zc1) (zbD hf hr))
theorem zjm {g:FuncId} {fn:Func} {ops:Array Oper} {ts:Array Value} (hf:P.funcs[g]? =some fn) (hr:fn.results=#[]):QuitsD P 5 0 (G (fr .deferred g none ts [] [.inRegion ops []]) [bot P]) :=
 uo rfl (fun _=>vD) (uo rfl (fun _=>zc0) (zbD hf hr))
variable {gm:Nat->Option Nat} {m:Nat×Value} {Y:KX P gm (TreeW P (AtSend P m))} {env:List AV} {K:KV} {ops:Array Oper} {i:Nat} {o:Oper} {k:List Item}
theorem TK.sendW {c x:Operand} {u:AV} (ho:ops[i]? =some o) (hop:o.op=.send c x) (hw:yd ops env o=some true) (hc:zr gm env c=some (.v (.chan (some m.1)))) (hx:zr gm env x=some u) (hu:toV u=some m.2)
  (hkd:Y.X.kd=.deferred) (hro:Y.X.ro=none) (hcs:Y.X.cs=[bot P]) (hq:∀ ts,QuitsD P 5 0 (G (fr .deferred Y.X.f none ts [] (.inRegion ops []::k)) [bot P])):TK Y [] (.inRegion ops [i]::k) env K:=fun A hA φ H ts h1 h2 h3 h4 h5 h6=>by
 refine .stop ⟨G (fr Y.X.kd Y.X.f Y.X.ro ts (dsC φ []) (.inRegion ops [i]::k)) Y.X.cs,.tuple #[],5,rfl,?_,fun w hf=>⟨#[],?_,fun e he=>by simp at he⟩⟩
 ·have hfin:=kD Y.X.kd Y.X.f Y.X.ro ts (dsC φ []) ops i [] k undef;simp only [Go.Conc.served,G] at *
  rw [hfin,hkd,hro,hcs];exact hq _
 ·have e1:=zu (a:=⟨ts,[]⟩) h3 h6 c;rw [zq hc] at e1;have e2:=zu (a:=⟨ts,[]⟩) h3 h6 x;rw [zq hx] at e2;have e1':evT ts c=.chan (some m.1):=inv_v e1;have e2':evT ts x=m.2:=vP hu e2;rw [vb Y.X.hkd ho (y9 h6 hw) (by rw [hop]; rfl)];have hex:execOp (evT ts) o=pure (.comm #[scase m.1 m.2 (.tuple #[])] true .send):=by
   unfold execOp;rw [hop];dsimp only;rw [e1',e2'];rfl
  rw [hex];simp [stepG.apply,Sem.runT,fr,GStep.after,seen,pure];rfl
end
end Go.Vel
namespace Go.Vel
open Go Go.Conc
section
variable {P:Program} {gm:Nat->Option Nat} {T:Goroutine->Hp->Prop} {Y:KX P gm T} {ds:List Nat} {k:List Item} {env env':List AV} {K K':KV} {ops:Array Oper} {i d:Nat} {L':List Nat} {o:Oper} {r:AV} {pend pend':List Pd}
theorem TD.z (s:List Nat) (ho:ops[i]? =some o) (hq:∀ A,zP [] A->OpOk P gm (onl s env) A o r A) (h:TD Y ds ops k (⟨i,s,[]⟩::pend) L' env' K) (hd:yc o.op=false:=by rfl) (hw:yd ops (onl s env) o=some true:=by rfl) (hc:chkQ ops pend s i env.length o.dst=true:=by rfl) (hx:o.dst=some d:=by rfl) (he:env.set d r=env':=by simp only [List.set]; rfl):TD Y ds ops k pend (i::L') env K :=
 TD.q s [] ho hd hw hc sQ hq (zy hx he) h
theorem TD.y (s:List Nat) {x:Nat×AObj} (ho:ops[i]? =some o) (hm:x∈K:=by repeat (first | exact List.Mem.head _ | assumption | apply List.Mem.tail)) (hq:∀ A,zP [x] A->OpOk P gm (onl s env) A o r A) (h:TD Y ds ops k (⟨i,s,[x]⟩::pend) L' env' K) (hd:yc o.op=false:=by rfl) (hw:yd ops (onl s env) o=some true:=by rfl) (hc:chkQ ops pend s i env.length o.dst=true:=by rfl) (hx:o.dst=some d:=by rfl) (he:env.set d r=env':=by simp only [List.set]; rfl):TD Y ds ops k pend (i::L') env K :=
 TD.q s [x] ho hd hw hc (fun y hy=>by rw [List.mem_singleton.1 hy]; exact hm) hq (zy hx he) h
theorem TD.u (s:List Nat) (ho:ops[i]? =some o) (h:TD Y ds ops k (⟨i,s,[]⟩::pend) L' env' K) (hw:yd ops (onl s env) o=some false:=by rfl) (hc:chkQ ops pend s i env.length o.dst=true:=by rfl) (he:putA env o.dst (.v undef)=env':=by first | exact zy rfl tQ | exact putN rfl):TD Y ds ops k pend (i::L') env K :=
 TD.unwanted s ho hw hc he h
theorem TD.s {j:Nat} {ob ob':AObj} (s:List Nat) (ho:ops[i]? =some o) (hp':pendOf ops i pend=pend') (hq:∀ A,zP K A->OpOk P gm (onl s env) A o r (A.set j ob')) (h:TD Y ds ops k pend' L' env K') (hu:Upd K j ob j ob' K':=by repeat (first | exact Upd.head | apply Upd.tail)) (hv:∀ p∈pend',∀ x∈p.V,x∈K':=by simp) (hd:yc o.op=false:=by rfl) (hw:yd ops (onl s env) o=some true:=by rfl) (hc:chkC ops pend' L' s i o.dst=true:=by rfl) (hx:o.dst=none:=by rfl):TD Y ds ops k pend (i::L') env K :=
 TD.cst s ho hd hw hp' hc hq hu (putN hx) hv h
theorem TD.as (s:List Nat) (ho:ops[i]? =some o) (hp':pendOf ops i pend=pend') (hq:Qk P gm (onl s env) K o r) (h:TD Y ds ops k pend' L' env' K) (hv:∀ p∈pend',∀ x∈p.V,x∈K:=by simp) (hd:yc o.op=false:=by rfl) (hw:yd ops (onl s env) o=some true:=by rfl) (hc:chkC ops pend' L' s i o.dst=true:=by rfl) (hx:o.dst=some d:=by rfl) (he:env.set d r=env':=by simp only [List.set]; rfl):TD Y ds ops k pend (i::L') env K :=
 TD.cq s ho hd hw hp' hc hq (zy hx he) hv h
theorem TD.cl {fo:Operand} {ars:Array Operand} {at_:Array TypeId} {g:FuncId} {fs cp args:List AV} {Kf R:KV} {Post:AV->KV->Prop} (s:List Nat) (ho:ops[i]? =some o) (hp':pendOf ops i pend=pend') (hop:o.op=.call { callee:=.value fo,args:=ars,argTypes:=at_ })
  (hf:zr gm (onl s env) fo=some (.fn g fs cp)) (hargs:fs++ars.toList.map (zI gm (onl s env))++cp=args) (hc:zg P T gm g args Kf Post)
  (h:∀ r K',Post r K'->(∀ p∈pend',∀ x∈p.V,x∈K'++R)/\TD Y ds ops k pend' L' (env.set d r) (K'++R)) (hs:Split K Kf R:=by repeat (first | exact Split.none _ | exact Split.all _ | (apply Split.rem; repeat (first | exact Rem.head | apply Rem.tail)) | apply Split.right)) (hw:yd ops (onl s env) o=some true:=by rfl) (hc':chkC ops pend' L' s i o.dst=true:=by rfl) (hg:ym P g=true:=by exact Cal.h) (hx:o.dst=some d:=by rfl):TD Y ds ops k pend (i::L') env K :=
 TD.call' s ho hw hp' hc' hop hf hg hargs hc hs fun r K' hp=>by rw [hx]; exact h r K' hp
end
structure Tag (s:List Nat):Prop where
structure RunS (s:List Nat) (l:List (List Nat)) (G:Prop):Prop where
 go:G
structure RunD (l:List (List Nat)) (G:Prop):Prop where
 go:G
theorem Dc (c:Nat) {s:List Nat} {l:List (List Nat)} {G:Prop} (h:RunS s l G):RunD ((c::s)::l) G:=⟨h.go⟩
theorem Ds {s:List Nat} {l:List (List Nat)} {A B:Prop} (f:Tag s->A->B) (h:RunD l A):RunS s l B:=⟨f ⟨⟩ h.go⟩
section
variable {P:Program} {gm:Nat->Option Nat} {T:Goroutine->Hp->Prop} {Y:KX P gm T} {ds:List Nat} {k:List Item} {env env':List AV} {K:KV} {ops:Array Oper} {i d id:Nat} {s L':List Nat} {o:Oper} {r:AV} {pend:List Pd}
theorem TK.dr (L ρg:List Nat) (h:TD Y ds ops k [] L env K) (hd:drawnOk ops (List.range ops.size) ρg=true:=by kernel_rfl) (hL:(List.range ops.size).all (fun i=>L.elem i) && L.all (fun i=>decide (i < ops.size))=true:=by kernel_rfl):TK Y ds (.code (.region id ops true)::k) env K:=TK.draw L ρg hd hL h
theorem TD.q0 (t:Tag s) (ho:ops[i]?=some o) (hq:∀ A,zP [] A->OpOk P gm (onl s env) A o r A) (h:TD Y ds ops k (⟨i,s,[]⟩::pend) L' env' K) (hd:yc o.op=false:=by rfl) (hw:yd ops (onl s env) o=some true:=by rfl) (hc:chkQ ops pend s i env.length o.dst=true:=by rfl) (hx:o.dst=some d:=by rfl) (he:env.set d r=env':=by simp only [List.set]; rfl):TD Y ds ops k pend (i::L') env K:=TD.z s ho hq h hd hw hc hx he
theorem TD.ld (t:Tag s) {x:Nat×AObj} (ho:ops[i]?=some o) (hq:∀ A,zP [x] A->OpOk P gm (onl s env) A o r A) (h:TD Y ds ops k (⟨i,s,[x]⟩::pend) L' env' K) (hm:x ∈ K:=by repeat (first | exact List.Mem.head _ | assumption | apply List.Mem.tail)) (hd:yc o.op=false:=by rfl) (hw:yd ops (onl s env) o=some true:=by rfl) (hc:chkQ ops pend s i env.length o.dst=true:=by rfl) (hx:o.dst=some d:=by rfl) (he:env.set d r=env':=by simp only [List.set]; rfl):TD Y ds ops k pend (i::L') env K:=TD.y s ho hm hq h hd hw hc hx he
theorem TD.a0 (t:Tag s) (h:TD Y ds ops k [] L' env' K) (ho:ops[i]?=some o:=by rfl) (hp:pendOf ops i pend=[]:=by rfl) (hq:Qk P gm (onl s env) K o r:=by exact zV rfl rfl) (hd:yc o.op=false:=by rfl) (hw:yd ops (onl s env) o=some true:=by rfl) (hc:chkC ops [] L' s i o.dst=true:=by rfl) (hx:o.dst=some d:=by rfl) (he:env.set d r=env':=by simp only [List.set]; rfl):TD Y ds ops k pend (i::L') env K:=TD.as s ho hp hq h (fun _ q=>(List.not_mem_nil q).elim) hd hw hc hx he
theorem TK.dq [rl:RgL ops L'] (ρg:List Nat) (h:TD Y ds ops k [] L' env K) (hd:drawnOk ops (List.range ops.size) ρg=true:=by kernel_rfl) (hL:(List.range ops.size).all (fun i=>L'.elem i) && L'.all (fun i=>decide (i < ops.size))=true:=by kernel_rfl):TK Y ds (.code (.region id ops true)::k) env K:=TK.draw L' ρg hd hL h
theorem TD.u0 (t:Tag s) (h:TD Y ds ops k (⟨i,s,[]⟩::pend) L' env' K) (ho:ops[i]?=some o:=by rfl) (hw:yd ops (onl s env) o=some false:=by rfl) (hc:chkQ ops pend s i env.length o.dst=true:=by rfl) (he:putA env o.dst (.v undef)=env':=by first | exact zy rfl (by simp only [List.set]; rfl) | exact putN rfl):TD Y ds ops k pend (i::L') env K:=TD.u s ho h hw hc he
end
theorem ad (l:List (List Nat)) {G G':Prop} (h:G') (hs:Hide G'->RunD l G:=by
  intro hid;repeat (first
    | (refine Dc 1 ?_; refine Ds (fun t h=>TD.q0 t rfl (zB rfl rfl) h) ?_)
    | (refine Dc 2 ?_; refine Ds (fun t h=>TD.q0 t rfl (yY rfl rfl rfl SlEl.h (by omega) (by omega)) h) ?_)
    | (refine Dc 3 ?_; refine Ds (fun t h=>TD.q0 t rfl (zk rfl rfl zl.h (by decide)) h) ?_)
    | (refine Dc 4 ?_; refine Ds (fun t h=>TD.q0 t rfl (q_cmp rfl rfl rfl rfl) h) ?_)
    | (refine Dc 5 ?_; refine Ds (fun t h=>TD.q0 t rfl (kw rfl rfl rfl) h) ?_)
    | (refine Dc 6 ?_; refine Ds (fun t h=>TD.q0 t rfl (yI rfl rfl rfl) h) ?_)
    | (refine Dc 7 ?_; refine Ds (fun t h=>TD.q0 t rfl (w9 rfl rfl rfl) h) ?_)
    | (refine Dc 8 ?_; refine Ds (fun t h=>TD.q0 t rfl (q_add rfl rfl rfl (by omega)) h) ?_)
    | (refine Dc 9 ?_; refine Ds (fun t h=>TD.q0 t rfl (q_sub rfl rfl rfl (by omega)) h) ?_)
    | (refine Dc 10 ?_; refine Ds (fun t h=>TD.ld t rfl (zp rfl rfl zd.h (List.Mem.head _) rfl) h) ?_)
    | (refine Dc 11 ?_; refine Ds (fun t h=>TD.u0 t h) ?_)
    | (refine Dc 12 ?_; refine Ds (fun t h=>TD.ld t rfl (zK rfl rfl zd.h (List.Mem.head _) rfl) h) ?_)
    | (refine Dc 13 ?_; refine Ds (fun t h=>TD.a0 t h) ?_)
    | (refine Dc 14 ?_; refine Ds (fun t h=>TD.fin h) ?_))
  exact RunD.mk (l:=[]) hid.out):G:=(hs ⟨h⟩).go
end Go.Vel
namespace Go.Vel
open Go Go.Conc Go.Proofs
instance:ApOf tp 138 61 1 24:={}
instance:ApOf tp 215 209 4 32:={}
instance:ApOf tp 230 229 2 16:={}
instance:ApOf tp 234 238 2 32:={}
instance:ApOf tp 24 114 5 48:={}
instance:ApOf tp 25 200 2 16:={}
instance:ApOf tp 61 3 1 8:={}
instance:ArEl tp 207 3 3 false 1:={}
instance:ArEl tp 308 3 307 false 1:={}
instance:ArEl tp 313 3 312 false 1:={}
instance:BlOf tp 114 [(0,1),(1,1),(2,1),(3,1),(4,1)]:={}
instance:BlOf tp 200 [(0,1),(1,1)]:={}
instance:BlOf tp 205 [(0,6)]:={}
instance:BlOf tp 209 [(0,1),(1,3)]:={}
instance:BlOf tp 219 [(0,6),(6,1),(7,1)]:={}
instance:BlOf tp 229 [(0,1),(1,1)]:={}
instance:BlOf tp 23 [(0,1),(1,1)]:={}
instance:BlOf tp 238 [(0,1),(1,1)]:={}
instance:BlOf tp 27 [(0,1),(1,1),(2,2),(4,1),(5,1)]:={}
instance:Cal tp 100:={}
instance:Cal tp 101:={}
instance:Cal tp 102:={}
instance:Cal tp 103:={}
instance:Cal tp 104:={}
instance:Cal tp 105:={}
instance:Cal tp 106:={}
instance:Cal tp 107:={}
instance:Cal tp 108:={}
instance:Cal tp 109:={}
instance:Cal tp 110:={}
instance:Cal tp 111:={}
instance:Cal tp 112:={}
instance:Cal tp 113:={}
instance:Cal tp 114:={}
instance:Cal tp 115:={}
instance:Cal tp 116:={}
instance:Cal tp 117:={}
instance:Cal tp 118:={}
instance:Cal tp 119:={}
instance:Cal tp 12:={}
instance:Cal tp 120:={}
instance:Cal tp 121:={}
instance:Cal tp 122:={}
instance:Cal tp 123:={}
instance:Cal tp 124:={}
instance:Cal tp 125:={}
instance:Cal tp 126:={}
instance:Cal tp 127:={}
instance:Cal tp 128:={}
instance:Cal tp 129:={}
instance:Cal tp 130:={}
instance:Cal tp 171:={}
instance:Cal tp 172:={}
instance:Cal tp 173:={}
instance:Cal tp 174:={}
instance:Cal tp 175:={}
instance:Cal tp 176:={}
instance:Cal tp 179:={}
instance:Cal tp 180:={}
instance:Cal tp 181:={}
instance:Cal tp 202:={}
instance:Cal tp 203:={}
instance:Cal tp 204:={}
instance:Cal tp 216:={}
instance:Cal tp 226:={}
instance:Cal tp 229:={}
instance:Cal tp 241:={}
instance:Cal tp 262:={}
instance:Cal tp 284:={}
instance:Cal tp 285:={}
instance:Cal tp 286:={}
instance:Cal tp 287:={}
instance:Cal tp 288:={}
instance:Cal tp 289:={}
instance:Cal tp 290:={}
instance:Cal tp 291:={}
instance:Cal tp 292:={}
instance:Cal tp 293:={}
instance:Cal tp 32:={}
instance:Cal tp 33:={}
instance:Cal tp 34:={}
instance:Cal tp 35:={}
instance:Cal tp 36:={}
instance:Cal tp 37:={}
instance:Cal tp 38:={}
instance:Cal tp 39:={}
instance:Cal tp 40:={}
instance:Cal tp 41:={}
instance:Cal tp 42:={}
instance:Cal tp 43:={}
instance:Cal tp 44:={}
instance:Cal tp 45:={}
instance:Cal tp 46:={}
instance:Cal tp 47:={}
instance:Cal tp 48:={}
instance:Cal tp 49:={}
instance:Cal tp 50:={}
instance:Cal tp 51:={}
instance:Cal tp 92:={}
instance:Cal tp 93:={}
instance:Cal tp 94:={}
instance:Cal tp 95:={}
instance:Cal tp 96:={}
instance:Cal tp 97:={}
instance:Cal tp 98:={}
instance:Cal tp 99:={}
instance:EqG tp 23:={}
instance:FlatF tp 23 [(3,0),(3,1)]:={}
instance:zl tp 114 0 0 false 1:={}
instance:zl tp 114 1 1 false 1:={}
instance:zl tp 114 2 2 false 1:={}
instance:zl tp 114 3 3 false 1:={}
instance:zl tp 114 4 4 false 1:={}
instance:zl tp 200 0 0 false 1:={}
instance:zl tp 200 1 1 false 1:={}
instance:zl tp 205 0 0 true 6:={}
instance:zl tp 209 0 0 false 1:={}
instance:zl tp 209 1 1 true 3:={}
instance:zl tp 219 0 0 true 6:={}
instance:zl tp 219 1 6 false 1:={}
instance:zl tp 219 2 7 false 1:={}
instance:zl tp 229 0 0 false 1:={}
instance:zl tp 229 1 1 false 1:={}
instance:zl tp 23 0 0 false 1:={}
instance:zl tp 23 1 1 false 1:={}
instance:zl tp 238 0 0 false 1:={}
instance:zl tp 238 1 1 false 1:={}
instance:zl tp 27 0 0 false 1:={}
instance:zl tp 27 1 1 false 1:={}
instance:zl tp 27 2 2 true 2:={}
instance:zl tp 27 3 4 false 1:={}
instance:zl tp 27 4 5 false 1:={}
instance:InfO tp 114 Tryz.t114:={}
instance:InfO tp 229 Tryz.t229:={}
instance:InfO tp 3 Tryz.t3:={}
instance:InfO tp 4 Tryz.t4:={}
instance {a0 a1 a2 a3 a4 a5 a6 a7 a8 a9 a10 a11 a12 a13 a14 a15 a16 a17 a18 a19 a20 a21 a22 a23 a24 a25 a26 a27 a28 a29 a30 a31 a32 a33 a34 a35 a36 a37 a38 a39 a40 a41 a42 a43 a44 a45 a46 a47 a48 a49 a50 a51 a52 a53 a54 a55 a56 a57 a58 a59 a60 a61:Oper}:RgL #[a0,a1,a2,a3,a4,a5,a6,a7,a8,a9,a10,a11,a12,a13,a14,a15,a16,a17,a18,a19,a20,a21,a22,a23,a24,a25,a26,a27,a28,a29,a30,a31,a32,a33,a34,a35,a36,a37,a38,a39,a40,a41,a42,a43,a44,a45,a46,a47,a48,a49,a50,a51,a52,a53,a54,a55,a56,a57,a58,a59,a60,a61] [0,1,2,3,4,5,6,7,8,9,10,11,12,13,14,15,16,17,18,19,20,21,22,23,24,25,26,27,28,29,30,31,32,33,34,35,36,37,38,39,40,41,42,43,44,45,46,47,48,49,50,51,52,53,54,55,56,57,58,59,60,61]:=⟨rfl⟩
instance {a0 a1 a2 a3 a4 a5 a6 a7 a8 a9 a10 a11 a12 a13 a14 a15 a16 a17 a18 a19 a20 a21 a22 a23 a24 a25 a26 a27 a28 a29 a30 a31 a32 a33 a34 a35 a36 a37 a38 a39 a40 a41 a42 a43 a44 a45 a46 a47 a48 a49 a50 a51 a52 a53 a54 a55 a56 a57 a58 a59 a60 a61 a62 a63 a64 a65 a66 a67 a68 a69 a70 a71 a72 a73:Oper}:RgL (List.toArray (List.append [a0,a1,a2,a3,a4,a5,a6,a7,a8,a9,a10,a11,a12,a13,a14,a15,a16,a17,a18,a19,a20,a21,a22,a23,a24,a25,a26,a27,a28,a29,a30,a31,a32,a33,a34,a35,a36] [a37,a38,a39,a40,a41,a42,a43,a44,a45,a46,a47,a48,a49,a50,a51,a52,a53,a54,a55,a56,a57,a58,a59,a60,a61,a62,a63,a64,a65,a66,a67,a68,a69,a70,a71,a72,a73])) (0::1::2::3::4::5::6::7::8::9::10::11::12::13::14::15::16::17::18::19::20::21::22::23::24::25::26::27::28::29::30::31::32::33::34::35::36::37::38::39::40::41::42::43::44::45::46::47::48::49::50::51::52::53::54::55::56::57::58::59::60::61::62::63::64::65::66::67::68::69::70::71::72::73::[]):=⟨rfl⟩
instance:SlEl tp 138 61 1:={}
instance:SlEl tp 215 209 4:={}
instance:SlEl tp 230 229 2:={}
instance:SlEl tp 234 238 2:={}
instance:SlEl tp 24 114 5:={}
instance:SlEl tp 25 200 2:={}
instance:SlEl tp 407 5 1:={}
instance:SlEl tp 61 3 1:={}
instance:zd tp 112 false 1:={}
instance:zd tp 114 true 5:={}
instance:zd tp 200 true 2:={}
instance:zd tp 205 true 6:={}
instance:zd tp 207 true 3:={}
instance:zd tp 209 true 4:={}
instance:zd tp 212 false 1:={}
instance:zd tp 214 false 1:={}
instance:zd tp 215 false 1:={}
instance:zd tp 217 false 1:={}
instance:zd tp 219 true 8:={}
instance:zd tp 226 false 1:={}
instance:zd tp 227 false 1:={}
instance:zd tp 229 true 2:={}
instance:zd tp 23 true 2:={}
instance:zd tp 234 false 1:={}
instance:zd tp 238 true 2:={}
instance:zd tp 24 false 1:={}
instance:zd tp 25 false 1:={}
instance:zd tp 27 true 6:={}
instance:zd tp 3 false 1:={}
instance:zd tp 307 false 1:={}
instance:zd tp 313 true 3:={}
instance:zd tp 35 false 1:={}
instance:zd tp 4 false 1:={}
instance:zd tp 5 false 1:={}
instance:zd tp 61 false 1:={}
instance:zd tp 9 false 1:={}
instance:TyZ tp 114 [.string ⟨#[]⟩,.int .i64 0,.int .i64 0,.int .i64 0,.bool false]:={}
instance:TyZ tp 200 [.int .i64 0,.bool false]:={}
instance:TyZ tp 205 [.int .i64 0,.int .i64 0,.int .i64 0,.int .i64 0,.slice none 0 0,.slice none 0 0]:={}
instance:TyZ tp 209 [.int .i64 0,.int .i64 0,.int .i64 0,.int .i64 0]:={}
instance:TyZ tp 219 [.int .i64 0,.int .i64 0,.int .i64 0,.int .i64 0,.slice none 0 0,.slice none 0 0,.slice none 0 0,.map none]:={}
instance:TyZ tp 229 [.int .i64 0,.int .i64 0]:={}
instance:TyZ tp 23 [.int .i64 0,.int .i64 0]:={}
instance:TyZ tp 238 [.slice none 0 0,.int .i64 0]:={}
instance:TyZ tp 27 [.int .i64 0,.int .i64 0,.int .i64 0,.int .i64 0,.slice none 0 0,.slice none 0 0]:={}
instance:TyZ tp 3 [.int .i64 0]:={}
instance:TyZ tp 61 [.slice none 0 0]:={}
instance:TyZA tp 114 [.v (.string ⟨#[]⟩),.v (.int .i64 0),.v (.int .i64 0),.v (.int .i64 0),.v (.bool false)]:={}
instance:TyZA tp 205 [.v (.int .i64 0),.v (.int .i64 0),.v (.int .i64 0),.v (.int .i64 0),.v (.slice none 0 0),.v (.slice none 0 0)]:={}
instance:TyZA tp 209 [.v (.int .i64 0),.v (.int .i64 0),.v (.int .i64 0),.v (.int .i64 0)]:={}
instance:TyZA tp 212 [.v (.nilFunc)]:={}
instance:TyZA tp 215 [.v (.slice none 0 0)]:={}
instance:TyZA tp 219 [.v (.int .i64 0),.v (.int .i64 0),.v (.int .i64 0),.v (.int .i64 0),.v (.slice none 0 0),.v (.slice none 0 0),.v (.slice none 0 0),.v (.map none)]:={}
instance:TyZA tp 226 [.v (.chan none)]:={}
instance:TyZA tp 227 [.v (.chan none)]:={}
instance:TyZA tp 229 [.v (.int .i64 0),.v (.int .i64 0)]:={}
instance:TyZA tp 23 [.v (.int .i64 0),.v (.int .i64 0)]:={}
instance:TyZA tp 234 [.v (.slice none 0 0)]:={}
instance:TyZA tp 238 [.v (.slice none 0 0),.v (.int .i64 0)]:={}
instance:TyZA tp 27 [.v (.int .i64 0),.v (.int .i64 0),.v (.int .i64 0),.v (.int .i64 0),.v (.slice none 0 0),.v (.slice none 0 0)]:={}
instance:TyZA tp 3 [.v (.int .i64 0)]:={}
instance:TyZA tp 35 [.v (.int .i64 0)]:={}
instance:TyZA tp 4 [.v (.bool false)]:={}
instance:Und tp 138 (.slice 61):={}
instance:Und tp 215 (.slice 209):={}
instance:Und tp 217 (.map 3 3):={}
instance:Und tp 226 (.chan .both 229):={}
instance:Und tp 227 (.chan .both 4):={}
instance:Und tp 230 (.slice 229):={}
instance:Und tp 234 (.slice 238):={}
instance:Und tp 24 (.slice 114):={}
instance:Und tp 25 (.slice 200):={}
instance:Und tp 3 (.int .i64):={}
instance:Und tp 4 .bool:={}
instance:Und tp 407 (.slice 5):={}
instance:Und tp 5 (.int .u8):={}
instance:Und tp 61 (.slice 3):={}
instance:Und tp 9 .string:={}
structure Says where
 name:ByteArray
 frm:Int
 til:Int
 says:Int
 glass:Bool
structure Seen where
 step:Int
 seam:Bool
structure Bk where
 steps:Int
 wrong:Int
 low:Int
 high:Int
 seekers:List Says
 seen:List Seen
instance:Inhabited Says:=⟨⟨ByteArray.empty,0,0,0,false⟩⟩
instance:Inhabited Seen:=⟨⟨0,false⟩⟩
def intA (n:Int):AV:=.v (.int .i64 n)
def zm (t:Bool):AV:=.v (.bool t)
def saysC (x:Says):List AV:=[.v (.string x.name),intA x.frm,intA x.til,intA x.says,zm x.glass]
def seenC (x:Seen):List AV:=[intA x.step,zm x.seam]
def zx (b:Bk) (s e:Nat):List AV:=[intA b.steps,intA b.wrong,intA b.low,intA b.high,.sl s 0 b.seekers.length,.sl e 0 b.seen.length]
def zn (b:Bk):AObj:=.cells (b.seekers.flatMap saysC) 114 false
def zo (b:Bk):AObj:=.cells (b.seen.flatMap seenC) 200 false
def slotS (S:List Int) (i:Nat):AV:=intA (((S[i]?).map (· + 1)).getD 0)
def zY (S:List Int):List AV:=[intA S.length,slotS S 0,slotS S 1,slotS S 2]
theorem zeu {S:List Int} (hS:S.length<=3) {i:Nat} (hi:i<S.length) {n:Int} {e:TypeId} {rw:Bool} (h:n=(i:Int)):zZ (.cells (zY S) e rw) (1+n.toNat*1) 1=some [intA (S[i]+1)]:=by
 subst h;have:i=0\/i=1\/i=2:=by omega
 rcases this with rfl | rfl | rfl <;> simp [zZ,AObj.look,zY,slotS,hi]
theorem zci {xs:List Int} {i:Nat} (hi:i<xs.length) {n:Int} {e:TypeId} {s:Nat} (h:n=(i:Int)):zZ (.row (xs.map intA) e s) (n.toNat*1) 1=some [intA xs[i]]:=by
 subst h;simp only [zZ,AObj.look];rw [if_pos (by simp; omega)];simp [List.take_one,hi]
def inM (b:Bk) (S:List Int) (lo w:Int):Int:=(S.filter fun x=>decide ((x - lo+b.steps) % b.steps<w)).length
theorem ziK (b:Bk) (S:List Int) (lo w:Int):0<=inM b S lo w/\inM b S lo w<=S.length:=⟨Int.natCast_nonneg _,Int.ofNat_le.2 (List.length_filter_le _ _)⟩
theorem zfp {b:Bk} {S:List Int} {lo w:Int} {i:Nat} (h:i<S.length):inM b (S.take (i+1)) lo w=inM b (S.take i) lo w+if (S[i] - lo+b.steps) % b.steps<w then 1 else 0:=by
 unfold inM;rw [List.take_add_one,lA h,List.filter_append,lF];by_cases hc:(S[i] - lo+b.steps) % b.steps<w
 ·rw [if_pos hc]; simp only [Option.toList,List.filter_cons,List.filter_nil,decide_eq_true hc,if_true]; rfl
 ·rw [if_neg hc]; simp only [Option.toList,List.filter_cons,List.filter_nil,decide_eq_false hc,mU,if_false]; rfl
theorem zbk {main T} (hT:zh tp main T) {gm} {S:List Int} (hS:S.length<=3) (hB:∀ x∈S,0<=x/\x<1000) :
  zg tp T gm 119 [.agg (zY S)] [] (fun r K'=>∃ j,r=.row j S.length/\K'=[(j,.row (S.map intA) 3 1)]):=by
 refine ze 22 hT Tryz.func119 fun Y hret=>?_;refine au 21042 ?_;intro js hjs;refine au 54235 ?_;refine TK.virt 3 3 1 Z fun j0 hj0=>?_;refine au 6906706704223 ?_;refine TK.a Z (zcT Z Z ArEl.h Z Z oQ oQ Z) ?_;refine au 13031280 ?_;refine TK.maskL [3,9,10,11] ?_;refine TK.loopN (fun n env K=>∃ (i j:Nat),n=S.length - i/\i<=S.length/\env=zJ 22 [(3,.row j i),(9,.sl js 1 S.length),(10,intA S.length),(11,intA i)]/\K=[(j,.row ((S.take i).map intA) 3 1),(js,.cells (zY S) 209 true)]) S.length ⟨0,j0,rfl,mN _,rfl,rfl⟩ fun n env K hI hnext=>?_;obtain ⟨i,j,rfl,hi,rfl,rfl⟩:=hI;refine au 923742 ?_;refine ⟨fun hc=>?_,fun hc=>?_⟩
 ·simp only [decide_eq_true_eq] at hc;have hil:i<S.length:=by omega
  refine au 360421302120 ?_;refine TK.a Z (zp Z Z zd.h mQ (zeu (i:=i) hS oQ Z)) ?_;refine au 11435 ?_;refine TK.a Z (q_sub Z Z Z (by have:=hB S[i] (List.getElem_mem _); omega)) ?_;refine TK.newR Z Z Z (zG (l:=[_]) Z SlEl.h TyZ.h dQ dQ Z) (fun _=>zy rfl tQ) fun j1 hj1=>?_;refine TK.appR Z Z Z (a_app Z ApOf.h Z mQ (by simp <;> omega) Z (yS (ln:=[_]) mQ dQ sQ Z) oQ Z (by unfold maxLen; omega) oQ) (fun _=>uQ) (fun _=>zy rfl tQ) fun j2=>?_;refine au 31230414035 ?_;refine TK.maskL [3,9,10,11] ?_;refine TK.kp [(j2,_),(js,_)] ?_;exact hnext _ _ _ oQ ⟨i+1,_,rfl,oQ,rfl,by rw [List.take_add_one (l:=S),lA hil,List.map_append,Int.add_sub_cancel]; rfl⟩
 simp only [decide_eq_false_iff_not] at hc;obtain rfl:i=S.length:=by omega
 refine au 35142160 ?_;refine TK.rt hret [(j,_)] ?_;exact ⟨_,rfl,by rw [lW]⟩
theorem vL {main T} (hT:zh tp main T) {gm} {n lo hi:Int} :
  zg tp T gm 172 [intA n,intA lo,intA hi] [] (fun r K'=>r=zm (decide (lo<=n)&&decide (n<=hi))/\K'=[]):=by
 refine ze 15 hT Tryz.func172 fun Y hret=>?_;refine au 1711423542 ?_;refine TK.sp 10 (fun g1_4=>?_) (fun g1_4=>?_)
 ·refine au 35260711 ?_;refine TK.rta hret ?_;exact ⟨by simp [zm,g1_4],rfl⟩
 refine au 35250888 ?_;refine TK.rta hret ?_;exact ⟨by simp [zm,g1_4],rfl⟩
theorem kF {main T} (hT:zh tp main T) {gm} {b:Bk} {s e:Nat} {n:Int} (hs:0<=b.steps/\b.steps<=16) :
  zg tp T gm 107 [.agg (zx b s e),intA n] [] (fun r K'=>r=zm (decide (0<=n)&&decide (n<=b.steps - 1))/\K'=[]):=by
 refine ze 11 hT Tryz.func107 fun Y hret=>?_;refine au 21042 ?_;intro j1 hj1;refine au 24069067067014235 ?_;refine TK.cl Z Z Z Z (vL hT) ?_;rintro r2 K3 ⟨rfl,rfl⟩;refine au 35 ?_;refine TK.rt hret [] ?_;exact ⟨rfl,rfl⟩
theorem zbp {main T} (hT:zh tp main T) {gm} {b:Bk} {s e:Nat} {lo hi:Int} (hs:4<=b.steps/\b.steps<=16) (h0:0<=lo/\lo<b.steps) (h1:0<=hi/\hi<b.steps) :
  zg tp T gm 112 [.agg (zx b s e),intA lo,intA hi] [] (fun r K'=>r=intA ((hi - lo+b.steps) % b.steps+1)/\K'=[]):=by
 refine ze 19 hT Tryz.func112 fun Y hret=>?_;refine au 21042 ?_;intro j1 hj1;refine au 690670670230690670670240114235 ?_;refine TK.a Z (q_rem Z Z Z oQ oQ) ?_;refine TK.a Z (q_add Z Z Z (by have:=Int.emod_lt_of_pos (hi - lo+b.steps) (show 0<b.steps by omega); have:=Int.emod_nonneg (hi - lo+b.steps) (show b.steps≠0 by omega); omega)) ?_;refine au 35 ?_;refine TK.rt hret [] ?_;exact ⟨rfl,rfl⟩
theorem in_ok {main T} (hT:zh tp main T) {gm} {b:Bk} {s e:Nat} {S:List Int} {lo w:Int} (hs:4<=b.steps/\b.steps<=16) (hS:S.length<=3) (hB:∀ x∈S,0<=x/\x<b.steps) (h0:0<=lo/\lo<b.steps) :
  zg tp T gm 173 [.agg (zx b s e),.agg (zY S),intA lo,intA w] [] (fun r K'=>r=intA (inM b S lo w)/\K'=[]):=by
 refine ze 36 hT Tryz.func173 fun Y hret=>?_;refine au 21042 ?_;intro jb hjb;refine au 210 ?_;intro js hjs;refine au 680422354235 ?_;refine TK.cl Z Z Z Z (zbk hT hS fun x hx=>⟨(hB x hx).1,by have:=(hB x hx).2; omega⟩) ?_;rintro r1 K2 ⟨jr,rfl,rfl⟩;refine au 13031280 ?_;refine TK.maskL [2,3,4,9,13,14,15] ?_;refine TK.loopN (fun n env K=>∃ (i:Nat),n=S.length - i/\i<=S.length/\env=zJ 36 [(2,intA lo),(3,intA w),(4,.ptr jb 0),(9,intA (inM b (S.take i) lo w)),(13,.row jr S.length),(14,intA S.length),(15,intA i)]/\K=[(jr,.row (S.map intA) 3 1),(js,.cells (zY S) 209 true),(jb,.cells (zx b s e) 205 true)]) S.length ⟨0,rfl,mN _,rfl,rfl⟩ fun n env K hI hnext=>?_;obtain ⟨i,rfl,hi,rfl,rfl⟩:=hI;refine au 923742 ?_;refine ⟨fun hc=>?_,fun hc=>?_⟩
 ·simp only [decide_eq_true_eq] at hc;have hil:i<S.length:=by omega
  have hx:=hB S[i] (List.getElem_mem _);have hn:=ziK b (S.take i) lo w;have hn2:(S.take i).length<=3:=by simp; omega
  refine au 370421302120 ?_;refine TK.a Z (zp Z Z zd.h mQ (zci (i:=i) oQ Z)) ?_;refine au 690670670230690670670240114235 ?_;refine TK.a Z (q_rem Z Z Z oQ oQ) ?_;refine au 9371 ?_;constructor<;>intro hc1
  ·simp only [decide_eq_true_eq] at hc1;refine au 3123041403523014 ?_;refine TK.maskL [2,3,4,9,13,14,15] ?_;exact hnext _ _ _ oQ ⟨i+1,rfl,oQ,by rw [zfp hil,if_pos hc1]; rfl,rfl⟩
  simp only [decide_eq_false_iff_not] at hc1;refine au 312304140120 ?_;refine TK.maskL [2,3,4,9,13,14,15] ?_;exact hnext _ _ _ oQ ⟨i+1,rfl,oQ,by rw [zfp hil,if_neg hc1,Int.add_zero]; rfl,rfl⟩
 simp only [decide_eq_false_iff_not] at hc;obtain rfl:i=S.length:=by omega
 refine au 35142160 ?_;refine TK.rt hret [] ?_;exact ⟨by rw [show S.take S.length=S from lW],rfl⟩
end Go.Vel
namespace Go.Vel
open Go Go.Proofs Go.ChangeShapes Go.WideShapes Go.ChangeAt Go.RowKit
def saysV (x:Says):List Value:=[.string x.name,.int .i64 x.frm,.int .i64 x.til,.int .i64 x.says,.bool x.glass]
def seenV (x:Seen):List Value:=[.int .i64 x.step,.bool x.seam]
theorem list5 {α:Type} {l:List α} (h:l.length=5):∃ a b c d e,l=[a,b,c,d,e]:=by
 match l,h with
 | [a,b,c,d,e],_=>exact ⟨a,b,c,d,e,rfl⟩
theorem list2 {α:Type} {l:List α} (h:l.length=2):∃ a b,l=[a,b]:=by
 match l,h with
 | [a,b],_=>exact ⟨a,b,rfl⟩
theorem list6 {α:Type} {l:List α} (h:l.length=6):∃ a b c d e f,l=[a,b,c,d,e,f]:=by
 match l,h with
 | [a,b,c,d,e,f],_=>exact ⟨a,b,c,d,e,f,rfl⟩
section
variable {H:Type} {enc:TypeId×Value->H} {W:World} {sp:Nat->Bool} {held:Bool}
theorem yq {α:Type} {xs:List α} {n i:Nat} (h:xs.length=n) (hi:i<n):∃ y,xs[i]? =some y:=⟨_,lA (h ▸ hi)⟩
theorem yh {P:Program} {n:Nat} {t:TypeId} {c:Value} {y:Option (DataW H×List MemPlace)} {z:DataW H×List MemPlace} {l:List Value} (h:DataW.trod enc P W 0 sp held n t l=y) (hy:y=some z) (hl:l=[c]):DataW.trod enc P W 0 sp held n t [c]=some z:=by rw [<- hl,h,hy]
theorem zj5 (m:Nat) (cs:List Value) (x:DataW H×List MemPlace) (h:DataW.trod enc tp W 0 sp held m 114 cs=some x):∃ z,cs=saysV z:=by
 obtain ⟨xs,n,rfl,hx,hlen,hxs,hf⟩:=DataW.trod_struct Tryz.underlying114 h;have hlen':cs.length=5:=hlen.trans (by kernel_rfl);have hxs':xs.length=5:=hxs;have c9:tp.cellsOf 9=1:=by kernel_rfl
 have c3:tp.cellsOf 3=1:=by kernel_rfl
 have c56:tp.cellsOf 112=1:=by kernel_rfl
 have c4:tp.cellsOf 4=1:=by kernel_rfl
 obtain ⟨v0,v1,v2,v3,v4,rfl⟩:=list5 hlen';obtain ⟨y0,q0⟩:=yq hxs' (i:=0) dQ;obtain ⟨y1,q1⟩:=yq hxs' (i:=1) dQ;obtain ⟨y2,q2⟩:=yq hxs' (i:=2) dQ;obtain ⟨y3,q3⟩:=yq hxs' (i:=3) dQ;obtain ⟨y4,q4⟩:=yq hxs' (i:=4) dQ;obtain ⟨s,e0,_⟩:=DataW.trod_string Tryz.underlying9 (yh (c:=v0) (hf 0 _ rfl) q0 (by show List.take (tp.cellsOf 9) (List.drop 0 _)=_; rw [c9]; rfl));obtain ⟨a,e1,_⟩:=DataW.trod_int Tryz.underlying3 (yh (c:=v1) (hf 1 _ rfl) q1 (by show List.take (tp.cellsOf 3) (List.drop 1 _)=_; rw [c3]; rfl));obtain ⟨b,e2,_⟩:=DataW.trod_int Tryz.underlying3 (yh (c:=v2) (hf 2 _ rfl) q2 (by show List.take (tp.cellsOf 3) (List.drop 2 _)=_; rw [c3]; rfl));obtain ⟨d,e3,_⟩:=DataW.trod_int Tryz.underlying112 (yh (c:=v3) (hf 3 _ rfl) q3 (by show List.take (tp.cellsOf 112) (List.drop 3 _)=_; rw [c56]; rfl));obtain ⟨g,e4,_⟩:=DataW.trod_bool Tryz.underlying4 (yh (c:=v4) (hf 4 _ rfl) q4 (by show List.take (tp.cellsOf 4) (List.drop 4 _)=_; rw [c4]; rfl));cases e0; cases e1; cases e2; cases e3; cases e4;exact ⟨⟨s,a,b,d,g⟩,rfl⟩
theorem zj6 (m:Nat) (cs:List Value) (x:DataW H×List MemPlace) (h:DataW.trod enc tp W 0 sp held m 200 cs=some x):∃ z,cs=seenV z:=by
 obtain ⟨xs,n,rfl,hx,hlen,hxs,hf⟩:=DataW.trod_struct Tryz.underlying200 h;have hlen':cs.length=2:=hlen.trans (by kernel_rfl);have hxs':xs.length=2:=hxs;have c3:tp.cellsOf 3=1:=by kernel_rfl
 have c4:tp.cellsOf 4=1:=by kernel_rfl
 obtain ⟨v0,v1,rfl⟩:=list2 hlen';obtain ⟨y0,q0⟩:=yq hxs' (i:=0) dQ;obtain ⟨y1,q1⟩:=yq hxs' (i:=1) dQ;obtain ⟨s,e0,_⟩:=DataW.trod_int Tryz.underlying3 (yh (c:=v0) (hf 0 _ rfl) q0 (by show List.take (tp.cellsOf 3) (List.drop 0 _)=_; rw [c3]; rfl));obtain ⟨g,e1,_⟩:=DataW.trod_bool Tryz.underlying4 (yh (c:=v1) (hf 1 _ rfl) q1 (by show List.take (tp.cellsOf 4) (List.drop 1 _)=_; rw [c4]; rfl));cases e0; cases e1;exact ⟨⟨s,g⟩,rfl⟩
def SlIn (W:World) {α:Type} (vals:α->List Value) (c:Nat) (zs:List α) (v:Value):Prop:=∃ (b:Option Addr) (cap:Nat),v=.slice b zs.length cap/\zs.length<=cap/\(0<zs.length->∃ blk off cur e' fz,b=some ⟨blk,off,none⟩/\W.heap[blk]? =some (.cells cur e' fz) /\
   ∀ (i:Nat) z (j:Nat),zs[i]? =some z->j<c->cur[off+(i*c+j)]? =(vals z)[j]?)
theorem zi9 {v:Value} {d:DataW H} {p:List MemPlace} (hv:∃ cs,v=.agg cs) (h:DataW.Trod enc tp W 0 sp held 27 v d p):∃ (b:Bk) (v1 v2:Value),v=.agg #[.int .i64 b.steps,.int .i64 b.wrong,.int .i64 b.low,.int .i64 b.high,v1,v2]/\SlIn W saysV 5 b.seekers v1/\SlIn W seenV 2 b.seen v2:=by
 obtain ⟨ca,rfl⟩:=hv;obtain ⟨fuel,h⟩:=h;generalize hcs:(Value.agg ca).cells.toList=cs at h;obtain ⟨xs,n,rfl,hx,hlen,hxs,hf⟩:=DataW.trod_struct Tryz.underlying27 h;have hlen':cs.length=6:=hlen.trans (by kernel_rfl);have hxs':xs.length=5:=hxs;have c3:tp.cellsOf 3=1:=by kernel_rfl
 have c23:tp.cellsOf 23=2:=by kernel_rfl
 have c24:tp.cellsOf 24=1:=by kernel_rfl
 have c25:tp.cellsOf 25=1:=by kernel_rfl
 obtain ⟨v0,v1,v2,v3,v4,v5,rfl⟩:=list6 hlen';obtain ⟨y0,q0⟩:=yq hxs' (i:=0) dQ;obtain ⟨y1,q1⟩:=yq hxs' (i:=1) dQ;obtain ⟨y2,q2⟩:=yq hxs' (i:=2) dQ;obtain ⟨y3,q3⟩:=yq hxs' (i:=3) dQ;obtain ⟨y4,q4⟩:=yq hxs' (i:=4) dQ;obtain ⟨a,e0,_⟩:=DataW.trod_int Tryz.underlying3 (yh (c:=v0) (hf 0 _ rfl) q0 (by show List.take (tp.cellsOf 3) (List.drop 0 _)=_; rw [c3]; rfl));obtain ⟨b,e1,_⟩:=DataW.trod_int Tryz.underlying3 (yh (c:=v1) (hf 1 _ rfl) q1 (by show List.take (tp.cellsOf 3) (List.drop 1 _)=_; rw [c3]; rfl));have h2:DataW.trod enc tp W 0 sp held n 23 [v2,v3]=some y2:=by rw [<- q2,<- hf 2 _ rfl]; show _=DataW.trod enc tp W 0 sp held n 23 (List.take (tp.cellsOf 23) (List.drop 2 _)); rw [c23]; rfl
 obtain ⟨zs,n2,rfl,hz,_,hzs,hg⟩:=DataW.trod_struct Tryz.underlying23 h2;have hzs':zs.length=2:=hzs;obtain ⟨z0,p0⟩:=yq hzs' (i:=0) dQ;obtain ⟨z1,p1⟩:=yq hzs' (i:=1) dQ;obtain ⟨lo,e2,_⟩:=DataW.trod_int Tryz.underlying3 (yh (c:=v2) (hg 0 _ rfl) p0 (by show List.take (tp.cellsOf 3) (List.drop 0 _)=_; rw [c3]; rfl));obtain ⟨hi,e3,_⟩:=DataW.trod_int Tryz.underlying3 (yh (c:=v3) (hg 1 _ rfl) p1 (by show List.take (tp.cellsOf 3) (List.drop 1 _)=_; rw [c3]; rfl));obtain ⟨ss,b4,cap4,e4,l4,r4⟩:=ul (vals:=saysV) (c:=5) Tryz.underlying24 (by kernel_rfl) dQ zj5 (yh (c:=v4) (hf 3 _ rfl) q3 (by show List.take (tp.cellsOf 24) (List.drop 4 _)=_; rw [c24]; rfl));obtain ⟨ns,b5,cap5,e5,l5,r5⟩:=ul (vals:=seenV) (c:=2) Tryz.underlying25 (by kernel_rfl) dQ zj6 (yh (c:=v5) (hf 4 _ rfl) q4 (by show List.take (tp.cellsOf 25) (List.drop 5 _)=_; rw [c25]; rfl));cases e0; cases e1; cases e2; cases e3; cases e4; cases e5;refine ⟨⟨a,b,lo,hi,ss,ns⟩,_,_,?_,⟨b4,cap4,rfl,l4,r4⟩,⟨b5,cap5,rfl,l5,r5⟩⟩;have:ca.toList=_:=hcs;rw [<- Array.toArray_toList (xs:=ca),this]
end
end Go.Vel
namespace Go.Vel
open Go Go.Conc Go.Proofs
def IntsAt (ob:AObj) (off:Nat) (xs:List Int):Prop:=∀ (i:Nat) (h:i<xs.length),zZ ob (off+(i:Int).toNat*1) 1=some [intA xs[i]]
def SeenAt (ob:AObj) (off:Nat) (xs:List Seen):Prop:=∀ (i:Nat) (h:i<xs.length),zZ ob (off+(i:Int).toNat*2) 2=some (seenC xs[i])
theorem vC {xs:List Int} {v:Int} {i:Nat} (h:i<xs.length) (hn:v∉xs.take i) (he:v≠xs[i]):v∉xs.take (i+1):=by
 rw [List.take_add_one,lA h];simp only [Option.toList,lT,lS,not_or];exact ⟨hn,he⟩
theorem zeO {xs:List Seen} {p:Seen->Bool} {i:Nat} (h:i<xs.length) (hn:(xs.take i).any p=false) (he:p xs[i]=false):(xs.take (i+1)).any p=false:=by
 rw [List.take_add_one,lA h,List.any_append,hn];simp [he]
theorem zkB {S:List Int} {n:Int}:n+1∈S.map (· + 1)↔n∈S:=by
 rw [lY];constructor
 ·rintro ⟨x,hx,e⟩;obtain rfl:x=n:=by omega
  exact hx
 ·exact fun h=>⟨n,h,rfl⟩
theorem zkr {main T} (hT:zh tp main T) {gm} {j off:Nat} {ob:AObj} {xs:List Int} {v:Int} (hI:IntsAt ob off xs) (hl:xs.length<=1000) :
  zg tp T gm 241 [.sl j off xs.length,intA v] [(j,ob)] (fun r K'=>(∃ n:Int,r=intA n/\decide (n>=0)=decide (v∈xs))/\K'=[(j,ob)]):=by
 refine ze 19 hT Tryz.func241 fun Y hret=>?_;refine au 1303128014223542 ?_;refine TK.maskL [0,1,7,8] ?_;refine TK.loopN (fun n env K=>∃ (i:Nat),n=xs.length - i/\i<=xs.length/\v∉xs.take i/\env=zJ 19 [(0,.sl j off xs.length),(1,intA v),(7,intA xs.length),(8,intA i)]/\K=[(j,ob)]) xs.length ⟨0,rfl,mN _,by simp,rfl,rfl⟩ fun n env K hI' hnext=>?_;obtain ⟨i,rfl,hi,hn,rfl,rfl⟩:=hI';refine au 923742 ?_;refine ⟨fun hc=>?_,fun hc=>?_⟩
 ·simp only [decide_eq_true_eq] at hc;have hil:i<xs.length:=by omega
  refine au 36011142351421302120 ?_;refine TK.a Z (zp Z Z zd.h mQ (hI i hil)) ?_;refine au 937 ?_;constructor<;>intro hc1
  ·simp only [beq_iff_eq] at hc1;refine au 35142 ?_;refine TK.rta hret ?_;exact ⟨⟨i,rfl,by rw [decide_eq_true (Int.natCast_nonneg i),decide_eq_true (by rw [hc1]; exact List.getElem_mem _)]⟩,rfl⟩
  simp only [beq_eq_false_iff_ne] at hc1;refine au 312304140120 ?_;refine TK.maskL [0,1,7,8] ?_;exact hnext _ _ _ oQ ⟨i+1,rfl,oQ,vC hil hn hc1,rfl,rfl⟩
 simp only [decide_eq_false_iff_not] at hc;obtain rfl:i=xs.length:=by omega
 refine au 3542160 ?_;refine TK.rta hret ?_;rw [lW] at hn;exact ⟨⟨-1,rfl,by rw [decide_eq_false hn]; rfl⟩,rfl⟩
theorem zgk {main T} (hT:zh tp main T) {gm} {j off:Nat} {ob:AObj} {xs:List Int} {v:Int} (hI:IntsAt ob off xs) (hl:xs.length<=1000) :
  zg tp T gm 226 [.sl j off xs.length,intA v] [(j,ob)] (fun r K'=>r=zm (decide (v∈xs))/\K'=[(j,ob)]):=by
 refine ze 9 hT Tryz.func226 fun Y hret=>?_;refine au 11423542 ?_;refine TK.cl Z Z Z Z (zkr hT hI hl) ?_;rintro r1 K2 ⟨⟨m,rfl,hm⟩,rfl⟩;refine au 357 ?_;refine TK.rta hret ?_;exact ⟨by rw [<- hm]; rfl,rfl⟩
theorem zmD {main T} (hT:zh tp main T) {gm} {S:List Int} {n:Int} (hS:S.length<=3) (hn : -1000<=n/\n<=1000) :
  zg tp T gm 204 [.agg (zY S),intA n] [] (fun r K'=>r=zm (decide (n∈S))/\K'=[]):=by
 refine ze 12 hT Tryz.func204 fun Y hret=>?_;refine au 21042 ?_;intro js hjs;refine au 6906706704235 ?_;refine TK.a Z (zcT Z Z ArEl.h Z Z oQ oQ Z) ?_;refine au 2301 ?_;rw [show S.length=(S.map (· + 1)).length by simp];refine TK.cl Z Z Z Z (zgk hT (off:=1) (ob:=.cells (zY S) 209 true) (xs:=S.map (· + 1)) (v:=n+1) (fun i h=>by rw [zeu (i:=i) hS (by simpa using h) rfl]; simp) (by simp; omega)) ?_;rintro r1 K2 ⟨rfl,rfl⟩;refine au 35 ?_;refine TK.rt hret [] ?_;exact ⟨by rw [decide_eq_decide.2 zkB],rfl⟩
theorem zfr {main T} (hT:zh tp main T) {gm} {j off:Nat} {ob:AObj} {xs:List Seen} {p:Seen->Bool} {g:FuncId} {cp:List AV} {Kc:KV} (hg:ym tp g=true) (hp:∀ x∈xs,zg tp T gm g ([.agg (seenC x)]++cp) Kc (fun r K'=>r=zm (p x)/\K'=Kc)) (hI:SeenAt ob off xs) (hl:xs.length<=1000) :
  zg tp T gm 229 [.sl j off xs.length,.fn g [] cp] ((j,ob)::Kc) (fun r K'=>(∃ n:Int,r=intA n/\decide (n>=0)=xs.any p)/\K'=(j,ob)::Kc):=by
 refine ze 19 hT Tryz.func229 fun Y hret=>?_;refine au 1303128014223542 ?_;refine TK.maskL [0,1,7,8] ?_;refine TK.loopN (fun n env K=>∃ (i:Nat),n=xs.length - i/\i<=xs.length/\(xs.take i).any p=false/\env=zJ 19 [(0,.sl j off xs.length),(1,.fn g [] cp),(7,intA xs.length),(8,intA i)]/\K=(j,ob)::Kc) xs.length ⟨0,rfl,mN _,by simp,rfl,rfl⟩ fun n env K hI' hnext=>?_;obtain ⟨i,rfl,hi,hn,rfl,rfl⟩:=hI';refine au 923742 ?_;refine ⟨fun hc=>?_,fun hc=>?_⟩
 ·simp only [decide_eq_true_eq] at hc;have hil:i<xs.length:=by omega
  refine au 36011142351421302120 ?_;refine TK.a Z (zK Z Z zd.h mQ (hI i hil)) ?_;refine TK.cl Z Z Z Z (hp xs[i] (List.getElem_mem _)) ?_ (hs:=(.right (.all _))) (hg:=hg);rintro r1 K2 ⟨rfl,hK⟩;refine au 0 ?_;rw [hK];refine TK.perm (K':=(j,ob)::Kc) (List.perm_append_singleton _ _) ?_;refine au 93 ?_;constructor<;>intro hc1
  ·refine au 35142 ?_;refine TK.rta hret ?_;exact ⟨⟨i,rfl,by rw [decide_eq_true (Int.natCast_nonneg i),List.any_eq_true.2 ⟨xs[i],List.getElem_mem _,hc1⟩]⟩,rfl⟩
  refine au 312304140120 ?_;refine TK.maskL [0,1,7,8] ?_;exact hnext _ _ _ oQ ⟨i+1,rfl,oQ,zeO hil hn hc1,rfl,rfl⟩
 simp only [decide_eq_false_iff_not] at hc;obtain rfl:i=xs.length:=by omega
 refine au 3542160 ?_;refine TK.rta hret ?_;rw [lW] at hn;exact ⟨⟨-1,rfl,by rw [hn]; rfl⟩,rfl⟩
theorem kC {α:Type} (f:α->List AV) (c:Nat) (hc:∀ x,(f x).length=c):∀ (xs:List α) (i:Nat) (h:i<xs.length),((xs.flatMap f).drop (i*c)).take c=f xs[i]
 | x::xs,0,_=>by
  rw [Nat.zero_mul,List.drop_zero,List.flatMap_cons,List.take_left' (hc x)]; rfl
 | x::xs,i+1,h=>by
  rw [List.flatMap_cons,Nat.succ_mul,Nat.add_comm,<- List.drop_drop,List.drop_left' (hc x)];exact kC f c hc xs i (by simpa using h)
theorem yk {α:Type} (f:α->List AV) (c:Nat) (hc:∀ x,(f x).length=c) (xs:List α):(xs.flatMap f).length=xs.length*c:=by
 induction xs with
 | nil=>simp
 | cons x xs ih=>rw [List.flatMap_cons,lF,ih,hc,lZ,Nat.succ_mul,Nat.add_comm]
theorem zdv (b:Bk):SeenAt (zo b) 0 b.seen:=fun i h=>by
 have hle:(i+1)*2<=b.seen.length*2:=Nat.mul_le_mul_right _ h;simp only [zZ,AObj.look,zo,mZ,mO];rw [if_pos ⟨by omega,by rw [yk seenC 2 (fun _=>rfl)]; omega⟩,kC seenC 2 (fun _=>rfl) _ _ h]
theorem zl5 (b:Bk) (i:Nat) (h:i<b.seekers.length):zZ (zn b) (0+(i:Int).toNat*5) 5=some (saysC b.seekers[i]):=by
 have hle:(i+1)*5<=b.seekers.length*5:=Nat.mul_le_mul_right _ h;simp only [zZ,AObj.look,zn,mZ,mO];rw [if_pos ⟨by omega,by rw [yk saysC 5 (fun _=>rfl)]; omega⟩,kC saysC 5 (fun _=>rfl) _ _ h]
def seenM (b:Bk) (S:List Int):Bool:=(decide (b.low<=S.length)&&decide ((S.length:Int)<=b.high)) && !(b.seen.any fun x=>decide (x.step∈S) !=x.seam)
def wideM (b:Bk) (x:Says):Int:=(x.til - x.frm+b.steps) % b.steps+1
def saysM (k:Int) (n:Int):Bool:=if k=0 then decide (n>0) else if k=1 then n==0 else n==1
def rightM (b:Bk) (S:List Int) (i:Nat):Bool:=match b.seekers[i]? with
 | some x=>saysM x.says (inM b S x.frm (wideM b x))
 | none=>false
structure BkOk (b:Bk):Prop where
 steps:4<=b.steps/\b.steps<=16
 low:0<=b.low
 high:b.high<=3
 wrong:0<=b.wrong/\b.wrong<=3
 ns:b.seekers.length<=5
 ne:b.seen.length<=4
 frm:∀ x∈b.seekers,0<=x.frm/\x.frm<b.steps/\0<=x.til/\x.til<b.steps/\0<=x.says/\x.says<=2
 sn:∀ x∈b.seen,0<=x.step/\x.step<b.steps
structure SmOk (b:Bk) (S:List Int):Prop where
 len:S.length<=3
 mem:∀ x∈S,0<=x/\x<b.steps
theorem uh {main T} (hT:zh tp main T) {gm} {j off:Nat} {ob:AObj} {xs:List Seen} {p:Seen->Bool} {g:FuncId} {cp:List AV} {Kc:KV} (hg:ym tp g=true) (hp:∀ x∈xs,zg tp T gm g ([.agg (seenC x)]++cp) Kc (fun r K'=>r=zm (p x)/\K'=Kc)) (hI:SeenAt ob off xs) (hl:xs.length<=1000) :
  zg tp T gm 202 [.sl j off xs.length,.fn g [] cp] ((j,ob)::Kc) (fun r K'=>r=zm (xs.any p)/\K'=(j,ob)::Kc):=by
 refine ze 9 hT Tryz.func202 fun Y hret=>?_;refine au 11423542 ?_;refine TK.cl Z Z Z Z (zfr hT hg hp hI hl) ?_ (hs:=(.all _));rintro r1 K2 ⟨⟨m,rfl,hm⟩,hK⟩;refine au 0 ?_;rw [hK,lR];refine au 357 ?_;refine TK.rta hret ?_;exact ⟨by rw [<- hm]; rfl,rfl⟩
theorem zk3 {main T} (hT:zh tp main T) {gm} {S:List Int} {x:Seen} {js:Nat} (hS:S.length<=3) (hx : -1000<=x.step/\x.step<=1000) :
  zg tp T gm 203 [.agg (seenC x),.ptr js 0] [(js,.cells (zY S) 209 true)] (fun r K'=>r=zm (decide (x.step∈S) !=x.seam)/\K'=[(js,.cells (zY S) 209 true)]):=by
 refine ze 11 hT Tryz.func203 fun Y hret=>?_;refine au 21042 ?_;intro j1 hj1;refine au 235 ?_;refine TK.dr [0,1,2,4,5,3,6,7] [0,1,2,3,4,5,6,7] ?_;refine ad [[12,1],[3,2],[10,5],[3,2],[10,8]] ?_;refine TD.cl (pend':=[⟨5,[8],[(_,_)]⟩,⟨4,[2],[]⟩,⟨1,[2],[]⟩]) [4,6] Z Z Z Z Z (zmD hT hS hx) (fun r2 K3 h4=>⟨?_,?_⟩)
 ·rcases h4 with ⟨rfl,rfl⟩
  all_goals simp
 obtain ⟨rfl,rfl⟩:=h4;try simp only [cA]
 refine TD.norm tQ ?_;refine TD.z [7,9] Z (zji Z Z Z Und.h Z) ?_;refine ad [[13,10],[14]] ?_;refine au 0 ?_;refine TK.rt hret [(js,_)] ?_;exact ⟨rfl,rfl⟩
theorem zg5 {main T} (hT:zh tp main T) {gm} {b:Bk} {s e:Nat} {S:List Int} (hb:BkOk b) (hS:S.length<=3) :
  zg tp T gm 175 [.agg (zx b s e),.agg (zY S)] [(e,zo b)] (fun r K'=>r=zm (seenM b S)/\K'=[(e,zo b)]):=by
 refine ze 24 hT Tryz.func175 fun Y hret=>?_;refine au 21042 ?_;intro jb hjb;refine au 210 ?_;intro js hjs;refine au 6906706706706906706706706906704235 ?_;refine TK.cl Z Z Z Z (vL hT) ?_;rintro r1 K2 ⟨rfl,rfl⟩;refine au 1 ?_;refine TK.sp 16 (fun g1_12=>?_) (fun g1_12=>?_)
 ·refine au 320690670670 ?_;refine TK.perm (K':=[(e,zo b),(js,.cells (zY S) 209 true),(jb,.cells (zx b s e) 205 true)]) ?_ ?_
  ·exact (List.Perm.cons _ (List.Perm.swap _ _ _)).trans ((List.Perm.swap _ _ _).trans (List.Perm.cons _ (.refl _)))
  refine TK.cl Z Z Z Z (uh hT (cp:=[.ptr js 0]) (Kc:=[(js,.cells (zY S) 209 true)]) (p:=fun x=>decide (x.step∈S) !=x.seam) Cal.h (fun x hx=>zk3 hT hS (by have:=hb.sn x hx; have:=hb.steps; omega)) (zdv b) (by have:=hb.ne; omega)) ?_;rintro r4 K5 ⟨rfl,rfl⟩;refine au 35260300 ?_;refine TK.rt hret [(e,_)] ?_;refine ⟨?_,rfl⟩;unfold seenM;rw [g1_12];rfl
 refine au 35250888888 ?_;refine TK.rt hret [(e,_)] ?_;refine ⟨?_,rfl⟩;unfold seenM;rw [g1_12];rfl
theorem zmb {main T} (hT:zh tp main T) {gm} {n:Int} :
  zg tp T gm 284 [intA n] [] (fun r K'=>r=zm (decide (n>0))/\K'=[]):=by
 refine ze 5 hT Tryz.func284 fun Y hret=>?_;refine au 3571423542 ?_;refine TK.rta hret ?_;exact ⟨rfl,rfl⟩
theorem zlN {main T} (hT:zh tp main T) {gm} {n:Int} :
  zg tp T gm 262 [intA n] [] (fun r K'=>r=zm (n==0)/\K'=[]):=by
 refine ze 5 hT Tryz.func262 fun Y hret=>?_;refine au 3571423542 ?_;refine TK.rta hret ?_;exact ⟨rfl,rfl⟩
theorem zmS {main T} (hT:zh tp main T) {gm} {n:Int} :
  zg tp T gm 285 [intA n] [] (fun r K'=>r=zm (n==1)/\K'=[]):=by
 refine ze 5 hT Tryz.func285 fun Y hret=>?_;refine au 3571423542 ?_;refine TK.rta hret ?_;exact ⟨rfl,rfl⟩
def gmS:Nat->Option Nat
 | 4=>some 0
 | 3=>some 1
 | 5=>some 2
 | 7=>some 3
 | 0=>some 4
 | 6=>some 5
 | 2=>some 6
 | _=>none
def zA:AObj:=.cells [.fn 284 [] [],.fn 262 [] [],.fn 285 [] []] 308 false
theorem says_at' (b:Bk) {i:Nat} {x:Says} (h:b.seekers[i]? =some x):zZ (zn b) (0+(i:Int).toNat*5) 5=some (saysC x):=by
 obtain ⟨h1,h2⟩:=lD.1 h;rw [zl5 b i h1,h2]
def glassM (b:Bk) (i:Nat):Bool:=match b.seekers[i]? with | some x=>x.glass | none=>false
def wrongL (b:Bk) (S:List Int) (i:Nat):Nat:=((List.range i).filter fun k => !rightM b S k).length
def badM (b:Bk) (S:List Int) (i:Nat):Bool:=(List.range i).any fun k => !rightM b S k&&glassM b k
theorem zbT (b:Bk) (S:List Int) (i:Nat):wrongL b S (i+1)=wrongL b S i+if rightM b S i=true then 0 else 1:=by
 unfold wrongL;rw [List.range_succ,List.filter_append,lF];cases h:rightM b S i <;> simp [h]
theorem zdL (b:Bk) (S:List Int) (i:Nat):badM b S (i+1)=(badM b S i||(!rightM b S i&&glassM b i)):=by
 unfold badM;rw [List.range_succ,List.any_append];simp
theorem zeN (b:Bk) (S:List Int) (i:Nat):wrongL b S i<=i:=by
 have:=List.length_filter_le (fun k => !rightM b S k) (List.range i);rw [List.length_range] at this;exact this
theorem zlo {b:Bk} {S:List Int} {i n:Nat} (hi:i<n) (h:rightM b S i=false) (hg:glassM b i=true):badM b S n=true:=by
 unfold badM;rw [List.any_eq_true];exact ⟨i,List.mem_range.2 hi,by rw [h,hg]; rfl⟩
def wrongM (b:Bk) (S:List Int):Int:=if badM b S b.seekers.length=true then 0 else wrongL b S b.seekers.length
def canM (b:Bk) (S:List Int):Bool := !badM b S b.seekers.length&&decide ((wrongL b S b.seekers.length:Int)<=b.wrong)&&seenM b S
theorem zju {main:Bool} {T:Goroutine->Hp->Prop} (hT:zh tp main T)  {b:Bk} {s e:Nat} {S:List Int} {i:Nat} {nm:ByteArray} {fr ti:Int} {gl:Bool} (hb:BkOk b) (hS:SmOk b S) (hx:b.seekers[i]? =some ⟨nm,fr,ti,0,gl⟩) :
  zg tp T gmS 97 [.agg (zx b s e),.agg (zY S),intA i] [(1,zA),(s,zn b)] (fun r K'=>r=zm (rightM b S i)/\K'=[(1,zA),(s,zn b)]):=by
 refine ze 30 hT Tryz.func97 fun Y hret=>?_;refine au 0 ?_;have hi:=(lD.1 hx).1;have hf:=hb.frm _ (lN hx);dsimp only at hf;refine au 21042 ?_;intro jb hjb;refine au 210 ?_;intro js hjs;refine au 36016906706704235 ?_;refine TK.a Z (zK Z Z zd.h mQ (says_at' b hx)) ?_;refine au 220 ?_;intro jx hjx;refine au 23170 ?_;refine TK.dq [0,1,2,3,4,5,6,7,8,9,10,11,12,13,14,15,16] ?_;refine ad [[3,7],[10,14]] ?_;refine TD.z [15] Z (yC Z Z Z ArEl.h (by first | omega | (dsimp only; omega)) (by first | omega | (dsimp only; omega))) ?_;refine ad [[10,16],[12,3],[12,4],[3,7],[10,20],[12,3],[3,7],[10,23],[3,7],[10,25]] ?_;refine TD.cl (pend':=[⟨11,[7],[]⟩,⟨9,[7],[]⟩,⟨7,[20],[(_,_)]⟩,⟨6,[7],[]⟩,⟨5,[4],[(_,_)]⟩,⟨4,[3],[(_,_)]⟩,⟨3,[16],[(_,_)]⟩,⟨2,[15],[]⟩,⟨1,[14],[(_,_)]⟩,⟨0,[7],[]⟩]) [22,24,26] Z Z Z Z Z (zbp hT (b:=b) (s:=s) (e:=e) (lo:=fr) (hi:=ti) hb.steps ⟨by omega,oQ⟩ ⟨by omega,oQ⟩) (fun r1 K2 h3=>⟨?_,?_⟩)
 ·rcases h3 with ⟨rfl,rfl⟩
  all_goals simp
 obtain ⟨rfl,rfl⟩:=h3;try simp only [cA]
 refine TD.norm tQ ?_;refine TD.cl (pend':=[⟨11,[7],[]⟩,⟨9,[7],[]⟩,⟨6,[7],[]⟩,⟨3,[16],[(_,_)]⟩,⟨2,[15],[]⟩,⟨1,[14],[(_,_)]⟩,⟨0,[7],[]⟩]) [18,19,21,27] Z Z Z Z Z (in_ok hT (b:=b) (s:=s) (e:=e) (S:=S) (lo:=fr) (w:=(ti - fr+b.steps) % b.steps+1) hb.steps hS.len hS.mem ⟨by omega,oQ⟩) (fun r4 K5 h6=>⟨?_,?_⟩)
 ·rcases h6 with ⟨rfl,rfl⟩
  all_goals simp
 obtain ⟨rfl,rfl⟩:=h6;try simp only [cA]
 refine TD.norm tQ ?_;refine TD.cl (pend':=[⟨11,[7],[]⟩,⟨9,[7],[]⟩,⟨6,[7],[]⟩,⟨2,[15],[]⟩,⟨1,[14],[(_,_)]⟩,⟨0,[7],[]⟩]) [17,28] Z Z Z Z Z (zmb hT) (fun r7 K8 h9=>⟨?_,?_⟩)
 ·rcases h9 with ⟨rfl,rfl⟩
  all_goals simp
 obtain ⟨rfl,rfl⟩:=h9;try simp only [cA]
 refine TD.norm tQ ?_;refine ad [[13,29],[14]] ?_;refine au 0 ?_;refine TK.rt hret [(1,_),(s,_)] ?_;exact ⟨by unfold rightM; rw [hx]; rfl,rfl⟩
theorem zjv {main:Bool} {T:Goroutine->Hp->Prop} (hT:zh tp main T)  {b:Bk} {s e:Nat} {S:List Int} {i:Nat} {nm:ByteArray} {fr ti:Int} {gl:Bool} (hb:BkOk b) (hS:SmOk b S) (hx:b.seekers[i]? =some ⟨nm,fr,ti,1,gl⟩) :
  zg tp T gmS 97 [.agg (zx b s e),.agg (zY S),intA i] [(1,zA),(s,zn b)] (fun r K'=>r=zm (rightM b S i)/\K'=[(1,zA),(s,zn b)]):=by
 refine ze 30 hT Tryz.func97 fun Y hret=>?_;refine au 0 ?_;have hi:=(lD.1 hx).1;have hf:=hb.frm _ (lN hx);dsimp only at hf;refine au 21042 ?_;intro jb hjb;refine au 210 ?_;intro js hjs;refine au 36016906706704235 ?_;refine TK.a Z (zK Z Z zd.h mQ (says_at' b hx)) ?_;refine au 220 ?_;intro jx hjx;refine au 23170 ?_;refine TK.dq [0,1,2,3,4,5,6,7,8,9,10,11,12,13,14,15,16] ?_;refine ad [[3,7],[10,14]] ?_;refine TD.z [15] Z (yC Z Z Z ArEl.h (by first | omega | (dsimp only; omega)) (by first | omega | (dsimp only; omega))) ?_;refine ad [[10,16],[12,3],[12,4],[3,7],[10,20],[12,3],[3,7],[10,23],[3,7],[10,25]] ?_;refine TD.cl (pend':=[⟨11,[7],[]⟩,⟨9,[7],[]⟩,⟨7,[20],[(_,_)]⟩,⟨6,[7],[]⟩,⟨5,[4],[(_,_)]⟩,⟨4,[3],[(_,_)]⟩,⟨3,[16],[(_,_)]⟩,⟨2,[15],[]⟩,⟨1,[14],[(_,_)]⟩,⟨0,[7],[]⟩]) [22,24,26] Z Z Z Z Z (zbp hT (b:=b) (s:=s) (e:=e) (lo:=fr) (hi:=ti) hb.steps ⟨by omega,oQ⟩ ⟨by omega,oQ⟩) (fun r1 K2 h3=>⟨?_,?_⟩)
 ·rcases h3 with ⟨rfl,rfl⟩
  all_goals simp
 obtain ⟨rfl,rfl⟩:=h3;try simp only [cA]
 refine TD.norm tQ ?_;refine TD.cl (pend':=[⟨11,[7],[]⟩,⟨9,[7],[]⟩,⟨6,[7],[]⟩,⟨3,[16],[(_,_)]⟩,⟨2,[15],[]⟩,⟨1,[14],[(_,_)]⟩,⟨0,[7],[]⟩]) [18,19,21,27] Z Z Z Z Z (in_ok hT (b:=b) (s:=s) (e:=e) (S:=S) (lo:=fr) (w:=(ti - fr+b.steps) % b.steps+1) hb.steps hS.len hS.mem ⟨by omega,oQ⟩) (fun r4 K5 h6=>⟨?_,?_⟩)
 ·rcases h6 with ⟨rfl,rfl⟩
  all_goals simp
 obtain ⟨rfl,rfl⟩:=h6;try simp only [cA]
 refine TD.norm tQ ?_;refine TD.cl (pend':=[⟨11,[7],[]⟩,⟨9,[7],[]⟩,⟨6,[7],[]⟩,⟨2,[15],[]⟩,⟨1,[14],[(_,_)]⟩,⟨0,[7],[]⟩]) [17,28] Z Z Z Z Z (zlN hT) (fun r7 K8 h9=>⟨?_,?_⟩)
 ·rcases h9 with ⟨rfl,rfl⟩
  all_goals simp
 obtain ⟨rfl,rfl⟩:=h9;try simp only [cA]
 refine TD.norm tQ ?_;refine ad [[13,29],[14]] ?_;refine au 0 ?_;refine TK.rt hret [(1,_),(s,_)] ?_;exact ⟨by unfold rightM; rw [hx]; rfl,rfl⟩
theorem zjw {main:Bool} {T:Goroutine->Hp->Prop} (hT:zh tp main T)  {b:Bk} {s e:Nat} {S:List Int} {i:Nat} {nm:ByteArray} {fr ti:Int} {gl:Bool} (hb:BkOk b) (hS:SmOk b S) (hx:b.seekers[i]? =some ⟨nm,fr,ti,2,gl⟩) :
  zg tp T gmS 97 [.agg (zx b s e),.agg (zY S),intA i] [(1,zA),(s,zn b)] (fun r K'=>r=zm (rightM b S i)/\K'=[(1,zA),(s,zn b)]):=by
 refine ze 30 hT Tryz.func97 fun Y hret=>?_;refine au 0 ?_;have hi:=(lD.1 hx).1;have hf:=hb.frm _ (lN hx);dsimp only at hf;refine au 21042 ?_;intro jb hjb;refine au 210 ?_;intro js hjs;refine au 36016906706704235 ?_;refine TK.a Z (zK Z Z zd.h mQ (says_at' b hx)) ?_;refine au 220 ?_;intro jx hjx;refine au 23170 ?_;refine TK.dq [0,1,2,3,4,5,6,7,8,9,10,11,12,13,14,15,16] ?_;refine ad [[3,7],[10,14]] ?_;refine TD.z [15] Z (yC Z Z Z ArEl.h (by first | omega | (dsimp only; omega)) (by first | omega | (dsimp only; omega))) ?_;refine ad [[10,16],[12,3],[12,4],[3,7],[10,20],[12,3],[3,7],[10,23],[3,7],[10,25]] ?_;refine TD.cl (pend':=[⟨11,[7],[]⟩,⟨9,[7],[]⟩,⟨7,[20],[(_,_)]⟩,⟨6,[7],[]⟩,⟨5,[4],[(_,_)]⟩,⟨4,[3],[(_,_)]⟩,⟨3,[16],[(_,_)]⟩,⟨2,[15],[]⟩,⟨1,[14],[(_,_)]⟩,⟨0,[7],[]⟩]) [22,24,26] Z Z Z Z Z (zbp hT (b:=b) (s:=s) (e:=e) (lo:=fr) (hi:=ti) hb.steps ⟨by omega,oQ⟩ ⟨by omega,oQ⟩) (fun r1 K2 h3=>⟨?_,?_⟩)
 ·rcases h3 with ⟨rfl,rfl⟩
  all_goals simp
 obtain ⟨rfl,rfl⟩:=h3;try simp only [cA]
 refine TD.norm tQ ?_;refine TD.cl (pend':=[⟨11,[7],[]⟩,⟨9,[7],[]⟩,⟨6,[7],[]⟩,⟨3,[16],[(_,_)]⟩,⟨2,[15],[]⟩,⟨1,[14],[(_,_)]⟩,⟨0,[7],[]⟩]) [18,19,21,27] Z Z Z Z Z (in_ok hT (b:=b) (s:=s) (e:=e) (S:=S) (lo:=fr) (w:=(ti - fr+b.steps) % b.steps+1) hb.steps hS.len hS.mem ⟨by omega,oQ⟩) (fun r4 K5 h6=>⟨?_,?_⟩)
 ·rcases h6 with ⟨rfl,rfl⟩
  all_goals simp
 obtain ⟨rfl,rfl⟩:=h6;try simp only [cA]
 refine TD.norm tQ ?_;refine TD.cl (pend':=[⟨11,[7],[]⟩,⟨9,[7],[]⟩,⟨6,[7],[]⟩,⟨2,[15],[]⟩,⟨1,[14],[(_,_)]⟩,⟨0,[7],[]⟩]) [17,28] Z Z Z Z Z (zmS hT) (fun r7 K8 h9=>⟨?_,?_⟩)
 ·rcases h9 with ⟨rfl,rfl⟩
  all_goals simp
 obtain ⟨rfl,rfl⟩:=h9;try simp only [cA]
 refine TD.norm tQ ?_;refine ad [[13,29],[14]] ?_;refine au 0 ?_;refine TK.rt hret [(1,_),(s,_)] ?_;exact ⟨by unfold rightM; rw [hx]; rfl,rfl⟩
theorem zak {main:Bool} {T:Goroutine->Hp->Prop} (hT:zh tp main T) {b:Bk} {s e:Nat} {S:List Int} {i:Nat} (hb:BkOk b) (hS:SmOk b S) (hi:i<b.seekers.length) :
  zg tp T gmS 97 [.agg (zx b s e),.agg (zY S),intA i] [(1,zA),(s,zn b)] (fun r K'=>r=zm (rightM b S i)/\K'=[(1,zA),(s,zn b)]):=by
 have hx:=lA hi;have hf:=hb.frm _ (List.getElem_mem hi);generalize b.seekers[i]=x at hx hf;obtain ⟨nm,fr,ti,sy,gl⟩:=x;dsimp only at hf;have:sy=0\/sy=1\/sy=2:=by omega
 rcases this with rfl | rfl | rfl
 ·exact zju hT hb hS hx
 ·exact zjv hT hb hS hx
 ·exact zjw hT hb hS hx
theorem zgf {main:Bool} {T:Goroutine->Hp->Prop} (hT:zh tp main T)  {b:Bk} {s e:Nat} {S:List Int} (hb:BkOk b) (hS:SmOk b S) :
  zg tp T gmS 118 [.agg (zx b s e),.agg (zY S)] [(1,zA),(s,zn b)] (fun r K'=>r=.tup [intA (wrongM b S),zm (!badM b S b.seekers.length)]/\K'=[(1,zA),(s,zn b)]):=by
 refine ze 28 hT Tryz.func118 fun Y hret=>?_;refine au 21042 ?_;intro jb hjb;refine au 210 ?_;intro js hjs;refine au 130312806906706704223542355 ?_;refine TK.maskL [2,3,6,11,12,13] ?_;refine TK.loopN (fun n env K=>∃ (i:Nat),n=b.seekers.length - i/\i<=b.seekers.length/\badM b S i=false/\env=zJ 28 [(2,.ptr jb 0),(3,.ptr js 0),(6,intA (wrongL b S i)),(11,.sl s 0 b.seekers.length),(12,intA b.seekers.length),(13,intA i)]/\K=[(js,.cells (zY S) 209 true),(jb,.cells (zx b s e) 205 true),(1,zA),(s,zn b)]) b.seekers.length ⟨0,rfl,mN _,rfl,rfl,rfl⟩ fun n env K hI hnext=>?_;obtain ⟨i,rfl,hi,hbd,rfl,rfl⟩:=hI;refine au 923742 ?_;refine ⟨fun hc=>?_,fun hc=>?_⟩
 ·simp only [decide_eq_true_eq] at hc;have hil:i<b.seekers.length:=by omega
  have hx:=lA hil;have hwl:=zeN b S i;have hn5:=hb.ns;refine au 3601421302120 ?_;refine TK.a Z (zK Z Z zd.h mQ (says_at' b hx)) ?_;refine au 220 ?_;intro jx hjx;refine au 168068042231705 ?_;refine TK.cl Z Z Z Z (zak hT (s:=s) (e:=e) hb hS hil) ?_;rintro r1 K2 ⟨rfl,rfl⟩;refine au 93 ?_;constructor<;>intro hc1
  ·refine au 312304160 ?_;refine TK.maskL [2,3,6,11,12,13] ?_;refine TK.kp [(js,_),(jb,_),(1,_),(s,_)] ?_;exact hnext _ _ _ oQ ⟨i+1,rfl,oQ,by rw [zdL,hbd,hc1]; rfl,by rw [zbT,if_pos hc1]; rfl,rfl⟩
  have hcf:=hc1;refine au 93690670422120 ?_;constructor<;>intro hc2
  ·have hg:glassM b i=true:=by unfold glassM; rw [hx]; exact hc2
   refine au 35542 ?_;refine TK.rt hret [(1,_),(s,_)] ?_;have hbad:=zlo hil hcf hg;exact ⟨by unfold wrongM; rw [hbad]; rfl,rfl⟩
  have hgf:glassM b i=false:=by unfold glassM; rw [hx]; exact hc2
  refine au 3123041403523014120 ?_;refine TK.maskL [2,3,6,11,12,13] ?_;refine TK.kp [(js,_),(jb,_),(1,_),(s,_)] ?_;exact hnext _ _ _ oQ ⟨i+1,rfl,oQ,by rw [zdL,hbd,hgf]; simp,by rw [zbT,if_neg (by rw [hc1]; decide)]; rfl,rfl⟩
 simp only [decide_eq_false_iff_not] at hc;obtain rfl:i=b.seekers.length:=by omega
 refine au 355142160 ?_;refine TK.rt hret [(1,_),(s,_)] ?_;exact ⟨by unfold wrongM; rw [hbd]; rfl,rfl⟩
theorem zim {main:Bool} {T:Goroutine->Hp->Prop} (hT:zh tp main T)  {b:Bk} {s e:Nat} {S:List Int} (hse:s≠e) (hb:BkOk b) (hS:SmOk b S) :
  zg tp T gmS 99 [.agg (zx b s e),.agg (zY S)] [(1,zA),(s,zn b),(e,zo b)] (fun r K'=>r=zm (canM b S)/\K'=[(1,zA),(s,zn b),(e,zo b)]):=by
 refine ze 26 hT Tryz.func99 fun Y hret=>?_;refine au 21042 ?_;intro jb hjb;refine au 210 ?_;intro js hjs;refine au 6806804235 ?_;refine TK.cl Z Z Z Z (zgf hT (s:=s) (e:=e) hb hS) ?_;rintro r1 K2 ⟨rfl,rfl⟩;refine au 1142355661 ?_;refine TK.sp 14 (fun g2_2=>?_) (fun g2_2=>?_)
 ·refine au 126076906706701 ?_;refine TK.sp 21 (fun g2_9=>?_) (fun g2_9=>?_)
  ·refine au 680680 ?_;refine TK.cl Z Z Z Z (zg5 hT (s:=s) (e:=e) hb hS.len) ?_;rintro r4 K5 ⟨rfl,rfl⟩;refine au 35260 ?_;refine TK.rt hret [(1,_),(s,_),(e,_)] ?_;refine ⟨?_,rfl⟩;have hb2:badM b S b.seekers.length=false:=by simpa using g2_2
   have hw2:wrongM b S=wrongL b S b.seekers.length:=by unfold wrongM; rw [hb2]; rfl
   rw [hw2] at g2_9;unfold canM;rw [hb2,g2_9];rfl
  refine au 35250888 ?_;refine TK.rt hret [(1,_),(s,_),(e,_)] ?_;refine ⟨?_,rfl⟩;have hb2:badM b S b.seekers.length=false:=by simpa using g2_2
  have hw2:wrongM b S=wrongL b S b.seekers.length:=by unfold wrongM; rw [hb2]; rfl
  rw [hw2] at g2_9;unfold canM;rw [hb2,g2_9];rfl
 refine au 35250888125088888 ?_;refine TK.rt hret [(1,_),(s,_),(e,_)] ?_;refine ⟨?_,rfl⟩;unfold canM;rw [g2_2];rfl
theorem zlc {S:List Int} {n:Int} {e:TypeId} (h:S.length<3):putO (.cells (zY S) e true) (1+(S.length:Int).toNat*1) [intA (n+1)]=some (.cells [intA S.length,slotS (S++[n]) 0,slotS (S++[n]) 1,slotS (S++[n]) 2] e true):=by
 rcases S with _ | ⟨x,_ | ⟨y,_ | ⟨z,S⟩⟩⟩
 ·rfl
 ·rfl
 ·rfl
 ·simp at h; omega
def numbersM (b:Bk):Int:=bif !(decide (4<=b.steps)&&decide (b.steps<=16))||(!(decide (0<=b.wrong)&&decide (b.wrong<=3))||(decide (b.low<0)||(decide (b.low>b.high)||decide (b.high>3)))) then 1 else 0
def zE (b:Bk) (n:Int):Bool:=decide (0<=n)&&decide (n<=b.steps - 1)
def lookedM (b:Bk):Int:=if b.seen.length>4 then 2 else if (b.seen.any fun x => !zE b x.step)=true then 6 else 0
theorem zbq {main T} (hT:zh tp main T) {gm} {S:List Int} {n:Int} (hS:S.length<3) (hn : -1000<=n/\n<=1000) :
  zg tp T gm 176 [.agg (zY S),intA n] [] (fun r K'=>r=.agg (zY (S++[n]))/\K'=[]):=by
 refine ze 16 hT Tryz.func176 fun Y hret=>?_;refine au 21042 ?_;intro js hjs;refine au 220 ?_;intro jr hjr;refine au 6702301690670423 ?_;refine TK.a Z (yC Z Z Z ArEl.h oQ oQ) ?_;refine TK.st Z Z Z (zt Z Z zd.h Z Z mQ (zlc hS)) uQ (putN Z) ?_;refine au 3170680423170670230690670423 ?_;refine TK.rt hret [] ?_;exact ⟨by show AV.agg [intA (S.length+1),_,_,_]=_; unfold zY; rw [lF]; rfl,rfl⟩
theorem zhL {main T} (hT:zh tp main T) {gm} {b:Bk} {s e:Nat} :
  zg tp T gm 286 [.agg (zx b s e)] [] (fun r K'=>r=intA (numbersM b)/\K'=[]):=by
 refine ze 40 hT Tryz.func286 fun Y hret=>?_;refine au 21042 ?_;intro j1 hj1;refine au 69067067042235 ?_;refine TK.cl Z Z Z Z (vL hT) ?_;rintro r2 K3 ⟨rfl,rfl⟩;refine au 1300 ?_;refine TK.sp 8 (fun g1_6=>?_) (fun g1_6=>?_)
 ·refine au 35421803260888881260888888888126088888126088888 ?_;refine TK.rt hret [] ?_;exact ⟨by unfold numbersM; rw [g1_6]; rfl,rfl⟩
 refine au 690670670 ?_;refine TK.cl Z Z Z Z (vL hT) ?_;rintro r5 K6 ⟨rfl,rfl⟩;refine au 1250300 ?_;refine TK.sp 15 (fun g1_13=>?_) (fun g1_13=>?_)
 ·refine au 35421803260888881260888888888126088888 ?_;refine TK.rt hret [] ?_;exact ⟨by unfold numbersM; rw [g1_6,g1_13]; rfl,rfl⟩
 refine au 12507690670670670 ?_;refine TK.sp 22 (fun g1_20=>?_) (fun g1_20=>?_)
 ·refine au 35421803260888881260888888888 ?_;refine TK.rt hret [] ?_;exact ⟨by unfold numbersM; rw [g1_6,g1_13,g1_20]; rfl,rfl⟩
 refine au 12507690670670670690670670670 ?_;refine TK.sp 33 (fun g1_31=>?_) (fun g1_31=>?_)
 ·refine au 3542180326088888 ?_;refine TK.rt hret [] ?_;exact ⟨by unfold numbersM; rw [g1_6,g1_13,g1_20,g1_31]; rfl,rfl⟩
 refine au 932507690670670670 ?_;refine ⟨fun k0=>?_,fun k0=>?_⟩
 ·refine au 3542 ?_;refine TK.rt hret [] ?_;exact ⟨by unfold numbersM; rw [g1_6,g1_13,g1_20,g1_31,k0]; rfl,rfl⟩
 refine au 3542120 ?_;refine TK.rt hret [] ?_;exact ⟨by unfold numbersM; rw [g1_6,g1_13,g1_20,g1_31,k0]; rfl,rfl⟩
theorem zhI {main T} (hT:zh tp main T) {gm} {b:Bk} {s e jb:Nat} {x:Seen} (hs:0<=b.steps/\b.steps<=16) :
  zg tp T gm 292 [.agg (seenC x),.ptr jb 0] [(jb,.cells (zx b s e) 205 true)] (fun r K'=>r=zm (!zE b x.step)/\K'=[(jb,.cells (zx b s e) 205 true)]):=by
 refine ze 9 hT Tryz.func292 fun Y hret=>?_;refine au 21042 ?_;intro j1 hj1;refine au 6906706804235 ?_;refine TK.cl Z Z Z Z (kF hT (s:=s) (e:=e) hs) ?_;rintro r2 K3 ⟨rfl,rfl⟩;refine au 35300 ?_;refine TK.rt hret [(jb,_)] ?_;exact ⟨rfl,rfl⟩
theorem ziS {main T} (hT:zh tp main T) {gm} {b:Bk} {s e:Nat} (hs:0<=b.steps/\b.steps<=16) (hl:b.seen.length<=1000) :
  zg tp T gm 288 [.agg (zx b s e)] [(e,zo b)] (fun r K'=>r=intA (lookedM b)/\K'=[(e,zo b)]):=by
 refine ze 13 hT Tryz.func288 fun Y hret=>?_;refine au 21042 ?_;intro jb hjb;refine au 93728069067067042235 ?_;refine ⟨fun k0=>?_,fun k0=>?_⟩
 ·have k0:b.seen.length>4:=by have:=of_decide_eq_true k0; omega
  refine au 3542 ?_;refine TK.rt hret [(e,_)] ?_;exact ⟨by unfold lookedM; rw [if_pos k0]; rfl,rfl⟩
 have k0:¬ b.seen.length>4:=by have:=of_decide_eq_false k0; omega
 refine au 320690670670422120 ?_;refine TK.cl Z Z Z Z (uh hT (cp:=[.ptr jb 0]) (Kc:=[(jb,.cells (zx b s e) 205 true)]) (p:=fun x => !zE b x.step) Cal.h (fun x _=>zhI hT hs) (zdv b) hl) ?_;rintro r1 K2 ⟨rfl,rfl⟩;refine au 93 ?_;refine ⟨fun k1=>?_,fun k1=>?_⟩
 ·refine au 3542 ?_;refine TK.rt hret [(e,_)] ?_;exact ⟨by unfold lookedM; rw [if_neg k0,if_pos k1]; rfl,rfl⟩
 have k1:¬ (b.seen.any fun x => !zE b x.step)=true:=by rw [k1]; decide
 refine au 3542120 ?_;refine TK.rt hret [(e,_)] ?_;exact ⟨by unfold lookedM; rw [if_neg k0,if_neg k1]; rfl,rfl⟩
def SaysAt (ob:AObj) (off:Nat) (xs:List Says):Prop:=∀ (i:Nat) (h:i<xs.length),zZ ob (off+(i:Int).toNat*5) 5=some (saysC xs[i])
theorem zda {xs:List Says} {p:Says->Bool} {i:Nat} (h:i<xs.length) (hn:(xs.take i).any p=false) (he:p xs[i]=false):(xs.take (i+1)).any p=false:=by
 rw [List.take_add_one,lA h,List.any_append,hn];simp [he]
theorem zfq {main T} (hT:zh tp main T) {gm} {j off:Nat} {ob:AObj} {xs:List Says} {p:Says->Bool} {g:FuncId} {cp:List AV} {Kc:KV} (hg:ym tp g=true) (hp:∀ x∈xs,zg tp T gm g ([.agg (saysC x)]++cp) Kc (fun r K'=>r=zm (p x)/\K'=Kc)) (hI:SaysAt ob off xs) (hl:xs.length<=1000) :
  zg tp T gm 293 [.sl j off xs.length,.fn g [] cp] ((j,ob)::Kc) (fun r K'=>(∃ n:Int,r=intA n/\decide (n>=0)=xs.any p)/\K'=(j,ob)::Kc):=by
 refine ze 19 hT Tryz.func293 fun Y hret=>?_;refine au 1303128014223542 ?_;refine TK.maskL [0,1,7,8] ?_;refine TK.loopN (fun n env K=>∃ (i:Nat),n=xs.length - i/\i<=xs.length/\(xs.take i).any p=false/\env=zJ 19 [(0,.sl j off xs.length),(1,.fn g [] cp),(7,intA xs.length),(8,intA i)]/\K=(j,ob)::Kc) xs.length ⟨0,rfl,mN _,by simp,rfl,rfl⟩ fun n env K hI' hnext=>?_;obtain ⟨i,rfl,hi,hn,rfl,rfl⟩:=hI';refine au 923742 ?_;refine ⟨fun hc=>?_,fun hc=>?_⟩
 ·simp only [decide_eq_true_eq] at hc;have hil:i<xs.length:=by omega
  refine au 36011142351421302120 ?_;refine TK.a Z (zK Z Z zd.h mQ (hI i hil)) ?_;refine TK.cl Z Z Z Z (hp xs[i] (List.getElem_mem _)) ?_ (hs:=(.right (.all _))) (hg:=hg);rintro r1 K2 ⟨rfl,hK⟩;refine au 0 ?_;rw [hK];refine TK.perm (K':=(j,ob)::Kc) (List.perm_append_singleton _ _) ?_;refine au 93 ?_;constructor<;>intro hc1
  ·refine au 35142 ?_;refine TK.rta hret ?_;exact ⟨⟨i,rfl,by rw [decide_eq_true (Int.natCast_nonneg i),List.any_eq_true.2 ⟨xs[i],List.getElem_mem _,hc1⟩]⟩,rfl⟩
  refine au 312304140120 ?_;refine TK.maskL [0,1,7,8] ?_;exact hnext _ _ _ oQ ⟨i+1,rfl,oQ,zda hil hn hc1,rfl,rfl⟩
 simp only [decide_eq_false_iff_not] at hc;obtain rfl:i=xs.length:=by omega
 refine au 3542160 ?_;refine TK.rta hret ?_;rw [lW] at hn;exact ⟨⟨-1,rfl,by rw [hn]; rfl⟩,rfl⟩
theorem zcy {main T} (hT:zh tp main T) {gm} {j off:Nat} {ob:AObj} {xs:List Says} {p:Says->Bool} {g:FuncId} {cp:List AV} {Kc:KV} (hg:ym tp g=true) (hp:∀ x∈xs,zg tp T gm g ([.agg (saysC x)]++cp) Kc (fun r K'=>r=zm (p x)/\K'=Kc)) (hI:SaysAt ob off xs) (hl:xs.length<=1000) :
  zg tp T gm 290 [.sl j off xs.length,.fn g [] cp] ((j,ob)::Kc) (fun r K'=>r=zm (xs.any p)/\K'=(j,ob)::Kc):=by
 refine ze 9 hT Tryz.func290 fun Y hret=>?_;refine au 11423542 ?_;refine TK.cl Z Z Z Z (zfq hT hg hp hI hl) ?_ (hs:=(.all _));rintro r1 K2 ⟨⟨m,rfl,hm⟩,hK⟩;refine au 0 ?_;rw [hK,lR];refine au 357 ?_;refine TK.rta hret ?_;exact ⟨by rw [<- hm]; rfl,rfl⟩
theorem ziH {main T} (hT:zh tp main T) {gm} {x y:Says} {jy:Nat} {e:TypeId} :
  zg tp T gm 291 [.agg (saysC x),.ptr jy 0] [(jy,.cells (saysC y) e true)] (fun r K'=>r=zm (x.name.toList==y.name.toList)/\K'=[(jy,.cells (saysC y) e true)]):=by
 refine ze 9 hT Tryz.func291 fun Y hret=>?_;refine au 21042 ?_;intro j1 hj1;refine au 353306906706906704235 ?_;refine TK.rt hret [(jy,_)] ?_;exact ⟨rfl,rfl⟩
def byteOk (i:Nat) (c:Int):Bool:=(decide (97<=c)&&decide (c<=122))||((decide ((i:Int)>0)&&decide (48<=c))&&decide (c<=57))
def bytesOk (s:ByteArray) (n:Nat):Bool:=(List.range n).all fun i=>byteOk i (((s.data[i]?).map fun b=>(b.toNat:Int)).getD 0)
def isNameM (s:ByteArray):Bool:=bytesOk s s.size&&(decide (1<=(s.size:Int))&&decide ((s.size:Int)<=12))
theorem k8 {s:ByteArray} {i:Nat} {c:UInt8} (h:s.data[i]? =some c):bytesOk s (i+1)=(bytesOk s i&&byteOk i c.toNat):=by
 unfold bytesOk;rw [List.range_succ,List.all_append];simp [h]
theorem kg {s:ByteArray} {i n:Nat} {c:UInt8} (h:s.data[i]? =some c) (hi:i<n) (hb:byteOk i c.toNat=false):bytesOk s n=false:=by
 unfold bytesOk;rw [List.all_eq_false];exact ⟨i,List.mem_range.2 hi,by simp [h,hb]⟩
theorem zhl {s:ByteArray} {i:Nat} {c:UInt8} (h:s.data[i]? =some c) {e:TypeId} {rw:Bool}:zZ (.cells (s.data.toList.map byteA) e rw) (0+(i:Int).toNat*1) 1=some [byteA c]:=by
 have hlt:i<s.data.size:=(Array.getElem?_eq_some_iff.1 h).1;simp only [zZ,AObj.look,mZ,mO,Nat.mul_one];rw [if_pos ⟨by omega,by rw [List.length_map,Array.length_toList]; omega⟩,List.take_one,List.head?_drop,List.getElem?_map,Array.getElem?_toList,h];rfl
theorem ziO {main T} (hT:zh tp main T) {gm} {s:ByteArray} (hl:s.size<=1000) :
  zg tp T gm 289 [.v (.string s)] [] (fun r K'=>r=zm (isNameM s)/\K'=[]):=by
 refine ze 35 hT Tryz.func289 fun Y hret=>?_;refine au 14223542 ?_;refine TK.newS Z Z Z (ziU Z Z Und.h Und.h Und.h oQ) (fun _=>zy rfl tQ) fun jt hjt=>?_;refine au 13031280 ?_;refine TK.maskL [0,6,7,8] ?_;refine TK.loopN (fun n env K=>∃ (i:Nat),n=s.size - i/\i<=s.size/\bytesOk s i=true/\env=zJ 35 [(0,.v (.string s)),(6,.sl jt 0 s.size),(7,intA s.size),(8,intA i)]/\K=[(jt,.cells (s.data.toList.map byteA) 5 false)]) s.size ⟨0,rfl,mN _,rfl,rfl,rfl⟩ fun n env K hI hnext=>?_;obtain ⟨i,rfl,hi,hok,rfl,rfl⟩:=hI;refine au 923742 ?_;refine ⟨fun hc=>?_,fun hc=>?_⟩
 ·simp only [decide_eq_true_eq] at hc;have hil:i<s.data.size:=by have:s.data.size=s.size:=rfl; omega
  obtain ⟨cb,hcb⟩:∃ cb,s.data[i]? =some cb:=⟨_,Array.getElem?_eq_getElem hil⟩;refine au 3601421302120 ?_;refine TK.a Z (zp Z Z zd.h mQ (zhl hcb)) ?_;refine au 17142130355 ?_;refine TK.sp 16 (fun g5_3=>?_) (fun g5_3=>?_)
  ·refine au 93526071 ?_;refine ⟨fun k1=>?_,fun k1=>?_⟩
   ·refine au 312304140140120 ?_;refine TK.maskL [0,6,7,8] ?_;refine TK.kp [(jt,_)] ?_;exact hnext _ _ _ oQ ⟨i+1,rfl,oQ,by rw [k8 hcb,hok]; unfold byteOk; first | (simp only [*]; rfl) | simp only [*],rfl,rfl⟩
   refine au 17142 ?_;refine TK.sp 23 (fun g6_3=>?_) (fun g6_3=>?_)
   ·refine au 126071 ?_;refine TK.sp 27 (fun g6_7=>?_) (fun g6_7=>?_)
    ·refine au 93526071 ?_;refine ⟨fun k2=>?_,fun k2=>?_⟩
     ·refine au 312304140140120 ?_;refine TK.maskL [0,6,7,8] ?_;refine TK.kp [(jt,_)] ?_;exact hnext _ _ _ oQ ⟨i+1,rfl,oQ,by rw [k8 hcb,hok]; unfold byteOk; first | (simp only [*]; rfl) | simp only [*],rfl,rfl⟩
     refine au 3542 ?_;refine TK.rt hret [] ?_;exact ⟨by unfold isNameM; rw [kg (n:=s.size) hcb hil (by unfold byteOk; first | (simp only [*]; rfl) | simp only [*])]; rfl,rfl⟩
    refine au 35421903525088 ?_;refine TK.rt hret [] ?_;exact ⟨by unfold isNameM; rw [kg (n:=s.size) hcb hil (by unfold byteOk; first | (simp only [*]; rfl) | simp only [*])]; rfl,rfl⟩
   refine au 35421903525088125088 ?_;refine TK.rt hret [] ?_;exact ⟨by unfold isNameM; rw [kg (n:=s.size) hcb hil (by unfold byteOk; first | (simp only [*]; rfl) | simp only [*])]; rfl,rfl⟩
  refine au 171421903525088 ?_;refine TK.sp 23 (fun g6_3=>?_) (fun g6_3=>?_)
  ·refine au 126071 ?_;refine TK.sp 27 (fun g6_7=>?_) (fun g6_7=>?_)
   ·refine au 93526071 ?_;refine ⟨fun k2=>?_,fun k2=>?_⟩
    ·refine au 312304140140120 ?_;refine TK.maskL [0,6,7,8] ?_;refine TK.kp [(jt,_)] ?_;exact hnext _ _ _ oQ ⟨i+1,rfl,oQ,by rw [k8 hcb,hok]; unfold byteOk; first | (simp only [*]; rfl) | simp only [*],rfl,rfl⟩
    refine au 3542 ?_;refine TK.rt hret [] ?_;exact ⟨by unfold isNameM; rw [kg (n:=s.size) hcb hil (by unfold byteOk; first | (simp only [*]; rfl) | simp only [*])]; rfl,rfl⟩
   refine au 35421903525088 ?_;refine TK.rt hret [] ?_;exact ⟨by unfold isNameM; rw [kg (n:=s.size) hcb hil (by unfold byteOk; first | (simp only [*]; rfl) | simp only [*])]; rfl,rfl⟩
  refine au 35421903525088125088 ?_;refine TK.rt hret [] ?_;exact ⟨by unfold isNameM; rw [kg (n:=s.size) hcb hil (by unfold byteOk; first | (simp only [*]; rfl) | simp only [*])]; rfl,rfl⟩
 simp only [decide_eq_false_iff_not] at hc;obtain rfl:i=s.size:=by omega
 refine au 290142160 ?_;refine TK.cl Z Z Z Z (vL hT) ?_;rintro r1 K2 ⟨rfl,rfl⟩;refine au 35 ?_;refine TK.rt hret [] ?_;exact ⟨by unfold isNameM; rw [hok]; rfl,rfl⟩
def heard1 (b:Bk) (i:Nat):Int:=match b.seekers[i]? with
 | some x=>if (!isNameM x.name)=true then 4 else if ((b.seekers.take i).any fun o=>o.name.toList==x.name.toList)=true then 5 else if (!zE b x.frm || !zE b x.til)=true then 6 else if (decide (x.says<0)||decide (x.says>2))=true then 1 else 0
 | none=>0
def heardL (b:Bk):Nat->Int
 | 0=>0
 | n+1=>if heardL b n=0 then heard1 b n else heardL b n
def heardM (b:Bk):Int:=if b.seekers.length>5 then 2 else heardL b b.seekers.length
theorem yT {b:Bk} {i:Nat} {c:Int} (h0:heardL b i=0) (h1:heard1 b i=c) (hc:c≠0):∀ {n:Nat},i<n->heardL b n=c
 | 0,h=>absurd h (Nat.not_lt_zero _)
 | n+1,h=>by
  rcases mR i n with hlt | hge
  ·have:=yT h0 h1 hc hlt;unfold heardL;rw [this,if_neg hc]
  ·obtain rfl:i=n:=by omega
   unfold heardL;rw [if_pos h0,h1]
theorem zla {b:Bk} {s i:Nat} (h:i<=b.seekers.length):subA s 0 5 0 ((i:Int).toNat)=.sl s 0 (b.seekers.take i).length:=by
 rw [List.length_take,Nat.min_eq_left h];rfl
theorem zjA (b:Bk) (i:Nat):SaysAt (zn b) 0 (b.seekers.take i):=fun k h=>by
 rw [List.length_take] at h;rw [List.getElem_take];exact says_at' b (lA oQ)
theorem zkp {main T} (hT:zh tp main T) {gm} {b:Bk} {s e:Nat} (hs:0<=b.steps/\b.steps<=16) (hn:∀ x∈b.seekers,x.name.size<=1000) :
  zg tp T gm 287 [.agg (zx b s e)] [(s,zn b)] (fun r K'=>r=intA (heardM b)/\K'=[(s,zn b)]):=by
 refine ze 55 hT Tryz.func287 fun Y hret=>?_;refine au 21042 ?_;intro jb hjb;refine au 93728069067067042235 ?_;refine ⟨fun k0=>?_,fun k0=>?_⟩
 ·have k0:b.seekers.length>5:=by have:=of_decide_eq_true k0; omega
  refine au 3542 ?_;refine TK.rt hret [(s,_)] ?_;exact ⟨by unfold heardM; rw [if_pos k0]; rfl,rfl⟩
 have k0:¬ b.seekers.length>5:=by have:=of_decide_eq_false k0; omega
 refine au 13031280690670670422120 ?_;refine TK.maskL [1,12,13,14] ?_;refine TK.loopN (fun n env K=>∃ (i:Nat),n=b.seekers.length - i/\i<=b.seekers.length/\heardL b i=0/\env=zJ 55 [(1,.ptr jb 0),(12,.sl s 0 b.seekers.length),(13,intA b.seekers.length),(14,intA i)]/\K=[(jb,.cells (zx b s e) 205 true),(s,zn b)]) b.seekers.length ⟨0,rfl,mN _,rfl,rfl,rfl⟩ fun n env K hI hnext=>?_;obtain ⟨i,rfl,hi,h0,rfl,rfl⟩:=hI;refine au 923742 ?_;refine ⟨fun hc=>?_,fun hc=>?_⟩
 ·simp only [decide_eq_true_eq] at hc;have hil:i<b.seekers.length:=by omega
  obtain ⟨x,hx⟩:∃ x,b.seekers[i]? =some x:=⟨_,lA hil⟩;have hxm:=lN hx;refine au 3601421302120 ?_;refine TK.a Z (zK Z Z zd.h mQ (says_at' b hx)) ?_;refine au 220 ?_;intro jx hjx;refine au 6906704213031705 ?_;refine TK.cl Z Z Z Z (ziO hT (hn x hxm)) ?_;rintro r1 K2 ⟨rfl,rfl⟩;refine au 935300 ?_;refine ⟨fun k2=>?_,fun k2=>?_⟩
  ·refine au 3542 ?_;refine TK.rt hret [(s,_)] ?_;exact ⟨by unfold heardM; rw [if_neg k0,yT h0 (c:=4) (by unfold heard1 zE; rw [hx]; simp only [*,if_true]) dQ hil]; rfl,rfl⟩
  refine au 169067067042 ?_;refine TK.a Z (zem Z Z SlEl.h Z Z oQ oQ (zla (b:=b) hi)) ?_;refine au 320 ?_;refine TK.cl Z Z Z Z (zcy hT (cp:=[.ptr jx 0]) (Kc:=[(jx,.cells (saysC x) 114 true)]) (p:=fun o=>o.name.toList==x.name.toList) Cal.h (fun y _=>ziH hT) (zjA b i) (by rw [List.length_take]; omega)) ?_;rintro r4 K5 ⟨rfl,rfl⟩;refine au 935 ?_;refine ⟨fun k3=>?_,fun k3=>?_⟩
  ·refine au 3542 ?_;refine TK.rt hret [(s,_)] ?_;exact ⟨by unfold heardM; rw [if_neg k0,yT h0 (c:=5) (by unfold heard1 zE; rw [hx]; simp only [*]; rfl) dQ hil]; rfl,rfl⟩
  refine au 69067068042 ?_;refine TK.cl Z Z Z Z (kF hT (b:=b) (s:=s) (e:=e) hs) ?_;rintro r7 K8 ⟨rfl,rfl⟩;refine au 1300 ?_;refine TK.sp 38 (fun g10_6=>?_) (fun g10_6=>?_)
  ·refine au 35421803526088888 ?_;refine TK.rt hret [(s,_)] ?_;exact ⟨by unfold heardM; rw [if_neg k0,yT h0 (c:=6) (by unfold heard1 zE; rw [hx]; simp only [*]; rfl) dQ hil]; rfl,rfl⟩
  refine au 690670680 ?_;refine TK.cl Z Z Z Z (kF hT (b:=b) (s:=s) (e:=e) hs) ?_;rintro r10 K11 ⟨rfl,rfl⟩;refine au 935250300 ?_;refine ⟨fun k4=>?_,fun k4=>?_⟩
  ·refine au 3542 ?_;refine TK.rt hret [(s,_)] ?_;exact ⟨by unfold heardM; rw [if_neg k0,yT h0 (c:=6) (by unfold heard1 zE; rw [hx]; simp only [*]; rfl) dQ hil]; rfl,rfl⟩
  refine au 1769067042 ?_;refine TK.sp 49 (fun g12_4=>?_) (fun g12_4=>?_)
  ·refine au 354218035260888 ?_;refine TK.rt hret [(s,_)] ?_;exact ⟨by unfold heardM; rw [if_neg k0,yT h0 (c:=1) (by unfold heard1 zE; rw [hx]; simp only [*]; rfl) dQ hil]; rfl,rfl⟩
  refine au 9352507690670 ?_;refine ⟨fun k5=>?_,fun k5=>?_⟩
  ·refine au 3542 ?_;refine TK.rt hret [(s,_)] ?_;exact ⟨by unfold heardM; rw [if_neg k0,yT h0 (c:=1) (by unfold heard1 zE; rw [hx]; simp only [*]; rfl) dQ hil]; rfl,rfl⟩
  refine au 312304140140120 ?_;refine TK.maskL [1,12,13,14] ?_;refine TK.kp [(jb,_),(s,_)] ?_;exact hnext _ _ _ oQ ⟨i+1,rfl,oQ,by unfold heardL; rw [if_pos h0]; unfold heard1 zE; rw [hx]; simp only [*]; rfl,rfl,rfl⟩
 simp only [decide_eq_false_iff_not] at hc;obtain rfl:i=b.seekers.length:=by omega
 refine au 3542160 ?_;refine TK.rt hret [(s,_)] ?_;exact ⟨by unfold heardM; rw [if_neg k0,h0]; rfl,rfl⟩
def zw:AObj:=.cells [.fn 286 [] [],.fn 287 [] [],.fn 288 [] []] 313 false
def checkM (b:Bk):Int:=if (numbersM b !=0)=true then numbersM b else if (heardM b !=0)=true then heardM b else lookedM b
theorem ko {b:Bk} (h:(numbersM b !=0)=false):4<=b.steps/\b.steps<=16/\0<=b.wrong/\b.wrong<=3/\0<=b.low/\b.low<=b.high/\b.high<=3:=by
 unfold numbersM at h;cases hc:(!(decide (4<=b.steps)&&decide (b.steps<=16))||(!(decide (0<=b.wrong)&&decide (b.wrong<=3))||(decide (b.low<0)||(decide (b.low>b.high)||decide (b.high>3))))) with
 | true=>rw [hc] at h; cases h
 | false =>
  simp only [Bool.or_eq_false_iff,Bool.not_eq_false',mX,decide_eq_true_eq,decide_eq_false_iff_not] at hc;omega
theorem kP {main:Bool} {T:Goroutine->Hp->Prop} (hT:zh tp main T)  {b:Bk} {s e:Nat} (hn:∀ x∈b.seekers,x.name.size<=1000) (hl:b.seen.length<=1000) :
  zg tp T gmS 100 [.agg (zx b s e)] [(0,zw),(s,zn b),(e,zo b)] (fun r K'=>r=intA (checkM b)/\K'=[(0,zw),(s,zn b),(e,zo b)]):=by
 refine ze 18 hT Tryz.func100 fun Y hret=>?_;refine au 21042 ?_;intro jb hjb;refine au 1303168042235 ?_;refine TK.loop ?_;refine au 923742 ?_;refine ⟨fun k0=>?_,fun k0=>?_⟩
 ·
  refine au 421302120 ?_;refine TK.a Z (vO Z Z Z ArEl.h oQ oQ Z) ?_;refine au 43068014235 ?_;refine TK.cl Z Z Z Z (zhL hT (b:=b) (s:=s) (e:=e)) ?_;rintro r1 K2 ⟨rfl,rfl⟩;refine au 93714235 ?_;refine ⟨fun k1=>?_,fun k1=>?_⟩
  ·refine au 35142 ?_;refine TK.rt hret [(0,_),(s,_),(e,_)] ?_;exact ⟨by unfold checkM; rw [if_pos k1],rfl⟩
  have q1:=k1;have hr:=ko q1;refine au 312304140120 ?_;refine TK.inLoop ?_;refine au 923742 ?_;refine ⟨fun k0=>?_,fun k0=>?_⟩
  ·
   refine au 421302120 ?_;refine TK.a Z (vO Z Z Z ArEl.h oQ oQ Z) ?_;refine au 43068014235 ?_;refine TK.cl Z Z Z Z (zkp hT (b:=b) (s:=s) (e:=e) oQ hn) ?_;rintro r4 K5 ⟨rfl,rfl⟩;refine au 93714235 ?_;refine ⟨fun k1=>?_,fun k1=>?_⟩
   ·refine au 35142 ?_;refine TK.rt hret [(0,_),(s,_),(e,_)] ?_;exact ⟨by unfold checkM; rw [if_neg (by rw [q1]; decide),if_pos k1],rfl⟩
   have q2:=k1;refine au 312304140120 ?_;refine TK.inLoop ?_;refine au 923742 ?_;refine ⟨fun k0=>?_,fun k0=>?_⟩
   ·
    refine au 421302120 ?_;refine TK.a Z (vO Z Z Z ArEl.h oQ oQ Z) ?_;refine au 43068014235 ?_;refine TK.cl Z Z Z Z (ziS hT (b:=b) (s:=s) (e:=e) oQ hl) ?_;rintro r7 K8 ⟨rfl,rfl⟩;refine au 93714235 ?_;refine ⟨fun k1=>?_,fun k1=>?_⟩
    ·refine au 35142 ?_;refine TK.rt hret [(0,_),(s,_),(e,_)] ?_;exact ⟨by unfold checkM; rw [if_neg (by rw [q1]; decide),if_neg (by rw [q2]; decide)],rfl⟩
    refine au 312304140120 ?_;refine TK.inLoop ?_;refine au 923742 ?_;refine ⟨fun k0=>?_,fun k0=>?_⟩
    ·exact absurd k0 dQ
    refine au 3542160 ?_;refine TK.rt hret [(0,_),(s,_),(e,_)] ?_;exact ⟨by unfold checkM; rw [if_neg (by rw [q1]; decide),if_neg (by rw [q2]; decide)]; rw [show lookedM b=0 by simpa using k1]; rfl,rfl⟩
   exact absurd k0 dQ
  exact absurd k0 dQ
 exact absurd k0 dQ
def restM (b:Bk) (i:Nat):List Int:=(List.range' i (b.steps.toNat - i)).map fun k:Nat=>(k:Int)
theorem zep {b:Bk} {i:Nat} (h:b.steps<=i):restM b i=[]:=by
 unfold restM;rw [show b.steps.toNat - i=0 by omega]; rfl
theorem zcU {b:Bk} {i:Nat} (h:(i:Int)<b.steps):restM b i=(i:Int)::restM b (i+1):=by
 unfold restM;rw [show b.steps.toNat - i=(b.steps.toNat - (i+1))+1 by omega,List.range'_succ]; rfl
def ownM (b:Bk) (S:List Int):List (List Int):=if seenM b S=true then [S] else []
def loopM (b:Bk):List Int->List Int->List (List Int)
 | _,[]=>[]
 | S,n::rest=>if (S.length:Int)<b.high then (ownM b (S++[n])++loopM b (S++[n]) rest)++loopM b S rest else []
def allM (b:Bk):List (List Int):=ownM b []++loopM b [] (restM b 0)
theorem zcH {b:Bk} {S:List Int} (h:¬ (S.length:Int)<b.high):∀ rest,loopM b S rest=[]
 | []=>rfl
 | n::rest=>by simp only [loopM]; rw [if_neg h]
theorem zcm (b:Bk):SmOk b []:=⟨by simp,by simp⟩
theorem za5 {b:Bk} {S:List Int} {n:Int} (h:SmOk b S) (hl:S.length<3) (hn:0<=n/\n<b.steps):SmOk b (S++[n]):=⟨by simp; omega,fun x hx=>by
 rcases lT.1 hx with hx | hx
 ·exact h.mem x hx
 ·rw [lS.1 hx]; exact hn⟩
theorem zgY {b:Bk} {S:List Int} (h:SmOk b S):∀ R∈ownM b S,SmOk b R:=fun R hR=>by
 unfold ownM at hR;split at hR
 ·rw [lS.1 hR]; exact h
 ·cases hR
theorem zcd {b:Bk} (hb:BkOk b):∀ (rest:List Int) (S:List Int),SmOk b S->(∀ n∈rest,0<=n/\n<b.steps)->∀ R∈loopM b S rest,SmOk b R
 | [],S,_,_,R,hR=>by cases hR
 | n::rest,S,hS,hr,R,hR=>by
  simp only [loopM] at hR;split at hR
  ·rename_i h;have hw:=za5 hS (by have:=hb.high; omega) (hr n sQ);rcases lT.1 hR with hR | hR
   ·rcases lT.1 hR with hR | hR
    ·exact zgY hw R hR
    ·exact zcd hb rest _ hw (fun m hm=>hr m (by simp [hm])) R hR
   ·exact zcd hb rest S hS (fun m hm=>hr m (by simp [hm])) R hR
  ·cases hR
theorem zjt {b:Bk} {i:Nat}:∀ n∈restM b i,0<=n/\n<b.steps:=fun n hn=>by
 unfold restM at hn;rw [lY] at hn;obtain ⟨k,hk,rfl⟩:=hn;rw [List.mem_range'] at hk;omega
theorem uF {b:Bk} (hb:BkOk b):∀ S∈allM b,SmOk b S:=fun S hS=>by
 rcases lT.1 hS with h | h
 ·exact zgY (zcm b) S h
 ·exact zcd hb _ _ (zcm b) zjt S h
theorem uL {b:Bk} (hb:BkOk b) {pre:List (List Int)} {S:List Int} (h:pre++[S] <+: allM b):SmOk b S:=uF hb S (h.subset sQ)
def YieldK (P:Program) (T:Goroutine->Hp->Prop) (gm:Nat->Option Nat) (b:Bk) (e l:Nat) (J:List (List Int)->KV->Prop) (D:KV->Prop) (tot:List (List Int)):Prop:=∀ (pre:List (List Int)) (S:List Int) (K1:KV),pre++[S] <+: tot->J pre K1 ->
 CallFK P T gm (.yl l) [.agg (zY S)] ((e,zo b)::K1) fun r K'=>∃ K2,K'=(e,zo b)::K2/\((r=zm true/\J (pre++[S]) K2)\/(r=zm false/\D K2))
section
variable {P:Program} {gm:Nat->Option Nat} {T:Goroutine->Hp->Prop} {Y:KX P gm T} {ds:List Nat} {k:List Item} {env:List AV} {K K':KV} {ops:Array Oper} {L:List Nat} {pend:List Pd}
theorem TD.perm (hp:K.Perm K') (h:TD Y ds ops k pend L env K'):TD Y ds ops k pend L env K:=fun h1 h2 h3 A hA=>h h1 h2 (fun p hp' x hx=>hp.subset (h3 p hp' x hx)) A
 ⟨hA.view.sub fun x hx=>hp.symm.subset hx,(zL hp).nodup_iff.1 hA.nd,fun i hi=>hA.own i ((zL hp).symm.subset hi),hA.kept,hA.len⟩
end
theorem zae {b:Bk} {S:List Int} {i:Nat} {pre x:List (List Int)} (hi:(i:Int)<b.steps) (hs:(S.length:Int)<b.high) (h:pre++loopM b S (restM b i)=x) :
  (pre++(ownM b (S++[(i:Int)])++loopM b (S++[(i:Int)]) (restM b (i+1))))++loopM b S (restM b (i+1))=x:=by
 rw [<- h,zcU hi];simp only [loopM];rw [if_pos hs];simp only [List.append_assoc]
theorem zlM {main T} (hT:zh tp main T) {gm} {b:Bk} {s e l jb jy jn:Nat} (hb:BkOk b) {J:List (List Int)->KV->Prop} {D:KV->Prop} {tot:List (List Int)} (hy:YieldK tp T gm b e l J D tot) :
  ∀ (m:Nat) (S:List Int) (step:Nat) (pre:List (List Int)) (K1:KV),b.steps.toNat - step=m->SmOk b S->(step:Int)<=b.steps->pre++(ownM b S++loopM b S (restM b step)) <+: tot->J pre K1 ->
  zg tp T gm 174 [.agg (zY S),intA step,.ptr jb 0,.ptr jy 0,.ptr jn 0] ((jb,.cells (zx b s e) 205 true)::(jy,.cells [.yl l] 214 true)::(jn,.cells [.fn 174 [] [.ptr jb 0,.ptr jy 0,.ptr jn 0]] 212 true)::(e,zo b)::K1) (fun r K'=>∃ K2,K'=(jb,.cells (zx b s e) 205 true)::(jy,.cells [.yl l] 214 true)::(jn,.cells [.fn 174 [] [.ptr jb 0,.ptr jy 0,.ptr jn 0]] 212 true)::(e,zo b)::K2/\((r=zm true/\J (pre++(ownM b S++loopM b S (restM b step))) K2)\/(r=zm false/\D K2))):=by
 refine fun m=>Nat.strongRecOn m fun m ih=>?_;intro S step pre K1 hm hS hst hpre hJ;refine ze 43 hT Tryz.func174 fun Y hret=>?_;refine au 21042 ?_;intro js hjs;refine au 68068042235 ?_;refine TK.cl Z Z Z Z (zg5 hT (s:=s) (e:=e) hb hS.len) ?_ (hs:=(.rem (.tail (.tail (.tail (.tail .head)))) (.none _)));rintro r1 K2 ⟨rfl,rfl⟩;refine au 0 ?_;refine TK.perm (K':=(js,_)::(jb,_)::(jy,_)::(jn,_)::(e,_)::K1) (List.perm_middle (l₁:=[(js,_),(jb,_),(jy,_),(jn,_)])).symm ?_;refine au 1 ?_;refine TK.sp 12 (fun g1_4=>?_) (fun g1_4=>?_)
 ·have hown:ownM b S=[S]:=if_pos g1_4;refine au 680690 ?_;refine TK.callF' Z Z Z Z Z (hy pre S K1 (List.IsPrefix.trans (by rw [hown,<- List.append_assoc]; exact List.prefix_append _ _) hpre) hJ) (.right (.right (.right (.right (.all _))))) fun r4 K5 h6=>?_;rcases h6 with ⟨K2,rfl,⟨rfl,hJ2⟩ | ⟨rfl,hD⟩⟩
  ·refine au 0 ?_;refine TK.perm (K':=(js,_)::(jb,_)::(jy,_)::(jn,_)::(e,_)::K2) (lH (l₁:=(e,_)::K2)) ?_;refine au 1303514221201903260300 ?_;refine TK.maskL [2,3,4,5,8] ?_;refine TK.loopN (fun n env K=>∃ (i:Nat) (pre1:List (List Int)) (K2:KV),n=b.steps.toNat - i/\step<=i/\(i:Int)<=b.steps/\J pre1 K2/\pre1++loopM b S (restM b i)=pre++(ownM b S++loopM b S (restM b step))/\env=zJ 43 [(2,.ptr jb 0),(3,.ptr jy 0),(4,.ptr jn 0),(5,.ptr js 0),(8,intA i)]/\K=(js,.cells (zY S) 209 true)::(jb,.cells (zx b s e) 205 true)::(jy,.cells [.yl l] 214 true)::(jn,.cells [.fn 174 [] [.ptr jb 0,.ptr jy 0,.ptr jn 0]] 212 true)::(e,zo b)::K2) (b.steps.toNat - step) ⟨step,pre++[S],_,rfl,mL _,hst,hJ2,by rw [hown,List.append_assoc],rfl,rfl⟩ fun n env K hI hnext=>?_;obtain ⟨i,pre1,K2,rfl,hsi,hi,hJ1,hEq,rfl,rfl⟩:=hI;refine au 176906706701422 ?_;refine TK.sp 24 (fun g4_6=>?_) (fun g4_6=>?_)
   ·simp only [decide_eq_true_eq] at g4_6;refine au 932607690670670670690670 ?_;constructor<;>intro hc1
    ·simp only [decide_eq_true_eq] at hc1;have hh:=hb.high;have hst16:=hb.steps;refine au 21302120 ?_;refine TK.dr [0,1,2,4,5,3,6,7] [0,1,2,3,4,5,6,7] ?_;refine ad [[10,4],[12,5],[1,8],[1,8],[8,39]] ?_;refine TD.cl (pend':=[⟨5,[39],[]⟩,⟨4,[8],[]⟩,⟨0,[4],[(_,_)]⟩]) [36,37] Z Z Z Z Z (zbq hT oQ (by have:=hb.steps; omega)) (fun r7 K8 h9=>⟨?_,?_⟩)
     ·rcases h9 with ⟨rfl,rfl⟩
      all_goals simp
     obtain ⟨rfl,rfl⟩:=h9;try simp only [cA]
     refine TD.norm tQ ?_;refine TD.cl (pend':=[⟨4,[8],[]⟩]) [35,38,40] Z Z Z Z Z (ih (b.steps.toNat - (i+1)) oQ (S++[(i:Int)]) (i+1) pre1 K2 Z (za5 hS oQ oQ) oQ (List.IsPrefix.trans ⟨loopM b S (restM b (i+1)),zae oQ oQ hEq⟩ hpre) hJ1) (fun r10 K11 h12=>⟨?_,?_⟩) (hs:=(.right (.all _)))
     ·rcases h12 with ⟨K3,rfl,⟨rfl,hJ3⟩ | ⟨rfl,hD⟩⟩
      all_goals simp
     rcases h12 with ⟨K3,rfl,⟨rfl,hJ3⟩ | ⟨rfl,hD⟩⟩
     ·try simp only [cA]
      refine TD.norm tQ ?_;refine TD.perm (K':=(js,_)::(jb,_)::(jy,_)::(jn,_)::(e,_)::K3) (List.perm_append_singleton _ ((jb,_)::(jy,_)::(jn,_)::(e,_)::K3)) ?_;refine TD.z [41] Z (q_not Z Z) ?_;refine ad [[14]] ?_;refine au 3523014140120190 ?_;refine TK.maskL [2,3,4,5,8] ?_;exact hnext _ _ _ oQ ⟨i+1,_,K3,rfl,oQ,oQ,hJ3,zae oQ oQ hEq,rfl,rfl⟩
     ·try simp only [cA]
      refine TD.norm tQ ?_;refine TD.perm (K':=(js,_)::(jb,_)::(jy,_)::(jn,_)::(e,_)::K3) (List.perm_append_singleton _ ((jb,_)::(jy,_)::(jn,_)::(e,_)::K3)) ?_;refine TD.z [41] Z (q_not Z Z) ?_;refine ad [[14]] ?_;refine au 3542180 ?_;refine TK.rt hret (_) ?_ (hs:=(.right (.all _)));exact ⟨_,rfl,.inr ⟨rfl,hD⟩⟩
    have hsh:=of_decide_eq_false hc1;refine au 3542160 ?_;refine TK.rt hret (_) ?_ (hs:=(.right (.all _)));refine ⟨_,rfl,.inl ⟨rfl,?_⟩⟩;rw [zcH hsh,lR] at hEq;rw [<- hEq];exact hJ1
   simp only [decide_eq_false_iff_not] at g4_6;refine au 354216019032508888888 ?_;refine TK.rt hret (_) ?_ (hs:=(.right (.all _)));refine ⟨_,rfl,.inl ⟨rfl,?_⟩⟩;rw [zep oQ] at hEq;rw [loopM,lR] at hEq;rw [<- hEq];exact hJ1
  ·refine au 0 ?_;refine TK.perm (K':=(js,_)::(jb,_)::(jy,_)::(jn,_)::(e,_)::K2) (lH (l₁:=(e,_)::K2)) ?_;refine au 35421803260300 ?_;refine TK.rt hret (_) ?_ (hs:=(.right (.all _)));exact ⟨_,rfl,.inr ⟨rfl,hD⟩⟩
 have hown:ownM b S=[]:=if_neg (by rw [g1_4]; decide);refine au 13035142212019032508888 ?_;refine TK.maskL [2,3,4,5,8] ?_;refine TK.loopN (fun n env K=>∃ (i:Nat) (pre1:List (List Int)) (K2:KV),n=b.steps.toNat - i/\step<=i/\(i:Int)<=b.steps/\J pre1 K2/\pre1++loopM b S (restM b i)=pre++(ownM b S++loopM b S (restM b step))/\env=zJ 43 [(2,.ptr jb 0),(3,.ptr jy 0),(4,.ptr jn 0),(5,.ptr js 0),(8,intA i)]/\K=(js,.cells (zY S) 209 true)::(jb,.cells (zx b s e) 205 true)::(jy,.cells [.yl l] 214 true)::(jn,.cells [.fn 174 [] [.ptr jb 0,.ptr jy 0,.ptr jn 0]] 212 true)::(e,zo b)::K2) (b.steps.toNat - step) ⟨step,pre,_,rfl,mL _,hst,hJ,by rw [hown]; rfl,rfl,rfl⟩ fun n env K hI hnext=>?_;obtain ⟨i,pre1,K2,rfl,hsi,hi,hJ1,hEq,rfl,rfl⟩:=hI;refine au 176906706701422 ?_;refine TK.sp 24 (fun g4_6=>?_) (fun g4_6=>?_)
 ·simp only [decide_eq_true_eq] at g4_6;refine au 932607690670670670690670 ?_;constructor<;>intro hc1
  ·simp only [decide_eq_true_eq] at hc1;have hh:=hb.high;have hst16:=hb.steps;refine au 21302120 ?_;refine TK.dr [0,1,2,4,5,3,6,7] [0,1,2,3,4,5,6,7] ?_;refine ad [[10,4],[12,5],[1,8],[1,8],[8,39]] ?_;refine TD.cl (pend':=[⟨5,[39],[]⟩,⟨4,[8],[]⟩,⟨0,[4],[(_,_)]⟩]) [36,37] Z Z Z Z Z (zbq hT oQ (by have:=hb.steps; omega)) (fun r13 K14 h15=>⟨?_,?_⟩)
   ·rcases h15 with ⟨rfl,rfl⟩
    all_goals simp
   obtain ⟨rfl,rfl⟩:=h15;try simp only [cA]
   refine TD.norm tQ ?_;refine TD.cl (pend':=[⟨4,[8],[]⟩]) [35,38,40] Z Z Z Z Z (ih (b.steps.toNat - (i+1)) oQ (S++[(i:Int)]) (i+1) pre1 K2 Z (za5 hS oQ oQ) oQ (List.IsPrefix.trans ⟨loopM b S (restM b (i+1)),zae oQ oQ hEq⟩ hpre) hJ1) (fun r16 K17 h18=>⟨?_,?_⟩) (hs:=(.right (.all _)))
   ·rcases h18 with ⟨K3,rfl,⟨rfl,hJ3⟩ | ⟨rfl,hD⟩⟩
    all_goals simp
   rcases h18 with ⟨K3,rfl,⟨rfl,hJ3⟩ | ⟨rfl,hD⟩⟩
   ·try simp only [cA]
    refine TD.norm tQ ?_;refine TD.perm (K':=(js,_)::(jb,_)::(jy,_)::(jn,_)::(e,_)::K3) (List.perm_append_singleton _ ((jb,_)::(jy,_)::(jn,_)::(e,_)::K3)) ?_;refine TD.z [41] Z (q_not Z Z) ?_;refine ad [[14]] ?_;refine au 3523014140120190 ?_;refine TK.maskL [2,3,4,5,8] ?_;exact hnext _ _ _ oQ ⟨i+1,_,K3,rfl,oQ,oQ,hJ3,zae oQ oQ hEq,rfl,rfl⟩
   ·try simp only [cA]
    refine TD.norm tQ ?_;refine TD.perm (K':=(js,_)::(jb,_)::(jy,_)::(jn,_)::(e,_)::K3) (List.perm_append_singleton _ ((jb,_)::(jy,_)::(jn,_)::(e,_)::K3)) ?_;refine TD.z [41] Z (q_not Z Z) ?_;refine ad [[14]] ?_;refine au 3542180 ?_;refine TK.rt hret (_) ?_ (hs:=(.right (.all _)));exact ⟨_,rfl,.inr ⟨rfl,hD⟩⟩
  have hsh:=of_decide_eq_false hc1;refine au 3542160 ?_;refine TK.rt hret (_) ?_ (hs:=(.right (.all _)));refine ⟨_,rfl,.inl ⟨rfl,?_⟩⟩;rw [zcH hsh,lR] at hEq;rw [<- hEq];exact hJ1
 simp only [decide_eq_false_iff_not] at g4_6;refine au 354216019032508888888 ?_;refine TK.rt hret (_) ?_ (hs:=(.right (.all _)));refine ⟨_,rfl,.inl ⟨rfl,?_⟩⟩;rw [zep oQ] at hEq;rw [loopM,lR] at hEq;rw [<- hEq];exact hJ1
theorem zmk {main T} (hT:zh tp main T) {gm} {b:Bk} {s e l:Nat} (hb:BkOk b) {J:List (List Int)->KV->Prop} {D:KV->Prop} {K1:KV} (hy:YieldK tp T gm b e l J D (allM b)) (hJ:J [] K1) :
  zg tp T gm 98 [.agg (zx b s e),.yl l] ((e,zo b)::K1) (fun _ K'=>∃ K2,K'=(e,zo b)::K2/\(J (allM b) K2\/D K2)):=by
 refine ze 9 hT Tryz.func98 fun Y hret=>?_;refine au 21042 ?_;intro jb hjb;refine au 210 ?_;intro jy hjy;refine au 220423 ?_;intro jn hjn;refine au 3170320423 ?_;refine TK.perm (K':=(jb,.cells (zx b s e) 205 true)::(jy,.cells [.yl l] 214 true)::(jn,.cells [.fn 174 [] [.ptr jb 0,.ptr jy 0,.ptr jn 0]] 212 true)::(e,zo b)::K1) ((List.Perm.cons _ (List.Perm.swap _ _ _)).trans ((List.Perm.swap _ _ _).trans (List.Perm.cons _ (List.Perm.swap _ _ _)))) ?_;refine au 4106904 ?_;refine TK.cl Z Z Z Z (zlM hT (s:=s) hb hy _ [] 0 [] K1 Z (zcm b) (by have:=hb.steps; omega) (List.prefix_refl _) hJ) ?_ (hs:=(.all _));rintro r1 K2 h3;rcases h3 with ⟨K2,rfl,⟨rfl,hJ2⟩ | ⟨rfl,hD⟩⟩
 ·refine au 0 ?_;refine TK.perm (K':=(jb,.cells (zx b s e) 205 true)::(jy,.cells [.yl l] 214 true)::(jn,.cells [.fn 174 [] [.ptr jb 0,.ptr jy 0,.ptr jn 0]] 212 true)::(e,zo b)::K2) (by rw [lR]) ?_;refine au 3 ?_;refine TK.rt0 hret (_) ?_ (hs:=(.right (.right (.right (.all _)))));exact ⟨_,rfl,.inl hJ2⟩
 ·refine au 0 ?_;refine TK.perm (K':=(jb,.cells (zx b s e) 205 true)::(jy,.cells [.yl l] 214 true)::(jn,.cells [.fn 174 [] [.ptr jb 0,.ptr jy 0,.ptr jn 0]] 212 true)::(e,zo b)::K2) (by rw [lR]) ?_;refine au 3 ?_;refine TK.rt0 hret (_) ?_ (hs:=(.right (.right (.right (.all _)))));exact ⟨_,rfl,.inr hD⟩
theorem Kstep.perm {K K' K'':KV} {A A':List AObj} (h:Kstep K A K' A') (hp:K'.Perm K''):Kstep K A K'' A' :=
 ⟨h.view.sub fun x hx=>hp.symm.subset hx,(zL hp).nodup_iff.1 h.nd,fun i hi=>h.own i ((zL hp).symm.subset hi),h.kept,h.len⟩
theorem CallFK.perm {P:Program} {T:Goroutine->Hp->Prop} {gm:Nat->Option Nat} {yv:AV} {args:List AV} {K:KV} {Post Post':AV->KV->Prop} (h:CallFK P T gm yv args K Post) (hp:∀ r K',Post r K'->∃ K'',K'.Perm K''/\Post' r K''):CallFK P T gm yv args K Post' :=
 fun A hv hn=>(h A hv hn).mono fun r A' ⟨K',h1,h2⟩=>let ⟨K'',h3,h4⟩:=hp r K' h2; ⟨K'',h1.perm h3,h4⟩
section
variable {main:Bool} {T:Goroutine->Hp->Prop} {gm:Nat->Option Nat} {Y:KX tp gm T} {ds:List Nat} {k:List Item} {env:List AV} {K K0 R:KV}
theorem TK.rangeAll (hT:zh tp main T) {fo:Operand} {ps:Array Tmp} {x y:Code} {b:Bk} {s e:Nat} (hb:BkOk b) {J:List (List Int)->KV->Prop} {D:Code->KV->Prop} (hps:ps.size=1) (hro:Y.X.ro=none) (hf:zr gm env fo=some (.fn 98 [.agg (zx b s e)] [])) (hs:Split K ((e,zo b)::K0) R) (hJ0:J [] K0)
  (round:∀ (Y':KX tp gm T) (l:Nat) (lo lb:AObj) (pre:List (List Int)) (S:List Int) (K1:KV),(∀ ds k env' K K',Upd K l lo l lb K'->TK Y' ds k env' K'->TK Y' ds (.beginRound::k) env' K) ->
   (∀ env' K' K2 D',Split K' ((l,lb)::(e,zo b)::K2) D'->J (pre++[S]) K2->TK Y' [] [] env' K') ->
   (∀ c k env' K' K2 D',Leave (some c) k->Split K' ((l,lb)::(e,zo b)::K2) D'->D c K2->TK Y' [] k env' K') ->
   pre++[S] <+: allM b->J pre K1->TK Y' [] [.code x,.beginRound,.code y] (putAll env (ps.toList.zip [.agg (zY S)])) ((l,lo)::(e,zo b)::K1))
  (hend:∀ d K2,J (allM b) K2->TK Y (d::ds) k env ((d,.raw (.deferred (some [])))::(e,zo b)::(K2++R)))
  (hstop:∀ d c K2,D c K2->TK Y (d::ds) (.code c::k) env ((d,.raw (.deferred (some [])))::(e,zo b)::(K2++R))):TK Y ds (.code (.rangeFunc fo ps x y)::k) env K:=by
 refine TK.rangeFunc (Post:=fun l _ K'=>∃ st pj K2,K'=(l,.loop Y.X.f env ps x y st pj)::(e,zo b)::K2/\((st=.ready/\pj=none/\J (allM b) K2)\/∃ c,st=.done/\pj=some c/\D c K2))
  (Q:=fun pj K'=>∃ K2,K'=(e,zo b)::K2/\((pj=none/\J (allM b) K2)\/∃ c,pj=some c/\D c K2)) hro hf Cal.h hs (fun l hl=>?_) ?_ ?_
 ·intro A hv hn;have hp:((l,AObj.loop Y.X.f env ps x y .ready none)::(e,zo b)::K0).Perm ((e,zo b)::(l,.loop Y.X.f env ps x y .ready none)::K0):=List.Perm.swap _ _ _;refine CallT.mono (zmk hT (s:=s) hb (l:=l) (J:=fun pre K=>∃ K3,K=(l,.loop Y.X.f env ps x y .ready none)::K3/\J pre K3) (D:=fun K=>∃ c K3,K=(l,.loop Y.X.f env ps x y .done (some c))::K3/\D c K3) ?_ ⟨K0,rfl,hJ0⟩ A (hv.sub fun x hx=>hp.symm.subset hx) ((zL hp).nodup_iff.1 hn)) ?_
  ·rintro pre S K1 hpre ⟨K3,rfl,hJ⟩;refine CallFK.perm (Post:=fun r K'=>(r=zm true/\∃ K2,K'=(l,.loop Y.X.f env ps x y .ready none)::(e,zo b)::K2/\J (pre++[S]) K2)\/(r=zm false/\∃ c K2,K'=(l,.loop Y.X.f env ps x y .done (some c))::(e,zo b)::K2/\D c K2)) ?_ ?_
   ·refine zdO hT (i:=l) (f:=Y.X.f) (env:=env) (ps:=ps) (x:=x) (y:=y) sQ hps.symm fun Y' hro' hl' hret=>?_;refine TK.perm (List.Perm.swap _ _ _) ?_;refine round Y' l (.loop Y.X.f env ps x y .ready none) (.loop Y.X.f env ps x y .busy none) pre S K3 (fun ds k env' K K' hu h=>TK.beginRound hro' hl' hu h) (fun env' K' K2 D' hsp hJ'=>?_) (fun c k env' K' K2 D' hlv hsp hD=>?_) hpre hJ
    ·exact TK.leave .fin fun A hA=>hret none env' K' ((e,zo b)::K2) D' .busy none hsp (.inl ⟨rfl,K2,rfl,hJ'⟩) A hA
    ·exact TK.leave hlv fun A hA=>hret (some c) env' K' ((e,zo b)::K2) D' .busy none hsp (.inr ⟨rfl,c,K2,rfl,hD⟩) A hA
   ·rintro r K' (⟨rfl,K2,rfl,h⟩ | ⟨rfl,c,K2,rfl,h⟩)
    ·exact ⟨_,List.Perm.swap _ _ _,_,rfl,.inl ⟨rfl,K2,rfl,h⟩⟩
    ·exact ⟨_,List.Perm.swap _ _ _,_,rfl,.inr ⟨rfl,c,K2,rfl,h⟩⟩
  ·rintro r A' ⟨K',hk,K2,rfl,h⟩;have hk2:∀ K'',((e,zo b)::K2).Perm K''->Kstep ((l,AObj.loop Y.X.f env ps x y .ready none)::(e,zo b)::K0) A K'' A':=fun K'' hp2 =>
    Kstep.perm ⟨hk.view,hk.nd,fun i hi=>(hk.own i hi).imp_left fun h=>(zL hp).symm.subset h,fun j h1 h2=>hk.kept j h1 fun h=>h2 ((zL hp).symm.subset h),hk.len⟩ hp2
   rcases h with ⟨K3,rfl,h⟩ | ⟨c,K3,rfl,h⟩
   ·exact ⟨_,hk2 _ (List.Perm.swap _ _ _),.ready,none,K3,rfl,.inl ⟨rfl,rfl,h⟩⟩
   ·exact ⟨_,hk2 _ (List.Perm.swap _ _ _),.done,some c,K3,rfl,.inr ⟨c,rfl,rfl,h⟩⟩
 ·rintro l r K' ⟨st,pj,K2,rfl,h⟩;refine ⟨st,pj,_,rfl,?_,K2,rfl,?_⟩
  ·rcases h with ⟨rfl,_⟩ | ⟨c,rfl,_⟩ <;> rfl
  ·rcases h with ⟨_,rfl,h⟩ | ⟨c,_,rfl,h⟩
   ·exact .inl ⟨rfl,h⟩
   ·exact .inr ⟨c,rfl,h⟩
 ·rintro d pj K' ⟨K2,rfl,⟨rfl,h⟩ | ⟨c,rfl,h⟩⟩
  ·exact hend d K2 h
  ·exact hstop d c K2 h
end
theorem u72:tp.underlying 207=some (.array 3 3):=by kernel_rfl
theorem u3:tp.underlying 3=some (.int .i64):=by kernel_rfl
theorem i3:tp.info? 3=some Tryz.t3:=by kernel_rfl
theorem i3s:Tryz.t3.size=1:=by kernel_rfl
theorem zcP {P:Program} {t:TypeId} {i:TypeInfo} (h:P.info? t=some i):zO P (sizeOf t)=some i.size:=by
 unfold sizeOf typeInfo
 show zO P ((match P.info? t with | some i=>pure i | none=>stuck "no such type") >>= fun i=>pure i.size)=_
 rw [h]; rfl
theorem zit {d:Nat} {a b:Int}:zO tp (Op.equalIn (d+1) 3 (.int .i64 a) (.int .i64 b))=some (a==b):=by
 unfold Op.equalIn;exact zM (ye u3) rfl
theorem zaf {cs:Array Value} {off:Nat} {v:Value} (h:cs[off]? =some v):zO tp (part 3 cs off)=some v:=by
 unfold part isAgg;refine zM (a:=false) ?_ ?_
 ·exact zM (ye u3) rfl
 ·simp [h]; rfl
theorem wo {α β:Type} {P:Program} (s:Sem α) (f:α->Sem β):zO P (s >>= f)=(zO P s).bind fun a=>zO P (f a):=by
 show zO P (s.bind f)=_
 induction s with
 | pure a=>rfl
 | program k ih=>exact ih P
 | _=>rfl
theorem zag {α:Type} {P:Program} (a:α):zO P (pure a)=some a:=rfl
theorem zis {d:Nat} {a b c x y z:Int}:zO tp (Op.equalIn (d+2) 207 (.agg #[.int .i64 a,.int .i64 b,.int .i64 c]) (.agg #[.int .i64 x,.int .i64 y,.int .i64 z]))=some (a==x&&(b==y&&c==z)):=by
 unfold Op.equalIn;refine zM (ye u72) ?_;dsimp only;refine zM (zcP i3) ?_;rw [i3s];simp only [Std.Legacy.Range.forIn_eq_forIn_range',Std.Legacy.Range.size,Nat.sub_zero,Nat.add_sub_cancel,Nat.div_one];simp [List.range'];have p0:=fun a b c:Value=>zaf (cs:=#[a,b,c]) (off:=0) rfl;have p1:=fun a b c:Value=>zaf (cs:=#[a,b,c]) (off:=1) rfl;have p2:=fun a b c:Value=>zaf (cs:=#[a,b,c]) (off:=2) rfl;have e:=fun a b:Int=>zit (d:=d) (a:=a) (b:=b);rcases h1:(a==x) <;> rcases h2:(b==y) <;> rcases h3:(c==z) <;> simp [wo,zag,p0,p1,p2,e,h1,h2,h3]
def fieldN (P:Program) (t:TypeId) (i:Nat):Field:=((P.underlying t).bind fun d=>match d with | .struct fs=>fs[i]? | _=>none).getD default
noncomputable def f74a:Field:=fieldN tp 209 0
noncomputable def f74b:Field:=fieldN tp 209 1
theorem u74:tp.underlying 209=some (.struct #[f74a,f74b]):=by kernel_rfl
theorem u74t:f74a.type=3:=by kernel_rfl
theorem u74u:f74b.type=207:=by kernel_rfl
theorem u74o:f74a.offset=0:=by kernel_rfl
theorem u74p:f74b.offset=1:=by kernel_rfl
theorem u74n:(f74a.name == "_")=false:=by kernel_rfl
theorem u74m:(f74b.name == "_")=false:=by kernel_rfl
theorem i72:tp.info? 207=some Tryz.t207:=by kernel_rfl
theorem st74:tp.stoodInHeld 209=false:=by kernel_rfl
theorem g74:tp.eqGuardType tp.depth 209=false:=by kernel_rfl
theorem g72:tp.eqGuardType tp.depth 207=false:=by kernel_rfl
theorem zkU {n a b c:Value}:zO tp (part 207 #[n,a,b,c] 1)=some (.agg #[a,b,c]):=by
 unfold part isAgg;refine zM (a:=true) ?_ ?_
 ·exact zM (ye u72) rfl
 ·simp only [if_true];refine zM (zcP i72) ?_;rfl
theorem zj8 {n a b c m x y z:Int}:zO tp (Op.equal 209 (.agg #[.int .i64 n,.int .i64 a,.int .i64 b,.int .i64 c]) (.agg #[.int .i64 m,.int .i64 x,.int .i64 y,.int .i64 z]))=some (n==m&&(a==x&&(b==y&&c==z))):=by
 have hu:=u74; have hf:=u74t; have hg:=u74u; have hfo:=u74o; have hgo:=u74p
 have hfn:f74a.name ≠ "_" := by have:=u74n; simpa using this
 have hgn:f74b.name ≠ "_" := by have:=u74m; simpa using this
 show zO _ (Op.equalIn (9999+1) 209 _ _)=_;unfold Op.equalIn;refine zM (ye hu) ?_;simp only [wo];rw [show zO tp program=some tp from rfl];simp [st74,hf,hg,hfo,hgo,hfn,hgn,wo,zag];have p0:∀ n a b c:Value,zO tp (part 3 #[n,a,b,c] 0)=some n:=fun n a b c=>zaf rfl;have e:=fun a b:Int=>zit (d:=9998) (a:=a) (b:=b);have ea:=fun a b c x y z:Int=>zis (d:=9997) (a:=a) (b:=b) (c:=c) (x:=x) (y:=y) (z:=z);have pa:=fun n a b c:Value=>zkU (n:=n) (a:=a) (b:=b) (c:=c);simp only [p0,pa,Option.bind_some];rw [show (9999:Nat)=9998+1 from rfl,e];have ea':∀ a b c x y z:Int,zO tp (Op.equalIn (9998+1) 207 (.agg #[.int .i64 a,.int .i64 b,.int .i64 c]) (.agg #[.int .i64 x,.int .i64 y,.int .i64 z]))=some (a==x&&(b==y&&c==z)):=fun a b c x y z=>ea a b c x y z;rcases h1:(n==m) <;> rcases h2:(a==x&&(b==y&&c==z)) <;> simp [wo,zag,pa,ea',h2]
theorem zd3 {t:TypeId} {x y:Operand} {xs ys:Array Value} (hg:tp.eqGuardType tp.depth t=false) {s:Sem Value} {z:Value} (h:zO tp s=some z):zO tp (eqGuard .eql t x y (.agg xs) (.agg ys) >>= fun _=>s)=some z:=by
 refine zM (a:=()) ?_ h;generalize tp=P at hg ⊢;unfold eqGuard;show zO P (if (!P.eqGuardType P.depth t)=true then pure () else _)=_;rw [hg];rfl
section
variable {gm:Nat->Option Nat} {V:KV} {env:List AV} {o:Oper}
theorem zjj {x y:Operand} {n a b c m x1 y1 z1:Int} (ho:o.op=.binOp .eql 209 x y 209) (hx:zr gm env x=some (.agg [.v (.int .i64 n),.v (.int .i64 a),.v (.int .i64 b),.v (.int .i64 c)])) (hy:zr gm env y=some (.agg [.v (.int .i64 m),.v (.int .i64 x1),.v (.int .i64 y1),.v (.int .i64 z1)])):Qk tp gm env V o (.v (.bool (n==m&&(a==x1&&(b==y1&&c==z1))))):=fun A _ =>
 wj ho (by rw [zq hx]; rfl) (by rw [zq hy]; rfl) (zd3 g74 (zM zj8 rfl))
theorem zjk {x y:Operand} {a b c x1 y1 z1:Int} (ho:o.op=.binOp .eql 207 x y 207) (hx:zr gm env x=some (.agg [.v (.int .i64 a),.v (.int .i64 b),.v (.int .i64 c)])) (hy:zr gm env y=some (.agg [.v (.int .i64 x1),.v (.int .i64 y1),.v (.int .i64 z1)])):Qk tp gm env V o (.v (.bool (a==x1&&(b==y1&&c==z1)))):=fun A _ =>
 wj ho (by rw [zq hx]; rfl) (by rw [zq hy]; rfl) (zd3 g72 (zM (show zO tp (Op.equal 207 _ _)=_ from zis (d:=9998)) rfl))
end
def firstNZ (f:Nat->Int):Nat->Int
 | 0=>0
 | n+1=>if firstNZ f n=0 then f n else firstNZ f n
theorem uV {f:Nat->Int} {i:Nat} {c:Int} (h0:firstNZ f i=0) (h1:f i=c) (hc:c≠0):∀ {n:Nat},i<n->firstNZ f n=c
 | 0,h=>absurd h (Nat.not_lt_zero _)
 | n+1,h=>by
  rcases mR i n with hlt | hge
  ·have:=uV h0 h1 hc hlt;unfold firstNZ;rw [this,if_neg hc]
  ·obtain rfl:i=n:=by omega
   unfold firstNZ;rw [if_pos h0,h1]
theorem vU {f:Nat->Int}:∀ {n:Nat},firstNZ f n=0->∀ i,i<n->f i=0
 | 0,_,i,h=>absurd h (Nat.not_lt_zero _)
 | n+1,h,i,hi=>by
  unfold firstNZ at h;split at h
  ·rename_i h0;rcases mR i n with hlt | hge
   ·exact vU h0 i hlt
   ·obtain rfl:i=n:=by omega
    exact h
  ·rename_i h0; exact absurd h h0
def barH (b:Bk) (xs:List Int) (i:Nat):Int:=match xs[i]? with
 | some x=>if (!zE b x)=true then 6 else if (decide ((i:Int)>0)&&decide (x<=(xs[i - 1]?).getD 0))=true then 7 else 0
 | none=>0
def handedM (b:Bk) (xs:List Int):Int:=if xs.length>3 then 2 else firstNZ (barH b xs) xs.length
def handedS (b:Bk) (xs:List Int):List Int:=if handedM b xs=0 then xs else []
theorem zhB {b:Bk} {xs:List Int} (h:handedM b xs=0):xs.length<=3:=by
 unfold handedM at h;split at h
 ·cases h
 ·omega
theorem zhA {b:Bk} {xs:List Int} (h:handedM b xs=0) {i:Nat} (hi:i<xs.length):barH b xs i=0:=by
 unfold handedM at h;split at h
 ·cases h
 ·exact vU h i hi
theorem zd5 {b:Bk} {xs:List Int} (h:handedM b xs=0):SmOk b xs:=⟨zhB h,fun x hx=>by
 obtain ⟨i,hi,rfl⟩:=List.mem_iff_getElem.1 hx;have:=zhA h hi;unfold barH at this;rw [lA hi] at this;dsimp only at this;split at this
 ·cases this
 ·rename_i h2;simp only [zE,mV,Bool.not_eq_false,mX,decide_eq_true_eq] at h2;omega⟩
def isSeekerM (b:Bk) (n:Int):Bool:=decide (0<=n)&&decide (n<=(b.seekers.length:Int) - 1)
theorem yo {b:Bk} (h:checkM b=0):BkOk b:=by
 unfold checkM at h;split at h
 ·rename_i h1; rw [h] at h1; cases h1
 ·rename_i h1;obtain ⟨q1,q2,q3,q4,q5,q6,q7⟩:=ko (b:=b) (by simpa using h1);split at h
  ·rename_i h2; rw [h] at h2; cases h2
  ·rename_i h2;have h3:heardM b=0:=by simpa using h2
   unfold heardM at h3;split at h3
   ·cases h3
   ·rename_i h4;unfold lookedM at h;split at h
    ·cases h
    ·rename_i h5;split at h
     ·cases h
     ·rename_i h6;refine ⟨⟨q1,q2⟩,q5,q7,⟨q3,q4⟩,oQ,oQ,fun x hx=>?_,fun x hx=>?_⟩
      ·obtain ⟨i,hi,rfl⟩:=List.mem_iff_getElem.1 hx;have hz:∀ n,heardL b n=firstNZ (heard1 b) n:=fun n=>by
        induction n with
        | zero=>rfl
        | succ n ih=>unfold heardL firstNZ; rw [ih]
       rw [hz] at h3;have:=vU h3 i hi;unfold heard1 at this;rw [lA hi] at this;dsimp only at this;split at this
       ·cases this
       ·split at this
        ·cases this
        ·split at this
         ·cases this
         ·rename_i _ _ h9;split at this
          ·cases this
          ·rename_i h10;simp only [zE,Bool.or_eq_true,mV,Bool.and_eq_false_iff,decide_eq_false_iff_not,decide_eq_true_eq] at h9 h10;omega
      ·simp only [List.any_eq_true,not_exists,not_and] at h6;have:=h6 x hx;simp only [zE,mV,Bool.not_eq_false,mX,decide_eq_true_eq] at this;omega
def zeroBk:List AV:=[intA 0,intA 0,intA 0,intA 0,.v (.slice none 0 0),.v (.slice none 0 0)]
def stepPrev {xs:List Int} {i:Nat} (h:i<xs.length):(xs[i]?).getD 0=xs[i]:=by rw [lA h]; rfl
def rightApi (b:Bk) (xs:List Int) (k:Int):Bool×Int:=if checkM b≠0 then (false,checkM b) else if handedM b xs≠0 then (false,handedM b xs) else if (!isSeekerM b k)=true then (false,6) else (rightM b xs k.toNat,0)
def stateApi (b:Bk) (xs:List Int):Bool×Int:=if checkM b≠0 then (false,checkM b) else if handedM b xs≠0 then (false,handedM b xs) else (decide (xs∈allM b)&&canM b xs,0)
theorem zhC {main T} (hT:zh tp main T) {gm} {b:Bk} {s e j off:Nat} {ob:AObj} {xs:List Int} (hs:0<=b.steps/\b.steps<=16) (hI:IntsAt ob off xs) (hlx:xs.length<=1000) :
  zg tp T gm 171 [.agg (zx b s e),.sl j off xs.length] [(j,ob)] (fun r K'=>r=.tup [.agg (zY (handedS b xs)),intA (handedM b xs)]/\K'=[(j,ob)]):=by
 refine ze 43 hT Tryz.func171 fun Y hret=>?_;refine au 21042 ?_;intro jb hjb;refine au 220 ?_;intro js hjs;refine au 937280142235 ?_;constructor<;>intro hc0
 ·simp only [decide_eq_true_eq] at hc0;refine au 3517041042 ?_;refine TK.rt hret [(j,_)] ?_;have hb1:handedM b xs=2:=if_pos oQ;exact ⟨by unfold handedS; rw [if_neg (by rw [hb1]; decide),hb1]; rfl,rfl⟩
 simp only [decide_eq_false_iff_not] at hc0;refine au 130312801422120 ?_;refine TK.maskL [1,2,4,12,13,14] ?_;refine TK.loopN (fun n env K=>∃ (i:Nat),n=xs.length - i/\i<=xs.length/\firstNZ (barH b xs) i=0/\env=zJ 43 [(1,.sl j off xs.length),(2,.ptr jb 0),(4,.ptr js 0),(12,.sl j off xs.length),(13,intA xs.length),(14,intA i)]/\K=[(js,.cells (zY (xs.take i)) 209 true),(jb,.cells (zx b s e) 205 true),(j,ob)]) xs.length ⟨0,rfl,mN _,rfl,rfl,rfl⟩ fun n env K hI' hnext=>?_;obtain ⟨i,rfl,hi,h0,rfl,rfl⟩:=hI';refine au 923742 ?_;constructor<;>intro hc1
 ·simp only [decide_eq_true_eq] at hc1;have hil:i<xs.length:=by omega
  have hx:=lA hil;have htl:(xs.take i).length<3:=by rw [List.length_take]; omega
  refine au 3601421302120 ?_;refine TK.a Z (zp Z Z zd.h mQ (hI i hil)) ?_;refine au 1680421302355 ?_;refine TK.cl Z Z Z Z (kF hT (s:=s) (e:=e) hs) ?_;rintro r1 K2 ⟨rfl,rfl⟩;refine au 935300 ?_;constructor<;>intro hc2
  ·refine au 3517041042 ?_;refine TK.rt hret [(j,_)] ?_;have hb1:handedM b xs=6:=by unfold handedM; rw [if_neg oQ]; exact uV h0 (by unfold barH zE; rw [hx]; dsimp only; rw [hc2]; rfl) dQ hil
   exact ⟨by unfold handedS; rw [if_neg (by rw [hb1]; decide),hb1]; rfl,rfl⟩
  have hst2:0<=xs[i]/\xs[i]<=b.steps - 1:=by simpa using hc2
  refine au 17142 ?_;refine TK.sp 28 (fun g8_3=>?_) (fun g8_3=>?_)
  ·have hgi:0<i:=by have:=of_decide_eq_true g8_3; omega
   refine au 360240111 ?_;refine TK.a Z (zp Z Z zd.h mQ (by have:=hI (i - 1) oQ; rwa [show ((i - 1:Nat):Int).toNat=((i:Int) - 1).toNat by omega] at this)) ?_;refine au 9352607 ?_;constructor<;>intro hc3
   ·refine au 3517041042 ?_;refine TK.rt hret [(j,_)] ?_;have hb1:handedM b xs=7:=by unfold handedM; rw [if_neg oQ]; exact uV h0 (by unfold barH zE; rw [hx]; dsimp only; rw [hc2,g8_3,stepPrev (show i - 1<xs.length by omega),hc3]; rfl) dQ hil
    exact ⟨by unfold handedS; rw [if_neg (by rw [hb1]; decide),hb1]; rfl,rfl⟩
   refine au 16804140120 ?_;refine TK.cl Z Z Z Z (zbq hT htl oQ) ?_;rintro r4 K5 ⟨rfl,rfl⟩;refine au 3123041403170 ?_;refine TK.maskL [1,2,4,12,13,14] ?_;have hst:barH b xs i=0:=by unfold barH zE; rw [hx]; dsimp only; rw [hc2,if_neg dQ,g8_3,stepPrev (show i - 1<xs.length by omega),hc3]; rfl
   exact hnext _ _ _ oQ ⟨i+1,rfl,oQ,by unfold firstNZ; rw [if_pos h0]; exact hst,rfl,by rw [List.take_add_one,hx]; rfl⟩
  refine au 16804140120190352508888888 ?_;refine TK.cl Z Z Z Z (zbq hT htl oQ) ?_;rintro r7 K8 ⟨rfl,rfl⟩;refine au 3123041403170 ?_;refine TK.maskL [1,2,4,12,13,14] ?_;have hst:barH b xs i=0:=by unfold barH zE; rw [hx]; dsimp only; rw [hc2,if_neg dQ,g8_3]; rfl
  exact hnext _ _ _ oQ ⟨i+1,rfl,oQ,by unfold firstNZ; rw [if_pos h0]; exact hst,rfl,by rw [List.take_add_one,hx]; rfl⟩
 simp only [decide_eq_false_iff_not] at hc1;obtain rfl:i=xs.length:=by omega
 refine au 3517068042160 ?_;refine TK.rt hret [(j,_)] ?_;have hb1:handedM b xs=0:=by unfold handedM; rw [if_neg oQ]; exact h0
 exact ⟨by unfold handedS; rw [if_pos hb1,hb1,lW]; rfl,rfl⟩
theorem zga {main:Bool} {T:Goroutine->Hp->Prop} (hT:zh tp main T)  {b:Bk} {s e:Nat} {j off:Nat} {ob:AObj} {xs:List Int} (hn:∀ x∈b.seekers,x.name.size<=1000) (hl:b.seen.length<=1000) (hI:IntsAt ob off xs) (hlx:xs.length<=1000) :
  zg tp T gmS 95 [.agg (zx b s e),.sl j off xs.length] [(0,zw),(s,zn b),(e,zo b),(j,ob)] (fun r K'=>((checkM b≠0/\r=.tup [.agg zeroBk,.agg (zY []),intA (checkM b)])\/(checkM b=0/\r=.tup [.agg (zx b s e),.agg (zY (handedS b xs)),intA (handedM b xs)]))/\K'=[(0,zw),(s,zn b),(e,zo b),(j,ob)]):=by
 refine ze 28 hT Tryz.func95 fun Y hret=>?_;refine au 21042 ?_;intro jb hjb;refine au 220 ?_;intro j1 hj1;refine au 220 ?_;intro j2 hj2;refine au 68042235 ?_;refine TK.cl Z Z Z Z (kP hT (b:=b) (s:=s) (e:=e) hn hl) ?_;rintro r3 K4 ⟨rfl,rfl⟩;refine au 93714235 ?_;constructor<;>intro hc0
 ·refine au 35170170141043042 ?_;refine TK.rt hret [(0,_),(s,_),(e,_),(j,_)] ?_;exact ⟨.inl ⟨by simpa using hc0,rfl⟩,rfl⟩
 have hc1:checkM b=0:=by simpa using hc0
 have hb:=yo hc1;refine au 143068042120 ?_;refine TK.cl Z Z Z Z (zhC hT (b:=b) (s:=s) (e:=e) (by have:=hb.steps; omega) hI hlx) ?_;rintro r6 K7 ⟨rfl,rfl⟩;refine au 220661 ?_;intro j9 hj9;refine au 235170 ?_;refine TK.dq [0,1,4,2,5,3,6] ?_;refine ad [[12,2]] ?_;refine TD.z [24] Z (y5 (l:=[_,_,_,_,_,_]) Z TyZ.h BlOf.h Z) ?_;refine ad [[12,8],[1,9]] ?_;refine TD.s (pend':=[⟨3,[9],[]⟩,⟨2,[8],[(_,_)]⟩]) [4,25] Z Z (zt Z Z zd.h Z Z mQ Z) ?_;refine TD.s (pend':=[⟨3,[9],[]⟩]) [5,26] Z Z (zt Z Z zd.h Z Z mQ Z) ?_;refine ad [[13,27],[14]] ?_;refine au 0 ?_;refine TK.rt hret [(0,_),(s,_),(e,_),(j,_)] ?_;exact ⟨.inr ⟨hc1,rfl⟩,rfl⟩
theorem uw {main T} (hT:zh tp main T) {gm} {b:Bk} {s e:Nat} {n:Int} (hs:b.seekers.length<=1000) :
  zg tp T gm 96 [.agg (zx b s e),intA n] [] (fun r K'=>r=zm (isSeekerM b n)/\K'=[]):=by
 refine ze 12 hT Tryz.func96 fun Y hret=>?_;refine au 21042 ?_;intro jb hjb;refine au 24028069067067014235 ?_;refine TK.cl Z Z Z Z (vL hT) ?_;rintro r1 K2 ⟨rfl,rfl⟩;refine au 35 ?_;refine TK.rt hret [] ?_;exact ⟨rfl,rfl⟩
theorem zbE {main:Bool} {T:Goroutine->Hp->Prop} (hT:zh tp main T)  {b:Bk} {s e:Nat} {k:Int} {j off:Nat} {ob:AObj} {xs:List Int} (hn:∀ x∈b.seekers,x.name.size<=1000) (hl:b.seen.length<=1000) (hI:IntsAt ob off xs) (hlx:xs.length<=1000) :
  zg tp T gmS 33 [.agg (zx b s e),.sl j off xs.length,intA k] [(0,zw),(1,zA),(s,zn b),(e,zo b),(j,ob)] (fun r K'=>r=.tup [zm (rightApi b xs k).1,intA (rightApi b xs k).2]/\K'=[(0,zw),(1,zA),(s,zn b),(e,zo b),(j,ob)]):=by
 refine ze 31 hT Tryz.func33 fun Y hret=>?_;refine au 21042 ?_;intro j1 hj1;refine au 168042355 ?_;refine TK.cl Z Z Z Z (zga hT (b:=b) (s:=s) (e:=e) hn hl hI hlx) ?_;rintro r2 K3 h4;rcases h4 with ⟨⟨hc1,rfl⟩ | ⟨hc1,rfl⟩,rfl⟩
 ·refine au 2206661 ?_;intro j5 hj5;refine au 220 ?_;intro j6 hj6;refine au 9357142130235170170 ?_;constructor<;>intro hc0
  ·refine au 355142 ?_;refine TK.rt hret [(0,_),(1,_),(s,_),(e,_),(j,_)] ?_;exact ⟨by unfold rightApi; rw [if_pos hc1]; rfl,rfl⟩
  exact absurd (by simpa using hc0) hc1
 ·refine au 2206661 ?_;intro j7 hj7;refine au 220 ?_;intro j8 hj8;refine au 9357142130235170170 ?_;constructor<;>intro hc0
  ·refine au 355142 ?_;refine TK.rt hret [(0,_),(1,_),(s,_),(e,_),(j,_)] ?_;exact ⟨by unfold rightApi; rw [if_neg (by rw [hc1]; decide),if_pos (by simpa using hc0)]; rfl,rfl⟩
  have hh0:handedM b xs=0:=by simpa using hc0
  have hb:=yo hc1;have hS:=zd5 hh0;have hxs:handedS b xs=xs:=if_pos hh0;rw [hxs];refine au 168042 ?_;refine TK.cl Z Z Z Z (uw hT (b:=b) (s:=s) (e:=e) (by have:=hb.ns; omega)) ?_;rintro r9 K10 ⟨rfl,rfl⟩;refine au 935300 ?_;constructor<;>intro hc2
  ·refine au 35542 ?_;refine TK.rt hret [(0,_),(1,_),(s,_),(e,_),(j,_)] ?_;exact ⟨by unfold rightApi; rw [if_neg (by rw [hc1]; decide),if_neg (by simpa using hc0),if_pos hc2]; rfl,rfl⟩
  have hc2:=hc2;have hk:0<=k/\k<=(b.seekers.length:Int) - 1:=by simpa [isSeekerM] using hc2
  obtain ⟨m,rfl⟩:∃ m:Nat,k=m:=⟨k.toNat,oQ⟩;refine au 168068042140120 ?_;refine TK.cl Z Z Z Z (zak hT (s:=s) (e:=e) hb hS oQ) ?_;rintro r12 K13 ⟨rfl,rfl⟩;refine au 355 ?_;refine TK.rt hret [(0,_),(1,_),(s,_),(e,_),(j,_)] ?_;exact ⟨by unfold rightApi; rw [if_neg (by rw [hc1]; decide),if_neg (by simpa using hc0),if_neg (by rw [hc2]; decide)]; rfl,rfl⟩
theorem zaS (b:Bk):∀ (rest:List Int) (S:List Int),(loopM b S rest).length+1<=2 ^ rest.length
 | [],S=>by simp [loopM]
 | n::rest,S=>by
  simp only [loopM];have h1:=zaS b rest (S++[n]);have h2:=zaS b rest S;have h3:(ownM b (S++[n])).length<=1:=by unfold ownM; split <;> simp
  split
  ·simp only [lF,lZ,Nat.pow_succ]; omega
  ·simp; exact Nat.one_le_two_pow
theorem zbV {b:Bk} (hb:BkOk b):(allM b).length<=65536:=by
 unfold allM;have h1:=zaS b (restM b 0) [];have h3:(ownM b []).length<=1:=by unfold ownM; split <;> simp
 have h2:(restM b 0).length<=16:=by
  unfold restM;have:=hb.steps;simp; omega
 have:=Nat.pow_le_pow_right (n:=2) oQ h2;rw [lF];omega
theorem zgZ {b:Bk} (hb:BkOk b) {pre:List (List Int)} {S:List Int} (h:pre++[S] <+: allM b) (p:List Int->Bool):(pre.filter p).length<=65536:=by
 have h1:=h.length_le;have h2:=zbV hb;have h3:=List.length_filter_le p pre;simp at h1;omega
def zb (b:Bk):List (List Int):=(allM b).filter (canM b)
theorem zke {p:List Int->Bool} {pre:List (List Int)} {S:List Int} (h:p S=true):(pre++[S]).filter p=pre.filter p++[S]:=by rw [List.filter_append]; simp [h]
theorem zkd {p:List Int->Bool} {pre:List (List Int)} {S:List Int} (h:p S=false):(pre++[S]).filter p=pre.filter p:=by rw [List.filter_append]; simp [h]
theorem zfX {b:Bk} {S R:List Int} (hS:SmOk b S) (hR:SmOk b R):(((S.length:Int)==R.length)&&((((S[0]?).map (· + 1)).getD 0==((R[0]?).map (· + 1)).getD 0)&&((((S[1]?).map (· + 1)).getD 0==((R[1]?).map (· + 1)).getD 0)&&(((S[2]?).map (· + 1)).getD 0==((R[2]?).map (· + 1)).getD 0))))=decide (S=R):=by
 by_cases h:S=R
 ·subst h; simp
 ·rw [decide_eq_false h,Bool.eq_false_iff];intro hc;apply h;simp only [mX,beq_iff_eq] at hc;obtain ⟨h0,h3,h4,h5⟩:=hc;have h1:=hS.len;have h2:=hR.len;rcases S with _ | ⟨a,_ | ⟨c,_ | ⟨d,_ | ⟨f,S⟩⟩⟩⟩ <;> rcases R with _ | ⟨x,_ | ⟨y,_ | ⟨z,_ | ⟨g,R⟩⟩⟩⟩ <;> simp at h0 h1 h2 h3 h4 h5 <;> first | omega | (simp; omega) | simp
theorem zjG (S:List Int):((((S[0]?).map (· + 1)).getD 0==((S[0]?).map (· + 1)).getD 0)&&((((S[1]?).map (· + 1)).getD 0==((S[1]?).map (· + 1)).getD 0)&&(((S[2]?).map (· + 1)).getD 0==((S[2]?).map (· + 1)).getD 0)))=true:=by simp
theorem zbM {main:Bool} {T:Goroutine->Hp->Prop} (hT:zh tp main T)  {b:Bk} {s e:Nat} (hse:s≠e) {j off:Nat} {ob:AObj} {xs:List Int} (hn:∀ x∈b.seekers,x.name.size<=1000) (hl:b.seen.length<=1000) (hI:IntsAt ob off xs) (hlx:xs.length<=1000) :
  zg tp T gmS 34 [.agg (zx b s e),.sl j off xs.length] [(0,zw),(1,zA),(s,zn b),(e,zo b),(j,ob)] (fun r K'=>r=.tup [zm (stateApi b xs).1,intA (stateApi b xs).2]/\K'=[(0,zw),(1,zA),(s,zn b),(e,zo b),(j,ob)]):=by
 refine vo 36 hT Tryz.func34 fun Y hro hret=>?_;refine au 21042 ?_;intro jb hjb;refine au 220 ?_;intro jr hjr;refine au 220 ?_;intro jq hjq;refine au 1680423 ?_;refine TK.cl Z Z Z Z (zga hT (b:=b) (s:=s) (e:=e) hn hl hI hlx) ?_;rintro r1 K2 h3;rcases h3 with ⟨⟨hc1,rfl⟩ | ⟨hc1,rfl⟩,rfl⟩
 ·refine au 2206661 ?_;intro jx hjx;refine au 220 ?_;intro jS hjS;refine au 937142235170170 ?_;constructor<;>intro hc0
  ·refine au 3170170142 ?_;refine TK.leave (.ret _) fun A hA=>hret _ _ _ _ ([(0,_),(1,_),(s,_),(e,_),(j,_),(jr,_),(jq,_)]) ([(0,_),(1,_),(s,_),(e,_),(j,_)]) _ _ _ (.inr rfl) (by repeat (first | exact Split.none _ | exact Split.all _ | (apply Split.rem; repeat (first | exact Rem.head | apply Rem.tail)) | apply Split.right)) sQ sQ (by repeat (first | exact Split.none _ | exact Split.all _ | (apply Split.rem; repeat (first | exact Rem.head | apply Rem.tail)) | apply Split.right)) (y7 (.cons (yD Z zd.h mQ rfl) (.cons (yD Z zd.h mQ rfl) ResKs.nil)) rfl) ?_ A hA;exact ⟨by unfold stateApi; rw [if_pos hc1]; rfl,rfl⟩
  exact absurd (by simpa using hc0) hc1
 ·refine au 2206661 ?_;intro jx hjx;refine au 220 ?_;intro jS hjS;refine au 937142235170170 ?_;constructor<;>intro hc0
  ·refine au 3170170142 ?_;refine TK.leave (.ret _) fun A hA=>hret _ _ _ _ ([(0,_),(1,_),(s,_),(e,_),(j,_),(jr,_),(jq,_)]) ([(0,_),(1,_),(s,_),(e,_),(j,_)]) _ _ _ (.inr rfl) (by repeat (first | exact Split.none _ | exact Split.all _ | (apply Split.rem; repeat (first | exact Rem.head | apply Rem.tail)) | apply Split.right)) sQ sQ (by repeat (first | exact Split.none _ | exact Split.all _ | (apply Split.rem; repeat (first | exact Rem.head | apply Rem.tail)) | apply Split.right)) (y7 (.cons (yD Z zd.h mQ rfl) (.cons (yD Z zd.h mQ rfl) ResKs.nil)) rfl) ?_ A hA;exact ⟨by unfold stateApi; rw [if_neg (by rw [hc1]; decide),if_pos (by simpa using hc0)]; rfl,rfl⟩
  have hh0:handedM b xs=0:=by simpa using hc0
  have hb:=yo hc1;have hS:=zd5 hh0;have hxs:handedS b xs=xs:=if_pos hh0;rw [hxs];refine au 1303320680422120 ?_;refine TK.rangeAll hT hb (s:=s) (e:=e) (J:=fun pre K1=>K1=[(jr,.cells [zm false] 4 true),(jq,.cells [intA 0] 35 true),(jx,.cells (zx b s e) 205 true),(jS,.cells (zY xs) 209 true),(1,zA),(s,zn b)]/\xs∉pre) (D:=fun c K1=>c=.ret/\xs∈allM b/\K1=[(jr,.cells [zm (canM b xs)] 4 true),(jq,.cells [intA 0] 35 true),(jx,.cells (zx b s e) 205 true),(jS,.cells (zY xs) 209 true),(1,zA),(s,zn b)]) rfl hro rfl (by repeat (first | exact Split.none _ | exact Split.all _ | (apply Split.rem; repeat (first | exact Rem.head | apply Rem.tail)) | apply Split.right)) ⟨rfl,by simp⟩ (fun Y' l lo lb pre S K1 hbegin hfin hout hpre hJ=>?_) (fun d K2 hJ=>?_) (fun d c K2 hD=>?_)
  ·obtain ⟨rfl,hni⟩:=hJ;have hSm:=uL hb hpre;refine au 2204 ?_;intro j9 hj9;refine au 3170 ?_;refine hbegin _ _ _ _ _ uQ ?_;refine au 68068042130 ?_;refine TK.a Z (zjj Z Z Z) ?_;refine au 1 ?_;refine TK.sp 26 (fun g6_4=>?_) (fun g6_4=>?_)
   ·rw [zfX hSm hS] at g6_4;obtain rfl:S=xs:=of_decide_eq_true g6_4;refine au 680670680670 ?_;refine TK.a Z (zjk Z Z Z) ?_;refine au 93260 ?_;refine ⟨fun hc1b=>?_,fun hc1b=>?_⟩
    ·refine au 68068042 ?_;refine TK.cl Z Z Z Z (zim hT (s:=s) (e:=e) hse hb hSm) ?_;rintro r4 K5 ⟨rfl,rfl⟩;refine au 3170170 ?_;exact hout _ _ _ _ [(jr,_),(jq,_),(jx,_),(jS,_),(1,_),(s,_)] _ (.ret _) (by repeat (first | exact Split.none _ | exact Split.all _ | (apply Split.rem; repeat (first | exact Rem.head | apply Rem.tail)) | apply Split.right)) ⟨rfl,hpre.subset sQ,rfl⟩
    exact absurd (zjG S) (by rw [hc1b]; decide)
   rw [zfX hSm hS] at g6_4;have hne:S≠xs:=of_decide_eq_false g6_4;refine au 140120190325088888 ?_;exact hfin _ _ [(jr,_),(jq,_),(jx,_),(jS,_),(1,_),(s,_)] _ (by repeat (first | exact Split.none _ | exact Split.all _ | (apply Split.rem; repeat (first | exact Rem.head | apply Rem.tail)) | apply Split.right)) ⟨rfl,by simp only [lT,lS,not_or]; exact ⟨hni,fun h=>hne h.symm⟩⟩
  ·obtain ⟨rfl,hni⟩:=hJ;simp only [cA];refine au 317017042140 ?_;refine TK.leave (.ret _) fun A hA=>hret _ _ _ _ ([(0,_),(1,_),(s,_),(e,_),(j,_),(jr,_),(jq,_)]) ([(0,_),(1,_),(s,_),(e,_),(j,_)]) _ _ _ (.inr rfl) (by repeat (first | exact Split.none _ | exact Split.all _ | (apply Split.rem; repeat (first | exact Rem.head | apply Rem.tail)) | apply Split.right)) sQ sQ (by repeat (first | exact Split.none _ | exact Split.all _ | (apply Split.rem; repeat (first | exact Rem.head | apply Rem.tail)) | apply Split.right)) (y7 (.cons (yD Z zd.h mQ rfl) (.cons (yD Z zd.h mQ rfl) ResKs.nil)) rfl) ?_ A hA;exact ⟨by unfold stateApi; rw [if_neg (by rw [hc1]; decide),if_neg (by simpa using hc0),decide_eq_false hni]; rfl,rfl⟩
  ·obtain ⟨rfl,hmem,rfl⟩:=hD;simp only [cA];refine au 0 ?_;refine TK.leave (.ret _) fun A hA=>hret _ _ _ _ ([(0,_),(1,_),(s,_),(e,_),(j,_),(jr,_),(jq,_)]) ([(0,_),(1,_),(s,_),(e,_),(j,_)]) _ _ _ (.inr rfl) (by repeat (first | exact Split.none _ | exact Split.all _ | (apply Split.rem; repeat (first | exact Rem.head | apply Rem.tail)) | apply Split.right)) sQ sQ (by repeat (first | exact Split.none _ | exact Split.all _ | (apply Split.rem; repeat (first | exact Rem.head | apply Rem.tail)) | apply Split.right)) (y7 (.cons (yD Z zd.h mQ rfl) (.cons (yD Z zd.h mQ rfl) ResKs.nil)) rfl) ?_ A hA;exact ⟨by unfold stateApi; rw [if_neg (by rw [hc1]; decide),if_neg (by simpa using hc0),decide_eq_true hmem]; rfl,rfl⟩
theorem za9 {main:Bool} {T:Goroutine->Hp->Prop} (hT:zh tp main T)  {b:Bk} {s e:Nat} (hse:s≠e) (hb:BkOk b) :
  zg tp T gmS 101 [.agg (zx b s e)] [(1,zA),(s,zn b),(e,zo b)] (fun r K'=>∃ j,r=.row j (zb b).length/\K'=[(1,zA),(s,zn b),(e,zo b),(j,.row ((zb b).flatMap zY) 209 4)]):=by
 refine vo 16 hT Tryz.func101 fun Y hro hret=>?_;refine au 21042 ?_;intro jb hjb;refine au 2204235 ?_;intro jl hjl;refine TK.virtC (t:=215) (e:=209) (size:=4) (fun _=>uQ) fun j0 hj0=>?_;refine au 13033206804223 ?_;refine TK.rangeAll hT hb (s:=s) (e:=e) (J:=fun pre K1=>∃ j,K1=[(jl,.cells [.row j (pre.filter (canM b)).length] 215 true),(j,.row ((pre.filter (canM b)).flatMap zY) 209 4),(jb,.cells (zx b s e) 205 true),(1,zA),(s,zn b)]) (D:=fun _ _=>False) rfl hro rfl (by repeat (first | exact Split.none _ | exact Split.all _ | (apply Split.rem; repeat (first | exact Rem.head | apply Rem.tail)) | apply Split.right)) ⟨j0,rfl⟩ (fun Y' l lo lb pre S K1 hbegin hfin hout hpre hJ=>?_) (fun d K2 hJ=>?_) (fun d c K2 hD=>?_)
 ·obtain ⟨j,rfl⟩:=hJ;have hSm:=uL hb hpre;have hpl:=zgZ hb hpre (canM b);refine au 2204 ?_;intro j1 hj1;refine au 3170 ?_;refine hbegin _ _ _ _ _ uQ ?_;refine au 68068042130 ?_;refine TK.cl Z Z Z Z (zim hT (s:=s) (e:=e) hse hb hSm) ?_;rintro r2 K3 ⟨rfl,rfl⟩;refine au 93 ?_;constructor<;>intro hc0
  ·refine au 6806904 ?_;refine TK.newR Z Z Z (zG (l:=[_,_,_,_]) Z SlEl.h TyZ.h dQ dQ Z) (fun _=>zy rfl tQ) fun j5 hj5=>?_;refine TK.appR Z Z Z (a_app Z ApOf.h Z mQ (yk zY 4 (fun _=>rfl) _) rfl (yS (ln:=[_,_,_,_]) mQ dQ sQ rfl) oQ rfl (by unfold maxLen; omega) oQ) (fun _=>uQ) (fun _=>zy rfl tQ) fun j2=>?_;refine au 1403170 ?_;exact hfin _ _ [(jl,_),(j2,_),(jb,_),(1,_),(s,_)] _ (by repeat (first | exact Split.none _ | exact Split.all _ | (apply Split.rem; repeat (first | exact Rem.head | apply Rem.tail)) | apply Split.right)) ⟨j2,by rw [zke hc0,List.flatMap_append,lF] <;> rfl⟩
  refine au 140120 ?_;exact hfin _ _ [(jl,_),(j,_),(jb,_),(1,_),(s,_)] _ (by repeat (first | exact Split.none _ | exact Split.all _ | (apply Split.rem; repeat (first | exact Rem.head | apply Rem.tail)) | apply Split.right)) ⟨j,by rw [zkd hc0] <;> rfl⟩
 ·obtain ⟨j,rfl⟩:=hJ;simp only [cA];refine au 3569042140 ?_;refine TK.leave (.ret _) fun A hA=>hret _ _ _ _ ([(1,_),(s,_),(e,_),(j,_)]) ([(1,_),(s,_),(e,_),(j,_)]) _ _ _ (.inr rfl) (by repeat (first | exact Split.none _ | exact Split.all _ | (apply Split.rem; repeat (first | exact Rem.head | apply Rem.tail)) | apply Split.right)) sQ sQ (by repeat (first | exact Split.none _ | exact Split.all _ | (apply Split.rem; repeat (first | exact Rem.head | apply Rem.tail)) | apply Split.right)) (kl (zS Z)) ?_ A hA;exact ⟨j,rfl,rfl⟩
 ·exact hD.elim
section
variable {P:Program} {gm:Nat->Option Nat} {T:Goroutine->Hp->Prop} {Y:KX P gm T} {ds:List Nat} {k:List Item} {env env':List AV} {K K':KV}
theorem TK.freezeR (d:Nat) {j n:Nat} {l:List AV} {e:TypeId} {s:Nat} (hd:env[d]? =some (.row j n)) (hu:Upd K j (.row l e s) j (.cells l e false) K') (he:env.set d (.sl j 0 n)=env') (h:TK Y ds k env' K'):TK Y ds k env K :=
 TK.freeze d hd hu (by rw [<- he]; simp [unrow1,unrow]) h
end
def knownC (b:Bk) (s e:Nat) (l:AV) (m:Nat):List AV:=[intA b.steps,intA b.wrong,intA b.low,intA b.high,.sl s 0 b.seekers.length,.sl e 0 b.seen.length,l,.map m]
def listO (Ls:List (List Int)):AObj:=.cells (Ls.flatMap zY) 209 false
theorem zbj (Ls:List (List Int)) (i:Nat) (h:i<Ls.length):zZ (listO Ls) (0+(i:Int).toNat*4) 4=some (zY Ls[i]):=by
 have hle:(i+1)*4<=Ls.length*4:=Nat.mul_le_mul_right _ h;simp only [zZ,AObj.look,listO,mZ,mO];rw [if_pos ⟨by omega,by rw [yk zY 4 (fun _=>rfl)]; omega⟩,kC zY 4 (fun _=>rfl) _ _ h]
def oftM (Ls:List (List Int)) (n:Int):Int:=(Ls.flatten.count n:Nat)
def wordM (all some:Int):Int:=if (some==all)=true then 1 else if (some==0)=true then 2 else 0
def bandM (b:Bk) (lo w:Int) (x:Int×Int) (S:List Int):Int×Int:=(if inM b S lo w<x.1 then inM b S lo w else x.1,if x.2<inM b S lo w then inM b S lo w else x.2)
def withinM (b:Bk) (Ls:List (List Int)) (lo w:Int):Int×Int:=Ls.foldl (bandM b lo w) (3,0)
theorem zgb {b:Bk} {Ls:List (List Int)} {lo w:Int} {i:Nat} (h:i<Ls.length):withinM b (Ls.take (i+1)) lo w=bandM b lo w (withinM b (Ls.take i) lo w) Ls[i]:=by
 unfold withinM;rw [List.take_add_one,lA h,List.foldl_append]; rfl
def rightsM (b:Bk) (Ls:List (List Int)) (k:Nat):Int:=((Ls.filter (rightM b · k)).length:Nat)
theorem zal (b:Bk) (Ls:List (List Int)) (k:Nat):0<=rightsM b Ls k/\rightsM b Ls k<=Ls.length:=⟨Int.natCast_nonneg _,Int.ofNat_le.2 (List.length_filter_le _ _)⟩
theorem zjy {b:Bk} {Ls:List (List Int)} {k i:Nat} (h:i<Ls.length) (hr:rightM b Ls[i] k=true):rightsM b (Ls.take (i+1)) k=rightsM b (Ls.take i) k+1:=by
 unfold rightsM;rw [List.take_add_one,lA h,List.filter_append,lF]; simp [hr]
theorem zjx {b:Bk} {Ls:List (List Int)} {k i:Nat} (h:i<Ls.length) (hr:rightM b Ls[i] k=false):rightsM b (Ls.take (i+1)) k=rightsM b (Ls.take i) k:=by
 unfold rightsM;rw [List.take_add_one,lA h,List.filter_append,lF]; simp [hr]
def askM (b:Bk) (t:Bool):Int:=if checkM b≠0 then checkM b else if t=false then 6 else if zb b=[] then 9 else 0
def zeroKn:List AV:=zeroBk++[.v (.slice none 0 0),.v (.map none)]
theorem yL {b:Bk} (hb:BkOk b):∀ S∈zb b,SmOk b S:=fun S h=>uF hb S (List.mem_filter.1 h).1
theorem yE {b:Bk} (hb:BkOk b):(zb b).length<=65536:=mT (List.length_filter_le _ _) (zbV hb)
theorem uv {Ls:List (List Int)} (h:∀ S∈Ls,S.length<=3):Ls.flatten.length<=Ls.length*3:=by
 induction Ls with
 | nil=>simp
 | cons S Ls ih =>
  have:=ih fun R hR=>h R (by simp [hR]);have:=h S sQ;rw [List.flatten_cons,lF,lZ]; omega
theorem zfD {Ls:List (List Int)} {i k:Nat} (h:i<Ls.length) (hk:k<Ls[i].length) (n:Int):((((Ls.take i).flatten++Ls[i].take (k+1)).count n:Nat):Int)=if n=Ls[i][k] then ((((Ls.take i).flatten++Ls[i].take k).count Ls[i][k]:Nat):Int)+1 else ((((Ls.take i).flatten++Ls[i].take k).count n:Nat):Int):=by
 rw [List.take_add_one,lA hk,<- List.append_assoc,List.count_append];by_cases e:n=Ls[i][k]
 ·subst e; simp
 ·rw [if_neg e]; simp [List.count_cons,Ne.symm e]
theorem zfC {Ls:List (List Int)} {i:Nat} (h:i<Ls.length):(Ls.take i).flatten++Ls[i].take Ls[i].length=(Ls.take (i+1)).flatten:=by
 rw [List.take_add_one,lA h,lW,List.flatten_append]; simp
theorem vg {ob:Obj} {f g:Int->Int} (h:MapOk ob f) (e:∀ n,f n=g n):MapOk ob g:=by
 obtain ⟨es,c,rfl,hI,hf⟩:=h;exact ⟨es,c,rfl,hI,fun n=>(hf n).trans (e n)⟩
theorem wA {main T} (hT:zh tp main T) {gm} {b:Bk} {s e:Nat} :
  zg tp T gm 103 [.agg (zx b s e)] [] (fun r K'=>r=zm true/\K'=[]):=by
 refine ze 3 hT Tryz.func103 fun Y hret=>?_;refine au 21042 ?_;intro j1 hj1;refine au 354235 ?_;refine TK.rt hret [] ?_;exact ⟨rfl,rfl⟩
theorem zdF {main T} (hT:zh tp main T) {gm} {b:Bk} {s e jl m:Nat} {Ls:List (List Int)} {x:Int} :
  zg tp T gm 108 [.agg (knownC b s e (.sl jl 0 Ls.length) m),intA x] [] (fun r K'=>r=intA (wordM Ls.length x)/\K'=[]):=by
 refine ze 13 hT Tryz.func108 fun Y hret=>?_;refine au 21042 ?_;intro j1 hj1;refine au 9357280690670421303142235 ?_;constructor<;>intro hc0
 ·refine au 3542 ?_;refine TK.rt hret [] ?_;exact ⟨by unfold wordM; rw [if_pos hc0]; rfl,rfl⟩
 refine au 935742 ?_;constructor<;>intro hc1
 ·refine au 3542 ?_;refine TK.rt hret [] ?_;exact ⟨by unfold wordM; rw [if_neg (by rw [hc0]; decide),if_pos hc1]; rfl,rfl⟩
 refine au 3542140120 ?_;refine TK.rt hret [] ?_;exact ⟨by unfold wordM; rw [if_neg (by rw [hc0]; decide),if_neg (by rw [hc1]; decide)]; rfl,rfl⟩
theorem zeL {main T} (hT:zh tp main T) {gm} {b:Bk} {s e jl m:Nat} {Ls:List (List Int)} {lo w:Int} (hs:4<=b.steps/\b.steps<=16) (hLo:∀ S∈Ls,SmOk b S) (hLn:Ls.length<=65536) (h0:0<=lo/\lo<b.steps) :
  zg tp T gm 111 [.agg (knownC b s e (.sl jl 0 Ls.length) m),intA lo,intA w] [(jl,listO Ls)] (fun r K'=>r=.agg [intA (withinM b Ls lo w).1,intA (withinM b Ls lo w).2]/\K'=[(jl,listO Ls)]):=by
 refine ze 36 hT Tryz.func111 fun Y hret=>?_;refine au 21042 ?_;intro jx hjx;refine au 220 ?_;intro jr hjr;refine au 220390423 ?_;intro jo hjo;refine au 130312806906704223170 ?_;refine TK.maskL [1,2,3,6,7,13,14,15] ?_;refine TK.loopN (fun n env K=>∃ (i:Nat),n=Ls.length - i/\i<=Ls.length/\env=zJ 36 [(1,intA lo),(2,intA w),(3,.ptr jx 0),(6,.ptr jr 0),(7,.ptr jo 0),(13,.sl jl 0 Ls.length),(14,intA Ls.length),(15,intA i)]/\K=[(jo,.cells [intA (withinM b (Ls.take i) lo w).1,intA (withinM b (Ls.take i) lo w).2] 23 true),(jr,.cells [intA 0,intA 0] 23 true),(jx,.cells (knownC b s e (.sl jl 0 Ls.length) m) 219 true),(jl,listO Ls)]) Ls.length ⟨0,rfl,mN _,rfl,rfl⟩ fun n env K hI' hnext=>?_;obtain ⟨i,rfl,hi,rfl,rfl⟩:=hI';refine au 923742 ?_;refine ⟨fun hc=>?_,fun hc=>?_⟩
 ·simp only [decide_eq_true_eq] at hc;have hil:i<Ls.length:=by omega
  have hSm:=hLo _ (List.getElem_mem hil);refine au 360421302120 ?_;refine TK.a Z (zK Z Z zd.h mQ (zbj Ls i hil)) ?_;refine au 220 ?_;intro j9 hj9;refine au 11680680670423170 ?_;refine TK.cl Z Z Z Z (in_ok hT (s:=s) (e:=e) hs hSm.len hSm.mem h0) ?_;rintro r1 K2 ⟨rfl,rfl⟩;refine au 1690670435 ?_;refine TK.a Z (q_min Z Z Z) ?_;refine au 1690670 ?_;refine TK.a Z (q_max Z Z Z) ?_;refine au 3123041403170390 ?_;refine TK.maskL [1,2,3,6,7,13,14,15] ?_;refine TK.kp [(jo,_),(jr,_),(jx,_),(jl,_)] ?_;exact hnext _ _ _ oQ ⟨i+1,rfl,oQ,rfl,by rw [zgb hil]; rfl⟩
 simp only [decide_eq_false_iff_not] at hc;obtain rfl:i=Ls.length:=by omega
 refine au 317068042160 ?_;refine TK.rt hret [(jl,_)] ?_;exact ⟨by rw [lW]; rfl,rfl⟩
theorem zeq {main:Bool} {T:Goroutine->Hp->Prop} (hT:zh tp main T)  {b:Bk} {s e jl m:Nat} {Ls:List (List Int)} {k:Nat} (hb:BkOk b) (hLo:∀ S∈Ls,SmOk b S) (hLn:Ls.length<=65536) (hk:k<b.seekers.length) :
  zg tp T gmS 117 [.agg (knownC b s e (.sl jl 0 Ls.length) m),intA k] [(1,zA),(s,zn b),(jl,listO Ls)] (fun r K'=>r=intA (rightsM b Ls k)/\K'=[(1,zA),(s,zn b),(jl,listO Ls)]):=by
 refine ze 24 hT Tryz.func117 fun Y hret=>?_;refine au 21042 ?_;intro jx hjx;refine au 13031280690670422354235 ?_;refine TK.maskL [1,2,5,9,10,11] ?_;refine TK.loopN (fun n env K=>∃ (i:Nat),n=Ls.length - i/\i<=Ls.length/\env=zJ 24 [(1,intA k),(2,.ptr jx 0),(5,intA (rightsM b (Ls.take i) k)),(9,.sl jl 0 Ls.length),(10,intA Ls.length),(11,intA i)]/\K=[(jx,.cells (knownC b s e (.sl jl 0 Ls.length) m) 219 true),(1,zA),(s,zn b),(jl,listO Ls)]) Ls.length ⟨0,rfl,mN _,rfl,rfl⟩ fun n env K hI' hnext=>?_;obtain ⟨i,rfl,hi,rfl,rfl⟩:=hI';refine au 923742 ?_;refine ⟨fun hc=>?_,fun hc=>?_⟩
 ·simp only [decide_eq_true_eq] at hc;have hil:i<Ls.length:=by omega
  have hSm:=hLo _ (List.getElem_mem hil);have hrl:=zal b (Ls.take i) k;have htl:(Ls.take i).length<=65536:=by rw [List.length_take]; omega
  refine au 360421302120 ?_;refine TK.a Z (zK Z Z zd.h mQ (zbj Ls i hil)) ?_;refine au 220 ?_;intro j9 hj9;refine au 1680680670423170 ?_;refine TK.cl Z Z Z Z (zak hT (s:=s) (e:=e) hb hSm hk) ?_;rintro r1 K2 ⟨rfl,rfl⟩;refine au 93 ?_;constructor<;>intro hc1
  ·refine au 3123041403523014 ?_;refine TK.maskL [1,2,5,9,10,11] ?_;refine TK.kp [(jx,_),(1,_),(s,_),(jl,_)] ?_;exact hnext _ _ _ oQ ⟨i+1,rfl,oQ,by rw [zjy hil hc1]; rfl,rfl⟩
  refine au 312304140120 ?_;refine TK.maskL [1,2,5,9,10,11] ?_;refine TK.kp [(jx,_),(1,_),(s,_),(jl,_)] ?_;exact hnext _ _ _ oQ ⟨i+1,rfl,oQ,by rw [zjx hil hc1]; rfl,rfl⟩
 simp only [decide_eq_false_iff_not] at hc;obtain rfl:i=Ls.length:=by omega
 refine au 35142160 ?_;refine TK.rt hret [(1,_),(s,_),(jl,_)] ?_;exact ⟨by rw [lW],rfl⟩
theorem vm {main:Bool} {T:Goroutine->Hp->Prop} (hT:zh tp main T)  {b:Bk} {s e:Nat} {yv:AV} {t:Bool} {Kt:KV} (hse:s≠e) (hn:∀ x∈b.seekers,x.name.size<=1000) (hl:b.seen.length<=1000) (hy1:oneA yv=true) (hth:BkOk b->CallFK tp T gmS yv [.agg (zx b s e)] Kt (fun r K'=>r=zm t/\K'=Kt)) :
  zg tp T gmS 102 [.agg (zx b s e),yv] ((0,zw)::(1,zA)::(s,zn b)::(e,zo b)::Kt) (fun r K'=>(askM b t≠0/\r=.tup [.agg zeroKn,intA (askM b t)]/\K'=(0,zw)::(1,zA)::(s,zn b)::(e,zo b)::Kt)\/(∃ jl m om,askM b t=0/\MapOk om (oftM (zb b))/\r=.tup [.agg (knownC b s e (.sl jl 0 (zb b).length) m),intA 0]/\K'=(jl,listO (zb b))::(m,.raw om)::(0,zw)::(1,zA)::(s,zn b)::(e,zo b)::Kt)):=by
 refine ze 59 hT Tryz.func102 fun Y hret=>?_;refine au 21042 ?_;intro jb hjb;refine au 220 ?_;intro jk hjk;refine au 68042235 ?_;refine TK.cl Z Z Z Z (kP hT (b:=b) (s:=s) (e:=e) hn hl) ?_;rintro r1 K2 ⟨rfl,rfl⟩;refine au 93714235 ?_;constructor<;>intro hc0
 ·refine au 35170145042 ?_;refine TK.rt hret (((0,zw)::(1,zA)::(s,zn b)::(e,zo b)::Kt)) ?_;have ha:askM b t=checkM b:=if_pos (by simpa using hc0);exact .inl ⟨by rw [ha]; simpa using hc0,by rw [ha]; rfl,rfl⟩
 have hc1:checkM b=0:=by simpa using hc0
 have hb:=yo hc1;refine au 43068042120 ?_;refine TK.newM Z Z Z (uj Z) (fun _=>zy rfl tQ) fun jm hjm=>?_;refine au 220450 ?_;intro jx hjx;refine au 68067014223170 ?_;refine TK.callF' Z Z Z Z Z (hth hb) (.right (.right (.right (.right (.right (.right (.right (.right (.all _))))))))) fun r4 K5 h6=>?_;obtain ⟨rfl,hK⟩:=h6;refine au 0 ?_;rw [hK];refine TK.perm (K':=(jx,_)::(jm,_)::(0,_)::(s,_)::(e,_)::(jk,_)::(jb,_)::(1,_)::Kt) (lH (l₁:=Kt)) ?_;refine au 93300 ?_;constructor<;>intro hc2
 ·have ht:t=false:=by simpa using hc2
  refine au 3517045042 ?_;refine TK.rt hret (((0,zw)::(1,zA)::(s,zn b)::(e,zo b)::Kt)) ?_;have ha:askM b t=6:=by unfold askM; rw [if_neg (by simpa using hc1),ht,if_pos rfl]
  exact .inl ⟨by rw [ha]; decide,by rw [ha]; rfl,rfl⟩
 have ht:t=true:=by simpa using hc2
 refine au 680670422120 ?_;refine TK.cl Z Z Z Z (za9 hT hse hb) ?_;rintro r7 K8 ⟨jl,rfl,rfl⟩;refine au 0 ?_;refine TK.freezeR 30 Z uQ Z ?_;refine au 937280690670423170670 ?_;constructor<;>intro hc3
 ·have hst:zb b=[]:=List.eq_nil_of_length_eq_zero (by have h:((zb b).length:Int)=0:=(by simpa using hc3); omega);refine au 3517045042 ?_;refine TK.rt hret (((0,zw)::(1,zA)::(s,zn b)::(e,zo b)::Kt)) ?_;have ha:askM b t=9:=by unfold askM; rw [if_neg (by simpa using hc1),ht,if_neg dQ,if_pos hst]
  exact .inl ⟨by rw [ha]; decide,by rw [ha]; rfl,rfl⟩
 have hst:zb b≠[]:=fun h=>by rw [h] at hc3; exact absurd hc3 dQ
 have hLo:=yL hb;have hLn:=yE hb;refine au 13031280690670422120 ?_;refine TK.maskL [4,7,38,39,40] ?_;refine TK.kp (((jx,_)::(jm,_)::(jl,_)::(jk,_)::(0,_)::(1,_)::(s,_)::(e,_)::Kt)) ?_;refine TK.loopN (fun n env K=>∃ (i:Nat) (om:Obj),n=(zb b).length - i/\i<=(zb b).length/\MapOk om (fun q=>(((zb b).take i).flatten.count q:Nat))/\env=zJ 59 [(4,.ptr jk 0),(7,.ptr jx 0),(38,.sl jl 0 (zb b).length),(39,intA (zb b).length),(40,intA i)]/\K=(jx,.cells (knownC b s e (.sl jl 0 (zb b).length) jm) 219 true)::(jm,.raw om)::(jl,listO (zb b))::(jk,.cells zeroKn 219 true)::(0,zw)::(1,zA)::(s,zn b)::(e,zo b)::Kt) (zb b).length ⟨0,_,rfl,mN _,zd8,rfl,rfl⟩ fun n env K hI' hnext=>?_;obtain ⟨i,om,rfl,hi,hom,rfl,rfl⟩:=hI';refine au 923742 ?_;refine ⟨fun hc=>?_,fun hc=>?_⟩
 ·simp only [decide_eq_true_eq] at hc;have hil:i<(zb b).length:=by omega
  have hSm:=hLo _ (List.getElem_mem hil);refine au 360421302120 ?_;refine TK.a Z (zK Z Z zd.h mQ (zbj (zb b) i hil)) ?_;refine au 220 ?_;intro j9 hj9;refine au 680423170 ?_;refine TK.cl Z Z Z Z (zbk hT hSm.len fun x hx=>⟨(hSm.mem x hx).1,by have:=(hSm.mem x hx).2; have:=hb.steps; omega⟩) ?_;rintro r10 K11 ⟨jr,rfl,rfl⟩;refine au 13031280 ?_;refine TK.maskL [4,7,38,39,40,45,46,47] ?_;refine TK.kp (((jr,_)::(jx,_)::(jm,_)::(jl,_)::(jk,_)::(0,_)::(1,_)::(s,_)::(e,_)::Kt)) ?_;refine TK.loopN (fun n env K=>∃ (q:Nat) (om2:Obj),n=(zb b)[i].length - q/\q<=(zb b)[i].length/\MapOk om2 (fun z=>(((((zb b).take i).flatten++(zb b)[i].take q).count z:Nat):Int))/\env=zJ 59 [(4,.ptr jk 0),(7,.ptr jx 0),(38,.sl jl 0 (zb b).length),(39,intA (zb b).length),(40,intA i),(45,.row jr (zb b)[i].length),(46,intA (zb b)[i].length),(47,intA q)]/\K=(jr,.row ((zb b)[i].map intA) 3 1)::(jx,.cells (knownC b s e (.sl jl 0 (zb b).length) jm) 219 true)::(jm,.raw om2)::(jl,listO (zb b))::(jk,.cells zeroKn 219 true)::(0,zw)::(1,zA)::(s,zn b)::(e,zo b)::Kt) (zb b)[i].length ⟨0,om,rfl,mN _,by simpa using hom,rfl,rfl⟩ fun n env K hI' hnext2=>?_;obtain ⟨q,om2,rfl,hq,hom2,rfl,rfl⟩:=hI';refine au 923742 ?_;refine ⟨fun hcq=>?_,fun hcq=>?_⟩
  ·simp only [decide_eq_true_eq] at hcq;have hlen3:=hSm.len;have hql:q<(zb b)[i].length:=by omega
   have hcnt:(((zb b).take i).flatten++(zb b)[i].take q).count (zb b)[i][q]<=200000:=mT List.count_le_length (by
    have h1:=uv (Ls:=(zb b).take i) (fun R hR=>(hLo R (List.mem_of_mem_take hR)).len);have h2:((zb b).take i).length<=65536:=by rw [List.length_take]; omega
    have h3:=hSm.len;rw [lF,List.length_take]; omega)
   refine au 370421302120 ?_;refine TK.a Z (zp Z Z zd.h mQ (zci (i:=q) hql Z)) ?_;refine au 1690670435 ?_;refine TK.a Z (vZ Z Z Z Und.h Und.h InfO.h Z mQ hom2) ?_;refine au 230 ?_;refine TK.st Z Z Z (zbG Z Z Z Z Und.h Und.h mQ hom2) uQ (putN Z) ?_;refine au 3123041403 ?_;refine TK.maskL [4,7,38,39,40,45,46,47] ?_;refine TK.kp (((jr,_)::(jx,_)::(jm,_)::(jl,_)::(jk,_)::(0,_)::(1,_)::(s,_)::(e,_)::Kt)) ?_;exact hnext2 _ _ _ oQ ⟨q+1,_,rfl,oQ,vg (zjQ hom2) (fun z=>(zfD hil hql z).symm),rfl,rfl⟩
  simp only [decide_eq_false_iff_not] at hcq;obtain rfl:q=(zb b)[i].length:=by omega
  refine au 312304140160 ?_;refine TK.maskL [4,7,38,39,40] ?_;refine TK.kp (((jx,_)::(jm,_)::(jl,_)::(jk,_)::(0,_)::(1,_)::(s,_)::(e,_)::Kt)) ?_;exact hnext _ _ _ oQ ⟨i+1,om2,rfl,oQ,vg hom2 (fun q=>by rw [zfC hil]),rfl,rfl⟩
 simp only [decide_eq_false_iff_not] at hc;obtain rfl:i=(zb b).length:=by omega
 refine au 3517068042160 ?_;refine TK.rt hret (((jl,_)::(jm,_)::(0,zw)::(1,zA)::(s,zn b)::(e,zo b)::Kt)) ?_;have ha:askM b t=0:=by unfold askM; rw [if_neg (by simpa using hc1),ht,if_neg dQ,if_neg hst]
 rw [lW] at hom;exact .inr ⟨jl,jm,_,ha,hom,rfl,rfl⟩
end Go.Vel
end
