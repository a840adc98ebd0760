/- Texts for the statements of chapter 8: what all of them need, part 2. It holds of every program, tape and world that the statements name, as each theorem says. -/
import Derived.KernelRfl
import Derived.Test.YtfplagcfmdkakaaGreatDoorN0
section
set_option linter.all false
set_option maxRecDepth 20000
set_option maxHeartbeats 60000000
open List renaming cons_append -> lB, getElem?_eq_some_iff -> lD, mem_cons_of_mem -> lL, getElem?_set_ne -> lP, mem_append -> lT, mem_append_left -> lV, getElem?_set -> lX, mem_map -> lY, replicate -> mB
open Array renaming getElem?_toList -> mI, empty_append -> mK
open Nat renaming le_refl -> mL, eq_zero_or_pos -> mP, lt_or_ge -> mR, le_trans -> mT
namespace Go.Vel
open Go Go.Conc
def varA (P:Program) (A:List AObj) (t:TypeId):AV->Option AV
 | .ptr i off=>match tySize P t with
  | some (true,n)=>match loadA A i off n with | some l=>some (.agg l) | none=>none
  | some (false,_)=>match loadA A i off 1 with | some [u]=>some u | _=>none
  | none=>none
 | _=>none
def resA1 (P:Program) (env:List AV) (A:List AObj):ResultVar->Option AV
 | .tmp t=>some (env.getD t .any)
 | .cell a t=>varA P A t (env.getD a .any)
def resAs (P:Program) (env:List AV) (A:List AObj):List ResultVar->Option (List AV)
 | []=>some []
 | v::vs=>match resA1 P env A v,resAs P env A vs with
  | some r,some rs=>some (r::rs)
  | _,_=>none
def resA (P:Program) (rs:List ResultVar) (env:List AV) (A:List AObj):Option AV:=match resAs P env A rs with
 | some [r]=>some r
 | some rs=>some (.tup rs)
 | none=>none
section
variable {P:Program} {gm:Nat->Option Nat} {φ:Nat->Loc3} {A A':List AObj} {F H:Hp} {env:List AV} {ts:Array Value}
theorem zfE {t:TypeId} {i off:Nat} {r:AV} (hi:i<A.length) (hH:RelH φ A F H) (h:varA P A t (.ptr i off)=some r) {Q:Value->Hp->Prop} (hq:∀ v,RelV φ A.length r v->Q v H) :
  wpS P (loadVar t ⟨(φ i).blk,(φ i).base+off,none⟩) H Q:=by
 unfold varA at h;unfold loadVar;dsimp only at h;split at h
 ·rename_i n e2;obtain ⟨ti,td,e5,e7,e8,e6⟩:=yF e2;split at h
  ·rename_i l hl;cases h;obtain ⟨_,rw',cur,e,fz,ys,hb,hn,hr,hc⟩:=vn hH hl;refine ze _ _ _ (vz e7 ?_);rw [e8,if_pos rfl];refine ze _ _ _ (yq e5 ?_);rw [e6,<- hn];exact ze _ _ _ (wD hb ys hc (hq _ (.agg hr.1 hr.2)))
  ·cases h
 ·rename_i n e2;obtain ⟨ti,td,e5,e7,e8,e6⟩:=yF e2;split at h
  ·rename_i u hl;cases h;obtain ⟨_,rw',cur,e,fz,ys,hb,hn,hr,hc⟩:=vn hH hl;refine ze _ _ _ (vz e7 ?_);rw [e8,if_neg sQ];obtain ⟨y,rfl⟩:∃ y,ys=[y]:=by
    cases ys with
    | nil=>simp at hn
    | cons y ys=>cases ys with
     | nil=>exact ⟨y,rfl⟩
     | cons z zs=>simp at hn
   exact ⟨rw',cur,e,fz,y,hb,rfl,hc 0 y rfl,hq _ (hr.2 0 r y rfl rfl)⟩
  ·cases h
 ·cases h
theorem zku (hH:RelH φ A F H) (hE:zM φ A.length env ts) {v:ResultVar} {r:AV} (h:resA1 P env A v=some r) {Q:Value->Hp->Prop} (hq:∀ y,RelV φ A.length r y->Q y H) :
  wpS P (match v with | .tmp t=>pure (ts.getD t undef) | .cell a t=>do loadVar t (<- asAddr (ts.getD a undef))) H Q:=by
 cases v with
 | tmp t =>
  cases h;exact hq _ (zD (gm:=fun _=>none) (a:=⟨ts,[]⟩) (fun g i e=>by cases e) hE (.tmp t))
 | cell a t =>
  have hr:=zD (gm:=fun _=>none) (a:=⟨ts,[]⟩) (fun g i e=>by cases e) hE (.tmp a);simp only [zL,Act.eval] at hr;have hptr:∃ i off,env.getD a .any=.ptr i off:=by
   unfold resA1 varA at h;dsimp only at h;split at h
   ·rename_i e; exact ⟨_,_,e⟩
   ·cases h
  obtain ⟨i,off,e⟩:=hptr;rw [e] at hr;obtain ⟨hi,e2⟩:=wb hr;dsimp only;rw [e2];refine ze _ _ _ ?_;refine zfE hi hH ?_ hq;have h':varA P A t (env.getD a .any)=some r:=h;rw [e] at h';exact h'
theorem uq (hH:RelH φ A F H) (hE:zM φ A.length env ts):∀ (vs:List ResultVar) (rs:List AV),resAs P env A vs=some rs->∀ (Q:List Value->Hp->Prop),(∀ ys:List Value,zM φ A.length rs ys.toArray->Q ys H) ->
  wpS P (vs.mapM fun | .tmp t=>pure (ts.getD t undef) | .cell a t=>do loadVar t (<- asAddr (ts.getD a undef))) H Q
 | [],rs,h,Q,hq=>by
  cases h;rw [List.mapM_nil];exact hq [] (wH _ _)
 | v::vs,rs,h,Q,hq=>by
  simp only [resAs] at h;split at h
  ·rename_i r rs' h1 h2;cases h;rw [List.mapM_cons];refine ze _ _ _ (zku hH hE h1 fun y hy=>?_);refine ze _ _ _ (uq hH hE vs rs' h2 _ fun ys hys=>?_);refine hq (y::ys) ?_;have:=vi (ys:=[y]) (kf hy) hys;exact this
  ·cases h
theorem kK {fn:Func} {r:AV} (hH:RelH φ A F H) (hE:zM φ A.length env ts) (h:resA P fn.results.toList env A=some r) {Q:Value->Hp->Prop} (hq:∀ y,RelV φ A.length r y->Q y H):wpS P (results fn ts) H Q:=by
 unfold results;refine ze _ _ _ ?_;rw [Array.mapM_eq_mapM_toList];unfold resA at h;split at h
 ·rename_i r' e;cases h;refine zcQ _ _ _ (uq hH hE _ _ e _ fun ys hys=>?_);obtain ⟨y,rfl⟩:∃ y,ys=[y]:=by
   have:=hys.1;cases ys with
   | nil=>simp at this
   | cons y ys=>cases ys with
    | nil=>exact ⟨y,rfl⟩
    | cons z zs=>simp at this
  exact hq y (hys.2 0 r y rfl rfl)
 ·rename_i rs hne e;cases h;refine zcQ _ _ _ (uq hH hE _ _ e _ fun ys hys=>?_);have hlen:ys.toArray.size≠1:=by
   intro h1;have:=hys.1;rw [h1] at this;cases rs with
   | nil=>simp at this
   | cons u us=>cases us with
    | nil=>exact hne u rfl
    | cons u' us=>simp at this
  show Q (if h:ys.toArray.size=1 then ys.toArray[0] else .tuple ys.toArray) H;rw [dif_neg hlen];exact hq _ (.tup hys.1 hys.2)
 ·cases h
end
section
variable {P:Program} {gm:Nat->Option Nat} {T:Goroutine->Hp->Prop}
theorem y7 {φ:Nat->Loc3} {n:Nat} {args:List AV} {vs:Array Value} (h:zM φ n args vs) (m:Nat):zM φ n (args++mB (m - args.length) .any) (vs++Array.replicate (m - vs.size) undef):=by
 refine kT h ⟨by simp [h.1],fun j a y ha _=>?_⟩;rw [List.getElem?_replicate] at ha;split at ha
 ·cases ha; exact .any _
 ·cases ha
theorem zfk {main:Bool} (hT:zm P main T) {g:FuncId} {fn:Func} {c:Code} {args:List AV} {A:List AObj} {Post:AV->List AObj->Prop} (hf:P.funcs[g]? =some fn) (hb:fn.body=some c)
  (h:∀ X:Cx P gm T,(∀ env A' r,resA P fn.results.toList env A'=some r->Post r A'->X.L (some .ret) [] env A')->(∀ env A' r,resA P fn.results.toList env A'=some r->Post r A'->X.L none [] env A') ->
   TA X [] [.code c] (args++mB (fn.ntmps - args.length) .any) A):CallT P T gm g args A Post:=by
 intro φ F H vs c0 cs hF0 hg hH hargs hfin;have hleave:∀ (k:List Item) (env:List AV) (A':List AObj) (φ':Nat->Loc3) (H':Hp) (ts:Array Value) (r:AV),resA P fn.results.toList env A'=some r->Post r A'->Agr φ φ' A.length->A.length<=A'.length->RelH φ' A' F H'->zM φ' A'.length env ts ->
   T (G { fr .normal g none ts [] k with mode:=.returning } (c0::cs)) H':=fun k env A' φ' H' ts r hr hp hA hlen hH' hE =>
  hT.leaveF hf (kK hH' hE hr fun y hy=>hfin r A' φ' H' y hp hA hlen hH' hy)
 let X:Cx P gm T:={
  main,hT,φ0:=φ,n0:=A.length,F,hF0,kd:=.normal,hkd:=(fun h=>by cases h),f:=g,ro:=none,cs:=c0::cs
  L:=fun j ds env A'=>(j=none\/j=some .ret)/\ds=[]/\∃ r,resA P fn.results.toList env A'=some r/\Post r A'
  hL:=by
   rintro j k ds env A' φ' H' ts hl ⟨hj,rfl,r,hr,hp⟩ hA hlen hg' _ hH' hE;cases hl with
   | fin=>exact hT.ctlF rfl (fun _=>wW) rfl (hleave _ env A' φ' H' ts r hr hp hA hlen hH' hE)
   | ret k=>exact hT.ctlF rfl (fun _=>vx) rfl (hleave _ env A' φ' H' ts r hr hp hA hlen hH' hE)
   | exit id k _=>rcases hj with hj | hj <;> cases hj }
 rw [wh vs hf hb];exact h X (fun env A' r hr hp=>⟨.inr rfl,rfl,r,hr,hp⟩) (fun env A' r hr hp=>⟨.inl rfl,rfl,r,hr,hp⟩) φ H _ (Agr.refl _ _) (mL _) hg (fun d hd=>by cases hd) hH (y7 hargs _)
variable {X:Cx P gm T} {ds:List Nat} {k:List Item} {env:List AV} {A:List AObj}
theorem TA.loopN {c:Code} (I:Nat->List AV->List AObj->Prop) (n:Nat) (h0:I n env A)
  (round:∀ n env A,I n env A->(∀ n' env' A',n'<n->I n' env' A'->TA X ds (.inLoop c::k) env' A')->TA X ds (.code c::.inLoop c::k) env A):TA X ds (.code (.loop c)::k) env A:=by
 refine TA.loop ?_;have key:∀ n env A,I n env A->TA X ds (.code c::.inLoop c::k) env A:=by
  intro n
  induction n using Nat.strongRecOn with
  | _ n ih =>
   intro env A hI;exact round n env A hI fun n' env' A' hlt hI'=>TA.inLoop (ih n' hlt env' A' hI')
 exact key n env A h0
def maskA:List Bool->List AV->List AV
 | true::bs,a::l=>a::maskA bs l
 | false::bs,_::l=>.any::maskA bs l
 | [],l=>l
 | _,[]=>[]
theorem uf:∀ (bs:List Bool) (l:List AV),(maskA bs l).length=l.length
 | [],l=>by simp [maskA]
 | true::bs,[]=>rfl
 | false::bs,[]=>rfl
 | true::bs,a::l=>by simp [maskA,uf bs l]
 | false::bs,a::l=>by simp [maskA,uf bs l]
theorem ub:∀ (bs:List Bool) (l:List AV) (j:Nat) a,(maskA bs l)[j]? =some a->a=.any\/l[j]? =some a
 | [],l,j,a,h=>.inr (by simpa [maskA] using h)
 | true::bs,[],j,a,h=>by simp [maskA] at h
 | false::bs,[],j,a,h=>by simp [maskA] at h
 | true::bs,b::l,0,a,h=>.inr h
 | false::bs,b::l,0,a,h=>by simp [maskA] at h; exact .inl h.symm
 | true::bs,b::l,j+1,a,h=>ub bs l j a (by simpa [maskA] using h)
 | false::bs,b::l,j+1,a,h=>ub bs l j a (by simpa [maskA] using h)
theorem TA.mask (bs:List Bool) (h:TA X ds k (maskA bs env) A):TA X ds k env A:=fun φ H ts h1 h2 h3 h4 h5 h6=>by
 refine h φ H ts h1 h2 h3 h4 h5 ⟨(uf bs env).trans h6.1,fun j a y ha hy=>?_⟩;rcases ub bs env j a ha with rfl | ha'
 ·exact .any _
 ·exact h6.2 j a y ha' hy
end
section
variable {P:Program} {gm:Nat->Option Nat} {T:Goroutine->Hp->Prop} {X:Cx P gm T} {ds:List Nat} {k:List Item} {env env':List AV} {A A' A'':List AObj}
end
abbrev KV:=List (Nat×AObj)
def zQ (K:KV) (A:List AObj):Prop:=∀ x∈K,A[x.1]? =some x.2
def keys (K:KV):List Nat:=K.map (·.1)
theorem yD {K:KV} {x:Nat×AObj} (h:x∈K):x.1∈keys K:=List.mem_map_of_mem (f:=fun x:Nat×AObj=>x.1) h
theorem mem_keys' {K:KV} {i:Nat} {o:AObj} (h:(i,o)∈K):i∈keys K:=yD h
theorem yc (K L:KV):keys (K++L)=keys K++keys L:=List.map_append
theorem zS {K L:KV} (h:K.Perm L):(keys K).Perm (keys L):=h.map _
theorem wi (x:Nat×AObj) (K:KV):keys (x::K)=x.1::keys K:=rfl
theorem zQ.get {K:KV} {A:List AObj} (h:zQ K A) {i:Nat} {o:AObj} (hm:(i,o)∈K):A[i]? =some o:=h _ hm
theorem zQ.sub {K K':KV} {A:List AObj} (h:zQ K A) (hs:∀ x∈K',x∈K):zQ K' A:=fun x hx=>h x (hs x hx)
theorem zQ.lt {K:KV} {A:List AObj} (h:zQ K A) {i:Nat} (hi:i∈keys K):i<A.length:=by
 obtain ⟨x,hx,rfl⟩:=List.mem_map.1 hi;exact (List.getElem?_eq_some_iff.1 (h x hx)).1
theorem zQ.push {K:KV} {A:List AObj} (h:zQ K A) (l:List AObj):zQ K (A++l):=fun x hx=>by
 rw [List.getElem?_append_left (h.lt (yD hx))]; exact h x hx
inductive Upd:KV->Nat->AObj->Nat->AObj->KV->Prop
 | head {i j:Nat} {o o':AObj} {K:KV}:Upd ((i,o)::K) i o j o' ((j,o')::K)
 | tail {i j:Nat} {o o':AObj} {x:Nat×AObj} {K K':KV}:Upd K i o j o' K'->Upd (x::K) i o j o' (x::K')
theorem uQ {K K':KV} {i j:Nat} {o o':AObj} (h:Upd K i o j o' K':=by repeat (first | exact Upd.head | apply Upd.tail)):Upd K i o j o' K':=h
theorem Upd.mem {K K':KV} {i j:Nat} {o o':AObj} (h:Upd K i o j o' K'):(i,o)∈K:=by
 induction h with
 | head=>simp
 | tail _ ih=>simp [ih]
theorem Upd.mem' {K K':KV} {i j:Nat} {o o':AObj} (h:Upd K i o j o' K'):∀ x∈K',x=(j,o')\/(x∈K/\((keys K).Nodup->x.1≠i)):=by
 induction h with
 | @head i j o o' K =>
  intro x hx;rcases List.mem_cons.1 hx with rfl | hx
  ·exact .inl rfl
  ·refine .inr ⟨by simp [hx],fun hn=>?_⟩;have h1:=(List.nodup_cons.1 hn).1;intro e;exact h1 (by have:=yD hx; rw [e] at this; exact this)
 | @tail i j o o' y K K' hu ih =>
  intro x hx;rcases List.mem_cons.1 hx with rfl | hx
  ·refine .inr ⟨by simp,fun hn e=>?_⟩;have h1:=(List.nodup_cons.1 hn).1;have:=hu.mem;exact h1 (by show x.1∈keys K; rw [e]; exact mem_keys' this)
  ·rcases ih x hx with h1 | ⟨h1,h2⟩
   ·exact .inl h1
   ·exact .inr ⟨by simp [h1],fun hn=>h2 (List.nodup_cons.1 hn).2⟩
theorem Upd.keys {K K':KV} {i j:Nat} {o o':AObj} (h:Upd K i o j o' K'):∀ k∈keys K',k=j\/k∈keys K:=fun k hk=>by
 obtain ⟨x,hx,rfl⟩:=List.mem_map.1 hk;rcases h.mem' x hx with rfl | ⟨h1,_⟩
 ·exact .inl rfl
 ·exact .inr (yD h1)
theorem Upd.nodup {K K':KV} {i j:Nat} {o o':AObj} (h:Upd K i o j o' K') (hn:(Go.Vel.keys K).Nodup) (hj:j=i\/j∉Go.Vel.keys K):(Go.Vel.keys K').Nodup:=by
 induction h with
 | @head i j o o' K =>
  have h1:=List.nodup_cons.1 hn;refine List.nodup_cons.2 ⟨?_,h1.2⟩;rcases hj with rfl | hj
  ·exact h1.1
  ·exact fun hm=>hj (List.mem_cons_of_mem _ hm)
 | @tail i j o o' y K K' hu ih =>
  have h1:=List.nodup_cons.1 hn;refine List.nodup_cons.2 ⟨fun hm=>?_,ih h1.2 (hj.imp id fun h hm=>h (List.mem_cons_of_mem _ hm))⟩;rcases hu.keys _ hm with e | hm
  ·rcases hj with rfl | hj
   ·exact h1.1 (by rw [e]; exact mem_keys' hu.mem)
   ·exact hj (by rw [<- e]; exact List.mem_cons_self)
  ·exact h1.1 hm
theorem zQ.set {K K':KV} {A:List AObj} {i:Nat} {o o':AObj} (h:zQ K A) (hu:Upd K i o i o' K') (hn:(keys K).Nodup):zQ K' (A.set i o'):=fun x hx=>by
 rcases hu.mem' x hx with rfl | ⟨h1,h2⟩
 ·exact List.getElem?_set_self (h.lt (mem_keys' hu.mem))
 ·rw [List.getElem?_set_ne (Ne.symm (h2 hn))]; exact h x h1
theorem zQ.renew {K K':KV} {A:List AObj} {i:Nat} {o o':AObj} (h:zQ K A) (hu:Upd K i o A.length o' K') (hn:(keys K).Nodup):zQ K' (A.set i .gone++[o']):=fun x hx=>by
 rcases hu.mem' x hx with rfl | ⟨h1,h2⟩
 ·rw [List.getElem?_append_right sQ]; simp
 ·have:=h.lt (yD h1);rw [List.getElem?_append_left (by simpa using this),List.getElem?_set_ne (Ne.symm (h2 hn))]; exact h x h1
inductive Rem:KV->(Nat×AObj)->KV->Prop
 | head {x:Nat×AObj} {K:KV}:Rem (x::K) x K
 | tail {x y:Nat×AObj} {K R:KV}:Rem K x R->Rem (y::K) x (y::R)
theorem Rem.perm {K R:KV} {x:Nat×AObj} (h:Rem K x R):K.Perm (x::R):=by
 induction h with
 | head=>exact .refl _
 | tail _ ih=>exact (List.Perm.cons _ ih).trans (.swap _ _ _)
inductive Split:KV->KV->KV->Prop
 | rem {x:Nat×AObj} {K K1 L R:KV}:Rem K x K1->Split K1 L R->Split K (x::L) R
 | none (K:KV):Split K [] K
 | all (K:KV):Split K K []
 | left {x:Nat×AObj} {K L R:KV}:Split K L R->Split (x::K) (x::L) R
 | right {x:Nat×AObj} {K L R:KV}:Split K L R->Split (x::K) L (x::R)
theorem Split.perm {K L R:KV} (h:Split K L R):K.Perm (L++R):=by
 induction h with
 | rem h1 _ ih=>exact h1.perm.trans (.cons _ ih)
 | none K=>exact .refl _
 | all K=>rw [List.append_nil]
 | left _ ih=>exact .cons _ ih
 | right _ ih=>exact (List.Perm.cons _ ih).trans List.perm_middle.symm
section
variable {P:Program} {gm:Nat->Option Nat} {T:Goroutine->Hp->Prop}
structure KX (P:Program) (gm:Nat->Option Nat) (T:Goroutine->Hp->Prop) where
 X:Cx P gm T
 A0:List AObj
 K0:List Nat
structure Kn (Y:KX P gm T) (K:KV) (A:List AObj):Prop where
 view:zQ K A
 nd:(keys K).Nodup
 own:∀ i∈keys K,i∈Y.K0\/Y.A0.length<=i
 kept:∀ j,j<Y.A0.length->j∉Y.K0->A[j]? =Y.A0[j]?
 len:Y.A0.length<=A.length
structure Kstep (K:KV) (A:List AObj) (K':KV) (A':List AObj):Prop where
 view:zQ K' A'
 nd:(keys K').Nodup
 own:∀ i∈keys K',i∈keys K\/A.length<=i
 kept:∀ j,j<A.length->j∉keys K->A'[j]? =A[j]?
 len:A.length<=A'.length
theorem Kn.step {Y:KX P gm T} {K K':KV} {A A':List AObj} (h:Kn Y K A) (hs:Kstep K A K' A'):Kn Y K' A':=by
 refine ⟨hs.view,hs.nd,fun i hi=>?_,fun j hj hn=>?_,Nat.le_trans h.len hs.len⟩
 ·rcases hs.own i hi with h1 | h1
  ·exact h.own i h1
  ·exact .inr (Nat.le_trans h.len h1)
 ·rw [hs.kept j (Nat.lt_of_lt_of_le hj h.len) (fun hm=>?_)]
  ·exact h.kept j hj hn
  ·rcases h.own j hm with h1 | h1
   ·exact hn h1
   ·omega
theorem Kstep.same {K:KV} {A:List AObj} (hv:zQ K A) (hn:(keys K).Nodup):Kstep K A K A:=⟨hv,hn,fun _ h=>.inl h,fun _ _ _=>rfl,Nat.le_refl _⟩
theorem Kstep.push {K:KV} {A:List AObj} (hv:zQ K A) (hn:(keys K).Nodup) (o:AObj):Kstep K A ((A.length,o)::K) (A++[o]):=by
 refine ⟨fun x hx=>?_,?_,fun i hi=>?_,fun j hj _=>List.getElem?_append_left hj,by simp⟩
 ·rcases List.mem_cons.1 hx with rfl | hx
  ·rw [List.getElem?_append_right (Nat.le_refl _)]; simp
  ·exact hv.push _ x hx
 ·refine List.nodup_cons.2 ⟨fun hm=>?_,hn⟩;exact Nat.lt_irrefl _ (hv.lt (i:=A.length) hm)
 ·rcases List.mem_cons.1 hi with rfl | hi
  ·exact .inr (Nat.le_refl _)
  ·exact .inl hi
theorem Kstep.set {K K':KV} {A:List AObj} {i:Nat} {o o':AObj} (hv:zQ K A) (hn:(keys K).Nodup) (hu:Upd K i o i o' K'):Kstep K A K' (A.set i o'):=by
 refine ⟨hv.set hu hn,hu.nodup hn (.inl Z),fun k hk=>.inl ?_,fun j _ hj=>?_,by simp⟩
 ·rcases hu.keys k hk with rfl | h
  ·exact mem_keys' hu.mem
  ·exact h
 ·exact List.getElem?_set_ne (fun e=>hj (by rw [<- e]; exact mem_keys' hu.mem))
theorem Kstep.renew {K K':KV} {A:List AObj} {i:Nat} {o o':AObj} (hv:zQ K A) (hn:(keys K).Nodup) (hu:Upd K i o A.length o' K'):Kstep K A K' (A.set i .gone++[o']):=by
 have hi:i∈keys K:=mem_keys' hu.mem;refine ⟨hv.renew hu hn,hu.nodup hn (.inr fun hm=>?_),fun k hk=>?_,fun j hj1 hj=>?_,by simp⟩
 ·have:=hv.lt hm; omega
 ·rcases hu.keys k hk with rfl | h
  ·exact .inr (Nat.le_refl _)
  ·exact .inl h
 ·rw [List.getElem?_append_left (by simpa using hj1),List.getElem?_set_ne (fun e=>hj (by rw [<- e]; exact hi))]
def TK (Y:KX P gm T) (ds:List Nat) (k:List Item) (env:List AV) (K:KV):Prop:=∀ A,Kn Y K A->TA Y.X ds k env A
def OpK (P:Program) (gm:Nat->Option Nat) (env:List AV) (K:KV) (o:Oper) (Q:AV->KV->Prop):Prop :=
 ∀ A,zQ K A->(keys K).Nodup->∃ r A' K',OpOk P gm env A o r A'/\Kstep K A K' A'/\Q r K'
variable {Y:KX P gm T} {ds:List Nat} {k:List Item} {env env':List AV} {K K':KV} {ops:Array Oper} {i:Nat} {rest:List Nat} {o:Oper} {r:AV}
theorem TK.skip (h:TK Y ds k env K):TK Y ds (.code .skip::k) env K:=fun A hA=>(h A hA).skip
theorem TK.inBlock {id:Nat} (h:TK Y ds k env K):TK Y ds (.inBlock id::k) env K:=fun A hA=>(h A hA).inBlock
theorem TK.label {l:Nat} (h:TK Y ds k env K):TK Y ds (.code (.label l)::k) env K:=fun A hA=>(h A hA).label
theorem TK.seq {x y:Code} (h:TK Y ds (.code x::.code y::k) env K):TK Y ds (.code (.seq x y)::k) env K:=fun A hA=>(h A hA).seq
theorem TK.block {id:Nat} {c:Code} (h:TK Y ds (.code c::.inBlock id::k) env K):TK Y ds (.code (.block id c)::k) env K:=fun A hA=>(h A hA).block
theorem TK.inLoop {c:Code} (h:TK Y ds (.code c::.inLoop c::k) env K):TK Y ds (.inLoop c::k) env K:=fun A hA=>(h A hA).inLoop
theorem TK.exit {id:Nat} {k':List Item} (hk:exitTo id k=some k') (h:TK Y ds k' env K):TK Y ds (.code (.exit id)::k) env K:=fun A hA=>(h A hA).exit hk
theorem TK.region {id:Nat} (h:TK Y ds (.inRegion ops (List.range ops.size)::k) env K):TK Y ds (.code (.region id ops false)::k) env K:=fun A hA=>(h A hA).region
theorem TK.regionEnd (h:TK Y ds k env K):TK Y ds (.inRegion ops []::k) env K:=fun A hA=>(h A hA).regionEnd
theorem TK.cond {c:Operand} {x y:Code} {t:Bool} (hc:zL gm env c=.v (.bool t)) (h1:t=true->TK Y ds (.code x::k) env K) (h2:t=false->TK Y ds (.code y::k) env K):TK Y ds (.code (.cond c x y)::k) env K:=fun A hA=>by
 cases t with
 | true=>exact TA.cond true hc (h1 rfl A hA)
 | false=>exact TA.cond false hc (h2 rfl A hA)
theorem TK.mask (bs:List Bool) (he:maskA bs env=env') (h:TK Y ds k env' K):TK Y ds k env K:=fun A hA=>TA.mask bs (he ▸ h A hA)
theorem TK.op (ho:ops[i]? =some o) (hd:yf o.op=false) (hw:zO ops env o=some true) (h:OpK P gm env K o fun r K'=>TK Y ds (.inRegion ops rest::k) (zR env o.dst r) K'):TK Y ds (.inRegion ops (i::rest)::k) env K:=fun A hA=>by
 obtain ⟨r,A',K',h1,h2,h3⟩:=h A hA.view hA.nd;exact TA.op ho hd hw h1 (h3 A' (hA.step h2))
theorem TK.q (ho:ops[i]? =some o) (hd:yf o.op=false) (hw:zO ops env o=some true) (hq:∀ A,zQ K A->OpOk P gm env A o r A) (he:zR env o.dst r=env') (h:TK Y ds (.inRegion ops rest::k) env' K):TK Y ds (.inRegion ops (i::rest)::k) env K :=
 TK.op ho hd hw fun A hv hn=>⟨r,A,K,hq A hv,.same hv hn,by subst he; exact h⟩
theorem TK.new {f:Nat->AV} {ob:AObj} {env'':Nat->List AV} (ho:ops[i]? =some o) (hd:yf o.op=false) (hw:zO ops env o=some true) (hq:∀ A,zQ K A->OpOk P gm env A o (f A.length) (A++[ob])) (he:∀ j,zR env o.dst (f j)=env'' j) (h:∀ j,j∉keys K->TK Y ds (.inRegion ops rest::k) (env'' j) ((j,ob)::K)):TK Y ds (.inRegion ops (i::rest)::k) env K :=
 TK.op ho hd hw fun A hv hn=>⟨_,_,_,hq A hv,.push hv hn ob,by dsimp only; rw [he]; exact h _ fun hm=>absurd (hv.lt hm) (Nat.lt_irrefl _)⟩
theorem TK.st {j:Nat} {ob ob':AObj} (ho:ops[i]? =some o) (hd:yf o.op=false) (hw:zO ops env o=some true) (hq:∀ A,zQ K A->OpOk P gm env A o r (A.set j ob')) (hu:Upd K j ob j ob' K') (he:zR env o.dst r=env') (h:TK Y ds (.inRegion ops rest::k) env' K'):TK Y ds (.inRegion ops (i::rest)::k) env K :=
 TK.op ho hd hw fun A hv hn=>⟨r,_,K',hq A hv,.set hv hn hu,by subst he; exact h⟩
theorem TK.app {j:Nat} {f:Nat->AV} {ob ob':AObj} {env'':Nat->List AV} {K'':Nat->KV} (ho:ops[i]? =some o) (hd:yf o.op=false) (hw:zO ops env o=some true) (hq:∀ A,zQ K A->OpOk P gm env A o (f A.length) (A.set j .gone++[ob'])) (hu:∀ j',Upd K j ob j' ob' (K'' j')) (he:∀ j',zR env o.dst (f j')=env'' j') (h:∀ j',TK Y ds (.inRegion ops rest::k) (env'' j') (K'' j')):TK Y ds (.inRegion ops (i::rest)::k) env K :=
 TK.op ho hd hw fun A hv hn=>⟨_,_,_,hq A hv,.renew hv hn (hu _),by dsimp only; rw [he]; exact h _⟩
theorem TK.unwanted (ho:ops[i]? =some o) (hw:zO ops env o=some false) (he:zR env o.dst (.v undef)=env') (h:TK Y ds (.inRegion ops rest::k) env' K):TK Y ds (.inRegion ops (i::rest)::k) env K:=fun A hA=>TA.unwanted ho hw (he ▸ h A hA)
theorem TK.drop {L R:KV} (hs:Split K L R) (h:TK Y ds k env R):TK Y ds k env K:=fun A hA=>by
 refine h A ⟨hA.view.sub fun x hx=>hs.perm.symm.subset (by simp [hx]),?_,fun i hi=>hA.own i ?_,hA.kept,hA.len⟩
 ·have:=(zS hs.perm).nodup_iff.1 hA.nd;rw [yc] at this;exact (List.nodup_append.1 this).2.1
 ·obtain ⟨x,hx,rfl⟩:=List.mem_map.1 hi;exact yD (hs.perm.symm.subset (by simp [hx]))
theorem TK.keep {L R:KV} (hs:Split K R L) (h:TK Y ds k env R):TK Y ds k env K:=fun A hA=>by
 refine h A ⟨hA.view.sub fun x hx=>hs.perm.symm.subset (by simp [hx]),?_,fun i hi=>hA.own i ?_,hA.kept,hA.len⟩
 ·have:=(zS hs.perm).nodup_iff.1 hA.nd;rw [yc] at this;exact (List.nodup_append.1 this).1
 ·obtain ⟨x,hx,rfl⟩:=List.mem_map.1 hi;exact yD (hs.perm.symm.subset (by simp [hx]))
theorem TK.perm (hp:K.Perm K') (h:TK Y ds k env K'):TK Y ds k env K:=fun A hA =>
 h A ⟨hA.view.sub fun x hx=>hp.symm.subset hx,(zS hp).nodup_iff.1 hA.nd,fun i hi=>hA.own i ((zS hp).symm.subset hi),hA.kept,hA.len⟩
theorem TK.virt (d:Nat) (e:TypeId) (size:Nat) {x:Option Addr} (hx:env[d]? =some (.v (.slice x 0 0))) (h:∀ j,j∉keys K->TK Y ds k (env.set d (.row j 0)) ((j,.row [] e size)::K)):TK Y ds k env K:=fun A hA φ H ts h1 h2 h3 h4 h5 h6=>by
 have hk:A.length∉keys K:=fun hm=>absurd (hA.view.lt hm) (Nat.lt_irrefl _);have hH:=h5.virt e size;have hag:=yr φ A.length ⟨0,0,0⟩;have hlen:(A++[AObj.row [] e size]).length=A.length+1:=by simp
 have hds:dsC (upd3 φ A.length ⟨0,0,0⟩) ds=dsC φ ds:=by
  unfold dsC;exact List.map_congr_left fun d hd'=>by rw [hag d (h4 d hd')]
 rw [<- hds];refine h _ hk _ (hA.step (.push hA.view hA.nd _)) _ H ts (h1.trans hag h2) oQ (h3.mono hag oQ) (fun d hd=>by have:=h4 d hd; omega) hH ?_;have hE:=h6.mono (n':=(A++[AObj.row [] e size]).length) hag oQ;refine ⟨by simp [hE.1],fun j u y hu hy=>?_⟩;rw [List.getElem?_set] at hu;split at hu
 ·rename_i e;subst e;split at hu
  ·cases hu;have hr:=h6.2 d _ y hx hy;rw [inv_v hr];refine .row oQ sQ ?_;unfold rowV;simp [upd3]
  ·cases hu
 ·exact hE.2 j u y hu hy
def zq (P:Program) (T:Goroutine->Hp->Prop) (gm:Nat->Option Nat) (g:FuncId) (args:List AV) (K:KV) (Post:AV->KV->Prop):Prop :=
 ∀ A,zQ K A->(keys K).Nodup->CallT P T gm g args A fun r A'=>∃ K',Kstep K A K' A'/\Post r K'
theorem zq.mono {g:FuncId} {args:List AV} {Post Post':AV->KV->Prop} (h:zq P T gm g args K Post) (hp:∀ r K',Post r K'->Post' r K'):zq P T gm g args K Post' :=
 fun A hv hn=>(h A hv hn).mono fun r A' ⟨K',h1,h2⟩=>⟨K',h1,hp r K' h2⟩
theorem TK.leave {j:Option Code} (hl:Leave j k) (h:∀ A,Kn Y K A->Y.X.L j ds env A):TK Y ds k env K:=fun A hA=>TA.leave hl (h A hA)
theorem TK.call {fo:Operand} {ars:Array Operand} {at_:Array TypeId} {g:FuncId} {fs cp args:List AV} {Kf R:KV} {Post:AV->KV->Prop} (ho:ops[i]? =some o) (hop:o.op=.call { callee:=.value fo,args:=ars,argTypes:=at_ })
  (hw:zO ops env o=some true) (hf:zL gm env fo=.fn g fs cp) (hg:yk P g=true) (hargs:fs++ars.toList.map (zL gm env)++cp=args) (hc:zq P T gm g args Kf Post) (hs:Split K Kf R)
  (h:∀ r K',Post r K'->TK Y ds (.inRegion ops rest::k) (zR env o.dst r) (K'++R)):TK Y ds (.inRegion ops (i::rest)::k) env K:=fun A hA=>by
 have hp:=hs.perm;have hv:zQ Kf A:=hA.view.sub fun x hx=>hp.symm.subset (by simp [hx]);have hnd:=(zS hp).nodup_iff.1 hA.nd;rw [yc] at hnd;have hnd':=List.nodup_append.1 hnd;refine TA.call ho hop hw hf hg hargs (hc A hv hnd'.1) fun r A' ⟨K',hk,hpost⟩=>h r K' hpost A' (hA.step ?_);have hR:zQ R A:=hA.view.sub fun x hx=>hp.symm.subset (by simp [hx]);have hRl:∀ x∈R,x.1<A.length/\x.1∉keys Kf:=fun x hx=>⟨hR.lt (yD hx),fun hm=>hnd'.2.2 x.1 hm x.1 (yD hx) rfl⟩;refine ⟨fun x hx=>?_,?_,fun j hj=>?_,fun j hj hn=>?_,hk.len⟩
 ·rcases List.mem_append.1 hx with hx | hx
  ·exact hk.view x hx
  ·rw [hk.kept _ (hRl x hx).1 (hRl x hx).2]; exact hR x hx
 ·rw [yc];refine List.nodup_append.2 ⟨hk.nd,hnd'.2.1,fun a ha b hb e=>?_⟩;subst e;obtain ⟨x,hx,rfl⟩:=List.mem_map.1 hb;rcases hk.own _ ha with h1 | h1
  ·exact (hRl x hx).2 h1
  ·have:=(hRl x hx).1; omega
 ·rw [yc] at hj;rcases List.mem_append.1 hj with hj | hj
  ·rcases hk.own j hj with h1 | h1
   ·exact .inl ((zS hp).symm.subset (by rw [yc]; exact List.mem_append_left _ h1))
   ·exact .inr h1
  ·exact .inl ((zS hp).symm.subset (by rw [yc]; exact List.mem_append_right _ hj))
 ·exact hk.kept j hj fun hm=>hn ((zS hp).symm.subset (by rw [yc]; exact List.mem_append_left _ hm))
theorem TK.loopN {c:Code} (I:Nat->List AV->KV->Prop) (n:Nat) (h0:I n env K)
  (round:∀ n env K,I n env K->(∀ n' env' K',n'<n->I n' env' K'->TK Y ds (.inLoop c::k) env' K')->TK Y ds (.code c::.inLoop c::k) env K):TK Y ds (.code (.loop c)::k) env K:=by
 have key:∀ n env K,I n env K->TK Y ds (.code c::.inLoop c::k) env K:=by
  intro n
  induction n using Nat.strongRecOn with
  | _ n ih =>
   intro env K hI;exact round n env K hI fun n' env' K' hlt hI'=>TK.inLoop (ih n' hlt env' K' hI')
 exact fun A hA=>TA.loop (key n env K h0 A hA)
end
def edgesOf (m:Region.Mode) (ops:Array Oper) (i:Nat):List Nat:=match ops[i]? with
 | some o=>o.after.toList.filterMap fun e=>if Region.binds m e then some e.on else none
 | none=>[]
theorem zhu {m:Region.Mode} {ops:Array Oper} {i j:Nat} (h:j∈edgesOf .any ops i):j∈edgesOf m ops i:=by
 unfold edgesOf at h ⊢;split at h
 ·rename_i o e;simp only [List.mem_filterMap] at h ⊢;obtain ⟨e',h1,h2⟩:=h;refine ⟨e',h1,?_⟩;have:Region.binds m e'=true:=by
   unfold Region.binds at h2 ⊢;cases hg:e'.ground <;> rw [hg] at h2 <;> first | rfl | (simp at h2; done) | (exact absurd h2 (by simp [show (Region.Mode.any==Region.Mode.text)=false from rfl,show (Region.Mode.any==Region.Mode.gc)=false from rfl]))
  rw [if_pos this];split at h2
  ·exact h2
  ·cases h2
 ·cases h
def Resp (ops:Array Oper):List Nat->Prop
 | []=>True
 | i::q=>(∀ j∈edgesOf .any ops i,j∉i::q)/\Resp ops q
def topo (m:Region.Mode) (ops:Array Oper):List Nat->List Nat->Bool
 | seen,[]=>(List.range ops.size).all fun i=>seen.elem i
 | seen,i::q=>(edgesOf m ops i).all (fun j=>seen.elem j)&&decide (i<ops.size)&&topo m ops (i::seen) q
theorem zhe {m:Region.Mode} {ops:Array Oper} (listed:Nat->Prop) [DecidablePred listed]:∀ (ρ seen:List Nat),topo m ops seen ρ=true->(∀ i∈seen,listed i)->(∀ i,i<ops.size->listed i)\/∃ i,i<ops.size/\¬ listed i/\∀ j∈edgesOf m ops i,listed j:=by
 intro ρ
 induction ρ with
 | nil =>
  intro seen h hs;left;intro i hi;simp only [topo,List.all_eq_true,List.mem_range] at h;exact hs i (by simpa using h i hi)
 | cons i q ih =>
  intro seen h hs;simp only [topo,Bool.and_eq_true,List.all_eq_true,decide_eq_true_eq] at h;by_cases hl:listed i
  ·exact ih (i::seen) h.2 fun j hj=>by
    rcases List.mem_cons.1 hj with rfl | hj
    ·exact hl
    ·exact hs j hj
  ·exact .inr ⟨i,h.1.2,hl,fun j hj=>hs j (by simpa using h.1.1 j hj)⟩
theorem zdi:∀ (n:Nat) (l:List Nat),l.Nodup->(∀ i∈l,i<n)->l.length<=n
 | 0,l,_,h=>by
  cases l with
  | nil=>simp
  | cons a l=>exact absurd (h a sQ) oQ
 | n+1,l,hn,h=>by
  have h1:=zdi n (l.erase n) (hn.erase n) fun i hi=>by
   have:=(hn.mem_erase_iff).1 hi;have:=h i this.2;omega
  have h2:=List.length_erase (a:=n) (l:=l);split at h2 <;> omega
theorem zdh:∀ (n:Nat) (l:List Nat),l.Nodup->(∀ i∈l,i<n)->n<=l.length->∀ i,i<n->i∈l
 | 0,_,_,_,_,i,hi=>absurd hi oQ
 | n+1,l,hn,h,hl,i,hi=>by
  have hm:n∈l:=by
   apply Classical.byContradiction;intro hnm;have:=zdi n l hn fun i hi=>by
    have:=h i hi;have:i≠n:=fun e=>hnm (e ▸ hi);omega
   omega
  by_cases e:i=n
  ·rw [e]; exact hm
  ·refine List.mem_of_mem_erase (zdh n (l.erase n) (hn.erase n) (fun i hi=>?_) ?_ i oQ)
   ·have:=(hn.mem_erase_iff).1 hi;have:=h i this.2;omega
   ·rw [List.length_erase_of_mem hm]; omega
theorem zl8 {m:Region.Mode} {ops:Array Oper} {ρ:List Nat} (hρ:topo m ops [] ρ=true):∀ (fuel t:Nat) (listed:Array Bool) (acc:List Nat),listed.size=ops.size->(∀ i,i<ops.size->(listed.getD i true=true↔i∈acc))->(∀ i∈acc,i<ops.size)->acc.Nodup ->
  ops.size<=fuel+acc.length->∃ q,Region.linearise.go m ops fuel t listed acc=acc.reverse++q/\q.Nodup/\(∀ i∈q,i<ops.size/\i∉acc)/\Resp ops q/\∀ i,i<ops.size->i∈acc\/i∈q:=by
 intro fuel
 induction fuel with
 | zero =>
  intro t listed acc hs hl hb hn hf;refine ⟨[],by simp [Region.linearise.go],by simp,by simp,trivial,fun i hi=>.inl ?_⟩;exact zdh ops.size acc hn hb oQ i hi
 | succ fuel ih =>
  intro t listed acc hs hl hb hn hf;unfold Region.linearise.go;dsimp only;generalize hrs:((List.range ops.size).filter fun i => !listed.getD i true&&((ops[i]?).map (·.after.all fun e => !Region.binds m e||listed.getD e.on false)).getD false)=rs;have hmem:∀ i,i∈rs↔i<ops.size/\i∉acc/\∀ j∈edgesOf m ops i,j<ops.size/\j∈acc:=by
   intro i;rw [<- hrs,List.mem_filter,List.mem_range];constructor
   ·rintro ⟨h1,h2⟩;simp only [Bool.and_eq_true,Bool.not_eq_true'] at h2;refine ⟨h1,fun hm=>?_,fun j hj=>?_⟩
    ·rw [(hl i h1).2 hm] at h2; exact absurd h2.1 sQ
    ·unfold edgesOf at hj;rw [Array.getElem?_eq_getElem h1] at hj h2;simp only [List.mem_filterMap] at hj;obtain ⟨e,he,h3⟩:=hj;split at h3
     ·rename_i hbd;cases h3;have h4:=h2.2;simp only [Option.map_some,Option.getD_some,Array.all_eq_true_iff_forall_mem] at h4;have h5:=h4 e (by simpa using he);rw [hbd] at h5;simp only [Bool.not_true,Bool.false_or] at h5;by_cases hlt:e.on<ops.size
      ·refine ⟨hlt,(hl e.on hlt).1 ?_⟩;rw [Array.getD_eq_getD_getElem?] at h5 ⊢;rw [Array.getElem?_eq_getElem (by rw [hs]; exact hlt)] at h5 ⊢;exact h5
      ·rw [Array.getD_eq_getD_getElem?,Array.getElem?_eq_none (by rw [hs]; omega)] at h5;cases h5
     ·cases h3
   ·rintro ⟨h1,h2,h3⟩;refine ⟨h1,?_⟩;simp only [Bool.and_eq_true,Bool.not_eq_true'];refine ⟨?_,?_⟩
    ·cases e:listed.getD i true with
     | false=>rfl
     | true=>exact absurd ((hl i h1).1 e) h2
    ·rw [Array.getElem?_eq_getElem h1];simp only [Option.map_some,Option.getD_some,Array.all_eq_true_iff_forall_mem];intro e he;cases hbd:Region.binds m e with
     | false=>rfl
     | true =>
      simp only [Bool.not_true,Bool.false_or];obtain ⟨h4,h5⟩:=h3 e.on (by
       unfold edgesOf;rw [Array.getElem?_eq_getElem h1];simp only [List.mem_filterMap];exact ⟨e,by simpa using he,by rw [if_pos hbd]⟩)
      have:=(hl e.on h4).2 h5;rw [Array.getD_eq_getD_getElem?] at this ⊢;rw [Array.getElem?_eq_getElem (by rw [hs]; exact h4)] at this ⊢;exact this
  cases hpick:rs[t % rs.length]? with
  | none =>
   dsimp only;have hnil:rs=[]:=by
    cases rs with
    | nil=>rfl
    | cons a l =>
     exfalso;have:t % (a::l).length<(a::l).length:=Nat.mod_lt _ sQ;rw [List.getElem?_eq_getElem this] at hpick;cases hpick
   refine ⟨[],by simp,by simp,by simp,trivial,fun i hi=>.inl ?_⟩;rcases zhe (m:=m) (ops:=ops) (fun i=>i∈acc) ρ [] hρ sQ with h | ⟨i',h1,h2,h3⟩
   ·exact h i hi
   ·exfalso;have:i'∈rs:=(hmem i').2 ⟨h1,h2,fun j hj=>⟨hb j (h3 j hj),h3 j hj⟩⟩;rw [hnil] at this;cases this
  | some i =>
   dsimp only;have hi:=(hmem i).1 (List.mem_of_getElem? hpick);obtain ⟨q,h1,h2,h3,h4,h5⟩:=ih (t / rs.length) (listed.setIfInBounds i true) (i::acc) (by simp [hs]) (fun j hj=>by
    rw [Array.getD_eq_getD_getElem?,Array.getElem?_setIfInBounds];by_cases hij:i=j
    ·subst hij;simp [hs,hj]
    ·rw [if_neg hij,<- Array.getD_eq_getD_getElem?,hl j hj];simp [Ne.symm hij]) (fun j hj=>by
    rcases List.mem_cons.1 hj with rfl | hj
    ·exact hi.1
    ·exact hb j hj) (List.nodup_cons.2 ⟨hi.2.1,hn⟩) (by simp; omega)
   refine ⟨i::q,by rw [h1]; simp,List.nodup_cons.2 ⟨fun hm=>(h3 i hm).2 sQ,h2⟩,fun j hj=>?_,⟨fun j hj=>?_,h4⟩,fun j hj=>?_⟩
   ·rcases List.mem_cons.1 hj with rfl | hj
    ·exact ⟨hi.1,hi.2.1⟩
    ·exact ⟨(h3 j hj).1,fun hm=>(h3 j hj).2 (by simp [hm])⟩
   ·have:=(hi.2.2 j (zhu hj)).2;intro hm;rcases List.mem_cons.1 hm with rfl | hm
    ·exact hi.2.1 this
    ·exact (h3 j hm).2 (by simp [this])
   ·rcases h5 j hj with h6 | h6
    ·rcases List.mem_cons.1 h6 with rfl | h6
     ·exact .inr sQ
     ·exact .inl h6
    ·exact .inr (by simp [h6])
theorem zb4 {m:Region.Mode} {ops:Array Oper} {ρ:List Nat} (hρ:topo m ops [] ρ=true) (t:Nat):(Region.linearise m ops t).Nodup/\Resp ops (Region.linearise m ops t)/\∀ i,i∈Region.linearise m ops t↔i<ops.size:=by
 obtain ⟨q,h1,h2,h3,h4,h5⟩:=zl8 hρ ops.size t (Array.replicate ops.size false) [] sQ (fun i hi=>by
  rw [Array.getD_eq_getD_getElem?,Array.getElem?_replicate,if_pos hi];simp) sQ sQ sQ
 have e:Region.linearise m ops t=q:=by
  unfold Region.linearise;rw [h1];simp
 rw [e];exact ⟨h2,h4,fun i=>⟨fun hi=>(h3 i hi).1,fun hi=>(h5 i hi).resolve_left sQ⟩⟩
def drawnOk (ops:Array Oper) (ρt ρg:List Nat):Bool:=if Region.departs ops then topo .text ops [] ρt&&topo .gc ops [] ρg&&topo .any ops [] ρt else topo .any ops [] ρt
theorem zj8 {ops:Array Oper} {ρt ρg:List Nat} (h:drawnOk ops ρt ρg=true) (mixed:Bool) (t:Nat):(Region.schedule mixed ops t).Nodup/\Resp ops (Region.schedule mixed ops t)/\∀ i,i∈Region.schedule mixed ops t↔i<ops.size:=by
 unfold drawnOk at h;unfold Region.schedule;cases hd:Region.departs ops with
 | false =>
  rw [hd] at h;simp only [Bool.not_false,Bool.or_true,if_true];exact zb4 (by simpa using h) t
 | true =>
  rw [hd] at h;simp only [if_true,Bool.and_eq_true] at h;cases mixed with
  | true=>exact zb4 h.2 t
  | false =>
   simp only [Bool.not_true,Bool.or_self,Bool.false_eq_true,if_false];split
   ·exact zb4 h.1.1 _
   ·exact zb4 h.1.2 _
section
variable {P:Program} {gm:Nat->Option Nat} {T:Goroutine->Hp->Prop}
def Ex (X:Cx P gm T) (env:List AV) (A:List AObj) (o:Oper) (Q:AV->List AObj->Prop):Prop :=
 ∀ (ops:Array Oper) (i:Nat) (rest:List Nat) (k:List Item) (ds:List Deferred) (φ:Nat->Loc3) (H:Hp) (ts:Array Value),ops[i]? =some o->Region.wanted o (yielded ops ts)=true->RelG gm φ A.length->RelH φ A X.F H->zM φ A.length env ts ->
  (∀ r A' φ' H' v,Q r A'->Agr φ φ' A.length->A.length<=A'.length->RelH φ' A' X.F H'->RelV φ' A'.length r v->T (G (fr X.kd X.f X.ro (putT ts o.dst v) ds (.inRegion ops rest::k)) X.cs) H')->T (G (fr X.kd X.f X.ro ts ds (.inRegion ops (i::rest)::k)) X.cs) H
theorem ex_op {X:Cx P gm T} {env:List AV} {A A':List AObj} {o:Oper} {r:AV} (hd:yf o.op=false) (hok:OpOk P gm env A o r A'):Ex X env A o fun r1 A1=>r1=r/\A1=A':=fun ops i rest k ds φ H ts ho hw h3 h5 h6 hq=>by
 refine X.hT.opF X.hkd ho hw hd (zaf _ _ _ _ ?_ (hok φ X.F H ⟨ts,[]⟩ h3 h5 h6));rintro nx H' ⟨v,φ',hnx,hA,hlen,hH',hr⟩;have:=hq r A' φ' H' v ⟨rfl,rfl⟩ hA hlen hH' hr;rcases hnx with rfl | ⟨rfl,rfl⟩ <;> exact this
theorem zkR {X:Cx P gm T} {env:List AV} {A:List AObj} {o:Oper} {fo:Operand} {ars:Array Operand} {at_:Array TypeId} {g:FuncId} {fs cp:List AV} {args:List AV} {Post:AV->List AObj->Prop} (hop:o.op=.call { callee:=.value fo,args:=ars,argTypes:=at_ })
  (hf:zL gm env fo=.fn g fs cp) (hg:yk P g=true) (hargs:fs++ars.toList.map (zL gm env)++cp=args) (hc:CallT P T gm g args A Post):Ex X env A o Post:=fun ops i rest k ds φ H ts ho hw h3 h5 h6 hq=>by
 refine X.hT.opF X.hkd ho hw (by rw [hop]; rfl) ?_;have hfo:=zD (a:=⟨ts,[]⟩) h3 h6 fo;rw [hf] at hfo;obtain ⟨xs,ys,e,hr1,hr2⟩:=vR hfo;unfold execOp;rw [hop];dsimp only;refine ze _ _ _ ?_;show wpS P (Deferred.ofValue (Act.eval ⟨ts,[]⟩ fo) (ars.map (evT ts))) H _;rw [e];show wpS P (callFunc g ((xs++ars.map (evT ts))++ys)) H _;refine kO hg _ ?_;show T (G (Frame.enter P g _ .normal) (_::X.cs)) H;have hrel:zM φ A.length args ((xs++ars.map (evT ts))++ys):=by
  rw [<- hargs];exact kT (kT hr1 (kU (a:=⟨ts,[]⟩) h3 h6 ars)) hr2
 refine hc φ X.F H _ _ _ X.hF0 h3 h5 hrel fun r A' φ' H' v hp hA hlen hH' hr=>?_;have hfin:=kb X.kd X.f X.ro ts ds ops i rest k v;simp only [ho,Option.bind_some] at hfin;rw [hfin];exact hq r A' φ' H' v hp hA hlen hH' hr
def ExK (Y:KX P gm T) (env:List AV) (K:KV) (o:Oper) (Q:AV->KV->Prop):Prop:=∀ A,Kn Y K A->Ex Y.X env A o fun r A'=>∃ K',Kstep K A K' A'/\Q r K'
theorem Ex.mono {X:Cx P gm T} {env:List AV} {A:List AObj} {o:Oper} {Q Q':AV->List AObj->Prop} (h:Ex X env A o Q) (hq:∀ r A',Q r A'->Q' r A'):Ex X env A o Q' :=
 fun ops i rest k ds φ H ts h1 h2 h3 h4 h5 h6=>h ops i rest k ds φ H ts h1 h2 h3 h4 h5 fun r A' φ' H' v hp=>h6 r A' φ' H' v (hq r A' hp)
variable {Y:KX P gm T} {ds:List Nat} {k:List Item} {env env':List AV} {K K':KV} {ops:Array Oper} {i:Nat} {rest:List Nat} {o:Oper} {r:AV}
theorem wP (hd:yf o.op=false) {Q:AV->KV->Prop} (h:OpK P gm env K o Q):ExK Y env K o Q:=fun A hA=>by
 obtain ⟨r,A',K',h1,h2,h3⟩:=h A hA.view hA.nd;exact (ex_op hd h1).mono fun r1 A1 ⟨e1,e2⟩=>⟨K',e2 ▸ h2,e1 ▸ h3⟩
theorem zbw {fo:Operand} {ars:Array Operand} {at_:Array TypeId} {g:FuncId} {fs cp args:List AV} {Kf R:KV} {Post:AV->KV->Prop} (hop:o.op=.call { callee:=.value fo,args:=ars,argTypes:=at_ })
  (hf:zL gm env fo=.fn g fs cp) (hg:yk P g=true) (hargs:fs++ars.toList.map (zL gm env)++cp=args) (hc:zq P T gm g args Kf Post) (hs:Split K Kf R) {Q:AV->KV->Prop} (hq:∀ r K',Post r K'->Q r (K'++R)):ExK Y env K o Q:=fun A hA=>by
 have hp:=hs.perm;have hv:zQ Kf A:=hA.view.sub fun x hx=>hp.symm.subset (by simp [hx]);have hnd:=(zS hp).nodup_iff.1 hA.nd;rw [yc] at hnd;have hnd':=List.nodup_append.1 hnd;refine (zkR hop hf hg hargs (hc A hv hnd'.1)).mono fun r A' ⟨K',hk,hpost⟩=>⟨K'++R,?_,hq r K' hpost⟩;have hR:zQ R A:=hA.view.sub fun x hx=>hp.symm.subset (by simp [hx]);have hRl:∀ x∈R,x.1<A.length/\x.1∉keys Kf:=fun x hx=>⟨hR.lt (yD hx),fun hm=>hnd'.2.2 x.1 hm x.1 (yD hx) rfl⟩;refine ⟨fun x hx=>?_,?_,fun j hj=>?_,fun j hj hn=>?_,hk.len⟩
 ·rcases List.mem_append.1 hx with hx | hx
  ·exact hk.view x hx
  ·rw [hk.kept _ (hRl x hx).1 (hRl x hx).2]; exact hR x hx
 ·rw [yc];refine List.nodup_append.2 ⟨hk.nd,hnd'.2.1,fun a ha b hb e=>?_⟩;subst e;obtain ⟨x,hx,rfl⟩:=List.mem_map.1 hb;rcases hk.own _ ha with h1 | h1
  ·exact (hRl x hx).2 h1
  ·have:=(hRl x hx).1; omega
 ·rw [yc] at hj;rcases List.mem_append.1 hj with hj | hj
  ·rcases hk.own j hj with h1 | h1
   ·exact .inl ((zS hp).symm.subset (by rw [yc]; exact List.mem_append_left _ h1))
   ·exact .inr h1
  ·exact .inl ((zS hp).symm.subset (by rw [yc]; exact List.mem_append_right _ hj))
 ·exact hk.kept j hj fun hm=>hn ((zS hp).symm.subset (by rw [yc]; exact List.mem_append_left _ hm))
theorem TK.ex (ho:ops[i]? =some o) (hw:zO ops env o=some true) (h:ExK Y env K o fun r K'=>TK Y ds (.inRegion ops rest::k) (zR env o.dst r) K'):TK Y ds (.inRegion ops (i::rest)::k) env K:=fun A hA φ H ts h1 h2 h3 h4 h5 h6=>by
 refine h A hA ops i rest k (dsC φ ds++Y.X.dd) φ H ts ho (zP h6 hw) h3 h5 h6 fun r A' φ' H' v ⟨K',hk,hq⟩ hA' hlen hH' hr=>?_;have hE:=yB (a:=⟨ts,[]⟩) (h6.mono hA' hlen) hr o.dst;have hds:dsC φ' ds=dsC φ ds:=by
  unfold dsC;exact List.map_congr_left fun d hd'=>by rw [hA' d (h4 d hd')]
 have:=hq A' (hA.step hk) φ' H' _ (h1.trans hA' h2) oQ (h3.mono hA' hlen) (fun d hd'=>Nat.lt_of_lt_of_le (h4 d hd') hlen) hH' hE;rw [hds] at this;exact this
def only (s:List Nat):Nat->List AV->List AV
 | _,[]=>[]
 | j,a::l=>(if s.elem j then a else .any)::only s (j+1) l
def onl (s:List Nat) (env:List AV):List AV:=only s 0 env
theorem zeC (s:List Nat):∀ (l:List AV) (j:Nat),(only s j l).length=l.length
 | [],_=>rfl
 | a::l,j=>by simp [only,zeC s l]
theorem zeB (s:List Nat):∀ (l:List AV) (j t:Nat) a,(only s j l)[t]? =some a->a=.any\/(s.elem (j+t)=true/\l[t]? =some a)
 | [],j,t,a,h=>by simp [only] at h
 | b::l,j,0,a,h=>by
  simp only [only,List.getElem?_cons_zero,Option.some.injEq] at h;split at h
  ·rename_i e; exact .inr ⟨e,by simp [h]⟩
  ·exact .inl h.symm
 | b::l,j,t+1,a,h=>by
  rw [only,List.getElem?_cons_succ] at h;rcases zeB s l (j+1) t a h with h1 | ⟨h1,h2⟩
  ·exact .inl h1
  ·exact .inr ⟨by rw [show j+(t+1)=j+1+t by omega]; exact h1,by simpa using h2⟩
theorem zjX (s:List Nat) (d:Nat) (r:AV):∀ (l:List AV) (j:Nat),s.elem (j+d)=false->(s.elem (j+d)=false)->only s j (l.set d r)=only s j l:=by
 induction d with
 | zero =>
  intro l j h _;cases l with
  | nil=>rfl
  | cons a l =>
   simp only [List.set_cons_zero,only];rw [Nat.add_zero] at h;rw [h]; rfl
 | succ d ih =>
  intro l j h _;cases l with
  | nil=>rfl
  | cons a l =>
   simp only [List.set_cons_succ,only];have h':s.elem (j+1+d)=false:=by rw [show j+1+d=j+(d+1) by omega]; exact h
   rw [ih l (j+1) h' h']
theorem zf6 {s:List Nat} {d:Nat} {r:AV} {env:List AV} (h:s.elem d=false):onl s (env.set d r)=onl s env:=zjX s d r env 0 (by rwa [Nat.zero_add]) (by rwa [Nat.zero_add])
structure Pd where
 i:Nat
 s:List Nat
 V:KV
def dstOf (ops:Array Oper) (i:Nat):Option Nat:=(ops[i]?).bind (·.dst)
def slotv (env:List AV):Option Nat->AV | some d=>env.getD d .any | none=>.any
def QS (P:Program) (gm:Nat->Option Nat) (ops:Array Oper) (env:List AV) (A:List AObj) (o:Oper) (r:AV):Prop :=
 (zO ops env o=some true/\yf o.op=false/\OpOk P gm env A o r A)\/(zO ops env o=some false/\r=.v undef)
def Jq (P:Program) (gm:Nat->Option Nat) (ops:Array Oper) (env:List AV) (p:Pd):Prop :=
 ∃ o r,ops[p.i]? =some o/\(∀ d,o.dst=some d->env[d]? =some r)/\∀ A,zQ p.V A->QS P gm ops (onl p.s env) A o r
def asgAt (ops:Array Oper) (j:Nat):Bool:=match ops[j]? with
 | some o=>match o.op with
  | .assign _=>true
  | _=>false
 | none=>false
def rawOk (ops:Array Oper) (i:Nat) (s:List Nat):Bool:=(List.range ops.size).all fun j=>match dstOf ops j with
 | some d => !(s.elem d)||(edgesOf .any ops i).elem j||asgAt ops j
 | none=>true
def rawP (ops:Array Oper) (i:Nat) (s:List Nat):Bool:=rawOk ops i s && !asgAt ops i
theorem zlw {ops:Array Oper} {i:Nat} {s:List Nat} (h:rawP ops i s=true):rawOk ops i s=true:=by
 unfold rawP at h; simp only [Bool.and_eq_true] at h; exact h.1
theorem zj3 {ops:Array Oper} {i:Nat} {s:List Nat} (h:rawP ops i s=true):asgAt ops i=false:=by
 unfold rawP at h; simp only [Bool.and_eq_true,Bool.not_eq_true'] at h; exact h.2
def Hid (ops:Array Oper) (pend:List Pd) (σ:List Nat) (j:Nat):Prop:=∃ p∈pend,p.i∈σ/\dstOf ops p.i=some j
def RelHid (φ:Nat->Loc3) (n:Nat) (hid:Nat->Prop) (env:List AV) (ts:Array Value):Prop:=env.length=ts.size/\∀ j a y,env[j]? =some a->ts[j]? =some y->¬ hid j->RelV φ n a y
def TD (Y:KX P gm T) (ds:List Nat) (ops:Array Oper) (k:List Item) (pend:List Pd) (L:List Nat) (env:List AV) (K:KV):Prop :=
 (∀ p∈pend,Jq P gm ops env p)->(∀ p∈pend,rawP ops p.i p.s=true)->(∀ p∈pend,∀ x∈p.V,x∈K)->∀ A,Kn Y K A->∀ σ:List Nat,σ.Nodup->Resp ops σ->(∀ j∈σ,j<ops.size)->(∀ j∈L,j∈σ)->(∀ j∈σ,j∈L\/∃ p∈pend,p.i=j) ->
  ∀ (φ:Nat->Loc3) (H:Hp) (ts:Array Value),Agr Y.X.φ0 φ Y.X.n0->Y.X.n0<=A.length->RelG gm φ A.length->(∀ d∈ds,d<A.length)->RelH φ A Y.X.F H->RelHid φ A.length (Hid ops pend σ) env ts->T (G (fr Y.X.kd Y.X.f Y.X.ro ts (dsC φ ds++Y.X.dd) (.inRegion ops σ::k)) Y.X.cs) H
theorem zcI {φ:Nat->Loc3} {n:Nat} {pend:List Pd} {σ:List Nat} {c:Nat} {s:List Nat} {ts:Array Value} (hsz:∀ j∈c::σ,j<ops.size) (hresp:Resp ops (c::σ)) (hraw:rawOk ops c s=true) (hraws:∀ p∈pend,rawP ops p.i p.s=true) (h:RelHid φ n (Hid ops pend (c::σ)) env ts):zM φ n (onl s env) ts:=by
 refine ⟨by rw [onl,zeC]; exact h.1,fun j a y ha hy=>?_⟩;rcases zeB s env 0 j a ha with rfl | ⟨h1,h2⟩
 ·exact .any _
 ·refine h.2 j a y h2 hy fun ⟨p,hp,hpm,hd⟩=>?_;rw [Nat.zero_add] at h1;have:=List.all_eq_true.1 hraw p.i (List.mem_range.2 (hsz _ hpm));rw [hd] at this;simp only [h1,Bool.not_true,Bool.false_or,zj3 (hraws p hp),Bool.or_false] at this;exact hresp.1 p.i (by simpa using this) hpm
theorem za8 {pend:List Pd} {A:List AObj} {c:Nat} {σ:List Nat} {p:Pd} (hp:p∈pend) (hc:p.i=c) (hj:Jq P gm ops env p) (hraws:∀ p∈pend,rawP ops p.i p.s=true) (hv:∀ x∈p.V,x∈K) (hA:Kn Y K A) (hnd:(c::σ).Nodup) (hsz:∀ j∈c::σ,j<ops.size) (hresp:Resp ops (c::σ))
  {φ:Nat->Loc3} {H:Hp} {ts:Array Value} (h1:Agr Y.X.φ0 φ Y.X.n0) (h2:Y.X.n0<=A.length) (h3:RelG gm φ A.length) (h4:∀ d∈ds,d<A.length) (h5:RelH φ A Y.X.F H) (h6:RelHid φ A.length (Hid ops pend (c::σ)) env ts)
  (hq:∀ (φ:Nat->Loc3) (H:Hp) (ts:Array Value),Agr Y.X.φ0 φ Y.X.n0->RelG gm φ A.length->RelH φ A Y.X.F H->RelHid φ A.length (Hid ops pend σ) env ts->T (G (fr Y.X.kd Y.X.f Y.X.ro ts (dsC φ ds++Y.X.dd) (.inRegion ops σ::k)) Y.X.cs) H) :
  T (G (fr Y.X.kd Y.X.f Y.X.ro ts (dsC φ ds++Y.X.dd) (.inRegion ops (c::σ)::k)) Y.X.cs) H:=by
 obtain ⟨o,r,ho,hd,hqs⟩:=hj;rw [hc] at ho;have hrel:=zcI hsz hresp (hc ▸ zlw (hraws p hp)) hraws h6;have hput:∀ (φ':Nat->Loc3) (v:Value),Agr φ φ' A.length->RelV φ' A.length r v->RelHid φ' A.length (Hid ops pend σ) env (putT ts o.dst v):=fun φ' v hA' hr=>by
  refine ⟨?_,fun j a y ha hy hnh=>?_⟩
  ·rw [h6.1]; cases o.dst <;> simp [putT,Act.put]
  ·cases hdst:o.dst with
   | none =>
    rw [hdst] at hy;refine (h6.2 j a y ha hy fun ⟨q,hq1,hq2,hq3⟩=>?_).mono hA' (Nat.le_refl _);rcases List.mem_cons.1 hq2 with e | hq2
    ·rw [e] at hq3; simp [dstOf,ho,hdst] at hq3
    ·exact hnh ⟨q,hq1,hq2,hq3⟩
   | some d =>
    rw [hdst] at hy;by_cases hjd:d=j
    ·subst hjd;have:=hd d hdst;rw [this] at ha;cases ha;have hlt:d<ts.size:=by rw [<- h6.1]; exact (List.getElem?_eq_some_iff.1 this).1
     simp only [putT,Act.put] at hy;rw [Array.getElem?_setIfInBounds_self_of_lt hlt] at hy;cases hy;exact hr
    ·simp only [putT,Act.put] at hy;rw [Array.getElem?_setIfInBounds_ne hjd] at hy;refine (h6.2 j a y ha hy fun ⟨q,hq1,hq2,hq3⟩=>?_).mono hA' (Nat.le_refl _);rcases List.mem_cons.1 hq2 with e | hq2
     ·rw [e] at hq3; simp [dstOf,ho,hdst] at hq3; exact hjd hq3
     ·exact hnh ⟨q,hq1,hq2,hq3⟩
 rcases hqs A (hA.view.sub hv) with ⟨hw,hdf,hok⟩ | ⟨hw,hr⟩
 ·refine ex_op (X:=Y.X) hdf hok ops c σ k (dsC φ ds++Y.X.dd) φ H ts ho (zP hrel hw) h3 h5 hrel fun r1 A1 φ' H' v ⟨e1,e2⟩ hA' hlen hH' hr=>?_;subst e1 e2;have hds:dsC φ' ds=dsC φ ds:=by
   unfold dsC;exact List.map_congr_left fun d hd'=>by rw [hA' d (h4 d hd')]
  rw [<- hds];exact hq φ' H' _ (h1.trans hA' h2) (h3.mono hA' (Nat.le_refl _)) hH' (hput φ' v hA' hr)
 ·refine Y.X.hT.ctlF Z (fun _=>un ho (zP hrel hw)) rfl ?_;exact hq φ H _ h1 h3 h5 (hput φ undef (Agr.refl _ _) (hr ▸ .v _))
theorem TK.draw {id:Nat} (L ρg:List Nat) (hd:drawnOk ops (List.range ops.size) ρg=true) (hL:(List.range ops.size).all (fun i=>L.elem i)&&L.all (fun i=>decide (i<ops.size))=true) (h:TD Y ds ops k [] L env K):TK Y ds (.code (.region id ops true)::k) env K:=fun A hA=>by
 refine TA.draw fun t=>?_;intro φ H ts h1 h2 h3 h4 h5 h6;obtain ⟨s1,s2,s3⟩:=zj8 hd (P.follows .mixedOrders) t;simp only [Bool.and_eq_true,List.all_eq_true,List.mem_range,decide_eq_true_eq] at hL;exact h sQ sQ sQ A hA _ s1 s2 (fun j hj=>(s3 j).1 hj) (fun j hj=>(s3 j).2 (hL.2 j hj)) (fun j hj=>.inl (by simpa using hL.1 j ((s3 j).1 hj))) φ H ts h1 h2 h3 h4 h5 ⟨h6.1,fun j a y ha hy _=>h6.2 j a y ha hy⟩
theorem TD.fin {pend:List Pd} (h:TK Y ds k env K):TD Y ds ops k pend [] env K:=fun hj hraw hV A hA σ=>by
 induction σ with
 | nil =>
  intro _ _ _ _ _ φ H ts h1 h2 h3 h4 h5 h6;exact TA.regionEnd (h A hA) φ H ts h1 h2 h3 h4 h5 ⟨h6.1,fun j a y ha hy=>h6.2 j a y ha hy fun ⟨p,_,hm,_⟩=>by cases hm⟩
 | cons c σ ih =>
  intro hnd hresp hsz hL hcov φ H ts h1 h2 h3 h4 h5 h6;obtain ⟨p,hp,hc⟩:=(hcov c sQ).resolve_left sQ;exact za8 hp hc (hj p hp) hraw (hV p hp) hA hnd hsz hresp h1 h2 h3 h4 h5 h6 fun φ H ts h1 h3 h5 h6 =>
   ih (List.nodup_cons.1 hnd).2 hresp.2 (fun j hj=>hsz j (by simp [hj])) sQ (fun j hj=>hcov j (by simp [hj])) φ H ts h1 h2 h3 h4 h5 h6
def chkQ (ops:Array Oper) (pend:List Pd) (s:List Nat) (i n:Nat) (d:Option Nat):Bool:=rawP ops i s&&match d with
 | some d => !(s.elem d)&&decide (d<n)&&pend.all fun p => !(p.s.elem d)&&dstOf ops p.i !=some d
 | none=>true
theorem zel {pend:List Pd} {d:Nat} {r:AV} (hc:pend.all (fun p => !(p.s.elem d)&&dstOf ops p.i !=some d)=true) (h:∀ p∈pend,Jq P gm ops env p):∀ p∈pend,Jq P gm ops (env.set d r) p:=fun p hp=>by
 obtain ⟨o,r',ho,hd,hq⟩:=h p hp;have:=List.all_eq_true.1 hc p hp;simp only [Bool.and_eq_true,Bool.not_eq_true',bne_iff_ne,ne_eq] at this;refine ⟨o,r',ho,fun d' hd'=>?_,fun A hA=>?_⟩
 ·rw [List.getElem?_set_ne (fun e=>this.2 (by simp [dstOf,ho,hd',e]))];exact hd d' hd'
 ·rw [zf6 this.1]; exact hq A hA
theorem TD.qs {pend:List Pd} {L':List Nat} (s:List Nat) (V:KV) (ho:ops[i]? =some o) (hc:chkQ ops pend s i env.length o.dst=true) (hV:∀ x∈V,x∈K) (hq:∀ A,zQ V A->QS P gm ops (onl s env) A o r) (he:zR env o.dst r=env') (h:TD Y ds ops k (⟨i,s,V⟩::pend) L' env' K):TD Y ds ops k pend (i::L') env K:=by
 subst he;intro hj hraw hVp A hA σ hnd hresp hsz hL hcov φ H ts h1 h2 h3 h4 h5 h6;simp only [chkQ,Bool.and_eq_true] at hc;have hjn:∀ p∈(⟨i,s,V⟩::pend:List Pd),Jq P gm ops (zR env o.dst r) p:=by
  intro p hp;cases hdst:o.dst with
  | none =>
   rcases List.mem_cons.1 hp with rfl | hp
   ·exact ⟨o,r,ho,(fun d hd=>by rw [hdst] at hd; cases hd),fun A hA=>hq A hA⟩
   ·exact hj p hp
  | some d =>
   have h7:=hc.2;rw [hdst] at h7;simp only [Bool.and_eq_true,Bool.not_eq_true',decide_eq_true_eq] at h7;rcases List.mem_cons.1 hp with rfl | hp
   ·refine ⟨o,r,ho,fun d' hd'=>?_,fun A hA=>?_⟩
    ·rw [hdst] at hd'; cases hd';exact List.getElem?_set_self h7.1.2
    ·show QS P gm ops (onl s (env.set d r)) A o r;rw [zf6 h7.1.1]; exact hq A hA
   ·exact zel h7.2 hj p hp
 refine h hjn (fun p hp=>?_) (fun p hp=>?_) A hA σ hnd hresp hsz (fun j hj=>hL j (by simp [hj])) (fun j hj=>?_) φ H ts h1 h2 h3 h4 h5 ⟨?_,fun j a y ha hy hnh=>?_⟩
 ·rcases List.mem_cons.1 hp with rfl | hp
  ·exact hc.1
  ·exact hraw p hp
 ·rcases List.mem_cons.1 hp with rfl | hp
  ·exact hV
  ·exact hVp p hp
 ·rcases hcov j hj with h7 | ⟨p,hp,e⟩
  ·rcases List.mem_cons.1 h7 with rfl | h7
   ·exact .inr ⟨_,List.mem_cons_self,rfl⟩
   ·exact .inl h7
  ·exact .inr ⟨p,by simp [hp],e⟩
 ·rw [<- h6.1]; cases o.dst <;> simp [zR]
 ·have hne:o.dst≠some j:=fun e=>hnh ⟨⟨i,s,V⟩,by simp,hL i sQ,by simp [dstOf,ho,e]⟩;refine h6.2 j a y ?_ hy fun ⟨p,hp,h8,h9⟩=>hnh ⟨p,by simp [hp],h8,h9⟩;cases hdst:o.dst with
  | none=>rw [hdst] at ha; exact ha
  | some d =>
   rw [hdst] at ha;simp only [zR] at ha;rwa [List.getElem?_set_ne (fun e=>hne (by rw [hdst,e]))] at ha
theorem TD.q {pend:List Pd} {L':List Nat} (s:List Nat) (V:KV) (ho:ops[i]? =some o) (hd:yf o.op=false) (hw:zO ops (onl s env) o=some true) (hc:chkQ ops pend s i env.length o.dst=true) (hV:∀ x∈V,x∈K) (hq:∀ A,zQ V A->OpOk P gm (onl s env) A o r A) (he:zR env o.dst r=env') (h:TD Y ds ops k (⟨i,s,V⟩::pend) L' env' K):TD Y ds ops k pend (i::L') env K :=
 TD.qs s V ho hc hV (fun A hA=>.inl ⟨hw,hd,hq A hA⟩) he h
theorem TD.unwanted {pend:List Pd} {L':List Nat} (s:List Nat) (ho:ops[i]? =some o) (hw:zO ops (onl s env) o=some false) (hc:chkQ ops pend s i env.length o.dst=true) (he:zR env o.dst (.v undef)=env') (h:TD Y ds ops k (⟨i,s,[]⟩::pend) L' env' K):TD Y ds ops k pend (i::L') env K :=
 TD.qs s [] ho hc sQ (fun _ _=>.inr ⟨hw,rfl⟩) he h
def chkC (ops:Array Oper) (pend':List Pd) (L' s:List Nat) (i:Nat) (d:Option Nat):Bool:=rawOk ops i s&&L'.all (fun j=>(edgesOf .any ops j).any fun e=>e==i||L'.elem e)&&match d with
 | some d=>pend'.all fun p => !(p.s.elem d)&&dstOf ops p.i !=some d
 | none=>true
def pendOf (ops:Array Oper) (i:Nat) (pend:List Pd):List Pd:=pend.filter fun p => !((edgesOf .any ops i).elem p.i)
theorem TD.c {pend pend':List Pd} {L':List Nat} (s:List Nat) (ho:ops[i]? =some o) (hw:zO ops (onl s env) o=some true) (hp':pendOf ops i pend=pend') (hc:chkC ops pend' L' s i o.dst=true)
  (h:ExK Y (onl s env) K o fun r K'=>(∀ p∈pend',∀ x∈p.V,x∈K')/\TD Y ds ops k pend' L' (zR env o.dst r) K'):TD Y ds ops k pend (i::L') env K:=fun hj hraw hV A hA σ=>by
 subst hp';simp only [chkC,Bool.and_eq_true] at hc
 induction σ with
 | nil =>
  intro _ _ _ hL;exact absurd (hL i sQ) sQ
 | cons c σ ih =>
  intro hnd hresp hsz hL hcov φ H ts h1 h2 h3 h4 h5 h6;by_cases hci:c=i
  ·subst hci;have hrel:=zcI hsz hresp hc.1.1 hraw h6;refine h A hA ops c σ k (dsC φ ds++Y.X.dd) φ H ts ho (zP hrel hw) h3 h5 hrel fun r A' φ' H' v ⟨K',hk,hV',hq⟩ hA' hlen hH' hr=>?_;have hds:dsC φ' ds=dsC φ ds:=by
    unfold dsC;exact List.map_congr_left fun d hd'=>by rw [hA' d (h4 d hd')]
   rw [<- hds];have hnd':=List.nodup_cons.1 hnd;have hkeep:∀ p∈pend,p.i∈σ->p∈pendOf ops c pend:=fun p hp hm=>by
    refine List.mem_filter.2 ⟨hp,?_⟩;simp only [Bool.not_eq_true'];cases e:(edgesOf .any ops c).elem p.i with
    | false=>rfl
    | true=>exact absurd (List.mem_cons_of_mem _ hm) (hresp.1 p.i (by simpa using e))
   refine hq (fun p hp=>?_) (fun p hp=>hraw p (List.mem_filter.1 hp).1) hV' A' (hA.step hk) σ hnd'.2 hresp.2 (fun j hj=>hsz j (by simp [hj])) (fun j hj=>?_) (fun j hj=>?_) φ' H' _ (h1.trans hA' h2) oQ (h3.mono hA' hlen) (fun d hd'=>Nat.lt_of_lt_of_le (h4 d hd') hlen) hH' ⟨?_,fun j a y ha hy hnh=>?_⟩
   ·have hj':∀ p∈pendOf ops c pend,Jq P gm ops env p:=fun p hp=>hj p (List.mem_filter.1 hp).1;cases hdst:o.dst with
    | none=>exact hj' p hp
    | some d =>
     have h7:=hc.2;rw [hdst] at h7;exact zel h7 hj' p hp
   ·have hb:=List.all_eq_true.1 hc.1.2 j hj;have hjm:=hL j (by simp [hj]);rcases List.mem_cons.1 hjm with e | hjm
    ·exfalso;subst e;rw [List.any_eq_true] at hb;obtain ⟨e,he1,he2⟩:=hb;refine hresp.1 e he1 ?_;simp only [Bool.or_eq_true,beq_iff_eq] at he2;rcases he2 with rfl | he2
     ·simp
     ·exact hL e (by simp at he2; simp [he2])
    ·exact hjm
   ·rcases hcov j (by simp [hj]) with h7 | ⟨p,hp,e⟩
    ·rcases List.mem_cons.1 h7 with rfl | h7
     ·exact absurd hj hnd'.1
     ·exact .inl h7
    ·exact .inr ⟨p,hkeep p hp (e ▸ hj),e⟩
   ·have:(putT ts o.dst v).size=ts.size:=by cases o.dst <;> simp [putT,Act.put]
    rw [this,<- h6.1]; cases o.dst <;> simp [zR]
   ·have hback:o.dst≠some j->ts[j]? =some y->env[j]? =some a->RelV φ' A'.length a y:=fun hne hy' ha'=>by
     refine (h6.2 j a y ha' hy' fun ⟨p,hp,h8,h9⟩=>?_).mono hA' hlen;rcases List.mem_cons.1 h8 with e | h8
     ·rw [e] at h9; simp [dstOf,ho] at h9; exact hne h9
     ·exact hnh ⟨p,hkeep p hp h8,h8,h9⟩
    cases hdst:o.dst with
    | none=>rw [hdst] at ha hy; exact hback (by rw [hdst]; simp) hy ha
    | some d =>
     rw [hdst] at ha hy;simp only [zR,putT,Act.put] at ha hy;by_cases e:d=j
     ·subst e;have hlt:d<env.length:=by have:=(List.getElem?_eq_some_iff.1 ha).1; simpa using this
      rw [List.getElem?_set_self hlt] at ha;rw [Array.getElem?_setIfInBounds_self_of_lt (by rw [<- h6.1]; exact hlt)] at hy;cases ha; cases hy;exact hr
     ·rw [List.getElem?_set_ne e] at ha;rw [Array.getElem?_setIfInBounds_ne e] at hy;exact hback (by rw [hdst]; simpa using e) hy ha
  ·have hnd':=List.nodup_cons.1 hnd;rcases hcov c sQ with h7 | ⟨p,hp,e⟩
   ·exfalso;rcases List.mem_cons.1 h7 with h7 | h7
    ·exact hci h7
    ·have hb:=List.all_eq_true.1 hc.1.2 c h7;rw [List.any_eq_true] at hb;obtain ⟨e,he1,he2⟩:=hb;refine hresp.1 e he1 ?_;simp only [Bool.or_eq_true,beq_iff_eq] at he2;rcases he2 with rfl | he2
     ·exact hL e sQ
     ·exact hL e (by simp at he2; simp [he2])
   ·by_cases hcL:c∈i::L'
    ·exfalso;rcases List.mem_cons.1 hcL with h7 | h7
     ·exact hci h7
     ·have hb:=List.all_eq_true.1 hc.1.2 c h7;rw [List.any_eq_true] at hb;obtain ⟨e,he1,he2⟩:=hb;refine hresp.1 e he1 ?_;simp only [Bool.or_eq_true,beq_iff_eq] at he2;rcases he2 with rfl | he2
      ·exact hL e sQ
      ·exact hL e (by simp at he2; simp [he2])
    ·refine za8 hp e (hj p hp) hraw (hV p hp) hA hnd hsz hresp h1 h2 h3 h4 h5 h6 fun φ H ts h1 h3 h5 h6 =>
      ih hnd'.2 hresp.2 (fun j hj=>hsz j (by simp [hj])) (fun j hj=>?_) (fun j hj=>hcov j (by simp [hj])) φ H ts h1 h2 h3 h4 h5 h6
     rcases List.mem_cons.1 (hL j hj) with h8 | h8
     ·exact absurd (h8 ▸ hj) hcL
     ·exact h8
theorem TD.split {pend:List Pd} {L:List Nat} (d:Nat) {t:Bool} (hd:env[d]? =some (.v (.bool t))) (h1:t=true->TD Y ds ops k pend L (env.set d (.v (.bool true))) K) (h0:t=false->TD Y ds ops k pend L (env.set d (.v (.bool false))) K):TD Y ds ops k pend L env K:=by
 have e:env.set d (.v (.bool t))=env:=by
  obtain ⟨hlt,he⟩:=List.getElem?_eq_some_iff.1 hd;rw [<- he]; exact List.set_getElem_self hlt
 cases t with
 | true=>rw [<- e]; exact h1 rfl
 | false=>rw [<- e]; exact h0 rfl
theorem TK.split (d:Nat) {t:Bool} (hd:env[d]? =some (.v (.bool t))) (h1:t=true->TK Y ds k (env.set d (.v (.bool true))) K) (h0:t=false->TK Y ds k (env.set d (.v (.bool false))) K):TK Y ds k env K:=by
 have e:env.set d (.v (.bool t))=env:=by
  obtain ⟨hlt,he⟩:=List.getElem?_eq_some_iff.1 hd;rw [<- he]; exact List.set_getElem_self hlt
 cases t with
 | true=>rw [<- e]; exact h1 rfl
 | false=>rw [<- e]; exact h0 rfl
end
section
variable {P:Program} {gm:Nat->Option Nat} {V:KV} {env:List AV} {o:Oper} {r:AV}
abbrev Qk (P:Program) (gm:Nat->Option Nat) (env:List AV) (V:KV) (o:Oper) (r:AV):Prop:=∀ A,zQ V A->OpOk P gm env A o r A
abbrev Nk (P:Program) (gm:Nat->Option Nat) (env:List AV) (V:KV) (o:Oper) (f:Nat->AV) (ob:AObj):Prop:=∀ A,zQ V A->OpOk P gm env A o (f A.length) (A++[ob])
def zo (gm:Nat->Option Nat) (env:List AV):Operand->Option AV
 | .tmp t=>env[t]?
 | .const v=>some (.v v)
 | .global g=>some (match gm g with | some i=>.ptr i 0 | none=>.v (.pointer (some ⟨g,0,none⟩)))
 | .func f=>some (.fn f [] [])
theorem zy {x:Operand} (h:zo gm env x=some r):zL gm env x=r:=by
 cases x with
 | tmp t=>simp only [zo] at h; simp only [zL,List.getD_eq_getElem?_getD,h,Option.getD_some]
 | const v=>cases h; rfl
 | global g=>cases h; rfl
 | func f=>cases h; rfl
theorem zh {x:Operand} (ho:o.op=.move x) (hx:zo gm env x=some r):Qk P gm env V o r:=fun _ _=>zy hx ▸ zln ho
theorem zw {x:Operand} (ho:o.op=.assign x) (hx:zo gm env x=some r):Qk P gm env V o r:=fun _ _=>zy hx ▸ zh4 ho
theorem yH {c x y:Operand} (ho:o.op=.pick c x y) (hc:zo gm env c=some (.v (.bool true))) (hx:zo gm env x=some r):Qk P gm env V o r:=fun A _ φ F H a hg hH hE=>by
 unfold execOp; rw [ho];have h1:=zD hg hE c;rw [zy hc] at h1;simp only [inv_v h1];exact zX.quiet hH (zy hx ▸ zD hg hE x)
theorem yg {c x y:Operand} (ho:o.op=.pick c x y) (hc:zo gm env c=some (.v (.bool false))) (hy:zo gm env y=some r):Qk P gm env V o r:=fun A _ φ F H a hg hH hE=>by
 unfold execOp; rw [ho];have h1:=zD hg hE c;rw [zy hc] at h1;simp only [inv_v h1];exact zX.quiet hH (zy hy ▸ zD hg hE y)
theorem zmT {c x y:Operand} {t a b:Bool} (ho:o.op=.pick c x y) (hc:zo gm env c=some (.v (.bool t))) (hx:zo gm env x=some (.v (.bool a))) (hy:zo gm env y=some (.v (.bool b))):Qk P gm env V o (.v (.bool (bif t then a else b))):=fun A _=>by
 have:=zlo (P:=P) (A:=A) ho (zy hc);rw [zy hx,zy hy] at this;exact this
theorem zaX (op:BinOp) (t:TypeId) (x y:Operand) (k k':IntKind) (a b:Int):eqGuard op t x y (.int k a) (.int k' b)=pure ():=by unfold eqGuard; cases op <;> rfl
theorem zkP (op:BinOp) (t:TypeId) (x y:Operand) (a b:ByteArray):eqGuard op t x y (.string a) (.string b)=pure ():=by unfold eqGuard; cases op <;> rfl
theorem zjk (op:BinOp) (t:TypeId) (x y:Operand) (a b:Bool):eqGuard op t x y (.bool a) (.bool b)=pure ():=by unfold eqGuard; cases op <;> rfl
theorem zE {α β:Type} {P:Program}:∀ {s:Sem α} {f:α->Sem β} {a:α} {b:β},zJ P s=some a->zJ P (f a)=some b->zJ P (s >>= f)=some b:=by
 intro s
 induction s with
 | pure c=>intro f a b h k; cases h; exact k
 | program k' ih=>intro f a b h k; exact ih P h k
 | _=>intro f a b h; cases h
theorem z5 {P:Program} {t:TypeId} {d:TypeDesc} (h:P.underlying t=some d):zJ P (underlying t)=some d:=by
 show zJ P (match P.underlying t with | some d=>pure d | none=>stuck "no such type")=_
 rw [h]; rfl
theorem wz {op:BinOp} {t yt:TypeId} {x y:Operand} {k:IntKind} {a b:Int} {z:Value} (ho:o.op=.binOp op t x y yt) (hx:zo gm env x=some (.v (.int k a))) (hy:zo gm env y=some (.v (.int k b))) (h:zJ P (binOp op t (.int k a) (.int k b))=some z):Qk P gm env V o (.v z):=fun A _ =>
 vq ho (by rw [zy hx]; rfl) (by rw [zy hy]; rfl) (by rw [zaX]; exact h)
theorem ky {n:Int} (h : -9223372036854775808<=n/\n<9223372036854775808):IntKind.i64.wrap n=n:=by
 unfold IntKind.wrap;simp only [show IntKind.i64.bits=64 from rfl,show IntKind.i64.signed=true from rfl,Bool.true_and];split <;> rename_i h1 <;> simp only [decide_eq_true_eq] at h1 <;> omega
theorem q_add {t yt:TypeId} {x y:Operand} {a b:Int} (ho:o.op=.binOp .add t x y yt) (hx:zo gm env x=some (.v (.int .i64 a))) (hy:zo gm env y=some (.v (.int .i64 b))) (h : -9223372036854775808<=a+b/\a+b<9223372036854775808):Qk P gm env V o (.v (.int .i64 (a+b))):=by
 refine wz ho hx hy ?_;show some (Value.int .i64 (IntKind.i64.wrap (a+b)))=_;rw [ky h]
theorem q_sub {t yt:TypeId} {x y:Operand} {a b:Int} (ho:o.op=.binOp .sub t x y yt) (hx:zo gm env x=some (.v (.int .i64 a))) (hy:zo gm env y=some (.v (.int .i64 b))) (h : -9223372036854775808<=a - b/\a - b<9223372036854775808):Qk P gm env V o (.v (.int .i64 (a - b))):=by
 refine wz ho hx hy ?_;show some (Value.int .i64 (IntKind.i64.wrap (a - b)))=_;rw [ky h]
theorem q_mul {t yt:TypeId} {x y:Operand} {a b:Int} (ho:o.op=.binOp .mul t x y yt) (hx:zo gm env x=some (.v (.int .i64 a))) (hy:zo gm env y=some (.v (.int .i64 b))) (h : -9223372036854775808<=a*b/\a*b<9223372036854775808):Qk P gm env V o (.v (.int .i64 (a*b))):=by
 refine wz ho hx hy ?_;show some (Value.int .i64 (IntKind.i64.wrap (a*b)))=_;rw [ky h]
theorem q_rem {t yt:TypeId} {x y:Operand} {k:IntKind} {a b:Int} (ho:o.op=.binOp .rem t x y yt) (hx:zo gm env x=some (.v (.int k a))) (hy:zo gm env y=some (.v (.int k b))) (h0:0<=a) (h1:0<b):Qk P gm env V o (.v (.int k (a % b))):=by
 refine wz ho hx hy ?_;show zJ P (if k≠k then _ else _)=_;rw [if_neg sQ];show zJ P (if b=0 then _ else _)=_;rw [if_neg oQ];show some (Value.int k (a.tmod b))=_;rw [Int.tmod_eq_emod_of_nonneg h0]
theorem q_quo {t yt:TypeId} {x y:Operand} {a b:Int} (ho:o.op=.binOp .quo t x y yt) (hx:zo gm env x=some (.v (.int .i64 a))) (hy:zo gm env y=some (.v (.int .i64 b))) (h0:0<=a) (h1:0<b) (h2:a<9223372036854775808):Qk P gm env V o (.v (.int .i64 (a / b))):=by
 refine wz ho hx hy ?_;show zJ P (if b=0 then _ else _)=_;rw [if_neg oQ];show some (Value.int .i64 (IntKind.i64.wrap (a.tdiv b)))=_;rw [Int.tdiv_eq_ediv_of_nonneg h0,ky ⟨Int.le_trans oQ (Int.ediv_nonneg h0 oQ),Int.lt_of_le_of_lt (Int.ediv_le_self b h0) h2⟩]
def cmpI:BinOp->Int->Int->Option Bool
 | .eql,a,b=>some (a==b)
 | .neq,a,b=>some (a !=b)
 | .lss,a,b=>some (decide (a<b))
 | .leq,a,b=>some (decide (a<=b))
 | .gtr,a,b=>some (decide (a>b))
 | .geq,a,b=>some (decide (a>=b))
 | _,_,_=>none
theorem q_cmp {op:BinOp} {t yt:TypeId} {x y:Operand} {k:IntKind} {a b:Int} {z:Bool} (ho:o.op=.binOp op t x y yt) (hx:zo gm env x=some (.v (.int k a))) (hy:zo gm env y=some (.v (.int k b))) (h:cmpI op a b=some z):Qk P gm env V o (.v (.bool z)):=by
 refine wz ho hx hy ?_;cases op <;> first | (cases h; done) | skip
 all_goals
  cases h;show zJ P (if k≠k then _ else _)=_;rw [if_neg sQ];rfl
def cmpS:BinOp->ByteArray->ByteArray->Option Bool
 | .eql,a,b=>some (a.toList==b.toList)
 | .neq,a,b=>some (!(a.toList==b.toList))
 | _,_,_=>none
theorem zmQ {op:BinOp} {t yt:TypeId} {x y:Operand} {a b:ByteArray} {z:Bool} (ho:o.op=.binOp op t x y yt) (hx:zo gm env x=some (.v (.string a))) (hy:zo gm env y=some (.v (.string b))) (h:cmpS op a b=some z):Qk P gm env V o (.v (.bool z)):=fun A _=>by
 refine vq ho (by rw [zy hx]; rfl) (by rw [zy hy]; rfl) ?_;rw [zkP];cases op <;> first | (cases h; done) | (cases h; rfl)
def cmpB:BinOp->Bool->Bool->Option Bool
 | .eql,a,b=>some (a==b)
 | .neq,a,b=>some (!(a==b))
 | _,_,_=>none
theorem zmP {op:BinOp} {t yt:TypeId} {x y:Operand} {a b z:Bool} (ho:o.op=.binOp op t x y yt) (hx:zo gm env x=some (.v (.bool a))) (hy:zo gm env y=some (.v (.bool b))) (ht:P.underlying t=some .bool) (h:cmpB op a b=some z):Qk P gm env V o (.v (.bool z)):=fun A _=>by
 refine vq ho (by rw [zy hx]; rfl) (by rw [zy hy]; rfl) ?_;rw [zjk];have he:zJ P (Op.equal t (.bool a) (.bool b))=some (a==b):=by
  show zJ P (Op.equalIn (9999+1) t (.bool a) (.bool b))=_;unfold Op.equalIn;exact zE (z5 ht) rfl
 cases op <;> first | (cases h; done) | skip
 ·cases h;exact zE (f:=fun z=>(pure (Value.bool z):Sem Value)) he rfl
 ·cases h;exact zE (f:=fun z=>(pure (Value.bool !z):Sem Value)) he rfl
theorem q_not {t:TypeId} {x:Operand} {a:Bool} (ho:o.op=.unOp .not t x) (hx:zo gm env x=some (.v (.bool a))):Qk P gm env V o (.v (.bool !a)):=fun A _ =>
 ok_un ho (by rw [zy hx]; rfl) rfl
theorem yT {s d:TypeId} {x:Operand} {k k':IntKind} {ds:TypeDesc} {n m:Int} (ho:o.op=.convert s d x) (hx:zo gm env x=some (.v (.int k n))) (hs:P.underlying s=some ds) (hd:P.underlying d=some (.int k')) (h:k'.wrap n=m):Qk P gm env V o (.v (.int k' m)):=fun A _ =>
 zgX ho (by rw [zy hx]; rfl) (by
  unfold convert;refine zE (z5 hs) (zE (z5 hd) ?_);have:zJ P (Conv.intToInt k' n)=some (.int k' m):=by rw [<- h]; rfl
  cases ds <;> exact this)
theorem ya {x:Operand} {k:Nat} {l:List AV} (ho:o.op=.extract x k) (hx:zo gm env x=some (.tup l)) (h:l[k]? =some r):Qk P gm env V o r:=fun _ _=>zgY ho (zy hx) h
theorem kB {t:TypeId} {x:Operand} {k off n:Nat} {g:Bool} {l:List AV} (ho:o.op=.field t x k) (hx:zo gm env x=some (.agg l)) (hf:fieldOf P t k=some (off,g,n)) (h:partA g l off n=some r):Qk P gm env V o r:=fun _ _=>zjS ho (zy hx) hf h
theorem za {t:TypeId} {x:Operand} {k i off d n:Nat} {g:Bool} (ho:o.op=.fieldAddr t x k) (hx:zo gm env x=some (.ptr i off)) (hf:fieldOf P t k=some (d,g,n)) (hn:n≠0):Qk P gm env V o (.ptr i (off+d)):=fun _ _=>zeu ho (zy hx) hf hn
theorem vD {f:FuncId} {fs cs:Array Operand} {l m:List AV} (ho:o.op=.makeFunc (.func f) fs cs) (h1:fs.toList.map (zL gm env)=l) (h2:cs.toList.map (zL gm env)=m):Qk P gm env V o (.fn f l m):=fun _ _=>by
 subst h1 h2;exact zfu ho
theorem yo {t:TypeId} {parts:Array (Nat×Operand)} {z:List Value} {pl:List (Nat×Nat)} {l:List AV} (ho:o.op=.build t parts) (hz:tyZero P t=some z) (hp:bldOf P t=some pl) (h:fillA pl (z.map .v) (parts.toList.map fun (i,x)=>(i,zL gm env x))=some l):Qk P gm env V o (.agg l):=fun _ _=>zjP ho hz hp h
def takeO (ob:AObj) (off n:Nat):Option (List AV):=match ob.look with
 | some l=>if 0<n/\off+n<=l.length then some ((l.drop off).take n) else none
 | none=>none
theorem vU {A:List AObj} {i off n:Nat} {ob:AObj} (h:A[i]? =some ob):loadA A i off n=takeO ob off n:=by
 unfold loadA takeO;rw [h];rfl
theorem zI {t:TypeId} {x:Operand} {i off n:Nat} {ob:AObj} {l:List AV} (ho:o.op=.load t x) (hx:zo gm env x=some (.ptr i off)) (ht:tySize P t=some (true,n)) (hm:(i,ob)∈V) (hl:takeO ob off n=some l):Qk P gm env V o (.agg l):=fun _ hA=>zlm ho (zy hx) ht ((vU (hA.get hm)).trans hl)
theorem zg {t:TypeId} {x:Operand} {i off n:Nat} {ob:AObj} (ho:o.op=.load t x) (hx:zo gm env x=some (.ptr i off)) (ht:tySize P t=some (false,n)) (hm:(i,ob)∈V) (hl:takeO ob off 1=some [r]):Qk P gm env V o r:=fun _ hA=>zjU ho (zy hx) ht ((vU (hA.get hm)).trans hl)
def putO (ob:AObj) (off:Nat) (vs:List AV):Option AObj:=match ob with
 | .cells l e true=>if off+vs.length<=l.length/\0<vs.length/\vs.all oneA=true then some (.cells (setL l off vs) e true) else none
 | .row l e size=>if off+vs.length<=l.length/\0<vs.length/\vs.all oneA=true then some (.row (setL l off vs) e size) else none
 | _=>none
theorem zaN {A:List AObj} {i off:Nat} {ob ob':AObj} {vs:List AV} (h:A[i]? =some ob) (hp:putO ob off vs=some ob'):storeA A i off vs=some (A.set i ob'):=by
 unfold putO at hp;unfold storeA;rw [h];split at hp
 ·split at hp
  ·rename_i hc; cases hp; simp only [hc,and_self,if_true]
  ·cases hp
 ·split at hp
  ·rename_i hc; cases hp; simp only [hc,and_self,if_true]
  ·cases hp
 ·cases hp
theorem zB {t:TypeId} {x y:Operand} {i off n:Nat} {g:Bool} {vs:List AV} {ob ob':AObj} (ho:o.op=.store t x y) (hx:zo gm env x=some (.ptr i off)) (ht:tySize P t=some (g,n)) (hy:cellsA (zL gm env y)=some vs) (hn:vs.length=n) (hm:(i,ob)∈V) (hs:putO ob off vs=some ob') :
  ∀ A,zQ V A->OpOk P gm env A o .any (A.set i ob'):=fun _ hA=>zjV ho (zy hx) ht hy hn (zaN (hA.get hm) hs)
theorem n_box {t:TypeId} {x:Operand} {l:List AV} (ho:o.op=.box t x) (hx:cellsA (zL gm env x)=some l):Nk P gm env V o (fun j=>.ptr j 0) (.cells l t true):=fun _ _=>zmC ho hx
theorem zli {t:TypeId} {z:List Value} (ho:o.op=.alloc t) (hz:tyZero P t=some z):Nk P gm env V o (fun j=>.ptr j 0) (.cells (z.map .v) t true):=fun _ _=>zjO ho hz
theorem zp {t e:TypeId} {len size:Nat} {parts:Array (Nat×Operand)} {z:List Value} {l:List AV} (ho:o.op=.buildSlice t len parts) (ht:slElem P t=some (e,size)) (hz:tyZero P e=some z) (hlen:len*size<=16777216) (hmax:len<=16777216)
  (h:fillA ((List.range len).map fun i=>(i*size,size)) (List.replicate (len*size) .any) (parts.toList.map fun (i,x)=>(i,zL gm env x))=some l):Nk P gm env V o (fun j=>.row j len) (.row l e size):=fun _ _=>zdE ho ht hz hlen hmax h
theorem yZ {t e:TypeId} {x y:Operand} {k:IntKind} {n:Int} {i len size:Nat} (ho:o.op=.indexAddr t x y) (hx:zo gm env x=some (.row i len)) (hy:zo gm env y=some (.v (.int k n))) (ht:slElem P t=some (e,size)) {l:List AV} {e':TypeId} {s':Nat} (hm:(i,.row l e' s')∈V) (h0:0<=n) (h1:n<len) :
  Qk P gm env V o (.ptr i (n.toNat*size)):=fun _ hA=>zew ho (zy hx) (zy hy) ht h0 h1 (hA.get hm)
theorem zH {t e:TypeId} {x y:Operand} {k:IntKind} {n:Int} {i off len size:Nat} (ho:o.op=.indexAddr t x y) (hx:zo gm env x=some (.sl i off len)) (hy:zo gm env y=some (.v (.int k n))) (ht:slElem P t=some (e,size)) (h0:0<=n) (h1:n<len) :
  Qk P gm env V o (.ptr i (off+n.toNat*size)):=fun _ _=>zft ho (zy hx) (zy hy) ht h0 h1
theorem kS {t e:TypeId} {x y:Operand} {k:IntKind} {n:Int} {i off len size:Nat} {g:Bool} (ho:o.op=.indexAddr t x y) (hx:zo gm env x=some (.ptr i off)) (hy:zo gm env y=some (.v (.int k n))) (ht:arrElem P t=some (len,e,g,size)) (h0:0<=n) (h1:n<len) :
  Qk P gm env V o (.ptr i (off+n.toNat*size)):=fun _ _=>zev ho (zy hx) (zy hy) ht h0 h1
theorem ke {t e:TypeId} {x y:Operand} {k:IntKind} {n:Int} {len size:Nat} {g:Bool} {l:List AV} (ho:o.op=.index t x y) (hx:zo gm env x=some (.agg l)) (hy:zo gm env y=some (.v (.int k n))) (ht:arrElem P t=some (len,e,g,size)) (h0:0<=n) (h1:n<len)
  (h:partA g l (n.toNat*size) size=some r):Qk P gm env V o r:=fun _ _=>zjT ho (zy hx) (zy hy) ht h0 h1 h
theorem zg2 {t:TypeId} {x y:Operand} {k:IntKind} {n:Int} {s:ByteArray} {c:UInt8} (ho:o.op=.index t x y) (hx:zo gm env x=some (.v (.string s))) (hy:zo gm env y=some (.v (.int k n))) (ht:P.underlying t=some .string) (h0:0<=n) (h1:s[n.toNat]? =some c) :
  Qk P gm env V o (.v (.int .u8 c.toNat)):=fun _ _=>zex ho (zy hx) (zy hy) ht h0 h1
theorem q_len {x:Operand} {u:AV} {t e:TypeId} {n:Nat} (ho:o.op=.call { callee:=.builtin .len,args:=#[x],argTypes:=#[t] }) (hx:zo gm env x=some u) (hl:lenA u=some n) (ht:P.underlying t=some (.slice e)):Qk P gm env V o (.v (.int .i64 n)):=fun _ _=>zmD ho (by rw [zy hx]; exact hl) ht
theorem zj2 {x:Operand} {t:TypeId} {s:ByteArray} (ho:o.op=.call { callee:=.builtin .len,args:=#[x],argTypes:=#[t] }) (hx:zo gm env x=some (.v (.string s))) (ht:P.underlying t=some .string):Qk P gm env V o (.v (.int .i64 s.size)):=fun _ _=>zgZ ho (zy hx) ht
theorem q_min {x y:Operand} {t u:TypeId} {k k':IntKind} {m n:Int} (ho:o.op=.call { callee:=.builtin .min,args:=#[x,y],argTypes:=#[t,u] }) (hx:zo gm env x=some (.v (.int k m))) (hy:zo gm env y=some (.v (.int k' n))):Qk P gm env V o (.v (.int k (if n<m then n else m))):=fun _ _=>zmF ho (zy hx) (zy hy)
theorem q_max {x y:Operand} {t u:TypeId} {k k':IntKind} {m n:Int} (ho:o.op=.call { callee:=.builtin .max,args:=#[x,y],argTypes:=#[t,u] }) (hx:zo gm env x=some (.v (.int k m))) (hy:zo gm env y=some (.v (.int k' n))):Qk P gm env V o (.v (.int k (if m<n then n else m))):=fun _ _=>zmE ho (zy hx) (zy hy)
theorem zii {t e:TypeId} {x:Operand} {lo hi:Option Operand} {i off len size l h:Nat} (ho:o.op=.slice t x lo hi none) (hx:zo gm env x=some (.sl i off len)) (ht:slElem P t=some (e,size))
  (hlo:bndA (lo.map (zL gm env)) 0=some l) (hhi:bndA (hi.map (zL gm env)) len=some h) (h1:l<=h) (h2:h<=len) (hr:subA i off size l h=r):Qk P gm env V o r:=fun _ _=>hr ▸ zfv ho (zy hx) ht hlo hhi h1 h2
theorem wV {t e:TypeId} {x:Operand} {lo hi:Option Operand} {i len size l h:Nat} (ho:o.op=.slice t x lo hi none) (hx:zo gm env x=some (.row i len)) (ht:slElem P t=some (e,size)) {l0:List AV} {e':TypeId} {s':Nat} (hm:(i,.row l0 e' s')∈V)
  (hlo:bndA (lo.map (zL gm env)) 0=some l) (hhi:bndA (hi.map (zL gm env)) len=some h) (h1:l<=h) (h2:h<=len) (hr:subA i 0 size l h=r):Qk P gm env V o r:=fun _ hA=>hr ▸ zez ho (zy hx) ht (hA.get hm) hlo hhi h1 h2
theorem zg3 {t e:TypeId} {x:Operand} {lo hi:Option Operand} {i off len size l h:Nat} {g:Bool} (ho:o.op=.slice t x lo hi none) (hx:zo gm env x=some (.ptr i off)) (ht:arrElem P t=some (len,e,g,size))
  (hlo:bndA (lo.map (zL gm env)) 0=some l) (hhi:bndA (hi.map (zL gm env)) len=some h) (h1:l<=h) (h2:h<=len) (hr:subA i off size l h=r):Qk P gm env V o r:=fun _ _=>hr ▸ zey ho (zy hx) ht hlo hhi h1 h2
def srcO (V:KV) (size:Nat) (x:AV) (m:Nat) (ln:List AV):Prop:=∀ A,zQ V A->srcA A size x=some (m,ln)
theorem zi0 {s x:Operand} {t e:TypeId} {ti:TypeInfo} {z:Value} {size bytes i n m:Nat} {lo ln:List AV} {u:AV} (ho:o.op=.call { callee:=.builtin .append,args:=#[s,x],argTypes:=#[t,t] }) (ht:P.underlying t=some (.slice e)) (hi:P.info? e=some ti) (hz:ti.zero=some z)
  (hsz:z.cells.size=size) (hts:ti.size=size) (hby:ti.bytes=bytes) (hs0:0<size) (hs:zo gm env s=some (.row i n)) (hm:(i,.row lo e size)∈V) (hlo:lo.length=n*size) (hx:zo gm env x=some u) (hsrc:srcO V size u m ln) (hm0:0<m) (hone:ln.all oneA=true) (hmax:n+m<=maxLen) (hbytes:(n+m)*bytes<=140737488355328) :
  ∀ A,zQ V A->OpOk P gm env A o (.row A.length (n+m)) (A.set i .gone++[.row (lo++ln) e size]):=fun A hA =>
 zh3 ho ht hi hz hsz hts hby hs0 (.inr (.inr ⟨i,zy hs,hA.get hm,hlo,rfl⟩)) (by rw [zy hx]; exact hsrc A hA) hm0 hone hmax hbytes
end
section
variable {P:Program} {gm:Nat->Option Nat} {T:Goroutine->Hp->Prop} {Y:KX P gm T} {ds:List Nat} {k:List Item} {env env' env1 env0:List AV} {K K':KV} {ops:Array Oper} {i:Nat} {rest L L':List Nat} {o:Oper} {r:AV} {ob ob':AObj} {envf:Nat->List AV} {pend pend':List Pd} {V:KV}
theorem TK.norm (he:env=env') (h:TK Y ds k env' K):TK Y ds k env K:=he ▸ h
theorem TD.norm (he:env=env') (h:TD Y ds ops k pend L env' K):TD Y ds ops k pend L env K:=he ▸ h
theorem TK.regionL {id:Nat} (hL:List.range ops.size=L) (h:TK Y ds (.inRegion ops L::k) env K):TK Y ds (.code (.region id ops false)::k) env K:=TK.region (by rw [hL]; exact h)
theorem TK.newP (ho:ops[i]? =some o) (hd:yf o.op=false) (hw:zO ops env o=some true) (hq:Nk P gm env K o (fun j=>.ptr j 0) ob) (he:∀ j,zR env o.dst (.ptr j 0)=envf j) (h:∀ j,j∉keys K->TK Y ds (.inRegion ops rest::k) (envf j) ((j,ob)::K)):TK Y ds (.inRegion ops (i::rest)::k) env K:=TK.new ho hd hw hq he h
theorem TK.newR {n:Nat} (ho:ops[i]? =some o) (hd:yf o.op=false) (hw:zO ops env o=some true) (hq:Nk P gm env K o (fun j=>.row j n) ob) (he:∀ j,zR env o.dst (.row j n)=envf j) (h:∀ j,j∉keys K->TK Y ds (.inRegion ops rest::k) (envf j) ((j,ob)::K)):TK Y ds (.inRegion ops (i::rest)::k) env K:=TK.new ho hd hw hq he h
theorem TK.appR {j n:Nat} {K'':Nat->KV} (ho:ops[i]? =some o) (hd:yf o.op=false) (hw:zO ops env o=some true) (hq:∀ A,zQ K A->OpOk P gm env A o (.row A.length n) (A.set j .gone++[ob'])) (hu:∀ j',Upd K j ob j' ob' (K'' j')) (he:∀ j',zR env o.dst (.row j' n)=envf j') (h:∀ j',TK Y ds (.inRegion ops rest::k) (envf j') (K'' j')):TK Y ds (.inRegion ops (i::rest)::k) env K:=TK.app (f:=fun j'=>.row j' n) ho hd hw hq hu he h
theorem TK.splitN (d:Nat) {t:Bool} (hd:env[d]? =some (.v (.bool t))) (h1:env.set d (.v (.bool true))=env1) (h0:env.set d (.v (.bool false))=env0) (k1:t=true->TK Y ds k env1 K) (k0:t=false->TK Y ds k env0 K):TK Y ds k env K:=by
 subst h1 h0;exact TK.split d hd k1 k0
theorem TD.splitN (d:Nat) {t:Bool} (hd:env[d]? =some (.v (.bool t))) (h1:env.set d (.v (.bool true))=env1) (h0:env.set d (.v (.bool false))=env0) (k1:t=true->TD Y ds ops k pend L env1 K) (k0:t=false->TD Y ds ops k pend L env0 K):TD Y ds ops k pend L env K:=by
 subst h1 h0;exact TD.split d hd k1 k0
theorem TD.cq (s:List Nat) (ho:ops[i]? =some o) (hd:yf o.op=false) (hw:zO ops (onl s env) o=some true) (hp':pendOf ops i pend=pend') (hc:chkC ops pend' L' s i o.dst=true) (hq:Qk P gm (onl s env) K o r) (he:zR env o.dst r=env') (hv:∀ p∈pend',∀ x∈p.V,x∈K) (h:TD Y ds ops k pend' L' env' K):TD Y ds ops k pend (i::L') env K :=
 TD.c s ho hw hp' hc (wP hd fun A hv' hn=>⟨r,A,K,hq A hv',.same hv' hn,hv,by rw [he]; exact h⟩)
theorem TD.cnewP (s:List Nat) (ho:ops[i]? =some o) (hd:yf o.op=false) (hw:zO ops (onl s env) o=some true) (hp':pendOf ops i pend=pend') (hc:chkC ops pend' L' s i o.dst=true) (hq:Nk P gm (onl s env) K o (fun j=>.ptr j 0) ob) (he:∀ j,zR env o.dst (.ptr j 0)=envf j) (hv:∀ p∈pend',∀ x∈p.V,x∈K) (h:∀ j,j∉keys K->TD Y ds ops k pend' L' (envf j) ((j,ob)::K)):TD Y ds ops k pend (i::L') env K :=
 TD.c s ho hw hp' hc (wP hd fun A hv' hn=>⟨_,_,_,hq A hv',.push hv' hn ob,fun p hp x hx=>List.mem_cons_of_mem _ (hv p hp x hx),by dsimp only; rw [he]; exact h _ fun hm=>absurd (hv'.lt hm) (Nat.lt_irrefl _)⟩)
theorem TD.cnewR {n:Nat} (s:List Nat) (ho:ops[i]? =some o) (hd:yf o.op=false) (hw:zO ops (onl s env) o=some true) (hp':pendOf ops i pend=pend') (hc:chkC ops pend' L' s i o.dst=true) (hq:Nk P gm (onl s env) K o (fun j=>.row j n) ob) (he:∀ j,zR env o.dst (.row j n)=envf j) (hv:∀ p∈pend',∀ x∈p.V,x∈K) (h:∀ j,j∉keys K->TD Y ds ops k pend' L' (envf j) ((j,ob)::K)):TD Y ds ops k pend (i::L') env K :=
 TD.c s ho hw hp' hc (wP hd fun A hv' hn=>⟨_,_,_,hq A hv',.push hv' hn ob,fun p hp x hx=>List.mem_cons_of_mem _ (hv p hp x hx),by dsimp only; rw [he]; exact h _ fun hm=>absurd (hv'.lt hm) (Nat.lt_irrefl _)⟩)
theorem TD.cst {j:Nat} (s:List Nat) (ho:ops[i]? =some o) (hd:yf o.op=false) (hw:zO ops (onl s env) o=some true) (hp':pendOf ops i pend=pend') (hc:chkC ops pend' L' s i o.dst=true) (hq:∀ A,zQ K A->OpOk P gm (onl s env) A o r (A.set j ob')) (hu:Upd K j ob j ob' K') (he:zR env o.dst r=env') (hv:∀ p∈pend',∀ x∈p.V,x∈K') (h:TD Y ds ops k pend' L' env' K'):TD Y ds ops k pend (i::L') env K :=
 TD.c s ho hw hp' hc (wP hd fun A hv' hn=>⟨r,_,K',hq A hv',.set hv' hn hu,hv,by rw [he]; exact h⟩)
theorem TD.capp {j n:Nat} {K'':Nat->KV} (s:List Nat) (ho:ops[i]? =some o) (hd:yf o.op=false) (hw:zO ops (onl s env) o=some true) (hp':pendOf ops i pend=pend') (hc:chkC ops pend' L' s i o.dst=true) (hq:∀ A,zQ K A->OpOk P gm (onl s env) A o (.row A.length n) (A.set j .gone++[ob'])) (hu:∀ j',Upd K j ob j' ob' (K'' j')) (he:∀ j',zR env o.dst (.row j' n)=envf j') (hv:∀ j',∀ p∈pend',∀ x∈p.V,x∈K'' j') (h:∀ j',TD Y ds ops k pend' L' (envf j') (K'' j')):TD Y ds ops k pend (i::L') env K :=
 TD.c s ho hw hp' hc (wP hd fun A hv' hn=>⟨_,_,_,hq A hv',.renew hv' hn (hu _),hv _,by rw [he]; exact h _⟩)
theorem TK.call' {fo:Operand} {ars:Array Operand} {at_:Array TypeId} {g:FuncId} {fs cp args:List AV} {Kf R:KV} {Post:AV->KV->Prop} (ho:ops[i]? =some o) (hw:zO ops env o=some true) (hop:o.op=.call { callee:=.value fo,args:=ars,argTypes:=at_ })
  (hf:zo gm env fo=some (.fn g fs cp)) (hg:yk P g=true) (hargs:fs++ars.toList.map (zL gm env)++cp=args) (hc:zq P T gm g args Kf Post) (hs:Split K Kf R)
  (h:∀ r K',Post r K'->TK Y ds (.inRegion ops rest::k) (zR env o.dst r) (K'++R)):TK Y ds (.inRegion ops (i::rest)::k) env K:=TK.ex ho hw (zbw hop (zy hf) hg hargs hc hs h)
theorem TD.call' {fo:Operand} {ars:Array Operand} {at_:Array TypeId} {g:FuncId} {fs cp args:List AV} {Kf R:KV} {Post:AV->KV->Prop} (s:List Nat) (ho:ops[i]? =some o) (hw:zO ops (onl s env) o=some true) (hp':pendOf ops i pend=pend') (hc':chkC ops pend' L' s i o.dst=true) (hop:o.op=.call { callee:=.value fo,args:=ars,argTypes:=at_ })
  (hf:zo gm (onl s env) fo=some (.fn g fs cp)) (hg:yk P g=true) (hargs:fs++ars.toList.map (zL gm (onl s env))++cp=args) (hc:zq P T gm g args Kf Post) (hs:Split K Kf R)
  (h:∀ r K',Post r K'->(∀ p∈pend',∀ x∈p.V,x∈K'++R)/\TD Y ds ops k pend' L' (zR env o.dst r) (K'++R)):TD Y ds ops k pend (i::L') env K:=TD.c s ho hw hp' hc' (zbw hop (zy hf) hg hargs hc hs h)
theorem yp {j m size:Nat} {l ln:List AV} {e:TypeId} {s':Nat} (hm:(j,.row l e s')∈V) (hpos:0<m*size) (hle:m*size<=l.length) (hl:l.take (m*size)=ln):srcO V size (.row j m) m ln:=fun A hA=>by
 simp only [srcA];rw [if_neg oQ,hA.get hm];simp only [loadA,hA.get hm,AObj.look,List.drop_zero,Nat.zero_add];rw [if_pos ⟨hpos,hle⟩,hl];rfl
theorem wB {j off m size:Nat} {ob:AObj} {ln:List AV} (hm:(j,ob)∈V) (hpos:0<m*size) (hl:takeO ob off (m*size)=some ln):srcO V size (.sl j off m) m ln:=fun A hA=>by
 simp only [srcA];rw [if_neg oQ,vU (hA.get hm),hl];rfl
def tyZeroA (P:Program) (t:TypeId):Option (List AV):=(tyZero P t).map fun z=>z.map .v
theorem zU {t:TypeId} {l:List AV} (ho:o.op=.alloc t) (hz:tyZeroA P t=some l):Nk P gm env V o (fun j=>.ptr j 0) (.cells l t true):=by
 unfold tyZeroA at hz;cases e:tyZero P t with
 | none=>rw [e] at hz; cases hz
 | some z=>rw [e] at hz; cases hz; exact zli ho e
def apOf (P:Program) (t:TypeId):Option (TypeId×Nat×Nat):=match P.underlying t with
 | some (.slice e)=>match P.info? e with
  | some ti=>match ti.zero with
   | some z=>if z.cells.size=ti.size/\0<ti.size then some (e,ti.size,ti.bytes) else none
   | none=>none
  | none=>none
 | _=>none
theorem a_app {s x:Operand} {t e:TypeId} {size bytes i n m:Nat} {lo ln:List AV} {u:AV} (ho:o.op=.call { callee:=.builtin .append,args:=#[s,x],argTypes:=#[t,t] }) (ht:apOf P t=some (e,size,bytes)) (hs:zo gm env s=some (.row i n)) (hm:(i,.row lo e size)∈V) (hlo:lo.length=n*size) (hx:zo gm env x=some u) (hsrc:srcO V size u m ln) (hm0:0<m) (hone:ln.all oneA=true) (hmax:n+m<=maxLen) (hbytes:(n+m)*bytes<=140737488355328) :
  ∀ A,zQ V A->OpOk P gm env A o (.row A.length (n+m)) (A.set i .gone++[.row (lo++ln) e size]):=by
 unfold apOf at ht;split at ht
 ·rename_i e' h1;split at ht
  ·rename_i ti h2;split at ht
   ·rename_i z h3;split at ht
    ·rename_i h4;cases ht;exact zi0 ho h1 h2 h3 h4.1 rfl rfl h4.2 hs hm hlo hx hsrc hm0 hone hmax hbytes
    ·cases ht
   ·cases ht
  ·cases ht
 ·cases ht
inductive ResK (P:Program) (K:KV) (env:List AV):ResultVar->AV->Prop
 | tmp {t:Nat} {r:AV}:env[t]? =some r->ResK P K env (.tmp t) r
 | cell {a t i off n:Nat} {ob:AObj} {l:List AV}:env[a]? =some (.ptr i off)->tySize P t=some (true,n)->(i,ob)∈K->takeO ob off n=some l->ResK P K env (.cell a t) (.agg l)
 | cell1 {a t i off n:Nat} {ob:AObj} {r:AV}:env[a]? =some (.ptr i off)->tySize P t=some (false,n)->(i,ob)∈K->takeO ob off 1=some [r]->ResK P K env (.cell a t) r
theorem zV {t:Nat} (h:env[t]? =some r):ResK P K env (.tmp t) r:=.tmp h
theorem yX {a t i off n:Nat} {l:List AV} (h:env[a]? =some (.ptr i off)) (ht:tySize P t=some (true,n)) (hm:(i,ob)∈K) (hl:takeO ob off n=some l):ResK P K env (.cell a t) (.agg l):=.cell h ht hm hl
theorem yV {a t i off n:Nat} (h:env[a]? =some (.ptr i off)) (ht:tySize P t=some (false,n)) (hm:(i,ob)∈K) (hl:takeO ob off 1=some [r]):ResK P K env (.cell a t) r:=.cell1 h ht hm hl
theorem zcA {l:List AV} {t:Nat} (h:l[t]? =some r):l.getD t .any=r:=by rw [List.getD_eq_getElem?_getD,h]; rfl
theorem ResK.res {v:ResultVar} (h:ResK P K env v r) {A:List AObj} (hA:zQ K A):resA1 P env A v=some r:=by
 cases h with
 | tmp h=>simp only [resA1,zcA h]
 | cell h ht hm hl=>simp only [resA1,zcA h,varA,ht,vU (hA.get hm),hl]
 | cell1 h ht hm hl=>simp only [resA1,zcA h,varA,ht,vU (hA.get hm),hl]
inductive ResKs (P:Program) (K:KV) (env:List AV):List ResultVar->List AV->Prop
 | nil:ResKs P K env [] []
 | cons {v:ResultVar} {r:AV} {vs:List ResultVar} {rs:List AV}:ResK P K env v r->ResKs P K env vs rs->ResKs P K env (v::vs) (r::rs)
theorem ResKs.res {vs:List ResultVar} {rs:List AV} (h:ResKs P K env vs rs) {A:List AObj} (hA:zQ K A):resAs P env A vs=some rs:=by
 induction h with
 | nil=>rfl
 | cons h _ ih=>simp only [resAs,h.res hA,ih]
theorem yK {v:ResultVar} (h:ResK P K env v r):∀ A,zQ K A->resA P [v] env A=some r:=fun A hA=>by
 simp only [resA,resAs,h.res hA]
theorem ve {vs:List ResultVar} {rs:List AV} (h:ResKs P K env vs rs) (hl:(rs.length==1)=false):∀ A,zQ K A->resA P vs env A=some (.tup rs):=fun A hA=>by
 unfold resA;rw [h.res hA];split
 ·rename_i e; cases e; cases hl
 ·rename_i e; cases e; rfl
 ·rename_i e; cases e
end
def liveA (live:List Nat):Nat->List AV->List AV
 | _,[]=>[]
 | i,a::l=>(bif live.elem i then a else .any)::liveA live (i+1) l
def liveB (live:List Nat):Nat->List AV->List Bool
 | _,[]=>[]
 | i,_::l=>live.elem i::liveB live (i+1) l
theorem uV (live:List Nat):∀ (i:Nat) (l:List AV),maskA (liveB live i l) l=liveA live i l
 | _,[]=>rfl
 | i,a::l=>by
  unfold liveA liveB;cases h:live.elem i
  ·show AV.any::maskA (liveB live (i+1) l) l=_;rw [uV live (i+1) l]; rfl
  ·show a::maskA (liveB live (i+1) l) l=_;rw [uV live (i+1) l]; rfl
theorem TK.maskL {P:Program} {gm:Nat->Option Nat} {T:Goroutine->Hp->Prop} {Y:KX P gm T} {ds:List Nat} {k:List Item} {env:List AV} {K:KV} (live:List Nat) (h:TK Y ds k (liveA live 0 env) K):TK Y ds k env K:=TK.mask _ (uV live 0 env) h
theorem zn {env env':List AV} {x:Option Nat} {d:Nat} {r:AV} (h:x=some d) (he:env.set d r=env'):zR env x r=env':=by subst h; exact he
theorem putN {env:List AV} {x:Option Nat} {r:AV} (h:x=none):zR env x r=env:=by subst h; rfl
section
variable {P:Program} {gm:Nat->Option Nat} {T:Goroutine->Hp->Prop} {Y:KX P gm T} {ds:List Nat} {k:List Item} {env env':List AV} {K:KV} {ops:Array Oper} {i d:Nat} {o:Oper} {r:AV} {rest:List Nat}
theorem TK.a (ho:ops[i]? =some o) (hq:∀ A,zQ K A->OpOk P gm env A o r A) (h:TK Y ds (.inRegion ops rest::k) env' K) (hd:yf o.op=false:=by rfl) (hw:zO ops env o=some true:=by rfl) (hx:o.dst=some d:=by rfl) (he:env.set d r=env':=by simp only [List.set]; rfl):TK Y ds (.inRegion ops (i::rest)::k) env K :=
 TK.q ho hd hw hq (zn hx he) h
end
theorem RelH.turn {φ:Nat->Loc3} {A:List AObj} {F H:Hp} (h:RelH φ A F H) {i:Nat} {o o':AObj} (hi:A[i]? =some o) (ho:RelO φ A.length (φ i) H o->RelO φ A.length (φ i) H o') (hx:o'.excl=true->o.excl=true) (hl:o'.live=true->o.live=true) (hs:sol (φ i) o'->sol (φ i) o):RelH φ (A.set i o') F H:=by
 have hlt:i<A.length:=(lD.1 hi).1;have hget:∀ (j:Nat) q,(A.set i o')[j]? =some q->(j≠i/\A[j]? =some q)\/(j=i/\q=o'):=fun j q hj=>by
  rw [lX] at hj;split at hj
  ·rename_i e;subst e;simp [hlt] at hj;exact .inr ⟨rfl,hj.symm⟩
  ·rename_i e;exact .inl ⟨Ne.symm e,hj⟩
 refine ⟨fun j q hj=>?_,fun j k q1 q2 hj hk hjk he hl' hs1 hs2=>?_,h.fr,fun j q hj he hsj=>?_⟩
 ·rw [List.length_set];rcases hget j q hj with ⟨_,hj'⟩ | ⟨rfl,rfl⟩
  ·exact h.obj j q hj'
  ·exact ho (h.obj j o hi)
 ·rcases hget j q1 hj with ⟨_,hj'⟩ | ⟨rfl,rfl⟩
  ·rcases hget k q2 hk with ⟨_,hk'⟩ | ⟨rfl,rfl⟩
   ·exact h.apart j k q1 q2 hj' hk' hjk he hl' hs1 hs2
   ·exact h.apart j k q1 o hj' hi hjk he (hl hl') hs1 (hs hs2)
  ·rcases hget k q2 hk with ⟨_,hk'⟩ | ⟨rfl,rfl⟩
   ·exact h.apart j k o q2 hi hk' hjk (hx he) hl' (hs hs1) hs2
   ·exact absurd rfl hjk
 ·rcases hget j q hj with ⟨_,hj'⟩ | ⟨rfl,rfl⟩
  ·exact h.frx j q hj' he hsj
  ·exact h.frx j o hi (hx he) (hs hsj)
theorem RelH.virtO {φ:Nat->Loc3} {A:List AObj} {F H:Hp} (h:RelH φ A F H) {o:AObj} (ho:∀ (φ:Nat->Loc3) n,RelO φ n ⟨0,0,0⟩ H o) (hs:¬ sol ⟨0,0,0⟩ o):RelH (upd3 φ A.length ⟨0,0,0⟩) (A++[o]) F H:=by
 have hlen:(A++[o]).length=A.length+1:=by simp
 have hget:∀ (i:Nat) o',(A++[o])[i]? =some o'->(i<A.length/\A[i]? =some o')\/(i=A.length/\o'=o):=fun i o' hi=>by
  rcases mR i A.length with hlt | hge
  ·rw [List.getElem?_append_left hlt] at hi; exact .inl ⟨hlt,hi⟩
  ·rw [List.getElem?_append_right hge] at hi;have:i - A.length=0:=by
    have:=(lD.1 hi).1;simp at this;omega
   rw [this] at hi;simp at hi;exact .inr ⟨by omega,hi.symm⟩
 have hold:∀ i,i<A.length->upd3 φ A.length ⟨0,0,0⟩ i=φ i:=fun i hi=>by simp [upd3]; omega
 have hnew:upd3 φ A.length ⟨0,0,0⟩ A.length=⟨0,0,0⟩:=by simp [upd3]
 refine ⟨fun i o' hi=>?_,fun i j o1 o2 hi hj hij he hl hs1 hs2=>?_,h.fr,fun i o' hi he hsi=>?_⟩
 ·rw [hlen];rcases hget i o' hi with ⟨hlt,hi'⟩ | ⟨rfl,rfl⟩
  ·rw [hold i hlt]; exact (h.obj i o' hi').mono (yr φ _ _) oQ (fun _ _=>rfl)
  ·rw [hnew]; exact ho _ _
 ·rcases hget i o1 hi with ⟨hi1,hi'⟩ | ⟨rfl,rfl⟩
  ·rcases hget j o2 hj with ⟨hj1,hj'⟩ | ⟨rfl,rfl⟩
   ·rw [hold i hi1] at hs1 ⊢; rw [hold j hj1] at hs2 ⊢; exact h.apart i j o1 o2 hi' hj' hij he hl hs1 hs2
   ·rw [hnew] at hs2; exact absurd hs2 hs
  ·rw [hnew] at hs1; exact absurd hs1 hs
 ·rcases hget i o' hi with ⟨hlt,hi'⟩ | ⟨rfl,rfl⟩
  ·rw [hold i hlt] at hsi ⊢; exact h.frx i o' hi' he hsi
  ·rw [hnew] at hsi; exact absurd hsi hs
section
variable {P:Program} {gm:Nat->Option Nat} {T:Goroutine->Hp->Prop} {Y:KX P gm T} {ds:List Nat} {k:List Item} {env env':List AV} {K K':KV}
theorem zM.set' {φ:Nat->Loc3} {n:Nat} {ts:Array Value} (h:zM φ n env ts) {d:Nat} {a a':AV} (hd:env[d]? =some a) (hr:∀ y,RelV φ n a y->RelV φ n a' y):zM φ n (env.set d a') ts:=by
 refine ⟨by simp [h.1],fun j u y hu hy=>?_⟩;rw [lX] at hu;split at hu
 ·rename_i e;subst e;split at hu
  ·cases hu; exact hr y (h.2 d a y hd hy)
  ·cases hu
 ·exact h.2 j u y hu hy
def unrow (j:Nat):AV->AV
 | .row i n=>if i=j then .sl i 0 n else .row i n
 | a=>a
theorem um {φ:Nat->Loc3} {n j:Nat} (hb:(φ j).base=0) {a:AV} {y:Value} (h:RelV φ n a y):RelV φ n (unrow j a) y:=by
 cases a with
 | row i len =>
  show RelV φ n (if i=j then .sl i 0 len else .row i len) y;split
  ·rename_i e;subst e;obtain ⟨h1,h2,h3⟩:=uE h;unfold rowV at h3;split at h3
   ·rename_i e0;obtain ⟨b,rfl⟩:=h3;obtain rfl:len=0:=by omega
    exact .sl h1 (mL _) fun hp=>absurd hp (Nat.lt_irrefl _)
   ·rw [h3];exact .sl h1 h2 fun _=>by rw [hb]
  ·exact h
 | _=>exact h
def unrow1 (j:Nat):AV->AV
 | .agg l=>.agg (l.map (unrow j))
 | a=>unrow j a
theorem zhh {φ:Nat->Loc3} {n j:Nat} (hb:(φ j).base=0) {a:AV} {y:Value} (h:RelV φ n a y):RelV φ n (unrow1 j a) y:=by
 cases a with
 | agg l =>
  obtain ⟨ys,rfl,h1,h2⟩:=za2 h;refine .agg (by simpa using h1) fun t u z hu hz=>?_;rw [List.getElem?_map] at hu;cases e:l[t]? with
  | none=>rw [e] at hu; cases hu
  | some v=>rw [e] at hu; cases hu; exact um hb (h2 t v z e hz)
 | _=>exact um hb h
theorem TK.freeze (d:Nat) {j:Nat} {l:List AV} {e:TypeId} {s:Nat} {a:AV} (hd:env[d]? =some a) (hu:Upd K j (.row l e s) j (.cells l e false) K') (he:env.set d (unrow1 j a)=env') (h:TK Y ds k env' K'):TK Y ds k env K:=fun A hA φ H ts h1 h2 h3 h4 h5 h6=>by
 have hj:=hA.view.get hu.mem;have hb:(φ j).base=0:=(h5.obj j _ hj).2.1;subst he;refine h _ (hA.step (.set hA.view hA.nd hu)) φ H ts h1 (by simpa using h2) (by simpa using h3) (by simpa using h4) ?_ (by simpa using h6.set' hd fun y hy=>zhh hb hy);refine h5.turn hj (fun ho hl=>?_) (fun h=>by cases h) (fun _=>rfl) (fun hs=>?_)
 ·have hc:0<(φ j).cap:=by
   rcases mP (φ j).cap with e | e
   ·exact absurd (ho.1 e) hl
   ·exact e
  obtain ⟨cur,q1,q2,q3,q4,q5⟩:=ho.2.2 hc;exact ⟨true,cur,(_,0,0),q1,(fun h=>by cases h),fun t u hu=>by rw [hb,Nat.zero_add]; exact q5 t u hu⟩
 ·show 0<(φ j).cap;rcases mP (φ j).cap with e | e
  ·exact absurd ((h5.obj j _ hj).1 e) hs
  ·exact e
theorem TK.ro {j:Nat} {l:List AV} {e:TypeId} (hu:Upd K j (.cells l e true) j (.cells l e false) K') (h:TK Y ds k env K'):TK Y ds k env K:=fun A hA φ H ts h1 h2 h3 h4 h5 h6=>by
 have hj:=hA.view.get hu.mem;refine h _ (hA.step (.set hA.view hA.nd hu)) φ H ts h1 (by simpa using h2) (by simpa using h3) (by simpa using h4) (h5.turn hj (fun ho hl=>?_) (fun h=>by cases h) (fun _=>rfl) (fun hs=>hs)) (by simpa using h6);obtain ⟨rw',cur,fz,q1,_,q3⟩:=ho hl;exact ⟨rw',cur,fz,q1,(fun h=>by cases h),q3⟩
theorem zdP {main:Bool} (hT:zm P main T) {g:FuncId} {fn:Func} {c:Code} {args:List AV} {Post:AV->KV->Prop} (hf:P.funcs[g]? =some fn) (hb:fn.body=some c)
  (h:∀ Y:KX P gm T,(∀ j env K' K'' D r,(j=none\/j=some .ret)->Split K' K'' D->(∀ A',zQ K' A'->resA P fn.results.toList env A'=some r)->Post r K''->∀ A',Kn Y K' A'->Y.X.L j [] env A')->TK Y [] [.code c] (args++mB (fn.ntmps - args.length) .any) K):zq P T gm g args K Post:=by
 intro A hv hn;refine zfk hT hf hb fun X hret hend=>?_;refine h ⟨X,A,keys K⟩ (fun j env K' K'' D r hj hsp hres hp A' hA'=>?_) A ⟨hv,hn,fun i hi=>.inl hi,fun _ _ _=>rfl,mL _⟩;have hpm:=hsp.perm;have hnd:=(zS hpm).nodup_iff.1 hA'.nd;rw [yc] at hnd;have hq:∃ K',Kstep K A K' A'/\Post r K':=⟨K'',⟨hA'.view.sub fun x hx=>hpm.symm.subset (by simp [hx]),(List.nodup_append.1 hnd).1,fun i hi=>hA'.own i (by
  obtain ⟨x,hx,rfl⟩:=lY.1 hi;exact yD (hpm.symm.subset (by simp [hx]))),hA'.kept,hA'.len⟩,hp⟩
 rcases hj with rfl | rfl
 ·exact hend env A' r (hres A' hA'.view) hq
 ·exact hret env A' r (hres A' hA'.view) hq
end
section
variable {P:Program} {gm:Nat->Option Nat} {V:KV} {env:List AV} {o:Oper} {r:AV}
def byteA (b:UInt8):AV:=.v (.int .u8 b.toNat)
variable {T:Goroutine->Hp->Prop} {Y:KX P gm T} {ds:List Nat} {k:List Item} {K:KV} {ops:Array Oper} {i:Nat} {rest:List Nat} {ob:AObj} {envf:Nat->List AV}
theorem TK.loop {c:Code} (h:TK Y ds (.code c::.inLoop c::k) env K):TK Y ds (.code (.loop c)::k) env K:=fun A hA=>(h A hA).loop
theorem TK.newS {n:Nat} (ho:ops[i]? =some o) (hd:yf o.op=false) (hw:zO ops env o=some true) (hq:Nk P gm env K o (fun j=>.sl j 0 n) ob) (he:∀ j,zR env o.dst (.sl j 0 n)=envf j) (h:∀ j,j∉keys K->TK Y ds (.inRegion ops rest::k) (envf j) ((j,ob)::K)):TK Y ds (.inRegion ops (i::rest)::k) env K:=TK.new ho hd hw hq he h
end
section
variable {P:Program} {main:Bool} {T:Goroutine->Hp->Prop} {kd:CallKind} {f:FuncId} {ro:Option Nat} {ts:Array Value} {ds:List Deferred} {k:List Item} {cs:List Frame} {H:Hp} {w:World}
def ylCall (fo:Operand) (l:Nat):Call:={ callee:=.value fo,args:=#[.const (.func (.yield l) #[] #[])],argTypes:=#[] }
theorem StepH.seen {w':World} {es:Array Event} (h:StepH H w w' es):StepH H w w' (Go.seen P f es):=⟨h.size,h.kept,fun e he=>h.evs e (mem_seen he),h.os,h.out,h.tape⟩
theorem kn {α:Type} {P:Program} {s:Sem α} {w w1:World} {a:α} {es:Array Event} (h:s.runT P w #[]=(.ok a w1,es)):s.run P w=.ok a w1/\s.events P w #[]=es:=by
 have:=Sem.runT_eq P s w #[];rw [h] at this;exact ⟨(congrArg Prod.fst this).symm,(congrArg Prod.snd this).symm⟩
theorem zm.rangeF (hT:zm P main T) (hkd:kd≠.early) {fo:Operand} {ps:Array Tmp} {x y:Code}
  (h:wpS P (Instr.enterLoop f ts ps x y ro) H fun lm H1=>wpS P (resolve (evT ts) (ylCall fo lm.1) 0 >>= fun d=>invoke d.target d.args) H1 fun nx H2=>match nx with
   | .enter g us=>T (G (Frame.enter P g us .normal) (fr kd f ro ts (lm.2++ds) (.inRangeFunc lm.1::k)::cs)) H2
   | _=>False):T (G (fr kd f ro ts ds (.code (.rangeFunc fo ps x y)::k)) cs) H:=by
 refine hT _ _ Z fun w hf=>?_;obtain ⟨⟨l,mark⟩,w1,es1,h1,h2,h3⟩:=kR _ _ _ w #[] h hf;obtain ⟨nx,w2,es2,q1,q2,q3⟩:=kR _ _ _ w1 #[] h3 (hf.next h2);rw [mK] at h1 q1;cases nx with
 | enter g us =>
  refine ⟨_,_,Go.seen P f es1++Go.seen P f es2,?_,StepH.trans hf h2.seen q2.seen,rfl,by rw [<- wL h2.size q2.size hf]; exact q3⟩;have he:=zcy kd f ro ts (mark++ds) (.inRangeFunc l::k);simp only [fr] at he;obtain ⟨e1,e2⟩:=kn h1;obtain ⟨e3,e4⟩:=kn q1;simp only [ylCall] at e3 e4;simp only [G,stepG,stepG.exec,fr,Sem.runT_eq,e1,e2,stepG.apply,he,if_true,e3,e4];simp [GStep.after,hkd]
 | _=>exact q3.elim
theorem zm.endRangeF (hT:zm P main T) {l:Nat} (h:wpS P (Instr.endLoop l) H fun jump H'=>T (G (fr kd f ro ts ds ((jump.map Item.code).toList++k)) cs) H'):T (G (fr kd f ro ts ds (.endRangeFunc l::k)) cs) H:=by
 refine hT _ _ Z fun w hf=>?_;obtain ⟨jump,w1,es1,h1,h2,h3⟩:=kR _ _ _ w #[] h hf;rw [mK] at h1;refine ⟨_,_,Go.seen P f es1,?_,h2.seen,rfl,h3⟩;obtain ⟨e1,e2⟩:=kn h1;simp [G,stepG,stepG.exec,fr,Sem.runT_eq,e1,e2,GStep.after]
theorem zm.beginF (hT:zm P main T) (hkd:kd≠.early) {l:Nat} (h:wpS P (Instr.beginRound l) H fun _ H'=>T (G (fr kd f (some l) ts ds k) cs) H'):T (G (fr kd f (some l) ts ds (.beginRound::k)) cs) H:=by
 refine hT _ _ Z fun w hf=>?_;obtain ⟨nx,w1,es1,h1,h2,h3⟩:=kR (Instr.beginRound l >>= fun _=>Pure.pure Next.skip) H (fun nx H'=>nx=.skip/\T (G (fr kd f (some l) ts ds k) cs) H') w #[] (yW _ _ _ _ (zaf _ _ _ _ (fun _ _ h=>(⟨rfl,h⟩:_/\_)) h)) hf;rw [mK] at h1;obtain ⟨rfl,h3⟩:=h3;refine ⟨_,_,Go.seen P f es1,?_,h2.seen,rfl,h3⟩;obtain ⟨e1,e2⟩:=kn h1;simp only [G,stepG,stepG.exec,fr,stepG.apply,Option.elim,Sem.runT_eq,if_true,e1,e2];simp [GStep.after,Frame.finish,hkd]
theorem zm.endRoundF (hT:zm P main T) {l:Nat} {j:Option Code} (hl:Leave j k) {c:Frame} (h:wpS P (Instr.endRound l j) H fun v H'=>T (G (c.finish v) cs) H'):T (G (fr .normal f (some l) ts ds k) (c::cs)) H:=by
 refine hT _ _ Z fun w hf=>?_;obtain ⟨v,w1,es1,h1,h2,h3⟩:=kR _ _ _ w #[] h hf;rw [mK] at h1;refine ⟨_,_,Go.seen P f es1,?_,h2.seen,rfl,h3⟩;cases hl with
 | fin =>
  obtain ⟨e1,e2⟩:=kn h1;simp [G,stepG,stepG.exec,fr,Sem.runT_eq,e1,e2,GStep.after,doReturn]
 | ret k =>
  obtain ⟨e1,e2⟩:=kn h1;simp [G,stepG,stepG.exec,fr,Sem.runT_eq,e1,e2,GStep.after,doReturn]
 | exit id k he =>
  obtain ⟨e1,e2⟩:=kn h1;simp [G,stepG,stepG.exec,fr,he,Sem.runT_eq,e1,e2,GStep.after,doReturn]
theorem zm.takeF (hT:zm P main T) {b:Nat} (h:wpS P (Instr.takeDeferred b) H fun d1 H'=>T (G { fr kd f ro ts (d1++ds) k with mode:=.returning } cs) H'):T (G { fr kd f ro ts ({ target:=.collected b,args:=#[] }::ds) k with mode:=.returning } cs) H:=by
 refine hT _ _ Z fun w hf=>?_;obtain ⟨d1,w1,es1,h1,h2,h3⟩:=kR _ _ _ w #[] h hf;rw [mK] at h1;refine ⟨_,_,Go.seen P f es1,?_,h2.seen,rfl,h3⟩;obtain ⟨e1,e2⟩:=kn h1;simp [G,stepG,unwind,fr,Sem.runT_eq,e1,e2,GStep.after]
theorem vk {l:Nat} {rw':Bool} {r:Loop} (h:H l=some (rw',.loop r)) {Q:Loop->Hp->Prop} (hq:Q r H):wpS P (Instr.getLoop l) H Q:=⟨rw',_,h,rfl,rfl,hq⟩
theorem ut {l:Nat} {o0:Obj} {r:Loop} (h:H l=some (true,o0)) (h0:isCells o0=false) {Q:Unit->Hp->Prop} (hq:Q () (H.put l (true,.loop r))):wpS P (setObj l (.loop r)) H Q:=⟨o0,h,h0,rfl,hq⟩
def CallF (P:Program) (T:Goroutine->Hp->Prop) (gm:Nat->Option Nat) (yv:AV) (args:List AV) (A:List AObj) (Post:AV->List AObj->Prop):Prop :=
 ∀ (φ:Nat->Loc3) (F H:Hp) (y:Value) (vs:Array Value) (c:Frame) (cs:List Frame),F=nF->RelG gm φ A.length->RelH φ A F H->RelV φ A.length yv y->zM φ A.length args vs ->
  (∀ r A' φ' H' v,Post r A'->Agr φ φ' A.length->A.length<=A'.length->RelH φ' A' F H'->RelV φ' A'.length r v->T (G (c.finish v) cs) H') ->
  wpS P (Deferred.ofValue y vs >>= fun d=>invoke d.target d.args) H fun nx H'=>match nx with
   | .enter g us=>T (G (Frame.enter P g us .normal) (c::cs)) H'
   | .round l g us x y=>T (G (Frame.round l g us x y .normal) (c::cs)) H'
   | _=>False
theorem CallF.mono {gm:Nat->Option Nat} {yv:AV} {args:List AV} {A:List AObj} {Post Post':AV->List AObj->Prop} (h:CallF P T gm yv args A Post) (hp:∀ r A',Post r A'->Post' r A'):CallF P T gm yv args A Post' :=
 fun φ F H y vs c cs h0 h1 h2 h3 h4 k=>h φ F H y vs c cs h0 h1 h2 h3 h4 fun r A' φ' H' v x=>k r A' φ' H' v (hp r A' x)
def CallFK (P:Program) (T:Goroutine->Hp->Prop) (gm:Nat->Option Nat) (yv:AV) (args:List AV) (K:KV) (Post:AV->KV->Prop):Prop :=
 ∀ A,zQ K A->(keys K).Nodup->CallF P T gm yv args A fun r A'=>∃ K',Kstep K A K' A'/\Post r K'
theorem CallFK.mono {gm:Nat->Option Nat} {yv:AV} {args:List AV} {K:KV} {Post Post':AV->KV->Prop} (h:CallFK P T gm yv args K Post) (hp:∀ r K',Post r K'->Post' r K'):CallFK P T gm yv args K Post' :=
 fun A hv hn=>(h A hv hn).mono fun r A' ⟨K',h1,h2⟩=>⟨K',h1,hp r K' h2⟩
theorem yI {gm:Nat->Option Nat} {g:FuncId} {fs cp args:List AV} {K:KV} {Post:AV->KV->Prop} (hg:yk P g=true) (h:zq P T gm g (fs++args++cp) K Post):CallFK P T gm (.fn g fs cp) args K Post:=by
 intro A hv hn φ F H y vs c cs h0 h1 h2 h3 h4 hq;obtain ⟨xs,ys,rfl,hr1,hr2⟩:=vR h3;refine kO hg _ ?_;exact h A hv hn φ F H _ c cs h0 h1 h2 (kT (kT hr1 h4) hr2) hq
variable {gm:Nat->Option Nat}
theorem zl6 {φ:Nat->Loc3} {n i:Nat} {y:Value} (h:RelV φ n (.yl i) y):i<n/\y=.func (.yield (φ i).blk) #[] #[]:=by cases h; exact ⟨‹_›,rfl⟩
def putAll:List AV->List (Tmp×AV)->List AV
 | env,[]=>env
 | env,(t,a)::l=>putAll (env.set t a) l
theorem zce {φ:Nat->Loc3} {n:Nat}:∀ (l:List (Tmp×AV)) (l':List (Tmp×Value)) (env:List AV) (ts:Array Value),zM φ n env ts->l.map (·.1)=l'.map (·.1)->(∀ (j:Nat) x z,l[j]? =some x->l'[j]? =some z->RelV φ n x.2 z.2) ->
  zM φ n (putAll env l) (l'.foldl (fun ts z=>ts.setIfInBounds z.1 z.2) ts)
 | [],[],env,ts,h,_,_=>h
 | (t,a)::l,(t',v)::l',env,ts,h,he,hr=>by
  simp only [List.map_cons,List.cons.injEq] at he;obtain ⟨rfl,he⟩:=he;refine zce l l' _ _ ?_ he fun j x z hx hz=>hr (j+1) x z (by simpa using hx) (by simpa using hz);exact yB (a:=⟨ts,[]⟩) h (hr 0 _ _ rfl rfl) (some t)
 | [],_::_,_,_,_,he,_=>by simp at he
 | _::_,[],_,_,_,he,_=>by simp at he
theorem za4 {φ:Nat->Loc3} {A:List AObj} {F H:Hp} (h:RelH φ A F H) {i:Nat} {f:FuncId} {env:List AV} {ps:Array Tmp} {x y:Code} {st:LoopState} {pj:Option Code} (hi:A[i]? =some (.loop f env ps x y st pj)) :
  ∃ ts d,H (φ i).blk=some (true,.loop { state:=st,pending:=pj,fn:=f,tmps:=ts,params:=ps,assign:=x,body:=y,defers:=d })/\zM φ A.length env ts:=h.obj i _ hi
theorem zi8 (hT:zm P main T) {i:Nat} {f:FuncId} {env args:List AV} {ps:Array Tmp} {x y:Code} {A:List AObj} {Post:AV->List AObj->Prop} (hi:A[i]? =some (.loop f env ps x y .ready none)) (hargs:args.length=ps.size)
  (h:∀ X:Cx P gm T,X.ro=some (X.φ0 i).blk->i<X.n0->(∀ j env' A' st pj,A'[i]? =some (.loop f env ps x y st pj)->Post (.v (.bool j.isNone)) (A'.set i (.loop f env ps x y (if j.isNone then .ready else .done) j))->X.L j [] env' A') ->
   TA X [] [.code x,.beginRound,.code y] (putAll env (ps.toList.zip args)) A):CallF P T gm (.yl i) args A Post:=by
 intro φ F H y' vs c cs hF0 hg hH hy hvs hq;obtain ⟨hlt,rfl⟩:=zl6 hy;obtain ⟨ts,d,hb,hrel⟩:=za4 hH hi;have hvl:vs.size=ps.size:=by rw [<- hvs.1]; exact hargs
 have hround:∀ us,us=(ps.zip vs).foldl (fun tmps (t,a)=>tmps.setIfInBounds t a) ts->T (G (Frame.round (φ i).blk f us x y .normal) (c::cs)) H:=by
  intro us hus
  let X:Cx P gm T:={
   main,hT,φ0:=φ,n0:=A.length,F,hF0,kd:=.normal,hkd:=(fun h=>by cases h),f,ro:=some (φ i).blk,cs:=c::cs
   L:=fun j ds env' A'=>∃ st pj,A'[i]? =some (.loop f env ps x y st pj)/\Post (.v (.bool j.isNone)) (A'.set i (.loop f env ps x y (if j.isNone then .ready else .done) j))
   hL:=by
    rintro j k ds env' A' φ' H' ts' hl ⟨st,pj,hi',hp⟩ hA hlen hg' _ hH' hE;refine hT.endRoundF hl ?_;obtain ⟨ts1,d1,hb1,hrel1⟩:=za4 hH' hi';have hφ:φ' i=φ i:=hA i hlt;rw [hφ] at hb1;refine yW _ _ _ _ (vk hb1 ?_);refine yW _ _ _ _ (ut hb1 Z ?_);have hH2:=hH'.set (x:=(true,.loop { state:=if j.isNone then .ready else .done,pending:=j,fn:=f,tmps:=ts1,params:=ps,assign:=x,body:=y,defers:=d1 })) (o':=.loop f env ps x y (if j.isNone then .ready else .done) j) hi' rfl trivial ⟨ts1,d1,Hp.put_same _ _ _,hrel1⟩;rw [hφ] at hH2;exact hq _ _ _ _ _ hp hA (by simpa using hlen) hH2 (.v _) }
  have hX:=h X rfl hlt fun j env' A' st pj hi' hp=>⟨st,pj,hi',hp⟩;refine hX φ H us (Agr.refl _ _) (mL _) hg (fun d hd=>by cases hd) hH ?_;subst hus;have:=zce (n:=A.length) (φ:=φ) (ps.toList.zip args) (ps.toList.zip vs.toList) env ts hrel (by rw [List.map_fst_zip (by simp [hargs]),List.map_fst_zip (by simp [hvl])]) fun j x z hx hz=>by
   rw [List.getElem?_zip_eq_some] at hx hz;exact hvs.2 j _ _ hx.2 (by rw [<- mI]; exact hz.2)
  rw [<- Array.foldl_toList,Array.toList_zip];exact this
 show wpS P (Instr.yield (φ i).blk (#[]++vs++#[])) H _;rw [mK,Array.append_empty];refine yW _ _ _ _ (vk hb ?_);dsimp only;rw [if_neg (by simpa using hvl)];exact hround _ rfl
variable {X:Cx P gm T} {ds':List Nat} {env:List AV} {A:List AObj}
theorem TA.beginRound {i:Nat} {g:FuncId} {env0:List AV} {ps:Array Tmp} {x y:Code} {pj:Option Code} (hro:X.ro=some (X.φ0 i).blk) (hi0:i<X.n0) (hi:A[i]? =some (.loop g env0 ps x y .ready pj)) (h:TA X ds' k env (A.set i (.loop g env0 ps x y .busy pj))):TA X ds' (.beginRound::k) env A:=fun φ H ts h1 h2 h3 h4 h5 h6=>by
 rw [hro];refine X.hT.beginF X.hkd ?_;obtain ⟨ts1,d1,hb1,hrel1⟩:=za4 h5 hi;have hφ:φ i=X.φ0 i:=h1 i hi0;have hH2:=h5.set (x:=(true,.loop { state:=.busy,pending:=pj,fn:=g,tmps:=ts1,params:=ps,assign:=x,body:=y,defers:=d1 })) (o':=.loop g env0 ps x y .busy pj) hi rfl trivial ⟨ts1,d1,Hp.put_same _ _ _,hrel1⟩;rw [hφ] at hb1 hH2;refine yW _ _ _ _ (vk hb1 ?_);refine yW _ _ _ _ (ut hb1 Z ?_);have:=h φ _ ts h1 (by simpa using h2) (by simpa using h3) (by simpa using h4) hH2 (by simpa using h6);rw [hro] at this;exact this
theorem TA.rangeFunc {fo:Operand} {ps:Array Tmp} {x y:Code} {g:FuncId} {fs cp:List AV} {Post:AV->List AObj->Prop} (hro:X.ro=none) (hf:zL gm env fo=.fn g fs cp) (hg:yk P g=true)
  (hc:CallT P T gm g (fs++[.yl (A.length+1)]++cp) (A++[.raw (.deferred (some [])),.loop X.f env ps x y .ready none]) Post)
  (h:∀ r A',Post r A'->A.length+2<=A'.length->∃ st pj,(st==LoopState.busy)=false/\A'[A.length+1]? =some (.loop X.f env ps x y st pj)/\TA X (A.length::ds') ((pj.map Item.code).toList++k) env (A'.set (A.length+1) .gone)) :
  TA X ds' (.code (.rangeFunc fo ps x y)::k) env A:=fun φ H ts h1 h2 h3 h4 h5 h6=>by
 rw [hro];refine X.hT.rangeF X.hkd ?_;unfold Instr.enterLoop;dsimp only;refine yW _ _ _ _ ?_;intro r hr;refine yW _ _ _ _ ?_;intro l hl;have hH1:=h5.push (loc:=⟨r,0,0⟩) (o:=.raw (.deferred (some []))) (x:=(true,.deferred (some []))) hr rfl (Hp.put_same _ _ _);have hag1:=yr φ A.length ⟨r,0,0⟩;have hlen1:(A++[AObj.raw (.deferred (some []))]).length=A.length+1:=by simp
 have hH2:=hH1.push (loc:=⟨l,0,0⟩) (o:=.loop X.f env ps x y .ready none) (x:=(true,.loop { state:=.ready,pending:=none,fn:=X.f,tmps:=ts,params:=ps,assign:=x,body:=y,defers:=r })) hl rfl
  ⟨ts,r,Hp.put_same _ _ _,(h6.mono hag1 oQ).mono (yr _ _ _) oQ⟩
 have hag2:=yr (upd3 φ A.length ⟨r,0,0⟩) (A.length+1) ⟨l,0,0⟩;rw [hlen1] at hH2;have eA:(A++[AObj.raw (.deferred (some []))])++[.loop X.f env ps x y .ready none]=A++[.raw (.deferred (some [])),.loop X.f env ps x y .ready none]:=by simp
 rw [eA] at hH2;have hag:Agr φ (upd3 (upd3 φ A.length ⟨r,0,0⟩) (A.length+1) ⟨l,0,0⟩) A.length:=hag1.trans hag2 oQ;have hb1:(upd3 (upd3 φ A.length ⟨r,0,0⟩) (A.length+1) ⟨l,0,0⟩) A.length=⟨r,0,0⟩:=by simp [upd3]
 have hb2:(upd3 (upd3 φ A.length ⟨r,0,0⟩) (A.length+1) ⟨l,0,0⟩) (A.length+1)=⟨l,0,0⟩:=by simp [upd3]
 generalize hφ2:upd3 (upd3 φ A.length ⟨r,0,0⟩) (A.length+1) ⟨l,0,0⟩=φ2 at hH2 hag hb1 hb2;have hlen2:(A++[AObj.raw (.deferred (some [])),.loop X.f env ps x y .ready none]).length=A.length+2:=by simp
 show wpS P (resolve (evT ts) (ylCall fo l) 0 >>= fun d=>invoke d.target d.args) ((H.put r _).put l _) _;rw [show resolve (evT ts) (ylCall fo l) 0=Deferred.ofValue (evT ts fo) #[.func (.yield l) #[] #[]] by simp [resolve,ylCall,evT,Act.eval]];have hfo:=zD (a:=⟨ts,[]⟩) h3 h6 fo;rw [hf] at hfo;obtain ⟨xs,ys,e,hr1,hr2⟩:=vR hfo;have e':evT ts fo=.func (.func g) xs ys:=e;rw [e'];refine kO hg _ ?_;have hyl:RelV φ2 (A.length+2) (.yl (A.length+1)) (.func (.yield l) #[] #[]):=by
  have:=RelV.yl (φ:=φ2) (n:=A.length+2) (i:=A.length+1) oQ;rwa [hb2] at this
 refine hc φ2 X.F _ _ _ _ X.hF0 (h3.mono hag oQ) hH2 ?_ ?_
 ·rw [hlen2];exact kT (kT (hr1.mono hag oQ) (kf hyl)) (hr2.mono hag oQ)
 ·intro r' A' φ' H' v hp hA' hlen' hH' hr';rw [hlen2] at hA' hlen';obtain ⟨st,pj,hst,hloop,hTA⟩:=h r' A' hp hlen';show T (G (fr X.kd X.f none ts _ (.endRangeFunc l::k)) X.cs) H';refine X.hT.endRangeF ?_;obtain ⟨ts1,d1,hbl,_⟩:=za4 hH' hloop;have e1:φ' (A.length+1)=⟨l,0,0⟩:=(hA' _ oQ).trans hb2;have e0:φ' A.length=⟨r,0,0⟩:=(hA' _ oQ).trans hb1;have hH3:=hH'.set (x:=(true,.loop { state:=.exhausted,pending:=pj,fn:=X.f,tmps:=ts1,params:=ps,assign:=x,body:=y,defers:=d1 })) (o':=.gone) hloop rfl trivial trivial;rw [e1] at hbl hH3;refine yW _ _ _ _ (vk hbl ?_);dsimp only;rw [hst];refine yW _ _ _ _ (ut hbl Z ?_);have hagf:Agr φ φ' A.length:=hag.trans hA' oQ;have hds:dsC φ' (A.length::ds')={ target:=.collected r,args:=#[] }::dsC φ ds':=by
   show { target:=.collected (φ' A.length).blk,args:=#[] }::dsC φ' ds'=_;rw [e0];congr 1;unfold dsC;exact List.map_congr_left fun d hd'=>by rw [hagf d (h4 d hd')]
  have:=hTA φ' _ ts (h1.trans hagf h2) (by simp; omega) (by simpa using h3.mono hagf oQ) (fun d hd=>by
   rcases List.mem_cons.1 hd with rfl | hd
   ·simp; omega
   ·have:=h4 d hd; simp; omega) hH3 (by simpa using h6.mono hagf oQ)
  rw [hds,hro] at this;exact this
end
section
variable {P:Program} {gm:Nat->Option Nat} {T:Goroutine->Hp->Prop}
theorem Kstep.frame {K Kf R K':KV} {A A':List AObj} (hs:Split K Kf R) (hv:zQ K A) (hn:(keys K).Nodup) (hk:Kstep Kf A K' A'):Kstep K A (K'++R) A':=by
 have hp:=hs.perm;have hnd:=(zS hp).nodup_iff.1 hn;rw [yc] at hnd;have hnd':=List.nodup_append.1 hnd;have hR:zQ R A:=hv.sub fun x hx=>hp.symm.subset (by simp [hx]);have hRl:∀ x∈R,x.1<A.length/\x.1∉keys Kf:=fun x hx=>⟨hR.lt (yD hx),fun hm=>hnd'.2.2 x.1 hm x.1 (yD hx) rfl⟩;refine ⟨fun x hx=>?_,?_,fun j hj=>?_,fun j hj hn=>?_,hk.len⟩
 ·rcases lT.1 hx with hx | hx
  ·exact hk.view x hx
  ·rw [hk.kept _ (hRl x hx).1 (hRl x hx).2]; exact hR x hx
 ·rw [yc];refine List.nodup_append.2 ⟨hk.nd,hnd'.2.1,fun a ha b hb e=>?_⟩;subst e;obtain ⟨x,hx,rfl⟩:=lY.1 hb;rcases hk.own _ ha with h1 | h1
  ·exact (hRl x hx).2 h1
  ·have:=(hRl x hx).1; omega
 ·rw [yc] at hj;rcases lT.1 hj with hj | hj
  ·rcases hk.own j hj with h1 | h1
   ·exact .inl ((zS hp).symm.subset (by rw [yc]; exact lV _ h1))
   ·exact .inr h1
  ·exact .inl ((zS hp).symm.subset (by rw [yc]; exact List.mem_append_right _ hj))
 ·exact hk.kept j hj fun hm=>hn ((zS hp).symm.subset (by rw [yc]; exact lV _ hm))
theorem Split.view {K Kf R:KV} {A:List AObj} (hs:Split K Kf R) (hv:zQ K A) (hn:(keys K).Nodup):zQ Kf A/\(keys Kf).Nodup:=by
 have hp:=hs.perm;have hnd:=(zS hp).nodup_iff.1 hn;rw [yc] at hnd;exact ⟨hv.sub fun x hx=>hp.symm.subset (by simp [hx]),(List.nodup_append.1 hnd).1⟩
theorem zjo {X:Cx P gm T} {env:List AV} {A:List AObj} {o:Oper} {fo:Operand} {ars:Array Operand} {at_:Array TypeId} {yv:AV} {args:List AV} {Post:AV->List AObj->Prop} (hop:o.op=.call { callee:=.value fo,args:=ars,argTypes:=at_ })
  (hf:zL gm env fo=yv) (hargs:ars.toList.map (zL gm env)=args) (hc:CallF P T gm yv args A Post):Ex X env A o Post:=fun ops i rest k ds φ H ts ho hw h3 h5 h6 hq=>by
 refine X.hT.opF X.hkd ho hw (by rw [hop]; rfl) ?_;have hfo:=zD (a:=⟨ts,[]⟩) h3 h6 fo;rw [hf] at hfo;unfold execOp;rw [hop];dsimp only;have hrel:zM φ A.length args (ars.map (evT ts)):=by
  rw [<- hargs];exact kU (a:=⟨ts,[]⟩) h3 h6 ars
 have h:=hc φ X.F H _ _ (fr X.kd X.f X.ro ts ds (.inRegion ops (i::rest)::k)) X.cs X.hF0 h3 h5 hfo hrel fun r A' φ' H' v hp hA hlen hH' hr=>by
  have hfin:=kb X.kd X.f X.ro ts ds ops i rest k v;simp only [ho,Option.bind_some] at hfin;rw [hfin];exact hq r A' φ' H' v hp hA hlen hH' hr
 refine zaf _ _ _ _ ?_ h;intro nx H' hnx;cases nx <;> first | exact hnx | exact hnx.elim
variable {Y:KX P gm T} {ds:List Nat} {k:List Item} {env env':List AV} {K K':KV} {ops:Array Oper} {i:Nat} {rest L L':List Nat} {o:Oper} {r:AV} {pend pend':List Pd}
theorem zc3 {fo:Operand} {ars:Array Operand} {at_:Array TypeId} {yv:AV} {args:List AV} {Kf R:KV} {Post:AV->KV->Prop} (hop:o.op=.call { callee:=.value fo,args:=ars,argTypes:=at_ })
  (hf:zL gm env fo=yv) (hargs:ars.toList.map (zL gm env)=args) (hc:CallFK P T gm yv args Kf Post) (hs:Split K Kf R) {Q:AV->KV->Prop} (hq:∀ r K',Post r K'->Q r (K'++R)):ExK Y env K o Q:=fun A hA=>by
 obtain ⟨hv,hn⟩:=hs.view hA.view hA.nd;exact (zjo hop hf hargs (hc A hv hn)).mono fun r A' ⟨K',hk,hpost⟩=>⟨K'++R,hk.frame hs hA.view hA.nd,hq r K' hpost⟩
theorem TK.callF' {fo:Operand} {ars:Array Operand} {at_:Array TypeId} {yv:AV} {args:List AV} {Kf R:KV} {Post:AV->KV->Prop} (ho:ops[i]? =some o) (hw:zO ops env o=some true) (hop:o.op=.call { callee:=.value fo,args:=ars,argTypes:=at_ })
  (hf:zo gm env fo=some yv) (hargs:ars.toList.map (zL gm env)=args) (hc:CallFK P T gm yv args Kf Post) (hs:Split K Kf R)
  (h:∀ r K',Post r K'->TK Y ds (.inRegion ops rest::k) (zR env o.dst r) (K'++R)):TK Y ds (.inRegion ops (i::rest)::k) env K:=TK.ex ho hw (zc3 hop (zy hf) hargs hc hs h)
theorem TD.callF' {fo:Operand} {ars:Array Operand} {at_:Array TypeId} {yv:AV} {args:List AV} {Kf R:KV} {Post:AV->KV->Prop} (s:List Nat) (ho:ops[i]? =some o) (hw:zO ops (onl s env) o=some true) (hp':pendOf ops i pend=pend') (hc':chkC ops pend' L' s i o.dst=true) (hop:o.op=.call { callee:=.value fo,args:=ars,argTypes:=at_ })
  (hf:zo gm (onl s env) fo=some yv) (hargs:ars.toList.map (zL gm (onl s env))=args) (hc:CallFK P T gm yv args Kf Post) (hs:Split K Kf R)
  (h:∀ r K',Post r K'->(∀ p∈pend',∀ x∈p.V,x∈K'++R)/\TD Y ds ops k pend' L' (zR env o.dst r) (K'++R)):TD Y ds ops k pend (i::L') env K:=TD.c s ho hw hp' hc' (zc3 hop (zy hf) hargs hc hs h)
theorem zcV {main:Bool} (hT:zm P main T) {i:Nat} {f:FuncId} {env args:List AV} {ps:Array Tmp} {x y:Code} {K:KV} {Post:AV->KV->Prop} (hi:(i,.loop f env ps x y .ready none)∈K) (hargs:args.length=ps.size)
  (h:∀ Y:KX P gm T,Y.X.ro=some (Y.X.φ0 i).blk->i<Y.X.n0 ->
   (∀ j env' K' K'' D st pj,Split K' ((i,.loop f env ps x y st pj)::K'') D->Post (.v (.bool j.isNone)) ((i,.loop f env ps x y (if j.isNone then .ready else .done) j)::K'')->∀ A',Kn Y K' A'->Y.X.L j [] env' A') ->
   TK Y [] [.code x,.beginRound,.code y] (putAll env (ps.toList.zip args)) K):CallFK P T gm (.yl i) args K Post:=by
 intro A hv hn;refine zi8 hT (hv.get hi) hargs fun X hro hi0 hret=>?_;refine h ⟨X,A,keys K⟩ hro hi0 (fun j env' K' K'' D st pj hsp hp A' hA'=>?_) A ⟨hv,hn,fun i hi=>.inl hi,fun _ _ _=>rfl,mL _⟩;have hpm:=hsp.perm;obtain ⟨hv',hn'⟩:=hsp.view hA'.view hA'.nd;refine hret j env' A' st pj (hv'.get sQ) ⟨_,?_,hp⟩;have hst:Kstep ((i,.loop f env ps x y st pj)::K'') A' ((i,.loop f env ps x y (if j.isNone then .ready else .done) j)::K'') (A'.set i (.loop f env ps x y (if j.isNone then .ready else .done) j)):=.set hv' hn' .head;have hall:=hst.frame hsp hA'.view hA'.nd;refine ⟨hst.view,hst.nd,fun t ht=>?_,fun t ht1 ht2=>?_,mT hA'.len hst.len⟩
 ·rcases hst.own t ht with h1 | h1
  ·obtain ⟨z,hz,rfl⟩:=lY.1 h1;exact hA'.own _ (yD (hpm.symm.subset (lV _ hz)))
  ·exact .inr (mT hA'.len h1)
 ·have hne:i≠t:=fun e=>ht2 (e ▸ mem_keys' hi);rw [lP hne];exact hA'.kept t ht1 ht2
theorem TK.beginRound {i:Nat} {g:FuncId} {env0:List AV} {ps:Array Tmp} {x y:Code} {pj:Option Code} (hro:Y.X.ro=some (Y.X.φ0 i).blk) (hi0:i<Y.X.n0) (hu:Upd K i (.loop g env0 ps x y .ready pj) i (.loop g env0 ps x y .busy pj) K') (h:TK Y ds k env K'):TK Y ds (.beginRound::k) env K:=fun A hA =>
 TA.beginRound hro hi0 (hA.view.get hu.mem) (h _ (hA.step (.set hA.view hA.nd hu)))
theorem TK.rangeFunc {fo:Operand} {ps:Array Tmp} {x y:Code} {g:FuncId} {fs cp:List AV} {Kf R:KV} {Post:Nat->AV->KV->Prop} {Q:Option Code->KV->Prop} (hro:Y.X.ro=none) (hf:zo gm env fo=some (.fn g fs cp)) (hg:yk P g=true) (hs:Split K Kf R)
  (hc:∀ l,l∉keys K->zq P T gm g (fs++[.yl l]++cp) ((l,.loop Y.X.f env ps x y .ready none)::Kf) (Post l))
  (hpost:∀ l r K',Post l r K'->∃ st pj K'',K'=(l,.loop Y.X.f env ps x y st pj)::K''/\(st==LoopState.busy)=false/\Q pj K'')
  (h:∀ d pj K'',Q pj K''->TK Y (d::ds) ((pj.map Item.code).toList++k) env ((d,.raw (.deferred (some [])))::(K''++R))):TK Y ds (.code (.rangeFunc fo ps x y)::k) env K:=fun A hA=>by
 have hd:A.length∉keys K:=fun hm=>absurd (hA.view.lt hm) (Nat.lt_irrefl _);have hl:A.length+1∉keys K:=fun hm=>by have:=hA.view.lt hm; omega
 have k1:=Kstep.push hA.view hA.nd (.raw (.deferred (some [])));have k2:=Kstep.push k1.view k1.nd (.loop Y.X.f env ps x y .ready none);have eA:(A++[AObj.raw (.deferred (some []))])++[.loop Y.X.f env ps x y .ready none]=A++[.raw (.deferred (some [])),.loop Y.X.f env ps x y .ready none]:=by simp
 rw [eA] at k2;have el:(A++[AObj.raw (.deferred (some []))]).length=A.length+1:=by simp
 rw [el] at k2;have hA2:=(hA.step k1).step k2;have hs2:Split ((A.length+1,.loop Y.X.f env ps x y .ready none)::(A.length,.raw (.deferred (some [])))::K) ((A.length+1,.loop Y.X.f env ps x y .ready none)::Kf) ((A.length,.raw (.deferred (some [])))::R):=.left (.right hs);obtain ⟨hvf,hnf⟩:=hs2.view k2.view k2.nd;refine TA.rangeFunc hro (zy hf) hg (hc _ hl _ hvf hnf) fun r A' ⟨K',hk,hp⟩ _=>?_;obtain ⟨st,pj,K'',rfl,hst,hq⟩:=hpost _ _ _ hp;have hA3:=hA2.step (hk.frame hs2 k2.view k2.nd);refine ⟨st,pj,hst,hA3.view.get sQ,?_⟩;refine h _ pj K'' hq _ ?_;have hnd3:=hA3.nd;rw [lB,wi,List.nodup_cons] at hnd3;have hperm:(K''++(A.length,AObj.raw (.deferred (some [])))::R).Perm ((A.length,.raw (.deferred (some [])))::(K''++R)):=List.perm_middle;refine ⟨fun z hz=>?_,?_,fun t ht=>?_,fun t ht1 ht2=>?_,by simpa using hA3.len⟩
 ·have hz':=hperm.symm.subset hz;have hne:A.length+1≠z.1:=fun e=>hnd3.1 (by have:=yD hz'; rw [<- e] at this; exact this);rw [lP hne];exact hA3.view z (lL _ hz')
 ·exact (zS hperm).nodup_iff.1 hnd3.2
 ·exact hA3.own t (lL _ ((zS hperm).symm.subset ht))
 ·have hlen:=hA.len;rw [lP oQ];exact hA3.kept t ht1 ht2
def clr:List Nat->List AObj->List AObj
 | [],A=>A
 | d::ds,A=>clr ds (A.set d .gone)
theorem zaV:∀ (ds:List Nat) (A:List AObj),(clr ds A).length=A.length
 | [],_=>rfl
 | d::ds,A=>by rw [clr,zaV ds]; simp
theorem zcu:∀ (ds:List Nat) (A:List AObj) (t:Nat),t∉ds->(clr ds A)[t]? =A[t]?
 | [],_,_,_=>rfl
 | d::ds,A,t,h=>by
  rw [clr,zcu ds _ t (fun hm=>h (by simp [hm])),lP (fun e=>h (by simp [e]))]
theorem zfd {main:Bool} (hT:zm P main T) {f:FuncId} {ts:Array Value} {φ:Nat->Loc3} {F:Hp} {cs:List Frame} {todo:List Item}:∀ (ds:List Nat) (A:List AObj) (H:Hp),(∀ d∈ds,A[d]? =some (.raw (.deferred (some []))))->ds.Nodup->RelH φ A F H ->
  (∀ H',RelH φ (clr ds A) F H'->T (G { fr .normal f none ts [] todo with mode:=.returning } cs) H')->T (G { fr .normal f none ts (dsC φ ds) todo with mode:=.returning } cs) H
 | [],A,H,_,_,hH,hq=>hq H hH
 | d::ds,A,H,hd,hn,hH,hq=>by
  have h0:=hd d sQ;have hb:H (φ d).blk=some (true,.deferred (some [])):=hH.obj d _ h0;refine hT.takeF ?_;refine yW _ _ _ _ ⟨true,_,hb,rfl,rfl,?_⟩;refine yW _ _ _ _ ⟨_,hb,rfl,rfl,?_⟩;have hH2:=hH.set (x:=(true,.deferred none)) (o':=.gone) h0 rfl trivial trivial;obtain ⟨hn1,hn2⟩:=List.nodup_cons.1 hn;exact zfd hT ds _ _ (fun d' hd'=>by
   have hne:d≠d':=fun e=>hn1 (by rw [e]; exact hd');rw [lP hne]; exact hd d' (by simp [hd'])) hn2 hH2 hq
theorem zdR {main:Bool} (hT:zm P main T) {g:FuncId} {fn:Func} {c:Code} {args:List AV} {A:List AObj} {Post:AV->List AObj->Prop} (hf:P.funcs[g]? =some fn) (hb:fn.body=some c)
  (h:∀ X:Cx P gm T,X.ro=none->(∀ j ds env A' r,(j=none\/j=some .ret)->(∀ d∈ds,A'[d]? =some (.raw (.deferred (some []))))->ds.Nodup->resA P fn.results.toList env (clr ds A')=some r->Post r (clr ds A')->X.L j ds env A') ->
   TA X [] [.code c] (args++mB (fn.ntmps - args.length) .any) A):CallT P T gm g args A Post:=by
 intro φ F H vs c0 cs hF0 hg hH hargs hfin;have hleave:∀ (k:List Item) (ds:List Nat) (env:List AV) (A':List AObj) (φ':Nat->Loc3) (H':Hp) (ts:Array Value) (r:AV),(∀ d∈ds,A'[d]? =some (.raw (.deferred (some []))))->ds.Nodup->resA P fn.results.toList env (clr ds A')=some r->Post r (clr ds A')->Agr φ φ' A.length->A.length<=A'.length->RelH φ' A' F H'->zM φ' A'.length env ts ->
   T (G { fr .normal g none ts (dsC φ' ds++[]) k with mode:=.returning } (c0::cs)) H':=fun k ds env A' φ' H' ts r hd hn hr hp hA hlen hH' hE=>(List.append_nil (dsC φ' ds)).symm ▸
  zfd hT ds A' H' hd hn hH' fun H2 hH2 =>
   hT.leaveF hf (kK hH2 (by rw [zaV]; exact hE) hr fun y hy=>hfin r _ φ' H2 y hp hA (by rw [zaV]; exact hlen) hH2 hy)
 let X:Cx P gm T:={
  main,hT,φ0:=φ,n0:=A.length,F,hF0,kd:=.normal,hkd:=(fun h=>by cases h),f:=g,ro:=none,cs:=c0::cs
  L:=fun j ds env A'=>(j=none\/j=some .ret)/\(∀ d∈ds,A'[d]? =some (.raw (.deferred (some []))))/\ds.Nodup/\∃ r,resA P fn.results.toList env (clr ds A')=some r/\Post r (clr ds A')
  hL:=by
   rintro j k ds env A' φ' H' ts hl ⟨hj,hd,hn,r,hr,hp⟩ hA hlen hg' _ hH' hE;cases hl with
   | fin=>exact hT.ctlF rfl (fun _=>wW) rfl (hleave _ ds env A' φ' H' ts r hd hn hr hp hA hlen hH' hE)
   | ret k=>exact hT.ctlF rfl (fun _=>vx) rfl (hleave _ ds env A' φ' H' ts r hd hn hr hp hA hlen hH' hE)
   | exit id k _=>rcases hj with hj | hj <;> cases hj }
 rw [wh vs hf hb];exact h X rfl (fun j ds env A' r hj hd hn hr hp=>⟨hj,hd,hn,r,hr,hp⟩) φ H _ (Agr.refl _ _) (mL _) hg (fun d hd=>by cases hd) hH (y7 hargs _)
theorem zdQ {main:Bool} (hT:zm P main T) {g:FuncId} {fn:Func} {c:Code} {args:List AV} {Post:AV->KV->Prop} (hf:P.funcs[g]? =some fn) (hb:fn.body=some c)
  (h:∀ Y:KX P gm T,Y.X.ro=none->(∀ j ds env K' K1 K'' D1 D2 r,(j=none\/j=some .ret)->Split K' K1 D1->ds.Nodup->(∀ d∈ds,(d,.raw (.deferred (some [])))∈D1)->Split K1 K'' D2->(∀ A',zQ K1 A'->resA P fn.results.toList env A'=some r)->Post r K''->∀ A',Kn Y K' A'->Y.X.L j ds env A') ->
   TK Y [] [.code c] (args++mB (fn.ntmps - args.length) .any) K):zq P T gm g args K Post:=by
 intro A hv hn;refine zdR hT hf hb fun X hro hret=>?_;refine h ⟨X,A,keys K⟩ hro (fun j ds env K' K1 K'' D1 D2 r hj hs1 hdn hds hs2 hres hp A' hA'=>?_) A ⟨hv,hn,fun i hi=>.inl hi,fun _ _ _=>rfl,mL _⟩;have hp1:=hs1.perm;have hnd:=(zS hp1).nodup_iff.1 hA'.nd;rw [yc] at hnd;have hnd':=List.nodup_append.1 hnd;have hdk:∀ d∈ds,d∈keys D1:=fun d hd=>mem_keys' (hds d hd);have hv1:zQ K1 (clr ds A'):=fun x hx=>by
  rw [zcu _ _ _ (fun hm=>hnd'.2.2 x.1 (yD hx) x.1 (hdk _ hm) rfl)];exact hA'.view x (hp1.symm.subset (by simp [hx]))
 obtain ⟨hv2,hn2⟩:=hs2.view hv1 hnd'.1;refine hret j ds env A' r hj (fun d hd=>hA'.view _ (hp1.symm.subset (List.mem_append_right _ (hds d hd)))) hdn (hres _ hv1) ⟨K'',⟨hv2,hn2,fun t ht=>?_,fun t ht1 ht2=>?_,?_⟩,hp⟩
 ·obtain ⟨z,hz,rfl⟩:=lY.1 ht;refine hA'.own _ (yD (hp1.symm.subset ?_));exact lV _ (hs2.perm.symm.subset (lV _ hz))
 ·rw [zcu _ _ _ (fun hm=>?_)]
  ·exact hA'.kept t ht1 ht2
  ·have:t∈keys K':=(zS hp1).symm.subset (by rw [yc]; exact List.mem_append_right _ (hdk t hm));rcases hA'.own t this with h1 | h1
   ·exact ht2 h1
   ·have h2:A.length<=t:=h1;have h3:t<A.length:=ht1;omega
 ·rw [zaV]; exact hA'.len
end
section
variable {P:Program} {gm:Nat->Option Nat} {T:Goroutine->Hp->Prop} {Y:KX P gm T} {ds:List Nat} {k:List Item} {V:KV} {env env':List AV} {K K':KV} {ops:Array Oper} {i:Nat} {rest:List Nat} {o:Oper} {r:AV} {pend pend':List Pd} {L':List Nat}
def IntEs (es:List MapEntry):Prop:=∀ en∈es,∃ k v,en.key=.int .i64 k/\en.val=.int .i64 v
def valOf:Value->Int | .int _ v=>v | _=>0
def fiM (n:Int):List MapEntry->Nat->Option (Nat×Value)
 | [],_=>none
 | en::es,i=>if valOf en.key=n then some (i,en.val) else fiM n es (i+1)
def getM (n:Int):List MapEntry->Int
 | []=>0
 | en::es=>if valOf en.key=n then valOf en.val else getM n es
theorem zbf {ik:IntKind} {n:Int}:∀ (es:List MapEntry) (i:Nat),IntEs es->Instr.findNow (.int ik) (.int .i64 n) es i=some (fiM n es i)
 | [],_,_=>rfl
 | en::es,i,h=>by
  obtain ⟨k,v,hk,hv⟩:=h en sQ;have ih:=zbf es (i+1) (fun e he=>h e (by simp [he])) (ik:=ik) (n:=n);simp only [Instr.findNow,fiM,hk,Instr.sameNow,valOf,if_true];by_cases e:n=k
  ·subst e; simp
  ·have e':(n==k)=false:=by simpa using e
   rw [e',if_neg (fun h=>e h.symm)];exact ih
theorem zd9 {n:Int}:∀ (es:List MapEntry) (i:Nat),getM n es=match fiM n es i with | some (_,v)=>valOf v | none=>0
 | [],_=>rfl
 | en::es,i=>by
  simp only [getM,fiM];split
  ·rfl
  ·exact zd9 es (i+1)
theorem za0 {n:Int}:∀ (es:List MapEntry) (i:Nat) {j:Nat} {v:Value},IntEs es->fiM n es i=some (j,v)->v=.int .i64 (valOf v)/\i<=j/\∃ en,es[j - i]? =some en/\en.key=.int .i64 n
 | [],_,_,_,_,h=>by cases h
 | en::es,i,j,v,hI,h=>by
  simp only [fiM] at h;obtain ⟨k,v',hk,hv⟩:=hI en sQ;split at h
  ·rename_i e;cases h;rw [hk] at e;simp only [valOf] at e;subst e;exact ⟨by rw [hv]; rfl,mL _,en,by simp,hk⟩
  ·obtain ⟨h1,h2,en',h3,h4⟩:=za0 es (i+1) (fun e he=>hI e (by simp [he])) h;exact ⟨h1,oQ,en',by rw [show j - i=(j - (i+1))+1 by omega]; simpa using h3,h4⟩
def MapOk (ob:Obj) (f:Int->Int):Prop:=∃ es clock,ob=.map es clock/\IntEs es.toList/\∀ n,getM n es.toList=f n
def upM (ob:Obj) (n v:Int):Obj:=match ob with
 | .map es clock=>match fiM n es.toList 0 with
  | some (i,_)=>.map (es.modify i fun e=>{ e with key:=.int .i64 n,val:=.int .i64 v }) clock
  | none=>.map (es.push { key:=.int .i64 n,val:=.int .i64 v,born:=clock }) (clock+1)
 | ob=>ob
theorem zhQ:MapOk (.map #[] 0) fun _=>0:=⟨#[],0,rfl,fun _ h=>by simp at h,fun _=>rfl⟩
theorem zea {n v:Int}:∀ (es:List MapEntry) (i j:Nat) (w:Value),IntEs es->fiM n es i=some (j,w)->∀ m,getM m (es.modify (j - i) fun e=>{ e with key:=.int .i64 n,val:=.int .i64 v })=if m=n then v else getM m es
 | [],_,_,_,_,h,_=>by cases h
 | en::es,i,j,w,hI,h,m=>by
  obtain ⟨k,v',hk,hv⟩:=hI en sQ;simp only [fiM] at h;split at h
  ·rename_i e;cases h;rw [Nat.sub_self,List.modify_zero_cons];show (if n=m then v else getM m es)=if m=n then v else (if valOf en.key=m then valOf en.val else getM m es)
   by_cases e2:m=n
   ·subst e2; simp
   ·rw [if_neg (fun h:n=m=>e2 h.symm),if_neg e2,e,if_neg (fun h:n=m=>e2 h.symm)]
  ·rename_i hne;have hle:=(za0 es (i+1) (fun e he=>hI e (by simp [he])) h).2.1;rw [show j - i=(j - (i+1))+1 by omega,List.modify_succ_cons];simp only [getM];rw [zea es (i+1) j w (fun e he=>hI e (by simp [he])) h m];by_cases e2:m=n
   ·subst e2; rw [if_neg hne,if_pos rfl,if_pos rfl]
   ·rw [if_neg e2,if_neg e2]
theorem zd8 {n v:Int} {c:Nat}:∀ (es:List MapEntry) (i:Nat),fiM n es i=none->∀ m,getM m (es++[{ key:=.int .i64 n,val:=.int .i64 v,born:=c }])=if m=n then v else getM m es
 | [],_,_,m=>by
  show (if n=m then v else 0)=if m=n then v else 0
  by_cases e:m=n
  ·subst e; simp
  ·rw [if_neg (fun h:n=m=>e h.symm),if_neg e]
 | en::es,i,h,m=>by
  simp only [fiM] at h;split at h
  ·cases h
  ·rename_i hne;simp only [lB,getM];rw [zd8 es (i+1) h m];by_cases e:m=n
   ·subst e; rw [if_neg hne,if_pos rfl,if_pos rfl]
   ·rw [if_neg e,if_neg e]
theorem zm4 {ob:Obj} {f:Int->Int} {n v:Int} (h:MapOk ob f):MapOk (upM ob n v) fun m=>if m=n then v else f m:=by
 obtain ⟨es,c,rfl,hI,hf⟩:=h;unfold upM;dsimp only;cases e:fiM n es.toList 0 with
 | none =>
  refine ⟨_,_,rfl,fun en he=>?_,fun m=>?_⟩
  ·rw [Array.toList_push] at he;rcases lT.1 he with he | he
   ·exact hI en he
   ·rw [List.mem_singleton.1 he]; exact ⟨n,v,rfl,rfl⟩
  ·rw [Array.toList_push,zd8 _ 0 e,hf]
 | some x =>
  obtain ⟨j,w⟩:=x;refine ⟨_,_,rfl,fun en he=>?_,fun m=>?_⟩
  ·rw [Array.toList_modify] at he;obtain ⟨t,ht⟩:=List.mem_iff_getElem?.1 he;rw [List.getElem?_modify] at ht;cases e2:es.toList[t]? with
   | none=>rw [e2] at ht; cases ht
   | some e0 =>
    rw [e2] at ht;simp only [Option.map_eq_map,Option.map_some,Option.some.injEq] at ht;split at ht
    ·subst ht; exact ⟨n,v,rfl,rfl⟩
    ·subst ht; exact hI _ (List.mem_of_getElem? e2)
  ·rw [Array.toList_modify];have:=zea (v:=v) es.toList 0 j w hI e m;rw [Nat.sub_zero] at this;rw [this,hf]
theorem za3 {φ:Nat->Loc3} {n i:Nat} {y:Value} (h:RelV φ n (.map i) y):i<n/\y=.map (some (φ i).blk):=by cases h; exact ⟨‹_›,rfl⟩
theorem zaS {H:Hp} {e:Bool} {t:TypeId} {v:Value} {ik:IntKind} (h:P.underlying t=some (.int ik)) {Q:Unit->Hp->Prop} (hq:Q () H):wpS P (Instr.checkKey e 10000 t v) H Q:=by
 show wpS P (Instr.checkKey e (9999+1) t v) H Q;unfold Instr.checkKey;refine ze _ _ _ (zG h ?_);dsimp only;exact hq
theorem zbr {H:Hp} {t:TypeId} {n:Int} {ik:IntKind} (h:P.underlying t=some (.int ik)) {es:List MapEntry} (hI:IntEs es) {Q:Option (Nat×Value)->Hp->Prop} (hq:Q (fiM n es 0) H):wpS P (Instr.findKey t (.int .i64 n) es) H Q:=by
 unfold Instr.findKey;refine ze _ _ _ (zG h ?_);rw [zbf es 0 hI];exact hq
theorem zdf {t:TypeId} (ho:o.op=.makeMap t none):Nk P gm env V o (fun j=>.map j) (.raw (.map #[] 0)):=fun A _ φ F H a hg hH hE=>by
 unfold execOp; rw [ho];refine wpS_v ?_;unfold Instr.makeMap;refine ze _ _ _ ?_;intro r hr;refine ⟨_,upd3 φ A.length ⟨r,0,0⟩,.inl rfl,yr _ _ _,by simp,hH.push hr Z (Hp.put_same _ _ _),?_⟩;have:=RelV.map (φ:=upd3 φ A.length ⟨r,0,0⟩) (n:=(A++[AObj.raw (.map #[] 0)]).length) (i:=A.length) sQ;simpa [upd3] using this
theorem zeM {t kt et:TypeId} {x y:Operand} {j:Nat} {n:Int} {ob:Obj} {f:Int->Int} {ti:TypeInfo} (ho:o.op=.lookup t x y false) (hx:zo gm env x=some (.map j)) (hy:zo gm env y=some (.v (.int .i64 n))) (ht:P.underlying t=some (.map kt et)) (hk:P.underlying kt=some (.int .i64)) (hi:P.info? et=some ti) (hz:ti.zero=some (.int .i64 0)) (hm:(j,.raw ob)∈V) (hf:MapOk ob f):Qk P gm env V o (.v (.int .i64 (f n))):=fun A hA φ F H a hg hH hE=>by
 unfold execOp; rw [ho];refine wpS_v ?_;have h1:=zD hg hE x;rw [zy hx] at h1;obtain ⟨hj,e1⟩:=za3 h1;have h2:=zD hg hE y;rw [zy hy] at h2;rw [e1,inv_v h2];obtain ⟨es,c,rfl,hI,hfn⟩:=hf;have hb:H (φ j).blk=some (true,.map es c):=hH.obj j _ (hA.get hm);unfold Instr.lookup;refine ze _ _ _ (zG ht ?_);dsimp only;refine ze _ _ _ ?_;refine ⟨true,_,hb,rfl,rfl,?_⟩;refine ze _ _ _ ?_;rw [ki];refine ze _ _ _ (zaS hk ?_);refine ze _ _ _ (zbr hk hI ?_);have hg':=zd9 (n:=n) es.toList 0;cases e:fiM n es.toList 0 with
 | none =>
  rw [e] at hg';refine ze _ _ _ (kj hi hz ?_);refine zX.quiet hH ?_;rw [<- hfn n,hg'];exact .v _
 | some z =>
  obtain ⟨i,v⟩:=z;rw [e] at hg';refine zX.quiet hH ?_;have:=(za0 es.toList 0 hI e).1;rw [<- hfn n,hg'];dsimp only;rw [<- this];exact .v _
theorem zfz {t kt et:TypeId} {x y z:Operand} {j:Nat} {n v:Int} {ob:Obj} {f:Int->Int} (ho:o.op=.mapUpdate t x y z) (hx:zo gm env x=some (.map j)) (hy:zo gm env y=some (.v (.int .i64 n))) (hz:zo gm env z=some (.v (.int .i64 v))) (ht:P.underlying t=some (.map kt et)) (hk:P.underlying kt=some (.int .i64)) (hm:(j,.raw ob)∈V) (hf:MapOk ob f) :
  ∀ A,zQ V A->OpOk P gm env A o .any (A.set j (.raw (upM ob n v))):=fun A hA φ F H a hg hH hE=>by
 unfold execOp; rw [ho];refine wpS_u ?_;have h1:=zD hg hE x;rw [zy hx] at h1;obtain ⟨hj,e1⟩:=za3 h1;have h2:=zD hg hE y;rw [zy hy] at h2;have h3:=zD hg hE z;rw [zy hz] at h3;rw [e1,inv_v h2,inv_v h3];obtain ⟨es,c,rfl,hI,hfn⟩:=hf;have hb:H (φ j).blk=some (true,.map es c):=hH.obj j _ (hA.get hm);have hend:∀ o',upM (.map es c) n v=o'->zX φ A F .any (A.set j (.raw (upM (.map es c) n v))) .skip (H.put (φ j).blk (true,o')):=fun o' ho'=>by
  subst ho';exact ⟨undef,φ,.inr ⟨rfl,rfl⟩,Agr.refl _ _,by simp,hH.set (hA.get hm) rfl trivial (Hp.put_same _ _ _),.any _⟩
 unfold Instr.mapUpdate;refine ze _ _ _ (zG ht ?_);dsimp only;refine ze _ _ _ ?_;refine ⟨true,_,hb,rfl,rfl,?_⟩;refine ze _ _ _ (zaS hk ?_);refine ze _ _ _ (zbr hk hI ?_);cases e:fiM n es.toList 0 with
 | none =>
  refine ⟨_,hb,rfl,rfl,?_⟩;exact hend _ (by unfold upM; dsimp only; rw [e])
 | some w =>
  obtain ⟨i,u⟩:=w;obtain ⟨_,_,en,he1,he2⟩:=za0 es.toList 0 hI e;rw [Nat.sub_zero,mI] at he1;dsimp only;refine ze _ _ _ ?_;rw [he1];simp only [Option.map_some,Option.getD_some,he2];unfold Instr.keyThatStays;rw [if_pos (by show Instr.sameBits (9999+1) _ _=true; simp [Instr.sameBits])];refine ⟨_,hb,rfl,rfl,?_⟩;exact hend _ (by unfold upM; dsimp only; rw [e])
theorem TK.newM {ob:AObj} {envf:Nat->List AV} (ho:ops[i]? =some o) (hd:yf o.op=false) (hw:zO ops env o=some true) (hq:Nk P gm env K o (fun j=>.map j) ob) (he:∀ j,zR env o.dst (.map j)=envf j) (h:∀ j,j∉keys K->TK Y ds (.inRegion ops rest::k) (envf j) ((j,ob)::K)):TK Y ds (.inRegion ops (i::rest)::k) env K:=TK.new (f:=fun j=>.map j) ho hd hw hq he h
theorem ziX {H:Hp} {t e:TypeId} {b:Option Addr} {n c:Nat} (ht:P.underlying t=some (.slice e)) {Q:Value->Hp->Prop} (hq:Q (.bool b.isNone) H):wpS P (binOp .eql t (.slice b n c) (.slice none 0 0)) H Q:=by
 show wpS P (Op.equalIn (9999+1) t (.slice b n c) (.slice none 0 0) >>= fun v=>pure (Value.bool v)) H Q;refine ze _ _ _ ?_;unfold Op.equalIn;refine ze _ _ _ (zG ht ?_);cases b <;> exact hq
theorem TK.nilT {t e yt:TypeId} {x:Operand} {j off len:Nat} (ho:ops[i]? =some o) (hop:o.op=.binOp .eql t x (.const (.slice none 0 0)) yt) (hw:zO ops env o=some true) (hx:zo gm env x=some (.sl j off len)) (ht:P.underlying t=some (.slice e))
  (h:∀ b:Bool,(b=true->len=0)->TK Y ds (.inRegion ops rest::k) (zR env o.dst (.v (.bool b))) K):TK Y ds (.inRegion ops (i::rest)::k) env K:=fun A hA φ H ts h1 h2 h3 h4 h5 h6=>by
 refine Y.X.hT.opF Y.X.hkd ho (zP h6 hw) (by rw [hop]; rfl) ?_;have hr:=zD (a:=⟨ts,[]⟩) h3 h6 x;rw [zy hx] at hr;obtain ⟨hj,cap,b,hl,hb,ey⟩:=zay hr;unfold execOp; rw [hop]; dsimp only;have e1:evT ts x=.slice b len cap:=ey;rw [e1];refine wpS_v ?_;refine ze _ _ _ ?_;show wpS P (eqGuard .eql t x _ (.slice b len cap) (.slice none 0 0)) H _;unfold eqGuard;refine ziX ht ?_;refine h b.isNone (fun hn=>?_) A hA φ H _ h1 h2 h3 h4 h5 (yB (a:=⟨ts,[]⟩) h6 (.v _) o.dst);cases b with
 | none =>
  rcases mP len with h | h
  ·exact h
  ·cases hb h
 | some _=>cases hn
theorem zeK {s x:Operand} {t e:TypeId} {ti:TypeInfo} {j n:Nat} (ho:o.op=.call { callee:=.builtin .append,args:=#[s,x],argTypes:=#[t,t] }) (ht:P.underlying t=some (.slice e)) (hi:P.info? e=some ti) (hs:zo gm env s=some (.row j n)) {u:AV} (hx:zo gm env x=some u) (hl:lenA u=some 0):Qk P gm env V o (.row j n):=fun A _ φ F H a hg hH hE=>by
 rw [yM ho];have hs':=zD hg hE s;rw [zy hs] at hs';obtain ⟨h1,h2,h3⟩:=uE hs';obtain ⟨b,c,es⟩:=zbJ h2 h3;obtain ⟨b',c',ex⟩:=zem hl (zy hx ▸ zD hg hE x);have hcap:n<=c:=by
  unfold rowV at h3;split at h3
  ·rename_i e0;have:n=0:=by omega
   omega
  ·rw [es] at h3; cases h3; exact h2
 have hend:zX φ A F (.row j n) A (.value (.slice b n c)) H:=zX.quiet hH (es ▸ hs');simp only [builtin,List.map_toArray,List.map_cons,List.map_nil];refine wpS_v ?_;rw [es,ex];unfold Builtin.append_;show wpS P (underlying t >>= _) H _;refine ze _ _ _ (zG ht ?_);dsimp only;refine ze _ _ _ (yq hi ?_);refine ze _ _ _ ?_;refine zG (t:=t) ht ?_;dsimp only;refine ze _ _ _ ?_;rw [ki];simp only [Bool.false_eq_true,if_false,Bool.not_false,if_true];refine ze _ _ _ ?_;show wpS P (if n+0<=c then _ else _) H _;rw [if_pos oQ];refine ze _ _ _ ?_;have hf:∀ Q:Array Value->Hp->Prop,Q #[] H->wpS P (Builtin.firstCells ti.size 0 (.slice b' 0 c')) H Q:=fun Q hq=>by
  cases b' with
  | none=>exact hq
  | some a =>
   show wpS P (loadCells a (0*ti.size)) H Q;rw [Nat.zero_mul];exact hq
 refine hf _ ?_;cases b with
 | none=>exact hend
 | some a=>exact hend
theorem zig {t yt:TypeId} {x y:Operand} {a:Nat} (ho:o.op=.binOp .and t x y yt) (hx:zo gm env x=some (.v (.int .i64 a))) (hy:zo gm env y=some (.v (.int .i64 1))) (h:a<9223372036854775808):Qk P gm env V o (.v (.int .i64 ((a % 2:Nat):Int))):=by
 refine wz ho hx hy ?_;show some (Value.int .i64 (IntKind.i64.wrap ((BitVec.ofInt 64 (a:Int) &&& BitVec.ofInt 64 1).toNat:Int)))=_;have:(BitVec.ofInt 64 (a:Int) &&& BitVec.ofInt 64 1).toNat=a % 2:=by
  rw [BitVec.toNat_and];have e1:(BitVec.ofInt 64 (a:Int)).toNat=a:=by
   rw [BitVec.toNat_ofInt];omega
  rw [e1];show a &&& 1=a % 2;exact Nat.and_one_is_mod a
 rw [this,ky oQ]
end
end Go.Vel
namespace Go.Vel.Mx
inductive Pc where
 | ld | l0 | r0 | sq | c1 | r1 | c2 | t1 | s1 | t2 | r2 | a1 | r3 | le | la
 | ur | ud | u0 | uc | us | ux | ue | wr | wk | d1 | d2 | d3 | d4 | quit
 deriving DecidableEq
structure Th where
 pc:Pc
 old:Nat:=0
 nw:Nat:=0
 aw:Bool:=false
 sv:Bool:=false
 it:Nat:=0
structure Sh where
 mu:Nat
 ms:Nat
abbrev lk (x:Nat):Nat:=x % 2
abbrev wk (x:Nat):Nat:=x / 2 % 2
abbrev st (x:Nat):Nat:=x / 4 % 2
abbrev wt (x:Nat):Nat:=x / 8
def newOf (x:Nat) (aw sv:Bool):Nat :=
 (if st x=0 then 1 else lk x)+2*(if aw then 0 else wk x)+4*(if sv/\lk x=1 then 1 else st x)+8*(if lk x=1\/st x=1 then wt x+1 else wt x)
def hd (T:Th):Th:=if lk T.old=1/\st T.old=0 then { T with pc:=.sq } else { T with pc:=.c2,nw:=newOf T.old T.aw T.sv }
def hdU (x:Nat):Th:=if wt x=0\/x % 8≠0 then { pc:=.ue } else { pc:=.uc,old:=x,nw:=x - 8+2 }
inductive Mv:Th->Sh->Th->Sh->Prop
 | ld {T s} (h:T.pc=.ld):Mv T s { pc:=.l0 } s
 | l0h {T s} (h:T.pc=.l0) (h1:s.mu=0):Mv T s { pc:=.le } { s with mu:=1 }
 | l0m {T s} (h:T.pc=.l0) (h1:s.mu≠0):Mv T s { pc:=.r0 } s
 | r0 {T s} (h:T.pc=.r0):Mv T s (hd { pc:=.r0,old:=s.mu }) s
 | sqn {T s} (h:T.pc=.sq):Mv T s { T with pc:=.c2,nw:=newOf T.old T.aw T.sv } s
 | sqc {T s} (h:T.pc=.sq) (h0:T.it<4) (h1:T.aw=false) (h2:wk T.old=0) (h3:wt T.old≠0):Mv T s { T with pc:=.c1 } s
 | sqr {T s} (h:T.pc=.sq) (h0:T.it<4) (h1:¬ (T.aw=false/\wk T.old=0/\wt T.old≠0)):Mv T s { T with pc:=.r1 } s
 | c1h {T s} (h:T.pc=.c1) (h1:s.mu=T.old):Mv T s { T with pc:=.r1,aw:=true } { s with mu:=T.old+2 }
 | c1m {T s} (h:T.pc=.c1) (h1:s.mu≠T.old):Mv T s { T with pc:=.r1 } s
 | r1 {T s} (h:T.pc=.r1):Mv T s (hd { T with old:=s.mu,it:=T.it+1 }) s
 | c2t {T s} (h:T.pc=.c2) (h1:s.mu=T.old) (h2:lk T.old=0) (h3:st T.old=0):Mv T s { pc:=.le } { s with mu:=T.nw }
 | c2r {T s} (p:Pc) (hp:p=.t1\/p=.s1) (h:T.pc=.c2) (h1:s.mu=T.old) (h2:lk T.old=1\/st T.old=1):Mv T s { T with pc:=p } { s with mu:=T.nw }
 | c2m {T s} (h:T.pc=.c2) (h1:s.mu≠T.old):Mv T s { T with pc:=.r3 } s
 | t1 {T s} (h:T.pc=.t1):Mv T s { T with pc:=.s1 } s
 | s1 {T s} (h:T.pc=.s1) (h1:s.ms≠0):Mv T s { T with pc:=.t2 } { s with ms:=s.ms - 1 }
 | s1s {T s} (h:T.pc=.s1) (h1:s.ms≠0) (h2:T.sv=true):Mv T s { T with pc:=.r2 } { s with ms:=s.ms - 1 }
 | t2 {T s} (b:Bool) (h:T.pc=.t2):Mv T s { T with pc:=.r2,sv:=b } s
 | r2n {T s} (h:T.pc=.r2) (h1:st s.mu=0):Mv T s (hd { T with old:=s.mu,aw:=true,it:=0 }) s
 | r2s {T s} (h:T.pc=.r2) (h1:st s.mu=1):Mv T s { T with pc:=.a1,nw:=if T.sv=false\/wt s.mu=1 then 1 else 0 } s
 | a1 {T s} (h:T.pc=.a1):Mv T s { pc:=.le } { s with mu:=s.mu+1 - 8 - 4*T.nw }
 | r3 {T s} (h:T.pc=.r3):Mv T s (hd { T with old:=s.mu }) s
 | le {T s} (h:T.pc=.le):Mv T s { pc:=.la } s
 | la {T s} (h:T.pc=.la):Mv T s { pc:=.ur } s
 | ur {T s} (h:T.pc=.ur):Mv T s { pc:=.ud } s
 | ud {T s} (h:T.pc=.ud):Mv T s { pc:=.u0 } s
 | u0z {T s} (h:T.pc=.u0) (h1:s.mu=1):Mv T s { pc:=.ue } { s with mu:=0 }
 | u0s {T s} (h:T.pc=.u0) (h1:s.mu≠1) (h2:st s.mu=1):Mv T s { pc:=.us } { s with mu:=s.mu - 1 }
 | u0n {T s} (h:T.pc=.u0) (h1:s.mu≠1) (h2:st s.mu=0):Mv T s (hdU (s.mu - 1)) { s with mu:=s.mu - 1 }
 | uch {T s} (h:T.pc=.uc) (h1:s.mu=T.old):Mv T s { pc:=.us } { s with mu:=T.nw }
 | ucm {T s} (h:T.pc=.uc) (h1:s.mu≠T.old):Mv T s { pc:=.ux } s
 | ux {T s} (h:T.pc=.ux):Mv T s (hdU s.mu) s
 | us {T s} (h:T.pc=.us):Mv T s { pc:=.ue } { s with ms:=s.ms+1 }
 | ue {T s} (h:T.pc=.ue):Mv T s { pc:=.wr } s
 | wr {T s} (h:T.pc=.wr):Mv T s { pc:=.wk } s
 | wk {T s} (h:T.pc=.wk):Mv T s { pc:=.d1 } s
 | d1 {T s} (p:Pc) (hp:p=.d2\/p=.quit) (h:T.pc=.d1):Mv T s { pc:=p } s
 | d2 {T s} (h:T.pc=.d2):Mv T s { pc:=.d3 } s
 | d3 {T s} (h:T.pc=.d3):Mv T s { pc:=.d4 } s
 | d4 {T s} (h:T.pc=.d4):Mv T s { pc:=.quit } s
def hl (T:Th):Nat:=match T.pc with | .le | .la | .ur | .ud | .u0=>1 | _=>0
def wa (T:Th):Nat:=match T.pc with | .t1 | .s1=>1 | _=>0
def kl (T:Th):Nat:=match T.pc with | .sq | .c1 | .r1 | .c2 | .r3=>if T.aw then 1 else 0 | _=>0
def kw (T:Th):Nat:=match T.pc with | .t2 | .r2 | .a1=>1 | _=>0
def ku (T:Th):Nat:=match T.pc with | .us=>1 | _=>0
def ua (T:Th):Nat:=match T.pc with | .uc | .ux=>1 | _=>0
def ka (T:Th):Nat:=match T.pc with | .a1=>1 | _=>0
def Loc (T:Th):Prop:=match T.pc with
 | .sq=>lk T.old=1/\st T.old=0/\(T.aw=true->wk T.old=1)/\(T.sv=true->T.aw=true)
 | .c1=>lk T.old=1/\st T.old=0/\T.aw=false/\T.sv=false/\wk T.old=0/\wt T.old≠0/\T.it<4
 | .c2=>(T.aw=true->wk T.old=1)/\(T.sv=true->T.aw=true)/\T.nw=newOf T.old T.aw T.sv
 | .r1=>(T.sv=true->T.aw=true)/\T.it<4
 | .r3=>T.sv=true->T.aw=true
 | .uc=>1<=wt T.old/\T.old % 8=0/\T.nw=T.old - 8+2
 | .a1=>T.nw<=1
 | _=>True
def S (p:Th->Nat) (f:Nat->Th):Nat->Nat
 | 0=>0
 | n+1=>S p f n+p (f n)
def upd (f:Nat->Th) (i:Nat) (T:Th):Nat->Th:=fun k=>if k=i then T else f k
theorem zdG {p:Th->Nat} {f:Nat->Th} {i:Nat} {T:Th}:∀ {n:Nat},n<=i->S p (upd f i T) n=S p f n
 | 0,_=>rfl
 | n+1,h=>by
  unfold S;rw [zdG (n:=n) oQ];unfold upd;rw [if_neg oQ]
theorem S_upd {p:Th->Nat} {f:Nat->Th} {i:Nat} {T:Th}:∀ {n:Nat},i<n->S p (upd f i T) n+p (f i)=S p f n+p T
 | n+1,h=>by
  unfold S;by_cases e:i=n
  ·subst e;rw [zdG (mL _)];unfold upd;rw [if_pos rfl]; omega
  ·have:=S_upd (p:=p) (f:=f) (T:=T) (n:=n) (i:=i) oQ;have e2:upd f i T n=f n:=by unfold upd; rw [if_neg oQ]
   rw [e2]; omega
theorem S_le {p q:Th->Nat} {f:Nat->Th} (h:∀ T,p T<=q T):∀ n,S p f n<=S q f n
 | 0=>mL _
 | n+1=>Nat.add_le_add (S_le h n) (h _)
theorem S_get {p:Th->Nat} {f:Nat->Th} {i:Nat}:∀ {n:Nat},i<n->p (f i)<=S p f n
 | n+1,h=>by
  unfold S;by_cases e:i=n
  ·subst e; omega
  ·have:=S_get (p:=p) (f:=f) (n:=n) (i:=i) oQ; omega
theorem S_two {p:Th->Nat} {f:Nat->Th} {i k:Nat}:∀ {n:Nat},i<n->k<n->i≠k->p (f i)+p (f k)<=S p f n
 | n+1,h1,h2,h=>by
  unfold S;by_cases e:i=n
  ·subst e; have:=S_get (p:=p) (f:=f) (n:=i) (i:=k) oQ; omega
  ·by_cases e2:k=n
   ·subst e2; have:=S_get (p:=p) (f:=f) (n:=k) (i:=i) oQ; omega
   ·have:=S_two (p:=p) (f:=f) (n:=n) (i:=i) (k:=k) oQ oQ h; omega
theorem S_pos {p:Th->Nat} {f:Nat->Th}:∀ {n:Nat},1<=S p f n->∃ i,i<n/\1<=p (f i)
 | 0,h=>by simp [S] at h
 | n+1,h=>by
  unfold S at h;by_cases e:1<=p (f n)
  ·exact ⟨n,oQ,e⟩
  ·obtain ⟨i,hi,h⟩:=S_pos (p:=p) (f:=f) (n:=n) oQ;exact ⟨i,oQ,h⟩
theorem S_add {p q:Th->Nat} {f:Nat->Th}:∀ n:Nat,S p f n+S q f n=S (fun T=>p T+q T) f n
 | 0=>rfl
 | n+1=>by have:=S_add (p:=p) (q:=q) (f:=f) n; unfold S; omega
theorem S_one {p:Th->Nat} {f:Nat->Th} (h:∀ T,p T<=1):∀ n:Nat,S p f n<=n
 | 0=>mL _
 | n+1=>by have:=S_one (f:=f) h n; have:=h (f n); unfold S; omega
structure Inv (n:Nat) (f:Nat->Th) (s:Sh):Prop where
 loc:∀ i,i<n->Loc (f i)
 hold:S hl f n=lk s.mu
 one:S kl f n+S kw f n+S ku f n+s.ms<=1
 nrm:st s.mu=0->wk s.mu=S kl f n+S kw f n+S ku f n+s.ms
 stv:st s.mu=1->wk s.mu=0/\S kl f n+S kw f n+S ku f n+s.ms+lk s.mu=1/\S kl f n=0/\1<=wt s.mu
 wn:st s.mu=0->S wa f n=wt s.mu+S ku f n+s.ms/\S ka f n=0
 ws:st s.mu=1->S wa f n+S kw f n=wt s.mu
 resp:st s.mu=0->lk s.mu=0->wk s.mu=0->1<=wt s.mu->1<=S ua f n
 a1w:∀ i,i<n->(f i).pc=.a1->(f i).nw=0->2<=wt s.mu
theorem inv_none {f:Nat->Th}:Inv 0 f ⟨0,0⟩:=by
 refine ⟨fun i hi=>by omega,rfl,by simp [S],by simp [S],by simp,by simp [S],by simp,by simp,fun i hi=>by omega⟩
theorem zcs {p:Th->Nat} {f g:Nat->Th}:∀ {n:Nat},(∀ i,i<n->f i=g i)->S p f n=S p g n
 | 0,_=>rfl
 | n+1,h=>by
  unfold S;rw [zcs (fun i hi=>h i oQ),h n oQ]
theorem Inv.congr {n:Nat} {f g:Nat->Th} {s:Sh} (h:Inv n f s) (e:∀ i,i<n->f i=g i):Inv n g s:=by
 have e':∀ p,S p g n=S p f n:=fun p=>(zcs e).symm;refine ⟨fun i hi=>by rw [<- e i hi]; exact h.loc i hi,by rw [e']; exact h.hold,by rw [e',e',e']; exact h.one,fun x=>by rw [e',e',e']; exact h.nrm x,fun x=>by rw [e',e',e']; exact h.stv x,fun x=>by rw [e',e',e']; exact h.wn x,fun x=>by rw [e',e']; exact h.ws x,fun a b c d=>by rw [e']; exact h.resp a b c d,fun i hi=>by rw [<- e i hi]; exact h.a1w i hi⟩
theorem Inv.grow {n:Nat} {f:Nat->Th} {s:Sh} (h:Inv n f s) (e:(f n).pc=.ld\/(f n).pc=.wr):Inv (n+1) f s:=by
 have z:∀ p:Th->Nat,(∀ T,T.pc=.ld\/T.pc=.wr->p T=0)->S p f (n+1)=S p f n:=fun p hp=>by
  show S p f n+p (f n)=S p f n;rw [hp _ e,Nat.add_zero]
 have e1:=z hl (fun T h=>by rcases h with h | h <;> simp [hl,h]);have e2:=z wa (fun T h=>by rcases h with h | h <;> simp [wa,h]);have e3:=z kl (fun T h=>by rcases h with h | h <;> simp [kl,h]);have e4:=z kw (fun T h=>by rcases h with h | h <;> simp [kw,h]);have e5:=z ku (fun T h=>by rcases h with h | h <;> simp [ku,h]);have e6:=z ka (fun T h=>by rcases h with h | h <;> simp [ka,h]);have e7:=z ua (fun T h=>by rcases h with h | h <;> simp [ua,h]);refine ⟨fun i hi=>?_,by rw [e1]; exact h.hold,by rw [e3,e4,e5]; exact h.one,fun x=>by rw [e3,e4,e5]; exact h.nrm x,fun x=>by rw [e3,e4,e5]; exact h.stv x,fun x=>by rw [e2,e5,e6]; exact h.wn x,fun x=>by rw [e2,e4]; exact h.ws x,fun a b c d=>by rw [e7]; exact h.resp a b c d,fun i hi hp=>?_⟩
 ·rcases mR i n with hlt | hge
  ·exact h.loc i hlt
  ·obtain rfl:i=n:=by omega
   rcases e with e | e <;> simp [Loc,e]
 ·rcases mR i n with hlt | hge
  ·exact h.a1w i hlt hp
  ·obtain rfl:i=n:=by omega
   rcases e with e | e <;> (rw [e] at hp; cases hp)
end Go.Vel.Mx
end
