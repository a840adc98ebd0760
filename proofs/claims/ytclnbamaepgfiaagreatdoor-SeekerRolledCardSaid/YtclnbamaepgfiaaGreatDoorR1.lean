/- Texts for the law SeekerRolled (chapters 8 and 9), part 2. It holds of every program, tape and world that the statements name, as each theorem says. -/
import Derived.Test.YtclnbamaepgfiaaGreatDoorR0
open Go renaming Goroutine -> gG, TypeId -> gT, Operand -> gO, Program -> gP, FuncId -> gF, Value -> gV, ResultVar -> gR, Oper -> gB, IntKind -> gJ
open Bool renaming true -> tt, false -> ff
section
set_option linter.all false
set_option maxRecDepth 20000
set_option maxHeartbeats 60000000
open List renaming cons_append -> lB, getElem?_eq_some_iff -> lD, getElem?_append_left -> lG, mem_cons_of_mem -> lL, getElem?_set_ne -> lP, getElem?_map -> lQ, mem_append -> lT, mem_append_left -> lV, getElem?_set -> lX, mem_map -> lY, map_congr_left -> mA, replicate -> mB
open Array renaming getElem?_toList -> mI, empty_append -> mK
open Nat renaming le_refl -> mL, zero_add -> mO, eq_zero_or_pos -> mP, lt_or_ge -> mR, le_trans -> mT
namespace Go.Vel
open Go Go.Conc
abbrev KV:=List (Nat×AObj)
def zU(K:KV)(A:List AObj):Prop:=∀ x∈K,A[x.1]? =some x.2
def keys(K:KV):List Nat:=K.map (·.1)
theorem yN{K:KV}{x:Nat×AObj}(h:x∈K):x.1∈keys K:=List.mem_map_of_mem (f:=fun x:Nat×AObj=>x.1) h
theorem mem_keys'{K:KV}{i:Nat}{o:AObj}(h:(i,o)∈K):i∈keys K:=yN h
theorem yz(K L:KV):keys (K++L)=keys K++keys L:=List.map_append
theorem zW{K L:KV}(h:K.Perm L):(keys K).Perm (keys L):=h.map _
theorem wd(x:Nat×AObj)(K:KV):keys (x::K)=x.1::keys K:=rfl
theorem zU.get{K:KV}{A:List AObj}(h:zU K A){i:Nat}{o:AObj}(hm:(i,o)∈K):A[i]? =some o:=h _ hm
theorem zU.sub{K K':KV}{A:List AObj}(h:zU K A)(hs:∀ x∈K',x∈K):zU K' A:=fun x hx=>h x (hs x hx)
theorem zU.lt{K:KV}{A:List AObj}(h:zU K A){i:Nat}(hi:i∈keys K):i<A.length:=by
 obtain⟨x,hx,rfl⟩:=List.mem_map.1 hi;exact(List.getElem?_eq_some_iff.1 (h x hx)).1
theorem zU.push{K:KV}{A:List AObj}(h:zU K A)(l:List AObj):zU K (A++l):=fun x hx=>by
 rw[List.getElem?_append_left (h.lt (yN hx))];exact h x hx
inductive Upd:KV->Nat->AObj->Nat->AObj->KV->Prop
 | head {i j:Nat} {o o':AObj} {K:KV}:Upd ((i,o)::K) i o j o' ((j,o')::K)
 | tail {i j:Nat} {o o':AObj} {x:Nat×AObj} {K K':KV}:Upd K i o j o' K'->Upd (x::K) i o j o' (x::K')
theorem uQ{K K':KV}{i j:Nat}{o o':AObj}(h:Upd K i o j o' K':=by repeat (first|exact Upd.head|apply Upd.tail)):Upd K i o j o' K':=h
theorem Upd.mem{K K':KV}{i j:Nat}{o o':AObj}(h:Upd K i o j o' K'):(i,o)∈K:=by
 induction h with
 | head=>simp
 | tail _ ih=>simp[ih]
theorem Upd.mem'{K K':KV}{i j:Nat}{o o':AObj}(h:Upd K i o j o' K'):∀ x∈K',x=(j,o')\/(x∈K/\((keys K).Nodup->x.1≠i)):=by
 induction h with
 | @head i j o o' K =>
  intro x hx;rcases List.mem_cons.1 hx with rfl|hx
  ·exact .inl rfl
  ·refine .inr ⟨by simp[hx],fun hn=>?_⟩;have h1:=(List.nodup_cons.1 hn).1;intro e;exact h1 (by have:=yN hx;rw[e]at this;exact this)
 | @tail i j o o' y K K' hu ih =>
  intro x hx;rcases List.mem_cons.1 hx with rfl|hx
  ·refine .inr ⟨by simp,fun hn e=>?_⟩;have h1:=(List.nodup_cons.1 hn).1;have:=hu.mem;exact h1 (by show x.1∈keys K;rw[e];exact mem_keys' this)
  ·rcases ih x hx with h1|⟨h1,h2⟩
   ·exact .inl h1
   ·exact .inr ⟨by simp[h1],fun hn=>h2 (List.nodup_cons.1 hn).2⟩
theorem Upd.keys{K K':KV}{i j:Nat}{o o':AObj}(h:Upd K i o j o' K'):∀ k∈keys K',k=j\/k∈keys K:=fun k hk=>by
 obtain⟨x,hx,rfl⟩:=List.mem_map.1 hk;rcases h.mem' x hx with rfl|⟨h1,_⟩
 ·exact .inl rfl
 ·exact .inr (yN h1)
theorem Upd.nodup{K K':KV}{i j:Nat}{o o':AObj}(h:Upd K i o j o' K')(hn:(Go.Vel.keys K).Nodup)(hj:j=i\/j∉Go.Vel.keys K):(Go.Vel.keys K').Nodup:=by
 induction h with
 | @head i j o o' K =>
  have h1:=List.nodup_cons.1 hn;refine List.nodup_cons.2 ⟨?_,h1.2⟩;rcases hj with rfl|hj
  ·exact h1.1
  ·exact fun hm=>hj (List.mem_cons_of_mem _ hm)
 | @tail i j o o' y K K' hu ih =>
  have h1:=List.nodup_cons.1 hn;refine List.nodup_cons.2 ⟨fun hm=>?_,ih h1.2 (hj.imp id fun h hm=>h (List.mem_cons_of_mem _ hm))⟩;rcases hu.keys _ hm with e|hm
  ·rcases hj with rfl|hj
   ·exact h1.1 (by rw[e];exact mem_keys' hu.mem)
   ·exact hj (by rw[<- e];exact List.mem_cons_self)
  ·exact h1.1 hm
theorem zU.set{K K':KV}{A:List AObj}{i:Nat}{o o':AObj}(h:zU K A)(hu:Upd K i o i o' K')(hn:(keys K).Nodup):zU K' (A.set i o'):=fun x hx=>by
 rcases hu.mem' x hx with rfl|⟨h1,h2⟩
 ·exact List.getElem?_set_self (h.lt (mem_keys' hu.mem))
 ·rw[List.getElem?_set_ne (Ne.symm (h2 hn))];exact h x h1
theorem zU.renew{K K':KV}{A:List AObj}{i:Nat}{o o':AObj}(h:zU K A)(hu:Upd K i o A.length o' K')(hn:(keys K).Nodup):zU K' (A.set i .gone++[o']):=fun x hx=>by
 rcases hu.mem' x hx with rfl|⟨h1,h2⟩
 ·rw[List.getElem?_append_right sQ];simp
 ·have:=h.lt (yN h1);rw[List.getElem?_append_left (by simpa using this),List.getElem?_set_ne (Ne.symm (h2 hn))];exact h x h1
inductive Rem:KV->(Nat×AObj)->KV->Prop
 | head {x:Nat×AObj} {K:KV}:Rem (x::K) x K
 | tail {x y:Nat×AObj} {K R:KV}:Rem K x R->Rem (y::K) x (y::R)
theorem Rem.perm{K R:KV}{x:Nat×AObj}(h:Rem K x R):K.Perm (x::R):=by
 induction h with
 | head=>exact .refl _
 | tail _ ih=>exact(List.Perm.cons _ ih).trans (.swap _ _ _)
inductive Split:KV->KV->KV->Prop
 | rem {x:Nat×AObj} {K K1 L R:KV}:Rem K x K1->Split K1 L R->Split K (x::L) R
 | none (K:KV):Split K [] K
 | all (K:KV):Split K K []
 | left {x:Nat×AObj} {K L R:KV}:Split K L R->Split (x::K) (x::L) R
 | right {x:Nat×AObj} {K L R:KV}:Split K L R->Split (x::K) L (x::R)
theorem vQ{K L R:KV}(h:Split K L R:=by repeat (first|exact Split.none _|exact Split.all _|(apply Split.rem;repeat (first|exact Rem.head|apply Rem.tail))|apply Split.right)):Split K L R:=h
theorem Split.perm{K L R:KV}(h:Split K L R):K.Perm (L++R):=by
 induction h with
 | rem h1 _ ih=>exact h1.perm.trans (.cons _ ih)
 | none K=>exact .refl _
 | all K=>rw[List.append_nil]
 | left _ ih=>exact .cons _ ih
 | right _ ih=>exact(List.Perm.cons _ ih).trans List.perm_middle.symm
section
variable {P:gP}{gm:Nat->Option Nat}{T:gG->Hp->Prop}
structure KX(P:gP)(gm:Nat->Option Nat)(T:gG->Hp->Prop) where
 X:Cx P gm T
 A0:List AObj
 K0:List Nat
structure Kn(Y:KX P gm T)(K:KV)(A:List AObj):Prop where
 view:zU K A
 nd:(keys K).Nodup
 own:∀ i∈keys K,i∈Y.K0\/Y.A0.length<=i
 kept:∀ j,j<Y.A0.length->j∉Y.K0->A[j]? =Y.A0[j]?
 len:Y.A0.length<=A.length
structure Kstep(K:KV)(A:List AObj)(K':KV)(A':List AObj):Prop where
 view:zU K' A'
 nd:(keys K').Nodup
 own:∀ i∈keys K',i∈keys K\/A.length<=i
 kept:∀ j,j<A.length->j∉keys K->A'[j]? =A[j]?
 len:A.length<=A'.length
theorem Kn.step{Y:KX P gm T}{K K':KV}{A A':List AObj}(h:Kn Y K A)(hs:Kstep K A K' A'):Kn Y K' A':=by
 refine⟨hs.view,hs.nd,fun i hi=>?_,fun j hj hn=>?_,Nat.le_trans h.len hs.len⟩
 ·rcases hs.own i hi with h1|h1
  ·exact h.own i h1
  ·exact .inr (Nat.le_trans h.len h1)
 ·rw[hs.kept j (Nat.lt_of_lt_of_le hj h.len) (fun hm=>?_)]
  ·exact h.kept j hj hn
  ·rcases h.own j hm with h1|h1
   ·exact hn h1
   ·omega
theorem Kstep.same{K:KV}{A:List AObj}(hv:zU K A)(hn:(keys K).Nodup):Kstep K A K A:=⟨hv,hn,fun _ h=>.inl h,fun _ _ _=>rfl,Nat.le_refl _⟩
theorem Kstep.push{K:KV}{A:List AObj}(hv:zU K A)(hn:(keys K).Nodup)(o:AObj):Kstep K A ((A.length,o)::K) (A++[o]):=by
 refine⟨fun x hx=>?_,?_,fun i hi=>?_,fun j hj _=>List.getElem?_append_left hj,by simp⟩
 ·rcases List.mem_cons.1 hx with rfl|hx
  ·rw[List.getElem?_append_right (Nat.le_refl _)];simp
  ·exact hv.push _ x hx
 ·refine List.nodup_cons.2 ⟨fun hm=>?_,hn⟩;exact Nat.lt_irrefl _ (hv.lt (i:=A.length) hm)
 ·rcases List.mem_cons.1 hi with rfl|hi
  ·exact .inr (Nat.le_refl _)
  ·exact .inl hi
theorem Kstep.set{K K':KV}{A:List AObj}{i:Nat}{o o':AObj}(hv:zU K A)(hn:(keys K).Nodup)(hu:Upd K i o i o' K'):Kstep K A K' (A.set i o'):=by
 refine⟨hv.set hu hn,hu.nodup hn (.inl Z),fun k hk=>.inl ?_,fun j _ hj=>?_,by simp⟩
 ·rcases hu.keys k hk with rfl|h
  ·exact mem_keys' hu.mem
  ·exact h
 ·exact List.getElem?_set_ne (fun e=>hj (by rw[<- e];exact mem_keys' hu.mem))
theorem Kstep.renew{K K':KV}{A:List AObj}{i:Nat}{o o':AObj}(hv:zU K A)(hn:(keys K).Nodup)(hu:Upd K i o A.length o' K'):Kstep K A K' (A.set i .gone++[o']):=by
 have hi:i∈keys K:=mem_keys' hu.mem;refine⟨hv.renew hu hn,hu.nodup hn (.inr fun hm=>?_),fun k hk=>?_,fun j hj1 hj=>?_,by simp⟩
 ·have:=hv.lt hm;omega
 ·rcases hu.keys k hk with rfl|h
  ·exact .inr (Nat.le_refl _)
  ·exact .inl h
 ·rw[List.getElem?_append_left (by simpa using hj1),List.getElem?_set_ne (fun e=>hj (by rw[<- e];exact hi))]
def TK(Y:KX P gm T)(ds:List Nat)(k:List Item)(Wq:List AV)(K:KV):Prop:=∀ A,Kn Y K A->TA Y.X ds k Wq A
def OpK(P:gP)(gm:Nat->Option Nat)(Wq:List AV)(K:KV)(o:gB)(Q:AV->KV->Prop):Prop :=
 ∀ A,zU K A->(keys K).Nodup->∃ r A' K',OpOk P gm Wq A o r A'/\Kstep K A K' A'/\Q r K'
variable {Y:KX P gm T}{ds:List Nat}{k:List Item}{Wq Wk:List AV}{K K':KV}{Qy:Array gB}{i:Nat}{Wp:List Nat}{o:gB}{r:AV}
theorem TK.skip(h:TK Y ds k Wq K):TK Y ds (.code .skip::k) Wq K:=fun A hA=>(h A hA).skip
theorem TK.inBlock{id:Nat}(h:TK Y ds k Wq K):TK Y ds (.inBlock id::k) Wq K:=fun A hA=>(h A hA).inBlock
theorem TK.label{l:Nat}(h:TK Y ds k Wq K):TK Y ds (.code (.label l)::k) Wq K:=fun A hA=>(h A hA).label
theorem TK.seq{x y:Code}(h:TK Y ds (.code x::.code y::k) Wq K):TK Y ds (.code (.seq x y)::k) Wq K:=fun A hA=>(h A hA).seq
theorem TK.block{id:Nat}{c:Code}(h:TK Y ds (.code c::.inBlock id::k) Wq K):TK Y ds (.code (.block id c)::k) Wq K:=fun A hA=>(h A hA).block
theorem TK.inLoop{c:Code}(h:TK Y ds (.code c::.inLoop c::k) Wq K):TK Y ds (.inLoop c::k) Wq K:=fun A hA=>(h A hA).inLoop
theorem TK.exit{id:Nat}{k':List Item}(hk:exitTo id k=some k')(h:TK Y ds k' Wq K):TK Y ds (.code (.exit id)::k) Wq K:=fun A hA=>(h A hA).exit hk
theorem TK.region{id:Nat}(h:TK Y ds (.inRegion Qy (List.range Qy.size)::k) Wq K):TK Y ds (.code (.region id Qy ff)::k) Wq K:=fun A hA=>(h A hA).region
theorem TK.regionEnd(h:TK Y ds k Wq K):TK Y ds (.inRegion Qy []::k) Wq K:=fun A hA=>(h A hA).regionEnd
theorem TK.cond{c:gO}{x y:Code}{t:Bool}(hc:zT gm Wq c=.v (.bool t))(h1:t=tt->TK Y ds (.code x::k) Wq K)(h2:t=ff->TK Y ds (.code y::k) Wq K):TK Y ds (.code (.cond c x y)::k) Wq K:=fun A hA=>by
 cases t with
 | true=>exact TA.cond tt hc (h1 rfl A hA)
 | false=>exact TA.cond ff hc (h2 rfl A hA)
theorem TK.mask(bs:List Bool)(he:maskA bs Wq=Wk)(h:TK Y ds k Wk K):TK Y ds k Wq K:=fun A hA=>TA.mask bs (he ▸ h A hA)
theorem TK.op(ho:Qy[i]? =some o)(hd:yp o.op=ff)(hw:zM Qy Wq o=some tt)(h:OpK P gm Wq K o fun r K'=>TK Y ds (.inRegion Qy Wp::k) (zV Wq o.dst r) K'):TK Y ds (.inRegion Qy (i::Wp)::k) Wq K:=fun A hA=>by
 obtain⟨r,A',K',h1,h2,h3⟩:=h A hA.view hA.nd;exact TA.op ho hd hw h1 (h3 A' (hA.step h2))
theorem TK.q(ho:Qy[i]? =some o)(hd:yp o.op=ff)(hw:zM Qy Wq o=some tt)(hq:∀ A,zU K A->OpOk P gm Wq A o r A)(he:zV Wq o.dst r=Wk)(h:TK Y ds (.inRegion Qy Wp::k) Wk K):TK Y ds (.inRegion Qy (i::Wp)::k) Wq K :=
 TK.op ho hd hw fun A hv hn=>⟨r,A,K,hq A hv,.same hv hn,by subst he;exact h⟩
theorem TK.new{f:Nat->AV}{ob:AObj}{env'':Nat->List AV}(ho:Qy[i]? =some o)(hd:yp o.op=ff)(hw:zM Qy Wq o=some tt)(hq:∀ A,zU K A->OpOk P gm Wq A o (f A.length) (A++[ob]))(he:∀ j,zV Wq o.dst (f j)=env'' j)(h:∀ j,j∉keys K->TK Y ds (.inRegion Qy Wp::k) (env'' j) ((j,ob)::K)):TK Y ds (.inRegion Qy (i::Wp)::k) Wq K :=
 TK.op ho hd hw fun A hv hn=>⟨_,_,_,hq A hv,.push hv hn ob,by dsimp only;rw[he];exact h _ fun hm=>absurd (hv.lt hm) (Nat.lt_irrefl _)⟩
theorem TK.st{j:Nat}{ob ob':AObj}(ho:Qy[i]? =some o)(hd:yp o.op=ff)(hw:zM Qy Wq o=some tt)(hq:∀ A,zU K A->OpOk P gm Wq A o r (A.set j ob'))(hu:Upd K j ob j ob' K')(he:zV Wq o.dst r=Wk)(h:TK Y ds (.inRegion Qy Wp::k) Wk K'):TK Y ds (.inRegion Qy (i::Wp)::k) Wq K :=
 TK.op ho hd hw fun A hv hn=>⟨r,_,K',hq A hv,.set hv hn hu,by subst he;exact h⟩
theorem TK.app{j:Nat}{f:Nat->AV}{ob ob':AObj}{env'':Nat->List AV}{K'':Nat->KV}(ho:Qy[i]? =some o)(hd:yp o.op=ff)(hw:zM Qy Wq o=some tt)(hq:∀ A,zU K A->OpOk P gm Wq A o (f A.length) (A.set j .gone++[ob']))(hu:∀ j',Upd K j ob j' ob' (K'' j'))(he:∀ j',zV Wq o.dst (f j')=env'' j')(h:∀ j',TK Y ds (.inRegion Qy Wp::k) (env'' j') (K'' j')):TK Y ds (.inRegion Qy (i::Wp)::k) Wq K :=
 TK.op ho hd hw fun A hv hn=>⟨_,_,_,hq A hv,.renew hv hn (hu _),by dsimp only;rw[he];exact h _⟩
theorem TK.unwanted(ho:Qy[i]? =some o)(hw:zM Qy Wq o=some ff)(he:zV Wq o.dst (.v undef)=Wk)(h:TK Y ds (.inRegion Qy Wp::k) Wk K):TK Y ds (.inRegion Qy (i::Wp)::k) Wq K:=fun A hA=>TA.unwanted ho hw (he ▸ h A hA)
theorem TK.keep{L R:KV}(hs:Split K R L)(h:TK Y ds k Wq R):TK Y ds k Wq K:=fun A hA=>by
 refine h A ⟨hA.view.sub fun x hx=>hs.perm.symm.subset (by simp[hx]),?_,fun i hi=>hA.own i ?_,hA.kept,hA.len⟩
 ·have:=(zW hs.perm).nodup_iff.1 hA.nd;rw[yz]at this;exact(List.nodup_append.1 this).1
 ·obtain⟨x,hx,rfl⟩:=List.mem_map.1 hi;exact yN (hs.perm.symm.subset (by simp[hx]))
theorem TK.perm(hp:K.Perm K')(h:TK Y ds k Wq K'):TK Y ds k Wq K:=fun A hA =>
 h A ⟨hA.view.sub fun x hx=>hp.symm.subset hx,(zW hp).nodup_iff.1 hA.nd,fun i hi=>hA.own i ((zW hp).symm.subset hi),hA.kept,hA.len⟩
theorem TK.virt(d:Nat)(e:gT)(size:Nat){x:Option Addr}(hx:Wq[d]? =some (.v (.slice x 0 0)))(h:∀ j,j∉keys K->TK Y ds k (Wq.set d (.row j 0)) ((j,.row [] e size)::K)):TK Y ds k Wq K:=fun A hA φ H ts h1 h2 h3 h4 h5 h6=>by
 have hk:A.length∉keys K:=fun hm=>absurd (hA.view.lt hm) (Nat.lt_irrefl _);have hH:=h5.virt e size;have hag:=yn φ A.length ⟨0,0,0⟩;have Wb:(A++[AObj.row [] e size]).length=A.length+1:=by simp
 have hds:dsC (yc φ A.length ⟨0,0,0⟩) ds=dsC φ ds:=by
  unfold dsC;exact List.map_congr_left fun d hd'=>by rw[hag d (h4 d hd')]
 rw[<- hds];refine h _ hk _ (hA.step (.push hA.view hA.nd _)) _ H ts (h1.trans hag h2) oQ (h3.mono hag oQ) (fun d hd=>by have:=h4 d hd;omega) hH ?_;have hE:=h6.mono (n':=(A++[AObj.row [] e size]).length) hag oQ;refine⟨by simp[hE.1],fun j u y hu hy=>?_⟩;rw[List.getElem?_set]at hu;split at hu
 ·rename_i e;subst e;split at hu
  ·cases hu;have hr:=h6.2 d _ y hx hy;rw[inv_v hr];refine .row oQ sQ ?_;unfold rowV;simp[yc]
  ·cases hu
 ·exact hE.2 j u y hu hy
def zl(P:gP)(T:gG->Hp->Prop)(gm:Nat->Option Nat)(g:gF)(args:List AV)(K:KV)(Post:AV->KV->Prop):Prop :=
 ∀ A,zU K A->(keys K).Nodup->CallT P T gm g args A fun r A'=>∃ K',Kstep K A K' A'/\Post r K'
theorem zl.mono{g:gF}{args:List AV}{Post Post':AV->KV->Prop}(h:zl P T gm g args K Post)(hp:∀ r K',Post r K'->Post' r K'):zl P T gm g args K Post' :=
 fun A hv hn=>(h A hv hn).mono fun r A' ⟨K',h1,h2⟩=>⟨K',h1,hp r K' h2⟩
theorem TK.leave{j:Option Code}(hl:Leave j k)(h:∀ A,Kn Y K A->Y.X.L j ds Wq A):TK Y ds k Wq K:=fun A hA=>TA.leave hl (h A hA)
theorem TK.loopN{c:Code}(I:Nat->List AV->KV->Prop)(n:Nat)(h0:I n Wq K)
  (round:∀ n Wq K,I n Wq K->(∀ n' Wk K',n'<n->I n' Wk K'->TK Y ds (.inLoop c::k) Wk K')->TK Y ds (.code c::.inLoop c::k) Wq K):TK Y ds (.code (.loop c)::k) Wq K:=by
 have key:∀ n Wq K,I n Wq K->TK Y ds (.code c::.inLoop c::k) Wq K:=by
  intro n
  induction n using Nat.strongRecOn with
  | _ n ih =>
   intro Wq K hI;exact round n Wq K hI fun n' Wk K' Qp hI'=>TK.inLoop (ih n' Qp Wk K' hI')
 exact fun A hA=>TA.loop (key n Wq K h0 A hA)
end
def edgesOf(m:Region.Mode)(Qy:Array gB)(i:Nat):List Nat:=match Qy[i]? with
 | some o=>o.after.toList.filterMap fun e=>if Region.binds m e then some e.on else none
 | none=>[]
theorem zi9{m:Region.Mode}{Qy:Array gB}{i j:Nat}(h:j∈edgesOf .any Qy i):j∈edgesOf m Qy i:=by
 unfold edgesOf at h ⊢;split at h
 ·rename_i o e;simp only[List.mem_filterMap]at h ⊢;obtain⟨e',h1,h2⟩:=h;refine⟨e',h1,?_⟩;have:Region.binds m e'=tt:=by
   unfold Region.binds at h2 ⊢;cases hg:e'.ground <;> rw[hg]at h2 <;> first|rfl|(simp at h2;done)|(exact absurd h2 (by simp[show(Region.Mode.any==Region.Mode.text)=ff from rfl,show(Region.Mode.any==Region.Mode.gc)=ff from rfl]))
  rw[if_pos this];split at h2
  ·exact h2
  ·cases h2
 ·cases h
def Resp(Qy:Array gB):List Nat->Prop
 | []=>True
 | i::q=>(∀ j∈edgesOf .any Qy i,j∉i::q)/\Resp Qy q
def topo(m:Region.Mode)(Qy:Array gB):List Nat->List Nat->Bool
 | seen,[]=>(List.range Qy.size).all fun i=>seen.elem i
 | seen,i::q=>(edgesOf m Qy i).all (fun j=>seen.elem j)&&decide (i<Qy.size)&&topo m Qy (i::seen) q
theorem ziH{m:Region.Mode}{Qy:Array gB}(listed:Nat->Prop)[DecidablePred listed]:∀(ρ seen:List Nat),topo m Qy seen ρ=tt->(∀ i∈seen,listed i)->(∀ i,i<Qy.size->listed i)\/∃ i,i<Qy.size/\¬ listed i/\∀ j∈edgesOf m Qy i,listed j:=by
 intro ρ
 induction ρ with
 | nil =>
  intro seen h hs;left;intro i hi;simp only[topo,List.all_eq_true,List.mem_range]at h;exact hs i (by simpa using h i hi)
 | cons i q ih =>
  intro seen h hs;simp only[topo,Bool.and_eq_true,List.all_eq_true,dT_]at h;by_cases hl:listed i
  ·exact ih (i::seen) h.2 fun j hj=>by
    rcases List.mem_cons.1 hj with rfl|hj
    ·exact hl
    ·exact hs j hj
  ·exact .inr ⟨i,h.1.2,hl,fun j hj=>hs j (by simpa using h.1.1 j hj)⟩
theorem zef:∀(n:Nat)(l:List Nat),l.Nodup->(∀ i∈l,i<n)->l.length<=n
 | 0,l,_,h=>by
  cases l with
  | nil=>simp
  | cons a l=>exact absurd (h a sQ) oQ
 | n+1,l,hn,h=>by
  have h1:=zef n (l.erase n) (hn.erase n) fun i hi=>by
   have:=(hn.mem_erase_iff).1 hi;have:=h i this.2;omega
  have h2:=List.length_erase (a:=n) (l:=l);split at h2 <;> omega
theorem zee:∀(n:Nat)(l:List Nat),l.Nodup->(∀ i∈l,i<n)->n<=l.length->∀ i,i<n->i∈l
 | 0,_,_,_,_,i,hi=>absurd hi oQ
 | n+1,l,hn,h,hl,i,hi=>by
  have hm:n∈l:=by
   apply Classical.byContradiction;intro hnm;have:=zef n l hn fun i hi=>by
    have:=h i hi;have:i≠n:=fun e=>hnm (e ▸ hi);omega
   omega
  by_cases e:i=n
  ·rw[e];exact hm
  ·refine List.mem_of_mem_erase (zee n (l.erase n) (hn.erase n) (fun i hi=>?_) ?_ i oQ)
   ·have:=(hn.mem_erase_iff).1 hi;have:=h i this.2;omega
   ·rw[List.length_erase_of_mem hm];omega
theorem zoC{m:Region.Mode}{Qy:Array gB}{ρ:List Nat}(hρ:topo m Qy [] ρ=tt):∀(fuel t:Nat)(listed:Array Bool)(acc:List Nat),listed.size=Qy.size->(∀ i,i<Qy.size->(listed.getD i tt=tt↔i∈acc))->(∀ i∈acc,i<Qy.size)->acc.Nodup ->
  Qy.size<=fuel+acc.length->∃ q,Region.linearise.go m Qy fuel t listed acc=acc.reverse++q/\q.Nodup/\(∀ i∈q,i<Qy.size/\i∉acc)/\Resp Qy q/\∀ i,i<Qy.size->i∈acc\/i∈q:=by
 intro fuel
 induction fuel with
 | zero =>
  intro t listed acc hs hl hb hn hf;refine⟨[],by simp[Region.linearise.go],by simp,by simp,trivial,fun i hi=>.inl ?_⟩;exact zee Qy.size acc hn hb oQ i hi
 | succ fuel ih =>
  intro t listed acc hs hl hb hn hf;unfold Region.linearise.go;dsimp only;generalize hrs:((List.range Qy.size).filter fun i => !listed.getD i tt&&((Qy[i]?).map (·.after.all fun e => !Region.binds m e||listed.getD e.on ff)).getD ff)=rs;have hmem:∀ i,i∈rs↔i<Qy.size/\i∉acc/\∀ j∈edgesOf m Qy i,j<Qy.size/\j∈acc:=by
   intro i;rw[<- hrs,List.mem_filter,List.mem_range];constructor
   ·rintro⟨h1,h2⟩;simp only[Bool.and_eq_true,Bool.not_eq_true']at h2;refine⟨h1,fun hm=>?_,fun j hj=>?_⟩
    ·rw[(hl i h1).2 hm]at h2;exact absurd h2.1 sQ
    ·unfold edgesOf at hj;rw[Array.getElem?_eq_getElem h1]at hj h2;simp only[List.mem_filterMap]at hj;obtain⟨e,he,h3⟩:=hj;split at h3
     ·rename_i hbd;cases h3;have h4:=h2.2;simp only[Option.map_some,Option.getD_some,Array.all_eq_true_iff_forall_mem]at h4;have h5:=h4 e (by simpa using he);rw[hbd]at h5;simp only[Bool.not_true,Bool.false_or]at h5;by_cases Qp:e.on<Qy.size
      ·refine⟨Qp,(hl e.on Qp).1 ?_⟩;rw[Array.getD_eq_getD_getElem?]at h5 ⊢;rw[Array.getElem?_eq_getElem (by rw[hs];exact Qp)]at h5 ⊢;exact h5
      ·rw[Array.getD_eq_getD_getElem?,Array.getElem?_eq_none (by rw[hs];omega)]at h5;cases h5
     ·cases h3
   ·rintro⟨h1,h2,h3⟩;refine⟨h1,?_⟩;simp only[Bool.and_eq_true,Bool.not_eq_true'];refine⟨?_,?_⟩
    ·cases e:listed.getD i tt with
     | false=>rfl
     | true=>exact absurd ((hl i h1).1 e) h2
    ·rw[Array.getElem?_eq_getElem h1];simp only[Option.map_some,Option.getD_some,Array.all_eq_true_iff_forall_mem];intro e he;cases hbd:Region.binds m e with
     | false=>rfl
     | true =>
      simp only[Bool.not_true,Bool.false_or];obtain⟨h4,h5⟩:=h3 e.on (by
       unfold edgesOf;rw[Array.getElem?_eq_getElem h1];simp only[List.mem_filterMap];exact⟨e,by simpa using he,by rw[if_pos hbd]⟩)
      have:=(hl e.on h4).2 h5;rw[Array.getD_eq_getD_getElem?]at this ⊢;rw[Array.getElem?_eq_getElem (by rw[hs];exact h4)]at this ⊢;exact this
  cases hpick:rs[t % rs.length]? with
  | none =>
   dsimp only;have hnil:rs=[]:=by
    cases rs with
    | nil=>rfl
    | cons a l =>
     exfalso;have:t % (a::l).length<(a::l).length:=Nat.mod_lt _ sQ;rw[List.getElem?_eq_getElem this]at hpick;cases hpick
   refine⟨[],by simp,by simp,by simp,trivial,fun i hi=>.inl ?_⟩;rcases ziH (m:=m) (Qy:=Qy) (fun i=>i∈acc) ρ [] hρ sQ with h|⟨i',h1,h2,h3⟩
   ·exact h i hi
   ·exfalso;have:i'∈rs:=(hmem i').2 ⟨h1,h2,fun j hj=>⟨hb j (h3 j hj),h3 j hj⟩⟩;rw[hnil]at this;cases this
  | some i =>
   dsimp only;have hi:=(hmem i).1 (List.mem_of_getElem? hpick);obtain⟨q,h1,h2,h3,h4,h5⟩:=ih (t / rs.length) (listed.setIfInBounds i tt) (i::acc) (by simp[hs]) (fun j hj=>by
    rw[Array.getD_eq_getD_getElem?,Array.getElem?_setIfInBounds];by_cases hij:i=j
    ·subst hij;simp[hs,hj]
    ·rw[if_neg hij,<- Array.getD_eq_getD_getElem?,hl j hj];simp[Ne.symm hij]) (fun j hj=>by
    rcases List.mem_cons.1 hj with rfl|hj
    ·exact hi.1
    ·exact hb j hj) (List.nodup_cons.2 ⟨hi.2.1,hn⟩) (by simp;omega)
   refine⟨i::q,by rw[h1];simp,List.nodup_cons.2 ⟨fun hm=>(h3 i hm).2 sQ,h2⟩,fun j hj=>?_,⟨fun j hj=>?_,h4⟩,fun j hj=>?_⟩
   ·rcases List.mem_cons.1 hj with rfl|hj
    ·exact⟨hi.1,hi.2.1⟩
    ·exact⟨(h3 j hj).1,fun hm=>(h3 j hj).2 (by simp[hm])⟩
   ·have:=(hi.2.2 j (zi9 hj)).2;intro hm;rcases List.mem_cons.1 hm with rfl|hm
    ·exact hi.2.1 this
    ·exact(h3 j hm).2 (by simp[this])
   ·rcases h5 j hj with h6|h6
    ·rcases List.mem_cons.1 h6 with rfl|h6
     ·exact .inr sQ
     ·exact .inl h6
    ·exact .inr (by simp[h6])
theorem zcS{m:Region.Mode}{Qy:Array gB}{ρ:List Nat}(hρ:topo m Qy [] ρ=tt)(t:Nat):(Region.linearise m Qy t).Nodup/\Resp Qy (Region.linearise m Qy t)/\∀ i,i∈Region.linearise m Qy t↔i<Qy.size:=by
 obtain⟨q,h1,h2,h3,h4,h5⟩:=zoC hρ Qy.size t (Array.replicate Qy.size ff) [] sQ (fun i hi=>by
  rw[Array.getD_eq_getD_getElem?,Array.getElem?_replicate,if_pos hi];simp) sQ sQ sQ
 have e:Region.linearise m Qy t=q:=by
  unfold Region.linearise;rw[h1];simp
 rw[e];exact⟨h2,h4,fun i=>⟨fun hi=>(h3 i hi).1,fun hi=>(h5 i hi).resolve_left sQ⟩⟩
def drawnOk(Qy:Array gB)(ρt ρg:List Nat):Bool:=if Region.departs Qy then topo .text Qy [] ρt&&topo .gc Qy [] ρg&&topo .any Qy [] ρt else topo .any Qy [] ρt
theorem zmj{Qy:Array gB}{ρt ρg:List Nat}(h:drawnOk Qy ρt ρg=tt)(mixed:Bool)(t:Nat):(Region.schedule mixed Qy t).Nodup/\Resp Qy (Region.schedule mixed Qy t)/\∀ i,i∈Region.schedule mixed Qy t↔i<Qy.size:=by
 unfold drawnOk at h;unfold Region.schedule;cases hd:Region.departs Qy with
 | false =>
  rw[hd]at h;simp only[Bool.not_false,Bool.or_true,if_true];exact zcS (by simpa using h) t
 | true =>
  rw[hd]at h;simp only[if_true,Bool.and_eq_true]at h;cases mixed with
  | true=>exact zcS h.2 t
  | false =>
   simp only[Bool.not_true,Bool.or_self,Bool.false_eq_true,if_false];split
   ·exact zcS h.1.1 _
   ·exact zcS h.1.2 _
section
variable {P:gP}{gm:Nat->Option Nat}{T:gG->Hp->Prop}
def Ex(X:Cx P gm T)(Wq:List AV)(A:List AObj)(o:gB)(Q:AV->List AObj->Prop):Prop :=
 ∀(Qy:Array gB)(i:Nat)(Wp:List Nat)(k:List Item)(ds:List Deferred)(φ:Nat->Loc3)(H:Hp)(ts:Array gV),Qy[i]? =some o->Region.wanted o (yielded Qy ts)=tt->RelG gm φ A.length->RelH φ A X.F H->zN φ A.length Wq ts ->
  (∀ r A' φ' H' v,Q r A'->Agr φ φ' A.length->A.length<=A'.length->RelH φ' A' X.F H'->RelV φ' A'.length r v->T (G (fr X.kd X.f X.ro (putT ts o.dst v) ds (.inRegion Qy Wp::k)) X.cs) H')->T (G (fr X.kd X.f X.ro ts ds (.inRegion Qy (i::Wp)::k)) X.cs) H
theorem ex_op{X:Cx P gm T}{Wq:List AV}{A A':List AObj}{o:gB}{r:AV}(hd:yp o.op=ff)(hok:OpOk P gm Wq A o r A'):Ex X Wq A o fun r1 A1=>r1=r/\A1=A':=fun Qy i Wp k ds φ H ts ho hw h3 h5 h6 hq=>by
 refine X.hT.opF X.hkd ho hw hd (zaW _ _ _ _ ?_ (hok φ X.F H ⟨ts,[]⟩ h3 h5 h6));rintro nx H' ⟨v,φ',hnx,hA,Wb,hH',hr⟩;have:=hq r A' φ' H' v ⟨rfl,rfl⟩ hA Wb hH' hr;rcases hnx with rfl|⟨rfl,rfl⟩ <;> exact this
theorem zm1{X:Cx P gm T}{Wq:List AV}{A:List AObj}{o:gB}{fo:gO}{ars:Array gO}{at_:Array gT}{g:gF}{fs cp:List AV}{args:List AV}{Post:AV->List AObj->Prop}(Qw:o.op=.call { callee:=.value fo,args:=ars,argTypes:=at_ })
  (hf:zT gm Wq fo=.fn g fs cp) (hg:yk P g=tt) (Qg:fs++ars.toList.map (zT gm Wq)++cp=args) (hc:CallT P T gm g args A Post):Ex X Wq A o Post:=fun Qy i Wp k ds φ H ts ho hw h3 h5 h6 hq=>by
 refine X.hT.opF X.hkd ho hw (by rw[Qw];rfl) ?_;have hfo:=zy (a:=⟨ts,[]⟩) h3 h6 fo;rw[hf]at hfo;obtain⟨xs,ys,e,hr1,hr2⟩:=uu hfo;unfold execOp;rw[Qw];dsimp only;refine zf _ _ _ ?_;show wpS P (Deferred.ofValue (Act.eval ⟨ts,[]⟩ fo) (ars.map (evT ts))) H _;rw[e];show wpS P (callFunc g ((xs++ars.map (evT ts))++ys)) H _;refine wK hg _ ?_;show T (G (Frame.enter P g _ .normal) (_::X.cs)) H;have hrel:zN φ A.length args ((xs++ars.map (evT ts))++ys):=by
  rw[<- Qg];exact wZ (wZ hr1 (wG (a:=⟨ts,[]⟩) h3 h6 ars)) hr2
 refine hc φ X.F H _ _ _ X.hF0 h3 h5 hrel fun r A' φ' H' v hp hA Wb hH' hr=>?_;have Qj:=yZ X.kd X.f X.ro ts ds Qy i Wp k v;simp only[ho,Option.bind_some]at Qj;rw[Qj];exact hq r A' φ' H' v hp hA Wb hH' hr
def ExK(Y:KX P gm T)(Wq:List AV)(K:KV)(o:gB)(Q:AV->KV->Prop):Prop:=∀ A,Kn Y K A->Ex Y.X Wq A o fun r A'=>∃ K',Kstep K A K' A'/\Q r K'
theorem Ex.mono{X:Cx P gm T}{Wq:List AV}{A:List AObj}{o:gB}{Q Q':AV->List AObj->Prop}(h:Ex X Wq A o Q)(hq:∀ r A',Q r A'->Q' r A'):Ex X Wq A o Q' :=
 fun Qy i Wp k ds φ H ts h1 h2 h3 h4 h5 h6=>h Qy i Wp k ds φ H ts h1 h2 h3 h4 h5 fun r A' φ' H' v hp=>h6 r A' φ' H' v (hq r A' hp)
variable {Y:KX P gm T}{ds:List Nat}{k:List Item}{Wq Wk:List AV}{K K':KV}{Qy:Array gB}{i:Nat}{Wp:List Nat}{o:gB}{r:AV}
theorem vN(hd:yp o.op=ff){Q:AV->KV->Prop}(h:OpK P gm Wq K o Q):ExK Y Wq K o Q:=fun A hA=>by
 obtain⟨r,A',K',h1,h2,h3⟩:=h A hA.view hA.nd;exact(ex_op hd h1).mono fun r1 A1 ⟨e1,e2⟩=>⟨K',e2 ▸ h2,e1 ▸ h3⟩
theorem zb8{fo:gO}{ars:Array gO}{at_:Array gT}{g:gF}{fs cp args:List AV}{Kf R:KV}{Post:AV->KV->Prop}(Qw:o.op=.call { callee:=.value fo,args:=ars,argTypes:=at_ })
  (hf:zT gm Wq fo=.fn g fs cp) (hg:yk P g=tt) (Qg:fs++ars.toList.map (zT gm Wq)++cp=args) (hc:zl P T gm g args Kf Post) (hs:Split K Kf R) {Q:AV->KV->Prop} (hq:∀ r K',Post r K'->Q r (K'++R)):ExK Y Wq K o Q:=fun A hA=>by
 have hp:=hs.perm;have hv:zU Kf A:=hA.view.sub fun x hx=>hp.symm.subset (by simp[hx]);have hnd:=(zW hp).nodup_iff.1 hA.nd;rw[yz]at hnd;have hnd':=List.nodup_append.1 hnd;refine(zm1 Qw hf hg Qg (hc A hv hnd'.1)).mono fun r A' ⟨K',hk,hpost⟩=>⟨K'++R,?_,hq r K' hpost⟩;have hR:zU R A:=hA.view.sub fun x hx=>hp.symm.subset (by simp[hx]);have hRl:∀ x∈R,x.1<A.length/\x.1∉keys Kf:=fun x hx=>⟨hR.lt (yN hx),fun hm=>hnd'.2.2 x.1 hm x.1 (yN hx) rfl⟩;refine⟨fun x hx=>?_,?_,fun j hj=>?_,fun j hj hn=>?_,hk.len⟩
 ·rcases List.mem_append.1 hx with hx|hx
  ·exact hk.view x hx
  ·rw[hk.kept _ (hRl x hx).1 (hRl x hx).2];exact hR x hx
 ·rw[yz];refine List.nodup_append.2 ⟨hk.nd,hnd'.2.1,fun a ha b hb e=>?_⟩;subst e;obtain⟨x,hx,rfl⟩:=List.mem_map.1 hb;rcases hk.own _ ha with h1|h1
  ·exact(hRl x hx).2 h1
  ·have:=(hRl x hx).1;omega
 ·rw[yz]at hj;rcases List.mem_append.1 hj with hj|hj
  ·rcases hk.own j hj with h1|h1
   ·exact .inl ((zW hp).symm.subset (by rw[yz];exact List.mem_append_left _ h1))
   ·exact .inr h1
  ·exact .inl ((zW hp).symm.subset (by rw[yz];exact List.mem_append_right _ hj))
 ·exact hk.kept j hj fun hm=>hn ((zW hp).symm.subset (by rw[yz];exact List.mem_append_left _ hm))
theorem TK.ex(ho:Qy[i]? =some o)(hw:zM Qy Wq o=some tt)(h:ExK Y Wq K o fun r K'=>TK Y ds (.inRegion Qy Wp::k) (zV Wq o.dst r) K'):TK Y ds (.inRegion Qy (i::Wp)::k) Wq K:=fun A hA φ H ts h1 h2 h3 h4 h5 h6=>by
 refine h A hA Qy i Wp k (dsC φ ds++Y.X.dd) φ H ts ho (zO h6 hw) h3 h5 h6 fun r A' φ' H' v ⟨K',hk,hq⟩ hA' Wb hH' hr=>?_;have hE:=yF (a:=⟨ts,[]⟩) (h6.mono hA' Wb) hr o.dst;have hds:dsC φ' ds=dsC φ ds:=by
  unfold dsC;exact List.map_congr_left fun d hd'=>by rw[hA' d (h4 d hd')]
 have:=hq A' (hA.step hk) φ' H' _ (h1.trans hA' h2) oQ (h3.mono hA' Wb) (fun d hd'=>Nat.lt_of_lt_of_le (h4 d hd') Wb) hH' hE;rw[hds]at this;exact this
def only(s:List Nat):Nat->List AV->List AV
 | _,[]=>[]
 | j,a::l=>(if s.elem j then a else .any)::only s (j+1) l
def onl(s:List Nat)(Wq:List AV):List AV:=only s 0 Wq
theorem zfY(s:List Nat):∀(l:List AV)(j:Nat),(only s j l).length=l.length
 | [],_=>rfl
 | a::l,j=>by simp[only,zfY s l]
theorem zfX(s:List Nat):∀(l:List AV)(j t:Nat) a,(only s j l)[t]? =some a->a=.any\/(s.elem (j+t)=tt/\l[t]? =some a)
 | [],j,t,a,h=>by simp[only]at h
 | b::l,j,0,a,h=>by
  simp only[only,List.getElem?_cons_zero,Option.some.injEq]at h;split at h
  ·rename_i e;exact .inr ⟨e,by simp[h]⟩
  ·exact .inl h.symm
 | b::l,j,t+1,a,h=>by
  rw[only,List.getElem?_cons_succ]at h;rcases zfX s l (j+1) t a h with h1|⟨h1,h2⟩
  ·exact .inl h1
  ·exact .inr ⟨by rw[show j+(t+1)=j+1+t by omega];exact h1,by simpa using h2⟩
theorem zl1(s:List Nat)(d:Nat)(r:AV):∀(l:List AV)(j:Nat),s.elem (j+d)=ff->(s.elem (j+d)=ff)->only s j (l.set d r)=only s j l:=by
 induction d with
 | zero =>
  intro l j h _;cases l with
  | nil=>rfl
  | cons a l =>
   simp only[List.set_cons_zero,only];rw[Nat.add_zero]at h;rw[h];rfl
 | succ d ih =>
  intro l j h _;cases l with
  | nil=>rfl
  | cons a l =>
   simp only[List.set_cons_succ,only];have h':s.elem (j+1+d)=ff:=by rw[show j+1+d=j+(d+1) by omega];exact h
   rw[ih l (j+1) h' h']
theorem zhq{s:List Nat}{d:Nat}{r:AV}{Wq:List AV}(h:s.elem d=ff):onl s (Wq.set d r)=onl s Wq:=zl1 s d r Wq 0 (by rwa[Nat.zero_add]) (by rwa[Nat.zero_add])
structure Pd where
 i:Nat
 s:List Nat
 V:KV
def dstOf(Qy:Array gB)(i:Nat):Option Nat:=(Qy[i]?).bind (·.dst)
def slotv(Wq:List AV):Option Nat->AV|some d=>Wq.getD d .any|none=>.any
def QS(P:gP)(gm:Nat->Option Nat)(Qy:Array gB)(Wq:List AV)(A:List AObj)(o:gB)(r:AV):Prop :=
 (zM Qy Wq o=some tt/\yp o.op=ff/\OpOk P gm Wq A o r A)\/(zM Qy Wq o=some ff/\r=.v undef)
def Jq(P:gP)(gm:Nat->Option Nat)(Qy:Array gB)(Wq:List AV)(p:Pd):Prop :=
 ∃ o r,Qy[p.i]? =some o/\(∀ d,o.dst=some d->Wq[d]? =some r)/\∀ A,zU p.V A->QS P gm Qy (onl p.s Wq) A o r
def asgAt(Qy:Array gB)(j:Nat):Bool:=match Qy[j]? with
 | some o=>match o.op with
  | .assign _=>tt
  | _=>ff
 | none=>ff
def rawOk(Qy:Array gB)(i:Nat)(s:List Nat):Bool:=(List.range Qy.size).all fun j=>match dstOf Qy j with
 | some d => !(s.elem d)||(edgesOf .any Qy i).elem j||asgAt Qy j
 | none=>tt
def rawP(Qy:Array gB)(i:Nat)(s:List Nat):Bool:=rawOk Qy i s && !asgAt Qy i
theorem znS{Qy:Array gB}{i:Nat}{s:List Nat}(h:rawP Qy i s=tt):rawOk Qy i s=tt:=by
 unfold rawP at h;simp only[Bool.and_eq_true]at h;exact h.1
theorem zmb{Qy:Array gB}{i:Nat}{s:List Nat}(h:rawP Qy i s=tt):asgAt Qy i=ff:=by
 unfold rawP at h;simp only[Bool.and_eq_true,Bool.not_eq_true']at h;exact h.2
def Hid(Qy:Array gB)(Wy:List Pd)(σ:List Nat)(j:Nat):Prop:=∃ p∈Wy,p.i∈σ/\dstOf Qy p.i=some j
def RelHid(φ:Nat->Loc3)(n:Nat)(hid:Nat->Prop)(Wq:List AV)(ts:Array gV):Prop:=Wq.length=ts.size/\∀ j a y,Wq[j]? =some a->ts[j]? =some y->¬ hid j->RelV φ n a y
def TD(Y:KX P gm T)(ds:List Nat)(Qy:Array gB)(k:List Item)(Wy:List Pd)(L:List Nat)(Wq:List AV)(K:KV):Prop :=
 (∀ p∈Wy,Jq P gm Qy Wq p)->(∀ p∈Wy,rawP Qy p.i p.s=tt)->(∀ p∈Wy,∀ x∈p.V,x∈K)->∀ A,Kn Y K A->∀ σ:List Nat,σ.Nodup->Resp Qy σ->(∀ j∈σ,j<Qy.size)->(∀ j∈L,j∈σ)->(∀ j∈σ,j∈L\/∃ p∈Wy,p.i=j) ->
  ∀(φ:Nat->Loc3)(H:Hp)(ts:Array gV),Agr Y.X.φ0 φ Y.X.n0->Y.X.n0<=A.length->RelG gm φ A.length->(∀ d∈ds,d<A.length)->RelH φ A Y.X.F H->RelHid φ A.length (Hid Qy Wy σ) Wq ts->T (G (fr Y.X.kd Y.X.f Y.X.ro ts (dsC φ ds++Y.X.dd) (.inRegion Qy σ::k)) Y.X.cs) H
theorem zdz{φ:Nat->Loc3}{n:Nat}{Wy:List Pd}{σ:List Nat}{c:Nat}{s:List Nat}{ts:Array gV}(hsz:∀ j∈c::σ,j<Qy.size)(hresp:Resp Qy (c::σ))(hraw:rawOk Qy c s=tt)(hraws:∀ p∈Wy,rawP Qy p.i p.s=tt)(h:RelHid φ n (Hid Qy Wy (c::σ)) Wq ts):zN φ n (onl s Wq) ts:=by
 refine⟨by rw[onl,zfY];exact h.1,fun j a y ha hy=>?_⟩;rcases zfX s Wq 0 j a ha with rfl|⟨h1,h2⟩
 ·exact .any _
 ·refine h.2 j a y h2 hy fun⟨p,hp,hpm,hd⟩=>?_;rw[Nat.zero_add]at h1;have:=List.all_eq_true.1 hraw p.i (List.mem_range.2 (hsz _ hpm));rw[hd]at this;simp only[h1,Bool.not_true,Bool.false_or,zmb (hraws p hp),Bool.or_false]at this;exact hresp.1 p.i (by simpa using this) hpm
theorem zbH{Wy:List Pd}{A:List AObj}{c:Nat}{σ:List Nat}{p:Pd}(hp:p∈Wy)(hc:p.i=c)(hj:Jq P gm Qy Wq p)(hraws:∀ p∈Wy,rawP Qy p.i p.s=tt)(hv:∀ x∈p.V,x∈K)(hA:Kn Y K A)(hnd:(c::σ).Nodup)(hsz:∀ j∈c::σ,j<Qy.size)(hresp:Resp Qy (c::σ))
  {φ:Nat->Loc3} {H:Hp} {ts:Array gV} (h1:Agr Y.X.φ0 φ Y.X.n0) (h2:Y.X.n0<=A.length) (h3:RelG gm φ A.length) (h4:∀ d∈ds,d<A.length) (h5:RelH φ A Y.X.F H) (h6:RelHid φ A.length (Hid Qy Wy (c::σ)) Wq ts)
  (hq:∀(φ:Nat->Loc3)(H:Hp)(ts:Array gV),Agr Y.X.φ0 φ Y.X.n0->RelG gm φ A.length->RelH φ A Y.X.F H->RelHid φ A.length (Hid Qy Wy σ) Wq ts->T (G (fr Y.X.kd Y.X.f Y.X.ro ts (dsC φ ds++Y.X.dd) (.inRegion Qy σ::k)) Y.X.cs) H) :
  T (G (fr Y.X.kd Y.X.f Y.X.ro ts (dsC φ ds++Y.X.dd) (.inRegion Qy (c::σ)::k)) Y.X.cs) H:=by
 obtain⟨o,r,ho,hd,hqs⟩:=hj;rw[hc]at ho;have hrel:=zdz hsz hresp (hc ▸ znS (hraws p hp)) hraws h6;have hput:∀(φ':Nat->Loc3)(v:gV),Agr φ φ' A.length->RelV φ' A.length r v->RelHid φ' A.length (Hid Qy Wy σ) Wq (putT ts o.dst v):=fun φ' v hA' hr=>by
  refine⟨?_,fun j a y ha hy hnh=>?_⟩
  ·rw[h6.1];cases o.dst <;> simp[putT,Act.put]
  ·cases hdst:o.dst with
   | none =>
    rw[hdst]at hy;refine(h6.2 j a y ha hy fun⟨q,hq1,hq2,hq3⟩=>?_).mono hA' (Nat.le_refl _);rcases List.mem_cons.1 hq2 with e|hq2
    ·rw[e]at hq3;simp[dstOf,ho,hdst]at hq3
    ·exact hnh ⟨q,hq1,hq2,hq3⟩
   | some d =>
    rw[hdst]at hy;by_cases hjd:d=j
    ·subst hjd;have:=hd d hdst;rw[this]at ha;cases ha;have Qp:d<ts.size:=by rw[<- h6.1];exact(List.getElem?_eq_some_iff.1 this).1
     simp only[putT,Act.put]at hy;rw[Array.getElem?_setIfInBounds_self_of_lt Qp]at hy;cases hy;exact hr
    ·simp only[putT,Act.put]at hy;rw[Array.getElem?_setIfInBounds_ne hjd]at hy;refine(h6.2 j a y ha hy fun⟨q,hq1,hq2,hq3⟩=>?_).mono hA' (Nat.le_refl _);rcases List.mem_cons.1 hq2 with e|hq2
     ·rw[e]at hq3;simp[dstOf,ho,hdst]at hq3;exact hjd hq3
     ·exact hnh ⟨q,hq1,hq2,hq3⟩
 rcases hqs A (hA.view.sub hv)with⟨hw,hdf,hok⟩|⟨hw,hr⟩
 ·refine ex_op (X:=Y.X) hdf hok Qy c σ k (dsC φ ds++Y.X.dd) φ H ts ho (zO hrel hw) h3 h5 hrel fun r1 A1 φ' H' v ⟨e1,e2⟩ hA' Wb hH' hr=>?_;subst e1 e2;have hds:dsC φ' ds=dsC φ ds:=by
   unfold dsC;exact List.map_congr_left fun d hd'=>by rw[hA' d (h4 d hd')]
  rw[<- hds];exact hq φ' H' _ (h1.trans hA' h2) (h3.mono hA' (Nat.le_refl _)) hH' (hput φ' v hA' hr)
 ·refine Y.X.hT.ctlF Z (fun _=>uX ho (zO hrel hw)) rfl ?_;exact hq φ H _ h1 h3 h5 (hput φ undef (Agr.refl _ _) (hr ▸ .v _))
theorem TK.draw{id:Nat}(L ρg:List Nat)(hd:drawnOk Qy (List.range Qy.size) ρg=tt)(hL:(List.range Qy.size).all (fun i=>L.elem i)&&L.all (fun i=>decide (i<Qy.size))=tt)(h:TD Y ds Qy k [] L Wq K):TK Y ds (.code (.region id Qy tt)::k) Wq K:=fun A hA=>by
 refine TA.draw fun t=>?_;intro φ H ts h1 h2 h3 h4 h5 h6;obtain⟨s1,s2,s3⟩:=zmj hd (P.follows .mixedOrders) t;simp only[Bool.and_eq_true,List.all_eq_true,List.mem_range,dT_]at hL;exact h sQ sQ sQ A hA _ s1 s2 (fun j hj=>(s3 j).1 hj) (fun j hj=>(s3 j).2 (hL.2 j hj)) (fun j hj=>.inl (by simpa using hL.1 j ((s3 j).1 hj))) φ H ts h1 h2 h3 h4 h5 ⟨h6.1,fun j a y ha hy _=>h6.2 j a y ha hy⟩
theorem TD.fin{Wy:List Pd}(h:TK Y ds k Wq K):TD Y ds Qy k Wy [] Wq K:=fun hj hraw hV A hA σ=>by
 induction σ with
 | nil =>
  intro _ _ _ _ _ φ H ts h1 h2 h3 h4 h5 h6;exact TA.regionEnd (h A hA) φ H ts h1 h2 h3 h4 h5 ⟨h6.1,fun j a y ha hy=>h6.2 j a y ha hy fun⟨p,_,hm,_⟩=>by cases hm⟩
 | cons c σ ih =>
  intro hnd hresp hsz hL hcov φ H ts h1 h2 h3 h4 h5 h6;obtain⟨p,hp,hc⟩:=(hcov c sQ).resolve_left sQ;exact zbH hp hc (hj p hp) hraw (hV p hp) hA hnd hsz hresp h1 h2 h3 h4 h5 h6 fun φ H ts h1 h3 h5 h6 =>
   ih (List.nodup_cons.1 hnd).2 hresp.2 (fun j hj=>hsz j (by simp[hj])) sQ (fun j hj=>hcov j (by simp[hj])) φ H ts h1 h2 h3 h4 h5 h6
def chkQ(Qy:Array gB)(Wy:List Pd)(s:List Nat)(i n:Nat)(d:Option Nat):Bool:=rawP Qy i s&&match d with
 | some d => !(s.elem d)&&decide (d<n)&&Wy.all fun p => !(p.s.elem d)&&dstOf Qy p.i !=some d
 | none=>tt
theorem zfF{Wy:List Pd}{d:Nat}{r:AV}(hc:Wy.all (fun p => !(p.s.elem d)&&dstOf Qy p.i !=some d)=tt)(h:∀ p∈Wy,Jq P gm Qy Wq p):∀ p∈Wy,Jq P gm Qy (Wq.set d r) p:=fun p hp=>by
 obtain⟨o,r',ho,hd,hq⟩:=h p hp;have:=List.all_eq_true.1 hc p hp;simp only[Bool.and_eq_true,Bool.not_eq_true',bne_iff_ne,ne_eq]at this;refine⟨o,r',ho,fun d' hd'=>?_,fun A hA=>?_⟩
 ·rw[List.getElem?_set_ne (fun e=>this.2 (by simp[dstOf,ho,hd',e]))];exact hd d' hd'
 ·rw[zhq this.1];exact hq A hA
theorem TD.qs{Wy:List Pd}{L':List Nat}(s:List Nat)(V:KV)(ho:Qy[i]? =some o)(hc:chkQ Qy Wy s i Wq.length o.dst=tt)(hV:∀ x∈V,x∈K)(hq:∀ A,zU V A->QS P gm Qy (onl s Wq) A o r)(he:zV Wq o.dst r=Wk)(h:TD Y ds Qy k (⟨i,s,V⟩::Wy) L' Wk K):TD Y ds Qy k Wy (i::L') Wq K:=by
 subst he;intro hj hraw hVp A hA σ hnd hresp hsz hL hcov φ H ts h1 h2 h3 h4 h5 h6;simp only[chkQ,Bool.and_eq_true]at hc;have hjn:∀ p∈(⟨i,s,V⟩::Wy:List Pd),Jq P gm Qy (zV Wq o.dst r) p:=by
  intro p hp;cases hdst:o.dst with
  | none =>
   rcases List.mem_cons.1 hp with rfl|hp
   ·exact⟨o,r,ho,(fun d hd=>by rw[hdst]at hd;cases hd),fun A hA=>hq A hA⟩
   ·exact hj p hp
  | some d =>
   have h7:=hc.2;rw[hdst]at h7;simp only[Bool.and_eq_true,Bool.not_eq_true',dT_]at h7;rcases List.mem_cons.1 hp with rfl|hp
   ·refine⟨o,r,ho,fun d' hd'=>?_,fun A hA=>?_⟩
    ·rw[hdst]at hd';cases hd';exact List.getElem?_set_self h7.1.2
    ·show QS P gm Qy (onl s (Wq.set d r)) A o r;rw[zhq h7.1.1];exact hq A hA
   ·exact zfF h7.2 hj p hp
 refine h hjn (fun p hp=>?_) (fun p hp=>?_) A hA σ hnd hresp hsz (fun j hj=>hL j (by simp[hj])) (fun j hj=>?_) φ H ts h1 h2 h3 h4 h5 ⟨?_,fun j a y ha hy hnh=>?_⟩
 ·rcases List.mem_cons.1 hp with rfl|hp
  ·exact hc.1
  ·exact hraw p hp
 ·rcases List.mem_cons.1 hp with rfl|hp
  ·exact hV
  ·exact hVp p hp
 ·rcases hcov j hj with h7|⟨p,hp,e⟩
  ·rcases List.mem_cons.1 h7 with rfl|h7
   ·exact .inr ⟨_,List.mem_cons_self,rfl⟩
   ·exact .inl h7
  ·exact .inr ⟨p,by simp[hp],e⟩
 ·rw[<- h6.1];cases o.dst <;> simp[zV]
 ·have hne:o.dst≠some j:=fun e=>hnh ⟨⟨i,s,V⟩,by simp,hL i sQ,by simp[dstOf,ho,e]⟩;refine h6.2 j a y ?_ hy fun⟨p,hp,h8,h9⟩=>hnh ⟨p,by simp[hp],h8,h9⟩;cases hdst:o.dst with
  | none=>rw[hdst]at ha;exact ha
  | some d =>
   rw[hdst]at ha;simp only[zV]at ha;rwa[List.getElem?_set_ne (fun e=>hne (by rw[hdst,e]))]at ha
theorem TD.q{Wy:List Pd}{L':List Nat}(s:List Nat)(V:KV)(ho:Qy[i]? =some o)(hd:yp o.op=ff)(hw:zM Qy (onl s Wq) o=some tt)(hc:chkQ Qy Wy s i Wq.length o.dst=tt)(hV:∀ x∈V,x∈K)(hq:∀ A,zU V A->OpOk P gm (onl s Wq) A o r A)(he:zV Wq o.dst r=Wk)(h:TD Y ds Qy k (⟨i,s,V⟩::Wy) L' Wk K):TD Y ds Qy k Wy (i::L') Wq K :=
 TD.qs s V ho hc hV (fun A hA=>.inl ⟨hw,hd,hq A hA⟩) he h
theorem TD.unwanted{Wy:List Pd}{L':List Nat}(s:List Nat)(ho:Qy[i]? =some o)(hw:zM Qy (onl s Wq) o=some ff)(hc:chkQ Qy Wy s i Wq.length o.dst=tt)(he:zV Wq o.dst (.v undef)=Wk)(h:TD Y ds Qy k (⟨i,s,[]⟩::Wy) L' Wk K):TD Y ds Qy k Wy (i::L') Wq K :=
 TD.qs s [] ho hc sQ (fun _ _=>.inr ⟨hw,rfl⟩) he h
def chkC(Qy:Array gB)(Wx:List Pd)(L' s:List Nat)(i:Nat)(d:Option Nat):Bool:=rawOk Qy i s&&L'.all (fun j=>(edgesOf .any Qy j).any fun e=>e==i||L'.elem e)&&match d with
 | some d=>Wx.all fun p => !(p.s.elem d)&&dstOf Qy p.i !=some d
 | none=>tt
def pendOf(Qy:Array gB)(i:Nat)(Wy:List Pd):List Pd:=Wy.filter fun p => !((edgesOf .any Qy i).elem p.i)
theorem TD.c{Wy Wx:List Pd}{L':List Nat}(s:List Nat)(ho:Qy[i]? =some o)(hw:zM Qy (onl s Wq) o=some tt)(hp':pendOf Qy i Wy=Wx)(hc:chkC Qy Wx L' s i o.dst=tt)
  (h:ExK Y (onl s Wq) K o fun r K'=>(∀ p∈Wx,∀ x∈p.V,x∈K')/\TD Y ds Qy k Wx L' (zV Wq o.dst r) K'):TD Y ds Qy k Wy (i::L') Wq K:=fun hj hraw hV A hA σ=>by
 subst hp';simp only[chkC,Bool.and_eq_true]at hc
 induction σ with
 | nil =>
  intro _ _ _ hL;exact absurd (hL i sQ) sQ
 | cons c σ ih =>
  intro hnd hresp hsz hL hcov φ H ts h1 h2 h3 h4 h5 h6;by_cases hci:c=i
  ·subst hci;have hrel:=zdz hsz hresp hc.1.1 hraw h6;refine h A hA Qy c σ k (dsC φ ds++Y.X.dd) φ H ts ho (zO hrel hw) h3 h5 hrel fun r A' φ' H' v ⟨K',hk,hV',hq⟩ hA' Wb hH' hr=>?_;have hds:dsC φ' ds=dsC φ ds:=by
    unfold dsC;exact List.map_congr_left fun d hd'=>by rw[hA' d (h4 d hd')]
   rw[<- hds];have hnd':=List.nodup_cons.1 hnd;have hkeep:∀ p∈Wy,p.i∈σ->p∈pendOf Qy c Wy:=fun p hp hm=>by
    refine List.mem_filter.2 ⟨hp,?_⟩;simp only[Bool.not_eq_true'];cases e:(edgesOf .any Qy c).elem p.i with
    | false=>rfl
    | true=>exact absurd (List.mem_cons_of_mem _ hm) (hresp.1 p.i (by simpa using e))
   refine hq (fun p hp=>?_) (fun p hp=>hraw p (List.mem_filter.1 hp).1) hV' A' (hA.step hk) σ hnd'.2 hresp.2 (fun j hj=>hsz j (by simp[hj])) (fun j hj=>?_) (fun j hj=>?_) φ' H' _ (h1.trans hA' h2) oQ (h3.mono hA' Wb) (fun d hd'=>Nat.lt_of_lt_of_le (h4 d hd') Wb) hH' ⟨?_,fun j a y ha hy hnh=>?_⟩
   ·have hj':∀ p∈pendOf Qy c Wy,Jq P gm Qy Wq p:=fun p hp=>hj p (List.mem_filter.1 hp).1;cases hdst:o.dst with
    | none=>exact hj' p hp
    | some d =>
     have h7:=hc.2;rw[hdst]at h7;exact zfF h7 hj' p hp
   ·have hb:=List.all_eq_true.1 hc.1.2 j hj;have hjm:=hL j (by simp[hj]);rcases List.mem_cons.1 hjm with e|hjm
    ·exfalso;subst e;rw[List.any_eq_true]at hb;obtain⟨e,he1,he2⟩:=hb;refine hresp.1 e he1 ?_;simp only[Bool.or_eq_true,beq_iff_eq]at he2;rcases he2 with rfl|he2
     ·simp
     ·exact hL e (by simp at he2;simp[he2])
    ·exact hjm
   ·rcases hcov j (by simp[hj])with h7|⟨p,hp,e⟩
    ·rcases List.mem_cons.1 h7 with rfl|h7
     ·exact absurd hj hnd'.1
     ·exact .inl h7
    ·exact .inr ⟨p,hkeep p hp (e ▸ hj),e⟩
   ·have:(putT ts o.dst v).size=ts.size:=by cases o.dst <;> simp[putT,Act.put]
    rw[this,<- h6.1];cases o.dst <;> simp[zV]
   ·have hback:o.dst≠some j->ts[j]? =some y->Wq[j]? =some a->RelV φ' A'.length a y:=fun hne hy' ha'=>by
     refine(h6.2 j a y ha' hy' fun⟨p,hp,h8,h9⟩=>?_).mono hA' Wb;rcases List.mem_cons.1 h8 with e|h8
     ·rw[e]at h9;simp[dstOf,ho]at h9;exact hne h9
     ·exact hnh ⟨p,hkeep p hp h8,h8,h9⟩
    cases hdst:o.dst with
    | none=>rw[hdst]at ha hy;exact hback (by rw[hdst];simp) hy ha
    | some d =>
     rw[hdst]at ha hy;simp only[zV,putT,Act.put]at ha hy;by_cases e:d=j
     ·subst e;have Qp:d<Wq.length:=by have:=(List.getElem?_eq_some_iff.1 ha).1;simpa using this
      rw[List.getElem?_set_self Qp]at ha;rw[Array.getElem?_setIfInBounds_self_of_lt (by rw[<- h6.1];exact Qp)]at hy;cases ha;cases hy;exact hr
     ·rw[List.getElem?_set_ne e]at ha;rw[Array.getElem?_setIfInBounds_ne e]at hy;exact hback (by rw[hdst];simpa using e) hy ha
  ·have hnd':=List.nodup_cons.1 hnd;rcases hcov c sQ with h7|⟨p,hp,e⟩
   ·exfalso;rcases List.mem_cons.1 h7 with h7|h7
    ·exact hci h7
    ·have hb:=List.all_eq_true.1 hc.1.2 c h7;rw[List.any_eq_true]at hb;obtain⟨e,he1,he2⟩:=hb;refine hresp.1 e he1 ?_;simp only[Bool.or_eq_true,beq_iff_eq]at he2;rcases he2 with rfl|he2
     ·exact hL e sQ
     ·exact hL e (by simp at he2;simp[he2])
   ·by_cases hcL:c∈i::L'
    ·exfalso;rcases List.mem_cons.1 hcL with h7|h7
     ·exact hci h7
     ·have hb:=List.all_eq_true.1 hc.1.2 c h7;rw[List.any_eq_true]at hb;obtain⟨e,he1,he2⟩:=hb;refine hresp.1 e he1 ?_;simp only[Bool.or_eq_true,beq_iff_eq]at he2;rcases he2 with rfl|he2
      ·exact hL e sQ
      ·exact hL e (by simp at he2;simp[he2])
    ·refine zbH hp e (hj p hp) hraw (hV p hp) hA hnd hsz hresp h1 h2 h3 h4 h5 h6 fun φ H ts h1 h3 h5 h6 =>
      ih hnd'.2 hresp.2 (fun j hj=>hsz j (by simp[hj])) (fun j hj=>?_) (fun j hj=>hcov j (by simp[hj])) φ H ts h1 h2 h3 h4 h5 h6
     rcases List.mem_cons.1 (hL j hj)with h8|h8
     ·exact absurd (h8 ▸ hj) hcL
     ·exact h8
theorem TD.split{Wy:List Pd}{L:List Nat}(d:Nat){t:Bool}(hd:Wq[d]? =some (.v (.bool t)))(h1:t=tt->TD Y ds Qy k Wy L (Wq.set d (.v (.bool tt))) K)(h0:t=ff->TD Y ds Qy k Wy L (Wq.set d (.v (.bool ff))) K):TD Y ds Qy k Wy L Wq K:=by
 have e:Wq.set d (.v (.bool t))=Wq:=by
  obtain⟨Qp,he⟩:=List.getElem?_eq_some_iff.1 hd;rw[<- he];exact List.set_getElem_self Qp
 cases t with
 | true=>rw[<- e];exact h1 rfl
 | false=>rw[<- e];exact h0 rfl
theorem TK.split(d:Nat){t:Bool}(hd:Wq[d]? =some (.v (.bool t)))(h1:t=tt->TK Y ds k (Wq.set d (.v (.bool tt))) K)(h0:t=ff->TK Y ds k (Wq.set d (.v (.bool ff))) K):TK Y ds k Wq K:=by
 have e:Wq.set d (.v (.bool t))=Wq:=by
  obtain⟨Qp,he⟩:=List.getElem?_eq_some_iff.1 hd;rw[<- he];exact List.set_getElem_self Qp
 cases t with
 | true=>rw[<- e];exact h1 rfl
 | false=>rw[<- e];exact h0 rfl
end
section
variable {P:gP}{gm:Nat->Option Nat}{V:KV}{Wq:List AV}{o:gB}{r:AV}
abbrev Qk(P:gP)(gm:Nat->Option Nat)(Wq:List AV)(V:KV)(o:gB)(r:AV):Prop:=∀ A,zU V A->OpOk P gm Wq A o r A
abbrev Nk(P:gP)(gm:Nat->Option Nat)(Wq:List AV)(V:KV)(o:gB)(f:Nat->AV)(ob:AObj):Prop:=∀ A,zU V A->OpOk P gm Wq A o (f A.length) (A++[ob])
def zn(gm:Nat->Option Nat)(Wq:List AV):gO->Option AV
 | .tmp t=>Wq[t]?
 | .const v=>some (.v v)
 | .global g=>some (match gm g with|some i=>.ptr i 0|none=>.v (.pointer (some ⟨g,0,none⟩)))
 | .func f=>some (.fn f [] [])
theorem zq{x:gO}(h:zn gm Wq x=some r):zT gm Wq x=r:=by
 cases x with
 | tmp t=>simp only[zn]at h;simp only[zT,List.getD_eq_getElem?_getD,h,Option.getD_some]
 | const v=>cases h;rfl
 | global g=>cases h;rfl
 | func f=>cases h;rfl
theorem zb{x:gO}(ho:o.op=.move x)(hx:zn gm Wq x=some r):Qk P gm Wq V o r:=fun _ _=>zq hx ▸ znA ho
theorem zI{x:gO}(ho:o.op=.assign x)(hx:zn gm Wq x=some r):Qk P gm Wq V o r:=fun _ _=>zq hx ▸ zjQ ho
theorem y9{c x y:gO}(ho:o.op=.pick c x y)(hc:zn gm Wq c=some (.v (.bool tt)))(hx:zn gm Wq x=some r):Qk P gm Wq V o r:=fun A _ φ F H a hg hH hE=>by
 unfold execOp;rw[ho];have h1:=zy hg hE c;rw[zq hc]at h1;simp only[inv_v h1];exact z7.quiet hH (zq hx ▸ zy hg hE x)
theorem yu{c x y:gO}(ho:o.op=.pick c x y)(hc:zn gm Wq c=some (.v (.bool ff)))(hy:zn gm Wq y=some r):Qk P gm Wq V o r:=fun A _ φ F H a hg hH hE=>by
 unfold execOp;rw[ho];have h1:=zy hg hE c;rw[zq hc]at h1;simp only[inv_v h1];exact z7.quiet hH (zq hy ▸ zy hg hE y)
theorem zpm{c x y:gO}{t a b:Bool}(ho:o.op=.pick c x y)(hc:zn gm Wq c=some (.v (.bool t)))(hx:zn gm Wq x=some (.v (.bool a)))(hy:zn gm Wq y=some (.v (.bool b))):Qk P gm Wq V o (.v (.bool (bif t then a else b))):=fun A _=>by
 have:=znB (P:=P) (A:=A) ho (zq hc);rw[zq hx,zq hy]at this;exact this
theorem vv(op:BinOp)(t:gT)(x y:gO)(k k':gJ)(a b:Int):eqGuard op t x y (.int k a) (.int k' b)=pure ():=by unfold eqGuard;cases op <;> rfl
theorem zmY(op:BinOp)(t:gT)(x y:gO)(a b:ByteArray):eqGuard op t x y (.string a) (.string b)=pure ():=by unfold eqGuard;cases op <;> rfl
theorem zk5(op:BinOp)(t:gT)(x y:gO)(a b:Bool):eqGuard op t x y (.bool a) (.bool b)=pure ():=by unfold eqGuard;cases op <;> rfl
theorem zJ{α β:Type}{P:gP}:∀{s:Sem α}{f:α->Sem β}{a:α}{b:β},zL P s=some a->zL P (f a)=some b->zL P (s >>= f)=some b:=by
 intro s
 induction s with
 | pure c=>intro f a b h k;cases h;exact k
 | program k' ih=>intro f a b h k;exact ih P h k
 | _=>intro f a b h;cases h
theorem yi{P:gP}{t:gT}{d:TypeDesc}(h:P.underlying t=some d):zL P (underlying t)=some d:=by
 show zL P (match P.underlying t with|some d=>pure d|none=>stuck "no such type")=_
 rw[h];rfl
theorem wv{op:BinOp}{t yt:gT}{x y:gO}{k:gJ}{a b:Int}{z:gV}(ho:o.op=.binOp op t x y yt)(hx:zn gm Wq x=some (.v (.int k a)))(hy:zn gm Wq y=some (.v (.int k b)))(h:zL P (binOp op t (.int k a) (.int k b))=some z):Qk P gm Wq V o (.v z):=fun A _ =>
 wu ho (by rw[zq hx];rfl) (by rw[zq hy];rfl) (by rw[vv];exact h)
theorem kg{n:Int}(h : -9223372036854775808<=n/\n<9223372036854775808):IntKind.i64.wrap n=n:=by
 unfold IntKind.wrap;simp only[show IntKind.i64.bits=64 from rfl,show IntKind.i64.signed=tt from rfl,Bool.true_and];split <;> rename_i h1 <;> simp only[dT_]at h1 <;> omega
theorem q_add{t yt:gT}{x y:gO}{a b:Int}(ho:o.op=.binOp .add t x y yt)(hx:zn gm Wq x=some (.v (.int .i64 a)))(hy:zn gm Wq y=some (.v (.int .i64 b)))(h : -9223372036854775808<=a+b/\a+b<9223372036854775808):Qk P gm Wq V o (.v (.int .i64 (a+b))):=by
 refine wv ho hx hy ?_;show some (Value.int .i64 (IntKind.i64.wrap (a+b)))=_;rw[kg h]
theorem q_sub{t yt:gT}{x y:gO}{a b:Int}(ho:o.op=.binOp .sub t x y yt)(hx:zn gm Wq x=some (.v (.int .i64 a)))(hy:zn gm Wq y=some (.v (.int .i64 b)))(h : -9223372036854775808<=a - b/\a - b<9223372036854775808):Qk P gm Wq V o (.v (.int .i64 (a - b))):=by
 refine wv ho hx hy ?_;show some (Value.int .i64 (IntKind.i64.wrap (a - b)))=_;rw[kg h]
theorem q_mul{t yt:gT}{x y:gO}{a b:Int}(ho:o.op=.binOp .mul t x y yt)(hx:zn gm Wq x=some (.v (.int .i64 a)))(hy:zn gm Wq y=some (.v (.int .i64 b)))(h : -9223372036854775808<=a*b/\a*b<9223372036854775808):Qk P gm Wq V o (.v (.int .i64 (a*b))):=by
 refine wv ho hx hy ?_;show some (Value.int .i64 (IntKind.i64.wrap (a*b)))=_;rw[kg h]
theorem q_rem{t yt:gT}{x y:gO}{k:gJ}{a b:Int}(ho:o.op=.binOp .rem t x y yt)(hx:zn gm Wq x=some (.v (.int k a)))(hy:zn gm Wq y=some (.v (.int k b)))(h0:0<=a)(h1:0<b):Qk P gm Wq V o (.v (.int k (a % b))):=by
 refine wv ho hx hy ?_;show zL P (if k≠k then _ else _)=_;rw[if_neg sQ];show zL P (if b=0 then _ else _)=_;rw[if_neg oQ];show some (Value.int k (a.tmod b))=_;rw[Int.tmod_eq_emod_of_nonneg h0]
theorem q_quo{t yt:gT}{x y:gO}{a b:Int}(ho:o.op=.binOp .quo t x y yt)(hx:zn gm Wq x=some (.v (.int .i64 a)))(hy:zn gm Wq y=some (.v (.int .i64 b)))(h0:0<=a)(h1:0<b)(h2:a<9223372036854775808):Qk P gm Wq V o (.v (.int .i64 (a / b))):=by
 refine wv ho hx hy ?_;show zL P (if b=0 then _ else _)=_;rw[if_neg oQ];show some (Value.int .i64 (IntKind.i64.wrap (a.tdiv b)))=_;rw[Int.tdiv_eq_ediv_of_nonneg h0,kg ⟨Int.le_trans oQ (Int.ediv_nonneg h0 oQ),Int.lt_of_le_of_lt (Int.ediv_le_self b h0) h2⟩]
def cmpI:BinOp->Int->Int->Option Bool
 | .eql,a,b=>some (a==b)
 | .neq,a,b=>some (a !=b)
 | .lss,a,b=>some (decide (a<b))
 | .leq,a,b=>some (decide (a<=b))
 | .gtr,a,b=>some (decide (a>b))
 | .geq,a,b=>some (decide (a>=b))
 | _,_,_=>none
theorem q_cmp{op:BinOp}{t yt:gT}{x y:gO}{k:gJ}{a b:Int}{z:Bool}(ho:o.op=.binOp op t x y yt)(hx:zn gm Wq x=some (.v (.int k a)))(hy:zn gm Wq y=some (.v (.int k b)))(h:cmpI op a b=some z):Qk P gm Wq V o (.v (.bool z)):=by
 refine wv ho hx hy ?_;cases op <;> first|(cases h;done)|skip
 all_goals
  cases h;show zL P (if k≠k then _ else _)=_;rw[if_neg sQ];rfl
def cmpS:BinOp->ByteArray->ByteArray->Option Bool
 | .eql,a,b=>some (a.toList==b.toList)
 | .neq,a,b=>some (!(a.toList==b.toList))
 | _,_,_=>none
theorem zj2{op:BinOp}{t yt:gT}{x y:gO}{a b:ByteArray}{z:Bool}(ho:o.op=.binOp op t x y yt)(hx:zn gm Wq x=some (.v (.string a)))(hy:zn gm Wq y=some (.v (.string b)))(h:cmpS op a b=some z):Qk P gm Wq V o (.v (.bool z)):=fun A _=>by
 refine wu ho (by rw[zq hx];rfl) (by rw[zq hy];rfl) ?_;rw[zmY];cases op <;> first|(cases h;done)|(cases h;rfl)
def cmpB:BinOp->Bool->Bool->Option Bool
 | .eql,a,b=>some (a==b)
 | .neq,a,b=>some (!(a==b))
 | _,_,_=>none
theorem zj1{op:BinOp}{t yt:gT}{x y:gO}{a b z:Bool}(ho:o.op=.binOp op t x y yt)(hx:zn gm Wq x=some (.v (.bool a)))(hy:zn gm Wq y=some (.v (.bool b)))(ht:P.underlying t=some .bool)(h:cmpB op a b=some z):Qk P gm Wq V o (.v (.bool z)):=fun A _=>by
 refine wu ho (by rw[zq hx];rfl) (by rw[zq hy];rfl) ?_;rw[zk5];have he:zL P (Op.equal t (.bool a) (.bool b))=some (a==b):=by
  show zL P (Op.equalIn (9999+1) t (.bool a) (.bool b))=_;unfold Op.equalIn;exact zJ (yi ht) rfl
 cases op <;> first|(cases h;done)|skip
 ·cases h;exact zJ (f:=fun z=>(pure (Value.bool z):Sem gV)) he rfl
 ·cases h;exact zJ (f:=fun z=>(pure (Value.bool !z):Sem gV)) he rfl
theorem q_not{t:gT}{x:gO}{a:Bool}(ho:o.op=.unOp .not t x)(hx:zn gm Wq x=some (.v (.bool a))):Qk P gm Wq V o (.v (.bool !a)):=fun A _ =>
 ok_un ho (by rw[zq hx];rfl) rfl
theorem yr{s d:gT}{x:gO}{k k':gJ}{ds:TypeDesc}{n m:Int}(ho:o.op=.convert s d x)(hx:zn gm Wq x=some (.v (.int k n)))(hs:P.underlying s=some ds)(hd:P.underlying d=some (.int k'))(h:k'.wrap n=m):Qk P gm Wq V o (.v (.int k' m)):=fun A _ =>
 zil ho (by rw[zq hx];rfl) (by
  unfold convert;refine zJ (yi hs) (zJ (yi hd) ?_);have:zL P (Conv.intToInt k' n)=some (.int k' m):=by rw[<- h];rfl
  cases ds <;> exact this)
theorem yM{x:gO}{k:Nat}{l:List AV}(ho:o.op=.extract x k)(hx:zn gm Wq x=some (.tup l))(h:l[k]? =some r):Qk P gm Wq V o r:=fun _ _=>zim ho (zq hx) h
theorem znP{t:gT}{x:gO}{k off n:Nat}{g:Bool}{l:List AV}(ho:o.op=.field t x k)(hx:zn gm Wq x=some (.agg l))(hf:fieldOf P t k=some (off,g,n))(h:partA g l off n=some r):Qk P gm Wq V o r:=fun _ _=>zlX ho (zq hx) hf h
theorem zi{t:gT}{x:gO}{k i off d n:Nat}{g:Bool}(ho:o.op=.fieldAddr t x k)(hx:zn gm Wq x=some (.ptr i off))(hf:fieldOf P t k=some (d,g,n))(hn:n≠0):Qk P gm Wq V o (.ptr i (off+d)):=fun _ _=>zfQ ho (zq hx) hf hn
theorem zc4{f:gF}{fs cs:Array gO}{l m:List AV}(ho:o.op=.makeFunc (.func f) fs cs)(h1:fs.toList.map (zT gm Wq)=l)(h2:cs.toList.map (zT gm Wq)=m):Qk P gm Wq V o (.fn f l m):=fun _ _=>by
 subst h1 h2;exact zgN ho
theorem kh{t:gT}{parts:Array (Nat×gO)}{z:List gV}{pl:List (Nat×Nat)}{l:List AV}(ho:o.op=.build t parts)(hz:tyZero P t=some z)(hp:bldOf P t=some pl)(h:fillA pl (z.map .v) (parts.toList.map fun(i,x)=>(i,zT gm Wq x))=some l):Qk P gm Wq V o (.agg l):=fun _ _=>zlV ho hz hp h
def z6(ob:AObj)(off n:Nat):Option (List AV):=match ob.look with
 | some l=>if 0<n/\off+n<=l.length then some ((l.drop off).take n)else none
 | none=>none
theorem uw{A:List AObj}{i off n:Nat}{ob:AObj}(h:A[i]? =some ob):loadA A i off n=z6 ob off n:=by
 unfold loadA z6;rw[h];rfl
theorem zK{t:gT}{x:gO}{i off n:Nat}{ob:AObj}{l:List AV}(ho:o.op=.load t x)(hx:zn gm Wq x=some (.ptr i off))(ht:tySize P t=some (tt,n))(hm:(i,ob)∈V)(hl:z6 ob off n=some l):Qk P gm Wq V o (.agg l):=fun _ hA=>znz ho (zq hx) ht ((uw (hA.get hm)).trans hl)
theorem zg{t:gT}{x:gO}{i off n:Nat}{ob:AObj}(ho:o.op=.load t x)(hx:zn gm Wq x=some (.ptr i off))(ht:tySize P t=some (ff,n))(hm:(i,ob)∈V)(hl:z6 ob off 1=some [r]):Qk P gm Wq V o r:=fun _ hA=>zlZ ho (zq hx) ht ((uw (hA.get hm)).trans hl)
def putO(ob:AObj)(off:Nat)(vs:List AV):Option AObj:=match ob with
 | .cells l e tt=>if off+vs.length<=l.length/\0<vs.length/\vs.all oneA=tt then some (.cells (setL l off vs) e tt)else none
 | .row l e size=>if off+vs.length<=l.length/\0<vs.length/\vs.all oneA=tt then some (.row (setL l off vs) e size)else none
 | _=>none
theorem zez{A:List AObj}{i off:Nat}{ob ob':AObj}{vs:List AV}(h:A[i]? =some ob)(hp:putO ob off vs=some ob'):storeA A i off vs=some (A.set i ob'):=by
 unfold putO at hp;unfold storeA;rw[h];split at hp
 ·split at hp
  ·rename_i hc;cases hp;simp only[hc,and_self,if_true]
  ·cases hp
 ·split at hp
  ·rename_i hc;cases hp;simp only[hc,and_self,if_true]
  ·cases hp
 ·cases hp
theorem zz{t:gT}{x y:gO}{i off n:Nat}{g:Bool}{vs:List AV}{ob ob':AObj}(ho:o.op=.store t x y)(hx:zn gm Wq x=some (.ptr i off))(ht:tySize P t=some (g,n))(hy:cellsA (zT gm Wq y)=some vs)(hn:vs.length=n)(hm:(i,ob)∈V)(hs:putO ob off vs=some ob') :
  ∀ A,zU V A->OpOk P gm Wq A o .any (A.set i ob'):=fun _ hA=>zl0 ho (zq hx) ht hy hn (zez (hA.get hm) hs)
theorem n_box{t:gT}{x:gO}{l:List AV}(ho:o.op=.box t x)(hx:cellsA (zT gm Wq x)=some l):Nk P gm Wq V o (fun j=>.ptr j 0) (.cells l t tt):=fun _ _=>zo8 ho hx
theorem znu{t:gT}{z:List gV}(ho:o.op=.alloc t)(hz:tyZero P t=some z):Nk P gm Wq V o (fun j=>.ptr j 0) (.cells (z.map .v) t tt):=fun _ _=>zlU ho hz
theorem zH{t e:gT}{len size:Nat}{parts:Array (Nat×gO)}{z:List gV}{l:List AV}(ho:o.op=.buildSlice t len parts)(ht:slElem P t=some (e,size))(hz:tyZero P e=some z)(Wb:len*size<=16777216)(hmax:len<=16777216)
  (h:fillA ((List.range len).map fun i=>(i*size,size)) (List.replicate (len*size) .any) (parts.toList.map fun(i,x)=>(i,zT gm Wq x))=some l):Nk P gm Wq V o (fun j=>.row j len) (.row l e size):=fun _ _=>zeM ho ht hz Wb hmax h
theorem kT{t e:gT}{x y:gO}{k:gJ}{n:Int}{i len size:Nat}(ho:o.op=.indexAddr t x y)(hx:zn gm Wq x=some (.row i len))(hy:zn gm Wq y=some (.v (.int k n)))(ht:slElem P t=some (e,size)){l:List AV}{e':gT}{s':Nat}(hm:(i,.row l e' s')∈V)(h0:0<=n)(h1:n<len) :
  Qk P gm Wq V o (.ptr i (n.toNat*size)):=fun _ hA=>zfS ho (zq hx) (zq hy) ht h0 h1 (hA.get hm)
theorem zk{t e:gT}{x y:gO}{k:gJ}{n:Int}{i off len size:Nat}(ho:o.op=.indexAddr t x y)(hx:zn gm Wq x=some (.sl i off len))(hy:zn gm Wq y=some (.v (.int k n)))(ht:slElem P t=some (e,size))(h0:0<=n)(h1:n<len) :
  Qk P gm Wq V o (.ptr i (off+n.toNat*size)):=fun _ _=>zgM ho (zq hx) (zq hy) ht h0 h1
theorem wL{t e:gT}{x y:gO}{k:gJ}{n:Int}{i off len size:Nat}{g:Bool}(ho:o.op=.indexAddr t x y)(hx:zn gm Wq x=some (.ptr i off))(hy:zn gm Wq y=some (.v (.int k n)))(ht:arrElem P t=some (len,e,g,size))(h0:0<=n)(h1:n<len) :
  Qk P gm Wq V o (.ptr i (off+n.toNat*size)):=fun _ _=>zfR ho (zq hx) (zq hy) ht h0 h1
theorem kP{t e:gT}{x y:gO}{k:gJ}{n:Int}{len size:Nat}{g:Bool}{l:List AV}(ho:o.op=.index t x y)(hx:zn gm Wq x=some (.agg l))(hy:zn gm Wq y=some (.v (.int k n)))(ht:arrElem P t=some (len,e,g,size))(h0:0<=n)(h1:n<len)
  (h:partA g l (n.toNat*size) size=some r):Qk P gm Wq V o r:=fun _ _=>zlY ho (zq hx) (zq hy) ht h0 h1 h
theorem vp{t:gT}{x y:gO}{k:gJ}{n:Int}{s:ByteArray}{c:UInt8}(ho:o.op=.index t x y)(hx:zn gm Wq x=some (.v (.string s)))(hy:zn gm Wq y=some (.v (.int k n)))(ht:P.underlying t=some .string)(h0:0<=n)(h1:s[n.toNat]? =some c) :
  Qk P gm Wq V o (.v (.int .u8 c.toNat)):=fun _ _=>zfT ho (zq hx) (zq hy) ht h0 h1
theorem q_len{x:gO}{u:AV}{t e:gT}{n:Nat}(ho:o.op=.call { callee:=.builtin .len,args:=#[x],argTypes:=#[t] })(hx:zn gm Wq x=some u)(hl:lenA u=some n)(ht:P.underlying t=some (.slice e)):Qk P gm Wq V o (.v (.int .i64 n)):=fun _ _=>zo9 ho (by rw[zq hx];exact hl) ht
theorem zma{x:gO}{t:gT}{s:ByteArray}(ho:o.op=.call { callee:=.builtin .len,args:=#[x],argTypes:=#[t] })(hx:zn gm Wq x=some (.v (.string s)))(ht:P.underlying t=some .string):Qk P gm Wq V o (.v (.int .i64 s.size)):=fun _ _=>zin ho (zq hx) ht
theorem q_min{x y:gO}{t u:gT}{k k':gJ}{m n:Int}(ho:o.op=.call { callee:=.builtin .min,args:=#[x,y],argTypes:=#[t,u] })(hx:zn gm Wq x=some (.v (.int k m)))(hy:zn gm Wq y=some (.v (.int k' n))):Qk P gm Wq V o (.v (.int k (if n<m then n else m))):=fun _ _=>zpb ho (zq hx) (zq hy)
theorem q_max{x y:gO}{t u:gT}{k k':gJ}{m n:Int}(ho:o.op=.call { callee:=.builtin .max,args:=#[x,y],argTypes:=#[t,u] })(hx:zn gm Wq x=some (.v (.int k m)))(hy:zn gm Wq y=some (.v (.int k' n))):Qk P gm Wq V o (.v (.int k (if m<n then n else m))):=fun _ _=>zpa ho (zq hx) (zq hy)
theorem zj8{t e:gT}{x:gO}{lo hi:Option gO}{i off len size l h:Nat}(ho:o.op=.slice t x lo hi none)(hx:zn gm Wq x=some (.sl i off len))(ht:slElem P t=some (e,size))
  (hlo:bndA (lo.map (zT gm Wq)) 0=some l) (hhi:bndA (hi.map (zT gm Wq)) len=some h) (h1:l<=h) (h2:h<=len) (hr:subA i off size l h=r):Qk P gm Wq V o r:=fun _ _=>hr ▸ zgO ho (zq hx) ht hlo hhi h1 h2
theorem wp{t e:gT}{x:gO}{lo hi:Option gO}{i len size l h:Nat}(ho:o.op=.slice t x lo hi none)(hx:zn gm Wq x=some (.row i len))(ht:slElem P t=some (e,size)){l0:List AV}{e':gT}{s':Nat}(hm:(i,.row l0 e' s')∈V)
  (hlo:bndA (lo.map (zT gm Wq)) 0=some l) (hhi:bndA (hi.map (zT gm Wq)) len=some h) (h1:l<=h) (h2:h<=len) (hr:subA i 0 size l h=r):Qk P gm Wq V o r:=fun _ hA=>hr ▸ zfV ho (zq hx) ht (hA.get hm) hlo hhi h1 h2
theorem zc5{t e:gT}{x:gO}{lo hi:Option gO}{i off len size l h:Nat}{g:Bool}(ho:o.op=.slice t x lo hi none)(hx:zn gm Wq x=some (.ptr i off))(ht:arrElem P t=some (len,e,g,size))
  (hlo:bndA (lo.map (zT gm Wq)) 0=some l) (hhi:bndA (hi.map (zT gm Wq)) len=some h) (h1:l<=h) (h2:h<=len) (hr:subA i off size l h=r):Qk P gm Wq V o r:=fun _ _=>hr ▸ zfU ho (zq hx) ht hlo hhi h1 h2
def srcO(V:KV)(size:Nat)(x:AV)(m:Nat)(ln:List AV):Prop:=∀ A,zU V A->srcA A size x=some (m,ln)
theorem zkO{s x:gO}{t e:gT}{ti:TypeInfo}{z:gV}{size bytes i n m:Nat}{lo ln:List AV}{u:AV}(ho:o.op=.call { callee:=.builtin .append,args:=#[s,x],argTypes:=#[t,t] })(ht:P.underlying t=some (.slice e))(hi:P.info? e=some ti)(hz:ti.zero=some z)
  (hsz:z.cells.size=size) (hts:ti.size=size) (hby:ti.bytes=bytes) (hs0:0<size) (hs:zn gm Wq s=some (.row i n)) (hm:(i,.row lo e size)∈V) (hlo:lo.length=n*size) (hx:zn gm Wq x=some u) (hsrc:srcO V size u m ln) (hm0:0<m) (hone:ln.all oneA=tt) (hmax:n+m<=maxLen) (hbytes:(n+m)*bytes<=140737488355328) :
  ∀ A,zU V A->OpOk P gm Wq A o (.row A.length (n+m)) (A.set i .gone++[.row (lo++ln) e size]):=fun A hA =>
 zjP ho ht hi hz hsz hts hby hs0 (.inr (.inr ⟨i,zq hs,hA.get hm,hlo,rfl⟩)) (by rw[zq hx];exact hsrc A hA) hm0 hone hmax hbytes
end
section
variable {P:gP}{gm:Nat->Option Nat}{T:gG->Hp->Prop}{Y:KX P gm T}{ds:List Nat}{k:List Item}{Wq Wk env1 env0:List AV}{K K':KV}{Qy:Array gB}{i:Nat}{Wp L L':List Nat}{o:gB}{r:AV}{ob ob':AObj}{envf:Nat->List AV}{Wy Wx:List Pd}{V:KV}
theorem TK.norm(he:Wq=Wk)(h:TK Y ds k Wk K):TK Y ds k Wq K:=he ▸ h
theorem TD.norm(he:Wq=Wk)(h:TD Y ds Qy k Wy L Wk K):TD Y ds Qy k Wy L Wq K:=he ▸ h
theorem TK.regionL{id:Nat}(hL:List.range Qy.size=L)(h:TK Y ds (.inRegion Qy L::k) Wq K):TK Y ds (.code (.region id Qy ff)::k) Wq K:=TK.region (by rw[hL];exact h)
theorem TK.newP(ho:Qy[i]? =some o)(hd:yp o.op=ff)(hw:zM Qy Wq o=some tt)(hq:Nk P gm Wq K o (fun j=>.ptr j 0) ob)(he:∀ j,zV Wq o.dst (.ptr j 0)=envf j)(h:∀ j,j∉keys K->TK Y ds (.inRegion Qy Wp::k) (envf j) ((j,ob)::K)):TK Y ds (.inRegion Qy (i::Wp)::k) Wq K:=TK.new ho hd hw hq he h
theorem TK.newR{n:Nat}(ho:Qy[i]? =some o)(hd:yp o.op=ff)(hw:zM Qy Wq o=some tt)(hq:Nk P gm Wq K o (fun j=>.row j n) ob)(he:∀ j,zV Wq o.dst (.row j n)=envf j)(h:∀ j,j∉keys K->TK Y ds (.inRegion Qy Wp::k) (envf j) ((j,ob)::K)):TK Y ds (.inRegion Qy (i::Wp)::k) Wq K:=TK.new ho hd hw hq he h
theorem TK.appR{j n:Nat}{K'':Nat->KV}(ho:Qy[i]? =some o)(hd:yp o.op=ff)(hw:zM Qy Wq o=some tt)(hq:∀ A,zU K A->OpOk P gm Wq A o (.row A.length n) (A.set j .gone++[ob']))(hu:∀ j',Upd K j ob j' ob' (K'' j'))(he:∀ j',zV Wq o.dst (.row j' n)=envf j')(h:∀ j',TK Y ds (.inRegion Qy Wp::k) (envf j') (K'' j')):TK Y ds (.inRegion Qy (i::Wp)::k) Wq K:=TK.app (f:=fun j'=>.row j' n) ho hd hw hq hu he h
theorem TK.splitN(d:Nat){t:Bool}(hd:Wq[d]? =some (.v (.bool t)))(h1:Wq.set d (.v (.bool tt))=env1)(h0:Wq.set d (.v (.bool ff))=env0)(k1:t=tt->TK Y ds k env1 K)(k0:t=ff->TK Y ds k env0 K):TK Y ds k Wq K:=by
 subst h1 h0;exact TK.split d hd k1 k0
theorem TD.splitN(d:Nat){t:Bool}(hd:Wq[d]? =some (.v (.bool t)))(h1:Wq.set d (.v (.bool tt))=env1)(h0:Wq.set d (.v (.bool ff))=env0)(k1:t=tt->TD Y ds Qy k Wy L env1 K)(k0:t=ff->TD Y ds Qy k Wy L env0 K):TD Y ds Qy k Wy L Wq K:=by
 subst h1 h0;exact TD.split d hd k1 k0
theorem TD.cq(s:List Nat)(ho:Qy[i]? =some o)(hd:yp o.op=ff)(hw:zM Qy (onl s Wq) o=some tt)(hp':pendOf Qy i Wy=Wx)(hc:chkC Qy Wx L' s i o.dst=tt)(hq:Qk P gm (onl s Wq) K o r)(he:zV Wq o.dst r=Wk)(hv:∀ p∈Wx,∀ x∈p.V,x∈K)(h:TD Y ds Qy k Wx L' Wk K):TD Y ds Qy k Wy (i::L') Wq K :=
 TD.c s ho hw hp' hc (vN hd fun A hv' hn=>⟨r,A,K,hq A hv',.same hv' hn,hv,by rw[he];exact h⟩)
theorem TD.cnewP(s:List Nat)(ho:Qy[i]? =some o)(hd:yp o.op=ff)(hw:zM Qy (onl s Wq) o=some tt)(hp':pendOf Qy i Wy=Wx)(hc:chkC Qy Wx L' s i o.dst=tt)(hq:Nk P gm (onl s Wq) K o (fun j=>.ptr j 0) ob)(he:∀ j,zV Wq o.dst (.ptr j 0)=envf j)(hv:∀ p∈Wx,∀ x∈p.V,x∈K)(h:∀ j,j∉keys K->TD Y ds Qy k Wx L' (envf j) ((j,ob)::K)):TD Y ds Qy k Wy (i::L') Wq K :=
 TD.c s ho hw hp' hc (vN hd fun A hv' hn=>⟨_,_,_,hq A hv',.push hv' hn ob,fun p hp x hx=>List.mem_cons_of_mem _ (hv p hp x hx),by dsimp only;rw[he];exact h _ fun hm=>absurd (hv'.lt hm) (Nat.lt_irrefl _)⟩)
theorem TD.cnewR{n:Nat}(s:List Nat)(ho:Qy[i]? =some o)(hd:yp o.op=ff)(hw:zM Qy (onl s Wq) o=some tt)(hp':pendOf Qy i Wy=Wx)(hc:chkC Qy Wx L' s i o.dst=tt)(hq:Nk P gm (onl s Wq) K o (fun j=>.row j n) ob)(he:∀ j,zV Wq o.dst (.row j n)=envf j)(hv:∀ p∈Wx,∀ x∈p.V,x∈K)(h:∀ j,j∉keys K->TD Y ds Qy k Wx L' (envf j) ((j,ob)::K)):TD Y ds Qy k Wy (i::L') Wq K :=
 TD.c s ho hw hp' hc (vN hd fun A hv' hn=>⟨_,_,_,hq A hv',.push hv' hn ob,fun p hp x hx=>List.mem_cons_of_mem _ (hv p hp x hx),by dsimp only;rw[he];exact h _ fun hm=>absurd (hv'.lt hm) (Nat.lt_irrefl _)⟩)
theorem TD.cst{j:Nat}(s:List Nat)(ho:Qy[i]? =some o)(hd:yp o.op=ff)(hw:zM Qy (onl s Wq) o=some tt)(hp':pendOf Qy i Wy=Wx)(hc:chkC Qy Wx L' s i o.dst=tt)(hq:∀ A,zU K A->OpOk P gm (onl s Wq) A o r (A.set j ob'))(hu:Upd K j ob j ob' K')(he:zV Wq o.dst r=Wk)(hv:∀ p∈Wx,∀ x∈p.V,x∈K')(h:TD Y ds Qy k Wx L' Wk K'):TD Y ds Qy k Wy (i::L') Wq K :=
 TD.c s ho hw hp' hc (vN hd fun A hv' hn=>⟨r,_,K',hq A hv',.set hv' hn hu,hv,by rw[he];exact h⟩)
theorem TD.capp{j n:Nat}{K'':Nat->KV}(s:List Nat)(ho:Qy[i]? =some o)(hd:yp o.op=ff)(hw:zM Qy (onl s Wq) o=some tt)(hp':pendOf Qy i Wy=Wx)(hc:chkC Qy Wx L' s i o.dst=tt)(hq:∀ A,zU K A->OpOk P gm (onl s Wq) A o (.row A.length n) (A.set j .gone++[ob']))(hu:∀ j',Upd K j ob j' ob' (K'' j'))(he:∀ j',zV Wq o.dst (.row j' n)=envf j')(hv:∀ j',∀ p∈Wx,∀ x∈p.V,x∈K'' j')(h:∀ j',TD Y ds Qy k Wx L' (envf j') (K'' j')):TD Y ds Qy k Wy (i::L') Wq K :=
 TD.c s ho hw hp' hc (vN hd fun A hv' hn=>⟨_,_,_,hq A hv',.renew hv' hn (hu _),hv _,by rw[he];exact h _⟩)
theorem TK.call'{fo:gO}{ars:Array gO}{at_:Array gT}{g:gF}{fs cp args:List AV}{Kf R:KV}{Post:AV->KV->Prop}(ho:Qy[i]? =some o)(hw:zM Qy Wq o=some tt)(Qw:o.op=.call { callee:=.value fo,args:=ars,argTypes:=at_ })
  (hf:zn gm Wq fo=some (.fn g fs cp)) (hg:yk P g=tt) (Qg:fs++ars.toList.map (zT gm Wq)++cp=args) (hc:zl P T gm g args Kf Post) (hs:Split K Kf R)
  (h:∀ r K',Post r K'->TK Y ds (.inRegion Qy Wp::k) (zV Wq o.dst r) (K'++R)):TK Y ds (.inRegion Qy (i::Wp)::k) Wq K:=TK.ex ho hw (zb8 Qw (zq hf) hg Qg hc hs h)
theorem TD.call'{fo:gO}{ars:Array gO}{at_:Array gT}{g:gF}{fs cp args:List AV}{Kf R:KV}{Post:AV->KV->Prop}(s:List Nat)(ho:Qy[i]? =some o)(hw:zM Qy (onl s Wq) o=some tt)(hp':pendOf Qy i Wy=Wx)(hc':chkC Qy Wx L' s i o.dst=tt)(Qw:o.op=.call { callee:=.value fo,args:=ars,argTypes:=at_ })
  (hf:zn gm (onl s Wq) fo=some (.fn g fs cp)) (hg:yk P g=tt) (Qg:fs++ars.toList.map (zT gm (onl s Wq))++cp=args) (hc:zl P T gm g args Kf Post) (hs:Split K Kf R)
  (h:∀ r K',Post r K'->(∀ p∈Wx,∀ x∈p.V,x∈K'++R)/\TD Y ds Qy k Wx L' (zV Wq o.dst r) (K'++R)):TD Y ds Qy k Wy (i::L') Wq K:=TD.c s ho hw hp' hc' (zb8 Qw (zq hf) hg Qg hc hs h)
theorem yO{j m size:Nat}{l ln:List AV}{e:gT}{s':Nat}(hm:(j,.row l e s')∈V)(Qx:0<m*size)(hle:m*size<=l.length)(hl:l.take (m*size)=ln):srcO V size (.row j m) m ln:=fun A hA=>by
 simp only[srcA];rw[if_neg oQ,hA.get hm];simp only[loadA,hA.get hm,AObj.look,List.drop_zero,Nat.zero_add];rw[if_pos ⟨Qx,hle⟩,hl];rfl
theorem zan{j off m size:Nat}{ob:AObj}{ln:List AV}(hm:(j,ob)∈V)(Qx:0<m*size)(hl:z6 ob off (m*size)=some ln):srcO V size (.sl j off m) m ln:=fun A hA=>by
 simp only[srcA];rw[if_neg oQ,uw (hA.get hm),hl];rfl
def tyZeroA(P:gP)(t:gT):Option (List AV):=(tyZero P t).map fun z=>z.map .v
theorem yA{t:gT}{l:List AV}(ho:o.op=.alloc t)(hz:tyZeroA P t=some l):Nk P gm Wq V o (fun j=>.ptr j 0) (.cells l t tt):=by
 unfold tyZeroA at hz;cases e:tyZero P t with
 | none=>rw[e]at hz;cases hz
 | some z=>rw[e]at hz;cases hz;exact znu ho e
def apOf(P:gP)(t:gT):Option (gT×Nat×Nat):=match P.underlying t with
 | some (.slice e)=>match P.info? e with
  | some ti=>match ti.zero with
   | some z=>if z.cells.size=ti.size/\0<ti.size then some (e,ti.size,ti.bytes)else none
   | none=>none
  | none=>none
 | _=>none
theorem a_app{s x:gO}{t e:gT}{size bytes i n m:Nat}{lo ln:List AV}{u:AV}(ho:o.op=.call { callee:=.builtin .append,args:=#[s,x],argTypes:=#[t,t] })(ht:apOf P t=some (e,size,bytes))(hs:zn gm Wq s=some (.row i n))(hm:(i,.row lo e size)∈V)(hlo:lo.length=n*size)(hx:zn gm Wq x=some u)(hsrc:srcO V size u m ln)(hm0:0<m)(hone:ln.all oneA=tt)(hmax:n+m<=maxLen)(hbytes:(n+m)*bytes<=140737488355328) :
  ∀ A,zU V A->OpOk P gm Wq A o (.row A.length (n+m)) (A.set i .gone++[.row (lo++ln) e size]):=by
 unfold apOf at ht;split at ht
 ·rename_i e' h1;split at ht
  ·rename_i ti h2;split at ht
   ·rename_i z h3;split at ht
    ·rename_i h4;cases ht;exact zkO ho h1 h2 h3 h4.1 rfl rfl h4.2 hs hm hlo hx hsrc hm0 hone hmax hbytes
    ·cases ht
   ·cases ht
  ·cases ht
 ·cases ht
inductive ResK(P:gP)(K:KV)(Wq:List AV):gR->AV->Prop
 | tmp {t:Nat} {r:AV}:Wq[t]? =some r->ResK P K Wq (.tmp t) r
 | cell {a t i off n:Nat} {ob:AObj} {l:List AV}:Wq[a]? =some (.ptr i off)->tySize P t=some (tt,n)->(i,ob)∈K->z6 ob off n=some l->ResK P K Wq (.cell a t) (.agg l)
 | cell1 {a t i off n:Nat} {ob:AObj} {r:AV}:Wq[a]? =some (.ptr i off)->tySize P t=some (ff,n)->(i,ob)∈K->z6 ob off 1=some [r]->ResK P K Wq (.cell a t) r
theorem zQ{t:Nat}(h:Wq[t]? =some r):ResK P K Wq (.tmp t) r:=.tmp h
theorem ki{a t i off n:Nat}{l:List AV}(h:Wq[a]? =some (.ptr i off))(ht:tySize P t=some (tt,n))(hm:(i,ob)∈K)(hl:z6 ob off n=some l):ResK P K Wq (.cell a t) (.agg l):=.cell h ht hm hl
theorem yG{a t i off n:Nat}(h:Wq[a]? =some (.ptr i off))(ht:tySize P t=some (ff,n))(hm:(i,ob)∈K)(hl:z6 ob off 1=some [r]):ResK P K Wq (.cell a t) r:=.cell1 h ht hm hl
theorem zdr{l:List AV}{t:Nat}(h:l[t]? =some r):l.getD t .any=r:=by rw[List.getD_eq_getElem?_getD,h];rfl
theorem ResK.res{v:gR}(h:ResK P K Wq v r){A:List AObj}(hA:zU K A):resA1 P Wq A v=some r:=by
 cases h with
 | tmp h=>simp only[resA1,zdr h]
 | cell h ht hm hl=>simp only[resA1,zdr h,varA,ht,uw (hA.get hm),hl]
 | cell1 h ht hm hl=>simp only[resA1,zdr h,varA,ht,uw (hA.get hm),hl]
inductive ResKs(P:gP)(K:KV)(Wq:List AV):List gR->List AV->Prop
 | nil:ResKs P K Wq [] []
 | cons {v:gR} {r:AV} {vs:List gR} {rs:List AV}:ResK P K Wq v r->ResKs P K Wq vs rs->ResKs P K Wq (v::vs) (r::rs)
theorem ResKs.res{vs:List gR}{rs:List AV}(h:ResKs P K Wq vs rs){A:List AObj}(hA:zU K A):resAs P Wq A vs=some rs:=by
 induction h with
 | nil=>rfl
 | cons h _ ih=>simp only[resAs,h.res hA,ih]
theorem yR{v:gR}(h:ResK P K Wq v r):∀ A,zU K A->resA P [v] Wq A=some r:=fun A hA=>by
 simp only[resA,resAs,h.res hA]
theorem kC{vs:List gR}{rs:List AV}(h:ResKs P K Wq vs rs)(hl:(rs.length==1)=ff):∀ A,zU K A->resA P vs Wq A=some (.tup rs):=fun A hA=>by
 unfold resA;rw[h.res hA];split
 ·rename_i e;cases e;cases hl
 ·rename_i e;cases e;rfl
 ·rename_i e;cases e
end
def liveA(live:List Nat):Nat->List AV->List AV
 | _,[]=>[]
 | i,a::l=>(bif live.elem i then a else .any)::liveA live (i+1) l
def liveB(live:List Nat):Nat->List AV->List Bool
 | _,[]=>[]
 | i,_::l=>live.elem i::liveB live (i+1) l
theorem zcg(live:List Nat):∀(i:Nat)(l:List AV),maskA (liveB live i l) l=liveA live i l
 | _,[]=>rfl
 | i,a::l=>by
  unfold liveA liveB;cases h:live.elem i
  ·show AV.any::maskA (liveB live (i+1) l) l=_;rw[zcg live (i+1) l];rfl
  ·show a::maskA (liveB live (i+1) l) l=_;rw[zcg live (i+1) l];rfl
theorem TK.maskL{P:gP}{gm:Nat->Option Nat}{T:gG->Hp->Prop}{Y:KX P gm T}{ds:List Nat}{k:List Item}{Wq:List AV}{K:KV}(live:List Nat)(h:TK Y ds k (liveA live 0 Wq) K):TK Y ds k Wq K:=TK.mask _ (zcg live 0 Wq) h
theorem zD{Wq Wk:List AV}{x:Option Nat}{d:Nat}{r:AV}(h:x=some d)(he:Wq.set d r=Wk):zV Wq x r=Wk:=by subst h;exact he
theorem putN{Wq:List AV}{x:Option Nat}{r:AV}(h:x=none):zV Wq x r=Wq:=by subst h;rfl
section
variable {P:gP}{gm:Nat->Option Nat}{T:gG->Hp->Prop}{Y:KX P gm T}{ds:List Nat}{k:List Item}{Wq Wk:List AV}{K:KV}{Qy:Array gB}{i d:Nat}{o:gB}{r:AV}{Wp:List Nat}
theorem TK.a(ho:Qy[i]? =some o)(hq:∀ A,zU K A->OpOk P gm Wq A o r A)(h:TK Y ds (.inRegion Qy Wp::k) Wk K)(hd:yp o.op=ff:=by rfl)(hw:zM Qy Wq o=some tt:=by rfl)(hx:o.dst=some d:=by rfl)(he:Wq.set d r=Wk:=by simp only[List.set];rfl):TK Y ds (.inRegion Qy (i::Wp)::k) Wq K :=
 TK.q ho hd hw hq (zD hx he) h
end
theorem RelH.turn{φ:Nat->Loc3}{A:List AObj}{F H:Hp}(h:RelH φ A F H){i:Nat}{o o':AObj}(hi:A[i]? =some o)(ho:RelO φ A.length (φ i) H o->RelO φ A.length (φ i) H o')(hx:o'.excl=tt->o.excl=tt)(hl:o'.live=tt->o.live=tt)(hs:sol (φ i) o'->sol (φ i) o):RelH φ (A.set i o') F H:=by
 have Qp:i<A.length:=(lD.1 hi).1;have hget:∀(j:Nat) q,(A.set i o')[j]? =some q->(j≠i/\A[j]? =some q)\/(j=i/\q=o'):=fun j q hj=>by
  rw[lX]at hj;split at hj
  ·rename_i e;subst e;simp[Qp]at hj;exact .inr ⟨rfl,hj.symm⟩
  ·rename_i e;exact .inl ⟨Ne.symm e,hj⟩
 refine⟨fun j q hj=>?_,fun j k q1 q2 hj hk hjk he hl' hs1 hs2=>?_,h.fr,fun j q hj he hsj=>?_⟩
 ·rw[List.length_set];rcases hget j q hj with⟨_,hj'⟩|⟨rfl,rfl⟩
  ·exact h.obj j q hj'
  ·exact ho (h.obj j o hi)
 ·rcases hget j q1 hj with⟨_,hj'⟩|⟨rfl,rfl⟩
  ·rcases hget k q2 hk with⟨_,hk'⟩|⟨rfl,rfl⟩
   ·exact h.apart j k q1 q2 hj' hk' hjk he hl' hs1 hs2
   ·exact h.apart j k q1 o hj' hi hjk he (hl hl') hs1 (hs hs2)
  ·rcases hget k q2 hk with⟨_,hk'⟩|⟨rfl,rfl⟩
   ·exact h.apart j k o q2 hi hk' hjk (hx he) hl' (hs hs1) hs2
   ·exact absurd rfl hjk
 ·rcases hget j q hj with⟨_,hj'⟩|⟨rfl,rfl⟩
  ·exact h.frx j q hj' he hsj
  ·exact h.frx j o hi (hx he) (hs hsj)
theorem RelH.virtO{φ:Nat->Loc3}{A:List AObj}{F H:Hp}(h:RelH φ A F H){o:AObj}(ho:∀(φ:Nat->Loc3) n,RelO φ n ⟨0,0,0⟩ H o)(hs:¬ sol ⟨0,0,0⟩ o):RelH (yc φ A.length ⟨0,0,0⟩) (A++[o]) F H:=by
 have Wb:(A++[o]).length=A.length+1:=by simp
 have hget:∀(i:Nat) o',(A++[o])[i]? =some o'->(i<A.length/\A[i]? =some o')\/(i=A.length/\o'=o):=fun i o' hi=>by
  rcases mR i A.length with Qp|hge
  ·rw[lG Qp]at hi;exact .inl ⟨Qp,hi⟩
  ·rw[List.getElem?_append_right hge]at hi;have:i - A.length=0:=by
    have:=(lD.1 hi).1;simp at this;omega
   rw[this]at hi;simp at hi;exact .inr ⟨by omega,hi.symm⟩
 have hold:∀ i,i<A.length->yc φ A.length ⟨0,0,0⟩ i=φ i:=fun i hi=>by simp[yc];omega
 have hnew:yc φ A.length ⟨0,0,0⟩ A.length=⟨0,0,0⟩:=by simp[yc]
 refine⟨fun i o' hi=>?_,fun i j o1 o2 hi hj hij he hl hs1 hs2=>?_,h.fr,fun i o' hi he hsi=>?_⟩
 ·rw[Wb];rcases hget i o' hi with⟨Qp,hi'⟩|⟨rfl,rfl⟩
  ·rw[hold i Qp];exact(h.obj i o' hi').mono (yn φ _ _) oQ (fun _ _=>rfl)
  ·rw[hnew];exact ho _ _
 ·rcases hget i o1 hi with⟨hi1,hi'⟩|⟨rfl,rfl⟩
  ·rcases hget j o2 hj with⟨hj1,hj'⟩|⟨rfl,rfl⟩
   ·rw[hold i hi1]at hs1 ⊢;rw[hold j hj1]at hs2 ⊢;exact h.apart i j o1 o2 hi' hj' hij he hl hs1 hs2
   ·rw[hnew]at hs2;exact absurd hs2 hs
  ·rw[hnew]at hs1;exact absurd hs1 hs
 ·rcases hget i o' hi with⟨Qp,hi'⟩|⟨rfl,rfl⟩
  ·rw[hold i Qp]at hsi ⊢;exact h.frx i o' hi' he hsi
  ·rw[hnew]at hsi;exact absurd hsi hs
section
variable {P:gP}{gm:Nat->Option Nat}{T:gG->Hp->Prop}{Y:KX P gm T}{ds:List Nat}{k:List Item}{Wq Wk:List AV}{K K':KV}
theorem zN.set'{φ:Nat->Loc3}{n:Nat}{ts:Array gV}(h:zN φ n Wq ts){d:Nat}{a a':AV}(hd:Wq[d]? =some a)(hr:∀ y,RelV φ n a y->RelV φ n a' y):zN φ n (Wq.set d a') ts:=by
 refine⟨by simp[h.1],fun j u y hu hy=>?_⟩;rw[lX]at hu;split at hu
 ·rename_i e;subst e;split at hu
  ·cases hu;exact hr y (h.2 d a y hd hy)
  ·cases hu
 ·exact h.2 j u y hu hy
def unrow(j:Nat):AV->AV
 | .row i n=>if i=j then .sl i 0 n else .row i n
 | a=>a
theorem wJ{φ:Nat->Loc3}{n j:Nat}(hb:(φ j).base=0){a:AV}{y:gV}(h:RelV φ n a y):RelV φ n (unrow j a) y:=by
 cases a with
 | row i len =>
  show RelV φ n (if i=j then .sl i 0 len else .row i len) y;split
  ·rename_i e;subst e;obtain⟨h1,h2,h3⟩:=zah h;unfold rowV at h3;split at h3
   ·rename_i e0;obtain⟨b,rfl⟩:=h3;obtain rfl:len=0:=by omega
    exact .sl h1 (mL _) fun hp=>absurd hp (Nat.lt_irrefl _)
   ·rw[h3];exact .sl h1 h2 fun _=>by rw[hb]
  ·exact h
 | _=>exact h
def unrow1(j:Nat):AV->AV
 | .agg l=>.agg (l.map (unrow j))
 | a=>unrow j a
theorem ziJ{φ:Nat->Loc3}{n j:Nat}(hb:(φ j).base=0){a:AV}{y:gV}(h:RelV φ n a y):RelV φ n (unrow1 j a) y:=by
 cases a with
 | agg l =>
  obtain⟨ys,rfl,h1,h2⟩:=zbB h;refine .agg (by simpa using h1) fun t u z hu hz=>?_;rw[lQ]at hu;cases e:l[t]? with
  | none=>rw[e]at hu;cases hu
  | some v=>rw[e]at hu;cases hu;exact wJ hb (h2 t v z e hz)
 | _=>exact wJ hb h
theorem TK.freeze(d:Nat){j:Nat}{l:List AV}{e:gT}{s:Nat}{a:AV}(hd:Wq[d]? =some a)(hu:Upd K j (.row l e s) j (.cells l e ff) K')(he:Wq.set d (unrow1 j a)=Wk)(h:TK Y ds k Wk K'):TK Y ds k Wq K:=fun A hA φ H ts h1 h2 h3 h4 h5 h6=>by
 have hj:=hA.view.get hu.mem;have hb:(φ j).base=0:=(h5.obj j _ hj).2.1;subst he;refine h _ (hA.step (.set hA.view hA.nd hu)) φ H ts h1 (by simpa using h2) (by simpa using h3) (by simpa using h4) ?_ (by simpa using h6.set' hd fun y hy=>ziJ hb hy);refine h5.turn hj (fun ho hl=>?_) (fun h=>by cases h) (fun _=>rfl) (fun hs=>?_)
 ·have hc:0<(φ j).cap:=by
   rcases mP (φ j).cap with e|e
   ·exact absurd (ho.1 e) hl
   ·exact e
  obtain⟨cur,q1,q2,q3,q4,q5⟩:=ho.2.2 hc;exact⟨tt,cur,(_,0,0),q1,(fun h=>by cases h),fun t u hu=>by rw[hb,mO];exact q5 t u hu⟩
 ·show 0<(φ j).cap;rcases mP (φ j).cap with e|e
  ·exact absurd ((h5.obj j _ hj).1 e) hs
  ·exact e
theorem ze2{main:Bool}(hT:zo P main T){g:gF}{fn:Func}{c:Code}{args:List AV}{Post:AV->KV->Prop}(hf:P.funcs[g]? =some fn)(hb:fn.body=some c)
  (h:∀ Y:KX P gm T,(∀ j Wq K' K'' D r,(j=none\/j=some .ret)->Split K' K'' D->(∀ A',zU K' A'->resA P fn.results.toList Wq A'=some r)->Post r K''->∀ A',Kn Y K' A'->Y.X.L j [] Wq A')->TK Y [] [.code c] (args++mB (fn.ntmps - args.length) .any) K):zl P T gm g args K Post:=by
 intro A hv hn;refine zgz hT hf hb fun X Wz hend=>?_;refine h ⟨X,A,keys K⟩ (fun j Wq K' K'' D r hj hsp hres hp A' hA'=>?_) A ⟨hv,hn,fun i hi=>.inl hi,fun _ _ _=>rfl,mL _⟩;have hpm:=hsp.perm;have hnd:=(zW hpm).nodup_iff.1 hA'.nd;rw[yz]at hnd;have hq:∃ K',Kstep K A K' A'/\Post r K':=⟨K'',⟨hA'.view.sub fun x hx=>hpm.symm.subset (by simp[hx]),(List.nodup_append.1 hnd).1,fun i hi=>hA'.own i (by
  obtain⟨x,hx,rfl⟩:=lY.1 hi;exact yN (hpm.symm.subset (by simp[hx]))),hA'.kept,hA'.len⟩,hp⟩
 rcases hj with rfl|rfl
 ·exact hend Wq A' r (hres A' hA'.view) hq
 ·exact Wz Wq A' r (hres A' hA'.view) hq
end
section
variable {P:gP}{gm:Nat->Option Nat}{V:KV}{Wq:List AV}{o:gB}{r:AV}
def byteA(b:UInt8):AV:=.v (.int .u8 b.toNat)
theorem zjI{sT dT e:gT}{x:gO}{s:ByteArray}(ho:o.op=.convert sT dT x)(hx:zn gm Wq x=some (.v (.string s)))(hs:P.underlying sT=some .string)(hd:P.underlying dT=some (.slice e))(he:P.underlying e=some (.int .u8))(hl:s.size<=1000000) :
  Nk P gm Wq V o (fun j=>.sl j 0 s.size) (.cells (s.data.toList.map byteA) e ff):=fun A _ φ F H a hg hH hE=>by
 unfold execOp;rw[ho];dsimp only;have hx':=zy hg hE x;rw[zq hx]at hx';rw[inv_v hx'];refine wpS_v ?_;unfold convert;refine zf _ _ _ (zB hs ?_);refine zf _ _ _ (zB hd ?_);dsimp only;refine zf _ _ _ (zB he ?_);dsimp only;unfold Conv.stringToBytes;refine zf _ _ _ fun cap Jx hc2=>?_;have hcap:=zcE (e:=e) (old:=0) oQ Jx hc2;dsimp only;unfold newRow;refine zf _ _ _ ?_;refine zf _ _ _ fun b hb=>?_;refine zf _ _ _ ?_;unfold markStringish;refine zf _ _ _ ?_;refine⟨_,_,Hp.put_same _ _ _,?_⟩;dsimp only[shapeOf];refine⟨by omega,_,_,_,Hp.put_same _ _ _,?_⟩;rw[Hp.put_put];refine⟨_,yc φ A.length ⟨b,0,0⟩,.inl rfl,yn _ _ _,by simp,hH.push hb Z ?_,?_⟩
 ·refine fun _=>⟨tt,_,(_,_,_),Hp.put_same _ _ _,(fun h=>by cases h),fun j u hu=>?_⟩;rw[lQ]at hu;cases e1:s.data.toList[j]? with
  | none=>rw[e1]at hu;cases hu
  | some c =>
   rw[e1]at hu;cases hu;refine⟨.int .u8 c.toNat,?_,.v _⟩;rw[mO];have Qp:j<s.data.size:=by have:=(lD.1 e1).1;simpa using this
   rw[Array.getElem?_append_left (by simpa using Qp),Array.getElem?_map];rw[mI]at e1;rw[e1];rfl
 ·refine .sl sQ hcap.1 fun _=>?_;simp[yc]
variable {T:gG->Hp->Prop}{Y:KX P gm T}{ds:List Nat}{k:List Item}{K:KV}{Qy:Array gB}{i:Nat}{Wp:List Nat}{ob:AObj}{envf:Nat->List AV}
theorem TK.loop{c:Code}(h:TK Y ds (.code c::.inLoop c::k) Wq K):TK Y ds (.code (.loop c)::k) Wq K:=fun A hA=>(h A hA).loop
theorem TK.newS{n:Nat}(ho:Qy[i]? =some o)(hd:yp o.op=ff)(hw:zM Qy Wq o=some tt)(hq:Nk P gm Wq K o (fun j=>.sl j 0 n) ob)(he:∀ j,zV Wq o.dst (.sl j 0 n)=envf j)(h:∀ j,j∉keys K->TK Y ds (.inRegion Qy Wp::k) (envf j) ((j,ob)::K)):TK Y ds (.inRegion Qy (i::Wp)::k) Wq K:=TK.new ho hd hw hq he h
end
section
variable {P:gP}{main:Bool}{T:gG->Hp->Prop}{kd:CallKind}{f:gF}{ro:Option Nat}{ts:Array gV}{ds:List Deferred}{k:List Item}{cs:List Frame}{H:Hp}{w:World}
def ylCall(fo:gO)(l:Nat):Call:={ callee:=.value fo,args:=#[.const (.func (.yield l) #[] #[])],argTypes:=#[] }
theorem StepH.seen{w':World}{es:Array Event}(h:StepH H w w' es):StepH H w w' (Go.seen P f es):=⟨h.size,h.kept,fun e he=>h.evs e (mem_seen he),h.os,h.out,h.tape⟩
theorem km{α:Type}{P:gP}{s:Sem α}{w w1:World}{a:α}{es:Array Event}(h:s.runT P w #[]=(.ok a w1,es)):s.run P w=.ok a w1/\s.events P w #[]=es:=by
 have:=Sem.runT_eq P s w #[];rw[h]at this;exact⟨(congrArg Prod.fst this).symm,(congrArg Prod.snd this).symm⟩
theorem zo.rangeF(hT:zo P main T)(hkd:kd≠.early){fo:gO}{ps:Array Tmp}{x y:Code}
  (h:wpS P (Instr.enterLoop f ts ps x y ro) H fun lm H1=>wpS P (resolve (evT ts) (ylCall fo lm.1) 0 >>= fun d=>invoke d.target d.args) H1 fun nx H2=>match nx with
   | .enter g us=>T (G (Frame.enter P g us .normal) (fr kd f ro ts (lm.2++ds) (.inRangeFunc lm.1::k)::cs)) H2
   | _=>False):T (G (fr kd f ro ts ds (.code (.rangeFunc fo ps x y)::k)) cs) H:=by
 refine hT _ _ Z fun w hf=>?_;obtain⟨⟨l,mark⟩,w1,es1,h1,h2,h3⟩:=wg _ _ _ w #[] h hf;obtain⟨nx,w2,es2,q1,q2,q3⟩:=wg _ _ _ w1 #[] h3 (hf.next h2);rw[mK]at h1 q1;cases nx with
 | enter g us =>
  refine⟨_,_,Go.seen P f es1++Go.seen P f es2,?_,StepH.trans hf h2.seen q2.seen,rfl,by rw[<- vf h2.size q2.size hf];exact q3⟩;have he:=zdq kd f ro ts (mark++ds) (.inRangeFunc l::k);simp only[fr]at he;obtain⟨e1,e2⟩:=km h1;obtain⟨e3,e4⟩:=km q1;simp only[ylCall]at e3 e4;simp only[G,stepG,stepG.exec,fr,Sem.runT_eq,e1,e2,stepG.apply,he,if_true,e3,e4];simp[GStep.after,hkd]
 | _=>exact q3.elim
theorem zo.endRangeF(hT:zo P main T){l:Nat}(h:wpS P (Instr.endLoop l) H fun jump H'=>T (G (fr kd f ro ts ds ((jump.map Item.code).toList++k)) cs) H'):T (G (fr kd f ro ts ds (.endRangeFunc l::k)) cs) H:=by
 refine hT _ _ Z fun w hf=>?_;obtain⟨jump,w1,es1,h1,h2,h3⟩:=wg _ _ _ w #[] h hf;rw[mK]at h1;refine⟨_,_,Go.seen P f es1,?_,h2.seen,rfl,h3⟩;obtain⟨e1,e2⟩:=km h1;simp[G,stepG,stepG.exec,fr,Sem.runT_eq,e1,e2,GStep.after]
theorem zo.beginF(hT:zo P main T)(hkd:kd≠.early){l:Nat}(h:wpS P (Instr.beginRound l) H fun _ H'=>T (G (fr kd f (some l) ts ds k) cs) H'):T (G (fr kd f (some l) ts ds (.beginRound::k)) cs) H:=by
 refine hT _ _ Z fun w hf=>?_;obtain⟨nx,w1,es1,h1,h2,h3⟩:=wg (Instr.beginRound l >>= fun _=>Pure.pure Next.skip) H (fun nx H'=>nx=.skip/\T (G (fr kd f (some l) ts ds k) cs) H') w #[] (kf _ _ _ _ (zaW _ _ _ _ (fun _ _ h=>(⟨rfl,h⟩:_/\_)) h)) hf;rw[mK]at h1;obtain⟨rfl,h3⟩:=h3;refine⟨_,_,Go.seen P f es1,?_,h2.seen,rfl,h3⟩;obtain⟨e1,e2⟩:=km h1;simp only[G,stepG,stepG.exec,fr,stepG.apply,Option.elim,Sem.runT_eq,if_true,e1,e2];simp[GStep.after,Frame.finish,hkd]
theorem zo.endRoundF(hT:zo P main T){l:Nat}{j:Option Code}(hl:Leave j k){c:Frame}(h:wpS P (Instr.endRound l j) H fun v H'=>T (G (c.finish v) cs) H'):T (G (fr .normal f (some l) ts ds k) (c::cs)) H:=by
 refine hT _ _ Z fun w hf=>?_;obtain⟨v,w1,es1,h1,h2,h3⟩:=wg _ _ _ w #[] h hf;rw[mK]at h1;refine⟨_,_,Go.seen P f es1,?_,h2.seen,rfl,h3⟩;cases hl with
 | fin =>
  obtain⟨e1,e2⟩:=km h1;simp[G,stepG,stepG.exec,fr,Sem.runT_eq,e1,e2,GStep.after,doReturn]
 | ret k =>
  obtain⟨e1,e2⟩:=km h1;simp[G,stepG,stepG.exec,fr,Sem.runT_eq,e1,e2,GStep.after,doReturn]
 | exit id k he =>
  obtain⟨e1,e2⟩:=km h1;simp[G,stepG,stepG.exec,fr,he,Sem.runT_eq,e1,e2,GStep.after,doReturn]
theorem zo.takeF(hT:zo P main T){b:Nat}(h:wpS P (Instr.takeDeferred b) H fun d1 H'=>T (G { fr kd f ro ts (d1++ds) k with mode:=.returning } cs) H'):T (G { fr kd f ro ts ({ target:=.collected b,args:=#[] }::ds) k with mode:=.returning } cs) H:=by
 refine hT _ _ Z fun w hf=>?_;obtain⟨d1,w1,es1,h1,h2,h3⟩:=wg _ _ _ w #[] h hf;rw[mK]at h1;refine⟨_,_,Go.seen P f es1,?_,h2.seen,rfl,h3⟩;obtain⟨e1,e2⟩:=km h1;simp[G,stepG,unwind,fr,Sem.runT_eq,e1,e2,GStep.after]
theorem vI{l:Nat}{rw':Bool}{r:Loop}(h:H l=some (rw',.loop r)){Q:Loop->Hp->Prop}(hq:Q r H):wpS P (Instr.getLoop l) H Q:=⟨rw',_,h,rfl,rfl,hq⟩
theorem uZ{l:Nat}{o0:Obj}{r:Loop}(h:H l=some (tt,o0))(h0:isCells o0=ff){Q:Unit->Hp->Prop}(hq:Q () (H.put l (tt,.loop r))):wpS P (setObj l (.loop r)) H Q:=⟨o0,h,h0,rfl,hq⟩
def CallF(P:gP)(T:gG->Hp->Prop)(gm:Nat->Option Nat)(yv:AV)(args:List AV)(A:List AObj)(Post:AV->List AObj->Prop):Prop :=
 ∀(φ:Nat->Loc3)(F H:Hp)(y:gV)(vs:Array gV)(c:Frame)(cs:List Frame),F=nF->RelG gm φ A.length->RelH φ A F H->RelV φ A.length yv y->zN φ A.length args vs ->
  (∀ r A' φ' H' v,Post r A'->Agr φ φ' A.length->A.length<=A'.length->RelH φ' A' F H'->RelV φ' A'.length r v->T (G (c.finish v) cs) H') ->
  wpS P (Deferred.ofValue y vs >>= fun d=>invoke d.target d.args) H fun nx H'=>match nx with
   | .enter g us=>T (G (Frame.enter P g us .normal) (c::cs)) H'
   | .round l g us x y=>T (G (Frame.round l g us x y .normal) (c::cs)) H'
   | _=>False
theorem CallF.mono{gm:Nat->Option Nat}{yv:AV}{args:List AV}{A:List AObj}{Post Post':AV->List AObj->Prop}(h:CallF P T gm yv args A Post)(hp:∀ r A',Post r A'->Post' r A'):CallF P T gm yv args A Post' :=
 fun φ F H y vs c cs h0 h1 h2 h3 h4 k=>h φ F H y vs c cs h0 h1 h2 h3 h4 fun r A' φ' H' v x=>k r A' φ' H' v (hp r A' x)
def CallFK(P:gP)(T:gG->Hp->Prop)(gm:Nat->Option Nat)(yv:AV)(args:List AV)(K:KV)(Post:AV->KV->Prop):Prop :=
 ∀ A,zU K A->(keys K).Nodup->CallF P T gm yv args A fun r A'=>∃ K',Kstep K A K' A'/\Post r K'
theorem yC{gm:Nat->Option Nat}{g:gF}{fs cp args:List AV}{K:KV}{Post:AV->KV->Prop}(hg:yk P g=tt)(h:zl P T gm g (fs++args++cp) K Post):CallFK P T gm (.fn g fs cp) args K Post:=by
 intro A hv hn φ F H y vs c cs h0 h1 h2 h3 h4 hq;obtain⟨xs,ys,rfl,hr1,hr2⟩:=uu h3;refine wK hg _ ?_;exact h A hv hn φ F H _ c cs h0 h1 h2 (wZ (wZ hr1 h4) hr2) hq
variable {gm:Nat->Option Nat}
theorem zoA{φ:Nat->Loc3}{n i:Nat}{y:gV}(h:RelV φ n (.yl i) y):i<n/\y=.func (.yield (φ i).blk) #[] #[]:=by cases h;exact⟨‹_›,rfl⟩
def putAll:List AV->List (Tmp×AV)->List AV
 | Wq,[]=>Wq
 | Wq,(t,a)::l=>putAll (Wq.set t a) l
theorem zc3{φ:Nat->Loc3}{n:Nat}:∀(l:List (Tmp×AV))(l':List (Tmp×gV))(Wq:List AV)(ts:Array gV),zN φ n Wq ts->l.map (·.1)=l'.map (·.1)->(∀(j:Nat) x z,l[j]? =some x->l'[j]? =some z->RelV φ n x.2 z.2) ->
  zN φ n (putAll Wq l) (l'.foldl (fun ts z=>ts.setIfInBounds z.1 z.2) ts)
 | [],[],Wq,ts,h,_,_=>h
 | (t,a)::l,(t',v)::l',Wq,ts,h,he,hr=>by
  simp only[List.map_cons,List.cons.injEq]at he;obtain⟨rfl,he⟩:=he;refine zc3 l l' _ _ ?_ he fun j x z hx hz=>hr (j+1) x z (by simpa using hx) (by simpa using hz);exact yF (a:=⟨ts,[]⟩) h (hr 0 _ _ rfl rfl) (some t)
 | [],_::_,_,_,_,he,_=>by simp at he
 | _::_,[],_,_,_,he,_=>by simp at he
theorem zbE{φ:Nat->Loc3}{A:List AObj}{F H:Hp}(h:RelH φ A F H){i:Nat}{f:gF}{Wq:List AV}{ps:Array Tmp}{x y:Code}{st:LoopState}{pj:Option Code}(hi:A[i]? =some (.loop f Wq ps x y st pj)) :
  ∃ ts d,H (φ i).blk=some (tt,.loop { state:=st,pending:=pj,fn:=f,tmps:=ts,params:=ps,assign:=x,body:=y,defers:=d })/\zN φ A.length Wq ts:=h.obj i _ hi
theorem zkU(hT:zo P main T){i:Nat}{f:gF}{Wq args:List AV}{ps:Array Tmp}{x y:Code}{A:List AObj}{Post:AV->List AObj->Prop}(hi:A[i]? =some (.loop f Wq ps x y .ready none))(Qg:args.length=ps.size)
  (h:∀ X:Cx P gm T,X.ro=some (X.φ0 i).blk->i<X.n0->(∀ j Wk A' st pj,A'[i]? =some (.loop f Wq ps x y st pj)->Post (.v (.bool j.isNone)) (A'.set i (.loop f Wq ps x y (if j.isNone then .ready else .done) j))->X.L j [] Wk A') ->
   TA X [] [.code x,.beginRound,.code y] (putAll Wq (ps.toList.zip args)) A):CallF P T gm (.yl i) args A Post:=by
 intro φ F H y' vs c cs hF0 hg hH hy hvs hq;obtain⟨Qp,rfl⟩:=zoA hy;obtain⟨ts,d,hb,hrel⟩:=zbE hH hi;have hvl:vs.size=ps.size:=by rw[<- hvs.1];exact Qg
 have hround:∀ us,us=(ps.zip vs).foldl (fun tmps (t,a)=>tmps.setIfInBounds t a) ts->T (G (Frame.round (φ i).blk f us x y .normal) (c::cs)) H:=by
  intro us hus
  let X:Cx P gm T:={
   main,hT,φ0:=φ,n0:=A.length,F,hF0,kd:=.normal,hkd:=(fun h=>by cases h),f,ro:=some (φ i).blk,cs:=c::cs
   L:=fun j ds Wk A'=>∃ st pj,A'[i]? =some (.loop f Wq ps x y st pj)/\Post (.v (.bool j.isNone)) (A'.set i (.loop f Wq ps x y (if j.isNone then .ready else .done) j))
   hL:=by
    rintro j k ds Wk A' φ' H' ts' hl ⟨st,pj,hi',hp⟩ hA Wb hg' _ hH' hE;refine hT.endRoundF hl ?_;obtain⟨ts1,d1,hb1,hrel1⟩:=zbE hH' hi';have hφ:φ' i=φ i:=hA i Qp;rw[hφ]at hb1;refine kf _ _ _ _ (vI hb1 ?_);refine kf _ _ _ _ (uZ hb1 Z ?_);have hH2:=hH'.set (x:=(tt,.loop { state:=if j.isNone then .ready else .done,pending:=j,fn:=f,tmps:=ts1,params:=ps,assign:=x,body:=y,defers:=d1 })) (o':=.loop f Wq ps x y (if j.isNone then .ready else .done) j) hi' rfl trivial ⟨ts1,d1,Hp.put_same _ _ _,hrel1⟩;rw[hφ]at hH2;exact hq _ _ _ _ _ hp hA (by simpa using Wb) hH2 (.v _) }
  have hX:=h X rfl Qp fun j Wk A' st pj hi' hp=>⟨st,pj,hi',hp⟩;refine hX φ H us (Agr.refl _ _) (mL _) hg (fun d hd=>by cases hd) hH ?_;subst hus;have:=zc3 (n:=A.length) (φ:=φ) (ps.toList.zip args) (ps.toList.zip vs.toList) Wq ts hrel (by rw[List.map_fst_zip (by simp[Qg]),List.map_fst_zip (by simp[hvl])]) fun j x z hx hz=>by
   rw[List.getElem?_zip_eq_some]at hx hz;exact hvs.2 j _ _ hx.2 (by rw[<- mI];exact hz.2)
  rw[<- Array.foldl_toList,Array.toList_zip];exact this
 show wpS P (Instr.yield (φ i).blk (#[]++vs++#[])) H _;rw[mK,Array.append_empty];refine kf _ _ _ _ (vI hb ?_);dsimp only;rw[if_neg (by simpa using hvl)];exact hround _ rfl
variable {X:Cx P gm T}{ds':List Nat}{Wq:List AV}{A:List AObj}
theorem TA.beginRound{i:Nat}{g:gF}{env0:List AV}{ps:Array Tmp}{x y:Code}{pj:Option Code}(hro:X.ro=some (X.φ0 i).blk)(hi0:i<X.n0)(hi:A[i]? =some (.loop g env0 ps x y .ready pj))(h:TA X ds' k Wq (A.set i (.loop g env0 ps x y .busy pj))):TA X ds' (.beginRound::k) Wq A:=fun φ H ts h1 h2 h3 h4 h5 h6=>by
 rw[hro];refine X.hT.beginF X.hkd ?_;obtain⟨ts1,d1,hb1,hrel1⟩:=zbE h5 hi;have hφ:φ i=X.φ0 i:=h1 i hi0;have hH2:=h5.set (x:=(tt,.loop { state:=.busy,pending:=pj,fn:=g,tmps:=ts1,params:=ps,assign:=x,body:=y,defers:=d1 })) (o':=.loop g env0 ps x y .busy pj) hi rfl trivial ⟨ts1,d1,Hp.put_same _ _ _,hrel1⟩;rw[hφ]at hb1 hH2;refine kf _ _ _ _ (vI hb1 ?_);refine kf _ _ _ _ (uZ hb1 Z ?_);have:=h φ _ ts h1 (by simpa using h2) (by simpa using h3) (by simpa using h4) hH2 (by simpa using h6);rw[hro]at this;exact this
theorem TA.rangeFunc{fo:gO}{ps:Array Tmp}{x y:Code}{g:gF}{fs cp:List AV}{Post:AV->List AObj->Prop}(hro:X.ro=none)(hf:zT gm Wq fo=.fn g fs cp)(hg:yk P g=tt)
  (hc:CallT P T gm g (fs++[.yl (A.length+1)]++cp) (A++[.raw (.deferred (some [])),.loop X.f Wq ps x y .ready none]) Post)
  (h:∀ r A',Post r A'->A.length+2<=A'.length->∃ st pj,(st==LoopState.busy)=ff/\A'[A.length+1]? =some (.loop X.f Wq ps x y st pj)/\TA X (A.length::ds') ((pj.map Item.code).toList++k) Wq (A'.set (A.length+1) .gone)) :
  TA X ds' (.code (.rangeFunc fo ps x y)::k) Wq A:=fun φ H ts h1 h2 h3 h4 h5 h6=>by
 rw[hro];refine X.hT.rangeF X.hkd ?_;unfold Instr.enterLoop;dsimp only;refine kf _ _ _ _ ?_;intro r hr;refine kf _ _ _ _ ?_;intro l hl;have hH1:=h5.push (loc:=⟨r,0,0⟩) (o:=.raw (.deferred (some []))) (x:=(tt,.deferred (some []))) hr rfl (Hp.put_same _ _ _);have hag1:=yn φ A.length ⟨r,0,0⟩;have hlen1:(A++[AObj.raw (.deferred (some []))]).length=A.length+1:=by simp
 have hH2:=hH1.push (loc:=⟨l,0,0⟩) (o:=.loop X.f Wq ps x y .ready none) (x:=(tt,.loop { state:=.ready,pending:=none,fn:=X.f,tmps:=ts,params:=ps,assign:=x,body:=y,defers:=r })) hl rfl
  ⟨ts,r,Hp.put_same _ _ _,(h6.mono hag1 oQ).mono (yn _ _ _) oQ⟩
 have hag2:=yn (yc φ A.length ⟨r,0,0⟩) (A.length+1) ⟨l,0,0⟩;rw[hlen1]at hH2;have eA:(A++[AObj.raw (.deferred (some []))])++[.loop X.f Wq ps x y .ready none]=A++[.raw (.deferred (some [])),.loop X.f Wq ps x y .ready none]:=by simp
 rw[eA]at hH2;have hag:Agr φ (yc (yc φ A.length ⟨r,0,0⟩) (A.length+1) ⟨l,0,0⟩) A.length:=hag1.trans hag2 oQ;have hb1:(yc (yc φ A.length ⟨r,0,0⟩) (A.length+1) ⟨l,0,0⟩) A.length=⟨r,0,0⟩:=by simp[yc]
 have hb2:(yc (yc φ A.length ⟨r,0,0⟩) (A.length+1) ⟨l,0,0⟩) (A.length+1)=⟨l,0,0⟩:=by simp[yc]
 generalize hφ2:yc (yc φ A.length ⟨r,0,0⟩) (A.length+1) ⟨l,0,0⟩=φ2 at hH2 hag hb1 hb2;have hlen2:(A++[AObj.raw (.deferred (some [])),.loop X.f Wq ps x y .ready none]).length=A.length+2:=by simp
 show wpS P (resolve (evT ts) (ylCall fo l) 0 >>= fun d=>invoke d.target d.args) ((H.put r _).put l _) _;rw[show resolve (evT ts) (ylCall fo l) 0=Deferred.ofValue (evT ts fo) #[.func (.yield l) #[] #[]] by simp[resolve,ylCall,evT,Act.eval]];have hfo:=zy (a:=⟨ts,[]⟩) h3 h6 fo;rw[hf]at hfo;obtain⟨xs,ys,e,hr1,hr2⟩:=uu hfo;have e':evT ts fo=.func (.func g) xs ys:=e;rw[e'];refine wK hg _ ?_;have hyl:RelV φ2 (A.length+2) (.yl (A.length+1)) (.func (.yield l) #[] #[]):=by
  have:=RelV.yl (φ:=φ2) (n:=A.length+2) (i:=A.length+1) oQ;rwa[hb2]at this
 refine hc φ2 X.F _ _ _ _ X.hF0 (h3.mono hag oQ) hH2 ?_ ?_
 ·rw[hlen2];exact wZ (wZ (hr1.mono hag oQ) (kB hyl)) (hr2.mono hag oQ)
 ·intro r' A' φ' H' v hp hA' hlen' hH' hr';rw[hlen2]at hA' hlen';obtain⟨st,pj,hst,hloop,hTA⟩:=h r' A' hp hlen';show T (G (fr X.kd X.f none ts _ (.endRangeFunc l::k)) X.cs) H';refine X.hT.endRangeF ?_;obtain⟨ts1,d1,hbl,_⟩:=zbE hH' hloop;have e1:φ' (A.length+1)=⟨l,0,0⟩:=(hA' _ oQ).trans hb2;have e0:φ' A.length=⟨r,0,0⟩:=(hA' _ oQ).trans hb1;have hH3:=hH'.set (x:=(tt,.loop { state:=.exhausted,pending:=pj,fn:=X.f,tmps:=ts1,params:=ps,assign:=x,body:=y,defers:=d1 })) (o':=.gone) hloop rfl trivial trivial;rw[e1]at hbl hH3;refine kf _ _ _ _ (vI hbl ?_);dsimp only;rw[hst];refine kf _ _ _ _ (uZ hbl Z ?_);have hagf:Agr φ φ' A.length:=hag.trans hA' oQ;have hds:dsC φ' (A.length::ds')={ target:=.collected r,args:=#[] }::dsC φ ds':=by
   show { target:=.collected (φ' A.length).blk,args:=#[] }::dsC φ' ds'=_;rw[e0];congr 1;unfold dsC;exact mA fun d hd'=>by rw[hagf d (h4 d hd')]
  have:=hTA φ' _ ts (h1.trans hagf h2) (by simp;omega) (by simpa using h3.mono hagf oQ) (fun d hd=>by
   rcases List.mem_cons.1 hd with rfl|hd
   ·simp;omega
   ·have:=h4 d hd;simp;omega) hH3 (by simpa using h6.mono hagf oQ)
  rw[hds,hro]at this;exact this
end
section
variable {P:gP}{gm:Nat->Option Nat}{T:gG->Hp->Prop}
theorem Kstep.frame{K Kf R K':KV}{A A':List AObj}(hs:Split K Kf R)(hv:zU K A)(hn:(keys K).Nodup)(hk:Kstep Kf A K' A'):Kstep K A (K'++R) A':=by
 have hp:=hs.perm;have hnd:=(zW hp).nodup_iff.1 hn;rw[yz]at hnd;have hnd':=List.nodup_append.1 hnd;have hR:zU R A:=hv.sub fun x hx=>hp.symm.subset (by simp[hx]);have hRl:∀ x∈R,x.1<A.length/\x.1∉keys Kf:=fun x hx=>⟨hR.lt (yN hx),fun hm=>hnd'.2.2 x.1 hm x.1 (yN hx) rfl⟩;refine⟨fun x hx=>?_,?_,fun j hj=>?_,fun j hj hn=>?_,hk.len⟩
 ·rcases lT.1 hx with hx|hx
  ·exact hk.view x hx
  ·rw[hk.kept _ (hRl x hx).1 (hRl x hx).2];exact hR x hx
 ·rw[yz];refine List.nodup_append.2 ⟨hk.nd,hnd'.2.1,fun a ha b hb e=>?_⟩;subst e;obtain⟨x,hx,rfl⟩:=lY.1 hb;rcases hk.own _ ha with h1|h1
  ·exact(hRl x hx).2 h1
  ·have:=(hRl x hx).1;omega
 ·rw[yz]at hj;rcases lT.1 hj with hj|hj
  ·rcases hk.own j hj with h1|h1
   ·exact .inl ((zW hp).symm.subset (by rw[yz];exact lV _ h1))
   ·exact .inr h1
  ·exact .inl ((zW hp).symm.subset (by rw[yz];exact List.mem_append_right _ hj))
 ·exact hk.kept j hj fun hm=>hn ((zW hp).symm.subset (by rw[yz];exact lV _ hm))
theorem Split.view{K Kf R:KV}{A:List AObj}(hs:Split K Kf R)(hv:zU K A)(hn:(keys K).Nodup):zU Kf A/\(keys Kf).Nodup:=by
 have hp:=hs.perm;have hnd:=(zW hp).nodup_iff.1 hn;rw[yz]at hnd;exact⟨hv.sub fun x hx=>hp.symm.subset (by simp[hx]),(List.nodup_append.1 hnd).1⟩
theorem zk8{X:Cx P gm T}{Wq:List AV}{A:List AObj}{o:gB}{fo:gO}{ars:Array gO}{at_:Array gT}{yv:AV}{args:List AV}{Post:AV->List AObj->Prop}(Qw:o.op=.call { callee:=.value fo,args:=ars,argTypes:=at_ })
  (hf:zT gm Wq fo=yv) (Qg:ars.toList.map (zT gm Wq)=args) (hc:CallF P T gm yv args A Post):Ex X Wq A o Post:=fun Qy i Wp k ds φ H ts ho hw h3 h5 h6 hq=>by
 refine X.hT.opF X.hkd ho hw (by rw[Qw];rfl) ?_;have hfo:=zy (a:=⟨ts,[]⟩) h3 h6 fo;rw[hf]at hfo;unfold execOp;rw[Qw];dsimp only;have hrel:zN φ A.length args (ars.map (evT ts)):=by
  rw[<- Qg];exact wG (a:=⟨ts,[]⟩) h3 h6 ars
 have h:=hc φ X.F H _ _ (fr X.kd X.f X.ro ts ds (.inRegion Qy (i::Wp)::k)) X.cs X.hF0 h3 h5 hfo hrel fun r A' φ' H' v hp hA Wb hH' hr=>by
  have Qj:=yZ X.kd X.f X.ro ts ds Qy i Wp k v;simp only[ho,Option.bind_some]at Qj;rw[Qj];exact hq r A' φ' H' v hp hA Wb hH' hr
 refine zaW _ _ _ _ ?_ h;intro nx H' hnx;cases nx <;> first|exact hnx|exact hnx.elim
variable {Y:KX P gm T}{ds:List Nat}{k:List Item}{Wq Wk:List AV}{K K':KV}{Qy:Array gB}{i:Nat}{Wp L L':List Nat}{o:gB}{r:AV}{Wy Wx:List Pd}
theorem zdW{fo:gO}{ars:Array gO}{at_:Array gT}{yv:AV}{args:List AV}{Kf R:KV}{Post:AV->KV->Prop}(Qw:o.op=.call { callee:=.value fo,args:=ars,argTypes:=at_ })
  (hf:zT gm Wq fo=yv) (Qg:ars.toList.map (zT gm Wq)=args) (hc:CallFK P T gm yv args Kf Post) (hs:Split K Kf R) {Q:AV->KV->Prop} (hq:∀ r K',Post r K'->Q r (K'++R)):ExK Y Wq K o Q:=fun A hA=>by
 obtain⟨hv,hn⟩:=hs.view hA.view hA.nd;exact(zk8 Qw hf Qg (hc A hv hn)).mono fun r A' ⟨K',hk,hpost⟩=>⟨K'++R,hk.frame hs hA.view hA.nd,hq r K' hpost⟩
theorem TK.callF'{fo:gO}{ars:Array gO}{at_:Array gT}{yv:AV}{args:List AV}{Kf R:KV}{Post:AV->KV->Prop}(ho:Qy[i]? =some o)(hw:zM Qy Wq o=some tt)(Qw:o.op=.call { callee:=.value fo,args:=ars,argTypes:=at_ })
  (hf:zn gm Wq fo=some yv) (Qg:ars.toList.map (zT gm Wq)=args) (hc:CallFK P T gm yv args Kf Post) (hs:Split K Kf R)
  (h:∀ r K',Post r K'->TK Y ds (.inRegion Qy Wp::k) (zV Wq o.dst r) (K'++R)):TK Y ds (.inRegion Qy (i::Wp)::k) Wq K:=TK.ex ho hw (zdW Qw (zq hf) Qg hc hs h)
theorem TD.callF'{fo:gO}{ars:Array gO}{at_:Array gT}{yv:AV}{args:List AV}{Kf R:KV}{Post:AV->KV->Prop}(s:List Nat)(ho:Qy[i]? =some o)(hw:zM Qy (onl s Wq) o=some tt)(hp':pendOf Qy i Wy=Wx)(hc':chkC Qy Wx L' s i o.dst=tt)(Qw:o.op=.call { callee:=.value fo,args:=ars,argTypes:=at_ })
  (hf:zn gm (onl s Wq) fo=some yv) (Qg:ars.toList.map (zT gm (onl s Wq))=args) (hc:CallFK P T gm yv args Kf Post) (hs:Split K Kf R)
  (h:∀ r K',Post r K'->(∀ p∈Wx,∀ x∈p.V,x∈K'++R)/\TD Y ds Qy k Wx L' (zV Wq o.dst r) (K'++R)):TD Y ds Qy k Wy (i::L') Wq K:=TD.c s ho hw hp' hc' (zdW Qw (zq hf) Qg hc hs h)
theorem zdQ{main:Bool}(hT:zo P main T){i:Nat}{f:gF}{Wq args:List AV}{ps:Array Tmp}{x y:Code}{K:KV}{Post:AV->KV->Prop}(hi:(i,.loop f Wq ps x y .ready none)∈K)(Qg:args.length=ps.size)
  (h:∀ Y:KX P gm T,Y.X.ro=some (Y.X.φ0 i).blk->i<Y.X.n0 ->
   (∀ j Wk K' K'' D st pj,Split K' ((i,.loop f Wq ps x y st pj)::K'') D->Post (.v (.bool j.isNone)) ((i,.loop f Wq ps x y (if j.isNone then .ready else .done) j)::K'')->∀ A',Kn Y K' A'->Y.X.L j [] Wk A') ->
   TK Y [] [.code x,.beginRound,.code y] (putAll Wq (ps.toList.zip args)) K):CallFK P T gm (.yl i) args K Post:=by
 intro A hv hn;refine zkU hT (hv.get hi) Qg fun X hro hi0 Wz=>?_;refine h ⟨X,A,keys K⟩ hro hi0 (fun j Wk K' K'' D st pj hsp hp A' hA'=>?_) A ⟨hv,hn,fun i hi=>.inl hi,fun _ _ _=>rfl,mL _⟩;have hpm:=hsp.perm;obtain⟨hv',hn'⟩:=hsp.view hA'.view hA'.nd;refine Wz j Wk A' st pj (hv'.get sQ) ⟨_,?_,hp⟩;have hst:Kstep ((i,.loop f Wq ps x y st pj)::K'') A' ((i,.loop f Wq ps x y (if j.isNone then .ready else .done) j)::K'') (A'.set i (.loop f Wq ps x y (if j.isNone then .ready else .done) j)):=.set hv' hn' .head;have hall:=hst.frame hsp hA'.view hA'.nd;refine⟨hst.view,hst.nd,fun t ht=>?_,fun t ht1 ht2=>?_,mT hA'.len hst.len⟩
 ·rcases hst.own t ht with h1|h1
  ·obtain⟨z,hz,rfl⟩:=lY.1 h1;exact hA'.own _ (yN (hpm.symm.subset (lV _ hz)))
  ·exact .inr (mT hA'.len h1)
 ·have hne:i≠t:=fun e=>ht2 (e ▸ mem_keys' hi);rw[lP hne];exact hA'.kept t ht1 ht2
theorem TK.beginRound{i:Nat}{g:gF}{env0:List AV}{ps:Array Tmp}{x y:Code}{pj:Option Code}(hro:Y.X.ro=some (Y.X.φ0 i).blk)(hi0:i<Y.X.n0)(hu:Upd K i (.loop g env0 ps x y .ready pj) i (.loop g env0 ps x y .busy pj) K')(h:TK Y ds k Wq K'):TK Y ds (.beginRound::k) Wq K:=fun A hA =>
 TA.beginRound hro hi0 (hA.view.get hu.mem) (h _ (hA.step (.set hA.view hA.nd hu)))
theorem TK.rangeFunc{fo:gO}{ps:Array Tmp}{x y:Code}{g:gF}{fs cp:List AV}{Kf R:KV}{Post:Nat->AV->KV->Prop}{Q:Option Code->KV->Prop}(hro:Y.X.ro=none)(hf:zn gm Wq fo=some (.fn g fs cp))(hg:yk P g=tt)(hs:Split K Kf R)
  (hc:∀ l,l∉keys K->zl P T gm g (fs++[.yl l]++cp) ((l,.loop Y.X.f Wq ps x y .ready none)::Kf) (Post l))
  (hpost:∀ l r K',Post l r K'->∃ st pj K'',K'=(l,.loop Y.X.f Wq ps x y st pj)::K''/\(st==LoopState.busy)=ff/\Q pj K'')
  (h:∀ d pj K'',Q pj K''->TK Y (d::ds) ((pj.map Item.code).toList++k) Wq ((d,.raw (.deferred (some [])))::(K''++R))):TK Y ds (.code (.rangeFunc fo ps x y)::k) Wq K:=fun A hA=>by
 have hd:A.length∉keys K:=fun hm=>absurd (hA.view.lt hm) (Nat.lt_irrefl _);have hl:A.length+1∉keys K:=fun hm=>by have:=hA.view.lt hm;omega
 have k1:=Kstep.push hA.view hA.nd (.raw (.deferred (some [])));have k2:=Kstep.push k1.view k1.nd (.loop Y.X.f Wq ps x y .ready none);have eA:(A++[AObj.raw (.deferred (some []))])++[.loop Y.X.f Wq ps x y .ready none]=A++[.raw (.deferred (some [])),.loop Y.X.f Wq ps x y .ready none]:=by simp
 rw[eA]at k2;have el:(A++[AObj.raw (.deferred (some []))]).length=A.length+1:=by simp
 rw[el]at k2;have hA2:=(hA.step k1).step k2;have hs2:Split ((A.length+1,.loop Y.X.f Wq ps x y .ready none)::(A.length,.raw (.deferred (some [])))::K) ((A.length+1,.loop Y.X.f Wq ps x y .ready none)::Kf) ((A.length,.raw (.deferred (some [])))::R):=.left (.right hs);obtain⟨hvf,hnf⟩:=hs2.view k2.view k2.nd;refine TA.rangeFunc hro (zq hf) hg (hc _ hl _ hvf hnf) fun r A' ⟨K',hk,hp⟩ _=>?_;obtain⟨st,pj,K'',rfl,hst,hq⟩:=hpost _ _ _ hp;have hA3:=hA2.step (hk.frame hs2 k2.view k2.nd);refine⟨st,pj,hst,hA3.view.get sQ,?_⟩;refine h _ pj K'' hq _ ?_;have hnd3:=hA3.nd;rw[lB,wd,List.nodup_cons]at hnd3;have hperm:(K''++(A.length,AObj.raw (.deferred (some [])))::R).Perm ((A.length,.raw (.deferred (some [])))::(K''++R)):=List.perm_middle;refine⟨fun z hz=>?_,?_,fun t ht=>?_,fun t ht1 ht2=>?_,by simpa using hA3.len⟩
 ·have hz':=hperm.symm.subset hz;have hne:A.length+1≠z.1:=fun e=>hnd3.1 (by have:=yN hz';rw[<- e]at this;exact this);rw[lP hne];exact hA3.view z (lL _ hz')
 ·exact(zW hperm).nodup_iff.1 hnd3.2
 ·exact hA3.own t (lL _ ((zW hperm).symm.subset ht))
 ·have Wb:=hA.len;rw[lP oQ];exact hA3.kept t ht1 ht2
def clr:List Nat->List AObj->List AObj
 | [],A=>A
 | d::ds,A=>clr ds (A.set d .gone)
theorem zbx:∀(ds:List Nat)(A:List AObj),(clr ds A).length=A.length
 | [],_=>rfl
 | d::ds,A=>by rw[clr,zbx ds];simp
theorem zdm:∀(ds:List Nat)(A:List AObj)(t:Nat),t∉ds->(clr ds A)[t]? =A[t]?
 | [],_,_,_=>rfl
 | d::ds,A,t,h=>by
  rw[clr,zdm ds _ t (fun hm=>h (by simp[hm])),lP (fun e=>h (by simp[e]))]
theorem zgn{main:Bool}(hT:zo P main T){f:gF}{ts:Array gV}{φ:Nat->Loc3}{F:Hp}{cs:List Frame}{todo:List Item}:∀(ds:List Nat)(A:List AObj)(H:Hp),(∀ d∈ds,A[d]? =some (.raw (.deferred (some []))))->ds.Nodup->RelH φ A F H ->
  (∀ H',RelH φ (clr ds A) F H'->T (G { fr .normal f none ts [] todo with mode:=.returning } cs) H')->T (G { fr .normal f none ts (dsC φ ds) todo with mode:=.returning } cs) H
 | [],A,H,_,_,hH,hq=>hq H hH
 | d::ds,A,H,hd,hn,hH,hq=>by
  have h0:=hd d sQ;have hb:H (φ d).blk=some (tt,.deferred (some [])):=hH.obj d _ h0;refine hT.takeF ?_;refine kf _ _ _ _ ⟨tt,_,hb,rfl,rfl,?_⟩;refine kf _ _ _ _ ⟨_,hb,rfl,rfl,?_⟩;have hH2:=hH.set (x:=(tt,.deferred none)) (o':=.gone) h0 rfl trivial trivial;obtain⟨hn1,hn2⟩:=List.nodup_cons.1 hn;exact zgn hT ds _ _ (fun d' hd'=>by
   have hne:d≠d':=fun e=>hn1 (by rw[e];exact hd');rw[lP hne];exact hd d' (by simp[hd'])) hn2 hH2 hq
theorem ze5{main:Bool}(hT:zo P main T){g:gF}{fn:Func}{c:Code}{args:List AV}{A:List AObj}{Post:AV->List AObj->Prop}(hf:P.funcs[g]? =some fn)(hb:fn.body=some c)
  (h:∀ X:Cx P gm T,X.ro=none->(∀ j ds Wq A' r,(j=none\/j=some .ret)->(∀ d∈ds,A'[d]? =some (.raw (.deferred (some []))))->ds.Nodup->resA P fn.results.toList Wq (clr ds A')=some r->Post r (clr ds A')->X.L j ds Wq A') ->
   TA X [] [.code c] (args++mB (fn.ntmps - args.length) .any) A):CallT P T gm g args A Post:=by
 intro φ F H vs c0 cs hF0 hg hH Qg Qj;have hleave:∀(k:List Item)(ds:List Nat)(Wq:List AV)(A':List AObj)(φ':Nat->Loc3)(H':Hp)(ts:Array gV)(r:AV),(∀ d∈ds,A'[d]? =some (.raw (.deferred (some []))))->ds.Nodup->resA P fn.results.toList Wq (clr ds A')=some r->Post r (clr ds A')->Agr φ φ' A.length->A.length<=A'.length->RelH φ' A' F H'->zN φ' A'.length Wq ts ->
   T (G { fr .normal g none ts (dsC φ' ds++[]) k with mode:=.returning } (c0::cs)) H':=fun k ds Wq A' φ' H' ts r hd hn hr hp hA Wb hH' hE=>(List.append_nil (dsC φ' ds)).symm ▸
  zgn hT ds A' H' hd hn hH' fun H2 hH2 =>
   hT.leaveF hf (kW hH2 (by rw[zbx];exact hE) hr fun y hy=>Qj r _ φ' H2 y hp hA (by rw[zbx];exact Wb) hH2 hy)
 let X:Cx P gm T:={
  main,hT,φ0:=φ,n0:=A.length,F,hF0,kd:=.normal,hkd:=(fun h=>by cases h),f:=g,ro:=none,cs:=c0::cs
  L:=fun j ds Wq A'=>(j=none\/j=some .ret)/\(∀ d∈ds,A'[d]? =some (.raw (.deferred (some []))))/\ds.Nodup/\∃ r,resA P fn.results.toList Wq (clr ds A')=some r/\Post r (clr ds A')
  hL:=by
   rintro j k ds Wq A' φ' H' ts hl ⟨hj,hd,hn,r,hr,hp⟩ hA Wb hg' _ hH' hE;cases hl with
   | fin=>exact hT.ctlF rfl (fun _=>wQ) rfl (hleave _ ds Wq A' φ' H' ts r hd hn hr hp hA Wb hH' hE)
   | ret k=>exact hT.ctlF rfl (fun _=>vq) rfl (hleave _ ds Wq A' φ' H' ts r hd hn hr hp hA Wb hH' hE)
   | exit id k _=>rcases hj with hj|hj <;> cases hj }
 rw[wD vs hf hb];exact h X rfl (fun j ds Wq A' r hj hd hn hr hp=>⟨hj,hd,hn,r,hr,hp⟩) φ H _ (Agr.refl _ _) (mL _) hg (fun d hd=>by cases hd) hH (ke Qg _)
theorem ze3{main:Bool}(hT:zo P main T){g:gF}{fn:Func}{c:Code}{args:List AV}{Post:AV->KV->Prop}(hf:P.funcs[g]? =some fn)(hb:fn.body=some c)
  (h:∀ Y:KX P gm T,Y.X.ro=none->(∀ j ds Wq K' K1 K'' D1 D2 r,(j=none\/j=some .ret)->Split K' K1 D1->ds.Nodup->(∀ d∈ds,(d,.raw (.deferred (some [])))∈D1)->Split K1 K'' D2->(∀ A',zU K1 A'->resA P fn.results.toList Wq A'=some r)->Post r K''->∀ A',Kn Y K' A'->Y.X.L j ds Wq A') ->
   TK Y [] [.code c] (args++mB (fn.ntmps - args.length) .any) K):zl P T gm g args K Post:=by
 intro A hv hn;refine ze5 hT hf hb fun X hro Wz=>?_;refine h ⟨X,A,keys K⟩ hro (fun j ds Wq K' K1 K'' D1 D2 r hj hs1 hdn hds hs2 hres hp A' hA'=>?_) A ⟨hv,hn,fun i hi=>.inl hi,fun _ _ _=>rfl,mL _⟩;have hp1:=hs1.perm;have hnd:=(zW hp1).nodup_iff.1 hA'.nd;rw[yz]at hnd;have hnd':=List.nodup_append.1 hnd;have hdk:∀ d∈ds,d∈keys D1:=fun d hd=>mem_keys' (hds d hd);have hv1:zU K1 (clr ds A'):=fun x hx=>by
  rw[zdm _ _ _ (fun hm=>hnd'.2.2 x.1 (yN hx) x.1 (hdk _ hm) rfl)];exact hA'.view x (hp1.symm.subset (by simp[hx]))
 obtain⟨hv2,hn2⟩:=hs2.view hv1 hnd'.1;refine Wz j ds Wq A' r hj (fun d hd=>hA'.view _ (hp1.symm.subset (List.mem_append_right _ (hds d hd)))) hdn (hres _ hv1) ⟨K'',⟨hv2,hn2,fun t ht=>?_,fun t ht1 ht2=>?_,?_⟩,hp⟩
 ·obtain⟨z,hz,rfl⟩:=lY.1 ht;refine hA'.own _ (yN (hp1.symm.subset ?_));exact lV _ (hs2.perm.symm.subset (lV _ hz))
 ·rw[zdm _ _ _ (fun hm=>?_)]
  ·exact hA'.kept t ht1 ht2
  ·have:t∈keys K':=(zW hp1).symm.subset (by rw[yz];exact List.mem_append_right _ (hdk t hm));rcases hA'.own t this with h1|h1
   ·exact ht2 h1
   ·have h2:A.length<=t:=h1;have h3:t<A.length:=ht1;omega
 ·rw[zbx];exact hA'.len
end
section
variable {P:gP}{gm:Nat->Option Nat}{T:gG->Hp->Prop}{Y:KX P gm T}{ds:List Nat}{k:List Item}{V:KV}{Wq Wk:List AV}{K K':KV}{Qy:Array gB}{i:Nat}{Wp:List Nat}{o:gB}{r:AV}{Wy Wx:List Pd}{L':List Nat}
def IntEs(es:List MapEntry):Prop:=∀ en∈es,∃ k v,en.key=.int .i64 k/\en.val=.int .i64 v
def valOf:gV->Int|.int _ v=>v|_=>0
def fiM(n:Int):List MapEntry->Nat->Option (Nat×gV)
 | [],_=>none
 | en::es,i=>if valOf en.key=n then some (i,en.val)else fiM n es (i+1)
def getM(n:Int):List MapEntry->Int
 | []=>0
 | en::es=>if valOf en.key=n then valOf en.val else getM n es
theorem zbN{ik:gJ}{n:Int}:∀(es:List MapEntry)(i:Nat),IntEs es->Instr.findNow (.int ik) (.int .i64 n) es i=some (fiM n es i)
 | [],_,_=>rfl
 | en::es,i,h=>by
  obtain⟨k,v,hk,hv⟩:=h en sQ;have ih:=zbN es (i+1) (fun e he=>h e (by simp[he])) (ik:=ik) (n:=n);simp only[Instr.findNow,fiM,hk,Instr.sameNow,valOf,if_true];by_cases e:n=k
  ·subst e;simp
  ·have e':(n==k)=ff:=by simpa using e
   rw[e',if_neg (fun h=>e h.symm)];exact ih
theorem zfp{n:Int}:∀(es:List MapEntry)(i:Nat),getM n es=match fiM n es i with|some (_,v)=>valOf v|none=>0
 | [],_=>rfl
 | en::es,i=>by
  simp only[getM,fiM];split
  ·rfl
  ·exact zfp es (i+1)
theorem zbA{n:Int}:∀(es:List MapEntry)(i:Nat){j:Nat}{v:gV},IntEs es->fiM n es i=some (j,v)->v=.int .i64 (valOf v)/\i<=j/\∃ en,es[j - i]? =some en/\en.key=.int .i64 n
 | [],_,_,_,_,h=>by cases h
 | en::es,i,j,v,hI,h=>by
  simp only[fiM]at h;obtain⟨k,v',hk,hv⟩:=hI en sQ;split at h
  ·rename_i e;cases h;rw[hk]at e;simp only[valOf]at e;subst e;exact⟨by rw[hv];rfl,mL _,en,by simp,hk⟩
  ·obtain⟨h1,h2,en',h3,h4⟩:=zbA es (i+1) (fun e he=>hI e (by simp[he])) h;exact⟨h1,oQ,en',by rw[show j - i=(j - (i+1))+1 by omega];simpa using h3,h4⟩
def MapOk(ob:Obj)(f:Int->Int):Prop:=∃ es clock,ob=.map es clock/\IntEs es.toList/\∀ n,getM n es.toList=f n
def upM(ob:Obj)(n v:Int):Obj:=match ob with
 | .map es clock=>match fiM n es.toList 0 with
  | some (i,_)=>.map (es.modify i fun e=>{ e with key:=.int .i64 n,val:=.int .i64 v }) clock
  | none=>.map (es.push { key:=.int .i64 n,val:=.int .i64 v,born:=clock }) (clock+1)
 | ob=>ob
theorem zec:MapOk (.map #[] 0) fun _=>0:=⟨#[],0,rfl,fun _ h=>by simp at h,fun _=>rfl⟩
theorem zfq{n v:Int}:∀(es:List MapEntry)(i j:Nat)(w:gV),IntEs es->fiM n es i=some (j,w)->∀ m,getM m (es.modify (j - i) fun e=>{ e with key:=.int .i64 n,val:=.int .i64 v })=if m=n then v else getM m es
 | [],_,_,_,_,h,_=>by cases h
 | en::es,i,j,w,hI,h,m=>by
  obtain⟨k,v',hk,hv⟩:=hI en sQ;simp only[fiM]at h;split at h
  ·rename_i e;cases h;rw[Nat.sub_self,List.modify_zero_cons];show(if n=m then v else getM m es)=if m=n then v else(if valOf en.key=m then valOf en.val else getM m es)
   by_cases e2:m=n
   ·subst e2;simp
   ·rw[if_neg (fun h:n=m=>e2 h.symm),if_neg e2,e,if_neg (fun h:n=m=>e2 h.symm)]
  ·rename_i hne;have hle:=(zbA es (i+1) (fun e he=>hI e (by simp[he])) h).2.1;rw[show j - i=(j - (i+1))+1 by omega,List.modify_succ_cons];simp only[getM];rw[zfq es (i+1) j w (fun e he=>hI e (by simp[he])) h m];by_cases e2:m=n
   ·subst e2;rw[if_neg hne,if_pos rfl,if_pos rfl]
   ·rw[if_neg e2,if_neg e2]
theorem zfo{n v:Int}{c:Nat}:∀(es:List MapEntry)(i:Nat),fiM n es i=none->∀ m,getM m (es++[{ key:=.int .i64 n,val:=.int .i64 v,born:=c }])=if m=n then v else getM m es
 | [],_,_,m=>by
  show(if n=m then v else 0)=if m=n then v else 0
  by_cases e:m=n
  ·subst e;simp
  ·rw[if_neg (fun h:n=m=>e h.symm),if_neg e]
 | en::es,i,h,m=>by
  simp only[fiM]at h;split at h
  ·cases h
  ·rename_i hne;simp only[lB,getM];rw[zfo es (i+1) h m];by_cases e:m=n
   ·subst e;rw[if_neg hne,if_pos rfl,if_pos rfl]
   ·rw[if_neg e,if_neg e]
theorem zkH{ob:Obj}{f:Int->Int}{n v:Int}(h:MapOk ob f):MapOk (upM ob n v) fun m=>if m=n then v else f m:=by
 obtain⟨es,c,rfl,hI,hf⟩:=h;unfold upM;dsimp only;cases e:fiM n es.toList 0 with
 | none =>
  refine⟨_,_,rfl,fun en he=>?_,fun m=>?_⟩
  ·rw[Array.toList_push]at he;rcases lT.1 he with he|he
   ·exact hI en he
   ·rw[List.mem_singleton.1 he];exact⟨n,v,rfl,rfl⟩
  ·rw[Array.toList_push,zfo _ 0 e,hf]
 | some x =>
  obtain⟨j,w⟩:=x;refine⟨_,_,rfl,fun en he=>?_,fun m=>?_⟩
  ·rw[Array.toList_modify]at he;obtain⟨t,ht⟩:=List.mem_iff_getElem?.1 he;rw[List.getElem?_modify]at ht;cases e2:es.toList[t]? with
   | none=>rw[e2]at ht;cases ht
   | some e0 =>
    rw[e2]at ht;simp only[Option.map_eq_map,Option.map_some,Option.some.injEq]at ht;split at ht
    ·subst ht;exact⟨n,v,rfl,rfl⟩
    ·subst ht;exact hI _ (List.mem_of_getElem? e2)
  ·rw[Array.toList_modify];have:=zfq (v:=v) es.toList 0 j w hI e m;rw[Nat.sub_zero]at this;rw[this,hf]
theorem zhg{φ:Nat->Loc3}{n i:Nat}{y:gV}(h:RelV φ n (.map i) y):i<n/\y=.map (some (φ i).blk):=by cases h;exact⟨‹_›,rfl⟩
theorem zbu{H:Hp}{e:Bool}{t:gT}{v:gV}{ik:gJ}(h:P.underlying t=some (.int ik)){Q:Unit->Hp->Prop}(hq:Q () H):wpS P (Instr.checkKey e 10000 t v) H Q:=by
 show wpS P (Instr.checkKey e (9999+1) t v) H Q;unfold Instr.checkKey;refine zf _ _ _ (zB h ?_);dsimp only;exact hq
theorem zbY{H:Hp}{t:gT}{n:Int}{ik:gJ}(h:P.underlying t=some (.int ik)){es:List MapEntry}(hI:IntEs es){Q:Option (Nat×gV)->Hp->Prop}(hq:Q (fiM n es 0) H):wpS P (Instr.findKey t (.int .i64 n) es) H Q:=by
 unfold Instr.findKey;refine zf _ _ _ (zB h ?_);rw[zbN es 0 hI];exact hq
theorem zed{t:gT}(ho:o.op=.makeMap t none):Nk P gm Wq V o (fun j=>.map j) (.raw (.map #[] 0)):=fun A _ φ F H a hg hH hE=>by
 unfold execOp;rw[ho];refine wpS_v ?_;unfold Instr.makeMap;refine zf _ _ _ ?_;intro r hr;refine⟨_,yc φ A.length ⟨r,0,0⟩,.inl rfl,yn _ _ _,by simp,hH.push hr Z (Hp.put_same _ _ _),?_⟩;have:=RelV.map (φ:=yc φ A.length ⟨r,0,0⟩) (n:=(A++[AObj.raw (.map #[] 0)]).length) (i:=A.length) sQ;simpa[yc]using this
theorem uy{t kt et:gT}{x y:gO}{j:Nat}{n:Int}{ob:Obj}{f:Int->Int}{ti:TypeInfo}(ho:o.op=.lookup t x y ff)(hx:zn gm Wq x=some (.map j))(hy:zn gm Wq y=some (.v (.int .i64 n)))(ht:P.underlying t=some (.map kt et))(hk:P.underlying kt=some (.int .i64))(hi:P.info? et=some ti)(hz:ti.zero=some (.int .i64 0))(hm:(j,.raw ob)∈V)(hf:MapOk ob f):Qk P gm Wq V o (.v (.int .i64 (f n))):=fun A hA φ F H a hg hH hE=>by
 unfold execOp;rw[ho];refine wpS_v ?_;have h1:=zy hg hE x;rw[zq hx]at h1;obtain⟨hj,e1⟩:=zhg h1;have h2:=zy hg hE y;rw[zq hy]at h2;rw[e1,inv_v h2];obtain⟨es,c,rfl,hI,hfn⟩:=hf;have hb:H (φ j).blk=some (tt,.map es c):=hH.obj j _ (hA.get hm);unfold Instr.lookup;refine zf _ _ _ (zB ht ?_);dsimp only;refine zf _ _ _ ?_;refine⟨tt,_,hb,rfl,rfl,?_⟩;refine zf _ _ _ ?_;rw[kN];refine zf _ _ _ (zbu hk ?_);refine zf _ _ _ (zbY hk hI ?_);have hg':=zfp (n:=n) es.toList 0;cases e:fiM n es.toList 0 with
 | none =>
  rw[e]at hg';refine zf _ _ _ (kD hi hz ?_);refine z7.quiet hH ?_;rw[<- hfn n,hg'];exact .v _
 | some z =>
  obtain⟨i,v⟩:=z;rw[e]at hg';refine z7.quiet hH ?_;have:=(zbA es.toList 0 hI e).1;rw[<- hfn n,hg'];dsimp only;rw[<- this];exact .v _
theorem zbT{t kt et:gT}{x y z:gO}{j:Nat}{n v:Int}{ob:Obj}{f:Int->Int}(ho:o.op=.mapUpdate t x y z)(hx:zn gm Wq x=some (.map j))(hy:zn gm Wq y=some (.v (.int .i64 n)))(hz:zn gm Wq z=some (.v (.int .i64 v)))(ht:P.underlying t=some (.map kt et))(hk:P.underlying kt=some (.int .i64))(hm:(j,.raw ob)∈V)(hf:MapOk ob f) :
  ∀ A,zU V A->OpOk P gm Wq A o .any (A.set j (.raw (upM ob n v))):=fun A hA φ F H a hg hH hE=>by
 unfold execOp;rw[ho];refine wpS_u ?_;have h1:=zy hg hE x;rw[zq hx]at h1;obtain⟨hj,e1⟩:=zhg h1;have h2:=zy hg hE y;rw[zq hy]at h2;have h3:=zy hg hE z;rw[zq hz]at h3;rw[e1,inv_v h2,inv_v h3];obtain⟨es,c,rfl,hI,hfn⟩:=hf;have hb:H (φ j).blk=some (tt,.map es c):=hH.obj j _ (hA.get hm);have hend:∀ o',upM (.map es c) n v=o'->z7 φ A F .any (A.set j (.raw (upM (.map es c) n v))) .skip (H.put (φ j).blk (tt,o')):=fun o' ho'=>by
  subst ho';exact⟨undef,φ,.inr ⟨rfl,rfl⟩,Agr.refl _ _,by simp,hH.set (hA.get hm) rfl trivial (Hp.put_same _ _ _),.any _⟩
 unfold Instr.mapUpdate;refine zf _ _ _ (zB ht ?_);dsimp only;refine zf _ _ _ ?_;refine⟨tt,_,hb,rfl,rfl,?_⟩;refine zf _ _ _ (zbu hk ?_);refine zf _ _ _ (zbY hk hI ?_);cases e:fiM n es.toList 0 with
 | none =>
  refine⟨_,hb,rfl,rfl,?_⟩;exact hend _ (by unfold upM;dsimp only;rw[e])
 | some w =>
  obtain⟨i,u⟩:=w;obtain⟨_,_,en,he1,he2⟩:=zbA es.toList 0 hI e;rw[Nat.sub_zero,mI]at he1;dsimp only;refine zf _ _ _ ?_;rw[he1];simp only[Option.map_some,Option.getD_some,he2];unfold Instr.keyThatStays;rw[if_pos (by show Instr.sameBits (9999+1) _ _=tt;simp[Instr.sameBits])];refine⟨_,hb,rfl,rfl,?_⟩;exact hend _ (by unfold upM;dsimp only;rw[e])
theorem TK.newM{ob:AObj}{envf:Nat->List AV}(ho:Qy[i]? =some o)(hd:yp o.op=ff)(hw:zM Qy Wq o=some tt)(hq:Nk P gm Wq K o (fun j=>.map j) ob)(he:∀ j,zV Wq o.dst (.map j)=envf j)(h:∀ j,j∉keys K->TK Y ds (.inRegion Qy Wp::k) (envf j) ((j,ob)::K)):TK Y ds (.inRegion Qy (i::Wp)::k) Wq K:=TK.new (f:=fun j=>.map j) ho hd hw hq he h
theorem TK.virtC{t e:gT}{rw':Bool}{x:Option Addr}{size j:Nat}{K':Nat->KV}(hu:∀ j',Upd K j (.cells [.v (.slice x 0 0)] t rw') j (.cells [.row j' 0] t rw') (K' j'))(h:∀ j',j'∉keys K->TK Y ds k Wq ((j',.row [] e size)::K' j')):TK Y ds k Wq K:=fun A hA φ H ts h1 h2 h3 h4 h5 h6=>by
 have hk:A.length∉keys K:=fun hm=>absurd (hA.view.lt hm) (Nat.lt_irrefl _);have hH:=h5.virt e size;have hag:=yn φ A.length ⟨0,0,0⟩;have Wb:(A++[AObj.row [] e size]).length=A.length+1:=by simp
 have hds:dsC (yc φ A.length ⟨0,0,0⟩) ds=dsC φ ds:=by
  unfold dsC;exact mA fun d hd'=>by rw[hag d (h4 d hd')]
 have hj:=hA.view.get (hu A.length).mem;have hjl:j<A.length:=(lD.1 hj).1;have hj2:(A++[AObj.row [] e size])[j]? =some (.cells [.v (.slice x 0 0)] t rw'):=by rw[lG hjl];exact hj
 have hstep:=hA.step (.push hA.view hA.nd (.row [] e size));have hstep2:=hstep.step (.set hstep.view hstep.nd (Upd.tail (hu A.length)));rw[<- hds];refine h _ hk _ hstep2 _ H ts (h1.trans hag h2) (by simp;omega) (by simpa using h3.mono hag oQ) (fun d hd=>by have:=h4 d hd;simp;omega) (hH.turn hj2 (fun ho hl=>?_) (fun h=>h) (fun _=>rfl) (fun hs=>by simp[sol])) (by simpa using h6.mono hag oQ);obtain⟨rw2,cur,fz,q1,q2,q3⟩:=ho sQ;refine⟨rw2,cur,fz,q1,q2,fun t' a ha=>?_⟩;cases t' with
 | zero =>
  simp only[List.getElem?_cons_zero,Option.some.injEq]at ha;subst ha;obtain⟨y,hy,hr⟩:=q3 0 _ rfl;refine⟨y,hy,?_⟩;rw[inv_v hr];refine .row oQ sQ ?_;unfold rowV;simp[yc]
 | succ t'=>simp at ha
theorem zkK{H:Hp}{t e:gT}{b:Option Addr}{n c:Nat}(ht:P.underlying t=some (.slice e)){Q:gV->Hp->Prop}(hq:Q (.bool b.isNone) H):wpS P (binOp .eql t (.slice b n c) (.slice none 0 0)) H Q:=by
 show wpS P (Op.equalIn (9999+1) t (.slice b n c) (.slice none 0 0) >>= fun v=>pure (Value.bool v)) H Q;refine zf _ _ _ ?_;unfold Op.equalIn;refine zf _ _ _ (zB ht ?_);cases b <;> exact hq
theorem TK.nilT{t e yt:gT}{x:gO}{j off len:Nat}(ho:Qy[i]? =some o)(Qw:o.op=.binOp .eql t x (.const (.slice none 0 0)) yt)(hw:zM Qy Wq o=some tt)(hx:zn gm Wq x=some (.sl j off len))(ht:P.underlying t=some (.slice e))
  (h:∀ b:Bool,(b=tt->len=0)->TK Y ds (.inRegion Qy Wp::k) (zV Wq o.dst (.v (.bool b))) K):TK Y ds (.inRegion Qy (i::Wp)::k) Wq K:=fun A hA φ H ts h1 h2 h3 h4 h5 h6=>by
 refine Y.X.hT.opF Y.X.hkd ho (zO h6 hw) (by rw[Qw];rfl) ?_;have hr:=zy (a:=⟨ts,[]⟩) h3 h6 x;rw[zq hx]at hr;obtain⟨hj,cap,b,hl,hb,ey⟩:=zcP hr;unfold execOp;rw[Qw];dsimp only;have e1:evT ts x=.slice b len cap:=ey;rw[e1];refine wpS_v ?_;refine zf _ _ _ ?_;show wpS P (eqGuard .eql t x _ (.slice b len cap) (.slice none 0 0)) H _;unfold eqGuard;refine zkK ht ?_;refine h b.isNone (fun hn=>?_) A hA φ H _ h1 h2 h3 h4 h5 (yF (a:=⟨ts,[]⟩) h6 (.v _) o.dst);cases b with
 | none =>
  rcases mP len with h|h
  ·exact h
  ·cases hb h
 | some _=>cases hn
theorem zj0{s x:gO}{t e:gT}{ti:TypeInfo}{j n:Nat}(ho:o.op=.call { callee:=.builtin .append,args:=#[s,x],argTypes:=#[t,t] })(ht:P.underlying t=some (.slice e))(hi:P.info? e=some ti)(hs:zn gm Wq s=some (.row j n)){u:AV}(hx:zn gm Wq x=some u)(hl:lenA u=some 0):Qk P gm Wq V o (.row j n):=fun A _ φ F H a hg hH hE=>by
 rw[ko ho];have hs':=zy hg hE s;rw[zq hs]at hs';obtain⟨h1,h2,h3⟩:=zah hs';obtain⟨b,c,es⟩:=zcn h2 h3;obtain⟨b',c',ex⟩:=zfG hl (zq hx ▸ zy hg hE x);have hcap:n<=c:=by
  unfold rowV at h3;split at h3
  ·rename_i e0;have:n=0:=by omega
   omega
  ·rw[es]at h3;cases h3;exact h2
 have hend:z7 φ A F (.row j n) A (.value (.slice b n c)) H:=z7.quiet hH (es ▸ hs');simp only[builtin,List.map_toArray,List.map_cons,List.map_nil];refine wpS_v ?_;rw[es,ex];unfold Builtin.append_;show wpS P (underlying t >>= _) H _;refine zf _ _ _ (zB ht ?_);dsimp only;refine zf _ _ _ (yy hi ?_);refine zf _ _ _ ?_;refine zB (t:=t) ht ?_;dsimp only;refine zf _ _ _ ?_;rw[kN];simp only[Bool.false_eq_true,if_false,Bool.not_false,if_true];refine zf _ _ _ ?_;show wpS P (if n+0<=c then _ else _) H _;rw[if_pos oQ];refine zf _ _ _ ?_;have hf:∀ Q:Array gV->Hp->Prop,Q #[] H->wpS P (Builtin.firstCells ti.size 0 (.slice b' 0 c')) H Q:=fun Q hq=>by
  cases b' with
  | none=>exact hq
  | some a =>
   show wpS P (loadCells a (0*ti.size)) H Q;rw[Nat.zero_mul];exact hq
 refine hf _ ?_;cases b with
 | none=>exact hend
 | some a=>exact hend
theorem q_shl{t yt:gT}{x y:gO}{k':gJ}{a b:Int}(ho:o.op=.binOp .shl t x y yt)(hx:zn gm Wq x=some (.v (.int .i64 a)))(hy:zn gm Wq y=some (.v (.int k' b)))(h0:0<=b/\b<=60)(h : -9223372036854775808<=a*2 ^ b.toNat/\a*2 ^ b.toNat<9223372036854775808):Qk P gm Wq V o (.v (.int .i64 (a*2 ^ b.toNat))):=fun A _=>by
 refine wu ho (by rw[zq hx];rfl) (by rw[zq hy];rfl) ?_;rw[vv];show zL P (Op.shift .shl .i64 a k' b)=_;unfold Op.shift;rw[if_neg oQ];show some (Value.int .i64 (IntKind.i64.wrap (a*2 ^ min b.toNat 64)))=_;rw[Nat.min_eq_left oQ,kg h]
theorem q_shr{t yt:gT}{x y:gO}{k':gJ}{a b:Int}(ho:o.op=.binOp .shr t x y yt)(hx:zn gm Wq x=some (.v (.int .i64 a)))(hy:zn gm Wq y=some (.v (.int k' b)))(h0:0<=b/\b<=60):Qk P gm Wq V o (.v (.int .i64 (a.fdiv (2 ^ b.toNat)))):=fun A _=>by
 refine wu ho (by rw[zq hx];rfl) (by rw[zq hy];rfl) ?_;rw[vv];show zL P (Op.shift .shr .i64 a k' b)=_;unfold Op.shift;rw[if_neg oQ];show some (Value.int .i64 (a.fdiv (2 ^ min b.toNat 64)))=_;rw[Nat.min_eq_left oQ]
theorem zf8{t yt:gT}{x y:gO}{a:Nat}(ho:o.op=.binOp .and t x y yt)(hx:zn gm Wq x=some (.v (.int .i64 a)))(hy:zn gm Wq y=some (.v (.int .i64 1)))(h:a<9223372036854775808):Qk P gm Wq V o (.v (.int .i64 ((a % 2:Nat):Int))):=by
 refine wv ho hx hy ?_;show some (Value.int .i64 (IntKind.i64.wrap ((BitVec.ofInt 64 (a:Int) &&& BitVec.ofInt 64 1).toNat:Int)))=_;have:(BitVec.ofInt 64 (a:Int) &&& BitVec.ofInt 64 1).toNat=a % 2:=by
  rw[BitVec.toNat_and];have e1:(BitVec.ofInt 64 (a:Int)).toNat=a:=by
   rw[BitVec.toNat_ofInt];omega
  rw[e1];show a &&& 1=a % 2;exact Nat.and_one_is_mod a
 rw[this,kg oQ]
end
end Go.Vel
namespace Go.Vel.Mx
inductive Pc where
 | ld|l0|r0|sq|c1|r1|c2|t1|s1|t2|r2|a1|r3|le|la
 | ur|ud|u0|uc|us|ux|ue|wr|wk|d1|d2|d3|d4|quit
 deriving DecidableEq
structure Th where
 pc:Pc
 old:Nat:=0
 nw:Nat:=0
 aw:Bool:=ff
 sv:Bool:=ff
 it:Nat:=0
structure Sh where
 mu:Nat
 ms:Nat
abbrev lk(x:Nat):Nat:=x % 2
abbrev wk(x:Nat):Nat:=x / 2 % 2
abbrev st(x:Nat):Nat:=x / 4 % 2
abbrev wt(x:Nat):Nat:=x / 8
def newOf(x:Nat)(aw sv:Bool):Nat :=
 (if st x=0 then 1 else lk x)+2*(if aw then 0 else wk x)+4*(if sv/\lk x=1 then 1 else st x)+8*(if lk x=1\/st x=1 then wt x+1 else wt x)
def hd(T:Th):Th:=if lk T.old=1/\st T.old=0 then { T with pc:=.sq } else { T with pc:=.c2,nw:=newOf T.old T.aw T.sv }
def hdU(x:Nat):Th:=if wt x=0\/x % 8≠0 then { pc:=.ue } else { pc:=.uc,old:=x,nw:=x - 8+2 }
inductive Mv:Th->Sh->Th->Sh->Prop
 | ld {T s} (h:T.pc=.ld):Mv T s { pc:=.l0 } s
 | l0h {T s} (h:T.pc=.l0) (h1:s.mu=0):Mv T s { pc:=.le } { s with mu:=1 }
 | l0m {T s} (h:T.pc=.l0) (h1:s.mu≠0):Mv T s { pc:=.r0 } s
 | r0 {T s} (h:T.pc=.r0):Mv T s (hd { pc:=.r0,old:=s.mu }) s
 | sqn {T s} (h:T.pc=.sq):Mv T s { T with pc:=.c2,nw:=newOf T.old T.aw T.sv } s
 | sqc {T s} (h:T.pc=.sq) (h0:T.it<4) (h1:T.aw=ff) (h2:wk T.old=0) (h3:wt T.old≠0):Mv T s { T with pc:=.c1 } s
 | sqr {T s} (h:T.pc=.sq) (h0:T.it<4) (h1:¬ (T.aw=ff/\wk T.old=0/\wt T.old≠0)):Mv T s { T with pc:=.r1 } s
 | c1h {T s} (h:T.pc=.c1) (h1:s.mu=T.old):Mv T s { T with pc:=.r1,aw:=tt } { s with mu:=T.old+2 }
 | c1m {T s} (h:T.pc=.c1) (h1:s.mu≠T.old):Mv T s { T with pc:=.r1 } s
 | r1 {T s} (h:T.pc=.r1):Mv T s (hd { T with old:=s.mu,it:=T.it+1 }) s
 | c2t {T s} (h:T.pc=.c2) (h1:s.mu=T.old) (h2:lk T.old=0) (h3:st T.old=0):Mv T s { pc:=.le } { s with mu:=T.nw }
 | c2r {T s} (p:Pc) (hp:p=.t1\/p=.s1) (h:T.pc=.c2) (h1:s.mu=T.old) (h2:lk T.old=1\/st T.old=1):Mv T s { T with pc:=p } { s with mu:=T.nw }
 | c2m {T s} (h:T.pc=.c2) (h1:s.mu≠T.old):Mv T s { T with pc:=.r3 } s
 | t1 {T s} (h:T.pc=.t1):Mv T s { T with pc:=.s1 } s
 | s1 {T s} (h:T.pc=.s1) (h1:s.ms≠0):Mv T s { T with pc:=.t2 } { s with ms:=s.ms - 1 }
 | s1s {T s} (h:T.pc=.s1) (h1:s.ms≠0) (h2:T.sv=tt):Mv T s { T with pc:=.r2 } { s with ms:=s.ms - 1 }
 | t2 {T s} (b:Bool) (h:T.pc=.t2):Mv T s { T with pc:=.r2,sv:=b } s
 | r2n {T s} (h:T.pc=.r2) (h1:st s.mu=0):Mv T s (hd { T with old:=s.mu,aw:=tt,it:=0 }) s
 | r2s {T s} (h:T.pc=.r2) (h1:st s.mu=1):Mv T s { T with pc:=.a1,nw:=if T.sv=ff\/wt s.mu=1 then 1 else 0 } s
 | a1 {T s} (h:T.pc=.a1):Mv T s { pc:=.le } { s with mu:=s.mu+1 - 8 - 4*T.nw }
 | r3 {T s} (h:T.pc=.r3):Mv T s (hd { T with old:=s.mu }) s
 | le {T s} (h:T.pc=.le):Mv T s { pc:=.la } s
 | la {T s} (h:T.pc=.la):Mv T s { pc:=.ur } s
 | ur {T s} (h:T.pc=.ur):Mv T s { pc:=.ud } s
 | ud {T s} (h:T.pc=.ud):Mv T s { pc:=.u0 } s
 | u0z {T s} (h:T.pc=.u0) (h1:s.mu=1):Mv T s { pc:=.ue } { s with mu:=0 }
 | u0s {T s} (h:T.pc=.u0) (h1:s.mu≠1) (h2:st s.mu=1):Mv T s { pc:=.us } { s with mu:=s.mu - 1 }
 | u0n {T s} (h:T.pc=.u0) (h1:s.mu≠1) (h2:st s.mu=0):Mv T s (hdU (s.mu - 1)) { s with mu:=s.mu - 1 }
 | uch {T s} (h:T.pc=.uc) (h1:s.mu=T.old):Mv T s { pc:=.us } { s with mu:=T.nw }
 | ucm {T s} (h:T.pc=.uc) (h1:s.mu≠T.old):Mv T s { pc:=.ux } s
 | ux {T s} (h:T.pc=.ux):Mv T s (hdU s.mu) s
 | us {T s} (h:T.pc=.us):Mv T s { pc:=.ue } { s with ms:=s.ms+1 }
 | ue {T s} (h:T.pc=.ue):Mv T s { pc:=.wr } s
 | wr {T s} (h:T.pc=.wr):Mv T s { pc:=.wk } s
 | wk {T s} (h:T.pc=.wk):Mv T s { pc:=.d1 } s
 | d1 {T s} (p:Pc) (hp:p=.d2\/p=.quit) (h:T.pc=.d1):Mv T s { pc:=p } s
 | d2 {T s} (h:T.pc=.d2):Mv T s { pc:=.d3 } s
 | d3 {T s} (h:T.pc=.d3):Mv T s { pc:=.d4 } s
 | d4 {T s} (h:T.pc=.d4):Mv T s { pc:=.quit } s
def hl(T:Th):Nat:=match T.pc with|.le|.la|.ur|.ud|.u0=>1|_=>0
def wa(T:Th):Nat:=match T.pc with|.t1|.s1=>1|_=>0
def kl(T:Th):Nat:=match T.pc with|.sq|.c1|.r1|.c2|.r3=>if T.aw then 1 else 0|_=>0
def kw(T:Th):Nat:=match T.pc with|.t2|.r2|.a1=>1|_=>0
def ku(T:Th):Nat:=match T.pc with|.us=>1|_=>0
def ua(T:Th):Nat:=match T.pc with|.uc|.ux=>1|_=>0
def ka(T:Th):Nat:=match T.pc with|.a1=>1|_=>0
def Loc(T:Th):Prop:=match T.pc with
 | .sq=>lk T.old=1/\st T.old=0/\(T.aw=tt->wk T.old=1)/\(T.sv=tt->T.aw=tt)
 | .c1=>lk T.old=1/\st T.old=0/\T.aw=ff/\T.sv=ff/\wk T.old=0/\wt T.old≠0/\T.it<4
 | .c2=>(T.aw=tt->wk T.old=1)/\(T.sv=tt->T.aw=tt)/\T.nw=newOf T.old T.aw T.sv
 | .r1=>(T.sv=tt->T.aw=tt)/\T.it<4
 | .r3=>T.sv=tt->T.aw=tt
 | .uc=>1<=wt T.old/\T.old % 8=0/\T.nw=T.old - 8+2
 | .a1=>T.nw<=1
 | _=>True
def S(p:Th->Nat)(f:Nat->Th):Nat->Nat
 | 0=>0
 | n+1=>S p f n+p (f n)
def upd(f:Nat->Th)(i:Nat)(T:Th):Nat->Th:=fun k=>if k=i then T else f k
theorem zeQ{p:Th->Nat}{f:Nat->Th}{i:Nat}{T:Th}:∀{n:Nat},n<=i->S p (upd f i T) n=S p f n
 | 0,_=>rfl
 | n+1,h=>by
  unfold S;rw[zeQ (n:=n) oQ];unfold upd;rw[if_neg oQ]
theorem S_upd{p:Th->Nat}{f:Nat->Th}{i:Nat}{T:Th}:∀{n:Nat},i<n->S p (upd f i T) n+p (f i)=S p f n+p T
 | n+1,h=>by
  unfold S;by_cases e:i=n
  ·subst e;rw[zeQ (mL _)];unfold upd;rw[if_pos rfl];omega
  ·have:=S_upd (p:=p) (f:=f) (T:=T) (n:=n) (i:=i) oQ;have e2:upd f i T n=f n:=by unfold upd;rw[if_neg oQ]
   rw[e2];omega
theorem S_le{p q:Th->Nat}{f:Nat->Th}(h:∀ T,p T<=q T):∀ n,S p f n<=S q f n
 | 0=>mL _
 | n+1=>Nat.add_le_add (S_le h n) (h _)
theorem S_get{p:Th->Nat}{f:Nat->Th}{i:Nat}:∀{n:Nat},i<n->p (f i)<=S p f n
 | n+1,h=>by
  unfold S;by_cases e:i=n
  ·subst e;omega
  ·have:=S_get (p:=p) (f:=f) (n:=n) (i:=i) oQ;omega
theorem S_two{p:Th->Nat}{f:Nat->Th}{i k:Nat}:∀{n:Nat},i<n->k<n->i≠k->p (f i)+p (f k)<=S p f n
 | n+1,h1,h2,h=>by
  unfold S;by_cases e:i=n
  ·subst e;have:=S_get (p:=p) (f:=f) (n:=i) (i:=k) oQ;omega
  ·by_cases e2:k=n
   ·subst e2;have:=S_get (p:=p) (f:=f) (n:=k) (i:=i) oQ;omega
   ·have:=S_two (p:=p) (f:=f) (n:=n) (i:=i) (k:=k) oQ oQ h;omega
theorem S_pos{p:Th->Nat}{f:Nat->Th}:∀{n:Nat},1<=S p f n->∃ i,i<n/\1<=p (f i)
 | 0,h=>by simp[S]at h
 | n+1,h=>by
  unfold S at h;by_cases e:1<=p (f n)
  ·exact⟨n,oQ,e⟩
  ·obtain⟨i,hi,h⟩:=S_pos (p:=p) (f:=f) (n:=n) oQ;exact⟨i,oQ,h⟩
theorem S_add{p q:Th->Nat}{f:Nat->Th}:∀ n:Nat,S p f n+S q f n=S (fun T=>p T+q T) f n
 | 0=>rfl
 | n+1=>by have:=S_add (p:=p) (q:=q) (f:=f) n;unfold S;omega
theorem S_one{p:Th->Nat}{f:Nat->Th}(h:∀ T,p T<=1):∀ n:Nat,S p f n<=n
 | 0=>mL _
 | n+1=>by have:=S_one (f:=f) h n;have:=h (f n);unfold S;omega
structure Inv(n:Nat)(f:Nat->Th)(s:Sh):Prop where
 loc:∀ i,i<n->Loc (f i)
 hold:S hl f n=lk s.mu
 one:S kl f n+S kw f n+S ku f n+s.ms<=1
 nrm:st s.mu=0->wk s.mu=S kl f n+S kw f n+S ku f n+s.ms
 stv:st s.mu=1->wk s.mu=0/\S kl f n+S kw f n+S ku f n+s.ms+lk s.mu=1/\S kl f n=0/\1<=wt s.mu
 wn:st s.mu=0->S wa f n=wt s.mu+S ku f n+s.ms/\S ka f n=0
 ws:st s.mu=1->S wa f n+S kw f n=wt s.mu
 resp:st s.mu=0->lk s.mu=0->wk s.mu=0->1<=wt s.mu->1<=S ua f n
 a1w:∀ i,i<n->(f i).pc=.a1->(f i).nw=0->2<=wt s.mu
theorem inv_none{f:Nat->Th}:Inv 0 f ⟨0,0⟩:=by
 refine⟨fun i hi=>by omega,rfl,by simp[S],by simp[S],by simp,by simp[S],by simp,by simp,fun i hi=>by omega⟩
theorem zdj{p:Th->Nat}{f g:Nat->Th}:∀{n:Nat},(∀ i,i<n->f i=g i)->S p f n=S p g n
 | 0,_=>rfl
 | n+1,h=>by
  unfold S;rw[zdj (fun i hi=>h i oQ),h n oQ]
theorem Inv.congr{n:Nat}{f g:Nat->Th}{s:Sh}(h:Inv n f s)(e:∀ i,i<n->f i=g i):Inv n g s:=by
 have e':∀ p,S p g n=S p f n:=fun p=>(zdj e).symm;refine⟨fun i hi=>by rw[<- e i hi];exact h.loc i hi,by rw[e'];exact h.hold,by rw[e',e',e'];exact h.one,fun x=>by rw[e',e',e'];exact h.nrm x,fun x=>by rw[e',e',e'];exact h.stv x,fun x=>by rw[e',e',e'];exact h.wn x,fun x=>by rw[e',e'];exact h.ws x,fun a b c d=>by rw[e'];exact h.resp a b c d,fun i hi=>by rw[<- e i hi];exact h.a1w i hi⟩
theorem Inv.grow{n:Nat}{f:Nat->Th}{s:Sh}(h:Inv n f s)(e:(f n).pc=.ld\/(f n).pc=.wr):Inv (n+1) f s:=by
 have z:∀ p:Th->Nat,(∀ T,T.pc=.ld\/T.pc=.wr->p T=0)->S p f (n+1)=S p f n:=fun p hp=>by
  show S p f n+p (f n)=S p f n;rw[hp _ e,Nat.add_zero]
 have e1:=z hl (fun T h=>by rcases h with h|h <;> simp[hl,h]);have e2:=z wa (fun T h=>by rcases h with h|h <;> simp[wa,h]);have e3:=z kl (fun T h=>by rcases h with h|h <;> simp[kl,h]);have e4:=z kw (fun T h=>by rcases h with h|h <;> simp[kw,h]);have e5:=z ku (fun T h=>by rcases h with h|h <;> simp[ku,h]);have e6:=z ka (fun T h=>by rcases h with h|h <;> simp[ka,h]);have e7:=z ua (fun T h=>by rcases h with h|h <;> simp[ua,h]);refine⟨fun i hi=>?_,by rw[e1];exact h.hold,by rw[e3,e4,e5];exact h.one,fun x=>by rw[e3,e4,e5];exact h.nrm x,fun x=>by rw[e3,e4,e5];exact h.stv x,fun x=>by rw[e2,e5,e6];exact h.wn x,fun x=>by rw[e2,e4];exact h.ws x,fun a b c d=>by rw[e7];exact h.resp a b c d,fun i hi hp=>?_⟩
 ·rcases mR i n with Qp|hge
  ·exact h.loc i Qp
  ·obtain rfl:i=n:=by omega
   rcases e with e|e <;> simp[Loc,e]
 ·rcases mR i n with Qp|hge
  ·exact h.a1w i Qp hp
  ·obtain rfl:i=n:=by omega
   rcases e with e|e <;> (rw[e]at hp;cases hp)
end Go.Vel.Mx
end
