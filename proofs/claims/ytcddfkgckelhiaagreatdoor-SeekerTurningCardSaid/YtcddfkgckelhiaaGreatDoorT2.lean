/- Texts for the statements of chapter 9: what all of them need, part 3. It holds of every program, tape and world that the statements name, as each theorem says. -/
import Derived.Laws.Append
import Derived.KernelRfl
import Derived.Test.YtcddfkgckelhiaaGreatDoorT0
import Derived.Test.YtcddfkgckelhiaaGreatDoorT1
section
set_option linter.all false
set_option maxRecDepth 20000
set_option maxHeartbeats 60000000
open List renaming getElem?_eq_getElem -> lA, getElem?_eq_some_iff -> lD, getD_eq_getElem?_getD -> lE, length_append -> lF, getElem?_append_left -> lG, length_map -> lJ, mem_of_getElem? -> lN, getElem?_append_right -> lO, getElem?_map -> lQ, getElem?_set -> lX, length_cons -> lZ, map_congr_left -> mA, replicate -> mB
open Array renaming getElem?_eq_getElem -> mD, getElem?_setIfInBounds_ne -> mE, getElem?_setIfInBounds_self_of_lt -> mF, getElem?_eq_some_iff -> mG, getElem?_toList -> mI, getElem?_map -> mJ, empty_append -> mK
open Nat renaming le_refl -> mL, lt_of_lt_of_le -> mM, zero_add -> mO, eq_zero_or_pos -> mP, lt_or_ge -> mR
open Bool renaming false_eq_true -> mU
namespace Go.Vel
open Go Go.Conc
inductive AV where
 | v (x:Value)
 | ptr (i off:Nat)
 | sl (i off len:Nat)
 | row (i len:Nat)
 | agg (l:List AV)
 | tup (l:List AV)
 | fn (f:FuncId) (fs cs:List AV)
 | e0
 | z0
 | map (i:Nat)
 | yl (i:Nat)
 | chan (i:Nat)
 | any
instance:Inhabited AV:=⟨.any⟩
structure Loc3 where
 blk:Nat
 base:Nat
 cap:Nat
def rowV (loc:Loc3) (len:Nat) (y:Value):Prop:=if loc.cap=0 then ∃ b,y=.slice b 0 0 else y=.slice (some ⟨loc.blk,0,none⟩) len loc.cap
inductive RelV (φ:Nat->Loc3) (n:Nat):AV->Value->Prop
 | v (x:Value):RelV φ n (.v x) x
 | ptr {i off:Nat}:i<n->RelV φ n (.ptr i off) (.pointer (some ⟨(φ i).blk,(φ i).base+off,none⟩))
 | sl {i off len cap:Nat} {b:Option Addr}:i<n->len<=cap->(0<len->b=some ⟨(φ i).blk,(φ i).base+off,none⟩)->RelV φ n (.sl i off len) (.slice b len cap)
 | row {i len:Nat} {y:Value}:i<n->len<=(φ i).cap->rowV (φ i) len y->RelV φ n (.row i len) y
 | agg {l:List AV} {ys:Array Value}:l.length=ys.size->(∀ (j:Nat) a y,l[j]? =some a->ys[j]? =some y->RelV φ n a y)->RelV φ n (.agg l) (.agg ys)
 | tup {l:List AV} {ys:Array Value}:l.length=ys.size->(∀ (j:Nat) a y,l[j]? =some a->ys[j]? =some y->RelV φ n a y)->RelV φ n (.tup l) (.tuple ys)
 | fn {f:FuncId} {fs cs:List AV} {xs ys:Array Value}:fs.length=xs.size->(∀ (j:Nat) a y,fs[j]? =some a->xs[j]? =some y->RelV φ n a y) ->
   cs.length=ys.size->(∀ (j:Nat) a y,cs[j]? =some a->ys[j]? =some y->RelV φ n a y)->RelV φ n (.fn f fs cs) (.func (.func f) xs ys)
 | e0 (a:Option Addr) (cap:Nat):RelV φ n .e0 (.slice a 0 cap)
 | z0 (a:Addr):RelV φ n .z0 (.slice (some a) 0 0)
 | map {i:Nat}:i<n->RelV φ n (.map i) (.map (some (φ i).blk))
 | yl {i:Nat}:i<n->RelV φ n (.yl i) (.func (.yield (φ i).blk) #[] #[])
 | chan {i:Nat}:i<n->RelV φ n (.chan i) (.chan (some (φ i).blk))
 | any (y:Value):RelV φ n .any y
def zT (φ:Nat->Loc3) (n:Nat) (l:List AV) (ys:Array Value):Prop:=l.length=ys.size/\∀ (j:Nat) a y,l[j]? =some a->ys[j]? =some y->RelV φ n a y
def Agr (φ φ':Nat->Loc3) (n:Nat):Prop:=∀ i,i<n->φ' i=φ i
theorem Agr.refl (φ:Nat->Loc3) (n:Nat):Agr φ φ n:=fun _ _=>rfl
theorem Agr.trans {φ φ' φ'':Nat->Loc3} {n m:Nat} (h:Agr φ φ' n) (k:Agr φ' φ'' m) (hn:n<=m):Agr φ φ'' n:=fun i hi=>(k i oQ).trans (h i hi)
theorem Agr.mono {φ φ':Nat->Loc3} {n m:Nat} (h:Agr φ φ' n) (hm:m<=n):Agr φ φ' m:=fun i hi=>h i oQ
theorem RelV.mono {φ φ':Nat->Loc3} {n n':Nat} (hA:Agr φ φ' n) (hn:n<=n') {a:AV} {y:Value} (h:RelV φ n a y):RelV φ' n' a y:=by
 induction h with
 | v x=>exact .v x
 | ptr hi=>rw [<- hA _ hi]; exact .ptr oQ
 | sl hi hl hb=>rw [<- hA _ hi] at hb; exact .sl oQ hl hb
 | row hi hl hv =>
  rw [<- hA _ hi] at hl hv;exact .row oQ hl hv
 | agg hl _ ih=>exact .agg hl ih
 | tup hl _ ih=>exact .tup hl ih
 | fn h1 _ h2 _ ih1 ih2=>exact .fn h1 ih1 h2 ih2
 | e0 a c=>exact .e0 a c
 | z0 a=>exact .z0 a
 | map hi=>rw [<- hA _ hi]; exact .map oQ
 | yl hi=>rw [<- hA _ hi]; exact .yl oQ
 | chan hi=>rw [<- hA _ hi]; exact .chan oQ
 | any y=>exact .any y
theorem zT.mono {φ φ':Nat->Loc3} {n n':Nat} (hA:Agr φ φ' n) (hn:n<=n') {l:List AV} {ys:Array Value} (h:zT φ n l ys):zT φ' n' l ys:=⟨h.1,fun j a y ha hy=>(h.2 j a y ha hy).mono hA hn⟩
inductive AObj where
 | cells (l:List AV) (elem:TypeId) (rw:Bool)
 | row (l:List AV) (elem:TypeId) (size:Nat)
 | raw (o:Obj)
 | loop (f:FuncId) (env:List AV) (ps:Array Tmp) (x y:Code) (st:LoopState) (pj:Option Code)
 | gone
def AObj.excl:AObj->Bool | .cells _ _ rw=>rw | .row .. => true | .raw _=>true | .loop .. => true | .gone=>false
def AObj.live:AObj->Bool | .gone=>false | _=>true
def sol (loc:Loc3):AObj->Prop | .row .. => 0<loc.cap | .cells l _ _=>l≠[] | _=>True
def RelO (φ:Nat->Loc3) (n:Nat) (loc:Loc3) (H:Hp):AObj->Prop
 | .cells l e rw=>l≠[]->∃ rw' cur q,H loc.blk=some (rw',.cells cur q.1 q.2)/\(rw=true->rw'=true/\q=(e,0,0))/\∀ (j:Nat) a,l[j]? =some a->∃ y,cur[loc.base+j]? =some y/\RelV φ n a y
 | .row l e size=>(loc.cap=0->l=[])/\loc.base=0/\(0<loc.cap->∃ cur,H loc.blk=some (true,.cells cur e (0,0))/\cur.size=loc.cap*size/\loc.cap<=maxLen/\l.length<=cur.size/\∀ (j:Nat) a,l[j]? =some a->∃ y,cur[j]? =some y/\RelV φ n a y)
 | .raw o=>H loc.blk=some (true,o)
 | .loop f env ps x y st pj=>∃ ts d,H loc.blk=some (true,.loop { state:=st,pending:=pj,fn:=f,tmps:=ts,params:=ps,assign:=x,body:=y,defers:=d })/\zT φ n env ts
 | .gone=>True
structure RelH (φ:Nat->Loc3) (A:List AObj) (F H:Hp):Prop where
 obj:∀ (i:Nat) o,A[i]? =some o->RelO φ A.length (φ i) H o
 apart:∀ (i j:Nat) o o',A[i]? =some o->A[j]? =some o'->i≠j->o.excl=true->o'.live=true->sol (φ i) o->sol (φ j) o'->(φ i).blk≠(φ j).blk
 fr:F.ext H
 frx:∀ (i:Nat) o,A[i]? =some o->o.excl=true->sol (φ i) o->F (φ i).blk=none
theorem RelO.mono {φ φ':Nat->Loc3} {n n':Nat} (hA:Agr φ φ' n) (hn:n<=n') {loc:Loc3} {H H':Hp} {o:AObj} (hH:o.live=true->sol loc o->H' loc.blk=H loc.blk) (h:RelO φ n loc H o):RelO φ' n' loc H' o:=by
 cases o with
 | cells l e rw' =>
  intro hl;obtain ⟨rw'',cur,fz,h1,h2,h3⟩:=h hl;exact ⟨rw'',cur,fz,(hH rfl hl).trans h1,h2,fun j a ha=>let ⟨y,h4,h5⟩:=h3 j a ha; ⟨y,h4,h5.mono hA hn⟩⟩
 | row l e size =>
  obtain ⟨h0,h2,h⟩:=h;refine ⟨h0,h2,fun hc=>?_⟩;obtain ⟨cur,h1,h3,h4,h5,h6⟩:=h hc;exact ⟨cur,(hH rfl hc).trans h1,h3,h4,h5,fun j a ha=>let ⟨y,h7,h8⟩:=h6 j a ha; ⟨y,h7,h8.mono hA hn⟩⟩
 | raw o=>exact (hH rfl trivial).trans h
 | loop f env ps x y st pj=>obtain ⟨ts,d,h1,h2⟩:=h; exact ⟨ts,d,(hH rfl trivial).trans h1,h2.mono hA hn⟩
 | gone=>trivial
theorem RelH.ext {φ:Nat->Loc3} {A:List AObj} {F H H':Hp} (h:RelH φ A F H) (he:H.ext H'):RelH φ A F H':=by
 refine ⟨fun i o hi=>?_,h.apart,fun b x hb=>he b x (h.fr b x hb),h.frx⟩;have ho:=h.obj i o hi;cases o with
 | cells l e rw'=>exact fun hl=>let ⟨rw'',cur,fz,h1,h2⟩:=ho hl; ⟨rw'',cur,fz,he _ _ h1,h2⟩
 | row l e size=>obtain ⟨h0,h2,ho⟩:=ho; exact ⟨h0,h2,fun hc=>let ⟨cur,h1,h3⟩:=ho hc; ⟨cur,he _ _ h1,h3⟩⟩
 | raw o=>exact he _ _ ho
 | loop f env ps x y st pj=>obtain ⟨ts,d,h1,h2⟩:=ho; exact ⟨ts,d,he _ _ h1,h2⟩
 | gone=>trivial
def upd3 (φ:Nat->Loc3) (i:Nat) (x:Loc3):Nat->Loc3:=fun j=>if j=i then x else φ j
theorem yw (φ:Nat->Loc3) (n:Nat) (x:Loc3):Agr φ (upd3 φ n x) n:=fun i hi=>by simp [upd3]; omega
theorem RelO.held {φ:Nat->Loc3} {n:Nat} {loc:Loc3} {H:Hp} {o:AObj} (h:RelO φ n loc H o) (hl:o.live=true) (hs:sol loc o):∃ x,H loc.blk=some x:=by
 cases o with
 | cells l e rw'=>obtain ⟨rw'',cur,fz,h1,_⟩:=h hs; exact ⟨_,h1⟩
 | row l e size=>obtain ⟨cur,h1,_⟩:=h.2.2 hs; exact ⟨_,h1⟩
 | raw o=>exact ⟨_,h⟩
 | loop f env ps x y st pj=>obtain ⟨ts,d,h1,_⟩:=h; exact ⟨_,h1⟩
 | gone=>cases hl
theorem RelH.push {φ:Nat->Loc3} {A:List AObj} {F H:Hp} (h:RelH φ A F H) {r:Nat} (hr:H r=none) {loc:Loc3} (hloc:loc.blk=r) {o:AObj} {x:Bool×Obj} (ho:RelO (upd3 φ A.length loc) (A.length+1) loc (H.put r x) o) :
  RelH (upd3 φ A.length loc) (A++[o]) F (H.put r x):=by
 have hlen:(A++[o]).length=A.length+1:=by simp
 have hget:∀ (i:Nat) o',(A++[o])[i]? =some o'->(i<A.length/\A[i]? =some o')\/(i=A.length/\o'=o):=fun i o' hi=>by
  rcases mR i A.length with hlt | hge
  ·rw [lG hlt] at hi; exact .inl ⟨hlt,hi⟩
  ·rw [lO hge] at hi;have:i - A.length=0:=by
    have:=(lD.1 hi).1;simp at this;omega
   rw [this] at hi;simp at hi;exact .inr ⟨by omega,hi.symm⟩
 have hold:∀ i,i<A.length->upd3 φ A.length loc i=φ i:=fun i hi=>by simp [upd3]; omega
 have hnew:upd3 φ A.length loc A.length=loc:=by simp [upd3]
 have hne:∀ (i:Nat) o',A[i]? =some o'->o'.live=true->sol (φ i) o'->(φ i).blk≠r:=fun i o' hi hl hs e=>by
  obtain ⟨y,hy⟩:=(h.obj i o' hi).held hl hs;rw [e,hr] at hy; cases hy
 have hFr:F r=none:=by
  cases e:F r with
  | none=>rfl
  | some y=>have:=h.fr r y e; rw [hr] at this; cases this
 refine ⟨fun i o' hi=>?_,fun i j o1 o2 hi hj hij he hl hs1 hs2=>?_,Hp.ext_put h.fr hFr x,fun i o' hi he hs=>?_⟩;rotate_left 2
 ·rcases hget i o' hi with ⟨hlt,hi'⟩ | ⟨rfl,rfl⟩
  ·rw [hold i hlt] at hs ⊢; exact h.frx i o' hi' he hs
  ·rw [hnew,hloc]; exact hFr
 ·rw [hlen];rcases hget i o' hi with ⟨hlt,hi'⟩ | ⟨rfl,rfl⟩
  ·rw [hold i hlt];exact (h.obj i o' hi').mono (yw φ _ loc) oQ (fun hl hs=>Hp.put_other _ _ (hne i o' hi' hl hs))
  ·rw [hnew]; exact ho
 ·rcases hget i o1 hi with ⟨hi1,hi'⟩ | ⟨rfl,rfl⟩
  ·rcases hget j o2 hj with ⟨hj1,hj'⟩ | ⟨rfl,rfl⟩
   ·rw [hold i hi1] at hs1 ⊢; rw [hold j hj1] at hs2 ⊢; exact h.apart i j o1 o2 hi' hj' hij he hl hs1 hs2
   ·rw [hold i hi1] at hs1 ⊢; rw [hnew,hloc];refine hne i o1 hi' ?_ hs1;cases o1 <;> first | rfl | (simp [AObj.excl] at he)
  ·rcases hget j o2 hj with ⟨hj1,hj'⟩ | ⟨rfl,_⟩
   ·rw [hold j hj1] at hs2 ⊢; rw [hnew,hloc];exact Ne.symm (hne j o2 hj' hl hs2)
   ·exact absurd rfl hij
theorem RelH.set {φ:Nat->Loc3} {A:List AObj} {F H:Hp} (h:RelH φ A F H) {i:Nat} {o o':AObj} (hi:A[i]? =some o) (hx:o.excl=true) (hs:sol (φ i) o) {x:Bool×Obj} (ho:RelO φ A.length (φ i) (H.put (φ i).blk x) o') :
  RelH φ (A.set i o') F (H.put (φ i).blk x):=by
 have hlt:i<A.length:=(lD.1 hi).1;have hget:∀ (j:Nat) q,(A.set i o')[j]? =some q->(j≠i/\A[j]? =some q)\/(j=i/\q=o'):=fun j q hj=>by
  rw [lX] at hj;split at hj
  ·rename_i e;subst e;simp [hlt] at hj;exact .inr ⟨rfl,hj.symm⟩
  ·rename_i e;exact .inl ⟨Ne.symm e,hj⟩
 refine ⟨fun j q hj=>?_,fun j k q1 q2 hj hk hjk he hl hs1 hs2=>?_,Hp.ext_put h.fr (h.frx i o hi hx hs) x,fun j q hj he hsj=>?_⟩;rotate_left 2
 ·rcases hget j q hj with ⟨_,hj'⟩ | ⟨rfl,rfl⟩
  ·exact h.frx j q hj' he hsj
  ·exact h.frx j o hi hx hs
 ·rw [List.length_set];rcases hget j q hj with ⟨hne,hj'⟩ | ⟨rfl,rfl⟩
  ·refine (h.obj j q hj').mono (Agr.refl _ _) (mL _) fun hl hsj=>Hp.put_other _ _ ?_;exact Ne.symm (h.apart i j o q hi hj' (Ne.symm hne) hx hl hs hsj)
  ·exact ho
 ·rcases hget j q1 hj with ⟨hne,hj'⟩ | ⟨rfl,rfl⟩
  ·rcases hget k q2 hk with ⟨hne2,hk'⟩ | ⟨rfl,rfl⟩
   ·exact h.apart j k q1 q2 hj' hk' hjk he hl hs1 hs2
   ·refine Ne.symm (h.apart k j o q1 hi hj' (Ne.symm hjk) hx ?_ hs hs1);cases q1 <;> first | rfl | (simp [AObj.excl] at he)
  ·rcases hget k q2 hk with ⟨hne2,hk'⟩ | ⟨rfl,rfl⟩
   ·exact h.apart j k o q2 hi hk' hjk hx hl hs hs2
   ·exact absurd rfl hjk
theorem RelH.drop {φ:Nat->Loc3} {A:List AObj} {F H:Hp} (h:RelH φ A F H) (i:Nat):RelH φ (A.set i .gone) F H:=by
 have hget:∀ (j:Nat) q,(A.set i .gone)[j]? =some q->A[j]? =some q\/q=.gone:=fun j q hj=>by
  rw [lX] at hj;split at hj
  ·split at hj
   ·exact .inr (Option.some.inj hj).symm
   ·cases hj
  ·exact .inl hj
 refine ⟨fun j q hj=>?_,fun j k q1 q2 hj hk hjk he hl hs1 hs2=>?_,h.fr,fun j q hj he hs=>?_⟩;rotate_left 2
 ·rcases hget j q hj with h1 | rfl
  ·exact h.frx j q h1 he hs
  ·cases he
 ·rw [List.length_set];rcases hget j q hj with h1 | rfl
  ·exact h.obj j q h1
  ·trivial
 ·rcases hget j q1 hj with h1 | rfl
  ·rcases hget k q2 hk with h2 | rfl
   ·exact h.apart j k q1 q2 h1 h2 hjk he hl hs1 hs2
   ·cases hl
  ·cases he
theorem RelH.virt {φ:Nat->Loc3} {A:List AObj} {F H:Hp} (h:RelH φ A F H) (e:TypeId) (size:Nat):RelH (upd3 φ A.length ⟨0,0,0⟩) (A++[.row [] e size]) F H:=by
 have hlen:(A++[AObj.row [] e size]).length=A.length+1:=by simp
 have hget:∀ (i:Nat) o',(A++[AObj.row [] e size])[i]? =some o'->(i<A.length/\A[i]? =some o')\/(i=A.length/\o'=.row [] e size):=fun i o' hi=>by
  rcases mR i A.length with hlt | hge
  ·rw [lG hlt] at hi; exact .inl ⟨hlt,hi⟩
  ·rw [lO hge] at hi;have:i - A.length=0:=by
    have:=(lD.1 hi).1;simp at this;omega
   rw [this] at hi;simp at hi;exact .inr ⟨by omega,hi.symm⟩
 have hold:∀ i,i<A.length->upd3 φ A.length ⟨0,0,0⟩ i=φ i:=fun i hi=>by simp [upd3]; omega
 have hnew:upd3 φ A.length ⟨0,0,0⟩ A.length=⟨0,0,0⟩:=by simp [upd3]
 refine ⟨fun i o' hi=>?_,fun i j o1 o2 hi hj hij he hl hs1 hs2=>?_,h.fr,fun i o' hi he hs=>?_⟩
 ·rw [hlen];rcases hget i o' hi with ⟨hlt,hi'⟩ | ⟨rfl,rfl⟩
  ·rw [hold i hlt]; exact (h.obj i o' hi').mono (yw φ _ _) oQ (fun _ _=>rfl)
  ·rw [hnew]; exact ⟨fun _=>rfl,rfl,fun hc=>absurd hc sQ⟩
 ·rcases hget i o1 hi with ⟨hi1,hi'⟩ | ⟨rfl,rfl⟩
  ·rcases hget j o2 hj with ⟨hj1,hj'⟩ | ⟨rfl,rfl⟩
   ·rw [hold i hi1] at hs1 ⊢; rw [hold j hj1] at hs2 ⊢; exact h.apart i j o1 o2 hi' hj' hij he hl hs1 hs2
   ·rw [hnew] at hs2; exact absurd hs2 (by simp [sol])
  ·rw [hnew] at hs1; exact absurd hs1 (by simp [sol])
 ·rcases hget i o' hi with ⟨hlt,hi'⟩ | ⟨rfl,rfl⟩
  ·rw [hold i hlt] at hs ⊢; exact h.frx i o' hi' he hs
  ·rw [hnew] at hs; exact absurd hs (by simp [sol])
section
variable {P:Program} {H:Hp}
theorem za {α β:Type} (s:Sem α) (f:α->Sem β) (Q:β->Hp->Prop):wpS P s H (fun a H'=>wpS P (f a) H' Q)->wpS P (s >>= f) H Q:=yR s f H Q
theorem kb {α:Type} (a:α) (Q:α->Hp->Prop):wpS P (pure a) H Q=Q a H:=rfl
theorem zz {t:TypeId} {d:TypeDesc} (h:P.underlying t=some d) {Q:TypeDesc->Hp->Prop} (hq:Q d H):wpS P (underlying t) H Q:=by
 show wpS P (match P.underlying t with | some d=>pure d | none=>stuck "no such type") H Q
 rw [h]; exact hq
theorem kB {t:TypeId} {i:TypeInfo} (h:P.info? t=some i) {Q:TypeInfo->Hp->Prop} (hq:Q i H):wpS P (typeInfo t) H Q:=by
 show wpS P (match P.info? t with | some i=>pure i | none=>stuck "no such type") H Q
 rw [h]; exact hq
theorem yu {t:TypeId} {i:TypeInfo} (h:P.info? t=some i) {Q:Nat->Hp->Prop} (hq:Q i.size H):wpS P (sizeOf t) H Q:=by
 unfold sizeOf;exact za _ _ _ (kB h hq)
theorem kc {t:TypeId} {i:TypeInfo} {z:Value} (h:P.info? t=some i) (hz:i.zero=some z) {Q:Value->Hp->Prop} (hq:Q z H):wpS P (zeroValue t) H Q:=by
 unfold zeroValue;refine za _ _ _ (kB h ?_);rw [hz]; exact hq
def isAggD:TypeDesc->Bool | .struct _ | .array _ _=>true | _=>false
theorem vz {t:TypeId} {d:TypeDesc} (h:P.underlying t=some d) {Q:Bool->Hp->Prop} (hq:Q (isAggD d) H):wpS P (isAgg t) H Q:=by
 unfold isAgg;refine za _ _ _ (zz h ?_);cases d <;> exact hq
def tySize (P:Program) (t:TypeId):Option (Bool×Nat) :=
 match P.info? t,P.underlying t with
 | some i,some d=>some (isAggD d,i.size)
 | _,_=>none
theorem yK {t:TypeId} {g:Bool} {n:Nat} (h:tySize P t=some (g,n)):∃ i d,P.info? t=some i/\P.underlying t=some d/\isAggD d=g/\i.size=n:=by
 unfold tySize at h;split at h
 ·rename_i i d h1 h2; cases h; exact ⟨i,d,h1,h2,rfl,rfl⟩
 ·cases h
def tyZero (P:Program) (t:TypeId):Option (List Value):=(P.info? t).bind fun i=>i.zero.map fun z=>z.cells.toList
theorem uB {t:TypeId} {l:List Value} (h:tyZero P t=some l):∃ i z,P.info? t=some i/\i.zero=some z/\z.cells.toList=l:=by
 unfold tyZero at h;cases e:P.info? t with
 | none=>rw [e] at h; cases h
 | some i =>
  rw [e] at h;simp only [Option.bind_some] at h;cases e2:i.zero with
  | none=>rw [e2] at h; cases h
  | some z=>rw [e2] at h; cases h; exact ⟨i,z,rfl,e2,rfl⟩
def fieldOf (P:Program) (t:TypeId) (k:Nat):Option (Nat×Bool×Nat) :=
 match P.underlying t with
 | some (.struct fs)=>(fs[k]?).bind fun f=>(tySize P f.type).map fun (g,n)=>(f.offset,g,n)
 | _=>none
theorem zaL {t:TypeId} {k off n:Nat} {g:Bool} (h:fieldOf P t k=some (off,g,n)):∃ fs f,P.underlying t=some (.struct fs)/\fs[k]? =some f/\f.offset=off/\tySize P f.type=some (g,n):=by
 unfold fieldOf at h;split at h
 ·rename_i fs h1;cases e:fs[k]? with
  | none=>rw [e] at h; cases h
  | some f =>
   rw [e] at h;simp only [Option.bind_some] at h;cases e2:tySize P f.type with
   | none=>rw [e2] at h; cases h
   | some x =>
    obtain ⟨g',n'⟩:=x;rw [e2] at h;cases h;exact ⟨fs,f,h1,e,rfl,e2⟩
 ·cases h
def slElem (P:Program) (t:TypeId):Option (TypeId×Nat) :=
 match P.underlying t with
 | some (.slice e)=>(P.info? e).map fun i=>(e,i.size)
 | _=>none
theorem wl {t e:TypeId} {n:Nat} (h:slElem P t=some (e,n)):∃ i,P.underlying t=some (.slice e)/\P.info? e=some i/\i.size=n:=by
 unfold slElem at h;split at h
 ·rename_i e' h1;cases e2:P.info? e' with
  | none=>rw [e2] at h; cases h
  | some i=>rw [e2] at h; cases h; exact ⟨i,h1,e2,rfl⟩
 ·cases h
def arrElem (P:Program) (t:TypeId):Option (Nat×TypeId×Bool×Nat) :=
 match P.underlying t with
 | some (.array n e)=>(tySize P e).map fun (g,k)=>(n,e,g,k)
 | _=>none
theorem vQ {t e:TypeId} {n k:Nat} {g:Bool} (h:arrElem P t=some (n,e,g,k)):P.underlying t=some (.array n e)/\tySize P e=some (g,k):=by
 unfold arrElem at h;split at h
 ·rename_i n' e' h1;cases e2:tySize P e' with
  | none=>rw [e2] at h; cases h
  | some x=>obtain ⟨g',k'⟩:=x; rw [e2] at h; cases h; exact ⟨h1,e2⟩
 ·cases h
theorem ki (b off i:Nat):(⟨b,off,none⟩:Addr).add i=⟨b,off+i,none⟩:=by
 unfold Addr.add;split
 ·rename_i h; subst h; rfl
 ·rfl
theorem vG {b off:Nat} {rw':Bool} {cur:Array Value} {e:TypeId} {fz:Nat×Nat} (hb:H b=some (rw',.cells cur e fz)) {Q:Array Value->Hp->Prop} :
  ∀ (ys:List Value) (i:Nat) (acc:Array Value),(∀ (j:Nat) y,ys[j]? =some y->cur[off+(i+j)]? =some y)->Q (acc++ys.toArray) H->wpS P (loadCellsFrom ⟨b,off,none⟩ i ys.length acc) H Q
 | [],i,acc,_,hq=>by simpa [loadCellsFrom,kb] using hq
 | y::ys,i,acc,h,hq=>by
  show wpS P (loadCellsFrom ⟨b,off,none⟩ i (ys.length+1) acc) H Q;unfold loadCellsFrom;refine za _ _ _ ?_;refine ⟨rw',cur,e,fz,y,?_,?_,?_,?_⟩
  ·rw [ki]; exact hb
  ·rw [ki]
  ·rw [ki]; simpa using h 0 y rfl
  ·refine vG hb ys (i+1) (acc.push y) (fun j z hz=>?_) ?_
   ·have:=h (j+1) z hz;rwa [show off+(i+1+j)=off+(i+(j+1)) by omega]
   ·have e1:acc.push y++ys.toArray=acc++(y::ys).toArray:=by
     apply Array.ext';simp
    rw [e1]; exact hq
theorem wt {b off:Nat} {rw':Bool} {cur:Array Value} {e:TypeId} {fz:Nat×Nat} (hb:H b=some (rw',.cells cur e fz)) {Q:Array Value->Hp->Prop} (ys:List Value) (h:∀ (j:Nat) y,ys[j]? =some y->cur[off+j]? =some y) (hq:Q ys.toArray H) :
  wpS P (loadCells ⟨b,off,none⟩ ys.length) H Q:=by
 refine vG hb ys 0 #[] (fun j y hy=>by rw [mO]; exact h j y hy) ?_;rwa [mK]
def setCs (cur:Array Value) (off:Nat):List Value->Array Value
 | []=>cur
 | y::ys=>setCs (cur.setIfInBounds off y) (off+1) ys
theorem wS (off:Nat):∀ (ys:List Value) (cur:Array Value) ,(setCs cur off ys).size=cur.size:=by
 intro ys
 induction ys generalizing off with
 | nil=>intro cur; rfl
 | cons y ys ih=>intro cur; rw [setCs,ih,Array.size_setIfInBounds]
theorem up:∀ (ys:List Value) (cur:Array Value) (off j:Nat),off+ys.length<=cur.size->(setCs cur off ys)[j]? =if off<=j/\j<off+ys.length then ys[j - off]? else cur[j]? :=by
 intro ys
 induction ys with
 | nil=>intro cur off j _; simp [setCs]; omega
 | cons y ys ih =>
  intro cur off j h;rw [setCs,ih _ _ _ (by simp at h ⊢; omega)];simp only [lZ] at h ⊢;by_cases h1:off+1<=j/\j<off+1+ys.length
  ·rw [if_pos h1,if_pos oQ,show j - off=(j - (off+1))+1 by omega,List.getElem?_cons_succ]
  ·rw [if_neg h1];by_cases h2:j=off
   ·subst h2;rw [if_pos oQ,Nat.sub_self,List.getElem?_cons_zero,mF oQ]
   ·rw [if_neg oQ,mE (Ne.symm h2)]
theorem wg {b off:Nat} {e:TypeId} {Q:Unit->Hp->Prop} :
  ∀ (ys:List Value) (i:Nat) (cur:Array Value) (H:Hp),H b=some (true,.cells cur e (0,0))->off+i+ys.length<=cur.size->(∀ y∈ys,oneCell y=true) ->
   Q () (H.put b (true,.cells (setCs cur (off+i) ys) e (0,0)))->wpS P (storeCells ⟨b,off,none⟩ ys i) H Q
 | [],i,cur,H,hb,_,_,hq=>by
  have:H.put b (true,.cells (setCs cur (off+i) []) e (0,0))=H:=by
   funext c;unfold Hp.put;split
   ·rename_i h; rw [h,hb]; rfl
   ·rfl
  rw [this] at hq;exact hq
 | y::ys,i,cur,H,hb,hsz,h1,hq=>by
  unfold storeCells;refine za _ _ _ ?_;simp only [lZ] at hsz;refine ⟨h1 y sQ,cur,e,0,0,?_,?_,?_,?_,?_⟩
  ·rw [ki]; exact hb
  ·rw [ki]
  ·rw [ki]; show off+i<cur.size; omega
  ·simp
  ·rw [ki];refine wg ys (i+1) (cur.setIfInBounds (off+i) y) _ (Hp.put_same _ _ _) (by simp; omega) (fun z hz=>h1 z (by simp [hz])) ?_;rw [Hp.put_put];rw [setCs] at hq;rwa [show off+(i+1)=off+i+1 by omega]
end
def zI (gm:Nat->Option Nat) (env:List AV):Operand->AV
 | .tmp t=>env.getD t .any
 | .const v=>.v v
 | .global g=>match gm g with | some i=>.ptr i 0 | none=>.v (.pointer (some ⟨g,0,none⟩))
 | .func f=>.fn f [] []
theorem wv (φ:Nat->Loc3) (n:Nat):zT φ n [] #[]:=⟨rfl,fun j a y h=>by simp at h⟩
theorem zT.get {φ:Nat->Loc3} {n:Nat} {l:List AV} {ys:Array Value} (h:zT φ n l ys) {j:Nat} {a:AV} (ha:l[j]? =some a):∃ y,ys[j]? =some y/\RelV φ n a y:=by
 have hlt:j<ys.size:=by rw [<- h.1]; exact (lD.1 ha).1
 exact ⟨ys[j],mD hlt,h.2 j a _ ha (mD hlt)⟩
theorem zT.back {φ:Nat->Loc3} {n:Nat} {l:List AV} {ys:Array Value} (h:zT φ n l ys) {j:Nat} {y:Value} (hy:ys[j]? =some y):∃ a,l[j]? =some a/\RelV φ n a y:=by
 have hlt:j<l.length:=by rw [h.1]; exact (mG.1 hy).1
 exact ⟨l[j],lA hlt,h.2 j _ y (lA hlt) hy⟩
def RelG (gm:Nat->Option Nat) (φ:Nat->Loc3) (n:Nat):Prop:=∀ g i,gm g=some i->i<n/\(φ i).blk=g/\(φ i).base=0
theorem RelG.mono {gm:Nat->Option Nat} {φ φ':Nat->Loc3} {n n':Nat} (h:RelG gm φ n) (hA:Agr φ φ' n) (hn:n<=n'):RelG gm φ' n':=fun g i hi=>by
 obtain ⟨h1,h2,h3⟩:=h g i hi;rw [hA i h1];exact ⟨by omega,h2,h3⟩
theorem zu {gm:Nat->Option Nat} {φ:Nat->Loc3} {n:Nat} {env:List AV} {a:Act} (hg:RelG gm φ n) (h:zT φ n env a.tmps) (x:Operand):RelV φ n (zI gm env x) (a.eval x):=by
 cases x with
 | tmp t =>
  simp only [zI,Act.eval];cases e:env[t]? with
  | none=>rw [lE,e]; exact .any _
  | some v =>
   obtain ⟨y,hy,hr⟩:=h.get e;rw [lE,e,Array.getD_eq_getD_getElem?,hy];exact hr
 | const v=>exact .v v
 | global g =>
  simp only [zI,Act.eval];split
  ·rename_i i e;obtain ⟨h1,h2,h3⟩:=hg g i e;have:=RelV.ptr (φ:=φ) (off:=0) h1;rwa [h2,h3] at this
  ·exact .v _
 | func f=>exact .fn rfl (fun j a y h=>by simp at h) rfl (fun j a y h=>by simp at h)
theorem ua {gm:Nat->Option Nat} {φ:Nat->Loc3} {n:Nat} {env:List AV} {a:Act} (hg:RelG gm φ n) (h:zT φ n env a.tmps) (xs:Array Operand):zT φ n (xs.toList.map (zI gm env)) (xs.map a.eval):=by
 refine ⟨by simp,fun j u y hu hy=>?_⟩;rw [lQ] at hu;rw [mJ] at hy;rw [mI] at hu;cases e:xs[j]? with
 | none=>rw [e] at hu; cases hu
 | some x =>
  rw [e] at hu hy;cases hu; cases hy;exact zu hg h x
def putA (env:List AV) (d:Option Tmp) (r:AV):List AV:=match d with | some d=>env.set d r | none=>env
theorem wG {φ:Nat->Loc3} {n:Nat} {env:List AV} {a:Act} (h:zT φ n env a.tmps) {r:AV} {v:Value} (hr:RelV φ n r v) (d:Option Tmp):zT φ n (putA env d r) (a.put d v).tmps:=by
 cases d with
 | none=>exact h
 | some d =>
  simp only [putA,Act.put];refine ⟨by simp [h.1],fun j u y hu hy=>?_⟩;rw [lX] at hu;by_cases hj:d=j
  ·subst hj;rw [if_pos rfl] at hu;split at hu
   ·rename_i hlt;cases hu;rw [mF (by rw [<- h.1]; exact hlt)] at hy;cases hy;exact hr
   ·cases hu
  ·rw [if_neg hj] at hu;rw [mE hj] at hy;exact h.2 j u y hu hy
def toVs:List AV->Option (List Value)
 | []=>some []
 | .v x::l=>match toVs l with | some zs=>some (x::zs) | none=>none
 | _::_=>none
def toV:AV->Option Value
 | .v x=>some x
 | .agg l=>match toVs l with | some zs=>some (.agg zs.toArray) | none=>none
 | _=>none
theorem zf6:∀ {l:List AV} {zs:List Value},toVs l=some zs->l=zs.map AV.v
 | [],zs,h=>by cases h; rfl
 | .v x::l,zs,h=>by
  simp only [toVs] at h;split at h
  ·rename_i zs' e;cases h;rw [zf6 e];rfl
  ·cases h
 | .ptr _ _::_,_,h=>by cases h
 | .sl _ _ _::_,_,h=>by cases h
 | .row _ _::_,_,h=>by cases h
 | .agg _::_,_,h=>by cases h
 | .tup _::_,_,h=>by cases h
 | .fn _ _ _::_,_,h=>by cases h
 | .e0::_,_,h=>by cases h
 | .z0::_,_,h=>by cases h
 | .map _::_,_,h=>by cases h
 | .yl _::_,_,h=>by cases h
 | .chan _::_,_,h=>by cases h
 | .any::_,_,h=>by cases h
theorem vP {φ:Nat->Loc3} {n:Nat} {a:AV} {x y:Value} (h:toV a=some x) (hr:RelV φ n a y):y=x:=by
 cases hr with
 | v z=>cases h; rfl
 | @agg l ys hl hrel =>
  simp only [toV] at h;split at h
  ·rename_i zs e;cases h;congr 1;have hm:=zf6 e;subst hm;apply Array.ext_getElem?;intro j;by_cases hj:j<ys.size
   ·have hjz:j<zs.length:=by rw [lJ] at hl; omega
    have h3:=hrel j (.v zs[j]) ys[j] (by simp [hjz]) (mD hj);rw [mD hj];simp only [List.getElem?_toArray,lA hjz];generalize ys[j]=q at h3 ⊢;generalize zs[j]=p at h3 ⊢;cases h3;rfl
   ·rw [lJ] at hl;rw [Array.getElem?_eq_none oQ];simp only [List.getElem?_toArray];rw [List.getElem?_eq_none oQ]
  ·cases h
 | _=>cases h
def zO {α:Type} (P:Program):Sem α->Option α
 | .pure a=>some a
 | .program k=>zO P (k P)
 | _=>none
theorem kv {α:Type} {P:Program} (s:Sem α):∀ {a:α} {H:Hp} {Q:α->Hp->Prop},zO P s=some a->Q a H->wpS P s H Q:=by
 induction s with
 | pure b=>intro a H Q h hq; cases h; exact hq
 | program k ih=>intro a H Q h hq; exact ih P h hq
 | _=>intro a H Q h; cases h
def cellsA:AV->Option (List AV)
 | .any=>none
 | .tup _=>none
 | .agg l=>some l
 | .v (.agg ys)=>some (ys.toList.map .v)
 | .v (.tuple _)=>none
 | a=>some [a]
theorem y6 {φ:Nat->Loc3} {n:Nat} {a:AV} {y:Value} (h:RelV φ n a y):zT φ n [a] #[y]:=⟨rfl,fun j u z hu hz=>by
 cases j with
 | zero=>simp at hu hz; subst hu hz; exact h
 | succ j=>simp at hu⟩
theorem zdr (φ:Nat->Loc3) (n:Nat) (ys:Array Value):zT φ n (ys.toList.map .v) ys:=⟨by simp,fun j u z hu hz=>by
 rw [lQ,mI,hz] at hu;cases hu;exact .v z⟩
theorem zcX {loc:Loc3} {len:Nat} {y:Value} (h:rowV loc len y):∃ b n c,y=.slice b n c:=by
 unfold rowV at h;split at h
 ·obtain ⟨b,e⟩:=h; exact ⟨_,_,_,e⟩
 ·exact ⟨_,_,_,h⟩
theorem zch {loc:Loc3} {len:Nat} {y:Value} (hl:len<=loc.cap) (h:rowV loc len y):∃ b c,y=.slice b len c:=by
 unfold rowV at h;split at h
 ·obtain ⟨b,e⟩:=h;obtain rfl:len=0:=by omega
  exact ⟨_,_,e⟩
 ·exact ⟨_,_,h⟩
theorem zam {loc:Loc3} {len:Nat} {y:Value} (hc:0<loc.cap) (h:rowV loc len y):y=.slice (some ⟨loc.blk,0,none⟩) len loc.cap:=by
 unfold rowV at h;rwa [if_neg oQ] at h
theorem uO {φ:Nat->Loc3} {n:Nat} {a:AV} {l:List AV} {y:Value} (h:cellsA a=some l) (hr:RelV φ n a y):zT φ n l y.cells:=by
 cases hr with
 | any=>cases h
 | tup=>cases h
 | agg h1 h2=>cases h; exact ⟨h1,h2⟩
 | v =>
  cases y <;> first
   | (cases h; exact y6 (.v _))
   | (cases h; exact zdr φ n _)
   | (cases h)
 | ptr hi=>cases h; exact y6 (.ptr hi)
 | sl hi hl hb=>cases h; exact y6 (.sl hi hl hb)
 | row hi hl hv =>
  cases h;obtain ⟨b,n,c,rfl⟩:=zcX hv;exact y6 (.row hi hl hv)
 | fn h1 h2 h3 h4=>cases h; exact y6 (.fn h1 h2 h3 h4)
 | e0 a c=>cases h; exact y6 (.e0 a c)
 | z0 a=>cases h; exact y6 (.z0 a)
 | map hi=>cases h; exact y6 (.map hi)
 | yl hi=>cases h; exact y6 (.yl hi)
 | chan hi=>cases h; exact y6 (.chan hi)
def oneA:AV->Bool
 | .v x=>oneCell x
 | .ptr .. | .sl .. | .row .. | .fn .. | .e0 | .z0 | .map _ | .yl _ | .chan _=>true
 | _=>false
theorem zfL {φ:Nat->Loc3} {n:Nat} {a:AV} {y:Value} (h:oneA a=true) (hr:RelV φ n a y):oneCell y=true:=by
 cases hr with
 | row hi hl hv=>obtain ⟨b,n,c,rfl⟩:=zcX hv; rfl
 | v=>exact h
 | any=>cases h
 | tup=>cases h
 | agg=>cases h
 | _=>rfl
def AObj.look:AObj->Option (List AV)
 | .cells l _ _=>some l
 | .row l _ _=>some l
 | .raw _=>none
 | .loop .. => none
 | .gone=>none
theorem RelO.look {φ:Nat->Loc3} {n:Nat} {loc:Loc3} {H:Hp} {o:AObj} {l:List AV} (h:RelO φ n loc H o) (hl:o.look=some l) (hpos:0<l.length) :
  ∃ rw' cur e fz,H loc.blk=some (rw',.cells cur e fz)/\∀ (j:Nat) a,l[j]? =some a->∃ y,cur[loc.base+j]? =some y/\RelV φ n a y:=by
 cases o with
 | cells l' e rw'=>cases hl; obtain ⟨rw'',cur,fz,h1,_,h3⟩:=h (by intro e; rw [e] at hpos; simp at hpos); exact ⟨_,_,_,_,h1,h3⟩
 | row l' e size =>
  cases hl;obtain ⟨h0,h2,h⟩:=h;have hc:0<loc.cap:=by
   rcases mP loc.cap with e | e
   ·rw [h0 e] at hpos; simp at hpos
   ·exact e
  obtain ⟨cur,h1,_,_,_,h6⟩:=h hc;exact ⟨_,_,_,_,h1,fun j a ha=>by rw [h2,mO]; exact h6 j a ha⟩
 | raw o=>cases hl
 | loop f env ps x y st pj=>cases hl
 | gone=>cases hl
def loadA (A:List AObj) (i off n:Nat):Option (List AV) :=
 match A[i]? with
 | some o=>match o.look with
  | some l=>if 0<n/\off+n<=l.length then some ((l.drop off).take n) else none
  | none=>none
 | none=>none
theorem vt {φ:Nat->Loc3} {A:List AObj} {F H:Hp} {i off n:Nat} {l:List AV} (hH:RelH φ A F H) (h:loadA A i off n=some l) :
  l.length=n/\∃ (rw':Bool) (cur:Array Value) (e:TypeId) (fz:Nat×Nat) (ys:List Value),H (φ i).blk=some (rw',.cells cur e fz)/\ys.length=n/\zT φ A.length l ys.toArray/\∀ (j:Nat) y,ys[j]? =some y->cur[(φ i).base+off+j]? =some y:=by
 unfold loadA at h;split at h
 ·rename_i o ho;split at h
  ·rename_i l' hl';split at h
   ·rename_i hle;obtain ⟨hn0,hle⟩:=hle;cases h;obtain ⟨rw',cur,e,fz,h1,h2⟩:=(hH.obj i o ho).look hl' oQ;have hlen:((l'.drop off).take n).length=n:=by simp; omega
    refine ⟨hlen,rw',cur,e,fz,(List.range n).map fun j=>(cur[(φ i).base+off+j]?).getD undef,h1,by simp,⟨by simp; omega,fun j a y ha hy=>?_⟩,fun j y hy=>?_⟩
    ·have hj:j<n:=by rw [<- hlen]; exact (lD.1 ha).1
     rw [List.getElem?_take,if_pos hj,List.getElem?_drop] at ha;obtain ⟨z,hz,hr⟩:=h2 (off+j) a ha;simp only [List.getElem?_toArray,lQ,List.getElem?_range hj,Option.map_some,Option.some.injEq] at hy;rw [show (φ i).base+off+j=(φ i).base+(off+j) by omega,hz] at hy;cases hy; exact hr
    ·have hj:j<n:=by have:=(lD.1 hy).1; simpa using this
     rw [lQ,List.getElem?_range hj] at hy;have hlt:off+j<l'.length:=by omega
     obtain ⟨z,hz,_⟩:=h2 (off+j) l'[off+j] (lA hlt);simp only [Option.map_some,Option.some.injEq] at hy;rw [show (φ i).base+off+j=(φ i).base+(off+j) by omega] at hy ⊢;rw [hz] at hy ⊢;exact congrArg some hy
   ·cases h
  ·cases h
 ·cases h
def setL (l:List AV) (off:Nat):List AV->List AV
 | []=>l
 | v::vs=>setL (l.set off v) (off+1) vs
theorem uy (off:Nat):∀ (vs l:List AV),(setL l off vs).length=l.length:=by
 intro vs
 induction vs generalizing off with
 | nil=>intro l; rfl
 | cons v vs ih=>intro l; rw [setL,ih,List.length_set]
theorem zcl:∀ (vs l:List AV) (off j:Nat),off+vs.length<=l.length->(setL l off vs)[j]? =if off<=j/\j<off+vs.length then vs[j - off]? else l[j]? :=by
 intro vs
 induction vs with
 | nil=>intro l off j _; simp [setL]; omega
 | cons y ys ih =>
  intro l off j h;rw [setL,ih _ _ _ (by simp at h ⊢; omega)];simp only [lZ] at h ⊢;by_cases h1:off+1<=j/\j<off+1+ys.length
  ·rw [if_pos h1,if_pos oQ,show j - off=(j - (off+1))+1 by omega,List.getElem?_cons_succ]
  ·rw [if_neg h1];by_cases h2:j=off
   ·subst h2;rw [if_pos oQ,Nat.sub_self,List.getElem?_cons_zero,List.getElem?_set_self oQ]
   ·rw [if_neg oQ,List.getElem?_set_ne (Ne.symm h2)]
def storeA (A:List AObj) (i off:Nat) (vs:List AV):Option (List AObj) :=
 match A[i]? with
 | some (.cells l e true)=>if off+vs.length<=l.length/\0<vs.length/\vs.all oneA=true then some (A.set i (.cells (setL l off vs) e true)) else none
 | some (.row l e size)=>if off+vs.length<=l.length/\0<vs.length/\vs.all oneA=true then some (A.set i (.row (setL l off vs) e size)) else none
 | _=>none
theorem zjX {P:Program} {φ:Nat->Loc3} {A A':List AObj} {F H:Hp} {i off:Nat} {vs:List AV} {ys:Array Value} (hH:RelH φ A F H) (h:storeA A i off vs=some A') (hr:zT φ A.length vs ys) {Q:Unit->Hp->Prop}
  (hq:∀ H',RelH φ A' F H'->A'.length=A.length->Q () H'):wpS P (storeCells ⟨(φ i).blk,(φ i).base+off,none⟩ ys.toList) H Q:=by
 have hone:vs.all oneA=true->∀ y∈ys.toList,oneCell y=true:=fun hall y hy=>by
  obtain ⟨j,hj⟩:=List.mem_iff_getElem?.1 hy;rw [mI] at hj;obtain ⟨a,ha,hra⟩:=hr.back hj;exact zfL (List.all_eq_true.1 hall a (lN ha)) hra
 have hsz:ys.toList.length=vs.length:=by rw [Array.length_toList]; exact hr.1.symm
 unfold storeA at h;split at h
 ·rename_i l e ho;split at h
  ·rename_i hc;cases h;have hne:l≠[]:=by
    intro e;have h1:=hc.1;have h2:=hc.2.1;rw [e,List.length_nil] at h1;omega
   obtain ⟨rw',cur,fz,h1,h2,h3⟩:=hH.obj i _ ho hne;obtain ⟨rfl,rfl⟩:=h2 rfl;have hcur:(φ i).base+l.length<=cur.size:=by
    obtain ⟨y,hy,_⟩:=h3 (l.length - 1) l[l.length - 1] (lA oQ);have:=(mG.1 hy).1;omega
   refine wg ys.toList 0 cur H h1 oQ (hone hc.2.2) (hq _ ?_ sQ);refine hH.set (o:=.cells l e true) ho Z hne ?_;refine fun _=>⟨true,_,_,Hp.put_same _ _ _,fun _=>⟨rfl,rfl⟩,fun j a ha=>?_⟩;rw [zcl _ _ _ _ hc.1] at ha;rw [Nat.add_zero,up _ _ _ _ oQ];by_cases hj:off<=j/\j<off+vs.length
   ·rw [if_pos hj] at ha;rw [if_pos oQ];obtain ⟨y,hy,hra⟩:=hr.get ha;refine ⟨y,?_,hra⟩;rw [mI,show (φ i).base+j - ((φ i).base+off)=j - off by omega];exact hy
   ·rw [if_neg hj] at ha;rw [if_neg oQ];exact h3 j a ha
  ·cases h
 ·rename_i l e size ho;split at h
  ·rename_i hc;cases h;obtain ⟨h0,h2,hrow⟩:=hH.obj i _ ho;have hcap:0<(φ i).cap:=by
    rcases mP (φ i).cap with e | e
    ·have hc1:=hc.1;rw [h0 e,List.length_nil] at hc1;have:=hc.2.1;omega
    ·exact e
   obtain ⟨cur,h1,h3,h4,h5,h6⟩:=hrow hcap;refine wg ys.toList 0 cur H h1 oQ (hone hc.2.2) (hq _ ?_ sQ);refine hH.set (o:=.row l e size) ho Z hcap ?_;refine ⟨fun e=>absurd e oQ,h2,fun _=>⟨_,Hp.put_same _ _ _,by rw [wS]; exact h3,h4,by rw [uy,wS]; exact h5,fun j a ha=>?_⟩⟩;rw [zcl _ _ _ _ hc.1] at ha;rw [Nat.add_zero,up _ _ _ _ oQ,h2,mO];by_cases hj:off<=j/\j<off+vs.length
   ·rw [if_pos hj] at ha;rw [if_pos oQ];obtain ⟨y,hy,hra⟩:=hr.get ha;refine ⟨y,?_,hra⟩;rw [mI];exact hy
   ·rw [if_neg hj] at ha;rw [if_neg oQ];exact h6 j a ha
  ·cases h
 ·cases h
def zW (φ:Nat->Loc3) (A:List AObj) (F:Hp) (r:AV) (A':List AObj) (nx:Next) (H':Hp):Prop :=
 ∃ v φ',(nx=.value v\/(nx=.skip/\v=undef))/\Agr φ φ' A.length/\A.length<=A'.length/\RelH φ' A' F H'/\RelV φ' A'.length r v
section
variable {P:Program} {gm:Nat->Option Nat} {φ:Nat->Loc3} {A A':List AObj} {F H:Hp} {env:List AV} {a:Act} {o:Oper} {r:AV}
theorem zW.quiet (hH:RelH φ A F H) {v:Value} (hv:RelV φ A.length r v):zW φ A F r A (.value v) H:=⟨v,φ,.inl rfl,Agr.refl _ _,mL _,hH,hv⟩
theorem wC {n i off:Nat} {y:Value} (h:RelV φ n (.ptr i off) y):i<n/\y=.pointer (some ⟨(φ i).blk,(φ i).base+off,none⟩):=by cases h; exact ⟨‹_›,rfl⟩
theorem zfs {n i off len:Nat} {y:Value} (h:RelV φ n (.sl i off len) y):i<n/\∃ cap b,len<=cap/\(0<len->b=some ⟨(φ i).blk,(φ i).base+off,none⟩)/\y=.slice b len cap:=by cases h; exact ⟨‹_›,_,_,‹_›,‹_›,rfl⟩
theorem uI {n i len:Nat} {y:Value} (h:RelV φ n (.row i len) y):i<n/\len<=(φ i).cap/\rowV (φ i) len y:=by cases h; exact ⟨‹_›,‹_›,‹_›⟩
theorem zmG {n:Nat} {y:Value} (h:RelV φ n .z0 y):∃ b,y=.slice (some b) 0 0:=by cases h; exact ⟨_,rfl⟩
theorem inv_v {n:Nat} {x y:Value} (h:RelV φ n (.v x) y):y=x:=by cases h; rfl
theorem zlD {n:Nat} {l:List AV} {y:Value} (h:RelV φ n (.tup l) y):∃ ys,y=.tuple ys/\zT φ n l ys:=by cases h; exact ⟨_,rfl,‹_›,‹_›⟩
theorem zbi {n:Nat} {l:List AV} {y:Value} (h:RelV φ n (.agg l) y):∃ ys,y=.agg ys/\zT φ n l ys:=by cases h; exact ⟨_,rfl,‹_›,‹_›⟩
theorem zaQ {n:Nat} {f:FuncId} {fs cs:List AV} {y:Value} (h:RelV φ n (.fn f fs cs) y):∃ xs ys,y=.func (.func f) xs ys/\zT φ n fs xs/\zT φ n cs ys:=by cases h; exact ⟨_,_,rfl,⟨‹_›,‹_›⟩,‹_›,‹_›⟩
def OpOk (P:Program) (gm:Nat->Option Nat) (env:List AV) (A:List AObj) (o:Oper) (r:AV) (A':List AObj):Prop :=
 ∀ (φ:Nat->Loc3) (F H:Hp) (a:Act),RelG gm φ A.length->RelH φ A F H->zT φ A.length env a.tmps->wpS P (execOp a.eval o) H (zW φ A F r A')
theorem wpS_v {s:Sem Value} {Q:Next->Hp->Prop} (h:wpS P s H (fun v H'=>Q (.value v) H')):wpS P (do pure (Next.value (<- s))) H Q:=za _ _ _ h
theorem wpS_u {s:Sem Unit} {Q:Next->Hp->Prop} (h:wpS P s H (fun _ H'=>Q .skip H')):wpS P (do s; pure Next.skip) H Q:=za _ _ _ h
theorem zlT {x:Operand} (ho:o.op=.move x):OpOk P gm env A o (zI gm env x) A:=fun φ F H a hg hH hE=>by
 unfold execOp; rw [ho]; exact zW.quiet hH (zu hg hE x)
theorem zi4 {x:Operand} (ho:o.op=.assign x):OpOk P gm env A o (zI gm env x) A:=fun φ F H a hg hH hE=>by
 unfold execOp; rw [ho]; exact zW.quiet hH (zu hg hE x)
def pickA (t:Bool):AV->AV->AV
 | .v (.bool x),.v (.bool y)=>.v (.bool (bif t then x else y))
 | .v x,.v y=>.v (bif t then x else y)
 | x,y=>bif t then x else y
theorem zjb {n:Nat} {t:Bool} {x y:AV} {u v:Value} (hx:RelV φ n x u) (hy:RelV φ n y v):RelV φ n (pickA t x y) (if t then u else v):=by
 unfold pickA;split
 ·cases hx; cases hy;cases t <;> exact .v _
 ·cases hx; cases hy;cases t <;> exact .v _
 ·cases t
  ·exact hy
  ·exact hx
theorem zlU {c x y:Operand} {t:Bool} (ho:o.op=.pick c x y) (hc:zI gm env c=.v (.bool t)):OpOk P gm env A o (pickA t (zI gm env x) (zI gm env y)) A:=fun φ F H a hg hH hE=>by
 unfold execOp; rw [ho];have h1:=zu hg hE c;rw [hc] at h1;simp only [inv_v h1];exact zW.quiet hH (zjb (zu hg hE x) (zu hg hE y))
theorem wj {op:BinOp} {t yt:TypeId} {x y:Operand} {u v z:Value} (ho:o.op=.binOp op t x y yt) (hx:toV (zI gm env x)=some u) (hy:toV (zI gm env y)=some v)
  (h:zO P (eqGuard op t x y u v >>= fun _=>binOp op t u v)=some z):OpOk P gm env A o (.v z) A:=fun φ F H a hg hH hE=>by
 unfold execOp; rw [ho]; dsimp only;rw [vP hx (zu hg hE x),vP hy (zu hg hE y)];exact wpS_v (kv _ h (zW.quiet hH (.v z)))
theorem ok_un {op:UnOp} {t:TypeId} {x:Operand} {u z:Value} (ho:o.op=.unOp op t x) (hx:toV (zI gm env x)=some u) (h:zO P (Op.unary op u)=some z):OpOk P gm env A o (.v z) A:=fun φ F H a hg hH hE=>by
 unfold execOp; rw [ho]; dsimp only;rw [vP hx (zu hg hE x)];exact wpS_v (kv _ h (zW.quiet hH (.v z)))
theorem zhP {s d:TypeId} {x:Operand} {u z:Value} (ho:o.op=.convert s d x) (hx:toV (zI gm env x)=some u) (h:zO P (convert s d u)=some z):OpOk P gm env A o (.v z) A:=fun φ F H a hg hH hE=>by
 unfold execOp; rw [ho]; dsimp only;rw [vP hx (zu hg hE x)];exact wpS_v (kv _ h (zW.quiet hH (.v z)))
theorem zhQ {x:Operand} {k:Nat} {l:List AV} (ho:o.op=.extract x k) (hx:zI gm env x=.tup l) (h:l[k]? =some r):OpOk P gm env A o r A:=fun φ F H a hg hH hE=>by
 unfold execOp; rw [ho];have h1:=zu hg hE x;rw [hx] at h1;obtain ⟨ys,e,hrel⟩:=zlD h1;obtain ⟨y,hy,hr⟩:=hrel.get h;dsimp only;simp only [e,Instr.extract,hy];exact zW.quiet hH hr
theorem zfF {t:TypeId} {x:Operand} {k i off d n:Nat} {g:Bool} (ho:o.op=.fieldAddr t x k) (hx:zI gm env x=.ptr i off) (hf:fieldOf P t k=some (d,g,n)) (hn:n≠0):OpOk P gm env A o (.ptr i (off+d)) A:=fun φ F H a hg hH hE=>by
 unfold execOp; rw [ho];have h1:=zu hg hE x;rw [hx] at h1;obtain ⟨fs,f,e1,e2,e3,e4⟩:=zaL hf;obtain ⟨ti,td,e5,_,_,e6⟩:=yK e4;obtain ⟨hi,e⟩:=wC h1;dsimp only;rw [e];refine wpS_v ?_;unfold Instr.fieldAt;refine za _ _ _ (zz e1 ?_);simp only [e2];refine za _ _ _ ?_;refine za _ _ _ ?_;unfold fieldPlace;refine za _ _ _ (yu e5 ?_);rw [e6,if_neg hn];show zW φ A F (.ptr i (off+d)) A (.value (.pointer (some (Addr.add _ f.offset)))) H;rw [ki,e3,Nat.add_assoc];exact zW.quiet hH (.ptr hi)
theorem zlS {t:TypeId} {x:Operand} {i off n:Nat} {l:List AV} (ho:o.op=.load t x) (hx:zI gm env x=.ptr i off) (ht:tySize P t=some (true,n)) (hl:loadA A i off n=some l):OpOk P gm env A o (.agg l) A:=fun φ F H a hg hH hE=>by
 unfold execOp; rw [ho];have h1:=zu hg hE x;rw [hx] at h1;obtain ⟨ti,td,e5,e7,e8,e6⟩:=yK ht;obtain ⟨_,rw',cur,e,fz,ys,hb,hn,hr,hc⟩:=vt hH hl;obtain ⟨hi,ez⟩:=wC h1;dsimp only;rw [ez]
 ·refine wpS_v ?_;unfold Instr.loadAt;show wpS P (loadVar t _) H _;unfold loadVar;refine za _ _ _ (vz e7 ?_);rw [e8,if_pos rfl];refine za _ _ _ (yu e5 ?_);rw [e6,<- hn];refine za _ _ _ (wt hb ys hc ?_);exact zW.quiet hH (.agg hr.1 hr.2)
theorem zkN {t:TypeId} {x:Operand} {i off n:Nat} (ho:o.op=.load t x) (hx:zI gm env x=.ptr i off) (ht:tySize P t=some (false,n)) (hl:loadA A i off 1=some [r]):OpOk P gm env A o r A:=fun φ F H a hg hH hE=>by
 unfold execOp; rw [ho];have h1:=zu hg hE x;rw [hx] at h1;obtain ⟨ti,td,e5,e7,e8,e6⟩:=yK ht;obtain ⟨_,rw',cur,e,fz,ys,hb,hn,hr,hc⟩:=vt hH hl;obtain ⟨hi,ez⟩:=wC h1;dsimp only;rw [ez]
 ·refine wpS_v ?_;unfold Instr.loadAt;show wpS P (loadVar t _) H _;unfold loadVar;refine za _ _ _ (vz e7 ?_);rw [e8,if_neg sQ];obtain ⟨y,rfl⟩:∃ y,ys=[y]:=by
   cases ys with
   | nil=>simp at hn
   | cons y ys=>cases ys with
    | nil=>exact ⟨y,rfl⟩
    | cons z zs=>simp at hn
  exact ⟨rw',cur,e,fz,y,hb,rfl,hc 0 y rfl,zW.quiet hH (hr.2 0 r y rfl rfl)⟩
theorem zkO {t:TypeId} {x y:Operand} {i off n:Nat} {g:Bool} {vs:List AV} (ho:o.op=.store t x y) (hx:zI gm env x=.ptr i off) (ht:tySize P t=some (g,n)) (hy:cellsA (zI gm env y)=some vs) (hn:vs.length=n) (hs:storeA A i off vs=some A') :
  OpOk P gm env A o .any A':=fun φ F H a hg hH hE=>by
 unfold execOp; rw [ho];have h1:=zu hg hE x;rw [hx] at h1;obtain ⟨ti,td,e5,e7,e8,e6⟩:=yK ht;have hr:=uO hy (zu hg hE y);obtain ⟨hi,ez⟩:=wC h1;dsimp only;rw [ez]
 ·refine wpS_u ?_;unfold Instr.storeAt;show wpS P (storeVar t _ (a.eval y)) H _;unfold storeVar;refine za _ _ _ (yu e5 ?_);rw [if_neg (by rw [e6,<- hn,<- hr.1]; simp)];show wpS P (storeCells _ (a.eval y).cells.toList) H _;refine zjX hH hs hr fun H' hH' hlen=>⟨undef,φ,.inr ⟨rfl,rfl⟩,Agr.refl _ _,oQ,hH',.any _⟩
theorem zi6 {s:Sem Value} (l:List AV) (t:TypeId) (hs:∀ (φ:Nat->Loc3) (F H:Hp) (a:Act),RelG gm φ A.length->RelH φ A F H->zT φ A.length env a.tmps->∃ ys:Array Value,zT φ A.length l ys/\∀ Q:Next->Hp->Prop,(wpS P (newRow t ys) H (fun x H'=>Q (.value (.pointer (some x))) H'))->wpS P (execOp a.eval o) H Q) :
  OpOk P gm env A o (.ptr A.length 0) (A++[.cells l t true]):=fun φ F H a hg hH hE=>by
 obtain ⟨ys,hr,hq⟩:=hs φ F H a hg hH hE;refine hq _ ?_;unfold newRow;refine za _ _ _ fun b hb=>?_;show zW φ A F (.ptr A.length 0) (A++[.cells l t true]) (.value (.pointer (some ⟨b,0,none⟩))) (H.put b (true,.cells ys t (0,0)));refine ⟨_,upd3 φ A.length ⟨b,0,0⟩,.inl rfl,yw _ _ _,by simp,hH.push hb Z ?_,?_⟩
 ·refine fun _=>⟨true,ys,_,Hp.put_same _ _ _,fun _=>⟨rfl,rfl⟩,fun j u hu=>?_⟩;obtain ⟨y,hy,hr'⟩:=hr.get hu;exact ⟨y,by rw [mO]; exact hy,hr'.mono (yw _ _ _) oQ⟩
 ·have:=RelV.ptr (φ:=upd3 φ A.length ⟨b,0,0⟩) (n:=(A++[AObj.cells l t true]).length) (i:=A.length) (off:=0) sQ;simpa [upd3] using this
theorem zkJ {t:TypeId} {z:List Value} (ho:o.op=.alloc t) (hz:tyZero P t=some z):OpOk P gm env A o (.ptr A.length 0) (A++[.cells (z.map .v) t true]):=by
 obtain ⟨i,zv,e1,e2,e3⟩:=uB hz;refine zi6 (s:=pure undef) _ t fun φ F H a hg hH hE=>⟨zv.cells,?_,fun Q hq=>?_⟩
 ·rw [<- e3]; exact zdr φ _ _
 ·unfold execOp; rw [ho];refine wpS_v ?_;unfold Instr.alloc;refine za _ _ _ (kc e1 e2 ?_);exact za _ _ _ hq
theorem zmO {t:TypeId} {x:Operand} {l:List AV} (ho:o.op=.box t x) (hx:cellsA (zI gm env x)=some l):OpOk P gm env A o (.ptr A.length 0) (A++[.cells l t true]):=by
 refine zi6 (s:=pure undef) _ t fun φ F H a hg hH hE=>⟨(a.eval x).cells,uO hx (zu hg hE x),fun Q hq=>?_⟩;unfold execOp; rw [ho];refine wpS_v ?_;unfold Instr.box;exact za _ _ _ hq
theorem zgr {f:FuncId} {fs cs:Array Operand} (ho:o.op=.makeFunc (.func f) fs cs):OpOk P gm env A o (.fn f (fs.toList.map (zI gm env)) (cs.toList.map (zI gm env))) A:=fun φ F H a hg hH hE=>by
 unfold execOp; rw [ho];have h1:=ua hg hE fs;have h2:=ua hg hE cs;exact zW.quiet hH (.fn h1.1 h1.2 h2.1 h2.2)
theorem zgq {t e:TypeId} {x y:Operand} {k:IntKind} {n:Int} {i off len size:Nat} (ho:o.op=.indexAddr t x y) (hx:zI gm env x=.sl i off len) (hy:zI gm env y=.v (.int k n)) (ht:slElem P t=some (e,size)) (h0:0<=n) (h1:n<len) :
  OpOk P gm env A o (.ptr i (off+n.toNat*size)) A:=fun φ F H a hg hH hE=>by
 unfold execOp; rw [ho];have hx':=zu hg hE x;have hy':=zu hg hE y;rw [hx] at hx';rw [hy] at hy';obtain ⟨ti,e1,e2,e3⟩:=wl ht;obtain ⟨hi,cap,b,hl,hb,ez⟩:=zfs hx';obtain rfl:=hb oQ;dsimp only;rw [inv_v hy',ez]
 ·refine wpS_v ?_;unfold Instr.indexAt;refine za _ _ _ ?_;refine za _ _ _ (zz e1 ?_);refine za _ _ _ ?_;refine za _ _ _ (zz e1 ?_);simp only [Bool.and_false];rw [if_pos ⟨h0,h1⟩];refine za _ _ _ (yu e2 ?_);show zW φ A F _ A (.value (.pointer (some (Addr.add _ (n.toNat*ti.size))))) H;rw [ki,e3,Nat.add_assoc];exact zW.quiet hH (.ptr hi)
end
section
variable {P:Program} {gm:Nat->Option Nat} {φ:Nat->Loc3} {A A':List AObj} {F H:Hp} {env:List AV} {a:Act} {o:Oper} {r:AV}
theorem zfH {t e:TypeId} {x y:Operand} {k:IntKind} {n:Int} {i len size:Nat} (ho:o.op=.indexAddr t x y) (hx:zI gm env x=.row i len) (hy:zI gm env y=.v (.int k n)) (ht:slElem P t=some (e,size)) (h0:0<=n) (h1:n<len)
  {l:List AV} {e':TypeId} {s':Nat} (hrow:A[i]? =some (.row l e' s')):OpOk P gm env A o (.ptr i (n.toNat*size)) A:=fun φ F H a hg hH hE=>by
 unfold execOp; rw [ho];have hx':=zu hg hE x;have hy':=zu hg hE y;rw [hx] at hx';rw [hy] at hy';obtain ⟨ti,e1,e2,e3⟩:=wl ht;obtain ⟨hi,hl,ez⟩:=uI hx';obtain ⟨_,hbase,_⟩:=hH.obj i _ hrow
 replace ez:=zam oQ ez
 dsimp only;rw [inv_v hy',ez];refine wpS_v ?_;unfold Instr.indexAt;refine za _ _ _ ?_;refine za _ _ _ (zz e1 ?_);refine za _ _ _ ?_;refine za _ _ _ (zz e1 ?_);simp only [Bool.and_false];rw [if_pos ⟨h0,h1⟩];refine za _ _ _ (yu e2 ?_);show zW φ A F _ A (.value (.pointer (some (Addr.add _ (n.toNat*ti.size))))) H;rw [ki,e3,mO];have:=RelV.ptr (φ:=φ) (n:=A.length) (off:=n.toNat*size) hi;rw [hbase,mO] at this;exact zW.quiet hH this
theorem zfG {t e:TypeId} {x y:Operand} {k:IntKind} {n:Int} {i off len size:Nat} {g:Bool} (ho:o.op=.indexAddr t x y) (hx:zI gm env x=.ptr i off) (hy:zI gm env y=.v (.int k n)) (ht:arrElem P t=some (len,e,g,size)) (h0:0<=n) (h1:n<len) :
  OpOk P gm env A o (.ptr i (off+n.toNat*size)) A:=fun φ F H a hg hH hE=>by
 unfold execOp; rw [ho];have hx':=zu hg hE x;have hy':=zu hg hE y;rw [hx] at hx';rw [hy] at hy';obtain ⟨e1,e2⟩:=vQ ht;obtain ⟨ti,td,e5,_,_,e6⟩:=yK e2;obtain ⟨hi,ez⟩:=wC hx';dsimp only;rw [inv_v hy',ez];refine wpS_v ?_;unfold Instr.indexAt;refine za _ _ _ ?_;refine za _ _ _ (zz e1 ?_);refine za _ _ _ ?_;refine za _ _ _ ?_;refine za _ _ _ (zz e1 ?_);dsimp only;rw [if_pos ⟨h0,h1⟩];refine za _ _ _ (yu e5 ?_);show zW φ A F _ A (.value (.pointer (some (Addr.add _ (n.toNat*ti.size))))) H;rw [ki,e6,Nat.add_assoc];exact zW.quiet hH (.ptr hi)
def partA (g:Bool) (l:List AV) (off n:Nat):Option AV:=if g then (if off+n<=l.length then some (.agg ((l.drop off).take n)) else none) else l[off]?
theorem zgd {t:TypeId} {g:Bool} {n off:Nat} {l:List AV} {ys:Array Value} (ht:tySize P t=some (g,n)) (hr:zT φ A.length l ys) (h:partA g l off n=some r) {Q:Value->Hp->Prop} (hq:∀ v,RelV φ A.length r v->Q v H):wpS P (part t ys off) H Q:=by
 obtain ⟨ti,td,e5,e7,e8,e6⟩:=yK ht;unfold part;refine za _ _ _ (vz e7 ?_);rw [e8];unfold partA at h;cases g with
 | true =>
  simp only [if_true] at h ⊢;split at h
  ·rename_i hle;cases h;refine za _ _ _ (yu e5 ?_);rw [e6];refine hq _ (.agg ?_ fun j u y hu hy=>?_)
   ·have:=hr.1; simp; omega
   ·rw [List.getElem?_take] at hu;split at hu
    ·rename_i hj;rw [List.getElem?_drop] at hu;rw [Array.getElem?_extract] at hy;split at hy
     ·exact hr.2 _ u y hu hy
     ·cases hy
    ·cases hu
  ·cases h
 | false =>
  simp only [mU,if_false] at h ⊢;obtain ⟨y,hy,hr'⟩:=hr.get h;rw [hy];exact hq y hr'
theorem zkL {t:TypeId} {x:Operand} {k off n:Nat} {g:Bool} {l:List AV} (ho:o.op=.field t x k) (hx:zI gm env x=.agg l) (hf:fieldOf P t k=some (off,g,n)) (h:partA g l off n=some r):OpOk P gm env A o r A:=fun φ F H a hg hH hE=>by
 unfold execOp; rw [ho];have hx':=zu hg hE x;rw [hx] at hx';obtain ⟨ys,e,hr⟩:=zbi hx';obtain ⟨fs,f,e1,e2,e3,e4⟩:=zaL hf;dsimp only;rw [e];refine wpS_v ?_;unfold Instr.field;refine za _ _ _ (zz e1 ?_);simp only [e2];refine za _ _ _ ?_;show wpS P (part f.type ys f.offset) H _;rw [e3];exact zgd e4 hr h fun v hv=>zW.quiet hH hv
theorem zkM {t e:TypeId} {x y:Operand} {k:IntKind} {n:Int} {len size:Nat} {g:Bool} {l:List AV} (ho:o.op=.index t x y) (hx:zI gm env x=.agg l) (hy:zI gm env y=.v (.int k n)) (ht:arrElem P t=some (len,e,g,size)) (h0:0<=n) (h1:n<len)
  (h:partA g l (n.toNat*size) size=some r):OpOk P gm env A o r A:=fun φ F H a hg hH hE=>by
 unfold execOp; rw [ho];have hx':=zu hg hE x;have hy':=zu hg hE y;rw [hx] at hx';rw [hy] at hy';obtain ⟨ys,ez,hr⟩:=zbi hx';obtain ⟨e1,e2⟩:=vQ ht;obtain ⟨ti,td,e5,_,_,e6⟩:=yK e2;dsimp only;rw [inv_v hy',ez];refine wpS_v ?_;unfold Instr.index;refine za _ _ _ ?_;refine za _ _ _ (zz e1 ?_);dsimp only;rw [if_pos ⟨h0,h1⟩];refine za _ _ _ (yu e5 ?_);rw [e6];exact zgd e2 hr h fun v hv=>zW.quiet hH hv
theorem zfI {t:TypeId} {x y:Operand} {k:IntKind} {n:Int} {s:ByteArray} {c:UInt8} (ho:o.op=.index t x y) (hx:zI gm env x=.v (.string s)) (hy:zI gm env y=.v (.int k n)) (ht:P.underlying t=some .string) (h0:0<=n) (h1:s[n.toNat]? =some c) :
  OpOk P gm env A o (.v (.int .u8 c.toNat)) A:=fun φ F H a hg hH hE=>by
 unfold execOp; rw [ho];have hx':=zu hg hE x;have hy':=zu hg hE y;rw [hx] at hx';rw [hy] at hy';dsimp only;rw [inv_v hy',inv_v hx'];refine wpS_v ?_;unfold Instr.index;refine za _ _ _ ?_;refine za _ _ _ (zz ht ?_);dsimp only;rw [if_pos h0,h1];exact zW.quiet hH (.v _)
theorem kj {b:Builtin} {args:Array Operand} {ts:Array TypeId} (ho:o.op=.call { callee:=.builtin b,args:=args,argTypes:=ts }) (ρ:Operand->Value) :
  execOp ρ o=builtin b ts o.type (args.map fun | .const _=>true | _=>false) (args.map ρ):=by
 unfold execOp; rw [ho]; rfl
def lenA:AV->Option Nat
 | .sl _ _ n=>some n
 | .row _ n=>some n
 | .v (.slice _ n _)=>some n
 | .e0=>some 0
 | .z0=>some 0
 | _=>none
theorem zfv {n:Nat} {x:AV} {k:Nat} {y:Value} (h:lenA x=some k) (hr:RelV φ n x y):∃ b c,y=.slice b k c:=by
 cases hr with
 | sl hi hl hb=>cases h; exact ⟨_,_,rfl⟩
 | row hi hl hv=>cases h; exact zch hl hv
 | v=>cases y <;> first | (cases h; exact ⟨_,_,rfl⟩) | cases h
 | e0 a c=>cases h; exact ⟨_,_,rfl⟩
 | z0 a=>cases h; exact ⟨_,_,rfl⟩
 | _=>cases h
theorem zmP {x:Operand} {t e:TypeId} {n:Nat} (ho:o.op=.call { callee:=.builtin .len,args:=#[x],argTypes:=#[t] }) (hx:lenA (zI gm env x)=some n) (ht:P.underlying t=some (.slice e)):OpOk P gm env A o (.v (.int .i64 n)) A:=fun φ F H a hg hH hE=>by
 rw [kj ho];obtain ⟨b,c,e1⟩:=zfv hx (zu hg hE x);simp only [builtin,List.map_toArray,List.map_cons,List.map_nil,e1];refine wpS_v ?_;show wpS P (underlying t >>= _) H _;refine za _ _ _ (zz ht ?_);exact zW.quiet hH (.v _)
theorem zhR {x:Operand} {t:TypeId} {s:ByteArray} (ho:o.op=.call { callee:=.builtin .len,args:=#[x],argTypes:=#[t] }) (hx:zI gm env x=.v (.string s)) (ht:P.underlying t=some .string):OpOk P gm env A o (.v (.int .i64 s.size)) A:=fun φ F H a hg hH hE=>by
 rw [kj ho];have e1:=zu hg hE x;rw [hx] at e1;simp only [builtin,List.map_toArray,List.map_cons,List.map_nil,inv_v e1];refine wpS_v ?_;show wpS P (underlying t >>= _) H _;refine za _ _ _ (zz ht ?_);exact zW.quiet hH (.v _)
theorem zmR {x y:Operand} {t u:TypeId} {k k':IntKind} {m n:Int} (ho:o.op=.call { callee:=.builtin .min,args:=#[x,y],argTypes:=#[t,u] }) (hx:zI gm env x=.v (.int k m)) (hy:zI gm env y=.v (.int k' n)):OpOk P gm env A o (.v (.int k (if n<m then n else m))) A:=fun φ F H a hg hH hE=>by
 rw [kj ho];have e1:=zu hg hE x;have e2:=zu hg hE y;rw [hx] at e1;rw [hy] at e2;simp only [builtin,List.map_toArray,List.map_cons,List.map_nil,inv_v e1,inv_v e2];refine wpS_v ?_;exact zW.quiet hH (.v _)
theorem zmQ {x y:Operand} {t u:TypeId} {k k':IntKind} {m n:Int} (ho:o.op=.call { callee:=.builtin .max,args:=#[x,y],argTypes:=#[t,u] }) (hx:zI gm env x=.v (.int k m)) (hy:zI gm env y=.v (.int k' n)):OpOk P gm env A o (.v (.int k (if m<n then n else m))) A:=fun φ F H a hg hH hE=>by
 rw [kj ho];have e1:=zu hg hE x;have e2:=zu hg hE y;rw [hx] at e1;rw [hy] at e2;simp only [builtin,List.map_toArray,List.map_cons,List.map_nil,inv_v e1,inv_v e2];refine wpS_v ?_;exact zW.quiet hH (.v _)
def bndA (x:Option AV) (dflt:Nat):Option Nat:=match x with
 | none=>some dflt
 | some (.v (.int _ n))=>if 0<=n then some n.toNat else none
 | _=>none
theorem vc {k:IntKind} {n:Int} {y:Nat} {c:BoundsCode} (h0:0<=n) (h1:n<=(y:Int)) {Q:Nat->Hp->Prop} (hq:Q n.toNat H):wpS P (Instr.sliceBound (.int k n) y c) H Q:=by
 unfold Instr.sliceBound;refine za _ _ _ ?_;show wpS P (if 0<=n/\n<=(y:Int) then pure n.toNat else _) H _;rw [if_pos ⟨h0,h1⟩];exact hq
theorem zbZ {x:AV} {d q:Nat} (hx:bndA (some x) d=some q):∃ k n,x=.v (.int k n)/\0<=n/\q=n.toNat:=by
 unfold bndA at hx;split at hx
 ·rename_i e; cases e
 ·rename_i k n e;cases e;split at hx
  ·rename_i h0; cases hx; exact ⟨_,_,rfl,h0,rfl⟩
  ·cases hx
 ·cases hx
theorem wV {n0:Nat} {b:Bool} {len cap l h:Nat} {low high:Option AV} {low' high':Option Value} (hr1:∀ x,low=some x->∃ y,low'=some y/\RelV φ n0 x y) (hr2:∀ x,high=some x->∃ y,high'=some y/\RelV φ n0 x y)
  (hn1:low=none->low'=none) (hn2:high=none->high'=none) (hl:bndA low 0=some l) (hh:bndA high len=some h) (h1:l<=h) (h2:h<=cap) {Q:Nat×Nat×Nat->Hp->Prop} (hq:Q (l,h,cap) H) :
  wpS P (Instr.sliceBounds b len cap low' high' none) H Q:=by
 unfold Instr.sliceBounds;refine za _ _ _ ?_;simp only [kb];cases high with
 | none =>
  rw [hn2 rfl];obtain rfl:len=h:=by simpa [bndA] using hh
  dsimp only;refine za _ _ _ ?_;simp only [kb];cases low with
  | none =>
   rw [hn1 rfl];obtain rfl:0=l:=by simpa [bndA] using hl
   exact hq
  | some x =>
   obtain ⟨y,rfl,hr⟩:=hr1 x rfl;obtain ⟨k,n,rfl,h0,rfl⟩:=zbZ hl;rw [inv_v hr];dsimp only;exact za _ _ _ (vc (y:=len) h0 oQ hq)
 | some z =>
  obtain ⟨y',rfl,hr'⟩:=hr2 z rfl;obtain ⟨k',n',rfl,h0',rfl⟩:=zbZ hh;rw [inv_v hr'];dsimp only;refine za _ _ _ (vc (y:=cap) h0' oQ ?_);cases low with
  | none =>
   rw [hn1 rfl];obtain rfl:0=l:=by simpa [bndA] using hl
   exact hq
  | some x =>
   obtain ⟨y,rfl,hr⟩:=hr1 x rfl;obtain ⟨k,n,rfl,h0,rfl⟩:=zbZ hl;rw [inv_v hr];dsimp only;exact za _ _ _ (vc (y:=n'.toNat) h0 oQ hq)
def subA (i off size l h:Nat):AV:=.sl i (off+l*size) (h - l)
theorem zco {i off size l h cap n:Nat} (hi:i<n) (h1:l<=h) (h2:h<=cap) {b:Option Addr} (hb:0<cap->b=some ⟨(φ i).blk,(φ i).base+off,none⟩):RelV φ n (subA i off size l h) (.slice (if cap=l then b else Option.map (fun x:Addr=>x.add (l*size)) b) (h - l) (cap - l)):=by
 refine .sl hi oQ fun hpos=>?_;rw [if_neg oQ,hb oQ,Option.map_some,ki,Nat.add_assoc]
theorem vN {n:Nat} (hg:RelG gm φ n) (hE:zT φ n env a.tmps) (x:Option Operand):∀ u,x.map (zI gm env)=some u->∃ y,x.map a.eval=some y/\RelV φ n u y:=by
 intro u hu;cases x with
 | none=>cases hu
 | some x=>cases hu; exact ⟨_,rfl,zu hg hE x⟩
theorem zgs {t e:TypeId} {x:Operand} {lo hi:Option Operand} {i off len size l h:Nat} (ho:o.op=.slice t x lo hi none) (hx:zI gm env x=.sl i off len) (ht:slElem P t=some (e,size))
  (hlo:bndA (lo.map (zI gm env)) 0=some l) (hhi:bndA (hi.map (zI gm env)) len=some h) (h1:l<=h) (h2:h<=len):OpOk P gm env A o (subA i off size l h) A:=fun φ F H a hg hH hE=>by
 unfold execOp; rw [ho];have hx':=zu hg hE x;rw [hx] at hx';obtain ⟨ti,e1,e2,e3⟩:=wl ht;obtain ⟨hi',cap,b,hl,hb,ez⟩:=zfs hx';dsimp only;rw [ez];refine wpS_v ?_;unfold Instr.sliceAt;refine za _ _ _ (zz e1 ?_);dsimp only;unfold Instr.slice;refine za _ _ _ (zz e1 ?_);dsimp only;refine za _ _ _ (wV (vN hg hE lo) (vN hg hE hi) (fun e=>by cases lo <;> first | rfl | cases e) (fun e=>by cases hi <;> first | rfl | cases e) hlo hhi h1 oQ ?_);dsimp only;refine za _ _ _ (yu e2 ?_);rw [e3];rcases mP len with e0 | e0
 ·obtain rfl:h=0:=by omega
  obtain rfl:l=0:=by omega
  exact zW.quiet hH (.sl hi' oQ fun hpos=>absurd hpos oQ)
 ·exact zW.quiet hH (zco hi' h1 oQ fun _=>hb e0)
theorem zfK {t e:TypeId} {x:Operand} {lo hi:Option Operand} {i len size l h:Nat} (ho:o.op=.slice t x lo hi none) (hx:zI gm env x=.row i len) (ht:slElem P t=some (e,size)) {l0:List AV} {e':TypeId} {s':Nat} (hrow:A[i]? =some (.row l0 e' s'))
  (hlo:bndA (lo.map (zI gm env)) 0=some l) (hhi:bndA (hi.map (zI gm env)) len=some h) (h1:l<=h) (h2:h<=len):OpOk P gm env A o (subA i 0 size l h) A:=fun φ F H a hg hH hE=>by
 unfold execOp; rw [ho];have hx':=zu hg hE x;rw [hx] at hx';obtain ⟨ti,e1,e2,e3⟩:=wl ht;obtain ⟨hi',hl,ez⟩:=uI hx';obtain ⟨_,hbase,_⟩:=hH.obj i _ hrow;dsimp only;obtain ⟨base,ez,hb⟩:∃ base,a.eval x=.slice base len (φ i).cap/\RelV φ A.length (subA i 0 size l h) (.slice (if (φ i).cap=l then base else Option.map (fun x:Addr=>x.add (l*size)) base) (h - l) ((φ i).cap - l)):=by
  rcases mP (φ i).cap with e0 | e0
  ·unfold rowV at ez;rw [if_pos e0] at ez;obtain ⟨b,ez⟩:=ez;obtain rfl:len=0:=by omega
   obtain rfl:h=0:=by omega
   obtain rfl:l=0:=by omega
   refine ⟨b,by rw [ez,e0],?_⟩;rw [e0,if_pos rfl];exact .sl hi' oQ fun hpos=>absurd hpos oQ
  ·refine ⟨_,zam e0 ez,?_⟩;refine zco (φ:=φ) (off:=0) (size:=size) hi' h1 (by omega:h<=(φ i).cap) fun _=>?_;rw [hbase]
 rw [ez];refine wpS_v ?_;unfold Instr.sliceAt;refine za _ _ _ (zz e1 ?_);dsimp only;unfold Instr.slice;refine za _ _ _ (zz e1 ?_);dsimp only;refine za _ _ _ (wV (vN hg hE lo) (vN hg hE hi) (fun e=>by cases lo <;> first | rfl | cases e) (fun e=>by cases hi <;> first | rfl | cases e) hlo hhi h1 oQ ?_);dsimp only;refine za _ _ _ (yu e2 ?_);rw [e3];exact zW.quiet hH hb
theorem zfJ {t e:TypeId} {x:Operand} {lo hi:Option Operand} {i off len size l h:Nat} {g:Bool} (ho:o.op=.slice t x lo hi none) (hx:zI gm env x=.ptr i off) (ht:arrElem P t=some (len,e,g,size))
  (hlo:bndA (lo.map (zI gm env)) 0=some l) (hhi:bndA (hi.map (zI gm env)) len=some h) (h1:l<=h) (h2:h<=len):OpOk P gm env A o (subA i off size l h) A:=fun φ F H a hg hH hE=>by
 unfold execOp; rw [ho];have hx':=zu hg hE x;rw [hx] at hx';obtain ⟨e1,e2⟩:=vQ ht;obtain ⟨ti,td,e5,_,_,e6⟩:=yK e2;obtain ⟨hi',ez⟩:=wC hx';dsimp only;rw [ez];refine wpS_v ?_;unfold Instr.sliceAt;refine za _ _ _ (zz e1 ?_);dsimp only;refine za _ _ _ ?_;simp only [Instr.sureAddr,kb];refine za _ _ _ ?_;refine wV (vN hg hE lo) (vN hg hE hi) (fun e=>by cases lo <;> first | rfl | cases e) (fun e=>by cases hi <;> first | rfl | cases e) hlo hhi h1 oQ ?_;dsimp only;refine za _ _ _ (yu e5 ?_);rw [e6];have:=zco (φ:=φ) (off:=off) (size:=size) hi' h1 (by omega:h<=len) (b:=some ⟨(φ i).blk,(φ i).base+off,none⟩) fun _=>rfl;have ee:(if len=l then (some (⟨(φ i).blk,(φ i).base+off,none⟩:Addr)) else Option.map (fun x:Addr=>x.add (l*size)) (some ⟨(φ i).blk,(φ i).base+off,none⟩))=some (if len=l then ⟨(φ i).blk,(φ i).base+off,none⟩ else (⟨(φ i).blk,(φ i).base+off,none⟩:Addr).add (l*size)):=by split <;> rfl
 rw [ee] at this;exact zW.quiet hH this
end
section
variable {P:Program} {gm:Nat->Option Nat} {φ:Nat->Loc3} {A A':List AObj} {F H:Hp} {env:List AV} {a:Act} {o:Oper} {r:AV}
theorem RelH.move (h:RelH φ A F H) {i:Nat} {o o':AObj} (hi:A[i]? =some o) (hx:o.excl=true) (hs:sol (φ i) o) {loc:Loc3} (hloc:loc.blk=(φ i).blk) {x:Bool×Obj}
  (ho:RelO (upd3 φ A.length loc) (A.length+1) loc (H.put loc.blk x) o'):RelH (upd3 φ A.length loc) (A.set i .gone++[o']) F (H.put loc.blk x):=by
 have hlt:i<A.length:=(lD.1 hi).1;have hlen:(A.set i .gone++[o']).length=A.length+1:=by simp
 have hget:∀ (j:Nat) q,(A.set i .gone++[o'])[j]? =some q->(j<A.length/\j≠i/\A[j]? =some q)\/(j<A.length/\q=.gone)\/(j=A.length/\q=o'):=fun j q hj=>by
  rcases mR j A.length with hl | hge
  ·rw [lG (by simpa using hl),lX] at hj;split at hj
   ·rename_i e;exact .inr (.inl ⟨hl,(Option.some.inj hj).symm⟩)
   ·rename_i e;exact .inl ⟨hl,Ne.symm e,hj⟩
  ·rw [lO (by simpa using hge),List.length_set] at hj;have:j - A.length=0:=by
    have:=(lD.1 hj).1;simp at this;omega
   rw [this] at hj;simp at hj;exact .inr (.inr ⟨by omega,hj.symm⟩)
 have hFl:F loc.blk=none:=by rw [hloc]; exact h.frx i o hi hx hs
 have hold:∀ j,j<A.length->upd3 φ A.length loc j=φ j:=fun j hj=>by simp [upd3]; omega
 have hnew:upd3 φ A.length loc A.length=loc:=by simp [upd3]
 have hne:∀ (j:Nat) q,A[j]? =some q->j≠i->q.live=true->sol (φ j) q->(φ j).blk≠loc.blk:=fun j q hj hji hl hsj=>by
  rw [hloc];exact Ne.symm (h.apart i j o q hi hj (Ne.symm hji) hx hl hs hsj)
 refine ⟨fun j q hj=>?_,fun j k q1 q2 hj hk hjk he hl hs1 hs2=>?_,Hp.ext_put h.fr hFl x,fun j q hj he hsj=>?_⟩;rotate_left 2
 ·rcases hget j q hj with ⟨hl,_,hj'⟩ | ⟨_,rfl⟩ | ⟨rfl,rfl⟩
  ·rw [hold j hl] at hsj ⊢; exact h.frx j q hj' he hsj
  ·cases he
  ·rw [hnew]; exact hFl
 ·rw [hlen];rcases hget j q hj with ⟨hl,hji,hj'⟩ | ⟨hl,rfl⟩ | ⟨rfl,rfl⟩
  ·rw [hold j hl];exact (h.obj j q hj').mono (yw φ _ loc) oQ fun hlv hsj=>Hp.put_other _ _ (hne j q hj' hji hlv hsj)
  ·trivial
  ·rw [hnew]; exact ho
 ·rcases hget j q1 hj with ⟨hl1,hji,hj'⟩ | ⟨hl1,rfl⟩ | ⟨rfl,rfl⟩
  ·rcases hget k q2 hk with ⟨hl2,hki,hk'⟩ | ⟨hl2,rfl⟩ | ⟨rfl,rfl⟩
   ·rw [hold j hl1] at hs1 ⊢; rw [hold k hl2] at hs2 ⊢; exact h.apart j k q1 q2 hj' hk' hjk he hl hs1 hs2
   ·cases hl
   ·rw [hold j hl1] at hs1 ⊢; rw [hnew];refine hne j q1 hj' hji ?_ hs1;cases q1 <;> first | rfl | (simp [AObj.excl] at he)
  ·cases he
  ·rcases hget k q2 hk with ⟨hl2,hki,hk'⟩ | ⟨hl2,rfl⟩ | ⟨rfl,_⟩
   ·rw [hold k hl2] at hs2 ⊢; rw [hnew];exact Ne.symm (hne k q2 hk' hki hl hs2)
   ·cases hl
   ·exact absurd rfl hjk
def srcA (A:List AObj) (size:Nat):AV->Option (Nat×List AV)
 | .sl j off m=>if m*size=0 then some (m,[]) else (loadA A j off (m*size)).map fun l=>(m,l)
 | .row j m=>if m*size=0 then some (m,[]) else match A[j]? with
  | some (.row _ _ _)=>(loadA A j 0 (m*size)).map fun l=>(m,l)
  | _=>none
 | .v (.slice none 0 _)=>some (0,[])
 | .e0=>some (0,[])
 | .z0=>some (0,[])
 | _=>none
theorem zk9 {size m:Nat} {x:AV} {l:List AV} {y:Value} (hH:RelH φ A F H) (h:srcA A size x=some (m,l)) (hr:RelV φ A.length x y) :
  ∃ (b:Option Addr) (cap:Nat) (ys:List Value),y=.slice b m cap/\ys.length=m*size/\l.length=m*size/\zT φ A.length l ys.toArray/\∀ Q:Array Value->Hp->Prop,Q ys.toArray H->wpS P (Builtin.firstCells size m y) H Q:=by
 have hload:∀ (j off:Nat) (cap:Nat) (w:Option Addr),j<A.length->w=some ⟨(φ j).blk,(φ j).base+off,none⟩->loadA A j off (m*size)=some l ->
   ∃ (b:Option Addr) (cap':Nat) (ys:List Value),Value.slice w m cap=.slice b m cap'/\ys.length=m*size/\l.length=m*size/\zT φ A.length l ys.toArray/\∀ Q:Array Value->Hp->Prop,Q ys.toArray H->wpS P (Builtin.firstCells size m (.slice w m cap)) H Q:=by
  intro j off cap w hj hw hl;obtain ⟨hlen,rw',cur,e,fz,ys,h1,h2,h3,h4⟩:=vt hH hl;refine ⟨w,cap,ys,rfl,h2,hlen,h3,fun Q hq=>?_⟩;rw [hw];show wpS P (loadCells _ (m*size)) H Q;rw [<- h2];exact wt h1 ys h4 hq
 have hnone:∀ (w:Option Addr) (cap:Nat),m*size=0->∃ (b:Option Addr) (cap':Nat) (ys:List Value),Value.slice w m cap=.slice b m cap'/\ys.length=m*size/\([]:List AV).length=m*size/\zT φ A.length [] ys.toArray/\∀ Q:Array Value->Hp->Prop,Q ys.toArray H->wpS P (Builtin.firstCells size m (.slice w m cap)) H Q:=by
  intro w cap h00;refine ⟨w,cap,[],rfl,by rw [h00]; rfl,by rw [h00]; rfl,wv _ _,fun Q hq=>?_⟩;cases w with
  | none=>exact hq
  | some w =>
   show wpS P (loadCells _ (m*size)) H Q;rw [h00];exact hq
 cases hr with
 | @sl j off len cap b hi hl hb =>
  simp only [srcA] at h;split at h
  ·rename_i h00;cases h;exact hnone _ _ h00
  rename_i h00;have hpos:0<len:=by
   rcases mP len with e | e
   ·rw [e,Nat.zero_mul] at h00; exact absurd rfl h00
   ·exact e
  obtain rfl:=hb hpos;cases e:loadA A j off (len*size) with
  | none=>rw [e] at h; cases h
  | some l' =>
   rw [e] at h;cases h;exact hload j off cap _ hi rfl e
 | @row j len y hi hl hv =>
  simp only [srcA] at h;split at h
  ·rename_i h00;cases h;obtain ⟨b,c,rfl⟩:=zch hl hv;exact hnone _ _ h00
  rename_i h00;have hpos:0<len:=by
   rcases mP len with e | e
   ·rw [e,Nat.zero_mul] at h00; exact absurd rfl h00
   ·exact e
  obtain rfl:=zam oQ hv;split at h
  ·rename_i l0 e0 s0 hrow;obtain ⟨_,hbase,_⟩:=hH.obj j _ hrow;cases e:loadA A j 0 (len*size) with
   | none=>rw [e] at h; cases h
   | some l' =>
    rw [e] at h;cases h;exact hload j 0 _ _ hi (by rw [hbase]) e
  ·cases h
 | v =>
  cases y with
  | slice b len cap =>
   cases b with
   | none =>
    cases len with
    | zero =>
     cases h;exact ⟨none,cap,[],rfl,by simp,by simp,wv _ _,fun Q hq=>hq⟩
    | succ len=>cases h
   | some b=>cases h
  | _=>cases h
 | e0 b cap =>
  cases h;exact hnone b cap (Nat.zero_mul _)
 | z0 b =>
  cases h;refine ⟨some b,0,[],rfl,by simp,by simp,wv _ _,fun Q hq=>?_⟩;show wpS P (loadCells _ (0*size)) H Q;rw [Nat.zero_mul];exact hq
 | _=>cases h
theorem zcg {n:Nat} {φ:Nat->Loc3} {l:List AV} {e:TypeId} {size:Nat} {loc:Loc3} {H:Hp} {cur:Array Value} (hH:H loc.blk=some (true,.cells cur e (0,0))) (hb:loc.base=0) (hs:cur.size=loc.cap*size) (hc:loc.cap<=maxLen) {ys:List Value}
  (hr:zT φ n l ys.toArray) (hget:∀ (j:Nat) y,ys[j]? =some y->cur[j]? =some y) (hle:ys.length<=cur.size):RelO φ n loc H (.row l e size):=by
 refine ⟨fun e=>?_,hb,fun _=>⟨cur,hH,hs,hc,?_,fun j u hu=>?_⟩⟩
 ·have:=hr.1;rw [e,Nat.zero_mul] at hs;simp at this;exact List.eq_nil_of_length_eq_zero oQ
 ·have:=hr.1; simp at this; omega
 ·obtain ⟨y,hy,hr'⟩:=hr.get hu;exact ⟨y,hget j y (by simpa using hy),hr'⟩
theorem vi {n:Nat} {φ:Nat->Loc3} {l l':List AV} {ys ys':List Value} (h:zT φ n l ys.toArray) (h':zT φ n l' ys'.toArray):zT φ n (l++l') (ys++ys').toArray:=by
 have h1:=h.1;have h2:=h'.1;simp at h1 h2;refine ⟨by simp; omega,fun j u y hu hy=>?_⟩;simp only [List.getElem?_toArray] at hy;rcases mR j l.length with hlt | hge
 ·rw [lG hlt] at hu;rw [lG oQ] at hy;exact h.2 j u y hu (by simpa using hy)
 ·rw [lO hge] at hu;rw [lO oQ] at hy;exact h'.2 (j - l.length) u y hu (by simpa [h1] using hy)
theorem zcu {need old:Nat} {e:TypeId} {n:Nat} (hneed:need<2 ^ 63) (h1:(Question.appendCap need old e).forced=true->n=0) (h2:(Question.appendCap need old e).forced=false->∃ t,n=(Question.appendCap need old e).cut t):need<=n/\n<2 ^ 63:=by
 obtain ⟨t,rfl⟩:=h2 rfl;simp only [Question.cut];have:=Nat.mod_lt t (show 2 ^ 63 - need>0 by omega);omega
theorem zld {e:TypeId} {z:Value} {size:Nat} (hsz:z.cells.size=size) {n m:Nat} {olds news:List Value} {lo ln:List AV} (ho:zT φ A.length lo olds.toArray) (hn:zT φ A.length ln news.toArray)
  (hlo:olds.length=n*size) (hln:news.length=m*size) {cap:Nat} (hc0:0<n+m) (hc1:n+m<=cap) (hc2:cap<=maxLen) {A0:List AObj} (hA0:A0.length=A.length) (hH0:RelH φ A0 F H) :
  wpS P (do let rest:=Builtin.zeroCells z.cells (cap - (n+m)); pure (Value.slice (some (<- newRow e (olds.toArray++news.toArray++rest))) (n+m) cap)) H
   (fun v H'=>zW φ A F (.row A.length (n+m)) (A0++[.row (lo++ln) e size]) (.value v) H'):=by
 refine za _ _ _ ?_;refine za _ _ _ fun b hb=>?_;show zW φ A F _ _ (.value (.slice (some ⟨b,0,none⟩) (n+m) cap)) (H.put b (true,.cells _ e (0,0)));have hsize:(olds.toArray++news.toArray++Builtin.zeroCells z.cells (cap - (n+m))).size=cap*size:=by
  simp only [Array.size_append,List.size_toArray,Builtin.zeroCells,Array.size_map,Array.size_range,hsz,hlo,hln];rw [<- Nat.add_mul,<- Nat.add_mul];congr 1;omega
 have hpush:RelH (upd3 φ A0.length ⟨b,0,cap⟩) (A0++[.row (lo++ln) e size]) F (H.put b (true,.cells (olds.toArray++news.toArray++Builtin.zeroCells z.cells (cap - (n+m))) e (0,0))):=by
  refine hH0.push hb Z ?_;refine zcg (ys:=olds++news) (Hp.put_same _ _ _) Z hsize hc2 ?_ (fun j y hy=>?_) ?_
  ·rw [hA0];exact (vi ho hn).mono (yw _ _ _) oQ
  ·rw [Array.getElem?_append_left (by have:=(lD.1 hy).1; simp at this ⊢; omega)];have:(olds.toArray++news.toArray)=(olds++news).toArray:=by simp
   rw [this];simpa using hy
  ·rw [hsize];simp only [lF,hlo,hln];rw [<- Nat.add_mul];exact Nat.mul_le_mul_right _ hc1
 rw [hA0] at hpush;refine ⟨_,_,.inl rfl,yw _ _ _,by simp; omega,hpush,?_⟩;refine RelV.row (by simp; omega) (by simp [upd3]; omega) ?_;unfold rowV;simp only [upd3,if_true];rw [if_neg oQ]
 trivial
theorem zi2 {s x:Operand} {t e:TypeId} {ti:TypeInfo} {z:Value} {size bytes n m:Nat} {lo ln:List AV} {A0:List AObj} (ho:o.op=.call { callee:=.builtin .append,args:=#[s,x],argTypes:=#[t,t] }) (ht:P.underlying t=some (.slice e)) (hi:P.info? e=some ti) (hz:ti.zero=some z)
  (hsz:z.cells.size=size) (hts:ti.size=size) (hby:ti.bytes=bytes) (hs0:0<size)
  (hd:(zI gm env s=.v (.slice none 0 0)/\n=0/\lo=[]/\A0=A)\/(zI gm env s=.z0/\n=0/\lo=[]/\A0=A)\/∃ i,zI gm env s=.row i n/\A[i]? =some (.row lo e size)/\lo.length=n*size/\A0=A.set i .gone)
  (hx:srcA A size (zI gm env x)=some (m,ln)) (hm:0<m) (hone:ln.all oneA=true) (hmax:n+m<=maxLen) (hbytes:(n+m)*bytes<=140737488355328) :
  OpOk P gm env A o (.row A.length (n+m)) (A0++[.row (lo++ln) e size]):=fun φ F H a hg hH hE=>by
 rw [kj ho];obtain ⟨bx,capx,ys,ex,hys,hln,hrn,hfirst⟩:=zk9 hH hx (zu hg hE x);have hs':=zu hg hE s;simp only [builtin,List.map_toArray,List.map_cons,List.map_nil];refine wpS_v ?_;have h63:n+m<2 ^ 63:=by unfold maxLen at hmax; omega
 have hA0:A0.length=A.length:=by rcases hd with ⟨_,_,_,h4⟩ | ⟨_,_,_,h4⟩ | ⟨i,_,_,_,h4⟩ <;> simp [h4]
 have hH0:RelH φ A0 F H:=by
  rcases hd with ⟨_,_,_,h4⟩ | ⟨_,_,_,h4⟩ | ⟨i,_,_,_,h4⟩
  ·rw [h4]; exact hH
  ·rw [h4]; exact hH
  ·rw [h4]; exact hH.drop i
 have hgrow:∀ (base:Option Addr) (cap:Nat) (olds:List Value),a.eval s=.slice base n cap->cap<n+m->olds.length=n*size->zT φ A.length lo olds.toArray->(∀ Q:Array Value->Hp->Prop,Q olds.toArray H->wpS P (Builtin.firstCells size n (.slice base n cap)) H Q) ->
   wpS P (Builtin.append_ #[t,t] o.type #[a.eval s,a.eval x]) H (fun v H'=>zW φ A F (.row A.length (n+m)) (A0++[.row (lo++ln) e size]) (.value v) H'):=by
  intro base cap olds es hcap hol hro hfo;rw [es,ex];unfold Builtin.append_;show wpS P (underlying t >>= _) H _;refine za _ _ _ (zz ht ?_);dsimp only;refine za _ _ _ (yu hi ?_);refine za _ _ _ ?_;refine zz (t:=t) ht ?_;dsimp only;refine za _ _ _ ?_;rw [kb];simp only [mU,if_false,Bool.not_false,if_true];refine za _ _ _ ?_;show wpS P (if n+m<=cap then _ else _) H _;rw [if_neg oQ];refine za _ _ _ (kB hi ?_);rw [if_neg (by rintro ⟨h1,_⟩; have:IntKind.i64.max=9223372036854775807:=rfl; omega)];refine za _ _ _ (kB hi ?_);rw [if_neg (by rw [hby]; have:=growslice_fits hcap hbytes; omega)];refine za _ _ _ fun cap' hc1 hc2=>?_;obtain ⟨hcn,hcm⟩:=zcu h63 hc1 hc2;refine za _ _ _ (kB hi ?_);refine za _ _ _ ?_;have hroom:∀ (b:Nat) (Q:Unit->Hp->Prop),Q () H->wpS P (askRoom b) H Q:=fun b Q hq=>by
   unfold askRoom;split
   ·exact ⟨.inl rfl,hq⟩
   ·exact hq
  refine hroom _ _ ?_;refine za _ _ _ ?_;show wpS P (Builtin.firstCells ti.size n (.slice base n cap)) H _;rw [hts];refine hfo _ ?_;refine za _ _ _ ?_;show wpS P (Builtin.firstCells size m (.slice bx m capx)) H _;rw [<- ex];refine hfirst _ ?_;refine za _ _ _ (kc hi hz ?_);exact zld hsz hro hrn hol hys oQ hcn (by unfold maxLen; omega) hA0 hH0
 rcases hd with ⟨e1,rfl,rfl,e4⟩ | ⟨e1,rfl,rfl,e4⟩ | ⟨i,e1,hrow,hlo,e4⟩
 ·rw [e1] at hs';have es:=inv_v hs';exact hgrow none 0 [] es oQ sQ (wv _ _) (fun Q hq=>hq)
 ·rw [e1] at hs';obtain ⟨b,es⟩:=zmG hs';refine hgrow (some b) 0 [] es oQ sQ (wv _ _) (fun Q hq=>?_);show wpS P (loadCells _ (0*size)) H Q;rw [Nat.zero_mul];exact hq
 ·rw [e1] at hs';obtain ⟨hilt,hcapi,es⟩:=uI hs';obtain ⟨hr0,hbase,hrw⟩:=hH.obj i _ hrow;rcases mP (φ i).cap with ecap | ecap
  ·unfold rowV at es;rw [if_pos ecap] at es;obtain ⟨base,es⟩:=es;obtain rfl:n=0:=by omega
   obtain rfl:=hr0 ecap;refine hgrow base 0 [] es oQ sQ (wv _ _) (fun Q hq=>?_);cases base with
   | none=>exact hq
   | some b =>
    show wpS P (loadCells _ (0*size)) H Q;rw [Nat.zero_mul];exact hq
  replace es:=zam ecap es
  obtain ⟨cur,hb,hcs,hcm,hle,hcells⟩:=hrw ecap;obtain ⟨olds,hol,hro,hget⟩:∃ olds:List Value,olds.length=n*size/\zT φ A.length lo olds.toArray/\∀ (j:Nat) y,olds[j]? =some y->cur[j]? =some y:=by
   refine ⟨(cur.toList.take (n*size)),by simp; omega,⟨by simp; omega,fun j u y hu hy=>?_⟩,fun j y hy=>?_⟩
   ·obtain ⟨y',hy',hr⟩:=hcells j u hu;simp only [List.getElem?_toArray,List.getElem?_take,mI] at hy;split at hy
    ·rw [hy'] at hy; cases hy; exact hr
    ·cases hy
   ·simp only [List.getElem?_take,mI] at hy;split at hy
    ·exact hy
    ·cases hy
  have hfo:∀ Q:Array Value->Hp->Prop,Q olds.toArray H->wpS P (Builtin.firstCells size n (.slice (some ⟨(φ i).blk,0,none⟩) n (φ i).cap)) H Q:=fun Q hq=>by
   show wpS P (loadCells _ (n*size)) H Q;rw [<- hol];exact wt hb olds (fun j y hy=>by rw [mO]; exact hget j y hy) hq
  by_cases hcap:(φ i).cap<n+m
  ·exact hgrow _ _ olds es hcap hol hro hfo
  ·
   rw [es,ex];unfold Builtin.append_;show wpS P (underlying t >>= _) H _;refine za _ _ _ (zz ht ?_);dsimp only;refine za _ _ _ (yu hi ?_);refine za _ _ _ ?_;refine zz (t:=t) ht ?_;dsimp only;refine za _ _ _ ?_;rw [kb];simp only [mU,if_false,Bool.not_false,if_true];refine za _ _ _ ?_;show wpS P (if n+m<=(φ i).cap then _ else _) H _;rw [if_pos oQ];refine za _ _ _ ?_;show wpS P (Builtin.firstCells ti.size m (.slice bx m capx)) H _;rw [hts,<- ex];refine hfirst _ ?_;refine za _ _ _ ?_;rw [ki];have hfit:n*size+m*size<=cur.size:=by rw [hcs,<- Nat.add_mul]; exact Nat.mul_le_mul_right _ oQ
   refine wg ys 0 cur H hb oQ (fun y hy=>?_) ?_
   ·obtain ⟨j,hj⟩:=List.mem_iff_getElem?.1 hy;obtain ⟨u,hu,hr⟩:=hrn.back (y:=y) (j:=j) (by simpa using hj);exact zfL (List.all_eq_true.1 hone u (lN hu)) hr
   show zW φ A F _ _ (.value (.slice _ (n+m) (φ i).cap)) _;rw [Nat.add_zero,mO];have hset:∀ (j:Nat) y,(olds++ys)[j]? =some y->(setCs cur (n*size) ys)[j]? =some y:=fun j y hy=>by
    rw [up _ _ _ _ oQ];rcases mR j olds.length with hlt | hge
    ·rw [lG hlt] at hy;rw [if_neg oQ];exact hget j y hy
    ·rw [lO hge] at hy;have:=(lD.1 hy).1;rw [if_pos oQ,<- hol];exact hy
   have hmove:=hH.move (o':=.row (lo++ln) e size) (x:=(true,.cells (setCs cur (n*size) ys) e (0,0))) (loc:=φ i) hrow rfl ecap rfl ?_
   ·rw [e4];refine ⟨_,_,.inl rfl,yw _ _ _,by simp,hmove,?_⟩;refine RelV.row sQ (by simp [upd3]; omega) ?_;unfold rowV;simp only [upd3,if_true];rw [if_neg oQ]
    trivial
   ·refine zcg (ys:=olds++ys) (Hp.put_same _ _ _) hbase (by rw [wS]; exact hcs) hcm ((vi hro hrn).mono (yw _ _ _) oQ) hset ?_;rw [wS];simp only [lF];omega
end
section
variable {P:Program} {gm:Nat->Option Nat} {φ:Nat->Loc3} {A A':List AObj} {F H:Hp} {env:List AV} {a:Act} {o:Oper} {r:AV}
theorem zdH {α β:Type} (f:α->β) (s:Sem α) (Q:β->Hp->Prop) (h:wpS P s H (fun a H'=>Q (f a) H')):wpS P (f <$> s) H Q:=yR s (fun a=>pure (f a)) H Q h
theorem zaB {α β:Type} {f:α->Sem β} {g:α->β}:∀ (l:List α),(∀ x∈l,∀ (Q:β->Hp->Prop),Q (g x) H->wpS P (f x) H Q)->∀ (Q:List β->Hp->Prop),Q (l.map g) H->wpS P (l.mapM f) H Q
 | [],_,Q,hq=>by rw [List.mapM_nil]; exact hq
 | x::l,hf,Q,hq=>by
  rw [List.mapM_cons];refine za _ _ _ (hf x sQ _ ?_);refine za _ _ _ (zaB l (fun y hy=>hf y (by simp [hy])) _ ?_);exact hq
theorem zdG {α β:Type} {f:α->Sem β} {g:α->β} (xs:Array α) (hf:∀ x∈xs.toList,∀ (Q:β->Hp->Prop),Q (g x) H->wpS P (f x) H Q) (Q:Array β->Hp->Prop) (hq:Q (xs.map g) H):wpS P (xs.mapM f) H Q:=by
 rw [Array.mapM_eq_mapM_toList];refine zdH _ _ _ (zaB xs.toList hf _ ?_);have:(xs.toList.map g).toArray=xs.map g:=by
  apply Array.ext';simp
 rw [this]; exact hq
def plcOf (P:Program):List Field->Option (List (Nat×Nat))
 | []=>some []
 | f::fs=>match tySize P f.type,plcOf P fs with
  | some (_,n),some l=>some ((f.offset,n)::l)
  | _,_=>none
def bldOf (P:Program) (t:TypeId):Option (List (Nat×Nat)) :=
 match P.underlying t with
 | some (.struct fs)=>plcOf P fs.toList
 | some (.array n e)=>(tySize P e).map fun (_,k)=>(List.range n).map fun i=>(i*k,k)
 | _=>none
def fillA (pl:List (Nat×Nat)) (cells:List AV):List (Nat×AV)->Option (List AV)
 | []=>some cells
 | (i,v)::rest=>match pl[i]? with
  | some (off,size)=>match cellsA v with
   | some vs=>if vs.length=size/\off+size<=cells.length then fillA pl (setL cells off vs) rest else none
   | none=>none
  | none=>none
theorem zbA (off:Nat):∀ (l:List Value) (k:Nat) (cs:Array Value),(l.zipIdx k).foldl (fun cs (c,j)=>cs.setIfInBounds (off+j) c) cs=setCs cs (off+k) l
 | [],_,_=>rfl
 | c::l,k,cs=>by
  rw [List.zipIdx_cons,List.foldl_cons,zbA off l (k+1) _];rfl
theorem foldl_setCs' (off:Nat) (xs:Array Value) (cs:Array Value):xs.zipIdx.foldl (fun cs (c,j)=>cs.setIfInBounds (off+j) c) cs=setCs cs off xs.toList:=by
 rw [<- Array.foldl_toList,Array.toList_zipIdx];exact zbA off xs.toList 0 cs
theorem zhX {n off:Nat} {l vs:List AV} {ys xs:Array Value} (h:zT φ n l ys) (h':zT φ n vs xs) (hle:off+vs.length<=l.length):zT φ n (setL l off vs) (setCs ys off xs.toList):=by
 have e1:=h.1;have e2:xs.toList.length=vs.length:=by rw [Array.length_toList]; exact h'.1.symm
 refine ⟨by rw [uy,wS]; exact e1,fun j u y hu hy=>?_⟩;rw [zcl _ _ _ _ hle] at hu;rw [up _ _ _ _ oQ] at hy;by_cases hj:off<=j/\j<off+vs.length
 ·rw [if_pos hj] at hu;rw [if_pos oQ,mI] at hy;exact h'.2 _ u y hu hy
 ·rw [if_neg hj] at hu;rw [if_neg oQ] at hy;exact h.2 j u y hu hy
theorem uS {n:Nat} {pl:List (Nat×Nat)} {place:Nat->Option (Nat×Nat)} (hp:∀ (i:Nat) x,pl[i]? =some x->place i=some x) (hE:zT φ n env a.tmps) (hg:RelG gm φ n) :
  ∀ (ps:List (Nat×Operand)) (cells:List AV) (ys:Array Value) (l:List AV),zT φ n cells ys->fillA pl cells (ps.map fun (i,x)=>(i,zI gm env x))=some l->∃ ys',Instr.fill place ys (ps.map fun (i,x)=>(i,a.eval x))=some ys'/\zT φ n l ys'
 | [],cells,ys,l,hc,h=>by
  simp only [List.map_nil,fillA] at h;cases h;exact ⟨ys,rfl,hc⟩
 | (i,x)::ps,cells,ys,l,hc,h=>by
  simp only [List.map_cons,fillA] at h;split at h
  ·rename_i off size hpl;split at h
   ·rename_i vs hvs;split at h
    ·rename_i hle;have hr:=uO hvs (zu hg hE x);have hlen:=hr.1;have hcl:=hc.1;have hset:=zhX hc hr (off:=off) oQ;obtain ⟨ys',h1,h2⟩:=uS hp hE hg ps _ _ l hset h;refine ⟨ys',?_,h2⟩;simp only [List.map_cons,Instr.fill,hp i _ hpl];rw [if_neg (by simp; omega),foldl_setCs'];exact h1
    ·cases h
   ·cases h
  ·cases h
theorem zcO:∀ (fs:List Field) (pl:List (Nat×Nat)),plcOf P fs=some pl->(∀ f∈fs,∃ i,P.info? f.type=some i)/\pl=fs.map fun f=>(f.offset,((P.info? f.type).map (·.size)).getD 0)
 | [],pl,h=>by cases h; exact ⟨fun f hf=>by simp at hf,rfl⟩
 | f::fs,pl,h=>by
  simp only [plcOf] at h;split at h
  ·rename_i g n l h1 h2;cases h;obtain ⟨i,d,e1,e2,e3,e4⟩:=yK h1;obtain ⟨h3,rfl⟩:=zcO fs l h2;refine ⟨fun f' hf'=>?_,?_⟩
   ·rcases List.mem_cons.1 hf' with rfl | hf'
    ·exact ⟨i,e1⟩
    ·exact h3 f' hf'
   ·simp [e1,e4]
  ·cases h
theorem zkK {t:TypeId} {parts:Array (Nat×Operand)} {z:List Value} {pl:List (Nat×Nat)} {l:List AV} (ho:o.op=.build t parts) (hz:tyZero P t=some z) (hp:bldOf P t=some pl) (h:fillA pl (z.map .v) (parts.toList.map fun (i,x)=>(i,zI gm env x))=some l) :
  OpOk P gm env A o (.agg l) A:=fun φ F H a hg hH hE=>by
 unfold execOp; rw [ho];obtain ⟨i,zv,e1,e2,e3⟩:=uB hz;have hzr:zT φ A.length (z.map .v) zv.cells:=by rw [<- e3]; exact zdr φ _ _
 have hpl:∀ x:Array (Nat×Value),True:=fun _=>trivial;have eparts:(parts.map fun (i,x)=>(i,a.eval x)).toList=parts.toList.map fun (i,x)=>(i,a.eval x):=by simp
 refine wpS_v ?_;unfold Instr.build;refine za _ _ _ (kc e1 e2 ?_);unfold bldOf at hp;split at hp
 ·rename_i fs hu;obtain ⟨h3,rfl⟩:=zcO _ _ hp;refine za _ _ _ (zz hu ?_);dsimp only;refine za _ _ _ (zdG (g:=fun f:Field=>(f.offset,((P.info? f.type).map (·.size)).getD 0)) fs (fun f hf Q hq=>?_) _ ?_)
  ·obtain ⟨ti,hti⟩:=h3 f hf;rw [hti] at hq;exact za _ _ _ (yu hti hq)
  ·obtain ⟨ys',h1,h2⟩:=uS (place:=fun i=>(fs.map fun f:Field=>(f.offset,((P.info? f.type).map (·.size)).getD 0))[i]?) (fun i x hx=>by
    rw [lQ,mI] at hx;rw [mJ];exact hx) hE hg parts.toList _ _ l hzr h
   rw [eparts];simp only [h1];exact zW.quiet hH (.agg h2.1 h2.2)
 ·rename_i n e hu;cases e4:tySize P e with
  | none=>rw [e4] at hp; cases hp
  | some x =>
   obtain ⟨g,k⟩:=x;rw [e4] at hp;cases hp;obtain ⟨ti,td,e5,_,_,e6⟩:=yK e4;refine za _ _ _ (zz hu ?_);dsimp only;refine za _ _ _ (yu e5 ?_);rw [e6];obtain ⟨ys',h1,h2⟩:=uS (place:=fun i=>some (i*k,k)) (fun i x hx=>by
    rw [lQ] at hx;cases e7:(List.range n)[i]? with
    | none=>rw [e7] at hx; cases hx
    | some q =>
     rw [e7] at hx;have:=lD.1 e7;obtain ⟨hlt,e8⟩:=this;simp at e8;subst e8;exact hx) hE hg parts.toList _ _ l hzr h
   rw [eparts];simp only [h1];exact zW.quiet hH (.agg h2.1 h2.2)
 ·cases hp
theorem zeQ {t e:TypeId} {len size:Nat} {parts:Array (Nat×Operand)} {z:List Value} {l:List AV} (ho:o.op=.buildSlice t len parts) (ht:slElem P t=some (e,size)) (hz:tyZero P e=some z) (hlen:len*size<=16777216) (hmax:len<=16777216)
  (h:fillA ((List.range len).map fun i=>(i*size,size)) (mB (len*size) .any) (parts.toList.map fun (i,x)=>(i,zI gm env x))=some l):OpOk P gm env A o (.row A.length len) (A++[.row l e size]):=fun φ F H a hg hH hE=>by
 unfold execOp; rw [ho];obtain ⟨ti,e1,e2,e3⟩:=wl ht;obtain ⟨i,zv,e4,e5,e6⟩:=uB hz;have eparts:(parts.map fun (i,x)=>(i,a.eval x)).toList=parts.toList.map fun (i,x)=>(i,a.eval x):=by simp
 refine wpS_v ?_;unfold Instr.buildSlice;refine za _ _ _ (zz e1 ?_);dsimp only;refine za _ _ _ (yu e2 ?_);rw [e3,if_neg oQ];have hend:∀ zero:Array Value,wpS P (do
   let some cells:=Instr.fill (fun i=>some (i*size,size)) ((Array.range (len*size)).map (zero[· % zero.size]!)) (parts.map fun (i,x)=>(i,a.eval x)).toList | stuck "buildSlice: a part of the wrong size"
   pure (Value.slice (some (<- newRow e cells)) len len)) H (fun v H'=>zW φ A F (.row A.length len) (A++[.row l e size]) (.value v) H'):=fun zero=>by
  have hr0:zT φ A.length (mB (len*size) .any) ((Array.range (len*size)).map (zero[· % zero.size]!)):=by
   refine ⟨by simp,fun j u y hu hy=>?_⟩;rw [List.getElem?_replicate] at hu;split at hu
   ·cases hu; exact .any _
   ·cases hu
  obtain ⟨ys',h1,h2⟩:=uS (place:=fun i=>some (i*size,size)) (fun i x hx=>by
   rw [lQ] at hx;cases e7:(List.range len)[i]? with
   | none=>rw [e7] at hx; cases hx
   | some q =>
    rw [e7] at hx;obtain ⟨hlt,e8⟩:=lD.1 e7;simp at e8;subst e8;exact hx) hE hg parts.toList _ _ l hr0 h
  have hl:l.length=len*size:=by
   have:∀ (ps:List (Nat×AV)) (c:List AV) l,fillA ((List.range len).map fun i=>(i*size,size)) c ps=some l->l.length=c.length:=by
    intro ps
    induction ps with
    | nil=>intro c l h; cases h; rfl
    | cons p ps ih =>
     intro c l h;obtain ⟨i,v⟩:=p;simp only [fillA] at h;split at h
     ·split at h
      ·split at h
       ·rw [ih _ _ h,uy]
       ·cases h
      ·cases h
     ·cases h
   rw [this _ _ _ h]; simp
  rw [eparts];simp only [h1];refine za _ _ _ ?_;refine za _ _ _ fun b hb=>?_;show zW φ A F _ _ (.value (.slice (some ⟨b,0,none⟩) len len)) (H.put b (true,.cells ys' e (0,0)));refine ⟨_,upd3 φ A.length ⟨b,0,len⟩,.inl rfl,yw _ _ _,by simp,hH.push hb Z ?_,?_⟩
  ·refine zcg (ys:=ys'.toList) (Hp.put_same _ _ _) Z (by rw [<- h2.1,hl]) (by show len<=maxLen; unfold maxLen; omega) ?_ (fun j y hy=>by rw [mI] at hy; exact hy) sQ;have:zT φ A.length l ys'.toList.toArray:=by simpa using h2
   exact this.mono (yw _ _ _) oQ
  ·refine RelV.row sQ (by simp [upd3]) ?_;unfold rowV;simp only [upd3,if_true];split
   ·rename_i e0;exact ⟨_,by rw [e0]⟩
   ·trivial
 split
 ·exact za _ _ _ (hend #[])
 ·exact za _ _ _ (kc e4 e5 (za _ _ _ (hend zv.cells)))
def isNilA:AV->Option Bool
 | .v (.slice none _ _)=>some true
 | .v (.nilFunc)=>some true
 | .v (.map none)=>some true
 | .v (.pointer none)=>some true
 | .sl _ _ n=>if 0<n then some false else none
 | .row _ n=>if 0<n then some false else none
 | .z0=>some false
 | .fn .. => some false
 | _=>none
end
def fr (kd:CallKind) (f:FuncId) (ro:Option Nat) (ts:Array Value) (ds:List Deferred) (todo:List Item):Frame:={ fn:=f,tmps:=ts,todo,defers:=ds,mode:=.run,kind:=kd,roundOf:=ro }
def evT (ts:Array Value):Operand->Value:=Act.eval ⟨ts,[]⟩
def putT (ts:Array Value) (d:Option Tmp) (v:Value):Array Value:=(Act.put ⟨ts,[]⟩ d v).tmps
theorem zdh (kd:CallKind) (f:FuncId) (ro:Option Nat) (ts:Array Value) (ds:List Deferred) (todo:List Item):(fr kd f ro ts ds todo).eval=evT ts:=by
 funext x;cases x <;> rfl
theorem kD (kd:CallKind) (f:FuncId) (ro:Option Nat) (ts:Array Value) (ds:List Deferred) (ops:Array Oper) (i:Nat) (rest:List Nat) (k:List Item) (v:Value):(fr kd f ro ts ds (.inRegion ops (i::rest)::k)).finish v=fr kd f ro (putT ts ((ops[i]?).bind (·.dst)) v) ds (.inRegion ops rest::k):=by
 cases h:(ops[i]?).bind (·.dst) <;> simp [Frame.finish,fr,putT,Act.put,h]
theorem zb9 {P:Program} {f:FuncId} {fn:Func} {c:Code} (args:Array Value) (hf:P.funcs[f]? =some fn) (hb:fn.body=some c):Frame.enter P f args .normal=fr .normal f none (args++Array.replicate (fn.ntmps - args.size) undef) [] [.code c]:=by
 simp [Frame.enter,hf,hb,fr]
def yc:Op->Bool | .defer _=>true | _=>false
section
variable {P:Program} {main:Bool} {T:Goroutine->Hp->Prop} {kd:CallKind} {f:FuncId} {ro:Option Nat} {ts:Array Value} {ds:List Deferred} {k:List Item} {cs:List Frame} {H:Hp} {w:World}
theorem zma:stepG P main (G (fr kd f ro ts ds (.code .skip::k)) cs) w=.go (G (fr kd f ro ts ds k) cs) w #[]:=by simp [G,stepG,stepG.exec,fr]
theorem zhY {id:Nat}:stepG P main (G (fr kd f ro ts ds (.inBlock id::k)) cs) w=.go (G (fr kd f ro ts ds k) cs) w #[]:=by simp [G,stepG,stepG.exec,fr]
theorem zk6 {l:Nat}:stepG P main (G (fr kd f ro ts ds (.code (.label l)::k)) cs) w=.go (G (fr kd f ro ts ds k) cs) w #[]:=by simp [G,stepG,stepG.exec,fr]
theorem zm3 {x y:Code}:stepG P main (G (fr kd f ro ts ds (.code (.seq x y)::k)) cs) w=.go (G (fr kd f ro ts ds (.code x::.code y::k)) cs) w #[]:=by simp [G,stepG,stepG.exec,fr]
theorem zl7 {c:Operand} {x y:Code} {t:Bool} (h:evT ts c=.bool t):stepG P main (G (fr kd f ro ts ds (.code (.cond c x y)::k)) cs) w=.go (G (fr kd f ro ts ds (.code (if t then x else y)::k)) cs) w #[]:=by
 have h':(fr kd f ro ts ds (.code (.cond c x y)::k)).eval c=.bool t:=by rw [zdh]; exact h
 simp only [fr] at h';simp [G,stepG,stepG.exec,fr,h']
theorem zk5 {id:Nat} {c:Code}:stepG P main (G (fr kd f ro ts ds (.code (.block id c)::k)) cs) w=.go (G (fr kd f ro ts ds (.code c::.inBlock id::k)) cs) w #[]:=by simp [G,stepG,stepG.exec,fr]
theorem zl9 {c:Code}:stepG P main (G (fr kd f ro ts ds (.code (.loop c)::k)) cs) w=.go (G (fr kd f ro ts ds (.code c::.inLoop c::k)) cs) w #[]:=by simp [G,stepG,stepG.exec,fr]
theorem zjE {c:Code}:stepG P main (G (fr kd f ro ts ds (.inLoop c::k)) cs) w=.go (G (fr kd f ro ts ds (.code c::.inLoop c::k)) cs) w #[]:=by simp [G,stepG,stepG.exec,fr]
theorem zl8 {id:Nat} {k':List Item} (h:exitTo id k=some k'):stepG P main (G (fr kd f ro ts ds (.code (.exit id)::k)) cs) w=.go (G (fr kd f ro ts ds k') cs) w #[]:=by simp [G,stepG,stepG.exec,fr,h]
theorem zjF {id:Nat} {ops:Array Oper}:stepG P main (G (fr kd f ro ts ds (.code (.region id ops false)::k)) cs) w=.go (G (fr kd f ro ts ds (.inRegion ops (List.range ops.size)::k)) cs) w #[]:=by simp [G,stepG,stepG.exec,fr]
theorem zdx {id:Nat} {ops:Array Oper}:stepG P main (G (fr kd f ro ts ds (.code (.region id ops true)::k)) cs) w=.go (G (fr kd f ro ts ds (.inRegion ops (Region.schedule (P.follows .mixedOrders) ops (w.tape w.drawn (.order f id)))::k)) cs) { w with drawn:=w.drawn+1 } #[]:=by
 simp [G,stepG,stepG.exec,fr,choose,Sem.run,Question.forced,Question.cut]
theorem vD {ops:Array Oper}:stepG P main (G (fr kd f ro ts ds (.inRegion ops []::k)) cs) w=.go (G (fr kd f ro ts ds k) cs) w #[]:=by simp [G,stepG,stepG.exec,fr]
theorem zc1:stepG P main (G (fr kd f none ts ds (.code .ret::k)) cs) w=.go (G { fr kd f none ts ds (.code .ret::k) with mode:=.returning } cs) w #[]:=by simp [G,stepG,stepG.exec,fr]
theorem zc0:stepG P main (G (fr kd f none ts ds []) cs) w=.go (G { fr kd f none ts ds [] with mode:=.returning } cs) w #[]:=by simp [G,stepG,stepG.exec,fr]
theorem zbJ {ops:Array Oper} {i:Nat} {rest:List Nat} {o:Oper} (ho:ops[i]? =some o) (hw:Region.wanted o (yielded ops ts)=false) :
  stepG P main (G (fr kd f ro ts ds (.inRegion ops (i::rest)::k)) cs) w=.go (G (fr kd f ro (putT ts o.dst undef) ds (.inRegion ops rest::k)) cs) w #[]:=by
 have hfin:=kD kd f ro ts ds ops i rest k undef;rw [ho] at hfin;simp only [Option.bind_some] at hfin;rw [<- hfin];simp [G,stepG,stepG.exec,fr,ho,hw]
theorem vb (hkd:kd≠.early) {ops:Array Oper} {i:Nat} {rest:List Nat} {o:Oper} (ho:ops[i]? =some o) (hw:Region.wanted o (yielded ops ts)=true) (hd:yc o.op=false) :
  stepG P main (G (fr kd f ro ts ds (.inRegion ops (i::rest)::k)) cs) w=stepG.apply P true (fr kd f ro ts ds (.inRegion ops (i::rest)::k)) cs none (execOp (evT ts) o) w:=by
 have he:=zdh kd f ro ts ds (.inRegion ops (i::rest)::k);simp only [fr] at he;obtain ⟨dst,op,ty,pos,after,guard⟩:=o;cases ro with
 | none=>simp [G,stepG,stepG.exec,stepG.oper,Frame.oper?,fr,ho,hw,he]
 | some l =>
  cases op <;> first | (simp [yc] at hd; done) | simp [G,stepG,stepG.exec,stepG.oper,Frame.oper?,fr,ho,hw,he]
def uponF (P:Program) (T:Goroutine->Hp->Prop) (kd:CallKind) (f:FuncId) (ro:Option Nat) (ts:Array Value) (ds:List Deferred) (k:List Item) (cs:List Frame) (ops:Array Oper) (i:Nat) (rest:List Nat) (o:Oper):Next->Hp->Prop
 | .value v,H=>T (G (fr kd f ro (putT ts o.dst v) ds (.inRegion ops rest::k)) cs) H
 | .skip,H=>T (G (fr kd f ro (putT ts o.dst undef) ds (.inRegion ops rest::k)) cs) H
 | .enter g args,H=>T (G (Frame.enter P g args .normal) (fr kd f ro ts ds (.inRegion ops (i::rest)::k)::cs)) H
 | .round l g us x y,H=>T (G (Frame.round l g us x y .normal) (fr kd f ro ts ds (.inRegion ops (i::rest)::k)::cs)) H
 | _,_=>False
theorem zh.opF (hT:zh P main T) (hkd:kd≠.early) {ops:Array Oper} {i:Nat} {rest:List Nat} {o:Oper} (ho:ops[i]? =some o) (hw:Region.wanted o (yielded ops ts)=true) (hd:yc o.op=false)
  (h:wpS P (execOp (evT ts) o) H (uponF P T kd f ro ts ds k cs ops i rest o)):T (G (fr kd f ro ts ds (.inRegion ops (i::rest)::k)) cs) H:=by
 refine hT _ _ Z fun w hf=>?_;obtain ⟨x,w',es,h1,h2,h3⟩:=kL _ _ _ w #[] h hf;rw [mK] at h1;have hrun:(execOp (evT ts) o).run P w=.ok x w':=by
  have:=Sem.runT_eq P (execOp (evT ts) o) w #[];rw [h1] at this;exact (congrArg Prod.fst this).symm
 have hev:(execOp (evT ts) o).events P w #[]=es:=by
  have:=Sem.runT_eq P (execOp (evT ts) o) w #[];rw [h1] at this;exact (congrArg Prod.snd this).symm
 have hS:StepH H w w' (seen P f es):=⟨h2.size,h2.kept,fun e he=>h2.evs e (mem_seen he),h2.os,h2.out,h2.tape⟩;have hfin:=fun v=>kD kd f ro ts ds ops i rest k v;simp only [ho,Option.bind_some] at hfin;cases x with
 | value v=>exact ⟨_,_,_,by rw [vb hkd ho hw hd]; simp only [stepG.apply,Sem.runT_eq,hrun,hev,hfin]; simp [fr,GStep.after,hkd]; try rfl,hS,rfl,h3⟩
 | skip=>exact ⟨_,_,_,by rw [vb hkd ho hw hd]; simp only [stepG.apply,Sem.runT_eq,hrun,hev,hfin]; simp [fr,GStep.after,hkd]; try rfl,hS,rfl,h3⟩
 | enter g args=>exact ⟨_,_,_,by rw [vb hkd ho hw hd]; simp only [stepG.apply,Sem.runT_eq,hrun,hev]; simp [fr,GStep.after,hkd]; try rfl,hS,rfl,h3⟩
 | round l g us x y=>exact ⟨_,_,_,by rw [vb hkd ho hw hd]; simp only [stepG.apply,Sem.runT_eq,hrun,hev]; simp [fr,GStep.after,hkd]; try rfl,hS,rfl,h3⟩
 | _=>exact h3.elim
theorem zh.ctlF (hT:zh P main T) {g g':Goroutine} (hr:g.status=.running) (h:∀ w,stepG P main g w=.go g' w #[]) (hr':g'.status=.running) (hn:T g' H):T g H:=hT.ctl hr h hr' hn
theorem zh.drawF (hT:zh P main T) {id:Nat} {ops:Array Oper} (h:∀ t,T (G (fr kd f ro ts ds (.inRegion ops (Region.schedule (P.follows .mixedOrders) ops t)::k)) cs) H):T (G (fr kd f ro ts ds (.code (.region id ops true)::k)) cs) H:=by
 refine hT _ _ Z fun w hf=>⟨_,_,_,zdx,?_,rfl,?_⟩
 ·have:=kx hf (es:=#[]) (fun e he=>by simp at he);exact ⟨this.size,this.kept,this.evs,this.os,this.out,this.tape⟩
 ·have hn:H.next w { w with drawn:=w.drawn+1 }=H:=zhK hf _;rw [hn]; exact h _
theorem zh.leaveF (hT:zh P main T) {fn:Func} {c:Frame} (hf:P.funcs[f]? =some fn) (h:wpS P (results fn ts) H fun v H'=>T (G (c.finish v) cs) H'):T (G { fr .normal f ro ts [] k with mode:=.returning } (c::cs)) H:=by
 refine hT _ _ Z fun w hw=>?_;obtain ⟨v,w',es,h1,h2,h3⟩:=kL _ _ _ w #[] h hw;rw [mK] at h1;have hS:StepH H w w' (seen P f es):=⟨h2.size,h2.kept,fun e he=>h2.evs e (mem_seen he),h2.os,h2.out,h2.tape⟩;refine ⟨_,_,_,?_,hS,rfl,h3⟩;simp only [G,stepG,unwind,doReturn,fr,hf,h1];simp [GStep.after]
end
inductive Leave:Option Code->List Item->Prop
 | fin:Leave none []
 | ret (k:List Item):Leave (some .ret) (.code .ret::k)
 | exit (id:Nat) (k:List Item):exitTo id k=none->Leave (some (.exit id)) (.code (.exit id)::k)
def dsC (φ:Nat->Loc3) (ds:List Nat):List Deferred:=ds.map fun i=>{ target:=.collected (φ i).blk,args:=#[] }
structure Cx (P:Program) (gm:Nat->Option Nat) (T:Goroutine->Hp->Prop) where
 main:Bool
 hT:zh P main T
 φ0:Nat->Loc3
 n0:Nat
 F:Hp
 kd:CallKind
 hkd:kd≠.early
 f:FuncId
 ro:Option Nat
 cs:List Frame
 L:Option Code->List Nat->List AV->List AObj->Prop
 hL:∀ j k ds env A φ H ts,Leave j k->L j ds env A->Agr φ0 φ n0->n0<=A.length->RelG gm φ A.length->(∀ d∈ds,d<A.length)->RelH φ A F H->zT φ A.length env ts->T (G (fr kd f ro ts (dsC φ ds) k) cs) H
def TA {P:Program} {gm:Nat->Option Nat} {T:Goroutine->Hp->Prop} (X:Cx P gm T) (ds:List Nat) (k:List Item) (env:List AV) (A:List AObj):Prop :=
 ∀ (φ:Nat->Loc3) (H:Hp) (ts:Array Value),Agr X.φ0 φ X.n0->X.n0<=A.length->RelG gm φ A.length->(∀ d∈ds,d<A.length)->RelH φ A X.F H->zT φ A.length env ts->T (G (fr X.kd X.f X.ro ts (dsC φ ds) k) X.cs) H
section
variable {P:Program} {gm:Nat->Option Nat} {T:Goroutine->Hp->Prop} {X:Cx P gm T} {ds:List Nat} {k:List Item} {env:List AV} {A:List AObj}
theorem TA.leave {j:Option Code} (hl:Leave j k) (h:X.L j ds env A):TA X ds k env A:=fun _ _ _ h1 h2 h3 h4 h5 h6=>X.hL j k ds env A _ _ _ hl h h1 h2 h3 h4 h5 h6
theorem TA.skip (h:TA X ds k env A):TA X ds (.code .skip::k) env A:=fun φ H ts h1 h2 h3 h4 h5 h6=>X.hT.ctlF rfl (fun _=>zma) rfl (h φ H ts h1 h2 h3 h4 h5 h6)
theorem TA.inBlock {id:Nat} (h:TA X ds k env A):TA X ds (.inBlock id::k) env A:=fun φ H ts h1 h2 h3 h4 h5 h6=>X.hT.ctlF rfl (fun _=>zhY) rfl (h φ H ts h1 h2 h3 h4 h5 h6)
theorem TA.label {l:Nat} (h:TA X ds k env A):TA X ds (.code (.label l)::k) env A:=fun φ H ts h1 h2 h3 h4 h5 h6=>X.hT.ctlF rfl (fun _=>zk6) rfl (h φ H ts h1 h2 h3 h4 h5 h6)
theorem TA.seq {x y:Code} (h:TA X ds (.code x::.code y::k) env A):TA X ds (.code (.seq x y)::k) env A:=fun φ H ts h1 h2 h3 h4 h5 h6=>X.hT.ctlF rfl (fun _=>zm3) rfl (h φ H ts h1 h2 h3 h4 h5 h6)
theorem TA.block {id:Nat} {c:Code} (h:TA X ds (.code c::.inBlock id::k) env A):TA X ds (.code (.block id c)::k) env A:=fun φ H ts h1 h2 h3 h4 h5 h6=>X.hT.ctlF rfl (fun _=>zk5) rfl (h φ H ts h1 h2 h3 h4 h5 h6)
theorem TA.loop {c:Code} (h:TA X ds (.code c::.inLoop c::k) env A):TA X ds (.code (.loop c)::k) env A:=fun φ H ts h1 h2 h3 h4 h5 h6=>X.hT.ctlF rfl (fun _=>zl9) rfl (h φ H ts h1 h2 h3 h4 h5 h6)
theorem TA.inLoop {c:Code} (h:TA X ds (.code c::.inLoop c::k) env A):TA X ds (.inLoop c::k) env A:=fun φ H ts h1 h2 h3 h4 h5 h6=>X.hT.ctlF rfl (fun _=>zjE) rfl (h φ H ts h1 h2 h3 h4 h5 h6)
theorem TA.exit {id:Nat} {k':List Item} (hk:exitTo id k=some k') (h:TA X ds k' env A):TA X ds (.code (.exit id)::k) env A:=fun φ H ts h1 h2 h3 h4 h5 h6=>X.hT.ctlF rfl (fun _=>zl8 hk) rfl (h φ H ts h1 h2 h3 h4 h5 h6)
theorem TA.region {id:Nat} {ops:Array Oper} (h:TA X ds (.inRegion ops (List.range ops.size)::k) env A):TA X ds (.code (.region id ops false)::k) env A:=fun φ H ts h1 h2 h3 h4 h5 h6=>X.hT.ctlF rfl (fun _=>zjF) rfl (h φ H ts h1 h2 h3 h4 h5 h6)
theorem TA.draw {id:Nat} {ops:Array Oper} (h:∀ t,TA X ds (.inRegion ops (Region.schedule (P.follows .mixedOrders) ops t)::k) env A):TA X ds (.code (.region id ops true)::k) env A:=fun φ H ts h1 h2 h3 h4 h5 h6=>X.hT.drawF fun t=>h t φ H ts h1 h2 h3 h4 h5 h6
theorem TA.regionEnd {ops:Array Oper} (h:TA X ds k env A):TA X ds (.inRegion ops []::k) env A:=fun φ H ts h1 h2 h3 h4 h5 h6=>X.hT.ctlF rfl (fun _=>vD) rfl (h φ H ts h1 h2 h3 h4 h5 h6)
theorem TA.cond {c:Operand} {x y:Code} (t:Bool) (hc:zI gm env c=.v (.bool t)) (h:TA X ds (.code (if t then x else y)::k) env A):TA X ds (.code (.cond c x y)::k) env A:=fun φ H ts h1 h2 h3 h4 h5 h6=>by
 have hr:=zu (a:=⟨ts,[]⟩) h3 h6 c;rw [hc] at hr;exact X.hT.ctlF rfl (fun _=>zl7 (inv_v hr)) rfl (h φ H ts h1 h2 h3 h4 h5 h6)
def yieldA (ops:Array Oper) (env:List AV) (j:Nat):Option (Option Bool):=match ((ops[j]?).bind (·.dst)).bind (env[·]?) with
 | some (.v (.bool b))=>some (some b)
 | some (.v (.tuple _))=>some none
 | _=>none
def yd (ops:Array Oper) (env:List AV) (o:Oper):Option Bool:=match o.guard with
 | none=>some true
 | some (j,want)=>match yieldA ops env j with | some y=>some (y==some want) | none=>none
theorem y9 {φ:Nat->Loc3} {n:Nat} {ops:Array Oper} {ts:Array Value} {o:Oper} {b:Bool} (hE:zT φ n env ts) (h:yd ops env o=some b):Region.wanted o (yielded ops ts)=b:=by
 unfold yd at h;unfold Region.wanted;split at h
 ·rename_i e; cases h; rw [e]
 ·rename_i j want e;split at h
  ·rename_i y e';cases h;rw [e];simp only;have:yielded ops ts j=y:=by
    unfold yieldA at e';unfold yielded;cases e3:(ops[j]?).bind (·.dst) with
    | none=>rw [e3] at e'; cases e'
    | some t =>
     rw [e3] at e';simp only [Option.bind_some] at e' ⊢;split at e'
     ·rename_i b'' e'';cases e';obtain ⟨y,hy,hr⟩:=hE.get e'';rw [hy,inv_v hr]
     ·rename_i b'' e'';cases e';obtain ⟨y,hy,hr⟩:=hE.get e'';rw [hy,inv_v hr]
     ·cases e'
   rw [this]
  ·cases h
theorem TA.op {ops:Array Oper} {i:Nat} {rest:List Nat} {o:Oper} {r:AV} {A':List AObj} (ho:ops[i]? =some o) (hd:yc o.op=false) (hw:yd ops env o=some true) (hok:OpOk P gm env A o r A') (h:TA X ds (.inRegion ops rest::k) (putA env o.dst r) A') :
  TA X ds (.inRegion ops (i::rest)::k) env A:=fun φ H ts h1 h2 h3 h4 h5 h6=>by
 refine X.hT.opF X.hkd ho (y9 h6 hw) hd (zav _ _ _ _ ?_ (hok φ X.F H ⟨ts,[]⟩ h3 h5 h6));rintro nx H' ⟨v,φ',hnx,hA,hlen,hH',hr⟩;have hE:=wG (a:=⟨ts,[]⟩) (h6.mono hA hlen) hr o.dst;have hds:dsC φ' ds=dsC φ ds:=by
  unfold dsC;refine mA fun d hd'=>?_;rw [hA d (h4 d hd')]
 have:=h φ' H' _ (h1.trans hA h2) oQ (h3.mono hA hlen) (fun d hd'=>mM (h4 d hd') hlen) hH' hE;rw [hds] at this;rcases hnx with rfl | ⟨rfl,rfl⟩ <;> exact this
theorem TA.unwanted {ops:Array Oper} {i:Nat} {rest:List Nat} {o:Oper} (ho:ops[i]? =some o) (hw:yd ops env o=some false) (h:TA X ds (.inRegion ops rest::k) (putA env o.dst (.v undef)) A) :
  TA X ds (.inRegion ops (i::rest)::k) env A:=fun φ H ts h1 h2 h3 h4 h5 h6=>by
 refine X.hT.ctlF Z (fun _=>zbJ ho (y9 h6 hw)) rfl ?_;exact h φ H _ h1 h2 h3 h4 h5 (wG (a:=⟨ts,[]⟩) h6 (.v undef) o.dst)
def CallT (P:Program) (T:Goroutine->Hp->Prop) (gm:Nat->Option Nat) (g:FuncId) (args:List AV) (A:List AObj) (Post:AV->List AObj->Prop):Prop :=
 ∀ (φ:Nat->Loc3) (F H:Hp) (vs:Array Value) (c:Frame) (cs:List Frame),RelG gm φ A.length->RelH φ A F H->zT φ A.length args vs ->
  (∀ r A' φ' H' v,Post r A'->Agr φ φ' A.length->A.length<=A'.length->RelH φ' A' F H'->RelV φ' A'.length r v->T (G (c.finish v) cs) H')->T (G (Frame.enter P g vs .normal) (c::cs)) H
theorem CallT.mono {g:FuncId} {args:List AV} {Post Post':AV->List AObj->Prop} (h:CallT P T gm g args A Post) (hp:∀ r A',Post r A'->Post' r A'):CallT P T gm g args A Post' :=
 fun φ F H vs c cs h1 h2 h3 k=>h φ F H vs c cs h1 h2 h3 fun r A' φ' H' v x=>k r A' φ' H' v (hp r A' x)
def ym (P:Program) (g:FuncId):Bool:=match P.funcs[g]? with
 | some fn => !(fn.name == "runtime.NumGoroutine")&&fn.body.isSome
 | none=>false
theorem wU {P:Program} {H:Hp} {g:FuncId} (hc:ym P g=true) (args:Array Value) {Q:Next->Hp->Prop} (hq:Q (.enter g args) H):wpS P (callFunc g args) H Q:=by
 unfold ym at hc;split at hc
 ·rename_i fn e;simp only [Bool.and_eq_true,Bool.not_eq_true'] at hc;show wpS P (match P.funcs[g]? with | none=>_ | some fn=>_) H Q;rw [e];simp only [hc.1,mU,if_false];have hb:fn.body.isNone=false:=by
   cases e':fn.body with
   | none=>rw [e'] at hc; simp at hc
   | some _=>rfl
  simp only [hb,mU,if_false];exact hq
 ·cases hc
theorem kT {φ:Nat->Loc3} {n:Nat} {l l':List AV} {ys ys':Array Value} (h:zT φ n l ys) (h':zT φ n l' ys'):zT φ n (l++l') (ys++ys'):=by
 have:=vi (ys:=ys.toList) (ys':=ys'.toList) (by simpa using h) (by simpa using h');have e:(ys.toList++ys'.toList).toArray=ys++ys':=by
  apply Array.ext';simp
 rwa [e] at this
theorem TA.call {ops:Array Oper} {i:Nat} {rest:List Nat} {o:Oper} {fo:Operand} {ars:Array Operand} {at_:Array TypeId} {g:FuncId} {fs cp:List AV} {args:List AV} {Post:AV->List AObj->Prop} (ho:ops[i]? =some o) (hop:o.op=.call { callee:=.value fo,args:=ars,argTypes:=at_ })
  (hw:yd ops env o=some true) (hf:zI gm env fo=.fn g fs cp) (hg:ym P g=true) (hargs:fs++ars.toList.map (zI gm env)++cp=args) (hc:CallT P T gm g args A Post) (h:∀ r A',Post r A'->TA X ds (.inRegion ops rest::k) (putA env o.dst r) A') :
  TA X ds (.inRegion ops (i::rest)::k) env A:=fun φ H ts h1 h2 h3 h4 h5 h6=>by
 refine X.hT.opF X.hkd ho (y9 h6 hw) (by rw [hop]; rfl) ?_;have hfo:=zu (a:=⟨ts,[]⟩) h3 h6 fo;rw [hf] at hfo;obtain ⟨xs,ys,e,hr1,hr2⟩:=zaQ hfo;unfold execOp;rw [hop];dsimp only;refine za _ _ _ ?_;show wpS P (Deferred.ofValue (Act.eval ⟨ts,[]⟩ fo) (ars.map (evT ts))) H _;rw [e];show wpS P (callFunc g ((xs++ars.map (evT ts))++ys)) H _;refine wU hg _ ?_;show T (G (Frame.enter P g _ .normal) (_::X.cs)) H;have hrel:zT φ A.length args ((xs++ars.map (evT ts))++ys):=by
  rw [<- hargs];exact kT (kT hr1 (ua (a:=⟨ts,[]⟩) h3 h6 ars)) hr2
 refine hc φ X.F H _ _ _ h3 h5 hrel fun r A' φ' H' v hp hA hlen hH' hr=>?_;have hfin:=kD X.kd X.f X.ro ts (dsC φ ds) ops i rest k v;simp only [ho,Option.bind_some] at hfin;rw [hfin];have hE:=wG (a:=⟨ts,[]⟩) (h6.mono hA hlen) hr o.dst;have hds:dsC φ' ds=dsC φ ds:=by
  unfold dsC;refine mA fun d hd'=>?_;rw [hA d (h4 d hd')]
 have:=h r A' hp φ' H' _ (h1.trans hA h2) oQ (h3.mono hA hlen) (fun d hd'=>mM (h4 d hd') hlen) hH' hE;rw [hds] at this;exact this
end
def varA (P:Program) (A:List AObj) (t:TypeId):AV->Option AV
 | .ptr i off=>match tySize P t with
  | some (true,n)=>match loadA A i off n with | some l=>some (.agg l) | none=>none
  | some (false,_)=>match loadA A i off 1 with | some [u]=>some u | _=>none
  | none=>none
 | _=>none
def resA1 (P:Program) (env:List AV) (A:List AObj):ResultVar->Option AV
 | .tmp t=>some (env.getD t .any)
 | .cell a t=>varA P A t (env.getD a .any)
def resAs (P:Program) (env:List AV) (A:List AObj):List ResultVar->Option (List AV)
 | []=>some []
 | v::vs=>match resA1 P env A v,resAs P env A vs with
  | some r,some rs=>some (r::rs)
  | _,_=>none
def resA (P:Program) (rs:List ResultVar) (env:List AV) (A:List AObj):Option AV:=match resAs P env A rs with
 | some [r]=>some r
 | some rs=>some (.tup rs)
 | none=>none
section
variable {P:Program} {gm:Nat->Option Nat} {φ:Nat->Loc3} {A A':List AObj} {F H:Hp} {env:List AV} {ts:Array Value}
theorem zgI {t:TypeId} {i off:Nat} {r:AV} (hi:i<A.length) (hH:RelH φ A F H) (h:varA P A t (.ptr i off)=some r) {Q:Value->Hp->Prop} (hq:∀ v,RelV φ A.length r v->Q v H) :
  wpS P (loadVar t ⟨(φ i).blk,(φ i).base+off,none⟩) H Q:=by
 unfold varA at h;unfold loadVar;dsimp only at h;split at h
 ·rename_i n e2;obtain ⟨ti,td,e5,e7,e8,e6⟩:=yK e2;split at h
  ·rename_i l hl;cases h;obtain ⟨_,rw',cur,e,fz,ys,hb,hn,hr,hc⟩:=vt hH hl;refine za _ _ _ (vz e7 ?_);rw [e8,if_pos rfl];refine za _ _ _ (yu e5 ?_);rw [e6,<- hn];exact za _ _ _ (wt hb ys hc (hq _ (.agg hr.1 hr.2)))
  ·cases h
 ·rename_i n e2;obtain ⟨ti,td,e5,e7,e8,e6⟩:=yK e2;split at h
  ·rename_i u hl;cases h;obtain ⟨_,rw',cur,e,fz,ys,hb,hn,hr,hc⟩:=vt hH hl;refine za _ _ _ (vz e7 ?_);rw [e8,if_neg sQ];obtain ⟨y,rfl⟩:∃ y,ys=[y]:=by
    cases ys with
    | nil=>simp at hn
    | cons y ys=>cases ys with
     | nil=>exact ⟨y,rfl⟩
     | cons z zs=>simp at hn
   exact ⟨rw',cur,e,fz,y,hb,rfl,hc 0 y rfl,hq _ (hr.2 0 r y rfl rfl)⟩
  ·cases h
 ·cases h
theorem zle (hH:RelH φ A F H) (hE:zT φ A.length env ts) {v:ResultVar} {r:AV} (h:resA1 P env A v=some r) {Q:Value->Hp->Prop} (hq:∀ y,RelV φ A.length r y->Q y H) :
  wpS P (match v with | .tmp t=>pure (ts.getD t undef) | .cell a t=>do loadVar t (<- asAddr (ts.getD a undef))) H Q:=by
 cases v with
 | tmp t =>
  cases h;exact hq _ (zu (gm:=fun _=>none) (a:=⟨ts,[]⟩) (fun g i e=>by cases e) hE (.tmp t))
 | cell a t =>
  have hr:=zu (gm:=fun _=>none) (a:=⟨ts,[]⟩) (fun g i e=>by cases e) hE (.tmp a);simp only [zI,Act.eval] at hr;have hptr:∃ i off,env.getD a .any=.ptr i off:=by
   unfold resA1 varA at h;dsimp only at h;split at h
   ·rename_i e; exact ⟨_,_,e⟩
   ·cases h
  obtain ⟨i,off,e⟩:=hptr;rw [e] at hr;obtain ⟨hi,e2⟩:=wC hr;dsimp only;rw [e2];refine za _ _ _ ?_;refine zgI hi hH ?_ hq;have h':varA P A t (env.getD a .any)=some r:=h;rw [e] at h';exact h'
theorem uC (hH:RelH φ A F H) (hE:zT φ A.length env ts):∀ (vs:List ResultVar) (rs:List AV),resAs P env A vs=some rs->∀ (Q:List Value->Hp->Prop),(∀ ys:List Value,zT φ A.length rs ys.toArray->Q ys H) ->
  wpS P (vs.mapM fun | .tmp t=>pure (ts.getD t undef) | .cell a t=>do loadVar t (<- asAddr (ts.getD a undef))) H Q
 | [],rs,h,Q,hq=>by
  cases h;rw [List.mapM_nil];exact hq [] (wv _ _)
 | v::vs,rs,h,Q,hq=>by
  simp only [resAs] at h;split at h
  ·rename_i r rs' h1 h2;cases h;rw [List.mapM_cons];refine za _ _ _ (zle hH hE h1 fun y hy=>?_);refine za _ _ _ (uC hH hE vs rs' h2 _ fun ys hys=>?_);refine hq (y::ys) ?_;have:=vi (ys:=[y]) (y6 hy) hys;exact this
  ·cases h
theorem uD {fn:Func} {r:AV} (hH:RelH φ A F H) (hE:zT φ A.length env ts) (h:resA P fn.results.toList env A=some r) {Q:Value->Hp->Prop} (hq:∀ y,RelV φ A.length r y->Q y H):wpS P (results fn ts) H Q:=by
 unfold results;refine za _ _ _ ?_;rw [Array.mapM_eq_mapM_toList];unfold resA at h;split at h
 ·rename_i r' e;cases h;refine zdH _ _ _ (uC hH hE _ _ e _ fun ys hys=>?_);obtain ⟨y,rfl⟩:∃ y,ys=[y]:=by
   have:=hys.1;cases ys with
   | nil=>simp at this
   | cons y ys=>cases ys with
    | nil=>exact ⟨y,rfl⟩
    | cons z zs=>simp at this
  exact hq y (hys.2 0 r y rfl rfl)
 ·rename_i rs hne e;cases h;refine zdH _ _ _ (uC hH hE _ _ e _ fun ys hys=>?_);have hlen:ys.toArray.size≠1:=by
   intro h1;have:=hys.1;rw [h1] at this;cases rs with
   | nil=>simp at this
   | cons u us=>cases us with
    | nil=>exact hne u rfl
    | cons u' us=>simp at this
  show Q (if h:ys.toArray.size=1 then ys.toArray[0] else .tuple ys.toArray) H;rw [dif_neg hlen];exact hq _ (.tup hys.1 hys.2)
 ·cases h
end
section
variable {P:Program} {gm:Nat->Option Nat} {T:Goroutine->Hp->Prop}
theorem vI {φ:Nat->Loc3} {n:Nat} {args:List AV} {vs:Array Value} (h:zT φ n args vs) (m:Nat):zT φ n (args++mB (m - args.length) .any) (vs++Array.replicate (m - vs.size) undef):=by
 refine kT h ⟨by simp [h.1],fun j a y ha _=>?_⟩;rw [List.getElem?_replicate] at ha;split at ha
 ·cases ha; exact .any _
 ·cases ha
theorem zgh {main:Bool} (hT:zh P main T) {g:FuncId} {fn:Func} {c:Code} {args:List AV} {A:List AObj} {Post:AV->List AObj->Prop} (hf:P.funcs[g]? =some fn) (hb:fn.body=some c)
  (h:∀ X:Cx P gm T,(∀ env A' r,resA P fn.results.toList env A'=some r->Post r A'->X.L (some .ret) [] env A')->(∀ env A' r,resA P fn.results.toList env A'=some r->Post r A'->X.L none [] env A') ->
   TA X [] [.code c] (args++mB (fn.ntmps - args.length) .any) A):CallT P T gm g args A Post:=by
 intro φ F H vs c0 cs hg hH hargs hfin;have hleave:∀ (k:List Item) (env:List AV) (A':List AObj) (φ':Nat->Loc3) (H':Hp) (ts:Array Value) (r:AV),resA P fn.results.toList env A'=some r->Post r A'->Agr φ φ' A.length->A.length<=A'.length->RelH φ' A' F H'->zT φ' A'.length env ts ->
   T (G { fr .normal g none ts [] k with mode:=.returning } (c0::cs)) H':=fun k env A' φ' H' ts r hr hp hA hlen hH' hE =>
  hT.leaveF hf (uD hH' hE hr fun y hy=>hfin r A' φ' H' y hp hA hlen hH' hy)
 let X:Cx P gm T:={
  main,hT,φ0:=φ,n0:=A.length,F,kd:=.normal,hkd:=(fun h=>by cases h),f:=g,ro:=none,cs:=c0::cs
  L:=fun j ds env A'=>(j=none\/j=some .ret)/\ds=[]/\∃ r,resA P fn.results.toList env A'=some r/\Post r A'
  hL:=by
   rintro j k ds env A' φ' H' ts hl ⟨hj,rfl,r,hr,hp⟩ hA hlen hg' _ hH' hE;cases hl with
   | fin=>exact hT.ctlF rfl (fun _=>zc0) rfl (hleave _ env A' φ' H' ts r hr hp hA hlen hH' hE)
   | ret k=>exact hT.ctlF rfl (fun _=>zc1) rfl (hleave _ env A' φ' H' ts r hr hp hA hlen hH' hE)
   | exit id k _=>rcases hj with hj | hj <;> cases hj }
 rw [zb9 vs hf hb];exact h X (fun env A' r hr hp=>⟨.inr rfl,rfl,r,hr,hp⟩) (fun env A' r hr hp=>⟨.inl rfl,rfl,r,hr,hp⟩) φ H _ (Agr.refl _ _) (mL _) hg (fun d hd=>by cases hd) hH (vI hargs _)
variable {X:Cx P gm T} {ds:List Nat} {k:List Item} {env:List AV} {A:List AObj}
theorem TA.loopN {c:Code} (I:Nat->List AV->List AObj->Prop) (n:Nat) (h0:I n env A)
  (round:∀ n env A,I n env A->(∀ n' env' A',n'<n->I n' env' A'->TA X ds (.inLoop c::k) env' A')->TA X ds (.code c::.inLoop c::k) env A):TA X ds (.code (.loop c)::k) env A:=by
 refine TA.loop ?_;have key:∀ n env A,I n env A->TA X ds (.code c::.inLoop c::k) env A:=by
  intro n
  induction n using Nat.strongRecOn with
  | _ n ih =>
   intro env A hI;exact round n env A hI fun n' env' A' hlt hI'=>TA.inLoop (ih n' hlt env' A' hI')
 exact key n env A h0
def maskA:List Bool->List AV->List AV
 | true::bs,a::l=>a::maskA bs l
 | false::bs,_::l=>.any::maskA bs l
 | [],l=>l
 | _,[]=>[]
theorem zaU:∀ (bs:List Bool) (l:List AV),(maskA bs l).length=l.length
 | [],l=>by simp [maskA]
 | true::bs,[]=>rfl
 | false::bs,[]=>rfl
 | true::bs,a::l=>by simp [maskA,zaU bs l]
 | false::bs,a::l=>by simp [maskA,zaU bs l]
theorem zaT:∀ (bs:List Bool) (l:List AV) (j:Nat) a,(maskA bs l)[j]? =some a->a=.any\/l[j]? =some a
 | [],l,j,a,h=>.inr (by simpa [maskA] using h)
 | true::bs,[],j,a,h=>by simp [maskA] at h
 | false::bs,[],j,a,h=>by simp [maskA] at h
 | true::bs,b::l,0,a,h=>.inr h
 | false::bs,b::l,0,a,h=>by simp [maskA] at h; exact .inl h.symm
 | true::bs,b::l,j+1,a,h=>zaT bs l j a (by simpa [maskA] using h)
 | false::bs,b::l,j+1,a,h=>zaT bs l j a (by simpa [maskA] using h)
theorem TA.mask (bs:List Bool) (h:TA X ds k (maskA bs env) A):TA X ds k env A:=fun φ H ts h1 h2 h3 h4 h5 h6=>by
 refine h φ H ts h1 h2 h3 h4 h5 ⟨(zaU bs env).trans h6.1,fun j a y ha hy=>?_⟩;rcases zaT bs env j a ha with rfl | ha'
 ·exact .any _
 ·exact h6.2 j a y ha' hy
end
section
variable {P:Program} {gm:Nat->Option Nat} {T:Goroutine->Hp->Prop} {X:Cx P gm T} {ds:List Nat} {k:List Item} {env env':List AV} {A A' A'':List AObj}
end
abbrev KV:=List (Nat×AObj)
def zP (K:KV) (A:List AObj):Prop:=∀ x∈K,A[x.1]? =some x.2
def keys (K:KV):List Nat:=K.map (·.1)
theorem yB {K:KV} {x:Nat×AObj} (h:x∈K):x.1∈keys K:=List.mem_map_of_mem (f:=fun x:Nat×AObj=>x.1) h
theorem mem_keys' {K:KV} {i:Nat} {o:AObj} (h:(i,o)∈K):i∈keys K:=yB h
theorem yn (K L:KV):keys (K++L)=keys K++keys L:=List.map_append
theorem zL {K L:KV} (h:K.Perm L):(keys K).Perm (keys L):=h.map _
theorem zd6 (x:Nat×AObj) (K:KV):keys (x::K)=x.1::keys K:=rfl
theorem zP.get {K:KV} {A:List AObj} (h:zP K A) {i:Nat} {o:AObj} (hm:(i,o)∈K):A[i]? =some o:=h _ hm
theorem zP.sub {K K':KV} {A:List AObj} (h:zP K A) (hs:∀ x∈K',x∈K):zP K' A:=fun x hx=>h x (hs x hx)
theorem zP.lt {K:KV} {A:List AObj} (h:zP K A) {i:Nat} (hi:i∈keys K):i<A.length:=by
 obtain ⟨x,hx,rfl⟩:=List.mem_map.1 hi;exact (List.getElem?_eq_some_iff.1 (h x hx)).1
theorem zP.push {K:KV} {A:List AObj} (h:zP K A) (l:List AObj):zP K (A++l):=fun x hx=>by
 rw [List.getElem?_append_left (h.lt (yB hx))]; exact h x hx
inductive Upd:KV->Nat->AObj->Nat->AObj->KV->Prop
 | head {i j:Nat} {o o':AObj} {K:KV}:Upd ((i,o)::K) i o j o' ((j,o')::K)
 | tail {i j:Nat} {o o':AObj} {x:Nat×AObj} {K K':KV}:Upd K i o j o' K'->Upd (x::K) i o j o' (x::K')
theorem uQ {K K':KV} {i j:Nat} {o o':AObj} (h:Upd K i o j o' K':=by repeat (first | exact Upd.head | apply Upd.tail)):Upd K i o j o' K':=h
theorem Upd.mem {K K':KV} {i j:Nat} {o o':AObj} (h:Upd K i o j o' K'):(i,o)∈K:=by
 induction h with
 | head=>simp
 | tail _ ih=>simp [ih]
theorem Upd.mem' {K K':KV} {i j:Nat} {o o':AObj} (h:Upd K i o j o' K'):∀ x∈K',x=(j,o')\/(x∈K/\((keys K).Nodup->x.1≠i)):=by
 induction h with
 | @head i j o o' K =>
  intro x hx;rcases List.mem_cons.1 hx with rfl | hx
  ·exact .inl rfl
  ·refine .inr ⟨by simp [hx],fun hn=>?_⟩;have h1:=(List.nodup_cons.1 hn).1;intro e;exact h1 (by have:=yB hx; rw [e] at this; exact this)
 | @tail i j o o' y K K' hu ih =>
  intro x hx;rcases List.mem_cons.1 hx with rfl | hx
  ·refine .inr ⟨by simp,fun hn e=>?_⟩;have h1:=(List.nodup_cons.1 hn).1;have:=hu.mem;exact h1 (by show x.1∈keys K; rw [e]; exact mem_keys' this)
  ·rcases ih x hx with h1 | ⟨h1,h2⟩
   ·exact .inl h1
   ·exact .inr ⟨by simp [h1],fun hn=>h2 (List.nodup_cons.1 hn).2⟩
theorem Upd.keys {K K':KV} {i j:Nat} {o o':AObj} (h:Upd K i o j o' K'):∀ k∈keys K',k=j\/k∈keys K:=fun k hk=>by
 obtain ⟨x,hx,rfl⟩:=List.mem_map.1 hk;rcases h.mem' x hx with rfl | ⟨h1,_⟩
 ·exact .inl rfl
 ·exact .inr (yB h1)
theorem Upd.nodup {K K':KV} {i j:Nat} {o o':AObj} (h:Upd K i o j o' K') (hn:(Go.Vel.keys K).Nodup) (hj:j=i\/j∉Go.Vel.keys K):(Go.Vel.keys K').Nodup:=by
 induction h with
 | @head i j o o' K =>
  have h1:=List.nodup_cons.1 hn;refine List.nodup_cons.2 ⟨?_,h1.2⟩;rcases hj with rfl | hj
  ·exact h1.1
  ·exact fun hm=>hj (List.mem_cons_of_mem _ hm)
 | @tail i j o o' y K K' hu ih =>
  have h1:=List.nodup_cons.1 hn;refine List.nodup_cons.2 ⟨fun hm=>?_,ih h1.2 (hj.imp id fun h hm=>h (List.mem_cons_of_mem _ hm))⟩;rcases hu.keys _ hm with e | hm
  ·rcases hj with rfl | hj
   ·exact h1.1 (by rw [e]; exact mem_keys' hu.mem)
   ·exact hj (by rw [<- e]; exact List.mem_cons_self)
  ·exact h1.1 hm
theorem zP.set {K K':KV} {A:List AObj} {i:Nat} {o o':AObj} (h:zP K A) (hu:Upd K i o i o' K') (hn:(keys K).Nodup):zP K' (A.set i o'):=fun x hx=>by
 rcases hu.mem' x hx with rfl | ⟨h1,h2⟩
 ·exact List.getElem?_set_self (h.lt (mem_keys' hu.mem))
 ·rw [List.getElem?_set_ne (Ne.symm (h2 hn))]; exact h x h1
theorem zP.renew {K K':KV} {A:List AObj} {i:Nat} {o o':AObj} (h:zP K A) (hu:Upd K i o A.length o' K') (hn:(keys K).Nodup):zP K' (A.set i .gone++[o']):=fun x hx=>by
 rcases hu.mem' x hx with rfl | ⟨h1,h2⟩
 ·rw [List.getElem?_append_right sQ]; simp
 ·have:=h.lt (yB h1);rw [List.getElem?_append_left (by simpa using this),List.getElem?_set_ne (Ne.symm (h2 hn))]; exact h x h1
inductive Rem:KV->(Nat×AObj)->KV->Prop
 | head {x:Nat×AObj} {K:KV}:Rem (x::K) x K
 | tail {x y:Nat×AObj} {K R:KV}:Rem K x R->Rem (y::K) x (y::R)
theorem Rem.perm {K R:KV} {x:Nat×AObj} (h:Rem K x R):K.Perm (x::R):=by
 induction h with
 | head=>exact .refl _
 | tail _ ih=>exact (List.Perm.cons _ ih).trans (.swap _ _ _)
inductive Split:KV->KV->KV->Prop
 | rem {x:Nat×AObj} {K K1 L R:KV}:Rem K x K1->Split K1 L R->Split K (x::L) R
 | none (K:KV):Split K [] K
 | all (K:KV):Split K K []
 | left {x:Nat×AObj} {K L R:KV}:Split K L R->Split (x::K) (x::L) R
 | right {x:Nat×AObj} {K L R:KV}:Split K L R->Split (x::K) L (x::R)
theorem Split.perm {K L R:KV} (h:Split K L R):K.Perm (L++R):=by
 induction h with
 | rem h1 _ ih=>exact h1.perm.trans (.cons _ ih)
 | none K=>exact .refl _
 | all K=>rw [List.append_nil]
 | left _ ih=>exact .cons _ ih
 | right _ ih=>exact (List.Perm.cons _ ih).trans List.perm_middle.symm
section
variable {P:Program} {gm:Nat->Option Nat} {T:Goroutine->Hp->Prop}
structure KX (P:Program) (gm:Nat->Option Nat) (T:Goroutine->Hp->Prop) where
 X:Cx P gm T
 A0:List AObj
 K0:List Nat
structure Kn (Y:KX P gm T) (K:KV) (A:List AObj):Prop where
 view:zP K A
 nd:(keys K).Nodup
 own:∀ i∈keys K,i∈Y.K0\/Y.A0.length<=i
 kept:∀ j,j<Y.A0.length->j∉Y.K0->A[j]? =Y.A0[j]?
 len:Y.A0.length<=A.length
structure Kstep (K:KV) (A:List AObj) (K':KV) (A':List AObj):Prop where
 view:zP K' A'
 nd:(keys K').Nodup
 own:∀ i∈keys K',i∈keys K\/A.length<=i
 kept:∀ j,j<A.length->j∉keys K->A'[j]? =A[j]?
 len:A.length<=A'.length
theorem Kn.step {Y:KX P gm T} {K K':KV} {A A':List AObj} (h:Kn Y K A) (hs:Kstep K A K' A'):Kn Y K' A':=by
 refine ⟨hs.view,hs.nd,fun i hi=>?_,fun j hj hn=>?_,Nat.le_trans h.len hs.len⟩
 ·rcases hs.own i hi with h1 | h1
  ·exact h.own i h1
  ·exact .inr (Nat.le_trans h.len h1)
 ·rw [hs.kept j (Nat.lt_of_lt_of_le hj h.len) (fun hm=>?_)]
  ·exact h.kept j hj hn
  ·rcases h.own j hm with h1 | h1
   ·exact hn h1
   ·omega
theorem Kstep.same {K:KV} {A:List AObj} (hv:zP K A) (hn:(keys K).Nodup):Kstep K A K A:=⟨hv,hn,fun _ h=>.inl h,fun _ _ _=>rfl,Nat.le_refl _⟩
theorem Kstep.push {K:KV} {A:List AObj} (hv:zP K A) (hn:(keys K).Nodup) (o:AObj):Kstep K A ((A.length,o)::K) (A++[o]):=by
 refine ⟨fun x hx=>?_,?_,fun i hi=>?_,fun j hj _=>List.getElem?_append_left hj,by simp⟩
 ·rcases List.mem_cons.1 hx with rfl | hx
  ·rw [List.getElem?_append_right (Nat.le_refl _)]; simp
  ·exact hv.push _ x hx
 ·refine List.nodup_cons.2 ⟨fun hm=>?_,hn⟩;exact Nat.lt_irrefl _ (hv.lt (i:=A.length) hm)
 ·rcases List.mem_cons.1 hi with rfl | hi
  ·exact .inr (Nat.le_refl _)
  ·exact .inl hi
theorem Kstep.set {K K':KV} {A:List AObj} {i:Nat} {o o':AObj} (hv:zP K A) (hn:(keys K).Nodup) (hu:Upd K i o i o' K'):Kstep K A K' (A.set i o'):=by
 refine ⟨hv.set hu hn,hu.nodup hn (.inl Z),fun k hk=>.inl ?_,fun j _ hj=>?_,by simp⟩
 ·rcases hu.keys k hk with rfl | h
  ·exact mem_keys' hu.mem
  ·exact h
 ·exact List.getElem?_set_ne (fun e=>hj (by rw [<- e]; exact mem_keys' hu.mem))
theorem Kstep.renew {K K':KV} {A:List AObj} {i:Nat} {o o':AObj} (hv:zP K A) (hn:(keys K).Nodup) (hu:Upd K i o A.length o' K'):Kstep K A K' (A.set i .gone++[o']):=by
 have hi:i∈keys K:=mem_keys' hu.mem;refine ⟨hv.renew hu hn,hu.nodup hn (.inr fun hm=>?_),fun k hk=>?_,fun j hj1 hj=>?_,by simp⟩
 ·have:=hv.lt hm; omega
 ·rcases hu.keys k hk with rfl | h
  ·exact .inr (Nat.le_refl _)
  ·exact .inl h
 ·rw [List.getElem?_append_left (by simpa using hj1),List.getElem?_set_ne (fun e=>hj (by rw [<- e]; exact hi))]
def TK (Y:KX P gm T) (ds:List Nat) (k:List Item) (env:List AV) (K:KV):Prop:=∀ A,Kn Y K A->TA Y.X ds k env A
def OpK (P:Program) (gm:Nat->Option Nat) (env:List AV) (K:KV) (o:Oper) (Q:AV->KV->Prop):Prop :=
 ∀ A,zP K A->(keys K).Nodup->∃ r A' K',OpOk P gm env A o r A'/\Kstep K A K' A'/\Q r K'
variable {Y:KX P gm T} {ds:List Nat} {k:List Item} {env env':List AV} {K K':KV} {ops:Array Oper} {i:Nat} {rest:List Nat} {o:Oper} {r:AV}
theorem TK.skip (h:TK Y ds k env K):TK Y ds (.code .skip::k) env K:=fun A hA=>(h A hA).skip
theorem TK.inBlock {id:Nat} (h:TK Y ds k env K):TK Y ds (.inBlock id::k) env K:=fun A hA=>(h A hA).inBlock
theorem TK.label {l:Nat} (h:TK Y ds k env K):TK Y ds (.code (.label l)::k) env K:=fun A hA=>(h A hA).label
theorem TK.seq {x y:Code} (h:TK Y ds (.code x::.code y::k) env K):TK Y ds (.code (.seq x y)::k) env K:=fun A hA=>(h A hA).seq
theorem TK.block {id:Nat} {c:Code} (h:TK Y ds (.code c::.inBlock id::k) env K):TK Y ds (.code (.block id c)::k) env K:=fun A hA=>(h A hA).block
theorem TK.inLoop {c:Code} (h:TK Y ds (.code c::.inLoop c::k) env K):TK Y ds (.inLoop c::k) env K:=fun A hA=>(h A hA).inLoop
theorem TK.exit {id:Nat} {k':List Item} (hk:exitTo id k=some k') (h:TK Y ds k' env K):TK Y ds (.code (.exit id)::k) env K:=fun A hA=>(h A hA).exit hk
theorem TK.region {id:Nat} (h:TK Y ds (.inRegion ops (List.range ops.size)::k) env K):TK Y ds (.code (.region id ops false)::k) env K:=fun A hA=>(h A hA).region
theorem TK.regionEnd (h:TK Y ds k env K):TK Y ds (.inRegion ops []::k) env K:=fun A hA=>(h A hA).regionEnd
theorem TK.cond {c:Operand} {x y:Code} {t:Bool} (hc:zI gm env c=.v (.bool t)) (h1:t=true->TK Y ds (.code x::k) env K) (h2:t=false->TK Y ds (.code y::k) env K):TK Y ds (.code (.cond c x y)::k) env K:=fun A hA=>by
 cases t with
 | true=>exact TA.cond true hc (h1 rfl A hA)
 | false=>exact TA.cond false hc (h2 rfl A hA)
theorem TK.mask (bs:List Bool) (he:maskA bs env=env') (h:TK Y ds k env' K):TK Y ds k env K:=fun A hA=>TA.mask bs (he ▸ h A hA)
theorem TK.op (ho:ops[i]? =some o) (hd:yc o.op=false) (hw:yd ops env o=some true) (h:OpK P gm env K o fun r K'=>TK Y ds (.inRegion ops rest::k) (putA env o.dst r) K'):TK Y ds (.inRegion ops (i::rest)::k) env K:=fun A hA=>by
 obtain ⟨r,A',K',h1,h2,h3⟩:=h A hA.view hA.nd;exact TA.op ho hd hw h1 (h3 A' (hA.step h2))
theorem TK.q (ho:ops[i]? =some o) (hd:yc o.op=false) (hw:yd ops env o=some true) (hq:∀ A,zP K A->OpOk P gm env A o r A) (he:putA env o.dst r=env') (h:TK Y ds (.inRegion ops rest::k) env' K):TK Y ds (.inRegion ops (i::rest)::k) env K :=
 TK.op ho hd hw fun A hv hn=>⟨r,A,K,hq A hv,.same hv hn,by subst he; exact h⟩
theorem TK.new {f:Nat->AV} {ob:AObj} {env'':Nat->List AV} (ho:ops[i]? =some o) (hd:yc o.op=false) (hw:yd ops env o=some true) (hq:∀ A,zP K A->OpOk P gm env A o (f A.length) (A++[ob])) (he:∀ j,putA env o.dst (f j)=env'' j) (h:∀ j,j∉keys K->TK Y ds (.inRegion ops rest::k) (env'' j) ((j,ob)::K)):TK Y ds (.inRegion ops (i::rest)::k) env K :=
 TK.op ho hd hw fun A hv hn=>⟨_,_,_,hq A hv,.push hv hn ob,by dsimp only; rw [he]; exact h _ fun hm=>absurd (hv.lt hm) (Nat.lt_irrefl _)⟩
theorem TK.st {j:Nat} {ob ob':AObj} (ho:ops[i]? =some o) (hd:yc o.op=false) (hw:yd ops env o=some true) (hq:∀ A,zP K A->OpOk P gm env A o r (A.set j ob')) (hu:Upd K j ob j ob' K') (he:putA env o.dst r=env') (h:TK Y ds (.inRegion ops rest::k) env' K'):TK Y ds (.inRegion ops (i::rest)::k) env K :=
 TK.op ho hd hw fun A hv hn=>⟨r,_,K',hq A hv,.set hv hn hu,by subst he; exact h⟩
theorem TK.app {j:Nat} {f:Nat->AV} {ob ob':AObj} {env'':Nat->List AV} {K'':Nat->KV} (ho:ops[i]? =some o) (hd:yc o.op=false) (hw:yd ops env o=some true) (hq:∀ A,zP K A->OpOk P gm env A o (f A.length) (A.set j .gone++[ob'])) (hu:∀ j',Upd K j ob j' ob' (K'' j')) (he:∀ j',putA env o.dst (f j')=env'' j') (h:∀ j',TK Y ds (.inRegion ops rest::k) (env'' j') (K'' j')):TK Y ds (.inRegion ops (i::rest)::k) env K :=
 TK.op ho hd hw fun A hv hn=>⟨_,_,_,hq A hv,.renew hv hn (hu _),by dsimp only; rw [he]; exact h _⟩
theorem TK.unwanted (ho:ops[i]? =some o) (hw:yd ops env o=some false) (he:putA env o.dst (.v undef)=env') (h:TK Y ds (.inRegion ops rest::k) env' K):TK Y ds (.inRegion ops (i::rest)::k) env K:=fun A hA=>TA.unwanted ho hw (he ▸ h A hA)
theorem TK.drop {L R:KV} (hs:Split K L R) (h:TK Y ds k env R):TK Y ds k env K:=fun A hA=>by
 refine h A ⟨hA.view.sub fun x hx=>hs.perm.symm.subset (by simp [hx]),?_,fun i hi=>hA.own i ?_,hA.kept,hA.len⟩
 ·have:=(zL hs.perm).nodup_iff.1 hA.nd;rw [yn] at this;exact (List.nodup_append.1 this).2.1
 ·obtain ⟨x,hx,rfl⟩:=List.mem_map.1 hi;exact yB (hs.perm.symm.subset (by simp [hx]))
theorem TK.keep {L R:KV} (hs:Split K R L) (h:TK Y ds k env R):TK Y ds k env K:=fun A hA=>by
 refine h A ⟨hA.view.sub fun x hx=>hs.perm.symm.subset (by simp [hx]),?_,fun i hi=>hA.own i ?_,hA.kept,hA.len⟩
 ·have:=(zL hs.perm).nodup_iff.1 hA.nd;rw [yn] at this;exact (List.nodup_append.1 this).1
 ·obtain ⟨x,hx,rfl⟩:=List.mem_map.1 hi;exact yB (hs.perm.symm.subset (by simp [hx]))
theorem TK.perm (hp:K.Perm K') (h:TK Y ds k env K'):TK Y ds k env K:=fun A hA =>
 h A ⟨hA.view.sub fun x hx=>hp.symm.subset hx,(zL hp).nodup_iff.1 hA.nd,fun i hi=>hA.own i ((zL hp).symm.subset hi),hA.kept,hA.len⟩
theorem TK.virt (d:Nat) (e:TypeId) (size:Nat) {x:Option Addr} (hx:env[d]? =some (.v (.slice x 0 0))) (h:∀ j,j∉keys K->TK Y ds k (env.set d (.row j 0)) ((j,.row [] e size)::K)):TK Y ds k env K:=fun A hA φ H ts h1 h2 h3 h4 h5 h6=>by
 have hk:A.length∉keys K:=fun hm=>absurd (hA.view.lt hm) (Nat.lt_irrefl _);have hH:=h5.virt e size;have hag:=yw φ A.length ⟨0,0,0⟩;have hlen:(A++[AObj.row [] e size]).length=A.length+1:=by simp
 have hds:dsC (upd3 φ A.length ⟨0,0,0⟩) ds=dsC φ ds:=by
  unfold dsC;exact List.map_congr_left fun d hd'=>by rw [hag d (h4 d hd')]
 rw [<- hds];refine h _ hk _ (hA.step (.push hA.view hA.nd _)) _ H ts (h1.trans hag h2) oQ (h3.mono hag oQ) (fun d hd=>by have:=h4 d hd; omega) hH ?_;have hE:=h6.mono (n':=(A++[AObj.row [] e size]).length) hag oQ;refine ⟨by simp [hE.1],fun j u y hu hy=>?_⟩;rw [List.getElem?_set] at hu;split at hu
 ·rename_i e;subst e;split at hu
  ·cases hu;have hr:=h6.2 d _ y hx hy;rw [inv_v hr];refine .row oQ sQ ?_;unfold rowV;simp [upd3]
  ·cases hu
 ·exact hE.2 j u y hu hy
def zg (P:Program) (T:Goroutine->Hp->Prop) (gm:Nat->Option Nat) (g:FuncId) (args:List AV) (K:KV) (Post:AV->KV->Prop):Prop :=
 ∀ A,zP K A->(keys K).Nodup->CallT P T gm g args A fun r A'=>∃ K',Kstep K A K' A'/\Post r K'
theorem zg.mono {g:FuncId} {args:List AV} {Post Post':AV->KV->Prop} (h:zg P T gm g args K Post) (hp:∀ r K',Post r K'->Post' r K'):zg P T gm g args K Post' :=
 fun A hv hn=>(h A hv hn).mono fun r A' ⟨K',h1,h2⟩=>⟨K',h1,hp r K' h2⟩
theorem TK.leave {j:Option Code} (hl:Leave j k) (h:∀ A,Kn Y K A->Y.X.L j ds env A):TK Y ds k env K:=fun A hA=>TA.leave hl (h A hA)
theorem TK.call {fo:Operand} {ars:Array Operand} {at_:Array TypeId} {g:FuncId} {fs cp args:List AV} {Kf R:KV} {Post:AV->KV->Prop} (ho:ops[i]? =some o) (hop:o.op=.call { callee:=.value fo,args:=ars,argTypes:=at_ })
  (hw:yd ops env o=some true) (hf:zI gm env fo=.fn g fs cp) (hg:ym P g=true) (hargs:fs++ars.toList.map (zI gm env)++cp=args) (hc:zg P T gm g args Kf Post) (hs:Split K Kf R)
  (h:∀ r K',Post r K'->TK Y ds (.inRegion ops rest::k) (putA env o.dst r) (K'++R)):TK Y ds (.inRegion ops (i::rest)::k) env K:=fun A hA=>by
 have hp:=hs.perm;have hv:zP Kf A:=hA.view.sub fun x hx=>hp.symm.subset (by simp [hx]);have hnd:=(zL hp).nodup_iff.1 hA.nd;rw [yn] at hnd;have hnd':=List.nodup_append.1 hnd;refine TA.call ho hop hw hf hg hargs (hc A hv hnd'.1) fun r A' ⟨K',hk,hpost⟩=>h r K' hpost A' (hA.step ?_);have hR:zP R A:=hA.view.sub fun x hx=>hp.symm.subset (by simp [hx]);have hRl:∀ x∈R,x.1<A.length/\x.1∉keys Kf:=fun x hx=>⟨hR.lt (yB hx),fun hm=>hnd'.2.2 x.1 hm x.1 (yB hx) rfl⟩;refine ⟨fun x hx=>?_,?_,fun j hj=>?_,fun j hj hn=>?_,hk.len⟩
 ·rcases List.mem_append.1 hx with hx | hx
  ·exact hk.view x hx
  ·rw [hk.kept _ (hRl x hx).1 (hRl x hx).2]; exact hR x hx
 ·rw [yn];refine List.nodup_append.2 ⟨hk.nd,hnd'.2.1,fun a ha b hb e=>?_⟩;subst e;obtain ⟨x,hx,rfl⟩:=List.mem_map.1 hb;rcases hk.own _ ha with h1 | h1
  ·exact (hRl x hx).2 h1
  ·have:=(hRl x hx).1; omega
 ·rw [yn] at hj;rcases List.mem_append.1 hj with hj | hj
  ·rcases hk.own j hj with h1 | h1
   ·exact .inl ((zL hp).symm.subset (by rw [yn]; exact List.mem_append_left _ h1))
   ·exact .inr h1
  ·exact .inl ((zL hp).symm.subset (by rw [yn]; exact List.mem_append_right _ hj))
 ·exact hk.kept j hj fun hm=>hn ((zL hp).symm.subset (by rw [yn]; exact List.mem_append_left _ hm))
theorem TK.loopN {c:Code} (I:Nat->List AV->KV->Prop) (n:Nat) (h0:I n env K)
  (round:∀ n env K,I n env K->(∀ n' env' K',n'<n->I n' env' K'->TK Y ds (.inLoop c::k) env' K')->TK Y ds (.code c::.inLoop c::k) env K):TK Y ds (.code (.loop c)::k) env K:=by
 have key:∀ n env K,I n env K->TK Y ds (.code c::.inLoop c::k) env K:=by
  intro n
  induction n using Nat.strongRecOn with
  | _ n ih =>
   intro env K hI;exact round n env K hI fun n' env' K' hlt hI'=>TK.inLoop (ih n' hlt env' K' hI')
 exact fun A hA=>TA.loop (key n env K h0 A hA)
end
def edgesOf (m:Region.Mode) (ops:Array Oper) (i:Nat):List Nat:=match ops[i]? with
 | some o=>o.after.toList.filterMap fun e=>if Region.binds m e then some e.on else none
 | none=>[]
theorem zir {m:Region.Mode} {ops:Array Oper} {i j:Nat} (h:j∈edgesOf .any ops i):j∈edgesOf m ops i:=by
 unfold edgesOf at h ⊢;split at h
 ·rename_i o e;simp only [List.mem_filterMap] at h ⊢;obtain ⟨e',h1,h2⟩:=h;refine ⟨e',h1,?_⟩;have:Region.binds m e'=true:=by
   unfold Region.binds at h2 ⊢;cases hg:e'.ground <;> rw [hg] at h2 <;> first | rfl | (simp at h2; done) | (exact absurd h2 (by simp [show (Region.Mode.any==Region.Mode.text)=false from rfl,show (Region.Mode.any==Region.Mode.gc)=false from rfl]))
  rw [if_pos this];split at h2
  ·exact h2
  ·cases h2
 ·cases h
def Resp (ops:Array Oper):List Nat->Prop
 | []=>True
 | i::q=>(∀ j∈edgesOf .any ops i,j∉i::q)/\Resp ops q
def topo (m:Region.Mode) (ops:Array Oper):List Nat->List Nat->Bool
 | seen,[]=>(List.range ops.size).all fun i=>seen.elem i
 | seen,i::q=>(edgesOf m ops i).all (fun j=>seen.elem j)&&decide (i<ops.size)&&topo m ops (i::seen) q
theorem zia {m:Region.Mode} {ops:Array Oper} (listed:Nat->Prop) [DecidablePred listed]:∀ (ρ seen:List Nat),topo m ops seen ρ=true->(∀ i∈seen,listed i)->(∀ i,i<ops.size->listed i)\/∃ i,i<ops.size/\¬ listed i/\∀ j∈edgesOf m ops i,listed j:=by
 intro ρ
 induction ρ with
 | nil =>
  intro seen h hs;left;intro i hi;simp only [topo,List.all_eq_true,List.mem_range] at h;exact hs i (by simpa using h i hi)
 | cons i q ih =>
  intro seen h hs;simp only [topo,Bool.and_eq_true,List.all_eq_true,decide_eq_true_eq] at h;by_cases hl:listed i
  ·exact ih (i::seen) h.2 fun j hj=>by
    rcases List.mem_cons.1 hj with rfl | hj
    ·exact hl
    ·exact hs j hj
  ·exact .inr ⟨i,h.1.2,hl,fun j hj=>hs j (by simpa using h.1.1 j hj)⟩
theorem zec:∀ (n:Nat) (l:List Nat),l.Nodup->(∀ i∈l,i<n)->l.length<=n
 | 0,l,_,h=>by
  cases l with
  | nil=>simp
  | cons a l=>exact absurd (h a sQ) oQ
 | n+1,l,hn,h=>by
  have h1:=zec n (l.erase n) (hn.erase n) fun i hi=>by
   have:=(hn.mem_erase_iff).1 hi;have:=h i this.2;omega
  have h2:=List.length_erase (a:=n) (l:=l);split at h2 <;> omega
theorem zeb:∀ (n:Nat) (l:List Nat),l.Nodup->(∀ i∈l,i<n)->n<=l.length->∀ i,i<n->i∈l
 | 0,_,_,_,_,i,hi=>absurd hi oQ
 | n+1,l,hn,h,hl,i,hi=>by
  have hm:n∈l:=by
   apply Classical.byContradiction;intro hnm;have:=zec n l hn fun i hi=>by
    have:=h i hi;have:i≠n:=fun e=>hnm (e ▸ hi);omega
   omega
  by_cases e:i=n
  ·rw [e]; exact hm
  ·refine List.mem_of_mem_erase (zeb n (l.erase n) (hn.erase n) (fun i hi=>?_) ?_ i oQ)
   ·have:=(hn.mem_erase_iff).1 hi;have:=h i this.2;omega
   ·rw [List.length_erase_of_mem hm]; omega
theorem zmH {m:Region.Mode} {ops:Array Oper} {ρ:List Nat} (hρ:topo m ops [] ρ=true):∀ (fuel t:Nat) (listed:Array Bool) (acc:List Nat),listed.size=ops.size->(∀ i,i<ops.size->(listed.getD i true=true↔i∈acc))->(∀ i∈acc,i<ops.size)->acc.Nodup ->
  ops.size<=fuel+acc.length->∃ q,Region.linearise.go m ops fuel t listed acc=acc.reverse++q/\q.Nodup/\(∀ i∈q,i<ops.size/\i∉acc)/\Resp ops q/\∀ i,i<ops.size->i∈acc\/i∈q:=by
 intro fuel
 induction fuel with
 | zero =>
  intro t listed acc hs hl hb hn hf;refine ⟨[],by simp [Region.linearise.go],by simp,by simp,trivial,fun i hi=>.inl ?_⟩;exact zeb ops.size acc hn hb oQ i hi
 | succ fuel ih =>
  intro t listed acc hs hl hb hn hf;unfold Region.linearise.go;dsimp only;generalize hrs:((List.range ops.size).filter fun i => !listed.getD i true&&((ops[i]?).map (·.after.all fun e => !Region.binds m e||listed.getD e.on false)).getD false)=rs;have hmem:∀ i,i∈rs↔i<ops.size/\i∉acc/\∀ j∈edgesOf m ops i,j<ops.size/\j∈acc:=by
   intro i;rw [<- hrs,List.mem_filter,List.mem_range];constructor
   ·rintro ⟨h1,h2⟩;simp only [Bool.and_eq_true,Bool.not_eq_true'] at h2;refine ⟨h1,fun hm=>?_,fun j hj=>?_⟩
    ·rw [(hl i h1).2 hm] at h2; exact absurd h2.1 sQ
    ·unfold edgesOf at hj;rw [Array.getElem?_eq_getElem h1] at hj h2;simp only [List.mem_filterMap] at hj;obtain ⟨e,he,h3⟩:=hj;split at h3
     ·rename_i hbd;cases h3;have h4:=h2.2;simp only [Option.map_some,Option.getD_some,Array.all_eq_true_iff_forall_mem] at h4;have h5:=h4 e (by simpa using he);rw [hbd] at h5;simp only [Bool.not_true,Bool.false_or] at h5;by_cases hlt:e.on<ops.size
      ·refine ⟨hlt,(hl e.on hlt).1 ?_⟩;rw [Array.getD_eq_getD_getElem?] at h5 ⊢;rw [Array.getElem?_eq_getElem (by rw [hs]; exact hlt)] at h5 ⊢;exact h5
      ·rw [Array.getD_eq_getD_getElem?,Array.getElem?_eq_none (by rw [hs]; omega)] at h5;cases h5
     ·cases h3
   ·rintro ⟨h1,h2,h3⟩;refine ⟨h1,?_⟩;simp only [Bool.and_eq_true,Bool.not_eq_true'];refine ⟨?_,?_⟩
    ·cases e:listed.getD i true with
     | false=>rfl
     | true=>exact absurd ((hl i h1).1 e) h2
    ·rw [Array.getElem?_eq_getElem h1];simp only [Option.map_some,Option.getD_some,Array.all_eq_true_iff_forall_mem];intro e he;cases hbd:Region.binds m e with
     | false=>rfl
     | true =>
      simp only [Bool.not_true,Bool.false_or];obtain ⟨h4,h5⟩:=h3 e.on (by
       unfold edgesOf;rw [Array.getElem?_eq_getElem h1];simp only [List.mem_filterMap];exact ⟨e,by simpa using he,by rw [if_pos hbd]⟩)
      have:=(hl e.on h4).2 h5;rw [Array.getD_eq_getD_getElem?] at this ⊢;rw [Array.getElem?_eq_getElem (by rw [hs]; exact h4)] at this ⊢;exact this
  cases hpick:rs[t % rs.length]? with
  | none =>
   dsimp only;have hnil:rs=[]:=by
    cases rs with
    | nil=>rfl
    | cons a l =>
     exfalso;have:t % (a::l).length<(a::l).length:=Nat.mod_lt _ sQ;rw [List.getElem?_eq_getElem this] at hpick;cases hpick
   refine ⟨[],by simp,by simp,by simp,trivial,fun i hi=>.inl ?_⟩;rcases zia (m:=m) (ops:=ops) (fun i=>i∈acc) ρ [] hρ sQ with h | ⟨i',h1,h2,h3⟩
   ·exact h i hi
   ·exfalso;have:i'∈rs:=(hmem i').2 ⟨h1,h2,fun j hj=>⟨hb j (h3 j hj),h3 j hj⟩⟩;rw [hnil] at this;cases this
  | some i =>
   dsimp only;have hi:=(hmem i).1 (List.mem_of_getElem? hpick);obtain ⟨q,h1,h2,h3,h4,h5⟩:=ih (t / rs.length) (listed.setIfInBounds i true) (i::acc) (by simp [hs]) (fun j hj=>by
    rw [Array.getD_eq_getD_getElem?,Array.getElem?_setIfInBounds];by_cases hij:i=j
    ·subst hij;simp [hs,hj]
    ·rw [if_neg hij,<- Array.getD_eq_getD_getElem?,hl j hj];simp [Ne.symm hij]) (fun j hj=>by
    rcases List.mem_cons.1 hj with rfl | hj
    ·exact hi.1
    ·exact hb j hj) (List.nodup_cons.2 ⟨hi.2.1,hn⟩) (by simp; omega)
   refine ⟨i::q,by rw [h1]; simp,List.nodup_cons.2 ⟨fun hm=>(h3 i hm).2 sQ,h2⟩,fun j hj=>?_,⟨fun j hj=>?_,h4⟩,fun j hj=>?_⟩
   ·rcases List.mem_cons.1 hj with rfl | hj
    ·exact ⟨hi.1,hi.2.1⟩
    ·exact ⟨(h3 j hj).1,fun hm=>(h3 j hj).2 (by simp [hm])⟩
   ·have:=(hi.2.2 j (zir hj)).2;intro hm;rcases List.mem_cons.1 hm with rfl | hm
    ·exact hi.2.1 this
    ·exact (h3 j hm).2 (by simp [this])
   ·rcases h5 j hj with h6 | h6
    ·rcases List.mem_cons.1 h6 with rfl | h6
     ·exact .inr sQ
     ·exact .inl h6
    ·exact .inr (by simp [h6])
theorem zcG {m:Region.Mode} {ops:Array Oper} {ρ:List Nat} (hρ:topo m ops [] ρ=true) (t:Nat):(Region.linearise m ops t).Nodup/\Resp ops (Region.linearise m ops t)/\∀ i,i∈Region.linearise m ops t↔i<ops.size:=by
 obtain ⟨q,h1,h2,h3,h4,h5⟩:=zmH hρ ops.size t (Array.replicate ops.size false) [] sQ (fun i hi=>by
  rw [Array.getD_eq_getD_getElem?,Array.getElem?_replicate,if_pos hi];simp) sQ sQ sQ
 have e:Region.linearise m ops t=q:=by
  unfold Region.linearise;rw [h1];simp
 rw [e];exact ⟨h2,h4,fun i=>⟨fun hi=>(h3 i hi).1,fun hi=>(h5 i hi).resolve_left sQ⟩⟩
def drawnOk (ops:Array Oper) (ρt ρg:List Nat):Bool:=if Region.departs ops then topo .text ops [] ρt&&topo .gc ops [] ρg&&topo .any ops [] ρt else topo .any ops [] ρt
theorem zk2 {ops:Array Oper} {ρt ρg:List Nat} (h:drawnOk ops ρt ρg=true) (mixed:Bool) (t:Nat):(Region.schedule mixed ops t).Nodup/\Resp ops (Region.schedule mixed ops t)/\∀ i,i∈Region.schedule mixed ops t↔i<ops.size:=by
 unfold drawnOk at h;unfold Region.schedule;cases hd:Region.departs ops with
 | false =>
  rw [hd] at h;simp only [Bool.not_false,Bool.or_true,if_true];exact zcG (by simpa using h) t
 | true =>
  rw [hd] at h;simp only [if_true,Bool.and_eq_true] at h;cases mixed with
  | true=>exact zcG h.2 t
  | false =>
   simp only [Bool.not_true,Bool.or_self,Bool.false_eq_true,if_false];split
   ·exact zcG h.1.1 _
   ·exact zcG h.1.2 _
end Go.Vel
end
