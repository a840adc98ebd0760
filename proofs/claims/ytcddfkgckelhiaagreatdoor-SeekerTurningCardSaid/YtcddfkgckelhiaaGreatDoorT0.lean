/- Texts for the statements of chapter 9: what all of them need, part 1. It holds of every program, tape and world that the statements name, as each theorem says. -/
import Derived.Test.YtcddfkgckelhiaaGreatDoorRows
import Derived.ProofKit
import Derived.LaidMore
import Derived.LaidHandle
import Derived.LaidOnce
import Derived.OpenShut
import Derived.Stop.Joined
import Derived.Conc.Beside
import Derived.KernelRfl
import Derived.Conc.Listed
import Derived.Lone
import Derived.Conc.CrowdComm
namespace Go.Vel
theorem Z.{u} {α:Sort u} {a:α}:a=a:=rfl
theorem mQ {α:Type} {x:α} {K:List α} (h:List.Mem x K:=by repeat (first | exact List.Mem.head _ | assumption | apply List.Mem.tail)):List.Mem x K:=h
theorem oQ {p:Prop} (h:p:=by omega):p:=h
theorem dQ {p:Prop} (h:p:=by decide):p:=h
theorem sQ {p:Prop} (h:p:=by simp):p:=h
theorem tQ {α:Type} {a b:α} (h:a=b:=by simp only [List.set]; rfl):a=b:=h
theorem cA {α:Type}:(∀ (a:α) (l m:List α),a::l++m=a::(l++m))/\∀ m:List α,[]++m=m:=⟨fun _ _ _=>rfl,fun _=>rfl⟩
end Go.Vel
section
set_option linter.all false
set_option maxRecDepth 20000
set_option maxHeartbeats 60000000
open List renaming getElem?_eq_getElem -> lA, mem_cons -> lI, mem_cons_of_mem -> lL, mem_of_getElem? -> lN, mem_singleton -> lS, mem_append -> lT, mem_map -> lY
open Array renaming getElem?_setIfInBounds_ne -> mE, getElem?_setIfInBounds_self_of_lt -> mF, getElem?_eq_some_iff -> mG
open Nat renaming le_refl -> mL, zero_le -> mN, le_trans -> mT
open Bool renaming false_eq_true -> mU
open Option renaming map_eq_some_iff -> mY
namespace Go.Vel
open Go Go.Proofs Go.ChangeShapes Go.WideShapes Go.ChangeAt Go.RowKit
def tblLaid:List (String×DataW Unit):=[("velarium/seeker.checks",Go.Proofs.YtcddfkgckelhiaaGreatDoor.Rows.laid_velarium_seeker_checks),("velarium/seeker.says",Go.Proofs.YtcddfkgckelhiaaGreatDoor.Rows.laid_velarium_seeker_says)]
theorem tbl3 {P:Program} {W:World} {n:String} {d:DataW Unit} {g0 t0 e0:Nat} {ps rs:Array TypeId} {va:Bool} {b1 b2 b3:UInt8} {r1 r2 r3:List UInt8} {f1 f2 f3:Nat} (h:funcsAt P W n d)
  (hg0:P.globalNamed n=some g0) (ht0:(P.globals[g0]?).map (·.type)=some t0) (hu:P.underlying t0=some (.array 3 e0)) (he:P.underlying e0=some (.func ps rs va)) (hc:P.cellsOf e0=1) (hc3:P.cellsOf t0=3)
  (hd:d.funcsOut=.agg [.held (b1::r1),.held (b2::r2),.held (b3::r3)])
  (q1:((List.range P.funcs.size).filter fun f=>(P.funcs[f]?).any (·.name.toUTF8.data.toList==b1::r1))=[f1])
  (q2:((List.range P.funcs.size).filter fun f=>(P.funcs[f]?).any (·.name.toUTF8.data.toList==b2::r2))=[f2])
  (q3:((List.range P.funcs.size).filter fun f=>(P.funcs[f]?).any (·.name.toUTF8.data.toList==b3::r3))=[f3]) :
  ∃ cur e fz,W.heap[g0]? =some (.cells cur e fz)/\cur[0]? =some (.func (.func f1) #[] #[])/\cur[1]? =some (.func (.func f2) #[] #[])/\cur[2]? =some (.func (.func f3) #[] #[]):=by
 obtain ⟨g,t,cs,fuel,p,hg,ht,hv,htr⟩:=h;obtain rfl:=Option.some.inj (hg0.symm.trans hg);obtain rfl:=Option.some.inj (ht0.symm.trans ht);rw [hd] at htr;obtain ⟨xs,m,rfl,hx,hlen,hn,hel⟩:=DataW.trod_array hu htr
 match xs,hn with
 | [x0,x1,x2],_ =>
 simp only [Prod.mk.injEq,DataW.agg.injEq,List.map_cons,List.map_nil,List.cons.injEq,and_true] at hx;obtain ⟨⟨e1,e2,e3⟩,_⟩:=hx;rw [hc3] at hlen;obtain ⟨l⟩:=cs
 match l,hlen with
 | [c0,c1,c2],_ =>
 have h0:=hel 0 dQ;have h1:=hel 1 dQ;have h2:=hel 2 dQ;rw [hc] at h0 h1 h2;obtain ⟨x0,y0⟩:=x0;obtain ⟨x1,y1⟩:=x1;obtain ⟨x2,y2⟩:=x2;dsimp only at e1 e2 e3;subst e1 e2 e3;obtain rfl:=func_of_trod (v:=c0) he q1 h0;obtain rfl:=func_of_trod (v:=c1) he q2 h1;obtain rfl:=func_of_trod (v:=c2) he q3 h2;have k0:=World.var?_cell hg hv 0;have k1:=World.var?_cell hg hv 1;have k2:=World.var?_cell hg hv 2;simp only [List.getElem?_toArray,List.getElem?_cons_zero,List.getElem?_cons_succ] at k0 k1 k2;simp only [World.cell?] at k0 k1 k2;cases hh:W.heap[g0]? with
 | none=>rw [hh] at k0; cases k0
 | some o =>
  cases o with
  | cells cur e fz=>rw [hh] at k0 k1 k2; exact ⟨cur,e,fz,rfl,by simpa using k0,by simpa using k1,by simpa using k2⟩
  | _=>rw [hh] at k0; cases k0
theorem zbw {α:Type} {p:Nat->α->Prop}:∀ n,(∀ i,i<n->∃ z,p i z)->∃ zs:List α,zs.length=n/\∀ (i:Nat) z,zs[i]? =some z->p i z
 | 0,_=>⟨[],rfl,fun i z h=>by simp at h⟩
 | n+1,h=>by
  obtain ⟨zs,h1,h2⟩:=zbw n fun i hi=>h i oQ;obtain ⟨z,hz⟩:=h n oQ;refine ⟨zs++[z],by simp [h1],fun i y hy=>?_⟩;rcases Nat.lt_or_ge i n with hi | hi
  ·rw [List.getElem?_append_left oQ] at hy;exact h2 i y hy
  ·rw [List.getElem?_append_right oQ,h1] at hy;rcases Nat.eq_zero_or_pos (i - n) with h0 | h0
   ·rw [h0] at hy; cases hy;obtain rfl:i=n:=by omega
    exact hz
   ·rw [List.getElem?_eq_none (by simp; omega)] at hy; cases hy
theorem ul {H:Type} {enc:TypeId×Value->H} {P:Program} {W:World} {sp:Nat->Bool} {held:Bool} {α:Type} {vals:α->List Value} {c fuel:Nat} {t e:TypeId} {cs:List Value} {x:DataW H×List MemPlace} (hu:P.underlying t=some (.slice e)) (hce:P.cellsOf e=c) (hpos:0<c)
  (hdec:∀ (m:Nat) cs x,DataW.trod enc P W 0 sp held m e cs=some x->∃ z,cs=vals z) (h:DataW.trod enc P W 0 sp held fuel t cs=some x) :
  ∃ (zs:List α) (b:Option Addr) (cap:Nat),cs=[.slice b zs.length cap]/\zs.length<=cap/\(0<zs.length->∃ blk off cur e' fz,b=some ⟨blk,off,none⟩/\W.heap[blk]? =some (.cells cur e' fz) /\
   ∀ (i:Nat) z (j:Nat),zs[i]? =some z->j<c->cur[off+(i*c+j)]? =(vals z)[j]?):=by
 rcases DataW.trod_slice hu h with ⟨rfl,_⟩ | ⟨a,len,cap,elems,rest,n,_,rfl,_,_,hlc,_,hel,hat,_,_⟩
 ·exact ⟨[],none,0,rfl,mL _,fun h=>absurd h sQ⟩
 ·obtain ⟨zs,hz1,hz2⟩:=zbw (p:=fun i z=>W.cells? 0 (a.add (i*P.cellsOf e)) (P.cellsOf e)=some (vals z)) len fun i hi=>by
   have:=hat i hi;rw [lA oQ,Option.bind_eq_some_iff] at this;obtain ⟨cs',h1,h2⟩:=this;obtain ⟨z,rfl⟩:=hdec _ _ _ h2;exact ⟨z,h1⟩
  refine ⟨zs,some a,cap,by rw [hz1],oQ,fun hp=>?_⟩;have hcell:∀ (i:Nat) z (j:Nat),zs[i]? =some z->j<c->W.cell? ((a.add (i*c)).add j)=(vals z)[j]? :=fun i z j hi hj=>by
   have:=hz2 i z hi;rw [hce] at this;exact (World.cells?_some this).2.2 j hj
  have hlen:∀ (i:Nat) z,zs[i]? =some z->(vals z).length=c:=fun i z hi=>by
   have:=hz2 i z hi;rw [hce] at this;exact (World.cells?_some this).2.1
  obtain ⟨z0,hz0⟩:∃ z,zs[0]? =some z:=⟨_,lA hp⟩;have h00:=hcell 0 z0 0 hz0 hpos;rw [lA (by rw [hlen 0 z0 hz0]; exact hpos)] at h00;have hspot:a.spot=none:=by simpa [Addr.add] using World.cell?_spot h00
  obtain ⟨blk,off,spot⟩:=a;dsimp only at hspot;subst hspot;have hadd:∀ n,(⟨blk,off,none⟩:Addr).add n=⟨blk,off+n,none⟩:=fun n=>by
   unfold Addr.add;split
   ·rename_i h; subst h; rfl
   ·rfl
  have hadd2:∀ n m,((⟨blk,off,none⟩:Addr).add n).add m=⟨blk,off+(n+m),none⟩:=fun n m=>by
   rw [hadd];unfold Addr.add;split
   ·rename_i h; subst h; simp
   ·simp [Nat.add_assoc]
  rw [hadd2] at h00;unfold World.cell? at h00;dsimp only at h00;cases hh:W.heap[blk]? with
  | none=>rw [hh] at h00; cases h00
  | some o =>
   cases o with
   | cells cur e' fz =>
    refine ⟨blk,off,cur,e',fz,rfl,hh,fun i z j hi hj=>?_⟩;have:=hcell i z j hi hj;rw [hadd2] at this;unfold World.cell? at this;dsimp only at this;rw [hh] at this;simpa using this
   | _=>rw [hh] at h00; cases h00
end Go.Vel
namespace Go.Vel
open Go.Conc
def on (w:World) (τ:Nat->Question->Nat) (d:Nat):World:={ w with tape:=τ,drawn:=d }
def outW {α:Type} (o:Except Halt α) (w:World):Result α:=match o with | .ok a=>.ok a w | .error h=>.halt h w
def Agree (τ:Nat->Question->Nat) (d:Nat) (τ':Nat->Question->Nat) (d' k:Nat):Prop:=∀ i,i<k->∀ q,τ' (d'+i) q=τ (d+i) q
theorem Agree.le {τ τ':Nat->Question->Nat} {d d' k k':Nat} (h:Agree τ d τ' d' k) (hk:k'<=k):Agree τ d τ' d' k':=fun i hi q=>h i oQ q
theorem Agree.tail {τ τ':Nat->Question->Nat} {d d' j k:Nat} (h:Agree τ d τ' d' (j+k)):Agree τ (d+j) τ' (d'+j) k:=fun i hi q=>by
 have:=h (j+i) oQ q;simpa [Nat.add_assoc] using this
def Bad:Halt->Prop
 | .unsupported (.noEntry _)=>True
 | .stuck _=>True
 | _=>False
def Stops:Halt->Prop
 | .unsupported _=>True
 | .stuck _=>True
 | .exit _=>True
 | .blocked=>True
 | .waiting=>True
 | _=>False
def SysD {α:Type} (P:Program):Sem α->Nat->Prop
 | .pure _,d=>match d with | 0=>True | _+1=>False
 | .load _ _ k,d=>∀ v,SysD P (k v) d
 | .store _ _ _ k,d=>SysD P k d
 | .new _ k,d=>∀ r,SysD P (k r) d
 | .shape _ k,d=>∀ r,SysD P (k r) d
 | .freeze _ _ k,d=>SysD P k d
 | .frozen _ k,d=>∀ r,SysD P (k r) d
 | .getObj _ k,d=>∀ r,SysD P (k r) d
 | .setObj _ _ k,d=>SysD P k d
 | .choose _ k,d=>∀ r,SysD P (k r) d
 | .sys _ k,d=>(∃ h,Bad h/\k .wouldBlock=.halt h)/\∀ r,SysD P (k r) d
 | .program k,d=>SysD P (k P) d
 | .mark m k,d=>match m with
  | .disable=>SysD P k (d+1)
  | .enable=>match d with | 0=>False | d+1=>SysD P k d
  | .noRoom | .extern _=>SysD P k d
  | _=>False
 | .halt h,d=>match d with | 0=>True | _+1=>Stops h
abbrev zC {α:Type} (P:Program) (s:Sem α):Prop:=SysD P s 0
theorem SysD.bind {α β:Type} {P:Program} {s:Sem α} {f:α->Sem β}:∀ {d:Nat},SysD P s d->(∀ a,zC P (f a))->SysD P (s.bind f) d:=by
 induction s with
 | pure a=>intro d h hf; cases d with
  | zero=>exact hf a
  | succ d=>exact h.elim
 | load m a k ih=>exact fun {d} h hf v=>ih v (h v) hf
 | store m a v k ih=>exact fun {d} h hf=>ih h hf
 | new o k ih=>exact fun {d} h hf v=>ih v (h v) hf
 | shape r k ih=>exact fun {d} h hf v=>ih v (h v) hf
 | freeze a n k ih=>exact fun {d} h hf=>ih h hf
 | frozen a k ih=>exact fun {d} h hf v=>ih v (h v) hf
 | getObj r k ih=>exact fun {d} h hf v=>ih v (h v) hf
 | setObj r o k ih=>exact fun {d} h hf=>ih h hf
 | choose q k ih=>exact fun {d} h hf v=>ih v (h v) hf
 | sys c k ih=>exact fun {d} h hf=>⟨by obtain ⟨s,hb,hs⟩:=h.1; exact ⟨s,hb,by simp only [hs,Sem.bind]⟩,fun v=>ih v (h.2 v) hf⟩
 | program k ih=>exact fun {d} h hf=>ih P h hf
 | mark m k ih =>
  intro d h hf;cases m <;> first | exact ih h hf | exact h.elim | (cases d <;> first | exact ih h hf | exact h.elim)
 | halt h=>exact fun {d} h hf=>h
theorem zf {α β:Type} {P:Program} {s:Sem α} {f:α->Sem β} (h:zC P s) (hf:∀ a,zC P (f a)):zC P (s >>= f):=SysD.bind h hf
theorem zmm {α:Type} (x:Ask α):∀ (w:World) (τ:Nat->Question->Nat) (d:Nat),∃ (a:α) (k:Nat),(on w τ d).ask x=(a,on w τ (d+k)) /\
  ∀ τ' d',Agree τ d τ' d' k->(on w τ' d').ask x=(a,on w τ' (d'+k)):=by
 induction x with
 | done a=>exact fun w τ d=>⟨a,0,rfl,fun _ _ _=>rfl⟩
 | ask what range k ih =>
  intro w τ d;by_cases hf:(Question.extern what range).forced=true
  ·obtain ⟨a,j,h1,h2⟩:=ih 0 w τ d;exact ⟨a,j,by simp only [World.ask,hf,if_true]; exact h1,fun τ' d' hA=>by simp only [World.ask,hf,if_true]; exact h2 τ' d' hA⟩
  ·have hf':(Question.extern what range).forced=false:=by simpa using hf
   obtain ⟨a,j,h1,h2⟩:=ih ((Question.extern what range).cut (τ d (Question.extern what range))) w τ (d+1);refine ⟨a,1+j,?_,fun τ' d' hA=>?_⟩
   ·simp only [World.ask,hf',mU,if_false];have e:d+(1+j)=d+1+j:=by omega
    rw [e]; exact h1
   ·simp only [World.ask,hf',mU,if_false];have e:d'+(1+j)=d'+1+j:=by omega
    have e0:τ' d' (Question.extern what range)=τ d (Question.extern what range):=by simpa using hA 0 oQ (Question.extern what range)
    rw [e];show World.ask (on w τ' (d'+1)) (k ((Question.extern what range).cut (τ' d' (Question.extern what range))))=_;rw [e0];exact h2 τ' (d'+1) hA.tail
theorem zm7 (c:Sys) (w:World) (τ:Nat->Question->Nat) (d:Nat):(∃ k,∀ τ' d',Agree τ d τ' d' k->((on w τ' d').sys c).1=.wouldBlock)\/∃ (r:SysRet) (w':World) (k:Nat),(on w τ d).sys c=(r,on w' τ (d+k)) /\
  ∀ τ' d',Agree τ d τ' d' k->(on w τ' d').sys c=(r,on w' τ' (d'+k)):=by
 obtain ⟨⟨r,os⟩,k,h1,h2⟩:=zmm (Kernel.perform c w.os) w τ d;by_cases hr:r=.wouldBlock
 ·subst hr;refine .inl ⟨k,fun τ' d' hA=>?_⟩;unfold World.sys;rw [show (on w τ' d').os=w.os from rfl,h2 τ' d' hA]
 ·right;refine ⟨r,{ w with os },k,?_,fun τ' d' hA=>?_⟩
  ·unfold World.sys;rw [show (on w τ d).os=w.os from rfl,h1];split
   ·rename_i heq; simp only [Prod.mk.injEq] at heq; exact absurd heq.1.1 hr
   ·rename_i heq; simp only [Prod.mk.injEq] at heq; obtain ⟨⟨rfl,rfl⟩,rfl⟩:=heq; rfl
  ·unfold World.sys;rw [show (on w τ' d').os=w.os from rfl,h2 τ' d' hA];split
   ·rename_i heq; simp only [Prod.mk.injEq] at heq; exact absurd heq.1.1 hr
   ·rename_i heq; simp only [Prod.mk.injEq] at heq; obtain ⟨⟨rfl,rfl⟩,rfl⟩:=heq; rfl
theorem zf8 (p:Program) (w:World) (τ:Nat->Question->Nat) (d:Nat) (b:Addr) (u:TypeId) (a:Addr) (v:Value) (m:Bool) :
  (on w τ d).viewStore p b u a v m=(w.viewStore p b u a v m).map fun x=>(on x.1 τ d,x.2):=by
 unfold World.viewStore;have hs:(on w τ d).seen p b u a m=w.seen p b u a m:=rfl;rw [hs];cases tight p p.depth u with
 | false=>rfl
 | true =>
  simp only [Bool.not_true,mU,if_false];cases w.seen p b u a m with
  | error e=>rfl
  | ok x =>
   obtain ⟨c,e,frozen,first,like,cells⟩:=x;simp only [bind,Except.bind,pure,Except.pure];cases v.bytes? with
   | none=>rfl
   | some bs =>
    simp only [];split
    ·rfl
    ·generalize List.foldlM (m:=Except String) _ c cells=z;cases z <;> rfl
theorem uu (p:Program) (w:World) (τ:Nat->Question->Nat) (d:Nat) (a:Addr) (v:Value) (m:Bool) :
  (on w τ d).farStore p a v m=(w.farStore p a v m).map fun x=>(on x.1 τ d,x.2):=by
 unfold World.farStore;rw [show (on w τ d).heap=w.heap from rfl];split
 ·rw [zf8];cases w.viewStore p _ _ a v m <;> rfl
 ·rfl
theorem zg3 {α:Type} {P:Program} (s:Sem α):∀ c:Nat,SysD P s c->∀ (w:World) (es:Array Event) (τ:Nat->Question->Nat) (d:Nat),
  (∃ k,∀ τ' d',Agree τ d τ' d' k->∃ x w' es',Bad x/\s.runT P (on w τ' d') es=(.halt x w',es')) \/
  ∃ (r:Except Halt α) (w':World) (es':Array Event) (k:Nat),s.runT P (on w τ d) es=(outW r (on w' τ (d+k)),es') /\
   ∀ τ' d',Agree τ d τ' d' k->s.runT P (on w τ' d') es=(outW r (on w' τ' (d'+k)),es'):=by
 induction s with
 | pure a=>exact fun _ _ w es τ d=>.inr ⟨.ok a,w,es,0,rfl,fun _ _ _=>rfl⟩
 | load m a k ih =>
  intro c0 hs w es τ d;have hc:∀ τ d,(on w τ d).cell? a=w.cell? a:=fun _ _=>rfl;have hl:∀ τ d,(on w τ d).farLoad P a (m==.atomic)=w.farLoad P a (m==.atomic):=fun _ _=>rfl;cases e:w.cell? a with
  | some v =>
   have hr:∀ τ d,Sem.runT P (.load m a k) (on w τ d) es=(k v).runT P (on w τ d) (es.push ⟨.cell a,false,m==.atomic⟩):=fun τ d=>by simp only [Sem.runT,hc,e]
   simp only [hr];exact ih v c0 (hs v) w _ τ d
  | none =>
   cases e':w.farLoad P a (m==.atomic) with
   | ok x =>
    obtain ⟨v,t⟩:=x;have hr:∀ τ d,Sem.runT P (.load m a k) (on w τ d) es=(k v).runT P (on w τ d) (es++t.toArray.map (⟨.cell ·,false,m==.atomic⟩)):=fun τ d=>by simp only [Sem.runT,hc,e,hl,e']
    simp only [hr];exact ih v c0 (hs v) w _ τ d
   | error h=>exact .inr ⟨.error h,w,es,0,by simp only [Sem.runT,hc,e,hl,e']; rfl,fun τ' d' _=>by simp only [Sem.runT,hc,e,hl,e']; rfl⟩
 | store m a v k ih =>
  intro c0 hs w es τ d;have key:(∃ x,v=.agg x)\/(∃ x,v=.tuple x)\/∀ τ d,Sem.runT P (.store m a v k) (on w τ d) es=match (on w τ d).cell? a with
    | some _ =>
     if (on w τ d).frozen? a then (.halt (.unsupported (.unsafePointer "a write to bytes that a string shares")) (on w τ d),es)
     else k.runT P ((on w τ d).setCell a v) (es.push ⟨.cell a,true,m==.atomic⟩)
    | none=>match (on w τ d).farStore P a v (m==.atomic) with
     | .ok (w,touched)=>k.runT P w (es++touched.toArray.map (⟨.cell ·,true,m==.atomic⟩))
     | .error h=>(.halt h (on w τ d),es):=by
   cases v <;> first | exact .inl ⟨_,rfl⟩ | exact .inr (.inl ⟨_,rfl⟩) | exact .inr (.inr fun _ _=>rfl)
  rcases key with ⟨x,rfl⟩ | ⟨x,rfl⟩ | key
  ·exact .inr ⟨.error (.stuck _),w,es,0,rfl,fun _ _ _=>rfl⟩
  ·exact .inr ⟨.error (.stuck _),w,es,0,rfl,fun _ _ _=>rfl⟩
  have hc:∀ τ d,(on w τ d).cell? a=w.cell? a:=fun _ _=>rfl;have hf:∀ τ d,(on w τ d).frozen? a=w.frozen? a:=fun _ _=>rfl;have hset:∀ τ d,(on w τ d).setCell a v=on (w.setCell a v) τ d:=fun _ _=>rfl;cases e:w.cell? a with
  | some u =>
   cases ef:w.frozen? a with
   | true=>exact .inr ⟨.error (.unsupported (.unsafePointer "a write to bytes that a string shares")),w,es,0,by simp only [key,hc,e,hf,ef]; rfl,fun τ' d' _=>by simp only [key,hc,e,hf,ef]; rfl⟩
   | false =>
    have hr:∀ τ d,Sem.runT P (.store m a v k) (on w τ d) es=k.runT P (on (w.setCell a v) τ d) (es.push ⟨.cell a,true,m==.atomic⟩):=fun τ d=>by simp only [key,hc,e,hf,ef,hset]; rfl
    simp only [hr];exact ih c0 hs (w.setCell a v) _ τ d
  | none =>
   cases e':w.farStore P a v (m==.atomic) with
   | ok x =>
    obtain ⟨w1,t⟩:=x;have hr:∀ τ d,Sem.runT P (.store m a v k) (on w τ d) es=k.runT P (on w1 τ d) (es++t.toArray.map (⟨.cell ·,true,m==.atomic⟩)):=fun τ d=>by
     simp only [key,hc,e,uu,e',Except.map]
    simp only [hr];exact ih c0 hs w1 _ τ d
   | error h=>exact .inr ⟨.error h,w,es,0,by simp only [key,hc,e,uu,e',Except.map]; rfl,fun τ' d' _=>by simp only [key,hc,e,uu,e',Except.map]; rfl⟩
 | new o k ih=>exact fun c0 hs w es τ d=>ih w.heap.size c0 (hs _) { w with heap:=w.heap.push o } es τ d
 | shape r k ih=>exact fun c0 hs w es τ d=>ih (w.shape? r) c0 (hs _) w es τ d
 | freeze a n k ih =>
  intro c0 hs w es τ d;have hset:∀ τ d,(on w τ d).freeze a n=on (w.freeze a n) τ d:=fun _ _=>by unfold World.freeze on; split <;> rfl
  simp only [Sem.runT,hset];exact ih c0 hs (w.freeze a n) es τ d
 | frozen a k ih=>exact fun c0 hs w es τ d=>ih (w.frozen? a) c0 (hs _) w es τ d
 | getObj r k ih =>
  intro c0 hs w es τ d;simp only [Sem.runT,show ∀ τ d,(on w τ d).heap=w.heap from fun _ _=>rfl];cases w.heap[r]? with
  | none=>exact .inr ⟨.error (.stuck _),w,es,0,rfl,fun _ _ _=>rfl⟩
  | some o =>
   cases o with
   | cells c e f=>exact .inr ⟨.error (.stuck _),w,es,0,rfl,fun _ _ _=>rfl⟩
   | _=>exact ih _ c0 (hs _) w _ τ d
 | setObj r o k ih =>
  intro c0 hs w es τ d;simp only [Sem.runT,show ∀ τ d,(on w τ d).heap=w.heap from fun _ _=>rfl];cases w.heap[r]? with
  | none=>exact .inr ⟨.error (.stuck _),w,es,0,rfl,fun _ _ _=>rfl⟩
  | some x =>
   cases x with
   | cells c e f=>exact .inr ⟨.error (.stuck _),w,es,0,rfl,fun _ _ _=>rfl⟩
   | _=>exact ih c0 hs { w with heap:=w.heap.setIfInBounds r o } _ τ d
 | choose q k ih =>
  intro c0 hs w es τ d;by_cases hf:q.forced=true
  ·simp only [Sem.runT,hf,if_true];exact ih 0 c0 (hs _) w es τ d
  ·have hf':q.forced=false:=by simpa using hf
   simp only [Sem.runT,hf',mU,if_false];rcases ih (q.cut (τ d q)) c0 (hs _) w es τ (d+1) with ⟨j,h⟩ | ⟨r,w',es',j,h1,h2⟩
   ·refine .inl ⟨1+j,fun τ' d' hA=>?_⟩;have e0:τ' d' q=τ d q:=by simpa using hA 0 oQ q
    show ∃ x w' es',Bad x/\(k (q.cut (τ' d' q))).runT P (on w τ' (d'+1)) es=_;rw [e0];exact h τ' (d'+1) hA.tail
   ·refine .inr ⟨r,w',es',1+j,?_,fun τ' d' hA=>?_⟩
    ·have e:d+(1+j)=d+1+j:=by omega
     rw [e]; exact h1
    ·have e:d'+(1+j)=d'+1+j:=by omega
     have e0:τ' d' q=τ d q:=by simpa using hA 0 oQ q
     rw [e];show (k (q.cut (τ' d' q))).runT P (on w τ' (d'+1)) es=_;rw [e0];exact h2 τ' (d'+1) hA.tail
 | sys c k ih =>
  intro c0 hs w es τ d;simp only [Sem.runT];rcases zm7 c w τ d with hb | ⟨r,w',k1,h1,h2⟩
  ·obtain ⟨x,hx0,hx⟩:=hs.1;obtain ⟨k1,hb⟩:=hb;refine .inl ⟨k1,fun τ' d' hA=>?_⟩;rw [hb τ' d' hA,hx];exact ⟨x,_,_,hx0,rfl⟩
  ·rw [h1];rcases ih r c0 (hs.2 r) w' (es.push ⟨.output,true,false⟩) τ (d+k1) with ⟨j,h⟩ | ⟨r',w'',es',j,g1,g2⟩
   ·refine .inl ⟨k1+j,fun τ' d' hA=>?_⟩;rw [h2 τ' d' (hA.le oQ)];exact h τ' (d'+k1) hA.tail
   ·refine .inr ⟨r',w'',es',k1+j,by rw [<- Nat.add_assoc]; exact g1,fun τ' d' hA=>?_⟩;rw [h2 τ' d' (hA.le oQ),<- Nat.add_assoc];exact g2 τ' (d'+k1) hA.tail
 | program k ih=>exact fun c0 hs w es τ d=>ih P c0 hs w es τ d
 | mark m k ih =>
  intro c0 hs w es τ d;have:∃ c1,SysD P k c1:=by
   cases m <;> first | exact hs.elim | exact ⟨_,hs⟩ | (cases c0 <;> first | exact hs.elim | exact ⟨_,hs⟩)
  exact ih _ this.choose_spec w _ τ d
 | halt h=>exact fun _ _ w es τ d=>.inr ⟨.error h,w,es,0,rfl,fun _ _ _=>rfl⟩
def Said (es:Array Event):Prop:=∀ e∈es,∀ m,e.loc=.mark m->e.sync=true
def Bal (es:Array Event):Prop:=∀ x,deafBehind x es=x
def GoesOn {α:Type}:Result α->Prop
 | .ok _ _=>True
 | .halt h _=>¬ Stops h
theorem wX (x:Nat) (es fs:Array Event):deafBehind x (es++fs)=deafBehind (deafBehind x es) fs:=by simp [deafBehind]
theorem wL (x:Nat) (es:Array Event) (e:Event):deafBehind x (es.push e)=deafBehind (deafBehind x es) #[e]:=by rw [<- Array.append_singleton,wX]
theorem zlp:Bal #[]:=fun _=>rfl
theorem Bal.app {es fs:Array Event} (h:Bal es) (k:Bal fs):Bal (es++fs):=fun x=>by rw [wX,h,k]
theorem wx:Said #[]:=fun e he=>by simp at he
theorem Said.push {es:Array Event} (h:Said es) {e:Event} (he:∀ m,e.loc=.mark m->e.sync=true):Said (es.push e):=fun x hx=>(Array.mem_push.1 hx).elim (h x) fun e'=>e' ▸ he
theorem Said.app {es fs:Array Event} (h:Said es) (k:Said fs):Said (es++fs):=fun x hx=>(Array.mem_append.1 hx).elim (h x) (k x)
theorem Said.cells {es:Array Event} (h:Said es) (l:List Addr) (a b:Bool):Said (es++l.toArray.map (⟨.cell ·,a,b⟩)):=h.app fun x hx m hm=>by
 obtain ⟨y,_,rfl⟩:=Array.mem_map.1 hx;cases hm
theorem vp {x:Nat} {es:Array Event} {e:Event} (h1:e.loc≠.mark .disable) (h2:e.loc≠.mark .enable):deafBehind x (es.push e)=deafBehind x es:=by
 rw [wL,Go.ConcR.deafBehind_one h1 h2]
theorem zcA (x:Nat) (es:Array Event) (l:List Addr) (a b:Bool):deafBehind x (es++l.toArray.map (⟨.cell ·,a,b⟩))=deafBehind x es:=by
 rw [wX];refine deafBehind_still (fun e he=>?_) _;obtain ⟨y,_,rfl⟩:=Array.mem_map.1 he;exact ⟨by simp,by simp⟩
theorem zbb (w:World) (a:Addr) (s:String):Stops (w.noCell a s):=by unfold World.noCell; split <;> trivial
theorem zeS {P:Program} {w:World} {a:Addr} {b:Bool} {h:Halt} (e:w.farLoad P a b=.error h):Stops h:=by
 unfold World.farLoad at e;split at e
 ·split at e
  ·cases e
  ·cases e; trivial
 ·cases e; exact zbb _ _ _
theorem zdz {P:Program} {w:World} {a:Addr} {v:Value} {b:Bool} {h:Halt} (e:w.farStore P a v b=.error h):Stops h:=by
 unfold World.farStore at e;split at e
 ·split at e
  ·cases e
  ·cases e; trivial
 ·cases e; exact zbb _ _ _
def Low (n:Nat) (es:Array Event):Prop:=∀ e∈es,(MemAct.ofEvent e).low n
theorem zdm (n:Nat):Low n #[]:=fun e he=>by simp at he
theorem Low.mono {n m:Nat} {es:Array Event} (h:Low n es) (hm:n<=m):Low m es:=fun e he=>MemAct.low_mono hm (h e he)
theorem Low.push {n:Nat} {es:Array Event} (h:Low n es) {e:Event} (he:(MemAct.ofEvent e).low n):Low n (es.push e):=fun x hx=>(Array.mem_push.1 hx).elim (h x) fun e'=>e' ▸ he
theorem Low.app {n:Nat} {es fs:Array Event} (h:Low n es) (k:Low n fs):Low n (es++fs):=fun x hx=>(Array.mem_append.1 hx).elim (h x) (k x)
theorem zfy {n:Nat} {a:Addr} (w s:Bool) (h:a.block<n):(MemAct.ofEvent ⟨.cell a,w,s⟩).low n:=h
theorem zdn {n:Nat} {r:Nat} (w s:Bool) (h:r<n):(MemAct.ofEvent ⟨.obj r,w,s⟩).low n:=by cases w <;> cases s <;> exact h
theorem Low.cells {n:Nat} {es:Array Event} (h:Low n es) {l:List Addr} (hl:∀ x∈l,x.block<n) (a b:Bool):Low n (es++l.toArray.map (⟨.cell ·,a,b⟩)):=h.app fun x hx=>by
 obtain ⟨y,hy,rfl⟩:=Array.mem_map.1 hx;exact hl y (by simpa using hy)
theorem zgQ {w:World} {a:Addr} {v:Value} (h:w.cell? a=some v):a.block<w.heap.size:=by
 unfold World.cell? at h;split at h
 ·rename_i e; exact (mG.1 e).1
 ·cases h
theorem zg4 {P:Program} {w:World} {b:Addr} {u:TypeId} {k:Addr} {m:Bool} {x} (h:w.seen P b u k m=.ok x):b.block<w.heap.size:=by
 apply Classical.byContradiction;intro hn;have e:w.heap[b.block]? =none:=Array.getElem?_eq_none oQ;unfold World.seen at h;simp only [e,bind,Except.bind] at h
 repeat' (split at h)
 all_goals first | cases h | skip
theorem zgl {P:Program} {w:World} {a:Addr} {m:Bool} {v:Value} {t:List Addr} (h:w.farLoad P a m=.ok (v,t)):∀ x∈t,x.block<w.heap.size:=by
 unfold World.farLoad at h;split at h
 ·rename_i b u _;cases e:w.viewLoad P b u a m with
  | error s=>rw [e] at h; cases h
  | ok r =>
   rw [e] at h;cases h;unfold World.viewLoad at e;cases e1:w.seen P b u a m with
   | error s=>rw [e1] at e; cases e
   | ok y =>
    have hb:=zg4 e1;rw [e1] at e;obtain ⟨c,el,fz,first,like,cells⟩:=y;simp only [bind,Except.bind] at e;split at e
    ·cases e;intro x hx;obtain ⟨y,_,rfl⟩:=lY.1 hx;exact hb
    ·cases e
 ·cases h
theorem zfb {P:Program} {w w':World} {a:Addr} {v:Value} {m:Bool} {t:List Addr} (h:w.farStore P a v m=.ok (w',t)):w'.heap.size=w.heap.size/\∀ x∈t,x.block<w.heap.size:=by
 unfold World.farStore at h;split at h
 ·rename_i b u _;cases e:w.viewStore P b u a v m with
  | error s=>rw [e] at h; cases h
  | ok r =>
   rw [e] at h;cases h;unfold World.viewStore at e;simp only [bind,Except.bind,pure,Except.pure] at e;cases e1:w.seen P b u a m with
   | error s =>
    rw [e1] at e;split at e
    ·cases e
    ·cases e
   | ok y =>
    have hb:=zg4 e1;rw [e1] at e;obtain ⟨c,el,fz,first,like,cells⟩:=y
    repeat' (split at e)
    all_goals first | cases e | skip
    all_goals exact ⟨by simp,fun x hx=>by obtain ⟨y,_,rfl⟩:=lY.1 hx; exact hb⟩
 ·cases h
def wOf {α:Type}:Result α->World
 | .ok _ w=>w
 | .halt _ w=>w
theorem zbK (w:World) (a:Addr) (n:Nat):(w.freeze a n).heap.size=w.heap.size:=by unfold World.freeze; split <;> simp
theorem za3 (w:World) (a:Addr) (v:Value):(w.setCell a v).heap.size=w.heap.size:=by unfold World.setCell; simp
theorem zfm (w:World) (c:Sys):(w.sys c).2.heap=w.heap:=by
 have hask:∀ {α:Type} (x:Ask α) (w:World),(w.ask x).2.heap=w.heap:=by
  intro α x
  induction x with
  | done a=>exact fun w=>rfl
  | ask what range k ih =>
   intro w;simp only [World.ask];split
   ·exact ih _ _
   ·exact ih _ _
 unfold World.sys;have:=hask (Kernel.perform c w.os) w;split
 ·rename_i e; rw [e] at this; try exact this
 ·rename_i e; rw [e] at this; try exact this
theorem zfT {α:Type} {P:Program} (s:Sem α):∀ c:Nat,SysD P s c->∀ (w:World) (es:Array Event) (r:Result α) (es':Array Event),s.runT P w es=(r,es')->Said es->(∀ x,deafBehind x es=x+c)->Low w.heap.size es ->
  Said es'/\(GoesOn r->∀ x,deafBehind x es'=x)/\Low (wOf r).heap.size es'/\w.heap.size<=(wOf r).heap.size:=by
 induction s with
 | pure a =>
  intro c hs w es r es' e hd hx hl;cases e;refine ⟨hd,fun _ x=>?_,hl,mL _⟩;cases c with
  | zero=>exact hx x
  | succ c=>exact hs.elim
 | load m a k ih =>
  intro c hs w es r es' e hd hx hl;simp only [Sem.runT] at e;split at e
  ·rename_i hc;exact ih _ c (hs _) _ _ _ _ e (hd.push fun m hm=>by cases hm) (fun x=>by rw [vp sQ sQ,hx]) (hl.push (zfy _ _ (zgQ hc)))
  ·split at e
   ·rename_i e';exact ih _ c (hs _) _ _ _ _ e (hd.cells _ _ _) (fun x=>by rw [zcA,hx]) (hl.cells (zgl e') _ _)
   ·rename_i h e';cases e;exact ⟨hd,fun hg=>absurd (zeS e') hg,hl,mL _⟩
 | store m a v k ih =>
  intro c hs w es r es' e hd hx hl;have key:(∃ x,v=.agg x)\/(∃ x,v=.tuple x)\/Sem.runT P (.store m a v k) w es=match w.cell? a with
    | some _ =>
     if w.frozen? a then (.halt (.unsupported (.unsafePointer "a write to bytes that a string shares")) w,es)
     else k.runT P (w.setCell a v) (es.push ⟨.cell a,true,m==.atomic⟩)
    | none=>match w.farStore P a v (m==.atomic) with
     | .ok (w,touched)=>k.runT P w (es++touched.toArray.map (⟨.cell ·,true,m==.atomic⟩))
     | .error h=>(.halt h w,es):=by
   cases v <;> first | exact .inl ⟨_,rfl⟩ | exact .inr (.inl ⟨_,rfl⟩) | exact .inr (.inr rfl)
  rcases key with ⟨x,rfl⟩ | ⟨x,rfl⟩ | key
  ·cases e;exact ⟨hd,fun hg=>absurd trivial hg,hl,mL _⟩
  ·cases e;exact ⟨hd,fun hg=>absurd trivial hg,hl,mL _⟩
  rw [key] at e;split at e
  ·rename_i hc;split at e
   ·cases e;exact ⟨hd,fun hg=>absurd trivial hg,hl,mL _⟩
   ·have:=ih c hs _ _ _ _ e (hd.push fun m hm=>by cases hm) (fun x=>by rw [vp sQ sQ,hx]) (by rw [za3]; exact hl.push (zfy _ _ (zgQ hc)));rw [za3] at this;exact this
  ·split at e
   ·rename_i e';obtain ⟨h1,h2⟩:=zfb e';have:=ih c hs _ _ _ _ e (hd.cells _ _ _) (fun x=>by rw [zcA,hx]) (by rw [h1]; exact hl.cells h2 _ _);rw [h1] at this;exact this
   ·rename_i h e';cases e;exact ⟨hd,fun hg=>absurd (zdz e') hg,hl,mL _⟩
 | new o k ih =>
  intro c hs w es r es' e hd hx hl;have:=ih _ c (hs _) _ _ _ _ e hd hx (hl.mono sQ);refine ⟨this.1,this.2.1,this.2.2.1,mT ?_ this.2.2.2⟩;simp
 | shape x k ih=>exact fun c hs w es r es' e hd hx hl=>ih _ c (hs _) _ _ _ _ e hd hx hl
 | freeze a n k ih =>
  intro c hs w es r es' e hd hx hl;have:=ih c hs _ _ _ _ e hd hx (by rw [zbK]; exact hl);rw [zbK] at this;exact this
 | frozen a k ih=>exact fun c hs w es r es' e hd hx hl=>ih _ c (hs _) _ _ _ _ e hd hx hl
 | getObj x k ih =>
  intro c hs w es r es' e hd hx hl;simp only [Sem.runT] at e;split at e
  ·cases e;exact ⟨hd,fun hg=>absurd trivial hg,hl,mL _⟩
  ·rename_i ho;exact ih _ c (hs _) _ _ _ _ e (hd.push fun m hm=>by cases hm) (fun x=>by rw [vp sQ sQ,hx]) (hl.push (zdn _ _ (mG.1 ho).1))
  ·cases e;exact ⟨hd,fun hg=>absurd trivial hg,hl,mL _⟩
 | setObj x o k ih =>
  intro c hs w es r es' e hd hx hl;simp only [Sem.runT] at e;split at e
  ·cases e;exact ⟨hd,fun hg=>absurd trivial hg,hl,mL _⟩
  ·rename_i ho;have:=ih c hs _ _ _ _ e (hd.push fun m hm=>by cases hm) (fun x=>by rw [vp sQ sQ,hx]) (by
    simp only [Array.size_setIfInBounds];exact hl.push (zdn _ _ (mG.1 ho).1))
   simp only [Array.size_setIfInBounds] at this;exact this
  ·cases e;exact ⟨hd,fun hg=>absurd trivial hg,hl,mL _⟩
 | choose q k ih =>
  intro c hs w es r es' e hd hx hl;simp only [Sem.runT] at e;split at e
  ·exact ih _ c (hs _) _ _ _ _ e hd hx hl
  ·exact ih _ c (hs _) { w with drawn:=w.drawn+1 } es r es' e hd hx hl
 | sys y k ih =>
  intro c hs w es r es' e hd hx hl;have:=ih _ c (hs.2 _) _ _ _ _ e (hd.push fun m hm=>by cases hm) (fun x=>by rw [vp sQ sQ,hx]) (by rw [zfm]; exact hl.push trivial);rw [zfm] at this;exact this
 | program k ih=>exact fun c hs w es r es' e hd hx hl=>ih P c hs _ _ _ _ e hd hx hl
 | mark m k ih =>
  intro c hs w es r es' e hd hx hl;have hd':Said (es.push ⟨.mark m,false,true⟩):=hd.push fun _ _=>rfl;have hx':∀ x,deafBehind x (es.push ⟨.mark m,false,true⟩)=deafBehind (x+c) #[⟨.mark m,false,true⟩]:=fun x=>by rw [wL,hx]
  have hl':Low w.heap.size (es.push ⟨.mark m,false,true⟩):=hl.push (by cases m <;> first | exact hs.elim | trivial);have e':k.runT P w (es.push ⟨.mark m,false,true⟩)=(r,es'):=e;by_cases h1:m=.disable
  ·subst h1;exact ih (c+1) hs _ _ _ _ e' hd' (fun x=>by rw [hx']; simp [deafBehind]; omega) hl'
  by_cases h2:m=.enable
  ·subst h2;cases c with
   | zero=>exact hs.elim
   | succ c=>exact ih c hs _ _ _ _ e' hd' (fun x=>by rw [hx']; simp [deafBehind]) hl'
  have hs':SysD P k c:=by cases m <;> first | exact hs.elim | exact hs | exact absurd rfl h1 | exact absurd rfl h2
  exact ih c hs' _ _ _ _ e' hd' (fun x=>by rw [hx',Go.ConcR.deafBehind_one (by simpa using h1) (by simpa using h2)]) hl'
 | halt h =>
  intro c hs w es r es' e hd hx hl;cases e;refine ⟨hd,fun hg x=>?_,hl,mL _⟩;cases c with
  | zero=>exact hx x
  | succ c=>exact absurd hs hg
end Go.Vel
namespace Go.Vel
open Go
section
variable {P:Program}
theorem yg {α:Type} (a:α):zC P (pure a:Sem α):=trivial
theorem zat {α:Type} (h:Halt):zC P (.halt h:Sem α):=trivial
theorem zeE {α β:Type} {s:Sem α} {f:α->β} (h:zC P s):zC P (f <$> s):=zf h fun _=>trivial
theorem yb {α:Type} {c:Prop} [Decidable c] {s t:Sem α} (h1:zC P s) (h2:zC P t):zC P (if c then s else t):=by split <;> assumption
theorem kZ {α β:Type} {f:α->Sem β} (hf:∀ a,zC P (f a)):∀ l:List α,zC P (l.mapM f)
 | []=>trivial
 | a::l=>by
  rw [List.mapM_cons];exact zf (hf a) fun _=>zf (kZ hf l) fun _=>trivial
theorem wz {α β:Type} {f:α->Sem β} (hf:∀ a,zC P (f a)) (l:Array α):zC P (l.mapM f):=by
 rw [Array.mapM_eq_mapM_toList];exact zeE (kZ hf _)
theorem zbc {α β:Type} {f:β->α->Sem β} (hf:∀ b a,zC P (f b a)):∀ (l:List α) (b:β),zC P (l.foldlM f b)
 | [],_=>trivial
 | a::l,b=>by rw [List.foldlM_cons]; exact zf (hf b a) fun _=>zbc hf l _
theorem kU {α β:Type} {f:α->β->Sem (ForInStep β)} (hf:∀ a b,zC P (f a b)):∀ (l:List α) (b:β),zC P (forIn l b f)
 | [],_=>trivial
 | a::l,b=>by
  rw [List.forIn_cons];refine zf (hf a b) fun r=>?_;cases r with
  | done b=>trivial
  | yield b=>exact kU hf l b
theorem vE {α β:Type} {f:α->β->Sem (ForInStep β)} (hf:∀ a b,zC P (f a b)) (l:Array α) (b:β):zC P (forIn l b f):=by
 rw [<- Array.forIn_toList];exact kU hf _ _
theorem zbu {β:Type} {f:Nat->β->Sem (ForInStep β)} (hf:∀ a b,zC P (f a b)) (l:Std.Legacy.Range) (b:β):zC P (forIn l b f):=by
 rw [Std.Legacy.Range.forIn_eq_forIn_range'];exact kU hf _ _
end
class SOk (P:Program) {α:Type} (s:Sem α):Prop where
 ok:zC P s
theorem sok {P:Program} {α:Type} {s:Sem α} (h:zC P s:=by repeat' (first | exact trivial | assumption | (intro _) | exact SOk.ok | exact zat _ | (refine zf ?_ (fun _=>?_)) | (refine zeE ?_) | (refine kZ (fun _=>?_) _) | (refine wz (fun _=>?_) _) | (refine zbc (fun _ _=>?_) _ _) | (refine kU (fun _ _=>?_) _ _) | (refine vE (fun _ _=>?_) _ _) | (refine zbu (fun _ _=>?_) _ _) | split | dsimp only)):zC P s:=h
instance {P:Program} (a:Addr) (m:Mode):SOk P (load a m):=⟨fun _=>trivial⟩
instance {P:Program} (a:Addr) (v:Value) (m:Mode):SOk P (store a v m):=⟨trivial⟩
instance {P:Program} (o:Obj):SOk P (newObj o):=⟨fun _=>trivial⟩
instance {P:Program} (r:Nat):SOk P (shape r):=⟨fun _=>trivial⟩
instance {P:Program} (a:Addr) (n:Nat):SOk P (freeze a n):=⟨trivial⟩
instance {P:Program} (a:Addr):SOk P (frozen a):=⟨fun _=>trivial⟩
instance {P:Program} (r:Nat):SOk P (getObj r):=⟨fun _=>trivial⟩
instance {P:Program} (r:Nat) (o:Obj):SOk P (setObj r o):=⟨trivial⟩
instance {P:Program} (q:Question):SOk P (choose q):=⟨fun _=>trivial⟩
instance {P:Program}:SOk P program:=⟨trivial⟩
instance {P:Program}:SOk P (mark .noRoom):=⟨trivial⟩
instance {P:Program} (f:FuncId):SOk P (mark (.extern f)):=⟨trivial⟩
instance {P:Program} (fd:Nat) (b:ByteArray):SOk P (writeFd fd b):=⟨⟨.unsupported (.noEntry "print: a write on its descriptor that would wait"),trivial,rfl⟩,fun r=>by cases r <;> trivial⟩
instance {P:Program} {α:Type} (a0:_):SOk P (stuck a0:Sem α):=⟨by unfold stuck; exact sok⟩
instance {P:Program} {α:Type} (a0:_):SOk P (unsupported a0:Sem α):=⟨by unfold unsupported; exact sok⟩
instance {P:Program} {α:Type} (a0:_):SOk P (goPanic a0:Sem α):=⟨by unfold goPanic; exact sok⟩
instance {P:Program} {α:Type} (a0:_):SOk P (fatal a0:Sem α):=⟨by unfold fatal; exact sok⟩
instance {P:Program} {α:Type} (a0:_):SOk P (throw a0:Sem α):=⟨by unfold throw; exact sok⟩
instance {P:Program} {α:Type}  : SOk P (blocked  : Sem α):=⟨by unfold blocked; exact sok⟩
instance {P:Program} (a0:_):SOk P (askRoom a0):=⟨by unfold askRoom; exact sok⟩
instance {P:Program} (a0:_):SOk P (viewAt a0):=⟨by unfold viewAt; exact sok⟩
instance {P:Program} (a0:_):SOk P (numberAt a0):=⟨by unfold numberAt; exact sok⟩
instance {P:Program} (a0:_):SOk P (cellsIn a0):=⟨by unfold cellsIn; exact sok⟩
instance {P:Program} (a0:_) (a1:_):SOk P (asNumber a0 a1):=⟨by unfold asNumber; exact sok⟩
instance {P:Program} (a0:_):SOk P (behindNumber a0):=⟨by unfold behindNumber; exact sok⟩
instance {P:Program} (a0:_):SOk P (backFromNumber a0):=⟨by unfold backFromNumber; exact sok⟩
instance {P:Program} (a0:_):SOk P (noView a0):=⟨by unfold noView; exact sok⟩
instance {P:Program} (a0:_):SOk P (markStringish a0):=⟨by unfold markStringish; exact sok⟩
instance {P:Program} (a0:_):SOk P (stringish a0):=⟨by unfold stringish; exact sok⟩
instance {P:Program} (a0:_) (a1:_):SOk P (mayBeOne a0 a1):=⟨by unfold mayBeOne; exact sok⟩
instance {P:Program} (a0:_) (a1:_):SOk P (sameAddr a0 a1):=⟨by unfold sameAddr; exact sok⟩
instance {P:Program} (a0:_) (a1:_):SOk P (samePointer a0 a1):=⟨by unfold samePointer; exact sok⟩
instance {P:Program} (a0:_):SOk P (typeInfo a0):=⟨by unfold typeInfo; exact sok⟩
instance {P:Program} (a0:_):SOk P (underlying a0):=⟨by unfold underlying; exact sok⟩
instance {P:Program} (a0:_):SOk P (cutType a0):=⟨by unfold cutType; exact sok⟩
instance {P:Program} (a0:_):SOk P (globalAddr a0):=⟨by unfold globalAddr; exact sok⟩
instance {P:Program} (a0:_):SOk P (typeStr a0):=⟨by unfold typeStr; exact sok⟩
instance {P:Program} (a0:_):SOk P (zeroValue a0):=⟨by unfold zeroValue; exact sok⟩
instance {P:Program} (a0:_):SOk P (sizeOf a0):=⟨by unfold sizeOf; exact sok⟩
instance {P:Program} (a0:_):SOk P (isAgg a0):=⟨by unfold isAgg; exact sok⟩
theorem wW {P:Program} (a:Addr):∀ (n i:Nat) (acc:Array Value),zC P (loadCellsFrom a i n acc)
 | 0,_,_=>trivial
 | n+1,i,acc=>by
  unfold loadCellsFrom;exact zf SOk.ok fun _=>wW a n _ _
instance {P:Program} (a:Addr) (i n:Nat) (acc:Array Value):SOk P (loadCellsFrom a i n acc):=⟨wW a n i acc⟩
theorem uf {P:Program} (a:Addr):∀ (vs:List Value) (i:Nat),zC P (storeCells a vs i)
 | [],_=>trivial
 | v::vs,i=>by
  unfold storeCells;exact zf SOk.ok fun _=>uf a vs _
instance {P:Program} (a:Addr) (vs:List Value) (i:Nat):SOk P (storeCells a vs i):=⟨uf a vs i⟩
instance {P:Program} (a0:_) (a1:_):SOk P (loadCells a0 a1):=⟨by unfold loadCells; exact sok⟩
instance {P:Program} (a0:_) (a1:_):SOk P (loadVar a0 a1):=⟨by unfold loadVar; exact sok⟩
instance {P:Program} (a0:_) (a1:_) (a2:_):SOk P (storeVar a0 a1 a2):=⟨by unfold storeVar; exact sok⟩
instance {P:Program} (a0:_) (a1:_):SOk P (newRow a0 a1):=⟨by unfold newRow; exact sok⟩
instance {P:Program} (a0:_) (a1:_):SOk P (newVar a0 a1):=⟨by unfold newVar; exact sok⟩
instance {P:Program} (a0:_):SOk P (elemOf a0):=⟨by unfold elemOf; exact sok⟩
instance {P:Program} (a0:_) (a1:_) (a2:_):SOk P (part a0 a1 a2):=⟨by unfold part; exact sok⟩
instance {P:Program} {α:Type} (a0:_):SOk P (runtimePanic a0:Sem α):=⟨by unfold runtimePanic; exact sok⟩
instance {P:Program} {α:Type} (a0:_) (a1:_) (a2:_) (a3:_):SOk P (boundsPanic a0 a1 a2 a3:Sem α):=⟨by unfold boundsPanic; exact sok⟩
instance {P:Program} {α:Type} (a0:_):SOk P (panicString a0:Sem α):=⟨by unfold panicString; exact sok⟩
instance {P:Program} (a0:_):SOk P (asIntOf a0):=⟨by unfold asIntOf; exact sok⟩
instance {P:Program} (a0:_):SOk P (asInt a0):=⟨by unfold asInt; exact sok⟩
instance {P:Program} (a0:_):SOk P (asBool a0):=⟨by unfold asBool; exact sok⟩
instance {P:Program} (a0:_):SOk P (asString a0):=⟨by unfold asString; exact sok⟩
instance {P:Program} (a0:_):SOk P (asAgg a0):=⟨by unfold asAgg; exact sok⟩
instance {P:Program} (a0:_):SOk P (asAddr a0):=⟨by unfold asAddr; exact sok⟩
instance {P:Program} (a0:_):SOk P (byteOf a0):=⟨by unfold byteOf; exact sok⟩
instance {P:Program} (a0:_) (a1:_) (a2:_):SOk P (partAt a0 a1 a2):=⟨by unfold partAt; exact sok⟩
instance {P:Program} (a0:_) (a1:_):SOk P (fieldPlace a0 a1):=⟨by unfold fieldPlace; exact sok⟩
instance {P:Program} (a0:_) (a1:_) (a2:_):SOk P (variablesAt a0 a1 a2):=⟨by unfold variablesAt; exact sok⟩
theorem ur {P:Program}:∀ (n:Nat) (a:Addr) (acc:ByteArray),zC P (loadBytes a acc n)
 | 0,_,_=>trivial
 | n+1,a,acc=>by
  unfold loadBytes;refine zf SOk.ok fun v=>?_;split
  ·exact ur n _ _
  ·exact SOk.ok
instance {P:Program} (a:Addr) (acc:ByteArray) (n:Nat):SOk P (loadBytes a acc n):=⟨ur n a acc⟩
instance {P:Program} (a0:_) (a1:_):SOk P (Builtin.holdsCells a0 a1):=⟨by unfold Builtin.holdsCells; exact sok⟩
instance {P:Program} (a0:_) (a1:_) (a2:_) (a3:_) (a4:_):SOk P (Builtin.mayShare a0 a1 a2 a3 a4):=⟨by unfold Builtin.mayShare; exact sok⟩
instance {P:Program} (a0:_):SOk P (Builtin.lenOf a0):=⟨by unfold Builtin.lenOf; exact sok⟩
instance {P:Program} (a0:_) (a1:_) (a2:_):SOk P (Builtin.firstCells a0 a1 a2):=⟨by unfold Builtin.firstCells; exact sok⟩
instance {P:Program} (a0:_) (a1:_) (a2:_):SOk P (Builtin.cap_ a0 a1 a2):=⟨by unfold Builtin.cap_; exact sok⟩
instance {P:Program} (a0:_) (a1:_) (a2:_):SOk P (Builtin.clear_ a0 a1 a2):=⟨by unfold Builtin.clear_; exact sok⟩
instance {P:Program} (a0:_) (a1:_) (a2:_):SOk P (Builtin.copy_ a0 a1 a2):=⟨by unfold Builtin.copy_; exact sok⟩
instance {P:Program} (a0:_) (a1:_) (a2:_):SOk P (Builtin.len_ a0 a1 a2):=⟨by unfold Builtin.len_; exact sok⟩
instance {P:Program} (a:Array TypeId) (b:TypeId) (c:Array Value):SOk P (Builtin.close_ a b c):=⟨by
 unfold Builtin.close_;obtain ⟨l⟩:=c;rcases l with _ | ⟨x,_ | ⟨y,l⟩⟩
 ·exact SOk.ok (s:=stuck _)
 ·cases x <;> first | exact SOk.ok (s:=stuck _) | skip
  rename_i r;cases r
  ·exact SOk.ok (s:=runtimePanic _)
  ·refine zf (s:=getObj _) SOk.ok (fun x=>?_);exact sok
 ·exact SOk.ok (s:=stuck _)⟩
instance {P:Program} (a:Array TypeId) (b:TypeId) (c:Array Value):SOk P (Builtin.complex_ a b c):=⟨by
 unfold Builtin.complex_;obtain ⟨l⟩:=c;rcases l with _ | ⟨x,_ | ⟨y,_ | ⟨z,l⟩⟩⟩
 ·exact SOk.ok (s:=stuck _)
 ·cases x <;> exact SOk.ok (s:=stuck _)
 ·cases x <;> first | exact SOk.ok (s:=stuck _) | skip
  cases y <;> first | exact SOk.ok (s:=stuck _) | skip
  exact yb trivial SOk.ok
 ·exact SOk.ok (s:=stuck _)⟩
instance {P:Program} (a:Array TypeId) (b:TypeId) (c:Array Value):SOk P (Builtin.imag_ a b c):=⟨by
 unfold Builtin.imag_;obtain ⟨l⟩:=c;rcases l with _ | ⟨x,_ | ⟨y,l⟩⟩
 ·exact SOk.ok (s:=stuck _)
 ·cases x <;> first | exact SOk.ok (s:=stuck _) | exact yg _
 ·exact SOk.ok (s:=stuck _)⟩
instance {P:Program} (a:Array TypeId) (b:TypeId) (c:Array Value):SOk P (Builtin.real_ a b c):=⟨by
 unfold Builtin.real_;obtain ⟨l⟩:=c;rcases l with _ | ⟨x,_ | ⟨y,l⟩⟩
 ·exact SOk.ok (s:=stuck _)
 ·cases x <;> first | exact SOk.ok (s:=stuck _) | exact yg _
 ·exact SOk.ok (s:=stuck _)⟩
instance {P:Program} (a0:_) (a1:_) (a2:_):SOk P (Op.stringOp a0 a1 a2):=⟨by unfold Op.stringOp; exact sok⟩
instance {P:Program} (a0:_) (a1:_):SOk P (Op.twoPlaces a0 a1):=⟨by unfold Op.twoPlaces; exact sok⟩
instance {P:Program} (a0:_) (a1:_) (a2:_):SOk P (Op.addrSub a0 a1 a2):=⟨by unfold Op.addrSub; exact sok⟩
instance {P:Program} (a0:_) (a1:_) (a2:_):SOk P (Op.addrCmp a0 a1 a2):=⟨by unfold Op.addrCmp; exact sok⟩
instance {P:Program} (a0:_) (a1:_) (a2:_):SOk P (Op.addrMod a0 a1 a2):=⟨by unfold Op.addrMod; exact sok⟩
instance {P:Program} (a0:_) (a1:_) (a2:_) (a3:_):SOk P (Op.floatArith a0 a1 a2 a3):=⟨by unfold Op.floatArith; exact sok⟩
instance {P:Program} (a0:_) (a1:_) (a2:_) (a3:_):SOk P (Op.floatCmp a0 a1 a2 a3):=⟨by unfold Op.floatCmp; exact sok⟩
instance {P:Program} (a0:_) (a1:_) (a2:_) (a3:_):SOk P (Op.intArith a0 a1 a2 a3):=⟨by unfold Op.intArith; exact sok⟩
instance {P:Program} (a0:_) (a1:_) (a2:_) (a3:_):SOk P (Op.intBits a0 a1 a2 a3):=⟨by unfold Op.intBits; exact sok⟩
instance {P:Program} (a0:_) (a1:_) (a2:_):SOk P (Op.intCmp a0 a1 a2):=⟨by unfold Op.intCmp; exact sok⟩
instance {P:Program} (a0:_) (a1:_) (a2:_) (a3:_):SOk P (Op.intDiv a0 a1 a2 a3):=⟨by unfold Op.intDiv; exact sok⟩
instance {P:Program} (a0:_) (a1:_) (a2:_) (a3:_) (a4:_):SOk P (Op.shift a0 a1 a2 a3 a4):=⟨by unfold Op.shift; exact sok⟩
instance {P:Program} (a0:_) (a1:_):SOk P (Op.unary a0 a1):=⟨by unfold Op.unary; exact sok⟩
instance {P:Program} (a0:_) (a1:_) (a2:_):SOk P (Conv.floatToFloat a0 a1 a2):=⟨by unfold Conv.floatToFloat; exact sok⟩
instance {P:Program} (a0:_) (a1:_) (a2:_) (a3:_):SOk P (Op.Complex.arith a0 a1 a2 a3):=⟨by unfold Op.Complex.arith; exact sok⟩
instance {P:Program} (a0:_) (a1:_) (a2:_) (a3:_):SOk P (Op.Complex.cmp a0 a1 a2 a3):=⟨by unfold Op.Complex.cmp; exact sok⟩
instance {P:Program} (a0:_) (a1:_) (a2:_):SOk P (Op.Complex.conv a0 a1 a2):=⟨by unfold Op.Complex.conv; exact sok⟩
instance {P:Program} (a0:_) (a1:_) (a2:_) (a3:_):SOk P (Op.Complex.product a0 a1 a2 a3):=⟨by unfold Op.Complex.product; exact sok⟩
instance {P:Program} (a0:_) (a1:_) (a2:_) (a3:_) (a4:_):SOk P (Op.Complex.corrected a0 a1 a2 a3 a4):=⟨by unfold Op.Complex.corrected; exact sok⟩
instance {P:Program} (a0:_) (a1:_):SOk P (Builtin.max2 a0 a1):=⟨by unfold Builtin.max2; exact sok⟩
instance {P:Program} (a0:_) (a1:_) (a2:_):SOk P (Builtin.max_ a0 a1 a2):=⟨by unfold Builtin.max_; exact sok⟩
instance {P:Program} (a0:_) (a1:_):SOk P (Builtin.min2 a0 a1):=⟨by unfold Builtin.min2; exact sok⟩
instance {P:Program} (a0:_) (a1:_) (a2:_):SOk P (Builtin.min_ a0 a1 a2):=⟨by unfold Builtin.min_; exact sok⟩
instance {P:Program} (a0:_) (a1:_):SOk P (Builtin.printOne a0 a1):=⟨by unfold Builtin.printOne; exact sok⟩
instance {P:Program} (a0:_):SOk P (Conv.bytesToString a0):=⟨by unfold Conv.bytesToString; exact sok⟩
instance {P:Program} (a0:_) (a1:_) (a2:_) (a3:_):SOk P (Conv.complexToComplex a0 a1 a2 a3):=⟨by unfold Conv.complexToComplex; exact sok⟩
instance {P:Program} (a0:_) (a1:_) (a2:_):SOk P (Conv.floatToInt a0 a1 a2):=⟨by unfold Conv.floatToInt; exact sok⟩
instance {P:Program} (a0:_) (a1:_):SOk P (Conv.intToFloat a0 a1):=⟨by unfold Conv.intToFloat; exact sok⟩
instance {P:Program} (a0:_) (a1:_):SOk P (Conv.intToInt a0 a1):=⟨by unfold Conv.intToInt; exact sok⟩
instance {P:Program} (a0:_):SOk P (Conv.intToString a0):=⟨by unfold Conv.intToString; exact sok⟩
instance {P:Program} (a0:_):SOk P (Conv.runesToString a0):=⟨by unfold Conv.runesToString; exact sok⟩
instance {P:Program} (a0:_) (a1:_):SOk P (Conv.stringToBytes a0 a1):=⟨by unfold Conv.stringToBytes; exact sok⟩
instance {P:Program} (a0:_) (a1:_):SOk P (Conv.stringToRunes a0 a1):=⟨by unfold Conv.stringToRunes; exact sok⟩
instance {P:Program} (a0:_):SOk P (Conv.seenAt a0):=⟨by unfold Conv.seenAt; exact sok⟩
instance {P:Program} (a0:_) (a1:_) (a2:_):SOk P (Conv.unsafePointer a0 a1 a2):=⟨by unfold Conv.unsafePointer; exact sok⟩
instance {P:Program} (a0:_):SOk P (Instr.sureAddr a0):=⟨by unfold Instr.sureAddr; exact sok⟩
instance {P:Program} (a0:_) (a1:_):SOk P (Instr.loadAt a0 a1):=⟨by unfold Instr.loadAt; exact sok⟩
instance {P:Program} (a0:_) (a1:_) (a2:_):SOk P (Instr.storeAt a0 a1 a2):=⟨by unfold Instr.storeAt; exact sok⟩
instance {P:Program} (a0:_) (a1:_) (a2:_):SOk P (Instr.fieldAt a0 a1 a2):=⟨by unfold Instr.fieldAt; exact sok⟩
instance {P:Program} (a0:_) (a1:_) (a2:_):SOk P (Instr.indexAt a0 a1 a2):=⟨by unfold Instr.indexAt; exact sok⟩
instance {P:Program} (a0:_) (a1:_) (a2:_):SOk P (Instr.sliceBound a0 a1 a2):=⟨by unfold Instr.sliceBound; exact sok⟩
instance {P:Program} (a0:_) (a1:_) (a2:_) (a3:_) (a4:_) (a5:_):SOk P (Instr.sliceBounds a0 a1 a2 a3 a4 a5):=⟨by unfold Instr.sliceBounds; exact sok⟩
instance {P:Program} (a0:_) (a1:_) (a2:_) (a3:_) (a4:_):SOk P (Instr.slice a0 a1 a2 a3 a4):=⟨by unfold Instr.slice; exact sok⟩
instance {P:Program} (a0:_) (a1:_) (a2:_) (a3:_) (a4:_):SOk P (Instr.sliceAt a0 a1 a2 a3 a4):=⟨by unfold Instr.sliceAt; exact sok⟩
instance {P:Program} (a0:_) (a1:_):SOk P (Instr.arrayAt a0 a1):=⟨by unfold Instr.arrayAt; exact sok⟩
instance {P:Program} (a0:_) (a1:_) (a2:_):SOk P (Instr.alloc a0 a1 a2):=⟨by unfold Instr.alloc; exact sok⟩
instance {P:Program} (a0:_) (a1:_):SOk P (Instr.box a0 a1):=⟨by unfold Instr.box; exact sok⟩
instance {P:Program} (a0:_) (a1:_):SOk P (Instr.build a0 a1):=⟨by unfold Instr.build; exact sok⟩
instance {P:Program} (a0:_) (a1:_) (a2:_):SOk P (Instr.buildSlice a0 a1 a2):=⟨by unfold Instr.buildSlice; exact sok⟩
instance {P:Program} (a0:_):SOk P (Instr.entry a0):=⟨by unfold Instr.entry; exact sok⟩
instance {P:Program} (a0:_) (a1:_):SOk P (Instr.extract a0 a1):=⟨by unfold Instr.extract; exact sok⟩
instance {P:Program} (a0:_) (a1:_) (a2:_):SOk P (Instr.field a0 a1 a2):=⟨by unfold Instr.field; exact sok⟩
instance {P:Program} (a0:_) (a1:_) (a2:_):SOk P (Instr.index a0 a1 a2):=⟨by unfold Instr.index; exact sok⟩
instance {P:Program} (a:Array TypeId) (b:TypeId) (c:Array Value):SOk P (Builtin.unsafeAdd_ a b c):=⟨by
 unfold Builtin.unsafeAdd_;obtain ⟨l⟩:=c;rcases l with _ | ⟨x,_ | ⟨y,_ | ⟨z,l⟩⟩⟩
 ·exact SOk.ok (s:=stuck _)
 ·cases x <;> exact SOk.ok (s:=stuck _)
 ·cases x <;> first | exact SOk.ok (s:=stuck _) | skip
  refine zf (s:=asInt _) SOk.ok (fun _=>?_);exact sok
 ·cases x <;> exact SOk.ok (s:=stuck _)⟩
instance {P:Program} (a:Array TypeId) (b:TypeId) (c:Array Value):SOk P (Builtin.unsafeSlice_ a b c):=⟨by
 unfold Builtin.unsafeSlice_;obtain ⟨l⟩:=c;rcases l with _ | ⟨x,_ | ⟨y,_ | ⟨z,l⟩⟩⟩
 ·exact SOk.ok (s:=stuck _)
 ·cases x <;> exact SOk.ok (s:=stuck _)
 ·cases x <;> first | exact SOk.ok (s:=stuck _) | skip
  refine zf (s:=asInt _) SOk.ok (fun _=>?_);exact sok
 ·cases x <;> exact SOk.ok (s:=stuck _)⟩
instance {P:Program} (a:Array TypeId) (b:TypeId) (c:Array Value):SOk P (Builtin.unsafeString_ a b c):=⟨by
 unfold Builtin.unsafeString_;obtain ⟨l⟩:=c;rcases l with _ | ⟨x,_ | ⟨y,_ | ⟨z,l⟩⟩⟩
 ·exact SOk.ok (s:=stuck _)
 ·cases x <;> exact SOk.ok (s:=stuck _)
 ·cases x <;> first | exact SOk.ok (s:=stuck _) | skip
  refine zf (s:=asInt _) SOk.ok (fun _=>?_);exact sok
 ·cases x <;> exact SOk.ok (s:=stuck _)⟩
instance {P:Program} (a:Array TypeId) (b:TypeId) (c:Array Value):SOk P (Builtin.unsafeStringData_ a b c):=⟨by
 unfold Builtin.unsafeStringData_;obtain ⟨l⟩:=c;rcases l with _ | ⟨x,_ | ⟨y,l⟩⟩
 ·exact SOk.ok (s:=stuck _)
 ·cases x <;> first | exact SOk.ok (s:=stuck _) | skip
  rename_i s;refine yb (c:=s.size=0) ?_ ?_
  ·exact sok
  ·exact sok
 ·exact SOk.ok (s:=stuck _)⟩
instance {P:Program} (a:Array TypeId) (b:TypeId) (c:Array Value):SOk P (Builtin.unsafeSliceData_ a b c):=⟨by
 unfold Builtin.unsafeSliceData_;obtain ⟨l⟩:=c;rcases l with _ | ⟨x,_ | ⟨y,l⟩⟩
 ·exact SOk.ok (s:=stuck _)
 ·cases x <;> first | exact SOk.ok (s:=stuck _) | skip
  rename_i o n m;cases o
  ·exact yg _
  ·refine yb (c:=m≠0) ?_ ?_
   ·exact sok
   ·exact sok
 ·exact SOk.ok (s:=stuck _)⟩
instance {P:Program} (a:Array TypeId) (b:TypeId) (c:Array Value):SOk P (Builtin.ssaWrapNilChk_ a b c):=⟨by
 unfold Builtin.ssaWrapNilChk_;obtain ⟨l⟩:=c;rcases l with _ | ⟨x,_ | ⟨y,_ | ⟨z,_ | ⟨u,l⟩⟩⟩⟩
 ·exact SOk.ok (s:=stuck _)
 ·exact SOk.ok (s:=stuck _)
 ·cases y <;> exact SOk.ok (s:=stuck _)
 ·cases y <;> first | exact SOk.ok (s:=stuck _) | skip
  cases z <;> first | exact SOk.ok (s:=stuck _) | skip
  cases x <;> first | exact SOk.ok (s:=stuck _) | skip
  rename_i o;cases o
  ·refine zf (s:=choose _) SOk.ok (fun _=>?_);exact sok
  ·exact yg _
 ·cases y <;> exact SOk.ok (s:=stuck _)⟩
instance {P:Program} (a0:_) (a1:_):SOk P (Op.Complex.add a0 a1):=⟨by unfold Op.Complex.add; exact sok⟩
instance {P:Program} (a0:_) (a1:_):SOk P (Op.Complex.sub a0 a1):=⟨by unfold Op.Complex.sub; exact sok⟩
instance {P:Program} (a0:_) (a1:_):SOk P (Op.Complex.mul a0 a1):=⟨by unfold Op.Complex.mul; exact sok⟩
instance {P:Program} (a0:_) (a1:_):SOk P (Op.Complex.quo a0 a1):=⟨by unfold Op.Complex.quo; exact sok⟩
instance {P:Program} (a b c d:Nat):SOk P (Op.Complex.quotient a b c d):=⟨by
 unfold Op.Complex.quotient;refine zf SOk.ok (fun x=>?_);dsimp only;cases x;all_goals
  simp only [mU,if_false,if_true]
  repeat' (first | exact SOk.ok | exact yg _ | (refine yb ?_ ?_) | (refine zf ?_ (fun _=>?_)))⟩
instance {P:Program} (op:BinOp) (k:FloatKind) (a b c d:Nat):SOk P (Op.complexOp op k a b c d):=⟨by
 have h2:∀ o,zC P (do
  let (a,b,c,d):=(<- Op.Complex.conv k a .f64,<- Op.Complex.conv k b .f64,<- Op.Complex.conv k c .f64,<- Op.Complex.conv k d .f64)
  let (e,f) <- if o==BinOp.mul then Op.Complex.product a b c d else Op.Complex.quotient a b c d
  pure (Value.complex k (<- Op.Complex.conv .f64 e k) (<- Op.Complex.conv .f64 f k))):=by
  intro o;refine zf SOk.ok (fun _=>zf SOk.ok (fun _=>zf SOk.ok (fun _=>zf SOk.ok (fun _=>?_))));dsimp only;cases (o==BinOp.mul)
  ·exact zf (s:=Op.Complex.quotient _ _ _ _) SOk.ok (fun _=>zf SOk.ok (fun _=>zf SOk.ok (fun _=>trivial)))
  ·exact zf (s:=Op.Complex.product _ _ _ _) SOk.ok (fun _=>zf SOk.ok (fun _=>zf SOk.ok (fun _=>trivial)))
 unfold Op.complexOp;cases op;all_goals first | exact SOk.ok (s:=stuck _) | exact h2 .mul | exact h2 .quo | exact zf SOk.ok (fun _=>zf SOk.ok (fun _=>trivial))⟩
theorem zeT {P:Program}:∀ (d:Nat) (t:TypeId) (x y:Value),zC P (Op.equalIn d t x y):=by
 intro d
 induction d with
 | zero=>intro t x y; unfold Op.equalIn; exact SOk.ok
 | succ d ih =>
  intro t x y
  haveI:∀ t x y,SOk P (Op.equalIn d t x y):=fun t x y=>⟨ih t x y⟩
  unfold Op.equalIn;exact sok
instance {P:Program} (d:Nat) (t:TypeId) (x y:Value):SOk P (Op.equalIn d t x y):=⟨zeT d t x y⟩
theorem zc6 {P:Program}:∀ (d:Nat) (t:TypeId) (x y:Value),zC P (Op.eqGuardIn d t x y):=by
 intro d
 induction d with
 | zero=>intro t x y; unfold Op.eqGuardIn; exact SOk.ok
 | succ d ih =>
  intro t x y
  haveI:∀ t x y,SOk P (Op.eqGuardIn d t x y):=fun t x y=>⟨ih t x y⟩
  unfold Op.eqGuardIn;exact sok
instance {P:Program} (d:Nat) (t:TypeId) (x y:Value):SOk P (Op.eqGuardIn d t x y):=⟨zc6 d t x y⟩
theorem zdA {P:Program} (e:Bool):∀ (d:Nat) (t:TypeId) (x:Value),zC P (Instr.checkKey e d t x):=by
 intro d
 induction d with
 | zero=>intro t x; unfold Instr.checkKey; exact SOk.ok
 | succ d ih =>
  intro t x
  haveI:∀ t x,SOk P (Instr.checkKey e d t x):=fun t x=>⟨ih t x⟩
  unfold Instr.checkKey;exact sok
instance {P:Program} (e:Bool) (d:Nat) (t:TypeId) (x:Value):SOk P (Instr.checkKey e d t x):=⟨zdA e d t x⟩
instance {P:Program} (a0:_) (a1:_) (a2:_):SOk P (Op.equal a0 a1 a2):=⟨by unfold Op.equal; exact sok⟩
theorem ue {P:Program} (t:TypeId) (k:Value):∀ (es:List MapEntry) (i:Nat),zC P (Instr.findAsking t k es i)
 | [],_=>trivial
 | e::es,i=>by
  unfold Instr.findAsking;refine zf SOk.ok (fun _=>yb trivial (ue t k es _))
instance {P:Program} (t:TypeId) (k:Value) (es:List MapEntry) (i:Nat):SOk P (Instr.findAsking t k es i):=⟨ue t k es i⟩
instance {P:Program} (a0:_) (a1:_) (a2:_):SOk P (Instr.findKey a0 a1 a2):=⟨by unfold Instr.findKey; exact sok⟩
instance {P:Program} (a0:_) (a1:_) (a2:_) (a3:_):SOk P (Instr.lookup a0 a1 a2 a3):=⟨by unfold Instr.lookup; exact sok⟩
instance {P:Program} (a0:_) (a1:_):SOk P (Instr.makeChan a0 a1):=⟨by unfold Instr.makeChan; exact sok⟩
instance {P:Program} (a0:_) (a1:_) (a2:_):SOk P (Instr.makeFunc a0 a1 a2):=⟨by unfold Instr.makeFunc; exact sok⟩
instance {P:Program} (a0:_) (a1:_):SOk P (Instr.makeInterface a0 a1):=⟨by unfold Instr.makeInterface; exact sok⟩
instance {P:Program} (a0:_) (a1:_):SOk P (Instr.makeMap a0 a1):=⟨by unfold Instr.makeMap; exact sok⟩
instance {P:Program} (a0:_) (a1:_) (a2:_):SOk P (Instr.makeSlice a0 a1 a2):=⟨by unfold Instr.makeSlice; exact sok⟩
instance {P:Program} (a0:_) (a1:_):SOk P (Instr.keyThatStays a0 a1):=⟨by unfold Instr.keyThatStays; exact sok⟩
instance {P:Program} (a0:_) (a1:_) (a2:_) (a3:_):SOk P (Instr.mapUpdate a0 a1 a2 a3):=⟨by unfold Instr.mapUpdate; exact sok⟩
instance {P:Program} (a0:_) (a1:_) (a2:_):SOk P (Instr.mapEntry a0 a1 a2):=⟨by unfold Instr.mapEntry; exact sok⟩
instance {P:Program} (a0:_) (a1:_) (a2:_) (a3:_):SOk P (Instr.entryStore a0 a1 a2 a3):=⟨by unfold Instr.entryStore; exact sok⟩
instance {P:Program} (a0:_) (a1:_) (a2:_):SOk P (Builtin.delete_ a0 a1 a2):=⟨by unfold Builtin.delete_; exact sok⟩
instance {P:Program} (a0:_) (a1:_):SOk P (Place.get a0 a1):=⟨by unfold Place.get; exact sok⟩
theorem zf2 {P:Program}:∀ (l:List FieldStep) (t:TypeId) (x:Place),zC P (follow l t x):=by
 intro l
 induction l with
 | nil=>intro t x; trivial
 | cons s l ih =>
  intro t x
  haveI:∀ t x,SOk P (follow l t x):=fun t x=>⟨ih t x⟩
  unfold follow;exact sok
instance {P:Program} (l:List FieldStep) (t:TypeId) (x:Place):SOk P (follow l t x):=⟨zf2 l t x⟩
theorem zbt {P:Program}:∀ (l:List FieldStep) (t:TypeId) (x:Option Value),zC P (followBlind l t x):=by
 intro l
 induction l with
 | nil=>intro t x; trivial
 | cons s l ih =>
  intro t x
  haveI:∀ t x,SOk P (followBlind l t x):=fun t x=>⟨ih t x⟩
  unfold followBlind;exact sok
instance {P:Program} (l:List FieldStep) (t:TypeId) (x:Option Value):SOk P (followBlind l t x):=⟨zbt l t x⟩
instance {P:Program} (a0:_) (a1:_) (a2:_) (a3:_):SOk P (receiverAt a0 a1 a2 a3):=⟨by unfold receiverAt; exact sok⟩
instance {P:Program} (a0:_) (a1:_) (a2:_) (a3:_):SOk P (receiverVia a0 a1 a2 a3):=⟨by unfold receiverVia; exact sok⟩
theorem zf3 {P:Program}:∀ (n:Nat) (t:TypeId) (v:Value) (s:String),zC P (method n t v s):=by
 intro n
 induction n with
 | zero=>intro t v s; unfold method; exact SOk.ok
 | succ n ih =>
  intro t v s
  haveI:∀ t v s,SOk P (method n t v s):=fun t v s=>⟨ih t v s⟩
  unfold method;exact sok
instance {P:Program} (n:Nat) (t:TypeId) (v:Value) (s:String):SOk P (method n t v s):=⟨zf3 n t v s⟩
theorem zdB {P:Program}:∀ (n:Nat) (t:TypeId) (v:Value) (s:String),zC P (nilAhead n t v s):=by
 intro n
 induction n with
 | zero=>intro t v s; trivial
 | succ n ih =>
  intro t v s
  haveI:∀ t v s,SOk P (nilAhead n t v s):=fun t v s=>⟨ih t v s⟩
  unfold nilAhead;exact sok
instance {P:Program} (n:Nat) (t:TypeId) (v:Value) (s:String):SOk P (nilAhead n t v s):=⟨zdB n t v s⟩
instance {P:Program}:SOk P Instr.panicnil:=⟨by
 unfold Instr.panicnil
 refine ⟨⟨.stuck "strings expected",trivial,rfl⟩,fun r=>?_⟩
 cases r <;> exact trivial⟩
instance {P:Program} (a0:_) (a1:_) (a2:_):SOk P (Instr.next a0 a1 a2):=⟨by unfold Instr.next; exact sok⟩
instance {P:Program} (a0:_):SOk P (Instr.panic a0):=⟨by unfold Instr.panic; exact sok⟩
instance {P:Program} (a0:_) (a1:_):SOk P (Instr.range a0 a1):=⟨by unfold Instr.range; exact sok⟩
instance {P:Program} (a0:_):SOk P (Instr.getLoop a0):=⟨by unfold Instr.getLoop; exact sok⟩
instance {P:Program} (a0:_) (a1:_) (a2:_) (a3:_) (a4:_) (a5:_):SOk P (Instr.enterLoop a0 a1 a2 a3 a4 a5):=⟨by unfold Instr.enterLoop; exact sok⟩
instance {P:Program} (a0:_):SOk P (Instr.beginRound a0):=⟨by unfold Instr.beginRound; exact sok⟩
instance {P:Program} (a0:_) (a1:_):SOk P (Instr.endRound a0 a1):=⟨by unfold Instr.endRound; exact sok⟩
instance {P:Program} (a0:_):SOk P (Instr.endLoop a0):=⟨by unfold Instr.endLoop; exact sok⟩
instance {P:Program} (a0:_) (a1:_):SOk P (Instr.deferInRound a0 a1):=⟨by unfold Instr.deferInRound; exact sok⟩
instance {P:Program} (a0:_):SOk P (Instr.takeDeferred a0):=⟨by unfold Instr.takeDeferred; exact sok⟩
instance {P:Program} (a0:_):SOk P (Instr.waits a0):=⟨by unfold Instr.waits; exact sok⟩
instance {P:Program} (a0:_):SOk P (Instr.ready a0):=⟨by unfold Instr.ready; exact sok⟩
instance {P:Program} (a0:_) (a1:_) (a2:_) (a3:_):SOk P (Instr.typeAssert a0 a1 a2 a3):=⟨by unfold Instr.typeAssert; exact sok⟩
instance {P:Program}  : SOk P (Extern.PrintPieces.held ):=⟨by unfold Extern.PrintPieces.held; exact sok⟩
instance {P:Program} (a0:_) (a1:_) (a2:_):SOk P (movedNumber a0 a1 a2):=⟨by unfold movedNumber; exact sok⟩
instance {P:Program} (a0:_) (a1:_) (a2:_):SOk P (movedPointer a0 a1 a2):=⟨by unfold movedPointer; exact sok⟩
instance {P:Program} (a0:_) (a1:_) (a2:_) (a3:_) (a4:_) (a5:_):SOk P (eqGuard a0 a1 a2 a3 a4 a5):=⟨by unfold eqGuard; exact sok⟩
instance {P:Program} (a0:_) (a1:_) (a2:_) (a3:_):SOk P (binOp a0 a1 a2 a3):=⟨by unfold binOp; exact sok⟩
instance {P:Program} (a0:_) (a1:_) (a2:_):SOk P (convert a0 a1 a2):=⟨by unfold convert; exact sok⟩
instance {P:Program} (a0:_) (a1:_):SOk P (Deferred.ofValue a0 a1):=⟨by unfold Deferred.ofValue; exact sok⟩
instance {P:Program} (a0:_) (a1:_) (a2:_):SOk P (resolve a0 a1 a2):=⟨by unfold resolve; exact sok⟩
instance {P:Program} (a:Array TypeId) (b:TypeId) (c:Array Value):SOk P (Builtin.append_ a b c):=⟨by
 unfold Builtin.append_;split
 ·rename_i sType s x _;refine zf SOk.ok (fun d=>?_);split
  ·rename_i elem;split
   ·refine zf SOk.ok (fun size=>?_)
    extract_lets u0 jp
    have hu0:∀ r,zC P (u0 r):=fun r=>by simp only [u0]; exact SOk.ok
    clear_value u0
    have hjp:∀ z,zC P (jp z):=by
     intro z;simp -zeta only [jp]
     extract_lets jp2
     have hjp2:∀ n,zC P (jp2 n):=by
      intro n;simp -zeta only [jp2];refine yb ?_ ?_
      ·refine zf (yb SOk.ok (yb (yg _) (zf SOk.ok fun _=>yg _))) (fun _=>?_);exact sok
      ·refine zf SOk.ok (fun _=>?_)
       extract_lets jp4 jp3
       have hjp4:∀ r,zC P (jp4 r):=by
        intro r;simp -zeta only [jp4];refine zf SOk.ok (fun _=>zf SOk.ok (fun _=>zf SOk.ok (fun _=>zf SOk.ok (fun _=>zf (yb SOk.ok (yb (yg _) (zf SOk.ok fun _=>yg _))) (fun _=>zf SOk.ok (fun _=>?_))))));exact sok
       clear_value jp4
       have hjp3:∀ r,zC P (jp3 r):=by
        intro r;simp -zeta only [jp3];refine zf SOk.ok (fun _=>?_);exact yb (zf (yb SOk.ok (zf SOk.ok fun _=>yb (zf SOk.ok fun _=>hu0 _) (hu0 _))) fun _=>hjp4 _) (hjp4 _)
       clear_value jp3
       exact yb (zf SOk.ok fun _=>hjp3 _) (hjp3 _)
     clear_value jp2
     refine yb (zf SOk.ok fun _=>?_) (zf SOk.ok fun _=>hjp2 _)
     extract_lets l jp6 jp5
     have hjp6:∀ r,zC P (jp6 r):=by
      intro r;simp -zeta only [jp6];exact zf (yg _) fun _=>hjp2 _
     clear_value jp6
     have hjp5:∀ r,zC P (jp5 r):=by
      intro r;simp -zeta only [jp5];refine zf SOk.ok (fun _=>?_);exact yb (zf SOk.ok fun _=>zf SOk.ok fun _=>hjp6 _) (hjp6 _)
     clear_value jp5
     exact yb (zf SOk.ok fun _=>hjp5 _) (hjp5 _)
    clear_value jp
    split
    ·exact zf SOk.ok fun _=>zf (yg _) fun _=>hjp _
    ·exact zf (yg _) fun _=>hjp _
   ·exact SOk.ok
  ·exact SOk.ok
 ·exact SOk.ok⟩
section
variable {P:Program}
theorem sysOk_forIn'_list {α β:Type}:∀ (l:List α) (b:β) (f:(a:α)->a∈l->β->Sem (ForInStep β)),(∀ a h b,zC P (f a h b))->zC P (forIn' l b f)
 | [],_,_,_=>trivial
 | a::l,b,f,hf=>by
  rw [List.forIn'_cons];refine zf (hf a _ b) fun r=>?_;cases r with
  | done b=>trivial
  | yield b=>exact sysOk_forIn'_list l b _ fun _ _ _=>hf _ _ _
theorem sysOk_forIn'_range {β:Type} (l:Std.Legacy.Range) (b:β) (f:(a:Nat)->a∈l->β->Sem (ForInStep β)) (hf:∀ a h b,zC P (f a h b)):zC P (forIn' l b f):=by
 rw [Std.Legacy.Range.forIn'_eq_forIn'_range'];exact sysOk_forIn'_list _ _ _ fun _ _ _=>hf _ _ _
end
instance {P:Program} (ln:Bool) (c:Array Bool) (t:Array TypeId) (a:Array Value):SOk P (Builtin.pieces ln c t a):=⟨by
 unfold Builtin.pieces;refine zf (sysOk_forIn'_range _ _ _ fun i h b=>?_) fun _=>?_
 ·extract_lets c1 out jp
  have hjp:∀ u out,zC P (jp u out):=by
   intro u out;simp -zeta only [jp];split
   ·refine zf SOk.ok fun _=>zf (vE (fun _ _=>?_) _ _) fun _=>?_
    ·exact trivial
    ·exact trivial
   ·exact zf SOk.ok fun _=>trivial
  clear_value jp
  exact yb (hjp _ _) (hjp _ _)
 ·dsimp only;exact yb trivial trivial⟩
def Leaf {α:Type} (P:Program) (Q:α->Prop):Sem α->Prop
 | .pure a=>Q a
 | .load _ _ k=>∀ v,Leaf P Q (k v)
 | .store _ _ _ k=>Leaf P Q k
 | .new _ k=>∀ r,Leaf P Q (k r)
 | .shape _ k=>∀ r,Leaf P Q (k r)
 | .freeze _ _ k=>Leaf P Q k
 | .frozen _ k=>∀ r,Leaf P Q (k r)
 | .getObj _ k=>∀ r,Leaf P Q (k r)
 | .setObj _ _ k=>Leaf P Q k
 | .choose _ k=>∀ r,Leaf P Q (k r)
 | .sys _ k=>∀ r,Leaf P Q (k r)
 | .program k=>Leaf P Q (k P)
 | .mark _ k=>Leaf P Q k
 | .halt _=>True
theorem yf {α β:Type} {P:Program} {Q:β->Prop} {s:Sem α} {f:α->Sem β} (hf:∀ a,Leaf P Q (f a)):Leaf P Q (s >>= f):=by
 show Leaf P Q (Sem.bind s f)
 induction s with
 | pure a=>exact hf a
 | load m a k ih=>exact fun v=>ih v
 | store m a v k ih=>exact ih
 | new o k ih=>exact fun v=>ih v
 | shape r k ih=>exact fun v=>ih v
 | freeze a n k ih=>exact ih
 | frozen a k ih=>exact fun v=>ih v
 | getObj r k ih=>exact fun v=>ih v
 | setObj r o k ih=>exact ih
 | choose q k ih=>exact fun v=>ih v
 | sys c k ih=>exact fun v=>ih v
 | program k ih=>exact ih P
 | mark m k ih=>exact ih
 | halt h=>trivial
theorem zes {α:Type} {P:Program} {Q:α->Prop} (s:Sem α):Leaf P Q s->∀ (w:World) (es:Array Event) (a:α) (w':World) (es':Array Event),s.runT P w es=(.ok a w',es')->Q a:=by
 induction s with
 | pure a=>intro h w es a' w' es' e; simp only [Sem.runT,Prod.mk.injEq,Result.ok.injEq] at e; rw [<- e.1.1]; exact h
 | load m a k ih =>
  intro h w es a' w' es' e;simp only [Sem.runT] at e;split at e
  ·exact ih _ (h _) _ _ _ _ _ e
  ·split at e
   ·exact ih _ (h _) _ _ _ _ _ e
   ·cases e
 | store m a v k ih =>
  intro h w es a' w' es' e;have key:(∃ x,v=.agg x)\/(∃ x,v=.tuple x)\/Sem.runT P (.store m a v k) w es=match w.cell? a with
    | some _ =>
     if w.frozen? a then (.halt (.unsupported (.unsafePointer "a write to bytes that a string shares")) w,es)
     else k.runT P (w.setCell a v) (es.push ⟨.cell a,true,m==.atomic⟩)
    | none=>match w.farStore P a v (m==.atomic) with
     | .ok (w,touched)=>k.runT P w (es++touched.toArray.map (⟨.cell ·,true,m==.atomic⟩))
     | .error h=>(.halt h w,es):=by
   cases v <;> first | exact .inl ⟨_,rfl⟩ | exact .inr (.inl ⟨_,rfl⟩) | exact .inr (.inr rfl)
  rcases key with ⟨x,rfl⟩ | ⟨x,rfl⟩ | key
  ·cases e
  ·cases e
  rw [key] at e;split at e
  ·split at e
   ·cases e
   ·exact ih h _ _ _ _ _ e
  ·split at e
   ·exact ih h _ _ _ _ _ e
   ·cases e
 | new o k ih=>exact fun h w es a' w' es' e=>ih _ (h _) _ _ _ _ _ e
 | shape r k ih=>exact fun h w es a' w' es' e=>ih _ (h _) _ _ _ _ _ e
 | freeze a n k ih=>exact fun h w es a' w' es' e=>ih h _ _ _ _ _ e
 | frozen a k ih=>exact fun h w es a' w' es' e=>ih _ (h _) _ _ _ _ _ e
 | getObj r k ih =>
  intro h w es a' w' es' e;simp only [Sem.runT] at e;split at e
  ·cases e
  ·exact ih _ (h _) _ _ _ _ _ e
  ·cases e
 | setObj r o k ih =>
  intro h w es a' w' es' e;simp only [Sem.runT] at e;split at e
  ·cases e
  ·exact ih h _ _ _ _ _ e
  ·cases e
 | choose q k ih =>
  intro h w es a' w' es' e;simp only [Sem.runT] at e;split at e
  ·exact ih _ (h _) _ _ _ _ _ e
  ·exact ih _ (h _) _ _ _ _ _ e
 | sys c k ih=>exact fun h w es a' w' es' e=>ih _ (h _) _ _ _ _ _ e
 | program k ih=>exact fun h w es a' w' es' e=>ih _ h _ _ _ _ _ e
 | mark m k ih=>exact fun h w es a' w' es' e=>ih h _ _ _ _ _ e
 | halt h=>intro _ w es a' w' es' e; cases e
def NextOk:Next->Prop
 | .value _ | .skip | .enter _ _ | .round .. | .defer _ | .recover | .spawn _ | .comm .. | .coroswitch .. => True
 | .row r _=>r = "runtime.print$piece"
 | _=>False
def Tame (P:Program):Prop:=∀ (f:FuncId) (fn:Func),P.funcs[f]? =some fn->(fn.name == "runtime.NumGoroutine")=false /\
 (fn.body.isNone=true->Extern.findNext fn=none/\∀ e,Extern.find fn=some e->∀ args,zC P (e args))
section
variable {P:Program}
theorem zaA {α:Type} {f:Program->Sem α} (h:zC P (f P)):zC P (program >>= f):=h
theorem kA {α:Type} {Q:α->Prop} {f:Program->Sem α} (h:Leaf P Q (f P)):Leaf P Q (program >>= f):=h
theorem wZ {α:Type} {Q:α->Prop} {c:Prop} [Decidable c] {s t:Sem α} (h1:Leaf P Q s) (h2:Leaf P Q t):Leaf P Q (if c then s else t):=by split <;> assumption
theorem zfu {s:Sem Value}:Leaf P NextOk (do pure (Next.value (<- s))):=yf fun _=>trivial
theorem zcf (a b:Array TypeId) (c:Array Value):zC P (Extern.PrintPieces.piece a b c)/\Leaf P NextOk (Extern.PrintPieces.piece a b c):=by
 have hheld:∀ (k:Bool->Sem Next) (hk:∀ b,SysD P (k b) 1),zC P (mark .disable >>= fun _=>Extern.PrintPieces.held >>= k):=by
  intro k hk v;cases v <;> first | exact hk _ | exact trivial
 unfold Extern.PrintPieces.piece;split
 ·split
  ·rename_i first _ _ p _
   constructor
   ·refine yb (c:=p.size>65536) (zf SOk.ok fun _=>?_) ?_;all_goals
     generalize (c.size==2)=last;cases first
     ·refine zf SOk.ok fun _=>?_;cases last <;> trivial
     ·cases last
      ·refine hheld _ fun b=>?_;cases b
       ·exact zf (s:=writeFd 2 p) SOk.ok fun _=>trivial
       ·exact trivial
      ·refine hheld _ fun b=>?_;cases b
       ·exact zf (s:=writeFd 2 p) SOk.ok fun _=>trivial
       ·exact trivial
   ·refine wZ (c:=p.size>65536) (yf fun _=>?_) ?_;all_goals
     generalize (c.size==2)=last;cases first
     ·refine yf fun _=>?_;cases last
      ·rfl
      ·trivial
     ·cases last;all_goals
       refine yf fun _=>yf fun _=>wZ ?_ ?_;all_goals
        repeat (refine yf fun _=>?_)
        first | rfl | trivial
  ·exact ⟨SOk.ok,trivial⟩
 ·exact ⟨SOk.ok,trivial⟩
theorem wi (T:Tame P) (f:FuncId) (args:Array Value):zC P (callFunc f args)/\Leaf P NextOk (callFunc f args):=by
 constructor
 ·refine zaA ?_;cases hf:P.funcs[f]? with
  | none=>exact SOk.ok
  | some fn =>
   obtain ⟨h1,h2⟩:=T f fn hf;simp only [h1,mU,if_false];by_cases hb:fn.body.isNone=true
   ·obtain ⟨h3,h4⟩:=h2 hb;simp only [hb,if_true,h3];refine zf SOk.ok fun _=>?_;cases he:Extern.find fn with
    | some e=>exact zf (h4 e he args) fun _=>trivial
    | none=>exact yb trivial SOk.ok
   ·simp only [hb,mU,if_false]
    trivial
 ·refine kA ?_;cases hf:P.funcs[f]? with
  | none=>trivial
  | some fn =>
   obtain ⟨h1,h2⟩:=T f fn hf;simp only [h1,mU,if_false];by_cases hb:fn.body.isNone=true
   ·obtain ⟨h3,h4⟩:=h2 hb;simp only [hb,if_true,h3];refine yf fun _=>?_;cases he:Extern.find fn with
    | some e=>exact zfu
    | none=>exact wZ trivial trivial
   ·simp only [hb,mU,if_false]
    trivial
theorem zdp (ln:Bool) (c:Array Bool) (t:Array TypeId) (a:Array Value):zC P (Builtin.printMarked ln c t a)/\Leaf P NextOk (Builtin.printMarked ln c t a):=by
 unfold Builtin.printMarked;exact ⟨zf SOk.ok fun _=>yb trivial (zcf _ _ _).1,yf fun _=>wZ trivial (zcf _ _ _).2⟩
theorem v_ok (s:Sem Value) [h:SOk P s]:zC P (do pure (Next.value (<- s)))/\Leaf P NextOk (do pure (Next.value (<- s))):=⟨zf h.ok fun _=>trivial,zfu⟩
theorem u_ok (s:Sem Unit) [h:SOk P s]:zC P (do s; pure Next.skip)/\Leaf P NextOk (do s; pure Next.skip):=⟨zf h.ok fun _=>trivial,yf fun _=>trivial⟩
theorem zhj (b:Builtin) (t:Array TypeId) (ty:TypeId) (c:Array Bool) (a:Array Value):zC P (builtin b t ty c a)/\Leaf P NextOk (builtin b t ty c a):=by
 unfold builtin;cases b <;> first | exact v_ok _ | exact zdp _ _ _ _ | exact ⟨trivial,trivial⟩ | exact ⟨SOk.ok,trivial⟩ | exact ⟨zf SOk.ok fun _=>trivial,yf fun _=>trivial⟩
theorem vB (T:Tame P) (r:Value) (n:String) (args:Array Value):zC P (callMethod r n args)/\Leaf P NextOk (callMethod r n args):=by
 unfold callMethod;split
 ·exact ⟨zaA (zf SOk.ok fun _=>(wi T _ _).1),kA (yf fun _=>(wi T _ _).2)⟩
 ·exact ⟨SOk.ok,kA trivial⟩
 ·exact ⟨SOk.ok,trivial⟩
theorem zlf (l:Nat) (args:Array Value):zC P (Instr.yield l args)/\Leaf P NextOk (Instr.yield l args):=by
 unfold Instr.yield;exact ⟨zf SOk.ok fun _=>yb (zf SOk.ok fun _=>trivial) trivial,yf fun _=>wZ (yf fun _=>trivial) trivial⟩
theorem kE (T:Tame P) (t:Target) (args:Array Value):zC P (invoke t args)/\Leaf P NextOk (invoke t args):=by
 unfold invoke;split
 ·exact ⟨SOk.ok,kA trivial⟩
 ·exact zhj _ _ _ _ _
 ·exact wi T _ _
 ·split
  ·exact vB T _ _ _
  ·exact ⟨SOk.ok,trivial⟩
 ·split
  ·refine ⟨zf SOk.ok fun _=>?_,yf fun _=>?_⟩
   ·split <;> exact (vB T _ _ _).1
   ·split <;> exact (vB T _ _ _).2
  ·exact ⟨SOk.ok,trivial⟩
 ·split
  ·exact ⟨zf SOk.ok fun _=>(wi T _ _).1,yf fun _=>(wi T _ _).2⟩
  ·exact ⟨SOk.ok,trivial⟩
 ·exact zlf _ _
 ·exact ⟨SOk.ok,trivial⟩
 ·exact ⟨trivial,trivial⟩
theorem ziy (T:Tame P) (ρ:Operand->Value) (o:Oper):zC P (execOp ρ o)/\Leaf P NextOk (execOp ρ o):=by
 unfold execOp
 extract_lets v u
 split;all_goals first
  | exact ⟨trivial,trivial⟩
  | exact v_ok _
  | exact u_ok _
  | exact ⟨zf SOk.ok fun _=>trivial,yf fun _=>trivial⟩
  | skip
 ·constructor
  ·repeat' (first | exact SOk.ok | trivial | (refine zf ?_ fun _=>?_) | (refine yb ?_ ?_) | split)
  ·split <;> first | exact kA trivial | trivial | skip
   split <;> first | exact kA trivial | trivial | skip
   exact yf fun _=>yf fun _=>wZ (yf fun _=>trivial) trivial
 ·exact ⟨zf (zf SOk.ok fun _=>SOk.ok) fun _=>trivial,zfu⟩
 ·exact ⟨zf SOk.ok fun _=>(kE T _ _).1,yf fun _=>(kE T _ _).2⟩
 ·constructor
  ·refine zf SOk.ok fun _=>?_;split
   ·exact zf SOk.ok fun _=>trivial
   ·exact SOk.ok
  ·refine yf fun _=>?_;split
   ·exact yf fun _=>trivial
   ·trivial
 ·refine ⟨zf (wz (fun _=>?_) _) fun _=>trivial,yf fun _=>trivial⟩;exact zf SOk.ok fun _=>yg _
end
end Go.Vel
namespace Go.Vel
open Go Go.Conc
def okI:Item->Prop
  | .call .. => False
  | .extern r _=>r = "runtime.print$piece"
  | _=>True
def okF (fr:Frame):Prop:=∀ i∈fr.todo,okI i
def okG (g:Goroutine):Prop:=okF g.frame/\(∀ f∈g.callers,okF f)/\∀ t,g.status≠.sleeping t
def setOn (s:GStep) (τ:Nat->Question->Nat) (d:Nat):GStep :=
  match s with
  | .go g w es=>.go g (on w τ d) es
  | .comm g c b sh w es=>.comm g c b sh (on w τ d) es
  | .spawn g c w es=>.spawn g c (on w τ d) es
  | .count g w es=>.count g (on w τ d) es
  | .timer g o w es=>.timer g o (on w τ d) es
  | .alone g b w es=>.alone g b (on w τ d) es
  | .newcoro g c x w es=>.newcoro g c x (on w τ d) es
  | .coroswitch g c e w es=>.coroswitch g c e (on w τ d) es
  | .collect g w es=>.collect g (on w τ d) es
  | .watch g w es=>.watch g (on w τ d) es
  | .ended o w es=>.ended o (on w τ d) es
theorem zbH (es:Array Event) (s:GStep) (τ:Nat->Question->Nat) (d:Nat):GStep.after es (setOn s τ d)=setOn (GStep.after es s) τ d:=by cases s <;> rfl
def Tidy (n:Nat) (es:Array Event):Prop:=Bal es/\Low n es
theorem yy {n:Nat}:Tidy n #[]:=⟨zlp,zdm n⟩
theorem Tidy.mono {n m:Nat} {es:Array Event} (h:Tidy n es) (hm:n<=m):Tidy m es:=⟨h.1,h.2.mono hm⟩
theorem Tidy.app {n:Nat} {es fs:Array Event} (h:Tidy n es) (k:Tidy n fs):Tidy n (es++fs):=⟨h.1.app k.1,h.2.app k.2⟩
def Res (w:World):GStep->Prop
  | .go g w' es=>okG g/\Tidy w'.heap.size es/\w.heap.size<=w'.heap.size
  | .comm g _ _ _ w' es=>okG g/\Tidy w'.heap.size es/\w.heap.size<=w'.heap.size
  | .coroswitch g _ _ w' es=>okG g/\Tidy w'.heap.size es/\w.heap.size<=w'.heap.size
  | .spawn .. | .ended .. => True
  | _=>False
theorem zjq {w:World} {n:Nat} {es:Array Event} (hn:n<=w.heap.size) (hb:Tidy n es) {s:GStep} (h:Res w s):Res w (GStep.after es s):=by
  cases s <;> first | exact ⟨h.1,(hb.mono (mT hn h.2.2)).app h.2.1,h.2.2⟩ | exact h
theorem zfS {w w1:World} (hw:w.heap.size<=w1.heap.size) {s:GStep} (h:Res w1 s):Res w s:=by
  cases s <;> first | exact ⟨h.1,h.2.1,mT hw h.2.2⟩ | exact h
theorem zeR (quiet:FuncId->Bool):∀ (l:List Event) (q:Bool) (kept:Array Event) (x:Nat),(∀ e∈l,∀ m,e.loc=.mark m->e.sync=true)->deafBehind x (l.foldl (Go.Conc.seenStep quiet) (q,kept)).2=deafBehind (deafBehind x kept) l.toArray:=by
  intro l
  induction l with
  | nil=>intro q kept x _; rfl
  | cons a l ih =>
    intro q kept x h;have hl:∀ e∈l,∀ m,e.loc=.mark m->e.sync=true:=fun e he=>h e (lL _ he);rw [Go.ConcR.deafBehind_cons];simp only [List.foldl_cons,seenStep];split
    · rename_i f heq;rw [ih _ _ _ hl,Go.ConcR.deafBehind_one (by simp [heq]) (by simp [heq])]
    · rw [ih _ _ _ hl];split
      · rename_i hq;have hs:a.sync=false:=by simp only [Bool.and_eq_true,Bool.not_eq_true'] at hq; exact hq.2
        have hm:∀ m,a.loc≠.mark m:=fun m hm=>by
          have:=h a List.mem_cons_self m hm;rw [hs] at this; cases this
        rw [Go.ConcR.deafBehind_one (hm _) (hm _)]
      · rw [wL]
theorem zik {P:Program} {fn:FuncId} {es:Array Event} (hd:Said es) (hb:Bal es):Bal (seen P fn es):=fun x=>by
  rw [seen_def,zeR _ _ _ _ _ fun e he=>hd e (Array.mem_toList_iff.1 he)];exact hb x
theorem yM {P:Program} {nn:Nat} {fn:FuncId} {es:Array Event} (hd:Said es) (hb:Tidy nn es):Tidy nn (seen P fn es):=⟨zik hd hb.1,fun e he=>hb.2 e (mem_seen he)⟩
theorem wb {c:Prop} [Decidable c] {es:Array Event} (h:Said es):Said (if c then #[] else es):=by split <;> first | exact wx | exact h
theorem wB {c:Prop} [Decidable c] {nn:Nat} {es:Array Event} (h:Tidy nn es):Tidy nn (if c then #[] else es):=by split <;> first | exact yy | exact h
structure Fine (nn:Nat) (F:World->GStep):Prop where
  shift:∀ w τ d,(∃ k,∀ τ' d',Agree τ d τ' d' k->∃ o w' es,F (on w τ' d')=.ended o w' es)\/∃ s k,F (on w τ d)=setOn s τ (d+k)/\∀ τ' d',Agree τ d τ' d' k->F (on w τ' d')=setOn s τ' (d'+k)
  res:∀ w,nn<=w.heap.size->Res w (F w)
theorem yA {nn:Nat} (s:World->GStep) (h:∀ w τ d,s (on w τ d)=setOn (s w) τ d) (hr:∀ w,nn<=w.heap.size->Res w (s w)):Fine nn s :=
  ⟨fun w τ d=>.inr ⟨s w,0,h w τ d,fun τ' d' _=>h w τ' d'⟩,hr⟩
theorem zF {nn:Nat} {g:Goroutine} {es:Array Event} (h:okG g) (hb:Tidy nn es:=by first | exact yy | assumption):Fine nn fun w=>.go g w es:=yA _ (fun _ _ _=>rfl) fun _ hn=>⟨h,hb.mono hn,Nat.le_refl _⟩
theorem ya {nn:Nat} {o:Outcome} {es:Array Event}:Fine nn fun w=>.ended o w es:=yA _ (fun _ _ _=>rfl) fun _ _=>trivial
theorem yj {nn:Nat} {o:Outcome} {es es':Array Event}:Fine nn fun w=>GStep.after es (.ended o w es'):=yA _ (fun _ _ _=>rfl) fun _ _=>trivial
theorem z8 {nn:Nat} {F:World->GStep} {es:Array Event} (h:Fine nn F) (hb:Tidy nn es:=by first | exact yy | exact yM wx yy | (refine yM (by assumption) ?_; first | assumption | (rename_i hx; exact hx fun h=>h))):Fine nn fun w=>GStep.after es (F w):=by
  refine ⟨fun w τ d=>?_,fun w hn=>zjq hn hb (h.res w hn)⟩;rcases h.shift w τ d with ⟨k,e⟩ | ⟨s,k,e1,e2⟩
  · exact .inl ⟨k,fun τ' d' hA=>by
      obtain ⟨o,w',es',e⟩:=e τ' d' hA;exact ⟨o,w',es++es',by simp only [e,GStep.after]⟩⟩
  · exact .inr ⟨GStep.after es s,k,by simp only [e1,zbH],fun τ' d' hA=>by simp only [e2 τ' d' hA,zbH]⟩
def FineK (nn:Nat) (K:World->World->GStep):Prop:=(∀ w₀ w,∃ o w' es,K w₀ w=.ended o w' es)\/∃ F,Fine nn F/\∀ w₀ w,K w₀ w=F w
theorem fineK {nn:Nat} {F:World->GStep} (h:Fine nn F):FineK nn fun _ w=>F w:=.inr ⟨F,h,fun _ _=>rfl⟩
theorem zdY {nn:Nat} {α:Type} {P:Program} {s:Sem α} {Q:α->Prop} (hs:zC P s) (hl:Leaf P Q s) (K:World->Result α->Array Event->GStep)
    (hok:∀ a es nn,Q a->Said es->Tidy nn es->FineK nn fun w₀ w=>K w₀ (.ok a w) es) (hh:∀ h es nn,Said es->(¬ Stops h->Tidy nn es)->FineK nn fun w₀ w=>K w₀ (.halt h w) es) (hb:∀ h es w₀ w,Bad h->∃ o w' es',K w₀ (.halt h w) es=.ended o w' es') :
    Fine nn fun w=>K w (s.runT P w #[]).1 (s.runT P w #[]).2:=by
  have hF:∀ (r:Result α) (es:Array Event),(∀ a w,r=.ok a w->Q a)->Said es->(GoesOn r->∀ x,deafBehind x es=x)->Low (wOf r).heap.size es->(∃ a w,r=.ok a w/\FineK (wOf r).heap.size fun w₀ w=>K w₀ (.ok a w) es)\/(∃ h w,r=.halt h w/\FineK (wOf r).heap.size fun w₀ w=>K w₀ (.halt h w) es):=by
    intro r es hq hsd hbl hlo;cases r with
    | ok a w=>exact .inl ⟨a,w,rfl,hok a es _ (hq a w rfl) hsd ⟨hbl trivial,hlo⟩⟩
    | halt h w=>exact .inr ⟨h,w,rfl,hh h es _ hsd fun hx=>⟨hbl hx,hlo⟩⟩
  have hB:∀ w,Said (s.runT P w #[]).2/\(GoesOn (s.runT P w #[]).1->∀ x,deafBehind x (s.runT P w #[]).2=x)/\Low (wOf (s.runT P w #[]).1).heap.size (s.runT P w #[]).2/\w.heap.size<=(wOf (s.runT P w #[]).1).heap.size:=fun w =>
    zfT s 0 hs w #[] _ _ rfl wx (fun _=>rfl) (zdm _)
  have hQ:∀ w a w',(s.runT P w #[]).1=.ok a w'->Q a:=fun w a w' e=>zes s hl w #[] a w' (s.runT P w #[]).2 (by rw [<- e]);refine ⟨fun w τ d=>?_,fun w _=>?_⟩
  · rcases zg3 s 0 hs w #[] τ d with ⟨k,e⟩ | ⟨r,w',es',k1,e1,e2⟩
    · refine .inl ⟨k,fun τ' d' hA=>?_⟩;obtain ⟨x,w',es',hx,e⟩:=e τ' d' hA;rw [e];exact hb x es' _ w' hx
    · have hF':∃ m,FineK m fun w₀ w=>K w₀ (outW r w) es':=by
        obtain ⟨b1,b2,b3,_⟩:=hB (on w τ d);have:=hF _ _ (hQ (on w τ d)) b1 b2 b3;rw [e1] at this;rcases this with ⟨a,w₁,e,hf⟩ | ⟨h,w₁,e,hf⟩
        · cases r with
          | ok a'=>cases e; exact ⟨_,hf⟩
          | error h=>cases e
        · cases r with
          | ok a'=>cases e
          | error h=>cases e; exact ⟨_,hf⟩
      obtain ⟨m,hE | ⟨F,hF,hK⟩⟩:=hF'
      · refine .inl ⟨k1,fun τ' d' hA=>?_⟩;rw [e2 τ' d' hA];exact hE _ _
      rcases hF.shift w' τ (d+k1) with ⟨k2,e⟩ | ⟨s',k2,g1,g2⟩
      · refine .inl ⟨k1+k2,fun τ' d' hA=>?_⟩;obtain ⟨o,w'',es'',e⟩:=e τ' (d'+k1) hA.tail;exact ⟨o,w'',es'',by rw [e2 τ' d' (hA.le oQ)]; exact (hK _ _).trans e⟩
      · refine .inr ⟨s',k1+k2,by rw [e1]; refine (hK _ _).trans ?_; rw [<- Nat.add_assoc]; exact g1,fun τ' d' hA=>?_⟩;rw [e2 τ' d' (hA.le oQ)];refine (hK _ _).trans ?_;rw [<- Nat.add_assoc];exact g2 τ' (d'+k1) hA.tail
  · obtain ⟨b1,b2,b3,b4⟩:=hB w;have hk:∀ (G:World->World->GStep) (w₀ w:World),FineK w.heap.size G->Res w (G w₀ w):=by
      rintro G w₀ w (hE | ⟨F,hF,hK⟩)
      · obtain ⟨o,w',es',e⟩:=hE w₀ w;rw [e]; trivial
      · rw [hK]; exact hF.res w (mL _)
    rcases hF _ _ (hQ w) b1 b2 b3 with ⟨a,w₁,e,hf⟩ | ⟨h,w₁,e,hf⟩
    · rw [e] at hf b4 ⊢;exact zfS b4 (hk _ _ _ hf)
    · rw [e] at hf b4 ⊢;exact zfS b4 (hk _ _ _ hf)
theorem zff {nn:Nat} {α:Type} {P:Program} {s:Sem α} {Q:α->Prop} (hs:zC P s) (hl:Leaf P Q s) (K:Result α->Array Event->GStep)
    (hok:∀ a es nn,Q a->Said es->Tidy nn es->Fine nn fun w=>K (.ok a w) es) (hh:∀ h es nn,Said es->(¬ Stops h->Tidy nn es)->Fine nn fun w=>K (.halt h w) es) (hb:∀ h es w,Bad h->∃ o w' es',K (.halt h w) es=.ended o w' es') :
    Fine nn fun w=>K (s.runT P w #[]).1 (s.runT P w #[]).2 :=
  zdY hs hl (fun _=>K) (fun a es nn q h1 h2=>fineK (hok a es nn q h1 h2)) (fun h es nn h1 h2=>fineK (hh h es nn h1 h2)) (fun h es _ w b=>hb h es w b)
theorem fine_run' {nn:Nat} {α:Type} {P:Program} {s:Sem α} {Q:α->Prop} (hs:zC P s) (hl:Leaf P Q s) (K:Result α->GStep)
    (hok:∀ {nn} a,Q a->Fine nn fun w=>K (.ok a w)) (hh:∀ {nn} h,Fine nn fun w=>K (.halt h w)) (hb:∀ h w,Bad h->∃ o w' es',K (.halt h w)=.ended o w' es') :
    Fine nn fun w=>K (s.run P w):=by
  have:=zff (nn:=nn) hs hl (fun r _=>K r) (fun a _ _ h _ _=>hok a h) (fun h _ _ _ _=>hh h) (fun h _ w hb'=>hb h w hb');have e:(fun w=>K (s.run P w))=fun w=>K (s.runT P w #[]).1:=by funext w; rw [Sem.runT_eq]
  rw [e]; exact this
theorem yX {nn:Nat} {α:Type} {P:Program} {s:Sem α} {Q:α->Prop} {F:World->GStep} {K:Result α->Array Event->GStep} (hs:zC P s) (hl:Leaf P Q s)
    (hok:∀ a es nn,Q a->Said es->Tidy nn es->Fine nn fun w=>K (.ok a w) es) (hh:∀ h es nn,Said es->(¬ Stops h->Tidy nn es)->Fine nn fun w=>K (.halt h w) es) (hb:∀ h es w,Bad h->∃ o w' es',K (.halt h w) es=.ended o w' es')
    (hK:∀ w r es,s.runT P w #[]=(r,es)->F w=K r es:=by intro w r es hp; (first | rw [hp] | (dsimp only; rw [hp])) <;> rfl):Fine nn F:=by
  have e:F=fun w=>K (s.runT P w #[]).1 (s.runT P w #[]).2:=funext fun w=>hK w _ _ rfl;rw [e];exact zff hs hl K hok hh hb
theorem fine_runX' {nn:Nat} {α:Type} {P:Program} {s:Sem α} {Q:α->Prop} {F:World->GStep} {K:Result α->GStep} (hs:zC P s) (hl:Leaf P Q s)
    (hok:∀ {nn} a,Q a->Fine nn fun w=>K (.ok a w)) (hh:∀ {nn} h,Fine nn fun w=>K (.halt h w)) (hb:∀ h w,Bad h->∃ o w' es',K (.halt h w)=.ended o w' es')
    (hK:∀ w r,s.run P w=r->F w=K r:=by intro w r hp; (first | rw [hp] | (dsimp only; rw [hp])) <;> rfl):Fine nn F:=by
  have e:F=fun w=>K (s.run P w):=funext fun w=>hK w _ rfl;rw [e];exact fine_run' hs hl K hok hh hb
theorem zhu {nn:Nat} {α:Type} {P:Program} {s:Sem α} {Q:α->Prop} {F:World->GStep} {K:World->Result α->Array Event->GStep} (hs:zC P s) (hl:Leaf P Q s)
    (hok:∀ a es nn,Q a->Said es->Tidy nn es->FineK nn fun w₀ w=>K w₀ (.ok a w) es) (hh:∀ h es nn,Said es->(¬ Stops h->Tidy nn es)->FineK nn fun w₀ w=>K w₀ (.halt h w) es) (hb:∀ h es w₀ w,Bad h->∃ o w' es',K w₀ (.halt h w) es=.ended o w' es')
    (hK:∀ w r es,s.runT P w #[]=(r,es)->F w=K w r es:=by intro w r es hp; (first | rw [hp] | (dsimp only; rw [hp])) <;> rfl):Fine nn F:=by
  have e:F=fun w=>K w (s.runT P w #[]).1 (s.runT P w #[]).2:=funext fun w=>hK w _ _ rfl;rw [e];exact zdY hs hl K hok hh hb
theorem yQ {α:Type} {P:Program} (s:Sem α):Leaf P (fun _=>True) s:=by
  induction s with
  | pure a=>trivial
  | load m a k ih=>exact fun v=>ih v
  | store m a v k ih=>exact ih
  | new o k ih=>exact fun v=>ih v
  | shape r k ih=>exact fun v=>ih v
  | freeze a n k ih=>exact ih
  | frozen a k ih=>exact fun v=>ih v
  | getObj r k ih=>exact fun v=>ih v
  | setObj r o k ih=>exact ih
  | choose q k ih=>exact fun v=>ih v
  | sys c k ih=>exact fun v=>ih v
  | program k ih=>exact ih P
  | mark m k ih=>exact ih
  | halt h=>trivial
theorem w8 {fr:Frame} {l:List Item} (h:∀ i∈l,okI i) (e:fr.todo=l):okF fr:=by unfold okF; rw [e]; exact h
theorem vx {fr:Frame} (h:okF fr) {fr':Frame} (e:fr'.todo=fr.todo):okF fr':=by unfold okF; rw [e]; exact h
theorem yH {fr:Frame} (h:okF fr) (v:Value):okF (fr.finish v):=by
  unfold Frame.finish;split
  · rename_i ops i rest k e;refine w8 (l:=.inRegion ops rest::k) (fun x hx=>?_) rfl;rcases lI.1 hx with rfl | hx
    · trivial
    · exact h x (by rw [e]; exact lL _ hx)
  · rename_i l k e;refine w8 (l:=.endRangeFunc l::k) (fun x hx=>?_) rfl;rcases lI.1 hx with rfl | hx
    · trivial
    · exact h x (by rw [e]; exact lL _ hx)
  · rename_i k e;exact w8 (l:=k) (fun x hx=>h x (by rw [e]; exact lL _ hx)) rfl
  · rename_i d wr resume saved k e;exact (h (.call d wr resume saved) (by rw [e]; exact List.mem_cons_self)).elim
  · rename_i r a k e;exact w8 (l:=k) (fun x hx=>h x (by rw [e]; exact lL _ hx)) rfl
  · exact h
theorem wa {fr:Frame} (h:okF fr) (vs:List PanicEntry):okF (fr.raise vs):=by
  unfold Frame.raise;split <;> exact h
theorem kG (P:Program) (f:FuncId) (args:Array Value) (k:CallKind):okF (Frame.enter P f args k):=by
  intro i hi;simp only [Frame.enter,lS] at hi;subst hi; trivial
theorem zeh (l:Nat) (f:FuncId) (t:Array Value) (a b:Code) (k:CallKind):okF (Frame.round l f t a b k):=by
  intro i hi;simp only [Frame.round,lI,List.not_mem_nil,or_false] at hi;rcases hi with rfl | rfl | rfl <;> trivial
theorem zeg (P:Program) (args:Array Value) (k:CallKind):okF (Frame.ofRow P "runtime.print$piece" args k):=by
  intro i hi;simp only [Frame.ofRow,lS] at hi;subst hi; rfl
theorem zaX {id:Nat}:∀ {l k:List Item},(∀ i∈l,okI i)->exitTo id l=some k->∀ i∈k,okI i
  | [],_,_,e=>by simp [exitTo] at e
  | x::l,k,h,e=>by
    have hl:∀ i∈l,okI i:=fun i hi=>h i (lL _ hi);unfold exitTo at e;split at e
    · rename_i id' k' heq;simp only [List.cons.injEq] at heq;obtain ⟨_,rfl⟩:=heq;split at e
      · cases e; exact hl
      · exact zaX hl e
    · rename_i heq;simp only [List.cons.injEq] at heq;obtain ⟨_,rfl⟩:=heq;exact zaX hl e
    · rename_i heq; cases heq
theorem zaZ {id:Nat}:∀ {l k:List Item},(∀ i∈l,okI i)->gotoIn id l=some k->∀ i∈k,okI i
  | [],_,_,e=>by simp [gotoIn] at e
  | x::l,k,h,e=>by
    have hl:∀ i∈l,okI i:=fun i hi=>h i (lL _ hi);unfold gotoIn at e;split at e
    · rename_i body k' heq;simp only [List.cons.injEq] at heq;obtain ⟨_,rfl⟩:=heq;split at e
      · cases e;intro i hi;rcases lI.1 hi with rfl | hi
        · trivial
        rcases lI.1 hi with rfl | hi
        · trivial
        exact hl i hi
      · exact zaZ hl e
    · rename_i heq;simp only [List.cons.injEq] at heq;obtain ⟨_,rfl⟩:=heq;exact zaZ hl e
    · rename_i heq; cases heq
theorem wn:∀ {callers:List Frame} {fr:Frame} {v:Value} {cs:List Frame},(∀ f∈callers,okF f)->tryRecover fr callers=some (v,cs)->∀ f∈cs,okF f
  | [],fr,v,cs,_,e=>by
    unfold tryRecover at e;split at e <;> first | (rename_i heq; cases heq) | cases e
  | c::rest,fr,v,cs,h,e=>by
    have hc:=h c List.mem_cons_self;have hr:∀ f∈rest,okF f:=fun f hf=>h f (lL _ hf);unfold tryRecover at e;split at e
    · rename_i caller rest' _ heq;simp only [List.cons.injEq] at heq;obtain ⟨rfl,rfl⟩:=heq;split at e
      · simp only [Option.some.injEq,Prod.mk.injEq] at e;obtain ⟨_,rfl⟩:=e;intro f hf;rcases lI.1 hf with rfl | hf
        · exact hc
        · exact hr f hf
      · cases e
    · rename_i wrapper rest' _ heq;simp only [List.cons.injEq] at heq;obtain ⟨rfl,rfl⟩:=heq;obtain ⟨⟨v',cs'⟩,e',e''⟩:=mY.1 e;simp only [Prod.mk.injEq] at e'';obtain ⟨_,rfl⟩:=e'';intro f hf;rcases lI.1 hf with rfl | hf
      · exact hc
      · exact wn hr e' f hf
    · cases e
theorem kz:∀ {callers:List Frame} {l:Nat} {v:Value} {cs:List Frame},(∀ f∈callers,okF f)->tryRecoverLoop l callers=some (v,cs)->∀ f∈cs,okF f
  | [],l,v,cs,_,e=>by simp [tryRecoverLoop] at e
  | c::rest,l,v,cs,h,e=>by
    have hc:=h c List.mem_cons_self;have hr:∀ f∈rest,okF f:=fun f hf=>h f (lL _ hf);unfold tryRecoverLoop at e;obtain ⟨⟨v',cs'⟩,e',e''⟩:=mY.1 e;simp only [Prod.mk.injEq] at e'';obtain ⟨_,rfl⟩:=e'';intro f hf;rcases lI.1 hf with rfl | hf
    · exact hc
    split at e'
    · exact kz hr e' f hf
    · split at e'
      · exact wn hr e' f hf
      · exact kz hr e' f hf
    · exact kz hr e' f hf
section
variable {P:Program}
theorem zD {fr:Frame} {cs:List Frame} {st:GoStatus} {dy:Option Dying} {o:Option (Array CommCase×CommShape)} (h:okF fr) (hc:∀ f∈cs,okF f) (hs:∀ t,st≠.sleeping t:=by first | assumption | (intro _ hx; cases hx)):okG { frame:=fr,callers:=cs,status:=st,dying:=dy,offers:=o }:=⟨h,hc,hs⟩
theorem kn {nn:Nat} (main:Bool) {fr:Frame} {cs:List Frame} (dy:Option Dying) (v:Value) (h:okF fr) (hc:∀ f∈cs,okF f):Fine nn fun w=>doReturn P main fr cs dy v w:=by
  unfold doReturn;cases cs with
  | cons c rest =>
    have h1:=hc c List.mem_cons_self;have h2:∀ f∈rest,okF f:=fun f hf=>hc f (lL _ hf);dsimp only;split
    · exact zF (zD (yH h1 v) h2)
    · exact zF (zD (yH h1 v) h2)
    · exact zF (zD h1 h2)
    · refine zF (zD ?_ h2);split
      · split
        · exact h1
        · exact h1
      · exact h1
  | nil =>
    have h2:∀ f∈([]:List Frame),okF f:=fun f hf=>by cases hf
    dsimp only;split
    · exact zF (zD h h2)
    · exact ya
    · split
      · exact zF (zD h h2)
      · split
        · exact zF (zD (kG _ _ _ _) h2)
        · exact ya
theorem vT {nn:Nat} (fd:Nat) (text:ByteArray) (o:Outcome):Fine nn fun w=>endWith w fd text o:=by
  have hr:∀ w,∃ o' w' es,endWith w fd text o=.ended o' w' es:=by
    intro w;unfold endWith;dsimp only;split
    · split <;> exact ⟨_,_,_,rfl⟩
    · exact ⟨_,_,_,rfl⟩
    · exact ⟨_,_,_,rfl⟩
  refine ⟨fun w τ d=>.inl ⟨0,fun _ _ _=>hr _⟩,fun w _=>?_⟩;obtain ⟨_,_,_,e⟩:=hr w;rw [e]; trivial
theorem zcB {nn:Nat} {fr:Frame} (h:okF fr) (a:List ByteArray) (m:String) (wh:Bool):Fine nn fun w=>dieOf fr a m wh w:=by
  unfold dieOf;exact zF (zD h fun f hf=>by cases hf)
theorem wm {nn:Nat} {fr:Frame} (h:okF fr) (m:String):Fine nn fun w=>endThrow fr m w:=zcB h _ _ _
theorem vS {nn:Nat} {fr:Frame} (h:okF fr) (v:Value):Fine nn fun w=>endPrinting P fr v w:=by
  unfold endPrinting;dsimp only;split
  · exact wm h _
  · exact ya
instance (e:ByteArray):SOk P (withAddress e):=⟨by unfold withAddress; exact zf SOk.ok fun _=>yg _⟩
theorem vF:∀ (l:List PanicEntry) (b:Bool),zC P (reportChain l b)
  | [],_=>trivial
  | e::older,b=>by
    have ih:=vF older;unfold reportChain;refine yb (yb SOk.ok (ih _)) ?_
    extract_lets mk jp
    have hjp:∀ s,zC P (jp s):=fun s=>by
      simp -zeta only [jp];exact zf (ih _) fun _=>yg _
    clear_value jp
    repeat' (first | exact hjp _ | exact SOk.ok | exact yg _ | (refine yb ?_ ?_) | (refine zf ?_ fun _=>?_) | split)
instance (l:List PanicEntry) (b:Bool):SOk P (reportChain l b):=⟨vF l b⟩
theorem zay {nn:Nat} {fr:Frame} (cs:List Frame) (dy:Option Dying) (m:String) (h:okF fr):Fine nn fun w=>endFatal P fr cs dy m w:=by
  unfold endFatal
  extract_lets chain raw shown
  have hraw:∀ l,zC P (raw l):=by
    intro l;simp -zeta only [raw];refine kZ (fun x=>?_) _
    repeat' (first | exact SOk.ok | trivial | (refine zf ?_ fun _=>?_) | split)
  have hs:zC P shown:=by
    simp -zeta only [shown]
    clear_value raw chain
    cases dy <;> cases chain
    · exact yg _
    · exact zf SOk.ok fun _=>zf (hraw _) fun _=>yg _
    · exact zf (hraw _) fun _=>yg _
    · exact SOk.ok
  clear_value shown
  refine fine_runX' hs (yQ _) (fun a _=>?_) (fun hh=>?_) (fun hh w hb=>?_)
  · exact zcB h _ _ _
  · cases hh <;> exact ya
  · cases hh <;> exact ⟨_,_,_,rfl⟩
theorem zlB {α:Type} (k:Bool->Sem α) (hk:∀ b,SysD P (k b) 1):zC P (mark .disable >>= fun _=>Extern.PrintPieces.held >>= k):=by
  intro v;cases v <;> first | exact hk _ | exact trivial
theorem zge {nn:Nat} {fr:Frame} (d:Dying) (f:Fatal) (h:okF fr):Fine nn fun w=>writeOn P fr d f w:=by
  unfold writeOn
  extract_lets on'
  cases hp:f.pieces with
  | nil=>exact ya
  | cons piece rest =>
    dsimp -zeta only
    extract_lets j1 j2 j3 j4 write
    have h1:∀ r,zC P (j1 r):=fun r=>by
      simp -zeta only [j1]
      refine ⟨⟨.unsupported (.noEntry "a report that its descriptor cannot take whole"),trivial,rfl⟩,fun x=>?_⟩
      cases x <;> first | exact yg _ | exact SOk.ok (s:=unsupported _) | exact yb SOk.ok (yg _)
    clear_value j1
    have h2:∀ r,zC P (j2 r):=fun r=>by
      simp -zeta only [j2];exact yb (zf SOk.ok fun _=>h1 _) (h1 _)
    clear_value j2
    have h3:∀ r,SysD P (j3 r) 1:=fun r=>by
      simp -zeta only [j3];exact h2 _
    clear_value j3
    have h4:∀ r,SysD P (j4 r) 1:=fun r=>by
      simp -zeta only [j4];split
      · exact h3 _
      · exact h3 _
    clear_value j4
    have hw:zC P write:=by
      simp -zeta only [write];refine yb (zlB _ fun b=>?_) (h2 _);cases b
      · exact h4 _
      · exact trivial
    clear_value write
    have hg:∀ st f es {nn},Tidy nn es->(∀ t,st≠.sleeping t)->Fine nn fun w=>on' st f w es:=fun st f es _ hb hst=>zF (zD h (fun f hf=>by cases hf) hst)
    clear_value on'
    refine yX hw (yQ _) (fun a es _ _ _ hb=>?_) (fun hh es nn hsd hbl=>?_) (fun hh es w hb=>?_)
    · exact hg _ _ _ hb fun _ hx=>by cases hx
    · cases hh <;> first | exact hg _ _ _ yy (fun _ hx=>by cases hx) | exact ya
    · cases hh <;> first | exact hb.elim | exact ⟨_,_,_,rfl⟩
theorem zj7 {nn:Nat} (T:Tame P) {fr:Frame} (d:Dying) (h:okF fr):Fine nn fun w=>die P fr d w:=by
  have hn:∀ f∈([]:List Frame),okF f:=fun f hf=>by cases hf
  unfold die;cases d.fatal with
  | some f=>exact zge d f h
  | none =>
    dsimp only;cases d.todo with
    | nil =>
      dsimp only;by_cases hl:∃ w:World,printLockHeld P w=true
      · refine ⟨fun w τ d'=>?_,fun w hnw=>?_⟩
        · have hp:∀ τ d,printLockHeld P (on w τ d)=printLockHeld P w:=fun _ _=>rfl;by_cases hw:printLockHeld P w=true
          · right;refine ⟨.go { frame:=fr,callers:=[],status:=.blocked,dying:=some d } w,0,by simp only [hp,hw,if_true]; rfl,fun τ' d'' _=>by simp only [hp,hw,if_true]; rfl⟩
          · have hw':printLockHeld P w=false:=by simpa using hw
            simp only [hp,hw',mU,if_false];exact (vT (nn:=nn) 2 _ _).shift w τ d'
        · split
          · exact ⟨zD h hn,yy,mL _⟩
          · exact (vT 2 _ _).res w hnw
      · have:∀ w,printLockHeld P w=false:=fun w=>by
          have:=fun hw=>hl ⟨w,hw⟩;simpa using this
        simp only [this,mU,if_false];exact vT 2 _ _
    | cons x rest =>
      obtain ⟨v,mk⟩:=x;dsimp only;generalize panicText P false v=pt;cases pt with
      | text s=>exact zF (zD h hn)
      | address s =>
        refine fine_runX' (P:=P) (s:=withAddress s) SOk.ok (yQ _) (fun a _=>?_) (fun hh=>?_) (fun hh w _=>?_)
        · exact zF (zD h hn)
        · exact ya
        · exact ⟨_,_,_,rfl⟩
      | call t recv name =>
        dsimp only;refine zhu (s:=invoke (.fn (.method name) #[]) #[.iface t recv]) (kE T _ _).1 (kE T _ _).2 (fun a es nn _ hsd hbl=>?_) (fun hh es nn hsd hbl=>?_) (fun hh es w₀ w hb=>?_)
        · cases a with
          | enter f args=>(try dsimp only); exact fineK (z8 (zF (zD (kG _ _ _ _) hn)))
          | value v =>
            cases v with
            | string s=>(try dsimp only); exact fineK (z8 (zF (zD h hn)))
            | _=>exact .inl fun _ _=>⟨_,_,_,rfl⟩
          | _=>exact .inl fun _ _=>⟨_,_,_,rfl⟩
        · cases hh with
          | unsupported u=>(try dsimp only); exact fineK (yj)
          | panic v=>(try dsimp only); exact fineK (z8 (vS h v) (yM hsd (hbl id)))
          | _=>exact .inl fun _ _=>⟨_,_,_,rfl⟩
        · cases hh <;> first | exact hb.elim | exact ⟨_,_,_,rfl⟩
      | no u=>exact ya
theorem zfe {nn:Nat} {α:Type} (c:World->α) (hc:∀ w τ d,c (on w τ d)=c w) (F:α->World->GStep) (h:∀ a,Fine nn (F a)):Fine nn fun w=>F (c w) w:=by
  refine ⟨fun w τ d=>?_,fun w hn=>(h _).res w hn⟩;rcases (h (c w)).shift w τ d with ⟨k,e⟩ | ⟨s,k,e1,e2⟩
  · exact .inl ⟨k,fun τ' d' hA=>by rw [hc]; exact e τ' d' hA⟩
  · exact .inr ⟨s,k,by rw [hc]; exact e1,fun τ' d' hA=>by rw [hc]; exact e2 τ' d' hA⟩
theorem kQ {nn:Nat} {c:Prop} [Decidable c] {F G:World->GStep} (h1:c->Fine nn F) (h2:¬ c->Fine nn G):Fine nn fun w=>if c then F w else G w:=by
  by_cases h:c
  · simp only [h,if_true]; exact h1 h
  · simp only [h,if_false]; exact h2 h
theorem zki (w:World) (τ:Nat->Question->Nat) (d:Nat):∀ (n:Nat) (f:FuncId),P.found (on w τ d) n f=P.found w n f:=by
  intro n
  induction n with
  | zero=>intro f; rfl
  | succ n ih =>
    intro f;unfold Program.found;simp only [ih];rfl
theorem uN (w:World) (τ:Nat->Question->Nat) (d:Nat):∀ (n:Nat) (l s:List FuncId),P.brought (on w τ d) n l s=P.brought w n l s:=by
  intro n
  induction n with
  | zero=>intro l s; rfl
  | succ n ih =>
    intro l s;cases l with
    | nil=>rfl
    | cons f l =>
      unfold Program.brought;simp only [ih];rfl
theorem ziC {nn:Nat} {c:World->Bool} (hc:∀ w τ d,c (on w τ d)=c w) {F G:World->GStep} (h1:Fine nn F) (h2:Fine nn G):Fine nn fun w=>if c w=true then F w else G w :=
  zfe c hc (fun b w=>if b=true then F w else G w) fun _=>kQ (fun _=>h1) (fun _=>h2)
theorem ziB {nn:Nat} {α:Type} (c:World->α) (hc:∀ w τ d,c (on w τ d)=c w) {F:World->GStep} {K:α->World->GStep} (h:∀ a,Fine nn (K a)) (hK:∀ w a,c w=a->F w=K a w:=by intro w a hp; (first | rw [hp] | (dsimp only at hp ⊢; rw [hp])) <;> rfl):Fine nn F:=by
  have e:F=fun w=>K (c w) w:=funext fun w=>hK w _ rfl;rw [e];exact zfe c hc K h
theorem zhr {nn:Nat} {fr:Frame} {cs:List Frame} (dy:Option Dying) (g:Nat) (h:okF fr) (hc:∀ f∈cs,okF f):Fine nn fun w=>early P fr cs dy g w:=by
  have hb:∀ (f:FuncId) (l:List FuncId),∀ x∈l.map (Frame.enter P · #[] .early)++fr::cs,okF x:=fun f l x hx=>by
    rcases lT.1 hx with hx | hx
    · obtain ⟨y,_,rfl⟩:=lY.1 hx;exact kG _ _ _ _
    · rcases lI.1 hx with rfl | hx
      · exact h
      · exact hc _ hx
  unfold early;refine kQ (fun _=>?_) (fun _=>?_)
  · refine yA _ (fun w τ d=>?_) (fun w _=>?_)
    · rw [show (on w τ d).heap=w.heap from rfl];split <;> rfl
    · split
      · exact ⟨zD h hc,yy,by simp⟩
      · trivial
  cases P.stepOf g with
  | none=>exact ya
  | some f =>
    refine kQ (fun _=>?_) (fun _=>?_)
    · refine yA _ (fun w τ d=>?_) (fun w _=>?_)
      · rw [show (on w τ d).heap=w.heap from rfl];split <;> rfl
      · split
        · exact ⟨zD h hc,yy,by simp⟩
        · trivial
    refine ziC (fun _ _ _=>rfl) ?_ ?_
    · refine yA _ (fun w τ d=>?_) (fun w _=>?_)
      · rw [show (on w τ d).heap=w.heap from rfl];split <;> rfl
      · split
        · exact ⟨zD h hc,yy,by simp⟩
        · trivial
    refine ziB (fun w=>P.found w P.funcs.size f) (fun _ _ _=>zki _ _ _ _ _) (fun x=>?_);cases x <;> cases (fr.kind==.early) <;> dsimp only;all_goals first
      | exact ya
      | exact yA _ (fun w τ d=>by rw [uN]; rfl) (fun w _=>⟨zD (kG _ _ _ _) (hb f _),yy,mL _⟩)
      | (refine yA _ (fun w τ d=>?_) (fun w _=>?_)
         · rw [show (on w τ d).heap=w.heap from rfl];split <;> rfl
         · split
           · exact ⟨zD h hc,yy,by simp⟩
           · trivial)
      | skip
    refine kQ (fun _=>?_) (fun _=>?_)
    · exact yA _ (fun w τ d=>by rw [uN]; rfl) (fun w _=>⟨zD (kG _ _ _ _) (hb f _),yy,mL _⟩)
    refine kQ (fun _=>?_) (fun _=>?_)
    · refine yA _ (fun w τ d=>?_) (fun w _=>?_)
      · rw [show (on w τ d).heap=w.heap from rfl];split <;> rfl
      · split
        · exact ⟨zD h hc,yy,by simp⟩
        · trivial
    refine fine_runX' (P:=P) (s:=choose (.early g)) SOk.ok (yQ _) (fun a _=>?_) (fun hh=>?_) (fun hh w _=>?_);rotate_left
    · exact ya
    · exact ⟨_,_,_,rfl⟩
    cases a with
    | zero =>
      simp only;refine yA _ (fun w τ d=>?_) (fun w _=>?_)
      · rw [show (on w τ d).heap=w.heap from rfl];split <;> rfl
      · split
        · exact ⟨zD h hc,yy,by simp⟩
        · trivial
    | succ a =>
      simp only;exact yA _ (fun w τ d=>by rw [uN]; rfl) (fun w _=>⟨zD (kG _ _ _ _) (hb f _),yy,mL _⟩)
theorem wK {nn:Nat} {fr:Frame} {cs:List Frame} (dy:Option Dying) (s:Sem Next) (hs:zC P s/\Leaf P NextOk s) (h:okF fr) (hc:∀ f∈cs,okF f):Fine nn fun w=>stepG.apply P true fr cs dy s w:=by
  have hcc:∀ f∈fr::cs,okF f:=fun f hf=>by
    rcases lI.1 hf with rfl | hf
    · exact h
    · exact hc f hf
  unfold stepG.apply;simp only [if_true];refine yX hs.1 hs.2 (fun a es nn q hsd hbl=>?_) (fun hh es nn hsd hbl=>?_) (fun hh es w hb=>?_)
  · dsimp only
    (try dsimp only); refine z8 ?_ (yM (wb hsd) (wB hbl))
    cases a with
    | value v=>exact zF (zD (yH h v) hc)
    | skip=>exact zF (zD (yH h _) hc)
    | enter f args=>exact zF (zD (kG _ _ _ _) hcc)
    | round l f t a b=>exact zF (zD (zeh _ _ _ _ _ _) hcc)
    | defer d=>exact zF (zD (yH (fr:={ fr with defers:=d::fr.defers }) h undef) hc)
    | recover =>
      have hr1:∀ x,tryRecover fr cs=some x->∀ f∈x.2,okF f:=fun x e=>wn hc e;have hr2:∀ l x,tryRecoverLoop l cs=some x->∀ f∈x.2,okF f:=fun l x e=>kz hc e;dsimp only;cases fr.roundOf with
      | none =>
        dsimp only;cases e:tryRecover fr cs with
        | none=>exact zF (zD (yH h _) hc)
        | some x=>exact zF (zD (yH h _) (hr1 x e))
      | some l =>
        dsimp only;cases P.follows .rangeFuncRecover with
        | true =>
          simp only [if_true];cases e:tryRecover fr cs with
          | none=>exact zF (zD (yH h _) hc)
          | some x=>exact zF (zD (yH h _) (hr1 x e))
        | false =>
          simp only [mU,if_false];cases e:tryRecoverLoop l cs with
          | none=>exact zF (zD (yH h _) hc)
          | some x=>exact zF (zD (yH h _) (hr2 l x e))
    | spawn d =>
      refine kQ (fun _=>wm h _) (fun _=>?_);exact yA _ (fun _ _ _=>rfl) fun _ _=>trivial
    | comm c b s=>exact yA _ (fun _ _ _=>rfl) fun _ _=>⟨zD h hc,yy,mL _⟩
    | coroswitch c e=>exact yA _ (fun _ _ _=>rfl) fun _ _=>⟨zD h hc,yy,mL _⟩
    | row r args =>
      have hq:r = "runtime.print$piece" := q
      subst hq;dsimp only;split
      · rename_i k e;refine zF (zD (fun i hi=>?_) hc);rcases lI.1 hi with rfl | hi
        · rfl
        · exact h i (by rw [e]; exact lL _ hi)
      · exact zF (zD (zeg _ _ _) hcc)
    | _=>exact q.elim
  · cases hh with
    | panic v=>dsimp only; exact z8 (zF (zD (wa h _) hc)) (yM (wb hsd) (wB (hbl id)))
    | goexit=>dsimp only; exact z8 (zF (zD (wa h _) hc)) (yM (wb hsd) (wB (hbl id)))
    | blocked=>dsimp only; exact z8 (zF (zD h hc)) (yM (wb wx) (wB yy))
    | waiting=>dsimp only; exact z8 (zF (zD h hc)) (yM (wb wx) (wB yy))
    | exit c=>dsimp only; exact yj
    | fatal m=>dsimp only; exact z8 (zay _ _ _ h) (yM (wb hsd) (wB (hbl id)))
    | throw m=>dsimp only; exact z8 (wm h _) (yM (wb hsd) (wB (hbl id)))
    | unsupported u =>
      cases u with
      | initOrder g=>dsimp only; exact z8 (zhr _ _ h hc) (yM (wb wx) (wB yy))
      | _=>dsimp only; exact yj
    | stuck s=>dsimp only; exact yj
  · cases hh with
    | unsupported u=>cases u <;> first | exact hb.elim | exact ⟨_,_,_,rfl⟩
    | stuck s=>exact ⟨_,_,_,rfl⟩
    | _=>exact hb.elim
theorem zbr {nn:Nat} (T:Tame P) {fr:Frame} {cs:List Frame} (dy:Option Dying) (d:Deferred) (h:okF fr) (hc:∀ f∈cs,okF f):Fine nn fun w=>callDeferred P fr cs dy d w:=by
  have hcc:∀ f∈fr::cs,okF f:=fun f hf=>by
    rcases lI.1 hf with rfl | hf
    · exact h
    · exact hc f hf
  unfold callDeferred;refine kQ (fun _=>ya) (fun _=>?_);refine yX (kE T d.target d.args).1 (kE T d.target d.args).2 (fun a es nn q hsd hbl=>?_) (fun hh es nn hsd hbl=>?_) (fun hh es w hb=>?_)
  · dsimp only
    (try dsimp only); refine z8 ?_
    cases a with
    | enter f args=>exact zF (zD (kG _ _ _ _) hcc)
    | round l f t a b=>exact zF (zD (zeh _ _ _ _ _ _) hcc)
    | recover =>
      dsimp only;have hr:∀ v (cs':List Frame),tryRecover fr cs=some (v,cs')->∀ f∈cs',okF f:=fun v cs' e=>wn hc e
      revert hr
      generalize tryRecover fr cs=o;intro hr;cases fr.mode with
      | returning=>cases o with
        | none=>exact zF (zD h hc)
        | some x=>exact zF (zD h (hr x.1 x.2 rfl))
      | _=>exact zF (zD h hc)
    | coroswitch c e=>cases e with
      | true=>exact yA _ (fun _ _ _=>rfl) fun _ _=>⟨zD h hc,yy,mL _⟩
      | false=>exact ya
    | row r args =>
      have hq:r = "runtime.print$piece" := q
      subst hq;exact zF (zD (zeg _ _ _) hcc)
    | value v=>exact zF (zD h hc)
    | skip=>exact zF (zD h hc)
    | defer d=>exact zF (zD h hc)
    | spawn d=>exact zF (zD h hc)
    | comm c b s=>exact zF (zD h hc)
    | _=>exact q.elim
  · cases hh with
    | panic v=>dsimp only; exact z8 (zF (zD (wa h _) hc)) (yM hsd (hbl id))
    | goexit=>dsimp only; exact z8 (zF (zD (wa h _) hc)) (yM hsd (hbl id))
    | blocked=>dsimp only; exact z8 (zF (zD (vx h rfl) hc))
    | waiting=>dsimp only; exact z8 (zF (zD (vx h rfl) hc))
    | exit c=>dsimp only; exact yj
    | fatal m=>dsimp only; exact z8 (zay _ _ _ h) (yM hsd (hbl id))
    | throw m=>dsimp only; exact z8 (wm h _) (yM hsd (hbl id))
    | unsupported u=>dsimp only; exact yj
    | stuck s=>dsimp only; exact yj
  · cases hh with
    | unsupported u=>exact ⟨_,_,_,rfl⟩
    | stuck s=>exact ⟨_,_,_,rfl⟩
    | _=>exact hb.elim
theorem zeU (fn:Func) (t:Array Value):zC P (results fn t):=by
  unfold results;refine zf (wz (fun x=>?_) _) fun _=>yg _;cases x with
  | tmp t=>exact yg _
  | cell a t=>exact zf SOk.ok fun _=>SOk.ok
theorem vk {nn:Nat} (T:Tame P) (main:Bool) {fr:Frame} {cs:List Frame} (dy:Option Dying) (h:okF fr) (hc:∀ f∈cs,okF f):Fine nn fun w=>unwind P main fr cs dy w:=by
  have hn:∀ f∈([]:List Frame),okF f:=fun f hf=>by cases hf
  unfold unwind;cases hd:fr.defers with
  | cons d ds =>
    obtain ⟨t,args⟩:=d;cases t with
    | collected block =>
      refine yX (P:=P) (s:=Instr.takeDeferred block) SOk.ok (yQ _) (fun a es nn _ hsd hbl=>?_) (fun hh es _ _ _=>?_) (fun hh es w hb=>?_)
      · (try dsimp only); exact z8 (zF (zD (vx h rfl) hc))
      · (try dsimp only); exact yj
      · exact ⟨_,_,_,rfl⟩
    | _=>exact zbr T dy _ (vx h rfl) hc
  | nil =>
    cases hm:fr.mode with
    | run=>exact ya
    | panicking chain =>
      dsimp only;refine kQ (fun _=>ya) (fun _=>?_);cases cs with
      | cons c rest=>exact zF (zD (wa (hc c List.mem_cons_self) _) fun f hf=>hc f (lL _ hf))
      | nil =>
        cases dy with
        | none =>
          refine kQ (fun _=>zF (zD h hn)) (fun _=>?_);refine fine_runX' (P:=P) (s:=reportChain chain false) SOk.ok (yQ _) (fun a _=>?_) (fun hh=>?_) (fun hh w _=>?_)
          · exact zF (zD h hn)
          · cases hh <;> exact ya
          · cases hh <;> exact ⟨_,_,_,rfl⟩
        | some d =>
          cases chain with
          | nil=>exact ya
          | cons e l =>
            obtain ⟨v,r,g⟩:=e;cases g with
            | false=>exact vS h v
            | true=>exact ya
    | returning =>
      dsimp only;cases P.funcs[fr.fn]? with
      | none=>exact kn main dy _ h hc
      | some fn =>
        refine yX (P:=P) (s:=results fn fr.tmps) (zeU _ _) (yQ _) (fun a es nn _ hsd hbl=>?_) (fun hh es nn hsd hbl=>?_) (fun hh es w hb=>?_)
        · (try dsimp only); exact z8 (kn main dy a h hc)
        · cases hh <;> (dsimp only; exact yj)
        · cases hh <;> exact ⟨_,_,_,rfl⟩
theorem zdW {nn:Nat} (T:Tame P) (main:Bool) {fr:Frame} {cs:List Frame} (dy:Option Dying) (h:okF fr) (hc:∀ f∈cs,okF f):Fine nn fun w=>stepG.exec P main true fr cs dy w:=by
  have to:∀ {nn} (l:List Item),(∀ i∈l,okI i)->Fine nn fun w=>(.go { frame:={ fr with todo:=l },callers:=cs,status:=.running,dying:=dy } w:GStep):=fun {_} l hl=>zF (zD (w8 hl rfl) hc);obtain ⟨fn,tmps,todo,defers,mode,kind,roundOf⟩:=fr;cases todo with
  | nil =>
    unfold stepG.exec;dsimp only;cases roundOf with
    | none=>first | exact zF (zD (vx h rfl) hc) | exact ya
    | some l =>
      dsimp only;refine yX (P:=P) (s:=Instr.endRound l _) SOk.ok (yQ _) (fun a es nn _ hsd hbl=>?_) (fun hh es _ _ _=>?_) (fun hh es w hb=>?_)
      · (try dsimp only); exact z8 (kn main dy a h hc)
      · (try dsimp only); exact yj
      · exact ⟨_,_,_,rfl⟩
  | cons x k =>
    have hk:∀ i∈k,okI i:=fun i hi=>h i (lL _ hi);have hx:okI x:=h x List.mem_cons_self;have h2:∀ a:Item,okI a->∀ i∈a::k,okI i:=fun a ha i hi=>by
      rcases lI.1 hi with rfl | hi
      · exact ha
      · exact hk i hi
    have h3:∀ a b:Item,okI a->okI b->∀ i∈a::b::k,okI i:=fun a b ha hb i hi=>by
      rcases lI.1 hi with rfl | hi
      · exact ha
      · exact h2 b hb i hi
    unfold stepG.exec;cases x with
    | code c =>
      cases c with
      | skip=>exact to _ hk
      | label l=>exact to _ hk
      | seq a b=>exact to _ (h3 _ _ trivial trivial)
      | cond c a b =>
        dsimp only;split
        · exact to _ (h2 _ trivial)
        · exact ya
      | block i b=>exact to _ (h3 _ _ trivial trivial)
      | loop b=>exact to _ (h3 _ _ trivial trivial)
      | scope b=>exact to _ (h3 _ _ trivial trivial)
      | ret =>
        dsimp only;cases roundOf with
        | none=>first | exact zF (zD (vx h rfl) hc) | exact ya
        | some l =>
          dsimp only;refine yX (P:=P) (s:=Instr.endRound l _) SOk.ok (yQ _) (fun a es nn _ hsd hbl=>?_) (fun hh es _ _ _=>?_) (fun hh es w hb=>?_)
          · (try dsimp only); exact z8 (kn main dy a h hc)
          · (try dsimp only); exact yj
          · exact ⟨_,_,_,rfl⟩
      | exit i =>
        dsimp only;cases e:exitTo i k with
        | none =>
          try dsimp only
          cases roundOf with
          | none=>first | exact zF (zD (vx h rfl) hc) | exact ya
          | some l =>
            dsimp only;refine yX (P:=P) (s:=Instr.endRound l _) SOk.ok (yQ _) (fun a es nn _ hsd hbl=>?_) (fun hh es _ _ _=>?_) (fun hh es w hb=>?_)
            · (try dsimp only); exact z8 (kn main dy a h hc)
            · (try dsimp only); exact yj
            · exact ⟨_,_,_,rfl⟩
        | some k'=>exact to _ (zaX hk e)
      | goto i =>
        dsimp only;cases e:gotoIn i k with
        | none =>
          try dsimp only
          cases roundOf with
          | none=>first | exact zF (zD (vx h rfl) hc) | exact ya
          | some l =>
            dsimp only;refine yX (P:=P) (s:=Instr.endRound l _) SOk.ok (yQ _) (fun a es nn _ hsd hbl=>?_) (fun hh es _ _ _=>?_) (fun hh es w hb=>?_)
            · (try dsimp only); exact z8 (kn main dy a h hc)
            · (try dsimp only); exact yj
            · exact ⟨_,_,_,rfl⟩
        | some k'=>exact to _ (zaZ hk e)
      | refuse s=>exact ya
      | region id ops draw =>
        cases draw with
        | false=>exact to _ (h2 _ trivial)
        | true =>
          refine fine_runX' (P:=P) (s:=choose (.order fn id)) SOk.ok (yQ _) (fun a _=>?_) (fun hh=>?_) (fun hh w _=>?_)
          · exact to _ (h2 _ trivial)
          · exact ya
          · exact ⟨_,_,_,rfl⟩
      | rangeFunc f params assign body =>
        refine yX (P:=P) (s:=Instr.enterLoop fn tmps params assign body roundOf) SOk.ok (yQ _) (fun a es nn _ hsd hbl=>?_) (fun hh es nn hsd hbl=>?_) (fun hh es w hb=>?_);rotate_left
        · (try dsimp only); exact yj
        · exact ⟨_,_,_,rfl⟩
        (try dsimp only); refine z8 (wK _ _ ⟨zf SOk.ok fun _=>(kE T _ _).1,yf fun _=>(kE T _ _).2⟩ (w8 (h2 (.inRangeFunc a.1) trivial) rfl) hc)
    | inBlock i=>exact to _ hk
    | inScope b=>exact to _ hk
    | inLoop b=>exact to _ (h3 _ _ trivial trivial)
    | inRegion ops todo =>
      cases todo with
      | nil=>exact to _ hk
      | cons i rest =>
        dsimp only;split
        · unfold stepG.oper;split
          · exact ya
          · split
            · exact wK _ _ ⟨zf SOk.ok fun _=>zf SOk.ok fun _=>trivial,yf fun _=>yf fun _=>trivial⟩ h hc
            · exact wK _ _ (ziy T _ _) h hc
        · exact zF (zD (yH h _) hc)
    | inRangeFunc l=>exact ya
    | endRangeFunc l =>
      refine yX (P:=P) (s:=Instr.endLoop l) SOk.ok (yQ _) (fun a es nn _ hsd hbl=>?_) (fun hh es nn hsd hbl=>?_) (fun hh es w hb=>?_)
      · (try dsimp only); refine z8 (to _ fun i hi=>?_)
        rcases lT.1 hi with hi | hi
        · cases a with
          | none=>cases hi
          | some c =>
            simp only [Option.map_some,Option.toList_some,lS] at hi;subst hi; trivial
        · exact hk i hi
      · cases hh <;> first | (dsimp only; exact yj) | (dsimp only; exact z8 (zF (zD (wa h _) hc)) (yM hsd (hbl id)))
      · cases hh <;> first | exact hb.elim | exact ⟨_,_,_,rfl⟩
    | beginRound =>
      refine wK _ _ ⟨?_,?_⟩ h hc
      · refine zf ?_ fun _=>trivial;cases roundOf with
        | none=>exact SOk.ok (s:=stuck _)
        | some l=>exact SOk.ok (s:=Instr.beginRound l)
      · exact yf fun _=>trivial
    | call d w r s=>exact hx.elim
    | extern row args =>
      have hr:row = "runtime.print$piece" := hx
      subst hr
      have he:Extern.next "runtime.print$piece" = some (fun a=>Extern.PrintPieces.piece #[] #[] a):=by kernel_rfl
      simp only [he,Option.elim];exact wK _ _ (zcf _ _ _) h hc
theorem zh7 {nn:Nat} (T:Tame P) {g:Goroutine} (h:okG g):Fine nn fun w=>stepG P true g w:=by
  obtain ⟨fr,cs,st,dy,of⟩:=g;obtain ⟨h1,h2,_⟩:=h;unfold stepG;cases dy with
  | none =>
    dsimp only;cases fr.mode with
    | run=>exact zdW T true none h1 h2
    | returning=>exact vk T true none h1 h2
    | panicking c=>exact vk T true none h1 h2
  | some d =>
    obtain ⟨a,b,c,e,f,g,i⟩:=d;cases c with
    | false=>exact zj7 T _ h1
    | true =>
      dsimp only;cases fr.mode with
      | run=>exact zdW T true _ h1 h2
      | returning=>exact vk T true _ h1 h2
      | panicking c=>exact vk T true _ h1 h2
end
section
variable {P:Program}
theorem Agree.refl (τ:Nat->Question->Nat) (d k:Nat):Agree τ d τ d k:=fun _ _ _=>rfl
theorem zjz {α:Type} {s:Sem α} (hs:zC P s) (w:World) (τ:Nat->Question->Nat) (d:Nat) :
  (∃ k,∀ τ' d',Agree τ d τ' d' k->∃ x w',Bad x/\s.run P (on w τ' d')=.halt x w') \/
  ∃ (r:Except Halt α) (w':World) (k:Nat),∀ τ' d',Agree τ d τ' d' k->s.run P (on w τ' d')=outW r (on w' τ' (d'+k)):=by
 have e:∀ w,s.run P w=(s.runT P w #[]).1:=fun w=>by rw [Sem.runT_eq]
 rcases zg3 s 0 hs w #[] τ d with ⟨k,h⟩ | ⟨r,w',es,k,h1,h2⟩
 ·refine .inl ⟨k,fun τ' d' hA=>?_⟩;obtain ⟨x,w',es',hb,h⟩:=h τ' d' hA;exact ⟨x,w',hb,by rw [e,h]⟩
 ·exact .inr ⟨r,w',k,fun τ' d' hA=>by rw [e,h2 τ' d' hA]⟩
theorem zfU {α:Type} {s:Sem α} (hs:zC P s) (w:World):w.heap.size<=(wOf (s.run P w)).heap.size:=by
 have:=(zfT s 0 hs w #[] _ _ rfl wx (fun _=>rfl) (zdm _)).2.2.2;rwa [Sem.runT_eq] at this
def Hush (n:Nat) (u:Array MemOp):Prop:=∀ op∈u,op.g=0/\op.act.touch? =none/\op.act≠.mark .disable/\op.act≠.mark .enable/\op.act.low n
theorem zic {w:World} {gs:Array Goroutine} (hp:∀ r s,partners gs r s=[]) (c:CommCase):ways w gs c=ways w #[] c:=by
 have hq:∀ r s,partners (#[]:Array Goroutine) r s=[]:=fun _ _=>rfl;unfold ways;simp only [hp,hq]
theorem zc7 (w:World) (c:CommCase):∀ x∈ways w #[] c,∀ h k,x≠.partner h k:=by
 have hq:∀ r s,partners (#[]:Array Goroutine) r s=[]:=fun _ _=>rfl;intro x hx h k e;subst e;unfold ways at hx;simp only [hq] at hx;split at hx
 ·split at hx
  ·split at hx
   ·simp at hx
   ·split at hx <;> simp at hx
  ·split at hx
   ·simp at hx
   ·split at hx <;> simp at hx
  ·simp at hx
 ·simp at hx
theorem zhO {g:Goroutine} {st:GoStatus} {o:Option (Array CommCase×CommShape)} {fr:Frame} (h:okG g) (hf:okF fr) (hs:∀ t,st≠.sleeping t):okG { g with frame:=fr,status:=st,offers:=o }:=⟨hf,h.2.1,hs⟩
theorem we {g:Goroutine} (h:okG g) (cs:Array CommCase) (sh:CommShape) (k:Int) (v:Value) (ok:Bool):okG (g.finishComm P cs sh k v ok):=⟨yH h.1 _,h.2.1,fun _ hx=>by cases hx⟩
theorem zkF {rest:Rest} (ht:rest.timers=#[]) (mono:Nat) (cases:Array CommCase):timerAhead rest mono cases=false:=by
 unfold timerAhead;rw [Array.any_eq_false];intro k hk;split <;> simp [ht]
theorem zjS (w:World) (c:CommCase):∀ x∈ways w #[] c,∃ r,c.chan=.chan (some r)/\r<w.heap.size:=by
 intro x hx;unfold ways at hx;split at hx
 ·rename_i r h;refine ⟨r,h,?_⟩;split at hx
  ·rename_i e _; exact (mG.1 e).1
  ·rename_i e _; exact (mG.1 e).1
  ·simp at hx
 ·simp at hx
def chanOf (c:CommCase):Nat:=match c.chan with | .chan (some r)=>r | _=>0
theorem zb0 (g:Goroutine) (cases:Array CommCase) (b:Bool) (sh:CommShape) (w:World) (τ:Nat->Question->Nat) (d:Nat) :
  (∃ k,∀ τ' d',Agree τ d τ' d' k->∀ (rest:Rest) (gs:Array Goroutine),rest.timers=#[]->(∀ r s,partners gs r s=[]) ->
   ∃ o W ops,communicate P rest gs 0 g cases b sh (on w τ' d')=(.ended o W,ops)) \/
  ∃ k a' w' ops,Hush w'.heap.size ops/\w.heap.size<=w'.heap.size/\(okG g->okG a')/\∀ τ' d',Agree τ d τ' d' k->∀ (rest:Rest) (gs:Array Goroutine),rest.timers=#[]->(∀ r s,partners gs r s=[]) ->
   communicate P rest gs 0 g cases b sh (on w τ' d')=(.next { world:=on w' τ' (d'+k),gs:=gs.setIfInBounds 0 a',rest },ops):=by
 have hush0:∀ n,Hush n #[]:=fun n op h=>by simp at h
 have hush1:∀ (n:Nat) (a:MemAct),a.touch? =none->(∀ m,a≠.mark m)->a.low n->Hush n #[{ g:=0,fn:=g.frame.fn,pos:=g.frame.place,act:=a }]:=fun n a h1 h2 hl op h=>by
  simp only [List.mem_toArray,lS] at h;subst h;exact ⟨rfl,h1,h2 _,h2 _,hl⟩
 have hush2:∀ (n:Nat) (a a':MemAct),a.touch? =none->(∀ m,a≠.mark m)->a'.touch? =none->(∀ m,a'≠.mark m)->a.low n->a'.low n->Hush n #[{ g:=0,fn:=g.frame.fn,pos:=g.frame.place,act:=a },{ g:=0,fn:=g.frame.fn,pos:=g.frame.place,act:=a' }]:=fun n a a' h1 h2 h3 h4 hl hl' op h=>by
  simp only [List.mem_toArray,lI,List.not_mem_nil,or_false] at h;rcases h with rfl | rfl
  ·exact ⟨rfl,h1,h2 _,h2 _,hl⟩
  ·exact ⟨rfl,h3,h4 _,h4 _,hl'⟩
 have hw:∀ (gs:Array Goroutine),(∀ r s,partners gs r s=[])->∀ (τ:Nat->Question->Nat) (d:Nat) (c:CommCase),ways (on w τ d) gs c=ways w #[] c:=fun gs hp τ d c=>zic hp c;by_cases hill:cases.any (illMade w)=true
 ·refine .inl ⟨0,fun τ' d' _ rest gs ht hp=>?_⟩;unfold communicate;exact ⟨_,_,_,if_pos hill⟩
 have hnot:∀ (τ':Nat->Question->Nat) (d':Nat),¬ cases.any (illMade (on w τ' d'))=true:=fun _ _=>hill;generalize hready:((cases.zipIdx.toList.map fun (c,k)=>(k,c,ways w #[] c)).filter fun (_,_,ws) => !ws.isEmpty)=ready;have hrd:∀ (gs:Array Goroutine),(∀ r s,partners gs r s=[])->∀ (τ:Nat->Question->Nat) (d:Nat),((cases.zipIdx.toList.map fun (c,k)=>(k,c,ways (on w τ d) gs c)).filter fun (_,_,ws) => !ws.isEmpty)=ready:=fun gs hp τ d=>by
  rw [<- hready];simp only [hw gs hp]
 have hno:∀ x∈ready,∀ y∈x.2.2,(∀ h k,y≠Way.partner h k)/\∃ r,x.2.1.chan=.chan (some r)/\r<w.heap.size:=by
  intro x hx y hy;rw [<- hready] at hx;obtain ⟨⟨c,k⟩,_,rfl⟩:=lY.1 (List.mem_filter.1 hx).1;exact ⟨zc7 w c y hy,zjS w c y hy⟩
 by_cases hre:ready.isEmpty=true
 ·cases b with
  | true =>
   refine .inr ⟨0,{ g with status:=.blocked,offers:=some (cases,sh) },w,#[],hush0 _,mL _,fun h=>zhO (st:=.blocked) h h.1 (fun _ hx=>by cases hx),fun τ' d' _ rest gs ht hp=>?_⟩;unfold communicate;simp only [hrd gs hp,hre,if_true,waitingAt,zkF ht,mU,if_false];exact if_neg (hnot τ' d')
  | false =>
   refine .inr ⟨0,g.finishComm P cases sh (-1) undef false,w,#[],hush0 _,mL _,fun h=>we h _ _ _ _ _,fun τ' d' _ rest gs ht hp=>?_⟩;unfold communicate;simp only [hrd gs hp,hre,if_true,mU,if_false];exact if_neg (hnot τ' d')
 ·have hre':ready.isEmpty=false:=by simpa using hre
  have hcl:∀ x∈ready,chanOf x.2.1<w.heap.size:=fun x hx=>by
   have hne:x.2.2≠[]:=by
    rw [<- hready] at hx;have:=(List.mem_filter.1 hx).2;simpa using this
   obtain ⟨y,hy⟩:=List.exists_mem_of_ne_nil _ hne;obtain ⟨r,h1,h2⟩:=(hno x hx y hy).2;unfold chanOf;rw [h1];exact h2
  have hpos:0<w.heap.size:=by
   obtain ⟨x,hx⟩:=List.exists_mem_of_ne_nil ready (by simpa using hre);exact Nat.lt_of_le_of_lt (mN _) (hcl x hx)
  have hs:zC P (do
    let a <- choose (.select ready.length)
    let (k,c,ws):=ready.getD a (0,default,[])
    let b <- choose (.extern "which waiting goroutine is the partner" ws.length)
    pure (k,c,ws.getD b .closed):Sem (Nat×CommCase×Way)):=zf SOk.ok fun _=>zf SOk.ok fun _=>yg _
  have hl:Leaf P (fun x:Nat×CommCase×Way=>(∀ h k,x.2.2≠Way.partner h k)/\(x.2.2=.buffer->∃ r,x.2.1.chan=.chan (some r))/\chanOf x.2.1<w.heap.size) (do
    let a <- choose (.select ready.length)
    let (k,c,ws):=ready.getD a (0,default,[])
    let b <- choose (.extern "which waiting goroutine is the partner" ws.length)
    pure (k,c,ws.getD b .closed):Sem (Nat×CommCase×Way)):=by
   have key:∀ x:Nat×CommCase×List Way,(x∈ready\/x=(0,default,[]))->Leaf P (fun x:Nat×CommCase×Way=>(∀ h k,x.2.2≠Way.partner h k)/\(x.2.2=.buffer->∃ r,x.2.1.chan=.chan (some r))/\chanOf x.2.1<w.heap.size) (match x with
     | (k,c,ws)=>do
      let b <- choose (.extern "which waiting goroutine is the partner" ws.length)
      pure (k,c,ws.getD b .closed):Sem (Nat×CommCase×Way)):=by
    rintro ⟨k',c',ws⟩ hm b;show (∀ h k,ws.getD b .closed≠_)/\(ws.getD b .closed=_->∃ r,c'.chan=.chan (some r))/\chanOf c'<w.heap.size;have hch:chanOf c'<w.heap.size:=by
     rcases hm with hm | hm
     ·exact hcl _ hm
     ·cases hm;exact Nat.lt_of_le_of_lt (mN _) hpos
    rw [List.getD_eq_getElem?_getD];cases e:ws[b]? with
    | none=>exact ⟨by simp,by simp,hch⟩
    | some y =>
     rcases hm with hm | hm
     ·exact ⟨fun h k=>(hno _ hm y (lN e)).1 h k,fun _=>(hno _ hm y (lN e)).2.imp fun _ h=>h.1,hch⟩
     ·cases hm;simp at e
   intro a;refine key _ ?_;cases e:ready[a]? with
   | none=>exact .inr rfl
   | some x=>exact .inl (lN e)
  rcases zjz hs w τ d with ⟨k,h⟩ | ⟨r,w',k,h⟩
  ·refine .inl ⟨k,fun τ' d' hA rest gs ht hp=>?_⟩;obtain ⟨x,w',_,h⟩:=h τ' d' hA;unfold communicate;simp only [hrd gs hp,hre',mU,if_false,h];exact ⟨_,_,_,if_neg (hnot τ' d')⟩
  cases r with
  | error x =>
   refine .inl ⟨k,fun τ' d' hA rest gs ht hp=>?_⟩;unfold communicate;simp only [hrd gs hp,hre',mU,if_false,h τ' d' hA,outW];exact ⟨_,_,_,if_neg (hnot τ' d')⟩
  | ok x =>
   obtain ⟨n,c,way⟩:=x;have hsz:w.heap.size<=w'.heap.size:=by
    have:=zfU hs (on w τ d);rw [h τ d (Agree.refl τ d k)] at this;exact this
   have hway:(∀ h k,way≠Way.partner h k)/\(way=.buffer->∃ r,c.chan=.chan (some r))/\chanOf c<w.heap.size:=by
    have e:=h τ d (Agree.refl τ d k);rw [<- Sem.runT_fst P _ _ #[]] at e;exact zes _ hl _ #[] _ _ _ (Prod.ext e rfl)
   cases way with
   | partner ha ka=>exact absurd rfl (hway.1 ha ka)
   | sendClosed =>
    have hrp:zC P (runtimePanic (.plain "send on closed channel"):Sem Unit):=SOk.ok
    rcases zjz hrp w' τ (d+k) with ⟨k2,h2⟩ | ⟨r,w2,k2,h2⟩
    ·refine .inl ⟨k+k2,fun τ' d' hA rest gs ht hp=>?_⟩;obtain ⟨x,w2,hb,h2⟩:=h2 τ' (d'+k) hA.tail;unfold communicate;simp only [hrd gs hp,hre',mU,if_false,h τ' d' (hA.le oQ),outW,h2];cases x <;> first | exact hb.elim | exact ⟨_,_,_,if_neg (hnot τ' d')⟩
    ·by_cases hr:∃ v,r=.error (.panic v)
     ·obtain ⟨v,rfl⟩:=hr;refine .inr ⟨k+k2,{ g with frame:=g.frame.raise [{ v,recovered:=false }] },w2,#[],hush0 _,mT hsz (by have:=zfU hrp (on w' τ (d+k)); rw [h2 τ (d+k) (Agree.refl _ _ _)] at this; exact this),fun h=>⟨wa h.1 _,h.2.1,h.2.2⟩,fun τ' d' hA rest gs ht hp=>?_⟩;have h2:=h2 τ' (d'+k) hA.tail;unfold communicate;simp only [hrd gs hp,hre',mU,if_false,h τ' d' (hA.le oQ),outW,h2];rw [<- Nat.add_assoc];exact if_neg (hnot τ' d')
     ·refine .inl ⟨k+k2,fun τ' d' hA rest gs ht hp=>?_⟩;have h2:=h2 τ' (d'+k) hA.tail;unfold communicate;simp only [hrd gs hp,hre',mU,if_false,h τ' d' (hA.le oQ),outW,h2];cases r with
      | ok u=>exact ⟨_,_,_,if_neg (hnot τ' d')⟩
      | error x=>cases x <;> first | exact ⟨_,_,_,if_neg (hnot τ' d')⟩ | exact absurd ⟨_,rfl⟩ hr
   | closed =>
    refine .inr ⟨k,g.finishComm P cases sh n c.zero false,w',_,hush1 _ (.recvClosed (chanOf c)) Z (fun _ hx=>by cases hx) (Nat.lt_of_lt_of_le hway.2.2 hsz),hsz,fun h=>we h _ _ _ _ _,fun τ' d' hA rest gs ht hp=>?_⟩;unfold communicate;simp only [hrd gs hp,hre',mU,if_false,h τ' d' hA,outW];exact if_neg (hnot τ' d')
   | buffer =>
    obtain ⟨r,hrr⟩:=hway.2.1 rfl;have hheap:∀ τ' d',(on w' τ' d').heap[r]? =w'.heap[r]? :=fun _ _=>rfl;cases ho:w'.heap[r]? with
    | none =>
     refine .inl ⟨k,fun τ' d' hA rest gs ht hp=>?_⟩;unfold communicate;simp only [hrd gs hp,hre',mU,if_false,h τ' d' hA,outW,hrr,hheap,ho];exact ⟨_,_,_,if_neg (hnot τ' d')⟩
    | some o =>
     have hrl:r<w'.heap.size:=(mG.1 ho).1;by_cases hch:∃ cap buf closed sent rcvd tm,o=.chan cap buf closed sent rcvd tm
     ·obtain ⟨cap,buf,closed,sent,rcvd,tm,rfl⟩:=hch;cases hsd:c.send with
      | some v =>
       refine .inr ⟨k,g.finishComm P cases sh n undef false,{ w' with heap:=w'.heap.setIfInBounds r (.chan cap (buf.push v) closed (sent+1) rcvd tm) },_,hush2 _ (.send r sent) (.sendDone r sent) Z (fun _ hx=>by cases hx) rfl (fun _ hx=>by cases hx) (by simpa [MemAct.low] using hrl) (by simpa [MemAct.low] using hrl),by simpa using hsz,fun h=>we h _ _ _ _ _,fun τ' d' hA rest gs ht hp=>?_⟩;unfold communicate;simp only [hrd gs hp,hre',mU,if_false,h τ' d' hA,outW,hrr,hheap,ho,hsd];exact if_neg (hnot τ' d')
      | none =>
       refine .inr ⟨k,g.finishComm P cases sh n (buf.getD 0 undef) true,{ w' with heap:=w'.heap.setIfInBounds r (.chan cap (buf.extract 1 buf.size) closed sent (rcvd+1) tm) },_,hush2 _ (.recv r rcvd cap) (.recvDone r rcvd) Z (fun _ hx=>by cases hx) rfl (fun _ hx=>by cases hx) (by simpa [MemAct.low] using hrl) (by simpa [MemAct.low] using hrl),by simpa using hsz,fun h=>we h _ _ _ _ _,fun τ' d' hA rest gs ht hp=>?_⟩;unfold communicate;simp only [hrd gs hp,hre',mU,if_false,h τ' d' hA,outW,hrr,hheap,ho,hsd,hp];exact if_neg (hnot τ' d')
     ·refine .inl ⟨k,fun τ' d' hA rest gs ht hp=>?_⟩;unfold communicate;simp only [hrd gs hp,hre',mU,if_false,h τ' d' hA,outW,hrr,hheap,ho];cases o <;> first | exact ⟨_,_,_,if_neg (hnot τ' d')⟩ | exact absurd ⟨_,_,_,_,_,_,rfl⟩ hch
def Kept (n:Nat) (u:Trace):Prop:=(∀ op∈u,op.g=0)/\(∀ t:Trace,Deaf (t++u) 0=Deaf t 0)/\∀ op∈u,op.act.low n
theorem Kept.app {n:Nat} {u v:Trace} (h:Kept n u) (k:Kept n v):Kept n (u++v):=⟨fun op hop=>(Array.mem_append.1 hop).elim (h.1 op) (k.1 op),fun t=>by rw [<- Array.append_assoc,k.2.1,h.2.1],fun op hop=>(Array.mem_append.1 hop).elim (h.2.2 op) (k.2.2 op)⟩
theorem Kept.mono {n m:Nat} {u:Trace} (h:Kept n u) (hm:n<=m):Kept m u:=⟨h.1,h.2.1,fun op hop=>MemAct.low_mono hm (h.2.2 op hop)⟩
theorem vf {n:Nat} {fn:FuncId} {pos:String} {es:Array Event} (h:Tidy n es):Kept n (MemOp.ofEvents 0 fn pos es) :=
 ⟨fun op hop=>by obtain ⟨e,_,rfl⟩:=Go.Conc.mem_ofEvents hop; rfl,fun t=>by rw [Deaf_own,h.1],fun op hop=>by obtain ⟨e,he,rfl⟩:=Go.Conc.mem_ofEvents hop; exact h.2 e he⟩
theorem ziP {n:Nat} {u:Array MemOp} (h:Hush n u):Kept n u:=by
 refine ⟨fun op hop=>(h op hop).1,fun t=>?_,fun op hop=>(h op hop).2.2.2.2⟩;obtain ⟨l⟩:=u;rw [Deaf_append]
 induction l generalizing t with
 | nil=>rfl
 | cons y l ih =>
  have hy:=h y sQ;have e1:deafStep 0 (Deaf t 0) y=Deaf t 0:=by
   unfold deafStep;split
   ·rename_i e; exact absurd e hy.2.2.1
   ·rename_i e; exact absurd e hy.2.2.2.1
   ·rfl
  rw [List.foldl_cons,e1];exact ih t fun op hop=>h op (by simp at hop ⊢; exact .inr hop)
def Others (gs:Array Goroutine):Prop:=∀ j x,0<j->gs[j]? =some x->x.status=.running\/x.status=.finished
theorem wQ (a:Goroutine):Others #[a]:=fun j x hj hx=>by
 have:j<1:=by simpa using (mG.1 hx).1
 omega
theorem un {gs:Array Goroutine} (h:Others gs) (r:Nat) (s:Bool):partners (gs.setIfInBounds 0 ph) r s=[]:=by
 refine partners_nil fun j x hx=>?_;rcases getElem?_stand gs 0 j x hx with ⟨_,rfl⟩ | ⟨hj,hx⟩
 ·rfl
 ·refine offersAt_of_not_blocked (fun e=>?_) r s;rcases h j x oQ hx with e' | e' <;> rw [e] at e' <;> cases e'
theorem zgc {gs:Array Goroutine} (h:Others gs) {g g':Goroutine} {w':World}:(gs.map (woken P g g' w')).setIfInBounds 0 g'=gs.setIfInBounds 0 g':=by
 apply Array.ext_getElem?;intro j;by_cases hj:0=j
 ·subst hj;by_cases hlt:0<gs.size
  ·rw [mF (by simpa using hlt),mF hlt]
  ·rw [Array.getElem?_eq_none (by simpa using hlt),Array.getElem?_eq_none (by simpa using hlt)]
 ·rw [mE hj,mE hj,Array.getElem?_map];cases e:gs[j]? with
  | none=>rfl
  | some x =>
   simp only [Option.map_some,woken];split
   ·rw [again_running _ (h j x oQ e)]
   ·rfl
def Dead (P:Program) (m:Machine):Prop:=∀ n b W,runN P (n+1) m=.next (solo b W)->b.status≠.running
theorem kV {m:Machine} {o:Outcome} {W:World} (h:step P m=.ended o W):Dead P m:=fun n b W' e=>by
 simp only [runN,h] at e; cases e
theorem zer:∀ (n:Nat) (m m':Machine),runN P n m=.next m'->m.gs.size<=m'.gs.size
 | 0,m,m',h=>by simp only [runN,Stepped.next.injEq] at h; rw [h]; exact mL _
 | n+1,m,m',h=>by
  simp only [runN] at h;split at h
  ·rename_i m₁ h1;exact mT (stepT_size P m m₁ true h1) (zer n m₁ m' h)
  ·rename_i hne;exact absurd h (hne m')
theorem ze9 {m m':Machine} (h:step P m=.next m') (hs:1<m'.gs.size):Dead P m:=fun n b W e=>by
 simp only [runN,h] at e;have:=zer n m' _ e;have:m'.gs.size<=1:=by simpa [solo] using this
 omega
theorem zh8 {g:Goroutine} {w:World} (h:g.status≠.running) (hs:∀ t,g.status≠.sleeping t):step P (solo g w)=.next (solo g w)\/∃ o W,step P (solo g w)=.ended o W:=by
 have hr:g.canRun w.os.mono=false:=by
  unfold Goroutine.canRun;cases e:g.status <;> first | rfl | exact absurd e h | exact absurd e (hs _)
 have ha:ahead (solo g w) false=none:=by
  unfold ahead solo;simp
 have ha':ahead { world:=w,gs:=(solo g w).gs,rest:=(solo g w).rest } false=none:=ha;have hrs:runnable (solo g w).gs w.os.mono=[]:=by
  simp [runnable_eq,solo,List.range_succ,hr]
 have hd:due (solo g w).rest.timers w.os.mono=[]:=by simp [due,solo]
 have hm:move P (solo g w)=askOn P (solo g w):=rfl;have hw:(solo g w).world=w:=rfl;have hk:askOn P (solo g w)=.machine (.next (solo g w))\/∃ o W ops,askOn P (solo g w)=.machine (.ended o W) ops:=by
  unfold askOn;simp only [hrs,hd,List.isEmpty_nil,if_true,pure,Sem.run,List.length_nil,Nat.lt_irrefl,if_false,hw,ha'];split
  ·exact .inl rfl
  ·right;split
   ·exact ⟨_,_,_,rfl⟩
   ·exact ⟨_,_,_,rfl⟩
 unfold step stepT;rw [hm];rcases hk with e | ⟨o,W,ops,e⟩
 ·rw [e]; exact .inl rfl
 ·rw [e]; exact .inr ⟨o,W,rfl⟩
theorem zc5 {g:Goroutine} {w:World} (h:g.status≠.running) (hs:∀ t,g.status≠.sleeping t):∀ n b W,runN P n (solo g w)=.next (solo b W)->b.status≠.running
 | 0,b,W,e=>by
  simp only [runN,Stepped.next.injEq] at e;have:g=b:=by
   have:=congrArg Machine.gs e;simpa [solo] using this
  rw [<- this]; exact h
 | n+1,b,W,e=>by
  rcases zh8 (P:=P) (w:=w) h hs with h1 | ⟨o,W',h1⟩
  ·simp only [runN,h1] at e;exact zc5 h hs n b W e
  ·simp only [runN,h1] at e; cases e
theorem zax {m:Machine} {g:Goroutine} {w:World} (h1:step P m=.next (solo g w)) (h:g.status≠.running) (hs:∀ t,g.status≠.sleeping t):Dead P m:=fun n b W e=>by
 simp only [runN,h1] at e;exact zc5 h hs n b W e
theorem yJ {a:Goroutine} {W:World} {R:Stepped} {u:Array MemOp} (hs:a.status=.running) (h:runT P (crowd #[a] W none) 0=(R,u)):step P (solo a W)=R:=by
 rw [step,stepT_solo hs];show (runT P (crowd #[a] W none) 0).1=R;rw [h]
theorem zc3 (T:Tame P) {a:Goroutine} (h:okG a) (hs:a.status=.running) (w:World) (τ:Nat->Question->Nat) (d:Nat) :
  (∃ k,∀ τ' d',Agree τ d τ' d' k->Dead P (solo a (on w τ' d'))) \/
  ∃ (k:Nat) (a':Goroutine) (w':World) (u:Array MemOp),okG a'/\a'.status=.running/\Kept w'.heap.size u/\w.heap.size<=w'.heap.size/\∀ τ' d',Agree τ d τ' d' k->∀ (gs:Array Goroutine) (sl:Option (Nat×Nat)),gs[0]? =some a->Others gs ->
   runT P (crowd gs (on w τ' d') sl) 0=(.next (crowd (gs.setIfInBounds 0 a') (on w' τ' (d'+k)) sl),u):=by
 have h1:(#[a]:Array Goroutine)[0]? =some a:=rfl;have hset:∀ x:Goroutine,(#[a]:Array Goroutine).setIfInBounds 0 x=#[x]:=fun _=>rfl;have hdead:∀ {a':Goroutine} {w':World} {k:Nat} {u:Array MemOp} {τ':Nat->Question->Nat} {d':Nat},okG a'->a'.status≠.running->runT P (crowd #[a] (on w τ' d') none) 0=(.next (crowd ((#[a]:Array Goroutine).setIfInBounds 0 a') (on w' τ' (d'+k)) none),u)->Dead P (solo a (on w τ' d')):=by
  intro a' w' k u τ' d' ho hr he;exact zax (yJ hs he) hr ho.2.2
 have hF:=zh7 (nn:=0) T h;rcases hF.shift w τ d with ⟨k,e⟩ | ⟨s,k,e0,e1⟩
 ·refine .inl ⟨k,fun τ' d' hA=>?_⟩;obtain ⟨o,w',es,e⟩:=e τ' d' hA;exact kV (yJ hs (runT_many_ended (i:=0) h1 e))
 have hres:Res w s:=by
  have:=hF.res (on w τ d) (mN _);rw [e0] at this;cases s <;> exact this
 cases s with
 | ended o w' es =>
  refine .inl ⟨k,fun τ' d' hA=>?_⟩;exact kV (yJ hs (runT_many_ended (i:=0) h1 (e1 τ' d' hA)))
 | go g w' es =>
  have key:∀ τ' d',Agree τ d τ' d' k->∀ (gs:Array Goroutine) (sl:Option (Nat×Nat)),gs[0]? =some a->Others gs ->
    runT P (crowd gs (on w τ' d') sl) 0=(.next (crowd (gs.setIfInBounds 0 g) (on w' τ' (d'+k)) sl),MemOp.ofEvents 0 a.frame.fn a.frame.place es):=fun τ' d' hA gs sl h0 ho=>by
   rw [runT_crowd_go (i:=0) h0 (e1 τ' d' hA),zgc ho]
  by_cases hg:g.status=.running
  ·exact .inr ⟨k,g,w',_,hres.1,hg,vf hres.2.1,hres.2.2,key⟩
  ·exact .inl ⟨k,fun τ' d' hA=>hdead hres.1 hg (key τ' d' hA #[a] none h1 (wQ a))⟩
 | comm g c b sh w' es =>
  rcases zb0 (P:=P) g c b sh w' τ (d+k) with ⟨k2,f⟩ | ⟨k2,a',w'',u,hu,hsz,hok,f⟩
  ·refine .inl ⟨k+k2,fun τ' d' hA=>?_⟩;obtain ⟨o,W,ops,f⟩:=f τ' (d'+k) hA.tail (crowd #[a] (on w τ' d') none).rest ((#[a]:Array Goroutine).setIfInBounds 0 ph) rfl (un (wQ a));have:=runT_crowd_comm (sl:=none) (i:=0) h1 (e1 τ' d' (hA.le oQ));rw [f] at this;exact kV (yJ hs this)
  ·have key:∀ τ' d',Agree τ d τ' d' (k+k2)->∀ (gs:Array Goroutine) (sl:Option (Nat×Nat)),gs[0]? =some a->Others gs ->
     runT P (crowd gs (on w τ' d') sl) 0=(.next (crowd (gs.setIfInBounds 0 a') (on w'' τ' (d'+(k+k2))) sl),MemOp.ofEvents 0 a.frame.fn a.frame.place es++u):=fun τ' d' hA gs sl h0 ho=>by
    rw [runT_crowd_comm (sl:=sl) (i:=0) h0 (e1 τ' d' (hA.le oQ)),f τ' (d'+k) hA.tail _ _ rfl (un ho),set_stand,Nat.add_assoc];rfl
   by_cases hg:a'.status=.running
   ·exact .inr ⟨k+k2,a',w'',_,hok hres.1,hg,((vf hres.2.1).mono hsz).app (ziP hu),mT hres.2.2 hsz,key⟩
   ·exact .inl ⟨k+k2,fun τ' d' hA=>hdead (hok hres.1) hg (key τ' d' hA #[a] none h1 (wQ a))⟩
 | spawn g c w' es =>
  refine .inl ⟨k,fun τ' d' hA=>?_⟩;exact ze9 (yJ hs (runT_crowd_spawn (sl:=none) (i:=0) h1 (e1 τ' d' hA))) (by simp [crowd])
 | coroswitch g c ex w' es =>
  generalize hme:(if ex then { g with status:=.finished } else { g with frame:=g.frame.finish undef,status:=.parked }:Goroutine)=me;have hmo:okG me/\me.status≠.running:=by
   rw [<- hme];cases ex
   ·exact ⟨⟨yH hres.1.1 _,hres.1.2.1,fun _ hx=>by cases hx⟩,by simp⟩
   ·exact ⟨⟨hres.1.1,hres.1.2.1,fun _ hx=>by cases hx⟩,by simp⟩
  obtain ⟨dy,hdy⟩:∃ dy,∀ W,endThrow g.frame "coroswitch on exited coro" W=.go { frame:=g.frame,callers:=[],status:=.running,dying:=dy } W:=⟨_,fun _=>rfl⟩
  have hrun:∀ τ' d',Agree τ d τ' d' k->∀ (gs:Array Goroutine) (sl:Option (Nat×Nat)),gs[0]? =some a ->
    runT P (crowd gs (on w τ' d') sl) 0=((match w'.heap[c]? with
     | some (.coro (some h))=>.next { world:={ on w' τ' (d'+k) with heap:=w'.heap.setIfInBounds c (.coro (if ex then none else some 0)) },gs:=(gs.setIfInBounds 0 me).modify h (fun o=>{ o with status:=.running }),rest:=(crowd gs (on w τ' d') sl).rest }
     | some (.coro none)=>.next { world:=on w' τ' (d'+k),gs:=gs.setIfInBounds 0 { frame:=g.frame,callers:=[],status:=.running,dying:=dy },rest:=(crowd gs (on w τ' d') sl).rest }
     | _=>.ended (.stuck "coroswitch: no coroutine" "") (on w' τ' (d'+k))),MemOp.ofEvents 0 a.frame.fn a.frame.place es):=by
   intro τ' d' hA gs sl h0;obtain ⟨hlt,rfl⟩:=mG.1 h0;have hsw:=swapAt_of_lt hlt { (default:Goroutine) with status:=.finished };show runT P { world:=on w τ' d',gs:=gs,rest:={ timers:=#[],alone:=none,slice:=sl } } 0=_;have hst:stepG P (0==0) gs[0] (on w τ' d')=.coroswitch g c ex (on w' τ' (d'+k)) es:=e1 τ' d' hA;unfold runT;simp only [hsw,hst,GStep.es,hme,set_setIfInBounds hlt];rw [show (on w' τ' (d'+k)).heap=w'.heap from rfl];cases w'.heap[c]? with
   | none=>rfl
   | some o=>cases o with
    | coro x=>cases x <;> first | rfl | (simp only [hdy]; rfl)
    | _=>rfl
  cases hc:w'.heap[c]? with
  | none=>exact .inl ⟨k,fun τ' d' hA=>kV (yJ hs (by rw [hrun τ' d' hA _ _ h1,hc]))⟩
  | some o =>
   by_cases hco:∃ x,o=.coro x
   ·obtain ⟨x,rfl⟩:=hco;cases x with
    | none =>
     refine .inr ⟨k,{ frame:=g.frame,callers:=[],status:=.running,dying:=dy },w',MemOp.ofEvents 0 a.frame.fn a.frame.place es,zD hres.1.1 (fun f hf=>by cases hf),rfl,vf hres.2.1,hres.2.2,fun τ' d' hA gs sl h0 ho=>?_⟩;rw [hrun τ' d' hA gs sl h0,hc];rfl
    | some j =>
     cases j with
     | zero =>
      refine .inr ⟨k,{ me with status:=.running },{ w' with heap:=w'.heap.setIfInBounds c (.coro (if ex then none else some 0)) },MemOp.ofEvents 0 a.frame.fn a.frame.place es,⟨hmo.1.1,hmo.1.2.1,fun _ hx=>by cases hx⟩,rfl,vf (by simpa using hres.2.1),by simpa using hres.2.2,fun τ' d' hA gs sl h0 ho=>?_⟩;rw [hrun τ' d' hA gs sl h0,hc];have hmod:(gs.setIfInBounds 0 me).modify 0 (fun o=>{ o with status:=.running })=gs.setIfInBounds 0 { me with status:=.running }:=by
       apply Array.ext_getElem?;intro j;rw [Array.getElem?_modify];by_cases hj:0=j
       ·subst hj;by_cases hlt:0<gs.size
        ·rw [mF hlt,mF hlt]; rfl
        ·rw [Array.getElem?_eq_none (by simpa using hlt),Array.getElem?_eq_none (by simpa using hlt)]; rfl
       ·rw [if_neg hj,mE hj,mE hj]
      simp only [hmod];rfl
     | succ j =>
      refine .inl ⟨k,fun τ' d' hA=>?_⟩;refine zax (g:=me) (w:={ on w' τ' (d'+k) with heap:=w'.heap.setIfInBounds c (.coro (if ex then none else some 0)) }) (yJ hs (u:=MemOp.ofEvents 0 a.frame.fn a.frame.place es) ?_) hmo.2 hmo.1.2.2;rw [hrun τ' d' hA #[a] none h1,hc];have hmod:((#[a]:Array Goroutine).setIfInBounds 0 me).modify (j+1) (fun o=>{ o with status:=.running })=#[me]:=by
       rw [hset];apply Array.ext_getElem?;intro i;rw [Array.getElem?_modify];split
       ·rename_i e; subst e; simp
       ·rfl
      simp only [hmod];rfl
   ·refine .inl ⟨k,fun τ' d' hA=>?_⟩;have:=hrun τ' d' hA _ none h1;rw [hc] at this;cases o <;> first | exact kV (yJ hs this) | exact absurd ⟨_,rfl⟩ hco
 | _=>exact hres.elim
end
end Go.Vel
end
