/- Texts for the statements of chapter 8: what all of them need, part 5. It holds of every program, tape and world that the statements name, as each theorem says. -/
import Derived.Laws.LoneSync
import Derived.Conc.SmallLaws
import Derived.Conc.DeferLaws
import Derived.Test.YtamcohjpanjdiaaGreatDoorProg
import Derived.Test.YtamcohjpanjdiaaGreatDoorJ3
section
set_option linter.all false
set_option maxRecDepth 20000
set_option maxHeartbeats 60000000
open Go.Proofs.Tryz renaming prog -> tp
open List renaming append_nil -> lR, getElem?_eq_none -> lU, replicate -> mB
open Array renaming getElem?_eq_getElem -> mD, getElem?_toList -> mI, empty_append -> mK
open Nat renaming le_refl -> mL, lt_of_lt_of_le -> mM, zero_lt_one -> mS, le_trans -> mT
open Bool renaming false_eq_true -> mU, not_eq_true' -> mV, and_eq_true -> mX
namespace Go.Vel
open Go Go.Conc
open Go.ConcN (sumTo upd upd_ne upd_same)
open Go.ConcM (OsLater MuAt muA msA)
open Go.ConcR (KK wgBlock WgAt stA smA mk rd wr)
open Mx (TT Th Mn S4 auto Mv4 ok4 bl4 kd dl MPc Pc okW okM Mv nx4)
section
variable {P:Program} {gm:Nat->Option Nat} {env:List AV} {V:KV} {o:Oper}
theorem yD {op:BinOp} {t yt:TypeId} {x y:Operand} {k:IntKind} {a b:Int} {r:Int} (ho:o.op=.binOp op t x y yt) (hx:zn gm env x=some (.v (.int k a))) (hy:zn gm env y=some (.v (.int k b))) (hop:op=.and\/op=.or\/op=.andNot) (hr:bits op k a b=r):Qk P gm env V o (.v (.int k r)):=by
 refine wz ho hx hy ?_;subst hr;rcases hop with rfl | rfl | rfl;all_goals
  show zR P (if k≠k then _ else _)=_;rw [if_neg sQ];rfl
theorem vt {op:BinOp} {t yt:TypeId} {x y:Operand} {k:IntKind} {a b:Int} {r:Int} (ho:o.op=.binOp op t x y yt) (hx:zn gm env x=some (.v (.int k a))) (hy:zn gm env y=some (.v (.int k b))) (h:(op=.add/\k.wrap (a+b)=r)\/(op=.sub/\k.wrap (a - b)=r)):Qk P gm env V o (.v (.int k r)):=by
 refine wz ho hx hy ?_;rcases h with ⟨rfl,rfl⟩ | ⟨rfl,rfl⟩;all_goals
  show zR P (if k≠k then _ else _)=_;rw [if_neg sQ];rfl
theorem q_sh {t yt:TypeId} {x y:Operand} {k k':IntKind} {a b:Int} {r:Int} (ho:o.op=.binOp .shr t x y yt) (hx:zn gm env x=some (.v (.int k a))) (hy:zn gm env y=some (.v (.int k' b))) (h0:0<=b/\b<=k.bits) (hr:a / 2 ^ b.toNat=r):Qk P gm env V o (.v (.int k r)):=fun A _=>by
 refine vr ho (by rw [zx hx]; rfl) (by rw [zx hy]; rfl) ?_;rw [zab];show zR P (Op.shift .shr k a k' b)=_;rw [shift_shr k k' a b h0.1 h0.2,hr];rfl
theorem inv_v' {φ:Nat->Loc3} {n:Nat} {a:Act} {c:Operand} {z:Value} (hg:RelG gm φ n) (hE:zG φ n env a.tmps) (h:zn gm env c=some (.v z)):a.eval c=z:=by
 have:=zz hg hE c;rw [zx h] at this;exact inv_v this
theorem yk {x:Operand} {a:Addr} (ho:o.op=.nilCheck x) (hx:zn gm env x=some (.v (.pointer (some a)))):Qk P gm env V o (.v (.pointer (some a))):=fun A _ φ F H ac hg hH hE=>by
 unfold execOp; rw [ho];dsimp only;rw [inv_v' hg hE hx];exact zV.quiet hH (.v _)
theorem kf {x:Operand} {i off:Nat} (ho:o.op=.nilCheck x) (hx:zn gm env x=some (.ptr i off)):Qk P gm env V o (.ptr i off):=fun A _ φ F H ac hg hH hE=>by
 unfold execOp; rw [ho];have h1:=zz hg hE x;rw [zx hx] at h1;obtain ⟨hi,e⟩:=kH h1;dsimp only;rw [e];exact zV.quiet hH (.ptr hi)
theorem z8 {t:TypeId} {x:Operand} {k off d n:Nat} {g:Bool} {b:Nat} (ho:o.op=.fieldAddr t x k) (hx:zn gm env x=some (.v (.pointer (some ⟨b,off,none⟩)))) (hf:fieldOf P t k=some (d,g,n)) (hn:n≠0):Qk P gm env V o (.v (.pointer (some ⟨b,off+d,none⟩))):=fun A _ φ F H a hg hH hE=>by
 unfold execOp; rw [ho];obtain ⟨fs,f,e1,e2,e3,e4⟩:=wv hf;obtain ⟨ti,td,e5,_,_,e6⟩:=yr e4;dsimp only;rw [inv_v' hg hE hx];refine wpS_v ?_;unfold Instr.fieldAt;refine zd _ _ _ (zC e1 ?_);simp only [e2];refine zd _ _ _ ?_;refine zd _ _ _ ?_;unfold fieldPlace;refine zd _ _ _ (yh e5 ?_);rw [e6,if_neg hn];show zV φ A F (.v (.pointer (some ⟨b,off+d,none⟩))) A (.value (.pointer (some (Addr.add ⟨b,off,none⟩ f.offset)))) H;rw [e3,yR];exact zV.quiet hH (.v _)
theorem bA5:∀ a:Nat,a<256->bits .and .i32 (a:Int) 5=((a % 2+4*(a / 4 % 2):Nat):Int):=by decide +kernel
theorem bA7:∀ a:Nat,a<256->bits .and .i32 (a:Int) 7=((a % 8:Nat):Int):=by decide +kernel
theorem bA4:∀ a:Nat,a<256->bits .and .i32 (a:Int) 4=((4*(a / 4 % 2):Nat):Int):=by decide +kernel
theorem bA3:∀ a:Nat,a<256->bits .and .i32 (a:Int) 3=((a % 4:Nat):Int):=by decide +kernel
theorem bA2:∀ a:Nat,a<512->bits .and .i32 (a:Int) 2=((2*(a / 2 % 2):Nat):Int):=by decide +kernel
theorem bA1:∀ a:Nat,a<256->bits .and .i32 (a:Int) 1=((a % 2:Nat):Int):=by decide +kernel
theorem bO1:∀ a:Nat,a<256->bits .or .i32 (a:Int) 1=((a - a % 2+1:Nat):Int):=by decide +kernel
theorem bO2:∀ a:Nat,a<512->bits .or .i32 (a:Int) 2=((a - 2*(a / 2 % 2)+2:Nat):Int):=by decide +kernel
theorem bO4:∀ a:Nat,a<512->bits .or .i32 (a:Int) 4=((a - 4*(a / 4 % 2)+4:Nat):Int):=by decide +kernel
theorem bN2:∀ a:Nat,a<512->bits .andNot .i32 (a:Int) 2=((a - 2*(a / 2 % 2):Nat):Int):=by decide +kernel
theorem w32 {n:Int} (h : -2147483648<=n/\n<2147483648):IntKind.i32.wrap n=n:=by
 unfold IntKind.wrap;simp only [show IntKind.i32.bits=32 from rfl,show IntKind.i32.signed=true from rfl,Bool.true_and];split <;> rename_i h1 <;> simp only [decide_eq_true_eq] at h1 <;> omega
variable {y:Sy P} {main:Bool} {Ch:Nat->Goroutine->Hp->Prop} {k i:Nat} {T:TT} {x:Nat->Bool}
variable {φ0:Nat->Loc3} {kdf:CallKind} {hkd:kdf≠.early} {f:FuncId} {cs:List Frame} {de:List Deferred} {A0:List AObj} {K0:List Nat} {ds:List Nat} {kk:List Item} {env':List AV} {K:KV} {ops:Array Oper} {q:Nat} {rest:List Nat}
theorem TK.live (Pv:Value->Prop)
  (hst:∀ (w:World) (s:S4) (ts:Array Value) (dd:List Deferred) (φ:Nat->Loc3) (n:Nat),RelG gm φ n->zG φ n env ts->y.sh w s->∃ v,Pv v/\stepG P main (G (fr kdf f none ts dd (.inRegion ops (q::rest)::kk)) cs) w=.go (G (fr kdf f none (putT ts o.dst v) dd (.inRegion ops rest::kk)) cs) w #[])
  (h:∀ v,Pv v->TK ((YT y main Ch) k i T x gm φ0 kdf hkd f cs de A0 K0) ds (.inRegion ops rest::kk) (zO env o.dst (.v v)) K) :
  TK ((YT y main Ch) k i T x gm φ0 kdf hkd f cs de A0 K0) ds (.inRegion ops (q::rest)::kk) env K:=by
 intro A hA φ H ts h1 h2 h3 h4 h5 h6;show y.Sf main Ch k i T x _ _;refine .step Z (fun w hf hl=>?_) fun w g' w' es hf hl he=>?_
 ·obtain ⟨s,hs⟩:=hl;obtain ⟨v,_,e⟩:=hst w s ts (dsC φ ds++de) φ A.length h3 h6 hs;exact ⟨_,_,_,e,yG hf (fun e he=>by simp at he),rfl,fun h=>by cases h⟩
 ·obtain ⟨s,hs⟩:=hl;obtain ⟨v,hv,e⟩:=hst w s ts (dsC φ ds++de) φ A.length h3 h6 hs;have he':=e.symm.trans he;clear he;cases he';rw [yJ hf];have hE:=yo (a:=⟨ts,[]⟩) h6 (RelV.v (φ:=φ) (n:=A.length) v) o.dst;have:=h v hv A hA φ H _ h1 h2 h3 h4 h5 hE;exact this
theorem zeO {src dst t:TypeId} {c:Operand} {a:Addr} {v:Value} {w:World} (ev:Operand->Value) (hop:o.op=.convert src dst c) (e:ev c=.pointer (some a)) (hs:P.underlying src=some (.pointer t)) (hd:P.underlying dst=some .unsafePointer) (hz:(P.info? t).map (fun i=>decide (i.size=0))=some false) (hv:w.cell? a=some v) :
  (execOp ev o).run P w=.ok (.value (.pointer (some a))) w/\(execOp ev o).events P w #[]=#[]:=by
 have h1:=run_convert_to_unsafe (P:=P) hs hd hz hv;have h2:=fun es=>events_convert_to_unsafe (P:=P) hs hd hz hv es;unfold execOp;rw [hop];constructor
 ·simp [e,h1]
 ·simp [e,h2]
theorem TK.sConv {src dst t:TypeId} {c:Operand} {a:Addr} (ho:ops[q]? =some o) (hop:o.op=.convert src dst c) (hc:zn gm env c=some (.v (.pointer (some a)))) (hs:P.underlying src=some (.pointer t)) (hd:P.underlying dst=some .unsafePointer) (hz:(P.info? t).map (fun i=>decide (i.size=0))=some false)
  (ha:∀ w s,y.sh w s->∃ v,w.cell? a=some v) (h:TK ((YT y main Ch) k i T x gm φ0 kdf hkd f cs de A0 K0) ds (.inRegion ops rest::kk) env' K) (hw:zK ops env o=some true:=by rfl) (hp:zO env o.dst (.v (.pointer (some a)))=env':=by exact zu rfl tQ) :
  TK ((YT y main Ch) k i T x gm φ0 kdf hkd f cs de A0 K0) ds (.inRegion ops (q::rest)::kk) env K:=by
 refine TK.live (o:=o) (fun v=>v=.pointer (some a)) (fun w s ts dd φ n hg hE hsh=>⟨_,rfl,?_⟩) fun v hv=>by rw [hv,hp]; exact h
 obtain ⟨v,hv⟩:=ha w s hsh;obtain ⟨e1,e2⟩:=zeO (⟨ts,dd⟩:Act).eval hop (ev_v (dd:=dd) hg hE hc) hs hd hz hv;rw [fr_at,stepG_value (b:=bf kdf f) (a:=⟨ts,dd⟩) (v:=.pointer (some a)) (w':=w) ho (zJ (ts:=ts) hE hw) hkd e1,yd,listed_nil e2];rfl
theorem TK.sPure {T:Goroutine->Hp->Prop} {hT:zo P main T} {g:FuncId} {as0:Array Operand} {ats:Array TypeId} {e:Array Value->Sem Value} {v:Value} [hx:Ext P g e] (ho:ops[q]? =some o) (hop:o.op=.call { callee:=.value (.func g),args:=as0,argTypes:=ats })
  (h:TK (YU hT gm φ0 kdf hkd f cs de A0 K0) ds (.inRegion ops rest::kk) env' K) (he:e=(fun _=>pure v):=by rfl) (hw:zK ops env o=some true:=by rfl) (hd:zO env o.dst (.v v)=env':=by exact zu rfl tQ) :
  TK (YU hT gm φ0 kdf hkd f cs de A0 K0) ds (.inRegion ops (q::rest)::kk) env K:=by
 intro A hA φ H ts h1 h2 h3 h4 h5 h6;obtain ⟨fn,e1,e2,e3,e4,e5⟩:=hx.h;subst he;have hE:=yo (a:=⟨ts,[]⟩) h6 (RelV.v (φ:=φ) (n:=A.length) v) o.dst;rw [hd] at hE;refine hT _ _ Z fun w hf=>⟨G (fr kdf f none (putT ts o.dst v) (dsC φ ds++de) (.inRegion ops rest::kk)) cs,w,#[],?_,yG hf (fun e he=>by simp at he),rfl,?_⟩
 ·show stepG P main (G (fr kdf f none ts (dsC φ ds++de) _) cs) w=_;rw [fr_at,stepG_entry_pure (b:=bf kdf f) (a:=⟨ts,dsC φ ds++de⟩) v ho (zJ (ts:=ts) h6 hw) hkd hop e1 e2 e3 e4 e5,yd];rfl
 ·rw [yJ hf];exact h A ⟨hA.view,hA.nd,hA.own,hA.kept,hA.len⟩ φ H _ h1 h2 h3 h4 h5 hE
theorem TK.castT {T':TT} (hT':y.A.aft T'=false) (e:T=T') (h:TK ((YT y main Ch) k i T' x gm φ0 kdf hkd f cs de A0 K0) ds (kk) env K):TK ((YT y main Ch) k i T x gm φ0 kdf hkd f cs de A0 K0) ds (kk) env K:=by
 subst e;exact h
end
end Go.Vel
namespace Go.Vel
open Go Go.Conc
open Go.ConcN (sumTo upd upd_ne upd_same)
open Go.ConcM (OsLater MuAt muA msA)
open Go.ConcR (KK wgBlock WgAt stA smA mk rd wr)
open Mx (TT Th Mn S4 auto Mv4 ok4 bl4 kd dl MPc Pc okW okM Mv nx4 cnt lk wk st wt newOf)
theorem mx0 {n:Nat} {T T':Th} {s:S4} (h:Mv T s.sh T' s.sh) (h1:cnt T=1:=by rfl) (h2:T.pc≠.d1:=by exact fun h=>by cases h):Mv4 n (.w T) s (.w T') s:=.mx h h1 h2
theorem mxM {n:Nat} {T T':Th} {s:S4} {m:Nat} (h:Mv T s.sh T' { s.sh with mu:=m }) (h1:cnt T=1:=by rfl) (h2:T.pc≠.d1:=by exact fun h=>by cases h):Mv4 n (.w T) s (.w T') { s with mu:=m }:=.mx h h1 h2
theorem mxS {n:Nat} {T T':Th} {s:S4} {m:Nat} (h:Mv T s.sh T' { s.sh with ms:=m }) (h1:cnt T=1:=by rfl) (h2:T.pc≠.d1:=by exact fun h=>by cases h):Mv4 n (.w T) s (.w T') { s with ms:=m }:=.mx h h1 h2
theorem hd_pc (T:Th):(Mx.hd T).pc=.sq\/(Mx.hd T).pc=.c2:=by
 unfold Mx.hd;split
 ·exact .inl rfl
 ·exact .inr rfl
theorem hd_dl (T:Th):dl (.w (Mx.hd T))=1:=by rcases hd_pc T with h | h <;> simp [dl,Mx.dlW,h]
theorem kV {P:Program} {y:Sy P} (T:Th):y.A.aft (.w (Mx.hd T))=false:=by
 show Mx.aftW (Mx.hd T)=false;rcases hd_pc T with h | h <;> simp [Mx.aftW,h]
theorem hd_kd (T:Th):kd (.w (Mx.hd T))≠.quit:=by rcases hd_pc T with h | h <;> simp [kd,Mx.kdW,h]
theorem zcv (x:Nat):(Mx.hdU x).pc=.ue\/(Mx.hdU x).pc=.uc:=by
 unfold Mx.hdU;split
 ·exact .inl rfl
 ·exact .inr rfl
theorem zeU (x:Nat):dl (.w (Mx.hdU x))=1:=by rcases zcv x with h | h <;> simp [dl,Mx.dlW,h]
theorem vR {P:Program} {y:Sy P} (x:Nat):y.A.aft (.w (Mx.hdU x))=false:=by
 show Mx.aftW (Mx.hdU x)=false;rcases zcv x with h | h <;> simp [Mx.aftW,h]
theorem zeV (x:Nat):kd (.w (Mx.hdU x))≠.quit:=by rcases zcv x with h | h <;> simp [kd,Mx.kdW,h]
def nv1 (x:Nat):Nat:=if st x=0 then x - x % 2+1 else x
def nv2 (x:Nat):Nat:=if lk x=1\/st x=1 then nv1 x+8 else nv1 x
def nv3 (x:Nat) (sv:Bool):Nat:=if sv=true/\lk x=1 then nv2 x - 4*(nv2 x / 4 % 2)+4 else nv2 x
def nv4 (x:Nat) (aw sv:Bool):Nat:=if aw=true then nv3 x sv - 2*(nv3 x sv / 2 % 2) else nv3 x sv
theorem ziq:∀ x:Nat,x<256->nv1 x<512/\nv2 x<512/\∀ sv:Bool,nv3 x sv<512/\(wk x=1->nv3 x sv / 2 % 2=1)/\∀ aw:Bool,(aw=true->wk x=1)->nv4 x aw sv=newOf x aw sv:=by decide +kernel
section
variable {P:Program}
def GIn (y:Sy P) (lo:Nat×Loc3) (i:Nat) (PL:(Nat->Bool)->KV->Prop):Prop :=
 ∀ x' L A φ H,y.GI x' L->x' i=false->lo.1<A.length->φ lo.1=lo.2->zM [(lo.1,.gone)] A->(keys [(lo.1,AObj.gone)]).Nodup->RelH φ A nF H->H.Dis L->Agrees H L->∃ φ' A' K',Agr φ φ' A.length/\A.length<=A'.length/\Kstep [(lo.1,.gone)] A K' A'/\PL x' K'/\RelH φ' A' nF (H.join L)
def LockR (y:Sy P) (main:Bool) (Ch:Nat->Goroutine->Hp->Prop) (k i:Nat) (PL:(Nat->Bool)->KV->Prop) (r:AV) (K':KV) (T':Goroutine->Hp->Prop):Prop :=
 r=.tup []/\∃ k' x',k'<k/\x' i=false/\PL x' K'/\T'=y.Sf main Ch k' i (.w { pc:=.ur }) x'
variable {gm:Nat->Option Nat} {y:Sy P} {main:Bool} {Ch:Nat->Goroutine->Hp->Prop} {k i:Nat} {T:TT} {x:Nat->Bool}
variable {φ0:Nat->Loc3} {kdf:CallKind} {hkd:kdf≠.early} {f:FuncId} {cs:List Frame} {de:List Deferred} {A0:List AObj} {K0:List Nat} {ds:List Nat} {kk:List Item} {env:List AV} {K:KV}
theorem TK.splitS {ι:Type} {r c:Code} (T2:ι->TT) (hT2:∀ j,y.A.aft (T2 j)=false) (I:ι->Prop) (E:ι->List AV) (KK:KV)
  (h:(∀ k2 j,k2<=k->I j->TK ((YT y main Ch) k2 i (T2 j) x gm φ0 kdf hkd f cs de A0 K0) ds kk (E j) KK)->TK ((YT y main Ch) k i T x gm φ0 kdf hkd f cs de A0 K0) ds (.code r::.code c::kk) env K)
  (hc:∀ k2 j,k2<=k->I j->TK ((YT y main Ch) k2 i (T2 j) x gm φ0 kdf hkd f cs de A0 K0) ds kk (E j) KK):TK ((YT y main Ch) k i T x gm φ0 kdf hkd f cs de A0 K0) ds (.code r::.code c::kk) env K:=h hc
theorem TK.shareS {ι:Type} {r:Code} (T2:ι->TT) (hT2:∀ j,y.A.aft (T2 j)=false) (I:ι->Prop) (E:ι->List AV) (KK:KV)
  (h:(∀ k2 j,k2<=k->I j->TK ((YT y main Ch) k2 i (T2 j) x gm φ0 kdf hkd f cs de A0 K0) ds kk (E j) KK)->TK ((YT y main Ch) k i T x gm φ0 kdf hkd f cs de A0 K0) ds (.code r::kk) env K)
  (hc:∀ k2 j,k2<=k->I j->TK ((YT y main Ch) k2 i (T2 j) x gm φ0 kdf hkd f cs de A0 K0) ds kk (E j) KK):TK ((YT y main Ch) k i T x gm φ0 kdf hkd f cs de A0 K0) ds (.code r::kk) env K:=h hc
theorem TK.share1 {T:Goroutine->Hp->Prop} {X:KX P gm T} {c:Code} (E:List AV) (KK:KV) (h:TK X ds kk E KK->TK X ds (.code c::kk) env K) (hc:TK X ds kk E KK):TK X ds (.code c::kk) env K:=h hc
end
end Go.Vel
namespace Go.Vel
open Go Go.Conc
open Go.ConcN (sumTo upd upd_ne upd_same)
open Go.ConcM (OsLater MuAt muA msA)
open Go.ConcR (KK wgBlock WgAt stA smA mk rd wr)
open Mx (TT Th Mn S4 auto Mv4 ok4 bl4 kd dl MPc Pc okW okM Mv nx4)
section
variable {P:Program} {gm:Nat->Option Nat} {main:Bool}
def CallE (P:Program) (gm:Nat->Option Nat) (lo:Nat×Loc3) (T:Goroutine->Hp->Prop) (g:FuncId) (args:List AV) (K:KV) (R:(Goroutine->Hp->Prop)->Prop):Prop :=
 ∀ A,zM K A->(keys K).Nodup->∀ (φ:Nat->Loc3) (H:Hp) (vs:Array Value) (c:Frame) (cs:List Frame),lo.1<A.length->φ lo.1=lo.2->RelG gm φ A.length->RelH φ A nF H->zG φ A.length args vs ->
  (∀ T' v H',R T'->T' (G (c.finish v) cs) H')->T (G (Frame.enter P g vs .normal) (c::cs)) H
def CallZ (P:Program) (T:Goroutine->Hp->Prop) (g:FuncId) (vs:List Value) (R:(Goroutine->Hp->Prop)->Prop):Prop :=
 ∀ (H:Hp) (c:Frame) (cs:List Frame),(∀ T' v H',R T'->T' (G (c.finish v) cs) H')->T (G (Frame.enter P g vs.toArray .normal) (c::cs)) H
theorem zcc (n:Nat) {T:Goroutine->Hp->Prop} (hT:zo P main T) {lo:Nat×Loc3} {g:FuncId} {fn:Func} {c:Code} {args:List AV} {K:KV} {R:(Goroutine->Hp->Prop)->Prop} (hf:P.funcs[g]? =some fn)
  (h:∀ (φ0:Nat->Loc3) (c0:Frame) (cs:List Frame) (A0:List AObj),lo.1<A0.length->φ0 lo.1=lo.2->(∀ T' v H',R T'->T' (G (c0.finish v) cs) H') ->
   TK (YU hT gm φ0 .normal ze g (c0::cs) [] A0 (keys K)) [] [.code c] (args++mB (n - args.length) .any) K) (hb:fn.body=some c:=by rfl) (hn:fn.ntmps=n:=by rfl):CallE P gm lo T g args K R:=by
 subst hn;intro A hv hnd φ H vs c0 cs hl1 hl2 hg hH hargs hfin;rw [kM vs hf hb];exact h φ c0 cs A hl1 hl2 hfin A ⟨hv,hnd,fun i hi=>.inl hi,fun _ _ _=>rfl,mL _⟩ φ H _ (Agr.refl _ _) (mL _) hg (fun d hd=>by cases hd) hH (yS hargs _)
theorem y9 (φ:Nat->Loc3) (n:Nat):RelG (fun _=>none) φ n:=fun b j h=>by cases h
theorem zc1 (φ:Nat->Loc3) (n:Nat) (vs:List Value):zG φ n (vs.map .v) vs.toArray:=⟨by simp,fun j a y ha hy=>by
 rw [List.getElem?_map] at ha;rw [List.getElem?_toArray] at hy;rw [hy] at ha;cases ha;exact .v y⟩
theorem zcg (n:Nat) {T:Goroutine->Hp->Prop} (hT:zo P main T) {g:FuncId} {fn:Func} {c:Code} {vs:List Value} {R:(Goroutine->Hp->Prop)->Prop} (hf:P.funcs[g]? =some fn)
  (h:∀ (φ0:Nat->Loc3) (c0:Frame) (cs:List Frame),(∀ T' v H',R T'->T' (G (c0.finish v) cs) H') ->
   TK (YU hT (fun _=>none) φ0 .normal ze g (c0::cs) [] [] []) [] [.code c] (vs.map .v++mB (n - (vs.map AV.v).length) .any) []) (hb:fn.body=some c:=by rfl) (hn:fn.ntmps=n:=by rfl):CallZ P T g vs R:=by
 subst hn;intro H c0 cs hfin;rw [kM vs.toArray hf hb];exact h (fun _=>⟨0,0,0⟩) c0 cs hfin [] ⟨fun x hx=>(by cases hx),List.nodup_nil,fun i hi=>(by cases hi),fun _ _ _=>rfl,mL _⟩ _ H _ (Agr.refl _ _) (mL _) (y9 _ _) (fun d hd=>by cases hd) (vu _ _) (yS (zc1 _ _ vs) _)
variable {φ0:Nat->Loc3} {kdf:CallKind} {hkd:kdf≠.early} {f:FuncId} {cs:List Frame} {de:List Deferred} {A0:List AObj} {K0:List Nat} {ds:List Nat} {kk:List Item} {env env':List AV} {K:KV} {ops:Array Oper} {q:Nat} {rest:List Nat} {o:Oper}
theorem TK.retZ {T':Goroutine->Hp->Prop} {hT':zo P main T'} {g:FuncId} {fn:Func} {c0:Frame} {r:AV} (hf:P.funcs[g]? =some fn) (hfin:∀ v H',T' (G (c0.finish v) cs) H') (hres:∀ A,zM K A->resA P fn.results.toList env A=some r):TK (YU hT' gm φ0 .normal ze g (c0::cs) [] A0 K0) [] (.code .ret::kk) env K:=by
 intro A hA φ H ts h1 h2 h3 h4 h5 h6;exact hT'.ctlF rfl (fun _=>wV) rfl (hT'.leaveF hf (ko h5 h6 (hres A hA.view) fun y hy=>hfin y H))
theorem TK.retZ0 {T':Goroutine->Hp->Prop} {hT':zo P main T'} {g:FuncId} {fn:Func} {c0:Frame} {r:AV} (hf:P.funcs[g]? =some fn) (hfin:∀ v H',T' (G (c0.finish v) cs) H') (hres:∀ A,zM K A->resA P fn.results.toList env A=some r):TK (YU hT' gm φ0 .normal ze g (c0::cs) [] A0 K0) [] [] env K:=by
 intro A hA φ H ts h1 h2 h3 h4 h5 h6;exact hT'.ctlF rfl (fun _=>wC) rfl (hT'.leaveF hf (ko h5 h6 (hres A hA.view) fun y hy=>hfin y H))
theorem uq {H:Hp} {ts:Array Value} {dd:List Deferred} {fo:Operand} {ars:Array Operand} {at_:Array TypeId} {g:FuncId} (hop:o.op=.call { callee:=.value fo,args:=ars,argTypes:=at_ }) (hfo:(⟨ts,dd⟩:Act).eval fo=.func (.func g) #[] #[]) (hg:yj P g=true) {Q:Next->Hp->Prop} (hq:Q (.enter g (ars.map (evT ts))) H):wpS P (execOp (evT ts) o) H Q:=by
 unfold execOp;rw [hop];dsimp only;refine zd _ _ _ ?_;rw [yH] at hfo;show wpS P (Deferred.ofValue (evT ts fo) (ars.map (evT ts))) H _;rw [hfo];show wpS P (callFunc g ((#[]++ars.map (evT ts))++#[])) H _;refine kx hg _ ?_;rw [mK,Array.append_empty];exact hq
theorem zbf {φ:Nat->Loc3} {n:Nat} {ts:Array Value} {dd:List Deferred} {fo:Operand} {g:FuncId} (h3:RelG gm φ n) (h6:zG φ n env ts) (hf:zn gm env fo=some (.fn g [] [])):(⟨ts,dd⟩:Act).eval fo=.func (.func g) #[] #[]:=by
 have hfo:=zz (a:=⟨ts,dd⟩) h3 h6 fo;rw [zx hf] at hfo;obtain ⟨xs,ys,e,hr1,hr2⟩:=vn hfo;have ex:xs=#[]:=Array.eq_empty_of_size_eq_zero (by have:=hr1.1; simpa using this.symm);have ey:ys=#[]:=Array.eq_empty_of_size_eq_zero (by have:=hr2.1; simpa using this.symm);subst ex ey;exact e
theorem TK.callE {T:Goroutine->Hp->Prop} {hT:zo P main T} {lo:Nat×Loc3} {fo:Operand} {ars:Array Operand} {at_:Array TypeId} {g:FuncId} {args:List AV} {R:(Goroutine->Hp->Prop)->Prop} {env2:Value->List AV} (ho:ops[q]? =some o) (hop:o.op=.call { callee:=.value fo,args:=ars,argTypes:=at_ })
  (hf:zn gm env fo=some (.fn g [] [])) (hargs:ars.toList.map (zI gm env)=args) (hc:CallE P gm lo T g args K R) (hl1:lo.1<A0.length) (hl2:φ0 lo.1=lo.2)
  (h:∀ T' v,R T'->∃ hT':zo P main T',TK (YU hT' (fun _=>none) φ0 kdf hkd f cs de [] []) [] (.inRegion ops rest::kk) (env2 v) []) (he:∀ v,zO (env.map plainV) o.dst (.v v)=env2 v:=by exact fun _=>zu rfl (by simp only [List.map,plainV,List.set]; rfl)) (hd:ds=[]:=by rfl) (hw:zK ops env o=some true:=by rfl) (hg:yj P g=true:=by exact Cal.h) :
  TK (YU hT gm φ0 kdf hkd f cs de A0 K0) ds (.inRegion ops (q::rest)::kk) env K:=by
 subst hd;intro A hA φ H ts h1 h2 h3 h4 h5 h6;refine hT.opF hkd ho (zJ h6 hw) (by rw [hop]; rfl) (uq (dd:=de) hop (zbf h3 h6 hf) hg ?_);have hrel:zG φ A.length args (ars.map (evT ts)):=by
  rw [<- hargs];have hm:=kD (a:=⟨ts,[]⟩) h3 h6 ars;rw [yH] at hm;exact hm
 refine hc A hA.view hA.nd φ H _ _ cs (mM hl1 hA.len) ((h1 _ hl1).trans hl2) h3 h5 hrel fun T' v H' hp'=>?_;obtain ⟨hT',hh⟩:=h T' v hp';have hfin:=yU kdf f none ts de ops q rest kk v;simp only [ho,Option.bind_some] at hfin;show T' (G ((fr kdf f none ts de (.inRegion ops (q::rest)::kk)).finish v) cs) H';rw [hfin];have hE:=yo (a:=⟨ts,[]⟩) (wT (φ':=φ0) h6) (RelV.v (φ:=φ0) (n:=0) v) o.dst;rw [he] at hE;exact hh [] ⟨fun x hx=>(by cases hx),List.nodup_nil,fun i hi=>(by cases hi),fun _ _ _=>rfl,mL _⟩ φ0 H' _ (Agr.refl _ _) (mL _) (y9 _ _) (fun d hd=>by cases hd) (vu _ _) hE
theorem TK.callZ {T:Goroutine->Hp->Prop} {hT:zo P main T} {fo:Operand} {ars:Array Operand} {at_:Array TypeId} {g:FuncId} {vs:List Value} {R:(Goroutine->Hp->Prop)->Prop} {env2:Value->List AV} (ho:ops[q]? =some o) (hop:o.op=.call { callee:=.value fo,args:=ars,argTypes:=at_ })
  (hf:zn gm env fo=some (.fn g [] [])) (hargs:ars.toList.map (zI gm env)=vs.map .v) (hc:CallZ P T g vs R)
  (h:∀ T' v,R T'->∃ hT':zo P main T',TK (YU hT' (fun _=>none) φ0 kdf hkd f cs de [] []) [] (.inRegion ops rest::kk) (env2 v) []) (he:∀ v,zO (env.map plainV) o.dst (.v v)=env2 v:=by exact fun _=>zu rfl (by simp only [List.map,plainV,List.set]; rfl)) (hd:ds=[]:=by rfl) (hw:zK ops env o=some true:=by rfl) (hg:yj P g=true:=by exact Cal.h) :
  TK (YU hT gm φ0 kdf hkd f cs de A0 K0) ds (.inRegion ops (q::rest)::kk) env K:=by
 subst hd;intro A hA φ H ts h1 h2 h3 h4 h5 h6;refine hT.opF hkd ho (zJ h6 hw) (by rw [hop]; rfl) (uq (dd:=de) hop (zbf h3 h6 hf) hg ?_);have hrel:ars.map (evT ts)=vs.toArray:=by
  have hm:=kD (a:=⟨ts,[]⟩) h3 h6 ars;rw [yH,hargs] at hm;refine Array.ext' ?_;refine List.ext_getElem? fun j=>?_;have hl:=hm.1;by_cases hj:j<vs.length
  ·have h2:=hm.2 j (.v vs[j]) ((ars.map (evT ts))[j]'(by rw [<- hl]; simpa using hj)) (by simp [hj]) (by rw [mD]);have:=inv_v h2;rw [mI,mD (by rw [<- hl]; simpa using hj),this];simp [hj]
  ·rw [lU (by simp at hl ⊢; omega),lU (by simpa using hj)]
 rw [hrel];refine hc H _ cs fun T' v H' hp'=>?_;obtain ⟨hT',hh⟩:=h T' v hp';have hfin:=yU kdf f none ts de ops q rest kk v;simp only [ho,Option.bind_some] at hfin;show T' (G ((fr kdf f none ts de (.inRegion ops (q::rest)::kk)).finish v) cs) H';rw [hfin];have hE:=yo (a:=⟨ts,[]⟩) (wT (φ':=φ0) h6) (RelV.v (φ:=φ0) (n:=0) v) o.dst;rw [he] at hE;exact hh [] ⟨fun x hx=>(by cases hx),List.nodup_nil,fun i hi=>(by cases hi),fun _ _ _=>rfl,mL _⟩ φ0 H' _ (Agr.refl _ _) (mL _) (y9 _ _) (fun d hd=>by cases hd) (vu _ _) hE
end
end Go.Vel
namespace Go.Vel
open Go Go.Conc
def scalT (P:Program) (t:TypeId):Bool:=match P.underlying t with
 | some (.int _)=>true
 | some .bool=>true
 | some .string=>true
 | _=>false
def flatF (P:Program) (t:TypeId):Option (List (TypeId×Nat)):=match P.underlying t with
 | some (.struct fs)=>if fs.toList.all (fun f=>f.name != "_" && scalT P f.type) && !P.stoodInHeld t then some (fs.toList.map fun f=>(f.type,f.offset)) else none
 | _=>none
def eqV:Value->Value->Option Bool
 | .int k a,.int k' b=>if k=k' then some (a==b) else none
 | .bool a,.bool b=>some (a==b)
 | .string a,.string b=>some (a==b)
 | _,_=>none
def fitV (P:Program) (t:TypeId) (v:Value):Bool:=match P.underlying t,v with
 | some (.int _),.int _ _=>true
 | some .bool,.bool _=>true
 | some .string,.string _=>true
 | _,_=>false
section
variable {P:Program}
theorem zgY {d:Nat} {t:TypeId} {v w:Value} {b:Bool} (h1:fitV P t v=true) (h2:fitV P t w=true) (h:eqV v w=some b):zR P (Op.equalIn (d+1) t v w)=some b:=by
 unfold Op.equalIn;unfold fitV at h1 h2;split at h1
 ·rename_i k k1 n1 e;rw [e] at h2;cases w <;> simp only [mU] at h2;rename_i k2 n2;simp only [eqV] at h;split at h
  ·rename_i ek;cases h;refine zL (z7 e) ?_;dsimp only;rw [if_pos ek]; rfl
  ·cases h
 ·rename_i a e;rw [e] at h2;cases w <;> simp only [mU] at h2;cases h;exact zL (z7 e) rfl
 ·rename_i a e;rw [e] at h2;cases w <;> simp only [mU] at h2;cases h;exact zL (z7 e) rfl
 ·cases h1
theorem zbR {t:TypeId} {cs:Array Value} {off:Nat} {v:Value} (hs:scalT P t=true) (h:cs[off]? =some v):zR P (part t cs off)=some v:=by
 unfold part isAgg;unfold scalT at hs;refine zL (a:=false) ?_ ?_
 ·split at hs <;> first | (rename_i e; exact zL (z7 e) rfl) | cases hs
 ·simp [h]; rfl
inductive EqL (P:Program) (xs ys:Array Value):List (TypeId×Nat)->List Bool->Prop
 | nil:EqL P xs ys [] []
 | cons {t:TypeId} {off:Nat} {v w:Value} {b:Bool} {l:List (TypeId×Nat)} {bs:List Bool}:xs[off]? =some v->ys[off]? =some w->fitV P t v=true->fitV P t w=true->eqV v w=some b->EqL P xs ys l bs->EqL P xs ys ((t,off)::l) (b::bs)
theorem zgX {xs ys:Array Value} (F:Field->Option Bool×Unit->Sem (ForInStep (Option Bool×Unit))):∀ {l:List (TypeId×Nat)} {bs:List Bool} (fl:List Field)
  (hF:∀ f∈fl,∀ v w b,xs[f.offset]? =some v->ys[f.offset]? =some w->fitV P f.type v=true->fitV P f.type w=true->eqV v w=some b->zR P (F f (none,()))=some (if b=true then .yield (none,()) else .done (some false,()))),
  fl.map (fun f=>(f.type,f.offset))=l->EqL P xs ys l bs->zR P (forIn fl (none,()) F)=some (if bs.all id=true then none else some false,()):=by
 intro l bs fl hF hm h
 induction h generalizing fl with
 | nil =>
  cases fl with
  | nil=>rfl
  | cons f fl=>cases hm
 | @cons t off v w b l bs hv hw h1 h2 he _ ih =>
  cases fl with
  | nil=>cases hm
  | cons f fl =>
   simp only [List.map_cons,List.cons.injEq,Prod.mk.injEq] at hm;obtain ⟨⟨rfl,rfl⟩,hm⟩:=hm;rw [List.forIn_cons];refine zL (hF f List.mem_cons_self v w b hv hw h1 h2 he) ?_;cases b with
   | false=>rfl
   | true =>
    simp only [if_true];rw [ih fl (fun f hf=>hF f (List.mem_cons_of_mem _ hf)) hm];simp
theorem zdE {t:TypeId} {l:List (TypeId×Nat)} {xs ys:Array Value} {bs:List Bool} (hl:flatF P t=some l) (h:EqL P xs ys l bs):zR P (Op.equal t (.agg xs) (.agg ys))=some (bs.all id):=by
 unfold flatF at hl;split at hl
 ·rename_i fs hu;split at hl
  ·rename_i hc;simp only [mX,List.all_eq_true,mV] at hc;obtain ⟨hall,hst⟩:=hc;show zR _ (Op.equalIn (9999+1) t _ _)=_;unfold Op.equalIn;refine zL (z7 hu) ?_;dsimp only;refine zL (a:=P) Z ?_;rw [hst];simp only [mU,if_false];refine zL (a:=(if bs.all id=true then none else some false,())) ?_ (by cases bs.all id <;> rfl);rw [<- Array.forIn_toList];refine zgX _ fs.toList (fun f hf v w b hv hw h1 h2 he=>?_) (Option.some.inj hl) h
   have hn:f.name ≠ "_" := by have:=(hall f hf).1; simpa using this
   have hs:=(hall f hf).2;rw [if_pos hn];refine zL (zbR hs hv) (zL (zbR hs hw) (zL (zgY (d:=9998) h1 h2 he) ?_));cases b <;> rfl
  ·cases hl
 ·cases hl
theorem EqL.consI {xs ys:Array Value} {t:TypeId} {off:Nat} {k k1:IntKind} {a b:Int} {l:List (TypeId×Nat)} {bs:List Bool} (hu:P.underlying t=some (.int k)) (hx:xs[off]? =some (.int k1 a)) (hy:ys[off]? =some (.int k1 b)) (h:EqL P xs ys l bs):EqL P xs ys ((t,off)::l) ((a==b)::bs) :=
 .cons hx hy (by unfold fitV; rw [hu]) (by unfold fitV; rw [hu]) (by simp [eqV]) h
theorem EqL.consB {xs ys:Array Value} {t:TypeId} {off:Nat} {a b:Bool} {l:List (TypeId×Nat)} {bs:List Bool} (hu:P.underlying t=some .bool) (hx:xs[off]? =some (.bool a)) (hy:ys[off]? =some (.bool b)) (h:EqL P xs ys l bs):EqL P xs ys ((t,off)::l) ((a==b)::bs) :=
 .cons hx hy (by unfold fitV; rw [hu]) (by unfold fitV; rw [hu]) rfl h
theorem EqL.consS {xs ys:Array Value} {t:TypeId} {off:Nat} {a b:ByteArray} {l:List (TypeId×Nat)} {bs:List Bool} (hu:P.underlying t=some .string) (hx:xs[off]? =some (.string a)) (hy:ys[off]? =some (.string b)) (h:EqL P xs ys l bs):EqL P xs ys ((t,off)::l) ((a==b)::bs) :=
 .cons hx hy (by unfold fitV; rw [hu]) (by unfold fitV; rw [hu]) rfl h
theorem zaU {op:BinOp} {t:TypeId} {x y:Operand} {xs ys:Array Value} (hop:op=.eql\/op=.neq) (hg:P.eqGuardType P.depth t=false) {s:Sem Value} {z:Value} (h:zR P s=some z):zR P (eqGuard op t x y (.agg xs) (.agg ys) >>= fun _=>s)=some z:=by
 refine zL (a:=()) ?_ h;rcases hop with rfl | rfl;all_goals
  unfold eqGuard;show zR P (if (!P.eqGuardType P.depth t)=true then pure () else _)=_;rw [hg];rfl
class FlatF (P:Program) (t:TypeId) (l:outParam (List (TypeId×Nat))):Prop where h:flatF P t=some l:=by kernel_rfl
class EqG (P:Program) (t:TypeId):Prop where h:P.eqGuardType P.depth t=false:=by kernel_rfl
variable {gm:Nat->Option Nat} {V:KV} {env:List AV} {o:Oper}
theorem zcX {t:TypeId} {x y:Operand} {ax ay:AV} {xs ys:Array Value} {l:List (TypeId×Nat)} {bs:List Bool} (ho:o.op=.binOp .eql t x y t) (hx:zn gm env x=some ax) (hy:zn gm env y=some ay) (hvx:toV ax=some (.agg xs)) (hvy:toV ay=some (.agg ys)) (hl:flatF P t=some l) (hg:P.eqGuardType P.depth t=false)
  (h:EqL P xs ys l bs:=by repeat (first | exact EqL.nil | apply EqL.consI Und.h rfl rfl | apply EqL.consB Und.h rfl rfl | apply EqL.consS Und.h rfl rfl)):Qk P gm env V o (.v (.bool (bs.all id))):=fun A _ =>
 vr ho (by rw [zx hx]; exact hvx) (by rw [zx hy]; exact hvy) (zaU (.inl rfl) hg (zL (zdE hl h) rfl))
theorem uS {t:TypeId} {x y:Operand} {ax ay:AV} {xs ys:Array Value} {l:List (TypeId×Nat)} {bs:List Bool} (ho:o.op=.binOp .neq t x y t) (hx:zn gm env x=some ax) (hy:zn gm env y=some ay) (hvx:toV ax=some (.agg xs)) (hvy:toV ay=some (.agg ys)) (hl:flatF P t=some l) (hg:P.eqGuardType P.depth t=false)
  (h:EqL P xs ys l bs:=by repeat (first | exact EqL.nil | apply EqL.consI Und.h rfl rfl | apply EqL.consB Und.h rfl rfl | apply EqL.consS Und.h rfl rfl)):Qk P gm env V o (.v (.bool (!bs.all id))):=fun A _ =>
 vr ho (by rw [zx hx]; exact hvx) (by rw [zx hy]; exact hvy) (zaU (.inr rfl) hg (zL (zdE hl h) rfl))
end
section
variable {P:Program} {gm:Nat->Option Nat} {T:Goroutine->Hp->Prop} {Y:KX P gm T} {ds:List Nat} {k:List Item} {env env':List AV} {K K':KV} {ops:Array Oper} {i:Nat} {o:Oper} {r:AV} {pend pend':List Pd}
def dstOk (pend':List Pd) (ops:Array Oper) (d:Option Nat):Bool:=match d with
 | some d=>pend'.all fun p => !(p.s.elem d)&&dstOf ops p.i !=some d
 | none=>true
theorem td_do {L L':List Nat} (s:List Nat) (ho:ops[i]? =some o) (hw:zK ops (onl s env) o=some true) (hp':pendOf ops i pend=pend') (hraw:rawOk ops i s=true) (hdst:dstOk pend' ops o.dst=true) (hin:i∈L) (hsub:∀ j∈L',j∈L/\j≠i) (hcov':∀ j∈L,j=i\/j∈L')
  (h:ExK Y (onl s env) K o fun r K'=>(∀ p∈pend',∀ x∈p.V,x∈K')/\TD Y ds ops k pend' L' (zO env o.dst r) K')
  (hj:∀ p∈pend,Jq P gm ops env p) (hraws:∀ p∈pend,rawP ops p.i p.s=true) {A:List AObj} (hA:Kn Y K A) {σ:List Nat} (hnd:(i::σ).Nodup) (hresp:Resp ops (i::σ)) (hsz:∀ j∈i::σ,j<ops.size) (hL:∀ j∈L,j∈i::σ) (hcov:∀ j∈i::σ,j∈L\/∃ p∈pend,p.i=j)
  {φ:Nat->Loc3} {H:Hp} {ts:Array Value} (h1:Agr Y.X.φ0 φ Y.X.n0) (h2:Y.X.n0<=A.length) (h3:RelG gm φ A.length) (h4:∀ d∈ds,d<A.length) (h5:RelH φ A Y.X.F H) (h6:RelHid φ A.length (Hid ops pend (i::σ)) env ts) :
  T (G (fr Y.X.kd Y.X.f Y.X.ro ts (dsC φ ds++Y.X.dd) (.inRegion ops (i::σ)::k)) Y.X.cs) H:=by
 subst hp';have hrel:=zbn hsz hresp hraw hraws h6;refine h A hA ops i σ k (dsC φ ds++Y.X.dd) φ H ts ho (zJ hrel hw) h3 h5 hrel fun r A' φ' H' v ⟨K',hk,hV',hq⟩ hA' hlen hH' hr=>?_;have hds:dsC φ' ds=dsC φ ds:=by
  unfold dsC;exact List.map_congr_left fun d hd'=>by rw [hA' d (h4 d hd')]
 rw [<- hds];have hnd':=List.nodup_cons.1 hnd;have hkeep:∀ p∈pend,p.i∈σ->p∈pendOf ops i pend:=fun p hp hm=>by
  refine List.mem_filter.2 ⟨hp,?_⟩;simp only [Bool.not_eq_true'];cases e:(edgesOf .any ops i).elem p.i with
  | false=>rfl
  | true=>exact absurd (List.mem_cons_of_mem _ hm) (hresp.1 p.i (by simpa using e))
 refine hq (fun p hp=>?_) (fun p hp=>hraws p (List.mem_filter.1 hp).1) hV' A' (hA.step hk) σ hnd'.2 hresp.2 (fun j hj=>hsz j (by simp [hj])) (fun j hj=>?_) (fun j hj=>?_) φ' H' _ (h1.trans hA' h2) oQ (h3.mono hA' hlen) (fun d hd'=>Nat.lt_of_lt_of_le (h4 d hd') hlen) hH' ⟨?_,fun j a y ha hy hnh=>?_⟩
 ·have hj':∀ p∈pendOf ops i pend,Jq P gm ops env p:=fun p hp=>hj p (List.mem_filter.1 hp).1;cases hdst':o.dst with
  | none=>exact hj' p hp
  | some d =>
   unfold dstOk at hdst;rw [hdst'] at hdst;exact zcB hdst hj' p hp
 ·have hm:=hsub j hj;rcases List.mem_cons.1 (hL j hm.1) with e | e
  ·exact absurd e hm.2
  ·exact e
 ·rcases hcov j (by simp [hj]) with h7 | ⟨p,hp,e⟩
  ·rcases hcov' j h7 with rfl | h7
   ·exact absurd hj hnd'.1
   ·exact .inl h7
  ·exact .inr ⟨p,hkeep p hp (e ▸ hj),e⟩
 ·have:(putT ts o.dst v).size=ts.size:=by cases o.dst <;> simp [putT,Act.put]
  rw [this,<- h6.1]; cases o.dst <;> simp [zO]
 ·have hback:o.dst≠some j->ts[j]? =some y->env[j]? =some a->RelV φ' A'.length a y:=fun hne hy' ha'=>by
   refine (h6.2 j a y ha' hy' fun ⟨p,hp,h8,h9⟩=>?_).mono hA' hlen;rcases List.mem_cons.1 h8 with e | h8
   ·rw [e] at h9; simp [dstOf,ho] at h9; exact hne h9
   ·exact hnh ⟨p,hkeep p hp h8,h8,h9⟩
  cases hdst':o.dst with
  | none=>rw [hdst'] at ha hy; exact hback (by rw [hdst']; simp) hy ha
  | some d =>
   rw [hdst'] at ha hy;simp only [zO,putT,Act.put] at ha hy;by_cases e:d=j
   ·subst e;have hlt:d<env.length:=by have:=(List.getElem?_eq_some_iff.1 ha).1; simpa using this
    rw [List.getElem?_set_self hlt] at ha;rw [Array.getElem?_setIfInBounds_self_of_lt (by rw [<- h6.1]; exact hlt)] at hy;cases ha; cases hy;exact hr
   ·rw [List.getElem?_set_ne e] at ha;rw [Array.getElem?_setIfInBounds_ne e] at hy;exact hback (by rw [hdst']; simpa using e) hy ha
theorem TD.c2 {i1 i2:Nat} {o1 o2:Oper} {L L1 L2:List Nat} {pend1 pend2:List Pd} (s1 s2:List Nat) (ho1:ops[i1]? =some o1) (ho2:ops[i2]? =some o2) (hw1:zK ops (onl s1 env) o1=some true) (hw2:zK ops (onl s2 env) o2=some true) (hp1:pendOf ops i1 pend=pend1) (hp2:pendOf ops i2 pend=pend2)
  (hc:(rawOk ops i1 s1&&rawOk ops i2 s2&&dstOk pend1 ops o1.dst&&dstOk pend2 ops o2.dst&&L.elem i1&&L.elem i2&&L1.all (fun j=>L.elem j&&j !=i1)&&L2.all (fun j=>L.elem j&&j !=i2)&&L.all (fun j=>j==i1||L1.elem j)&&L.all (fun j=>j==i2||L2.elem j)&&L.all (fun j=>j==i1||j==i2||(edgesOf .any ops j).any fun e=>L.elem e))=true)
  (h1:ExK Y (onl s1 env) K o1 fun r K'=>(∀ p∈pend1,∀ x∈p.V,x∈K')/\TD Y ds ops k pend1 L1 (zO env o1.dst r) K') (h2:ExK Y (onl s2 env) K o2 fun r K'=>(∀ p∈pend2,∀ x∈p.V,x∈K')/\TD Y ds ops k pend2 L2 (zO env o2.dst r) K'):TD Y ds ops k pend L env K:=fun hj hraw hV A hA σ=>by
 simp only [Bool.and_eq_true,List.all_eq_true,Bool.or_eq_true,beq_iff_eq,bne_iff_ne,List.elem_eq_mem,decide_eq_true_eq] at hc;obtain ⟨⟨⟨⟨⟨⟨⟨⟨⟨⟨q1,q2⟩,q3⟩,q4⟩,q5⟩,q6⟩,q7⟩,q8⟩,q9⟩,q10⟩,q11⟩:=hc
 induction σ with
 | nil =>
  intro _ _ _ hL;exact absurd (hL i1 q5) sQ
 | cons c σ ih =>
  intro hnd hresp hsz hL hcov φ H ts e1 e2 e3 e4 e5 e6;by_cases hc1:c=i1
  ·subst hc1;exact td_do s1 ho1 hw1 hp1 q1 q3 q5 q7 q9 h1 hj hraw hA hnd hresp hsz hL hcov e1 e2 e3 e4 e5 e6
  by_cases hc2:c=i2
  ·subst hc2;exact td_do s2 ho2 hw2 hp2 q2 q4 q6 q8 q10 h2 hj hraw hA hnd hresp hsz hL hcov e1 e2 e3 e4 e5 e6
  have hnd':=List.nodup_cons.1 hnd;have hno:c∉L:=fun hm=>by
   rcases q11 c hm with (h | h) | h
   ·exact hc1 h
   ·exact hc2 h
   ·rw [List.any_eq_true] at h;obtain ⟨e,he1,he2⟩:=h;exact hresp.1 e he1 (hL e (by simpa using he2))
  rcases hcov c sQ with h7 | ⟨p,hp,e⟩
  ·exact absurd h7 hno
  ·refine zbs hp e (hj p hp) hraw (hV p hp) hA hnd hsz hresp e1 e2 e3 e4 e5 e6 fun φ H ts h1 h3 h5 h6 =>
    ih hnd'.2 hresp.2 (fun j hj=>hsz j (by simp [hj])) (fun j hj=>?_) (fun j hj=>hcov j (by simp [hj])) φ H ts h1 e2 h3 e4 h5 h6
   rcases List.mem_cons.1 (hL j hj) with h8 | h8
   ·exact absurd (h8 ▸ hj) hno
   ·exact h8
theorem vm {s L':List Nat} {ob:AObj} {envf:Nat->List AV} (hd:yc o.op=false) (hq:Nk P gm (onl s env) K o (fun j=>.ptr j 0) ob) (he:∀ j,zO env o.dst (.ptr j 0)=envf j) (hv:∀ p∈pend',∀ x∈p.V,x∈K) (h:∀ j,j∉keys K->TD Y ds ops k pend' L' (envf j) ((j,ob)::K)) :
  ExK Y (onl s env) K o fun r K'=>(∀ p∈pend',∀ x∈p.V,x∈K')/\TD Y ds ops k pend' L' (zO env o.dst r) K' :=
 wu hd fun A hv' hn=>⟨_,_,_,hq A hv',.push hv' hn ob,fun p hp x hx=>List.mem_cons_of_mem _ (hv p hp x hx),by dsimp only; rw [he]; exact h _ fun hm=>absurd (hv'.lt hm) (Nat.lt_irrefl _)⟩
theorem wb {s L':List Nat} {n:Nat} {ob:AObj} {envf:Nat->List AV} (hd:yc o.op=false) (hq:Nk P gm (onl s env) K o (fun j=>.row j n) ob) (he:∀ j,zO env o.dst (.row j n)=envf j) (hv:∀ p∈pend',∀ x∈p.V,x∈K) (h:∀ j,j∉keys K->TD Y ds ops k pend' L' (envf j) ((j,ob)::K)) :
  ExK Y (onl s env) K o fun r K'=>(∀ p∈pend',∀ x∈p.V,x∈K')/\TD Y ds ops k pend' L' (zO env o.dst r) K' :=
 wu hd fun A hv' hn=>⟨_,_,_,hq A hv',.push hv' hn ob,fun p hp x hx=>List.mem_cons_of_mem _ (hv p hp x hx),by dsimp only; rw [he]; exact h _ fun hm=>absurd (hv'.lt hm) (Nat.lt_irrefl _)⟩
theorem wi {fo:Operand} {ars:Array Operand} {at_:Array TypeId} {g:FuncId} {fs cp args:List AV} {Kf R:KV} {Post:AV->KV->Prop} (hop:o.op=.call { callee:=.value fo,args:=ars,argTypes:=at_ })
  (hf:zn gm env fo=some (.fn g fs cp)) (hg:yj P g=true) (hargs:fs++ars.toList.map (zI gm env)++cp=args) (hc:zA P T gm g args Kf Post) (hs:Split K Kf R) {Q:AV->KV->Prop} (hq:∀ r K',Post r K'->Q r (K'++R)):ExK Y env K o Q:=zaA hop (zx hf) hg hargs hc hs hq
end
end Go.Vel
namespace Go.Vel
open Go Go.Conc
open Go.ConcN (upd)
section
variable {P:Program} {gm:Nat->Option Nat} {T:Goroutine->Hp->Prop} {Y:KX P gm T} {ds:List Nat} {k:List Item} {env env':List AV} {K K':KV} {ops:Array Oper} {i:Nat} {rest:List Nat} {o:Oper} {r:AV} {pend pend':List Pd} {V:KV}
end
section
variable {P:Program}
def bot (P:Program):Frame:={ (default:Frame) with fn:=P.funcs.size,defers:=[],mode:=.panicking [goexitEntry] }
theorem birth {main:Bool} {g:FuncId} (hg:yj P g=true) (xs ys:Array Value) (w:World):stepG P main (born P { target:=.fn (.func g) ys,args:=xs }) w=.go (G (Frame.enter P g (xs++ys) .deferred) [bot P]) w #[]:=by
 unfold yj at hg;split at hg
 ·rename_i fn e;simp only [mX,mV] at hg;have hb:fn.body.isNone=false:=by
   cases e':fn.body with
   | none=>rw [e'] at hg; simp at hg
   | some _=>rfl
  have hr:(callFunc g (xs++ys)).runT P w #[]=(.ok (.enter g (xs++ys)) w,#[]):=by
   show (match P.funcs[g]? with | none=>_ | some fn=>_:Sem Next).runT P w #[]=_;rw [e];simp only [hg.1,hb,mU,if_false];rfl
  obtain ⟨e1,e2⟩:=kb hr;simp [born,stepG,unwind,callDeferred,invoke,Sem.runT_eq,e1,e2,seen,GStep.after,G,bot]
 ·cases hg
theorem zdv {g:FuncId} {fn:Func} {ts:Array Value} {k:List Item} (hf:P.funcs[g]? =some fn) (hr:fn.results=#[]):QuitsD P 3 0 (G { fr .deferred g none ts [] k with mode:=.returning } [bot P]):=by
 right;refine ⟨rfl,G (bot P) [],#[],fun e he=>by simp at he,fun w=>?_,?_⟩
 ·have:(results fn ts).runT P w #[]=(.ok (.tuple #[]) w,#[]):=by
   unfold results;rw [hr,Array.mapM_eq_mapM_toList];rfl
  obtain ⟨e1,e2⟩:=kb this;simp [G,stepG,unwind,fr,hf,Sem.runT_eq,e1,e2,GStep.after,seen,doReturn,bot,goexitEntry]
 ·right;refine ⟨rfl,{ frame:=bot P,callers:=[],status:=.finished,dying:=none },#[],fun e he=>by simp at he,fun w=>?_,?_⟩
  ·have:(default:Frame).todo=[]:=rfl;simp [G,stepG,unwind,bot,Frame.catches,goexitEntry,this]
  ·left;exact ⟨rfl,rfl⟩
end
end Go.Vel
namespace Go.Vel
open Go Go.Conc
section
variable {P:Program} {gm:Nat->Option Nat} {T:Goroutine->Hp->Prop} {Y:KX P gm T} {ds:List Nat} {k:List Item} {env env':List AV} {K K':KV} {ops:Array Oper} {i d:Nat} {L':List Nat} {o:Oper} {r:AV} {pend pend':List Pd}
theorem TD.z (s:List Nat) (ho:ops[i]? =some o) (hq:∀ A,zM [] A->OpOk P gm (onl s env) A o r A) (h:TD Y ds ops k (⟨i,s,[]⟩::pend) L' env' K) (hd:yc o.op=false:=by rfl) (hw:zK ops (onl s env) o=some true:=by rfl) (hc:chkQ ops pend s i env.length o.dst=true:=by rfl) (hx:o.dst=some d:=by rfl) (he:env.set d r=env':=by simp only [List.set]; rfl):TD Y ds ops k pend (i::L') env K :=
 TD.q s [] ho hd hw hc sQ hq (zu hx he) h
theorem TD.y (s:List Nat) {x:Nat×AObj} (ho:ops[i]? =some o) (hm:x∈K:=by repeat (first | exact List.Mem.head _ | assumption | apply List.Mem.tail)) (hq:∀ A,zM [x] A->OpOk P gm (onl s env) A o r A) (h:TD Y ds ops k (⟨i,s,[x]⟩::pend) L' env' K) (hd:yc o.op=false:=by rfl) (hw:zK ops (onl s env) o=some true:=by rfl) (hc:chkQ ops pend s i env.length o.dst=true:=by rfl) (hx:o.dst=some d:=by rfl) (he:env.set d r=env':=by simp only [List.set]; rfl):TD Y ds ops k pend (i::L') env K :=
 TD.q s [x] ho hd hw hc (fun y hy=>by rw [List.mem_singleton.1 hy]; exact hm) hq (zu hx he) h
theorem TD.u (s:List Nat) (ho:ops[i]? =some o) (h:TD Y ds ops k (⟨i,s,[]⟩::pend) L' env' K) (hw:zK ops (onl s env) o=some false:=by rfl) (hc:chkQ ops pend s i env.length o.dst=true:=by rfl) (he:zO env o.dst (.v undef)=env':=by first | exact zu rfl tQ | exact putN rfl):TD Y ds ops k pend (i::L') env K :=
 TD.unwanted s ho hw hc he h
theorem TD.s {j:Nat} {ob ob':AObj} (s:List Nat) (ho:ops[i]? =some o) (hp':pendOf ops i pend=pend') (hq:∀ A,zM K A->OpOk P gm (onl s env) A o r (A.set j ob')) (h:TD Y ds ops k pend' L' env K') (hu:Upd K j ob j ob' K':=by repeat (first | exact Upd.head | apply Upd.tail)) (hv:∀ p∈pend',∀ x∈p.V,x∈K':=by simp) (hd:yc o.op=false:=by rfl) (hw:zK ops (onl s env) o=some true:=by rfl) (hc:chkC ops pend' L' s i o.dst=true:=by rfl) (hx:o.dst=none:=by rfl):TD Y ds ops k pend (i::L') env K :=
 TD.cst s ho hd hw hp' hc hq hu (putN hx) hv h
theorem TD.as (s:List Nat) (ho:ops[i]? =some o) (hp':pendOf ops i pend=pend') (hq:Qk P gm (onl s env) K o r) (h:TD Y ds ops k pend' L' env' K) (hv:∀ p∈pend',∀ x∈p.V,x∈K:=by simp) (hd:yc o.op=false:=by rfl) (hw:zK ops (onl s env) o=some true:=by rfl) (hc:chkC ops pend' L' s i o.dst=true:=by rfl) (hx:o.dst=some d:=by rfl) (he:env.set d r=env':=by simp only [List.set]; rfl):TD Y ds ops k pend (i::L') env K :=
 TD.cq s ho hd hw hp' hc hq (zu hx he) hv h
theorem TD.cl {fo:Operand} {ars:Array Operand} {at_:Array TypeId} {g:FuncId} {fs cp args:List AV} {Kf R:KV} {Post:AV->KV->Prop} (s:List Nat) (ho:ops[i]? =some o) (hp':pendOf ops i pend=pend') (hop:o.op=.call { callee:=.value fo,args:=ars,argTypes:=at_ })
  (hf:zn gm (onl s env) fo=some (.fn g fs cp)) (hargs:fs++ars.toList.map (zI gm (onl s env))++cp=args) (hc:zA P T gm g args Kf Post)
  (h:∀ r K',Post r K'->(∀ p∈pend',∀ x∈p.V,x∈K'++R)/\TD Y ds ops k pend' L' (env.set d r) (K'++R)) (hs:Split K Kf R:=by repeat (first | exact Split.none _ | exact Split.all _ | (apply Split.rem; repeat (first | exact Rem.head | apply Rem.tail)) | apply Split.right)) (hw:zK ops (onl s env) o=some true:=by rfl) (hc':chkC ops pend' L' s i o.dst=true:=by rfl) (hg:yj P g=true:=by exact Cal.h) (hx:o.dst=some d:=by rfl):TD Y ds ops k pend (i::L') env K :=
 TD.call' s ho hw hp' hc' hop hf hg hargs hc hs fun r K' hp=>by rw [hx]; exact h r K' hp
end
structure Tag (s:List Nat):Prop where
structure RunS (s:List Nat) (l:List (List Nat)) (G:Prop):Prop where
 go:G
structure RunD (l:List (List Nat)) (G:Prop):Prop where
 go:G
theorem Dc (c:Nat) {s:List Nat} {l:List (List Nat)} {G:Prop} (h:RunS s l G):RunD ((c::s)::l) G:=⟨h.go⟩
theorem Ds {s:List Nat} {l:List (List Nat)} {A B:Prop} (f:Tag s->A->B) (h:RunD l A):RunS s l B:=⟨f ⟨⟩ h.go⟩
section
variable {P:Program} {gm:Nat->Option Nat} {T:Goroutine->Hp->Prop} {Y:KX P gm T} {ds:List Nat} {k:List Item} {env env':List AV} {K:KV} {ops:Array Oper} {i d id:Nat} {s L':List Nat} {o:Oper} {r:AV} {pend:List Pd}
theorem TK.dr (L ρg:List Nat) (h:TD Y ds ops k [] L env K) (hd:drawnOk ops (List.range ops.size) ρg=true:=by kernel_rfl) (hL:(List.range ops.size).all (fun i=>L.elem i) && L.all (fun i=>decide (i < ops.size))=true:=by kernel_rfl):TK Y ds (.code (.region id ops true)::k) env K:=TK.draw L ρg hd hL h
theorem TD.q0 (t:Tag s) (ho:ops[i]?=some o) (hq:∀ A,zM [] A->OpOk P gm (onl s env) A o r A) (h:TD Y ds ops k (⟨i,s,[]⟩::pend) L' env' K) (hd:yc o.op=false:=by rfl) (hw:zK ops (onl s env) o=some true:=by rfl) (hc:chkQ ops pend s i env.length o.dst=true:=by rfl) (hx:o.dst=some d:=by rfl) (he:env.set d r=env':=by simp only [List.set]; rfl):TD Y ds ops k pend (i::L') env K:=TD.z s ho hq h hd hw hc hx he
theorem TD.ld (t:Tag s) {x:Nat×AObj} (ho:ops[i]?=some o) (hq:∀ A,zM [x] A->OpOk P gm (onl s env) A o r A) (h:TD Y ds ops k (⟨i,s,[x]⟩::pend) L' env' K) (hm:x ∈ K:=by repeat (first | exact List.Mem.head _ | assumption | apply List.Mem.tail)) (hd:yc o.op=false:=by rfl) (hw:zK ops (onl s env) o=some true:=by rfl) (hc:chkQ ops pend s i env.length o.dst=true:=by rfl) (hx:o.dst=some d:=by rfl) (he:env.set d r=env':=by simp only [List.set]; rfl):TD Y ds ops k pend (i::L') env K:=TD.y s ho hm hq h hd hw hc hx he
theorem TD.a0 (t:Tag s) (h:TD Y ds ops k [] L' env' K) (ho:ops[i]?=some o:=by rfl) (hp:pendOf ops i pend=[]:=by rfl) (hq:Qk P gm (onl s env) K o r:=by exact zD rfl rfl) (hd:yc o.op=false:=by rfl) (hw:zK ops (onl s env) o=some true:=by rfl) (hc:chkC ops [] L' s i o.dst=true:=by rfl) (hx:o.dst=some d:=by rfl) (he:env.set d r=env':=by simp only [List.set]; rfl):TD Y ds ops k pend (i::L') env K:=TD.as s ho hp hq h (fun _ q=>(List.not_mem_nil q).elim) hd hw hc hx he
theorem TK.dq [rl:RgL ops L'] (ρg:List Nat) (h:TD Y ds ops k [] L' env K) (hd:drawnOk ops (List.range ops.size) ρg=true:=by kernel_rfl) (hL:(List.range ops.size).all (fun i=>L'.elem i) && L'.all (fun i=>decide (i < ops.size))=true:=by kernel_rfl):TK Y ds (.code (.region id ops true)::k) env K:=TK.draw L' ρg hd hL h
theorem TD.u0 (t:Tag s) (h:TD Y ds ops k (⟨i,s,[]⟩::pend) L' env' K) (ho:ops[i]?=some o:=by rfl) (hw:zK ops (onl s env) o=some false:=by rfl) (hc:chkQ ops pend s i env.length o.dst=true:=by rfl) (he:zO env o.dst (.v undef)=env':=by first | exact zu rfl (by simp only [List.set]; rfl) | exact putN rfl):TD Y ds ops k pend (i::L') env K:=TD.u s ho h hw hc he
end
theorem ad (l:List (List Nat)) {G G':Prop} (h:G') (hs:Hide G'->RunD l G:=by
  intro hid;repeat (first
    | (refine Dc 1 ?_; refine Ds (fun t h=>TD.q0 t rfl (zh rfl rfl) h) ?_)
    | (refine Dc 2 ?_; refine Ds (fun t h=>TD.q0 t rfl (zQ rfl rfl rfl zF.h (by omega) (by omega)) h) ?_)
    | (refine Dc 3 ?_; refine Ds (fun t h=>TD.q0 t rfl (zg rfl rfl zl.h (by decide)) h) ?_)
    | (refine Dc 4 ?_; refine Ds (fun t h=>TD.q0 t rfl (q_cmp rfl rfl rfl rfl) h) ?_)
    | (refine Dc 5 ?_; refine Ds (fun t h=>TD.q0 t rfl (yf rfl rfl rfl) h) ?_)
    | (refine Dc 6 ?_; refine Ds (fun t h=>TD.q0 t rfl (yg rfl rfl rfl) h) ?_)
    | (refine Dc 7 ?_; refine Ds (fun t h=>TD.q0 t rfl (yF rfl rfl rfl) h) ?_)
    | (refine Dc 8 ?_; refine Ds (fun t h=>TD.q0 t rfl (q_add rfl rfl rfl (by omega)) h) ?_)
    | (refine Dc 9 ?_; refine Ds (fun t h=>TD.q0 t rfl (q_sub rfl rfl rfl (by omega)) h) ?_)
    | (refine Dc 10 ?_; refine Ds (fun t h=>TD.ld t rfl (zm rfl rfl zi.h (List.Mem.head _) rfl) h) ?_)
    | (refine Dc 11 ?_; refine Ds (fun t h=>TD.u0 t h) ?_)
    | (refine Dc 12 ?_; refine Ds (fun t h=>TD.ld t rfl (ya rfl rfl zi.h (List.Mem.head _) rfl) h) ?_)
    | (refine Dc 13 ?_; refine Ds (fun t h=>TD.a0 t h) ?_)
    | (refine Dc 14 ?_; refine Ds (fun t h=>TD.fin h) ?_))
  exact RunD.mk (l:=[]) hid.out):G:=(hs ⟨h⟩).go
end Go.Vel
namespace Go.Vel
open Go Go.Conc Go.Proofs
open Go.ConcN (sumTo upd upd_ne upd_same)
open Go.ConcM (OsLater MuAt muA msA)
open Go.ConcR (KK wgBlock WgAt stA smA mk rd wr)
open Mx (TT Th Mn S4 auto Mv4 ok4 bl4 kd dl MPc Pc okW okM Mv nx4 cnt newOf)
instance:Ext tp 211 (Extern.Atomic.casT (.int .i32)):=⟨_,Tryz.func211,by kernel_rfl,by kernel_rfl,by kernel_rfl,by kernel_rfl⟩
instance:Ext tp 213 (Extern.Atomic.update (Op.intArith .add) .i32 true):=⟨_,Tryz.func213,by kernel_rfl,by kernel_rfl,by kernel_rfl,by kernel_rfl⟩
instance:Ext tp 226 (Extern.Sync.canSpin):=⟨_,Tryz.func226,by kernel_rfl,by kernel_rfl,by kernel_rfl,by kernel_rfl⟩
instance:Ext tp 227 (fun _=>pure (.tuple #[])):=⟨_,Tryz.func227,by kernel_rfl,by kernel_rfl,by kernel_rfl,by kernel_rfl⟩
instance:Ext tp 229 (Extern.OsHooks.nano):=⟨_,Tryz.func229,by kernel_rfl,by kernel_rfl,by kernel_rfl,by kernel_rfl⟩
instance:Ext tp 230 (Extern.Sync.semacquire):=⟨_,Tryz.func230,by kernel_rfl,by kernel_rfl,by kernel_rfl,by kernel_rfl⟩
instance:Ext tp 232 (Extern.Sync.semrelease):=⟨_,Tryz.func232,by kernel_rfl,by kernel_rfl,by kernel_rfl,by kernel_rfl⟩
instance:Ext tp 166 (fun _=>do mark .disable; pure Extern.Race.none_):=⟨_,Tryz.func166,by kernel_rfl,by kernel_rfl,by kernel_rfl,by kernel_rfl⟩
instance:Ext tp 167 (fun _=>do mark .enable; pure Extern.Race.none_):=⟨_,Tryz.func167,by kernel_rfl,by kernel_rfl,by kernel_rfl,by kernel_rfl⟩
instance:Ext tp 180 (Extern.Race.marked .acquire):=⟨_,Tryz.func180,by kernel_rfl,by kernel_rfl,by kernel_rfl,by kernel_rfl⟩
instance:Ext tp 165 (Extern.Race.marked .releaseMerge):=⟨_,Tryz.func165,by kernel_rfl,by kernel_rfl,by kernel_rfl,by kernel_rfl⟩
instance:ExtQ tp 229:=⟨fun fn h=>by rw [Tryz.func229] at h; cases h; kernel_rfl⟩
theorem ld21 {o:Oper} {c:Operand} (hop:o.op=.load 21 c) (ev:Operand->Value) (w:World) (a:Addr) (v:Value) (hx:ev c=.pointer (some a)) (hc:w.cell? a=some v):(execOp ev o).run tp w=.ok (.value v) w/\(execOp ev o).events tp w #[]=#[⟨.cell a,false,false⟩]:=by
 have e1:tp.info? 21=some Tryz.t21:=by kernel_rfl
 unfold execOp;rw [hop];constructor
 ·simp [hx,hc,go_sem,e1]
 ·simp [hx,hc,go_sem,e1]
theorem nr212:(tp.funcs[(212:FuncId)]?).any (·.norace)=true:=by rw [Tryz.func212]; kernel_rfl
theorem nr214:(tp.funcs[(214:FuncId)]?).any (·.norace)=true:=by rw [Tryz.func214]; kernel_rfl
theorem nr179:(tp.funcs[(179:FuncId)]?).any (·.norace)=true:=by rw [Tryz.func179]; kernel_rfl
theorem uP256:tp.underlying 256=some (.pointer 192):=by kernel_rfl
theorem uP219:tp.underlying 219=some .unsafePointer:=by kernel_rfl
theorem z192:(tp.info? 192).map (fun i=>decide (i.size=0))=some false:=by kernel_rfl
instance:Cal tp 152:={}
instance:Cal tp 154:={}
instance:Cal tp 178:={}
instance:Cal tp 179:={}
instance:Cal tp 212:={}
instance:Cal tp 214:={}
instance:zl tp 192 0 0 false 1:={}
instance:zl tp 192 1 1 false 1:={}
instance:zl tp 194 1 0 true 2:={}
set_option linter.unusedVariables false in
theorem zdq {gm:Nat->Option Nat} {main:Bool} {Ch:Nat->Goroutine->Hp->Prop} (y:Sy tp) {lo:Nat×Loc3} {PL:(Nat->Bool)->KV->Prop} {k i:Nat} {x:Nat->Bool} (hGI:GIn y lo i PL) :
  CallS tp gm lo (y.Sf main Ch k i (.w { pc:=.r0 }) x) 212 [.v (.pointer (some ⟨y.Mu,0,none⟩))] [(lo.1,.gone)] (LockR y main Ch k i PL):=by
 refine kZ 139 (y.shutF _ _ _ _ _ _) Tryz.func212 fun φ0 c0 cs A0 hl1 hl2 hret=>?_;refine au 1423542354235423542 ?_;refine TK.a Z (yk Z Z) ?_;refine TK.a Z (z8 Z Z zl.h dQ) ?_;refine TK.sLoad (fun v=>.w (Mx.hd { pc:=.r0,old:=v })) rfl rfl rfl rfl (ld21 Z) nr212 (fun s _=>mx0 (.r0 rfl)) (fun v=>hd_dl _) (fun v=>kV _) (fun v=>hd_kd _) fun s hok k1 hk1=>?_;refine au 130235 ?_;refine TK.maskL [0,2,3,4,5,6] ?_;have hmu:=hok.1;refine TK.loopS (ι:=Th×Int) (fun b=>.w (Mx.hd b.1)) (fun b=>kV b.1) (fun (b:Th×Int) env K=>b.1.old<256/\(b.1.aw=true->Mx.wk b.1.old=1)/\(b.1.sv=true->b.1.aw=true)/\b.1.it<=4/\K=[(lo.1,AObj.gone)]/\env=[.v (.pointer (some ⟨y.Mu,0,none⟩)),.any,.v (.int .i64 b.2),.v (.bool b.1.sv),.v (.bool b.1.aw),.v (.int .i64 ((b.1.it:Nat):Int)),.v (.int .i32 ((b.1.old:Nat):Int)),.any,.any,.any,.any,.any,.any,.any,.any,.any,.any,.any,.any,.any,.any,.any,.any,.any,.any,.any,.any,.any,.any,.any,.any,.any,.any,.any,.any,.any,.any,.any,.any,.any,.any,.any,.any,.any,.any,.any,.any,.any,.any,.any,.any,.any,.any,.any,.any,.any,.any,.any,.any,.any,.any,.any,.any,.any,.any,.any,.any,.any,.any,.any,.any,.any,.any,.any,.any,.any,.any,.any,.any,.any,.any,.any,.any,.any,.any,.any,.any,.any,.any,.any,.any,.any,.any,.any,.any,.any,.any,.any,.any,.any,.any,.any,.any,.any,.any,.any,.any,.any,.any,.any,.any,.any,.any,.any,.any,.any,.any,.any,.any,.any,.any,.any,.any,.any,.any,.any,.any,.any,.any,.any,.any,.any,.any,.any,.any,.any,.any,.any,.any]) ({ pc:=.r0,old:=s.mu },0) ⟨hmu,(fun h=>by cases h),(fun h=>by cases h),by show 0<=4; omega,rfl,rfl⟩ rfl ?_;clear hok hmu s;rintro k2 hk2 ⟨⟨p0,old,n0,aw,sv,it⟩,wst⟩ env K ⟨hold,haw,hsv,hit,rfl,rfl⟩ ih;dsimp only at hold haw hsv hit ⊢;obtain ⟨hn1,hn2,hn3⟩:=ziq old hold;obtain ⟨hn3,hn4,hn5⟩:=hn3 sv;have hn5:=hn5 aw haw;refine au 22130 ?_;refine TK.splitS (ι:=Unit) (fun _=>.w { pc:=.c2,old:=old,nw:=newOf old aw sv,aw:=aw,sv:=sv,it:=it }) (fun _=>rfl) (fun _=>True) (fun _=>[.v (.pointer (some ⟨y.Mu,0,none⟩)),.any,.v (.int .i64 wst),.v (.bool sv),.v (.bool aw),.v (.int .i64 ((it:Nat):Int)),.v (.int .i32 ((old:Nat):Int)),.any,.any,.any,.any,.any,.any,.any,.any,.any,.any,.any,.any,.any,.any,.any,.any,.any,.any,.any,.any,.any,.any,.any,.any,.any,.any,.any,.any,.any,.any,.any,.any,.any,.any,.any,.any,.any,.any,.any,.any,.any,.any,.any,.any,.any,.any,.any,.any,.any,.any,.any,.any,.any,.any,.any,.any,.any,.any,.any,.any,.any,.any,.any,.any,.any,.any,.any,.any,.any,.any,.any,.any,.any,.any,.any,.any,.any,.any,.any,.any,.any,.any,.any,.any,.any,.any,.any,.any,.any,.any,.any,.any,.any,.any,.any,.any,.any,.any,.any,.any,.any,.any,.any,.any,.any,.any,.any,.any,.any,.any,.any,.any,.any,.any,.any,.any,.any,.any,.any,.any,.any,.any,.any,.any,.any,.any,.any,.any,.any,.any,.any,.any]) [(lo.1,AObj.gone)] (fun hsh=>?_) ?_
 ·skip;refine au 14 ?_;refine TK.a Z (yD Z Z Z (.inl Z) (bA5 old hold)) ?_;refine au 17 ?_;refine TK.sp 17 (fun g5_4=>?_) (fun g5_4=>?_)
  ·have hsq:Mx.lk old=1/\Mx.st old=0:=by simp at g5_4; dsimp only [Mx.st,Mx.lk,Mx.wk,Mx.wt] at *; omega
   refine TK.castT (T':=.w { pc:=.sq,old:=old,nw:=n0,aw:=aw,sv:=sv,it:=it }) Z (congrArg TT.w (if_pos hsq)) ?_;refine au 1 ?_;refine TK.sSpin (.w (if aw=false/\Mx.wk old=0/\Mx.wt old≠0 then { pc:=.c1,old:=old,nw:=n0,aw:=aw,sv:=sv,it:=it } else { pc:=.r1,old:=old,nw:=n0,aw:=aw,sv:=sv,it:=it })) (.w { pc:=.c2,old:=old,nw:=newOf old aw sv,aw:=aw,sv:=sv,it:=it }) it Z Z Z Z (fun s _ h4=>?_) (fun s _=>mx0 (.sqn rfl)) ⟨by split <;> rfl,rfl⟩ (by split <;> rfl) rfl (by split <;> exact fun h=>by cases h) (fun h=>by cases h) (fun hi4 k3 hk3=>?_) (fun k3 hk3=>?_);rotate_left
   ·refine au 130014221803260 ?_;refine TK.sp 23 (fun g6_3=>?_) (fun g6_3=>?_)
    ·refine au 1 ?_;refine TK.a Z (yD Z Z Z (.inl Z) (bA2 old oQ)) ?_;refine au 12607 ?_;refine TK.sp 28 (fun g6_8=>?_) (fun g6_8=>?_)
     ·refine au 1 ?_;refine TK.a Z (q_sh Z Z Z dQ (r:=((old / 8:Nat):Int)) (by show ((old:Nat):Int) / 8=((old / 8:Nat):Int); omega)) ?_;refine au 12607 ?_;refine TK.sp 33 (fun g6_13=>?_) (fun g6_13=>?_)
      ·have ha1:aw=false:=by simpa using g6_3
       have ha2:Mx.wk old=0:=by simp at g6_8; dsimp only [Mx.st,Mx.lk,Mx.wk,Mx.wt] at *; omega
       have ha3:Mx.wt old≠0:=by simp at g6_13; dsimp only [Mx.st,Mx.lk,Mx.wk,Mx.wt] at *; omega
       refine TK.castT (T':=.w { pc:=.c1,old:=old,nw:=n0,aw:=aw,sv:=sv,it:=it }) Z (congrArg TT.w (if_pos ⟨ha1,ha2,ha3⟩)) ?_;refine au 1 ?_;refine TK.a Z (yk Z Z) ?_;refine TK.a Z (z8 Z Z zl.h dQ) ?_;refine au 11 ?_;refine TK.a Z (yD Z Z Z (.inr (.inl Z)) (bO2 old oQ)) ?_;have hnew:old - 2*(old / 2 % 2)+2=old+2:=by dsimp only [Mx.st,Mx.lk,Mx.wk,Mx.wt] at *; omega
       refine TK.sCas (.w { pc:=.r1,old:=old,nw:=n0,aw:=true,sv:=sv,it:=it }) (.w { pc:=.r1,old:=old,nw:=n0,aw:=aw,sv:=sv,it:=it }) old (old - 2*(old / 2 % 2)+2) Z Z Z Z Z Z (fun s _ e=>by rw [hnew]; exact mxM (.c1h rfl e)) (fun s _ e=>mx0 (.c1m rfl e)) ⟨mS,rfl,rfl⟩ rfl rfl (fun h=>by cases h) (fun h=>by cases h) (fun k4 hk4=>?_) (fun k4 hk4=>?_)
       ·refine au 423541803260 ?_;refine TK.sPure Z Z ?_;refine au 1423 ?_;refine TK.a Z (q_add Z Z Z oQ) ?_;refine au 14235 ?_;refine TK.a Z (yk Z Z) ?_;refine TK.a Z (z8 Z Z zl.h dQ) ?_;refine TK.sLoad (fun v=>.w (Mx.hd { pc:=.r1,old:=v,nw:=n0,aw:=true,sv:=sv,it:=it+1 })) rfl rfl rfl rfl (ld21 Z) nr212 (fun s _=>mx0 (.r1 rfl)) (fun v=>hd_dl _) (fun v=>kV _) (fun v=>hd_kd _) fun s hok k5 hk5=>?_;refine au 16035 ?_;refine TK.maskL [0,2,3,4,5,6] ?_;exact ih _ ({ pc:=.r1,old:=s.mu,nw:=n0,aw:=true,sv:=sv,it:=it+1 },wst) _ _ oQ ⟨hok.1,hok.2.2.2.2.2.2,(fun _=>rfl),by show it+1<=4; omega,rfl,rfl⟩
       ·refine au 421201903260 ?_;refine TK.sPure Z Z ?_;refine au 1423 ?_;refine TK.a Z (q_add Z Z Z oQ) ?_;refine au 14235 ?_;refine TK.a Z (yk Z Z) ?_;refine TK.a Z (z8 Z Z zl.h dQ) ?_;refine TK.sLoad (fun v=>.w (Mx.hd { pc:=.r1,old:=v,nw:=n0,aw:=aw,sv:=sv,it:=it+1 })) rfl rfl rfl rfl (ld21 Z) nr212 (fun s _=>mx0 (.r1 rfl)) (fun v=>hd_dl _) (fun v=>kV _) (fun v=>hd_kd _) fun s hok k5 hk5=>?_;refine au 16035 ?_;refine TK.maskL [0,2,3,4,5,6] ?_;exact ih _ ({ pc:=.r1,old:=s.mu,nw:=n0,aw:=aw,sv:=sv,it:=it+1 },wst) _ _ oQ ⟨hok.1,hok.2.2.2.2.2.2,hsv,by show it+1<=4; omega,rfl,rfl⟩
      have ha1:¬ Mx.wt old≠0:=by simp at g6_13; dsimp only [Mx.st,Mx.lk,Mx.wk,Mx.wt] at *; omega
      refine TK.castT (T':=.w { pc:=.r1,old:=old,nw:=n0,aw:=aw,sv:=sv,it:=it }) Z (congrArg TT.w (if_neg (fun h=>ha1 h.2.2))) ?_;refine au 4212019032508888888 ?_;refine TK.sPure Z Z ?_;refine au 1423 ?_;refine TK.a Z (q_add Z Z Z oQ) ?_;refine au 14235 ?_;refine TK.a Z (yk Z Z) ?_;refine TK.a Z (z8 Z Z zl.h dQ) ?_;refine TK.sLoad (fun v=>.w (Mx.hd { pc:=.r1,old:=v,nw:=n0,aw:=aw,sv:=sv,it:=it+1 })) rfl rfl rfl rfl (ld21 Z) nr212 (fun s _=>mx0 (.r1 rfl)) (fun v=>hd_dl _) (fun v=>kV _) (fun v=>hd_kd _) fun s hok k5 hk5=>?_;refine au 16035 ?_;refine TK.maskL [0,2,3,4,5,6] ?_;exact ih _ ({ pc:=.r1,old:=s.mu,nw:=n0,aw:=aw,sv:=sv,it:=it+1 },wst) _ _ oQ ⟨hok.1,hok.2.2.2.2.2.2,hsv,by show it+1<=4; omega,rfl,rfl⟩
     have ha1:Mx.wk old≠0:=by simp at g6_8; dsimp only [Mx.st,Mx.lk,Mx.wk,Mx.wt] at *; omega
     refine TK.castT (T':=.w { pc:=.r1,old:=old,nw:=n0,aw:=aw,sv:=sv,it:=it }) Z (congrArg TT.w (if_neg (fun h=>ha1 h.2.1))) ?_;refine au 42120190325088888881250888 ?_;refine TK.sPure Z Z ?_;refine au 1423 ?_;refine TK.a Z (q_add Z Z Z oQ) ?_;refine au 14235 ?_;refine TK.a Z (yk Z Z) ?_;refine TK.a Z (z8 Z Z zl.h dQ) ?_;refine TK.sLoad (fun v=>.w (Mx.hd { pc:=.r1,old:=v,nw:=n0,aw:=aw,sv:=sv,it:=it+1 })) rfl rfl rfl rfl (ld21 Z) nr212 (fun s _=>mx0 (.r1 rfl)) (fun v=>hd_dl _) (fun v=>kV _) (fun v=>hd_kd _) fun s hok k5 hk5=>?_;refine au 16035 ?_;refine TK.maskL [0,2,3,4,5,6] ?_;exact ih _ ({ pc:=.r1,old:=s.mu,nw:=n0,aw:=aw,sv:=sv,it:=it+1 },wst) _ _ oQ ⟨hok.1,hok.2.2.2.2.2.2,hsv,by show it+1<=4; omega,rfl,rfl⟩
    have ha1:aw=true:=by simpa using g6_3
    refine TK.castT (T':=.w { pc:=.r1,old:=old,nw:=n0,aw:=aw,sv:=sv,it:=it }) Z (congrArg TT.w (if_neg (fun h=>by rw [ha1] at h; cases h.1))) ?_;refine au 421201903250888888812508881250888 ?_;refine TK.sPure Z Z ?_;refine au 1423 ?_;refine TK.a Z (q_add Z Z Z oQ) ?_;refine au 14235 ?_;refine TK.a Z (yk Z Z) ?_;refine TK.a Z (z8 Z Z zl.h dQ) ?_;refine TK.sLoad (fun v=>.w (Mx.hd { pc:=.r1,old:=v,nw:=n0,aw:=aw,sv:=sv,it:=it+1 })) rfl rfl rfl rfl (ld21 Z) nr212 (fun s _=>mx0 (.r1 rfl)) (fun v=>hd_dl _) (fun v=>kV _) (fun v=>hd_kd _) fun s hok k5 hk5=>?_;refine au 16035 ?_;refine TK.maskL [0,2,3,4,5,6] ?_;exact ih _ ({ pc:=.r1,old:=s.mu,nw:=n0,aw:=aw,sv:=sv,it:=it+1 },wst) _ _ oQ ⟨hok.1,hok.2.2.2.2.2.2,hsv,by show it+1<=4; omega,rfl,rfl⟩
   ·refine au 1201903260 ?_;refine TK.maskL [0,2,3,4,5,6] ?_;exact hsh _ () oQ trivial
   ·split
    ·rename_i h; exact mx0 (.sqc rfl h4 h.1 h.2.1 h.2.2)
    ·rename_i h; exact mx0 (.sqr rfl h4 h)
  have hsq:¬ (Mx.lk old=1/\Mx.st old=0):=by simp at g5_4; dsimp only [Mx.st,Mx.lk,Mx.wk,Mx.wt] at *; omega
  refine TK.castT (T':=.w { pc:=.c2,old:=old,nw:=newOf old aw sv,aw:=aw,sv:=sv,it:=it }) Z (congrArg TT.w (if_neg hsq)) ?_;refine au 120190325088 ?_;refine TK.maskL [0,2,3,4,5,6] ?_;exact hsh _ () oQ trivial
 ·intro k3 _ hk3 _;refine au 142235142 ?_;refine TK.a Z (yD Z Z Z (.inl Z) (bA4 old oQ)) ?_;refine au 37 ?_;refine TK.share1 ([.v (.pointer (some ⟨y.Mu,0,none⟩)),.any,.v (.int .i64 wst),.v (.bool sv),.v (.bool aw),.v (.int .i64 ((it:Nat):Int)),.v (.int .i32 ((old:Nat):Int)),.v (.int .i32 ((nv1 old:Nat):Int)),.any,.any,.any,.any,.any,.any,.any,.any,.any,.any,.any,.any,.any,.any,.any,.any,.any,.any,.any,.any,.any,.any,.any,.any,.any,.any,.any,.any,.any,.any,.any,.any,.any,.any,.any,.any,.any,.any,.any,.any,.any,.any,.any,.any,.any,.any,.any,.any,.any,.any,.any,.any,.any,.any,.any,.any,.any,.any,.any,.any,.any,.any,.any,.any,.any,.any,.any,.any,.any,.any,.any,.any,.any,.any,.any,.any,.any,.any,.any,.any,.any,.any,.any,.any,.any,.any,.any,.any,.any,.any,.any,.any,.any,.any,.any,.any,.any,.any,.any,.any,.any,.any,.any,.any,.any,.any,.any,.any,.any,.any,.any,.any,.any,.any,.any,.any,.any,.any,.any,.any,.any,.any,.any,.any,.any,.any,.any,.any,.any,.any,.any]) [(lo.1,AObj.gone)] (fun hsh=>?_) ?_
  ·skip;refine au 9 ?_;constructor<;>intro hc2
   ·skip;refine au 14 ?_;refine TK.a Z (yD Z Z Z (.inr (.inl Z)) (bO1 old oQ)) ?_;refine au 35 ?_;refine TK.maskL [0,2,3,4,5,6,7] ?_;have e7:nv1 old=old - old % 2+1:=by simp at hc2; unfold nv1; rw [if_pos (by dsimp only [Mx.st,Mx.lk,Mx.wk,Mx.wt] at *; omega)]
    rw [e7] at hsh;exact hsh
   ·skip;refine au 120 ?_;refine TK.maskL [0,2,3,4,5,6,7] ?_;have e7:nv1 old=old:=by simp at hc2; unfold nv1; rw [if_neg (by dsimp only [Mx.st,Mx.lk,Mx.wk,Mx.wt] at *; omega)]
    rw [e7] at hsh;exact hsh
  ·skip;refine au 1422 ?_;refine TK.a Z (yD Z Z Z (.inl Z) (bA5 old hold)) ?_;refine au 37 ?_;refine TK.share1 ([.v (.pointer (some ⟨y.Mu,0,none⟩)),.any,.v (.int .i64 wst),.v (.bool sv),.v (.bool aw),.v (.int .i64 ((it:Nat):Int)),.v (.int .i32 ((old:Nat):Int)),.v (.int .i32 ((nv2 old:Nat):Int)),.any,.any,.any,.any,.any,.any,.any,.any,.any,.any,.any,.any,.any,.any,.any,.any,.any,.any,.any,.any,.any,.any,.any,.any,.any,.any,.any,.any,.any,.any,.any,.any,.any,.any,.any,.any,.any,.any,.any,.any,.any,.any,.any,.any,.any,.any,.any,.any,.any,.any,.any,.any,.any,.any,.any,.any,.any,.any,.any,.any,.any,.any,.any,.any,.any,.any,.any,.any,.any,.any,.any,.any,.any,.any,.any,.any,.any,.any,.any,.any,.any,.any,.any,.any,.any,.any,.any,.any,.any,.any,.any,.any,.any,.any,.any,.any,.any,.any,.any,.any,.any,.any,.any,.any,.any,.any,.any,.any,.any,.any,.any,.any,.any,.any,.any,.any,.any,.any,.any,.any,.any,.any,.any,.any,.any,.any,.any,.any,.any,.any,.any]) [(lo.1,AObj.gone)] (fun hsh=>?_) ?_
   ·skip;refine au 9 ?_;constructor<;>intro hc3
    ·skip;refine au 14 ?_;refine TK.a Z (vt Z Z Z (r:=((nv1 old+8:Nat):Int)) (.inl ⟨rfl,by rw [w32 oQ]; omega⟩)) ?_;refine au 35 ?_;refine TK.maskL [0,2,3,4,5,6,7] ?_;have e7:nv2 old=nv1 old+8:=by simp at hc3; unfold nv2; rw [if_pos (by dsimp only [Mx.st,Mx.lk,Mx.wk,Mx.wt] at *; omega)]
     rw [e7] at hsh;exact hsh
    ·skip;refine au 120 ?_;refine TK.maskL [0,2,3,4,5,6,7] ?_;have e7:nv2 old=nv1 old:=by simp at hc3; unfold nv2; rw [if_neg (by dsimp only [Mx.st,Mx.lk,Mx.wk,Mx.wt] at *; omega)]
     rw [e7] at hsh;exact hsh
   ·skip;refine au 22 ?_;refine TK.splitS (ι:=Unit) (fun _=>.w { pc:=.c2,old:=old,nw:=newOf old aw sv,aw:=aw,sv:=sv,it:=it }) (fun _=>rfl) (fun _=>True) (fun _=>[.v (.pointer (some ⟨y.Mu,0,none⟩)),.any,.v (.int .i64 wst),.v (.bool sv),.v (.bool aw),.v (.int .i64 ((it:Nat):Int)),.v (.int .i32 ((old:Nat):Int)),.v (.int .i32 ((nv3 old sv:Nat):Int)),.any,.any,.any,.any,.any,.any,.any,.any,.any,.any,.any,.any,.any,.any,.any,.any,.any,.any,.any,.any,.any,.any,.any,.any,.any,.any,.any,.any,.any,.any,.any,.any,.any,.any,.any,.any,.any,.any,.any,.any,.any,.any,.any,.any,.any,.any,.any,.any,.any,.any,.any,.any,.any,.any,.any,.any,.any,.any,.any,.any,.any,.any,.any,.any,.any,.any,.any,.any,.any,.any,.any,.any,.any,.any,.any,.any,.any,.any,.any,.any,.any,.any,.any,.any,.any,.any,.any,.any,.any,.any,.any,.any,.any,.any,.any,.any,.any,.any,.any,.any,.any,.any,.any,.any,.any,.any,.any,.any,.any,.any,.any,.any,.any,.any,.any,.any,.any,.any,.any,.any,.any,.any,.any,.any,.any,.any,.any,.any,.any,.any,.any]) [(lo.1,AObj.gone)] (fun hsh=>?_) ?_
    ·skip;refine au 114 ?_;refine TK.sp 61 (fun g16_2=>?_) (fun g16_2=>?_)
     ·refine au 1 ?_;refine TK.a Z (yD Z Z Z (.inl Z) (bA1 old oQ)) ?_;refine au 932607 ?_;constructor<;>intro hc4
      ·refine au 14 ?_;refine TK.a Z (yD Z Z Z (.inr (.inl Z)) (bO4 (nv2 old) oQ)) ?_;refine au 35 ?_;refine TK.maskL [0,2,3,4,5,6,7] ?_;have e7:nv3 old sv=nv2 old - 4*(nv2 old / 4 % 2)+4:=by simp at hc4; unfold nv3; rw [if_pos ⟨g16_2,by dsimp only [Mx.st,Mx.lk,Mx.wk,Mx.wt] at *; omega⟩]
       rw [e7] at hsh;exact hsh _ () (mL _) trivial
      refine au 120 ?_;refine TK.maskL [0,2,3,4,5,6,7] ?_;have e7:nv3 old sv=nv2 old:=by simp at hc4; unfold nv3; rw [if_neg (fun h=>by have:=h.2; dsimp only [Mx.st,Mx.lk,Mx.wk,Mx.wt] at *; omega)]
      rw [e7] at hsh;exact hsh _ () (mL _) trivial
     refine au 1201903250888 ?_;refine TK.maskL [0,2,3,4,5,6,7] ?_;have e7:nv3 old sv=nv2 old:=by unfold nv3; rw [if_neg (fun h=>by rw [h.1] at g16_2; cases g16_2)]
     rw [e7] at hsh;exact hsh _ () (mL _) trivial
    ·intro k4 _ hk4 _;refine au 31422 ?_;refine TK.share1 ([.v (.pointer (some ⟨y.Mu,0,none⟩)),.any,.v (.int .i64 wst),.v (.bool sv),.v (.bool aw),.v (.int .i64 ((it:Nat):Int)),.v (.int .i32 ((old:Nat):Int)),.v (.int .i32 ((newOf old aw sv:Nat):Int)),.any,.any,.any,.any,.any,.any,.any,.any,.any,.any,.any,.any,.any,.any,.any,.any,.any,.any,.any,.any,.any,.any,.any,.any,.any,.any,.any,.any,.any,.any,.any,.any,.any,.any,.any,.any,.any,.any,.any,.any,.any,.any,.any,.any,.any,.any,.any,.any,.any,.any,.any,.any,.any,.any,.any,.any,.any,.any,.any,.any,.any,.any,.any,.any,.any,.any,.any,.any,.any,.any,.any,.any,.any,.any,.any,.any,.any,.any,.any,.any,.any,.any,.any,.any,.any,.any,.any,.any,.any,.any,.any,.any,.any,.any,.any,.any,.any,.any,.any,.any,.any,.any,.any,.any,.any,.any,.any,.any,.any,.any,.any,.any,.any,.any,.any,.any,.any,.any,.any,.any,.any,.any,.any,.any,.any,.any,.any,.any,.any,.any,.any]) [(lo.1,AObj.gone)] (fun hsh=>?_) ?_
     ·skip;refine au 9 ?_;constructor<;>intro hc5
      ·skip;refine au 1422 ?_;refine TK.a Z (yD Z Z Z (.inl Z) (bA2 (nv3 old sv) hn3)) ?_;refine au 937 ?_;constructor<;>intro hc6
       ·have:=hn4 (haw hc5);exfalso;simp at hc6;dsimp only [Mx.st,Mx.lk,Mx.wk,Mx.wt] at *
        omega
       refine au 14120 ?_;refine TK.a Z (yD Z Z Z (.inr (.inr Z)) (bN2 (nv3 old sv) hn3)) ?_;refine au 35 ?_;refine TK.maskL [0,2,3,4,5,6,7] ?_;have e7:newOf old aw sv=nv3 old sv - 2*(nv3 old sv / 2 % 2):=by rw [<- hn5]; unfold nv4; rw [if_pos hc5]
       rw [<- e7];exact hsh
      ·skip;refine au 120 ?_;refine TK.maskL [0,2,3,4,5,6,7] ?_;have e7:newOf old aw sv=nv3 old sv:=by rw [<- hn5]; unfold nv4; rw [if_neg (by rw [hc5]; decide)]
       rw [<- e7];exact hsh
     ·skip;refine au 142 ?_;refine TK.a Z (yk Z Z) ?_;refine TK.a Z (z8 Z Z zl.h dQ) ?_;refine au 11 ?_;refine TK.sCas (if Mx.lk old=0/\Mx.st old=0 then .w { pc:=.le } else if wst=0 then .w { pc:=.t1,old:=old,nw:=newOf old aw sv,aw:=aw,sv:=sv,it:=it } else .w { pc:=.s1,old:=old,nw:=newOf old aw sv,aw:=aw,sv:=sv,it:=it }) (.w { pc:=.r3,old:=old,nw:=newOf old aw sv,aw:=aw,sv:=sv,it:=it }) old (newOf old aw sv) Z Z Z Z Z Z (fun s _ e=>?_) (fun s _ e=>mx0 (.c2m rfl e)) ⟨mS,by split <;> first | rfl | (split <;> rfl),rfl⟩ (by split <;> first | rfl | (split <;> rfl)) rfl (by split <;> first | exact fun h=>by cases h | (split <;> exact fun h=>by cases h)) (fun h=>by cases h) (fun k5 hk5=>?_) (fun k5 hk5=>?_);rotate_left
      ·refine au 14221803 ?_;refine TK.a Z (yD Z Z Z (.inl Z) (bA5 old hold)) ?_;refine au 937 ?_;constructor<;>intro hc8
       ·have h8:Mx.lk old=0/\Mx.st old=0:=by simp at hc8; dsimp only [Mx.st,Mx.lk,Mx.wk,Mx.wt] at *; omega
        refine TK.castT (T':=.w { pc:=.le }) Z (if_pos h8) ?_;refine au 42180160 ?_;refine TK.sMark (.w { pc:=.la }) .enable sQ Z Z Z (fun s _=>mx0 (.le rfl)) (kL 0) rfl (fun k8 hk8=>?_);refine au 143 ?_;refine TK.sConv Z Z Z uP256 uP219 z192 (fun w s h=>⟨_,h.1.cellSt⟩) ?_;refine au 0 ?_;refine TK.acqL Z Z Z Z Z hl1 hl2 hGI fun k9 x5 K5 hk9 hx5 hp5=>?_;refine au 3 ?_;refine TK.rt0a (hret (hT':=y.shutF _ _ _ _ _ _)) ?_ res_0;exact ⟨rfl,_,_,oQ,hx5,hp5,rfl⟩
       have h8:¬ (Mx.lk old=0/\Mx.st old=0):=by simp at hc8; dsimp only [Mx.st,Mx.lk,Mx.wk,Mx.wt] at *; omega
       refine TK.castT (T':=if wst=0 then .w { pc:=.t1,old:=old,nw:=newOf old aw sv,aw:=aw,sv:=sv,it:=it } else .w { pc:=.s1,old:=old,nw:=newOf old aw sv,aw:=aw,sv:=sv,it:=it }) (by split <;> rfl) (if_neg h8) ?_;refine au 22357142120 ?_;obtain ⟨w0,hw0⟩:∃ w0:Bool,w0=(wst !=0):=⟨_,rfl⟩;rw [<- hw0];refine TK.splitS (ι:=Int) (fun _=>.w { pc:=.s1,old:=old,nw:=newOf old aw sv,aw:=aw,sv:=sv,it:=it }) (fun _=>rfl) (fun _=>True) (fun wst=>[.v (.pointer (some ⟨y.Mu,0,none⟩)),.any,.v (.int .i64 wst),.v (.bool sv),.any,.any,.any,.any,.v (.bool w0),.any,.any,.any,.any,.any,.any,.any,.any,.any,.any,.any,.any,.any,.any,.any,.any,.any,.any,.any,.any,.any,.any,.any,.any,.any,.any,.any,.any,.any,.any,.any,.any,.any,.any,.any,.any,.any,.any,.any,.any,.any,.any,.any,.any,.any,.any,.any,.any,.any,.any,.any,.any,.any,.any,.any,.any,.any,.any,.any,.any,.any,.any,.any,.any,.any,.any,.any,.any,.any,.any,.any,.any,.any,.any,.any,.any,.any,.any,.any,.any,.any,.any,.any,.any,.any,.any,.any,.any,.any,.any,.any,.any,.any,.any,.any,.any,.any,.any,.any,.any,.any,.any,.any,.any,.any,.any,.any,.any,.any,.any,.any,.any,.any,.any,.any,.any,.any,.any,.any,.any,.any,.any,.any,.any,.any,.any,.any,.any,.any,.any]) [(lo.1,AObj.gone)] (fun hsh=>?_) ?_
       ·skip;refine au 93714 ?_;constructor<;>intro hc9
        ·have h9:wst=0:=by simpa using hc9
         refine TK.castT (T':=.w { pc:=.t1,old:=old,nw:=newOf old aw sv,aw:=aw,sv:=sv,it:=it }) Z (if_pos h9) ?_;refine au 4 ?_;refine TK.sTime (fun _=>.w { pc:=.s1,old:=old,nw:=newOf old aw sv,aw:=aw,sv:=sv,it:=it }) rfl rfl rfl (fun s t _=>mx0 (.t1 rfl)) (fun _=>rfl) (fun _=>rfl) (fun _ h=>by cases h) fun t k6 hk6=>?_;refine au 35 ?_;refine TK.maskL [0,2,3,8] ?_;exact hsh _ _ oQ trivial
        have h9:¬ wst=0:=by simpa using hc9
        refine TK.castT (T':=.w { pc:=.s1,old:=old,nw:=newOf old aw sv,aw:=aw,sv:=sv,it:=it }) Z (if_neg h9) ?_;refine au 120 ?_;refine TK.maskL [0,2,3,8] ?_;exact hsh _ _ oQ trivial
       ·intro k6 wst2 hk6 _;refine au 142 ?_;refine TK.a Z (yk Z Z) ?_;refine TK.a Z (z8 Z Z zl.h dQ) ?_;refine au 1 ?_;refine TK.sSem (if sv=true then .w { pc:=.r2,old:=old,nw:=newOf old aw sv,aw:=aw,sv:=sv,it:=it } else .w { pc:=.t2,old:=old,nw:=newOf old aw sv,aw:=aw,sv:=sv,it:=it }) Z Z Z Z (fun c hc=>by simp at hc; subst hc; rfl) rfl (fun s _ hz=>?_) ⟨rfl,by split <;> rfl⟩ (by split <;> rfl) (by split <;> exact fun h=>by cases h) fun k7 hk7=>?_
        ·split
         ·rename_i h; exact mxS (.s1s rfl hz h)
         ·exact mxS (.s1 rfl hz)
        refine au 23 ?_;refine TK.shareS (ι:=Bool) (fun b=>.w { pc:=.r2,old:=old,nw:=newOf old aw sv,aw:=aw,sv:=b,it:=it }) (fun _=>rfl) (fun _=>True) (fun b=>[.v (.pointer (some ⟨y.Mu,0,none⟩)),.any,.v (.int .i64 wst2),.v (.bool b),.any,.any,.any,.any,.any,.any,.any,.any,.any,.any,.any,.any,.any,.any,.any,.any,.any,.any,.any,.any,.any,.any,.any,.any,.any,.any,.any,.any,.any,.any,.any,.any,.any,.any,.any,.any,.any,.any,.any,.any,.any,.any,.any,.any,.any,.any,.any,.any,.any,.any,.any,.any,.any,.any,.any,.any,.any,.any,.any,.any,.any,.any,.any,.any,.any,.any,.any,.any,.any,.any,.any,.any,.any,.any,.any,.any,.any,.any,.any,.any,.any,.any,.any,.any,.any,.any,.any,.any,.any,.any,.any,.any,.any,.any,.any,.any,.any,.any,.any,.any,.any,.any,.any,.any,.any,.any,.any,.any,.any,.any,.any,.any,.any,.any,.any,.any,.any,.any,.any,.any,.any,.any,.any,.any,.any,.any,.any,.any,.any,.any,.any,.any,.any,.any,.any]) [(lo.1,AObj.gone)] (fun hsh=>?_) ?_
        ·skip;refine au 114 ?_;refine TK.sp 95 (fun g28_2=>?_) (fun g28_2=>?_)
         ·refine TK.castT (T':=.w { pc:=.r2,old:=old,nw:=newOf old aw sv,aw:=aw,sv:=true,it:=it }) Z ?_ ?_
          ·rw [if_pos g28_2,g28_2]
          refine au 352608888 ?_;refine TK.maskL [0,2,3] ?_;exact hsh _ true oQ trivial
         refine TK.castT (T':=.w { pc:=.t2,old:=old,nw:=newOf old aw sv,aw:=aw,sv:=sv,it:=it }) Z (if_neg (by rw [g28_2]; decide)) ?_;refine TK.sTime (fun t=>.w { pc:=.r2,old:=old,nw:=newOf old aw sv,aw:=aw,sv:=decide (IntKind.i64.wrap (t - wst2)>1000000),it:=it }) rfl rfl rfl (fun s t _=>mx0 (.t2 _ rfl)) (fun _=>rfl) (fun _=>rfl) (fun _ h=>by cases h) fun t k9 hk9=>?_;refine au 1 ?_;refine TK.a Z (vt Z Z Z (.inr ⟨rfl,rfl⟩)) ?_;refine au 352507 ?_;refine TK.maskL [0,2,3] ?_;exact hsh _ _ oQ trivial
        ·intro k8 sv2 hk8 _;refine au 142 ?_;refine TK.a Z (yk Z Z) ?_;refine TK.a Z (z8 Z Z zl.h dQ) ?_;refine TK.sLoad (fun v=>if Mx.st v=0 then .w (Mx.hd { pc:=.r2,old:=v,nw:=newOf old aw sv,aw:=true,sv:=sv2,it:=0 }) else .w { pc:=.a1,old:=old,nw:=if sv2=false\/Mx.wt v=1 then 1 else 0,aw:=aw,sv:=sv2,it:=it }) rfl rfl rfl rfl (ld21 Z) nr212 (fun s hok=>?_) (fun v=>by split; exact hd_dl _; rfl) (fun v=>by split; exact kV _; rfl) (fun v=>by split; exact hd_kd _; exact fun h=>by cases h) fun s hok k9 hk9=>?_
         ·split
          ·rename_i h; exact mx0 (.r2n rfl h)
          ·rename_i h; exact mx0 (.r2s rfl (by have h0:¬ s.mu / 4 % 2=0:=h; show s.mu / 4 % 2=1; omega))
         refine au 0 ?_;obtain ⟨v,hv⟩:∃ v,v=s.mu:=⟨_,rfl⟩;have hv1:v<256:=hv ▸ hok.1;have hv2:(Mx.st v=1->Mx.lk v=0/\Mx.wk v=0/\1<=Mx.wt v)/\(Mx.st v=0->Mx.wk v=1):=hv ▸ hok.2.2.2.2.2.2;rw [<- hv];clear hok hv s;refine au 142235 ?_;refine TK.a Z (yD Z Z Z (.inl Z) (bA4 v oQ)) ?_;refine au 937 ?_;constructor<;>intro hc10
         ·have h10:Mx.st v=1:=by simp at hc10; dsimp only [Mx.st,Mx.lk,Mx.wk,Mx.wt] at *; omega
          obtain ⟨h11,h12,h13⟩:=hv2.1 h10;refine TK.castT (T':=.w { pc:=.a1,old:=old,nw:=if sv2=false\/Mx.wt v=1 then 1 else 0,aw:=aw,sv:=sv2,it:=it }) Z (if_neg oQ) ?_;refine au 1422 ?_;refine TK.a Z (yD Z Z Z (.inl Z) (bA3 v oQ)) ?_;refine au 17 ?_;refine TK.sp 111 (fun g31_4=>?_) (fun g31_4=>?_)
          ·exfalso;simp at g31_4;dsimp only [Mx.st,Mx.lk,Mx.wk,Mx.wt] at *
           omega
          refine au 1 ?_;refine TK.a Z (q_sh Z Z Z dQ (r:=((v / 8:Nat):Int)) (by show ((v:Nat):Int) / 8=((v / 8:Nat):Int); omega)) ?_;refine au 932507 ?_;constructor<;>intro hc11
          ·exfalso;simp at hc11;dsimp only [Mx.st,Mx.lk,Mx.wk,Mx.wt] at *
           omega
          refine au 130014223542120 ?_;refine TK.sp 119 (fun g34_3=>?_) (fun g34_3=>?_)
          ·have h34:sv2=false:=by simpa using g34_3
           refine TK.castT (T':=.w { pc:=.a1,old:=old,nw:=1,aw:=aw,sv:=sv2,it:=it }) Z (by rw [if_pos (.inl h34)]) ?_;refine au 141803260888 ?_;refine TK.a Z (vt Z Z Z (r := -11) (.inr ⟨rfl,by decide⟩)) ?_;refine au 14235 ?_;refine TK.a Z (yk Z Z) ?_;refine TK.a Z (z8 Z Z zl.h dQ) ?_;refine au 1 ?_;refine TK.sAdd (-11) (fun v=>v+1 - 8 - 4*1) (fun _=>.w { pc:=.le }) rfl rfl rfl rfl rfl (fun s hok=>by obtain ⟨q1,_,_,_,_,_,q2,q3,q4,q5,q6⟩:=hok; dsimp only [Mx.st,Mx.lk,Mx.wk,Mx.wt] at *; rw [w32 oQ]; omega) (fun s _=>mxM (.a1 rfl)) ⟨mS,fun _=>rfl⟩ (fun _=>rfl) (fun _ h=>by cases h) fun s _ k7 hk7=>?_;refine au 421801603 ?_;refine TK.sMark (.w { pc:=.la }) .enable sQ Z Z Z (fun s _=>mx0 (.le rfl)) (kL 0) rfl (fun k8 hk8=>?_);refine au 143 ?_;refine TK.sConv Z Z Z uP256 uP219 z192 (fun w s h=>⟨_,h.1.cellSt⟩) ?_;refine au 0 ?_;refine TK.acqL Z Z Z Z Z hl1 hl2 hGI fun k9 x5 K5 hk9 hx5 hp5=>?_;refine au 3 ?_;refine TK.rt0a (hret (hT':=y.shutF _ _ _ _ _ _)) ?_ res_0;exact ⟨rfl,_,_,oQ,hx5,hp5,rfl⟩
          refine au 1 ?_;refine TK.a Z (q_sh Z Z Z dQ (r:=((v / 8:Nat):Int)) (by show ((v:Nat):Int) / 8=((v / 8:Nat):Int); omega)) ?_;refine au 932507 ?_;constructor<;>intro hc12
          ·have h35:Mx.wt v=1:=by simp at hc12; dsimp only [Mx.st,Mx.lk,Mx.wk,Mx.wt] at *; omega
           refine TK.castT (T':=.w { pc:=.a1,old:=old,nw:=1,aw:=aw,sv:=sv2,it:=it }) Z (by rw [if_pos (.inr h35)]) ?_;refine au 14 ?_;refine TK.a Z (vt Z Z Z (r := -11) (.inr ⟨rfl,by decide⟩)) ?_;refine au 14235 ?_;refine TK.a Z (yk Z Z) ?_;refine TK.a Z (z8 Z Z zl.h dQ) ?_;refine au 1 ?_;refine TK.sAdd (-11) (fun v=>v+1 - 8 - 4*1) (fun _=>.w { pc:=.le }) rfl rfl rfl rfl rfl (fun s hok=>by obtain ⟨q1,_,_,_,_,_,q2,q3,q4,q5,q6⟩:=hok; dsimp only [Mx.st,Mx.lk,Mx.wk,Mx.wt] at *; rw [w32 oQ]; omega) (fun s _=>mxM (.a1 rfl)) ⟨mS,fun _=>rfl⟩ (fun _=>rfl) (fun _ h=>by cases h) fun s _ k7 hk7=>?_;refine au 421801603 ?_;refine TK.sMark (.w { pc:=.la }) .enable sQ Z Z Z (fun s _=>mx0 (.le rfl)) (kL 0) rfl (fun k8 hk8=>?_);refine au 143 ?_;refine TK.sConv Z Z Z uP256 uP219 z192 (fun w s h=>⟨_,h.1.cellSt⟩) ?_;refine au 0 ?_;refine TK.acqL Z Z Z Z Z hl1 hl2 hGI fun k9 x5 K5 hk9 hx5 hp5=>?_;refine au 3 ?_;refine TK.rt0a (hret (hT':=y.shutF _ _ _ _ _ _)) ?_ res_0;exact ⟨rfl,_,_,oQ,hx5,hp5,rfl⟩
          have h35:¬ Mx.wt v=1:=by simp at hc12; dsimp only [Mx.st,Mx.lk,Mx.wk,Mx.wt] at *; omega
          have h34:¬ sv2=false:=by simpa using g34_3
          refine TK.castT (T':=.w { pc:=.a1,old:=old,nw:=0,aw:=aw,sv:=sv2,it:=it }) Z (by rw [if_neg (by rintro (h | h); exact h34 h; exact h35 h)]) ?_;refine au 142120 ?_;refine TK.a Z (yk Z Z) ?_;refine TK.a Z (z8 Z Z zl.h dQ) ?_;refine au 1 ?_;refine TK.sAdd (-7) (fun v=>v+1 - 8 - 4*0) (fun _=>.w { pc:=.le }) rfl rfl rfl rfl rfl (fun s hok=>by obtain ⟨q1,_,_,_,_,_,q2,q3,q4,q5,q6⟩:=hok; dsimp only [Mx.st,Mx.lk,Mx.wk,Mx.wt] at *; rw [w32 oQ]; omega) (fun s _=>mxM (.a1 rfl)) ⟨mS,fun _=>rfl⟩ (fun _=>rfl) (fun _ h=>by cases h) fun s _ k7 hk7=>?_;refine au 421801603 ?_;refine TK.sMark (.w { pc:=.la }) .enable sQ Z Z Z (fun s _=>mx0 (.le rfl)) (kL 0) rfl (fun k8 hk8=>?_);refine au 143 ?_;refine TK.sConv Z Z Z uP256 uP219 z192 (fun w s h=>⟨_,h.1.cellSt⟩) ?_;refine au 0 ?_;refine TK.acqL Z Z Z Z Z hl1 hl2 hGI fun k9 x5 K5 hk9 hx5 hp5=>?_;refine au 3 ?_;refine TK.rt0a (hret (hT':=y.shutF _ _ _ _ _ _)) ?_ res_0;exact ⟨rfl,_,_,oQ,hx5,hp5,rfl⟩
         have h10:Mx.st v=0:=by simp at hc10; dsimp only [Mx.st,Mx.lk,Mx.wk,Mx.wt] at *; omega
         refine TK.castT (T':=.w (Mx.hd { pc:=.r2,old:=v,nw:=newOf old aw sv,aw:=true,sv:=sv2,it:=0 })) (kV _) (if_pos h10) ?_;refine au 1403543542120 ?_;refine TK.maskL [0,2,3,4,5,6] ?_;exact ih _ ({ pc:=.r2,old:=v,nw:=newOf old aw sv,aw:=true,sv:=sv2,it:=0 },wst2) _ _ oQ ⟨hv1,(fun _=>hv2.2 h10),(fun _=>rfl),by show 0<=4; omega,rfl,rfl⟩
      ·refine au 141903 ?_;refine TK.a Z (yk Z Z) ?_;refine TK.a Z (z8 Z Z zl.h dQ) ?_;refine TK.sLoad (fun v=>.w (Mx.hd { pc:=.r3,old:=v,nw:=newOf old aw sv,aw:=aw,sv:=sv,it:=it })) rfl rfl rfl rfl (ld21 Z) nr212 (fun s _=>mx0 (.r3 rfl)) (fun v=>hd_dl _) (fun v=>kV _) (fun v=>hd_kd _) fun s hok k9 hk9=>?_;refine au 14035 ?_;refine TK.maskL [0,2,3,4,5,6] ?_;exact ih _ ({ pc:=.r3,old:=s.mu,nw:=newOf old aw sv,aw:=aw,sv:=sv,it:=it },wst) _ _ oQ ⟨hok.1,hok.2.2.2.2.2.2,hsv,hit,rfl,rfl⟩
      ·split
       ·rename_i h; exact mxM (.c2t rfl e h.1 h.2)
       ·rename_i h;have h2:Mx.lk old=1\/Mx.st old=1:=by dsimp only [Mx.st,Mx.lk,Mx.wk,Mx.wt] at *; omega
        split
        ·exact mxM (.c2r .t1 (.inl rfl) rfl e h2)
        ·exact mxM (.c2r .s1 (.inr rfl) rfl e h2)
theorem zf6 {gm:Nat->Option Nat} {main:Bool} {Ch:Nat->Goroutine->Hp->Prop} (y:Sy tp) {lo:Nat×Loc3} {PL:(Nat->Bool)->KV->Prop} {k i:Nat} {x:Nat->Bool} (hGI:GIn y lo i PL) :
  CallS tp gm lo (y.Sf main Ch k i (.w { pc:=.ld }) x) 178 [.v (.pointer (some ⟨y.Mu,0,none⟩))] [(lo.1,.gone)] (LockR y main Ch k i PL):=by
 refine kZ 13 (y.shutF _ _ _ _ _ _) Tryz.func178 fun φ0 c0 cs A0 hl1 hl2 hret=>?_;refine au 42 ?_;refine TK.sMark (.w { pc:=.l0 }) .disable sQ Z Z Z (fun s _=>mx0 (.ld rfl)) (vP 0) rfl (fun k1 hk1=>?_);refine au 14223 ?_;refine TK.a Z (yk Z Z) ?_;refine TK.a Z (z8 Z Z zl.h dQ) ?_;refine TK.sCas (.w { pc:=.le }) (.w { pc:=.r0 }) 0 1 Z Z Z Z Z Z (fun s _ e=>mxM (.l0h rfl e)) (fun s _ e=>mx0 (.l0m rfl e)) ⟨mS,rfl,rfl⟩ rfl rfl (fun h=>by cases h) (fun h=>by cases h) (fun k2 hk2=>?_) (fun k2 hk2=>?_)
 ·refine au 4218021803 ?_;refine TK.sMark (.w { pc:=.la }) .enable sQ Z Z Z (fun s _=>mx0 (.le rfl)) (kL 0) rfl (fun k8 hk8=>?_);refine au 143 ?_;refine TK.sConv Z Z Z uP256 uP219 z192 (fun w s h=>⟨_,h.1.cellSt⟩) ?_;refine au 0 ?_;refine TK.acqL Z Z Z Z Z hl1 hl2 hGI fun k9 x5 K5 hk9 hx5 hp5=>?_;refine au 3 ?_;refine TK.rta (hret (hT':=y.shutF _ _ _ _ _ _)) ?_ res_0;exact ⟨rfl,_,_,oQ,hx5,hp5,rfl⟩
 ·refine au 141201903 ?_;refine TK.callS Z Z Z Z (zdq y hGI) hl1 hl2 ?_;rintro r2 K2 T2 ⟨rfl,k2,x2,hk2,hx2,hp2,rfl⟩;refine ⟨y.shutF _ _ _ _ _ _,?_⟩;rw [lR];refine au 3 ?_;refine TK.rt0a (hret (hT':=y.shutF _ _ _ _ _ _)) ?_ res_0;exact ⟨rfl,_,_,oQ,hx2,hp2,rfl⟩
theorem zhb {gm:Nat->Option Nat} {main:Bool} {Ch:Nat->Goroutine->Hp->Prop} (y:Sy tp) {lo:Nat×Loc3} {PL:(Nat->Bool)->KV->Prop} {k i:Nat} {x:Nat->Bool} (hGI:GIn y lo i PL) :
  CallS tp gm lo (y.Sf main Ch k i (.w { pc:=.ld }) x) 152 [.v (.pointer (some ⟨y.Mu,0,none⟩))] [(lo.1,.gone)] (LockR y main Ch k i PL):=by
 refine kZ 6 (y.shutF _ _ _ _ _ _) Tryz.func152 fun φ0 c0 cs A0 hl1 hl2 hret=>?_;refine au 14 ?_;refine TK.a Z (yk Z Z) ?_;refine TK.a Z (z8 Z Z zl.h dQ) ?_;refine TK.callS Z Z Z Z (zf6 y hGI) hl1 hl2 ?_;rintro r2 K2 T2 ⟨rfl,k2,x2,hk2,hx2,hp2,rfl⟩;refine ⟨y.shutF _ _ _ _ _ _,?_⟩;rw [lR];refine au 3 ?_;refine TK.rt0a (hret (hT':=y.shutF _ _ _ _ _ _)) ?_ res_0;exact ⟨rfl,_,_,oQ,hx2,hp2,rfl⟩
theorem zb3 {main:Bool} {Ch:Nat->Goroutine->Hp->Prop} (y:Sy tp) {k i v:Nat} {x:Nat->Bool} (hv:v<256) (hl:Mx.lk v=1) :
  CallZ tp (y.Sf main Ch k i (if Mx.st v=1 then .w { pc:=.us } else .w (Mx.hdU (v - 1))) x) 214 [.pointer (some ⟨y.Mu,0,none⟩),.int .i32 ((v - 1:Nat):Int)] (fun T'=>∃ k',k'<=k/\T'=y.Sf main Ch k' i (.w { pc:=.ue }) x):=by
 refine zcg 43 (y.shutF _ _ _ _ _ _) Tryz.func214 fun φ0 c0 cs hret=>?_;refine TK.nrm (env':=[.v (.pointer (some ⟨y.Mu,0,none⟩)),.v (.int .i32 ((v - 1:Nat):Int)),.any,.any,.any,.any,.any,.any,.any,.any,.any,.any,.any,.any,.any,.any,.any,.any,.any,.any,.any,.any,.any,.any,.any,.any,.any,.any,.any,.any,.any,.any,.any,.any,.any,.any,.any,.any,.any,.any,.any,.any,.any]) ?_ Z rfl;refine au 1422 ?_;refine TK.a Z (vt Z Z Z (r:=((v:Nat):Int)) (.inl ⟨rfl,by rw [w32 oQ]; dsimp only [Mx.st,Mx.lk,Mx.wk,Mx.wt] at *; omega⟩)) ?_;refine TK.a Z (yD Z Z Z (.inl Z) (bA1 v oQ)) ?_;refine au 937 ?_;constructor<;>intro hc0
 ·exfalso;simp at hc0;dsimp only [Mx.st,Mx.lk,Mx.wk,Mx.wt] at *
  omega
 refine au 142120 ?_;refine TK.a Z (yD Z Z Z (.inl Z) (bA4 (v - 1) oQ)) ?_;refine au 937 ?_;constructor<;>intro hc1
 ·have h1:¬ Mx.st v=1:=by simp at hc1; dsimp only [Mx.st,Mx.lk,Mx.wk,Mx.wt] at *; omega
  refine TK.castT (T':=.w (Mx.hdU (v - 1))) (vR _) (if_neg h1) ?_;refine au 13035142 ?_;refine TK.maskL [0,4] ?_;refine TK.loopS (ι:=Nat) (fun b=>.w (Mx.hdU b)) (fun b=>vR b) (fun (b:Nat) env K=>b<256/\K=[]/\env=[.v (.pointer (some ⟨y.Mu,0,none⟩)),.any,.any,.any,.v (.int .i32 ((b:Nat):Int)),.any,.any,.any,.any,.any,.any,.any,.any,.any,.any,.any,.any,.any,.any,.any,.any,.any,.any,.any,.any,.any,.any,.any,.any,.any,.any,.any,.any,.any,.any,.any,.any,.any,.any,.any,.any,.any,.any]) (v - 1) ⟨by omega,rfl,rfl⟩ rfl ?_;rintro k2 hk2 old env K ⟨hold,rfl,rfl⟩ ih;refine au 1422130 ?_;refine TK.a Z (q_sh Z Z Z dQ (r:=((old / 8:Nat):Int)) (by show ((old:Nat):Int) / 8=((old / 8:Nat):Int); omega)) ?_;refine au 17 ?_;refine TK.sp 17 (fun g4_4=>?_) (fun g4_4=>?_)
  ·have h2:Mx.wt old=0\/old % 8≠0:=by left; simp at g4_4; dsimp only [Mx.st,Mx.lk,Mx.wk,Mx.wt] at *; omega
   refine TK.castT (T':=.w { pc:=.ue }) Z (congrArg TT.w (if_pos h2)) ?_;refine au 1803260888 ?_;refine TK.retZ Tryz.func214 (fun v H'=>hret _ v H' ⟨_,oQ,rfl⟩) res_0;skip
  refine au 1 ?_;refine TK.a Z (yD Z Z Z (.inl Z) (bA7 old oQ)) ?_;refine au 932507 ?_;constructor<;>intro hc2
  ·have h2:Mx.wt old=0\/old % 8≠0:=by right; simp at hc2; omega
   refine TK.castT (T':=.w { pc:=.ue }) Z (congrArg TT.w (if_pos h2)) ?_;refine au 0 ?_;refine TK.retZ Tryz.func214 (fun v H'=>hret _ v H' ⟨_,oQ,rfl⟩) res_0;skip
  have h2:¬ (Mx.wt old=0\/old % 8≠0):=by simp at g4_4 hc2; dsimp only [Mx.st,Mx.lk,Mx.wk,Mx.wt] at *; omega
  refine TK.castT (T':=.w { pc:=.uc,old:=old,nw:=old - 8+2 }) Z (congrArg TT.w (if_neg h2)) ?_;refine au 142120 ?_;refine TK.a Z (vt Z Z Z (r:=((old - 8:Nat):Int)) (.inr ⟨rfl,by rw [w32 oQ]; dsimp only [Mx.st,Mx.lk,Mx.wk,Mx.wt] at *; omega⟩)) ?_;refine TK.a Z (yD Z Z Z (.inr (.inl Z)) (bO2 (old - 8) oQ)) ?_;refine au 142235 ?_;refine TK.a Z (yk Z Z) ?_;refine TK.a Z (z8 Z Z zl.h dQ) ?_;refine au 11 ?_;have hnew:old - 8 - 2*((old - 8) / 2 % 2)+2=old - 8+2:=by dsimp only [Mx.st,Mx.lk,Mx.wk,Mx.wt] at *; omega
  refine TK.sCas (.w { pc:=.us }) (.w { pc:=.ux }) old (old - 8 - 2*((old - 8) / 2 % 2)+2) Z Z Z Z Z Z (fun s _ e=>by rw [hnew]; exact mxM (.uch rfl e)) (fun s _ e=>mx0 (.ucm rfl e)) ⟨mS,rfl,rfl⟩ rfl rfl (fun h=>by cases h) (fun h=>by cases h) (fun k4 hk4=>?_) (fun k4 hk4=>?_)
  ·refine au 1421803 ?_;refine TK.a Z (yk Z Z) ?_;refine TK.a Z (z8 Z Z zl.h dQ) ?_;refine TK.sRel (.w { pc:=.ue }) Z Z Z Z Z (fun c hc=>by simp at hc; subst hc; rfl) rfl (fun s _=>mxS (.us rfl)) ⟨rfl,rfl⟩ rfl (fun h=>by cases h) (fun k5 hk5=>?_);refine au 3 ?_;refine TK.retZ Tryz.func214 (fun v H'=>hret _ v H' ⟨_,oQ,rfl⟩) res_0;skip
  ·refine au 141201903 ?_;refine TK.a Z (yk Z Z) ?_;refine TK.a Z (z8 Z Z zl.h dQ) ?_;refine TK.sLoad (fun v=>.w (Mx.hdU v)) rfl rfl rfl rfl (ld21 Z) nr214 (fun s _=>mx0 (.ux rfl)) (fun v=>zeU _) (fun v=>vR _) (fun v=>zeV _) fun s hok k5 hk5=>?_;refine au 14035 ?_;refine TK.maskL [0,4] ?_;exact ih _ s.mu _ _ oQ ⟨hok.1,rfl,rfl⟩
 have h1:Mx.st v=1:=by simp at hc1; dsimp only [Mx.st,Mx.lk,Mx.wk,Mx.wt] at *; omega
 refine TK.castT (T':=.w { pc:=.us }) Z (if_pos h1) ?_;refine au 14 ?_;refine TK.a Z (yk Z Z) ?_;refine TK.a Z (z8 Z Z zl.h dQ) ?_;refine TK.sRel (.w { pc:=.ue }) Z Z Z Z Z (fun c hc=>by simp at hc; subst hc; rfl) rfl (fun s _=>mxS (.us rfl)) ⟨rfl,rfl⟩ rfl (fun h=>by cases h) (fun k5 hk5=>?_);refine au 3 ?_;refine TK.retZ0 Tryz.func214 (fun v H'=>hret _ v H' ⟨_,oQ,rfl⟩) res_0;skip
theorem zeB {gm:Nat->Option Nat} {main:Bool} {Ch:Nat->Goroutine->Hp->Prop} (y:Sy tp) {lo:Nat×Loc3} {K0:KV} {k i:Nat} {x:Nat->Bool} (hgive:∀ A φ H,lo.1<A.length->φ lo.1=lo.2->zM K0 A->(keys K0).Nodup->RelH φ A nF H->∃ L',L'.Sub H/\y.GI (upd x i true) L') :
  CallE tp gm lo (y.Sf main Ch k i (.w { pc:=.ur }) x) 179 [.v (.pointer (some ⟨y.Mu,0,none⟩))] K0 (fun T'=>∃ k',k'<=k/\T'=y.Sf main Ch k' i (.w { pc:=.wr }) x):=by
 refine zcc 21 (y.shutF _ _ _ _ _ _) Tryz.func179 fun φ0 c0 cs A0 hl1 hl2 hret=>?_;refine au 1421802 ?_;refine TK.a Z (yk Z Z) ?_;refine TK.a Z (z8 Z Z zl.h dQ) ?_;refine TK.sPeek Z Z Z (ld21 Z) nr179 (fun v0=>?_);refine au 1423 ?_;refine TK.sConv Z Z Z uP256 uP219 z192 (fun w s h=>⟨_,h.1.cellSt⟩) ?_;refine au 0 ?_;refine TK.relL Z Z Z Z Z hl1 hl2 hgive (fun k1 hk1=>?_);refine au 43 ?_;refine TK.sMark (.w { pc:=.u0 }) .disable sQ Z Z Z (fun s _=>mx0 (.ud rfl)) (vP 0) rfl (fun k2 hk2=>?_);refine au 1423 ?_;refine TK.a Z (yk Z Z) ?_;refine TK.a Z (z8 Z Z zl.h dQ) ?_;refine TK.sAdd (-1) (fun v=>v - 1) (fun v=>if v=1 then .w { pc:=.ue } else (if Mx.st v=1 then .w { pc:=.us } else .w (Mx.hdU (v - 1)))) rfl rfl rfl rfl rfl (fun s hok=>by obtain ⟨q1,_,_,_,_,_,q2⟩:=hok; dsimp only [Mx.st,Mx.lk,Mx.wk,Mx.wt] at *; rw [w32 oQ]; omega) (fun s _=>?_) ⟨mS,fun v=>by split; rfl; split; rfl; exact zeU _⟩ (fun v=>by split; rfl; split; rfl; exact vR _) (fun v=>by split; (exact fun h=>(by cases h)); split; (exact fun h=>(by cases h)); exact zeV _) fun s hok k3 hk3=>?_
 ·split
  ·rename_i h; rw [h]; exact mxM (.u0z rfl h)
  ·rename_i h; split
   ·rename_i h2; exact mxM (.u0s rfl h h2)
   ·rename_i h2; exact mxM (.u0n rfl h (by have h0:¬ s.mu / 4 % 2=1:=h2; show s.mu / 4 % 2=0; omega))
 refine au 0 ?_;obtain ⟨v,hv⟩:∃ v,v=s.mu:=⟨_,rfl⟩;have hv1:v<256:=hv ▸ hok.1;have hv2:Mx.lk v=1:=hv ▸ hok.2.2.2.2.2.2;rw [<- hv];clear hok hv s;refine au 937142235 ?_;constructor<;>intro hc1
 ·have h1:¬ v=1:=by simp at hc1; omega
  refine TK.castT (T':=(if Mx.st v=1 then .w { pc:=.us } else .w (Mx.hdU (v - 1)))) (by split; rfl; exact vR _) (if_neg h1) ?_;refine au 114 ?_;refine TK.callZ (vs:=[.pointer (some ⟨y.Mu,0,none⟩),.int .i32 ((v - 1:Nat):Int)]) Z Z Z Z (zb3 y hv1 hv2) ?_;rintro T4 r4 ⟨k4,hk4,rfl⟩;refine ⟨y.shutF _ _ _ _ _ _,?_⟩;refine au 43 ?_;refine TK.sMark (.w { pc:=.wr }) .enable sQ Z Z Z (fun s _=>mx0 (.ue rfl)) (kL 0) rfl (fun k8 hk8=>?_);refine au 3 ?_;refine TK.retZ0 Tryz.func179 (fun v H'=>hret _ v H' ⟨_,oQ,rfl⟩) res_0;skip
 have h1:v=1:=by simp at hc1; dsimp only [Mx.st,Mx.lk,Mx.wk,Mx.wt] at *; omega
 refine TK.castT (T':=.w { pc:=.ue }) Z (if_pos h1) ?_;refine au 4120 ?_;refine TK.sMark (.w { pc:=.wr }) .enable sQ Z Z Z (fun s _=>mx0 (.ue rfl)) (kL 0) rfl (fun k8 hk8=>?_);refine au 3 ?_;refine TK.retZ0 Tryz.func179 (fun v H'=>hret _ v H' ⟨_,oQ,rfl⟩) res_0;skip
theorem uY {gm:Nat->Option Nat} {main:Bool} {Ch:Nat->Goroutine->Hp->Prop} (y:Sy tp) {lo:Nat×Loc3} {K0:KV} {k i:Nat} {x:Nat->Bool} (hgive:∀ A φ H,lo.1<A.length->φ lo.1=lo.2->zM K0 A->(keys K0).Nodup->RelH φ A nF H->∃ L',L'.Sub H/\y.GI (upd x i true) L') :
  CallE tp gm lo (y.Sf main Ch k i (.w { pc:=.ur }) x) 154 [.v (.pointer (some ⟨y.Mu,0,none⟩))] K0 (fun T'=>∃ k',k'<=k/\T'=y.Sf main Ch k' i (.w { pc:=.wr }) x):=by
 refine zcc 6 (y.shutF _ _ _ _ _ _) Tryz.func154 fun φ0 c0 cs A0 hl1 hl2 hret=>?_;refine au 14 ?_;refine TK.a Z (yk Z Z) ?_;refine TK.a Z (z8 Z Z zl.h dQ) ?_;refine TK.callE Z Z Z Z (zeB y hgive) hl1 hl2 ?_;rintro T4 r4 ⟨k4,hk4,rfl⟩;refine ⟨y.shutF _ _ _ _ _ _,?_⟩;refine au 3 ?_;refine TK.retZ0 Tryz.func154 (fun v H'=>hret _ v H' ⟨_,oQ,rfl⟩) res_0;skip
end Go.Vel
namespace Go.Vel
open Go Go.Conc
open Go.ConcN (sumTo upd upd_ne upd_same)
open Go.ConcM (OsLater MuAt muA msA)
open Go.ConcR (KK wgBlock WgAt stA smA mk rd wr)
open Mx (TT Th Mn S4 auto Mv4 ok4 bl4 kd dl MPc Pc okW okM Mv nx4)
section
variable {P:Program} {gm:Nat->Option Nat} {y:Sy P} {main:Bool} {Ch:Nat->Goroutine->Hp->Prop} {k i:Nat} {T:TT} {x:Nat->Bool}
variable {φ0:Nat->Loc3} {kdf:CallKind} {hkd:kdf≠.early} {f:FuncId} {cs:List Frame} {de:List Deferred} {A0:List AObj} {K0:List Nat} {ds:List Nat} {kk:List Item} {env env':List AV} {K:KV} {ops:Array Oper} {q:Nat} {rest:List Nat} {o:Oper}
def gval (s:S4):Int:=(s.v:Int)*KK+s.wt
theorem vT {t:TypeId} {M:Nat} {w:World} {a b:Int} (h:MuAt t M w a b) {l:Addr} (hne:l.block≠M) (v:Value):MuAt t M (w.setCell l v) a b:=by
 unfold MuAt at *
 simp only [World.setCell];rw [Array.getElem?_modify,if_neg hne];exact h
theorem wg_ne (l:Addr) (h:l.block=y.Wg):l.block≠y.Mu:=fun e=>y.hne (e.symm.trans h)
theorem TK.gAdd {g:FuncId} {ca cb:Operand} {ats:Array TypeId} {e:Array Value->Sem Value} (d:Int) (new:S4->S4) (Tn:S4->TT) [hx:Ext P g e] (ho:ops[q]? =some o) (hop:o.op=.call { callee:=.value (.func g),args:=#[ca,cb],argTypes:=ats }) (hw:zK ops env o=some true)
  (h1:zn gm env ca=some (.v (.pointer (some (stA y.Wg))))) (h2:zn gm env cb=some (.v (.int .u64 d)))
  (hnew:∀ s,ok4 T s->IntKind.u64.wrap (gval s+d)=gval (new s)/\(new s).mu=s.mu/\(new s).ms=s.ms/\(new s).ws=s.ws) (hmv:∀ s,ok4 T s->Mv4 y.n T s (Tn s) (new s)) (hdl:0<dl T/\∀ s,dl (Tn s)=dl T) (hT':∀ s,y.A.aft (Tn s)=false) (hk':∀ s,kd (Tn s)≠.quit)
  (h:∀ (s:S4),ok4 T s->∀ k',k'<k->TK ((YT y main Ch) k' i (Tn s) x gm φ0 kdf hkd f cs de A0 K0) ds (.inRegion ops rest::kk) (zO env o.dst (.v (.int .u64 (gval (new s))))) K)
  (he:e=Extern.Atomic.update (Op.intArith .add) .u64 true:=by rfl) (hk:kd T=.book:=by rfl) (hb:∀ s,¬ bl4 T s:=by exact fun _ h=>by cases h.1) (hwk:¬ y.A.wk T:=by exact fun h=>by cases h <;> rename_i h <;> cases h) :
  TK ((YT y main Ch) k i T x gm φ0 kdf hkd f cs de A0 K0) ds (.inRegion ops (q::rest)::kk) env K:=by
 refine TK.book (o:=o) hk (fun h=>absurd h hwk) fun w s ts dd φ n hg hE hsh hok=>.inr ⟨hb s,?_⟩;obtain ⟨fn,e1,e2,e3,e4,e5⟩:=hx.h;subst he;obtain ⟨hn1,hn2,hn3,hn4⟩:=hnew s hok;refine ⟨Tn s,new s,.int .u64 (gval (new s)),_,_,hmv s hok,?_,kv (a:=stA y.Wg) (.inr Z) (.int .u64 (gval (new s))),⟨?_,?_⟩,by rw [hdl.2]; exact vQ hdl.1 (a:=stA y.Wg) (.inr Z),hk' _,hT' _,fun k' hk''=>h s hok k' hk''⟩
 ·rw [fr_at,stepG_add_atomic (b:=bf kdf f) (a:=⟨ts,dd⟩) ho (zJ (ts:=ts) hE hw) hkd hop e1 e2 e3 e4 .u64 e5 (ad:=stA y.Wg) (v:=gval s) (d:=d) (ev_v hg hE h1) (ev_v hg hE h2) hsh.2.cellSt (hsh.2.thaw 0),yd,hn1]; rfl
 ·rw [hn2,hn3]; exact vT hsh.1 (wg_ne (stA y.Wg) rfl) _
 ·rw [hn4]; exact hsh.2.setSt _
theorem TK.gLoad {g:FuncId} {ca:Operand} {ats:Array TypeId} {e:Array Value->Sem Value} (Tn:S4->TT) [hx:Ext P g e] (ho:ops[q]? =some o) (hop:o.op=.call { callee:=.value (.func g),args:=#[ca],argTypes:=ats }) (hw:zK ops env o=some true)
  (h1:zn gm env ca=some (.v (.pointer (some (stA y.Wg))))) (hmv:∀ s,ok4 T s->Mv4 y.n T s (Tn s) s) (hdl:0<dl T/\∀ s,dl (Tn s)=dl T) (hT':∀ s,y.A.aft (Tn s)=false) (hk':∀ s,kd (Tn s)≠.quit)
  (h:∀ (s:S4),ok4 T s->∀ k',k'<k->TK ((YT y main Ch) k' i (Tn s) x gm φ0 kdf hkd f cs de A0 K0) ds (.inRegion ops rest::kk) (zO env o.dst (.v (.int .u64 (gval s)))) K)
  (he:e=Extern.Atomic.loadT (.int .u64):=by rfl) (hk:kd T=.book:=by rfl) (hb:∀ s,¬ bl4 T s:=by exact fun _ h=>by cases h.1) (hwk:¬ y.A.wk T:=by exact fun h=>by cases h <;> rename_i h <;> cases h) :
  TK ((YT y main Ch) k i T x gm φ0 kdf hkd f cs de A0 K0) ds (.inRegion ops (q::rest)::kk) env K:=by
 refine TK.book (o:=o) hk (fun h=>absurd h hwk) fun w s ts dd φ n hg hE hsh hok=>.inr ⟨hb s,?_⟩;obtain ⟨fn,e1,e2,e3,e4,e5⟩:=hx.h;subst he;refine ⟨Tn s,s,.int .u64 (gval s),w,_,hmv s hok,?_,ki w,hsh,by rw [hdl.2]; exact evb_r hdl.1 (a:=stA y.Wg) (.inr Z),hk' _,hT' _,fun k' hk''=>h s hok k' hk''⟩;rw [fr_at,stepG_load_atomic (b:=bf kdf f) (a:=⟨ts,dd⟩) ho (zJ (ts:=ts) hE hw) hkd hop e1 e2 e3 e4 .u64 e5 (ad:=stA y.Wg) (v:=gval s) (ev_v hg hE h1) hsh.2.cellSt,yd]; rfl
theorem TK.gCas {g:FuncId} {ca cb cc:Operand} {ats:Array TypeId} {e:Array Value->Sem Value} (Th Tm:TT) (old nw:Int) (new:S4->S4) [hx:Ext P g e] (ho:ops[q]? =some o) (hop:o.op=.call { callee:=.value (.func g),args:=#[ca,cb,cc],argTypes:=ats }) (hw:zK ops env o=some true)
  (h1:zn gm env ca=some (.v (.pointer (some (stA y.Wg))))) (h2:zn gm env cb=some (.v (.int .u64 old))) (h3:zn gm env cc=some (.v (.int .u64 nw)))
  (hnew:∀ s,ok4 T s->gval s=old->gval (new s)=nw/\(new s).mu=s.mu/\(new s).ms=s.ms/\(new s).ws=s.ws) (hmh:∀ s,ok4 T s->gval s=old->Mv4 y.n T s Th (new s)) (hmm:∀ s,ok4 T s->gval s≠old->Mv4 y.n T s Tm s) (hdl:0<dl T/\dl Th=dl T/\dl Tm=dl T) (hTh:y.A.aft Th=false) (hTm:y.A.aft Tm=false) (hkh:kd Th≠.quit) (hkm:kd Tm≠.quit)
  (hh:∀ k',k'<k->TK ((YT y main Ch) k' i Th x gm φ0 kdf hkd f cs de A0 K0) ds (.inRegion ops rest::kk) (zO env o.dst (.v (.bool true))) K) (hmiss:∀ k',k'<k->TK ((YT y main Ch) k' i Tm x gm φ0 kdf hkd f cs de A0 K0) ds (.inRegion ops rest::kk) (zO env o.dst (.v (.bool false))) K)
  (he:e=Extern.Atomic.casT (.int .u64):=by rfl) (hk:kd T=.book:=by rfl) (hb:∀ s,¬ bl4 T s:=by exact fun _ h=>by cases h.1) (hwk:¬ y.A.wk T:=by exact fun h=>by cases h <;> rename_i h <;> cases h) :
  TK ((YT y main Ch) k i T x gm φ0 kdf hkd f cs de A0 K0) ds (.inRegion ops (q::rest)::kk) env K:=by
 refine TK.book (o:=o) hk (fun h=>absurd h hwk) fun w s ts dd φ n hg hE hsh hok=>.inr ⟨hb s,?_⟩;obtain ⟨fn,e1,e2,e3,e4,e5⟩:=hx.h;subst he;by_cases hc:gval s=old
 ·obtain ⟨hn1,hn2,hn3,hn4⟩:=hnew s hok hc;refine ⟨Th,new s,.bool true,_,_,hmh s hok hc,?_,kv (a:=stA y.Wg) (.inr Z) (.int .u64 nw),⟨?_,?_⟩,by rw [hdl.2.1]; exact vQ hdl.1 (a:=stA y.Wg) (.inr Z),hkh,hTh,hh⟩
  ·rw [fr_at,stepG_cas_hit (b:=bf kdf f) (a:=⟨ts,dd⟩) ho (zJ (ts:=ts) hE hw) hkd hop e1 e2 e3 e4 .u64 e5 (ad:=stA y.Wg) (v:=old) (n:=nw) (ev_v hg hE h1) (ev_v hg hE h2) (ev_v hg hE h3) (by rw [hsh.2.cellSt]; exact congrArg (fun z=>some (Value.int .u64 z)) hc) (hsh.2.thaw 0),yd]; rfl
  ·rw [hn2,hn3]; exact vT hsh.1 (wg_ne (stA y.Wg) rfl) _
  ·rw [hn4,<- hn1]; exact hsh.2.setSt _
 ·refine ⟨Tm,s,.bool false,w,_,hmm s hok hc,?_,ki w,hsh,by rw [hdl.2.2]; exact evb_r hdl.1 (a:=stA y.Wg) (.inr Z),hkm,hTm,hmiss⟩;rw [fr_at,stepG_cas_miss (b:=bf kdf f) (a:=⟨ts,dd⟩) ho (zJ (ts:=ts) hE hw) hkd hop e1 e2 e3 e4 .u64 e5 (ad:=stA y.Wg) (v:=gval s) (old:=old) (n:=nw) (ev_v hg hE h1) (ev_v hg hE h2) (ev_v hg hE h3) hsh.2.cellSt (hsh.2.thaw 0) hc,yd]; rfl
theorem TK.gSem {g:FuncId} {as0:Array Operand} {ats:Array TypeId} {e:Array Value->Sem Value} {M:Mn} (T':TT) [hx:Ext P g e] (ho:ops[q]? =some o) (hop:o.op=.call { callee:=.value (.func g),args:=as0,argTypes:=ats }) (hw:zK ops env o=some true) (hpc:M.pc=.w3)
  (h1:∀ c,as0[0]? =some c->zn gm env c=some (.v (.pointer (some (smA y.Wg))))) (h0:as0[0]?.isSome=true)
  (hmv:∀ s,ok4 (.m M) s->s.ws≠0->Mv4 y.n (.m M) s T' { s with ws:=s.ws - 1 }) (hdl:dl (.m M)=1/\dl T'=1) (hT':y.A.aft T'=false) (hk':kd T'≠.quit)
  (h:∀ k',k'<k->TK ((YT y main Ch) k' i T' x gm φ0 kdf hkd f cs de A0 K0) ds (.inRegion ops rest::kk) env' K)
  (he:e=Extern.Sync.semacquire:=by rfl) (hd:zO env o.dst (.v (.tuple #[]))=env':=by exact zu rfl tQ) :
  TK ((YT y main Ch) k i (.m M) x gm φ0 kdf hkd f cs de A0 K0) ds (.inRegion ops (q::rest)::kk) env K:=by
 refine TK.book (o:=o) (by simp [kd,Mx.kdM,hpc]) (fun h=>h.elim) fun w s ts dd φ n hg hE hsh hok=>?_;obtain ⟨fn,e1,e2,e3,e4,e5⟩:=hx.h;subst he;obtain ⟨c,hc⟩:=Option.isSome_iff_exists.1 h0;have hx0:(as0.map (⟨ts,dd⟩:Act).eval)[0]? =some (.pointer (some (smA y.Wg))):=by
  rw [Array.getElem?_map,hc];exact congrArg some (ev_v hg hE (h1 c hc))
 by_cases hz:s.ws=0
 ·left;refine ⟨⟨hpc,hz⟩,?_⟩;rw [fr_at,stepG_semacquire_wait (b:=bf kdf f) (a:=⟨ts,dd⟩) ho (zJ (ts:=ts) hE hw) hop e1 e2 e3 e4 e5 hx0 (by rw [hsh.2.cellSm,hz]; rfl)]
 ·right;refine ⟨fun hb=>hz hb.2,T',{ s with ws:=s.ws - 1 },.tuple #[],_,_,hmv s hok hz,?_,kv (a:=smA y.Wg) (.inr rfl) (.int .u32 ((s.ws:Int) - 1)),⟨vT hsh.1 (wg_ne (smA y.Wg) rfl) _,?_⟩,by rw [hdl.1,hdl.2]; exact zac oQ (a:=smA y.Wg) (.inr rfl),hk',hT',fun k' hk''=>by rw [hd]; exact h k' hk''⟩
  ·rw [fr_at,stepG_semacquire (b:=bf kdf f) (a:=⟨ts,dd⟩) ho (zJ (ts:=ts) hE hw) hkd hop e1 e2 e3 e4 e5 hx0 hsh.2.cellSm oQ (hsh.2.thaw 1),yd]; rfl
  ·have:=hsh.2.setSm ((s.ws:Int) - 1);rw [show ((s.ws:Int) - 1)=((s.ws - 1:Nat):Int) by omega] at this ⊢;exact this
theorem TK.gSaid {g:FuncId} {c:Operand} {ats:Array TypeId} {e:Array Value->Sem Value} (T':TT) (m:Addr->Mark) (hm:∀ ad g,m ad≠.extern g) (hmm:m=.read\/m=.write) (hmain:main=true) [hx:Ext P g e] (ho:ops[q]? =some o) (hop:o.op=.call { callee:=.value (.func g),args:=#[c],argTypes:=ats }) (hw:zK ops env o=some true)
  (h1:zn gm env c=some (.v (.pointer (some (smA y.Wg))))) (hmv:∀ s,ok4 T s->Mv4 y.n T s T' s) (hdl:0<dl T/\dl T'=dl T) (hT':y.A.aft T'=false) (hk':kd T'≠.quit)
  (h:∀ k',k'<k->TK ((YT y main Ch) k' i T' x gm φ0 kdf hkd f cs de A0 K0) ds (.inRegion ops rest::kk) env' K)
  (he:e=Extern.Race.marked m:=by rfl) (hk:kd T=.book:=by rfl) (hb:∀ s,¬ bl4 T s:=by exact fun _ h=>by cases h.1) (hwk:¬ y.A.wk T:=by exact fun h=>by cases h <;> rename_i h <;> cases h) (hd:zO env o.dst (.v (.tuple #[]))=env':=by exact zu rfl tQ) :
  TK ((YT y main Ch) k i T x gm φ0 kdf hkd f cs de A0 K0) ds (.inRegion ops (q::rest)::kk) env K:=by
 refine TK.book (o:=o) hk (fun h=>absurd h hwk) fun w s ts dd φ n hg hE hsh hok=>.inr ⟨hb s,T',s,.tuple #[],w,#[mk (m (smA y.Wg))],hmv s hok,?_,ki w,hsh,?_,hk',hT',fun k' hk''=>by rw [hd]; exact h k' hk''⟩
 ·obtain ⟨fn,e1,e2,e3,e4,e5⟩:=hx.h;subst he;rw [fr_at,stepG_markAt (b:=bf kdf f) (a:=⟨ts,dd⟩) m hm ho (zJ (ts:=ts) hE hw) hkd hop e1 e2 e3 e4 e5 (ad:=smA y.Wg) (by simp [ev_v (dd:=dd) hg hE h1]),yd]; rfl
 ·subst hmain;rw [hdl.2];exact zfS hdl.1 (a:=smA y.Wg) (.inr rfl) (by rcases hmm with rfl | rfl; exact .inl rfl; exact .inr rfl)
end
section
variable {P:Program} {gm:Nat->Option Nat} {main:Bool}
theorem zeH (n:Nat) {T:Goroutine->Hp->Prop} (hT:zo P main T) {lo:Nat×Loc3} {g:FuncId} {fn:Func} {c:Code} {args:List AV} {K:KV} {R:AV->KV->(Goroutine->Hp->Prop)->Prop} (hf:P.funcs[g]? =some fn)
  (h:∀ (φ0:Nat->Loc3) (c0:Frame) (cs:List Frame) (A0:List AObj),lo.1<A0.length->φ0 lo.1=lo.2->(∀ r K' T',R r K' T'->∀ A' φ' H' v,Kstep K A0 K' A'->Agr φ0 φ' A0.length->A0.length<=A'.length->RelH φ' A' nF H'->RelV φ' A'.length r v->T' (G (c0.finish v) cs) H') ->
   TK (YU hT gm φ0 .normal ze g (c0::cs) [] A0 (keys K)) [] [.code c] (args++mB (n - args.length) .any) K) (hb:fn.body=some c:=by rfl) (hn:fn.ntmps=n:=by rfl):CallS P gm lo T g args K R:=by
 subst hn;intro A hv hnd φ H vs c0 cs hl1 hl2 hg hH hargs hfin;rw [kM vs hf hb];exact h φ c0 cs A hl1 hl2 (fun r K' T' hr A' φ' H' v a b c d e=>hfin r K' T' A' φ' H' v hr a b c d e) A ⟨hv,hnd,fun i hi=>.inl hi,fun _ _ _=>rfl,mL _⟩ φ H _ (Agr.refl _ _) (mL _) hg (fun d hd=>by cases hd) hH (yS hargs _)
variable {φ0:Nat->Loc3} {kdf:CallKind} {hkd:kdf≠.early} {f:FuncId} {cs:List Frame} {de:List Deferred} {A0:List AObj} {K0:List Nat} {ds:List Nat} {kk:List Item} {env env':List AV} {K:KV} {ops:Array Oper} {q:Nat} {rest:List Nat} {o:Oper}
theorem zbt {φ:Nat->Loc3} {n:Nat} {ts:Array Value} {ars:Array Operand} {vs:List Value} (h3:RelG gm φ n) (h6:zG φ n env ts) (hargs:ars.toList.map (zI gm env)=vs.map .v):ars.map (evT ts)=vs.toArray:=by
 have hm:=kD (a:=⟨ts,[]⟩) h3 h6 ars;rw [yH,hargs] at hm;refine Array.ext' ?_;refine List.ext_getElem? fun j=>?_;have hl:=hm.1;by_cases hj:j<vs.length
 ·have h2:=hm.2 j (.v vs[j]) ((ars.map (evT ts))[j]'(by rw [<- hl]; simpa using hj)) (by simp [hj]) (by rw [mD]);have:=inv_v h2;rw [mI,mD (by rw [<- hl]; simpa using hj),this];simp [hj]
 ·rw [lU (by simp at hl ⊢; omega),lU (by simpa using hj)]
theorem TK.sDefer {T:Goroutine->Hp->Prop} {hT:zo P main T} {g:FuncId} {as0:Array Operand} {ats:Array TypeId} {vs:List Value} (ho:ops[q]? =some o) (hop:o.op=.defer { callee:=.value (.func g),args:=as0,argTypes:=ats }) (hargs:as0.toList.map (zI gm env)=vs.map .v)
  (h:TK (YU hT gm φ0 kdf hkd f cs (dcall g vs.toArray::de) A0 K0) [] (.inRegion ops rest::kk) env' K) (hw:zK ops env o=some true:=by rfl) (hd:zO env o.dst (.v undef)=env':=by first | exact putN rfl | exact zu rfl tQ) :
  TK (YU hT gm φ0 kdf hkd f cs de A0 K0) [] (.inRegion ops (q::rest)::kk) env K:=by
 intro A hA φ H ts h1 h2 h3 h4 h5 h6;have hE:=yo (a:=⟨ts,[]⟩) h6 (RelV.v (φ:=φ) (n:=A.length) undef) o.dst;rw [hd] at hE;refine hT.ctlF Z (fun w=>?_) rfl (h A ⟨hA.view,hA.nd,hA.own,hA.kept,hA.len⟩ φ H _ h1 h2 h3 h4 h5 hE);show stepG P main (G (fr kdf f none ts de _) cs) w=_;rw [fr_at,stepG_defer (b:=bf kdf f) (a:=⟨ts,de⟩) ho (zJ (ts:=ts) h6 hw) hkd hop];have e:as0.map (⟨ts,de⟩:Act).eval=vs.toArray:=by rw [yH]; exact zbt h3 h6 hargs
 rw [e,yd];rfl
variable {y:Sy P} {Ch:Nat->Goroutine->Hp->Prop} {k i:Nat} {T:TT} {x:Nat->Bool}
theorem TK.retD {g:FuncId} {e:Array Value->Sem Value} {fn:Func} {c0:Frame} {r:AV} (T':TT) (m:Mark) (hm:∀ g,m≠.extern g) [hx:Ext P g e] (hmv:∀ s,ok4 T s->Mv4 y.n T s T' s) (hev:EvB main y.S2 (dl T) (dl T') #[mk m]) (hT':y.A.aft T'=false) (hf:P.funcs[f]? =some fn) (hres:∀ A,zM K A->resA P fn.results.toList env A=some r)
  (hfin:∀ k',k'<k->∀ A φ' H' v,Kn ((YT y main Ch) k i T x gm φ0 .normal ze f (c0::cs) [dcall g #[]] A0 K0) K A->Agr φ0 φ' A0.length->A0.length<=A.length->RelH φ' A nF H'->RelV φ' A.length r v->y.Sf main Ch k' i T' x (G (c0.finish v) cs) H')
  (he:e=(fun _=>do mark m; pure Extern.Race.none_):=by rfl) (hk:kd T=.book:=by rfl) (hk':kd T'≠.quit:=by exact fun h=>by cases h) (hb:∀ s,¬ bl4 T s:=by exact fun _ h=>by cases h.1) (hwk:¬ y.A.wk T:=by exact fun h=>by cases h <;> rename_i h <;> cases h) :
  TK ((YT y main Ch) k i T x gm φ0 .normal ze f (c0::cs) [dcall g #[]] A0 K0) [] (.code .ret::kk) env K:=by
 intro A hA φ H ts h1 h2 h3 h4 h5 h6;refine (y.shutF main Ch k i T x).ctlF Z (fun _=>wV) rfl ?_;refine .stop ?_;cases k with
 | zero=>trivial
 | succ k' =>
  obtain ⟨fn',e1,e2,e3,e4,e5⟩:=hx.h;subst he;refine ⟨rfl,rfl,fun hw=>absurd hw hwk,?_⟩;have hk0:y.A.kd T=.book:=hk;rw [hk0];intro w s hfit hsh hok;refine ⟨fun hb'=>absurd hb' (hb s),fun _=>⟨T',s,G { fr .normal f none ts [] (.code .ret::kk) with mode:=.returning } (c0::cs),w,#[mk m],hmv s hok,?_,ki w,hsh,hev,.inr ⟨hk',rfl,(y.sf_iff hT').2 ?_⟩⟩⟩
  ·exact stepG_unwind_entry (b:=bf .normal f) (a:=⟨ts,[dcall g #[]]⟩) (ds:=[]) (v:=.tuple #[]) (evs:=#[⟨.mark m,false,true⟩]) rfl e1 e2 e3 e4 e5 (by simp [Extern.Race.none_]) sQ (by
    intro x hx';simp at hx';subst hx';exact ⟨rfl,fun g h=>hm g (Loc.mark.inj h)⟩)
  ·exact (y.shutF main Ch k' i T' x).leaveF hf (ko h5 h6 (hres A hA.view) fun v hv=>hfin k' (Nat.lt_succ_self _) A φ H v hA h1 (mT (mL _) hA.len) h5 hv)
theorem TK.acqW {g:FuncId} {c:Operand} {ats:Array TypeId} {e:Array Value->Sem Value} {lo:Nat×Loc3} [hx:Ext P g e] (ho:ops[q]? =some o) (hop:o.op=.call { callee:=.value (.func g),args:=#[c],argTypes:=ats }) (hc:zn gm env c=some (.v (.pointer (some (stA y.Wg))))) (hk:kd T=.acqW)
  {PW:KV->Prop} (hl1:lo.1<A0.length) (hl2:φ0 lo.1=lo.2) (hS:zo P main y.Stop)
  (hGI:∀ L A φ H,y.GI y.all L->lo.1<A.length->φ lo.1=lo.2->zM K A->(keys K).Nodup->RelH φ A nF H->H.Dis L->Agrees H L->∃ φ' A' K',Agr φ φ' A.length/\A.length<=A'.length/\Kstep K A K' A'/\PW K'/\RelH φ' A' nF (H.join L))
  (h:∀ K',PW K'->TK (YU hS gm φ0 kdf hkd f cs de A0 K0) ds (.inRegion ops rest::kk) env' K')
  (hw:zK ops env o=some true:=by rfl) (he:e=Extern.Race.marked .acquire:=by rfl) (hwk:¬ y.A.wk T:=by exact fun h=>by cases h <;> rename_i h <;> cases h) (hd:zO env o.dst (.v (.tuple #[]))=env':=by exact zu rfl tQ) :
  TK ((YT y main Ch) k i T x gm φ0 kdf hkd f cs de A0 K0) ds (.inRegion ops (q::rest)::kk) env K:=by
 intro A hA φ H ts h1 h2 h3 h4 h5 h6;show y.Sf main Ch k i T x _ _;refine .stop ?_;cases k with
 | zero=>trivial
 | succ k' =>
  obtain ⟨fn,e1,e2,e3,e4,e5⟩:=hx.h;subst he;refine ⟨rfl,rfl,fun hw=>absurd hw hwk,?_⟩;have hk':y.A.kd T=.acqW:=hk;rw [hk'];refine ⟨G (fr kdf f none (putT ts o.dst (.tuple #[])) (dsC φ ds++de) (.inRegion ops rest::kk)) cs,rfl,fun w hf=>?_,fun L hG hD hAg=>?_⟩
  ·show stepG P main (G (fr kdf f none ts (dsC φ ds++de) _) cs) w=_;rw [fr_at,stepG_markAt (b:=bf kdf f) (a:=⟨ts,dsC φ ds++de⟩) .acquire sQ ho (zJ (ts:=ts) h6 hw) hkd hop e1 e2 e3 e4 e5 (ad:=stA y.Wg) (by simp [ev_v (dd:=dsC φ ds++de) h3 h6 hc]),yd];rfl
  ·obtain ⟨φ',A',K',ha,hl,hst,hp,hH⟩:=hGI L A φ H hG (mM hl1 hA.len) ((h1 _ hl1).trans hl2) hA.view hA.nd h5 hD hAg;have hE:=yo (a:=⟨ts,[]⟩) (h6.mono ha hl) (RelV.v (φ:=φ') (n:=A'.length) (.tuple #[])) o.dst;have hds:dsC φ' ds=dsC φ ds:=by
    unfold dsC;exact List.map_congr_left fun d hd'=>by rw [ha d (h4 d hd')]
   rw [hd] at hE;have hA':=hA.step hst;have:=h K' hp A' ⟨hA'.view,hA'.nd,hA'.own,hA'.kept,hA'.len⟩ φ' (H.join L) (putT ts o.dst (.tuple #[])) (h1.trans ha hA.len) (mT hA.len hl) (h3.mono ha hl) (fun d hd=>mM (h4 d hd) hl) hH hE;rw [hds] at this;exact this
end
end Go.Vel
namespace Go.Vel
open Go Go.Conc Go.Proofs
open Go.ConcN (sumTo upd upd_ne upd_same)
open Go.ConcM (OsLater MuAt muA msA)
open Go.ConcR (KK wgBlock WgAt stA smA mk rd wr)
open Mx (TT Th Mn S4 auto Mv4 ok4 bl4 kd dl MPc Pc okW okM Mv nx4 cnt newOf)
instance:Ext tp 208 (Extern.Atomic.update (Op.intArith .add) .u64 true):=⟨_,Tryz.func208,by kernel_rfl,by kernel_rfl,by kernel_rfl,by kernel_rfl⟩
instance:Ext tp 209 (Extern.Atomic.loadT (.int .u64)):=⟨_,Tryz.func209,by kernel_rfl,by kernel_rfl,by kernel_rfl,by kernel_rfl⟩
instance:Ext tp 215 (Extern.Atomic.casT (.int .u64)):=⟨_,Tryz.func215,by kernel_rfl,by kernel_rfl,by kernel_rfl,by kernel_rfl⟩
instance:Ext tp 168 (fun _=>pure (.bool false)):=⟨_,Tryz.func168,by kernel_rfl,by kernel_rfl,by kernel_rfl,by kernel_rfl⟩
instance:Ext tp 173 (Extern.Race.marked .read):=⟨_,Tryz.func173,by kernel_rfl,by kernel_rfl,by kernel_rfl,by kernel_rfl⟩
instance:Ext tp 183 (Extern.Race.marked .write):=⟨_,Tryz.func183,by kernel_rfl,by kernel_rfl,by kernel_rfl,by kernel_rfl⟩
instance:Ext tp 184 (Extern.Sync.semacquire):=⟨_,Tryz.func184,by kernel_rfl,by kernel_rfl,by kernel_rfl,by kernel_rfl⟩
theorem uP224:tp.underlying 224=some (.pointer 190):=by kernel_rfl
theorem uP217:tp.underlying 217=some (.pointer 201):=by kernel_rfl
theorem z190:(tp.info? 190).map (fun i=>decide (i.size=0))=some false:=by kernel_rfl
theorem z201:(tp.info? 201).map (fun i=>decide (i.size=0))=some false:=by kernel_rfl
def GIw (y:Sy tp) (lo:Nat×Loc3) (PW:KV->Prop):Prop :=
 ∀ L A φ H,y.GI y.all L->lo.1<A.length->φ lo.1=lo.2->zM [(lo.1,.gone)] A->(keys [(lo.1,AObj.gone)]).Nodup->RelH φ A nF H->H.Dis L->Agrees H L->∃ φ' A' K',Agr φ φ' A.length/\A.length<=A'.length/\Kstep [(lo.1,.gone)] A K' A'/\PW K'/\RelH φ' A' nF (H.join L)
theorem bU1:∀ a:Nat,a<66->bits .and .u64 ((a*4294967296:Nat):Int) 2147483648=0:=by decide +kernel
theorem bU2:∀ a:Nat,a<66->bits .and .u64 ((a*4294967296:Nat):Int) 2147483647=0:=by decide +kernel
theorem wu64 {n:Int} (h:0<=n/\n<18446744073709551616):IntKind.u64.wrap n=n:=by
 unfold IntKind.wrap;simp only [show IntKind.u64.bits=64 from rfl,show IntKind.u64.signed=false from rfl,Bool.false_and];simp;omega
theorem uI {s:S4} (h:s.wt=0):gval s=((s.v*4294967296:Nat):Int):=by unfold gval KK; rw [h]; simp
theorem zeT {s:S4} (h:s.wt=0):gval { s with v:=s.v+1 }=(((s.v+1)*4294967296:Nat):Int):=by unfold gval KK; rw [h]; simp
theorem zfW {s:S4} (hv:s.v<64) (h:s.wt=0):IntKind.u64.wrap (gval s+4294967296)=gval { s with v:=s.v+1 }:=by
 rw [zeT h,uI h,wu64 oQ];omega
theorem zeQ {s:S4} {v:Nat} (h:s.wt=0) (e:gval s=((v*4294967296:Nat):Int)):s.v=v:=by rw [uI h] at e; omega
theorem zfX {s:S4} {v:Nat} (h:s.wt=0) (e:gval s=((v*4294967296:Nat):Int)):gval { s with wt:=1 }=((v*4294967296+1:Nat):Int):=by
 have:=zeQ h e;unfold gval KK;dsimp only;omega
theorem q_shL {P:Program} {gm:Nat->Option Nat} {env:List AV} {V:KV} {o:Oper} {t yt:TypeId} {x y:Operand} {k k':IntKind} {a b:Int} {r:Int} (ho:o.op=.binOp .shl t x y yt) (hx:zn gm env x=some (.v (.int k a))) (hy:zn gm env y=some (.v (.int k' b))) (h0:0<=b/\b<=k.bits) (hr:k.wrap (a*2 ^ b.toNat)=r):Qk P gm env V o (.v (.int k r)):=fun A _=>by
 refine vr ho (by rw [zx hx]; rfl) (by rw [zx hy]; rfl) ?_;rw [zab];show zR P (Op.shift .shl k a k' b)=_;rw [shift_shl k k' a b h0.1 h0.2,hr];rfl
instance:Cal tp 149:={}
instance:Cal tp 155:={}
instance:Cal tp 172:={}
instance:Cal tp 174:={}
instance:Cal tp 182:={}
instance:zl tp 199 2 0 false 1:={}
instance:zl tp 201 1 0 true 1:={}
instance:zl tp 201 2 1 false 1:={}
instance:Und tp 190 (.int .u32):={}
instance:Und tp 197 (.int .u64):={}
instance:Und tp 21 (.int .i32):={}
instance:Und tp 3 (.int .i64):={}
theorem zg2 {gm:Nat->Option Nat} {Ch:Nat->Goroutine->Hp->Prop} (y:Sy tp) {lo:Nat×Loc3} {k j:Nat} {x:Nat->Bool} {K:KV} :
  CallS tp gm lo (y.Sf true Ch k 0 (.m { pc:=.a1,j:=j }) x) 172 [.v (.pointer (some ⟨y.Wg,0,none⟩)),.v (.int .u64 4294967296)] K (fun r K' T'=>K'=K/\∃ v k',v<64/\k'<k/\r=.v (.int .u64 (((v+1)*4294967296:Nat):Int))/\T'=y.Sf true Ch k' 0 (.m { pc:=if v=0 then .ar else .a2,j:=j }) x):=by
 refine kZ 10 (y.shutF _ _ _ _ _ _) Tryz.func172 fun φ0 c0 cs A0 hl1 hl2 hret=>?_;refine au 1423542 ?_;refine TK.a Z (yk Z Z) ?_;refine TK.a Z (z8 Z Z zl.h dQ) ?_;refine au 1 ?_;refine TK.gAdd 4294967296 (fun s=>{ s with v:=s.v+1 }) (fun s=>.m { pc:=if s.v=0 then .ar else .a2,j:=j }) rfl rfl rfl rfl rfl (fun s hok=>⟨?_,rfl,rfl,rfl⟩) (fun s _=>.a1 rfl) ⟨mS,fun s=>by by_cases h:s.v=0 <;> simp only [h,↓reduceIte] <;> rfl⟩ (fun s=>rfl) (fun s=>by by_cases h:s.v=0 <;> simp only [h,↓reduceIte] <;> exact fun h=>by cases h) fun s hok k1 hk1=>?_
 ·obtain ⟨q1,q2,q3,q4⟩:=hok;exact zfW q1 q3
 have hv:s.v<64:=hok.1;have hval:gval { s with v:=s.v+1 }=(((s.v+1)*4294967296:Nat):Int):=zeT hok.2.2.1;rw [hval];refine au 35 ?_;refine TK.rta (hret (hT':=y.shutF _ _ _ _ _ _)) ?_ (yC (zU Z));exact ⟨rfl,s.v,_,hv,hk1,rfl,rfl⟩
theorem zct {gm:Nat->Option Nat} {Ch:Nat->Goroutine->Hp->Prop} (y:Sy tp) {lo:Nat×Loc3} {k:Nat} {x:Nat->Bool} {K:KV} {T:TT} (Tn:S4->TT) (hmv:∀ s,ok4 T s->Mv4 y.n T s (Tn s) s) (hdl:0<dl T/\∀ s,dl (Tn s)=dl T) (hT':∀ s,y.A.aft (Tn s)=false) (hk':∀ s,kd (Tn s)≠.quit) (hk:kd T=.book) (hb:∀ s,¬ bl4 T s) (hwk:¬ y.A.wk T) :
  CallS tp gm lo (y.Sf true Ch k 0 T x) 174 [.v (.pointer (some ⟨y.Wg,0,none⟩))] K (fun r K' T'=>K'=K/\∃ s k',ok4 T s/\k'<k/\r=.v (.int .u64 (gval s))/\T'=y.Sf true Ch k' 0 (Tn s) x):=by
 refine kZ 7 (y.shutF _ _ _ _ _ _) Tryz.func174 fun φ0 c0 cs A0 hl1 hl2 hret=>?_;refine au 1423542 ?_;refine TK.a Z (yk Z Z) ?_;refine TK.a Z (z8 Z Z zl.h dQ) ?_;refine TK.gLoad Tn Z Z Z Z hmv hdl hT' hk' (fun s hok k1 hk1=>?_) rfl hk hb hwk;refine au 35 ?_;refine TK.rta (hret (hT':=y.shutF _ _ _ _ _ _)) ?_ (yC (zU Z));exact ⟨rfl,s,_,hok,hk1,rfl,rfl⟩
theorem zg3 {gm:Nat->Option Nat} {Ch:Nat->Goroutine->Hp->Prop} (y:Sy tp) {lo:Nat×Loc3} {k j v:Nat} {x:Nat->Bool} {K:KV} :
  CallS tp gm lo (y.Sf true Ch k 0 (.m { pc:=.w2,j:=j,old:=v }) x) 182 [.v (.pointer (some ⟨y.Wg,0,none⟩)),.v (.int .u64 ((v*4294967296:Nat):Int)),.v (.int .u64 ((v*4294967296+1:Nat):Int))] K (fun r K' T'=>K'=K/\∃ b k',k'<k/\r=.v (.bool b)/\T'=y.Sf true Ch k' 0 (.m { pc:=if b=true then .wr else .w1,j:=j,old:=v }) x):=by
 refine kZ 13 (y.shutF _ _ _ _ _ _) Tryz.func182 fun φ0 c0 cs A0 hl1 hl2 hret=>?_;refine au 1423542 ?_;refine TK.a Z (yk Z Z) ?_;refine TK.a Z (z8 Z Z zl.h dQ) ?_;refine au 11 ?_;refine TK.gCas (.m { pc:=.wr,j:=j,old:=v }) (.m { pc:=.w1,j:=j,old:=v }) ((v*4294967296:Nat):Int) ((v*4294967296+1:Nat):Int) (fun s=>{ s with wt:=1 }) rfl rfl rfl rfl rfl rfl (fun s hok e=>⟨?_,rfl,rfl,rfl⟩) (fun s hok e=>.w2h rfl ?_) (fun s hok e=>.w2m rfl ?_) ⟨mS,rfl,rfl⟩ rfl rfl (fun h=>by cases h) (fun h=>by cases h) (fun k1 hk1=>?_) (fun k1 hk1=>?_);rotate_left;rotate_left;rotate_left
 ·refine au 35 ?_;refine TK.rta (hret (hT':=y.shutF _ _ _ _ _ _)) ?_ (yC (zU Z));exact ⟨rfl,true,_,hk1,rfl,rfl⟩
 ·refine au 35 ?_;refine TK.rta (hret (hT':=y.shutF _ _ _ _ _ _)) ?_ (yC (zU Z));exact ⟨rfl,false,_,hk1,rfl,rfl⟩
 ·exact zfX hok.2.2.1 e
 ·exact zeQ hok.2.2.1 e
 ·exact fun h=>e (by rw [<- (show s.v=v from h)]; exact uI hok.2.2.1)
theorem zgA {gm:Nat->Option Nat} {Ch:Nat->Goroutine->Hp->Prop} (y:Sy tp) {lo:Nat×Loc3} {k j:Nat} {x:Nat->Bool} :
  CallS tp gm lo (y.Sf true Ch k 0 (.m { pc:=.a0,j:=j }) x) 149 [.v (.pointer (some ⟨y.Wg,0,none⟩)),.v (.int .i64 1)] [] (fun r K' T'=>r=.tup []/\K'=[]/\∃ k',k'<k/\T'=y.Sf true Ch k' 0 (.m { pc:=.go,j:=j }) x):=by
 refine zeH 117 (y.shutF _ _ _ _ _ _) Tryz.func149 fun φ0 c0 cs A0 hl1 hl2 hfin=>?_;refine au 14221802 ?_;refine TK.a Z (q_cmp Z Z Z Z) ?_;refine au 93 ?_;constructor<;>intro hc1
 ·exfalso;simp at hc1
 refine au 42120 ?_;refine TK.sMark (.m { pc:=.a1,j:=j }) .disable sQ Z Z Z (fun s _=>.a0 rfl) (vP 0) rfl (fun k1 hk1=>?_);refine au 43 ?_;refine TK.sDefer (vs:=[]) Z Z Z ?_;refine au 42235423 ?_;refine TK.sPure Z Z ?_;refine au 1421201903 ?_;refine TK.a Z (yk Z Z) ?_;refine TK.a Z (z8 Z Z zl.h dQ) ?_;refine au 1 ?_;refine TK.a Z (yV Z Z Und.h Und.h (m:=1) Z) ?_;refine TK.a Z (q_shL Z Z Z dQ (r:=4294967296) dQ) ?_;refine TK.callS Z Z Z Z (zg2 y) hl1 hl2 ?_;rintro r2 K2 T2 ⟨rfl,v,k2,hv,hk2,rfl,rfl⟩;refine ⟨y.shutF _ _ _ _ _ _,?_⟩;refine au 142235 ?_;refine TK.a Z (yD Z Z Z (.inl Z) (bU1 (v+1) oQ)) ?_;refine au 17 ?_;refine TK.sp 47 (fun g16_4=>?_) (fun g16_4=>?_)
 ·exfalso;simp at g16_4
 refine au 142120190325088 ?_;refine TK.a Z (q_sh Z Z Z dQ (r:=((v+1:Nat):Int)) (by show (((v+1)*4294967296:Nat):Int) / 4294967296=_; omega)) ?_;refine TK.a Z (yV Z Z Und.h Und.h (m:=((v+1:Nat):Int)) (w32 oQ)) ?_;refine au 14235 ?_;refine TK.a Z (yD Z Z Z (.inl Z) (bU2 (v+1) oQ)) ?_;refine TK.a Z (yV Z Z Und.h Und.h (m:=0) Z) ?_;refine au 126071142235 ?_;refine TK.sp 62 (fun g20_5=>?_) (fun g20_5=>?_)
 ·refine au 11 ?_;refine TK.a Z (yV Z Z Und.h Und.h (m:=1) Z) ?_;refine au 932607 ?_;constructor<;>intro hc8
  ·have h8:v=0:=by simp at hc8; omega
   refine TK.castT (T':=.m { pc:=.ar,j:=j }) Z (by rw [if_pos h8]) ?_;refine au 14 ?_;refine TK.a Z (yk Z Z) ?_;refine TK.a Z (z8 Z Z zl.h dQ) ?_;refine TK.sConv Z Z Z uP224 uP219 z190 (fun w s h=>⟨_,h.2.cellSm⟩) ?_;refine au 0 ?_;refine TK.gSaid (.m { pc:=.a2,j:=j }) .read sQ (.inl Z) Z Z Z Z Z (fun s _=>.ar rfl) ⟨mS,rfl⟩ rfl (fun h=>by cases h) (fun k3 hk3=>?_);refine au 93714223 ?_;constructor<;>intro hc9
   ·exfalso;simp at hc9 <;> omega
   refine au 171422120 ?_;refine TK.sp 78 (fun g24_3=>?_) (fun g24_3=>?_)
   ·exfalso;simp at g24_3
   refine au 17142212019032508888125088 ?_;refine TK.sp 91 (fun g26_3=>?_) (fun g26_3=>?_)
   ·refine au 180326088 ?_;refine TK.retD (.m { pc:=.go,j:=j }) .enable sQ (fun s _=>.a2 rfl) (kL 0) rfl Tryz.func149 res_0 (fun k9 hk9 A φ' H' v hA ha hl hH hv=>hfin _ _ _ ⟨rfl,rfl,_,oQ,rfl⟩ A φ' H' v ⟨hA.view,hA.nd,hA.own,hA.kept,hA.len⟩ ha hl hH hv);skip
   exfalso;simp at g26_3 <;> omega
  have h8:¬ v=0:=by simp at hc8; omega
  refine TK.castT (T':=.m { pc:=.a2,j:=j }) Z (by rw [if_neg h8]) ?_;refine au 9371422120 ?_;constructor<;>intro hc9
  ·exfalso;simp at hc9 <;> omega
  refine au 171422120 ?_;refine TK.sp 78 (fun g24_3=>?_) (fun g24_3=>?_)
  ·exfalso;simp at g24_3
  refine au 17142212019032508888125088 ?_;refine TK.sp 91 (fun g26_3=>?_) (fun g26_3=>?_)
  ·refine au 180326088 ?_;refine TK.retD (.m { pc:=.go,j:=j }) .enable sQ (fun s _=>.a2 rfl) (kL 0) rfl Tryz.func149 res_0 (fun k9 hk9 A φ' H' v hA ha hl hH hv=>hfin _ _ _ ⟨rfl,rfl,_,oQ,rfl⟩ A φ' H' v ⟨hA.view,hA.nd,hA.own,hA.kept,hA.len⟩ ha hl hH hv);skip
  exfalso;simp at g26_3 <;> omega
 exfalso;simp at g20_5
theorem zfx {gm:Nat->Option Nat} {Ch:Nat->Goroutine->Hp->Prop} (y:Sy tp) {lo:Nat×Loc3} {PW:KV->Prop} {k j:Nat} {x:Nat->Bool} (hS:zo tp true y.Stop) (hGI:GIw y lo PW) :
  CallS tp gm lo (y.Sf true Ch k 0 (.m { pc:=.w0,j:=j }) x) 155 [.v (.pointer (some ⟨y.Wg,0,none⟩))] [(lo.1,.gone)] (fun r K' T'=>r=.tup []/\PW K'/\T'=y.Stop):=by
 refine kZ 84 (y.shutF _ _ _ _ _ _) Tryz.func155 fun φ0 c0 cs A0 hl1 hl2 hret=>?_;refine au 41802 ?_;refine TK.sMark (.m { pc:=.w1,j:=j }) .disable sQ Z Z Z (fun s _=>.w0 rfl) (vP 0) rfl (fun k1 hk1=>?_);refine au 1303 ?_;refine TK.maskL [0] ?_;refine TK.loopS (ι:=Nat) (fun b=>.m { pc:=.w1,j:=j,old:=b }) (fun _=>rfl) (fun b env K=>K=[(lo.1,AObj.gone)]/\env=[.v (.pointer (some ⟨y.Wg,0,none⟩)),.any,.any,.any,.any,.any,.any,.any,.any,.any,.any,.any,.any,.any,.any,.any,.any,.any,.any,.any,.any,.any,.any,.any,.any,.any,.any,.any,.any,.any,.any,.any,.any,.any,.any,.any,.any,.any,.any,.any,.any,.any,.any,.any,.any,.any,.any,.any,.any,.any,.any,.any,.any,.any,.any,.any,.any,.any,.any,.any,.any,.any,.any,.any,.any,.any,.any,.any,.any,.any,.any,.any,.any,.any,.any,.any,.any,.any,.any,.any,.any,.any,.any,.any]) 0 ⟨rfl,rfl⟩ rfl ?_;rintro k1 hk1 old env K ⟨rfl,rfl⟩ ih;refine au 142130 ?_;refine TK.a Z (yk Z Z) ?_;refine TK.a Z (z8 Z Z zl.h dQ) ?_;refine TK.callS Z Z Z Z (zct y (T:=.m { pc:=.w1,j:=j,old:=old }) (fun s=>.m { pc:=if s.v=0 then .w5 else .w2,j:=j,old:=s.v }) (fun s _=>.w1 rfl) ⟨mS,fun s=>by by_cases h:s.v=0 <;> simp only [h,↓reduceIte] <;> rfl⟩ (fun s=>rfl) (fun s=>by by_cases h:s.v=0 <;> simp only [h,↓reduceIte] <;> exact fun h=>by cases h) rfl (fun _ h=>by cases h.1) (fun h=>h.elim)) hl1 hl2 ?_;rintro r2 K2 T2 ⟨rfl,s,k2,hok,hk2,rfl,rfl⟩;refine ⟨y.shutF _ _ _ _ _ _,?_⟩;refine au 0 ?_;rw [uI hok.2.2.1];obtain ⟨v,hv⟩:∃ v,v=s.v:=⟨_,rfl⟩;have hv1:v<64:=hv ▸ hok.1;rw [<- hv];clear hok hv s;refine au 14235 ?_;refine TK.a Z (q_sh Z Z Z dQ (r:=((v:Nat):Int)) (by show ((v*4294967296:Nat):Int) / 4294967296=_; omega)) ?_;refine TK.a Z (yV Z Z Und.h Und.h (m:=((v:Nat):Int)) (w32 oQ)) ?_;refine au 14235 ?_;refine TK.a Z (yD Z Z Z (.inl Z) (bU2 v oQ)) ?_;refine TK.a Z (yV Z Z Und.h Und.h (m:=0) Z) ?_;refine au 937142235 ?_;constructor<;>intro hc1
 ·have h1:v=0:=by simp at hc1; omega
  refine TK.castT (T':=.m { pc:=.w5,j:=j,old:=v }) Z (by rw [if_pos h1]) ?_;refine au 421802 ?_;refine TK.sMark (.m { pc:=.w6,j:=j,old:=v }) .enable sQ Z Z Z (fun s _=>.w5 rfl) (kL 0) rfl (fun k8 hk8=>?_);refine au 143 ?_;refine TK.sConv Z Z Z uP217 uP219 z201 (fun w s h=>⟨_,h.2.cellSt⟩) ?_;refine au 0 ?_;refine TK.acqW Z Z Z Z hl1 hl2 hS hGI (fun K5 hp5=>?_);refine au 1714223 ?_;refine TK.sp 26 (fun g7_3=>?_) (fun g7_3=>?_)
  ·refine au 1 ?_;refine TK.a Z (yD Z Z Z (.inl Z) (bU1 v oQ)) ?_;refine au 12607 ?_;refine TK.sp 31 (fun g7_8=>?_) (fun g7_8=>?_)
   ·exfalso;simp at g7_8
   refine au 120190325088 ?_;refine TK.rta (hret (hT':=hS)) ?_ res_0;exact ⟨rfl,hp5,rfl⟩
  exfalso;simp at g7_3
 have h1:¬ v=0:=by simp at hc1; omega
 refine TK.castT (T':=.m { pc:=.w2,j:=j,old:=v }) Z (by rw [if_neg h1]) ?_;refine au 142120 ?_;refine TK.a Z (yk Z Z) ?_;refine TK.a Z (z8 Z Z zl.h dQ) ?_;refine au 11 ?_;refine TK.a Z (vt Z Z Z (r:=((v*4294967296+1:Nat):Int)) (.inl ⟨rfl,by rw [wu64 oQ]; omega⟩)) ?_;refine TK.callS Z Z Z Z (zg3 y) hl1 hl2 ?_;rintro r2 K2 T2 ⟨rfl,b,k3,hk3,rfl,rfl⟩;refine ⟨y.shutF _ _ _ _ _ _,?_⟩;refine au 93 ?_;constructor<;>intro hc5
 ·refine TK.castT (T':=.m { pc:=.wr,j:=j,old:=v }) Z (by rw [if_pos hc5]) ?_;refine au 93260711422 ?_;constructor<;>intro hc6
  ·refine au 14 ?_;refine TK.a Z (yk Z Z) ?_;refine TK.a Z (z8 Z Z zl.h dQ) ?_;refine TK.sConv Z Z Z uP224 uP219 z190 (fun w s h=>⟨_,h.2.cellSm⟩) ?_;refine au 0 ?_;refine TK.gSaid (.m { pc:=.w3,j:=j,old:=v }) .write sQ (.inr Z) Z Z Z Z Z (fun s _=>.wr rfl) ⟨mS,rfl⟩ rfl (fun h=>by cases h) (fun k4 hk4=>?_);refine au 142235423 ?_;refine TK.a Z (yD Z Z Z (.inl Z) (bU1 v oQ)) ?_;refine au 17 ?_;refine TK.sp 61 (fun g14_4=>?_) (fun g14_4=>?_)
   ·exfalso;simp at g14_4
   refine au 14212019032508 ?_;refine TK.a Z (yk Z Z) ?_;refine TK.a Z (z8 Z Z zl.h dQ) ?_;refine au 1 ?_;refine TK.gSem (.m { pc:=.w4,j:=j,old:=v }) Z Z Z Z (fun c hc=>by simp at hc; subst hc; rfl) rfl (fun s _ hz=>.w3 rfl hz) ⟨rfl,rfl⟩ rfl (fun h=>by cases h) (fun k5 hk5=>?_);refine au 1423 ?_;refine TK.a Z (yk Z Z) ?_;refine TK.a Z (z8 Z Z zl.h dQ) ?_;refine TK.callS Z Z Z Z (zct y (T:=.m { pc:=.w4,j:=j,old:=v }) (fun _=>.m { pc:=.w5,j:=j,old:=v }) (fun s _=>.w4 rfl) ⟨mS,fun s=>rfl⟩ (fun s=>rfl) (fun s h=>by cases h) rfl (fun _ h=>by cases h.1) (fun h=>h.elim)) hl1 hl2 ?_;rintro r2 K2 T2 ⟨rfl,s,k6,hok,hk6,rfl,rfl⟩;refine ⟨y.shutF _ _ _ _ _ _,?_⟩;refine au 0 ?_;rw [uI hok.2.2.2.1,hok.2.2.1];clear hok s;refine au 421802357 ?_;refine TK.sMark (.m { pc:=.w6,j:=j,old:=v }) .enable sQ Z Z Z (fun s _=>.w5 rfl) (kL 0) rfl (fun k8 hk8=>?_);refine au 143 ?_;refine TK.sConv Z Z Z uP217 uP219 z201 (fun w s h=>⟨_,h.2.cellSt⟩) ?_;refine au 0 ?_;refine TK.acqW Z Z Z Z hl1 hl2 hS hGI (fun K5 hp5=>?_);refine au 9314223 ?_;constructor<;>intro hc12
   ·exfalso;simp at hc12
   refine au 120 ?_;refine TK.rta (hret (hT':=hS)) ?_ res_0;exact ⟨rfl,hp5,rfl⟩
  exfalso;simp at hc6
 refine TK.castT (T':=.m { pc:=.w1,j:=j,old:=v }) Z (by rw [if_neg (by rw [hc5]; decide)]) ?_;refine au 140120 ?_;refine TK.maskL [0] ?_;exact ih _ v _ _ oQ ⟨rfl,rfl⟩
end Go.Vel
namespace Go.Vel
open Go Go.Conc
open Go.ConcN (sumTo upd upd_ne upd_same)
open Go.ConcM (OsLater MuAt muA msA)
open Go.ConcR (KK wgBlock WgAt stA smA mk rd wr)
open Mx (TT Th Mn S4 auto Mv4 ok4 bl4 kd dl MPc Pc okW okM Mv nx4)
section
variable {P:Program} {main:Bool} {T:Goroutine->Prop}
theorem kO {α:Type} {P:Program} (s:Sem α):∀ {a:α},zR P s=some a->∀ w,s.run P w=.ok a w/\s.events P w #[]=#[]:=by
 induction s with
 | pure b=>intro a h w; cases h; exact ⟨rfl,rfl⟩
 | program k ih=>intro a h w; exact ih P h w
 | _=>intro a h; cases h
def ShQ (P:Program) (main:Bool) (T:Goroutine->Prop):Prop:=∀ g g',g.status=.running->g'.status=.running->(∀ w,stepG P main g w=.go g' w #[])->T g'->T g
variable {gm:Nat->Option Nat}
def Pk (P:Program) (env:List AV) (o:Oper) (r:AV):Prop:=∀ (φ:Nat->Loc3) (n:Nat) (a:Act),zG φ n env a.tmps->∃ v,zR P (execOp a.eval o)=some (.value v)/\RelV φ n r v
abbrev gN:Nat->Option Nat:=fun _=>none
variable {env env':List AV} {o:Oper}
theorem zS {x:Operand} {r:AV} (ho:o.op=.move x) (hx:zn gN env x=some r):Pk P env o r:=fun φ n a hE=>by
 have:=zz (y9 φ n) hE x;rw [zx hx] at this;exact ⟨_,by unfold execOp; rw [ho]; rfl,this⟩
theorem yM {x:Operand} {r:AV} (ho:o.op=.assign x) (hx:zn gN env x=some r):Pk P env o r:=fun φ n a hE=>by
 have:=zz (y9 φ n) hE x;rw [zx hx] at this;exact ⟨_,by unfold execOp; rw [ho]; rfl,this⟩
theorem p_ev {φ:Nat->Loc3} {n:Nat} {a:Act} {c:Operand} {z:Value} (hE:zG φ n env a.tmps) (h:zn gN env c=some (.v z)):a.eval c=z:=inv_v' (y9 φ n) hE h
theorem kW {x:Operand} {l:Addr} (ho:o.op=.nilCheck x) (hx:zn gN env x=some (.v (.pointer (some l)))):Pk P env o (.v (.pointer (some l))):=fun φ n a hE =>
 ⟨_,by unfold execOp; rw [ho]; dsimp only; rw [p_ev hE hx]; rfl,.v _⟩
theorem p_int {op:BinOp} {t yt:TypeId} {x y:Operand} {k k':IntKind} {a b:Int} {z:Value} (ho:o.op=.binOp op t x y yt) (hx:zn gN env x=some (.v (.int k a))) (hy:zn gN env y=some (.v (.int k' b))) (h:zR P (binOp op t (.int k a) (.int k' b))=some z):Pk P env o (.v z):=fun φ n ac hE=>by
 refine ⟨z,?_,.v z⟩;unfold execOp; rw [ho]; dsimp only;rw [p_ev hE hx,p_ev hE hy,zab];exact zL (zL rfl h) rfl
theorem zaY {op:BinOp} {t yt:TypeId} {x y:Operand} {k:IntKind} {a b:Int} {r:Int} (ho:o.op=.binOp op t x y yt) (hx:zn gN env x=some (.v (.int k a))) (hy:zn gN env y=some (.v (.int k b))) (hop:op=.and\/op=.or\/op=.andNot) (hr:bits op k a b=r):Pk P env o (.v (.int k r)):=by
 refine p_int ho hx hy ?_;subst hr;rcases hop with rfl | rfl | rfl;all_goals
  show zR P (if k≠k then _ else _)=_;rw [if_neg sQ];rfl
theorem zfc {op:BinOp} {t yt:TypeId} {x y:Operand} {k:IntKind} {a b:Int} {r:Int} (ho:o.op=.binOp op t x y yt) (hx:zn gN env x=some (.v (.int k a))) (hy:zn gN env y=some (.v (.int k b))) (h:(op=.add/\k.wrap (a+b)=r)\/(op=.sub/\k.wrap (a - b)=r)):Pk P env o (.v (.int k r)):=by
 refine p_int ho hx hy ?_;rcases h with ⟨rfl,rfl⟩ | ⟨rfl,rfl⟩;all_goals
  show zR P (if k≠k then _ else _)=_;rw [if_neg sQ];rfl
theorem p_cmp {op:BinOp} {t yt:TypeId} {x y:Operand} {k:IntKind} {a b:Int} {z:Bool} (ho:o.op=.binOp op t x y yt) (hx:zn gN env x=some (.v (.int k a))) (hy:zn gN env y=some (.v (.int k b))) (h:cmpI op a b=some z):Pk P env o (.v (.bool z)):=by
 refine p_int ho hx hy ?_;cases op <;> first | (cases h; done) | skip;all_goals
  cases h;show zR P (if k≠k then _ else _)=_;rw [if_neg sQ];rfl
theorem p_sh {t yt:TypeId} {x y:Operand} {k k':IntKind} {a b:Int} {r:Int} (ho:o.op=.binOp .shr t x y yt) (hx:zn gN env x=some (.v (.int k a))) (hy:zn gN env y=some (.v (.int k' b))) (h0:0<=b/\b<=k.bits) (hr:a / 2 ^ b.toNat=r):Pk P env o (.v (.int k r)):=by
 refine p_int ho hx hy ?_;show zR P (Op.shift .shr k a k' b)=_;rw [shift_shr k k' a b h0.1 h0.2,hr];rfl
theorem p_shL {t yt:TypeId} {x y:Operand} {k k':IntKind} {a b:Int} {r:Int} (ho:o.op=.binOp .shl t x y yt) (hx:zn gN env x=some (.v (.int k a))) (hy:zn gN env y=some (.v (.int k' b))) (h0:0<=b/\b<=k.bits) (hr:k.wrap (a*2 ^ b.toNat)=r):Pk P env o (.v (.int k r)):=by
 refine p_int ho hx hy ?_;show zR P (Op.shift .shl k a k' b)=_;rw [shift_shl k k' a b h0.1 h0.2,hr];rfl
theorem wS {s d:TypeId} {x:Operand} {k k':IntKind} {ds:TypeDesc} {n m:Int} (ho:o.op=.convert s d x) (hx:zn gN env x=some (.v (.int k n))) (hs:P.underlying s=some ds) (hd:P.underlying d=some (.int k')) (h:k'.wrap n=m):Pk P env o (.v (.int k' m)):=fun φ n' ac hE=>by
 refine ⟨_,?_,.v _⟩;unfold execOp; rw [ho]; dsimp only;rw [p_ev hE hx];refine zL (a:=.int k' m) ?_ rfl;unfold convert;refine zL (z7 hs) (zL (z7 hd) ?_);have:zR P (Conv.intToInt k' n)=some (.int k' m):=by rw [<- h]; rfl
 cases ds <;> exact this
theorem vg {c x y:Operand} {r:AV} (ho:o.op=.pick c x y) (hc:zn gN env c=some (.v (.bool true))) (hx:zn gN env x=some r):Pk P env o r:=fun φ n a hE=>by
 have:=zz (y9 φ n) hE x;rw [zx hx] at this;exact ⟨_,by unfold execOp; rw [ho]; simp only [p_ev hE hc]; rfl,this⟩
theorem yX {c x y:Operand} {r:AV} (ho:o.op=.pick c x y) (hc:zn gN env c=some (.v (.bool false))) (hy:zn gN env y=some r):Pk P env o r:=fun φ n a hE=>by
 have:=zz (y9 φ n) hE y;rw [zx hy] at this;exact ⟨_,by unfold execOp; rw [ho]; simp only [p_ev hE hc]; rfl,this⟩
theorem zbm {t:TypeId} {i:TypeInfo} (h:P.info? t=some i):zR P (typeInfo t)=some i:=by
 show zR P (match P.info? t with | some i=>pure i | none=>stuck "no such type")=_
 rw [h]; rfl
theorem zcU {t:TypeId} {i:TypeInfo} (h:P.info? t=some i):zR P (sizeOf t)=some i.size:=by
 unfold sizeOf;exact zL (zbm h) rfl
theorem kj {t:TypeId} {x:Operand} {k off d m:Nat} {g:Bool} {b:Nat} (ho:o.op=.fieldAddr t x k) (hx:zn gN env x=some (.v (.pointer (some ⟨b,off,none⟩)))) (hf:fieldOf P t k=some (d,g,m)) (hn:m≠0):Pk P env o (.v (.pointer (some ⟨b,off+d,none⟩))):=fun φ n ac hE=>by
 refine ⟨_,?_,.v _⟩;unfold execOp; rw [ho];obtain ⟨fs,f,e1,e2,e3,e4⟩:=wv hf;obtain ⟨ti,td,e5,_,_,e6⟩:=yr e4;dsimp only;rw [p_ev hE hx];refine zL (a:=.pointer (some ⟨b,off+d,none⟩)) ?_ rfl;unfold Instr.fieldAt;refine zL (z7 e1) ?_;simp only [e2];have hp:zR P (fieldPlace ⟨b,off,none⟩ f)=some ⟨b,off+d,none⟩:=by
  unfold fieldPlace;refine zL (zcU e5) ?_;rw [e6,if_neg hn];show some (Addr.add ⟨b,off,none⟩ f.offset)=_;rw [yR,e3]
 exact zL rfl (zL hp rfl)
variable (φ0:Nat->Loc3) in
def TQ (P:Program) (T:Goroutine->Prop) (kdf:CallKind) (f:FuncId) (cs:List Frame) (de:List Deferred) (k:List Item) (env:List AV):Prop:=∀ ts,zG φ0 0 env ts->T (G (fr kdf f none ts de k) cs)
variable {φ0:Nat->Loc3} {kdf:CallKind} {f:FuncId} {cs:List Frame} {de:List Deferred} {k:List Item} {ops:Array Oper} {q:Nat} {rest:List Nat}
theorem TQ.skip (hT:ShQ P main T) (h:(TQ φ0 P T kdf f cs de) k env):(TQ φ0 P T kdf f cs de) (.code .skip::k) env:=fun ts hE=>hT _ _ rfl rfl (fun _=>zdZ) (h ts hE)
theorem TQ.inBlock (hT:ShQ P main T) {id:Nat} (h:(TQ φ0 P T kdf f cs de) k env):(TQ φ0 P T kdf f cs de) (.inBlock id::k) env:=fun ts hE=>hT _ _ rfl rfl (fun _=>za4) (h ts hE)
theorem TQ.label (hT:ShQ P main T) {l:Nat} (h:(TQ φ0 P T kdf f cs de) k env):(TQ φ0 P T kdf f cs de) (.code (.label l)::k) env:=fun ts hE=>hT _ _ rfl rfl (fun _=>zda) (h ts hE)
theorem TQ.seq (hT:ShQ P main T) {x y:Code} (h:(TQ φ0 P T kdf f cs de) (.code x::.code y::k) env):(TQ φ0 P T kdf f cs de) (.code (.seq x y)::k) env:=fun ts hE=>hT _ _ rfl rfl (fun _=>zfp) (h ts hE)
theorem TQ.block (hT:ShQ P main T) {id:Nat} {c:Code} (h:(TQ φ0 P T kdf f cs de) (.code c::.inBlock id::k) env):(TQ φ0 P T kdf f cs de) (.code (.block id c)::k) env:=fun ts hE=>hT _ _ rfl rfl (fun _=>zc9) (h ts hE)
theorem TQ.loop (hT:ShQ P main T) {c:Code} (h:(TQ φ0 P T kdf f cs de) (.code c::.inLoop c::k) env):(TQ φ0 P T kdf f cs de) (.code (.loop c)::k) env:=fun ts hE=>hT _ _ rfl rfl (fun _=>zdY) (h ts hE)
theorem TQ.inLoop (hT:ShQ P main T) {c:Code} (h:(TQ φ0 P T kdf f cs de) (.code c::.inLoop c::k) env):(TQ φ0 P T kdf f cs de) (.inLoop c::k) env:=fun ts hE=>hT _ _ rfl rfl (fun _=>zbT) (h ts hE)
theorem TQ.exit (hT:ShQ P main T) {id:Nat} {k':List Item} (hk:exitTo id k=some k') (h:(TQ φ0 P T kdf f cs de) k' env):(TQ φ0 P T kdf f cs de) (.code (.exit id)::k) env:=fun ts hE=>hT _ _ rfl rfl (fun _=>zdX hk) (h ts hE)
theorem TQ.rgn (hT:ShQ P main T) {id:Nat} {L:List Nat} (hL:List.range ops.size=L) (h:(TQ φ0 P T kdf f cs de) (.inRegion ops L::k) env):(TQ φ0 P T kdf f cs de) (.code (.region id ops false)::k) env:=fun ts hE=>hT _ _ rfl rfl (fun _=>zbU) (by rw [hL]; exact h ts hE)
theorem TQ.end (hT:ShQ P main T) (h:(TQ φ0 P T kdf f cs de) k env):(TQ φ0 P T kdf f cs de) (.inRegion ops []::k) env:=fun ts hE=>hT _ _ rfl rfl (fun _=>uv) (h ts hE)
theorem TQ.cond (hT:ShQ P main T) {c:Operand} {x y:Code} {t:Bool} (hc:zn gN env c=some (.v (.bool t))) (h:(t=true->(TQ φ0 P T kdf f cs de) (.code x::k) env)/\(t=false->(TQ φ0 P T kdf f cs de) (.code y::k) env)):(TQ φ0 P T kdf f cs de) (.code (.cond c x y)::k) env:=fun ts hE=>by
 refine hT _ _ Z Z (fun _=>zdW (t:=t) (by have:=p_ev (a:=⟨ts,[]⟩) hE hc; rw [yH] at this; exact this)) ?_;cases t with
 | true=>exact h.1 rfl ts hE
 | false=>exact h.2 rfl ts hE
theorem TQ.condT (hT:ShQ P main T) {c:Operand} {x y:Code} (hc:zn gN env c=some (.v (.bool true))) (h:(TQ φ0 P T kdf f cs de) (.code x::k) env):(TQ φ0 P T kdf f cs de) (.code (.cond c x y)::k) env:=TQ.cond hT hc ⟨fun _=>h,fun h=>(by cases h)⟩
theorem TQ.condF (hT:ShQ P main T) {c:Operand} {x y:Code} (hc:zn gN env c=some (.v (.bool false))) (h:(TQ φ0 P T kdf f cs de) (.code y::k) env):(TQ φ0 P T kdf f cs de) (.code (.cond c x y)::k) env:=TQ.cond hT hc ⟨fun h=>(by cases h),fun _=>h⟩
theorem TQ.norm (he:env=env') (h:(TQ φ0 P T kdf f cs de) k env'):(TQ φ0 P T kdf f cs de) k env:=he ▸ h
theorem TQ.mask (live:List Nat) (h:(TQ φ0 P T kdf f cs de) k (liveA live 0 env)):(TQ φ0 P T kdf f cs de) k env:=fun ts hE=>h ts (by
 have e:=uf live 0 env;rw [<- e];refine ⟨by rw [vB]; exact hE.1,fun j a y ha hy=>?_⟩;rcases vA _ _ _ _ ha with rfl | h
 ·exact .any _
 ·exact hE.2 j a y h hy)
theorem TQ.a (hT:ShQ P main T) (hkd:kdf≠.early) {r:AV} {d:Nat} (ho:ops[q]? =some o) (hq:Pk P env o r) (h:(TQ φ0 P T kdf f cs de) (.inRegion ops rest::k) env') (hd:yc o.op=false:=by rfl) (hw:zK ops env o=some true:=by rfl) (hx:o.dst=some d:=by rfl) (he:env.set d r=env':=by simp only [List.set]; rfl):(TQ φ0 P T kdf f cs de) (.inRegion ops (q::rest)::k) env:=fun ts hE=>by
 obtain ⟨v,hv,hr⟩:=hq φ0 0 ⟨ts,[]⟩ hE;rw [yH] at hv;have hP:=yo (a:=⟨ts,[]⟩) hE hr o.dst;rw [hx] at hP;have hP2:zG φ0 0 env' (putT ts o.dst v):=by rw [hx,<- he]; exact hP
 refine hT _ _ Z Z (fun w=>?_) (h (putT ts o.dst v) hP2);obtain ⟨e1,e2⟩:=kO _ hv w;rw [fr_at,stepG_value (b:=bf kdf f) (a:=⟨ts,de⟩) (v:=v) (w':=w) ho (zJ (ts:=ts) hE hw) hkd (by rw [yH]; exact e1),yd,listed_nil (by rw [yH]; exact e2)];rfl
theorem TQ.unwanted (hT:ShQ P main T) (ho:ops[q]? =some o) (hw:zK ops env o=some false) (he:zO env o.dst (.v undef)=env') (h:(TQ φ0 P T kdf f cs de) (.inRegion ops rest::k) env'):(TQ φ0 P T kdf f cs de) (.inRegion ops (q::rest)::k) env:=fun ts hE=>by
 have hP:=yo (a:=⟨ts,[]⟩) hE (RelV.v (φ:=φ0) (n:=0) undef) o.dst;rw [he] at hP;exact hT _ _ rfl rfl (fun _=>vH ho (zJ hE hw)) (h _ hP)
theorem TQ.sp (d:Nat) {t:Bool} {env1 env0:List AV} (k1:t=true->(TQ φ0 P T kdf f cs de) k env1) (k0:t=false->(TQ φ0 P T kdf f cs de) k env0) (hd:env[d]? =some (.v (.bool t)):=by rfl) (h1:env.set d (.v (.bool true))=env1:=by simp only [List.set]; rfl) (h0:env.set d (.v (.bool false))=env0:=by simp only [List.set]; rfl):(TQ φ0 P T kdf f cs de) k env:=fun ts hE=>by
 have hs:∀ b,t=b->env=env.set d (.v (.bool b)):=fun b e=>by
  subst e;refine List.ext_getElem? fun j=>?_;rw [List.getElem?_set];split
  ·rename_i e;subst e;split
   ·exact hd
   ·rename_i hlt;rw [lU oQ] at hd;cases hd
  ·rfl
 cases t with
 | true=>exact k1 rfl ts (by rw [<- h1,<- hs _ rfl]; exact hE)
 | false=>exact k0 rfl ts (by rw [<- h0,<- hs _ rfl]; exact hE)
theorem TQ.pure (hT:ShQ P main T) (hkd:kdf≠.early) {g:FuncId} {as0:Array Operand} {ats:Array TypeId} {e:Array Value->Sem Value} {v:Value} [hx:Ext P g e] (ho:ops[q]? =some o) (hop:o.op=.call { callee:=.value (.func g),args:=as0,argTypes:=ats }) (h:(TQ φ0 P T kdf f cs de) (.inRegion ops rest::k) env') (he:e=(fun _=>Sem.pure v):=by rfl) (hw:zK ops env o=some true:=by rfl) (hd:zO env o.dst (.v v)=env':=by exact zu rfl tQ):(TQ φ0 P T kdf f cs de) (.inRegion ops (q::rest)::k) env:=fun ts hE=>by
 obtain ⟨fn,e1,e2,e3,e4,e5⟩:=hx.h;subst he;have hP:=yo (a:=⟨ts,[]⟩) hE (RelV.v (φ:=φ0) (n:=0) v) o.dst;rw [hd] at hP;refine hT _ _ Z Z (fun w=>?_) (h _ hP);rw [fr_at,stepG_entry_pure (b:=bf kdf f) (a:=⟨ts,de⟩) v ho (zJ (ts:=ts) hE hw) hkd hop e1 e2 e3 e4 e5,yd];rfl
theorem TQ.defer (hT:ShQ P main T) (hkd:kdf≠.early) {g:FuncId} {ats:Array TypeId} (ho:ops[q]? =some o) (hop:o.op=.defer { callee:=.value (.func g),args:=#[],argTypes:=ats }) (h:TQ φ0 P T kdf f cs (dcall g #[]::de) (.inRegion ops rest::k) env') (hw:zK ops env o=some true:=by rfl) (hd:zO env o.dst (.v undef)=env':=by first | exact putN rfl | exact zu rfl tQ):(TQ φ0 P T kdf f cs de) (.inRegion ops (q::rest)::k) env:=fun ts hE=>by
 have hP:=yo (a:=⟨ts,[]⟩) hE (RelV.v (φ:=φ0) (n:=0) undef) o.dst;rw [hd] at hP;refine hT _ _ Z Z (fun w=>?_) (h _ hP);have e:(#[]:Array Operand).map (⟨ts,de⟩:Act).eval=#[]:=by simp
 rw [fr_at,stepG_defer (b:=bf kdf f) (a:=⟨ts,de⟩) ho (zJ (ts:=ts) hE hw) hkd hop,e,yd];rfl
def CallQ (P:Program) (T:Goroutine->Prop) (g:FuncId) (vs:List Value) (R:Value->(Goroutine->Prop)->Prop):Prop :=
 ∀ (c:Frame) (cs:List Frame),(∀ T' v,R v T'->T' (G (c.finish v) cs))->T (G (Frame.enter P g vs.toArray .normal) (c::cs))
theorem zay (n:Nat) {g:FuncId} {fn:Func} {c:Code} {vs:List Value} {R:Value->(Goroutine->Prop)->Prop} (hf:P.funcs[g]? =some fn)
  (h:∀ (c0:Frame) (cs:List Frame),(∀ T' v,R v T'->T' (G (c0.finish v) cs))->TQ (fun _=>⟨0,0,0⟩) P T .normal g (c0::cs) [] [.code c] (vs.map .v++mB (n - (vs.map AV.v).length) .any)) (hb:fn.body=some c:=by rfl) (hn:fn.ntmps=n:=by rfl):CallQ P T g vs R:=by
 subst hn;intro c0 cs hfin;rw [kM vs.toArray hf hb];exact h c0 cs hfin _ (yS (zc1 _ _ vs) _)
theorem TQ.call (hT:ShQ P main T) (hkd:kdf≠.early) {g:FuncId} {ars:Array Operand} {at_:Array TypeId} {vs:List Value} {R:Value->(Goroutine->Prop)->Prop} {env2:Value->List AV} (ho:ops[q]? =some o) (hop:o.op=.call { callee:=.value (.func g),args:=ars,argTypes:=at_ }) (hargs:ars.toList.map (zI gN env)=vs.map .v) (hc:CallQ P T g vs R)
  (h:∀ v T',R v T'->TQ φ0 P T' kdf f cs de (.inRegion ops rest::k) (env2 v)) (hw:zK ops env o=some true:=by rfl) (hg:yj P g=true:=by exact Cal.h) (he:∀ v,zO env o.dst (.v v)=env2 v:=by exact fun _=>zu rfl tQ):(TQ φ0 P T kdf f cs de) (.inRegion ops (q::rest)::k) env:=fun ts hE=>by
 have hfin:=fun v=>yU kdf f none ts de ops q rest k v;simp only [ho,Option.bind_some] at hfin;refine hT _ (G (Frame.enter P g vs.toArray .normal) (fr kdf f none ts de (.inRegion ops (q::rest)::k)::cs)) Z Z (fun w=>?_) (hc _ cs fun T' v hr=>?_)
 ·have hv:=zbt (y9 φ0 0) hE hargs;have hcf:zR P (callFunc g vs.toArray)=some (.enter g vs.toArray):=by
   unfold yj at hg;split at hg
   ·rename_i fn' ef;simp only [mX,mV] at hg;show zR P (match P.funcs[g]? with | none=>_ | some fn=>_)=_;rw [ef];simp only [hg.1,mU,if_false];have hb:fn'.body.isNone=false:=by
     cases e':fn'.body with
     | none=>rw [e'] at hg; simp at hg
     | some _=>rfl
    simp only [hb,mU,if_false];rfl
   ·cases hg
  have hp:zR P (execOp (evT ts) o)=some (.enter g vs.toArray):=by
   unfold execOp;rw [hop];dsimp only;show zR P (Deferred.ofValue (.func (.func g) #[] #[]) (ars.map (evT ts)) >>= fun d=>invoke d.target d.args)=_;rw [hv];show zR P (callFunc g ((#[]++vs.toArray)++#[]))=_;rw [mK,Array.append_empty];exact hcf
  obtain ⟨e1,e2⟩:=kO _ hp w;rw [vh hkd ho (zJ hE hw) (by rw [hop]; rfl)];simp only [stepG.apply,Sem.runT_eq,e1,e2];simp [fr,GStep.after,hkd,seen_none];rfl
 ·rw [hfin];have hP:=yo (a:=⟨ts,[]⟩) hE (RelV.v (φ:=φ0) (n:=0) v) o.dst;rw [he] at hP;exact h v T' hr _ hP
theorem TQ.ret (hT:ShQ P main T) {fn:Func} {c0:Frame} {r:Value} (hf:P.funcs[f]? =some fn) (hres:∀ ts,zG φ0 0 env ts->zR P (results fn ts)=some r) (hfin:T (G (c0.finish r) cs)):TQ φ0 P T .normal f (c0::cs) [] (.code .ret::k) env:=fun ts hE=>by
 refine hT _ _ Z Z (fun _=>wV) (hT _ _ rfl rfl (fun w=>?_) hfin);obtain ⟨e1,e2⟩:=kO _ (hres ts hE) w;exact stepG_leave (b:=bf .normal f) (a:=⟨ts,[]⟩) rfl rfl hf e1 e2
theorem TQ.ret0 (hT:ShQ P main T) {fn:Func} {c0:Frame} {r:Value} (hf:P.funcs[f]? =some fn) (hres:∀ ts,zG φ0 0 env ts->zR P (results fn ts)=some r) (hfin:T (G (c0.finish r) cs)):TQ φ0 P T .normal f (c0::cs) [] [] env:=fun ts hE=>by
 refine hT _ _ Z Z (fun _=>wC) (hT _ _ rfl rfl (fun w=>?_) hfin);obtain ⟨e1,e2⟩:=kO _ (hres ts hE) w;exact stepG_leave (b:=bf .normal f) (a:=⟨ts,[]⟩) rfl rfl hf e1 e2
end
end Go.Vel
end
