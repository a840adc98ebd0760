/- Texts for the law SeekerRolled (chapters 8 and 9), part 5. It holds of every program, tape and world that the statements name, as each theorem says. -/
import Derived.Test.YtclnbamaepgfiaaGreatDoorProg
import Derived.Conc.DeferLaws
import Derived.Test.YtclnbamaepgfiaaGreatDoorR3
open Go renaming Goroutine -> gG, TypeId -> gT, Operand -> gO, Program -> gP, FuncId -> gF, Value -> gV, CallKind -> gK, Deferred -> gD, Oper -> gB, IntKind -> gJ, Frame -> gQ
open Bool renaming true -> tt, false -> ff
section
set_option linter.all false
set_option maxRecDepth 20000
set_option maxHeartbeats 60000000
open Go.Proofs.Tryz renaming prog -> tp
open List renaming getElem?_eq_some_iff -> lD, mem_cons -> lI, mem_cons_of_mem -> lL, getElem?_set_ne -> lP, getElem?_map -> lQ, append_nil -> lR, getElem?_eq_none -> lU, getElem?_set -> lX, mem_map -> lY, replicate -> mB
open Array renaming getElem?_eq_getElem -> mD, getElem?_toList -> mI, getElem?_map -> mJ, empty_append -> mK
open Nat renaming le_refl -> mL, lt_of_lt_of_le -> mM, zero_lt_one -> mS, le_trans -> mT
open Bool renaming false_eq_true -> mU
open Option renaming map_eq_some_iff -> mY
namespace Go.Vel
open Go Go.Conc
section
variable {P:gP}{gm:Nat->Option Nat}{T:gG->Hp->Prop}{Y:KX P gm T}{ds:List Nat}{k:List Item}{Wq Wk:List AV}{K K':KV}{Qy:Array gB}{i d:Nat}{L':List Nat}{o:gB}{r:AV}{Wy Wx:List Pd}
theorem TD.z(s:List Nat)(ho:Qy[i]? =some o)(hq:∀ A,zU [] A->OpOk P gm (onl s Wq) A o r A)(h:TD Y ds Qy k (⟨i,s,[]⟩::Wy) L' Wk K)(hd:yp o.op=ff:=by rfl)(hw:zM Qy (onl s Wq) o=some tt:=by rfl)(hc:chkQ Qy Wy s i Wq.length o.dst=tt:=by rfl)(hx:o.dst=some d:=by rfl)(he:Wq.set d r=Wk:=by simp only[List.set];rfl):TD Y ds Qy k Wy (i::L') Wq K :=
 TD.q s [] ho hd hw hc sQ hq (zD hx he) h
theorem TD.y(s:List Nat){x:Nat×AObj}(ho:Qy[i]? =some o)(hm:x∈K:=by repeat (first|exact List.Mem.head _|assumption|apply List.Mem.tail))(hq:∀ A,zU [x] A->OpOk P gm (onl s Wq) A o r A)(h:TD Y ds Qy k (⟨i,s,[x]⟩::Wy) L' Wk K)(hd:yp o.op=ff:=by rfl)(hw:zM Qy (onl s Wq) o=some tt:=by rfl)(hc:chkQ Qy Wy s i Wq.length o.dst=tt:=by rfl)(hx:o.dst=some d:=by rfl)(he:Wq.set d r=Wk:=by simp only[List.set];rfl):TD Y ds Qy k Wy (i::L') Wq K :=
 TD.q s [x] ho hd hw hc (fun y hy=>by rw[List.mem_singleton.1 hy];exact hm) hq (zD hx he) h
theorem TD.u(s:List Nat)(ho:Qy[i]? =some o)(h:TD Y ds Qy k (⟨i,s,[]⟩::Wy) L' Wk K)(hw:zM Qy (onl s Wq) o=some ff:=by rfl)(hc:chkQ Qy Wy s i Wq.length o.dst=tt:=by rfl)(he:zV Wq o.dst (.v undef)=Wk:=by first|exact zD rfl tQ|exact putN rfl):TD Y ds Qy k Wy (i::L') Wq K :=
 TD.unwanted s ho hw hc he h
theorem TD.s{j:Nat}{ob ob':AObj}(s:List Nat)(ho:Qy[i]? =some o)(hp':pendOf Qy i Wy=Wx)(hq:∀ A,zU K A->OpOk P gm (onl s Wq) A o r (A.set j ob'))(h:TD Y ds Qy k Wx L' Wq K')(hu:Upd K j ob j ob' K':=by repeat (first|exact Upd.head|apply Upd.tail))(hv:∀ p∈Wx,∀ x∈p.V,x∈K':=by simp)(hd:yp o.op=ff:=by rfl)(hw:zM Qy (onl s Wq) o=some tt:=by rfl)(hc:chkC Qy Wx L' s i o.dst=tt:=by rfl)(hx:o.dst=none:=by rfl):TD Y ds Qy k Wy (i::L') Wq K :=
 TD.cst s ho hd hw hp' hc hq hu (putN hx) hv h
theorem TD.as(s:List Nat)(ho:Qy[i]? =some o)(hp':pendOf Qy i Wy=Wx)(hq:Qk P gm (onl s Wq) K o r)(h:TD Y ds Qy k Wx L' Wk K)(hv:∀ p∈Wx,∀ x∈p.V,x∈K:=by simp)(hd:yp o.op=ff:=by rfl)(hw:zM Qy (onl s Wq) o=some tt:=by rfl)(hc:chkC Qy Wx L' s i o.dst=tt:=by rfl)(hx:o.dst=some d:=by rfl)(he:Wq.set d r=Wk:=by simp only[List.set];rfl):TD Y ds Qy k Wy (i::L') Wq K :=
 TD.cq s ho hd hw hp' hc hq (zD hx he) hv h
theorem TD.cl{fo:gO}{ars:Array gO}{at_:Array gT}{g:gF}{fs cp args:List AV}{Kf R:KV}{Post:AV->KV->Prop}(s:List Nat)(ho:Qy[i]? =some o)(hp':pendOf Qy i Wy=Wx)(Qw:o.op=.call { callee:=.value fo,args:=ars,argTypes:=at_ })
  (hf:zn gm (onl s Wq) fo=some (.fn g fs cp)) (Qg:fs++ars.toList.map (zT gm (onl s Wq))++cp=args) (hc:zl P T gm g args Kf Post)
  (h:∀ r K',Post r K'->(∀ p∈Wx,∀ x∈p.V,x∈K'++R)/\TD Y ds Qy k Wx L' (Wq.set d r) (K'++R)) (hs:Split K Kf R:=by repeat (first|exact Split.none _|exact Split.all _|(apply Split.rem;repeat (first|exact Rem.head|apply Rem.tail))|apply Split.right)) (hw:zM Qy (onl s Wq) o=some tt:=by rfl) (hc':chkC Qy Wx L' s i o.dst=tt:=by rfl) (hg:yk P g=tt:=by exact Cal.h) (hx:o.dst=some d:=by rfl):TD Y ds Qy k Wy (i::L') Wq K :=
 TD.call' s ho hw hp' hc' Qw hf hg Qg hc hs fun r K' hp=>by rw[hx];exact h r K' hp
theorem TD.clE{fo:gO}{ars:Array gO}{at_:Array gT}{g:gF}{fs cp args:List AV}{Kf R K1:KV}{v:AV}(s:List Nat)(ho:Qy[i]? =some o)(hp':pendOf Qy i Wy=Wx)(Qw:o.op=.call { callee:=.value fo,args:=ars,argTypes:=at_ })
  (hf:zn gm (onl s Wq) fo=some (.fn g fs cp)) (Qg:fs++ars.toList.map (zT gm (onl s Wq))++cp=args) (hc:zl P T gm g args Kf (fun r K'=>r=v/\K'=K1))
  (h:TD Y ds Qy k Wx L' (Wq.set d v) (K1++R)) (hs:Split K Kf R:=by repeat (first|exact Split.none _|exact Split.all _|(apply Split.rem;repeat (first|exact Rem.head|apply Rem.tail))|apply Split.right)) (hv:∀ p∈Wx,∀ x∈p.V,x∈K1++R:=by simp) (hw:zM Qy (onl s Wq) o=some tt:=by rfl) (hc':chkC Qy Wx L' s i o.dst=tt:=by rfl) (hg:yk P g=tt:=by exact Cal.h) (hx:o.dst=some d:=by rfl):TD Y ds Qy k Wy (i::L') Wq K :=
 TD.cl s ho hp' Qw hf Qg hc (fun r K' hp=>by rw[hp.1,hp.2];exact⟨hv,h⟩) hs hw hc' hg hx
end
structure Tag(s:List Nat):Prop where
structure RunS(s:List Nat)(l:List (List Nat))(G:Prop):Prop where
 go:G
structure RunD(l:List (List Nat))(G:Prop):Prop where
 go:G
theorem Dc(c:Nat){s:List Nat}{l:List (List Nat)}{G:Prop}(h:RunS s l G):RunD ((c::s)::l) G:=⟨h.go⟩
theorem Ds{s:List Nat}{l:List (List Nat)}{A B:Prop}(f:Tag s->A->B)(h:RunD l A):RunS s l B:=⟨f ⟨⟩ h.go⟩
section
variable {P:gP}{gm:Nat->Option Nat}{T:gG->Hp->Prop}{Y:KX P gm T}{ds:List Nat}{k:List Item}{Wq Wk:List AV}{K:KV}{Qy:Array gB}{i d id:Nat}{s L':List Nat}{o:gB}{r:AV}{Wy:List Pd}
theorem TK.dr(L ρg:List Nat)(h:TD Y ds Qy k [] L Wq K)(hd:drawnOk Qy (List.range Qy.size) ρg=tt:=by kernel_rfl)(hL:(List.range Qy.size).all (fun i=>L.elem i) && L.all (fun i=>decide (i < Qy.size))=tt:=by kernel_rfl):TK Y ds (.code (.region id Qy tt)::k) Wq K:=TK.draw L ρg hd hL h
theorem TD.q0(t:Tag s)(ho:Qy[i]?=some o)(hq:∀ A,zU [] A->OpOk P gm (onl s Wq) A o r A)(h:TD Y ds Qy k (⟨i,s,[]⟩::Wy) L' Wk K)(hd:yp o.op=ff:=by rfl)(hw:zM Qy (onl s Wq) o=some tt:=by rfl)(hc:chkQ Qy Wy s i Wq.length o.dst=tt:=by rfl)(hx:o.dst=some d:=by rfl)(he:Wq.set d r=Wk:=by simp only[List.set];rfl):TD Y ds Qy k Wy (i::L') Wq K:=TD.z s ho hq h hd hw hc hx he
theorem TD.ld(t:Tag s){x:Nat×AObj}(ho:Qy[i]?=some o)(hq:∀ A,zU [x] A->OpOk P gm (onl s Wq) A o r A)(h:TD Y ds Qy k (⟨i,s,[x]⟩::Wy) L' Wk K)(hm:x ∈ K:=by repeat (first|exact List.Mem.head _|assumption|apply List.Mem.tail))(hd:yp o.op=ff:=by rfl)(hw:zM Qy (onl s Wq) o=some tt:=by rfl)(hc:chkQ Qy Wy s i Wq.length o.dst=tt:=by rfl)(hx:o.dst=some d:=by rfl)(he:Wq.set d r=Wk:=by simp only[List.set];rfl):TD Y ds Qy k Wy (i::L') Wq K:=TD.y s ho hm hq h hd hw hc hx he
theorem TD.a0(t:Tag s)(h:TD Y ds Qy k [] L' Wk K)(ho:Qy[i]?=some o:=by rfl)(hp:pendOf Qy i Wy=[]:=by rfl)(hq:Qk P gm (onl s Wq) K o r:=by exact zI rfl rfl)(hd:yp o.op=ff:=by rfl)(hw:zM Qy (onl s Wq) o=some tt:=by rfl)(hc:chkC Qy [] L' s i o.dst=tt:=by rfl)(hx:o.dst=some d:=by rfl)(he:Wq.set d r=Wk:=by simp only[List.set];rfl):TD Y ds Qy k Wy (i::L') Wq K:=TD.as s ho hp hq h (fun _ q=>(List.not_mem_nil q).elim) hd hw hc hx he
theorem TK.dq[rl:RgL Qy L'](ρg:List Nat)(h:TD Y ds Qy k [] L' Wq K)(hd:drawnOk Qy (List.range Qy.size) ρg=tt:=by kernel_rfl)(hL:(List.range Qy.size).all (fun i=>L'.elem i) && L'.all (fun i=>decide (i < Qy.size))=tt:=by kernel_rfl):TK Y ds (.code (.region id Qy tt)::k) Wq K:=TK.draw L' ρg hd hL h
theorem TD.u0(t:Tag s)(h:TD Y ds Qy k (⟨i,s,[]⟩::Wy) L' Wk K)(ho:Qy[i]?=some o:=by rfl)(hw:zM Qy (onl s Wq) o=some ff:=by rfl)(hc:chkQ Qy Wy s i Wq.length o.dst=tt:=by rfl)(he:zV Wq o.dst (.v undef)=Wk:=by first|exact zD rfl (by simp only[List.set];rfl)|exact putN rfl):TD Y ds Qy k Wy (i::L') Wq K:=TD.u s ho h hw hc he
end
theorem ad(l:List (List Nat)){G G':Prop}(h:G') (hs:Hide G'->RunD l G:=by
  intro hid;repeat (first
    | (refine Dc 1 ?_;refine Ds (fun t h=>TD.q0 t rfl (zb rfl rfl) h) ?_)
    | (refine Dc 2 ?_;refine Ds (fun t h=>TD.q0 t rfl (zk rfl rfl rfl zp.h (by omega) (by omega)) h) ?_)
    | (refine Dc 3 ?_;refine Ds (fun t h=>TD.q0 t rfl (zi rfl rfl zm.h (by decide)) h) ?_)
    | (refine Dc 4 ?_;refine Ds (fun t h=>TD.q0 t rfl (q_cmp rfl rfl rfl rfl) h) ?_)
    | (refine Dc 5 ?_;refine Ds (fun t h=>TD.q0 t rfl (yM rfl rfl rfl) h) ?_)
    | (refine Dc 6 ?_;refine Ds (fun t h=>TD.q0 t rfl (yu rfl rfl rfl) h) ?_)
    | (refine Dc 7 ?_;refine Ds (fun t h=>TD.q0 t rfl (y9 rfl rfl rfl) h) ?_)
    | (refine Dc 8 ?_;refine Ds (fun t h=>TD.q0 t rfl (q_add rfl rfl rfl (by omega)) h) ?_)
    | (refine Dc 9 ?_;refine Ds (fun t h=>TD.q0 t rfl (q_sub rfl rfl rfl (by omega)) h) ?_)
    | (refine Dc 10 ?_;refine Ds (fun t h=>TD.ld t rfl (zg rfl rfl ze.h (List.Mem.head _) rfl) h) ?_)
    | (refine Dc 11 ?_;refine Ds (fun t h=>TD.u0 t h) ?_)
    | (refine Dc 12 ?_;refine Ds (fun t h=>TD.ld t rfl (zK rfl rfl ze.h (List.Mem.head _) rfl) h) ?_)
    | (refine Dc 13 ?_;refine Ds (fun t h=>TD.a0 t h) ?_)
    | (refine Dc 14 ?_;refine Ds (fun t h=>TD.fin h) ?_))
  exact RunD.mk (l:=[]) hid.out):G:=(hs ⟨h⟩).go
end Go.Vel
namespace Go.Vel
open Go Go.Conc Go.Proofs
open Go.ConcN (sumTo upd upd_ne upd_same)
open Go.ConcM (OsLater MuAt muA msA)
open Go.ConcR (KK wgBlock WgAt stA smA mk rd wr)
open Mx (TT Th Mn S4 auto Mv4 ok4 bl4 kd dl MPc Pc okW okM Mv nx4 cnt newOf)
instance:Ext tp 168 (Extern.Atomic.casT (.int .i32)):=⟨_,Tryz.func168,by kernel_rfl,by kernel_rfl,by kernel_rfl,by kernel_rfl⟩
instance:Ext tp 170 (Extern.Atomic.update (Op.intArith .add) .i32 tt):=⟨_,Tryz.func170,by kernel_rfl,by kernel_rfl,by kernel_rfl,by kernel_rfl⟩
instance:Ext tp 186 (Extern.Sync.canSpin):=⟨_,Tryz.func186,by kernel_rfl,by kernel_rfl,by kernel_rfl,by kernel_rfl⟩
instance:Ext tp 187 (fun _=>pure (.tuple #[])):=⟨_,Tryz.func187,by kernel_rfl,by kernel_rfl,by kernel_rfl,by kernel_rfl⟩
instance:Ext tp 189 (Extern.OsHooks.nano):=⟨_,Tryz.func189,by kernel_rfl,by kernel_rfl,by kernel_rfl,by kernel_rfl⟩
instance:Ext tp 190 (Extern.Sync.semacquire):=⟨_,Tryz.func190,by kernel_rfl,by kernel_rfl,by kernel_rfl,by kernel_rfl⟩
instance:Ext tp 192 (Extern.Sync.semrelease):=⟨_,Tryz.func192,by kernel_rfl,by kernel_rfl,by kernel_rfl,by kernel_rfl⟩
instance:Ext tp 123 (fun _=>do mark .disable;pure Extern.Race.none_):=⟨_,Tryz.func123,by kernel_rfl,by kernel_rfl,by kernel_rfl,by kernel_rfl⟩
instance:Ext tp 124 (fun _=>do mark .enable;pure Extern.Race.none_):=⟨_,Tryz.func124,by kernel_rfl,by kernel_rfl,by kernel_rfl,by kernel_rfl⟩
instance:Ext tp 139 (Extern.Race.marked .acquire):=⟨_,Tryz.func139,by kernel_rfl,by kernel_rfl,by kernel_rfl,by kernel_rfl⟩
instance:Ext tp 122 (Extern.Race.marked .releaseMerge):=⟨_,Tryz.func122,by kernel_rfl,by kernel_rfl,by kernel_rfl,by kernel_rfl⟩
instance:ExtQ tp 189:=⟨fun fn h=>by rw[Tryz.func189]at h;cases h;kernel_rfl⟩
theorem ld21{o:gB}{c:gO}(Qw:o.op=.load 21 c)(ev:gO->gV)(w:World)(a:Addr)(v:gV)(hx:ev c=.pointer (some a))(hc:w.cell? a=some v):(execOp ev o).run tp w=.ok (.value v) w/\(execOp ev o).events tp w #[]=#[⟨.cell a,ff,ff⟩]:=by
 have e1:tp.info? 21=some Tryz.t21:=by kernel_rfl
 unfold execOp;rw[Qw];constructor
 ·simp[hx,hc,go_sem,e1]
 ·simp[hx,hc,go_sem,e1]
theorem nr212:(tp.funcs[(169:gF)]?).any (·.norace)=tt:=by rw[Tryz.func169];kernel_rfl
theorem nr214:(tp.funcs[(171:gF)]?).any (·.norace)=tt:=by rw[Tryz.func171];kernel_rfl
theorem nr179:(tp.funcs[(138:gF)]?).any (·.norace)=tt:=by rw[Tryz.func138];kernel_rfl
theorem uP256:tp.underlying 252=some (.pointer 168):=by kernel_rfl
theorem uP219:tp.underlying 208=some .unsafePointer:=by kernel_rfl
theorem z192:(tp.info? 168).map (fun i=>decide (i.size=0))=some ff:=by kernel_rfl
instance:zm tp 168 0 0 ff 1:={}
instance:zm tp 168 1 1 ff 1:={}
instance:zm tp 170 1 0 tt 2:={}
set_option linter.unusedVariables false in
theorem zgK{gm:Nat->Option Nat}{main:Bool}{Ch:Nat->gG->Hp->Prop}(y:Sy tp){lo:Nat×Loc3}{PL:(Nat->Bool)->KV->Prop}{k i:Nat}{x:Nat->Bool}(hGI:GIn y lo i PL) :
  CallS tp gm lo (y.Sf main Ch k i (.w { pc:=.r0 }) x) 169 [.v (.pointer (some ⟨y.Mu,0,none⟩))] [(lo.1,.gone)] (LockR y main Ch k i PL):=by
 refine wW 139 (y.shutF _ _ _ _ _ _) Tryz.func169 fun φ0 c0 cs A0 hl1 hl2 Wz=>?_;refine au 1423542354235423542 ?_;refine TK.a Z (yE Z Z) ?_;refine TK.a Z (yj Z Z zm.h dQ) ?_;refine TK.sLoad (fun v=>.w (Mx.hd { pc:=.r0,old:=v })) rfl rfl rfl rfl (ld21 Z) nr212 (fun s _=>mx0 (.r0 rfl)) (fun v=>hd_dl _) (fun v=>wP _) (fun v=>hd_kd _) fun s hok k1 hk1=>?_;refine au 130235 ?_;refine TK.maskL [0,2,3,4,5,6] ?_;have hmu:=hok.1;refine TK.loopS (ι:=Th×Int) (fun b=>.w (Mx.hd b.1)) (fun b=>wP b.1) (fun(b:Th×Int) Wq K=>b.1.old<256/\(b.1.aw=tt->Mx.wk b.1.old=1)/\(b.1.sv=tt->b.1.aw=tt)/\b.1.it<=4/\K=[(lo.1,AObj.gone)]/\Wq=[.v (.pointer (some ⟨y.Mu,0,none⟩)),.any,.v (.int .i64 b.2),.v (.bool b.1.sv),.v (.bool b.1.aw),.v (.int .i64 ((b.1.it:Nat):Int)),.v (.int .i32 ((b.1.old:Nat):Int)),.any,.any,.any,.any,.any,.any,.any,.any,.any,.any,.any,.any,.any,.any,.any,.any,.any,.any,.any,.any,.any,.any,.any,.any,.any,.any,.any,.any,.any,.any,.any,.any,.any,.any,.any,.any,.any,.any,.any,.any,.any,.any,.any,.any,.any,.any,.any,.any,.any,.any,.any,.any,.any,.any,.any,.any,.any,.any,.any,.any,.any,.any,.any,.any,.any,.any,.any,.any,.any,.any,.any,.any,.any,.any,.any,.any,.any,.any,.any,.any,.any,.any,.any,.any,.any,.any,.any,.any,.any,.any,.any,.any,.any,.any,.any,.any,.any,.any,.any,.any,.any,.any,.any,.any,.any,.any,.any,.any,.any,.any,.any,.any,.any,.any,.any,.any,.any,.any,.any,.any,.any,.any,.any,.any,.any,.any,.any,.any,.any,.any,.any,.any]) ({ pc:=.r0,old:=s.mu },0) ⟨hmu,(fun h=>by cases h),(fun h=>by cases h),by show 0<=4;omega,rfl,rfl⟩ rfl ?_;clear hok hmu s;rintro k2 hk2 ⟨⟨p0,old,n0,aw,sv,it⟩,wst⟩ Wq K ⟨hold,haw,hsv,hit,rfl,rfl⟩ ih;dsimp only at hold haw hsv hit ⊢;obtain⟨hn1,hn2,hn3⟩:=zo5 old hold;obtain⟨hn3,hn4,hn5⟩:=hn3 sv;have hn5:=hn5 aw haw;refine au 22130 ?_;refine TK.splitS (ι:=Unit) (fun _=>.w { pc:=.c2,old:=old,nw:=newOf old aw sv,aw:=aw,sv:=sv,it:=it }) (fun _=>rfl) (fun _=>True) (fun _=>[.v (.pointer (some ⟨y.Mu,0,none⟩)),.any,.v (.int .i64 wst),.v (.bool sv),.v (.bool aw),.v (.int .i64 ((it:Nat):Int)),.v (.int .i32 ((old:Nat):Int)),.any,.any,.any,.any,.any,.any,.any,.any,.any,.any,.any,.any,.any,.any,.any,.any,.any,.any,.any,.any,.any,.any,.any,.any,.any,.any,.any,.any,.any,.any,.any,.any,.any,.any,.any,.any,.any,.any,.any,.any,.any,.any,.any,.any,.any,.any,.any,.any,.any,.any,.any,.any,.any,.any,.any,.any,.any,.any,.any,.any,.any,.any,.any,.any,.any,.any,.any,.any,.any,.any,.any,.any,.any,.any,.any,.any,.any,.any,.any,.any,.any,.any,.any,.any,.any,.any,.any,.any,.any,.any,.any,.any,.any,.any,.any,.any,.any,.any,.any,.any,.any,.any,.any,.any,.any,.any,.any,.any,.any,.any,.any,.any,.any,.any,.any,.any,.any,.any,.any,.any,.any,.any,.any,.any,.any,.any,.any,.any,.any,.any,.any,.any]) [(lo.1,AObj.gone)] (fun hsh=>?_) ?_
 ·refine au 14 ?_;refine TK.a Z (yV Z Z Z (.inl Z) (bA5 old hold)) ?_;refine au 17 ?_;refine TK.sp 17 (fun g5_4=>?_) (fun g5_4=>?_)
  ·have hsq:Mx.lk old=1/\Mx.st old=0:=by simp at g5_4;dsimp only[Mx.st,Mx.lk,Mx.wk,Mx.wt]at *;omega
   refine TK.castT (T':=.w { pc:=.sq,old:=old,nw:=n0,aw:=aw,sv:=sv,it:=it }) Z (congrArg TT.w (if_pos hsq)) ?_;refine au 1 ?_;refine TK.sSpin (.w (if aw=ff/\Mx.wk old=0/\Mx.wt old≠0 then { pc:=.c1,old:=old,nw:=n0,aw:=aw,sv:=sv,it:=it } else { pc:=.r1,old:=old,nw:=n0,aw:=aw,sv:=sv,it:=it })) (.w { pc:=.c2,old:=old,nw:=newOf old aw sv,aw:=aw,sv:=sv,it:=it }) it Z Z Z Z (fun s _ h4=>?_) (fun s _=>mx0 (.sqn rfl)) ⟨by split <;> rfl,rfl⟩ (by split <;> rfl) rfl (by split <;> exact fun h=>by cases h) (fun h=>by cases h) (fun hi4 k3 hk3=>?_) (fun k3 hk3=>?_);rotate_left
   ·refine au 130014221803260 ?_;refine TK.sp 23 (fun g6_3=>?_) (fun g6_3=>?_)
    ·refine au 1 ?_;refine TK.a Z (yV Z Z Z (.inl Z) (bA2 old oQ)) ?_;refine au 12607 ?_;refine TK.sp 28 (fun g6_8=>?_) (fun g6_8=>?_)
     ·refine au 1 ?_;refine TK.a Z (q_sh Z Z Z dQ (r:=((old / 8:Nat):Int)) (by show((old:Nat):Int) / 8=((old / 8:Nat):Int);omega)) ?_;refine au 12607 ?_;refine TK.sp 33 (fun g6_13=>?_) (fun g6_13=>?_)
      ·have ha1:aw=ff:=by simpa using g6_3
       have ha2:Mx.wk old=0:=by simp at g6_8;dsimp only[Mx.st,Mx.lk,Mx.wk,Mx.wt]at *;omega
       have ha3:Mx.wt old≠0:=by simp at g6_13;dsimp only[Mx.st,Mx.lk,Mx.wk,Mx.wt]at *;omega
       refine TK.castT (T':=.w { pc:=.c1,old:=old,nw:=n0,aw:=aw,sv:=sv,it:=it }) Z (congrArg TT.w (if_pos ⟨ha1,ha2,ha3⟩)) ?_;refine au 1 ?_;refine TK.a Z (yE Z Z) ?_;refine TK.a Z (yj Z Z zm.h dQ) ?_;refine au 11 ?_;refine TK.a Z (yV Z Z Z (.inr (.inl Z)) (bO2 old oQ)) ?_;have hnew:old - 2*(old / 2 % 2)+2=old+2:=by dsimp only[Mx.st,Mx.lk,Mx.wk,Mx.wt]at *;omega
       refine TK.sCas (.w { pc:=.r1,old:=old,nw:=n0,aw:=tt,sv:=sv,it:=it }) (.w { pc:=.r1,old:=old,nw:=n0,aw:=aw,sv:=sv,it:=it }) old (old - 2*(old / 2 % 2)+2) Z Z Z Z Z Z (fun s _ e=>by rw[hnew];exact mxM (.c1h rfl e)) (fun s _ e=>mx0 (.c1m rfl e)) ⟨mS,rfl,rfl⟩ rfl rfl (fun h=>by cases h) (fun h=>by cases h) (fun k4 hk4=>?_) (fun k4 hk4=>?_)
       ·refine au 423541803260 ?_;refine TK.sPure Z Z ?_;refine au 1423 ?_;refine TK.a Z (q_add Z Z Z oQ) ?_;refine au 14235 ?_;refine TK.a Z (yE Z Z) ?_;refine TK.a Z (yj Z Z zm.h dQ) ?_;refine TK.sLoad (fun v=>.w (Mx.hd { pc:=.r1,old:=v,nw:=n0,aw:=tt,sv:=sv,it:=it+1 })) rfl rfl rfl rfl (ld21 Z) nr212 (fun s _=>mx0 (.r1 rfl)) (fun v=>hd_dl _) (fun v=>wP _) (fun v=>hd_kd _) fun s hok k5 hk5=>?_;refine au 16035 ?_;refine TK.maskL [0,2,3,4,5,6] ?_;exact ih _ ({ pc:=.r1,old:=s.mu,nw:=n0,aw:=tt,sv:=sv,it:=it+1 },wst) _ _ oQ ⟨hok.1,hok.2.2.2.2.2.2,(fun _=>rfl),by show it+1<=4;omega,rfl,rfl⟩
       ·refine au 421201903260 ?_;refine TK.sPure Z Z ?_;refine au 1423 ?_;refine TK.a Z (q_add Z Z Z oQ) ?_;refine au 14235 ?_;refine TK.a Z (yE Z Z) ?_;refine TK.a Z (yj Z Z zm.h dQ) ?_;refine TK.sLoad (fun v=>.w (Mx.hd { pc:=.r1,old:=v,nw:=n0,aw:=aw,sv:=sv,it:=it+1 })) rfl rfl rfl rfl (ld21 Z) nr212 (fun s _=>mx0 (.r1 rfl)) (fun v=>hd_dl _) (fun v=>wP _) (fun v=>hd_kd _) fun s hok k5 hk5=>?_;refine au 16035 ?_;refine TK.maskL [0,2,3,4,5,6] ?_;exact ih _ ({ pc:=.r1,old:=s.mu,nw:=n0,aw:=aw,sv:=sv,it:=it+1 },wst) _ _ oQ ⟨hok.1,hok.2.2.2.2.2.2,hsv,by show it+1<=4;omega,rfl,rfl⟩
      have ha1:¬ Mx.wt old≠0:=by simp at g6_13;dsimp only[Mx.st,Mx.lk,Mx.wk,Mx.wt]at *;omega
      refine TK.castT (T':=.w { pc:=.r1,old:=old,nw:=n0,aw:=aw,sv:=sv,it:=it }) Z (congrArg TT.w (if_neg (fun h=>ha1 h.2.2))) ?_;refine au 4212019032508888888 ?_;refine TK.sPure Z Z ?_;refine au 1423 ?_;refine TK.a Z (q_add Z Z Z oQ) ?_;refine au 14235 ?_;refine TK.a Z (yE Z Z) ?_;refine TK.a Z (yj Z Z zm.h dQ) ?_;refine TK.sLoad (fun v=>.w (Mx.hd { pc:=.r1,old:=v,nw:=n0,aw:=aw,sv:=sv,it:=it+1 })) rfl rfl rfl rfl (ld21 Z) nr212 (fun s _=>mx0 (.r1 rfl)) (fun v=>hd_dl _) (fun v=>wP _) (fun v=>hd_kd _) fun s hok k5 hk5=>?_;refine au 16035 ?_;refine TK.maskL [0,2,3,4,5,6] ?_;exact ih _ ({ pc:=.r1,old:=s.mu,nw:=n0,aw:=aw,sv:=sv,it:=it+1 },wst) _ _ oQ ⟨hok.1,hok.2.2.2.2.2.2,hsv,by show it+1<=4;omega,rfl,rfl⟩
     have ha1:Mx.wk old≠0:=by simp at g6_8;dsimp only[Mx.st,Mx.lk,Mx.wk,Mx.wt]at *;omega
     refine TK.castT (T':=.w { pc:=.r1,old:=old,nw:=n0,aw:=aw,sv:=sv,it:=it }) Z (congrArg TT.w (if_neg (fun h=>ha1 h.2.1))) ?_;refine au 42120190325088888881250888 ?_;refine TK.sPure Z Z ?_;refine au 1423 ?_;refine TK.a Z (q_add Z Z Z oQ) ?_;refine au 14235 ?_;refine TK.a Z (yE Z Z) ?_;refine TK.a Z (yj Z Z zm.h dQ) ?_;refine TK.sLoad (fun v=>.w (Mx.hd { pc:=.r1,old:=v,nw:=n0,aw:=aw,sv:=sv,it:=it+1 })) rfl rfl rfl rfl (ld21 Z) nr212 (fun s _=>mx0 (.r1 rfl)) (fun v=>hd_dl _) (fun v=>wP _) (fun v=>hd_kd _) fun s hok k5 hk5=>?_;refine au 16035 ?_;refine TK.maskL [0,2,3,4,5,6] ?_;exact ih _ ({ pc:=.r1,old:=s.mu,nw:=n0,aw:=aw,sv:=sv,it:=it+1 },wst) _ _ oQ ⟨hok.1,hok.2.2.2.2.2.2,hsv,by show it+1<=4;omega,rfl,rfl⟩
    have ha1:aw=tt:=by simpa using g6_3
    refine TK.castT (T':=.w { pc:=.r1,old:=old,nw:=n0,aw:=aw,sv:=sv,it:=it }) Z (congrArg TT.w (if_neg (fun h=>by rw[ha1]at h;cases h.1))) ?_;refine au 421201903250888888812508881250888 ?_;refine TK.sPure Z Z ?_;refine au 1423 ?_;refine TK.a Z (q_add Z Z Z oQ) ?_;refine au 14235 ?_;refine TK.a Z (yE Z Z) ?_;refine TK.a Z (yj Z Z zm.h dQ) ?_;refine TK.sLoad (fun v=>.w (Mx.hd { pc:=.r1,old:=v,nw:=n0,aw:=aw,sv:=sv,it:=it+1 })) rfl rfl rfl rfl (ld21 Z) nr212 (fun s _=>mx0 (.r1 rfl)) (fun v=>hd_dl _) (fun v=>wP _) (fun v=>hd_kd _) fun s hok k5 hk5=>?_;refine au 16035 ?_;refine TK.maskL [0,2,3,4,5,6] ?_;exact ih _ ({ pc:=.r1,old:=s.mu,nw:=n0,aw:=aw,sv:=sv,it:=it+1 },wst) _ _ oQ ⟨hok.1,hok.2.2.2.2.2.2,hsv,by show it+1<=4;omega,rfl,rfl⟩
   ·refine au 1201903260 ?_;refine TK.maskL [0,2,3,4,5,6] ?_;exact hsh _ () oQ trivial
   ·split
    ·rename_i h;exact mx0 (.sqc rfl h4 h.1 h.2.1 h.2.2)
    ·rename_i h;exact mx0 (.sqr rfl h4 h)
  have hsq:¬ (Mx.lk old=1/\Mx.st old=0):=by simp at g5_4;dsimp only[Mx.st,Mx.lk,Mx.wk,Mx.wt]at *;omega
  refine TK.castT (T':=.w { pc:=.c2,old:=old,nw:=newOf old aw sv,aw:=aw,sv:=sv,it:=it }) Z (congrArg TT.w (if_neg hsq)) ?_;refine au 120190325088 ?_;refine TK.maskL [0,2,3,4,5,6] ?_;exact hsh _ () oQ trivial
 ·intro k3 _ hk3 _;refine au 142235142 ?_;refine TK.a Z (yV Z Z Z (.inl Z) (bA4 old oQ)) ?_;refine au 37 ?_;refine TK.share1 (.v (.pointer (some ⟨y.Mu,0,none⟩))::.any::.v (.int .i64 wst)::.v (.bool sv)::.v (.bool aw)::.v (.int .i64 ((it:Nat):Int))::.v (.int .i32 ((old:Nat):Int))::.v (.int .i32 ((nv1 old:Nat):Int))::naL 131 []) [(lo.1,AObj.gone)] (fun hsh=>?_) ?_
  ·refine au 9 ?_;apply aI<;>intro hc2
   ·refine au 14 ?_;refine TK.a Z (yV Z Z Z (.inr (.inl Z)) (bO1 old oQ)) ?_;refine au 35 ?_;refine TK.maskL [0,2,3,4,5,6,7] ?_;have e7:nv1 old=old - old % 2+1:=by simp at hc2;unfold nv1;rw[if_pos (by dsimp only[Mx.st,Mx.lk,Mx.wk,Mx.wt]at *;omega)]
    rw[e7]at hsh;exact hsh
   ·refine au 120 ?_;refine TK.maskL [0,2,3,4,5,6,7] ?_;have e7:nv1 old=old:=by simp at hc2;unfold nv1;rw[if_neg (by dsimp only[Mx.st,Mx.lk,Mx.wk,Mx.wt]at *;omega)]
    rw[e7]at hsh;exact hsh
  ·refine TK.na nQ ?_;refine au 1422 ?_;refine TK.a Z (yV Z Z Z (.inl Z) (bA5 old hold)) ?_;refine au 37 ?_;refine TK.share1 (.v (.pointer (some ⟨y.Mu,0,none⟩))::.any::.v (.int .i64 wst)::.v (.bool sv)::.v (.bool aw)::.v (.int .i64 ((it:Nat):Int))::.v (.int .i32 ((old:Nat):Int))::.v (.int .i32 ((nv2 old:Nat):Int))::naL 131 []) [(lo.1,AObj.gone)] (fun hsh=>?_) ?_
   ·refine au 9 ?_;apply aI<;>intro hc3
    ·refine au 14 ?_;refine TK.a Z (uz Z Z Z (r:=((nv1 old+8:Nat):Int)) (.inl ⟨rfl,by rw[w32 oQ];omega⟩)) ?_;refine au 35 ?_;refine TK.maskL [0,2,3,4,5,6,7] ?_;have e7:nv2 old=nv1 old+8:=by simp at hc3;unfold nv2;rw[if_pos (by dsimp only[Mx.st,Mx.lk,Mx.wk,Mx.wt]at *;omega)]
     rw[e7]at hsh;exact hsh
    ·refine au 120 ?_;refine TK.maskL [0,2,3,4,5,6,7] ?_;have e7:nv2 old=nv1 old:=by simp at hc3;unfold nv2;rw[if_neg (by dsimp only[Mx.st,Mx.lk,Mx.wk,Mx.wt]at *;omega)]
     rw[e7]at hsh;exact hsh
   ·refine TK.na nQ ?_;refine au 22 ?_;refine TK.splitS (ι:=Unit) (fun _=>.w { pc:=.c2,old:=old,nw:=newOf old aw sv,aw:=aw,sv:=sv,it:=it }) (fun _=>rfl) (fun _=>True) (fun _=>[.v (.pointer (some ⟨y.Mu,0,none⟩)),.any,.v (.int .i64 wst),.v (.bool sv),.v (.bool aw),.v (.int .i64 ((it:Nat):Int)),.v (.int .i32 ((old:Nat):Int)),.v (.int .i32 ((nv3 old sv:Nat):Int)),.any,.any,.any,.any,.any,.any,.any,.any,.any,.any,.any,.any,.any,.any,.any,.any,.any,.any,.any,.any,.any,.any,.any,.any,.any,.any,.any,.any,.any,.any,.any,.any,.any,.any,.any,.any,.any,.any,.any,.any,.any,.any,.any,.any,.any,.any,.any,.any,.any,.any,.any,.any,.any,.any,.any,.any,.any,.any,.any,.any,.any,.any,.any,.any,.any,.any,.any,.any,.any,.any,.any,.any,.any,.any,.any,.any,.any,.any,.any,.any,.any,.any,.any,.any,.any,.any,.any,.any,.any,.any,.any,.any,.any,.any,.any,.any,.any,.any,.any,.any,.any,.any,.any,.any,.any,.any,.any,.any,.any,.any,.any,.any,.any,.any,.any,.any,.any,.any,.any,.any,.any,.any,.any,.any,.any,.any,.any,.any,.any,.any,.any]) [(lo.1,AObj.gone)] (fun hsh=>?_) ?_
    ·refine au 114 ?_;refine TK.sp 61 (fun g16_2=>?_) (fun g16_2=>?_)
     ·refine au 1 ?_;refine TK.a Z (yV Z Z Z (.inl Z) (bA1 old oQ)) ?_;refine au 932607 ?_;apply aI<;>intro hc4
      ·refine au 14 ?_;refine TK.a Z (yV Z Z Z (.inr (.inl Z)) (bO4 (nv2 old) oQ)) ?_;refine au 35 ?_;refine TK.maskL [0,2,3,4,5,6,7] ?_;have e7:nv3 old sv=nv2 old - 4*(nv2 old / 4 % 2)+4:=by simp at hc4;unfold nv3;rw[if_pos ⟨g16_2,by dsimp only[Mx.st,Mx.lk,Mx.wk,Mx.wt]at *;omega⟩]
       rw[e7]at hsh;exact hsh _ () (mL _) trivial
      refine au 120 ?_;refine TK.maskL [0,2,3,4,5,6,7] ?_;have e7:nv3 old sv=nv2 old:=by simp at hc4;unfold nv3;rw[if_neg (fun h=>by have:=h.2;dsimp only[Mx.st,Mx.lk,Mx.wk,Mx.wt]at *;omega)]
      rw[e7]at hsh;exact hsh _ () (mL _) trivial
     refine au 1201903250888 ?_;refine TK.maskL [0,2,3,4,5,6,7] ?_;have e7:nv3 old sv=nv2 old:=by unfold nv3;rw[if_neg (fun h=>by rw[h.1]at g16_2;cases g16_2)]
     rw[e7]at hsh;exact hsh _ () (mL _) trivial
    ·intro k4 _ hk4 _;refine au 31422 ?_;refine TK.share1 (.v (.pointer (some ⟨y.Mu,0,none⟩))::.any::.v (.int .i64 wst)::.v (.bool sv)::.v (.bool aw)::.v (.int .i64 ((it:Nat):Int))::.v (.int .i32 ((old:Nat):Int))::.v (.int .i32 ((newOf old aw sv:Nat):Int))::naL 131 []) [(lo.1,AObj.gone)] (fun hsh=>?_) ?_
     ·refine au 9 ?_;apply aI<;>intro hc5
      ·refine au 1422 ?_;refine TK.a Z (yV Z Z Z (.inl Z) (bA2 (nv3 old sv) hn3)) ?_;refine au 937 ?_;apply aI<;>intro hc6
       ·have:=hn4 (haw hc5);exfalso;simp at hc6;dsimp only[Mx.st,Mx.lk,Mx.wk,Mx.wt]at *
        omega
       refine au 14120 ?_;refine TK.a Z (yV Z Z Z (.inr (.inr Z)) (bN2 (nv3 old sv) hn3)) ?_;refine au 35 ?_;refine TK.maskL [0,2,3,4,5,6,7] ?_;have e7:newOf old aw sv=nv3 old sv - 2*(nv3 old sv / 2 % 2):=by rw[<- hn5];unfold nv4;rw[if_pos hc5]
       rw[<- e7];exact hsh
      ·refine au 120 ?_;refine TK.maskL [0,2,3,4,5,6,7] ?_;have e7:newOf old aw sv=nv3 old sv:=by rw[<- hn5];unfold nv4;rw[if_neg (by rw[hc5];decide)]
       rw[<- e7];exact hsh
     ·refine TK.na nQ ?_;refine au 142 ?_;refine TK.a Z (yE Z Z) ?_;refine TK.a Z (yj Z Z zm.h dQ) ?_;refine au 11 ?_;refine TK.sCas (if Mx.lk old=0/\Mx.st old=0 then .w { pc:=.le } else if wst=0 then .w { pc:=.t1,old:=old,nw:=newOf old aw sv,aw:=aw,sv:=sv,it:=it } else .w { pc:=.s1,old:=old,nw:=newOf old aw sv,aw:=aw,sv:=sv,it:=it }) (.w { pc:=.r3,old:=old,nw:=newOf old aw sv,aw:=aw,sv:=sv,it:=it }) old (newOf old aw sv) Z Z Z Z Z Z (fun s _ e=>?_) (fun s _ e=>mx0 (.c2m rfl e)) ⟨mS,by split <;> first|rfl|(split <;> rfl),rfl⟩ (by split <;> first|rfl|(split <;> rfl)) rfl (by split <;> first|exact fun h=>by cases h|(split <;> exact fun h=>by cases h)) (fun h=>by cases h) (fun k5 hk5=>?_) (fun k5 hk5=>?_);rotate_left
      ·refine au 14221803 ?_;refine TK.a Z (yV Z Z Z (.inl Z) (bA5 old hold)) ?_;refine au 937 ?_;apply aI<;>intro hc8
       ·have h8:Mx.lk old=0/\Mx.st old=0:=by simp at hc8;dsimp only[Mx.st,Mx.lk,Mx.wk,Mx.wt]at *;omega
        refine TK.castT (T':=.w { pc:=.le }) Z (if_pos h8) ?_;refine au 42180160 ?_;refine TK.sMark (.w { pc:=.la }) .enable sQ Z Z Z (fun s _=>mx0 (.le rfl)) (wC 0) rfl (fun k8 hk8=>?_);refine au 143 ?_;refine TK.sConv Z Z Z uP256 uP219 z192 (fun w s h=>⟨_,h.1.cellSt⟩) ?_;refine au 0 ?_;refine TK.acqL Z Z Z Z Z hl1 hl2 hGI fun k9 x5 K5 hk9 hx5 hp5=>?_;refine au 3 ?_;refine TK.rt0a (Wz (hT':=y.shutF _ _ _ _ _ _)) ?_ res_0;exact⟨rfl,_,_,oQ,hx5,hp5,rfl⟩
       have h8:¬ (Mx.lk old=0/\Mx.st old=0):=by simp at hc8;dsimp only[Mx.st,Mx.lk,Mx.wk,Mx.wt]at *;omega
       refine TK.castT (T':=if wst=0 then .w { pc:=.t1,old:=old,nw:=newOf old aw sv,aw:=aw,sv:=sv,it:=it } else .w { pc:=.s1,old:=old,nw:=newOf old aw sv,aw:=aw,sv:=sv,it:=it }) (by split <;> rfl) (if_neg h8) ?_;refine au 22357142120 ?_;obtain⟨w0,hw0⟩:∃ w0:Bool,w0=(wst !=0):=⟨_,rfl⟩;rw[<- hw0];refine TK.splitS (ι:=Int) (fun _=>.w { pc:=.s1,old:=old,nw:=newOf old aw sv,aw:=aw,sv:=sv,it:=it }) (fun _=>rfl) (fun _=>True) (fun wst=>[.v (.pointer (some ⟨y.Mu,0,none⟩)),.any,.v (.int .i64 wst),.v (.bool sv),.any,.any,.any,.any,.v (.bool w0),.any,.any,.any,.any,.any,.any,.any,.any,.any,.any,.any,.any,.any,.any,.any,.any,.any,.any,.any,.any,.any,.any,.any,.any,.any,.any,.any,.any,.any,.any,.any,.any,.any,.any,.any,.any,.any,.any,.any,.any,.any,.any,.any,.any,.any,.any,.any,.any,.any,.any,.any,.any,.any,.any,.any,.any,.any,.any,.any,.any,.any,.any,.any,.any,.any,.any,.any,.any,.any,.any,.any,.any,.any,.any,.any,.any,.any,.any,.any,.any,.any,.any,.any,.any,.any,.any,.any,.any,.any,.any,.any,.any,.any,.any,.any,.any,.any,.any,.any,.any,.any,.any,.any,.any,.any,.any,.any,.any,.any,.any,.any,.any,.any,.any,.any,.any,.any,.any,.any,.any,.any,.any,.any,.any,.any,.any,.any,.any,.any,.any]) [(lo.1,AObj.gone)] (fun hsh=>?_) ?_
       ·refine au 93714 ?_;apply aI<;>intro hc9
        ·have h9:wst=0:=by simpa using hc9
         refine TK.castT (T':=.w { pc:=.t1,old:=old,nw:=newOf old aw sv,aw:=aw,sv:=sv,it:=it }) Z (if_pos h9) ?_;refine au 4 ?_;refine TK.sTime (fun _=>.w { pc:=.s1,old:=old,nw:=newOf old aw sv,aw:=aw,sv:=sv,it:=it }) rfl rfl rfl (fun s t _=>mx0 (.t1 rfl)) (fun _=>rfl) (fun _=>rfl) (fun _ h=>by cases h) fun t k6 hk6=>?_;refine au 35 ?_;refine TK.maskL [0,2,3,8] ?_;exact hsh _ _ oQ trivial
        have h9:¬ wst=0:=by simpa using hc9
        refine TK.castT (T':=.w { pc:=.s1,old:=old,nw:=newOf old aw sv,aw:=aw,sv:=sv,it:=it }) Z (if_neg h9) ?_;refine au 120 ?_;refine TK.maskL [0,2,3,8] ?_;exact hsh _ _ oQ trivial
       ·intro k6 wst2 hk6 _;refine au 142 ?_;refine TK.a Z (yE Z Z) ?_;refine TK.a Z (yj Z Z zm.h dQ) ?_;refine au 1 ?_;refine TK.sSem (if sv=tt then .w { pc:=.r2,old:=old,nw:=newOf old aw sv,aw:=aw,sv:=sv,it:=it } else .w { pc:=.t2,old:=old,nw:=newOf old aw sv,aw:=aw,sv:=sv,it:=it }) Z Z Z Z (fun c hc=>by simp at hc;subst hc;rfl) rfl (fun s _ hz=>?_) ⟨rfl,by split <;> rfl⟩ (by split <;> rfl) (by split <;> exact fun h=>by cases h) fun k7 hk7=>?_
        ·split
         ·rename_i h;exact mxS (.s1s rfl hz h)
         ·exact mxS (.s1 rfl hz)
        refine au 23 ?_;refine TK.shareS (ι:=Bool) (fun b=>.w { pc:=.r2,old:=old,nw:=newOf old aw sv,aw:=aw,sv:=b,it:=it }) (fun _=>rfl) (fun _=>True) (fun b=>[.v (.pointer (some ⟨y.Mu,0,none⟩)),.any,.v (.int .i64 wst2),.v (.bool b),.any,.any,.any,.any,.any,.any,.any,.any,.any,.any,.any,.any,.any,.any,.any,.any,.any,.any,.any,.any,.any,.any,.any,.any,.any,.any,.any,.any,.any,.any,.any,.any,.any,.any,.any,.any,.any,.any,.any,.any,.any,.any,.any,.any,.any,.any,.any,.any,.any,.any,.any,.any,.any,.any,.any,.any,.any,.any,.any,.any,.any,.any,.any,.any,.any,.any,.any,.any,.any,.any,.any,.any,.any,.any,.any,.any,.any,.any,.any,.any,.any,.any,.any,.any,.any,.any,.any,.any,.any,.any,.any,.any,.any,.any,.any,.any,.any,.any,.any,.any,.any,.any,.any,.any,.any,.any,.any,.any,.any,.any,.any,.any,.any,.any,.any,.any,.any,.any,.any,.any,.any,.any,.any,.any,.any,.any,.any,.any,.any,.any,.any,.any,.any,.any,.any]) [(lo.1,AObj.gone)] (fun hsh=>?_) ?_
        ·refine au 114 ?_;refine TK.sp 95 (fun g28_2=>?_) (fun g28_2=>?_)
         ·refine TK.castT (T':=.w { pc:=.r2,old:=old,nw:=newOf old aw sv,aw:=aw,sv:=tt,it:=it }) Z ?_ ?_
          ·rw[if_pos g28_2,g28_2]
          refine au 352608888 ?_;refine TK.maskL [0,2,3] ?_;exact hsh _ tt oQ trivial
         refine TK.castT (T':=.w { pc:=.t2,old:=old,nw:=newOf old aw sv,aw:=aw,sv:=sv,it:=it }) Z (if_neg (by rw[g28_2];decide)) ?_;refine TK.sTime (fun t=>.w { pc:=.r2,old:=old,nw:=newOf old aw sv,aw:=aw,sv:=decide (IntKind.i64.wrap (t - wst2)>1000000),it:=it }) rfl rfl rfl (fun s t _=>mx0 (.t2 _ rfl)) (fun _=>rfl) (fun _=>rfl) (fun _ h=>by cases h) fun t k9 hk9=>?_;refine au 1 ?_;refine TK.a Z (uz Z Z Z (.inr ⟨rfl,rfl⟩)) ?_;refine au 352507 ?_;refine TK.maskL [0,2,3] ?_;exact hsh _ _ oQ trivial
        ·intro k8 sv2 hk8 _;refine au 142 ?_;refine TK.a Z (yE Z Z) ?_;refine TK.a Z (yj Z Z zm.h dQ) ?_;refine TK.sLoad (fun v=>if Mx.st v=0 then .w (Mx.hd { pc:=.r2,old:=v,nw:=newOf old aw sv,aw:=tt,sv:=sv2,it:=0 })else .w { pc:=.a1,old:=old,nw:=if sv2=ff\/Mx.wt v=1 then 1 else 0,aw:=aw,sv:=sv2,it:=it }) rfl rfl rfl rfl (ld21 Z) nr212 (fun s hok=>?_) (fun v=>by split;exact hd_dl _;rfl) (fun v=>by split;exact wP _;rfl) (fun v=>by split;exact hd_kd _;exact fun h=>by cases h) fun s hok k9 hk9=>?_
         ·split
          ·rename_i h;exact mx0 (.r2n rfl h)
          ·rename_i h;exact mx0 (.r2s rfl (by have h0:¬ s.mu / 4 % 2=0:=h;show s.mu / 4 % 2=1;omega))
         refine au 0 ?_;obtain⟨v,hv⟩:∃ v,v=s.mu:=⟨_,rfl⟩;have hv1:v<256:=hv ▸ hok.1;have hv2:(Mx.st v=1->Mx.lk v=0/\Mx.wk v=0/\1<=Mx.wt v)/\(Mx.st v=0->Mx.wk v=1):=hv ▸ hok.2.2.2.2.2.2;rw[<- hv];clear hok hv s;refine au 142235 ?_;refine TK.a Z (yV Z Z Z (.inl Z) (bA4 v oQ)) ?_;refine au 937 ?_;apply aI<;>intro hc10
         ·have h10:Mx.st v=1:=by simp at hc10;dsimp only[Mx.st,Mx.lk,Mx.wk,Mx.wt]at *;omega
          obtain⟨h11,h12,h13⟩:=hv2.1 h10;refine TK.castT (T':=.w { pc:=.a1,old:=old,nw:=if sv2=ff\/Mx.wt v=1 then 1 else 0,aw:=aw,sv:=sv2,it:=it }) Z (if_neg oQ) ?_;refine au 1422 ?_;refine TK.a Z (yV Z Z Z (.inl Z) (bA3 v oQ)) ?_;refine au 17 ?_;refine TK.sp 111 (fun g31_4=>?_) (fun g31_4=>?_)
          ·exfalso;simp at g31_4;dsimp only[Mx.st,Mx.lk,Mx.wk,Mx.wt]at *
           omega
          refine au 1 ?_;refine TK.a Z (q_sh Z Z Z dQ (r:=((v / 8:Nat):Int)) (by show((v:Nat):Int) / 8=((v / 8:Nat):Int);omega)) ?_;refine au 932507 ?_;apply aI<;>intro hc11
          ·exfalso;simp at hc11;dsimp only[Mx.st,Mx.lk,Mx.wk,Mx.wt]at *
           omega
          refine au 130014223542120 ?_;refine TK.sp 119 (fun g34_3=>?_) (fun g34_3=>?_)
          ·have h34:sv2=ff:=by simpa using g34_3
           refine TK.castT (T':=.w { pc:=.a1,old:=old,nw:=1,aw:=aw,sv:=sv2,it:=it }) Z (by rw[if_pos (.inl h34)]) ?_;refine au 141803260888 ?_;refine TK.a Z (uz Z Z Z (r := -11) (.inr ⟨rfl,by decide⟩)) ?_;refine au 14235 ?_;refine TK.a Z (yE Z Z) ?_;refine TK.a Z (yj Z Z zm.h dQ) ?_;refine au 1 ?_;refine TK.sAdd (-11) (fun v=>v+1 - 8 - 4*1) (fun _=>.w { pc:=.le }) rfl rfl rfl rfl rfl (fun s hok=>by obtain⟨q1,_,_,_,_,_,q2,q3,q4,q5,q6⟩:=hok;dsimp only[Mx.st,Mx.lk,Mx.wk,Mx.wt]at *;rw[w32 oQ];omega) (fun s _=>mxM (.a1 rfl)) ⟨mS,fun _=>rfl⟩ (fun _=>rfl) (fun _ h=>by cases h) fun s _ k7 hk7=>?_;refine au 421801603 ?_;refine TK.sMark (.w { pc:=.la }) .enable sQ Z Z Z (fun s _=>mx0 (.le rfl)) (wC 0) rfl (fun k8 hk8=>?_);refine au 143 ?_;refine TK.sConv Z Z Z uP256 uP219 z192 (fun w s h=>⟨_,h.1.cellSt⟩) ?_;refine au 0 ?_;refine TK.acqL Z Z Z Z Z hl1 hl2 hGI fun k9 x5 K5 hk9 hx5 hp5=>?_;refine au 3 ?_;refine TK.rt0a (Wz (hT':=y.shutF _ _ _ _ _ _)) ?_ res_0;exact⟨rfl,_,_,oQ,hx5,hp5,rfl⟩
          refine au 1 ?_;refine TK.a Z (q_sh Z Z Z dQ (r:=((v / 8:Nat):Int)) (by show((v:Nat):Int) / 8=((v / 8:Nat):Int);omega)) ?_;refine au 932507 ?_;apply aI<;>intro hc12
          ·have h35:Mx.wt v=1:=by simp at hc12;dsimp only[Mx.st,Mx.lk,Mx.wk,Mx.wt]at *;omega
           refine TK.castT (T':=.w { pc:=.a1,old:=old,nw:=1,aw:=aw,sv:=sv2,it:=it }) Z (by rw[if_pos (.inr h35)]) ?_;refine au 14 ?_;refine TK.a Z (uz Z Z Z (r := -11) (.inr ⟨rfl,by decide⟩)) ?_;refine au 14235 ?_;refine TK.a Z (yE Z Z) ?_;refine TK.a Z (yj Z Z zm.h dQ) ?_;refine au 1 ?_;refine TK.sAdd (-11) (fun v=>v+1 - 8 - 4*1) (fun _=>.w { pc:=.le }) rfl rfl rfl rfl rfl (fun s hok=>by obtain⟨q1,_,_,_,_,_,q2,q3,q4,q5,q6⟩:=hok;dsimp only[Mx.st,Mx.lk,Mx.wk,Mx.wt]at *;rw[w32 oQ];omega) (fun s _=>mxM (.a1 rfl)) ⟨mS,fun _=>rfl⟩ (fun _=>rfl) (fun _ h=>by cases h) fun s _ k7 hk7=>?_;refine au 421801603 ?_;refine TK.sMark (.w { pc:=.la }) .enable sQ Z Z Z (fun s _=>mx0 (.le rfl)) (wC 0) rfl (fun k8 hk8=>?_);refine au 143 ?_;refine TK.sConv Z Z Z uP256 uP219 z192 (fun w s h=>⟨_,h.1.cellSt⟩) ?_;refine au 0 ?_;refine TK.acqL Z Z Z Z Z hl1 hl2 hGI fun k9 x5 K5 hk9 hx5 hp5=>?_;refine au 3 ?_;refine TK.rt0a (Wz (hT':=y.shutF _ _ _ _ _ _)) ?_ res_0;exact⟨rfl,_,_,oQ,hx5,hp5,rfl⟩
          have h35:¬ Mx.wt v=1:=by simp at hc12;dsimp only[Mx.st,Mx.lk,Mx.wk,Mx.wt]at *;omega
          have h34:¬ sv2=ff:=by simpa using g34_3
          refine TK.castT (T':=.w { pc:=.a1,old:=old,nw:=0,aw:=aw,sv:=sv2,it:=it }) Z (by rw[if_neg (by rintro(h|h);exact h34 h;exact h35 h)]) ?_;refine au 142120 ?_;refine TK.a Z (yE Z Z) ?_;refine TK.a Z (yj Z Z zm.h dQ) ?_;refine au 1 ?_;refine TK.sAdd (-7) (fun v=>v+1 - 8 - 4*0) (fun _=>.w { pc:=.le }) rfl rfl rfl rfl rfl (fun s hok=>by obtain⟨q1,_,_,_,_,_,q2,q3,q4,q5,q6⟩:=hok;dsimp only[Mx.st,Mx.lk,Mx.wk,Mx.wt]at *;rw[w32 oQ];omega) (fun s _=>mxM (.a1 rfl)) ⟨mS,fun _=>rfl⟩ (fun _=>rfl) (fun _ h=>by cases h) fun s _ k7 hk7=>?_;refine au 421801603 ?_;refine TK.sMark (.w { pc:=.la }) .enable sQ Z Z Z (fun s _=>mx0 (.le rfl)) (wC 0) rfl (fun k8 hk8=>?_);refine au 143 ?_;refine TK.sConv Z Z Z uP256 uP219 z192 (fun w s h=>⟨_,h.1.cellSt⟩) ?_;refine au 0 ?_;refine TK.acqL Z Z Z Z Z hl1 hl2 hGI fun k9 x5 K5 hk9 hx5 hp5=>?_;refine au 3 ?_;refine TK.rt0a (Wz (hT':=y.shutF _ _ _ _ _ _)) ?_ res_0;exact⟨rfl,_,_,oQ,hx5,hp5,rfl⟩
         have h10:Mx.st v=0:=by simp at hc10;dsimp only[Mx.st,Mx.lk,Mx.wk,Mx.wt]at *;omega
         refine TK.castT (T':=.w (Mx.hd { pc:=.r2,old:=v,nw:=newOf old aw sv,aw:=tt,sv:=sv2,it:=0 })) (wP _) (if_pos h10) ?_;refine au 1403543542120 ?_;refine TK.maskL [0,2,3,4,5,6] ?_;exact ih _ ({ pc:=.r2,old:=v,nw:=newOf old aw sv,aw:=tt,sv:=sv2,it:=0 },wst2) _ _ oQ ⟨hv1,(fun _=>hv2.2 h10),(fun _=>rfl),by show 0<=4;omega,rfl,rfl⟩
      ·refine au 141903 ?_;refine TK.a Z (yE Z Z) ?_;refine TK.a Z (yj Z Z zm.h dQ) ?_;refine TK.sLoad (fun v=>.w (Mx.hd { pc:=.r3,old:=v,nw:=newOf old aw sv,aw:=aw,sv:=sv,it:=it })) rfl rfl rfl rfl (ld21 Z) nr212 (fun s _=>mx0 (.r3 rfl)) (fun v=>hd_dl _) (fun v=>wP _) (fun v=>hd_kd _) fun s hok k9 hk9=>?_;refine au 14035 ?_;refine TK.maskL [0,2,3,4,5,6] ?_;exact ih _ ({ pc:=.r3,old:=s.mu,nw:=newOf old aw sv,aw:=aw,sv:=sv,it:=it },wst) _ _ oQ ⟨hok.1,hok.2.2.2.2.2.2,hsv,hit,rfl,rfl⟩
      ·split
       ·rename_i h;exact mxM (.c2t rfl e h.1 h.2)
       ·rename_i h;have h2:Mx.lk old=1\/Mx.st old=1:=by dsimp only[Mx.st,Mx.lk,Mx.wk,Mx.wt]at *;omega
        split
        ·exact mxM (.c2r .t1 (.inl rfl) rfl e h2)
        ·exact mxM (.c2r .s1 (.inr rfl) rfl e h2)
theorem zlE{gm:Nat->Option Nat}{main:Bool}{Ch:Nat->gG->Hp->Prop}(y:Sy tp){lo:Nat×Loc3}{PL:(Nat->Bool)->KV->Prop}{k i:Nat}{x:Nat->Bool}(hGI:GIn y lo i PL) :
  CallS tp gm lo (y.Sf main Ch k i (.w { pc:=.ld }) x) 137 [.v (.pointer (some ⟨y.Mu,0,none⟩))] [(lo.1,.gone)] (LockR y main Ch k i PL):=by
 refine wW 13 (y.shutF _ _ _ _ _ _) Tryz.func137 fun φ0 c0 cs A0 hl1 hl2 Wz=>?_;refine au 42 ?_;refine TK.sMark (.w { pc:=.l0 }) .disable sQ Z Z Z (fun s _=>mx0 (.ld rfl)) (zad 0) rfl (fun k1 hk1=>?_);refine au 14223 ?_;refine TK.a Z (yE Z Z) ?_;refine TK.a Z (yj Z Z zm.h dQ) ?_;refine TK.sCas (.w { pc:=.le }) (.w { pc:=.r0 }) 0 1 Z Z Z Z Z Z (fun s _ e=>mxM (.l0h rfl e)) (fun s _ e=>mx0 (.l0m rfl e)) ⟨mS,rfl,rfl⟩ rfl rfl (fun h=>by cases h) (fun h=>by cases h) (fun k2 hk2=>?_) (fun k2 hk2=>?_)
 ·refine au 4218021803 ?_;refine TK.sMark (.w { pc:=.la }) .enable sQ Z Z Z (fun s _=>mx0 (.le rfl)) (wC 0) rfl (fun k8 hk8=>?_);refine au 143 ?_;refine TK.sConv Z Z Z uP256 uP219 z192 (fun w s h=>⟨_,h.1.cellSt⟩) ?_;refine au 0 ?_;refine TK.acqL Z Z Z Z Z hl1 hl2 hGI fun k9 x5 K5 hk9 hx5 hp5=>?_;refine au 3 ?_;refine TK.rta (Wz (hT':=y.shutF _ _ _ _ _ _)) ?_ res_0;exact⟨rfl,_,_,oQ,hx5,hp5,rfl⟩
 ·refine au 141201903 ?_;refine TK.callS Z Z Z Z (zgK y hGI) hl1 hl2 ?_;rintro r2 K2 T2 ⟨rfl,k2,x2,hk2,hx2,hp2,rfl⟩;refine⟨y.shutF _ _ _ _ _ _,?_⟩;rw[lR];refine au 3 ?_;refine TK.rt0a (Wz (hT':=y.shutF _ _ _ _ _ _)) ?_ res_0;exact⟨rfl,_,_,oQ,hx2,hp2,rfl⟩
theorem znj{gm:Nat->Option Nat}{main:Bool}{Ch:Nat->gG->Hp->Prop}(y:Sy tp){lo:Nat×Loc3}{PL:(Nat->Bool)->KV->Prop}{k i:Nat}{x:Nat->Bool}(hGI:GIn y lo i PL) :
  CallS tp gm lo (y.Sf main Ch k i (.w { pc:=.ld }) x) 98 [.v (.pointer (some ⟨y.Mu,0,none⟩))] [(lo.1,.gone)] (LockR y main Ch k i PL):=by
 refine wW 6 (y.shutF _ _ _ _ _ _) Tryz.func98 fun φ0 c0 cs A0 hl1 hl2 Wz=>?_;refine au 14 ?_;refine TK.a Z (yE Z Z) ?_;refine TK.a Z (yj Z Z zm.h dQ) ?_;refine TK.callS Z Z Z Z (zlE y hGI) hl1 hl2 ?_;rintro r2 K2 T2 ⟨rfl,k2,x2,hk2,hx2,hp2,rfl⟩;refine⟨y.shutF _ _ _ _ _ _,?_⟩;rw[lR];refine au 3 ?_;refine TK.rt0a (Wz (hT':=y.shutF _ _ _ _ _ _)) ?_ res_0;exact⟨rfl,_,_,oQ,hx2,hp2,rfl⟩
theorem zeP{main:Bool}{Ch:Nat->gG->Hp->Prop}(y:Sy tp){k i v:Nat}{x:Nat->Bool}(hv:v<256)(hl:Mx.lk v=1) :
  CallZ tp (y.Sf main Ch k i (if Mx.st v=1 then .w { pc:=.us } else .w (Mx.hdU (v - 1))) x) 171 [.pointer (some ⟨y.Mu,0,none⟩),.int .i32 ((v - 1:Nat):Int)] (fun T'=>∃ k',k'<=k/\T'=y.Sf main Ch k' i (.w { pc:=.ue }) x):=by
 refine ze6 43 (y.shutF _ _ _ _ _ _) Tryz.func171 fun φ0 c0 cs Wz=>?_;refine TK.nrm (Wk:=[.v (.pointer (some ⟨y.Mu,0,none⟩)),.v (.int .i32 ((v - 1:Nat):Int)),.any,.any,.any,.any,.any,.any,.any,.any,.any,.any,.any,.any,.any,.any,.any,.any,.any,.any,.any,.any,.any,.any,.any,.any,.any,.any,.any,.any,.any,.any,.any,.any,.any,.any,.any,.any,.any,.any,.any,.any,.any]) ?_ Z rfl;refine au 1422 ?_;refine TK.a Z (uz Z Z Z (r:=((v:Nat):Int)) (.inl ⟨rfl,by rw[w32 oQ];dsimp only[Mx.st,Mx.lk,Mx.wk,Mx.wt]at *;omega⟩)) ?_;refine TK.a Z (yV Z Z Z (.inl Z) (bA1 v oQ)) ?_;refine au 937 ?_;apply aI<;>intro Jz
 ·exfalso;simp at Jz;dsimp only[Mx.st,Mx.lk,Mx.wk,Mx.wt]at *
  omega
 refine au 142120 ?_;refine TK.a Z (yV Z Z Z (.inl Z) (bA4 (v - 1) oQ)) ?_;refine au 937 ?_;apply aI<;>intro Jx
 ·have h1:¬ Mx.st v=1:=by simp at Jx;dsimp only[Mx.st,Mx.lk,Mx.wk,Mx.wt]at *;omega
  refine TK.castT (T':=.w (Mx.hdU (v - 1))) (zag _) (if_neg h1) ?_;refine au 13035142 ?_;refine TK.maskL [0,4] ?_;refine TK.loopS (ι:=Nat) (fun b=>.w (Mx.hdU b)) (fun b=>zag b) (fun(b:Nat) Wq K=>b<256/\K=[]/\Wq=[.v (.pointer (some ⟨y.Mu,0,none⟩)),.any,.any,.any,.v (.int .i32 ((b:Nat):Int)),.any,.any,.any,.any,.any,.any,.any,.any,.any,.any,.any,.any,.any,.any,.any,.any,.any,.any,.any,.any,.any,.any,.any,.any,.any,.any,.any,.any,.any,.any,.any,.any,.any,.any,.any,.any,.any,.any]) (v - 1) ⟨by omega,rfl,rfl⟩ rfl ?_;rintro k2 hk2 old Wq K ⟨hold,rfl,rfl⟩ ih;refine au 1422130 ?_;refine TK.a Z (q_sh Z Z Z dQ (r:=((old / 8:Nat):Int)) (by show((old:Nat):Int) / 8=((old / 8:Nat):Int);omega)) ?_;refine au 17 ?_;refine TK.sp 17 (fun g4_4=>?_) (fun g4_4=>?_)
  ·have h2:Mx.wt old=0\/old % 8≠0:=by left;simp at g4_4;dsimp only[Mx.st,Mx.lk,Mx.wk,Mx.wt]at *;omega
   refine TK.castT (T':=.w { pc:=.ue }) Z (congrArg TT.w (if_pos h2)) ?_;refine au 1803260888 ?_;refine TK.retZ Tryz.func171 (fun v H'=>Wz _ v H' ⟨_,oQ,rfl⟩) res_0;skip
  refine au 1 ?_;refine TK.a Z (yV Z Z Z (.inl Z) (bA7 old oQ)) ?_;refine au 932507 ?_;apply aI<;>intro hc2
  ·have h2:Mx.wt old=0\/old % 8≠0:=by right;simp at hc2;omega
   refine TK.castT (T':=.w { pc:=.ue }) Z (congrArg TT.w (if_pos h2)) ?_;refine au 0 ?_;refine TK.retZ Tryz.func171 (fun v H'=>Wz _ v H' ⟨_,oQ,rfl⟩) res_0;skip
  have h2:¬ (Mx.wt old=0\/old % 8≠0):=by simp at g4_4 hc2;dsimp only[Mx.st,Mx.lk,Mx.wk,Mx.wt]at *;omega
  refine TK.castT (T':=.w { pc:=.uc,old:=old,nw:=old - 8+2 }) Z (congrArg TT.w (if_neg h2)) ?_;refine au 142120 ?_;refine TK.a Z (uz Z Z Z (r:=((old - 8:Nat):Int)) (.inr ⟨rfl,by rw[w32 oQ];dsimp only[Mx.st,Mx.lk,Mx.wk,Mx.wt]at *;omega⟩)) ?_;refine TK.a Z (yV Z Z Z (.inr (.inl Z)) (bO2 (old - 8) oQ)) ?_;refine au 142235 ?_;refine TK.a Z (yE Z Z) ?_;refine TK.a Z (yj Z Z zm.h dQ) ?_;refine au 11 ?_;have hnew:old - 8 - 2*((old - 8) / 2 % 2)+2=old - 8+2:=by dsimp only[Mx.st,Mx.lk,Mx.wk,Mx.wt]at *;omega
  refine TK.sCas (.w { pc:=.us }) (.w { pc:=.ux }) old (old - 8 - 2*((old - 8) / 2 % 2)+2) Z Z Z Z Z Z (fun s _ e=>by rw[hnew];exact mxM (.uch rfl e)) (fun s _ e=>mx0 (.ucm rfl e)) ⟨mS,rfl,rfl⟩ rfl rfl (fun h=>by cases h) (fun h=>by cases h) (fun k4 hk4=>?_) (fun k4 hk4=>?_)
  ·refine au 1421803 ?_;refine TK.a Z (yE Z Z) ?_;refine TK.a Z (yj Z Z zm.h dQ) ?_;refine TK.sRel (.w { pc:=.ue }) Z Z Z Z Z (fun c hc=>by simp at hc;subst hc;rfl) rfl (fun s _=>mxS (.us rfl)) ⟨rfl,rfl⟩ rfl (fun h=>by cases h) (fun k5 hk5=>?_);refine au 3 ?_;refine TK.retZ Tryz.func171 (fun v H'=>Wz _ v H' ⟨_,oQ,rfl⟩) res_0;skip
  ·refine au 141201903 ?_;refine TK.a Z (yE Z Z) ?_;refine TK.a Z (yj Z Z zm.h dQ) ?_;refine TK.sLoad (fun v=>.w (Mx.hdU v)) rfl rfl rfl rfl (ld21 Z) nr214 (fun s _=>mx0 (.ux rfl)) (fun v=>zju _) (fun v=>zag _) (fun v=>zjv _) fun s hok k5 hk5=>?_;refine au 14035 ?_;refine TK.maskL [0,4] ?_;exact ih _ s.mu _ _ oQ ⟨hok.1,rfl,rfl⟩
 have h1:Mx.st v=1:=by simp at Jx;dsimp only[Mx.st,Mx.lk,Mx.wk,Mx.wt]at *;omega
 refine TK.castT (T':=.w { pc:=.us }) Z (if_pos h1) ?_;refine au 14 ?_;refine TK.a Z (yE Z Z) ?_;refine TK.a Z (yj Z Z zm.h dQ) ?_;refine TK.sRel (.w { pc:=.ue }) Z Z Z Z Z (fun c hc=>by simp at hc;subst hc;rfl) rfl (fun s _=>mxS (.us rfl)) ⟨rfl,rfl⟩ rfl (fun h=>by cases h) (fun k5 hk5=>?_);refine au 3 ?_;refine TK.retZ0 Tryz.func171 (fun v H'=>Wz _ v H' ⟨_,oQ,rfl⟩) res_0;skip
theorem ziI{gm:Nat->Option Nat}{main:Bool}{Ch:Nat->gG->Hp->Prop}(y:Sy tp){lo:Nat×Loc3}{K0:KV}{k i:Nat}{x:Nat->Bool}(hgive:∀ A φ H,lo.1<A.length->φ lo.1=lo.2->zU K0 A->(keys K0).Nodup->RelH φ A nF H->∃ L',L'.Sub H/\y.GI (upd x i tt) L') :
  CallE tp gm lo (y.Sf main Ch k i (.w { pc:=.ur }) x) 138 [.v (.pointer (some ⟨y.Mu,0,none⟩))] K0 (fun T'=>∃ k',k'<=k/\T'=y.Sf main Ch k' i (.w { pc:=.wr }) x):=by
 refine ze1 21 (y.shutF _ _ _ _ _ _) Tryz.func138 fun φ0 c0 cs A0 hl1 hl2 Wz=>?_;refine au 1421802 ?_;refine TK.a Z (yE Z Z) ?_;refine TK.a Z (yj Z Z zm.h dQ) ?_;refine TK.sPeek Z Z Z (ld21 Z) nr179 (fun v0=>?_);refine au 1423 ?_;refine TK.sConv Z Z Z uP256 uP219 z192 (fun w s h=>⟨_,h.1.cellSt⟩) ?_;refine au 0 ?_;refine TK.relL Z Z Z Z Z hl1 hl2 hgive (fun k1 hk1=>?_);refine au 43 ?_;refine TK.sMark (.w { pc:=.u0 }) .disable sQ Z Z Z (fun s _=>mx0 (.ud rfl)) (zad 0) rfl (fun k2 hk2=>?_);refine au 1423 ?_;refine TK.a Z (yE Z Z) ?_;refine TK.a Z (yj Z Z zm.h dQ) ?_;refine TK.sAdd (-1) (fun v=>v - 1) (fun v=>if v=1 then .w { pc:=.ue } else(if Mx.st v=1 then .w { pc:=.us } else .w (Mx.hdU (v - 1)))) rfl rfl rfl rfl rfl (fun s hok=>by obtain⟨q1,_,_,_,_,_,q2⟩:=hok;dsimp only[Mx.st,Mx.lk,Mx.wk,Mx.wt]at *;rw[w32 oQ];omega) (fun s _=>?_) ⟨mS,fun v=>by split;rfl;split;rfl;exact zju _⟩ (fun v=>by split;rfl;split;rfl;exact zag _) (fun v=>by split;(exact fun h=>(by cases h));split;(exact fun h=>(by cases h));exact zjv _) fun s hok k3 hk3=>?_
 ·split
  ·rename_i h;rw[h];exact mxM (.u0z rfl h)
  ·rename_i h;split
   ·rename_i h2;exact mxM (.u0s rfl h h2)
   ·rename_i h2;exact mxM (.u0n rfl h (by have h0:¬ s.mu / 4 % 2=1:=h2;show s.mu / 4 % 2=0;omega))
 refine au 0 ?_;obtain⟨v,hv⟩:∃ v,v=s.mu:=⟨_,rfl⟩;have hv1:v<256:=hv ▸ hok.1;have hv2:Mx.lk v=1:=hv ▸ hok.2.2.2.2.2.2;rw[<- hv];clear hok hv s;refine au 937142235 ?_;apply aI<;>intro Jx
 ·have h1:¬ v=1:=by simp at Jx;omega
  refine TK.castT (T':=(if Mx.st v=1 then .w { pc:=.us } else .w (Mx.hdU (v - 1)))) (by split;rfl;exact zag _) (if_neg h1) ?_;refine au 114 ?_;refine TK.callZ (vs:=[.pointer (some ⟨y.Mu,0,none⟩),.int .i32 ((v - 1:Nat):Int)]) Z Z Z Z (zeP y hv1 hv2) ?_;rintro T4 r4 ⟨k4,hk4,rfl⟩;refine⟨y.shutF _ _ _ _ _ _,?_⟩;refine au 43 ?_;refine TK.sMark (.w { pc:=.wr }) .enable sQ Z Z Z (fun s _=>mx0 (.ue rfl)) (wC 0) rfl (fun k8 hk8=>?_);refine au 3 ?_;refine TK.retZ0 Tryz.func138 (fun v H'=>Wz _ v H' ⟨_,oQ,rfl⟩) res_0;skip
 have h1:v=1:=by simp at Jx;dsimp only[Mx.st,Mx.lk,Mx.wk,Mx.wt]at *;omega
 refine TK.castT (T':=.w { pc:=.ue }) Z (if_pos h1) ?_;refine au 4120 ?_;refine TK.sMark (.w { pc:=.wr }) .enable sQ Z Z Z (fun s _=>mx0 (.ue rfl)) (wC 0) rfl (fun k8 hk8=>?_);refine au 3 ?_;refine TK.retZ0 Tryz.func138 (fun v H'=>Wz _ v H' ⟨_,oQ,rfl⟩) res_0;skip
theorem zbt{gm:Nat->Option Nat}{main:Bool}{Ch:Nat->gG->Hp->Prop}(y:Sy tp){lo:Nat×Loc3}{K0:KV}{k i:Nat}{x:Nat->Bool}(hgive:∀ A φ H,lo.1<A.length->φ lo.1=lo.2->zU K0 A->(keys K0).Nodup->RelH φ A nF H->∃ L',L'.Sub H/\y.GI (upd x i tt) L') :
  CallE tp gm lo (y.Sf main Ch k i (.w { pc:=.ur }) x) 100 [.v (.pointer (some ⟨y.Mu,0,none⟩))] K0 (fun T'=>∃ k',k'<=k/\T'=y.Sf main Ch k' i (.w { pc:=.wr }) x):=by
 refine ze1 6 (y.shutF _ _ _ _ _ _) Tryz.func100 fun φ0 c0 cs A0 hl1 hl2 Wz=>?_;refine au 14 ?_;refine TK.a Z (yE Z Z) ?_;refine TK.a Z (yj Z Z zm.h dQ) ?_;refine TK.callE Z Z Z Z (ziI y hgive) hl1 hl2 ?_;rintro T4 r4 ⟨k4,hk4,rfl⟩;refine⟨y.shutF _ _ _ _ _ _,?_⟩;refine au 3 ?_;refine TK.retZ0 Tryz.func100 (fun v H'=>Wz _ v H' ⟨_,oQ,rfl⟩) res_0;skip
end Go.Vel
namespace Go.Vel
open Go Go.Conc
open Go.ConcN (sumTo upd upd_ne upd_same)
open Go.ConcM (OsLater MuAt muA msA)
open Go.ConcR (KK wgBlock WgAt stA smA mk rd wr)
open Mx (TT Th Mn S4 auto Mv4 ok4 bl4 kd dl MPc Pc okW okM Mv nx4)
section
variable {P:gP}{gm:Nat->Option Nat}{y:Sy P}{main:Bool}{Ch:Nat->gG->Hp->Prop}{k i:Nat}{T:TT}{x:Nat->Bool}
variable {φ0:Nat->Loc3}{Qq:gK}{hkd:Qq≠.early}{f:gF}{cs:List gQ}{de:List gD}{A0:List AObj}{K0:List Nat}{ds:List Nat}{kk:List Item}{Wq Wk:List AV}{K:KV}{Qy:Array gB}{q:Nat}{Wp:List Nat}{o:gB}
def gval(s:S4):Int:=(s.v:Int)*KK+s.wt
theorem zai{t:gT}{M:Nat}{w:World}{a b:Int}(h:MuAt t M w a b){l:Addr}(hne:l.block≠M)(v:gV):MuAt t M (w.setCell l v) a b:=by
 unfold MuAt at *
 simp only[World.setCell];rw[Array.getElem?_modify,if_neg hne];exact h
theorem wg_ne(l:Addr)(h:l.block=y.Wg):l.block≠y.Mu:=fun e=>y.hne (e.symm.trans h)
theorem TK.gAdd{g:gF}{ca cb:gO}{ats:Array gT}{e:Array gV->Sem gV}(d:Int)(new:S4->S4)(Tn:S4->TT)[hx:Ext P g e](ho:Qy[q]? =some o)(Qw:o.op=.call { callee:=.value (.func g),args:=#[ca,cb],argTypes:=ats })(hw:zM Qy Wq o=some tt)
  (h1:zn gm Wq ca=some (.v (.pointer (some (stA y.Wg))))) (h2:zn gm Wq cb=some (.v (.int .u64 d)))
  (hnew:∀ s,ok4 T s->IntKind.u64.wrap (gval s+d)=gval (new s)/\(new s).mu=s.mu/\(new s).ms=s.ms/\(new s).ws=s.ws) (hmv:∀ s,ok4 T s->Mv4 y.n T s (Tn s) (new s)) (hdl:0<dl T/\∀ s,dl (Tn s)=dl T) (hT':∀ s,y.A.aft (Tn s)=ff) (hk':∀ s,kd (Tn s)≠.quit)
  (h:∀(s:S4),ok4 T s->∀ k',k'<k->TK ((YT y main Ch) k' i (Tn s) x gm φ0 Qq hkd f cs de A0 K0) ds (.inRegion Qy Wp::kk) (zV Wq o.dst (.v (.int .u64 (gval (new s))))) K)
  (he:e=Extern.Atomic.update (Op.intArith .add) .u64 tt:=by rfl) (hk:kd T=.book:=by rfl) (hb:∀ s,¬ bl4 T s:=by exact fun _ h=>by cases h.1) (hwk:¬ y.A.wk T:=by exact fun h=>by cases h <;> rename_i h <;> cases h) :
  TK ((YT y main Ch) k i T x gm φ0 Qq hkd f cs de A0 K0) ds (.inRegion Qy (q::Wp)::kk) Wq K:=by
 refine TK.book (o:=o) hk (fun h=>absurd h hwk) fun w s ts dd φ n hg hE hsh hok=>.inr ⟨hb s,?_⟩;obtain⟨fn,e1,e2,e3,e4,e5⟩:=hx.h;subst he;obtain⟨hn1,hn2,hn3,hn4⟩:=hnew s hok;refine⟨Tn s,new s,.int .u64 (gval (new s)),_,_,hmv s hok,?_,kZ (a:=stA y.Wg) (.inr Z) (.int .u64 (gval (new s))),⟨?_,?_⟩,by rw[hdl.2];exact zae hdl.1 (a:=stA y.Wg) (.inr Z),hk' _,hT' _,fun k' hk''=>h s hok k' hk''⟩
 ·rw[fr_at,stepG_add_atomic (b:=bf Qq f) (a:=⟨ts,dd⟩) ho (zO (ts:=ts) hE hw) hkd Qw e1 e2 e3 e4 .u64 e5 (ad:=stA y.Wg) (v:=gval s) (d:=d) (ev_v hg hE h1) (ev_v hg hE h2) hsh.2.cellSt (hsh.2.thaw 0),yo,hn1];rfl
 ·rw[hn2,hn3];exact zai hsh.1 (wg_ne (stA y.Wg) rfl) _
 ·rw[hn4];exact hsh.2.setSt _
theorem TK.gLoad{g:gF}{ca:gO}{ats:Array gT}{e:Array gV->Sem gV}(Tn:S4->TT)[hx:Ext P g e](ho:Qy[q]? =some o)(Qw:o.op=.call { callee:=.value (.func g),args:=#[ca],argTypes:=ats })(hw:zM Qy Wq o=some tt)
  (h1:zn gm Wq ca=some (.v (.pointer (some (stA y.Wg))))) (hmv:∀ s,ok4 T s->Mv4 y.n T s (Tn s) s) (hdl:0<dl T/\∀ s,dl (Tn s)=dl T) (hT':∀ s,y.A.aft (Tn s)=ff) (hk':∀ s,kd (Tn s)≠.quit)
  (h:∀(s:S4),ok4 T s->∀ k',k'<k->TK ((YT y main Ch) k' i (Tn s) x gm φ0 Qq hkd f cs de A0 K0) ds (.inRegion Qy Wp::kk) (zV Wq o.dst (.v (.int .u64 (gval s)))) K)
  (he:e=Extern.Atomic.loadT (.int .u64):=by rfl) (hk:kd T=.book:=by rfl) (hb:∀ s,¬ bl4 T s:=by exact fun _ h=>by cases h.1) (hwk:¬ y.A.wk T:=by exact fun h=>by cases h <;> rename_i h <;> cases h) :
  TK ((YT y main Ch) k i T x gm φ0 Qq hkd f cs de A0 K0) ds (.inRegion Qy (q::Wp)::kk) Wq K:=by
 refine TK.book (o:=o) hk (fun h=>absurd h hwk) fun w s ts dd φ n hg hE hsh hok=>.inr ⟨hb s,?_⟩;obtain⟨fn,e1,e2,e3,e4,e5⟩:=hx.h;subst he;refine⟨Tn s,s,.int .u64 (gval s),w,_,hmv s hok,?_,kV w,hsh,by rw[hdl.2];exact evb_r hdl.1 (a:=stA y.Wg) (.inr Z),hk' _,hT' _,fun k' hk''=>h s hok k' hk''⟩;rw[fr_at,stepG_load_atomic (b:=bf Qq f) (a:=⟨ts,dd⟩) ho (zO (ts:=ts) hE hw) hkd Qw e1 e2 e3 e4 .u64 e5 (ad:=stA y.Wg) (v:=gval s) (ev_v hg hE h1) hsh.2.cellSt,yo];rfl
theorem TK.gCas{g:gF}{ca cb cc:gO}{ats:Array gT}{e:Array gV->Sem gV}(Th Tm:TT)(old nw:Int)(new:S4->S4)[hx:Ext P g e](ho:Qy[q]? =some o)(Qw:o.op=.call { callee:=.value (.func g),args:=#[ca,cb,cc],argTypes:=ats })(hw:zM Qy Wq o=some tt)
  (h1:zn gm Wq ca=some (.v (.pointer (some (stA y.Wg))))) (h2:zn gm Wq cb=some (.v (.int .u64 old))) (h3:zn gm Wq cc=some (.v (.int .u64 nw)))
  (hnew:∀ s,ok4 T s->gval s=old->gval (new s)=nw/\(new s).mu=s.mu/\(new s).ms=s.ms/\(new s).ws=s.ws) (hmh:∀ s,ok4 T s->gval s=old->Mv4 y.n T s Th (new s)) (hmm:∀ s,ok4 T s->gval s≠old->Mv4 y.n T s Tm s) (hdl:0<dl T/\dl Th=dl T/\dl Tm=dl T) (hTh:y.A.aft Th=ff) (hTm:y.A.aft Tm=ff) (hkh:kd Th≠.quit) (hkm:kd Tm≠.quit)
  (hh:∀ k',k'<k->TK ((YT y main Ch) k' i Th x gm φ0 Qq hkd f cs de A0 K0) ds (.inRegion Qy Wp::kk) (zV Wq o.dst (.v (.bool tt))) K) (hmiss:∀ k',k'<k->TK ((YT y main Ch) k' i Tm x gm φ0 Qq hkd f cs de A0 K0) ds (.inRegion Qy Wp::kk) (zV Wq o.dst (.v (.bool ff))) K)
  (he:e=Extern.Atomic.casT (.int .u64):=by rfl) (hk:kd T=.book:=by rfl) (hb:∀ s,¬ bl4 T s:=by exact fun _ h=>by cases h.1) (hwk:¬ y.A.wk T:=by exact fun h=>by cases h <;> rename_i h <;> cases h) :
  TK ((YT y main Ch) k i T x gm φ0 Qq hkd f cs de A0 K0) ds (.inRegion Qy (q::Wp)::kk) Wq K:=by
 refine TK.book (o:=o) hk (fun h=>absurd h hwk) fun w s ts dd φ n hg hE hsh hok=>.inr ⟨hb s,?_⟩;obtain⟨fn,e1,e2,e3,e4,e5⟩:=hx.h;subst he;by_cases hc:gval s=old
 ·obtain⟨hn1,hn2,hn3,hn4⟩:=hnew s hok hc;refine⟨Th,new s,.bool tt,_,_,hmh s hok hc,?_,kZ (a:=stA y.Wg) (.inr Z) (.int .u64 nw),⟨?_,?_⟩,by rw[hdl.2.1];exact zae hdl.1 (a:=stA y.Wg) (.inr Z),hkh,hTh,hh⟩
  ·rw[fr_at,stepG_cas_hit (b:=bf Qq f) (a:=⟨ts,dd⟩) ho (zO (ts:=ts) hE hw) hkd Qw e1 e2 e3 e4 .u64 e5 (ad:=stA y.Wg) (v:=old) (n:=nw) (ev_v hg hE h1) (ev_v hg hE h2) (ev_v hg hE h3) (by rw[hsh.2.cellSt];exact congrArg (fun z=>some (Value.int .u64 z)) hc) (hsh.2.thaw 0),yo];rfl
  ·rw[hn2,hn3];exact zai hsh.1 (wg_ne (stA y.Wg) rfl) _
  ·rw[hn4,<- hn1];exact hsh.2.setSt _
 ·refine⟨Tm,s,.bool ff,w,_,hmm s hok hc,?_,kV w,hsh,by rw[hdl.2.2];exact evb_r hdl.1 (a:=stA y.Wg) (.inr Z),hkm,hTm,hmiss⟩;rw[fr_at,stepG_cas_miss (b:=bf Qq f) (a:=⟨ts,dd⟩) ho (zO (ts:=ts) hE hw) hkd Qw e1 e2 e3 e4 .u64 e5 (ad:=stA y.Wg) (v:=gval s) (old:=old) (n:=nw) (ev_v hg hE h1) (ev_v hg hE h2) (ev_v hg hE h3) hsh.2.cellSt (hsh.2.thaw 0) hc,yo];rfl
theorem TK.gSem{g:gF}{as0:Array gO}{ats:Array gT}{e:Array gV->Sem gV}{M:Mn}(T':TT)[hx:Ext P g e](ho:Qy[q]? =some o)(Qw:o.op=.call { callee:=.value (.func g),args:=as0,argTypes:=ats })(hw:zM Qy Wq o=some tt)(hpc:M.pc=.w3)
  (h1:∀ c,as0[0]? =some c->zn gm Wq c=some (.v (.pointer (some (smA y.Wg))))) (h0:as0[0]?.isSome=tt)
  (hmv:∀ s,ok4 (.m M) s->s.ws≠0->Mv4 y.n (.m M) s T' { s with ws:=s.ws - 1 }) (hdl:dl (.m M)=1/\dl T'=1) (hT':y.A.aft T'=ff) (hk':kd T'≠.quit)
  (h:∀ k',k'<k->TK ((YT y main Ch) k' i T' x gm φ0 Qq hkd f cs de A0 K0) ds (.inRegion Qy Wp::kk) Wk K)
  (he:e=Extern.Sync.semacquire:=by rfl) (hd:zV Wq o.dst (.v (.tuple #[]))=Wk:=by exact zD rfl tQ) :
  TK ((YT y main Ch) k i (.m M) x gm φ0 Qq hkd f cs de A0 K0) ds (.inRegion Qy (q::Wp)::kk) Wq K:=by
 refine TK.book (o:=o) (by simp[kd,Mx.kdM,hpc]) (fun h=>h.elim) fun w s ts dd φ n hg hE hsh hok=>?_;obtain⟨fn,e1,e2,e3,e4,e5⟩:=hx.h;subst he;obtain⟨c,hc⟩:=Option.isSome_iff_exists.1 h0;have hx0:(as0.map (⟨ts,dd⟩:Act).eval)[0]? =some (.pointer (some (smA y.Wg))):=by
  rw[mJ,hc];exact congrArg some (ev_v hg hE (h1 c hc))
 by_cases hz:s.ws=0
 ·left;refine⟨⟨hpc,hz⟩,?_⟩;rw[fr_at,stepG_semacquire_wait (b:=bf Qq f) (a:=⟨ts,dd⟩) ho (zO (ts:=ts) hE hw) Qw e1 e2 e3 e4 e5 hx0 (by rw[hsh.2.cellSm,hz];rfl)]
 ·right;refine⟨fun hb=>hz hb.2,T',{ s with ws:=s.ws - 1 },.tuple #[],_,_,hmv s hok hz,?_,kZ (a:=smA y.Wg) (.inr rfl) (.int .u32 ((s.ws:Int) - 1)),⟨zai hsh.1 (wg_ne (smA y.Wg) rfl) _,?_⟩,by rw[hdl.1,hdl.2];exact zby oQ (a:=smA y.Wg) (.inr rfl),hk',hT',fun k' hk''=>by rw[hd];exact h k' hk''⟩
  ·rw[fr_at,stepG_semacquire (b:=bf Qq f) (a:=⟨ts,dd⟩) ho (zO (ts:=ts) hE hw) hkd Qw e1 e2 e3 e4 e5 hx0 hsh.2.cellSm oQ (hsh.2.thaw 1),yo];rfl
  ·have:=hsh.2.setSm ((s.ws:Int) - 1);rw[show((s.ws:Int) - 1)=((s.ws - 1:Nat):Int) by omega]at this ⊢;exact this
theorem TK.gSaid{g:gF}{c:gO}{ats:Array gT}{e:Array gV->Sem gV}(T':TT)(m:Addr->Mark)(hm:∀ ad g,m ad≠.extern g)(hmm:m=.read\/m=.write)(hmain:main=tt)[hx:Ext P g e](ho:Qy[q]? =some o)(Qw:o.op=.call { callee:=.value (.func g),args:=#[c],argTypes:=ats })(hw:zM Qy Wq o=some tt)
  (h1:zn gm Wq c=some (.v (.pointer (some (smA y.Wg))))) (hmv:∀ s,ok4 T s->Mv4 y.n T s T' s) (hdl:0<dl T/\dl T'=dl T) (hT':y.A.aft T'=ff) (hk':kd T'≠.quit)
  (h:∀ k',k'<k->TK ((YT y main Ch) k' i T' x gm φ0 Qq hkd f cs de A0 K0) ds (.inRegion Qy Wp::kk) Wk K)
  (he:e=Extern.Race.marked m:=by rfl) (hk:kd T=.book:=by rfl) (hb:∀ s,¬ bl4 T s:=by exact fun _ h=>by cases h.1) (hwk:¬ y.A.wk T:=by exact fun h=>by cases h <;> rename_i h <;> cases h) (hd:zV Wq o.dst (.v (.tuple #[]))=Wk:=by exact zD rfl tQ) :
  TK ((YT y main Ch) k i T x gm φ0 Qq hkd f cs de A0 K0) ds (.inRegion Qy (q::Wp)::kk) Wq K:=by
 refine TK.book (o:=o) hk (fun h=>absurd h hwk) fun w s ts dd φ n hg hE hsh hok=>.inr ⟨hb s,T',s,.tuple #[],w,#[mk (m (smA y.Wg))],hmv s hok,?_,kV w,hsh,?_,hk',hT',fun k' hk''=>by rw[hd];exact h k' hk''⟩
 ·obtain⟨fn,e1,e2,e3,e4,e5⟩:=hx.h;subst he;rw[fr_at,stepG_markAt (b:=bf Qq f) (a:=⟨ts,dd⟩) m hm ho (zO (ts:=ts) hE hw) hkd Qw e1 e2 e3 e4 e5 (ad:=smA y.Wg) (by simp[ev_v (dd:=dd) hg hE h1]),yo];rfl
 ·subst hmain;rw[hdl.2];exact zk7 hdl.1 (a:=smA y.Wg) (.inr rfl) (by rcases hmm with rfl|rfl;exact .inl rfl;exact .inr rfl)
end
section
variable {P:gP}{gm:Nat->Option Nat}{main:Bool}
theorem zi0(n:Nat){T:gG->Hp->Prop}(hT:zo P main T){lo:Nat×Loc3}{g:gF}{fn:Func}{c:Code}{args:List AV}{K:KV}{R:AV->KV->(gG->Hp->Prop)->Prop}(hf:P.funcs[g]? =some fn)
  (h:∀(φ0:Nat->Loc3)(c0:gQ)(cs:List gQ)(A0:List AObj),lo.1<A0.length->φ0 lo.1=lo.2->(∀ r K' T',R r K' T'->∀ A' φ' H' v,Kstep K A0 K' A'->Agr φ0 φ' A0.length->A0.length<=A'.length->RelH φ' A' nF H'->RelV φ' A'.length r v->T' (G (c0.finish v) cs) H') ->
   TK (YU hT gm φ0 .normal zZ g (c0::cs) [] A0 (keys K)) [] [.code c] (args++mB (n - args.length) .any) K) (hb:fn.body=some c:=by rfl) (hn:fn.ntmps=n:=by rfl):CallS P gm lo T g args K R:=by
 subst hn;intro A hv hnd φ H vs c0 cs hl1 hl2 hg hH Qg Qj;rw[wD vs hf hb];exact h φ c0 cs A hl1 hl2 (fun r K' T' hr A' φ' H' v a b c d e=>Qj r K' T' A' φ' H' v hr a b c d e) A ⟨hv,hnd,fun i hi=>.inl hi,fun _ _ _=>rfl,mL _⟩ φ H _ (Agr.refl _ _) (mL _) hg (fun d hd=>by cases hd) hH (ke Qg _)
variable {φ0:Nat->Loc3}{Qq:gK}{hkd:Qq≠.early}{f:gF}{cs:List gQ}{de:List gD}{A0:List AObj}{K0:List Nat}{ds:List Nat}{kk:List Item}{Wq Wk:List AV}{K:KV}{Qy:Array gB}{q:Nat}{Wp:List Nat}{o:gB}
theorem zdF{φ:Nat->Loc3}{n:Nat}{ts:Array gV}{ars:Array gO}{vs:List gV}(h3:RelG gm φ n)(h6:zN φ n Wq ts)(Qg:ars.toList.map (zT gm Wq)=vs.map .v):ars.map (evT ts)=vs.toArray:=by
 have hm:=wG (a:=⟨ts,[]⟩) h3 h6 ars;rw[yY,Qg]at hm;refine Array.ext' ?_;refine List.ext_getElem? fun j=>?_;have hl:=hm.1;by_cases hj:j<vs.length
 ·have h2:=hm.2 j (.v vs[j]) ((ars.map (evT ts))[j]'(by rw[<- hl];simpa using hj)) (by simp[hj]) (by rw[mD]);have:=inv_v h2;rw[mI,mD (by rw[<- hl];simpa using hj),this];simp[hj]
 ·rw[lU (by simp at hl ⊢;omega),lU (by simpa using hj)]
theorem TK.sDefer{T:gG->Hp->Prop}{hT:zo P main T}{g:gF}{as0:Array gO}{ats:Array gT}{vs:List gV}(ho:Qy[q]? =some o)(Qw:o.op=.defer { callee:=.value (.func g),args:=as0,argTypes:=ats })(Qg:as0.toList.map (zT gm Wq)=vs.map .v)
  (h:TK (YU hT gm φ0 Qq hkd f cs (dcall g vs.toArray::de) A0 K0) [] (.inRegion Qy Wp::kk) Wk K) (hw:zM Qy Wq o=some tt:=by rfl) (hd:zV Wq o.dst (.v undef)=Wk:=by first|exact putN rfl|exact zD rfl tQ) :
  TK (YU hT gm φ0 Qq hkd f cs de A0 K0) [] (.inRegion Qy (q::Wp)::kk) Wq K:=by
 intro A hA φ H ts h1 h2 h3 h4 h5 h6;have hE:=yF (a:=⟨ts,[]⟩) h6 (RelV.v (φ:=φ) (n:=A.length) undef) o.dst;rw[hd]at hE;refine hT.ctlF Z (fun w=>?_) rfl (h A ⟨hA.view,hA.nd,hA.own,hA.kept,hA.len⟩ φ H _ h1 h2 h3 h4 h5 hE);show stepG P main (G (fr Qq f none ts de _) cs) w=_;rw[fr_at,stepG_defer (b:=bf Qq f) (a:=⟨ts,de⟩) ho (zO (ts:=ts) h6 hw) hkd Qw];have e:as0.map (⟨ts,de⟩:Act).eval=vs.toArray:=by rw[yY];exact zdF h3 h6 Qg
 rw[e,yo];rfl
variable {y:Sy P}{Ch:Nat->gG->Hp->Prop}{k i:Nat}{T:TT}{x:Nat->Bool}
theorem TK.retD{g:gF}{e:Array gV->Sem gV}{fn:Func}{c0:gQ}{r:AV}(T':TT)(m:Mark)(hm:∀ g,m≠.extern g)[hx:Ext P g e](hmv:∀ s,ok4 T s->Mv4 y.n T s T' s)(hev:EvB main y.S2 (dl T) (dl T') #[mk m])(hT':y.A.aft T'=ff)(hf:P.funcs[f]? =some fn)(hres:∀ A,zU K A->resA P fn.results.toList Wq A=some r)
  (Qj:∀ k',k'<k->∀ A φ' H' v,Kn ((YT y main Ch) k i T x gm φ0 .normal zZ f (c0::cs) [dcall g #[]] A0 K0) K A->Agr φ0 φ' A0.length->A0.length<=A.length->RelH φ' A nF H'->RelV φ' A.length r v->y.Sf main Ch k' i T' x (G (c0.finish v) cs) H')
  (he:e=(fun _=>do mark m;pure Extern.Race.none_):=by rfl) (hk:kd T=.book:=by rfl) (hk':kd T'≠.quit:=by exact fun h=>by cases h) (hb:∀ s,¬ bl4 T s:=by exact fun _ h=>by cases h.1) (hwk:¬ y.A.wk T:=by exact fun h=>by cases h <;> rename_i h <;> cases h) :
  TK ((YT y main Ch) k i T x gm φ0 .normal zZ f (c0::cs) [dcall g #[]] A0 K0) [] (.code .ret::kk) Wq K:=by
 intro A hA φ H ts h1 h2 h3 h4 h5 h6;refine(y.shutF main Ch k i T x).ctlF Z (fun _=>vq) rfl ?_;refine .stop ?_;cases k with
 | zero=>trivial
 | succ k' =>
  obtain⟨fn',e1,e2,e3,e4,e5⟩:=hx.h;subst he;refine⟨rfl,rfl,fun hw=>absurd hw hwk,?_⟩;have hk0:y.A.kd T=.book:=hk;rw[hk0];intro w s hfit hsh hok;refine⟨fun hb'=>absurd hb' (hb s),fun _=>⟨T',s,G { fr .normal f none ts [] (.code .ret::kk)with mode:=.returning } (c0::cs),w,#[mk m],hmv s hok,?_,kV w,hsh,hev,.inr ⟨hk',rfl,(y.sf_iff hT').2 ?_⟩⟩⟩
  ·exact stepG_unwind_entry (b:=bf .normal f) (a:=⟨ts,[dcall g #[]]⟩) (ds:=[]) (v:=.tuple #[]) (evs:=#[⟨.mark m,ff,tt⟩]) rfl e1 e2 e3 e4 e5 (by simp[Extern.Race.none_]) sQ (by
    intro x hx';simp at hx';subst hx';exact⟨rfl,fun g h=>hm g (Loc.mark.inj h)⟩)
  ·exact(y.shutF main Ch k' i T' x).leaveF hf (kW h5 h6 (hres A hA.view) fun v hv=>Qj k' (Nat.lt_succ_self _) A φ H v hA h1 (mT (mL _) hA.len) h5 hv)
theorem TK.acqW{g:gF}{c:gO}{ats:Array gT}{e:Array gV->Sem gV}{lo:Nat×Loc3}[hx:Ext P g e](ho:Qy[q]? =some o)(Qw:o.op=.call { callee:=.value (.func g),args:=#[c],argTypes:=ats })(hc:zn gm Wq c=some (.v (.pointer (some (stA y.Wg)))))(hk:kd T=.acqW)
  {PW:KV->Prop} (hl1:lo.1<A0.length) (hl2:φ0 lo.1=lo.2) (hS:zo P main y.Stop)
  (hGI:∀ L A φ H,y.GI y.all L->lo.1<A.length->φ lo.1=lo.2->zU K A->(keys K).Nodup->RelH φ A nF H->H.Dis L->Agrees H L->∃ φ' A' K',Agr φ φ' A.length/\A.length<=A'.length/\Kstep K A K' A'/\PW K'/\RelH φ' A' nF (H.join L))
  (h:∀ K',PW K'->TK (YU hS gm φ0 Qq hkd f cs de A0 K0) ds (.inRegion Qy Wp::kk) Wk K')
  (hw:zM Qy Wq o=some tt:=by rfl) (he:e=Extern.Race.marked .acquire:=by rfl) (hwk:¬ y.A.wk T:=by exact fun h=>by cases h <;> rename_i h <;> cases h) (hd:zV Wq o.dst (.v (.tuple #[]))=Wk:=by exact zD rfl tQ) :
  TK ((YT y main Ch) k i T x gm φ0 Qq hkd f cs de A0 K0) ds (.inRegion Qy (q::Wp)::kk) Wq K:=by
 intro A hA φ H ts h1 h2 h3 h4 h5 h6;show y.Sf main Ch k i T x _ _;refine .stop ?_;cases k with
 | zero=>trivial
 | succ k' =>
  obtain⟨fn,e1,e2,e3,e4,e5⟩:=hx.h;subst he;refine⟨rfl,rfl,fun hw=>absurd hw hwk,?_⟩;have hk':y.A.kd T=.acqW:=hk;rw[hk'];refine⟨G (fr Qq f none (putT ts o.dst (.tuple #[])) (dsC φ ds++de) (.inRegion Qy Wp::kk)) cs,rfl,fun w hf=>?_,fun L hG hD hAg=>?_⟩
  ·show stepG P main (G (fr Qq f none ts (dsC φ ds++de) _) cs) w=_;rw[fr_at,stepG_markAt (b:=bf Qq f) (a:=⟨ts,dsC φ ds++de⟩) .acquire sQ ho (zO (ts:=ts) h6 hw) hkd Qw e1 e2 e3 e4 e5 (ad:=stA y.Wg) (by simp[ev_v (dd:=dsC φ ds++de) h3 h6 hc]),yo];rfl
  ·obtain⟨φ',A',K',ha,hl,hst,hp,hH⟩:=hGI L A φ H hG (mM hl1 hA.len) ((h1 _ hl1).trans hl2) hA.view hA.nd h5 hD hAg;have hE:=yF (a:=⟨ts,[]⟩) (h6.mono ha hl) (RelV.v (φ:=φ') (n:=A'.length) (.tuple #[])) o.dst;have hds:dsC φ' ds=dsC φ ds:=by
    unfold dsC;exact List.map_congr_left fun d hd'=>by rw[ha d (h4 d hd')]
   rw[hd]at hE;have hA':=hA.step hst;have:=h K' hp A' ⟨hA'.view,hA'.nd,hA'.own,hA'.kept,hA'.len⟩ φ' (H.join L) (putT ts o.dst (.tuple #[])) (h1.trans ha hA.len) (mT hA.len hl) (h3.mono ha hl) (fun d hd=>mM (h4 d hd) hl) hH hE;rw[hds]at this;exact this
end
end Go.Vel
namespace Go.Vel
open Go Go.Conc Go.Proofs
open Go.ConcN (sumTo upd upd_ne upd_same)
open Go.ConcM (OsLater MuAt muA msA)
open Go.ConcR (KK wgBlock WgAt stA smA mk rd wr)
open Mx (TT Th Mn S4 auto Mv4 ok4 bl4 kd dl MPc Pc okW okM Mv nx4 cnt newOf)
instance:Ext tp 164 (Extern.Atomic.update (Op.intArith .add) .u64 tt):=⟨_,Tryz.func164,by kernel_rfl,by kernel_rfl,by kernel_rfl,by kernel_rfl⟩
instance:Ext tp 165 (Extern.Atomic.loadT (.int .u64)):=⟨_,Tryz.func165,by kernel_rfl,by kernel_rfl,by kernel_rfl,by kernel_rfl⟩
instance:Ext tp 172 (Extern.Atomic.casT (.int .u64)):=⟨_,Tryz.func172,by kernel_rfl,by kernel_rfl,by kernel_rfl,by kernel_rfl⟩
instance:Ext tp 125 (fun _=>pure (.bool ff)):=⟨_,Tryz.func125,by kernel_rfl,by kernel_rfl,by kernel_rfl,by kernel_rfl⟩
instance:Ext tp 130 (Extern.Race.marked .read):=⟨_,Tryz.func130,by kernel_rfl,by kernel_rfl,by kernel_rfl,by kernel_rfl⟩
instance:Ext tp 142 (Extern.Race.marked .write):=⟨_,Tryz.func142,by kernel_rfl,by kernel_rfl,by kernel_rfl,by kernel_rfl⟩
instance:Ext tp 143 (Extern.Sync.semacquire):=⟨_,Tryz.func143,by kernel_rfl,by kernel_rfl,by kernel_rfl,by kernel_rfl⟩
theorem uP224:tp.underlying 213=some (.pointer 166):=by kernel_rfl
theorem uP217:tp.underlying 206=some (.pointer 177):=by kernel_rfl
theorem z190:(tp.info? 166).map (fun i=>decide (i.size=0))=some ff:=by kernel_rfl
theorem z201:(tp.info? 177).map (fun i=>decide (i.size=0))=some ff:=by kernel_rfl
def GIw(y:Sy tp)(lo:Nat×Loc3)(PW:KV->Prop):Prop :=
 ∀ L A φ H,y.GI y.all L->lo.1<A.length->φ lo.1=lo.2->zU [(lo.1,.gone)] A->(keys [(lo.1,AObj.gone)]).Nodup->RelH φ A nF H->H.Dis L->Agrees H L->∃ φ' A' K',Agr φ φ' A.length/\A.length<=A'.length/\Kstep [(lo.1,.gone)] A K' A'/\PW K'/\RelH φ' A' nF (H.join L)
theorem bU1:∀ a:Nat,a<66->bits .and .u64 ((a*4294967296:Nat):Int) 2147483648=0:=by decide +kernel
theorem bU2:∀ a:Nat,a<66->bits .and .u64 ((a*4294967296:Nat):Int) 2147483647=0:=by decide +kernel
theorem wu64{n:Int}(h:0<=n/\n<18446744073709551616):IntKind.u64.wrap n=n:=by
 unfold IntKind.wrap;simp only[show IntKind.u64.bits=64 from rfl,show IntKind.u64.signed=ff from rfl,Bool.false_and];simp;omega
theorem za9{s:S4}(h:s.wt=0):gval s=((s.v*4294967296:Nat):Int):=by unfold gval KK;rw[h];simp
theorem zjt{s:S4}(h:s.wt=0):gval { s with v:=s.v+1 }=(((s.v+1)*4294967296:Nat):Int):=by unfold gval KK;rw[h];simp
theorem zlg{s:S4}(hv:s.v<64)(h:s.wt=0):IntKind.u64.wrap (gval s+4294967296)=gval { s with v:=s.v+1 }:=by
 rw[zjt h,za9 h,wu64 oQ];omega
theorem zjn{s:S4}{v:Nat}(h:s.wt=0)(e:gval s=((v*4294967296:Nat):Int)):s.v=v:=by rw[za9 h]at e;omega
theorem zlh{s:S4}{v:Nat}(h:s.wt=0)(e:gval s=((v*4294967296:Nat):Int)):gval { s with wt:=1 }=((v*4294967296+1:Nat):Int):=by
 have:=zjn h e;unfold gval KK;dsimp only;omega
theorem q_shL{P:gP}{gm:Nat->Option Nat}{Wq:List AV}{V:KV}{o:gB}{t yt:gT}{x y:gO}{k k':gJ}{a b:Int}{r:Int}(ho:o.op=.binOp .shl t x y yt)(hx:zn gm Wq x=some (.v (.int k a)))(hy:zn gm Wq y=some (.v (.int k' b)))(h0:0<=b/\b<=k.bits)(hr:k.wrap (a*2 ^ b.toNat)=r):Qk P gm Wq V o (.v (.int k r)):=fun A _=>by
 refine wu ho (by rw[zq hx];rfl) (by rw[zq hy];rfl) ?_;rw[vv];show zL P (Op.shift .shl k a k' b)=_;rw[shift_shl k k' a b h0.1 h0.2,hr];rfl
instance:zm tp 175 2 0 ff 1:={}
instance:zm tp 177 1 0 tt 1:={}
instance:zm tp 177 2 1 ff 1:={}
instance:Und tp 166 (.int .u32):={}
instance:Und tp 173 (.int .u64):={}
instance:Und tp 21 (.int .i32):={}
instance:Und tp 3 (.int .i64):={}
theorem zm6{gm:Nat->Option Nat}{Ch:Nat->gG->Hp->Prop}(y:Sy tp){lo:Nat×Loc3}{k j:Nat}{x:Nat->Bool}{K:KV} :
  CallS tp gm lo (y.Sf tt Ch k 0 (.m { pc:=.a1,j:=j }) x) 129 [.v (.pointer (some ⟨y.Wg,0,none⟩)),.v (.int .u64 4294967296)] K (fun r K' T'=>K'=K/\∃ v k',v<64/\k'<k/\r=.v (.int .u64 (((v+1)*4294967296:Nat):Int))/\T'=y.Sf tt Ch k' 0 (.m { pc:=if v=0 then .ar else .a2,j:=j }) x):=by
 refine wW 10 (y.shutF _ _ _ _ _ _) Tryz.func129 fun φ0 c0 cs A0 hl1 hl2 Wz=>?_;refine au 1423542 ?_;refine TK.a Z (yE Z Z) ?_;refine TK.a Z (yj Z Z zm.h dQ) ?_;refine au 1 ?_;refine TK.gAdd 4294967296 (fun s=>{ s with v:=s.v+1 }) (fun s=>.m { pc:=if s.v=0 then .ar else .a2,j:=j }) rfl rfl rfl rfl rfl (fun s hok=>⟨?_,rfl,rfl,rfl⟩) (fun s _=>.a1 rfl) ⟨mS,fun s=>by by_cases h:s.v=0 <;> simp only[h,↓reduceIte] <;> rfl⟩ (fun s=>rfl) (fun s=>by by_cases h:s.v=0 <;> simp only[h,↓reduceIte] <;> exact fun h=>by cases h) fun s hok k1 hk1=>?_
 ·obtain⟨q1,q2,q3,q4⟩:=hok;exact zlg q1 q3
 have hv:s.v<64:=hok.1;have hval:gval { s with v:=s.v+1 }=(((s.v+1)*4294967296:Nat):Int):=zjt hok.2.2.1;rw[hval];refine au 35 ?_;refine TK.rta (Wz (hT':=y.shutF _ _ _ _ _ _)) ?_ (yR (zQ Z));exact⟨rfl,s.v,_,hv,hk1,rfl,rfl⟩
theorem zfr{gm:Nat->Option Nat}{Ch:Nat->gG->Hp->Prop}(y:Sy tp){lo:Nat×Loc3}{k:Nat}{x:Nat->Bool}{K:KV}{T:TT}(Tn:S4->TT)(hmv:∀ s,ok4 T s->Mv4 y.n T s (Tn s) s)(hdl:0<dl T/\∀ s,dl (Tn s)=dl T)(hT':∀ s,y.A.aft (Tn s)=ff)(hk':∀ s,kd (Tn s)≠.quit)(hk:kd T=.book)(hb:∀ s,¬ bl4 T s)(hwk:¬ y.A.wk T) :
  CallS tp gm lo (y.Sf tt Ch k 0 T x) 131 [.v (.pointer (some ⟨y.Wg,0,none⟩))] K (fun r K' T'=>K'=K/\∃ s k',ok4 T s/\k'<k/\r=.v (.int .u64 (gval s))/\T'=y.Sf tt Ch k' 0 (Tn s) x):=by
 refine wW 7 (y.shutF _ _ _ _ _ _) Tryz.func131 fun φ0 c0 cs A0 hl1 hl2 Wz=>?_;refine au 1423542 ?_;refine TK.a Z (yE Z Z) ?_;refine TK.a Z (yj Z Z zm.h dQ) ?_;refine TK.gLoad Tn Z Z Z Z hmv hdl hT' hk' (fun s hok k1 hk1=>?_) rfl hk hb hwk;refine au 35 ?_;refine TK.rta (Wz (hT':=y.shutF _ _ _ _ _ _)) ?_ (yR (zQ Z));exact⟨rfl,s,_,hok,hk1,rfl,rfl⟩
theorem zm7{gm:Nat->Option Nat}{Ch:Nat->gG->Hp->Prop}(y:Sy tp){lo:Nat×Loc3}{k j v:Nat}{x:Nat->Bool}{K:KV} :
  CallS tp gm lo (y.Sf tt Ch k 0 (.m { pc:=.w2,j:=j,old:=v }) x) 141 [.v (.pointer (some ⟨y.Wg,0,none⟩)),.v (.int .u64 ((v*4294967296:Nat):Int)),.v (.int .u64 ((v*4294967296+1:Nat):Int))] K (fun r K' T'=>K'=K/\∃ b k',k'<k/\r=.v (.bool b)/\T'=y.Sf tt Ch k' 0 (.m { pc:=if b=tt then .wr else .w1,j:=j,old:=v }) x):=by
 refine wW 13 (y.shutF _ _ _ _ _ _) Tryz.func141 fun φ0 c0 cs A0 hl1 hl2 Wz=>?_;refine au 1423542 ?_;refine TK.a Z (yE Z Z) ?_;refine TK.a Z (yj Z Z zm.h dQ) ?_;refine au 11 ?_;refine TK.gCas (.m { pc:=.wr,j:=j,old:=v }) (.m { pc:=.w1,j:=j,old:=v }) ((v*4294967296:Nat):Int) ((v*4294967296+1:Nat):Int) (fun s=>{ s with wt:=1 }) rfl rfl rfl rfl rfl rfl (fun s hok e=>⟨?_,rfl,rfl,rfl⟩) (fun s hok e=>.w2h rfl ?_) (fun s hok e=>.w2m rfl ?_) ⟨mS,rfl,rfl⟩ rfl rfl (fun h=>by cases h) (fun h=>by cases h) (fun k1 hk1=>?_) (fun k1 hk1=>?_);rotate_left;rotate_left;rotate_left
 ·refine au 35 ?_;refine TK.rta (Wz (hT':=y.shutF _ _ _ _ _ _)) ?_ (yR (zQ Z));exact⟨rfl,tt,_,hk1,rfl,rfl⟩
 ·refine au 35 ?_;refine TK.rta (Wz (hT':=y.shutF _ _ _ _ _ _)) ?_ (yR (zQ Z));exact⟨rfl,ff,_,hk1,rfl,rfl⟩
 ·exact zlh hok.2.2.1 e
 ·exact zjn hok.2.2.1 e
 ·exact fun h=>e (by rw[<- (show s.v=v from h)];exact za9 hok.2.2.1)
theorem zmy{gm:Nat->Option Nat}{Ch:Nat->gG->Hp->Prop}(y:Sy tp){lo:Nat×Loc3}{k j:Nat}{x:Nat->Bool} :
  CallS tp gm lo (y.Sf tt Ch k 0 (.m { pc:=.a0,j:=j }) x) 94 [.v (.pointer (some ⟨y.Wg,0,none⟩)),.v (.int .i64 1)] [] (fun r K' T'=>r=.tup []/\K'=[]/\∃ k',k'<k/\T'=y.Sf tt Ch k' 0 (.m { pc:=.go,j:=j }) x):=by
 refine zi0 117 (y.shutF _ _ _ _ _ _) Tryz.func94 fun φ0 c0 cs A0 hl1 hl2 Qj=>?_;refine au 14221802 ?_;refine TK.a Z (q_cmp Z Z Z Z) ?_;refine au 93 ?_;apply aI<;>intro Jx
 ·exfalso;simp at Jx
 refine au 42120 ?_;refine TK.sMark (.m { pc:=.a1,j:=j }) .disable sQ Z Z Z (fun s _=>.a0 rfl) (zad 0) rfl (fun k1 hk1=>?_);refine au 43 ?_;refine TK.sDefer (vs:=[]) Z Z Z ?_;refine au 42235423 ?_;refine TK.sPure Z Z ?_;refine au 1421201903 ?_;refine TK.a Z (yE Z Z) ?_;refine TK.a Z (yj Z Z zm.h dQ) ?_;refine au 1 ?_;refine TK.a Z (yr Z Z Und.h Und.h (m:=1) Z) ?_;refine TK.a Z (q_shL Z Z Z dQ (r:=4294967296) dQ) ?_;refine TK.callS Z Z Z Z (zm6 y) hl1 hl2 ?_;rintro r2 K2 T2 ⟨rfl,v,k2,hv,hk2,rfl,rfl⟩;refine⟨y.shutF _ _ _ _ _ _,?_⟩;refine au 142235 ?_;refine TK.a Z (yV Z Z Z (.inl Z) (bU1 (v+1) oQ)) ?_;refine au 17 ?_;refine TK.sp 47 (fun g16_4=>?_) (fun g16_4=>?_)
 ·exfalso;simp at g16_4
 refine au 142120190325088 ?_;refine TK.a Z (q_sh Z Z Z dQ (r:=((v+1:Nat):Int)) (by show(((v+1)*4294967296:Nat):Int) / 4294967296=_;omega)) ?_;refine TK.a Z (yr Z Z Und.h Und.h (m:=((v+1:Nat):Int)) (w32 oQ)) ?_;refine au 14235 ?_;refine TK.a Z (yV Z Z Z (.inl Z) (bU2 (v+1) oQ)) ?_;refine TK.a Z (yr Z Z Und.h Und.h (m:=0) Z) ?_;refine au 126071142235 ?_;refine TK.sp 62 (fun g20_5=>?_) (fun g20_5=>?_)
 ·refine au 11 ?_;refine TK.a Z (yr Z Z Und.h Und.h (m:=1) Z) ?_;refine au 932607 ?_;apply aI<;>intro hc8
  ·have h8:v=0:=by simp at hc8;omega
   refine TK.castT (T':=.m { pc:=.ar,j:=j }) Z (by rw[if_pos h8]) ?_;refine au 14 ?_;refine TK.a Z (yE Z Z) ?_;refine TK.a Z (yj Z Z zm.h dQ) ?_;refine TK.sConv Z Z Z uP224 uP219 z190 (fun w s h=>⟨_,h.2.cellSm⟩) ?_;refine au 0 ?_;refine TK.gSaid (.m { pc:=.a2,j:=j }) .read sQ (.inl Z) Z Z Z Z Z (fun s _=>.ar rfl) ⟨mS,rfl⟩ rfl (fun h=>by cases h) (fun k3 hk3=>?_);refine au 93714223 ?_;apply aI<;>intro hc9
   ·exfalso;simp at hc9 <;> omega
   refine au 171422120 ?_;refine TK.sp 78 (fun g24_3=>?_) (fun g24_3=>?_)
   ·exfalso;simp at g24_3
   refine au 17142212019032508888125088 ?_;refine TK.sp 91 (fun g26_3=>?_) (fun g26_3=>?_)
   ·refine au 180326088 ?_;refine TK.retD (.m { pc:=.go,j:=j }) .enable sQ (fun s _=>.a2 rfl) (wC 0) rfl Tryz.func94 res_0 (fun k9 hk9 A φ' H' v hA ha hl hH hv=>Qj _ _ _ ⟨rfl,rfl,_,oQ,rfl⟩ A φ' H' v ⟨hA.view,hA.nd,hA.own,hA.kept,hA.len⟩ ha hl hH hv);skip
   exfalso;simp at g26_3 <;> omega
  have h8:¬ v=0:=by simp at hc8;omega
  refine TK.castT (T':=.m { pc:=.a2,j:=j }) Z (by rw[if_neg h8]) ?_;refine au 9371422120 ?_;apply aI<;>intro hc9
  ·exfalso;simp at hc9 <;> omega
  refine au 171422120 ?_;refine TK.sp 78 (fun g24_3=>?_) (fun g24_3=>?_)
  ·exfalso;simp at g24_3
  refine au 17142212019032508888125088 ?_;refine TK.sp 91 (fun g26_3=>?_) (fun g26_3=>?_)
  ·refine au 180326088 ?_;refine TK.retD (.m { pc:=.go,j:=j }) .enable sQ (fun s _=>.a2 rfl) (wC 0) rfl Tryz.func94 res_0 (fun k9 hk9 A φ' H' v hA ha hl hH hv=>Qj _ _ _ ⟨rfl,rfl,_,oQ,rfl⟩ A φ' H' v ⟨hA.view,hA.nd,hA.own,hA.kept,hA.len⟩ ha hl hH hv);skip
  exfalso;simp at g26_3 <;> omega
 exfalso;simp at g20_5
theorem zkI{gm:Nat->Option Nat}{Ch:Nat->gG->Hp->Prop}(y:Sy tp){lo:Nat×Loc3}{PW:KV->Prop}{k j:Nat}{x:Nat->Bool}(hS:zo tp tt y.Stop)(hGI:GIw y lo PW) :
  CallS tp gm lo (y.Sf tt Ch k 0 (.m { pc:=.w0,j:=j }) x) 101 [.v (.pointer (some ⟨y.Wg,0,none⟩))] [(lo.1,.gone)] (fun r K' T'=>r=.tup []/\PW K'/\T'=y.Stop):=by
 refine wW 84 (y.shutF _ _ _ _ _ _) Tryz.func101 fun φ0 c0 cs A0 hl1 hl2 Wz=>?_;refine au 41802 ?_;refine TK.sMark (.m { pc:=.w1,j:=j }) .disable sQ Z Z Z (fun s _=>.w0 rfl) (zad 0) rfl (fun k1 hk1=>?_);refine au 1303 ?_;refine TK.maskL [0] ?_;refine TK.loopS (ι:=Nat) (fun b=>.m { pc:=.w1,j:=j,old:=b }) (fun _=>rfl) (fun b Wq K=>K=[(lo.1,AObj.gone)]/\Wq=[.v (.pointer (some ⟨y.Wg,0,none⟩)),.any,.any,.any,.any,.any,.any,.any,.any,.any,.any,.any,.any,.any,.any,.any,.any,.any,.any,.any,.any,.any,.any,.any,.any,.any,.any,.any,.any,.any,.any,.any,.any,.any,.any,.any,.any,.any,.any,.any,.any,.any,.any,.any,.any,.any,.any,.any,.any,.any,.any,.any,.any,.any,.any,.any,.any,.any,.any,.any,.any,.any,.any,.any,.any,.any,.any,.any,.any,.any,.any,.any,.any,.any,.any,.any,.any,.any,.any,.any,.any,.any,.any,.any]) 0 ⟨rfl,rfl⟩ rfl ?_;rintro k1 hk1 old Wq K ⟨rfl,rfl⟩ ih;refine au 142130 ?_;refine TK.a Z (yE Z Z) ?_;refine TK.a Z (yj Z Z zm.h dQ) ?_;refine TK.callS Z Z Z Z (zfr y (T:=.m { pc:=.w1,j:=j,old:=old }) (fun s=>.m { pc:=if s.v=0 then .w5 else .w2,j:=j,old:=s.v }) (fun s _=>.w1 rfl) ⟨mS,fun s=>by by_cases h:s.v=0 <;> simp only[h,↓reduceIte] <;> rfl⟩ (fun s=>rfl) (fun s=>by by_cases h:s.v=0 <;> simp only[h,↓reduceIte] <;> exact fun h=>by cases h) rfl (fun _ h=>by cases h.1) (fun h=>h.elim)) hl1 hl2 ?_;rintro r2 K2 T2 ⟨rfl,s,k2,hok,hk2,rfl,rfl⟩;refine⟨y.shutF _ _ _ _ _ _,?_⟩;refine au 0 ?_;rw[za9 hok.2.2.1];obtain⟨v,hv⟩:∃ v,v=s.v:=⟨_,rfl⟩;have hv1:v<64:=hv ▸ hok.1;rw[<- hv];clear hok hv s;refine au 14235 ?_;refine TK.a Z (q_sh Z Z Z dQ (r:=((v:Nat):Int)) (by show((v*4294967296:Nat):Int) / 4294967296=_;omega)) ?_;refine TK.a Z (yr Z Z Und.h Und.h (m:=((v:Nat):Int)) (w32 oQ)) ?_;refine au 14235 ?_;refine TK.a Z (yV Z Z Z (.inl Z) (bU2 v oQ)) ?_;refine TK.a Z (yr Z Z Und.h Und.h (m:=0) Z) ?_;refine au 937142235 ?_;apply aI<;>intro Jx
 ·have h1:v=0:=by simp at Jx;omega
  refine TK.castT (T':=.m { pc:=.w5,j:=j,old:=v }) Z (by rw[if_pos h1]) ?_;refine au 421802 ?_;refine TK.sMark (.m { pc:=.w6,j:=j,old:=v }) .enable sQ Z Z Z (fun s _=>.w5 rfl) (wC 0) rfl (fun k8 hk8=>?_);refine au 143 ?_;refine TK.sConv Z Z Z uP217 uP219 z201 (fun w s h=>⟨_,h.2.cellSt⟩) ?_;refine au 0 ?_;refine TK.acqW Z Z Z Z hl1 hl2 hS hGI (fun K5 hp5=>?_);refine au 1714223 ?_;refine TK.sp 26 (fun g7_3=>?_) (fun g7_3=>?_)
  ·refine au 1 ?_;refine TK.a Z (yV Z Z Z (.inl Z) (bU1 v oQ)) ?_;refine au 12607 ?_;refine TK.sp 31 (fun g7_8=>?_) (fun g7_8=>?_)
   ·exfalso;simp at g7_8
   refine au 120190325088 ?_;refine TK.rta (Wz (hT':=hS)) ?_ res_0;exact⟨rfl,hp5,rfl⟩
  exfalso;simp at g7_3
 have h1:¬ v=0:=by simp at Jx;omega
 refine TK.castT (T':=.m { pc:=.w2,j:=j,old:=v }) Z (by rw[if_neg h1]) ?_;refine au 142120 ?_;refine TK.a Z (yE Z Z) ?_;refine TK.a Z (yj Z Z zm.h dQ) ?_;refine au 11 ?_;refine TK.a Z (uz Z Z Z (r:=((v*4294967296+1:Nat):Int)) (.inl ⟨rfl,by rw[wu64 oQ];omega⟩)) ?_;refine TK.callS Z Z Z Z (zm7 y) hl1 hl2 ?_;rintro r2 K2 T2 ⟨rfl,b,k3,hk3,rfl,rfl⟩;refine⟨y.shutF _ _ _ _ _ _,?_⟩;refine au 93 ?_;apply aI<;>intro hc5
 ·refine TK.castT (T':=.m { pc:=.wr,j:=j,old:=v }) Z (by rw[if_pos hc5]) ?_;refine au 93260711422 ?_;apply aI<;>intro hc6
  ·refine au 14 ?_;refine TK.a Z (yE Z Z) ?_;refine TK.a Z (yj Z Z zm.h dQ) ?_;refine TK.sConv Z Z Z uP224 uP219 z190 (fun w s h=>⟨_,h.2.cellSm⟩) ?_;refine au 0 ?_;refine TK.gSaid (.m { pc:=.w3,j:=j,old:=v }) .write sQ (.inr Z) Z Z Z Z Z (fun s _=>.wr rfl) ⟨mS,rfl⟩ rfl (fun h=>by cases h) (fun k4 hk4=>?_);refine au 142235423 ?_;refine TK.a Z (yV Z Z Z (.inl Z) (bU1 v oQ)) ?_;refine au 17 ?_;refine TK.sp 61 (fun g14_4=>?_) (fun g14_4=>?_)
   ·exfalso;simp at g14_4
   refine au 14212019032508 ?_;refine TK.a Z (yE Z Z) ?_;refine TK.a Z (yj Z Z zm.h dQ) ?_;refine au 1 ?_;refine TK.gSem (.m { pc:=.w4,j:=j,old:=v }) Z Z Z Z (fun c hc=>by simp at hc;subst hc;rfl) rfl (fun s _ hz=>.w3 rfl hz) ⟨rfl,rfl⟩ rfl (fun h=>by cases h) (fun k5 hk5=>?_);refine au 1423 ?_;refine TK.a Z (yE Z Z) ?_;refine TK.a Z (yj Z Z zm.h dQ) ?_;refine TK.callS Z Z Z Z (zfr y (T:=.m { pc:=.w4,j:=j,old:=v }) (fun _=>.m { pc:=.w5,j:=j,old:=v }) (fun s _=>.w4 rfl) ⟨mS,fun s=>rfl⟩ (fun s=>rfl) (fun s h=>by cases h) rfl (fun _ h=>by cases h.1) (fun h=>h.elim)) hl1 hl2 ?_;rintro r2 K2 T2 ⟨rfl,s,k6,hok,hk6,rfl,rfl⟩;refine⟨y.shutF _ _ _ _ _ _,?_⟩;refine au 0 ?_;rw[za9 hok.2.2.2.1,hok.2.2.1];clear hok s;refine au 421802357 ?_;refine TK.sMark (.m { pc:=.w6,j:=j,old:=v }) .enable sQ Z Z Z (fun s _=>.w5 rfl) (wC 0) rfl (fun k8 hk8=>?_);refine au 143 ?_;refine TK.sConv Z Z Z uP217 uP219 z201 (fun w s h=>⟨_,h.2.cellSt⟩) ?_;refine au 0 ?_;refine TK.acqW Z Z Z Z hl1 hl2 hS hGI (fun K5 hp5=>?_);refine au 9314223 ?_;apply aI<;>intro hc12
   ·exfalso;simp at hc12
   refine au 120 ?_;refine TK.rta (Wz (hT':=hS)) ?_ res_0;exact⟨rfl,hp5,rfl⟩
  exfalso;simp at hc6
 refine TK.castT (T':=.m { pc:=.w1,j:=j,old:=v }) Z (by rw[if_neg (by rw[hc5];decide)]) ?_;refine au 140120 ?_;refine TK.maskL [0] ?_;exact ih _ v _ _ oQ ⟨rfl,rfl⟩
end Go.Vel
namespace Go.Vel
open Go Go.Conc
open Go.ConcN (sumTo upd upd_ne upd_same)
open Go.ConcM (OsLater MuAt muA msA)
open Go.ConcR (KK wgBlock WgAt stA smA mk rd wr)
open Mx (TT Th Mn S4 auto Mv4 ok4 bl4 kd dl MPc Pc okW okM Mv nx4)
section
variable {P:gP}{main:Bool}{T:gG->Prop}
theorem wF{α:Type}{P:gP}(s:Sem α):∀{a:α},zL P s=some a->∀ w,s.run P w=.ok a w/\s.events P w #[]=#[]:=by
 induction s with
 | pure b=>intro a h w;cases h;exact⟨rfl,rfl⟩
 | program k ih=>intro a h w;exact ih P h w
 | _=>intro a h;cases h
def ShQ(P:gP)(main:Bool)(T:gG->Prop):Prop:=∀ g g',g.status=.running->g'.status=.running->(∀ w,stepG P main g w=.go g' w #[])->T g'->T g
variable {gm:Nat->Option Nat}
def Pk(P:gP)(Wq:List AV)(o:gB)(r:AV):Prop:=∀(φ:Nat->Loc3)(n:Nat)(a:Act),zN φ n Wq a.tmps->∃ v,zL P (execOp a.eval o)=some (.value v)/\RelV φ n r v
abbrev gN:Nat->Option Nat:=fun _=>none
variable {Wq Wk:List AV}{o:gB}
theorem zpd{x:gO}{r:AV}(ho:o.op=.move x)(hx:zn gN Wq x=some r):Pk P Wq o r:=fun φ n a hE=>by
 have:=zy (kG φ n) hE x;rw[zq hx]at this;exact⟨_,by unfold execOp;rw[ho];rfl,this⟩
theorem zl2{x:gO}{r:AV}(ho:o.op=.assign x)(hx:zn gN Wq x=some r):Pk P Wq o r:=fun φ n a hE=>by
 have:=zy (kG φ n) hE x;rw[zq hx]at this;exact⟨_,by unfold execOp;rw[ho];rfl,this⟩
theorem p_ev{φ:Nat->Loc3}{n:Nat}{a:Act}{c:gO}{z:gV}(hE:zN φ n Wq a.tmps)(h:zn gN Wq c=some (.v z)):a.eval c=z:=inv_v' (kG φ n) hE h
theorem zpe{x:gO}{l:Addr}(ho:o.op=.nilCheck x)(hx:zn gN Wq x=some (.v (.pointer (some l)))):Pk P Wq o (.v (.pointer (some l))):=fun φ n a hE =>
 ⟨_,by unfold execOp;rw[ho];dsimp only;rw[p_ev hE hx];rfl,.v _⟩
theorem p_int{op:BinOp}{t yt:gT}{x y:gO}{k k':gJ}{a b:Int}{z:gV}(ho:o.op=.binOp op t x y yt)(hx:zn gN Wq x=some (.v (.int k a)))(hy:zn gN Wq y=some (.v (.int k' b)))(h:zL P (binOp op t (.int k a) (.int k' b))=some z):Pk P Wq o (.v z):=fun φ n ac hE=>by
 refine⟨z,?_,.v z⟩;unfold execOp;rw[ho];dsimp only;rw[p_ev hE hx,p_ev hE hy,vv];exact zJ (zJ rfl h) rfl
theorem zcZ{op:BinOp}{t yt:gT}{x y:gO}{k:gJ}{a b:Int}{r:Int}(ho:o.op=.binOp op t x y yt)(hx:zn gN Wq x=some (.v (.int k a)))(hy:zn gN Wq y=some (.v (.int k b)))(Qw:op=.and\/op=.or\/op=.andNot)(hr:bits op k a b=r):Pk P Wq o (.v (.int k r)):=by
 refine p_int ho hx hy ?_;subst hr;rcases Qw with rfl|rfl|rfl;all_goals
  show zL P (if k≠k then _ else _)=_;rw[if_neg sQ];rfl
theorem zjT{op:BinOp}{t yt:gT}{x y:gO}{k:gJ}{a b:Int}{r:Int}(ho:o.op=.binOp op t x y yt)(hx:zn gN Wq x=some (.v (.int k a)))(hy:zn gN Wq y=some (.v (.int k b)))(h:(op=.add/\k.wrap (a+b)=r)\/(op=.sub/\k.wrap (a - b)=r)):Pk P Wq o (.v (.int k r)):=by
 refine p_int ho hx hy ?_;rcases h with⟨rfl,rfl⟩|⟨rfl,rfl⟩;all_goals
  show zL P (if k≠k then _ else _)=_;rw[if_neg sQ];rfl
theorem p_cmp{op:BinOp}{t yt:gT}{x y:gO}{k:gJ}{a b:Int}{z:Bool}(ho:o.op=.binOp op t x y yt)(hx:zn gN Wq x=some (.v (.int k a)))(hy:zn gN Wq y=some (.v (.int k b)))(h:cmpI op a b=some z):Pk P Wq o (.v (.bool z)):=by
 refine p_int ho hx hy ?_;cases op <;> first|(cases h;done)|skip
 all_goals
  cases h;show zL P (if k≠k then _ else _)=_;rw[if_neg sQ];rfl
theorem p_sh{t yt:gT}{x y:gO}{k k':gJ}{a b:Int}{r:Int}(ho:o.op=.binOp .shr t x y yt)(hx:zn gN Wq x=some (.v (.int k a)))(hy:zn gN Wq y=some (.v (.int k' b)))(h0:0<=b/\b<=k.bits)(hr:a / 2 ^ b.toNat=r):Pk P Wq o (.v (.int k r)):=by
 refine p_int ho hx hy ?_;show zL P (Op.shift .shr k a k' b)=_;rw[shift_shr k k' a b h0.1 h0.2,hr];rfl
theorem p_shL{t yt:gT}{x y:gO}{k k':gJ}{a b:Int}{r:Int}(ho:o.op=.binOp .shl t x y yt)(hx:zn gN Wq x=some (.v (.int k a)))(hy:zn gN Wq y=some (.v (.int k' b)))(h0:0<=b/\b<=k.bits)(hr:k.wrap (a*2 ^ b.toNat)=r):Pk P Wq o (.v (.int k r)):=by
 refine p_int ho hx hy ?_;show zL P (Op.shift .shl k a k' b)=_;rw[shift_shl k k' a b h0.1 h0.2,hr];rfl
theorem vT{s d:gT}{x:gO}{k k':gJ}{ds:TypeDesc}{n m:Int}(ho:o.op=.convert s d x)(hx:zn gN Wq x=some (.v (.int k n)))(hs:P.underlying s=some ds)(hd:P.underlying d=some (.int k'))(h:k'.wrap n=m):Pk P Wq o (.v (.int k' m)):=fun φ n' ac hE=>by
 refine⟨_,?_,.v _⟩;unfold execOp;rw[ho];dsimp only;rw[p_ev hE hx];refine zJ (a:=.int k' m) ?_ rfl;unfold convert;refine zJ (yi hs) (zJ (yi hd) ?_);have:zL P (Conv.intToInt k' n)=some (.int k' m):=by rw[<- h];rfl
 cases ds <;> exact this
theorem znG{c x y:gO}{r:AV}(ho:o.op=.pick c x y)(hc:zn gN Wq c=some (.v (.bool tt)))(hx:zn gN Wq x=some r):Pk P Wq o r:=fun φ n a hE=>by
 have:=zy (kG φ n) hE x;rw[zq hx]at this;exact⟨_,by unfold execOp;rw[ho];simp only[p_ev hE hc];rfl,this⟩
theorem znF{c x y:gO}{r:AV}(ho:o.op=.pick c x y)(hc:zn gN Wq c=some (.v (.bool ff)))(hy:zn gN Wq y=some r):Pk P Wq o r:=fun φ n a hE=>by
 have:=zy (kG φ n) hE y;rw[zq hy]at this;exact⟨_,by unfold execOp;rw[ho];simp only[p_ev hE hc];rfl,this⟩
theorem zdx{t:gT}{i:TypeInfo}(h:P.info? t=some i):zL P (typeInfo t)=some i:=by
 show zL P (match P.info? t with|some i=>pure i|none=>stuck "no such type")=_
 rw[h];rfl
theorem zf6{t:gT}{i:TypeInfo}(h:P.info? t=some i):zL P (sizeOf t)=some i.size:=by
 unfold sizeOf;exact zJ (zdx h) rfl
theorem zl3{t:gT}{x:gO}{k off d m:Nat}{g:Bool}{b:Nat}(ho:o.op=.fieldAddr t x k)(hx:zn gN Wq x=some (.v (.pointer (some ⟨b,off,none⟩))))(hf:fieldOf P t k=some (d,g,m))(hn:m≠0):Pk P Wq o (.v (.pointer (some ⟨b,off+d,none⟩))):=fun φ n ac hE=>by
 refine⟨_,?_,.v _⟩;unfold execOp;rw[ho];obtain⟨fs,f,e1,e2,e3,e4⟩:=vl hf;obtain⟨ti,td,e5,_,_,e6⟩:=yL e4;dsimp only;rw[p_ev hE hx];refine zJ (a:=.pointer (some ⟨b,off+d,none⟩)) ?_ rfl;unfold Instr.fieldAt;refine zJ (yi e1) ?_;simp only[e2];have hp:zL P (fieldPlace ⟨b,off,none⟩ f)=some ⟨b,off+d,none⟩:=by
  unfold fieldPlace;refine zJ (zf6 e5) ?_;rw[e6,if_neg hn];show some (Addr.add ⟨b,off,none⟩ f.offset)=_;rw[kn,e3]
 exact zJ rfl (zJ hp rfl)
variable (φ0:Nat->Loc3) in
def TQ(P:gP)(T:gG->Prop)(Qq:gK)(f:gF)(cs:List gQ)(de:List gD)(k:List Item)(Wq:List AV):Prop:=∀ ts,zN φ0 0 Wq ts->T (G (fr Qq f none ts de k) cs)
variable {φ0:Nat->Loc3}{Qq:gK}{f:gF}{cs:List gQ}{de:List gD}{k:List Item}{Qy:Array gB}{q:Nat}{Wp:List Nat}
theorem TQ.skip(hT:ShQ P main T)(h:(TQ φ0 P T Qq f cs de) k Wq):(TQ φ0 P T Qq f cs de) (.code .skip::k) Wq:=fun ts hE=>hT _ _ rfl rfl (fun _=>zhD) (h ts hE)
theorem TQ.inBlock(hT:ShQ P main T){id:Nat}(h:(TQ φ0 P T Qq f cs de) k Wq):(TQ φ0 P T Qq f cs de) (.inBlock id::k) Wq:=fun ts hE=>hT _ _ rfl rfl (fun _=>zdb) (h ts hE)
theorem TQ.seq(hT:ShQ P main T){x y:Code}(h:(TQ φ0 P T Qq f cs de) (.code x::.code y::k) Wq):(TQ φ0 P T Qq f cs de) (.code (.seq x y)::k) Wq:=fun ts hE=>hT _ _ rfl rfl (fun _=>zkt) (h ts hE)
theorem TQ.block(hT:ShQ P main T){id:Nat}{c:Code}(h:(TQ φ0 P T Qq f cs de) (.code c::.inBlock id::k) Wq):(TQ φ0 P T Qq f cs de) (.code (.block id c)::k) Wq:=fun ts hE=>hT _ _ rfl rfl (fun _=>zgh) (h ts hE)
theorem TQ.loop(hT:ShQ P main T){c:Code}(h:(TQ φ0 P T Qq f cs de) (.code c::.inLoop c::k) Wq):(TQ φ0 P T Qq f cs de) (.code (.loop c)::k) Wq:=fun ts hE=>hT _ _ rfl rfl (fun _=>zhC) (h ts hE)
theorem TQ.inLoop(hT:ShQ P main T){c:Code}(h:(TQ φ0 P T Qq f cs de) (.code c::.inLoop c::k) Wq):(TQ φ0 P T Qq f cs de) (.inLoop c::k) Wq:=fun ts hE=>hT _ _ rfl rfl (fun _=>zev) (h ts hE)
theorem TQ.exit(hT:ShQ P main T){id:Nat}{k':List Item}(hk:exitTo id k=some k')(h:(TQ φ0 P T Qq f cs de) k' Wq):(TQ φ0 P T Qq f cs de) (.code (.exit id)::k) Wq:=fun ts hE=>hT _ _ rfl rfl (fun _=>zhB hk) (h ts hE)
theorem TQ.rgn(hT:ShQ P main T){id:Nat}{L:List Nat}(hL:List.range Qy.size=L)(h:(TQ φ0 P T Qq f cs de) (.inRegion Qy L::k) Wq):(TQ φ0 P T Qq f cs de) (.code (.region id Qy ff)::k) Wq:=fun ts hE=>hT _ _ rfl rfl (fun _=>zew) (by rw[hL];exact h ts hE)
theorem TQ.end(hT:ShQ P main T)(h:(TQ φ0 P T Qq f cs de) k Wq):(TQ φ0 P T Qq f cs de) (.inRegion Qy []::k) Wq:=fun ts hE=>hT _ _ rfl rfl (fun _=>wU) (h ts hE)
theorem TQ.cond(hT:ShQ P main T){c:gO}{x y:Code}{t:Bool}(hc:zn gN Wq c=some (.v (.bool t)))(h:(t=tt->(TQ φ0 P T Qq f cs de) (.code x::k) Wq)/\(t=ff->(TQ φ0 P T Qq f cs de) (.code y::k) Wq)):(TQ φ0 P T Qq f cs de) (.code (.cond c x y)::k) Wq:=fun ts hE=>by
 refine hT _ _ Z Z (fun _=>zhA (t:=t) (by have:=p_ev (a:=⟨ts,[]⟩) hE hc;rw[yY]at this;exact this)) ?_;cases t with
 | true=>exact h.1 rfl ts hE
 | false=>exact h.2 rfl ts hE
theorem TQ.condT(hT:ShQ P main T){c:gO}{x y:Code}(hc:zn gN Wq c=some (.v (.bool tt)))(h:(TQ φ0 P T Qq f cs de) (.code x::k) Wq):(TQ φ0 P T Qq f cs de) (.code (.cond c x y)::k) Wq:=TQ.cond hT hc ⟨fun _=>h,fun h=>(by cases h)⟩
theorem TQ.condF(hT:ShQ P main T){c:gO}{x y:Code}(hc:zn gN Wq c=some (.v (.bool ff)))(h:(TQ φ0 P T Qq f cs de) (.code y::k) Wq):(TQ φ0 P T Qq f cs de) (.code (.cond c x y)::k) Wq:=TQ.cond hT hc ⟨fun h=>(by cases h),fun _=>h⟩
theorem TQ.norm(he:Wq=Wk)(h:(TQ φ0 P T Qq f cs de) k Wk):(TQ φ0 P T Qq f cs de) k Wq:=he ▸ h
theorem TQ.a(hT:ShQ P main T)(hkd:Qq≠.early){r:AV}{d:Nat}(ho:Qy[q]? =some o)(hq:Pk P Wq o r)(h:(TQ φ0 P T Qq f cs de) (.inRegion Qy Wp::k) Wk)(hd:yp o.op=ff:=by rfl)(hw:zM Qy Wq o=some tt:=by rfl)(hx:o.dst=some d:=by rfl)(he:Wq.set d r=Wk:=by simp only[List.set];rfl):(TQ φ0 P T Qq f cs de) (.inRegion Qy (q::Wp)::k) Wq:=fun ts hE=>by
 obtain⟨v,hv,hr⟩:=hq φ0 0 ⟨ts,[]⟩ hE;rw[yY]at hv;have hP:=yF (a:=⟨ts,[]⟩) hE hr o.dst;rw[hx]at hP;have hP2:zN φ0 0 Wk (putT ts o.dst v):=by rw[hx,<- he];exact hP
 refine hT _ _ Z Z (fun w=>?_) (h (putT ts o.dst v) hP2);obtain⟨e1,e2⟩:=wF _ hv w;rw[fr_at,stepG_value (b:=bf Qq f) (a:=⟨ts,de⟩) (v:=v) (w':=w) ho (zO (ts:=ts) hE hw) hkd (by rw[yY];exact e1),yo,listed_nil (by rw[yY];exact e2)];rfl
theorem TQ.unwanted(hT:ShQ P main T)(ho:Qy[q]? =some o)(hw:zM Qy Wq o=some ff)(he:zV Wq o.dst (.v undef)=Wk)(h:(TQ φ0 P T Qq f cs de) (.inRegion Qy Wp::k) Wk):(TQ φ0 P T Qq f cs de) (.inRegion Qy (q::Wp)::k) Wq:=fun ts hE=>by
 have hP:=yF (a:=⟨ts,[]⟩) hE (RelV.v (φ:=φ0) (n:=0) undef) o.dst;rw[he]at hP;exact hT _ _ rfl rfl (fun _=>uX ho (zO hE hw)) (h _ hP)
theorem TQ.sp(d:Nat){t:Bool}{env1 env0:List AV}(k1:t=tt->(TQ φ0 P T Qq f cs de) k env1)(k0:t=ff->(TQ φ0 P T Qq f cs de) k env0)(hd:Wq[d]? =some (.v (.bool t)):=by rfl)(h1:Wq.set d (.v (.bool tt))=env1:=by simp only[List.set];rfl)(h0:Wq.set d (.v (.bool ff))=env0:=by simp only[List.set];rfl):(TQ φ0 P T Qq f cs de) k Wq:=fun ts hE=>by
 have hs:∀ b,t=b->Wq=Wq.set d (.v (.bool b)):=fun b e=>by
  subst e;refine List.ext_getElem? fun j=>?_;rw[lX];split
  ·rename_i e;subst e;split
   ·exact hd
   ·rename_i Qp;rw[lU oQ]at hd;cases hd
  ·rfl
 cases t with
 | true=>exact k1 rfl ts (by rw[<- h1,<- hs _ rfl];exact hE)
 | false=>exact k0 rfl ts (by rw[<- h0,<- hs _ rfl];exact hE)
theorem TQ.pure(hT:ShQ P main T)(hkd:Qq≠.early){g:gF}{as0:Array gO}{ats:Array gT}{e:Array gV->Sem gV}{v:gV}[hx:Ext P g e](ho:Qy[q]? =some o)(Qw:o.op=.call { callee:=.value (.func g),args:=as0,argTypes:=ats })(h:(TQ φ0 P T Qq f cs de) (.inRegion Qy Wp::k) Wk)(he:e=(fun _=>Sem.pure v):=by rfl)(hw:zM Qy Wq o=some tt:=by rfl)(hd:zV Wq o.dst (.v v)=Wk:=by exact zD rfl tQ):(TQ φ0 P T Qq f cs de) (.inRegion Qy (q::Wp)::k) Wq:=fun ts hE=>by
 obtain⟨fn,e1,e2,e3,e4,e5⟩:=hx.h;subst he;have hP:=yF (a:=⟨ts,[]⟩) hE (RelV.v (φ:=φ0) (n:=0) v) o.dst;rw[hd]at hP;refine hT _ _ Z Z (fun w=>?_) (h _ hP);rw[fr_at,stepG_entry_pure (b:=bf Qq f) (a:=⟨ts,de⟩) v ho (zO (ts:=ts) hE hw) hkd Qw e1 e2 e3 e4 e5,yo];rfl
theorem TQ.defer(hT:ShQ P main T)(hkd:Qq≠.early){g:gF}{ats:Array gT}(ho:Qy[q]? =some o)(Qw:o.op=.defer { callee:=.value (.func g),args:=#[],argTypes:=ats })(h:TQ φ0 P T Qq f cs (dcall g #[]::de) (.inRegion Qy Wp::k) Wk)(hw:zM Qy Wq o=some tt:=by rfl)(hd:zV Wq o.dst (.v undef)=Wk:=by first|exact putN rfl|exact zD rfl tQ):(TQ φ0 P T Qq f cs de) (.inRegion Qy (q::Wp)::k) Wq:=fun ts hE=>by
 have hP:=yF (a:=⟨ts,[]⟩) hE (RelV.v (φ:=φ0) (n:=0) undef) o.dst;rw[hd]at hP;refine hT _ _ Z Z (fun w=>?_) (h _ hP);have e:(#[]:Array gO).map (⟨ts,de⟩:Act).eval=#[]:=by simp
 rw[fr_at,stepG_defer (b:=bf Qq f) (a:=⟨ts,de⟩) ho (zO (ts:=ts) hE hw) hkd Qw,e,yo];rfl
def CallQ(P:gP)(T:gG->Prop)(g:gF)(vs:List gV)(R:gV->(gG->Prop)->Prop):Prop :=
 ∀(c:gQ)(cs:List gQ),(∀ T' v,R v T'->T' (G (c.finish v) cs))->T (G (Frame.enter P g vs.toArray .normal) (c::cs))
theorem zb6(n:Nat){g:gF}{fn:Func}{c:Code}{vs:List gV}{R:gV->(gG->Prop)->Prop}(hf:P.funcs[g]? =some fn)
  (h:∀(c0:gQ)(cs:List gQ),(∀ T' v,R v T'->T' (G (c0.finish v) cs))->TQ (fun _=>⟨0,0,0⟩) P T .normal g (c0::cs) [] [.code c] (vs.map .v++mB (n - (vs.map AV.v).length) .any)) (hb:fn.body=some c:=by rfl) (hn:fn.ntmps=n:=by rfl):CallQ P T g vs R:=by
 subst hn;intro c0 cs Qj;rw[wD vs.toArray hf hb];exact h c0 cs Qj _ (ke (zga _ _ vs) _)
theorem TQ.call(hT:ShQ P main T)(hkd:Qq≠.early){g:gF}{ars:Array gO}{at_:Array gT}{vs:List gV}{R:gV->(gG->Prop)->Prop}{env2:gV->List AV}(ho:Qy[q]? =some o)(Qw:o.op=.call { callee:=.value (.func g),args:=ars,argTypes:=at_ })(Qg:ars.toList.map (zT gN Wq)=vs.map .v)(hc:CallQ P T g vs R)
  (h:∀ v T',R v T'->TQ φ0 P T' Qq f cs de (.inRegion Qy Wp::k) (env2 v)) (hw:zM Qy Wq o=some tt:=by rfl) (hg:yk P g=tt:=by exact Cal.h) (he:∀ v,zV Wq o.dst (.v v)=env2 v:=by exact fun _=>zD rfl tQ):(TQ φ0 P T Qq f cs de) (.inRegion Qy (q::Wp)::k) Wq:=fun ts hE=>by
 have Qj:=fun v=>yZ Qq f none ts de Qy q Wp k v;simp only[ho,Option.bind_some]at Qj;refine hT _ (G (Frame.enter P g vs.toArray .normal) (fr Qq f none ts de (.inRegion Qy (q::Wp)::k)::cs)) Z Z (fun w=>?_) (hc _ cs fun T' v hr=>?_)
 ·have hv:=zdF (kG φ0 0) hE Qg;have hcf:zL P (callFunc g vs.toArray)=some (.enter g vs.toArray):=by
   unfold yk at hg;split at hg
   ·rename_i fn' ef;simp only[Bool.and_eq_true,Bool.not_eq_true']at hg;show zL P (match P.funcs[g]? with|none=>_|some fn=>_)=_;rw[ef];simp only[hg.1,mU,if_false];have hb:fn'.body.isNone=ff:=by
     cases e':fn'.body with
     | none=>rw[e']at hg;simp at hg
     | some _=>rfl
    simp only[hb,mU,if_false];rfl
   ·cases hg
  have hp:zL P (execOp (evT ts) o)=some (.enter g vs.toArray):=by
   unfold execOp;rw[Qw];dsimp only;show zL P (Deferred.ofValue (.func (.func g) #[] #[]) (ars.map (evT ts)) >>= fun d=>invoke d.target d.args)=_;rw[hv];show zL P (callFunc g ((#[]++vs.toArray)++#[]))=_;rw[mK,Array.append_empty];exact hcf
  obtain⟨e1,e2⟩:=wF _ hp w;rw[wN hkd ho (zO hE hw) (by rw[Qw];rfl)];simp only[stepG.apply,Sem.runT_eq,e1,e2];simp[fr,GStep.after,hkd,seen_none];rfl
 ·rw[Qj];have hP:=yF (a:=⟨ts,[]⟩) hE (RelV.v (φ:=φ0) (n:=0) v) o.dst;rw[he]at hP;exact h v T' hr _ hP
theorem TQ.ret(hT:ShQ P main T){fn:Func}{c0:gQ}{r:gV}(hf:P.funcs[f]? =some fn)(hres:∀ ts,zN φ0 0 Wq ts->zL P (results fn ts)=some r)(Qj:T (G (c0.finish r) cs)):TQ φ0 P T .normal f (c0::cs) [] (.code .ret::k) Wq:=fun ts hE=>by
 refine hT _ _ Z Z (fun _=>vq) (hT _ _ rfl rfl (fun w=>?_) Qj);obtain⟨e1,e2⟩:=wF _ (hres ts hE) w;exact stepG_leave (b:=bf .normal f) (a:=⟨ts,[]⟩) rfl rfl hf e1 e2
theorem TQ.ret0(hT:ShQ P main T){fn:Func}{c0:gQ}{r:gV}(hf:P.funcs[f]? =some fn)(hres:∀ ts,zN φ0 0 Wq ts->zL P (results fn ts)=some r)(Qj:T (G (c0.finish r) cs)):TQ φ0 P T .normal f (c0::cs) [] [] Wq:=fun ts hE=>by
 refine hT _ _ Z Z (fun _=>wQ) (hT _ _ rfl rfl (fun w=>?_) Qj);obtain⟨e1,e2⟩:=wF _ (hres ts hE) w;exact stepG_leave (b:=bf .normal f) (a:=⟨ts,[]⟩) rfl rfl hf e1 e2
end
end Go.Vel
namespace Go.Vel
open Go Go.Conc
open Go.ConcN (sumTo upd upd_ne upd_same)
open Go.ConcM (OsLater MuAt muA msA)
open Go.ConcR (KK wgBlock WgAt stA smA mk rd wr)
open Mx (TT Th Mn S4 auto Mv4 ok4 bl4 kd dl MPc Pc okW okM Mv nx4 cnt)
section
variable {P:gP}{y:Sy P}{Ch:Nat->gG->Hp->Prop}{k i:Nat}{T T':TT}{x:Nat->Bool}
def Sy.Sq2(y:Sy P)(Ch:Nat->gG->Hp->Prop)(k i:Nat)(T:TT)(x:Nat->Bool)(g:gG):Prop:=Seg P ff tt (LiveS y.A y.sh) (y.At ff Ch k i T x) g (fun _=>none)
def Tq(P:gP)(d:Nat)(g:gG):Prop:=∃ n,QuitsD P n d g
theorem yd(d:Nat):ShQ P ff (Tq P d):=fun g g' hr hr' h ⟨n,hq⟩=>⟨n+1,.ctl hr h hq⟩
theorem yf(y:Sy P){Ch:Nat->gG->Hp->Prop}{k i:Nat}{T:TT}{x:Nat->Bool}:ShQ P ff (y.Sq2 Ch k i T x):=fun g g' hr hr' h hq=>by
 refine .step hr (fun w hf hl=>⟨g',w,#[],h w,kr hf (fun e he=>by simp at he),hr',fun _=>⟨rfl,rfl⟩⟩) fun w g2 w' es hf hl he=>?_;have:=(h w).symm.trans he;cases this;rw[ks hf];exact hq
theorem qqQ{p:Prop}(h:p:=by first|exact yf _|exact yd _):p:=h
variable {φ0:Nat->Loc3}{Qq:gK}{f:gF}{cs:List gQ}{de:List gD}{kk:List Item}{Wq Wk:List AV}{Qy:Array gB}{q:Nat}{Wp:List Nat}{o:gB}
theorem TQ.book(hk:kd T=.book)(hb:∀ s,¬ bl4 T s)(hwk:y.A.wk T->∀ ts,mayWake P (G (fr Qq f none ts de (.inRegion Qy (q::Wp)::kk)) cs)=tt)
  (h:∀(w:World)(s:S4)(ts:Array gV),zN φ0 0 Wq ts->y.sh w s->ok4 T s->∃ T' s' v w' es,Mv4 y.n T s T' s'/\stepG P ff (G (fr Qq f none ts de (.inRegion Qy (q::Wp)::kk)) cs) w=.go (G (fr Qq f none (putT ts o.dst v) de (.inRegion Qy Wp::kk)) cs) w' es/\Eff y.S2 w w'/\y.sh w' s'/\EvB ff y.S2 (dl T) (dl T') es /\
   ((kd T'=.quit/\TQ φ0 P (Tq P (dl T')) Qq f cs de (.inRegion Qy Wp::kk) (zV Wq o.dst (.v v)))\/(kd T'≠.quit/\y.A.aft T'=tt/\∀ k',k'<k->TQ φ0 P (y.Sq2 Ch k' i T' x) Qq f cs de (.inRegion Qy Wp::kk) (zV Wq o.dst (.v v))))) :
  TQ φ0 P (y.Sq2 Ch k i T x) Qq f cs de (.inRegion Qy (q::Wp)::kk) Wq:=by
 intro ts hE;refine .stop ?_;cases k with
 | zero=>trivial
 | succ k' =>
  refine⟨rfl,rfl,fun hw=>hwk hw ts,?_⟩;have hk0:y.A.kd T=.book:=hk;rw[hk0];intro w s hf hsh hok;refine⟨fun hb'=>absurd hb' (hb s),fun _=>?_⟩;obtain⟨T',s',v,w',es,m1,m2,m3,m4,m5,m6⟩:=h w s ts hE hsh hok;have hP:=yF (a:=⟨ts,[]⟩) hE (RelV.v (φ:=φ0) (n:=0) v) o.dst;refine⟨T',s',_,w',es,m1,m2,m3,m4,m5,?_⟩;rcases m6 with⟨a,b⟩|⟨a,b,c⟩
  ·exact .inl ⟨a,b _ hP⟩
  ·refine .inr ⟨a,rfl,?_⟩;have hb':y.A.aft T'=tt:=b;rw[hb'];exact c k' (Nat.lt_succ_self _) _ hP
theorem TQ.sMark{g:gF}{as0:Array gO}{ats:Array gT}{e:Array gV->Sem gV}(hkd:Qq≠.early)(T':TT)(m:Mark)(hm:∀ g,m≠.extern g)[hx:Ext P g e](ho:Qy[q]? =some o)(Qw:o.op=.call { callee:=.value (.func g),args:=as0,argTypes:=ats })
  (hmv:∀ s,ok4 T s->Mv4 y.n T s T' s) (hev:EvB ff y.S2 (dl T) (dl T') #[mk m]) (hT':y.A.aft T'=tt) (h:∀ k',k'<k->TQ φ0 P (y.Sq2 Ch k' i T' x) Qq f cs de (.inRegion Qy Wp::kk) Wk)
  (hw:zM Qy Wq o=some tt:=by rfl) (he:e=(fun _=>do mark m;Sem.pure Extern.Race.none_):=by rfl) (hk:kd T=.book:=by rfl) (hk':kd T'≠.quit:=by exact fun h=>by cases h) (hb:∀ s,¬ bl4 T s:=by exact fun _ h=>by cases h.1) (hwk:¬ y.A.wk T:=by exact fun h=>by cases h <;> rename_i h <;> cases h) (hd:zV Wq o.dst (.v (.tuple #[]))=Wk:=by exact zD rfl tQ) :
  TQ φ0 P (y.Sq2 Ch k i T x) Qq f cs de (.inRegion Qy (q::Wp)::kk) Wq:=by
 refine TQ.book (o:=o) hk hb (fun h=>absurd h hwk) fun w s ts hE hsh hok=>⟨T',s,.tuple #[],w,#[mk m],hmv s hok,?_,kV w,hsh,hev,.inr ⟨hk',hT',fun k' hk''=>by rw[hd];exact h k' hk''⟩⟩;obtain⟨fn,e1,e2,e3,e4,e5⟩:=hx.h;subst he;rw[fr_at,stepG_mark0 (b:=bf Qq f) (a:=⟨ts,de⟩) m hm ho (zO (ts:=ts) hE hw) hkd Qw e1 e2 e3 e4 e5,yo];rfl
theorem TQ.gAdd{g:gF}{ca cb:gO}{ats:Array gT}{e:Array gV->Sem gV}(hkd:Qq≠.early)(d:Int)[hx:Ext P g e](ho:Qy[q]? =some o)(Qw:o.op=.call { callee:=.value (.func g),args:=#[ca,cb],argTypes:=ats })
  (h1:zn gN Wq ca=some (.v (.pointer (some (stA y.Wg))))) (h2:zn gN Wq cb=some (.v (.int .u64 d))) (hnew:∀ s:S4,∀ v,s.v=v+1->s.v<64->s.wt<=1->IntKind.u64.wrap (gval s+d)=gval { s with v:=v })
  (hl:∀ k',k'<k->TQ φ0 P (y.Sq2 Ch k' i (.w { pc:=.d2 }) x) Qq f cs de (.inRegion Qy Wp::kk) (zV Wq o.dst (.v (.int .u64 1))))
  (hq:∀ v wt:Nat,v<64->wt<=1->¬ (v=0/\wt=1)->TQ φ0 P (Tq P 1) Qq f cs de (.inRegion Qy Wp::kk) (zV Wq o.dst (.v (.int .u64 ((v:Int)*KK+wt)))))
  (hw:zM Qy Wq o=some tt:=by rfl) (he:e=Extern.Atomic.update (Op.intArith .add) .u64 tt:=by rfl) :
  TQ φ0 P (y.Sq2 Ch k i (.w { pc:=.d1 }) x) Qq f cs de (.inRegion Qy (q::Wp)::kk) Wq:=by
 refine TQ.book (o:=o) Z (fun _ h=>by cases h.1) (fun h=>by cases h <;> rename_i h <;> cases h) fun w s ts hE hsh hok=>?_;obtain⟨fn,e1,e2,e3,e4,e5⟩:=hx.h;subst he;obtain⟨_,_,_,_,q5,q6,q7,q8⟩:=hok;obtain⟨v,hv⟩:∃ v,s.v=v+1:=⟨s.v - 1,by have:1<=s.v:=q7;omega⟩;have hn:=hnew s v hv q5 q6;have hst:stepG P ff (G (fr Qq f none ts de (.inRegion Qy (q::Wp)::kk)) cs) w=.go (G (fr Qq f none (putT ts o.dst (.int .u64 (gval { s with v:=v }))) de (.inRegion Qy Wp::kk)) cs) (w.setCell (stA y.Wg) (.int .u64 (gval { s with v:=v }))) #[⟨.cell (stA y.Wg),ff,tt⟩,⟨.cell (stA y.Wg),tt,tt⟩]:=by
  rw[fr_at,stepG_add_atomic (b:=bf Qq f) (a:=⟨ts,de⟩) ho (zO (ts:=ts) hE hw) hkd Qw e1 e2 e3 e4 .u64 e5 (ad:=stA y.Wg) (v:=gval s) (d:=d) (p_ev hE h1) (p_ev hE h2) hsh.2.cellSt (hsh.2.thaw 0),yo,hn];rfl
 have hsh':y.sh (w.setCell (stA y.Wg) (.int .u64 (gval { s with v:=v }))) { s with v:=v }:=⟨zai hsh.1 (wg_ne (stA y.Wg) rfl) _,hsh.2.setSt _⟩;by_cases hz:v=0/\s.wt=1
 ·obtain⟨rfl,hw1⟩:=hz;have hg:gval { s with v:=0 }=1:=by unfold gval;dsimp only;rw[hw1];simp
  refine⟨.w { pc:=.d2 },{ s with v:=0 },_,_,_,.d1a Z oQ hw1,hst,kZ (a:=stA y.Wg) (.inr Z) _,hsh',zae mS (a:=stA y.Wg) (.inr Z),.inr ⟨fun h=>(by cases h),rfl,fun k' hk'=>?_⟩⟩;rw[hg];exact hl k' hk'
 ·refine⟨.w { pc:=.quit },{ s with v:=v },_,_,_,.d1b Z hv hz,hst,kZ (a:=stA y.Wg) (.inr Z) _,hsh',zae mS (a:=stA y.Wg) (.inr Z),.inl ⟨rfl,hq v s.wt oQ q6 hz⟩⟩
theorem TQ.gLoad{g:gF}{ca:gO}{ats:Array gT}{e:Array gV->Sem gV}(hkd:Qq≠.early)[hx:Ext P g e](ho:Qy[q]? =some o)(Qw:o.op=.call { callee:=.value (.func g),args:=#[ca],argTypes:=ats })
  (h1:zn gN Wq ca=some (.v (.pointer (some (stA y.Wg))))) (hl:∀ k',k'<k->TQ φ0 P (y.Sq2 Ch k' i (.w { pc:=.d3 }) x) Qq f cs de (.inRegion Qy Wp::kk) (zV Wq o.dst (.v (.int .u64 1))))
  (hw:zM Qy Wq o=some tt:=by rfl) (he:e=Extern.Atomic.loadT (.int .u64):=by rfl) :
  TQ φ0 P (y.Sq2 Ch k i (.w { pc:=.d2 }) x) Qq f cs de (.inRegion Qy (q::Wp)::kk) Wq:=by
 refine TQ.book (o:=o) Z (fun _ h=>by cases h.1) (fun h=>by cases h <;> rename_i h <;> cases h) fun w s ts hE hsh hok=>?_;obtain⟨fn,e1,e2,e3,e4,e5⟩:=hx.h;subst he;obtain⟨_,_,_,_,_,_,q7,q8,q9⟩:=hok;have hg:gval s=1:=by unfold gval;rw[q7,q8];simp
 refine⟨.w { pc:=.d3 },s,.int .u64 1,w,_,.d2 rfl,?_,kV w,hsh,evb_r mS (a:=stA y.Wg) (.inr Z),.inr ⟨fun h=>(by cases h),rfl,hl⟩⟩;rw[fr_at,stepG_load_atomic (b:=bf Qq f) (a:=⟨ts,de⟩) ho (zO (ts:=ts) hE hw) hkd Qw e1 e2 e3 e4 .u64 e5 (ad:=stA y.Wg) (v:=gval s) (p_ev hE h1) hsh.2.cellSt,yo,hg];rfl
theorem TQ.gStore{g:gF}{ca cb:gO}{ats:Array gT}{e:Array gV->Sem gV}(hkd:Qq≠.early)[hx:Ext P g e](ho:Qy[q]? =some o)(Qw:o.op=.call { callee:=.value (.func g),args:=#[ca,cb],argTypes:=ats })
  (h1:zn gN Wq ca=some (.v (.pointer (some (stA y.Wg))))) (h2:zn gN Wq cb=some (.v (.int .u64 0))) (hl:∀ k',k'<k->TQ φ0 P (y.Sq2 Ch k' i (.w { pc:=.d4 }) x) Qq f cs de (.inRegion Qy Wp::kk) Wk)
  (hw:zM Qy Wq o=some tt:=by rfl) (he:e=Extern.Atomic.storeT:=by rfl) (hd:zV Wq o.dst (.v (.tuple #[]))=Wk:=by exact zD rfl tQ) :
  TQ φ0 P (y.Sq2 Ch k i (.w { pc:=.d3 }) x) Qq f cs de (.inRegion Qy (q::Wp)::kk) Wq:=by
 refine TQ.book (o:=o) Z (fun _ h=>by cases h.1) (fun h=>by cases h <;> rename_i h <;> cases h) fun w s ts hE hsh hok=>?_;obtain⟨fn,e1,e2,e3,e4,e5⟩:=hx.h;subst he;obtain⟨_,_,_,_,_,_,q7,q8,q9⟩:=hok;have hg:gval { s with wt:=0 }=0:=by unfold gval;dsimp only;rw[q7];simp
 refine⟨.w { pc:=.d4 },{ s with wt:=0 },.tuple #[],w.setCell (stA y.Wg) (.int .u64 0),#[⟨.cell (stA y.Wg),tt,tt⟩],.d3 rfl,?_,kZ (a:=stA y.Wg) (.inr Z) (.int .u64 0),⟨zai hsh.1 (wg_ne (stA y.Wg) Z) _,?_⟩,?_,.inr ⟨fun h=>(by cases h),rfl,fun k' hk'=>by rw[hd];exact hl k' hk'⟩⟩
 ·rw[fr_at,stepG_store_atomic (b:=bf Qq f) (a:=⟨ts,de⟩) ho (zO (ts:=ts) hE hw) hkd Qw e1 e2 e3 e4 e5 (ad:=stA y.Wg) (k:=.u64) (v:=0) (p_ev hE h1) (p_ev hE h2) hsh.2.cellSt (hsh.2.thaw 0),yo];rfl
 ·have:=hsh.2.setSt (0:Int);rw[<- hg]at this ⊢;exact this
 ·exact zbz mS fun e he=>by simp at he;subst he;exact vA (a:=stA y.Wg) (.inr rfl) _
theorem TQ.gRel{g:gF}{as0:Array gO}{ats:Array gT}{e:Array gV->Sem gV}(hkd:Qq≠.early)[hx:Ext P g e](ho:Qy[q]? =some o)(Qw:o.op=.call { callee:=.value (.func g),args:=as0,argTypes:=ats })
  (h1:∀ c,as0[0]? =some c->zn gN Wq c=some (.v (.pointer (some (smA y.Wg))))) (h0:as0[0]?.isSome=tt) (hq:TQ φ0 P (Tq P 1) Qq f cs de (.inRegion Qy Wp::kk) Wk)
  (hw:zM Qy Wq o=some tt:=by rfl) (he:e=Extern.Sync.semrelease:=by rfl) (hd:zV Wq o.dst (.v (.tuple #[]))=Wk:=by exact zD rfl tQ) :
  TQ φ0 P (y.Sq2 Ch k i (.w { pc:=.d4 }) x) Qq f cs de (.inRegion Qy (q::Wp)::kk) Wq:=by
 obtain⟨fn,e1,e2,e3,e4,e5⟩:=hx.h;refine TQ.book (o:=o) Z (fun _ h=>by cases h.1) (fun _ ts=>Go.ConcR.Gen.mayWake_entry (b:=bf Qq f) (a:=⟨ts,de⟩) ho Qw e1 e3) fun w s ts hE hsh hok=>?_;subst he;obtain⟨_,_,_,_,_,_,q7,q8,q9⟩:=hok;obtain⟨c,hc⟩:=Option.isSome_iff_exists.1 h0;have hx0:(as0.map (⟨ts,de⟩:Act).eval)[0]? =some (.pointer (some (smA y.Wg))):=by
  rw[mJ,hc];exact congrArg some (p_ev hE (h1 c hc))
 refine⟨.w { pc:=.quit },{ s with ws:=s.ws+1 },.tuple #[],_,_,.d4 rfl,?_,kZ (a:=smA y.Wg) (.inr Z) (.int .u32 1),⟨zai hsh.1 (wg_ne (smA y.Wg) Z) _,?_⟩,zby mS (a:=smA y.Wg) (.inr Z),.inl ⟨rfl,by rw[hd];exact hq⟩⟩
 ·rw[fr_at,stepG_semrelease (b:=bf Qq f) (a:=⟨ts,de⟩) ho (zO (ts:=ts) hE hw) hkd Qw e1 e2 e3 e4 e5 hx0 hsh.2.cellSm (hsh.2.thaw 1),yo,q9];rfl
 ·have:=hsh.2.setSm (1:Int);rw[q9];exact this
theorem TQ.retQ{g:gF}{e:Array gV->Sem gV}{fn:Func}{c0:gQ}{r:gV}[hx:Ext P g e](hf:P.funcs[f]? =some fn)(hres:∀ ts,zN φ0 0 Wq ts->zL P (results fn ts)=some r)(Qj:Tq P 0 (G (c0.finish r) cs))(he:e=(fun _=>do mark .enable;Sem.pure Extern.Race.none_):=by rfl) :
  TQ φ0 P (Tq P 1) .normal f (c0::cs) [dcall g #[]] (.code .ret::kk) Wq:=by
 intro ts hE;obtain⟨fn',e1,e2,e3,e4,e5⟩:=hx.h;subst he;obtain⟨n,hn⟩:=Qj;refine yd 1 _ (G { fr .normal f none ts [dcall g #[]] (.code .ret::kk)with mode:=.returning } (c0::cs)) Z Z (fun _=>vq) ?_;refine⟨n+1+1,QuitsD.unwind_mark (b:=bf .normal f) (a:=⟨ts,[dcall g #[]]⟩) (ds:=[]) .enable Z sQ Z e1 e2 e3 e4 e5 ?_⟩;rw[show deafBehind 1 #[⟨.mark .enable,ff,tt⟩]=0 from rfl];refine .ctl Z (fun w=>?_) hn;obtain⟨r1,r2⟩:=wF _ (hres ts hE) w;exact stepG_leave (b:=bf .normal f) (a:=⟨ts,[]⟩) rfl rfl hf r1 r2
theorem TQ.retQ0{g:gF}{e:Array gV->Sem gV}{fn:Func}{c0:gQ}{r:gV}[hx:Ext P g e](hf:P.funcs[f]? =some fn)(hres:∀ ts,zN φ0 0 Wq ts->zL P (results fn ts)=some r)(Qj:Tq P 0 (G (c0.finish r) cs))(he:e=(fun _=>do mark .enable;Sem.pure Extern.Race.none_):=by rfl) :
  TQ φ0 P (Tq P 1) .normal f (c0::cs) [dcall g #[]] [] Wq:=by
 intro ts hE;obtain⟨fn',e1,e2,e3,e4,e5⟩:=hx.h;subst he;obtain⟨n,hn⟩:=Qj;refine yd 1 _ (G { fr .normal f none ts [dcall g #[]] []with mode:=.returning } (c0::cs)) Z Z (fun _=>wQ) ?_;refine⟨n+1+1,QuitsD.unwind_mark (b:=bf .normal f) (a:=⟨ts,[dcall g #[]]⟩) (ds:=[]) .enable Z sQ Z e1 e2 e3 e4 e5 ?_⟩;rw[show deafBehind 1 #[⟨.mark .enable,ff,tt⟩]=0 from rfl];refine .ctl Z (fun w=>?_) hn;obtain⟨r1,r2⟩:=wF _ (hres ts hE) w;exact stepG_leave (b:=bf .normal f) (a:=⟨ts,[]⟩) rfl rfl hf r1 r2
theorem TK.relW{gm:Nat->Option Nat}{hkd:Qq≠.early}{A0:List AObj}{K0:List Nat}{K:KV}{g:gF}{c:gO}{ats:Array gT}{e:Array gV->Sem gV}(hkd':Qq≠.early)[hx:Ext P g e](ho:Qy[q]? =some o)(Qw:o.op=.call { callee:=.value (.func g),args:=#[c],argTypes:=ats })(hc:zn gm Wq c=some (.v (.pointer (some (stA y.Wg)))))
  (h:∀ k',k'<k->TQ φ0 P (y.Sq2 Ch k' i (.w { pc:=.wk }) x) Qq f cs de (.inRegion Qy Wp::kk) Wk)
  (hw:zM Qy Wq o=some tt:=by rfl) (he:e=Extern.Race.marked .releaseMerge:=by rfl) (hd:zV (Wq.map plainV) o.dst (.v (.tuple #[]))=Wk:=by exact zD rfl (by simp only[List.map,plainV,List.set];rfl)) :
  TK (YT y ff Ch k i (.w { pc:=.wr }) x gm φ0 Qq hkd f cs de A0 K0) [] (.inRegion Qy (q::Wp)::kk) Wq K:=by
 intro A hA φ H ts h1 h2 h3 h4 h5 h6;show y.Sf ff Ch k i (.w { pc:=.wr }) x _ _;refine .stop ?_;cases k with
 | zero=>trivial
 | succ k' =>
  obtain⟨fn,e1,e2,e3,e4,e5⟩:=hx.h;subst he;refine⟨rfl,rfl,fun hw=>(by cases hw <;> rename_i hw <;> cases hw),?_⟩;have hk':y.A.kd (.w { pc:=.wr })=.relW:=rfl;rw[hk'];intro w s hf hsh;refine⟨G (fr Qq f none (putT ts o.dst (.tuple #[])) de (.inRegion Qy Wp::kk)) cs,rfl,?_,?_⟩
  ·show stepG P ff (G (fr Qq f none ts de _) cs) w=_;rw[fr_at,stepG_markAt (b:=bf Qq f) (a:=⟨ts,de⟩) .releaseMerge sQ ho (zO (ts:=ts) h6 hw) hkd' Qw e1 e2 e3 e4 e5 (ad:=stA y.Wg) (by simp[ev_v (dd:=de) h3 h6 hc]),yo];rfl
  ·have hP:=yF (a:=⟨ts,[]⟩) (vU (φ':=φ0) h6) (RelV.v (φ:=φ0) (n:=0) (.tuple #[])) o.dst;rw[hd]at hP;exact h k' (Nat.lt_succ_self _) _ hP
end
end Go.Vel
namespace Go.Vel
open Go Go.Conc Go.Proofs
open Go.ConcN (sumTo upd upd_ne upd_same)
open Go.ConcM (OsLater MuAt muA msA)
open Go.ConcR (KK wgBlock WgAt stA smA mk rd wr)
open Mx (TT Th Mn S4 auto Mv4 ok4 bl4 kd dl MPc Pc okW okM Mv nx4 cnt newOf)
instance:Ext tp 166 (Extern.Atomic.storeT):=⟨_,Tryz.func166,by kernel_rfl,by kernel_rfl,by kernel_rfl,by kernel_rfl⟩
instance:Ext tp 134 (Extern.Sync.semrelease):=⟨_,Tryz.func134,by kernel_rfl,by kernel_rfl,by kernel_rfl,by kernel_rfl⟩
theorem zfs(v wt:Nat):(v:Int)*KK+wt=((v*4294967296+wt:Nat):Int):=by unfold KK;simp
theorem zlm{s:S4}{v:Nat}(h1:s.v=v+1)(h2:s.v<64)(h3:s.wt<=1):IntKind.u64.wrap (gval s+18446744069414584320)=gval { s with v:=v }:=by
 have e:gval s=(((v+1)*4294967296+s.wt:Nat):Int):=by unfold gval;rw[h1];exact zfs _ _
 have e2:gval { s with v:=v }=((v*4294967296+s.wt:Nat):Int):=zfs _ _;rw[e,e2];unfold IntKind.wrap;simp only[show IntKind.u64.bits=64 from rfl,show IntKind.u64.signed=ff from rfl,Bool.false_and];simp;omega
theorem bU3:∀ a:Nat,a<64->∀ b:Nat,b<2->bits .and .u64 ((a*4294967296+b:Nat):Int) 2147483648=0:=by decide +kernel
theorem bU4:∀ a:Nat,a<64->∀ b:Nat,b<2->bits .and .u64 ((a*4294967296+b:Nat):Int) 2147483647=((b:Nat):Int):=by decide +kernel
theorem wu32{n:Int}(h:0<=n/\n<4294967296):IntKind.u32.wrap n=n:=by
 unfold IntKind.wrap;simp only[show IntKind.u32.bits=32 from rfl,show IntKind.u32.signed=ff from rfl,Bool.false_and];simp;omega
theorem wH{fn:Func}{Wq:List AV}{φ:Nat->Loc3}(hr:fn.results=#[])(ts:Array gV)(_:zN φ 0 Wq ts):zL tp (results fn ts)=some (.tuple #[]):=by
 unfold results;rw[hr,Array.mapM_eq_mapM_toList];rfl
theorem zcm{fn:Func}{Wq:List AV}{φ:Nat->Loc3}{t:Tmp}{v:gV}(hr:fn.results=#[.tmp t])(he:Wq[t]? =some (.v v):=by rfl)(ts:Array gV)(h:zN φ 0 Wq ts):zL Tryz.prog (results fn ts)=some v:=by
 have e:results fn ts=pure (ts.getD t undef):=by
  unfold results;rw[hr,Array.mapM_eq_mapM_toList];rfl
 obtain⟨y,hy,hr⟩:=h.get he;have:ts.getD t undef=v:=by
  rw[Array.getD_eq_getD_getElem?,hy];exact inv_v hr
 rw[e,this];rfl
end Go.Vel
namespace Go.Vel
open Go Go.Conc
open Go.ConcN (sumTo upd upd_ne upd_same)
open Go.ConcM (OsLater MuAt muA msA)
open Go.ConcR (KK wgBlock WgAt stA smA mk rd wr)
open Mx (TT Th Mn S4 auto Mv4 ok4 bl4 kd dl MPc Pc okW okM Mv nx4 cnt)
section
variable {P:gP}{gm:Nat->Option Nat}
variable {φ0:Nat->Loc3}{Qq:gK}{hkd:Qq≠.early}{f:gF}{cs:List gQ}{de:List gD}{A0:List AObj}{K0:List Nat}{kk:List Item}{Wq Wk:List AV}{K:KV}{Qy:Array gB}{q:Nat}{Wp:List Nat}{o:gB}
theorem TK.callZq{T:gG->Hp->Prop}{hT:zo P ff T}{fo:gO}{ars:Array gO}{at_:Array gT}{g:gF}{vs:List gV}{env2:gV->List AV}(ho:Qy[q]? =some o)(Qw:o.op=.call { callee:=.value fo,args:=ars,argTypes:=at_ })
  (hf:zn gm Wq fo=some (.fn g [] [])) (Qg:ars.toList.map (zT gm Wq)=vs.map .v) (hc:CallZ P T g vs (fun T'=>T'=fun g _=>Tq P 0 g))
  (h:∀ v,TQ φ0 P (Tq P 0) Qq f cs de (.inRegion Qy Wp::kk) (env2 v)) (he:∀ v,zV (Wq.map plainV) o.dst (.v v)=env2 v:=by exact fun _=>zD rfl (by simp only[List.map,plainV,List.set];rfl)) (hw:zM Qy Wq o=some tt:=by rfl) (hg:yk P g=tt:=by exact Cal.h) :
  TK (YU hT gm φ0 Qq hkd f cs de A0 K0) [] (.inRegion Qy (q::Wp)::kk) Wq K:=by
 intro A hA φ H ts h1 h2 h3 h4 h5 h6;refine hT.opF hkd ho (zO h6 hw) (by rw[Qw];rfl) (zaV (dd:=de) Qw (zdp h3 h6 hf) hg ?_);rw[zdF h3 h6 Qg];refine hc H _ cs fun T' v H' hp'=>?_;subst hp';have Qj:=yZ Qq f none ts (dsC φ []++de) Qy q Wp kk v;simp only[ho,Option.bind_some]at Qj;show Tq P 0 (G ((fr Qq f none ts (dsC φ []++de) (.inRegion Qy (q::Wp)::kk)).finish v) cs);rw[Qj];have hE:=yF (a:=⟨ts,[]⟩) (vU (φ':=φ0) h6) (RelV.v (φ:=φ0) (n:=0) v) o.dst;rw[he]at hE;exact h v _ hE
theorem TQ.endD{fn:Func}{c0:gQ}(hf:P.funcs[f]? =some fn)(hr:fn.results=#[])(hc:c0.mode=.returning)(Qj:Tq P 0 (G c0 cs)):TQ φ0 P (Tq P 0) .deferred f (c0::cs) [] [] Wq:=by
 intro ts hE;obtain⟨n,hn⟩:=Qj;exact yd 0 _ (G { fr .deferred f none ts [] []with mode:=.returning } (c0::cs)) rfl rfl (fun _=>wQ) ⟨n+1,QuitsD.leaveD (b:=bf .deferred f) (a:=⟨ts,[]⟩) rfl rfl hf hr hc hn⟩
variable {y:Sy P}{Ch:Nat->gG->Hp->Prop}{k i:Nat}{x:Nat->Bool}
theorem TK.bye {g:gF} {fn fd:Func} {c:Code} {vs:Array gV} (hf:P.funcs[f]? =some fn) (hr:fn.results=#[]) (hd:P.funcs[g]? =some fd) (hn:(fd.name == "runtime.NumGoroutine")=ff) (hb:fd.body=some c)
  (h:∀(c0:gQ)(cs:List gQ)(H:Hp),c0.mode=.returning->Tq P 0 (G c0 cs)->y.Sf ff Ch k i (.w { pc:=.wr }) x (G (fr .deferred g none (vs++Array.replicate (fd.ntmps - vs.size) undef) [] [.code c]) (c0::cs)) H) :
  TK (YT y ff Ch k i (.w { pc:=.wr }) x gm φ0 .deferred (fun h=>by cases h) f [bot P] [dcall g vs] A0 K0) [] [] Wq K:=by
 intro A hA φ H ts h1 h2 h3 h4 h5 h6;refine(y.shutF ff Ch k i _ x).ctlF Z (fun _=>wQ) rfl ?_;refine(y.shutF ff Ch k i _ x).ctlF Z (fun w=>stepG_unwind_enter (b:=bf .deferred f) (a:=⟨ts,[dcall g vs]⟩) (ds:=[]) (todo:=[]) rfl hd hn hb) rfl ?_;exact h _ _ H rfl ⟨3,uV hf hr⟩
end
theorem pureS_pure'{α:Type}{P:gP}(a:α):zL P (pure a)=some a:=rfl
def lend(Bs del:List Nat)(H:Hp):Hp:=fun b=>if del.elem b then none else if Bs.elem b then(H b).map fun x=>(ff,x.2)else H b
theorem zce{Bs del:List Nat}{H:Hp}{b:Nat}{rw':Bool}{o:Obj}(h:lend Bs del H b=some (rw',o)):∃ r,H b=some (r,o)/\(rw'=tt->r=tt):=by
 unfold lend at h;split at h
 ·cases h
 ·split at h
  ·obtain⟨x,hx,e⟩:=mY.1 h;cases e;exact⟨x.1,hx,fun h=>by cases h⟩
  ·exact⟨rw',h,id⟩
theorem vn{Bs del:List Nat}{H:Hp}{b:Nat}(h1:b∉Bs)(h2:b∉del):lend Bs del H b=H b:=by
 unfold lend;rw[if_neg (by simpa using h2),if_neg (by simpa using h1)]
theorem zhi{Bs del:List Nat}{H:Hp}{b:Nat}{r:Bool}{o:Obj}(h2:b∉del)(h:H b=some (r,o)):∃ r',lend Bs del H b=some (r',o):=by
 unfold lend;rw[if_neg (by simpa using h2)];split
 ·exact⟨ff,by rw[h];rfl⟩
 ·exact⟨r,h⟩
theorem RelH.lend{φ:Nat->Loc3}{A:List AObj}{F H:Hp}(h:RelH φ A F H)(Bs del:List Nat)(hB:∀(t:Nat) o,A[t]? =some o->o.live=tt->sol (φ t) o->(φ t).blk∉del/\(o.excl=tt->(φ t).blk∉Bs))(hF:∀ b,b∈Bs\/b∈del->F b=none):RelH φ A F (Go.Vel.lend Bs del H):=by
 refine⟨fun t o ht=>?_,h.apart,fun b x hx=>?_,h.frx⟩
 ·have ho:=h.obj t o ht;cases o with
  | cells l e rw' =>
   intro hl;obtain⟨r,cur,fz,q1,q2,q3⟩:=ho hl;obtain⟨d1,d2⟩:=hB t _ ht rfl hl;cases rw' with
   | false =>
    obtain⟨r',hr'⟩:=zhi (Bs:=Bs) d1 q1;exact⟨r',cur,fz,hr',(fun h=>by cases h),q3⟩
   | true=>exact⟨r,cur,fz,(vn (d2 rfl) d1).trans q1,q2,q3⟩
  | row l e size =>
   obtain⟨h0,h2,hh⟩:=ho;refine⟨h0,h2,fun hc=>?_⟩;obtain⟨cur,q1,q2⟩:=hh hc;obtain⟨d1,d2⟩:=hB t _ ht rfl hc;exact⟨cur,(vn (d2 rfl) d1).trans q1,q2⟩
  | raw o =>
   obtain⟨d1,d2⟩:=hB t _ ht rfl trivial;exact(vn (d2 rfl) d1).trans ho
  | loop f Wq ps x y st pj =>
   obtain⟨ts,d,q1,q2⟩:=ho;obtain⟨d1,d2⟩:=hB t _ ht rfl trivial;exact⟨ts,d,(vn (d2 rfl) d1).trans q1,q2⟩
  | gone=>trivial
  | ro o =>
   obtain⟨r,q1⟩:=ho;obtain⟨d1,_⟩:=hB t _ ht rfl trivial;obtain⟨r',hr'⟩:=zhi (Bs:=Bs) d1 q1;exact⟨r',hr'⟩
 ·have hn:¬ (b∈Bs\/b∈del):=fun hm=>by rw[hF b hm]at hx;cases hx
  rw[vn (fun hm=>hn (.inl hm)) (fun hm=>hn (.inr hm))];exact h.fr b x hx
section
variable {P:gP}{gm:Nat->Option Nat}{y:Sy P}{k i:Nat}{T:TT}{x:Nat->Bool}
variable {φ0:Nat->Loc3}{Qq:gK}{hkd:Qq≠.early}{f:gF}{cs:List gQ}{de:List gD}{A0:List AObj}{K0:List Nat}{ds:List Nat}{kk:List Item}{Wq Wk:List AV}{K:KV}{Qy:Array gB}{q:Nat}{Wp:List Nat}{o:gB}
theorem TK.fork{fo:gO}{at_:Array gT}{g:gF}{cp:List AV}{S:KV}{lo:Nat×Loc3}(hkf:kd T=.fork)(ho:Qy[q]? =some o)(Qw:o.op=.go { callee:=.value fo,args:=#[],argTypes:=at_ })(hw:zM Qy Wq o=some tt)(hf:zn gm Wq fo=some (.fn g [] cp))(hg:yk P g=tt)
  (hS:∀ z∈S,z∈K/\∃ l e,l≠[]/\z.2=.cells l e ff) (hSn:(keys S).Nodup) (hl1:lo.1<A0.length) (hl2:φ0 lo.1=lo.2) (hlS:lo.1∉keys S)
  (hchild:∀ k x φ A Hc vs,zU ((lo.1,.gone)::S) A->(keys ((lo.1,AObj.gone)::S)).Nodup->lo.1<A.length->φ lo.1=lo.2->RelG gm φ A.length->RelH φ A nF Hc->zN φ A.length cp vs->y.Sf ff (fun _ _ _=>False) k (y.A.ix T) (y.A.st (y.A.ix T)) x (G (Frame.enter P g vs .deferred) [bot P]) Hc)
  (h:∀ k',k'<k->TK (YT y tt y.Chd k' i (nx4 y.n T) x gm φ0 Qq hkd f cs de A0 K0) ds (.inRegion Qy Wp::kk) (zV Wq o.dst (.v undef)) K)
  (hwk:¬ y.A.wk T:=by exact fun h=>by cases h <;> rename_i h <;> cases h) :
  TK (YT y tt y.Chd k i T x gm φ0 Qq hkd f cs de A0 K0) ds (.inRegion Qy (q::Wp)::kk) Wq K:=by
 intro A hA φ H ts h1 h2 h3 h4 h5 h6;show y.Sf tt y.Chd k i T x _ _;refine .stop ?_;cases k with
 | zero=>trivial
 | succ k' =>
 refine⟨rfl,rfl,fun hw=>absurd hw hwk,?_⟩;have hk':y.A.kd T=.fork:=hkf;rw[hk'];have hfo:=zy (a:=⟨ts,[]⟩) h3 h6 fo;rw[zq hf]at hfo;obtain⟨xs,ys,ev,hr1,hr2⟩:=uu hfo;have hxs:xs=#[]:=Array.eq_empty_of_size_eq_zero (by have:=hr1.1;simpa using this.symm);subst hxs
 let Bs:List Nat:=S.map fun z=>(φ z.1).blk
 have hcaller:RelH φ A nF (lend Bs [] H):=by
  refine h5.lend Bs [] (fun t w ht hl hs=>⟨by simp,fun hx hm=>?_⟩) fun b hb=>rfl;obtain⟨z,hz,hm⟩:=lY.1 hm;obtain⟨hzK,l,e',hl0,hz2⟩:=hS z hz;have haz:=hA.view z hzK;rw[hz2]at haz;by_cases htz:t=z.1
  ·subst htz;rw[ht]at haz;cases haz;cases hx
  ·exact h5.apart t z.1 w _ ht haz htz hx rfl hs hl0 hm.symm
 let Ac:List AObj:=(List.range A.length).map fun t=>if (S.map (·.1)).elem t then(A[t]?).getD .gone else .gone
 have hAcl:Ac.length=A.length:=by simp[Ac]
 have hAc:∀(t:Nat)(w:AObj),Ac[t]? =some w->w.live=tt->∃ z∈S,z.1=t/\z.2=w:=fun t w ht hl=>by
  have Qp:t<A.length:=by rw[<- hAcl];exact(lD.1 ht).1
  simp only[Ac,lQ,List.getElem?_range Qp,Option.map_some,Option.some.injEq]at ht;split at ht
  ·rename_i hm;simp only[List.elem_eq_mem,dT_]at hm;obtain⟨z,hz,e⟩:=lY.1 hm;have haz:=hA.view z (hS z hz).1;rw[e]at haz;rw[haz]at ht;exact⟨z,hz,e,ht⟩
  ·subst ht;cases hl
 let Hc:Hp:=fun b=>if Bs.elem b then(H b).map fun z=>(ff,z.2)else none
 have hHc:∀ b r w,b∈Bs->H b=some (r,w)->Hc b=some (ff,w):=fun b r w hb hz=>by
  simp only[Hc];rw[if_pos (by simpa using hb),hz];rfl
 have hRc:RelH φ Ac nF Hc:=by
  have hne:∀(t:Nat)(w:AObj),Ac[t]? =some w->w.excl=ff:=fun t w ht=>by
   cases hl:w.live with
   | false=>cases w <;> first|rfl|cases hl
   | true =>
    obtain⟨z,hz,_,hq⟩:=hAc t w ht hl;obtain⟨_,l,e',_,hz2⟩:=hS z hz;rw[<- hq,hz2];rfl
  refine⟨fun t w ht=>?_,fun t t' w w' ht _ _ he=>absurd he (by rw[hne t w ht];decide),(fun b z hz=>by cases hz),fun t w ht he=>absurd he (by rw[hne t w ht];decide)⟩;rw[hAcl];cases hl:w.live with
  | false=>cases w <;> first|trivial|cases hl
  | true =>
   obtain⟨z,hz,rfl,rfl⟩:=hAc t w ht hl;obtain⟨hzK,l,e',hl0,hz2⟩:=hS z hz;have haz:=hA.view z hzK;rw[hz2]at haz ⊢;intro _;obtain⟨r,cur,fz,p1,_,p3⟩:=h5.obj z.1 _ haz hl0;exact⟨ff,cur,fz,hHc _ _ _ (List.mem_map_of_mem (f:=fun z:Nat×AObj=>(φ z.1).blk) hz) p1,(fun h=>by cases h),p3⟩
 have Qp:lo.1<A.length:=mM hl1 hA.len;have hVc:zU ((lo.1,.gone)::S) Ac:=fun z hz=>by
  rcases lI.1 hz with rfl|hz
  ·simp only[Ac,lQ,List.getElem?_range Qp,Option.map_some];rw[if_neg (by
    simp only[List.elem_eq_mem,dT_];exact hlS)]
  ·have haz:=hA.view z (hS z hz).1;have hlz:z.1<A.length:=(lD.1 haz).1;simp only[Ac,lQ,List.getElem?_range hlz,Option.map_some];rw[if_pos (by simpa using ⟨z.2,hz⟩),haz];rfl
 have Qj:=yZ Qq f none ts (dsC φ ds++de) Qy q Wp kk undef;simp only[ho,Option.bind_some]at Qj;refine⟨G (fr Qq f none (putT ts o.dst undef) (dsC φ ds++de) (.inRegion Qy Wp::kk)) cs,born P { target:=.fn (.func g) ys,args:=#[] },lend Bs [] H,Hc,rfl,rfl,fun w hfit=>⟨#[],?_,fun e he=>by simp at he⟩,(fun b r w hb=>?_),(fun b r w hb=>?_),⟨fun b w hb=>?_,fun b w hb=>?_⟩,?_,?_⟩
 ·show stepG P tt (G (fr Qq f none ts (dsC φ ds++de) (.inRegion Qy (q::Wp)::kk)) cs) w=_;rw[wN hkd ho (zO h6 hw) (by rw[Qw];rfl)];have hpure:zL P (execOp (evT ts) o)=some (.spawn { target:=.fn (.func g) ys,args:=#[] }):=by
   unfold execOp;rw[Qw];dsimp only;have ev':evT ts fo=.func (.func g) #[] ys:=ev;refine zJ (a:={ target:=.fn (.func g) ys,args:=#[] }) ?_ rfl;show zL P (Deferred.ofValue (evT ts fo) ((#[]:Array gO).map (evT ts)))=_;rw[ev'];simp[Deferred.ofValue,pureS_pure']
  obtain⟨r1,r2⟩:=wF _ hpure w;simp only[fr]at Qj;simp[stepG.apply,Sem.runT_eq,r1,r2,fr,GStep.after,seen,Qj,born];rfl
 ·obtain⟨r',e1,e2⟩:=zce hb;exact⟨r',e1,e2⟩
 ·simp only[Hc]at hb;split at hb
  ·obtain⟨z,hz,e⟩:=mY.1 hb;cases e;exact⟨z.1,hz,fun h=>by cases h⟩
  ·cases hb
 ·simp only[Hc];split
  ·rename_i hm;exfalso;unfold Go.Vel.lend at hb;rw[if_neg sQ,if_pos hm]at hb;obtain⟨z,_,e⟩:=mY.1 hb;cases e
  ·rfl
 ·exfalso;simp only[Hc]at hb;split at hb
  ·obtain⟨z,_,e⟩:=mY.1 hb;cases e
  ·cases hb
 ·intro k x;have hch:=hchild k x φ Ac Hc ys hVc (by rw[wd];exact List.nodup_cons.2 ⟨hlS,hSn⟩) (by rw[hAcl];exact Qp) ((h1 _ hl1).trans hl2) (by rw[hAcl];exact h3) hRc (by rw[hAcl];exact hr2);exact(y.shutF ff _ k (y.A.ix T) _ x).ctlF rfl (fun w=>by have:=birth (main:=ff) hg #[] ys w;rw[mK]at this;exact this) rfl hch
 ·exact h k' (Nat.lt_succ_self _) A ⟨hA.view,hA.nd,hA.own,hA.kept,hA.len⟩ φ _ _ h1 h2 h3 h4 hcaller (yF (a:=⟨ts,[]⟩) h6 (.v undef) o.dst)
end
section
variable {P:gP}{gm:Nat->Option Nat}
def oneB(b:Nat)(x:Bool×Obj):Hp:=fun c=>if c=b then some x else none
theorem zdl{φ:Nat->Loc3}{n:Nat}{loc:Loc3}{H:Hp}{vs:List gV}{e:gT}(h:RelO φ n loc H (.cells (vs.map .v) e tt))(hne:vs≠[]):loc.base=0/\H loc.blk=some (tt,.cells vs.toArray e (0,0)):=by
 obtain⟨rw',cur,q,h1,h2,h3⟩:=h (by simpa using hne);obtain⟨⟨rfl,rfl⟩,hb,hl⟩:=h2 rfl;refine⟨hb,?_⟩;have:cur=vs.toArray:=by
  refine Array.ext' ?_;refine List.ext_getElem? fun j=>?_;rw[List.length_map]at hl;by_cases hj:j<vs.length
  ·obtain⟨y,hy,hr⟩:=h3 j (.v vs[j]) (by simp[hj]);rw[hb,Nat.zero_add]at hy;have:=inv_v hr;rw[mI,hy,this];simp[hj]
  ·rw[lU (by rw[Array.length_toList];omega),lU (by simpa using hj)]
 rw[<- this];exact h1
theorem TK.into{Ψ:gG->World->Prop}{Y:KX P gm (BT P Ψ)}{n:Nat}{lkr:Nat->Bool}{tM tW tO:gT}{jm jw jo d7 d8:Nat}{vs9:List gV}{R:KV}{kk:List Item}{Wq:List AV}(GI:Loc3->(Nat->Bool)->Hp->Prop)(hn:1<=n/\n<=31)(hro:Y.X.ro=none)
  (h7:Wq[d7]? =some (.ptr jm 0)) (h8:Wq[d8]? =some (.ptr jw 0)) (h78:d7≠d8) (h9:vs9≠[]) (hG0:∀ lo,lo.base=0->GI lo (fun _=>ff) (oneB lo.blk (tt,.cells vs9.toArray tO (0,0))))
  (h:∀(y:Sy P)(φ0:Nat->Loc3)(A0:List AObj),y.n=n->y.lkr=lkr->y.Stop=BT P Ψ->y.GI=GI (φ0 jo)->(φ0 jo).base=0->jo<A0.length ->
   (∀{ds k Wq K'},TK Y ds k Wq K'->TK (YU (kI (P:=P) Ψ) gm φ0 Y.X.kd Y.X.hkd Y.X.f Y.X.cs Y.X.dd A0 (jm::jw::jo::keys R)) ds k Wq K') ->
   ∀ k,TK (YT y tt y.Chd k 0 (.m { pc:=.a0,j:=0 }) (fun _=>ff) gm φ0 Y.X.kd Y.X.hkd Y.X.f Y.X.cs Y.X.dd A0 (jm::jw::jo::keys R)) [] kk ((Wq.set d7 (.v (.pointer (some ⟨y.Mu,0,none⟩)))).set d8 (.v (.pointer (some ⟨y.Wg,0,none⟩)))) ((jo,.gone)::R)) :
  TK Y [] kk Wq ((jm,.cells ([.int .i32 0,.int .u32 0].map .v) tM tt)::(jw,.cells ([.int .u64 0,.int .u32 0].map .v) tW tt)::(jo,.cells (vs9.map .v) tO tt)::R):=by
 intro A hA φ H ts h1 h2 h3 h4 h5 h6;have hvm:=hA.view _ (List.mem_cons_self);have hvw:=hA.view _ (lL _ List.mem_cons_self);have hvo:=hA.view _ (lL _ (lL _ List.mem_cons_self));obtain⟨bm,em⟩:=zdl (h5.obj _ _ hvm) sQ;obtain⟨bw,ew⟩:=zdl (h5.obj _ _ hvw) sQ;obtain⟨bo,eo⟩:=zdl (h5.obj _ _ hvo) h9;have hnd:=hA.nd;rw[wd,wd,wd,List.nodup_cons,List.nodup_cons,List.nodup_cons]at hnd;obtain⟨n1,n2,n3,n4⟩:=hnd;have jmw:jm≠jw:=fun e=>n1 (by rw[e];exact List.mem_cons_self);have jmo:jm≠jo:=fun e=>n1 (by rw[e];exact lL _ List.mem_cons_self);have jwo:jw≠jo:=fun e=>n2 (by rw[e];exact List.mem_cons_self);have jmR:jm∉keys R:=fun e=>n1 (lL _ (lL _ e));have jwR:jw∉keys R:=fun e=>n2 (lL _ e);have hne:(φ jm).blk≠(φ jw).blk:=h5.apart jm jw _ _ hvm hvw jmw rfl rfl (by simp[sol]) (by simp[sol]);have hneo:(φ jm).blk≠(φ jo).blk:=h5.apart jm jo _ _ hvm hvo jmo rfl rfl (by simp[sol]) (by simpa[sol]using h9);have hnewo:(φ jw).blk≠(φ jo).blk:=h5.apart jw jo _ _ hvw hvo jwo rfl rfl (by simp[sol]) (by simpa[sol]using h9)
 let y:Sy P:={ n,lkr,tM,tW,Mu:=(φ jm).blk,Wg:=(φ jw).blk,hne,GI:=GI (φ jo),Stop:=BT P Ψ }
 let A':List AObj:=((A.set jm .gone).set jw .gone).set jo .gone
 have hAl:A'.length=A.length:=by simp[A']
 have Qp:jo<A.length:=(lD.1 hvo).1;have hget:∀ t,t≠jm->t≠jw->t≠jo->A'[t]? =A[t]? :=fun t a b c=>by
  simp only[A'];rw[lP (Ne.symm c),lP (Ne.symm b),lP (Ne.symm a)]
 have hlive:∀ t (w:AObj),A'[t]? =some w->w.live=tt->t≠jm/\t≠jw/\t≠jo:=fun t w ht hl=>by
  simp only[A',lX]at ht;refine⟨fun e=>?_,fun e=>?_,fun e=>?_⟩ <;> subst e
  ·rw[if_neg (Ne.symm jmo),if_neg (Ne.symm jmw)]at ht;simp only[↓reduceIte]at ht;split at ht <;> cases ht;cases hl
  ·rw[if_neg (Ne.symm jwo)]at ht;simp only[↓reduceIte]at ht;split at ht <;> cases ht;cases hl
  ·simp only[↓reduceIte]at ht;split at ht <;> cases ht;cases hl
 let H':Hp:=fun b=>if b=(φ jm).blk\/b=(φ jw).blk\/b=(φ jo).blk then none else H b
 let L:Hp:=oneB (φ jo).blk (tt,.cells vs9.toArray tO (0,0))
 have hblk:∀ t (w:AObj),A'[t]? =some w->w.live=tt->sol (φ t) w->H' (φ t).blk=H (φ t).blk:=fun t w ht hl hs=>by
  obtain⟨a,b,c⟩:=hlive t w ht hl;rw[hget t a b c]at ht;simp only[H'];rw[if_neg];rintro(e|e|e)
  ·exact h5.apart jm t _ _ hvm ht (Ne.symm a) rfl hl (by simp[sol]) hs e.symm
  ·exact h5.apart jw t _ _ hvw ht (Ne.symm b) rfl hl (by simp[sol]) hs e.symm
  ·exact h5.apart jo t _ _ hvo ht (Ne.symm c) rfl hl (by simpa[sol]using h9) hs e.symm
 have hF0:=Y.X.hF0;have hR':RelH φ A' nF H':=by
  refine⟨fun t w ht=>?_,fun t t' w w' ht ht' hn' he hl s1 s2=>?_,fun b x hx=>(by cases hx),fun t w ht he hs=>rfl⟩
  ·rw[hAl];cases hl:w.live with
   | false=>cases w <;> first|trivial|cases hl
   | true =>
    obtain⟨a,b,c⟩:=hlive t w ht hl;have ho:=h5.obj t w (by rw[<- hget t a b c];exact ht);exact ho.mono (Agr.refl _ _) (mL _) (fun _ hs=>hblk t w ht hl hs)
  ·have l1:w.live=tt:=by cases w <;> first|rfl|cases he
   obtain⟨a,b,c⟩:=hlive t w ht l1;obtain⟨a',b',c'⟩:=hlive t' w' ht' hl;exact h5.apart t t' w w' (by rw[<- hget t a b c];exact ht) (by rw[<- hget t' a' b' c'];exact ht') hn' he hl s1 s2
 have hvR:zU R A:=hA.view.sub fun x hx=>lL _ (lL _ (lL _ hx));have hK:Kn (YT y tt y.Chd 0 0 (.m { pc:=.a0,j:=0 }) (fun _=>ff) gm φ Y.X.kd Y.X.hkd Y.X.f Y.X.cs Y.X.dd A' (jm::jw::jo::keys R)) ((jo,.gone)::R) A':=by
  refine⟨fun x hx=>?_,?_,fun i hi=>?_,fun _ _ _=>rfl,mL _⟩
  ·rcases lI.1 hx with rfl|hx
   ·simp only[A'];rw[List.getElem?_set_self (by simpa using Qp)]
   ·have hm:=yN hx;rw[hget x.1 (fun e=>jmR (e ▸ hm)) (fun e=>jwR (e ▸ hm)) (fun e=>n3 (e ▸ hm))];exact hvR x hx
  ·rw[wd];exact List.nodup_cons.2 ⟨n3,n4⟩
  ·left;rw[wd]at hi;exact lL _ (lL _ hi)
 have hE:zN φ A'.length ((Wq.set d7 (.v (.pointer (some ⟨y.Mu,0,none⟩)))).set d8 (.v (.pointer (some ⟨y.Wg,0,none⟩)))) ts:=by
  rw[hAl];refine⟨by simpa using h6.1,fun j a z ha hz=>?_⟩;rw[lX]at ha;split at ha
  ·rename_i e;subst e;split at ha
   ·cases ha;obtain⟨_,e⟩:=wx (h6.2 _ _ z h8 hz);rw[e,bw];exact .v _
   ·cases ha
  ·rw[lX]at ha;split at ha
   ·rename_i e;subst e;split at ha
    ·cases ha;obtain⟨_,e⟩:=wx (h6.2 _ _ z h7 hz);rw[e,bm];exact .v _
    ·cases ha
   ·exact h6.2 j a z ha hz
 have hfr:G (fr Y.X.kd Y.X.f Y.X.ro ts (dsC φ []++Y.X.dd) kk) Y.X.cs=G (fr Y.X.kd Y.X.f none ts (dsC φ []++Y.X.dd) kk) Y.X.cs:=by rw[hro]
 rw[hfr];refine zgy y (H':=H') (L:=L) hn ?_ ?_ Z (fun b r o hb=>?_) (fun b r o hb=>?_) ⟨fun b o hb=>?_,fun b o hb=>?_⟩ (fun b z hb=>?_) (fun b z hb=>?_) (hG0 _ bo) (fun a Hs hs=>hs) fun k=>?_
 ·exact em
 ·exact ew
 ·simp only[H']at hb;split at hb
  ·cases hb
  ·exact⟨r,hb,id⟩
 ·simp only[L,oneB]at hb;split at hb
  ·rename_i e;subst e;cases hb;exact⟨tt,eo,id⟩
  ·cases hb
 ·simp only[L,oneB];split
  ·rename_i e;subst e;simp only[H']at hb;rw[if_pos sQ]at hb;cases hb
  ·rfl
 ·simp only[L,oneB]at hb;split at hb
  ·rename_i e;subst e;simp only[H'];rw[if_pos sQ]
  ·cases hb
 ·rintro(e|e)
  ·have e':b=(φ jm).blk:=e;subst e';simp only[H']at hb;rw[if_pos sQ]at hb;cases hb
  ·have e':b=(φ jw).blk:=e;subst e';simp only[H']at hb;rw[if_pos sQ]at hb;cases hb
 ·rintro(e|e)
  ·have e':b=(φ jm).blk:=e;subst e';simp only[L,oneB]at hb;rw[if_neg hneo]at hb;cases hb
  ·have e':b=(φ jw).blk:=e;subst e';simp only[L,oneB]at hb;rw[if_neg hnewo]at hb;cases hb
 ·refine h y φ A' Z Z Z Z bo (by rw[hAl];exact Qp) ?_ k A' ⟨hK.view,hK.nd,hK.own,hK.kept,hK.len⟩ φ H' ts (Agr.refl _ _) (mL _) (by rw[hAl];exact h3) (fun d hd=>by cases hd) hR' hE;intro ds k2 env2 K2 hT A2 hA2 φ2 H2 ts2 g1 g2 g3 g4 g5 g6;have Wb:A.length<=A2.length:=by have:=hA2.len;rw[<- hAl];exact this
  have e0:(YU (kI (P:=P) Ψ) gm φ Y.X.kd Y.X.hkd Y.X.f Y.X.cs Y.X.dd A' (jm::jw::jo::keys R)).X.n0=A.length:=hAl;have hag:Agr φ φ2 A.length:=fun i hi=>g1 i (by rw[e0];exact hi);have hKn:Kn Y K2 A2:=by
   refine⟨hA2.view,hA2.nd,fun i hi=>?_,fun t ht1 ht2=>?_,mT hA.len Wb⟩
   ·rcases hA2.own i hi with hm|hm
    ·exact hA.own i hm
    ·have hm':A'.length<=i:=hm;rw[hAl]at hm';exact .inr (mT hA.len hm')
   ·have hnk:t∉jm::jw::jo::keys R:=fun hm=>by
     rcases hA.own t hm with h'|h'
     ·exact ht2 h'
     ·omega
    have hk2:=hA2.kept t (by show t<A'.length;rw[hAl];exact mM ht1 hA.len) hnk;rw[hk2];show A'[t]? =_;rw[hget t (fun e=>hnk (by simp[e])) (fun e=>hnk (by simp[e])) (fun e=>hnk (by simp[e]))];exact hA.kept t ht1 ht2
  have:=hT A2 hKn φ2 H2 ts2 (h1.trans hag h2) (mT h2 Wb) g3 g4 (by rw[hF0];exact g5) g6;have hfr2:G (fr Y.X.kd Y.X.f Y.X.ro ts2 (dsC φ2 ds++Y.X.dd) k2) Y.X.cs=G (fr Y.X.kd Y.X.f none ts2 (dsC φ2 ds++Y.X.dd) k2) Y.X.cs:=by rw[hro]
  rw[hfr2]at this;exact this
end
end Go.Vel
namespace Go.Vel
open Go Go.Conc
section
variable {P:gP}{gm:Nat->Option Nat}{T:gG->Hp->Prop}{Y:KX P gm T}{ds:List Nat}{k:List Item}{Wq:List AV}{K K':KV}
theorem zmd{φ:Nat->Loc3}{A:List AObj}{F H:Hp}(h:RelH φ A F H){j:Nat}{l:List AV}{e:gT}(hj:A[j]? =some (.cells l e tt)):RelH φ (A.set j (.cells l e ff)) F H:=by
 have hg:∀ t w,(A.set j (.cells l e ff))[t]? =some w->(t=j/\w=.cells l e ff)\/(t≠j/\A[t]? =some w):=fun t w ht=>by
  rw[lX]at ht;split at ht
  ·rename_i e';split at ht
   ·cases ht;exact .inl ⟨e'.symm,rfl⟩
   ·cases ht
  ·rename_i e';exact .inr ⟨fun h=>e' h.symm,ht⟩
 refine⟨fun t w ht=>?_,fun t t' w w' ht ht' hn he hl s1 s2=>?_,h.fr,fun t w ht he hs=>?_⟩
 ·rw[List.length_set];rcases hg t w ht with⟨rfl,rfl⟩|⟨_,h2⟩
  ·intro hl;obtain⟨rw',cur,q,h1,h2,h3⟩:=h.obj t _ hj hl;exact⟨rw',cur,q,h1,(fun h=>by cases h),h3⟩
  ·exact h.obj t w h2
 ·rcases hg t w ht with⟨rfl,rfl⟩|⟨_,h2⟩
  ·cases he
  ·rcases hg t' w' ht' with⟨rfl,rfl⟩|⟨_,h2'⟩
   ·exact h.apart t t' w _ h2 hj hn he rfl s1 s2
   ·exact h.apart t t' w w' h2 h2' hn he hl s1 s2
 ·rcases hg t w ht with⟨rfl,rfl⟩|⟨_,h2⟩
  ·cases he
  ·exact h.frx t w h2 he hs
theorem TK.frz{j:Nat}{l:List AV}{e:gT}(h:TK Y ds k Wq K')(hu:Upd K j (.cells l e tt) j (.cells l e ff) K':=by repeat (first|exact Upd.head|apply Upd.tail)):TK Y ds k Wq K:=fun A hA φ H ts h1 h2 h3 h4 h5 h6=>by
 have hj:=hA.view.get hu.mem;have hl:(A.set j (.cells l e ff)).length=A.length:=by simp
 exact h _ (hA.step (.set hA.view hA.nd hu)) φ H ts h1 (by rw[hl];exact h2) (by rw[hl];exact h3) (by rw[hl];exact h4) (zmd h5 hj) (by rw[hl];exact h6)
end
end Go.Vel
end
