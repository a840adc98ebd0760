/- Texts for the law SeekerRolled (chapters 8 and 9), part 8. It holds of every program, tape and world that the statements name, as each theorem says. -/
import Derived.Test.YtclnbamaepgfiaaGreatDoorRows
import Derived.Test.YtclnbamaepgfiaaGreatDoorCards
import Derived.Test.YtclnbamaepgfiaaGreatDoorTie
import Derived.ProofKit
import Derived.LaidMore
import Derived.LaidHandle
import Derived.LaidOnce
import Derived.OpenShut
import Derived.Stop.Joined
import Derived.Conc.LeavingOf
import Derived.Conc.HoldsTime
import Derived.Carry
import Derived.LaidLaws
import Derived.SevenTiedAt
import Derived.Test.YtclnbamaepgfiaaGreatDoorProg
import Derived.Test.YtclnbamaepgfiaaGreatDoorR1
import Derived.Test.YtclnbamaepgfiaaGreatDoorR3
import Derived.Test.YtclnbamaepgfiaaGreatDoorR5
import Derived.Test.YtclnbamaepgfiaaGreatDoorR6
open Go renaming Goroutine -> gG, TypeId -> gT, Operand -> gO, Program -> gP, Value -> gV, World -> gW
open Bool renaming true -> tt, false -> ff
section
set_option linter.all false
set_option maxRecDepth 20000
set_option maxHeartbeats 60000000
open Go.Proofs.Tryz renaming prog -> tp
open List renaming getElem?_eq_getElem -> lA, getElem?_eq_some_iff -> lD, getD_eq_getElem?_getD -> lE, length_append -> lF, getElem?_append_left -> lG, perm_append_comm -> lH, mem_cons_of_mem -> lL, mem_of_getElem? -> lN, getElem?_append_right -> lO, getElem?_map -> lQ, append_nil -> lR, mem_singleton -> lS, mem_append -> lT, getElem?_eq_none -> lU, take_length -> lW, mem_map -> lY, replicate -> mB
open List.Mem renaming head -> mC
open Nat renaming le_refl -> mL, zero_le -> mN, eq_zero_or_pos -> mP, lt_or_ge -> mR
open Bool renaming not_eq_true' -> mV, and_eq_true -> mX
open Option renaming map_eq_some_iff -> mY
open Int renaming toNat_natCast -> mZ
open Go.Vel.TK renaming maskL -> bA, rt -> bB, kp -> bC, cl -> bD, loopN -> bE, sp -> bF, na -> bG, a -> bH, dq -> bL, perm -> bN
open Go.Vel.TD renaming s -> bR, norm -> bS, y -> bT, z -> bU
namespace Go.Vel
open Go Go.Conc Go.Proofs Go.ChangeShapes Go.WideShapes Go.ChangeAt Go.RowKit
open Go.ConcM (OsLater)
def tblLaid:List (String×DataW Unit):=[("velarium/roll.checks",Go.Proofs.YtclnbamaepgfiaaGreatDoor.Rows.laid_velarium_roll_checks),("velarium/seeker.checks",Go.Proofs.YtclnbamaepgfiaaGreatDoor.Rows.laid_velarium_seeker_checks),("velarium/seeker.says",Go.Proofs.YtclnbamaepgfiaaGreatDoor.Rows.laid_velarium_seeker_says)]
theorem tbl4{P:gP}{W:gW}{n:String}{d:DataW Unit}{g0 t0 e0:Nat}{ps rs:Array gT}{va:Bool}{b1 b2 b3 b4:UInt8}{r1 r2 r3 r4:List UInt8}{f1 f2 f3 f4:Nat}(h:funcsAt P W n d)
  (hg0:P.globalNamed n=some g0) (ht0:(P.globals[g0]?).map (·.type)=some t0) (hu:P.underlying t0=some (.array 4 e0)) (he:P.underlying e0=some (.func ps rs va)) (hc:P.cellsOf e0=1) (hc3:P.cellsOf t0=4)
  (hd:d.funcsOut=.agg [.held (b1::r1),.held (b2::r2),.held (b3::r3),.held (b4::r4)])
  (q1:((List.range P.funcs.size).filter fun f=>(P.funcs[f]?).any (·.name.toUTF8.data.toList==b1::r1))=[f1])
  (q2:((List.range P.funcs.size).filter fun f=>(P.funcs[f]?).any (·.name.toUTF8.data.toList==b2::r2))=[f2])
  (q3:((List.range P.funcs.size).filter fun f=>(P.funcs[f]?).any (·.name.toUTF8.data.toList==b3::r3))=[f3])
  (q4:((List.range P.funcs.size).filter fun f=>(P.funcs[f]?).any (·.name.toUTF8.data.toList==b4::r4))=[f4]) :
  ∃ cur e fz,W.heap[g0]? =some (.cells cur e fz)/\cur[0]? =some (.func (.func f1) #[] #[])/\cur[1]? =some (.func (.func f2) #[] #[])/\cur[2]? =some (.func (.func f3) #[] #[])/\cur[3]? =some (.func (.func f4) #[] #[]):=by
 obtain⟨g,t,cs,fuel,p,hg,ht,hv,htr⟩:=h;obtain rfl:=Option.some.inj (hg0.symm.trans hg);obtain rfl:=Option.some.inj (ht0.symm.trans ht);rw[hd]at htr;obtain⟨xs,m,rfl,hx,Wb,hn,hel⟩:=DataW.trod_array hu htr
 match xs,hn with
 | [x0,x1,x2,x3],_ =>
 simp only[Prod.mk.injEq,DataW.agg.injEq,List.map_cons,List.map_nil,List.cons.injEq,and_true]at hx;obtain⟨⟨e1,e2,e3,e4⟩,_⟩:=hx;rw[hc3]at Wb;obtain⟨l⟩:=cs
 match l,Wb with
 | [c0,c1,c2,c3],_ =>
 have h0:=hel 0 dQ;have h1:=hel 1 dQ;have h2:=hel 2 dQ;have h3:=hel 3 dQ;rw[hc]at h0 h1 h2 h3;obtain⟨x0,y0⟩:=x0;obtain⟨x1,y1⟩:=x1;obtain⟨x2,y2⟩:=x2;obtain⟨x3,y3⟩:=x3;dsimp only at e1 e2 e3 e4;subst e1 e2 e3 e4;obtain rfl:=func_of_trod (v:=c0) he q1 h0;obtain rfl:=func_of_trod (v:=c1) he q2 h1;obtain rfl:=func_of_trod (v:=c2) he q3 h2;obtain rfl:=func_of_trod (v:=c3) he q4 h3;have k0:=World.var?_cell hg hv 0;have k1:=World.var?_cell hg hv 1;have k2:=World.var?_cell hg hv 2;have k3:=World.var?_cell hg hv 3;simp only[List.getElem?_toArray,List.getElem?_cons_zero,List.getElem?_cons_succ]at k0 k1 k2 k3;simp only[World.cell?]at k0 k1 k2 k3;cases hh:W.heap[g0]? with
 | none=>rw[hh]at k0;cases k0
 | some o =>
  cases o with
  | cells cur e fz=>rw[hh]at k0 k1 k2 k3;exact⟨cur,e,fz,rfl,by simpa using k0,by simpa using k1,by simpa using k2,by simpa using k3⟩
  | _=>rw[hh]at k0;cases k0
set_option maxRecDepth 100000 in
theorem tbl3L{P:gP}{W:gW}{n:String}{d:DataW Unit}{g0 t0 e0:Nat}{ps rs:Array gT}{va:Bool}{b0 b1 b2:UInt8}{r0 r1 r2:List UInt8}{f0 f1 f2:Nat}(h:funcsAt P W n d)
  (hg0:P.globalNamed n=some g0) (ht0:(P.globals[g0]?).map (·.type)=some t0) (hu:P.underlying t0=some (.array 3 e0)) (he:P.underlying e0=some (.func ps rs va)) (hc:P.cellsOf e0=1) (hc3:P.cellsOf t0=3)
  (hd:d.funcsOut=.agg [.held (b0::r0),.held (b1::r1),.held (b2::r2)])
  (q0:((List.range P.funcs.size).filter fun f=>(P.funcs[f]?).any (·.name.toUTF8.data.toList==b0::r0))=[f0])
  (q1:((List.range P.funcs.size).filter fun f=>(P.funcs[f]?).any (·.name.toUTF8.data.toList==b1::r1))=[f1])
  (q2:((List.range P.funcs.size).filter fun f=>(P.funcs[f]?).any (·.name.toUTF8.data.toList==b2::r2))=[f2])
  : ∃ cur e fz,W.heap[g0]? =some (.cells cur e fz)/\cur[0]? =some (.func (.func f0) #[] #[])/\cur[1]? =some (.func (.func f1) #[] #[])/\cur[2]? =some (.func (.func f2) #[] #[]):=by
 obtain⟨g,t,cs,fuel,p,hg,ht,hv,htr⟩:=h;obtain rfl:=Option.some.inj (hg0.symm.trans hg);obtain rfl:=Option.some.inj (ht0.symm.trans ht);rw[hd]at htr;obtain⟨xs,m,rfl,hx,Wb,hn,hel⟩:=DataW.trod_array hu htr
 match xs,hn with
 | [x0,x1,x2],_ =>
 simp only[Prod.mk.injEq,DataW.agg.injEq,List.map_cons,List.map_nil,List.cons.injEq,and_true]at hx;obtain⟨⟨e0,e1,e2⟩,_⟩:=hx;rw[hc3]at Wb;obtain⟨l⟩:=cs
 match l,Wb with
 | [c0,c1,c2],_ =>
 have h0:=hel 0 dQ;have h1:=hel 1 dQ;have h2:=hel 2 dQ;rw[hc]at h0 h1 h2;obtain⟨x0,y0⟩:=x0;obtain⟨x1,y1⟩:=x1;obtain⟨x2,y2⟩:=x2;dsimp only at e0 e1 e2;subst e0 e1 e2;obtain rfl:=func_of_trod (v:=c0) he q0 h0;obtain rfl:=func_of_trod (v:=c1) he q1 h1;obtain rfl:=func_of_trod (v:=c2) he q2 h2;have k0:=World.var?_cell hg hv 0;have k1:=World.var?_cell hg hv 1;have k2:=World.var?_cell hg hv 2;simp only[List.getElem?_toArray,List.getElem?_cons_zero,List.getElem?_cons_succ]at k0 k1 k2;simp only[World.cell?]at k0 k1 k2;cases hh:W.heap[g0]? with
 | none=>rw[hh]at k0;cases k0
 | some o =>
  cases o with
  | cells cur e fz=>rw[hh]at k0 k1 k2;exact⟨cur,e,fz,rfl,by simpa using k0,by simpa using k1,by simpa using k2⟩
  | _=>rw[hh]at k0;cases k0
set_option maxRecDepth 100000 in
theorem znx{W:gW}(h:laidMetH tp tblLaid W):(∃ cur e fz,W.heap[2]? =some (.cells cur e fz)/\cur[0]? =some (.func (.func 239) #[] #[])/\cur[1]? =some (.func (.func 240) #[] #[])/\cur[2]? =some (.func (.func 241) #[] #[])/\cur[3]? =some (.func (.func 242) #[] #[]))/\(∃ cur e fz,W.heap[1]? =some (.cells cur e fz)/\cur[0]? =some (.func (.func 231) #[] #[])/\cur[1]? =some (.func (.func 232) #[] #[])/\cur[2]? =some (.func (.func 233) #[] #[]))/\(∃ cur e fz,W.heap[0]? =some (.cells cur e fz)/\cur[0]? =some (.func (.func 229) #[] #[])/\cur[1]? =some (.func (.func 226) #[] #[])/\cur[2]? =some (.func (.func 230) #[] #[])) :=
 ⟨tbl4 (h.funcs (n := "velarium/roll.checks") (List.mem_cons_self ..)) (t0:=200) (e0:=84) (by kernel_rfl) (by kernel_rfl) Tryz.underlying200 Tryz.underlying84 (by kernel_rfl) (by kernel_rfl) rfl (by kernel_rfl) (by kernel_rfl) (by kernel_rfl) (by kernel_rfl),
  tbl3L (h.funcs (n := "velarium/seeker.checks") (lL _ (List.mem_cons_self ..))) (t0:=194) (e0:=193) (by kernel_rfl) (by kernel_rfl) Tryz.underlying194 Tryz.underlying193 (by kernel_rfl) (by kernel_rfl) rfl (by kernel_rfl) (by kernel_rfl) (by kernel_rfl),
  tbl3L (h.funcs (n := "velarium/seeker.says") (lL _ (lL _ (List.mem_cons_self ..)))) (t0:=189) (e0:=188) (by kernel_rfl) (by kernel_rfl) Tryz.underlying189 Tryz.underlying188 (by kernel_rfl) (by kernel_rfl) rfl (by kernel_rfl) (by kernel_rfl) (by kernel_rfl)⟩
theorem zbL{α:Type}{p:Nat->α->Prop}:∀ n,(∀ i,i<n->∃ z,p i z)->∃ zs:List α,zs.length=n/\∀(i:Nat) z,zs[i]? =some z->p i z
 | 0,_=>⟨[],rfl,fun i z h=>by simp at h⟩
 | n+1,h=>by
  obtain⟨zs,h1,h2⟩:=zbL n fun i hi=>h i oQ;obtain⟨z,hz⟩:=h n oQ;refine⟨zs++[z],by simp[h1],fun i y hy=>?_⟩;rcases mR i n with hi|hi
  ·rw[lG oQ]at hy;exact h2 i y hy
  ·rw[lO oQ,h1]at hy;rcases mP (i - n)with h0|h0
   ·rw[h0]at hy;cases hy;obtain rfl:i=n:=by omega
    exact hz
   ·rw[lU (by simp;omega)]at hy;cases hy
theorem vS{H:Type}{enc:gT×gV->H}{P:gP}{W:gW}{sp:Nat->Bool}{held:Bool}{α:Type}{vals:α->List gV}{c fuel:Nat}{t e:gT}{cs:List gV}{x:DataW H×List MemPlace}(hu:P.underlying t=some (.slice e))(hce:P.cellsOf e=c)(Qx:0<c)
  (hdec:∀(m:Nat) cs x,DataW.trod enc P W 0 sp held m e cs=some x->∃ z,cs=vals z) (h:DataW.trod enc P W 0 sp held fuel t cs=some x) :
  ∃(zs:List α)(b:Option Addr)(cap:Nat),cs=[.slice b zs.length cap]/\zs.length<=cap/\(0<zs.length->∃ blk off cur e' fz,b=some ⟨blk,off,none⟩/\W.heap[blk]? =some (.cells cur e' fz) /\
   ∀(i:Nat) z (j:Nat),zs[i]? =some z->j<c->cur[off+(i*c+j)]? =(vals z)[j]?):=by
 rcases DataW.trod_slice hu h with⟨rfl,_⟩|⟨a,len,cap,elems,Wp,n,_,rfl,_,_,hlc,_,hel,hat,_,_⟩
 ·exact⟨[],none,0,rfl,mL _,fun h=>absurd h sQ⟩
 ·obtain⟨zs,hz1,hz2⟩:=zbL (p:=fun i z=>W.cells? 0 (a.add (i*P.cellsOf e)) (P.cellsOf e)=some (vals z)) len fun i hi=>by
   have:=hat i hi;rw[lA oQ,Option.bind_eq_some_iff]at this;obtain⟨cs',h1,h2⟩:=this;obtain⟨z,rfl⟩:=hdec _ _ _ h2;exact⟨z,h1⟩
  refine⟨zs,some a,cap,by rw[hz1],oQ,fun hp=>?_⟩;have hcell:∀(i:Nat) z (j:Nat),zs[i]? =some z->j<c->W.cell? ((a.add (i*c)).add j)=(vals z)[j]? :=fun i z j hi hj=>by
   have:=hz2 i z hi;rw[hce]at this;exact(World.cells?_some this).2.2 j hj
  have Wb:∀(i:Nat) z,zs[i]? =some z->(vals z).length=c:=fun i z hi=>by
   have:=hz2 i z hi;rw[hce]at this;exact(World.cells?_some this).2.1
  obtain⟨z0,hz0⟩:∃ z,zs[0]? =some z:=⟨_,lA hp⟩;have h00:=hcell 0 z0 0 hz0 Qx;rw[lA (by rw[Wb 0 z0 hz0];exact Qx)]at h00;have hspot:a.spot=none:=by simpa[Addr.add]using World.cell?_spot h00
  obtain⟨blk,off,spot⟩:=a;dsimp only at hspot;subst hspot;have hadd:∀ n,(⟨blk,off,none⟩:Addr).add n=⟨blk,off+n,none⟩:=fun n=>by
   unfold Addr.add;split
   ·rename_i h;subst h;rfl
   ·rfl
  have hadd2:∀ n m,((⟨blk,off,none⟩:Addr).add n).add m=⟨blk,off+(n+m),none⟩:=fun n m=>by
   rw[hadd];unfold Addr.add;split
   ·rename_i h;subst h;simp
   ·simp[Nat.add_assoc]
  rw[hadd2]at h00;unfold World.cell? at h00;dsimp only at h00;cases hh:W.heap[blk]? with
  | none=>rw[hh]at h00;cases h00
  | some o =>
   cases o with
   | cells cur e' fz =>
    refine⟨blk,off,cur,e',fz,rfl,hh,fun i z j hi hj=>?_⟩;have:=hcell i z j hi hj;rw[hadd2]at this;unfold World.cell? at this;dsimp only at this;rw[hh]at this;simpa using this
   | _=>rw[hh]at h00;cases h00
def seamV(x:RSeam):List gV:=[.int .i64 x.step,.int .i64 x.most,.int .i64 x.busy,.int .i64 x.spoil,.bool x.whole]
def bandV(x:RBand):List gV:=[.int .i64 x.low,.int .i64 x.high]
def measV(x:RMeas):List gV:=[.int .i64 x.cloth,.int .i64 x.many,.int .i64 x.wide]
theorem listN2{α:Type}{l:List α}(h:l.length=2):∃ a b,l=[a,b]:=by
 match l,h with
 | [a,b],_=>exact⟨a,b,rfl⟩
theorem listN3{α:Type}{l:List α}(h:l.length=3):∃ a b c,l=[a,b,c]:=by
 match l,h with
 | [a,b,c],_=>exact⟨a,b,c,rfl⟩
theorem listN5{α:Type}{l:List α}(h:l.length=5):∃ a b c d e,l=[a,b,c,d,e]:=by
 match l,h with
 | [a,b,c,d,e],_=>exact⟨a,b,c,d,e,rfl⟩
theorem listN7{α:Type}{l:List α}(h:l.length=7):∃ a b c d e f g,l=[a,b,c,d,e,f,g]:=by
 match l,h with
 | [a,b,c,d,e,f,g],_=>exact⟨a,b,c,d,e,f,g,rfl⟩
section
variable {H:Type}{enc:gT×gV->H}{W:gW}{sp:Nat->Bool}{held:Bool}
theorem yw{α:Type}{xs:List α}{n i:Nat}(h:xs.length=n)(hi:i<n):∃ y,xs[i]? =some y:=⟨_,lA (h ▸ hi)⟩
theorem yg{P:gP}{n:Nat}{t:gT}{c:gV}{y:Option (DataW H×List MemPlace)}{z:DataW H×List MemPlace}{l:List gV}(h:DataW.trod enc P W 0 sp held n t l=y)(hy:y=some z)(hl:l=[c]):DataW.trod enc P W 0 sp held n t [c]=some z:=by rw[<- hl,h,hy]
theorem zk1(m:Nat)(cs:List gV)(x:DataW H×List MemPlace)(h:DataW.trod enc tp W 0 sp held m 183 cs=some x):∃ z,cs=seamV z:=by
 obtain⟨xs,n,rfl,hx,Wb,hxs,hf⟩:=DataW.trod_struct Tryz.underlying183 h;have hlen':cs.length=5:=Wb.trans (by kernel_rfl);have hxs':xs.length=5:=hxs;have c3:tp.cellsOf 3=1:=by kernel_rfl
 have c4:tp.cellsOf 4=1:=by kernel_rfl
 obtain⟨v0,v1,v2,v3,v4,rfl⟩:=listN5 hlen';obtain⟨y0,q0⟩:=yw hxs' (i:=0) dQ;obtain⟨y1,q1⟩:=yw hxs' (i:=1) dQ;obtain⟨y2,q2⟩:=yw hxs' (i:=2) dQ;obtain⟨y3,q3⟩:=yw hxs' (i:=3) dQ;obtain⟨y4,q4⟩:=yw hxs' (i:=4) dQ;obtain⟨z0,e0,_⟩:=DataW.trod_int Tryz.underlying3 (yg (c:=v0) (hf 0 _ rfl) q0 (by show List.take (tp.cellsOf 3) (List.drop 0 _)=_;rw[c3];rfl));obtain⟨z1,e1,_⟩:=DataW.trod_int Tryz.underlying3 (yg (c:=v1) (hf 1 _ rfl) q1 (by show List.take (tp.cellsOf 3) (List.drop 1 _)=_;rw[c3];rfl));obtain⟨z2,e2,_⟩:=DataW.trod_int Tryz.underlying3 (yg (c:=v2) (hf 2 _ rfl) q2 (by show List.take (tp.cellsOf 3) (List.drop 2 _)=_;rw[c3];rfl));obtain⟨z3,e3,_⟩:=DataW.trod_int Tryz.underlying3 (yg (c:=v3) (hf 3 _ rfl) q3 (by show List.take (tp.cellsOf 3) (List.drop 3 _)=_;rw[c3];rfl));obtain⟨z4,e4,_⟩:=DataW.trod_bool Tryz.underlying4 (yg (c:=v4) (hf 4 _ rfl) q4 (by show List.take (tp.cellsOf 4) (List.drop 4 _)=_;rw[c4];rfl));cases e0;cases e1;cases e2;cases e3;cases e4;exact⟨⟨z0,z1,z2,z3,z4⟩,rfl⟩
theorem zff(m:Nat)(cs:List gV)(x:DataW H×List MemPlace)(h:DataW.trod enc tp W 0 sp held m 23 cs=some x):∃ z,cs=bandV z:=by
 obtain⟨xs,n,rfl,hx,Wb,hxs,hf⟩:=DataW.trod_struct Tryz.underlying23 h;have hlen':cs.length=2:=Wb.trans (by kernel_rfl);have hxs':xs.length=2:=hxs;have c3:tp.cellsOf 3=1:=by kernel_rfl
 obtain⟨v0,v1,rfl⟩:=listN2 hlen';obtain⟨y0,q0⟩:=yw hxs' (i:=0) dQ;obtain⟨y1,q1⟩:=yw hxs' (i:=1) dQ;obtain⟨z0,e0,_⟩:=DataW.trod_int Tryz.underlying3 (yg (c:=v0) (hf 0 _ rfl) q0 (by show List.take (tp.cellsOf 3) (List.drop 0 _)=_;rw[c3];rfl));obtain⟨z1,e1,_⟩:=DataW.trod_int Tryz.underlying3 (yg (c:=v1) (hf 1 _ rfl) q1 (by show List.take (tp.cellsOf 3) (List.drop 1 _)=_;rw[c3];rfl));cases e0;cases e1;exact⟨⟨z0,z1⟩,rfl⟩
theorem zkZ(m:Nat)(cs:List gV)(x:DataW H×List MemPlace)(h:DataW.trod enc tp W 0 sp held m 108 cs=some x):∃ z,cs=measV z:=by
 obtain⟨xs,n,rfl,hx,Wb,hxs,hf⟩:=DataW.trod_struct Tryz.underlying108 h;have hlen':cs.length=3:=Wb.trans (by kernel_rfl);have hxs':xs.length=3:=hxs;have c3:tp.cellsOf 3=1:=by kernel_rfl
 obtain⟨v0,v1,v2,rfl⟩:=listN3 hlen';obtain⟨y0,q0⟩:=yw hxs' (i:=0) dQ;obtain⟨y1,q1⟩:=yw hxs' (i:=1) dQ;obtain⟨y2,q2⟩:=yw hxs' (i:=2) dQ;obtain⟨z0,e0,_⟩:=DataW.trod_int Tryz.underlying3 (yg (c:=v0) (hf 0 _ rfl) q0 (by show List.take (tp.cellsOf 3) (List.drop 0 _)=_;rw[c3];rfl));obtain⟨z1,e1,_⟩:=DataW.trod_int Tryz.underlying3 (yg (c:=v1) (hf 1 _ rfl) q1 (by show List.take (tp.cellsOf 3) (List.drop 1 _)=_;rw[c3];rfl));obtain⟨z2,e2,_⟩:=DataW.trod_int Tryz.underlying3 (yg (c:=v2) (hf 2 _ rfl) q2 (by show List.take (tp.cellsOf 3) (List.drop 2 _)=_;rw[c3];rfl));cases e0;cases e1;cases e2;exact⟨⟨z0,z1,z2⟩,rfl⟩
def SlIn(W:gW){α:Type}(vals:α->List gV)(c:Nat)(zs:List α)(v:gV):Prop:=∃(b:Option Addr)(cap:Nat),v=.slice b zs.length cap/\zs.length<=cap/\(0<zs.length->∃ blk off cur e' fz,b=some ⟨blk,off,none⟩/\W.heap[blk]? =some (.cells cur e' fz) /\
   ∀(i:Nat) z (j:Nat),zs[i]? =some z->j<c->cur[off+(i*c+j)]? =(vals z)[j]?)
theorem zjS{v:gV}{d:DataW H}{p:List MemPlace}(hv:∃ cs,v=.agg cs)(h:DataW.Trod enc tp W 0 sp held 32 v d p):∃(b:RBk)(v1 v2 v3:gV),v=.agg #[.int .i64 b.sP,.int .i64 b.round,.int .i64 b.roll,.int .i64 b.rolls,v1,v2,v3]/\SlIn W seamV 5 b.sE v1/\SlIn W bandV 2 b.sH v2/\SlIn W measV 3 b.mE v3:=by
 obtain⟨ca,rfl⟩:=hv;obtain⟨fuel,h⟩:=h;generalize hcs:(Value.agg ca).cells.toList=cs at h;obtain⟨xs,n,rfl,hx,Wb,hxs,hf⟩:=DataW.trod_struct Tryz.underlying32 h;have hlen':cs.length=7:=Wb.trans (by kernel_rfl);have hxs':xs.length=7:=hxs;have c3:tp.cellsOf 3=1:=by kernel_rfl
 have c28:tp.cellsOf 28=1:=by kernel_rfl
 have c29:tp.cellsOf 29=1:=by kernel_rfl
 have c30:tp.cellsOf 30=1:=by kernel_rfl
 obtain⟨v0,v1,v2,v3,v4,v5,v6,rfl⟩:=listN7 hlen';obtain⟨y0,q0⟩:=yw hxs' (i:=0) dQ;obtain⟨y1,q1⟩:=yw hxs' (i:=1) dQ;obtain⟨y2,q2⟩:=yw hxs' (i:=2) dQ;obtain⟨y3,q3⟩:=yw hxs' (i:=3) dQ;obtain⟨y4,q4⟩:=yw hxs' (i:=4) dQ;obtain⟨y5,q5⟩:=yw hxs' (i:=5) dQ;obtain⟨y6,q6⟩:=yw hxs' (i:=6) dQ;obtain⟨a0,e0,_⟩:=DataW.trod_int Tryz.underlying3 (yg (c:=v0) (hf 0 _ rfl) q0 (by show List.take (tp.cellsOf 3) (List.drop 0 _)=_;rw[c3];rfl));obtain⟨a1,e1,_⟩:=DataW.trod_int Tryz.underlying3 (yg (c:=v1) (hf 1 _ rfl) q1 (by show List.take (tp.cellsOf 3) (List.drop 1 _)=_;rw[c3];rfl));obtain⟨a2,e2,_⟩:=DataW.trod_int Tryz.underlying3 (yg (c:=v2) (hf 2 _ rfl) q2 (by show List.take (tp.cellsOf 3) (List.drop 2 _)=_;rw[c3];rfl));obtain⟨a3,e3,_⟩:=DataW.trod_int Tryz.underlying3 (yg (c:=v3) (hf 3 _ rfl) q3 (by show List.take (tp.cellsOf 3) (List.drop 3 _)=_;rw[c3];rfl));obtain⟨l4,b4,cap4,e4,k4,r4⟩:=vS (vals:=seamV) (c:=5) Tryz.underlying28 (by kernel_rfl) dQ zk1 (yg (c:=v4) (hf 4 _ rfl) q4 (by show List.take (tp.cellsOf 28) (List.drop 4 _)=_;rw[c28];rfl));obtain⟨l5,b5,cap5,e5,k5,r5⟩:=vS (vals:=bandV) (c:=2) Tryz.underlying29 (by kernel_rfl) dQ zff (yg (c:=v5) (hf 5 _ rfl) q5 (by show List.take (tp.cellsOf 29) (List.drop 5 _)=_;rw[c29];rfl));obtain⟨l6,b6,cap6,e6,k6,r6⟩:=vS (vals:=measV) (c:=3) Tryz.underlying30 (by kernel_rfl) dQ zkZ (yg (c:=v6) (hf 6 _ rfl) q6 (by show List.take (tp.cellsOf 30) (List.drop 6 _)=_;rw[c30];rfl));cases e0;cases e1;cases e2;cases e3;cases e4;cases e5;cases e6;refine⟨⟨a0,a1,a2,a3,l4,l5,l6⟩,_,_,_,?_,⟨b4,cap4,rfl,k4,r4⟩,⟨b5,cap5,rfl,k5,r5⟩,⟨b6,cap6,rfl,k6,r6⟩⟩;have:ca.toList=_:=hcs;rw[<- Array.toArray_toList (xs:=ca),this]
end
def locV:gV->Loc3
 | .slice (some a) _ _=>⟨a.block,a.off,0⟩
 | _=>⟨0,0,0⟩
def holdAll(W:gW):Hp:=fun b=>(W.heap[b]?).map fun o=>(ff,o)
theorem zfw(W:gW):z5 (holdAll W) W:=fun b rw' o h=>by
 unfold holdAll at h;obtain⟨x,h1,h2⟩:=mY.1 h;cases h2;exact h1
theorem vC{W:gW}{b:Nat}{o:Obj}(h:W.heap[b]? =some o):holdAll W b=some (ff,o):=by unfold holdAll;rw[h];rfl
theorem zfl{α:Type}{f:α->List AV}{c:Nat}(hc:∀ x,(f x).length=c):∀(zs:List α)(j:Nat) a,(zs.flatMap f)[j]? =some a->∃ i z jj,zs[i]? =some z/\jj<c/\j=i*c+jj/\(f z)[jj]? =some a
 | [],j,a,h=>by simp at h
 | z::zs,j,a,h=>by
  rw[List.flatMap_cons]at h;rcases mR j c with hj|hj
  ·rw[lG (by rw[hc];exact hj)]at h;exact⟨0,z,j,rfl,hj,oQ,h⟩
  ·rw[lO (by rw[hc];exact hj),hc]at h;obtain⟨i,y,jj,h1,h2,h3,h4⟩:=zfl hc zs _ a h;exact⟨i+1,y,jj,h1,h2,by rw[Nat.succ_mul];omega,h4⟩
theorem zak{W:gW}{α:Type}{vals:α->List gV}{f:α->List AV}{c:Nat}{zs:List α}{v:gV}{φ:Nat->Loc3}{n:Nat}{e:gT}(h:SlIn W vals c zs v)(hc:∀ x,(f x).length=c)
  (hrel:∀ z (jj:Nat) a,(f z)[jj]? =some a->∃ y,(vals z)[jj]? =some y/\RelV φ n a y):RelO φ n (locV v) (holdAll W) (.cells (zs.flatMap f) e ff):=by
 intro hne;obtain⟨b,cap,rfl,hle,hq⟩:=h;have Qx:0<zs.length:=by
  rcases mP zs.length with h0|h0
  ·rw[List.eq_nil_of_length_eq_zero h0]at hne;exact absurd rfl hne
  ·exact h0
 obtain⟨blk,off,cur,e',fz,rfl,hh,hcell⟩:=hq Qx;refine⟨ff,cur,(e',fz),vC hh,(fun h=>by cases h),fun j a ha=>?_⟩;obtain⟨i,z,jj,h1,h2,rfl,h4⟩:=zfl hc zs j a ha;obtain⟨y,h5,h6⟩:=hrel z jj a h4;exact⟨y,(hcell i z jj h1 h2).trans h5,h6⟩
theorem zal{W:gW}{α:Type}{vals:α->List gV}{c:Nat}{zs:List α}{v:gV}{φ:Nat->Loc3}{n i:Nat}(h:SlIn W vals c zs v)(hi:i<n)(hφ:φ i=locV v):RelV φ n (.sl i 0 zs.length) v:=by
 obtain⟨b,cap,rfl,hle,hq⟩:=h;refine .sl hi hle fun Qx=>?_;obtain⟨blk,off,cur,e',fz,rfl,_⟩:=hq Qx;rw[hφ];rfl
theorem zmk{φ:Nat->Loc3}{n:Nat}(z)(jj:Nat)(a:AV)(h:(seamC z)[jj]? =some a):∃ y,(seamV z)[jj]? =some y/\RelV φ n a y:=by
 match jj,h with
 | 0,h=>cases h;exact⟨_,rfl,.v _⟩
 | 1,h=>cases h;exact⟨_,rfl,.v _⟩
 | 2,h=>cases h;exact⟨_,rfl,.v _⟩
 | 3,h=>cases h;exact⟨_,rfl,.v _⟩
 | 4,h=>cases h;exact⟨_,rfl,.v _⟩
 | jj+5,h=>simp[seamC]at h
theorem zeX{φ:Nat->Loc3}{n:Nat}(z)(jj:Nat)(a:AV)(h:(bandC z)[jj]? =some a):∃ y,(bandV z)[jj]? =some y/\RelV φ n a y:=by
 match jj,h with
 | 0,h=>cases h;exact⟨_,rfl,.v _⟩
 | 1,h=>cases h;exact⟨_,rfl,.v _⟩
 | jj+2,h=>simp[bandC]at h
theorem zlH{φ:Nat->Loc3}{n:Nat}(z)(jj:Nat)(a:AV)(h:(measC z)[jj]? =some a):∃ y,(measV z)[jj]? =some y/\RelV φ n a y:=by
 match jj,h with
 | 0,h=>cases h;exact⟨_,rfl,.v _⟩
 | 1,h=>cases h;exact⟨_,rfl,.v _⟩
 | 2,h=>cases h;exact⟨_,rfl,.v _⟩
 | jj+3,h=>simp[measC]at h
theorem ut{φ:Nat->Loc3}{n f:Nat}:RelV φ n (.fn f [] []) (.func (.func f) #[] #[]):=.fn rfl (fun j a y h=>by simp at h) rfl (fun j a y h=>by simp at h)
theorem zn7{W:gW}{φ:Nat->Loc3}{n g f1 f2 f3 f4:Nat}{e:gT}(h:∃ cur e fz,W.heap[g]? =some (.cells cur e fz)/\cur[0]? =some (.func (.func f1) #[] #[])/\cur[1]? =some (.func (.func f2) #[] #[])/\cur[2]? =some (.func (.func f3) #[] #[])/\cur[3]? =some (.func (.func f4) #[] #[])):RelO φ n ⟨g,0,0⟩ (holdAll W) (.cells [.fn f1 [] [],.fn f2 [] [],.fn f3 [] [],.fn f4 [] []] e ff):=by
 intro _;obtain⟨cur,e',fz,hh,h0,h1,h2,h3⟩:=h;refine⟨ff,cur,(e',fz),vC hh,(fun h=>by cases h),fun j a ha=>?_⟩
 match j,ha with
 | 0,ha=>cases ha;exact⟨_,h0,ut⟩
 | 1,ha=>cases ha;exact⟨_,h1,ut⟩
 | 2,ha=>cases ha;exact⟨_,h2,ut⟩
 | 3,ha=>cases ha;exact⟨_,h3,ut⟩
 | j+4,ha=>simp at ha
theorem zkT{W:gW}{b:RBk}{x1 x2 x3:gV}{φ:Nat->Loc3}{n s h e:Nat}(h1:SlIn W seamV 5 b.sE x1)(h2:SlIn W bandV 2 b.sH x2)(h3:SlIn W measV 3 b.mE x3)(q1:s<n/\φ s=locV x1)(q2:h<n/\φ h=locV x2)(q3:e<n/\φ e=locV x3) :
  RelV φ n (.agg (zP b s h e)) (.agg #[.int .i64 b.sP,.int .i64 b.round,.int .i64 b.roll,.int .i64 b.rolls,x1,x2,x3]):=by
 refine .agg Z fun t u z hu hz=>?_
 match t,hu,hz with
 | 0,hu,hz=>cases hu;cases hz;exact .v _
 | 1,hu,hz=>cases hu;cases hz;exact .v _
 | 2,hu,hz=>cases hu;cases hz;exact .v _
 | 3,hu,hz=>cases hu;cases hz;exact .v _
 | 4,hu,hz=>cases hu;cases hz;exact zal h1 q1.1 q1.2
 | 5,hu,hz=>cases hu;cases hz;exact zal h2 q2.1 q2.2
 | 6,hu,hz=>cases hu;cases hz;exact zal h3 q3.1 q3.2
 | t+7,hu,hz=>simp[zP]at hu
def KeptAll(W w:gW):Prop:=∀ i,i<W.heap.size->w.heap[i]? =W.heap[i]?
def startA(W:gW)(objs:List AObj):List AObj:=objs++W.heap.toList.map .ro
def startP(n:Nat)(f:Nat->Loc3):Nat->Loc3:=fun i=>if i<n then f i else⟨i - n,0,0⟩
theorem we{n i:Nat}{f:Nat->Loc3}(h:i<n):startP n f i=f i:=by unfold startP;rw[if_pos h]
theorem zdd{W:gW}{objs:List AObj}{i:Nat}{o:AObj}(h:(startA W objs)[i]? =some o):(i<objs.length/\objs[i]? =some o)\/∃ q,objs.length<=i/\o=.ro q/\W.heap[i - objs.length]? =some q:=by
 unfold startA at h;rcases mR i objs.length with hl|hl
 ·rw[lG hl]at h;exact .inl ⟨hl,h⟩
 ·rw[lO hl,lQ]at h;obtain⟨q,hq,rfl⟩:=mY.1 h;exact .inr ⟨q,hl,rfl,by simpa using hq⟩
theorem zmh{W:gW}{g:FuncId}{fn:Func}{c:Code}{args:List AV}{vs:Array gV}{K:KV}{objs:List AObj}{f:Nat->Loc3}(hf:tp.funcs[g]? =some fn)(hb:fn.body=some c)(hi:tp.inits.idxOf? g=none)
  (ht:Top tp gmR g args K (fun r _=>r=zr tt)) (hK:∀ x∈K,objs[x.1]? =some x.2) (hn:(keys K).Nodup) (h0:f 0=⟨1,0,0⟩) (h1':f 1=⟨0,0,0⟩) (h2':f 2=⟨2,0,0⟩) (Qx:2<objs.length) (hx:∀ o∈objs,o.excl=ff)
  (ho:∀(φ:Nat->Loc3) n (i:Nat) o,objs[i]? =some o->RelO φ n (f i) (holdAll W) o)
  (hv:∀(φ:Nat->Loc3) n,(∀ i,i<objs.length->i<n/\φ i=f i)->zN φ n args vs) :
  ∃ M last o w' t',runNT tp (M+1) (solo (G (Frame.enter tp g vs .normal) []) W) #[]=(.ended o w',t') /\
   runN tp M (solo (G (Frame.enter tp g vs .normal) []) W)=.next last /\
   step tp last=.ended o w'/\Conc.Good tp (fun v w=>v=.bool tt/\OsLater W.os w.os/\w.output=W.output/\KeptAll W w) last o w' t':=by
 refine zlk (R:=fun v w=>v=.bool tt/\KeptAll W w) (R':=fun v w=>v=.bool tt/\OsLater W.os w.os/\w.output=W.output/\KeptAll W w) hf hb hi (fun v w' ho hu hr=>⟨hr.1,ho,hu,hr.2⟩) (fun v w d h=>h) (zfw W) ?_;have Wb:(startA W objs).length=objs.length+W.heap.size:=by simp[startA]
 have hex:∀(i:Nat) o,(startA W objs)[i]? =some o->o.excl=ff:=fun i o h=>by
  rcases zdd h with⟨_,h⟩|⟨q,_,rfl,_⟩
  ·exact hx o (lN h)
  ·rfl
 refine ht _ (startA W objs) (startP objs.length f) (holdAll W) vs (fun x hxK=>?_) hn (fun g i hg=>?_) ⟨fun i o h=>?_,fun i j o o' hi _ _ he=>?_,(fun b x h=>by cases h),fun i o hi he _=>?_⟩ (hv _ _ fun i hi=>⟨by omega,we hi⟩) ?_
 ·have:=hK x hxK;obtain⟨hl,_⟩:=lD.1 this;show(objs++_)[x.1]? =_;rw[lG hl];exact this
 ·match g,hg with
  | 0,hg=>cases hg;exact⟨by omega,by rw[we oQ,h1'],by rw[we oQ,h1']⟩
  | 1,hg=>cases hg;exact⟨by omega,by rw[we oQ,h0],by rw[we oQ,h0]⟩
  | 2,hg=>cases hg;exact⟨by omega,by rw[we Qx,h2'],by rw[we Qx,h2']⟩
  | g+3,hg=>cases hg
 ·rcases zdd h with⟨hl,hq⟩|⟨q,hl,rfl,hq⟩
  ·rw[we hl];exact ho _ _ i o hq
  ·refine⟨ff,?_⟩;rw[show(startP objs.length f i).blk=i - objs.length by unfold startP;rw[if_neg oQ]];exact vC hq
 ·rw[hex i o hi]at he;cases he
 ·rfl
 ·rintro r K' φ' A' H' v w rfl hk ha hH' hv' hfit;refine⟨inv_v hv',fun i hi=>?_⟩;have hh:=Array.getElem?_eq_getElem hi;have hA:(startA W objs)[objs.length+i]? =some (.ro W.heap[i]):=by
   unfold startA;rw[lO oQ,lQ,show objs.length+i - objs.length=i by omega];simp[hi]
  have hA':=(hk (objs.length+i) oQ (fun hm=>by
   obtain⟨x,hx,e⟩:=lY.1 hm;obtain⟨hl,_⟩:=lD.1 (hK x hx);omega)).trans hA
  obtain⟨rw',hb⟩:=hH'.obj _ _ hA';rw[ha _ (show objs.length+i<_ by omega)]at hb;rw[show(startP objs.length f (objs.length+i)).blk=i by unfold startP;rw[if_neg oQ];show objs.length+i - objs.length=i;omega]at hb;rw[hh];exact hfit i _ _ hb
theorem and32{a1 a2 a3 a4 a5 a6 a7 a8 a9 a10 a11 a12 a13 a14 a15 a16 a17 a18 a19 a20 a21 a22 a23 a24 a25 a26 a27 a28 a29 a30 a31 a32:Bool}(h1:a1=tt)(h2:a2=tt)(h3:a3=tt)(h4:a4=tt)(h5:a5=tt)(h6:a6=tt)(h7:a7=tt)(h8:a8=tt)(h9:a9=tt)(h10:a10=tt)(h11:a11=tt)(h12:a12=tt)(h13:a13=tt)(h14:a14=tt)(h15:a15=tt)(h16:a16=tt)(h17:a17=tt)(h18:a18=tt)(h19:a19=tt)(h20:a20=tt)(h21:a21=tt)(h22:a22=tt)(h23:a23=tt)(h24:a24=tt)(h25:a25=tt)(h26:a26=tt)(h27:a27=tt)(h28:a28=tt)(h29:a29=tt)(h30:a30=tt)(h31:a31=tt)(h32:a32=tt):(a1&&a2&&a3&&a4&&a5&&a6&&a7&&a8&&a9&&a10&&a11&&a12&&a13&&a14&&a15&&a16&&a17&&a18&&a19&&a20&&a21&&a22&&a23&&a24&&a25&&a26&&a27&&a28&&a29&&a30&&a31&&a32)=tt:=by
 rw[h1,h2,h3,h4,h5,h6,h7,h8,h9,h10,h11,h12,h13,h14,h15,h16,h17,h18,h19,h20,h21,h22,h23,h24,h25,h26,h27,h28,h29,h30,h31,h32];rfl
theorem kf3:mapsRowed tp=tt:=by kernel_rfl
theorem kf7:(tp.stops==[])=tt:=by kernel_rfl
theorem kf9:(tp.stopKnobs==[])=tt:=by kernel_rfl
theorem kf25:tp.stopsHeard=tt:=by kernel_rfl
theorem kf26:tp.mayEnter=tt:=by kernel_rfl
theorem kf27:(Go.Proofs.YtclnbamaepgfiaaGreatDoor.Rows.seekerRolledRow.lifted==tp.liftsFinal)=tt:=by kernel_rfl
theorem kf28:(tp.make==some Go.Proofs.YtclnbamaepgfiaaGreatDoor.Rows.seekerRolledRow.make)=tt:=by kernel_rfl
theorem kf23:(Go.Proofs.YtclnbamaepgfiaaGreatDoor.Rows.seekerRolledRow.plainKeys==tp.plainKeys)=tt:=by kernel_rfl
theorem own:ownKnob tp.godebug=none:=by kernel_rfl
set_option maxRecDepth 100000 in
theorem zk3(os:Os)(args:Array gV):laidMetH tp tblLaid ((World.doorLaid tp 400 os).forCall (fun _ _=>0) ⟨#[],args,[]⟩).memory :=
 laidMetH_of_parts3 (fuel:=8) (laidMet_nil _ _) (by kernel_rfl) (by kernel_rfl)
theorem zlw{W w:gW}(ho:w.os=W.os)(hu:w.output=W.output)(hk:KeptAll W w)(may:MemPlace->Prop):W.keptBut w may:=by
 refine⟨ho,hu,fun i hi=>?_⟩;rw[hk i hi];cases W.heap[i]? with
 | none=>rfl
 | some o=>cases o <;> simp
theorem znY{W w:gW}(hk:KeptAll W w){p:MemPlace}(hp:p.block<W.heap.size):W.sameAt w p:=by
 have:=hk p.block hp;cases p with
 | cell b o=>exact World.cell?_of_block (w:=W) this
 | map b=>exact this
theorem okAgg{P:gP}{W:gW}{base:Nat}{t:gT}{fs:Array Field}{v:gV}(ht:P.underlying t=some (.struct fs))(h:Value.okWide P W .any base t v):∃ cs,v=.agg cs:=by
 unfold Value.okWide at h;rw[ht]at h;obtain⟨cs,h1,_⟩:=h;exact⟨cs,h1⟩
theorem wE:laidOutB tp=tt:=by kernel_rfl
theorem wI{H:Type}{enc:gT×gV->H}{W w:gW}{t:gT}{v:gV}{d:DataW H}{p:List MemPlace}(hl:laidOutB Tryz.prog=tt)(h:DataW.Trod enc Tryz.prog W 0 (fun _=>tt) tt t v d p)(hk:KeptAll W w)(hr:Tryz.prog.readableRec t=tt:=by kernel_rfl)(hrow:decide (t<Tryz.prog.types.size)=tt:=by kernel_rfl):DataW.Trod enc Tryz.prog w 0 (fun b=>decide (b<W.heap.size)) tt t v d p:=by
 have Qp:∀ x∈p,x.block<W.heap.size:=by obtain⟨n,hn⟩:=h;exact DataW.trod_lt n t _ _ hn
 exact WideElems.Trod_stays hl hr (oT_ hrow) h (fun x hx=>znY hk (Qp x hx)) (fun x hx=>by simpa using Qp x hx)
theorem u8_wf{k:Int}(h:(Lit.int IntKind.u8 k).wf=tt):0<=k/\k<256:=by
 simp only[Lit.wf,mX,dT_]at h;have h1:IntKind.u8.min=0:=by decide
 have h2:IntKind.u8.max=255:=by decide
 omega
theorem znC{H:Type}{enc:gT×gV->H}{W:gW}{sp:Nat->Bool}{held:Bool}{t:gT}{α:Type}{vals:α->List gV}(hdec:∀(m:Nat)(cs:List gV)(x:DataW H×List MemPlace),DataW.trod enc tp W 0 sp held m t cs=some x->∃ z,cs=vals z){v:gV}{d:DataW H}{p:List MemPlace}(hv:∃ cs,v=.agg cs)(h:DataW.Trod enc tp W 0 sp held t v d p):∃ z:α,v=.agg (vals z).toArray:=by
 obtain⟨ca,rfl⟩:=hv;obtain⟨fuel,h⟩:=h;obtain⟨z,hz⟩:=hdec _ _ _ h;have hz:ca.toList=vals z:=hz;exact⟨z,by rw[<- Array.toArray_toList (xs:=ca),hz]⟩
theorem zpt{α:Type}{cf:α->List AV}{vals:α->List gV}{φ:Nat->Loc3}{n:Nat}{z:α}(hl:(cf z).length=(vals z).length)(hr:∀(jj:Nat) a,(cf z)[jj]? =some a->∃ y,(vals z)[jj]? =some y/\RelV φ n a y):RelV φ n (.agg (cf z)) (.agg (vals z).toArray):=by
 refine .agg (by simpa using hl) fun t u y hu hy=>?_;obtain⟨y',h1,h2⟩:=hr t u hu;have h3:(vals z)[t]? =some y:=by simpa using hy
 rw[h1]at h3;cases h3;exact h2
theorem zeA{W:gW}{φ:Nat->Loc3}{n g f1 f2 f3:Nat}{e:gT}(h:∃ cur e fz,W.heap[g]? =some (.cells cur e fz)/\cur[0]? =some (.func (.func f1) #[] #[])/\cur[1]? =some (.func (.func f2) #[] #[])/\cur[2]? =some (.func (.func f3) #[] #[])):RelO φ n ⟨g,0,0⟩ (holdAll W) (.cells [.fn f1 [] [],.fn f2 [] [],.fn f3 [] []] e ff):=by
 intro _;obtain⟨cur,e',fz,hh,h0,h1,h2⟩:=h;refine⟨ff,cur,(e',fz),vC hh,(fun h=>by cases h),fun j a ha=>?_⟩
 match j,ha with
 | 0,ha=>cases ha;exact⟨_,h0,ut⟩
 | 1,ha=>cases ha;exact⟨_,h1,ut⟩
 | 2,ha=>cases ha;exact⟨_,h2,ut⟩
 | j+3,ha=>simp at ha
def saysV(x:Says):List gV:=[.string x.name,.int .i64 x.frm,.int .i64 x.til,.int .i64 x.says,.bool x.glass]
def seenV(x:Seen):List gV:=[.int .i64 x.step,.bool x.seam]
theorem list5{α:Type}{l:List α}(h:l.length=5):∃ a b c d e,l=[a,b,c,d,e]:=by
 match l,h with
 | [a,b,c,d,e],_=>exact⟨a,b,c,d,e,rfl⟩
theorem list2{α:Type}{l:List α}(h:l.length=2):∃ a b,l=[a,b]:=by
 match l,h with
 | [a,b],_=>exact⟨a,b,rfl⟩
theorem list6{α:Type}{l:List α}(h:l.length=6):∃ a b c d e f,l=[a,b,c,d,e,f]:=by
 match l,h with
 | [a,b,c,d,e,f],_=>exact⟨a,b,c,d,e,f,rfl⟩
section
variable {H:Type}{enc:gT×gV->H}{W:gW}{sp:Nat->Bool}{held:Bool}
theorem zk0(m:Nat)(cs:List gV)(x:DataW H×List MemPlace)(h:DataW.trod enc tp W 0 sp held m 78 cs=some x):∃ z,cs=saysV z:=by
 obtain⟨xs,n,rfl,hx,Wb,hxs,hf⟩:=DataW.trod_struct Tryz.underlying78 h;have hlen':cs.length=5:=Wb.trans (by kernel_rfl);have hxs':xs.length=5:=hxs;have c9:tp.cellsOf 9=1:=by kernel_rfl
 have c3:tp.cellsOf 3=1:=by kernel_rfl
 have c56:tp.cellsOf 76=1:=by kernel_rfl
 have c4:tp.cellsOf 4=1:=by kernel_rfl
 obtain⟨v0,v1,v2,v3,v4,rfl⟩:=list5 hlen';obtain⟨y0,q0⟩:=yw hxs' (i:=0) dQ;obtain⟨y1,q1⟩:=yw hxs' (i:=1) dQ;obtain⟨y2,q2⟩:=yw hxs' (i:=2) dQ;obtain⟨y3,q3⟩:=yw hxs' (i:=3) dQ;obtain⟨y4,q4⟩:=yw hxs' (i:=4) dQ;obtain⟨s,e0,_⟩:=DataW.trod_string Tryz.underlying9 (yg (c:=v0) (hf 0 _ rfl) q0 (by show List.take (tp.cellsOf 9) (List.drop 0 _)=_;rw[c9];rfl));obtain⟨a,e1,_⟩:=DataW.trod_int Tryz.underlying3 (yg (c:=v1) (hf 1 _ rfl) q1 (by show List.take (tp.cellsOf 3) (List.drop 1 _)=_;rw[c3];rfl));obtain⟨b,e2,_⟩:=DataW.trod_int Tryz.underlying3 (yg (c:=v2) (hf 2 _ rfl) q2 (by show List.take (tp.cellsOf 3) (List.drop 2 _)=_;rw[c3];rfl));obtain⟨d,e3,_⟩:=DataW.trod_int Tryz.underlying76 (yg (c:=v3) (hf 3 _ rfl) q3 (by show List.take (tp.cellsOf 76) (List.drop 3 _)=_;rw[c56];rfl));obtain⟨g,e4,_⟩:=DataW.trod_bool Tryz.underlying4 (yg (c:=v4) (hf 4 _ rfl) q4 (by show List.take (tp.cellsOf 4) (List.drop 4 _)=_;rw[c4];rfl));cases e0;cases e1;cases e2;cases e3;cases e4;exact⟨⟨s,a,b,d,g⟩,rfl⟩
theorem zk2(m:Nat)(cs:List gV)(x:DataW H×List MemPlace)(h:DataW.trod enc tp W 0 sp held m 105 cs=some x):∃ z,cs=seenV z:=by
 obtain⟨xs,n,rfl,hx,Wb,hxs,hf⟩:=DataW.trod_struct Tryz.underlying105 h;have hlen':cs.length=2:=Wb.trans (by kernel_rfl);have hxs':xs.length=2:=hxs;have c3:tp.cellsOf 3=1:=by kernel_rfl
 have c4:tp.cellsOf 4=1:=by kernel_rfl
 obtain⟨v0,v1,rfl⟩:=list2 hlen';obtain⟨y0,q0⟩:=yw hxs' (i:=0) dQ;obtain⟨y1,q1⟩:=yw hxs' (i:=1) dQ;obtain⟨s,e0,_⟩:=DataW.trod_int Tryz.underlying3 (yg (c:=v0) (hf 0 _ rfl) q0 (by show List.take (tp.cellsOf 3) (List.drop 0 _)=_;rw[c3];rfl));obtain⟨g,e1,_⟩:=DataW.trod_bool Tryz.underlying4 (yg (c:=v1) (hf 1 _ rfl) q1 (by show List.take (tp.cellsOf 4) (List.drop 1 _)=_;rw[c4];rfl));cases e0;cases e1;exact⟨⟨s,g⟩,rfl⟩
theorem zio{v:gV}{d:DataW H}{p:List MemPlace}(hv:∃ cs,v=.agg cs)(h:DataW.Trod enc tp W 0 sp held 27 v d p):∃(b:Bk)(v1 v2:gV),v=.agg #[.int .i64 b.sP,.int .i64 b.wrong,.int .i64 b.low,.int .i64 b.high,v1,v2]/\SlIn W saysV 5 b.kE v1/\SlIn W seenV 2 b.seen v2:=by
 obtain⟨ca,rfl⟩:=hv;obtain⟨fuel,h⟩:=h;generalize hcs:(Value.agg ca).cells.toList=cs at h;obtain⟨xs,n,rfl,hx,Wb,hxs,hf⟩:=DataW.trod_struct Tryz.underlying27 h;have hlen':cs.length=6:=Wb.trans (by kernel_rfl);have hxs':xs.length=5:=hxs;have c3:tp.cellsOf 3=1:=by kernel_rfl
 have c23:tp.cellsOf 23=2:=by kernel_rfl
 have c24:tp.cellsOf 24=1:=by kernel_rfl
 have c25:tp.cellsOf 25=1:=by kernel_rfl
 obtain⟨v0,v1,v2,v3,v4,v5,rfl⟩:=list6 hlen';obtain⟨y0,q0⟩:=yw hxs' (i:=0) dQ;obtain⟨y1,q1⟩:=yw hxs' (i:=1) dQ;obtain⟨y2,q2⟩:=yw hxs' (i:=2) dQ;obtain⟨y3,q3⟩:=yw hxs' (i:=3) dQ;obtain⟨y4,q4⟩:=yw hxs' (i:=4) dQ;obtain⟨a,e0,_⟩:=DataW.trod_int Tryz.underlying3 (yg (c:=v0) (hf 0 _ rfl) q0 (by show List.take (tp.cellsOf 3) (List.drop 0 _)=_;rw[c3];rfl));obtain⟨b,e1,_⟩:=DataW.trod_int Tryz.underlying3 (yg (c:=v1) (hf 1 _ rfl) q1 (by show List.take (tp.cellsOf 3) (List.drop 1 _)=_;rw[c3];rfl));have h2:DataW.trod enc tp W 0 sp held n 23 [v2,v3]=some y2:=by rw[<- q2,<- hf 2 _ rfl];show _=DataW.trod enc tp W 0 sp held n 23 (List.take (tp.cellsOf 23) (List.drop 2 _));rw[c23];rfl
 obtain⟨zs,n2,rfl,hz,_,hzs,hg⟩:=DataW.trod_struct Tryz.underlying23 h2;have hzs':zs.length=2:=hzs;obtain⟨z0,p0⟩:=yw hzs' (i:=0) dQ;obtain⟨z1,p1⟩:=yw hzs' (i:=1) dQ;obtain⟨lo,e2,_⟩:=DataW.trod_int Tryz.underlying3 (yg (c:=v2) (hg 0 _ rfl) p0 (by show List.take (tp.cellsOf 3) (List.drop 0 _)=_;rw[c3];rfl));obtain⟨hi,e3,_⟩:=DataW.trod_int Tryz.underlying3 (yg (c:=v3) (hg 1 _ rfl) p1 (by show List.take (tp.cellsOf 3) (List.drop 1 _)=_;rw[c3];rfl));obtain⟨ss,b4,cap4,e4,l4,r4⟩:=vS (vals:=saysV) (c:=5) Tryz.underlying24 (by kernel_rfl) dQ zk0 (yg (c:=v4) (hf 3 _ rfl) q3 (by show List.take (tp.cellsOf 24) (List.drop 4 _)=_;rw[c24];rfl));obtain⟨ns,b5,cap5,e5,l5,r5⟩:=vS (vals:=seenV) (c:=2) Tryz.underlying25 (by kernel_rfl) dQ zk2 (yg (c:=v5) (hf 4 _ rfl) q4 (by show List.take (tp.cellsOf 25) (List.drop 5 _)=_;rw[c25];rfl));cases e0;cases e1;cases e2;cases e3;cases e4;cases e5;refine⟨⟨a,b,lo,hi,ss,ns⟩,_,_,?_,⟨b4,cap4,rfl,l4,r4⟩,⟨b5,cap5,rfl,l5,r5⟩⟩;have:ca.toList=_:=hcs;rw[<- Array.toArray_toList (xs:=ca),this]
end
theorem zmi{φ:Nat->Loc3}{n:Nat}(z)(jj:Nat)(a:AV)(h:(saysC z)[jj]? =some a):∃ y,(saysV z)[jj]? =some y/\RelV φ n a y:=by
 match jj,h with
 | 0,h=>cases h;exact⟨_,rfl,.v _⟩
 | 1,h=>cases h;exact⟨_,rfl,.v _⟩
 | 2,h=>cases h;exact⟨_,rfl,.v _⟩
 | 3,h=>cases h;exact⟨_,rfl,.v _⟩
 | 4,h=>cases h;exact⟨_,rfl,.v _⟩
 | jj+5,h=>simp[saysC]at h
theorem zmn{φ:Nat->Loc3}{n:Nat}(z)(jj:Nat)(a:AV)(h:(seenC z)[jj]? =some a):∃ y,(seenV z)[jj]? =some y/\RelV φ n a y:=by
 match jj,h with
 | 0,h=>cases h;exact⟨_,rfl,.v _⟩
 | 1,h=>cases h;exact⟨_,rfl,.v _⟩
 | jj+2,h=>simp[seenC]at h
theorem ziW{W:gW}{b:Bk}{x1 x2:gV}{φ:Nat->Loc3}{n s e:Nat}(h1:SlIn W saysV 5 b.kE x1)(h2:SlIn W seenV 2 b.seen x2)(q1:s<n/\φ s=locV x1)(q2:e<n/\φ e=locV x2) :
  RelV φ n (.agg (zA b s e)) (.agg #[.int .i64 b.sP,.int .i64 b.wrong,.int .i64 b.low,.int .i64 b.high,x1,x2]):=by
 refine .agg Z fun t u z hu hz=>?_
 match t,hu,hz with
 | 0,hu,hz=>cases hu;cases hz;exact .v _
 | 1,hu,hz=>cases hu;cases hz;exact .v _
 | 2,hu,hz=>cases hu;cases hz;exact .v _
 | 3,hu,hz=>cases hu;cases hz;exact .v _
 | 4,hu,hz=>cases hu;cases hz;exact zal h1 q1.1 q1.2
 | 5,hu,hz=>cases hu;cases hz;exact zal h2 q2.1 q2.2
 | t+6,hu,hz=>simp[zA]at hu
theorem zgu{H:Type}{enc:gT×gV->H}{C:Checked}{os:Os}{f:FuncId}{fn:Func}{s:ChangeSpec}{conds:List PathCond}{apart:Bool}{X:gW->Array gV->Prop}(w0:gW)(args:Array gV)(fuel:Nat)(hos:w0.os=os)
  (hsh:(w0.forCall (fun _ _=>0) ⟨#[],args,[]⟩).Shaped C.prog)
  (hok:Input.okWideB C.prog (w0.forCall (fun _ _=>0) ⟨#[],args,[]⟩) f ⟨#[],args,[]⟩=tt)
  (hpre:s.preB enc C.prog fn conds apart (w0.forCall (fun _ _=>0) ⟨#[],args,[]⟩).memory args fuel=tt)
  (hsz:s.sizedB enc C.prog fn apart (w0.forCall (fun _ _=>0) ⟨#[],args,[]⟩).memory args fuel=tt)
  (hx:X (w0.forCall (fun _ _=>0) ⟨#[],args,[]⟩).memory args) :
  ∃(w:gW)(tape:Tape)(i:Input),w.os=os/\(w.forCall tape i).Shaped C.prog/\i.vars=[]/\Input.okWide C.prog (w.forCall tape i) .any w.heap.size f i /\
   ((s.pre enc C.prog fn conds apart (w.forCall tape i).memory i.args/\X (w.forCall tape i).memory i.args)/\sizedMet enc C.prog fn (OpenSpec.ofChange s) apart (w.forCall tape i).memory i.args)/\({ calm:=tt }:Assume).holds C.prog (lone (Frame.enter C.prog f i.args .normal) [] (w.forCall tape i)) :=
 ⟨w0,fun _ _=>0,⟨#[],args,[]⟩,hos,hsh,(Input.okWide_of_okWideB (base:=0) hok).1,(Input.okWide_of_okWideB hok).2,⟨⟨ChangeSpec.pre_of_preB hpre,hx⟩,sizedMet_of_sizedB hsz⟩,by
  simp only[Assume.holds];exact⟨by simp,fun _ _ _ _=>rfl,by simp,by simp,by simp⟩⟩
theorem zmE(Lk:Looks){p:Pinned}{s:OpenSpec}{c:OpenClaim}(kinds:List LaidKind)(tests:Bool)(har:Bool×String)(lk:Bool)
  (hc:c.holds p s) (hw:c.wfByText s=tt)
  (htie:c.laidByTextAt Lk p kinds tests)
  (hst:c.start=.entering) (hnb:c.noBlocks=ff/\c.again=ff) (hm:p.checked.prog.mainIs=some (har.1,har.2.toList)) (hn:(!har.1&&har.2.isEmpty && !lk)=ff)
  (hl:∀ f fn,p.checked.prog.funcNamed c.func=some f->p.checked.prog.funcs[f]? =some fn->lk=p.checked.prog.looks []/\∀(j:Nat) t,fn.params[j]? =some t->p.checked.prog.wantsStandIn t=ff)
  (hg:tt=c.goesBy p.checked.prog) :
  Claim7.holds p (.plain s) { stood:={ row:=c,standIns:=[],harness:=har,looks:=lk },kinds:=[],alts:=[],goes:=tt,laidByText:=tt,laidKinds:=kinds,laidTests:=tests,laidLooks:=Lk }:=by
 have h6:∀ r:OpenClaim,Claim7.isSixth { stood:={ row:=r,standIns:=[],harness:=har,looks:=lk },kinds:=[] }=ff:=fun r=>by simpa[Claim7.isSixth]using hn
 exact⟨Claim7.tied_new_at Lk kinds tests (Claim7.new_of_sixth hc har lk hst hnb hm (h6 c) hl) hw,(fun D hD=>by cases hD),htie,(fun h=>by cases h),hg⟩
end Go.Vel
namespace Go.Vel
open Go Go.Conc
section
variable {P:gP}{gm:Nat->Option Nat}{V:KV}{Wq:List AV}{o:Oper}{r:AV}
theorem zig{t e:gT}{ti:TypeInfo}{z:gV}{x y:gO}{n:Nat}(ho:o.op=.makeSlice t x y)(hx:zn gm Wq x=some (.v (.int .i64 n)))(hy:zn gm Wq y=some (.v (.int .i64 n)))(ht:P.underlying t=some (.slice e))(hi:P.info? e=some ti)(hz:ti.zero=some z)(hzc:z.cells=#[.int .i64 0])(hs:ti.size=1)(hb:ti.bytes=8)(h0:0<n)(hn:n<=1000) :
  Nk P gm Wq V o (fun j=>.sl j 0 n) (.cells (mB n (.v (.int .i64 0))) e tt):=fun A _ φ F H a hg hH hE=>by
 unfold execOp;rw[ho];dsimp only;have hx':=zy hg hE x;rw[zq hx]at hx';have hy':=zy hg hE y;rw[zq hy]at hy';rw[inv_v hx',inv_v hy'];refine wpS_v ?_;unfold Instr.makeSlice;refine zf _ _ _ (zB ht ?_);dsimp only;refine zf _ _ _ ?_
 change wpS P (pure (n:Int)) H _
 rw[kN];refine zf _ _ _ ?_
 change wpS P (pure (n:Int)) H _
 rw[kN];refine zf _ _ _ (kO hi ?_);have hw:IntKind.i64.wrap (n:Int)=n:=kg oQ;rw[hw,hb];have hf:((decide ((n:Int)<0)||decide (((8:Nat):Int)*(n:Int)>2 ^ 48))||decide ((n:Int)<0)||decide ((n:Int)>(n:Int)))=ff:=by
  have h1:decide ((n:Int)<0)=ff:=decide_eq_false oQ;have h2:decide (((8:Nat):Int)*(n:Int)>2 ^ 48)=ff:=decide_eq_false oQ;have h3:decide ((n:Int)>(n:Int))=ff:=decide_eq_false oQ;rw[h1,h2,h3];rfl
 rw[if_neg (by rw[hf];decide)];have hroom:∀(b:Nat)(Q:Unit->Hp->Prop),Q () H->wpS P (askRoom b) H Q:=fun b Q hq=>by
  unfold askRoom;split
  ·exact⟨.inl rfl,hq⟩
  ·exact hq
 refine zf _ _ _ (hroom _ _ ?_);refine zf _ _ _ (yy hi ?_);rw[hs,mZ,Nat.mul_one,if_neg oQ];refine zf _ _ _ (kD hi hz ?_);unfold newRow;refine zf _ _ _ ?_;rw[kN];refine zf _ _ _ ?_;refine zf _ _ _ fun b hb=>?_;have hz1:∀ i:Nat,z.cells[i % z.cells.size]! =.int .i64 0:=fun i=>by
  rw[hzc];show(#[Value.int IntKind.i64 0])[i % 1]! =_;rw[Nat.mod_one];rfl
 show z7 φ A F (.sl A.length 0 n) (A++[.cells (mB n (.v (.int .i64 0))) e tt]) (.value (.slice (some ⟨b,0,none⟩) n n)) (H.put b (tt,.cells _ e (0,0)));refine⟨_,yc φ A.length ⟨b,0,0⟩,.inl rfl,yn _ _ _,by simp,hH.push hb Z ?_,?_⟩
 ·refine fun _=>⟨tt,_,_,Hp.put_same _ _ _,fun _=>⟨⟨rfl,rfl⟩,by simp[yc],by simp⟩,fun j u hu=>?_⟩;obtain⟨hj,rfl⟩:=lD.1 hu;rw[List.getElem_replicate];rw[List.length_replicate]at hj;refine⟨.int .i64 0,?_,.v _⟩;rw[Nat.zero_add,Array.getElem?_map,Array.getElem?_range,if_pos hj,Option.map_some,hz1]
 ·refine .sl sQ (mL _) fun _=>?_;simp[yc]
theorem zhn{t e:gT}{x y:gO}{n:Nat}(ho:o.op=.makeSlice t x y)(hx:zn gm Wq x=some (.v (.int .i64 n)))(hy:zn gm Wq y=some (.v (.int .i64 n)))(ha:apOf P t=some (e,1,8))(hz:tyZero P e=some [.int .i64 0])(h0:0<n)(hn:n<=1000) :
  Nk P gm Wq V o (fun j=>.sl j 0 n) (.cells ((mB n (0:Int)).map fun a=>.v (.int .i64 a)) e tt):=by
 rw[List.map_replicate];unfold apOf at ha;split at ha
 ·rename_i e' h1;split at ha
  ·rename_i ti h2;split at ha
   ·rename_i z h3;split at ha
    ·rename_i h4;simp only[Option.some.injEq,Prod.mk.injEq]at ha;obtain⟨rfl,h5,h6⟩:=ha;obtain⟨i,z',g1,g2,g3⟩:=wS hz;rw[h2]at g1;cases g1;rw[h3]at g2;cases g2;exact zig ho hx hy h1 h2 h3 (by rw[<- Array.toList_inj,g3]) h5 h6 h0 hn
    ·cases ha
   ·cases ha
  ·cases ha
 ·cases ha
variable {T:gG->Hp->Prop}{Y:KX P gm T}{ds:List Nat}{k:List Item}{K K':KV}{Qy:Array Oper}{L:List Nat}{Wy:List Pd}
theorem TD.perm(hp:K.Perm K')(h:TD Y ds Qy k Wy L Wq K'):TD Y ds Qy k Wy L Wq K:=fun h1 h2 h3 A hA=>h h1 h2 (fun p hp' x hx=>hp.subset (h3 p hp' x hx)) A
 ⟨hA.view.sub fun x hx=>hp.symm.subset hx,(zW hp).nodup_iff.1 hA.nd,fun i hi=>hA.own i ((zW hp).symm.subset hi),hA.kept,hA.len⟩
end
theorem zgf(xs:List AV)(k:Nat)(v:AV)(h:k<xs.length):setL xs k [v]=xs.set k v:=rfl
theorem zaj{xs:List Int}{k:Nat}{n v:Int}{e:gT}(h:k<xs.length)(hn:n=(k:Int)):putO (.cells (xs.map za) e tt) (0+n.toNat*1) [za v]=some (.cells ((xs.set k v).map za) e tt):=by
 subst hn;unfold putO;dsimp only;rw[if_pos ⟨by simp;omega,by simp,rfl⟩,zgf _ _ _ (by simp;omega),List.map_set];simp
def dataM(S T:List Int)(x:Int)(j:Nat):List Int:=S.take j++x::(S.drop j++T)
theorem zg6{S T:List Int}{x:Int}{j:Nat}(h:j<=S.length):(dataM S T x j)[j]? =some x:=by
 unfold dataM;rw[lO (by simp;omega)];simp[Nat.min_eq_left h]
theorem zdV{S T:List Int}{x:Int}{j:Nat}(h:j+1<=S.length):(dataM S T x (j+1))[j]? =S[j]? :=by
 unfold dataM;rw[lG (by simp;omega),List.getElem?_take,if_pos oQ]
theorem zkX{S T:List Int}{x:Int}{j:Nat}:(dataM S T x j).length=S.length+T.length+1:=by
 unfold dataM;simp;omega
theorem zi7{S T:List Int}{x y:Int}{j:Nat}(h:S[j]? =some y):((dataM S T x (j+1)).set (j+1) y).set j x=dataM S T x j:=by
 obtain⟨h1,rfl⟩:=lD.1 h;unfold dataM;have e1:S.take (j+1)=S.take j++[S[j]]:=by rw[List.take_add_one,h];rfl
 have e2:S.drop j=S[j]::S.drop (j+1):=List.drop_eq_getElem_cons h1;have l1:(S.take j).length=j:=by simp;omega
 rw[e1,e2];have:(S.take j++[S[j]]++x::(S.drop (j+1)++T)).set (j+1) S[j]=S.take j++S[j]::S[j]::(S.drop (j+1)++T):=by
  rw[List.append_assoc,List.set_append_right _ _ oQ,l1];simp
 rw[this,List.set_append_right _ _ oQ,l1,Nat.sub_self];rfl
theorem zkY(S T:List Int)(x:Int):dataM S T x S.length=S++x::T:=by
 unfold dataM;simp
theorem zd7{lt:Int->Int->Bool}{x:Int}{S T:List Int}{j:Nat}(h:j<=S.length)(hj:∀ i y,j=i+1->S[i]? =some y->lt x y=ff):dataM S T x j=insJ lt x S j++T:=by
 unfold dataM;cases j with
 | zero=>simp[insJ]
 | succ i =>
  have hi:i<S.length:=by omega
  have e:S[i]? =some S[i]:=lA hi;unfold insJ;rw[e];dsimp only;rw[if_neg (by rw[hj i _ rfl e];decide)];simp
theorem zng{lt:Int->Int->Bool}{x y:Int}{S:List Int}{j:Nat}(h:S[j]? =some y)(hl:lt x y=tt):insJ lt x S (j+1)=insJ lt x S j:=by
 conv=>lhs;unfold insJ
 rw[h];dsimp only;rw[if_pos hl]
theorem zaQ{lt:Int->Int->Bool}{l:List Int}{i:Nat}{x:Int}(h:l[i]? =some x):sortN lt l (i+1)=insJ lt x (sortN lt l i) (sortN lt l i).length:=by
 conv=>lhs;unfold sortN
 rw[h];rfl
theorem zfD{lt:Int->Int->Bool}{x:Int}{S:List Int}:∀ j,j<=S.length->∀ z,z∈insJ lt x S j↔z=x\/z∈S
 | 0,_,z=>by simp[insJ]
 | j+1,h,z=>by
  have e:S[j]? =some S[j]:=lA oQ;unfold insJ;rw[e];dsimp only;split
  ·exact zfD j oQ z
  ·rw[lT,List.mem_cons];have:z∈S↔z∈S.take (j+1)\/z∈S.drop (j+1):=by rw[<- lT,List.take_append_drop]
   rw[this]
   grind
theorem zbq{lt:Int->Int->Bool}{l:List Int}:∀ i,i<=l.length->∀ z∈sortN lt l i,z∈l
 | 0,_,z,hz=>by simp[sortN]at hz
 | i+1,h,z,hz=>by
  have e:l[i]? =some l[i]:=lA oQ;rw[zaQ e,zfD _ (mL _)]at hz;rcases hz with rfl|hz
  ·exact List.getElem_mem _
  ·exact zbq i oQ z hz
theorem zne{n i:Nat}(h:i<n):(idxM i++mB (n - i) 0).set i (i:Int)=idxM (i+1)++mB (n - (i+1)) 0:=by
 have l1:(idxM i).length=i:=by simp[idxM]
 rw[List.set_append_right _ _ oQ,l1,Nat.sub_self,show n - i=(n - (i+1))+1 by omega,List.replicate_succ,List.set_cons_zero];unfold idxM;rw[List.range_succ,List.map_append,List.append_assoc];rfl
theorem zdu{n:Nat}{z:Int}(h:z∈idxM n):0<=z/\z<n:=by
 unfold idxM at h;obtain⟨k,hk,rfl⟩:=lY.1 h;rw[List.mem_range]at hk;omega
theorem znE{b:RBk}{l:List Int}{z:Int}(h:z∈ordM b l):0<=z/\z<l.length:=zdu (zbq _ (mL _) z h)
theorem znD(b:RBk)(l:List Int):(ordM b l).length=l.length:=by
 unfold ordM sortR;rw[zbp _ _ (mL _)];simp[idxM]
theorem zct{b:RBk}(hb:ROk b){l:List Int}(hl:CutsOk b l):∀ i,i<=l.length->0<=spoilM b l i/\spoilM b l i<=9*i
 | 0,_=>by simp[spoilM]
 | i+1,h=>by
  have h1:=zct hb hl i oQ;have h2:=hb.sms.fld _ (hl.lt (k:=i) oQ).2.2;unfold spoilM cutS;omega
end Go.Vel
namespace Go.Vel
open Go Go.Conc Go.Proofs
instance:ApOf tp 275 274 2 16:={}
instance:BlOf tp 274 [(0,1),(1,1)]:={}
instance:EqG tp 274:={}
instance:FlatF tp 274 [(3,0),(3,1)]:={}
instance:zm tp 183 4 4 ff 1:={}
instance:zm tp 274 0 0 ff 1:={}
instance:zm tp 274 1 1 ff 1:={}
instance:zp tp 218 3 1:={}
instance:zp tp 275 274 2:={}
instance:ze tp 274 tt 2:={}
instance:TyZ tp 274 [.int .i64 0,.int .i64 0]:={}
instance:TyZA tp 274 [.v (.int .i64 0),.v (.int .i64 0)]:={}
instance:Und tp 218 (.slice 3):={}
instance:Und tp 275 (.slice 274):={}
theorem zkD{main T}(hT:zo tp main T){gm}{b:RBk}{s h e j:Nat}{l:List Int}{et:gT}(hb:ROk b)(hl:CutsOk b l) :
  zl tp T gm 196 [.agg (zP b s h e),.sl j 0 l.length] [(s,zt b),(j,.cells (l.map za) et ff)] (fun r K'=>∃ jr,r=.row jr l.length/\K'=[(jr,.row ((stripsM b l).flatMap pairC) 274 2),(s,zt b),(j,.cells (l.map za) et ff)]):=by
 refine zh 61 hT Tryz.func196 fun Y Wz=>?_;refine au 0 ?_;have hp0:=hl.pos;have hs5:=hb.sms.len;have hst:=hb.rnd.sP;have hl5:=hl.len;have q0:=hl.lt hl.pos;have f0:=hb.sms.fld _ q0.2.2;refine au 21042 ?_;intro jb hjb;refine au 54235 ?_;refine TK.virt 5 274 2 Z fun jr0 hjr0=>?_;refine au 1303128014223 ?_;refine bA [1,2,5,9,10,11] ?_;refine bE (fun n Wq K=>∃(i jr:Nat),n=l.length - i/\i<=l.length/\Wq=.any::.sl j 0 l.length::.ptr jb 0::naL 2 (.row jr i::naL 3 (.sl j 0 l.length::za l.length::za i::naL 49 []))/\K=[(jr,.row (((List.range i).map (stripM b l)).flatMap pairC) 274 2),(jb,.cells (zP b s h e) 81 tt),(s,zt b),(j,.cells (l.map za) et ff)]) l.length ⟨0,jr0,rfl,mN _,rfl,rfl⟩ fun n Wq K hI Wj=>?_;obtain⟨i,jr,rfl,hi,rfl,rfl⟩:=hI;have hpl:=zl4 b l i;refine bG nQ ?_;refine au 923742 ?_;apply aI<;>intro Jz
 ·have Qb:i<l.length:=by simp at Jz;omega
  have qi:=hl.lt Qb;have fi:=hb.sms.fld _ qi.2.2;refine au 3601421302120 ?_;refine bH Z (zg Z Z ze.h mQ (y8 (i:=i) (yx Qb) Z)) ?_;refine au 2355 ?_;refine bL [0,1,2,3,4,5,6,7,8,9,10,11,12,13] ?_;refine ad [[3,2],[3,16],[10,17],[1,1],[2,19]] ?_;refine bT [20] Z (hq:=zg Z Z ze.h (mC _) (y8 (i:=0) (yx hl.pos) Z)) (h:=?_);refine ad [[2,18,21],[3,22]] ?_;refine bT [23] Z (hq:=zg Z Z ze.h (mC _) (yB (c:=0) (sm_at b (i:=(cutN l 0).toNat) q0.2.2 oQ) dQ Z)) (h:=?_);refine ad [[3,2],[3,25],[10,26],[8,24,27],[13,28],[14]] ?_;refine au 93728012301422 ?_;apply aI<;>intro Jx
  ·have Qp:i+1<l.length:=by simp at Jx;omega
   have qn:=hl.lt Qp;have fn:=hb.sms.fld _ qn.2.2;refine bL [0,1,2,3,4,5,6,7,8,9,10,11] ?_;refine ad [[3,2],[3,34],[10,35],[1,1],[1,6],[8,38],[2,37,39]] ?_;refine bT [40] Z (hq:=zg Z Z ze.h (mC _) (y8 (i:=i+1) (yx Qp) Z)) (h:=?_);refine ad [[2,36,41],[3,42]] ?_;refine bT [43] Z (hq:=zg Z Z ze.h (mC _) (yB (c:=0) (sm_at b (i:=(cutN l (i+1)).toNat) qn.2.2 oQ) dQ Z)) (h:=?_);refine ad [[13,44],[14]] ?_;refine au 67036016906706701114 ?_;refine bH Z (zg Z Z ze.h mQ (yB (c:=0) (sm_at b (i:=(cutN l i).toNat) qi.2.2 oQ) dQ Z)) ?_;refine au 390240 ?_;refine TK.newR Z Z Z (zH (l:=[_,_]) Z zp.h TyZ.h dQ dQ Z) (fun _=>zD rfl tQ) fun j1 hj1=>?_;refine TK.appR Z Z Z (a_app Z ApOf.h Z mQ oQ Z (yO (ln:=[_,_]) mQ dQ sQ Z) oQ Z (by unfold maxLen;omega) oQ) (fun _=>uQ) (fun _=>zD rfl tQ) fun jr2=>?_;refine au 31230414035 ?_;refine bA [1,2,5,9,10,11] ?_;refine bC [(jr2,_),(jb,_),(s,_),(j,_)] ?_;exact Wj _ _ _ oQ ⟨i+1,jr2,rfl,oQ,rfl,by rw[zel];simp only[stripM,endM,if_pos Qp];rfl⟩
  have Qp:¬ i+1<l.length:=by simp at Jx;omega
  refine au 67036016906706701114120 ?_;refine bH Z (zg Z Z ze.h mQ (yB (c:=0) (sm_at b (i:=(cutN l i).toNat) qi.2.2 oQ) dQ Z)) ?_;refine au 390240 ?_;refine TK.newR Z Z Z (zH (l:=[_,_]) Z zp.h TyZ.h dQ dQ Z) (fun _=>zD rfl tQ) fun j2 hj2=>?_;refine TK.appR Z Z Z (a_app Z ApOf.h Z mQ oQ Z (yO (ln:=[_,_]) mQ dQ sQ Z) oQ Z (by unfold maxLen;omega) oQ) (fun _=>uQ) (fun _=>zD rfl tQ) fun jr2=>?_;refine au 31230414035 ?_;refine bA [1,2,5,9,10,11] ?_;refine bC [(jr2,_),(jb,_),(s,_),(j,_)] ?_;exact Wj _ _ _ oQ ⟨i+1,jr2,rfl,oQ,rfl,by rw[zel];simp only[stripM,endM,if_neg Qp];rfl⟩
 obtain rfl:i=l.length:=by simp at Jz;omega
 refine au 35142160 ?_;refine bB Wz [(jr,_),(s,_),(j,_)] ?_;exact⟨jr,rfl,rfl⟩
theorem zm5{main T}(hT:zo tp main T){gm}{b:RBk}{s h e j:Nat}{l:List Int}{et:gT}(hb:ROk b)(hl:CutsOk b l) :
  zl tp T gm 182 [.agg (zP b s h e),.sl j 0 l.length] [(s,zt b),(j,.cells (l.map za) et ff)] (fun r K'=>r=zr (fitsM b l)/\K'=[(s,zt b),(j,.cells (l.map za) et ff)]):=by
 refine zh 60 hT Tryz.func182 fun Y Wz=>?_;refine au 0 ?_;have hp0:=hl.pos;have hs5:=hb.sms.len;have hst:=hb.rnd.sP;have hl5:=hl.len;have q0:=hl.lt hl.pos;have f0:=hb.sms.fld _ q0.2.2;refine au 21042 ?_;intro jb hjb;refine au 937690670670280142235 ?_;apply aI<;>intro Jz
 ·refine au 3542 ?_;refine bB Wz [(s,_),(j,_)] ?_;exact⟨by rw[show fitsM b l=ff by unfold fitsM;rw[show decide ((l.length:Int)<=b.rolls)=ff by simp at Jz;simp;omega];rfl],rfl⟩
 refine au 2120 ?_;refine bL [0,1,2,3,4,5,6,7,8] ?_;refine ad [[1,1],[2,14]] ?_;refine bT [15] Z (hq:=zg Z Z ze.h (mC _) (y8 (i:=0) (yx hl.pos) Z)) (h:=?_);refine ad [[3,2],[3,17],[10,18]] ?_;refine bU [16,19] Z (kh (l:=[_,_]) Z TyZ.h BlOf.h Z) ?_;refine TD.cnewP (Wx:=[_,_,_,_,_,_,_]) [] Z Z Z Z Z (yA Z TyZA.h) (fun _=>zD rfl tQ) sQ fun j5 hj5=>?_;refine bR (Wx:=[]) [5,20] Z Z (zz Z Z ze.h Z Z mQ Z) ?_;refine ad [[14]] ?_;refine au 1680422 ?_;refine bD Z Z Z Z (zkD hT hb hl) ?_;rintro r1 K2 ⟨jr,rfl,rfl⟩;refine au 13031280 ?_;refine bA [2,4,5,23,24,25] ?_;refine bE (fun n Wq K=>∃(i:Nat),n=l.length - i/\i<=l.length/\((List.range i).all fun k => !(cutS b l k).whole&&decide ((stripM b l k).2<=b.roll))=tt/\Wq=naL 2 (.ptr jb 0::.any::zr ff::.ptr j5 0::naL 17 (.row jr l.length::za l.length::za i::naL 34 []))/\K=[(jr,.row ((stripsM b l).flatMap pairC) 274 2),(s,zt b),(j,.cells (l.map za) et ff),(j5,.cells [za (cutN l 0),za b.sP] 274 tt),(jb,.cells (zP b s h e) 81 tt)]) l.length ⟨0,rfl,mN _,rfl,rfl,rfl⟩ fun n Wq K hI Wj=>?_;obtain⟨i,rfl,hi,hall,rfl,rfl⟩:=hI;refine bG nQ ?_;refine au 923742 ?_;apply aI<;>intro Jx
 ·have Qb:i<l.length:=by simp at Jx;omega
  have qi:=hl.lt Qb;have hsi:(stripM b l i).1=cutN l i:=rfl;have fi:=hb.sms.fld _ qi.2.2;refine au 370421302120 ?_;refine bH Z (zK Z Z ze.h mQ (zhx (c:=2) (f:=pairC) (fun _=>rfl) (zkC Qb) rfl dQ)) ?_;refine au 220 ?_;intro j7 hj7;refine au 670360690670690670670423170 ?_;refine bH Z (zg Z Z ze.h mQ (yB (c:=4) (sm_at b (i:=(cutN l i).toNat) qi.2.2 oQ) dQ Z)) ?_;refine au 1 ?_;refine bF 37 (fun g7_9=>?_) (fun g7_9=>?_)
  ·refine au 354218032608888881260888888888888 ?_;refine bB Wz [(s,_),(j,_)] ?_;exact⟨by rw[zcM Qb (.inl g7_9)],rfl⟩
  have g7_9:(cutS b l i).whole=ff:=g7_9;refine au 680680 ?_;refine bH Z (zl9 Z Z Z Z Z FlatF.h EqG.h) ?_;refine au 1 ?_;refine bF 41 (fun g7_13=>?_) (fun g7_13=>?_)
  ·refine au 12502607690670670690670670 ?_;refine bF 51 (fun g7_23=>?_) (fun g7_23=>?_)
   ·refine au 35421803260888888 ?_;refine bB Wz [(s,_),(j,_)] ?_;exact⟨by rw[zcM Qb (.inr (by simp[stripM]at g7_13 g7_23;show b.roll<_;simp only[stripM];omega))],rfl⟩
   refine au 932507690670670690670 ?_;apply aI<;>intro hc2
   ·refine au 3542 ?_;refine bB Wz [(s,_),(j,_)] ?_;exact⟨by rw[zcM Qb (.inr (oT_ hc2))],rfl⟩
   refine au 312304140120 ?_;refine bA [2,4,5,23,24,25] ?_;refine bC [(jr,_),(s,_),(j,_),(j5,_),(jb,_)] ?_;exact Wj _ _ _ oQ ⟨i+1,rfl,oQ,by rw[List.range_succ,List.all_append,hall];simp[g7_9,show(stripM b l i).2<=b.roll from Int.not_lt.1 (oF_ hc2)],rfl,rfl⟩
  refine au 93250769067067069067012502508888888 ?_;apply aI<;>intro hc2
  ·refine au 3542 ?_;refine bB Wz [(s,_),(j,_)] ?_;exact⟨by rw[zcM Qb (.inr (oT_ hc2))],rfl⟩
  refine au 312304140120 ?_;refine bA [2,4,5,23,24,25] ?_;refine bC [(jr,_),(s,_),(j,_),(j5,_),(jb,_)] ?_;exact Wj _ _ _ oQ ⟨i+1,rfl,oQ,by rw[List.range_succ,List.all_append,hall];simp[g7_9,show(stripM b l i).2<=b.roll from Int.not_lt.1 (oF_ hc2)],rfl,rfl⟩
 obtain rfl:i=l.length:=by simp at Jx;omega
 refine au 3542160 ?_;refine bB Wz [(s,_),(j,_)] ?_;exact⟨by rw[show fitsM b l=tt by unfold fitsM;rw[hall,show decide ((l.length:Int)<=b.rolls)=tt by simp at Jz;simp;omega];rfl],rfl⟩
theorem zkL{n:Nat}(h:n<256):IntKind.u64.wrap (n:Int)=n:=by
 have:∀ n:Nat,n<256->IntKind.u64.wrap (n:Int)=n:=by decide +kernel
 exact this n h
theorem zcz{n:Nat}(h:n<256):IntKind.u8.wrap (n:Int)=n:=by
 have:∀ n:Nat,n<256->IntKind.u8.wrap (n:Int)=n:=by decide +kernel
 exact this n h
theorem zeW{s:ByteArray}{n:Nat}(hn:n<256)(h:s.size=256):s[n]? =some (s[n]'oQ):=getElem?_pos s n oQ
theorem zbv(c:UInt8):IntKind.i64.wrap (c.toNat:Int)=c.toNat:=kg (by have:=c.toNat_lt;omega)
theorem ze0(c:UInt8) : -9223372036854775808<=0+(c.toNat:Int)/\0+(c.toNat:Int)<9223372036854775808:=by have:=c.toNat_lt;omega
theorem zmv{lt:Int->Int->Bool}{xs:List Int}(h:1<=xs.length):sortN lt xs 1++xs.drop 1=xs:=by
 cases xs with
 | nil=>simp at h
 | cons x r=>rfl
instance:ze tp 218 ff 1:={}
instance:Und tp 197 (.int .u64):={}
instance:Und tp 5 (.int .u8):={}
instance:Und tp 9 .string:={}
theorem zlx{main T}(hT:zo tp main T){gm}{n:Nat}(hn:n<256) :
  zl tp T gm 158 [.v (.int .u64 n)] [] (fun r K'=>∃ m:Int,r=za m/\K'=[]):=by
 refine zh 25 hT Tryz.func158 fun Y Wz=>?_;refine au 93714223542 ?_;apply aI<;>intro Jz
 ·simp at Jz;omega
 refine au 9371422120 ?_;apply aI<;>intro Jx
 ·simp at Jx;omega
 refine au 9371422120 ?_;apply aI<;>intro hc2
 ·simp at hc2;omega
 refine au 1142120 ?_;refine bH Z (yr Z Z Und.h Und.h (zcz hn)) ?_;refine bH Z (vp Z Z Z Und.h oQ (zeW hn Z)) ?_;refine bH Z (yr Z Z Und.h Und.h (zbv _)) ?_;refine bH Z (q_add Z Z Z (ze0 _)) ?_;refine au 35 ?_;refine TK.rta Wz ?_;exact⟨_,rfl,rfl⟩
theorem zhR{main T}(hT:zo tp main T){gm}{n:Nat}(hn:n<256) :
  zl tp T gm 113 [.v (.int .u64 n)] [] (fun r K'=>∃ m:Int,r=za m/\K'=[]):=by
 refine zh 8 hT Tryz.func113 fun Y Wz=>?_;refine au 14212019023542 ?_;refine bD Z Z Z Z (zlx hT hn) ?_;rintro r1 K2 ⟨m,rfl,rfl⟩;refine au 35 ?_;refine TK.rta Wz ?_;exact⟨_,rfl,rfl⟩
theorem zia{main T}(hT:zo tp main T){gm}{j n:Nat}{xs:List Int}{et:gT}{f:AV}{Kc:KV}{lt:Int->Int->Bool}(hn:xs.length=n)(h12:1<=n/\n<=12)(hg:∀ x∈xs,∀ y∈xs,CallFK tp T gm f [za x,za y] Kc (fun r K'=>(∃ c:Int,r=za c/\decide (c<0)=lt x y)/\K'=Kc)) :
  zl tp T gm 198 [.sl j 0 n,za 0,za n,f] ((j,.cells (xs.map za) et tt)::Kc) (fun r K'=>K'=(j,.cells ((sortR lt xs).map za) et tt)::Kc):=by
 refine zh 53 hT Tryz.func198 fun Y Wz=>?_;refine au 13035230142 ?_;refine bA [0,1,2,3,8] ?_;refine bE (fun n1 Wq K=>∃(i:Nat),n1=n - i/\1<=i/\i<=n/\Wq=.sl j 0 n::za 0::za n::f::naL 4 (za i::naL 44 [])/\K=(j,.cells ((sortN lt xs i++xs.drop i).map za) et tt)::Kc) (n - 1) ⟨1,rfl,mL _,h12.1,rfl,by rw[zmv oQ]⟩ fun n1 Wq K hI Wj=>?_;obtain⟨i,rfl,hi1,hi,rfl,rfl⟩:=hI;refine bG nQ ?_;refine au 93711422 ?_;apply aI<;>intro Jz
 ·have Qb:i<n:=by simp at Jz;omega
  obtain⟨x,hx⟩:∃ x,xs[i]? =some x:=⟨_,lA oQ⟩;have hSl:=zbp (lt:=lt) xs i oQ;have hTl:(xs.drop (i+1)).length=n - (i+1):=by simp;omega
  have hxm:=lN hx;refine au 130351421302120 ?_;refine bA [0,1,2,3,8,9] ?_;refine bE (fun n1 Wq K=>∃(p:Nat),n1=p/\p<=i/\insJ lt x (sortN lt xs i) p=insJ lt x (sortN lt xs i) (sortN lt xs i).length/\Wq=.sl j 0 n::za 0::za n::f::naL 4 (za i::za p::naL 43 [])/\K=(j,.cells ((dataM (sortN lt xs i) (xs.drop (i+1)) x p).map za) et tt)::Kc) i ⟨i,rfl,mL _,by rw[hSl],rfl,by have:=zkY (sortN lt xs i) (xs.drop (i+1)) x;rw[hSl]at this;rw[this,<- zY hx]⟩ fun n1 Wq K hI Ww=>?_;obtain⟨p,hnp,hp,hins,rfl,rfl⟩:=hI;subst n1;have hdl:=zkX (S:=sortN lt xs i) (T:=xs.drop (i+1)) (x:=x) (j:=p);refine bG nQ ?_;refine au 22 ?_;refine bL [0,1,2,3,4,5,6,7,8,9,10,11,12,13,14,15,16] ?_;refine ad [[1,9],[1,1],[4,18,19],[1,20]] ?_;refine TD.sp 21 (fun g4_4=>?_) (fun g4_4=>?_)
  ·have hp0:0<p:=by simp at g4_4;omega
   obtain⟨q,rfl⟩:∃ q,p=q+1:=⟨p - 1,oQ⟩;obtain⟨y,hy⟩:∃ y,(sortN lt xs i)[q]? =some y:=⟨_,lA oQ⟩;have hym:=zbq i oQ y (lN hy);refine ad [[1,3,21],[1,0,21],[1,9,21],[2,21,23,24]] ?_;refine bT [21,25] Z (hq:=zg Z Z ze.h (mC _) (y8 (i:=q+1) (zg6 oQ) Z)) (h:=?_);refine ad [[1,0,21],[1,9,21],[9,21,28],[2,21,27,29]] ?_;refine bT [21,30] Z (hq:=zg Z Z ze.h (mC _) (y8 (i:=q) ((zdV oQ).trans hy) oQ)) (h:=?_);refine TD.callF' (Wx:=[_,_,_,_,_,_,_,_,_,_]) [21,22,26,31] Z Z Z Z Z Z Z (hg x hxm y hym) (.right (.all _)) fun r1 K2 h3=>⟨?_,?_⟩
   ·rcases h3 with⟨⟨c,rfl,hlc⟩,hK⟩
    all_goals (rw[hK];simp)
   obtain⟨⟨c,rfl,hlc⟩,hK⟩:=h3;try simp only[cA]
   refine bS (zD Z tQ) ?_;rw[hK];refine TD.perm (K':=(j,_)::Kc) (List.perm_append_singleton _ _) ?_;refine ad [[4,21,32],[7,21,33],[14]] ?_;refine au 9 ?_;apply aI<;>intro Jx
   ·have Qp:lt x y=tt:=by rw[<- hlc];exact Jx
    have hsw:=zi7 (T:=xs.drop (i+1)) (x:=x) hy;refine au 1302120 ?_;refine bL [0,1,5,6,7,8,9,10,11,12,13,14,15,2,3,4,16,17] ?_;refine ad [[1,0],[1,9],[1,0],[1,9],[9,40],[1,0],[1,9],[9,43],[2,42,44]] ?_;refine bT [45] Z (hq:=zg Z Z ze.h (mC _) (y8 (i:=q) ((zdV oQ).trans hy) oQ)) (h:=?_);refine ad [[1,0],[1,9],[2,47,48]] ?_;refine bT [49] Z (hq:=zg Z Z ze.h (mC _) (y8 (i:=q+1) (zg6 oQ) Z)) (h:=?_);refine ad [[2,37,38]] ?_;refine bR (Wx:=[_,_,_,_,_,_]) [46,51] Z Z (zz Z Z ze.h Z Z mQ (zaj (k:=q+1) oQ Z)) ?_;refine ad [[2,39,41]] ?_;refine bR (Wx:=[]) [50,52] Z Z (zz Z Z ze.h Z Z mQ (zaj (k:=q) (by rw[List.length_set];omega) oQ)) ?_;refine ad [[14]] ?_;refine au 3524014140 ?_;refine bA [0,1,2,3,8,9] ?_;refine bC (((j,_)::Kc)) ?_;exact Ww _ _ _ oQ ⟨q,rfl,oQ,by rw[<- hins,zng hy Qp],by rw[show((q+1:Nat):Int) - 1=(q:Int) by omega];rfl,by rw[hsw]⟩
   have hstop:=zd7 (lt:=lt) (x:=x) (S:=sortN lt xs i) (T:=xs.drop (i+1)) (j:=q+1) oQ (fun i1 y1 h1 h2=>by obtain rfl:q=i1:=oQ;rw[hy]at h2;cases h2;rw[<- hlc];exact Jx);rw[hins]at hstop;refine au 3523014140160 ?_;refine bA [0,1,2,3,8] ?_;refine bC (((j,_)::Kc)) ?_;exact Wj _ _ _ oQ ⟨i+1,rfl,oQ,oQ,rfl,by rw[zaQ hx,<- hstop]⟩
  obtain rfl:p=0:=by simp at g4_4;omega
  have hstop:=zd7 (lt:=lt) (x:=x) (S:=sortN lt xs i) (T:=xs.drop (i+1)) (j:=0) (mN _) (fun i y h=>by omega);rw[hins]at hstop;refine ad [[11,3,21],[11,0,21],[11,9,21],[11,21,23,24],[11,21,25],[11,0,21],[11,9,21],[11,21,28],[11,21,27,29],[11,21,30],[11,21,22,26,31],[11,21,32],[6,21,33],[14]] ?_;refine au 3523014140160190 ?_;refine bA [0,1,2,3,8] ?_;refine bC (((j,_)::Kc)) ?_;exact Wj _ _ _ oQ ⟨i+1,rfl,oQ,oQ,rfl,by rw[zaQ hx,<- hstop]⟩
 obtain rfl:i=n:=by simp at Jz;omega
 have Qj:(j,AObj.cells ((sortN lt xs i++xs.drop i).map za) et tt)::Kc=(j,.cells ((sortN lt xs xs.length).map za) et tt)::Kc:=by rw[hn,List.drop_eq_nil_of_le oQ,lR]
 refine au 160 ?_;refine TK.rt0 Wz (((j,_)::Kc)) ?_;rw[show sortR lt xs=sortN lt xs xs.length from rfl];exact Qj
theorem zph{main T}(hT:zo tp main T){gm}{lim:Int}{j n:Nat}{xs:List Int}{et:gT}{f:AV}{Kc:KV}{lt:Int->Int->Bool}(hn:xs.length=n)(h12:1<=n/\n<=12)(hg:∀ x∈xs,∀ y∈xs,CallFK tp T gm f [za x,za y] Kc (fun r K'=>(∃ c:Int,r=za c/\decide (c<0)=lt x y)/\K'=Kc)) :
  zl tp T gm 197 [.sl j 0 n,za 0,za n,za lim,f] ((j,.cells (xs.map za) et tt)::Kc) (fun r K'=>K'=(j,.cells ((sortR lt xs).map za) et tt)::Kc):=by
 refine zh 148 hT Tryz.func197 fun Y Wz=>?_;refine au 13035423542 ?_;refine TK.loop ?_;refine au 9371422352401142130 ?_;apply aI<;>intro Jz
 ·refine au 111142 ?_;refine bD Z Z Z Z (zia hT hn h12 hg) ?_ (hs:=(.all _));rintro r1 K2 rfl;refine au 0 ?_;refine bN (K':=(j,_)::Kc) (by rw[lR]) ?_;refine au 3 ?_;refine bB Wz (((j,_)::Kc)) ?_;exact rfl
 simp at Jz;omega
theorem zgV{main T}(hT:zo tp main T){gm}{j n:Nat}{xs:List Int}{et:gT}{f:AV}{Kc:KV}{lt:Int->Int->Bool}(hn:xs.length=n)(h12:1<=n/\n<=12)(hg:∀ x∈xs,∀ y∈xs,CallFK tp T gm f [za x,za y] Kc (fun r K'=>(∃ c:Int,r=za c/\decide (c<0)=lt x y)/\K'=Kc)) :
  zl tp T gm 183 [.sl j 0 n,f] ((j,.cells (xs.map za) et tt)::Kc) (fun r K'=>K'=(j,.cells ((sortR lt xs).map za) et tt)::Kc):=by
 refine zh 14 hT Tryz.func183 fun Y Wz=>?_;refine au 111435280142 ?_;refine bH Z (yr Z Z Und.h Und.h (zkL (n:=n) oQ)) ?_;refine bD Z Z Z Z (zhR hT (n:=n) oQ) ?_ (hs:=(.none _));rintro r1 K2 ⟨m,rfl,rfl⟩;refine au 1 ?_;refine bD Z Z Z Z (zph hT hn h12 hg) ?_ (hs:=(.all _));rintro r4 K5 rfl;refine au 0 ?_;refine bN (K':=(j,_)::Kc) (by rw[lR]) ?_;refine au 3 ?_;refine TK.rt0 Wz (((j,_)::Kc)) ?_;exact rfl
theorem zok{main T}(hT:zo tp main T){gm}{b:RBk}{s h e j jb jl:Nat}{l:List Int}{et:gT}{x y:Int}(hb:ROk b)(hl:CutsOk b l)(hx:0<=x/\x<l.length)(hy:0<=y/\y<l.length) :
  zl tp T gm 184 [za x,za y,.ptr jb 0,.ptr jl 0] [(jb,.cells (zP b s h e) 81 tt),(jl,.cells [.sl j 0 l.length] 218 tt),(s,zt b),(j,.cells (l.map za) et ff)] (fun r K'=>(∃ c:Int,r=za c/\decide (c<0)=busyLt b l x y)/\K'=[(jb,.cells (zP b s h e) 81 tt),(jl,.cells [.sl j 0 l.length] 218 tt),(s,zt b),(j,.cells (l.map za) et ff)]):=by
 refine zh 38 hT Tryz.func184 fun Y Wz=>?_;refine au 0 ?_;have hs5:=hb.sms.len;have hl5:=hl.len;obtain⟨p,rfl⟩:∃ p:Nat,x=p:=⟨x.toNat,oQ⟩;obtain⟨q,rfl⟩:∃ q:Nat,y=q:=⟨y.toNat,oQ⟩;have hp:p<l.length:=by omega
 have hq:q<l.length:=by omega
 have qp:=hl.lt hp;have fp:=hb.sms.fld _ qp.2.2;have qq:=hl.lt hq;have fq:=hb.sms.fld _ qq.2.2;refine au 223542 ?_;refine bL [0,1,2,3,4,5,6,7,8,9,20,10,11,12,13,14,15,16,17,18,19,21] ?_;refine ad [[3,2],[3,9],[10,10],[10,3],[1,0],[2,12,13]] ?_;refine bT [14] Z (hq:=zg Z Z ze.h (mC _) (y8 (i:=p) (yx hp) Z)) (h:=?_);refine ad [[2,11,15],[3,16]] ?_;refine bT [17] Z (hq:=zg Z Z ze.h (mC _) (yB (c:=2) (sm_at b (i:=(cutN l p).toNat) qp.2.2 oQ) dQ Z)) (h:=?_);refine ad [[3,2],[3,19],[10,20],[10,3],[1,1],[2,22,23]] ?_;refine bT [24] Z (hq:=zg Z Z ze.h (mC _) (y8 (i:=q) (yx hq) Z)) (h:=?_);refine ad [[2,21,25],[3,26]] ?_;refine bT [27] Z (hq:=zg Z Z ze.h (mC _) (yB (c:=2) (sm_at b (i:=(cutN l q).toNat) qq.2.2 oQ) dQ Z)) (h:=?_);refine TD.as (Wx:=[_,_,_,_,_,_,_,_,_,_]) [18] Z Z (zI Z Z) ?_;refine ad [[13,28],[14]] ?_;refine au 9371142 ?_;apply aI<;>intro Jz
 ·refine au 352401142 ?_;refine bB Wz [(jb,_),(jl,_),(s,_),(j,_)] ?_;exact⟨⟨_,rfl,by simp at Jz;unfold busyLt;rw[mZ,mZ];unfold cutS;rw[decide_eq_false Jz,Bool.false_and,Bool.or_false];exact decide_eq_decide.2 oQ⟩,rfl⟩
 refine au 352401142120 ?_;refine bB Wz [(jb,_),(jl,_),(s,_),(j,_)] ?_;exact⟨⟨_,rfl,by simp at Jz;simp only[busyLt,cutS,mZ,Jz,Int.lt_irrefl,decide_false,decide_true,Bool.true_and,Bool.false_or];exact decide_eq_decide.2 oQ⟩,rfl⟩
def HangR(o:Option (List Int×Int))(K:KV)(r:AV)(K':KV):Prop:=match o with
 | none=>r=.tup [.agg [.v (.slice none 0 0),za 0],zr ff]/\K'=K
 | some (w,q)=>∃ jw,r=.tup [.agg [.sl jw 0 w.length,za q],zr tt]/\K'=(jw,.cells (w.map za) 3 ff)::K
theorem zoF{x y:Int}(hx:0<=x/\x<=65)(hy:0<=y/\y<=9):0<=x*y/\x*y<=585:=by
 refine⟨Int.mul_nonneg hx.1 hy.1,?_⟩;have h1:x*y<=65*y:=Int.mul_le_mul_of_nonneg_right hx.2 hy.1;omega
section
variable {P:gP}{gm:Nat->Option Nat}{V:KV}{Wq:List AV}{o:Oper}
theorem zf9{x y:gO}{t u:gT}{k k':IntKind}{m n:Int}(ho:o.op=.call { callee:=.builtin .min,args:=#[x,y],argTypes:=#[t,u] })(hx:zn gm Wq x=some (.v (.int k m)))(hy:zn gm Wq y=some (.v (.int k' n))):Qk P gm Wq V o (.v (.int k (min m n))):=by
 rw[show min m n=if n<m then n else m by split <;> omega];exact q_min ho hx hy
theorem zj5{x y:gO}{t u:gT}{k k':IntKind}{m n:Int}(ho:o.op=.call { callee:=.builtin .max,args:=#[x,y],argTypes:=#[t,u] })(hx:zn gm Wq x=some (.v (.int k m)))(hy:zn gm Wq y=some (.v (.int k' n))):Qk P gm Wq V o (.v (.int k (max m n))):=by
 rw[show max m n=if m<n then n else m by split <;> omega];exact q_max ho hx hy
end
instance:BlOf tp 222 [(0,1),(1,1)]:={}
instance:zm tp 222 0 0 ff 1:={}
instance:zm tp 222 1 1 ff 1:={}
instance:ze tp 222 tt 2:={}
instance:TyZ tp 222 [.slice none 0 0,.int .i64 0]:={}
instance:TyZA tp 222 [.v (.slice none 0 0),.v (.int .i64 0)]:={}
theorem zhf{main T}(hT:zo tp main T){gm}{b:RBk}{s h e j:Nat}{l:List Int}{et:gT}(hb:ROk b)(hl:CutsOk b l){st:List Int}(hs:StOk b st) :
  zl tp T gm 167 [.agg (zP b s h e),.sl j 0 l.length,.agg (stC st)] [(s,zt b),(j,.cells (l.map za) et ff)] (fun r K'=>HangR (hangM b l st) [(s,zt b),(j,.cells (l.map za) et ff)] r K'):=by
 refine zh 110 hT Tryz.func167 fun Y Wz=>?_;refine au 0 ?_;have hp0:=hl.pos;have hs5:=hb.sms.len;have hst:=hb.rnd.sP;have hl5:=hl.len;have q0:=hl.lt hl.pos;have f0:=hb.sms.fld _ q0.2.2;have hfr:=zle hb hs;refine au 21042 ?_;intro jb hjb;refine au 210 ?_;intro jl hjl;refine au 210 ?_;intro js hjs;refine au 220 ?_;intro jr hjr;refine au 69068042235 ?_;refine TK.clE Z Z Z Z (zm5 hT hb hl) ?_;refine au 93300 ?_;apply aI<;>intro Jz
 ·refine au 3517039042 ?_;refine bB Wz [(s,_),(j,_)] ?_;rw[show hangM b l st=none by unfold hangM;rw[if_pos (by simpa using Jz)]];exact⟨rfl,rfl⟩
 have hfit:fitsM b l=tt:=by simpa using Jz
 refine au 28069042120 ?_;refine TK.newS Z Z Z (zhn Z Z Z ApOf.h TyZ.h hp0 oQ) (fun _=>zD rfl tQ) fun jw hjw=>?_;refine au 220390 ?_;intro j8 hj8;refine au 130312806904223170 ?_;refine bA [3,4,5,6,7,8,26,27,28] ?_;refine bC [(s,_),(j,_),(jb,_),(jl,_),(js,_),(jr,_),(jw,_),(j8,_)] ?_;refine bE (fun n Wq K=>∃(i:Nat),n=l.length - i/\i<=l.length/\Wq=naL 3 (.ptr jb 0::.ptr jl 0::.ptr js 0::.ptr jr 0::zr ff::.ptr j8 0::naL 17 (.sl j 0 l.length::za l.length::za i::naL 81 []))/\K=[(s,zt b),(j,.cells (l.map za) et ff),(jb,.cells (zP b s h e) 81 tt),(jl,.cells [.sl j 0 l.length] 218 tt),(js,.cells (stC st) 160 tt),(jr,.cells [.v (.slice none 0 0),za 0] 222 tt),(jw,.cells ((mB l.length (0:Int)).map za) 3 tt),(j8,.cells [.sl jw 0 l.length,za (spoilM b l i)] 222 tt)]) l.length ⟨0,rfl,mN _,rfl,rfl⟩ fun n Wq K hI Wj=>?_;obtain⟨i,rfl,hi,rfl,rfl⟩:=hI;have hsp:=zct hb hl i hi;refine bG nQ ?_;refine au 923742 ?_;apply aI<;>intro Jx
 ·have Qb:i<l.length:=by simp at Jx;omega
  have qi:=hl.lt Qb;have fi:=hb.sms.fld _ qi.2.2;refine au 360421302120 ?_;refine bH Z (zg Z Z ze.h mQ (y8 (i:=i) (yx Qb) Z)) ?_;refine au 35 ?_;refine bL [0,1,2,3,4,5,6,7,8,9,10,11] ?_;refine ad [[3,8],[10,32],[3,3],[3,34],[10,35],[1,10],[2,36,37],[3,38]] ?_;refine bT [39] Z (hq:=zg Z Z ze.h (mC _) (yB (c:=3) (sm_at b (i:=(cutN l i).toNat) qi.2.2 oQ) dQ Z)) (h:=?_);refine ad [[8,33,40],[3,8]] ?_;refine bR (Wx:=[]) [41,42] Z Z (zz Z Z ze.h Z Z mQ Z) ?_;refine ad [[14]] ?_;refine au 312304140 ?_;refine bA [3,4,5,6,7,8,26,27,28] ?_;refine bC [(s,_),(j,_),(jb,_),(jl,_),(js,_),(jr,_),(jw,_),(j8,_)] ?_;exact Wj _ _ _ oQ ⟨i+1,rfl,oQ,rfl,rfl⟩
 obtain rfl:i=l.length:=by simp at Jx;omega
 refine au 28069042160 ?_;refine TK.newS Z Z Z (zhn Z Z Z ApOf.h TyZ.h hp0 oQ) (fun _=>zD rfl tQ) fun jo hjo=>?_;refine au 13031280142235 ?_;refine bA [3,4,5,6,7,8,11,47,48,49] ?_;refine bE (fun n Wq K=>∃(i:Nat),n=l.length - i/\i<=l.length/\Wq=naL 3 (.ptr jb 0::.ptr jl 0::.ptr js 0::.ptr jr 0::zr ff::.ptr j8 0::naL 2 (.sl jo 0 l.length::naL 35 (.sl jo 0 l.length::za l.length::za i::naL 60 [])))/\K=[(jo,.cells ((idxM i++mB (l.length - i) 0).map za) 3 tt),(s,zt b),(j,.cells (l.map za) et ff),(jb,.cells (zP b s h e) 81 tt),(jl,.cells [.sl j 0 l.length] 218 tt),(js,.cells (stC st) 160 tt),(jr,.cells [.v (.slice none 0 0),za 0] 222 tt),(jw,.cells ((mB l.length (0:Int)).map za) 3 tt),(j8,.cells [.sl jw 0 l.length,za (spoilM b l l.length)] 222 tt)]) l.length ⟨0,rfl,mN _,rfl,rfl⟩ fun n Wq K hI Wj=>?_;obtain⟨i,rfl,hi,rfl,rfl⟩:=hI;refine bG nQ ?_;refine au 923742 ?_;apply aI<;>intro hc2
 ·have Qb:i<l.length:=by simp at hc2;omega
  refine au 3601114351421302120 ?_;refine TK.st Z Z Z (zz Z Z ze.h Z Z mQ (zaj (k:=i) (by simp[idxM];omega) Z)) uQ (putN Z) ?_;refine au 3123041403 ?_;refine bA [3,4,5,6,7,8,11,47,48,49] ?_;refine bC [(jo,_),(s,_),(j,_),(jb,_),(jl,_),(js,_),(jr,_),(jw,_),(j8,_)] ?_;exact Wj _ _ _ oQ ⟨i+1,rfl,oQ,rfl,by rw[<- zne Qb]⟩
 obtain rfl:i=l.length:=by simp at hc2;omega
 refine au 2160 ?_;have hidx:idxM l.length++mB (l.length - l.length) 0=idxM l.length:=by simp
 rw[hidx];refine au 32014 ?_;refine bD Z Z Z Z (zgV hT (Kc:=[(jb,.cells (zP b s h e) 81 tt),(jl,.cells [.sl j 0 l.length] 218 tt),(s,zt b),(j,.cells (l.map za) et ff)]) (lt:=busyLt b l) (by simp[idxM]) ⟨hp0,oQ⟩ (fun x hx y hy=>yC Cal.h (zok hT hb hl (by have:=zdu hx;omega) (by have:=zdu hy;omega)))) ?_ (hs:=(.left (.rem (.tail (.tail .head)) (.rem (.tail (.tail .head)) (.left (.left (.none _)))))));rintro r4 K5 rfl;refine au 680680423 ?_;refine bD Z Z Z Z (zlf hT hb hs) ?_ (hs:=(.none _));rintro r7 K8 ⟨rfl,rfl⟩;refine au 13031280142235 ?_;refine bA [3,4,5,6,7,8,13,63,64,65] ?_;refine bE (fun n Wq K=>∃(i:Nat)(z:Alloc),n=l.length - i/\i<=l.length/\z=((ordM b l).take i).foldl (allocM b l) (alloc0 b l (freshM b st))/\z.sP.length=l.length/\(0<=z.left/\z.left<=65)/\(0<=z.squares/\z.squares<=45+585*i)/\Wq=naL 3 (.ptr jb 0::.ptr jl 0::.ptr js 0::.ptr jr 0::zr ff::.ptr j8 0::naL 4 (za z.left::naL 49 (.sl jo 0 l.length::za l.length::za i::naL 44 [])))/\K=[(jo,.cells ((ordM b l).map za) 3 tt),(jb,.cells (zP b s h e) 81 tt),(jl,.cells [.sl j 0 l.length] 218 tt),(s,zt b),(j,.cells (l.map za) et ff),(js,.cells (stC st) 160 tt),(jr,.cells [.v (.slice none 0 0),za 0] 222 tt),(jw,.cells (z.sP.map za) 3 tt),(j8,.cells [.sl jw 0 l.length,za z.squares] 222 tt)]) l.length ⟨0,alloc0 b l (freshM b st),rfl,mN _,rfl,by simp[alloc0],hfr,by have:=zct hb hl l.length (mL _);show 0<=spoilM b l l.length/\spoilM b l l.length<=_;omega,rfl,rfl⟩ fun n Wq K hI Wj=>?_;obtain⟨i,z,rfl,hi,hz,hzl,hzf,hzs,rfl,rfl⟩:=hI;have hol:=znD b l;refine bG nQ ?_;refine au 923742 ?_;apply aI<;>intro hc3
 ·have Qb:i<l.length:=by simp at hc3;omega
  obtain⟨k,hk⟩:∃ k,(ordM b l)[i]? =some k:=⟨_,lA oQ⟩;have hkm:=znE (lN hk);have hkn:k.toNat<l.length:=by omega
  have qi:=hl.lt hkn;have fi:=hb.sms.fld _ qi.2.2;have hmul:0<=min z.left (sm b (cutN l k.toNat).toNat).most*(sm b (cutN l k.toNat).toNat).busy/\min z.left (sm b (cutN l k.toNat).toNat).most*(sm b (cutN l k.toNat).toNat).busy<=585:=zoF oQ oQ;refine au 360421302120 ?_;refine bH Z (zg Z Z ze.h mQ (y8 (i:=i) hk Z)) ?_;refine au 235 ?_;refine bL [0,1,2,3,4,5,6,7,8,9,10,11,12] ?_;refine ad [[1,13],[3,3],[3,70],[10,71],[10,4],[1,15],[2,73,74]] ?_;refine bT [75] Z (hq:=zg Z Z ze.h (mC _) (y8 (i:=k.toNat) (yx hkn) oQ)) (h:=?_);refine ad [[2,72,76],[3,77]] ?_;refine bT [78] Z (hq:=zg Z Z ze.h (mC _) (yB (c:=1) (sm_at b (i:=(cutN l k.toNat).toNat) qi.2.2 oQ) dQ Z)) (h:=?_);refine bU [69,79] Z (zf9 Z Z Z) ?_;refine ad [[13,80],[14]] ?_;refine au 3601169067042 ?_;refine TK.st Z Z Z (zz Z Z ze.h Z Z mQ (zaj (k:=k.toNat) oQ oQ)) uQ (putN Z) ?_;refine au 23 ?_;refine bL [0,1,2,3,4,5,6,7,8,9,10,11,12,13,14,15,16] ?_;refine ad [[3,8],[10,86],[1,16],[3,3],[3,89],[10,90],[10,4],[1,15],[2,92,93]] ?_;refine bT [94] Z (hq:=zg Z Z ze.h (mC _) (y8 (i:=k.toNat) (yx hkn) oQ)) (h:=?_);refine ad [[2,91,95],[3,96]] ?_;refine bT [97] Z (hq:=zg Z Z ze.h (mC _) (yB (c:=2) (sm_at b (i:=(cutN l k.toNat).toNat) qi.2.2 oQ) dQ Z)) (h:=?_);refine bU [88,98] Z (q_mul Z Z Z oQ) ?_;refine ad [[8,87,99],[3,8]] ?_;refine bR (Wx:=[]) [100,101] Z Z (zz Z Z ze.h Z Z mQ Z) ?_;refine ad [[14]] ?_;refine au 31230414035240114 ?_;refine bA [3,4,5,6,7,8,13,63,64,65] ?_;refine bC [(jo,_),(jb,_),(jl,_),(s,_),(j,_),(js,_),(jr,_),(jw,_),(j8,_)] ?_;exact Wj _ _ _ oQ ⟨i+1,allocM b l z k,rfl,oQ,by rw[yQ hk,List.foldl_append,<- hz];rfl,by simp[allocM,hzl],by show 0<=z.left - min z.left (sm b (cutN l k.toNat).toNat).most/\z.left - min z.left (sm b (cutN l k.toNat).toNat).most<=65;omega,by show 0<=z.squares+min z.left (sm b (cutN l k.toNat).toNat).most*(sm b (cutN l k.toNat).toNat).busy/\z.squares+min z.left (sm b (cutN l k.toNat).toNat).most*(sm b (cutN l k.toNat).toNat).busy<=45+585*((i+1:Nat):Int);omega,rfl,rfl⟩
 obtain rfl:i=l.length:=by simp at hc3;omega
 rw[List.take_of_length_le oQ]at hz;refine au 9371422160 ?_;apply aI<;>intro hc4
 ·refine au 3517039042 ?_;refine bB Wz [(s,_),(j,_)] ?_;rw[show hangM b l st=none by unfold hangM;rw[if_neg (by rw[hfit];decide)];unfold allocA;rw[<- hz];exact if_pos (oT_ hc4)];exact⟨rfl,rfl⟩
 refine au 2120 ?_;refine TK.frz (j:=jw) ?_;refine au 351706804 ?_;refine bB Wz [(jw,_),(s,_),(j,_)] ?_;rw[show hangM b l st=some (z.sP,z.squares) by unfold hangM;rw[if_neg (by rw[hfit];decide)];unfold allocA;rw[<- hz];exact if_neg (oF_ hc4)];exact⟨jw,by rw[hzl];rfl,rfl⟩
theorem st_at{s:List Int}{i:Nat}{n:Int}{e:gT}{rw':Bool}(h:i<5)(hn:n=(i:Int)):z6 (.cells (stC s) e rw') (0+n.toNat*1) 1=some [za (s.getD i 0)]:=by
 subst hn;have:i=0\/i=1\/i=2\/i=3\/i=4:=by omega
 rcases this with rfl|rfl|rfl|rfl|rfl <;> rfl
theorem zjo{c:List Int}{i k:Nat}(h:k<i):(c.take i).getD k 0=c.getD k 0:=by
 rw[lE,lE,List.getElem?_take,if_pos h]
theorem zps{c p:List Int}{m:Nat}(h5:c.length=5)(hp:p.length=m)(ht:c.take m=p)(hz:∀ k,m<=k->c.getD k 0=0):c.map za=stC p:=by
 have key:∀ k,c.getD k 0=p.getD k 0:=fun k=>by
  by_cases h:k<m
  ·rw[<- ht,zjo h]
  ·rw[hz k oQ,lE,lU oQ];rfl
 have e:c.map za=stC c:=by
  rcases c with _|⟨a0,_|⟨a1,_|⟨a2,_|⟨a3,_|⟨a4,_|⟨a5,r⟩⟩⟩⟩⟩⟩ <;> simp at h5;rfl
 rw[e];unfold stC slotR;rw[key 0,key 1,key 2,key 3,key 4]
theorem zfK{xs:List RMeas}{i:Nat}{x:RMeas}{n:Int}{e:gT}{rw':Bool}(h:xs[i]? =some x)(hn:n=(i:Int)):z6 (.cells (xs.flatMap measC) e rw') (0+n.toNat*3) 3=some (measC x):=zaf (c:=3) (fun _=>rfl) h hn dQ
theorem zkR{xs:List RMeas}{p:RMeas->Bool}{i:Nat}{x:RMeas}(h:xs[i]? =some x)(hn:(xs.take i).any p=ff)(he:p x=ff):(xs.take (i+1)).any p=ff:=by
 rw[yQ h,List.any_append,hn];simp[he]
theorem zog{xs:List RMeas}{p:RMeas->Bool}{i:Nat}{x:RMeas}(h:xs[i]? =some x)(he:p x=tt):xs.any p=tt:=List.any_eq_true.2 ⟨x,lN h,he⟩
theorem zkl(b:RBk)(s:List Int):rightM b s = !(b.mE.any fun m => !decide (togM b s m.cloth.toNat m.many.toNat=m.wide)):=by
 unfold rightM
 induction b.mE with
 | nil=>rfl
 | cons x r ih=>rw[List.all_cons,List.any_cons,ih];simp
theorem zo4{main T}(hT:zo tp main T){gm}{b:RBk}{s h e i:Nat}{st:List Int}(hb:ROk b)(hs:StOk b st)(hi:i<b.sE.length) :
  zl tp T gm 181 [.agg (zP b s h e),za i,.agg (stC st)] [(s,zt b)] (fun r K'=>r=za (nowM b st i)/\K'=[(s,zt b)]):=by
 refine zh 14 hT Tryz.func181 fun Y Wz=>?_;refine au 0 ?_;have hs5:=hb.sms.len;have hw:=hb.wide hi;have hsi:=hs.bnd i hi;refine au 21042 ?_;intro jb hjb;refine au 210 ?_;intro js hjs;refine au 235 ?_;refine TK.dr [0,1,3,4,5,2,6,7] [0,1,2,3,4,5,6,7] ?_;refine ad [[12,3],[1,1],[1,1]] ?_;refine bU [5,10] Z (wL Z Z Z ArEl.h oQ oQ) ?_;refine bT [11] Z (hq:=zg Z Z ze.h (mC _) (st_at (i:=i) oQ Z)) (h:=?_);refine TD.clE (Wx:=[_,_,_]) [7,8] Z Z Z Z Z (zhJ hT (i:=i) hb.rnd hb.sms hi) ?_;refine ad [[9,9,12],[13,13],[14]] ?_;refine au 0 ?_;refine bB Wz [(s,_)] ?_;exact⟨rfl,rfl⟩
theorem zpw{main T}(hT:zo tp main T){gm}{b:RBk}{s h e:Nat}{c k:Int}{st:List Int}(hb:ROk b)(hs:StOk b st)(hc:0<=c/\c<=5)(hk:0<=k/\k<=5) :
  zl tp T gm 162 [.agg (zP b s h e),za c,za k,.agg (stC st)] [(s,zt b)] (fun r K'=>r=za (togM b st c.toNat k.toNat)/\K'=[(s,zt b)]):=by
 refine zh 30 hT Tryz.func162 fun Y Wz=>?_;refine au 0 ?_;obtain⟨p,rfl⟩:∃ p:Nat,c=p:=⟨c.toNat,oQ⟩;obtain⟨q,rfl⟩:∃ q:Nat,k=q:=⟨k.toNat,oQ⟩;have hs5:=hb.sms.len;refine au 21042 ?_;intro jb hjb;refine au 210 ?_;intro js hjs;refine au 130311422354235 ?_;refine bA [1,4,7,9,11,12] ?_;refine bC [(s,_),(js,_),(jb,_)] ?_;refine bE (fun n Wq K=>∃(i:Nat),n=q - i/\i<=q/\Wq=.any::za p::naL 2 (.ptr jb 0::naL 2 (.ptr js 0::.any::za (togM b st p i)::.any::za q::za i::naL 17 []))/\K=[(s,zt b),(js,.cells (stC st) 160 tt),(jb,.cells (zP b s h e) 81 tt)]) q ⟨0,rfl,mN _,rfl,rfl⟩ fun n Wq K hI Wj=>?_;obtain⟨i,rfl,hi,rfl,rfl⟩:=hI;have htb:=zgr hb hs (c:=p) i;refine bG nQ ?_;refine au 923742 ?_;apply aI<;>intro Jz
 ·have Qb:i<q:=by simp at Jz;omega
  have hmod:(p+i) % b.sE.length<b.sE.length:=Nat.mod_lt _ oQ;have hcm:((p:Int)+(i:Int)) % (b.sE.length:Int)=(((p+i) % b.sE.length:Nat):Int):=by rw[Int.natCast_emod,Int.natCast_add]
  have hw:=hb.wide hmod;have hsi:=hs.bnd _ hmod;have hnow:nowM b st ((p+i) % b.sE.length)=wideM b ((p+i) % b.sE.length) - st.getD ((p+i) % b.sE.length) 0:=rfl;refine au 351421302120 ?_;refine bL [0,1,2,3,4,5,6,7,8,9,10,11,12,13] ?_;refine ad [[1,9],[12,4],[1,1],[1,10],[8,17,18],[3,4],[3,20],[10,21]] ?_;refine bU [22] Z (q_len Z Z Z Und.h) ?_;refine bU [19,23] Z (q_rem Z Z Z oQ oQ) ?_;rw[hcm];refine ad [[12,7]] ?_;refine TD.clE (Wx:=[_,_,_,_,_,_,_,_]) [16,24,25] Z Z Z Z Z (zo4 hT (i:=(p+i) % b.sE.length) hb hs hmod) ?_;refine ad [[8,15,26],[13,27],[14]] ?_;refine au 312304140 ?_;refine bA [1,4,7,9,11,12] ?_;refine bC [(s,_),(js,_),(jb,_)] ?_;exact Wj _ _ _ oQ ⟨i+1,rfl,oQ,rfl,rfl⟩
 obtain rfl:i=q:=by simp at Jz;omega
 refine au 35142160 ?_;refine bB Wz [(s,_)] ?_;exact⟨rfl,rfl⟩
theorem zkj{main T}(hT:zo tp main T){gm}{b:RBk}{s h e jb js:Nat}{m:RMeas}{st:List Int}(hb:ROk b)(hs:StOk b st)(hm:m∈b.mE) :
  zl tp T gm 161 [.agg (measC m),.ptr jb 0,.ptr js 0] [(jb,.cells (zP b s h e) 81 tt),(js,.cells (stC st) 160 tt),(s,zt b)] (fun r K'=>r=zr (!decide (togM b st m.cloth.toNat m.many.toNat=m.wide))/\K'=[(jb,.cells (zP b s h e) 81 tt),(js,.cells (stC st) 160 tt),(s,zt b)]):=by
 refine zh 15 hT Tryz.func161 fun Y Wz=>?_;refine au 0 ?_;have hs5:=hb.sms.len;have hmm:=hb.mes.bnd m hm;refine au 21042 ?_;intro jm hjm;refine au 235 ?_;refine TK.dr [0,1,2,3,4,5,7,8,6,9,10] [0,1,2,3,4,5,6,7,8,9,10] ?_;refine ad [[12,1],[3,3],[10,6],[3,3],[10,8],[12,2],[3,3],[10,12]] ?_;refine TD.clE (Wx:=[_,_,_,_]) [5,7,9,10] Z Z Z Z Z (zpw hT (c:=m.cloth) (k:=m.many) hb hs oQ oQ) ?_;refine ad [[4,11,13],[13,14],[14]] ?_;refine au 0 ?_;refine bB Wz [(jb,_),(js,_),(s,_)] ?_;exact⟨by simp[bne];rfl,rfl⟩
theorem zjy{main T}(hT:zo tp main T){gm}{j:Nat}{xs:List RMeas}{et:gT}{f:AV}{Kc:KV}{p:RMeas->Bool}(hp:∀ x∈xs,CallFK tp T gm f [.agg (measC x)] Kc (fun r K'=>r=zr (p x)/\K'=Kc))(hl:xs.length<=1000) :
  zl tp T gm 180 [.sl j 0 xs.length,f] ((j,.cells (xs.flatMap measC) et ff)::Kc) (fun r K'=>(∃ n:Int,r=za n/\decide (n>=0)=xs.any p)/\K'=(j,.cells (xs.flatMap measC) et ff)::Kc):=by
 refine zh 19 hT Tryz.func180 fun Y Wz=>?_;refine au 1303128014223542 ?_;refine bA [0,1,7,8] ?_;refine bE (fun n Wq K=>∃(i:Nat),n=xs.length - i/\i<=xs.length/\(xs.take i).any p=ff/\Wq=.sl j 0 xs.length::f::naL 5 (za xs.length::za i::naL 10 [])/\K=((j,.cells (xs.flatMap measC) et ff)::Kc)) xs.length ⟨0,rfl,mN _,by simp,rfl,rfl⟩ fun n Wq K hI Wj=>?_;obtain⟨i,rfl,hi,hn,rfl,rfl⟩:=hI;refine bG nQ ?_;refine au 923742 ?_;refine⟨fun hc=>?_,fun hc=>?_⟩
 ·simp only[dT_]at hc;have Qb:i<xs.length:=by omega
  obtain⟨x,hx⟩:∃ x,xs[i]? =some x:=⟨_,lA Qb⟩;refine au 36011142351421302120 ?_;refine bH Z (zK Z Z ze.h mQ (zfK (i:=i) hx Z)) ?_;refine TK.callF' Z Z Z Z Z (hp x (lN hx)) (.right (.all _)) fun r1 K2 h3=>?_;obtain⟨rfl,hK⟩:=h3;refine au 0 ?_;rw[hK];refine bN (K':=(j,_)::Kc) (List.perm_append_singleton _ _) ?_;refine au 93 ?_;apply aI<;>intro Jx
  ·refine au 35142 ?_;refine bB Wz (((j,_)::Kc)) ?_;exact⟨⟨i,rfl,by rw[decide_eq_true (Int.natCast_nonneg i),zog hx Jx]⟩,rfl⟩
  refine au 312304140120 ?_;refine bA [0,1,7,8] ?_;refine bC (((j,_)::Kc)) ?_;exact Wj _ _ _ oQ ⟨i+1,rfl,oQ,zkR hx hn Jx,rfl,rfl⟩
 simp only[dF_]at hc;obtain rfl:i=xs.length:=by omega
 refine au 3542160 ?_;refine bB Wz (((j,_)::Kc)) ?_;rw[lW]at hn;exact⟨⟨-1,rfl,by rw[hn];rfl⟩,rfl⟩
theorem zfe{main T}(hT:zo tp main T){gm}{j:Nat}{xs:List RMeas}{et:gT}{f:AV}{Kc:KV}{p:RMeas->Bool}(hp:∀ x∈xs,CallFK tp T gm f [.agg (measC x)] Kc (fun r K'=>r=zr (p x)/\K'=Kc))(hl:xs.length<=1000) :
  zl tp T gm 160 [.sl j 0 xs.length,f] ((j,.cells (xs.flatMap measC) et ff)::Kc) (fun r K'=>r=zr (xs.any p)/\K'=(j,.cells (xs.flatMap measC) et ff)::Kc):=by
 refine zh 9 hT Tryz.func160 fun Y Wz=>?_;refine au 11423542 ?_;refine bD Z Z Z Z (zjy hT hp hl) ?_ (hs:=(.all _));rintro r1 K2 ⟨⟨m,rfl,hm⟩,rfl⟩;refine au 0 ?_;refine bN (K':=(j,_)::Kc) (by rw[lR]) ?_;refine au 357 ?_;refine bB Wz (((j,_)::Kc)) ?_;exact⟨by rw[<- hm],rfl⟩
theorem zmg{main T}(hT:zo tp main T){gm}{b:RBk}{s h e:Nat}{st:List Int}(hb:ROk b)(hs:StOk b st) :
  zl tp T gm 121 [.agg (zP b s h e),.agg (stC st)] [(s,zt b),(e,zG b)] (fun r K'=>r=zr (rightM b st)/\K'=[(s,zt b),(e,zG b)]):=by
 refine zh 11 hT Tryz.func121 fun Y Wz=>?_;refine au 21042 ?_;intro jb hjb;refine au 210 ?_;intro js hjs;refine au 3206906706704235 ?_;refine bD Z Z Z Z (zfe hT (p:=fun m => !decide (togM b st m.cloth.toNat m.many.toNat=m.wide)) (Kc:=[(jb,.cells (zP b s h e) 81 tt),(js,.cells (stC st) 160 tt),(s,zt b)]) (fun x hx=>yC Cal.h (zkj hT hb hs hx)) (by have:=hb.mes.len;omega)) ?_ (hs:=(.rem (.tail (.tail (.tail .head))) (.rem (.tail .head) (.rem .head (.rem .head (.none _))))));rintro r1 K2 ⟨rfl,rfl⟩;refine au 35300 ?_;refine bB Wz [(s,_),(e,_)] ?_;exact⟨by rw[zkl],rfl⟩
def YieldR(P:gP)(T:gG->Hp->Prop)(gm:Nat->Option Nat)(b:RBk)(s h e l:Nat)(J:List (List Int)->KV->Prop)(D:KV->Prop)(tot:List (List Int)):Prop:=∀(pre:List (List Int))(S:List Int)(K1:KV),pre++[S] <+: tot->J pre K1 ->
 CallFK P T gm (.yl l) [.agg (stC S)] ((s,zt b)::(h,zX b)::(e,zG b)::K1) fun r K'=>∃ K2,K'=(s,zt b)::(h,zX b)::(e,zG b)::K2/\((r=zr tt/\J (pre++[S]) K2)\/(r=zr ff/\D K2))
structure ArrOk(b:RBk)(c p:List Int):Prop where
 len:c.length=5
 tk:c.take p.length=p
 z:∀ k,b.sH.length<=k->c.getD k 0=0
theorem zmJ{b:RBk}{c p:List Int}{n:Int}(h:ArrOk b c p)(hp:p.length<b.sH.length)(h5:b.sH.length<=5):ArrOk b (c.set p.length n) (p++[n]):=by
 have hl:=h.len;refine⟨by simp[hl],?_,fun k hk=>?_⟩
 ·rw[lF,List.length_singleton,List.take_add_one,List.getElem?_set_self oQ,List.take_set_of_le (mL _),h.tk];rfl
 ·rw[lE,List.getElem?_set_ne oQ,<- lE];exact h.z k hk
theorem zeV{b:RBk}{c p:List Int}{n:Int}(h:ArrOk b c (p++[n])):ArrOk b c p:=⟨h.len,by
 have:=congrArg (List.take p.length) h.tk;rw[List.take_take,lF,List.take_append_of_le_length (mL _),lW]at this;rw[Nat.min_eq_left sQ]at this;exact this,h.z⟩
theorem zlQ(n hi:Int)(h:n<=hi):numsF n (hi+1 - n).toNat=n::numsF (n+1) (hi+1 - (n+1)).toNat:=by
 rw[show(hi+1 - n).toNat=(hi+1 - (n+1)).toNat+1 by omega];rfl
theorem zlO(n hi:Int)(h:¬ n<=hi):numsF n (hi+1 - n).toNat=[]:=by
 rw[show(hi+1 - n).toNat=0 by omega];rfl
theorem zfZ{f:Int->List (List Int)}{n hi:Int}{pre x:List (List Int)}(hn:n<=hi)(h:pre++(numsF n (hi+1 - n).toNat).flatMap f=x):(pre++f n)++(numsF (n+1) (hi+1 - (n+1)).toNat).flatMap f=x:=by
 rw[<- h,zlQ n hi hn,List.flatMap_cons,List.append_assoc]
theorem zpj(a b c d f g h:Nat×AObj){R:KV}:([f,h]++a::b::c::d::g::R).Perm (a::b::c::d::f::g::h::R):=by
 have q1:([f,h]++a::b::c::d::g::R).Perm (a::b::c::d::g::R++[f,h]):=lH;have q2:((a::b::c::d::g::R)++[f,h]).Perm (a::b::c::d::([f,g,h]++R)):=by
  have q3:((g::R)++[f,h]).Perm ([f,g,h]++R):=by
   have q4:((g::R)++[f,h]).Perm (g::([f,h]++R)):=List.Perm.cons _ lH;exact q4.trans (List.Perm.swap _ _ _)
  exact(((q3.cons d).cons c).cons b).cons a
 exact q1.trans q2
theorem zpk{a b c d:Nat×AObj}{R:KV}:(d::c::b::a::R).Perm (a::c::b::d::R):=by
 have q1:(d::c::b::a::R).Perm (c::b::a::d::R):=(List.perm_middle (l₁:=[c,b,a])).symm;have q2:(c::b::a::d::R).Perm (a::c::b::d::R):=List.perm_middle (l₁:=[c,b]);exact q1.trans q2
instance:ze tp 117 ff 1:={}
instance:ze tp 205 ff 1:={}
instance:TyZA tp 117 [.v (.nilFunc)]:={}
instance:TyZA tp 160 [.v (.int .i64 0),.v (.int .i64 0),.v (.int .i64 0),.v (.int .i64 0),.v (.int .i64 0)]:={}
theorem znv{main T}(hT:zo tp main T){gm}{b:RBk}{s h e l jb js jy jn:Nat}(hb:ROk b){J:List (List Int)->KV->Prop}{D:KV->Prop}{tot:List (List Int)}(hy:YieldR tp T gm b s h e l J D tot) :
  ∀(m:Nat)(p c:List Int)(pre:List (List Int))(K1:KV),b.sH.length - p.length=m->ArrOk b c p->PreB b p->pre++fromM b p (b.sH.drop p.length) <+: tot->J pre K1 ->
  zl tp T gm 120 [za p.length,.ptr jb 0,.ptr js 0,.ptr jy 0,.ptr jn 0] ((jb,.cells (zP b s h e) 81 tt)::(js,.cells (c.map za) 160 tt)::(jy,.cells [.yl l] 205 tt)::(jn,.cells [.fn 120 [] [.ptr jb 0,.ptr js 0,.ptr jy 0,.ptr jn 0]] 117 tt)::(s,zt b)::(h,zX b)::(e,zG b)::K1) (fun r K'=>∃(c':List Int)(K2:KV),ArrOk b c' p/\K'=(jb,.cells (zP b s h e) 81 tt)::(js,.cells (c'.map za) 160 tt)::(jy,.cells [.yl l] 205 tt)::(jn,.cells [.fn 120 [] [.ptr jb 0,.ptr js 0,.ptr jy 0,.ptr jn 0]] 117 tt)::(s,zt b)::(h,zX b)::(e,zG b)::K2/\((r=zr tt/\J (pre++fromM b p (b.sH.drop p.length)) K2)\/(r=zr ff/\D K2))):=by
 refine fun m=>Nat.strongRecOn m fun m ih=>?_;intro p c pre K1 hm hc hp hpre hJ;refine zh 49 hT Tryz.func120 fun Y Wz=>?_;have hcl:=hc.len;have hle:=hp.1;have hsl:=hb.cls.len;have hs5:=hb.sms.len;refine au 93728069067067014223542 ?_;apply aI<;>intro Jz
 ·have hpl:p.length=b.sH.length:=by simp at Jz;omega
  have hcp:c.map za=stC p:=zps hcl hpl (by rw[<- hpl];exact hc.tk) hc.z;rw[hcp];have hdn:b.sH.drop p.length=[]:=List.drop_eq_nil_of_le oQ;have hst:StOk b p:=zfy hb ⟨hpl,fun i hi=>hp.2 i oQ⟩;refine au 68068042 ?_;refine bD Z Z Z Z (zmg hT hb hst) ?_ (hs:=(.right (.right (.right (.right (.left (.right (.left (.none _)))))))));rintro r1 K2 ⟨rfl,rfl⟩;refine au 0 ?_;refine bN (K':=(jb,_)::(js,_)::(jy,_)::(jn,_)::(s,_)::(h,_)::(e,_)::K1) (zpj _ _ _ _ _ _ _) ?_;refine au 1300 ?_;refine bF 18 (fun g2_5=>?_) (fun g2_5=>?_)
  ·have hfr:fromM b p (b.sH.drop p.length)=[]:=by rw[hdn];unfold fromM;rw[if_neg (by simpa using g2_5)]
   refine au 35260888 ?_;refine bB Wz (_) ?_ (hs:=(.all _));exact⟨c,K1,hc,by rw[hcp],.inl ⟨rfl,by rw[hfr];simpa using hJ⟩⟩
  have hfr:fromM b p (b.sH.drop p.length)=[p]:=by rw[hdn];unfold fromM;rw[if_pos (by simpa using g2_5)]
  refine au 680690 ?_;refine TK.callF' Z Z Z Z Z (hy pre p K1 (by rw[<- hfr];exact hpre) hJ) (.right (.right (.right (.right (.all _))))) fun r4 K5 h6=>?_;rcases h6 with⟨K2,rfl,⟨rfl,hJ2⟩|⟨rfl,hD⟩⟩
  ·refine au 0 ?_;refine bN (K':=(jb,_)::(js,_)::(jy,_)::(jn,_)::(s,_)::(h,_)::(e,_)::K2) (lH (l₁:=(s,_)::(h,_)::(e,_)::K2)) ?_;refine au 35250 ?_;refine bB Wz (_) ?_ (hs:=(.all _));exact⟨c,K2,hc,by rw[hcp],.inl ⟨rfl,by rw[hfr];exact hJ2⟩⟩
  ·refine au 0 ?_;refine bN (K':=(jb,_)::(js,_)::(jy,_)::(jn,_)::(s,_)::(h,_)::(e,_)::K2) (lH (l₁:=(s,_)::(h,_)::(e,_)::K2)) ?_;refine au 35250 ?_;refine bB Wz (_) ?_ (hs:=(.all _));exact⟨c,K2,hc,by rw[hcp],.inr ⟨rfl,hD⟩⟩
 have Qp:p.length<b.sH.length:=by simp at Jz;omega
 have hbd:=hb.cls.bnd p.length oQ;have hdc:b.sH.drop p.length=bd b p.length::b.sH.drop (p.length+1):=zY (kJ Qp);have hfr:fromM b p (b.sH.drop p.length)=(numsF (bd b p.length).low ((bd b p.length).high+1 - (bd b p.length).low).toNat).flatMap fun n=>fromM b (p++[n]) (b.sH.drop (p.length+1)):=by rw[hdc];rfl
 refine au 6703601690670670422120 ?_;refine bH Z (zg Z Z ze.h mQ (yB (c:=0) (bd_at b Qp Z) dQ Z)) ?_;refine au 13035 ?_;refine bA [0,1,2,3,4,6,7] ?_;refine bE (fun n1 Wq K=>∃(n:Int)(c1:List Int)(pre1:List (List Int))(K2:KV),n1=((bd b p.length).high+1 - n).toNat/\((bd b p.length).low<=n/\n<=(bd b p.length).high+1)/\ArrOk b c1 p/\J pre1 K2/\pre1++(numsF n ((bd b p.length).high+1 - n).toNat).flatMap (fun n=>fromM b (p++[n]) (b.sH.drop (p.length+1)))=pre++fromM b p (b.sH.drop p.length)/\Wq=za p.length::.ptr jb 0::.ptr js 0::.ptr jy 0::.ptr jn 0::.any::zr ff::za n::naL 41 []/\K=(jb,.cells (zP b s h e) 81 tt)::(js,.cells (c1.map za) 160 tt)::(jy,.cells [.yl l] 205 tt)::(jn,.cells [.fn 120 [] [.ptr jb 0,.ptr js 0,.ptr jy 0,.ptr jn 0]] 117 tt)::(s,zt b)::(h,zX b)::(e,zG b)::K2) _ ⟨(bd b p.length).low,c,pre,K1,rfl,oQ,hc,hJ,by rw[hfr],rfl,rfl⟩ fun n1 Wq K hI Wj=>?_;obtain⟨n,c1,pre1,K2,rfl,hn,hc1a,hJ1,hEq,rfl,rfl⟩:=hI;have hc1l:=hc1a.len;refine bG nQ ?_;refine au 67036016906706701422 ?_;refine bH Z (zg Z Z ze.h mQ (yB (c:=1) (bd_at b Qp Z) dQ Z)) ?_;refine au 937 ?_;apply aI<;>intro Jx
 ·have hnh:n<=(bd b p.length).high:=oT_ Jx;refine au 11421302120 ?_;refine bH Z (wL Z Z Z ArEl.h oQ oQ) ?_;refine TK.st Z Z Z (zz Z Z ze.h Z Z mQ (zaj (k:=p.length) oQ Z)) uQ (putN Z) ?_;refine au 2301690423 ?_;refine bD Z Z Z Z ((by have:=ih (b.sH.length - (p.length+1)) oQ (p++[n]) (c1.set p.length n) pre1 K2 sQ (zmJ hc1a Qp oQ) (zck hp Qp hn.1 hnh) (List.IsPrefix.trans ⟨_,by rw[lF];exact zfZ hnh hEq⟩ hpre) hJ1;rw[lF]at this;exact this)) ?_ (hs:=(.all _));rintro r7 K8 h9;rcases h9 with⟨c2,K3,hc2,rfl,⟨rfl,hJ3⟩|⟨rfl,hD⟩⟩
  ·refine au 0 ?_;refine bN (K':=(jb,.cells (zP b s h e) 81 tt)::(js,.cells (c2.map za) 160 tt)::(jy,.cells [.yl l] 205 tt)::(jn,.cells [.fn 120 [] [.ptr jb 0,.ptr js 0,.ptr jy 0,.ptr jn 0]] 117 tt)::(s,zt b)::(h,zX b)::(e,zG b)::K3) (by rw[lR]) ?_;refine au 35230141401201903300 ?_;refine bA [0,1,2,3,4,6,7] ?_;exact Wj _ _ _ oQ ⟨n+1,c2,_,K3,rfl,oQ,zeV hc2,hJ3,zfZ hnh hEq,rfl,rfl⟩
  ·refine au 0 ?_;refine bN (K':=(jb,.cells (zP b s h e) 81 tt)::(js,.cells (c2.map za) 160 tt)::(jy,.cells [.yl l] 205 tt)::(jn,.cells [.fn 120 [] [.ptr jb 0,.ptr js 0,.ptr jy 0,.ptr jn 0]] 117 tt)::(s,zt b)::(h,zX b)::(e,zG b)::K3) (by rw[lR]) ?_;refine au 35421803300 ?_;refine bB Wz (_) ?_ (hs:=(.all _));exact⟨c2,K3,zeV hc2,rfl,.inr ⟨rfl,hD⟩⟩
 refine au 3542160 ?_;refine bB Wz (_) ?_ (hs:=(.all _));exact⟨c1,K2,hc1a,rfl,.inl ⟨rfl,by rw[<- hEq,zlO _ _ (oF_ Jx)];simpa using hJ1⟩⟩
theorem zkA{main T}(hT:zo tp main T){gm}{b:RBk}{s h e l:Nat}(hb:ROk b){J:List (List Int)->KV->Prop}{D:KV->Prop}{K1:KV}(hy:YieldR tp T gm b s h e l J D (z8 b))(hJ:J [] K1) :
  zl tp T gm 93 [.agg (zP b s h e),.yl l] ((s,zt b)::(h,zX b)::(e,zG b)::K1) (fun _ K'=>∃ K2,K'=(s,zt b)::(h,zX b)::(e,zG b)::K2/\(J (z8 b) K2\/D K2)):=by
 refine zh 9 hT Tryz.func93 fun Y Wz=>?_;refine au 0 ?_;have hs5:=hb.sms.len;have hsl:=hb.cls.len;refine au 21042 ?_;intro jb hjb;refine au 210 ?_;intro jy hjy;refine au 220423 ?_;intro js hjs;refine au 220423 ?_;intro jn hjn;refine au 3170320423 ?_;refine bN (K':=(jb,.cells (zP b s h e) 81 tt)::(js,.cells ([0,0,0,0,0].map za) 160 tt)::(jy,.cells [.yl l] 205 tt)::(jn,.cells [.fn 120 [] [.ptr jb 0,.ptr js 0,.ptr jy 0,.ptr jn 0]] 117 tt)::(s,zt b)::(h,zX b)::(e,zG b)::K1) zpk ?_;refine au 6904 ?_;refine bD Z Z Z Z (znv hT hb hy _ [] [0,0,0,0,0] [] K1 Z ⟨rfl,rfl,fun k hk=>by rw[lE];rcases k with _|_|_|_|_|k <;> rfl⟩ (zdw b) (List.prefix_refl _) hJ) ?_ (hs:=(.all _));rintro r1 K2 h3;rcases h3 with⟨c2,K2,hc2,rfl,⟨rfl,hJ2⟩|⟨rfl,hD⟩⟩
 ·refine au 0 ?_;refine bN (K':=(jb,.cells (zP b s h e) 81 tt)::(js,.cells (c2.map za) 160 tt)::(jy,.cells [.yl l] 205 tt)::(jn,.cells [.fn 120 [] [.ptr jb 0,.ptr js 0,.ptr jy 0,.ptr jn 0]] 117 tt)::(s,zt b)::(h,zX b)::(e,zG b)::K2) (by rw[lR]) ?_;refine au 3 ?_;refine TK.rt0 Wz (_) ?_ (hs:=(.right (.right (.right (.right (.all _))))));exact⟨_,rfl,.inl hJ2⟩
 ·refine au 0 ?_;refine bN (K':=(jb,.cells (zP b s h e) 81 tt)::(js,.cells (c2.map za) 160 tt)::(jy,.cells [.yl l] 205 tt)::(jn,.cells [.fn 120 [] [.ptr jb 0,.ptr js 0,.ptr jy 0,.ptr jn 0]] 117 tt)::(s,zt b)::(h,zX b)::(e,zG b)::K2) (by rw[lR]) ?_;refine au 3 ?_;refine TK.rt0 Wz (_) ?_ (hs:=(.right (.right (.right (.right (.all _))))));exact⟨_,rfl,.inr hD⟩
theorem zf2(a b c d:Nat×AObj){R:KV}:(a::b::c::d::R).Perm (b::c::d::a::R):=(List.perm_middle (l₁:=[b,c,d])).symm
theorem perm_4'(a b c d:Nat×AObj){R:KV}:(b::c::d::a::R).Perm (a::b::c::d::R):=List.perm_middle (l₁:=[b,c,d])
theorem Kstep.perm{K K' K'':KV}{A A':List AObj}(h:Kstep K A K' A')(hp:K'.Perm K''):Kstep K A K'' A' :=
 ⟨h.view.sub fun x hx=>hp.symm.subset hx,(zW hp).nodup_iff.1 h.nd,fun i hi=>h.own i ((zW hp).symm.subset hi),h.kept,h.len⟩
theorem CallFK.perm{P:gP}{T:gG->Hp->Prop}{gm:Nat->Option Nat}{yv:AV}{args:List AV}{K:KV}{Post Post':AV->KV->Prop}(h:CallFK P T gm yv args K Post)(hp:∀ r K',Post r K'->∃ K'',K'.Perm K''/\Post' r K''):CallFK P T gm yv args K Post' :=
 fun A hv hn=>(h A hv hn).mono fun r A' ⟨K',h1,h2⟩=>let ⟨K'',h3,h4⟩:=hp r K' h2;⟨K'',h1.perm h3,h4⟩
section
variable {main:Bool}{T:gG->Hp->Prop}{gm:Nat->Option Nat}{Y:KX tp gm T}{ds:List Nat}{k:List Item}{Wq:List AV}{K K0 R:KV}
theorem TK.rangeStates(hT:zo tp main T){fo:gO}{ps:Array Tmp}{x y:Code}{b:RBk}{s h e:Nat}(hb:ROk b){J:List (List Int)->KV->Prop}{D:Code->KV->Prop}(hps:ps.size=1)(hro:Y.X.ro=none)(hf:zn gm Wq fo=some (.fn 93 [.agg (zP b s h e)] []))(hs:Split K ((s,zt b)::(h,zX b)::(e,zG b)::K0) R)(hJ0:J [] K0)
  (round:∀(Y':KX tp gm T)(l:Nat)(lo lb:AObj)(pre:List (List Int))(S:List Int)(K1:KV),(∀ ds k Wk K K',Upd K l lo l lb K'->TK Y' ds k Wk K'->TK Y' ds (.beginRound::k) Wk K) ->
   (∀ Wk K' K2 D',Split K' ((l,lb)::(s,zt b)::(h,zX b)::(e,zG b)::K2) D'->J (pre++[S]) K2->TK Y' [] [] Wk K') ->
   (∀ c k Wk K' K2 D',Leave (some c) k->Split K' ((l,lb)::(s,zt b)::(h,zX b)::(e,zG b)::K2) D'->D c K2->TK Y' [] k Wk K') ->
   pre++[S] <+: z8 b->J pre K1->TK Y' [] [.code x,.beginRound,.code y] (putAll Wq (ps.toList.zip [.agg (stC S)])) ((l,lo)::(s,zt b)::(h,zX b)::(e,zG b)::K1))
  (hend:∀ d K2,J (z8 b) K2->TK Y (d::ds) k Wq ((d,.raw (.deferred (some [])))::(s,zt b)::(h,zX b)::(e,zG b)::(K2++R)))
  (hstop:∀ d c K2,D c K2->TK Y (d::ds) (.code c::k) Wq ((d,.raw (.deferred (some [])))::(s,zt b)::(h,zX b)::(e,zG b)::(K2++R))):TK Y ds (.code (.rangeFunc fo ps x y)::k) Wq K:=by
 refine TK.rangeFunc (Post:=fun l _ K'=>∃ st pj K2,K'=(l,.loop Y.X.f Wq ps x y st pj)::(s,zt b)::(h,zX b)::(e,zG b)::K2/\((st=.ready/\pj=none/\J (z8 b) K2)\/∃ c,st=.done/\pj=some c/\D c K2))
  (Q:=fun pj K'=>∃ K2,K'=(s,zt b)::(h,zX b)::(e,zG b)::K2/\((pj=none/\J (z8 b) K2)\/∃ c,pj=some c/\D c K2)) hro hf Cal.h hs (fun l hl=>?_) ?_ ?_
 ·intro A hv hn;have hp:((l,AObj.loop Y.X.f Wq ps x y .ready none)::(s,zt b)::(h,zX b)::(e,zG b)::K0).Perm ((s,zt b)::(h,zX b)::(e,zG b)::(l,.loop Y.X.f Wq ps x y .ready none)::K0):=zf2 _ _ _ _;refine CallT.mono (zkA hT hb (l:=l) (J:=fun pre K=>∃ K3,K=(l,.loop Y.X.f Wq ps x y .ready none)::K3/\J pre K3) (D:=fun K=>∃ c K3,K=(l,.loop Y.X.f Wq ps x y .done (some c))::K3/\D c K3) ?_ ⟨K0,rfl,hJ0⟩ A (hv.sub fun x hx=>hp.symm.subset hx) ((zW hp).nodup_iff.1 hn)) ?_
  ·rintro pre S K1 hpre ⟨K3,rfl,hJ⟩;refine CallFK.perm (Post:=fun r K'=>(r=zr tt/\∃ K2,K'=(l,.loop Y.X.f Wq ps x y .ready none)::(s,zt b)::(h,zX b)::(e,zG b)::K2/\J (pre++[S]) K2)\/(r=zr ff/\∃ c K2,K'=(l,.loop Y.X.f Wq ps x y .done (some c))::(s,zt b)::(h,zX b)::(e,zG b)::K2/\D c K2)) ?_ ?_
   ·refine zdQ hT (i:=l) (f:=Y.X.f) (Wq:=Wq) (ps:=ps) (x:=x) (y:=y) sQ hps.symm fun Y' hro' hl' Wz=>?_;refine bN (perm_4' _ _ _ _) ?_;refine round Y' l (.loop Y.X.f Wq ps x y .ready none) (.loop Y.X.f Wq ps x y .busy none) pre S K3 (fun ds k Wk K K' hu h=>TK.beginRound hro' hl' hu h) (fun Wk K' K2 D' hsp hJ'=>?_) (fun c k Wk K' K2 D' hlv hsp hD=>?_) hpre hJ
    ·exact TK.leave .fin fun A hA=>Wz none Wk K' ((s,zt b)::(h,zX b)::(e,zG b)::K2) D' .busy none hsp (.inl ⟨rfl,K2,rfl,hJ'⟩) A hA
    ·exact TK.leave hlv fun A hA=>Wz (some c) Wk K' ((s,zt b)::(h,zX b)::(e,zG b)::K2) D' .busy none hsp (.inr ⟨rfl,c,K2,rfl,hD⟩) A hA
   ·rintro r K' (⟨rfl,K2,rfl,h⟩|⟨rfl,c,K2,rfl,h⟩)
    ·exact⟨_,zf2 _ _ _ _,_,rfl,.inl ⟨rfl,K2,rfl,h⟩⟩
    ·exact⟨_,zf2 _ _ _ _,_,rfl,.inr ⟨rfl,c,K2,rfl,h⟩⟩
  ·rintro r A' ⟨K',hk,K2,rfl,hx⟩;have hk2:∀ K'',((s,zt b)::(h,zX b)::(e,zG b)::K2).Perm K''->Kstep ((l,AObj.loop Y.X.f Wq ps x y .ready none)::(s,zt b)::(h,zX b)::(e,zG b)::K0) A K'' A':=fun K'' hp2 =>
    Kstep.perm ⟨hk.view,hk.nd,fun i hi=>(hk.own i hi).imp_left fun h=>(zW hp).symm.subset h,fun j h1 h2=>hk.kept j h1 fun h=>h2 ((zW hp).symm.subset h),hk.len⟩ hp2
   rcases hx with⟨K3,rfl,h⟩|⟨c,K3,rfl,h⟩
   ·exact⟨_,hk2 _ (perm_4' _ _ _ _),.ready,none,K3,rfl,.inl ⟨rfl,rfl,h⟩⟩
   ·exact⟨_,hk2 _ (perm_4' _ _ _ _),.done,some c,K3,rfl,.inr ⟨c,rfl,rfl,h⟩⟩
 ·rintro l r K' ⟨st,pj,K2,rfl,h⟩;refine⟨st,pj,_,rfl,?_,K2,rfl,?_⟩
  ·rcases h with⟨rfl,_⟩|⟨c,rfl,_⟩ <;> rfl
  ·rcases h with⟨_,rfl,h⟩|⟨c,_,rfl,h⟩
   ·exact .inl ⟨rfl,h⟩
   ·exact .inr ⟨c,rfl,h⟩
 ·rintro d pj K' ⟨K2,rfl,⟨rfl,h⟩|⟨c,rfl,h⟩⟩
  ·exact hend d K2 h
  ·exact hstop d c K2 h
end
def restM(b:Bk)(i:Nat):List Int:=(List.range' i (b.sP.toNat - i)).map fun k:Nat=>(k:Int)
theorem zer{b:Bk}{i:Nat}(h:b.sP<=i):restM b i=[]:=by
 unfold restM;rw[show b.sP.toNat - i=0 by omega] <;> rfl
theorem zc6{b:Bk}{i:Nat}(h:(i:Int)<b.sP):restM b i=(i:Int)::restM b (i+1):=by
 unfold restM;rw[show b.sP.toNat - i=(b.sP.toNat - (i+1))+1 by omega,List.range'_succ] <;> rfl
def ownM(b:Bk)(S:List Int):List (List Int):=if seenM b S=tt then [S]else []
def loopM(b:Bk):List Int->List Int->List (List Int)
 | _,[]=>[]
 | S,n::Wp=>if (S.length:Int)<b.high then(ownM b (S++[n])++loopM b (S++[n]) Wp)++loopM b S Wp else []
def allM(b:Bk):List (List Int):=ownM b []++loopM b [] (restM b 0)
theorem zaE{b:Bk}{S:List Int}(h:¬ (S.length:Int)<b.high):∀ Wp,loopM b S Wp=[]
 | []=>rfl
 | n::Wp=>by simp only[loopM];rw[if_neg h]
theorem zcs(b:Bk):SmOkz b []:=⟨by simp,by simp⟩
theorem zbo{b:Bk}{S:List Int}{n:Int}(h:SmOkz b S)(hl:S.length<3)(hn:0<=n/\n<b.sP):SmOkz b (S++[n]):=⟨by simp;omega,fun x hx=>by
 rcases lT.1 hx with hx|hx
 ·exact h.mem x hx
 ·rw[lS.1 hx];exact hn⟩
theorem zhr{b:Bk}{S:List Int}(h:SmOkz b S):∀ R∈ownM b S,SmOkz b R:=fun R hR=>by
 unfold ownM at hR;split at hR
 ·rw[lS.1 hR];exact h
 ·cases hR
theorem zch{b:Bk}(hb:BkOk b):∀(Wp:List Int)(S:List Int),SmOkz b S->(∀ n∈Wp,0<=n/\n<b.sP)->∀ R∈loopM b S Wp,SmOkz b R
 | [],S,_,_,R,hR=>by cases hR
 | n::Wp,S,hS,hr,R,hR=>by
  simp only[loopM]at hR;split at hR
  ·rename_i h;have hw:=zbo hS (by have:=hb.high;omega) (hr n sQ);rcases lT.1 hR with hR|hR
   ·rcases lT.1 hR with hR|hR
    ·exact zhr hw R hR
    ·exact zch hb Wp _ hw (fun m hm=>hr m (by simp[hm])) R hR
   ·exact zch hb Wp S hS (fun m hm=>hr m (by simp[hm])) R hR
  ·cases hR
theorem zkf{b:Bk}{i:Nat}:∀ n∈restM b i,0<=n/\n<b.sP:=fun n hn=>by
 unfold restM at hn;rw[lY]at hn;obtain⟨k,hk,rfl⟩:=hn;rw[List.mem_range']at hk;omega
theorem zaa{b:Bk}(hb:BkOk b):∀ S∈allM b,SmOkz b S:=fun S hS=>by
 rcases lT.1 hS with h|h
 ·exact zhr (zcs b) S h
 ·exact zch hb _ _ (zcs b) zkf S h
theorem zar{b:Bk}(hb:BkOk b){pre:List (List Int)}{S:List Int}(h:pre++[S] <+: allM b):SmOkz b S:=zaa hb S (h.subset sQ)
def YieldK(P:gP)(T:gG->Hp->Prop)(gm:Nat->Option Nat)(b:Bk)(e l:Nat)(J:List (List Int)->KV->Prop)(D:KV->Prop)(tot:List (List Int)):Prop:=∀(pre:List (List Int))(S:List Int)(K1:KV),pre++[S] <+: tot->J pre K1 ->
 CallFK P T gm (.yl l) [.agg (yb S)] ((e,zw b)::K1) fun r K'=>∃ K2,K'=(e,zw b)::K2/\((r=zr tt/\J (pre++[S]) K2)\/(r=zr ff/\D K2))
section
variable {P:gP}{gm:Nat->Option Nat}{T:gG->Hp->Prop}{Y:KX P gm T}{ds:List Nat}{k:List Item}{Wq:List AV}{K K':KV}{Qy:Array Oper}{L:List Nat}{Wy:List Pd}
theorem TD.permz(hp:K.Perm K')(h:TD Y ds Qy k Wy L Wq K'):TD Y ds Qy k Wy L Wq K:=fun h1 h2 h3 A hA=>h h1 h2 (fun p hp' x hx=>hp.subset (h3 p hp' x hx)) A
 ⟨hA.view.sub fun x hx=>hp.symm.subset hx,(zW hp).nodup_iff.1 hA.nd,fun i hi=>hA.own i ((zW hp).symm.subset hi),hA.kept,hA.len⟩
end
theorem zaJ{b:Bk}{S:List Int}{i:Nat}{pre x:List (List Int)}(hi:(i:Int)<b.sP)(hs:(S.length:Int)<b.high)(h:pre++loopM b S (restM b i)=x) :
  (pre++(ownM b (S++[(i:Int)])++loopM b (S++[(i:Int)]) (restM b (i+1))))++loopM b S (restM b (i+1))=x:=by
 rw[<- h,zc6 hi];simp only[loopM];rw[if_pos hs];simp only[List.append_assoc]
theorem zlM{main T}(hT:zo tp main T){gm}{b:Bk}{s e l jb jy jn:Nat}(hb:BkOk b){J:List (List Int)->KV->Prop}{D:KV->Prop}{tot:List (List Int)}(hy:YieldK tp T gm b e l J D tot) :
  ∀(m:Nat)(S:List Int)(step:Nat)(pre:List (List Int))(K1:KV),b.sP.toNat - step=m->SmOkz b S->(step:Int)<=b.sP->pre++(ownM b S++loopM b S (restM b step)) <+: tot->J pre K1 ->
  zl tp T gm 109 [.agg (yb S),za step,.ptr jb 0,.ptr jy 0,.ptr jn 0] ((jb,.cells (zA b s e) 110 tt)::(jy,.cells [.yl l] 120 tt)::(jn,.cells [.fn 109 [] [.ptr jb 0,.ptr jy 0,.ptr jn 0]] 118 tt)::(e,zw b)::K1) (fun r K'=>∃ K2,K'=(jb,.cells (zA b s e) 110 tt)::(jy,.cells [.yl l] 120 tt)::(jn,.cells [.fn 109 [] [.ptr jb 0,.ptr jy 0,.ptr jn 0]] 118 tt)::(e,zw b)::K2/\((r=zr tt/\J (pre++(ownM b S++loopM b S (restM b step))) K2)\/(r=zr ff/\D K2))):=by
 refine fun m=>Nat.strongRecOn m fun m ih=>?_;intro S step pre K1 hm hS hst hpre hJ;refine zh 43 hT Tryz.func109 fun Y Wz=>?_;refine au 21042 ?_;intro js hjs;refine au 68068042235 ?_;refine bD Z Z Z Z (zhz hT (s:=s) (e:=e) hb hS.len) ?_ (hs:=(.rem (.tail (.tail (.tail (.tail .head)))) (.none _)));rintro r1 K2 ⟨rfl,rfl⟩;refine au 0 ?_;refine bN (K':=(js,_)::(jb,_)::(jy,_)::(jn,_)::(e,_)::K1) (List.perm_middle (l₁:=[(js,_),(jb,_),(jy,_),(jn,_)])).symm ?_;refine au 1 ?_;refine bF 12 (fun g1_4=>?_) (fun g1_4=>?_)
 ·have hown:ownM b S=[S]:=if_pos g1_4;refine au 680690 ?_;refine TK.callF' Z Z Z Z Z (hy pre S K1 (List.IsPrefix.trans (by rw[hown,<- List.append_assoc];exact List.prefix_append _ _) hpre) hJ) (.right (.right (.right (.right (.all _))))) fun r4 K5 h6=>?_;rcases h6 with⟨K2,rfl,⟨rfl,hJ2⟩|⟨rfl,hD⟩⟩
  ·refine au 0 ?_;refine bN (K':=(js,_)::(jb,_)::(jy,_)::(jn,_)::(e,_)::K2) (lH (l₁:=(e,_)::K2)) ?_;refine au 1303514221201903260300 ?_;refine bA [2,3,4,5,8] ?_;refine bE (fun n Wq K=>∃(i:Nat)(pre1:List (List Int))(K2:KV),n=b.sP.toNat - i/\step<=i/\(i:Int)<=b.sP/\J pre1 K2/\pre1++loopM b S (restM b i)=pre++(ownM b S++loopM b S (restM b step))/\Wq=ym 43 [(2,.ptr jb 0),(3,.ptr jy 0),(4,.ptr jn 0),(5,.ptr js 0),(8,za i)]/\K=(js,.cells (yb S) 114 tt)::(jb,.cells (zA b s e) 110 tt)::(jy,.cells [.yl l] 120 tt)::(jn,.cells [.fn 109 [] [.ptr jb 0,.ptr jy 0,.ptr jn 0]] 118 tt)::(e,zw b)::K2) (b.sP.toNat - step) ⟨step,pre++[S],_,rfl,mL _,hst,hJ2,by rw[hown,List.append_assoc],rfl,rfl⟩ fun n Wq K hI Wj=>?_;obtain⟨i,pre1,K2,rfl,hsi,hi,hJ1,hEq,rfl,rfl⟩:=hI;refine au 176906706701422 ?_;refine bF 24 (fun g4_6=>?_) (fun g4_6=>?_)
   ·simp only[dT_]at g4_6;refine au 932607690670670670690670 ?_;apply aI<;>intro Jx
    ·simp only[dT_]at Jx;have hh:=hb.high;have hst16:=hb.sP;refine au 21302120 ?_;refine TK.dr [0,1,2,4,5,3,6,7] [0,1,2,3,4,5,6,7] ?_;refine ad [[10,4],[12,5],[1,8],[1,8],[8,39]] ?_;refine TD.clE (Wx:=[_,_,_]) [36,37] Z Z Z Z Z (zbI hT oQ (by have:=hb.sP;omega)) ?_;refine TD.cl (Wx:=[_]) [35,38,40] Z Z Z Z Z (ih (b.sP.toNat - (i+1)) oQ (S++[(i:Int)]) (i+1) pre1 K2 Z (zbo hS oQ oQ) oQ (List.IsPrefix.trans ⟨loopM b S (restM b (i+1)),zaJ oQ oQ hEq⟩ hpre) hJ1) (fun r10 K11 h12=>⟨?_,?_⟩) (hs:=(.right (.all _)))
     ·rcases h12 with⟨K3,rfl,⟨rfl,hJ3⟩|⟨rfl,hD⟩⟩
      all_goals simp
     rcases h12 with⟨K3,rfl,⟨rfl,hJ3⟩|⟨rfl,hD⟩⟩
     ·try simp only[cA]
      refine bS tQ ?_;refine TD.permz (K':=(js,_)::(jb,_)::(jy,_)::(jn,_)::(e,_)::K3) (List.perm_append_singleton _ ((jb,_)::(jy,_)::(jn,_)::(e,_)::K3)) ?_;refine bU [41] Z (q_not Z Z) ?_;refine ad [[14]] ?_;refine au 3523014140120190 ?_;refine bA [2,3,4,5,8] ?_;exact Wj _ _ _ oQ ⟨i+1,_,K3,rfl,oQ,oQ,hJ3,zaJ oQ oQ hEq,rfl,rfl⟩
     ·try simp only[cA]
      refine bS tQ ?_;refine TD.permz (K':=(js,_)::(jb,_)::(jy,_)::(jn,_)::(e,_)::K3) (List.perm_append_singleton _ ((jb,_)::(jy,_)::(jn,_)::(e,_)::K3)) ?_;refine bU [41] Z (q_not Z Z) ?_;refine ad [[14]] ?_;refine au 3542180 ?_;refine bB Wz (_) ?_ (hs:=(.right (.all _)));exact⟨_,rfl,.inr ⟨rfl,hD⟩⟩
    have hsh:=oF_ Jx;refine au 3542160 ?_;refine bB Wz (_) ?_ (hs:=(.right (.all _)));refine⟨_,rfl,.inl ⟨rfl,?_⟩⟩;rw[zaE hsh,lR]at hEq;rw[<- hEq];exact hJ1
   simp only[dF_]at g4_6;refine au 354216019032508888888 ?_;refine bB Wz (_) ?_ (hs:=(.right (.all _)));refine⟨_,rfl,.inl ⟨rfl,?_⟩⟩;rw[zer oQ]at hEq;rw[loopM,lR]at hEq;rw[<- hEq];exact hJ1
  ·refine au 0 ?_;refine bN (K':=(js,_)::(jb,_)::(jy,_)::(jn,_)::(e,_)::K2) (lH (l₁:=(e,_)::K2)) ?_;refine au 35421803260300 ?_;refine bB Wz (_) ?_ (hs:=(.right (.all _)));exact⟨_,rfl,.inr ⟨rfl,hD⟩⟩
 have hown:ownM b S=[]:=if_neg (by rw[g1_4];decide);refine au 13035142212019032508888 ?_;refine bA [2,3,4,5,8] ?_;refine bE (fun n Wq K=>∃(i:Nat)(pre1:List (List Int))(K2:KV),n=b.sP.toNat - i/\step<=i/\(i:Int)<=b.sP/\J pre1 K2/\pre1++loopM b S (restM b i)=pre++(ownM b S++loopM b S (restM b step))/\Wq=ym 43 [(2,.ptr jb 0),(3,.ptr jy 0),(4,.ptr jn 0),(5,.ptr js 0),(8,za i)]/\K=(js,.cells (yb S) 114 tt)::(jb,.cells (zA b s e) 110 tt)::(jy,.cells [.yl l] 120 tt)::(jn,.cells [.fn 109 [] [.ptr jb 0,.ptr jy 0,.ptr jn 0]] 118 tt)::(e,zw b)::K2) (b.sP.toNat - step) ⟨step,pre,_,rfl,mL _,hst,hJ,by rw[hown] <;> rfl,rfl,rfl⟩ fun n Wq K hI Wj=>?_;obtain⟨i,pre1,K2,rfl,hsi,hi,hJ1,hEq,rfl,rfl⟩:=hI;refine au 176906706701422 ?_;refine bF 24 (fun g4_6=>?_) (fun g4_6=>?_)
 ·simp only[dT_]at g4_6;refine au 932607690670670670690670 ?_;apply aI<;>intro Jx
  ·simp only[dT_]at Jx;have hh:=hb.high;have hst16:=hb.sP;refine au 21302120 ?_;refine TK.dr [0,1,2,4,5,3,6,7] [0,1,2,3,4,5,6,7] ?_;refine ad [[10,4],[12,5],[1,8],[1,8],[8,39]] ?_;refine TD.clE (Wx:=[_,_,_]) [36,37] Z Z Z Z Z (zbI hT oQ (by have:=hb.sP;omega)) ?_;refine TD.cl (Wx:=[_]) [35,38,40] Z Z Z Z Z (ih (b.sP.toNat - (i+1)) oQ (S++[(i:Int)]) (i+1) pre1 K2 Z (zbo hS oQ oQ) oQ (List.IsPrefix.trans ⟨loopM b S (restM b (i+1)),zaJ oQ oQ hEq⟩ hpre) hJ1) (fun r16 K17 h18=>⟨?_,?_⟩) (hs:=(.right (.all _)))
   ·rcases h18 with⟨K3,rfl,⟨rfl,hJ3⟩|⟨rfl,hD⟩⟩
    all_goals simp
   rcases h18 with⟨K3,rfl,⟨rfl,hJ3⟩|⟨rfl,hD⟩⟩
   ·try simp only[cA]
    refine bS tQ ?_;refine TD.permz (K':=(js,_)::(jb,_)::(jy,_)::(jn,_)::(e,_)::K3) (List.perm_append_singleton _ ((jb,_)::(jy,_)::(jn,_)::(e,_)::K3)) ?_;refine bU [41] Z (q_not Z Z) ?_;refine ad [[14]] ?_;refine au 3523014140120190 ?_;refine bA [2,3,4,5,8] ?_;exact Wj _ _ _ oQ ⟨i+1,_,K3,rfl,oQ,oQ,hJ3,zaJ oQ oQ hEq,rfl,rfl⟩
   ·try simp only[cA]
    refine bS tQ ?_;refine TD.permz (K':=(js,_)::(jb,_)::(jy,_)::(jn,_)::(e,_)::K3) (List.perm_append_singleton _ ((jb,_)::(jy,_)::(jn,_)::(e,_)::K3)) ?_;refine bU [41] Z (q_not Z Z) ?_;refine ad [[14]] ?_;refine au 3542180 ?_;refine bB Wz (_) ?_ (hs:=(.right (.all _)));exact⟨_,rfl,.inr ⟨rfl,hD⟩⟩
  have hsh:=oF_ Jx;refine au 3542160 ?_;refine bB Wz (_) ?_ (hs:=(.right (.all _)));refine⟨_,rfl,.inl ⟨rfl,?_⟩⟩;rw[zaE hsh,lR]at hEq;rw[<- hEq];exact hJ1
 simp only[dF_]at g4_6;refine au 354216019032508888888 ?_;refine bB Wz (_) ?_ (hs:=(.right (.all _)));refine⟨_,rfl,.inl ⟨rfl,?_⟩⟩;rw[zer oQ]at hEq;rw[loopM,lR]at hEq;rw[<- hEq];exact hJ1
theorem zof{main T}(hT:zo tp main T){gm}{b:Bk}{s e l:Nat}(hb:BkOk b){J:List (List Int)->KV->Prop}{D:KV->Prop}{K1:KV}(hy:YieldK tp T gm b e l J D (allM b))(hJ:J [] K1) :
  zl tp T gm 56 [.agg (zA b s e),.yl l] ((e,zw b)::K1) (fun _ K'=>∃ K2,K'=(e,zw b)::K2/\(J (allM b) K2\/D K2)):=by
 refine zh 9 hT Tryz.func56 fun Y Wz=>?_;refine au 21042 ?_;intro jb hjb;refine au 210 ?_;intro jy hjy;refine au 220423 ?_;intro jn hjn;refine au 3170320423 ?_;refine bN (K':=(jb,.cells (zA b s e) 110 tt)::(jy,.cells [.yl l] 120 tt)::(jn,.cells [.fn 109 [] [.ptr jb 0,.ptr jy 0,.ptr jn 0]] 118 tt)::(e,zw b)::K1) ((List.Perm.cons _ (List.Perm.swap _ _ _)).trans ((List.Perm.swap _ _ _).trans (List.Perm.cons _ (List.Perm.swap _ _ _)))) ?_;refine au 4106904 ?_;refine bD Z Z Z Z (zlM hT (s:=s) hb hy _ [] 0 [] K1 Z (zcs b) (by have:=hb.sP;omega) (List.prefix_refl _) hJ) ?_ (hs:=(.all _));rintro r1 K2 h3;rcases h3 with⟨K2,rfl,⟨rfl,hJ2⟩|⟨rfl,hD⟩⟩
 ·refine au 0 ?_;refine bN (K':=(jb,.cells (zA b s e) 110 tt)::(jy,.cells [.yl l] 120 tt)::(jn,.cells [.fn 109 [] [.ptr jb 0,.ptr jy 0,.ptr jn 0]] 118 tt)::(e,zw b)::K2) (by rw[lR]) ?_;refine au 3 ?_;refine TK.rt0 Wz (_) ?_ (hs:=(.right (.right (.right (.all _)))));exact⟨_,rfl,.inl hJ2⟩
 ·refine au 0 ?_;refine bN (K':=(jb,.cells (zA b s e) 110 tt)::(jy,.cells [.yl l] 120 tt)::(jn,.cells [.fn 109 [] [.ptr jb 0,.ptr jy 0,.ptr jn 0]] 118 tt)::(e,zw b)::K2) (by rw[lR]) ?_;refine au 3 ?_;refine TK.rt0 Wz (_) ?_ (hs:=(.right (.right (.right (.all _)))));exact⟨_,rfl,.inr hD⟩
section
variable {main:Bool}{T:gG->Hp->Prop}{gm:Nat->Option Nat}{Y:KX tp gm T}{ds:List Nat}{k:List Item}{Wq:List AV}{K K0 R:KV}
theorem TK.rangeAll(hT:zo tp main T){fo:gO}{ps:Array Tmp}{x y:Code}{b:Bk}{s e:Nat}(hb:BkOk b){J:List (List Int)->KV->Prop}{D:Code->KV->Prop}(hps:ps.size=1)(hro:Y.X.ro=none)(hf:zn gm Wq fo=some (.fn 56 [.agg (zA b s e)] []))(hs:Split K ((e,zw b)::K0) R)(hJ0:J [] K0)
  (round:∀(Y':KX tp gm T)(l:Nat)(lo lb:AObj)(pre:List (List Int))(S:List Int)(K1:KV),(∀ ds k Wk K K',Upd K l lo l lb K'->TK Y' ds k Wk K'->TK Y' ds (.beginRound::k) Wk K) ->
   (∀ Wk K' K2 D',Split K' ((l,lb)::(e,zw b)::K2) D'->J (pre++[S]) K2->TK Y' [] [] Wk K') ->
   (∀ c k Wk K' K2 D',Leave (some c) k->Split K' ((l,lb)::(e,zw b)::K2) D'->D c K2->TK Y' [] k Wk K') ->
   pre++[S] <+: allM b->J pre K1->TK Y' [] [.code x,.beginRound,.code y] (putAll Wq (ps.toList.zip [.agg (yb S)])) ((l,lo)::(e,zw b)::K1))
  (hend:∀ d K2,J (allM b) K2->TK Y (d::ds) k Wq ((d,.raw (.deferred (some [])))::(e,zw b)::(K2++R)))
  (hstop:∀ d c K2,D c K2->TK Y (d::ds) (.code c::k) Wq ((d,.raw (.deferred (some [])))::(e,zw b)::(K2++R))):TK Y ds (.code (.rangeFunc fo ps x y)::k) Wq K:=by
 refine TK.rangeFunc (Post:=fun l _ K'=>∃ st pj K2,K'=(l,.loop Y.X.f Wq ps x y st pj)::(e,zw b)::K2/\((st=.ready/\pj=none/\J (allM b) K2)\/∃ c,st=.done/\pj=some c/\D c K2))
  (Q:=fun pj K'=>∃ K2,K'=(e,zw b)::K2/\((pj=none/\J (allM b) K2)\/∃ c,pj=some c/\D c K2)) hro hf Cal.h hs (fun l hl=>?_) ?_ ?_
 ·intro A hv hn;have hp:((l,AObj.loop Y.X.f Wq ps x y .ready none)::(e,zw b)::K0).Perm ((e,zw b)::(l,.loop Y.X.f Wq ps x y .ready none)::K0):=List.Perm.swap _ _ _;refine CallT.mono (zof hT (s:=s) hb (l:=l) (J:=fun pre K=>∃ K3,K=(l,.loop Y.X.f Wq ps x y .ready none)::K3/\J pre K3) (D:=fun K=>∃ c K3,K=(l,.loop Y.X.f Wq ps x y .done (some c))::K3/\D c K3) ?_ ⟨K0,rfl,hJ0⟩ A (hv.sub fun x hx=>hp.symm.subset hx) ((zW hp).nodup_iff.1 hn)) ?_
  ·rintro pre S K1 hpre ⟨K3,rfl,hJ⟩;refine CallFK.perm (Post:=fun r K'=>(r=zr tt/\∃ K2,K'=(l,.loop Y.X.f Wq ps x y .ready none)::(e,zw b)::K2/\J (pre++[S]) K2)\/(r=zr ff/\∃ c K2,K'=(l,.loop Y.X.f Wq ps x y .done (some c))::(e,zw b)::K2/\D c K2)) ?_ ?_
   ·refine zdQ hT (i:=l) (f:=Y.X.f) (Wq:=Wq) (ps:=ps) (x:=x) (y:=y) sQ hps.symm fun Y' hro' hl' Wz=>?_;refine bN (List.Perm.swap _ _ _) ?_;refine round Y' l (.loop Y.X.f Wq ps x y .ready none) (.loop Y.X.f Wq ps x y .busy none) pre S K3 (fun ds k Wk K K' hu h=>TK.beginRound hro' hl' hu h) (fun Wk K' K2 D' hsp hJ'=>?_) (fun c k Wk K' K2 D' hlv hsp hD=>?_) hpre hJ
    ·exact TK.leave .fin fun A hA=>Wz none Wk K' ((e,zw b)::K2) D' .busy none hsp (.inl ⟨rfl,K2,rfl,hJ'⟩) A hA
    ·exact TK.leave hlv fun A hA=>Wz (some c) Wk K' ((e,zw b)::K2) D' .busy none hsp (.inr ⟨rfl,c,K2,rfl,hD⟩) A hA
   ·rintro r K' (⟨rfl,K2,rfl,h⟩|⟨rfl,c,K2,rfl,h⟩)
    ·exact⟨_,List.Perm.swap _ _ _,_,rfl,.inl ⟨rfl,K2,rfl,h⟩⟩
    ·exact⟨_,List.Perm.swap _ _ _,_,rfl,.inr ⟨rfl,c,K2,rfl,h⟩⟩
  ·rintro r A' ⟨K',hk,K2,rfl,h⟩;have hk2:∀ K'',((e,zw b)::K2).Perm K''->Kstep ((l,AObj.loop Y.X.f Wq ps x y .ready none)::(e,zw b)::K0) A K'' A':=fun K'' hp2 =>
    Kstep.perm ⟨hk.view,hk.nd,fun i hi=>(hk.own i hi).imp_left fun h=>(zW hp).symm.subset h,fun j h1 h2=>hk.kept j h1 fun h=>h2 ((zW hp).symm.subset h),hk.len⟩ hp2
   rcases h with⟨K3,rfl,h⟩|⟨c,K3,rfl,h⟩
   ·exact⟨_,hk2 _ (List.Perm.swap _ _ _),.ready,none,K3,rfl,.inl ⟨rfl,rfl,h⟩⟩
   ·exact⟨_,hk2 _ (List.Perm.swap _ _ _),.done,some c,K3,rfl,.inr ⟨c,rfl,rfl,h⟩⟩
 ·rintro l r K' ⟨st,pj,K2,rfl,h⟩;refine⟨st,pj,_,rfl,?_,K2,rfl,?_⟩
  ·rcases h with⟨rfl,_⟩|⟨c,rfl,_⟩ <;> rfl
  ·rcases h with⟨_,rfl,h⟩|⟨c,_,rfl,h⟩
   ·exact .inl ⟨rfl,h⟩
   ·exact .inr ⟨c,rfl,h⟩
 ·rintro d pj K' ⟨K2,rfl,⟨rfl,h⟩|⟨c,rfl,h⟩⟩
  ·exact hend d K2 h
  ·exact hstop d c K2 h
end
theorem u72:tp.underlying 112=some (.array 3 3):=by kernel_rfl
theorem u3:tp.underlying 3=some (.int .i64):=by kernel_rfl
theorem i3:tp.info? 3=some Tryz.t3:=by kernel_rfl
theorem i3s:Tryz.t3.size=1:=by kernel_rfl
theorem zc1{P:gP}{t:gT}{i:TypeInfo}(h:P.info? t=some i):zL P (sizeOf t)=some i.size:=by
 unfold sizeOf typeInfo
 show zL P ((match P.info? t with|some i=>pure i|none=>stuck "no such type") >>= fun i=>pure i.size)=_
 rw[h];rfl
theorem zjb{d:Nat}{a b:Int}:zL tp (Op.equalIn (d+1) 3 (.int .i64 a) (.int .i64 b))=some (a==b):=by
 unfold Op.equalIn;exact zJ (yi u3) rfl
theorem zaK{cs:Array gV}{off:Nat}{v:gV}(h:cs[off]? =some v):zL tp (part 3 cs off)=some v:=by
 unfold part isAgg;refine zJ (a:=ff) ?_ ?_
 ·exact zJ (yi u3) rfl
 ·simp[h];rfl
theorem wT{α β:Type}{P:gP}(s:Sem α)(f:α->Sem β):zL P (s >>= f)=(zL P s).bind fun a=>zL P (f a):=by
 show zL P (s.bind f)=_
 induction s with
 | pure a=>rfl
 | program k ih=>exact ih P
 | _=>rfl
theorem zaL{α:Type}{P:gP}(a:α):zL P (pure a)=some a:=rfl
theorem zja{d:Nat}{a b c x y z:Int}:zL tp (Op.equalIn (d+2) 112 (.agg #[.int .i64 a,.int .i64 b,.int .i64 c]) (.agg #[.int .i64 x,.int .i64 y,.int .i64 z]))=some (a==x&&(b==y&&c==z)):=by
 unfold Op.equalIn;refine zJ (yi u72) ?_;dsimp only;refine zJ (zc1 i3) ?_;rw[i3s];simp only[Std.Legacy.Range.forIn_eq_forIn_range',Std.Legacy.Range.size,Nat.sub_zero,Nat.add_sub_cancel,Nat.div_one];simp[List.range'];have p0:=fun a b c:gV=>zaK (cs:=#[a,b,c]) (off:=0) rfl;have p1:=fun a b c:gV=>zaK (cs:=#[a,b,c]) (off:=1) rfl;have p2:=fun a b c:gV=>zaK (cs:=#[a,b,c]) (off:=2) rfl;have e:=fun a b:Int=>zjb (d:=d) (a:=a) (b:=b);rcases h1:(a==x) <;> rcases h2:(b==y) <;> rcases h3:(c==z) <;> simp[wT,zaL,p0,p1,p2,e,h1,h2,h3]
def fieldN(P:gP)(t:gT)(i:Nat):Field:=((P.underlying t).bind fun d=>match d with|.struct fs=>fs[i]?|_=>none).getD default
noncomputable def f74a:Field:=fieldN tp 114 0
noncomputable def f74b:Field:=fieldN tp 114 1
theorem u74:tp.underlying 114=some (.struct #[f74a,f74b]):=by kernel_rfl
theorem u74t:f74a.type=3:=by kernel_rfl
theorem u74u:f74b.type=112:=by kernel_rfl
theorem u74o:f74a.offset=0:=by kernel_rfl
theorem u74p:f74b.offset=1:=by kernel_rfl
theorem u74n:(f74a.name == "_")=ff:=by kernel_rfl
theorem u74m:(f74b.name == "_")=ff:=by kernel_rfl
theorem i72:tp.info? 112=some Tryz.t112:=by kernel_rfl
theorem st74:tp.stoodInHeld 114=ff:=by kernel_rfl
theorem g74:tp.eqGuardType tp.depth 114=ff:=by kernel_rfl
theorem g72:tp.eqGuardType tp.depth 112=ff:=by kernel_rfl
theorem zl6{n a b c:gV}:zL tp (part 112 #[n,a,b,c] 1)=some (.agg #[a,b,c]):=by
 unfold part isAgg;refine zJ (a:=tt) ?_ ?_
 ·exact zJ (yi u72) rfl
 ·simp only[if_true];refine zJ (zc1 i72) ?_;rfl
theorem zk4{n a b c m x y z:Int}:zL tp (Op.equal 114 (.agg #[.int .i64 n,.int .i64 a,.int .i64 b,.int .i64 c]) (.agg #[.int .i64 m,.int .i64 x,.int .i64 y,.int .i64 z]))=some (n==m&&(a==x&&(b==y&&c==z))):=by
 have hu:=u74;have hf:=u74t;have hg:=u74u;have hfo:=u74o;have hgo:=u74p
 have hfn:f74a.name ≠ "_" := by have:=u74n;simpa using this
 have hgn:f74b.name ≠ "_" := by have:=u74m;simpa using this
 show zL _ (Op.equalIn (9999+1) 114 _ _)=_;unfold Op.equalIn;refine zJ (yi hu) ?_;simp only[wT];rw[show zL tp program=some tp from rfl];simp[st74,hf,hg,hfo,hgo,hfn,hgn,wT,zaL];have p0:∀ n a b c:gV,zL tp (part 3 #[n,a,b,c] 0)=some n:=fun n a b c=>zaK rfl;have e:=fun a b:Int=>zjb (d:=9998) (a:=a) (b:=b);have ea:=fun a b c x y z:Int=>zja (d:=9997) (a:=a) (b:=b) (c:=c) (x:=x) (y:=y) (z:=z);have pa:=fun n a b c:gV=>zl6 (n:=n) (a:=a) (b:=b) (c:=c);simp only[p0,pa,Option.bind_some];rw[show(9999:Nat)=9998+1 from rfl,e];have ea':∀ a b c x y z:Int,zL tp (Op.equalIn (9998+1) 112 (.agg #[.int .i64 a,.int .i64 b,.int .i64 c]) (.agg #[.int .i64 x,.int .i64 y,.int .i64 z]))=some (a==x&&(b==y&&c==z)):=fun a b c x y z=>ea a b c x y z;rcases h1:(n==m) <;> rcases h2:(a==x&&(b==y&&c==z)) <;> simp[wT,zaL,pa,ea',h2]
theorem zd4{t:gT}{x y:gO}{xs ys:Array gV}(hg:tp.eqGuardType tp.depth t=ff){s:Sem gV}{z:gV}(h:zL tp s=some z):zL tp (eqGuard .eql t x y (.agg xs) (.agg ys) >>= fun _=>s)=some z:=by
 refine zJ (a:=()) ?_ h;generalize tp=P at hg ⊢;unfold eqGuard;show zL P (if (!P.eqGuardType P.depth t)=tt then pure ()else _)=_;rw[hg];rfl
section
variable {gm:Nat->Option Nat}{V:KV}{Wq:List AV}{o:Oper}
theorem zj3{x y:gO}{n a b c m x1 y1 z1:Int}(ho:o.op=.binOp .eql 114 x y 114)(hx:zn gm Wq x=some (.agg [.v (.int .i64 n),.v (.int .i64 a),.v (.int .i64 b),.v (.int .i64 c)]))(hy:zn gm Wq y=some (.agg [.v (.int .i64 m),.v (.int .i64 x1),.v (.int .i64 y1),.v (.int .i64 z1)])):Qk tp gm Wq V o (.v (.bool (n==m&&(a==x1&&(b==y1&&c==z1))))):=fun A _ =>
 wu ho (by rw[zq hx];rfl) (by rw[zq hy];rfl) (zd4 g74 (zJ zk4 rfl))
theorem zj4{x y:gO}{a b c x1 y1 z1:Int}(ho:o.op=.binOp .eql 112 x y 112)(hx:zn gm Wq x=some (.agg [.v (.int .i64 a),.v (.int .i64 b),.v (.int .i64 c)]))(hy:zn gm Wq y=some (.agg [.v (.int .i64 x1),.v (.int .i64 y1),.v (.int .i64 z1)])):Qk tp gm Wq V o (.v (.bool (a==x1&&(b==y1&&c==z1)))):=fun A _ =>
 wu ho (by rw[zq hx];rfl) (by rw[zq hy];rfl) (zd4 g72 (zJ (show zL tp (Op.equal 112 _ _)=_ from zja (d:=9998)) rfl))
end
def firstNZ(f:Nat->Int):Nat->Int
 | 0=>0
 | n+1=>if firstNZ f n=0 then f n else firstNZ f n
theorem zaz{f:Nat->Int}{i:Nat}{c:Int}(h0:firstNZ f i=0)(h1:f i=c)(hc:c≠0):∀{n:Nat},i<n->firstNZ f n=c
 | 0,h=>absurd h (Nat.not_lt_zero _)
 | n+1,h=>by
  rcases mR i n with Qp|hge
  ·have:=zaz h0 h1 hc Qp;unfold firstNZ;rw[this,if_neg hc]
  ·obtain rfl:i=n:=by omega
   unfold firstNZ;rw[if_pos h0,h1]
theorem up{f:Nat->Int}:∀{n:Nat},firstNZ f n=0->∀ i,i<n->f i=0
 | 0,_,i,h=>absurd h (Nat.not_lt_zero _)
 | n+1,h,i,hi=>by
  unfold firstNZ at h;split at h
  ·rename_i h0;rcases mR i n with Qp|hge
   ·exact up h0 i Qp
   ·obtain rfl:i=n:=by omega
    exact h
  ·rename_i h0;exact absurd h h0
def barH(b:Bk)(xs:List Int)(i:Nat):Int:=match xs[i]? with
 | some x=>if (!zS b x)=tt then 6 else if (decide ((i:Int)>0)&&decide (x<=(xs[i - 1]?).getD 0))=tt then 7 else 0
 | none=>0
def handedM(b:Bk)(xs:List Int):Int:=if xs.length>3 then 2 else firstNZ (barH b xs) xs.length
def handedS(b:Bk)(xs:List Int):List Int:=if handedM b xs=0 then xs else []
theorem zh7{b:Bk}{xs:List Int}(h:handedM b xs=0):xs.length<=3:=by
 unfold handedM at h;split at h
 ·cases h
 ·omega
theorem zh6{b:Bk}{xs:List Int}(h:handedM b xs=0){i:Nat}(hi:i<xs.length):barH b xs i=0:=by
 unfold handedM at h;split at h
 ·cases h
 ·exact up h i hi
theorem zd6{b:Bk}{xs:List Int}(h:handedM b xs=0):SmOkz b xs:=⟨zh7 h,fun x hx=>by
 obtain⟨i,hi,rfl⟩:=List.mem_iff_getElem.1 hx;have:=zh6 h hi;unfold barH at this;rw[lA hi]at this;dsimp only at this;split at this
 ·cases this
 ·rename_i h2;simp only[zS,mV,Bool.not_eq_false,mX,dT_]at h2;omega⟩
def isSeekerM(b:Bk)(n:Int):Bool:=decide (0<=n)&&decide (n<=(b.kE.length:Int) - 1)
theorem yH{b:Bk}(h:zF b=0):BkOk b:=by
 unfold zF at h;split at h
 ·rename_i h1;rw[h]at h1;cases h1
 ·rename_i h1;obtain⟨q1,q2,q3,q4,q5,q6,q7⟩:=kA (b:=b) (by simpa using h1);split at h
  ·rename_i h2;rw[h]at h2;cases h2
  ·rename_i h2;have h3:heardM b=0:=by simpa using h2
   unfold heardM at h3;split at h3
   ·cases h3
   ·rename_i h4;unfold lookedM at h;split at h
    ·cases h
    ·rename_i h5;split at h
     ·cases h
     ·rename_i h6;refine⟨⟨q1,q2⟩,q5,q7,⟨q3,q4⟩,oQ,oQ,fun x hx=>?_,fun x hx=>?_⟩
      ·obtain⟨i,hi,rfl⟩:=List.mem_iff_getElem.1 hx;have hz:∀ n,heardL b n=firstNZ (heard1 b) n:=fun n=>by
        induction n with
        | zero=>rfl
        | succ n ih=>unfold heardL firstNZ;rw[ih]
       rw[hz]at h3;have:=up h3 i hi;unfold heard1 at this;rw[lA hi]at this;dsimp only at this;split at this
       ·cases this
       ·split at this
        ·cases this
        ·split at this
         ·cases this
         ·rename_i _ _ h9;split at this
          ·cases this
          ·rename_i h10;simp only[zS,Bool.or_eq_true,mV,Bool.and_eq_false_iff,dF_,dT_]at h9 h10;omega
      ·simp only[List.any_eq_true,not_exists,not_and]at h6;have:=h6 x hx;simp only[zS,mV,Bool.not_eq_false,mX,dT_]at this;omega
def zeroBk:List AV:=[za 0,za 0,za 0,za 0,.v (.slice none 0 0),.v (.slice none 0 0)]
def stepPrev{xs:List Int}{i:Nat}(h:i<xs.length):(xs[i]?).getD 0=xs[i]:=by rw[lA h] <;> rfl
def rightApi(b:Bk)(xs:List Int)(k:Int):Bool×Int:=if zF b≠0 then(ff,zF b)else if handedM b xs≠0 then(ff,handedM b xs)else if (!isSeekerM b k)=tt then(ff,6)else(yh b xs k.toNat,0)
def stateApi(b:Bk)(xs:List Int):Bool×Int:=if zF b≠0 then(ff,zF b)else if handedM b xs≠0 then(ff,handedM b xs)else(decide (xs∈allM b)&&canM b xs,0)
theorem zh8{main T}(hT:zo tp main T){gm}{b:Bk}{s e j off:Nat}{ob:AObj}{xs:List Int}(hs:0<=b.sP/\b.sP<=16)(hI:IntsAt ob off xs)(hlx:xs.length<=1000) :
  zl tp T gm 106 [.agg (zA b s e),.sl j off xs.length] [(j,ob)] (fun r K'=>r=.tup [.agg (yb (handedS b xs)),za (handedM b xs)]/\K'=[(j,ob)]):=by
 refine zh 43 hT Tryz.func106 fun Y Wz=>?_;refine au 21042 ?_;intro jb hjb;refine au 220 ?_;intro js hjs;refine au 937280142235 ?_;apply aI<;>intro Jz
 ·simp only[dT_]at Jz;refine au 3517041042 ?_;refine bB Wz [(j,_)] ?_;have hb1:handedM b xs=2:=if_pos oQ;exact⟨by unfold handedS;rw[if_neg (by rw[hb1];decide),hb1] <;> rfl,rfl⟩
 simp only[dF_]at Jz;refine au 130312801422120 ?_;refine bA [1,2,4,12,13,14] ?_;refine bE (fun n Wq K=>∃(i:Nat),n=xs.length - i/\i<=xs.length/\firstNZ (barH b xs) i=0/\Wq=ym 43 [(1,.sl j off xs.length),(2,.ptr jb 0),(4,.ptr js 0),(12,.sl j off xs.length),(13,za xs.length),(14,za i)]/\K=[(js,.cells (yb (xs.take i)) 114 tt),(jb,.cells (zA b s e) 110 tt),(j,ob)]) xs.length ⟨0,rfl,mN _,rfl,rfl,rfl⟩ fun n Wq K hI' Wj=>?_;obtain⟨i,rfl,hi,h0,rfl,rfl⟩:=hI';refine au 923742 ?_;apply aI<;>intro Jx
 ·simp only[dT_]at Jx;have Qb:i<xs.length:=by omega
  have hx:=lA Qb;have htl:(xs.take i).length<3:=by rw[List.length_take];omega
  refine au 3601421302120 ?_;refine bH Z (zg Z Z ze.h mQ (hI i Qb)) ?_;refine au 1680421302355 ?_;refine TK.clE Z Z Z Z (wc hT (s:=s) (e:=e) hs) ?_;refine au 935300 ?_;apply aI<;>intro hc2
  ·refine au 3517041042 ?_;refine bB Wz [(j,_)] ?_;have hb1:handedM b xs=6:=by unfold handedM;rw[if_neg oQ];exact zaz h0 (by unfold barH zS;rw[hx];dsimp only;rw[hc2] <;> rfl) dQ Qb
   exact⟨by unfold handedS;rw[if_neg (by rw[hb1];decide),hb1] <;> rfl,rfl⟩
  have hst2:0<=xs[i]/\xs[i]<=b.sP - 1:=by simpa using hc2
  refine au 17142 ?_;refine bF 28 (fun g8_3=>?_) (fun g8_3=>?_)
  ·have hgi:0<i:=by have:=oT_ g8_3;omega
   refine au 360240111 ?_;refine bH Z (zg Z Z ze.h mQ (by have:=hI (i - 1) oQ;rwa[show((i - 1:Nat):Int).toNat=((i:Int) - 1).toNat by omega]at this)) ?_;refine au 9352607 ?_;apply aI<;>intro hc3
   ·refine au 3517041042 ?_;refine bB Wz [(j,_)] ?_;have hb1:handedM b xs=7:=by unfold handedM;rw[if_neg oQ];exact zaz h0 (by unfold barH zS;rw[hx];dsimp only;rw[hc2,g8_3,stepPrev (show i - 1<xs.length by omega),hc3] <;> rfl) dQ Qb
    exact⟨by unfold handedS;rw[if_neg (by rw[hb1];decide),hb1] <;> rfl,rfl⟩
   refine au 16804140120 ?_;refine TK.clE Z Z Z Z (zbI hT htl oQ) ?_;refine au 3123041403170 ?_;refine bA [1,2,4,12,13,14] ?_;have hst:barH b xs i=0:=by unfold barH zS;rw[hx];dsimp only;rw[hc2,if_neg dQ,g8_3,stepPrev (show i - 1<xs.length by omega),hc3] <;> rfl
   exact Wj _ _ _ oQ ⟨i+1,rfl,oQ,by unfold firstNZ;rw[if_pos h0];exact hst,rfl,by rw[List.take_add_one,hx] <;> rfl⟩
  refine au 16804140120190352508888888 ?_;refine TK.clE Z Z Z Z (zbI hT htl oQ) ?_;refine au 3123041403170 ?_;refine bA [1,2,4,12,13,14] ?_;have hst:barH b xs i=0:=by unfold barH zS;rw[hx];dsimp only;rw[hc2,if_neg dQ,g8_3] <;> rfl
  exact Wj _ _ _ oQ ⟨i+1,rfl,oQ,by unfold firstNZ;rw[if_pos h0];exact hst,rfl,by rw[List.take_add_one,hx] <;> rfl⟩
 simp only[dF_]at Jx;obtain rfl:i=xs.length:=by omega
 refine au 3517068042160 ?_;refine bB Wz [(j,_)] ?_;have hb1:handedM b xs=0:=by unfold handedM;rw[if_neg oQ];exact h0
 exact⟨by unfold handedS;rw[if_pos hb1,hb1,lW] <;> rfl,rfl⟩
theorem zgs{main:Bool}{T:gG->Hp->Prop}(hT:zo tp main T){b:Bk}{s e:Nat}{j off:Nat}{ob:AObj}{xs:List Int}(hn:∀ x∈b.kE,x.name.size<=1000)(hl:b.seen.length<=1000)(hI:IntsAt ob off xs)(hlx:xs.length<=1000) :
  zl tp T gmR 53 [.agg (zA b s e),.sl j off xs.length] [(0,zx),(s,zu b),(e,zw b),(j,ob)] (fun r K'=>((zF b≠0/\r=.tup [.agg zeroBk,.agg (yb []),za (zF b)])\/(zF b=0/\r=.tup [.agg (zA b s e),.agg (yb (handedS b xs)),za (handedM b xs)]))/\K'=[(0,zx),(s,zu b),(e,zw b),(j,ob)]):=by
 refine zh 28 hT Tryz.func53 fun Y Wz=>?_;refine au 21042 ?_;intro jb hjb;refine au 220 ?_;intro j1 hj1;refine au 220 ?_;intro j2 hj2;refine au 68042235 ?_;refine TK.clE Z Z Z Z (kR hT (b:=b) (s:=s) (e:=e) hn hl) ?_;refine au 93714235 ?_;apply aI<;>intro Jz
 ·refine au 35170170141043042 ?_;refine bB Wz [(0,_),(s,_),(e,_),(j,_)] ?_;exact⟨.inl ⟨by simpa using Jz,rfl⟩,rfl⟩
 have Jx:zF b=0:=by simpa using Jz
 have hb:=yH Jx;refine au 143068042120 ?_;refine TK.clE Z Z Z Z (zh8 hT (b:=b) (s:=s) (e:=e) (by have:=hb.sP;omega) hI hlx) ?_;refine au 220661 ?_;intro j9 hj9;refine au 235170 ?_;refine bL [0,1,4,2,5,3,6] ?_;refine ad [[12,2]] ?_;refine bU [24] Z (kh (l:=[_,_,_,_,_,_]) Z TyZ.h BlOf.h Z) ?_;refine ad [[12,8],[1,9]] ?_;refine bR (Wx:=[_,_]) [4,25] Z Z (zz Z Z ze.h Z Z mQ Z) ?_;refine bR (Wx:=[_]) [5,26] Z Z (zz Z Z ze.h Z Z mQ Z) ?_;refine ad [[13,27],[14]] ?_;refine au 0 ?_;refine bB Wz [(0,_),(s,_),(e,_),(j,_)] ?_;exact⟨.inr ⟨Jx,rfl⟩,rfl⟩
theorem uT{main T}(hT:zo tp main T){gm}{b:Bk}{s e:Nat}{n:Int}(hs:b.kE.length<=1000) :
  zl tp T gm 54 [.agg (zA b s e),za n] [] (fun r K'=>r=zr (isSeekerM b n)/\K'=[]):=by
 refine zh 12 hT Tryz.func54 fun Y Wz=>?_;refine au 21042 ?_;intro jb hjb;refine au 24028069067067014235 ?_;refine TK.clE Z Z Z Z (uf hT) ?_;refine au 35 ?_;refine bB Wz [] ?_;exact⟨rfl,rfl⟩
theorem zbR{main:Bool}{T:gG->Hp->Prop}(hT:zo tp main T){b:Bk}{s e:Nat}{k:Int}{j off:Nat}{ob:AObj}{xs:List Int}(hn:∀ x∈b.kE,x.name.size<=1000)(hl:b.seen.length<=1000)(hI:IntsAt ob off xs)(hlx:xs.length<=1000) :
  zl tp T gmR 18 [.agg (zA b s e),.sl j off xs.length,za k] [(0,zx),(1,zC),(s,zu b),(e,zw b),(j,ob)] (fun r K'=>r=.tup [zr (rightApi b xs k).1,za (rightApi b xs k).2]/\K'=[(0,zx),(1,zC),(s,zu b),(e,zw b),(j,ob)]):=by
 refine zh 31 hT Tryz.func18 fun Y Wz=>?_;refine au 21042 ?_;intro j1 hj1;refine au 168042355 ?_;refine bD Z Z Z Z (zgs hT (b:=b) (s:=s) (e:=e) hn hl hI hlx) ?_;rintro r2 K3 h4;rcases h4 with⟨⟨Jx,rfl⟩|⟨Jx,rfl⟩,rfl⟩
 ·refine au 2206661 ?_;intro j5 hj5;refine au 220 ?_;intro j6 hj6;refine au 9357142130235170170 ?_;apply aI<;>intro Jz
  ·refine au 355142 ?_;refine bB Wz [(0,_),(1,_),(s,_),(e,_),(j,_)] ?_;exact⟨by unfold rightApi;rw[if_pos Jx] <;> rfl,rfl⟩
  exact absurd (by simpa using Jz) Jx
 ·refine au 2206661 ?_;intro j7 hj7;refine au 220 ?_;intro j8 hj8;refine au 9357142130235170170 ?_;apply aI<;>intro Jz
  ·refine au 355142 ?_;refine bB Wz [(0,_),(1,_),(s,_),(e,_),(j,_)] ?_;exact⟨by unfold rightApi;rw[if_neg (by rw[Jx];decide),if_pos (by simpa using Jz)] <;> rfl,rfl⟩
  have hh0:handedM b xs=0:=by simpa using Jz
  have hb:=yH Jx;have hS:=zd6 hh0;have hxs:handedS b xs=xs:=if_pos hh0;rw[hxs];refine au 168042 ?_;refine TK.clE Z Z Z Z (uT hT (b:=b) (s:=s) (e:=e) (by have:=hb.ns;omega)) ?_;refine au 935300 ?_;apply aI<;>intro hc2
  ·refine au 35542 ?_;refine bB Wz [(0,_),(1,_),(s,_),(e,_),(j,_)] ?_;exact⟨by unfold rightApi;rw[if_neg (by rw[Jx];decide),if_neg (by simpa using Jz),if_pos hc2] <;> rfl,rfl⟩
  have hc2:=hc2;have hk:0<=k/\k<=(b.kE.length:Int) - 1:=by simpa[isSeekerM]using hc2
  obtain⟨m,rfl⟩:∃ m:Nat,k=m:=⟨k.toNat,oQ⟩;refine au 168068042140120 ?_;refine TK.clE Z Z Z Z (uN hT (s:=s) (e:=e) hb hS oQ) ?_;refine au 355 ?_;refine bB Wz [(0,_),(1,_),(s,_),(e,_),(j,_)] ?_;exact⟨by unfold rightApi;rw[if_neg (by rw[Jx];decide),if_neg (by simpa using Jz),if_neg (by rw[hc2];decide)] <;> rfl,rfl⟩
theorem zbc(b:Bk):∀(Wp:List Int)(S:List Int),(loopM b S Wp).length+1<=2 ^ Wp.length
 | [],S=>by simp[loopM]
 | n::Wp,S=>by
  simp only[loopM];have h1:=zbc b Wp (S++[n]);have h2:=zbc b Wp S;have h3:(ownM b (S++[n])).length<=1:=by unfold ownM;split <;> simp
  split
  ·simp only[lF,List.length_cons,Nat.pow_succ];omega
  ·simp;exact Nat.one_le_two_pow
theorem zb1{b:Bk}(hb:BkOk b):(allM b).length<=65536:=by
 unfold allM;have h1:=zbc b (restM b 0) [];have h3:(ownM b []).length<=1:=by unfold ownM;split <;> simp
 have h2:(restM b 0).length<=16:=by
  unfold restM;have:=hb.sP;simp;omega
 have:=Nat.pow_le_pow_right (n:=2) oQ h2;rw[lF];omega
theorem zf5{b:Bk}(hb:BkOk b){pre:List (List Int)}{S:List Int}(h:pre++[S] <+: allM b)(p:List Int->Bool):(pre.filter p).length<=65536:=by
 have h1:=h.length_le;have h2:=zb1 hb;have h3:=List.length_filter_le p pre;simp at h1;omega
def zd(b:Bk):List (List Int):=(allM b).filter (canM b)
theorem zlb{p:List Int->Bool}{pre:List (List Int)}{S:List Int}(h:p S=tt):(pre++[S]).filter p=pre.filter p++[S]:=by rw[List.filter_append];simp[h]
theorem zla{p:List Int->Bool}{pre:List (List Int)}{S:List Int}(h:p S=ff):(pre++[S]).filter p=pre.filter p:=by rw[List.filter_append];simp[h]
theorem zgj{b:Bk}{S R:List Int}(hS:SmOkz b S)(hR:SmOkz b R):(((S.length:Int)==R.length)&&((((S[0]?).map (· + 1)).getD 0==((R[0]?).map (· + 1)).getD 0)&&((((S[1]?).map (· + 1)).getD 0==((R[1]?).map (· + 1)).getD 0)&&(((S[2]?).map (· + 1)).getD 0==((R[2]?).map (· + 1)).getD 0))))=decide (S=R):=by
 by_cases h:S=R
 ·subst h;simp
 ·rw[decide_eq_false h,Bool.eq_false_iff];intro hc;apply h;simp only[mX,beq_iff_eq]at hc;obtain⟨h0,h3,h4,h5⟩:=hc;have h1:=hS.len;have h2:=hR.len;rcases S with _|⟨a,_|⟨c,_|⟨d,_|⟨f,S⟩⟩⟩⟩ <;> rcases R with _|⟨x,_|⟨y,_|⟨z,_|⟨g,R⟩⟩⟩⟩ <;> simp at h0 h1 h2 h3 h4 h5 <;> first|omega|(simp;omega)|simp
theorem zkv(S:List Int):((((S[0]?).map (· + 1)).getD 0==((S[0]?).map (· + 1)).getD 0)&&((((S[1]?).map (· + 1)).getD 0==((S[1]?).map (· + 1)).getD 0)&&(((S[2]?).map (· + 1)).getD 0==((S[2]?).map (· + 1)).getD 0)))=tt:=by simp
theorem zbV{main:Bool}{T:gG->Hp->Prop}(hT:zo tp main T){b:Bk}{s e:Nat}(hse:s≠e){j off:Nat}{ob:AObj}{xs:List Int}(hn:∀ x∈b.kE,x.name.size<=1000)(hl:b.seen.length<=1000)(hI:IntsAt ob off xs)(hlx:xs.length<=1000) :
  zl tp T gmR 19 [.agg (zA b s e),.sl j off xs.length] [(0,zx),(1,zC),(s,zu b),(e,zw b),(j,ob)] (fun r K'=>r=.tup [zr (stateApi b xs).1,za (stateApi b xs).2]/\K'=[(0,zx),(1,zC),(s,zu b),(e,zw b),(j,ob)]):=by
 refine vc 36 hT Tryz.func19 fun Y hro Wz=>?_;refine au 21042 ?_;intro jb hjb;refine au 220 ?_;intro jr hjr;refine au 220 ?_;intro jq hjq;refine au 1680423 ?_;refine bD Z Z Z Z (zgs hT (b:=b) (s:=s) (e:=e) hn hl hI hlx) ?_;rintro r1 K2 h3;rcases h3 with⟨⟨Jx,rfl⟩|⟨Jx,rfl⟩,rfl⟩
 ·refine au 2206661 ?_;intro jx hjx;refine au 220 ?_;intro jS hjS;refine au 937142235170170 ?_;apply aI<;>intro Jz
  ·refine au 3170170142 ?_;refine TK.leave (.ret _) fun A hA=>Wz _ _ _ _ ([(0,_),(1,_),(s,_),(e,_),(j,_),(jr,_),(jq,_)]) ([(0,_),(1,_),(s,_),(e,_),(j,_)]) _ _ _ (.inr rfl) vQ sQ sQ vQ (kC (.cons (yG Z ze.h mQ rfl) (.cons (yG Z ze.h mQ rfl) ResKs.nil)) rfl) ?_ A hA;exact⟨by unfold stateApi;rw[if_pos Jx] <;> rfl,rfl⟩
  exact absurd (by simpa using Jz) Jx
 ·refine au 2206661 ?_;intro jx hjx;refine au 220 ?_;intro jS hjS;refine au 937142235170170 ?_;apply aI<;>intro Jz
  ·refine au 3170170142 ?_;refine TK.leave (.ret _) fun A hA=>Wz _ _ _ _ ([(0,_),(1,_),(s,_),(e,_),(j,_),(jr,_),(jq,_)]) ([(0,_),(1,_),(s,_),(e,_),(j,_)]) _ _ _ (.inr rfl) vQ sQ sQ vQ (kC (.cons (yG Z ze.h mQ rfl) (.cons (yG Z ze.h mQ rfl) ResKs.nil)) rfl) ?_ A hA;exact⟨by unfold stateApi;rw[if_neg (by rw[Jx];decide),if_pos (by simpa using Jz)] <;> rfl,rfl⟩
  have hh0:handedM b xs=0:=by simpa using Jz
  have hb:=yH Jx;have hS:=zd6 hh0;have hxs:handedS b xs=xs:=if_pos hh0;rw[hxs];refine au 1303320680422120 ?_;refine TK.rangeAll hT hb (s:=s) (e:=e) (J:=fun pre K1=>K1=[(jr,.cells [zr ff] 4 tt),(jq,.cells [za 0] 38 tt),(jx,.cells (zA b s e) 110 tt),(jS,.cells (yb xs) 114 tt),(1,zC),(s,zu b)]/\xs∉pre) (D:=fun c K1=>c=.ret/\xs∈allM b/\K1=[(jr,.cells [zr (canM b xs)] 4 tt),(jq,.cells [za 0] 38 tt),(jx,.cells (zA b s e) 110 tt),(jS,.cells (yb xs) 114 tt),(1,zC),(s,zu b)]) rfl hro rfl vQ ⟨rfl,by simp⟩ (fun Y' l lo lb pre S K1 hbegin Qj hout hpre hJ=>?_) (fun d K2 hJ=>?_) (fun d c K2 hD=>?_)
  ·obtain⟨rfl,hni⟩:=hJ;have hSm:=zar hb hpre;refine au 2204 ?_;intro j9 hj9;refine au 3170 ?_;refine hbegin _ _ _ _ _ uQ ?_;refine au 68068042130 ?_;refine bH Z (zj3 Z Z Z) ?_;refine au 1 ?_;refine bF 26 (fun g6_4=>?_) (fun g6_4=>?_)
   ·rw[zgj hSm hS]at g6_4;obtain rfl:S=xs:=oT_ g6_4;refine au 680670680670 ?_;refine bH Z (zj4 Z Z Z) ?_;refine au 93260 ?_;refine⟨fun hc1b=>?_,fun hc1b=>?_⟩
    ·refine au 68068042 ?_;refine TK.clE Z Z Z Z (zi1 hT (s:=s) (e:=e) hse hb hSm) ?_;refine au 3170170 ?_;exact hout _ _ _ _ [(jr,_),(jq,_),(jx,_),(jS,_),(1,_),(s,_)] _ (.ret _) vQ ⟨rfl,hpre.subset sQ,rfl⟩
    exact absurd (zkv S) (by rw[hc1b];decide)
   rw[zgj hSm hS]at g6_4;have hne:S≠xs:=oF_ g6_4;refine au 140120190325088888 ?_;exact Qj _ _ [(jr,_),(jq,_),(jx,_),(jS,_),(1,_),(s,_)] _ vQ ⟨rfl,by simp only[lT,lS,not_or];exact⟨hni,fun h=>hne h.symm⟩⟩
  ·obtain⟨rfl,hni⟩:=hJ;simp only[cA];refine au 317017042140 ?_;refine TK.leave (.ret _) fun A hA=>Wz _ _ _ _ ([(0,_),(1,_),(s,_),(e,_),(j,_),(jr,_),(jq,_)]) ([(0,_),(1,_),(s,_),(e,_),(j,_)]) _ _ _ (.inr rfl) vQ sQ sQ vQ (kC (.cons (yG Z ze.h mQ rfl) (.cons (yG Z ze.h mQ rfl) ResKs.nil)) rfl) ?_ A hA;exact⟨by unfold stateApi;rw[if_neg (by rw[Jx];decide),if_neg (by simpa using Jz),decide_eq_false hni] <;> rfl,rfl⟩
  ·obtain⟨rfl,hmem,rfl⟩:=hD;simp only[cA];refine au 0 ?_;refine TK.leave (.ret _) fun A hA=>Wz _ _ _ _ ([(0,_),(1,_),(s,_),(e,_),(j,_),(jr,_),(jq,_)]) ([(0,_),(1,_),(s,_),(e,_),(j,_)]) _ _ _ (.inr rfl) vQ sQ sQ vQ (kC (.cons (yG Z ze.h mQ rfl) (.cons (yG Z ze.h mQ rfl) ResKs.nil)) rfl) ?_ A hA;exact⟨by unfold stateApi;rw[if_neg (by rw[Jx];decide),if_neg (by simpa using Jz),decide_eq_true hmem] <;> rfl,rfl⟩
theorem zaR{main:Bool}{T:gG->Hp->Prop}(hT:zo tp main T){b:Bk}{s e:Nat}(hse:s≠e)(hb:BkOk b) :
  zl tp T gmR 59 [.agg (zA b s e)] [(1,zC),(s,zu b),(e,zw b)] (fun r K'=>∃ j,r=.row j (zd b).length/\K'=[(1,zC),(s,zu b),(e,zw b),(j,.row ((zd b).flatMap yb) 114 4)]):=by
 refine vc 16 hT Tryz.func59 fun Y hro Wz=>?_;refine au 21042 ?_;intro jb hjb;refine au 2204235 ?_;intro jl hjl;refine TK.virtC (t:=121) (e:=114) (size:=4) (fun _=>uQ) fun j0 hj0=>?_;refine au 13033206804223 ?_;refine TK.rangeAll hT hb (s:=s) (e:=e) (J:=fun pre K1=>∃ j,K1=[(jl,.cells [.row j (pre.filter (canM b)).length] 121 tt),(j,.row ((pre.filter (canM b)).flatMap yb) 114 4),(jb,.cells (zA b s e) 110 tt),(1,zC),(s,zu b)]) (D:=fun _ _=>False) rfl hro rfl vQ ⟨j0,rfl⟩ (fun Y' l lo lb pre S K1 hbegin Qj hout hpre hJ=>?_) (fun d K2 hJ=>?_) (fun d c K2 hD=>?_)
 ·obtain⟨j,rfl⟩:=hJ;have hSm:=zar hb hpre;have hpl:=zf5 hb hpre (canM b);refine au 2204 ?_;intro j1 hj1;refine au 3170 ?_;refine hbegin _ _ _ _ _ uQ ?_;refine au 68068042130 ?_;refine TK.clE Z Z Z Z (zi1 hT (s:=s) (e:=e) hse hb hSm) ?_;refine au 93 ?_;apply aI<;>intro Jz
  ·refine au 6806904 ?_;refine TK.newR Z Z Z (zH (l:=[_,_,_,_]) Z zp.h TyZ.h dQ dQ Z) (fun _=>zD rfl tQ) fun j5 hj5=>?_;refine TK.appR Z Z Z (a_app Z ApOf.h Z mQ (yW yb 4 (fun _=>rfl) _) rfl (yO (ln:=[_,_,_,_]) mQ dQ sQ rfl) oQ rfl (by unfold maxLen;omega) oQ) (fun _=>uQ) (fun _=>zD rfl tQ) fun j2=>?_;refine au 1403170 ?_;exact Qj _ _ [(jl,_),(j2,_),(jb,_),(1,_),(s,_)] _ vQ ⟨j2,by rw[zlb Jz,List.flatMap_append,lF] <;> rfl⟩
  refine au 140120 ?_;exact Qj _ _ [(jl,_),(j,_),(jb,_),(1,_),(s,_)] _ vQ ⟨j,by rw[zla Jz] <;> rfl⟩
 ·obtain⟨j,rfl⟩:=hJ;simp only[cA];refine au 3569042140 ?_;refine TK.leave (.ret _) fun A hA=>Wz _ _ _ _ ([(1,_),(s,_),(e,_),(j,_)]) ([(1,_),(s,_),(e,_),(j,_)]) _ _ _ (.inr rfl) vQ sQ sQ vQ (yR (zQ Z)) ?_ A hA;exact⟨j,rfl,rfl⟩
 ·exact hD.elim
end Go.Vel
end
