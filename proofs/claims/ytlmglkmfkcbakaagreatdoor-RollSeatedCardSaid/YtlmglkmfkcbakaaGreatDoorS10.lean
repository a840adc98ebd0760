/- Texts for the statements of chapter 8: what all of them need, part 11. It holds of every program, tape and world that the statements name, as each theorem says. -/
import Derived.Test.YtlmglkmfkcbakaaGreatDoorRows
import Derived.Test.YtlmglkmfkcbakaaGreatDoorCards
import Derived.Test.YtlmglkmfkcbakaaGreatDoorTie
import Derived.ProofKit
import Derived.LaidMore
import Derived.LaidHandle
import Derived.LaidOnce
import Derived.OpenShut
import Derived.Stop.Joined
import Derived.Conc.LeavingOf
import Derived.Conc.HoldsTime
import Derived.Carry
import Derived.LaidLaws
import Derived.SevenTiedAt
import Derived.Test.YtlmglkmfkcbakaaGreatDoorS3
import Derived.Test.YtlmglkmfkcbakaaGreatDoorS5
import Derived.Test.YtlmglkmfkcbakaaGreatDoorS7
import Derived.Test.YtlmglkmfkcbakaaGreatDoorS9
open Go renaming TypeId -> gT, Program -> gP, Value -> gV, World -> gW
open Bool renaming true -> tt, false -> ff
section
set_option linter.all false
set_option maxRecDepth 20000
set_option maxHeartbeats 60000000
open Go.Proofs.Tryz renaming prog -> tp
open List renaming getElem?_eq_getElem -> lA, nil_append -> lC, getElem?_eq_some_iff -> lD, getD_eq_getElem?_getD -> lE, length_append -> lF, getElem?_append_left -> lG, perm_append_comm -> lH, mem_cons -> lI, length_map -> lJ, eq_nil_of_length_eq_zero -> lK, mem_cons_of_mem -> lL, map_append -> lM, mem_of_getElem? -> lN, getElem?_append_right -> lO, getElem?_map -> lQ, append_nil -> lR, mem_singleton -> lS, mem_append -> lT, take_length -> lW, getElem?_set -> lX, mem_map -> lY
open List.Mem renaming head -> mC
open Array renaming getElem?_eq_getElem -> mD
open Nat renaming le_refl -> mL, zero_le -> mN, zero_add -> mO, eq_zero_or_pos -> mP, lt_or_ge -> mR, le_trans -> mT
open Bool renaming and_eq_true -> mX
open Option renaming map_eq_some_iff -> mY
open Int renaming toNat_natCast -> mZ
open Go.Vel.TK renaming maskL -> bA, rt -> bB, kp -> bC, cl -> bD, loopN -> bE, sp -> bF, na -> bG, a -> bH, newR -> bI, dq -> bL, perm -> bN, frzRow -> bY, asSl -> bZ
open Go.Vel.TD renaming cl -> bQ, norm -> bS, z -> bU, cnewR -> bV
namespace Go.Vel
open Go Go.Conc Go.Proofs Go.ChangeShapes Go.WideShapes Go.ChangeAt Go.RowKit
open Go.ConcM (OsLater)
def tblLaid:List (String×DataW Unit):=[("velarium/roll.checks",Go.Proofs.YtlmglkmfkcbakaaGreatDoor.Rows.laid_velarium_roll_checks),("velarium/strip.checks",Go.Proofs.YtlmglkmfkcbakaaGreatDoor.Rows.laid_velarium_strip_checks)]
theorem tbl4 {P:gP} {W:gW} {n:String} {d:DataW Unit} {g0 t0 e0:Nat} {ps rs:Array gT} {va:Bool} {b1 b2 b3 b4:UInt8} {r1 r2 r3 r4:List UInt8} {f1 f2 f3 f4:Nat} (h:funcsAt P W n d)
  (hg0:P.globalNamed n=some g0) (ht0:(P.globals[g0]?).map (·.type)=some t0) (hu:P.underlying t0=some (.array 4 e0)) (he:P.underlying e0=some (.func ps rs va)) (hc:P.cellsOf e0=1) (hc3:P.cellsOf t0=4)
  (hd:d.funcsOut=.agg [.held (b1::r1),.held (b2::r2),.held (b3::r3),.held (b4::r4)])
  (q1:((List.range P.funcs.size).filter fun f=>(P.funcs[f]?).any (·.name.toUTF8.data.toList==b1::r1))=[f1])
  (q2:((List.range P.funcs.size).filter fun f=>(P.funcs[f]?).any (·.name.toUTF8.data.toList==b2::r2))=[f2])
  (q3:((List.range P.funcs.size).filter fun f=>(P.funcs[f]?).any (·.name.toUTF8.data.toList==b3::r3))=[f3])
  (q4:((List.range P.funcs.size).filter fun f=>(P.funcs[f]?).any (·.name.toUTF8.data.toList==b4::r4))=[f4]) :
  ∃ cur e fz,W.heap[g0]? =some (.cells cur e fz)/\cur[0]? =some (.func (.func f1) #[] #[])/\cur[1]? =some (.func (.func f2) #[] #[])/\cur[2]? =some (.func (.func f3) #[] #[])/\cur[3]? =some (.func (.func f4) #[] #[]):=by
 obtain ⟨g,t,cs,fuel,p,hg,ht,hv,htr⟩:=h;obtain rfl:=Option.some.inj (hg0.symm.trans hg);obtain rfl:=Option.some.inj (ht0.symm.trans ht);rw [hd] at htr;obtain ⟨xs,m,rfl,hx,Wb,hn,hel⟩:=DataW.trod_array hu htr
 match xs,hn with
 | [x0,x1,x2,x3],_ =>
 simp only [Prod.mk.injEq,DataW.agg.injEq,List.map_cons,List.map_nil,List.cons.injEq,and_true] at hx;obtain ⟨⟨e1,e2,e3,e4⟩,_⟩:=hx;rw [hc3] at Wb;obtain ⟨l⟩:=cs
 match l,Wb with
 | [c0,c1,c2,c3],_ =>
 have h0:=hel 0 dQ;have h1:=hel 1 dQ;have h2:=hel 2 dQ;have h3:=hel 3 dQ;rw [hc] at h0 h1 h2 h3;obtain ⟨x0,y0⟩:=x0;obtain ⟨x1,y1⟩:=x1;obtain ⟨x2,y2⟩:=x2;obtain ⟨x3,y3⟩:=x3;dsimp only at e1 e2 e3 e4;subst e1 e2 e3 e4;obtain rfl:=func_of_trod (v:=c0) he q1 h0;obtain rfl:=func_of_trod (v:=c1) he q2 h1;obtain rfl:=func_of_trod (v:=c2) he q3 h2;obtain rfl:=func_of_trod (v:=c3) he q4 h3;have k0:=World.var?_cell hg hv 0;have k1:=World.var?_cell hg hv 1;have k2:=World.var?_cell hg hv 2;have k3:=World.var?_cell hg hv 3;simp only [List.getElem?_toArray,List.getElem?_cons_zero,List.getElem?_cons_succ] at k0 k1 k2 k3;simp only [World.cell?] at k0 k1 k2 k3;cases hh:W.heap[g0]? with
 | none=>rw [hh] at k0; cases k0
 | some o =>
  cases o with
  | cells cur e fz=>rw [hh] at k0 k1 k2 k3; exact ⟨cur,e,fz,rfl,by simpa using k0,by simpa using k1,by simpa using k2,by simpa using k3⟩
  | _=>rw [hh] at k0; cases k0
set_option maxRecDepth 100000 in
theorem tbl3L {P:gP} {W:gW} {n:String} {d:DataW Unit} {g0 t0 e0:Nat} {ps rs:Array gT} {va:Bool} {b0 b1 b2:UInt8} {r0 r1 r2:List UInt8} {f0 f1 f2:Nat} (h:funcsAt P W n d)
  (hg0:P.globalNamed n=some g0) (ht0:(P.globals[g0]?).map (·.type)=some t0) (hu:P.underlying t0=some (.array 3 e0)) (he:P.underlying e0=some (.func ps rs va)) (hc:P.cellsOf e0=1) (hc3:P.cellsOf t0=3)
  (hd:d.funcsOut=.agg [.held (b0::r0),.held (b1::r1),.held (b2::r2)])
  (q0:((List.range P.funcs.size).filter fun f=>(P.funcs[f]?).any (·.name.toUTF8.data.toList==b0::r0))=[f0])
  (q1:((List.range P.funcs.size).filter fun f=>(P.funcs[f]?).any (·.name.toUTF8.data.toList==b1::r1))=[f1])
  (q2:((List.range P.funcs.size).filter fun f=>(P.funcs[f]?).any (·.name.toUTF8.data.toList==b2::r2))=[f2])
  : ∃ cur e fz,W.heap[g0]? =some (.cells cur e fz)/\cur[0]? =some (.func (.func f0) #[] #[])/\cur[1]? =some (.func (.func f1) #[] #[])/\cur[2]? =some (.func (.func f2) #[] #[]):=by
 obtain ⟨g,t,cs,fuel,p,hg,ht,hv,htr⟩:=h;obtain rfl:=Option.some.inj (hg0.symm.trans hg);obtain rfl:=Option.some.inj (ht0.symm.trans ht);rw [hd] at htr;obtain ⟨xs,m,rfl,hx,Wb,hn,hel⟩:=DataW.trod_array hu htr
 match xs,hn with
 | [x0,x1,x2],_ =>
 simp only [Prod.mk.injEq,DataW.agg.injEq,List.map_cons,List.map_nil,List.cons.injEq,and_true] at hx;obtain ⟨⟨e0,e1,e2⟩,_⟩:=hx;rw [hc3] at Wb;obtain ⟨l⟩:=cs
 match l,Wb with
 | [c0,c1,c2],_ =>
 have h0:=hel 0 dQ;have h1:=hel 1 dQ;have h2:=hel 2 dQ;rw [hc] at h0 h1 h2;obtain ⟨x0,y0⟩:=x0;obtain ⟨x1,y1⟩:=x1;obtain ⟨x2,y2⟩:=x2;dsimp only at e0 e1 e2;subst e0 e1 e2;obtain rfl:=func_of_trod (v:=c0) he q0 h0;obtain rfl:=func_of_trod (v:=c1) he q1 h1;obtain rfl:=func_of_trod (v:=c2) he q2 h2;have k0:=World.var?_cell hg hv 0;have k1:=World.var?_cell hg hv 1;have k2:=World.var?_cell hg hv 2;simp only [List.getElem?_toArray,List.getElem?_cons_zero,List.getElem?_cons_succ] at k0 k1 k2;simp only [World.cell?] at k0 k1 k2;cases hh:W.heap[g0]? with
 | none=>rw [hh] at k0; cases k0
 | some o =>
  cases o with
  | cells cur e fz=>rw [hh] at k0 k1 k2; exact ⟨cur,e,fz,rfl,by simpa using k0,by simpa using k1,by simpa using k2⟩
  | _=>rw [hh] at k0; cases k0
set_option maxRecDepth 100000 in
theorem zmP {W:gW} (h:laidMetH tp tblLaid W):(∃ cur e fz,W.heap[0]? =some (.cells cur e fz)/\cur[0]? =some (.func (.func 219) #[] #[])/\cur[1]? =some (.func (.func 220) #[] #[])/\cur[2]? =some (.func (.func 221) #[] #[])/\cur[3]? =some (.func (.func 222) #[] #[]))/\(∃ cur e fz,W.heap[1]? =some (.cells cur e fz)/\cur[0]? =some (.func (.func 223) #[] #[])/\cur[1]? =some (.func (.func 224) #[] #[])/\cur[2]? =some (.func (.func 225) #[] #[])) :=
 ⟨tbl4 (h.funcs (n := "velarium/roll.checks") (List.mem_cons_self ..)) (t0:=196) (e0:=137) (by kernel_rfl) (by kernel_rfl) Tryz.underlying196 Tryz.underlying137 (by kernel_rfl) (by kernel_rfl) rfl (by kernel_rfl) (by kernel_rfl) (by kernel_rfl) (by kernel_rfl),
  tbl3L (h.funcs (n := "velarium/strip.checks") (lL _ (List.mem_cons_self ..))) (t0:=219) (e0:=218) (by kernel_rfl) (by kernel_rfl) Tryz.underlying219 Tryz.underlying218 (by kernel_rfl) (by kernel_rfl) rfl (by kernel_rfl) (by kernel_rfl) (by kernel_rfl)⟩
theorem zbF {α:Type} {p:Nat->α->Prop}:∀ n,(∀ i,i<n->∃ z,p i z)->∃ zs:List α,zs.length=n/\∀ (i:Nat) z,zs[i]? =some z->p i z
 | 0,_=>⟨[],rfl,fun i z h=>by simp at h⟩
 | n+1,h=>by
  obtain ⟨zs,h1,h2⟩:=zbF n fun i hi=>h i oQ;obtain ⟨z,hz⟩:=h n oQ;refine ⟨zs++[z],by simp [h1],fun i y hy=>?_⟩;rcases mR i n with hi | hi
  ·rw [lG oQ] at hy;exact h2 i y hy
  ·rw [lO oQ,h1] at hy;rcases mP (i - n) with h0 | h0
   ·rw [h0] at hy; cases hy;obtain rfl:i=n:=by omega
    exact hz
   ·rw [List.getElem?_eq_none (by simp; omega)] at hy; cases hy
theorem wX {H:Type} {enc:gT×gV->H} {P:gP} {W:gW} {sp:Nat->Bool} {held:Bool} {α:Type} {vals:α->List gV} {c fuel:Nat} {t e:gT} {cs:List gV} {x:DataW H×List MemPlace} (hu:P.underlying t=some (.slice e)) (hce:P.cellsOf e=c) (Qx:0<c)
  (hdec:∀ (m:Nat) cs x,DataW.trod enc P W 0 sp held m e cs=some x->∃ z,cs=vals z) (h:DataW.trod enc P W 0 sp held fuel t cs=some x) :
  ∃ (zs:List α) (b:Option Addr) (cap:Nat),cs=[.slice b zs.length cap]/\zs.length<=cap/\(0<zs.length->∃ blk off cur e' fz,b=some ⟨blk,off,none⟩/\W.heap[blk]? =some (.cells cur e' fz) /\
   ∀ (i:Nat) z (j:Nat),zs[i]? =some z->j<c->cur[off+(i*c+j)]? =(vals z)[j]?):=by
 rcases DataW.trod_slice hu h with ⟨rfl,_⟩ | ⟨a,len,cap,elems,Wp,n,_,rfl,_,_,hlc,_,hel,hat,_,_⟩
 ·exact ⟨[],none,0,rfl,mL _,fun h=>absurd h sQ⟩
 ·obtain ⟨zs,hz1,hz2⟩:=zbF (p:=fun i z=>W.cells? 0 (a.add (i*P.cellsOf e)) (P.cellsOf e)=some (vals z)) len fun i hi=>by
   have:=hat i hi;rw [lA oQ,Option.bind_eq_some_iff] at this;obtain ⟨cs',h1,h2⟩:=this;obtain ⟨z,rfl⟩:=hdec _ _ _ h2;exact ⟨z,h1⟩
  refine ⟨zs,some a,cap,by rw [hz1],oQ,fun hp=>?_⟩;have hcell:∀ (i:Nat) z (j:Nat),zs[i]? =some z->j<c->W.cell? ((a.add (i*c)).add j)=(vals z)[j]? :=fun i z j hi hj=>by
   have:=hz2 i z hi;rw [hce] at this;exact (World.cells?_some this).2.2 j hj
  have Wb:∀ (i:Nat) z,zs[i]? =some z->(vals z).length=c:=fun i z hi=>by
   have:=hz2 i z hi;rw [hce] at this;exact (World.cells?_some this).2.1
  obtain ⟨z0,hz0⟩:∃ z,zs[0]? =some z:=⟨_,lA hp⟩;have h00:=hcell 0 z0 0 hz0 Qx;rw [lA (by rw [Wb 0 z0 hz0]; exact Qx)] at h00;have hspot:a.spot=none:=by simpa [Addr.add] using World.cell?_spot h00
  obtain ⟨blk,off,spot⟩:=a;dsimp only at hspot;subst hspot;have hadd:∀ n,(⟨blk,off,none⟩:Addr).add n=⟨blk,off+n,none⟩:=fun n=>by
   unfold Addr.add;split
   ·rename_i h; subst h; rfl
   ·rfl
  have hadd2:∀ n m,((⟨blk,off,none⟩:Addr).add n).add m=⟨blk,off+(n+m),none⟩:=fun n m=>by
   rw [hadd];unfold Addr.add;split
   ·rename_i h; subst h; simp
   ·simp [Nat.add_assoc]
  rw [hadd2] at h00;unfold World.cell? at h00;dsimp only at h00;cases hh:W.heap[blk]? with
  | none=>rw [hh] at h00; cases h00
  | some o =>
   cases o with
   | cells cur e' fz =>
    refine ⟨blk,off,cur,e',fz,rfl,hh,fun i z j hi hj=>?_⟩;have:=hcell i z j hi hj;rw [hadd2] at this;unfold World.cell? at this;dsimp only at this;rw [hh] at this;simpa using this
   | _=>rw [hh] at h00; cases h00
def seamV (x:RSeam):List gV:=[.int .i64 x.step,.int .i64 x.most,.int .i64 x.busy,.int .i64 x.spoil,.bool x.whole]
def bandV (x:RBand):List gV:=[.int .i64 x.low,.int .i64 x.high]
def measV (x:RMeas):List gV:=[.int .i64 x.cloth,.int .i64 x.many,.int .i64 x.wide]
theorem listN2 {α:Type} {l:List α} (h:l.length=2):∃ a b,l=[a,b]:=by
 match l,h with
 | [a,b],_=>exact ⟨a,b,rfl⟩
theorem listN3 {α:Type} {l:List α} (h:l.length=3):∃ a b c,l=[a,b,c]:=by
 match l,h with
 | [a,b,c],_=>exact ⟨a,b,c,rfl⟩
theorem listN5 {α:Type} {l:List α} (h:l.length=5):∃ a b c d e,l=[a,b,c,d,e]:=by
 match l,h with
 | [a,b,c,d,e],_=>exact ⟨a,b,c,d,e,rfl⟩
theorem listN7 {α:Type} {l:List α} (h:l.length=7):∃ a b c d e f g,l=[a,b,c,d,e,f,g]:=by
 match l,h with
 | [a,b,c,d,e,f,g],_=>exact ⟨a,b,c,d,e,f,g,rfl⟩
section
variable {H:Type} {enc:gT×gV->H} {W:gW} {sp:Nat->Bool} {held:Bool}
theorem yy {α:Type} {xs:List α} {n i:Nat} (h:xs.length=n) (hi:i<n):∃ y,xs[i]? =some y:=⟨_,lA (h ▸ hi)⟩
theorem yn {P:gP} {n:Nat} {t:gT} {c:gV} {y:Option (DataW H×List MemPlace)} {z:DataW H×List MemPlace} {l:List gV} (h:DataW.trod enc P W 0 sp held n t l=y) (hy:y=some z) (hl:l=[c]):DataW.trod enc P W 0 sp held n t [c]=some z:=by rw [<- hl,h,hy]
theorem zks (m:Nat) (cs:List gV) (x:DataW H×List MemPlace) (h:DataW.trod enc tp W 0 sp held m 132 cs=some x):∃ z,cs=seamV z:=by
 obtain ⟨xs,n,rfl,hx,Wb,hxs,hf⟩:=DataW.trod_struct Tryz.underlying132 h;have hlen':cs.length=5:=Wb.trans (by kernel_rfl);have hxs':xs.length=5:=hxs;have c3:tp.cellsOf 3=1:=by kernel_rfl
 have c4:tp.cellsOf 4=1:=by kernel_rfl
 obtain ⟨v0,v1,v2,v3,v4,rfl⟩:=listN5 hlen';obtain ⟨y0,q0⟩:=yy hxs' (i:=0) dQ;obtain ⟨y1,q1⟩:=yy hxs' (i:=1) dQ;obtain ⟨y2,q2⟩:=yy hxs' (i:=2) dQ;obtain ⟨y3,q3⟩:=yy hxs' (i:=3) dQ;obtain ⟨y4,q4⟩:=yy hxs' (i:=4) dQ;obtain ⟨z0,e0,_⟩:=DataW.trod_int Tryz.underlying3 (yn (c:=v0) (hf 0 _ rfl) q0 (by show List.take (tp.cellsOf 3) (List.drop 0 _)=_; rw [c3]; rfl));obtain ⟨z1,e1,_⟩:=DataW.trod_int Tryz.underlying3 (yn (c:=v1) (hf 1 _ rfl) q1 (by show List.take (tp.cellsOf 3) (List.drop 1 _)=_; rw [c3]; rfl));obtain ⟨z2,e2,_⟩:=DataW.trod_int Tryz.underlying3 (yn (c:=v2) (hf 2 _ rfl) q2 (by show List.take (tp.cellsOf 3) (List.drop 2 _)=_; rw [c3]; rfl));obtain ⟨z3,e3,_⟩:=DataW.trod_int Tryz.underlying3 (yn (c:=v3) (hf 3 _ rfl) q3 (by show List.take (tp.cellsOf 3) (List.drop 3 _)=_; rw [c3]; rfl));obtain ⟨z4,e4,_⟩:=DataW.trod_bool Tryz.underlying4 (yn (c:=v4) (hf 4 _ rfl) q4 (by show List.take (tp.cellsOf 4) (List.drop 4 _)=_; rw [c4]; rfl));cases e0;cases e1;cases e2;cases e3;cases e4;exact ⟨⟨z0,z1,z2,z3,z4⟩,rfl⟩
theorem zkq (m:Nat) (cs:List gV) (x:DataW H×List MemPlace) (h:DataW.trod enc tp W 0 sp held m 45 cs=some x):∃ z,cs=bandV z:=by
 obtain ⟨xs,n,rfl,hx,Wb,hxs,hf⟩:=DataW.trod_struct Tryz.underlying45 h;have hlen':cs.length=2:=Wb.trans (by kernel_rfl);have hxs':xs.length=2:=hxs;have c3:tp.cellsOf 3=1:=by kernel_rfl
 obtain ⟨v0,v1,rfl⟩:=listN2 hlen';obtain ⟨y0,q0⟩:=yy hxs' (i:=0) dQ;obtain ⟨y1,q1⟩:=yy hxs' (i:=1) dQ;obtain ⟨z0,e0,_⟩:=DataW.trod_int Tryz.underlying3 (yn (c:=v0) (hf 0 _ rfl) q0 (by show List.take (tp.cellsOf 3) (List.drop 0 _)=_; rw [c3]; rfl));obtain ⟨z1,e1,_⟩:=DataW.trod_int Tryz.underlying3 (yn (c:=v1) (hf 1 _ rfl) q1 (by show List.take (tp.cellsOf 3) (List.drop 1 _)=_; rw [c3]; rfl));cases e0;cases e1;exact ⟨⟨z0,z1⟩,rfl⟩
theorem zkr (m:Nat) (cs:List gV) (x:DataW H×List MemPlace) (h:DataW.trod enc tp W 0 sp held m 88 cs=some x):∃ z,cs=measV z:=by
 obtain ⟨xs,n,rfl,hx,Wb,hxs,hf⟩:=DataW.trod_struct Tryz.underlying88 h;have hlen':cs.length=3:=Wb.trans (by kernel_rfl);have hxs':xs.length=3:=hxs;have c3:tp.cellsOf 3=1:=by kernel_rfl
 obtain ⟨v0,v1,v2,rfl⟩:=listN3 hlen';obtain ⟨y0,q0⟩:=yy hxs' (i:=0) dQ;obtain ⟨y1,q1⟩:=yy hxs' (i:=1) dQ;obtain ⟨y2,q2⟩:=yy hxs' (i:=2) dQ;obtain ⟨z0,e0,_⟩:=DataW.trod_int Tryz.underlying3 (yn (c:=v0) (hf 0 _ rfl) q0 (by show List.take (tp.cellsOf 3) (List.drop 0 _)=_; rw [c3]; rfl));obtain ⟨z1,e1,_⟩:=DataW.trod_int Tryz.underlying3 (yn (c:=v1) (hf 1 _ rfl) q1 (by show List.take (tp.cellsOf 3) (List.drop 1 _)=_; rw [c3]; rfl));obtain ⟨z2,e2,_⟩:=DataW.trod_int Tryz.underlying3 (yn (c:=v2) (hf 2 _ rfl) q2 (by show List.take (tp.cellsOf 3) (List.drop 2 _)=_; rw [c3]; rfl));cases e0;cases e1;cases e2;exact ⟨⟨z0,z1,z2⟩,rfl⟩
def SlIn (W:gW) {α:Type} (vals:α->List gV) (c:Nat) (zs:List α) (v:gV):Prop:=∃ (b:Option Addr) (cap:Nat),v=.slice b zs.length cap/\zs.length<=cap/\(0<zs.length->∃ blk off cur e' fz,b=some ⟨blk,off,none⟩/\W.heap[blk]? =some (.cells cur e' fz) /\
   ∀ (i:Nat) z (j:Nat),zs[i]? =some z->j<c->cur[off+(i*c+j)]? =(vals z)[j]?)
theorem zjg {v:gV} {d:DataW H} {p:List MemPlace} (hv:∃ cs,v=.agg cs) (h:DataW.Trod enc tp W 0 sp held 26 v d p):∃ (b:RBk) (v1 v2 v3:gV),v=.agg #[.int .i64 b.steps,.int .i64 b.round,.int .i64 b.roll,.int .i64 b.rolls,v1,v2,v3]/\SlIn W seamV 5 b.sE v1/\SlIn W bandV 2 b.sH v2/\SlIn W measV 3 b.mE v3:=by
 obtain ⟨ca,rfl⟩:=hv;obtain ⟨fuel,h⟩:=h;generalize hcs:(Value.agg ca).cells.toList=cs at h;obtain ⟨xs,n,rfl,hx,Wb,hxs,hf⟩:=DataW.trod_struct Tryz.underlying26 h;have hlen':cs.length=7:=Wb.trans (by kernel_rfl);have hxs':xs.length=7:=hxs;have c3:tp.cellsOf 3=1:=by kernel_rfl
 have c22:tp.cellsOf 22=1:=by kernel_rfl
 have c23:tp.cellsOf 23=1:=by kernel_rfl
 have c24:tp.cellsOf 24=1:=by kernel_rfl
 obtain ⟨v0,v1,v2,v3,v4,v5,v6,rfl⟩:=listN7 hlen';obtain ⟨y0,q0⟩:=yy hxs' (i:=0) dQ;obtain ⟨y1,q1⟩:=yy hxs' (i:=1) dQ;obtain ⟨y2,q2⟩:=yy hxs' (i:=2) dQ;obtain ⟨y3,q3⟩:=yy hxs' (i:=3) dQ;obtain ⟨y4,q4⟩:=yy hxs' (i:=4) dQ;obtain ⟨y5,q5⟩:=yy hxs' (i:=5) dQ;obtain ⟨y6,q6⟩:=yy hxs' (i:=6) dQ;obtain ⟨a0,e0,_⟩:=DataW.trod_int Tryz.underlying3 (yn (c:=v0) (hf 0 _ rfl) q0 (by show List.take (tp.cellsOf 3) (List.drop 0 _)=_; rw [c3]; rfl));obtain ⟨a1,e1,_⟩:=DataW.trod_int Tryz.underlying3 (yn (c:=v1) (hf 1 _ rfl) q1 (by show List.take (tp.cellsOf 3) (List.drop 1 _)=_; rw [c3]; rfl));obtain ⟨a2,e2,_⟩:=DataW.trod_int Tryz.underlying3 (yn (c:=v2) (hf 2 _ rfl) q2 (by show List.take (tp.cellsOf 3) (List.drop 2 _)=_; rw [c3]; rfl));obtain ⟨a3,e3,_⟩:=DataW.trod_int Tryz.underlying3 (yn (c:=v3) (hf 3 _ rfl) q3 (by show List.take (tp.cellsOf 3) (List.drop 3 _)=_; rw [c3]; rfl));obtain ⟨l4,b4,cap4,e4,k4,r4⟩:=wX (vals:=seamV) (c:=5) Tryz.underlying22 (by kernel_rfl) dQ zks (yn (c:=v4) (hf 4 _ rfl) q4 (by show List.take (tp.cellsOf 22) (List.drop 4 _)=_; rw [c22]; rfl));obtain ⟨l5,b5,cap5,e5,k5,r5⟩:=wX (vals:=bandV) (c:=2) Tryz.underlying23 (by kernel_rfl) dQ zkq (yn (c:=v5) (hf 5 _ rfl) q5 (by show List.take (tp.cellsOf 23) (List.drop 5 _)=_; rw [c23]; rfl));obtain ⟨l6,b6,cap6,e6,k6,r6⟩:=wX (vals:=measV) (c:=3) Tryz.underlying24 (by kernel_rfl) dQ zkr (yn (c:=v6) (hf 6 _ rfl) q6 (by show List.take (tp.cellsOf 24) (List.drop 6 _)=_; rw [c24]; rfl));cases e0; cases e1; cases e2; cases e3; cases e4; cases e5; cases e6;refine ⟨⟨a0,a1,a2,a3,l4,l5,l6⟩,_,_,_,?_,⟨b4,cap4,rfl,k4,r4⟩,⟨b5,cap5,rfl,k5,r5⟩,⟨b6,cap6,rfl,k6,r6⟩⟩;have:ca.toList=_:=hcs;rw [<- Array.toArray_toList (xs:=ca),this]
end
def locV:gV->Loc3
 | .slice (some a) _ _=>⟨a.block,a.off,0⟩
 | _=>⟨0,0,0⟩
def holdAll (W:gW):Hp:=fun b=>(W.heap[b]?).map fun o=>(ff,o)
theorem zeW (W:gW):Fits (holdAll W) W:=fun b rw' o h=>by
 unfold holdAll at h;obtain ⟨x,h1,h2⟩:=mY.1 h;cases h2;exact h1
theorem wE {W:gW} {b:Nat} {o:Obj} (h:W.heap[b]? =some o):holdAll W b=some (ff,o):=by unfold holdAll; rw [h]; rfl
theorem zbY {α:Type} {f:α->List AV} {c:Nat} (hc:∀ x,(f x).length=c):∀ (zs:List α) (j:Nat) a,(zs.flatMap f)[j]? =some a->∃ i z jj,zs[i]? =some z/\jj<c/\j=i*c+jj/\(f z)[jj]? =some a
 | [],j,a,h=>by simp at h
 | z::zs,j,a,h=>by
  rw [List.flatMap_cons] at h;rcases mR j c with hj | hj
  ·rw [lG (by rw [hc]; exact hj)] at h;exact ⟨0,z,j,rfl,hj,oQ,h⟩
  ·rw [lO (by rw [hc]; exact hj),hc] at h;obtain ⟨i,y,jj,h1,h2,h3,h4⟩:=zbY hc zs _ a h;exact ⟨i+1,y,jj,h1,h2,by rw [Nat.succ_mul]; omega,h4⟩
theorem uW {W:gW} {α:Type} {vals:α->List gV} {f:α->List AV} {c:Nat} {zs:List α} {v:gV} {φ:Nat->Loc3} {n:Nat} {e:gT} (h:SlIn W vals c zs v) (hc:∀ x,(f x).length=c)
  (hrel:∀ z (jj:Nat) a,(f z)[jj]? =some a->∃ y,(vals z)[jj]? =some y/\RelV φ n a y):RelO φ n (locV v) (holdAll W) (.cells (zs.flatMap f) e ff):=by
 intro hne;obtain ⟨b,cap,rfl,hle,hq⟩:=h;have Qx:0<zs.length:=by
  rcases mP zs.length with h0 | h0
  ·rw [lK h0] at hne; exact absurd rfl hne
  ·exact h0
 obtain ⟨blk,off,cur,e',fz,rfl,hh,hcell⟩:=hq Qx;refine ⟨ff,cur,(e',fz),wE hh,(fun h=>by cases h),fun j a ha=>?_⟩;obtain ⟨i,z,jj,h1,h2,rfl,h4⟩:=zbY hc zs j a ha;obtain ⟨y,h5,h6⟩:=hrel z jj a h4;exact ⟨y,(hcell i z jj h1 h2).trans h5,h6⟩
theorem vP {W:gW} {α:Type} {vals:α->List gV} {c:Nat} {zs:List α} {v:gV} {φ:Nat->Loc3} {n i:Nat} (h:SlIn W vals c zs v) (hi:i<n) (hφ:φ i=locV v):RelV φ n (.sl i 0 zs.length) v:=by
 obtain ⟨b,cap,rfl,hle,hq⟩:=h;refine .sl hi hle fun Qx=>?_;obtain ⟨blk,off,cur,e',fz,rfl,_⟩:=hq Qx;rw [hφ];rfl
theorem zlz {φ:Nat->Loc3} {n:Nat} (z) (jj:Nat) (a:AV) (h:(seamC z)[jj]? =some a):∃ y,(seamV z)[jj]? =some y/\RelV φ n a y:=by
 match jj,h with
 | 0,h=>cases h; exact ⟨_,rfl,.v _⟩
 | 1,h=>cases h; exact ⟨_,rfl,.v _⟩
 | 2,h=>cases h; exact ⟨_,rfl,.v _⟩
 | 3,h=>cases h; exact ⟨_,rfl,.v _⟩
 | 4,h=>cases h; exact ⟨_,rfl,.v _⟩
 | jj+5,h=>simp [seamC] at h
theorem zke {φ:Nat->Loc3} {n:Nat} (z) (jj:Nat) (a:AV) (h:(bandC z)[jj]? =some a):∃ y,(bandV z)[jj]? =some y/\RelV φ n a y:=by
 match jj,h with
 | 0,h=>cases h; exact ⟨_,rfl,.v _⟩
 | 1,h=>cases h; exact ⟨_,rfl,.v _⟩
 | jj+2,h=>simp [bandC] at h
theorem zkU {φ:Nat->Loc3} {n:Nat} (z) (jj:Nat) (a:AV) (h:(measC z)[jj]? =some a):∃ y,(measV z)[jj]? =some y/\RelV φ n a y:=by
 match jj,h with
 | 0,h=>cases h; exact ⟨_,rfl,.v _⟩
 | 1,h=>cases h; exact ⟨_,rfl,.v _⟩
 | 2,h=>cases h; exact ⟨_,rfl,.v _⟩
 | jj+3,h=>simp [measC] at h
theorem vY {φ:Nat->Loc3} {n f:Nat}:RelV φ n (.fn f [] []) (.func (.func f) #[] #[]):=.fn rfl (fun j a y h=>by simp at h) rfl (fun j a y h=>by simp at h)
theorem znt {W:gW} {φ:Nat->Loc3} {n g f1 f2 f3 f4:Nat} {e:gT} (h:∃ cur e fz,W.heap[g]? =some (.cells cur e fz)/\cur[0]? =some (.func (.func f1) #[] #[])/\cur[1]? =some (.func (.func f2) #[] #[])/\cur[2]? =some (.func (.func f3) #[] #[])/\cur[3]? =some (.func (.func f4) #[] #[])):RelO φ n ⟨g,0,0⟩ (holdAll W) (.cells [.fn f1 [] [],.fn f2 [] [],.fn f3 [] [],.fn f4 [] []] e ff):=by
 intro _;obtain ⟨cur,e',fz,hh,h0,h1,h2,h3⟩:=h;refine ⟨ff,cur,(e',fz),wE hh,(fun h=>by cases h),fun j a ha=>?_⟩
 match j,ha with
 | 0,ha=>cases ha; exact ⟨_,h0,vY⟩
 | 1,ha=>cases ha; exact ⟨_,h1,vY⟩
 | 2,ha=>cases ha; exact ⟨_,h2,vY⟩
 | 3,ha=>cases ha; exact ⟨_,h3,vY⟩
 | j+4,ha=>simp at ha
theorem zkk {W:gW} {b:RBk} {x1 x2 x3:gV} {φ:Nat->Loc3} {n s h e:Nat} (h1:SlIn W seamV 5 b.sE x1) (h2:SlIn W bandV 2 b.sH x2) (h3:SlIn W measV 3 b.mE x3) (q1:s<n/\φ s=locV x1) (q2:h<n/\φ h=locV x2) (q3:e<n/\φ e=locV x3) :
  RelV φ n (.agg (zH b s h e)) (.agg #[.int .i64 b.steps,.int .i64 b.round,.int .i64 b.roll,.int .i64 b.rolls,x1,x2,x3]):=by
 refine .agg Z fun t u z hu hz=>?_
 match t,hu,hz with
 | 0,hu,hz=>cases hu; cases hz; exact .v _
 | 1,hu,hz=>cases hu; cases hz; exact .v _
 | 2,hu,hz=>cases hu; cases hz; exact .v _
 | 3,hu,hz=>cases hu; cases hz; exact .v _
 | 4,hu,hz=>cases hu; cases hz; exact vP h1 q1.1 q1.2
 | 5,hu,hz=>cases hu; cases hz; exact vP h2 q2.1 q2.2
 | 6,hu,hz=>cases hu; cases hz; exact vP h3 q3.1 q3.2
 | t+7,hu,hz=>simp [zH] at hu
def KeptAll (W w:gW):Prop:=∀ i,i<W.heap.size->w.heap[i]? =W.heap[i]?
def startA (W:gW) (objs:List AObj):List AObj:=objs++W.heap.toList.map .ro
def startP (n:Nat) (f:Nat->Loc3):Nat->Loc3:=fun i=>if i<n then f i else ⟨i - n,0,0⟩
theorem wu {n i:Nat} {f:Nat->Loc3} (h:i<n):startP n f i=f i:=by unfold startP; rw [if_pos h]
theorem zcP {W:gW} {objs:List AObj} {i:Nat} {o:AObj} (h:(startA W objs)[i]? =some o):(i<objs.length/\objs[i]? =some o)\/∃ q,objs.length<=i/\o=.ro q/\W.heap[i - objs.length]? =some q:=by
 unfold startA at h;rcases mR i objs.length with hl | hl
 ·rw [lG hl] at h; exact .inl ⟨hl,h⟩
 ·rw [lO hl,lQ] at h;obtain ⟨q,hq,rfl⟩:=mY.1 h;exact .inr ⟨q,hl,rfl,by simpa using hq⟩
theorem zlw {W:gW} {g:FuncId} {fn:Func} {c:Code} {args:List AV} {vs:Array gV} {K:KV} {objs:List AObj} {f:Nat->Loc3} (hf:tp.funcs[g]? =some fn) (hb:fn.body=some c) (hi:tp.inits.idxOf? g=none)
  (ht:Top tp gmR g args K (fun r _=>r=zC tt)) (hK:∀ x∈K,objs[x.1]? =some x.2) (hn:(keys K).Nodup) (h0:f 0=⟨0,0,0⟩) (h1':f 1=⟨1,0,0⟩) (Qx:1<objs.length) (hx:∀ o∈objs,o.excl=ff)
  (ho:∀ (φ:Nat->Loc3) n,(∀ i,i<objs.length->i<n/\φ i=f i)->∀ (i:Nat) o,objs[i]? =some o->RelO φ n (f i) (holdAll W) o)
  (hv:∀ (φ:Nat->Loc3) n,(∀ i,i<objs.length->i<n/\φ i=f i)->zQ φ n args vs) :
  ∃ M last o w' t',runNT tp (M+1) (solo (G (Frame.enter tp g vs .normal) []) W) #[]=(.ended o w',t') /\
   runN tp M (solo (G (Frame.enter tp g vs .normal) []) W)=.next last /\
   step tp last=.ended o w'/\Conc.Good tp (fun v w=>v=.bool tt/\OsLater W.os w.os/\w.output=W.output/\KeptAll W w) last o w' t':=by
 refine zkG (R:=fun v w=>v=.bool tt/\KeptAll W w) (R':=fun v w=>v=.bool tt/\OsLater W.os w.os/\w.output=W.output/\KeptAll W w) hf hb hi (fun v w' ho hu hr=>⟨hr.1,ho,hu,hr.2⟩) (fun v w d h=>h) (zeW W) ?_;have Wb:(startA W objs).length=objs.length+W.heap.size:=by simp [startA]
 have hex:∀ (i:Nat) o,(startA W objs)[i]? =some o->o.excl=ff:=fun i o h=>by
  rcases zcP h with ⟨_,h⟩ | ⟨q,_,rfl,_⟩
  ·exact hx o (lN h)
  ·rfl
 refine ht _ (startA W objs) (startP objs.length f) (holdAll W) vs (fun x hxK=>?_) hn (fun g i hg=>?_) ⟨fun i o h=>?_,fun i j o o' hi _ _ he=>?_,(fun b x h=>by cases h),fun i o hi he _=>?_⟩ (hv _ _ fun i hi=>⟨by omega,wu hi⟩) ?_
 ·have:=hK x hxK;obtain ⟨hl,_⟩:=lD.1 this;show (objs++_)[x.1]? =_;rw [lG hl];exact this
 ·match g,hg with
  | 0,hg=>cases hg; exact ⟨by omega,by rw [wu oQ,h0],by rw [wu oQ,h0]⟩
  | 1,hg=>cases hg; exact ⟨by omega,by rw [wu Qx,h1'],by rw [wu Qx,h1']⟩
  | g+2,hg=>cases hg
 ·rcases zcP h with ⟨hl,hq⟩ | ⟨q,hl,rfl,hq⟩
  ·rw [wu hl]; exact ho _ _ (fun i hi=>⟨by omega,wu hi⟩) i o hq
  ·refine ⟨ff,?_⟩;rw [show (startP objs.length f i).blk=i - objs.length by unfold startP; rw [if_neg oQ]];exact wE hq
 ·rw [hex i o hi] at he; cases he
 ·rfl
 ·rintro r K' φ' A' H' v w rfl hk ha hH' hv' hfit;refine ⟨inv_v hv',fun i hi=>?_⟩;have hh:=mD hi;have hA:(startA W objs)[objs.length+i]? =some (.ro W.heap[i]):=by
   unfold startA;rw [lO oQ,lQ,show objs.length+i - objs.length=i by omega];simp [hi]
  have hA':=(hk (objs.length+i) oQ (fun hm=>by
   obtain ⟨x,hx,e⟩:=lY.1 hm;obtain ⟨hl,_⟩:=lD.1 (hK x hx);omega)).trans hA
  obtain ⟨rw',hb⟩:=hH'.obj _ _ hA';rw [ha _ (show objs.length+i<_ by omega)] at hb;rw [show (startP objs.length f (objs.length+i)).blk=i by unfold startP; rw [if_neg oQ]; show objs.length+i - objs.length=i; omega] at hb;rw [hh];exact hfit i _ _ hb
theorem and32 {a1 a2 a3 a4 a5 a6 a7 a8 a9 a10 a11 a12 a13 a14 a15 a16 a17 a18 a19 a20 a21 a22 a23 a24 a25 a26 a27 a28 a29 a30 a31 a32:Bool} (h1:a1=tt) (h2:a2=tt) (h3:a3=tt) (h4:a4=tt) (h5:a5=tt) (h6:a6=tt) (h7:a7=tt) (h8:a8=tt) (h9:a9=tt) (h10:a10=tt) (h11:a11=tt) (h12:a12=tt) (h13:a13=tt) (h14:a14=tt) (h15:a15=tt) (h16:a16=tt) (h17:a17=tt) (h18:a18=tt) (h19:a19=tt) (h20:a20=tt) (h21:a21=tt) (h22:a22=tt) (h23:a23=tt) (h24:a24=tt) (h25:a25=tt) (h26:a26=tt) (h27:a27=tt) (h28:a28=tt) (h29:a29=tt) (h30:a30=tt) (h31:a31=tt) (h32:a32=tt):(a1&&a2&&a3&&a4&&a5&&a6&&a7&&a8&&a9&&a10&&a11&&a12&&a13&&a14&&a15&&a16&&a17&&a18&&a19&&a20&&a21&&a22&&a23&&a24&&a25&&a26&&a27&&a28&&a29&&a30&&a31&&a32)=tt:=by
 rw [h1,h2,h3,h4,h5,h6,h7,h8,h9,h10,h11,h12,h13,h14,h15,h16,h17,h18,h19,h20,h21,h22,h23,h24,h25,h26,h27,h28,h29,h30,h31,h32];rfl
theorem kf3:mapsRowed tp=tt:=by kernel_rfl
theorem kf7:(tp.stops==[])=tt:=by kernel_rfl
theorem kf9:(tp.stopKnobs==[])=tt:=by kernel_rfl
theorem kf25:tp.stopsHeard=tt:=by kernel_rfl
theorem kf26:tp.mayEnter=tt:=by kernel_rfl
theorem kf27:(Go.Proofs.YtlmglkmfkcbakaaGreatDoor.Rows.rollSeatedRow.lifted==tp.liftsFinal)=tt:=by kernel_rfl
theorem kf28:(tp.make==some Go.Proofs.YtlmglkmfkcbakaaGreatDoor.Rows.rollSeatedRow.make)=tt:=by kernel_rfl
theorem kf23:(Go.Proofs.YtlmglkmfkcbakaaGreatDoor.Rows.rollSeatedRow.plainKeys==tp.plainKeys)=tt:=by kernel_rfl
theorem own:ownKnob tp.godebug=none:=by kernel_rfl
set_option maxRecDepth 100000 in
theorem zkt (os:Os) (args:Array gV):laidMetH tp tblLaid ((World.doorLaid tp 400 os).forCall (fun _ _=>0) ⟨#[],args,[]⟩).memory :=
 laidMetH_of_parts3 (fuel:=8) (laidMet_nil _ _) (by kernel_rfl) (by kernel_rfl)
theorem zkL {W w:gW} (ho:w.os=W.os) (hu:w.output=W.output) (hk:KeptAll W w) (may:MemPlace->Prop):W.keptBut w may:=by
 refine ⟨ho,hu,fun i hi=>?_⟩;rw [hk i hi];cases W.heap[i]? with
 | none=>rfl
 | some o=>cases o <;> simp
theorem znh {W w:gW} (hk:KeptAll W w) {p:MemPlace} (hp:p.block<W.heap.size):W.sameAt w p:=by
 have:=hk p.block hp;cases p with
 | cell b o=>exact World.cell?_of_block (w:=W) this
 | map b=>exact this
theorem okAgg {P:gP} {W:gW} {base:Nat} {t:gT} {fs:Array Field} {v:gV} (ht:P.underlying t=some (.struct fs)) (h:Value.okWide P W .any base t v):∃ cs,v=.agg cs:=by
 unfold Value.okWide at h;rw [ht] at h;obtain ⟨cs,h1,_⟩:=h;exact ⟨cs,h1⟩
theorem wl:laidOutB tp=tt:=by kernel_rfl
theorem wv {H:Type} {enc:gT×gV->H} {W w:gW} {t:gT} {v:gV} {d:DataW H} {p:List MemPlace} (hl:laidOutB Tryz.prog=tt) (h:DataW.Trod enc Tryz.prog W 0 (fun _=>tt) tt t v d p) (hk:KeptAll W w) (hr:Tryz.prog.readableRec t=tt:=by kernel_rfl) (hrow:decide (t<Tryz.prog.types.size)=tt:=by kernel_rfl):DataW.Trod enc Tryz.prog w 0 (fun b=>decide (b<W.heap.size)) tt t v d p:=by
 have Qp:∀ x∈p,x.block<W.heap.size:=by obtain ⟨n,hn⟩:=h; exact DataW.trod_lt n t _ _ hn
 exact WideElems.Trod_stays hl hr (of_decide_eq_true hrow) h (fun x hx=>znh hk (Qp x hx)) (fun x hx=>by simpa using Qp x hx)
theorem u8_wf {k:Int} (h:(Lit.int IntKind.u8 k).wf=tt):0<=k/\k<256:=by
 simp only [Lit.wf,mX,decide_eq_true_eq] at h;have h1:IntKind.u8.min=0:=by decide
 have h2:IntKind.u8.max=255:=by decide
 omega
theorem zjY {W:gW} {φ:Nat->Loc3} {n g f1 f2 f3:Nat} {e:gT} (h:∃ cur e fz,W.heap[g]? =some (.cells cur e fz)/\cur[0]? =some (.func (.func f1) #[] #[])/\cur[1]? =some (.func (.func f2) #[] #[])/\cur[2]? =some (.func (.func f3) #[] #[])):RelO φ n ⟨g,0,0⟩ (holdAll W) (.cells [.fn f1 [] [],.fn f2 [] [],.fn f3 [] []] e ff):=by
 intro _;obtain ⟨cur,e',fz,hh,h0,h1,h2⟩:=h;refine ⟨ff,cur,(e',fz),wE hh,(fun h=>by cases h),fun j a ha=>?_⟩
 match j,ha with
 | 0,ha=>cases ha; exact ⟨_,h0,vY⟩
 | 1,ha=>cases ha; exact ⟨_,h1,vY⟩
 | 2,ha=>cases ha; exact ⟨_,h2,vY⟩
 | j+3,ha=>simp at ha
def mkV (m:MkR):List gV:=[.string m.what,.int .i64 m.col,.int .i64 m.row]
def skV (y:SkT×gV):List gV:=[.string y.1.name,.int .i64 y.1.flo,.int .i64 y.1.fhi,.int .i64 y.1.wide,.int .i64 y.1.slo,.int .i64 y.1.shi,y.2]
def pairV (x:Int×Int):List gV:=[.int .i64 x.1,.int .i64 x.2]
theorem list3C {α:Type} {l:List α} (h:l.length=3):∃ a b c,l=[a,b,c]:=by
 match l,h with
 | [a,b,c],_=>exact ⟨a,b,c,rfl⟩
theorem list7C {α:Type} {l:List α} (h:l.length=7):∃ a b c d e f g,l=[a,b,c,d,e,f,g]:=by
 match l,h with
 | [a,b,c,d,e,f,g],_=>exact ⟨a,b,c,d,e,f,g,rfl⟩
section
variable {H:Type} {enc:gT×gV->H} {W:gW} {sp:Nat->Bool} {held:Bool}
theorem zdG {P:gP} {n:Nat} {t:gT} {y:Option (DataW H×List MemPlace)} {z:DataW H×List MemPlace} {l l':List gV} (h:DataW.trod enc P W 0 sp held n t l=y) (hy:y=some z) (hl:l=l'):DataW.trod enc P W 0 sp held n t l'=some z:=by rw [<- hl,h,hy]
theorem znQ (m:Nat) (cs:List gV) (x:DataW H×List MemPlace) (h:DataW.trod enc tp W 0 sp held m 98 cs=some x):∃ z,cs=mkV z:=by
 obtain ⟨xs,n,rfl,hx,Wb,hxs,hf⟩:=DataW.trod_struct Tryz.underlying98 h;have hlen':cs.length=3:=Wb.trans (by kernel_rfl);have hxs':xs.length=3:=hxs;have c3:tp.cellsOf 3=1:=by kernel_rfl
 have c9:tp.cellsOf 9=1:=by kernel_rfl
 obtain ⟨v0,v1,v2,rfl⟩:=listN3 hlen';obtain ⟨y0,q0⟩:=yy hxs' (i:=0) dQ;obtain ⟨y1,q1⟩:=yy hxs' (i:=1) dQ;obtain ⟨y2,q2⟩:=yy hxs' (i:=2) dQ;obtain ⟨z0,e0,_⟩:=DataW.trod_string Tryz.underlying9 (yn (c:=v0) (hf 0 _ rfl) q0 (by show List.take (tp.cellsOf 9) (List.drop 0 _)=_; rw [c9]; rfl));obtain ⟨z1,e1,_⟩:=DataW.trod_int Tryz.underlying3 (yn (c:=v1) (hf 1 _ rfl) q1 (by show List.take (tp.cellsOf 3) (List.drop 1 _)=_; rw [c3]; rfl));obtain ⟨z2,e2,_⟩:=DataW.trod_int Tryz.underlying3 (yn (c:=v2) (hf 2 _ rfl) q2 (by show List.take (tp.cellsOf 3) (List.drop 2 _)=_; rw [c3]; rfl));cases e0;cases e1;cases e2;exact ⟨⟨z0,z1,z2⟩,rfl⟩
theorem zeJ (m:Nat) (cs:List gV) (x:DataW H×List MemPlace) (h:DataW.trod enc tp W 0 sp held m 45 cs=some x):∃ z,cs=pairV z:=by
 obtain ⟨xs,n,rfl,hx,Wb,hxs,hf⟩:=DataW.trod_struct Tryz.underlying45 h;have hlen':cs.length=2:=Wb.trans (by kernel_rfl);have hxs':xs.length=2:=hxs;have c3:tp.cellsOf 3=1:=by kernel_rfl
 obtain ⟨v0,v1,rfl⟩:=listN2 hlen';obtain ⟨y0,q0⟩:=yy hxs' (i:=0) dQ;obtain ⟨y1,q1⟩:=yy hxs' (i:=1) dQ;obtain ⟨z0,e0,_⟩:=DataW.trod_int Tryz.underlying3 (yn (c:=v0) (hf 0 _ rfl) q0 (by show List.take (tp.cellsOf 3) (List.drop 0 _)=_; rw [c3]; rfl));obtain ⟨z1,e1,_⟩:=DataW.trod_int Tryz.underlying3 (yn (c:=v1) (hf 1 _ rfl) q1 (by show List.take (tp.cellsOf 3) (List.drop 1 _)=_; rw [c3]; rfl));cases e0;cases e1;exact ⟨⟨z0,z1⟩,rfl⟩
theorem znR (m:Nat) (cs:List gV) (x:DataW H×List MemPlace) (h:DataW.trod enc tp W 0 sp held m 95 cs=some x):∃ z:{ y:SkT×gV // SlIn W mkV 3 y.1.mK y.2 },cs=skV z.1:=by
 obtain ⟨xs,n,rfl,hx,Wb,hxs,hf⟩:=DataW.trod_struct Tryz.underlying95 h;have hlen':cs.length=7:=Wb.trans (by kernel_rfl);have hxs':xs.length=5:=hxs;have c3:tp.cellsOf 3=1:=by kernel_rfl
 have c9:tp.cellsOf 9=1:=by kernel_rfl
 have c45:tp.cellsOf 45=2:=by kernel_rfl
 have c93:tp.cellsOf 93=1:=by kernel_rfl
 obtain ⟨v0,v1,v2,v3,v4,v5,v6,rfl⟩:=list7C hlen';obtain ⟨y0,q0⟩:=yy hxs' (i:=0) dQ;obtain ⟨y1,q1⟩:=yy hxs' (i:=1) dQ;obtain ⟨y2,q2⟩:=yy hxs' (i:=2) dQ;obtain ⟨y3,q3⟩:=yy hxs' (i:=3) dQ;obtain ⟨y4,q4⟩:=yy hxs' (i:=4) dQ;obtain ⟨a0,e0,_⟩:=DataW.trod_string Tryz.underlying9 (yn (c:=v0) (hf 0 _ rfl) q0 (by show List.take (tp.cellsOf 9) (List.drop 0 _)=_; rw [c9]; rfl));obtain ⟨a1,e1⟩:=zeJ _ _ _ (zdG (l':=[v1,v2]) (hf 1 _ rfl) q1 (by show List.take (tp.cellsOf 45) (List.drop 1 _)=_; rw [c45]; rfl));obtain ⟨a2,e2,_⟩:=DataW.trod_int Tryz.underlying3 (yn (c:=v3) (hf 2 _ rfl) q2 (by show List.take (tp.cellsOf 3) (List.drop 3 _)=_; rw [c3]; rfl));obtain ⟨a3,e3⟩:=zeJ _ _ _ (zdG (l':=[v4,v5]) (hf 3 _ rfl) q3 (by show List.take (tp.cellsOf 45) (List.drop 4 _)=_; rw [c45]; rfl));obtain ⟨a4,b4,cap4,e4,l4,r4⟩:=wX (vals:=mkV) (c:=3) Tryz.underlying93 (by kernel_rfl) dQ znQ (yn (c:=v6) (hf 4 _ rfl) q4 (by show List.take (tp.cellsOf 93) (List.drop 6 _)=_; rw [c93]; rfl));cases e0; cases e1; cases e2; cases e3; cases e4;exact ⟨⟨(⟨a0,a1.1,a1.2,a2,a3.1,a3.2,a4⟩,_),⟨b4,cap4,rfl,l4,r4⟩⟩,rfl⟩
theorem zh8 {v:gV} {d:DataW H} {p:List MemPlace} (hv:∃ cs,v=.agg cs) (h:DataW.Trod enc tp W 0 sp held 29 v d p):∃ (st wr:Int) (ys:List (SkT×gV)) (v1:gV),v=.agg #[.int .i64 st,.int .i64 wr,v1]/\SlIn W skV 7 ys v1/\∀ p∈ys,SlIn W mkV 3 p.1.mK p.2:=by
 obtain ⟨ca,rfl⟩:=hv;obtain ⟨fuel,h⟩:=h;generalize hcs:(Value.agg ca).cells.toList=cs at h;obtain ⟨xs,n,rfl,hx,Wb,hxs,hf⟩:=DataW.trod_struct Tryz.underlying29 h;have hlen':cs.length=3:=Wb.trans (by kernel_rfl);have hxs':xs.length=3:=hxs;have c3:tp.cellsOf 3=1:=by kernel_rfl
 have c27:tp.cellsOf 27=1:=by kernel_rfl
 obtain ⟨v0,v1,v2,rfl⟩:=list3C hlen';obtain ⟨y0,q0⟩:=yy hxs' (i:=0) dQ;obtain ⟨y1,q1⟩:=yy hxs' (i:=1) dQ;obtain ⟨y2,q2⟩:=yy hxs' (i:=2) dQ;obtain ⟨a0,e0,_⟩:=DataW.trod_int Tryz.underlying3 (yn (c:=v0) (hf 0 _ rfl) q0 (by show List.take (tp.cellsOf 3) (List.drop 0 _)=_; rw [c3]; rfl));obtain ⟨a1,e1,_⟩:=DataW.trod_int Tryz.underlying3 (yn (c:=v1) (hf 1 _ rfl) q1 (by show List.take (tp.cellsOf 3) (List.drop 1 _)=_; rw [c3]; rfl));obtain ⟨zs,b4,cap4,e4,l4,r4⟩:=wX (vals:=fun z:{ y:SkT×gV // SlIn W mkV 3 y.1.mK y.2 }=>skV z.1) (c:=7) Tryz.underlying27 (by kernel_rfl) dQ znR (yn (c:=v2) (hf 2 _ rfl) q2 (by show List.take (tp.cellsOf 27) (List.drop 2 _)=_; rw [c27]; rfl));cases e0; cases e1; cases e4;refine ⟨a0,a1,zs.map (·.1),_,?_,⟨b4,cap4,by rw [lJ],by rw [lJ]; exact l4,fun hp=>?_⟩,fun p hp=>?_⟩
 ·have:ca.toList=_:=hcs;rw [<- Array.toArray_toList (xs:=ca),this]
 ·rw [lJ] at hp;obtain ⟨blk,off,cur,e',fz,h1,h2,h3⟩:=r4 hp;refine ⟨blk,off,cur,e',fz,h1,h2,fun i z j hi hj=>?_⟩;rw [lQ] at hi;obtain ⟨z',hz,rfl⟩:=mY.1 hi;exact h3 i z' j hz hj
 ·obtain ⟨z,_,rfl⟩:=lY.1 hp;exact z.2
end
theorem zn4 {φ:Nat->Loc3} {n:Nat} (z) (jj:Nat) (a:AV) (h:(mkC z)[jj]? =some a):∃ y,(mkV z)[jj]? =some y/\RelV φ n a y:=by
 match jj,h with
 | 0,h=>cases h; exact ⟨_,rfl,.v _⟩
 | 1,h=>cases h; exact ⟨_,rfl,.v _⟩
 | 2,h=>cases h; exact ⟨_,rfl,.v _⟩
 | jj+3,h=>simp [mkC] at h
def zOf (ys:List (SkT×gV)):List (Nat×SkT):=ys.zipIdx.map fun p=>(p.2+7,p.1.1)
theorem znF (ys:List (SkT×gV)):(zOf ys).length=ys.length:=by unfold zOf; rw [lJ,List.length_zipIdx]
theorem zhy {ys:List (SkT×gV)} {i:Nat} {p:Nat×SkT} (h:(zOf ys)[i]? =some p):∃ y,ys[i]? =some y/\p=(i+7,y.1):=by
 unfold zOf at h;rw [lQ,List.getElem?_zipIdx] at h;cases hy:ys[i]? with
 | none=>rw [hy] at h; cases h
 | some y =>
  rw [hy] at h;have h:some ((0+i)+7,y.1)=some p:=h;rw [mO] at h;exact ⟨y,rfl,(Option.some.inj h).symm⟩
theorem zoX {W:gW} {ys:List (SkT×gV)} {v:gV} {φ:Nat->Loc3} {n:Nat} (h:SlIn W skV 7 ys v) (hm:∀ p∈ys,SlIn W mkV 3 p.1.mK p.2) (hφ:∀ i y,ys[i]? =some y->φ (i+7)=locV y.2) (hn:ys.length+7<=n):RelO φ n (locV v) (holdAll W) (skO (zOf ys)):=by
 intro hne;obtain ⟨b,cap,rfl,hle,hq⟩:=h;have Qx:0<ys.length:=by
  rcases mP ys.length with h0 | h0
  ·rw [lK h0] at hne; exact absurd rfl hne
  ·exact h0
 obtain ⟨blk,off,cur,e',fz,rfl,hh,hcell⟩:=hq Qx;refine ⟨ff,cur,(e',fz),wE hh,(fun h=>by cases h),fun j a ha=>?_⟩;obtain ⟨i,p,jj,h1,h2,rfl,h4⟩:=zbY (f:=skC) (c:=7) (fun _=>rfl) (zOf ys) j a ha;obtain ⟨y,hy,rfl⟩:=zhy h1;have hi:=(lD.1 hy).1;have hc:=hcell i y jj hy h2
 match jj,h4,hc with
 | 0,h4,hc=>cases h4; exact ⟨_,hc,.v _⟩
 | 1,h4,hc=>cases h4; exact ⟨_,hc,.v _⟩
 | 2,h4,hc=>cases h4; exact ⟨_,hc,.v _⟩
 | 3,h4,hc=>cases h4; exact ⟨_,hc,.v _⟩
 | 4,h4,hc=>cases h4; exact ⟨_,hc,.v _⟩
 | 5,h4,hc=>cases h4; exact ⟨_,hc,.v _⟩
 | 6,h4,hc=>cases h4; exact ⟨_,hc,vP (hm y (lN hy)) oQ (hφ i y hy)⟩
 | jj+7,h4,hc=>simp [skC] at h4
theorem zns {ys:List (SkT×gV)} {i:Nat} {o:AObj} (h:(ys.map fun y=>mkO y.1)[i]? =some o):∃ y,ys[i]? =some y/\o=mkO y.1:=by
 rw [lQ] at h;obtain ⟨y,h1,h2⟩:=mY.1 h;exact ⟨y,h1,h2.symm⟩
theorem zmB {ys:List (SkT×gV)} {x:Nat×AObj} (h:x∈mkK (zOf ys)):∃ i,x.1=i+7/\(ys.map fun y=>mkO y.1)[i]? =some x.2:=by
 obtain ⟨p,hp,rfl⟩:=lY.1 h;obtain ⟨i,hi⟩:=List.getElem?_of_mem hp;obtain ⟨y,hy,rfl⟩:=zhy hi;exact ⟨i,rfl,by rw [lQ,hy]; rfl⟩
theorem keysZ (ys:List (SkT×gV)):keys (mkK (zOf ys))=(List.range' 0 ys.length).map (· + 7):=by
 unfold keys mkK zOf;have h:ys.zipIdx.map Prod.snd=List.range' 0 ys.length:=List.zipIdx_map_snd 0 ys;rw [<- h,List.map_map,List.map_map,List.map_map];rfl
theorem keysU {ys:List (SkT×gV)} {o0 o1 o2 o3 o4 o5 o6:AObj}:(keys ((0,o0)::(1,o1)::(2,o2)::(3,o3)::(4,o4)::(5,o5)::(6,o6)::mkK (zOf ys))).Nodup:=by
 show ([0,1,2,3,4,5,6]++keys (mkK (zOf ys))).Nodup;rw [keysZ,List.nodup_append];refine ⟨by decide,?_,fun a ha c hc e=>?_⟩
 ·refine List.pairwise_map.2 ((List.nodup_range' (s:=0) (n:=ys.length) (step:=1)).imp fun h e=>h oQ)
 ·obtain ⟨x,_,rfl⟩:=lY.1 hc;simp at ha;omega
theorem zfW {H:Type} {enc:gT×gV->H} {C:Checked} {os:Os} {f:FuncId} {fn:Func} {s:ChangeSpec} {conds:List PathCond} {apart:Bool} {X:gW->Array gV->Prop} (w0:gW) (args:Array gV) (fuel:Nat) (hos:w0.os=os)
  (hsh:(w0.forCall (fun _ _=>0) ⟨#[],args,[]⟩).Shaped C.prog)
  (hok:Input.okWideB C.prog (w0.forCall (fun _ _=>0) ⟨#[],args,[]⟩) f ⟨#[],args,[]⟩=tt)
  (hpre:s.preB enc C.prog fn conds apart (w0.forCall (fun _ _=>0) ⟨#[],args,[]⟩).memory args fuel=tt)
  (hsz:s.sizedB enc C.prog fn apart (w0.forCall (fun _ _=>0) ⟨#[],args,[]⟩).memory args fuel=tt)
  (hx:X (w0.forCall (fun _ _=>0) ⟨#[],args,[]⟩).memory args) :
  ∃ (w:gW) (tape:Tape) (i:Input),w.os=os/\(w.forCall tape i).Shaped C.prog/\i.vars=[]/\Input.okWide C.prog (w.forCall tape i) .any w.heap.size f i /\
   ((s.pre enc C.prog fn conds apart (w.forCall tape i).memory i.args/\X (w.forCall tape i).memory i.args)/\sizedMet enc C.prog fn (OpenSpec.ofChange s) apart (w.forCall tape i).memory i.args)/\({ calm:=tt }:Assume).holds C.prog (lone (Frame.enter C.prog f i.args .normal) [] (w.forCall tape i)) :=
 ⟨w0,fun _ _=>0,⟨#[],args,[]⟩,hos,hsh,(Input.okWide_of_okWideB (base:=0) hok).1,(Input.okWide_of_okWideB hok).2,⟨⟨ChangeSpec.pre_of_preB hpre,hx⟩,sizedMet_of_sizedB hsz⟩,by
  simp only [Assume.holds];exact ⟨by simp,fun _ _ _ _=>rfl,by simp,by simp,by simp⟩⟩
theorem zlS (Lk:Looks) {p:Pinned} {s:OpenSpec} {c:OpenClaim} (kinds:List LaidKind) (tests:Bool) (har:Bool×String) (lk:Bool)
  (hc:c.holds p s) (hw:c.wfByText s=tt)
  (htie:c.laidByTextAt Lk p kinds tests)
  (hst:c.start=.entering) (hnb:c.noBlocks=ff/\c.again=ff) (hm:p.checked.prog.mainIs=some (har.1,har.2.toList)) (hn:(!har.1&&har.2.isEmpty && !lk)=ff)
  (hl:∀ f fn,p.checked.prog.funcNamed c.func=some f->p.checked.prog.funcs[f]? =some fn->lk=p.checked.prog.looks []/\∀ (j:Nat) t,fn.params[j]? =some t->p.checked.prog.wantsStandIn t=ff)
  (hg:tt=c.goesBy p.checked.prog) :
  Claim7.holds p (.plain s) { stood:={ row:=c,standIns:=[],harness:=har,looks:=lk },kinds:=[],alts:=[],goes:=tt,laidByText:=tt,laidKinds:=kinds,laidTests:=tests,laidLooks:=Lk }:=by
 have h6:∀ r:OpenClaim,Claim7.isSixth { stood:={ row:=r,standIns:=[],harness:=har,looks:=lk },kinds:=[] }=ff:=fun r=>by simpa [Claim7.isSixth] using hn
 exact ⟨Claim7.tied_new_at Lk kinds tests (Claim7.new_of_sixth hc har lk hst hnb hm (h6 c) hl) hw,(fun D hD=>by cases hD),htie,(fun h=>by cases h),hg⟩
end Go.Vel
namespace Go.Vel
open Go Go.Conc
theorem zgO:∀ (r:List Int) (x:Int),r.foldl min x<=x/\(∀ y∈r,r.foldl min x<=y)/\(r.foldl min x=x\/r.foldl min x∈r)
 | [],x=>⟨Int.le_refl _,fun y hy=>(by cases hy),.inl rfl⟩
 | z::r,x=>by
  obtain ⟨h1,h2,h3⟩:=zgO r (min x z);rw [List.foldl_cons];refine ⟨by omega,fun y hy=>?_,?_⟩
  ·rcases lI.1 hy with rfl | hy
   ·omega
   ·exact h2 y hy
  ·rcases h3 with h3 | h3
   ·rw [h3];by_cases e:x<=z
    ·left; omega
    ·right; rw [Int.min_eq_right oQ]; simp
   ·right; simp [h3]
theorem zgN:∀ (r:List Int) (x:Int),x<=r.foldl max x/\(∀ y∈r,y<=r.foldl max x)/\(r.foldl max x=x\/r.foldl max x∈r)
 | [],x=>⟨Int.le_refl _,fun y hy=>(by cases hy),.inl rfl⟩
 | z::r,x=>by
  obtain ⟨h1,h2,h3⟩:=zgN r (max x z);rw [List.foldl_cons];refine ⟨by omega,fun y hy=>?_,?_⟩
  ·rcases lI.1 hy with rfl | hy
   ·omega
   ·exact h2 y hy
  ·rcases h3 with h3 | h3
   ·rw [h3];by_cases e:z<=x
    ·left; omega
    ·right; rw [Int.max_eq_right oQ]; simp
   ·right; simp [h3]
theorem zbb {xs:List Int} (hne:xs≠[]):(∀ y∈xs,(spreadM xs).1<=y/\y<=(spreadM xs).2)/\(spreadM xs).1∈xs/\(spreadM xs).2∈xs:=by
 cases xs with
 | nil=>exact absurd rfl hne
 | cons x r =>
  obtain ⟨a1,a2,a3⟩:=zgO r x;obtain ⟨c1,c2,c3⟩:=zgN r x;show (∀ y∈x::r,r.foldl min x<=y/\y<=r.foldl max x)/\r.foldl min x∈x::r/\r.foldl max x∈x::r;refine ⟨fun y hy=>?_,?_,?_⟩
  ·rcases lI.1 hy with rfl | hy
   ·exact ⟨a1,c1⟩
   ·exact ⟨a2 y hy,c2 y hy⟩
  ·rcases a3 with h | h
   ·rw [h]; simp
   ·simp [h]
  ·rcases c3 with h | h
   ·rw [h]; simp
   ·simp [h]
theorem sq_in {b:RBk} {all:List (List Int)} {l:List Int} (hne:all≠[]) (h:sqOk b all l=tt):(∀ s∈all,∀ w q,hangM b l s=some (w,q)->sqLo b all l<=q/\q<=sqHi b all l)/\(∃ s∈all,∃ w,hangM b l s=some (w,sqLo b all l))/\∃ s∈all,∃ w,hangM b l s=some (w,sqHi b all l):=by
 have hall:=(ug b all l).1 h;have Qp:¬ (waysM b all l).length<all.length:=fun hh=>by
  unfold sqOk squaresM at h;rw [if_pos hh] at h;cases h
 have e:squaresM b all l=some (spreadM ((waysM b all l).map (·.2))):=by unfold squaresM; rw [if_neg Qp]
 have hnn:(waysM b all l).map (·.2)≠[]:=fun hh=>by
  have h1:=congrArg List.length hh;rw [lJ] at h1;have h2:0<all.length:=List.length_pos_iff.2 hne;simp only [List.length_nil] at h1;omega
 obtain ⟨g1,g2,g3⟩:=zbb hnn;unfold sqLo sqHi;rw [e];show (∀ s∈all,∀ w q,hangM b l s=some (w,q)->(spreadM _).1<=q/\q<=(spreadM _).2)/\(∃ s∈all,∃ w,hangM b l s=some (w,(spreadM _).1))/\∃ s∈all,∃ w,hangM b l s=some (w,(spreadM _).2);have back:∀ q,q∈(waysM b all l).map (·.2)->∃ s∈all,∃ w,hangM b l s=some (w,q):=fun q hq=>by
  obtain ⟨⟨w,q'⟩,hz,rfl⟩:=lY.1 hq;obtain ⟨s,hs,hz⟩:=List.mem_filterMap.1 hz;exact ⟨s,hs,w,hz⟩
 exact ⟨fun s hs w q hq=>g1 q (lY.2 ⟨(w,q),List.mem_filterMap.2 ⟨s,hs,hq⟩,rfl⟩),back _ g2,back _ g3⟩
structure Wider (b o:RBk):Prop where
 steps:o.steps=b.steps
 round:o.round=b.round
 roll:b.roll<=o.roll
 rolls:b.rolls<=o.rolls
 len:o.sE.length=b.sE.length
 shr:o.sH=b.sH
 mes:o.mE=b.mE
 sm:∀ i,i<b.sE.length->(sm o i).step=(sm b i).step/\(sm o i).busy=(sm b i).busy/\(sm o i).spoil=(sm b i).spoil/\(sm o i).whole=(sm b i).whole/\(sm b i).most<=(sm o i).most
theorem zl9 {b:RBk} {l:List Int} (hne:zh b≠[]):(canM b l=1↔∀ s∈zh b,(hangM b l s).isSome=tt)/\(canM b l=2↔∀ s∈zh b,hangM b l s=none):=by
 have Qx:0<(zh b).length:=List.length_pos_iff.2 hne;have hle:=zdn b (zh b) l;have k1:(waysM b (zh b) l).length=(zh b).length↔∀ s∈zh b,(hangM b l s).isSome=tt:=by
  rw [<- ug];unfold sqOk squaresM;by_cases h:(waysM b (zh b) l).length<(zh b).length
  ·rw [if_pos h]; simp; omega
  ·rw [if_neg h]; simp; omega
 have k2:(waysM b (zh b) l).length=0↔∀ s∈zh b,hangM b l s=none:=by
  rw [List.length_eq_zero_iff];unfold waysM;rw [List.filterMap_eq_nil_iff]
 unfold canM;by_cases e1:(waysM b (zh b) l).length=(zh b).length
 ·rw [if_pos e1];refine ⟨⟨fun _=>k1.1 e1,fun _=>rfl⟩,⟨fun h=>(by cases h),fun h=>?_⟩⟩;have:=k2.2 h;omega
 ·rw [if_neg e1];by_cases e2:(waysM b (zh b) l).length=0
  ·rw [if_pos e2];exact ⟨⟨fun h=>(by cases h),fun h=>absurd (k1.2 h) e1⟩,⟨fun _=>k2.1 e2,fun _=>rfl⟩⟩
  ·rw [if_neg e2];exact ⟨⟨fun h=>(by cases h),fun h=>absurd (k1.2 h) e1⟩,⟨fun h=>(by cases h),fun h=>absurd (k2.2 h) e2⟩⟩
def extL:List (List Int)->List RBand->List (List Int)
 | L,[]=>L
 | L,x::r=>extL (L.flatMap fun p=>(numsM x).map fun n=>p++[n]) r
theorem zbZ (b:RBk):∀ (r:List RBand) (L:List (List Int)),(L.flatMap fun p=>fromM b p r)=(extL L r).filter (rightM b)
 | [],L=>by
  unfold extL
  induction L with
  | nil=>rfl
  | cons p L ih =>
   rw [List.flatMap_cons,ih];unfold fromM;by_cases h:rightM b p=tt
   ·rw [if_pos h,List.filter_cons_of_pos h]; rfl
   ·rw [if_neg h,List.filter_cons_of_neg h]; rfl
 | x::r,L=>by
  have key:∀ p,fromM b p (x::r)=(numsM x).flatMap fun n=>fromM b (p++[n]) r:=fun p=>by
   conv=>lhs; unfold fromM
  unfold extL;rw [<- zbZ b r]
  induction L with
  | nil=>rfl
  | cons p L ih=>rw [List.flatMap_cons,ih,List.flatMap_cons,List.flatMap_append,List.flatMap_map,key]
theorem zls {φ:Nat->Loc3} {A:List AObj} {F H:Hp} (h:RelH φ A F H) {j:Nat} {l z:List AV} {e:gT} (hj:A[j]? =some (.cells (l++z) e ff)):RelH φ (A.set j (.cells l e ff)) F H:=by
 have hg:∀ t w,(A.set j (.cells l e ff))[t]? =some w->(t=j/\w=.cells l e ff)\/(t≠j/\A[t]? =some w):=fun t w ht=>by
  rw [lX] at ht;split at ht
  ·rename_i e';split at ht
   ·cases ht; exact .inl ⟨e'.symm,rfl⟩
   ·cases ht
  ·rename_i e';exact .inr ⟨fun h=>e' h.symm,ht⟩
 have hne:l≠[]->l++z≠[]:=fun hl he=>hl (List.append_eq_nil_iff.1 he).1;refine ⟨fun t w ht=>?_,fun t t' w w' ht ht' hn he hl s1 s2=>?_,h.fr,fun t w ht he hs=>?_⟩
 ·rw [List.length_set];rcases hg t w ht with ⟨rfl,rfl⟩ | ⟨_,h2⟩
  ·intro hl;obtain ⟨r,cur,q,h1,_,h3⟩:=h.obj t _ hj (hne hl);exact ⟨r,cur,q,h1,(fun h=>by cases h),fun i a ha=>h3 i a (by
    obtain ⟨hi,_⟩:=lD.1 ha;rw [lG hi]; exact ha)⟩
  ·exact h.obj t w h2
 ·rcases hg t w ht with ⟨rfl,rfl⟩ | ⟨_,h2⟩
  ·cases he
  ·rcases hg t' w' ht' with ⟨rfl,rfl⟩ | ⟨_,h2'⟩
   ·exact h.apart t t' w _ h2 hj hn he rfl s1 (hne s2)
   ·exact h.apart t t' w w' h2 h2' hn he hl s1 s2
 ·rcases hg t w ht with ⟨rfl,rfl⟩ | ⟨_,h2⟩
  ·cases he
  ·exact h.frx t w h2 he hs
section
variable {P:gP} {gm:Nat->Option Nat} {T:Goroutine->Hp->Prop} {Y:KX P gm T} {ds:List Nat} {k:List Item} {Wq:List AV} {K K':KV}
theorem TK.cutC {j:Nat} {l z:List AV} {e:gT} (h:TK Y ds k Wq K') (hu:Upd K j (.cells (l++z) e ff) j (.cells l e ff) K':=by repeat (first | exact Upd.head | apply Upd.tail)):TK Y ds k Wq K:=fun A hA φ H ts h1 h2 h3 h4 h5 h6=>by
 have hj:=hA.view.get hu.mem;have hl:(A.set j (.cells l e ff)).length=A.length:=by simp
 exact h _ (hA.step (.set hA.view hA.nd hu)) φ H ts h1 (by rw [hl]; exact h2) (by rw [hl]; exact h3) (by rw [hl]; exact h4) (zls h5 hj) (by rw [hl]; exact h6)
end
def zI (b:RBk) (sh:List RBand) (me:List RMeas):RBk:={ b with sH:=sh,mE:=me }
theorem zeE (b:RBk) (sh:List RBand) (me:List RMeas) (l:List Int):∀ k,spoilM (zI b sh me) l k=spoilM b l k
 | 0=>rfl
 | k+1=>by
  unfold spoilM;rw [zeE b sh me l k]; rfl
theorem zgA (b:RBk) (sh:List RBand) (me:List RMeas):hangM (zI b sh me)=hangM b:=by
 funext l s;have h0:allocA (zI b sh me) l (freshM b s)=allocA b l (freshM b s):=by
  unfold allocA alloc0;rw [zeE]; rfl
 unfold hangM;rw [show fitsM (zI b sh me) l=fitsM b l from rfl,show freshM (zI b sh me) s=freshM b s from rfl,h0]
theorem ch_sq (b:RBk) (sh:List RBand) (me:List RMeas) (all:List (List Int)) (l:List Int):squaresM (zI b sh me) all l=squaresM b all l:=by
 unfold squaresM waysM;rw [zgA]
theorem ch_ok (b:RBk) (sh:List RBand) (me:List RMeas) (all:List (List Int)) (l:List Int):sqOk (zI b sh me) all l=sqOk b all l:=by
 unfold sqOk;rw [ch_sq]
theorem ch_hi (b:RBk) (sh:List RBand) (me:List RMeas) (all:List (List Int)) (l:List Int):sqHi (zI b sh me) all l=sqHi b all l:=by
 unfold sqHi;rw [ch_sq]
theorem ch_at (b:RBk) (sh:List RBand) (me:List RMeas) (all:List (List Int)) (r:Int):canAt (zI b sh me) all r=canAt b all r:=by
 unfold canAt;show (List.range (2 ^ b.sE.length)).any _=_;congr 1;funext c;show (decide (0<c)&&sqOk (zI (atRound b r) sh me) all _)=_;rw [ch_ok]; rfl
theorem zcX (b:RBk) (sh:List RBand) (me:List RMeas) (all:List (List Int)):widestM (zI b sh me) all=widestM b all:=by
 have key:∀ k,widestL (zI b sh me) all k=widestL b all k:=fun k=>by
  induction k with
  | zero=>rfl
  | succ k ih =>
   unfold widestL;rw [ih];show (if canAt (zI b sh me) all (b.steps+k)=tt then some (b.steps+k) else _)=_;rw [ch_at]
 exact key _
theorem zgB (b:RBk) (sh:List RBand) (me:List RMeas) {all:List (List Int)} {bt:List Int×Int->List Int×Int->Bool} {c:Nat} (h:PlanA (zI b sh me) all bt c):PlanA b all bt c:=by
 obtain ⟨h1,h2,h3,h4⟩:=h;refine ⟨h1,h2,(ch_ok b sh me all _).symm.trans h3,fun d a1 a2 a3=>?_⟩;have:=h4 d a1 a2 ((ch_ok b sh me all _).trans a3);simp only [ch_hi] at this;exact this
theorem ch_no (b:RBk) (sh:List RBand) (me:List RMeas) {all:List (List Int)} (h:NoPlan (zI b sh me) all):NoPlan b all:=fun d a1 a2=>(ch_ok b sh me all _).symm.trans (h d a1 a2)
section
variable {b:RBk} {all al2:List (List Int)} {l:List Int}
theorem zck (hne:al2≠[]) (Qv:∀ s∈al2,s∈all) (h:sqOk b all l=tt):sqOk b al2 l=tt/\sqLo b all l<=sqLo b al2 l/\sqHi b al2 l<=sqHi b all l:=by
 have hn:all≠[]:=fun e=>by
  cases al2 with
  | nil=>exact hne rfl
  | cons x r=>have:=Qv x sQ; rw [e] at this; cases this
 have h1:=(ug b all l).1 h;have h2:sqOk b al2 l=tt:=(ug b al2 l).2 fun s hs=>h1 s (Qv s hs);obtain ⟨a1,_,_⟩:=sq_in hn h;obtain ⟨_,⟨s1,m1,w1,e1⟩,s2,m2,w2,e2⟩:=sq_in hne h2;exact ⟨h2,(a1 s1 (Qv s1 m1) w1 _ e1).1,(a1 s2 (Qv s2 m2) w2 _ e2).2⟩
theorem zkz (hne:al2≠[]) (Qv:∀ s∈al2,s∈all) {c:Nat} {bt:List Int×Int->List Int×Int->Bool} (hp:PlanA b all bt c):¬ NoPlan b al2:=fun hn=>by
 have h1:=hn c hp.1 hp.2.1;rw [(zck hne Qv hp.2.2.1).1] at h1;cases h1
theorem zhP (hne:al2≠[]) (Qv:∀ s∈al2,s∈all) {c d:Nat} (hp:PlanA b all cheaperM c) (hq:PlanA b al2 cheaperM d):sqHi b al2 (zw d b.sE.length)<=sqHi b all (zw c b.sE.length):=by
 obtain ⟨h1,_,h2⟩:=zck hne Qv hp.2.2.1;have h3:=(zkh (d:=c) hq hp.1 hp.2.1 h1).1;omega
theorem ziM (hne:al2≠[]) (Qv:∀ s∈al2,s∈all) {c d:Nat} (hp:PlanA b all shorterM c) (hq:PlanA b al2 shorterM d):(zw d b.sE.length).length<=(zw c b.sE.length).length:=by
 have h1:=(zck hne Qv hp.2.2.1).1;have h3:=zmk (d:=c) hq hp.1 hp.2.1 h1;rcases mR (zw c b.sE.length).length (zw d b.sE.length).length with Qp | hge
 ·have:yB (zw c b.sE.length) (zw d b.sE.length)=tt:=(kC _ _).2 (.inl Qp);rw [h3] at this;cases this
 ·exact hge
theorem ziL (hne:al2≠[]) (Qv:∀ s∈al2,s∈all) {r:Int} (hc:canAt b all r=tt):canAt b al2 r=tt:=by
 unfold canAt at hc ⊢;rw [List.any_eq_true] at hc ⊢;obtain ⟨c,c1,c2⟩:=hc;rw [mX] at c2;refine ⟨c,c1,?_⟩;rw [mX];exact ⟨c2.1,(zck hne Qv c2.2).1⟩
theorem zad (hb:ROk b) (hne:al2≠[]) (Qv:∀ s∈al2,s∈all) (hs:(widestM b all).isSome=tt):(widestM b al2).isSome=tt/\(widestM b all).getD 0<=(widestM b al2).getD 0:=by
 have hst:=hb.rnd.steps;obtain ⟨n,hn⟩:=Option.isSome_iff_exists.1 hs;have hbd:=zj7 oQ hn;have hc:=zcT (b:=b) (all:=all) oQ hbd.1 hbd.2;rw [hn] at hc;simp only [Option.isSome_some,Option.getD_some,Int.le_refl,decide_true,Bool.and_true] at hc;have hco:=ziL hne Qv hc;rw [zcT (b:=b) oQ hbd.1 hbd.2,mX,decide_eq_true_eq] at hco;rw [hn];exact hco
end
theorem zeD (b:RBk) (l:List Int) (hne:zh b≠[]):(canM b l=1↔∀ s∈zh b,(hangM b l s).isSome=tt)/\(canM b l=2↔∀ s∈zh b,hangM b l s=none):=zl9 hne
theorem ziB (b:RBk) (l:List Int):canM b l=0\/canM b l=1\/canM b l=2:=by
 unfold canM;split
 ·exact .inr (.inl rfl)
 ·split
  ·exact .inr (.inr rfl)
  ·exact .inl rfl
theorem zmj {b:RBk} {sh:List RBand} {me:List RMeas} {l:List Int} (hne:zh (zI b sh me)≠[]) (Qv:∀ s∈zh (zI b sh me),s∈zh b):canM b l=0\/canM (zI b sh me) l=canM b l:=by
 have hn:zh b≠[]:=fun e=>by
  cases h:zh (zI b sh me) with
  | nil=>exact hne h
  | cons x r=>have:=Qv x (by rw [h]; simp); rw [e] at this; cases this
 have hb:=zeD b l hn;have ho:=zeD (zI b sh me) l hne;rw [zgA] at ho;rcases ziB b l with h | h | h
 ·exact .inl h
 ·right; rw [h]; exact ho.1.2 fun s hs=>hb.1.1 h s (Qv s hs)
 ·right; rw [h]; exact ho.2.2 fun s hs=>hb.2.1 h s (Qv s hs)
theorem zml {b:RBk} {sh:List RBand} {me:List RMeas} (hne:zh (zI b sh me)≠[]) (Qv:∀ s∈zh (zI b sh me),s∈zh b):(newM b).1<=(newM (zI b sh me)).1/\(newM (zI b sh me)).2<=(newM b).2:=by
 have hn:zh b≠[]:=fun e=>by
  cases h:zh (zI b sh me) with
  | nil=>exact hne h
  | cons x r=>have:=Qv x (by rw [h]; simp); rw [e] at this; cases this
 obtain ⟨h1,_,_⟩:=zbb (xs:=(zh b).map (freshM b)) (by simpa using hn);obtain ⟨_,h2,h3⟩:=zbb (xs:=(zh (zI b sh me)).map (freshM (zI b sh me))) (by simpa using hne);have key:∀ y∈(zh (zI b sh me)).map (freshM (zI b sh me)),y∈(zh b).map (freshM b):=fun y hy=>by
  obtain ⟨s,hs,rfl⟩:=lY.1 hy;exact lY.2 ⟨s,Qv s hs,rfl⟩
 exact ⟨(h1 _ (key _ h2)).1,(h1 _ (key _ h3)).2⟩
theorem zmm {b:RBk} {sh:List RBand} {me:List RMeas} (Qv:∀ s∈zh (zI b sh me),s∈zh b) (n:Int):∀ z∈shrI (zI b sh me) n,z∈shrI b n:=fun z hz=>by
 obtain ⟨s,hs,h⟩:=zfI.1 hz;exact zfI.2 ⟨s,Qv s hs,h⟩
theorem zj0 (b:RBk) (sh:List RBand) (me:List RMeas) (s:List Int) (c:Nat):∀ k,togM (zI b sh me) s c k=togM b s c k
 | 0=>rfl
 | k+1=>by
  show togM (zI b sh me) s c k+_=togM b s c k+_;rw [zj0 b sh me s c k]; rfl
theorem zlu (b:RBk) (sh:List RBand) (me:List RMeas) (s:List Int):rightM (zI b sh me) s=me.all fun m=>decide (togM b s m.cloth.toNat m.many.toNat=m.wide):=by
 unfold rightM;show me.all _=_;congr 1;funext m;rw [zj0]
theorem za0 (n:Int):∀ (j k:Nat),numsF n (j+k)=numsF n j++numsF (n+j) k
 | 0,k=>by rw [mO,show n+((0:Nat):Int)=n by omega]; rfl
 | j+1,k=>by
  rw [show j+1+k=(j+k)+1 by omega];show n::numsF (n+1) (j+k)=n::(numsF (n+1) j++_);rw [za0 (n+1) j k,show n+1+(j:Int)=n+((j+1:Nat):Int) by omega]
theorem zk5 {x y:RBand} (h1:x.low<=y.low) (h2:y.high<=x.high):(numsM y).Sublist (numsM x):=by
 unfold numsM;by_cases h:y.low<=y.high
 ·obtain ⟨j,hj⟩:=Int.eq_ofNat_of_zero_le (show 0<=y.low - x.low by omega);obtain ⟨k,hk⟩:=Int.eq_ofNat_of_zero_le (show 0<=x.high - y.high by omega);rw [show (x.high+1 - x.low).toNat=j+((y.high+1 - y.low).toNat+k) by omega,za0,za0,show x.low+(j:Int)=y.low by omega];exact (List.sublist_append_left _ _).trans (List.sublist_append_right _ _)
 ·rw [show (y.high+1 - y.low).toNat=0 by omega];exact List.nil_sublist _
theorem zkB {α β:Type} {f g:α->List β} (h:∀ a,(f a).Sublist (g a)) {l m:List α} (hl:l.Sublist m):(l.flatMap f).Sublist (m.flatMap g):=by
 induction hl with
 | slnil=>exact List.Sublist.refl _
 | cons a _ ih=>rw [List.flatMap_cons]; exact ih.trans (List.sublist_append_right _ _)
 | cons_cons a _ ih=>rw [List.flatMap_cons,List.flatMap_cons]; exact (h a).append ih
theorem zgJ:∀ (r q:List RBand) (L M:List (List Int)),L.Sublist M->r.length=q.length->(∀ (i:Nat) (x y:RBand),r[i]? =some x->q[i]? =some y->y.low<=x.low/\x.high<=y.high)->(extL L r).Sublist (extL M q)
 | [],[],L,M,h,_,_=>h
 | x::r,y::q,L,M,h,hl,hi=>by
  have h0:=hi 0 x y rfl rfl;exact zgJ r q _ _ (zkB (fun p=>(zk5 h0.1 h0.2).map _) h) (by simpa using hl) fun i x' y' h1 h2=>hi (i+1) x' y' h1 h2
theorem zhQ {b:RBk} {sh:List RBand} {me:List RMeas} (hl:sh.length=b.sH.length) (hi:∀ (i:Nat) (x y:RBand),sh[i]? =some x->b.sH[i]? =some y->y.low<=x.low/\x.high<=y.high) (hm:∀ m∈b.mE,m∈me):(zh (zI b sh me)).Sublist (zh b):=by
 have e1:zh (zI b sh me)=(extL [[]] sh).filter (rightM (zI b sh me)):=by
  have:=zbZ (zI b sh me) sh [[]];rw [List.flatMap_cons,List.flatMap_nil,lR] at this;exact this
 have e2:zh b=(extL [[]] b.sH).filter (rightM b):=by
  have:=zbZ b b.sH [[]];rw [List.flatMap_cons,List.flatMap_nil,lR] at this;exact this
 rw [e1,e2];have h1:((extL [[]] sh).filter (rightM (zI b sh me))).Sublist ((extL [[]] sh).filter (rightM b)):=by
  have:(extL [[]] sh).filter (rightM (zI b sh me))=((extL [[]] sh).filter (rightM b)).filter (rightM (zI b sh me)):=by
   rw [List.filter_filter];congr 1;funext s;cases h:rightM (zI b sh me) s with
   | false=>rfl
   | true =>
    rw [zlu,List.all_eq_true] at h;have:rightM b s=tt:=by
     unfold rightM;rw [List.all_eq_true];exact fun m hx=>h m (hm m hx)
    rw [this]; rfl
  rw [this];exact List.filter_sublist
 exact h1.trans ((zgJ sh b.sH _ _ (List.Sublist.refl _) hl hi).filter _)
theorem ziH {b:RBk} (hb:ROk b) {i:Nat} {z:RBand} (hi:i<b.sH.length) (h1:(bd b i).low<=z.low) (h2:z.low<=z.high) (h9:z.high<=(bd b i).high):ROk (z8 b i z):=by
 refine ⟨⟨hb.rnd.steps,hb.rnd.round,hb.rnd.roll,hb.rnd.rolls⟩,⟨hb.sms.len,hb.sms.fld,hb.sms.asc⟩,⟨?_,fun k hk=>?_⟩,⟨hb.mes.len,hb.mes.bnd⟩⟩
 ·show (b.sH.set i z).length=_;rw [List.length_set]; exact hb.cls.len
 ·have hk':k<b.sE.length:=hk;have hq:=hb.cls.bnd k hk';have hqi:=hb.cls.bnd i (by have:=hb.cls.len; omega);show 0<=(bd (z8 b i z) k).low/\(bd (z8 b i z) k).low<=(bd (z8 b i z) k).high/\(bd (z8 b i z) k).high<=5/\(bd (z8 b i z) k).high - (bd (z8 b i z) k).low<3/\(bd (z8 b i z) k).high<wideM b k;have e:bd (z8 b i z) k=if i=k then z else bd b k:=by
   have h3:=yT (b:=z8 b i z) (i:=k) (by show k<(b.sH.set i z).length; rw [List.length_set,hb.cls.len]; exact hk');have h4:(b.sH.set i z)[k]? =some (bd (z8 b i z) k):=h3;rw [lX] at h4;by_cases e:i=k
   ·rw [if_pos e] at h4 ⊢;rw [if_pos hi] at h4;exact (Option.some.inj h4).symm
   ·rw [if_neg e] at h4 ⊢;rw [yT (by rw [hb.cls.len]; exact hk')] at h4;exact (Option.some.inj h4).symm
  rw [e];by_cases e:i=k
  ·subst e;rw [if_pos rfl];omega
  ·rw [if_neg e];omega
theorem zlk {n m:Nat} (h1:0<n) (h2:n<=m):betw (n:Int) 1 (m:Int)=tt:=by simp [betw]; omega
theorem ze8 {b:RBk}:∀ (r:List RBand) (p t:List Int),t.length=r.length->(∀ (i:Nat) (x:RBand) (y:Int),r[i]? =some x->t[i]? =some y->x.low<=y/\y<=x.high)->rightM b (p++t)=tt->p++t∈fromM b p r
 | [],p,[],_,_,h=>by
  rw [lR] at h ⊢;unfold fromM;rw [if_pos h];exact lS.2 rfl
 | x::r,p,y::t,hl,hi,h=>by
  unfold fromM;have h0:=hi 0 x y rfl rfl;rw [List.mem_flatMap];refine ⟨y,(zfb oQ).2 h0,?_⟩;rw [show p++y::t=(p++[y])++t by simp] at h ⊢;exact ze8 r (p++[y]) t (by simpa using hl) (fun i x' y' h1 h2=>hi (i+1) x' y' h1 h2) h
theorem ziW {b:RBk} {s:List Int} (h:InB b s) (hr:rightM b s=tt):s∈zh b:=by
 have:=ze8 (b:=b) b.sH [] s h.1 (fun i x y hx hy=>by
  obtain ⟨hi,_⟩:=lD.1 hx;have h1:=h.2 i hi;have h2:=yT (b:=b) hi;rw [hx] at h2;cases h2;rw [lE,hy] at h1;exact h1) (by rw [lC]; exact hr)
 rwa [lC] at this
def plT (L:List (ByteArray×(Int×Int))) (s:ByteArray):List (Int×Int):=(L.filter fun p=>decide (p.1=s)).map (·.2)
def mvT (st f c:Int) (l:List (Int×Int)) (m:MkR):MkR:=match l with
 | []=>m
 | p::_=>⟨m.what,(p.1 - f+st) % st,p.2 - c⟩
def keepT (w:Int) (m:MkR):Bool:=decide (m.col<w)&&(decide (-9<=m.row)&&decide (m.row<=9))
def movT (st f c:Int) (L:List (ByteArray×(Int×Int))) (w:Int) (l:List MkR):List MkR:=(l.map fun m=>mvT st f c (plT L m.what) m).filter (keepT w)
def truX (st:Int) (v:VwT) (i:Nat) (L:List (ByteArray×(Int×Int))) (x:SkT):SkT:=if bitT v.wr i=tt then x else { x with mK:=movT st (v.fr.getD i 0) (v.st.getD i 0) L x.wide x.mK }
def truA (st:Int) (v:VwT) (l:List SkT):Nat->List SkT
 | 0=>[]
 | k+1=>match l[k]? with
  | none=>truA st v l k
  | some x=>truA st v l k++[truX st v k (yc st v 0 (truA st v l k)) x]
def trueT (b:StpB) (v:VwT):StpB:=⟨b.steps,b.wrong,truA b.steps v b.sks b.sks.length⟩
theorem uZ {st:Int} {v:VwT} {l:List SkT} {k:Nat} {x:SkT} (h:l[k]? =some x):truA st v l (k+1)=truA st v l k++[truX st v k (yc st v 0 (truA st v l k)) x]:=by
 show (match l[k]? with | none=>_ | some x=>_)=_;rw [h]
theorem uj {st:Int} {v:VwT} {l:List SkT}:∀ k,k<=l.length->(truA st v l k).length=k
 | 0,_=>rfl
 | k+1,h=>by
  rw [uZ (lA (show k<l.length by omega)),lF,uj k oQ];rfl
def bareT (x:SkT):SkT:={ x with mK:=[] }
theorem zkf (st:Int) (v:VwT) (i:Nat) (L:List (ByteArray×(Int×Int))) (x:SkT):bareT (truX st v i L x)=bareT x:=by
 unfold truX;split <;> rfl
theorem uD {st:Int} {v:VwT} {l:List SkT}:∀ k,(truA st v l k).map bareT=(l.take k).map bareT
 | 0=>by rw [List.take_zero]; rfl
 | k+1=>by
  rw [List.take_add_one];cases h:l[k]? with
  | none =>
   have e:truA st v l (k+1)=truA st v l k:=by
    show (match l[k]? with | none=>_ | some x=>_)=_;rw [h]
   rw [e,uD k];simp
  | some x =>
   rw [uZ h,lM,lM,uD k,List.map_singleton,zkf];rfl
theorem zbt (st f c:Int) (l:List (Int×Int)) (m:MkR):(mvT st f c l m).what=m.what:=by
 cases l <;> rfl
theorem zgV {st f c w:Int} {L:List (ByteArray×(Int×Int))} {l:List MkR} {m:MkR} (h:m∈movT st f c L w l):keepT w m=tt/\∃ m0∈l,mvT st f c (plT L m0.what) m0=m:=by
 obtain ⟨h1,h2⟩:=List.mem_filter.1 h;obtain ⟨m0,h3,h4⟩:=lY.1 h1;exact ⟨h2,m0,h3,h4⟩
theorem ze2 {w:Int} {m:MkR} (h:keepT w m=tt):m.col<w /\ -9<=m.row/\m.row<=9:=by
 unfold keepT at h;simpa using h
theorem zoa {st f c:Int} (hs:0<st) {l:List (Int×Int)} {m:MkR} (h:0<=m.col):0<=(mvT st f c l m).col:=by
 cases l with
 | nil=>exact h
 | cons p r=>exact Int.emod_nonneg _ oQ
theorem zmE {st f c w:Int} {L:List (ByteArray×(Int×Int))} {l:List MkR} (h:l.Pairwise fun m n=>m.what.toList≠n.what.toList):(movT st f c L w l).Pairwise fun m n=>m.what.toList≠n.what.toList:=by
 refine List.Pairwise.filter _ (List.pairwise_map.2 (h.imp fun {m n} hn=>?_));rw [zbt,zbt];exact hn
theorem znx {st:Int} {v:VwT} {i:Nat} {L:List (ByteArray×(Int×Int))} {x:SkT} (hs:0<st) (h:SkOk st x):SkOk st (truX st v i L x):=by
 unfold truX;split
 ·exact h
 ·refine ⟨h.nam,h.fr,h.wd,h.se,?_,fun m hm=>?_,zmE h.two⟩
  ·refine mT (List.length_filter_le _ _) ?_;rw [lJ];exact h.nm
  ·obtain ⟨h1,m0,h2,h3⟩:=zgV hm;have h4:=ze2 h1;have h5:=h.mks m0 h2;refine ⟨by rw [<- h3,zbt]; exact h5.1,by rw [<- h3]; exact zoa hs h5.2.1,?_,h4.2⟩;show m.col<=x.wide - 1;omega
theorem zbz {st:Int} {v:VwT} {l:List SkT} (hs:0<st) (h:∀ x∈l,SkOk st x):∀ k,∀ y∈truA st v l k,SkOk st y
 | 0,y,hy=>by cases hy
 | k+1,y,hy=>by
  cases hx:l[k]? with
  | none =>
   have e:truA st v l (k+1)=truA st v l k:=by
    show (match l[k]? with | none=>_ | some x=>_)=_;rw [hx]
   rw [e] at hy;exact zbz hs h k y hy
  | some x =>
   rw [uZ hx] at hy;rcases lT.1 hy with hy | hy
   ·exact zbz hs h k y hy
   ·rw [lS.1 hy];exact znx hs (h x (lN hx))
def AgT (L:List (ByteArray×(Int×Int))):Prop:=∀ p∈L,∀ q∈L,p.1=q.1->p.2=q.2
theorem zjb:∀ {L:List (ByteArray×(Int×Int))},AgT L->okL L=tt
 | [],_=>rfl
 | p::l,h=>by
  show (l.all (consT p)&&okL l)=tt;rw [zjb (L:=l) fun a ha b hb=>h a (lL _ ha) b (lL _ hb),Bool.and_true];refine List.all_eq_true.2 fun q hq=>?_;unfold consT;by_cases e:p.1=q.1
  ·rw [h p List.mem_cons_self q (lL _ hq) e];simp
  ·simp [e]
theorem za8 {st:Int} (hs:0<st) {v:VwT}:∀ {l:List SkT} {i:Nat},∀ p∈yc st v i l,0<=p.2.1/\p.2.1<st
 | [],i,p,h=>by cases h
 | x::l,i,p,h=>by
  rcases lT.1 (show p∈seenT st v i x++yc st v (i+1) l from h) with h | h
  ·unfold seenT at h;split at h
   ·cases h
   ·obtain ⟨m,_,rfl⟩:=lY.1 h;exact ⟨Int.emod_nonneg _ oQ,Int.emod_lt_of_pos _ hs⟩
  ·exact za8 hs p h
theorem zir {st f a:Int} (h0:0<=a) (h1:a<st):(f+(a - f+st) % st) % st=a:=by
 rw [Int.add_emod_emod,show f+(a - f+st)=a+st by omega,Int.add_emod_right];exact Int.emod_eq_of_lt h0 h1
theorem zjj {l:List MkR} (h:l.Pairwise fun m n=>m.what.toList≠n.what.toList):∀ m∈l,∀ n∈l,m.what=n.what->m=n:=by
 induction h with
 | nil=>intro m hm; cases hm
 | cons h1 h2 ih =>
  intro m hm n hn e;rcases lI.1 hm with e1 | hm1 <;> rcases lI.1 hn with e2 | hn1
  ·rw [e1,e2]
  ·exact absurd (congrArg ByteArray.toList (e1 ▸ e)) (h1 n hn1)
  ·exact absurd (congrArg ByteArray.toList (e2 ▸ e.symm)) (h1 m hm1)
  ·exact ih m hm1 n hn1 e
theorem zkY {st:Int} {v:VwT} {k:Nat} {L:List (ByteArray×(Int×Int))} {m:MkR} (hL:∀ p∈L,0<=p.2.1/\p.2.1<st) (hA:AgT L) {q:ByteArray×(Int×Int)} (hq:q∈L) (he:m.what=q.1):placeT st v k (mvT st (v.fr.getD k 0) (v.st.getD k 0) (plT L m.what) m)=q.2:=by
 have h1:q.2∈plT L m.what:=lY.2 ⟨q,List.mem_filter.2 ⟨hq,by simpa using he.symm⟩,rfl⟩;cases hp:plT L m.what with
 | nil=>rw [hp] at h1; cases h1
 | cons r t =>
  have h2:r∈plT L m.what:=by rw [hp]; simp
  obtain ⟨q2,h3,h4⟩:=lY.1 h2;obtain ⟨h5,h6⟩:=List.mem_filter.1 h3;have h7:q2.1=m.what:=by simpa using h6
  have h8:q2.2=q.2:=hA q2 h5 q hq (h7.trans he);have h9:r=q.2:=h4.symm.trans h8;subst h9;have h10:=hL q hq;unfold placeT mvT;dsimp only;rw [zir h10.1 h10.2,show q.2.2 - v.st.getD k 0+v.st.getD k 0=q.2.2 by omega]
theorem zho {st:Int} {v:VwT} {l:List SkT} (hs:0<st) (h:∀ x∈l,SkOk st x):∀ k,k<=l.length->AgT (yc st v 0 (truA st v l k))
 | 0,_=>fun p hp=>by cases hp
 | k+1,hk=>by
  have hx:=lA (show k<l.length by omega);generalize l[k]=x at hx;have hA:=zho (v:=v) hs h k oQ;have hL:∀ p∈yc st v 0 (truA st v l k),0<=p.2.1/\p.2.1<st:=fun p hp=>za8 hs p hp;have hn:=uj (st:=st) (v:=v) (l:=l) k oQ;rw [uZ hx,uB,hn,mO];generalize yc st v 0 (truA st v l k)=L at hA hL;have e:yc st v k [truX st v k L x]=seenT st v k (truX st v k L x):=by
   show seenT st v k _++[]=_;rw [lR]
  rw [e];unfold seenT truX;by_cases hw:bitT v.wr k=tt
  ·rw [if_pos hw,lR];exact hA
  ·rw [if_neg hw,if_neg hw];have hN:∀ p∈marksT st v k (movT st (v.fr.getD k 0) (v.st.getD k 0) L x.wide x.mK),∃ m∈x.mK,p.1=m.what/\p.2=placeT st v k (mvT st (v.fr.getD k 0) (v.st.getD k 0) (plT L m.what) m):=fun p hp=>by
    obtain ⟨m,hm,rfl⟩:=lY.1 hp;obtain ⟨_,m0,h2,rfl⟩:=zgV hm;exact ⟨m0,h2,zbt ..,rfl⟩
   have hX:∀ p∈marksT st v k (movT st (v.fr.getD k 0) (v.st.getD k 0) L x.wide x.mK),∀ q∈L,p.1=q.1->p.2=q.2:=fun p hp q hq he=>by
    obtain ⟨m,hm,h1,h2⟩:=hN p hp;rw [h2];exact zkY hL hA hq (h1.symm.trans he)
   intro p hp q hq he;rcases lT.1 hp with hp | hp <;> rcases lT.1 hq with hq | hq
   ·exact hA p hp q hq he
   ·exact (hX q hq p hp he.symm).symm
   ·exact hX p hp q hq he
   ·obtain ⟨m,hm,h1,h2⟩:=hN p hp;obtain ⟨n,hn,h3,h4⟩:=hN q hq;have h5:=zjj (h x (lN hx)).two m hm n hn (h1.symm.trans (he.trans h3));rw [h2,h4,h5]
theorem zbg:∀ (l:List SkT) (n:Int),waysI (l.map bareT) n=waysI l n
 | [],n=>rfl
 | x::l,n=>zbg l (n*waysX x)
theorem zcv {l:List SkT}:((l.map bareT).Pairwise fun x y=>x.name.toList≠y.name.toList)↔l.Pairwise fun x y=>x.name.toList≠y.name.toList:=List.pairwise_map
theorem zo7 {b:StpB} (v:VwT) (hb:StpOk b):StpOk (trueT b v):=by
 have h0:=uD (st:=b.steps) (v:=v) (l:=b.sks) b.sks.length;rw [lW] at h0;have hs:0<b.steps:=by have:=hb.st; omega
 refine ⟨hb.st,hb.wr,?_,zbz hs hb.sk _,?_,?_⟩
 ·show 1<=(truA b.steps v b.sks b.sks.length).length/\(truA b.steps v b.sks b.sks.length).length<=4;rw [uj _ (mL _)];exact hb.ns
 ·refine zcv.1 ?_;show ((truA b.steps v b.sks b.sks.length).map bareT).Pairwise _;rw [h0];exact zcv.2 hb.two
 ·show waysI (truA b.steps v b.sks b.sks.length) 1<=200;rw [<- zbg,h0,zbg];exact hb.wy
theorem zbA (b:StpB) (v:VwT):(trueT b v).sks.length=b.sks.length:=uj _ (mL _)
theorem zo5 {b:StpB} {v:VwT} {k:Nat} {y:SkT} (h:(trueT b v).sks[k]? =some y):∃ x,b.sks[k]? =some x/\bareT y=bareT x:=by
 have h0:=uD (st:=b.steps) (v:=v) (l:=b.sks) b.sks.length;rw [lW] at h0;have h1:((trueT b v).sks.map bareT)[k]? =some (bareT y):=by rw [lQ,h]; rfl
 rw [show (trueT b v).sks.map bareT=b.sks.map bareT from h0,lQ] at h1;cases hx:b.sks[k]? with
 | none=>rw [hx] at h1; cases h1
 | some x=>rw [hx] at h1; exact ⟨x,rfl,(Option.some.inj h1).symm⟩
structure WrT (k m:Nat) (l:List Int):Prop where
 lt:m<2 ^ k
 ones:onesT 4 m=l.length
 bit:∀ i,i<4->(bitT m i=tt↔(i:Int)∈l)
 bd:∀ x∈l,0<=x/\x<k
theorem zpb:∀ k:Fin 4,∀ m:Fin 8,m.1<2 ^ k.1->m.1+2 ^ k.1<2 ^ (k.1+1)/\onesT 4 (m.1+2 ^ k.1)=onesT 4 m.1+1/\∀ i:Fin 4,bitT (m.1+2 ^ k.1) i.1=(bitT m.1 i.1||decide (i.1=k.1)):=by decide
theorem bit_z:∀ i:Fin 4,bitT 0 i.1=ff:=by decide
theorem WrT.z:WrT 0 0 []:=⟨by decide,rfl,fun i hi=>by rw [bit_z ⟨i,hi⟩]; simp,fun x hx=>by cases hx⟩
theorem WrT.no {k m:Nat} {l:List Int} (h:WrT k m l):WrT (k+1) m l:=⟨by have:=h.lt; rw [Nat.pow_succ]; omega,h.ones,h.bit,fun x hx=>by have:=h.bd x hx; omega⟩
theorem WrT.yes {k m:Nat} {l:List Int} (hk:k<4) (h:WrT k m l):WrT (k+1) (m+2 ^ k) (l++[(k:Int)]):=by
 have h8:m<8:=Nat.lt_of_lt_of_le h.lt (Nat.pow_le_pow_right dQ (show k<=3 by omega));obtain ⟨h1,h2,h3⟩:=zpb ⟨k,hk⟩ ⟨m,h8⟩ h.lt;refine ⟨h1,?_,fun i hi=>?_,fun x hx=>?_⟩
 ·rw [lF,<- h.ones];exact h2
 ·have h4:=h3 ⟨i,hi⟩;dsimp only at h4;rw [h4,Bool.or_eq_true,h.bit i hi,lT,lS,decide_eq_true_eq];exact or_congr_right ⟨fun e=>by omega,fun e=>by omega⟩
 ·rcases lT.1 hx with hx | hx
  ·have:=h.bd x hx; omega
  ·rw [lS.1 hx]; omega
structure ReT (b:StpB) (k:Nat) (A C:List Int) (m:Nat) (l:List Int):Prop where
 la:A.length=k
 lc:C.length=k
 bd:∀ q x,q<k->b.sks[q]? =some x->(x.flo<=A.getD q 0/\A.getD q 0<=x.fhi)/\x.slo<=C.getD q 0/\C.getD q 0<=x.shi
 wr:WrT k m l
 le:(l.length:Int)<=b.wrong
theorem ReT.z {b:StpB} (h:0<=b.wrong):ReT b 0 [] [] 0 []:=⟨rfl,rfl,fun q x hq _=>by omega,WrT.z,h⟩
theorem zdJ {A:List Int} {a:Int} {q:Nat} (h:q<A.length+1):(A++[a]).getD q 0=if q=A.length then a else A.getD q 0:=by
 rw [lE];by_cases e:q=A.length
 ·rw [if_pos e,e,lO (mL _),Nat.sub_self]; rfl
 ·rw [if_neg e,lG oQ,<- lE]
theorem ReT.bd1 {b:StpB} {k:Nat} {A C l:List Int} {m:Nat} {x:SkT} {a c:Int} (h:ReT b k A C m l) (hx:b.sks[k]? =some x) (ha:x.flo<=a/\a<=x.fhi) (hc:x.slo<=c/\c<=x.shi):∀ q y,q<k+1->b.sks[q]? =some y->(y.flo<=(A++[a]).getD q 0/\(A++[a]).getD q 0<=y.fhi)/\y.slo<=(C++[c]).getD q 0/\(C++[c]).getD q 0<=y.shi:=fun q y hq hy=>by
 rw [zdJ (by rw [h.la]; exact hq),zdJ (by rw [h.lc]; exact hq),h.la,h.lc];by_cases e:q=k
 ·subst e;rw [hx] at hy;cases hy;rw [if_pos rfl,if_pos rfl];exact ⟨ha,hc⟩
 ·rw [if_neg e,if_neg e];exact h.bd q y oQ hy
theorem ReT.no {b:StpB} {k:Nat} {A C l:List Int} {m:Nat} {x:SkT} {a c:Int} (h:ReT b k A C m l) (hx:b.sks[k]? =some x) (ha:x.flo<=a/\a<=x.fhi) (hc:x.slo<=c/\c<=x.shi):ReT b (k+1) (A++[a]) (C++[c]) m l:=⟨by rw [lF,h.la]; rfl,by rw [lF,h.lc]; rfl,h.bd1 hx ha hc,h.wr.no,h.le⟩
theorem ReT.yes {b:StpB} {k:Nat} {A C l:List Int} {m:Nat} {x:SkT} {a c:Int} (h:ReT b k A C m l) (hx:b.sks[k]? =some x) (hk:k<4) (ha:x.flo<=a/\a<=x.fhi) (hc:x.slo<=c/\c<=x.shi) (hl:(l.length:Int)<b.wrong):ReT b (k+1) (A++[a]) (C++[c]) (m+2 ^ k) (l++[(k:Int)]):=⟨by rw [lF,h.la]; rfl,by rw [lF,h.lc]; rfl,h.bd1 hx ha hc,h.wr.yes hk,by rw [lF,List.length_singleton]; omega⟩
def vwR (A C:List Int) (m:Nat):VwT:=⟨putL zero4 0 A,putL zero4 0 C,m⟩
theorem zjp {A:List Int} {k:Nat} (h:k<A.length) (h4:A.length<=4):(putL zero4 0 A).getD k 0=A.getD k 0:=by
 have:=zbu A zero4 0 k h (by show 0+A.length<=4; omega);rwa [mO] at this
theorem zlr {b:StpB} {A C:List Int} {m:Nat} {l:List Int} (hb:StpOk b) (h:ReT b b.sks.length A C m l):vwR A C m∈allT (trueT b (vwR A C m)):=by
 have hs:0<b.steps:=by have:=hb.st; omega
 refine zaj.2 ⟨m,by rw [zbA]; exact h.wr.lt,by rw [h.wr.ones]; exact h.le,zdl _ _ _ _ A C (by rw [zbA]; exact h.la) (by rw [zbA]; exact h.lc) (fun k y hy=>?_) ?_⟩
 ·obtain ⟨x,hx,e⟩:=zo5 hy;have h1:=h.bd k x (lD.1 hx).1 hx;have e1:y.flo=x.flo:=congrArg (a₁:=bareT y) (a₂:=bareT x) SkT.flo e;have e2:y.fhi=x.fhi:=congrArg (a₁:=bareT y) (a₂:=bareT x) SkT.fhi e;have e3:y.slo=x.slo:=congrArg (a₁:=bareT y) (a₂:=bareT x) SkT.slo e;have e4:y.shi=x.shi:=congrArg (a₁:=bareT y) (a₂:=bareT x) SkT.shi e;rw [e1,e2,e3,e4];exact h1
 ·exact zjb (zho hs hb.sk _ (mL _))
theorem zl0 {c:Int}:∀ {l:List Int},l.Pairwise (· < ·)->(∀ x,x∈l↔x=c)->l=[c]
 | [],_,h=>by have:=(h c).2 rfl; cases this
 | [a],_,h=>by rw [(h a).1 sQ]
 | a::b::l,hp,h=>by
  have h1:=(h a).1 sQ;have h2:=(h b).1 sQ;have h3:=(List.pairwise_cons.1 hp).1 b sQ;omega
theorem zgg {b:StpB} {v:VwT} (hn:b.sks.length<=4) {i:Nat} (hi:i<b.sks.length) (h:v∈allT b):seatsT (levelT b i (v.st.getD i 0)) i=[v.st.getD i 0]:=by
 refine zl0 (za6 _ _) fun x=>?_;rw [za7];constructor
 ·rintro ⟨w,hw,rfl⟩;have hx:=lA hi;have hx2:(levelT b i (v.st.getD i 0)).sks[i]? =some (levelX b.sks[i] (v.st.getD i 0)):=by
   show (b.sks.modify i fun x=>levelX x (v.st.getD i 0))[i]? =_;rw [List.getElem?_modify_eq,hx];rfl
  have h1:=zbR (by rw [ut]; exact hn) hw hx2;exact Int.le_antisymm h1.2 h1.1
 ·rintro rfl;exact ⟨v,zds hn h hi,rfl⟩
theorem zb8 {b:StpB} (hb:StpOk b) {i:Nat} {x:SkT} (hx:b.sks[i]? =some x) {c:Int} (hc:c∈seatsT b i):x.slo<=c/\c<=x.shi:=by
 obtain ⟨v,hv,rfl⟩:=za7.1 hc;exact zbR hb.ns.2 hv hx
theorem zaK:∀ {l:List Int},l.Pairwise (· < ·)->∀ x∈l,l.getD 0 0<=x/\x<=l.getD (l.length - 1) 0
 | [],_,x,h=>by cases h
 | [a],_,x,h=>by rw [lS.1 h]; exact ⟨Int.le_refl _,Int.le_refl _⟩
 | a::b::l,hp,x,h=>by
  obtain ⟨h1,h2⟩:=List.pairwise_cons.1 hp;have h3:=zaK (l:=b::l) h2 b sQ;have h4:=h1 b sQ;have e:(a::b::l).getD ((a::b::l).length - 1) 0=(b::l).getD ((b::l).length - 1) 0:=rfl;rw [e];rcases lI.1 h with rfl | h
  ·exact ⟨Int.le_refl _,oQ⟩
  ·have:=zaK (l:=b::l) h2 x h;have h5:=h1 x h;exact ⟨by show a<=x; omega,this.2⟩
theorem vt (b:RBk) (i:Nat) (x y:RBand):z8 (z8 b i x) i y=z8 b i y:=by
 unfold z8;rw [List.set_set]
theorem vW (b:RBk) (i:Nat) (x:RBand):z8 b i x=zI b (b.sH.set i x) b.mE:=rfl
theorem zkg {b:RBk} {i:Nat} {x:RBand} {k:Nat} (hk:k<b.sH.length):bd (z8 b i x) k=if i=k then x else bd b k:=by
 have h3:=yT (b:=z8 b i x) (i:=k) (by show k<(b.sH.set i x).length; rw [List.length_set]; exact hk);have h4:(b.sH.set i x)[k]? =some (bd (z8 b i x) k):=h3;rw [lX] at h4;by_cases e:i=k
 ·rw [if_pos e] at h4 ⊢;rw [if_pos oQ] at h4;exact (Option.some.inj h4).symm
 ·rw [if_neg e] at h4 ⊢;rw [yT hk] at h4;exact (Option.some.inj h4).symm
theorem zif {b:RBk} {i:Nat} {lo hi c:Int} (hm:b.mE=[]) (Qb:i<b.sE.length) (hw:zy (z8 b i ⟨lo,hi⟩)=0) (h1:lo<=c) (h2:c<=hi):zy (z8 b i ⟨c,c⟩)=0/\zh (z8 b i ⟨c,c⟩)≠[]/\(∀ s∈zh (z8 b i ⟨c,c⟩),s∈zh (z8 b i ⟨lo,hi⟩))/\(zh (z8 b i ⟨c,c⟩)).length<=(zh (z8 b i ⟨lo,hi⟩)).length:=by
 have hb:=zX hw;have hl:(z8 b i ⟨lo,hi⟩).sH.length=b.sE.length:=hb.cls.len;have hl0:b.sH.length=b.sE.length:=by rw [<- hl]; exact (List.length_set ..).symm
 have hbd:bd (z8 b i ⟨lo,hi⟩) i=⟨lo,hi⟩:=by rw [zkg oQ,if_pos rfl]
 have hn:=ziH hb (i:=i) (z:=⟨c,c⟩) oQ (by rw [hbd]; exact h1) (Int.le_refl _) (by rw [hbd]; exact h2);have Qv:=zhQ (b:=z8 b i ⟨lo,hi⟩) (sh:=(z8 b i ⟨lo,hi⟩).sH.set i ⟨c,c⟩) (me:=(z8 b i ⟨lo,hi⟩).mE) (List.length_set ..) (fun k x y hx hy=>by
  rw [lX] at hx;by_cases e:i=k
  ·subst e;rw [if_pos rfl,if_pos oQ] at hx;have e2:=yT (b:=z8 b i ⟨lo,hi⟩) (i:=i) oQ;rw [hy,hbd] at e2;cases hx;cases e2;exact ⟨h1,h2⟩
  ·rw [if_neg e,hy] at hx;cases hx;exact ⟨Int.le_refl _,Int.le_refl _⟩) (fun m hm=>hm)
 rw [<- vW,vt] at Qv;rw [vt] at hn;refine ⟨zk8 hn,?_,fun s hs=>Qv.subset hs,Qv.length_le⟩;have hin:InB (z8 b i ⟨c,c⟩) ((z8 b i ⟨c,c⟩).sH.map (·.low)):=by
  refine ⟨lJ ..,fun k hk=>?_⟩;have h3:=hn.cls.bnd k (by rw [<- hn.cls.len]; exact hk);have e:((z8 b i ⟨c,c⟩).sH.map (·.low)).getD k 0=(bd (z8 b i ⟨c,c⟩) k).low:=by
   rw [lE,lQ,yT hk]; rfl
  rw [e];exact ⟨Int.le_refl _,h3.2.1⟩
 refine List.ne_nil_of_mem (ziW hin ?_);unfold rightM;show b.mE.all _=tt;rw [hm];rfl
end Go.Vel
namespace Go.Vel
open Go Go.Conc Go.Proofs
theorem not_t {a:Bool} (h:(!a)=ff):a=tt:=by cases a <;> simp_all
theorem zhq (c:UInt8):IntKind.i64.wrap (c.toNat:Int)=(c.toNat:Int):=kg (by have:=c.toNat_lt; omega)
theorem ziy {i:Nat} {c:Int} (h:(!(decide (97<=c)&&decide (c<=122)))=ff):byteOk i c=tt:=by
 unfold byteOk;rw [show (decide (97<=c)&&decide (c<=122))=tt by simpa using h]; rfl
theorem znp (s:ByteArray) (i:Nat):s[i]? =s.data[i]? :=by
 first | rfl | (simp [ByteArray.getElem?_eq,Array.getElem?_eq] <;> rfl) | (by_cases h:i<s.size <;> simp [getElem?_pos,getElem?_neg,h] <;> rfl)
def GrSk (x:SkT):Prop:=x.name.size<=100/\x.mK.length<=20/\∀ m∈x.mK,m.what.size<=100
structure MkOk (x:SkT):Prop where
 nm:x.mK.length<=4
 mks:∀ m∈x.mK,isNameM m.what=tt/\0<=m.col/\m.col<=x.wide - 1 /\ -9<=m.row/\m.row<=9
 two:x.mK.Pairwise fun m n=>m.what.toList≠n.what.toList
theorem znA {st:Int} {l:List SkT} {i:Nat} (h:∀ x∈l.take i,SkOk st x) (hi:i<=4):1<=waysI (l.take i) 1/\waysI (l.take i) 1<=6561:=by
 have:=zef (l:=l.take i) h hi;rwa [List.take_take,Nat.min_self] at this
theorem zj4 {W a c:Int} (hW:1<=W/\W<=6561) (ha:1<=a/\a<=3) (hc:1<=c/\c<=3):(-9223372036854775808<=W*a/\W*a<9223372036854775808)/\(-9223372036854775808<=W*a*c/\W*a*c<9223372036854775808):=by
 have a1:a=1\/a=2\/a=3:=by omega
 have a2:c=1\/c=2\/c=3:=by omega
 rcases a1 with rfl | rfl | rfl <;> rcases a2 with rfl | rfl | rfl <;> omega
theorem zcr {main T} (hT:zt tp main T) {gm} {s:ByteArray} (hl:s.size<=1000) :
  zr tp T gm 59 [.v (.string s)] [] (fun r K'=>r=zC (isNameM s)/\K'=[]):=by
 refine zn 31 hT Tryz.func59 fun Y Wz=>?_;refine au 130354223542 ?_;refine bA [0,3] ?_;refine bE (fun n Wq K=>∃ (i:Nat),n=s.size - i/\i<=s.size/\bytesOk s i=tt/\Wq=.v (.string s)::naL 2 (za i::naL 27 [])/\K=[]) s.size ⟨0,rfl,mN _,rfl,rfl,rfl⟩ fun n Wq K hI Wj=>?_;obtain ⟨i,rfl,hi,hok,rfl,rfl⟩:=hI;refine bG nQ ?_;refine au 93729011422 ?_;refine ⟨fun hc=>?_,fun hc=>?_⟩
 ·simp only [decide_eq_true_eq] at hc;have Qb:i<s.data.size:=by have:s.data.size=s.size:=rfl; omega
  obtain ⟨cb,hcb⟩:∃ cb,s.data[i]? =some cb:=⟨_,mD Qb⟩;have hcs:s[((i:Int)).toNat]? =some cb:=by rw [mZ]; exact (znp s i).trans hcb
  refine au 11421302120 ?_;refine bH Z (wA Z Z Z Und.h oQ (by exact hcs)) ?_;refine bH Z (yu Z Z Und.h Und.h (zhq _)) ?_;refine TK.clE Z Z Z Z (yk hT) ?_;refine au 1300 ?_;refine bF 16 (fun g4_7=>?_) (fun g4_7=>?_)
  ·refine au 171 ?_;refine bF 19 (fun g4_10=>?_) (fun g4_10=>?_)
   ·refine au 35421803260260888888 ?_;refine bB Wz [] ?_;exact ⟨by unfold isNameM; rw [zbE (n:=s.size) hcb Qb (zaL g4_7 g4_10)] <;> rfl,rfl⟩
   refine au 11 ?_;refine bH Z (wA Z Z Z Und.h oQ (by exact hcs)) ?_;refine bH Z (yu Z Z Und.h Und.h (zhq _)) ?_;refine TK.clE Z Z Z Z (yk hT) ?_;refine au 93260250300 ?_;constructor<;>intro Jx
   ·refine au 3542 ?_;refine bB Wz [] ?_;exact ⟨by unfold isNameM; rw [zbE (n:=s.size) hcb Qb (by exact (vr g4_7 g4_10).trans (not_f Jx))] <;> rfl,rfl⟩
   refine au 3523014140120 ?_;refine bA [0,3] ?_;exact Wj _ _ _ oQ ⟨i+1,rfl,oQ,by rw [zaM hcb,hok,vr g4_7 g4_10,show (decide (48<=(cb.toNat:Int))&&decide ((cb.toNat:Int)<=57))=tt from not_t Jx] <;> rfl,rfl,rfl⟩
  refine au 352301414012019032508888888888 ?_;refine bA [0,3] ?_;exact Wj _ _ _ oQ ⟨i+1,rfl,oQ,by rw [zaM hcb,hok,ziy g4_7] <;> rfl,rfl,rfl⟩
 simp only [decide_eq_false_iff_not] at hc;obtain rfl:i=s.size:=by omega
 refine au 290142160 ?_;refine TK.clE Z Z Z Z (yk hT) ?_;refine au 35 ?_;refine bB Wz [] ?_;exact ⟨by unfold isNameM; rw [hok] <;> rfl,rfl⟩
theorem zhS {main T} (hT:zt tp main T) {gm} {p:Nat×SkT} :
  zr tp T gm 58 [.agg (skC p)] [(p.1,mkO p.2)] (fun r K'=>(∃ z,r=zC z/\(z=ff->GrSk p.2))/\K'=[(p.1,mkO p.2)]):=by
 refine zn 29 hT Tryz.func58 fun Y Wz=>?_;refine au 21042 ?_;intro jb hjb;refine au 1729069067042235 ?_;refine bF 8 (fun g1_5=>?_) (fun g1_5=>?_)
 ·refine au 354218032608888 ?_;refine bB Wz [(p.1,_)] ?_;exact ⟨⟨tt,rfl,fun h=>by cases h⟩,rfl⟩
 refine au 932507280690670 ?_;constructor<;>intro Jz
 ·refine au 3542 ?_;refine bB Wz [(p.1,_)] ?_;exact ⟨⟨tt,rfl,fun h=>by cases h⟩,rfl⟩
 have h20:p.2.name.size<=100/\p.2.mK.length<=20:=by simp_all; omega
 refine au 13035422120 ?_;refine bA [1,3] ?_;refine bE (fun n Wq K=>∃ (i:Nat),n=p.2.mK.length - i/\i<=p.2.mK.length/\(∀ x∈p.2.mK.take i,x.what.size<=100)/\Wq=.any::.ptr jb 0::.any::za i::naL 25 []/\K=[(jb,.cells (skC p) 95 tt),(p.1,mkO p.2)]) p.2.mK.length ⟨0,rfl,mN _,fun x hx=>by simp at hx,rfl,rfl⟩ fun n Wq K hI Wj=>?_;obtain ⟨i,rfl,hi,hall,rfl,rfl⟩:=hI;refine bG nQ ?_;refine au 9372806906701422 ?_;constructor<;>intro Jx
 ·have Qb:i<p.2.mK.length:=by simp [betw] at Jx; omega
  obtain ⟨m,hm⟩:∃ m,p.2.mK[i]? =some m:=⟨_,lA Qb⟩;refine au 6703601690670421302120 ?_;refine bH Z (zj Z Z ze.h mQ (yd (c:=0) (mk_at hm Z) dQ Z)) ?_;refine au 937290 ?_;constructor<;>intro hc2
  ·refine au 3542 ?_;refine bB Wz [(p.1,_)] ?_;exact ⟨⟨tt,rfl,fun h=>by cases h⟩,rfl⟩
  refine au 3523014140120 ?_;refine bA [1,3] ?_;refine bC [(jb,_),(p.1,_)] ?_;exact Wj _ _ _ oQ ⟨i+1,rfl,oQ,fun x hx=>by
   rw [List.take_add_one,hm] at hx;rcases lT.1 hx with hx | hx
   ·exact hall x hx
   ·simp at hx; subst hx; simp at hc2; omega,rfl,rfl⟩
 obtain rfl:i=p.2.mK.length:=by simp [betw] at Jx; omega
 refine au 3542160 ?_;refine bB Wz [(p.1,_)] ?_;exact ⟨⟨ff,rfl,fun _=>⟨h20.1,h20.2,fun x hx=>hall x (by rw [lW]; exact hx)⟩⟩,rfl⟩
theorem zhT {main T} (hT:zt tp main T) {gm} {st wr:Int} {g:Nat} {Zq:List (Nat×SkT)} :
  zr tp T gm 20 [.agg (stpC st wr g Zq)] ((g,skO Zq)::mkK Zq) (fun r K'=>(∃ z,r=zC z/\(z=ff->Zq.length<=20/\∀ p∈Zq,GrSk p.2))/\K'=(g,skO Zq)::mkK Zq):=by
 refine zn 21 hT Tryz.func20 fun Y Wz=>?_;refine au 21042 ?_;intro jb hjb;refine au 93728069067042235 ?_;constructor<;>intro Jz
 ·refine au 3542 ?_;refine bB Wz (((g,_)::mkK Zq)) ?_;exact ⟨⟨tt,rfl,fun h=>by cases h⟩,rfl⟩
 have h20:Zq.length<=20:=by simp at Jz; omega
 refine au 13035422120 ?_;refine bA [1,3] ?_;refine bE (fun n Wq K=>∃ (i:Nat),n=Zq.length - i/\i<=Zq.length/\(∀ x∈Zq.take i,GrSk x.2)/\Wq=.any::.ptr jb 0::.any::za i::naL 17 []/\K=(jb,.cells (stpC st wr g Zq) 29 tt)::(g,skO Zq)::mkK Zq) Zq.length ⟨0,rfl,mN _,fun x hx=>by simp at hx,rfl,rfl⟩ fun n Wq K hI Wj=>?_;obtain ⟨i,rfl,hi,hall,rfl,rfl⟩:=hI;refine bG nQ ?_;refine au 9372806906701422 ?_;constructor<;>intro Jx
 ·have Qb:i<Zq.length:=by simp [betw] at Jx; omega
  obtain ⟨p,hp⟩:∃ p,Zq[i]? =some p:=⟨_,lA Qb⟩;obtain ⟨Rq,hRq⟩:=ve (v8 hp);refine au 3601690670421302120 ?_;refine bH Z (zS Z Z ze.h mQ (sk_at hp Z)) ?_;refine bD Z Z Z Z ((zhS hT (p:=p)).frameP hRq.perm) ?_ (hs:=(.right (.right (.all _))));rintro r1 K2 ⟨⟨z,rfl,hz⟩,rfl⟩;refine au 0 ?_;refine bN (K':=(jb,_)::(g,_)::mkK Zq) (lH (l₁:=mkK Zq) (l₂:=[(jb,_),(g,_)])) ?_;refine au 93 ?_;constructor<;>intro hc2
  ·refine au 3542 ?_;refine bB Wz (((g,_)::mkK Zq)) ?_;exact ⟨⟨tt,rfl,fun h=>by cases h⟩,rfl⟩
  refine au 3523014140120 ?_;refine bA [1,3] ?_;refine bC (((jb,_)::(g,_)::mkK Zq)) ?_;exact Wj _ _ _ oQ ⟨i+1,rfl,oQ,fun x hx=>by
   rw [List.take_add_one,hp] at hx;rcases lT.1 hx with hx | hx
   ·exact hall x hx
   ·simp at hx; subst hx; exact hz hc2,rfl,rfl⟩
 obtain rfl:i=Zq.length:=by simp [betw] at Jx; omega
 refine au 3542160 ?_;refine bB Wz (((g,_)::mkK Zq)) ?_;exact ⟨⟨ff,rfl,fun _=>⟨h20,fun x hx=>hall x (by rw [lW]; exact hx)⟩⟩,rfl⟩
theorem zhF {main T} (hT:zt tp main T) {gm} {p:Nat×SkT} (hg:GrSk p.2) (hw:1<=p.2.wide/\p.2.wide<=24) :
  zr tp T gm 62 [.agg (skC p)] [(p.1,mkO p.2)] (fun r K'=>(∃ c,r=za c/\(c=0->MkOk p.2))/\K'=[(p.1,mkO p.2)]):=by
 refine zn 53 hT Tryz.func62 fun Y Wz=>?_;refine au 21042 ?_;intro jb hjb;refine au 93728069067042235 ?_;constructor<;>intro Jz
 ·refine au 3542 ?_;refine bB Wz [(p.1,_)] ?_;exact ⟨⟨2,rfl,fun h=>by cases h⟩,rfl⟩
 have h0:p.2.mK.length<=4:=by simp at Jz; omega
 refine au 13035422120 ?_;refine bA [1,3] ?_;refine bE (fun n Wq K=>∃ (i:Nat),n=p.2.mK.length - i/\i<=p.2.mK.length/\(∀ m∈p.2.mK.take i,isNameM m.what=tt/\0<=m.col/\m.col<=p.2.wide - 1 /\ -9<=m.row/\m.row<=9)/\(p.2.mK.take i).Pairwise (fun m n=>m.what.toList≠n.what.toList)/\Wq=.any::.ptr jb 0::.any::za i::naL 49 []/\K=[(jb,.cells (skC p) 95 tt),(p.1,mkO p.2)]) p.2.mK.length ⟨0,rfl,mN _,fun x hx=>by simp at hx,by simp,rfl,rfl⟩ fun n Wq K hI Wj=>?_;obtain ⟨i,rfl,hi,hmk,hpw,rfl,rfl⟩:=hI;refine bG nQ ?_;refine au 9372806906701422 ?_;constructor<;>intro Jx
 ·have Qb:i<p.2.mK.length:=by simp [betw] at Jx; omega
  obtain ⟨m,hm⟩:∃ m,p.2.mK[i]? =some m:=⟨_,lA Qb⟩;have hms:=hg.2.2 m (lN hm);refine au 3601690670421302120 ?_;refine bH Z (zS Z Z ze.h mQ (mk_at hm Z)) ?_;refine au 220 ?_;intro jx hjx;refine au 6906704223170 ?_;refine TK.clE Z Z Z Z (zcr hT oQ) ?_;refine au 93300 ?_;constructor<;>intro hc2
  ·refine au 3542 ?_;refine bB Wz [(p.1,_)] ?_;exact ⟨⟨4,rfl,fun h=>by cases h⟩,rfl⟩
  refine au 13035422120 ?_;refine bA [1,3,4,5] ?_;refine bE (fun n Wq K=>∃ (q:Nat),n=i - q/\q<=i/\(∀ y∈p.2.mK.take q,y.what.toList≠m.what.toList)/\Wq=.any::.ptr jb 0::.any::za i::.ptr jx 0::za q::naL 47 []/\K=[(jx,.cells (mkC m) 98 tt),(jb,.cells (skC p) 95 tt),(p.1,mkO p.2)]) i ⟨0,rfl,mN _,fun x hx=>by simp at hx,rfl,rfl⟩ fun n Wq K hI hnext2=>?_;obtain ⟨q,rfl,hq,hne,rfl,rfl⟩:=hI;refine bG nQ ?_;refine au 93711422 ?_;constructor<;>intro hc3
  ·have hqi:q<i:=by simp at hc3; omega
   obtain ⟨m2,hm2⟩:∃ m2,p.2.mK[q]? =some m2:=⟨_,lA oQ⟩;refine au 21302120 ?_;refine bL [0,1,2,3,4,5,6,7,8] ?_;refine ad [[3,1],[10,31],[1,5],[2,32,33],[3,34]] ?_;refine TD.y [35] Z (hq:=zj Z Z ze.h (mC _) (yd (c:=0) (mk_at hm2 Z) dQ Z)) (h:=?_);refine ad [[3,4],[10,37]] ?_;refine bU [36,38] Z (zfs Z Z Z Z) ?_;refine ad [[14]] ?_;refine au 9 ?_;constructor<;>intro hc4
   ·refine au 3542 ?_;refine bB Wz [(p.1,_)] ?_;exact ⟨⟨5,rfl,fun h=>by cases h⟩,rfl⟩
   refine au 3523014140120 ?_;refine bA [1,3,4,5] ?_;refine bC [(jx,_),(jb,_),(p.1,_)] ?_;exact hnext2 _ _ _ oQ ⟨q+1,rfl,oQ,fun y hy=>by
    rw [List.take_add_one,hm2] at hy;rcases lT.1 hy with hy | hy
    ·exact hne y hy
    ·simp at hy; subst hy; simpa using hc4,rfl,rfl⟩
  obtain rfl:i=q:=by simp at hc3; omega
  refine au 24069067069067042160 ?_;refine TK.clE Z Z Z Z (yk hT) ?_;refine au 1300 ?_;refine bF 47 (fun g14_8=>?_) (fun g14_8=>?_)
  ·refine au 354218032608888 ?_;refine bB Wz [(p.1,_)] ?_;exact ⟨⟨1,rfl,fun h=>by cases h⟩,rfl⟩
  refine au 690670 ?_;refine TK.clE Z Z Z Z (yk hT) ?_;refine au 93250300 ?_;constructor<;>intro hc5
  ·refine au 3542 ?_;refine bB Wz [(p.1,_)] ?_;exact ⟨⟨1,rfl,fun h=>by cases h⟩,rfl⟩
  refine au 3523014140120 ?_;refine bA [1,3] ?_;refine bC [(jb,_),(p.1,_)] ?_;have hmx:isNameM m.what=tt/\0<=m.col/\m.col<=p.2.wide - 1 /\ -9<=m.row/\m.row<=9:=⟨by simpa using hc2,by simp [betw] at g14_8 hc5; omega⟩;exact Wj _ _ _ oQ ⟨i+1,rfl,oQ,fun x hx=>by
   rw [List.take_add_one,hm] at hx;rcases lT.1 hx with hx | hx
   ·exact hmk x hx
   ·simp at hx; subst hx; exact hmx,by
   rw [List.take_add_one,hm];refine List.pairwise_append.2 ⟨hpw,by simp,fun x hx y hy=>?_⟩;simp at hy;subst hy;exact hne x hx,rfl,rfl⟩
 obtain rfl:i=p.2.mK.length:=by simp [betw] at Jx; omega
 refine au 3542160 ?_;refine bB Wz [(p.1,_)] ?_;rw [lW] at hmk hpw;exact ⟨⟨0,rfl,fun _=>⟨h0,hmk,hpw⟩⟩,rfl⟩
theorem zay {main T} (hT:zt tp main T) {gm} {a z:Int} (h : -1000<=a/\a<=1000 /\ -1000<=z/\z<=1000) :
  zr tp T gm 61 [.agg [za a,za z]] [] (fun r K'=>r=za (z - a+1)/\K'=[]):=by
 refine zn 9 hT Tryz.func61 fun Y Wz=>?_;refine au 21042 ?_;intro jb hjb;refine au 352302406906706906704235 ?_;refine bB Wz [] ?_;exact ⟨rfl,rfl⟩
theorem zhG {main T} (hT:zt tp main T) {gm} {st wr:Int} {g:Nat} {Zq:List (Nat×SkT)} (hl:Zq.length<=20) (hgr:∀ p∈Zq,GrSk p.2) :
  zr tp T gm 21 [.agg (stpC st wr g Zq)] ((g,skO Zq)::mkK Zq) (fun r K'=>(∃ c,r=za c/\(c=0->StpOk (skB st wr Zq)))/\K'=(g,skO Zq)::mkK Zq):=by
 refine zn 102 hT Tryz.func21 fun Y Wz=>?_;refine au 21042 ?_;intro jb hjb;refine au 69067042235 ?_;refine TK.clE Z Z Z Z (yk hT) ?_;refine au 1300 ?_;refine bF 12 (fun g1_5=>?_) (fun g1_5=>?_)
 ·refine au 354218032608888 ?_;refine bB Wz (((g,_)::mkK Zq)) ?_;exact ⟨⟨1,rfl,fun h=>by cases h⟩,rfl⟩
 refine au 690670 ?_;refine TK.clE Z Z Z Z (yk hT) ?_;refine au 93250300 ?_;constructor<;>intro Jz
 ·refine au 3542 ?_;refine bB Wz (((g,_)::mkK Zq)) ?_;exact ⟨⟨1,rfl,fun h=>by cases h⟩,rfl⟩
 have h0:(4<=st/\st<=24)/\(0<=wr/\wr<=2):=by simp [betw] at g1_5 Jz; omega
 refine au 280690670422120 ?_;refine TK.clE Z Z Z Z (yk hT) ?_;refine au 93300 ?_;constructor<;>intro Jx
 ·refine au 3542 ?_;refine bB Wz (((g,_)::mkK Zq)) ?_;exact ⟨⟨2,rfl,fun h=>by cases h⟩,rfl⟩
 have h1:1<=Zq.length/\Zq.length<=4:=by simp [betw] at Jx; omega
 refine au 130354223542120 ?_;refine bA [1,3,4] ?_;refine bE (fun n Wq K=>∃ (i:Nat),n=Zq.length - i/\i<=Zq.length/\(∀ x∈Zq.take i,SkOk st x.2)/\(Zq.take i).Pairwise (fun x y=>x.2.name.toList≠y.2.name.toList)/\Wq=.any::.ptr jb 0::.any::za (waysI ((Zq.map (·.2)).take i) 1)::za i::naL 97 []/\K=(jb,.cells (stpC st wr g Zq) 29 tt)::(g,skO Zq)::mkK Zq) Zq.length ⟨0,rfl,mN _,fun x hx=>by simp at hx,by simp,rfl,rfl⟩ fun n Wq K hI Wj=>?_;obtain ⟨i,rfl,hi,hsk,hpw,rfl,rfl⟩:=hI;refine bG nQ ?_;refine au 9372806906701422 ?_;constructor<;>intro hc2
 ·have Qb:i<Zq.length:=by simp at hc2; omega
  obtain ⟨p,hp⟩:∃ p,Zq[i]? =some p:=⟨_,lA Qb⟩;have hp2:(Zq.map (·.2))[i]? =some p.2:=by rw [lQ,hp]; rfl
  obtain ⟨Rq,hRq⟩:=ve (v8 hp);have hgk:=hgr p (lN hp);have hgs:=hgk.1;refine au 3601690670421302120 ?_;refine bH Z (zS Z Z ze.h mQ (sk_at hp Z)) ?_;refine au 220 ?_;intro jx hjx;refine au 6906704223170 ?_;refine TK.clE Z Z Z Z (zcr hT oQ) ?_;refine au 93300 ?_;constructor<;>intro hc3
  ·refine au 3542 ?_;refine bB Wz (((g,_)::mkK Zq)) ?_;exact ⟨⟨4,rfl,fun h=>by cases h⟩,rfl⟩
  refine au 13035422120 ?_;refine bA [1,3,4,5,6] ?_;refine bE (fun n Wq K=>∃ (q:Nat),n=i - q/\q<=i/\(∀ y∈Zq.take q,y.2.name.toList≠p.2.name.toList)/\Wq=.any::.ptr jb 0::.any::za (waysI ((Zq.map (·.2)).take i) 1)::za i::.ptr jx 0::za q::naL 95 []/\K=(jx,.cells (skC p) 95 tt)::(jb,.cells (stpC st wr g Zq) 29 tt)::(g,skO Zq)::mkK Zq) i ⟨0,rfl,mN _,fun x hx=>by simp at hx,rfl,rfl⟩ fun n Wq K hI hnext2=>?_;obtain ⟨q,rfl,hq,hne,rfl,rfl⟩:=hI;refine bG nQ ?_;refine au 93711422 ?_;constructor<;>intro hc4
  ·have hqi:q<i:=by simp at hc4; omega
   obtain ⟨pq,hpq⟩:∃ pq,Zq[q]? =some pq:=⟨_,lA oQ⟩;refine au 21302120 ?_;refine bL [0,1,2,3,4,5,6,7,8] ?_;refine ad [[3,1],[10,44],[1,6],[2,45,46],[3,47]] ?_;refine TD.y [48] Z (hq:=zj Z Z ze.h (mC _) (yd (c:=0) (sk_at hpq Z) dQ Z)) (h:=?_);refine ad [[3,5],[10,50]] ?_;refine bU [49,51] Z (zfs Z Z Z Z) ?_;refine ad [[14]] ?_;refine au 9 ?_;constructor<;>intro hc5
   ·refine au 3542 ?_;refine bB Wz (((g,_)::mkK Zq)) ?_;exact ⟨⟨5,rfl,fun h=>by cases h⟩,rfl⟩
   refine au 3523014140120 ?_;refine bA [1,3,4,5,6] ?_;refine bC (((jx,_)::(jb,_)::(g,_)::mkK Zq)) ?_;exact hnext2 _ _ _ oQ ⟨q+1,rfl,oQ,fun y hy=>by
    rw [List.take_add_one,hpq] at hy;rcases lT.1 hy with hy | hy
    ·exact hne y hy
    ·simp at hy; subst hy; simpa using hc5,rfl,rfl⟩
  obtain rfl:i=q:=by simp at hc4; omega
  refine au 240690670680670422160 ?_;refine TK.clE Z Z Z Z (zag hT (x:=⟨p.2.flo,p.2.fhi⟩)) ?_;refine au 1300 ?_;refine bF 60 (fun g17_8=>?_) (fun g17_8=>?_)
  ·refine au 35421803260888812608888126088888812608888 ?_;refine bB Wz (((g,_)::mkK Zq)) ?_;exact ⟨⟨1,rfl,fun h=>by cases h⟩,rfl⟩
  have hif:0<=p.2.flo/\p.2.flo<=p.2.fhi/\p.2.fhi<=st - 1:=by simp [isBd,betw] at g17_8; omega
  refine au 680670 ?_;refine TK.clE Z Z Z Z (zay hT oQ) ?_;refine au 12507 ?_;refine bF 66 (fun g17_14=>?_) (fun g17_14=>?_)
  ·refine au 354218032608888126088881260888888 ?_;refine bB Wz (((g,_)::mkK Zq)) ?_;exact ⟨⟨1,rfl,fun h=>by cases h⟩,rfl⟩
  refine au 690670690670 ?_;refine TK.clE Z Z Z Z (yk hT) ?_;refine au 1250300 ?_;refine bF 74 (fun g17_22=>?_) (fun g17_22=>?_)
  ·refine au 35421803260888812608888 ?_;refine bB Wz (((g,_)::mkK Zq)) ?_;exact ⟨⟨1,rfl,fun h=>by cases h⟩,rfl⟩
  refine au 680670 ?_;refine TK.clE Z Z Z Z (zag hT (x:=⟨p.2.slo,p.2.shi⟩)) ?_;refine au 1250300 ?_;refine bF 80 (fun g17_28=>?_) (fun g17_28=>?_)
  ·refine au 354218032608888 ?_;refine bB Wz (((g,_)::mkK Zq)) ?_;exact ⟨⟨1,rfl,fun h=>by cases h⟩,rfl⟩
  have his : -3<=p.2.slo/\p.2.slo<=p.2.shi/\p.2.shi<=3:=by simp [isBd,betw] at g17_28; omega
  refine au 680670 ?_;refine TK.clE Z Z Z Z (zay hT oQ) ?_;refine au 932507 ?_;constructor<;>intro hc6
  ·refine au 3542 ?_;refine bB Wz (((g,_)::mkK Zq)) ?_;exact ⟨⟨1,rfl,fun h=>by cases h⟩,rfl⟩
  refine au 680422120 ?_;refine bD Z Z Z Z ((zhF hT (p:=p) hgk (by simp [betw] at g17_22; omega)).frameP hRq.perm) ?_ (hs:=(.right (.right (.right (.all _)))));rintro r28 K29 ⟨⟨zc,rfl,hz⟩,rfl⟩;refine au 0 ?_;refine bN (K':=(jx,_)::(jb,_)::(g,_)::mkK Zq) (lH (l₁:=mkK Zq) (l₂:=[(jx,_),(jb,_),(g,_)])) ?_;refine au 93714235 ?_;constructor<;>intro hc7
  ·refine au 35142 ?_;refine bB Wz (((g,_)::mkK Zq)) ?_;exact ⟨⟨_,rfl,fun h=>absurd h (by simpa using hc7)⟩,rfl⟩
  have hmk:=hz (by simpa using hc7);have hx2:SkOk st p.2:=⟨by simpa using hc3,by simp [betw] at g17_14; omega,by simp [betw] at g17_22; omega,by simp [betw] at hc6; omega,hmk.nm,hmk.mks,hmk.two⟩;have hws:=znA (l:=Zq.map (·.2)) (i:=i) (fun x hx=>by
   rw [<- List.map_take] at hx;obtain ⟨p3,hp3,rfl⟩:=lY.1 hx;exact hsk p3 hp3) oQ
  have hf3:1<=p.2.fhi - p.2.flo+1/\p.2.fhi - p.2.flo+1<=3:=by have:=hx2.fr; omega
  have hs3:1<=p.2.shi - p.2.slo+1/\p.2.shi - p.2.slo+1<=3:=by have:=hx2.se; omega
  have hst:=zj4 hws hf3 hs3;refine au 120 ?_;refine TK.dr [0,1,2,5,6,3,4,7,8,9] [0,1,2,3,4,5,6,7,8,9] ?_;refine ad [[1,3],[3,5],[12,92],[3,5],[12,96]] ?_;refine TD.clE (Wx:=[_,_,_,_]) [93] Z Z Z Z Z (zay hT oQ) ?_;refine bU [91,94] Z (q_mul Z Z Z (by exact hst.1)) ?_;refine TD.clE (Wx:=[_,_,_,_]) [97] Z Z Z Z Z (zay hT oQ) ?_;refine bU [95,98] Z (q_mul Z Z Z (by exact hst.2)) ?_;refine ad [[13,99],[14]] ?_;refine au 3523014140 ?_;refine bA [1,3,4] ?_;refine bC (((jb,_)::(g,_)::mkK Zq)) ?_;exact Wj _ _ _ oQ ⟨i+1,rfl,oQ,fun x hx=>by
   rw [List.take_add_one,hp] at hx;rcases lT.1 hx with hx | hx
   ·exact hsk x hx
   ·simp at hx; subst hx; exact hx2,by
   rw [List.take_add_one,hp];refine List.pairwise_append.2 ⟨hpw,by simp,fun x hx y hy=>?_⟩;simp at hy;subst hy;exact hne x hx,by rw [zj3 hp2,show waysX p.2=(p.2.fhi - p.2.flo+1)*(p.2.shi - p.2.slo+1) from rfl,<- Int.mul_assoc] <;> rfl,rfl⟩
 obtain rfl:i=Zq.length:=by simp at hc2; omega
 refine au 9371422160 ?_;constructor<;>intro hc8
 ·refine au 3542 ?_;refine bB Wz (((g,_)::mkK Zq)) ?_;exact ⟨⟨2,rfl,fun h=>by cases h⟩,rfl⟩
 refine au 3542120 ?_;refine bB Wz (((g,_)::mkK Zq)) ?_;rw [List.take_of_length_le (by rw [z_len]; exact mL _)] at hc8;rw [lW] at hsk hpw;exact ⟨⟨0,rfl,fun _=>⟨h0.1,h0.2,by rw [show (skB st wr Zq).sks.length=Zq.length from z_len Zq]; exact h1,fun x hx=>by
  obtain ⟨p,hp,rfl⟩:=lY.1 (show x∈Zq.map (·.2) from hx);exact hsk p hp,(List.pairwise_map.2 hpw:(Zq.map (·.2)).Pairwise _),by show waysI (Zq.map (·.2)) 1<=200; simp at hc8; omega⟩⟩,rfl⟩
theorem zkA {main T} (hT:zt tp main T) {gm} {st wr:Int} {g:Nat} {Zq:List (Nat×SkT)} :
  zr tp T gm 5 [.agg (stpC st wr g Zq)] ((g,skO Zq)::mkK Zq) (fun r K'=>(∃ z,r=zC z/\(z=tt->StpOk (skB st wr Zq)))/\K'=(g,skO Zq)::mkK Zq):=by
 refine zn 11 hT Tryz.func5 fun Y Wz=>?_;refine au 21042 ?_;intro jb hjb;refine au 6804235 ?_;refine bD Z Z Z Z (zhT hT (st:=st) (wr:=wr) (g:=g) (Zq:=Zq)) ?_ (hs:=(.right (.all _)));rintro r1 K2 ⟨⟨z,rfl,hz⟩,rfl⟩;refine au 0 ?_;refine bN (K':=(jb,_)::(g,_)::mkK Zq) (lH (l₁:=(g,_)::mkK Zq) (l₂:=[(jb,_)])) ?_;refine au 1300 ?_;refine bF 6 (fun g1_4=>?_) (fun g1_4=>?_)
 ·obtain ⟨hl1,hl2⟩:=hz (by simpa using g1_4);refine au 680 ?_;refine bD Z Z Z Z (zhG hT (st:=st) (wr:=wr) (g:=g) hl1 hl2) ?_ (hs:=(.right (.all _)));rintro r4 K5 ⟨⟨c,rfl,hck⟩,rfl⟩;refine au 0 ?_;refine bN (K':=(jb,_)::(g,_)::mkK Zq) (lH (l₁:=(g,_)::mkK Zq) (l₂:=[(jb,_)])) ?_;refine au 352607 ?_;refine bB Wz (((g,_)::mkK Zq)) ?_;exact ⟨⟨_,rfl,fun h=>hck (by simpa using h)⟩,rfl⟩
 refine au 35250888 ?_;refine bB Wz (((g,_)::mkK Zq)) ?_;exact ⟨⟨_,rfl,fun h=>by cases h⟩,rfl⟩
end Go.Vel
namespace Go.Vel
open Go Go.Conc
theorem znu {b:RBk} {n:Int} (h:betw n 0 (b.sE.length - 1)=tt):ym b n=0:=if_pos h
end Go.Vel
namespace Go.Vel
open Go Go.Conc Go.Proofs
theorem uo {main T} (hT:zt tp main T) {gm} {j:Nat} {et:gT} {l:List Int} {v:Int} (hl:l.length<=1000) :
  zr tp T gm 12 [.sl j 0 l.length,za v] [(j,.cells (l.map za) et ff)] (fun r K'=>r=zC (decide (v∈l))/\K'=[(j,.cells (l.map za) et ff)]):=by
 refine zn 18 hT Tryz.func12 fun Y Wz=>?_;refine au 130354223542 ?_;refine bA [0,1,5] ?_;refine bE (fun n0 Wq K=>∃ (i:Nat),n0=l.length - i/\i<=l.length/\¬ v∈l.take i/\Wq=.sl j 0 l.length::za v::naL 3 (za i::naL 12 [])/\K=[(j,.cells (l.map za) et ff)]) l.length ⟨0,rfl,mN _,by simp,rfl,rfl⟩ fun n0 Wq K hI Wj=>?_;obtain ⟨i,rfl,hi,hn,rfl,rfl⟩:=hI;refine bG nQ ?_;refine au 93728011422 ?_;constructor<;>intro Jz
 ·have Qb:i<l.length:=by simp at Jz; omega
  refine au 36011421302120 ?_;refine bH Z (zj Z Z ze.h mQ (yb (i:=i) (ya Qb) Z)) ?_;refine au 9371 ?_;constructor<;>intro Jx
  ·refine au 3542 ?_;refine bB Wz [(j,_)] ?_;exact ⟨by rw [decide_eq_true (show v∈l by have h:zK l i=v:=eq_of_beq Jx; rw [<- h]; exact zgD Qb)],rfl⟩
  refine au 3523014140120 ?_;refine bA [0,1,5] ?_;exact Wj _ _ _ oQ ⟨i+1,rfl,oQ,fun hh=>by
   rw [yL (ya Qb)] at hh;rcases lT.1 hh with hh | hh
   ·exact hn hh
   ·rw [lS.1 hh] at Jx; simp at Jx,rfl,rfl⟩
 obtain rfl:i=l.length:=by simp at Jz; omega
 refine au 3542160 ?_;refine bB Wz [(j,_)] ?_;exact ⟨by rw [decide_eq_false (by rwa [lW] at hn)],rfl⟩
theorem zl4 {a b:ByteArray} (h:a.toList=b.toList):a=b:=ByteArray.ext (Array.toList_inj.mp (by rwa [ByteArray.toList_eq,ByteArray.toList_eq] at h))
theorem zfS {ob:AObj} {p n c:Nat} {l:List AV} {u w:AV} (h:yj ob p n=some l) (hc:c+1<n) (h0:l[c]? =some u) (h1:l[c+1]? =some w):yj ob (p+c) 2=some [u,w]:=by
 unfold yj at h ⊢;cases hk:ob.look with
 | none=>rw [hk] at h; cases h
 | some q =>
  rw [hk] at h;dsimp only at h ⊢;split at h
  ·rename_i hb;cases h;rw [if_pos ⟨by omega,oQ⟩];rw [List.getElem?_take,if_pos oQ,List.getElem?_drop] at h0 h1;obtain ⟨q1,q2⟩:=lD.1 h0;rw [List.drop_eq_getElem_cons q1,q2,List.take_succ_cons,List.take_one,List.head?_drop,show p+c+1=p+(c+1) by omega,h1];rfl
  ·cases h
structure RvT (st:Int) (n:Nat) (v:VwT) (A C l:List Int):Prop where
 fr:∀ i,i<n->A[i]? =some (v.fr.getD i 0)/\0<=v.fr.getD i 0/\v.fr.getD i 0<st
 se:∀ i,i<n->C[i]? =some (v.st.getD i 0) /\ -3<=v.st.getD i 0/\v.st.getD i 0<=3
 wr:∀ i,i<n->(bitT v.wr i=tt↔(i:Int)∈l)
 ll:l.length<=4
 st:4<=st/\st<=24
 nn:n<=4
theorem RvT.dec {st:Int} {n:Nat} {v:VwT} {A C l:List Int} (h:RvT st n v A C l) {i:Nat} (hi:i<n):decide ((i:Int)∈l)=bitT v.wr i:=by
 by_cases e:(i:Int)∈l
 ·rw [decide_eq_true e,(h.wr i hi).2 e]
 ·rw [decide_eq_false e];cases hb:bitT v.wr i with
  | false=>rfl
  | true=>exact absurd ((h.wr i hi).1 hb) e
theorem RvT.le {st:Int} {n k:Nat} {v:VwT} {A C l:List Int} (h:RvT st n v A C l) (hk:k<=n):RvT st k v A C l:=⟨fun i hi=>h.fr i oQ,fun i hi=>h.se i oQ,fun i hi=>h.wr i oQ,h.ll,h.st,by have:=h.nn; omega⟩
theorem zno (st:Int) (v:VwT) (i:Nat) (m:MkR):fcC (placeT st v i m)=[za ((v.fr.getD i 0+m.col) % st),za (v.st.getD i 0+m.row)]:=by
 unfold fcC placeT;rw [Int.add_comm m.row]
def pqT (st:Int) (v:VwT) (L:List SkT) (i:Nat) (x:SkT) (q:Nat) (s:ByteArray):List (Int×Int):=plT (yc st v 0 (L.take i)++seenT st v i { x with mK:=x.mK.take q }) s
theorem zas {st:Int} {v:VwT}:∀ (L:List SkT) (i:Nat),(∀ x∈L,x.mK.length<=4)->(yc st v i L).length<=4*L.length
 | [],i,_=>mN _
 | x::L,i,h=>by
  show (seenT st v i x++yc st v (i+1) L).length<=4*(L.length+1);have h1:=zas (st:=st) (v:=v) L (i+1) fun y hy=>h y (lL _ hy);have h2:=h x List.mem_cons_self;have h3:(seenT st v i x).length<=x.mK.length:=by
   unfold seenT marksT;split
   ·exact mN _
   ·rw [lJ]; exact mL _
  rw [lF];omega
theorem zoK {st:Int} {v:VwT} {L:List SkT} {i q:Nat} {x:SkT} {s:ByteArray} (hL:∀ x∈L,x.mK.length<=4) (hx:x.mK.length<=4) (h4:L.length<=4):(pqT st v L i x q s).length<=20:=by
 unfold pqT plT;rw [lJ];refine mT (List.length_filter_le _ _) ?_;have h1:=zas (st:=st) (v:=v) (L.take i) 0 fun y hy=>hL y (List.mem_of_mem_take hy);have h2:=zas (st:=st) (v:=v) [{ x with mK:=x.mK.take q }] i fun y hy=>by
  rw [lS.1 hy];show (x.mK.take q).length<=4;rw [List.length_take];omega
 have h3:(yc st v i [{ x with mK:=x.mK.take q }]).length=(seenT st v i { x with mK:=x.mK.take q }).length:=by
  show (seenT st v i _++[]).length=_;rw [lR]
 rw [List.length_take] at h1;rw [lF];simp only [List.length_singleton] at h2;omega
theorem zda (a b:List (ByteArray×(Int×Int))) (s:ByteArray):plT (a++b) s=plT a s++plT b s:=by
 unfold plT;rw [List.filter_append,lM]
theorem zg3 (p:ByteArray×(Int×Int)) (s:ByteArray):plT [p] s=if p.1=s then [p.2] else []:=by
 unfold plT;by_cases e:p.1=s
 ·rw [if_pos e,List.filter_cons_of_pos (by simpa using e)]; rfl
 ·rw [if_neg e,List.filter_cons_of_neg (by simpa using e)]; rfl
theorem pq_0 {st:Int} {v:VwT} {L:List SkT} {i:Nat} {x:SkT} {s:ByteArray}:pqT st v L i x 0 s=plT (yc st v 0 (L.take i)) s:=by
 unfold pqT seenT;rw [zda];split <;> exact lR _
theorem zjn {st:Int} {v:VwT} {L:List SkT} {i:Nat} {x:SkT} {s:ByteArray} (hx:L[i]? =some x):pqT st v L i x x.mK.length s=plT (yc st v 0 (L.take (i+1))) s:=by
 unfold pqT;rw [lW,zbx hx]
theorem zd0 {st:Int} {v:VwT} {i:Nat} {x:SkT} (h:bitT v.wr i=tt):seenT st v i x=[]:=by unfold seenT; rw [if_pos h]
theorem zar {st:Int} {v:VwT} {i:Nat} {x:SkT} (h:bitT v.wr i=ff):seenT st v i x=marksT st v i x.mK:=by unfold seenT; rw [if_neg (by rw [h]; decide)]
theorem pq_T {st:Int} {v:VwT} {L:List SkT} {i q:Nat} {x:SkT} {m:MkR} (hm:x.mK[q]? =some m) (hb:bitT v.wr i=ff):pqT st v L i x (q+1) m.what=pqT st v L i x q m.what++[placeT st v i m]:=by
 unfold pqT;rw [zar hb,zar hb];show plT (_++marksT st v i (x.mK.take (q+1))) _=plT (_++marksT st v i (x.mK.take q)) _++_;rw [wN hm,<- List.append_assoc,zda _ [_],zg3,if_pos rfl]
theorem pq_F {st:Int} {v:VwT} {L:List SkT} {i q:Nat} {x:SkT} {m:MkR} {s:ByteArray} (hm:x.mK[q]? =some m) (h:m.what≠s\/bitT v.wr i=tt):pqT st v L i x (q+1) s=pqT st v L i x q s:=by
 unfold pqT;cases hb:bitT v.wr i with
 | true=>rw [zd0 hb,zd0 hb]
 | false =>
  rw [zar hb,zar hb];show plT (_++marksT st v i (x.mK.take (q+1))) _=plT (_++marksT st v i (x.mK.take q)) _;rw [wN hm,<- List.append_assoc,zda _ [_],zg3,if_neg (h.resolve_right (by rw [hb]; decide)),lR]
instance:ApOf tp 99 102 2 16:={}
instance:zl tp 36 0 0 ff 1:={}
instance:zl tp 36 1 1 ff 1:={}
instance:zl tp 36 2 2 ff 1:={}
instance:zq tp 99 102 2:={}
instance:ze tp 36 tt 3:={}
instance:Und tp 99 (.slice 102):={}
theorem zik {main T} (hT:zt tp main T) {gm} {st wr:Int} {jo ja jc jw:Nat} {Zo:List (Nat×SkT)} {A C l:List Int} {v:VwT} {i q:Nat} {p:Nat×SkT} {m:MkR} (hp:Zo[i]? =some p) (hm:p.2.mK[q]? =some m) (hr:RvT st Zo.length v A C l) (hs:SkOk st p.2) :
  zr tp T gm 94 [.agg [za st,za wr,.row jo Zo.length],.agg [.sl ja 0 A.length,.sl jc 0 C.length,.sl jw 0 l.length],za (i:Int),za (q:Int)] ((jo,.row (Zo.flatMap skC) 95 7)::(ja,.cells (A.map za) 3 ff)::(jc,.cells (C.map za) 3 ff)::(jw,.cells (l.map za) 3 ff)::mkK Zo) (fun r K'=>r=.agg (fcC (placeT st v i m))/\K'=(jo,.row (Zo.flatMap skC) 95 7)::(ja,.cells (A.map za) 3 ff)::(jc,.cells (C.map za) 3 ff)::(jw,.cells (l.map za) 3 ff)::mkK Zo):=by
 refine zn 39 hT Tryz.func94 fun Y Wz=>?_;refine au 0 ?_;have Qb:i<Zo.length:=(lD.1 hp).1;have hql:q<p.2.mK.length:=(lD.1 hm).1;have hmm:=v8 hp;have hfr:=hr.fr i Qb;have hse:=hr.se i Qb;have hst:=hr.st;have hnn:=hr.nn;obtain ⟨k1,k2,k3,k4,k5⟩:=hs.mks m (lN hm);have hwd:=hs.wd;have hnm:=hs.nm;have hal:i<A.length:=(lD.1 hfr.1).1;have hcl:i<C.length:=(lD.1 hse.1).1;refine au 21042 ?_;intro jb hjb;refine au 210 ?_;intro jz hjz;refine au 220 ?_;intro jr hjr;refine au 6703701690670423 ?_;refine bH Z (zj Z Z ze.h mQ (yd (c:=6) (vB hp Z) dQ Z)) ?_;refine au 3601 ?_;refine bH Z (zS Z Z ze.h mQ (mk_at hm Z)) ?_;refine au 220 ?_;intro jm hjm;refine au 23170 ?_;refine bL [0,1,2,3,4,5,6,7,8,9,10,11,12,13,14,15,16,17,18,19,20] ?_;refine ad [[3,5],[10,19],[1,2],[2,20,21]] ?_;refine TD.y [22] Z (hq:=zj Z Z ze.h (mC _) (yb hfr.1 Z)) (h:=?_);refine ad [[3,9],[10,24],[8,23,25],[3,4],[10,27]] ?_;refine bU [26,28] Z (q_rem Z Z Z oQ oQ) ?_;refine ad [[3,5],[10,30],[1,2],[2,31,32]] ?_;refine TD.y [33] Z (hq:=zj Z Z ze.h (mC _) (yb hse.1 Z)) (h:=?_);refine ad [[3,9],[10,35],[8,34,36]] ?_;refine bU [29,37] Z (yP (l:=[_,_]) Z TyZ.h BlOf.h Z) ?_;refine TD.s (Wx:=[]) [8,38] Z Z (zE Z Z ze.h Z Z mQ Z) ?_;refine ad [[14]] ?_;refine au 0 ?_;refine bB Wz (((jo,_)::(ja,_)::(jc,_)::(jw,_)::mkK Zo)) ?_;exact ⟨by rw [zno] <;> rfl,rfl⟩
theorem zib {main T} (hT:zt tp main T) {gm} {st wr:Int} {jo ja jc jw:Nat} {Zo:List (Nat×SkT)} {A C l:List Int} {v:VwT} {s:ByteArray} (hr:RvT st Zo.length v A C l) (hs:∀ p∈Zo,SkOk st p.2) :
  zr tp T gm 44 [.agg [za st,za wr,.row jo Zo.length],.agg [.sl ja 0 A.length,.sl jc 0 C.length,.sl jw 0 l.length],.v (.string s)] ((jo,.row (Zo.flatMap skC) 95 7)::(ja,.cells (A.map za) 3 ff)::(jc,.cells (C.map za) 3 ff)::(jw,.cells (l.map za) 3 ff)::mkK Zo) (fun r K'=>∃ jp,r=.row jp (plT (yc st v 0 (Zo.map (·.2))) s).length/\K'=(jp,.row ((plT (yc st v 0 (Zo.map (·.2))) s).flatMap fcC) 102 2)::(jo,.row (Zo.flatMap skC) 95 7)::(ja,.cells (A.map za) 3 ff)::(jc,.cells (C.map za) 3 ff)::(jw,.cells (l.map za) 3 ff)::mkK Zo):=by
 refine zn 56 hT Tryz.func44 fun Y Wz=>?_;refine au 0 ?_;have hnn:=hr.nn;have hll:=hr.ll;have hzl:(Zo.map (·.2)).length=Zo.length:=lJ ..;have hml:∀ x∈Zo.map (·.2),x.mK.length<=4:=fun x hx=>by
  obtain ⟨p,hp,rfl⟩:=lY.1 hx;exact (hs p hp).nm
 refine au 21042 ?_;intro jb hjb;refine au 210 ?_;intro jz hjz;refine au 22354235 ?_;refine TK.virt 7 102 2 Z fun jp0 hjp0=>?_;refine au 130354 ?_;refine bA [2,3,4,7,8] ?_;refine bC ((jp0,_)::(jb,_)::(jz,_)::(jo,_)::(ja,_)::(jc,_)::(jw,_)::mkK Zo) ?_;refine bE (fun n Wq K=>∃ (i jp:Nat),n=Zo.length - i/\i<=Zo.length/\Wq=naL 2 (.v (.string s)::.ptr jb 0::.ptr jz 0::naL 2 (.row jp (plT (yc st v 0 ((Zo.map (·.2)).take i)) s).length::za i::naL 47 []))/\K=(jp,.row ((plT (yc st v 0 ((Zo.map (·.2)).take i)) s).flatMap fcC) 102 2)::(jb,.cells [za st,za wr,.row jo Zo.length] 29 tt)::(jz,.cells [.sl ja 0 A.length,.sl jc 0 C.length,.sl jw 0 l.length] 36 tt)::(jo,.row (Zo.flatMap skC) 95 7)::(ja,.cells (A.map za) 3 ff)::(jc,.cells (C.map za) 3 ff)::(jw,.cells (l.map za) 3 ff)::mkK Zo) Zo.length ⟨0,jp0,rfl,mN _,rfl,rfl⟩ fun n Wq K hI Wj=>?_;obtain ⟨i,jp,rfl,hi,rfl,rfl⟩:=hI;refine bG nQ ?_;refine au 9372806906701422 ?_;constructor<;>intro Jz
 ·have Qb:i<Zo.length:=by simp at Jz; omega
  obtain ⟨p,hp⟩:∃ p,Zo[i]? =some p:=⟨_,lA Qb⟩;have hp2:(Zo.map (·.2))[i]? =some p.2:=by rw [lQ,hp]; rfl
  have hx:=hs p (lN hp);have hnm:=hx.nm;have hmm:=v8 hp;refine au 13035421302120 ?_;refine bA [2,3,4,7,8,9] ?_;refine bC ((jp,_)::(jb,_)::(jz,_)::(jo,_)::(ja,_)::(jc,_)::(jw,_)::mkK Zo) ?_;refine bE (fun n Wq K=>∃ (q jp:Nat),n=p.2.mK.length - q/\q<=p.2.mK.length/\Wq=naL 2 (.v (.string s)::.ptr jb 0::.ptr jz 0::naL 2 (.row jp (pqT st v (Zo.map (·.2)) i p.2 q s).length::za i::za q::naL 46 []))/\K=(jp,.row ((pqT st v (Zo.map (·.2)) i p.2 q s).flatMap fcC) 102 2)::(jb,.cells [za st,za wr,.row jo Zo.length] 29 tt)::(jz,.cells [.sl ja 0 A.length,.sl jc 0 C.length,.sl jw 0 l.length] 36 tt)::(jo,.row (Zo.flatMap skC) 95 7)::(ja,.cells (A.map za) 3 ff)::(jc,.cells (C.map za) 3 ff)::(jw,.cells (l.map za) 3 ff)::mkK Zo) p.2.mK.length ⟨0,jp,rfl,mN _,by rw [pq_0] <;> rfl,by rw [pq_0]⟩ fun n Wq K hI Ww=>?_;obtain ⟨q,jp,rfl,hq,rfl,rfl⟩:=hI;have hpl:=zoK (st:=st) (v:=v) (i:=i) (q:=q) (s:=s) hml hnm (by omega:(Zo.map (·.2)).length<=4);refine bG nQ ?_;refine au 67037016906701422 ?_;refine bH Z (zj Z Z ze.h mQ (yd (c:=6) (vB hp Z) dQ Z)) ?_;refine au 937280 ?_;constructor<;>intro Jx
  ·have hql:q<p.2.mK.length:=by simp at Jx; omega
   obtain ⟨m,hm⟩:∃ m,p.2.mK[q]? =some m:=⟨_,lA hql⟩;refine au 6703701690670421302120 ?_;refine bH Z (zj Z Z ze.h mQ (yd (c:=6) (vB hp Z) dQ Z)) ?_;refine au 6703601 ?_;refine bH Z (zj Z Z ze.h mQ (yd (c:=0) (mk_at hm Z) dQ Z)) ?_;refine au 13301 ?_;refine bF 40 (fun g8_13=>?_) (fun g8_13=>?_)
   ·refine au 1690670 ?_;refine TK.clE Z Z Z Z (uo hT (l:=l) oQ) ?_;refine au 93260300 ?_;constructor<;>intro hc2
    ·have hbf:bitT v.wr i=ff:=by rw [hr.dec Qb] at hc2; simpa using hc2
     have hsw:m.what=s:=zl4 (by simpa using g8_13);have hPT:pqT st v (Zo.map (·.2)) i p.2 (q+1) s=pqT st v (Zo.map (·.2)) i p.2 q s++[placeT st v i m]:=hsw ▸ pq_T hm hbf;refine au 1168068014 ?_;refine TK.clE Z Z Z Z (zik hT (p:=p) hp hm hr hx) ?_;refine au 0 ?_;refine bN (K':=(jp,_)::(jb,_)::(jz,_)::(jo,_)::(ja,_)::(jc,_)::(jw,_)::mkK Zo) (lH (l₁:=(jo,_)::(ja,_)::(jc,_)::(jw,_)::mkK Zo) (l₂:=[(jp,_),(jb,_),(jz,_)])) ?_;refine bI Z Z Z (zu (l:=[_,_]) Z zq.h TyZ.h dQ dQ Z) (fun _=>zx rfl tQ) fun j7 hj7=>?_;refine TK.appR Z Z Z (a_app Z ApOf.h Z mQ (by rw [yw fcC 2 (fun _=>rfl)]) rfl (yq (ln:=[_,_]) mQ dQ sQ rfl) oQ rfl (by unfold maxLen; omega) oQ) (fun _=>uQ) (fun _=>zx rfl tQ) fun jp2=>?_;refine au 352301414035 ?_;refine bA [2,3,4,7,8,9] ?_;refine bC (((jp2,_)::(jb,_)::(jz,_)::(jo,_)::(ja,_)::(jc,_)::(jw,_)::mkK Zo)) ?_;exact Ww _ _ _ oQ ⟨q+1,jp2,rfl,oQ,by rw [hPT,lF] <;> rfl,by rw [hPT,List.flatMap_append] <;> rfl⟩
    have hbt:bitT v.wr i=tt:=by rw [hr.dec Qb] at hc2; simpa using hc2
    refine au 3523014140120 ?_;refine bA [2,3,4,7,8,9] ?_;refine bC (((jp,_)::(jb,_)::(jz,_)::(jo,_)::(ja,_)::(jc,_)::(jw,_)::mkK Zo)) ?_;exact Ww _ _ _ oQ ⟨q+1,jp,rfl,oQ,by rw [pq_F hm (.inr hbt)] <;> rfl,by rw [pq_F hm (.inr hbt)] <;> rfl⟩
   have hne:m.what≠s:=fun e=>by rw [e] at g8_13; simp at g8_13
   refine au 3523014140120190325088888 ?_;refine bA [2,3,4,7,8,9] ?_;refine bC (((jp,_)::(jb,_)::(jz,_)::(jo,_)::(ja,_)::(jc,_)::(jw,_)::mkK Zo)) ?_;exact Ww _ _ _ oQ ⟨q+1,jp,rfl,oQ,by rw [pq_F hm (.inl hne)] <;> rfl,by rw [pq_F hm (.inl hne)] <;> rfl⟩
  obtain rfl:q=p.2.mK.length:=by simp at Jx; omega
  refine au 3523014140160 ?_;refine bA [2,3,4,7,8] ?_;refine bC (((jp,_)::(jb,_)::(jz,_)::(jo,_)::(ja,_)::(jc,_)::(jw,_)::mkK Zo)) ?_;exact Wj _ _ _ oQ ⟨i+1,jp,rfl,oQ,by rw [zjn hp2] <;> rfl,by rw [zjn hp2] <;> rfl⟩
 obtain rfl:i=Zo.length:=by simp at Jz; omega
 refine au 35142160 ?_;refine bB Wz (((jp,_)::(jo,_)::(ja,_)::(jc,_)::(jw,_)::mkK Zo)) ?_;exact ⟨jp,by rw [<- hzl,lW],by rw [<- hzl,lW]⟩
instance:BlOf tp 88 [(0,1),(1,1),(2,1)]:={}
instance:EqG tp 45:={}
instance:FlatF tp 45 [(3,0),(3,1)]:={}
theorem zbr {Ψ:Goroutine->gW->Prop}  :
  zr tp (BT tp Ψ) gmR 6 [] [(0,zB)] (fun r K'=>r=zC tt/\K'=[(0,zB)]):=by
 have hT:=kE (P:=tp) Ψ;refine zn 407 hT Tryz.func6 fun Y Wz=>?_;refine au 423542 ?_;refine bD Z Z Z Z (zhO hT) ?_;rintro r1 K2 ⟨s,h,e,rfl,rfl⟩;refine au 220 ?_;intro j1 hj1;refine au 23170 ?_;refine bC [(0,_),(s,_),(h,_),(e,_),(j1,_)] ?_;refine au 6804 ?_;refine bI Z Z Z (zu (l:=[_,_]) Z zq.h TyZ.h dQ dQ Z) (fun _=>zx rfl tQ) fun ja2 hja2=>?_;refine bZ 35 Z mQ ?_;refine bY (j:=ja2) ?_;refine au 0 ?_;refine bD Z Z Z Z ((znP hT (b:=exB) (l:=[1,2]) x_len.1 x_len.2 dQ).mono (fun _ _ h=>or2 h zhu)) ?_;rintro r4 K5 ⟨jr,rfl,rfl⟩;refine au 0 ?_;rw [zlQ];refine au 2355661 ?_;refine bZ 2 Z mQ ?_;refine bY (j:=jr) ?_;refine au 0 ?_;refine bC [(0,_),(s,_),(h,_),(e,_),(j1,_),(jr,_)] ?_;refine au 6804 ?_;refine bI Z Z Z (zu (l:=[_,_]) Z zq.h TyZ.h dQ dQ Z) (fun _=>zx rfl tQ) fun ja3 hja3=>?_;refine bZ 41 Z mQ ?_;refine bY (j:=ja3) ?_;refine au 0 ?_;refine TK.clE Z Z Z Z (zcl hT (b:=exB) (l:=[0,1]) x_len.1 x_len.2 dQ) ?_;refine au 0 ?_;rw [zht,zlN];refine au 2355661 ?_;refine bC [(0,_),(s,_),(h,_),(e,_),(j1,_),(jr,_)] ?_;refine au 6804 ?_;refine bI Z Z Z (zu (l:=[_,_]) Z zq.h TyZ.h dQ dQ Z) (fun _=>zx rfl tQ) fun ja4 hja4=>?_;refine bZ 47 Z mQ ?_;refine bY (j:=ja4) ?_;refine au 0 ?_;refine TK.clE Z Z Z Z (zcl hT (b:=exB) (l:=[0,2]) x_len.1 x_len.2 dQ) ?_;refine au 0 ?_;rw [zdr,zlO];refine au 2355661 ?_;refine bC [(0,_),(s,_),(h,_),(e,_),(j1,_),(jr,_)] ?_;refine au 6804 ?_;refine bI Z Z Z (zu (l:=[_,_]) Z zq.h TyZ.h dQ dQ Z) (fun _=>zx rfl tQ) fun ja5 hja5=>?_;refine bI Z Z Z (zu (l:=[_,_,_]) Z zq.h TyZ.h dQ dQ Z) (fun _=>zx rfl tQ) fun jb5 hjb5=>?_;refine bZ 53 Z mQ ?_;refine bY (j:=ja5) ?_;refine au 0 ?_;refine bZ 54 Z mQ ?_;refine bY (j:=jb5) ?_;refine au 0 ?_;refine bD Z Z Z Z ((zhU hT (b:=exB) (l:=[0,1]) (st:=[1,0,1]) x_len.1 x_len.2 dQ).mono (fun _ _ h=>or3b h x_h1 (by rw [zhv]; exact fun h=>nomatch h))) ?_;rintro r13 K14 ⟨w5,q5,jw,hw,rfl,rfl⟩;refine au 0 ?_;rw [zhv] at hw;cases hw;refine au 23555566661 ?_;refine bC [(0,_),(s,_),(h,_),(e,_),(j1,_),(jr,_),(jw,_)] ?_;refine au 6804 ?_;refine bI Z Z Z (zu (l:=[_,_]) Z zq.h TyZ.h dQ dQ Z) (fun _=>zx rfl tQ) fun ja6 hja6=>?_;refine bI Z Z Z (zu (l:=[_,_,_]) Z zq.h TyZ.h dQ dQ Z) (fun _=>zx rfl tQ) fun jb6 hjb6=>?_;refine bZ 62 Z mQ ?_;refine bY (j:=ja6) ?_;refine au 0 ?_;refine bZ 63 Z mQ ?_;refine bY (j:=jb6) ?_;refine au 0 ?_;refine bD Z Z Z Z ((zfn hT (b:=exB) (l:=[0,1]) (st:=[0,0,1]) x_len.1 x_len.2 dQ).mono (fun _ _ h=>or3b h x_h2 (by rw [zhw]; exact fun h=>nomatch h))) ?_;rintro r16 K17 ⟨w6,q6,jp,hw,rfl,rfl⟩;refine au 0 ?_;rw [zhw] at hw;cases hw;rw [zlP];refine au 235556661 ?_;refine bZ 12 Z mQ ?_;refine bY (j:=jp) ?_;refine au 0 ?_;refine bC [(0,_),(s,_),(h,_),(e,_),(j1,_),(jr,_),(jw,_),(jp,_)] ?_;refine au 6804 ?_;refine TK.clE Z Z Z Z (vh hT (b:=exB) x_len.1 x_len.2) ?_;refine au 0 ?_;rw [wZ,if_pos rfl,zcf];refine au 2355661 ?_;refine bC [(0,_),(s,_),(h,_),(e,_),(j1,_),(jr,_),(jw,_),(jp,_)] ?_;refine au 6804 ?_;refine bD Z Z Z Z ((zcL hT (b:=exB) (n:=2) x_len.1 x_len.2 (by rw [zcf]; decide)).mono (fun _ _ h=>or3 h x_th2 x_ne)) ?_;rintro r22 K23 ⟨js8,zs8,rfl,rfl⟩;refine au 0 ?_;rw [zpi];refine au 2355661 ?_;refine bC [(0,_),(s,_),(h,_),(e,_),(j1,_),(jr,_),(jw,_),(jp,_),(js8,_)] ?_;refine au 6804 ?_;refine bD Z Z Z Z ((zcx hT (b:=exB) x_len.1 x_len.2).mono (fun _ _ h=>or3 h wZ x_ne)) ?_;rintro r25 K26 ⟨rfl,rfl⟩;refine au 0 ?_;rw [x_new];refine au 220661 ?_;intro j19 hj19;refine au 235170 ?_;refine bC [(0,_),(s,_),(h,_),(e,_),(j1,_),(jr,_),(jw,_),(jp,_),(js8,_),(j19,_)] ?_;refine au 6804 ?_;refine bI Z Z Z (zu (l:=[_,_]) Z zq.h TyZ.h dQ dQ Z) (fun _=>zx rfl tQ) fun ja10 hja10=>?_;refine bZ 85 Z mQ ?_;refine bY (j:=ja10) ?_;refine au 0 ?_;refine bD Z Z Z Z ((zaN hT (b:=exB) (l:=[0,1]) x_len.1 x_len.2 dQ).mono (fun _ _ h=>or3 h zht x_ne)) ?_;rintro r28 K29 ⟨rfl,rfl⟩;refine au 0 ?_;rw [znC];refine au 2355661 ?_;refine bC [(0,_),(s,_),(h,_),(e,_),(j1,_),(jr,_),(jw,_),(jp,_),(js8,_),(j19,_)] ?_;refine au 6804 ?_;refine bI Z Z Z (zu (l:=[_,_]) Z zq.h TyZ.h dQ dQ Z) (fun _=>zx rfl tQ) fun ja11 hja11=>?_;refine bZ 91 Z mQ ?_;refine bY (j:=ja11) ?_;refine au 0 ?_;refine bD Z Z Z Z ((zaN hT (b:=exB) (l:=[0,2]) x_len.1 x_len.2 dQ).mono (fun _ _ h=>or3 h zdr x_ne)) ?_;rintro r31 K32 ⟨rfl,rfl⟩;refine au 0 ?_;rw [znD];refine au 22355661 ?_;refine bC [(0,_),(s,_),(h,_),(e,_),(j1,_),(jr,_),(jw,_),(jp,_),(js8,_),(j19,_)] ?_;refine au 221201903250711250711250711250711250711250711250711250711250711714 ?_;refine bC [(0,_),(s,_),(h,_),(e,_),(j1,_),(jr,_),(jw,_),(jp,_),(js8,_),(j19,_)] ?_;refine bL [0,1,2,3,4,5,6,7,8,9,10,11,12,13,14,15,16,17,18,19,20,21,22,23,24,25,26,27,28,29,30,31,32,33,34,35,36,37,38,39,40,41,42,43,44,45,46,47,48,49,50,51,52,53,54,55,56,57,58,59] ?_;refine ad [[1,2]] ?_;refine bU [] Z (yP (l:=[_,_]) Z TyZ.h BlOf.h Z) ?_;refine bU [] Z (yP (l:=[_,_]) Z TyZ.h BlOf.h Z) ?_;refine bV (Wx:=[_]) [134,135] Z Z Z (pendS (es:=[1,2]) Z Z) Z (zu (l:=[_,_,_,_]) Z zq.h TyZ.h dQ dQ Z) (fun _=>zx rfl tQ) sQ fun jy1 hjy1=>?_;refine bQ (Wx:=[]) [133,136] Z (pendS (es:=[0,3]) Z Z) Z Z Z ((zdh hT (xs:=[(1,4),(2,8)]) (ys:=[(1,4),(2,8)]) (off:=0) (ob:=.cells (([(1,4),(2,8)]:List (Int×Int)).flatMap pairC) 76 ff) (fun i x hx=>wS (c:=2) (f:=pairC) (fun _=>rfl) hx rfl dQ) dQ).mono (fun _ _ h=>trT h rfl)) (fun r34 K35 h36=>⟨?_,?_⟩)
 ·rcases h36 with ⟨rfl,rfl⟩
  all_goals simp
 obtain ⟨rfl,rfl⟩:=h36;try simp only [cA]
 refine bS tQ ?_;refine bU [137] Z (q_not Z Z) ?_;refine ad [[1,138],[1,4,139]] ?_;refine bU [139,140] Z (q_not Z Z) ?_;refine ad [[6,139,141],[1,142],[1,6,143],[6,143,144],[1,145],[1,8,146]] ?_;refine bV (Wx:=[_,_,_,_,_,_,_,_,_]) [146] Z Z Z (pendS (es:=[13]) Z Z) Z (zu (l:=[_,_]) Z zq.h TyZ.h dQ dQ Z) (fun _=>zx rfl tQ) sQ fun jy2 hjy2=>?_;refine bQ (Wx:=[_,_,_,_,_,_,_,_]) [146,147,148] Z (pendS (es:=[14,15,13,13]) Z Z) Z Z Z ((wV hT (xs:=[3,2]) (ys:=[3,2]) (off:=0) (ob:=.cells (([3,2]:List Int).map za) 3 ff) (fun i x hx=>yb hx rfl) dQ).mono (fun _ _ h=>trT h rfl)) (fun r37 K38 h39=>⟨?_,?_⟩)
 ·rcases h39 with ⟨rfl,rfl⟩
  all_goals simp
 obtain ⟨rfl,rfl⟩:=h39;try simp only [cA]
 refine bS tQ ?_;refine bU [146,149] Z (q_not Z Z) ?_;refine ad [[6,146,150],[1,151],[1,9,152],[4,152,153],[6,152,154],[1,155],[1,10,156]] ?_;refine bU [156,157] Z (q_not Z Z) ?_;refine ad [[6,156,158],[1,159],[1,12,160]] ?_;refine bV (Wx:=[_,_,_,_,_,_,_,_,_,_,_,_,_,_,_,_,_,_,_]) [160] Z Z Z (pendS (es:=[27]) Z Z) Z (zu (l:=[_,_]) Z zq.h TyZ.h dQ dQ Z) (fun _=>zx rfl tQ) sQ fun jy3 hjy3=>?_;refine bQ (Wx:=[_,_,_,_,_,_,_,_,_,_,_,_,_,_,_,_,_,_]) [160,161,162] Z (pendS (es:=[28,29,27,27]) Z Z) Z Z Z ((wV hT (xs:=[0,7]) (ys:=[0,7]) (off:=0) (ob:=.cells (([0,7]:List Int).map za) 3 ff) (fun i x hx=>yb hx rfl) dQ).mono (fun _ _ h=>trT h rfl)) (fun r40 K41 h42=>⟨?_,?_⟩)
 ·rcases h42 with ⟨rfl,rfl⟩
  all_goals simp
 obtain ⟨rfl,rfl⟩:=h42;try simp only [cA]
 refine bS tQ ?_;refine bU [160,163] Z (q_not Z Z) ?_;refine ad [[6,160,164],[1,165],[1,13,166]] ?_;refine bU [166,167] Z (q_not Z Z) ?_;refine ad [[6,166,168],[1,169],[1,15,170],[4,170,171],[6,170,172],[1,173],[1,17,174]] ?_;refine bV (Wx:=[_,_,_,_,_,_,_,_,_,_,_,_,_,_,_,_,_,_,_,_,_,_,_,_,_,_,_,_,_]) [174] Z Z Z (pendS (es:=[41]) Z Z) Z (zu (l:=[_,_]) Z zq.h TyZ.h dQ dQ Z) (fun _=>zx rfl tQ) sQ fun jy4 hjy4=>?_;refine bQ (Wx:=[_,_,_,_,_,_,_,_,_,_,_,_,_,_,_,_,_,_,_,_,_,_,_,_,_,_,_,_]) [174,175,176] Z (pendS (es:=[42,43,41,41]) Z Z) Z Z Z ((wV hT (xs:=[0,1]) (ys:=[0,1]) (off:=0) (ob:=.cells (([0,1]++zs8).map za) 3 ff) (fun i x hx=>zah hx) dQ).mono (fun _ _ h=>trT h rfl)) (fun r43 K44 h45=>⟨?_,?_⟩)
 ·rcases h45 with ⟨rfl,rfl⟩
  all_goals simp
 obtain ⟨rfl,rfl⟩:=h45;try simp only [cA]
 refine bS tQ ?_;refine bU [174,177] Z (q_not Z Z) ?_;refine ad [[6,174,178],[1,179],[12,19,180]] ?_;refine TD.clE (Wx:=[_,_,_,_,_,_,_,_,_,_,_,_,_,_,_,_,_,_,_,_,_,_,_,_,_,_,_,_,_,_,_]) [180] Z (pendS (es:=[47,47]) Z Z) Z Z Z (to_ok hT) ?_;refine bU [180,181,182] Z (uy Z Z Z Z Z FlatF.h EqG.h) ?_;refine ad [[6,180,183],[1,184],[1,21,185],[4,185,186],[6,185,187],[1,188],[1,23,189],[4,189,190],[6,189,191],[14]] ?_;refine au 2120190 ?_;refine bC [(0,_),(s,_),(h,_),(e,_),(j1,_),(j19,_)] ?_;refine au 6804 ?_;refine bD Z Z Z Z ((zms hT (b:=exB) (r0:=16) x_len.1 x_len.2).mono (fun _ _ h=>or3c h wZ zpf)) ?_;rintro r49 K50 ⟨s6,h6,e6,rfl,rfl⟩;refine au 220661 ?_;intro j25 hj25;refine au 235170 ?_;refine bC [(0,_),(s,_),(h,_),(e,_),(j1,_),(j19,_),(s6,_),(h6,_),(e6,_),(j25,_)] ?_;refine au 6804 ?_;refine bI Z Z Z (zu (l:=[_,_]) Z zq.h TyZ.h dQ dQ Z) (fun _=>zx rfl tQ) fun ja17 hja17=>?_;refine bZ 200 Z mQ ?_;refine bY (j:=ja17) ?_;refine au 0 ?_;refine bD Z Z Z Z ((zaN hT (b:=atRound exB 16) (s:=s6) (h:=h6) (e:=e6) (l:=[0,1]) dQ dQ dQ).mono (fun _ _ h=>or3 h zpd zph)) ?_;rintro r52 K53 ⟨rfl,rfl⟩;refine au 0 ?_;rw [znE];refine au 2355661 ?_;refine bC [(0,_),(s,_),(h,_),(e,_),(j1,_),(j19,_)] ?_;refine au 6804 ?_;refine bI Z Z Z (zu (l:=[_,_]) Z zq.h TyZ.h dQ dQ Z) (fun _=>zx rfl tQ) fun ja18 hja18=>?_;refine bZ 206 Z mQ ?_;refine bY (j:=ja18) ?_;refine au 0 ?_;refine bD Z Z Z Z ((zaG hT (b:=exB) (l:=[1,2]) x_len.1 x_len.2 dQ).mono (fun _ _ h=>or3 h zhu x_ne)) ?_;rintro r55 K56 ⟨rfl,rfl⟩;refine au 0 ?_;rw [x_v12.1,x_v12.2.1,x_v12.2.2,show (if tt=tt then (0:Int) else 8)=0 from rfl];refine au 235170661 ?_;refine bC [(0,_),(s,_),(h,_),(e,_),(j1,_),(j19,_)] ?_;refine au 6804 ?_;refine bI Z Z Z (zu (l:=[_,_]) Z zq.h TyZ.h dQ dQ Z) (fun _=>zx rfl tQ) fun ja19 hja19=>?_;refine bZ 212 Z mQ ?_;refine bY (j:=ja19) ?_;refine au 0 ?_;refine bD Z Z Z Z ((zaG hT (b:=exB) (l:=[0,2]) x_len.1 x_len.2 dQ).mono (fun _ _ h=>or3 h zdr x_ne)) ?_;rintro r58 K59 ⟨rfl,rfl⟩;refine au 0 ?_;rw [x_v02.1,x_v02.2.1,x_v02.2.2,show (if ff=tt then (0:Int) else 8)=8 from rfl];refine au 235661 ?_;refine bC [(0,_),(s,_),(h,_),(e,_),(j1,_),(j19,_)] ?_;refine au 6804 ?_;refine bD Z Z Z Z ((zbl (b:=exB) x_len.1 x_len.2).mono (fun _ _ h=>or3 h wZ x_ne)) ?_;rintro r61 K62 h63;rcases h63 with ⟨hno,rfl,rfl⟩ | ⟨c,jc,ec,hpl,rfl,rfl⟩
 ·exact (zfY hno).elim
 ·refine au 0 ?_;obtain ⟨hq1,hq2⟩:=zka (.inl rfl) hpl;rw [hq2,hq1];refine au 23555566661 ?_;refine bC [(0,_),(s,_),(h,_),(e,_),(j1,_),(j19,_),(jc,_)] ?_;refine au 6804 ?_;refine bD Z Z Z Z ((wh (b:=exB) x_len.1 x_len.2).mono (fun _ _ h=>or3 h wZ x_ne)) ?_;rintro r64 K65 h66;rcases h66 with ⟨hno,rfl,rfl⟩ | ⟨c2,jf,ef,hpl2,rfl,rfl⟩
  ·exact (zfY hno).elim
  ·refine au 0 ?_;obtain ⟨hq3,hq4⟩:=zka (.inr rfl) hpl2;rw [hq3];refine au 235556661 ?_;refine bC [(0,_),(s,_),(h,_),(e,_),(j1,_),(j19,_),(jc,_),(jf,_)] ?_;refine au 6804 ?_;refine bD Z Z Z Z ((ww (b:=exB) x_len.1 x_len.2).mono (fun _ _ h=>or3 h wZ x_ne)) ?_;rintro r67 K68 ⟨rfl,rfl⟩;refine au 0 ?_;rw [zlR];refine au 2235556661 ?_;refine bC [(0,_),(s,_),(h,_),(e,_),(j1,_),(j19,_),(jc,_),(jf,_)] ?_;refine TK.dr [0,1,2,3,4,5,6,7,8,9,10,11,12,13,14,15,16,17,18,19,20,21,22,23,24,25,26,27,28,29,30,31,32,33,34,35,36,37,38,39,40,41,42,43,44,45,46,47,48,49,50,51,52,53,54,55,56,57,58,59,60,61,62,63,64,65,66] [0,1,2,3,4,5,6,7,8,9,10,11,12,13,14,15,16,17,18,19,20,21,22,23,24,25,26,27,28,29,30,31,32,33,34,35,36,37,38,39,40,41,42,43,44,45,46,47,48,49,50,51,52,53,54,55,56,57,58,59,60,61,62,63,64,65,66] ?_;refine ad [[1,3],[4,235],[1,236],[1,5,237],[4,237,238],[6,237,239],[1,240],[1,7,241],[4,241,242],[6,241,243],[1,244],[1,11,245],[4,245,246],[6,245,247],[1,248],[1,14,249],[4,249,250],[6,249,251],[1,252],[1,16,253],[4,253,254],[6,253,255],[1,256],[1,18,257],[4,257,258],[6,257,259],[1,260],[1,21,261],[4,261,262],[6,261,263],[1,264],[12,19,265]] ?_;refine TD.clE (Wx:=[_,_,_,_,_,_,_,_,_,_,_,_,_,_,_,_,_,_,_,_,_,_,_,_,_,_,_,_,_,_,_]) [265] Z (pendS (es:=[30,30]) Z Z) Z Z Z (to_ok hT) ?_;refine bU [265,266,267] Z (uy Z Z Z Z Z FlatF.h EqG.h) ?_;refine ad [[6,265,268],[1,269],[1,26,270]] ?_;refine bV (Wx:=[_,_,_,_,_,_,_,_,_,_,_,_,_,_,_,_,_,_,_,_,_,_,_,_,_,_,_,_,_,_,_,_,_,_]) [270] Z Z Z (pendS (es:=[35]) Z Z) Z (zu (l:=[_,_]) Z zq.h TyZ.h dQ dQ Z) (fun _=>zx rfl tQ) sQ fun jz1 hjz1=>?_;refine bQ (Wx:=[_,_,_,_,_,_,_,_,_,_,_,_,_,_,_,_,_,_,_,_,_,_,_,_,_,_,_,_,_,_,_,_,_]) [270,271,272] Z (pendS (es:=[36,37,35,35]) Z Z) Z Z Z ((wV hT (xs:=[0,1]) (ys:=[0,1]) (off:=0) (ob:=.cells (([0,1]:List Int).map za) ec ff) (fun i x hx=>yb hx rfl) dQ).mono (fun _ _ h=>trT h rfl)) (fun r73 K74 h75=>⟨?_,?_⟩)
   ·rcases h75 with ⟨rfl,rfl⟩
    all_goals simp
   obtain ⟨rfl,rfl⟩:=h75;try simp only [cA]
   refine bS tQ ?_;refine bU [270,273] Z (q_not Z Z) ?_;refine ad [[6,270,274],[1,275],[1,9,276],[4,276,277],[6,276,278],[1,279],[1,10,280]] ?_;refine bU [280,281] Z (q_not Z Z) ?_;refine ad [[6,280,282],[1,283],[1,27,284]] ?_;refine bV (Wx:=[_,_,_,_,_,_,_,_,_,_,_,_,_,_,_,_,_,_,_,_,_,_,_,_,_,_,_,_,_,_,_,_,_,_,_,_,_,_,_,_,_,_,_,_]) [284] Z Z Z (pendS (es:=[49]) Z Z) Z (zu (l:=[_,_]) Z zq.h TyZ.h dQ dQ Z) (fun _=>zx rfl tQ) sQ fun jz2 hjz2=>?_;refine bQ (Wx:=[_,_,_,_,_,_,_,_,_,_,_,_,_,_,_,_,_,_,_,_,_,_,_,_,_,_,_,_,_,_,_,_,_,_,_,_,_,_,_,_,_,_,_]) [284,285,286] Z (pendS (es:=[50,51,49,49]) Z Z) Z Z Z ((wV hT (xs:=[0,1]) (ys:=[0,1]) (off:=0) (ob:=.cells (([0,1]:List Int).map za) ef ff) (fun i x hx=>yb hx rfl) dQ).mono (fun _ _ h=>trT h rfl)) (fun r76 K77 h78=>⟨?_,?_⟩)
   ·rcases h78 with ⟨rfl,rfl⟩
    all_goals simp
   obtain ⟨rfl,rfl⟩:=h78;try simp only [cA]
   refine bS tQ ?_;refine bU [284,287] Z (q_not Z Z) ?_;refine ad [[6,284,288],[1,289],[1,13,290]] ?_;refine bU [290,291] Z (q_not Z Z) ?_;refine ad [[6,290,292],[1,293],[1,15,294],[4,294,295],[6,294,296],[1,297],[1,4,298]] ?_;refine bU [298,299] Z (q_not Z Z) ?_;refine ad [[6,298,300],[14]] ?_;refine au 2120190 ?_;refine bC [(0,_),(s,_),(h,_),(e,_),(j1,_),(j19,_)] ?_;refine au 6804 ?_;refine bD Z Z Z Z ((znJ hT (b:=exB) x_len.1 x_len.2).mono (fun _ _ h=>or3 h wZ x_ne)) ?_;rintro r79 K80 ⟨rfl,rfl⟩;refine au 0 ?_;rw [x_ask];refine au 235556661 ?_;refine bC [(0,_),(s,_),(h,_),(e,_),(j1,_),(j19,_)] ?_;refine au 4006804 ?_;refine bD Z Z Z Z ((zhZ hT (b:=exB) (m:=⟨2,2,7⟩) x_len.1 x_len.2).mono (fun _ _ h=>agr3 (or2 h wZ) x_mc x_mne)) ?_;rintro r82 K83 ⟨s7,h7,e7,rfl,rfl⟩;refine au 220661 ?_;intro j30 hj30;refine au 235170 ?_;refine bC [(0,_),(s,_),(h,_),(e,_),(j1,_),(j19,_),(s7,_),(h7,_),(e7,_),(j30,_)] ?_;refine au 6804 ?_;refine TK.clE Z Z Z Z (vh hT (b:=exM) (s:=s7) (h:=h7) (e:=e7) dQ dQ) ?_;refine au 0 ?_;rw [x_mc,if_pos rfl,x_mst];refine au 2355661 ?_;refine bC [(0,_),(s,_),(h,_),(e,_),(j1,_),(j19,_),(s7,_),(h7,_),(e7,_),(j30,_)] ?_;refine au 6804 ?_;refine bD Z Z Z Z ((zcx hT (b:=exM) (s:=s7) (h:=h7) (e:=e7) dQ dQ).mono (fun _ _ h=>or3 h x_mc x_mne)) ?_;rintro r88 K89 ⟨rfl,rfl⟩;refine au 0 ?_;rw [zpg];refine au 235170661 ?_;refine bC [(0,_),(s,_),(h,_),(e,_),(j1,_),(j19,_),(j30,_)] ?_;refine bL [0,1,2,3,4,6,5,7] ?_;refine ad [[12,1]] ?_;refine TD.clE (Wx:=[_]) [] Z Z Z Z Z (to_ok hT) ?_;refine bQ (Wx:=[]) [325,326] Z Z Z Z Z ((ziI hT (b:=exB) (n:=0) (x:=⟨1,5⟩) x_len.1 x_len.2).mono (fun _ _ h=>agr3 (or4 h x_d1) x_dc x_dne)) (fun r94 K95 h96=>⟨?_,?_⟩)
   ·rcases h96 with ⟨s8,h8,e8,rfl,rfl⟩
    all_goals simp
   obtain ⟨s8,h8,e8,rfl,rfl⟩:=h96;try simp only [cA]
   refine bS tQ ?_;refine ad [[1,327],[5,324],[5,324]] ?_;refine TD.s (Wx:=[_]) [30,328] Z Z (zE Z Z ze.h Z Z mQ Z) ?_;refine ad [[13,329],[14]] ?_;refine au 2 ?_;refine bC [(0,_),(s,_),(h,_),(e,_),(j1,_),(j19,_),(j30,_),(s8,_),(h8,_),(e8,_)] ?_;refine au 6804 ?_;refine bD Z Z Z Z ((zcL hT (b:=exD) (s:=s8) (h:=h8) (e:=e8) (n:=0) dQ dQ (by rw [x_dst]; decide)).mono (fun _ _ h=>or3 h x_dth x_dne)) ?_;rintro r97 K98 ⟨js9,zs9,rfl,rfl⟩;refine au 0 ?_;rw [zpe];refine au 2355661 ?_;refine bC [(0,_),(s,_),(h,_),(e,_),(j1,_),(j19,_),(js9,_)] ?_;refine bL [0,1,2,3,4,5,6] ?_;refine ad [[12,1]] ?_;refine TD.clE (Wx:=[_]) [] Z Z Z Z Z (to_ok hT) ?_;refine bQ (Wx:=[]) [336,337] Z Z Z Z Z ((ziI hT (b:=exB) (n:=1) (x:=⟨1,2⟩) x_len.1 x_len.2).mono (fun _ _ h=>or4c h x_d2)) (fun r103 K104 h105=>⟨?_,?_⟩)
   ·rcases h105 with ⟨rfl,rfl⟩
    all_goals simp
   obtain ⟨rfl,rfl⟩:=h105;try simp only [cA]
   refine bS tQ ?_;refine ad [[1,338],[5,335],[5,335],[13,340],[14]] ?_;refine au 2 ?_;refine bC [(0,_),(s,_),(h,_),(e,_),(j1,_),(j19,_),(js9,_)] ?_;refine au 4006804 ?_;refine bD Z Z Z Z (zbL hT (b:=exB) (m:=⟨0,1,5⟩) dQ) ?_;rintro r106 K107 ⟨e9,rfl,rfl⟩;refine au 400 ?_;refine bD Z Z Z Z (zbL hT (b:=exC1) (m:=⟨2,2,6⟩) dQ) ?_;rintro r109 K110 ⟨e10,rfl,rfl⟩;refine au 0 ?_;refine bD Z Z Z Z ((zkn hT (b:=exC) (s:=s) (h:=h) (e:=e10) dQ dQ).mono (fun _ _ h=>orCl h x_cc x_cst (by rw [zhs]; exact fun h=>nomatch h))) ?_;rintro r112 K113 ⟨l0,j10,e11,hcl,rfl,rfl⟩;refine au 0 ?_;rw [zhs] at hcl;cases hcl;refine au 2355661 ?_;refine bC [(0,_),(j19,_),(js9,_),(j10,_)] ?_;refine bL [0,1,2,3,4,5,6,7,8,9,10,11,12,13,14,15,16,17,18,19,20,21,22,23,24,25,26,27,28,29,30,31,32,33,34,35,36,37,38,39,40,41,42,43,44,45,46,47,48,49,50,51,52,53,54,55,56,57] ?_;refine ad [[1,3],[4,350],[1,351],[1,5,352],[4,352,353],[7,352,354],[1,355],[1,7,356],[4,356,357],[7,356,358],[1,359],[1,11,360],[4,360,361],[7,360,362],[1,363],[1,14,364],[4,364,365],[7,364,366],[1,367],[1,16,368],[4,368,369],[7,368,370],[1,371],[1,18,372],[4,372,373],[7,372,374],[1,375],[1,20,376],[4,376,377],[7,376,378],[1,379],[1,28,380],[4,380,381],[7,380,382],[1,383],[1,29,384],[4,384,385],[7,384,386],[1,387],[1,15,388],[4,388,389],[7,388,390],[1,391],[12,19,392]] ?_;refine TD.clE (Wx:=[_,_,_,_,_,_,_,_,_,_,_,_,_,_,_,_,_,_,_,_,_,_,_,_,_,_,_,_,_,_,_,_,_,_,_,_,_,_,_,_,_,_,_]) [392] Z Z Z Z Z (to_ok hT) ?_;refine bU [392,393,394] Z (zft Z Z Z Z Z FlatF.h EqG.h) ?_;refine ad [[7,392,395],[1,396],[1,17,397]] ?_;refine bV (Wx:=[_,_,_,_,_,_,_,_,_,_,_,_,_,_,_,_,_,_,_,_,_,_,_,_,_,_,_,_,_,_,_,_,_,_,_,_,_,_,_,_,_,_,_,_,_,_]) [397] Z Z Z Z Z (zu (l:=[_]) Z zq.h TyZ.h dQ dQ Z) (fun _=>zx rfl tQ) sQ fun jq1 hjq1=>?_;refine bQ (Wx:=[_,_,_,_,_,_,_,_,_,_,_,_,_,_,_,_,_,_,_,_,_,_,_,_,_,_,_,_,_,_,_,_,_,_,_,_,_,_,_,_,_,_,_,_,_]) [397,398,399] Z Z Z Z Z ((wV hT (xs:=[1]) (ys:=[1]) (off:=0) (ob:=.cells (([1]++zs9).map za) 3 ff) (fun i x hx=>zah hx) dQ).mono (fun _ _ h=>trT h rfl)) (fun r118 K119 h120=>⟨?_,?_⟩)
   ·rcases h120 with ⟨rfl,rfl⟩
    all_goals simp
   obtain ⟨rfl,rfl⟩:=h120;try simp only [cA]
   refine bS tQ ?_;refine ad [[7,397,400],[1,401],[1,31,402]] ?_;refine bV (Wx:=[_,_,_,_,_,_,_,_,_,_,_,_,_,_,_,_,_,_,_,_,_,_,_,_,_,_,_,_,_,_,_,_,_,_,_,_,_,_,_,_,_,_,_,_,_,_,_]) [402] Z Z Z Z Z (zu (l:=[_,_]) Z zq.h TyZ.h dQ dQ Z) (fun _=>zx rfl tQ) sQ fun jq2 hjq2=>?_;refine bQ (Wx:=[_,_,_,_,_,_,_,_,_,_,_,_,_,_,_,_,_,_,_,_,_,_,_,_,_,_,_,_,_,_,_,_,_,_,_,_,_,_,_,_,_,_,_,_,_,_]) [402,403,404] Z Z Z Z Z ((wV hT (xs:=[0,1]) (ys:=[0,1]) (off:=0) (ob:=.cells (([0,1]:List Int).map za) e11 ff) (fun i x hx=>yb hx rfl) dQ).mono (fun _ _ h=>trT h rfl)) (fun r121 K122 h123=>⟨?_,?_⟩)
   ·rcases h123 with ⟨rfl,rfl⟩
    all_goals simp
   obtain ⟨rfl,rfl⟩:=h123;try simp only [cA]
   refine bS tQ ?_;refine ad [[7,402,405],[13,406],[14]] ?_;refine au 0 ?_;refine bB Wz [(0,_)] ?_;exact ⟨rfl,rfl⟩
section
variable {P:gP} {gm:Nat->Option Nat} {V:KV} {Wq:List AV} {o:Oper}
theorem zjy {t yt:gT} {x y:Operand} {k':IntKind} {a b:Nat} (ho:o.op=.binOp .shr t x y yt) (hx:zo gm Wq x=some (.v (.int .u8 a))) (hy:zo gm Wq y=some (.v (.int k' b))) (h0:b<=6):Qk P gm Wq V o (.v (.int .u8 ((a / 2 ^ b:Nat):Int))):=fun A _=>by
 refine wm ho (by rw [zA hx]; rfl) (by rw [zA hy]; rfl) ?_;rw [wR];show zO P (Op.shift .shr .u8 a k' b)=_;unfold Op.shift;rw [if_neg oQ];show some (Value.int .u8 ((a:Int).fdiv (2 ^ min (b:Int).toNat 8)))=_;rw [mZ,Nat.min_eq_left oQ,show ((a:Int).fdiv (2 ^ b))=((a / 2 ^ b:Nat):Int) by rw [Int.fdiv_eq_ediv_of_nonneg _ (by exact_mod_cast mN (2 ^ b))]; norm_cast]
theorem zjv {t yt:gT} {x y:Operand} {a:Nat} (ho:o.op=.binOp .and t x y yt) (hx:zo gm Wq x=some (.v (.int .u8 a))) (hy:zo gm Wq y=some (.v (.int .u8 1))) (h:a<256):Qk P gm Wq V o (.v (.int .u8 ((a % 2:Nat):Int))):=by
 refine kx ho hx hy ?_;show some (Value.int .u8 (IntKind.u8.wrap ((BitVec.ofInt 8 (a:Int) &&& BitVec.ofInt 8 1).toNat:Int)))=_;have:(BitVec.ofInt 8 (a:Int) &&& BitVec.ofInt 8 1).toNat=a % 2:=by
  rw [BitVec.toNat_and];have e1:(BitVec.ofInt 8 (a:Int)).toNat=a:=by
   rw [BitVec.toNat_ofInt];omega
  rw [e1];show a &&& 1=a % 2;exact Nat.and_one_is_mod a
 rw [this];have h2:a % 2=0\/a % 2=1:=by omega
 rcases h2 with h2 | h2 <;> rw [h2] <;> rfl
end
theorem ziu {c i:Nat} (h:c / 2 ^ i % 2=1):zw c (i+1)=zw c i++[(i:Int)]:=by
 show zw c i++_=_;rw [if_pos h]
theorem zit {c i:Nat} (h:¬ c / 2 ^ i % 2=1):zw c (i+1)=zw c i:=by
 show zw c i++_=_;rw [if_neg h,lR]
theorem zmb {main T} (hT:zt tp main T) {gm} {b:RBk} {s h e c:Nat} (hn:1<=b.sE.length/\b.sE.length<=5) (hc:c<256) :
  zr tp T gm 18 [.agg (zH b s h e),.v (.int .u8 (c:Int))] [] (fun r K'=>∃ (jo:Nat) (eo:gT),r=.sl jo 0 (otherM c b.sE.length).length/\K'=[(jo,.cells ((otherM c b.sE.length).map za) eo ff)]):=by
 refine zn 34 hT Tryz.func18 fun Y Wz=>?_;refine au 21042 ?_;intro jb hjb;refine au 54235 ?_;refine TK.virt 5 3 1 Z fun jr0 hjr0=>?_;refine au 130354223 ?_;refine bA [1,2,5,6] ?_;refine bC [(jr0,_),(jb,_)] ?_;refine bE (fun n Wq K=>∃ (i jr:Nat),n=b.sE.length - i/\i<=b.sE.length/\Wq=.any::.v (.int .u8 (c:Int))::.ptr jb 0::naL 2 (.row jr (zw c i).length::za i::naL 27 [])/\K=[(jr,.row ((zw c i).map za) 3 1),(jb,.cells (zH b s h e) 26 tt)]) b.sE.length ⟨0,jr0,rfl,mN _,rfl,rfl⟩ fun n Wq K hI Wj=>?_;obtain ⟨i,jr,rfl,hi,rfl,rfl⟩:=hI;have hbl:=wJ c i;refine bG nQ ?_;refine au 9372806906701422 ?_;constructor<;>intro Jz
 ·have Qb:i<b.sE.length:=by simp at Jz; omega
  refine au 11421302120 ?_;refine bH Z (zjy Z Z Z oQ) ?_;refine bH Z (zjv Z Z Z (by have:=Nat.div_le_self c (2 ^ i); omega)) ?_;refine au 937 ?_;constructor<;>intro Jx
  ·have hbit:c / 2 ^ i % 2=1:=by have h:=eq_of_beq Jx; omega
   refine au 114 ?_;refine bI Z Z Z (zu (l:=[_]) Z zq.h TyZ.h dQ dQ Z) (fun _=>zx rfl tQ) fun j1 hj1=>?_;refine TK.appR Z Z Z (a_app Z ApOf.h Z mQ sQ Z (yq (ln:=[_]) mQ dQ sQ Z) oQ Z (by unfold maxLen; omega) oQ) (fun _=>uQ) (fun _=>zx rfl tQ) fun jr2=>?_;refine au 352301414035 ?_;refine bA [1,2,5,6] ?_;refine bC [(jr2,_),(jb,_)] ?_;exact Wj _ _ _ oQ ⟨i+1,jr2,rfl,oQ,by rw [ziu hbit,lF]; rfl,by rw [ziu hbit,lM]; rfl⟩
  have hbit:¬ c / 2 ^ i % 2=1:=fun h=>by rw [h] at Jx; simp at Jx
  refine au 3523014140120 ?_;refine bA [1,2,5,6] ?_;refine bC [(jr,_),(jb,_)] ?_;exact Wj _ _ _ oQ ⟨i+1,jr,rfl,oQ,by rw [zit hbit] <;> rfl,by rw [zit hbit] <;> rfl⟩
 obtain rfl:i=b.sE.length:=by simp at Jz; omega
 refine au 9372801422160 ?_;constructor<;>intro hc2
 ·have hb0:zw c b.sE.length=[]:=by have h:=eq_of_beq hc2; exact lK oQ
  have hot:otherM c b.sE.length=[((c % b.sE.length:Nat):Int)]:=if_pos hb0;refine au 142 ?_;refine bH Z (yu Z Z Und.h Und.h (kg oQ)) ?_;refine au 280690670 ?_;refine bH Z (q_rem Z Z Z oQ oQ) ?_;refine bI Z Z Z (zu (l:=[_]) Z zq.h TyZ.h dQ dQ Z) (fun _=>zx rfl tQ) fun jo hjo=>?_;refine au 5 ?_;refine bZ 4 Z mQ ?_;refine bY (j:=jo) ?_;refine au 3 ?_;refine bB Wz [(jo,_)] ?_;exact ⟨jo,_,by rw [hot]; rfl,by rw [hot]; rfl⟩
 have hb0:zw c b.sE.length≠[]:=fun hh=>by rw [hh] at hc2; simp at hc2
 have hot:otherM c b.sE.length=zw c b.sE.length:=if_neg hb0;refine bZ 5 Z mQ ?_;refine bY (j:=jr) ?_;refine au 35142120 ?_;refine bB Wz [(jr,_)] ?_;exact ⟨jr,_,by rw [hot],by rw [hot]⟩
end Go.Vel
end
