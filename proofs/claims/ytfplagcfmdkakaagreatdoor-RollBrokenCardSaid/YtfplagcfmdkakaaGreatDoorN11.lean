/- Texts for the statements of chapter 8: what all of them need, part 12. It holds of every program, tape and world that the statements name, as each theorem says. -/
import Derived.Test.YtfplagcfmdkakaaGreatDoorRows
import Derived.Test.YtfplagcfmdkakaaGreatDoorCards
import Derived.Test.YtfplagcfmdkakaaGreatDoorTie
import Derived.ProofKit
import Derived.LaidMore
import Derived.LaidHandle
import Derived.LaidOnce
import Derived.OpenShut
import Derived.Stop.Joined
import Derived.Conc.LeavingOf
import Derived.Conc.HoldsTime
import Derived.Carry
import Derived.LaidLaws
import Derived.SevenTiedAt
import Derived.Test.YtfplagcfmdkakaaGreatDoorN3
import Derived.Test.YtfplagcfmdkakaaGreatDoorN5
import Derived.Test.YtfplagcfmdkakaaGreatDoorN10
section
set_option linter.all false
set_option maxRecDepth 20000
set_option maxHeartbeats 60000000
open Go.Proofs.Tryz renaming prog -> tp
open List renaming getElem?_eq_getElem -> lA, getElem?_eq_some_iff -> lD, getElem?_append_left -> lG, getElem?_append_right -> lO, getElem?_map -> lQ
open Nat renaming eq_zero_or_pos -> mP, lt_or_ge -> mR
open Option renaming map_eq_some_iff -> mY
namespace Go.Vel
open Go Go.Conc Go.Proofs Go.ChangeShapes Go.WideShapes Go.ChangeAt Go.RowKit
open Go.ConcM (OsLater)
def tblLaid:List (String×DataW Unit):=[("velarium/roll.checks",Go.Proofs.YtfplagcfmdkakaaGreatDoor.Rows.laid_velarium_roll_checks),("velarium/terrain.checks",Go.Proofs.YtfplagcfmdkakaaGreatDoor.Rows.laid_velarium_terrain_checks)]
theorem tbl4 {P:Program} {W:World} {n:String} {d:DataW Unit} {g0 t0 e0:Nat} {ps rs:Array TypeId} {va:Bool} {b1 b2 b3 b4:UInt8} {r1 r2 r3 r4:List UInt8} {f1 f2 f3 f4:Nat} (h:funcsAt P W n d)
  (hg0:P.globalNamed n=some g0) (ht0:(P.globals[g0]?).map (·.type)=some t0) (hu:P.underlying t0=some (.array 4 e0)) (he:P.underlying e0=some (.func ps rs va)) (hc:P.cellsOf e0=1) (hc3:P.cellsOf t0=4)
  (hd:d.funcsOut=.agg [.held (b1::r1),.held (b2::r2),.held (b3::r3),.held (b4::r4)])
  (q1:((List.range P.funcs.size).filter fun f=>(P.funcs[f]?).any (·.name.toUTF8.data.toList==b1::r1))=[f1])
  (q2:((List.range P.funcs.size).filter fun f=>(P.funcs[f]?).any (·.name.toUTF8.data.toList==b2::r2))=[f2])
  (q3:((List.range P.funcs.size).filter fun f=>(P.funcs[f]?).any (·.name.toUTF8.data.toList==b3::r3))=[f3])
  (q4:((List.range P.funcs.size).filter fun f=>(P.funcs[f]?).any (·.name.toUTF8.data.toList==b4::r4))=[f4]) :
  ∃ cur e fz,W.heap[g0]? =some (.cells cur e fz)/\cur[0]? =some (.func (.func f1) #[] #[])/\cur[1]? =some (.func (.func f2) #[] #[])/\cur[2]? =some (.func (.func f3) #[] #[])/\cur[3]? =some (.func (.func f4) #[] #[]):=by
 obtain ⟨g,t,cs,fuel,p,hg,ht,hv,htr⟩:=h;obtain rfl:=Option.some.inj (hg0.symm.trans hg);obtain rfl:=Option.some.inj (ht0.symm.trans ht);rw [hd] at htr;obtain ⟨xs,m,rfl,hx,hlen,hn,hel⟩:=DataW.trod_array hu htr
 match xs,hn with
 | [x0,x1,x2,x3],_ =>
 simp only [Prod.mk.injEq,DataW.agg.injEq,List.map_cons,List.map_nil,List.cons.injEq,and_true] at hx;obtain ⟨⟨e1,e2,e3,e4⟩,_⟩:=hx;rw [hc3] at hlen;obtain ⟨l⟩:=cs
 match l,hlen with
 | [c0,c1,c2,c3],_ =>
 have h0:=hel 0 dQ;have h1:=hel 1 dQ;have h2:=hel 2 dQ;have h3:=hel 3 dQ;rw [hc] at h0 h1 h2 h3;obtain ⟨x0,y0⟩:=x0;obtain ⟨x1,y1⟩:=x1;obtain ⟨x2,y2⟩:=x2;obtain ⟨x3,y3⟩:=x3;dsimp only at e1 e2 e3 e4;subst e1 e2 e3 e4;obtain rfl:=func_of_trod (v:=c0) he q1 h0;obtain rfl:=func_of_trod (v:=c1) he q2 h1;obtain rfl:=func_of_trod (v:=c2) he q3 h2;obtain rfl:=func_of_trod (v:=c3) he q4 h3;have k0:=World.var?_cell hg hv 0;have k1:=World.var?_cell hg hv 1;have k2:=World.var?_cell hg hv 2;have k3:=World.var?_cell hg hv 3;simp only [List.getElem?_toArray,List.getElem?_cons_zero,List.getElem?_cons_succ] at k0 k1 k2 k3;simp only [World.cell?] at k0 k1 k2 k3;cases hh:W.heap[g0]? with
 | none=>rw [hh] at k0; cases k0
 | some o =>
  cases o with
  | cells cur e fz=>rw [hh] at k0 k1 k2 k3; exact ⟨cur,e,fz,rfl,by simpa using k0,by simpa using k1,by simpa using k2,by simpa using k3⟩
  | _=>rw [hh] at k0; cases k0
set_option maxRecDepth 100000 in
theorem tbl5L {P:Program} {W:World} {n:String} {d:DataW Unit} {g0 t0 e0:Nat} {ps rs:Array TypeId} {va:Bool} {b0 b1 b2 b3 b4:UInt8} {r0 r1 r2 r3 r4:List UInt8} {f0 f1 f2 f3 f4:Nat} (h:funcsAt P W n d)
  (hg0:P.globalNamed n=some g0) (ht0:(P.globals[g0]?).map (·.type)=some t0) (hu:P.underlying t0=some (.array 5 e0)) (he:P.underlying e0=some (.func ps rs va)) (hc:P.cellsOf e0=1) (hc3:P.cellsOf t0=5)
  (hd:d.funcsOut=.agg [.held (b0::r0),.held (b1::r1),.held (b2::r2),.held (b3::r3),.held (b4::r4)])
  (q0:((List.range P.funcs.size).filter fun f=>(P.funcs[f]?).any (·.name.toUTF8.data.toList==b0::r0))=[f0])
  (q1:((List.range P.funcs.size).filter fun f=>(P.funcs[f]?).any (·.name.toUTF8.data.toList==b1::r1))=[f1])
  (q2:((List.range P.funcs.size).filter fun f=>(P.funcs[f]?).any (·.name.toUTF8.data.toList==b2::r2))=[f2])
  (q3:((List.range P.funcs.size).filter fun f=>(P.funcs[f]?).any (·.name.toUTF8.data.toList==b3::r3))=[f3])
  (q4:((List.range P.funcs.size).filter fun f=>(P.funcs[f]?).any (·.name.toUTF8.data.toList==b4::r4))=[f4])
  : ∃ cur e fz,W.heap[g0]? =some (.cells cur e fz)/\cur[0]? =some (.func (.func f0) #[] #[])/\cur[1]? =some (.func (.func f1) #[] #[])/\cur[2]? =some (.func (.func f2) #[] #[])/\cur[3]? =some (.func (.func f3) #[] #[])/\cur[4]? =some (.func (.func f4) #[] #[]):=by
 obtain ⟨g,t,cs,fuel,p,hg,ht,hv,htr⟩:=h;obtain rfl:=Option.some.inj (hg0.symm.trans hg);obtain rfl:=Option.some.inj (ht0.symm.trans ht);rw [hd] at htr;obtain ⟨xs,m,rfl,hx,hlen,hn,hel⟩:=DataW.trod_array hu htr
 match xs,hn with
 | [x0,x1,x2,x3,x4],_ =>
 simp only [Prod.mk.injEq,DataW.agg.injEq,List.map_cons,List.map_nil,List.cons.injEq,and_true] at hx;obtain ⟨⟨e0,e1,e2,e3,e4⟩,_⟩:=hx;rw [hc3] at hlen;obtain ⟨l⟩:=cs
 match l,hlen with
 | [c0,c1,c2,c3,c4],_ =>
 have h0:=hel 0 dQ;have h1:=hel 1 dQ;have h2:=hel 2 dQ;have h3:=hel 3 dQ;have h4:=hel 4 dQ;rw [hc] at h0 h1 h2 h3 h4;obtain ⟨x0,y0⟩:=x0;obtain ⟨x1,y1⟩:=x1;obtain ⟨x2,y2⟩:=x2;obtain ⟨x3,y3⟩:=x3;obtain ⟨x4,y4⟩:=x4;dsimp only at e0 e1 e2 e3 e4;subst e0 e1 e2 e3 e4;obtain rfl:=func_of_trod (v:=c0) he q0 h0;obtain rfl:=func_of_trod (v:=c1) he q1 h1;obtain rfl:=func_of_trod (v:=c2) he q2 h2;obtain rfl:=func_of_trod (v:=c3) he q3 h3;obtain rfl:=func_of_trod (v:=c4) he q4 h4;have k0:=World.var?_cell hg hv 0;have k1:=World.var?_cell hg hv 1;have k2:=World.var?_cell hg hv 2;have k3:=World.var?_cell hg hv 3;have k4:=World.var?_cell hg hv 4;simp only [List.getElem?_toArray,List.getElem?_cons_zero,List.getElem?_cons_succ] at k0 k1 k2 k3 k4;simp only [World.cell?] at k0 k1 k2 k3 k4;cases hh:W.heap[g0]? with
 | none=>rw [hh] at k0; cases k0
 | some o =>
  cases o with
  | cells cur e fz=>rw [hh] at k0 k1 k2 k3 k4; exact ⟨cur,e,fz,rfl,by simpa using k0,by simpa using k1,by simpa using k2,by simpa using k3,by simpa using k4⟩
  | _=>rw [hh] at k0; cases k0
set_option maxRecDepth 100000 in
theorem zlk {W:World} (h:laidMetH tp tblLaid W):(∃ cur e fz,W.heap[0]? =some (.cells cur e fz)/\cur[0]? =some (.func (.func 224) #[] #[])/\cur[1]? =some (.func (.func 225) #[] #[])/\cur[2]? =some (.func (.func 226) #[] #[])/\cur[3]? =some (.func (.func 227) #[] #[]))/\(∃ cur e fz,W.heap[1]? =some (.cells cur e fz)/\cur[0]? =some (.func (.func 228) #[] #[])/\cur[1]? =some (.func (.func 229) #[] #[])/\cur[2]? =some (.func (.func 230) #[] #[])/\cur[3]? =some (.func (.func 231) #[] #[])/\cur[4]? =some (.func (.func 232) #[] #[])) :=
 ⟨tbl4 (h.funcs (n := "velarium/roll.checks") (List.mem_cons_self ..)) (t0:=191) (e0:=120) (by kernel_rfl) (by kernel_rfl) Tryz.underlying191 Tryz.underlying120 (by kernel_rfl) (by kernel_rfl) rfl (by kernel_rfl) (by kernel_rfl) (by kernel_rfl) (by kernel_rfl),
  tbl5L (h.funcs (n := "velarium/terrain.checks") (List.mem_cons_of_mem _ (List.mem_cons_self ..))) (t0:=259) (e0:=101) (by kernel_rfl) (by kernel_rfl) Tryz.underlying259 Tryz.underlying101 (by kernel_rfl) (by kernel_rfl) rfl (by kernel_rfl) (by kernel_rfl) (by kernel_rfl) (by kernel_rfl) (by kernel_rfl)⟩
theorem zbd {α:Type} {p:Nat->α->Prop}:∀ n,(∀ i,i<n->∃ z,p i z)->∃ zs:List α,zs.length=n/\∀ (i:Nat) z,zs[i]? =some z->p i z
 | 0,_=>⟨[],rfl,fun i z h=>by simp at h⟩
 | n+1,h=>by
  obtain ⟨zs,h1,h2⟩:=zbd n fun i hi=>h i oQ;obtain ⟨z,hz⟩:=h n oQ;refine ⟨zs++[z],by simp [h1],fun i y hy=>?_⟩;rcases mR i n with hi | hi
  ·rw [lG oQ] at hy;exact h2 i y hy
  ·rw [lO oQ,h1] at hy;rcases mP (i - n) with h0 | h0
   ·rw [h0] at hy; cases hy;obtain rfl:i=n:=by omega
    exact hz
   ·rw [List.getElem?_eq_none (by simp; omega)] at hy; cases hy
theorem wj {H:Type} {enc:TypeId×Value->H} {P:Program} {W:World} {sp:Nat->Bool} {held:Bool} {α:Type} {vals:α->List Value} {c fuel:Nat} {t e:TypeId} {cs:List Value} {x:DataW H×List MemPlace} (hu:P.underlying t=some (.slice e)) (hce:P.cellsOf e=c) (hpos:0<c)
  (hdec:∀ (m:Nat) cs x,DataW.trod enc P W 0 sp held m e cs=some x->∃ z,cs=vals z) (h:DataW.trod enc P W 0 sp held fuel t cs=some x) :
  ∃ (zs:List α) (b:Option Addr) (cap:Nat),cs=[.slice b zs.length cap]/\zs.length<=cap/\(0<zs.length->∃ blk off cur e' fz,b=some ⟨blk,off,none⟩/\W.heap[blk]? =some (.cells cur e' fz) /\
   ∀ (i:Nat) z (j:Nat),zs[i]? =some z->j<c->cur[off+(i*c+j)]? =(vals z)[j]?):=by
 rcases DataW.trod_slice hu h with ⟨rfl,_⟩ | ⟨a,len,cap,elems,rest,n,_,rfl,_,_,hlc,_,hel,hat,_,_⟩
 ·exact ⟨[],none,0,rfl,Nat.le_refl _,fun h=>absurd h sQ⟩
 ·obtain ⟨zs,hz1,hz2⟩:=zbd (p:=fun i z=>W.cells? 0 (a.add (i*P.cellsOf e)) (P.cellsOf e)=some (vals z)) len fun i hi=>by
   have:=hat i hi;rw [lA oQ,Option.bind_eq_some_iff] at this;obtain ⟨cs',h1,h2⟩:=this;obtain ⟨z,rfl⟩:=hdec _ _ _ h2;exact ⟨z,h1⟩
  refine ⟨zs,some a,cap,by rw [hz1],oQ,fun hp=>?_⟩;have hcell:∀ (i:Nat) z (j:Nat),zs[i]? =some z->j<c->W.cell? ((a.add (i*c)).add j)=(vals z)[j]? :=fun i z j hi hj=>by
   have:=hz2 i z hi;rw [hce] at this;exact (World.cells?_some this).2.2 j hj
  have hlen:∀ (i:Nat) z,zs[i]? =some z->(vals z).length=c:=fun i z hi=>by
   have:=hz2 i z hi;rw [hce] at this;exact (World.cells?_some this).2.1
  obtain ⟨z0,hz0⟩:∃ z,zs[0]? =some z:=⟨_,lA hp⟩;have h00:=hcell 0 z0 0 hz0 hpos;rw [lA (by rw [hlen 0 z0 hz0]; exact hpos)] at h00;have hspot:a.spot=none:=by simpa [Addr.add] using World.cell?_spot h00
  obtain ⟨blk,off,spot⟩:=a;dsimp only at hspot;subst hspot;have hadd:∀ n,(⟨blk,off,none⟩:Addr).add n=⟨blk,off+n,none⟩:=fun n=>by
   unfold Addr.add;split
   ·rename_i h; subst h; rfl
   ·rfl
  have hadd2:∀ n m,((⟨blk,off,none⟩:Addr).add n).add m=⟨blk,off+(n+m),none⟩:=fun n m=>by
   rw [hadd];unfold Addr.add;split
   ·rename_i h; subst h; simp
   ·simp [Nat.add_assoc]
  rw [hadd2] at h00;unfold World.cell? at h00;dsimp only at h00;cases hh:W.heap[blk]? with
  | none=>rw [hh] at h00; cases h00
  | some o =>
   cases o with
   | cells cur e' fz =>
    refine ⟨blk,off,cur,e',fz,rfl,hh,fun i z j hi hj=>?_⟩;have:=hcell i z j hi hj;rw [hadd2] at this;unfold World.cell? at this;dsimp only at this;rw [hh] at this;simpa using this
   | _=>rw [hh] at h00; cases h00
def seamV (x:RSeam):List Value:=[.int .i64 x.step,.int .i64 x.most,.int .i64 x.busy,.int .i64 x.spoil,.bool x.whole]
def bandV (x:RBand):List Value:=[.int .i64 x.low,.int .i64 x.high]
def measV (x:RMeas):List Value:=[.int .i64 x.cloth,.int .i64 x.many,.int .i64 x.wide]
def intV (n:Int):List Value:=[.int .i64 n]
theorem listN2 {α:Type} {l:List α} (h:l.length=2):∃ a b,l=[a,b]:=by
 match l,h with
 | [a,b],_=>exact ⟨a,b,rfl⟩
theorem listN3 {α:Type} {l:List α} (h:l.length=3):∃ a b c,l=[a,b,c]:=by
 match l,h with
 | [a,b,c],_=>exact ⟨a,b,c,rfl⟩
theorem listN5 {α:Type} {l:List α} (h:l.length=5):∃ a b c d e,l=[a,b,c,d,e]:=by
 match l,h with
 | [a,b,c,d,e],_=>exact ⟨a,b,c,d,e,rfl⟩
theorem listN7 {α:Type} {l:List α} (h:l.length=7):∃ a b c d e f g,l=[a,b,c,d,e,f,g]:=by
 match l,h with
 | [a,b,c,d,e,f,g],_=>exact ⟨a,b,c,d,e,f,g,rfl⟩
section
variable {H:Type} {enc:TypeId×Value->H} {W:World} {sp:Nat->Bool} {held:Bool}
theorem yy {α:Type} {xs:List α} {n i:Nat} (h:xs.length=n) (hi:i<n):∃ y,xs[i]? =some y:=⟨_,lA (h ▸ hi)⟩
theorem yh {P:Program} {n:Nat} {t:TypeId} {c:Value} {y:Option (DataW H×List MemPlace)} {z:DataW H×List MemPlace} {l:List Value} (h:DataW.trod enc P W 0 sp held n t l=y) (hy:y=some z) (hl:l=[c]):DataW.trod enc P W 0 sp held n t [c]=some z:=by rw [<- hl,h,hy]
theorem zar {t:TypeId} {f0 f1:Field} (hu:tp.underlying t=some (.struct #[f0,f1])) (r0:f0.type=3) (s0:f0.offset=0) (r1:f1.type=3) (s1:f1.offset=1) (hc:tp.cellsOf t=2) {m:Nat} {cs:List Value} {x:DataW H×List MemPlace} (h:DataW.trod enc tp W 0 sp held m t cs=some x):∃ a b:Int,cs=[.int .i64 a,.int .i64 b]:=by
 obtain ⟨xs,n,rfl,hx,hlen,hxs,hf⟩:=DataW.trod_struct hu h;have hlen':cs.length=2:=hlen.trans hc;have hxs':xs.length=2:=hxs;have c3:tp.cellsOf 3=1:=by kernel_rfl
 obtain ⟨v0,v1,rfl⟩:=listN2 hlen';obtain ⟨y0,q0⟩:=yy hxs' (i:=0) dQ;obtain ⟨y1,q1⟩:=yy hxs' (i:=1) dQ;have g0:DataW.trod enc tp W 0 sp held n f0.type (List.take (tp.cellsOf f0.type) (List.drop f0.offset [v0,v1]))=xs[0]? :=hf 0 _ rfl;have g1:DataW.trod enc tp W 0 sp held n f1.type (List.take (tp.cellsOf f1.type) (List.drop f1.offset [v0,v1]))=xs[1]? :=hf 1 _ rfl;rw [r0,s0] at g0;rw [r1,s1] at g1;obtain ⟨z0,e0,_⟩:=DataW.trod_int Tryz.underlying3 (yh (c:=v0) g0 q0 (by rw [c3]; rfl));obtain ⟨z1,e1,_⟩:=DataW.trod_int Tryz.underlying3 (yh (c:=v1) g1 q1 (by rw [c3]; rfl));cases e0;cases e1;exact ⟨z0,z1,rfl⟩
theorem zjg (m:Nat) (cs:List Value) (x:DataW H×List MemPlace) (h:DataW.trod enc tp W 0 sp held m 47 cs=some x):∃ z,cs=seamV z:=by
 obtain ⟨xs,n,rfl,hx,hlen,hxs,hf⟩:=DataW.trod_struct Tryz.underlying47 h;have hlen':cs.length=5:=hlen.trans (by kernel_rfl);have hxs':xs.length=5:=hxs;have c3:tp.cellsOf 3=1:=by kernel_rfl
 have c4:tp.cellsOf 4=1:=by kernel_rfl
 obtain ⟨v0,v1,v2,v3,v4,rfl⟩:=listN5 hlen';obtain ⟨y0,q0⟩:=yy hxs' (i:=0) dQ;obtain ⟨y1,q1⟩:=yy hxs' (i:=1) dQ;obtain ⟨y2,q2⟩:=yy hxs' (i:=2) dQ;obtain ⟨y3,q3⟩:=yy hxs' (i:=3) dQ;obtain ⟨y4,q4⟩:=yy hxs' (i:=4) dQ;obtain ⟨z0,e0,_⟩:=DataW.trod_int Tryz.underlying3 (yh (c:=v0) (hf 0 _ rfl) q0 (by show List.take (tp.cellsOf 3) (List.drop 0 _)=_; rw [c3]; rfl));obtain ⟨z1,e1,_⟩:=DataW.trod_int Tryz.underlying3 (yh (c:=v1) (hf 1 _ rfl) q1 (by show List.take (tp.cellsOf 3) (List.drop 1 _)=_; rw [c3]; rfl));obtain ⟨z2,e2,_⟩:=DataW.trod_int Tryz.underlying3 (yh (c:=v2) (hf 2 _ rfl) q2 (by show List.take (tp.cellsOf 3) (List.drop 2 _)=_; rw [c3]; rfl));obtain ⟨z3,e3,_⟩:=DataW.trod_int Tryz.underlying3 (yh (c:=v3) (hf 3 _ rfl) q3 (by show List.take (tp.cellsOf 3) (List.drop 3 _)=_; rw [c3]; rfl));obtain ⟨z4,e4,_⟩:=DataW.trod_bool Tryz.underlying4 (yh (c:=v4) (hf 4 _ rfl) q4 (by show List.take (tp.cellsOf 4) (List.drop 4 _)=_; rw [c4]; rfl));cases e0;cases e1;cases e2;cases e3;cases e4;exact ⟨⟨z0,z1,z2,z3,z4⟩,rfl⟩
theorem zje (m:Nat) (cs:List Value) (x:DataW H×List MemPlace) (h:DataW.trod enc tp W 0 sp held m 68 cs=some x):∃ z,cs=bandV z:=by
 obtain ⟨a,b,rfl⟩:=zar Tryz.underlying68 rfl rfl rfl rfl (by kernel_rfl) h;exact ⟨⟨a,b⟩,rfl⟩
theorem zjf (m:Nat) (cs:List Value) (x:DataW H×List MemPlace) (h:DataW.trod enc tp W 0 sp held m 88 cs=some x):∃ z,cs=measV z:=by
 obtain ⟨xs,n,rfl,hx,hlen,hxs,hf⟩:=DataW.trod_struct Tryz.underlying88 h;have hlen':cs.length=3:=hlen.trans (by kernel_rfl);have hxs':xs.length=3:=hxs;have c3:tp.cellsOf 3=1:=by kernel_rfl
 obtain ⟨v0,v1,v2,rfl⟩:=listN3 hlen';obtain ⟨y0,q0⟩:=yy hxs' (i:=0) dQ;obtain ⟨y1,q1⟩:=yy hxs' (i:=1) dQ;obtain ⟨y2,q2⟩:=yy hxs' (i:=2) dQ;obtain ⟨z0,e0,_⟩:=DataW.trod_int Tryz.underlying3 (yh (c:=v0) (hf 0 _ rfl) q0 (by show List.take (tp.cellsOf 3) (List.drop 0 _)=_; rw [c3]; rfl));obtain ⟨z1,e1,_⟩:=DataW.trod_int Tryz.underlying3 (yh (c:=v1) (hf 1 _ rfl) q1 (by show List.take (tp.cellsOf 3) (List.drop 1 _)=_; rw [c3]; rfl));obtain ⟨z2,e2,_⟩:=DataW.trod_int Tryz.underlying3 (yh (c:=v2) (hf 2 _ rfl) q2 (by show List.take (tp.cellsOf 3) (List.drop 2 _)=_; rw [c3]; rfl));cases e0;cases e1;cases e2;exact ⟨⟨z0,z1,z2⟩,rfl⟩
def SlIn (W:World) {α:Type} (vals:α->List Value) (c:Nat) (zs:List α) (v:Value):Prop:=∃ (b:Option Addr) (cap:Nat),v=.slice b zs.length cap/\zs.length<=cap/\(0<zs.length->∃ blk off cur e' fz,b=some ⟨blk,off,none⟩/\W.heap[blk]? =some (.cells cur e' fz) /\
   ∀ (i:Nat) z (j:Nat),zs[i]? =some z->j<c->cur[off+(i*c+j)]? =(vals z)[j]?)
theorem zh6 {v:Value} {d:DataW H} {p:List MemPlace} (hv:∃ cs,v=.agg cs) (h:DataW.Trod enc tp W 0 sp held 26 v d p):∃ (b:RBk) (v1 v2 v3:Value),v=.agg #[.int .i64 b.steps,.int .i64 b.round,.int .i64 b.roll,.int .i64 b.rolls,v1,v2,v3]/\SlIn W seamV 5 b.seams v1/\SlIn W bandV 2 b.shrinks v2/\SlIn W measV 3 b.measures v3:=by
 obtain ⟨ca,rfl⟩:=hv;obtain ⟨fuel,h⟩:=h;generalize hcs:(Value.agg ca).cells.toList=cs at h;obtain ⟨xs,n,rfl,hx,hlen,hxs,hf⟩:=DataW.trod_struct Tryz.underlying26 h;have hlen':cs.length=7:=hlen.trans (by kernel_rfl);have hxs':xs.length=7:=hxs;have c3:tp.cellsOf 3=1:=by kernel_rfl
 have c22:tp.cellsOf 22=1:=by kernel_rfl
 have c23:tp.cellsOf 23=1:=by kernel_rfl
 have c24:tp.cellsOf 24=1:=by kernel_rfl
 obtain ⟨v0,v1,v2,v3,v4,v5,v6,rfl⟩:=listN7 hlen';obtain ⟨y0,q0⟩:=yy hxs' (i:=0) dQ;obtain ⟨y1,q1⟩:=yy hxs' (i:=1) dQ;obtain ⟨y2,q2⟩:=yy hxs' (i:=2) dQ;obtain ⟨y3,q3⟩:=yy hxs' (i:=3) dQ;obtain ⟨y4,q4⟩:=yy hxs' (i:=4) dQ;obtain ⟨y5,q5⟩:=yy hxs' (i:=5) dQ;obtain ⟨y6,q6⟩:=yy hxs' (i:=6) dQ;obtain ⟨a0,e0,_⟩:=DataW.trod_int Tryz.underlying3 (yh (c:=v0) (hf 0 _ rfl) q0 (by show List.take (tp.cellsOf 3) (List.drop 0 _)=_; rw [c3]; rfl));obtain ⟨a1,e1,_⟩:=DataW.trod_int Tryz.underlying3 (yh (c:=v1) (hf 1 _ rfl) q1 (by show List.take (tp.cellsOf 3) (List.drop 1 _)=_; rw [c3]; rfl));obtain ⟨a2,e2,_⟩:=DataW.trod_int Tryz.underlying3 (yh (c:=v2) (hf 2 _ rfl) q2 (by show List.take (tp.cellsOf 3) (List.drop 2 _)=_; rw [c3]; rfl));obtain ⟨a3,e3,_⟩:=DataW.trod_int Tryz.underlying3 (yh (c:=v3) (hf 3 _ rfl) q3 (by show List.take (tp.cellsOf 3) (List.drop 3 _)=_; rw [c3]; rfl));obtain ⟨l4,b4,cap4,e4,k4,r4⟩:=wj (vals:=seamV) (c:=5) Tryz.underlying22 (by kernel_rfl) dQ zjg (yh (c:=v4) (hf 4 _ rfl) q4 (by show List.take (tp.cellsOf 22) (List.drop 4 _)=_; rw [c22]; rfl));obtain ⟨l5,b5,cap5,e5,k5,r5⟩:=wj (vals:=bandV) (c:=2) Tryz.underlying23 (by kernel_rfl) dQ zje (yh (c:=v5) (hf 5 _ rfl) q5 (by show List.take (tp.cellsOf 23) (List.drop 5 _)=_; rw [c23]; rfl));obtain ⟨l6,b6,cap6,e6,k6,r6⟩:=wj (vals:=measV) (c:=3) Tryz.underlying24 (by kernel_rfl) dQ zjf (yh (c:=v6) (hf 6 _ rfl) q6 (by show List.take (tp.cellsOf 24) (List.drop 6 _)=_; rw [c24]; rfl));cases e0; cases e1; cases e2; cases e3; cases e4; cases e5; cases e6;refine ⟨⟨a0,a1,a2,a3,l4,l5,l6⟩,_,_,_,?_,⟨b4,cap4,rfl,k4,r4⟩,⟨b5,cap5,rfl,k5,r5⟩,⟨b6,cap6,rfl,k6,r6⟩⟩;have:ca.toList=_:=hcs;rw [<- Array.toArray_toList (xs:=ca),this]
end
def locV:Value->Loc3
 | .slice (some a) _ _=>⟨a.block,a.off,0⟩
 | _=>⟨0,0,0⟩
def holdAll (W:World):Hp:=fun b=>(W.heap[b]?).map fun o=>(false,o)
theorem zeg (W:World):z6 (holdAll W) W:=fun b rw' o h=>by
 unfold holdAll at h;obtain ⟨x,h1,h2⟩:=mY.1 h;cases h2;exact h1
theorem vh {W:World} {b:Nat} {o:Obj} (h:W.heap[b]? =some o):holdAll W b=some (false,o):=by unfold holdAll; rw [h]; rfl
theorem zd0 {α:Type} {f:α->List AV} {c:Nat} (hc:∀ x,(f x).length=c):∀ (zs:List α) (j:Nat) a,(zs.flatMap f)[j]? =some a->∃ i z jj,zs[i]? =some z/\jj<c/\j=i*c+jj/\(f z)[jj]? =some a
 | [],j,a,h=>by simp at h
 | z::zs,j,a,h=>by
  rw [List.flatMap_cons] at h;rcases mR j c with hj | hj
  ·rw [lG (by rw [hc]; exact hj)] at h;exact ⟨0,z,j,rfl,hj,oQ,h⟩
  ·rw [lO (by rw [hc]; exact hj),hc] at h;obtain ⟨i,y,jj,h1,h2,h3,h4⟩:=zd0 hc zs _ a h;exact ⟨i+1,y,jj,h1,h2,by rw [Nat.succ_mul]; omega,h4⟩
theorem vc {W:World} {α:Type} {vals:α->List Value} {f:α->List AV} {c:Nat} {zs:List α} {v:Value} {φ:Nat->Loc3} {n:Nat} {e:TypeId} (h:SlIn W vals c zs v) (hc:∀ x,(f x).length=c)
  (hrel:∀ z (jj:Nat) a,(f z)[jj]? =some a->∃ y,(vals z)[jj]? =some y/\RelV φ n a y):RelO φ n (locV v) (holdAll W) (.cells (zs.flatMap f) e false):=by
 intro hne;obtain ⟨b,cap,rfl,hle,hq⟩:=h;have hpos:0<zs.length:=by
  rcases mP zs.length with h0 | h0
  ·rw [List.eq_nil_of_length_eq_zero h0] at hne; exact absurd rfl hne
  ·exact h0
 obtain ⟨blk,off,cur,e',fz,rfl,hh,hcell⟩:=hq hpos;refine ⟨false,cur,(e',fz),vh hh,(fun h=>by cases h),fun j a ha=>?_⟩;obtain ⟨i,z,jj,h1,h2,rfl,h4⟩:=zd0 hc zs j a ha;obtain ⟨y,h5,h6⟩:=hrel z jj a h4;exact ⟨y,(hcell i z jj h1 h2).trans h5,h6⟩
theorem vd {W:World} {α:Type} {vals:α->List Value} {c:Nat} {zs:List α} {v:Value} {φ:Nat->Loc3} {n i:Nat} (h:SlIn W vals c zs v) (hi:i<n) (hφ:φ i=locV v):RelV φ n (.sl i 0 zs.length) v:=by
 obtain ⟨b,cap,rfl,hle,hq⟩:=h;refine .sl hi hle fun hpos=>?_;obtain ⟨blk,off,cur,e',fz,rfl,_⟩:=hq hpos;rw [hφ];rfl
theorem zj9 {φ:Nat->Loc3} {n:Nat} (z) (jj:Nat) (a:AV) (h:(seamC z)[jj]? =some a):∃ y,(seamV z)[jj]? =some y/\RelV φ n a y:=by
 match jj,h with
 | 0,h=>cases h; exact ⟨_,rfl,.v _⟩
 | 1,h=>cases h; exact ⟨_,rfl,.v _⟩
 | 2,h=>cases h; exact ⟨_,rfl,.v _⟩
 | 3,h=>cases h; exact ⟨_,rfl,.v _⟩
 | 4,h=>cases h; exact ⟨_,rfl,.v _⟩
 | jj+5,h=>simp [seamC] at h
theorem zi3 {φ:Nat->Loc3} {n:Nat} (z) (jj:Nat) (a:AV) (h:(bandC z)[jj]? =some a):∃ y,(bandV z)[jj]? =some y/\RelV φ n a y:=by
 match jj,h with
 | 0,h=>cases h; exact ⟨_,rfl,.v _⟩
 | 1,h=>cases h; exact ⟨_,rfl,.v _⟩
 | jj+2,h=>simp [bandC] at h
theorem zjH {φ:Nat->Loc3} {n:Nat} (z) (jj:Nat) (a:AV) (h:(yd z)[jj]? =some a):∃ y,(measV z)[jj]? =some y/\RelV φ n a y:=by
 match jj,h with
 | 0,h=>cases h; exact ⟨_,rfl,.v _⟩
 | 1,h=>cases h; exact ⟨_,rfl,.v _⟩
 | 2,h=>cases h; exact ⟨_,rfl,.v _⟩
 | jj+3,h=>simp [yd] at h
theorem wR {φ:Nat->Loc3} {n f:Nat}:RelV φ n (.fn f [] []) (.func (.func f) #[] #[]):=.fn rfl (fun j a y h=>by simp at h) rfl (fun j a y h=>by simp at h)
theorem zlE {W:World} {φ:Nat->Loc3} {n g f1 f2 f3 f4:Nat} {e:TypeId} (h:∃ cur e fz,W.heap[g]? =some (.cells cur e fz)/\cur[0]? =some (.func (.func f1) #[] #[])/\cur[1]? =some (.func (.func f2) #[] #[])/\cur[2]? =some (.func (.func f3) #[] #[])/\cur[3]? =some (.func (.func f4) #[] #[])):RelO φ n ⟨g,0,0⟩ (holdAll W) (.cells [.fn f1 [] [],.fn f2 [] [],.fn f3 [] [],.fn f4 [] []] e false):=by
 intro _;obtain ⟨cur,e',fz,hh,h0,h1,h2,h3⟩:=h;refine ⟨false,cur,(e',fz),vh hh,(fun h=>by cases h),fun j a ha=>?_⟩
 match j,ha with
 | 0,ha=>cases ha; exact ⟨_,h0,wR⟩
 | 1,ha=>cases ha; exact ⟨_,h1,wR⟩
 | 2,ha=>cases ha; exact ⟨_,h2,wR⟩
 | 3,ha=>cases ha; exact ⟨_,h3,wR⟩
 | j+4,ha=>simp at ha
theorem zi6 {W:World} {b:RBk} {x1 x2 x3:Value} {φ:Nat->Loc3} {n s h e:Nat} (h1:SlIn W seamV 5 b.seams x1) (h2:SlIn W bandV 2 b.shrinks x2) (h3:SlIn W measV 3 b.measures x3) (q1:s<n/\φ s=locV x1) (q2:h<n/\φ h=locV x2) (q3:e<n/\φ e=locV x3) :
  RelV φ n (.agg (zA b s h e)) (.agg #[.int .i64 b.steps,.int .i64 b.round,.int .i64 b.roll,.int .i64 b.rolls,x1,x2,x3]):=by
 refine .agg Z fun t u z hu hz=>?_
 match t,hu,hz with
 | 0,hu,hz=>cases hu; cases hz; exact .v _
 | 1,hu,hz=>cases hu; cases hz; exact .v _
 | 2,hu,hz=>cases hu; cases hz; exact .v _
 | 3,hu,hz=>cases hu; cases hz; exact .v _
 | 4,hu,hz=>cases hu; cases hz; exact vd h1 q1.1 q1.2
 | 5,hu,hz=>cases hu; cases hz; exact vd h2 q2.1 q2.2
 | 6,hu,hz=>cases hu; cases hz; exact vd h3 q3.1 q3.2
 | t+7,hu,hz=>simp [zA] at hu
def KeptAll (W w:World):Prop:=∀ i,i<W.heap.size->w.heap[i]? =W.heap[i]?
def startA (W:World) (objs:List AObj):List AObj:=objs++W.heap.toList.map .ro
def startP (n:Nat) (f:Nat->Loc3):Nat->Loc3:=fun i=>if i<n then f i else ⟨i - n,0,0⟩
theorem wN {n i:Nat} {f:Nat->Loc3} (h:i<n):startP n f i=f i:=by unfold startP; rw [if_pos h]
theorem zcm {W:World} {objs:List AObj} {i:Nat} {o:AObj} (h:(startA W objs)[i]? =some o):(i<objs.length/\objs[i]? =some o)\/∃ q,objs.length<=i/\o=.ro q/\W.heap[i - objs.length]? =some q:=by
 unfold startA at h;rcases mR i objs.length with hl | hl
 ·rw [lG hl] at h; exact .inl ⟨hl,h⟩
 ·rw [lO hl,lQ] at h;obtain ⟨q,hq,rfl⟩:=mY.1 h;exact .inr ⟨q,hl,rfl,by simpa using hq⟩
theorem zj7 {W:World} {g:FuncId} {fn:Func} {c:Code} {args:List AV} {vs:Array Value} {K:KV} {objs:List AObj} {f:Nat->Loc3} (hf:tp.funcs[g]? =some fn) (hb:fn.body=some c) (hi:tp.inits.idxOf? g=none)
  (ht:Top tp gmR g args K (fun r _=>r=zF true)) (hK:∀ x∈K,objs[x.1]? =some x.2) (hn:(keys K).Nodup) (h0:f 0=⟨0,0,0⟩) (h1':f 1=⟨1,0,0⟩) (hpos:1<objs.length) (hx:∀ o∈objs,o.excl=false)
  (ho:∀ (φ:Nat->Loc3) n (i:Nat) o,objs[i]? =some o->RelO φ n (f i) (holdAll W) o)
  (hv:∀ (φ:Nat->Loc3) n,(∀ i,i<objs.length->i<n/\φ i=f i)->zM φ n args vs) :
  ∃ M last o w' t',runNT tp (M+1) (solo (G (Frame.enter tp g vs .normal) []) W) #[]=(.ended o w',t') /\
   runN tp M (solo (G (Frame.enter tp g vs .normal) []) W)=.next last /\
   step tp last=.ended o w'/\Conc.Good tp (fun v w=>v=.bool true/\OsLater W.os w.os/\w.output=W.output/\KeptAll W w) last o w' t':=by
 refine zjv (R:=fun v w=>v=.bool true/\KeptAll W w) (R':=fun v w=>v=.bool true/\OsLater W.os w.os/\w.output=W.output/\KeptAll W w) hf hb hi (fun v w' ho hu hr=>⟨hr.1,ho,hu,hr.2⟩) (fun v w d h=>h) (zeg W) ?_;have hlen:(startA W objs).length=objs.length+W.heap.size:=by simp [startA]
 have hex:∀ (i:Nat) o,(startA W objs)[i]? =some o->o.excl=false:=fun i o h=>by
  rcases zcm h with ⟨_,h⟩ | ⟨q,_,rfl,_⟩
  ·exact hx o (List.mem_of_getElem? h)
  ·rfl
 refine ht _ (startA W objs) (startP objs.length f) (holdAll W) vs (fun x hxK=>?_) hn (fun g i hg=>?_) ⟨fun i o h=>?_,fun i j o o' hi _ _ he=>?_,(fun b x h=>by cases h),fun i o hi he _=>?_⟩ (hv _ _ fun i hi=>⟨by omega,wN hi⟩) ?_
 ·have:=hK x hxK;obtain ⟨hl,_⟩:=lD.1 this;show (objs++_)[x.1]? =_;rw [lG hl];exact this
 ·match g,hg with
  | 0,hg=>cases hg; exact ⟨by omega,by rw [wN oQ,h0],by rw [wN oQ,h0]⟩
  | 1,hg=>cases hg; exact ⟨by omega,by rw [wN hpos,h1'],by rw [wN hpos,h1']⟩
  | g+2,hg=>cases hg
 ·rcases zcm h with ⟨hl,hq⟩ | ⟨q,hl,rfl,hq⟩
  ·rw [wN hl]; exact ho _ _ i o hq
  ·refine ⟨false,?_⟩;rw [show (startP objs.length f i).blk=i - objs.length by unfold startP; rw [if_neg oQ]];exact vh hq
 ·rw [hex i o hi] at he; cases he
 ·rfl
 ·rintro r K' φ' A' H' v w rfl hk ha hH' hv' hfit;refine ⟨inv_v hv',fun i hi=>?_⟩;have hh:=Array.getElem?_eq_getElem hi;have hA:(startA W objs)[objs.length+i]? =some (.ro W.heap[i]):=by
   unfold startA;rw [lO oQ,lQ,show objs.length+i - objs.length=i by omega];simp [hi]
  have hA':=(hk (objs.length+i) oQ (fun hm=>by
   obtain ⟨x,hx,e⟩:=List.mem_map.1 hm;obtain ⟨hl,_⟩:=lD.1 (hK x hx);omega)).trans hA
  obtain ⟨rw',hb⟩:=hH'.obj _ _ hA';rw [ha _ (show objs.length+i<_ by omega)] at hb;rw [show (startP objs.length f (objs.length+i)).blk=i by unfold startP; rw [if_neg oQ]; show objs.length+i - objs.length=i; omega] at hb;rw [hh];exact hfit i _ _ hb
theorem and32 {a1 a2 a3 a4 a5 a6 a7 a8 a9 a10 a11 a12 a13 a14 a15 a16 a17 a18 a19 a20 a21 a22 a23 a24 a25 a26 a27 a28 a29 a30 a31 a32:Bool} (h1:a1=true) (h2:a2=true) (h3:a3=true) (h4:a4=true) (h5:a5=true) (h6:a6=true) (h7:a7=true) (h8:a8=true) (h9:a9=true) (h10:a10=true) (h11:a11=true) (h12:a12=true) (h13:a13=true) (h14:a14=true) (h15:a15=true) (h16:a16=true) (h17:a17=true) (h18:a18=true) (h19:a19=true) (h20:a20=true) (h21:a21=true) (h22:a22=true) (h23:a23=true) (h24:a24=true) (h25:a25=true) (h26:a26=true) (h27:a27=true) (h28:a28=true) (h29:a29=true) (h30:a30=true) (h31:a31=true) (h32:a32=true):(a1&&a2&&a3&&a4&&a5&&a6&&a7&&a8&&a9&&a10&&a11&&a12&&a13&&a14&&a15&&a16&&a17&&a18&&a19&&a20&&a21&&a22&&a23&&a24&&a25&&a26&&a27&&a28&&a29&&a30&&a31&&a32)=true:=by
 rw [h1,h2,h3,h4,h5,h6,h7,h8,h9,h10,h11,h12,h13,h14,h15,h16,h17,h18,h19,h20,h21,h22,h23,h24,h25,h26,h27,h28,h29,h30,h31,h32];rfl
theorem kf3:mapsRowed tp=true:=by kernel_rfl
theorem kf7:(tp.stops==[])=true:=by kernel_rfl
theorem kf9:(tp.stopKnobs==[])=true:=by kernel_rfl
theorem kf25:tp.stopsHeard=true:=by kernel_rfl
theorem kf26:tp.mayEnter=true:=by kernel_rfl
theorem kf27:(Go.Proofs.YtfplagcfmdkakaaGreatDoor.Rows.rollBrokenRow.lifted==tp.liftsFinal)=true:=by kernel_rfl
theorem kf28:(tp.make==some Go.Proofs.YtfplagcfmdkakaaGreatDoor.Rows.rollBrokenRow.make)=true:=by kernel_rfl
theorem kf23:(Go.Proofs.YtfplagcfmdkakaaGreatDoor.Rows.rollBrokenRow.plainKeys==tp.plainKeys)=true:=by kernel_rfl
theorem own:ownKnob tp.godebug=none:=by kernel_rfl
set_option maxRecDepth 100000 in
theorem zjh (os:Os) (args:Array Value):laidMetH tp tblLaid ((World.doorLaid tp 400 os).forCall (fun _ _=>0) ⟨#[],args,[]⟩).memory :=
 laidMetH_of_parts3 (fuel:=8) (laidMet_nil _ _) (by kernel_rfl) (by kernel_rfl)
theorem zjz {W w:World} (ho:w.os=W.os) (hu:w.output=W.output) (hk:KeptAll W w) (may:MemPlace->Prop):W.keptBut w may:=by
 refine ⟨ho,hu,fun i hi=>?_⟩;rw [hk i hi];cases W.heap[i]? with
 | none=>rfl
 | some o=>cases o <;> simp
theorem zlz {W w:World} (hk:KeptAll W w) {p:MemPlace} (hp:p.block<W.heap.size):W.sameAt w p:=by
 have:=hk p.block hp;cases p with
 | cell b o=>exact World.cell?_of_block (w:=W) this
 | map b=>exact this
theorem okAgg {P:Program} {W:World} {base:Nat} {t:TypeId} {fs:Array Field} {v:Value} (ht:P.underlying t=some (.struct fs)) (h:Value.okWide P W .any base t v):∃ cs,v=.agg cs:=by
 unfold Value.okWide at h;rw [ht] at h;obtain ⟨cs,h1,_⟩:=h;exact ⟨cs,h1⟩
theorem vT:laidOutB tp=true:=by kernel_rfl
theorem ul {H:Type} {enc:TypeId×Value->H} {W w:World} {t:TypeId} {v:Value} {d:DataW H} {p:List MemPlace} (hl:laidOutB Tryz.prog=true) (h:DataW.Trod enc Tryz.prog W 0 (fun _=>true) true t v d p) (hk:KeptAll W w) (hr:Tryz.prog.readableRec t=true:=by kernel_rfl) (hrow:decide (t<Tryz.prog.types.size)=true:=by kernel_rfl):DataW.Trod enc Tryz.prog w 0 (fun b=>decide (b<W.heap.size)) true t v d p:=by
 have hlt:∀ x∈p,x.block<W.heap.size:=by obtain ⟨n,hn⟩:=h; exact DataW.trod_lt n t _ _ hn
 exact WideElems.Trod_stays hl hr (of_decide_eq_true hrow) h (fun x hx=>zlz hk (hlt x hx)) (fun x hx=>by simpa using hlt x hx)
theorem u8_wf {k:Int} (h:(Lit.int IntKind.u8 k).wf=true):0<=k/\k<256:=by
 simp only [Lit.wf,Bool.and_eq_true,decide_eq_true_eq] at h;have h1:IntKind.u8.min=0:=by decide
 have h2:IntKind.u8.max=255:=by decide
 omega
theorem zkh {W:World} {φ:Nat->Loc3} {n g f1 f2 f3 f4 f5:Nat} {e:TypeId} (h:∃ cur e fz,W.heap[g]? =some (.cells cur e fz)/\cur[0]? =some (.func (.func f1) #[] #[])/\cur[1]? =some (.func (.func f2) #[] #[])/\cur[2]? =some (.func (.func f3) #[] #[])/\cur[3]? =some (.func (.func f4) #[] #[])/\cur[4]? =some (.func (.func f5) #[] #[])):RelO φ n ⟨g,0,0⟩ (holdAll W) (.cells [.fn f1 [] [],.fn f2 [] [],.fn f3 [] [],.fn f4 [] [],.fn f5 [] []] e false):=by
 intro _;obtain ⟨cur,e',fz,hh,h0,h1,h2,h3,h4⟩:=h;refine ⟨false,cur,(e',fz),vh hh,(fun h=>by cases h),fun j a ha=>?_⟩
 match j,ha with
 | 0,ha=>cases ha; exact ⟨_,h0,wR⟩
 | 1,ha=>cases ha; exact ⟨_,h1,wR⟩
 | 2,ha=>cases ha; exact ⟨_,h2,wR⟩
 | 3,ha=>cases ha; exact ⟨_,h3,wR⟩
 | 4,ha=>cases ha; exact ⟨_,h4,wR⟩
 | j+5,ha=>simp at ha
def ptV (x:TPt):List Value:=[.int .i64 x.far,.int .i64 x.high]
def prV (x:TPr):List Value:=[.int .i64 x.place,.int .i64 x.tall]
def eyV (x:TEy):List Value:=[.int .i64 x.back,.int .i64 x.lo,.int .i64 x.hi]
def tdV (x:TTd):List Value:=[.int .i64 x.eye,.bool x.saw]
def pairV (x:Int×Int):List Value:=[.int .i64 x.1,.int .i64 x.2]
theorem list8C {α:Type} {l:List α} (h:l.length=8):∃ v0 v1 v2 v3 v4 v5 v6 v7,l=[v0,v1,v2,v3,v4,v5,v6,v7]:=by
 match l,h with
 | [v0,v1,v2,v3,v4,v5,v6,v7],_=>exact ⟨v0,v1,v2,v3,v4,v5,v6,v7,rfl⟩
section
variable {H:Type} {enc:TypeId×Value->H} {W:World} {sp:Nat->Bool} {held:Bool}
theorem zc6 {P:Program} {n:Nat} {t:TypeId} {y:Option (DataW H×List MemPlace)} {z:DataW H×List MemPlace} {l l':List Value} (h:DataW.trod enc P W 0 sp held n t l=y) (hy:y=some z) (hl:l=l'):DataW.trod enc P W 0 sp held n t l'=some z:=by rw [<- hl,h,hy]
theorem zlW (m:Nat) (cs:List Value) (x:DataW H×List MemPlace) (h:DataW.trod enc tp W 0 sp held m 39 cs=some x):∃ z,cs=ptV z:=by
 obtain ⟨a,b,rfl⟩:=zar Tryz.underlying39 rfl rfl rfl rfl (by kernel_rfl) h;exact ⟨⟨a,b⟩,rfl⟩
theorem zlV (m:Nat) (cs:List Value) (x:DataW H×List MemPlace) (h:DataW.trod enc tp W 0 sp held m 93 cs=some x):∃ z,cs=prV z:=by
 obtain ⟨a,b,rfl⟩:=zar Tryz.underlying93 rfl rfl rfl rfl (by kernel_rfl) h;exact ⟨⟨a,b⟩,rfl⟩
theorem zlX (m:Nat) (cs:List Value) (x:DataW H×List MemPlace) (h:DataW.trod enc tp W 0 sp held m 180 cs=some x):∃ z,cs=tdV z:=by
 obtain ⟨xs,n,rfl,hx,hlen,hxs,hf⟩:=DataW.trod_struct Tryz.underlying180 h;have hlen':cs.length=2:=hlen.trans (by kernel_rfl);have hxs':xs.length=2:=hxs;have c3:tp.cellsOf 3=1:=by kernel_rfl
 have c4:tp.cellsOf 4=1:=by kernel_rfl
 obtain ⟨v0,v1,rfl⟩:=listN2 hlen';obtain ⟨y0,q0⟩:=yy hxs' (i:=0) dQ;obtain ⟨y1,q1⟩:=yy hxs' (i:=1) dQ;obtain ⟨z0,e0,_⟩:=DataW.trod_int Tryz.underlying3 (yh (c:=v0) (hf 0 _ rfl) q0 (by show List.take (tp.cellsOf 3) (List.drop 0 _)=_; rw [c3]; rfl));obtain ⟨z1,e1,_⟩:=DataW.trod_bool Tryz.underlying4 (yh (c:=v1) (hf 1 _ rfl) q1 (by show List.take (tp.cellsOf 4) (List.drop 1 _)=_; rw [c4]; rfl));cases e0;cases e1;exact ⟨⟨z0,z1⟩,rfl⟩
theorem zgH (m:Nat) (cs:List Value) (x:DataW H×List MemPlace) (h:DataW.trod enc tp W 0 sp held m 68 cs=some x):∃ z,cs=pairV z:=by
 obtain ⟨a,b,rfl⟩:=zar Tryz.underlying68 rfl rfl rfl rfl (by kernel_rfl) h;exact ⟨⟨a,b⟩,rfl⟩
theorem zgG (m:Nat) (cs:List Value) (x:DataW H×List MemPlace) (h:DataW.trod enc tp W 0 sp held m 28 cs=some x):∃ z,cs=pairV z:=by
 obtain ⟨a,b,rfl⟩:=zar Tryz.underlying28 rfl rfl rfl rfl (by kernel_rfl) h;exact ⟨⟨a,b⟩,rfl⟩
theorem zlU (m:Nat) (cs:List Value) (x:DataW H×List MemPlace) (h:DataW.trod enc tp W 0 sp held m 175 cs=some x):∃ z,cs=eyV z:=by
 obtain ⟨xs,n,rfl,hx,hlen,hxs,hf⟩:=DataW.trod_struct Tryz.underlying175 h;have hlen':cs.length=3:=hlen.trans (by kernel_rfl);have hxs':xs.length=2:=hxs;have c3:tp.cellsOf 3=1:=by kernel_rfl
 have cB:tp.cellsOf 68=2:=by kernel_rfl
 obtain ⟨v0,v1,v2,rfl⟩:=listN3 hlen';obtain ⟨y0,q0⟩:=yy hxs' (i:=0) dQ;obtain ⟨y1,q1⟩:=yy hxs' (i:=1) dQ;obtain ⟨z0,e0,_⟩:=DataW.trod_int Tryz.underlying3 (yh (c:=v0) (hf 0 _ rfl) q0 (by show List.take (tp.cellsOf 3) (List.drop 0 _)=_; rw [c3]; rfl));obtain ⟨z1,e1⟩:=zgH _ _ _ (zc6 (l':=[v1,v2]) (hf 1 _ rfl) q1 (by show List.take (tp.cellsOf 68) (List.drop 1 _)=_; rw [cB]; rfl));cases e0; cases e1;exact ⟨⟨z0,z1.1,z1.2⟩,rfl⟩
theorem zh7 {v:Value} {d:DataW H} {p:List MemPlace} (hv:∃ cs,v=.agg cs) (h:DataW.Trod enc tp W 0 sp held 34 v d p):∃ (b:TrB) (tl:List TTd) (v1 v2 v3 v4:Value),v=.agg #[.int .i64 b.canvas,.int .i64 b.paint,.int .i64 b.fine.num,.int .i64 b.fine.den,v1,v2,v3,v4]/\SlIn W ptV 2 b.earth v1/\SlIn W prV 2 b.props v2/\SlIn W eyV 3 b.eyes v3/\SlIn W tdV 2 tl v4:=by
 obtain ⟨ca,rfl⟩:=hv;obtain ⟨fuel,h⟩:=h;generalize hcs:(Value.agg ca).cells.toList=cs at h;obtain ⟨xs,n,rfl,hx,hlen,hxs,hf⟩:=DataW.trod_struct Tryz.underlying34 h;have hlen':cs.length=8:=hlen.trans (by kernel_rfl);have hxs':xs.length=7:=hxs;have c3:tp.cellsOf 3=1:=by kernel_rfl
 have c28:tp.cellsOf 28=2:=by kernel_rfl
 have c29:tp.cellsOf 29=1:=by kernel_rfl
 have c30:tp.cellsOf 30=1:=by kernel_rfl
 have c31:tp.cellsOf 31=1:=by kernel_rfl
 have c32:tp.cellsOf 32=1:=by kernel_rfl
 obtain ⟨v0,v1,v2,v3,v4,v5,v6,v7,rfl⟩:=list8C hlen';obtain ⟨y0,q0⟩:=yy hxs' (i:=0) dQ;obtain ⟨y1,q1⟩:=yy hxs' (i:=1) dQ;obtain ⟨y2,q2⟩:=yy hxs' (i:=2) dQ;obtain ⟨y3,q3⟩:=yy hxs' (i:=3) dQ;obtain ⟨y4,q4⟩:=yy hxs' (i:=4) dQ;obtain ⟨y5,q5⟩:=yy hxs' (i:=5) dQ;obtain ⟨y6,q6⟩:=yy hxs' (i:=6) dQ;obtain ⟨a0,e0,_⟩:=DataW.trod_int Tryz.underlying3 (yh (c:=v0) (hf 0 _ rfl) q0 (by show List.take (tp.cellsOf 3) (List.drop 0 _)=_; rw [c3]; rfl));obtain ⟨a1,e1,_⟩:=DataW.trod_int Tryz.underlying3 (yh (c:=v1) (hf 1 _ rfl) q1 (by show List.take (tp.cellsOf 3) (List.drop 1 _)=_; rw [c3]; rfl));obtain ⟨a2,e2⟩:=zgG _ _ _ (zc6 (l':=[v2,v3]) (hf 2 _ rfl) q2 (by show List.take (tp.cellsOf 28) (List.drop 2 _)=_; rw [c28]; rfl));obtain ⟨a3,b3,cap3,e3,l3,r3⟩:=wj (vals:=ptV) (c:=2) Tryz.underlying29 (by kernel_rfl) dQ zlW (yh (c:=v4) (hf 3 _ rfl) q3 (by show List.take (tp.cellsOf 29) (List.drop 4 _)=_; rw [c29]; rfl));obtain ⟨a4,b4,cap4,e4,l4,r4⟩:=wj (vals:=prV) (c:=2) Tryz.underlying30 (by kernel_rfl) dQ zlV (yh (c:=v5) (hf 4 _ rfl) q4 (by show List.take (tp.cellsOf 30) (List.drop 5 _)=_; rw [c30]; rfl));obtain ⟨a5,b5,cap5,e5,l5,r5⟩:=wj (vals:=eyV) (c:=3) Tryz.underlying31 (by kernel_rfl) dQ zlU (yh (c:=v6) (hf 5 _ rfl) q5 (by show List.take (tp.cellsOf 31) (List.drop 6 _)=_; rw [c31]; rfl));obtain ⟨a6,b6,cap6,e6,l6,r6⟩:=wj (vals:=tdV) (c:=2) Tryz.underlying32 (by kernel_rfl) dQ zlX (yh (c:=v7) (hf 6 _ rfl) q6 (by show List.take (tp.cellsOf 32) (List.drop 7 _)=_; rw [c32]; rfl));cases e0; cases e1; cases e2; cases e3; cases e4; cases e5; cases e6;refine ⟨⟨a0,a1,⟨a2.1,a2.2⟩,a3,a4,a5⟩,a6,_,_,_,_,?_,⟨b3,cap3,rfl,l3,r3⟩,⟨b4,cap4,rfl,l4,r4⟩,⟨b5,cap5,rfl,l5,r5⟩,⟨b6,cap6,rfl,l6,r6⟩⟩;have:ca.toList=_:=hcs;rw [<- Array.toArray_toList (xs:=ca),this]
end
theorem zmO {φ:Nat->Loc3} {n:Nat} (z) (jj:Nat) (a:AV) (h:(ptC z)[jj]? =some a):∃ y,(ptV z)[jj]? =some y/\RelV φ n a y:=by
 match jj,h with
 | 0,h=>cases h; exact ⟨_,rfl,.v _⟩
 | 1,h=>cases h; exact ⟨_,rfl,.v _⟩
 | jj+2,h=>simp [ptC] at h
theorem zmM {φ:Nat->Loc3} {n:Nat} (z) (jj:Nat) (a:AV) (h:(prC z)[jj]? =some a):∃ y,(prV z)[jj]? =some y/\RelV φ n a y:=by
 match jj,h with
 | 0,h=>cases h; exact ⟨_,rfl,.v _⟩
 | 1,h=>cases h; exact ⟨_,rfl,.v _⟩
 | jj+2,h=>simp [prC] at h
theorem zl0 {φ:Nat->Loc3} {n:Nat} (z) (jj:Nat) (a:AV) (h:(eyC z)[jj]? =some a):∃ y,(eyV z)[jj]? =some y/\RelV φ n a y:=by
 match jj,h with
 | 0,h=>cases h; exact ⟨_,rfl,.v _⟩
 | 1,h=>cases h; exact ⟨_,rfl,.v _⟩
 | 2,h=>cases h; exact ⟨_,rfl,.v _⟩
 | jj+3,h=>simp [eyC] at h
theorem zm1 {φ:Nat->Loc3} {n:Nat} (z) (jj:Nat) (a:AV) (h:(tdC z)[jj]? =some a):∃ y,(tdV z)[jj]? =some y/\RelV φ n a y:=by
 match jj,h with
 | 0,h=>cases h; exact ⟨_,rfl,.v _⟩
 | 1,h=>cases h; exact ⟨_,rfl,.v _⟩
 | jj+2,h=>simp [tdC] at h
theorem zfg {H:Type} {enc:TypeId×Value->H} {C:Checked} {os:Os} {f:FuncId} {fn:Func} {s:ChangeSpec} {conds:List PathCond} {apart:Bool} {X:World->Array Value->Prop} (w0:World) (args:Array Value) (fuel:Nat) (hos:w0.os=os)
  (hsh:(w0.forCall (fun _ _=>0) ⟨#[],args,[]⟩).Shaped C.prog)
  (hok:Input.okWideB C.prog (w0.forCall (fun _ _=>0) ⟨#[],args,[]⟩) f ⟨#[],args,[]⟩=true)
  (hpre:s.preB enc C.prog fn conds apart (w0.forCall (fun _ _=>0) ⟨#[],args,[]⟩).memory args fuel=true)
  (hsz:s.sizedB enc C.prog fn apart (w0.forCall (fun _ _=>0) ⟨#[],args,[]⟩).memory args fuel=true)
  (hx:X (w0.forCall (fun _ _=>0) ⟨#[],args,[]⟩).memory args) :
  ∃ (w:World) (tape:Tape) (i:Input),w.os=os/\(w.forCall tape i).Shaped C.prog/\i.vars=[]/\Input.okWide C.prog (w.forCall tape i) .any w.heap.size f i /\
   ((s.pre enc C.prog fn conds apart (w.forCall tape i).memory i.args/\X (w.forCall tape i).memory i.args)/\sizedMet enc C.prog fn (OpenSpec.ofChange s) apart (w.forCall tape i).memory i.args)/\({ calm:=true }:Assume).holds C.prog (lone (Frame.enter C.prog f i.args .normal) [] (w.forCall tape i)) :=
 ⟨w0,fun _ _=>0,⟨#[],args,[]⟩,hos,hsh,(Input.okWide_of_okWideB (base:=0) hok).1,(Input.okWide_of_okWideB hok).2,⟨⟨ChangeSpec.pre_of_preB hpre,hx⟩,sizedMet_of_sizedB hsz⟩,by
  simp only [Assume.holds];exact ⟨by simp,fun _ _ _ _=>rfl,by simp,by simp,by simp⟩⟩
theorem zkB (Lk:Looks) {p:Pinned} {s:OpenSpec} {c:OpenClaim} (kinds:List LaidKind) (tests:Bool) (har:Bool×String) (lk:Bool)
  (hc:c.holds p s) (hw:c.wfByText s=true)
  (htie:c.laidByTextAt Lk p kinds tests)
  (hst:c.start=.entering) (hnb:c.noBlocks=false/\c.again=false) (hm:p.checked.prog.mainIs=some (har.1,har.2.toList)) (hn:(!har.1&&har.2.isEmpty && !lk)=false)
  (hl:∀ f fn,p.checked.prog.funcNamed c.func=some f->p.checked.prog.funcs[f]? =some fn->lk=p.checked.prog.looks []/\∀ (j:Nat) t,fn.params[j]? =some t->p.checked.prog.wantsStandIn t=false)
  (hg:true=c.goesBy p.checked.prog) :
  Claim7.holds p (.plain s) { stood:={ row:=c,standIns:=[],harness:=har,looks:=lk },kinds:=[],alts:=[],goes:=true,laidByText:=true,laidKinds:=kinds,laidTests:=tests,laidLooks:=Lk }:=by
 have h6:∀ r:OpenClaim,Claim7.isSixth { stood:={ row:=r,standIns:=[],harness:=har,looks:=lk },kinds:=[] }=false:=fun r=>by simpa [Claim7.isSixth] using hn
 exact ⟨Claim7.tied_new_at Lk kinds tests (Claim7.new_of_sixth hc har lk hst hnb hm (h6 c) hl) hw,(fun D hD=>by cases hD),htie,(fun h=>by cases h),hg⟩
end Go.Vel
end
