/- Texts for the statements of chapter 8: what all of them need, part 8. It holds of every program, tape and world that the statements name, as each theorem says. -/
import Derived.Test.YtamcohjpanjdiaaGreatDoorJ5
import Derived.Test.YtamcohjpanjdiaaGreatDoorJ6
section
set_option linter.all false
set_option maxRecDepth 20000
set_option maxHeartbeats 60000000
open Go.Proofs.Tryz renaming prog -> tp
open List renaming getElem?_eq_getElem -> lA, nil_append -> lC, getD_eq_getElem?_getD -> lE, length_append -> lF, length_map -> lJ, eq_nil_of_length_eq_zero -> lK, map_append -> lM, mem_of_getElem? -> lN, append_nil -> lR, mem_singleton -> lS, mem_append -> lT, take_length -> lW, length_cons -> lZ, replicate -> mB
open List.Mem renaming head -> mC
open Array renaming getElem?_eq_getElem -> mD
open Nat renaming le_refl -> mL, zero_le -> mN, zero_add -> mO, eq_zero_or_pos -> mP
open Go.Vel.TK renaming maskL -> bA, rt -> bB, kp -> bC, cl -> bD, loopN -> bE, na -> bG, a -> bH, newR -> bI, dq -> bL, appR -> bO, frzRow -> bY
open Go.Vel.TD renaming cl -> bQ, s -> bR, norm -> bS, y -> bT, cnewR -> bV, cnewP -> bX
namespace Go.Vel
open Go Go.Conc
theorem zaD:∀ (x y:List Int),lexM x y = -lexM y x
 | [],[]=>rfl
 | [],_::_=>rfl
 | _::_,[]=>rfl
 | a::x,b::y=>by
  have:=zaD x y;simp only [lexM];by_cases h1:a<b
  ·rw [if_pos h1,if_neg oQ,if_pos h1]
  ·rw [if_neg h1];by_cases h2:b<a
   ·rw [if_pos h2,if_pos h2]; rfl
   ·rw [if_neg h2,if_neg h2,if_neg h1,this]
theorem zcE:∀ (x y:List Int),lexM x y=0->x=y
 | [],[],_=>rfl
 | [],_::_,h=>by cases h
 | _::_,[],h=>by cases h
 | a::x,b::y,h=>by
  simp only [lexM] at h;split at h
  ·cases h
  ·split at h
   ·cases h
   ·rw [show a=b by omega,zcE x y h]
theorem zf5:∀ x:List Int,lexM x x=0
 | []=>rfl
 | a::x=>by simp only [lexM]; rw [if_neg oQ,if_neg oQ]; exact zf5 x
theorem zbI:∀ (x y z:List Int),lexM x y<0->lexM y z<0->lexM x z<0
 | [],[],z,h,_=>by simp [lexM] at h
 | [],_::_,[],_,h=>by simp [lexM] at h
 | [],_::_,_::_,_,_=>by simp [lexM]
 | _::_,[],_,h,_=>by simp [lexM] at h
 | _::_,_::_,[],_,h=>by simp [lexM] at h
 | a::x,b::y,c::z,h1,h2=>by
  simp only [lexM] at h1 h2 ⊢;by_cases q1:a<b
  ·by_cases q2:b<c
   ·rw [if_pos oQ]; omega
   ·rw [if_neg q2] at h2;by_cases q3:c<b
    ·rw [if_pos q3] at h2; omega
    ·rw [if_pos oQ]; omega
  ·rw [if_neg q1] at h1;by_cases q4:b<a
   ·rw [if_pos q4] at h1; omega
   ·rw [if_neg q4] at h1;by_cases q2:b<c
    ·rw [if_pos oQ]; omega
    ·rw [if_neg q2] at h2;by_cases q3:c<b
     ·rw [if_pos q3] at h2; omega
     ·rw [if_neg q3] at h2;rw [if_neg oQ,if_neg oQ];exact zbI x y z h1 h2
theorem kK (x y:List Int):smallerM x y=true↔x.length<y.length\/(x.length=y.length/\lexM x y<0):=by
 unfold smallerM;simp
theorem uy {x y z:List Int} (h1:smallerM x y=true) (h2:smallerM y z=true):smallerM x z=true:=by
 rw [kK] at *
 rcases h1 with h1 | ⟨h1,h3⟩ <;> rcases h2 with h2 | ⟨h2,h4⟩
 ·left; omega
 ·left; omega
 ·left; omega
 ·right; exact ⟨by omega,zbI x y z h3 h4⟩
theorem zau (x y:List Int):x=y\/smallerM x y=true\/smallerM y x=true:=by
 by_cases h1:x.length<y.length
 ·right; left; rw [kK]; exact .inl h1
 ·by_cases h2:y.length<x.length
  ·right; right; rw [kK]; exact .inl h2
  ·have e:x.length=y.length:=by omega
   have ha:=zaD x y;by_cases h3:lexM x y=0
   ·exact .inl (zcE x y h3)
   ·by_cases h4:lexM x y<0
    ·right; left; rw [kK]; exact .inr ⟨e,h4⟩
    ·right; right; rw [kK]; exact .inr ⟨e.symm,oQ⟩
theorem ziF {x y:List Int} (h:smallerM x y=true):smallerM y x=false:=by
 cases h2:smallerM y x with
 | false=>rfl
 | true =>
  rw [kK] at h h2;have:=zaD x y;omega
theorem kU (p q:List Int×Int):cheaperM p q=true↔p.2<q.2\/(p.2=q.2/\smallerM p.1 q.1=true):=by
 unfold cheaperM;simp
theorem zb1 (p q r:List Int×Int) (h1:cheaperM p q=true) (h2:cheaperM q r=true):cheaperM p r=true:=by
 rw [kU] at *
 rcases h1 with h1 | ⟨h1,h3⟩ <;> rcases h2 with h2 | ⟨h2,h4⟩
 ·left; omega
 ·left; omega
 ·left; omega
 ·right; exact ⟨by omega,uy h3 h4⟩
theorem zdl (p q:List Int×Int):p=q\/cheaperM p q=true\/cheaperM q p=true:=by
 by_cases h1:p.2<q.2
 ·right; left; rw [kU]; exact .inl h1
 ·by_cases h2:q.2<p.2
  ·right; right; rw [kU]; exact .inl h2
  ·rcases zau p.1 q.1 with h | h | h
   ·left; exact Prod.ext h oQ
   ·right; left; rw [kU]; exact .inr ⟨by omega,h⟩
   ·right; right; rw [kU]; exact .inr ⟨by omega,h⟩
theorem uw (p q r:List Int×Int) (h1:shorterM p q=true) (h2:shorterM q r=true):shorterM p r=true:=uy h1 h2
theorem zb5 {b:RBk} (hb:ROk b) {l:List Int} (hl:CutsOk b l):∀ (o:List Int) (z:Alloc),(∀ k∈o,0<=k/\k<l.length)->0<=z.left->(∀ k,0<=z.steps.getD k 0/\z.steps.getD k 0<=9)->∀ k,0<=(o.foldl (allocM b l) z).steps.getD k 0/\(o.foldl (allocM b l) z).steps.getD k 0<=9
 | [],z,_,_,h=>h
 | k0::o,z,ho,hz,h=>by
  rw [List.foldl_cons];have h0:=ho k0 sQ;have hf:=hb.sms.fld _ (hl.lt (k:=k0.toNat) oQ).2.2;have key:∀ (v:Int),0<=v->v<=9->∀ k,0<=(z.steps.set k0.toNat v).getD k 0/\(z.steps.set k0.toNat v).getD k 0<=9:=fun v h1 h2 k=>by
   have hk:=h k;rw [lE] at hk;rw [lE,List.getElem?_set];split
   ·split
    ·simp only [Option.getD_some]; omega
    ·simp
   ·exact hk
  refine zb5 hb hl o _ (fun k hk=>ho k (by simp [hk])) ?_ (key (min z.left (sm b (zN l k0.toNat).toNat).most) oQ oQ);show 0<=z.left - min z.left (sm b (zN l k0.toNat).toNat).most;omega
end Go.Vel
namespace Go.Vel
open Go Go.Conc Go.Proofs
theorem kc {x y:Int} (h:bar2 x y=0):y=0:=by
 have:=kF h;rwa [kG this] at h
theorem zaw {c:Nat}:∀ (i:Nat) (x:Int),x∈zw c i->0<=x/\x<i
 | 0,x,h=>by cases h
 | i+1,x,h=>by
  unfold zw at h;rcases lT.1 h with h | h
  ·have:=zaw i x h; omega
  ·split at h
   ·rw [lS.1 h]; omega
   ·cases h
theorem zcb {c:Nat}:∀ i,(zw c i).Pairwise (· < ·)
 | 0=>.nil
 | i+1=>by
  unfold zw;refine List.pairwise_append.2 ⟨zcb i,?_,fun x hx y hy=>?_⟩
  ·split <;> simp
  ·have:=zaw i x hx;split at hy
   ·rw [lS.1 hy]; omega
   ·cases hy
theorem zeE {b:RBk} (hb:ROk b) {c:Nat} (h0:0<c) (hc:c<2 ^ b.seams.length):CutsOk b (zw c b.seams.length):=by
 have h5:=hb.sms.len;refine ⟨?_,fun n hn=>zaw _ n hn,zcb _⟩;rcases mP (zw c b.seams.length).length with h | h
 ·have:=vw h5.2 hc (List.length_eq_zero_iff.1 h); omega
 ·exact h
theorem zfG {m c d:Nat} (hm:m<=5) (hc:c<2 ^ m) (hd:d<2 ^ m) (h:zw c m=zw d m):c=d:=by
 have key:∀ (m:Fin 6) (c d:Fin 32),c.1<2 ^ m.1->d.1<2 ^ m.1->zw c.1 m.1=zw d.1 m.1->c.1=d.1:=by decide +kernel
 have:2 ^ m<=2 ^ 5:=Nat.pow_le_pow_right dQ hm;exact key ⟨m,oQ⟩ ⟨c,oQ⟩ ⟨d,oQ⟩ hc hd h
theorem uR {Ψ:Goroutine->World->Prop} {gm:Nat->Option Nat} {b:RBk} {s h e a:Nat} {all:List (List Int)} {gF:FuncId} {bt:List Int×Int->List Int×Int->Bool} (hb:ROk b) (ha:okAll b all) (hn:all.length<=243) (h0:0<all.length)
  (htr:∀ p q r,bt p q=true->bt q r=true->bt p r=true) (htot:∀ b1 c1,0<b1->b1<2 ^ b.seams.length->0<c1->c1<2 ^ b.seams.length->(zw b1 b.seams.length,sqHi b all (zw b1 b.seams.length))=(zw c1 b.seams.length,sqHi b all (zw c1 b.seams.length))\/bt (zw b1 b.seams.length,sqHi b all (zw b1 b.seams.length)) (zw c1 b.seams.length,sqHi b all (zw c1 b.seams.length))=true\/bt (zw c1 b.seams.length,sqHi b all (zw c1 b.seams.length)) (zw b1 b.seams.length,sqHi b all (zw b1 b.seams.length))=true)
  (hbt:∀ {T:Goroutine->Hp->Prop},zo tp false T->∀ (jr:Nat) (cs:List Int) (cost:Int) (cs0:List Int) (cost0:Int) (j0:Nat) (e0:TypeId),cs.length<=5->CallFK tp T gm (.fn gF [] []) [.agg [.sl jr 0 cs.length,.v (.int .i64 cost)],.agg [.sl j0 0 cs0.length,.v (.int .i64 cost0)]] [(jr,.cells (cs.map fun a=>.v (.int .i64 a)) 3 false),(j0,.cells (cs0.map fun a=>.v (.int .i64 a)) e0 false)] (fun r K'=>r=.v (.bool (bt (cs,cost) (cs0,cost0)))/\K'=[(jr,.cells (cs.map fun a=>.v (.int .i64 a)) 3 false),(j0,.cells (cs0.map fun a=>.v (.int .i64 a)) e0 false)])) :
  zA tp (BT tp Ψ) gm 108 [.agg (knownC b s h e a all.length),.fn gF [] []] [(s,zk b),(a,allO all)] (fun r K'=>PlanR [(s,zk b),(a,allO all)] b.seams.length bt (fun c=>sqHi b all (zw c b.seams.length)) (fun c=>sqOk b all (zw c b.seams.length)) r K'):=by
 refine zht (lw:=fun c=>sqLo b all (zw c b.seams.length)) hb.sms.len (fun z hz=>?_) htr (fun b1 c1 h1 h2 h3 h4 _ _=>htot b1 c1 h1 h2 h3 h4) (fun c hc0 hc1 jr T hT=>?_) hbt
 ·simp only [List.mem_cons,List.not_mem_nil,or_false] at hz;rcases hz with rfl | rfl
  ·refine ⟨_,_,fun e=>?_,rfl⟩;have:=congrArg List.length e;rw [yz seamC 5 (fun _=>rfl)] at this;have h1:=hb.sms.len;have:b.seams.length*5=0:=this;omega
  ·refine ⟨_,_,fun e=>?_,rfl⟩;have:=congrArg List.length e;rw [yz stC 5 (fun _=>rfl)] at this;have:all.length*5=0:=this;omega
 ·exact za7 hT (j:=jr) (et:=3) hb (zeE hb hc0 hc1) ha hn h0
def canM (b:RBk) (l:List Int):Int:=if (waysM b (zf b) l).length=(zf b).length then 1 else if (waysM b (zf b) l).length=0 then 2 else 0
theorem zhC {b:RBk} {all:List (List Int)} {l:List Int} (h:sqOk b all l=false):sqLo b all l=0/\sqHi b all l=0:=by
 unfold sqOk at h;unfold sqLo sqHi;cases hh:squaresM b all l with
 | none=>exact ⟨rfl,rfl⟩
 | some z=>rw [hh] at h; cases h
def newM (b:RBk):Int×Int:=spreadM ((zf b).map (freshM b))
instance:Cal tp 107:={}
instance:Cal tp 91:={}
instance:TyZ tp 116 [.nilFunc]:={}
theorem zhP {main:Bool} {T:Goroutine->Hp->Prop} (hT:zo tp main T)  {b:RBk} {s h e j:Nat} {l:List Int} {et:TypeId} (hl:b.seams.length<=100) (hm:b.measures.length<=100) (hll:l.length<=1000) :
  zA tp T gmR 20 [.agg (zE b s h e),.sl j 0 l.length] [(0,zy),(s,zk b),(h,zB b),(e,zq b),(j,.cells (l.map intA) et false)] (fun r K'=>(bar2 (zr b) (cutsM b l)≠0/\r=.tup [.v (.slice none 0 0),intA (bar2 (zr b) (cutsM b l))]/\K'=[(0,zy),(s,zk b),(h,zB b),(e,zq b),(j,.cells (l.map intA) et false)])\/(bar2 (zr b) (cutsM b l)=0/\∃ jr,r=.tup [.row jr l.length,intA 0]/\K'=(jr,.row ((stripsM b l).flatMap pairC) 96 2)::[(0,zy),(s,zk b),(h,zB b),(e,zq b),(j,.cells (l.map intA) et false)])):=by
 refine zp 22 hT Tryz.func20 fun Y hret=>?_;refine au 21042 ?_;intro jb hjb;refine au 320168042355 ?_;refine bI Z Z Z (zt (l:=[_]) Z zF.h TyZ.h dQ dQ Z) (fun _=>zu rfl tQ) fun ja hja=>?_;refine bD Z Z Z Z (w8 hT (Kx:=[(j,.cells (l.map intA) et false)]) (p1:=cutsM b l) hl hm (fun h0=>yx Cal.h ((kQ hT (zZ h0).sms.len.2 hll).frameP (R:=[(s,zk b)]) (List.Perm.swap _ _ _)))) ?_;rintro r1 K2 h3;rcases h3 with ⟨⟨hbar,rfl⟩ | ⟨hbar,rfl⟩,rfl⟩
 ·refine au 220661 ?_;intro j6 hj6;refine au 937142235170 ?_;constructor<;>intro hc0
  ·exact absurd hc0 sQ
  have hbb:=zZ (kF hbar);have hcc:=wG (kc hbar);refine au 168042120 ?_;refine bD Z Z Z Z (zbX hT hbb hcc) ?_;rintro r4 K5 ⟨jr,rfl,rfl⟩;refine au 355 ?_;refine bB hret [(jr,_),(0,_),(s,_),(h,_),(e,_),(j,_)] ?_;exact .inr ⟨hbar,jr,rfl,rfl⟩
 ·refine au 220661 ?_;intro j6 hj6;refine au 937142235170 ?_;constructor<;>intro hc0
  ·
   refine au 355142 ?_;refine bB hret [(0,_),(s,_),(h,_),(e,_),(j,_)] ?_;exact .inl ⟨hbar,rfl,rfl⟩
  exact absurd hbar (by simpa using hc0)
theorem zaP {main:Bool} {T:Goroutine->Hp->Prop} (hT:zo tp main T)  {b:RBk} {s h e j:Nat} {l:List Int} {et:TypeId} (hl:b.seams.length<=100) (hm:b.measures.length<=100) (hll:l.length<=1000) :
  zA tp T gmR 22 [.agg (zE b s h e),.sl j 0 l.length] [(0,zy),(s,zk b),(h,zB b),(e,zq b),(j,.cells (l.map intA) et false)] (fun r K'=>r=.tup [zP (decide (bar2 (zr b) (cutsM b l)=0)&&fitsM b l),intA (bar2 (zr b) (cutsM b l))]/\K'=[(0,zy),(s,zk b),(h,zB b),(e,zq b),(j,.cells (l.map intA) et false)]):=by
 refine zp 22 hT Tryz.func22 fun Y hret=>?_;refine au 21042 ?_;intro jb hjb;refine au 320168042355 ?_;refine bI Z Z Z (zt (l:=[_]) Z zF.h TyZ.h dQ dQ Z) (fun _=>zu rfl tQ) fun ja hja=>?_;refine bD Z Z Z Z (w8 hT (Kx:=[(j,.cells (l.map intA) et false)]) (p1:=cutsM b l) hl hm (fun h0=>yx Cal.h ((kQ hT (zZ h0).sms.len.2 hll).frameP (R:=[(s,zk b)]) (List.Perm.swap _ _ _)))) ?_;rintro r1 K2 h3;rcases h3 with ⟨⟨hbar,rfl⟩ | ⟨hbar,rfl⟩,rfl⟩
 ·refine au 220661 ?_;intro j6 hj6;refine au 937142235170 ?_;constructor<;>intro hc0
  ·exact absurd hc0 sQ
  have hbb:=zZ (kF hbar);have hcc:=wG (kc hbar);refine au 168042120 ?_;refine bD Z Z Z Z (zdG hT hbb hcc) ?_;rintro r4 K5 ⟨rfl,rfl⟩;refine au 355 ?_;refine bB hret [(0,_),(s,_),(h,_),(e,_),(j,_)] ?_;exact ⟨by rw [hbar]; simp,rfl⟩
 ·refine au 220661 ?_;intro j6 hj6;refine au 937142235170 ?_;constructor<;>intro hc0
  ·
   refine au 355142 ?_;refine bB hret [(0,_),(s,_),(h,_),(e,_),(j,_)] ?_;exact ⟨by rw [decide_eq_false hbar]; rfl,rfl⟩
  exact absurd hbar (by simpa using hc0)
theorem zch {main:Bool} {T:Goroutine->Hp->Prop} (hT:zo tp main T)  {b:RBk} {s h e j:Nat} {l:List Int} {et:TypeId} (hl:b.seams.length<=100) (hm:b.measures.length<=100) (hll:l.length<=1000) :
  zA tp T gmR 70 [.agg (zE b s h e),.sl j 0 l.length] [(0,zy),(s,zk b),(h,zB b),(e,zq b),(j,.cells (l.map intA) et false)] (fun r K'=>(bar2 (zr b) (cutsM b l)≠0/\r=.tup [intA 0,intA (bar2 (zr b) (cutsM b l))]/\K'=[(0,zy),(s,zk b),(h,zB b),(e,zq b),(j,.cells (l.map intA) et false)])\/(bar2 (zr b) (cutsM b l)=0/\zf b=[]/\r=.tup [intA 0,intA 9]/\K'=[(0,zy),(s,zk b),(h,zB b),(e,zq b),(j,.cells (l.map intA) et false)])\/(bar2 (zr b) (cutsM b l)=0/\zf b≠[]/\r=.tup [intA (canM b l),intA 0]/\K'=[(0,zy),(s,zk b),(h,zB b),(e,zq b),(j,.cells (l.map intA) et false)])):=by
 refine zp 30 hT Tryz.func70 fun Y hret=>?_;refine au 21042 ?_;intro jb hjb;refine au 320168042355 ?_;refine bI Z Z Z (zt (l:=[_]) Z zF.h TyZ.h dQ dQ Z) (fun _=>zu rfl tQ) fun ja hja=>?_;refine bD Z Z Z Z (uK hT (Kx:=[(j,.cells (l.map intA) et false)]) (p1:=cutsM b l) (fun h0=>yx Cal.h ((kQ hT (zZ h0).sms.len.2 hll).frameP (R:=[(s,zk b)]) (List.Perm.swap _ _ _))) hl hm) ?_;rintro r1 K2 h3;rcases h3 with ⟨hbar,rfl,rfl⟩ | ⟨hbar,hnil,rfl,rfl⟩ | ⟨hbar,hne,a,rfl,rfl⟩
 ·refine au 220661 ?_;intro j6 hj6;refine au 937142235170 ?_;constructor<;>intro hc0
  ·
   refine au 355142 ?_;refine bB hret [(0,_),(s,_),(h,_),(e,_),(j,_)] ?_;exact .inl ⟨hbar,rfl,rfl⟩
  exact absurd hbar (by simpa using hc0)
 ·refine au 220661 ?_;intro j6 hj6;refine au 937142235170 ?_;constructor<;>intro hc0
  ·
   refine au 355142 ?_;refine bB hret [(0,_),(s,_),(h,_),(e,_),(j,_)] ?_;exact .inr (.inl ⟨hbar,hnil,rfl,rfl⟩)
  exact absurd hc0 dQ
 ·refine au 220661 ?_;intro j6 hj6;refine au 937142235170 ?_;constructor<;>intro hc0
  ·exact absurd hc0 sQ
  have hbb:=zZ (kF hbar);have hcc:=wG (kc hbar);have hlen:=kg hbb;have hpos:0<(zf b).length:=List.length_pos_iff.2 hne;have hall:okAll b (zf b):=fun st hst=>(y8 hbb hst).1;refine au 1680422120 ?_;refine bD Z Z Z Z (zd3 hT hbb hcc hall hlen) ?_;rintro r4 K5 ⟨jr,ps,hps,rfl,rfl⟩;refine au 0 ?_;have hpl:ps.length=(waysM b (zf b) l).length:=by have:=congrArg List.length hps; rwa [lJ,lJ] at this
  refine au 9357280690670421303280 ?_;constructor<;>intro hc1
  ·refine au 35542 ?_;refine bB hret [(0,_),(s,_),(h,_),(e,_),(j,_)] ?_;exact .inr (.inr ⟨hbar,hne,by unfold canM; rw [if_pos (by have:=eq_of_beq hc1; omega)],rfl⟩)
  refine au 935742 ?_;constructor<;>intro hc2
  ·refine au 35542 ?_;refine bB hret [(0,_),(s,_),(h,_),(e,_),(j,_)] ?_;exact .inr (.inr ⟨hbar,hne,by unfold canM; rw [if_neg (by simp at hc1; omega),if_pos (by have:=eq_of_beq hc2; omega)],rfl⟩)
  refine au 35542140120 ?_;refine bB hret [(0,_),(s,_),(h,_),(e,_),(j,_)] ?_;exact .inr (.inr ⟨hbar,hne,by unfold canM; rw [if_neg (by simp at hc1; omega),if_neg (by rw [<- hpl]; simp at hc2; exact fun h=>hc2 (List.length_eq_zero_iff.1 h))],rfl⟩)
theorem uz {main:Bool} {T:Goroutine->Hp->Prop} (hT:zo tp main T)  {b:RBk} {s h e j:Nat} {l:List Int} {et:TypeId} (hl:b.seams.length<=100) (hm:b.measures.length<=100) (hll:l.length<=1000) :
  zA tp T gmR 54 [.agg (zE b s h e),.sl j 0 l.length] [(0,zy),(s,zk b),(h,zB b),(e,zq b),(j,.cells (l.map intA) et false)] (fun r K'=>(bar2 (zr b) (cutsM b l)≠0/\r=.tup [.agg [intA 0,intA 0],intA (bar2 (zr b) (cutsM b l))]/\K'=[(0,zy),(s,zk b),(h,zB b),(e,zq b),(j,.cells (l.map intA) et false)])\/(bar2 (zr b) (cutsM b l)=0/\zf b=[]/\r=.tup [.agg [intA 0,intA 0],intA 9]/\K'=[(0,zy),(s,zk b),(h,zB b),(e,zq b),(j,.cells (l.map intA) et false)])\/(bar2 (zr b) (cutsM b l)=0/\zf b≠[]/\r=.tup [.agg [intA (sqLo b (zf b) l),intA (sqHi b (zf b) l)],intA (if sqOk b (zf b) l=true then 0 else 8)]/\K'=[(0,zy),(s,zk b),(h,zB b),(e,zq b),(j,.cells (l.map intA) et false)])):=by
 refine zp 32 hT Tryz.func54 fun Y hret=>?_;refine au 21042 ?_;intro jb hjb;refine au 220 ?_;intro jr hjr;refine au 32016804235 ?_;refine bI Z Z Z (zt (l:=[_]) Z zF.h TyZ.h dQ dQ Z) (fun _=>zu rfl tQ) fun ja hja=>?_;refine bD Z Z Z Z (uK hT (Kx:=[(j,.cells (l.map intA) et false)]) (p1:=cutsM b l) (fun h0=>yx Cal.h ((kQ hT (zZ h0).sms.len.2 hll).frameP (R:=[(s,zk b)]) (List.Perm.swap _ _ _))) hl hm) ?_;rintro r1 K2 h3;rcases h3 with ⟨hbar,rfl,rfl⟩ | ⟨hbar,hnil,rfl,rfl⟩ | ⟨hbar,hne,a,rfl,rfl⟩
 ·refine au 220661 ?_;intro j6 hj6;refine au 937142235170 ?_;constructor<;>intro hc0
  ·
   refine au 35170139042 ?_;refine bB hret [(0,_),(s,_),(h,_),(e,_),(j,_)] ?_;exact .inl ⟨hbar,rfl,rfl⟩
  exact absurd hbar (by simpa using hc0)
 ·refine au 220661 ?_;intro j6 hj6;refine au 937142235170 ?_;constructor<;>intro hc0
  ·
   refine au 35170139042 ?_;refine bB hret [(0,_),(s,_),(h,_),(e,_),(j,_)] ?_;exact .inr (.inl ⟨hbar,hnil,rfl,rfl⟩)
  exact absurd hc0 dQ
 ·refine au 220661 ?_;intro j6 hj6;refine au 937142235170 ?_;constructor<;>intro hc0
  ·exact absurd hc0 sQ
  have hbb:=zZ (kF hbar);have hcc:=wG (kc hbar);have hlen:=kg hbb;have hpos:0<(zf b).length:=List.length_pos_iff.2 hne;have hall:okAll b (zf b):=fun st hst=>(y8 hbb hst).1;refine au 168042120 ?_;refine bD Z Z Z Z (za7 hT hbb hcc hall hlen hpos) ?_;rintro r4 K5 ⟨rfl,rfl⟩;refine au 220661 ?_;intro j8 hj8;refine au 93300142235170 ?_;constructor<;>intro hc1
  ·refine au 3517039042 ?_;refine bB hret [(0,_),(s,_),(h,_),(e,_),(j,_)] ?_;exact .inr (.inr ⟨hbar,hne,by obtain ⟨q1,q2⟩:=zhC (b:=b) (all:=zf b) (l:=l) (by simpa using hc1); rw [q1,q2,if_neg (by simpa using hc1)]; rfl,rfl⟩)
  refine au 3517068042120 ?_;refine bB hret [(0,_),(s,_),(h,_),(e,_),(j,_)] ?_;exact .inr (.inr ⟨hbar,hne,by rw [if_pos (by simpa using hc1)]; rfl,rfl⟩)
theorem ze4 {main:Bool} {T:Goroutine->Hp->Prop} (hT:zo tp main T)  {b:RBk} {s h e:Nat} (hl:b.seams.length<=100) (hm:b.measures.length<=100) :
  zA tp T gmR 53 [.agg (zE b s h e)] [(0,zy),(s,zk b),(h,zB b),(e,zq b)] (fun r K'=>(zr b≠0/\r=.tup [.agg [intA 0,intA 0],intA (zr b)]/\K'=[(0,zy),(s,zk b),(h,zB b),(e,zq b)])\/(zr b=0/\zf b=[]/\r=.tup [.agg [intA 0,intA 0],intA 9]/\K'=[(0,zy),(s,zk b),(h,zB b),(e,zq b)])\/(zr b=0/\zf b≠[]/\r=.tup [.agg [intA (newM b).1,intA (newM b).2],intA 0]/\K'=[(0,zy),(s,zk b),(h,zB b),(e,zq b)])):=by
 refine zp 39 hT Tryz.func53 fun Y hret=>?_;refine au 21042 ?_;intro jb hjb;refine au 220 ?_;intro jr hjr;refine au 6804235 ?_;refine bD Z Z Z Z (wl hT (Kx:=[]) hl hm) ?_;rintro r1 K2 h3;rcases h3 with ⟨hbar,rfl,rfl⟩ | ⟨hbar,hnil,rfl,rfl⟩ | ⟨hbar,hne,a,rfl,rfl⟩
 ·refine au 220661 ?_;intro j4 hj4;refine au 937142235170 ?_;constructor<;>intro hc0
  ·
   refine au 35170139042 ?_;refine bB hret [(0,_),(s,_),(h,_),(e,_)] ?_;exact .inl ⟨hbar,rfl,rfl⟩
  exact absurd hbar (by simpa using hc0)
 ·refine au 220661 ?_;intro j4 hj4;refine au 937142235170 ?_;constructor<;>intro hc0
  ·
   refine au 35170139042 ?_;refine bB hret [(0,_),(s,_),(h,_),(e,_)] ?_;exact .inr (.inl ⟨hbar,hnil,rfl,rfl⟩)
  exact absurd hc0 dQ
 ·refine au 220661 ?_;intro j4 hj4;refine au 937142235170 ?_;constructor<;>intro hc0
  ·exact absurd hc0 sQ
  have hbb:=zZ hbar;have hlen:=kg hbb;have hpos:0<(zf b).length:=List.length_pos_iff.2 hne;have hall:okAll b (zf b):=fun st hst=>(y8 hbb hst).1;refine au 542120 ?_;refine TK.virt 6 3 1 Z fun jt0 hjt0=>?_;refine au 130312806906704223 ?_;refine bA [2,3,4,6,19,20,21] ?_;refine bC [(a,_),(0,_),(s,_),(h,_),(e,_),(j4,_),(jr,_),(jt0,_)] ?_;refine bE (fun n env K=>∃ (i jt:Nat),n=(zf b).length - i/\i<=(zf b).length/\env=naL 2 (.ptr jr 0::intA 0::.ptr j4 0::.any::.row jt i::naL 12 (.sl a 0 (zf b).length::intA (zf b).length::intA i::naL 17 []))/\K=[(a,allO (zf b)),(0,zy),(s,zk b),(h,zB b),(e,zq b),(j4,.cells (knownC b s h e a (zf b).length) 139 true),(jr,.cells [intA 0,intA 0] 51 true),(jt,.row ((((zf b).take i).map (freshM b)).map intA) 3 1)]) (zf b).length ⟨0,jt0,rfl,mN _,rfl,rfl⟩ fun n env K hI hnext=>?_;obtain ⟨i,jt,rfl,hi,rfl,rfl⟩:=hI;refine bG nQ ?_;refine au 923742 ?_;constructor<;>intro hc1
  ·have hil:i<(zf b).length:=by simp at hc1; omega
   obtain ⟨st,hst⟩:∃ st,(zf b)[i]? =some st:=⟨_,lA hil⟩;have hsk:=hall st (lN hst);refine au 360421302120 ?_;refine bH Z (ya Z Z zi.h mQ (zaL (i:=i) hst Z)) ?_;refine au 220 ?_;intro j8 hj8;refine au 680680670143170 ?_;refine bD Z Z Z Z (zcn hT hbb hsk) ?_ (hs:=(.none _));rintro r4 K5 ⟨rfl,rfl⟩;refine au 0 ?_;refine bI Z Z Z (zt (l:=[_]) Z zF.h TyZ.h dQ dQ Z) (fun _=>zu rfl tQ) fun j7 hj7=>?_;refine bO Z Z Z (a_app Z ApOf.h Z mQ (by simp; omega) Z (yw (ln:=[_]) mQ dQ sQ Z) oQ Z (by unfold maxLen; omega) oQ) (fun _=>uQ) (fun _=>zu rfl tQ) fun jt2=>?_;refine au 31230414035 ?_;refine bA [2,3,4,6,19,20,21] ?_;refine bC [(a,_),(0,_),(s,_),(h,_),(e,_),(j4,_),(jr,_),(jt2,_)] ?_;exact hnext _ _ _ oQ ⟨i+1,jt2,rfl,oQ,rfl,by rw [yQ hst,lM,lM]; rfl⟩
  obtain rfl:i=(zf b).length:=by simp at hc1; omega
  obtain ⟨x,xs,hxs⟩:∃ x xs,(zf b).map (freshM b)=x::xs:=by
   cases hh:zf b with
   | nil=>exact absurd hh hne
   | cons y r=>exact ⟨_,_,rfl⟩
  have hxl:(zf b).length=xs.length+1:=by have:=congrArg List.length hxs; simpa using this
  rw [List.take_of_length_le (mL _),hxs,hxl];refine au 2160 ?_;refine bL [0,1,2,3,4,5,6,7] ?_;refine ad [[1,6]] ?_;refine bT [33] Z (hq:=kB Z Z Z zF.h (mC _) oQ oQ) (h:=?_);refine ad [[10,34],[1,6]] ?_;refine bT [36] Z (hq:=wB Z Z zF.h (mC _) Z Z oQ oQ Z) (h:=?_);refine bQ (pend':=[⟨3,[6],[]⟩,⟨1,[33],[(_,_)]⟩,⟨0,[6],[]⟩]) [35,37] Z Z Z Z Z (zbW hT (x:=x) (xs:=xs) (off:=1) (ob:=.row ((x::xs).map intA) 3 1) (fun i y hy=>kE (l:=x::xs) (i:=i+1) (by simpa using hy) oQ) oQ) (fun r8 K9 h10=>⟨?_,?_⟩)
  ·rcases h10 with ⟨rfl,rfl⟩
   all_goals simp
  obtain ⟨rfl,rfl⟩:=h10;try simp only [cA]
  refine bS tQ ?_;refine bR (pend':=[]) [2,38] Z Z (zX Z Z zi.h Z Z mQ Z) ?_;refine ad [[13],[14]] ?_;refine au 0 ?_;refine bB hret [(0,_),(s,_),(h,_),(e,_)] ?_;exact .inr (.inr ⟨hbar,hne,by unfold newM; rw [hxs]; rfl,rfl⟩)
def atM (b:RBk) (l s w:List Int):Nat->Int
 | 0=>0
 | k+1=>atM b l s w k+(togM b s (zN l k).toNat (zN l (k+1) - zN l k).toNat+w.getD (k+1) 0)
def placesM (b:RBk) (l s w:List Int):List Int:=(List.range l.length).map (atM b l s w)
theorem zhU {b:RBk} (hb:ROk b) {l s w:List Int} {q:Int} (hl:CutsOk b l) (hs:StOk b s) (h:hangM b l s=some (w,q)):w.length=l.length/\∀ k,0<=w.getD k 0/\w.getD k 0<=9:=by
 unfold hangM at h;split at h
 ·cases h
 ·dsimp only at h;split at h
  ·cases h
  ·cases h;have h0:=(zcm hb hs).1;unfold allocA;refine ⟨by rw [zby]; simp [alloc0],zb5 hb hl _ _ (fun k hk=>zdP hk) h0 fun k=>?_⟩;show 0<=(mB l.length (0:Int)).getD k 0/\_;have:(alloc0 b l (freshM b s)).steps=mB l.length 0:=rfl;rw [this,lE,List.getElem?_replicate];split <;> simp
theorem zhO {b:RBk} {l:List Int} (hl:CutsOk b l) {k:Nat} (h:k+1<l.length):zN l k<zN l (k+1):=by
 have e1:=z6 (l:=l) (k:=k) oQ;have e2:=z6 h;have:=List.pairwise_iff_getElem.1 hl.asc k (k+1) oQ h oQ;rw [lA oQ] at e1;rw [lA h] at e2;rw [Option.some.inj e1,Option.some.inj e2] at this;exact this
theorem at_bd {b:RBk} (hb:ROk b) {l s w:List Int} (hl:CutsOk b l) (hs:StOk b s) (hw:∀ k,0<=w.getD k 0/\w.getD k 0<=9):∀ k,k<l.length->0<=atM b l s w k/\atM b l s w k<=129*k
 | 0,_=>by simp [atM]
 | k+1,h=>by
  have h1:=at_bd hb hl hs hw k oQ;have h2:=hw (k+1);have h3:=za9 hb hs (c:=(zN l k).toNat) (zN l (k+1) - zN l k).toNat;have h4:=hl.lt (k:=k) oQ;have h5:=hl.lt h;have h6:=hb.sms.len;unfold atM;omega
theorem zbV {b:RBk} (hb:ROk b) {all:List (List Int)} (b1 c1:Nat) (h1:0<b1) (h2:b1<2 ^ b.seams.length) (h3:0<c1) (h4:c1<2 ^ b.seams.length):(zw b1 b.seams.length,sqHi b all (zw b1 b.seams.length))=(zw c1 b.seams.length,sqHi b all (zw c1 b.seams.length))\/shorterM (zw b1 b.seams.length,sqHi b all (zw b1 b.seams.length)) (zw c1 b.seams.length,sqHi b all (zw c1 b.seams.length))=true\/shorterM (zw c1 b.seams.length,sqHi b all (zw c1 b.seams.length)) (zw b1 b.seams.length,sqHi b all (zw b1 b.seams.length))=true:=by
 rcases zau (zw b1 b.seams.length) (zw c1 b.seams.length) with h | h | h
 ·left;rw [zfG hb.sms.len.2 h2 h4 h]
 ·exact .inr (.inl h)
 ·exact .inr (.inr h)
def PlanA (b:RBk) (all:List (List Int)) (bt:List Int×Int->List Int×Int->Bool) (c:Nat):Prop:=0<c/\c<2 ^ b.seams.length/\sqOk b all (zw c b.seams.length)=true/\∀ d,0<d->d<2 ^ b.seams.length->sqOk b all (zw d b.seams.length)=true->(zw d b.seams.length,sqHi b all (zw d b.seams.length))=(zw c b.seams.length,sqHi b all (zw c b.seams.length))\/bt (zw c b.seams.length,sqHi b all (zw c b.seams.length)) (zw d b.seams.length,sqHi b all (zw d b.seams.length))=true
def NoPlan (b:RBk) (all:List (List Int)):Prop:=∀ d,0<d->d<2 ^ b.seams.length->sqOk b all (zw d b.seams.length)=false
def atRound (b:RBk) (r:Int):RBk:={ b with round:=r }
theorem zca {b:RBk} (hb:ROk b) {r:Int} (h1:b.steps<=r) (h2:r<=40):ROk (atRound b r):=⟨⟨hb.rnd.steps,⟨h1,h2⟩,hb.rnd.roll,hb.rnd.rolls⟩,⟨hb.sms.len,hb.sms.fld,hb.sms.asc⟩,⟨hb.cls.len,hb.cls.bnd⟩,⟨hb.mes.len,hb.mes.bnd⟩⟩
theorem zgO {b:RBk} {all:List (List Int)} (h:okAll b all) (r:Int):okAll (atRound b r) all:=fun s hs=>⟨(h s hs).len,(h s hs).bnd⟩
def canAt (b:RBk) (all:List (List Int)) (r:Int):Bool:=(List.range (2 ^ b.seams.length)).any fun c=>decide (0<c)&&sqOk (atRound b r) all (zw c b.seams.length)
def widestL (b:RBk) (all:List (List Int)):Nat->Option Int
 | 0=>none
 | k+1=>if canAt b all (b.steps+k)=true then some (b.steps+k) else widestL b all k
def widestM (b:RBk) (all:List (List Int)):Option Int:=widestL b all (41 - b.steps).toNat
theorem zgT {b:RBk} {all:List (List Int)} {r:Int} {c:Nat} (h0:0<c) (h1:c<2 ^ b.seams.length) (h:sqOk (atRound b r) all (zw c b.seams.length)=true):canAt b all r=true:=by
 unfold canAt;rw [List.any_eq_true];exact ⟨c,List.mem_range.2 h1,by simp [h0,h]⟩
theorem zgS {b:RBk} {all:List (List Int)} {r:Int} (h:∀ c,0<c->c<2 ^ b.seams.length->sqOk (atRound b r) all (zw c b.seams.length)=false):canAt b all r=false:=by
 unfold canAt;rw [List.any_eq_false];intro c hc;by_cases h0:0<c
 ·rw [h c h0 (List.mem_range.1 hc)]; simp
 ·simp [h0]
instance:Cal tp 101:={}
instance:Cal tp 108:={}
instance:Cal tp 109:={}
instance:Cal tp 113:={}
instance:Cal tp 99:={}
theorem zej {main:Bool} {T:Goroutine->Hp->Prop} (hT:zo tp main T)  {b:RBk} {s h e j j2:Nat} {l st:List Int} {et et2:TypeId} (hl:b.seams.length<=100) (hm:b.measures.length<=100) (hll:l.length<=1000) :
  zA tp T gmR 27 [.agg (zE b s h e),.sl j 0 l.length,.sl j2 0 st.length] [(0,zy),(s,zk b),(h,zB b),(e,zq b),(j,.cells (l.map intA) et false),(j2,.cells (st.map intA) et2 false)] (fun r K'=>(bar2 (zr b) (bar2 (cutsM b l) (shM b st))≠0/\r=.tup [.v (.slice none 0 0),intA 0,zP false,intA (bar2 (zr b) (bar2 (cutsM b l) (shM b st)))]/\K'=[(0,zy),(s,zk b),(h,zB b),(e,zq b),(j,.cells (l.map intA) et false),(j2,.cells (st.map intA) et2 false)])\/(bar2 (zr b) (bar2 (cutsM b l) (shM b st))=0/\hangM b l st=none/\r=.tup [.v (.slice none 0 0),intA 0,zP false,intA 0]/\K'=[(0,zy),(s,zk b),(h,zB b),(e,zq b),(j,.cells (l.map intA) et false),(j2,.cells (st.map intA) et2 false)])\/(bar2 (zr b) (bar2 (cutsM b l) (shM b st))=0/\∃ w q jw,hangM b l st=some (w,q)/\r=.tup [.sl jw 0 w.length,intA q,zP true,intA 0]/\K'=(jw,.cells (w.map intA) 3 false)::[(0,zy),(s,zk b),(h,zB b),(e,zq b),(j,.cells (l.map intA) et false),(j2,.cells (st.map intA) et2 false)])):=by
 refine zp 38 hT Tryz.func27 fun Y hret=>?_;refine au 21042 ?_;intro jb hjb;refine au 320132016804235555 ?_;refine bI Z Z Z (zt (l:=[_,_]) Z zF.h TyZ.h dQ dQ Z) (fun _=>zu rfl tQ) fun ja hja=>?_;refine bD Z Z Z Z (zaX hT (Kx:=[(j,.cells (l.map intA) et false),(j2,.cells (st.map intA) et2 false)]) (p1:=cutsM b l) (p2:=shM b st) hl hm (fun h0=>yx Cal.h ((kQ hT (zZ h0).sms.len.2 hll).frameP (R:=[(s,zk b),(j2,.cells (st.map intA) et2 false)]) (List.Perm.swap _ _ _))) (fun h0=>yx Cal.h ((zdb hT (zZ h0).rnd (zZ h0).sms).frameP (R:=[(j,.cells (l.map intA) et false)]) ((List.Perm.swap _ _ _).cons _)))) ?_;rintro r1 K2 h3;rcases h3 with ⟨⟨hbar,rfl⟩ | ⟨hbar,rfl⟩,rfl⟩
 ·refine au 220661 ?_;intro j6 hj6;refine au 937142235170 ?_;constructor<;>intro hc0
  ·exact absurd hc0 sQ
  have hbb:=zZ (kF hbar);have hcc:=wG (kF (kc hbar));have hss:=zfr (kc (kc hbar));have h5:=hbb.sms.len;have hsl:=hss.len;refine au 2120 ?_;refine bL [0,1,2,3,4,5,6,8,9,7,10] ?_;refine ad [[12,10],[1,1],[1,2]] ?_;refine TD.c2 (i1:=3) (i2:=8) (pend1:=[⟨1,[1],[]⟩,⟨0,[10],[(_,_)]⟩]) (pend2:=[⟨2,[2],[]⟩,⟨1,[1],[]⟩,⟨0,[10],[(_,_)]⟩]) (L1:=[4,5,6,7,8,9,10]) (L2:=[3,4,5,6,7,9,10]) [28] [] Z Z Z Z Z Z Z ?_ ?_
  ·refine wi Z Z Cal.h Z (un hT oQ oQ) (by repeat (first | exact Split.none _ | exact Split.all _ | (apply Split.rem; repeat (first | exact Rem.head | apply Rem.tail)) | apply Split.right)) fun r4 K5 h6=>⟨?_,?_⟩
   ·rcases h6 with ⟨rfl,rfl⟩
    all_goals simp
   obtain ⟨rfl,rfl⟩:=h6;try simp only [cA]
   refine bS (env':=[_,_,_,_,_,_,_,_,_,_,_,_,_,_,_,_,_,_,_,_,_,_,_,_,_,_,_,_,_,_,_,_,_,_,_,_,_,_]) Z ?_;refine TD.c2 (i1:=4) (i2:=8) (pend1:=[]) (pend2:=[⟨1,[1],[]⟩,⟨0,[10],[(_,_)]⟩]) (L1:=[5,6,7,8,9,10]) (L2:=[4,5,6,7,9,10]) [26,27,29] [] Z Z Z Z Z Z Z ?_ ?_
   ·refine wi Z Z Cal.h Z ((vd hT hbb hcc hss).mono (fun _ _ h=>wI h)) (by repeat (first | exact Split.none _ | exact Split.all _ | (apply Split.rem; repeat (first | exact Rem.head | apply Rem.tail)) | apply Split.right)) fun r7 K8 h9=>⟨?_,?_⟩
    ·rcases h9 with ⟨hno,rfl,rfl⟩ | ⟨w,q,jw,hso,rfl,rfl⟩;all_goals simp
    rcases h9 with ⟨hno,rfl,rfl⟩ | ⟨w,q,jw,hso,rfl,rfl⟩
    ·try simp only [cA]
     refine bS (env':=[_,_,_,_,_,_,_,_,_,_,_,_,_,_,_,_,_,_,_,_,_,_,_,_,_,_,_,_,_,_,_,_,_,_,_,_,_,_]) Z ?_;refine ad [[1,30],[5,25],[5,25]] ?_;refine bX (pend':=[⟨7,[25],[]⟩,⟨6,[25],[]⟩,⟨5,[30],[]⟩]) [] Z Z Z Z Z (yL Z TyZA.h) (fun _=>zu rfl tQ) sQ fun j8 hj8=>?_;refine bR (pend':=[⟨7,[25],[]⟩]) [11,31] Z Z (zX Z Z zi.h Z Z mQ Z) ?_;refine ad [[13,32],[14]] ?_;refine au 2 ?_;refine bL [0,1,5,2,3,6,4,7,8] ?_;refine ad [[3,11],[10,33],[3,11],[10,35],[1,8]] ?_;refine TD.as (pend':=[⟨4,[8],[]⟩,⟨3,[35],[(_,_)]⟩,⟨2,[11],[]⟩]) [34] Z Z (zD Z Z) ?_;refine TD.as (pend':=[⟨4,[8],[]⟩]) [36] Z Z (zD Z Z) ?_;refine ad [[13,37],[13],[14]] ?_;refine au 0 ?_;refine bB hret [(0,_),(s,_),(h,_),(e,_),(j,_),(j2,_)] ?_;exact .inr (.inl ⟨hbar,hno,rfl,rfl⟩)
    ·try simp only [cA]
     refine bS (env':=[_,_,_,_,_,_,_,_,_,_,_,_,_,_,_,_,_,_,_,_,_,_,_,_,_,_,_,_,_,_,_,_,_,_,_,_,_,_]) Z ?_;refine ad [[1,30],[5,25],[5,25]] ?_;refine bX (pend':=[⟨7,[25],[]⟩,⟨6,[25],[]⟩,⟨5,[30],[]⟩]) [] Z Z Z Z Z (yL Z TyZA.h) (fun _=>zu rfl tQ) sQ fun j8 hj8=>?_;refine bR (pend':=[⟨7,[25],[]⟩]) [11,31] Z Z (zX Z Z zi.h Z Z mQ Z) ?_;refine ad [[13,32],[14]] ?_;refine au 2 ?_;refine bL [0,1,5,2,3,6,4,7,8] ?_;refine ad [[3,11],[10,33],[3,11],[10,35],[1,8]] ?_;refine TD.as (pend':=[⟨4,[8],[]⟩,⟨3,[35],[(_,_)]⟩,⟨2,[11],[]⟩]) [34] Z Z (zD Z Z) ?_;refine TD.as (pend':=[⟨4,[8],[]⟩]) [36] Z Z (zD Z Z) ?_;refine ad [[13,37],[13],[14]] ?_;refine au 0 ?_;refine bB hret [(jw,_),(0,_),(s,_),(h,_),(e,_),(j,_),(j2,_)] ?_;exact .inr (.inr ⟨hbar,w,q,jw,hso,rfl,rfl⟩)
   ·refine vm Z (yL Z TyZA.h) (fun _=>zu rfl tQ) sQ fun j8 hj8=>?_;refine bQ (pend':=[]) [26,27,29] Z Z Z Z Z ((vd hT hbb hcc hss).mono (fun _ _ h=>wI h)) (fun r10 K11 h12=>⟨?_,?_⟩)
    ·rcases h12 with ⟨hno,rfl,rfl⟩ | ⟨w,q,jw,hso,rfl,rfl⟩;all_goals simp
    rcases h12 with ⟨hno,rfl,rfl⟩ | ⟨w,q,jw,hso,rfl,rfl⟩
    ·try simp only [cA]
     refine bS tQ ?_;refine ad [[1,30],[5,25],[5,25]] ?_;refine bR (pend':=[⟨7,[25],[]⟩]) [11,31] Z Z (zX Z Z zi.h Z Z mQ Z) ?_;refine ad [[13,32],[14]] ?_;refine au 2 ?_;refine bL [0,1,5,2,3,6,4,7,8] ?_;refine ad [[3,11],[10,33],[3,11],[10,35],[1,8]] ?_;refine TD.as (pend':=[⟨4,[8],[]⟩,⟨3,[35],[(_,_)]⟩,⟨2,[11],[]⟩]) [34] Z Z (zD Z Z) ?_;refine TD.as (pend':=[⟨4,[8],[]⟩]) [36] Z Z (zD Z Z) ?_;refine ad [[13,37],[13],[14]] ?_;refine au 0 ?_;refine bB hret [(0,_),(s,_),(h,_),(e,_),(j,_),(j2,_)] ?_;exact .inr (.inl ⟨hbar,hno,rfl,rfl⟩)
    ·try simp only [cA]
     refine bS tQ ?_;refine ad [[1,30],[5,25],[5,25]] ?_;refine bR (pend':=[⟨7,[25],[]⟩]) [11,31] Z Z (zX Z Z zi.h Z Z mQ Z) ?_;refine ad [[13,32],[14]] ?_;refine au 2 ?_;refine bL [0,1,5,2,3,6,4,7,8] ?_;refine ad [[3,11],[10,33],[3,11],[10,35],[1,8]] ?_;refine TD.as (pend':=[⟨4,[8],[]⟩,⟨3,[35],[(_,_)]⟩,⟨2,[11],[]⟩]) [34] Z Z (zD Z Z) ?_;refine TD.as (pend':=[⟨4,[8],[]⟩]) [36] Z Z (zD Z Z) ?_;refine ad [[13,37],[13],[14]] ?_;refine au 0 ?_;refine bB hret [(jw,_),(0,_),(s,_),(h,_),(e,_),(j,_),(j2,_)] ?_;exact .inr (.inr ⟨hbar,w,q,jw,hso,rfl,rfl⟩)
  ·refine vm Z (yL Z TyZA.h) (fun _=>zu rfl tQ) sQ fun j8 hj8=>?_;refine bQ (pend':=[⟨1,[1],[]⟩,⟨0,[10],[(_,_)]⟩]) [28] Z Z Z Z Z (un hT oQ oQ) (fun r13 K14 h15=>⟨?_,?_⟩)
   ·rcases h15 with ⟨rfl,rfl⟩
    all_goals simp
   obtain ⟨rfl,rfl⟩:=h15;try simp only [cA]
   refine bS tQ ?_;refine bQ (pend':=[]) [26,27,29] Z Z Z Z Z ((vd hT hbb hcc hss).mono (fun _ _ h=>wI h)) (fun r16 K17 h18=>⟨?_,?_⟩)
   ·rcases h18 with ⟨hno,rfl,rfl⟩ | ⟨w,q,jw,hso,rfl,rfl⟩;all_goals simp
   rcases h18 with ⟨hno,rfl,rfl⟩ | ⟨w,q,jw,hso,rfl,rfl⟩
   ·try simp only [cA]
    refine bS tQ ?_;refine ad [[1,30],[5,25],[5,25]] ?_;refine bR (pend':=[⟨7,[25],[]⟩]) [11,31] Z Z (zX Z Z zi.h Z Z mQ Z) ?_;refine ad [[13,32],[14]] ?_;refine au 2 ?_;refine bL [0,1,5,2,3,6,4,7,8] ?_;refine ad [[3,11],[10,33],[3,11],[10,35],[1,8]] ?_;refine TD.as (pend':=[⟨4,[8],[]⟩,⟨3,[35],[(_,_)]⟩,⟨2,[11],[]⟩]) [34] Z Z (zD Z Z) ?_;refine TD.as (pend':=[⟨4,[8],[]⟩]) [36] Z Z (zD Z Z) ?_;refine ad [[13,37],[13],[14]] ?_;refine au 0 ?_;refine bB hret [(0,_),(s,_),(h,_),(e,_),(j,_),(j2,_)] ?_;exact .inr (.inl ⟨hbar,hno,rfl,rfl⟩)
   ·try simp only [cA]
    refine bS tQ ?_;refine ad [[1,30],[5,25],[5,25]] ?_;refine bR (pend':=[⟨7,[25],[]⟩]) [11,31] Z Z (zX Z Z zi.h Z Z mQ Z) ?_;refine ad [[13,32],[14]] ?_;refine au 2 ?_;refine bL [0,1,5,2,3,6,4,7,8] ?_;refine ad [[3,11],[10,33],[3,11],[10,35],[1,8]] ?_;refine TD.as (pend':=[⟨4,[8],[]⟩,⟨3,[35],[(_,_)]⟩,⟨2,[11],[]⟩]) [34] Z Z (zD Z Z) ?_;refine TD.as (pend':=[⟨4,[8],[]⟩]) [36] Z Z (zD Z Z) ?_;refine ad [[13,37],[13],[14]] ?_;refine au 0 ?_;refine bB hret [(jw,_),(0,_),(s,_),(h,_),(e,_),(j,_),(j2,_)] ?_;exact .inr (.inr ⟨hbar,w,q,jw,hso,rfl,rfl⟩)
 ·refine au 220661 ?_;intro j6 hj6;refine au 937142235170 ?_;constructor<;>intro hc0
  ·
   refine au 35555142 ?_;refine bB hret [(0,_),(s,_),(h,_),(e,_),(j,_),(j2,_)] ?_;exact .inl ⟨hbar,rfl,rfl⟩
  exact absurd hbar (by simpa using hc0)
theorem zcS {main:Bool} {T:Goroutine->Hp->Prop} (hT:zo tp main T)  {b:RBk} {s h e j j2:Nat} {l st:List Int} {et et2:TypeId} (hl:b.seams.length<=100) (hm:b.measures.length<=100) (hll:l.length<=1000) :
  zA tp T gmR 30 [.agg (zE b s h e),.sl j 0 l.length,.sl j2 0 st.length] [(0,zy),(s,zk b),(h,zB b),(e,zq b),(j,.cells (l.map intA) et false),(j2,.cells (st.map intA) et2 false)] (fun r K'=>(bar2 (zr b) (bar2 (cutsM b l) (shM b st))≠0/\r=.tup [.v (.slice none 0 0),zP false,intA (bar2 (zr b) (bar2 (cutsM b l) (shM b st)))]/\K'=[(0,zy),(s,zk b),(h,zB b),(e,zq b),(j,.cells (l.map intA) et false),(j2,.cells (st.map intA) et2 false)])\/(bar2 (zr b) (bar2 (cutsM b l) (shM b st))=0/\hangM b l st=none/\r=.tup [.v (.slice none 0 0),zP false,intA 0]/\K'=[(0,zy),(s,zk b),(h,zB b),(e,zq b),(j,.cells (l.map intA) et false),(j2,.cells (st.map intA) et2 false)])\/(bar2 (zr b) (bar2 (cutsM b l) (shM b st))=0/\∃ w q jr,hangM b l st=some (w,q)/\r=.tup [.row jr l.length,zP true,intA 0]/\K'=(jr,.row ((placesM b l st w).map intA) 3 1)::[(0,zy),(s,zk b),(h,zB b),(e,zq b),(j,.cells (l.map intA) et false),(j2,.cells (st.map intA) et2 false)])):=by
 refine zp 77 hT Tryz.func30 fun Y hret=>?_;refine au 21042 ?_;intro jb hjb;refine au 32013201680423555 ?_;refine bI Z Z Z (zt (l:=[_,_]) Z zF.h TyZ.h dQ dQ Z) (fun _=>zu rfl tQ) fun ja hja=>?_;refine bD Z Z Z Z (zaX hT (Kx:=[(j,.cells (l.map intA) et false),(j2,.cells (st.map intA) et2 false)]) (p1:=cutsM b l) (p2:=shM b st) hl hm (fun h0=>yx Cal.h ((kQ hT (zZ h0).sms.len.2 hll).frameP (R:=[(s,zk b),(j2,.cells (st.map intA) et2 false)]) (List.Perm.swap _ _ _))) (fun h0=>yx Cal.h ((zdb hT (zZ h0).rnd (zZ h0).sms).frameP (R:=[(j,.cells (l.map intA) et false)]) ((List.Perm.swap _ _ _).cons _)))) ?_;rintro r1 K2 h3;rcases h3 with ⟨⟨hbar,rfl⟩ | ⟨hbar,rfl⟩,rfl⟩
 ·refine au 220661 ?_;intro j6 hj6;refine au 937142235170 ?_;constructor<;>intro hc0
  ·exact absurd hc0 sQ
  have hbb:=zZ (kF hbar);have hcc:=wG (kF (kc hbar));have hss:=zfr (kc (kc hbar));have h5:=hbb.sms.len;have hsl:=hss.len;refine au 142120 ?_;refine bD Z Z Z Z (un hT oQ oQ) ?_;rintro r4 K5 ⟨rfl,rfl⟩;refine au 220 ?_;intro js hjs;refine au 6801680423170 ?_;refine bD Z Z Z Z ((vd hT hbb hcc hss).mono (fun _ _ h=>wI h)) ?_;rintro r7 K8 h9;rcases h9 with ⟨hno,rfl,rfl⟩ | ⟨w,q,jw,hso,rfl,rfl⟩
  ·refine au 220661 ?_;intro jw8 hjw8;refine au 93300142235170 ?_;constructor<;>intro hc1
   ·
    refine au 355542 ?_;refine bB hret [(0,_),(s,_),(h,_),(e,_),(j,_),(j2,_)] ?_;exact .inr (.inl ⟨hbar,hno,rfl,rfl⟩)
   exact absurd hc1 dQ
  ·refine au 220661 ?_;intro jw8 hjw8;refine au 93300142235170 ?_;constructor<;>intro hc1
   ·exact absurd hc1 dQ
   obtain ⟨hwl,hwb⟩:=zhU hbb hcc hss hso;refine au 542120 ?_;refine TK.virt 6 3 1 Z fun jr0 hjr0=>?_;refine au 1303128014223 ?_;refine bA [1,6,9,10,11,12,39,40,41] ?_;refine bC [(0,_),(s,_),(h,_),(e,_),(j,_),(j2,_),(jw,_),(jw8,_),(js,_),(j6,_),(jr0,_)] ?_;refine bE (fun n env K=>∃ (i jr:Nat) (at0:Int),n=l.length - i/\i<=l.length/\(i<l.length->at0+(if i=0 then 0 else togM b st (zN l (i - 1)).toNat (zN l i - zN l (i - 1)).toNat+zN w i)=atM b l st w i)/\(0<=at0/\at0<=1000)/\env=.any::.sl j 0 l.length::naL 4 (.row jr i::naL 2 (.ptr j6 0::.ptr js 0::.ptr jw8 0::intA at0::naL 26 (.sl j 0 l.length::intA l.length::intA i::naL 35 [])))/\K=[(0,zy),(s,zk b),(h,zB b),(e,zq b),(j,.cells (l.map intA) et false),(j2,.cells (st.map intA) et2 false),(jw,.cells (w.map intA) 3 false),(jw8,.cells [.sl jw 0 w.length,intA q] 125 true),(js,.cells (stC st) 129 true),(j6,.cells (zE b s h e) 113 true),(jr,.row (((List.range i).map (atM b l st w)).map intA) 3 1)]) l.length ⟨0,jr0,0,rfl,mN _,fun _=>rfl,⟨Int.le_refl _,by decide⟩,rfl,rfl⟩ fun n env K hI hnext=>?_;obtain ⟨i,jr,at0,rfl,hi,hat,hatb,rfl,rfl⟩:=hI;refine bG nQ ?_;refine au 923742 ?_;constructor<;>intro hc2
   ·have hil:i<l.length:=by simp at hc2; omega
    have qi:=hcc.lt hil;have hcl:=hcc.len;refine au 3601421302120 ?_;refine bH Z (zm Z Z zi.h mQ (yi (i:=i) (z6 hil) Z)) ?_;refine au 9371422355 ?_;constructor<;>intro hc3
    ·have hi0:0<i:=by simp at hc3; omega
     have qp:=hcc.lt (k:=i - 1) oQ;have hlt:=zhO hcc (k:=i - 1) oQ;rw [show i - 1+1=i by omega] at hlt;have htb:=za9 hbb hss (c:=(zN l (i - 1)).toNat) (zN l i - zN l (i - 1)).toNat;have hwi:0<=zN w i/\zN w i<=9:=hwb i;have hnew:=hat hil;rw [if_neg oQ] at hnew;refine TK.dr [0,1,2,3,4,5,6,7,8,9,10,11,12,13,14,16,17,18,19,20,15,21,22,23] [0,1,2,3,4,5,6,7,8,9,10,11,12,13,14,15,16,17,18,19,20,21,22,23] ?_;refine ad [[1,12],[12,9],[1,1],[1,13],[9,51],[2,50,52]] ?_;refine bT [53] Z (hq:=zm Z Z zi.h (mC _) (yi (i:=i - 1) (z6 oQ) oQ)) (h:=?_);refine ad [[1,14],[1,1],[1,13],[9,57],[2,56,58]] ?_;refine bT [59] Z (hq:=zm Z Z zi.h (mC _) (yi (i:=i - 1) (z6 oQ) oQ)) (h:=?_);refine ad [[9,55,60],[12,10],[3,11],[10,64],[1,13],[2,65,66]] ?_;refine bT [67] Z (hq:=zm Z Z zi.h (mC _) (yi (i:=i) (z6 (l:=w) oQ) Z)) (h:=?_);refine bQ (pend':=[⟨20,[67],[(_,_)]⟩,⟨19,[65,66],[]⟩,⟨18,[13],[]⟩,⟨17,[64],[(_,_)]⟩,⟨16,[11],[]⟩,⟨12,[59],[(_,_)]⟩,⟨11,[56,58],[]⟩,⟨10,[57],[]⟩,⟨9,[13],[]⟩,⟨8,[1],[]⟩,⟨7,[14],[]⟩,⟨5,[50,52],[]⟩,⟨4,[51],[]⟩,⟨3,[13],[]⟩,⟨2,[1],[]⟩,⟨0,[12],[]⟩]) [49,54,61,62] Z Z Z Z Z (zfw hT (c:=zN l (i - 1)) (k:=zN l i - zN l (i - 1)) hbb hss oQ oQ) (fun r10 K11 h12=>⟨?_,?_⟩)
     ·rcases h12 with ⟨rfl,rfl⟩
      all_goals simp
     obtain ⟨rfl,rfl⟩:=h12;try simp only [cA]
     refine bS tQ ?_;refine ad [[8,63,68],[8,48,69],[13,70],[14]] ?_;refine au 114 ?_;refine bI Z Z Z (zt (l:=[_]) Z zF.h TyZ.h dQ dQ Z) (fun _=>zu rfl tQ) fun j13 hj13=>?_;refine bO Z Z Z (a_app Z ApOf.h Z mQ sQ Z (yw (ln:=[_]) mQ dQ sQ Z) oQ Z (by unfold maxLen; omega) oQ) (fun _=>uQ) (fun _=>zu rfl tQ) fun jr2=>?_;refine au 31230414035 ?_;refine bA [1,6,9,10,11,12,39,40,41] ?_;refine bC [(0,_),(s,_),(h,_),(e,_),(j,_),(j2,_),(jw,_),(jw8,_),(js,_),(j6,_),(jr2,_)] ?_;exact hnext _ _ _ oQ ⟨i+1,jr2,atM b l st w i,rfl,oQ,fun hh=>by rw [if_neg oQ]; rfl,by have:=at_bd hbb hcc hss hwb i hil; omega,by rw [hnew]; rfl,by rw [hnew,List.range_succ,lM,lM]; rfl⟩
    obtain rfl:i=0:=by simp at hc3; omega
    have hnew:at0=atM b l st w 0:=by have:=hat hil; rw [if_pos rfl,Int.add_zero] at this; exact this
    refine au 114120 ?_;refine bI Z Z Z (zt (l:=[_]) Z zF.h TyZ.h dQ dQ Z) (fun _=>zu rfl tQ) fun j14 hj14=>?_;refine bO Z Z Z (a_app Z ApOf.h Z mQ sQ Z (yw (ln:=[_]) mQ dQ sQ Z) oQ Z (by unfold maxLen; omega) oQ) (fun _=>uQ) (fun _=>zu rfl tQ) fun jr2=>?_;refine au 31230414035 ?_;refine bA [1,6,9,10,11,12,39,40,41] ?_;refine bC [(0,_),(s,_),(h,_),(e,_),(j,_),(j2,_),(jw,_),(jw8,_),(js,_),(j6,_),(jr2,_)] ?_;exact hnext _ _ _ oQ ⟨0+1,jr2,atM b l st w 0,rfl,oQ,fun hh=>by rw [if_neg oQ]; rfl,by have:=at_bd hbb hcc hss hwb 0 hil; omega,by rw [hnew]; rfl,by rw [hnew,List.range_succ,lM,lM]; rfl⟩
   obtain rfl:i=l.length:=by simp at hc2; omega
   refine au 3555142160 ?_;refine bB hret [(jr,_),(0,_),(s,_),(h,_),(e,_),(j,_),(j2,_)] ?_;exact .inr (.inr ⟨hbar,w,q,jr,hso,rfl,rfl⟩)
 ·refine au 220661 ?_;intro j6 hj6;refine au 937142235170 ?_;constructor<;>intro hc0
  ·
   refine au 3555142 ?_;refine bB hret [(0,_),(s,_),(h,_),(e,_),(j,_),(j2,_)] ?_;exact .inl ⟨hbar,rfl,rfl⟩
  exact absurd hbar (by simpa using hc0)
theorem zgQ {Ψ:Goroutine->World->Prop} {b:RBk} {s h e:Nat} (hl:b.seams.length<=100) (hm:b.measures.length<=100) :
  zA tp (BT tp Ψ) gmR 32 [.agg (zE b s h e)] [(0,zy),(s,zk b),(h,zB b),(e,zq b)] (fun r K'=>(zr b≠0/\r=.tup [.v (.slice none 0 0),intA 0,zP false,intA (zr b)]/\K'=[(0,zy),(s,zk b),(h,zB b),(e,zq b)])\/(zr b=0/\zf b=[]/\r=.tup [.v (.slice none 0 0),intA 0,zP false,intA 9]/\K'=[(0,zy),(s,zk b),(h,zB b),(e,zq b)])\/(zr b=0/\zf b≠[]/\((NoPlan b (zf b)/\r=.tup [.v (.slice none 0 0),intA 0,zP false,intA 0]/\K'=[(0,zy),(s,zk b),(h,zB b),(e,zq b)])\/∃ c jc ec,PlanA b (zf b) cheaperM c/\r=.tup [.sl jc 0 (zw c b.seams.length).length,intA (sqHi b (zf b) (zw c b.seams.length)),zP true,intA 0]/\K'=(jc,.cells ((zw c b.seams.length).map intA) ec false)::[(0,zy),(s,zk b),(h,zB b),(e,zq b)]))):=by
 have hT:=kI (P:=tp) Ψ;refine zp 26 hT Tryz.func32 fun Y hret=>?_;refine au 21042 ?_;intro jb hjb;refine au 6804235555 ?_;refine bD Z Z Z Z (wl hT (Kx:=[]) hl hm) ?_;rintro r1 K2 h3;rcases h3 with ⟨hbar,rfl,rfl⟩ | ⟨hbar,hnil,rfl,rfl⟩ | ⟨hbar,hne,a,rfl,rfl⟩
 ·refine au 220661 ?_;intro j6 hj6;refine au 937142235170 ?_;constructor<;>intro hc0
  ·
   refine au 35555142 ?_;refine bB hret [(0,_),(s,_),(h,_),(e,_)] ?_;exact .inl ⟨hbar,rfl,rfl⟩
  exact absurd hbar (by simpa using hc0)
 ·refine au 220661 ?_;intro j6 hj6;refine au 937142235170 ?_;constructor<;>intro hc0
  ·
   refine au 35555142 ?_;refine bB hret [(0,_),(s,_),(h,_),(e,_)] ?_;exact .inr (.inl ⟨hbar,hnil,rfl,rfl⟩)
  exact absurd hc0 dQ
 ·refine au 220661 ?_;intro j6 hj6;refine au 937142235170 ?_;constructor<;>intro hc0
  ·exact absurd hc0 sQ
  have hbb:=zZ hbar;have hlen:=kg hbb;have hpos:0<(zf b).length:=List.length_pos_iff.2 hne;have hall:okAll b (zf b):=fun st hst=>(y8 hbb hst).1;refine au 68042120 ?_;refine bD Z Z Z Z (uR (bt:=cheaperM) hbb hall hlen hpos zb1 (fun _ _ _ _ _ _=>zdl _ _) (fun hT1 jr cs cost cs0 cost0 j0 e0 hlen=>yx Cal.h (zeb hT1 oQ))) ?_;rintro r4 K5 h6;rcases h6 with ⟨rfl,rfl,hno⟩ | ⟨c,jc,ec,hq0,hq1,hok,hbest,rfl,rfl⟩
  ·refine au 220661 ?_;intro j7 hj7;refine au 235170 ?_;refine bL [0,1,5,2,3,6,4,7,8] ?_;refine ad [[3,7],[10,21],[3,7],[10,23],[1,4]] ?_;refine TD.as (pend':=[⟨4,[4],[]⟩,⟨3,[23],[(_,_)]⟩,⟨2,[7],[]⟩]) [22] Z Z (zD Z Z) ?_;refine TD.as (pend':=[⟨4,[4],[]⟩]) [24] Z Z (zD Z Z) ?_;refine ad [[13,25],[13],[14]] ?_;refine au 0 ?_;refine bB hret [(0,_),(s,_),(h,_),(e,_)] ?_;exact .inr (.inr ⟨hbar,hne,.inl ⟨hno,rfl,rfl⟩⟩)
  ·refine au 220661 ?_;intro j7 hj7;refine au 235170 ?_;refine bL [0,1,5,2,3,6,4,7,8] ?_;refine ad [[3,7],[10,21],[3,7],[10,23],[1,4]] ?_;refine TD.as (pend':=[⟨4,[4],[]⟩,⟨3,[23],[(_,_)]⟩,⟨2,[7],[]⟩]) [22] Z Z (zD Z Z) ?_;refine TD.as (pend':=[⟨4,[4],[]⟩]) [24] Z Z (zD Z Z) ?_;refine ad [[13,25],[13],[14]] ?_;refine au 0 ?_;refine bB hret [(jc,_),(0,_),(s,_),(h,_),(e,_)] ?_;exact .inr (.inr ⟨hbar,hne,.inr ⟨c,jc,ec,⟨hq0,hq1,hok,hbest⟩,rfl,rfl⟩⟩)
theorem zeP {Ψ:Goroutine->World->Prop} {b:RBk} {s h e:Nat} (hl:b.seams.length<=100) (hm:b.measures.length<=100) :
  zA tp (BT tp Ψ) gmR 34 [.agg (zE b s h e)] [(0,zy),(s,zk b),(h,zB b),(e,zq b)] (fun r K'=>(zr b≠0/\r=.tup [.v (.slice none 0 0),zP false,intA (zr b)]/\K'=[(0,zy),(s,zk b),(h,zB b),(e,zq b)])\/(zr b=0/\zf b=[]/\r=.tup [.v (.slice none 0 0),zP false,intA 9]/\K'=[(0,zy),(s,zk b),(h,zB b),(e,zq b)])\/(zr b=0/\zf b≠[]/\((NoPlan b (zf b)/\r=.tup [.v (.slice none 0 0),zP false,intA 0]/\K'=[(0,zy),(s,zk b),(h,zB b),(e,zq b)])\/∃ c jc ec,PlanA b (zf b) shorterM c/\r=.tup [.sl jc 0 (zw c b.seams.length).length,zP true,intA 0]/\K'=(jc,.cells ((zw c b.seams.length).map intA) ec false)::[(0,zy),(s,zk b),(h,zB b),(e,zq b)]))):=by
 have hT:=kI (P:=tp) Ψ;refine zp 23 hT Tryz.func34 fun Y hret=>?_;refine au 21042 ?_;intro jb hjb;refine au 680423555 ?_;refine bD Z Z Z Z (wl hT (Kx:=[]) hl hm) ?_;rintro r1 K2 h3;rcases h3 with ⟨hbar,rfl,rfl⟩ | ⟨hbar,hnil,rfl,rfl⟩ | ⟨hbar,hne,a,rfl,rfl⟩
 ·refine au 220661 ?_;intro j6 hj6;refine au 937142235170 ?_;constructor<;>intro hc0
  ·
   refine au 3555142 ?_;refine bB hret [(0,_),(s,_),(h,_),(e,_)] ?_;exact .inl ⟨hbar,rfl,rfl⟩
  exact absurd hbar (by simpa using hc0)
 ·refine au 220661 ?_;intro j6 hj6;refine au 937142235170 ?_;constructor<;>intro hc0
  ·
   refine au 3555142 ?_;refine bB hret [(0,_),(s,_),(h,_),(e,_)] ?_;exact .inr (.inl ⟨hbar,hnil,rfl,rfl⟩)
  exact absurd hc0 dQ
 ·refine au 220661 ?_;intro j6 hj6;refine au 937142235170 ?_;constructor<;>intro hc0
  ·exact absurd hc0 sQ
  have hbb:=zZ hbar;have hlen:=kg hbb;have hpos:0<(zf b).length:=List.length_pos_iff.2 hne;have hall:okAll b (zf b):=fun st hst=>(y8 hbb hst).1;refine au 68042120 ?_;refine bD Z Z Z Z (uR (bt:=shorterM) hbb hall hlen hpos uw (zbV hbb) (fun hT1 jr cs cost cs0 cost0 j0 e0 hlen=>yx Cal.h (za5 hT1 oQ))) ?_;rintro r4 K5 h6;rcases h6 with ⟨rfl,rfl,hno⟩ | ⟨c,jc,ec,hq0,hq1,hok,hbest,rfl,rfl⟩
  ·refine au 220661 ?_;intro j7 hj7;refine au 355516906704235170 ?_;refine bB hret [(0,_),(s,_),(h,_),(e,_)] ?_;exact .inr (.inr ⟨hbar,hne,.inl ⟨hno,rfl,rfl⟩⟩)
  ·refine au 220661 ?_;intro j7 hj7;refine au 355516906704235170 ?_;refine bB hret [(jc,_),(0,_),(s,_),(h,_),(e,_)] ?_;exact .inr (.inr ⟨hbar,hne,.inr ⟨c,jc,ec,⟨hq0,hq1,hok,hbest⟩,rfl,rfl⟩⟩)
theorem zfz {Ψ:Goroutine->World->Prop} {b:RBk} {s h e:Nat} (hl:b.seams.length<=100) (hm:b.measures.length<=100) :
  zA tp (BT tp Ψ) gmR 36 [.agg (zE b s h e)] [(0,zy),(s,zk b),(h,zB b),(e,zq b)] (fun r K'=>(zr b≠0/\r=.tup [intA 0,zP false,intA (zr b)]/\K'=[(0,zy),(s,zk b),(h,zB b),(e,zq b)])\/(zr b=0/\zf b=[]/\r=.tup [intA 0,zP false,intA 9]/\K'=[(0,zy),(s,zk b),(h,zB b),(e,zq b)])\/(zr b=0/\zf b≠[]/\r=.tup [intA ((widestM b (zf b)).getD 0),zP (widestM b (zf b)).isSome,intA 0]/\K'=[(0,zy),(s,zk b),(h,zB b),(e,zq b)])):=by
 have hT:=kI (P:=tp) Ψ;refine zp 33 hT Tryz.func36 fun Y hret=>?_;refine au 21042 ?_;intro jb hjb;refine au 680423555 ?_;refine bD Z Z Z Z (wl hT (Kx:=[]) hl hm) ?_;rintro r1 K2 h3;rcases h3 with ⟨hbar,rfl,rfl⟩ | ⟨hbar,hnil,rfl,rfl⟩ | ⟨hbar,hne,a,rfl,rfl⟩
 ·refine au 220661 ?_;intro j5 hj5;refine au 937142235170 ?_;constructor<;>intro hc0
  ·
   refine au 3555142 ?_;refine bB hret [(0,_),(s,_),(h,_),(e,_)] ?_;exact .inl ⟨hbar,rfl,rfl⟩
  exact absurd hbar (by simpa using hc0)
 ·refine au 220661 ?_;intro j5 hj5;refine au 937142235170 ?_;constructor<;>intro hc0
  ·
   refine au 3555142 ?_;refine bB hret [(0,_),(s,_),(h,_),(e,_)] ?_;exact .inr (.inl ⟨hbar,hnil,rfl,rfl⟩)
  exact absurd hc0 dQ
 ·refine au 220661 ?_;intro j5 hj5;refine au 937142235170 ?_;constructor<;>intro hc0
  ·exact absurd hc0 sQ
  have hbb:=zZ hbar;have hlen:=kg hbb;have hpos:0<(zf b).length:=List.length_pos_iff.2 hne;have hall:okAll b (zf b):=fun st hst=>(y8 hbb hst).1;have hst:=hbb.rnd.steps;refine au 13035422120 ?_;refine bA [1,2,3,4,5] ?_;refine bC [(a,_),(0,_),(s,_),(h,_),(e,_),(jb,_),(j5,_)] ?_;refine bE (fun n env K=>∃ (k:Nat) (r0:Int),n=k/\b.steps+k<=41/\widestL b (zf b) k=widestM b (zf b)/\env=.any::.ptr jb 0::intA (b.steps+(k:Int) - 1)::zP false::intA 0::.ptr j5 0::naL 27 []/\K=[(a,allO (zf b)),(0,zy),(s,zk b),(h,zB b),(e,zq b),(jb,.cells (zE b s h e) 26 true),(j5,.cells (knownC (atRound b r0) s h e a (zf b).length) 139 true)]) (41 - b.steps).toNat ⟨(41 - b.steps).toNat,b.round,rfl,oQ,rfl,by rw [show b.steps+((41 - b.steps).toNat:Int) - 1=40 by omega]; rfl,rfl⟩ fun n env K hI hnext=>?_;obtain ⟨k1,r0,hn1,hk,hw,rfl,rfl⟩:=hI;subst n;refine bG nQ ?_;refine au 9376906701422 ?_;constructor<;>intro hc1
  ·obtain ⟨k,rfl⟩:∃ k,k1=k+1:=⟨k1 - 1,by simp at hc1; omega⟩;have hkk:b.steps+((k+1:Nat):Int) - 1=b.steps+(k:Int):=by omega
   rw [hkk];refine au 6804231706706706701421302120 ?_;refine bD Z Z Z Z (uR (b:=atRound b (b.steps+k)) (bt:=shorterM) (zca hbb oQ oQ) (zgO hall _) hlen hpos uw (zbV (zca hbb oQ oQ)) (fun hT1 jr cs cost cs0 cost0 j0 e0 hlen=>yx Cal.h (za5 hT1 oQ))) ?_;rintro r4 K5 h6;rcases h6 with ⟨rfl,rfl,hno⟩ | ⟨c,jc,ec,hq0,hq1,hok,hbest,rfl,rfl⟩
   ·refine au 220661 ?_;intro j7 hj7;refine au 9314235170 ?_;constructor<;>intro hc2
    ·cases hc2
    refine au 3524014140120 ?_;refine bA [1,2,3,4,5] ?_;refine bC [(a,_),(0,_),(s,_),(h,_),(e,_),(jb,_),(j5,_)] ?_;exact hnext _ _ _ oQ ⟨k,b.steps+(k:Int),rfl,oQ,by rw [<- hw,show widestL b (zf b) (k+1)=widestL b (zf b) k from if_neg (by rw [zgS (b:=b) hno]; decide)],rfl,rfl⟩
   ·refine au 220661 ?_;intro j7 hj7;refine au 9314235170 ?_;constructor<;>intro hc2
    ·
     refine au 3555142 ?_;refine bB hret [(0,_),(s,_),(h,_),(e,_)] ?_;exact .inr (.inr ⟨hbar,hne,by rw [<- hw,show widestL b (zf b) (k+1)=some (b.steps+k) from if_pos (zgT hq0 hq1 hok)]; rfl,rfl⟩)
    cases hc2
  obtain rfl:k1=0:=by simp at hc1; omega
  refine au 355542160 ?_;refine bB hret [(0,_),(s,_),(h,_),(e,_)] ?_;exact .inr (.inr ⟨hbar,hne,by rw [<- hw]; rfl,rfl⟩)
theorem uA:tp.underlying 129=some (.array 5 3):=by kernel_rfl
theorem u3:tp.underlying 3=some (.int .i64):=by kernel_rfl
theorem i3:tp.info? 3=some Tryz.t3:=by kernel_rfl
theorem i3s:Tryz.t3.size=1:=by kernel_rfl
theorem za0 {P:Program} {t:TypeId} {i:TypeInfo} (h:P.info? t=some i):zR P (sizeOf t)=some i.size:=by
 unfold sizeOf typeInfo
 show zR P ((match P.info? t with | some i=>pure i | none=>stuck "no such type") >>= fun i=>pure i.size)=_
 rw [h]; rfl
theorem zhR {d:Nat} {a b:Int}:zR tp (Op.equalIn (d+1) 3 (.int .i64 a) (.int .i64 b))=some (a==b):=by
 unfold Op.equalIn;exact zL (z7 u3) rfl
theorem km {cs:Array Value} {off:Nat} {v:Value} (h:cs[off]? =some v):zR tp (part 3 cs off)=some v:=by
 unfold part isAgg;refine zL (a:=false) ?_ ?_
 ·exact zL (z7 u3) rfl
 ·simp [h]; rfl
theorem uu {α β:Type} {P:Program} (s:Sem α) (f:α->Sem β):zR P (s >>= f)=(zR P s).bind fun a=>zR P (f a):=by
 show zR P (s.bind f)=_
 induction s with
 | pure a=>rfl
 | program k ih=>exact ih P
 | _=>rfl
theorem za1 {α:Type} {P:Program} (a:α):zR P (pure a)=some a:=rfl
def stV (s:List Int):Value:=.agg #[.int .i64 (s.getD 0 0),.int .i64 (s.getD 1 0),.int .i64 (s.getD 2 0),.int .i64 (s.getD 3 0),.int .i64 (s.getD 4 0)]
def eqSt (s t:List Int):Bool:=(s.getD 0 0==t.getD 0 0)&&((s.getD 1 0==t.getD 1 0)&&((s.getD 2 0==t.getD 2 0)&&((s.getD 3 0==t.getD 3 0)&&(s.getD 4 0==t.getD 4 0))))
theorem zhQ {d:Nat} {a0 a1 a2 a3 a4 b0 b1 b2 b3 b4:Int}:zR tp (Op.equalIn (d+2) 129 (.agg #[.int .i64 a0,.int .i64 a1,.int .i64 a2,.int .i64 a3,.int .i64 a4]) (.agg #[.int .i64 b0,.int .i64 b1,.int .i64 b2,.int .i64 b3,.int .i64 b4]))=some (a0==b0&&(a1==b1&&(a2==b2&&(a3==b3&&a4==b4)))):=by
 unfold Op.equalIn;refine zL (z7 uA) ?_;dsimp only;refine zL (za0 i3) ?_;rw [i3s];simp only [Std.Legacy.Range.forIn_eq_forIn_range',Std.Legacy.Range.size,Nat.sub_zero,Nat.add_sub_cancel,Nat.div_one];simp [List.range'];have p0:=fun a b c d e:Value=>km (cs:=#[a,b,c,d,e]) (off:=0) rfl;have p1:=fun a b c d e:Value=>km (cs:=#[a,b,c,d,e]) (off:=1) rfl;have p2:=fun a b c d e:Value=>km (cs:=#[a,b,c,d,e]) (off:=2) rfl;have p3:=fun a b c d e:Value=>km (cs:=#[a,b,c,d,e]) (off:=3) rfl;have p4:=fun a b c d e:Value=>km (cs:=#[a,b,c,d,e]) (off:=4) rfl;have e:=fun a b:Int=>zhR (d:=d) (a:=a) (b:=b);rcases h1:(a0==b0) <;> rcases h2:(a1==b1) <;> rcases h3:(a2==b2) <;> rcases h4:(a3==b3) <;> rcases h5:(a4==b4) <;> simp [uu,za1,p0,p1,p2,p3,p4,e,h1,h2,h3,h4,h5]
theorem eq_st (s t:List Int):zR tp (Op.equal 129 (stV s) (stV t))=some (eqSt s t):=zhQ (d:=9998)
theorem zeJ {d:Nat} {e:Bool} {a:Int}:zR tp (Instr.checkKey e (d+1) 3 (.int .i64 a))=some ():=by
 unfold Instr.checkKey;exact zL (z7 u3) rfl
theorem zfJ {e:Bool} (s:List Int):zR tp (Instr.checkKey e 10000 129 (stV s))=some ():=by
 show zR tp (Instr.checkKey e (9998+2) 129 (stV s))=some ();unfold Instr.checkKey;refine zL (z7 uA) ?_;unfold stV;dsimp only;simp only [Std.Legacy.Range.forIn_eq_forIn_range',Std.Legacy.Range.size,Nat.sub_zero,Nat.add_sub_cancel,Nat.div_one];simp [List.range'];have p0:=fun a b c d e:Value=>km (cs:=#[a,b,c,d,e]) (off:=0) rfl;have p1:=fun a b c d e:Value=>km (cs:=#[a,b,c,d,e]) (off:=1) rfl;have p2:=fun a b c d e:Value=>km (cs:=#[a,b,c,d,e]) (off:=2) rfl;have p3:=fun a b c d e:Value=>km (cs:=#[a,b,c,d,e]) (off:=3) rfl;have p4:=fun a b c d e:Value=>km (cs:=#[a,b,c,d,e]) (off:=4) rfl;have hs:zR tp (sizeOf 3)=some 1:=by rw [za0 i3,i3s]
 have ck:=fun (e:Bool) (a:Int)=>zeJ (d:=9998) (e:=e) (a:=a);simp [uu,za1,p0,p1,p2,p3,p4,hs,ck]
theorem zb9 {s:List Int}:∀ (es:List MapEntry) (ks:List (List Int)) (i:Nat),es.map (·.key)=ks.map stV->(∀ t∈ks,eqSt s t=false)->zR tp (Instr.findAsking 129 (stV s) es i)=some none
 | [],_,_,_,_=>rfl
 | en::es,[],_,h,_=>by simp at h
 | en::es,t::ks,i,h,hk=>by
  simp only [List.map_cons,List.cons.injEq] at h;unfold Instr.findAsking;refine zL (a:=false) ?_ ?_
  ·rw [h.1,eq_st,hk t sQ]
  ·simp only [Bool.false_eq_true,if_false];exact zb9 es ks (i+1) h.2 fun t ht=>hk t (by simp [ht])
def MapS (ob:Obj) (ks:List (List Int)):Prop:=∃ es clock,ob=.map es clock/\es.toList.map (·.key)=ks.map stV
def upS (ob:Obj) (s:List Int):Obj:=match ob with
 | .map es clock=>.map (es.push { key:=stV s,val:=.bool true,born:=clock }) (clock+1)
 | ob=>ob
theorem zf7:MapS (.map #[] 0) []:=⟨#[],0,rfl,rfl⟩
theorem zhd {ob:Obj} {ks:List (List Int)} {s:List Int} (h:MapS ob ks):MapS (upS ob s) (ks++[s]):=by
 obtain ⟨es,c,rfl,h⟩:=h;exact ⟨_,_,rfl,by rw [Array.toList_push,lM,lM,h]; rfl⟩
section
variable {P:Program} {gm:Nat->Option Nat} {V:KV} {env:List AV} {o:Oper}
structure KeyOk (P:Program):Prop where
 u:P.underlying 129=some (.array 5 3)
 ck:∀ s,zR P (Instr.checkKey false 10000 129 (stV s))=some ()
 fa:∀ (s:List Int) (es:List MapEntry) (ks:List (List Int)) (i:Nat),es.map (·.key)=ks.map stV->(∀ t∈ks,eqSt s t=false)->zR P (Instr.findAsking 129 (stV s) es i)=some none
theorem keyOk:KeyOk tp:=⟨uA,zfJ,fun s es ks i=>zb9 es ks i⟩
theorem zhV {φ:Nat->Loc3} {n:Nat} {s:List Int} {y:Value} (h:RelV φ n (.agg (stC s)) y):y=stV s:=by
 obtain ⟨ys,rfl,h1,h2⟩:=zaf h;have hsz:ys.size=5:=h1.symm;have g:∀ i:Nat,i<5->ys[i]? =some (.int .i64 (s.getD i 0)):=fun i hi=>by
  have hy:ys[i]? =some ys[i]:=mD oQ;have hs:(stC s)[i]? =some (slotR s i):=by
   have:i=0\/i=1\/i=2\/i=3\/i=4:=by omega
   rcases this with rfl | rfl | rfl | rfl | rfl <;> rfl
  have:=inv_v (h2 i _ _ hs hy);rw [hy,this]
 unfold stV;congr 1;refine Array.ext (by simpa using hsz) fun i hi1 hi2=>?_;have h5:i<5:=by omega
 have hh:=g i h5;rw [mD hi1] at hh;rw [Option.some.inj hh];have:i=0\/i=1\/i=2\/i=3\/i=4:=by omega
 rcases this with rfl | rfl | rfl | rfl | rfl <;> rfl
theorem zc3 (hP:KeyOk P) {t et:TypeId} {x y:Operand} {j:Nat} {ob:Obj} {s:List Int} {ks:List (List Int)} (ho:o.op=.mapUpdate t x y (.const (.bool true))) (hx:zn gm env x=some (.map j)) (hy:zn gm env y=some (.agg (stC s))) (ht:P.underlying t=some (.map 129 et)) (hm:(j,.raw ob)∈V) (hf:MapS ob ks) (hn:∀ k∈ks,eqSt s k=false) :
  ∀ A,zM V A->OpOk P gm env A o .any (A.set j (.raw (upS ob s))):=fun A hA φ F H a hg hH hE=>by
 unfold execOp; rw [ho];refine wpS_u ?_;have h1:=zz hg hE x;rw [zx hx] at h1;obtain ⟨hj,e1⟩:=zag h1;have h2:=zz hg hE y;rw [zx hy] at h2;rw [e1,zhV h2];obtain ⟨es,c,rfl,hk⟩:=hf;have hb:H (φ j).blk=some (true,.map es c):=hH.obj j _ (hA.get hm);have hend:zV φ A F .any (A.set j (.raw (upS (.map es c) s))) .skip (H.put (φ j).blk (true,upS (.map es c) s)) :=
  ⟨undef,φ,.inr ⟨rfl,rfl⟩,Agr.refl _ _,by simp,hH.set (hA.get hm) rfl trivial (Hp.put_same _ _ _),.any _⟩
 unfold Instr.mapUpdate;refine zd _ _ _ (zC ht ?_);dsimp only;refine zd _ _ _ ?_;refine ⟨true,_,hb,rfl,rfl,?_⟩;refine zd _ _ _ (wU _ (hP.ck s) ?_);refine zd _ _ _ ?_;unfold Instr.findKey;refine zd _ _ _ (zC hP.u ?_);have key:∀ (Q:Option (Nat×Value)->Hp->Prop),Q none H->wpS P (match Instr.findNow (.array 5 3) (stV s) es.toList 0 with | some r=>pure r | none=>Instr.findAsking 129 (stV s) es.toList) H Q:=fun Q hq=>by
  cases hes:es.toList with
  | nil=>exact hq
  | cons en r =>
   have:Instr.findNow (.array 5 3) (stV s) (en::r) 0=none:=rfl;rw [this];exact wU _ (hP.fa s _ ks 0 (by rw [<- hes]; exact hk) hn) hq
 refine key _ ?_;refine ⟨_,hb,rfl,rfl,?_⟩;exact hend
theorem zfi {t kt et:TypeId} {x:Operand} {j:Nat} {ob:Obj} {ks:List (List Int)} (ho:o.op=.call { callee:=.builtin .len,args:=#[x],argTypes:=#[t] }) (hx:zn gm env x=some (.map j)) (ht:P.underlying t=some (.map kt et)) (hm:(j,.raw ob)∈V) (hf:MapS ob ks) :
  Qk P gm env V o (.v (.int .i64 ks.length)):=fun A hA φ F H a hg hH hE=>by
 rw [yB ho];have h1:=zz hg hE x;rw [zx hx] at h1;obtain ⟨hj,e1⟩:=zag h1;obtain ⟨es,c,rfl,hk⟩:=hf;have hb:H (φ j).blk=some (true,.map es c):=hH.obj j _ (hA.get hm);simp only [builtin,List.map_toArray,List.map_cons,List.map_nil,e1];refine wpS_v ?_;show wpS _ (underlying t >>= _) H _;refine zd _ _ _ (zC ht ?_);refine zd _ _ _ ?_;refine ⟨true,_,hb,rfl,rfl,?_⟩;have hl:es.size=ks.length:=by have:=congrArg List.length hk; simpa using this
 show zV _ _ _ _ _ (.value (goInt es.size)) H;rw [hl];exact zV.quiet hH (.v _)
end
end Go.Vel
namespace Go.Vel
open Go Go.Conc
section
variable {P:Program} {gm:Nat->Option Nat} {env:List AV} {A A':List AObj} {o:Oper} {V:KV}
theorem zgg {d:Operand} {t e:TypeId} {ti:TypeInfo} {z:Value} {i off m:Nat} (ho:o.op=.call { callee:=.builtin .clear,args:=#[d],argTypes:=#[t] }) (ht:P.underlying t=some (.slice e)) (hi:P.info? e=some ti) (hz:ti.zero=some z) (hzc:z.cells=#[.int .i64 0]) (hd:zI gm env d=.sl i off m) (hm:0<m) (hs:storeA A i off (mB m (.v (.int .i64 0)))=some A') :
  OpOk P gm env A o (.tup []) A':=fun φ F H a hg hH hE=>by
 rw [yB ho];have hd':=zz hg hE d;rw [hd] at hd';obtain ⟨hil,cap,b,hlc,hb,ed⟩:=uJ hd';simp only [builtin,List.map_toArray,List.map_cons,List.map_nil];refine wpS_v ?_;rw [ed,hb hm];obtain ⟨m',rfl⟩:∃ m',m=m'+1:=⟨m - 1,oQ⟩;unfold Builtin.clear_;dsimp only;show wpS P (underlying t >>= _) H _;refine zd _ _ _ (zC ht ?_);refine zd _ _ _ (y7 hi hz ?_);have hzz:(Builtin.zeroCells z.cells (m'+1)).toList=(Array.replicate (m'+1) (Value.int .i64 0)).toList:=by
  rw [hzc];unfold Builtin.zeroCells;apply List.ext_getElem
  ·simp
  ·intro i h1 h2;simp [Nat.mod_one]
 rw [hzz];refine zd _ _ _ (u7 hH hs (ys:=Array.replicate (m'+1) (Value.int .i64 0)) ?_ fun H' hH' hlen=>?_)
 ·have:=zai φ A.length (Array.replicate (m'+1) (Value.int .i64 0));simpa using this
 ·exact ⟨_,φ,.inl rfl,Agr.refl _ _,oQ,hH',.tup rfl fun j a y ha=>by simp at ha⟩
theorem zhv {d:Operand} {t e:TypeId} {i off m:Nat} {ob ob':AObj} (ho:o.op=.call { callee:=.builtin .clear,args:=#[d],argTypes:=#[t] }) (ha:apOf P t=some (e,1,8)) (hz:tyZero P e=some [.int .i64 0]) (hd:zn gm env d=some (.sl i off m)) (hm:0<m) (hi:(i,ob)∈V) (hs:putO ob off (mB m (.v (.int .i64 0)))=some ob') :
  ∀ A,zM V A->OpOk P gm env A o (.tup []) (A.set i ob'):=fun A hA=>by
 unfold apOf at ha;split at ha
 ·rename_i e' h1;split at ha
  ·rename_i ti h2;split at ha
   ·rename_i z h3;split at ha
    ·rename_i h4;simp only [Option.some.injEq,Prod.mk.injEq] at ha;obtain ⟨rfl,h5,h6⟩:=ha;obtain ⟨i',z',g1,g2,g3⟩:=kX hz;rw [h2] at g1;cases g1;rw [h3] at g2;cases g2;exact zgg ho h1 h2 h3 (by rw [<- Array.toList_inj,g3]) (zx hd) hm (uW (hA.get hi) hs)
    ·cases ha
   ·cases ha
  ·cases ha
 ·cases ha
end
theorem zdT {xs:List Int} {k:Nat} {n v:Int} {e:TypeId} {s:Nat} (h:k<xs.length) (hn:n=(k:Int)):putO (.row (xs.map intA) e s) (n.toNat*1) [intA v]=some (.row ((xs.set k v).map intA) e s):=by
 subst hn;unfold putO;dsimp only;rw [if_pos ⟨by simp; omega,by simp,rfl⟩,zc7 _ _ _ (by simp; omega),List.map_set];simp
theorem zc8 (c:AV):∀ (m:Nat) (l:List AV) (k:Nat),k+m=l.length->setL l k (mB m c)=l.take k++mB m c
 | 0,l,k,h=>by simp [setL,List.take_of_length_le (by omega:l.length<=k)]
 | m+1,l,k,h=>by
  rw [List.replicate_succ];show setL (l.set k c) (k+1) (mB m c)=_;rw [zc8 c m (l.set k c) (k+1) (by rw [List.length_set]; omega),List.take_add_one,List.getElem?_set_self oQ,List.take_set_of_le (mL _)];simp
theorem zgp {xs:List Int} {k m:Nat} {e:TypeId} {s:Nat} (h:k+m=xs.length) (hm:0<m):putO (.row (xs.map intA) e s) k (mB m (.v (.int .i64 0)))=some (.row ((xs.take k++mB m 0).map intA) e s):=by
 unfold putO;dsimp only;rw [if_pos ⟨by simp; omega,by simpa using hm,by simp [oneA,oneCell]⟩,zc8 _ _ _ _ (by simpa using h),lM,List.map_take,List.map_replicate]
def compN (xs:List Int):Nat->List Int
 | 0=>[]
 | 1=>xs.take 1
 | p+2=>compN xs (p+1)++(if zN xs p=zN xs (p+1) then [] else [zN xs (p+1)])
def compM (xs:List Int):List Int:=compN xs xs.length
theorem zbA (xs:List Int):∀ p,p<=xs.length->(compN xs p).length<=p
 | 0,_=>by simp [compN]
 | 1,_=>by simp [compN]; omega
 | p+2,h=>by
  have:=zbA xs (p+1) oQ;unfold compN;rw [lF];split <;> simp <;> omega
theorem vY {xs:List Int} {p:Nat} (h:zN xs p=zN xs (p+1)):compN xs (p+2)=compN xs (p+1):=by
 conv=>lhs; unfold compN
 rw [if_pos h,lR]
theorem vZ {xs:List Int} {p:Nat} (h:zN xs p≠zN xs (p+1)):compN xs (p+2)=compN xs (p+1)++[zN xs (p+1)]:=by
 conv=>lhs; unfold compN
 rw [if_neg h]
theorem zgz {s t:List Int} (h:s.length=t.length) (h5:s.length<=5) (he:eqSt s t=true):s=t:=by
 simp only [eqSt,Bool.and_eq_true,beq_iff_eq] at he;obtain ⟨e0,e1,e2,e3,e4⟩:=he;refine List.ext_getElem h fun i h1 h2=>?_;have g:∀ (l:List Int) (h:i<l.length),l.getD i 0=l[i]:=fun l h=>by rw [lE,lA h]; rfl
 have:i=0\/i=1\/i=2\/i=3\/i=4:=by omega
 rw [<- g s h1,<- g t h2];rcases this with rfl | rfl | rfl | rfl | rfl <;> assumption
theorem zaB {b:RBk}:∀ (r:List RBand) (p s:List Int),s∈fromM b p r->s.take p.length=p/\s.length=p.length+r.length
 | [],p,s,h=>by
  unfold fromM at h;split at h
  ·rw [lS.1 h]; simp
  ·cases h
 | x::r,p,s,h=>by
  unfold fromM at h;obtain ⟨n,hn,hs⟩:=List.mem_flatMap.1 h;obtain ⟨h1,h2⟩:=zaB r (p++[n]) s hs;rw [lF,List.length_singleton] at h1 h2;refine ⟨?_,by rw [h2,lZ]; omega⟩;have:=congrArg (List.take p.length) h1;rw [List.take_take,List.take_append_of_le_length (mL _),lW,Nat.min_eq_left oQ] at this;exact this
theorem zat:∀ (k:Nat) (n:Int),(numsF n k).Nodup
 | 0,_=>.nil
 | k+1,n=>by
  unfold numsF;refine List.nodup_cons.2 ⟨fun h=>?_,zat k _⟩;rw [uM] at h;omega
theorem zaS {b:RBk}:∀ (r:List RBand) (p:List Int),(fromM b p r).Nodup
 | [],p=>by unfold fromM; split <;> simp
 | x::r,p=>by
  unfold fromM;show List.Pairwise (· ≠ ·) _;rw [List.pairwise_flatMap];refine ⟨fun n _=>zaS r _,?_⟩;have:=zat (x.high+1 - x.low).toNat x.low;unfold numsM;refine List.Pairwise.imp (fun {a c} hne s hs1 s2 hs2 he=>?_) this;subst he;have e1:=(zaB r _ s hs1).1;have e2:=(zaB r _ s hs2).1;rw [lF,List.length_singleton] at e1 e2;have:=e1.symm.trans e2;simp at this;exact hne this
theorem zde (b:RBk):(zf b).Nodup:=zaS _ _
theorem ze5 {b:RBk} (hb:ROk b) {pre:List (List Int)} {S:List Int} (h:pre++[S] <+: zf b):∀ k∈pre,eqSt S k=false:=fun k hk=>by
 have hnd:(pre++[S]).Nodup:=(zde b).sublist h.sublist;have hS:S∈zf b:=h.subset sQ;have hk2:k∈zf b:=h.subset (by simp [hk]);have l1:=(y8 hb hS).1.len;have l2:=(y8 hb hk2).1.len;cases he:eqSt S k with
 | false=>rfl
 | true =>
  have:=zgz oQ (by have:=hb.sms.len; omega) he;subst this;rw [List.nodup_append] at hnd;exact absurd rfl (hnd.2.2 S hk S sQ)
end Go.Vel
namespace Go.Vel
open Go Go.Conc Go.Proofs
def cntM (all:List (List Int)) (n:Nat) (v:Int):Nat:=(all.filter fun s=>decide (zN s n=v)).length
def mostL (all:List (List Int)) (n:Nat):Nat->Int
 | 0=>0
 | k+1=>max (mostL all n k) (cntM (all.take (k+1)) n (zN (all.getD k []) n))
def askL (b:RBk) (all:List (List Int)):Nat->Int×Int
 | 0=>(-1,all.length)
 | n+1=>if mostL all n all.length<(askL b all n).2 then (n,mostL all n all.length) else askL b all n
def askM (b:RBk) (all:List (List Int)):Int×Int:=askL b all b.seams.length
theorem zfL {all:List (List Int)} {k:Nat} {st:List Int} (h:all[k]? =some st) (n:Nat) (v:Int):((cntM (all.take (k+1)) n v:Nat):Int)=if v=zN st n then ((cntM (all.take k) n (zN st n):Nat):Int)+1 else ((cntM (all.take k) n v:Nat):Int):=by
 unfold cntM;rw [yQ h,List.filter_append,lF];by_cases e:v=zN st n
 ·subst e;rw [if_pos rfl]; simp
 ·rw [if_neg e];have:¬ zN st n=v:=fun h=>e h.symm;simp [this]
theorem zhN (all:List (List Int)) (n:Nat) (v:Int):cntM all n v<=all.length:=List.length_filter_le _ _
theorem zar {ob:Obj} {f g:Int->Int} (h:MapOk ob f) (e:∀ n,f n=g n):MapOk ob g:=by
 have:f=g:=funext e;rwa [this] at h
theorem zhe {all:List (List Int)} {n k:Nat} {st:List Int} (h:all[k]? =some st):mostL all n (k+1)=max (mostL all n k) (cntM (all.take (k+1)) n (zN st n)):=by
 have:all.getD k []=st:=by rw [lE,h]; rfl
 conv=>lhs; unfold mostL
 rw [this]
instance:InfO tp 3 Tryz.t3:={}
instance:zi tp 168 false 1:={}
instance:TyZA tp 168 [.v (.map none)]:={}
instance:Und tp 160 (.map 3 3):={}
instance:Und tp 168 (.map 129 4):={}
theorem uV {main:Bool} {T:Goroutine->Hp->Prop} (hT:zo tp main T)  {b:RBk} {s h e:Nat} (hl:b.seams.length<=100) (hm:b.measures.length<=100) :
  zA tp T gmR 51 [.agg (zE b s h e)] [(0,zy),(s,zk b),(h,zB b),(e,zq b)] (fun r K'=>r=.tup [intA (if zr b=0 then (zf b).length else 0),intA (zr b)]/\K'=[(0,zy),(s,zk b),(h,zB b),(e,zq b)]):=by
 refine vx 24 hT Tryz.func51 fun Y hro hret=>?_;refine au 21042 ?_;intro jb hjb;refine au 68042355 ?_;refine bD Z Z Z Z (ui hT (Kx:=[]) hl hm) ?_;rintro r1 K2 h3;rcases h3 with ⟨⟨hbar,rfl⟩ | ⟨hbar,rfl⟩,rfl⟩
 ·refine au 220661 ?_;intro j4 hj4;refine au 937142235170 ?_;constructor<;>intro hc0
  ·exact absurd hc0 sQ
  have hbb:=zZ hbar;refine au 42120 ?_;refine TK.newM Z Z Z (zbK Z) (fun _=>zu rfl tQ) fun jm hjm=>?_;refine au 220 ?_;intro j6 hj6;refine au 13033206804223170 ?_;refine bC [(j6,_),(jm,_),(j4,_),(jb,_),(0,_),(s,_),(h,_),(e,_)] ?_;refine TK.rangeStates hT hbb (s:=s) (h:=h) (e:=e) (J:=fun pre K1=>∃ ob,MapS ob pre/\K1=[(j6,.cells [.map jm] 168 true),(jm,.raw ob),(j4,.cells (zE b s h e) 113 true),(jb,.cells (zE b s h e) 26 true),(0,zy)]) (D:=fun _ _=>False) rfl hro rfl (by repeat (first | exact Split.none _ | exact Split.all _ | (apply Split.rem; repeat (first | exact Rem.head | apply Rem.tail)) | apply Split.right)) ⟨_,zf7,rfl⟩ (fun Y' l lo lb pre S K1 hbegin hfin hout hpre hJ=>?_) (fun d K2 hJ=>?_) (fun d c K2 hD=>?_)
  ·obtain ⟨ob,hob,rfl⟩:=hJ;have hnew:=ze5 hbb hpre;refine au 2204 ?_;intro j7 hj7;refine au 3170 ?_;refine hbegin _ _ _ _ _ uQ ?_;refine au 6806904130 ?_;refine TK.st Z Z Z (zc3 keyOk Z Z Z Und.h mQ hob hnew) uQ (putN Z) ?_;refine au 1403 ?_;exact hfin _ _ [(j6,_),(jm,_),(j4,_),(jb,_),(0,_)] _ (by repeat (first | exact Split.none _ | exact Split.all _ | (apply Split.rem; repeat (first | exact Rem.head | apply Rem.tail)) | apply Split.right)) ⟨_,zhd hob,rfl⟩
  ·obtain ⟨ob,hob,rfl⟩:=hJ;simp only [cA];refine au 69042140 ?_;refine bH Z (zfi Z Z Und.h mQ hob) ?_;refine au 355 ?_;refine TK.leave (.ret _) fun A hA=>hret _ _ _ _ ([(0,_),(s,_),(h,_),(e,_)]) ([(0,_),(s,_),(h,_),(e,_)]) _ _ _ (.inr rfl) (by repeat (first | exact Split.none _ | exact Split.all _ | (apply Split.rem; repeat (first | exact Rem.head | apply Rem.tail)) | apply Split.right)) sQ sQ (by repeat (first | exact Split.none _ | exact Split.all _ | (apply Split.rem; repeat (first | exact Rem.head | apply Rem.tail)) | apply Split.right)) (wK (.cons (zU Z) (.cons (zU Z) ResKs.nil)) rfl) ?_ A hA;exact ⟨by rw [hbar,if_pos rfl],rfl⟩
  ·exact hD.elim
 ·refine au 220661 ?_;intro j4 hj4;refine au 937142235170 ?_;constructor<;>intro hc0
  ·
   refine au 355142 ?_;refine TK.leave (.ret _) fun A hA=>hret _ _ _ _ ([(0,_),(s,_),(h,_),(e,_)]) ([(0,_),(s,_),(h,_),(e,_)]) _ _ _ (.inr rfl) (by repeat (first | exact Split.none _ | exact Split.all _ | (apply Split.rem; repeat (first | exact Rem.head | apply Rem.tail)) | apply Split.right)) sQ sQ (by repeat (first | exact Split.none _ | exact Split.all _ | (apply Split.rem; repeat (first | exact Rem.head | apply Rem.tail)) | apply Split.right)) (wK (.cons (zU Z) (.cons (zU Z) ResKs.nil)) rfl) ?_ A hA;exact ⟨by rw [if_neg hbar],rfl⟩
  exact absurd hbar (by simpa using hc0)
theorem zhK {main:Bool} {T:Goroutine->Hp->Prop} (hT:zo tp main T)  {b:RBk} {s h e:Nat} (hl:b.seams.length<=100) (hm:b.measures.length<=100) :
  zA tp T gmR 40 [.agg (zE b s h e)] [(0,zy),(s,zk b),(h,zB b),(e,zq b)] (fun r K'=>(zr b≠0/\r=.tup [intA 0,intA 0,intA (zr b)]/\K'=[(0,zy),(s,zk b),(h,zB b),(e,zq b)])\/(zr b=0/\zf b=[]/\r=.tup [intA 0,intA 0,intA 9]/\K'=[(0,zy),(s,zk b),(h,zB b),(e,zq b)])\/(zr b=0/\zf b≠[]/\r=.tup [intA (askM b (zf b)).1,intA (askM b (zf b)).2,intA 0]/\K'=[(0,zy),(s,zk b),(h,zB b),(e,zq b)])):=by
 refine zp 58 hT Tryz.func40 fun Y hret=>?_;refine au 21042 ?_;intro jb hjb;refine au 680423555 ?_;refine bD Z Z Z Z (wl hT (Kx:=[]) hl hm) ?_;rintro r1 K2 h3;rcases h3 with ⟨hbar,rfl,rfl⟩ | ⟨hbar,hnil,rfl,rfl⟩ | ⟨hbar,hne,a,rfl,rfl⟩
 ·refine au 220661 ?_;intro j5 hj5;refine au 937142235170 ?_;constructor<;>intro hc0
  ·
   refine au 3555142 ?_;refine bB hret [(0,_),(s,_),(h,_),(e,_)] ?_;exact .inl ⟨hbar,rfl,rfl⟩
  exact absurd hbar (by simpa using hc0)
 ·refine au 220661 ?_;intro j5 hj5;refine au 937142235170 ?_;constructor<;>intro hc0
  ·
   refine au 3555142 ?_;refine bB hret [(0,_),(s,_),(h,_),(e,_)] ?_;exact .inr (.inl ⟨hbar,hnil,rfl,rfl⟩)
  exact absurd hc0 dQ
 ·refine au 220661 ?_;intro j5 hj5;refine au 937142235170 ?_;constructor<;>intro hc0
  ·exact absurd hc0 sQ
  have hbb:=zZ hbar;have hlen:=kg hbb;have hpos:0<(zf b).length:=List.length_pos_iff.2 hne;have hall:okAll b (zf b):=fun st hst=>(y8 hbb hst).1;have hs5:=hbb.sms.len;refine au 2120 ?_;refine bL [0,1,2,3,4] ?_;refine ad [[3,5],[10,19]] ?_;refine TD.z [20] Z (q_len Z Z Z Und.h) ?_;refine TD.as (pend':=[⟨2,[20],[]⟩,⟨1,[19],[(_,_)]⟩,⟨0,[5],[]⟩]) [] Z Z (zD Z Z) ?_;refine ad [[13,21],[14]] ?_;refine au 13031280690670422 ?_;refine bA [1,2,3,4,5,23,24,25] ?_;refine bC [(a,_),(0,_),(s,_),(h,_),(e,_),(j5,_),(jb,_)] ?_;refine bE (fun n env K=>∃ (i:Nat),n=b.seams.length - i/\i<=b.seams.length/\env=.any::.ptr jb 0::intA (askL b (zf b) i).1::intA (askL b (zf b) i).2::intA 0::.ptr j5 0::naL 17 (.sl s 0 b.seams.length::intA b.seams.length::intA i::naL 32 [])/\K=[(a,allO (zf b)),(0,zy),(s,zk b),(h,zB b),(e,zq b),(j5,.cells (knownC b s h e a (zf b).length) 139 true),(jb,.cells (zE b s h e) 26 true)]) b.seams.length ⟨0,rfl,mN _,rfl,rfl⟩ fun n env K hI hnext=>?_;obtain ⟨i,rfl,hi,rfl,rfl⟩:=hI;refine bG nQ ?_;refine au 923742 ?_;constructor<;>intro hc1
  ·have hil:i<b.seams.length:=by simp at hc1; omega
   refine au 42351421302120 ?_;refine TK.newM Z Z Z (zbK Z) (fun _=>zu rfl tQ) fun jm hjm=>?_;refine au 13031280690670422354235 ?_;refine bA [1,2,3,4,5,6,7,8,23,24,25,30,31,32] ?_;refine bE (fun n env K=>∃ (q:Nat) (om:Obj),n=(zf b).length - q/\q<=(zf b).length/\MapOk om (fun v=>(cntM ((zf b).take q) i v:Int))/\env=.any::.ptr jb 0::intA (askL b (zf b) i).1::intA (askL b (zf b) i).2::intA 0::.ptr j5 0::intA i::.map jm::intA (mostL (zf b) i q)::naL 14 (.sl s 0 b.seams.length::intA b.seams.length::intA i::naL 4 (.sl a 0 (zf b).length::intA (zf b).length::intA q::naL 25 []))/\K=[(jm,.raw om),(a,allO (zf b)),(0,zy),(s,zk b),(h,zB b),(e,zq b),(j5,.cells (knownC b s h e a (zf b).length) 139 true),(jb,.cells (zE b s h e) 26 true)]) (zf b).length ⟨0,_,rfl,mN _,zar ze2 (fun v=>rfl),rfl,rfl⟩ fun n env K hI hnext1=>?_;obtain ⟨q,om,rfl,hq,hom,rfl,rfl⟩:=hI;refine bG nQ ?_;refine au 923742 ?_;constructor<;>intro hc2
   ·have hql:q<(zf b).length:=by simp at hc2; omega
    obtain ⟨st,hst⟩:∃ st,(zf b)[q]? =some st:=⟨_,lA hql⟩;have hcl:cntM ((zf b).take q) i (zN st i)<=243:=by have:=zhN ((zf b).take q) i (zN st i); rw [List.length_take] at this; omega
    have hom2:MapOk (upM om (zN st i) ((cntM ((zf b).take q) i (zN st i):Int)+1)) (fun v=>(cntM ((zf b).take (q+1)) i v:Int)):=zar (ziJ hom) (fun v=>(zfL hst i v).symm);refine au 360421302120 ?_;refine bH Z (ya Z Z zi.h mQ (zaL (i:=q) hst Z)) ?_;refine au 220 ?_;intro j10 hj10;refine au 11423170 ?_;refine bH Z (wA Z Z Z ArEl.h oQ oQ) ?_;refine bH Z (zm Z Z zi.h mQ (st_at (i:=i) oQ Z)) ?_;refine bH Z (zcY Z Z Z Und.h Und.h InfO.h Z mQ hom) ?_;refine bH Z (q_add Z Z Z (by show -9223372036854775808<=((cntM ((zf b).take q) i (zN st i):Nat):Int)+1/\((cntM ((zf b).take q) i (zN st i):Nat):Int)+1<9223372036854775808; omega)) ?_;refine TK.st Z Z Z (zdx Z Z Z Z Und.h Und.h mQ hom) uQ (putN Z) ?_;refine au 11143 ?_;refine bH Z (wA Z Z Z ArEl.h oQ oQ) ?_;refine bH Z (zm Z Z zi.h mQ (st_at (i:=i) oQ Z)) ?_;refine bH Z (zcY Z Z Z Und.h Und.h InfO.h Z mQ hom2) ?_;refine bH Z (zcZ Z Z Z) ?_;refine au 31230414035 ?_;refine bA [1,2,3,4,5,6,7,8,23,24,25,30,31,32] ?_;refine bC [(jm,_),(a,_),(0,_),(s,_),(h,_),(e,_),(j5,_),(jb,_)] ?_;exact hnext1 _ _ _ oQ ⟨q+1,_,rfl,oQ,hom2,by rw [zhe hst]; rfl,rfl⟩
   obtain rfl:q=(zf b).length:=by simp at hc2; omega
   refine au 9371142160 ?_;constructor<;>intro hc3
   ·refine au 312304140355114 ?_;refine bA [1,2,3,4,5,23,24,25] ?_;refine bC [(a,_),(0,_),(s,_),(h,_),(e,_),(j5,_),(jb,_)] ?_;exact hnext _ _ _ oQ ⟨i+1,rfl,oQ,by rw [show askL b (zf b) (i+1)=(((i:Nat):Int),mostL (zf b) i (zf b).length) from if_pos (of_decide_eq_true hc3)]; rfl,rfl⟩
   refine au 312304140120 ?_;refine bA [1,2,3,4,5,23,24,25] ?_;refine bC [(a,_),(0,_),(s,_),(h,_),(e,_),(j5,_),(jb,_)] ?_;exact hnext _ _ _ oQ ⟨i+1,rfl,oQ,by rw [show askL b (zf b) (i+1)=askL b (zf b) i from if_neg (of_decide_eq_false hc3)]; rfl,rfl⟩
  obtain rfl:i=b.seams.length:=by simp at hc1; omega
  refine au 35551142160 ?_;refine bB hret [(0,_),(s,_),(h,_),(e,_)] ?_;exact .inr (.inr ⟨hbar,hne,rfl,rfl⟩)
theorem zha {main T} (hT:zo tp main T) {gm} {x y:Int} :
  zA tp T gm 194 [intA x,intA y] [] (fun r K'=>r=zP (decide (x<y))/\K'=[]):=by
 refine zp 17 hT Tryz.func194 fun Y hret=>?_;refine au 1423542 ?_;refine bD Z Z Z Z (zaC hT) ?_;rintro r1 K2 ⟨rfl,rfl⟩;refine au 1 ?_;refine TK.sp 7 (fun g1_3=>?_) (fun g1_3=>?_)
 ·cases g1_3
 refine au 352507111250888 ?_;refine TK.rta hret ?_;exact ⟨rfl,rfl⟩
section
variable {P:Program} {gm:Nat->Option Nat} {T:Goroutine->Hp->Prop} {Y:KX P gm T} {ds:List Nat} {k:List Item} {env env':List AV} {K:KV}
theorem TK.asSl (d:Nat) {j n:Nat} {l:List AV} {e:TypeId} {s:Nat} (hd:env[d]? =some (.row j n)) (hm:(j,.row l e s)∈K) (h:TK Y ds k (env.set d (.sl j 0 n)) K):TK Y ds k env K:=fun A hA φ H ts h1 h2 h3 h4 h5 h6=>by
 have hj:=hA.view.get hm;have hb:(φ j).base=0:=(h5.obj j _ hj).2.1;have hr:∀ y,RelV φ A.length (.row j n) y->RelV φ A.length (.sl j 0 n) y:=fun y hy=>by
  have:=vF (j:=j) hb hy;simpa [unrow] using this
 exact h _ hA φ H ts h1 h2 h3 h4 h5 (by simpa using h6.set' hd hr)
end
theorem zcV {xs:List Int} {k:Nat} {n v:Int} {e:TypeId} {s:Nat} (h:k<xs.length) (hn:n=(k:Int)):putO (.row (xs.map intA) e s) (0+n.toNat*1) [intA v]=some (.row ((xs.set k v).map intA) e s):=by
 rw [mO];exact zdT h hn
def ltI (x y:Int):Bool:=decide (x<y)
theorem uE {xs:List Int}:∀ p,p<=xs.length->(compN xs p).length=p->compN xs p=xs.take p
 | 0,_,_=>by simp [compN]
 | 1,_,_=>by simp [compN]
 | p+2,h,hl=>by
  have h1:=zbA xs (p+1) oQ;by_cases e:zN xs p=zN xs (p+1)
  ·rw [vY e] at hl; omega
  ·rw [vZ e] at hl ⊢;rw [lF,List.length_singleton] at hl;rw [uE (p+1) oQ oQ];exact (yQ (z6 oQ)).symm
theorem uD {xs:List Int} {w i:Nat} {C:List Int} (hC:C.length=w) (h:w<=i) (hi:i<xs.length):(C++xs.drop w)[i]? =some (zN xs i):=by
 rw [List.getElem?_append_right oQ,List.getElem?_drop,hC,show w+(i - w)=i by omega];exact z6 hi
theorem zfM {xs C:List Int} {w:Nat} {v:Int} (hC:C.length=w) (h:w<xs.length):(C++xs.drop w).set w v=(C++[v])++xs.drop (w+1):=by
 rw [List.set_append_right _ _ oQ,hC,Nat.sub_self,zH (z6 h),List.set_cons_zero,List.append_assoc];rfl
theorem zff {xs C:List Int} {k m off:Nat} {e:TypeId} {s:Nat} (hC:C.length=k) (ho:off=k) (h:k+m=(C++xs.drop k).length) (hm:0<m):putO (.row ((C++xs.drop k).map intA) e s) off (mB m (.v (.int .i64 0)))=some (.row ((C++mB m 0).map intA) e s):=by
 subst ho;rw [zgp h hm,List.take_left' hC]
instance:Cal tp 160:={}
instance:Cal tp 188:={}
instance:Cal tp 194:={}
theorem zeY {main T} (hT:zo tp main T) {gm} {j n:Nat} {xs:List Int} (hn:xs.length=n) (h12:1<=n/\n<=12) :
  zA tp T gm 188 [.row j n,intA 0,intA n] [(j,.row (xs.map intA) 3 1)] (fun r K'=>K'=[(j,.row ((sortR ltI xs).map intA) 3 1)]):=by
 refine zp 49 hT Tryz.func188 fun Y hret=>?_;refine au 0 ?_;refine TK.asSl 0 Z (mC _) ?_;refine au 13035230142 ?_;refine bA [0,1,2,6] ?_;refine bE (fun n1 env K=>∃ (i:Nat),n1=n - i/\1<=i/\i<=n/\env=.sl j 0 n::intA 0::intA n::naL 3 (intA i::naL 42 [])/\K=[(j,.row ((sortN ltI xs i++xs.drop i).map intA) 3 1)]) (n - 1) ⟨1,rfl,mL _,h12.1,rfl,by rw [zdc oQ]⟩ fun n1 env K hI hnext=>?_;obtain ⟨i,rfl,hi1,hi,rfl,rfl⟩:=hI;refine bG nQ ?_;refine au 93711422 ?_;constructor<;>intro hc0
 ·have hil:i<n:=by simp at hc0; omega
  obtain ⟨x,hx⟩:∃ x,xs[i]? =some x:=⟨_,lA oQ⟩;have hSl:=wW (lt:=ltI) xs i oQ;have hTl:(xs.drop (i+1)).length=n - (i+1):=by simp; omega
  refine au 130351421302120 ?_;refine bA [0,1,2,6,7] ?_;refine bE (fun n1 env K=>∃ (p:Nat),n1=p/\p<=i/\insJ ltI x (sortN ltI xs i) p=insJ ltI x (sortN ltI xs i) (sortN ltI xs i).length/\env=.sl j 0 n::intA 0::intA n::naL 3 (intA i::intA p::naL 41 [])/\K=[(j,.row ((dataM (sortN ltI xs i) (xs.drop (i+1)) x p).map intA) 3 1)]) i ⟨i,rfl,mL _,by rw [hSl],rfl,by have:=zck (sortN ltI xs i) (xs.drop (i+1)) x; rw [hSl] at this; rw [this,<- zH hx]⟩ fun n1 env K hI hnext1=>?_;obtain ⟨p,hnp,hp,hins,rfl,rfl⟩:=hI;subst n1;have hdl:=zcj (S:=sortN ltI xs i) (T:=xs.drop (i+1)) (x:=x) (j:=p);refine bG nQ ?_;refine au 22 ?_;refine bL [0,1,2,3,4,5,6,7,8,9,10,11,12,13,14] ?_;refine ad [[1,7],[1,1],[4,16,17],[1,18]] ?_;refine TD.sp 19 (fun g4_4=>?_) (fun g4_4=>?_)
  ·have hp0:0<p:=by simp at g4_4; omega
   obtain ⟨q,rfl⟩:∃ q,p=q+1:=⟨p - 1,oQ⟩;obtain ⟨y,hy⟩:∃ y,(sortN ltI xs i)[q]? =some y:=⟨_,lA oQ⟩;refine ad [[1,0,19],[1,7,19],[2,19,20,21]] ?_;refine bT [19,22] Z (hq:=zm Z Z zi.h (mC _) (kE (i:=q+1) (zaa oQ) oQ)) (h:=?_);refine ad [[1,0,19],[1,7,19],[9,19,25],[2,19,24,26]] ?_;refine bT [19,27] Z (hq:=zm Z Z zi.h (mC _) (kE (i:=q) ((vy oQ).trans hy) oQ)) (h:=?_);refine bQ (pend':=[⟨11,[19,24,26],[]⟩,⟨10,[19,25],[]⟩,⟨9,[7,19],[]⟩,⟨8,[0,19],[]⟩,⟨6,[19,20,21],[]⟩,⟨5,[7,19],[]⟩,⟨4,[0,19],[]⟩,⟨2,[16,17],[]⟩,⟨1,[1],[]⟩,⟨0,[7],[]⟩]) [19,23,28] Z Z Z Z Z (zha hT) (fun r1 K2 h3=>⟨?_,?_⟩)
   ·rcases h3 with ⟨rfl,rfl⟩
    all_goals simp
   obtain ⟨rfl,rfl⟩:=h3;try simp only [cA]
   refine bS tQ ?_;refine ad [[7,19,29],[14]] ?_;refine au 9 ?_;constructor<;>intro hc1
   ·have hsw:=zbC (T:=xs.drop (i+1)) (x:=x) hy;refine au 1302120 ?_;refine bL [0,1,5,6,7,8,9,10,11,12,13,14,15,2,3,4,16,17] ?_;refine ad [[1,0],[1,7],[1,0],[1,7],[9,36],[1,0],[1,7],[9,39],[2,38,40]] ?_;refine bT [41] Z (hq:=zm Z Z zi.h (mC _) (kE (i:=q) ((vy oQ).trans hy) oQ)) (h:=?_);refine ad [[1,0],[1,7],[2,43,44]] ?_;refine bT [45] Z (hq:=zm Z Z zi.h (mC _) (kE (i:=q+1) (zaa oQ) oQ)) (h:=?_);refine ad [[2,33,34]] ?_;refine bR (pend':=[⟨12,[43,44],[]⟩,⟨11,[7],[]⟩,⟨10,[0],[]⟩,⟨4,[36],[]⟩,⟨3,[7],[]⟩,⟨2,[0],[]⟩]) [42,47] Z Z (zX Z Z zi.h Z Z mQ (zcV (k:=q+1) oQ Z)) ?_;refine ad [[2,35,37]] ?_;refine bR (pend':=[]) [46,48] Z Z (zX Z Z zi.h Z Z mQ (zcV (k:=q) (by rw [List.length_set]; omega) oQ)) ?_;refine ad [[14]] ?_;refine au 3524014140 ?_;refine bA [0,1,2,6,7] ?_;refine bC [(j,_)] ?_;exact hnext1 _ _ _ oQ ⟨q,rfl,oQ,by rw [<- hins,zdJ hy hc1],by rw [show ((q+1:Nat):Int) - 1=(q:Int) by omega]; rfl,by rw [hsw]⟩
   have hstop:=vz (lt:=ltI) (x:=x) (S:=sortN ltI xs i) (T:=xs.drop (i+1)) (j:=q+1) oQ (fun i1 y1 h1 h2=>by obtain rfl:q=i1:=oQ; rw [hy] at h2; cases h2; exact hc1);rw [hins] at hstop;refine au 3523014140160 ?_;refine bA [0,1,2,6] ?_;refine bC [(j,_)] ?_;exact hnext _ _ _ oQ ⟨i+1,rfl,oQ,oQ,rfl,by rw [wD hx,<- hstop]⟩
  obtain rfl:p=0:=by simp at g4_4; omega
  have hstop:=vz (lt:=ltI) (x:=x) (S:=sortN ltI xs i) (T:=xs.drop (i+1)) (j:=0) (mN _) (fun i y h=>by omega);rw [hins] at hstop;refine ad [[11,0,19],[11,7,19],[11,19,20,21],[11,19,22],[11,0,19],[11,7,19],[11,19,25],[11,19,24,26],[11,19,27],[11,19,23,28],[6,19,29],[14]] ?_;refine au 3523014140160190 ?_;refine bA [0,1,2,6] ?_;refine bC [(j,_)] ?_;exact hnext _ _ _ oQ ⟨i+1,rfl,oQ,oQ,rfl,by rw [wD hx,<- hstop]⟩
 obtain rfl:i=n:=by simp at hc0; omega
 have hfin:[(j,AObj.row ((sortN ltI xs i++xs.drop i).map intA) 3 1)]=[(j,.row ((sortN ltI xs xs.length).map intA) 3 1)]:=by rw [hn,List.drop_eq_nil_of_le oQ,lR]
 refine au 160 ?_;refine TK.rt0 hret [(j,_)] ?_;rw [show sortR ltI xs=sortN ltI xs xs.length from rfl];exact hfin
theorem zfd {main T} (hT:zo tp main T) {gm} {lim:Int} {j n:Nat} {xs:List Int} (hn:xs.length=n) (h12:1<=n/\n<=12) :
  zA tp T gm 160 [.row j n,intA 0,intA n,intA lim] [(j,.row (xs.map intA) 3 1)] (fun r K'=>K'=[(j,.row ((sortR ltI xs).map intA) 3 1)]):=by
 refine zp 134 hT Tryz.func160 fun Y hret=>?_;refine au 13035423542 ?_;refine TK.loop ?_;refine au 9371422352401142130 ?_;constructor<;>intro hc0
 ·refine au 11142 ?_;refine bD Z Z Z Z (zeY hT hn h12) ?_;rintro r1 K2 rfl;refine au 3 ?_;refine bB hret [(j,_)] ?_;exact rfl
 simp at hc0; omega
theorem zhB {main T} (hT:zo tp main T) {gm} {j n:Nat} {xs:List Int} (hn:xs.length=n) (h12:1<=n/\n<=12) :
  zA tp T gm 131 [.row j n] [(j,.row (xs.map intA) 3 1)] (fun r K'=>K'=[(j,.row ((sortR ltI xs).map intA) 3 1)]):=by
 refine zp 11 hT Tryz.func131 fun Y hret=>?_;refine au 111435280142 ?_;refine bH Z (yV Z Z Und.h Und.h (zb0 (n:=n) oQ)) ?_;refine bD Z Z Z Z (zaM hT (n:=n) oQ) ?_ (hs:=(.none _));rintro r1 K2 ⟨m,rfl,rfl⟩;refine au 0 ?_;refine bD Z Z Z Z (zfd hT hn h12) ?_;rintro r4 K5 rfl;refine au 3 ?_;refine TK.rt0 hret [(j,_)] ?_;exact rfl
end Go.Vel
namespace Go.Vel
open Go Go.Conc
section
variable {P:Program} {gm:Nat->Option Nat} {T:Goroutine->Hp->Prop} {Y:KX P gm T} {ds:List Nat} {k:List Item} {env env':List AV} {K K' K1:KV} {ops:Array Oper} {i:Nat} {rest:List Nat} {o:Oper} {envf:Nat->List AV}
theorem Upd.same' {K K':KV} {i j:Nat} {o o':AObj} (h:Upd K i o j o' K'):i=j->o'=o->K'=K:=by
 induction h with
 | head=>intro hj e; rw [e,hj]
 | tail _ ih=>intro hj e; rw [ih hj e]
theorem Upd.same {K K':KV} {i:Nat} {o o':AObj} (h:Upd K i o i o' K') (e:o'=o):K'=K:=h.same' rfl e
theorem TK.appG {s x:Operand} {t e:TypeId} {size bytes j n m:Nat} {lo ln:List AV} {u:AV} {K'':Nat->KV} (ho:ops[i]? =some o) (hw:zK ops env o=some true) (hop:o.op=.call { callee:=.builtin .append,args:=#[s,x],argTypes:=#[t,t] }) (ht:apOf P t=some (e,size,bytes)) (hs:zn gm env s=some (.row j n)) (hm:(j,.row lo e size)∈K) (hlo:lo.length=n*size) (hx:zn gm env x=some u) (hl:lenA u=some m) (hsrc:0<m->srcO K size u m ln) (hln:m=0->ln=[])
  (hone:ln.all oneA=true) (hmax:n+m<=maxLen) (hbytes:(n+m)*bytes<=140737488355328) (hu:∀ j',Upd K j (.row lo e size) j' (.row (lo++ln) e size) (K'' j')) (he:∀ j',zO env o.dst (.row j' (n+m))=envf j') (h:∀ j',TK Y ds (.inRegion ops rest::k) (envf j') (K'' j')):TK Y ds (.inRegion ops (i::rest)::k) env K:=by
 rcases mP m with e0 | hpos
 ·subst e0;have hk:K'' j=K:=(hu j).same (by rw [hln rfl,lR]);have ht':=ht;unfold apOf at ht';split at ht'
  ·rename_i e' h1;split at ht'
   ·rename_i ti h2;refine TK.q (r:=.row j n) ho (by rw [hop]; rfl) hw (zcW hop h1 h2 hs hx hl) (he j) ?_;rw [<- hk]; exact h j
   ·cases ht'
  ·cases ht'
 ·exact bO ho (by rw [hop]; rfl) hw (a_app hop ht hs hm hlo hx (hsrc hpos) hpos hone hmax hbytes) hu he h
theorem TK.normK (he:K=K') (h:TK Y ds k env K'):TK Y ds k env K:=he ▸ h
end
theorem wo {l:List AV} {e:TypeId} {rw':Bool} {n size:Nat} (hl:l.length=n*size) (h:0<n*size):takeO (.cells l e rw') 0 (n*size)=some l:=by
 simp only [takeO,AObj.look,mO,List.drop_zero];rw [if_pos ⟨h,oQ⟩,<- hl,lW]
theorem kA {α:Type} (f:α->List AV) (h:∀ x,(f x).all oneA=true) (xs:List α):(xs.flatMap f).all oneA=true:=by
 induction xs with
 | nil=>rfl
 | cons x xs ih=>rw [List.flatMap_cons,List.all_append,h,ih]; rfl
end Go.Vel
namespace Go.Vel
open Go Go.Conc Go.Proofs
def AgrR (b:RBk) (K:KV) (r:AV) (K':KV):Prop:=(zr b≠0/\r=.tup [.agg z7R,intA (zr b)]/\K'=K)\/(zr b=0/\zf b=[]/\r=.tup [.agg z7R,intA 9]/\K'=K)\/(zr b=0/\zf b≠[]/\∃ s h e,r=.tup [.agg (zE b s h e),intA 0]/\K'=(s,zk b)::(h,zB b)::(e,zq b)::K)
def ye (b:RBk) (m:RMeas):RBk:={ b with measures:=b.measures++[m] }
def driedB (b:RBk) (i:Nat) (x:RBand):RBk:={ b with shrinks:=b.shrinks.set i x }
theorem zgo {xs:List RBand} {i:Nat} {n:Int} {x:RBand} {e:TypeId} (h:i<xs.length) (hn:n=(i:Int)):putO (.row (xs.flatMap bandC) e 2) (n.toNat*2) (bandC x)=some (.row ((xs.set i x).flatMap bandC) e 2):=by
 subst hn;unfold putO;dsimp only;have hl:=yz bandC 2 (fun _=>rfl) xs;rw [if_pos ⟨by rw [hl]; simp [bandC]; omega,by simp [bandC],rfl⟩];have key:∀ (xs:List RBand) (i:Nat),i<xs.length->setL (xs.flatMap bandC) (i*2) (bandC x)=(xs.set i x).flatMap bandC:=by
  intro xs
  induction xs with
  | nil=>intro i hi; simp at hi
  | cons y r ih =>
   intro i hi;cases i with
   | zero=>rfl
   | succ i =>
    have:=ih i (by simpa using hi);rw [show (i+1)*2=i*2+2 by omega,List.set_cons_succ,List.flatMap_cons,List.flatMap_cons,<- this];rfl
 rw [Int.toNat_natCast,key xs i h]
instance:ApOf tp 22 94 5 40:={}
instance:ApOf tp 23 51 2 16:={}
instance:ApOf tp 24 49 3 24:={}
instance:BlOf tp 26 [(0,1),(1,1),(2,1),(3,1),(4,1),(5,1),(6,1)]:={}
instance:Cal tp 120:={}
instance:Cal tp 121:={}
instance:Cal tp 125:={}
instance:Cal tp 129:={}
instance:Cal tp 157:={}
instance:TyZ tp 26 [.int .i64 0,.int .i64 0,.int .i64 0,.int .i64 0,.slice none 0 0,.slice none 0 0,.slice none 0 0]:={}
instance:TyZ tp 49 [.int .i64 0,.int .i64 0,.int .i64 0]:={}
instance:TyZ tp 94 [.int .i64 0,.int .i64 0,.int .i64 0,.int .i64 0,.bool false]:={}
instance:TyZA tp 26 [.v (.int .i64 0),.v (.int .i64 0),.v (.int .i64 0),.v (.int .i64 0),.v (.slice none 0 0),.v (.slice none 0 0),.v (.slice none 0 0)]:={}
theorem zec {main T} (hT:zo tp main T) {gm} {j n:Nat} {l:List AV} {et:TypeId} {rw':Bool} (hl:l.length=n*5) (hone:l.all oneA=true) (hn:n<=100000) :
  zA tp T gm 157 [.sl j 0 n] [(j,.cells l et rw')] (fun r K'=>∃ j2,r=.row j2 n/\K'=[(j,.cells l et rw'),(j2,.row l 94 5)]):=by
 refine zp 8 hT Tryz.func157 fun Y hret=>?_;refine au 14223542 ?_;refine TK.nilT Z Z Z Z Und.h fun tz hz=>?_;refine au 93 ?_;constructor<;>intro hc0
 ·refine au 542 ?_;refine TK.virt 2 94 5 Z fun j0 hj0=>?_;refine au 3 ?_;refine bB hret [(j,_),(j0,_)] ?_;obtain rfl:=hz hc0;obtain rfl:=lK (by simpa using hl);exact ⟨_,rfl,rfl⟩
 refine au 42120 ?_;refine bI Z Z Z (zt (l:=[]) Z zF.h TyZ.h dQ dQ Z) (fun _=>zu rfl tQ) fun j1 hj1=>?_;refine au 1 ?_;refine TK.appG (envf:=fun _=>[_,_,_,_,_,_,_,_]) (ln:=l) rfl rfl rfl ApOf.h rfl mQ rfl rfl rfl (fun hp=>vv mQ oQ (wo hl oQ)) (fun h=>by subst h; exact lK (by simpa using hl)) hone (by unfold maxLen; omega) oQ (fun _=>uQ) (fun _=>rfl) fun j2=>?_;simp only [lC,mO];refine au 35 ?_;refine bB hret [(j,_),(j2,_)] ?_;exact ⟨_,rfl,rfl⟩
theorem zaO {main T} (hT:zo tp main T) {gm} {j n:Nat} {l:List AV} {et:TypeId} {rw':Bool} (hl:l.length=n*2) (hone:l.all oneA=true) (hn:n<=100000) :
  zA tp T gm 125 [.sl j 0 n] [(j,.cells l et rw')] (fun r K'=>∃ j2,r=.row j2 n/\K'=[(j,.cells l et rw'),(j2,.row l 51 2)]):=by
 refine zp 8 hT Tryz.func125 fun Y hret=>?_;refine au 14223542 ?_;refine TK.nilT Z Z Z Z Und.h fun tz hz=>?_;refine au 93 ?_;constructor<;>intro hc0
 ·refine au 542 ?_;refine TK.virt 2 51 2 Z fun j0 hj0=>?_;refine au 3 ?_;refine bB hret [(j,_),(j0,_)] ?_;obtain rfl:=hz hc0;obtain rfl:=lK (by simpa using hl);exact ⟨_,rfl,rfl⟩
 refine au 42120 ?_;refine bI Z Z Z (zt (l:=[]) Z zF.h TyZ.h dQ dQ Z) (fun _=>zu rfl tQ) fun j1 hj1=>?_;refine au 1 ?_;refine TK.appG (envf:=fun _=>[_,_,_,_,_,_,_,_]) (ln:=l) rfl rfl rfl ApOf.h rfl mQ rfl rfl rfl (fun hp=>vv mQ oQ (wo hl oQ)) (fun h=>by subst h; exact lK (by simpa using hl)) hone (by unfold maxLen; omega) oQ (fun _=>uQ) (fun _=>rfl) fun j2=>?_;simp only [lC,mO];refine au 35 ?_;refine bB hret [(j,_),(j2,_)] ?_;exact ⟨_,rfl,rfl⟩
theorem vX {main T} (hT:zo tp main T) {gm} {j n:Nat} {l:List AV} {et:TypeId} {rw':Bool} (hl:l.length=n*3) (hone:l.all oneA=true) (hn:n<=100000) :
  zA tp T gm 120 [.sl j 0 n] [(j,.cells l et rw')] (fun r K'=>∃ j2,r=.row j2 n/\K'=[(j,.cells l et rw'),(j2,.row l 49 3)]):=by
 refine zp 8 hT Tryz.func120 fun Y hret=>?_;refine au 14223542 ?_;refine TK.nilT Z Z Z Z Und.h fun tz hz=>?_;refine au 93 ?_;constructor<;>intro hc0
 ·refine au 542 ?_;refine TK.virt 2 49 3 Z fun j0 hj0=>?_;refine au 3 ?_;refine bB hret [(j,_),(j0,_)] ?_;obtain rfl:=hz hc0;obtain rfl:=lK (by simpa using hl);exact ⟨_,rfl,rfl⟩
 refine au 42120 ?_;refine bI Z Z Z (zt (l:=[]) Z zF.h TyZ.h dQ dQ Z) (fun _=>zu rfl tQ) fun j1 hj1=>?_;refine au 1 ?_;refine TK.appG (envf:=fun _=>[_,_,_,_,_,_,_,_]) (ln:=l) rfl rfl rfl ApOf.h rfl mQ rfl rfl rfl (fun hp=>vv mQ oQ (wo hl oQ)) (fun h=>by subst h; exact lK (by simpa using hl)) hone (by unfold maxLen; omega) oQ (fun _=>uQ) (fun _=>rfl) fun j2=>?_;simp only [lC,mO];refine au 35 ?_;refine bB hret [(j,_),(j2,_)] ?_;exact ⟨_,rfl,rfl⟩
theorem zbB {main T} (hT:zo tp main T) {gm} {b:RBk} {s h e:Nat} (hb:ROk b) :
  zA tp T gm 129 [.agg (zE b s h e)] [(s,zk b),(h,zB b),(e,zq b)] (fun r K'=>∃ s2 h2 e2,r=.agg (zE b s2 h2 e2)/\K'=[(s2,zk b),(h2,zB b),(e2,zq b),(s,zk b),(h,zB b),(e,zq b)]):=by
 refine zp 16 hT Tryz.func129 fun Y hret=>?_;refine au 0 ?_;have hs5:=hb.sms.len;have hsl:=hb.cls.len;have hml:=hb.mes.len;refine au 21042 ?_;intro jb hjb;refine au 220 ?_;intro jr hjr;refine au 23 ?_;refine TK.dr [0,1,3,4,6,7,2,9,5,8,10,11,12,13,14] [0,1,2,3,4,5,6,7,8,9,10,11,12,13,14] ?_;refine ad [[3,1],[10,3],[3,1],[10,6],[3,1],[10,9]] ?_;refine bQ (pend':=[⟨7,[9],[(_,_)]⟩,⟨6,[1],[]⟩,⟨4,[6],[(_,_)]⟩,⟨3,[1],[]⟩,⟨0,[1],[]⟩]) [4] Z Z Z Z Z (zec hT (yz seamC 5 (fun _=>rfl) b.seams) (kA seamC (fun _=>rfl) _) oQ) (fun r1 K2 h3=>⟨?_,?_⟩)
 ·rcases h3 with ⟨s2,rfl,rfl⟩
  all_goals simp
 obtain ⟨s2,rfl,rfl⟩:=h3;try simp only [cA]
 refine bS tQ ?_;refine ad [[3,1]] ?_;refine bQ (pend':=[⟨9,[1],[]⟩,⟨7,[9],[(_,_)]⟩,⟨6,[1],[]⟩,⟨3,[1],[]⟩,⟨0,[1],[]⟩]) [7] Z Z Z Z Z (zaO hT (yz bandC 2 (fun _=>rfl) b.shrinks) (kA bandC (fun _=>rfl) _) oQ) (fun r4 K5 h6=>⟨?_,?_⟩)
 ·rcases h6 with ⟨h2,rfl,rfl⟩
  all_goals simp
 obtain ⟨h2,rfl,rfl⟩:=h6;try simp only [cA]
 refine bS tQ ?_;refine bQ (pend':=[⟨9,[1],[]⟩,⟨6,[1],[]⟩,⟨3,[1],[]⟩,⟨0,[1],[]⟩]) [10] Z Z Z Z Z (vX hT (yz measC 3 (fun _=>rfl) b.measures) (kA measC (fun _=>rfl) _) oQ) (fun r7 K8 h9=>⟨?_,?_⟩)
 ·rcases h9 with ⟨e2,rfl,rfl⟩
  all_goals simp
 obtain ⟨e2,rfl,rfl⟩:=h9;try simp only [cA]
 refine bS tQ ?_;refine bR (pend':=[]) [5,12] Z Z (zX Z Z zi.h Z Z mQ Z) ?_;refine ad [[3,1]] ?_;refine bR (pend':=[]) [8,13] Z Z (zX Z Z zi.h Z Z mQ Z) ?_;refine ad [[3,1]] ?_;refine bR (pend':=[]) [11,14] Z Z (zX Z Z zi.h Z Z mQ Z) ?_;refine ad [[14]] ?_;refine au 2 ?_;refine TK.unrowAt (c:=jb) (i:=4) (j:=s2) Z mQ uQ ?_;refine bY (j:=s2) ?_;refine TK.unrowAt (c:=jb) (i:=5) (j:=h2) Z mQ uQ ?_;refine bY (j:=h2) ?_;refine TK.unrowAt (c:=jb) (i:=6) (j:=e2) Z mQ uQ ?_;refine bY (j:=e2) ?_;refine au 31706804 ?_;refine bB hret [(s2,_),(h2,_),(e2,_),(s,_),(h,_),(e,_)] ?_;exact ⟨s2,h2,e2,rfl,rfl⟩
theorem uC {main:Bool} {T:Goroutine->Hp->Prop} (hT:zo tp main T)  {b:RBk} {s h e:Nat} (hl:b.seams.length<=100) (hm:b.measures.length<=100) :
  zA tp T gmR 121 [.agg (zE b s h e)] [(0,zy),(s,zk b),(h,zB b),(e,zq b)] (fun r K'=>AgrR b [(0,zy),(s,zk b),(h,zB b),(e,zq b)] r K'):=by
 refine zp 17 hT Tryz.func121 fun Y hret=>?_;refine au 21042 ?_;intro jb hjb;refine au 220 ?_;intro jr hjr;refine au 68042235 ?_;refine bD Z Z Z Z (wl hT (Kx:=[]) hl hm) ?_;rintro r1 K2 h3;rcases h3 with ⟨hbar,rfl,rfl⟩ | ⟨hbar,hnil,rfl,rfl⟩ | ⟨hbar,hne,a,rfl,rfl⟩
 ·refine au 220661 ?_;intro j4 hj4;refine au 93714235170 ?_;constructor<;>intro hc0
  ·
   refine au 35170144042 ?_;refine bB hret [(0,_),(s,_),(h,_),(e,_)] ?_;exact .inl ⟨hbar,rfl,rfl⟩
  exact absurd hbar (by simpa using hc0)
 ·refine au 220661 ?_;intro j4 hj4;refine au 93714235170 ?_;constructor<;>intro hc0
  ·
   refine au 35170144042 ?_;refine bB hret [(0,_),(s,_),(h,_),(e,_)] ?_;exact .inr (.inl ⟨hbar,hnil,rfl,rfl⟩)
  exact absurd hc0 dQ
 ·refine au 220661 ?_;intro j4 hj4;refine au 93714235170 ?_;constructor<;>intro hc0
  ·exact absurd hc0 sQ
  have hbb:=zZ hbar;refine au 68042120 ?_;refine bD Z Z Z Z (zbB hT hbb) ?_;rintro r4 K5 ⟨s2,h2,e2,rfl,rfl⟩;refine au 35170 ?_;refine bB hret [(s2,_),(h2,_),(e2,_),(0,_),(s,_),(h,_),(e,_)] ?_;exact .inr (.inr ⟨hbar,hne,s2,h2,e2,rfl,rfl⟩)
theorem zem {main:Bool} {T:Goroutine->Hp->Prop} (hT:zo tp main T)  {b:RBk} {s h e:Nat} (hl:b.seams.length<=100) (hm:b.measures.length<=100) {m:RMeas} :
  zA tp T gmR 42 [.agg (zE b s h e),.agg (measC m)] [(0,zy),(s,zk b),(h,zB b),(e,zq b)] (fun r K'=>(zr b≠0/\r=.tup [.agg z7R,intA (zr b)]/\K'=[(0,zy),(s,zk b),(h,zB b),(e,zq b)])\/(zr b=0/\AgrR (ye b m) [(0,zy),(s,zk b),(h,zB b),(e,zq b)] r K')):=by
 refine zp 24 hT Tryz.func42 fun Y hret=>?_;refine au 21042 ?_;intro jb hjb;refine au 210 ?_;intro jm hjm;refine au 220 ?_;intro jr hjr;refine au 68042235 ?_;refine bD Z Z Z Z (vk hT hl hm) ?_;rintro r1 K2 ⟨rfl,rfl⟩;refine au 93714235 ?_;constructor<;>intro hc0
 ·refine au 35170144042 ?_;refine bB hret [(0,_),(s,_),(h,_),(e,_)] ?_;exact .inl ⟨by simpa using hc0,rfl,rfl⟩
 have hbar:zr b=0:=by simpa using hc0
 have hml:=(zZ hbar).mes.len;have hfl:=yz measC 3 (fun _=>rfl) b.measures;refine au 2120 ?_;refine TK.dr [0,1,3,2,4,5,6,7] [0,1,2,3,4,5,6,7] ?_;refine ad [[3,2],[10,13],[12,3]] ?_;refine TD.c2 (i1:=2) (i2:=4) (pend1:=[⟨3,[3],[(_,_)]⟩,⟨0,[2],[]⟩]) (pend2:=[⟨1,[13],[(_,_)]⟩,⟨0,[2],[]⟩]) (L1:=[4,5,6,7]) (L2:=[2,5,6,7]) [14] [16] Z Z Z Z Z Z Z ?_ ?_
 ·refine wi Z Z Cal.h Z (vX hT (yz measC 3 (fun _=>rfl) b.measures) (kA measC (fun _=>rfl) _) oQ) (by repeat (first | exact Split.none _ | exact Split.all _ | (apply Split.rem; repeat (first | exact Rem.head | apply Rem.tail)) | apply Split.right)) fun r4 K5 h6=>⟨?_,?_⟩
  ·rcases h6 with ⟨jc,rfl,rfl⟩
   all_goals simp
  obtain ⟨jc,rfl,rfl⟩:=h6;try simp only [cA]
  refine bS (env':=[_,_,_,_,_,_,_,_,_,_,_,_,_,_,_,_,_,_,_,_,_,_,_,_]) Z ?_;refine bV (pend':=[⟨0,[2],[]⟩]) [16] Z Z Z Z Z (zt (l:=[_,_,_]) Z zF.h TyZ.h dQ dQ Z) (fun _=>zu rfl tQ) sQ fun j7 hj7=>?_;refine TD.capp (pend':=[⟨0,[2],[]⟩]) [15,17] Z Z Z Z Z (a_app Z ApOf.h Z mQ oQ Z (yw (ln:=[_,_,_]) mQ dQ sQ Z) oQ Z (by unfold maxLen; omega) oQ) (fun _=>uQ) (fun _=>zu rfl tQ) (fun _=>sQ) fun je=>?_;refine ad [[3,2]] ?_;refine bR (pend':=[]) [18,19] Z Z (zX Z Z zi.h Z Z mQ Z) ?_;refine ad [[14]] ?_;refine au 2 ?_;refine TK.unrowAt (c:=jb) (i:=6) (j:=je) Z mQ uQ ?_;refine bY (j:=je) ?_;rw [show b.measures.flatMap measC++[intA m.cloth,intA m.many,intA m.wide]=(ye b m).measures.flatMap measC from (yT measC b.measures m).symm,show b.measures.length+1=(ye b m).measures.length by simp [ye]];refine au 6804 ?_;refine bD Z Z Z Z ((uC hT (b:=ye b m) (s:=s) (h:=h) (e:=je) hl (by simp [ye]; omega)).mono (fun _ _ h=>h)) ?_;rintro r8 K9 h10;rcases h10 with ⟨hb2,rfl,rfl⟩ | ⟨hb2,hn2,rfl,rfl⟩ | ⟨hb2,hn2,s2,h2,e2,rfl,rfl⟩
  ·refine au 3517066 ?_;refine bB hret [(0,_),(s,_),(h,_),(e,_)] ?_;exact .inr ⟨hbar,.inl ⟨hb2,rfl,rfl⟩⟩
  ·refine au 3517066 ?_;refine bB hret [(0,_),(s,_),(h,_),(e,_)] ?_;exact .inr ⟨hbar,.inr (.inl ⟨hb2,hn2,rfl,rfl⟩)⟩
  ·refine au 3517066 ?_;refine bB hret [(s2,_),(h2,_),(e2,_),(0,_),(s,_),(h,_),(e,_)] ?_;exact .inr ⟨hbar,.inr (.inr ⟨hb2,hn2,s2,h2,e2,rfl,rfl⟩)⟩
 ·refine wb Z (zt (l:=[_,_,_]) Z zF.h TyZ.h dQ dQ Z) (fun _=>zu rfl tQ) sQ fun j11 hj11=>?_;refine bQ (pend':=[⟨0,[2],[]⟩]) [14] Z Z Z Z Z (vX hT (yz measC 3 (fun _=>rfl) b.measures) (kA measC (fun _=>rfl) _) oQ) (fun r12 K13 h14=>⟨?_,?_⟩)
  ·rcases h14 with ⟨jc,rfl,rfl⟩
   all_goals simp
  obtain ⟨jc,rfl,rfl⟩:=h14;try simp only [cA]
  refine bS tQ ?_;refine TD.capp (pend':=[⟨0,[2],[]⟩]) [15,17] Z Z Z Z Z (a_app Z ApOf.h Z mQ oQ Z (yw (ln:=[_,_,_]) mQ dQ sQ Z) oQ Z (by unfold maxLen; omega) oQ) (fun _=>uQ) (fun _=>zu rfl tQ) (fun _=>sQ) fun je=>?_;refine ad [[3,2]] ?_;refine bR (pend':=[]) [18,19] Z Z (zX Z Z zi.h Z Z mQ Z) ?_;refine ad [[14]] ?_;refine au 2 ?_;refine TK.unrowAt (c:=jb) (i:=6) (j:=je) Z mQ uQ ?_;refine bY (j:=je) ?_;rw [show b.measures.flatMap measC++[intA m.cloth,intA m.many,intA m.wide]=(ye b m).measures.flatMap measC from (yT measC b.measures m).symm,show b.measures.length+1=(ye b m).measures.length by simp [ye]];refine au 6804 ?_;refine bD Z Z Z Z ((uC hT (b:=ye b m) (s:=s) (h:=h) (e:=je) hl (by simp [ye]; omega)).mono (fun _ _ h=>h)) ?_;rintro r15 K16 h17;rcases h17 with ⟨hb2,rfl,rfl⟩ | ⟨hb2,hn2,rfl,rfl⟩ | ⟨hb2,hn2,s2,h2,e2,rfl,rfl⟩
  ·refine au 3517066 ?_;refine bB hret [(0,_),(s,_),(h,_),(e,_)] ?_;exact .inr ⟨hbar,.inl ⟨hb2,rfl,rfl⟩⟩
  ·refine au 3517066 ?_;refine bB hret [(0,_),(s,_),(h,_),(e,_)] ?_;exact .inr ⟨hbar,.inr (.inl ⟨hb2,hn2,rfl,rfl⟩)⟩
  ·refine au 3517066 ?_;refine bB hret [(s2,_),(h2,_),(e2,_),(0,_),(s,_),(h,_),(e,_)] ?_;exact .inr ⟨hbar,.inr (.inr ⟨hb2,hn2,s2,h2,e2,rfl,rfl⟩)⟩
def dryX (b:RBk) (n:Int) (x:RBand):RBand:=⟨max (bd b n.toNat).low x.low,min (bd b n.toNat).high x.high⟩
def shrM (b:RBk) (n:Int):List Int:=compM (sortR ltI ((zf b).map fun s=>zN s n.toNat))
theorem zef {xs:List Int} (h:xs.length<2):compM xs=xs:=by
 rcases xs with _ | ⟨x,_ | ⟨y,r⟩⟩
 ·rfl
 ·rfl
 ·simp only [lZ] at h; omega
def onlyL (xs:List RMeas) (mask:Nat):Nat->List RMeas
 | 0=>[]
 | i+1=>onlyL xs mask i++(if mask / 2 ^ i % 2=1 then (xs[i]?).toList else [])
def onlyB (b:RBk) (mask:Nat):RBk:={ b with measures:=onlyL b.measures mask b.measures.length }
theorem uO (xs:List RMeas) (mask:Nat):∀ i,i<=xs.length->(onlyL xs mask i).length=(zw mask i).length
 | 0,_=>rfl
 | i+1,h=>by
  unfold onlyL zw;rw [lF,lF,uO xs mask i oQ];split
  ·rw [lA oQ]; rfl
  ·rfl
theorem zbP {xs:List RMeas} {mask:Nat}:∀ i m,m∈onlyL xs mask i->m∈xs
 | 0,m,h=>by cases h
 | i+1,m,h=>by
  unfold onlyL at h;rcases lT.1 h with h | h
  ·exact zbP i m h
  ·split at h
   ·cases e:xs[i]? with
    | none=>rw [e] at h; cases h
    | some y=>rw [e] at h; rw [lS.1 h]; exact lN e
   ·cases h
theorem zgl {b:RBk} (hb:ROk b) (mask:Nat):ROk (onlyB b mask):=⟨⟨hb.rnd.steps,hb.rnd.round,hb.rnd.roll,hb.rnd.rolls⟩,⟨hb.sms.len,hb.sms.fld,hb.sms.asc⟩,⟨hb.cls.len,hb.cls.bnd⟩,⟨by
 show (onlyL b.measures mask b.measures.length).length<=3;rw [uO _ _ _ (mL _)];have:=wF mask b.measures.length;have:=hb.mes.len;omega,fun m hm=>hb.mes.bnd m (zbP _ m hm)⟩⟩
instance:Cal tp 131:={}
instance:Cal tp 132:={}
theorem zeM {main:Bool} {T:Goroutine->Hp->Prop} (hT:zo tp main T)  {b:RBk} {s h e:Nat} (hl:b.seams.length<=100) (hm:b.measures.length<=100) {n:Int} {x:RBand} :
  zA tp T gmR 45 [.agg (zE b s h e),intA n,.agg (bandC x)] [(0,zy),(s,zk b),(h,zB b),(e,zq b)] (fun r K'=>(bar2 (zr b) (thereM b n)≠0/\r=.tup [.agg z7R,intA (bar2 (zr b) (thereM b n))]/\K'=[(0,zy),(s,zk b),(h,zB b),(e,zq b)])\/(bar2 (zr b) (thereM b n)=0/\isBd x 0 5=false/\r=.tup [.agg z7R,intA 1]/\K'=[(0,zy),(s,zk b),(h,zB b),(e,zq b)])\/(bar2 (zr b) (thereM b n)=0/\isBd x 0 5=true/\(dryX b n x).high<(dryX b n x).low/\r=.tup [.agg z7R,intA 9]/\K'=[(0,zy),(s,zk b),(h,zB b),(e,zq b)])\/(bar2 (zr b) (thereM b n)=0/\isBd x 0 5=true/\(dryX b n x).low<=(dryX b n x).high/\AgrR (driedB b n.toNat (dryX b n x)) [(0,zy),(s,zk b),(h,zB b),(e,zq b)] r K')):=by
 refine zp 65 hT Tryz.func45 fun Y hret=>?_;refine au 21042 ?_;intro jb hjb;refine au 210 ?_;intro jx hjx;refine au 220 ?_;intro jr hjr;refine au 320168042235 ?_;refine bI Z Z Z (zt (l:=[_]) Z zF.h TyZ.h dQ dQ Z) (fun _=>zu rfl tQ) fun ja hja=>?_;refine bD Z Z Z Z (w8 hT (Kx:=[]) (p1:=thereM b n) hl hm (fun h0=>yx Cal.h ((uo hT (b:=b) (s:=s) (h:=h) (e:=e) (n:=n) (zZ h0).sms.len.2).frameP (R:=[(s,zk b)]) (List.Perm.refl _)))) ?_;rintro r1 K2 h3;rcases h3 with ⟨⟨hbar,rfl⟩ | ⟨hbar,rfl⟩,rfl⟩
 ·refine au 220661 ?_;intro j8 hj8;refine au 93714235170 ?_;constructor<;>intro hc0
  ·exact absurd hc0 sQ
  have hbb:=zZ (kF hbar);have hth:=zak (kc hbar);have hs5:=hbb.sms.len;have hsl:=hbb.cls.len;have hml:=hbb.mes.len;have hnb:n.toNat<b.shrinks.length:=by omega
  have hnn:n=(n.toNat:Int):=by omega
  refine au 680422120 ?_;refine bD Z Z Z Z (zbG hT (x:=x)) ?_;rintro r4 K5 ⟨rfl,rfl⟩;refine au 93300 ?_;constructor<;>intro hc1
  ·refine au 3517044042 ?_;refine bB hret [(0,_),(s,_),(h,_),(e,_)] ?_;exact .inr (.inl ⟨hbar,by simpa using hc1,rfl,rfl⟩)
  refine au 2120 ?_;refine bL [0,1,2,3,4,5,6,7,8,9,10,11,12,13,14,15,16,17,18,19,20] ?_;refine ad [[3,3],[10,27],[1,1],[2,28,29],[3,30]] ?_;refine bT [31] Z (hq:=zm Z Z zi.h (mC _) (yn (c:=0) (bd_at b (i:=n.toNat) hnb hnn) dQ Z)) (h:=?_);refine ad [[3,5],[10,33]] ?_;refine TD.z [32,34] Z (zcZ Z Z Z) ?_;refine ad [[3,3],[10,36],[1,1],[2,37,38],[3,39]] ?_;refine bT [40] Z (hq:=zm Z Z zi.h (mC _) (yn (c:=1) (bd_at b (i:=n.toNat) hnb hnn) dQ Z)) (h:=?_);refine ad [[3,5],[10,42]] ?_;refine TD.z [41,43] Z (zc0 Z Z Z) ?_;refine TD.z [35,44] Z (yE (l:=[_,_]) Z TyZ.h BlOf.h Z) ?_;refine bX (pend':=[⟨18,[35,44],[]⟩,⟨17,[41,43],[]⟩,⟨16,[42],[(_,_)]⟩,⟨15,[5],[]⟩,⟨14,[40],[(_,_)]⟩,⟨13,[39],[]⟩,⟨12,[37,38],[]⟩,⟨11,[1],[]⟩,⟨10,[36],[(_,_)]⟩,⟨9,[3],[]⟩,⟨8,[32,34],[]⟩,⟨7,[33],[(_,_)]⟩,⟨6,[5],[]⟩,⟨5,[31],[(_,_)]⟩,⟨4,[30],[]⟩,⟨3,[28,29],[]⟩,⟨2,[1],[]⟩,⟨1,[27],[(_,_)]⟩,⟨0,[3],[]⟩]) [] Z Z Z Z Z (yL Z TyZA.h) (fun _=>zu rfl tQ) sQ fun j10 hj10=>?_;refine bR (pend':=[]) [10,45] Z Z (zX Z Z zi.h Z Z mQ Z) ?_;refine ad [[14]] ?_;refine au 937690670690670422 ?_;constructor<;>intro hc2
  ·refine au 3517044042 ?_;refine bB hret [(0,_),(s,_),(h,_),(e,_)] ?_;exact .inr (.inr (.inl ⟨hbar,by simpa using hc1,of_decide_eq_true hc2,rfl,rfl⟩))
  refine au 69067042120 ?_;refine bD Z Z Z Z (zaO hT (yz bandC 2 (fun _=>rfl) b.shrinks) (kA bandC (fun _=>rfl) _) oQ) ?_;rintro r7 K8 ⟨jc,rfl,rfl⟩;refine au 3706801690670423170670 ?_;refine TK.st Z Z Z (zX Z Z zi.h Z Z mQ (zgo (x:=(dryX b n x)) hnb hnn)) uQ (putN Z) ?_;refine au 23 ?_;refine TK.unrowAt (c:=jb) (i:=5) (j:=jc) Z mQ uQ ?_;refine bY (j:=jc) ?_;rw [show b.shrinks.length=(driedB b n.toNat (dryX b n x)).shrinks.length by simp [driedB]];refine au 6804 ?_;refine bD Z Z Z Z ((uC hT (b:=(driedB b n.toNat (dryX b n x))) (s:=s) (h:=jc) (e:=e) hl hm).mono (fun _ _ h=>h)) ?_;rintro r10 K11 h12;rcases h12 with ⟨hb2,rfl,rfl⟩ | ⟨hb2,hn2,rfl,rfl⟩ | ⟨hb2,hn2,s2,h2,e2,rfl,rfl⟩
  ·refine au 3517066 ?_;refine bB hret [(0,_),(s,_),(h,_),(e,_)] ?_;exact .inr (.inr (.inr ⟨hbar,by simpa using hc1,Int.not_lt.1 (of_decide_eq_false hc2),.inl ⟨hb2,rfl,rfl⟩⟩))
  ·refine au 3517066 ?_;refine bB hret [(0,_),(s,_),(h,_),(e,_)] ?_;exact .inr (.inr (.inr ⟨hbar,by simpa using hc1,Int.not_lt.1 (of_decide_eq_false hc2),.inr (.inl ⟨hb2,hn2,rfl,rfl⟩)⟩))
  ·refine au 3517066 ?_;refine bB hret [(s2,_),(h2,_),(e2,_),(0,_),(s,_),(h,_),(e,_)] ?_;exact .inr (.inr (.inr ⟨hbar,by simpa using hc1,Int.not_lt.1 (of_decide_eq_false hc2),.inr (.inr ⟨hb2,hn2,s2,h2,e2,rfl,rfl⟩)⟩))
 ·refine au 220661 ?_;intro j8 hj8;refine au 93714235170 ?_;constructor<;>intro hc0
  ·
   refine au 35170144042 ?_;refine bB hret [(0,_),(s,_),(h,_),(e,_)] ?_;exact .inl ⟨hbar,rfl,rfl⟩
  exact absurd hbar (by simpa using hc0)
theorem zg7 {main:Bool} {T:Goroutine->Hp->Prop} (hT:zo tp main T)  {b:RBk} {s h e:Nat} (hl:b.seams.length<=100) (hm:b.measures.length<=100) {r0:Int} :
  zA tp T gmR 47 [.agg (zE b s h e),intA r0] [(0,zy),(s,zk b),(h,zB b),(e,zq b)] (fun r K'=>(zr b≠0/\r=.tup [.agg z7R,intA (zr b)]/\K'=[(0,zy),(s,zk b),(h,zB b),(e,zq b)])\/(zr b=0/\betw r0 b.steps 40=false/\r=.tup [.agg z7R,intA 1]/\K'=[(0,zy),(s,zk b),(h,zB b),(e,zq b)])\/(zr b=0/\betw r0 b.steps 40=true/\∃ s2 h2 e2,r=.tup [.agg (zE (atRound b r0) s2 h2 e2),intA 0]/\K'=(s2,zk b)::(h2,zB b)::(e2,zq b)::[(0,zy),(s,zk b),(h,zB b),(e,zq b)])):=by
 refine zp 23 hT Tryz.func47 fun Y hret=>?_;refine au 21042 ?_;intro jb hjb;refine au 220 ?_;intro jr hjr;refine au 68042235 ?_;refine bD Z Z Z Z (vk hT hl hm) ?_;rintro r1 K2 ⟨rfl,rfl⟩;refine au 93714235 ?_;constructor<;>intro hc0
 ·refine au 35170144042 ?_;refine bB hret [(0,_),(s,_),(h,_),(e,_)] ?_;exact .inl ⟨by simpa using hc0,rfl,rfl⟩
 have hbar:zr b=0:=by simpa using hc0
 have hbb:=zZ hbar;refine au 6906701422120 ?_;refine bD Z Z Z Z (yy hT) ?_;rintro r4 K5 ⟨rfl,rfl⟩;refine au 93300 ?_;constructor<;>intro hc1
 ·refine au 3517044042 ?_;refine bB hret [(0,_),(s,_),(h,_),(e,_)] ?_;exact .inr (.inl ⟨hbar,by simpa using hc1,rfl,rfl⟩)
 have hb1:=vN (n:=r0) (lo:=b.steps) (hi:=40) (by simpa using hc1);refine au 680423170670142120 ?_;refine bD Z Z Z Z (zbB hT (b:=atRound b r0) (s:=s) (h:=h) (e:=e) (zca hbb oQ oQ)) ?_;rintro r7 K8 ⟨s2,h2,e2,rfl,rfl⟩;refine au 35170 ?_;refine bB hret [(s2,_),(h2,_),(e2,_),(0,_),(s,_),(h,_),(e,_)] ?_;exact .inr (.inr ⟨hbar,by simpa using hc1,s2,h2,e2,rfl,rfl⟩)
theorem zdm {main T} (hT:zo tp main T) {gm} {j n:Nat} {xs:List Int} (hn:xs.length=n) (hl:n<=1000) :
  zA tp T gm 132 [.row j n] [(j,.row (xs.map intA) 3 1)] (fun r K'=>(∃ zs:List Int,r=.sl j 0 (compM xs).length/\K'=[(j,.row ((compM xs++zs).map intA) 3 1)])\/(r=.row j n/\compM xs=xs/\K'=[(j,.row (xs.map intA) 3 1)])):=by
 refine zp 61 hT Tryz.func132 fun Y hret=>?_;refine au 93728014223542 ?_;constructor<;>intro hc0
 ·
  refine au 35142 ?_;refine bB hret [(j,_)] ?_;exact .inr ⟨rfl,zef (by simp at hc0; omega),rfl⟩
 have h2:2<=n:=by simp at hc0; omega
 refine au 13035422120 ?_;refine bA [0,3] ?_;refine bE (fun n1 env K=>∃ (i:Nat),n1=n - i/\1<=i/\i<=n/\(compN xs i).length=i/\env=.row j n::naL 2 (intA i::naL 57 [])/\K=[(j,.row (xs.map intA) 3 1)]) (n - 1) ⟨1,rfl,mL _,oQ,by simp [compN]; omega,rfl,rfl⟩ fun n1 env K hI hnext=>?_;obtain ⟨i,rfl,hi1,hi,hlead,rfl,rfl⟩:=hI;refine bG nQ ?_;refine au 93728011422 ?_;constructor<;>intro hc1
 ·have hil:i<n:=by simp at hc1; omega
  refine au 21302120 ?_;refine bL [0,1,2,3,4,5,6,7,8,9] ?_;refine ad [[1,0],[1,3]] ?_;refine bT [16,17] Z (hq:=kB Z Z Z zF.h (mC _) oQ oQ) (h:=?_);refine bT [18] Z (hq:=zm Z Z zi.h (mC _) (zaj (i:=i) (z6 oQ) Z)) (h:=?_);refine ad [[1,0],[1,3],[9,21]] ?_;refine bT [20,22] Z (hq:=kB Z Z Z zF.h (mC _) oQ oQ) (h:=?_);refine bT [23] Z (hq:=zm Z Z zi.h (mC _) (zaj (i:=i - 1) (z6 oQ) oQ)) (h:=?_);refine ad [[4,19,24],[14]] ?_;refine au 9 ?_;constructor<;>intro hc2
  ·have heq:zN xs (i - 1)=zN xs i:=by have:=eq_of_beq hc2; exact this.symm
   obtain ⟨i0,rfl⟩:∃ i0,i=i0+1:=⟨i - 1,oQ⟩;have hc1e:compN xs (i0+2)=compN xs (i0+1):=vY heq;refine au 1142 ?_;refine bH Z (wB Z Z zF.h mQ Z Z oQ oQ Z) ?_;refine au 1303542235 ?_;refine bA [0,3,4,5] ?_;refine bE (fun n1 env K=>∃ (q w o4:Nat),n1=n - q/\o4=i0+1/\1<=q/\i0+1+q<=n/\(compN xs (i0+1+q)).length=w/\w+1<=i0+1+q/\env=.row j n::naL 2 (intA w::.sl j o4 (n - (i0+1))::intA q::naL 55 [])/\K=[(j,.row ((compN xs (i0+1+q)++xs.drop w).map intA) 3 1)]) (n - 1) ⟨1,i0+1,_,rfl,(by omega:0+((i0+1:Nat):Int).toNat*1=i0+1),mL _,oQ,by rw [show i0+1+1=i0+2 by omega,hc1e]; exact hlead,oQ,rfl,by rw [show i0+1+1=i0+2 by omega,hc1e,uE _ oQ hlead,List.take_append_drop]⟩ fun n1 env K hI hnext1=>?_;obtain ⟨q,w,o4,rfl,ho4,hq1,hq,hw,hwq,rfl,rfl⟩:=hI;have hdl:(compN xs (i0+1+q)++xs.drop w).length=n:=by rw [lF,List.length_drop,hw]; omega
   refine bG nQ ?_;refine au 93728011422 ?_;constructor<;>intro hc3
   ·have hql:i0+1+q<n:=by simp at hc3; omega
    have hq2:i0+1+(q+1)=(i0+q)+2:=by omega
    have hq3:compN xs (i0+q+1)=compN xs (i0+1+q):=by rw [show i0+q+1=i0+1+q by omega]
    have hq4:zN xs (i0+1+q)=zN xs (i0+q+1):=by rw [show i0+q+1=i0+1+q by omega]
    refine au 21302120 ?_;refine bL [0,1,2,3,4,5,6,7,8,9] ?_;refine ad [[1,4],[1,5],[2,35,36]] ?_;refine bT [37] Z (hq:=zm Z Z zi.h (mC _) (kE (i:=i0+1+q) (uD hw oQ oQ) oQ)) (h:=?_);refine ad [[1,4],[1,5],[9,40],[2,39,41]] ?_;refine bT [42] Z (hq:=zm Z Z zi.h (mC _) (kE (i:=i0+q) (uD hw oQ oQ) oQ)) (h:=?_);refine ad [[4,38,43],[14]] ?_;refine au 9 ?_;constructor<;>intro hc4
    ·have hne4:zN xs (i0+q)≠zN xs (i0+q+1):=fun h=>by rw [hq4,<- h] at hc4; simp at hc4
     refine au 360111142 ?_;refine bH Z (zm Z Z zi.h mQ (kE (i:=i0+1+q) (uD hw oQ oQ) oQ)) ?_;refine au 370 ?_;refine TK.st Z Z Z (zX Z Z zi.h Z Z mQ (zdT (k:=w) oQ Z)) uQ (putN Z) ?_;refine au 352301414035230143 ?_;refine bA [0,3,4,5] ?_;refine bC [(j,_)] ?_;exact hnext1 _ _ _ oQ ⟨q+1,w+1,o4,rfl,ho4,oQ,oQ,by rw [hq2,vZ hne4,lF,hq3,hw]; rfl,oQ,rfl,by rw [zfM hw oQ,hq2,vZ hne4,hq3,<- hq4]⟩
    have heq4:zN xs (i0+q)=zN xs (i0+q+1):=by rw [<- hq4]; simp at hc4; exact hc4.symm
    refine au 3523014140120 ?_;refine bA [0,3,4,5] ?_;refine bC [(j,_)] ?_;exact hnext1 _ _ _ oQ ⟨q+1,w,o4,rfl,ho4,oQ,oQ,by rw [hq2,vY heq4,hq3,hw],oQ,rfl,by rw [hq2,vY heq4,hq3]⟩
   have hnq:n=i0+1+q:=by simp at hc3; omega
   refine au 1142160 ?_;refine bH Z (wB Z Z zF.h mQ Z Z oQ oQ Z) ?_;refine TK.st Z Z Z (zhv Z ApOf.h TyZ.h Z oQ mQ (zff (k:=w) hw oQ oQ oQ)) uQ (putN Z) ?_;refine au 11423 ?_;refine bH Z (wB Z Z zF.h mQ Z Z oQ oQ Z) ?_;refine au 35 ?_;refine bB hret [(j,_)] ?_;have hcm:compM xs=compN xs (i0+1+q):=by unfold compM; rw [hn,hnq]
   exact .inl ⟨_,by rw [hcm,hw]; rfl,by rw [hcm]⟩
  have hne:¬ zN xs (i - 1)=zN xs i:=fun h=>by rw [h] at hc2; simp at hc2
  have hi2:i+1=(i - 1)+2:=by omega
  have hi3:zN xs i=zN xs (i - 1+1):=by rw [show i - 1+1=i by omega]
  have hlead2:(compN xs (i - 1+1)).length=i:=by rw [show i - 1+1=i by omega]; exact hlead
  refine au 3523014140120 ?_;refine bA [0,3] ?_;refine bC [(j,_)] ?_;exact hnext _ _ _ oQ ⟨i+1,rfl,oQ,oQ,by rw [hi2,vZ (fun h=>hne (by rw [hi3]; exact h)),lF,hlead2]; simp; omega,rfl,rfl⟩
 obtain rfl:i=n:=by simp at hc1; omega
 refine au 35142160 ?_;refine bB hret [(j,_)] ?_;exact .inr ⟨rfl,by unfold compM; rw [uE _ (mL _) (by rw [hn]; exact hlead),lW],rfl⟩
theorem za6 {main:Bool} {T:Goroutine->Hp->Prop} (hT:zo tp main T)  {b:RBk} {s h e:Nat} (hl:b.seams.length<=100) (hm:b.measures.length<=100) {n:Int} (h12:(zf b).length<=12) :
  zA tp T gmR 52 [.agg (zE b s h e),intA n] [(0,zy),(s,zk b),(h,zB b),(e,zq b)] (fun r K'=>(bar2 (zr b) (thereM b n)≠0/\r=.tup [.v (.slice none 0 0),intA (bar2 (zr b) (thereM b n))]/\K'=[(0,zy),(s,zk b),(h,zB b),(e,zq b)])\/(bar2 (zr b) (thereM b n)=0/\zf b=[]/\r=.tup [.v (.slice none 0 0),intA 9]/\K'=[(0,zy),(s,zk b),(h,zB b),(e,zq b)])\/(bar2 (zr b) (thereM b n)=0/\zf b≠[]/\∃ jr zs,r=.tup [.sl jr 0 (shrM b n).length,intA 0]/\K'=(jr,.cells ((shrM b n++zs).map intA) 3 false)::[(0,zy),(s,zk b),(h,zB b),(e,zq b)])):=by
 refine zp 40 hT Tryz.func52 fun Y hret=>?_;refine au 21042 ?_;intro jb hjb;refine au 320168042355 ?_;refine bI Z Z Z (zt (l:=[_]) Z zF.h TyZ.h dQ dQ Z) (fun _=>zu rfl tQ) fun ja hja=>?_;refine bD Z Z Z Z (uK hT (Kx:=[]) (p1:=thereM b n) (fun h0=>yx Cal.h ((uo hT (b:=b) (s:=s) (h:=h) (e:=e) (n:=n) (zZ h0).sms.len.2).frameP (R:=[(s,zk b)]) (List.Perm.refl _))) hl hm) ?_;rintro r1 K2 h3;rcases h3 with ⟨hbar,rfl,rfl⟩ | ⟨hbar,hnil,rfl,rfl⟩ | ⟨hbar,hne,a,rfl,rfl⟩
 ·refine au 220661 ?_;intro j6 hj6;refine au 937142235170 ?_;constructor<;>intro hc0
  ·
   refine au 355142 ?_;refine bB hret [(0,_),(s,_),(h,_),(e,_)] ?_;exact .inl ⟨hbar,rfl,rfl⟩
  exact absurd hbar (by simpa using hc0)
 ·refine au 220661 ?_;intro j6 hj6;refine au 937142235170 ?_;constructor<;>intro hc0
  ·
   refine au 355142 ?_;refine bB hret [(0,_),(s,_),(h,_),(e,_)] ?_;exact .inr (.inl ⟨hbar,hnil,rfl,rfl⟩)
  exact absurd hc0 dQ
 ·refine au 220661 ?_;intro j6 hj6;refine au 937142235170 ?_;constructor<;>intro hc0
  ·exact absurd hc0 sQ
  have hbb:=zZ (kF hbar);have hth:=zak (kc hbar);have hs5:=hbb.sms.len;have hpos:0<(zf b).length:=List.length_pos_iff.2 hne;refine au 542120 ?_;refine TK.virt 8 3 1 Z fun jt0 hjt0=>?_;refine au 130312806906704223 ?_;refine bA [1,4,5,6,8,23,24,25] ?_;refine bC [(a,_),(0,_),(s,_),(h,_),(e,_),(j6,_),(jt0,_)] ?_;refine bE (fun n1 env K=>∃ (i jt:Nat),n1=(zf b).length - i/\i<=(zf b).length/\env=.any::intA n::naL 2 (.v (.slice none 0 0)::intA 0::.ptr j6 0::.any::.row jt i::naL 14 (.sl a 0 (zf b).length::intA (zf b).length::intA i::naL 14 []))/\K=[(a,allO (zf b)),(0,zy),(s,zk b),(h,zB b),(e,zq b),(j6,.cells (knownC b s h e a (zf b).length) 139 true),(jt,.row ((((zf b).take i).map fun s=>zN s n.toNat).map intA) 3 1)]) (zf b).length ⟨0,jt0,rfl,mN _,rfl,rfl⟩ fun n1 env K hI hnext=>?_;obtain ⟨i,jt,rfl,hi,rfl,rfl⟩:=hI;refine bG nQ ?_;refine au 923742 ?_;constructor<;>intro hc1
  ·have hil:i<(zf b).length:=by simp at hc1; omega
   obtain ⟨st,hst⟩:∃ st,(zf b)[i]? =some st:=⟨_,lA hil⟩;refine au 360421302120 ?_;refine bH Z (ya Z Z zi.h mQ (zaL (i:=i) hst Z)) ?_;refine au 220 ?_;intro j10 hj10;refine au 1143170 ?_;refine bH Z (wA Z Z Z ArEl.h oQ oQ) ?_;refine bH Z (zm Z Z zi.h mQ (st_at (i:=n.toNat) oQ oQ)) ?_;refine bI Z Z Z (zt (l:=[_]) Z zF.h TyZ.h dQ dQ Z) (fun _=>zu rfl tQ) fun j4 hj4=>?_;refine bO Z Z Z (a_app Z ApOf.h Z mQ (by simp; omega) Z (yw (ln:=[_]) mQ dQ sQ Z) oQ Z (by unfold maxLen; omega) oQ) (fun _=>uQ) (fun _=>zu rfl tQ) fun jt2=>?_;refine au 31230414035 ?_;refine bA [1,4,5,6,8,23,24,25] ?_;refine bC [(a,_),(0,_),(s,_),(h,_),(e,_),(j6,_),(jt2,_)] ?_;exact hnext _ _ _ oQ ⟨i+1,jt2,rfl,oQ,rfl,by rw [yQ hst,lM,lM]; rfl⟩
  obtain rfl:i=(zf b).length:=by simp at hc1; omega
  rw [List.take_of_length_le (mL _)];have hsl2:(sortR ltI ((zf b).map fun s=>zN s n.toNat)).length=(zf b).length:=by unfold sortR; rw [wW _ _ (mL _),lJ]
  refine au 142160 ?_;refine bD Z Z Z Z (zhB hT (xs:=((zf b).map fun s=>zN s n.toNat)) sQ ⟨hpos,h12⟩) ?_;rintro r5 K6 rfl;refine au 1423 ?_;refine bD Z Z Z Z (zdm hT (xs:=sortR ltI ((zf b).map fun s=>zN s n.toNat)) hsl2 oQ) ?_;rintro r8 K9 h10;rcases h10 with ⟨zs,rfl,rfl⟩ | ⟨rfl,hcm,rfl⟩
  ·refine au 0 ?_;refine bY (j:=jt) ?_;refine au 355 ?_;refine bB hret [(jt,_),(0,_),(s,_),(h,_),(e,_)] ?_;exact .inr (.inr ⟨hbar,hne,jt,zs,rfl,rfl⟩)
  ·refine au 0 ?_;refine TK.asSl 39 Z (mC _) ?_;refine bY (j:=jt) ?_;refine au 355 ?_;refine bB hret [(jt,_),(0,_),(s,_),(h,_),(e,_)] ?_;exact .inr (.inr ⟨hbar,hne,jt,[],by unfold shrM; rw [hcm,hsl2],by unfold shrM; rw [hcm,lR]⟩)
end Go.Vel
namespace Go.Vel
open Go Go.Conc
section
variable {P:Program} {gm:Nat->Option Nat} {T:Goroutine->Hp->Prop} {Y:KX P gm T} {ds:List Nat} {k:List Item} {env env':List AV} {K K' K1:KV} {ops:Array Oper} {i:Nat} {L':List Nat} {o:Oper} {envf:Nat->List AV} {pend pend':List Pd}
theorem TD.cappG {s x:Operand} {t e:TypeId} {size bytes j n m:Nat} {lo ln:List AV} {u:AV} {K'':Nat->KV} (sl:List Nat) (ho:ops[i]? =some o) (hd:yc o.op=false) (hw:zK ops (onl sl env) o=some true) (hp':pendOf ops i pend=pend') (hc:chkC ops pend' L' sl i o.dst=true) (hop:o.op=.call { callee:=.builtin .append,args:=#[s,x],argTypes:=#[t,t] }) (ht:apOf P t=some (e,size,bytes)) (hs:zn gm (onl sl env) s=some (.row j n)) (hm:(j,.row lo e size)∈K) (hlo:lo.length=n*size) (hx:zn gm (onl sl env) x=some u) (hl:lenA u=some m) (hsrc:0<m->srcO K size u m ln) (hln:m=0->ln=[])
  (hone:ln.all oneA=true) (hmax:n+m<=maxLen) (hbytes:(n+m)*bytes<=140737488355328) (hu:∀ j',Upd K j (.row lo e size) j' (.row (lo++ln) e size) (K'' j')) (he:∀ j',zO env o.dst (.row j' (n+m))=envf j') (hv:∀ j',∀ p∈pend',∀ x∈p.V,x∈K'' j') (h:∀ j',TD Y ds ops k pend' L' (envf j') (K'' j')):TD Y ds ops k pend (i::L') env K:=by
 rcases mP m with e0 | hpos
 ·subst e0;have hk:K'' j=K:=(hu j).same (by rw [hln rfl,lR]);have ht':=ht;unfold apOf at ht';split at ht'
  ·rename_i e' h1;split at ht'
   ·rename_i ti h2;refine TD.cq (r:=.row j n) sl ho hd hw hp' hc (zcW hop h1 h2 hs hx hl) (he j) (by rw [<- hk]; exact hv j) ?_;rw [<- hk]; exact h j
   ·cases ht'
  ·cases ht'
 ·exact TD.capp sl ho hd hw hp' hc (a_app hop ht hs hm hlo hx (hsrc hpos) hpos hone hmax hbytes) hu he hv h
theorem zdF {j n:Nat} {ob ob':AObj} {K'':Nat->KV} {sl:List Nat} (hd:yc o.op=false) (hq:∀ A,zM K A->OpOk P gm (onl sl env) A o (.row A.length n) (A.set j .gone++[ob'])) (hu:∀ j',Upd K j ob j' ob' (K'' j')) (he:∀ j',zO env o.dst (.row j' n)=envf j') (hv:∀ j',∀ p∈pend',∀ x∈p.V,x∈K'' j') (h:∀ j',TD Y ds ops k pend' L' (envf j') (K'' j')) :
  ExK Y (onl sl env) K o fun r K'=>(∀ p∈pend',∀ x∈p.V,x∈K')/\TD Y ds ops k pend' L' (zO env o.dst r) K' :=
 wu hd fun A hv' hn=>⟨_,_,_,hq A hv',.renew hv' hn (hu _),hv _,by rw [he]; exact h _⟩
theorem zfT {s x:Operand} {t e:TypeId} {size bytes j n m:Nat} {lo ln:List AV} {u:AV} {K'':Nat->KV} {sl:List Nat} (hd:yc o.op=false) (hop:o.op=.call { callee:=.builtin .append,args:=#[s,x],argTypes:=#[t,t] }) (ht:apOf P t=some (e,size,bytes)) (hs:zn gm (onl sl env) s=some (.row j n)) (hm:(j,.row lo e size)∈K) (hlo:lo.length=n*size) (hx:zn gm (onl sl env) x=some u) (hl:lenA u=some m) (hsrc:0<m->srcO K size u m ln) (hln:m=0->ln=[])
  (hone:ln.all oneA=true) (hmax:n+m<=maxLen) (hbytes:(n+m)*bytes<=140737488355328) (hu:∀ j',Upd K j (.row lo e size) j' (.row (lo++ln) e size) (K'' j')) (he:∀ j',zO env o.dst (.row j' (n+m))=envf j') (hv:∀ j',∀ p∈pend',∀ x∈p.V,x∈K'' j') (h:∀ j',TD Y ds ops k pend' L' (envf j') (K'' j')) :
  ExK Y (onl sl env) K o fun r K'=>(∀ p∈pend',∀ x∈p.V,x∈K')/\TD Y ds ops k pend' L' (zO env o.dst r) K':=by
 rcases mP m with e0 | hpos
 ·subst e0;have hk:K'' j=K:=(hu j).same (by rw [hln rfl,lR]);have ht':=ht;unfold apOf at ht';split at ht'
  ·rename_i e' h1;split at ht'
   ·rename_i ti h2;exact wu hd fun A hv' hn=>⟨.row j n,A,K,zcW hop h1 h2 hs hx hl A hv',.same hv' hn,by rw [<- hk]; exact hv j,by rw [show zO env o.dst (.row j n)=envf j from he j,<- hk]; exact h j⟩
   ·cases ht'
  ·cases ht'
 ·exact zdF hd (a_app hop ht hs hm hlo hx (hsrc hpos) hpos hone hmax hbytes) hu he hv h
end
end Go.Vel
namespace Go.Vel
open Go Go.Conc Go.Proofs
theorem zhr {main T} (hT:zo tp main T) {gm} {b:RBk} {s h e mask:Nat} (hm:b.measures.length<=3) (hk:mask<100) :
  zA tp T gm 116 [.agg (zE b s h e),intA mask] [(e,zq b)] (fun r K'=>∃ jl jm,r=.tup [.agg [intA b.steps,intA b.round,intA b.roll,intA b.rolls,.sl s 0 b.seams.length,.sl h 0 b.shrinks.length,.row jm (onlyB b mask).measures.length],.row jl (zw mask b.measures.length).length]/\K'=[(jl,.row ((zw mask b.measures.length).map intA) 3 1),(jm,.row ((onlyB b mask).measures.flatMap measC) 49 3),(e,zq b)]):=by
 refine zp 42 hT Tryz.func116 fun Y hret=>?_;refine au 21042 ?_;intro jb hjb;refine au 220 ?_;intro jr hjr;refine au 54235 ?_;refine TK.virt 6 3 1 Z fun jl0 hjl0=>?_;refine au 220680423 ?_;intro j7 hj7;refine au 170670670423170 ?_;refine TK.normK (K':=[(j7,.cells [intA b.steps,intA b.round,intA b.roll,intA b.rolls,.sl s 0 b.seams.length,.sl h 0 b.shrinks.length,.v (.slice none 0 0)] 113 true),_,_,_,_]) (by simp only [setL,zE,List.drop_zero,List.take,List.set]; rfl) ?_;refine TK.virtAt (j:=j7) (i:=6) (e:=49) (size:=3) (l:=[intA b.steps,intA b.round,intA b.roll,intA b.rolls,.sl s 0 b.seams.length,.sl h 0 b.shrinks.length,.v (.slice none 0 0)]) Z (fun _=>uQ) fun jm0 hjm0=>?_;refine au 130312806906706704223 ?_;refine bA [1,4,5,6,7,15,16,17] ?_;refine bC [(e,_),(jl0,_),(jm0,_),(j7,_),(jr,_)] ?_;refine bE (fun n env K=>∃ (i jl jm:Nat),n=b.measures.length - i/\i<=b.measures.length/\env=.any::.v (.int .i64 ((mask:Nat):Int))::naL 2 (.ptr jr 0::.v (.slice none 0 0)::.row jl (zw mask i).length::.ptr j7 0::naL 7 (.sl e 0 b.measures.length::intA b.measures.length::intA i::naL 24 []))/\K=[(e,zq b),(jl,.row ((zw mask i).map intA) 3 1),(jm,.row ((onlyL b.measures mask i).flatMap measC) 49 3),(j7,.cells [intA b.steps,intA b.round,intA b.roll,intA b.rolls,.sl s 0 b.seams.length,.sl h 0 b.shrinks.length,.row jm (onlyL b.measures mask i).length] 113 true),(jr,.cells z7R 113 true)]) b.measures.length ⟨0,jl0,jm0,rfl,mN _,rfl,rfl⟩ fun n env K hI hnext=>?_;obtain ⟨i,jl,jm,rfl,hi,rfl,rfl⟩:=hI;have hbl:=wF mask i;have hol:=uO b.measures mask i hi;have hfl:=yz measC 3 (fun _=>rfl) (onlyL b.measures mask i);refine bG nQ ?_;refine au 923742 ?_;constructor<;>intro hc0
 ·have hil:i<b.measures.length:=by simp at hc0; omega
  obtain ⟨x,hx⟩:∃ x,b.measures[i]? =some x:=⟨_,lA hil⟩;refine au 3601421302120 ?_;refine bH Z (ya Z Z zi.h mQ (zcF (i:=i) hx Z)) ?_;refine au 220 ?_;intro j9 hj9;refine au 114231705 ?_;refine bH Z (q_sh Z Z Z ⟨by omega,by show ((i:Nat):Int)<=64; omega⟩ (zfq mask i)) ?_;refine bH Z (zfh Z Z Z (by have:=Nat.div_le_self mask (2 ^ i); omega)) ?_;refine au 937 ?_;constructor<;>intro hc1
  ·have hbit:mask / 2 ^ i % 2=1:=by have h:=eq_of_beq hc1; omega
   have hk1:zw mask (i+1)=zw mask i++[(i:Int)]:=by show zw mask i++_=_; rw [if_pos hbit]
   have hk2:onlyL b.measures mask (i+1)=onlyL b.measures mask i++[x]:=by show onlyL b.measures mask i++_=_; rw [if_pos hbit,hx]; rfl
   refine TK.dr [0,1,4,5,6,7,2,3,8,9,10,11,12,13] [0,1,2,3,4,5,6,7,8,9,10,11,12,13] ?_;refine ad [[1,6],[1,8],[3,7],[3,31],[10,32],[12,9]] ?_;refine TD.c2 (i1:=2) (i2:=8) (pend1:=[⟨7,[9],[(_,_)]⟩,⟨6,[32],[(_,_)]⟩,⟨5,[31],[]⟩,⟨4,[7],[]⟩,⟨0,[6],[]⟩]) (pend2:=[⟨6,[32],[(_,_)]⟩,⟨5,[31],[]⟩,⟨4,[7],[]⟩,⟨1,[8],[]⟩,⟨0,[6],[]⟩]) (L1:=[3,8,9,10,11,12,13]) (L2:=[2,3,9,10,11,12,13]) [28] [34] Z Z Z Z Z Z Z ?_ ?_
   ·refine wb Z (zt (l:=[_]) Z zF.h TyZ.h dQ dQ Z) (fun _=>zu rfl tQ) sQ fun j1 hj1=>?_;refine TD.c2 (i1:=3) (i2:=8) (pend1:=[⟨7,[9],[(_,_)]⟩,⟨6,[32],[(_,_)]⟩,⟨5,[31],[]⟩,⟨4,[7],[]⟩]) (pend2:=[⟨6,[32],[(_,_)]⟩,⟨5,[31],[]⟩,⟨4,[7],[]⟩,⟨0,[6],[]⟩]) (L1:=[8,9,10,11,12,13]) (L2:=[3,9,10,11,12,13]) [27,29] [34] Z Z Z Z Z Z Z ?_ ?_
    ·refine zdF Z (a_app Z ApOf.h Z mQ sQ Z (yw (ln:=[_]) mQ dQ sQ Z) oQ Z (by unfold maxLen; omega) oQ) (fun _=>uQ) (fun _=>zu rfl tQ) (fun _=>sQ) fun jl2=>?_;refine bV (pend':=[⟨6,[32],[(_,_)]⟩,⟨5,[31],[]⟩,⟨4,[7],[]⟩]) [34] Z Z Z Z Z (zt (l:=[_,_,_]) Z zF.h TyZ.h dQ dQ Z) (fun _=>zu rfl tQ) sQ fun j2 hj2=>?_;refine TD.capp (pend':=[⟨5,[31],[]⟩,⟨4,[7],[]⟩]) [33,35] Z Z Z Z Z (a_app Z ApOf.h Z mQ oQ Z (yw (ln:=[_,_,_]) mQ dQ sQ Z) oQ Z (by unfold maxLen; omega) oQ) (fun _=>uQ) (fun _=>zu rfl tQ) (fun _=>sQ) fun jm2=>?_;refine TD.as (pend':=[⟨5,[31],[]⟩,⟨4,[7],[]⟩]) [30] Z Z (zD Z Z) ?_;refine ad [[3,7],[3,37]] ?_;refine bR (pend':=[⟨11,[7],[]⟩]) [36,38] Z Z (zX Z Z zi.h Z Z mQ Z) ?_;refine ad [[14]] ?_;refine au 312304140 ?_;refine bA [1,4,5,6,7,15,16,17] ?_;refine bC [(e,_),(jl2,_),(jm2,_),(j7,_),(jr,_)] ?_;exact hnext _ _ _ oQ ⟨i+1,jl2,jm2,rfl,oQ,by rw [hk1,lF]; rfl,by rw [hk1,hk2,yT,lM,lF]; rfl⟩
    ·refine wb Z (zt (l:=[_,_,_]) Z zF.h TyZ.h dQ dQ Z) (fun _=>zu rfl tQ) sQ fun j3 hj3=>?_;refine TD.capp (pend':=[⟨6,[32],[(_,_)]⟩,⟨5,[31],[]⟩,⟨4,[7],[]⟩]) [27,29] Z Z Z Z Z (a_app Z ApOf.h Z mQ sQ Z (yw (ln:=[_]) mQ dQ sQ Z) oQ Z (by unfold maxLen; omega) oQ) (fun _=>uQ) (fun _=>zu rfl tQ) (fun _=>sQ) fun jl2=>?_;refine TD.capp (pend':=[⟨5,[31],[]⟩,⟨4,[7],[]⟩]) [33,35] Z Z Z Z Z (a_app Z ApOf.h Z mQ oQ Z (yw (ln:=[_,_,_]) mQ dQ sQ Z) oQ Z (by unfold maxLen; omega) oQ) (fun _=>uQ) (fun _=>zu rfl tQ) (fun _=>sQ) fun jm2=>?_;refine TD.as (pend':=[⟨5,[31],[]⟩,⟨4,[7],[]⟩]) [30] Z Z (zD Z Z) ?_;refine ad [[3,7],[3,37]] ?_;refine bR (pend':=[⟨11,[7],[]⟩]) [36,38] Z Z (zX Z Z zi.h Z Z mQ Z) ?_;refine ad [[14]] ?_;refine au 312304140 ?_;refine bA [1,4,5,6,7,15,16,17] ?_;refine bC [(e,_),(jl2,_),(jm2,_),(j7,_),(jr,_)] ?_;exact hnext _ _ _ oQ ⟨i+1,jl2,jm2,rfl,oQ,by rw [hk1,lF]; rfl,by rw [hk1,hk2,yT,lM,lF]; rfl⟩
   ·refine wb Z (zt (l:=[_,_,_]) Z zF.h TyZ.h dQ dQ Z) (fun _=>zu rfl tQ) sQ fun j4 hj4=>?_;refine bV (pend':=[⟨6,[32],[(_,_)]⟩,⟨5,[31],[]⟩,⟨4,[7],[]⟩,⟨0,[6],[]⟩]) [28] Z Z Z Z Z (zt (l:=[_]) Z zF.h TyZ.h dQ dQ Z) (fun _=>zu rfl tQ) sQ fun j5 hj5=>?_;refine TD.capp (pend':=[⟨6,[32],[(_,_)]⟩,⟨5,[31],[]⟩,⟨4,[7],[]⟩]) [27,29] Z Z Z Z Z (a_app Z ApOf.h Z mQ sQ Z (yw (ln:=[_]) mQ dQ sQ Z) oQ Z (by unfold maxLen; omega) oQ) (fun _=>uQ) (fun _=>zu rfl tQ) (fun _=>sQ) fun jl2=>?_;refine TD.capp (pend':=[⟨5,[31],[]⟩,⟨4,[7],[]⟩]) [33,35] Z Z Z Z Z (a_app Z ApOf.h Z mQ oQ Z (yw (ln:=[_,_,_]) mQ dQ sQ Z) oQ Z (by unfold maxLen; omega) oQ) (fun _=>uQ) (fun _=>zu rfl tQ) (fun _=>sQ) fun jm2=>?_;refine TD.as (pend':=[⟨5,[31],[]⟩,⟨4,[7],[]⟩]) [30] Z Z (zD Z Z) ?_;refine ad [[3,7],[3,37]] ?_;refine bR (pend':=[⟨11,[7],[]⟩]) [36,38] Z Z (zX Z Z zi.h Z Z mQ Z) ?_;refine ad [[14]] ?_;refine au 312304140 ?_;refine bA [1,4,5,6,7,15,16,17] ?_;refine bC [(e,_),(jl2,_),(jm2,_),(j7,_),(jr,_)] ?_;exact hnext _ _ _ oQ ⟨i+1,jl2,jm2,rfl,oQ,by rw [hk1,lF]; rfl,by rw [hk1,hk2,yT,lM,lF]; rfl⟩
  have hbit:¬ mask / 2 ^ i % 2=1:=fun h=>by rw [h] at hc1; simp at hc1
  refine au 312304140120 ?_;refine bA [1,4,5,6,7,15,16,17] ?_;refine bC [(e,_),(jl,_),(jm,_),(j7,_),(jr,_)] ?_;exact hnext _ _ _ oQ ⟨i+1,jl,jm,rfl,oQ,by rw [show zw mask (i+1)=zw mask i by show zw mask i++_=_; rw [if_neg hbit,lR]]; rfl,by rw [show zw mask (i+1)=zw mask i by show zw mask i++_=_; rw [if_neg hbit,lR],show onlyL b.measures mask (i+1)=onlyL b.measures mask i by show onlyL b.measures mask i++_=_; rw [if_neg hbit,lR]]⟩
 obtain rfl:i=b.measures.length:=by simp at hc0; omega
 refine au 35170168042160 ?_;refine bB hret [(jl,_),(jm,_),(e,_)] ?_;exact ⟨jl,jm,by unfold onlyB; rfl,by unfold onlyB; rfl⟩
def badM (b:RBk) (k:Nat):Bool:=(zf (onlyB b k)).isEmpty
def clashL (b:RBk):Nat->Option (List Int)
 | 0=>none
 | k+1=>if badM b k=true then (match clashL b k with
  | none=>some (zw k b.measures.length)
  | some l=>if smallerM (zw k b.measures.length) l=true then some (zw k b.measures.length) else some l) else clashL b k
def clashM (b:RBk):Option (List Int):=clashL b (2 ^ b.measures.length)
def BestL (jo:Nat):Option (List Int)->KV->Prop
 | none,K=>K=[(jo,.cells [.v (.slice none 0 0),zP false] 155 true)]
 | some l,K=>∃ j0 e0,K=[(jo,.cells [.sl j0 0 l.length,zP true] 155 true),(j0,.cells (l.map intA) e0 false)]
theorem ziD {m:Nat} (hm:m<=3):IntKind.i64.wrap (1*2 ^ ((m:Nat):Int).toNat)=((2 ^ m:Nat):Int):=by
 have:m=0\/m=1\/m=2\/m=3:=by omega
 rcases this with rfl | rfl | rfl | rfl <;> decide
instance:Cal tp 115:={}
instance:Cal tp 116:={}
instance:Cal tp 117:={}
instance:zl tp 155 0 0 false 1:={}
instance:zl tp 155 1 1 false 1:={}
instance:TyZA tp 155 [.v (.slice none 0 0),.v (.bool false)]:={}
theorem zep {main T} (hT:zo tp main T) {gm} {jo jl:Nat} {xs:List Int} {e1:TypeId} :
  zA tp T gm 117 [.ptr jo 0,.sl jl 0 xs.length,.fn 118 [] []] [(jo,.cells [.v (.slice none 0 0),zP false] 155 true),(jl,.cells (xs.map intA) e1 false)] (fun r K'=>K'=[(jo,.cells [.sl jl 0 xs.length,zP true] 155 true),(jl,.cells (xs.map intA) e1 false)]):=by
 refine zp 27 hT Tryz.func117 fun Y hret=>?_;refine au 142 ?_;refine bH Z (kf Z Z) ?_;refine au 1300690670 ?_;refine TK.sp 11 (fun g0_6=>?_) (fun g0_6=>?_)
 ·refine au 111418032608888888 ?_;refine bH Z (kf Z Z) ?_;refine au 170670 ?_;refine bH Z (kf Z Z) ?_;refine au 3170670 ?_;refine TK.rt0 hret [(jo,_),(jl,_)] ?_;exact rfl
 simp at g0_6
theorem zeq {main T} (hT:zo tp main T) {gm} {jo jl j0:Nat} {xs ys:List Int} {e1 e2:TypeId} (hl:xs.length<=1000) :
  zA tp T gm 117 [.ptr jo 0,.sl jl 0 xs.length,.fn 118 [] []] [(jo,.cells [.sl j0 0 ys.length,zP true] 155 true),(j0,.cells (ys.map intA) e2 false),(jl,.cells (xs.map intA) e1 false)] (fun r K'=>(smallerM xs ys=true/\K'=[(jo,.cells [.sl jl 0 xs.length,zP true] 155 true),(jl,.cells (xs.map intA) e1 false)])\/(smallerM xs ys=false/\K'=[(jo,.cells [.sl j0 0 ys.length,zP true] 155 true),(j0,.cells (ys.map intA) e2 false)])):=by
 refine zp 27 hT Tryz.func117 fun Y hret=>?_;refine au 142 ?_;refine bH Z (kf Z Z) ?_;refine au 1300690670 ?_;refine TK.sp 11 (fun g0_6=>?_) (fun g0_6=>?_)
 ·simp at g0_6
 refine au 111 ?_;refine bH Z (kf Z Z) ?_;refine au 690670 ?_;refine TK.callF' Z Z Z Z Z (yx Cal.h (um hT hl)) (by repeat (first | exact Split.none _ | exact Split.all _ | (apply Split.rem; repeat (first | exact Rem.head | apply Rem.tail)) | apply Split.right)) fun r1 K2 h3=>?_;obtain ⟨rfl,rfl⟩:=h3;refine au 93250 ?_;constructor<;>intro hc0
 ·refine au 1114 ?_;refine bH Z (kf Z Z) ?_;refine au 170670 ?_;refine bH Z (kf Z Z) ?_;refine au 3170670 ?_;refine TK.rt0 hret [(jo,_),(jl,_)] ?_;exact .inl ⟨hc0,rfl⟩
 refine au 120 ?_;refine TK.rt0 hret [(jo,_),(j0,_)] ?_;exact .inr ⟨hc0,rfl⟩
theorem zfK {main:Bool} {T:Goroutine->Hp->Prop} (hT:zo tp main T)  {b:RBk} {s h e:Nat} (hl:b.seams.length<=100) (hm:b.measures.length<=100) :
  zA tp T gmR 38 [.agg (zE b s h e)] [(0,zy),(s,zk b),(h,zB b),(e,zq b)] (fun r K'=>(zr b≠0/\r=.tup [.v (.slice none 0 0),intA (zr b)]/\K'=[(0,zy),(s,zk b),(h,zB b),(e,zq b)])\/(zr b=0/\zf b≠[]/\r=.tup [.v (.slice none 0 0),intA 0]/\K'=[(0,zy),(s,zk b),(h,zB b),(e,zq b)])\/(zr b=0/\zf b=[]/\clashM b=none/\r=.tup [.v (.slice none 0 0),intA 0]/\K'=[(0,zy),(s,zk b),(h,zB b),(e,zq b)])\/(zr b=0/\zf b=[]/\∃ l j0 e0,clashM b=some l/\r=.tup [.sl j0 0 l.length,intA 0]/\K'=(j0,.cells (l.map intA) e0 false)::[(0,zy),(s,zk b),(h,zB b),(e,zq b)])):=by
 refine zp 41 hT Tryz.func38 fun Y hret=>?_;refine au 21042 ?_;intro jb hjb;refine au 68042355 ?_;refine bD Z Z Z Z (ui hT (Kx:=[]) hl hm) ?_;rintro r1 K2 h3;rcases h3 with ⟨⟨hbar,rfl⟩ | ⟨hbar,rfl⟩,rfl⟩
 ·refine au 220661 ?_;intro j4 hj4;refine au 937142235170 ?_;constructor<;>intro hc0
  ·exact absurd hc0 sQ
  have hbb:=zZ hbar;have hml:=hbb.mes.len;have hsh:=ziD hml;have h2m:2 ^ b.measures.length<=8:=Nat.pow_le_pow_right (n:=2) dQ hml;refine au 680422120 ?_;refine bD Z Z Z Z (zd0 hT hbb) ?_;rintro r4 K5 ⟨rfl,rfl⟩;refine au 93 ?_;constructor<;>intro hc1
  ·refine au 35542 ?_;refine bB hret [(0,_),(s,_),(h,_),(e,_)] ?_;exact .inr (.inl ⟨hbar,fun h=>by rw [h] at hc1; simp at hc1,rfl,rfl⟩)
  have hnil:zf b=[]:=by cases hh:zf b with | nil=>rfl | cons x r=>rw [hh] at hc1; simp at hc1
  refine au 22042120 ?_;intro jo hjo;refine au 2806906704223 ?_;refine bH Z (q_shL Z Z Z ⟨by omega,by show ((b.measures.length:Nat):Int)<=64; omega⟩ (r:=((2 ^ b.measures.length:Nat):Int)) hsh) ?_;refine au 13031 ?_;refine bA [1,2,3,4,6,23,24] ?_;refine bC ((0,_)::(s,_)::(h,_)::(e,_)::(j4,_)::(jb,_)::[(jo,_)]) ?_;refine bE (fun n env K=>∃ (i:Nat) (Kb:KV),n=2 ^ b.measures.length - i/\i<=2 ^ b.measures.length/\BestL jo (clashL b i) Kb/\env=.any::.ptr jb 0::.v (.slice none 0 0)::intA 0::.ptr j4 0::.any::.ptr jo 0::naL 16 (.v (.int .i64 ((2 ^ b.measures.length:Nat):Int))::intA i::naL 16 [])/\K=(0,zy)::(s,zk b)::(h,zB b)::(e,zq b)::(j4,.cells (zE b s h e) 113 true)::(jb,.cells (zE b s h e) 26 true)::Kb) (2 ^ b.measures.length) ⟨0,_,rfl,mN _,rfl,rfl,rfl⟩ fun n env K hI hnext=>?_;obtain ⟨i,Kb,rfl,hi,hbl,rfl,rfl⟩:=hI;refine bG nQ ?_;refine au 923742 ?_;constructor<;>intro hc2
  ·have hil:i<2 ^ b.measures.length:=Int.ofNat_lt.1 (of_decide_eq_true hc2);have hbo:=zgl hbb i;refine au 168042351421302120 ?_;refine bD Z Z Z Z (zhr hT (mask:=i) hml oQ) ?_ (hs:=(.right (.right (.right (.left (.none _))))));rintro r7 K8 ⟨jl,jm,rfl,rfl⟩;refine au 220661 ?_;intro j8 hj8;refine au 235170 ?_;refine TK.unrowAt (c:=j8) (i:=6) (j:=jm) Z mQ uQ ?_;refine bY (j:=jm) ?_;refine au 6804 ?_;refine bD Z Z Z Z (zd0 hT hbo (s:=s) (h:=h) (e:=jm)) ?_ (hs:=(.rem (.tail (.tail (.tail (.tail (.tail .head))))) (.rem (.tail (.tail (.tail (.tail (.tail .head))))) (.rem (.tail (.tail .head)) (.none _)))));rintro r10 K11 ⟨rfl,rfl⟩;refine au 93300 ?_;constructor<;>intro hc3
   ·have hbad:badM b i=true:=by simpa [badM] using hc3
    refine TK.asSl 9 Z mQ ?_;refine bY (j:=jl) ?_;refine au 4 ?_;rcases hcl:clashL b i with _ | l0
    ·rw [hcl] at hbl;have hbl:Kb=[(jo,.cells [.v (.slice none 0 0),zP false] 155 true)]:=hbl;subst hbl;refine bH Z (zh Z Z) ?_;refine bD Z Z Z Z (zep hT) ?_;rintro r13 K14 rfl;refine au 3123041403 ?_;refine bA [1,2,3,4,6,23,24] ?_;refine bC ((0,_)::(s,_)::(h,_)::(e,_)::(j4,_)::(jb,_)::[(jo,_),(jl,_)]) ?_;exact hnext _ _ _ oQ ⟨i+1,_,rfl,oQ,by unfold clashL; rw [if_pos hbad,hcl]; exact ⟨jl,3,rfl⟩,rfl,rfl⟩
    ·rw [hcl] at hbl;obtain ⟨j0,e0,rfl⟩:=hbl;refine bH Z (zh Z Z) ?_;refine bD Z Z Z Z (zeq hT (by have:=wF i b.measures.length; omega)) ?_;rintro r16 K17 h18;rcases h18 with ⟨hsm,rfl⟩ | ⟨hsm,rfl⟩
     ·refine au 3123041403 ?_;refine bA [1,2,3,4,6,23,24] ?_;refine bC ((0,_)::(s,_)::(h,_)::(e,_)::(j4,_)::(jb,_)::[(jo,_),(jl,_)]) ?_;exact hnext _ _ _ oQ ⟨i+1,_,rfl,oQ,by unfold clashL; rw [if_pos hbad,hcl]; dsimp only; rw [if_pos hsm]; exact ⟨jl,3,rfl⟩,rfl,rfl⟩
     ·refine au 3123041403 ?_;refine bA [1,2,3,4,6,23,24] ?_;refine bC ((0,_)::(s,_)::(h,_)::(e,_)::(j4,_)::(jb,_)::[(jo,_),(j0,_)]) ?_;exact hnext _ _ _ oQ ⟨i+1,_,rfl,oQ,by unfold clashL; rw [if_pos hbad,hcl]; dsimp only; rw [if_neg (by rw [hsm]; decide)]; exact ⟨j0,e0,rfl⟩,rfl,rfl⟩
   have hbad:¬ badM b i=true:=fun h=>by simp [badM] at h; rw [h] at hc3; simp at hc3
   refine au 312304140120 ?_;refine bA [1,2,3,4,6,23,24] ?_;refine bC ((0,_)::(s,_)::(h,_)::(e,_)::(j4,_)::(jb,_)::Kb) ?_;exact hnext _ _ _ oQ ⟨i+1,_,rfl,oQ,by unfold clashL; rw [if_neg hbad]; exact hbl,rfl,rfl⟩
  have hil:¬ i<2 ^ b.measures.length:=fun h=>of_decide_eq_false hc2 (Int.ofNat_lt.2 h);obtain rfl:i=2 ^ b.measures.length:=by omega
  refine au 42160 ?_;rcases hbst:clashL b (2 ^ b.measures.length) with _ | l0
  ·rw [hbst] at hbl;have hbl:Kb=[(jo,.cells [.v (.slice none 0 0),zP false] 155 true)]:=hbl;subst hbl;refine bH Z (zg Z Z zl.h dQ) ?_;refine au 355690 ?_;refine bB hret [(0,_),(s,_),(h,_),(e,_)] ?_;exact .inr (.inr (.inl ⟨hbar,hnil,hbst,rfl,rfl⟩))
  ·rw [hbst] at hbl;obtain ⟨j0,e0,rfl⟩:=hbl;refine bH Z (zg Z Z zl.h dQ) ?_;refine au 355690 ?_;refine bB hret [(j0,_),(0,_),(s,_),(h,_),(e,_)] ?_;exact .inr (.inr (.inr ⟨hbar,hnil,l0,j0,e0,hbst,rfl,rfl⟩))
 ·refine au 220661 ?_;intro j4 hj4;refine au 937142235170 ?_;constructor<;>intro hc0
  ·
   refine au 355142 ?_;refine bB hret [(0,_),(s,_),(h,_),(e,_)] ?_;exact .inl ⟨hbar,rfl,rfl⟩
  exact absurd hbar (by simpa using hc0)
end Go.Vel
end
