/- Texts for the statements of chapter 8: what all of them need, part 8. It holds of every program, tape and world that the statements name, as each theorem says. -/
import Derived.Test.YtfplagcfmdkakaaGreatDoorN6
section
set_option linter.all false
set_option maxRecDepth 20000
set_option maxHeartbeats 60000000
open Go.Proofs.Tryz renaming prog -> tp
open List renaming getElem?_eq_getElem -> lA, getD_eq_getElem?_getD -> lE, length_append -> lF, length_map -> lJ, map_append -> lM, mem_of_getElem? -> lN, append_nil -> lR, mem_singleton -> lS, replicate -> mB
open List.Mem renaming head -> mC
open Array renaming getElem?_eq_getElem -> mD
open Nat renaming le_refl -> mL, zero_le -> mN
open Bool renaming false_eq_true -> mU, not_eq_true' -> mV, and_eq_true -> mX
open Go.Vel.TK renaming maskL -> bA, rt -> bB, kp -> bC, cl -> bD, loopN -> bE, na -> bG, a -> bH, newR -> bI, dq -> bL
open Go.Vel.TD renaming cl -> bQ, s -> bR, norm -> bS, y -> bT
namespace Go.Vel
open Go Go.Conc Go.Proofs
theorem kz {x y:Int} (h:bar2 x y=0):y=0:=by
 have:=kX h;rwa [kY this] at h
theorem zbs {c:Nat}:∀ (i:Nat) (x:Int),x∈zt c i->0<=x/\x<i
 | 0,x,h=>by cases h
 | i+1,x,h=>by
  unfold zt at h;rcases List.mem_append.1 h with h | h
  ·have:=zbs i x h; omega
  ·split at h
   ·rw [lS.1 h]; omega
   ·cases h
theorem zdM {c:Nat}:∀ i,(zt c i).Pairwise (· < ·)
 | 0=>.nil
 | i+1=>by
  unfold zt;refine List.pairwise_append.2 ⟨zdM i,?_,fun x hx y hy=>?_⟩
  ·split <;> simp
  ·have:=zbs i x hx;split at hy
   ·rw [lS.1 hy]; omega
   ·cases hy
theorem vl {b:RBk} (hb:ROk b) {c:Nat} (h0:0<c) (hc:c<2 ^ b.seams.length):CutsOk b (zt c b.seams.length):=by
 have h5:=hb.sms.len;refine ⟨?_,fun n hn=>zbs _ n hn,zdM _⟩;rcases Nat.eq_zero_or_pos (zt c b.seams.length).length with h | h
 ·have:=vZ h5.2 hc (List.length_eq_zero_iff.1 h); omega
 ·exact h
theorem zi5 {m c d:Nat} (hm:m<=5) (hc:c<2 ^ m) (hd:d<2 ^ m) (h:zt c m=zt d m):c=d:=by
 have key:∀ (m:Fin 6) (c d:Fin 32),c.1<2 ^ m.1->d.1<2 ^ m.1->zt c.1 m.1=zt d.1 m.1->c.1=d.1:=by decide +kernel
 have:2 ^ m<=2 ^ 5:=Nat.pow_le_pow_right dQ hm;exact key ⟨m,oQ⟩ ⟨c,oQ⟩ ⟨d,oQ⟩ hc hd h
theorem zaG {Ψ:Goroutine->World->Prop} {gm:Nat->Option Nat} {b:RBk} {s h e a:Nat} {all:List (List Int)} {gF:FuncId} {bt:List Int×Int->List Int×Int->Bool} (hb:ROk b) (ha:okAll b all) (hn:all.length<=243) (h0:0<all.length)
  (htr:∀ p q r,bt p q=true->bt q r=true->bt p r=true) (htot:∀ b1 c1,0<b1->b1<2 ^ b.seams.length->0<c1->c1<2 ^ b.seams.length->(zt b1 b.seams.length,sqHi b all (zt b1 b.seams.length))=(zt c1 b.seams.length,sqHi b all (zt c1 b.seams.length))\/bt (zt b1 b.seams.length,sqHi b all (zt b1 b.seams.length)) (zt c1 b.seams.length,sqHi b all (zt c1 b.seams.length))=true\/bt (zt c1 b.seams.length,sqHi b all (zt c1 b.seams.length)) (zt b1 b.seams.length,sqHi b all (zt b1 b.seams.length))=true)
  (hbt:∀ {T:Goroutine->Hp->Prop},zm tp false T->∀ (jr:Nat) (cs:List Int) (cost:Int) (cs0:List Int) (cost0:Int) (j0:Nat) (e0:TypeId),cs.length<=5->CallFK tp T gm (.fn gF [] []) [.agg [.sl jr 0 cs.length,.v (.int .i64 cost)],.agg [.sl j0 0 cs0.length,.v (.int .i64 cost0)]] [(jr,.cells (cs.map fun a=>.v (.int .i64 a)) 3 false),(j0,.cells (cs0.map fun a=>.v (.int .i64 a)) e0 false)] (fun r K'=>r=.v (.bool (bt (cs,cost) (cs0,cost0)))/\K'=[(jr,.cells (cs.map fun a=>.v (.int .i64 a)) 3 false),(j0,.cells (cs0.map fun a=>.v (.int .i64 a)) e0 false)])) :
  zq tp (BT tp Ψ) gm 73 [.agg (knownC b s h e a all.length),.fn gF [] []] [(s,zk b),(a,allO all)] (fun r K'=>PlanR [(s,zk b),(a,allO all)] b.seams.length bt (fun c=>sqHi b all (zt c b.seams.length)) (fun c=>sqOk b all (zt c b.seams.length)) r K'):=by
 refine zls (lw:=fun c=>sqLo b all (zt c b.seams.length)) hb.sms.len (fun z hz=>?_) htr (fun b1 c1 h1 h2 h3 h4 _ _=>htot b1 c1 h1 h2 h3 h4) (fun c hc0 hc1 jr T hT=>?_) hbt
 ·simp only [List.mem_cons,List.not_mem_nil,or_false] at hz;rcases hz with rfl | rfl
  ·refine ⟨_,_,fun e=>?_,rfl⟩;have:=congrArg List.length e;rw [yz seamC 5 (fun _=>rfl)] at this;have h1:=hb.sms.len;have:b.seams.length*5=0:=this;omega
  ·refine ⟨_,_,fun e=>?_,rfl⟩;have:=congrArg List.length e;rw [yz stC 5 (fun _=>rfl)] at this;have:all.length*5=0:=this;omega
 ·exact zcl hT (j:=jr) (et:=3) hb (vl hb hc0 hc1) ha hn h0
def canM (b:RBk) (l:List Int):Int:=if (waysM b (zj b) l).length=(zj b).length then 1 else if (waysM b (zj b) l).length=0 then 2 else 0
theorem zlD {b:RBk} {all:List (List Int)} {l:List Int} (h:sqOk b all l=false):sqLo b all l=0/\sqHi b all l=0:=by
 unfold sqOk at h;unfold sqLo sqHi;cases hh:squaresM b all l with
 | none=>exact ⟨rfl,rfl⟩
 | some z=>rw [hh] at h; cases h
def newM (b:RBk):Int×Int:=spreadM ((zj b).map (ye b))
instance:TyZ tp 120 [.nilFunc]:={}
theorem zlT {main:Bool} {T:Goroutine->Hp->Prop} (hT:zm tp main T)  {b:RBk} {s h e j:Nat} {l:List Int} {et:TypeId} (hl:b.seams.length<=100) (hm:b.measures.length<=100) (hll:l.length<=1000) :
  zq tp T gmR 16 [.agg (zA b s h e),.sl j 0 l.length] [(0,zx),(s,zk b),(h,zC b),(e,zr b),(j,.cells (l.map intA) et false)] (fun r K'=>(bar2 (zu b) (cutsM b l)≠0/\r=.tup [.v (.slice none 0 0),intA (bar2 (zu b) (cutsM b l))]/\K'=[(0,zx),(s,zk b),(h,zC b),(e,zr b),(j,.cells (l.map intA) et false)])\/(bar2 (zu b) (cutsM b l)=0/\∃ jr,r=.tup [.row jr l.length,intA 0]/\K'=(jr,.row ((stripsM b l).flatMap pairC) 74 2)::[(0,zx),(s,zk b),(h,zC b),(e,zr b),(j,.cells (l.map intA) et false)])):=by
 refine zl 22 hT Tryz.func16 fun Y hret=>?_;refine au 21042 ?_;intro jb hjb;refine au 320168042355 ?_;refine bI Z Z Z (zp (l:=[_]) Z zz.h TyZ.h dQ dQ Z) (fun _=>zn rfl tQ) fun ja hja=>?_;refine bD Z Z Z Z (vC hT (Kx:=[(j,.cells (l.map intA) et false)]) (p1:=cutsM b l) hl hm (fun h0=>yI Cal.h ((wq hT (zY h0).sms.len.2 hll).frameP (R:=[(s,zk b)]) (List.Perm.swap _ _ _)))) ?_;rintro r1 K2 h3;rcases h3 with ⟨⟨hbar,rfl⟩ | ⟨hbar,rfl⟩,rfl⟩
 ·refine au 220661 ?_;intro j6 hj6;refine au 937142235170 ?_;constructor<;>intro hc0
  ·exact absurd hc0 sQ
  have hbb:=zY (kX hbar);have hcc:=wZ (kz hbar);refine au 168042120 ?_;refine bD Z Z Z Z (zdw hT hbb hcc) ?_;rintro r4 K5 ⟨jr,rfl,rfl⟩;refine au 355 ?_;refine bB hret [(jr,_),(0,_),(s,_),(h,_),(e,_),(j,_)] ?_;exact .inr ⟨hbar,jr,rfl,rfl⟩
 ·refine au 220661 ?_;intro j6 hj6;refine au 937142235170 ?_;constructor<;>intro hc0
  ·
   refine au 355142 ?_;refine bB hret [(0,_),(s,_),(h,_),(e,_),(j,_)] ?_;exact .inl ⟨hbar,rfl,rfl⟩
  exact absurd hbar (by simpa using hc0)
theorem zbW {main:Bool} {T:Goroutine->Hp->Prop} (hT:zm tp main T)  {b:RBk} {s h e j:Nat} {l:List Int} {et:TypeId} (hl:b.seams.length<=100) (hm:b.measures.length<=100) (hll:l.length<=1000) :
  zq tp T gmR 17 [.agg (zA b s h e),.sl j 0 l.length] [(0,zx),(s,zk b),(h,zC b),(e,zr b),(j,.cells (l.map intA) et false)] (fun r K'=>r=.tup [zF (decide (bar2 (zu b) (cutsM b l)=0)&&fitsM b l),intA (bar2 (zu b) (cutsM b l))]/\K'=[(0,zx),(s,zk b),(h,zC b),(e,zr b),(j,.cells (l.map intA) et false)]):=by
 refine zl 22 hT Tryz.func17 fun Y hret=>?_;refine au 21042 ?_;intro jb hjb;refine au 320168042355 ?_;refine bI Z Z Z (zp (l:=[_]) Z zz.h TyZ.h dQ dQ Z) (fun _=>zn rfl tQ) fun ja hja=>?_;refine bD Z Z Z Z (vC hT (Kx:=[(j,.cells (l.map intA) et false)]) (p1:=cutsM b l) hl hm (fun h0=>yI Cal.h ((wq hT (zY h0).sms.len.2 hll).frameP (R:=[(s,zk b)]) (List.Perm.swap _ _ _)))) ?_;rintro r1 K2 h3;rcases h3 with ⟨⟨hbar,rfl⟩ | ⟨hbar,rfl⟩,rfl⟩
 ·refine au 220661 ?_;intro j6 hj6;refine au 937142235170 ?_;constructor<;>intro hc0
  ·exact absurd hc0 sQ
  have hbb:=zY (kX hbar);have hcc:=wZ (kz hbar);refine au 168042120 ?_;refine TK.clE Z Z Z Z (zfP hT hbb hcc) ?_;refine au 355 ?_;refine bB hret [(0,_),(s,_),(h,_),(e,_),(j,_)] ?_;exact ⟨by rw [hbar]; simp,rfl⟩
 ·refine au 220661 ?_;intro j6 hj6;refine au 937142235170 ?_;constructor<;>intro hc0
  ·
   refine au 355142 ?_;refine bB hret [(0,_),(s,_),(h,_),(e,_),(j,_)] ?_;exact ⟨by rw [decide_eq_false hbar]; rfl,rfl⟩
  exact absurd hbar (by simpa using hc0)
theorem zdT {main:Bool} {T:Goroutine->Hp->Prop} (hT:zm tp main T)  {b:RBk} {s h e j:Nat} {l:List Int} {et:TypeId} (hl:b.seams.length<=100) (hm:b.measures.length<=100) (hll:l.length<=1000) :
  zq tp T gmR 23 [.agg (zA b s h e),.sl j 0 l.length] [(0,zx),(s,zk b),(h,zC b),(e,zr b),(j,.cells (l.map intA) et false)] (fun r K'=>(bar2 (zu b) (cutsM b l)≠0/\r=.tup [intA 0,intA (bar2 (zu b) (cutsM b l))]/\K'=[(0,zx),(s,zk b),(h,zC b),(e,zr b),(j,.cells (l.map intA) et false)])\/(bar2 (zu b) (cutsM b l)=0/\zj b=[]/\r=.tup [intA 0,intA 9]/\K'=[(0,zx),(s,zk b),(h,zC b),(e,zr b),(j,.cells (l.map intA) et false)])\/(bar2 (zu b) (cutsM b l)=0/\zj b≠[]/\r=.tup [intA (canM b l),intA 0]/\K'=[(0,zx),(s,zk b),(h,zC b),(e,zr b),(j,.cells (l.map intA) et false)])):=by
 refine zl 30 hT Tryz.func23 fun Y hret=>?_;refine au 21042 ?_;intro jb hjb;refine au 320168042355 ?_;refine bI Z Z Z (zp (l:=[_]) Z zz.h TyZ.h dQ dQ Z) (fun _=>zn rfl tQ) fun ja hja=>?_;refine bD Z Z Z Z (zaz hT (Kx:=[(j,.cells (l.map intA) et false)]) (p1:=cutsM b l) (fun h0=>yI Cal.h ((wq hT (zY h0).sms.len.2 hll).frameP (R:=[(s,zk b)]) (List.Perm.swap _ _ _))) hl hm) ?_;rintro r1 K2 h3;rcases h3 with ⟨hbar,rfl,rfl⟩ | ⟨hbar,hnil,rfl,rfl⟩ | ⟨hbar,hne,a,rfl,rfl⟩
 ·refine au 220661 ?_;intro j6 hj6;refine au 937142235170 ?_;constructor<;>intro hc0
  ·
   refine au 355142 ?_;refine bB hret [(0,_),(s,_),(h,_),(e,_),(j,_)] ?_;exact .inl ⟨hbar,rfl,rfl⟩
  exact absurd hbar (by simpa using hc0)
 ·refine au 220661 ?_;intro j6 hj6;refine au 937142235170 ?_;constructor<;>intro hc0
  ·
   refine au 355142 ?_;refine bB hret [(0,_),(s,_),(h,_),(e,_),(j,_)] ?_;exact .inr (.inl ⟨hbar,hnil,rfl,rfl⟩)
  exact absurd hc0 dQ
 ·refine au 220661 ?_;intro j6 hj6;refine au 937142235170 ?_;constructor<;>intro hc0
  ·exact absurd hc0 sQ
  have hbb:=zY (kX hbar);have hcc:=wZ (kz hbar);have hlen:=kE hbb;have hpos:0<(zj b).length:=List.length_pos_iff.2 hne;have hall:okAll b (zj b):=fun st hst=>(y8 hbb hst).1;refine au 1680422120 ?_;refine bD Z Z Z Z (zgq hT hbb hcc hall hlen) ?_;rintro r4 K5 ⟨jr,ps,hps,rfl,rfl⟩;refine au 0 ?_;have hpl:ps.length=(waysM b (zj b) l).length:=by have:=congrArg List.length hps; rwa [lJ,lJ] at this
  refine au 9357280690670421303280 ?_;constructor<;>intro hc1
  ·refine au 35542 ?_;refine bB hret [(0,_),(s,_),(h,_),(e,_),(j,_)] ?_;exact .inr (.inr ⟨hbar,hne,by unfold canM; rw [if_pos (by have:=eq_of_beq hc1; omega)],rfl⟩)
  refine au 935742 ?_;constructor<;>intro hc2
  ·refine au 35542 ?_;refine bB hret [(0,_),(s,_),(h,_),(e,_),(j,_)] ?_;exact .inr (.inr ⟨hbar,hne,by unfold canM; rw [if_neg (by simp at hc1; omega),if_pos (by have:=eq_of_beq hc2; omega)],rfl⟩)
  refine au 35542140120 ?_;refine bB hret [(0,_),(s,_),(h,_),(e,_),(j,_)] ?_;exact .inr (.inr ⟨hbar,hne,by unfold canM; rw [if_neg (by simp at hc1; omega),if_neg (by rw [<- hpl]; simp at hc2; exact fun h=>hc2 (List.length_eq_zero_iff.1 h))],rfl⟩)
theorem zak {main:Bool} {T:Goroutine->Hp->Prop} (hT:zm tp main T)  {b:RBk} {s h e j:Nat} {l:List Int} {et:TypeId} (hl:b.seams.length<=100) (hm:b.measures.length<=100) (hll:l.length<=1000) :
  zq tp T gmR 28 [.agg (zA b s h e),.sl j 0 l.length] [(0,zx),(s,zk b),(h,zC b),(e,zr b),(j,.cells (l.map intA) et false)] (fun r K'=>(bar2 (zu b) (cutsM b l)≠0/\r=.tup [.agg [intA 0,intA 0],intA (bar2 (zu b) (cutsM b l))]/\K'=[(0,zx),(s,zk b),(h,zC b),(e,zr b),(j,.cells (l.map intA) et false)])\/(bar2 (zu b) (cutsM b l)=0/\zj b=[]/\r=.tup [.agg [intA 0,intA 0],intA 9]/\K'=[(0,zx),(s,zk b),(h,zC b),(e,zr b),(j,.cells (l.map intA) et false)])\/(bar2 (zu b) (cutsM b l)=0/\zj b≠[]/\r=.tup [.agg [intA (sqLo b (zj b) l),intA (sqHi b (zj b) l)],intA (if sqOk b (zj b) l=true then 0 else 8)]/\K'=[(0,zx),(s,zk b),(h,zC b),(e,zr b),(j,.cells (l.map intA) et false)])):=by
 refine zl 32 hT Tryz.func28 fun Y hret=>?_;refine au 21042 ?_;intro jb hjb;refine au 220 ?_;intro jr hjr;refine au 32016804235 ?_;refine bI Z Z Z (zp (l:=[_]) Z zz.h TyZ.h dQ dQ Z) (fun _=>zn rfl tQ) fun ja hja=>?_;refine bD Z Z Z Z (zaz hT (Kx:=[(j,.cells (l.map intA) et false)]) (p1:=cutsM b l) (fun h0=>yI Cal.h ((wq hT (zY h0).sms.len.2 hll).frameP (R:=[(s,zk b)]) (List.Perm.swap _ _ _))) hl hm) ?_;rintro r1 K2 h3;rcases h3 with ⟨hbar,rfl,rfl⟩ | ⟨hbar,hnil,rfl,rfl⟩ | ⟨hbar,hne,a,rfl,rfl⟩
 ·refine au 220661 ?_;intro j6 hj6;refine au 937142235170 ?_;constructor<;>intro hc0
  ·
   refine au 35170139042 ?_;refine bB hret [(0,_),(s,_),(h,_),(e,_),(j,_)] ?_;exact .inl ⟨hbar,rfl,rfl⟩
  exact absurd hbar (by simpa using hc0)
 ·refine au 220661 ?_;intro j6 hj6;refine au 937142235170 ?_;constructor<;>intro hc0
  ·
   refine au 35170139042 ?_;refine bB hret [(0,_),(s,_),(h,_),(e,_),(j,_)] ?_;exact .inr (.inl ⟨hbar,hnil,rfl,rfl⟩)
  exact absurd hc0 dQ
 ·refine au 220661 ?_;intro j6 hj6;refine au 937142235170 ?_;constructor<;>intro hc0
  ·exact absurd hc0 sQ
  have hbb:=zY (kX hbar);have hcc:=wZ (kz hbar);have hlen:=kE hbb;have hpos:0<(zj b).length:=List.length_pos_iff.2 hne;have hall:okAll b (zj b):=fun st hst=>(y8 hbb hst).1;refine au 168042120 ?_;refine TK.clE Z Z Z Z (zcl hT hbb hcc hall hlen hpos) ?_;refine au 220661 ?_;intro j8 hj8;refine au 93300142235170 ?_;constructor<;>intro hc1
  ·refine au 3517039042 ?_;refine bB hret [(0,_),(s,_),(h,_),(e,_),(j,_)] ?_;exact .inr (.inr ⟨hbar,hne,by obtain ⟨q1,q2⟩:=zlD (b:=b) (all:=zj b) (l:=l) (by simpa using hc1); rw [q1,q2,if_neg (by simpa using hc1)]; rfl,rfl⟩)
  refine au 3517068042120 ?_;refine bB hret [(0,_),(s,_),(h,_),(e,_),(j,_)] ?_;exact .inr (.inr ⟨hbar,hne,by rw [if_pos (by simpa using hc1)]; rfl,rfl⟩)
theorem zhU {main:Bool} {T:Goroutine->Hp->Prop} (hT:zm tp main T)  {b:RBk} {s h e:Nat} (hl:b.seams.length<=100) (hm:b.measures.length<=100) :
  zq tp T gmR 22 [.agg (zA b s h e)] [(0,zx),(s,zk b),(h,zC b),(e,zr b)] (fun r K'=>(zu b≠0/\r=.tup [.agg [intA 0,intA 0],intA (zu b)]/\K'=[(0,zx),(s,zk b),(h,zC b),(e,zr b)])\/(zu b=0/\zj b=[]/\r=.tup [.agg [intA 0,intA 0],intA 9]/\K'=[(0,zx),(s,zk b),(h,zC b),(e,zr b)])\/(zu b=0/\zj b≠[]/\r=.tup [.agg [intA (newM b).1,intA (newM b).2],intA 0]/\K'=[(0,zx),(s,zk b),(h,zC b),(e,zr b)])):=by
 refine zl 39 hT Tryz.func22 fun Y hret=>?_;refine au 21042 ?_;intro jb hjb;refine au 220 ?_;intro jr hjr;refine au 6804235 ?_;refine bD Z Z Z Z (wK hT (Kx:=[]) hl hm) ?_;rintro r1 K2 h3;rcases h3 with ⟨hbar,rfl,rfl⟩ | ⟨hbar,hnil,rfl,rfl⟩ | ⟨hbar,hne,a,rfl,rfl⟩
 ·refine au 220661 ?_;intro j4 hj4;refine au 937142235170 ?_;constructor<;>intro hc0
  ·
   refine au 35170139042 ?_;refine bB hret [(0,_),(s,_),(h,_),(e,_)] ?_;exact .inl ⟨hbar,rfl,rfl⟩
  exact absurd hbar (by simpa using hc0)
 ·refine au 220661 ?_;intro j4 hj4;refine au 937142235170 ?_;constructor<;>intro hc0
  ·
   refine au 35170139042 ?_;refine bB hret [(0,_),(s,_),(h,_),(e,_)] ?_;exact .inr (.inl ⟨hbar,hnil,rfl,rfl⟩)
  exact absurd hc0 dQ
 ·refine au 220661 ?_;intro j4 hj4;refine au 937142235170 ?_;constructor<;>intro hc0
  ·exact absurd hc0 sQ
  have hbb:=zY hbar;have hlen:=kE hbb;have hpos:0<(zj b).length:=List.length_pos_iff.2 hne;have hall:okAll b (zj b):=fun st hst=>(y8 hbb hst).1;refine au 542120 ?_;refine TK.virt 6 3 1 Z fun jt0 hjt0=>?_;refine au 130312806906704223 ?_;refine bA [2,3,4,6,19,20,21] ?_;refine bC [(a,_),(0,_),(s,_),(h,_),(e,_),(j4,_),(jr,_),(jt0,_)] ?_;refine bE (fun n env K=>∃ (i jt:Nat),n=(zj b).length - i/\i<=(zj b).length/\env=naL 2 (.ptr jr 0::intA 0::.ptr j4 0::.any::.row jt i::naL 12 (.sl a 0 (zj b).length::intA (zj b).length::intA i::naL 17 []))/\K=[(a,allO (zj b)),(0,zx),(s,zk b),(h,zC b),(e,zr b),(j4,.cells (knownC b s h e a (zj b).length) 137 true),(jr,.cells [intA 0,intA 0] 68 true),(jt,.row ((((zj b).take i).map (ye b)).map intA) 3 1)]) (zj b).length ⟨0,jt0,rfl,mN _,rfl,rfl⟩ fun n env K hI hnext=>?_;obtain ⟨i,jt,rfl,hi,rfl,rfl⟩:=hI;refine bG nQ ?_;refine au 923742 ?_;constructor<;>intro hc1
  ·have hil:i<(zj b).length:=by simp at hc1; omega
   obtain ⟨st,hst⟩:∃ st,(zj b)[i]? =some st:=⟨_,lA hil⟩;have hsk:=hall st (lN hst);refine au 360421302120 ?_;refine bH Z (zI Z Z zd.h mQ (zbO (i:=i) hst Z)) ?_;refine au 220 ?_;intro j8 hj8;refine au 680680670143170 ?_;refine bD Z Z Z Z (zd1 hT hbb hsk) ?_ (hs:=(.none _));rintro r4 K5 ⟨rfl,rfl⟩;refine au 0 ?_;refine bI Z Z Z (zp (l:=[_]) Z zz.h TyZ.h dQ dQ Z) (fun _=>zn rfl tQ) fun j7 hj7=>?_;refine TK.appR Z Z Z (a_app Z ApOf.h Z mQ (by simp; omega) Z (yp (ln:=[_]) mQ dQ sQ Z) oQ Z (by unfold maxLen; omega) oQ) (fun _=>uQ) (fun _=>zn rfl tQ) fun jt2=>?_;refine au 31230414035 ?_;refine bA [2,3,4,6,19,20,21] ?_;refine bC [(a,_),(0,_),(s,_),(h,_),(e,_),(j4,_),(jr,_),(jt2,_)] ?_;exact hnext _ _ _ oQ ⟨i+1,jt2,rfl,oQ,rfl,by rw [yC hst,lM,lM]; rfl⟩
  obtain rfl:i=(zj b).length:=by simp at hc1; omega
  obtain ⟨x,xs,hxs⟩:∃ x xs,(zj b).map (ye b)=x::xs:=by
   cases hh:zj b with
   | nil=>exact absurd hh hne
   | cons y r=>exact ⟨_,_,rfl⟩
  have hxl:(zj b).length=xs.length+1:=by have:=congrArg List.length hxs; simpa using this
  rw [List.take_of_length_le (mL _),hxs,hxl];refine au 2160 ?_;refine bL [0,1,2,3,4,5,6,7] ?_;refine ad [[1,6]] ?_;refine bT [33] Z (hq:=yZ Z Z Z zz.h (mC _) oQ oQ) (h:=?_);refine ad [[10,34],[1,6]] ?_;refine bT [36] Z (hq:=wV Z Z zz.h (mC _) Z Z oQ oQ Z) (h:=?_);refine bQ (pend':=[⟨3,[6],[]⟩,⟨1,[33],[(_,_)]⟩,⟨0,[6],[]⟩]) [35,37] Z Z Z Z Z (zdv hT (x:=x) (xs:=xs) (off:=1) (ob:=.row ((x::xs).map intA) 3 1) (fun i y hy=>kV (l:=x::xs) (i:=i+1) (by simpa using hy) oQ) oQ) (fun r8 K9 h10=>⟨?_,?_⟩)
  ·rcases h10 with ⟨rfl,rfl⟩
   all_goals simp
  obtain ⟨rfl,rfl⟩:=h10;try simp only [cA]
  refine bS tQ ?_;refine bR (pend':=[]) [2,38] Z Z (zB Z Z zd.h Z Z mQ Z) ?_;refine ad [[13],[14]] ?_;refine au 0 ?_;refine bB hret [(0,_),(s,_),(h,_),(e,_)] ?_;exact .inr (.inr ⟨hbar,hne,by unfold newM; rw [hxs]; rfl,rfl⟩)
def atM (b:RBk) (l s w:List Int):Nat->Int
 | 0=>0
 | k+1=>atM b l s w k+(togM b s (zK l k).toNat (zK l (k+1) - zK l k).toNat+w.getD (k+1) 0)
def placesM (b:RBk) (l s w:List Int):List Int:=(List.range l.length).map (atM b l s w)
theorem zhG {b:RBk} (hb:ROk b) {l s w:List Int} {q:Int} (hl:CutsOk b l) (hs:StOk b s) (h:hangM b l s=some (w,q)):w.length=l.length/\∀ k,0<=w.getD k 0/\w.getD k 0<=9:=by
 unfold hangM at h;split at h
 ·cases h
 ·dsimp only at h;split at h
  ·cases h
  ·cases h;have h0:=(uT hb hs).1;unfold allocA;refine ⟨by rw [zcS]; simp [alloc0],zdH hb hl _ _ (fun k hk=>wu hk) h0 fun k=>?_⟩;show 0<=(mB l.length (0:Int)).getD k 0/\_;have:(alloc0 b l (ye b s)).steps=mB l.length 0:=rfl;rw [this,lE,List.getElem?_replicate];split <;> simp
theorem zlS {b:RBk} {l:List Int} (hl:CutsOk b l) {k:Nat} (h:k+1<l.length):zK l k<zK l (k+1):=by
 have e1:=z7 (l:=l) (k:=k) oQ;have e2:=z7 h;have:=List.pairwise_iff_getElem.1 hl.asc k (k+1) oQ h oQ;rw [lA oQ] at e1;rw [lA h] at e2;rw [Option.some.inj e1,Option.some.inj e2] at this;exact this
theorem at_bd {b:RBk} (hb:ROk b) {l s w:List Int} (hl:CutsOk b l) (hs:StOk b s) (hw:∀ k,0<=w.getD k 0/\w.getD k 0<=9):∀ k,k<l.length->0<=atM b l s w k/\atM b l s w k<=129*k
 | 0,_=>by simp [atM]
 | k+1,h=>by
  have h1:=at_bd hb hl hs hw k oQ;have h2:=hw (k+1);have h3:=zaP hb hs (c:=(zK l k).toNat) (zK l (k+1) - zK l k).toNat;have h4:=hl.lt (k:=k) oQ;have h5:=hl.lt h;have h6:=hb.sms.len;unfold atM;omega
theorem zdt {b:RBk} (hb:ROk b) {all:List (List Int)} (b1 c1:Nat) (h1:0<b1) (h2:b1<2 ^ b.seams.length) (h3:0<c1) (h4:c1<2 ^ b.seams.length):(zt b1 b.seams.length,sqHi b all (zt b1 b.seams.length))=(zt c1 b.seams.length,sqHi b all (zt c1 b.seams.length))\/shorterM (zt b1 b.seams.length,sqHi b all (zt b1 b.seams.length)) (zt c1 b.seams.length,sqHi b all (zt c1 b.seams.length))=true\/shorterM (zt c1 b.seams.length,sqHi b all (zt c1 b.seams.length)) (zt b1 b.seams.length,sqHi b all (zt b1 b.seams.length))=true:=by
 rcases zbn (zt b1 b.seams.length) (zt c1 b.seams.length) with h | h | h
 ·left;rw [zi5 hb.sms.len.2 h2 h4 h]
 ·exact .inr (.inl h)
 ·exact .inr (.inr h)
def PlanA (b:RBk) (all:List (List Int)) (bt:List Int×Int->List Int×Int->Bool) (c:Nat):Prop:=0<c/\c<2 ^ b.seams.length/\sqOk b all (zt c b.seams.length)=true/\∀ d,0<d->d<2 ^ b.seams.length->sqOk b all (zt d b.seams.length)=true->(zt d b.seams.length,sqHi b all (zt d b.seams.length))=(zt c b.seams.length,sqHi b all (zt c b.seams.length))\/bt (zt c b.seams.length,sqHi b all (zt c b.seams.length)) (zt d b.seams.length,sqHi b all (zt d b.seams.length))=true
def NoPlan (b:RBk) (all:List (List Int)):Prop:=∀ d,0<d->d<2 ^ b.seams.length->sqOk b all (zt d b.seams.length)=false
def atRound (b:RBk) (r:Int):RBk:={ b with round:=r }
theorem zan {b:RBk} (hb:ROk b) {r:Int} (h1:b.steps<=r) (h2:r<=40):ROk (atRound b r):=⟨⟨hb.rnd.steps,⟨h1,h2⟩,hb.rnd.roll,hb.rnd.rolls⟩,⟨hb.sms.len,hb.sms.fld,hb.sms.asc⟩,⟨hb.cls.len,hb.cls.bnd⟩,⟨hb.mes.len,hb.mes.bnd⟩⟩
theorem zfG {b:RBk} {all:List (List Int)} (h:okAll b all) (r:Int):okAll (atRound b r) all:=fun s hs=>⟨(h s hs).len,(h s hs).bnd⟩
def canAt (b:RBk) (all:List (List Int)) (r:Int):Bool:=(List.range (2 ^ b.seams.length)).any fun c=>decide (0<c)&&sqOk (atRound b r) all (zt c b.seams.length)
def widestL (b:RBk) (all:List (List Int)):Nat->Option Int
 | 0=>none
 | k+1=>if canAt b all (b.steps+k)=true then some (b.steps+k) else widestL b all k
def widestM (b:RBk) (all:List (List Int)):Option Int:=widestL b all (41 - b.steps).toNat
theorem zkJ {b:RBk} {all:List (List Int)} {r:Int} {c:Nat} (h0:0<c) (h1:c<2 ^ b.seams.length) (h:sqOk (atRound b r) all (zt c b.seams.length)=true):canAt b all r=true:=by
 unfold canAt;rw [List.any_eq_true];exact ⟨c,List.mem_range.2 h1,by simp [h0,h]⟩
theorem zkI {b:RBk} {all:List (List Int)} {r:Int} (h:∀ c,0<c->c<2 ^ b.seams.length->sqOk (atRound b r) all (zt c b.seams.length)=false):canAt b all r=false:=by
 unfold canAt;rw [List.any_eq_false];intro c hc;by_cases h0:0<c
 ·rw [h c h0 (List.mem_range.1 hc)]; simp
 ·simp [h0]
theorem zgN {main:Bool} {T:Goroutine->Hp->Prop} (hT:zm tp main T)  {b:RBk} {s h e j j2:Nat} {l st:List Int} {et et2:TypeId} (hl:b.seams.length<=100) (hm:b.measures.length<=100) (hll:l.length<=1000) :
  zq tp T gmR 18 [.agg (zA b s h e),.sl j 0 l.length,.sl j2 0 st.length] [(0,zx),(s,zk b),(h,zC b),(e,zr b),(j,.cells (l.map intA) et false),(j2,.cells (st.map intA) et2 false)] (fun r K'=>(bar2 (zu b) (bar2 (cutsM b l) (shM b st))≠0/\r=.tup [.v (.slice none 0 0),intA 0,zF false,intA (bar2 (zu b) (bar2 (cutsM b l) (shM b st)))]/\K'=[(0,zx),(s,zk b),(h,zC b),(e,zr b),(j,.cells (l.map intA) et false),(j2,.cells (st.map intA) et2 false)])\/(bar2 (zu b) (bar2 (cutsM b l) (shM b st))=0/\hangM b l st=none/\r=.tup [.v (.slice none 0 0),intA 0,zF false,intA 0]/\K'=[(0,zx),(s,zk b),(h,zC b),(e,zr b),(j,.cells (l.map intA) et false),(j2,.cells (st.map intA) et2 false)])\/(bar2 (zu b) (bar2 (cutsM b l) (shM b st))=0/\∃ w q jw,hangM b l st=some (w,q)/\r=.tup [.sl jw 0 w.length,intA q,zF true,intA 0]/\K'=(jw,.cells (w.map intA) 3 false)::[(0,zx),(s,zk b),(h,zC b),(e,zr b),(j,.cells (l.map intA) et false),(j2,.cells (st.map intA) et2 false)])):=by
 refine zl 38 hT Tryz.func18 fun Y hret=>?_;refine au 21042 ?_;intro jb hjb;refine au 320132016804235555 ?_;refine bI Z Z Z (zp (l:=[_,_]) Z zz.h TyZ.h dQ dQ Z) (fun _=>zn rfl tQ) fun ja hja=>?_;refine bD Z Z Z Z (zb9 hT (Kx:=[(j,.cells (l.map intA) et false),(j2,.cells (st.map intA) et2 false)]) (p1:=cutsM b l) (p2:=shM b st) hl hm (fun h0=>yI Cal.h ((wq hT (zY h0).sms.len.2 hll).frameP (R:=[(s,zk b),(j2,.cells (st.map intA) et2 false)]) (List.Perm.swap _ _ _))) (fun h0=>yI Cal.h ((ze5 hT (zY h0).rnd (zY h0).sms).frameP (R:=[(j,.cells (l.map intA) et false)]) ((List.Perm.swap _ _ _).cons _)))) ?_;rintro r1 K2 h3;rcases h3 with ⟨⟨hbar,rfl⟩ | ⟨hbar,rfl⟩,rfl⟩
 ·refine au 220661 ?_;intro j6 hj6;refine au 937142235170 ?_;constructor<;>intro hc0
  ·exact absurd hc0 sQ
  have hbb:=zY (kX hbar);have hcc:=wZ (kX (kz hbar));have hss:=zix (kz (kz hbar));have h5:=hbb.sms.len;have hsl:=hss.len;refine au 2120 ?_;refine bL [0,1,2,3,4,5,6,8,9,7,10] ?_;refine ad [[12,10],[1,1],[1,2]] ?_;refine TD.c2 (i1:=3) (i2:=8) (pend1:=[⟨1,[1],[]⟩,⟨0,[10],[(_,_)]⟩]) (pend2:=[⟨2,[2],[]⟩,⟨1,[1],[]⟩,⟨0,[10],[(_,_)]⟩]) (L1:=[4,5,6,7,8,9,10]) (L2:=[3,4,5,6,7,9,10]) [28] [] Z Z Z Z Z Z Z ?_ ?_
  ·refine yA Z Z Cal.h Z (u7 hT oQ oQ) (by repeat (first | exact Split.none _ | exact Split.all _ | (apply Split.rem; repeat (first | exact Rem.head | apply Rem.tail)) | apply Split.right)) fun r4 K5 h6=>⟨?_,?_⟩
   ·rcases h6 with ⟨rfl,rfl⟩
    all_goals simp
   obtain ⟨rfl,rfl⟩:=h6;try simp only [cA]
   refine bS (env':=[_,_,_,_,_,_,_,_,_,_,_,_,_,_,_,_,_,_,_,_,_,_,_,_,_,_,_,_,_,_,_,_,_,_,_,_,_,_]) Z ?_;refine TD.c2 (i1:=4) (i2:=8) (pend1:=[]) (pend2:=[⟨1,[1],[]⟩,⟨0,[10],[(_,_)]⟩]) (L1:=[5,6,7,8,9,10]) (L2:=[4,5,6,7,9,10]) [26,27,29] [] Z Z Z Z Z Z Z ?_ ?_
   ·refine yA Z Z Cal.h Z ((vG hT hbb hcc hss).mono (fun _ _ h=>w8 h)) (by repeat (first | exact Split.none _ | exact Split.all _ | (apply Split.rem; repeat (first | exact Rem.head | apply Rem.tail)) | apply Split.right)) fun r7 K8 h9=>⟨?_,?_⟩
    ·rcases h9 with ⟨hno,rfl,rfl⟩ | ⟨w,q,jw,hso,rfl,rfl⟩;all_goals simp
    rcases h9 with ⟨hno,rfl,rfl⟩ | ⟨w,q,jw,hso,rfl,rfl⟩
    ·try simp only [cA]
     refine bS (env':=[_,_,_,_,_,_,_,_,_,_,_,_,_,_,_,_,_,_,_,_,_,_,_,_,_,_,_,_,_,_,_,_,_,_,_,_,_,_]) Z ?_;refine ad [[1,30],[5,25],[5,25]] ?_;refine TD.cnewP (pend':=[⟨7,[25],[]⟩,⟨6,[25],[]⟩,⟨5,[30],[]⟩]) [] Z Z Z Z Z (zU Z TyZA.h) (fun _=>zn rfl tQ) sQ fun j8 hj8=>?_;refine bR (pend':=[⟨7,[25],[]⟩]) [11,31] Z Z (zB Z Z zd.h Z Z mQ Z) ?_;refine ad [[13,32],[14]] ?_;refine au 2 ?_;refine bL [0,1,5,2,3,6,4,7,8] ?_;refine ad [[3,11],[10,33],[3,11],[10,35],[1,8]] ?_;refine TD.as (pend':=[⟨4,[8],[]⟩,⟨3,[35],[(_,_)]⟩,⟨2,[11],[]⟩]) [34] Z Z (zw Z Z) ?_;refine TD.as (pend':=[⟨4,[8],[]⟩]) [36] Z Z (zw Z Z) ?_;refine ad [[13,37],[13],[14]] ?_;refine au 0 ?_;refine bB hret [(0,_),(s,_),(h,_),(e,_),(j,_),(j2,_)] ?_;exact .inr (.inl ⟨hbar,hno,rfl,rfl⟩)
    ·try simp only [cA]
     refine bS (env':=[_,_,_,_,_,_,_,_,_,_,_,_,_,_,_,_,_,_,_,_,_,_,_,_,_,_,_,_,_,_,_,_,_,_,_,_,_,_]) Z ?_;refine ad [[1,30],[5,25],[5,25]] ?_;refine TD.cnewP (pend':=[⟨7,[25],[]⟩,⟨6,[25],[]⟩,⟨5,[30],[]⟩]) [] Z Z Z Z Z (zU Z TyZA.h) (fun _=>zn rfl tQ) sQ fun j8 hj8=>?_;refine bR (pend':=[⟨7,[25],[]⟩]) [11,31] Z Z (zB Z Z zd.h Z Z mQ Z) ?_;refine ad [[13,32],[14]] ?_;refine au 2 ?_;refine bL [0,1,5,2,3,6,4,7,8] ?_;refine ad [[3,11],[10,33],[3,11],[10,35],[1,8]] ?_;refine TD.as (pend':=[⟨4,[8],[]⟩,⟨3,[35],[(_,_)]⟩,⟨2,[11],[]⟩]) [34] Z Z (zw Z Z) ?_;refine TD.as (pend':=[⟨4,[8],[]⟩]) [36] Z Z (zw Z Z) ?_;refine ad [[13,37],[13],[14]] ?_;refine au 0 ?_;refine bB hret [(jw,_),(0,_),(s,_),(h,_),(e,_),(j,_),(j2,_)] ?_;exact .inr (.inr ⟨hbar,w,q,jw,hso,rfl,rfl⟩)
   ·refine yu Z (zU Z TyZA.h) (fun _=>zn rfl tQ) sQ fun j8 hj8=>?_;refine bQ (pend':=[]) [26,27,29] Z Z Z Z Z ((vG hT hbb hcc hss).mono (fun _ _ h=>w8 h)) (fun r10 K11 h12=>⟨?_,?_⟩)
    ·rcases h12 with ⟨hno,rfl,rfl⟩ | ⟨w,q,jw,hso,rfl,rfl⟩;all_goals simp
    rcases h12 with ⟨hno,rfl,rfl⟩ | ⟨w,q,jw,hso,rfl,rfl⟩
    ·try simp only [cA]
     refine bS tQ ?_;refine ad [[1,30],[5,25],[5,25]] ?_;refine bR (pend':=[⟨7,[25],[]⟩]) [11,31] Z Z (zB Z Z zd.h Z Z mQ Z) ?_;refine ad [[13,32],[14]] ?_;refine au 2 ?_;refine bL [0,1,5,2,3,6,4,7,8] ?_;refine ad [[3,11],[10,33],[3,11],[10,35],[1,8]] ?_;refine TD.as (pend':=[⟨4,[8],[]⟩,⟨3,[35],[(_,_)]⟩,⟨2,[11],[]⟩]) [34] Z Z (zw Z Z) ?_;refine TD.as (pend':=[⟨4,[8],[]⟩]) [36] Z Z (zw Z Z) ?_;refine ad [[13,37],[13],[14]] ?_;refine au 0 ?_;refine bB hret [(0,_),(s,_),(h,_),(e,_),(j,_),(j2,_)] ?_;exact .inr (.inl ⟨hbar,hno,rfl,rfl⟩)
    ·try simp only [cA]
     refine bS tQ ?_;refine ad [[1,30],[5,25],[5,25]] ?_;refine bR (pend':=[⟨7,[25],[]⟩]) [11,31] Z Z (zB Z Z zd.h Z Z mQ Z) ?_;refine ad [[13,32],[14]] ?_;refine au 2 ?_;refine bL [0,1,5,2,3,6,4,7,8] ?_;refine ad [[3,11],[10,33],[3,11],[10,35],[1,8]] ?_;refine TD.as (pend':=[⟨4,[8],[]⟩,⟨3,[35],[(_,_)]⟩,⟨2,[11],[]⟩]) [34] Z Z (zw Z Z) ?_;refine TD.as (pend':=[⟨4,[8],[]⟩]) [36] Z Z (zw Z Z) ?_;refine ad [[13,37],[13],[14]] ?_;refine au 0 ?_;refine bB hret [(jw,_),(0,_),(s,_),(h,_),(e,_),(j,_),(j2,_)] ?_;exact .inr (.inr ⟨hbar,w,q,jw,hso,rfl,rfl⟩)
  ·refine yu Z (zU Z TyZA.h) (fun _=>zn rfl tQ) sQ fun j8 hj8=>?_;refine bQ (pend':=[⟨1,[1],[]⟩,⟨0,[10],[(_,_)]⟩]) [28] Z Z Z Z Z (u7 hT oQ oQ) (fun r13 K14 h15=>⟨?_,?_⟩)
   ·rcases h15 with ⟨rfl,rfl⟩
    all_goals simp
   obtain ⟨rfl,rfl⟩:=h15;try simp only [cA]
   refine bS tQ ?_;refine bQ (pend':=[]) [26,27,29] Z Z Z Z Z ((vG hT hbb hcc hss).mono (fun _ _ h=>w8 h)) (fun r16 K17 h18=>⟨?_,?_⟩)
   ·rcases h18 with ⟨hno,rfl,rfl⟩ | ⟨w,q,jw,hso,rfl,rfl⟩;all_goals simp
   rcases h18 with ⟨hno,rfl,rfl⟩ | ⟨w,q,jw,hso,rfl,rfl⟩
   ·try simp only [cA]
    refine bS tQ ?_;refine ad [[1,30],[5,25],[5,25]] ?_;refine bR (pend':=[⟨7,[25],[]⟩]) [11,31] Z Z (zB Z Z zd.h Z Z mQ Z) ?_;refine ad [[13,32],[14]] ?_;refine au 2 ?_;refine bL [0,1,5,2,3,6,4,7,8] ?_;refine ad [[3,11],[10,33],[3,11],[10,35],[1,8]] ?_;refine TD.as (pend':=[⟨4,[8],[]⟩,⟨3,[35],[(_,_)]⟩,⟨2,[11],[]⟩]) [34] Z Z (zw Z Z) ?_;refine TD.as (pend':=[⟨4,[8],[]⟩]) [36] Z Z (zw Z Z) ?_;refine ad [[13,37],[13],[14]] ?_;refine au 0 ?_;refine bB hret [(0,_),(s,_),(h,_),(e,_),(j,_),(j2,_)] ?_;exact .inr (.inl ⟨hbar,hno,rfl,rfl⟩)
   ·try simp only [cA]
    refine bS tQ ?_;refine ad [[1,30],[5,25],[5,25]] ?_;refine bR (pend':=[⟨7,[25],[]⟩]) [11,31] Z Z (zB Z Z zd.h Z Z mQ Z) ?_;refine ad [[13,32],[14]] ?_;refine au 2 ?_;refine bL [0,1,5,2,3,6,4,7,8] ?_;refine ad [[3,11],[10,33],[3,11],[10,35],[1,8]] ?_;refine TD.as (pend':=[⟨4,[8],[]⟩,⟨3,[35],[(_,_)]⟩,⟨2,[11],[]⟩]) [34] Z Z (zw Z Z) ?_;refine TD.as (pend':=[⟨4,[8],[]⟩]) [36] Z Z (zw Z Z) ?_;refine ad [[13,37],[13],[14]] ?_;refine au 0 ?_;refine bB hret [(jw,_),(0,_),(s,_),(h,_),(e,_),(j,_),(j2,_)] ?_;exact .inr (.inr ⟨hbar,w,q,jw,hso,rfl,rfl⟩)
 ·refine au 220661 ?_;intro j6 hj6;refine au 937142235170 ?_;constructor<;>intro hc0
  ·
   refine au 35555142 ?_;refine bB hret [(0,_),(s,_),(h,_),(e,_),(j,_),(j2,_)] ?_;exact .inl ⟨hbar,rfl,rfl⟩
  exact absurd hbar (by simpa using hc0)
theorem zeF {main:Bool} {T:Goroutine->Hp->Prop} (hT:zm tp main T)  {b:RBk} {s h e j j2:Nat} {l st:List Int} {et et2:TypeId} (hl:b.seams.length<=100) (hm:b.measures.length<=100) (hll:l.length<=1000) :
  zq tp T gmR 19 [.agg (zA b s h e),.sl j 0 l.length,.sl j2 0 st.length] [(0,zx),(s,zk b),(h,zC b),(e,zr b),(j,.cells (l.map intA) et false),(j2,.cells (st.map intA) et2 false)] (fun r K'=>(bar2 (zu b) (bar2 (cutsM b l) (shM b st))≠0/\r=.tup [.v (.slice none 0 0),zF false,intA (bar2 (zu b) (bar2 (cutsM b l) (shM b st)))]/\K'=[(0,zx),(s,zk b),(h,zC b),(e,zr b),(j,.cells (l.map intA) et false),(j2,.cells (st.map intA) et2 false)])\/(bar2 (zu b) (bar2 (cutsM b l) (shM b st))=0/\hangM b l st=none/\r=.tup [.v (.slice none 0 0),zF false,intA 0]/\K'=[(0,zx),(s,zk b),(h,zC b),(e,zr b),(j,.cells (l.map intA) et false),(j2,.cells (st.map intA) et2 false)])\/(bar2 (zu b) (bar2 (cutsM b l) (shM b st))=0/\∃ w q jr,hangM b l st=some (w,q)/\r=.tup [.row jr l.length,zF true,intA 0]/\K'=(jr,.row ((placesM b l st w).map intA) 3 1)::[(0,zx),(s,zk b),(h,zC b),(e,zr b),(j,.cells (l.map intA) et false),(j2,.cells (st.map intA) et2 false)])):=by
 refine zl 77 hT Tryz.func19 fun Y hret=>?_;refine au 21042 ?_;intro jb hjb;refine au 32013201680423555 ?_;refine bI Z Z Z (zp (l:=[_,_]) Z zz.h TyZ.h dQ dQ Z) (fun _=>zn rfl tQ) fun ja hja=>?_;refine bD Z Z Z Z (zb9 hT (Kx:=[(j,.cells (l.map intA) et false),(j2,.cells (st.map intA) et2 false)]) (p1:=cutsM b l) (p2:=shM b st) hl hm (fun h0=>yI Cal.h ((wq hT (zY h0).sms.len.2 hll).frameP (R:=[(s,zk b),(j2,.cells (st.map intA) et2 false)]) (List.Perm.swap _ _ _))) (fun h0=>yI Cal.h ((ze5 hT (zY h0).rnd (zY h0).sms).frameP (R:=[(j,.cells (l.map intA) et false)]) ((List.Perm.swap _ _ _).cons _)))) ?_;rintro r1 K2 h3;rcases h3 with ⟨⟨hbar,rfl⟩ | ⟨hbar,rfl⟩,rfl⟩
 ·refine au 220661 ?_;intro j6 hj6;refine au 937142235170 ?_;constructor<;>intro hc0
  ·exact absurd hc0 sQ
  have hbb:=zY (kX hbar);have hcc:=wZ (kX (kz hbar));have hss:=zix (kz (kz hbar));have h5:=hbb.sms.len;have hsl:=hss.len;refine au 142120 ?_;refine TK.clE Z Z Z Z (u7 hT oQ oQ) ?_;refine au 220 ?_;intro js hjs;refine au 6801680423170 ?_;refine bD Z Z Z Z ((vG hT hbb hcc hss).mono (fun _ _ h=>w8 h)) ?_;rintro r7 K8 h9;rcases h9 with ⟨hno,rfl,rfl⟩ | ⟨w,q,jw,hso,rfl,rfl⟩
  ·refine au 220661 ?_;intro jw8 hjw8;refine au 93300142235170 ?_;constructor<;>intro hc1
   ·
    refine au 355542 ?_;refine bB hret [(0,_),(s,_),(h,_),(e,_),(j,_),(j2,_)] ?_;exact .inr (.inl ⟨hbar,hno,rfl,rfl⟩)
   exact absurd hc1 dQ
  ·refine au 220661 ?_;intro jw8 hjw8;refine au 93300142235170 ?_;constructor<;>intro hc1
   ·exact absurd hc1 dQ
   obtain ⟨hwl,hwb⟩:=zhG hbb hcc hss hso;refine au 542120 ?_;refine TK.virt 6 3 1 Z fun jr0 hjr0=>?_;refine au 1303128014223 ?_;refine bA [1,6,9,10,11,12,39,40,41] ?_;refine bC [(0,_),(s,_),(h,_),(e,_),(j,_),(j2,_),(jw,_),(jw8,_),(js,_),(j6,_),(jr0,_)] ?_;refine bE (fun n env K=>∃ (i jr:Nat) (at0:Int),n=l.length - i/\i<=l.length/\(i<l.length->at0+(if i=0 then 0 else togM b st (zK l (i - 1)).toNat (zK l i - zK l (i - 1)).toNat+zK w i)=atM b l st w i)/\(0<=at0/\at0<=1000)/\env=.any::.sl j 0 l.length::naL 4 (.row jr i::naL 2 (.ptr j6 0::.ptr js 0::.ptr jw8 0::intA at0::naL 26 (.sl j 0 l.length::intA l.length::intA i::naL 35 [])))/\K=[(0,zx),(s,zk b),(h,zC b),(e,zr b),(j,.cells (l.map intA) et false),(j2,.cells (st.map intA) et2 false),(jw,.cells (w.map intA) 3 false),(jw8,.cells [.sl jw 0 w.length,intA q] 126 true),(js,.cells (stC st) 130 true),(j6,.cells (zA b s h e) 117 true),(jr,.row (((List.range i).map (atM b l st w)).map intA) 3 1)]) l.length ⟨0,jr0,0,rfl,mN _,fun _=>rfl,⟨Int.le_refl _,by decide⟩,rfl,rfl⟩ fun n env K hI hnext=>?_;obtain ⟨i,jr,at0,rfl,hi,hat,hatb,rfl,rfl⟩:=hI;refine bG nQ ?_;refine au 923742 ?_;constructor<;>intro hc2
   ·have hil:i<l.length:=by simp at hc2; omega
    have qi:=hcc.lt hil;have hcl:=hcc.len;refine au 3601421302120 ?_;refine bH Z (zg Z Z zd.h mQ (yn (i:=i) (z7 hil) Z)) ?_;refine au 9371422355 ?_;constructor<;>intro hc3
    ·have hi0:0<i:=by simp at hc3; omega
     have qp:=hcc.lt (k:=i - 1) oQ;have hlt:=zlS hcc (k:=i - 1) oQ;rw [show i - 1+1=i by omega] at hlt;have htb:=zaP hbb hss (c:=(zK l (i - 1)).toNat) (zK l i - zK l (i - 1)).toNat;have hwi:0<=zK w i/\zK w i<=9:=hwb i;have hnew:=hat hil;rw [if_neg oQ] at hnew;refine TK.dr [0,1,2,3,4,5,6,7,8,9,10,11,12,13,14,16,17,18,19,20,15,21,22,23] [0,1,2,3,4,5,6,7,8,9,10,11,12,13,14,15,16,17,18,19,20,21,22,23] ?_;refine ad [[1,12],[12,9],[1,1],[1,13],[9,51],[2,50,52]] ?_;refine bT [53] Z (hq:=zg Z Z zd.h (mC _) (yn (i:=i - 1) (z7 oQ) oQ)) (h:=?_);refine ad [[1,14],[1,1],[1,13],[9,57],[2,56,58]] ?_;refine bT [59] Z (hq:=zg Z Z zd.h (mC _) (yn (i:=i - 1) (z7 oQ) oQ)) (h:=?_);refine ad [[9,55,60],[12,10],[3,11],[10,64],[1,13],[2,65,66]] ?_;refine bT [67] Z (hq:=zg Z Z zd.h (mC _) (yn (i:=i) (z7 (l:=w) oQ) Z)) (h:=?_);refine bQ (pend':=[⟨20,[67],[(_,_)]⟩,⟨19,[65,66],[]⟩,⟨18,[13],[]⟩,⟨17,[64],[(_,_)]⟩,⟨16,[11],[]⟩,⟨12,[59],[(_,_)]⟩,⟨11,[56,58],[]⟩,⟨10,[57],[]⟩,⟨9,[13],[]⟩,⟨8,[1],[]⟩,⟨7,[14],[]⟩,⟨5,[50,52],[]⟩,⟨4,[51],[]⟩,⟨3,[13],[]⟩,⟨2,[1],[]⟩,⟨0,[12],[]⟩]) [49,54,61,62] Z Z Z Z Z (ziL hT (c:=zK l (i - 1)) (k:=zK l i - zK l (i - 1)) hbb hss oQ oQ) (fun r10 K11 h12=>⟨?_,?_⟩)
     ·rcases h12 with ⟨rfl,rfl⟩
      all_goals simp
     obtain ⟨rfl,rfl⟩:=h12;try simp only [cA]
     refine bS tQ ?_;refine ad [[8,63,68],[8,48,69],[13,70],[14]] ?_;refine au 114 ?_;refine bI Z Z Z (zp (l:=[_]) Z zz.h TyZ.h dQ dQ Z) (fun _=>zn rfl tQ) fun j13 hj13=>?_;refine TK.appR Z Z Z (a_app Z ApOf.h Z mQ sQ Z (yp (ln:=[_]) mQ dQ sQ Z) oQ Z (by unfold maxLen; omega) oQ) (fun _=>uQ) (fun _=>zn rfl tQ) fun jr2=>?_;refine au 31230414035 ?_;refine bA [1,6,9,10,11,12,39,40,41] ?_;refine bC [(0,_),(s,_),(h,_),(e,_),(j,_),(j2,_),(jw,_),(jw8,_),(js,_),(j6,_),(jr2,_)] ?_;exact hnext _ _ _ oQ ⟨i+1,jr2,atM b l st w i,rfl,oQ,fun hh=>by rw [if_neg oQ]; rfl,by have:=at_bd hbb hcc hss hwb i hil; omega,by rw [hnew]; rfl,by rw [hnew,List.range_succ,lM,lM]; rfl⟩
    obtain rfl:i=0:=by simp at hc3; omega
    have hnew:at0=atM b l st w 0:=by have:=hat hil; rw [if_pos rfl,Int.add_zero] at this; exact this
    refine au 114120 ?_;refine bI Z Z Z (zp (l:=[_]) Z zz.h TyZ.h dQ dQ Z) (fun _=>zn rfl tQ) fun j14 hj14=>?_;refine TK.appR Z Z Z (a_app Z ApOf.h Z mQ sQ Z (yp (ln:=[_]) mQ dQ sQ Z) oQ Z (by unfold maxLen; omega) oQ) (fun _=>uQ) (fun _=>zn rfl tQ) fun jr2=>?_;refine au 31230414035 ?_;refine bA [1,6,9,10,11,12,39,40,41] ?_;refine bC [(0,_),(s,_),(h,_),(e,_),(j,_),(j2,_),(jw,_),(jw8,_),(js,_),(j6,_),(jr2,_)] ?_;exact hnext _ _ _ oQ ⟨0+1,jr2,atM b l st w 0,rfl,oQ,fun hh=>by rw [if_neg oQ]; rfl,by have:=at_bd hbb hcc hss hwb 0 hil; omega,by rw [hnew]; rfl,by rw [hnew,List.range_succ,lM,lM]; rfl⟩
   obtain rfl:i=l.length:=by simp at hc2; omega
   refine au 3555142160 ?_;refine bB hret [(jr,_),(0,_),(s,_),(h,_),(e,_),(j,_),(j2,_)] ?_;exact .inr (.inr ⟨hbar,w,q,jr,hso,rfl,rfl⟩)
 ·refine au 220661 ?_;intro j6 hj6;refine au 937142235170 ?_;constructor<;>intro hc0
  ·
   refine au 3555142 ?_;refine bB hret [(0,_),(s,_),(h,_),(e,_),(j,_),(j2,_)] ?_;exact .inl ⟨hbar,rfl,rfl⟩
  exact absurd hbar (by simpa using hc0)
theorem zaU {Ψ:Goroutine->World->Prop} {b:RBk} {s h e:Nat} (hl:b.seams.length<=100) (hm:b.measures.length<=100) :
  zq tp (BT tp Ψ) gmR 29 [.agg (zA b s h e)] [(0,zx),(s,zk b),(h,zC b),(e,zr b)] (fun r K'=>(zu b≠0/\r=.tup [.v (.slice none 0 0),intA 0,zF false,intA (zu b)]/\K'=[(0,zx),(s,zk b),(h,zC b),(e,zr b)])\/(zu b=0/\zj b=[]/\r=.tup [.v (.slice none 0 0),intA 0,zF false,intA 9]/\K'=[(0,zx),(s,zk b),(h,zC b),(e,zr b)])\/(zu b=0/\zj b≠[]/\((NoPlan b (zj b)/\r=.tup [.v (.slice none 0 0),intA 0,zF false,intA 0]/\K'=[(0,zx),(s,zk b),(h,zC b),(e,zr b)])\/∃ c jc ec,PlanA b (zj b) cheaperM c/\r=.tup [.sl jc 0 (zt c b.seams.length).length,intA (sqHi b (zj b) (zt c b.seams.length)),zF true,intA 0]/\K'=(jc,.cells ((zt c b.seams.length).map intA) ec false)::[(0,zx),(s,zk b),(h,zC b),(e,zr b)]))):=by
 have hT:=kq (P:=tp) Ψ;refine zl 26 hT Tryz.func29 fun Y hret=>?_;refine au 21042 ?_;intro jb hjb;refine au 6804235555 ?_;refine bD Z Z Z Z (wK hT (Kx:=[]) hl hm) ?_;rintro r1 K2 h3;rcases h3 with ⟨hbar,rfl,rfl⟩ | ⟨hbar,hnil,rfl,rfl⟩ | ⟨hbar,hne,a,rfl,rfl⟩
 ·refine au 220661 ?_;intro j6 hj6;refine au 937142235170 ?_;constructor<;>intro hc0
  ·
   refine au 35555142 ?_;refine bB hret [(0,_),(s,_),(h,_),(e,_)] ?_;exact .inl ⟨hbar,rfl,rfl⟩
  exact absurd hbar (by simpa using hc0)
 ·refine au 220661 ?_;intro j6 hj6;refine au 937142235170 ?_;constructor<;>intro hc0
  ·
   refine au 35555142 ?_;refine bB hret [(0,_),(s,_),(h,_),(e,_)] ?_;exact .inr (.inl ⟨hbar,hnil,rfl,rfl⟩)
  exact absurd hc0 dQ
 ·refine au 220661 ?_;intro j6 hj6;refine au 937142235170 ?_;constructor<;>intro hc0
  ·exact absurd hc0 sQ
  have hbb:=zY hbar;have hlen:=kE hbb;have hpos:0<(zj b).length:=List.length_pos_iff.2 hne;have hall:okAll b (zj b):=fun st hst=>(y8 hbb hst).1;refine au 68042120 ?_;refine bD Z Z Z Z (zaG (bt:=cheaperM) hbb hall hlen hpos zdC (fun _ _ _ _ _ _=>zfl _ _) (fun hT1 jr cs cost cs0 cost0 j0 e0 hlen=>yI Cal.h (zgz hT1 oQ))) ?_;rintro r4 K5 h6;rcases h6 with ⟨rfl,rfl,hno⟩ | ⟨c,jc,ec,hq0,hq1,hok,hbest,rfl,rfl⟩
  ·refine au 220661 ?_;intro j7 hj7;refine au 235170 ?_;refine bL [0,1,5,2,3,6,4,7,8] ?_;refine ad [[3,7],[10,21],[3,7],[10,23],[1,4]] ?_;refine TD.as (pend':=[⟨4,[4],[]⟩,⟨3,[23],[(_,_)]⟩,⟨2,[7],[]⟩]) [22] Z Z (zw Z Z) ?_;refine TD.as (pend':=[⟨4,[4],[]⟩]) [24] Z Z (zw Z Z) ?_;refine ad [[13,25],[13],[14]] ?_;refine au 0 ?_;refine bB hret [(0,_),(s,_),(h,_),(e,_)] ?_;exact .inr (.inr ⟨hbar,hne,.inl ⟨hno,rfl,rfl⟩⟩)
  ·refine au 220661 ?_;intro j7 hj7;refine au 235170 ?_;refine bL [0,1,5,2,3,6,4,7,8] ?_;refine ad [[3,7],[10,21],[3,7],[10,23],[1,4]] ?_;refine TD.as (pend':=[⟨4,[4],[]⟩,⟨3,[23],[(_,_)]⟩,⟨2,[7],[]⟩]) [22] Z Z (zw Z Z) ?_;refine TD.as (pend':=[⟨4,[4],[]⟩]) [24] Z Z (zw Z Z) ?_;refine ad [[13,25],[13],[14]] ?_;refine au 0 ?_;refine bB hret [(jc,_),(0,_),(s,_),(h,_),(e,_)] ?_;exact .inr (.inr ⟨hbar,hne,.inr ⟨c,jc,ec,⟨hq0,hq1,hok,hbest⟩,rfl,rfl⟩⟩)
theorem wg {Ψ:Goroutine->World->Prop} {b:RBk} {s h e:Nat} (hl:b.seams.length<=100) (hm:b.measures.length<=100) :
  zq tp (BT tp Ψ) gmR 30 [.agg (zA b s h e)] [(0,zx),(s,zk b),(h,zC b),(e,zr b)] (fun r K'=>(zu b≠0/\r=.tup [.v (.slice none 0 0),zF false,intA (zu b)]/\K'=[(0,zx),(s,zk b),(h,zC b),(e,zr b)])\/(zu b=0/\zj b=[]/\r=.tup [.v (.slice none 0 0),zF false,intA 9]/\K'=[(0,zx),(s,zk b),(h,zC b),(e,zr b)])\/(zu b=0/\zj b≠[]/\((NoPlan b (zj b)/\r=.tup [.v (.slice none 0 0),zF false,intA 0]/\K'=[(0,zx),(s,zk b),(h,zC b),(e,zr b)])\/∃ c jc ec,PlanA b (zj b) shorterM c/\r=.tup [.sl jc 0 (zt c b.seams.length).length,zF true,intA 0]/\K'=(jc,.cells ((zt c b.seams.length).map intA) ec false)::[(0,zx),(s,zk b),(h,zC b),(e,zr b)]))):=by
 have hT:=kq (P:=tp) Ψ;refine zl 23 hT Tryz.func30 fun Y hret=>?_;refine au 21042 ?_;intro jb hjb;refine au 680423555 ?_;refine bD Z Z Z Z (wK hT (Kx:=[]) hl hm) ?_;rintro r1 K2 h3;rcases h3 with ⟨hbar,rfl,rfl⟩ | ⟨hbar,hnil,rfl,rfl⟩ | ⟨hbar,hne,a,rfl,rfl⟩
 ·refine au 220661 ?_;intro j6 hj6;refine au 937142235170 ?_;constructor<;>intro hc0
  ·
   refine au 3555142 ?_;refine bB hret [(0,_),(s,_),(h,_),(e,_)] ?_;exact .inl ⟨hbar,rfl,rfl⟩
  exact absurd hbar (by simpa using hc0)
 ·refine au 220661 ?_;intro j6 hj6;refine au 937142235170 ?_;constructor<;>intro hc0
  ·
   refine au 3555142 ?_;refine bB hret [(0,_),(s,_),(h,_),(e,_)] ?_;exact .inr (.inl ⟨hbar,hnil,rfl,rfl⟩)
  exact absurd hc0 dQ
 ·refine au 220661 ?_;intro j6 hj6;refine au 937142235170 ?_;constructor<;>intro hc0
  ·exact absurd hc0 sQ
  have hbb:=zY hbar;have hlen:=kE hbb;have hpos:0<(zj b).length:=List.length_pos_iff.2 hne;have hall:okAll b (zj b):=fun st hst=>(y8 hbb hst).1;refine au 68042120 ?_;refine bD Z Z Z Z (zaG (bt:=shorterM) hbb hall hlen hpos zai (zdt hbb) (fun hT1 jr cs cost cs0 cost0 j0 e0 hlen=>yI Cal.h (zci hT1 oQ))) ?_;rintro r4 K5 h6;rcases h6 with ⟨rfl,rfl,hno⟩ | ⟨c,jc,ec,hq0,hq1,hok,hbest,rfl,rfl⟩
  ·refine au 220661 ?_;intro j7 hj7;refine au 355516906704235170 ?_;refine bB hret [(0,_),(s,_),(h,_),(e,_)] ?_;exact .inr (.inr ⟨hbar,hne,.inl ⟨hno,rfl,rfl⟩⟩)
  ·refine au 220661 ?_;intro j7 hj7;refine au 355516906704235170 ?_;refine bB hret [(jc,_),(0,_),(s,_),(h,_),(e,_)] ?_;exact .inr (.inr ⟨hbar,hne,.inr ⟨c,jc,ec,⟨hq0,hq1,hok,hbest⟩,rfl,rfl⟩⟩)
theorem wp {Ψ:Goroutine->World->Prop} {b:RBk} {s h e:Nat} (hl:b.seams.length<=100) (hm:b.measures.length<=100) :
  zq tp (BT tp Ψ) gmR 31 [.agg (zA b s h e)] [(0,zx),(s,zk b),(h,zC b),(e,zr b)] (fun r K'=>(zu b≠0/\r=.tup [intA 0,zF false,intA (zu b)]/\K'=[(0,zx),(s,zk b),(h,zC b),(e,zr b)])\/(zu b=0/\zj b=[]/\r=.tup [intA 0,zF false,intA 9]/\K'=[(0,zx),(s,zk b),(h,zC b),(e,zr b)])\/(zu b=0/\zj b≠[]/\r=.tup [intA ((widestM b (zj b)).getD 0),zF (widestM b (zj b)).isSome,intA 0]/\K'=[(0,zx),(s,zk b),(h,zC b),(e,zr b)])):=by
 have hT:=kq (P:=tp) Ψ;refine zl 33 hT Tryz.func31 fun Y hret=>?_;refine au 21042 ?_;intro jb hjb;refine au 680423555 ?_;refine bD Z Z Z Z (wK hT (Kx:=[]) hl hm) ?_;rintro r1 K2 h3;rcases h3 with ⟨hbar,rfl,rfl⟩ | ⟨hbar,hnil,rfl,rfl⟩ | ⟨hbar,hne,a,rfl,rfl⟩
 ·refine au 220661 ?_;intro j5 hj5;refine au 937142235170 ?_;constructor<;>intro hc0
  ·
   refine au 3555142 ?_;refine bB hret [(0,_),(s,_),(h,_),(e,_)] ?_;exact .inl ⟨hbar,rfl,rfl⟩
  exact absurd hbar (by simpa using hc0)
 ·refine au 220661 ?_;intro j5 hj5;refine au 937142235170 ?_;constructor<;>intro hc0
  ·
   refine au 3555142 ?_;refine bB hret [(0,_),(s,_),(h,_),(e,_)] ?_;exact .inr (.inl ⟨hbar,hnil,rfl,rfl⟩)
  exact absurd hc0 dQ
 ·refine au 220661 ?_;intro j5 hj5;refine au 937142235170 ?_;constructor<;>intro hc0
  ·exact absurd hc0 sQ
  have hbb:=zY hbar;have hlen:=kE hbb;have hpos:0<(zj b).length:=List.length_pos_iff.2 hne;have hall:okAll b (zj b):=fun st hst=>(y8 hbb hst).1;have hst:=hbb.rnd.steps;refine au 13035422120 ?_;refine bA [1,2,3,4,5] ?_;refine bC [(a,_),(0,_),(s,_),(h,_),(e,_),(jb,_),(j5,_)] ?_;refine bE (fun n env K=>∃ (k:Nat) (r0:Int),n=k/\b.steps+k<=41/\widestL b (zj b) k=widestM b (zj b)/\env=.any::.ptr jb 0::intA (b.steps+(k:Int) - 1)::zF false::intA 0::.ptr j5 0::naL 27 []/\K=[(a,allO (zj b)),(0,zx),(s,zk b),(h,zC b),(e,zr b),(jb,.cells (zA b s h e) 26 true),(j5,.cells (knownC (atRound b r0) s h e a (zj b).length) 137 true)]) (41 - b.steps).toNat ⟨(41 - b.steps).toNat,b.round,rfl,oQ,rfl,by rw [show b.steps+((41 - b.steps).toNat:Int) - 1=40 by omega]; rfl,rfl⟩ fun n env K hI hnext=>?_;obtain ⟨k1,r0,hn1,hk,hw,rfl,rfl⟩:=hI;subst n;refine bG nQ ?_;refine au 9376906701422 ?_;constructor<;>intro hc1
  ·obtain ⟨k,rfl⟩:∃ k,k1=k+1:=⟨k1 - 1,by simp at hc1; omega⟩;have hkk:b.steps+((k+1:Nat):Int) - 1=b.steps+(k:Int):=by omega
   rw [hkk];refine au 6804231706706706701421302120 ?_;refine bD Z Z Z Z (zaG (b:=atRound b (b.steps+k)) (bt:=shorterM) (zan hbb oQ oQ) (zfG hall _) hlen hpos zai (zdt (zan hbb oQ oQ)) (fun hT1 jr cs cost cs0 cost0 j0 e0 hlen=>yI Cal.h (zci hT1 oQ))) ?_;rintro r4 K5 h6;rcases h6 with ⟨rfl,rfl,hno⟩ | ⟨c,jc,ec,hq0,hq1,hok,hbest,rfl,rfl⟩
   ·refine au 220661 ?_;intro j7 hj7;refine au 9314235170 ?_;constructor<;>intro hc2
    ·cases hc2
    refine au 3524014140120 ?_;refine bA [1,2,3,4,5] ?_;refine bC [(a,_),(0,_),(s,_),(h,_),(e,_),(jb,_),(j5,_)] ?_;exact hnext _ _ _ oQ ⟨k,b.steps+(k:Int),rfl,oQ,by rw [<- hw,show widestL b (zj b) (k+1)=widestL b (zj b) k from if_neg (by rw [zkI (b:=b) hno]; decide)],rfl,rfl⟩
   ·refine au 220661 ?_;intro j7 hj7;refine au 9314235170 ?_;constructor<;>intro hc2
    ·
     refine au 3555142 ?_;refine bB hret [(0,_),(s,_),(h,_),(e,_)] ?_;exact .inr (.inr ⟨hbar,hne,by rw [<- hw,show widestL b (zj b) (k+1)=some (b.steps+k) from if_pos (zkJ hq0 hq1 hok)]; rfl,rfl⟩)
    cases hc2
  obtain rfl:k1=0:=by simp at hc1; omega
  refine au 355542160 ?_;refine bB hret [(0,_),(s,_),(h,_),(e,_)] ?_;exact .inr (.inr ⟨hbar,hne,by rw [<- hw]; rfl,rfl⟩)
theorem uA:tp.underlying 130=some (.array 5 3):=by kernel_rfl
theorem u3:tp.underlying 3=some (.int .i64):=by kernel_rfl
theorem i3:tp.info? 3=some Tryz.t3:=by kernel_rfl
theorem i3s:Tryz.t3.size=1:=by kernel_rfl
theorem zcc {P:Program} {t:TypeId} {i:TypeInfo} (h:P.info? t=some i):zJ P (sizeOf t)=some i.size:=by
 unfold sizeOf typeInfo
 show zJ P ((match P.info? t with | some i=>pure i | none=>stuck "no such type") >>= fun i=>pure i.size)=_
 rw [h]; rfl
theorem zlZ {d:Nat} {a b:Int}:zJ tp (Op.equalIn (d+1) 3 (.int .i64 a) (.int .i64 b))=some (a==b):=by
 unfold Op.equalIn;exact zE (z5 u3) rfl
theorem kI {cs:Array Value} {off:Nat} {v:Value} (h:cs[off]? =some v):zJ tp (part 3 cs off)=some v:=by
 unfold part isAgg;refine zE (a:=false) ?_ ?_
 ·exact zE (z5 u3) rfl
 ·simp [h]; rfl
theorem zag {α β:Type} {P:Program} (s:Sem α) (f:α->Sem β):zJ P (s >>= f)=(zJ P s).bind fun a=>zJ P (f a):=by
 show zJ P (s.bind f)=_
 induction s with
 | pure a=>rfl
 | program k ih=>exact ih P
 | _=>rfl
theorem zcd {α:Type} {P:Program} (a:α):zJ P (pure a)=some a:=rfl
def stV (s:List Int):Value:=.agg #[.int .i64 (s.getD 0 0),.int .i64 (s.getD 1 0),.int .i64 (s.getD 2 0),.int .i64 (s.getD 3 0),.int .i64 (s.getD 4 0)]
def eqSt (s t:List Int):Bool:=(s.getD 0 0==t.getD 0 0)&&((s.getD 1 0==t.getD 1 0)&&((s.getD 2 0==t.getD 2 0)&&((s.getD 3 0==t.getD 3 0)&&(s.getD 4 0==t.getD 4 0))))
theorem zlY {d:Nat} {a0 a1 a2 a3 a4 b0 b1 b2 b3 b4:Int}:zJ tp (Op.equalIn (d+2) 130 (.agg #[.int .i64 a0,.int .i64 a1,.int .i64 a2,.int .i64 a3,.int .i64 a4]) (.agg #[.int .i64 b0,.int .i64 b1,.int .i64 b2,.int .i64 b3,.int .i64 b4]))=some (a0==b0&&(a1==b1&&(a2==b2&&(a3==b3&&a4==b4)))):=by
 unfold Op.equalIn;refine zE (z5 uA) ?_;dsimp only;refine zE (zcc i3) ?_;rw [i3s];simp only [Std.Legacy.Range.forIn_eq_forIn_range',Std.Legacy.Range.size,Nat.sub_zero,Nat.add_sub_cancel,Nat.div_one];simp [List.range'];have p0:=fun a b c d e:Value=>kI (cs:=#[a,b,c,d,e]) (off:=0) rfl;have p1:=fun a b c d e:Value=>kI (cs:=#[a,b,c,d,e]) (off:=1) rfl;have p2:=fun a b c d e:Value=>kI (cs:=#[a,b,c,d,e]) (off:=2) rfl;have p3:=fun a b c d e:Value=>kI (cs:=#[a,b,c,d,e]) (off:=3) rfl;have p4:=fun a b c d e:Value=>kI (cs:=#[a,b,c,d,e]) (off:=4) rfl;have e:=fun a b:Int=>zlZ (d:=d) (a:=a) (b:=b);rcases h1:(a0==b0) <;> rcases h2:(a1==b1) <;> rcases h3:(a2==b2) <;> rcases h4:(a3==b3) <;> rcases h5:(a4==b4) <;> simp [zag,zcd,p0,p1,p2,p3,p4,e,h1,h2,h3,h4,h5]
theorem eq_st (s t:List Int):zJ tp (Op.equal 130 (stV s) (stV t))=some (eqSt s t):=zlY (d:=9998)
theorem zhn {d:Nat} {e:Bool} {a:Int}:zJ tp (Instr.checkKey e (d+1) 3 (.int .i64 a))=some ():=by
 unfold Instr.checkKey;exact zE (z5 u3) rfl
theorem zi9 {e:Bool} (s:List Int):zJ tp (Instr.checkKey e 10000 130 (stV s))=some ():=by
 show zJ tp (Instr.checkKey e (9998+2) 130 (stV s))=some ();unfold Instr.checkKey;refine zE (z5 uA) ?_;unfold stV;dsimp only;simp only [Std.Legacy.Range.forIn_eq_forIn_range',Std.Legacy.Range.size,Nat.sub_zero,Nat.add_sub_cancel,Nat.div_one];simp [List.range'];have p0:=fun a b c d e:Value=>kI (cs:=#[a,b,c,d,e]) (off:=0) rfl;have p1:=fun a b c d e:Value=>kI (cs:=#[a,b,c,d,e]) (off:=1) rfl;have p2:=fun a b c d e:Value=>kI (cs:=#[a,b,c,d,e]) (off:=2) rfl;have p3:=fun a b c d e:Value=>kI (cs:=#[a,b,c,d,e]) (off:=3) rfl;have p4:=fun a b c d e:Value=>kI (cs:=#[a,b,c,d,e]) (off:=4) rfl;have hs:zJ tp (sizeOf 3)=some 1:=by rw [zcc i3,i3s]
 have ck:=fun (e:Bool) (a:Int)=>zhn (d:=9998) (e:=e) (a:=a);simp [zag,zcd,p0,p1,p2,p3,p4,hs,ck]
theorem zdL {s:List Int}:∀ (es:List MapEntry) (ks:List (List Int)) (i:Nat),es.map (·.key)=ks.map stV->(∀ t∈ks,eqSt s t=false)->zJ tp (Instr.findAsking 130 (stV s) es i)=some none
 | [],_,_,_,_=>rfl
 | en::es,[],_,h,_=>by simp at h
 | en::es,t::ks,i,h,hk=>by
  simp only [List.map_cons,List.cons.injEq] at h;unfold Instr.findAsking;refine zE (a:=false) ?_ ?_
  ·rw [h.1,eq_st,hk t sQ]
  ·simp only [mU,if_false];exact zdL es ks (i+1) h.2 fun t ht=>hk t (by simp [ht])
def MapS (ob:Obj) (ks:List (List Int)):Prop:=∃ es clock,ob=.map es clock/\es.toList.map (·.key)=ks.map stV
def upS (ob:Obj) (s:List Int):Obj:=match ob with
 | .map es clock=>.map (es.push { key:=stV s,val:=.bool true,born:=clock }) (clock+1)
 | ob=>ob
theorem zjF:MapS (.map #[] 0) []:=⟨#[],0,rfl,rfl⟩
theorem zk9 {ob:Obj} {ks:List (List Int)} {s:List Int} (h:MapS ob ks):MapS (upS ob s) (ks++[s]):=by
 obtain ⟨es,c,rfl,h⟩:=h;exact ⟨_,_,rfl,by rw [Array.toList_push,lM,lM,h]; rfl⟩
section
variable {P:Program} {gm:Nat->Option Nat} {V:KV} {env:List AV} {o:Oper}
structure KeyOk (P:Program):Prop where
 u:P.underlying 130=some (.array 5 3)
 ck:∀ s,zJ P (Instr.checkKey false 10000 130 (stV s))=some ()
 fa:∀ (s:List Int) (es:List MapEntry) (ks:List (List Int)) (i:Nat),es.map (·.key)=ks.map stV->(∀ t∈ks,eqSt s t=false)->zJ P (Instr.findAsking 130 (stV s) es i)=some none
theorem keyOk:KeyOk tp:=⟨uA,zi9,fun s es ks i=>zdL es ks i⟩
theorem zl5 {φ:Nat->Loc3} {n:Nat} {s:List Int} {y:Value} (h:RelV φ n (.agg (stC s)) y):y=stV s:=by
 obtain ⟨ys,rfl,h1,h2⟩:=za2 h;have hsz:ys.size=5:=h1.symm;have g:∀ i:Nat,i<5->ys[i]? =some (.int .i64 (s.getD i 0)):=fun i hi=>by
  have hy:ys[i]? =some ys[i]:=mD oQ;have hs:(stC s)[i]? =some (slotR s i):=by
   have:i=0\/i=1\/i=2\/i=3\/i=4:=by omega
   rcases this with rfl | rfl | rfl | rfl | rfl <;> rfl
  have:=inv_v (h2 i _ _ hs hy);rw [hy,this]
 unfold stV;congr 1;refine Array.ext (by simpa using hsz) fun i hi1 hi2=>?_;have h5:i<5:=by omega
 have hh:=g i h5;rw [mD hi1] at hh;rw [Option.some.inj hh];have:i=0\/i=1\/i=2\/i=3\/i=4:=by omega
 rcases this with rfl | rfl | rfl | rfl | rfl <;> rfl
theorem zeR (hP:KeyOk P) {t et:TypeId} {x y:Operand} {j:Nat} {ob:Obj} {s:List Int} {ks:List (List Int)} (ho:o.op=.mapUpdate t x y (.const (.bool true))) (hx:zo gm env x=some (.map j)) (hy:zo gm env y=some (.agg (stC s))) (ht:P.underlying t=some (.map 130 et)) (hm:(j,.raw ob)∈V) (hf:MapS ob ks) (hn:∀ k∈ks,eqSt s k=false) :
  ∀ A,zQ V A->OpOk P gm env A o .any (A.set j (.raw (upS ob s))):=fun A hA φ F H a hg hH hE=>by
 unfold execOp; rw [ho];refine wpS_u ?_;have h1:=zD hg hE x;rw [zy hx] at h1;obtain ⟨hj,e1⟩:=za3 h1;have h2:=zD hg hE y;rw [zy hy] at h2;rw [e1,zl5 h2];obtain ⟨es,c,rfl,hk⟩:=hf;have hb:H (φ j).blk=some (true,.map es c):=hH.obj j _ (hA.get hm);have hend:zX φ A F .any (A.set j (.raw (upS (.map es c) s))) .skip (H.put (φ j).blk (true,upS (.map es c) s)) :=
  ⟨undef,φ,.inr ⟨rfl,rfl⟩,Agr.refl _ _,by simp,hH.set (hA.get hm) rfl trivial (Hp.put_same _ _ _),.any _⟩
 unfold Instr.mapUpdate;refine ze _ _ _ (zG ht ?_);dsimp only;refine ze _ _ _ ?_;refine ⟨true,_,hb,rfl,rfl,?_⟩;refine ze _ _ _ (vu _ (hP.ck s) ?_);refine ze _ _ _ ?_;unfold Instr.findKey;refine ze _ _ _ (zG hP.u ?_);have key:∀ (Q:Option (Nat×Value)->Hp->Prop),Q none H->wpS P (match Instr.findNow (.array 5 3) (stV s) es.toList 0 with | some r=>pure r | none=>Instr.findAsking 130 (stV s) es.toList) H Q:=fun Q hq=>by
  cases hes:es.toList with
  | nil=>exact hq
  | cons en r =>
   have:Instr.findNow (.array 5 3) (stV s) (en::r) 0=none:=rfl;rw [this];exact vu _ (hP.fa s _ ks 0 (by rw [<- hes]; exact hk) hn) hq
 refine key _ ?_;refine ⟨_,hb,rfl,rfl,?_⟩;exact hend
theorem zih {t kt et:TypeId} {x:Operand} {j:Nat} {ob:Obj} {ks:List (List Int)} (ho:o.op=.call { callee:=.builtin .len,args:=#[x],argTypes:=#[t] }) (hx:zo gm env x=some (.map j)) (ht:P.underlying t=some (.map kt et)) (hm:(j,.raw ob)∈V) (hf:MapS ob ks) :
  Qk P gm env V o (.v (.int .i64 ks.length)):=fun A hA φ F H a hg hH hE=>by
 rw [yM ho];have h1:=zD hg hE x;rw [zy hx] at h1;obtain ⟨hj,e1⟩:=za3 h1;obtain ⟨es,c,rfl,hk⟩:=hf;have hb:H (φ j).blk=some (true,.map es c):=hH.obj j _ (hA.get hm);simp only [builtin,List.map_toArray,List.map_cons,List.map_nil,e1];refine wpS_v ?_;show wpS _ (underlying t >>= _) H _;refine ze _ _ _ (zG ht ?_);refine ze _ _ _ ?_;refine ⟨true,_,hb,rfl,rfl,?_⟩;have hl:es.size=ks.length:=by have:=congrArg List.length hk; simpa using this
 show zX _ _ _ _ _ (.value (goInt es.size)) H;rw [hl];exact zX.quiet hH (.v _)
end
end Go.Vel
namespace Go.Vel
open Go Go.Conc
section
variable {P:Program} {gm:Nat->Option Nat} {env:List AV} {A A':List AObj} {o:Oper} {V:KV}
theorem zjR {d:Operand} {t e:TypeId} {ti:TypeInfo} {z:Value} {i off m:Nat} (ho:o.op=.call { callee:=.builtin .clear,args:=#[d],argTypes:=#[t] }) (ht:P.underlying t=some (.slice e)) (hi:P.info? e=some ti) (hz:ti.zero=some z) (hzc:z.cells=#[.int .i64 0]) (hd:zL gm env d=.sl i off m) (hm:0<m) (hs:storeA A i off (mB m (.v (.int .i64 0)))=some A') :
  OpOk P gm env A o (.tup []) A':=fun φ F H a hg hH hE=>by
 rw [yM ho];have hd':=zD hg hE d;rw [hd] at hd';obtain ⟨hil,cap,b,hlc,hb,ed⟩:=zay hd';simp only [builtin,List.map_toArray,List.map_cons,List.map_nil];refine wpS_v ?_;rw [ed,hb hm];obtain ⟨m',rfl⟩:∃ m',m=m'+1:=⟨m - 1,oQ⟩;unfold Builtin.clear_;dsimp only;show wpS P (underlying t >>= _) H _;refine ze _ _ _ (zG ht ?_);refine ze _ _ _ (kj hi hz ?_);have hzz:(Builtin.zeroCells z.cells (m'+1)).toList=(Array.replicate (m'+1) (Value.int .i64 0)).toList:=by
  rw [hzc];unfold Builtin.zeroCells;apply List.ext_getElem
  ·simp
  ·intro i h1 h2;simp [Nat.mod_one]
 rw [hzz];refine ze _ _ _ (zaT hH hs (ys:=Array.replicate (m'+1) (Value.int .i64 0)) ?_ fun H' hH' hlen=>?_)
 ·have:=za6 φ A.length (Array.replicate (m'+1) (Value.int .i64 0));simpa using this
 ·exact ⟨_,φ,.inl rfl,Agr.refl _ _,oQ,hH',.tup rfl fun j a y ha=>by simp at ha⟩
theorem zlv {d:Operand} {t e:TypeId} {i off m:Nat} {ob ob':AObj} (ho:o.op=.call { callee:=.builtin .clear,args:=#[d],argTypes:=#[t] }) (ha:apOf P t=some (e,1,8)) (hz:tyZero P e=some [.int .i64 0]) (hd:zo gm env d=some (.sl i off m)) (hm:0<m) (hi:(i,ob)∈V) (hs:putO ob off (mB m (.v (.int .i64 0)))=some ob') :
  ∀ A,zQ V A->OpOk P gm env A o (.tup []) (A.set i ob'):=fun A hA=>by
 unfold apOf at ha;split at ha
 ·rename_i e' h1;split at ha
  ·rename_i ti h2;split at ha
   ·rename_i z h3;split at ha
    ·rename_i h4;simp only [Option.some.injEq,Prod.mk.injEq] at ha;obtain ⟨rfl,h5,h6⟩:=ha;obtain ⟨i',z',g1,g2,g3⟩:=wC hz;rw [h2] at g1;cases g1;rw [h3] at g2;cases g2;exact zjR ho h1 h2 h3 (by rw [<- Array.toList_inj,g3]) (zy hd) hm (zaN (hA.get hi) hs)
    ·cases ha
   ·cases ha
  ·cases ha
 ·cases ha
end
theorem zgb {xs:List Int} {k:Nat} {n v:Int} {e:TypeId} {s:Nat} (h:k<xs.length) (hn:n=(k:Int)):putO (.row (xs.map intA) e s) (n.toNat*1) [intA v]=some (.row ((xs.set k v).map intA) e s):=by
 subst hn;unfold putO;dsimp only;rw [if_pos ⟨by simp; omega,by simp,rfl⟩,zeX _ _ _ (by simp; omega),List.map_set];simp
theorem zeY (c:AV):∀ (m:Nat) (l:List AV) (k:Nat),k+m=l.length->setL l k (mB m c)=l.take k++mB m c
 | 0,l,k,h=>by simp [setL,List.take_of_length_le (by omega:l.length<=k)]
 | m+1,l,k,h=>by
  rw [List.replicate_succ];show setL (l.set k c) (k+1) (mB m c)=_;rw [zeY c m (l.set k c) (k+1) (by rw [List.length_set]; omega),List.take_add_one,List.getElem?_set_self oQ,List.take_set_of_le (mL _)];simp
theorem zj1 {xs:List Int} {k m:Nat} {e:TypeId} {s:Nat} (h:k+m=xs.length) (hm:0<m):putO (.row (xs.map intA) e s) k (mB m (.v (.int .i64 0)))=some (.row ((xs.take k++mB m 0).map intA) e s):=by
 unfold putO;dsimp only;rw [if_pos ⟨by simp; omega,by simpa using hm,by simp [oneA,oneCell]⟩,zeY _ _ _ _ (by simpa using h),lM,List.map_take,List.map_replicate]
def compN (xs:List Int):Nat->List Int
 | 0=>[]
 | 1=>xs.take 1
 | p+2=>compN xs (p+1)++(if zK xs p=zK xs (p+1) then [] else [zK xs (p+1)])
def compM (xs:List Int):List Int:=compN xs xs.length
theorem zcY (xs:List Int):∀ p,p<=xs.length->(compN xs p).length<=p
 | 0,_=>by simp [compN]
 | 1,_=>by simp [compN]; omega
 | p+2,h=>by
  have:=zcY xs (p+1) oQ;unfold compN;rw [lF];split <;> simp <;> omega
theorem uM {xs:List Int} {p:Nat} (h:zK xs p=zK xs (p+1)):compN xs (p+2)=compN xs (p+1):=by
 conv=>lhs; unfold compN
 rw [if_pos h,lR]
theorem uN {xs:List Int} {p:Nat} (h:zK xs p≠zK xs (p+1)):compN xs (p+2)=compN xs (p+1)++[zK xs (p+1)]:=by
 conv=>lhs; unfold compN
 rw [if_neg h]
theorem zkf {s t:List Int} (h:s.length=t.length) (h5:s.length<=5) (he:eqSt s t=true):s=t:=by
 simp only [eqSt,mX,beq_iff_eq] at he;obtain ⟨e0,e1,e2,e3,e4⟩:=he;refine List.ext_getElem h fun i h1 h2=>?_;have g:∀ (l:List Int) (h:i<l.length),l.getD i 0=l[i]:=fun l h=>by rw [lE,lA h]; rfl
 have:i=0\/i=1\/i=2\/i=3\/i=4:=by omega
 rw [<- g s h1,<- g t h2];rcases this with rfl | rfl | rfl | rfl | rfl <;> assumption
theorem zbx {b:RBk}:∀ (r:List RBand) (p s:List Int),s∈fromM b p r->s.take p.length=p/\s.length=p.length+r.length
 | [],p,s,h=>by
  unfold fromM at h;split at h
  ·rw [lS.1 h]; simp
  ·cases h
 | x::r,p,s,h=>by
  unfold fromM at h;obtain ⟨n,hn,hs⟩:=List.mem_flatMap.1 h;obtain ⟨h1,h2⟩:=zbx r (p++[n]) s hs;rw [lF,List.length_singleton] at h1 h2;refine ⟨?_,by rw [h2,List.length_cons]; omega⟩;have:=congrArg (List.take p.length) h1;rw [List.take_take,List.take_append_of_le_length (mL _),List.take_length,Nat.min_eq_left oQ] at this;exact this
theorem zbl:∀ (k:Nat) (n:Int),(numsF n k).Nodup
 | 0,_=>.nil
 | k+1,n=>by
  unfold numsF;refine List.nodup_cons.2 ⟨fun h=>?_,zbl k _⟩;rw [vp] at h;omega
theorem zbY {b:RBk}:∀ (r:List RBand) (p:List Int),(fromM b p r).Nodup
 | [],p=>by unfold fromM; split <;> simp
 | x::r,p=>by
  unfold fromM;show List.Pairwise (· ≠ ·) _;rw [List.pairwise_flatMap];refine ⟨fun n _=>zbY r _,?_⟩;have:=zbl (x.high+1 - x.low).toNat x.low;unfold numsM;refine List.Pairwise.imp (fun {a c} hne s hs1 s2 hs2 he=>?_) this;subst he;have e1:=(zbx r _ s hs1).1;have e2:=(zbx r _ s hs2).1;rw [lF,List.length_singleton] at e1 e2;have:=e1.symm.trans e2;simp at this;exact hne this
theorem zfa (b:RBk):(zj b).Nodup:=zbY _ _
theorem zhV {b:RBk} (hb:ROk b) {pre:List (List Int)} {S:List Int} (h:pre++[S] <+: zj b):∀ k∈pre,eqSt S k=false:=fun k hk=>by
 have hnd:(pre++[S]).Nodup:=(zfa b).sublist h.sublist;have hS:S∈zj b:=h.subset sQ;have hk2:k∈zj b:=h.subset (by simp [hk]);have l1:=(y8 hb hS).1.len;have l2:=(y8 hb hk2).1.len;cases he:eqSt S k with
 | false=>rfl
 | true =>
  have:=zkf oQ (by have:=hb.sms.len; omega) he;subst this;rw [List.nodup_append] at hnd;exact absurd rfl (hnd.2.2 S hk S sQ)
end Go.Vel
namespace Go.Vel
open Go Go.Conc Go.Proofs
def cntM (all:List (List Int)) (n:Nat) (v:Int):Nat:=(all.filter fun s=>decide (zK s n=v)).length
def mostL (all:List (List Int)) (n:Nat):Nat->Int
 | 0=>0
 | k+1=>max (mostL all n k) (cntM (all.take (k+1)) n (zK (all.getD k []) n))
def askL (b:RBk) (all:List (List Int)):Nat->Int×Int
 | 0=>(-1,all.length)
 | n+1=>if mostL all n all.length<(askL b all n).2 then (n,mostL all n all.length) else askL b all n
def askM (b:RBk) (all:List (List Int)):Int×Int:=askL b all b.seams.length
theorem zjb {all:List (List Int)} {k:Nat} {st:List Int} (h:all[k]? =some st) (n:Nat) (v:Int):((cntM (all.take (k+1)) n v:Nat):Int)=if v=zK st n then ((cntM (all.take k) n (zK st n):Nat):Int)+1 else ((cntM (all.take k) n v:Nat):Int):=by
 unfold cntM;rw [yC h,List.filter_append,lF];by_cases e:v=zK st n
 ·subst e;rw [if_pos rfl]; simp
 ·rw [if_neg e];have:¬ zK st n=v:=fun h=>e h.symm;simp [this]
theorem zlR (all:List (List Int)) (n:Nat) (v:Int):cntM all n v<=all.length:=List.length_filter_le _ _
theorem zbj {ob:Obj} {f g:Int->Int} (h:MapOk ob f) (e:∀ n,f n=g n):MapOk ob g:=by
 have:f=g:=funext e;rwa [this] at h
theorem zla {all:List (List Int)} {n k:Nat} {st:List Int} (h:all[k]? =some st):mostL all n (k+1)=max (mostL all n k) (cntM (all.take (k+1)) n (zK st n)):=by
 have:all.getD k []=st:=by rw [lE,h]; rfl
 conv=>lhs; unfold mostL
 rw [this]
instance:InfO tp 3 Tryz.t3:={}
instance:zd tp 133 false 1:={}
instance:TyZA tp 133 [.v (.map none)]:={}
instance:Und tp 133 (.map 130 4):={}
instance:Und tp 156 (.map 3 3):={}
theorem zaM {main:Bool} {T:Goroutine->Hp->Prop} (hT:zm tp main T)  {b:RBk} {s h e:Nat} (hl:b.seams.length<=100) (hm:b.measures.length<=100) :
  zq tp T gmR 20 [.agg (zA b s h e)] [(0,zx),(s,zk b),(h,zC b),(e,zr b)] (fun r K'=>r=.tup [intA (if zu b=0 then (zj b).length else 0),intA (zu b)]/\K'=[(0,zx),(s,zk b),(h,zC b),(e,zr b)]):=by
 refine vm 24 hT Tryz.func20 fun Y hro hret=>?_;refine au 21042 ?_;intro jb hjb;refine au 68042355 ?_;refine bD Z Z Z Z (uX hT (Kx:=[]) hl hm) ?_;rintro r1 K2 h3;rcases h3 with ⟨⟨hbar,rfl⟩ | ⟨hbar,rfl⟩,rfl⟩
 ·refine au 220661 ?_;intro j4 hj4;refine au 937142235170 ?_;constructor<;>intro hc0
  ·exact absurd hc0 sQ
  have hbb:=zY hbar;refine au 42120 ?_;refine TK.newM Z Z Z (zdf Z) (fun _=>zn rfl tQ) fun jm hjm=>?_;refine au 220 ?_;intro j6 hj6;refine au 13033206804223170 ?_;refine bC [(j6,_),(jm,_),(j4,_),(jb,_),(0,_),(s,_),(h,_),(e,_)] ?_;refine TK.rangeStates hT hbb (s:=s) (h:=h) (e:=e) (J:=fun pre K1=>∃ ob,MapS ob pre/\K1=[(j6,.cells [.map jm] 133 true),(jm,.raw ob),(j4,.cells (zA b s h e) 117 true),(jb,.cells (zA b s h e) 26 true),(0,zx)]) (D:=fun _ _=>False) rfl hro rfl (by repeat (first | exact Split.none _ | exact Split.all _ | (apply Split.rem; repeat (first | exact Rem.head | apply Rem.tail)) | apply Split.right)) ⟨_,zjF,rfl⟩ (fun Y' l lo lb pre S K1 hbegin hfin hout hpre hJ=>?_) (fun d K2 hJ=>?_) (fun d c K2 hD=>?_)
  ·obtain ⟨ob,hob,rfl⟩:=hJ;have hnew:=zhV hbb hpre;refine au 2204 ?_;intro j7 hj7;refine au 3170 ?_;refine hbegin _ _ _ _ _ uQ ?_;refine au 6806904130 ?_;refine TK.st Z Z Z (zeR keyOk Z Z Z Und.h mQ hob hnew) uQ (putN Z) ?_;refine au 1403 ?_;exact hfin _ _ [(j6,_),(jm,_),(j4,_),(jb,_),(0,_)] _ (by repeat (first | exact Split.none _ | exact Split.all _ | (apply Split.rem; repeat (first | exact Rem.head | apply Rem.tail)) | apply Split.right)) ⟨_,zk9 hob,rfl⟩
  ·obtain ⟨ob,hob,rfl⟩:=hJ;simp only [cA];refine au 69042140 ?_;refine bH Z (zih Z Z Und.h mQ hob) ?_;refine au 355 ?_;refine TK.leave (.ret _) fun A hA=>hret _ _ _ _ ([(0,_),(s,_),(h,_),(e,_)]) ([(0,_),(s,_),(h,_),(e,_)]) _ _ _ (.inr rfl) (by repeat (first | exact Split.none _ | exact Split.all _ | (apply Split.rem; repeat (first | exact Rem.head | apply Rem.tail)) | apply Split.right)) sQ sQ (by repeat (first | exact Split.none _ | exact Split.all _ | (apply Split.rem; repeat (first | exact Rem.head | apply Rem.tail)) | apply Split.right)) (ve (.cons (zV Z) (.cons (zV Z) ResKs.nil)) rfl) ?_ A hA;exact ⟨by rw [hbar,if_pos rfl],rfl⟩
  ·exact hD.elim
 ·refine au 220661 ?_;intro j4 hj4;refine au 937142235170 ?_;constructor<;>intro hc0
  ·
   refine au 355142 ?_;refine TK.leave (.ret _) fun A hA=>hret _ _ _ _ ([(0,_),(s,_),(h,_),(e,_)]) ([(0,_),(s,_),(h,_),(e,_)]) _ _ _ (.inr rfl) (by repeat (first | exact Split.none _ | exact Split.all _ | (apply Split.rem; repeat (first | exact Rem.head | apply Rem.tail)) | apply Split.right)) sQ sQ (by repeat (first | exact Split.none _ | exact Split.all _ | (apply Split.rem; repeat (first | exact Rem.head | apply Rem.tail)) | apply Split.right)) (ve (.cons (zV Z) (.cons (zV Z) ResKs.nil)) rfl) ?_ A hA;exact ⟨by rw [if_neg hbar],rfl⟩
  exact absurd hbar (by simpa using hc0)
theorem zlO {main:Bool} {T:Goroutine->Hp->Prop} (hT:zm tp main T)  {b:RBk} {s h e:Nat} (hl:b.seams.length<=100) (hm:b.measures.length<=100) :
  zq tp T gmR 32 [.agg (zA b s h e)] [(0,zx),(s,zk b),(h,zC b),(e,zr b)] (fun r K'=>(zu b≠0/\r=.tup [intA 0,intA 0,intA (zu b)]/\K'=[(0,zx),(s,zk b),(h,zC b),(e,zr b)])\/(zu b=0/\zj b=[]/\r=.tup [intA 0,intA 0,intA 9]/\K'=[(0,zx),(s,zk b),(h,zC b),(e,zr b)])\/(zu b=0/\zj b≠[]/\r=.tup [intA (askM b (zj b)).1,intA (askM b (zj b)).2,intA 0]/\K'=[(0,zx),(s,zk b),(h,zC b),(e,zr b)])):=by
 refine zl 58 hT Tryz.func32 fun Y hret=>?_;refine au 21042 ?_;intro jb hjb;refine au 680423555 ?_;refine bD Z Z Z Z (wK hT (Kx:=[]) hl hm) ?_;rintro r1 K2 h3;rcases h3 with ⟨hbar,rfl,rfl⟩ | ⟨hbar,hnil,rfl,rfl⟩ | ⟨hbar,hne,a,rfl,rfl⟩
 ·refine au 220661 ?_;intro j5 hj5;refine au 937142235170 ?_;constructor<;>intro hc0
  ·
   refine au 3555142 ?_;refine bB hret [(0,_),(s,_),(h,_),(e,_)] ?_;exact .inl ⟨hbar,rfl,rfl⟩
  exact absurd hbar (by simpa using hc0)
 ·refine au 220661 ?_;intro j5 hj5;refine au 937142235170 ?_;constructor<;>intro hc0
  ·
   refine au 3555142 ?_;refine bB hret [(0,_),(s,_),(h,_),(e,_)] ?_;exact .inr (.inl ⟨hbar,hnil,rfl,rfl⟩)
  exact absurd hc0 dQ
 ·refine au 220661 ?_;intro j5 hj5;refine au 937142235170 ?_;constructor<;>intro hc0
  ·exact absurd hc0 sQ
  have hbb:=zY hbar;have hlen:=kE hbb;have hpos:0<(zj b).length:=List.length_pos_iff.2 hne;have hall:okAll b (zj b):=fun st hst=>(y8 hbb hst).1;have hs5:=hbb.sms.len;refine au 2120 ?_;refine bL [0,1,2,3,4] ?_;refine ad [[3,5],[10,19]] ?_;refine TD.z [20] Z (q_len Z Z Z Und.h) ?_;refine TD.as (pend':=[⟨2,[20],[]⟩,⟨1,[19],[(_,_)]⟩,⟨0,[5],[]⟩]) [] Z Z (zw Z Z) ?_;refine ad [[13,21],[14]] ?_;refine au 13031280690670422 ?_;refine bA [1,2,3,4,5,23,24,25] ?_;refine bC [(a,_),(0,_),(s,_),(h,_),(e,_),(j5,_),(jb,_)] ?_;refine bE (fun n env K=>∃ (i:Nat),n=b.seams.length - i/\i<=b.seams.length/\env=.any::.ptr jb 0::intA (askL b (zj b) i).1::intA (askL b (zj b) i).2::intA 0::.ptr j5 0::naL 17 (.sl s 0 b.seams.length::intA b.seams.length::intA i::naL 32 [])/\K=[(a,allO (zj b)),(0,zx),(s,zk b),(h,zC b),(e,zr b),(j5,.cells (knownC b s h e a (zj b).length) 137 true),(jb,.cells (zA b s h e) 26 true)]) b.seams.length ⟨0,rfl,mN _,rfl,rfl⟩ fun n env K hI hnext=>?_;obtain ⟨i,rfl,hi,rfl,rfl⟩:=hI;refine bG nQ ?_;refine au 923742 ?_;constructor<;>intro hc1
  ·have hil:i<b.seams.length:=by simp at hc1; omega
   refine au 42351421302120 ?_;refine TK.newM Z Z Z (zdf Z) (fun _=>zn rfl tQ) fun jm hjm=>?_;refine au 13031280690670422354235 ?_;refine bA [1,2,3,4,5,6,7,8,23,24,25,30,31,32] ?_;refine bE (fun n env K=>∃ (q:Nat) (om:Obj),n=(zj b).length - q/\q<=(zj b).length/\MapOk om (fun v=>(cntM ((zj b).take q) i v:Int))/\env=.any::.ptr jb 0::intA (askL b (zj b) i).1::intA (askL b (zj b) i).2::intA 0::.ptr j5 0::intA i::.map jm::intA (mostL (zj b) i q)::naL 14 (.sl s 0 b.seams.length::intA b.seams.length::intA i::naL 4 (.sl a 0 (zj b).length::intA (zj b).length::intA q::naL 25 []))/\K=[(jm,.raw om),(a,allO (zj b)),(0,zx),(s,zk b),(h,zC b),(e,zr b),(j5,.cells (knownC b s h e a (zj b).length) 137 true),(jb,.cells (zA b s h e) 26 true)]) (zj b).length ⟨0,_,rfl,mN _,zbj zhQ (fun v=>rfl),rfl,rfl⟩ fun n env K hI hnext1=>?_;obtain ⟨q,om,rfl,hq,hom,rfl,rfl⟩:=hI;refine bG nQ ?_;refine au 923742 ?_;constructor<;>intro hc2
   ·have hql:q<(zj b).length:=by simp at hc2; omega
    obtain ⟨st,hst⟩:∃ st,(zj b)[q]? =some st:=⟨_,lA hql⟩;have hcl:cntM ((zj b).take q) i (zK st i)<=243:=by have:=zlR ((zj b).take q) i (zK st i); rw [List.length_take] at this; omega
    have hom2:MapOk (upM om (zK st i) ((cntM ((zj b).take q) i (zK st i):Int)+1)) (fun v=>(cntM ((zj b).take (q+1)) i v:Int)):=zbj (zm4 hom) (fun v=>(zjb hst i v).symm);refine au 360421302120 ?_;refine bH Z (zI Z Z zd.h mQ (zbO (i:=q) hst Z)) ?_;refine au 220 ?_;intro j10 hj10;refine au 11423170 ?_;refine bH Z (kS Z Z Z ArEl.h oQ oQ) ?_;refine bH Z (zg Z Z zd.h mQ (st_at (i:=i) oQ Z)) ?_;refine bH Z (zeM Z Z Z Und.h Und.h InfO.h Z mQ hom) ?_;refine bH Z (q_add Z Z Z (by show -9223372036854775808<=((cntM ((zj b).take q) i (zK st i):Nat):Int)+1/\((cntM ((zj b).take q) i (zK st i):Nat):Int)+1<9223372036854775808; omega)) ?_;refine TK.st Z Z Z (zfz Z Z Z Z Und.h Und.h mQ hom) uQ (putN Z) ?_;refine au 11143 ?_;refine bH Z (kS Z Z Z ArEl.h oQ oQ) ?_;refine bH Z (zg Z Z zd.h mQ (st_at (i:=i) oQ Z)) ?_;refine bH Z (zeM Z Z Z Und.h Und.h InfO.h Z mQ hom2) ?_;refine bH Z (zaH Z Z Z) ?_;refine au 31230414035 ?_;refine bA [1,2,3,4,5,6,7,8,23,24,25,30,31,32] ?_;refine bC [(jm,_),(a,_),(0,_),(s,_),(h,_),(e,_),(j5,_),(jb,_)] ?_;exact hnext1 _ _ _ oQ ⟨q+1,_,rfl,oQ,hom2,by rw [zla hst]; rfl,rfl⟩
   obtain rfl:q=(zj b).length:=by simp at hc2; omega
   refine au 9371142160 ?_;constructor<;>intro hc3
   ·refine au 312304140355114 ?_;refine bA [1,2,3,4,5,23,24,25] ?_;refine bC [(a,_),(0,_),(s,_),(h,_),(e,_),(j5,_),(jb,_)] ?_;exact hnext _ _ _ oQ ⟨i+1,rfl,oQ,by rw [show askL b (zj b) (i+1)=(((i:Nat):Int),mostL (zj b) i (zj b).length) from if_pos (of_decide_eq_true hc3)]; rfl,rfl⟩
   refine au 312304140120 ?_;refine bA [1,2,3,4,5,23,24,25] ?_;refine bC [(a,_),(0,_),(s,_),(h,_),(e,_),(j5,_),(jb,_)] ?_;exact hnext _ _ _ oQ ⟨i+1,rfl,oQ,by rw [show askL b (zj b) (i+1)=askL b (zj b) i from if_neg (of_decide_eq_false hc3)]; rfl,rfl⟩
  obtain rfl:i=b.seams.length:=by simp at hc1; omega
  refine au 35551142160 ?_;refine bB hret [(0,_),(s,_),(h,_),(e,_)] ?_;exact .inr (.inr ⟨hbar,hne,rfl,rfl⟩)
theorem zk4 {main T} (hT:zm tp main T) {gm} {x y:Int} :
  zq tp T gm 134 [intA x,intA y] [] (fun r K'=>r=zF (decide (x<y))/\K'=[]):=by
 refine zl 17 hT Tryz.func134 fun Y hret=>?_;refine au 1423542 ?_;refine TK.clE Z Z Z Z (zbA hT) ?_;refine au 1 ?_;refine TK.sp 7 (fun g1_3=>?_) (fun g1_3=>?_)
 ·cases g1_3
 refine au 352507111250888 ?_;refine TK.rta hret ?_;exact ⟨rfl,rfl⟩
section
variable {P:Program} {gm:Nat->Option Nat} {T:Goroutine->Hp->Prop} {Y:KX P gm T} {ds:List Nat} {k:List Item} {env env':List AV} {K:KV}
theorem TK.asSl (d:Nat) {j n:Nat} {l:List AV} {e:TypeId} {s:Nat} (hd:env[d]? =some (.row j n)) (hm:(j,.row l e s)∈K) (h:TK Y ds k (env.set d (.sl j 0 n)) K):TK Y ds k env K:=fun A hA φ H ts h1 h2 h3 h4 h5 h6=>by
 have hj:=hA.view.get hm;have hb:(φ j).base=0:=(h5.obj j _ hj).2.1;have hr:∀ y,RelV φ A.length (.row j n) y->RelV φ A.length (.sl j 0 n) y:=fun y hy=>by
  have:=um (j:=j) hb hy;simpa [unrow] using this
 exact h _ hA φ H ts h1 h2 h3 h4 h5 (by simpa using h6.set' hd hr)
end
theorem zeJ {xs:List Int} {k:Nat} {n v:Int} {e:TypeId} {s:Nat} (h:k<xs.length) (hn:n=(k:Int)):putO (.row (xs.map intA) e s) (0+n.toNat*1) [intA v]=some (.row ((xs.set k v).map intA) e s):=by
 rw [Nat.zero_add];exact zgb h hn
def ltI (x y:Int):Bool:=decide (x<y)
theorem zaq {xs:List Int}:∀ p,p<=xs.length->(compN xs p).length=p->compN xs p=xs.take p
 | 0,_,_=>by simp [compN]
 | 1,_,_=>by simp [compN]
 | p+2,h,hl=>by
  have h1:=zcY xs (p+1) oQ;by_cases e:zK xs p=zK xs (p+1)
  ·rw [uM e] at hl; omega
  ·rw [uN e] at hl ⊢;rw [lF,List.length_singleton] at hl;rw [zaq (p+1) oQ oQ];exact (yC (z7 oQ)).symm
theorem zap {xs:List Int} {w i:Nat} {C:List Int} (hC:C.length=w) (h:w<=i) (hi:i<xs.length):(C++xs.drop w)[i]? =some (zK xs i):=by
 rw [List.getElem?_append_right oQ,List.getElem?_drop,hC,show w+(i - w)=i by omega];exact z7 hi
theorem zjc {xs C:List Int} {w:Nat} {v:Int} (hC:C.length=w) (h:w<xs.length):(C++xs.drop w).set w v=(C++[v])++xs.drop (w+1):=by
 rw [List.set_append_right _ _ oQ,hC,Nat.sub_self,zN (z7 h),List.set_cons_zero,List.append_assoc];rfl
theorem zie {xs C:List Int} {k m off:Nat} {e:TypeId} {s:Nat} (hC:C.length=k) (ho:off=k) (h:k+m=(C++xs.drop k).length) (hm:0<m):putO (.row ((C++xs.drop k).map intA) e s) off (mB m (.v (.int .i64 0)))=some (.row ((C++mB m 0).map intA) e s):=by
 subst ho;rw [zj1 h hm,List.take_left' hC]
theorem zhL {main T} (hT:zm tp main T) {gm} {j n:Nat} {xs:List Int} (hn:xs.length=n) (h12:1<=n/\n<=12) :
  zq tp T gm 128 [.row j n,intA 0,intA n] [(j,.row (xs.map intA) 3 1)] (fun r K'=>K'=[(j,.row ((sortR ltI xs).map intA) 3 1)]):=by
 refine zl 49 hT Tryz.func128 fun Y hret=>?_;refine au 0 ?_;refine TK.asSl 0 Z (mC _) ?_;refine au 13035230142 ?_;refine bA [0,1,2,6] ?_;refine bE (fun n1 env K=>∃ (i:Nat),n1=n - i/\1<=i/\i<=n/\env=.sl j 0 n::intA 0::intA n::naL 3 (intA i::naL 42 [])/\K=[(j,.row ((sortN ltI xs i++xs.drop i).map intA) 3 1)]) (n - 1) ⟨1,rfl,mL _,h12.1,rfl,by rw [ze7 oQ]⟩ fun n1 env K hI hnext=>?_;obtain ⟨i,rfl,hi1,hi,rfl,rfl⟩:=hI;refine bG nQ ?_;refine au 93711422 ?_;constructor<;>intro hc0
 ·have hil:i<n:=by simp at hc0; omega
  obtain ⟨x,hx⟩:∃ x,xs[i]? =some x:=⟨_,lA oQ⟩;have hSl:=vy (lt:=ltI) xs i oQ;have hTl:(xs.drop (i+1)).length=n - (i+1):=by simp; omega
  refine au 130351421302120 ?_;refine bA [0,1,2,6,7] ?_;refine bE (fun n1 env K=>∃ (p:Nat),n1=p/\p<=i/\insJ ltI x (sortN ltI xs i) p=insJ ltI x (sortN ltI xs i) (sortN ltI xs i).length/\env=.sl j 0 n::intA 0::intA n::naL 3 (intA i::intA p::naL 41 [])/\K=[(j,.row ((dataM (sortN ltI xs i) (xs.drop (i+1)) x p).map intA) 3 1)]) i ⟨i,rfl,mL _,by rw [hSl],rfl,by have:=zdW (sortN ltI xs i) (xs.drop (i+1)) x; rw [hSl] at this; rw [this,<- zN hx]⟩ fun n1 env K hI hnext1=>?_;obtain ⟨p,hnp,hp,hins,rfl,rfl⟩:=hI;subst n1;have hdl:=zdV (S:=sortN ltI xs i) (T:=xs.drop (i+1)) (x:=x) (j:=p);refine bG nQ ?_;refine au 22 ?_;refine bL [0,1,2,3,4,5,6,7,8,9,10,11,12,13,14] ?_;refine ad [[1,7],[1,1],[4,16,17],[1,18]] ?_;refine TD.sp 19 (fun g4_4=>?_) (fun g4_4=>?_)
  ·have hp0:0<p:=by simp at g4_4; omega
   obtain ⟨q,rfl⟩:∃ q,p=q+1:=⟨p - 1,oQ⟩;obtain ⟨y,hy⟩:∃ y,(sortN ltI xs i)[q]? =some y:=⟨_,lA oQ⟩;refine ad [[1,0,19],[1,7,19],[2,19,20,21]] ?_;refine bT [19,22] Z (hq:=zg Z Z zd.h (mC _) (kV (i:=q+1) (zaW oQ) oQ)) (h:=?_);refine ad [[1,0,19],[1,7,19],[9,19,25],[2,19,24,26]] ?_;refine bT [19,27] Z (hq:=zg Z Z zd.h (mC _) (kV (i:=q) ((v8 oQ).trans hy) oQ)) (h:=?_);refine bQ (pend':=[⟨11,[19,24,26],[]⟩,⟨10,[19,25],[]⟩,⟨9,[7,19],[]⟩,⟨8,[0,19],[]⟩,⟨6,[19,20,21],[]⟩,⟨5,[7,19],[]⟩,⟨4,[0,19],[]⟩,⟨2,[16,17],[]⟩,⟨1,[1],[]⟩,⟨0,[7],[]⟩]) [19,23,28] Z Z Z Z Z (zk4 hT) (fun r1 K2 h3=>⟨?_,?_⟩)
   ·rcases h3 with ⟨rfl,rfl⟩
    all_goals simp
   obtain ⟨rfl,rfl⟩:=h3;try simp only [cA]
   refine bS tQ ?_;refine ad [[7,19,29],[14]] ?_;refine au 9 ?_;constructor<;>intro hc1
   ·have hsw:=zc1 (T:=xs.drop (i+1)) (x:=x) hy;refine au 1302120 ?_;refine bL [0,1,5,6,7,8,9,10,11,12,13,14,15,2,3,4,16,17] ?_;refine ad [[1,0],[1,7],[1,0],[1,7],[9,36],[1,0],[1,7],[9,39],[2,38,40]] ?_;refine bT [41] Z (hq:=zg Z Z zd.h (mC _) (kV (i:=q) ((v8 oQ).trans hy) oQ)) (h:=?_);refine ad [[1,0],[1,7],[2,43,44]] ?_;refine bT [45] Z (hq:=zg Z Z zd.h (mC _) (kV (i:=q+1) (zaW oQ) oQ)) (h:=?_);refine ad [[2,33,34]] ?_;refine bR (pend':=[⟨12,[43,44],[]⟩,⟨11,[7],[]⟩,⟨10,[0],[]⟩,⟨4,[36],[]⟩,⟨3,[7],[]⟩,⟨2,[0],[]⟩]) [42,47] Z Z (zB Z Z zd.h Z Z mQ (zeJ (k:=q+1) oQ Z)) ?_;refine ad [[2,35,37]] ?_;refine bR (pend':=[]) [46,48] Z Z (zB Z Z zd.h Z Z mQ (zeJ (k:=q) (by rw [List.length_set]; omega) oQ)) ?_;refine ad [[14]] ?_;refine au 3524014140 ?_;refine bA [0,1,2,6,7] ?_;refine bC [(j,_)] ?_;exact hnext1 _ _ _ oQ ⟨q,rfl,oQ,by rw [<- hins,zfW hy hc1],by rw [show ((q+1:Nat):Int) - 1=(q:Int) by omega]; rfl,by rw [hsw]⟩
   have hstop:=v9 (lt:=ltI) (x:=x) (S:=sortN ltI xs i) (T:=xs.drop (i+1)) (j:=q+1) oQ (fun i1 y1 h1 h2=>by obtain rfl:q=i1:=oQ; rw [hy] at h2; cases h2; exact hc1);rw [hins] at hstop;refine au 3523014140160 ?_;refine bA [0,1,2,6] ?_;refine bC [(j,_)] ?_;exact hnext _ _ _ oQ ⟨i+1,rfl,oQ,oQ,rfl,by rw [kW hx,<- hstop]⟩
  obtain rfl:p=0:=by simp at g4_4; omega
  have hstop:=v9 (lt:=ltI) (x:=x) (S:=sortN ltI xs i) (T:=xs.drop (i+1)) (j:=0) (mN _) (fun i y h=>by omega);rw [hins] at hstop;refine ad [[11,0,19],[11,7,19],[11,19,20,21],[11,19,22],[11,0,19],[11,7,19],[11,19,25],[11,19,24,26],[11,19,27],[11,19,23,28],[6,19,29],[14]] ?_;refine au 3523014140160190 ?_;refine bA [0,1,2,6] ?_;refine bC [(j,_)] ?_;exact hnext _ _ _ oQ ⟨i+1,rfl,oQ,oQ,rfl,by rw [kW hx,<- hstop]⟩
 obtain rfl:i=n:=by simp at hc0; omega
 have hfin:[(j,AObj.row ((sortN ltI xs i++xs.drop i).map intA) 3 1)]=[(j,.row ((sortN ltI xs xs.length).map intA) 3 1)]:=by rw [hn,List.drop_eq_nil_of_le oQ,lR]
 refine au 160 ?_;refine TK.rt0 hret [(j,_)] ?_;rw [show sortR ltI xs=sortN ltI xs xs.length from rfl];exact hfin
theorem zh9 {main T} (hT:zm tp main T) {gm} {lim:Int} {j n:Nat} {xs:List Int} (hn:xs.length=n) (h12:1<=n/\n<=12) :
  zq tp T gm 102 [.row j n,intA 0,intA n,intA lim] [(j,.row (xs.map intA) 3 1)] (fun r K'=>K'=[(j,.row ((sortR ltI xs).map intA) 3 1)]):=by
 refine zl 134 hT Tryz.func102 fun Y hret=>?_;refine au 13035423542 ?_;refine TK.loop ?_;refine au 9371422352401142130 ?_;constructor<;>intro hc0
 ·refine au 11142 ?_;refine bD Z Z Z Z (zhL hT hn h12) ?_;rintro r1 K2 rfl;refine au 3 ?_;refine bB hret [(j,_)] ?_;exact rfl
 simp at hc0; omega
theorem zlB {main T} (hT:zm tp main T) {gm} {j n:Nat} {xs:List Int} (hn:xs.length=n) (h12:1<=n/\n<=12) :
  zq tp T gm 63 [.row j n] [(j,.row (xs.map intA) 3 1)] (fun r K'=>K'=[(j,.row ((sortR ltI xs).map intA) 3 1)]):=by
 refine zl 11 hT Tryz.func63 fun Y hret=>?_;refine au 111435280142 ?_;refine bH Z (yT Z Z Und.h Und.h (zdB (n:=n) oQ)) ?_;refine bD Z Z Z Z (zbS hT (n:=n) oQ) ?_ (hs:=(.none _));rintro r1 K2 ⟨m,rfl,rfl⟩;refine au 0 ?_;refine bD Z Z Z Z (zh9 hT hn h12) ?_;rintro r4 K5 rfl;refine au 3 ?_;refine TK.rt0 hret [(j,_)] ?_;exact rfl
def mv (a:Int):Value:=.int .i64 a
theorem uI3:tp.underlying 3=some (.int .i64):=by kernel_rfl
theorem zjj {P:Program} {d:Nat} {t:TypeId} {l:List (TypeId×Nat)} {xs ys:Array Value} {bs:List Bool} (hl:flatF P t=some l) (h:EqL P xs ys l bs):zJ P (Op.equalIn (d+2) t (.agg xs) (.agg ys))=some (bs.all id):=by
 unfold flatF at hl;split at hl
 ·rename_i fs hu;split at hl
  ·rename_i hc;simp only [mX,List.all_eq_true,mV] at hc;obtain ⟨hall,hst⟩:=hc;show zJ _ (Op.equalIn ((d+1)+1) t _ _)=_;unfold Op.equalIn;refine zE (z5 hu) ?_;dsimp only;refine zE (a:=P) Z ?_;rw [hst];simp only [mU,if_false];refine zE (a:=(if bs.all id=true then none else some false,())) ?_ (by cases bs.all id <;> rfl);rw [<- Array.forIn_toList];refine zfM _ fs.toList (fun f hf v w b hv hw h1 h2 he=>?_) (Option.some.inj hl) h
   have hn:f.name ≠ "_" := by have:=(hall f hf).1; simpa using this
   have hs:=(hall f hf).2;rw [if_pos hn];refine zE (wM hs hv) (zE (wM hs hw) (zE (zcv (d:=d) h1 h2 he) ?_));cases b <;> rfl
  ·cases hl
 ·cases hl
theorem zhO {P:Program} {F:Field->Option Bool×Unit->Sem (ForInStep (Option Bool×Unit))}:∀ (fl:List Field) (bs:List Bool),fl.length=bs.length->(∀ (i:Nat) f b,fl[i]? =some f->bs[i]? =some b->zJ P (F f (none,()))=some (if b=true then .yield (none,()) else .done (some false,())))->zJ P (forIn fl (none,()) F)=some (if bs.all id=true then none else some false,())
 | [],[],_,_=>rfl
 | f::fl,b::bs,hl,h=>by
  rw [List.forIn_cons];refine zE (h 0 f b Z Z) ?_;cases b with
  | false=>rfl
  | true =>
   simp only [if_true];rw [zhO fl bs (by simpa using hl) fun i f b h1 h2=>h (i+1) f b h1 h2];simp
def flatG (P:Program) (t:TypeId):Option (List (TypeId×Nat)):=match P.underlying t with
 | some (.struct fs)=>if fs.toList.all (fun f=>f.name != "_") && !P.stoodInHeld t then some (fs.toList.map fun f=>(f.type,f.offset)) else none
 | _=>none
theorem fSp:flatG tp 217=some [(3,0),(28,1)]:=by kernel_rfl
theorem fRa:flatF tp 28=some [(3,0),(3,1)]:=by kernel_rfl
theorem aggR:zJ tp (isAgg 28)=some true:=by
 have h:(match tp.underlying 28 with | some (.struct _)=>true | _=>false)=true:=by kernel_rfl
 unfold isAgg;cases hu:tp.underlying 28 with
 | none=>rw [hu] at h; cases h
 | some d =>
  rw [hu] at h;cases d <;> first | exact Bool.noConfusion h | exact zE (z5 hu) rfl
theorem zmW {P:Program} {t:TypeId} {i:TypeInfo} (h:P.info? t=some i):zJ P (sizeOf t)=some i.size:=by
 unfold sizeOf typeInfo
 show zJ P ((match P.info? t with | some i=>pure i | none=>stuck "no such type") >>= fun i=>pure i.size)=_
 rw [h]; rfl
theorem iRa:tp.info? 28=some Tryz.t28:=by kernel_rfl
theorem iRas:Tryz.t28.size=2:=by kernel_rfl
theorem szRa:zJ tp (sizeOf 28)=some 2:=by rw [zmW iRa,iRas]
def spV (s:SpR):Value:=.agg #[mv s.far,mv s.high.num,mv s.high.den]
theorem zf7 {x y z:Value}:zJ tp (part 28 #[x,y,z] 1)=some (.agg #[y,z]):=by
 unfold part;refine zE aggR ?_;simp only [if_true];exact zE szRa rfl
theorem eq_ra (a b c d:Int):zJ tp (Op.equalIn (9997+2) 28 (.agg #[mv a,mv b]) (.agg #[mv c,mv d]))=some ((a==c)&&(b==d)):=by
 rw [zjj fRa (EqL.consI uI3 (xs:=#[mv a,mv b]) (ys:=#[mv c,mv d]) (off:=0) rfl rfl (EqL.consI uI3 (off:=1) rfl rfl EqL.nil))];simp
theorem eq_sp (s t:SpR):zJ tp (Op.equal 217 (spV s) (spV t))=some (decide (s=t)):=by
 have hG:=fSp;unfold flatG at hG;split at hG
 ·rename_i fs hu;split at hG
  ·rename_i hc;have hm:=Option.some.inj hG;simp only [mX,List.all_eq_true,mV] at hc;obtain ⟨hall,hst⟩:=hc;have e:decide (s=t)=([s.far==t.far,(s.high.num==t.high.num)&&(s.high.den==t.high.den)]:List Bool).all id:=by
    obtain ⟨f,n,d⟩:=s;obtain ⟨f',n',d'⟩:=t;simp only [SpR.mk.injEq,RatR.mk.injEq,List.all_cons,List.all_nil,id,Bool.and_true];rw [Bool.eq_iff_iff];simp
   rw [e];generalize hbs:([s.far==t.far,(s.high.num==t.high.num)&&(s.high.den==t.high.den)]:List Bool)=bs;show zJ _ (Op.equalIn (9999+1) 217 _ _)=_;unfold Op.equalIn;refine zE (z5 hu) ?_;unfold spV;dsimp only;refine zE (a:=tp) Z ?_;rw [hst];simp only [mU,if_false];refine zE (a:=(if bs.all id=true then none else some false,())) ?_ (by cases bs.all id <;> rfl);rw [<- Array.forIn_toList];have hlen:fs.toList.length=2:=by have:=congrArg List.length hm; simpa using this
   refine zhO fs.toList bs (by rw [hlen,<- hbs]; rfl) fun i f b hf hb=>?_
   have hn:f.name ≠ "_" := by have:=hall f (lN hf); simpa using this
   rw [if_pos hn];have h2:(fs.toList.map fun f=>(f.type,f.offset))[i]? =some (f.type,f.offset):=by rw [List.getElem?_map,hf]; rfl
   rw [hm] at h2;subst hbs
   match i,h2,hb with
   | 0,h2,hb =>
    simp only [List.getElem?_cons_zero,Option.some.injEq,Prod.mk.injEq] at h2 hb;obtain ⟨e1,e2⟩:=h2;rw [<- e1,<- e2,<- hb];refine zE (wM (v:=mv s.far) (by unfold scalT; rw [uI3]) Z) (zE (wM (v:=mv t.far) (by unfold scalT; rw [uI3]) Z) (zE (zcv (d:=9998) (b:=s.far==t.far) (by unfold fitV mv; rw [uI3]) (by unfold fitV mv; rw [uI3]) (by simp [eqV,mv])) ?_));cases s.far==t.far <;> rfl
   | 1,h2,hb =>
    simp only [List.getElem?_cons_succ,List.getElem?_cons_zero,Option.some.injEq,Prod.mk.injEq] at h2 hb;obtain ⟨e1,e2⟩:=h2;rw [<- e1,<- e2,<- hb];refine zE zf7 (zE zf7 (zE (eq_ra _ _ _ _) ?_));cases (s.high.num==t.high.num)&&(s.high.den==t.high.den) <;> rfl
   | i+2,h2,hb=>simp at h2
  ·cases hG
 ·cases hG
def spC (s:SpR):List AV:=[intA s.far,intA s.high.num,intA s.high.den]
theorem zmS {gm:Nat->Option Nat} {V:KV} {env:List AV} {o:Oper} {x y:Operand} {s t:SpR} (ho:o.op=.binOp .eql 217 x y 217) (hx:zo gm env x=some (.agg (spC s))) (hy:zo gm env y=some (.agg (spC t))):Qk tp gm env V o (.v (.bool (decide (s=t)))):=fun A _ =>
 vq ho (by rw [zy hx]; rfl) (by rw [zy hy]; rfl) (uU (.inl rfl) (by kernel_rfl) (zE (eq_sp s t) rfl))
end Go.Vel
end
