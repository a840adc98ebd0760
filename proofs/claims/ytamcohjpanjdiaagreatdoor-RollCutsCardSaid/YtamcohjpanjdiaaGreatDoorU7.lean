/- Texts for the statements of chapter 8: what all of them need, part 8. It holds of every program, tape and world that the statements name, as each theorem says. -/
import Derived.Test.YtamcohjpanjdiaaGreatDoorU5
import Derived.Test.YtamcohjpanjdiaaGreatDoorU6
section
set_option linter.all false
set_option maxRecDepth 20000
set_option maxHeartbeats 60000000
namespace Go.Vel
open Go Go.Conc
theorem xa:∀ (x y:List Int),lexM x y = -lexM y x
 | [],[]=>rfl
 | [],_::_=>rfl
 | _::_,[]=>rfl
 | a::x,b::y=>by
  have:=xa x y
  simp only [lexM]
  by_cases h1:a<b
  ·rw [if_pos h1,if_neg oQ,if_pos h1]
  ·rw [if_neg h1]
   by_cases h2:b<a
   ·rw [if_pos h2,if_pos h2]; rfl
   ·rw [if_neg h2,if_neg h2,if_neg h1,this]
theorem zbO:∀ (x y:List Int),lexM x y=0->x=y
 | [],[],_=>rfl
 | [],_::_,h=>by cases h
 | _::_,[],h=>by cases h
 | a::x,b::y,h=>by
  simp only [lexM] at h
  split at h
  ·cases h
  ·split at h
   ·cases h
   ·rw [show a=b by omega,zbO x y h]
theorem zbN:∀ x:List Int,lexM x x=0
 | []=>rfl
 | a::x=>by simp only [lexM]; rw [if_neg oQ,if_neg oQ]; exact zbN x
theorem zaL:∀ (x y z:List Int),lexM x y<0->lexM y z<0->lexM x z<0
 | [],[],z,h,_=>by simp [lexM] at h
 | [],_::_,[],_,h=>by simp [lexM] at h
 | [],_::_,_::_,_,_=>by simp [lexM]
 | _::_,[],_,h,_=>by simp [lexM] at h
 | _::_,_::_,[],_,h=>by simp [lexM] at h
 | a::x,b::y,c::z,h1,h2=>by
  simp only [lexM] at h1 h2 ⊢
  by_cases q1:a<b
  ·by_cases q2:b<c
   ·rw [if_pos oQ]; omega
   ·rw [if_neg q2] at h2
    by_cases q3:c<b
    ·rw [if_pos q3] at h2; omega
    ·rw [if_pos oQ]; omega
  ·rw [if_neg q1] at h1
   by_cases q4:b<a
   ·rw [if_pos q4] at h1; omega
   ·rw [if_neg q4] at h1
    by_cases q2:b<c
    ·rw [if_pos oQ]; omega
    ·rw [if_neg q2] at h2
     by_cases q3:c<b
     ·rw [if_pos q3] at h2; omega
     ·rw [if_neg q3] at h2
      rw [if_neg oQ,if_neg oQ]
      exact zaL x y z h1 h2
theorem yz (x y:List Int):smallerM x y=true↔x.length<y.length\/(x.length=y.length/\lexM x y<0):=by
 unfold smallerM
 simp
theorem uj {x y z:List Int} (h1:smallerM x y=true) (h2:smallerM y z=true):smallerM x z=true:=by
 rw [yz] at *
 rcases h1 with h1 | ⟨h1,h3⟩ <;> rcases h2 with h2 | ⟨h2,h4⟩
 ·left; omega
 ·left; omega
 ·left; omega
 ·right; exact ⟨by omega,zaL x y z h3 h4⟩
theorem jP (x y:List Int):x=y\/smallerM x y=true\/smallerM y x=true:=by
 by_cases h1:x.length<y.length
 ·right; left; rw [yz]; exact .inl h1
 ·by_cases h2:y.length<x.length
  ·right; right; rw [yz]; exact .inl h2
  ·have e:x.length=y.length:=by omega
   have ha:=xa x y
   by_cases h3:lexM x y=0
   ·exact .inl (zbO x y h3)
   ·by_cases h4:lexM x y<0
    ·right; left; rw [yz]; exact .inr ⟨e,h4⟩
    ·right; right; rw [yz]; exact .inr ⟨e.symm,by omega⟩
theorem uK {x y:List Int} (h:smallerM x y=true):smallerM y x=false:=by
 cases h2:smallerM y x with
 | false=>rfl
 | true =>
  rw [yz] at h h2
  have:=xa x y
  omega
theorem y7 (p q:List Int×Int):cheaperM p q=true↔p.2<q.2\/(p.2=q.2/\smallerM p.1 q.1=true):=by
 unfold cheaperM
 simp
theorem za7 (p q r:List Int×Int) (h1:cheaperM p q=true) (h2:cheaperM q r=true):cheaperM p r=true:=by
 rw [y7] at *
 rcases h1 with h1 | ⟨h1,h3⟩ <;> rcases h2 with h2 | ⟨h2,h4⟩
 ·left; omega
 ·left; omega
 ·left; omega
 ·right; exact ⟨by omega,uj h3 h4⟩
theorem zcB (p q:List Int×Int):p=q\/cheaperM p q=true\/cheaperM q p=true:=by
 by_cases h1:p.2<q.2
 ·right; left; rw [y7]; exact .inl h1
 ·by_cases h2:q.2<p.2
  ·right; right; rw [y7]; exact .inl h2
  ·rcases jP p.1 q.1 with h | h | h
   ·left; exact Prod.ext h oQ
   ·right; left; rw [y7]; exact .inr ⟨by omega,h⟩
   ·right; right; rw [y7]; exact .inr ⟨by omega,h⟩
theorem ui (p q r:List Int×Int) (h1:shorterM p q=true) (h2:shorterM q r=true):shorterM p r=true:=uj h1 h2
theorem zbb {b:RBk} (hb:ROk b) {l:List Int} (hl:CutsOk b l):∀ (o:List Int) (z:Alloc),(∀ k∈o,0<=k/\k<l.length)->0<=z.left->(∀ k,0<=z.steps.getD k 0/\z.steps.getD k 0<=9)->∀ k,0<=(o.foldl (allocM b l) z).steps.getD k 0/\(o.foldl (allocM b l) z).steps.getD k 0<=9
 | [],z,_,_,h=>h
 | k0::o,z,ho,hz,h=>by
  rw [List.foldl_cons]
  have h0:=ho k0 sQ
  have hf:=hb.sms.fld _ (hl.lt (k:=k0.toNat) oQ).2.2
  have key:∀ (v:Int),0<=v->v<=9->∀ k,0<=(z.steps.set k0.toNat v).getD k 0/\(z.steps.set k0.toNat v).getD k 0<=9:=fun v h1 h2 k=>by
   have hk:=h k
   rw [List.getD_eq_getElem?_getD] at hk
   rw [List.getD_eq_getElem?_getD,List.getElem?_set]
   split
   ·split
    ·simp only [Option.getD_some]; omega
    ·simp
   ·exact hk
  refine zbb hb hl o _ (fun k hk=>ho k (by simp [hk])) ?_ (key (min z.left (sm b (cutN l k0.toNat).toNat).most) oQ oQ)
  show 0<=z.left - min z.left (sm b (cutN l k0.toNat).toNat).most
  omega
end Go.Vel
namespace Go.Vel
open Go Go.Conc Go.Proofs
theorem yB {x y:Int} (h:bar2 x y=0):y=0:=by
 have:=yZ h
 rwa [yM this] at h
theorem jS {c:Nat}:∀ (i:Nat) (x:Int),x∈bitsM c i->0<=x/\x<i
 | 0,x,h=>by cases h
 | i+1,x,h=>by
  unfold bitsM at h
  rcases List.mem_append.1 h with h | h
  ·have:=jS i x h; omega
  ·split at h
   ·rw [List.mem_singleton.1 h]; omega
   ·cases h
theorem zbj {c:Nat}:∀ i,(bitsM c i).Pairwise (· < ·)
 | 0=>.nil
 | i+1=>by
  unfold bitsM
  refine List.pairwise_append.2 ⟨zbj i,?_,fun x hx y hy=>?_⟩
  ·split <;> simp
  ·have:=jS i x hx
   split at hy
   ·rw [List.mem_singleton.1 hy]; omega
   ·cases hy
theorem yS {b:RBk} (hb:ROk b) {c:Nat} (h0:0<c) (hc:c<2 ^ b.seams.length):CutsOk b (bitsM c b.seams.length):=by
 have h5:=hb.sms.len
 refine ⟨?_,fun n hn=>jS _ n hn,zbj _⟩
 rcases Nat.eq_zero_or_pos (bitsM c b.seams.length).length with h | h
 ·have:=w7 h5.2 hc (List.length_eq_zero_iff.1 h); omega
 ·exact h
theorem zfo {m c d:Nat} (hm:m<=5) (hc:c<2 ^ m) (hd:d<2 ^ m) (h:bitsM c m=bitsM d m):c=d:=by
 have key:∀ (m:Fin 6) (c d:Fin 32),c.1<2 ^ m.1->d.1<2 ^ m.1->bitsM c.1 m.1=bitsM d.1 m.1->c.1=d.1:=by decide +kernel
 have:2 ^ m<=2 ^ 5:=Nat.pow_le_pow_right dQ hm
 exact key ⟨m,by omega⟩ ⟨c,by omega⟩ ⟨d,by omega⟩ hc hd h
theorem uG {Ψ:Goroutine->World->Prop} {gm:Nat->Option Nat} {b:RBk} {s h e a:Nat} {all:List (List Int)} {gF:FuncId} {bt:List Int×Int->List Int×Int->Bool} (hb:ROk b) (ha:okAll b all) (hn:all.length<=243) (h0:0<all.length)
  (htr:∀ p q r,bt p q=true->bt q r=true->bt p r=true) (htot:∀ b1 c1,0<b1->b1<2 ^ b.seams.length->0<c1->c1<2 ^ b.seams.length->(bitsM b1 b.seams.length,sqHi b all (bitsM b1 b.seams.length))=(bitsM c1 b.seams.length,sqHi b all (bitsM c1 b.seams.length))\/bt (bitsM b1 b.seams.length,sqHi b all (bitsM b1 b.seams.length)) (bitsM c1 b.seams.length,sqHi b all (bitsM c1 b.seams.length))=true\/bt (bitsM c1 b.seams.length,sqHi b all (bitsM c1 b.seams.length)) (bitsM b1 b.seams.length,sqHi b all (bitsM b1 b.seams.length))=true)
  (hbt:∀ {T:Goroutine->Hp->Prop},Shut Tryz.prog false T->∀ (jr:Nat) (cs:List Int) (cost:Int) (cs0:List Int) (cost0:Int) (j0:Nat) (e0:TypeId),cs.length<=5->CallFK Tryz.prog T gm (.fn gF [] []) [.agg [.sl jr 0 cs.length,.v (.int .i64 cost)],.agg [.sl j0 0 cs0.length,.v (.int .i64 cost0)]] [(jr,.cells (cs.map fun a=>.v (.int .i64 a)) 3 false),(j0,.cells (cs0.map fun a=>.v (.int .i64 a)) e0 false)] (fun r K'=>r=.v (.bool (bt (cs,cost) (cs0,cost0)))/\K'=[(jr,.cells (cs.map fun a=>.v (.int .i64 a)) 3 false),(j0,.cells (cs0.map fun a=>.v (.int .i64 a)) e0 false)])) :
  CallK Tryz.prog (BT Tryz.prog Ψ) gm 108 [.agg (knownC b s h e a all.length),.fn gF [] []] [(s,seamO b),(a,allO all)] (fun r K'=>PlanR [(s,seamO b),(a,allO all)] b.seams.length bt (fun c=>sqHi b all (bitsM c b.seams.length)) (fun c=>sqOk b all (bitsM c b.seams.length)) r K'):=by
 refine zho (lw:=fun c=>sqLo b all (bitsM c b.seams.length)) hb.sms.len (fun z hz=>?_) htr (fun b1 c1 h1 h2 h3 h4 _ _=>htot b1 c1 h1 h2 h3 h4) (fun c hc0 hc1 jr T hT=>?_) hbt
 ·simp only [List.mem_cons,List.not_mem_nil,or_false] at hz
  rcases hz with rfl | rfl
  ·refine ⟨_,_,fun e=>?_,rfl⟩
   have:=congrArg List.length e
   rw [zS seamC 5 (fun _=>rfl)] at this
   have h1:=hb.sms.len
   have:b.seams.length*5=0:=this
   omega
  ·refine ⟨_,_,fun e=>?_,rfl⟩
   have:=congrArg List.length e
   rw [zS stC 5 (fun _=>rfl)] at this
   have:all.length*5=0:=this
   omega
 ·exact xV hT (j:=jr) (et:=3) hb (yS hb hc0 hc1) ha hn h0
def canM (b:RBk) (l:List Int):Int:=if (waysM b (statesM b) l).length=(statesM b).length then 1 else if (waysM b (statesM b) l).length=0 then 2 else 0
theorem zhx {b:RBk} {all:List (List Int)} {l:List Int} (h:sqOk b all l=false):sqLo b all l=0/\sqHi b all l=0:=by
 unfold sqOk at h
 unfold sqLo sqHi
 cases hh:squaresM b all l with
 | none=>exact ⟨rfl,rfl⟩
 | some z=>rw [hh] at h; cases h
def newM (b:RBk):Int×Int:=spreadM ((statesM b).map (freshM b))
instance:Cal Tryz.prog 107:=⟨by kernel_rfl⟩
instance:Cal Tryz.prog 91:=⟨by kernel_rfl⟩
instance:TyZ Tryz.prog 116 [.nilFunc]:=⟨by kernel_rfl⟩
theorem zhM {main:Bool} {T:Goroutine->Hp->Prop} (hT:Shut Tryz.prog main T)  {b:RBk} {s h e j:Nat} {l:List Int} {et:TypeId} (hl:b.seams.length<=100) (hm:b.measures.length<=100) (hll:l.length<=1000) :
  CallK Tryz.prog T gmR 20 [.agg (rollC b s h e),.sl j 0 l.length] [(0,checksG),(s,seamO b),(h,shrO b),(e,measO b),(j,.cells (l.map intA) et false)] (fun r K'=>(bar2 (checkM b) (cutsM b l)≠0/\r=.tup [.v (.slice none 0 0),intA (bar2 (checkM b) (cutsM b l))]/\K'=[(0,checksG),(s,seamO b),(h,shrO b),(e,measO b),(j,.cells (l.map intA) et false)])\/(bar2 (checkM b) (cutsM b l)=0/\∃ jr,r=.tup [.row jr l.length,intA 0]/\K'=(jr,.row ((stripsM b l).flatMap pairC) 96 2)::[(0,checksG),(s,seamO b),(h,shrO b),(e,measO b),(j,.cells (l.map intA) et false)])):=by
 refine zf 22 hT Tryz.func20 fun Y hret=>?_
 refine au [4,5,21] ?_
 intro jb hjb
 refine au [2,2,3,4,5,8,1,32] ?_
 refine TK.newR rfl rfl rfl (zg (l:=[_]) rfl SlEl.h TyZ.h dQ dQ rfl) (fun _=>putS rfl (by simp only [List.set]; rfl)) fun ja hja=>?_
 refine TK.cl rfl rfl rfl rfl (wC hT (Kx:=[(j,.cells (l.map intA) et false)]) (p1:=cutsM b l) hl hm (fun h0=>zT Cal.h ((ko hT (zp h0).sms.len.2 hll).frameP (R:=[(s,seamO b)]) (List.Perm.swap _ _ _)))) ?_
 rintro r1 K2 h3
 rcases h3 with ⟨⟨hbar,rfl⟩ | ⟨hbar,rfl⟩,rfl⟩
 ·refine au [1,10,10,22] ?_
  intro j6 hj6
  refine au [17,2,3,4,4,5,1,6,3,20] ?_
  refine ⟨fun hc0=>?_,fun hc0=>?_⟩
  ·exact absurd hc0 sQ
  have hbb:=zp (yZ hbar)
  have hcc:=kW (yB hbar)
  refine au [12,4,5,8,1] ?_
  refine TK.cl rfl rfl rfl rfl (za1 hT hbb hcc) ?_
  rintro r4 K5 ⟨jr,rfl,rfl⟩
  refine au [2,2,3] ?_
  refine TK.rt hret [(jr,_),(0,_),(s,_),(h,_),(e,_),(j,_)] ?_
  exact .inr ⟨hbar,jr,rfl,rfl⟩
 ·refine au [1,10,10,22] ?_
  intro j6 hj6
  refine au [17,2,3,4,4,5,1,6,3,20] ?_
  refine ⟨fun hc0=>?_,fun hc0=>?_⟩
  ·
   refine au [4,5,1,2,2,3] ?_
   refine TK.rt hret [(0,_),(s,_),(h,_),(e,_),(j,_)] ?_
   exact .inl ⟨hbar,rfl,rfl⟩
  exact absurd hbar (by simpa using hc0)
theorem xu {main:Bool} {T:Goroutine->Hp->Prop} (hT:Shut Tryz.prog main T)  {b:RBk} {s h e j:Nat} {l:List Int} {et:TypeId} (hl:b.seams.length<=100) (hm:b.measures.length<=100) (hll:l.length<=1000) :
  CallK Tryz.prog T gmR 22 [.agg (rollC b s h e),.sl j 0 l.length] [(0,checksG),(s,seamO b),(h,shrO b),(e,measO b),(j,.cells (l.map intA) et false)] (fun r K'=>r=.tup [boolA (decide (bar2 (checkM b) (cutsM b l)=0)&&fitsM b l),intA (bar2 (checkM b) (cutsM b l))]/\K'=[(0,checksG),(s,seamO b),(h,shrO b),(e,measO b),(j,.cells (l.map intA) et false)]):=by
 refine zf 22 hT Tryz.func22 fun Y hret=>?_
 refine au [4,5,21] ?_
 intro jb hjb
 refine au [2,2,3,4,5,8,1,32] ?_
 refine TK.newR rfl rfl rfl (zg (l:=[_]) rfl SlEl.h TyZ.h dQ dQ rfl) (fun _=>putS rfl (by simp only [List.set]; rfl)) fun ja hja=>?_
 refine TK.cl rfl rfl rfl rfl (wC hT (Kx:=[(j,.cells (l.map intA) et false)]) (p1:=cutsM b l) hl hm (fun h0=>zT Cal.h ((ko hT (zp h0).sms.len.2 hll).frameP (R:=[(s,seamO b)]) (List.Perm.swap _ _ _)))) ?_
 rintro r1 K2 h3
 rcases h3 with ⟨⟨hbar,rfl⟩ | ⟨hbar,rfl⟩,rfl⟩
 ·refine au [1,10,10,22] ?_
  intro j6 hj6
  refine au [17,2,3,4,4,5,1,6,3,20] ?_
  refine ⟨fun hc0=>?_,fun hc0=>?_⟩
  ·exact absurd hc0 sQ
  have hbb:=zp (yZ hbar)
  have hcc:=kW (yB hbar)
  refine au [12,4,5,8,1] ?_
  refine TK.cl rfl rfl rfl rfl (zc3 hT hbb hcc) ?_
  rintro r4 K5 ⟨rfl,rfl⟩
  refine au [2,2,3] ?_
  refine TK.rt hret [(0,_),(s,_),(h,_),(e,_),(j,_)] ?_
  exact ⟨by rw [hbar]; simp,rfl⟩
 ·refine au [1,10,10,22] ?_
  intro j6 hj6
  refine au [17,2,3,4,4,5,1,6,3,20] ?_
  refine ⟨fun hc0=>?_,fun hc0=>?_⟩
  ·
   refine au [4,5,1,2,2,3] ?_
   refine TK.rt hret [(0,_),(s,_),(h,_),(e,_),(j,_)] ?_
   exact ⟨by rw [decide_eq_false hbar]; rfl,rfl⟩
  exact absurd hbar (by simpa using hc0)
theorem xp {main:Bool} {T:Goroutine->Hp->Prop} (hT:Shut Tryz.prog main T)  {b:RBk} {s h e j:Nat} {l:List Int} {et:TypeId} (hl:b.seams.length<=100) (hm:b.measures.length<=100) (hll:l.length<=1000) :
  CallK Tryz.prog T gmR 70 [.agg (rollC b s h e),.sl j 0 l.length] [(0,checksG),(s,seamO b),(h,shrO b),(e,measO b),(j,.cells (l.map intA) et false)] (fun r K'=>(bar2 (checkM b) (cutsM b l)≠0/\r=.tup [intA 0,intA (bar2 (checkM b) (cutsM b l))]/\K'=[(0,checksG),(s,seamO b),(h,shrO b),(e,measO b),(j,.cells (l.map intA) et false)])\/(bar2 (checkM b) (cutsM b l)=0/\statesM b=[]/\r=.tup [intA 0,intA 9]/\K'=[(0,checksG),(s,seamO b),(h,shrO b),(e,measO b),(j,.cells (l.map intA) et false)])\/(bar2 (checkM b) (cutsM b l)=0/\statesM b≠[]/\r=.tup [intA (canM b l),intA 0]/\K'=[(0,checksG),(s,seamO b),(h,shrO b),(e,measO b),(j,.cells (l.map intA) et false)])):=by
 refine zf 30 hT Tryz.func70 fun Y hret=>?_
 refine au [4,5,21] ?_
 intro jb hjb
 refine au [2,2,3,4,5,8,1,32] ?_
 refine TK.newR rfl rfl rfl (zg (l:=[_]) rfl SlEl.h TyZ.h dQ dQ rfl) (fun _=>putS rfl (by simp only [List.set]; rfl)) fun ja hja=>?_
 refine TK.cl rfl rfl rfl rfl (uv hT (Kx:=[(j,.cells (l.map intA) et false)]) (p1:=cutsM b l) (fun h0=>zT Cal.h ((ko hT (zp h0).sms.len.2 hll).frameP (R:=[(s,seamO b)]) (List.Perm.swap _ _ _))) hl hm) ?_
 rintro r1 K2 h3
 rcases h3 with ⟨hbar,rfl,rfl⟩ | ⟨hbar,hnil,rfl,rfl⟩ | ⟨hbar,hne,a,rfl,rfl⟩
 ·refine au [1,10,10,22] ?_
  intro j6 hj6
  refine au [17,2,3,4,4,5,1,6,3,20] ?_
  refine ⟨fun hc0=>?_,fun hc0=>?_⟩
  ·
   refine au [4,5,1,2,2,3] ?_
   refine TK.rt hret [(0,_),(s,_),(h,_),(e,_),(j,_)] ?_
   exact .inl ⟨hbar,rfl,rfl⟩
  exact absurd hbar (by simpa using hc0)
 ·refine au [1,10,10,22] ?_
  intro j6 hj6
  refine au [17,2,3,4,4,5,1,6,3,20] ?_
  refine ⟨fun hc0=>?_,fun hc0=>?_⟩
  ·
   refine au [4,5,1,2,2,3] ?_
   refine TK.rt hret [(0,_),(s,_),(h,_),(e,_),(j,_)] ?_
   exact .inr (.inl ⟨hbar,hnil,rfl,rfl⟩)
  exact absurd hc0 dQ
 ·refine au [1,10,10,22] ?_
  intro j6 hj6
  refine au [17,2,3,4,4,5,1,6,3,20] ?_
  refine ⟨fun hc0=>?_,fun hc0=>?_⟩
  ·exact absurd hc0 sQ
  have hbb:=zp (yZ hbar)
  have hcc:=kW (yB hbar)
  have hlen:=yF hbb
  have hpos:0<(statesM b).length:=List.length_pos_iff.2 hne
  have hall:okAll b (statesM b):=fun st hst=>(yg hbb hst).1
  refine au [12,4,4,5,8,1] ?_
  refine TK.cl rfl rfl rfl rfl (zdu hT hbb hcc hall hlen) ?_
  rintro r4 K5 ⟨jr,ps,hps,rfl,rfl⟩
  refine au [] ?_
  have hpl:ps.length=(waysM b (statesM b) l).length:=by have:=congrArg List.length hps; rwa [List.length_map,List.length_map] at this
  refine au [28,3,13,4,5,7,9,28,6,2,3,20] ?_
  refine ⟨fun hc1=>?_,fun hc1=>?_⟩
  ·refine au [4,5,2,2,3] ?_
   refine TK.rt hret [(0,_),(s,_),(h,_),(e,_),(j,_)] ?_
   exact .inr (.inr ⟨hbar,hne,by unfold canM; rw [if_pos (by have:=eq_of_beq hc1; omega)],rfl⟩)
  refine au [4,5,6,2,3,20] ?_
  refine ⟨fun hc2=>?_,fun hc2=>?_⟩
  ·refine au [4,5,2,2,3] ?_
   refine TK.rt hret [(0,_),(s,_),(h,_),(e,_),(j,_)] ?_
   exact .inr (.inr ⟨hbar,hne,by unfold canM; rw [if_neg (by simp at hc1; omega),if_pos (by have:=eq_of_beq hc2; omega)],rfl⟩)
  refine au [12,14,4,5,2,2,3] ?_
  refine TK.rt hret [(0,_),(s,_),(h,_),(e,_),(j,_)] ?_
  exact .inr (.inr ⟨hbar,hne,by unfold canM; rw [if_neg (by simp at hc1; omega),if_neg (by rw [<- hpl]; simp at hc2; exact fun h=>hc2 (List.length_eq_zero_iff.1 h))],rfl⟩)
theorem wz {main:Bool} {T:Goroutine->Hp->Prop} (hT:Shut Tryz.prog main T)  {b:RBk} {s h e j:Nat} {l:List Int} {et:TypeId} (hl:b.seams.length<=100) (hm:b.measures.length<=100) (hll:l.length<=1000) :
  CallK Tryz.prog T gmR 54 [.agg (rollC b s h e),.sl j 0 l.length] [(0,checksG),(s,seamO b),(h,shrO b),(e,measO b),(j,.cells (l.map intA) et false)] (fun r K'=>(bar2 (checkM b) (cutsM b l)≠0/\r=.tup [.agg [intA 0,intA 0],intA (bar2 (checkM b) (cutsM b l))]/\K'=[(0,checksG),(s,seamO b),(h,shrO b),(e,measO b),(j,.cells (l.map intA) et false)])\/(bar2 (checkM b) (cutsM b l)=0/\statesM b=[]/\r=.tup [.agg [intA 0,intA 0],intA 9]/\K'=[(0,checksG),(s,seamO b),(h,shrO b),(e,measO b),(j,.cells (l.map intA) et false)])\/(bar2 (checkM b) (cutsM b l)=0/\statesM b≠[]/\r=.tup [.agg [intA (sqLo b (statesM b) l),intA (sqHi b (statesM b) l)],intA (if sqOk b (statesM b) l=true then 0 else 8)]/\K'=[(0,checksG),(s,seamO b),(h,shrO b),(e,measO b),(j,.cells (l.map intA) et false)])):=by
 refine zf 32 hT Tryz.func54 fun Y hret=>?_
 refine au [4,5,21] ?_
 intro jb hjb
 refine au [22] ?_
 intro jr hjr
 refine au [2,3,4,5,8,1,32] ?_
 refine TK.newR rfl rfl rfl (zg (l:=[_]) rfl SlEl.h TyZ.h dQ dQ rfl) (fun _=>putS rfl (by simp only [List.set]; rfl)) fun ja hja=>?_
 refine TK.cl rfl rfl rfl rfl (uv hT (Kx:=[(j,.cells (l.map intA) et false)]) (p1:=cutsM b l) (fun h0=>zT Cal.h ((ko hT (zp h0).sms.len.2 hll).frameP (R:=[(s,seamO b)]) (List.Perm.swap _ _ _))) hl hm) ?_
 rintro r1 K2 h3
 rcases h3 with ⟨hbar,rfl,rfl⟩ | ⟨hbar,hnil,rfl,rfl⟩ | ⟨hbar,hne,a,rfl,rfl⟩
 ·refine au [1,10,10,22] ?_
  intro j6 hj6
  refine au [17,2,3,4,4,5,1,6,3,20] ?_
  refine ⟨fun hc0=>?_,fun hc0=>?_⟩
  ·
   refine au [4,5,39,1,17,2,3] ?_
   refine TK.rt hret [(0,_),(s,_),(h,_),(e,_),(j,_)] ?_
   exact .inl ⟨hbar,rfl,rfl⟩
  exact absurd hbar (by simpa using hc0)
 ·refine au [1,10,10,22] ?_
  intro j6 hj6
  refine au [17,2,3,4,4,5,1,6,3,20] ?_
  refine ⟨fun hc0=>?_,fun hc0=>?_⟩
  ·
   refine au [4,5,39,1,17,2,3] ?_
   refine TK.rt hret [(0,_),(s,_),(h,_),(e,_),(j,_)] ?_
   exact .inr (.inl ⟨hbar,hnil,rfl,rfl⟩)
  exact absurd hc0 dQ
 ·refine au [1,10,10,22] ?_
  intro j6 hj6
  refine au [17,2,3,4,4,5,1,6,3,20] ?_
  refine ⟨fun hc0=>?_,fun hc0=>?_⟩
  ·exact absurd hc0 sQ
  have hbb:=zp (yZ hbar)
  have hcc:=kW (yB hbar)
  have hlen:=yF hbb
  have hpos:0<(statesM b).length:=List.length_pos_iff.2 hne
  have hall:okAll b (statesM b):=fun st hst=>(yg hbb hst).1
  refine au [12,4,5,8,1] ?_
  refine TK.cl rfl rfl rfl rfl (xV hT hbb hcc hall hlen hpos) ?_
  rintro r4 K5 ⟨rfl,rfl⟩
  refine au [1,10,10,22] ?_
  intro j8 hj8
  refine au [17,2,3,4,4,5,1,30,3,20] ?_
  refine ⟨fun hc1=>?_,fun hc1=>?_⟩
  ·refine au [4,5,39,17,2,3] ?_
   refine TK.rt hret [(0,_),(s,_),(h,_),(e,_),(j,_)] ?_
   exact .inr (.inr ⟨hbar,hne,by obtain ⟨q1,q2⟩:=zhx (b:=b) (all:=statesM b) (l:=l) (by simpa using hc1); rw [q1,q2,if_neg (by simpa using hc1)]; rfl,rfl⟩)
  refine au [12,4,5,8,17,2,3] ?_
  refine TK.rt hret [(0,_),(s,_),(h,_),(e,_),(j,_)] ?_
  exact .inr (.inr ⟨hbar,hne,by rw [if_pos (by simpa using hc1)]; rfl,rfl⟩)
theorem zeE {main:Bool} {T:Goroutine->Hp->Prop} (hT:Shut Tryz.prog main T)  {b:RBk} {s h e:Nat} (hl:b.seams.length<=100) (hm:b.measures.length<=100) :
  CallK Tryz.prog T gmR 53 [.agg (rollC b s h e)] [(0,checksG),(s,seamO b),(h,shrO b),(e,measO b)] (fun r K'=>(checkM b≠0/\r=.tup [.agg [intA 0,intA 0],intA (checkM b)]/\K'=[(0,checksG),(s,seamO b),(h,shrO b),(e,measO b)])\/(checkM b=0/\statesM b=[]/\r=.tup [.agg [intA 0,intA 0],intA 9]/\K'=[(0,checksG),(s,seamO b),(h,shrO b),(e,measO b)])\/(checkM b=0/\statesM b≠[]/\r=.tup [.agg [intA (newM b).1,intA (newM b).2],intA 0]/\K'=[(0,checksG),(s,seamO b),(h,shrO b),(e,measO b)])):=by
 refine zf 39 hT Tryz.func53 fun Y hret=>?_
 refine au [4,5,21] ?_
 intro jb hjb
 refine au [22] ?_
 intro jr hjr
 refine au [2,3,4,5,8] ?_
 refine TK.cl rfl rfl rfl rfl (kJ hT (Kx:=[]) hl hm) ?_
 rintro r1 K2 h3
 rcases h3 with ⟨hbar,rfl,rfl⟩ | ⟨hbar,hnil,rfl,rfl⟩ | ⟨hbar,hne,a,rfl,rfl⟩
 ·refine au [1,10,10,22] ?_
  intro j4 hj4
  refine au [17,2,3,4,4,5,1,6,3,20] ?_
  refine ⟨fun hc0=>?_,fun hc0=>?_⟩
  ·
   refine au [4,5,39,1,17,2,3] ?_
   refine TK.rt hret [(0,_),(s,_),(h,_),(e,_)] ?_
   exact .inl ⟨hbar,rfl,rfl⟩
  exact absurd hbar (by simpa using hc0)
 ·refine au [1,10,10,22] ?_
  intro j4 hj4
  refine au [17,2,3,4,4,5,1,6,3,20] ?_
  refine ⟨fun hc0=>?_,fun hc0=>?_⟩
  ·
   refine au [4,5,39,1,17,2,3] ?_
   refine TK.rt hret [(0,_),(s,_),(h,_),(e,_)] ?_
   exact .inr (.inl ⟨hbar,hnil,rfl,rfl⟩)
  exact absurd hc0 dQ
 ·refine au [1,10,10,22] ?_
  intro j4 hj4
  refine au [17,2,3,4,4,5,1,6,3,20] ?_
  refine ⟨fun hc0=>?_,fun hc0=>?_⟩
  ·exact absurd hc0 sQ
  have hbb:=zp hbar
  have hlen:=yF hbb
  have hpos:0<(statesM b).length:=List.length_pos_iff.2 hne
  have hall:okAll b (statesM b):=fun st hst=>(yg hbb hst).1
  refine au [12,4,5,2] ?_
  refine TK.virt 6 3 1 rfl fun jt0 hjt0=>?_
  refine au [3,4,4,5,7,9,28,1,3,13] ?_
  refine TK.maskL [2,3,4,6,19,20,21] ?_
  refine TK.kp [(a,_),(0,_),(s,_),(h,_),(e,_),(j4,_),(jr,_),(jt0,_)] ?_
  refine TK.loopN (fun n env K=>∃ (i jt:Nat),n=(statesM b).length - i/\i<=(statesM b).length/\env=[.any,.any,.ptr jr 0,intA 0,.ptr j4 0,.any,.row jt i,.any,.any,.any,.any,.any,.any,.any,.any,.any,.any,.any,.any,.sl a 0 (statesM b).length,intA (statesM b).length,intA i,.any,.any,.any,.any,.any,.any,.any,.any,.any,.any,.any,.any,.any,.any,.any,.any,.any]/\K=[(a,allO (statesM b)),(0,checksG),(s,seamO b),(h,shrO b),(e,measO b),(j4,.cells (knownC b s h e a (statesM b).length) 139 true),(jr,.cells [intA 0,intA 0] 51 true),(jt,.row ((((statesM b).take i).map (freshM b)).map intA) 3 1)]) (statesM b).length ⟨0,jt0,rfl,Nat.zero_le _,rfl,rfl⟩ fun n env K hI hnext=>?_
  obtain ⟨i,jt,rfl,hi,rfl,rfl⟩:=hI
  refine au [4,5,6,3,4,20] ?_
  refine ⟨fun hc1=>?_,fun hc1=>?_⟩
  ·have hil:i<(statesM b).length:=by simp at hc1; omega
   obtain ⟨st,hst⟩:∃ st,(statesM b)[i]? =some st:=⟨_,List.getElem?_eq_getElem hil⟩
   have hsk:=hall st (List.mem_of_getElem? hst)
   refine au [12,4,13,4,5,36] ?_
   refine TK.a rfl (zx rfl rfl TySz.h mQ (xj (i:=i) hst rfl)) ?_
   refine au [22] ?_
   intro j8 hj8
   refine au [17,3,5,1,7,8,8] ?_
   refine TK.cl rfl rfl rfl rfl (zbt hT hbb hsk) ?_ (hs:=(.none _))
   rintro r4 K5 ⟨rfl,rfl⟩
   refine au [] ?_
   refine TK.newR rfl rfl rfl (zg (l:=[_]) rfl SlEl.h TyZ.h dQ dQ rfl) (fun _=>putS rfl (by simp only [List.set]; rfl)) fun j7 hj7=>?_
   refine TK.appR rfl rfl rfl (a_app rfl ApOf.h rfl mQ (by simp; omega) rfl (zL (ln:=[_]) mQ dQ sQ rfl) oQ rfl (by unfold maxLen; omega) oQ) (fun _=>uQ) (fun _=>putS rfl (by simp only [List.set]; rfl)) fun jt2=>?_
   refine au [2,3,14,5,23,1,3] ?_
   refine TK.maskL [2,3,4,6,19,20,21] ?_
   refine TK.kp [(a,_),(0,_),(s,_),(h,_),(e,_),(j4,_),(jr,_),(jt2,_)] ?_
   exact hnext _ _ _ oQ ⟨i+1,jt2,rfl,by omega,rfl,by rw [zM hst,List.map_append,List.map_append]; rfl⟩
  obtain rfl:i=(statesM b).length:=by simp at hc1; omega
  obtain ⟨x,xs,hxs⟩:∃ x xs,(statesM b).map (freshM b)=x::xs:=by
   cases hh:statesM b with
   | nil=>exact absurd hh hne
   | cons y r=>exact ⟨_,_,rfl⟩
  have hxl:(statesM b).length=xs.length+1:=by have:=congrArg List.length hxs; simpa using this
  rw [List.take_of_length_le (Nat.le_refl _),hxs,hxl]
  refine au [16,4] ?_
  refine TK.draw [0,1,2,3,4,5,6,7] [0,1,2,3,4,5,6,7] (by kernel_rfl) (by kernel_rfl) ?_
  refine TD.z [6] rfl (zd rfl rfl) ?_
  refine TD.y [33] rfl (hq:=yw rfl rfl rfl SlEl.h (List.Mem.head _) oQ oQ) (h:=?_)
  refine TD.y [34] rfl (hq:=ze rfl rfl TySz.h (List.Mem.head _) rfl) (h:=?_)
  refine TD.z [6] rfl (zd rfl rfl) ?_
  refine TD.y [36] rfl (hq:=kT rfl rfl SlEl.h (List.Mem.head _) rfl rfl oQ oQ rfl) (h:=?_)
  refine TD.cl (pend':=[⟨3,[6],[]⟩,⟨1,[33],[(_,_)]⟩,⟨0,[6],[]⟩]) [35,37] rfl rfl rfl rfl rfl (za0 hT (x:=x) (xs:=xs) (off:=1) (ob:=.row ((x::xs).map intA) 3 1) (fun i y hy=>yX (l:=x::xs) (i:=i+1) (by simpa using hy) oQ) oQ) (fun r8 K9 h10=>⟨?_,?_⟩)
  ·rcases h10 with ⟨rfl,rfl⟩
   all_goals simp
  obtain ⟨rfl,rfl⟩:=h10
  try simp only [List.cons_append,List.nil_append]
  refine TD.norm (by simp only [List.set]; rfl) ?_
  refine TD.s (pend':=[]) [2,38] rfl rfl (zt rfl rfl TySz.h rfl rfl mQ rfl) ?_
  refine TD.as (pend':=[]) [] rfl rfl (zj rfl rfl) ?_
  refine TD.fin ?_
  refine au [] ?_
  refine TK.rt hret [(0,_),(s,_),(h,_),(e,_)] ?_
  exact .inr (.inr ⟨hbar,hne,by unfold newM; rw [hxs]; rfl,rfl⟩)
def atM (b:RBk) (l s w:List Int):Nat->Int
 | 0=>0
 | k+1=>atM b l s w k+(togM b s (cutN l k).toNat (cutN l (k+1) - cutN l k).toNat+w.getD (k+1) 0)
def placesM (b:RBk) (l s w:List Int):List Int:=(List.range l.length).map (atM b l s w)
theorem zeu {b:RBk} (hb:ROk b) {l s w:List Int} {q:Int} (hl:CutsOk b l) (hs:StOk b s) (h:hangM b l s=some (w,q)):w.length=l.length/\∀ k,0<=w.getD k 0/\w.getD k 0<=9:=by
 unfold hangM at h
 split at h
 ·cases h
 ·dsimp only at h
  split at h
  ·cases h
  ·cases h
   have h0:=(wQ hb hs).1
   unfold allocA
   refine ⟨by rw [zav]; simp [alloc0],zbb hb hl _ _ (fun k hk=>yP hk) h0 fun k=>?_⟩
   show 0<=(List.replicate l.length (0:Int)).getD k 0/\_
   have:(alloc0 b l (freshM b s)).steps=List.replicate l.length 0:=rfl
   rw [this,List.getD_eq_getElem?_getD,List.getElem?_replicate]
   split <;> simp
theorem zhL {b:RBk} {l:List Int} (hl:CutsOk b l) {k:Nat} (h:k+1<l.length):cutN l k<cutN l (k+1):=by
 have e1:=zy (l:=l) (k:=k) oQ
 have e2:=zy h
 have:=List.pairwise_iff_getElem.1 hl.asc k (k+1) oQ h oQ
 rw [List.getElem?_eq_getElem oQ] at e1
 rw [List.getElem?_eq_getElem h] at e2
 rw [Option.some.inj e1,Option.some.inj e2] at this
 exact this
theorem at_bd {b:RBk} (hb:ROk b) {l s w:List Int} (hl:CutsOk b l) (hs:StOk b s) (hw:∀ k,0<=w.getD k 0/\w.getD k 0<=9):∀ k,k<l.length->0<=atM b l s w k/\atM b l s w k<=129*k
 | 0,_=>by simp [atM]
 | k+1,h=>by
  have h1:=at_bd hb hl hs hw k oQ
  have h2:=hw (k+1)
  have h3:=uR hb hs (c:=(cutN l k).toNat) (cutN l (k+1) - cutN l k).toNat
  have h4:=hl.lt (k:=k) oQ
  have h5:=hl.lt h
  have h6:=hb.sms.len
  unfold atM
  omega
theorem zaZ {b:RBk} (hb:ROk b) {all:List (List Int)} (b1 c1:Nat) (h1:0<b1) (h2:b1<2 ^ b.seams.length) (h3:0<c1) (h4:c1<2 ^ b.seams.length):(bitsM b1 b.seams.length,sqHi b all (bitsM b1 b.seams.length))=(bitsM c1 b.seams.length,sqHi b all (bitsM c1 b.seams.length))\/shorterM (bitsM b1 b.seams.length,sqHi b all (bitsM b1 b.seams.length)) (bitsM c1 b.seams.length,sqHi b all (bitsM c1 b.seams.length))=true\/shorterM (bitsM c1 b.seams.length,sqHi b all (bitsM c1 b.seams.length)) (bitsM b1 b.seams.length,sqHi b all (bitsM b1 b.seams.length))=true:=by
 rcases jP (bitsM b1 b.seams.length) (bitsM c1 b.seams.length) with h | h | h
 ·left
  rw [zfo hb.sms.len.2 h2 h4 h]
 ·exact .inr (.inl h)
 ·exact .inr (.inr h)
def PlanA (b:RBk) (all:List (List Int)) (bt:List Int×Int->List Int×Int->Bool) (c:Nat):Prop:=0<c/\c<2 ^ b.seams.length/\sqOk b all (bitsM c b.seams.length)=true/\∀ d,0<d->d<2 ^ b.seams.length->sqOk b all (bitsM d b.seams.length)=true->(bitsM d b.seams.length,sqHi b all (bitsM d b.seams.length))=(bitsM c b.seams.length,sqHi b all (bitsM c b.seams.length))\/bt (bitsM c b.seams.length,sqHi b all (bitsM c b.seams.length)) (bitsM d b.seams.length,sqHi b all (bitsM d b.seams.length))=true
def NoPlan (b:RBk) (all:List (List Int)):Prop:=∀ d,0<d->d<2 ^ b.seams.length->sqOk b all (bitsM d b.seams.length)=false
def atRound (b:RBk) (r:Int):RBk:={ b with round:=r }
theorem vq {b:RBk} (hb:ROk b) {r:Int} (h1:b.steps<=r) (h2:r<=40):ROk (atRound b r):=⟨⟨hb.rnd.steps,⟨h1,h2⟩,hb.rnd.roll,hb.rnd.rolls⟩,⟨hb.sms.len,hb.sms.fld,hb.sms.asc⟩,⟨hb.cls.len,hb.cls.bnd⟩,⟨hb.mes.len,hb.mes.bnd⟩⟩
theorem zcV {b:RBk} {all:List (List Int)} (h:okAll b all) (r:Int):okAll (atRound b r) all:=fun s hs=>⟨(h s hs).len,(h s hs).bnd⟩
def canAt (b:RBk) (all:List (List Int)) (r:Int):Bool:=(List.range (2 ^ b.seams.length)).any fun c=>decide (0<c)&&sqOk (atRound b r) all (bitsM c b.seams.length)
def widestL (b:RBk) (all:List (List Int)):Nat->Option Int
 | 0=>none
 | k+1=>if canAt b all (b.steps+k)=true then some (b.steps+k) else widestL b all k
def widestM (b:RBk) (all:List (List Int)):Option Int:=widestL b all (41 - b.steps).toNat
theorem zgI {b:RBk} {all:List (List Int)} {r:Int} {c:Nat} (h0:0<c) (h1:c<2 ^ b.seams.length) (h:sqOk (atRound b r) all (bitsM c b.seams.length)=true):canAt b all r=true:=by
 unfold canAt
 rw [List.any_eq_true]
 exact ⟨c,List.mem_range.2 h1,by simp [h0,h]⟩
theorem zgH {b:RBk} {all:List (List Int)} {r:Int} (h:∀ c,0<c->c<2 ^ b.seams.length->sqOk (atRound b r) all (bitsM c b.seams.length)=false):canAt b all r=false:=by
 unfold canAt
 rw [List.any_eq_false]
 intro c hc
 by_cases h0:0<c
 ·rw [h c h0 (List.mem_range.1 hc)]; simp
 ·simp [h0]
instance:Cal Tryz.prog 101:=⟨by kernel_rfl⟩
instance:Cal Tryz.prog 108:=⟨by kernel_rfl⟩
instance:Cal Tryz.prog 109:=⟨by kernel_rfl⟩
instance:Cal Tryz.prog 113:=⟨by kernel_rfl⟩
instance:Cal Tryz.prog 99:=⟨by kernel_rfl⟩
theorem zdL {main:Bool} {T:Goroutine->Hp->Prop} (hT:Shut Tryz.prog main T)  {b:RBk} {s h e j j2:Nat} {l st:List Int} {et et2:TypeId} (hl:b.seams.length<=100) (hm:b.measures.length<=100) (hll:l.length<=1000) :
  CallK Tryz.prog T gmR 27 [.agg (rollC b s h e),.sl j 0 l.length,.sl j2 0 st.length] [(0,checksG),(s,seamO b),(h,shrO b),(e,measO b),(j,.cells (l.map intA) et false),(j2,.cells (st.map intA) et2 false)] (fun r K'=>(bar2 (checkM b) (bar2 (cutsM b l) (shM b st))≠0/\r=.tup [.v (.slice none 0 0),intA 0,boolA false,intA (bar2 (checkM b) (bar2 (cutsM b l) (shM b st)))]/\K'=[(0,checksG),(s,seamO b),(h,shrO b),(e,measO b),(j,.cells (l.map intA) et false),(j2,.cells (st.map intA) et2 false)])\/(bar2 (checkM b) (bar2 (cutsM b l) (shM b st))=0/\hangM b l st=none/\r=.tup [.v (.slice none 0 0),intA 0,boolA false,intA 0]/\K'=[(0,checksG),(s,seamO b),(h,shrO b),(e,measO b),(j,.cells (l.map intA) et false),(j2,.cells (st.map intA) et2 false)])\/(bar2 (checkM b) (bar2 (cutsM b l) (shM b st))=0/\∃ w q jw,hangM b l st=some (w,q)/\r=.tup [.sl jw 0 w.length,intA q,boolA true,intA 0]/\K'=(jw,.cells (w.map intA) 3 false)::[(0,checksG),(s,seamO b),(h,shrO b),(e,measO b),(j,.cells (l.map intA) et false),(j2,.cells (st.map intA) et2 false)])):=by
 refine zf 38 hT Tryz.func27 fun Y hret=>?_
 refine au [4,5,21] ?_
 intro jb hjb
 refine au [2,2,2,2,3,4,5,8,1,32,1,32] ?_
 refine TK.newR rfl rfl rfl (zg (l:=[_,_]) rfl SlEl.h TyZ.h dQ dQ rfl) (fun _=>putS rfl (by simp only [List.set]; rfl)) fun ja hja=>?_
 refine TK.cl rfl rfl rfl rfl (xH hT (Kx:=[(j,.cells (l.map intA) et false),(j2,.cells (st.map intA) et2 false)]) (p1:=cutsM b l) (p2:=shM b st) hl hm (fun h0=>zT Cal.h ((ko hT (zp h0).sms.len.2 hll).frameP (R:=[(s,seamO b),(j2,.cells (st.map intA) et2 false)]) (List.Perm.swap _ _ _))) (fun h0=>zT Cal.h ((zco hT (zp h0).rnd (zp h0).sms).frameP (R:=[(j,.cells (l.map intA) et false)]) ((List.Perm.swap _ _ _).cons _)))) ?_
 rintro r1 K2 h3
 rcases h3 with ⟨⟨hbar,rfl⟩ | ⟨hbar,rfl⟩,rfl⟩
 ·refine au [1,10,10,22] ?_
  intro j6 hj6
  refine au [17,2,3,4,4,5,1,6,3,20] ?_
  refine ⟨fun hc0=>?_,fun hc0=>?_⟩
  ·exact absurd hc0 sQ
  have hbb:=zp (yZ hbar)
  have hcc:=kW (yZ (yB hbar))
  have hss:=ze7 (yB (yB hbar))
  have h5:=hbb.sms.len
  have hsl:=hss.len
  refine au [12,4] ?_
  refine TK.draw [0,1,2,3,4,5,6,7,8,9,10] [0,1,2,3,4,5,6,8,9,7,10] (by kernel_rfl) (by kernel_rfl) ?_
  refine TD.y [10] rfl (hq:=zx rfl rfl TySz.h (List.Mem.head _) rfl) (h:=?_)
  refine TD.z [1] rfl (zd rfl rfl) ?_
  refine TD.z [2] rfl (zd rfl rfl) ?_
  refine TD.c2 (i1:=3) (i2:=8) (pend1:=[⟨1,[1],[]⟩,⟨0,[10],[(_,_)]⟩]) (pend2:=[⟨2,[2],[]⟩,⟨1,[1],[]⟩,⟨0,[10],[(_,_)]⟩]) (L1:=[4,5,6,7,8,9,10]) (L2:=[3,4,5,6,7,9,10]) [28] [] rfl rfl rfl rfl rfl rfl rfl ?_ ?_
  ·refine kb rfl rfl Cal.h rfl (vZ hT oQ oQ) (by repeat (first | exact Split.none _ | exact Split.all _ | (apply Split.rem; repeat (first | exact Rem.head | apply Rem.tail)) | apply Split.right)) fun r4 K5 h6=>⟨?_,?_⟩
   ·rcases h6 with ⟨rfl,rfl⟩
    all_goals simp
   obtain ⟨rfl,rfl⟩:=h6
   try simp only [List.cons_append,List.nil_append]
   refine TD.norm (env':=[_,_,_,_,_,_,_,_,_,_,_,_,_,_,_,_,_,_,_,_,_,_,_,_,_,_,_,_,_,_,_,_,_,_,_,_,_,_]) rfl ?_
   refine TD.c2 (i1:=4) (i2:=8) (pend1:=[]) (pend2:=[⟨1,[1],[]⟩,⟨0,[10],[(_,_)]⟩]) (L1:=[5,6,7,8,9,10]) (L2:=[4,5,6,7,9,10]) [26,27,29] [] rfl rfl rfl rfl rfl rfl rfl ?_ ?_
   ·refine kb rfl rfl Cal.h rfl ((wG hT hbb hcc hss).mono (fun _ _ h=>kZ h)) (by repeat (first | exact Split.none _ | exact Split.all _ | (apply Split.rem; repeat (first | exact Rem.head | apply Rem.tail)) | apply Split.right)) fun r7 K8 h9=>⟨?_,?_⟩
    ·rcases h9 with ⟨hno,rfl,rfl⟩ | ⟨w,q,jw,hso,rfl,rfl⟩
     all_goals simp
    rcases h9 with ⟨hno,rfl,rfl⟩ | ⟨w,q,jw,hso,rfl,rfl⟩
    ·try simp only [List.cons_append,List.nil_append]
     refine TD.norm (env':=[_,_,_,_,_,_,_,_,_,_,_,_,_,_,_,_,_,_,_,_,_,_,_,_,_,_,_,_,_,_,_,_,_,_,_,_,_,_]) rfl ?_
     refine TD.z [30] rfl (zd rfl rfl) ?_
     refine TD.z [25] rfl (zD rfl rfl rfl) ?_
     refine TD.z [25] rfl (zD rfl rfl rfl) ?_
     refine TD.cnewP (pend':=[⟨7,[25],[]⟩,⟨6,[25],[]⟩,⟨5,[30],[]⟩]) [] rfl rfl rfl rfl rfl (zZ rfl TyZA.h) (fun _=>putS rfl (by simp only [List.set]; rfl)) sQ fun j8 hj8=>?_
     refine TD.s (pend':=[⟨7,[25],[]⟩]) [11,31] rfl rfl (zt rfl rfl TySz.h rfl rfl mQ rfl) ?_
     refine TD.as (pend':=[]) [32] rfl rfl (zj rfl rfl) ?_
     refine TD.fin ?_
     refine au [4] ?_
     refine TK.draw [0,1,2,3,4,5,6,7,8] [0,1,5,2,3,6,4,7,8] (by kernel_rfl) (by kernel_rfl) ?_
     refine TD.z [11] rfl (zc rfl rfl FldOf.h dQ) ?_
     refine TD.y [33] rfl (hq:=ze rfl rfl TySz.h (List.Mem.head _) rfl) (h:=?_)
     refine TD.z [11] rfl (zc rfl rfl FldOf.h dQ) ?_
     refine TD.y [35] rfl (hq:=ze rfl rfl TySz.h (List.Mem.head _) rfl) (h:=?_)
     refine TD.z [8] rfl (zd rfl rfl) ?_
     refine TD.as (pend':=[⟨4,[8],[]⟩,⟨3,[35],[(_,_)]⟩,⟨2,[11],[]⟩]) [34] rfl rfl (zj rfl rfl) ?_
     refine TD.as (pend':=[⟨4,[8],[]⟩]) [36] rfl rfl (zj rfl rfl) ?_
     refine TD.as (pend':=[]) [37] rfl rfl (zj rfl rfl) ?_
     refine TD.as (pend':=[]) [] rfl rfl (zj rfl rfl) ?_
     refine TD.fin ?_
     refine au [] ?_
     refine TK.rt hret [(0,_),(s,_),(h,_),(e,_),(j,_),(j2,_)] ?_
     exact .inr (.inl ⟨hbar,hno,rfl,rfl⟩)
    ·try simp only [List.cons_append,List.nil_append]
     refine TD.norm (env':=[_,_,_,_,_,_,_,_,_,_,_,_,_,_,_,_,_,_,_,_,_,_,_,_,_,_,_,_,_,_,_,_,_,_,_,_,_,_]) rfl ?_
     refine TD.z [30] rfl (zd rfl rfl) ?_
     refine TD.z [25] rfl (zD rfl rfl rfl) ?_
     refine TD.z [25] rfl (zD rfl rfl rfl) ?_
     refine TD.cnewP (pend':=[⟨7,[25],[]⟩,⟨6,[25],[]⟩,⟨5,[30],[]⟩]) [] rfl rfl rfl rfl rfl (zZ rfl TyZA.h) (fun _=>putS rfl (by simp only [List.set]; rfl)) sQ fun j8 hj8=>?_
     refine TD.s (pend':=[⟨7,[25],[]⟩]) [11,31] rfl rfl (zt rfl rfl TySz.h rfl rfl mQ rfl) ?_
     refine TD.as (pend':=[]) [32] rfl rfl (zj rfl rfl) ?_
     refine TD.fin ?_
     refine au [4] ?_
     refine TK.draw [0,1,2,3,4,5,6,7,8] [0,1,5,2,3,6,4,7,8] (by kernel_rfl) (by kernel_rfl) ?_
     refine TD.z [11] rfl (zc rfl rfl FldOf.h dQ) ?_
     refine TD.y [33] rfl (hq:=ze rfl rfl TySz.h (List.Mem.head _) rfl) (h:=?_)
     refine TD.z [11] rfl (zc rfl rfl FldOf.h dQ) ?_
     refine TD.y [35] rfl (hq:=ze rfl rfl TySz.h (List.Mem.head _) rfl) (h:=?_)
     refine TD.z [8] rfl (zd rfl rfl) ?_
     refine TD.as (pend':=[⟨4,[8],[]⟩,⟨3,[35],[(_,_)]⟩,⟨2,[11],[]⟩]) [34] rfl rfl (zj rfl rfl) ?_
     refine TD.as (pend':=[⟨4,[8],[]⟩]) [36] rfl rfl (zj rfl rfl) ?_
     refine TD.as (pend':=[]) [37] rfl rfl (zj rfl rfl) ?_
     refine TD.as (pend':=[]) [] rfl rfl (zj rfl rfl) ?_
     refine TD.fin ?_
     refine au [] ?_
     refine TK.rt hret [(jw,_),(0,_),(s,_),(h,_),(e,_),(j,_),(j2,_)] ?_
     exact .inr (.inr ⟨hbar,w,q,jw,hso,rfl,rfl⟩)
   ·refine kX rfl (zZ rfl TyZA.h) (fun _=>putS rfl (by simp only [List.set]; rfl)) sQ fun j8 hj8=>?_
    refine TD.cl (pend':=[]) [26,27,29] rfl rfl rfl rfl rfl ((wG hT hbb hcc hss).mono (fun _ _ h=>kZ h)) (fun r10 K11 h12=>⟨?_,?_⟩)
    ·rcases h12 with ⟨hno,rfl,rfl⟩ | ⟨w,q,jw,hso,rfl,rfl⟩
     all_goals simp
    rcases h12 with ⟨hno,rfl,rfl⟩ | ⟨w,q,jw,hso,rfl,rfl⟩
    ·try simp only [List.cons_append,List.nil_append]
     refine TD.norm (by simp only [List.set]; rfl) ?_
     refine TD.z [30] rfl (zd rfl rfl) ?_
     refine TD.z [25] rfl (zD rfl rfl rfl) ?_
     refine TD.z [25] rfl (zD rfl rfl rfl) ?_
     refine TD.s (pend':=[⟨7,[25],[]⟩]) [11,31] rfl rfl (zt rfl rfl TySz.h rfl rfl mQ rfl) ?_
     refine TD.as (pend':=[]) [32] rfl rfl (zj rfl rfl) ?_
     refine TD.fin ?_
     refine au [4] ?_
     refine TK.draw [0,1,2,3,4,5,6,7,8] [0,1,5,2,3,6,4,7,8] (by kernel_rfl) (by kernel_rfl) ?_
     refine TD.z [11] rfl (zc rfl rfl FldOf.h dQ) ?_
     refine TD.y [33] rfl (hq:=ze rfl rfl TySz.h (List.Mem.head _) rfl) (h:=?_)
     refine TD.z [11] rfl (zc rfl rfl FldOf.h dQ) ?_
     refine TD.y [35] rfl (hq:=ze rfl rfl TySz.h (List.Mem.head _) rfl) (h:=?_)
     refine TD.z [8] rfl (zd rfl rfl) ?_
     refine TD.as (pend':=[⟨4,[8],[]⟩,⟨3,[35],[(_,_)]⟩,⟨2,[11],[]⟩]) [34] rfl rfl (zj rfl rfl) ?_
     refine TD.as (pend':=[⟨4,[8],[]⟩]) [36] rfl rfl (zj rfl rfl) ?_
     refine TD.as (pend':=[]) [37] rfl rfl (zj rfl rfl) ?_
     refine TD.as (pend':=[]) [] rfl rfl (zj rfl rfl) ?_
     refine TD.fin ?_
     refine au [] ?_
     refine TK.rt hret [(0,_),(s,_),(h,_),(e,_),(j,_),(j2,_)] ?_
     exact .inr (.inl ⟨hbar,hno,rfl,rfl⟩)
    ·try simp only [List.cons_append,List.nil_append]
     refine TD.norm (by simp only [List.set]; rfl) ?_
     refine TD.z [30] rfl (zd rfl rfl) ?_
     refine TD.z [25] rfl (zD rfl rfl rfl) ?_
     refine TD.z [25] rfl (zD rfl rfl rfl) ?_
     refine TD.s (pend':=[⟨7,[25],[]⟩]) [11,31] rfl rfl (zt rfl rfl TySz.h rfl rfl mQ rfl) ?_
     refine TD.as (pend':=[]) [32] rfl rfl (zj rfl rfl) ?_
     refine TD.fin ?_
     refine au [4] ?_
     refine TK.draw [0,1,2,3,4,5,6,7,8] [0,1,5,2,3,6,4,7,8] (by kernel_rfl) (by kernel_rfl) ?_
     refine TD.z [11] rfl (zc rfl rfl FldOf.h dQ) ?_
     refine TD.y [33] rfl (hq:=ze rfl rfl TySz.h (List.Mem.head _) rfl) (h:=?_)
     refine TD.z [11] rfl (zc rfl rfl FldOf.h dQ) ?_
     refine TD.y [35] rfl (hq:=ze rfl rfl TySz.h (List.Mem.head _) rfl) (h:=?_)
     refine TD.z [8] rfl (zd rfl rfl) ?_
     refine TD.as (pend':=[⟨4,[8],[]⟩,⟨3,[35],[(_,_)]⟩,⟨2,[11],[]⟩]) [34] rfl rfl (zj rfl rfl) ?_
     refine TD.as (pend':=[⟨4,[8],[]⟩]) [36] rfl rfl (zj rfl rfl) ?_
     refine TD.as (pend':=[]) [37] rfl rfl (zj rfl rfl) ?_
     refine TD.as (pend':=[]) [] rfl rfl (zj rfl rfl) ?_
     refine TD.fin ?_
     refine au [] ?_
     refine TK.rt hret [(jw,_),(0,_),(s,_),(h,_),(e,_),(j,_),(j2,_)] ?_
     exact .inr (.inr ⟨hbar,w,q,jw,hso,rfl,rfl⟩)
  ·refine kX rfl (zZ rfl TyZA.h) (fun _=>putS rfl (by simp only [List.set]; rfl)) sQ fun j8 hj8=>?_
   refine TD.cl (pend':=[⟨1,[1],[]⟩,⟨0,[10],[(_,_)]⟩]) [28] rfl rfl rfl rfl rfl (vZ hT oQ oQ) (fun r13 K14 h15=>⟨?_,?_⟩)
   ·rcases h15 with ⟨rfl,rfl⟩
    all_goals simp
   obtain ⟨rfl,rfl⟩:=h15
   try simp only [List.cons_append,List.nil_append]
   refine TD.norm (by simp only [List.set]; rfl) ?_
   refine TD.cl (pend':=[]) [26,27,29] rfl rfl rfl rfl rfl ((wG hT hbb hcc hss).mono (fun _ _ h=>kZ h)) (fun r16 K17 h18=>⟨?_,?_⟩)
   ·rcases h18 with ⟨hno,rfl,rfl⟩ | ⟨w,q,jw,hso,rfl,rfl⟩
    all_goals simp
   rcases h18 with ⟨hno,rfl,rfl⟩ | ⟨w,q,jw,hso,rfl,rfl⟩
   ·try simp only [List.cons_append,List.nil_append]
    refine TD.norm (by simp only [List.set]; rfl) ?_
    refine TD.z [30] rfl (zd rfl rfl) ?_
    refine TD.z [25] rfl (zD rfl rfl rfl) ?_
    refine TD.z [25] rfl (zD rfl rfl rfl) ?_
    refine TD.s (pend':=[⟨7,[25],[]⟩]) [11,31] rfl rfl (zt rfl rfl TySz.h rfl rfl mQ rfl) ?_
    refine TD.as (pend':=[]) [32] rfl rfl (zj rfl rfl) ?_
    refine TD.fin ?_
    refine au [4] ?_
    refine TK.draw [0,1,2,3,4,5,6,7,8] [0,1,5,2,3,6,4,7,8] (by kernel_rfl) (by kernel_rfl) ?_
    refine TD.z [11] rfl (zc rfl rfl FldOf.h dQ) ?_
    refine TD.y [33] rfl (hq:=ze rfl rfl TySz.h (List.Mem.head _) rfl) (h:=?_)
    refine TD.z [11] rfl (zc rfl rfl FldOf.h dQ) ?_
    refine TD.y [35] rfl (hq:=ze rfl rfl TySz.h (List.Mem.head _) rfl) (h:=?_)
    refine TD.z [8] rfl (zd rfl rfl) ?_
    refine TD.as (pend':=[⟨4,[8],[]⟩,⟨3,[35],[(_,_)]⟩,⟨2,[11],[]⟩]) [34] rfl rfl (zj rfl rfl) ?_
    refine TD.as (pend':=[⟨4,[8],[]⟩]) [36] rfl rfl (zj rfl rfl) ?_
    refine TD.as (pend':=[]) [37] rfl rfl (zj rfl rfl) ?_
    refine TD.as (pend':=[]) [] rfl rfl (zj rfl rfl) ?_
    refine TD.fin ?_
    refine au [] ?_
    refine TK.rt hret [(0,_),(s,_),(h,_),(e,_),(j,_),(j2,_)] ?_
    exact .inr (.inl ⟨hbar,hno,rfl,rfl⟩)
   ·try simp only [List.cons_append,List.nil_append]
    refine TD.norm (by simp only [List.set]; rfl) ?_
    refine TD.z [30] rfl (zd rfl rfl) ?_
    refine TD.z [25] rfl (zD rfl rfl rfl) ?_
    refine TD.z [25] rfl (zD rfl rfl rfl) ?_
    refine TD.s (pend':=[⟨7,[25],[]⟩]) [11,31] rfl rfl (zt rfl rfl TySz.h rfl rfl mQ rfl) ?_
    refine TD.as (pend':=[]) [32] rfl rfl (zj rfl rfl) ?_
    refine TD.fin ?_
    refine au [4] ?_
    refine TK.draw [0,1,2,3,4,5,6,7,8] [0,1,5,2,3,6,4,7,8] (by kernel_rfl) (by kernel_rfl) ?_
    refine TD.z [11] rfl (zc rfl rfl FldOf.h dQ) ?_
    refine TD.y [33] rfl (hq:=ze rfl rfl TySz.h (List.Mem.head _) rfl) (h:=?_)
    refine TD.z [11] rfl (zc rfl rfl FldOf.h dQ) ?_
    refine TD.y [35] rfl (hq:=ze rfl rfl TySz.h (List.Mem.head _) rfl) (h:=?_)
    refine TD.z [8] rfl (zd rfl rfl) ?_
    refine TD.as (pend':=[⟨4,[8],[]⟩,⟨3,[35],[(_,_)]⟩,⟨2,[11],[]⟩]) [34] rfl rfl (zj rfl rfl) ?_
    refine TD.as (pend':=[⟨4,[8],[]⟩]) [36] rfl rfl (zj rfl rfl) ?_
    refine TD.as (pend':=[]) [37] rfl rfl (zj rfl rfl) ?_
    refine TD.as (pend':=[]) [] rfl rfl (zj rfl rfl) ?_
    refine TD.fin ?_
    refine au [] ?_
    refine TK.rt hret [(jw,_),(0,_),(s,_),(h,_),(e,_),(j,_),(j2,_)] ?_
    exact .inr (.inr ⟨hbar,w,q,jw,hso,rfl,rfl⟩)
 ·refine au [1,10,10,22] ?_
  intro j6 hj6
  refine au [17,2,3,4,4,5,1,6,3,20] ?_
  refine ⟨fun hc0=>?_,fun hc0=>?_⟩
  ·
   refine au [4,5,1,2,2,2,2,3] ?_
   refine TK.rt hret [(0,_),(s,_),(h,_),(e,_),(j,_),(j2,_)] ?_
   exact .inl ⟨hbar,rfl,rfl⟩
  exact absurd hbar (by simpa using hc0)
theorem zb2 {main:Bool} {T:Goroutine->Hp->Prop} (hT:Shut Tryz.prog main T)  {b:RBk} {s h e j j2:Nat} {l st:List Int} {et et2:TypeId} (hl:b.seams.length<=100) (hm:b.measures.length<=100) (hll:l.length<=1000) :
  CallK Tryz.prog T gmR 30 [.agg (rollC b s h e),.sl j 0 l.length,.sl j2 0 st.length] [(0,checksG),(s,seamO b),(h,shrO b),(e,measO b),(j,.cells (l.map intA) et false),(j2,.cells (st.map intA) et2 false)] (fun r K'=>(bar2 (checkM b) (bar2 (cutsM b l) (shM b st))≠0/\r=.tup [.v (.slice none 0 0),boolA false,intA (bar2 (checkM b) (bar2 (cutsM b l) (shM b st)))]/\K'=[(0,checksG),(s,seamO b),(h,shrO b),(e,measO b),(j,.cells (l.map intA) et false),(j2,.cells (st.map intA) et2 false)])\/(bar2 (checkM b) (bar2 (cutsM b l) (shM b st))=0/\hangM b l st=none/\r=.tup [.v (.slice none 0 0),boolA false,intA 0]/\K'=[(0,checksG),(s,seamO b),(h,shrO b),(e,measO b),(j,.cells (l.map intA) et false),(j2,.cells (st.map intA) et2 false)])\/(bar2 (checkM b) (bar2 (cutsM b l) (shM b st))=0/\∃ w q jr,hangM b l st=some (w,q)/\r=.tup [.row jr l.length,boolA true,intA 0]/\K'=(jr,.row ((placesM b l st w).map intA) 3 1)::[(0,checksG),(s,seamO b),(h,shrO b),(e,measO b),(j,.cells (l.map intA) et false),(j2,.cells (st.map intA) et2 false)])):=by
 refine zf 77 hT Tryz.func30 fun Y hret=>?_
 refine au [4,5,21] ?_
 intro jb hjb
 refine au [2,2,2,3,4,5,8,1,32,1,32] ?_
 refine TK.newR rfl rfl rfl (zg (l:=[_,_]) rfl SlEl.h TyZ.h dQ dQ rfl) (fun _=>putS rfl (by simp only [List.set]; rfl)) fun ja hja=>?_
 refine TK.cl rfl rfl rfl rfl (xH hT (Kx:=[(j,.cells (l.map intA) et false),(j2,.cells (st.map intA) et2 false)]) (p1:=cutsM b l) (p2:=shM b st) hl hm (fun h0=>zT Cal.h ((ko hT (zp h0).sms.len.2 hll).frameP (R:=[(s,seamO b),(j2,.cells (st.map intA) et2 false)]) (List.Perm.swap _ _ _))) (fun h0=>zT Cal.h ((zco hT (zp h0).rnd (zp h0).sms).frameP (R:=[(j,.cells (l.map intA) et false)]) ((List.Perm.swap _ _ _).cons _)))) ?_
 rintro r1 K2 h3
 rcases h3 with ⟨⟨hbar,rfl⟩ | ⟨hbar,rfl⟩,rfl⟩
 ·refine au [1,10,10,22] ?_
  intro j6 hj6
  refine au [17,2,3,4,4,5,1,6,3,20] ?_
  refine ⟨fun hc0=>?_,fun hc0=>?_⟩
  ·exact absurd hc0 sQ
  have hbb:=zp (yZ hbar)
  have hcc:=kW (yZ (yB hbar))
  have hss:=ze7 (yB (yB hbar))
  have h5:=hbb.sms.len
  have hsl:=hss.len
  refine au [12,4,5,1] ?_
  refine TK.cl rfl rfl rfl rfl (vZ hT oQ oQ) ?_
  rintro r4 K5 ⟨rfl,rfl⟩
  refine au [22] ?_
  intro js hjs
  refine au [17,3,4,5,8,1,8] ?_
  refine TK.cl rfl rfl rfl rfl ((wG hT hbb hcc hss).mono (fun _ _ h=>kZ h)) ?_
  rintro r7 K8 h9
  rcases h9 with ⟨hno,rfl,rfl⟩ | ⟨w,q,jw,hso,rfl,rfl⟩
  ·refine au [1,10,10,22] ?_
   intro jw8 hjw8
   refine au [17,2,3,4,4,5,1,30,3,20] ?_
   refine ⟨fun hc1=>?_,fun hc1=>?_⟩
   ·
    refine au [4,5,2,2,2,3] ?_
    refine TK.rt hret [(0,_),(s,_),(h,_),(e,_),(j,_),(j2,_)] ?_
    exact .inr (.inl ⟨hbar,hno,rfl,rfl⟩)
   exact absurd hc1 dQ
  ·refine au [1,10,10,22] ?_
   intro jw8 hjw8
   refine au [17,2,3,4,4,5,1,30,3,20] ?_
   refine ⟨fun hc1=>?_,fun hc1=>?_⟩
   ·exact absurd hc1 dQ
   obtain ⟨hwl,hwb⟩:=zeu hbb hcc hss hso
   refine au [12,4,5,2] ?_
   refine TK.virt 6 3 1 rfl fun jr0 hjr0=>?_
   refine au [3,4,4,5,1,28,1,3,13] ?_
   refine TK.maskL [1,6,9,10,11,12,39,40,41] ?_
   refine TK.kp [(0,_),(s,_),(h,_),(e,_),(j,_),(j2,_),(jw,_),(jw8,_),(js,_),(j6,_),(jr0,_)] ?_
   refine TK.loopN (fun n env K=>∃ (i jr:Nat) (at0:Int),n=l.length - i/\i<=l.length/\(i<l.length->at0+(if i=0 then 0 else togM b st (cutN l (i - 1)).toNat (cutN l i - cutN l (i - 1)).toNat+cutN w i)=atM b l st w i)/\(0<=at0/\at0<=1000)/\env=[.any,.sl j 0 l.length,.any,.any,.any,.any,.row jr i,.any,.any,.ptr j6 0,.ptr js 0,.ptr jw8 0,intA at0,.any,.any,.any,.any,.any,.any,.any,.any,.any,.any,.any,.any,.any,.any,.any,.any,.any,.any,.any,.any,.any,.any,.any,.any,.any,.any,.sl j 0 l.length,intA l.length,intA i,.any,.any,.any,.any,.any,.any,.any,.any,.any,.any,.any,.any,.any,.any,.any,.any,.any,.any,.any,.any,.any,.any,.any,.any,.any,.any,.any,.any,.any,.any,.any,.any,.any,.any,.any]/\K=[(0,checksG),(s,seamO b),(h,shrO b),(e,measO b),(j,.cells (l.map intA) et false),(j2,.cells (st.map intA) et2 false),(jw,.cells (w.map intA) 3 false),(jw8,.cells [.sl jw 0 w.length,intA q] 125 true),(js,.cells (stC st) 129 true),(j6,.cells (rollC b s h e) 113 true),(jr,.row (((List.range i).map (atM b l st w)).map intA) 3 1)]) l.length ⟨0,jr0,0,rfl,Nat.zero_le _,fun _=>rfl,⟨Int.le_refl _,by decide⟩,rfl,rfl⟩ fun n env K hI hnext=>?_
   obtain ⟨i,jr,at0,rfl,hi,hat,hatb,rfl,rfl⟩:=hI
   refine au [4,5,6,3,4,20] ?_
   refine ⟨fun hc2=>?_,fun hc2=>?_⟩
   ·have hil:i<l.length:=by simp at hc2; omega
    have qi:=hcc.lt hil
    have hcl:=hcc.len
    refine au [12,4,13,4,5,1,36] ?_
    refine TK.a rfl (ze rfl rfl TySz.h mQ (zF (i:=i) (zy hil) rfl)) ?_
    refine au [2,2,3,4,4,5,1,6,3,20] ?_
    refine ⟨fun hc3=>?_,fun hc3=>?_⟩
    ·have hi0:0<i:=by simp at hc3; omega
     have qp:=hcc.lt (k:=i - 1) oQ
     have hlt:=zhL hcc (k:=i - 1) oQ
     rw [show i - 1+1=i by omega] at hlt
     have htb:=uR hbb hss (c:=(cutN l (i - 1)).toNat) (cutN l i - cutN l (i - 1)).toNat
     have hwi:0<=cutN w i/\cutN w i<=9:=hwb i
     have hnew:=hat hil
     rw [if_neg oQ] at hnew
     refine TK.draw [0,1,2,3,4,5,6,7,8,9,10,11,12,13,14,16,17,18,19,20,15,21,22,23] [0,1,2,3,4,5,6,7,8,9,10,11,12,13,14,15,16,17,18,19,20,21,22,23] (by kernel_rfl) (by kernel_rfl) ?_
     refine TD.z [12] rfl (zd rfl rfl) ?_
     refine TD.y [9] rfl (hq:=zx rfl rfl TySz.h (List.Mem.head _) rfl) (h:=?_)
     refine TD.z [1] rfl (zd rfl rfl) ?_
     refine TD.z [13] rfl (zd rfl rfl) ?_
     refine TD.z [51] rfl (q_sub rfl rfl rfl oQ) ?_
     refine TD.z [50,52] rfl (zm rfl rfl rfl SlEl.h oQ oQ) ?_
     refine TD.y [53] rfl (hq:=ze rfl rfl TySz.h (List.Mem.head _) (zF (i:=i - 1) (zy oQ) oQ)) (h:=?_)
     refine TD.z [14] rfl (zd rfl rfl) ?_
     refine TD.z [1] rfl (zd rfl rfl) ?_
     refine TD.z [13] rfl (zd rfl rfl) ?_
     refine TD.z [57] rfl (q_sub rfl rfl rfl oQ) ?_
     refine TD.z [56,58] rfl (zm rfl rfl rfl SlEl.h oQ oQ) ?_
     refine TD.y [59] rfl (hq:=ze rfl rfl TySz.h (List.Mem.head _) (zF (i:=i - 1) (zy oQ) oQ)) (h:=?_)
     refine TD.z [55,60] rfl (q_sub rfl rfl rfl oQ) ?_
     refine TD.y [10] rfl (hq:=zx rfl rfl TySz.h (List.Mem.head _) rfl) (h:=?_)
     refine TD.z [11] rfl (zc rfl rfl FldOf.h dQ) ?_
     refine TD.y [64] rfl (hq:=ze rfl rfl TySz.h (List.Mem.head _) rfl) (h:=?_)
     refine TD.z [13] rfl (zd rfl rfl) ?_
     refine TD.z [65,66] rfl (zm rfl rfl rfl SlEl.h oQ oQ) ?_
     refine TD.y [67] rfl (hq:=ze rfl rfl TySz.h (List.Mem.head _) (zF (i:=i) (zy (l:=w) oQ) rfl)) (h:=?_)
     refine TD.cl (pend':=[⟨20,[67],[(_,_)]⟩,⟨19,[65,66],[]⟩,⟨18,[13],[]⟩,⟨17,[64],[(_,_)]⟩,⟨16,[11],[]⟩,⟨12,[59],[(_,_)]⟩,⟨11,[56,58],[]⟩,⟨10,[57],[]⟩,⟨9,[13],[]⟩,⟨8,[1],[]⟩,⟨7,[14],[]⟩,⟨5,[50,52],[]⟩,⟨4,[51],[]⟩,⟨3,[13],[]⟩,⟨2,[1],[]⟩,⟨0,[12],[]⟩]) [49,54,61,62] rfl rfl rfl rfl rfl (zfe hT (c:=cutN l (i - 1)) (k:=cutN l i - cutN l (i - 1)) hbb hss oQ oQ) (fun r10 K11 h12=>⟨?_,?_⟩)
     ·rcases h12 with ⟨rfl,rfl⟩
      all_goals simp
     obtain ⟨rfl,rfl⟩:=h12
     try simp only [List.cons_append,List.nil_append]
     refine TD.norm (by simp only [List.set]; rfl) ?_
     refine TD.z [63,68] rfl (q_add rfl rfl rfl oQ) ?_
     refine TD.z [48,69] rfl (q_add rfl rfl rfl oQ) ?_
     refine TD.as (pend':=[]) [70] rfl rfl (zj rfl rfl) ?_
     refine TD.fin ?_
     refine au [5,1,1] ?_
     refine TK.newR rfl rfl rfl (zg (l:=[_]) rfl SlEl.h TyZ.h dQ dQ rfl) (fun _=>putS rfl (by simp only [List.set]; rfl)) fun j13 hj13=>?_
     refine TK.appR rfl rfl rfl (a_app rfl ApOf.h rfl mQ sQ rfl (zL (ln:=[_]) mQ dQ sQ rfl) oQ rfl (by unfold maxLen; omega) oQ) (fun _=>uQ) (fun _=>putS rfl (by simp only [List.set]; rfl)) fun jr2=>?_
     refine au [2,3,14,5,23,1,3] ?_
     refine TK.maskL [1,6,9,10,11,12,39,40,41] ?_
     refine TK.kp [(0,_),(s,_),(h,_),(e,_),(j,_),(j2,_),(jw,_),(jw8,_),(js,_),(j6,_),(jr2,_)] ?_
     exact hnext _ _ _ oQ ⟨i+1,jr2,atM b l st w i,rfl,by omega,fun hh=>by rw [if_neg oQ]; rfl,by have:=at_bd hbb hcc hss hwb i hil; omega,by rw [hnew]; rfl,by rw [hnew,List.range_succ,List.map_append,List.map_append]; rfl⟩
    obtain rfl:i=0:=by simp at hc3; omega
    have hnew:at0=atM b l st w 0:=by have:=hat hil; rw [if_pos rfl,Int.add_zero] at this; exact this
    refine au [12,5,1,1] ?_
    refine TK.newR rfl rfl rfl (zg (l:=[_]) rfl SlEl.h TyZ.h dQ dQ rfl) (fun _=>putS rfl (by simp only [List.set]; rfl)) fun j14 hj14=>?_
    refine TK.appR rfl rfl rfl (a_app rfl ApOf.h rfl mQ sQ rfl (zL (ln:=[_]) mQ dQ sQ rfl) oQ rfl (by unfold maxLen; omega) oQ) (fun _=>uQ) (fun _=>putS rfl (by simp only [List.set]; rfl)) fun jr2=>?_
    refine au [2,3,14,5,23,1,3] ?_
    refine TK.maskL [1,6,9,10,11,12,39,40,41] ?_
    refine TK.kp [(0,_),(s,_),(h,_),(e,_),(j,_),(j2,_),(jw,_),(jw8,_),(js,_),(j6,_),(jr2,_)] ?_
    exact hnext _ _ _ oQ ⟨0+1,jr2,atM b l st w 0,rfl,by omega,fun hh=>by rw [if_neg oQ]; rfl,by have:=at_bd hbb hcc hss hwb 0 hil; omega,by rw [hnew]; rfl,by rw [hnew,List.range_succ,List.map_append,List.map_append]; rfl⟩
   obtain rfl:i=l.length:=by simp at hc2; omega
   refine au [16,4,5,1,2,2,2,3] ?_
   refine TK.rt hret [(jr,_),(0,_),(s,_),(h,_),(e,_),(j,_),(j2,_)] ?_
   exact .inr (.inr ⟨hbar,w,q,jr,hso,rfl,rfl⟩)
 ·refine au [1,10,10,22] ?_
  intro j6 hj6
  refine au [17,2,3,4,4,5,1,6,3,20] ?_
  refine ⟨fun hc0=>?_,fun hc0=>?_⟩
  ·
   refine au [4,5,1,2,2,2,3] ?_
   refine TK.rt hret [(0,_),(s,_),(h,_),(e,_),(j,_),(j2,_)] ?_
   exact .inl ⟨hbar,rfl,rfl⟩
  exact absurd hbar (by simpa using hc0)
theorem vt {Ψ:Goroutine->World->Prop} {b:RBk} {s h e:Nat} (hl:b.seams.length<=100) (hm:b.measures.length<=100) :
  CallK Tryz.prog (BT Tryz.prog Ψ) gmR 32 [.agg (rollC b s h e)] [(0,checksG),(s,seamO b),(h,shrO b),(e,measO b)] (fun r K'=>(checkM b≠0/\r=.tup [.v (.slice none 0 0),intA 0,boolA false,intA (checkM b)]/\K'=[(0,checksG),(s,seamO b),(h,shrO b),(e,measO b)])\/(checkM b=0/\statesM b=[]/\r=.tup [.v (.slice none 0 0),intA 0,boolA false,intA 9]/\K'=[(0,checksG),(s,seamO b),(h,shrO b),(e,measO b)])\/(checkM b=0/\statesM b≠[]/\((NoPlan b (statesM b)/\r=.tup [.v (.slice none 0 0),intA 0,boolA false,intA 0]/\K'=[(0,checksG),(s,seamO b),(h,shrO b),(e,measO b)])\/∃ c jc ec,PlanA b (statesM b) cheaperM c/\r=.tup [.sl jc 0 (bitsM c b.seams.length).length,intA (sqHi b (statesM b) (bitsM c b.seams.length)),boolA true,intA 0]/\K'=(jc,.cells ((bitsM c b.seams.length).map intA) ec false)::[(0,checksG),(s,seamO b),(h,shrO b),(e,measO b)]))):=by
 have hT:=yC (P:=Tryz.prog) Ψ
 refine zf 26 hT Tryz.func32 fun Y hret=>?_
 refine au [4,5,21] ?_
 intro jb hjb
 refine au [2,2,2,2,3,4,5,8] ?_
 refine TK.cl rfl rfl rfl rfl (kJ hT (Kx:=[]) hl hm) ?_
 rintro r1 K2 h3
 rcases h3 with ⟨hbar,rfl,rfl⟩ | ⟨hbar,hnil,rfl,rfl⟩ | ⟨hbar,hne,a,rfl,rfl⟩
 ·refine au [1,10,10,22] ?_
  intro j6 hj6
  refine au [17,2,3,4,4,5,1,6,3,20] ?_
  refine ⟨fun hc0=>?_,fun hc0=>?_⟩
  ·
   refine au [4,5,1,2,2,2,2,3] ?_
   refine TK.rt hret [(0,_),(s,_),(h,_),(e,_)] ?_
   exact .inl ⟨hbar,rfl,rfl⟩
  exact absurd hbar (by simpa using hc0)
 ·refine au [1,10,10,22] ?_
  intro j6 hj6
  refine au [17,2,3,4,4,5,1,6,3,20] ?_
  refine ⟨fun hc0=>?_,fun hc0=>?_⟩
  ·
   refine au [4,5,1,2,2,2,2,3] ?_
   refine TK.rt hret [(0,_),(s,_),(h,_),(e,_)] ?_
   exact .inr (.inl ⟨hbar,hnil,rfl,rfl⟩)
  exact absurd hc0 dQ
 ·refine au [1,10,10,22] ?_
  intro j6 hj6
  refine au [17,2,3,4,4,5,1,6,3,20] ?_
  refine ⟨fun hc0=>?_,fun hc0=>?_⟩
  ·exact absurd hc0 sQ
  have hbb:=zp hbar
  have hlen:=yF hbb
  have hpos:0<(statesM b).length:=List.length_pos_iff.2 hne
  have hall:okAll b (statesM b):=fun st hst=>(yg hbb hst).1
  refine au [12,4,5,8] ?_
  refine TK.cl rfl rfl rfl rfl (uG (bt:=cheaperM) hbb hall hlen hpos za7 (fun _ _ _ _ _ _=>zcB _ _) (fun hT1 jr cs cost cs0 cost0 j0 e0 hlen=>zT Cal.h (zdD hT1 oQ))) ?_
  rintro r4 K5 h6
  rcases h6 with ⟨rfl,rfl,hno⟩ | ⟨c,jc,ec,hq0,hq1,hok,hbest,rfl,rfl⟩
  ·refine au [1,10,10,22] ?_
   intro j7 hj7
   refine au [17,2,3,4] ?_
   refine TK.draw [0,1,2,3,4,5,6,7,8] [0,1,5,2,3,6,4,7,8] (by kernel_rfl) (by kernel_rfl) ?_
   refine TD.z [7] rfl (zc rfl rfl FldOf.h dQ) ?_
   refine TD.y [21] rfl (hq:=ze rfl rfl TySz.h (List.Mem.head _) rfl) (h:=?_)
   refine TD.z [7] rfl (zc rfl rfl FldOf.h dQ) ?_
   refine TD.y [23] rfl (hq:=ze rfl rfl TySz.h (List.Mem.head _) rfl) (h:=?_)
   refine TD.z [4] rfl (zd rfl rfl) ?_
   refine TD.as (pend':=[⟨4,[4],[]⟩,⟨3,[23],[(_,_)]⟩,⟨2,[7],[]⟩]) [22] rfl rfl (zj rfl rfl) ?_
   refine TD.as (pend':=[⟨4,[4],[]⟩]) [24] rfl rfl (zj rfl rfl) ?_
   refine TD.as (pend':=[]) [25] rfl rfl (zj rfl rfl) ?_
   refine TD.as (pend':=[]) [] rfl rfl (zj rfl rfl) ?_
   refine TD.fin ?_
   refine au [] ?_
   refine TK.rt hret [(0,_),(s,_),(h,_),(e,_)] ?_
   exact .inr (.inr ⟨hbar,hne,.inl ⟨hno,rfl,rfl⟩⟩)
  ·refine au [1,10,10,22] ?_
   intro j7 hj7
   refine au [17,2,3,4] ?_
   refine TK.draw [0,1,2,3,4,5,6,7,8] [0,1,5,2,3,6,4,7,8] (by kernel_rfl) (by kernel_rfl) ?_
   refine TD.z [7] rfl (zc rfl rfl FldOf.h dQ) ?_
   refine TD.y [21] rfl (hq:=ze rfl rfl TySz.h (List.Mem.head _) rfl) (h:=?_)
   refine TD.z [7] rfl (zc rfl rfl FldOf.h dQ) ?_
   refine TD.y [23] rfl (hq:=ze rfl rfl TySz.h (List.Mem.head _) rfl) (h:=?_)
   refine TD.z [4] rfl (zd rfl rfl) ?_
   refine TD.as (pend':=[⟨4,[4],[]⟩,⟨3,[23],[(_,_)]⟩,⟨2,[7],[]⟩]) [22] rfl rfl (zj rfl rfl) ?_
   refine TD.as (pend':=[⟨4,[4],[]⟩]) [24] rfl rfl (zj rfl rfl) ?_
   refine TD.as (pend':=[]) [25] rfl rfl (zj rfl rfl) ?_
   refine TD.as (pend':=[]) [] rfl rfl (zj rfl rfl) ?_
   refine TD.fin ?_
   refine au [] ?_
   refine TK.rt hret [(jc,_),(0,_),(s,_),(h,_),(e,_)] ?_
   exact .inr (.inr ⟨hbar,hne,.inr ⟨c,jc,ec,⟨hq0,hq1,hok,hbest⟩,rfl,rfl⟩⟩)
theorem kc {Ψ:Goroutine->World->Prop} {b:RBk} {s h e:Nat} (hl:b.seams.length<=100) (hm:b.measures.length<=100) :
  CallK Tryz.prog (BT Tryz.prog Ψ) gmR 34 [.agg (rollC b s h e)] [(0,checksG),(s,seamO b),(h,shrO b),(e,measO b)] (fun r K'=>(checkM b≠0/\r=.tup [.v (.slice none 0 0),boolA false,intA (checkM b)]/\K'=[(0,checksG),(s,seamO b),(h,shrO b),(e,measO b)])\/(checkM b=0/\statesM b=[]/\r=.tup [.v (.slice none 0 0),boolA false,intA 9]/\K'=[(0,checksG),(s,seamO b),(h,shrO b),(e,measO b)])\/(checkM b=0/\statesM b≠[]/\((NoPlan b (statesM b)/\r=.tup [.v (.slice none 0 0),boolA false,intA 0]/\K'=[(0,checksG),(s,seamO b),(h,shrO b),(e,measO b)])\/∃ c jc ec,PlanA b (statesM b) shorterM c/\r=.tup [.sl jc 0 (bitsM c b.seams.length).length,boolA true,intA 0]/\K'=(jc,.cells ((bitsM c b.seams.length).map intA) ec false)::[(0,checksG),(s,seamO b),(h,shrO b),(e,measO b)]))):=by
 have hT:=yC (P:=Tryz.prog) Ψ
 refine zf 23 hT Tryz.func34 fun Y hret=>?_
 refine au [4,5,21] ?_
 intro jb hjb
 refine au [2,2,2,3,4,5,8] ?_
 refine TK.cl rfl rfl rfl rfl (kJ hT (Kx:=[]) hl hm) ?_
 rintro r1 K2 h3
 rcases h3 with ⟨hbar,rfl,rfl⟩ | ⟨hbar,hnil,rfl,rfl⟩ | ⟨hbar,hne,a,rfl,rfl⟩
 ·refine au [1,10,10,22] ?_
  intro j6 hj6
  refine au [17,2,3,4,4,5,1,6,3,20] ?_
  refine ⟨fun hc0=>?_,fun hc0=>?_⟩
  ·
   refine au [4,5,1,2,2,2,3] ?_
   refine TK.rt hret [(0,_),(s,_),(h,_),(e,_)] ?_
   exact .inl ⟨hbar,rfl,rfl⟩
  exact absurd hbar (by simpa using hc0)
 ·refine au [1,10,10,22] ?_
  intro j6 hj6
  refine au [17,2,3,4,4,5,1,6,3,20] ?_
  refine ⟨fun hc0=>?_,fun hc0=>?_⟩
  ·
   refine au [4,5,1,2,2,2,3] ?_
   refine TK.rt hret [(0,_),(s,_),(h,_),(e,_)] ?_
   exact .inr (.inl ⟨hbar,hnil,rfl,rfl⟩)
  exact absurd hc0 dQ
 ·refine au [1,10,10,22] ?_
  intro j6 hj6
  refine au [17,2,3,4,4,5,1,6,3,20] ?_
  refine ⟨fun hc0=>?_,fun hc0=>?_⟩
  ·exact absurd hc0 sQ
  have hbb:=zp hbar
  have hlen:=yF hbb
  have hpos:0<(statesM b).length:=List.length_pos_iff.2 hne
  have hall:okAll b (statesM b):=fun st hst=>(yg hbb hst).1
  refine au [12,4,5,8] ?_
  refine TK.cl rfl rfl rfl rfl (uG (bt:=shorterM) hbb hall hlen hpos ui (zaZ hbb) (fun hT1 jr cs cost cs0 cost0 j0 e0 hlen=>zT Cal.h (xT hT1 oQ))) ?_
  rintro r4 K5 h6
  rcases h6 with ⟨rfl,rfl,hno⟩ | ⟨c,jc,ec,hq0,hq1,hok,hbest,rfl,rfl⟩
  ·refine au [1,10,10,22] ?_
   intro j7 hj7
   refine au [17,2,3,4,5,7,9,1,2,2,2,3] ?_
   refine TK.rt hret [(0,_),(s,_),(h,_),(e,_)] ?_
   exact .inr (.inr ⟨hbar,hne,.inl ⟨hno,rfl,rfl⟩⟩)
  ·refine au [1,10,10,22] ?_
   intro j7 hj7
   refine au [17,2,3,4,5,7,9,1,2,2,2,3] ?_
   refine TK.rt hret [(jc,_),(0,_),(s,_),(h,_),(e,_)] ?_
   exact .inr (.inr ⟨hbar,hne,.inr ⟨c,jc,ec,⟨hq0,hq1,hok,hbest⟩,rfl,rfl⟩⟩)
theorem kn {Ψ:Goroutine->World->Prop} {b:RBk} {s h e:Nat} (hl:b.seams.length<=100) (hm:b.measures.length<=100) :
  CallK Tryz.prog (BT Tryz.prog Ψ) gmR 36 [.agg (rollC b s h e)] [(0,checksG),(s,seamO b),(h,shrO b),(e,measO b)] (fun r K'=>(checkM b≠0/\r=.tup [intA 0,boolA false,intA (checkM b)]/\K'=[(0,checksG),(s,seamO b),(h,shrO b),(e,measO b)])\/(checkM b=0/\statesM b=[]/\r=.tup [intA 0,boolA false,intA 9]/\K'=[(0,checksG),(s,seamO b),(h,shrO b),(e,measO b)])\/(checkM b=0/\statesM b≠[]/\r=.tup [intA ((widestM b (statesM b)).getD 0),boolA (widestM b (statesM b)).isSome,intA 0]/\K'=[(0,checksG),(s,seamO b),(h,shrO b),(e,measO b)])):=by
 have hT:=yC (P:=Tryz.prog) Ψ
 refine zf 33 hT Tryz.func36 fun Y hret=>?_
 refine au [4,5,21] ?_
 intro jb hjb
 refine au [2,2,2,3,4,5,8] ?_
 refine TK.cl rfl rfl rfl rfl (kJ hT (Kx:=[]) hl hm) ?_
 rintro r1 K2 h3
 rcases h3 with ⟨hbar,rfl,rfl⟩ | ⟨hbar,hnil,rfl,rfl⟩ | ⟨hbar,hne,a,rfl,rfl⟩
 ·refine au [1,10,10,22] ?_
  intro j5 hj5
  refine au [17,2,3,4,4,5,1,6,3,20] ?_
  refine ⟨fun hc0=>?_,fun hc0=>?_⟩
  ·
   refine au [4,5,1,2,2,2,3] ?_
   refine TK.rt hret [(0,_),(s,_),(h,_),(e,_)] ?_
   exact .inl ⟨hbar,rfl,rfl⟩
  exact absurd hbar (by simpa using hc0)
 ·refine au [1,10,10,22] ?_
  intro j5 hj5
  refine au [17,2,3,4,4,5,1,6,3,20] ?_
  refine ⟨fun hc0=>?_,fun hc0=>?_⟩
  ·
   refine au [4,5,1,2,2,2,3] ?_
   refine TK.rt hret [(0,_),(s,_),(h,_),(e,_)] ?_
   exact .inr (.inl ⟨hbar,hnil,rfl,rfl⟩)
  exact absurd hc0 dQ
 ·refine au [1,10,10,22] ?_
  intro j5 hj5
  refine au [17,2,3,4,4,5,1,6,3,20] ?_
  refine ⟨fun hc0=>?_,fun hc0=>?_⟩
  ·exact absurd hc0 sQ
  have hbb:=zp hbar
  have hlen:=yF hbb
  have hpos:0<(statesM b).length:=List.length_pos_iff.2 hne
  have hall:okAll b (statesM b):=fun st hst=>(yg hbb hst).1
  have hst:=hbb.rnd.steps
  refine au [12,4,4,5,2,3,13] ?_
  refine TK.maskL [1,2,3,4,5] ?_
  refine TK.kp [(a,_),(0,_),(s,_),(h,_),(e,_),(jb,_),(j5,_)] ?_
  refine TK.loopN (fun n env K=>∃ (k:Nat) (r0:Int),n=k/\b.steps+k<=41/\widestL b (statesM b) k=widestM b (statesM b)/\env=[.any,.ptr jb 0,intA (b.steps+(k:Int) - 1),boolA false,intA 0,.ptr j5 0,.any,.any,.any,.any,.any,.any,.any,.any,.any,.any,.any,.any,.any,.any,.any,.any,.any,.any,.any,.any,.any,.any,.any,.any,.any,.any,.any]/\K=[(a,allO (statesM b)),(0,checksG),(s,seamO b),(h,shrO b),(e,measO b),(jb,.cells (rollC b s h e) 26 true),(j5,.cells (knownC (atRound b r0) s h e a (statesM b).length) 139 true)]) (41 - b.steps).toNat ⟨(41 - b.steps).toNat,b.round,rfl,by omega,rfl,by rw [show b.steps+((41 - b.steps).toNat:Int) - 1=40 by omega]; rfl,rfl⟩ fun n env K hI hnext=>?_
  obtain ⟨k1,r0,hn1,hk,hw,rfl,rfl⟩:=hI
  subst n
  refine au [4,4,5,1,7,9,6,3,20] ?_
  refine ⟨fun hc1=>?_,fun hc1=>?_⟩
  ·obtain ⟨k,rfl⟩:∃ k,k1=k+1:=⟨k1 - 1,by simp at hc1; omega⟩
   have hkk:b.steps+((k+1:Nat):Int) - 1=b.steps+(k:Int):=by omega
   rw [hkk]
   refine au [12,4,13,4,5,1,7,7,7,17,3,4,5,8] ?_
   refine TK.cl rfl rfl rfl rfl (uG (b:=atRound b (b.steps+k)) (bt:=shorterM) (vq hbb oQ oQ) (zcV hall _) hlen hpos ui (zaZ (vq hbb oQ oQ)) (fun hT1 jr cs cost cs0 cost0 j0 e0 hlen=>zT Cal.h (xT hT1 oQ))) ?_
   rintro r4 K5 h6
   rcases h6 with ⟨rfl,rfl,hno⟩ | ⟨c,jc,ec,hq0,hq1,hok,hbest,rfl,rfl⟩
   ·refine au [1,10,10,22] ?_
    intro j7 hj7
    refine au [17,2,3,4,5,1,3,20] ?_
    refine ⟨fun hc2=>?_,fun hc2=>?_⟩
    ·cases hc2
    refine au [12,14,5,1,24,2,3] ?_
    refine TK.maskL [1,2,3,4,5] ?_
    refine TK.kp [(a,_),(0,_),(s,_),(h,_),(e,_),(jb,_),(j5,_)] ?_
    exact hnext _ _ _ oQ ⟨k,b.steps+(k:Int),rfl,by omega,by rw [<- hw,show widestL b (statesM b) (k+1)=widestL b (statesM b) k from if_neg (by rw [zgH (b:=b) hno]; decide)],rfl,rfl⟩
   ·refine au [1,10,10,22] ?_
    intro j7 hj7
    refine au [17,2,3,4,5,1,3,20] ?_
    refine ⟨fun hc2=>?_,fun hc2=>?_⟩
    ·
     refine au [4,5,1,2,2,2,3] ?_
     refine TK.rt hret [(0,_),(s,_),(h,_),(e,_)] ?_
     exact .inr (.inr ⟨hbar,hne,by rw [<- hw,show widestL b (statesM b) (k+1)=some (b.steps+k) from if_pos (zgI hq0 hq1 hok)]; rfl,rfl⟩)
    cases hc2
  obtain rfl:k1=0:=by simp at hc1; omega
  refine au [16,4,5,2,2,2,3] ?_
  refine TK.rt hret [(0,_),(s,_),(h,_),(e,_)] ?_
  exact .inr (.inr ⟨hbar,hne,by rw [<- hw]; rfl,rfl⟩)
theorem uA:Tryz.prog.underlying 129=some (.array 5 3):=by kernel_rfl
theorem u3:Tryz.prog.underlying 3=some (.int .i64):=by kernel_rfl
theorem i3:Tryz.prog.info? 3=some Tryz.t3:=by kernel_rfl
theorem i3s:Tryz.t3.size=1:=by kernel_rfl
theorem xL {P:Program} {t:TypeId} {i:TypeInfo} (h:P.info? t=some i):pureS P (sizeOf t)=some i.size:=by
 unfold sizeOf typeInfo
 show pureS P ((match P.info? t with | some i=>pure i | none=>stuck "no such type") >>= fun i=>pure i.size)=_
 rw [h]; rfl
theorem zhP {d:Nat} {a b:Int}:pureS Tryz.prog (Op.equalIn (d+1) 3 (.int .i64 a) (.int .i64 b))=some (a==b):=by
 unfold Op.equalIn
 exact zo (zA u3) rfl
theorem yK {cs:Array Value} {off:Nat} {v:Value} (h:cs[off]? =some v):pureS Tryz.prog (part 3 cs off)=some v:=by
 unfold part isAgg
 refine zo (a:=false) ?_ ?_
 ·exact zo (zA u3) rfl
 ·simp [h]; rfl
theorem ug {α β:Type} {P:Program} (s:Sem α) (f:α->Sem β):pureS P (s >>= f)=(pureS P s).bind fun a=>pureS P (f a):=by
 show pureS P (s.bind f)=_
 induction s with
 | pure a=>rfl
 | program k ih=>exact ih P
 | _=>rfl
theorem xM {α:Type} {P:Program} (a:α):pureS P (pure a)=some a:=rfl
def stV (s:List Int):Value:=.agg #[.int .i64 (s.getD 0 0),.int .i64 (s.getD 1 0),.int .i64 (s.getD 2 0),.int .i64 (s.getD 3 0),.int .i64 (s.getD 4 0)]
def eqSt (s t:List Int):Bool:=(s.getD 0 0==t.getD 0 0)&&((s.getD 1 0==t.getD 1 0)&&((s.getD 2 0==t.getD 2 0)&&((s.getD 3 0==t.getD 3 0)&&(s.getD 4 0==t.getD 4 0))))
theorem zhO {d:Nat} {a0 a1 a2 a3 a4 b0 b1 b2 b3 b4:Int}:pureS Tryz.prog (Op.equalIn (d+2) 129 (.agg #[.int .i64 a0,.int .i64 a1,.int .i64 a2,.int .i64 a3,.int .i64 a4]) (.agg #[.int .i64 b0,.int .i64 b1,.int .i64 b2,.int .i64 b3,.int .i64 b4]))=some (a0==b0&&(a1==b1&&(a2==b2&&(a3==b3&&a4==b4)))):=by
 unfold Op.equalIn
 refine zo (zA uA) ?_
 dsimp only
 refine zo (xL i3) ?_
 rw [i3s]
 simp only [Std.Legacy.Range.forIn_eq_forIn_range',Std.Legacy.Range.size,Nat.sub_zero,Nat.add_sub_cancel,Nat.div_one]
 simp [List.range']
 have p0:=fun a b c d e:Value=>yK (cs:=#[a,b,c,d,e]) (off:=0) rfl
 have p1:=fun a b c d e:Value=>yK (cs:=#[a,b,c,d,e]) (off:=1) rfl
 have p2:=fun a b c d e:Value=>yK (cs:=#[a,b,c,d,e]) (off:=2) rfl
 have p3:=fun a b c d e:Value=>yK (cs:=#[a,b,c,d,e]) (off:=3) rfl
 have p4:=fun a b c d e:Value=>yK (cs:=#[a,b,c,d,e]) (off:=4) rfl
 have e:=fun a b:Int=>zhP (d:=d) (a:=a) (b:=b)
 rcases h1:(a0==b0) <;> rcases h2:(a1==b1) <;> rcases h3:(a2==b2) <;> rcases h4:(a3==b3) <;> rcases h5:(a4==b4) <;> simp [ug,xM,p0,p1,p2,p3,p4,e,h1,h2,h3,h4,h5]
theorem eq_st (s t:List Int):pureS Tryz.prog (Op.equal 129 (stV s) (stV t))=some (eqSt s t):=zhO (d:=9998)
theorem zei {d:Nat} {e:Bool} {a:Int}:pureS Tryz.prog (Instr.checkKey e (d+1) 3 (.int .i64 a))=some ():=by
 unfold Instr.checkKey
 exact zo (zA u3) rfl
theorem zft {e:Bool} (s:List Int):pureS Tryz.prog (Instr.checkKey e 10000 129 (stV s))=some ():=by
 show pureS Tryz.prog (Instr.checkKey e (9998+2) 129 (stV s))=some ()
 unfold Instr.checkKey
 refine zo (zA uA) ?_
 unfold stV
 dsimp only
 simp only [Std.Legacy.Range.forIn_eq_forIn_range',Std.Legacy.Range.size,Nat.sub_zero,Nat.add_sub_cancel,Nat.div_one]
 simp [List.range']
 have p0:=fun a b c d e:Value=>yK (cs:=#[a,b,c,d,e]) (off:=0) rfl
 have p1:=fun a b c d e:Value=>yK (cs:=#[a,b,c,d,e]) (off:=1) rfl
 have p2:=fun a b c d e:Value=>yK (cs:=#[a,b,c,d,e]) (off:=2) rfl
 have p3:=fun a b c d e:Value=>yK (cs:=#[a,b,c,d,e]) (off:=3) rfl
 have p4:=fun a b c d e:Value=>yK (cs:=#[a,b,c,d,e]) (off:=4) rfl
 have hs:pureS Tryz.prog (sizeOf 3)=some 1:=by rw [xL i3,i3s]
 have ck:=fun (e:Bool) (a:Int)=>zei (d:=9998) (e:=e) (a:=a)
 simp [ug,xM,p0,p1,p2,p3,p4,hs,ck]
theorem zbf {s:List Int}:∀ (es:List MapEntry) (ks:List (List Int)) (i:Nat),es.map (·.key)=ks.map stV->(∀ t∈ks,eqSt s t=false)->pureS Tryz.prog (Instr.findAsking 129 (stV s) es i)=some none
 | [],_,_,_,_=>rfl
 | en::es,[],_,h,_=>by simp at h
 | en::es,t::ks,i,h,hk=>by
  simp only [List.map_cons,List.cons.injEq] at h
  unfold Instr.findAsking
  refine zo (a:=false) ?_ ?_
  ·rw [h.1,eq_st,hk t sQ]
  ·simp only [Bool.false_eq_true,if_false]
   exact zbf es ks (i+1) h.2 fun t ht=>hk t (by simp [ht])
def MapS (ob:Obj) (ks:List (List Int)):Prop:=∃ es clock,ob=.map es clock/\es.toList.map (·.key)=ks.map stV
def upS (ob:Obj) (s:List Int):Obj:=match ob with
 | .map es clock=>.map (es.push { key:=stV s,val:=.bool true,born:=clock }) (clock+1)
 | ob=>ob
theorem zfS:MapS (.map #[] 0) []:=⟨#[],0,rfl,rfl⟩
theorem zg5 {ob:Obj} {ks:List (List Int)} {s:List Int} (h:MapS ob ks):MapS (upS ob s) (ks++[s]):=by
 obtain ⟨es,c,rfl,h⟩:=h
 exact ⟨_,_,rfl,by rw [Array.toList_push,List.map_append,List.map_append,h]; rfl⟩
section
variable {P:Program} {gm:Nat->Option Nat} {V:KV} {env:List AV} {o:Oper}
structure KeyOk (P:Program):Prop where
 u:P.underlying 129=some (.array 5 3)
 ck:∀ s,pureS P (Instr.checkKey false 10000 129 (stV s))=some ()
 fa:∀ (s:List Int) (es:List MapEntry) (ks:List (List Int)) (i:Nat),es.map (·.key)=ks.map stV->(∀ t∈ks,eqSt s t=false)->pureS P (Instr.findAsking 129 (stV s) es i)=some none
theorem keyOk:KeyOk Tryz.prog:=⟨uA,zft,fun s es ks i=>zbf es ks i⟩
theorem zhT {φ:Nat->Loc3} {n:Nat} {s:List Int} {y:Value} (h:RelV φ n (.agg (stC s)) y):y=stV s:=by
 obtain ⟨ys,rfl,h1,h2⟩:=u9 h
 have hsz:ys.size=5:=h1.symm
 have g:∀ i:Nat,i<5->ys[i]? =some (.int .i64 (s.getD i 0)):=fun i hi=>by
  have hy:ys[i]? =some ys[i]:=Array.getElem?_eq_getElem oQ
  have hs:(stC s)[i]? =some (slotR s i):=by
   have:i=0\/i=1\/i=2\/i=3\/i=4:=by omega
   rcases this with rfl | rfl | rfl | rfl | rfl <;> rfl
  have:=inv_v (h2 i _ _ hs hy)
  rw [hy,this]
 unfold stV
 congr 1
 refine Array.ext (by simpa using hsz) fun i hi1 hi2=>?_
 have h5:i<5:=by omega
 have hh:=g i h5
 rw [Array.getElem?_eq_getElem hi1] at hh
 rw [Option.some.inj hh]
 have:i=0\/i=1\/i=2\/i=3\/i=4:=by omega
 rcases this with rfl | rfl | rfl | rfl | rfl <;> rfl
theorem zcf (hP:KeyOk P) {t et:TypeId} {x y:Operand} {j:Nat} {ob:Obj} {s:List Int} {ks:List (List Int)} (ho:o.op=.mapUpdate t x y (.const (.bool true))) (hx:opndO gm env x=some (.map j)) (hy:opndO gm env y=some (.agg (stC s))) (ht:P.underlying t=some (.map 129 et)) (hm:(j,.raw ob)∈V) (hf:MapS ob ks) (hn:∀ k∈ks,eqSt s k=false) :
  ∀ A,View V A->OpOk P gm env A o .any (A.set j (.raw (upS ob s))):=fun A hA φ F H a hg hH hE=>by
 unfold execOp; rw [ho]
 refine wpS_u ?_
 have h1:=zi hg hE x
 rw [zh hx] at h1
 obtain ⟨hj,e1⟩:=ji h1
 have h2:=zi hg hE y
 rw [zh hy] at h2
 rw [e1,zhT h2]
 obtain ⟨es,c,rfl,hk⟩:=hf
 have hb:H (φ j).blk=some (true,.map es c):=hH.obj j _ (hA.get hm)
 have hend:OpPost φ A F .any (A.set j (.raw (upS (.map es c) s))) .skip (H.put (φ j).blk (true,upS (.map es c) s)) :=
  ⟨undef,φ,.inr ⟨rfl,rfl⟩,Agr.refl _ _,by simp,hH.set (hA.get hm) rfl trivial (Hp.put_same _ _ _),.any _⟩
 unfold Instr.mapUpdate
 refine za _ _ _ (zk ht ?_)
 dsimp only
 refine za _ _ _ ?_
 refine ⟨true,_,hb,rfl,rfl,?_⟩
 refine za _ _ _ (wq _ (hP.ck s) ?_)
 refine za _ _ _ ?_
 unfold Instr.findKey
 refine za _ _ _ (zk hP.u ?_)
 have key:∀ (Q:Option (Nat×Value)->Hp->Prop),Q none H->wpS P (match Instr.findNow (.array 5 3) (stV s) es.toList 0 with | some r=>pure r | none=>Instr.findAsking 129 (stV s) es.toList) H Q:=fun Q hq=>by
  cases hes:es.toList with
  | nil=>exact hq
  | cons en r =>
   have:Instr.findNow (.array 5 3) (stV s) (en::r) 0=none:=rfl
   rw [this]
   exact wq _ (hP.fa s _ ks 0 (by rw [<- hes]; exact hk) hn) hq
 refine key _ ?_
 refine ⟨_,hb,rfl,rfl,?_⟩
 exact hend
theorem zeW {t kt et:TypeId} {x:Operand} {j:Nat} {ob:Obj} {ks:List (List Int)} (ho:o.op=.call { callee:=.builtin .len,args:=#[x],argTypes:=#[t] }) (hx:opndO gm env x=some (.map j)) (ht:P.underlying t=some (.map kt et)) (hm:(j,.raw ob)∈V) (hf:MapS ob ks) :
  Qk P gm env V o (.v (.int .i64 ks.length)):=fun A hA φ F H a hg hH hE=>by
 rw [zW ho]
 have h1:=zi hg hE x
 rw [zh hx] at h1
 obtain ⟨hj,e1⟩:=ji h1
 obtain ⟨es,c,rfl,hk⟩:=hf
 have hb:H (φ j).blk=some (true,.map es c):=hH.obj j _ (hA.get hm)
 simp only [builtin,List.map_toArray,List.map_cons,List.map_nil,e1]
 refine wpS_v ?_
 show wpS _ (underlying t >>= _) H _
 refine za _ _ _ (zk ht ?_)
 refine za _ _ _ ?_
 refine ⟨true,_,hb,rfl,rfl,?_⟩
 have hl:es.size=ks.length:=by have:=congrArg List.length hk; simpa using this
 show OpPost _ _ _ _ _ (.value (goInt es.size)) H
 rw [hl]
 exact OpPost.quiet hH (.v _)
end
end Go.Vel
namespace Go.Vel
open Go Go.Conc
section
variable {P:Program} {gm:Nat->Option Nat} {env:List AV} {A A':List AObj} {o:Oper} {V:KV}
theorem zf3 {d:Operand} {t e:TypeId} {ti:TypeInfo} {z:Value} {i off m:Nat} (ho:o.op=.call { callee:=.builtin .clear,args:=#[d],argTypes:=#[t] }) (ht:P.underlying t=some (.slice e)) (hi:P.info? e=some ti) (hz:ti.zero=some z) (hzc:z.cells=#[.int .i64 0]) (hd:opnd gm env d=.sl i off m) (hm:0<m) (hs:storeA A i off (List.replicate m (.v (.int .i64 0)))=some A') :
  OpOk P gm env A o (.tup []) A':=fun φ F H a hg hH hE=>by
 rw [zW ho]
 have hd':=zi hg hE d
 rw [hd] at hd'
 obtain ⟨hil,cap,b,hlc,hb,ed⟩:=xB hd'
 simp only [builtin,List.map_toArray,List.map_cons,List.map_nil]
 refine wpS_v ?_
 rw [ed,hb hm]
 obtain ⟨m',rfl⟩:∃ m',m=m'+1:=⟨m - 1,by omega⟩
 unfold Builtin.clear_
 dsimp only
 show wpS P (underlying t >>= _) H _
 refine za _ _ _ (zk ht ?_)
 refine za _ _ _ (yr hi hz ?_)
 have hzz:(Builtin.zeroCells z.cells (m'+1)).toList=(Array.replicate (m'+1) (Value.int .i64 0)).toList:=by
  rw [hzc]
  unfold Builtin.zeroCells
  apply List.ext_getElem
  ·simp
  ·intro i h1 h2
   simp [Nat.mod_one]
 rw [hzz]
 refine za _ _ _ (uU hH hs (ys:=Array.replicate (m'+1) (Value.int .i64 0)) ?_ fun H' hH' hlen=>?_)
 ·have:=jA φ A.length (Array.replicate (m'+1) (Value.int .i64 0))
  simpa using this
 ·exact ⟨_,φ,.inl rfl,Agr.refl _ _,by omega,hH',.tup rfl fun j a y ha=>by simp at ha⟩
theorem zhq {d:Operand} {t e:TypeId} {i off m:Nat} {ob ob':AObj} (ho:o.op=.call { callee:=.builtin .clear,args:=#[d],argTypes:=#[t] }) (ha:apOf P t=some (e,1,8)) (hz:tyZero P e=some [.int .i64 0]) (hd:opndO gm env d=some (.sl i off m)) (hm:0<m) (hi:(i,ob)∈V) (hs:putO ob off (List.replicate m (.v (.int .i64 0)))=some ob') :
  ∀ A,View V A->OpOk P gm env A o (.tup []) (A.set i ob'):=fun A hA=>by
 unfold apOf at ha
 split at ha
 ·rename_i e' h1
  split at ha
  ·rename_i ti h2
   split at ha
   ·rename_i z h3
    split at ha
    ·rename_i h4
     simp only [Option.some.injEq,Prod.mk.injEq] at ha
     obtain ⟨rfl,h5,h6⟩:=ha
     obtain ⟨i',z',g1,g2,g3⟩:=kA hz
     rw [h2] at g1
     cases g1
     rw [h3] at g2
     cases g2
     exact zf3 ho h1 h2 h3 (by rw [<- Array.toList_inj,g3]) (zh hd) hm (uO (hA.get hi) hs)
    ·cases ha
   ·cases ha
  ·cases ha
 ·cases ha
end
theorem zdk {xs:List Int} {k:Nat} {n v:Int} {e:TypeId} {s:Nat} (h:k<xs.length) (hn:n=(k:Int)):putO (.row (xs.map intA) e s) (n.toNat*1) [intA v]=some (.row ((xs.set k v).map intA) e s):=by
 subst hn
 unfold putO
 dsimp only
 rw [if_pos ⟨by simp; omega,by simp,rfl⟩,zck _ _ _ (by simp; omega),List.map_set]
 simp
theorem zcl (c:AV):∀ (m:Nat) (l:List AV) (k:Nat),k+m=l.length->setL l k (List.replicate m c)=l.take k++List.replicate m c
 | 0,l,k,h=>by simp [setL,List.take_of_length_le (by omega:l.length<=k)]
 | m+1,l,k,h=>by
  rw [List.replicate_succ]
  show setL (l.set k c) (k+1) (List.replicate m c)=_
  rw [zcl c m (l.set k c) (k+1) (by rw [List.length_set]; omega),List.take_add_one,List.getElem?_set_self oQ,List.take_set_of_le (Nat.le_refl _)]
  simp
theorem zgd {xs:List Int} {k m:Nat} {e:TypeId} {s:Nat} (h:k+m=xs.length) (hm:0<m):putO (.row (xs.map intA) e s) k (List.replicate m (.v (.int .i64 0)))=some (.row ((xs.take k++List.replicate m 0).map intA) e s):=by
 unfold putO
 dsimp only
 rw [if_pos ⟨by simp; omega,by simpa using hm,by simp [oneA,oneCell]⟩,zcl _ _ _ _ (by simpa using h),List.map_append,List.map_take,List.map_replicate]
def compN (xs:List Int):Nat->List Int
 | 0=>[]
 | 1=>xs.take 1
 | p+2=>compN xs (p+1)++(if cutN xs p=cutN xs (p+1) then [] else [cutN xs (p+1)])
def compM (xs:List Int):List Int:=compN xs xs.length
theorem zaz (xs:List Int):∀ p,p<=xs.length->(compN xs p).length<=p
 | 0,_=>by simp [compN]
 | 1,_=>by simp [compN]; omega
 | p+2,h=>by
  have:=zaz xs (p+1) oQ
  unfold compN
  rw [List.length_append]
  split <;> simp <;> omega
theorem vI {xs:List Int} {p:Nat} (h:cutN xs p=cutN xs (p+1)):compN xs (p+2)=compN xs (p+1):=by
 conv=>lhs; unfold compN
 rw [if_pos h,List.append_nil]
theorem vJ {xs:List Int} {p:Nat} (h:cutN xs p≠cutN xs (p+1)):compN xs (p+2)=compN xs (p+1)++[cutN xs (p+1)]:=by
 conv=>lhs; unfold compN
 rw [if_neg h]
theorem zgq {s t:List Int} (h:s.length=t.length) (h5:s.length<=5) (he:eqSt s t=true):s=t:=by
 simp only [eqSt,Bool.and_eq_true,beq_iff_eq] at he
 obtain ⟨e0,e1,e2,e3,e4⟩:=he
 refine List.ext_getElem h fun i h1 h2=>?_
 have g:∀ (l:List Int) (h:i<l.length),l.getD i 0=l[i]:=fun l h=>by rw [List.getD_eq_getElem?_getD,List.getElem?_eq_getElem h]; rfl
 have:i=0\/i=1\/i=2\/i=3\/i=4:=by omega
 rw [<- g s h1,<- g t h2]
 rcases this with rfl | rfl | rfl | rfl | rfl <;> assumption
theorem jY {b:RBk}:∀ (r:List RBand) (p s:List Int),s∈fromM b p r->s.take p.length=p/\s.length=p.length+r.length
 | [],p,s,h=>by
  unfold fromM at h
  split at h
  ·rw [List.mem_singleton.1 h]; simp
  ·cases h
 | x::r,p,s,h=>by
  unfold fromM at h
  obtain ⟨n,hn,hs⟩:=List.mem_flatMap.1 h
  obtain ⟨h1,h2⟩:=jY r (p++[n]) s hs
  rw [List.length_append,List.length_singleton] at h1 h2
  refine ⟨?_,by rw [h2,List.length_cons]; omega⟩
  have:=congrArg (List.take p.length) h1
  rw [List.take_take,List.take_append_of_le_length (Nat.le_refl _),List.take_length,Nat.min_eq_left oQ] at this
  exact this
theorem jN:∀ (k:Nat) (n:Int),(numsF n k).Nodup
 | 0,_=>.nil
 | k+1,n=>by
  unfold numsF
  refine List.nodup_cons.2 ⟨fun h=>?_,jN k _⟩
  rw [uz] at h
  omega
theorem xx {b:RBk}:∀ (r:List RBand) (p:List Int),(fromM b p r).Nodup
 | [],p=>by unfold fromM; split <;> simp
 | x::r,p=>by
  unfold fromM
  show List.Pairwise (· ≠ ·) _
  rw [List.pairwise_flatMap]
  refine ⟨fun n _=>xx r _,?_⟩
  have:=jN (x.high+1 - x.low).toNat x.low
  unfold numsM
  refine List.Pairwise.imp (fun {a c} hne s hs1 s2 hs2 he=>?_) this
  subst he
  have e1:=(jY r _ s hs1).1
  have e2:=(jY r _ s hs2).1
  rw [List.length_append,List.length_singleton] at e1 e2
  have:=e1.symm.trans e2
  simp at this
  exact hne this
theorem zcr (b:RBk):(statesM b).Nodup:=xx _ _
theorem zeF {b:RBk} (hb:ROk b) {pre:List (List Int)} {S:List Int} (h:pre++[S] <+: statesM b):∀ k∈pre,eqSt S k=false:=fun k hk=>by
 have hnd:(pre++[S]).Nodup:=(zcr b).sublist h.sublist
 have hS:S∈statesM b:=h.subset sQ
 have hk2:k∈statesM b:=h.subset (by simp [hk])
 have l1:=(yg hb hS).1.len
 have l2:=(yg hb hk2).1.len
 cases he:eqSt S k with
 | false=>rfl
 | true =>
  have:=zgq oQ (by have:=hb.sms.len; omega) he
  subst this
  rw [List.nodup_append] at hnd
  exact absurd rfl (hnd.2.2 S hk S sQ)
end Go.Vel
namespace Go.Vel
open Go Go.Conc Go.Proofs
def cntM (all:List (List Int)) (n:Nat) (v:Int):Nat:=(all.filter fun s=>decide (cutN s n=v)).length
def mostL (all:List (List Int)) (n:Nat):Nat->Int
 | 0=>0
 | k+1=>max (mostL all n k) (cntM (all.take (k+1)) n (cutN (all.getD k []) n))
def askL (b:RBk) (all:List (List Int)):Nat->Int×Int
 | 0=>(-1,all.length)
 | n+1=>if mostL all n all.length<(askL b all n).2 then (n,mostL all n all.length) else askL b all n
def askM (b:RBk) (all:List (List Int)):Int×Int:=askL b all b.seams.length
theorem zfv {all:List (List Int)} {k:Nat} {st:List Int} (h:all[k]? =some st) (n:Nat) (v:Int):((cntM (all.take (k+1)) n v:Nat):Int)=if v=cutN st n then ((cntM (all.take k) n (cutN st n):Nat):Int)+1 else ((cntM (all.take k) n v:Nat):Int):=by
 unfold cntM
 rw [zM h,List.filter_append,List.length_append]
 by_cases e:v=cutN st n
 ·subst e
  rw [if_pos rfl]; simp
 ·rw [if_neg e]
  have:¬ cutN st n=v:=fun h=>e h.symm
  simp [this]
theorem zhK (all:List (List Int)) (n:Nat) (v:Int):cntM all n v<=all.length:=List.length_filter_le _ _
theorem jK {ob:Obj} {f g:Int->Int} (h:MapOk ob f) (e:∀ n,f n=g n):MapOk ob g:=by
 have:f=g:=funext e
 rwa [this] at h
theorem zg7 {all:List (List Int)} {n k:Nat} {st:List Int} (h:all[k]? =some st):mostL all n (k+1)=max (mostL all n k) (cntM (all.take (k+1)) n (cutN st n)):=by
 have:all.getD k []=st:=by rw [List.getD_eq_getElem?_getD,h]; rfl
 conv=>lhs; unfold mostL
 rw [this]
instance:InfO Tryz.prog 3 Tryz.t3:=⟨by kernel_rfl⟩
instance:TySz Tryz.prog 168 false 1:=⟨by kernel_rfl⟩
instance:TyZA Tryz.prog 168 [.v (.map none)]:=⟨by kernel_rfl⟩
instance:Und Tryz.prog 160 (.map 3 3):=⟨by kernel_rfl⟩
instance:Und Tryz.prog 168 (.map 129 4):=⟨by kernel_rfl⟩
theorem uN {main:Bool} {T:Goroutine->Hp->Prop} (hT:Shut Tryz.prog main T)  {b:RBk} {s h e:Nat} (hl:b.seams.length<=100) (hm:b.measures.length<=100) :
  CallK Tryz.prog T gmR 51 [.agg (rollC b s h e)] [(0,checksG),(s,seamO b),(h,shrO b),(e,measO b)] (fun r K'=>r=.tup [intA (if checkM b=0 then (statesM b).length else 0),intA (checkM b)]/\K'=[(0,checksG),(s,seamO b),(h,shrO b),(e,measO b)]):=by
 refine w8 24 hT Tryz.func51 fun Y hro hret=>?_
 refine au [4,5,21] ?_
 intro jb hjb
 refine au [2,2,3,4,5,8] ?_
 refine TK.cl rfl rfl rfl rfl (vT hT (Kx:=[]) hl hm) ?_
 rintro r1 K2 h3
 rcases h3 with ⟨⟨hbar,rfl⟩ | ⟨hbar,rfl⟩,rfl⟩
 ·refine au [1,10,10,22] ?_
  intro j4 hj4
  refine au [17,2,3,4,4,5,1,6,3,20] ?_
  refine ⟨fun hc0=>?_,fun hc0=>?_⟩
  ·exact absurd hc0 sQ
  have hbb:=zp hbar
  refine au [12,4,5] ?_
  refine TK.newM rfl rfl rfl (zaN rfl) (fun _=>putS rfl (by simp only [List.set]; rfl)) fun jm hjm=>?_
  refine au [22] ?_
  intro j6 hj6
  refine au [17,3,4,4,5,8,32,3,13] ?_
  refine TK.kp [(j6,_),(jm,_),(j4,_),(jb,_),(0,_),(s,_),(h,_),(e,_)] ?_
  refine TK.rangeStates hT hbb (s:=s) (h:=h) (e:=e) (J:=fun pre K1=>∃ ob,MapS ob pre/\K1=[(j6,.cells [.map jm] 168 true),(jm,.raw ob),(j4,.cells (rollC b s h e) 113 true),(jb,.cells (rollC b s h e) 26 true),(0,checksG)]) (D:=fun _ _=>False) rfl hro rfl (by repeat (first | exact Split.none _ | exact Split.all _ | (apply Split.rem; repeat (first | exact Rem.head | apply Rem.tail)) | apply Split.right)) ⟨_,zfS,rfl⟩ (fun Y' l lo lb pre S K1 hbegin hfin hout hpre hJ=>?_) (fun d K2 hJ=>?_) (fun d c K2 hD=>?_)
  ·obtain ⟨ob,hob,rfl⟩:=hJ
   have hnew:=zeF hbb hpre
   refine au [5,22] ?_
   intro j7 hj7
   refine au [17,3] ?_
   refine hbegin _ _ _ _ _ uQ ?_
   refine au [13,5,9,8] ?_
   refine TK.st rfl rfl rfl (zcf keyOk rfl rfl rfl Und.h mQ hob hnew) uQ (putN rfl) ?_
   refine au [3,14] ?_
   exact hfin _ _ [(j6,_),(jm,_),(j4,_),(jb,_),(0,_)] _ (by repeat (first | exact Split.none _ | exact Split.all _ | (apply Split.rem; repeat (first | exact Rem.head | apply Rem.tail)) | apply Split.right)) ⟨_,zg5 hob,rfl⟩
  ·obtain ⟨ob,hob,rfl⟩:=hJ
   simp only [List.cons_append,List.nil_append]
   refine au [14,4,5,9] ?_
   refine TK.a rfl (zeW rfl rfl Und.h mQ hob) ?_
   refine au [2,2,3] ?_
   refine TK.leave (.ret _) fun A hA=>hret _ _ _ _ ([(0,_),(s,_),(h,_),(e,_)]) ([(0,_),(s,_),(h,_),(e,_)]) _ _ _ (.inr rfl) (by repeat (first | exact Split.none _ | exact Split.all _ | (apply Split.rem; repeat (first | exact Rem.head | apply Rem.tail)) | apply Split.right)) sQ sQ (by repeat (first | exact Split.none _ | exact Split.all _ | (apply Split.rem; repeat (first | exact Rem.head | apply Rem.tail)) | apply Split.right)) (wc (.cons (zu rfl) (.cons (zu rfl) ResKs.nil)) rfl) ?_ A hA
   exact ⟨by rw [hbar,if_pos rfl],rfl⟩
  ·exact hD.elim
 ·refine au [1,10,10,22] ?_
  intro j4 hj4
  refine au [17,2,3,4,4,5,1,6,3,20] ?_
  refine ⟨fun hc0=>?_,fun hc0=>?_⟩
  ·
   refine au [4,5,1,2,2,3] ?_
   refine TK.leave (.ret _) fun A hA=>hret _ _ _ _ ([(0,_),(s,_),(h,_),(e,_)]) ([(0,_),(s,_),(h,_),(e,_)]) _ _ _ (.inr rfl) (by repeat (first | exact Split.none _ | exact Split.all _ | (apply Split.rem; repeat (first | exact Rem.head | apply Rem.tail)) | apply Split.right)) sQ sQ (by repeat (first | exact Split.none _ | exact Split.all _ | (apply Split.rem; repeat (first | exact Rem.head | apply Rem.tail)) | apply Split.right)) (wc (.cons (zu rfl) (.cons (zu rfl) ResKs.nil)) rfl) ?_ A hA
   exact ⟨by rw [if_neg hbar],rfl⟩
  exact absurd hbar (by simpa using hc0)
theorem zhH {main:Bool} {T:Goroutine->Hp->Prop} (hT:Shut Tryz.prog main T)  {b:RBk} {s h e:Nat} (hl:b.seams.length<=100) (hm:b.measures.length<=100) :
  CallK Tryz.prog T gmR 40 [.agg (rollC b s h e)] [(0,checksG),(s,seamO b),(h,shrO b),(e,measO b)] (fun r K'=>(checkM b≠0/\r=.tup [intA 0,intA 0,intA (checkM b)]/\K'=[(0,checksG),(s,seamO b),(h,shrO b),(e,measO b)])\/(checkM b=0/\statesM b=[]/\r=.tup [intA 0,intA 0,intA 9]/\K'=[(0,checksG),(s,seamO b),(h,shrO b),(e,measO b)])\/(checkM b=0/\statesM b≠[]/\r=.tup [intA (askM b (statesM b)).1,intA (askM b (statesM b)).2,intA 0]/\K'=[(0,checksG),(s,seamO b),(h,shrO b),(e,measO b)])):=by
 refine zf 58 hT Tryz.func40 fun Y hret=>?_
 refine au [4,5,21] ?_
 intro jb hjb
 refine au [2,2,2,3,4,5,8] ?_
 refine TK.cl rfl rfl rfl rfl (kJ hT (Kx:=[]) hl hm) ?_
 rintro r1 K2 h3
 rcases h3 with ⟨hbar,rfl,rfl⟩ | ⟨hbar,hnil,rfl,rfl⟩ | ⟨hbar,hne,a,rfl,rfl⟩
 ·refine au [1,10,10,22] ?_
  intro j5 hj5
  refine au [17,2,3,4,4,5,1,6,3,20] ?_
  refine ⟨fun hc0=>?_,fun hc0=>?_⟩
  ·
   refine au [4,5,1,2,2,2,3] ?_
   refine TK.rt hret [(0,_),(s,_),(h,_),(e,_)] ?_
   exact .inl ⟨hbar,rfl,rfl⟩
  exact absurd hbar (by simpa using hc0)
 ·refine au [1,10,10,22] ?_
  intro j5 hj5
  refine au [17,2,3,4,4,5,1,6,3,20] ?_
  refine ⟨fun hc0=>?_,fun hc0=>?_⟩
  ·
   refine au [4,5,1,2,2,2,3] ?_
   refine TK.rt hret [(0,_),(s,_),(h,_),(e,_)] ?_
   exact .inr (.inl ⟨hbar,hnil,rfl,rfl⟩)
  exact absurd hc0 dQ
 ·refine au [1,10,10,22] ?_
  intro j5 hj5
  refine au [17,2,3,4,4,5,1,6,3,20] ?_
  refine ⟨fun hc0=>?_,fun hc0=>?_⟩
  ·exact absurd hc0 sQ
  have hbb:=zp hbar
  have hlen:=yF hbb
  have hpos:0<(statesM b).length:=List.length_pos_iff.2 hne
  have hall:okAll b (statesM b):=fun st hst=>(yg hbb hst).1
  have hs5:=hbb.sms.len
  refine au [12,4] ?_
  refine TK.draw [0,1,2,3,4] [0,1,2,3,4] (by kernel_rfl) (by kernel_rfl) ?_
  refine TD.z [5] rfl (zc rfl rfl FldOf.h dQ) ?_
  refine TD.y [19] rfl (hq:=ze rfl rfl TySz.h (List.Mem.head _) rfl) (h:=?_)
  refine TD.z [20] rfl (q_len rfl rfl rfl Und.h) ?_
  refine TD.as (pend':=[⟨2,[20],[]⟩,⟨1,[19],[(_,_)]⟩,⟨0,[5],[]⟩]) [] rfl rfl (zj rfl rfl) ?_
  refine TD.as (pend':=[]) [21] rfl rfl (zj rfl rfl) ?_
  refine TD.fin ?_
  refine au [4,4,5,7,9,28,1,3,13] ?_
  refine TK.maskL [1,2,3,4,5,23,24,25] ?_
  refine TK.kp [(a,_),(0,_),(s,_),(h,_),(e,_),(j5,_),(jb,_)] ?_
  refine TK.loopN (fun n env K=>∃ (i:Nat),n=b.seams.length - i/\i<=b.seams.length/\env=[.any,.ptr jb 0,intA (askL b (statesM b) i).1,intA (askL b (statesM b) i).2,intA 0,.ptr j5 0,.any,.any,.any,.any,.any,.any,.any,.any,.any,.any,.any,.any,.any,.any,.any,.any,.any,.sl s 0 b.seams.length,intA b.seams.length,intA i,.any,.any,.any,.any,.any,.any,.any,.any,.any,.any,.any,.any,.any,.any,.any,.any,.any,.any,.any,.any,.any,.any,.any,.any,.any,.any,.any,.any,.any,.any,.any,.any]/\K=[(a,allO (statesM b)),(0,checksG),(s,seamO b),(h,shrO b),(e,measO b),(j5,.cells (knownC b s h e a (statesM b).length) 139 true),(jb,.cells (rollC b s h e) 26 true)]) b.seams.length ⟨0,rfl,Nat.zero_le _,rfl,rfl⟩ fun n env K hI hnext=>?_
  obtain ⟨i,rfl,hi,rfl,rfl⟩:=hI
  refine au [4,5,6,3,4,20] ?_
  refine ⟨fun hc1=>?_,fun hc1=>?_⟩
  ·have hil:i<b.seams.length:=by simp at hc1; omega
   refine au [12,4,13,4,5,1,2,3,4,5] ?_
   refine TK.newM rfl rfl rfl (zaN rfl) (fun _=>putS rfl (by simp only [List.set]; rfl)) fun jm hjm=>?_
   refine au [2,3,4,5,2,3,4,4,5,7,9,28,1,3,13] ?_
   refine TK.maskL [1,2,3,4,5,6,7,8,23,24,25,30,31,32] ?_
   refine TK.loopN (fun n env K=>∃ (q:Nat) (om:Obj),n=(statesM b).length - q/\q<=(statesM b).length/\MapOk om (fun v=>(cntM ((statesM b).take q) i v:Int))/\env=[.any,.ptr jb 0,intA (askL b (statesM b) i).1,intA (askL b (statesM b) i).2,intA 0,.ptr j5 0,intA i,.map jm,intA (mostL (statesM b) i q),.any,.any,.any,.any,.any,.any,.any,.any,.any,.any,.any,.any,.any,.any,.sl s 0 b.seams.length,intA b.seams.length,intA i,.any,.any,.any,.any,.sl a 0 (statesM b).length,intA (statesM b).length,intA q,.any,.any,.any,.any,.any,.any,.any,.any,.any,.any,.any,.any,.any,.any,.any,.any,.any,.any,.any,.any,.any,.any,.any,.any,.any]/\K=[(jm,.raw om),(a,allO (statesM b)),(0,checksG),(s,seamO b),(h,shrO b),(e,measO b),(j5,.cells (knownC b s h e a (statesM b).length) 139 true),(jb,.cells (rollC b s h e) 26 true)]) (statesM b).length ⟨0,_,rfl,Nat.zero_le _,jK zeC (fun v=>rfl),rfl,rfl⟩ fun n env K hI hnext1=>?_
   obtain ⟨q,om,rfl,hq,hom,rfl,rfl⟩:=hI
   refine au [4,5,6,3,4,20] ?_
   refine ⟨fun hc2=>?_,fun hc2=>?_⟩
   ·have hql:q<(statesM b).length:=by simp at hc2; omega
    obtain ⟨st,hst⟩:∃ st,(statesM b)[q]? =some st:=⟨_,List.getElem?_eq_getElem hql⟩
    have hcl:cntM ((statesM b).take q) i (cutN st i)<=243:=by have:=zhK ((statesM b).take q) i (cutN st i); rw [List.length_take] at this; omega
    have hom2:MapOk (upM om (cutN st i) ((cntM ((statesM b).take q) i (cutN st i):Int)+1)) (fun v=>(cntM ((statesM b).take (q+1)) i v:Int)):=jK (ziI hom) (fun v=>(zfv hst i v).symm)
    refine au [12,4,13,4,5,36] ?_
    refine TK.a rfl (zx rfl rfl TySz.h mQ (xj (i:=q) hst rfl)) ?_
    refine au [22] ?_
    intro j10 hj10
    refine au [17,3,4,5,1,1] ?_
    refine TK.a rfl (kS rfl rfl rfl ArEl.h oQ oQ) ?_
    refine TK.a rfl (ze rfl rfl TySz.h mQ (st_at (i:=i) oQ rfl)) ?_
    refine TK.a rfl (zb9 rfl rfl rfl Und.h Und.h InfO.h rfl mQ hom) ?_
    refine TK.a rfl (q_add rfl rfl rfl (by show -9223372036854775808<=((cntM ((statesM b).take q) i (cutN st i):Nat):Int)+1/\((cntM ((statesM b).take q) i (cutN st i):Nat):Int)+1<9223372036854775808; omega)) ?_
    refine TK.st rfl rfl rfl (zcQ rfl rfl rfl rfl Und.h Und.h mQ hom) uQ (putN rfl) ?_
    refine au [3,5,1,1,1] ?_
    refine TK.a rfl (kS rfl rfl rfl ArEl.h oQ oQ) ?_
    refine TK.a rfl (ze rfl rfl TySz.h mQ (st_at (i:=i) oQ rfl)) ?_
    refine TK.a rfl (zb9 rfl rfl rfl Und.h Und.h InfO.h rfl mQ hom2) ?_
    refine TK.a rfl (zca rfl rfl rfl) ?_
    refine au [2,3,14,5,23,1,3] ?_
    refine TK.maskL [1,2,3,4,5,6,7,8,23,24,25,30,31,32] ?_
    refine TK.kp [(jm,_),(a,_),(0,_),(s,_),(h,_),(e,_),(j5,_),(jb,_)] ?_
    exact hnext1 _ _ _ oQ ⟨q+1,_,rfl,by omega,hom2,by rw [zg7 hst]; rfl,rfl⟩
   obtain rfl:q=(statesM b).length:=by simp at hc2; omega
   refine au [16,4,5,1,1,6,3,20] ?_
   refine ⟨fun hc3=>?_,fun hc3=>?_⟩
   ·refine au [5,1,1,2,2,3,14,5,23,1,3] ?_
    refine TK.maskL [1,2,3,4,5,23,24,25] ?_
    refine TK.kp [(a,_),(0,_),(s,_),(h,_),(e,_),(j5,_),(jb,_)] ?_
    exact hnext _ _ _ oQ ⟨i+1,rfl,by omega,by rw [show askL b (statesM b) (i+1)=(((i:Nat):Int),mostL (statesM b) i (statesM b).length) from if_pos (of_decide_eq_true hc3)]; rfl,rfl⟩
   refine au [12,14,5,23,1,3] ?_
   refine TK.maskL [1,2,3,4,5,23,24,25] ?_
   refine TK.kp [(a,_),(0,_),(s,_),(h,_),(e,_),(j5,_),(jb,_)] ?_
   exact hnext _ _ _ oQ ⟨i+1,rfl,by omega,by rw [show askL b (statesM b) (i+1)=askL b (statesM b) i from if_neg (of_decide_eq_false hc3)]; rfl,rfl⟩
  obtain rfl:i=b.seams.length:=by simp at hc1; omega
  refine au [16,4,5,1,1,2,2,2,3] ?_
  refine TK.rt hret [(0,_),(s,_),(h,_),(e,_)] ?_
  exact .inr (.inr ⟨hbar,hne,rfl,rfl⟩)
theorem zg1 {main:Bool} {T:Goroutine->Hp->Prop} (hT:Shut Tryz.prog main T) {gm:Nat->Option Nat} {x y:Int} :
  CallK Tryz.prog T gm 194 [intA x,intA y] [] (fun r K'=>r=boolA (decide (x<y))/\K'=[]):=by
 refine zf 17 hT Tryz.func194 fun Y hret=>?_
 refine au [4,5,2,3,4,5,1] ?_
 refine TK.cl rfl rfl rfl rfl (jZ hT) ?_
 rintro r1 K2 ⟨rfl,rfl⟩
 refine au [1] ?_
 refine TK.sp 7 (fun g1_3=>?_) (fun g1_3=>?_)
 ·cases g1_3
 refine au [11,11,11,25,1,1,1,6,25,2,3] ?_
 refine TK.rta hret ?_
 exact ⟨rfl,rfl⟩
section
variable {P:Program} {gm:Nat->Option Nat} {T:Goroutine->Hp->Prop} {Y:KX P gm T} {ds:List Nat} {k:List Item} {env env':List AV} {K:KV}
theorem TK.asSl (d:Nat) {j n:Nat} {l:List AV} {e:TypeId} {s:Nat} (hd:env[d]? =some (.row j n)) (hm:(j,.row l e s)∈K) (h:TK Y ds k (env.set d (.sl j 0 n)) K):TK Y ds k env K:=fun A hA φ H ts h1 h2 h3 h4 h5 h6=>by
 have hj:=hA.view.get hm
 have hb:(φ j).base=0:=(h5.obj j _ hj).2.1
 have hr:∀ y,RelV φ A.length (.row j n) y->RelV φ A.length (.sl j 0 n) y:=fun y hy=>by
  have:=vi (j:=j) hb hy
  simpa [unrow] using this
 exact h _ hA φ H ts h1 h2 h3 h4 h5 (by simpa using h6.set' hd hr)
end
theorem zb6 {xs:List Int} {k:Nat} {n v:Int} {e:TypeId} {s:Nat} (h:k<xs.length) (hn:n=(k:Int)):putO (.row (xs.map intA) e s) (0+n.toNat*1) [intA v]=some (.row ((xs.set k v).map intA) e s):=by
 rw [Nat.zero_add]
 exact zdk h hn
def ltI (x y:Int):Bool:=decide (x<y)
theorem un {xs:List Int}:∀ p,p<=xs.length->(compN xs p).length=p->compN xs p=xs.take p
 | 0,_,_=>by simp [compN]
 | 1,_,_=>by simp [compN]
 | p+2,h,hl=>by
  have h1:=zaz xs (p+1) oQ
  by_cases e:cutN xs p=cutN xs (p+1)
  ·rw [vI e] at hl; omega
  ·rw [vJ e] at hl ⊢
   rw [List.length_append,List.length_singleton] at hl
   rw [un (p+1) oQ oQ]
   exact (zM (zy oQ)).symm
theorem um {xs:List Int} {w i:Nat} {C:List Int} (hC:C.length=w) (h:w<=i) (hi:i<xs.length):(C++xs.drop w)[i]? =some (cutN xs i):=by
 rw [List.getElem?_append_right oQ,List.getElem?_drop,hC,show w+(i - w)=i by omega]
 exact zy hi
theorem zfw {xs C:List Int} {w:Nat} {v:Int} (hC:C.length=w) (h:w<xs.length):(C++xs.drop w).set w v=(C++[v])++xs.drop (w+1):=by
 rw [List.set_append_right _ _ oQ,hC,Nat.sub_self,zl (zy h),List.set_cons_zero,List.append_assoc]
 rfl
theorem zeT {xs C:List Int} {k m off:Nat} {e:TypeId} {s:Nat} (hC:C.length=k) (ho:off=k) (h:k+m=(C++xs.drop k).length) (hm:0<m):putO (.row ((C++xs.drop k).map intA) e s) off (List.replicate m (.v (.int .i64 0)))=some (.row ((C++List.replicate m 0).map intA) e s):=by
 subst ho
 rw [zgd h hm,List.take_left' hC]
instance:Cal Tryz.prog 160:=⟨by kernel_rfl⟩
instance:Cal Tryz.prog 188:=⟨by kernel_rfl⟩
instance:Cal Tryz.prog 194:=⟨by kernel_rfl⟩
theorem zey {main:Bool} {T:Goroutine->Hp->Prop} (hT:Shut Tryz.prog main T) {gm:Nat->Option Nat} {j n:Nat} {xs:List Int} (hn:xs.length=n) (h12:1<=n/\n<=12) :
  CallK Tryz.prog T gm 188 [.row j n,intA 0,intA n] [(j,.row (xs.map intA) 3 1)] (fun r K'=>K'=[(j,.row ((sortR ltI xs).map intA) 3 1)]):=by
 refine zf 49 hT Tryz.func188 fun Y hret=>?_
 refine au [] ?_
 refine TK.asSl 0 rfl (List.Mem.head _) ?_
 refine au [4,5,1,23,2,3,13] ?_
 refine TK.maskL [0,1,2,6] ?_
 refine TK.loopN (fun n1 env K=>∃ (i:Nat),n1=n - i/\1<=i/\i<=n/\env=[.sl j 0 n,intA 0,intA n,.any,.any,.any,intA i,.any,.any,.any,.any,.any,.any,.any,.any,.any,.any,.any,.any,.any,.any,.any,.any,.any,.any,.any,.any,.any,.any,.any,.any,.any,.any,.any,.any,.any,.any,.any,.any,.any,.any,.any,.any,.any,.any,.any,.any,.any,.any]/\K=[(j,.row ((sortN ltI xs i++xs.drop i).map intA) 3 1)]) (n - 1) ⟨1,rfl,Nat.le_refl _,h12.1,rfl,by rw [zcp oQ]⟩ fun n1 env K hI hnext=>?_
 obtain ⟨i,rfl,hi1,hi,rfl,rfl⟩:=hI
 refine au [4,4,5,1,1,6,3,20] ?_
 refine ⟨fun hc0=>?_,fun hc0=>?_⟩
 ·have hil:i<n:=by simp at hc0; omega
  obtain ⟨x,hx⟩:∃ x,xs[i]? =some x:=⟨_,List.getElem?_eq_getElem oQ⟩
  have hSl:=wv (lt:=ltI) xs i oQ
  have hTl:(xs.drop (i+1)).length=n - (i+1):=by simp; omega
  refine au [12,4,13,4,5,1,2,3,13] ?_
  refine TK.maskL [0,1,2,6,7] ?_
  refine TK.loopN (fun n1 env K=>∃ (p:Nat),n1=p/\p<=i/\insJ ltI x (sortN ltI xs i) p=insJ ltI x (sortN ltI xs i) (sortN ltI xs i).length/\env=[.sl j 0 n,intA 0,intA n,.any,.any,.any,intA i,intA p,.any,.any,.any,.any,.any,.any,.any,.any,.any,.any,.any,.any,.any,.any,.any,.any,.any,.any,.any,.any,.any,.any,.any,.any,.any,.any,.any,.any,.any,.any,.any,.any,.any,.any,.any,.any,.any,.any,.any,.any,.any]/\K=[(j,.row ((dataM (sortN ltI xs i) (xs.drop (i+1)) x p).map intA) 3 1)]) i ⟨i,rfl,Nat.le_refl _,by rw [hSl],rfl,by have:=zbr (sortN ltI xs i) (xs.drop (i+1)) x; rw [hSl] at this; rw [this,<- zl hx]⟩ fun n1 env K hI hnext1=>?_
  obtain ⟨p,hnp,hp,hins,rfl,rfl⟩:=hI
  subst n1
  have hdl:=zbq (S:=sortN ltI xs i) (T:=xs.drop (i+1)) (x:=x) (j:=p)
  refine au [4,4] ?_
  refine TK.draw [0,1,2,3,4,5,6,7,8,9,10,11,12,13,14] [0,1,2,3,4,5,6,7,8,9,10,11,12,13,14] (by kernel_rfl) (by kernel_rfl) ?_
  refine TD.z [7] rfl (zd rfl rfl) ?_
  refine TD.z [1] rfl (zd rfl rfl) ?_
  refine TD.z [16,17] rfl (q_cmp rfl rfl rfl rfl) ?_
  refine TD.z [18] rfl (zd rfl rfl) ?_
  refine TD.sp 19 (fun g4_4=>?_) (fun g4_4=>?_)
  ·have hp0:0<p:=by simp at g4_4; omega
   obtain ⟨q,rfl⟩:∃ q,p=q+1:=⟨p - 1,by omega⟩
   obtain ⟨y,hy⟩:∃ y,(sortN ltI xs i)[q]? =some y:=⟨_,List.getElem?_eq_getElem oQ⟩
   refine TD.z [0,19] rfl (zd rfl rfl) ?_
   refine TD.z [7,19] rfl (zd rfl rfl) ?_
   refine TD.z [19,20,21] rfl (zm rfl rfl rfl SlEl.h oQ oQ) ?_
   refine TD.y [19,22] rfl (hq:=ze rfl rfl TySz.h (List.Mem.head _) (yX (i:=q+1) (uX oQ) oQ)) (h:=?_)
   refine TD.z [0,19] rfl (zd rfl rfl) ?_
   refine TD.z [7,19] rfl (zd rfl rfl) ?_
   refine TD.z [19,25] rfl (q_sub rfl rfl rfl oQ) ?_
   refine TD.z [19,24,26] rfl (zm rfl rfl rfl SlEl.h oQ oQ) ?_
   refine TD.y [19,27] rfl (hq:=ze rfl rfl TySz.h (List.Mem.head _) (yX (i:=q) ((w9 oQ).trans hy) oQ)) (h:=?_)
   refine TD.cl (pend':=[⟨11,[19,24,26],[]⟩,⟨10,[19,25],[]⟩,⟨9,[7,19],[]⟩,⟨8,[0,19],[]⟩,⟨6,[19,20,21],[]⟩,⟨5,[7,19],[]⟩,⟨4,[0,19],[]⟩,⟨2,[16,17],[]⟩,⟨1,[1],[]⟩,⟨0,[7],[]⟩]) [19,23,28] rfl rfl rfl rfl rfl (zg1 hT) (fun r1 K2 h3=>⟨?_,?_⟩)
   ·rcases h3 with ⟨rfl,rfl⟩
    all_goals simp
   obtain ⟨rfl,rfl⟩:=h3
   try simp only [List.cons_append,List.nil_append]
   refine TD.norm (by simp only [List.set]; rfl) ?_
   refine TD.z [19,29] rfl (z6 rfl rfl rfl) ?_
   refine TD.fin ?_
   refine au [20] ?_
   refine ⟨fun hc1=>?_,fun hc1=>?_⟩
   ·have hsw:=zaB (T:=xs.drop (i+1)) (x:=x) hy
    refine au [12,4,13] ?_
    refine TK.draw [0,1,2,3,4,5,6,7,8,9,10,11,12,13,14,15,16,17] [0,1,5,6,7,8,9,10,11,12,13,14,15,2,3,4,16,17] (by kernel_rfl) (by kernel_rfl) ?_
    refine TD.z [0] rfl (zd rfl rfl) ?_
    refine TD.z [7] rfl (zd rfl rfl) ?_
    refine TD.z [0] rfl (zd rfl rfl) ?_
    refine TD.z [7] rfl (zd rfl rfl) ?_
    refine TD.z [36] rfl (q_sub rfl rfl rfl oQ) ?_
    refine TD.z [0] rfl (zd rfl rfl) ?_
    refine TD.z [7] rfl (zd rfl rfl) ?_
    refine TD.z [39] rfl (q_sub rfl rfl rfl oQ) ?_
    refine TD.z [38,40] rfl (zm rfl rfl rfl SlEl.h oQ oQ) ?_
    refine TD.y [41] rfl (hq:=ze rfl rfl TySz.h (List.Mem.head _) (yX (i:=q) ((w9 oQ).trans hy) oQ)) (h:=?_)
    refine TD.z [0] rfl (zd rfl rfl) ?_
    refine TD.z [7] rfl (zd rfl rfl) ?_
    refine TD.z [43,44] rfl (zm rfl rfl rfl SlEl.h oQ oQ) ?_
    refine TD.y [45] rfl (hq:=ze rfl rfl TySz.h (List.Mem.head _) (yX (i:=q+1) (uX oQ) oQ)) (h:=?_)
    refine TD.z [33,34] rfl (zm rfl rfl rfl SlEl.h oQ oQ) ?_
    refine TD.s (pend':=[⟨12,[43,44],[]⟩,⟨11,[7],[]⟩,⟨10,[0],[]⟩,⟨4,[36],[]⟩,⟨3,[7],[]⟩,⟨2,[0],[]⟩]) [42,47] rfl rfl (zt rfl rfl TySz.h rfl rfl mQ (zb6 (k:=q+1) oQ rfl)) ?_
    refine TD.z [35,37] rfl (zm rfl rfl rfl SlEl.h oQ oQ) ?_
    refine TD.s (pend':=[]) [46,48] rfl rfl (zt rfl rfl TySz.h rfl rfl mQ (zb6 (k:=q) (by rw [List.length_set]; omega) oQ)) ?_
    refine TD.fin ?_
    refine au [14,5,1,24,2,3] ?_
    refine TK.maskL [0,1,2,6,7] ?_
    refine TK.kp [(j,_)] ?_
    exact hnext1 _ _ _ oQ ⟨q,rfl,by omega,by rw [<- hins,zc9 hy hc1],by rw [show ((q+1:Nat):Int) - 1=(q:Int) by omega]; rfl,by rw [hsw]⟩
   have hstop:=vb (lt:=ltI) (x:=x) (S:=sortN ltI xs i) (T:=xs.drop (i+1)) (j:=q+1) oQ (fun i1 y1 h1 h2=>by obtain rfl:q=i1:=oQ; rw [hy] at h2; cases h2; exact hc1)
   rw [hins] at hstop
   refine au [16,14,5,1,23,2,3] ?_
   refine TK.maskL [0,1,2,6] ?_
   refine TK.kp [(j,_)] ?_
   exact hnext _ _ _ oQ ⟨i+1,rfl,by omega,by omega,rfl,by rw [yY hx,<- hstop]⟩
  obtain rfl:p=0:=by simp at g4_4; omega
  have hstop:=vb (lt:=ltI) (x:=x) (S:=sortN ltI xs i) (T:=xs.drop (i+1)) (j:=0) (Nat.zero_le _) (fun i y h=>by omega)
  rw [hins] at hstop
  refine TD.u [0,19] rfl ?_
  refine TD.u [7,19] rfl ?_
  refine TD.u [19,20,21] rfl ?_
  refine TD.u [19,22] rfl ?_
  refine TD.u [0,19] rfl ?_
  refine TD.u [7,19] rfl ?_
  refine TD.u [19,25] rfl ?_
  refine TD.u [19,24,26] rfl ?_
  refine TD.u [19,27] rfl ?_
  refine TD.u [19,23,28] rfl ?_
  refine TD.z [19,29] rfl (zE rfl rfl rfl) ?_
  refine TD.fin ?_
  refine au [19,16,14,5,1,23,2,3] ?_
  refine TK.maskL [0,1,2,6] ?_
  refine TK.kp [(j,_)] ?_
  exact hnext _ _ _ oQ ⟨i+1,rfl,by omega,by omega,rfl,by rw [yY hx,<- hstop]⟩
 obtain rfl:i=n:=by simp at hc0; omega
 have hfin:[(j,AObj.row ((sortN ltI xs i++xs.drop i).map intA) 3 1)]=[(j,.row ((sortN ltI xs xs.length).map intA) 3 1)]:=by rw [hn,List.drop_eq_nil_of_le oQ,List.append_nil]
 refine au [16] ?_
 refine TK.rt0 hret [(j,_)] ?_
 rw [show sortR ltI xs=sortN ltI xs xs.length from rfl]
 exact hfin
theorem zeQ {main:Bool} {T:Goroutine->Hp->Prop} (hT:Shut Tryz.prog main T) {gm:Nat->Option Nat} {lim:Int} {j n:Nat} {xs:List Int} (hn:xs.length=n) (h12:1<=n/\n<=12) :
  CallK Tryz.prog T gm 160 [.row j n,intA 0,intA n,intA lim] [(j,.row (xs.map intA) 3 1)] (fun r K'=>K'=[(j,.row ((sortR ltI xs).map intA) 3 1)]):=by
 refine zf 134 hT Tryz.func160 fun Y hret=>?_
 refine au [4,5,2,3,4,5,2,3,13] ?_
 refine TK.loop ?_
 refine au [13,4,5,1,1,24,2,3,4,4,5,1,6,3,20] ?_
 refine ⟨fun hc0=>?_,fun hc0=>?_⟩
 ·refine au [4,5,1,1,1] ?_
  refine TK.cl rfl rfl rfl rfl (zey hT hn h12) ?_
  rintro r1 K2 rfl
  refine au [3] ?_
  refine TK.rt hret [(j,_)] ?_
  exact rfl
 simp at hc0; omega
theorem zhw {main:Bool} {T:Goroutine->Hp->Prop} (hT:Shut Tryz.prog main T) {gm:Nat->Option Nat} {j n:Nat} {xs:List Int} (hn:xs.length=n) (h12:1<=n/\n<=12) :
  CallK Tryz.prog T gm 131 [.row j n] [(j,.row (xs.map intA) 3 1)] (fun r K'=>K'=[(j,.row ((sortR ltI xs).map intA) 3 1)]):=by
 refine zf 11 hT Tryz.func131 fun Y hret=>?_
 refine au [4,5,1,28,2,3,5,1,1,1] ?_
 refine TK.a rfl (zR rfl rfl Und.h Und.h (za6 (n:=n) oQ)) ?_
 refine TK.cl rfl rfl rfl rfl (xn hT (n:=n) oQ) ?_ (hs:=(.none _))
 rintro r1 K2 ⟨m,rfl,rfl⟩
 refine au [] ?_
 refine TK.cl rfl rfl rfl rfl (zeQ hT hn h12) ?_
 rintro r4 K5 rfl
 refine au [3] ?_
 refine TK.rt0 hret [(j,_)] ?_
 exact rfl
end Go.Vel
namespace Go.Vel
open Go Go.Conc
section
variable {P:Program} {gm:Nat->Option Nat} {T:Goroutine->Hp->Prop} {Y:KX P gm T} {ds:List Nat} {k:List Item} {env env':List AV} {K K' K1:KV} {ops:Array Oper} {i:Nat} {rest:List Nat} {o:Oper} {envf:Nat->List AV}
theorem Upd.same' {K K':KV} {i j:Nat} {o o':AObj} (h:Upd K i o j o' K'):i=j->o'=o->K'=K:=by
 induction h with
 | head=>intro hj e; rw [e,hj]
 | tail _ ih=>intro hj e; rw [ih hj e]
theorem Upd.same {K K':KV} {i:Nat} {o o':AObj} (h:Upd K i o i o' K') (e:o'=o):K'=K:=h.same' rfl e
theorem TK.appG {s x:Operand} {t e:TypeId} {size bytes j n m:Nat} {lo ln:List AV} {u:AV} {K'':Nat->KV} (ho:ops[i]? =some o) (hw:wantA ops env o=some true) (hop:o.op=.call { callee:=.builtin .append,args:=#[s,x],argTypes:=#[t,t] }) (ht:apOf P t=some (e,size,bytes)) (hs:opndO gm env s=some (.row j n)) (hm:(j,.row lo e size)∈K) (hlo:lo.length=n*size) (hx:opndO gm env x=some u) (hl:lenA u=some m) (hsrc:0<m->srcO K size u m ln) (hln:m=0->ln=[])
  (hone:ln.all oneA=true) (hmax:n+m<=maxLen) (hbytes:(n+m)*bytes<=140737488355328) (hu:∀ j',Upd K j (.row lo e size) j' (.row (lo++ln) e size) (K'' j')) (he:∀ j',putA env o.dst (.row j' (n+m))=envf j') (h:∀ j',TK Y ds (.inRegion ops rest::k) (envf j') (K'' j')):TK Y ds (.inRegion ops (i::rest)::k) env K:=by
 rcases Nat.eq_zero_or_pos m with e0 | hpos
 ·subst e0
  have hk:K'' j=K:=(hu j).same (by rw [hln rfl,List.append_nil])
  have ht':=ht
  unfold apOf at ht'
  split at ht'
  ·rename_i e' h1
   split at ht'
   ·rename_i ti h2
    refine TK.q (r:=.row j n) ho (by rw [hop]; rfl) hw (zb7 hop h1 h2 hs hx hl) (he j) ?_
    rw [<- hk]; exact h j
   ·cases ht'
  ·cases ht'
 ·exact TK.appR ho (by rw [hop]; rfl) hw (a_app hop ht hs hm hlo hx (hsrc hpos) hpos hone hmax hbytes) hu he h
theorem TK.normK (he:K=K') (h:TK Y ds k env K'):TK Y ds k env K:=he ▸ h
end
theorem yT {l:List AV} {e:TypeId} {rw':Bool} {n size:Nat} (hl:l.length=n*size) (h:0<n*size):takeO (.cells l e rw') 0 (n*size)=some l:=by
 simp only [takeO,AObj.look,Nat.zero_add,List.drop_zero]
 rw [if_pos ⟨h,by omega⟩,<- hl,List.take_length]
theorem yI {α:Type} (f:α->List AV) (h:∀ x,(f x).all oneA=true) (xs:List α):(xs.flatMap f).all oneA=true:=by
 induction xs with
 | nil=>rfl
 | cons x xs ih=>rw [List.flatMap_cons,List.all_append,h,ih]; rfl
end Go.Vel
namespace Go.Vel
open Go Go.Conc Go.Proofs
def AgrR (b:RBk) (K:KV) (r:AV) (K':KV):Prop:=(checkM b≠0/\r=.tup [.agg z7R,intA (checkM b)]/\K'=K)\/(checkM b=0/\statesM b=[]/\r=.tup [.agg z7R,intA 9]/\K'=K)\/(checkM b=0/\statesM b≠[]/\∃ s h e,r=.tup [.agg (rollC b s h e),intA 0]/\K'=(s,seamO b)::(h,shrO b)::(e,measO b)::K)
def measuredB (b:RBk) (m:RMeas):RBk:={ b with measures:=b.measures++[m] }
def driedB (b:RBk) (i:Nat) (x:RBand):RBk:={ b with shrinks:=b.shrinks.set i x }
theorem zgb {xs:List RBand} {i:Nat} {n:Int} {x:RBand} {e:TypeId} (h:i<xs.length) (hn:n=(i:Int)):putO (.row (xs.flatMap bandC) e 2) (n.toNat*2) (bandC x)=some (.row ((xs.set i x).flatMap bandC) e 2):=by
 subst hn
 unfold putO
 dsimp only
 have hl:=zS bandC 2 (fun _=>rfl) xs
 rw [if_pos ⟨by rw [hl]; simp [bandC]; omega,by simp [bandC],rfl⟩]
 have key:∀ (xs:List RBand) (i:Nat),i<xs.length->setL (xs.flatMap bandC) (i*2) (bandC x)=(xs.set i x).flatMap bandC:=by
  intro xs
  induction xs with
  | nil=>intro i hi; simp at hi
  | cons y r ih =>
   intro i hi
   cases i with
   | zero=>rfl
   | succ i =>
    have:=ih i (by simpa using hi)
    rw [show (i+1)*2=i*2+2 by omega,List.set_cons_succ,List.flatMap_cons,List.flatMap_cons,<- this]
    rfl
 rw [Int.toNat_natCast,key xs i h]
instance:ApOf Tryz.prog 22 94 5 40:=⟨by kernel_rfl⟩
instance:ApOf Tryz.prog 23 51 2 16:=⟨by kernel_rfl⟩
instance:ApOf Tryz.prog 24 49 3 24:=⟨by kernel_rfl⟩
instance:BlOf Tryz.prog 26 [(0,1),(1,1),(2,1),(3,1),(4,1),(5,1),(6,1)]:=⟨by kernel_rfl⟩
instance:Cal Tryz.prog 120:=⟨by kernel_rfl⟩
instance:Cal Tryz.prog 121:=⟨by kernel_rfl⟩
instance:Cal Tryz.prog 125:=⟨by kernel_rfl⟩
instance:Cal Tryz.prog 129:=⟨by kernel_rfl⟩
instance:Cal Tryz.prog 157:=⟨by kernel_rfl⟩
instance:TyZ Tryz.prog 26 [.int .i64 0,.int .i64 0,.int .i64 0,.int .i64 0,.slice none 0 0,.slice none 0 0,.slice none 0 0]:=⟨by kernel_rfl⟩
instance:TyZ Tryz.prog 49 [.int .i64 0,.int .i64 0,.int .i64 0]:=⟨by kernel_rfl⟩
instance:TyZ Tryz.prog 94 [.int .i64 0,.int .i64 0,.int .i64 0,.int .i64 0,.bool false]:=⟨by kernel_rfl⟩
instance:TyZA Tryz.prog 26 [.v (.int .i64 0),.v (.int .i64 0),.v (.int .i64 0),.v (.int .i64 0),.v (.slice none 0 0),.v (.slice none 0 0),.v (.slice none 0 0)]:=⟨by kernel_rfl⟩
theorem zdE {main:Bool} {T:Goroutine->Hp->Prop} (hT:Shut Tryz.prog main T) {gm:Nat->Option Nat} {j n:Nat} {l:List AV} {et:TypeId} {rw':Bool} (hl:l.length=n*5) (hone:l.all oneA=true) (hn:n<=100000) :
  CallK Tryz.prog T gm 157 [.sl j 0 n] [(j,.cells l et rw')] (fun r K'=>∃ j2,r=.row j2 n/\K'=[(j,.cells l et rw'),(j2,.row l 94 5)]):=by
 refine zf 8 hT Tryz.func157 fun Y hret=>?_
 refine au [4,5,2,3,4,4,5,1] ?_
 refine TK.nilT rfl rfl rfl rfl Und.h fun tz hz=>?_
 refine au [3,20] ?_
 refine ⟨fun hc0=>?_,fun hc0=>?_⟩
 ·refine au [4,5,2] ?_
  refine TK.virt 2 94 5 rfl fun j0 hj0=>?_
  refine au [3] ?_
  refine TK.rt hret [(j,_),(j0,_)] ?_
  obtain rfl:=hz hc0
  obtain rfl:=List.eq_nil_of_length_eq_zero (by simpa using hl)
  exact ⟨_,rfl,rfl⟩
 refine au [12,4,5] ?_
 refine TK.newR rfl rfl rfl (zg (l:=[]) rfl SlEl.h TyZ.h dQ dQ rfl) (fun _=>putS rfl (by simp only [List.set]; rfl)) fun j1 hj1=>?_
 refine au [1] ?_
 refine TK.appG (envf:=fun _=>[_,_,_,_,_,_,_,_]) (ln:=l) rfl rfl rfl ApOf.h rfl mQ rfl rfl rfl (fun hp=>kV mQ oQ (yT hl oQ)) (fun h=>by subst h; exact List.eq_nil_of_length_eq_zero (by simpa using hl)) hone (by unfold maxLen; omega) oQ (fun _=>uQ) (fun _=>rfl) fun j2=>?_
 simp only [List.nil_append,Nat.zero_add]
 refine au [2,3] ?_
 refine TK.rt hret [(j,_),(j2,_)] ?_
 exact ⟨_,rfl,rfl⟩
theorem xq {main:Bool} {T:Goroutine->Hp->Prop} (hT:Shut Tryz.prog main T) {gm:Nat->Option Nat} {j n:Nat} {l:List AV} {et:TypeId} {rw':Bool} (hl:l.length=n*2) (hone:l.all oneA=true) (hn:n<=100000) :
  CallK Tryz.prog T gm 125 [.sl j 0 n] [(j,.cells l et rw')] (fun r K'=>∃ j2,r=.row j2 n/\K'=[(j,.cells l et rw'),(j2,.row l 51 2)]):=by
 refine zf 8 hT Tryz.func125 fun Y hret=>?_
 refine au [4,5,2,3,4,4,5,1] ?_
 refine TK.nilT rfl rfl rfl rfl Und.h fun tz hz=>?_
 refine au [3,20] ?_
 refine ⟨fun hc0=>?_,fun hc0=>?_⟩
 ·refine au [4,5,2] ?_
  refine TK.virt 2 51 2 rfl fun j0 hj0=>?_
  refine au [3] ?_
  refine TK.rt hret [(j,_),(j0,_)] ?_
  obtain rfl:=hz hc0
  obtain rfl:=List.eq_nil_of_length_eq_zero (by simpa using hl)
  exact ⟨_,rfl,rfl⟩
 refine au [12,4,5] ?_
 refine TK.newR rfl rfl rfl (zg (l:=[]) rfl SlEl.h TyZ.h dQ dQ rfl) (fun _=>putS rfl (by simp only [List.set]; rfl)) fun j1 hj1=>?_
 refine au [1] ?_
 refine TK.appG (envf:=fun _=>[_,_,_,_,_,_,_,_]) (ln:=l) rfl rfl rfl ApOf.h rfl mQ rfl rfl rfl (fun hp=>kV mQ oQ (yT hl oQ)) (fun h=>by subst h; exact List.eq_nil_of_length_eq_zero (by simpa using hl)) hone (by unfold maxLen; omega) oQ (fun _=>uQ) (fun _=>rfl) fun j2=>?_
 simp only [List.nil_append,Nat.zero_add]
 refine au [2,3] ?_
 refine TK.rt hret [(j,_),(j2,_)] ?_
 exact ⟨_,rfl,rfl⟩
theorem vH {main:Bool} {T:Goroutine->Hp->Prop} (hT:Shut Tryz.prog main T) {gm:Nat->Option Nat} {j n:Nat} {l:List AV} {et:TypeId} {rw':Bool} (hl:l.length=n*3) (hone:l.all oneA=true) (hn:n<=100000) :
  CallK Tryz.prog T gm 120 [.sl j 0 n] [(j,.cells l et rw')] (fun r K'=>∃ j2,r=.row j2 n/\K'=[(j,.cells l et rw'),(j2,.row l 49 3)]):=by
 refine zf 8 hT Tryz.func120 fun Y hret=>?_
 refine au [4,5,2,3,4,4,5,1] ?_
 refine TK.nilT rfl rfl rfl rfl Und.h fun tz hz=>?_
 refine au [3,20] ?_
 refine ⟨fun hc0=>?_,fun hc0=>?_⟩
 ·refine au [4,5,2] ?_
  refine TK.virt 2 49 3 rfl fun j0 hj0=>?_
  refine au [3] ?_
  refine TK.rt hret [(j,_),(j0,_)] ?_
  obtain rfl:=hz hc0
  obtain rfl:=List.eq_nil_of_length_eq_zero (by simpa using hl)
  exact ⟨_,rfl,rfl⟩
 refine au [12,4,5] ?_
 refine TK.newR rfl rfl rfl (zg (l:=[]) rfl SlEl.h TyZ.h dQ dQ rfl) (fun _=>putS rfl (by simp only [List.set]; rfl)) fun j1 hj1=>?_
 refine au [1] ?_
 refine TK.appG (envf:=fun _=>[_,_,_,_,_,_,_,_]) (ln:=l) rfl rfl rfl ApOf.h rfl mQ rfl rfl rfl (fun hp=>kV mQ oQ (yT hl oQ)) (fun h=>by subst h; exact List.eq_nil_of_length_eq_zero (by simpa using hl)) hone (by unfold maxLen; omega) oQ (fun _=>uQ) (fun _=>rfl) fun j2=>?_
 simp only [List.nil_append,Nat.zero_add]
 refine au [2,3] ?_
 refine TK.rt hret [(j,_),(j2,_)] ?_
 exact ⟨_,rfl,rfl⟩
theorem zaA {main:Bool} {T:Goroutine->Hp->Prop} (hT:Shut Tryz.prog main T) {gm:Nat->Option Nat} {b:RBk} {s h e:Nat} (hb:ROk b) :
  CallK Tryz.prog T gm 129 [.agg (rollC b s h e)] [(s,seamO b),(h,shrO b),(e,measO b)] (fun r K'=>∃ s2 h2 e2,r=.agg (rollC b s2 h2 e2)/\K'=[(s2,seamO b),(h2,shrO b),(e2,measO b),(s,seamO b),(h,shrO b),(e,measO b)]):=by
 refine zf 16 hT Tryz.func129 fun Y hret=>?_
 refine au [] ?_
 have hs5:=hb.sms.len
 have hsl:=hb.cls.len
 have hml:=hb.mes.len
 refine au [4,5,21] ?_
 intro jb hjb
 refine au [22] ?_
 intro jr hjr
 refine au [3,4] ?_
 refine TK.draw [0,1,3,4,6,7,2,9,5,8,10,11,12,13,14] [0,1,2,3,4,5,6,7,8,9,10,11,12,13,14] (by kernel_rfl) (by kernel_rfl) ?_
 refine TD.z [1] rfl (zc rfl rfl FldOf.h dQ) ?_
 refine TD.y [3] rfl (hq:=ze rfl rfl TySz.h (List.Mem.head _) rfl) (h:=?_)
 refine TD.z [1] rfl (zc rfl rfl FldOf.h dQ) ?_
 refine TD.y [6] rfl (hq:=ze rfl rfl TySz.h (List.Mem.head _) rfl) (h:=?_)
 refine TD.z [1] rfl (zc rfl rfl FldOf.h dQ) ?_
 refine TD.y [9] rfl (hq:=ze rfl rfl TySz.h (List.Mem.head _) rfl) (h:=?_)
 refine TD.cl (pend':=[⟨7,[9],[(_,_)]⟩,⟨6,[1],[]⟩,⟨4,[6],[(_,_)]⟩,⟨3,[1],[]⟩,⟨0,[1],[]⟩]) [4] rfl rfl rfl rfl rfl (zdE hT (zS seamC 5 (fun _=>rfl) b.seams) (yI seamC (fun _=>rfl) _) oQ) (fun r1 K2 h3=>⟨?_,?_⟩)
 ·rcases h3 with ⟨s2,rfl,rfl⟩
  all_goals simp
 obtain ⟨s2,rfl,rfl⟩:=h3
 try simp only [List.cons_append,List.nil_append]
 refine TD.norm (by simp only [List.set]; rfl) ?_
 refine TD.z [1] rfl (zc rfl rfl FldOf.h dQ) ?_
 refine TD.cl (pend':=[⟨9,[1],[]⟩,⟨7,[9],[(_,_)]⟩,⟨6,[1],[]⟩,⟨3,[1],[]⟩,⟨0,[1],[]⟩]) [7] rfl rfl rfl rfl rfl (xq hT (zS bandC 2 (fun _=>rfl) b.shrinks) (yI bandC (fun _=>rfl) _) oQ) (fun r4 K5 h6=>⟨?_,?_⟩)
 ·rcases h6 with ⟨h2,rfl,rfl⟩
  all_goals simp
 obtain ⟨h2,rfl,rfl⟩:=h6
 try simp only [List.cons_append,List.nil_append]
 refine TD.norm (by simp only [List.set]; rfl) ?_
 refine TD.cl (pend':=[⟨9,[1],[]⟩,⟨6,[1],[]⟩,⟨3,[1],[]⟩,⟨0,[1],[]⟩]) [10] rfl rfl rfl rfl rfl (vH hT (zS measC 3 (fun _=>rfl) b.measures) (yI measC (fun _=>rfl) _) oQ) (fun r7 K8 h9=>⟨?_,?_⟩)
 ·rcases h9 with ⟨e2,rfl,rfl⟩
  all_goals simp
 obtain ⟨e2,rfl,rfl⟩:=h9
 try simp only [List.cons_append,List.nil_append]
 refine TD.norm (by simp only [List.set]; rfl) ?_
 refine TD.s (pend':=[]) [5,12] rfl rfl (zt rfl rfl TySz.h rfl rfl mQ rfl) ?_
 refine TD.z [1] rfl (zc rfl rfl FldOf.h dQ) ?_
 refine TD.s (pend':=[]) [8,13] rfl rfl (zt rfl rfl TySz.h rfl rfl mQ rfl) ?_
 refine TD.z [1] rfl (zc rfl rfl FldOf.h dQ) ?_
 refine TD.s (pend':=[]) [11,14] rfl rfl (zt rfl rfl TySz.h rfl rfl mQ rfl) ?_
 refine TD.fin ?_
 refine au [4] ?_
 refine TK.unrowAt (c:=jb) (i:=4) (j:=s2) rfl mQ uQ ?_
 refine TK.frzRow (j:=s2) ?_
 refine TK.unrowAt (c:=jb) (i:=5) (j:=h2) rfl mQ uQ ?_
 refine TK.frzRow (j:=h2) ?_
 refine TK.unrowAt (c:=jb) (i:=6) (j:=e2) rfl mQ uQ ?_
 refine TK.frzRow (j:=e2) ?_
 refine au [5,8,17,3] ?_
 refine TK.rt hret [(s2,_),(h2,_),(e2,_),(s,_),(h,_),(e,_)] ?_
 exact ⟨s2,h2,e2,rfl,rfl⟩
theorem ul {main:Bool} {T:Goroutine->Hp->Prop} (hT:Shut Tryz.prog main T)  {b:RBk} {s h e:Nat} (hl:b.seams.length<=100) (hm:b.measures.length<=100) :
  CallK Tryz.prog T gmR 121 [.agg (rollC b s h e)] [(0,checksG),(s,seamO b),(h,shrO b),(e,measO b)] (fun r K'=>AgrR b [(0,checksG),(s,seamO b),(h,shrO b),(e,measO b)] r K'):=by
 refine zf 17 hT Tryz.func121 fun Y hret=>?_
 refine au [4,5,21] ?_
 intro jb hjb
 refine au [22] ?_
 intro jr hjr
 refine au [2,3,4,4,5,8] ?_
 refine TK.cl rfl rfl rfl rfl (kJ hT (Kx:=[]) hl hm) ?_
 rintro r1 K2 h3
 rcases h3 with ⟨hbar,rfl,rfl⟩ | ⟨hbar,hnil,rfl,rfl⟩ | ⟨hbar,hne,a,rfl,rfl⟩
 ·refine au [1,10,10,22] ?_
  intro j4 hj4
  refine au [17,2,3,4,5,1,6,3,20] ?_
  refine ⟨fun hc0=>?_,fun hc0=>?_⟩
  ·
   refine au [4,5,44,1,17,2,3] ?_
   refine TK.rt hret [(0,_),(s,_),(h,_),(e,_)] ?_
   exact .inl ⟨hbar,rfl,rfl⟩
  exact absurd hbar (by simpa using hc0)
 ·refine au [1,10,10,22] ?_
  intro j4 hj4
  refine au [17,2,3,4,5,1,6,3,20] ?_
  refine ⟨fun hc0=>?_,fun hc0=>?_⟩
  ·
   refine au [4,5,44,1,17,2,3] ?_
   refine TK.rt hret [(0,_),(s,_),(h,_),(e,_)] ?_
   exact .inr (.inl ⟨hbar,hnil,rfl,rfl⟩)
  exact absurd hc0 dQ
 ·refine au [1,10,10,22] ?_
  intro j4 hj4
  refine au [17,2,3,4,5,1,6,3,20] ?_
  refine ⟨fun hc0=>?_,fun hc0=>?_⟩
  ·exact absurd hc0 sQ
  have hbb:=zp hbar
  refine au [12,4,5,8] ?_
  refine TK.cl rfl rfl rfl rfl (zaA hT hbb) ?_
  rintro r4 K5 ⟨s2,h2,e2,rfl,rfl⟩
  refine au [17,2,3] ?_
  refine TK.rt hret [(s2,_),(h2,_),(e2,_),(0,_),(s,_),(h,_),(e,_)] ?_
  exact .inr (.inr ⟨hbar,hne,s2,h2,e2,rfl,rfl⟩)
theorem zdO {main:Bool} {T:Goroutine->Hp->Prop} (hT:Shut Tryz.prog main T)  {b:RBk} {s h e:Nat} (hl:b.seams.length<=100) (hm:b.measures.length<=100) {m:RMeas} :
  CallK Tryz.prog T gmR 42 [.agg (rollC b s h e),.agg (measC m)] [(0,checksG),(s,seamO b),(h,shrO b),(e,measO b)] (fun r K'=>(checkM b≠0/\r=.tup [.agg z7R,intA (checkM b)]/\K'=[(0,checksG),(s,seamO b),(h,shrO b),(e,measO b)])\/(checkM b=0/\AgrR (measuredB b m) [(0,checksG),(s,seamO b),(h,shrO b),(e,measO b)] r K')):=by
 refine zf 24 hT Tryz.func42 fun Y hret=>?_
 refine au [4,5,21] ?_
 intro jb hjb
 refine au [21] ?_
 intro jm hjm
 refine au [22] ?_
 intro jr hjr
 refine au [2,3,4,4,5,8] ?_
 refine TK.cl rfl rfl rfl rfl (wN hT hl hm) ?_
 rintro r1 K2 ⟨rfl,rfl⟩
 refine au [2,3,4,5,1,6,3,20] ?_
 refine ⟨fun hc0=>?_,fun hc0=>?_⟩
 ·refine au [4,5,44,1,17,2,3] ?_
  refine TK.rt hret [(0,_),(s,_),(h,_),(e,_)] ?_
  exact .inl ⟨by simpa using hc0,rfl,rfl⟩
 have hbar:checkM b=0:=by simpa using hc0
 have hml:=(zp hbar).mes.len
 have hfl:=zS measC 3 (fun _=>rfl) b.measures
 refine au [12,4] ?_
 refine TK.draw [0,1,3,2,4,5,6,7] [0,1,2,3,4,5,6,7] (by kernel_rfl) (by kernel_rfl) ?_
 refine TD.z [2] rfl (zc rfl rfl FldOf.h dQ) ?_
 refine TD.y [13] rfl (hq:=ze rfl rfl TySz.h (List.Mem.head _) rfl) (h:=?_)
 refine TD.y [3] rfl (hq:=zx rfl rfl TySz.h (List.Mem.head _) rfl) (h:=?_)
 refine TD.c2 (i1:=2) (i2:=4) (pend1:=[⟨3,[3],[(_,_)]⟩,⟨0,[2],[]⟩]) (pend2:=[⟨1,[13],[(_,_)]⟩,⟨0,[2],[]⟩]) (L1:=[4,5,6,7]) (L2:=[2,5,6,7]) [14] [16] rfl rfl rfl rfl rfl rfl rfl ?_ ?_
 ·refine kb rfl rfl Cal.h rfl (vH hT (zS measC 3 (fun _=>rfl) b.measures) (yI measC (fun _=>rfl) _) oQ) (by repeat (first | exact Split.none _ | exact Split.all _ | (apply Split.rem; repeat (first | exact Rem.head | apply Rem.tail)) | apply Split.right)) fun r4 K5 h6=>⟨?_,?_⟩
  ·rcases h6 with ⟨jc,rfl,rfl⟩
   all_goals simp
  obtain ⟨jc,rfl,rfl⟩:=h6
  try simp only [List.cons_append,List.nil_append]
  refine TD.norm (env':=[_,_,_,_,_,_,_,_,_,_,_,_,_,_,_,_,_,_,_,_,_,_,_,_]) rfl ?_
  refine TD.cnewR (pend':=[⟨0,[2],[]⟩]) [16] rfl rfl rfl rfl rfl (zg (l:=[_,_,_]) rfl SlEl.h TyZ.h dQ dQ rfl) (fun _=>putS rfl (by simp only [List.set]; rfl)) sQ fun j7 hj7=>?_
  refine TD.capp (pend':=[⟨0,[2],[]⟩]) [15,17] rfl rfl rfl rfl rfl (a_app rfl ApOf.h rfl mQ oQ rfl (zL (ln:=[_,_,_]) mQ dQ sQ rfl) oQ rfl (by unfold maxLen; omega) oQ) (fun _=>uQ) (fun _=>putS rfl (by simp only [List.set]; rfl)) (fun _=>sQ) fun je=>?_
  refine TD.z [2] rfl (zc rfl rfl FldOf.h dQ) ?_
  refine TD.s (pend':=[]) [18,19] rfl rfl (zt rfl rfl TySz.h rfl rfl mQ rfl) ?_
  refine TD.fin ?_
  refine au [4] ?_
  refine TK.unrowAt (c:=jb) (i:=6) (j:=je) rfl mQ uQ ?_
  refine TK.frzRow (j:=je) ?_
  rw [show b.measures.flatMap measC++[intA m.cloth,intA m.many,intA m.wide]=(measuredB b m).measures.flatMap measC from (ym measC b.measures m).symm,show b.measures.length+1=(measuredB b m).measures.length by simp [measuredB]]
  refine au [5,8] ?_
  refine TK.cl rfl rfl rfl rfl ((ul hT (b:=measuredB b m) (s:=s) (h:=h) (e:=je) hl (by simp [measuredB]; omega)).mono (fun _ _ h=>h)) ?_
  rintro r8 K9 h10
  rcases h10 with ⟨hb2,rfl,rfl⟩ | ⟨hb2,hn2,rfl,rfl⟩ | ⟨hb2,hn2,s2,h2,e2,rfl,rfl⟩
  ·refine au [10,10,17,2,3] ?_
   refine TK.rt hret [(0,_),(s,_),(h,_),(e,_)] ?_
   exact .inr ⟨hbar,.inl ⟨hb2,rfl,rfl⟩⟩
  ·refine au [10,10,17,2,3] ?_
   refine TK.rt hret [(0,_),(s,_),(h,_),(e,_)] ?_
   exact .inr ⟨hbar,.inr (.inl ⟨hb2,hn2,rfl,rfl⟩)⟩
  ·refine au [10,10,17,2,3] ?_
   refine TK.rt hret [(s2,_),(h2,_),(e2,_),(0,_),(s,_),(h,_),(e,_)] ?_
   exact .inr ⟨hbar,.inr (.inr ⟨hb2,hn2,s2,h2,e2,rfl,rfl⟩)⟩
 ·refine kE rfl (zg (l:=[_,_,_]) rfl SlEl.h TyZ.h dQ dQ rfl) (fun _=>putS rfl (by simp only [List.set]; rfl)) sQ fun j11 hj11=>?_
  refine TD.cl (pend':=[⟨0,[2],[]⟩]) [14] rfl rfl rfl rfl rfl (vH hT (zS measC 3 (fun _=>rfl) b.measures) (yI measC (fun _=>rfl) _) oQ) (fun r12 K13 h14=>⟨?_,?_⟩)
  ·rcases h14 with ⟨jc,rfl,rfl⟩
   all_goals simp
  obtain ⟨jc,rfl,rfl⟩:=h14
  try simp only [List.cons_append,List.nil_append]
  refine TD.norm (by simp only [List.set]; rfl) ?_
  refine TD.capp (pend':=[⟨0,[2],[]⟩]) [15,17] rfl rfl rfl rfl rfl (a_app rfl ApOf.h rfl mQ oQ rfl (zL (ln:=[_,_,_]) mQ dQ sQ rfl) oQ rfl (by unfold maxLen; omega) oQ) (fun _=>uQ) (fun _=>putS rfl (by simp only [List.set]; rfl)) (fun _=>sQ) fun je=>?_
  refine TD.z [2] rfl (zc rfl rfl FldOf.h dQ) ?_
  refine TD.s (pend':=[]) [18,19] rfl rfl (zt rfl rfl TySz.h rfl rfl mQ rfl) ?_
  refine TD.fin ?_
  refine au [4] ?_
  refine TK.unrowAt (c:=jb) (i:=6) (j:=je) rfl mQ uQ ?_
  refine TK.frzRow (j:=je) ?_
  rw [show b.measures.flatMap measC++[intA m.cloth,intA m.many,intA m.wide]=(measuredB b m).measures.flatMap measC from (ym measC b.measures m).symm,show b.measures.length+1=(measuredB b m).measures.length by simp [measuredB]]
  refine au [5,8] ?_
  refine TK.cl rfl rfl rfl rfl ((ul hT (b:=measuredB b m) (s:=s) (h:=h) (e:=je) hl (by simp [measuredB]; omega)).mono (fun _ _ h=>h)) ?_
  rintro r15 K16 h17
  rcases h17 with ⟨hb2,rfl,rfl⟩ | ⟨hb2,hn2,rfl,rfl⟩ | ⟨hb2,hn2,s2,h2,e2,rfl,rfl⟩
  ·refine au [10,10,17,2,3] ?_
   refine TK.rt hret [(0,_),(s,_),(h,_),(e,_)] ?_
   exact .inr ⟨hbar,.inl ⟨hb2,rfl,rfl⟩⟩
  ·refine au [10,10,17,2,3] ?_
   refine TK.rt hret [(0,_),(s,_),(h,_),(e,_)] ?_
   exact .inr ⟨hbar,.inr (.inl ⟨hb2,hn2,rfl,rfl⟩)⟩
  ·refine au [10,10,17,2,3] ?_
   refine TK.rt hret [(s2,_),(h2,_),(e2,_),(0,_),(s,_),(h,_),(e,_)] ?_
   exact .inr ⟨hbar,.inr (.inr ⟨hb2,hn2,s2,h2,e2,rfl,rfl⟩)⟩
def dryX (b:RBk) (n:Int) (x:RBand):RBand:=⟨max (bd b n.toNat).low x.low,min (bd b n.toNat).high x.high⟩
def shrM (b:RBk) (n:Int):List Int:=compM (sortR ltI ((statesM b).map fun s=>cutN s n.toNat))
theorem zdH {xs:List Int} (h:xs.length<2):compM xs=xs:=by
 rcases xs with _ | ⟨x,_ | ⟨y,r⟩⟩
 ·rfl
 ·rfl
 ·simp only [List.length_cons] at h; omega
def onlyL (xs:List RMeas) (mask:Nat):Nat->List RMeas
 | 0=>[]
 | i+1=>onlyL xs mask i++(if mask / 2 ^ i % 2=1 then (xs[i]?).toList else [])
def onlyB (b:RBk) (mask:Nat):RBk:={ b with measures:=onlyL b.measures mask b.measures.length }
theorem uD (xs:List RMeas) (mask:Nat):∀ i,i<=xs.length->(onlyL xs mask i).length=(bitsM mask i).length
 | 0,_=>rfl
 | i+1,h=>by
  unfold onlyL bitsM
  rw [List.length_append,List.length_append,uD xs mask i oQ]
  split
  ·rw [List.getElem?_eq_getElem oQ]; rfl
  ·rfl
theorem zaT {xs:List RMeas} {mask:Nat}:∀ i m,m∈onlyL xs mask i->m∈xs
 | 0,m,h=>by cases h
 | i+1,m,h=>by
  unfold onlyL at h
  rcases List.mem_append.1 h with h | h
  ·exact zaT i m h
  ·split at h
   ·cases e:xs[i]? with
    | none=>rw [e] at h; cases h
    | some y=>rw [e] at h; rw [List.mem_singleton.1 h]; exact List.mem_of_getElem? e
   ·cases h
theorem zf8 {b:RBk} (hb:ROk b) (mask:Nat):ROk (onlyB b mask):=⟨⟨hb.rnd.steps,hb.rnd.round,hb.rnd.roll,hb.rnd.rolls⟩,⟨hb.sms.len,hb.sms.fld,hb.sms.asc⟩,⟨hb.cls.len,hb.cls.bnd⟩,⟨by
 show (onlyL b.measures mask b.measures.length).length<=3
 rw [uD _ _ _ (Nat.le_refl _)]
 have:=kC mask b.measures.length
 have:=hb.mes.len
 omega,fun m hm=>hb.mes.bnd m (zaT _ m hm)⟩⟩
instance:Cal Tryz.prog 131:=⟨by kernel_rfl⟩
instance:Cal Tryz.prog 132:=⟨by kernel_rfl⟩
theorem zel {main:Bool} {T:Goroutine->Hp->Prop} (hT:Shut Tryz.prog main T)  {b:RBk} {s h e:Nat} (hl:b.seams.length<=100) (hm:b.measures.length<=100) {n:Int} {x:RBand} :
  CallK Tryz.prog T gmR 45 [.agg (rollC b s h e),intA n,.agg (bandC x)] [(0,checksG),(s,seamO b),(h,shrO b),(e,measO b)] (fun r K'=>(bar2 (checkM b) (thereM b n)≠0/\r=.tup [.agg z7R,intA (bar2 (checkM b) (thereM b n))]/\K'=[(0,checksG),(s,seamO b),(h,shrO b),(e,measO b)])\/(bar2 (checkM b) (thereM b n)=0/\isBd x 0 5=false/\r=.tup [.agg z7R,intA 1]/\K'=[(0,checksG),(s,seamO b),(h,shrO b),(e,measO b)])\/(bar2 (checkM b) (thereM b n)=0/\isBd x 0 5=true/\(dryX b n x).high<(dryX b n x).low/\r=.tup [.agg z7R,intA 9]/\K'=[(0,checksG),(s,seamO b),(h,shrO b),(e,measO b)])\/(bar2 (checkM b) (thereM b n)=0/\isBd x 0 5=true/\(dryX b n x).low<=(dryX b n x).high/\AgrR (driedB b n.toNat (dryX b n x)) [(0,checksG),(s,seamO b),(h,shrO b),(e,measO b)] r K')):=by
 refine zf 65 hT Tryz.func45 fun Y hret=>?_
 refine au [4,5,21] ?_
 intro jb hjb
 refine au [21] ?_
 intro jx hjx
 refine au [22] ?_
 intro jr hjr
 refine au [2,3,4,4,5,8,1,32] ?_
 refine TK.newR rfl rfl rfl (zg (l:=[_]) rfl SlEl.h TyZ.h dQ dQ rfl) (fun _=>putS rfl (by simp only [List.set]; rfl)) fun ja hja=>?_
 refine TK.cl rfl rfl rfl rfl (wC hT (Kx:=[]) (p1:=thereM b n) hl hm (fun h0=>zT Cal.h ((v8 hT (b:=b) (s:=s) (h:=h) (e:=e) (n:=n) (zp h0).sms.len.2).frameP (R:=[(s,seamO b)]) (List.Perm.refl _)))) ?_
 rintro r1 K2 h3
 rcases h3 with ⟨⟨hbar,rfl⟩ | ⟨hbar,rfl⟩,rfl⟩
 ·refine au [1,10,10,22] ?_
  intro j8 hj8
  refine au [17,2,3,4,5,1,6,3,20] ?_
  refine ⟨fun hc0=>?_,fun hc0=>?_⟩
  ·exact absurd hc0 sQ
  have hbb:=zp (yZ hbar)
  have hth:=jC (yB hbar)
  have hs5:=hbb.sms.len
  have hsl:=hbb.cls.len
  have hml:=hbb.mes.len
  have hnb:n.toNat<b.shrinks.length:=by omega
  have hnn:n=(n.toNat:Int):=by omega
  refine au [12,4,4,5,8] ?_
  refine TK.cl rfl rfl rfl rfl (zaJ hT (x:=x)) ?_
  rintro r4 K5 ⟨rfl,rfl⟩
  refine au [30,3,20] ?_
  refine ⟨fun hc1=>?_,fun hc1=>?_⟩
  ·refine au [4,5,44,17,2,3] ?_
   refine TK.rt hret [(0,_),(s,_),(h,_),(e,_)] ?_
   exact .inr (.inl ⟨hbar,by simpa using hc1,rfl,rfl⟩)
  refine au [12,4] ?_
  refine TK.draw [0,1,2,3,4,5,6,7,8,9,10,11,12,13,14,15,16,17,18,19,20] [0,1,2,3,4,5,6,7,8,9,10,11,12,13,14,15,16,17,18,19,20] (by kernel_rfl) (by kernel_rfl) ?_
  refine TD.z [3] rfl (zc rfl rfl FldOf.h dQ) ?_
  refine TD.y [27] rfl (hq:=ze rfl rfl TySz.h (List.Mem.head _) rfl) (h:=?_)
  refine TD.z [1] rfl (zd rfl rfl) ?_
  refine TD.z [28,29] rfl (zm rfl rfl rfl SlEl.h oQ oQ) ?_
  refine TD.z [30] rfl (zc rfl rfl FldOf.h dQ) ?_
  refine TD.y [31] rfl (hq:=ze rfl rfl TySz.h (List.Mem.head _) (zG (c:=0) (bd_at b (i:=n.toNat) hnb hnn) dQ rfl)) (h:=?_)
  refine TD.z [5] rfl (zc rfl rfl FldOf.h dQ) ?_
  refine TD.y [33] rfl (hq:=ze rfl rfl TySz.h (List.Mem.head _) rfl) (h:=?_)
  refine TD.z [32,34] rfl (zca rfl rfl rfl) ?_
  refine TD.z [3] rfl (zc rfl rfl FldOf.h dQ) ?_
  refine TD.y [36] rfl (hq:=ze rfl rfl TySz.h (List.Mem.head _) rfl) (h:=?_)
  refine TD.z [1] rfl (zd rfl rfl) ?_
  refine TD.z [37,38] rfl (zm rfl rfl rfl SlEl.h oQ oQ) ?_
  refine TD.z [39] rfl (zc rfl rfl FldOf.h dQ) ?_
  refine TD.y [40] rfl (hq:=ze rfl rfl TySz.h (List.Mem.head _) (zG (c:=1) (bd_at b (i:=n.toNat) hnb hnn) dQ rfl)) (h:=?_)
  refine TD.z [5] rfl (zc rfl rfl FldOf.h dQ) ?_
  refine TD.y [42] rfl (hq:=ze rfl rfl TySz.h (List.Mem.head _) rfl) (h:=?_)
  refine TD.z [41,43] rfl (wV rfl rfl rfl) ?_
  refine TD.z [35,44] rfl (z5 (l:=[_,_]) rfl TyZ.h BlOf.h rfl) ?_
  refine TD.cnewP (pend':=[⟨18,[35,44],[]⟩,⟨17,[41,43],[]⟩,⟨16,[42],[(_,_)]⟩,⟨15,[5],[]⟩,⟨14,[40],[(_,_)]⟩,⟨13,[39],[]⟩,⟨12,[37,38],[]⟩,⟨11,[1],[]⟩,⟨10,[36],[(_,_)]⟩,⟨9,[3],[]⟩,⟨8,[32,34],[]⟩,⟨7,[33],[(_,_)]⟩,⟨6,[5],[]⟩,⟨5,[31],[(_,_)]⟩,⟨4,[30],[]⟩,⟨3,[28,29],[]⟩,⟨2,[1],[]⟩,⟨1,[27],[(_,_)]⟩,⟨0,[3],[]⟩]) [] rfl rfl rfl rfl rfl (zZ rfl TyZA.h) (fun _=>putS rfl (by simp only [List.set]; rfl)) sQ fun j10 hj10=>?_
  refine TD.s (pend':=[]) [10,45] rfl rfl (zt rfl rfl TySz.h rfl rfl mQ rfl) ?_
  refine TD.fin ?_
  refine au [4,4,5,7,9,7,9,6,3,20] ?_
  refine ⟨fun hc2=>?_,fun hc2=>?_⟩
  ·refine au [4,5,44,17,2,3] ?_
   refine TK.rt hret [(0,_),(s,_),(h,_),(e,_)] ?_
   exact .inr (.inr (.inl ⟨hbar,by simpa using hc1,of_decide_eq_true hc2,rfl,rfl⟩))
  refine au [12,4,5,7,9] ?_
  refine TK.cl rfl rfl rfl rfl (xq hT (zS bandC 2 (fun _=>rfl) b.shrinks) (yI bandC (fun _=>rfl) _) oQ) ?_
  rintro r7 K8 ⟨jc,rfl,rfl⟩
  refine au [7,17,3,4,5,7,9,1,8,37] ?_
  refine TK.st rfl rfl rfl (zt rfl rfl TySz.h rfl rfl mQ (zgb (x:=(dryX b n x)) hnb hnn)) uQ (putN rfl) ?_
  refine au [3,4] ?_
  refine TK.unrowAt (c:=jb) (i:=5) (j:=jc) rfl mQ uQ ?_
  refine TK.frzRow (j:=jc) ?_
  rw [show b.shrinks.length=(driedB b n.toNat (dryX b n x)).shrinks.length by simp [driedB]]
  refine au [5,8] ?_
  refine TK.cl rfl rfl rfl rfl ((ul hT (b:=(driedB b n.toNat (dryX b n x))) (s:=s) (h:=jc) (e:=e) hl hm).mono (fun _ _ h=>h)) ?_
  rintro r10 K11 h12
  rcases h12 with ⟨hb2,rfl,rfl⟩ | ⟨hb2,hn2,rfl,rfl⟩ | ⟨hb2,hn2,s2,h2,e2,rfl,rfl⟩
  ·refine au [10,10,17,2,3] ?_
   refine TK.rt hret [(0,_),(s,_),(h,_),(e,_)] ?_
   exact .inr (.inr (.inr ⟨hbar,by simpa using hc1,Int.not_lt.1 (of_decide_eq_false hc2),.inl ⟨hb2,rfl,rfl⟩⟩))
  ·refine au [10,10,17,2,3] ?_
   refine TK.rt hret [(0,_),(s,_),(h,_),(e,_)] ?_
   exact .inr (.inr (.inr ⟨hbar,by simpa using hc1,Int.not_lt.1 (of_decide_eq_false hc2),.inr (.inl ⟨hb2,hn2,rfl,rfl⟩)⟩))
  ·refine au [10,10,17,2,3] ?_
   refine TK.rt hret [(s2,_),(h2,_),(e2,_),(0,_),(s,_),(h,_),(e,_)] ?_
   exact .inr (.inr (.inr ⟨hbar,by simpa using hc1,Int.not_lt.1 (of_decide_eq_false hc2),.inr (.inr ⟨hb2,hn2,s2,h2,e2,rfl,rfl⟩)⟩))
 ·refine au [1,10,10,22] ?_
  intro j8 hj8
  refine au [17,2,3,4,5,1,6,3,20] ?_
  refine ⟨fun hc0=>?_,fun hc0=>?_⟩
  ·
   refine au [4,5,44,1,17,2,3] ?_
   refine TK.rt hret [(0,_),(s,_),(h,_),(e,_)] ?_
   exact .inl ⟨hbar,rfl,rfl⟩
  exact absurd hbar (by simpa using hc0)
theorem zgY {main:Bool} {T:Goroutine->Hp->Prop} (hT:Shut Tryz.prog main T)  {b:RBk} {s h e:Nat} (hl:b.seams.length<=100) (hm:b.measures.length<=100) {r0:Int} :
  CallK Tryz.prog T gmR 47 [.agg (rollC b s h e),intA r0] [(0,checksG),(s,seamO b),(h,shrO b),(e,measO b)] (fun r K'=>(checkM b≠0/\r=.tup [.agg z7R,intA (checkM b)]/\K'=[(0,checksG),(s,seamO b),(h,shrO b),(e,measO b)])\/(checkM b=0/\betw r0 b.steps 40=false/\r=.tup [.agg z7R,intA 1]/\K'=[(0,checksG),(s,seamO b),(h,shrO b),(e,measO b)])\/(checkM b=0/\betw r0 b.steps 40=true/\∃ s2 h2 e2,r=.tup [.agg (rollC (atRound b r0) s2 h2 e2),intA 0]/\K'=(s2,seamO b)::(h2,shrO b)::(e2,measO b)::[(0,checksG),(s,seamO b),(h,shrO b),(e,measO b)])):=by
 refine zf 23 hT Tryz.func47 fun Y hret=>?_
 refine au [4,5,21] ?_
 intro jb hjb
 refine au [22] ?_
 intro jr hjr
 refine au [2,3,4,4,5,8] ?_
 refine TK.cl rfl rfl rfl rfl (wN hT hl hm) ?_
 rintro r1 K2 ⟨rfl,rfl⟩
 refine au [2,3,4,5,1,6,3,20] ?_
 refine ⟨fun hc0=>?_,fun hc0=>?_⟩
 ·refine au [4,5,44,1,17,2,3] ?_
  refine TK.rt hret [(0,_),(s,_),(h,_),(e,_)] ?_
  exact .inl ⟨by simpa using hc0,rfl,rfl⟩
 have hbar:checkM b=0:=by simpa using hc0
 have hbb:=zp hbar
 refine au [12,4,4,5,1,7,9] ?_
 refine TK.cl rfl rfl rfl rfl (zU hT) ?_
 rintro r4 K5 ⟨rfl,rfl⟩
 refine au [30,3,20] ?_
 refine ⟨fun hc1=>?_,fun hc1=>?_⟩
 ·refine au [4,5,44,17,2,3] ?_
  refine TK.rt hret [(0,_),(s,_),(h,_),(e,_)] ?_
  exact .inr (.inl ⟨hbar,by simpa using hc1,rfl,rfl⟩)
 have hb1:=vu (n:=r0) (lo:=b.steps) (hi:=40) (by simpa using hc1)
 refine au [12,4,5,1,7,17,3,4,5,8] ?_
 refine TK.cl rfl rfl rfl rfl (zaA hT (b:=atRound b r0) (s:=s) (h:=h) (e:=e) (vq hbb oQ oQ)) ?_
 rintro r7 K8 ⟨s2,h2,e2,rfl,rfl⟩
 refine au [17,2,3] ?_
 refine TK.rt hret [(s2,_),(h2,_),(e2,_),(0,_),(s,_),(h,_),(e,_)] ?_
 exact .inr (.inr ⟨hbar,by simpa using hc1,s2,h2,e2,rfl,rfl⟩)
theorem zcD {main:Bool} {T:Goroutine->Hp->Prop} (hT:Shut Tryz.prog main T) {gm:Nat->Option Nat} {j n:Nat} {xs:List Int} (hn:xs.length=n) (hl:n<=1000) :
  CallK Tryz.prog T gm 132 [.row j n] [(j,.row (xs.map intA) 3 1)] (fun r K'=>(∃ zs:List Int,r=.sl j 0 (compM xs).length/\K'=[(j,.row ((compM xs++zs).map intA) 3 1)])\/(r=.row j n/\compM xs=xs/\K'=[(j,.row (xs.map intA) 3 1)])):=by
 refine zf 61 hT Tryz.func132 fun Y hret=>?_
 refine au [4,5,2,3,4,4,5,1,28,6,3,20] ?_
 refine ⟨fun hc0=>?_,fun hc0=>?_⟩
 ·
  refine au [4,5,1,2,3] ?_
  refine TK.rt hret [(j,_)] ?_
  exact .inr ⟨rfl,zdH (by simp at hc0; omega),rfl⟩
 have h2:2<=n:=by simp at hc0; omega
 refine au [12,4,4,5,2,3,13] ?_
 refine TK.maskL [0,3] ?_
 refine TK.loopN (fun n1 env K=>∃ (i:Nat),n1=n - i/\1<=i/\i<=n/\(compN xs i).length=i/\env=[.row j n,.any,.any,intA i,.any,.any,.any,.any,.any,.any,.any,.any,.any,.any,.any,.any,.any,.any,.any,.any,.any,.any,.any,.any,.any,.any,.any,.any,.any,.any,.any,.any,.any,.any,.any,.any,.any,.any,.any,.any,.any,.any,.any,.any,.any,.any,.any,.any,.any,.any,.any,.any,.any,.any,.any,.any,.any,.any,.any,.any,.any]/\K=[(j,.row (xs.map intA) 3 1)]) (n - 1) ⟨1,rfl,Nat.le_refl _,by omega,by simp [compN]; omega,rfl,rfl⟩ fun n1 env K hI hnext=>?_
 obtain ⟨i,rfl,hi1,hi,hlead,rfl,rfl⟩:=hI
 refine au [4,4,5,1,1,28,6,3,20] ?_
 refine ⟨fun hc1=>?_,fun hc1=>?_⟩
 ·have hil:i<n:=by simp at hc1; omega
  refine au [12,4,13,4] ?_
  refine TK.draw [0,1,2,3,4,5,6,7,8,9] [0,1,2,3,4,5,6,7,8,9] (by kernel_rfl) (by kernel_rfl) ?_
  refine TD.z [0] rfl (zd rfl rfl) ?_
  refine TD.z [3] rfl (zd rfl rfl) ?_
  refine TD.y [16,17] rfl (hq:=yw rfl rfl rfl SlEl.h (List.Mem.head _) oQ oQ) (h:=?_)
  refine TD.y [18] rfl (hq:=ze rfl rfl TySz.h (List.Mem.head _) (jB (i:=i) (zy oQ) rfl)) (h:=?_)
  refine TD.z [0] rfl (zd rfl rfl) ?_
  refine TD.z [3] rfl (zd rfl rfl) ?_
  refine TD.z [21] rfl (q_sub rfl rfl rfl oQ) ?_
  refine TD.y [20,22] rfl (hq:=yw rfl rfl rfl SlEl.h (List.Mem.head _) oQ oQ) (h:=?_)
  refine TD.y [23] rfl (hq:=ze rfl rfl TySz.h (List.Mem.head _) (jB (i:=i - 1) (zy oQ) oQ)) (h:=?_)
  refine TD.z [19,24] rfl (q_cmp rfl rfl rfl rfl) ?_
  refine TD.fin ?_
  refine au [20] ?_
  refine ⟨fun hc2=>?_,fun hc2=>?_⟩
  ·have heq:cutN xs (i - 1)=cutN xs i:=by have:=eq_of_beq hc2; exact this.symm
   obtain ⟨i0,rfl⟩:∃ i0,i=i0+1:=⟨i - 1,by omega⟩
   have hc1e:compN xs (i0+2)=compN xs (i0+1):=vI heq
   refine au [4,5,1,1] ?_
   refine TK.a rfl (kT rfl rfl SlEl.h mQ rfl rfl oQ oQ rfl) ?_
   refine au [2,3,4,4,5,2,3,13] ?_
   refine TK.maskL [0,3,4,5] ?_
   refine TK.loopN (fun n1 env K=>∃ (q w o4:Nat),n1=n - q/\o4=i0+1/\1<=q/\i0+1+q<=n/\(compN xs (i0+1+q)).length=w/\w+1<=i0+1+q/\env=[.row j n,.any,.any,intA w,.sl j o4 (n - (i0+1)),intA q,.any,.any,.any,.any,.any,.any,.any,.any,.any,.any,.any,.any,.any,.any,.any,.any,.any,.any,.any,.any,.any,.any,.any,.any,.any,.any,.any,.any,.any,.any,.any,.any,.any,.any,.any,.any,.any,.any,.any,.any,.any,.any,.any,.any,.any,.any,.any,.any,.any,.any,.any,.any,.any,.any,.any]/\K=[(j,.row ((compN xs (i0+1+q)++xs.drop w).map intA) 3 1)]) (n - 1) ⟨1,i0+1,_,rfl,(by omega:0+((i0+1:Nat):Int).toNat*1=i0+1),Nat.le_refl _,by omega,by rw [show i0+1+1=i0+2 by omega,hc1e]; exact hlead,by omega,rfl,by rw [show i0+1+1=i0+2 by omega,hc1e,un _ oQ hlead,List.take_append_drop]⟩ fun n1 env K hI hnext1=>?_
   obtain ⟨q,w,o4,rfl,ho4,hq1,hq,hw,hwq,rfl,rfl⟩:=hI
   have hdl:(compN xs (i0+1+q)++xs.drop w).length=n:=by rw [List.length_append,List.length_drop,hw]; omega
   refine au [4,4,5,1,1,28,6,3,20] ?_
   refine ⟨fun hc3=>?_,fun hc3=>?_⟩
   ·have hql:i0+1+q<n:=by simp at hc3; omega
    have hq2:i0+1+(q+1)=(i0+q)+2:=by omega
    have hq3:compN xs (i0+q+1)=compN xs (i0+1+q):=by rw [show i0+q+1=i0+1+q by omega]
    have hq4:cutN xs (i0+1+q)=cutN xs (i0+q+1):=by rw [show i0+q+1=i0+1+q by omega]
    refine au [12,4,13,4] ?_
    refine TK.draw [0,1,2,3,4,5,6,7,8,9] [0,1,2,3,4,5,6,7,8,9] (by kernel_rfl) (by kernel_rfl) ?_
    refine TD.z [4] rfl (zd rfl rfl) ?_
    refine TD.z [5] rfl (zd rfl rfl) ?_
    refine TD.z [35,36] rfl (zm rfl rfl rfl SlEl.h oQ oQ) ?_
    refine TD.y [37] rfl (hq:=ze rfl rfl TySz.h (List.Mem.head _) (yX (i:=i0+1+q) (um hw oQ oQ) oQ)) (h:=?_)
    refine TD.z [4] rfl (zd rfl rfl) ?_
    refine TD.z [5] rfl (zd rfl rfl) ?_
    refine TD.z [40] rfl (q_sub rfl rfl rfl oQ) ?_
    refine TD.z [39,41] rfl (zm rfl rfl rfl SlEl.h oQ oQ) ?_
    refine TD.y [42] rfl (hq:=ze rfl rfl TySz.h (List.Mem.head _) (yX (i:=i0+q) (um hw oQ oQ) oQ)) (h:=?_)
    refine TD.z [38,43] rfl (q_cmp rfl rfl rfl rfl) ?_
    refine TD.fin ?_
    refine au [20] ?_
    refine ⟨fun hc4=>?_,fun hc4=>?_⟩
    ·have hne4:cutN xs (i0+q)≠cutN xs (i0+q+1):=fun h=>by rw [hq4,<- h] at hc4; simp at hc4
     refine au [4,5,1,1,1,1,36] ?_
     refine TK.a rfl (ze rfl rfl TySz.h mQ (yX (i:=i0+1+q) (um hw oQ oQ) oQ)) ?_
     refine au [37] ?_
     refine TK.st rfl rfl rfl (zt rfl rfl TySz.h rfl rfl mQ (zdk (k:=w) oQ rfl)) uQ (putN rfl) ?_
     refine au [3,5,1,23,2,3,14,5,1,23,2,3] ?_
     refine TK.maskL [0,3,4,5] ?_
     refine TK.kp [(j,_)] ?_
     exact hnext1 _ _ _ oQ ⟨q+1,w+1,o4,rfl,ho4,by omega,by omega,by rw [hq2,vJ hne4,List.length_append,hq3,hw]; rfl,by omega,rfl,by rw [zfw hw oQ,hq2,vJ hne4,hq3,<- hq4]⟩
    have heq4:cutN xs (i0+q)=cutN xs (i0+q+1):=by rw [<- hq4]; simp at hc4; exact hc4.symm
    refine au [12,14,5,1,23,2,3] ?_
    refine TK.maskL [0,3,4,5] ?_
    refine TK.kp [(j,_)] ?_
    exact hnext1 _ _ _ oQ ⟨q+1,w,o4,rfl,ho4,by omega,by omega,by rw [hq2,vI heq4,hq3,hw],by omega,rfl,by rw [hq2,vI heq4,hq3]⟩
   have hnq:n=i0+1+q:=by simp at hc3; omega
   refine au [16,4,5,1,1] ?_
   refine TK.a rfl (kT rfl rfl SlEl.h mQ rfl rfl oQ oQ rfl) ?_
   refine TK.st rfl rfl rfl (zhq rfl ApOf.h TyZ.h rfl oQ mQ (zeT (k:=w) hw oQ oQ oQ)) uQ (putN rfl) ?_
   refine au [3,4,5,1,1] ?_
   refine TK.a rfl (kT rfl rfl SlEl.h mQ rfl rfl oQ oQ rfl) ?_
   refine au [2,3] ?_
   refine TK.rt hret [(j,_)] ?_
   have hcm:compM xs=compN xs (i0+1+q):=by unfold compM; rw [hn,hnq]
   exact .inl ⟨_,by rw [hcm,hw]; rfl,by rw [hcm]⟩
  have hne:¬ cutN xs (i - 1)=cutN xs i:=fun h=>by rw [h] at hc2; simp at hc2
  have hi2:i+1=(i - 1)+2:=by omega
  have hi3:cutN xs i=cutN xs (i - 1+1):=by rw [show i - 1+1=i by omega]
  have hlead2:(compN xs (i - 1+1)).length=i:=by rw [show i - 1+1=i by omega]; exact hlead
  refine au [12,14,5,1,23,2,3] ?_
  refine TK.maskL [0,3] ?_
  refine TK.kp [(j,_)] ?_
  exact hnext _ _ _ oQ ⟨i+1,rfl,by omega,by omega,by rw [hi2,vJ (fun h=>hne (by rw [hi3]; exact h)),List.length_append,hlead2]; simp; omega,rfl,rfl⟩
 obtain rfl:i=n:=by simp at hc1; omega
 refine au [16,4,5,1,2,3] ?_
 refine TK.rt hret [(j,_)] ?_
 exact .inr ⟨rfl,by unfold compM; rw [un _ (Nat.le_refl _) (by rw [hn]; exact hlead),List.take_length],rfl⟩
theorem xU {main:Bool} {T:Goroutine->Hp->Prop} (hT:Shut Tryz.prog main T)  {b:RBk} {s h e:Nat} (hl:b.seams.length<=100) (hm:b.measures.length<=100) {n:Int} (h12:(statesM b).length<=12) :
  CallK Tryz.prog T gmR 52 [.agg (rollC b s h e),intA n] [(0,checksG),(s,seamO b),(h,shrO b),(e,measO b)] (fun r K'=>(bar2 (checkM b) (thereM b n)≠0/\r=.tup [.v (.slice none 0 0),intA (bar2 (checkM b) (thereM b n))]/\K'=[(0,checksG),(s,seamO b),(h,shrO b),(e,measO b)])\/(bar2 (checkM b) (thereM b n)=0/\statesM b=[]/\r=.tup [.v (.slice none 0 0),intA 9]/\K'=[(0,checksG),(s,seamO b),(h,shrO b),(e,measO b)])\/(bar2 (checkM b) (thereM b n)=0/\statesM b≠[]/\∃ jr zs,r=.tup [.sl jr 0 (shrM b n).length,intA 0]/\K'=(jr,.cells ((shrM b n++zs).map intA) 3 false)::[(0,checksG),(s,seamO b),(h,shrO b),(e,measO b)])):=by
 refine zf 40 hT Tryz.func52 fun Y hret=>?_
 refine au [4,5,21] ?_
 intro jb hjb
 refine au [2,2,3,4,5,8,1,32] ?_
 refine TK.newR rfl rfl rfl (zg (l:=[_]) rfl SlEl.h TyZ.h dQ dQ rfl) (fun _=>putS rfl (by simp only [List.set]; rfl)) fun ja hja=>?_
 refine TK.cl rfl rfl rfl rfl (uv hT (Kx:=[]) (p1:=thereM b n) (fun h0=>zT Cal.h ((v8 hT (b:=b) (s:=s) (h:=h) (e:=e) (n:=n) (zp h0).sms.len.2).frameP (R:=[(s,seamO b)]) (List.Perm.refl _))) hl hm) ?_
 rintro r1 K2 h3
 rcases h3 with ⟨hbar,rfl,rfl⟩ | ⟨hbar,hnil,rfl,rfl⟩ | ⟨hbar,hne,a,rfl,rfl⟩
 ·refine au [1,10,10,22] ?_
  intro j6 hj6
  refine au [17,2,3,4,4,5,1,6,3,20] ?_
  refine ⟨fun hc0=>?_,fun hc0=>?_⟩
  ·
   refine au [4,5,1,2,2,3] ?_
   refine TK.rt hret [(0,_),(s,_),(h,_),(e,_)] ?_
   exact .inl ⟨hbar,rfl,rfl⟩
  exact absurd hbar (by simpa using hc0)
 ·refine au [1,10,10,22] ?_
  intro j6 hj6
  refine au [17,2,3,4,4,5,1,6,3,20] ?_
  refine ⟨fun hc0=>?_,fun hc0=>?_⟩
  ·
   refine au [4,5,1,2,2,3] ?_
   refine TK.rt hret [(0,_),(s,_),(h,_),(e,_)] ?_
   exact .inr (.inl ⟨hbar,hnil,rfl,rfl⟩)
  exact absurd hc0 dQ
 ·refine au [1,10,10,22] ?_
  intro j6 hj6
  refine au [17,2,3,4,4,5,1,6,3,20] ?_
  refine ⟨fun hc0=>?_,fun hc0=>?_⟩
  ·exact absurd hc0 sQ
  have hbb:=zp (yZ hbar)
  have hth:=jC (yB hbar)
  have hs5:=hbb.sms.len
  have hpos:0<(statesM b).length:=List.length_pos_iff.2 hne
  refine au [12,4,5,2] ?_
  refine TK.virt 8 3 1 rfl fun jt0 hjt0=>?_
  refine au [3,4,4,5,7,9,28,1,3,13] ?_
  refine TK.maskL [1,4,5,6,8,23,24,25] ?_
  refine TK.kp [(a,_),(0,_),(s,_),(h,_),(e,_),(j6,_),(jt0,_)] ?_
  refine TK.loopN (fun n1 env K=>∃ (i jt:Nat),n1=(statesM b).length - i/\i<=(statesM b).length/\env=[.any,intA n,.any,.any,.v (.slice none 0 0),intA 0,.ptr j6 0,.any,.row jt i,.any,.any,.any,.any,.any,.any,.any,.any,.any,.any,.any,.any,.any,.any,.sl a 0 (statesM b).length,intA (statesM b).length,intA i,.any,.any,.any,.any,.any,.any,.any,.any,.any,.any,.any,.any,.any,.any]/\K=[(a,allO (statesM b)),(0,checksG),(s,seamO b),(h,shrO b),(e,measO b),(j6,.cells (knownC b s h e a (statesM b).length) 139 true),(jt,.row ((((statesM b).take i).map fun s=>cutN s n.toNat).map intA) 3 1)]) (statesM b).length ⟨0,jt0,rfl,Nat.zero_le _,rfl,rfl⟩ fun n1 env K hI hnext=>?_
  obtain ⟨i,jt,rfl,hi,rfl,rfl⟩:=hI
  refine au [4,5,6,3,4,20] ?_
  refine ⟨fun hc1=>?_,fun hc1=>?_⟩
  ·have hil:i<(statesM b).length:=by simp at hc1; omega
   obtain ⟨st,hst⟩:∃ st,(statesM b)[i]? =some st:=⟨_,List.getElem?_eq_getElem hil⟩
   refine au [12,4,13,4,5,36] ?_
   refine TK.a rfl (zx rfl rfl TySz.h mQ (xj (i:=i) hst rfl)) ?_
   refine au [22] ?_
   intro j10 hj10
   refine au [17,3,5,1,1] ?_
   refine TK.a rfl (kS rfl rfl rfl ArEl.h oQ oQ) ?_
   refine TK.a rfl (ze rfl rfl TySz.h mQ (st_at (i:=n.toNat) oQ oQ)) ?_
   refine TK.newR rfl rfl rfl (zg (l:=[_]) rfl SlEl.h TyZ.h dQ dQ rfl) (fun _=>putS rfl (by simp only [List.set]; rfl)) fun j4 hj4=>?_
   refine TK.appR rfl rfl rfl (a_app rfl ApOf.h rfl mQ (by simp; omega) rfl (zL (ln:=[_]) mQ dQ sQ rfl) oQ rfl (by unfold maxLen; omega) oQ) (fun _=>uQ) (fun _=>putS rfl (by simp only [List.set]; rfl)) fun jt2=>?_
   refine au [2,3,14,5,23,1,3] ?_
   refine TK.maskL [1,4,5,6,8,23,24,25] ?_
   refine TK.kp [(a,_),(0,_),(s,_),(h,_),(e,_),(j6,_),(jt2,_)] ?_
   exact hnext _ _ _ oQ ⟨i+1,jt2,rfl,by omega,rfl,by rw [zM hst,List.map_append,List.map_append]; rfl⟩
  obtain rfl:i=(statesM b).length:=by simp at hc1; omega
  rw [List.take_of_length_le (Nat.le_refl _)]
  have hsl2:(sortR ltI ((statesM b).map fun s=>cutN s n.toNat)).length=(statesM b).length:=by unfold sortR; rw [wv _ _ (Nat.le_refl _),List.length_map]
  refine au [16,4,5,1] ?_
  refine TK.cl rfl rfl rfl rfl (zhw hT (xs:=((statesM b).map fun s=>cutN s n.toNat)) sQ ⟨hpos,h12⟩) ?_
  rintro r5 K6 rfl
  refine au [3,4,5,1] ?_
  refine TK.cl rfl rfl rfl rfl (zcD hT (xs:=sortR ltI ((statesM b).map fun s=>cutN s n.toNat)) hsl2 oQ) ?_
  rintro r8 K9 h10
  rcases h10 with ⟨zs,rfl,rfl⟩ | ⟨rfl,hcm,rfl⟩
  ·refine au [] ?_
   refine TK.frzRow (j:=jt) ?_
   refine au [2,2,3] ?_
   refine TK.rt hret [(jt,_),(0,_),(s,_),(h,_),(e,_)] ?_
   exact .inr (.inr ⟨hbar,hne,jt,zs,rfl,rfl⟩)
  ·refine au [] ?_
   refine TK.asSl 39 rfl (List.Mem.head _) ?_
   refine TK.frzRow (j:=jt) ?_
   refine au [2,2,3] ?_
   refine TK.rt hret [(jt,_),(0,_),(s,_),(h,_),(e,_)] ?_
   exact .inr (.inr ⟨hbar,hne,jt,[],by unfold shrM; rw [hcm,hsl2],by unfold shrM; rw [hcm,List.append_nil]⟩)
end Go.Vel
namespace Go.Vel
open Go Go.Conc
section
variable {P:Program} {gm:Nat->Option Nat} {T:Goroutine->Hp->Prop} {Y:KX P gm T} {ds:List Nat} {k:List Item} {env env':List AV} {K K' K1:KV} {ops:Array Oper} {i:Nat} {L':List Nat} {o:Oper} {envf:Nat->List AV} {pend pend':List Pd}
theorem TD.cappG {s x:Operand} {t e:TypeId} {size bytes j n m:Nat} {lo ln:List AV} {u:AV} {K'':Nat->KV} (sl:List Nat) (ho:ops[i]? =some o) (hd:isDefer o.op=false) (hw:wantA ops (onl sl env) o=some true) (hp':pendOf ops i pend=pend') (hc:chkC ops pend' L' sl i o.dst=true) (hop:o.op=.call { callee:=.builtin .append,args:=#[s,x],argTypes:=#[t,t] }) (ht:apOf P t=some (e,size,bytes)) (hs:opndO gm (onl sl env) s=some (.row j n)) (hm:(j,.row lo e size)∈K) (hlo:lo.length=n*size) (hx:opndO gm (onl sl env) x=some u) (hl:lenA u=some m) (hsrc:0<m->srcO K size u m ln) (hln:m=0->ln=[])
  (hone:ln.all oneA=true) (hmax:n+m<=maxLen) (hbytes:(n+m)*bytes<=140737488355328) (hu:∀ j',Upd K j (.row lo e size) j' (.row (lo++ln) e size) (K'' j')) (he:∀ j',putA env o.dst (.row j' (n+m))=envf j') (hv:∀ j',∀ p∈pend',∀ x∈p.V,x∈K'' j') (h:∀ j',TD Y ds ops k pend' L' (envf j') (K'' j')):TD Y ds ops k pend (i::L') env K:=by
 rcases Nat.eq_zero_or_pos m with e0 | hpos
 ·subst e0
  have hk:K'' j=K:=(hu j).same (by rw [hln rfl,List.append_nil])
  have ht':=ht
  unfold apOf at ht'
  split at ht'
  ·rename_i e' h1
   split at ht'
   ·rename_i ti h2
    refine TD.cq (r:=.row j n) sl ho hd hw hp' hc (zb7 hop h1 h2 hs hx hl) (he j) (by rw [<- hk]; exact hv j) ?_
    rw [<- hk]; exact h j
   ·cases ht'
  ·cases ht'
 ·exact TD.capp sl ho hd hw hp' hc (a_app hop ht hs hm hlo hx (hsrc hpos) hpos hone hmax hbytes) hu he hv h
theorem zc2 {j n:Nat} {ob ob':AObj} {K'':Nat->KV} {sl:List Nat} (hd:isDefer o.op=false) (hq:∀ A,View K A->OpOk P gm (onl sl env) A o (.row A.length n) (A.set j .gone++[ob'])) (hu:∀ j',Upd K j ob j' ob' (K'' j')) (he:∀ j',putA env o.dst (.row j' n)=envf j') (hv:∀ j',∀ p∈pend',∀ x∈p.V,x∈K'' j') (h:∀ j',TD Y ds ops k pend' L' (envf j') (K'' j')) :
  ExK Y (onl sl env) K o fun r K'=>(∀ p∈pend',∀ x∈p.V,x∈K')/\TD Y ds ops k pend' L' (putA env o.dst r) K' :=
 kM hd fun A hv' hn=>⟨_,_,_,hq A hv',.renew hv' hn (hu _),hv _,by rw [he]; exact h _⟩
theorem zfE {s x:Operand} {t e:TypeId} {size bytes j n m:Nat} {lo ln:List AV} {u:AV} {K'':Nat->KV} {sl:List Nat} (hd:isDefer o.op=false) (hop:o.op=.call { callee:=.builtin .append,args:=#[s,x],argTypes:=#[t,t] }) (ht:apOf P t=some (e,size,bytes)) (hs:opndO gm (onl sl env) s=some (.row j n)) (hm:(j,.row lo e size)∈K) (hlo:lo.length=n*size) (hx:opndO gm (onl sl env) x=some u) (hl:lenA u=some m) (hsrc:0<m->srcO K size u m ln) (hln:m=0->ln=[])
  (hone:ln.all oneA=true) (hmax:n+m<=maxLen) (hbytes:(n+m)*bytes<=140737488355328) (hu:∀ j',Upd K j (.row lo e size) j' (.row (lo++ln) e size) (K'' j')) (he:∀ j',putA env o.dst (.row j' (n+m))=envf j') (hv:∀ j',∀ p∈pend',∀ x∈p.V,x∈K'' j') (h:∀ j',TD Y ds ops k pend' L' (envf j') (K'' j')) :
  ExK Y (onl sl env) K o fun r K'=>(∀ p∈pend',∀ x∈p.V,x∈K')/\TD Y ds ops k pend' L' (putA env o.dst r) K':=by
 rcases Nat.eq_zero_or_pos m with e0 | hpos
 ·subst e0
  have hk:K'' j=K:=(hu j).same (by rw [hln rfl,List.append_nil])
  have ht':=ht
  unfold apOf at ht'
  split at ht'
  ·rename_i e' h1
   split at ht'
   ·rename_i ti h2
    exact kM hd fun A hv' hn=>⟨.row j n,A,K,zb7 hop h1 h2 hs hx hl A hv',.same hv' hn,by rw [<- hk]; exact hv j,by rw [show putA env o.dst (.row j n)=envf j from he j,<- hk]; exact h j⟩
   ·cases ht'
  ·cases ht'
 ·exact zc2 hd (a_app hop ht hs hm hlo hx (hsrc hpos) hpos hone hmax hbytes) hu he hv h
end
end Go.Vel
end
