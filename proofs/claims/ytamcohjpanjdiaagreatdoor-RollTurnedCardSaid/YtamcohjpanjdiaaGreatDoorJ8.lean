/- Texts for the statements of chapter 8: what all of them need, part 9. It holds of every program, tape and world that the statements name, as each theorem says. -/
import Derived.Test.YtamcohjpanjdiaaGreatDoorJ7
section
set_option linter.all false
set_option maxRecDepth 20000
set_option maxHeartbeats 60000000
open Go.Proofs.Tryz renaming prog -> tp
open List renaming getElem?_eq_getElem -> lA, nil_append -> lC, eq_nil_of_length_eq_zero -> lK, take_length -> lW
open List.Mem renaming head -> mC
open Nat renaming zero_le -> mN, zero_add -> mO
open Go.Vel.TK renaming maskL -> bA, rt -> bB, kp -> bC, cl -> bD, newR -> bI, dq -> bL, frzRow -> bY, asSl -> bZ
open Go.Vel.TD renaming cl -> bQ, norm -> bS, z -> bU, cnewR -> bV
namespace Go.Vel
open Go Go.Conc Go.Proofs
def greatM (b:RBk):Bool:=decide (b.seams.length>20)||decide (b.shrinks.length>20)||decide (b.measures.length>20)
def exB:RBk:=⟨12,15,8,2,[⟨0,3,2,1,false⟩,⟨5,2,1,4,false⟩,⟨9,4,3,0,false⟩],[⟨0,1⟩,⟨0,0⟩,⟨0,1⟩],[]⟩
theorem uX {α:Type} {xs ys:List α} {i:Nat} {x y:α} (hx:xs[i]? =some x) (hy:ys[i]? =some y) (ht:xs.take i=ys.take i) (he:x=y):xs.take (i+1)=ys.take (i+1):=by
 rw [yQ hx,yQ hy,ht,he]
theorem zan {α:Type} {xs ys:List α} (hl:xs.length=ys.length) (ht:xs.take xs.length=ys.take xs.length):xs=ys:=by
 rwa [lW,hl,lW] at ht
theorem ne_at {α:Type} {xs ys:List α} {i:Nat} {x y:α} (hx:xs[i]? =some x) (hy:ys[i]? =some y) (hne:x≠y):xs≠ys:=fun h=>by rw [h,hy] at hx; exact hne (Option.some.inj hx).symm
instance:BlOf tp 94 [(0,1),(1,1),(2,1),(3,1),(4,1)]:={}
instance:Cal tp 29:={}
instance:Cal tp 55:={}
instance:Cal tp 56:={}
theorem zf0 {main T} (hT:zo tp main T) {gm} {b:RBk} {s h e:Nat} :
  zA tp T gm 18 [.agg (zE b s h e)] [] (fun r K'=>r=zP (greatM b)/\K'=[]):=by
 refine zp 19 hT Tryz.func18 fun Y hret=>?_;refine au 21042 ?_;intro jb hjb;refine au 172806906704235 ?_;refine TK.sp 7 (fun g1_5=>?_) (fun g1_5=>?_)
 ·refine au 35260888812608888 ?_;refine bB hret [] ?_;exact ⟨by unfold greatM; rw [show decide (b.seams.length>20)=true by simp at g1_5; simp; omega]; rfl,rfl⟩
 refine au 12507280690670 ?_;refine TK.sp 13 (fun g1_11=>?_) (fun g1_11=>?_)
 ·refine au 352608888 ?_;refine bB hret [] ?_;exact ⟨by unfold greatM; rw [show decide (b.shrinks.length>20)=true by simp at g1_11; simp; omega]; simp,rfl⟩
 refine au 352507280690670 ?_;refine bB hret [] ?_;exact ⟨by unfold greatM; rw [show decide (b.seams.length>20)=false by simp at g1_5; simp; omega,show decide (b.shrinks.length>20)=false by simp at g1_11; simp; omega,Bool.false_or,Bool.false_or]; exact congrArg _ (congrArg _ (decide_eq_decide.2 oQ)),rfl⟩
theorem zc4 {main T} (hT:zo tp main T) {gm} {j off j2:Nat} {ob:AObj} {xs ys:List Int} (hI:∀ (i:Nat) (x:Int),xs[i]? =some x->takeO ob (off+(i:Int).toNat*1) 1=some [intA x]) (hl:xs.length<=1000) :
  zA tp T gm 29 [.sl j off xs.length,.row j2 ys.length] [(j,ob),(j2,.row (ys.map intA) 3 1)] (fun r K'=>r=zP (decide (xs=ys))/\K'=[(j,ob),(j2,.row (ys.map intA) 3 1)]):=by
 refine zp 26 hT Tryz.func29 fun Y hret=>?_;refine au 937280128014223542 ?_;constructor<;>intro hc0
 ·refine au 3542 ?_;refine bB hret [(j,_),(j2,_)] ?_;exact ⟨by rw [decide_eq_false (fun h=>by rw [h] at hc0; simp at hc0)],rfl⟩
 have hll:xs.length=ys.length:=by simp at hc0; omega
 refine au 13035422120 ?_;refine bA [0,1,4,5] ?_;refine TK.loopN (fun n env K=>∃ (i:Nat),n=xs.length - i/\i<=xs.length/\xs.take i=ys.take i/\env=.sl j off xs.length::.row j2 ys.length::naL 2 (zP false::intA i::naL 20 [])/\K=[(j,ob),(j2,.row (ys.map intA) 3 1)]) xs.length ⟨0,rfl,mN _,by simp,rfl,rfl⟩ fun n env K hI2 hnext=>?_;obtain ⟨i,rfl,hi,hta,rfl,rfl⟩:=hI2;refine TK.na nQ ?_;refine au 93728011422 ?_;constructor<;>intro hc1
 ·have hil:i<xs.length:=by simp at hc1; omega
  obtain ⟨x,hx⟩:∃ x,xs[i]? =some x:=⟨_,lA hil⟩;obtain ⟨y,hy⟩:∃ y,ys[i]? =some y:=⟨_,lA oQ⟩;refine au 21302120 ?_;refine bL [0,1,2,3,4,5,6,7,8] ?_;refine ad [[1,0],[1,5],[2,17,18]] ?_;refine TD.y [19] Z (hq:=zm Z Z zi.h (mC _) (hI i x hx)) (h:=?_);refine ad [[1,1],[1,5]] ?_;refine TD.y [21,22] Z (hq:=kB Z Z Z zF.h (mC _) oQ oQ) (h:=?_);refine TD.y [23] Z (hq:=zm Z Z zi.h (mC _) (zaj hy Z)) (h:=?_);refine ad [[4,20,24],[14]] ?_;refine au 9 ?_;constructor<;>intro hc2
  ·refine au 3542 ?_;refine bB hret [(j,_),(j2,_)] ?_;exact ⟨by rw [decide_eq_false (ne_at hx hy (fun h=>by rw [h] at hc2; simp at hc2))],rfl⟩
  refine au 3523014140120 ?_;refine bA [0,1,4,5] ?_;refine bC [(j,_),(j2,_)] ?_;exact hnext _ _ _ oQ ⟨i+1,rfl,oQ,uX hx hy hta (by simp at hc2; exact hc2),rfl,rfl⟩
 obtain rfl:i=xs.length:=by simp at hc1; omega
 refine au 3542160 ?_;refine bB hret [(j,_),(j2,_)] ?_;exact ⟨by rw [decide_eq_true (zan hll hta)],rfl⟩
theorem zbq {main T} (hT:zo tp main T) {gm} {j off j2:Nat} {ob:AObj} {xs ys:List (Int×Int)} (hI:∀ (i:Nat) (x:Int×Int),xs[i]? =some x->takeO ob (off+(i:Int).toNat*2) 2=some (pairC x)) (hl:xs.length<=1000) :
  zA tp T gm 26 [.sl j off xs.length,.row j2 ys.length] [(j,ob),(j2,.row (ys.flatMap pairC) 96 2)] (fun r K'=>r=zP (decide (xs=ys))/\K'=[(j,ob),(j2,.row (ys.flatMap pairC) 96 2)]):=by
 refine zp 26 hT Tryz.func26 fun Y hret=>?_;refine au 937280128014223542 ?_;constructor<;>intro hc0
 ·refine au 3542 ?_;refine bB hret [(j,_),(j2,_)] ?_;exact ⟨by rw [decide_eq_false (fun h=>by rw [h] at hc0; simp at hc0)],rfl⟩
 have hll:xs.length=ys.length:=by simp at hc0; omega
 refine au 13035422120 ?_;refine bA [0,1,4,5] ?_;refine TK.loopN (fun n env K=>∃ (i:Nat),n=xs.length - i/\i<=xs.length/\xs.take i=ys.take i/\env=.sl j off xs.length::.row j2 ys.length::naL 2 (zP false::intA i::naL 20 [])/\K=[(j,ob),(j2,.row (ys.flatMap pairC) 96 2)]) xs.length ⟨0,rfl,mN _,by simp,rfl,rfl⟩ fun n env K hI2 hnext=>?_;obtain ⟨i,rfl,hi,hta,rfl,rfl⟩:=hI2;refine TK.na nQ ?_;refine au 93728011422 ?_;constructor<;>intro hc1
 ·have hil:i<xs.length:=by simp at hc1; omega
  obtain ⟨x,hx⟩:∃ x,xs[i]? =some x:=⟨_,lA hil⟩;obtain ⟨y,hy⟩:∃ y,ys[i]? =some y:=⟨_,lA oQ⟩;refine au 21302120 ?_;refine bL [0,1,2,3,4,5,6,7,8] ?_;refine ad [[1,0],[1,5],[2,17,18]] ?_;refine TD.y [19] Z (hq:=ya Z Z zi.h (mC _) (hI i x hx)) (h:=?_);refine ad [[1,1],[1,5]] ?_;refine TD.y [21,22] Z (hq:=kB Z Z Z zF.h (mC _) oQ oQ) (h:=?_);refine TD.y [23] Z (hq:=ya Z Z zi.h (mC _) (zbp (c:=2) (f:=pairC) (fun _=>rfl) hy rfl dQ)) (h:=?_);refine bU [20,24] Z (uS Z Z Z Z Z FlatF.h EqG.h) ?_;refine ad [[14]] ?_;refine au 9 ?_;constructor<;>intro hc2
  ·refine au 3542 ?_;refine bB hret [(j,_),(j2,_)] ?_;exact ⟨by rw [decide_eq_false (ne_at hx hy (fun h=>by rw [h] at hc2; simp at hc2))],rfl⟩
  refine au 3523014140120 ?_;refine bA [0,1,4,5] ?_;refine bC [(j,_),(j2,_)] ?_;exact hnext _ _ _ oQ ⟨i+1,rfl,oQ,uX hx hy hta (by simp at hc2; exact Prod.ext hc2.1 hc2.2),rfl,rfl⟩
 obtain rfl:i=xs.length:=by simp at hc1; omega
 refine au 3542160 ?_;refine bB hret [(j,_),(j2,_)] ?_;exact ⟨by rw [decide_eq_true (zan hll hta)],rfl⟩
theorem wJ {main T} (hT:zo tp main T) {gm} {j off j2:Nat} {ob:AObj} {xs ys:List Int} (hI:∀ (i:Nat) (x:Int),xs[i]? =some x->takeO ob (off+(i:Int).toNat*1) 1=some [intA x]) (hl:xs.length<=1000) :
  zA tp T gm 89 [.sl j off xs.length,.row j2 ys.length] [(j,ob),(j2,.row (ys.map intA) 3 1)] (fun r K'=>r=zP (decide (xs=ys))/\K'=[(j,ob),(j2,.row (ys.map intA) 3 1)]):=by
 refine zp 8 hT Tryz.func89 fun Y hret=>?_;refine au 11423542 ?_;refine bD Z Z Z Z (zc4 hT hI hl) ?_;rintro r1 K2 ⟨rfl,rfl⟩;refine au 35 ?_;refine bB hret [(j,_),(j2,_)] ?_;exact ⟨rfl,rfl⟩
theorem to_ok {main T} (hT:zo tp main T) {gm} {a z:Int} :
  zA tp T gm 55 [intA a,intA z] [] (fun r K'=>r=.agg [intA a,intA z]/\K'=[]):=by
 refine zp 8 hT Tryz.func55 fun Y hret=>?_;refine au 22042 ?_;intro j1 hj1;refine au 317039011423 ?_;refine bB hret [] ?_;exact ⟨rfl,rfl⟩
theorem ziv {main T} (hT:zo tp main T) {gm} {n:Int} :
  zA tp T gm 56 [intA n] [] (fun r K'=>r=.agg [intA n,intA n]/\K'=[]):=by
 refine zp 6 hT Tryz.func56 fun Y hret=>?_;refine au 22042 ?_;intro j1 hj1;refine au 11423 ?_;refine bD Z Z Z Z (to_ok hT) ?_;rintro r2 K3 ⟨rfl,rfl⟩;refine au 3170 ?_;refine bB hret [] ?_;exact ⟨rfl,rfl⟩
theorem zeh {main T} (hT:zo tp main T) {gm}  :
  zA tp T gm 88 [] [] (fun r K'=>∃ s h e,r=.agg (zE exB s h e)/\K'=[(s,zk exB),(h,zB exB),(e,zq exB)]):=by
 refine zp 10 hT Tryz.func88 fun Y hret=>?_;refine au 22042 ?_;intro j0 hj0;refine au 420420420423 ?_;refine bI Z Z Z (zt (l:=[_,_,_,_,_,_,_,_,_,_,_,_,_,_,_]) Z zF.h TyZ.h dQ dQ Z) (fun _=>zu rfl tQ) fun js hjs=>?_;refine bD Z Z Z Z (to_ok hT) ?_;rintro r1 K2 ⟨rfl,rfl⟩;refine au 0 ?_;refine bD Z Z Z Z (ziv hT) ?_;rintro r4 K5 ⟨rfl,rfl⟩;refine au 0 ?_;refine bD Z Z Z Z (to_ok hT) ?_;rintro r7 K8 ⟨rfl,rfl⟩;refine au 0 ?_;refine bI Z Z Z (zt (l:=[_,_,_,_,_,_]) Z zF.h TyZ.h dQ dQ Z) (fun _=>zu rfl tQ) fun jh hjh=>?_;refine au 170440 ?_;refine TK.unrowAt (c:=j0) (i:=4) (j:=js) Z mQ uQ ?_;refine bY (j:=js) ?_;refine TK.unrowAt (c:=j0) (i:=5) (j:=jh) Z mQ uQ ?_;refine bY (j:=jh) ?_;refine TK.virtAt (j:=j0) (i:=6) (e:=49) (size:=3) (x:=none) (l:=[intA 12,intA 15,intA 8,intA 2,.sl js 0 3,.sl jh 0 3,.v (.slice none 0 0)]) (by rfl) (fun _=>uQ) fun je hje=>?_;refine TK.unrowAt (c:=j0) (i:=6) (j:=je) Z mQ uQ ?_;refine bY (j:=je) ?_;refine au 3 ?_;refine bB hret [(js,_),(jh,_),(je,_)] ?_;exact ⟨js,jh,je,rfl,rfl⟩
theorem zas {main T} (hT:zo tp main T) {gm} {b:RBk} {s h e:Nat} {m:RMeas} (hm:b.measures.length<=100) :
  zA tp T gm 59 [.agg (zE b s h e),.agg (measC m)] [(e,zq b)] (fun r K'=>∃ je,r=.agg (zE (ye b m) s h je)/\K'=[(je,zq (ye b m)),(e,zq b)]):=by
 refine zp 14 hT Tryz.func59 fun Y hret=>?_;refine au 0 ?_;have hfl:=yz measC 3 (fun _=>rfl) b.measures;refine au 21042 ?_;intro jb hjb;refine au 210 ?_;intro jm hjm;refine au 220 ?_;intro jr hjr;refine au 23 ?_;refine TK.dr [1,2,4,0,3,5,6,7,8] [0,1,2,3,4,5,6,7,8] ?_;refine ad [[3,2],[10,6],[12,3]] ?_;refine TD.c2 (i1:=0) (i2:=5) (pend1:=[⟨4,[3],[(_,_)]⟩,⟨2,[6],[(_,_)]⟩,⟨1,[2],[]⟩]) (pend2:=[⟨2,[6],[(_,_)]⟩,⟨1,[2],[]⟩]) (L1:=[3,5,6,7,8]) (L2:=[0,3,6,7,8]) [] [9] Z Z Z Z Z Z Z ?_ ?_
 ·refine wb Z (zt (l:=[]) Z zF.h TyZ.h dQ dQ Z) (fun _=>zu rfl tQ) sQ fun j1 hj1=>?_;refine TD.c2 (i1:=3) (i2:=5) (pend1:=[⟨4,[3],[(_,_)]⟩,⟨1,[2],[]⟩]) (pend2:=[⟨2,[6],[(_,_)]⟩,⟨1,[2],[]⟩]) (L1:=[5,6,7,8]) (L2:=[3,6,7,8]) [5,7] [9] Z Z Z Z Z Z Z ?_ ?_
  ·refine zfT (ln:=b.measures.flatMap measC) Z Z ApOf.h Z mQ Z Z Z (fun hp=>vv mQ oQ (wo hfl oQ)) (fun h=>lK oQ) (kA measC (fun _=>rfl) _) (by unfold maxLen; omega) oQ (fun _=>uQ) (fun _=>zu rfl tQ) (fun _=>by simp) fun jc=>?_;simp only [lC,mO];refine bV (pend':=[⟨1,[2],[]⟩]) [9] Z Z Z Z Z (zt (l:=[_,_,_]) Z zF.h TyZ.h dQ dQ Z) (fun _=>zu rfl tQ) sQ fun j2 hj2=>?_;refine TD.capp (pend':=[⟨1,[2],[]⟩]) [8,10] Z Z Z Z Z (a_app Z ApOf.h Z mQ oQ Z (yw (ln:=[_,_,_]) mQ dQ sQ Z) oQ Z (by unfold maxLen; omega) oQ) (fun _=>uQ) (fun _=>zu rfl tQ) (fun _=>sQ) fun je=>?_;refine ad [[3,2]] ?_;refine TD.s (pend':=[]) [11,12] Z Z (zX Z Z zi.h Z Z mQ Z) ?_;refine ad [[14]] ?_;refine au 2 ?_;refine TK.unrowAt (c:=jb) (i:=6) (j:=je) Z mQ uQ ?_;refine bY (j:=je) ?_;rw [show b.measures.flatMap measC++[intA m.cloth,intA m.many,intA m.wide]=(ye b m).measures.flatMap measC from (yT measC b.measures m).symm,show b.measures.length+1=(ye b m).measures.length by simp [ye]];refine au 31706804 ?_;refine bB hret [(je,_),(e,_)] ?_;exact ⟨je,rfl,rfl⟩
  ·refine wb Z (zt (l:=[_,_,_]) Z zF.h TyZ.h dQ dQ Z) (fun _=>zu rfl tQ) sQ fun j3 hj3=>?_;refine TD.cappG (ln:=b.measures.flatMap measC) (pend':=[⟨1,[2],[]⟩]) [5,7] Z Z Z Z Z Z ApOf.h Z mQ Z Z Z (fun hp=>vv mQ oQ (wo hfl oQ)) (fun h=>lK oQ) (kA measC (fun _=>rfl) _) (by unfold maxLen; omega) oQ (fun _=>uQ) (fun _=>zu rfl tQ) (fun _=>by simp) fun jc=>?_;simp only [lC,mO];refine TD.capp (pend':=[⟨1,[2],[]⟩]) [8,10] Z Z Z Z Z (a_app Z ApOf.h Z mQ oQ Z (yw (ln:=[_,_,_]) mQ dQ sQ Z) oQ Z (by unfold maxLen; omega) oQ) (fun _=>uQ) (fun _=>zu rfl tQ) (fun _=>sQ) fun je=>?_;refine ad [[3,2]] ?_;refine TD.s (pend':=[]) [11,12] Z Z (zX Z Z zi.h Z Z mQ Z) ?_;refine ad [[14]] ?_;refine au 2 ?_;refine TK.unrowAt (c:=jb) (i:=6) (j:=je) Z mQ uQ ?_;refine bY (j:=je) ?_;rw [show b.measures.flatMap measC++[intA m.cloth,intA m.many,intA m.wide]=(ye b m).measures.flatMap measC from (yT measC b.measures m).symm,show b.measures.length+1=(ye b m).measures.length by simp [ye]];refine au 31706804 ?_;refine bB hret [(je,_),(e,_)] ?_;exact ⟨je,rfl,rfl⟩
 ·refine wb Z (zt (l:=[_,_,_]) Z zF.h TyZ.h dQ dQ Z) (fun _=>zu rfl tQ) sQ fun j4 hj4=>?_;refine bV (pend':=[⟨2,[6],[(_,_)]⟩,⟨1,[2],[]⟩]) [] Z Z Z Z Z (zt (l:=[]) Z zF.h TyZ.h dQ dQ Z) (fun _=>zu rfl tQ) sQ fun j5 hj5=>?_;refine TD.cappG (ln:=b.measures.flatMap measC) (pend':=[⟨1,[2],[]⟩]) [5,7] Z Z Z Z Z Z ApOf.h Z mQ Z Z Z (fun hp=>vv mQ oQ (wo hfl oQ)) (fun h=>lK oQ) (kA measC (fun _=>rfl) _) (by unfold maxLen; omega) oQ (fun _=>uQ) (fun _=>zu rfl tQ) (fun _=>by simp) fun jc=>?_;simp only [lC,mO];refine TD.capp (pend':=[⟨1,[2],[]⟩]) [8,10] Z Z Z Z Z (a_app Z ApOf.h Z mQ oQ Z (yw (ln:=[_,_,_]) mQ dQ sQ Z) oQ Z (by unfold maxLen; omega) oQ) (fun _=>uQ) (fun _=>zu rfl tQ) (fun _=>sQ) fun je=>?_;refine ad [[3,2]] ?_;refine TD.s (pend':=[]) [11,12] Z Z (zX Z Z zi.h Z Z mQ Z) ?_;refine ad [[14]] ?_;refine au 2 ?_;refine TK.unrowAt (c:=jb) (i:=6) (j:=je) Z mQ uQ ?_;refine bY (j:=je) ?_;rw [show b.measures.flatMap measC++[intA m.cloth,intA m.many,intA m.wide]=(ye b m).measures.flatMap measC from (yT measC b.measures m).symm,show b.measures.length+1=(ye b m).measures.length by simp [ye]];refine au 31706804 ?_;refine bB hret [(je,_),(e,_)] ?_;exact ⟨je,rfl,rfl⟩
end Go.Vel
namespace Go.Vel
open Go Go.Conc
theorem pendS {ops:Array Oper} {i:Nat} {pend pend':List Pd} {es:List Nat} (h:edgesOf .any ops i=es) (h2:(pend.filter fun p => !(es.elem p.i))=pend'):pendOf ops i pend=pend':=by unfold pendOf; rw [h]; exact h2
theorem x_len:(exB.seams.length<=100)/\(exB.measures.length<=100):=by decide
theorem wq:zr exB=0:=by decide +kernel
theorem zd7:bar2 (zr exB) (cutsM exB [1,2])=0:=by decide +kernel
theorem zd6:bar2 (zr exB) (cutsM exB [0,1])=0:=by decide +kernel
theorem zbx:bar2 (zr exB) (cutsM exB [0,2])=0:=by decide +kernel
theorem zgI:stripsM exB [1,2]=[(1,4),(2,8)]:=by decide +kernel
theorem zgF:fitsM exB [0,1]=true:=by decide +kernel
theorem zgG:fitsM exB [0,2]=false:=by decide +kernel
theorem x_h1:bar2 (zr exB) (bar2 (cutsM exB [0,1]) (shM exB [1,0,1]))=0:=by decide +kernel
theorem zd8:hangM exB [0,1] [1,0,1]=some ([3,2],13):=by decide +kernel
theorem x_h2:bar2 (zr exB) (bar2 (cutsM exB [0,1]) (shM exB [0,0,1]))=0:=by decide +kernel
theorem zd9:hangM exB [0,1] [0,0,1]=some ([2,2],11):=by decide +kernel
theorem zgH:placesM exB [0,1] [0,0,1] [2,2]=[0,7]:=by decide +kernel
theorem zaK:zf exB=[[0,0,0],[0,0,1],[1,0,0],[1,0,1]]:=by decide +kernel
theorem x_ne:zf exB≠[]:=by rw [zaK]; decide
theorem x_th2:bar2 (zr exB) (thereM exB 2)=0:=by decide +kernel
theorem ziR:shrM exB 2=[0,1]:=by decide +kernel
theorem x_new:newM exB=(3,5):=by decide +kernel
theorem zhG:canM exB [0,1]=1:=by decide +kernel
theorem zhH:canM exB [0,2]=2:=by decide +kernel
theorem ziO:betw 16 exB.steps 40=true:=by decide +kernel
theorem ziM:bar2 (zr (atRound exB 16)) (cutsM (atRound exB 16) [0,1])=0:=by decide +kernel
theorem ziQ:zf (atRound exB 16)≠[]:=by decide +kernel
theorem zhI:canM (atRound exB 16) [0,1]=0:=by decide +kernel
theorem ziU:squaresM exB (zf exB) [1,2]=some (9,15):=by decide +kernel
theorem ziT:squaresM exB (zf exB) [0,2]=none:=by decide +kernel
theorem ziS:squaresM exB (zf exB) [0,1]=some (9,13):=by decide +kernel
theorem zgJ:widestM exB (zf exB)=some 16:=by decide +kernel
theorem x_ask:askM exB (zf exB)=(0,2):=by decide +kernel
def exM:RBk:=ye exB ⟨2,2,7⟩
theorem x_mc:zr exM=0:=by decide +kernel
theorem x_mst:zf exM=[[0,0,1],[1,0,0]]:=by decide +kernel
theorem ziP:newM exM=(4,4):=by decide +kernel
theorem x_mne:zf exM≠[]:=by rw [x_mst]; decide
def exD:RBk:=driedB exB (0:Int).toNat (dryX exB 0 ⟨1,5⟩)
theorem x_d1:bar2 (zr exB) (thereM exB 0)=0/\isBd ⟨1,5⟩ 0 5=true/\(dryX exB 0 ⟨1,5⟩).low<=(dryX exB 0 ⟨1,5⟩).high:=by decide +kernel
theorem x_d2:bar2 (zr exB) (thereM exB 1)=0/\isBd ⟨1,2⟩ 0 5=true/\(dryX exB 1 ⟨1,2⟩).high<(dryX exB 1 ⟨1,2⟩).low:=by decide +kernel
theorem x_dc:zr exD=0:=by decide +kernel
theorem x_dst:zf exD=[[1,0,0],[1,0,1]]:=by decide +kernel
theorem x_dne:zf exD≠[]:=by rw [x_dst]; decide
theorem x_dth:bar2 (zr exD) (thereM exD 0)=0:=by decide +kernel
theorem ziN:shrM exD 0=[1]:=by decide +kernel
def exC1:RBk:=ye exB ⟨0,1,5⟩
def exC:RBk:=ye exC1 ⟨2,2,6⟩
theorem x_cc:zr exC=0:=by decide +kernel
theorem x_cst:zf exC=[]:=by decide +kernel
theorem zd5:clashM exC=some [0,1]:=by decide +kernel
theorem zd4:zw 3 3=[0,1]:=by decide
theorem x_hi3:sqOk exB (zf exB) (zw 3 3)=true/\sqHi exB (zf exB) (zw 3 3)=13:=by
 unfold sqOk sqHi;rw [zd4,ziS];exact ⟨rfl,rfl⟩
theorem ziL:∀ c:Fin 8,0<c.1->sqOk exB (zf exB) (zw c.1 3)=true->c.1≠3->(zw 3 3,sqHi exB (zf exB) (zw 3 3))≠(zw c.1 3,sqHi exB (zf exB) (zw c.1 3))/\cheaperM (zw c.1 3,sqHi exB (zf exB) (zw c.1 3)) (zw 3 3,sqHi exB (zf exB) (zw 3 3))=false/\shorterM (zw c.1 3,sqHi exB (zf exB) (zw c.1 3)) (zw 3 3,sqHi exB (zf exB) (zw 3 3))=false:=by decide +kernel
theorem zfD {bt:List Int×Int->List Int×Int->Bool} {c:Nat} (hbt:bt=cheaperM\/bt=shorterM) (h:PlanA exB (zf exB) bt c):zw c exB.seams.length=[0,1]/\sqHi exB (zf exB) (zw c exB.seams.length)=13:=by
 obtain ⟨h0,h1,h2,h3⟩:=h;have e3:exB.seams.length=3:=rfl;rw [e3] at h1 h2 h3 ⊢;by_cases hc:c=3
 ·subst hc;exact ⟨zd4,x_hi3.2⟩
 ·exfalso;have h8:c<8:=h1;obtain ⟨q1,q2,q3⟩:=ziL ⟨c,h8⟩ h0 h2 hc;rcases h3 3 dQ dQ x_hi3.1 with h | h
  ·exact q1 h
  ·rcases hbt with rfl | rfl
   ·rw [q2] at h; cases h
   ·rw [q3] at h; cases h
theorem zdi (h:NoPlan exB (zf exB)):False:=by
 have:=h 3 dQ dQ;have e3:exB.seams.length=3:=rfl;rw [e3,x_hi3.1] at this;cases this
theorem or2 {x:Int} {A B:Prop} (h:(x≠0/\A)\/(x=0/\B)) (hx:x=0):B:=by
 rcases h with ⟨h,_⟩ | ⟨_,h⟩
 ·exact absurd hx h
 ·exact h
theorem or3 {x:Int} {A B C D:Prop} (h:(x≠0/\A)\/(x=0/\D/\B)\/(x=0/\¬ D/\C)) (hx:x=0) (hd:¬ D):C:=by
 rcases h with ⟨h,_⟩ | ⟨_,h,_⟩ | ⟨_,_,h⟩
 ·exact absurd hx h
 ·exact absurd h hd
 ·exact h
theorem or3b {x:Int} {A B C D:Prop} (h:(x≠0/\A)\/(x=0/\D/\B)\/(x=0/\C)) (hx:x=0) (hd:¬ D):C:=by
 rcases h with ⟨h,_⟩ | ⟨_,h,_⟩ | ⟨_,h⟩
 ·exact absurd hx h
 ·exact absurd h hd
 ·exact h
theorem or3c {x:Int} {y:Bool} {A B C:Prop} (h:(x≠0/\A)\/(x=0/\y=false/\B)\/(x=0/\y=true/\C)) (hx:x=0) (hy:y=true):C:=by
 rcases h with ⟨h,_⟩ | ⟨_,h,_⟩ | ⟨_,_,h⟩
 ·exact absurd hx h
 ·rw [hy] at h; cases h
 ·exact h
theorem or4 {x u v:Int} {y:Bool} {A B C D:Prop} (h:(x≠0/\A)\/(x=0/\y=false/\B)\/(x=0/\y=true/\u<v/\C)\/(x=0/\y=true/\v<=u/\D)) (hx:x=0/\y=true/\v<=u):D:=by
 obtain ⟨h1,h2,h3⟩:=hx;rcases h with ⟨h,_⟩ | ⟨_,h,_⟩ | ⟨_,_,h,_⟩ | ⟨_,_,_,h⟩
 ·exact absurd h1 h
 ·rw [h2] at h; cases h
 ·omega
 ·exact h
theorem or4c {x u v:Int} {y:Bool} {A B C D:Prop} (h:(x≠0/\A)\/(x=0/\y=false/\B)\/(x=0/\y=true/\u<v/\C)\/(x=0/\y=true/\v<=u/\D)) (hx:x=0/\y=true/\u<v):C:=by
 obtain ⟨h1,h2,h3⟩:=hx;rcases h with ⟨h,_⟩ | ⟨_,h,_⟩ | ⟨_,_,_,h⟩ | ⟨_,_,h,_⟩
 ·exact absurd h1 h
 ·rw [h2] at h; cases h
 ·exact h
 ·omega
theorem orCl {x:Int} {A B C D E F:Prop} (h:(x≠0/\A)\/(x=0/\¬ D/\B)\/(x=0/\D/\E/\C)\/(x=0/\D/\F)) (hx:x=0) (hd:D) (he:¬ E):F:=by
 rcases h with ⟨h,_⟩ | ⟨_,h,_⟩ | ⟨_,_,h,_⟩ | ⟨_,_,h⟩
 ·exact absurd hx h
 ·exact absurd hd h
 ·exact absurd h he
 ·exact h
theorem trT {r:AV} {P Q:Prop} [Decidable P] (h:r=zP (decide P)/\Q) (hp:P):r=zP true/\Q:=⟨by rw [h.1,decide_eq_true hp],h.2⟩
theorem zcA {xs zs:List Int} {i:Nat} {x:Int} {e:TypeId} {rw':Bool} (h:xs[i]? =some x):takeO (.cells ((xs++zs).map intA) e rw') (0+(i:Int).toNat*1) 1=some [intA x]:=yi (by rw [List.getElem?_append_left (List.getElem?_eq_some_iff.1 h).1]; exact h) rfl
theorem x_v12:sqLo exB (zf exB) [1,2]=9/\sqHi exB (zf exB) [1,2]=15/\sqOk exB (zf exB) [1,2]=true:=by
 unfold sqLo sqHi sqOk;rw [ziU];exact ⟨rfl,rfl,rfl⟩
theorem x_v02:sqLo exB (zf exB) [0,2]=0/\sqHi exB (zf exB) [0,2]=0/\sqOk exB (zf exB) [0,2]=false:=by
 unfold sqLo sqHi sqOk;rw [ziT];exact ⟨rfl,rfl,rfl⟩
theorem agr3 {b:RBk} {K:KV} {r:AV} {K':KV} (h:AgrR b K r K') (hx:zr b=0) (hn:zf b≠[]):∃ s h e,r=.tup [.agg (zE b s h e),intA 0]/\K'=(s,zk b)::(h,zB b)::(e,zq b)::K:=or3 h hx hn
end Go.Vel
namespace Go.Vel
open Go Go.Conc Go.Proofs
instance:BlOf tp 49 [(0,1),(1,1),(2,1)]:={}
instance:Cal tp 20:={}
instance:Cal tp 22:={}
instance:Cal tp 26:={}
instance:Cal tp 27:={}
instance:Cal tp 30:={}
instance:Cal tp 32:={}
instance:Cal tp 34:={}
instance:Cal tp 36:={}
instance:Cal tp 38:={}
instance:Cal tp 40:={}
instance:Cal tp 42:={}
instance:Cal tp 45:={}
instance:Cal tp 47:={}
instance:Cal tp 51:={}
instance:Cal tp 52:={}
instance:Cal tp 53:={}
instance:Cal tp 54:={}
instance:Cal tp 59:={}
instance:Cal tp 70:={}
instance:Cal tp 88:={}
instance:Cal tp 89:={}
instance:EqG tp 51:={}
instance:FlatF tp 51 [(3,0),(3,1)]:={}
theorem zi6 {Ψ:Goroutine->World->Prop}  :
  zA tp (BT tp Ψ) gmR 19 [] [(0,zy)] (fun r K'=>r=zP true/\K'=[(0,zy)]):=by
 have hT:=kI (P:=tp) Ψ;refine zp 407 hT Tryz.func19 fun Y hret=>?_;refine au 423542 ?_;refine bD Z Z Z Z (zeh hT) ?_;rintro r1 K2 ⟨s,h,e,rfl,rfl⟩;refine au 220 ?_;intro j1 hj1;refine au 23170 ?_;refine bC [(0,_),(s,_),(h,_),(e,_),(j1,_)] ?_;refine au 6804 ?_;refine bI Z Z Z (zt (l:=[_,_]) Z zF.h TyZ.h dQ dQ Z) (fun _=>zu rfl tQ) fun ja2 hja2=>?_;refine bZ 35 Z mQ ?_;refine bY (j:=ja2) ?_;refine au 0 ?_;refine bD Z Z Z Z ((zhP hT (b:=exB) (l:=[1,2]) x_len.1 x_len.2 dQ).mono (fun _ _ h=>or2 h zd7)) ?_;rintro r4 K5 ⟨jr,rfl,rfl⟩;refine au 0 ?_;rw [zgI];refine au 2355661 ?_;refine bZ 2 Z mQ ?_;refine bY (j:=jr) ?_;refine au 0 ?_;refine bC [(0,_),(s,_),(h,_),(e,_),(j1,_),(jr,_)] ?_;refine au 6804 ?_;refine bI Z Z Z (zt (l:=[_,_]) Z zF.h TyZ.h dQ dQ Z) (fun _=>zu rfl tQ) fun ja3 hja3=>?_;refine bZ 41 Z mQ ?_;refine bY (j:=ja3) ?_;refine au 0 ?_;refine bD Z Z Z Z (zaP hT (b:=exB) (l:=[0,1]) x_len.1 x_len.2 dQ) ?_;rintro r7 K8 ⟨rfl,rfl⟩;refine au 0 ?_;rw [zd6,zgF];refine au 2355661 ?_;refine bC [(0,_),(s,_),(h,_),(e,_),(j1,_),(jr,_)] ?_;refine au 6804 ?_;refine bI Z Z Z (zt (l:=[_,_]) Z zF.h TyZ.h dQ dQ Z) (fun _=>zu rfl tQ) fun ja4 hja4=>?_;refine bZ 47 Z mQ ?_;refine bY (j:=ja4) ?_;refine au 0 ?_;refine bD Z Z Z Z (zaP hT (b:=exB) (l:=[0,2]) x_len.1 x_len.2 dQ) ?_;rintro r10 K11 ⟨rfl,rfl⟩;refine au 0 ?_;rw [zbx,zgG];refine au 2355661 ?_;refine bC [(0,_),(s,_),(h,_),(e,_),(j1,_),(jr,_)] ?_;refine au 6804 ?_;refine bI Z Z Z (zt (l:=[_,_]) Z zF.h TyZ.h dQ dQ Z) (fun _=>zu rfl tQ) fun ja5 hja5=>?_;refine bI Z Z Z (zt (l:=[_,_,_]) Z zF.h TyZ.h dQ dQ Z) (fun _=>zu rfl tQ) fun jb5 hjb5=>?_;refine bZ 53 Z mQ ?_;refine bY (j:=ja5) ?_;refine au 0 ?_;refine bZ 54 Z mQ ?_;refine bY (j:=jb5) ?_;refine au 0 ?_;refine bD Z Z Z Z ((zej hT (b:=exB) (l:=[0,1]) (st:=[1,0,1]) x_len.1 x_len.2 dQ).mono (fun _ _ h=>or3b h x_h1 (by rw [zd8]; exact fun h=>nomatch h))) ?_;rintro r13 K14 ⟨w5,q5,jw,hw,rfl,rfl⟩;refine au 0 ?_;rw [zd8] at hw;cases hw;refine au 23555566661 ?_;refine bC [(0,_),(s,_),(h,_),(e,_),(j1,_),(jr,_),(jw,_)] ?_;refine au 6804 ?_;refine bI Z Z Z (zt (l:=[_,_]) Z zF.h TyZ.h dQ dQ Z) (fun _=>zu rfl tQ) fun ja6 hja6=>?_;refine bI Z Z Z (zt (l:=[_,_,_]) Z zF.h TyZ.h dQ dQ Z) (fun _=>zu rfl tQ) fun jb6 hjb6=>?_;refine bZ 62 Z mQ ?_;refine bY (j:=ja6) ?_;refine au 0 ?_;refine bZ 63 Z mQ ?_;refine bY (j:=jb6) ?_;refine au 0 ?_;refine bD Z Z Z Z ((zcS hT (b:=exB) (l:=[0,1]) (st:=[0,0,1]) x_len.1 x_len.2 dQ).mono (fun _ _ h=>or3b h x_h2 (by rw [zd9]; exact fun h=>nomatch h))) ?_;rintro r16 K17 ⟨w6,q6,jp,hw,rfl,rfl⟩;refine au 0 ?_;rw [zd9] at hw;cases hw;rw [zgH];refine au 235556661 ?_;refine bZ 12 Z mQ ?_;refine bY (j:=jp) ?_;refine au 0 ?_;refine bC [(0,_),(s,_),(h,_),(e,_),(j1,_),(jr,_),(jw,_),(jp,_)] ?_;refine au 6804 ?_;refine bD Z Z Z Z (uV hT (b:=exB) x_len.1 x_len.2) ?_;rintro r19 K20 ⟨rfl,rfl⟩;refine au 0 ?_;rw [wq,if_pos rfl,zaK];refine au 2355661 ?_;refine bC [(0,_),(s,_),(h,_),(e,_),(j1,_),(jr,_),(jw,_),(jp,_)] ?_;refine au 6804 ?_;refine bD Z Z Z Z ((za6 hT (b:=exB) (n:=2) x_len.1 x_len.2 (by rw [zaK]; decide)).mono (fun _ _ h=>or3 h x_th2 x_ne)) ?_;rintro r22 K23 ⟨js8,zs8,rfl,rfl⟩;refine au 0 ?_;rw [ziR];refine au 2355661 ?_;refine bC [(0,_),(s,_),(h,_),(e,_),(j1,_),(jr,_),(jw,_),(jp,_),(js8,_)] ?_;refine au 6804 ?_;refine bD Z Z Z Z ((ze4 hT (b:=exB) x_len.1 x_len.2).mono (fun _ _ h=>or3 h wq x_ne)) ?_;rintro r25 K26 ⟨rfl,rfl⟩;refine au 0 ?_;rw [x_new];refine au 220661 ?_;intro j19 hj19;refine au 235170 ?_;refine bC [(0,_),(s,_),(h,_),(e,_),(j1,_),(jr,_),(jw,_),(jp,_),(js8,_),(j19,_)] ?_;refine au 6804 ?_;refine bI Z Z Z (zt (l:=[_,_]) Z zF.h TyZ.h dQ dQ Z) (fun _=>zu rfl tQ) fun ja10 hja10=>?_;refine bZ 85 Z mQ ?_;refine bY (j:=ja10) ?_;refine au 0 ?_;refine bD Z Z Z Z ((zch hT (b:=exB) (l:=[0,1]) x_len.1 x_len.2 dQ).mono (fun _ _ h=>or3 h zd6 x_ne)) ?_;rintro r28 K29 ⟨rfl,rfl⟩;refine au 0 ?_;rw [zhG];refine au 2355661 ?_;refine bC [(0,_),(s,_),(h,_),(e,_),(j1,_),(jr,_),(jw,_),(jp,_),(js8,_),(j19,_)] ?_;refine au 6804 ?_;refine bI Z Z Z (zt (l:=[_,_]) Z zF.h TyZ.h dQ dQ Z) (fun _=>zu rfl tQ) fun ja11 hja11=>?_;refine bZ 91 Z mQ ?_;refine bY (j:=ja11) ?_;refine au 0 ?_;refine bD Z Z Z Z ((zch hT (b:=exB) (l:=[0,2]) x_len.1 x_len.2 dQ).mono (fun _ _ h=>or3 h zbx x_ne)) ?_;rintro r31 K32 ⟨rfl,rfl⟩;refine au 0 ?_;rw [zhH];refine au 22355661 ?_;refine bC [(0,_),(s,_),(h,_),(e,_),(j1,_),(jr,_),(jw,_),(jp,_),(js8,_),(j19,_)] ?_;refine au 221201903250711250711250711250711250711250711250711250711250711714 ?_;refine bC [(0,_),(s,_),(h,_),(e,_),(j1,_),(jr,_),(jw,_),(jp,_),(js8,_),(j19,_)] ?_;refine bL [0,1,2,3,4,5,6,7,8,9,10,11,12,13,14,15,16,17,18,19,20,21,22,23,24,25,26,27,28,29,30,31,32,33,34,35,36,37,38,39,40,41,42,43,44,45,46,47,48,49,50,51,52,53,54,55,56,57,58,59] ?_;refine ad [[1,2]] ?_;refine bU [] Z (yE (l:=[_,_]) Z TyZ.h BlOf.h Z) ?_;refine bU [] Z (yE (l:=[_,_]) Z TyZ.h BlOf.h Z) ?_;refine bV (pend':=[Pd.mk 0 [2] []]) [134,135] Z Z Z (pendS (es:=[1,2]) Z Z) Z (zt (l:=[_,_,_,_]) Z zF.h TyZ.h dQ dQ Z) (fun _=>zu rfl tQ) sQ fun jy1 hjy1=>?_;refine bQ (pend':=[]) [133,136] Z (pendS (es:=[0,3]) Z Z) Z Z Z ((zbq hT (xs:=[(1,4),(2,8)]) (ys:=[(1,4),(2,8)]) (off:=0) (ob:=.cells (([(1,4),(2,8)]:List (Int×Int)).flatMap pairC) 96 false) (fun i x hx=>vb (c:=2) (f:=pairC) (fun _=>rfl) hx rfl dQ) dQ).mono (fun _ _ h=>trT h rfl)) (fun r34 K35 h36=>⟨?_,?_⟩)
 ·rcases h36 with ⟨rfl,rfl⟩
  all_goals simp
 obtain ⟨rfl,rfl⟩:=h36;try simp only [cA]
 refine bS tQ ?_;refine bU [137] Z (q_not Z Z) ?_;refine ad [[1,138],[1,4,139]] ?_;refine bU [139,140] Z (q_not Z Z) ?_;refine ad [[6,139,141],[1,142],[1,6,143],[6,143,144],[1,145],[1,8,146]] ?_;refine bV (pend':=[Pd.mk 14 [8,146] [],Pd.mk 12 [143,144] [],Pd.mk 11 [6,143] [],Pd.mk 10 [142] [],Pd.mk 9 [139,141] [],Pd.mk 8 [139,140] [],Pd.mk 7 [4,139] [],Pd.mk 6 [138] [],Pd.mk 5 [137] []]) [146] Z Z Z (pendS (es:=[13]) Z Z) Z (zt (l:=[_,_]) Z zF.h TyZ.h dQ dQ Z) (fun _=>zu rfl tQ) sQ fun jy2 hjy2=>?_;refine bQ (pend':=[Pd.mk 12 [143,144] [],Pd.mk 11 [6,143] [],Pd.mk 10 [142] [],Pd.mk 9 [139,141] [],Pd.mk 8 [139,140] [],Pd.mk 7 [4,139] [],Pd.mk 6 [138] [],Pd.mk 5 [137] []]) [146,147,148] Z (pendS (es:=[14,15,13,13]) Z Z) Z Z Z ((wJ hT (xs:=[3,2]) (ys:=[3,2]) (off:=0) (ob:=.cells (([3,2]:List Int).map intA) 3 false) (fun i x hx=>yi hx rfl) dQ).mono (fun _ _ h=>trT h rfl)) (fun r37 K38 h39=>⟨?_,?_⟩)
 ·rcases h39 with ⟨rfl,rfl⟩
  all_goals simp
 obtain ⟨rfl,rfl⟩:=h39;try simp only [cA]
 refine bS tQ ?_;refine bU [146,149] Z (q_not Z Z) ?_;refine ad [[6,146,150],[1,151],[1,9,152],[4,152,153],[6,152,154],[1,155],[1,10,156]] ?_;refine bU [156,157] Z (q_not Z Z) ?_;refine ad [[6,156,158],[1,159],[1,12,160]] ?_;refine bV (pend':=[Pd.mk 28 [12,160] [],Pd.mk 26 [156,158] [],Pd.mk 25 [156,157] [],Pd.mk 24 [10,156] [],Pd.mk 23 [155] [],Pd.mk 22 [152,154] [],Pd.mk 21 [152,153] [],Pd.mk 20 [9,152] [],Pd.mk 19 [151] [],Pd.mk 18 [146,150] [],Pd.mk 17 [146,149] [],Pd.mk 12 [143,144] [],Pd.mk 11 [6,143] [],Pd.mk 10 [142] [],Pd.mk 9 [139,141] [],Pd.mk 8 [139,140] [],Pd.mk 7 [4,139] [],Pd.mk 6 [138] [],Pd.mk 5 [137] []]) [160] Z Z Z (pendS (es:=[27]) Z Z) Z (zt (l:=[_,_]) Z zF.h TyZ.h dQ dQ Z) (fun _=>zu rfl tQ) sQ fun jy3 hjy3=>?_;refine bQ (pend':=[Pd.mk 26 [156,158] [],Pd.mk 25 [156,157] [],Pd.mk 24 [10,156] [],Pd.mk 23 [155] [],Pd.mk 22 [152,154] [],Pd.mk 21 [152,153] [],Pd.mk 20 [9,152] [],Pd.mk 19 [151] [],Pd.mk 18 [146,150] [],Pd.mk 17 [146,149] [],Pd.mk 12 [143,144] [],Pd.mk 11 [6,143] [],Pd.mk 10 [142] [],Pd.mk 9 [139,141] [],Pd.mk 8 [139,140] [],Pd.mk 7 [4,139] [],Pd.mk 6 [138] [],Pd.mk 5 [137] []]) [160,161,162] Z (pendS (es:=[28,29,27,27]) Z Z) Z Z Z ((wJ hT (xs:=[0,7]) (ys:=[0,7]) (off:=0) (ob:=.cells (([0,7]:List Int).map intA) 3 false) (fun i x hx=>yi hx rfl) dQ).mono (fun _ _ h=>trT h rfl)) (fun r40 K41 h42=>⟨?_,?_⟩)
 ·rcases h42 with ⟨rfl,rfl⟩
  all_goals simp
 obtain ⟨rfl,rfl⟩:=h42;try simp only [cA]
 refine bS tQ ?_;refine bU [160,163] Z (q_not Z Z) ?_;refine ad [[6,160,164],[1,165],[1,13,166]] ?_;refine bU [166,167] Z (q_not Z Z) ?_;refine ad [[6,166,168],[1,169],[1,15,170],[4,170,171],[6,170,172],[1,173],[1,17,174]] ?_;refine bV (pend':=[Pd.mk 42 [17,174] [],Pd.mk 40 [170,172] [],Pd.mk 39 [170,171] [],Pd.mk 38 [15,170] [],Pd.mk 37 [169] [],Pd.mk 36 [166,168] [],Pd.mk 35 [166,167] [],Pd.mk 34 [13,166] [],Pd.mk 33 [165] [],Pd.mk 32 [160,164] [],Pd.mk 31 [160,163] [],Pd.mk 26 [156,158] [],Pd.mk 25 [156,157] [],Pd.mk 24 [10,156] [],Pd.mk 23 [155] [],Pd.mk 22 [152,154] [],Pd.mk 21 [152,153] [],Pd.mk 20 [9,152] [],Pd.mk 19 [151] [],Pd.mk 18 [146,150] [],Pd.mk 17 [146,149] [],Pd.mk 12 [143,144] [],Pd.mk 11 [6,143] [],Pd.mk 10 [142] [],Pd.mk 9 [139,141] [],Pd.mk 8 [139,140] [],Pd.mk 7 [4,139] [],Pd.mk 6 [138] [],Pd.mk 5 [137] []]) [174] Z Z Z (pendS (es:=[41]) Z Z) Z (zt (l:=[_,_]) Z zF.h TyZ.h dQ dQ Z) (fun _=>zu rfl tQ) sQ fun jy4 hjy4=>?_;refine bQ (pend':=[Pd.mk 40 [170,172] [],Pd.mk 39 [170,171] [],Pd.mk 38 [15,170] [],Pd.mk 37 [169] [],Pd.mk 36 [166,168] [],Pd.mk 35 [166,167] [],Pd.mk 34 [13,166] [],Pd.mk 33 [165] [],Pd.mk 32 [160,164] [],Pd.mk 31 [160,163] [],Pd.mk 26 [156,158] [],Pd.mk 25 [156,157] [],Pd.mk 24 [10,156] [],Pd.mk 23 [155] [],Pd.mk 22 [152,154] [],Pd.mk 21 [152,153] [],Pd.mk 20 [9,152] [],Pd.mk 19 [151] [],Pd.mk 18 [146,150] [],Pd.mk 17 [146,149] [],Pd.mk 12 [143,144] [],Pd.mk 11 [6,143] [],Pd.mk 10 [142] [],Pd.mk 9 [139,141] [],Pd.mk 8 [139,140] [],Pd.mk 7 [4,139] [],Pd.mk 6 [138] [],Pd.mk 5 [137] []]) [174,175,176] Z (pendS (es:=[42,43,41,41]) Z Z) Z Z Z ((wJ hT (xs:=[0,1]) (ys:=[0,1]) (off:=0) (ob:=.cells (([0,1]++zs8).map intA) 3 false) (fun i x hx=>zcA hx) dQ).mono (fun _ _ h=>trT h rfl)) (fun r43 K44 h45=>⟨?_,?_⟩)
 ·rcases h45 with ⟨rfl,rfl⟩
  all_goals simp
 obtain ⟨rfl,rfl⟩:=h45;try simp only [cA]
 refine bS tQ ?_;refine bU [174,177] Z (q_not Z Z) ?_;refine ad [[6,174,178],[1,179],[12,19,180]] ?_;refine bQ (pend':=[Pd.mk 48 [19,180] [(_,_)],Pd.mk 46 [174,178] [],Pd.mk 45 [174,177] [],Pd.mk 40 [170,172] [],Pd.mk 39 [170,171] [],Pd.mk 38 [15,170] [],Pd.mk 37 [169] [],Pd.mk 36 [166,168] [],Pd.mk 35 [166,167] [],Pd.mk 34 [13,166] [],Pd.mk 33 [165] [],Pd.mk 32 [160,164] [],Pd.mk 31 [160,163] [],Pd.mk 26 [156,158] [],Pd.mk 25 [156,157] [],Pd.mk 24 [10,156] [],Pd.mk 23 [155] [],Pd.mk 22 [152,154] [],Pd.mk 21 [152,153] [],Pd.mk 20 [9,152] [],Pd.mk 19 [151] [],Pd.mk 18 [146,150] [],Pd.mk 17 [146,149] [],Pd.mk 12 [143,144] [],Pd.mk 11 [6,143] [],Pd.mk 10 [142] [],Pd.mk 9 [139,141] [],Pd.mk 8 [139,140] [],Pd.mk 7 [4,139] [],Pd.mk 6 [138] [],Pd.mk 5 [137] []]) [180] Z (pendS (es:=[47,47]) Z Z) Z Z Z (to_ok hT) (fun r46 K47 h48=>⟨?_,?_⟩)
 ·rcases h48 with ⟨rfl,rfl⟩
  all_goals simp
 obtain ⟨rfl,rfl⟩:=h48;try simp only [cA]
 refine bS tQ ?_;refine bU [180,181,182] Z (uS Z Z Z Z Z FlatF.h EqG.h) ?_;refine ad [[6,180,183],[1,184],[1,21,185],[4,185,186],[6,185,187],[1,188],[1,23,189],[4,189,190],[6,189,191],[14]] ?_;refine au 2120190 ?_;refine bC [(0,_),(s,_),(h,_),(e,_),(j1,_),(j19,_)] ?_;refine au 6804 ?_;refine bD Z Z Z Z ((zg7 hT (b:=exB) (r0:=16) x_len.1 x_len.2).mono (fun _ _ h=>or3c h wq ziO)) ?_;rintro r49 K50 ⟨s6,h6,e6,rfl,rfl⟩;refine au 220661 ?_;intro j25 hj25;refine au 235170 ?_;refine bC [(0,_),(s,_),(h,_),(e,_),(j1,_),(j19,_),(s6,_),(h6,_),(e6,_),(j25,_)] ?_;refine au 6804 ?_;refine bI Z Z Z (zt (l:=[_,_]) Z zF.h TyZ.h dQ dQ Z) (fun _=>zu rfl tQ) fun ja17 hja17=>?_;refine bZ 200 Z mQ ?_;refine bY (j:=ja17) ?_;refine au 0 ?_;refine bD Z Z Z Z ((zch hT (b:=atRound exB 16) (s:=s6) (h:=h6) (e:=e6) (l:=[0,1]) dQ dQ dQ).mono (fun _ _ h=>or3 h ziM ziQ)) ?_;rintro r52 K53 ⟨rfl,rfl⟩;refine au 0 ?_;rw [zhI];refine au 2355661 ?_;refine bC [(0,_),(s,_),(h,_),(e,_),(j1,_),(j19,_)] ?_;refine au 6804 ?_;refine bI Z Z Z (zt (l:=[_,_]) Z zF.h TyZ.h dQ dQ Z) (fun _=>zu rfl tQ) fun ja18 hja18=>?_;refine bZ 206 Z mQ ?_;refine bY (j:=ja18) ?_;refine au 0 ?_;refine bD Z Z Z Z ((uz hT (b:=exB) (l:=[1,2]) x_len.1 x_len.2 dQ).mono (fun _ _ h=>or3 h zd7 x_ne)) ?_;rintro r55 K56 ⟨rfl,rfl⟩;refine au 0 ?_;rw [x_v12.1,x_v12.2.1,x_v12.2.2,show (if true=true then (0:Int) else 8)=0 from rfl];refine au 235170661 ?_;refine bC [(0,_),(s,_),(h,_),(e,_),(j1,_),(j19,_)] ?_;refine au 6804 ?_;refine bI Z Z Z (zt (l:=[_,_]) Z zF.h TyZ.h dQ dQ Z) (fun _=>zu rfl tQ) fun ja19 hja19=>?_;refine bZ 212 Z mQ ?_;refine bY (j:=ja19) ?_;refine au 0 ?_;refine bD Z Z Z Z ((uz hT (b:=exB) (l:=[0,2]) x_len.1 x_len.2 dQ).mono (fun _ _ h=>or3 h zbx x_ne)) ?_;rintro r58 K59 ⟨rfl,rfl⟩;refine au 0 ?_;rw [x_v02.1,x_v02.2.1,x_v02.2.2,show (if false=true then (0:Int) else 8)=8 from rfl];refine au 235661 ?_;refine bC [(0,_),(s,_),(h,_),(e,_),(j1,_),(j19,_)] ?_;refine au 6804 ?_;refine bD Z Z Z Z ((zgQ (b:=exB) x_len.1 x_len.2).mono (fun _ _ h=>or3 h wq x_ne)) ?_;rintro r61 K62 h63;rcases h63 with ⟨hno,rfl,rfl⟩ | ⟨c,jc,ec,hpl,rfl,rfl⟩
 ·refine au 0 ?_;exact (zdi hno).elim
 ·refine au 0 ?_;obtain ⟨hq1,hq2⟩:=zfD (.inl rfl) hpl;rw [hq2,hq1];refine au 23555566661 ?_;refine bC [(0,_),(s,_),(h,_),(e,_),(j1,_),(j19,_),(jc,_)] ?_;refine au 6804 ?_;refine bD Z Z Z Z ((zeP (b:=exB) x_len.1 x_len.2).mono (fun _ _ h=>or3 h wq x_ne)) ?_;rintro r64 K65 h66;rcases h66 with ⟨hno,rfl,rfl⟩ | ⟨c2,jf,ef,hpl2,rfl,rfl⟩
  ·refine au 0 ?_;exact (zdi hno).elim
  ·refine au 0 ?_;obtain ⟨hq3,hq4⟩:=zfD (.inr rfl) hpl2;rw [hq3];refine au 235556661 ?_;refine bC [(0,_),(s,_),(h,_),(e,_),(j1,_),(j19,_),(jc,_),(jf,_)] ?_;refine au 6804 ?_;refine bD Z Z Z Z ((zfz (b:=exB) x_len.1 x_len.2).mono (fun _ _ h=>or3 h wq x_ne)) ?_;rintro r67 K68 ⟨rfl,rfl⟩;refine au 0 ?_;rw [zgJ];refine au 2235556661 ?_;refine bC [(0,_),(s,_),(h,_),(e,_),(j1,_),(j19,_),(jc,_),(jf,_)] ?_;refine TK.dr [0,1,2,3,4,5,6,7,8,9,10,11,12,13,14,15,16,17,18,19,20,21,22,23,24,25,26,27,28,29,30,31,32,33,34,35,36,37,38,39,40,41,42,43,44,45,46,47,48,49,50,51,52,53,54,55,56,57,58,59,60,61,62,63,64,65,66] [0,1,2,3,4,5,6,7,8,9,10,11,12,13,14,15,16,17,18,19,20,21,22,23,24,25,26,27,28,29,30,31,32,33,34,35,36,37,38,39,40,41,42,43,44,45,46,47,48,49,50,51,52,53,54,55,56,57,58,59,60,61,62,63,64,65,66] ?_;refine ad [[1,3],[4,235],[1,236],[1,5,237],[4,237,238],[6,237,239],[1,240],[1,7,241],[4,241,242],[6,241,243],[1,244],[1,11,245],[4,245,246],[6,245,247],[1,248],[1,14,249],[4,249,250],[6,249,251],[1,252],[1,16,253],[4,253,254],[6,253,255],[1,256],[1,18,257],[4,257,258],[6,257,259],[1,260],[1,21,261],[4,261,262],[6,261,263],[1,264],[12,19,265]] ?_;refine bQ (pend':=[Pd.mk 31 [19,265] [(_,_)],Pd.mk 29 [261,263] [],Pd.mk 28 [261,262] [],Pd.mk 27 [21,261] [],Pd.mk 26 [260] [],Pd.mk 25 [257,259] [],Pd.mk 24 [257,258] [],Pd.mk 23 [18,257] [],Pd.mk 22 [256] [],Pd.mk 21 [253,255] [],Pd.mk 20 [253,254] [],Pd.mk 19 [16,253] [],Pd.mk 18 [252] [],Pd.mk 17 [249,251] [],Pd.mk 16 [249,250] [],Pd.mk 15 [14,249] [],Pd.mk 14 [248] [],Pd.mk 13 [245,247] [],Pd.mk 12 [245,246] [],Pd.mk 11 [11,245] [],Pd.mk 10 [244] [],Pd.mk 9 [241,243] [],Pd.mk 8 [241,242] [],Pd.mk 7 [7,241] [],Pd.mk 6 [240] [],Pd.mk 5 [237,239] [],Pd.mk 4 [237,238] [],Pd.mk 3 [5,237] [],Pd.mk 2 [236] [],Pd.mk 1 [235] [],Pd.mk 0 [3] []]) [265] Z (pendS (es:=[30,30]) Z Z) Z Z Z (to_ok hT) (fun r70 K71 h72=>⟨?_,?_⟩)
   ·rcases h72 with ⟨rfl,rfl⟩
    all_goals simp
   obtain ⟨rfl,rfl⟩:=h72;try simp only [cA]
   refine bS tQ ?_;refine bU [265,266,267] Z (uS Z Z Z Z Z FlatF.h EqG.h) ?_;refine ad [[6,265,268],[1,269],[1,26,270]] ?_;refine bV (pend':=[Pd.mk 36 [26,270] [],Pd.mk 34 [265,268] [],Pd.mk 33 [265,266,267] [],Pd.mk 31 [19,265] [(_,_)],Pd.mk 29 [261,263] [],Pd.mk 28 [261,262] [],Pd.mk 27 [21,261] [],Pd.mk 26 [260] [],Pd.mk 25 [257,259] [],Pd.mk 24 [257,258] [],Pd.mk 23 [18,257] [],Pd.mk 22 [256] [],Pd.mk 21 [253,255] [],Pd.mk 20 [253,254] [],Pd.mk 19 [16,253] [],Pd.mk 18 [252] [],Pd.mk 17 [249,251] [],Pd.mk 16 [249,250] [],Pd.mk 15 [14,249] [],Pd.mk 14 [248] [],Pd.mk 13 [245,247] [],Pd.mk 12 [245,246] [],Pd.mk 11 [11,245] [],Pd.mk 10 [244] [],Pd.mk 9 [241,243] [],Pd.mk 8 [241,242] [],Pd.mk 7 [7,241] [],Pd.mk 6 [240] [],Pd.mk 5 [237,239] [],Pd.mk 4 [237,238] [],Pd.mk 3 [5,237] [],Pd.mk 2 [236] [],Pd.mk 1 [235] [],Pd.mk 0 [3] []]) [270] Z Z Z (pendS (es:=[35]) Z Z) Z (zt (l:=[_,_]) Z zF.h TyZ.h dQ dQ Z) (fun _=>zu rfl tQ) sQ fun jz1 hjz1=>?_;refine bQ (pend':=[Pd.mk 34 [265,268] [],Pd.mk 33 [265,266,267] [],Pd.mk 31 [19,265] [(_,_)],Pd.mk 29 [261,263] [],Pd.mk 28 [261,262] [],Pd.mk 27 [21,261] [],Pd.mk 26 [260] [],Pd.mk 25 [257,259] [],Pd.mk 24 [257,258] [],Pd.mk 23 [18,257] [],Pd.mk 22 [256] [],Pd.mk 21 [253,255] [],Pd.mk 20 [253,254] [],Pd.mk 19 [16,253] [],Pd.mk 18 [252] [],Pd.mk 17 [249,251] [],Pd.mk 16 [249,250] [],Pd.mk 15 [14,249] [],Pd.mk 14 [248] [],Pd.mk 13 [245,247] [],Pd.mk 12 [245,246] [],Pd.mk 11 [11,245] [],Pd.mk 10 [244] [],Pd.mk 9 [241,243] [],Pd.mk 8 [241,242] [],Pd.mk 7 [7,241] [],Pd.mk 6 [240] [],Pd.mk 5 [237,239] [],Pd.mk 4 [237,238] [],Pd.mk 3 [5,237] [],Pd.mk 2 [236] [],Pd.mk 1 [235] [],Pd.mk 0 [3] []]) [270,271,272] Z (pendS (es:=[36,37,35,35]) Z Z) Z Z Z ((wJ hT (xs:=[0,1]) (ys:=[0,1]) (off:=0) (ob:=.cells (([0,1]:List Int).map intA) ec false) (fun i x hx=>yi hx rfl) dQ).mono (fun _ _ h=>trT h rfl)) (fun r73 K74 h75=>⟨?_,?_⟩)
   ·rcases h75 with ⟨rfl,rfl⟩
    all_goals simp
   obtain ⟨rfl,rfl⟩:=h75;try simp only [cA]
   refine bS tQ ?_;refine bU [270,273] Z (q_not Z Z) ?_;refine ad [[6,270,274],[1,275],[1,9,276],[4,276,277],[6,276,278],[1,279],[1,10,280]] ?_;refine bU [280,281] Z (q_not Z Z) ?_;refine ad [[6,280,282],[1,283],[1,27,284]] ?_;refine bV (pend':=[Pd.mk 50 [27,284] [],Pd.mk 48 [280,282] [],Pd.mk 47 [280,281] [],Pd.mk 46 [10,280] [],Pd.mk 45 [279] [],Pd.mk 44 [276,278] [],Pd.mk 43 [276,277] [],Pd.mk 42 [9,276] [],Pd.mk 41 [275] [],Pd.mk 40 [270,274] [],Pd.mk 39 [270,273] [],Pd.mk 34 [265,268] [],Pd.mk 33 [265,266,267] [],Pd.mk 31 [19,265] [(_,_)],Pd.mk 29 [261,263] [],Pd.mk 28 [261,262] [],Pd.mk 27 [21,261] [],Pd.mk 26 [260] [],Pd.mk 25 [257,259] [],Pd.mk 24 [257,258] [],Pd.mk 23 [18,257] [],Pd.mk 22 [256] [],Pd.mk 21 [253,255] [],Pd.mk 20 [253,254] [],Pd.mk 19 [16,253] [],Pd.mk 18 [252] [],Pd.mk 17 [249,251] [],Pd.mk 16 [249,250] [],Pd.mk 15 [14,249] [],Pd.mk 14 [248] [],Pd.mk 13 [245,247] [],Pd.mk 12 [245,246] [],Pd.mk 11 [11,245] [],Pd.mk 10 [244] [],Pd.mk 9 [241,243] [],Pd.mk 8 [241,242] [],Pd.mk 7 [7,241] [],Pd.mk 6 [240] [],Pd.mk 5 [237,239] [],Pd.mk 4 [237,238] [],Pd.mk 3 [5,237] [],Pd.mk 2 [236] [],Pd.mk 1 [235] [],Pd.mk 0 [3] []]) [284] Z Z Z (pendS (es:=[49]) Z Z) Z (zt (l:=[_,_]) Z zF.h TyZ.h dQ dQ Z) (fun _=>zu rfl tQ) sQ fun jz2 hjz2=>?_;refine bQ (pend':=[Pd.mk 48 [280,282] [],Pd.mk 47 [280,281] [],Pd.mk 46 [10,280] [],Pd.mk 45 [279] [],Pd.mk 44 [276,278] [],Pd.mk 43 [276,277] [],Pd.mk 42 [9,276] [],Pd.mk 41 [275] [],Pd.mk 40 [270,274] [],Pd.mk 39 [270,273] [],Pd.mk 34 [265,268] [],Pd.mk 33 [265,266,267] [],Pd.mk 31 [19,265] [(_,_)],Pd.mk 29 [261,263] [],Pd.mk 28 [261,262] [],Pd.mk 27 [21,261] [],Pd.mk 26 [260] [],Pd.mk 25 [257,259] [],Pd.mk 24 [257,258] [],Pd.mk 23 [18,257] [],Pd.mk 22 [256] [],Pd.mk 21 [253,255] [],Pd.mk 20 [253,254] [],Pd.mk 19 [16,253] [],Pd.mk 18 [252] [],Pd.mk 17 [249,251] [],Pd.mk 16 [249,250] [],Pd.mk 15 [14,249] [],Pd.mk 14 [248] [],Pd.mk 13 [245,247] [],Pd.mk 12 [245,246] [],Pd.mk 11 [11,245] [],Pd.mk 10 [244] [],Pd.mk 9 [241,243] [],Pd.mk 8 [241,242] [],Pd.mk 7 [7,241] [],Pd.mk 6 [240] [],Pd.mk 5 [237,239] [],Pd.mk 4 [237,238] [],Pd.mk 3 [5,237] [],Pd.mk 2 [236] [],Pd.mk 1 [235] [],Pd.mk 0 [3] []]) [284,285,286] Z (pendS (es:=[50,51,49,49]) Z Z) Z Z Z ((wJ hT (xs:=[0,1]) (ys:=[0,1]) (off:=0) (ob:=.cells (([0,1]:List Int).map intA) ef false) (fun i x hx=>yi hx rfl) dQ).mono (fun _ _ h=>trT h rfl)) (fun r76 K77 h78=>⟨?_,?_⟩)
   ·rcases h78 with ⟨rfl,rfl⟩
    all_goals simp
   obtain ⟨rfl,rfl⟩:=h78;try simp only [cA]
   refine bS tQ ?_;refine bU [284,287] Z (q_not Z Z) ?_;refine ad [[6,284,288],[1,289],[1,13,290]] ?_;refine bU [290,291] Z (q_not Z Z) ?_;refine ad [[6,290,292],[1,293],[1,15,294],[4,294,295],[6,294,296],[1,297],[1,4,298]] ?_;refine bU [298,299] Z (q_not Z Z) ?_;refine ad [[6,298,300],[14]] ?_;refine au 2120190 ?_;refine bC [(0,_),(s,_),(h,_),(e,_),(j1,_),(j19,_)] ?_;refine au 6804 ?_;refine bD Z Z Z Z ((zhK hT (b:=exB) x_len.1 x_len.2).mono (fun _ _ h=>or3 h wq x_ne)) ?_;rintro r79 K80 ⟨rfl,rfl⟩;refine au 0 ?_;rw [x_ask];refine au 235556661 ?_;refine bC [(0,_),(s,_),(h,_),(e,_),(j1,_),(j19,_)] ?_;refine au 4006804 ?_;refine bD Z Z Z Z ((zem hT (b:=exB) (m:=⟨2,2,7⟩) x_len.1 x_len.2).mono (fun _ _ h=>agr3 (or2 h wq) x_mc x_mne)) ?_;rintro r82 K83 ⟨s7,h7,e7,rfl,rfl⟩;refine au 220661 ?_;intro j30 hj30;refine au 235170 ?_;refine bC [(0,_),(s,_),(h,_),(e,_),(j1,_),(j19,_),(s7,_),(h7,_),(e7,_),(j30,_)] ?_;refine au 6804 ?_;refine bD Z Z Z Z (uV hT (b:=exM) (s:=s7) (h:=h7) (e:=e7) dQ dQ) ?_;rintro r85 K86 ⟨rfl,rfl⟩;refine au 0 ?_;rw [x_mc,if_pos rfl,x_mst];refine au 2355661 ?_;refine bC [(0,_),(s,_),(h,_),(e,_),(j1,_),(j19,_),(s7,_),(h7,_),(e7,_),(j30,_)] ?_;refine au 6804 ?_;refine bD Z Z Z Z ((ze4 hT (b:=exM) (s:=s7) (h:=h7) (e:=e7) dQ dQ).mono (fun _ _ h=>or3 h x_mc x_mne)) ?_;rintro r88 K89 ⟨rfl,rfl⟩;refine au 0 ?_;rw [ziP];refine au 235170661 ?_;refine bC [(0,_),(s,_),(h,_),(e,_),(j1,_),(j19,_),(j30,_)] ?_;refine bL [0,1,2,3,4,6,5,7] ?_;refine ad [[12,1]] ?_;refine bQ (pend':=[⟨0,[1],[(_,_)]⟩]) [] Z Z Z Z Z (to_ok hT) (fun r91 K92 h93=>⟨?_,?_⟩)
   ·rcases h93 with ⟨rfl,rfl⟩
    all_goals simp
   obtain ⟨rfl,rfl⟩:=h93;try simp only [cA]
   refine bS tQ ?_;refine bQ (pend':=[]) [325,326] Z Z Z Z Z ((zeM hT (b:=exB) (n:=0) (x:=⟨1,5⟩) x_len.1 x_len.2).mono (fun _ _ h=>agr3 (or4 h x_d1) x_dc x_dne)) (fun r94 K95 h96=>⟨?_,?_⟩)
   ·rcases h96 with ⟨s8,h8,e8,rfl,rfl⟩
    all_goals simp
   obtain ⟨s8,h8,e8,rfl,rfl⟩:=h96;try simp only [cA]
   refine bS tQ ?_;refine ad [[1,327],[5,324],[5,324]] ?_;refine TD.s (pend':=[⟨5,[324],[]⟩]) [30,328] Z Z (zX Z Z zi.h Z Z mQ Z) ?_;refine ad [[13,329],[14]] ?_;refine au 2 ?_;refine bC [(0,_),(s,_),(h,_),(e,_),(j1,_),(j19,_),(j30,_),(s8,_),(h8,_),(e8,_)] ?_;refine au 6804 ?_;refine bD Z Z Z Z ((za6 hT (b:=exD) (s:=s8) (h:=h8) (e:=e8) (n:=0) dQ dQ (by rw [x_dst]; decide)).mono (fun _ _ h=>or3 h x_dth x_dne)) ?_;rintro r97 K98 ⟨js9,zs9,rfl,rfl⟩;refine au 0 ?_;rw [ziN];refine au 2355661 ?_;refine bC [(0,_),(s,_),(h,_),(e,_),(j1,_),(j19,_),(js9,_)] ?_;refine bL [0,1,2,3,4,5,6] ?_;refine ad [[12,1]] ?_;refine bQ (pend':=[⟨0,[1],[(_,_)]⟩]) [] Z Z Z Z Z (to_ok hT) (fun r100 K101 h102=>⟨?_,?_⟩)
   ·rcases h102 with ⟨rfl,rfl⟩
    all_goals simp
   obtain ⟨rfl,rfl⟩:=h102;try simp only [cA]
   refine bS tQ ?_;refine bQ (pend':=[]) [336,337] Z Z Z Z Z ((zeM hT (b:=exB) (n:=1) (x:=⟨1,2⟩) x_len.1 x_len.2).mono (fun _ _ h=>or4c h x_d2)) (fun r103 K104 h105=>⟨?_,?_⟩)
   ·rcases h105 with ⟨rfl,rfl⟩
    all_goals simp
   obtain ⟨rfl,rfl⟩:=h105;try simp only [cA]
   refine bS tQ ?_;refine ad [[1,338],[5,335],[5,335],[13,340],[14]] ?_;refine au 2 ?_;refine bC [(0,_),(s,_),(h,_),(e,_),(j1,_),(j19,_),(js9,_)] ?_;refine au 4006804 ?_;refine bD Z Z Z Z (zas hT (b:=exB) (m:=⟨0,1,5⟩) dQ) ?_;rintro r106 K107 ⟨e9,rfl,rfl⟩;refine au 400 ?_;refine bD Z Z Z Z (zas hT (b:=exC1) (m:=⟨2,2,6⟩) dQ) ?_;rintro r109 K110 ⟨e10,rfl,rfl⟩;refine au 0 ?_;refine bD Z Z Z Z ((zfK hT (b:=exC) (s:=s) (h:=h) (e:=e10) dQ dQ).mono (fun _ _ h=>orCl h x_cc x_cst (by rw [zd5]; exact fun h=>nomatch h))) ?_;rintro r112 K113 ⟨l0,j10,e11,hcl,rfl,rfl⟩;refine au 0 ?_;rw [zd5] at hcl;cases hcl;refine au 2355661 ?_;refine bC [(0,_),(j19,_),(js9,_),(j10,_)] ?_;refine bL [0,1,2,3,4,5,6,7,8,9,10,11,12,13,14,15,16,17,18,19,20,21,22,23,24,25,26,27,28,29,30,31,32,33,34,35,36,37,38,39,40,41,42,43,44,45,46,47,48,49,50,51,52,53,54,55,56,57] ?_;refine ad [[1,3],[4,350],[1,351],[1,5,352],[4,352,353],[7,352,354],[1,355],[1,7,356],[4,356,357],[7,356,358],[1,359],[1,11,360],[4,360,361],[7,360,362],[1,363],[1,14,364],[4,364,365],[7,364,366],[1,367],[1,16,368],[4,368,369],[7,368,370],[1,371],[1,18,372],[4,372,373],[7,372,374],[1,375],[1,20,376],[4,376,377],[7,376,378],[1,379],[1,28,380],[4,380,381],[7,380,382],[1,383],[1,29,384],[4,384,385],[7,384,386],[1,387],[1,15,388],[4,388,389],[7,388,390],[1,391],[12,19,392]] ?_;refine bQ (pend':=[⟨43,[19,392],[(_,_)]⟩,⟨41,[388,390],[]⟩,⟨40,[388,389],[]⟩,⟨39,[15,388],[]⟩,⟨38,[387],[]⟩,⟨37,[384,386],[]⟩,⟨36,[384,385],[]⟩,⟨35,[29,384],[]⟩,⟨34,[383],[]⟩,⟨33,[380,382],[]⟩,⟨32,[380,381],[]⟩,⟨31,[28,380],[]⟩,⟨30,[379],[]⟩,⟨29,[376,378],[]⟩,⟨28,[376,377],[]⟩,⟨27,[20,376],[]⟩,⟨26,[375],[]⟩,⟨25,[372,374],[]⟩,⟨24,[372,373],[]⟩,⟨23,[18,372],[]⟩,⟨22,[371],[]⟩,⟨21,[368,370],[]⟩,⟨20,[368,369],[]⟩,⟨19,[16,368],[]⟩,⟨18,[367],[]⟩,⟨17,[364,366],[]⟩,⟨16,[364,365],[]⟩,⟨15,[14,364],[]⟩,⟨14,[363],[]⟩,⟨13,[360,362],[]⟩,⟨12,[360,361],[]⟩,⟨11,[11,360],[]⟩,⟨10,[359],[]⟩,⟨9,[356,358],[]⟩,⟨8,[356,357],[]⟩,⟨7,[7,356],[]⟩,⟨6,[355],[]⟩,⟨5,[352,354],[]⟩,⟨4,[352,353],[]⟩,⟨3,[5,352],[]⟩,⟨2,[351],[]⟩,⟨1,[350],[]⟩,⟨0,[3],[]⟩]) [392] Z Z Z Z Z (to_ok hT) (fun r115 K116 h117=>⟨?_,?_⟩)
   ·rcases h117 with ⟨rfl,rfl⟩
    all_goals simp
   obtain ⟨rfl,rfl⟩:=h117;try simp only [cA]
   refine bS tQ ?_;refine bU [392,393,394] Z (zcX Z Z Z Z Z FlatF.h EqG.h) ?_;refine ad [[7,392,395],[1,396],[1,17,397]] ?_;refine bV (pend':=[⟨48,[17,397],[]⟩,⟨46,[392,395],[]⟩,⟨45,[392,393,394],[]⟩,⟨43,[19,392],[(_,_)]⟩,⟨41,[388,390],[]⟩,⟨40,[388,389],[]⟩,⟨39,[15,388],[]⟩,⟨38,[387],[]⟩,⟨37,[384,386],[]⟩,⟨36,[384,385],[]⟩,⟨35,[29,384],[]⟩,⟨34,[383],[]⟩,⟨33,[380,382],[]⟩,⟨32,[380,381],[]⟩,⟨31,[28,380],[]⟩,⟨30,[379],[]⟩,⟨29,[376,378],[]⟩,⟨28,[376,377],[]⟩,⟨27,[20,376],[]⟩,⟨26,[375],[]⟩,⟨25,[372,374],[]⟩,⟨24,[372,373],[]⟩,⟨23,[18,372],[]⟩,⟨22,[371],[]⟩,⟨21,[368,370],[]⟩,⟨20,[368,369],[]⟩,⟨19,[16,368],[]⟩,⟨18,[367],[]⟩,⟨17,[364,366],[]⟩,⟨16,[364,365],[]⟩,⟨15,[14,364],[]⟩,⟨14,[363],[]⟩,⟨13,[360,362],[]⟩,⟨12,[360,361],[]⟩,⟨11,[11,360],[]⟩,⟨10,[359],[]⟩,⟨9,[356,358],[]⟩,⟨8,[356,357],[]⟩,⟨7,[7,356],[]⟩,⟨6,[355],[]⟩,⟨5,[352,354],[]⟩,⟨4,[352,353],[]⟩,⟨3,[5,352],[]⟩,⟨2,[351],[]⟩,⟨1,[350],[]⟩,⟨0,[3],[]⟩]) [397] Z Z Z Z Z (zt (l:=[_]) Z zF.h TyZ.h dQ dQ Z) (fun _=>zu rfl tQ) sQ fun jq1 hjq1=>?_;refine bQ (pend':=[⟨46,[392,395],[]⟩,⟨45,[392,393,394],[]⟩,⟨43,[19,392],[(_,_)]⟩,⟨41,[388,390],[]⟩,⟨40,[388,389],[]⟩,⟨39,[15,388],[]⟩,⟨38,[387],[]⟩,⟨37,[384,386],[]⟩,⟨36,[384,385],[]⟩,⟨35,[29,384],[]⟩,⟨34,[383],[]⟩,⟨33,[380,382],[]⟩,⟨32,[380,381],[]⟩,⟨31,[28,380],[]⟩,⟨30,[379],[]⟩,⟨29,[376,378],[]⟩,⟨28,[376,377],[]⟩,⟨27,[20,376],[]⟩,⟨26,[375],[]⟩,⟨25,[372,374],[]⟩,⟨24,[372,373],[]⟩,⟨23,[18,372],[]⟩,⟨22,[371],[]⟩,⟨21,[368,370],[]⟩,⟨20,[368,369],[]⟩,⟨19,[16,368],[]⟩,⟨18,[367],[]⟩,⟨17,[364,366],[]⟩,⟨16,[364,365],[]⟩,⟨15,[14,364],[]⟩,⟨14,[363],[]⟩,⟨13,[360,362],[]⟩,⟨12,[360,361],[]⟩,⟨11,[11,360],[]⟩,⟨10,[359],[]⟩,⟨9,[356,358],[]⟩,⟨8,[356,357],[]⟩,⟨7,[7,356],[]⟩,⟨6,[355],[]⟩,⟨5,[352,354],[]⟩,⟨4,[352,353],[]⟩,⟨3,[5,352],[]⟩,⟨2,[351],[]⟩,⟨1,[350],[]⟩,⟨0,[3],[]⟩]) [397,398,399] Z Z Z Z Z ((wJ hT (xs:=[1]) (ys:=[1]) (off:=0) (ob:=.cells (([1]++zs9).map intA) 3 false) (fun i x hx=>zcA hx) dQ).mono (fun _ _ h=>trT h rfl)) (fun r118 K119 h120=>⟨?_,?_⟩)
   ·rcases h120 with ⟨rfl,rfl⟩
    all_goals simp
   obtain ⟨rfl,rfl⟩:=h120;try simp only [cA]
   refine bS tQ ?_;refine ad [[7,397,400],[1,401],[1,31,402]] ?_;refine bV (pend':=[⟨53,[31,402],[]⟩,⟨51,[397,400],[]⟩,⟨46,[392,395],[]⟩,⟨45,[392,393,394],[]⟩,⟨43,[19,392],[(_,_)]⟩,⟨41,[388,390],[]⟩,⟨40,[388,389],[]⟩,⟨39,[15,388],[]⟩,⟨38,[387],[]⟩,⟨37,[384,386],[]⟩,⟨36,[384,385],[]⟩,⟨35,[29,384],[]⟩,⟨34,[383],[]⟩,⟨33,[380,382],[]⟩,⟨32,[380,381],[]⟩,⟨31,[28,380],[]⟩,⟨30,[379],[]⟩,⟨29,[376,378],[]⟩,⟨28,[376,377],[]⟩,⟨27,[20,376],[]⟩,⟨26,[375],[]⟩,⟨25,[372,374],[]⟩,⟨24,[372,373],[]⟩,⟨23,[18,372],[]⟩,⟨22,[371],[]⟩,⟨21,[368,370],[]⟩,⟨20,[368,369],[]⟩,⟨19,[16,368],[]⟩,⟨18,[367],[]⟩,⟨17,[364,366],[]⟩,⟨16,[364,365],[]⟩,⟨15,[14,364],[]⟩,⟨14,[363],[]⟩,⟨13,[360,362],[]⟩,⟨12,[360,361],[]⟩,⟨11,[11,360],[]⟩,⟨10,[359],[]⟩,⟨9,[356,358],[]⟩,⟨8,[356,357],[]⟩,⟨7,[7,356],[]⟩,⟨6,[355],[]⟩,⟨5,[352,354],[]⟩,⟨4,[352,353],[]⟩,⟨3,[5,352],[]⟩,⟨2,[351],[]⟩,⟨1,[350],[]⟩,⟨0,[3],[]⟩]) [402] Z Z Z Z Z (zt (l:=[_,_]) Z zF.h TyZ.h dQ dQ Z) (fun _=>zu rfl tQ) sQ fun jq2 hjq2=>?_;refine bQ (pend':=[⟨51,[397,400],[]⟩,⟨46,[392,395],[]⟩,⟨45,[392,393,394],[]⟩,⟨43,[19,392],[(_,_)]⟩,⟨41,[388,390],[]⟩,⟨40,[388,389],[]⟩,⟨39,[15,388],[]⟩,⟨38,[387],[]⟩,⟨37,[384,386],[]⟩,⟨36,[384,385],[]⟩,⟨35,[29,384],[]⟩,⟨34,[383],[]⟩,⟨33,[380,382],[]⟩,⟨32,[380,381],[]⟩,⟨31,[28,380],[]⟩,⟨30,[379],[]⟩,⟨29,[376,378],[]⟩,⟨28,[376,377],[]⟩,⟨27,[20,376],[]⟩,⟨26,[375],[]⟩,⟨25,[372,374],[]⟩,⟨24,[372,373],[]⟩,⟨23,[18,372],[]⟩,⟨22,[371],[]⟩,⟨21,[368,370],[]⟩,⟨20,[368,369],[]⟩,⟨19,[16,368],[]⟩,⟨18,[367],[]⟩,⟨17,[364,366],[]⟩,⟨16,[364,365],[]⟩,⟨15,[14,364],[]⟩,⟨14,[363],[]⟩,⟨13,[360,362],[]⟩,⟨12,[360,361],[]⟩,⟨11,[11,360],[]⟩,⟨10,[359],[]⟩,⟨9,[356,358],[]⟩,⟨8,[356,357],[]⟩,⟨7,[7,356],[]⟩,⟨6,[355],[]⟩,⟨5,[352,354],[]⟩,⟨4,[352,353],[]⟩,⟨3,[5,352],[]⟩,⟨2,[351],[]⟩,⟨1,[350],[]⟩,⟨0,[3],[]⟩]) [402,403,404] Z Z Z Z Z ((wJ hT (xs:=[0,1]) (ys:=[0,1]) (off:=0) (ob:=.cells (([0,1]:List Int).map intA) e11 false) (fun i x hx=>yi hx rfl) dQ).mono (fun _ _ h=>trT h rfl)) (fun r121 K122 h123=>⟨?_,?_⟩)
   ·rcases h123 with ⟨rfl,rfl⟩
    all_goals simp
   obtain ⟨rfl,rfl⟩:=h123;try simp only [cA]
   refine bS tQ ?_;refine ad [[7,402,405],[13,406],[14]] ?_;refine au 0 ?_;refine bB hret [(0,_)] ?_;exact ⟨rfl,rfl⟩
end Go.Vel
end
