/- Texts for the statements of chapter 8: what all of them need, part 10. It holds of every program, tape and world that the statements name, as each theorem says. -/
import Derived.Test.YtfplagcfmdkakaaGreatDoorN5
import Derived.Test.YtfplagcfmdkakaaGreatDoorN7
import Derived.Test.YtfplagcfmdkakaaGreatDoorN8
section
set_option linter.all false
set_option maxRecDepth 20000
set_option maxHeartbeats 60000000
open Go.Proofs.Tryz renaming prog -> tp
open List renaming getElem?_eq_getElem -> lA, nil_append -> lC, getElem?_eq_some_iff -> lD, getD_eq_getElem?_getD -> lE, length_append -> lF, getElem?_append_left -> lG, perm_append_comm -> lH, mem_cons -> lI, length_map -> lJ, eq_nil_of_length_eq_zero -> lK, map_append -> lM, mem_of_getElem? -> lN, append_nil -> lR, mem_singleton -> lS, mem_append -> lT, getElem?_eq_none -> lU, take_length -> lW, mem_map -> lY, length_cons -> lZ, replicate -> mB
open List.Mem renaming head -> mC
open Nat renaming le_refl -> mL, zero_le -> mN, zero_add -> mO, lt_or_ge -> mR
open Bool renaming not_eq_true' -> mV, not_eq_false' -> mW, and_eq_true -> mX
open Int renaming toNat_natCast -> mZ
open Go.Vel.TK renaming maskL -> bA, rt -> bB, kp -> bC, cl -> bD, loopN -> bE, sp -> bF, na -> bG, a -> bH, newR -> bI, dq -> bL, frzRow -> bY
open Go.Vel.TD renaming cl -> bQ, norm -> bS, y -> bT, z -> bU, cnewR -> bV
namespace Go.Vel
open Go Go.Conc Go.Proofs
def badM (b:RBk) (k:Nat):Bool:=(zj (onlyB b k)).isEmpty
def clashL (b:RBk):Nat->Option (List Int)
 | 0=>none
 | k+1=>if badM b k=true then (match clashL b k with
  | none=>some (zt k b.measures.length)
  | some l=>if yw (zt k b.measures.length) l=true then some (zt k b.measures.length) else some l) else clashL b k
def clashM (b:RBk):Option (List Int):=clashL b (2 ^ b.measures.length)
def BestL (jo:Nat):Option (List Int)->KV->Prop
 | none,K=>K=[(jo,.cells [.v (.slice none 0 0),zF false] 162 true)]
 | some l,K=>∃ j0 e0,K=[(jo,.cells [.sl j0 0 l.length,zF true] 162 true),(j0,.cells (l.map intA) e0 false)]
theorem zmV {m:Nat} (hm:m<=3):IntKind.i64.wrap (1*2 ^ ((m:Nat):Int).toNat)=((2 ^ m:Nat):Int):=by
 have:m=0\/m=1\/m=2\/m=3:=by omega
 rcases this with rfl | rfl | rfl | rfl <;> decide
instance:zf tp 162 0 0 false 1:={}
instance:zf tp 162 1 1 false 1:={}
instance:TyZA tp 162 [.v (.slice none 0 0),.v (.bool false)]:={}
theorem zgV {main T} (hT:zm tp main T) {gm} {jo jl:Nat} {xs:List Int} {e1:TypeId} :
  zq tp T gm 82 [.ptr jo 0,.sl jl 0 xs.length,.fn 83 [] []] [(jo,.cells [.v (.slice none 0 0),zF false] 162 true),(jl,.cells (xs.map intA) e1 false)] (fun r K'=>K'=[(jo,.cells [.sl jl 0 xs.length,zF true] 162 true),(jl,.cells (xs.map intA) e1 false)]):=by
 refine zl 27 hT Tryz.func82 fun Y hret=>?_;refine au 142 ?_;refine bH Z (kD Z Z) ?_;refine au 1300690670 ?_;refine bF 11 (fun g0_6=>?_) (fun g0_6=>?_)
 ·refine au 111418032608888888 ?_;refine bH Z (kD Z Z) ?_;refine au 170670 ?_;refine bH Z (kD Z Z) ?_;refine au 3170670 ?_;refine TK.rt0 hret [(jo,_),(jl,_)] ?_;exact rfl
 simp at g0_6
theorem zgW {main T} (hT:zm tp main T) {gm} {jo jl j0:Nat} {xs ys:List Int} {e1 e2:TypeId} (hl:xs.length<=1000) :
  zq tp T gm 82 [.ptr jo 0,.sl jl 0 xs.length,.fn 83 [] []] [(jo,.cells [.sl j0 0 ys.length,zF true] 162 true),(j0,.cells (ys.map intA) e2 false),(jl,.cells (xs.map intA) e1 false)] (fun r K'=>(yw xs ys=true/\K'=[(jo,.cells [.sl jl 0 xs.length,zF true] 162 true),(jl,.cells (xs.map intA) e1 false)])\/(yw xs ys=false/\K'=[(jo,.cells [.sl j0 0 ys.length,zF true] 162 true),(j0,.cells (ys.map intA) e2 false)])):=by
 refine zl 27 hT Tryz.func82 fun Y hret=>?_;refine au 142 ?_;refine bH Z (kD Z Z) ?_;refine au 1300690670 ?_;refine bF 11 (fun g0_6=>?_) (fun g0_6=>?_)
 ·simp at g0_6
 refine au 111 ?_;refine bH Z (kD Z Z) ?_;refine au 690670 ?_;refine TK.callF' Z Z Z Z Z (yI Cal.h (u4 hT hl)) (by repeat (first | exact Split.none _ | exact Split.all _ | (apply Split.rem; repeat (first | exact Rem.head | apply Rem.tail)) | apply Split.right)) fun r1 K2 h3=>?_;obtain ⟨rfl,rfl⟩:=h3;refine au 93250 ?_;constructor<;>intro hc0
 ·refine au 1114 ?_;refine bH Z (kD Z Z) ?_;refine au 170670 ?_;refine bH Z (kD Z Z) ?_;refine au 3170670 ?_;refine TK.rt0 hret [(jo,_),(jl,_)] ?_;exact .inl ⟨hc0,rfl⟩
 refine au 120 ?_;refine TK.rt0 hret [(jo,_),(j0,_)] ?_;exact .inr ⟨hc0,rfl⟩
theorem zja {main:Bool} {T:Goroutine->Hp->Prop} (hT:zm tp main T)  {b:RBk} {s h e:Nat} (hl:b.seams.length<=100) (hm:b.measures.length<=100) :
  zq tp T gmR 35 [.agg (zA b s h e)] [(0,zx),(s,zk b),(h,zC b),(e,zr b)] (fun r K'=>(zu b≠0/\r=.tup [.v (.slice none 0 0),intA (zu b)]/\K'=[(0,zx),(s,zk b),(h,zC b),(e,zr b)])\/(zu b=0/\zj b≠[]/\r=.tup [.v (.slice none 0 0),intA 0]/\K'=[(0,zx),(s,zk b),(h,zC b),(e,zr b)])\/(zu b=0/\zj b=[]/\clashM b=none/\r=.tup [.v (.slice none 0 0),intA 0]/\K'=[(0,zx),(s,zk b),(h,zC b),(e,zr b)])\/(zu b=0/\zj b=[]/\∃ l j0 e0,clashM b=some l/\r=.tup [.sl j0 0 l.length,intA 0]/\K'=(j0,.cells (l.map intA) e0 false)::[(0,zx),(s,zk b),(h,zC b),(e,zr b)])):=by
 refine zl 41 hT Tryz.func35 fun Y hret=>?_;refine au 21042 ?_;intro jb hjb;refine au 68042355 ?_;refine bD Z Z Z Z (uX hT (Kx:=[]) hl hm) ?_;rintro r1 K2 h3;rcases h3 with ⟨⟨hbar,rfl⟩ | ⟨hbar,rfl⟩,rfl⟩
 ·refine au 220661 ?_;intro j4 hj4;refine au 937142235170 ?_;constructor<;>intro hc0
  ·exact absurd hc0 sQ
  have hbb:=zY hbar;have hml:=hbb.mes.len;have hsh:=zmV hml;have h2m:2 ^ b.measures.length<=8:=Nat.pow_le_pow_right (n:=2) dQ hml;refine au 680422120 ?_;refine TK.clE Z Z Z Z (zgj hT hbb) ?_;refine au 93 ?_;constructor<;>intro hc1
  ·refine au 35542 ?_;refine bB hret [(0,_),(s,_),(h,_),(e,_)] ?_;exact .inr (.inl ⟨hbar,fun h=>by rw [h] at hc1; simp at hc1,rfl,rfl⟩)
  have hnil:zj b=[]:=by cases hh:zj b with | nil=>rfl | cons x r=>rw [hh] at hc1; simp at hc1
  refine au 22042120 ?_;intro jo hjo;refine au 2806906704223 ?_;refine bH Z (q_shL Z Z Z ⟨by omega,by show ((b.measures.length:Nat):Int)<=64; omega⟩ (r:=((2 ^ b.measures.length:Nat):Int)) hsh) ?_;refine au 13031 ?_;refine bA [1,2,3,4,6,23,24] ?_;refine bC ((0,_)::(s,_)::(h,_)::(e,_)::(j4,_)::(jb,_)::[(jo,_)]) ?_;refine bE (fun n env K=>∃ (i:Nat) (Kb:KV),n=2 ^ b.measures.length - i/\i<=2 ^ b.measures.length/\BestL jo (clashL b i) Kb/\env=.any::.ptr jb 0::.v (.slice none 0 0)::intA 0::.ptr j4 0::.any::.ptr jo 0::naL 16 (.v (.int .i64 ((2 ^ b.measures.length:Nat):Int))::intA i::naL 16 [])/\K=(0,zx)::(s,zk b)::(h,zC b)::(e,zr b)::(j4,.cells (zA b s h e) 117 true)::(jb,.cells (zA b s h e) 26 true)::Kb) (2 ^ b.measures.length) ⟨0,_,rfl,mN _,rfl,rfl,rfl⟩ fun n env K hI hnext=>?_;obtain ⟨i,Kb,rfl,hi,hbl,rfl,rfl⟩:=hI;refine bG nQ ?_;refine au 923742 ?_;constructor<;>intro hc2
  ·have hil:i<2 ^ b.measures.length:=Int.ofNat_lt.1 (of_decide_eq_true hc2);have hbo:=zjW hbb i;refine au 168042351421302120 ?_;refine bD Z Z Z Z (zlp hT (mask:=i) hml oQ) ?_ (hs:=(.right (.right (.right (.left (.none _))))));rintro r7 K8 ⟨jl,jm,rfl,rfl⟩;refine au 220661 ?_;intro j8 hj8;refine au 235170 ?_;refine TK.unrowAt (c:=j8) (i:=6) (j:=jm) Z mQ uQ ?_;refine bY (j:=jm) ?_;refine au 6804 ?_;refine bD Z Z Z Z (zgj hT hbo (s:=s) (h:=h) (e:=jm)) ?_ (hs:=(.rem (.tail (.tail (.tail (.tail (.tail .head))))) (.rem (.tail (.tail (.tail (.tail (.tail .head))))) (.rem (.tail (.tail .head)) (.none _)))));rintro r10 K11 ⟨rfl,rfl⟩;refine au 93300 ?_;constructor<;>intro hc3
   ·have hbad:badM b i=true:=by simpa [badM] using hc3
    refine TK.asSl 9 Z mQ ?_;refine bY (j:=jl) ?_;refine au 4 ?_;rcases hcl:clashL b i with _ | l0
    ·rw [hcl] at hbl;have hbl:Kb=[(jo,.cells [.v (.slice none 0 0),zF false] 162 true)]:=hbl;subst hbl;refine bH Z (zh Z Z) ?_;refine bD Z Z Z Z (zgV hT) ?_;rintro r13 K14 rfl;refine au 3123041403 ?_;refine bA [1,2,3,4,6,23,24] ?_;refine bC ((0,_)::(s,_)::(h,_)::(e,_)::(j4,_)::(jb,_)::[(jo,_),(jl,_)]) ?_;exact hnext _ _ _ oQ ⟨i+1,_,rfl,oQ,by unfold clashL; rw [if_pos hbad,hcl]; exact ⟨jl,3,rfl⟩,rfl,rfl⟩
    ·rw [hcl] at hbl;obtain ⟨j0,e0,rfl⟩:=hbl;refine bH Z (zh Z Z) ?_;refine bD Z Z Z Z (zgW hT (by have:=wY i b.measures.length; omega)) ?_;rintro r16 K17 h18;rcases h18 with ⟨hsm,rfl⟩ | ⟨hsm,rfl⟩
     ·refine au 3123041403 ?_;refine bA [1,2,3,4,6,23,24] ?_;refine bC ((0,_)::(s,_)::(h,_)::(e,_)::(j4,_)::(jb,_)::[(jo,_),(jl,_)]) ?_;exact hnext _ _ _ oQ ⟨i+1,_,rfl,oQ,by unfold clashL; rw [if_pos hbad,hcl]; dsimp only; rw [if_pos hsm]; exact ⟨jl,3,rfl⟩,rfl,rfl⟩
     ·refine au 3123041403 ?_;refine bA [1,2,3,4,6,23,24] ?_;refine bC ((0,_)::(s,_)::(h,_)::(e,_)::(j4,_)::(jb,_)::[(jo,_),(j0,_)]) ?_;exact hnext _ _ _ oQ ⟨i+1,_,rfl,oQ,by unfold clashL; rw [if_pos hbad,hcl]; dsimp only; rw [if_neg (by rw [hsm]; decide)]; exact ⟨j0,e0,rfl⟩,rfl,rfl⟩
   have hbad:¬ badM b i=true:=fun h=>by simp [badM] at h; rw [h] at hc3; simp at hc3
   refine au 312304140120 ?_;refine bA [1,2,3,4,6,23,24] ?_;refine bC ((0,_)::(s,_)::(h,_)::(e,_)::(j4,_)::(jb,_)::Kb) ?_;exact hnext _ _ _ oQ ⟨i+1,_,rfl,oQ,by unfold clashL; rw [if_neg hbad]; exact hbl,rfl,rfl⟩
  have hil:¬ i<2 ^ b.measures.length:=fun h=>of_decide_eq_false hc2 (Int.ofNat_lt.2 h);obtain rfl:i=2 ^ b.measures.length:=by omega
  refine au 42160 ?_;rcases hbst:clashL b (2 ^ b.measures.length) with _ | l0
  ·rw [hbst] at hbl;have hbl:Kb=[(jo,.cells [.v (.slice none 0 0),zF false] 162 true)]:=hbl;subst hbl;refine bH Z (za Z Z zf.h dQ) ?_;refine au 355690 ?_;refine bB hret [(0,_),(s,_),(h,_),(e,_)] ?_;exact .inr (.inr (.inl ⟨hbar,hnil,hbst,rfl,rfl⟩))
  ·rw [hbst] at hbl;obtain ⟨j0,e0,rfl⟩:=hbl;refine bH Z (za Z Z zf.h dQ) ?_;refine au 355690 ?_;refine bB hret [(j0,_),(0,_),(s,_),(h,_),(e,_)] ?_;exact .inr (.inr (.inr ⟨hbar,hnil,l0,j0,e0,hbst,rfl,rfl⟩))
 ·refine au 220661 ?_;intro j4 hj4;refine au 937142235170 ?_;constructor<;>intro hc0
  ·
   refine au 355142 ?_;refine bB hret [(0,_),(s,_),(h,_),(e,_)] ?_;exact .inl ⟨hbar,rfl,rfl⟩
  exact absurd hbar (by simpa using hc0)
def greatM (b:RBk):Bool:=decide (b.seams.length>20)||decide (b.shrinks.length>20)||decide (b.measures.length>20)
def exB:RBk:=⟨12,15,8,2,[⟨0,3,2,1,false⟩,⟨5,2,1,4,false⟩,⟨9,4,3,0,false⟩],[⟨0,1⟩,⟨0,0⟩,⟨0,1⟩],[]⟩
theorem zaO {α:Type} {xs ys:List α} {i:Nat} {x y:α} (hx:xs[i]? =some x) (hy:ys[i]? =some y) (ht:xs.take i=ys.take i) (he:x=y):xs.take (i+1)=ys.take (i+1):=by
 rw [yC hx,yC hy,ht,he]
theorem zbe {α:Type} {xs ys:List α} (hl:xs.length=ys.length) (ht:xs.take xs.length=ys.take xs.length):xs=ys:=by
 rwa [lW,hl,lW] at ht
theorem ne_at {α:Type} {xs ys:List α} {i:Nat} {x y:α} (hx:xs[i]? =some x) (hy:ys[i]? =some y) (hne:x≠y):xs≠ys:=fun h=>by rw [h,hy] at hx; exact hne (Option.some.inj hx).symm
instance:BlOf tp 47 [(0,1),(1,1),(2,1),(3,1),(4,1)]:={}
theorem zjw {main T} (hT:zm tp main T) {gm} {b:RBk} {s h e:Nat} :
  zq tp T gm 11 [.agg (zA b s h e)] [] (fun r K'=>r=zF (greatM b)/\K'=[]):=by
 refine zl 19 hT Tryz.func11 fun Y hret=>?_;refine au 21042 ?_;intro jb hjb;refine au 172806906704235 ?_;refine bF 7 (fun g1_5=>?_) (fun g1_5=>?_)
 ·refine au 35260888812608888 ?_;refine bB hret [] ?_;exact ⟨by unfold greatM; rw [show decide (b.seams.length>20)=true by simp at g1_5; simp; omega]; rfl,rfl⟩
 refine au 12507280690670 ?_;refine bF 13 (fun g1_11=>?_) (fun g1_11=>?_)
 ·refine au 352608888 ?_;refine bB hret [] ?_;exact ⟨by unfold greatM; rw [show decide (b.shrinks.length>20)=true by simp at g1_11; simp; omega]; simp,rfl⟩
 refine au 352507280690670 ?_;refine bB hret [] ?_;exact ⟨by unfold greatM; rw [show decide (b.seams.length>20)=false by simp at g1_5; simp; omega,show decide (b.shrinks.length>20)=false by simp at g1_11; simp; omega,Bool.false_or,Bool.false_or]; exact congrArg _ (congrArg _ (decide_eq_decide.2 oQ)),rfl⟩
theorem zeS {main T} (hT:zm tp main T) {gm} {j off j2:Nat} {ob:AObj} {xs ys:List Int} (hI:∀ (i:Nat) (x:Int),xs[i]? =some x->takeO ob (off+(i:Int).toNat*1) 1=some [intA x]) (hl:xs.length<=1000) :
  zq tp T gm 68 [.sl j off xs.length,.row j2 ys.length] [(j,ob),(j2,.row (ys.map intA) 3 1)] (fun r K'=>r=zF (decide (xs=ys))/\K'=[(j,ob),(j2,.row (ys.map intA) 3 1)]):=by
 refine zl 26 hT Tryz.func68 fun Y hret=>?_;refine au 937280128014223542 ?_;constructor<;>intro hc0
 ·refine au 3542 ?_;refine bB hret [(j,_),(j2,_)] ?_;exact ⟨by rw [decide_eq_false (fun h=>by rw [h] at hc0; simp at hc0)],rfl⟩
 have hll:xs.length=ys.length:=by simp at hc0; omega
 refine au 13035422120 ?_;refine bA [0,1,4,5] ?_;refine bE (fun n env K=>∃ (i:Nat),n=xs.length - i/\i<=xs.length/\xs.take i=ys.take i/\env=.sl j off xs.length::.row j2 ys.length::naL 2 (zF false::intA i::naL 20 [])/\K=[(j,ob),(j2,.row (ys.map intA) 3 1)]) xs.length ⟨0,rfl,mN _,by simp,rfl,rfl⟩ fun n env K hI2 hnext=>?_;obtain ⟨i,rfl,hi,hta,rfl,rfl⟩:=hI2;refine bG nQ ?_;refine au 93728011422 ?_;constructor<;>intro hc1
 ·have hil:i<xs.length:=by simp at hc1; omega
  obtain ⟨x,hx⟩:∃ x,xs[i]? =some x:=⟨_,lA hil⟩;obtain ⟨y,hy⟩:∃ y,ys[i]? =some y:=⟨_,lA oQ⟩;refine au 21302120 ?_;refine bL [0,1,2,3,4,5,6,7,8] ?_;refine ad [[1,0],[1,5],[2,17,18]] ?_;refine bT [19] Z (hq:=zg Z Z zd.h (mC _) (hI i x hx)) (h:=?_);refine ad [[1,1],[1,5]] ?_;refine bT [21,22] Z (hq:=yZ Z Z Z zz.h (mC _) oQ oQ) (h:=?_);refine bT [23] Z (hq:=zg Z Z zd.h (mC _) (za7 hy Z)) (h:=?_);refine ad [[4,20,24],[14]] ?_;refine au 9 ?_;constructor<;>intro hc2
  ·refine au 3542 ?_;refine bB hret [(j,_),(j2,_)] ?_;exact ⟨by rw [decide_eq_false (ne_at hx hy (fun h=>by rw [h] at hc2; simp at hc2))],rfl⟩
  refine au 3523014140120 ?_;refine bA [0,1,4,5] ?_;refine bC [(j,_),(j2,_)] ?_;exact hnext _ _ _ oQ ⟨i+1,rfl,oQ,zaO hx hy hta (by simp at hc2; exact hc2),rfl,rfl⟩
 obtain rfl:i=xs.length:=by simp at hc1; omega
 refine au 3542160 ?_;refine bB hret [(j,_),(j2,_)] ?_;exact ⟨by rw [decide_eq_true (zbe hll hta)],rfl⟩
theorem zcL {main T} (hT:zm tp main T) {gm} {j off j2:Nat} {ob:AObj} {xs ys:List (Int×Int)} (hI:∀ (i:Nat) (x:Int×Int),xs[i]? =some x->takeO ob (off+(i:Int).toNat*2) 2=some (pairC x)) (hl:xs.length<=1000) :
  zq tp T gm 24 [.sl j off xs.length,.row j2 ys.length] [(j,ob),(j2,.row (ys.flatMap pairC) 74 2)] (fun r K'=>r=zF (decide (xs=ys))/\K'=[(j,ob),(j2,.row (ys.flatMap pairC) 74 2)]):=by
 refine zl 26 hT Tryz.func24 fun Y hret=>?_;refine au 937280128014223542 ?_;constructor<;>intro hc0
 ·refine au 3542 ?_;refine bB hret [(j,_),(j2,_)] ?_;exact ⟨by rw [decide_eq_false (fun h=>by rw [h] at hc0; simp at hc0)],rfl⟩
 have hll:xs.length=ys.length:=by simp at hc0; omega
 refine au 13035422120 ?_;refine bA [0,1,4,5] ?_;refine bE (fun n env K=>∃ (i:Nat),n=xs.length - i/\i<=xs.length/\xs.take i=ys.take i/\env=.sl j off xs.length::.row j2 ys.length::naL 2 (zF false::intA i::naL 20 [])/\K=[(j,ob),(j2,.row (ys.flatMap pairC) 74 2)]) xs.length ⟨0,rfl,mN _,by simp,rfl,rfl⟩ fun n env K hI2 hnext=>?_;obtain ⟨i,rfl,hi,hta,rfl,rfl⟩:=hI2;refine bG nQ ?_;refine au 93728011422 ?_;constructor<;>intro hc1
 ·have hil:i<xs.length:=by simp at hc1; omega
  obtain ⟨x,hx⟩:∃ x,xs[i]? =some x:=⟨_,lA hil⟩;obtain ⟨y,hy⟩:∃ y,ys[i]? =some y:=⟨_,lA oQ⟩;refine au 21302120 ?_;refine bL [0,1,2,3,4,5,6,7,8] ?_;refine ad [[1,0],[1,5],[2,17,18]] ?_;refine bT [19] Z (hq:=zI Z Z zd.h (mC _) (hI i x hx)) (h:=?_);refine ad [[1,1],[1,5]] ?_;refine bT [21,22] Z (hq:=yZ Z Z Z zz.h (mC _) oQ oQ) (h:=?_);refine bT [23] Z (hq:=zI Z Z zd.h (mC _) (uG (c:=2) (f:=pairC) (fun _=>rfl) hy rfl dQ)) (h:=?_);refine bU [20,24] Z (vv Z Z Z Z Z FlatF.h EqG.h) ?_;refine ad [[14]] ?_;refine au 9 ?_;constructor<;>intro hc2
  ·refine au 3542 ?_;refine bB hret [(j,_),(j2,_)] ?_;exact ⟨by rw [decide_eq_false (ne_at hx hy (fun h=>by rw [h] at hc2; simp at hc2))],rfl⟩
  refine au 3523014140120 ?_;refine bA [0,1,4,5] ?_;refine bC [(j,_),(j2,_)] ?_;exact hnext _ _ _ oQ ⟨i+1,rfl,oQ,zaO hx hy hta (by simp at hc2; exact Prod.ext hc2.1 hc2.2),rfl,rfl⟩
 obtain rfl:i=xs.length:=by simp at hc1; omega
 refine au 3542160 ?_;refine bB hret [(j,_),(j2,_)] ?_;exact ⟨by rw [decide_eq_true (zbe hll hta)],rfl⟩
theorem w9 {main T} (hT:zm tp main T) {gm} {j off j2:Nat} {ob:AObj} {xs ys:List Int} (hI:∀ (i:Nat) (x:Int),xs[i]? =some x->takeO ob (off+(i:Int).toNat*1) 1=some [intA x]) (hl:xs.length<=1000) :
  zq tp T gm 25 [.sl j off xs.length,.row j2 ys.length] [(j,ob),(j2,.row (ys.map intA) 3 1)] (fun r K'=>r=zF (decide (xs=ys))/\K'=[(j,ob),(j2,.row (ys.map intA) 3 1)]):=by
 refine zl 8 hT Tryz.func25 fun Y hret=>?_;refine au 11423542 ?_;refine TK.clE Z Z Z Z (zeS hT hI hl) ?_;refine au 35 ?_;refine bB hret [(j,_),(j2,_)] ?_;exact ⟨rfl,rfl⟩
theorem to_ok {main T} (hT:zm tp main T) {gm} {a z:Int} :
  zq tp T gm 26 [intA a,intA z] [] (fun r K'=>r=.agg [intA a,intA z]/\K'=[]):=by
 refine zl 8 hT Tryz.func26 fun Y hret=>?_;refine au 22042 ?_;intro j1 hj1;refine au 317039011423 ?_;refine bB hret [] ?_;exact ⟨rfl,rfl⟩
theorem zmG {main T} (hT:zm tp main T) {gm} {n:Int} :
  zq tp T gm 51 [intA n] [] (fun r K'=>r=.agg [intA n,intA n]/\K'=[]):=by
 refine zl 6 hT Tryz.func51 fun Y hret=>?_;refine au 22042 ?_;intro j1 hj1;refine au 11423 ?_;refine TK.clE Z Z Z Z (to_ok hT) ?_;refine au 3170 ?_;refine bB hret [] ?_;exact ⟨rfl,rfl⟩
theorem zgJ {main T} (hT:zm tp main T) {gm}  :
  zq tp T gm 15 [] [] (fun r K'=>∃ s h e,r=.agg (zA exB s h e)/\K'=[(s,zk exB),(h,zC exB),(e,zr exB)]):=by
 refine zl 10 hT Tryz.func15 fun Y hret=>?_;refine au 22042 ?_;intro j0 hj0;refine au 420420420423 ?_;refine bI Z Z Z (zp (l:=[_,_,_,_,_,_,_,_,_,_,_,_,_,_,_]) Z zz.h TyZ.h dQ dQ Z) (fun _=>zn rfl tQ) fun js hjs=>?_;refine TK.clE Z Z Z Z (to_ok hT) ?_;refine au 0 ?_;refine TK.clE Z Z Z Z (zmG hT) ?_;refine au 0 ?_;refine TK.clE Z Z Z Z (to_ok hT) ?_;refine au 0 ?_;refine bI Z Z Z (zp (l:=[_,_,_,_,_,_]) Z zz.h TyZ.h dQ dQ Z) (fun _=>zn rfl tQ) fun jh hjh=>?_;refine au 170440 ?_;refine TK.unrowAt (c:=j0) (i:=4) (j:=js) Z mQ uQ ?_;refine bY (j:=js) ?_;refine TK.unrowAt (c:=j0) (i:=5) (j:=jh) Z mQ uQ ?_;refine bY (j:=jh) ?_;refine TK.virtAt (j:=j0) (i:=6) (e:=88) (size:=3) (x:=none) (l:=[intA 12,intA 15,intA 8,intA 2,.sl js 0 3,.sl jh 0 3,.v (.slice none 0 0)]) (by rfl) (fun _=>uQ) fun je hje=>?_;refine TK.unrowAt (c:=j0) (i:=6) (j:=je) Z mQ uQ ?_;refine bY (j:=je) ?_;refine au 3 ?_;refine bB hret [(js,_),(jh,_),(je,_)] ?_;exact ⟨js,jh,je,rfl,rfl⟩
theorem zbk {main T} (hT:zm tp main T) {gm} {b:RBk} {s h e:Nat} {m:RMeas} (hm:b.measures.length<=100) :
  zq tp T gm 36 [.agg (zA b s h e),.agg (yd m)] [(e,zr b)] (fun r K'=>∃ je,r=.agg (zA (yj b m) s h je)/\K'=[(je,zr (yj b m)),(e,zr b)]):=by
 refine zl 14 hT Tryz.func36 fun Y hret=>?_;refine au 0 ?_;have hfl:=yz yd 3 (fun _=>rfl) b.measures;refine au 21042 ?_;intro jb hjb;refine au 210 ?_;intro jm hjm;refine au 220 ?_;intro jr hjr;refine au 23 ?_;refine TK.dr [1,2,4,0,3,5,6,7,8] [0,1,2,3,4,5,6,7,8] ?_;refine ad [[3,2],[10,6],[12,3]] ?_;refine TD.c2 (i1:=0) (i2:=5) (pend1:=[⟨4,[3],[(_,_)]⟩,⟨2,[6],[(_,_)]⟩,⟨1,[2],[]⟩]) (pend2:=[⟨2,[6],[(_,_)]⟩,⟨1,[2],[]⟩]) (L1:=[3,5,6,7,8]) (L2:=[0,3,6,7,8]) [] [9] Z Z Z Z Z Z Z ?_ ?_
 ·refine wF Z (zp (l:=[]) Z zz.h TyZ.h dQ dQ Z) (fun _=>zn rfl tQ) sQ fun j1 hj1=>?_;refine TD.c2 (i1:=3) (i2:=5) (pend1:=[⟨4,[3],[(_,_)]⟩,⟨1,[2],[]⟩]) (pend2:=[⟨2,[6],[(_,_)]⟩,⟨1,[2],[]⟩]) (L1:=[5,6,7,8]) (L2:=[3,6,7,8]) [5,7] [9] Z Z Z Z Z Z Z ?_ ?_
  ·refine zjn (ln:=b.measures.flatMap yd) Z Z ApOf.h Z mQ Z Z Z (fun hp=>wB mQ oQ (kF hfl oQ)) (fun h=>lK oQ) (kv yd (fun _=>rfl) _) (by unfold maxLen; omega) oQ (fun _=>uQ) (fun _=>zn rfl tQ) (fun _=>by simp) fun jc=>?_;simp only [lC,mO];refine bV (pend':=[⟨1,[2],[]⟩]) [9] Z Z Z Z Z (zp (l:=[_,_,_]) Z zz.h TyZ.h dQ dQ Z) (fun _=>zn rfl tQ) sQ fun j2 hj2=>?_;refine TD.capp (pend':=[⟨1,[2],[]⟩]) [8,10] Z Z Z Z Z (a_app Z ApOf.h Z mQ oQ Z (yp (ln:=[_,_,_]) mQ dQ sQ Z) oQ Z (by unfold maxLen; omega) oQ) (fun _=>uQ) (fun _=>zn rfl tQ) (fun _=>sQ) fun je=>?_;refine ad [[3,2]] ?_;refine TD.s (pend':=[]) [11,12] Z Z (zB Z Z zd.h Z Z mQ Z) ?_;refine ad [[14]] ?_;refine au 2 ?_;refine TK.unrowAt (c:=jb) (i:=6) (j:=je) Z mQ uQ ?_;refine bY (j:=je) ?_;rw [show b.measures.flatMap yd++[intA m.cloth,intA m.many,intA m.wide]=(yj b m).measures.flatMap yd from (y9 yd b.measures m).symm,show b.measures.length+1=(yj b m).measures.length by simp [yj]];refine au 31706804 ?_;refine bB hret [(je,_),(e,_)] ?_;exact ⟨je,rfl,rfl⟩
  ·refine wF Z (zp (l:=[_,_,_]) Z zz.h TyZ.h dQ dQ Z) (fun _=>zn rfl tQ) sQ fun j3 hj3=>?_;refine TD.cappG (ln:=b.measures.flatMap yd) (pend':=[⟨1,[2],[]⟩]) [5,7] Z Z Z Z Z Z ApOf.h Z mQ Z Z Z (fun hp=>wB mQ oQ (kF hfl oQ)) (fun h=>lK oQ) (kv yd (fun _=>rfl) _) (by unfold maxLen; omega) oQ (fun _=>uQ) (fun _=>zn rfl tQ) (fun _=>by simp) fun jc=>?_;simp only [lC,mO];refine TD.capp (pend':=[⟨1,[2],[]⟩]) [8,10] Z Z Z Z Z (a_app Z ApOf.h Z mQ oQ Z (yp (ln:=[_,_,_]) mQ dQ sQ Z) oQ Z (by unfold maxLen; omega) oQ) (fun _=>uQ) (fun _=>zn rfl tQ) (fun _=>sQ) fun je=>?_;refine ad [[3,2]] ?_;refine TD.s (pend':=[]) [11,12] Z Z (zB Z Z zd.h Z Z mQ Z) ?_;refine ad [[14]] ?_;refine au 2 ?_;refine TK.unrowAt (c:=jb) (i:=6) (j:=je) Z mQ uQ ?_;refine bY (j:=je) ?_;rw [show b.measures.flatMap yd++[intA m.cloth,intA m.many,intA m.wide]=(yj b m).measures.flatMap yd from (y9 yd b.measures m).symm,show b.measures.length+1=(yj b m).measures.length by simp [yj]];refine au 31706804 ?_;refine bB hret [(je,_),(e,_)] ?_;exact ⟨je,rfl,rfl⟩
 ·refine wF Z (zp (l:=[_,_,_]) Z zz.h TyZ.h dQ dQ Z) (fun _=>zn rfl tQ) sQ fun j4 hj4=>?_;refine bV (pend':=[⟨2,[6],[(_,_)]⟩,⟨1,[2],[]⟩]) [] Z Z Z Z Z (zp (l:=[]) Z zz.h TyZ.h dQ dQ Z) (fun _=>zn rfl tQ) sQ fun j5 hj5=>?_;refine TD.cappG (ln:=b.measures.flatMap yd) (pend':=[⟨1,[2],[]⟩]) [5,7] Z Z Z Z Z Z ApOf.h Z mQ Z Z Z (fun hp=>wB mQ oQ (kF hfl oQ)) (fun h=>lK oQ) (kv yd (fun _=>rfl) _) (by unfold maxLen; omega) oQ (fun _=>uQ) (fun _=>zn rfl tQ) (fun _=>by simp) fun jc=>?_;simp only [lC,mO];refine TD.capp (pend':=[⟨1,[2],[]⟩]) [8,10] Z Z Z Z Z (a_app Z ApOf.h Z mQ oQ Z (yp (ln:=[_,_,_]) mQ dQ sQ Z) oQ Z (by unfold maxLen; omega) oQ) (fun _=>uQ) (fun _=>zn rfl tQ) (fun _=>sQ) fun je=>?_;refine ad [[3,2]] ?_;refine TD.s (pend':=[]) [11,12] Z Z (zB Z Z zd.h Z Z mQ Z) ?_;refine ad [[14]] ?_;refine au 2 ?_;refine TK.unrowAt (c:=jb) (i:=6) (j:=je) Z mQ uQ ?_;refine bY (j:=je) ?_;rw [show b.measures.flatMap yd++[intA m.cloth,intA m.many,intA m.wide]=(yj b m).measures.flatMap yd from (y9 yd b.measures m).symm,show b.measures.length+1=(yj b m).measures.length by simp [yj]];refine au 31706804 ?_;refine bB hret [(je,_),(e,_)] ?_;exact ⟨je,rfl,rfl⟩
end Go.Vel
namespace Go.Vel
open Go Go.Conc
theorem pendS {ops:Array Oper} {i:Nat} {pend pend':List Pd} {es:List Nat} (h:edgesOf .any ops i=es) (h2:(pend.filter fun p => !(es.elem p.i))=pend'):pendOf ops i pend=pend':=by unfold pendOf; rw [h]; exact h2
theorem x_len:(exB.seams.length<=100)/\(exB.measures.length<=100):=by decide
theorem wO:zu exB=0:=by decide +kernel
theorem zgu:bar2 (zu exB) (cutsM exB [1,2])=0:=by decide +kernel
theorem zgt:bar2 (zu exB) (cutsM exB [0,1])=0:=by decide +kernel
theorem zcR:bar2 (zu exB) (cutsM exB [0,2])=0:=by decide +kernel
theorem zkz:stripsM exB [1,2]=[(1,4),(2,8)]:=by decide +kernel
theorem zkw:fitsM exB [0,1]=true:=by decide +kernel
theorem zkx:fitsM exB [0,2]=false:=by decide +kernel
theorem x_h1:bar2 (zu exB) (bar2 (cutsM exB [0,1]) (shM exB [1,0,1]))=0:=by decide +kernel
theorem zgv:hangM exB [0,1] [1,0,1]=some ([3,2],13):=by decide +kernel
theorem x_h2:bar2 (zu exB) (bar2 (cutsM exB [0,1]) (shM exB [0,0,1]))=0:=by decide +kernel
theorem zgw:hangM exB [0,1] [0,0,1]=some ([2,2],11):=by decide +kernel
theorem zky:placesM exB [0,1] [0,0,1] [2,2]=[0,7]:=by decide +kernel
theorem zbN:zj exB=[[0,0,0],[0,0,1],[1,0,0],[1,0,1]]:=by decide +kernel
theorem x_ne:zj exB≠[]:=by rw [zbN]; decide
theorem x_th2:bar2 (zu exB) (thereM exB 2)=0:=by decide +kernel
theorem znb:shrM exB 2=[0,1]:=by decide +kernel
theorem x_new:newM exB=(3,5):=by decide +kernel
theorem zlK:canM exB [0,1]=1:=by decide +kernel
theorem zlL:canM exB [0,2]=2:=by decide +kernel
theorem zm8:betw 16 exB.steps 40=true:=by decide +kernel
theorem zm6:bar2 (zu (atRound exB 16)) (cutsM (atRound exB 16) [0,1])=0:=by decide +kernel
theorem zna:zj (atRound exB 16)≠[]:=by decide +kernel
theorem zlM:canM (atRound exB 16) [0,1]=0:=by decide +kernel
theorem zne:squaresM exB (zj exB) [1,2]=some (9,15):=by decide +kernel
theorem znd:squaresM exB (zj exB) [0,2]=none:=by decide +kernel
theorem znc:squaresM exB (zj exB) [0,1]=some (9,13):=by decide +kernel
theorem zkA:widestM exB (zj exB)=some 16:=by decide +kernel
theorem x_ask:askM exB (zj exB)=(0,2):=by decide +kernel
def exM:RBk:=yj exB ⟨2,2,7⟩
theorem x_mc:zu exM=0:=by decide +kernel
theorem x_mst:zj exM=[[0,0,1],[1,0,0]]:=by decide +kernel
theorem zm9:newM exM=(4,4):=by decide +kernel
theorem x_mne:zj exM≠[]:=by rw [x_mst]; decide
def exD:RBk:=driedB exB (0:Int).toNat (dryX exB 0 ⟨1,5⟩)
theorem x_d1:bar2 (zu exB) (thereM exB 0)=0/\isBd ⟨1,5⟩ 0 5=true/\(dryX exB 0 ⟨1,5⟩).low<=(dryX exB 0 ⟨1,5⟩).high:=by decide +kernel
theorem x_d2:bar2 (zu exB) (thereM exB 1)=0/\isBd ⟨1,2⟩ 0 5=true/\(dryX exB 1 ⟨1,2⟩).high<(dryX exB 1 ⟨1,2⟩).low:=by decide +kernel
theorem x_dc:zu exD=0:=by decide +kernel
theorem x_dst:zj exD=[[1,0,0],[1,0,1]]:=by decide +kernel
theorem x_dne:zj exD≠[]:=by rw [x_dst]; decide
theorem x_dth:bar2 (zu exD) (thereM exD 0)=0:=by decide +kernel
theorem zm7:shrM exD 0=[1]:=by decide +kernel
def exC1:RBk:=yj exB ⟨0,1,5⟩
def exC:RBk:=yj exC1 ⟨2,2,6⟩
theorem x_cc:zu exC=0:=by decide +kernel
theorem x_cst:zj exC=[]:=by decide +kernel
theorem zgs:clashM exC=some [0,1]:=by decide +kernel
theorem zgr:zt 3 3=[0,1]:=by decide
theorem x_hi3:sqOk exB (zj exB) (zt 3 3)=true/\sqHi exB (zj exB) (zt 3 3)=13:=by
 unfold sqOk sqHi;rw [zgr,znc];exact ⟨rfl,rfl⟩
theorem zm5:∀ c:Fin 8,0<c.1->sqOk exB (zj exB) (zt c.1 3)=true->c.1≠3->(zt 3 3,sqHi exB (zj exB) (zt 3 3))≠(zt c.1 3,sqHi exB (zj exB) (zt c.1 3))/\cheaperM (zt c.1 3,sqHi exB (zj exB) (zt c.1 3)) (zt 3 3,sqHi exB (zj exB) (zt 3 3))=false/\shorterM (zt c.1 3,sqHi exB (zj exB) (zt c.1 3)) (zt 3 3,sqHi exB (zj exB) (zt 3 3))=false:=by decide +kernel
theorem ziZ {bt:List Int×Int->List Int×Int->Bool} {c:Nat} (hbt:bt=cheaperM\/bt=shorterM) (h:PlanA exB (zj exB) bt c):zt c exB.seams.length=[0,1]/\sqHi exB (zj exB) (zt c exB.seams.length)=13:=by
 obtain ⟨h0,h1,h2,h3⟩:=h;have e3:exB.seams.length=3:=rfl;rw [e3] at h1 h2 h3 ⊢;by_cases hc:c=3
 ·subst hc;exact ⟨zgr,x_hi3.2⟩
 ·exfalso;have h8:c<8:=h1;obtain ⟨q1,q2,q3⟩:=zm5 ⟨c,h8⟩ h0 h2 hc;rcases h3 3 dQ dQ x_hi3.1 with h | h
  ·exact q1 h
  ·rcases hbt with rfl | rfl
   ·rw [q2] at h; cases h
   ·rw [q3] at h; cases h
theorem zfi (h:NoPlan exB (zj exB)):False:=by
 have:=h 3 dQ dQ;have e3:exB.seams.length=3:=rfl;rw [e3,x_hi3.1] at this;cases this
theorem or2 {x:Int} {A B:Prop} (h:(x≠0/\A)\/(x=0/\B)) (hx:x=0):B:=by
 rcases h with ⟨h,_⟩ | ⟨_,h⟩
 ·exact absurd hx h
 ·exact h
theorem or3 {x:Int} {A B C D:Prop} (h:(x≠0/\A)\/(x=0/\D/\B)\/(x=0/\¬ D/\C)) (hx:x=0) (hd:¬ D):C:=by
 rcases h with ⟨h,_⟩ | ⟨_,h,_⟩ | ⟨_,_,h⟩
 ·exact absurd hx h
 ·exact absurd h hd
 ·exact h
theorem or3b {x:Int} {A B C D:Prop} (h:(x≠0/\A)\/(x=0/\D/\B)\/(x=0/\C)) (hx:x=0) (hd:¬ D):C:=by
 rcases h with ⟨h,_⟩ | ⟨_,h,_⟩ | ⟨_,h⟩
 ·exact absurd hx h
 ·exact absurd h hd
 ·exact h
theorem or3c {x:Int} {y:Bool} {A B C:Prop} (h:(x≠0/\A)\/(x=0/\y=false/\B)\/(x=0/\y=true/\C)) (hx:x=0) (hy:y=true):C:=by
 rcases h with ⟨h,_⟩ | ⟨_,h,_⟩ | ⟨_,_,h⟩
 ·exact absurd hx h
 ·rw [hy] at h; cases h
 ·exact h
theorem or4 {x u v:Int} {y:Bool} {A B C D:Prop} (h:(x≠0/\A)\/(x=0/\y=false/\B)\/(x=0/\y=true/\u<v/\C)\/(x=0/\y=true/\v<=u/\D)) (hx:x=0/\y=true/\v<=u):D:=by
 obtain ⟨h1,h2,h3⟩:=hx;rcases h with ⟨h,_⟩ | ⟨_,h,_⟩ | ⟨_,_,h,_⟩ | ⟨_,_,_,h⟩
 ·exact absurd h1 h
 ·rw [h2] at h; cases h
 ·omega
 ·exact h
theorem or4c {x u v:Int} {y:Bool} {A B C D:Prop} (h:(x≠0/\A)\/(x=0/\y=false/\B)\/(x=0/\y=true/\u<v/\C)\/(x=0/\y=true/\v<=u/\D)) (hx:x=0/\y=true/\u<v):C:=by
 obtain ⟨h1,h2,h3⟩:=hx;rcases h with ⟨h,_⟩ | ⟨_,h,_⟩ | ⟨_,_,_,h⟩ | ⟨_,_,h,_⟩
 ·exact absurd h1 h
 ·rw [h2] at h; cases h
 ·exact h
 ·omega
theorem orCl {x:Int} {A B C D E F:Prop} (h:(x≠0/\A)\/(x=0/\¬ D/\B)\/(x=0/\D/\E/\C)\/(x=0/\D/\F)) (hx:x=0) (hd:D) (he:¬ E):F:=by
 rcases h with ⟨h,_⟩ | ⟨_,h,_⟩ | ⟨_,_,h,_⟩ | ⟨_,_,h⟩
 ·exact absurd hx h
 ·exact absurd hd h
 ·exact absurd h he
 ·exact h
theorem trT {r:AV} {P Q:Prop} [Decidable P] (h:r=zF (decide P)/\Q) (hp:P):r=zF true/\Q:=⟨by rw [h.1,decide_eq_true hp],h.2⟩
theorem zek {xs zs:List Int} {i:Nat} {x:Int} {e:TypeId} {rw':Bool} (h:xs[i]? =some x):takeO (.cells ((xs++zs).map intA) e rw') (0+(i:Int).toNat*1) 1=some [intA x]:=yn (by rw [lG (lD.1 h).1]; exact h) rfl
theorem x_v12:sqLo exB (zj exB) [1,2]=9/\sqHi exB (zj exB) [1,2]=15/\sqOk exB (zj exB) [1,2]=true:=by
 unfold sqLo sqHi sqOk;rw [zne];exact ⟨rfl,rfl,rfl⟩
theorem x_v02:sqLo exB (zj exB) [0,2]=0/\sqHi exB (zj exB) [0,2]=0/\sqOk exB (zj exB) [0,2]=false:=by
 unfold sqLo sqHi sqOk;rw [znd];exact ⟨rfl,rfl,rfl⟩
theorem agr3 {b:RBk} {K:KV} {r:AV} {K':KV} (h:AgrR b K r K') (hx:zu b=0) (hn:zj b≠[]):∃ s h e,r=.tup [.agg (zA b s h e),intA 0]/\K'=(s,zk b)::(h,zC b)::(e,zr b)::K:=or3 h hx hn
end Go.Vel
namespace Go.Vel
open Go Go.Conc Go.Proofs
theorem yb {main T} (hT:zm tp main T) {gm} {n lo hi:Int} :
  zq tp T gm 45 [intA n,intA lo,intA hi] [] (fun r K'=>r=zF (betw n lo hi)/\K'=[]):=by
 refine zl 15 hT Tryz.func45 fun Y hret=>?_;refine au 1711423542 ?_;refine bF 10 (fun g1_4=>?_) (fun g1_4=>?_)
 ·refine au 35260711 ?_;refine TK.rta hret ?_;exact ⟨by simp [zF,betw,g1_4],rfl⟩
 refine au 35250888 ?_;refine TK.rta hret ?_;exact ⟨by simp [zF,betw,g1_4],rfl⟩
theorem zb1 {main T} (hT:zm tp main T) {gm} {x:RBand} {lo hi:Int} :
  zq tp T gm 91 [.agg (bandC x),intA lo,intA hi] [] (fun r K'=>r=zF (isBd x lo hi)/\K'=[]):=by
 refine zl 24 hT Tryz.func91 fun Y hret=>?_;refine au 21042 ?_;intro j1 hj1;refine au 1769067014235 ?_;refine bF 11 (fun g1_5=>?_) (fun g1_5=>?_)
 ·refine au 12607690670690670 ?_;refine bF 18 (fun g1_12=>?_) (fun g1_12=>?_)
  ·refine au 3526071690670 ?_;refine bB hret [] ?_;exact ⟨by simp_all [isBd,bandC] <;> (intros; omega),rfl⟩
  refine au 352508888 ?_;refine bB hret [] ?_;exact ⟨by simp_all [isBd,bandC] <;> (intros; omega),rfl⟩
 refine au 352508888125088888 ?_;refine bB hret [] ?_;exact ⟨by simp_all [isBd,bandC] <;> (intros; omega),rfl⟩
theorem zdA {main T} (hT:zm tp main T) {gm} {b:RBk} {s h e i:Nat} (hr:RndOk b) (hs:SmOk b) (hi:i<b.seams.length) :
  zq tp T gm 92 [.agg (zA b s h e),intA i] [(s,zk b)] (fun r K'=>r=intA (wideM b i)/\K'=[(s,zk b)]):=by
 refine zl 40 hT Tryz.func92 fun Y hret=>?_;refine au 0 ?_;have h5:=hs.len;have hst:=hr.steps;have f0:=hs.fld 0 oQ;have fi:=hs.fld i hi;refine au 21042 ?_;intro jb hjb;refine au 937280690670230142235 ?_;constructor<;>intro hc0
 ·have hlt:i+1<b.seams.length:=by simp at hc0; omega
  have fn:=hs.fld (i+1) hlt;refine au 2 ?_;refine bL [0,1,2,3,4,5,6,7,8,9,10,11,12,13,14] ?_;refine ad [[3,2],[10,11],[1,1],[8,13],[2,12,14],[3,15]] ?_;refine bT [16] Z (hq:=zg Z Z zd.h (mC _) (zW (c:=0) (sm_at (i:=i+1) b hlt Z) dQ Z)) (h:=?_);refine ad [[3,2],[10,18],[1,1],[2,19,20],[3,21]] ?_;refine bT [22] Z (hq:=zg Z Z zd.h (mC _) (zW (c:=0) (sm_at (i:=i) b hi Z) dQ Z)) (h:=?_);refine ad [[9,17,23],[13,24],[14]] ?_;refine au 0 ?_;refine bB hret [(s,_)] ?_;exact ⟨by unfold wideM; rw [if_pos hlt]; rfl,rfl⟩
 have hlt:¬ i+1<b.seams.length:=by simp at hc0; omega
 refine au 2120 ?_;refine bL [0,1,2,3,4,5,6,7,8,9,10,11,12,13,14,15] ?_;refine ad [[3,2],[10,25],[2,26],[3,27]] ?_;refine bT [28] Z (hq:=zg Z Z zd.h (mC _) (zW (c:=0) (sm_at (i:=0) b oQ Z) dQ Z)) (h:=?_);refine ad [[3,2],[10,30],[8,29,31],[3,2],[10,33],[1,1],[2,34,35],[3,36]] ?_;refine bT [37] Z (hq:=zg Z Z zd.h (mC _) (zW (c:=0) (sm_at (i:=i) b hi Z) dQ Z)) (h:=?_);refine ad [[9,32,38],[13,39],[14]] ?_;refine au 0 ?_;refine bB hret [(s,_)] ?_;exact ⟨by unfold wideM; rw [if_neg hlt]; rfl,rfl⟩
theorem ziq {main T} (hT:zm tp main T) {gm} {b:RBk} {s h e:Nat} (hr:RndOk b) (hl:b.seams.length<=100) :
  zq tp T gm 46 [.agg (zA b s h e)] [(s,zk b)] (fun r K'=>r=intA (seamsM b)/\K'=[(s,zk b)]):=by
 refine zl 61 hT Tryz.func46 fun Y hret=>?_;refine au 0 ?_;have hst:=hr.steps;refine au 21042 ?_;intro jb hjb;refine au 28069067042235 ?_;refine TK.clE Z Z Z Z (yb hT) ?_;refine au 93300 ?_;constructor<;>intro hc0
 ·refine au 3542 ?_;refine bB hret [(s,_)] ?_;simp only [mV,mW] at hc0;exact ⟨by simp [seamsM,hc0],rfl⟩
 simp only [mV,mW] at hc0;have hl5:=uw hc0;refine au 13035422120 ?_;refine bA [1,2,3] ?_;refine bE (fun n env K=>∃ (i:Nat) (last:Int),n=b.seams.length - i/\i<=b.seams.length/\seamsL b last (b.seams.drop i)=seamsM b/\(0<i->last=(sm b (i - 1)).step)/\(i=0->last = -1)/\env=.any::.ptr jb 0::intA 0::intA i::naL 57 []/\K=[(jb,.cells (zA b s h e) 26 true),(s,zk b)]) b.seams.length ⟨0,-1,rfl,mN _,by unfold seamsM; rw [if_neg (by rw [hc0]; decide)]; rfl,fun h=>absurd h (Nat.lt_irrefl _),fun _=>rfl,rfl,rfl⟩ fun n env K hI hnext=>?_;obtain ⟨i,last,rfl,hi,hinv,hlast,hlast0,rfl,rfl⟩:=hI;refine bG nQ ?_;refine au 9372806906701422 ?_;constructor<;>intro hc1
 ·have hil:i<b.seams.length:=by simp at hc1; omega
  refine au 3601690670421302120 ?_;refine bH Z (zI Z Z zd.h mQ (sm_at (i:=i) b hil Z)) ?_;refine au 220 ?_;intro jx hjx;refine au 2406906706906704223170 ?_;refine TK.clE Z Z Z Z (yb hT) ?_;refine au 1300 ?_;refine bF 29 (fun g7_8=>?_) (fun g7_8=>?_)
  ·refine au 3542180326088881260888812608888 ?_;refine bB hret [(s,_)] ?_;exact ⟨by rw [<- hinv,zN (yO hil),seamsL,if_pos (by simp only [mV,mW] at g7_8; simp [seamB,g7_8])],rfl⟩
  refine au 690670 ?_;refine TK.clE Z Z Z Z (yb hT) ?_;refine au 1250300 ?_;refine bF 35 (fun g7_14=>?_) (fun g7_14=>?_)
  ·refine au 35421803260888812608888 ?_;refine bB hret [(s,_)] ?_;exact ⟨by rw [<- hinv,zN (yO hil),seamsL,if_pos (by simp only [mV,mW] at g7_8 g7_14; simp [seamB,g7_8,g7_14])],rfl⟩
  refine au 690670 ?_;refine TK.clE Z Z Z Z (yb hT) ?_;refine au 1250300 ?_;refine bF 41 (fun g7_20=>?_) (fun g7_20=>?_)
  ·refine au 354218032608888 ?_;refine bB hret [(s,_)] ?_;exact ⟨by rw [<- hinv,zN (yO hil),seamsL,if_pos (by simp only [mV,mW] at g7_8 g7_14 g7_20; simp [seamB,g7_8,g7_14,g7_20])],rfl⟩
  refine au 690670 ?_;refine TK.clE Z Z Z Z (yb hT) ?_;refine au 93250300 ?_;constructor<;>intro hc2
  ·refine au 3542 ?_;refine bB hret [(s,_)] ?_;exact ⟨by rw [<- hinv,zN (yO hil),seamsL,if_pos (by simp only [mV,mW] at g7_8 g7_14 g7_20 hc2; simp [seamB,g7_8,g7_14,g7_20,hc2])],rfl⟩
  have hsb:seamB b (sm b i)=true:=by simp only [mV,mW] at g7_8 g7_14 g7_20 hc2; simp [seamB,g7_8,g7_14,g7_20,hc2]
  refine au 2120 ?_;refine bL [0,1,2,3,4,5,6,7,8,9,10,11,12,13] ?_;refine ad [[1,3],[4,47],[1,48]] ?_;refine TD.sp 49 (fun g9_3=>?_) (fun g9_3=>?_)
  ·have hi0:0<i:=by simp at g9_3; omega
   refine ad [[3,4,49],[10,49,50],[3,1,49],[10,49,52],[1,3,49],[9,49,54],[2,49,53,55],[3,49,56]] ?_;refine bT [49,57] Z (hq:=zg Z Z zd.h (mC _) (zW (c:=0) (sm_at (i:=i - 1) b oQ oQ) dQ Z)) (h:=?_);refine ad [[4,49,51,58],[7,49,59],[14]] ?_;refine au 9 ?_;constructor<;>intro hc3
   ·refine au 3542 ?_;refine bB hret [(s,_)] ?_;exact ⟨by rw [<- hinv,zN (yO hil),seamsL,if_neg (by rw [hsb]; decide),if_pos (by rw [hlast (by simp at g9_3; omega)]; exact of_decide_eq_true hc3)],rfl⟩
   refine au 3523014140120 ?_;refine bA [1,2,3] ?_;refine bC [(jb,_),(s,_)] ?_;exact hnext _ _ _ oQ ⟨i+1,(sm b i).step,rfl,oQ,by rw [<- hinv,zN (yO hil),seamsL,if_neg (by rw [hsb]; decide),if_neg (by rw [hlast (by simp at g9_3; omega)]; exact of_decide_eq_false hc3)],fun _=>rfl,fun h=>by omega,rfl,rfl⟩
  refine ad [[11,4,49],[11,49,50],[11,1,49],[11,49,52],[11,3,49],[11,49,54],[11,49,53,55],[11,49,56],[11,49,57],[11,49,51,58],[6,49,59],[14]] ?_;refine au 3523014140120190 ?_;refine bA [1,2,3] ?_;refine bC [(jb,_),(s,_)] ?_;exact hnext _ _ _ oQ ⟨i+1,(sm b i).step,rfl,oQ,by have h0:=(zgd hsb).1; rw [<- hinv,zN (yO hil),seamsL,if_neg (by rw [hsb]; decide),if_neg (by rw [hlast0 (by simp at g9_3; omega)]; omega)],fun _=>rfl,fun h=>by omega,rfl,rfl⟩
 obtain rfl:i=b.seams.length:=by simp at hc1; omega
 refine au 3542160 ?_;refine bB hret [(s,_)] ?_;exact ⟨by rw [<- hinv,List.drop_length]; rfl,rfl⟩
theorem zgC {main T} (hT:zm tp main T) {gm} {b:RBk} {s h e:Nat} (hr:RndOk b) (hs:SmOk b) (hm:b.measures.length<=100) :
  zq tp T gm 47 [.agg (zA b s h e)] [(s,zk b),(h,zC b),(e,zr b)] (fun r K'=>r=intA (if clothsM b≠0 then clothsM b else measM b)/\K'=[(s,zk b),(h,zC b),(e,zr b)]):=by
 refine zl 80 hT Tryz.func47 fun Y hret=>?_;refine au 0 ?_;have hst:=hr.steps;have hl5:=hs.len;refine au 21042 ?_;intro jb hjb;refine au 93728069067028069067042235 ?_;constructor<;>intro hc0
 ·refine au 3542 ?_;refine bB hret [(s,_),(h,_),(e,_)] ?_;exact ⟨by rw [show clothsM b=2 by unfold clothsM; rw [if_pos (by simp at hc0; omega)]]; rfl,rfl⟩
 have hle:b.shrinks.length=b.seams.length:=by simp at hc0; omega
 refine au 13035422120 ?_;refine bA [1,2,3] ?_;refine bE (fun n env K=>∃ (i:Nat),n=b.shrinks.length - i/\i<=b.shrinks.length/\clothsL b i (b.shrinks.drop i)=clothsM b/\env=.any::.ptr jb 0::intA 0::intA i::naL 76 []/\K=[(jb,.cells (zA b s h e) 26 true),(s,zk b),(h,zC b),(e,zr b)]) b.shrinks.length ⟨0,rfl,mN _,by unfold clothsM; rw [if_neg (by simpa using hle)]; rfl,rfl,rfl⟩ fun n env K hI hnext=>?_;obtain ⟨i,rfl,hi,hinv,rfl,rfl⟩:=hI;refine bG nQ ?_;refine au 9372806906701422 ?_;constructor<;>intro hc1
 ·have hil:i<b.shrinks.length:=by simp at hc1; omega
  refine au 3601690670421302120 ?_;refine bH Z (zI Z Z zd.h mQ (bd_at (i:=i) b hil Z)) ?_;refine au 220 ?_;intro jx hjx;refine au 6804223170 ?_;refine TK.clE Z Z Z Z (zb1 hT (x:=bd b i)) ?_;refine au 1300 ?_;refine bF 29 (fun g7_4=>?_) (fun g7_4=>?_)
  ·refine au 35421803260888888 ?_;refine bB hret [(s,_),(h,_),(e,_)] ?_;exact ⟨by rw [show clothsM b=1 by rw [<- hinv,zN (kr hil),clothsL,if_pos (by simp at g7_4; simp [bandB,g7_4])]]; rfl,rfl⟩
  have hbd:0<=(bd b i).low/\(bd b i).low<=(bd b i).high/\(bd b i).high<=5:=by simp [isBd] at g7_4; omega
  refine au 932507240690670690670 ?_;constructor<;>intro hc2
  ·refine au 3542 ?_;refine bB hret [(s,_),(h,_),(e,_)] ?_;exact ⟨by rw [show clothsM b=1 by rw [<- hinv,zN (kr hil),clothsL,if_pos (by simp at g7_4 hc2; simp [bandB,g7_4] <;> omega)]]; rfl,rfl⟩
  have hbb:bandB (bd b i)=true:=by simp at g7_4 hc2; simp [bandB,g7_4]; omega
  refine au 2120 ?_;refine bL [0,1,2,3,4,5] ?_;refine ad [[3,4],[10,37],[12,1],[1,3]] ?_;refine bQ (pend':=[⟨1,[37],[(_,_)]⟩,⟨0,[4],[]⟩]) [39,40] Z Z Z Z Z (zdA hT (i:=i) hr hs oQ) (fun r4 K5 h6=>⟨?_,?_⟩)
  ·rcases h6 with ⟨rfl,rfl⟩
   all_goals simp
  obtain ⟨rfl,rfl⟩:=h6;try simp only [cA]
  refine bS tQ ?_;refine ad [[4,38,41],[14]] ?_;refine au 9 ?_;constructor<;>intro hc3
  ·refine au 3542 ?_;refine bB hret [(s,_),(h,_),(e,_)] ?_;exact ⟨by rw [show clothsM b=8 by rw [<- hinv,zN (kr hil),clothsL,if_neg (by rw [hbb]; decide),if_pos (of_decide_eq_true hc3)]]; rfl,rfl⟩
  refine au 3523014140120 ?_;refine bA [1,2,3] ?_;refine bC [(jb,_),(s,_),(h,_),(e,_)] ?_;exact hnext _ _ _ oQ ⟨i+1,rfl,oQ,by rw [<- hinv,zN (kr hil),clothsL,if_neg (by rw [hbb]; decide),if_neg (of_decide_eq_false hc3)],rfl,rfl⟩
 obtain rfl:i=b.shrinks.length:=by simp at hc1; omega
 have hcl:clothsM b=0:=by rw [<- hinv,List.drop_length]; rfl
 refine au 937280690670422160 ?_;constructor<;>intro hc4
 ·refine au 3542 ?_;refine bB hret [(s,_),(h,_),(e,_)] ?_;exact ⟨by rw [if_neg (fun h=>h hcl),show measM b=2 by unfold measM; rw [if_pos (by simp at hc4; omega)]],rfl⟩
 refine au 13035422120 ?_;refine bA [1,2,5] ?_;refine bE (fun n env K=>∃ (i:Nat),n=b.measures.length - i/\i<=b.measures.length/\measL b (b.measures.drop i)=measM b/\env=.any::.ptr jb 0::intA 0::naL 2 (intA i::naL 74 [])/\K=[(jb,.cells (zA b s h e) 26 true),(s,zk b),(h,zC b),(e,zr b)]) b.measures.length ⟨0,rfl,mN _,by unfold measM; rw [if_neg (by simp at hc4; omega)]; rfl,rfl,rfl⟩ fun n env K hI hnext=>?_;obtain ⟨i,rfl,hi,hinv2,rfl,rfl⟩:=hI;refine bG nQ ?_;refine au 9372806906701422 ?_;constructor<;>intro hc5
 ·have hil:i<b.measures.length:=by simp at hc5; omega
  obtain ⟨x,hg⟩:∃ x,b.measures[i]? =some x:=⟨_,lA hil⟩;refine au 3601690670421302120 ?_;refine bH Z (zI Z Z zd.h mQ (zb5 (i:=i) hg Z)) ?_;refine au 220 ?_;intro jy hjy;refine au 2402806906706906704223170 ?_;refine TK.clE Z Z Z Z (yb hT) ?_;refine au 93300 ?_;constructor<;>intro hc6
  ·refine au 3542 ?_;refine bB hret [(s,_),(h,_),(e,_)] ?_;exact ⟨by rw [if_neg (fun h=>h hcl),<- hinv2,zN hg,measL,if_pos (by simp at hc6; simp [thereM,hc6]),show thereM b x.cloth=6 by simp at hc6; simp [thereM,hc6]],rfl⟩
  refine au 28069067069067042120 ?_;refine TK.clE Z Z Z Z (yb hT) ?_;refine au 1300 ?_;refine bF 74 (fun g19_8=>?_) (fun g19_8=>?_)
  ·refine au 354218032608888 ?_;refine bB hret [(s,_),(h,_),(e,_)] ?_;exact ⟨by rw [if_neg (fun h=>h hcl),<- hinv2,zN hg,measL,if_neg (by simp at hc6; simp [thereM,hc6]),if_pos (by simp at g19_8; simp [measB,g19_8])],rfl⟩
  refine au 690670 ?_;refine TK.clE Z Z Z Z (yb hT) ?_;refine au 93250300 ?_;constructor<;>intro hc7
  ·refine au 3542 ?_;refine bB hret [(s,_),(h,_),(e,_)] ?_;exact ⟨by rw [if_neg (fun h=>h hcl),<- hinv2,zN hg,measL,if_neg (by simp at hc6; simp [thereM,hc6]),if_pos (by simp at g19_8 hc7; simp [measB,g19_8,hc7])],rfl⟩
  refine au 3523014140120 ?_;refine bA [1,2,5] ?_;refine bC [(jb,_),(s,_),(h,_),(e,_)] ?_;exact hnext _ _ _ oQ ⟨i+1,rfl,oQ,by rw [<- hinv2,zN hg,measL,if_neg (by simp at hc6; simp [thereM,hc6]),if_neg (by simp at g19_8 hc7; simp [measB,g19_8,hc7])],rfl,rfl⟩
 obtain rfl:i=b.measures.length:=by simp at hc5; omega
 refine au 3542160 ?_;refine bB hret [(s,_),(h,_),(e,_)] ?_;exact ⟨by rw [if_neg (fun h=>h hcl),<- hinv2,List.drop_length]; rfl,rfl⟩
theorem zao {main T} (hT:zm tp main T) {gm} {b:RBk} {s h e:Nat} (hl:b.seams.length<=100) (hm:b.measures.length<=100) :
  zq tp T gm 12 [.agg (zA b s h e)] [(s,zk b),(h,zC b),(e,zr b)] (fun r K'=>r=intA (zu b)/\K'=[(s,zk b),(h,zC b),(e,zr b)]):=by
 refine zl 35 hT Tryz.func12 fun Y hret=>?_;refine au 21042 ?_;intro jb hjb;refine au 69067042235 ?_;refine TK.clE Z Z Z Z (yb hT) ?_;refine au 1300 ?_;refine bF 8 (fun g1_5=>?_) (fun g1_5=>?_)
 ·refine au 354218032608888126088881260888888 ?_;refine bB hret [(s,_),(h,_),(e,_)] ?_;simp only [mV,mW] at g1_5;exact ⟨by rw [show zu b=1 by unfold zu; rw [if_pos (by rw [show roundsM b=1 by simp [roundsM,g1_5]]; decide)]; simp [roundsM,g1_5]],rfl⟩
 refine au 690670690670 ?_;refine TK.clE Z Z Z Z (yb hT) ?_;refine au 1250300 ?_;refine bF 16 (fun g1_13=>?_) (fun g1_13=>?_)
 ·refine au 35421803260888812608888 ?_;refine bB hret [(s,_),(h,_),(e,_)] ?_;simp only [mV,mW] at g1_5 g1_13;exact ⟨by rw [show zu b=1 by unfold zu; rw [if_pos (by rw [show roundsM b=1 by simp [roundsM,g1_5,g1_13]]; decide)]; simp [roundsM,g1_5,g1_13]],rfl⟩
 refine au 690670 ?_;refine TK.clE Z Z Z Z (yb hT) ?_;refine au 1250300 ?_;refine bF 22 (fun g1_19=>?_) (fun g1_19=>?_)
 ·refine au 354218032608888 ?_;refine bB hret [(s,_),(h,_),(e,_)] ?_;simp only [mV,mW] at g1_5 g1_13 g1_19;exact ⟨by rw [show zu b=1 by unfold zu; rw [if_pos (by rw [show roundsM b=1 by simp [roundsM,g1_5,g1_13,g1_19]]; decide)]; simp [roundsM,g1_5,g1_13,g1_19]],rfl⟩
 refine au 690670 ?_;refine TK.clE Z Z Z Z (yb hT) ?_;refine au 93250300 ?_;constructor<;>intro hc0
 ·refine au 3542 ?_;refine bB hret [(s,_),(h,_),(e,_)] ?_;simp only [mV,mW] at g1_5 g1_13 g1_19 hc0;exact ⟨by rw [show zu b=1 by unfold zu; rw [if_pos (by rw [show roundsM b=1 by simp [roundsM,g1_5,g1_13,g1_19,hc0]]; decide)]; simp [roundsM,g1_5,g1_13,g1_19,hc0]],rfl⟩
 simp only [mV,mW] at g1_5 g1_13 g1_19 hc0;have hr0:roundsM b=0:=by simp [roundsM,g1_5,g1_13,g1_19,hc0]
 have hr:=uY hr0;refine au 680422120 ?_;refine TK.clE Z Z Z Z (ziq hT hr hl) ?_;refine au 93714235 ?_;constructor<;>intro hc1
 ·refine au 35142 ?_;refine bB hret [(s,_),(h,_),(e,_)] ?_;exact ⟨by unfold zu; rw [if_neg (by simpa using hr0),if_pos (by simpa using hc1)],rfl⟩
 have hs0:seamsM b=0:=by simpa using hc1
 have hs:=zaI hs0;refine au 68042120 ?_;refine TK.clE Z Z Z Z (zgC hT hr hs hm) ?_;refine au 35 ?_;refine bB hret [(s,_),(h,_),(e,_)] ?_;exact ⟨by rw [show zu b=(if clothsM b≠0 then clothsM b else measM b) by unfold zu; rw [if_neg (by simpa using hr0),if_neg (by simpa using hs0)]],rfl⟩
theorem zl1 {main T} (hT:zm tp main T) {gm} {b:RBk} {s h e:Nat} :
  zq tp T gm 4 [.agg (zA b s h e)] [(s,zk b),(h,zC b),(e,zr b)] (fun r K'=>r=zF (!greatM b&&decide (zu b=0))/\K'=[(s,zk b),(h,zC b),(e,zr b)]):=by
 refine zl 11 hT Tryz.func4 fun Y hret=>?_;refine au 21042 ?_;intro jb hjb;refine au 6804235 ?_;refine bD Z Z Z Z (zjw hT) ?_ (hs:=(.none _));rintro r1 K2 ⟨rfl,rfl⟩;refine au 1300 ?_;refine bF 6 (fun g1_4=>?_) (fun g1_4=>?_)
 ·refine au 680 ?_;refine TK.clE Z Z Z Z (zao hT (by simp [greatM] at g1_4; omega) (by simp [greatM] at g1_4; omega)) ?_;refine au 352607 ?_;refine bB hret [(s,_),(h,_),(e,_)] ?_;exact ⟨by simp at g1_4; rw [g1_4]; simp; rfl,rfl⟩
 refine au 35250888 ?_;refine bB hret [(s,_),(h,_),(e,_)] ?_;exact ⟨by simp at g1_4; rw [g1_4]; rfl,rfl⟩
structure TrGl (b:TrB):Prop where
 cv:2<=b.canvas/\b.canvas<=60
 pa:0<=b.paint/\b.paint<=60
 fd:1<=b.fine.den/\b.fine.den<=20
 fn:0<=b.fine.num/\b.fine.num<=20
 fl:lowM b.fine.num b.fine.den=b.fine
structure TrEa (b:TrB):Prop where
 ne:2<=b.earth.length/\b.earth.length<=5
 ea:∀ i,i<b.earth.length->0<=(ptI b i).far/\(ptI b i).far<b.canvas/\0<=(ptI b i).high/\(ptI b i).high<=60
 sc:∀ i,i+1<b.earth.length->(ptI b i).far<(ptI b (i+1)).far
structure TrEy (b:TrB):Prop where
 np:b.props.length<=3
 pr:∀ i,i<b.props.length->(ptI b 0).far<=(prI b i).place/\(prI b i).place<=(ptI b (b.earth.length - 1)).far/\1<=(prI b i).tall/\(prI b i).tall<=20
 ny:1<=b.eyes.length/\b.eyes.length<=3
 ey:∀ i,i<b.eyes.length->1<=(eyI b i).back/\(eyI b i).back<=20/\0<=(eyI b i).lo/\(eyI b i).lo<=(eyI b i).hi/\(eyI b i).hi<=60/\(eyI b i).hi - (eyI b i).lo<3
theorem tr_ok {b:TrB} (h1:TrGl b) (h2:TrEa b) (h3:TrEy b):TrOk b:=⟨h1.cv,h1.pa,h1.fd,h1.fn,h1.fl,h2.ne,h2.ea,h2.sc,h3.np,h3.pr,h3.ny,h3.ey⟩
theorem zcp {p:Nat->Prop} {i:Nat} (h:∀ k,k<i->p k) (hi:p i):∀ k,k<i+1->p k:=fun k hk=>by
 rcases mR k i with h1 | h1
 ·exact h k h1
 ·rw [show k=i by omega]; exact hi
theorem asc_S {b:TrB} {i:Nat} (h:∀ k,k+1<i->(ptI b k).far<(ptI b (k+1)).far) (hi:0<i->(ptI b (i - 1)).far<(ptI b i).far):∀ k,k+1<i+1->(ptI b k).far<(ptI b (k+1)).far:=fun k hk=>by
 rcases mR (k+1) i with h1 | h1
 ·exact h k h1
 ·obtain rfl:i=k+1:=by omega
  exact hi (Nat.succ_pos _)
theorem fl_eq {r q:RatR} (h:r.num=q.num/\r.den=q.den):r=q:=by
 obtain ⟨a,b⟩:=r;obtain ⟨c,d⟩:=q;obtain ⟨rfl,rfl⟩:=h;rfl
instance:ApOf tp 30 93 2 16:={}
instance:BlOf tp 93 [(0,1),(1,1)]:={}
instance:TyZ tp 93 [.int .i64 0,.int .i64 0]:={}
instance:TyZA tp 34 [.v (.int .i64 0),.v (.int .i64 0),.v (.int .i64 0),.v (.int .i64 0),.v (.slice none 0 0),.v (.slice none 0 0),.v (.slice none 0 0),.v (.slice none 0 0)]:={}
theorem zk7 {main T} (hT:zm tp main T) {gm} {n d:Int} (hn : -1000000000000000000<=n/\n<=1000000000000000000) (hd:0<d/\d<=1000000000000000000) :
  zq tp T gm 48 [intA n,intA d] [] (fun r K'=>r=.agg (ratC (lowM n d))/\K'=[]):=by
 refine zl 31 hT Tryz.func48 fun Y hret=>?_;refine au 22042 ?_;intro jr hjr;refine au 93714223 ?_;constructor<;>intro hc0
 ·simp at hc0; omega
 refine au 1142120 ?_;refine bH Z (zeO Z Z hn) ?_;refine bH Z (zaH Z Z Z) ?_;refine au 13023551 ?_;refine bA [0,1,4,5,6] ?_;refine bE (fun m env K=>∃ (a c:Int),m=c.toNat/\EuclI n d a c/\env=intA n::intA d::naL 2 (.ptr jr 0::intA a::intA c::naL 24 [])/\K=[(jr,.cells [intA 0,intA 0] 28 true)]) d.toNat ⟨max n (-n),d,rfl,zhv hd.1,rfl,rfl⟩ fun m env K hI hnext=>?_;obtain ⟨a,c,rfl,he,rfl,rfl⟩:=hI;have h0:=he.a0;have h1:=he.c0;refine bG nQ ?_;refine au 9371422 ?_;constructor<;>intro hc1
 ·have hcn:0<c:=by simp at hc1; omega
  refine au 130120 ?_;refine bL [0,1,2,3,4,5] ?_;refine ad [[1,6],[1,5],[1,6]] ?_;refine bU [21,22] Z (q_rem Z Z Z oQ oQ) ?_;refine TD.as (pend':=[⟨3,[21,22],[]⟩,⟨2,[6],[]⟩]) [20] Z Z (zw Z Z) ?_;refine ad [[13,23],[14]] ?_;refine au 140 ?_;refine bA [0,1,4,5,6] ?_;exact hnext _ _ _ (zfN he.c0 oQ) ⟨c,a % c,rfl,zhw he oQ,rfl,rfl⟩
 obtain rfl:c=0:=by simp at hc1; omega
 obtain ⟨rfl,hg⟩:=zdX he;refine au 2160 ?_;refine bL [0,1,2,3,4,5,6,7] ?_;refine ad [[1,0],[1,5]] ?_;refine bU [24,25] Z (zcf Z Z Z (Int.gcd_dvd_left n d) hg oQ) ?_;refine ad [[1,1],[1,5]] ?_;refine bU [27,28] Z (zcf Z Z Z (Int.gcd_dvd_right n d) hg oQ) ?_;refine bU [26,29] Z (yo (l:=[_,_]) Z TyZ.h BlOf.h Z) ?_;refine TD.s (pend':=[]) [4,30] Z Z (zB Z Z zd.h Z Z mQ Z) ?_;refine ad [[14]] ?_;refine au 0 ?_;refine bB hret [] ?_;exact ⟨rfl,rfl⟩
theorem zic {main T} (hT:zm tp main T) {gm} {b:TrB} {e p y:Nat} {n:Int} (hne:2<=b.earth.length/\b.earth.length<=5) :
  zq tp T gm 93 [.agg (trC b e p y),intA n] [(e,ptO b)] (fun r K'=>r=zF (betw n (ptI b 0).far (ptI b (b.earth.length - 1)).far)/\K'=[(e,ptO b)]):=by
 refine zl 21 hT Tryz.func93 fun Y hret=>?_;refine au 21042 ?_;intro jb hjb;refine au 235 ?_;refine bL [0,1,2,3,4,5,6,7,8,9,10,11,12,13,14,15,16] ?_;refine ad [[1,1],[3,2],[10,6],[2,7],[3,8]] ?_;refine bT [9] Z (hq:=zg Z Z zd.h (mC _) (zW (c:=0) (pt_at b (i:=0) oQ Z) dQ Z)) (h:=?_);refine ad [[3,2],[10,11],[3,2],[10,13]] ?_;refine bU [14] Z (q_len Z Z Z Und.h) ?_;refine ad [[9,15],[2,12,16],[3,17]] ?_;refine bT [18] Z (hq:=zg Z Z zd.h (mC _) (zW (c:=0) (pt_at b (i:=b.earth.length - 1) oQ oQ) dQ Z)) (h:=?_);refine bQ (pend':=[⟨13,[17],[]⟩,⟨12,[12,16],[]⟩,⟨11,[15],[]⟩,⟨10,[14],[]⟩,⟨9,[13],[(_,_)]⟩,⟨8,[2],[]⟩,⟨7,[11],[(_,_)]⟩,⟨6,[2],[]⟩,⟨4,[8],[]⟩,⟨3,[7],[]⟩,⟨2,[6],[(_,_)]⟩,⟨1,[2],[]⟩]) [5,10,19] Z Z Z Z Z (yb hT) (fun r1 K2 h3=>⟨?_,?_⟩)
 ·rcases h3 with ⟨rfl,rfl⟩
  all_goals simp
 obtain ⟨rfl,rfl⟩:=h3;try simp only [cA]
 refine bS tQ ?_;refine ad [[13,20],[14]] ?_;refine au 0 ?_;refine bB hret [(e,_)] ?_;exact ⟨rfl,rfl⟩
theorem zhs {main T} (hT:zm tp main T) {gm} {b:TrB} {e p y:Nat} (hg:TrGl b) (hl:b.earth.length<=20) :
  zq tp T gm 49 [.agg (trC b e p y)] [(e,ptO b)] (fun r K'=>(∃ z,r=intA z/\(z=0->TrEa b))/\K'=[(e,ptO b)]):=by
 refine zl 49 hT Tryz.func49 fun Y hret=>?_;refine au 0 ?_;have hcv:=hg.cv;refine au 21042 ?_;intro jb hjb;refine au 28069067042235 ?_;refine TK.clE Z Z Z Z (yb hT) ?_;refine au 93300 ?_;constructor<;>intro hc0
 ·refine au 3542 ?_;refine bB hret [(e,_)] ?_;exact ⟨⟨2,rfl,fun h=>by cases h⟩,rfl⟩
 have hne:2<=b.earth.length/\b.earth.length<=5:=by simp [betw] at hc0; omega
 refine au 13035422120 ?_;refine bA [1,3] ?_;refine bE (fun n env K=>∃ (i:Nat),n=b.earth.length - i/\i<=b.earth.length/\(∀ k,k<i->0<=(ptI b k).far/\(ptI b k).far<b.canvas/\0<=(ptI b k).high/\(ptI b k).high<=60)/\(∀ k,k+1<i->(ptI b k).far<(ptI b (k+1)).far)/\env=.any::.ptr jb 0::.any::intA i::naL 45 []/\K=[(jb,.cells (trC b e p y) 34 true),(e,ptO b)]) (b.earth.length) ⟨0,rfl,mN _,fun k hk=>absurd hk (Nat.not_lt_zero _),fun k hk=>absurd hk (Nat.not_lt_zero _),rfl,rfl⟩ fun n env K hI hnext=>?_;obtain ⟨i,rfl,hi,hea,has,rfl,rfl⟩:=hI;refine bG nQ ?_;refine au 9372806906701422 ?_;constructor<;>intro hc1
 ·have hil:i<b.earth.length:=by simp at hc1; omega
  refine au 3601690670421302120 ?_;refine bH Z (zI Z Z zd.h mQ (pt_at b hil Z)) ?_;refine au 220 ?_;intro jx hjx;refine au 2406906706906704223170 ?_;refine TK.clE Z Z Z Z (yb hT) ?_;refine au 1300 ?_;refine bF 29 (fun g7_8=>?_) (fun g7_8=>?_)
  ·refine au 354218032608888 ?_;refine bB hret [(e,_)] ?_;exact ⟨⟨1,rfl,fun h=>by cases h⟩,rfl⟩
  refine au 690670 ?_;refine TK.clE Z Z Z Z (yb hT) ?_;refine au 93250300 ?_;constructor<;>intro hc2
  ·refine au 3542 ?_;refine bB hret [(e,_)] ?_;exact ⟨⟨1,rfl,fun h=>by cases h⟩,rfl⟩
  refine au 2120 ?_;refine bL [0,1,2,3,4,5,6,7,8,9,10,11,12,13] ?_;refine ad [[1,3],[4,35],[1,36]] ?_;refine TD.sp 37 (fun g9_3=>?_) (fun g9_3=>?_)
  ·have hi0:0<i:=by simp at g9_3; omega
   refine ad [[3,4,37],[10,37,38],[3,1,37],[10,37,40],[1,3,37],[9,37,42],[2,37,41,43],[3,37,44]] ?_;refine bT [37,45] Z (hq:=zg Z Z zd.h (mC _) (zW (c:=0) (pt_at b (i:=i - 1) oQ oQ) dQ Z)) (h:=?_);refine ad [[4,37,39,46],[7,37,47],[14]] ?_;refine au 9 ?_;constructor<;>intro hc3
   ·refine au 3542 ?_;refine bB hret [(e,_)] ?_;exact ⟨⟨7,rfl,fun h=>by cases h⟩,rfl⟩
   refine au 3523014140120 ?_;refine bA [1,3] ?_;refine bC [(jb,_),(e,_)] ?_;exact hnext _ _ _ oQ ⟨i+1,rfl,oQ,zcp hea (by simp [betw] at g7_8 hc2; omega),asc_S has fun _=>by simp at hc3; omega,rfl,rfl⟩
  refine ad [[11,4,37],[11,37,38],[11,1,37],[11,37,40],[11,3,37],[11,37,42],[11,37,41,43],[11,37,44],[11,37,45],[11,37,39,46],[6,37,47],[14]] ?_;refine au 3523014140120190 ?_;refine bA [1,3] ?_;refine bC [(jb,_),(e,_)] ?_;exact hnext _ _ _ oQ ⟨i+1,rfl,oQ,zcp hea (by simp [betw] at g7_8 hc2; omega),asc_S has fun h=>by simp at g9_3; omega,rfl,rfl⟩
 obtain rfl:i=b.earth.length:=by simp at hc1; omega
 refine au 3542160 ?_;refine bB hret [(e,_)] ?_;exact ⟨⟨0,rfl,fun _=>⟨hne,hea,has⟩⟩,rfl⟩
theorem zjp {main T} (hT:zm tp main T) {gm} {b:TrB} {e p y:Nat} (hq:TrEa b) (hl2:b.props.length<=20) (hl3:b.eyes.length<=20) :
  zq tp T gm 50 [.agg (trC b e p y)] [(e,ptO b),(p,prO b),(y,eyO b)] (fun r K'=>(∃ z,r=intA z/\(z=0->TrEy b))/\K'=[(e,ptO b),(p,prO b),(y,eyO b)]):=by
 refine zl 92 hT Tryz.func50 fun Y hret=>?_;refine au 0 ?_;have hne:=hq.ne;refine au 21042 ?_;intro jb hjb;refine au 93728069067042235 ?_;constructor<;>intro hc0
 ·refine au 3542 ?_;refine bB hret [(e,_),(p,_),(y,_)] ?_;exact ⟨⟨2,rfl,fun h=>by cases h⟩,rfl⟩
 have hnp:b.props.length<=3:=by simp at hc0; omega
 refine au 13035422120 ?_;refine bA [1,3] ?_;refine bE (fun n env K=>∃ (i:Nat),n=b.props.length - i/\i<=b.props.length/\(∀ k,k<i->(ptI b 0).far<=(prI b k).place/\(prI b k).place<=(ptI b (b.earth.length - 1)).far/\1<=(prI b k).tall/\(prI b k).tall<=20)/\env=.any::.ptr jb 0::.any::intA i::naL 88 []/\K=[(jb,.cells (trC b e p y) 34 true),(e,ptO b),(p,prO b),(y,eyO b)]) (b.props.length) ⟨0,rfl,mN _,fun k hk=>absurd hk (Nat.not_lt_zero _),rfl,rfl⟩ fun n env K hI hnext=>?_;obtain ⟨i,rfl,hi,hpr,rfl,rfl⟩:=hI;refine bG nQ ?_;refine au 9372806906701422 ?_;constructor<;>intro hc1
 ·have hil:i<b.props.length:=by simp at hc1; omega
  refine au 221302120 ?_;refine bL [0,1,2,3,4,5,6,7,8] ?_;refine ad [[12,1],[3,1],[10,19],[1,3],[2,20,21],[3,22]] ?_;refine bT [23] Z (hq:=zg Z Z zd.h (mC _) (zW (c:=0) (pr_at b (i:=i) hil Z) dQ Z)) (h:=?_);refine bQ (pend':=[⟨5,[22],[]⟩,⟨4,[20,21],[]⟩,⟨3,[3],[]⟩,⟨2,[19],[(_,_)]⟩,⟨1,[1],[]⟩]) [18,24] Z Z Z Z Z (zic hT hne) (fun r1 K2 h3=>⟨?_,?_⟩)
  ·rcases h3 with ⟨rfl,rfl⟩
   all_goals simp
  obtain ⟨rfl,rfl⟩:=h3;try simp only [cA]
  refine bS tQ ?_;refine bU [25] Z (q_not Z Z) ?_;refine ad [[14]] ?_;refine au 9 ?_;constructor<;>intro hc2
  ·refine au 3542 ?_;refine bB hret [(e,_),(p,_),(y,_)] ?_;exact ⟨⟨6,rfl,fun h=>by cases h⟩,rfl⟩
  refine au 670360169067042120 ?_;refine bH Z (zg Z Z zd.h mQ (zW (c:=1) (pr_at b (i:=i) hil Z) dQ Z)) ?_;refine TK.clE Z Z Z Z (yb hT) ?_;refine au 93300 ?_;constructor<;>intro hc3
  ·refine au 3542 ?_;refine bB hret [(e,_),(p,_),(y,_)] ?_;exact ⟨⟨1,rfl,fun h=>by cases h⟩,rfl⟩
  refine au 3523014140120 ?_;refine bA [1,3] ?_;refine bC [(jb,_),(e,_),(p,_),(y,_)] ?_;exact hnext _ _ _ oQ ⟨i+1,rfl,oQ,zcp hpr (by simp [betw] at hc2 hc3; omega),rfl,rfl⟩
 obtain rfl:i=b.props.length:=by simp at hc1; omega
 refine au 280690670422160 ?_;refine TK.clE Z Z Z Z (yb hT) ?_;refine au 93300 ?_;constructor<;>intro hc4
 ·refine au 3542 ?_;refine bB hret [(e,_),(p,_),(y,_)] ?_;exact ⟨⟨2,rfl,fun h=>by cases h⟩,rfl⟩
 have hny:1<=b.eyes.length/\b.eyes.length<=3:=by simp [betw] at hc4; omega
 refine au 13035422120 ?_;refine bA [1,4] ?_;refine bE (fun n env K=>∃ (i:Nat),n=b.eyes.length - i/\i<=b.eyes.length/\(∀ k,k<i->1<=(eyI b k).back/\(eyI b k).back<=20/\0<=(eyI b k).lo/\(eyI b k).lo<=(eyI b k).hi/\(eyI b k).hi<=60/\(eyI b k).hi - (eyI b k).lo<3)/\env=.any::.ptr jb 0::naL 2 (intA i::naL 87 [])/\K=[(jb,.cells (trC b e p y) 34 true),(e,ptO b),(p,prO b),(y,eyO b)]) (b.eyes.length) ⟨0,rfl,mN _,fun k hk=>absurd hk (Nat.not_lt_zero _),rfl,rfl⟩ fun n env K hI hnext1=>?_;obtain ⟨i,rfl,hi,hey,rfl,rfl⟩:=hI;refine bG nQ ?_;refine au 9372806906701422 ?_;constructor<;>intro hc5
 ·have hil:i<b.eyes.length:=by simp at hc5; omega
  refine au 3601690670421302120 ?_;refine bH Z (zI Z Z zd.h mQ (ey_at b hil Z)) ?_;refine au 220 ?_;intro jx hjx;refine au 690670423170 ?_;refine TK.clE Z Z Z Z (yb hT) ?_;refine au 1300 ?_;refine bF 56 (fun g16_5=>?_) (fun g16_5=>?_)
  ·refine au 354218032608888888812608888 ?_;refine bB hret [(e,_),(p,_),(y,_)] ?_;exact ⟨⟨1,rfl,fun h=>by cases h⟩,rfl⟩
  refine au 680670 ?_;refine TK.clE Z Z Z Z (zb1 hT (x:=⟨(eyI b i).lo,(eyI b i).hi⟩)) ?_;refine au 1250300 ?_;refine bF 62 (fun g16_11=>?_) (fun g16_11=>?_)
  ·refine au 3542180326088888888 ?_;refine bB hret [(e,_),(p,_),(y,_)] ?_;exact ⟨⟨1,rfl,fun h=>by cases h⟩,rfl⟩
  refine au 690670670690670670 ?_;refine bH Z (q_sub Z Z Z (by simp [betw,isBd] at g16_5 g16_11; omega)) ?_;refine au 932507 ?_;constructor<;>intro hc6
  ·refine au 3542 ?_;refine bB hret [(e,_),(p,_),(y,_)] ?_;exact ⟨⟨1,rfl,fun h=>by cases h⟩,rfl⟩
  refine au 3523014140120 ?_;refine bA [1,4] ?_;refine bC [(jb,_),(e,_),(p,_),(y,_)] ?_;exact hnext1 _ _ _ oQ ⟨i+1,rfl,oQ,zcp hey (by simp [betw,isBd] at g16_5 g16_11 hc6; omega),rfl,rfl⟩
 obtain rfl:i=b.eyes.length:=by simp at hc5; omega
 refine au 937280690670422160 ?_;constructor<;>intro hc7
 ·exact absurd hc7 dQ
 refine au 13035422120 ?_;refine TK.loop ?_;refine au 9372806906701422 ?_;constructor<;>intro hc8
 ·exact absurd hc8 dQ
 refine au 3542160 ?_;refine bB hret [(e,_),(p,_),(y,_)] ?_;exact ⟨⟨0,rfl,fun _=>⟨hnp,hpr,hny,hey⟩⟩,rfl⟩
theorem zgA {main T} (hT:zm tp main T) {gm} {b:TrB} {e p y:Nat} (hl:b.earth.length<=20) (hl2:b.props.length<=20) (hl3:b.eyes.length<=20) :
  zq tp T gm 14 [.agg (trC b e p y)] [(e,ptO b),(p,prO b),(y,eyO b)] (fun r K'=>(∃ z,r=intA z/\(z=0->TrOk b))/\K'=[(e,ptO b),(p,prO b),(y,eyO b)]):=by
 refine zl 45 hT Tryz.func14 fun Y hret=>?_;refine au 21042 ?_;intro jb hjb;refine au 69067042235 ?_;refine TK.clE Z Z Z Z (yb hT) ?_;refine au 1300 ?_;refine bF 8 (fun g1_5=>?_) (fun g1_5=>?_)
 ·refine au 354218032608888812608888812608888 ?_;refine bB hret [(e,_),(p,_),(y,_)] ?_;exact ⟨⟨1,rfl,fun h=>by cases h⟩,rfl⟩
 refine au 690670 ?_;refine TK.clE Z Z Z Z (yb hT) ?_;refine au 1250300 ?_;refine bF 14 (fun g1_11=>?_) (fun g1_11=>?_)
 ·refine au 3542180326088888126088888 ?_;refine bB hret [(e,_),(p,_),(y,_)] ?_;exact ⟨⟨1,rfl,fun h=>by cases h⟩,rfl⟩
 refine au 690670670 ?_;refine TK.clE Z Z Z Z (yb hT) ?_;refine au 1250300 ?_;refine bF 21 (fun g1_18=>?_) (fun g1_18=>?_)
 ·refine au 3542180326088888 ?_;refine bB hret [(e,_),(p,_),(y,_)] ?_;exact ⟨⟨1,rfl,fun h=>by cases h⟩,rfl⟩
 refine au 690670670 ?_;refine TK.clE Z Z Z Z (yb hT) ?_;refine au 93250300 ?_;constructor<;>intro hc0
 ·refine au 3542 ?_;refine bB hret [(e,_),(p,_),(y,_)] ?_;exact ⟨⟨1,rfl,fun h=>by cases h⟩,rfl⟩
 have hg4:(2<=b.canvas/\b.canvas<=60)/\(0<=b.paint/\b.paint<=60)/\(1<=b.fine.den/\b.fine.den<=20)/\0<=b.fine.num/\b.fine.num<=20:=by simp [betw] at g1_5 g1_11 g1_18 hc0; omega
 refine au 22120 ?_;refine TK.dr [0,1,2,3,4,5,7,8,6,9] [0,1,2,3,4,5,6,7,8,9] ?_;refine ad [[3,1],[3,28],[10,29],[3,1],[3,31],[10,32],[3,1],[12,35]] ?_;refine bQ (pend':=[⟨8,[35],[(_,_)]⟩,⟨7,[1],[]⟩,⟨4,[31],[]⟩,⟨3,[1],[]⟩,⟨1,[28],[]⟩,⟨0,[1],[]⟩]) [30,33] Z Z Z Z Z (zk7 hT oQ oQ) (fun r13 K14 h15=>⟨?_,?_⟩)
 ·rcases h15 with ⟨rfl,rfl⟩
  all_goals simp
 obtain ⟨rfl,rfl⟩:=h15;try simp only [cA]
 refine bS tQ ?_;refine bU [34,36] Z (vv Z Z Z Z Z FlatF.h EqG.h) ?_;refine ad [[14]] ?_;refine au 9 ?_;constructor<;>intro hc1
 ·refine au 3542 ?_;refine bB hret [(e,_),(p,_),(y,_)] ?_;exact ⟨⟨3,rfl,fun h=>by cases h⟩,rfl⟩
 have hgl:TrGl b:=⟨hg4.1,hg4.2.1,hg4.2.2.1,hg4.2.2.2,fl_eq (by simpa using hc1)⟩;refine au 680422120 ?_;refine bD Z Z Z Z (zhs hT hgl hl) ?_;rintro r16 K17 ⟨⟨z,rfl,hz⟩,rfl⟩;refine au 93714235 ?_;constructor<;>intro hc2
 ·refine au 35142 ?_;refine bB hret [(e,_),(p,_),(y,_)] ?_;exact ⟨⟨_,rfl,fun h=>absurd h (by simpa using hc2)⟩,rfl⟩
 have hea:=hz (by simpa using hc2);refine au 68042120 ?_;refine bD Z Z Z Z (zjp hT hea hl2 hl3) ?_;rintro r19 K20 ⟨⟨z2,rfl,hz2⟩,rfl⟩;refine au 35 ?_;refine bB hret [(e,_),(p,_),(y,_)] ?_;exact ⟨⟨_,rfl,fun h=>tr_ok hgl hea (hz2 h)⟩,rfl⟩
theorem zgM {main T} (hT:zm tp main T) {gm} {b:TrB} {e p y:Nat} :
  zq tp T gm 13 [.agg (trC b e p y)] [] (fun r K'=>(∃ z,r=zF z/\(z=false->b.earth.length<=20/\b.props.length<=20/\b.eyes.length<=20))/\K'=[]):=by
 refine zl 25 hT Tryz.func13 fun Y hret=>?_;refine au 21042 ?_;intro jb hjb;refine au 172806906704235 ?_;refine bF 7 (fun g1_5=>?_) (fun g1_5=>?_)
 ·refine au 3526088881260888812608888 ?_;refine bB hret [] ?_;exact ⟨⟨_,rfl,fun h=>by cases h⟩,rfl⟩
 refine au 12507280690670 ?_;refine bF 13 (fun g1_11=>?_) (fun g1_11=>?_)
 ·refine au 35260888812608888 ?_;refine bB hret [] ?_;exact ⟨⟨_,rfl,fun h=>by cases h⟩,rfl⟩
 refine au 12507280690670 ?_;refine bF 19 (fun g1_17=>?_) (fun g1_17=>?_)
 ·refine au 352608888 ?_;refine bB hret [] ?_;exact ⟨⟨_,rfl,fun h=>by cases h⟩,rfl⟩
 refine au 352507280690670 ?_;refine bB hret [] ?_;exact ⟨⟨_,rfl,fun h=>by simp at g1_5 g1_11 g1_17 h; omega⟩,rfl⟩
theorem zjq {main T} (hT:zm tp main T) {gm} {b:TrB} {e p y:Nat} :
  zq tp T gm 5 [.agg (trC b e p y)] [(e,ptO b),(p,prO b),(y,eyO b)] (fun r K'=>(∃ z,r=zF z/\(z=true->TrOk b))/\K'=[(e,ptO b),(p,prO b),(y,eyO b)]):=by
 refine zl 11 hT Tryz.func5 fun Y hret=>?_;refine au 21042 ?_;intro jb hjb;refine au 6804235 ?_;refine bD Z Z Z Z (zgM hT) ?_;rintro r1 K2 ⟨⟨z,rfl,hz⟩,rfl⟩;refine au 1300 ?_;refine bF 6 (fun g1_4=>?_) (fun g1_4=>?_)
 ·obtain ⟨hl1,hl2,hl3⟩:=hz (by simpa using g1_4);refine au 680 ?_;refine bD Z Z Z Z (zgA hT hl1 hl2 hl3) ?_;rintro r4 K5 ⟨⟨c0,rfl,hck⟩,rfl⟩;refine au 352607 ?_;refine bB hret [(e,_),(p,_),(y,_)] ?_;exact ⟨⟨_,rfl,fun h=>hck (by simpa using h)⟩,rfl⟩
 refine au 35250888 ?_;refine bB hret [(e,_),(p,_),(y,_)] ?_;exact ⟨⟨_,rfl,fun h=>by cases h⟩,rfl⟩
theorem zg1 {main T} (hT:zm tp main T) {gm} {b:TrB} {e p y:Nat} {j:Nat} {q t:Int} (hnp:b.props.length<=3) :
  zq tp T gm 7 [.agg (trC b e p y),.row j 1,intA t] [(p,prO b),(j,.row [intA q] 3 1)] (fun r K'=>∃ p2,r=.agg (trC (propB b ⟨q,t⟩) e p2 y)/\K'=[(p2,prO (propB b ⟨q,t⟩)),(p,prO b)]):=by
 refine zl 33 hT Tryz.func7 fun Y hret=>?_;refine au 0 ?_;have hfl:=yz prC 2 (fun _=>rfl) b.props;have hpl:(propB b ⟨q,t⟩).props.length=b.props.length+1:=by unfold propB; simp
 have hpf:(propB b ⟨q,t⟩).props.flatMap prC=b.props.flatMap prC++[intA q,intA t]:=by unfold propB; simp [prC]
 refine au 21042 ?_;intro jb hjb;refine au 220 ?_;intro jr hjr;refine au 220680423 ?_;intro jo hjo;refine au 23170 ?_;refine au 4 ?_;refine bI Z Z Z (zp (l:=[]) Z zz.h TyZ.h dQ dQ Z) (fun _=>zn rfl tQ) fun jn hjn=>?_;refine au 690670 ?_;refine TK.appG (ln:=b.props.flatMap prC) Z Z Z ApOf.h Z mQ Z Z Z (fun hp=>wB mQ oQ (kF hfl oQ)) (fun h=>lK oQ) (kv prC (fun _=>rfl) _) (by unfold maxLen; omega) oQ (fun _=>uQ) (fun _=>zn rfl tQ) fun p1=>?_;simp only [lC,mO];refine au 130354223170670 ?_;refine TK.loop ?_;refine au 93728011422 ?_;constructor<;>intro hc0
 ·
  refine au 1302120 ?_;refine bL [0,1,2,3,4,5,6,7,8,9,10,11] ?_;refine ad [[3,7],[10,21],[1,1],[1,8]] ?_;refine bT [23,24] Z (hq:=yZ Z Z Z zz.h (mC _) oQ oQ) (h:=?_);refine ad [[10,25],[1,2]] ?_;refine bU [26,27] Z (yo (l:=[_,_]) Z TyZ.h BlOf.h Z) ?_;refine bV (pend':=[⟨6,[2],[]⟩,⟨5,[25],[(_,_)]⟩,⟨4,[23,24],[(_,_)]⟩,⟨3,[8],[]⟩,⟨2,[1],[]⟩,⟨1,[21],[(_,_)]⟩,⟨0,[7],[]⟩]) [28] Z Z Z Z Z (zp (l:=[_,_]) Z zz.h TyZ.h dQ dQ Z) (fun _=>zn rfl tQ) sQ fun jm hjm=>?_;refine TD.capp (pend':=[⟨6,[2],[]⟩,⟨5,[25],[(_,_)]⟩,⟨4,[23,24],[(_,_)]⟩,⟨3,[8],[]⟩,⟨2,[1],[]⟩,⟨0,[7],[]⟩]) [22,29] Z Z Z Z Z (a_app Z ApOf.h Z mQ (by rw [yz prC 2 (fun _=>rfl)]) rfl (yp (ln:=[_,_]) mQ dQ sQ rfl) oQ rfl (by unfold maxLen; omega) oQ) (fun _=>uQ) (fun _=>zn rfl tQ) (fun _=>sQ) fun p2=>?_;refine ad [[3,7]] ?_;refine TD.s (pend':=[]) [30,31] Z Z (zB Z Z zd.h Z Z mQ Z) ?_;refine ad [[14]] ?_;refine au 3523014140 ?_;refine TK.inLoop ?_;refine au 93728011422 ?_;constructor<;>intro hc0
  ·exact absurd hc0 dQ
  refine au 2160 ?_;refine TK.unrowAt (c:=jo) (i:=5) (j:=p2) Z mQ uQ ?_;refine bY (j:=p2) ?_;refine au 31706804 ?_;refine bB hret [(p2,_),(p,_)] ?_;exact ⟨p2,by unfold trC; rw [hpl] <;> rfl,by show _=(p2,AObj.cells (List.flatMap prC (propB b ⟨q,t⟩).props) 93 false)::_; rw [hpf] <;> rfl⟩
 exact absurd hc0 dQ
end Go.Vel
namespace Go.Vel
open Go Go.Conc
theorem zbR (b:RBk) (l:List Int):∀ (o:List Int) (z z':Alloc),z.left<=z'.left->(o.foldl (allocM b l) z).left<=(o.foldl (allocM b l) z').left
 | [],z,z',h=>h
 | k::o,z,z',h=>by
  rw [List.foldl_cons,List.foldl_cons];refine zbR b l o _ _ ?_;show z.left - min z.left (cutS b l k.toNat).most<=z'.left - min z'.left (cutS b l k.toNat).most;omega
theorem zgO {b:RBk} {r r':Int} (h:r<=r') {l s:List Int} (hs:(hangM (atRound b r') l s).isSome=true):(hangM (atRound b r) l s).isSome=true:=by
 unfold hangM at hs ⊢;by_cases hf:fitsM (atRound b r') l=false
 ·rw [if_pos hf] at hs; cases hs
 ·have hf':¬ fitsM (atRound b r) l=false:=hf;rw [if_neg hf] at hs;rw [if_neg hf'];dsimp only at hs ⊢;by_cases h0:0<(allocA (atRound b r') l (ye (atRound b r') s)).left
  ·rw [if_pos h0] at hs; cases hs
  ·have hm:(allocA (atRound b r) l (ye (atRound b r) s)).left<=(allocA (atRound b r') l (ye (atRound b r') s)).left:=by
    refine zbR b l (ordM b l) _ _ ?_;show r - b.steps+_<=r' - b.steps+_;omega
   rw [if_neg oQ];rfl
theorem u6 (b:RBk) (all:List (List Int)) (l:List Int):sqOk b all l=true↔∀ s∈all,(hangM b l s).isSome=true:=by
 unfold sqOk squaresM waysM;have key:(all.filterMap (hangM b l)).length<all.length↔¬ ∀ s∈all,(hangM b l s).isSome=true:=by
  induction all with
  | nil=>simp
  | cons s r ih =>
   have hle:(r.filterMap (hangM b l)).length<=r.length:=List.length_filterMap_le _ _;cases hs:hangM b l s with
   | none =>
    rw [List.filterMap_cons_none hs];simp [hs];omega
   | some z =>
    rw [List.filterMap_cons_some hs,lZ,lZ,Nat.succ_lt_succ_iff,ih];simp [hs]
 by_cases h:(all.filterMap (hangM b l)).length<all.length
 ·rw [if_pos h];simp only [Option.isSome_none,Bool.false_eq_true,false_iff];exact key.1 h
 ·rw [if_neg h];simp only [Option.isSome_some,true_iff];exact Classical.not_not.1 fun hh=>h (key.2 hh)
theorem zgx {b:RBk} {all:List (List Int)} {r r':Int} (h:r<=r') (hc:canAt b all r'=true):canAt b all r=true:=by
 unfold canAt at hc ⊢;rw [List.any_eq_true] at hc ⊢;obtain ⟨c,h1,h2⟩:=hc;refine ⟨c,h1,?_⟩;rw [mX] at h2 ⊢;refine ⟨h2.1,?_⟩;rw [u6] at *
 exact fun s hs=>zgO h (h2.2 s hs)
theorem uo (b:RBk) (all:List (List Int)):∀ k,(∀ n,widestL b all k=some n->b.steps<=n/\n<b.steps+k/\canAt b all n=true/\∀ r,n<r->r<b.steps+k->canAt b all r=false)/\(widestL b all k=none->∀ r,b.steps<=r->r<b.steps+k->canAt b all r=false)
 | 0=>⟨(fun n h=>by cases h),(fun _ r h1 h2=>by omega)⟩
 | k+1=>by
  obtain ⟨i1,i2⟩:=uo b all k;unfold widestL;by_cases hc:canAt b all (b.steps+k)=true
  ·rw [if_pos hc];refine ⟨fun n h=>?_,fun h=>by cases h⟩;cases h;exact ⟨by omega,oQ,hc,fun r h1 h2=>by omega⟩
  ·rw [if_neg hc];have hc:canAt b all (b.steps+k)=false:=by simpa using hc
   refine ⟨fun n h=>?_,fun h r h1 h2=>?_⟩
   ·obtain ⟨q1,q2,q3,q4⟩:=i1 n h;refine ⟨q1,oQ,q3,fun r h1 h2=>?_⟩;by_cases e:r=b.steps+k
    ·rw [e]; exact hc
    ·exact q4 r h1 oQ
   ·by_cases e:r=b.steps+k
    ·rw [e]; exact hc
    ·exact i2 h r h1 oQ
theorem zcr {b:RBk} {all:List (List Int)} (h2:b.steps<=40) {r:Int} (h0:b.steps<=r) (h1:r<=40):canAt b all r=((widestM b all).isSome&&decide (r<=(widestM b all).getD 0)):=by
 obtain ⟨i1,i2⟩:=uo b all (41 - b.steps).toNat;unfold widestM;cases h:widestL b all (41 - b.steps).toNat with
 | none =>
  rw [i2 h r h0 oQ]; rfl
 | some n =>
  obtain ⟨q1,q2,q3,q4⟩:=i1 n h;show canAt b all r=(true&&decide (r<=n));rw [Bool.true_and];by_cases hr:r<=n
  ·rw [decide_eq_true hr];exact zgx hr q3
  ·rw [decide_eq_false hr];exact q4 r oQ oQ
theorem ziU {b:RBk} {all:List (List Int)} (h2:b.steps<=40) {n:Int} (h:widestM b all=some n):b.steps<=n/\n<=40:=by
 obtain ⟨i1,_⟩:=uo b all (41 - b.steps).toNat;obtain ⟨q1,q2,_⟩:=i1 n h;omega
def otherM (c n:Nat):List Int:=if zt c n=[] then [((c % n:Nat):Int)] else zt c n
theorem zbm (x:List Int):yw x x=false:=by
 cases h:yw x x with
 | false=>rfl
 | true=>rw [ko,zeo] at h; omega
theorem zi4 {b:RBk} {all:List (List Int)} {c d:Nat} (h:PlanA b all cheaperM c) (h0:0<d) (h1:d<2 ^ b.seams.length) (hs:sqOk b all (zt d b.seams.length)=true):sqHi b all (zt c b.seams.length)<=sqHi b all (zt d b.seams.length)/\(sqHi b all (zt c b.seams.length)<sqHi b all (zt d b.seams.length)\/yw (zt d b.seams.length) (zt c b.seams.length)=false):=by
 rcases h.2.2.2 d h0 h1 hs with e | e
 ·obtain ⟨e1,e2⟩:=Prod.mk.inj e;exact ⟨by omega,.inr (by rw [e1]; exact zbm _)⟩
 ·rw [kZ] at e;dsimp only at e;rcases e with e | ⟨e,e2⟩
  ·exact ⟨by omega,.inl e⟩
  ·exact ⟨by omega,.inr (zaJ e2)⟩
theorem zkT {b:RBk} {all:List (List Int)} {c d:Nat} (h:PlanA b all shorterM c) (h0:0<d) (h1:d<2 ^ b.seams.length) (hs:sqOk b all (zt d b.seams.length)=true):yw (zt d b.seams.length) (zt c b.seams.length)=false:=by
 rcases h.2.2.2 d h0 h1 hs with e | e
 ·rw [(Prod.mk.inj e).1]; exact zbm _
 ·exact zaJ e
theorem vK {b:RBk} {all:List (List Int)} {c:Nat} {bt:List Int×Int->List Int×Int->Bool} (h:PlanA b all bt c) (hn:NoPlan b all):False:=by
 have:=hn c h.1 h.2.1;rw [h.2.2.1] at this;cases this
theorem zeU {b:RBk}:∀ (l:List RSeam) (last:Int),(∀ s∈l,seamB b s=true/\last<s.step)->(l.Pairwise fun s t=>s.step<t.step)->seamsL b last l=0
 | [],_,_,_=>rfl
 | s::r,last,h,hp=>by
  obtain ⟨p1,p2⟩:=List.pairwise_cons.1 hp;have h1:=h s sQ;unfold seamsL;rw [if_neg (by rw [h1.1]; decide),if_neg oQ];exact zeU r _ (fun t ht=>⟨(h t (by simp [ht])).1,p1 t ht⟩) p2
theorem zcX {b:RBk}:∀ (l:List RBand) (i:Nat),(∀ k x,l[k]? =some x->bandB x=true/\x.high<wideM b (i+k))->clothsL b i l=0
 | [],_,_=>rfl
 | x::r,i,h=>by
  have h1:=h 0 x rfl;unfold clothsL;rw [if_neg (by rw [h1.1]; decide),if_neg (by have:=h1.2; rw [Nat.add_zero] at this; omega)];exact zcX r _ fun k y hy=>by
   have:=h (k+1) y (by simpa using hy);rwa [show i+(k+1)=i+1+k by omega] at this
theorem zf3 {b:RBk}:∀ (l:List RMeas),(∀ m∈l,0<=m.cloth/\m.cloth<b.seams.length/\1<=m.many/\m.many<=b.seams.length/\0<=m.wide/\m.wide<=24)->measL b l=0
 | [],_=>rfl
 | m::r,h=>by
  have h1:=h m sQ;have h2:thereM b m.cloth=0:=by unfold thereM; rw [if_pos (by simp [betw]; omega)]
  have h3:measB b m=true:=by simp only [measB,betw,mX,decide_eq_true_eq]; omega
  unfold measL;rw [if_neg (by rw [h2]; decide),if_neg (by rw [h3]; decide)];exact zf3 r fun y hy=>h y (by simp [hy])
theorem zjQ {b:RBk} (h:ROk b):zu b=0:=by
 have hr:=h.rnd;have h1:roundsM b=0:=by
  unfold roundsM;rw [if_pos];simp only [betw,mX,decide_eq_true_eq];exact ⟨⟨⟨hr.steps,hr.round⟩,hr.roll⟩,hr.rolls⟩
 have hs:=h.sms;have sat:∀ i,(hi:i<b.seams.length)->b.seams[i]=sm b i:=fun i hi=>by
  have:=yO hi;rw [lA hi] at this;exact Option.some.inj this
 have h2:seamsM b=0:=by
  have hbl:betw b.seams.length 1 5=true:=by
   have:=hs.len;simp only [betw,mX,decide_eq_true_eq];omega
  unfold seamsM;rw [if_neg (by rw [hbl]; decide)];refine zeU _ _ (fun s hm=>?_) (List.pairwise_iff_getElem.2 fun i j hi hj hij=>by rw [sat i hi,sat j hj]; exact hs.asc i j hij hj);obtain ⟨i,hi,rfl⟩:=List.getElem_of_mem hm;rw [sat i hi];have:=hs.fld i hi;exact ⟨by simp only [seamB,betw,mX,decide_eq_true_eq]; omega,oQ⟩
 have h3:clothsM b=0:=by
  unfold clothsM;rw [if_neg (by rw [h.cls.len]; simp)];refine zcX _ _ fun k x hx=>?_;have hk:k<b.shrinks.length:=by
   rcases mR k b.shrinks.length with h | h
   ·exact h
   ·rw [lU h] at hx; cases hx
  rw [kr hk] at hx;cases hx;have:=h.cls.bnd k (by have:=h.cls.len; omega);exact ⟨by simp only [bandB,isBd,mX,decide_eq_true_eq]; omega,by rw [mO]; exact this.2.2.2.2⟩
 have h4:measM b=0:=by
  unfold measM;have:=h.mes.len;rw [if_neg oQ];exact zf3 _ h.mes.bnd
 unfold zu;rw [if_neg (by rw [h1]; decide),if_neg (by rw [h2]; decide),if_neg (by rw [h3]; decide)];exact h4
def sumF (f:Nat->Int):Nat->Int
 | 0=>0
 | k+1=>sumF f k+f k
theorem ww {f g:Nat->Int}:∀ n,(∀ i,i<n->f i=g i)->sumF f n=sumF g n
 | 0,_=>rfl
 | n+1,h=>by
  unfold sumF;rw [ww n (fun i hi=>h i oQ),h n oQ]
theorem zaa {f g:Nat->Int} {k:Nat}:∀ n,k<n->(∀ i,i≠k->g i=f i)->sumF g n=sumF f n - f k+g k
 | 0,h,_=>by omega
 | n+1,h,he=>by
  unfold sumF;by_cases e:k=n
  ·subst e;rw [ww k (fun i hi=>he i oQ)];omega
  ·rw [zaa n oQ he,he n (fun h=>e h.symm)];omega
theorem uj {f:Nat->Int} {n:Nat} (h:∀ i,n<=i->f i=0):∀ k,sumF f (n+k)=sumF f n
 | 0=>rfl
 | k+1=>by
  show sumF f (n+k)+f (n+k)=_;rw [uj h k,h _ oQ,Int.add_zero]
theorem u9 (f g:Nat->Int):∀ n,sumF (fun i=>f i+g i) n=sumF f n+sumF g n
 | 0=>rfl
 | n+1=>by
  show sumF (fun i=>f i+g i) n+(f n+g n)=sumF f n+f n+(sumF g n+g n);rw [u9 f g n];omega
theorem zda {lt:Int->Int->Bool} {x:Int} {S:List Int}:∀ j,j<=S.length->(insJ lt x S j).Perm (x::S)
 | 0,_=>List.Perm.refl _
 | j+1,h=>by
  unfold insJ;rw [lA oQ];dsimp only;split
  ·exact zda j oQ
  ·have h1:=List.perm_middle (a:=x) (l₁:=S.take (j+1)) (l₂:=S.drop (j+1));rwa [List.take_append_drop] at h1
theorem u5 {lt:Int->Int->Bool} {l:List Int}:∀ i,i<=l.length->(sortN lt l i).Perm (l.take i)
 | 0,_=>by rw [List.take_zero]; exact List.Perm.refl _
 | i+1,h=>by
  have hg:l[i]? =some l[i]:=lA oQ;rw [kW hg,yC hg];exact (zda _ (mL _)).trans ((List.Perm.cons _ (u5 i oQ)).trans (List.perm_append_singleton _ _).symm)
theorem zdn (b:RBk) (l:List Int):(ordM b l).Nodup:=by
 unfold ordM sortR;refine (u5 _ (mL _)).nodup_iff.2 ?_;rw [lW];unfold idxM;exact List.Pairwise.map _ (fun a b hab=>by intro h; exact hab oQ) List.nodup_range
theorem zd7 {L:List Int} {k i:Nat} {v:Int} (h:k<L.length):(L.set k v).getD i 0=if i=k then v else L.getD i 0:=by
 rw [lE,List.getElem?_set,lE];by_cases e:k=i
 ·rw [if_pos e,if_pos h,if_pos e.symm]; rfl
 ·rw [if_neg e,if_neg (fun hh=>e hh.symm)]
theorem zcT {b:RBk} {l:List Int}:∀ (o:List Int) (z:Alloc),o.Nodup->(∀ k∈o,0<=k/\k<l.length)->(∀ k∈o,z.steps.getD k.toNat 0=0)->z.steps.length=l.length->0<=z.left->(∀ k∈o,0<=(cutS b l k.toNat).most)->(∀ i,0<=z.steps.getD i 0/\(i<l.length->z.steps.getD i 0<=(cutS b l i).most\/(i:Int)∈o)) ->
  sumF (fun i=>(o.foldl (allocM b l) z).steps.getD i 0) l.length+(o.foldl (allocM b l) z).left=sumF (fun i=>z.steps.getD i 0) l.length+z.left /\
  (o.foldl (allocM b l) z).squares - sumF (fun i=>(o.foldl (allocM b l) z).steps.getD i 0*(cutS b l i).busy) l.length=z.squares - sumF (fun i=>z.steps.getD i 0*(cutS b l i).busy) l.length /\
  0<=(o.foldl (allocM b l) z).left/\∀ i,0<=(o.foldl (allocM b l) z).steps.getD i 0/\(i<l.length->(o.foldl (allocM b l) z).steps.getD i 0<=(cutS b l i).most)
 | [],z,_,_,_,_,hz,_,hm=>⟨rfl,rfl,hz,fun i=>⟨(hm i).1,fun hi=>by
  rcases (hm i).2 hi with h | h
  ·exact h
  ·cases h⟩⟩
 | k::o,z,hn,ho,h0,hlen,hz,hmo,hm=>by
  obtain ⟨n1,n2⟩:=List.nodup_cons.1 hn;have hk:=ho k sQ;have hkl:k.toNat<z.steps.length:=by omega
  have hk0:=h0 k sQ;have hmk:=hmo k sQ;rw [List.foldl_cons];obtain ⟨v,hv⟩:∃ v,v=min z.left (cutS b l k.toNat).most:=⟨_,rfl⟩;have hz':allocM b l z k=⟨z.steps.set k.toNat v,z.squares+v*(cutS b l k.toNat).busy,z.left - v⟩:=by rw [hv]; rfl
  have hs:∀ i,(z.steps.set k.toNat v).getD i 0=if i=k.toNat then v else z.steps.getD i 0:=fun i=>zd7 hkl
  obtain ⟨r1,r2,r3,r4⟩:=zcT o (allocM b l z k) n2 (fun x hx=>ho x (by simp [hx])) (fun x hx=>by
   rw [hz'];show (z.steps.set k.toNat v).getD x.toNat 0=0;have hx0:=ho x (by simp [hx]);have hne:x≠k:=fun e=>n1 (e ▸ hx);rw [hs,if_neg oQ];exact h0 x (by simp [hx])) (by rw [hz']; show (z.steps.set k.toNat v).length=_; rw [List.length_set]; exact hlen) (by rw [hz']; show 0<=z.left - v; omega) (fun x hx=>hmo x (by simp [hx])) (fun i=>by
   rw [hz'];show 0<=(z.steps.set k.toNat v).getD i 0/\(i<l.length->(z.steps.set k.toNat v).getD i 0<=_\/_);rw [hs];by_cases e:i=k.toNat
   ·rw [if_pos e];exact ⟨by omega,fun _=>.inl (by rw [e]; omega)⟩
   ·rw [if_neg e];refine ⟨(hm i).1,fun hi=>?_⟩;rcases (hm i).2 hi with h | h
    ·exact .inl h
    ·rcases lI.1 h with h | h
     ·omega
     ·exact .inr h)
  have e1:sumF (fun i=>(allocM b l z k).steps.getD i 0) l.length=sumF (fun i=>z.steps.getD i 0) l.length+v:=by
   rw [hz'];rw [zaa (f:=fun i=>z.steps.getD i 0) (k:=k.toNat) l.length oQ (fun i hi=>by show (z.steps.set k.toNat v).getD i 0=_; rw [hs,if_neg hi])];show _ - z.steps.getD k.toNat 0+(z.steps.set k.toNat v).getD k.toNat 0=_;rw [hs,if_pos rfl,hk0];omega
  have e2:sumF (fun i=>(allocM b l z k).steps.getD i 0*(cutS b l i).busy) l.length=sumF (fun i=>z.steps.getD i 0*(cutS b l i).busy) l.length+v*(cutS b l k.toNat).busy:=by
   rw [hz'];rw [zaa (f:=fun i=>z.steps.getD i 0*(cutS b l i).busy) (k:=k.toNat) l.length oQ (fun i hi=>by show (z.steps.set k.toNat v).getD i 0*_=_; rw [hs,if_neg hi])];show _ - z.steps.getD k.toNat 0*_+(z.steps.set k.toNat v).getD k.toNat 0*_=_;rw [hs,if_pos rfl,hk0,Int.zero_mul];omega
  rw [e1] at r1;rw [e2] at r2;rw [hz'] at r1 r2 r3 r4 ⊢;dsimp only at r1 r2;refine ⟨by omega,oQ,r3,r4⟩
theorem zdu (b:RBk) (l:List Int):∀ k,spoilM b l k=sumF (fun i=>(cutS b l i).spoil) k
 | 0=>rfl
 | k+1=>by
  show spoilM b l k+_=sumF _ k+_;rw [zdu b l k]
def needM (b:RBk) (l w:List Int) (k:Nat):Int:=sumF (fun i=>(cutS b l i).spoil+w.getD i 0*(cutS b l i).busy) k
theorem zbz {b:RBk} (hb:ROk b) {l s w:List Int} {q:Int} (hl:CutsOk b l) (hs:StOk b s) (h:hangM b l s=some (w,q)):fitsM b l=true/\w.length=l.length/\sumF (fun i=>w.getD i 0) l.length=ye b s/\q=needM b l w l.length/\∀ i,0<=w.getD i 0/\(i<l.length->w.getD i 0<=(cutS b l i).most):=by
 obtain ⟨hwl,_⟩:=zhG hb hl hs h;unfold hangM at h;split at h
 ·cases h
 ·rename_i hf;dsimp only at h;split at h
  ·cases h
  ·rename_i hle;have hr:∀ i,(alloc0 b l (ye b s)).steps.getD i 0=0:=fun i=>by
    show (mB l.length (0:Int)).getD i 0=0;rw [lE,List.getElem?_replicate];split <;> rfl
   obtain ⟨r1,r2,r3,r4⟩:=zcT (b:=b) (l:=l) (ordM b l) (alloc0 b l (ye b s)) (zdn b l) (fun k hk=>wu hk) (fun k _=>hr _) (by show (mB l.length (0:Int)).length=_; rw [List.length_replicate]) (uT hb hs).1 (fun k hk=>by
    have:=wu hk;exact (hb.sms.fld _ (hl.lt (k:=k.toNat) oQ).2.2).2.2.1) (fun i=>by
    rw [hr];refine ⟨Int.le_refl _,fun hi=>.inl ?_⟩;exact (hb.sms.fld _ (hl.lt hi).2.2).2.2.1)
   have z1:sumF (fun i=>(alloc0 b l (ye b s)).steps.getD i 0) l.length=0:=by
    rw [ww (g:=fun _=>0) l.length (fun i _=>hr i)];have:=uj (f:=fun _=>0) (n:=0) (fun _ _=>rfl) l.length;rwa [mO] at this
   have z2:sumF (fun i=>(alloc0 b l (ye b s)).steps.getD i 0*(cutS b l i).busy) l.length=0:=by
    rw [ww (g:=fun _=>0) l.length (fun i _=>by rw [hr i,Int.zero_mul])];have:=uj (f:=fun _=>0) (n:=0) (fun _ _=>rfl) l.length;rwa [mO] at this
   rw [z1] at r1;rw [z2] at r2;have q1:(alloc0 b l (ye b s)).left=ye b s:=rfl;have q2:(alloc0 b l (ye b s)).squares=spoilM b l l.length:=rfl;cases h;refine ⟨by simpa using hf,hwl,?_,?_,r4⟩
   ·unfold allocA at hle ⊢;omega
   ·unfold needM;rw [u9,<- zdu];unfold allocA;omega
def manyM (b:RBk) (l:List Int) (i:Nat):Int:=if i+1<l.length then zK l (i+1) - zK l i else zK l 0 - zK l i+b.seams.length
def nowS (b:RBk) (s:List Int) (x:Nat):Int:=sumF (nowM b s) x
end Go.Vel
namespace Go.Vel
open Go Go.Conc Go.Proofs
def u16A (x:Fin 65536):AV:=.v (.int .u16 (x.1:Int))
def u16O (l:List (Fin 65536)):AObj:=.cells (l.flatMap fun x=>[u16A x]) 8177 false
def choM (l:List (Fin 65536)) (i:Nat):Int:=match l[i]? with | some x=>x.1 | none=>0
def chosenM (x:RBand) (n:Int):Int:=x.low+n % (x.high - x.low+1)
theorem zhi {main T} (hT:zm tp main T) {gm} {b:RBk} {s h e j c m:Nat} {st:List Int} {et:TypeId} (hb:ROk b) (hs:StOk b st) (hc:c<b.seams.length) (hm:m<=b.seams.length) :
  zq tp T gm 167 [.agg (zA b s h e),intA c,intA m,.sl j 0 st.length] [(s,zk b),(j,.cells (st.map intA) et false)] (fun r K'=>r=intA (togM b st c m)/\K'=[(s,zk b),(j,.cells (st.map intA) et false)]):=by
 refine zl 35 hT Tryz.func167 fun Y hret=>?_;refine au 0 ?_;have hsl:=hb.sms.len;have hst:=hs.len;refine au 21042 ?_;intro jb hjb;refine au 13035422354235 ?_;refine bA [1,2,3,4,9,10] ?_;refine bC [(s,_),(j,_),(jb,_)] ?_;refine bE (fun n env K=>∃ (i:Nat),n=m - i/\i<=m/\env=.any::intA c::intA m::.sl j 0 st.length::.ptr jb 0::naL 4 (intA (togM b st c i)::intA i::naL 24 [])/\K=[(s,zk b),(j,.cells (st.map intA) et false),(jb,.cells (zA b s h e) 26 true)]) m ⟨0,rfl,mN _,rfl,rfl⟩ fun n env K hI hnext=>?_;obtain ⟨i,rfl,hi,rfl,rfl⟩:=hI;refine bG nQ ?_;refine au 93711422 ?_;constructor<;>intro hc0
 ·have hil:i<m:=by simp at hc0; omega
  have hkl:(c+i) % b.seams.length<b.seams.length:=Nat.mod_lt _ oQ;have htb:=zaP hb hs (c:=c) i;have hwd:=hb.wide hkl;have hsb:=hs.bnd _ hkl;refine au 28069067023011421302120 ?_;refine bH Z (q_rem Z Z Z oQ oQ) ?_;refine au 35 ?_;rw [show ((c:Int)+(i:Int)) % (b.seams.length:Int)=(((c+i) % b.seams.length:Nat):Int) by rw [<- Int.natCast_add,<- Int.natCast_emod]];have htn:togM b st c i+wideM b ((c+i) % b.seams.length) - zK st ((c+i) % b.seams.length)=togM b st c (i+1):=by show _=togM b st c i+(wideM b _ - st.getD _ 0); unfold zK; omega
  have hsb2:0<=zK st ((c+i) % b.seams.length)/\zK st ((c+i) % b.seams.length)<=5:=⟨hsb.1,hsb.2.1⟩;refine TK.dr [0,1,2,5,6,7,8,3,4,9,10] [0,1,2,3,4,5,6,7,8,9,10] ?_;refine ad [[1,9],[12,4],[1,11],[1,3],[1,11],[2,29,30]] ?_;refine bT [31] Z (hq:=zg Z Z zd.h (mC _) (yn (i:=(c+i) % b.seams.length) (z7 oQ) Z)) (h:=?_);refine bQ (pend':=[⟨8,[31],[(_,_)]⟩,⟨7,[29,30],[]⟩,⟨6,[11],[]⟩,⟨5,[3],[]⟩,⟨0,[9],[]⟩]) [25,26] Z Z Z Z Z (zdA hT (i:=(c+i) % b.seams.length) hb.rnd hb.sms hkl) (fun r1 K2 h3=>⟨?_,?_⟩)
  ·rcases h3 with ⟨rfl,rfl⟩
   all_goals simp
  obtain ⟨rfl,rfl⟩:=h3;try simp only [cA]
  refine bS tQ ?_;refine ad [[8,24,27],[9,28,32],[13,33],[14]] ?_;refine au 3523014140 ?_;refine bA [1,2,3,4,9,10] ?_;refine bC [(s,_),(j,_),(jb,_)] ?_;exact hnext _ _ _ oQ ⟨i+1,rfl,oQ,by rw [htn]; rfl,rfl⟩
 obtain rfl:i=m:=by simp at hc0; omega
 refine au 35142160 ?_;refine bB hret [(s,_),(j,_)] ?_;exact ⟨rfl,rfl⟩
end Go.Vel
namespace Go.Vel
open Go Go.Conc
def fS (f:Int->Int):List Int->Int
 | []=>0
 | k::o=>f k+fS f o
theorem zc5 (f:Int->Int):∀ a c,fS f (a++c)=fS f a+fS f c
 | [],c=>by show fS f c=0+fS f c; omega
 | k::a,c=>by show f k+fS f (a++c)=f k+fS f a+fS f c; rw [zc5 f a c]; omega
theorem zkS (f:Int->Int) {a c:List Int} (h:a.Perm c):fS f a=fS f c:=by
 induction h with
 | nil=>rfl
 | cons x _ ih=>show f x+_=f x+_; rw [ih]
 | swap x y l=>show f y+(f x+fS f l)=f x+(f y+fS f l); omega
 | trans _ _ h1 h2=>exact h1.trans h2
theorem zhz (f:Int->Int):∀ n,fS f (idxM n)=sumF (fun i=>f i) n
 | 0=>rfl
 | n+1=>by
  have e:idxM (n+1)=idxM n++[(n:Int)]:=by unfold idxM; rw [List.range_succ,lM]; rfl
  rw [e,zc5,zhz f n];show _+(f n+0)=_+f n;omega
theorem zdZ (f:Int->Int) (b:RBk) (l:List Int):fS f (ordM b l)=sumF (fun i=>f i) l.length:=by
 rw [<- zhz];unfold ordM sortR;refine zkS f ?_;have h:=u5 (lt:=busyLt b l) (l:=idxM l.length) (idxM l.length).length (mL _);rwa [lW] at h
theorem fS_le {f g:Int->Int}:∀ o:List Int,(∀ k∈o,f k<=g k)->fS f o<=fS g o
 | [],_=>Int.le_refl _
 | k::o,h=>by
  have h1:=h k sQ;have h2:=fS_le o (fun x hx=>h x (by simp [hx]));show f k+_<=g k+_;omega
theorem fS_nn {f:Int->Int}:∀ o:List Int,(∀ k∈o,0<=f k)->0<=fS f o
 | [],_=>Int.le_refl _
 | k::o,h=>by
  have h1:=h k sQ;have h2:=fS_nn o (fun x hx=>h x (by simp [hx]));show 0<=f k+_;omega
def gC (m c:Int->Int):List Int->Int->Int
 | [],_=>0
 | k::o,n=>min n (m k)*c k+gC m c o (n - min n (m k))
theorem zfU {m c:Int->Int}:∀ o:List Int,(∀ k∈o,0<=m k)->gC m c o 0=0
 | [],_=>rfl
 | k::o,h=>by
  have h1:=h k sQ;show min 0 (m k)*c k+gC m c o (0 - min 0 (m k))=0;rw [Int.min_eq_left h1,Int.zero_mul,Int.sub_zero,zfU o (fun x hx=>h x (by simp [hx]))];rfl
theorem zby {m c:Int->Int} {c0:Int}:∀ (o:List Int) (n d:Int),(∀ k∈o,c0<=c k/\0<=m k)->0<=d->d<=n->n<=fS m o->gC m c o (n - d)+d*c0<=gC m c o n
 | [],n,d,_,h1,h2,h3=>by
  have h3:n<=0:=h3;have:d=0:=by omega
  subst this;show (0:Int)+0*c0<=0;rw [Int.zero_mul]; decide
 | k::o,n,d,h,h1,h2,h3=>by
  have hk:=h k sQ;have ho:∀ x∈o,c0<=c x/\0<=m x:=fun x hx=>h x (by simp [hx]);have h3:n<=m k+fS m o:=h3;have hz:gC m c o 0=0:=zfU o (fun x hx=>(ho x hx).2);show min (n - d) (m k)*c k+gC m c o (n - d - min (n - d) (m k))+d*c0<=min n (m k)*c k+gC m c o (n - min n (m k));by_cases hA:m k<=n - d
  ·rw [Int.min_eq_right hA,Int.min_eq_right oQ];have:=zby o (n - m k) d ho h1 oQ oQ;rw [show n - d - m k=n - m k - d by omega];omega
  ·rw [Int.min_eq_left (show n - d<=m k by omega),Int.sub_self,hz];by_cases hB:n<=m k
   ·rw [Int.min_eq_left hB,Int.sub_self,hz];have e:n*c k=(n - d)*c k+d*c k:=by rw [<- Int.add_mul]; congr 1; omega
    have q:=Int.mul_le_mul_of_nonneg_left hk.1 h1;omega
   ·rw [Int.min_eq_right oQ];have ih:=zby o (n - m k) (n - m k) ho oQ oQ oQ;rw [Int.sub_self,hz] at ih;obtain ⟨e,he⟩:∃ e,e=m k - (n - d):=⟨_,rfl⟩;have e1:m k*c k=(n - d)*c k+e*c k:=by rw [<- Int.add_mul]; congr 1; omega
    have e2:d*c0=e*c0+(n - m k)*c0:=by rw [<- Int.add_mul]; congr 1; omega
    have q:=Int.mul_le_mul_of_nonneg_left hk.1 (show 0<=e by omega);omega
theorem zhB {m c x:Int->Int}:∀ (o:List Int) (n:Int),o.Pairwise (fun a d=>c a<=c d)->(∀ k∈o,0<=x k/\x k<=m k)->n=fS x o->gC m c o n<=fS (fun k=>x k*c k) o
 | [],n,_,_,_=>Int.le_refl _
 | k::o,n,hp,h,hn=>by
  obtain ⟨p1,p2⟩:=List.pairwise_cons.1 hp;have hk:=h k sQ;have ho:∀ y∈o,0<=x y/\x y<=m y:=fun y hy=>h y (by simp [hy]);have hn:n=x k+fS x o:=hn;have h0:=fS_nn o (fun y hy=>(ho y hy).1);have hcap:=fS_le o (fun y hy=>(ho y hy).2);have ih:=zhB o (fS x o) p2 ho rfl;obtain ⟨a,ha⟩:∃ a,a=min n (m k):=⟨_,rfl⟩;have sh:=zby (m:=m) (c:=c) (c0:=c k) o (fS x o) (a - x k) (fun y hy=>⟨p1 y hy,by have:=ho y hy; omega⟩) oQ oQ hcap;show min n (m k)*c k+gC m c o (n - min n (m k))<=x k*c k+_;rw [<- ha,show n - a=fS x o - (a - x k) by omega];have e:a*c k=x k*c k+(a - x k)*c k:=by rw [<- Int.add_mul]; congr 1; omega
  omega
theorem zbh {lt:Int->Int->Bool} {K:Int->Int} {x:Int} {S:List Int} (hlt:∀ y∈S,lt x y=decide (K x<K y)) (hS:S.Pairwise fun a c=>K a<=K c):∀ j,j<=S.length->(∀ i y,j<=i->S[i]? =some y->K x<K y)->(insJ lt x S j).Pairwise fun a c=>K a<=K c
 | 0,_,h=>by
  refine List.pairwise_cons.2 ⟨fun y hy=>?_,hS⟩;obtain ⟨i,hi,rfl⟩:=List.getElem_of_mem hy;have:=h i _ (mN _) (lA hi);omega
 | j+1,hj,h=>by
  have hg:S[j]? =some S[j]:=lA oQ;have hm:S[j]∈S:=List.getElem_mem _;unfold insJ;rw [hg];dsimp only;by_cases hl:lt x S[j]=true
  ·rw [if_pos hl];rw [hlt _ hm] at hl;refine zbh hlt hS j oQ fun i y hi hy=>?_;by_cases e:i=j
   ·subst e;rw [hg] at hy;cases hy;exact of_decide_eq_true hl
   ·exact h i y oQ hy
  ·rw [if_neg hl];rw [hlt _ hm] at hl;have hl:¬ K x<K S[j]:=by simpa using hl
   have hS':=hS;rw [<- List.take_append_drop (j+1) S] at hS';obtain ⟨p1,p2,p3⟩:=List.pairwise_append.1 hS';have hd:∀ y∈S.drop (j+1),K x<=K y:=fun y hy=>by
    obtain ⟨i,hi,rfl⟩:=List.getElem_of_mem hy;rw [List.getElem_drop];have:=h (j+1+i) _ oQ (lA (by rw [List.length_drop] at hi; omega));omega
   have ht:∀ a∈S.take (j+1),K a<=K x:=fun a ha=>by
    have p1':=p1;rw [yC hg] at ha p1';rcases lT.1 ha with ha | ha
    ·have:=(List.pairwise_append.1 p1').2.2 a ha S[j] sQ;omega
    ·rw [lS.1 ha]; omega
   refine List.pairwise_append.2 ⟨p1,List.pairwise_cons.2 ⟨hd,p2⟩,fun a ha c hc=>?_⟩;rcases lI.1 hc with rfl | hc
   ·exact ht a ha
   ·exact p3 a ha c hc
theorem zaK {lt:Int->Int->Bool} {K:Int->Int} {l:List Int} (hlt:∀ x∈l,∀ y∈l,lt x y=decide (K x<K y)):∀ i,i<=l.length->(sortN lt l i).Pairwise fun a c=>K a<=K c
 | 0,_=>.nil
 | i+1,h=>by
  have hg:l[i]? =some l[i]:=lA oQ;rw [kW hg];refine zbh (fun y hy=>hlt _ (List.getElem_mem _) y (ui i oQ y hy)) (zaK hlt i oQ) _ (mL _) fun k y hk hy=>?_;rw [lU hk] at hy;cases hy
def pw:Nat->Int
 | 0=>10000
 | 1=>1000
 | 2=>100
 | 3=>10
 | _=>1
def wgt (b:RBk) (l:List Int) (k:Int):Int:=(cutS b l k.toNat).busy*1000000+pw k.toNat
theorem zlr {b:RBk} {l:List Int} (hl:l.length<=5):(ordM b l).Pairwise fun a c=>wgt b l a<=wgt b l c:=by
 have hs:(ordM b l).Pairwise fun a c=>(cutS b l a.toNat).busy*10 - a<=(cutS b l c.toNat).busy*10 - c:=by
  unfold ordM sortR;refine zaK (K:=fun a=>(cutS b l a.toNat).busy*10 - a) (fun x hx y hy=>?_) _ (mL _);have h1:=uD hx;have h2:=uD hy;unfold busyLt;rw [Bool.eq_iff_iff];simp only [Bool.or_eq_true,mX,decide_eq_true_eq];omega
 refine hs.imp_of_mem ?_;intro a c ha hc h;have h1:=wu ha;have h2:=wu hc;unfold wgt;obtain ⟨i,rfl⟩:=Int.eq_ofNat_of_zero_le h1.1;obtain ⟨j,rfl⟩:=Int.eq_ofNat_of_zero_le h2.1;simp only [mZ] at h ⊢;have hi:i=0\/i=1\/i=2\/i=3\/i=4:=by omega
 have hj:j=0\/j=1\/j=2\/j=3\/j=4:=by omega
 rcases hi with rfl | rfl | rfl | rfl | rfl <;> rcases hj with rfl | rfl | rfl | rfl | rfl <;> simp only [pw] <;> omega
theorem zbP {b:RBk} {l:List Int} (C:Nat->Int):∀ (o:List Int) (z:Alloc),o.Nodup->(∀ k∈o,0<=k/\k<l.length)->(∀ k∈o,z.steps.getD k.toNat 0=0)->z.steps.length=l.length ->
  sumF (fun i=>(o.foldl (allocM b l) z).steps.getD i 0*C i) l.length=sumF (fun i=>z.steps.getD i 0*C i) l.length+gC (fun k=>(cutS b l k.toNat).most) (fun k=>C k.toNat) o z.left
 | [],z,_,_,_,_=>by show _=_+(0:Int); rw [Int.add_zero]; rfl
 | k::o,z,hn,ho,h0,hlen=>by
  obtain ⟨n1,n2⟩:=List.nodup_cons.1 hn;have hk:=ho k sQ;have hkl:k.toNat<z.steps.length:=by omega
  have hk0:=h0 k sQ;rw [List.foldl_cons];obtain ⟨v,hv⟩:∃ v,v=min z.left (cutS b l k.toNat).most:=⟨_,rfl⟩;have hz':allocM b l z k=⟨z.steps.set k.toNat v,z.squares+v*(cutS b l k.toNat).busy,z.left - v⟩:=by rw [hv]; rfl
  have hs:∀ i,(z.steps.set k.toNat v).getD i 0=if i=k.toNat then v else z.steps.getD i 0:=fun i=>zd7 hkl
  have r:=zbP (b:=b) (l:=l) C o (allocM b l z k) n2 (fun x hx=>ho x (by simp [hx])) (fun x hx=>by
   rw [hz'];show (z.steps.set k.toNat v).getD x.toNat 0=0;have hx0:=ho x (by simp [hx]);have hne:x≠k:=fun e=>n1 (e ▸ hx);rw [hs,if_neg oQ];exact h0 x (by simp [hx])) (by rw [hz']; show (z.steps.set k.toNat v).length=_; rw [List.length_set]; exact hlen)
  have e2:sumF (fun i=>(allocM b l z k).steps.getD i 0*C i) l.length=sumF (fun i=>z.steps.getD i 0*C i) l.length+v*C k.toNat:=by
   rw [hz'];rw [zaa (f:=fun i=>z.steps.getD i 0*C i) (k:=k.toNat) l.length oQ (fun i hi=>by show (z.steps.set k.toNat v).getD i 0*_=_; rw [hs,if_neg hi])];show _ - z.steps.getD k.toNat 0*_+(z.steps.set k.toNat v).getD k.toNat 0*_=_;rw [hs,if_pos rfl,hk0,Int.zero_mul];omega
  rw [r,e2,hz'];show _+gC _ _ o (z.left - v)=_+(min z.left (cutS b l k.toNat).most*C k.toNat+gC _ _ o (z.left - min z.left (cutS b l k.toNat).most));rw [<- hv];omega
theorem zbQ {b:RBk} {l:List Int}:∀ (o:List Int) (z:Alloc),(∀ k∈o,0<=(cutS b l k.toNat).most)->0<=z.left->(o.foldl (allocM b l) z).left=max 0 (z.left - fS (fun k=>(cutS b l k.toNat).most) o)
 | [],z,_,h=>by show z.left=max 0 (z.left - 0); omega
 | k::o,z,hm,h=>by
  have hk:=hm k sQ;rw [List.foldl_cons,zbQ o _ (fun x hx=>hm x (by simp [hx])) (by show 0<=z.left - min z.left (cutS b l k.toNat).most; omega)];show max 0 (z.left - min z.left (cutS b l k.toNat).most - _)=max 0 (z.left - ((cutS b l k.toNat).most+_));have h0:=fS_nn (f:=fun k=>(cutS b l k.toNat).most) o (fun x hx=>hm x (by simp [hx]));omega
def mostS (b:RBk) (l:List Int) (k:Nat):Int:=sumF (fun i=>(cutS b l i).most) k
theorem zlb {b:RBk} (hb:ROk b) {l:List Int} (hl:CutsOk b l):∀ k∈ordM b l,0<=(cutS b l k.toNat).most:=fun k hk=>by
 have:=wu hk;exact (hb.sms.fld _ (hl.lt (k:=k.toNat) oQ).2.2).2.2.1
theorem zb0 {b:RBk} (hb:ROk b) {l s:List Int} (hl:CutsOk b l) (hs:StOk b s):(hangM b l s).isSome=(fitsM b l&&decide (ye b s<=mostS b l l.length)):=by
 have hleft:=zbQ (b:=b) (l:=l) (ordM b l) (alloc0 b l (ye b s)) (zlb hb hl) (uT hb hs).1;rw [zdZ] at hleft;simp only [mZ] at hleft;have e:(alloc0 b l (ye b s)).left=ye b s:=rfl;unfold hangM;by_cases hf:fitsM b l=false
 ·rw [if_pos hf,hf]; rfl
 ·rw [if_neg hf,show fitsM b l=true by simpa using hf,Bool.true_and];dsimp only;unfold allocA mostS;by_cases h:0<((ordM b l).foldl (allocM b l) (alloc0 b l (ye b s))).left
  ·rw [if_pos h,decide_eq_false oQ]; rfl
  ·rw [if_neg h,decide_eq_true oQ]; rfl
theorem zfb (f g:Nat->Int) (c:Int):∀ n,sumF (fun i=>f i*c+g i) n=sumF f n*c+sumF g n
 | 0=>by show (0:Int)=0*c+0; rw [Int.zero_mul]; rfl
 | n+1=>by
  show sumF (fun i=>f i*c+g i) n+(f n*c+g n)=(sumF f n+f n)*c+(sumF g n+g n);rw [zfb f g c n,Int.add_mul];omega
def numW (x:List Int) (n:Nat):Int:=sumF (fun i=>x.getD i 0*pw i) n
theorem zk5:∀ (n:Nat) (x y:List Int),n<=5->x.length=n->y.length=n->(∀ i,0<=x.getD i 0/\x.getD i 0<=9)->(∀ i,0<=y.getD i 0/\y.getD i 0<=9)->lexM x y<0->numW x n<numW y n
 | 0,[],[],_,_,_,_,_,h=>by simp [lexM] at h
 | 1,[a],[p],_,_,_,hx,hy,h=>by
  simp only [lexM] at h;show 0+a*10000<0+p*10000;split at h
  ·omega
  ·split at h <;> omega
 | 2,[a,c],[p,q],_,_,_,hx,hy,h=>by
  have a0:=hx 0; have a1:=hx 1; have b0:=hy 0; have b1:=hy 1;simp only [List.getD_cons_zero,List.getD_cons_succ] at a0 a1 b0 b1;simp only [lexM] at h;show 0+a*10000+c*1000<0+p*10000+q*1000
  repeat' (split at h)
  all_goals omega
 | 3,[a,c,d],[p,q,r],_,_,_,hx,hy,h=>by
  have a0:=hx 0; have a1:=hx 1; have a2:=hx 2; have b0:=hy 0; have b1:=hy 1; have b2:=hy 2;simp only [List.getD_cons_zero,List.getD_cons_succ] at a0 a1 a2 b0 b1 b2;simp only [lexM] at h;show 0+a*10000+c*1000+d*100<0+p*10000+q*1000+r*100
  repeat' (split at h)
  all_goals omega
 | 4,[a,c,d,e],[p,q,r,s],_,_,_,hx,hy,h=>by
  have a0:=hx 0; have a1:=hx 1; have a2:=hx 2; have a3:=hx 3; have b0:=hy 0; have b1:=hy 1; have b2:=hy 2; have b3:=hy 3;simp only [List.getD_cons_zero,List.getD_cons_succ] at a0 a1 a2 a3 b0 b1 b2 b3;simp only [lexM] at h;show 0+a*10000+c*1000+d*100+e*10<0+p*10000+q*1000+r*100+s*10
  repeat' (split at h)
  all_goals omega
 | 5,[a,c,d,e,f],[p,q,r,s,t],_,_,_,hx,hy,h=>by
  have a0:=hx 0; have a1:=hx 1; have a2:=hx 2; have a3:=hx 3; have a4:=hx 4; have b0:=hy 0; have b1:=hy 1; have b2:=hy 2; have b3:=hy 3; have b4:=hy 4;simp only [List.getD_cons_zero,List.getD_cons_succ] at a0 a1 a2 a3 a4 b0 b1 b2 b3 b4;simp only [lexM] at h;show 0+a*10000+c*1000+d*100+e*10+f*1<0+p*10000+q*1000+r*100+s*10+t*1
  repeat' (split at h)
  all_goals omega
 | n+6,_,_,h5,_,_,_,_,_=>by omega
theorem zhY {x:List Int} {n:Nat} (h5:n<=5) (hx:∀ i,0<=x.getD i 0/\x.getD i 0<=9):0<=numW x n/\numW x n<100000:=by
 have a0:=hx 0; have a1:=hx 1; have a2:=hx 2; have a3:=hx 3; have a4:=hx 4;have h:n=0\/n=1\/n=2\/n=3\/n=4\/n=5:=by omega
 rcases h with rfl | rfl | rfl | rfl | rfl | rfl <;> simp only [numW,sumF,pw] <;> omega
theorem zbV (b:RBk) (l x:List Int):sumF (fun i=>x.getD i 0*wgt b l i) l.length=sumF (fun i=>x.getD i 0*(cutS b l i).busy) l.length*1000000+numW x l.length:=by
 unfold numW;rw [<- zfb];refine ww _ fun i _=>?_;unfold wgt;rw [mZ,Int.mul_add,Int.mul_assoc]
theorem cheapest {b:RBk} (hb:ROk b) {l s w:List Int} {q:Int} (hl:CutsOk b l) (hs:StOk b s) (h:hangM b l s=some (w,q)) {x:List Int} (hxl:x.length=l.length) (hx:∀ i,0<=x.getD i 0/\(i<l.length->x.getD i 0<=(cutS b l i).most)) (hsum:sumF (fun i=>x.getD i 0) l.length=ye b s):needM b l w l.length<=needM b l x l.length/\(needM b l w l.length<needM b l x l.length\/decide (lexM x w<0)=false):=by
 have hn5:l.length<=5:=by have:=hl.len; have:=hb.sms.len; omega
 obtain ⟨hfit,hwl,hws,hq,hwb⟩:=zbz hb hl hs h;have nine:∀ {y:List Int},y.length=l.length->(∀ i,0<=y.getD i 0/\(i<l.length->y.getD i 0<=(cutS b l i).most))->∀ i,0<=y.getD i 0/\y.getD i 0<=9:=fun {y} hyl hy i=>by
  refine ⟨(hy i).1,?_⟩;by_cases hi:i<l.length
  ·have h1:=(hy i).2 hi;have h2:=(hb.sms.fld _ (hl.lt hi).2.2).2.2.2.1;unfold cutS at h1;omega
  ·rw [lE,lU oQ]
   decide
 have key:sumF (fun i=>w.getD i 0*wgt b l i) l.length<=sumF (fun i=>x.getD i 0*wgt b l i) l.length:=by
  have hr:∀ i,(alloc0 b l (ye b s)).steps.getD i 0=0:=fun i=>by
   show (mB l.length (0:Int)).getD i 0=0;rw [lE,List.getElem?_replicate];split <;> rfl
  have hc:=zbP (b:=b) (l:=l) (fun i=>wgt b l i) (ordM b l) (alloc0 b l (ye b s)) (zdn b l) (fun k hk=>wu hk) (fun k _=>hr _) (by show (mB l.length (0:Int)).length=_; rw [List.length_replicate]);have hw:w=((ordM b l).foldl (allocM b l) (alloc0 b l (ye b s))).steps:=by
   unfold hangM at h;split at h
   ·cases h
   ·dsimp only at h;split at h
    ·cases h
    ·cases h; rfl
  have z2:sumF (fun i=>(alloc0 b l (ye b s)).steps.getD i 0*wgt b l i) l.length=0:=by
   rw [ww (g:=fun _=>0) l.length (fun i _=>by rw [hr i,Int.zero_mul])];have:=uj (f:=fun _=>0) (n:=0) (fun _ _=>rfl) l.length;rwa [mO] at this
  rw [<- hw,z2,Int.zero_add] at hc;rw [hc];have ho:=zhB (m:=fun k=>(cutS b l k.toNat).most) (c:=wgt b l) (x:=fun k=>x.getD k.toNat 0) (ordM b l) (ye b s) (zlr hn5) (fun k hk=>by
   have:=wu hk;exact ⟨(hx _).1,(hx _).2 oQ⟩) (by rw [zdZ]; simp only [mZ]; exact hsum.symm)
  rw [zdZ] at ho;simp only [mZ] at ho;refine Int.le_trans (Int.le_of_eq ?_) ho;show gC _ _ _ (ye b s)=_;congr 1
 rw [zbV,zbV] at key;have n1:=zhY hn5 (nine hwl hwb);have n2:=zhY hn5 (nine hxl hx);unfold needM;rw [u9,u9];refine ⟨by omega,?_⟩;by_cases hlt:sumF (fun i=>w.getD i 0*(cutS b l i).busy) l.length<sumF (fun i=>x.getD i 0*(cutS b l i).busy) l.length
 ·exact .inl oQ
 ·right;refine decide_eq_false fun hlex=>?_;have:=zk5 l.length x w hn5 hxl hwl (nine hxl hx) (nine hwl hwb) hlex;omega
theorem zfT:∀ (r:List Int) (x:Int),r.foldl min x<=x/\(∀ y∈r,r.foldl min x<=y)/\(r.foldl min x=x\/r.foldl min x∈r)
 | [],x=>⟨Int.le_refl _,fun y hy=>(by cases hy),.inl rfl⟩
 | z::r,x=>by
  obtain ⟨h1,h2,h3⟩:=zfT r (min x z);rw [List.foldl_cons];refine ⟨by omega,fun y hy=>?_,?_⟩
  ·rcases lI.1 hy with rfl | hy
   ·omega
   ·exact h2 y hy
  ·rcases h3 with h3 | h3
   ·rw [h3];by_cases e:x<=z
    ·left; omega
    ·right; rw [Int.min_eq_right oQ]; simp
   ·right; simp [h3]
theorem zfS:∀ (r:List Int) (x:Int),x<=r.foldl max x/\(∀ y∈r,y<=r.foldl max x)/\(r.foldl max x=x\/r.foldl max x∈r)
 | [],x=>⟨Int.le_refl _,fun y hy=>(by cases hy),.inl rfl⟩
 | z::r,x=>by
  obtain ⟨h1,h2,h3⟩:=zfS r (max x z);rw [List.foldl_cons];refine ⟨by omega,fun y hy=>?_,?_⟩
  ·rcases lI.1 hy with rfl | hy
   ·omega
   ·exact h2 y hy
  ·rcases h3 with h3 | h3
   ·rw [h3];by_cases e:z<=x
    ·left; omega
    ·right; rw [Int.max_eq_right oQ]; simp
   ·right; simp [h3]
theorem ziA {xs:List Int} (hne:xs≠[]):(∀ y∈xs,(spreadM xs).1<=y/\y<=(spreadM xs).2)/\(spreadM xs).1∈xs/\(spreadM xs).2∈xs:=by
 cases xs with
 | nil=>exact absurd rfl hne
 | cons x r =>
  obtain ⟨a1,a2,a3⟩:=zfT r x;obtain ⟨c1,c2,c3⟩:=zfS r x;show (∀ y∈x::r,r.foldl min x<=y/\y<=r.foldl max x)/\r.foldl min x∈x::r/\r.foldl max x∈x::r;refine ⟨fun y hy=>?_,?_,?_⟩
  ·rcases lI.1 hy with rfl | hy
   ·exact ⟨a1,c1⟩
   ·exact ⟨a2 y hy,c2 y hy⟩
  ·rcases a3 with h | h
   ·rw [h]; simp
   ·simp [h]
  ·rcases c3 with h | h
   ·rw [h]; simp
   ·simp [h]
theorem sq_in {b:RBk} {all:List (List Int)} {l:List Int} (hne:all≠[]) (h:sqOk b all l=true):(∀ s∈all,∀ w q,hangM b l s=some (w,q)->sqLo b all l<=q/\q<=sqHi b all l)/\(∃ s∈all,∃ w,hangM b l s=some (w,sqLo b all l))/\∃ s∈all,∃ w,hangM b l s=some (w,sqHi b all l):=by
 have hall:=(u6 b all l).1 h;have hlt:¬ (waysM b all l).length<all.length:=fun hh=>by
  unfold sqOk squaresM at h;rw [if_pos hh] at h;cases h
 have e:squaresM b all l=some (spreadM ((waysM b all l).map (·.2))):=by unfold squaresM; rw [if_neg hlt]
 have hnn:(waysM b all l).map (·.2)≠[]:=fun hh=>by
  have h1:=congrArg List.length hh;rw [lJ] at h1;have h2:0<all.length:=List.length_pos_iff.2 hne;simp only [List.length_nil] at h1;omega
 obtain ⟨g1,g2,g3⟩:=ziA hnn;unfold sqLo sqHi;rw [e];show (∀ s∈all,∀ w q,hangM b l s=some (w,q)->(spreadM _).1<=q/\q<=(spreadM _).2)/\(∃ s∈all,∃ w,hangM b l s=some (w,(spreadM _).1))/\∃ s∈all,∃ w,hangM b l s=some (w,(spreadM _).2);have back:∀ q,q∈(waysM b all l).map (·.2)->∃ s∈all,∃ w,hangM b l s=some (w,q):=fun q hq=>by
  obtain ⟨⟨w,q'⟩,hz,rfl⟩:=lY.1 hq;obtain ⟨s,hs,hz⟩:=List.mem_filterMap.1 hz;exact ⟨s,hs,w,hz⟩
 exact ⟨fun s hs w q hq=>g1 q (lY.2 ⟨(w,q),List.mem_filterMap.2 ⟨s,hs,hq⟩,rfl⟩),back _ g2,back _ g3⟩
theorem zlC {b o:RBk} {all:List (List Int)} {l:List Int} (hne:all≠[]) (hb:sqOk b all l=true) (h:∀ s∈all,∀ w q,hangM b l s=some (w,q)->∃ w' q',hangM o l s=some (w',q')/\q'<=q):sqOk o all l=true/\sqLo o all l<=sqLo b all l/\sqHi o all l<=sqHi b all l:=by
 have hall:=(u6 b all l).1 hb;have ho:sqOk o all l=true:=(u6 o all l).2 fun s hs=>by
  obtain ⟨⟨w,q⟩,hz⟩:=Option.isSome_iff_exists.1 (hall s hs);obtain ⟨w',q',h1,_⟩:=h s hs w q hz;rw [h1]; rfl
 obtain ⟨b1,⟨s1,hs1,w1,e1⟩,_⟩:=sq_in hne hb;obtain ⟨o1,_,s2,hs2,w2,e2⟩:=sq_in hne ho;refine ⟨ho,?_,?_⟩
 ·obtain ⟨w',q',g1,g2⟩:=h s1 hs1 w1 _ e1;have:=(o1 s1 hs1 w' q' g1).1;omega
 ·obtain ⟨⟨w,q⟩,hz⟩:=Option.isSome_iff_exists.1 (hall s2 hs2);obtain ⟨w',q',g1,g2⟩:=h s2 hs2 w q hz;rw [e2] at g1;cases g1;have:=(b1 s2 hs2 w q hz).2;omega
theorem zgk {f g:Nat->Int}:∀ n,(∀ i,i<n->f i<=g i)->sumF f n<=sumF g n
 | 0,_=>Int.le_refl _
 | n+1,h=>by
  have h1:=zgk n fun i hi=>h i oQ;have h2:=h n oQ;show sumF f n+f n<=sumF g n+g n;omega
structure Wider (b o:RBk):Prop where
 steps:o.steps=b.steps
 round:o.round=b.round
 roll:b.roll<=o.roll
 rolls:b.rolls<=o.rolls
 len:o.seams.length=b.seams.length
 shr:o.shrinks=b.shrinks
 mes:o.measures=b.measures
 sm:∀ i,i<b.seams.length->(sm o i).step=(sm b i).step/\(sm o i).busy<=(sm b i).busy/\(sm o i).spoil<=(sm b i).spoil/\(sm o i).whole=(sm b i).whole/\(sm b i).most<=(sm o i).most
theorem Wider.at {b o:RBk} (h:Wider b o) (r:Int):Wider (atRound b r) (atRound o r):=⟨h.steps,rfl,h.roll,h.rolls,h.len,h.shr,h.mes,h.sm⟩
theorem Wider.wide {b o:RBk} (h:Wider b o) {i:Nat} (hi:i<b.seams.length):wideM o i=wideM b i:=by
 unfold wideM;rw [h.len,h.steps,(h.sm i hi).1,(h.sm 0 oQ).1];by_cases e:i+1<b.seams.length
 ·rw [if_pos e,if_pos e,(h.sm _ e).1]
 ·rw [if_neg e,if_neg e]
theorem Wider.tog {b o:RBk} (h:Wider b o) (h0:0<b.seams.length) (s:List Int) (c:Nat):∀ k,togM o s c k=togM b s c k
 | 0=>rfl
 | k+1=>by
  unfold togM nowM;rw [h.tog h0 s c k,h.len,h.wide (Nat.mod_lt _ h0)]
theorem Wider.from {b o:RBk} (h:Wider b o) (h0:0<b.seams.length):∀ (r:List RBand) (p:List Int),fromM o p r=fromM b p r
 | [],p=>by
  unfold fromM rightM;rw [h.mes];simp only [h.tog h0]
 | x::r,p=>by
  unfold fromM;congr 1;funext n;exact h.from h0 r _
theorem Wider.states {b o:RBk} (h:Wider b o) (h0:0<b.seams.length):zj o=zj b:=by
 unfold zj;rw [h.shr];exact h.from h0 _ _
theorem Wider.cuts {b o:RBk} (h:Wider b o) {l:List Int} (hl:CutsOk b l):CutsOk o l:=⟨hl.pos,fun n hn=>by rw [h.len]; exact hl.bnd n hn,hl.asc⟩
theorem Wider.cut {b o:RBk} (h:Wider b o) {l:List Int} (hl:CutsOk b l) {k:Nat} (hk:k<l.length):(cutS o l k).step=(cutS b l k).step/\(cutS o l k).busy<=(cutS b l k).busy/\(cutS o l k).spoil<=(cutS b l k).spoil/\(cutS o l k).whole=(cutS b l k).whole/\(cutS b l k).most<=(cutS o l k).most:=h.sm _ (hl.lt hk).2.2
theorem Wider.st {b o:RBk} (h:Wider b o) {s:List Int} (hs:StOk b s):StOk o s:=⟨by rw [h.len]; exact hs.len,fun i hi=>by
 rw [h.len] at hi;rw [h.wide hi];exact hs.bnd i hi⟩
theorem Wider.fits {b o:RBk} (h:Wider b o) {l:List Int} (hl:CutsOk b l) (hf:fitsM b l=true):fitsM o l=true:=by
 unfold fitsM at hf ⊢;rw [mX,decide_eq_true_eq,List.all_eq_true] at hf ⊢;refine ⟨by have:=h.rolls; omega,fun k hk=>?_⟩;have h1:=hf.2 k hk;have hkl:=List.mem_range.1 hk;rw [mX,decide_eq_true_eq] at h1 ⊢;rw [(h.cut hl hkl).2.2.2.1];refine ⟨h1.1,?_⟩;have e:(stripM o l k).2=(stripM b l k).2:=by
  unfold stripM endM;dsimp only;rw [h.steps,(h.cut hl hkl).1,(h.cut hl hl.pos).1];by_cases e:k+1<l.length
  ·rw [if_pos e,if_pos e,(h.cut hl e).1]
  ·rw [if_neg e,if_neg e]
 rw [e];have:=h.roll;omega
theorem Wider.hang {b o:RBk} (h:Wider b o) (hb:ROk b) (ho:ROk o) {l s w:List Int} {q:Int} (hl:CutsOk b l) (hs:StOk b s) (hz:hangM b l s=some (w,q)):∃ w' q',hangM o l s=some (w',q')/\q'<=q:=by
 obtain ⟨hfit,hwl,hsum,hq,hws⟩:=zbz hb hl hs hz;have hfo:=zb0 hb hl hs;rw [hz,hfit,Bool.true_and] at hfo;have hle:ye b s<=mostS b l l.length:=of_decide_eq_true hfo.symm;have hfr:ye o s=ye b s:=by unfold ye; rw [h.round,h.steps]
 have hms:∀ n,n<=l.length->mostS b l n<=mostS o l n:=by
  intro n
  induction n with
  | zero=>intro _; exact Int.le_refl _
  | succ n ih =>
   intro hn;have h1:=ih oQ;have h2:=(h.cut hl (k:=n) oQ).2.2.2.2;show mostS b l n+(cutS b l n).most<=mostS o l n+(cutS o l n).most;omega
 have hfo2:=zb0 ho (h.cuts hl) (h.st hs);have hms:=hms l.length (mL _);rw [h.fits hl hfit,Bool.true_and,decide_eq_true (show ye o s<=mostS o l l.length by omega)] at hfo2;obtain ⟨⟨w',q'⟩,hz2⟩:=Option.isSome_iff_exists.1 hfo2;refine ⟨w',q',hz2,?_⟩;obtain ⟨_,_,_,hq2,_⟩:=zbz ho (h.cuts hl) (h.st hs) hz2;have:=(cheapest ho (h.cuts hl) (h.st hs) hz2 (x:=w) hwl (fun i=>⟨(hws i).1,fun hi=>by have h1:=(hws i).2 hi; have h2:=(h.cut hl hi).2.2.2.2; omega⟩) (by rw [hsum,hfr])).1;have e:needM o l w l.length<=needM b l w l.length:=by
  unfold needM;refine zgk _ fun i hi=>?_;have h1:=(h.cut hl hi).2.1;have h2:=(h.cut hl hi).2.2.1;have h3:=Int.mul_le_mul_of_nonneg_left h1 (hws i).1;omega
 omega
theorem Wider.sq {b o:RBk} (h:Wider b o) (hb:ROk b) (ho:ROk o) {all:List (List Int)} (hne:all≠[]) (hall:okAll b all) {l:List Int} (hl:CutsOk b l) (hs:sqOk b all l=true):sqOk o all l=true/\sqHi o all l<=sqHi b all l:=by
 obtain ⟨h1,_,h3⟩:=zlC (o:=o) hne hs fun s hs w q hz=>h.hang hb ho hl (hall s hs) hz;exact ⟨h1,h3⟩
theorem Wider.best {b o:RBk} (h:Wider b o) (hb:ROk b) (ho:ROk o) {all:List (List Int)} (hne:all≠[]) (hall:okAll b all) {c:Nat} {bt:List Int×Int->List Int×Int->Bool} (hp:PlanA b all bt c):¬ NoPlan o all:=fun hn=>by
 have h1:=(h.sq hb ho hne hall (vl hb hp.1 hp.2.1) hp.2.2.1).1;have h2:=hn c hp.1 (by rw [h.len]; exact hp.2.1);rw [h.len,h1] at h2;cases h2
theorem Wider.bestLe {b o:RBk} (h:Wider b o) (hb:ROk b) (ho:ROk o) {all:List (List Int)} (hne:all≠[]) (hall:okAll b all) {c d:Nat} (hp:PlanA b all cheaperM c) (hq:PlanA o all cheaperM d):sqHi o all (zt d o.seams.length)<=sqHi b all (zt c b.seams.length):=by
 obtain ⟨h1,h2⟩:=h.sq hb ho hne hall (vl hb hp.1 hp.2.1) hp.2.2.1;have h3:=(zi4 (d:=c) hq hp.1 (by rw [h.len]; exact hp.2.1) (by rw [h.len]; exact h1)).1;rw [h.len] at h3 ⊢;omega
theorem Wider.fewLe {b o:RBk} (h:Wider b o) (hb:ROk b) (ho:ROk o) {all:List (List Int)} (hne:all≠[]) (hall:okAll b all) {c d:Nat} (hp:PlanA b all shorterM c) (hq:PlanA o all shorterM d):(zt d o.seams.length).length<=(zt c b.seams.length).length:=by
 obtain ⟨h1,h2⟩:=h.sq hb ho hne hall (vl hb hp.1 hp.2.1) hp.2.2.1;have h3:=zkT (d:=c) hq hp.1 (by rw [h.len]; exact hp.2.1) (by rw [h.len]; exact h1);rw [h.len] at h3 ⊢;rcases mR (zt c b.seams.length).length (zt d b.seams.length).length with hlt | hge
 ·have:yw (zt c b.seams.length) (zt d b.seams.length)=true:=(ko _ _).2 (.inl hlt);rw [h3] at this;cases this
 ·exact hge
theorem Wider.canAt {b o:RBk} (h:Wider b o) (hb:ROk b) (ho:ROk o) {all:List (List Int)} (hne:all≠[]) (hall:okAll b all) {r:Int} (h1:b.steps<=r) (h2:r<=40) (hc:canAt b all r=true):canAt o all r=true:=by
 unfold Go.Vel.canAt at hc ⊢;rw [List.any_eq_true] at hc ⊢;obtain ⟨c,c1,c2⟩:=hc;rw [mX,decide_eq_true_eq] at c2;have hcl:=List.mem_range.1 c1;have hbr:=zan hb (r:=r) h1 h2;have hor:=zan ho (r:=r) (by rw [h.steps]; exact h1) h2;refine ⟨c,by rw [h.len]; exact c1,?_⟩;rw [mX,decide_eq_true_eq,h.len];exact ⟨c2.1,((h.at r).sq hbr hor hne (zfG hall r) (vl hbr c2.1 hcl) c2.2).1⟩
theorem Wider.widest {b o:RBk} (h:Wider b o) (hb:ROk b) (ho:ROk o) {all:List (List Int)} (hne:all≠[]) (hall:okAll b all) (hs:(widestM b all).isSome=true):(widestM o all).isSome=true/\(widestM b all).getD 0<=(widestM o all).getD 0:=by
 have hst:=hb.rnd.steps;obtain ⟨n,hn⟩:=Option.isSome_iff_exists.1 hs;have hbd:=ziU oQ hn;have hc:=zcr (b:=b) (all:=all) oQ hbd.1 hbd.2;rw [hn] at hc;simp only [Option.isSome_some,Option.getD_some,Int.le_refl,decide_true,Bool.and_true] at hc;have hco:=h.canAt hb ho hne hall hbd.1 hbd.2 hc;rw [zcr (b:=o) (by rw [h.steps]; omega) (by rw [h.steps]; exact hbd.1) hbd.2,mX,decide_eq_true_eq] at hco;rw [hn];exact hco
def preS (b:RBk):Nat->List (List Int)
 | 0=>[[]]
 | i+1=>(preS b i).flatMap fun p=>(numsM (bd b i)).map fun n=>p++[n]
def extL:List (List Int)->List RBand->List (List Int)
 | L,[]=>L
 | L,x::r=>extL (L.flatMap fun p=>(numsM x).map fun n=>p++[n]) r
theorem zc4:∀ (r:List RBand) (L:List (List Int)) (x:RBand),extL L (r++[x])=(extL L r).flatMap fun p=>(numsM x).map fun n=>p++[n]
 | [],L,x=>rfl
 | y::r,L,x=>zc4 r _ x
theorem zd4 (b:RBk):∀ (r:List RBand) (L:List (List Int)),(L.flatMap fun p=>fromM b p r)=(extL L r).filter (rightM b)
 | [],L=>by
  unfold extL
  induction L with
  | nil=>rfl
  | cons p L ih =>
   rw [List.flatMap_cons,ih];unfold fromM;by_cases h:rightM b p=true
   ·rw [if_pos h,List.filter_cons_of_pos h]; rfl
   ·rw [if_neg h,List.filter_cons_of_neg h]; rfl
 | x::r,L=>by
  have key:∀ p,fromM b p (x::r)=(numsM x).flatMap fun n=>fromM b (p++[n]) r:=fun p=>by
   conv=>lhs; unfold fromM
  unfold extL;rw [<- zd4 b r]
  induction L with
  | nil=>rfl
  | cons p L ih=>rw [List.flatMap_cons,ih,List.flatMap_cons,List.flatMap_append,List.flatMap_map,key]
theorem zeG (b:RBk):∀ i,i<=b.shrinks.length->preS b i=extL [[]] (b.shrinks.take i)
 | 0,_=>by rw [List.take_zero]; rfl
 | i+1,h=>by
  rw [yC (kr (b:=b) (i:=i) oQ),zc4,<- zeG b i oQ];rfl
theorem zg0 (b:RBk):(preS b b.shrinks.length).filter (rightM b)=zj b:=by
 rw [zeG b _ (mL _),lW,<- zd4];rw [List.flatMap_cons,List.flatMap_nil,lR];rfl
theorem zbE {b:RBk} (hb:ROk b):∀ i,i<=b.shrinks.length->∀ p∈preS b i,p.length=i/\PreB b p
 | 0,_,p,hp=>by rw [lS.1 hp]; exact ⟨rfl,zcG b⟩
 | i+1,h,p,hp=>by
  obtain ⟨q,hq,hp⟩:=List.mem_flatMap.1 hp;obtain ⟨n,hn,rfl⟩:=lY.1 hp;obtain ⟨h1,h2⟩:=zbE hb i oQ q hq;have hbd:=hb.cls.bnd i (by have:=hb.cls.len; omega);rw [zet hbd.2.1] at hn;exact ⟨by rw [lF,h1]; rfl,zbF h2 oQ (by rw [h1]; exact hn.1) (by rw [h1]; exact hn.2)⟩
theorem zaC:∀ (k:Nat) (n:Int),(numsF n k).length=k
 | 0,_=>rfl
 | k+1,n=>by unfold numsF; rw [lZ,zaC k]
theorem vQ {f:List Int->List (List Int)} (hf:∀ p,(f p).length<=3):∀ L:List (List Int),(L.flatMap f).length<=L.length*3
 | []=>mN _
 | p::L=>by
  rw [List.flatMap_cons,lF,lZ];have h1:=hf p;have h2:=vQ hf L;omega
theorem zeH {b:RBk} (hb:ROk b):∀ i,i<=b.shrinks.length->(preS b i).length<=3 ^ i
 | 0,_=>mL _
 | i+1,h=>by
  have h1:=zeH hb i oQ;have hbd:=hb.cls.bnd i (by have:=hb.cls.len; omega);have h2:=vQ (f:=fun p=>(numsM (bd b i)).map fun n=>p++[n]) (fun p=>by
   rw [lJ];unfold numsM;rw [zaC];omega) (preS b i)
  rw [Nat.pow_succ];show ((preS b i).flatMap _).length<=_;omega
end Go.Vel
namespace Go.Vel
open Go Go.Conc Go.Proofs
section
variable {P:Program} {gm:Nat->Option Nat} {T:Goroutine->Hp->Prop} {Y:KX P gm T} {ds:List Nat} {k:List Item} {env env':List AV} {K:KV}
theorem TK.nilRow {t e:TypeId} {x:Option Addr} {s j:Nat} {K':Nat->KV} (hu:∀ j',Upd K j (.row [.v (.slice x 0 0)] t s) j (.row [.sl j' 0 0] t s) (K' j')) (h:∀ j',j'∉keys K->TK Y ds k env ((j',.cells [] e false)::K' j')):TK Y ds k env K:=fun A hA φ H ts h1 h2 h3 h4 h5 h6=>by
 have hk:A.length∉keys K:=fun hm=>absurd (hA.view.lt hm) (Nat.lt_irrefl _);have hH:=h5.virtO (o:=.cells [] e false) (fun φ n hl=>absurd rfl hl) (fun hl=>hl rfl);have hag:=yr φ A.length ⟨0,0,0⟩;have hlen:(A++[AObj.cells [] e false]).length=A.length+1:=by simp
 have hds:dsC (upd3 φ A.length ⟨0,0,0⟩) ds=dsC φ ds:=by
  unfold dsC;exact List.map_congr_left fun d hd'=>by rw [hag d (h4 d hd')]
 have hj:=hA.view.get (hu A.length).mem;have hjl:j<A.length:=(lD.1 hj).1;have hj2:(A++[AObj.cells [] e false])[j]? =some (.row [.v (.slice x 0 0)] t s):=by rw [lG hjl]; exact hj
 have hstep:=hA.step (.push hA.view hA.nd (.cells [] e false));have hstep2:=hstep.step (.set hstep.view hstep.nd (Upd.tail (hu A.length)));rw [<- hds];refine h _ hk _ hstep2 _ H ts (h1.trans hag h2) (by simp; omega) (by simpa using h3.mono hag oQ) (fun d hd=>by have:=h4 d hd; simp; omega) (hH.turn hj2 (fun ho=>?_) (fun h=>h) (fun _=>rfl) (fun hs=>hs)) (by simpa using h6.mono hag oQ);obtain ⟨q0,q1,q2⟩:=ho;refine ⟨fun hc=>absurd (q0 hc) sQ,q1,fun hc=>?_⟩;obtain ⟨cur,p1,p2,p3,p4,p5⟩:=q2 hc;refine ⟨cur,p1,p2,p3,by simpa using p4,fun t' a ha=>?_⟩;cases t' with
 | zero =>
  simp only [List.getElem?_cons_zero,Option.some.injEq] at ha;subst ha;obtain ⟨y,hy,hr⟩:=p5 0 _ rfl;refine ⟨y,hy,?_⟩;rw [inv_v hr];exact .sl sQ (mN _) fun hp=>absurd hp (Nat.lt_irrefl _)
 | succ t'=>simp at ha
theorem zaL:∀ R L:KV,Split (R++L) R L
 | [],L=>.none L
 | x::R,L=>.left (zaL R L)
theorem TK.dropP {R L:KV} (hp:K.Perm (R++L)) (h:TK Y ds k env R):TK Y ds k env K:=TK.perm hp (TK.keep (zaL R L) h)
end
def objsL (P:List (Nat×List Int)):KV:=P.map fun x=>(x.1,.cells (x.2.map intA) 3 false)
def refsL (P:List (Nat×List Int)):List AV:=P.map fun x=>.sl x.1 0 x.2.length
theorem zdk {P:List (Nat×List Int)} {x:Nat×List Int} (h:x∈P):(x.1,AObj.cells (x.2.map intA) 3 false)∈objsL P:=lY.2 ⟨x,h,rfl⟩
theorem zcJ {P:List (Nat×List Int)} {k:Nat} {n:Int} (hk:k<P.length) (h:n=(k:Int)) {e:TypeId} {sz:Nat}:takeO (.row (refsL P) e sz) (n.toNat*1) 1=some [.sl P[k].1 0 P[k].2.length]:=by
 subst h;rw [mZ,Nat.mul_one];simp only [takeO,AObj.look];rw [if_pos (by simp [refsL]; omega)];simp [List.take_one,refsL,hk]
theorem ints1 (xs:List Int):(xs.map intA).all oneA=true:=by
 rw [List.all_map]; exact List.all_eq_true.2 fun _ _=>rfl
theorem zf1 {P:List (Nat×List Int)} {A:List (List Int)} (h:P.map (·.2)=A) {k:Nat} (hk:k<P.length):A[k]? =some P[k].2:=by
 rw [<- h];simp [hk]
theorem zg5 {K:KV} {x:Nat×AObj}:x∈K->∃ R,Rem K x R:=by
 induction K with
 | nil=>intro h; cases h
 | cons y K ih =>
  intro h;rcases lI.1 h with rfl | h
  ·exact ⟨_,.head⟩
  ·obtain ⟨R,hR⟩:=ih h;exact ⟨_,.tail hR⟩
def stepS (b:RBk) (i:Nat) (p:List Int):List (List Int):=(numsM (bd b i)).map fun n=>p++[n]
theorem zjM (x:RBand):∀ t,t<(x.high+1 - x.low).toNat->(numsM x)[t]? =some (x.low+t):=by
 have key:∀ (k:Nat) (n:Int) (t:Nat),t<k->(numsF n k)[t]? =some (n+t):=by
  intro k
  induction k with
  | zero=>intro n t h; omega
  | succ k ih =>
   intro n t h;unfold numsF;cases t with
   | zero=>simp
   | succ t =>
    rw [List.getElem?_cons_succ,ih (n+1) t oQ];congr 1;omega
 exact fun t h=>key _ _ t h
theorem zaD (x:RBand):(numsM x).length=(x.high+1 - x.low).toNat:=by
 unfold numsM;rw [zaC]
theorem zia {α:Type} {A:List α} {x:α} {L M:List α}:(x::(A++(L++M))).Perm (A++M++(x::L)):=by
 have h1:(A++(L++M)).Perm ((A++M)++L):=by
  rw [List.append_assoc];exact List.Perm.append_left A lH
 exact (List.Perm.cons x h1).trans (List.perm_middle (a:=x) (l₁:=A++M) (l₂:=L)).symm
theorem zfy {main T} (hT:zm tp main T) {gm} {b:RBk} {s h e j:Nat} {st:List Int} {et:TypeId} {m:RMeas} (hb:ROk b) (hs:StOk b st) (hm:0<=m.cloth/\m.cloth<b.seams.length/\1<=m.many/\m.many<=b.seams.length) :
  zq tp T gm 123 [.agg (zA b s h e),.agg (yd m),.sl j 0 st.length] [(s,zk b),(j,.cells (st.map intA) et false)] (fun r K'=>r=zF (decide (togM b st m.cloth.toNat m.many.toNat=m.wide))/\K'=[(s,zk b),(j,.cells (st.map intA) et false)]):=by
 refine zl 17 hT Tryz.func123 fun Y hret=>?_;refine au 0 ?_;obtain ⟨mc,mm,mw⟩:=m;dsimp only at hm;obtain ⟨c,rfl⟩:=Int.eq_ofNat_of_zero_le hm.1;obtain ⟨k,rfl⟩:=Int.eq_ofNat_of_zero_le (show 0<=mm by omega);refine au 21042 ?_;intro jb hjb;refine au 210 ?_;intro jm hjm;refine au 235 ?_;refine TK.dr [0,1,2,3,4,5,7,8,6,9,10] [0,1,2,3,4,5,6,7,8,9,10] ?_;refine ad [[12,3],[3,4],[10,8],[3,4],[10,10],[1,2],[3,4],[10,14]] ?_;refine bQ (pend':=[⟨8,[14],[(_,_)]⟩,⟨7,[4],[]⟩,⟨3,[4],[]⟩,⟨1,[4],[]⟩]) [7,9,11,12] Z Z Z Z Z (zhi hT (c:=c) (m:=k) hb hs oQ oQ) (fun r1 K2 h3=>⟨?_,?_⟩)
 ·rcases h3 with ⟨rfl,rfl⟩
  all_goals simp
 obtain ⟨rfl,rfl⟩:=h3;try simp only [cA]
 refine bS tQ ?_;refine ad [[4,13,15],[13,16],[14]] ?_;refine au 0 ?_;refine bB hret [(s,_),(j,_)] ?_;exact ⟨rfl,rfl⟩
theorem zim {main T} (hT:zm tp main T) {gm} {b:RBk} {s h e j:Nat} {st:List Int} {et:TypeId} (hb:ROk b) (hs:StOk b st) :
  zq tp T gm 90 [.agg (zA b s h e),.sl j 0 st.length] [(s,zk b),(e,zr b),(j,.cells (st.map intA) et false)] (fun r K'=>r=zF (rightM b st)/\K'=[(s,zk b),(e,zr b),(j,.cells (st.map intA) et false)]):=by
 refine zl 22 hT Tryz.func90 fun Y hret=>?_;refine au 0 ?_;have hml:=hb.mes.len;refine au 21042 ?_;intro jb hjb;refine au 1303542235 ?_;refine bA [1,2,5] ?_;refine bC [(s,_),(e,_),(j,_),(jb,_)] ?_;refine bE (fun n env K=>∃ (i:Nat),n=b.measures.length - i/\i<=b.measures.length/\(∀ m∈b.measures.take i,decide (togM b st m.cloth.toNat m.many.toNat=m.wide)=true)/\env=.any::.sl j 0 st.length::.ptr jb 0::naL 2 (intA i::naL 16 [])/\K=[(s,zk b),(e,zr b),(j,.cells (st.map intA) et false),(jb,.cells (zA b s h e) 26 true)]) b.measures.length ⟨0,rfl,mN _,fun m hm=>by simp at hm,rfl,rfl⟩ fun n env K hI hnext=>?_;obtain ⟨i,rfl,hi,hri,rfl,rfl⟩:=hI;refine bG nQ ?_;refine au 9372806906701422 ?_;constructor<;>intro hc0
 ·have hil:i<b.measures.length:=by simp at hc0; omega
  obtain ⟨x,hx⟩:∃ x,b.measures[i]? =some x:=⟨_,lA hil⟩;have hxb:=hb.mes.bnd x (lN hx);refine au 21302120 ?_;refine bL [0,1,2,3,4,5,6,7,8] ?_;refine ad [[12,2],[3,2],[10,14],[1,5],[2,15,16]] ?_;refine bT [17] Z (hq:=zI Z Z zd.h (mC _) (zb5 (i:=i) hx Z)) (h:=?_);refine ad [[1,1]] ?_;refine bQ (pend':=[⟨4,[15,16],[]⟩,⟨3,[5],[]⟩,⟨2,[14],[(_,_)]⟩,⟨1,[2],[]⟩]) [13,18,19] Z Z Z Z Z (zfy hT (m:=x) hb hs ⟨hxb.1,hxb.2.1,hxb.2.2.1,hxb.2.2.2.1⟩) (fun r1 K2 h3=>⟨?_,?_⟩)
  ·rcases h3 with ⟨rfl,rfl⟩
   all_goals simp
  obtain ⟨rfl,rfl⟩:=h3;try simp only [cA]
  refine bS tQ ?_;refine bU [20] Z (q_not Z Z) ?_;refine ad [[14]] ?_;refine au 9 ?_;constructor<;>intro hc1
  ·refine au 3542 ?_;refine bB hret [(s,_),(e,_),(j,_)] ?_;exact ⟨by rw [show rightM b st=false from List.all_eq_false.2 ⟨x,lN hx,by simpa using hc1⟩],rfl⟩
  refine au 3523014140120 ?_;refine bA [1,2,5] ?_;refine bC [(s,_),(e,_),(j,_),(jb,_)] ?_;exact hnext _ _ _ oQ ⟨i+1,rfl,oQ,fun m hm=>by
   rw [yC hx] at hm;rcases lT.1 hm with hm | hm
   ·exact hri m hm
   ·rw [lS.1 hm]; simpa using hc1,rfl,rfl⟩
 obtain rfl:i=b.measures.length:=by simp at hc0; omega
 refine au 3542160 ?_;refine bB hret [(s,_),(e,_),(j,_)] ?_;exact ⟨by rw [show rightM b st=true from List.all_eq_true.2 fun m hm=>hri m (by rw [lW]; exact hm)],rfl⟩
theorem zj5 {main T} (hT:zm tp main T) {gm} {b:RBk} {s h e:Nat} {P:List (Nat×List Int)} {x:Nat×List Int} (hb:ROk b) (hs:StOk b x.2) (hx:x∈P):zq tp T gm 90 [.agg (zA b s h e),.sl x.1 0 x.2.length] ((s,zk b)::(e,zr b)::objsL P) (fun r K'=>r=zF (rightM b x.2)/\K'=(s,zk b)::(e,zr b)::objsL P):=by
 obtain ⟨R,hR⟩:=zg5 (zdk hx);exact (zim hT hb hs).frameP (R:=R) (List.Perm.cons _ (List.Perm.cons _ hR.perm))
instance:ApOf tp 111 41 1 24:={}
instance:zz tp 111 41 1:={}
instance:TyZ tp 41 [.slice none 0 0]:={}
instance:Und tp 111 (.slice 41):={}
theorem zg8 {main T} (hT:zm tp main T) {gm} {b:RBk} {s h e:Nat} (hb:ROk b) :
  zq tp T gm 43 [.agg (zA b s h e)] [(s,zk b),(h,zC b),(e,zr b)] (fun r K'=>∃ (jr:Nat) (Q:List (Nat×List Int)),r=.row jr (zj b).length/\K'=(jr,.row (refsL Q) 41 1)::[(s,zk b),(h,zC b),(e,zr b)]):=by
 refine zl 73 hT Tryz.func43 fun Y hret=>?_;refine au 0 ?_;have hsl:=hb.sms.len;have hcl:=hb.cls.len;have h243:∀ i,i<=5->3 ^ i<=243:=fun i hi=>Nat.le_trans (Nat.pow_le_pow_right dQ hi) dQ;refine au 21042 ?_;intro jb hjb;refine au 4235 ?_;refine bI Z Z Z (zp (l:=[_]) Z zz.h TyZ.h dQ dQ Z) (fun _=>zn rfl tQ) fun j0 hj0=>?_;refine au 5 ?_;refine TK.nilRow (e:=3) (fun _=>uQ) fun je hje=>?_;refine au 130354223 ?_;refine bA [1,3,4] ?_;refine bC [(j0,_),(h,_),(jb,_),(s,_),(e,_),(je,_)] ?_;refine bE (fun n env K=>∃ (i ja:Nat) (P:List (Nat×List Int)),n=b.shrinks.length - i/\i<=b.shrinks.length/\P.map (·.2)=preS b i/\env=.any::.ptr jb 0::.any::.row ja P.length::intA i::naL 68 []/\K=(ja,.row (refsL P) 41 1)::(h,zC b)::(jb,.cells (zA b s h e) 26 true)::(s,zk b)::(e,zr b)::objsL P) b.shrinks.length ⟨0,j0,[(je,[])],rfl,mN _,rfl,rfl,rfl⟩ fun n env K hI hnext=>?_;obtain ⟨i,ja,P,rfl,hi,hP,rfl,rfl⟩:=hI;have hPl:P.length=(preS b i).length:=by rw [<- hP,lJ]
 have hPb:P.length<=243:=by have:=zeH hb i hi; have:=h243 i oQ; omega
 refine bG nQ ?_;refine au 9372806906701422 ?_;constructor<;>intro hc0
 ·have hil:i<b.shrinks.length:=by simp at hc0; omega
  have hbd:=hb.cls.bnd i oQ;refine au 5421302120 ?_;refine TK.virt 5 41 1 Z fun jn0 hjn0=>?_;refine au 130354223 ?_;refine bA [1,3,4,5,6] ?_;refine TK.perm (K':=(jn0,.row [] 41 1)::(ja,.row (refsL P) 41 1)::(h,zC b)::(jb,.cells (zA b s h e) 26 true)::(s,zk b)::(e,zr b)::(objsL P++objsL [])) (by simp [objsL]) ?_;refine bE (fun n env K=>∃ (q jn:Nat) (Q:List (Nat×List Int)),n=P.length - q/\q<=P.length/\Q.map (·.2)=((preS b i).take q).flatMap (stepS b i)/\env=.any::.ptr jb 0::.any::.row ja P.length::intA i::.row jn Q.length::intA q::naL 66 []/\K=(jn,.row (refsL Q) 41 1)::(ja,.row (refsL P) 41 1)::(h,zC b)::(jb,.cells (zA b s h e) 26 true)::(s,zk b)::(e,zr b)::(objsL P++objsL Q)) P.length ⟨0,jn0,[],rfl,mN _,rfl,rfl,rfl⟩ fun n env K hI2 hnext2=>?_;obtain ⟨q,jn,Q,rfl,hq,hQ,rfl,rfl⟩:=hI2;refine bG nQ ?_;refine au 93728011422 ?_;constructor<;>intro hc1
  ·have hql:q<P.length:=by simp at hc1; omega
   have hg:(preS b i)[q]? =some P[q].2:=zf1 hP hql;obtain ⟨pq,hpq⟩:∃ pq,pq=P[q]:=⟨_,rfl⟩;rw [<- hpq] at hg;have hpl:=(zbE hb i hi pq.2 (lN hg)).1;have hmp:pq∈P:=hpq ▸ List.getElem_mem hql;refine au 6703601690670421302120 ?_;refine bH Z (zg Z Z zd.h mQ (zW (c:=0) (bd_at b (i:=i) hil Z) dQ Z)) ?_;refine au 13035 ?_;refine bA [1,3,4,5,6,7] ?_;refine bE (fun n env K=>∃ (t jn:Nat) (Q:List (Nat×List Int)),n=((bd b i).high+1 - (bd b i).low).toNat - t/\t<=((bd b i).high+1 - (bd b i).low).toNat/\Q.map (·.2)=((preS b i).take q).flatMap (stepS b i)++((numsM (bd b i)).take t).map (fun n=>P[q].2++[n])/\env=.any::.ptr jb 0::.any::.row ja P.length::intA i::.row jn Q.length::intA q::intA ((bd b i).low+(t:Int))::naL 65 []/\K=(jn,.row (refsL Q) 41 1)::(ja,.row (refsL P) 41 1)::(h,zC b)::(jb,.cells (zA b s h e) 26 true)::(s,zk b)::(e,zr b)::(objsL P++objsL Q)) ((bd b i).high+1 - (bd b i).low).toNat ⟨0,jn,Q,rfl,mN _,by rw [hQ,List.take_zero,List.map_nil,lR],by rw [show (bd b i).low+((0:Nat):Int)=(bd b i).low by omega]; rfl,rfl⟩ fun n env K hI3 hnext3=>?_;obtain ⟨t,jn,Q,rfl,ht,hQ,rfl,rfl⟩:=hI3;rw [<- hpq] at hQ;have hQl:Q.length<=1000:=by
    have h1:=congrArg List.length hQ;rw [lJ,lF,lJ,List.length_take,zaD] at h1;have h2:=vQ (f:=stepS b i) (fun p=>by unfold stepS; rw [lJ,zaD]; omega) ((preS b i).take q);rw [List.length_take] at h2;omega
   refine bG nQ ?_;refine au 67036016906701422 ?_;refine bH Z (zg Z Z zd.h mQ (zW (c:=1) (bd_at b (i:=i) hil Z) dQ Z)) ?_;refine au 937 ?_;constructor<;>intro hc2
   ·have htl:t<((bd b i).high+1 - (bd b i).low).toNat:=by simp at hc2; omega
    have hmx:(pq.1,AObj.cells (pq.2.map intA) 3 false)∈objsL P++objsL Q:=List.mem_append_left _ (zdk hmp);refine au 141302120 ?_;refine bI Z Z Z (zp (l:=[]) Z zz.h TyZ.h dQ dQ Z) (fun _=>zn rfl tQ) fun j9 hj9=>?_;refine au 37011 ?_;refine bH Z (zg Z Z zd.h mQ (zcJ hql Z)) ?_;rw [<- hpq];refine TK.appG (ln:=pq.2.map intA) Z Z Z ApOf.h Z mQ Z Z Z (fun hp=>wB mQ oQ (kF (n:=pq.2.length) (size:=1) sQ oQ)) (fun h=>by simp [lK h]) (ints1 _) (by unfold maxLen; omega) oQ (fun _=>uQ) (fun _=>zn rfl tQ) fun j6=>?_;simp only [lC,mO];refine au 1 ?_;refine bI Z Z Z (zp (l:=[_]) Z zz.h TyZ.h dQ dQ Z) (fun _=>zn rfl tQ) fun j1 hj1=>?_;refine TK.appR Z Z Z (a_app Z ApOf.h Z mQ sQ Z (yp (ln:=[_]) mQ dQ sQ Z) oQ Z (by unfold maxLen; omega) oQ) (fun _=>uQ) (fun _=>zn rfl tQ) fun j3=>?_;refine TK.asSl 49 Z mQ ?_;refine bY (j:=j3) ?_;refine au 0 ?_;refine bI Z Z Z (zp (l:=[_]) Z zz.h TyZ.h dQ dQ Z) (fun _=>zn rfl tQ) fun j2 hj2=>?_;refine TK.appR Z Z Z (a_app Z ApOf.h Z mQ (by simp [refsL]) Z (yp (ln:=[_]) mQ dQ sQ Z) oQ Z (by unfold maxLen; omega) oQ) (fun _=>uQ) (fun _=>zn rfl tQ) fun j4=>?_;refine au 352301414035 ?_;refine bA [1,3,4,5,6,7] ?_;refine bC (((j4,_)::(j3,_)::(ja,_)::(h,_)::(jb,_)::(s,_)::(e,_)::(objsL P++objsL Q))) ?_;refine TK.perm (K':=(j4,.row (refsL Q++[.sl j3 0 (pq.2.length+1)]) 41 1)::(ja,.row (refsL P) 41 1)::(h,zC b)::(jb,.cells (zA b s h e) 26 true)::(s,zk b)::(e,zr b)::(objsL P++(objsL Q++[(j3,.cells (pq.2.map intA++[intA ((bd b i).low+(t:Int))]) 3 false)]))) ?_ ?_
    ·rw [<- List.append_assoc];exact List.Perm.cons _ (List.perm_append_singleton (j3,_) ((ja,.row (refsL P) 41 1)::(h,zC b)::(jb,.cells (zA b s h e) 26 true)::(s,zk b)::(e,zr b)::(objsL P++objsL Q))).symm
    exact hnext3 _ _ _ oQ ⟨t+1,j4,Q++[(j3,pq.2++[(bd b i).low+(t:Int)])],rfl,oQ,by rw [lM,hQ,<- hpq,yC (zjM _ t htl),lM,List.append_assoc]; rfl,by rw [lF,show (bd b i).low+(t:Int)+1=(bd b i).low+((t+1:Nat):Int) by omega]; rfl,by simp [refsL,objsL]⟩
   obtain rfl:t=((bd b i).high+1 - (bd b i).low).toNat:=by simp at hc2; omega
   refine au 3523014140160 ?_;refine bA [1,3,4,5,6] ?_;refine bC (((jn,_)::(ja,_)::(h,_)::(jb,_)::(s,_)::(e,_)::(objsL P++objsL Q))) ?_;exact hnext2 _ _ _ oQ ⟨q+1,jn,Q,rfl,oQ,by rw [hQ,show (numsM (bd b i)).take ((bd b i).high+1 - (bd b i).low).toNat=numsM (bd b i) from List.take_of_length_le (by rw [zaD]; exact mL _),yC hg,List.flatMap_append]; simp [stepS],rfl,rfl⟩
  obtain rfl:q=P.length:=by simp at hc1; omega
  have hQ:Q.map (·.2)=preS b (i+1):=by rw [hQ,hPl,lW]; rfl
  refine au 35230141403514160 ?_;refine bA [1,3,4] ?_;refine bC (((jn,_)::(ja,_)::(h,_)::(jb,_)::(s,_)::(e,_)::(objsL P++objsL Q))) ?_;refine TK.dropP (R:=(jn,.row (refsL Q) 41 1)::(h,zC b)::(jb,.cells (zA b s h e) 26 true)::(s,zk b)::(e,zr b)::objsL Q) (L:=(ja,.row (refsL P) 41 1)::objsL P) ?_ ?_
  ·exact List.Perm.cons _ (zia (A:=(h,zC b)::(jb,.cells (zA b s h e) 26 true)::(s,zk b)::(e,zr b)::[]) (x:=(ja,.row (refsL P) 41 1)) (L:=objsL P) (M:=objsL Q))
  exact hnext _ _ _ oQ ⟨i+1,jn,Q,rfl,oQ,hQ,rfl,rfl⟩
 obtain rfl:i=b.shrinks.length:=by simp at hc0; omega
 refine au 542160 ?_;refine TK.virt 8 41 1 Z fun jo0 hjo0=>?_;refine au 130354223 ?_;refine bA [1,3,8,9] ?_;refine bE (fun n env K=>∃ (q jo:Nat) (Q:List (Nat×List Int)),n=P.length - q/\q<=P.length/\Q.map (·.2)=((preS b b.shrinks.length).take q).filter (rightM b)/\env=.any::.ptr jb 0::.any::.row ja P.length::naL 4 (.row jo Q.length::intA q::naL 63 [])/\K=(jo,.row (refsL Q) 41 1)::(ja,.row (refsL P) 41 1)::(h,zC b)::(jb,.cells (zA b s h e) 26 true)::(s,zk b)::(e,zr b)::objsL P) P.length ⟨0,jo0,[],rfl,mN _,rfl,rfl,rfl⟩ fun n env K hI4 hnext4=>?_;obtain ⟨q,jo,Q,rfl,hq,hQ,rfl,rfl⟩:=hI4;have hQl:(Q.map (·.2)).length=Q.length:=lJ ..;have hQb:Q.length<=243:=by
  rw [<- hQl,hQ];have h1:=List.length_filter_le (rightM b) ((preS b b.shrinks.length).take q);rw [List.length_take] at h1;omega
 refine bG nQ ?_;refine au 93728011422 ?_;constructor<;>intro hc3
 ·have hql:q<P.length:=by simp at hc3; omega
  have hg:(preS b b.shrinks.length)[q]? =some P[q].2:=zf1 hP hql;have hmp:P[q]∈P:=List.getElem_mem hql;obtain ⟨hpl,hpb⟩:=zbE hb _ (mL _) P[q].2 (lN hg);have hst:StOk b P[q].2:=zeh hb ⟨hpl,fun i hi=>hpb.2 i oQ⟩;refine au 21302120 ?_;refine bL [0,1,2,3,4,5] ?_;refine ad [[12,1],[1,3],[1,9]] ?_;refine bT [60,61] Z (hq:=yZ Z Z Z zz.h (mC _) oQ oQ) (h:=?_);refine bT [62] Z (hq:=zg Z Z zd.h (mC _) (zcJ hql Z)) (h:=?_);refine bQ (pend':=[⟨3,[60,61],[(_,_)]⟩,⟨2,[9],[]⟩,⟨1,[3],[]⟩]) [59,63] Z Z Z Z Z (zj5 hT hb hst hmp) (fun r3 K4 h5=>⟨?_,?_⟩)
  ·rcases h5 with ⟨rfl,rfl⟩
   all_goals simp
  obtain ⟨rfl,rfl⟩:=h5;try simp only [cA]
  refine bS tQ ?_;refine TD.perm (lH (l₁:=(s,_)::(e,_)::objsL P)) ?_;simp only [cA];refine ad [[14]] ?_;refine au 9 ?_;constructor<;>intro hc4
  ·refine au 3701114 ?_;refine bH Z (zg Z Z zd.h mQ (zcJ hql Z)) ?_;refine bI Z Z Z (zp (l:=[_]) Z zz.h TyZ.h dQ dQ Z) (fun _=>zn rfl tQ) fun j6 hj6=>?_;refine TK.appR Z Z Z (a_app Z ApOf.h Z mQ (by simp [refsL]) Z (yp (ln:=[_]) mQ dQ sQ Z) oQ Z (by unfold maxLen; omega) oQ) (fun _=>uQ) (fun _=>zn rfl tQ) fun jo2=>?_;refine au 352301414035 ?_;refine bA [1,3,8,9] ?_;refine bC (((jo2,_)::(ja,_)::(h,_)::(jb,_)::(s,_)::(e,_)::objsL P)) ?_;exact hnext4 _ _ _ oQ ⟨q+1,jo2,Q++[P[q]],rfl,oQ,by rw [lM,hQ,yC hg,List.filter_append,List.filter_cons_of_pos hc4]; rfl,by rw [lF]; rfl,by simp [refsL] <;> rfl⟩
  refine au 3523014140120 ?_;refine bA [1,3,8,9] ?_;refine bC (((jo,_)::(ja,_)::(h,_)::(jb,_)::(s,_)::(e,_)::objsL P)) ?_;exact hnext4 _ _ _ oQ ⟨q+1,jo,Q,rfl,oQ,by rw [hQ,yC hg,List.filter_append,List.filter_cons_of_neg (by rw [hc4]; decide),List.filter_nil,lR],rfl,rfl⟩
 obtain rfl:q=P.length:=by simp at hc3; omega
 rw [hPl] at hQ;refine au 35142160 ?_;refine bB hret [(jo,_),(s,_),(h,_),(e,_)] ?_;exact ⟨jo,Q,by rw [<- zg0,<- hQl,hQ,lW] <;> rfl,rfl⟩
end Go.Vel
namespace Go.Vel
open Go Go.Conc
def moreB (b:RBk) (ro ra:Int) (sms:List RSeam):RBk:={ b with rolls:=ro,roll:=ra,seams:=sms }
def busyX (x:RSeam) (v:Int):RSeam:={ x with busy:=v }
def spoilX (x:RSeam) (v:Int):RSeam:={ x with spoil:=v }
def setS (f:RSeam->Int->RSeam):List RSeam->List Int->List RSeam
 | x::xs,v::vs=>f x v::setS f xs vs
 | xs,_=>xs
def setB (f:RSeam->Int->RSeam) (b:RBk) (l:List Int):RBk:=moreB b b.rolls b.roll (setS f b.seams l)
theorem ze0 (f:RSeam->Int->RSeam) (xs:List RSeam):setS f xs []=xs:=by cases xs <;> rfl
theorem wo (f:RSeam->Int->RSeam):∀ (xs:List RSeam) (l:List Int),(setS f xs l).length=xs.length
 | [],_=>rfl
 | x::xs,[]=>rfl
 | x::xs,v::vs=>congrArg (· + 1) (wo f xs vs)
theorem zeZ (f:RSeam->Int->RSeam):∀ (xs:List RSeam) (l:List Int) (i:Nat) (x:RSeam) (v:Int),xs[i]? =some x->l[i]? =some v->(setS f xs l)[i]? =some (f x v)
 | [],_,i,x,v,h,_=>by cases h
 | y::xs,[],i,x,v,_,h=>by cases h
 | y::xs,u::vs,0,x,v,h,h2=>by cases h; cases h2; rfl
 | y::xs,u::vs,i+1,x,v,h,h2=>zeZ f xs vs i x v h h2
theorem ze1 (f:RSeam->Int->RSeam):∀ (xs:List RSeam) (l:List Int) (i:Nat),l.length<=i->(setS f xs l)[i]? =xs[i]?
 | [],_,i,_=>rfl
 | y::xs,[],i,_=>rfl
 | y::xs,u::vs,0,h=>by simp at h
 | y::xs,u::vs,i+1,h=>ze1 f xs vs i (by simpa using h)
theorem ze2 (f:RSeam->Int->RSeam):∀ (xs:List RSeam) (l:List Int) (i:Nat) (x:RSeam) (v:Int),xs[i]? =some x->l[i]? =some v->(setS f xs (l.take i)).set i (f x v)=setS f xs (l.take (i+1))
 | [],_,i,x,v,h,_=>by cases h
 | y::xs,[],i,x,v,_,h=>by cases h
 | y::xs,u::vs,0,x,v,h,h2=>by cases h; cases h2; show f y u::xs=f y u::setS f xs []; rw [ze0]
 | y::xs,u::vs,i+1,x,v,h,h2=>by
  show f y u::(setS f xs (vs.take i)).set i (f x v)=f y u::setS f xs (vs.take (i+1));rw [ze2 f xs vs i x v h h2]
theorem vw {f:RSeam->Int->RSeam} {b:RBk} {l:List Int} (hl:l.length=b.seams.length) {i:Nat} (hi:i<b.seams.length):sm (setB f b l) i=f (sm b i) (l.getD i 0):=by
 have h1:(setS f b.seams l)[i]? =some (sm (setB f b l) i):=yO (b:=setB f b l) (by show i<(setS f b.seams l).length; rw [wo]; exact hi);have h2:l[i]? =some (l.getD i 0):=by rw [lE,lA oQ]; rfl
 rw [zeZ f _ _ i _ _ (yO hi) h2] at h1;exact (Option.some.inj h1).symm
structure KeepX (f:RSeam->Int->RSeam):Prop where
 step:∀ x v,(f x v).step=x.step
 most:∀ x v,(f x v).most=x.most
 whole:∀ x v,(f x v).whole=x.whole
theorem zb3:KeepX spoilX:=⟨fun _ _=>rfl,fun _ _=>rfl,fun _ _=>rfl⟩
theorem zkb {f:RSeam->Int->RSeam} (hf:KeepX f) {b:RBk} {l:List Int} (hl:l.length=b.seams.length) {i:Nat} (hi:i<b.seams.length):wideM (setB f b l) i=wideM b i:=by
 have hn:(setB f b l).seams.length=b.seams.length:=wo f _ _;unfold wideM;rw [hn,vw hl hi,vw hl (show 0<b.seams.length by omega),hf.step,hf.step];by_cases e:i+1<b.seams.length
 ·rw [if_pos e,if_pos e,vw hl e,hf.step]
 ·rw [if_neg e,if_neg e]; rfl
theorem zmU {f:RSeam->Int->RSeam} (hf:KeepX f) {b:RBk} (hb:ROk b) {l:List Int} (hl:l.length=b.seams.length) (hv:∀ i,i<b.seams.length->(0<=(f (sm b i) (l.getD i 0)).busy/\(f (sm b i) (l.getD i 0)).busy<=9)/\0<=(f (sm b i) (l.getD i 0)).spoil/\(f (sm b i) (l.getD i 0)).spoil<=9):ROk (setB f b l):=by
 have hr:=hb.rnd;have hlen:(setB f b l).seams.length=b.seams.length:=wo f _ _;refine ⟨⟨hr.steps,hr.round,hr.roll,hr.rolls⟩,⟨by rw [hlen]; exact hb.sms.len,fun k hk=>?_,fun k j hkj hj=>?_⟩,⟨by rw [hlen]; exact hb.cls.len,fun k hk=>?_⟩,⟨hb.mes.len,fun m hm=>?_⟩⟩
 ·rw [hlen] at hk;have h1:=hb.sms.fld k hk;have h2:=hv k hk;rw [vw hl hk,hf.step,hf.most];show _/\_<b.steps/\_;omega
 ·rw [hlen] at hj;rw [vw hl (show k<b.seams.length by omega),vw hl hj,hf.step,hf.step];exact hb.sms.asc k j hkj hj
 ·rw [hlen] at hk;rw [zkb hf hl hk];exact hb.cls.bnd k hk
 ·rw [hlen];exact hb.mes.bnd m hm
theorem ziu {f:RSeam->Int->RSeam} (hf:KeepX f) {b:RBk} {l m:List Int} (hl:l.length=b.seams.length) (hm:m.length=b.seams.length) (hv:∀ i,i<b.seams.length->(f (sm b i) (m.getD i 0)).busy<=(f (sm b i) (l.getD i 0)).busy/\(f (sm b i) (m.getD i 0)).spoil<=(f (sm b i) (l.getD i 0)).spoil):Wider (setB f b l) (setB f b m):=by
 have hn:(setB f b l).seams.length=b.seams.length:=wo f _ _;have hn2:(setB f b m).seams.length=b.seams.length:=wo f _ _;refine ⟨rfl,rfl,Int.le_refl _,Int.le_refl _,hn2.trans hn.symm,rfl,rfl,fun i hi=>?_⟩;rw [hn] at hi;rw [vw hl hi,vw hm hi,hf.step,hf.step,hf.most,hf.most,hf.whole,hf.whole];exact ⟨rfl,(hv i hi).1,(hv i hi).2,rfl,Int.le_refl _⟩
theorem ze8 {b:RBk} (hb:ROk b) {l:List Int} (hl:l.length=b.seams.length) (hv:∀ v∈l,0<=v/\v<=9):zu (setB spoilX b l)=0:=zjQ (zmU zb3 hb hl fun i hi=>by
 have h1:=hb.sms.fld i hi;have h2:=hv _ (lN (show l[i]? =some (l.getD i 0) by rw [lE,lA oQ]; rfl));show (0<=(sm b i).busy/\(sm b i).busy<=9)/\0<=l.getD i 0/\l.getD i 0<=9;omega)
theorem zfB {b:RBk} {l m:List Int} (hl:l.length=b.seams.length) (hm:m.length=b.seams.length) (hv:∀ i,i<b.seams.length->m.getD i 0<=l.getD i 0):Wider (setB spoilX b l) (setB spoilX b m):=ziu zb3 hl hm fun i hi=>⟨Int.le_refl _,hv i hi⟩
end Go.Vel
namespace Go.Vel
open Go Go.Conc Go.Proofs
theorem zid {xs:List RSeam} {i:Nat} {n:Int} {x:RSeam} {v:Int} {e:TypeId} (h:xs[i]? =some x) (hn:n=(i:Int)):putO (.row (xs.flatMap seamC) e 5) (n.toNat*5+3) [intA v]=some (.row ((xs.set i (spoilX x v)).flatMap seamC) e 5):=by
 subst hn;unfold putO;dsimp only;have hl:=yz seamC 5 (fun _=>rfl) xs;obtain ⟨hi,_⟩:=lD.1 h;rw [if_pos ⟨by rw [hl]; simp; omega,by simp,rfl⟩];have key:∀ (xs:List RSeam) (i:Nat),xs[i]? =some x->setL (xs.flatMap seamC) (i*5+3) [intA v]=(xs.set i (spoilX x v)).flatMap seamC:=by
  intro xs
  induction xs with
  | nil=>intro i hi; simp at hi
  | cons y r ih =>
   intro i hi;cases i with
   | zero=>cases hi; rfl
   | succ i =>
    rw [List.set_cons_succ,List.flatMap_cons,List.flatMap_cons,<- ih i (by simpa using hi)];rw [show (i+1)*5+3=(seamC y).length+(i*5+3) by show _=5+_; omega];show (seamC y++r.flatMap seamC).set ((seamC y).length+(i*5+3)) (intA v)=seamC y++(r.flatMap seamC).set (i*5+3) (intA v);rw [List.set_append_right _ _ oQ];congr 2;omega
 rw [show (i:Int).toNat*5+3=i*5+3 by rw [mZ],key xs i h]
theorem zhX {Ψ:Goroutine->World->Prop} {b:RBk} {s h e s2:Nat} {ro ra:Int} {sms:List RSeam} (hck:zu b=0) (hok:zu (moreB b ro ra sms)=0) (hne:zj b≠[]) (hw:Wider b (moreB b ro ra sms)) :
  zq tp (BT tp Ψ) gmR 44 [.agg (zA b s h e),.agg (zA (moreB b ro ra sms) s2 h e)] [(0,zx),(s,zk b),(h,zC b),(e,zr b),(s2,zk (moreB b ro ra sms))] (fun r K'=>r=zF true/\K'=[(0,zx),(s,zk b),(h,zC b),(e,zr b),(s2,zk (moreB b ro ra sms))]):=by
 have hT:=kq (P:=tp) Ψ;refine zl 123 hT Tryz.func44 fun Y hret=>?_;refine au 0 ?_;have hbb:=zY hck;have hob:=zY hok;have hl:b.seams.length<=100:=by have:=hbb.sms.len; omega
 have hm:b.measures.length<=100:=by have:=hbb.mes.len; omega
 have hl2:(moreB b ro ra sms).seams.length<=100:=by have:=hob.sms.len; omega
 have hm2:(moreB b ro ra sms).measures.length<=100:=hm;have hpos:0<b.seams.length:=by have:=hbb.sms.len; omega
 have hst:=hw.states hpos;have hne2:zj (moreB b ro ra sms)≠[]:=by rw [hst]; exact hne
 have hall:okAll b (zj b):=fun s hs=>(y8 hbb hs).1;refine au 21042 ?_;intro jb hjb;refine au 210 ?_;intro jb2 hjb2;refine au 6804235 ?_;refine bD Z Z Z Z ((zaU hl hm).mono (fun _ _ h=>or3 h hck hne)) ?_;rintro r1 K2 h3;rcases h3 with ⟨hno,rfl,rfl⟩ | ⟨c,jc,ec,hp,rfl,rfl⟩
 ·refine au 680423555566661 ?_;refine bD Z Z Z Z ((zaU (b:=(moreB b ro ra sms)) (s:=s2) (h:=h) (e:=e) hl2 hm2).mono (fun _ _ h=>or3 h hok hne2)) ?_;rintro r4 K5 h6;rcases h6 with ⟨hno2,rfl,rfl⟩ | ⟨d,jd,ed,hq,rfl,rfl⟩
  ·refine au 0 ?_;refine au 680423555566661 ?_;refine bD Z Z Z Z ((wg hl hm).mono (fun _ _ h=>or3 h hck hne)) ?_;rintro r7 K8 h9;rcases h9 with ⟨hnf,rfl,rfl⟩ | ⟨f,jf,ef,hf,rfl,rfl⟩
   ·refine au 0 ?_;refine au 6804235556661 ?_;refine bD Z Z Z Z ((wg (b:=(moreB b ro ra sms)) (s:=s2) (h:=h) (e:=e) hl2 hm2).mono (fun _ _ h=>or3 h hok hne2)) ?_;rintro r10 K11 h12;rcases h12 with ⟨hnf2,rfl,rfl⟩ | ⟨g,jg,eg,hg,rfl,rfl⟩
    ·refine au 0 ?_;refine au 6804235556661 ?_;refine bD Z Z Z Z ((wp hl hm).mono (fun _ _ h=>or3 h hck hne)) ?_;rintro r13 K14 ⟨rfl,rfl⟩;refine au 6804235556661 ?_;refine bD Z Z Z Z ((wp (b:=(moreB b ro ra sms)) (s:=s2) (h:=h) (e:=e) hl2 hm2).mono (fun _ _ h=>or3 h hok hne2)) ?_;rintro r16 K17 ⟨rfl,rfl⟩;refine au 0 ?_;rw [hst];refine au 13001126026088888888130011260260888888130011260711260711260711260711260711714235556661 ?_;refine bF 114 (fun g7_52=>?_) (fun g7_52=>?_)
     ·refine au 35260260888888 ?_;refine bB hret [(0,_),(s,_),(h,_),(e,_),(s2,_)] ?_;exact ⟨by first | rfl | simp [w2],rfl⟩
     have hws:(widestM b (zj b)).isSome=true:=by simpa using g7_52
     obtain ⟨w1,w2⟩:=hw.widest hbb hob hne hall hws;rw [w1];refine au 3526025026071111 ?_;refine bB hret [(0,_),(s,_),(h,_),(e,_),(s2,_)] ?_;exact ⟨by first | rfl | simp [w2],rfl⟩
    ·refine au 0 ?_;exact (vK hg hno2).elim
   ·refine au 0 ?_;exact (vK hf hno).elim
  ·refine au 0 ?_;refine au 680423555566661 ?_;refine bD Z Z Z Z ((wg hl hm).mono (fun _ _ h=>or3 h hck hne)) ?_;rintro r19 K20 h21;rcases h21 with ⟨hnf,rfl,rfl⟩ | ⟨f,jf,ef,hf,rfl,rfl⟩
   ·refine au 0 ?_;refine au 6804235556661 ?_;refine bD Z Z Z Z ((wg (b:=(moreB b ro ra sms)) (s:=s2) (h:=h) (e:=e) hl2 hm2).mono (fun _ _ h=>or3 h hok hne2)) ?_;rintro r22 K23 h24;rcases h24 with ⟨hnf2,rfl,rfl⟩ | ⟨g,jg,eg,hg,rfl,rfl⟩
    ·refine au 0 ?_;exact (vK hq hnf2).elim
    ·refine au 0 ?_;refine au 6804235556661 ?_;refine bD Z Z Z Z ((wp hl hm).mono (fun _ _ h=>or3 h hck hne)) ?_;rintro r25 K26 ⟨rfl,rfl⟩;refine au 6804235556661 ?_;refine bD Z Z Z Z ((wp (b:=(moreB b ro ra sms)) (s:=s2) (h:=h) (e:=e) hl2 hm2).mono (fun _ _ h=>or3 h hok hne2)) ?_;rintro r28 K29 ⟨rfl,rfl⟩;refine au 0 ?_;rw [hst];refine au 13001126026088888888130011260260888888130011260711260711260711260711260711714235556661 ?_;refine bF 114 (fun g7_52=>?_) (fun g7_52=>?_)
     ·refine au 35260260888888 ?_;refine bB hret [(0,_),(s,_),(h,_),(e,_),(s2,_)] ?_;exact ⟨by first | rfl | simp [w2],rfl⟩
     have hws:(widestM b (zj b)).isSome=true:=by simpa using g7_52
     obtain ⟨w1,w2⟩:=hw.widest hbb hob hne hall hws;rw [w1];refine au 3526025026071111 ?_;refine bB hret [(0,_),(s,_),(h,_),(e,_),(s2,_)] ?_;exact ⟨by first | rfl | simp [w2],rfl⟩
   ·refine au 0 ?_;exact (vK hf hno).elim
 ·refine au 680423555566661 ?_;refine bD Z Z Z Z ((zaU (b:=(moreB b ro ra sms)) (s:=s2) (h:=h) (e:=e) hl2 hm2).mono (fun _ _ h=>or3 h hok hne2)) ?_;rintro r31 K32 h33;rcases h33 with ⟨hno2,rfl,rfl⟩ | ⟨d,jd,ed,hq,rfl,rfl⟩
  ·refine au 0 ?_;rw [hst] at hno2; exact (hw.best hbb hob hne hall hp hno2).elim
  ·refine au 0 ?_;have hle:=hw.bestLe hbb hob hne hall hp (hst ▸ hq);refine au 680423555566661 ?_;refine bD Z Z Z Z ((wg hl hm).mono (fun _ _ h=>or3 h hck hne)) ?_;rintro r34 K35 h36;rcases h36 with ⟨hnf,rfl,rfl⟩ | ⟨f,jf,ef,hf,rfl,rfl⟩
   ·refine au 0 ?_;exact (vK hp hnf).elim
   ·refine au 0 ?_;refine au 6804235556661 ?_;refine bD Z Z Z Z ((wg (b:=(moreB b ro ra sms)) (s:=s2) (h:=h) (e:=e) hl2 hm2).mono (fun _ _ h=>or3 h hok hne2)) ?_;rintro r37 K38 h39;rcases h39 with ⟨hnf2,rfl,rfl⟩ | ⟨g,jg,eg,hg,rfl,rfl⟩
    ·refine au 0 ?_;exact (vK hq hnf2).elim
    ·refine au 0 ?_;have hfl:=hw.fewLe hbb hob hne hall hf (hst ▸ hg);refine au 6804235556661 ?_;refine bD Z Z Z Z ((wp hl hm).mono (fun _ _ h=>or3 h hck hne)) ?_;rintro r40 K41 ⟨rfl,rfl⟩;refine au 6804235556661 ?_;refine bD Z Z Z Z ((wp (b:=(moreB b ro ra sms)) (s:=s2) (h:=h) (e:=e) hl2 hm2).mono (fun _ _ h=>or3 h hok hne2)) ?_;rintro r43 K44 ⟨rfl,rfl⟩;refine au 0 ?_;rw [hst];refine au 126025026071111130011260711260711260711260711260711714235556661 ?_;refine bF 97 (fun g7_35=>?_) (fun g7_35=>?_)
     ·refine au 12602502607280128011113001 ?_;refine bF 111 (fun g7_49=>?_) (fun g7_49=>?_)
      ·refine au 13001 ?_;refine bF 114 (fun g7_52=>?_) (fun g7_52=>?_)
       ·refine au 35260260888888 ?_;refine bB hret [(0,_),(s,_),(h,_),(e,_),(s2,_)] ?_;exact ⟨by first | rfl | simp [w2],rfl⟩
       have hws:(widestM b (zj b)).isSome=true:=by simpa using g7_52
       obtain ⟨w1,w2⟩:=hw.widest hbb hob hne hall hws;rw [w1];refine au 3526025026071111 ?_;refine bB hret [(0,_),(s,_),(h,_),(e,_),(s2,_)] ?_;exact ⟨by first | rfl | simp [w2],rfl⟩
      simp at g7_49; omega
     simp [hst] at g7_35; omega
end Go.Vel
end
