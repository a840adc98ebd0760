/- Texts for the law SeekerRolled (chapters 8 and 9), part 7. It holds of every program, tape and world that the statements name, as each theorem says. -/
import Derived.Test.YtclnbamaepgfiaaGreatDoorR5
section
set_option linter.all false
set_option maxRecDepth 20000
set_option maxHeartbeats 60000000
open List renaming getElem?_eq_getElem -> lA
open Go.Vel.TK renaming rt -> bB
namespace Go.Vel
open Go Go.Conc Go.Proofs
def heard1(b:Bk)(i:Nat):Int:=match b.kE[i]? with
 | some x=>if (!isNameM x.name)=true then 4 else if ((b.kE.take i).any fun o=>o.name.toList==x.name.toList)=true then 5 else if (!zS b x.frm || !zS b x.til)=true then 6 else if (decide (x.says<0)||decide (x.says>2))=true then 1 else 0
 | none=>0
def heardL(b:Bk):Nat->Int
 | 0=>0
 | n+1=>if heardL b n=0 then heard1 b n else heardL b n
def heardM(b:Bk):Int:=if b.kE.length>5 then 2 else heardL b b.kE.length
theorem kj{b:Bk}{i:Nat}{c:Int}(h0:heardL b i=0)(h1:heard1 b i=c)(hc:c≠0):∀{n:Nat},i<n->heardL b n=c
 | 0,h=>absurd h (Nat.not_lt_zero _)
 | n+1,h=>by
  rcases Nat.lt_or_ge i n with Qp|hge
  ·have:=kj h0 h1 hc Qp;unfold heardL;rw[this,if_neg hc]
  ·obtain rfl:i=n:=by omega
   unfold heardL;rw[if_pos h0,h1]
theorem zmx{b:Bk}{s i:Nat}(h:i<=b.kE.length):subA s 0 5 0 ((i:Int).toNat)=.sl s 0 (b.kE.take i).length:=by
 rw[List.length_take,Nat.min_eq_left h];rfl
theorem zkp(b:Bk)(i:Nat):SaysAt (zu b) 0 (b.kE.take i):=fun k h=>by
 rw[List.length_take]at h;rw[List.getElem_take];exact says_at' b (lA oQ)
theorem zlr{main T}(hT:zo Tryz.prog main T){gm}{b:Bk}{s e:Nat}(hs:0<=b.sP/\b.sP<=16)(hn:∀ x∈b.kE,x.name.size<=1000) :
  zl Tryz.prog T gm 232 [.agg (zA b s e)] [(s,zu b)] (fun r K'=>r=za (heardM b)/\K'=[(s,zu b)]):=by
 refine zh 55 hT Tryz.func232 fun Y Wz=>?_;refine au 21042 ?_;intro jb hjb;refine au 93728069067067042235 ?_;refine⟨fun k0=>?_,fun k0=>?_⟩
 ·have k0:b.kE.length>5:=by have:=oT_ k0;omega
  refine au 3542 ?_;refine bB Wz [(s,_)] ?_;exact⟨by unfold heardM;rw[if_pos k0] <;> rfl,rfl⟩
 have k0:¬ b.kE.length>5:=by have:=oF_ k0;omega
 refine au 13031280690670670422120 ?_;refine TK.maskL [1,12,13,14] ?_;refine TK.loopN (fun n Wq K=>∃(i:Nat),n=b.kE.length - i/\i<=b.kE.length/\heardL b i=0/\Wq=ym 55 [(1,.ptr jb 0),(12,.sl s 0 b.kE.length),(13,za b.kE.length),(14,za i)]/\K=[(jb,.cells (zA b s e) 110 true),(s,zu b)]) b.kE.length ⟨0,rfl,Nat.zero_le _,rfl,rfl,rfl⟩ fun n Wq K hI Wj=>?_;obtain⟨i,rfl,hi,h0,rfl,rfl⟩:=hI;refine au 923742 ?_;refine⟨fun hc=>?_,fun hc=>?_⟩
 ·simp only[dT_]at hc;have Qb:i<b.kE.length:=by omega
  obtain⟨x,hx⟩:∃ x,b.kE[i]? =some x:=⟨_,lA Qb⟩;have hxm:=List.mem_of_getElem? hx;refine au 3601421302120 ?_;refine TK.a Z (zK Z Z ze.h mQ (says_at' b hx)) ?_;refine au 220 ?_;intro jx hjx;refine au 6906704213031705 ?_;refine TK.clE Z Z Z Z (zjB hT (hn x hxm)) ?_;refine au 935300 ?_;refine⟨fun k2=>?_,fun k2=>?_⟩
  ·refine au 3542 ?_;refine bB Wz [(s,_)] ?_;exact⟨by unfold heardM;rw[if_neg k0,kj h0 (c:=4) (by unfold heard1 zS;rw[hx];simp only[*,if_true]) dQ Qb] <;> rfl,rfl⟩
  refine au 169067067042 ?_;refine TK.a Z (zj8 Z Z zp.h Z Z oQ oQ (zmx (b:=b) hi)) ?_;refine au 320 ?_;refine TK.clE Z Z Z Z (zcI hT (cp:=[.ptr jx 0]) (Kc:=[(jx,.cells (saysC x) 78 true)]) (p:=fun o=>o.name.toList==x.name.toList) Cal.h (fun y _=>zjw hT) (zkp b i) (by rw[List.length_take];omega)) ?_;refine au 935 ?_;refine⟨fun k3=>?_,fun k3=>?_⟩
  ·refine au 3542 ?_;refine bB Wz [(s,_)] ?_;exact⟨by unfold heardM;rw[if_neg k0,kj h0 (c:=5) (by unfold heard1 zS;rw[hx];simp only[*];rfl) dQ Qb] <;> rfl,rfl⟩
  refine au 69067068042 ?_;refine TK.clE Z Z Z Z (wc hT (b:=b) (s:=s) (e:=e) hs) ?_;refine au 1300 ?_;refine TK.sp 38 (fun g10_6=>?_) (fun g10_6=>?_)
  ·refine au 35421803526088888 ?_;refine bB Wz [(s,_)] ?_;exact⟨by unfold heardM;rw[if_neg k0,kj h0 (c:=6) (by unfold heard1 zS;rw[hx];simp only[*];rfl) dQ Qb] <;> rfl,rfl⟩
  refine au 690670680 ?_;refine TK.clE Z Z Z Z (wc hT (b:=b) (s:=s) (e:=e) hs) ?_;refine au 935250300 ?_;refine⟨fun k4=>?_,fun k4=>?_⟩
  ·refine au 3542 ?_;refine bB Wz [(s,_)] ?_;exact⟨by unfold heardM;rw[if_neg k0,kj h0 (c:=6) (by unfold heard1 zS;rw[hx];simp only[*];rfl) dQ Qb] <;> rfl,rfl⟩
  refine au 1769067042 ?_;refine TK.sp 49 (fun g12_4=>?_) (fun g12_4=>?_)
  ·refine au 354218035260888 ?_;refine bB Wz [(s,_)] ?_;exact⟨by unfold heardM;rw[if_neg k0,kj h0 (c:=1) (by unfold heard1 zS;rw[hx];simp only[*];rfl) dQ Qb] <;> rfl,rfl⟩
  refine au 9352507690670 ?_;refine⟨fun k5=>?_,fun k5=>?_⟩
  ·refine au 3542 ?_;refine bB Wz [(s,_)] ?_;exact⟨by unfold heardM;rw[if_neg k0,kj h0 (c:=1) (by unfold heard1 zS;rw[hx];simp only[*];rfl) dQ Qb] <;> rfl,rfl⟩
  refine au 312304140140120 ?_;refine TK.maskL [1,12,13,14] ?_;refine TK.kp [(jb,_),(s,_)] ?_;exact Wj _ _ _ oQ ⟨i+1,rfl,oQ,by unfold heardL;rw[if_pos h0];unfold heard1 zS;rw[hx];simp only[*];rfl,rfl,rfl⟩
 simp only[dF_]at hc;obtain rfl:i=b.kE.length:=by omega
 refine au 3542160 ?_;refine bB Wz [(s,_)] ?_;exact⟨by unfold heardM;rw[if_neg k0,h0] <;> rfl,rfl⟩
def zx:AObj:=.cells [.fn 231 [] [],.fn 232 [] [],.fn 233 [] []] 194 false
def zF(b:Bk):Int:=if (numbersM b !=0)=true then numbersM b else if (heardM b !=0)=true then heardM b else lookedM b
theorem kA{b:Bk}(h:(numbersM b !=0)=false):4<=b.sP/\b.sP<=16/\0<=b.wrong/\b.wrong<=3/\0<=b.low/\b.low<=b.high/\b.high<=3:=by
 unfold numbersM at h;cases hc:(!(decide (4<=b.sP)&&decide (b.sP<=16))||(!(decide (0<=b.wrong)&&decide (b.wrong<=3))||(decide (b.low<0)||(decide (b.low>b.high)||decide (b.high>3)))))with
 | true=>rw[hc]at h;cases h
 | false =>
  simp only[Bool.or_eq_false_iff,Bool.not_eq_false',Bool.and_eq_true,dT_,dF_]at hc;omega
theorem kR{main:Bool}{T:Goroutine->Hp->Prop}(hT:zo Tryz.prog main T){b:Bk}{s e:Nat}(hn:∀ x∈b.kE,x.name.size<=1000)(hl:b.seen.length<=1000) :
  zl Tryz.prog T gmR 58 [.agg (zA b s e)] [(0,zx),(s,zu b),(e,zw b)] (fun r K'=>r=za (zF b)/\K'=[(0,zx),(s,zu b),(e,zw b)]):=by
 refine zh 18 hT Tryz.func58 fun Y Wz=>?_;refine au 21042 ?_;intro jb hjb;refine au 1303168042235 ?_;refine TK.loop ?_;refine au 923742 ?_;refine⟨fun k0=>?_,fun k0=>?_⟩
 ·
  refine au 421302120 ?_;refine TK.a Z (kP Z Z Z ArEl.h oQ oQ Z) ?_;refine au 43068014235 ?_;refine TK.clE Z Z Z Z (zij hT (b:=b) (s:=s) (e:=e)) ?_;refine au 93714235 ?_;refine⟨fun k1=>?_,fun k1=>?_⟩
  ·refine au 35142 ?_;refine bB Wz [(0,_),(s,_),(e,_)] ?_;exact⟨by unfold zF;rw[if_pos k1],rfl⟩
  have q1:=k1;have hr:=kA q1;refine au 312304140120 ?_;refine TK.inLoop ?_;refine au 923742 ?_;refine⟨fun k0=>?_,fun k0=>?_⟩
  ·
   refine au 421302120 ?_;refine TK.a Z (kP Z Z Z ArEl.h oQ oQ Z) ?_;refine au 43068014235 ?_;refine TK.clE Z Z Z Z (zlr hT (b:=b) (s:=s) (e:=e) oQ hn) ?_;refine au 93714235 ?_;refine⟨fun k1=>?_,fun k1=>?_⟩
   ·refine au 35142 ?_;refine bB Wz [(0,_),(s,_),(e,_)] ?_;exact⟨by unfold zF;rw[if_neg (by rw[q1];decide),if_pos k1],rfl⟩
   have q2:=k1;refine au 312304140120 ?_;refine TK.inLoop ?_;refine au 923742 ?_;refine⟨fun k0=>?_,fun k0=>?_⟩
   ·
    refine au 421302120 ?_;refine TK.a Z (kP Z Z Z ArEl.h oQ oQ Z) ?_;refine au 43068014235 ?_;refine TK.clE Z Z Z Z (zjF hT (b:=b) (s:=s) (e:=e) oQ hl) ?_;refine au 93714235 ?_;refine⟨fun k1=>?_,fun k1=>?_⟩
    ·refine au 35142 ?_;refine bB Wz [(0,_),(s,_),(e,_)] ?_;exact⟨by unfold zF;rw[if_neg (by rw[q1];decide),if_neg (by rw[q2];decide)],rfl⟩
    refine au 312304140120 ?_;refine TK.inLoop ?_;refine au 923742 ?_;refine⟨fun k0=>?_,fun k0=>?_⟩
    ·exact absurd k0 dQ
    refine au 3542160 ?_;refine bB Wz [(0,_),(s,_),(e,_)] ?_;exact⟨by unfold zF;rw[if_neg (by rw[q1];decide),if_neg (by rw[q2];decide)];rw[show lookedM b=0 by simpa using k1] <;> rfl,rfl⟩
   exact absurd k0 dQ
  exact absurd k0 dQ
 exact absurd k0 dQ
end Go.Vel
end
