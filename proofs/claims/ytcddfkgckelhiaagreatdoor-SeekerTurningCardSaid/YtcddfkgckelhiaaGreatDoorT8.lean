/- Texts for the statements of chapter 9: what all of them need, part 9. It holds of every program, tape and world that the statements name, as each theorem says. -/
import Derived.Test.YtcddfkgckelhiaaGreatDoorT3
import Derived.Test.YtcddfkgckelhiaaGreatDoorT5
import Derived.Test.YtcddfkgckelhiaaGreatDoorT6
import Derived.Test.YtcddfkgckelhiaaGreatDoorT7
section
set_option linter.all false
set_option maxRecDepth 20000
set_option maxHeartbeats 60000000
open Go.Proofs.Tryz renaming prog -> tp
open List renaming getElem?_eq_getElem -> lA, nil_append -> lC, getD_eq_getElem?_getD -> lE, getElem?_append_left -> lG, perm_append_comm -> lH, mem_cons -> lI, length_map -> lJ, eq_nil_of_length_eq_zero -> lK, mem_cons_of_mem -> lL, mem_of_getElem? -> lN, getElem?_append_right -> lO, getElem?_map -> lQ, append_nil -> lR, mem_append -> lT, getElem?_eq_none -> lU, take_length -> lW, mem_map -> lY, length_cons -> lZ
open List.Mem renaming head -> mC
open Nat renaming le_refl -> mL, zero_le -> mN, zero_add -> mO, eq_zero_or_pos -> mP, le_trans -> mT
open Bool renaming false_eq_true -> mU, not_eq_true' -> mV, and_eq_true -> mX
open Option renaming map_eq_some_iff -> mY
open Go.Vel.TK renaming maskL -> bA, rt -> bB, kp -> bC, cl -> bD, loopN -> bE, sp -> bF, a -> bH, newR -> bI, dq -> bL, perm -> bN
open Go.Vel.TD renaming cl -> bQ, s -> bR, norm -> bS, z -> bU, cnewR -> bV
namespace Go.Vel
open Go Go.Conc Go.Proofs
def GrSk (x:SkT):Prop:=x.name.size<=100/\x.marks.length<=20/\∀ m∈x.marks,m.what.size<=100
structure MkOk (x:SkT):Prop where
 nm:x.marks.length<=4
 mks:∀ m∈x.marks,isNameM m.what=true/\0<=m.col/\m.col<=x.wide - 1 /\ -9<=m.row/\m.row<=9
 two:x.marks.Pairwise fun m n=>m.what.toList≠n.what.toList
theorem zmg {st:Int} {l:List SkT} {i:Nat} (h:∀ x∈l.take i,SkOk st x) (hi:i<=4):1<=waysI (l.take i) 1/\waysI (l.take i) 1<=6561:=by
 have:=zeJ (l:=l.take i) h hi;rwa [List.take_take,Nat.min_self] at this
theorem zjT {W a c:Int} (hW:1<=W/\W<=6561) (ha:1<=a/\a<=3) (hc:1<=c/\c<=3):(-9223372036854775808<=W*a/\W*a<9223372036854775808)/\(-9223372036854775808<=W*a*c/\W*a*c<9223372036854775808):=by
 have a1:a=1\/a=2\/a=3:=by omega
 have a2:c=1\/c=2\/c=3:=by omega
 rcases a1 with rfl | rfl | rfl <;> rcases a2 with rfl | rfl | rfl <;> omega
instance:Cal tp 150:={}
instance:Cal tp 151:={}
instance:Cal tp 152:={}
instance:Cal tp 71:={}
instance:Cal tp 72:={}
theorem zhx {main T} (hT:zh tp main T) {gm} {p:Nat×SkT} :
  zg tp T gm 150 [.agg (skC p)] [(p.1,mkO p.2)] (fun r K'=>(∃ z,r=zm z/\(z=false->GrSk p.2))/\K'=[(p.1,mkO p.2)]):=by
 refine ze 29 hT Tryz.func150 fun Y hret=>?_;refine au 21042 ?_;intro jb hjb;refine au 1729069067042235 ?_;refine bF 8 (fun g1_5=>?_) (fun g1_5=>?_)
 ·refine au 354218032608888 ?_;refine bB hret [(p.1,_)] ?_;exact ⟨⟨true,rfl,fun h=>by cases h⟩,rfl⟩
 refine au 932507280690670 ?_;constructor<;>intro hc0
 ·skip;refine au 3542 ?_;refine bB hret [(p.1,_)] ?_;exact ⟨⟨true,rfl,fun h=>by cases h⟩,rfl⟩
 have h20:p.2.name.size<=100/\p.2.marks.length<=20:=by simp_all; omega
 refine au 13035422120 ?_;refine bA [1,3] ?_;refine bE (fun n env K=>∃ (i:Nat),n=p.2.marks.length - i/\i<=p.2.marks.length/\(∀ x∈p.2.marks.take i,x.what.size<=100)/\env=zJ 29 [(1,.ptr jb 0),(3,intA i)]/\K=[(jb,.cells (skC p) 160 true),(p.1,mkO p.2)]) p.2.marks.length ⟨0,rfl,mN _,fun x hx=>by simp at hx,rfl,rfl⟩ fun n env K hI hnext=>?_;obtain ⟨i,rfl,hi,hall,rfl,rfl⟩:=hI;refine au 9372806906701422 ?_;constructor<;>intro hc1
 ·have hil:i<p.2.marks.length:=by simp at hc1; omega
  obtain ⟨m,hm⟩:∃ m,p.2.marks[i]? =some m:=⟨_,lA hil⟩;refine au 6703601690670421302120 ?_;refine bH Z (zp Z Z zd.h mQ (ky (c:=0) (mk_at hm Z) dQ Z)) ?_;refine au 937290 ?_;constructor<;>intro hc2
  ·refine au 3542 ?_;refine bB hret [(p.1,_)] ?_;exact ⟨⟨true,rfl,fun h=>by cases h⟩,rfl⟩
  refine au 3523014140120 ?_;refine bA [1,3] ?_;refine bC [(jb,_),(p.1,_)] ?_;exact hnext _ _ _ oQ ⟨i+1,rfl,oQ,fun x hx=>by
   rw [List.take_add_one,hm] at hx;rcases lT.1 hx with hx | hx
   ·exact hall x hx
   ·simp at hx; subst hx; simp at hc2; omega,rfl,rfl⟩
 obtain rfl:i=p.2.marks.length:=by simp at hc1; omega
 refine au 3542160 ?_;refine bB hret [(p.1,_)] ?_;exact ⟨⟨false,rfl,fun _=>⟨h20.1,h20.2,fun x hx=>hall x (by rw [lW]; exact hx)⟩⟩,rfl⟩
theorem zhy {main T} (hT:zh tp main T) {gm} {st wr:Int} {g:Nat} {Zq:List (Nat×SkT)} :
  zg tp T gm 71 [.agg (stpC st wr g Zq)] ((g,skO Zq)::mkK Zq) (fun r K'=>(∃ z,r=zm z/\(z=false->Zq.length<=20/\∀ p∈Zq,GrSk p.2))/\K'=(g,skO Zq)::mkK Zq):=by
 refine ze 21 hT Tryz.func71 fun Y hret=>?_;refine au 21042 ?_;intro jb hjb;refine au 93728069067042235 ?_;constructor<;>intro hc0
 ·refine au 3542 ?_;refine bB hret (((g,_)::mkK Zq)) ?_;exact ⟨⟨true,rfl,fun h=>by cases h⟩,rfl⟩
 have h20:Zq.length<=20:=by simp at hc0; omega
 refine au 13035422120 ?_;refine bA [1,3] ?_;refine bE (fun n env K=>∃ (i:Nat),n=Zq.length - i/\i<=Zq.length/\(∀ x∈Zq.take i,GrSk x.2)/\env=zJ 21 [(1,.ptr jb 0),(3,intA i)]/\K=(jb,.cells (stpC st wr g Zq) 57 true)::(g,skO Zq)::mkK Zq) Zq.length ⟨0,rfl,mN _,fun x hx=>by simp at hx,rfl,rfl⟩ fun n env K hI hnext=>?_;obtain ⟨i,rfl,hi,hall,rfl,rfl⟩:=hI;refine au 9372806906701422 ?_;constructor<;>intro hc1
 ·have hil:i<Zq.length:=by simp at hc1; omega
  obtain ⟨p,hp⟩:∃ p,Zq[i]? =some p:=⟨_,lA hil⟩;obtain ⟨Rq,hRq⟩:=kf (zaW hp);refine au 3601690670421302120 ?_;refine bH Z (zK Z Z zd.h mQ (sk_at hp Z)) ?_;refine bD Z Z Z Z ((zhx hT (p:=p)).frameP hRq.perm) ?_ (hs:=(.right (.right (.all _))));rintro r1 K2 ⟨⟨z,rfl,hz⟩,rfl⟩;refine au 0 ?_;refine bN (K':=(jb,_)::(g,_)::mkK Zq) (lH (l₁:=mkK Zq) (l₂:=[(jb,_),(g,_)])) ?_;refine au 93 ?_;constructor<;>intro hc2
  ·refine au 3542 ?_;refine bB hret (((g,_)::mkK Zq)) ?_;exact ⟨⟨true,rfl,fun h=>by cases h⟩,rfl⟩
  refine au 3523014140120 ?_;refine bA [1,3] ?_;refine bC (((jb,_)::(g,_)::mkK Zq)) ?_;exact hnext _ _ _ oQ ⟨i+1,rfl,oQ,fun x hx=>by
   rw [List.take_add_one,hp] at hx;rcases lT.1 hx with hx | hx
   ·exact hall x hx
   ·simp at hx; subst hx; exact hz hc2,rfl,rfl⟩
 obtain rfl:i=Zq.length:=by simp at hc1; omega
 refine au 3542160 ?_;refine bB hret (((g,_)::mkK Zq)) ?_;exact ⟨⟨false,rfl,fun _=>⟨h20,fun x hx=>hall x (by rw [lW]; exact hx)⟩⟩,rfl⟩
theorem zhm {main T} (hT:zh tp main T) {gm} {p:Nat×SkT} (hg:GrSk p.2) (hw:1<=p.2.wide/\p.2.wide<=24) :
  zg tp T gm 152 [.agg (skC p)] [(p.1,mkO p.2)] (fun r K'=>(∃ c,r=intA c/\(c=0->MkOk p.2))/\K'=[(p.1,mkO p.2)]):=by
 refine ze 53 hT Tryz.func152 fun Y hret=>?_;refine au 21042 ?_;intro jb hjb;refine au 93728069067042235 ?_;constructor<;>intro hc0
 ·refine au 3542 ?_;refine bB hret [(p.1,_)] ?_;exact ⟨⟨2,rfl,fun h=>by cases h⟩,rfl⟩
 have h0:p.2.marks.length<=4:=by simp at hc0; omega
 refine au 13035422120 ?_;refine bA [1,3] ?_;refine bE (fun n env K=>∃ (i:Nat),n=p.2.marks.length - i/\i<=p.2.marks.length/\(∀ m∈p.2.marks.take i,isNameM m.what=true/\0<=m.col/\m.col<=p.2.wide - 1 /\ -9<=m.row/\m.row<=9)/\(p.2.marks.take i).Pairwise (fun m n=>m.what.toList≠n.what.toList)/\env=zJ 53 [(1,.ptr jb 0),(3,intA i)]/\K=[(jb,.cells (skC p) 160 true),(p.1,mkO p.2)]) p.2.marks.length ⟨0,rfl,mN _,fun x hx=>by simp at hx,by simp,rfl,rfl⟩ fun n env K hI hnext=>?_;obtain ⟨i,rfl,hi,hmk,hpw,rfl,rfl⟩:=hI;refine au 9372806906701422 ?_;constructor<;>intro hc1
 ·have hil:i<p.2.marks.length:=by simp at hc1; omega
  obtain ⟨m,hm⟩:∃ m,p.2.marks[i]? =some m:=⟨_,lA hil⟩;have hms:=hg.2.2 m (lN hm);refine au 3601690670421302120 ?_;refine bH Z (zK Z Z zd.h mQ (mk_at hm Z)) ?_;refine au 220 ?_;intro jx hjx;refine au 6906704223170 ?_;refine bD Z Z Z Z (u9 hT oQ) ?_;rintro r1 K2 ⟨rfl,rfl⟩;refine au 93300 ?_;constructor<;>intro hc2
  ·refine au 3542 ?_;refine bB hret [(p.1,_)] ?_;exact ⟨⟨4,rfl,fun h=>by cases h⟩,rfl⟩
  refine au 13035422120 ?_;refine bA [1,3,4,5] ?_;refine bE (fun n env K=>∃ (q:Nat),n=i - q/\q<=i/\(∀ y∈p.2.marks.take q,y.what.toList≠m.what.toList)/\env=zJ 53 [(1,.ptr jb 0),(3,intA i),(4,.ptr jx 0),(5,intA q)]/\K=[(jx,.cells (mkC m) 328 true),(jb,.cells (skC p) 160 true),(p.1,mkO p.2)]) i ⟨0,rfl,mN _,fun x hx=>by simp at hx,rfl,rfl⟩ fun n env K hI hnext2=>?_;obtain ⟨q,rfl,hq,hne,rfl,rfl⟩:=hI;refine au 93711422 ?_;constructor<;>intro hc3
  ·have hqi:q<i:=by simp at hc3; omega
   obtain ⟨m2,hm2⟩:∃ m2,p.2.marks[q]? =some m2:=⟨_,lA oQ⟩;refine au 21302120 ?_;refine bL [0,1,2,3,4,5,6,7,8] ?_;refine ad [[3,1],[10,31],[1,5],[2,32,33],[3,34]] ?_;refine TD.y [35] Z (hq:=zp Z Z zd.h (mC _) (ky (c:=0) (mk_at hm2 Z) dQ Z)) (h:=?_);refine ad [[3,4],[10,37]] ?_;refine bU [36,38] Z (zcS Z Z Z Z) ?_;refine ad [[14]] ?_;refine au 9 ?_;constructor<;>intro hc4
   ·refine au 3542 ?_;refine bB hret [(p.1,_)] ?_;exact ⟨⟨5,rfl,fun h=>by cases h⟩,rfl⟩
   refine au 3523014140120 ?_;refine bA [1,3,4,5] ?_;refine bC [(jx,_),(jb,_),(p.1,_)] ?_;exact hnext2 _ _ _ oQ ⟨q+1,rfl,oQ,fun y hy=>by
    rw [List.take_add_one,hm2] at hy;rcases lT.1 hy with hy | hy
    ·exact hne y hy
    ·simp at hy; subst hy; simpa using hc4,rfl,rfl⟩
  obtain rfl:i=q:=by simp at hc3; omega
  refine au 24069067069067042160 ?_;refine bD Z Z Z Z (yF hT) ?_;rintro r4 K5 ⟨rfl,rfl⟩;refine au 1300 ?_;refine bF 47 (fun g14_8=>?_) (fun g14_8=>?_)
  ·refine au 354218032608888 ?_;refine bB hret [(p.1,_)] ?_;exact ⟨⟨1,rfl,fun h=>by cases h⟩,rfl⟩
  refine au 690670 ?_;refine bD Z Z Z Z (yF hT) ?_;rintro r7 K8 ⟨rfl,rfl⟩;refine au 93250300 ?_;constructor<;>intro hc5
  ·refine au 3542 ?_;refine bB hret [(p.1,_)] ?_;exact ⟨⟨1,rfl,fun h=>by cases h⟩,rfl⟩
  refine au 3523014140120 ?_;refine bA [1,3] ?_;refine bC [(jb,_),(p.1,_)] ?_;have hmx:isNameM m.what=true/\0<=m.col/\m.col<=p.2.wide - 1 /\ -9<=m.row/\m.row<=9:=⟨by simpa using hc2,by simp at g14_8 hc5; omega⟩;exact hnext _ _ _ oQ ⟨i+1,rfl,oQ,fun x hx=>by
   rw [List.take_add_one,hm] at hx;rcases lT.1 hx with hx | hx
   ·exact hmk x hx
   ·simp at hx; subst hx; exact hmx,by
   rw [List.take_add_one,hm];refine List.pairwise_append.2 ⟨hpw,by simp,fun x hx y hy=>?_⟩;simp at hy;subst hy;exact hne x hx,rfl,rfl⟩
 obtain rfl:i=p.2.marks.length:=by simp at hc1; omega
 refine au 3542160 ?_;refine bB hret [(p.1,_)] ?_;rw [lW] at hmk hpw;exact ⟨⟨0,rfl,fun _=>⟨h0,hmk,hpw⟩⟩,rfl⟩
theorem zau {main T} (hT:zh tp main T) {gm} {a z:Int} (h : -1000<=a/\a<=1000 /\ -1000<=z/\z<=1000) :
  zg tp T gm 151 [.agg [intA a,intA z]] [] (fun r K'=>r=intA (z - a+1)/\K'=[]):=by
 refine ze 9 hT Tryz.func151 fun Y hret=>?_;refine au 21042 ?_;intro jb hjb;refine au 352302406906706906704235 ?_;refine bB hret [] ?_;exact ⟨rfl,rfl⟩
theorem zhn {main T} (hT:zh tp main T) {gm} {st wr:Int} {g:Nat} {Zq:List (Nat×SkT)} (hl:Zq.length<=20) (hgr:∀ p∈Zq,GrSk p.2) :
  zg tp T gm 72 [.agg (stpC st wr g Zq)] ((g,skO Zq)::mkK Zq) (fun r K'=>(∃ c,r=intA c/\(c=0->StpOk (skB st wr Zq)))/\K'=(g,skO Zq)::mkK Zq):=by
 refine ze 102 hT Tryz.func72 fun Y hret=>?_;refine au 21042 ?_;intro jb hjb;refine au 69067042235 ?_;refine bD Z Z Z Z (yF hT) ?_;rintro r1 K2 ⟨rfl,rfl⟩;refine au 1300 ?_;refine bF 12 (fun g1_5=>?_) (fun g1_5=>?_)
 ·refine au 354218032608888 ?_;refine bB hret (((g,_)::mkK Zq)) ?_;exact ⟨⟨1,rfl,fun h=>by cases h⟩,rfl⟩
 refine au 690670 ?_;refine bD Z Z Z Z (yF hT) ?_;rintro r4 K5 ⟨rfl,rfl⟩;refine au 93250300 ?_;constructor<;>intro hc0
 ·refine au 3542 ?_;refine bB hret (((g,_)::mkK Zq)) ?_;exact ⟨⟨1,rfl,fun h=>by cases h⟩,rfl⟩
 have h0:(4<=st/\st<=24)/\(0<=wr/\wr<=2):=by simp at g1_5 hc0; omega
 refine au 280690670422120 ?_;refine bD Z Z Z Z (yF hT) ?_;rintro r7 K8 ⟨rfl,rfl⟩;refine au 93300 ?_;constructor<;>intro hc1
 ·refine au 3542 ?_;refine bB hret (((g,_)::mkK Zq)) ?_;exact ⟨⟨2,rfl,fun h=>by cases h⟩,rfl⟩
 have h1:1<=Zq.length/\Zq.length<=4:=by simp at hc1; omega
 refine au 130354223542120 ?_;refine bA [1,3,4] ?_;refine bE (fun n env K=>∃ (i:Nat),n=Zq.length - i/\i<=Zq.length/\(∀ x∈Zq.take i,SkOk st x.2)/\(Zq.take i).Pairwise (fun x y=>x.2.name.toList≠y.2.name.toList)/\env=zJ 102 [(1,.ptr jb 0),(3,intA (waysI ((Zq.map (·.2)).take i) 1)),(4,intA i)]/\K=(jb,.cells (stpC st wr g Zq) 57 true)::(g,skO Zq)::mkK Zq) Zq.length ⟨0,rfl,mN _,fun x hx=>by simp at hx,by simp,rfl,rfl⟩ fun n env K hI hnext=>?_;obtain ⟨i,rfl,hi,hsk,hpw,rfl,rfl⟩:=hI;refine au 9372806906701422 ?_;constructor<;>intro hc2
 ·have hil:i<Zq.length:=by simp at hc2; omega
  obtain ⟨p,hp⟩:∃ p,Zq[i]? =some p:=⟨_,lA hil⟩;have hp2:(Zq.map (·.2))[i]? =some p.2:=by rw [lQ,hp]; rfl
  obtain ⟨Rq,hRq⟩:=kf (zaW hp);have hgk:=hgr p (lN hp);have hgs:=hgk.1;refine au 3601690670421302120 ?_;refine bH Z (zK Z Z zd.h mQ (sk_at hp Z)) ?_;refine au 220 ?_;intro jx hjx;refine au 6906704223170 ?_;refine bD Z Z Z Z (u9 hT oQ) ?_;rintro r10 K11 ⟨rfl,rfl⟩;refine au 93300 ?_;constructor<;>intro hc3
  ·refine au 3542 ?_;refine bB hret (((g,_)::mkK Zq)) ?_;exact ⟨⟨4,rfl,fun h=>by cases h⟩,rfl⟩
  refine au 13035422120 ?_;refine bA [1,3,4,5,6] ?_;refine bE (fun n env K=>∃ (q:Nat),n=i - q/\q<=i/\(∀ y∈Zq.take q,y.2.name.toList≠p.2.name.toList)/\env=zJ 102 [(1,.ptr jb 0),(3,intA (waysI ((Zq.map (·.2)).take i) 1)),(4,intA i),(5,.ptr jx 0),(6,intA q)]/\K=(jx,.cells (skC p) 160 true)::(jb,.cells (stpC st wr g Zq) 57 true)::(g,skO Zq)::mkK Zq) i ⟨0,rfl,mN _,fun x hx=>by simp at hx,rfl,rfl⟩ fun n env K hI hnext2=>?_;obtain ⟨q,rfl,hq,hne,rfl,rfl⟩:=hI;refine au 93711422 ?_;constructor<;>intro hc4
  ·have hqi:q<i:=by simp at hc4; omega
   obtain ⟨pq,hpq⟩:∃ pq,Zq[q]? =some pq:=⟨_,lA oQ⟩;refine au 21302120 ?_;refine bL [0,1,2,3,4,5,6,7,8] ?_;refine ad [[3,1],[10,44],[1,6],[2,45,46],[3,47]] ?_;refine TD.y [48] Z (hq:=zp Z Z zd.h (mC _) (ky (c:=0) (sk_at hpq Z) dQ Z)) (h:=?_);refine ad [[3,5],[10,50]] ?_;refine bU [49,51] Z (zcS Z Z Z Z) ?_;refine ad [[14]] ?_;refine au 9 ?_;constructor<;>intro hc5
   ·refine au 3542 ?_;refine bB hret (((g,_)::mkK Zq)) ?_;exact ⟨⟨5,rfl,fun h=>by cases h⟩,rfl⟩
   refine au 3523014140120 ?_;refine bA [1,3,4,5,6] ?_;refine bC (((jx,_)::(jb,_)::(g,_)::mkK Zq)) ?_;exact hnext2 _ _ _ oQ ⟨q+1,rfl,oQ,fun y hy=>by
    rw [List.take_add_one,hpq] at hy;rcases lT.1 hy with hy | hy
    ·exact hne y hy
    ·simp at hy; subst hy; simpa using hc5,rfl,rfl⟩
  obtain rfl:i=q:=by simp at hc4; omega
  refine au 240690670680670422160 ?_;refine bD Z Z Z Z (zaP hT) ?_;rintro r13 K14 ⟨rfl,rfl⟩;refine au 1300 ?_;refine bF 60 (fun g17_8=>?_) (fun g17_8=>?_)
  ·refine au 35421803260888812608888126088888812608888 ?_;refine bB hret (((g,_)::mkK Zq)) ?_;exact ⟨⟨1,rfl,fun h=>by cases h⟩,rfl⟩
  have hif:0<=p.2.flo/\p.2.flo<=p.2.fhi/\p.2.fhi<=st - 1:=by simp [insideM] at g17_8; omega
  refine au 680670 ?_;refine bD Z Z Z Z (zau hT oQ) ?_;rintro r16 K17 ⟨rfl,rfl⟩;refine au 12507 ?_;refine bF 66 (fun g17_14=>?_) (fun g17_14=>?_)
  ·refine au 354218032608888126088881260888888 ?_;refine bB hret (((g,_)::mkK Zq)) ?_;exact ⟨⟨1,rfl,fun h=>by cases h⟩,rfl⟩
  refine au 690670690670 ?_;refine bD Z Z Z Z (yF hT) ?_;rintro r19 K20 ⟨rfl,rfl⟩;refine au 1250300 ?_;refine bF 74 (fun g17_22=>?_) (fun g17_22=>?_)
  ·refine au 35421803260888812608888 ?_;refine bB hret (((g,_)::mkK Zq)) ?_;exact ⟨⟨1,rfl,fun h=>by cases h⟩,rfl⟩
  refine au 680670 ?_;refine bD Z Z Z Z (zaP hT) ?_;rintro r22 K23 ⟨rfl,rfl⟩;refine au 1250300 ?_;refine bF 80 (fun g17_28=>?_) (fun g17_28=>?_)
  ·refine au 354218032608888 ?_;refine bB hret (((g,_)::mkK Zq)) ?_;exact ⟨⟨1,rfl,fun h=>by cases h⟩,rfl⟩
  have his : -3<=p.2.slo/\p.2.slo<=p.2.shi/\p.2.shi<=3:=by simp [insideM] at g17_28; omega
  refine au 680670 ?_;refine bD Z Z Z Z (zau hT oQ) ?_;rintro r25 K26 ⟨rfl,rfl⟩;refine au 932507 ?_;constructor<;>intro hc6
  ·refine au 3542 ?_;refine bB hret (((g,_)::mkK Zq)) ?_;exact ⟨⟨1,rfl,fun h=>by cases h⟩,rfl⟩
  refine au 680422120 ?_;refine bD Z Z Z Z ((zhm hT (p:=p) hgk (by simp at g17_22; omega)).frameP hRq.perm) ?_ (hs:=(.right (.right (.right (.all _)))));rintro r28 K29 ⟨⟨zc,rfl,hz⟩,rfl⟩;refine au 0 ?_;refine bN (K':=(jx,_)::(jb,_)::(g,_)::mkK Zq) (lH (l₁:=mkK Zq) (l₂:=[(jx,_),(jb,_),(g,_)])) ?_;refine au 93714235 ?_;constructor<;>intro hc7
  ·refine au 35142 ?_;refine bB hret (((g,_)::mkK Zq)) ?_;exact ⟨⟨_,rfl,fun h=>absurd h (by simpa using hc7)⟩,rfl⟩
  have hmk:=hz (by simpa using hc7);have hx2:SkOk st p.2:=⟨by simpa using hc3,by simp at g17_14; omega,by simp at g17_22; omega,by simp at hc6; omega,hmk.nm,hmk.mks,hmk.two⟩;have hws:=zmg (l:=Zq.map (·.2)) (i:=i) (fun x hx=>by
   rw [<- List.map_take] at hx;obtain ⟨p3,hp3,rfl⟩:=lY.1 hx;exact hsk p3 hp3) oQ
  have hf3:1<=p.2.fhi - p.2.flo+1/\p.2.fhi - p.2.flo+1<=3:=by have:=hx2.fr; omega
  have hs3:1<=p.2.shi - p.2.slo+1/\p.2.shi - p.2.slo+1<=3:=by have:=hx2.se; omega
  have hst:=zjT hws hf3 hs3;refine au 120 ?_;refine TK.dr [0,1,2,5,6,3,4,7,8,9] [0,1,2,3,4,5,6,7,8,9] ?_;refine ad [[1,3],[3,5],[12,92],[3,5],[12,96]] ?_;refine bQ (pend':=[⟨6,[96],[(_,_)]⟩,⟨5,[5],[]⟩,⟨1,[5],[]⟩,⟨0,[3],[]⟩]) [93] Z Z Z Z Z (zau hT oQ) (fun r31 K32 h33=>⟨?_,?_⟩)
  ·rcases h33 with ⟨rfl,rfl⟩
   all_goals simp
  obtain ⟨rfl,rfl⟩:=h33;try simp only [cA]
  refine bS tQ ?_;refine bU [91,94] Z (q_mul Z Z Z (by exact hst.1)) ?_;refine bQ (pend':=[⟨4,[91,94],[]⟩,⟨5,[5],[]⟩,⟨1,[5],[]⟩,⟨0,[3],[]⟩]) [97] Z Z Z Z Z (zau hT oQ) (fun r34 K35 h36=>⟨?_,?_⟩)
  ·rcases h36 with ⟨rfl,rfl⟩
   all_goals simp
  obtain ⟨rfl,rfl⟩:=h36;try simp only [cA]
  refine bS tQ ?_;refine bU [95,98] Z (q_mul Z Z Z (by exact hst.2)) ?_;refine ad [[13,99],[14]] ?_;refine au 3523014140 ?_;refine bA [1,3,4] ?_;refine bC (((jb,_)::(g,_)::mkK Zq)) ?_;exact hnext _ _ _ oQ ⟨i+1,rfl,oQ,fun x hx=>by
   rw [List.take_add_one,hp] at hx;rcases lT.1 hx with hx | hx
   ·exact hsk x hx
   ·simp at hx; subst hx; exact hx2,by
   rw [List.take_add_one,hp];refine List.pairwise_append.2 ⟨hpw,by simp,fun x hx y hy=>?_⟩;simp at hy;subst hy;exact hne x hx,by rw [zjR hp2,show waysX p.2=(p.2.fhi - p.2.flo+1)*(p.2.shi - p.2.slo+1) from rfl,<- Int.mul_assoc] <;> rfl,rfl⟩
 obtain rfl:i=Zq.length:=by simp at hc2; omega
 refine au 9371422160 ?_;constructor<;>intro hc8
 ·refine au 3542 ?_;refine bB hret (((g,_)::mkK Zq)) ?_;exact ⟨⟨2,rfl,fun h=>by cases h⟩,rfl⟩
 refine au 3542120 ?_;refine bB hret (((g,_)::mkK Zq)) ?_;rw [List.take_of_length_le (by rw [z_len]; exact mL _)] at hc8;rw [lW] at hsk hpw;exact ⟨⟨0,rfl,fun _=>⟨h0.1,h0.2,by rw [show (skB st wr Zq).sks.length=Zq.length from z_len Zq]; exact h1,fun x hx=>by
  obtain ⟨p,hp,rfl⟩:=lY.1 (show x∈Zq.map (·.2) from hx);exact hsk p hp,(List.pairwise_map.2 hpw:(Zq.map (·.2)).Pairwise _),by show waysI (Zq.map (·.2)) 1<=200; simp at hc8; omega⟩⟩,rfl⟩
theorem zkf {main T} (hT:zh tp main T) {gm} {st wr:Int} {g:Nat} {Zq:List (Nat×SkT)} :
  zg tp T gm 18 [.agg (stpC st wr g Zq)] ((g,skO Zq)::mkK Zq) (fun r K'=>(∃ z,r=zm z/\(z=true->StpOk (skB st wr Zq)))/\K'=(g,skO Zq)::mkK Zq):=by
 refine ze 11 hT Tryz.func18 fun Y hret=>?_;refine au 21042 ?_;intro jb hjb;refine au 6804235 ?_;refine bD Z Z Z Z (zhy hT (st:=st) (wr:=wr) (g:=g) (Zq:=Zq)) ?_ (hs:=(.right (.all _)));rintro r1 K2 ⟨⟨z,rfl,hz⟩,rfl⟩;refine au 0 ?_;refine bN (K':=(jb,_)::(g,_)::mkK Zq) (lH (l₁:=(g,_)::mkK Zq) (l₂:=[(jb,_)])) ?_;refine au 1300 ?_;refine bF 6 (fun g1_4=>?_) (fun g1_4=>?_)
 ·obtain ⟨hl1,hl2⟩:=hz (by simpa using g1_4);refine au 680 ?_;refine bD Z Z Z Z (zhn hT (st:=st) (wr:=wr) (g:=g) hl1 hl2) ?_ (hs:=(.right (.all _)));rintro r4 K5 ⟨⟨c,rfl,hck⟩,rfl⟩;refine au 0 ?_;refine bN (K':=(jb,_)::(g,_)::mkK Zq) (lH (l₁:=(g,_)::mkK Zq) (l₂:=[(jb,_)])) ?_;refine au 352607 ?_;refine bB hret (((g,_)::mkK Zq)) ?_;exact ⟨⟨_,rfl,fun h=>hck (by simpa using h)⟩,rfl⟩
 refine au 35250888 ?_;refine bB hret (((g,_)::mkK Zq)) ?_;exact ⟨⟨_,rfl,fun h=>by cases h⟩,rfl⟩
theorem wO {b:Bk} (hb:BkOk b) (S:List Int):S∈zb b↔S∈setsB b/\canM b S=true:=by
 rw [(uA hb).mem_iff]; exact List.mem_filter
theorem za8 (b:Bk):(zb b).Nodup:=List.Pairwise.filter _ (zcs b)
theorem zh6 {b:Bk} {S:List Int} (h:S∈zb b):S.Pairwise (· < ·):=zdI (List.mem_filter.1 h).1
theorem zgG {b:Bk} {S:List Int} (h:S∈zb b):S.Nodup:=(zh6 h).imp fun h e=>by omega
theorem zez {b:Bk} (hb:BkOk b) {S:List Int} (h:S∈zb b):S.length<=3:=(uF hb S (List.mem_filter.1 h).1).len
theorem za2 {b:Bk} (hb:BkOk b) (hh:0<=b.high) (S:List Int):S∈setsB b↔S.Pairwise (· < ·)/\(∀ x∈S,0<=x/\x<b.steps)/\(S.length:Int)<=b.high:=by
 have hst:=hb.steps;constructor
 ·intro h;exact ⟨uq _ S h,fun x hx=>by have:=wI _ S h x hx; omega,zbI hh _ S h⟩
 ·rintro ⟨h1,h2,h3⟩;exact ub _ S h1 (fun x hx=>by have:=h2 x hx; omega) h3
theorem zfc {α:Type} (p:α->Bool):∀ A:List α,(A.filter p).length+(A.filter fun x => !p x).length=A.length
 | []=>rfl
 | x::A=>by
  have ih:=zfc p A;rw [List.filter_cons,List.filter_cons,lZ];cases p x
  ·simp only [mU,if_false,Bool.not_false,if_true,lZ]; omega
  ·simp only [Bool.not_true,mU,if_false,if_true,lZ]; omega
theorem zlO {b:Bk} (n:Int):oftM (zb b) n=(((zb b).filter fun S=>decide (n∈S)).length:Nat):=(zgV (fun _ h=>zgG h) n).symm
theorem zdg {α:Type} {p:α->Bool} {A:List α}:(A.filter p).length=A.length↔∀ S∈A,p S=true:=by
 rw [List.length_filter_eq_length_iff]
theorem zcD {α:Type} {p:α->Bool} {A:List α}:(A.filter p).length=0↔∀ S∈A,p S=false:=by
 rw [List.length_eq_zero_iff,List.filter_eq_nil_iff];exact ⟨fun h S hS=>by simpa using h S hS,fun h S hS=>by simpa using h S hS⟩
theorem zha {α:Type} {p:α->Bool} {A:List α} (hne:A≠[]):(wordM A.length ((A.filter p).length:Nat)=1↔∀ S∈A,p S=true)/\(wordM A.length ((A.filter p).length:Nat)=2↔∀ S∈A,p S=false)/\(wordM A.length ((A.filter p).length:Nat)=0↔(∃ S∈A,p S=true)/\∃ S∈A,p S=false):=by
 have h1:=zdg (p:=p) (A:=A);have h2:=zcD (p:=p) (A:=A);have h0:A.length≠0:=fun h=>hne (List.length_eq_zero_iff.1 h);have e1:(∃ S∈A,p S=true)↔¬ (A.filter p).length=0:=by
  rw [h2];constructor
  ·rintro ⟨S,hS,hp⟩ h; rw [h S hS] at hp; cases hp
  ·intro h;refine Classical.byContradiction fun hc=>h fun S hS=>?_;rw [Bool.eq_false_iff];exact fun hp=>hc ⟨S,hS,hp⟩
 have e2:(∃ S∈A,p S=false)↔¬ (A.filter p).length=A.length:=by
  rw [h1];constructor
  ·rintro ⟨S,hS,hp⟩ h; rw [h S hS] at hp; cases hp
  ·intro h;refine Classical.byContradiction fun hc=>h fun S hS=>?_;cases hp:p S with
   | true=>rfl
   | false=>exact absurd ⟨S,hS,hp⟩ hc
 rw [e1,e2,<- h1,<- h2];unfold wordM;simp only [beq_iff_eq];generalize (A.filter p).length=m at *
 generalize A.length=n at *
 refine ⟨⟨fun h=>?_,fun h=>?_⟩,⟨fun h=>?_,fun h=>?_⟩,⟨fun h=>?_,fun h=>?_⟩⟩ <;> (repeat' split at *) <;> omega
theorem zg9 {b:Bk} (hne:zb b≠[]) (n:Int):(wordM (zb b).length (oftM (zb b) n)=1↔∀ S∈zb b,n∈S)/\(wordM (zb b).length (oftM (zb b) n)=2↔∀ S∈zb b,n∉S)/\(wordM (zb b).length (oftM (zb b) n)=0↔(∃ S∈zb b,n∈S)/\∃ S∈zb b,n∉S):=by
 have:=zha (p:=fun S=>decide (n∈S)) hne;rw [zlO];simpa only [decide_eq_true_eq,decide_eq_false_iff_not] using this
theorem zc9 {c:Bk} {A:List (List Int)} (hne:A≠[]) (k:Nat):(wordM A.length (A.length - rightsM c A k)=1↔∀ S∈A,rightM c S k=false)/\(wordM A.length (A.length - rightsM c A k)=2↔∀ S∈A,rightM c S k=true)/\(wordM A.length (A.length - rightsM c A k)=0↔(∃ S∈A,rightM c S k=false)/\∃ S∈A,rightM c S k=true):=by
 have h:=zha (p:=fun S => !rightM c S k) hne;have e:(A.length:Int) - rightsM c A k=((A.filter fun S => !rightM c S k).length:Nat):=by
  unfold rightsM;have:=zfc (fun S=>rightM c S k) A;omega
 rw [e];simpa only [mV,Bool.not_eq_false'] using h
theorem uP {b:Bk} (hb:BkOk b) (n:Int):n∈countsM b↔∃ S∈zb b,(S.length:Int)=n:=by
 rw [<- zdT hb];unfold sortS;rw [(za6 _ [] .nil).2 n];simp only [List.not_mem_nil,false_or,lY,(uA hb).mem_iff]
theorem zhq {b:Bk} (hb:BkOk b):(countsM b).Pairwise (· < ·):=by
 rw [<- zdT hb]; exact (za6 _ [] .nil).1
theorem zdM (b:Bk) (lo w:Int):∀ (A:List (List Int)) (z:Int×Int),(A.foldl (bandM b lo w) z).1<=z.1/\z.2<=(A.foldl (bandM b lo w) z).2/\(∀ S∈A,(A.foldl (bandM b lo w) z).1<=inM b S lo w/\inM b S lo w<=(A.foldl (bandM b lo w) z).2)/\((A.foldl (bandM b lo w) z).1=z.1\/∃ S∈A,(A.foldl (bandM b lo w) z).1=inM b S lo w)/\((A.foldl (bandM b lo w) z).2=z.2\/∃ S∈A,(A.foldl (bandM b lo w) z).2=inM b S lo w)
 | [],z=>⟨Int.le_refl _,Int.le_refl _,(fun S h=>by cases h),.inl rfl,.inl rfl⟩
 | S::A,z=>by
  obtain ⟨h1,h2,h3,h4,h5⟩:=zdM b lo w A (bandM b lo w z S);rw [List.foldl_cons];generalize A.foldl (bandM b lo w) (bandM b lo w z S)=r at *
  have e1:(bandM b lo w z S).1=if inM b S lo w<z.1 then inM b S lo w else z.1:=rfl
  have e2:(bandM b lo w z S).2=if z.2<inM b S lo w then inM b S lo w else z.2:=rfl
  rw [e1] at h1 h4;rw [e2] at h2 h5;refine ⟨?_,?_,fun T hT=>?_,?_,?_⟩
  ·split at h1 <;> omega
  ·split at h2 <;> omega
  ·rcases lI.1 hT with rfl | hT
   ·constructor
    ·split at h1 <;> omega
    ·split at h2 <;> omega
   ·exact h3 T hT
  ·rcases h4 with h4 | ⟨T,hT,h4⟩
   ·split at h4
    ·exact .inr ⟨S,List.mem_cons_self,h4⟩
    ·exact .inl h4
   ·exact .inr ⟨T,lL _ hT,h4⟩
  ·rcases h5 with h5 | ⟨T,hT,h5⟩
   ·split at h5
    ·exact .inr ⟨S,List.mem_cons_self,h5⟩
    ·exact .inl h5
   ·exact .inr ⟨T,lL _ hT,h5⟩
theorem zmE {b:Bk} (hb:BkOk b) {S:List Int} (h:S∈zb b) (lo w:Int):0<=inM b S lo w/\inM b S lo w<=3:=by
 have h1:=ziK b S lo w;have h2:=zez hb h;omega
theorem zeK {b:Bk} (hb:BkOk b) (hne:zb b≠[]) (lo w:Int):(∀ S∈zb b,(withinM b (zb b) lo w).1<=inM b S lo w/\inM b S lo w<=(withinM b (zb b) lo w).2)/\(∃ S∈zb b,(withinM b (zb b) lo w).1=inM b S lo w)/\∃ S∈zb b,(withinM b (zb b) lo w).2=inM b S lo w:=by
 obtain ⟨_,_,h3,h4,h5⟩:=zdM b lo w (zb b) (3,0);obtain ⟨S,hS⟩:=List.exists_mem_of_ne_nil _ hne;have hi:=zmE hb hS lo w;have h6:=h3 S hS;unfold withinM;refine ⟨h3,?_,?_⟩
 ·rcases h4 with h4 | h4
  ·exact ⟨S,hS,by rw [h4] at h6 ⊢; show (3:Int)=_; have:=h6.1; simp only at this; omega⟩
  ·exact h4
 ·rcases h5 with h5 | h5
  ·exact ⟨S,hS,by rw [h5] at h6 ⊢; show (0:Int)=_; have:=h6.2; simp only at this; omega⟩
  ·exact h5
theorem zdK {b:Bk} {low k:Nat}:arcK b low=some k↔(withinM b (zb b) low ((k:Int)+1)).1>0/\k<b.steps.toNat/\∀ q<k,¬ (withinM b (zb b) low ((q:Int)+1)).1>0:=by
 unfold arcK;rw [List.find?_range_eq_some];simp only [List.mem_range,decide_eq_true_eq,mV,decide_eq_false_iff_not]
theorem zeY {b:Bk} {y:Int×Int}:y∈arcsOf b (List.range b.steps.toNat)↔∃ low k:Nat,low<b.steps.toNat/\arcK b low=some k/\y=((low:Int),(k:Int)+1):=by
 unfold arcsOf;rw [List.mem_filterMap];constructor
 ·rintro ⟨low,h1,h2⟩;unfold arcA at h2;cases h5:arcK b low with
  | none=>rw [h5] at h2; exact absurd h2 sQ
  | some m =>
   rw [h5] at h2;exact ⟨low,m,List.mem_range.1 h1,h5,(Option.some.inj h2).symm⟩
 ·rintro ⟨low,k,h1,h2,h3⟩;refine ⟨low,List.mem_range.2 h1,?_⟩;unfold arcA;rw [h2,h3]; rfl
theorem zcK {b:Bk} (hne:arcsOf b (List.range b.steps.toNat)≠[]):narrowM b∈arcsOf b (List.range b.steps.toNat)/\∀ y∈arcsOf b (List.range b.steps.toNat),ltArc y (narrowM b)=false:=by
 unfold narrowM;generalize arcsOf b (List.range b.steps.toNat)=l at hne;cases l with
 | nil=>exact absurd rfl hne
 | cons x xs=>exact ⟨ke,uU⟩
end Go.Vel
namespace Go.Vel
open Go Go.Conc Go.Proofs
theorem zad {α:Type}:∀ {l1 l2:List α},l1.Nodup->(∀ x∈l1,x∈l2)->l1.length<=l2.length
 | [],_,_,_=>mN _
 | x::l1,l2,hn,hs=>by
  obtain ⟨h1,h2⟩:=List.nodup_cons.1 hn;obtain ⟨a,c,rfl⟩:=List.append_of_mem (hs x sQ);have:=zad (l1:=l1) (l2:=a++c) h2 fun y hy=>by
   have hne:y≠x:=fun e=>h1 (e ▸ hy);have:=hs y (by simp [hy]);simpa [hne] using this
  simp at this ⊢; omega
theorem zcW {b:Bk} {x:Says} {S:List Int} {j:Nat} (h:j<b.seekers.length):rightM (zQ b x) S j=rightM b S j:=by
 unfold rightM zQ;simp only [lG h];rfl
structure Less (was now:Bk):Prop where
 okw:BkOk was
 okn:BkOk now
 steps:now.steps=was.steps
 sub:∀ S∈zb now,S∈zb was
 ne:zb now≠[]
namespace Less
variable {was now:Bk}
theorem wne (h:Less was now):zb was≠[]:=fun e=>by
 obtain ⟨S,hS⟩:=List.exists_mem_of_ne_nil _ h.ne;have:=h.sub S hS;rw [e] at this;cases this
theorem inM (h:Less was now) (S:List Int) (lo w:Int):inM now S lo w=inM was S lo w:=by unfold Vel.inM; rw [h.steps]
theorem many (h:Less was now):1<=((zb now).length:Int)/\((zb now).length:Int)<=(zb was).length:=by
 have h1:=zad (za8 now) h.sub;have h2:(zb now).length≠0:=fun e=>h.ne (List.length_eq_zero_iff.1 e);omega
theorem counts (h:Less was now) {n:Int} (hn:n∈countsM now):n∈countsM was:=by
 obtain ⟨S,h1,h2⟩:=(uP h.okn n).1 hn;exact (uP h.okw n).2 ⟨S,h.sub S h1,h2⟩
theorem at_ (h:Less was now) (n:Int) (hu:wordM (zb was).length (oftM (zb was) n)≠0):wordM (zb was).length (oftM (zb was) n)=wordM (zb now).length (oftM (zb now) n):=by
 obtain ⟨w1,w2,w3⟩:=zg9 h.wne n;obtain ⟨v1,v2,_⟩:=zg9 h.ne n;have hc:wordM (zb was).length (oftM (zb was) n)=1\/wordM (zb was).length (oftM (zb was) n)=2:=by
  unfold wordM at hu ⊢;split at hu
  ·exact .inl (by rw [if_pos (by assumption)])
  ·split at hu
   ·exact .inr (by rw [if_neg (by assumption),if_pos (by assumption)])
   ·exact absurd rfl hu
 rcases hc with hc | hc
 ·rw [hc,v1.2 fun S hS=>w1.1 hc S (h.sub S hS)]
 ·rw [hc,v2.2 fun S hS=>w2.1 hc S (h.sub S hS)]
theorem wrong (h:Less was now) (k:Nat) (hr:∀ S∈zb now,rightM now S k=rightM was S k) (hu:wordM (zb was).length ((zb was).length - rightsM was (zb was) k)≠0):wordM (zb was).length ((zb was).length - rightsM was (zb was) k)=wordM (zb now).length ((zb now).length - rightsM now (zb now) k):=by
 obtain ⟨w1,w2,_⟩:=zc9 (c:=was) h.wne k;obtain ⟨v1,v2,_⟩:=zc9 (c:=now) h.ne k;have hc:wordM (zb was).length ((zb was).length - rightsM was (zb was) k)=1\/wordM (zb was).length ((zb was).length - rightsM was (zb was) k)=2:=by
  unfold wordM at hu ⊢;split at hu
  ·exact .inl (by rw [if_pos (by assumption)])
  ·split at hu
   ·exact .inr (by rw [if_neg (by assumption),if_pos (by assumption)])
   ·exact absurd rfl hu
 rcases hc with hc | hc
 ·rw [hc,v1.2 fun S hS=>by rw [hr S hS]; exact w1.1 hc S (h.sub S hS)]
 ·rw [hc,v2.2 fun S hS=>by rw [hr S hS]; exact w2.1 hc S (h.sub S hS)]
theorem within (h:Less was now) (lo w:Int):(withinM was (zb was) lo w).1<=(withinM now (zb now) lo w).1/\(withinM now (zb now) lo w).1<=(withinM now (zb now) lo w).2/\(withinM now (zb now) lo w).2<=(withinM was (zb was) lo w).2:=by
 obtain ⟨a1,_,_⟩:=zeK h.okw h.wne lo w;obtain ⟨b1,⟨S,hS,b2⟩,⟨T,hT,b3⟩⟩:=zeK h.okn h.ne lo w;have c1:=a1 S (h.sub S hS);have c2:=a1 T (h.sub T hT);have c3:=b1 S hS;rw [<- h.inM S lo w] at c1;rw [<- h.inM T lo w] at c2;omega
theorem arcs (h:Less was now) (ha:arcsOf was (List.range was.steps.toNat)≠[]):arcsOf now (List.range now.steps.toNat)≠[]/\(narrowM now).2<=(narrowM was).2:=by
 obtain ⟨h1,_⟩:=zcK ha;obtain ⟨low,k,h2,h3,h4⟩:=zeY.1 h1;obtain ⟨h5,h6,_⟩:=zdK.1 h3;have h7:=(h.within low ((k:Int)+1)).1;have hp:(withinM now (zb now) low ((k:Int)+1)).1>0:=by omega
 obtain ⟨q,hq⟩:∃ q,arcK now low=some q:=by
  cases hc:arcK now low with
  | some q=>exact ⟨q,rfl⟩
  | none =>
   unfold arcK at hc;rw [List.find?_eq_none] at hc;have:=hc k (List.mem_range.2 (by rw [h.steps]; exact h6));exact absurd hp (by simpa using this)
 have hqk:q<=k:=by
  obtain ⟨_,_,h8⟩:=zdK.1 hq;refine Classical.byContradiction fun hc=>h8 k oQ hp
 have hm:((low:Int),(q:Int)+1)∈arcsOf now (List.range now.steps.toNat):=zeY.2 ⟨low,q,by rw [h.steps]; exact h2,hq,rfl⟩;have hne:arcsOf now (List.range now.steps.toNat)≠[]:=List.ne_nil_of_mem hm;refine ⟨hne,?_⟩;have h9:=(zcK hne).2 _ hm;rw [Bool.eq_false_iff,ne_eq,ui] at h9;rw [h4];simp only at h9 ⊢;omega
end Less
end Go.Vel
namespace Go.Vel
open Go Go.Conc Go.Proofs
theorem zcC {a n:Int} (h0:0<=a) (h1:a<2*n):(a<n/\a % n=a)\/(n<=a/\a % n=a - n):=by
 by_cases h:a<n
 ·exact .inl ⟨h,Int.emod_eq_of_lt h0 h⟩
 ·refine .inr ⟨by omega,?_⟩;rw [<- Int.sub_emod_right a n];exact Int.emod_eq_of_lt oQ oQ
theorem zlb {n i w:Int} (h0:0<=i) (h1:i<n) (h2:1<=w) (h3:w<=n):((i+w - 1) % n - i+n) % n+1=w:=by
 have e1:=zcC (a:=i+w - 1) (n:=n) oQ oQ;have e2:=zcC (a:=(i+w - 1) % n - i+n) (n:=n) oQ oQ;omega
theorem zjN {b:Bk} (hb:BkOk b) (x:Int):zE b (x % b.steps)=true:=by
 have:=hb.steps;have h1:=Int.emod_nonneg x (show b.steps≠0 by omega);have h2:=Int.emod_lt_of_pos x (show 0<b.steps by omega);unfold zE;simp only [mX,decide_eq_true_eq];omega
theorem zih {l:List Int} (h:l.Pairwise (· < ·)):l.Nodup:=h.imp fun h e=>by omega
theorem zaH (b:Bk):checkM b=0↔numbersM b=0/\heardM b=0/\lookedM b=0:=by
 unfold checkM;by_cases h1:numbersM b=0
 ·by_cases h2:heardM b=0
  ·rw [if_neg (by simpa using h1),if_neg (by simpa using h2)];exact ⟨fun h=>⟨h1,h2,h⟩,fun h=>h.2.2⟩
  ·rw [if_neg (by simpa using h1),if_pos (by simpa using h2)];exact ⟨fun h=>absurd h h2,fun h=>absurd h.2.1 h2⟩
 ·rw [if_pos (by simpa using h1)];exact ⟨fun h=>absurd h h1,fun h=>absurd h.1 h1⟩
theorem zgL {b:Bk} (h:checkM b=0):(askM b true=0↔zb b≠[])/\(askM b true=9↔zb b=[])/\(askM b true=0\/askM b true=9):=by
 unfold askM;rw [if_neg (by simp [h]),if_neg dQ];by_cases h0:zb b=[]
 ·simp [h0]
 ·simp [h0]
section
variable {P:Program} {gm:Nat->Option Nat} {T:Goroutine->Hp->Prop} {Y:KX P gm T} {ds:List Nat} {k:List Item} {env env':List AV} {K K':KV}
theorem TK.nilAgg (d p:Nat) (e:TypeId) {l:List AV} {x:Option Addr} {c:Nat} (hx:env[d]? =some (.agg l)) (hp:l[p]? =some (.v (.slice x 0 c))) (h:∀ j,j∉keys K->TK Y ds k (env.set d (.agg (l.set p (.sl j 0 0)))) ((j,.cells [] e false)::K)):TK Y ds k env K:=fun A hA φ H ts h1 h2 h3 h4 h5 h6=>by
 have hk:A.length∉keys K:=fun hm=>absurd (hA.view.lt hm) (Nat.lt_irrefl _);have hH:=h5.virtO (o:=.cells [] e false) (fun φ n hl=>absurd rfl hl) (fun hl=>hl rfl);have hag:=yw φ A.length ⟨0,0,0⟩;have hlen:(A++[AObj.cells [] e false]).length=A.length+1:=by simp
 have hds:dsC (upd3 φ A.length ⟨0,0,0⟩) ds=dsC φ ds:=by
  unfold dsC;exact List.map_congr_left fun d hd'=>by rw [hag d (h4 d hd')]
 rw [<- hds];refine h _ hk _ (hA.step (.push hA.view hA.nd _)) _ H ts (h1.trans hag h2) oQ (h3.mono hag oQ) (fun d hd=>by have:=h4 d hd; omega) hH ?_;have hE:=h6.mono (n':=(A++[AObj.cells [] e false]).length) hag oQ;exact hE.set' hx fun y hy=>by
  obtain ⟨ys,rfl,q1,q2⟩:=zbi hy;refine .agg (by simpa using q1) fun t u z hu hz=>?_;rw [List.getElem?_set] at hu;split at hu
  ·rename_i ht;subst ht;split at hu
   ·cases hu;have:=q2 p _ z hp hz;rw [inv_v this];exact .sl oQ (mN _) fun hp=>absurd hp (Nat.lt_irrefl _)
   ·cases hu
  ·exact q2 t u z hu hz
end
def greatM (b:Bk):Bool:=decide (b.seekers.length>20)||decide (b.seen.length>20)||b.seekers.any fun x=>decide (x.name.size>100)
theorem zlj {α:Type} {xs:List α} {p:α->Bool} (h:(xs.take xs.length).any p=false):xs.any p=false:=by rwa [lW] at h
theorem zhe {α:Type} {xs:List α} {p:α->Bool} {i:Nat} {x:α} (h:xs[i]? =some x) (he:p x=true):xs.any p=true:=List.any_eq_true.2 ⟨x,lN h,he⟩
theorem zbB {b:Bk} (h:greatM b=false):b.seekers.length<=20/\b.seen.length<=20/\∀ x∈b.seekers,x.name.size<=100:=by
 unfold greatM at h;simp only [Bool.or_eq_false_iff,decide_eq_false_iff_not] at h;refine ⟨by omega,oQ,fun x hx=>?_⟩;have:=List.any_eq_false.1 h.2 x hx;simp at this;omega
def exB:Bk:=⟨8,1,1,1,[⟨⟨#[97,110,110]⟩,1,3,0,false⟩,⟨⟨#[98,111]⟩,2,5,1,false⟩,⟨⟨#[99,121]⟩,3,6,0,false⟩],[]⟩
def exB2:Bk:={ exB with low:=2,high:=2 }
def exX:Says:=⟨⟨#[100,105]⟩,5,1,0,true⟩
theorem zfa:checkM exB=0:=by kernel_rfl
theorem zix:zb exB=[[1],[3],[6]]:=by kernel_rfl
theorem ziv:askM exB true=0:=by kernel_rfl
theorem ex_r0:rightApi exB [3] 0=(true,0):=by kernel_rfl
theorem ex_r1:rightApi exB [3] 1=(false,0):=by kernel_rfl
theorem ex_s3:stateApi exB [3]=(true,0):=by kernel_rfl
theorem ex_s4:stateApi exB [4]=(false,0):=by kernel_rfl
theorem ex_st:statesApi exB=(3,0):=by kernel_rfl
theorem zmw:atApi exB 1=(0,0):=by kernel_rfl
theorem zmv:atApi exB 0=(2,0):=by kernel_rfl
theorem ex_p1:pickL exB 1 exB.steps.toNat=[]:=by kernel_rfl
theorem ex_p0:pickL exB 0 exB.steps.toNat=[1,3,6]:=by kernel_rfl
theorem ex_w:withinApi exB 6 1=((0,1),0):=by kernel_rfl
theorem ex_n:narrowApi exB=((1,6),true,0):=by kernel_rfl
theorem ex_wr:wrongApi exB 0=(0,0):=by kernel_rfl
theorem ex_g0:guessM exB (allM exB)≠[]:=by decide +kernel
theorem ex_li:likelyM exB=([1],1):=by kernel_rfl
theorem ex_t:togM exB (everyM exB)=false:=by kernel_rfl
theorem ex_cl:clashM exB=[0,1,2]:=by kernel_rfl
theorem zlw:askApi exB=(1,2,0):=by kernel_rfl
theorem zly:lendApi exB=(0,2,0):=by kernel_rfl
theorem zmy:giveM exB 0=0:=by kernel_rfl
theorem ex_g2:statesApi (giveB exB 0)=(2,0):=by kernel_rfl
theorem ex_g3:narrowApi (giveB exB 0)=((1,3),true,0):=by kernel_rfl
theorem ex_lk:newsM exB (lookB exB ⟨3,true⟩)=0:=by kernel_rfl
theorem zmA:statesApi (lookB exB ⟨3,true⟩)=(1,0):=by kernel_rfl
theorem ex_hr:newsM exB (zQ exB exX)=0:=by kernel_rfl
theorem zmz:statesApi (zQ exB exX)=(2,0):=by kernel_rfl
theorem zmu:statesApi exB2=(17,0):=by kernel_rfl
theorem ziu:checkM exB2=0:=by kernel_rfl
theorem ex2_g:guessM exB2 (allM exB2)≠[]:=by decide +kernel
theorem zmt:likelyM exB2=([1,6],0):=by kernel_rfl
theorem ex2_t:togM exB2 (everyM exB2)=true:=by kernel_rfl
theorem zmx:(zb exB).map (fun S=>(S.length:Int))=[1,1,1]:=by rw [zix]; rfl
theorem ziw:countsM exB=[1]:=by
 unfold countsM sortI;rw [zmx,List.mergeSort_of_pairwise dQ]
 decide +kernel
theorem zkm {main T} (hT:zh tp main T) {gm} {b:Bk} {s e:Nat} :
  zg tp T gm 28 [.agg (zx b s e)] [(s,zn b)] (fun r K'=>r=zm (greatM b)/\K'=[(s,zn b)]):=by
 refine ze 29 hT Tryz.func28 fun Y hret=>?_;refine au 21042 ?_;intro jb hjb;refine au 1728069067042235 ?_;refine bF 8 (fun g1_5=>?_) (fun g1_5=>?_)
 ·refine au 354218032608888 ?_;refine bB hret [(s,_)] ?_;exact ⟨by unfold greatM; rw [show decide (b.seekers.length>20)=true by have:=of_decide_eq_true g1_5; simp; omega]; rfl,rfl⟩
 have hlen20:b.seekers.length<=20:=by have:=of_decide_eq_false g1_5; omega
 refine au 932507280690670 ?_;constructor<;>intro hc0
 ·refine au 3542 ?_;refine bB hret [(s,_)] ?_;exact ⟨by unfold greatM; rw [show decide (b.seen.length>20)=true by have:=of_decide_eq_true hc0; simp; omega,Bool.or_true]; rfl,rfl⟩
 refine au 13035422120 ?_;refine bA [1,3] ?_;refine bE (fun n env K=>∃ (i:Nat),n=b.seekers.length - i/\i<=b.seekers.length/\((b.seekers.take i).any fun x=>decide (x.name.size>100))=false/\env=zJ 29 [(1,.ptr jb 0),(3,intA i)]/\K=[(jb,.cells (zx b s e) 27 true),(s,zn b)]) b.seekers.length ⟨0,rfl,mN _,rfl,rfl,rfl⟩ fun n env K hI' hnext=>?_;obtain ⟨i,rfl,hi,hany,rfl,rfl⟩:=hI';refine au 9372806906701422 ?_;refine ⟨fun hc=>?_,fun hc=>?_⟩
 ·simp only [decide_eq_true_eq] at hc;have hil:i<b.seekers.length:=by omega
  obtain ⟨x,hx⟩:∃ x,b.seekers[i]? =some x:=⟨_,lA hil⟩;refine au 6703601690670421302120 ?_;refine bH Z (zp Z Z zd.h mQ (ky (says_at' b hx) dQ Z)) ?_;refine au 937290 ?_;constructor<;>intro hc2
  ·refine au 3542 ?_;refine bB hret [(s,_)] ?_;exact ⟨by unfold greatM; rw [zhe (p:=fun x:Says=>decide (x.name.size>100)) hx (by have:=of_decide_eq_true hc2; simp; omega),Bool.or_true]; rfl,rfl⟩
  refine au 3523014140120 ?_;refine bA [1,3] ?_;refine bC [(jb,_),(s,_)] ?_;exact hnext _ _ _ oQ ⟨i+1,rfl,oQ,vA hx hany (by have:=of_decide_eq_false hc2; simp; omega),rfl,rfl⟩
 simp only [decide_eq_false_iff_not] at hc;obtain rfl:i=b.seekers.length:=by omega
 refine au 3542160 ?_;refine bB hret [(s,_)] ?_;exact ⟨by unfold greatM; rw [zlj hany,show decide (b.seekers.length>20)=false by have:=of_decide_eq_false g1_5; simp; omega,show decide (b.seen.length>20)=false by have:=of_decide_eq_false hc0; simp; omega]; rfl,rfl⟩
theorem to_ok {main T} (hT:zh tp main T) {gm} {a z:Int} :
  zg tp T gm 45 [intA a,intA z] [] (fun r K'=>r=.agg [intA a,intA z]/\K'=[]):=by
 refine ze 8 hT Tryz.func45 fun Y hret=>?_;refine au 22042 ?_;intro j1 hj1;refine au 317039011423 ?_;refine bB hret [] ?_;exact ⟨rfl,rfl⟩
theorem zgW {main T} (hT:zh tp main T) {gm} {n:Int} :
  zg tp T gm 51 [intA n] [] (fun r K'=>r=.agg [intA n,intA n]/\K'=[]):=by
 refine ze 6 hT Tryz.func51 fun Y hret=>?_;refine au 22042 ?_;intro j1 hj1;refine au 11423 ?_;refine bD Z Z Z Z (to_ok hT) ?_;rintro r2 K3 ⟨rfl,rfl⟩;refine au 3170 ?_;refine bB hret [] ?_;exact ⟨rfl,rfl⟩
theorem zky {main T} (hT:zh tp main T) {gm} {j off j2 off2:Nat} {ob ob2:AObj} {xs ys:List Int} (hjj:j≠j2) (hI:IntsAt ob off xs) (hI2:IntsAt ob2 off2 ys) (hlx:xs.length<=100000) :
  zg tp T gm 38 [.sl j off xs.length,.sl j2 off2 ys.length] [(j,ob),(j2,ob2)] (fun r K'=>r=zm (decide (xs=ys))/\K'=[(j,ob),(j2,ob2)]):=by
 refine ze 8 hT Tryz.func38 fun Y hret=>?_;refine au 11423542 ?_;refine bD Z Z Z Z (zgu hT hjj hI hI2 hlx) ?_;rintro r1 K2 ⟨rfl,rfl⟩;refine au 35 ?_;refine bB hret [(j,_),(j2,_)] ?_;exact ⟨rfl,rfl⟩
theorem zht {main T} (hT:zh tp main T) {gm}  :
  zg tp T gm 32 [] [] (fun r K'=>∃ s e,s≠e/\r=.agg (zx exB s e)/\K'=[(s,zn exB),(e,zo exB)]):=by
 refine ze 7 hT Tryz.func32 fun Y hret=>?_;refine au 22042 ?_;intro j1 hj1;refine au 423 ?_;refine bD Z Z Z Z (zgW hT) ?_;rintro r2 K3 ⟨rfl,rfl⟩;refine au 420420420 ?_;refine bI Z Z Z (zG (l:=[_,_,_,_,_,_,_,_,_,_,_,_,_,_,_]) Z SlEl.h TyZ.h dQ dQ Z) (fun _=>zy rfl tQ) fun jS hjS=>?_;refine TK.freezeR 5 Z uQ Z ?_;refine au 430 ?_;refine TK.nilAgg 6 5 200 Z Z fun jE hjE=>?_;refine au 3170 ?_;refine bB hret [(jS,_),(jE,_)] ?_;exact ⟨jS,jE,fun h=>hjE (by subst h; simp [keys]),rfl,rfl⟩
theorem zar {b:Bk} (hc:checkM b=0):(statesApi b).1=(zb b).length/\(statesApi b).2=0:=by
 unfold statesApi;rw [if_neg (by simp [hc])];exact ⟨rfl,rfl⟩
def fitM (b:Bk):Bool := !greatM b&&checkM b==0
structure Fits9 (b:Bk):Prop where
 check:checkM b=0
 names:∀ x∈b.seekers,x.name.size<=1000
 seen:b.seen.length<=1000
 says:b.seekers.length<=1000
 small:∀ x∈b.seekers,x.name.size<=100
theorem zmB {b:Bk} (h:fitM b=true):Fits9 b:=by
 unfold fitM at h;simp only [mX,mV,beq_iff_eq] at h;obtain ⟨h1,h2,h3⟩:=zbB h.1;exact ⟨h.2,fun x hx=>mT (h3 x hx) oQ,oQ,oQ,h3⟩
section
variable {P:Program} {gm:Nat->Option Nat} {T:Goroutine->Hp->Prop} {Y:KX P gm T} {ds:List Nat} {k:List Item} {env env':List AV} {K K' K1:KV} {ops:Array Oper} {i:Nat} {L':List Nat} {o:Oper} {envf:Nat->List AV} {pend pend':List Pd}
theorem TD.cappG {s x:Operand} {t e:TypeId} {size bytes j n m:Nat} {lo ln:List AV} {u:AV} {K'':Nat->KV} (sl:List Nat) (ho:ops[i]? =some o) (hd:yc o.op=false) (hw:yd ops (onl sl env) o=some true) (hp':pendOf ops i pend=pend') (hc:chkC ops pend' L' sl i o.dst=true) (hop:o.op=.call { callee:=.builtin .append,args:=#[s,x],argTypes:=#[t,t] }) (ht:apOf P t=some (e,size,bytes)) (hs:zr gm (onl sl env) s=some (.row j n)) (hm:(j,.row lo e size)∈K) (hlo:lo.length=n*size) (hx:zr gm (onl sl env) x=some u) (hl:lenA u=some m) (hsrc:0<m->srcO K size u m ln) (hln:m=0->ln=[])
  (hone:ln.all oneA=true) (hmax:n+m<=maxLen) (hbytes:(n+m)*bytes<=140737488355328) (hu:∀ j',Upd K j (.row lo e size) j' (.row (lo++ln) e size) (K'' j')) (he:∀ j',putA env o.dst (.row j' (n+m))=envf j') (hv:∀ j',∀ p∈pend',∀ x∈p.V,x∈K'' j') (h:∀ j',TD Y ds ops k pend' L' (envf j') (K'' j')):TD Y ds ops k pend (i::L') env K:=by
 rcases mP m with e0 | hpos
 ·subst e0;have hk:K'' j=K:=(hu j).same (by rw [hln rfl,lR]);have ht':=ht;unfold apOf at ht';split at ht'
  ·rename_i e' h1;split at ht'
   ·rename_i ti h2;refine TD.cq (r:=.row j n) sl ho hd hw hp' hc (zfR hop h1 h2 hs hx hl) (he j) (by rw [<- hk]; exact hv j) ?_;rw [<- hk]; exact h j
   ·cases ht'
  ·cases ht'
 ·exact TD.capp sl ho hd hw hp' hc (a_app hop ht hs hm hlo hx (hsrc hpos) hpos hone hmax hbytes) hu he hv h
theorem zlv {j n:Nat} {ob ob':AObj} {K'':Nat->KV} {sl:List Nat} (hd:yc o.op=false) (hq:∀ A,zP K A->OpOk P gm (onl sl env) A o (.row A.length n) (A.set j .gone++[ob'])) (hu:∀ j',Upd K j ob j' ob' (K'' j')) (he:∀ j',putA env o.dst (.row j' n)=envf j') (hv:∀ j',∀ p∈pend',∀ x∈p.V,x∈K'' j') (h:∀ j',TD Y ds ops k pend' L' (envf j') (K'' j')) :
  ExK Y (onl sl env) K o fun r K'=>(∀ p∈pend',∀ x∈p.V,x∈K')/\TD Y ds ops k pend' L' (putA env o.dst r) K' :=
 k9 hd fun A hv' hn=>⟨_,_,_,hq A hv',.renew hv' hn (hu _),hv _,by rw [he]; exact h _⟩
theorem zkb {s x:Operand} {t e:TypeId} {size bytes j n m:Nat} {lo ln:List AV} {u:AV} {K'':Nat->KV} {sl:List Nat} (hd:yc o.op=false) (hop:o.op=.call { callee:=.builtin .append,args:=#[s,x],argTypes:=#[t,t] }) (ht:apOf P t=some (e,size,bytes)) (hs:zr gm (onl sl env) s=some (.row j n)) (hm:(j,.row lo e size)∈K) (hlo:lo.length=n*size) (hx:zr gm (onl sl env) x=some u) (hl:lenA u=some m) (hsrc:0<m->srcO K size u m ln) (hln:m=0->ln=[])
  (hone:ln.all oneA=true) (hmax:n+m<=maxLen) (hbytes:(n+m)*bytes<=140737488355328) (hu:∀ j',Upd K j (.row lo e size) j' (.row (lo++ln) e size) (K'' j')) (he:∀ j',putA env o.dst (.row j' (n+m))=envf j') (hv:∀ j',∀ p∈pend',∀ x∈p.V,x∈K'' j') (h:∀ j',TD Y ds ops k pend' L' (envf j') (K'' j')) :
  ExK Y (onl sl env) K o fun r K'=>(∀ p∈pend',∀ x∈p.V,x∈K')/\TD Y ds ops k pend' L' (putA env o.dst r) K':=by
 rcases mP m with e0 | hpos
 ·subst e0;have hk:K'' j=K:=(hu j).same (by rw [hln rfl,lR]);have ht':=ht;unfold apOf at ht';split at ht'
  ·rename_i e' h1;split at ht'
   ·rename_i ti h2;exact k9 hd fun A hv' hn=>⟨.row j n,A,K,zfR hop h1 h2 hs hx hl A hv',.same hv' hn,by rw [<- hk]; exact hv j,by rw [show putA env o.dst (.row j n)=envf j from he j,<- hk]; exact h j⟩
   ·cases ht'
  ·cases ht'
 ·exact zlv hd (a_app hop ht hs hm hlo hx (hsrc hpos) hpos hone hmax hbytes) hu he hv h
end
section
variable {P:Program} {gm:Nat->Option Nat} {T:Goroutine->Hp->Prop} {Y:KX P gm T} {ds:List Nat} {k:List Item} {env env':List AV} {K K':KV}
theorem TK.freezeB1 (d:Nat) {a b c f:Value} {j1 n1 e m:Nat} {l1:List AV} {e1 s1:Nat} (hd:env[d]? =some (.agg [.v a,.v b,.v c,.v f,.row j1 n1,.sl e 0 m])) (hu:Upd K j1 (.row l1 e1 s1) j1 (.cells l1 e1 false) K') (he:env.set d (.agg [.v a,.v b,.v c,.v f,.sl j1 0 n1,.sl e 0 m])=env') (h:TK Y ds k env' K'):TK Y ds k env K :=
 TK.freeze d hd hu (by rw [<- he]; simp [unrow1,unrow]) h
end
def newsR (b o:Bk):Int:=if checkM b≠0 then checkM b else knownBar o true
def giveR (b:Bk) (k:Int):Int:=if checkM b≠0 then checkM b else if isSeekerM b k=false then 6 else if glassB b k.toNat=true then 5 else knownBar (giveB b k.toNat) true
theorem ziI {main T} (hT:zh tp main T) {gm} {b:Bk} {s e:Nat} {x:Says} (hl2:b.seekers.length<=1000) :
  zg tp T gm 81 [.agg (zx b s e),.agg (saysC x)] [(s,zn b),(e,zo b)] (fun r K'=>∃ j3,r=.agg (zx (zQ b x) j3 e)/\K'=[(s,zn b),(e,zo b),(j3,zn (zQ b x))]):=by
 refine ze 14 hT Tryz.func81 fun Y hret=>?_;refine au 21042 ?_;intro jb hjb;refine au 210 ?_;intro jx hjx;refine au 220 ?_;intro jr hjr;refine au 23 ?_;refine TK.dr [1,2,4,0,3,5,6,7,8] [0,1,2,3,4,5,6,7,8] ?_;refine ad [[3,2],[10,6],[12,3]] ?_;refine TD.c2 (i1:=0) (i2:=5) (pend1:=[⟨4,[3],[(_,_)]⟩,⟨2,[6],[(_,_)]⟩,⟨1,[2],[]⟩]) (pend2:=[⟨2,[6],[(_,_)]⟩,⟨1,[2],[]⟩]) (L1:=[3,5,6,7,8]) (L2:=[0,3,6,7,8]) [] [9] Z Z Z Z Z Z Z ?_ ?_
 ·refine zb4 Z (zG (l:=[]) Z SlEl.h TyZ.h dQ dQ Z) (fun _=>zy rfl tQ) sQ fun j1 hj1=>?_;refine TD.c2 (i1:=3) (i2:=5) (pend1:=[⟨4,[3],[(_,_)]⟩,⟨1,[2],[]⟩]) (pend2:=[⟨2,[6],[(_,_)]⟩,⟨1,[2],[]⟩]) (L1:=[5,6,7,8]) (L2:=[3,6,7,8]) [5,7] [9] Z Z Z Z Z Z Z ?_ ?_
  ·refine zkb (ln:=b.seekers.flatMap saysC) Z Z ApOf.h Z mQ Z Z Z (fun hp=>ud mQ oQ (wc (n:=b.seekers.length) (size:=5) (yk saysC 5 (fun _=>rfl) _) oQ)) (fun h=>by rw [lK h]; rfl) (vV saysC (fun _=>rfl) _) (by unfold maxLen; omega) oQ (fun _=>uQ) (fun _=>zy rfl tQ) (fun _=>by simp) fun j2=>?_;simp only [lC,mO];refine bV (pend':=[⟨1,[2],[]⟩]) [9] Z Z Z Z Z (zG (l:=[_,_,_,_,_]) Z SlEl.h TyZ.h dQ dQ Z) (fun _=>zy rfl tQ) sQ fun j5 hj5=>?_;refine TD.capp (pend':=[⟨1,[2],[]⟩]) [8,10] Z Z Z Z Z (a_app Z ApOf.h Z mQ (yk saysC 5 (fun _=>rfl) _) rfl (yS (ln:=[_,_,_,_,_]) mQ dQ sQ rfl) oQ rfl (by unfold maxLen; omega) oQ) (fun _=>uQ) (fun _=>zy rfl tQ) (fun _=>sQ) fun j3=>?_;refine ad [[3,2]] ?_;refine bR (pend':=[]) [11,12] Z Z (zt Z Z zd.h Z Z mQ Z) ?_;refine ad [[14]] ?_;refine au 68042 ?_;refine TK.freezeB1 13 Z uQ Z ?_;refine au 3170 ?_;refine bB hret [(s,_),(e,_),(j3,_)] ?_;exact ⟨j3,by unfold zx; rw [<- uX]; rfl,by unfold zn; rw [wM]; rfl⟩
  ·refine zb4 Z (zG (l:=[_,_,_,_,_]) Z SlEl.h TyZ.h dQ dQ Z) (fun _=>zy rfl tQ) sQ fun j5 hj5=>?_;refine TD.cappG (ln:=b.seekers.flatMap saysC) (pend':=[⟨1,[2],[]⟩]) [5,7] Z Z Z Z Z Z ApOf.h Z mQ Z Z Z (fun hp=>ud mQ oQ (wc (n:=b.seekers.length) (size:=5) (yk saysC 5 (fun _=>rfl) _) oQ)) (fun h=>by rw [lK h]; rfl) (vV saysC (fun _=>rfl) _) (by unfold maxLen; omega) oQ (fun _=>uQ) (fun _=>zy rfl tQ) (fun _=>by simp) fun j2=>?_;simp only [lC,mO];refine TD.capp (pend':=[⟨1,[2],[]⟩]) [8,10] Z Z Z Z Z (a_app Z ApOf.h Z mQ (yk saysC 5 (fun _=>rfl) _) rfl (yS (ln:=[_,_,_,_,_]) mQ dQ sQ rfl) oQ rfl (by unfold maxLen; omega) oQ) (fun _=>uQ) (fun _=>zy rfl tQ) (fun _=>sQ) fun j3=>?_;refine ad [[3,2]] ?_;refine bR (pend':=[]) [11,12] Z Z (zt Z Z zd.h Z Z mQ Z) ?_;refine ad [[14]] ?_;refine au 68042 ?_;refine TK.freezeB1 13 Z uQ Z ?_;refine au 3170 ?_;refine bB hret [(s,_),(e,_),(j3,_)] ?_;exact ⟨j3,by unfold zx; rw [<- uX]; rfl,by unfold zn; rw [wM]; rfl⟩
 ·refine zb4 Z (zG (l:=[_,_,_,_,_]) Z SlEl.h TyZ.h dQ dQ Z) (fun _=>zy rfl tQ) sQ fun j5 hj5=>?_;refine bV (pend':=[⟨2,[6],[(_,_)]⟩,⟨1,[2],[]⟩]) [] Z Z Z Z Z (zG (l:=[]) Z SlEl.h TyZ.h dQ dQ Z) (fun _=>zy rfl tQ) sQ fun j1 hj1=>?_;refine TD.cappG (ln:=b.seekers.flatMap saysC) (pend':=[⟨1,[2],[]⟩]) [5,7] Z Z Z Z Z Z ApOf.h Z mQ Z Z Z (fun hp=>ud mQ oQ (wc (n:=b.seekers.length) (size:=5) (yk saysC 5 (fun _=>rfl) _) oQ)) (fun h=>by rw [lK h]; rfl) (vV saysC (fun _=>rfl) _) (by unfold maxLen; omega) oQ (fun _=>uQ) (fun _=>zy rfl tQ) (fun _=>by simp) fun j2=>?_;simp only [lC,mO];refine TD.capp (pend':=[⟨1,[2],[]⟩]) [8,10] Z Z Z Z Z (a_app Z ApOf.h Z mQ (yk saysC 5 (fun _=>rfl) _) rfl (yS (ln:=[_,_,_,_,_]) mQ dQ sQ rfl) oQ rfl (by unfold maxLen; omega) oQ) (fun _=>uQ) (fun _=>zy rfl tQ) (fun _=>sQ) fun j3=>?_;refine ad [[3,2]] ?_;refine bR (pend':=[]) [11,12] Z Z (zt Z Z zd.h Z Z mQ Z) ?_;refine ad [[14]] ?_;refine au 68042 ?_;refine TK.freezeB1 13 Z uQ Z ?_;refine au 3170 ?_;refine bB hret [(s,_),(e,_),(j3,_)] ?_;exact ⟨j3,by unfold zx; rw [<- uX]; rfl,by unfold zn; rw [wM]; rfl⟩
instance:Cal tp 21:={}
instance:Cal tp 28:={}
instance:Cal tp 29:={}
instance:Cal tp 80:={}
def whoM (b:Bk) (k:Int):Int:=if (b.seekers.length:Int)=0 then -1 else k % b.seekers.length
theorem zij {b:Bk} {n:Int} (h0:askM b true=0) (hs:zE b n=true):(atApi b n).1=wordM (zb b).length (oftM (zb b) n)/\(atApi b n).2=0:=by
 unfold atApi;rw [hs,if_neg (by simp [h0])];exact ⟨rfl,rfl⟩
theorem kM {b:Bk} {k:Nat} (h0:askM b true=0) (hk:k<b.seekers.length):(wrongApi b k).1=wordM (zb b).length ((zb b).length - rightsM b (zb b) k)/\(wrongApi b k).2=0:=by
 unfold wrongApi;rw [show isSeekerM b k=true by unfold isSeekerM; simp only [mX,decide_eq_true_eq]; omega,if_neg (by simp [h0]),Int.toNat_natCast];exact ⟨rfl,rfl⟩
theorem zie {b:Bk} {lo hi:Int} (h0:askM b true=0) (h1:zE b lo=true) (h2:zE b hi=true):(withinApi b lo hi).1=withinM b (zb b) lo ((hi - lo+b.steps) % b.steps+1)/\(withinApi b lo hi).2=0:=by
 unfold withinApi;rw [h1,h2,if_neg (by simp [h0])];exact ⟨rfl,rfl⟩
theorem zc8 {b:Bk} {lo w:Int} (hc:checkM b=0) (h0:askM b true=0) (hlo:0<=lo/\lo<b.steps) (hw:1<=w/\w<=b.steps):(withinApi b lo ((lo+w - 1) % b.steps)).1=withinM b (zb b) lo w/\(withinApi b lo ((lo+w - 1) % b.steps)).2=0:=by
 have h:=zie (lo:=lo) (hi:=(lo+w - 1) % b.steps) h0 (by unfold zE; simp only [mX,decide_eq_true_eq]; omega) (zjN (yo hc) _);rw [zlb hlo.1 hlo.2 hw.1 hw.2] at h;exact h
theorem zcL {b:Bk} (h0:askM b true=0):(narrowApi b).2.2=0/\(narrowApi b).2.1=decide (arcsOf b (List.range b.steps.toNat)≠[])/\(arcsOf b (List.range b.steps.toNat)≠[]->(narrowApi b).1=narrowM b):=by
 unfold narrowApi;rw [if_neg (by simp [h0])];by_cases h:arcsOf b (List.range b.steps.toNat)=[]
 ·rw [if_pos h]; exact ⟨rfl,by simp [h],fun h2=>absurd h h2⟩
 ·rw [if_neg h]; exact ⟨rfl,by simp [h],fun _=>rfl⟩
theorem zcz {b:Bk} (hb:BkOk b):(countsM b).length<=1000:=by
 have h:=zad (l1:=countsM b) (l2:=[0,1,2,3]) (zih (zhq hb)) fun x hx=>by
  obtain ⟨S,h1,rfl⟩:=(uP hb x).1 hx;have:=zez hb h1;simp only [lI,List.not_mem_nil,or_false];omega
 simp at h;omega
theorem zhE {main T} (hT:zh tp main T) {gm} {j off j2 off2:Nat} {ob ob2:AObj} {xs ys:List Int} (hjj:j≠j2) (hI:IntsAt ob off xs) (hI2:IntsAt ob2 off2 ys) (hlx:xs.length<=100000) (hly:ys.length<=1000) :
  zg tp T gm 21 [.sl j off xs.length,.sl j2 off2 ys.length] [(j,ob),(j2,ob2)] (fun r K'=>r=zm (xs.all fun x=>decide (x∈ys))/\K'=[(j,ob),(j2,ob2)]):=by
 refine ze 19 hT Tryz.func21 fun Y hret=>?_;refine au 130354223542 ?_;refine bA [0,1,5] ?_;refine bE (fun n env K=>∃ (i:Nat),n=xs.length - i/\i<=xs.length/\((xs.take i).all fun x=>decide (x∈ys))=true/\env=zJ 19 [(0,.sl j off xs.length),(1,.sl j2 off2 ys.length),(5,intA i)]/\K=[(j,ob),(j2,ob2)]) xs.length ⟨0,rfl,mN _,rfl,rfl,rfl⟩ fun n env K hI' hnext=>?_;obtain ⟨i,rfl,hi,hn,rfl,rfl⟩:=hI';refine au 93728011422 ?_;refine ⟨fun hc=>?_,fun hc=>?_⟩
 ·simp only [decide_eq_true_eq] at hc;have hil:i<xs.length:=by omega
  refine au 360111421302120 ?_;refine bH Z (zp Z Z zd.h mQ (hI i hil)) ?_;refine bD Z Z Z Z (zkq hT hI2 hly) ?_;rintro r1 K2 ⟨rfl,rfl⟩;refine au 0 ?_;refine bN (List.Perm.swap _ _ _) ?_;refine au 93300 ?_;constructor<;>intro hc1
  ·refine au 3542 ?_;refine bB hret [(j,_),(j2,_)] ?_;exact ⟨by rw [show (xs.all fun x=>decide (x∈ys))=false from List.all_eq_false.2 ⟨xs[i],List.getElem_mem hil,by simpa using hc1⟩]; rfl,rfl⟩
  refine au 3523014140120 ?_;refine bA [0,1,5] ?_;refine bC [(j,_),(j2,_)] ?_;exact hnext _ _ _ oQ ⟨i+1,rfl,oQ,by rw [List.take_add_one,lA hil,List.all_append,hn]; simpa using hc1,rfl,rfl⟩
 simp only [decide_eq_false_iff_not] at hc;obtain rfl:i=xs.length:=by omega
 refine au 3542160 ?_;refine bB hret [(j,_),(j2,_)] ?_;exact ⟨by rw [show (xs.all fun x=>decide (x∈ys))=true by rwa [lW] at hn]; rfl,rfl⟩
theorem zm9 {main T} (hT:zh tp main T) {gm} {b:Bk} {s e:Nat} {k:Int} (hk:0<=k/\k<256) (hl2:b.seekers.length<=1000) :
  zg tp T gm 58 [.agg (zx b s e),.v (.int .u8 k)] [] (fun r K'=>r=intA (whoM b k)/\K'=[]):=by
 refine ze 15 hT Tryz.func58 fun Y hret=>?_;refine au 21042 ?_;intro jb hjb;refine au 93728069067042235 ?_;constructor<;>intro hc0
 ·refine au 3542 ?_;refine bB hret [] ?_;exact ⟨by unfold whoM; rw [if_pos (by simpa using hc0)]; rfl,rfl⟩
 have hpos:0<b.seekers.length:=by have:¬ ((b.seekers.length:Int)=0):=(by simpa using hc0); omega
 refine au 142120 ?_;refine bH Z (kH Z Z Und.h Und.h (km oQ)) ?_;refine au 280690670 ?_;refine bH Z (q_rem Z Z Z oQ oQ) ?_;refine au 35 ?_;refine bB hret [] ?_;exact ⟨by unfold whoM; rw [if_neg (by simpa using hc0)]; rfl,rfl⟩
structure Tot {α:Type} (lt:α->α->Bool):Prop where
 irr:∀ a,lt a a=false
 tri:∀ a b,lt a b=false->lt b a=false->a=b
 tr:∀ a b c,lt a b=true->lt b c=true->lt a c=true
theorem Tot.least {α:Type} {lt:α->α->Bool} (h:Tot lt):∀ (xs:List α) (o:α),∀ y∈o::xs,lt y (zR lt o xs)=false
 | [],o,y,hy=>by
  rw [List.mem_singleton.1 hy];exact h.irr o
 | x::xs,o,y,hy=>by
  show lt y (zR lt (if lt x o=true then x else o) xs)=false;have ih:=h.least xs (if lt x o=true then x else o);have key:∀ z,z=x\/z=o->lt z (zR lt (if lt x o=true then x else o) xs)=false:=fun z hz=>by
   by_cases hc:lt x o=true
   ·rw [if_pos hc] at ih ⊢;have h1:=ih x List.mem_cons_self;rcases hz with rfl | rfl
    ·exact h1
    ·rw [Bool.eq_false_iff] at h1 ⊢;exact fun h2=>h1 (h.tr _ _ _ hc h2)
   ·rw [if_neg hc] at ih ⊢;have h1:=ih o List.mem_cons_self;rcases hz with rfl | rfl
    ·rw [Bool.eq_false_iff] at h1 ⊢;intro h2;have hc':lt z o=false:=by simpa using hc
     by_cases h3:lt o z=true
     ·exact h1 (h.tr _ _ _ h3 h2)
     ·have:=h.tri _ _ hc' (by simpa using h3);subst this;exact h1 h2
    ·exact h1
  rcases lI.1 hy with rfl | hy
  ·exact key _ (.inr rfl)
  ·rcases lI.1 hy with rfl | hy
   ·exact key _ (.inl rfl)
   ·exact ih y (lL _ hy)
theorem Tot.uniq {α:Type} {lt:α->α->Bool} (h:Tot lt) {o m:α} {xs:List α} (hm:m∈o::xs) (hl:∀ y∈o::xs,lt y m=false):zR lt o xs=m :=
 h.tri _ _ (hl _ ke) (h.least xs o m hm)
theorem Tot.same {α:Type} {lt:α->α->Bool} (h:Tot lt) {o o':α} {xs xs':List α} (he:∀ y,y∈o::xs↔y∈o'::xs'):zR lt o xs=zR lt o' xs' :=
 h.uniq ((he _).2 ke) fun y hy=>h.least _ _ y ((he y).1 hy)
def minL {α:Type} (lt:α->α->Bool) (d:α) (xs:List α):α:=zR lt (xs.headD d) (xs.drop 1)
def goodS (b:Bk) (S:List Int):Bool:=seenM b S && !badM b S b.seekers.length
def guessS (b:Bk) (pre:List (List Int)):List (List Int×Int):=(pre.filter (goodS b)).map fun S=>(S,wrongM b S)
def allS (b:Bk) (S l:List Int):Bool:=l.all fun k=>rightM b S k.toNat
def togS (b:Bk) (l:List Int):Bool:=(setsB b).any fun S=>seenM b S&&allS b S l
def uptoM (n:Nat):List Int:=(List.range n).map fun k:Nat=>(k:Int)
def oddS (b:Bk) (pre:List (List Int)):List (List Int):=pre.filter fun l => !togS b l
end Go.Vel
namespace Go.Vel
open Go Go.Conc Go.Proofs
structure Wider (b o:Bk):Prop where
 steps:o.steps=b.steps
 seekers:o.seekers=b.seekers
 seen:o.seen=b.seen
 wrong:b.wrong<=o.wrong/\o.wrong<=3
 low:0<=o.low/\o.low<=b.low
 high:b.high<=o.high/\o.high<=3
namespace Wider
variable {b o:Bk}
theorem rightM (h:Wider b o) (S:List Int) (k:Nat):Vel.rightM o S k=Vel.rightM b S k:=by
 unfold Vel.rightM wideM inM;rw [h.seekers,h.steps]
theorem glassM (h:Wider b o) (k:Nat):Vel.glassM o k=Vel.glassM b k:=by unfold Vel.glassM; rw [h.seekers]
theorem badM (h:Wider b o) (S:List Int) (n:Nat):Vel.badM o S n=Vel.badM b S n:=by
 unfold Vel.badM;congr 1;funext k;rw [h.rightM,h.glassM]
theorem wrongL (h:Wider b o) (S:List Int) (n:Nat):Vel.wrongL o S n=Vel.wrongL b S n:=by
 unfold Vel.wrongL;congr 2;funext k;rw [h.rightM]
theorem wrongM (h:Wider b o) (S:List Int):Vel.wrongM o S=Vel.wrongM b S:=by
 unfold Vel.wrongM;rw [h.seekers,h.badM,h.wrongL]
theorem seenM (h:Wider b o) {S:List Int} (hs:Vel.seenM b S=true):Vel.seenM o S=true:=by
 unfold Vel.seenM at hs ⊢;rw [h.seen];simp only [mX,decide_eq_true_eq] at hs ⊢;obtain ⟨⟨h1,h2⟩,h3⟩:=hs;have:=h.low;have:=h.high;exact ⟨⟨by omega,oQ⟩,h3⟩
theorem canM (h:Wider b o) {S:List Int} (hs:Vel.canM b S=true):Vel.canM o S=true:=by
 unfold Vel.canM at hs ⊢;rw [h.seekers,h.badM,h.wrongL];simp only [mX,decide_eq_true_eq] at hs ⊢;have:=h.wrong;exact ⟨⟨hs.1.1,oQ⟩,h.seenM hs.2⟩
theorem checkM (h:Wider b o) (hc:Vel.checkM b=0):Vel.checkM o=0:=by
 obtain ⟨h1,h2,h3⟩:=(zaH b).1 hc;have hr:=ko (b:=b) (by rw [h1]; rfl);have hst:∀ n,zE o n=zE b n:=fun n=>by unfold zE; rw [h.steps]
 refine (zaH o).2 ⟨?_,?_,?_⟩
 ·have:=h.wrong;have:=h.low;have:=h.high;unfold numbersM;rw [h.steps];simp only [cond_eq_if,Bool.or_eq_true,mV,Bool.and_eq_false_iff,decide_eq_false_iff_not,decide_eq_true_eq];rw [if_neg oQ]
 ·have h4:∀ n,heardL o n=heardL b n:=fun n=>by
   induction n with
   | zero=>rfl
   | succ n ih =>
    unfold heardL;rw [ih];unfold heard1;simp only [h.seekers,hst]
  unfold heardM at h2 ⊢;rw [h.seekers,h4]; exact h2
 ·unfold lookedM at h3 ⊢;simp only [h.seen,hst];exact h3
theorem sets (h:Wider b o) (hb:BkOk b) (ho:BkOk o) (hh:0<=b.high) {S:List Int} (hS:S∈setsB b):S∈setsB o:=by
 obtain ⟨h1,h2,h3⟩:=(za2 hb hh S).1 hS;have:=h.high;exact (za2 ho oQ S).2 ⟨h1,by rw [h.steps]; exact h2,oQ⟩
theorem states (h:Wider b o) (hc:Vel.checkM b=0) {S:List Int} (hS:S∈zb b):S∈zb o:=by
 have hb:=yo hc;have ho:=yo (h.checkM hc);rw [wO hb] at hS;rw [wO ho];exact ⟨h.sets hb ho (zgT hc) hS.1,h.canM hS.2⟩
theorem many (h:Wider b o) (hc:Vel.checkM b=0):((zb b).length:Int)<=(zb o).length:=Int.ofNat_le.2 (zad (za8 b) fun _ hS=>h.states hc hS)
end Wider
end Go.Vel
namespace Go.Vel
open Go Go.Conc Go.Proofs
theorem zmC {main T} (hT:zh tp main T) {gm} {b:Bk} {s e:Nat} (hse:s≠e) :
  zg tp T gm 7 [.agg (zx b s e)] [(s,zn b),(e,zo b)] (fun r K'=>r=zm (fitM b)/\K'=[(s,zn b),(e,zo b)]):=by
 refine ze 11 hT Tryz.func7 fun Y hret=>?_;refine au 21042 ?_;intro jb hjb;refine au 6804235 ?_;refine bD Z Z Z Z (zkm hT (s:=s) (e:=e)) ?_;rintro r1 K2 ⟨rfl,rfl⟩;refine au 1300 ?_;refine bF 6 (fun g1_4=>?_) (fun g1_4=>?_)
 ·obtain ⟨hs1,hs2,hs3⟩:=zbB (b:=b) (by simpa using g1_4);refine au 680 ?_;refine bD Z Z Z Z (zaG hT hse (fun x hx=>mT (hs3 x hx) oQ) oQ oQ) ?_;rintro r4 K5 ⟨rfl,rfl⟩;refine au 352607 ?_;refine bB hret [(s,_),(e,_)] ?_;exact ⟨by unfold fitM; rw [g1_4,Bool.true_and]; rfl,rfl⟩
 refine au 35250888 ?_;refine bB hret [(s,_),(e,_)] ?_;exact ⟨by unfold fitM; rw [g1_4,Bool.false_and]; rfl,rfl⟩
theorem pendS {ops:Array Oper} {i:Nat} {pend pend':List Pd} {es:List Nat} (h:edgesOf .any ops i=es) (h2:(pend.filter fun p => !(es.elem p.i))=pend'):pendOf ops i pend=pend':=by unfold pendOf; rw [h]; exact h2
section
variable {P:Program} {gm:Nat->Option Nat} {T:Goroutine->Hp->Prop}
theorem vn {g:FuncId} {a1:AV} {j j2 n:Nat} {ob:AObj} {l:List AV} {e:TypeId} {s:Nat} {Post:AV->KV->Prop} (h:zg P T gm g [a1,.sl j2 0 n] [(j,ob),(j2,.cells l e false)] Post):zg P T gm g [a1,.row j2 n] [(j,ob),(j2,.row l e s)] Post:=by
 intro A hv hn φ F H vs c cs h1 h2 h3 q;have hj:A[j2]? =some (.row l e s):=hv.get sQ;have hb:(φ j2).base=0:=(h2.obj j2 _ hj).2.1;have hst:Kstep [(j,ob),(j2,AObj.row l e s)] A [(j,ob),(j2,.cells l e false)] (A.set j2 (.cells l e false)):=.set hv hn (.tail .head);refine h (A.set j2 (.cells l e false)) hst.view hst.nd φ F H vs c cs (by simpa using h1) (h2.turn hj (fun ho hl=>?_) (fun h=>by cases h) (fun _=>rfl) (fun hs=>?_)) ⟨by simpa using h3.1,fun t a y ha hy=>?_⟩ fun r A' φ' H' v ⟨K',hk,hp⟩ hA hlen hH' hv'=>q r A' φ' H' v ⟨K',hst.trans hk,hp⟩ (by simpa using hA) (by simpa using hlen) hH' hv'
 ·have hc:0<(φ j2).cap:=by
   rcases mP (φ j2).cap with e | e
   ·exact absurd (ho.1 e) hl
   ·exact e
  obtain ⟨cur,q1,q2,q3,q4,q5⟩:=ho.2.2 hc;exact ⟨true,cur,(_,0,0),q1,(fun h=>by cases h),fun t u hu=>by rw [hb,mO]; exact q5 t u hu⟩
 ·show 0<(φ j2).cap;rcases mP (φ j2).cap with e | e
  ·exact absurd ((h2.obj j2 _ hj).1 e) hs
  ·exact e
 ·match t,ha with
  | 0,ha =>
   cases ha;simpa using h3.2 0 a1 y rfl hy
  | 1,ha =>
   cases ha;have:=wJ (j:=j2) hb (h3.2 1 _ y rfl hy);simpa [unrow] using this
  | t+2,ha=>simp at ha
end
theorem uJ {main T} (hT:zh tp main T) {gm} {j off j2 off2:Nat} {ob ob2:AObj} (xs:List Int) (hjj:j≠j2) (hI:IntsAt ob off xs) (hI2:IntsAt ob2 off2 xs) (hlx:xs.length<=100000) :
  zg tp T gm 38 [.sl j off xs.length,.sl j2 off2 xs.length] [(j,ob),(j2,ob2)] (fun r K'=>r=zm true/\K'=[(j,ob),(j2,ob2)]) :=
 (zky hT hjj hI hI2 hlx).mono fun r K' ⟨h1,h2⟩=>⟨by rw [h1,decide_eq_true rfl],h2⟩
theorem uc {b:Bk} (h:(b.seekers.all fun x=>decide (x.name.size<=1000))=true):∀ x∈b.seekers,x.name.size<=1000:=fun x hx=>of_decide_eq_true (List.all_eq_true.1 h x hx)
theorem ex_n1:∀ x∈exB.seekers,x.name.size<=1000:=uc (by kernel_rfl)
theorem ex_n2:∀ x∈exB2.seekers,x.name.size<=1000:=uc (by kernel_rfl)
theorem ex_n3:∀ x∈(giveB exB 0).seekers,x.name.size<=1000:=uc (by kernel_rfl)
theorem ex_n4:∀ x∈(lookB exB ⟨3,true⟩).seekers,x.name.size<=1000:=uc (by kernel_rfl)
theorem ex_n5:∀ x∈(zQ exB exX).seekers,x.name.size<=1000:=uc (by kernel_rfl)
theorem ex_l1:exB.seen.length<=1000:=by decide
theorem ex_l2:exB2.seen.length<=1000:=by decide
theorem ex_l3:(giveB exB 0).seen.length<=1000:=by decide
theorem ex_l4:(lookB exB ⟨3,true⟩).seen.length<=1000:=by decide
theorem ex_l5:(zQ exB exX).seen.length<=1000:=by decide
theorem kI (tame:Tame tp) {Ψ:Goroutine->World->Prop}:zg tp (BT tp Ψ) gmS 9 [] [(0,zw),(1,zA)] (fun r K'=>r=zm true/\K'=[(0,zw),(1,zA)]):=by
 have hT:=kX tame Ψ;refine ze 427 hT Tryz.func9 fun Y hret=>?_;refine au 423542 ?_;refine bD Z Z Z Z (zht hT) ?_;rintro r1 K2 ⟨s,e,hse,rfl,rfl⟩;refine au 220 ?_;intro j1 hj1;refine au 23170 ?_;refine bC [(j1,_),(0,_),(1,_),(s,_),(e,_)] ?_;refine au 6804 ?_;refine bI Z Z Z (zG (l:=[_]) Z SlEl.h TyZ.h dQ dQ Z) (fun _=>zy rfl tQ) fun ja2 hja2=>?_;refine TK.freezeR 40 Z uQ Z ?_;refine au 0 ?_;refine bD Z Z Z Z (zbE hT (b:=exB) (s:=s) (e:=e) (k:=0) (xs:=[3]) ex_n1 ex_l1 (yp [3] 3 false) dQ) ?_;rintro r4 K5 ⟨rfl,rfl⟩;refine au 0 ?_;rw [ex_r0];refine au 2355661 ?_;refine bC [(j1,_),(0,_),(1,_),(s,_),(e,_)] ?_;refine au 6804 ?_;refine bI Z Z Z (zG (l:=[_]) Z SlEl.h TyZ.h dQ dQ Z) (fun _=>zy rfl tQ) fun ja3 hja3=>?_;refine TK.freezeR 46 Z uQ Z ?_;refine au 0 ?_;refine bD Z Z Z Z (zbE hT (b:=exB) (s:=s) (e:=e) (k:=1) (xs:=[3]) ex_n1 ex_l1 (yp [3] 3 false) dQ) ?_;rintro r7 K8 ⟨rfl,rfl⟩;refine au 0 ?_;rw [ex_r1];refine au 2355661 ?_;refine bC [(j1,_),(0,_),(1,_),(s,_),(e,_)] ?_;refine au 6804 ?_;refine bI Z Z Z (zG (l:=[_]) Z SlEl.h TyZ.h dQ dQ Z) (fun _=>zy rfl tQ) fun ja4 hja4=>?_;refine TK.freezeR 52 Z uQ Z ?_;refine au 0 ?_;refine bD Z Z Z Z (zbM hT (b:=exB) (s:=s) (e:=e) hse (xs:=[3]) ex_n1 ex_l1 (yp [3] 3 false) dQ) ?_;rintro r10 K11 ⟨rfl,rfl⟩;refine au 0 ?_;rw [ex_s3];refine au 2355661 ?_;refine bC [(j1,_),(0,_),(1,_),(s,_),(e,_)] ?_;refine au 6804 ?_;refine bI Z Z Z (zG (l:=[_]) Z SlEl.h TyZ.h dQ dQ Z) (fun _=>zy rfl tQ) fun ja5 hja5=>?_;refine TK.freezeR 58 Z uQ Z ?_;refine au 0 ?_;refine bD Z Z Z Z (zbM hT (b:=exB) (s:=s) (e:=e) hse (xs:=[4]) ex_n1 ex_l1 (yp [4] 3 false) dQ) ?_;rintro r13 K14 ⟨rfl,rfl⟩;refine au 0 ?_;rw [ex_s4];refine au 2355661 ?_;refine bC [(j1,_),(0,_),(1,_),(s,_),(e,_)] ?_;refine au 6804 ?_;refine bD Z Z Z Z (yZ hT (b:=exB) (s:=s) (e:=e) hse ex_n1 ex_l1) ?_;rintro r16 K17 ⟨rfl,rfl⟩;refine au 0 ?_;rw [ex_st];refine au 68042355661 ?_;refine bD Z Z Z Z (zaJ tame (b:=exB) (s:=s) (e:=e) hse ex_n1 ex_l1) ?_;rintro r19 K20 h21;rcases h21 with ⟨hb0,rfl,rfl⟩ | ⟨hb0,jc,rfl,rfl⟩
 ·refine au 0 ?_;exact absurd ziv hb0
 ·refine au 0 ?_;rw [ziw];refine au 61 ?_;refine TK.freezeR 70 Z uQ Z ?_;refine au 680423556 ?_;refine bD Z Z Z Z (uM hT (b:=exB) (s:=s) (e:=e) (n:=1) hse ex_n1 ex_l1) ?_;rintro r22 K23 ⟨rfl,rfl⟩;refine au 0 ?_;rw [zmw];refine au 68042355661 ?_;refine bD Z Z Z Z (uM hT (b:=exB) (s:=s) (e:=e) (n:=0) hse ex_n1 ex_l1) ?_;rintro r25 K26 ⟨rfl,rfl⟩;refine au 0 ?_;rw [zmv];refine au 112507112501125030011250112503001125071125071125071125071125071125071125071171422355661 ?_;refine bI Z Z Z (zG (l:=[_]) Z SlEl.h TyZ.h dQ dQ Z) (fun _=>zy rfl tQ) fun jd hjd=>?_;refine bD Z Z Z Z (vn (uJ hT [1] (j:=jc) (j2:=jd) (fun h=>hjd (by subst h; simp [keys])) (yp [1] 3 false) (yp [1] 3 false) dQ)) ?_;rintro r28 K29 ⟨rfl,rfl⟩;refine au 21201903250711250711250300 ?_;refine bC [(j1,_),(0,_),(1,_),(s,_),(e,_)] ?_;refine au 6804 ?_;refine bD Z Z Z Z (zgH hT (b:=exB) (s:=s) (e:=e) hse ex_n1 ex_l1) ?_;rintro r31 K32 h33;rcases h33 with ⟨hb0,rfl,rfl⟩ | ⟨hb0,jp,jq,rfl,rfl⟩
  ·refine au 0 ?_;exact absurd ziv hb0
  ·refine au 0 ?_;rw [ex_p1,ex_p0];refine au 661 ?_;refine TK.freezeR 148 Z uQ Z ?_;refine au 6804235556 ?_;refine bD Z Z Z Z (wT hT (b:=exB) (s:=s) (e:=e) (lo:=6) (hi:=1) hse ex_n1 ex_l1) ?_;rintro r34 K35 ⟨rfl,rfl⟩;refine au 0 ?_;rw [ex_w];refine au 220661 ?_;intro jw hjw;refine au 6804235170 ?_;refine bD Z Z Z Z (vu tame (b:=exB) (s:=s) (e:=e) hse ex_n1 ex_l1) ?_;rintro r37 K38 ⟨rfl,rfl⟩;refine au 0 ?_;rw [ex_n];refine au 680423555566661 ?_;refine bD Z Z Z Z (kY hT (b:=exB) (s:=s) (e:=e) (n:=0) hse ex_n1 ex_l1) ?_;rintro r40 K41 ⟨rfl,rfl⟩;refine au 0 ?_;rw [ex_wr];refine au 68042355661 ?_;refine bD Z Z Z Z (zd7 hT (b:=exB) (s:=s) (e:=e) hse ex_n1 ex_l1) ?_;rintro r43 K44 h45;rcases h45 with ⟨hc0,rfl,rfl⟩ | ⟨hc0,hg0,rfl,rfl⟩ | ⟨hc0,hg0,jl,rfl,rfl⟩
   ·refine au 0 ?_;exact absurd zfa hc0
   ·refine au 0 ?_;exact absurd hg0 ex_g0
   ·refine au 0 ?_;rw [ex_li];refine au 680423555566661 ?_;refine bD Z Z Z Z (ze4 hT (b:=exB) (s:=s) (e:=e) hse ex_n1 ex_l1) ?_;rintro r46 K47 h48;rcases h48 with ⟨hc0,rfl,rfl⟩ | ⟨hc0,hg0,rfl,rfl⟩ | ⟨hc0,hg0,jk,rfl,rfl⟩
    ·refine au 0 ?_;exact absurd zfa hc0
    ·refine au 0 ?_;rw [ex_t] at hg0; cases hg0
    ·refine au 0 ?_;rw [ex_cl];refine au 22355661 ?_;refine bC [(j1,_),(0,_),(1,_),(s,_),(e,_),(jp,_),(jq,_),(jw,_),(jl,_),(jk,_)] ?_;refine TK.dr [0,1,2,3,4,5,6,7,8,9,10,11,12,13,14,15,16,17,18,19,20,21,22,23,24,25,26,27,28,29,30,31,32,33,34,35,36,37,38,39,40,41,42,43,44,45,46,47,48,49,50,51,52,53,54,55,56,57,58,59,60,61,62,63,64,65,66,67,68,69,70,71,72,73] [0,1,2,3,4,5,6,7,8,9,10,11,12,13,14,15,16,17,18,19,20,21,22,23,24,25,26,27,28,29,30,31,32,33,34,35,36,37,38,39,40,41,42,43,44,45,46,47,48,49,50,51,52,53,54,55,56,57,58,59,60,61,62,63,64,65,66,67,68,69,70,71,72,73] ?_;refine ad [[1,3],[4,179],[1,180],[1,5,181],[4,181,182],[6,181,183],[1,184],[1,7,185],[4,185,186],[6,185,187],[1,188],[1,9,189],[4,189,190],[6,189,191],[1,192],[1,11,193],[4,193,194],[6,193,195],[1,196],[1,13,197],[4,197,198],[6,197,199],[1,200],[1,18,201]] ?_;refine bU [201,202] Z (q_len Z Z Z Und.h) ?_;refine ad [[4,201,203],[6,201,204],[1,205],[1,19,206]] ?_;refine bV (pend':=[Pd.mk 28 [19,206] [],Pd.mk 26 [201,204] [],Pd.mk 25 [201,203] [],Pd.mk 24 [201,202] [],Pd.mk 23 [18,201] [],Pd.mk 22 [200] [],Pd.mk 21 [197,199] [],Pd.mk 20 [197,198] [],Pd.mk 19 [13,197] [],Pd.mk 18 [196] [],Pd.mk 17 [193,195] [],Pd.mk 16 [193,194] [],Pd.mk 15 [11,193] [],Pd.mk 14 [192] [],Pd.mk 13 [189,191] [],Pd.mk 12 [189,190] [],Pd.mk 11 [9,189] [],Pd.mk 10 [188] [],Pd.mk 9 [185,187] [],Pd.mk 8 [185,186] [],Pd.mk 7 [7,185] [],Pd.mk 6 [184] [],Pd.mk 5 [181,183] [],Pd.mk 4 [181,182] [],Pd.mk 3 [5,181] [],Pd.mk 2 [180] [],Pd.mk 1 [179] [],Pd.mk 0 [3] []]) [206] Z Z Z (pendS (es:=[27]) Z Z) Z (zG (l:=[_,_,_]) Z SlEl.h TyZ.h dQ dQ Z) (fun _=>zy rfl tQ) sQ fun jd1 hjd1=>?_;refine bQ (pend':=[Pd.mk 26 [201,204] [],Pd.mk 25 [201,203] [],Pd.mk 24 [201,202] [],Pd.mk 23 [18,201] [],Pd.mk 22 [200] [],Pd.mk 21 [197,199] [],Pd.mk 20 [197,198] [],Pd.mk 19 [13,197] [],Pd.mk 18 [196] [],Pd.mk 17 [193,195] [],Pd.mk 16 [193,194] [],Pd.mk 15 [11,193] [],Pd.mk 14 [192] [],Pd.mk 13 [189,191] [],Pd.mk 12 [189,190] [],Pd.mk 11 [9,189] [],Pd.mk 10 [188] [],Pd.mk 9 [185,187] [],Pd.mk 8 [185,186] [],Pd.mk 7 [7,185] [],Pd.mk 6 [184] [],Pd.mk 5 [181,183] [],Pd.mk 4 [181,182] [],Pd.mk 3 [5,181] [],Pd.mk 2 [180] [],Pd.mk 1 [179] [],Pd.mk 0 [3] []]) [206,207,208] Z (pendS (es:=[28,29,27,27]) Z Z) Z Z Z (vn (uJ hT [1,3,6] (j:=jq) (j2:=jd1) (fun h=>hjd1 (by subst h; simp [keys])) (yp [1,3,6] 3 false) (yp [1,3,6] 3 false) dQ)) (fun r49 K50 h51=>⟨?_,?_⟩)
     ·rcases h51 with ⟨rfl,rfl⟩
      all_goals simp
     obtain ⟨rfl,rfl⟩:=h51;try simp only [cA]
     refine bS tQ ?_;refine bU [206,209] Z (q_not Z Z) ?_;refine ad [[6,206,210],[1,211],[12,20,212]] ?_;refine bQ (pend':=[Pd.mk 34 [20,212] [(_,_)],Pd.mk 32 [206,210] [],Pd.mk 31 [206,209] [],Pd.mk 26 [201,204] [],Pd.mk 25 [201,203] [],Pd.mk 24 [201,202] [],Pd.mk 23 [18,201] [],Pd.mk 22 [200] [],Pd.mk 21 [197,199] [],Pd.mk 20 [197,198] [],Pd.mk 19 [13,197] [],Pd.mk 18 [196] [],Pd.mk 17 [193,195] [],Pd.mk 16 [193,194] [],Pd.mk 15 [11,193] [],Pd.mk 14 [192] [],Pd.mk 13 [189,191] [],Pd.mk 12 [189,190] [],Pd.mk 11 [9,189] [],Pd.mk 10 [188] [],Pd.mk 9 [185,187] [],Pd.mk 8 [185,186] [],Pd.mk 7 [7,185] [],Pd.mk 6 [184] [],Pd.mk 5 [181,183] [],Pd.mk 4 [181,182] [],Pd.mk 3 [5,181] [],Pd.mk 2 [180] [],Pd.mk 1 [179] [],Pd.mk 0 [3] []]) [212] Z (pendS (es:=[33,33]) Z Z) Z Z Z (to_ok hT) (fun r52 K53 h54=>⟨?_,?_⟩)
     ·rcases h54 with ⟨rfl,rfl⟩
      all_goals simp
     obtain ⟨rfl,rfl⟩:=h54;try simp only [cA]
     refine bS tQ ?_;refine bU [212,213,214] Z (zel Z Z Z Z Z FlatF.h EqG.h) ?_;refine ad [[6,212,215],[1,216],[1,21,217],[4,217,218],[6,217,219],[1,220],[1,22,221],[4,221,222],[6,221,223],[1,224],[1,23,225]] ?_;refine bU [225,226] Z (q_not Z Z) ?_;refine ad [[6,225,227],[1,228],[1,24,229],[4,229,230],[6,229,231],[1,232],[1,25,233]] ?_;refine bV (pend':=[Pd.mk 55 [25,233] [],Pd.mk 53 [229,231] [],Pd.mk 52 [229,230] [],Pd.mk 51 [24,229] [],Pd.mk 50 [228] [],Pd.mk 49 [225,227] [],Pd.mk 48 [225,226] [],Pd.mk 47 [23,225] [],Pd.mk 46 [224] [],Pd.mk 45 [221,223] [],Pd.mk 44 [221,222] [],Pd.mk 43 [22,221] [],Pd.mk 42 [220] [],Pd.mk 41 [217,219] [],Pd.mk 40 [217,218] [],Pd.mk 39 [21,217] [],Pd.mk 38 [216] [],Pd.mk 37 [212,215] [],Pd.mk 36 [212,213,214] [],Pd.mk 34 [20,212] [(_,_)],Pd.mk 32 [206,210] [],Pd.mk 31 [206,209] [],Pd.mk 26 [201,204] [],Pd.mk 25 [201,203] [],Pd.mk 24 [201,202] [],Pd.mk 23 [18,201] [],Pd.mk 22 [200] [],Pd.mk 21 [197,199] [],Pd.mk 20 [197,198] [],Pd.mk 19 [13,197] [],Pd.mk 18 [196] [],Pd.mk 17 [193,195] [],Pd.mk 16 [193,194] [],Pd.mk 15 [11,193] [],Pd.mk 14 [192] [],Pd.mk 13 [189,191] [],Pd.mk 12 [189,190] [],Pd.mk 11 [9,189] [],Pd.mk 10 [188] [],Pd.mk 9 [185,187] [],Pd.mk 8 [185,186] [],Pd.mk 7 [7,185] [],Pd.mk 6 [184] [],Pd.mk 5 [181,183] [],Pd.mk 4 [181,182] [],Pd.mk 3 [5,181] [],Pd.mk 2 [180] [],Pd.mk 1 [179] [],Pd.mk 0 [3] []]) [233] Z Z Z (pendS (es:=[54]) Z Z) Z (zG (l:=[_]) Z SlEl.h TyZ.h dQ dQ Z) (fun _=>zy rfl tQ) sQ fun jd2 hjd2=>?_;refine bQ (pend':=[Pd.mk 53 [229,231] [],Pd.mk 52 [229,230] [],Pd.mk 51 [24,229] [],Pd.mk 50 [228] [],Pd.mk 49 [225,227] [],Pd.mk 48 [225,226] [],Pd.mk 47 [23,225] [],Pd.mk 46 [224] [],Pd.mk 45 [221,223] [],Pd.mk 44 [221,222] [],Pd.mk 43 [22,221] [],Pd.mk 42 [220] [],Pd.mk 41 [217,219] [],Pd.mk 40 [217,218] [],Pd.mk 39 [21,217] [],Pd.mk 38 [216] [],Pd.mk 37 [212,215] [],Pd.mk 36 [212,213,214] [],Pd.mk 34 [20,212] [(_,_)],Pd.mk 32 [206,210] [],Pd.mk 31 [206,209] [],Pd.mk 26 [201,204] [],Pd.mk 25 [201,203] [],Pd.mk 24 [201,202] [],Pd.mk 23 [18,201] [],Pd.mk 22 [200] [],Pd.mk 21 [197,199] [],Pd.mk 20 [197,198] [],Pd.mk 19 [13,197] [],Pd.mk 18 [196] [],Pd.mk 17 [193,195] [],Pd.mk 16 [193,194] [],Pd.mk 15 [11,193] [],Pd.mk 14 [192] [],Pd.mk 13 [189,191] [],Pd.mk 12 [189,190] [],Pd.mk 11 [9,189] [],Pd.mk 10 [188] [],Pd.mk 9 [185,187] [],Pd.mk 8 [185,186] [],Pd.mk 7 [7,185] [],Pd.mk 6 [184] [],Pd.mk 5 [181,183] [],Pd.mk 4 [181,182] [],Pd.mk 3 [5,181] [],Pd.mk 2 [180] [],Pd.mk 1 [179] [],Pd.mk 0 [3] []]) [233,234,235] Z (pendS (es:=[55,56,54,54]) Z Z) Z Z Z (vn (uJ hT [1] (j:=jl) (j2:=jd2) (fun h=>hjd2 (by subst h; simp [keys])) (yp [1] 3 false) (yp [1] 3 false) dQ)) (fun r55 K56 h57=>⟨?_,?_⟩)
     ·rcases h57 with ⟨rfl,rfl⟩
      all_goals simp
     obtain ⟨rfl,rfl⟩:=h57;try simp only [cA]
     refine bS tQ ?_;refine bU [233,236] Z (q_not Z Z) ?_;refine ad [[6,233,237],[1,238],[1,26,239],[4,239,240],[6,239,241],[1,242],[1,27,243]] ?_;refine bU [243,244] Z (q_not Z Z) ?_;refine ad [[6,243,245],[1,246],[1,28,247]] ?_;refine bV (pend':=[Pd.mk 69 [28,247] [],Pd.mk 67 [243,245] [],Pd.mk 66 [243,244] [],Pd.mk 65 [27,243] [],Pd.mk 64 [242] [],Pd.mk 63 [239,241] [],Pd.mk 62 [239,240] [],Pd.mk 61 [26,239] [],Pd.mk 60 [238] [],Pd.mk 59 [233,237] [],Pd.mk 58 [233,236] [],Pd.mk 53 [229,231] [],Pd.mk 52 [229,230] [],Pd.mk 51 [24,229] [],Pd.mk 50 [228] [],Pd.mk 49 [225,227] [],Pd.mk 48 [225,226] [],Pd.mk 47 [23,225] [],Pd.mk 46 [224] [],Pd.mk 45 [221,223] [],Pd.mk 44 [221,222] [],Pd.mk 43 [22,221] [],Pd.mk 42 [220] [],Pd.mk 41 [217,219] [],Pd.mk 40 [217,218] [],Pd.mk 39 [21,217] [],Pd.mk 38 [216] [],Pd.mk 37 [212,215] [],Pd.mk 36 [212,213,214] [],Pd.mk 34 [20,212] [(_,_)],Pd.mk 32 [206,210] [],Pd.mk 31 [206,209] [],Pd.mk 26 [201,204] [],Pd.mk 25 [201,203] [],Pd.mk 24 [201,202] [],Pd.mk 23 [18,201] [],Pd.mk 22 [200] [],Pd.mk 21 [197,199] [],Pd.mk 20 [197,198] [],Pd.mk 19 [13,197] [],Pd.mk 18 [196] [],Pd.mk 17 [193,195] [],Pd.mk 16 [193,194] [],Pd.mk 15 [11,193] [],Pd.mk 14 [192] [],Pd.mk 13 [189,191] [],Pd.mk 12 [189,190] [],Pd.mk 11 [9,189] [],Pd.mk 10 [188] [],Pd.mk 9 [185,187] [],Pd.mk 8 [185,186] [],Pd.mk 7 [7,185] [],Pd.mk 6 [184] [],Pd.mk 5 [181,183] [],Pd.mk 4 [181,182] [],Pd.mk 3 [5,181] [],Pd.mk 2 [180] [],Pd.mk 1 [179] [],Pd.mk 0 [3] []]) [247] Z Z Z (pendS (es:=[68]) Z Z) Z (zG (l:=[_,_,_]) Z SlEl.h TyZ.h dQ dQ Z) (fun _=>zy rfl tQ) sQ fun jd3 hjd3=>?_;refine bQ (pend':=[Pd.mk 67 [243,245] [],Pd.mk 66 [243,244] [],Pd.mk 65 [27,243] [],Pd.mk 64 [242] [],Pd.mk 63 [239,241] [],Pd.mk 62 [239,240] [],Pd.mk 61 [26,239] [],Pd.mk 60 [238] [],Pd.mk 59 [233,237] [],Pd.mk 58 [233,236] [],Pd.mk 53 [229,231] [],Pd.mk 52 [229,230] [],Pd.mk 51 [24,229] [],Pd.mk 50 [228] [],Pd.mk 49 [225,227] [],Pd.mk 48 [225,226] [],Pd.mk 47 [23,225] [],Pd.mk 46 [224] [],Pd.mk 45 [221,223] [],Pd.mk 44 [221,222] [],Pd.mk 43 [22,221] [],Pd.mk 42 [220] [],Pd.mk 41 [217,219] [],Pd.mk 40 [217,218] [],Pd.mk 39 [21,217] [],Pd.mk 38 [216] [],Pd.mk 37 [212,215] [],Pd.mk 36 [212,213,214] [],Pd.mk 34 [20,212] [(_,_)],Pd.mk 32 [206,210] [],Pd.mk 31 [206,209] [],Pd.mk 26 [201,204] [],Pd.mk 25 [201,203] [],Pd.mk 24 [201,202] [],Pd.mk 23 [18,201] [],Pd.mk 22 [200] [],Pd.mk 21 [197,199] [],Pd.mk 20 [197,198] [],Pd.mk 19 [13,197] [],Pd.mk 18 [196] [],Pd.mk 17 [193,195] [],Pd.mk 16 [193,194] [],Pd.mk 15 [11,193] [],Pd.mk 14 [192] [],Pd.mk 13 [189,191] [],Pd.mk 12 [189,190] [],Pd.mk 11 [9,189] [],Pd.mk 10 [188] [],Pd.mk 9 [185,187] [],Pd.mk 8 [185,186] [],Pd.mk 7 [7,185] [],Pd.mk 6 [184] [],Pd.mk 5 [181,183] [],Pd.mk 4 [181,182] [],Pd.mk 3 [5,181] [],Pd.mk 2 [180] [],Pd.mk 1 [179] [],Pd.mk 0 [3] []]) [247,248,249] Z (pendS (es:=[69,70,68,68]) Z Z) Z Z Z (vn (uJ hT [0,1,2] (j:=jk) (j2:=jd3) (fun h=>hjd3 (by subst h; simp [keys])) (yp [0,1,2] 3 false) (yp [0,1,2] 3 false) dQ)) (fun r58 K59 h60=>⟨?_,?_⟩)
     ·rcases h60 with ⟨rfl,rfl⟩
      all_goals simp
     obtain ⟨rfl,rfl⟩:=h60;try simp only [cA]
     refine bS tQ ?_;refine bU [247,250] Z (q_not Z Z) ?_;refine ad [[6,247,251],[14]] ?_;refine au 2120190 ?_;refine bC [(j1,_),(0,_),(1,_),(s,_),(e,_)] ?_;refine au 6804 ?_;refine bD Z Z Z Z (zii hT (b:=exB) (s:=s) (e:=e) hse ex_n1 ex_l1) ?_;rintro r61 K62 ⟨rfl,rfl⟩;refine au 0 ?_;rw [zlw];refine au 6804235556661 ?_;refine bD Z Z Z Z (zhH hT (b:=exB) (s:=s) (e:=e) hse ex_n1 ex_l1) ?_;rintro r64 K65 ⟨rfl,rfl⟩;refine au 0 ?_;rw [zly];refine au 6804235556661 ?_;refine bD Z Z Z Z (zlz hT (b:=exB) (s:=s) (e:=e) (n:=0) hse ex_n1 ex_l1) ?_;rintro r67 K68 h69;rcases h69 with ⟨hb0,rfl,rfl⟩ | ⟨hb0,g3,g2,rfl,rfl⟩
     ·refine au 0 ?_;exact absurd zmy hb0
     ·refine au 0 ?_;refine TK.nd fun hnd=>?_;have hg3:g3≠g2:=fun h=>by subst h; simp [keys] at hnd
      try rw [show (0:Int).toNat=0 from rfl]
      refine au 220661 ?_;intro jg hjg;refine au 6804235170 ?_;refine bD Z Z Z Z (yZ hT (b:=giveB exB 0) (s:=g3) (e:=g2) hg3 ex_n3 ex_l3) ?_;rintro r70 K71 ⟨rfl,rfl⟩;refine au 0 ?_;rw [ex_g2];refine au 68042355661 ?_;refine bD Z Z Z Z (vu tame (b:=giveB exB 0) (s:=g3) (e:=g2) hg3 ex_n3 ex_l3) ?_;rintro r73 K74 ⟨rfl,rfl⟩;refine au 0 ?_;rw [ex_g3];refine au 23555566661 ?_;refine bC [(j1,_),(0,_),(1,_),(s,_),(e,_),(jg,_)] ?_;refine au 6804 ?_;refine bD Z Z Z Z (zlG hT (b:=exB) (s:=s) (e:=e) (n:=3) (sm:=true) hse ex_n1 ex_l1) ?_;rintro r76 K77 h78;rcases h78 with ⟨hb0,rfl,rfl⟩ | ⟨hb0,l3,l2,rfl,rfl⟩
      ·refine au 0 ?_;exact absurd ex_lk hb0
      ·refine au 0 ?_;refine TK.nd fun hnd=>?_;have hl3:l3≠l2:=fun h=>by subst h; simp [keys] at hnd
       refine au 6804235170661 ?_;refine bD Z Z Z Z (yZ hT (b:=lookB exB ⟨3,true⟩) (s:=l3) (e:=l2) hl3 ex_n4 ex_l4) ?_;rintro r79 K80 ⟨rfl,rfl⟩;refine au 0 ?_;rw [zmA];refine au 2355661 ?_;refine bC [(j1,_),(0,_),(1,_),(s,_),(e,_),(jg,_)] ?_;refine au 4206804 ?_;refine bD Z Z Z Z (zlA hT (b:=exB) (s:=s) (e:=e) (x:=exX) hse ex_n1 ex_l1 dQ) ?_;rintro r82 K83 h84;rcases h84 with ⟨hb0,rfl,rfl⟩ | ⟨hb0,h3,h2,rfl,rfl⟩
       ·refine au 0 ?_;exact absurd ex_hr hb0
       ·refine au 0 ?_;refine TK.nd fun hnd=>?_;have hh3:h3≠h2:=fun h=>by subst h; simp [keys] at hnd
        refine au 6804235170661 ?_;refine bD Z Z Z Z (yZ hT (b:=zQ exB exX) (s:=h3) (e:=h2) hh3 ex_n5 ex_l5) ?_;rintro r85 K86 ⟨rfl,rfl⟩;refine au 0 ?_;rw [zmz];refine au 212019032507112507112503001125071125071125071125071125071125071125071125071125071125071125071125071125071125071125071171422355661 ?_;refine bC [(j1,_),(0,_),(1,_),(s,_),(e,_)] ?_;refine au 4 ?_;refine bD Z Z Z Z (zgW hT) ?_;rintro r88 K89 ⟨rfl,rfl⟩;refine au 680423170670 ?_;refine bD Z Z Z Z (yZ hT (b:=exB2) (s:=s) (e:=e) hse ex_n2 ex_l2) ?_;rintro r91 K92 ⟨rfl,rfl⟩;refine au 0 ?_;rw [zmu];refine au 68042355661 ?_;refine bD Z Z Z Z (zd7 hT (b:=exB2) (s:=s) (e:=e) hse ex_n2 ex_l2) ?_;rintro r94 K95 h96;rcases h96 with ⟨hc0,rfl,rfl⟩ | ⟨hc0,hg0,rfl,rfl⟩ | ⟨hc0,hg0,jl2,rfl,rfl⟩
        ·refine au 0 ?_;exact absurd ziu hc0
        ·refine au 0 ?_;exact absurd hg0 ex2_g
        ·refine au 0 ?_;rw [zmt];refine au 680423555566661 ?_;refine bD Z Z Z Z (ze4 hT (b:=exB2) (s:=s) (e:=e) hse ex_n2 ex_l2) ?_;rintro r97 K98 h99;rcases h99 with ⟨hc0,rfl,rfl⟩ | ⟨hc0,hg0,rfl,rfl⟩ | ⟨hc0,hg0,jk2,rfl,rfl⟩
         ·refine au 0 ?_;exact absurd ziu hc0
         ·refine au 112607112607112607117142355661 ?_;refine bI Z Z Z (zG (l:=[_,_]) Z SlEl.h TyZ.h dQ dQ Z) (fun _=>zy rfl tQ) fun jd4 hjd4=>?_;refine bD Z Z Z Z (vn (uJ hT [1,6] (j:=jl2) (j2:=jd4) (fun h=>hjd4 (by subst h; simp [keys])) (yp [1,6] 3 false) (yp [1,6] 3 false) dQ)) ?_;rintro r100 K101 ⟨rfl,rfl⟩;refine au 3526072801126011260711260 ?_;refine bB hret [(0,_),(1,_)] ?_;exact ⟨rfl,rfl⟩
         ·refine au 0 ?_;rw [ex2_t] at hg0; cases hg0
def wrongB (b:Bk) (w:Int):Bk:={ b with wrong:=w }
theorem zmh {b:Bk} (k:Int):whoM b k = -1\/∃ q:Nat,whoM b k=q/\q<b.seekers.length:=by
 unfold whoM;split
 ·exact .inl rfl
 ·rename_i h;have h1:=Int.emod_nonneg k (show (b.seekers.length:Int)≠0 from h);have h2:=Int.emod_lt_of_pos k (show 0<(b.seekers.length:Int) by omega);exact .inr ⟨(k % b.seekers.length).toNat,oQ,oQ⟩
instance:Cal tp 57:={}
instance:Cal tp 58:={}
theorem zhh (tame:Tame tp) {Ψ:Goroutine->World->Prop} {was now:Bk} {s1 e1 s2:Nat} {lo w wh:Int} (h:Less was now) (fw:checkM was=0) (fn:checkM now=0) (h1:s1≠e1) (h2:s2≠e1) (nw:∀ x∈was.seekers,x.name.size<=1000) (nn:∀ x∈now.seekers,x.name.size<=1000) (lw:was.seen.length<=1000) (ln:now.seen.length<=1000) (hlo:0<=lo/\lo<was.steps) (hw:1<=w/\w<=was.steps) (hwh:wh = -1\/∃ k:Nat,wh=k/\k<was.seekers.length/\k<now.seekers.length/\∀ S∈zb now,rightM now S k=rightM was S k) (eE:zo now=zo was):zg tp (BT tp Ψ) gmS 57 [.agg (zx was s1 e1),.agg (zx now s2 e1),intA lo,intA w,intA wh] [(0,zw),(1,zA),(s1,zn was),(s2,zn now),(e1,zo was)] (fun r K'=>r=zm true/\K'=[(0,zw),(1,zA),(s1,zn was),(s2,zn now),(e1,zo was)]):=by
 have hT:=kX tame Ψ;refine ze 218 hT Tryz.func57 fun Y hret=>?_;refine au 0 ?_;have hst:=h.okw.steps;have hsn:=h.steps;have w0:=(zgL fw).1.2 h.wne;have n0:=(zgL fn).1.2 h.ne;have hsw:=zar fw;have hsn1:=zar fn;have hlw:zE was lo=true:=by unfold zE; simp only [mX,decide_eq_true_eq]; omega
 have hln:zE now lo=true:=by unfold zE; simp only [mX,decide_eq_true_eq]; omega
 have haw:=zij w0 hlw;have han:=zij n0 hln;have hmany:=h.many;have hcw:=zc8 fw w0 hlo hw;have hcn:=zc8 fn n0 (lo:=lo) (w:=w) oQ oQ;rw [hsn] at hcn;have hband:=h.within lo w;have hnw:=zcL w0;have hnn:=zcL n0;have hlcw:=zcz h.okw;have hlcn:=zcz h.okn;have hin:((countsM now).all fun x=>decide (x∈countsM was))=true:=List.all_eq_true.2 fun x hx=>decide_eq_true (h.counts hx);have n_s:=yZ hT (b:=now) h2 nn ln;rw [eE] at n_s;have n_a:=uM hT (n:=lo) (b:=now) h2 nn ln;rw [eE] at n_a;have n_c:=zaJ tame (Ψ:=Ψ) (b:=now) h2 nn ln;rw [eE] at n_c;have n_i:=wT hT (lo:=lo) (hi:=(lo+w - 1) % was.steps) (b:=now) h2 nn ln;rw [eE] at n_i;have n_n:=vu tame (Ψ:=Ψ) (b:=now) h2 nn ln;rw [eE] at n_n;have n_w:=kY hT (n:=wh) (b:=now) h2 nn ln;rw [eE] at n_w;refine au 21042 ?_;intro jw hjw;refine au 210 ?_;intro jn hjn;refine au 6804235 ?_;refine bD Z Z Z Z (yZ hT (b:=was) h1 nw lw) ?_;rintro r1 K2 ⟨rfl,rfl⟩;refine au 0 ?_;rw [hsw.1,hsw.2];refine au 68042355661 ?_;refine bD Z Z Z Z (n_s) ?_;rintro r4 K5 ⟨rfl,rfl⟩;refine au 0 ?_;rw [hsn1.1,hsn1.2];refine au 68042355661 ?_;refine bD Z Z Z Z (zaJ tame (b:=was) h1 nw lw) ?_;rintro r7 K8 h9;rcases h9 with ⟨hb0,rfl,rfl⟩ | ⟨hb0,j1,rfl,rfl⟩
 ·refine au 0 ?_;exact absurd w0 hb0
 ·refine au 68042355661 ?_;refine bD Z Z Z Z (n_c) ?_;rintro r10 K11 h12;rcases h12 with ⟨hb1,rfl,rfl⟩ | ⟨hb1,j2,rfl,rfl⟩
  ·refine au 0 ?_;exact absurd n0 hb1
  ·refine au 168042355661 ?_;refine bD Z Z Z Z (uM hT (n:=lo) (b:=was) h1 nw lw) ?_;rintro r13 K14 ⟨rfl,rfl⟩;refine au 0 ?_;rw [haw.1,haw.2];refine au 168042355661 ?_;refine bD Z Z Z Z (n_a) ?_;rintro r16 K17 ⟨rfl,rfl⟩;refine au 0 ?_;rw [han.1,han.2];refine au 22355661 ?_;refine TK.freezeR 17 Z uQ tQ ?_;refine TK.freezeR 15 Z uQ tQ ?_;refine TK.nd fun hnd=>?_;have hjj:j2≠j1:=fun h=>by subst h; simp [keys] at hnd
   refine au 1714 ?_;refine bF 66 (fun g7_3=>?_) (fun g7_3=>?_)
   ·simp at g7_3
   refine au 125071 ?_;refine bF 70 (fun g7_7=>?_) (fun g7_7=>?_)
   ·simp at g7_7
   refine au 125071 ?_;refine bF 74 (fun g7_11=>?_) (fun g7_11=>?_)
   ·simp at g7_11
   refine au 125071 ?_;refine bF 78 (fun g7_15=>?_) (fun g7_15=>?_)
   ·simp at g7_15
   refine au 125071 ?_;refine bF 82 (fun g7_19=>?_) (fun g7_19=>?_)
   ·simp at g7_19
   refine au 125071 ?_;refine bF 86 (fun g7_23=>?_) (fun g7_23=>?_)
   ·simp at g7_23
   refine au 11 ?_;refine bD Z Z Z Z (yF hT) ?_;rintro r19 K20 ⟨rfl,rfl⟩;refine au 1250300 ?_;refine bF 92 (fun g7_29=>?_) (fun g7_29=>?_)
   ·rw [decide_eq_true hmany.1,decide_eq_true hmany.2] at g7_29;simp at g7_29
   refine au 11 ?_;refine bD Z Z Z Z (zhE hT hjj (yp (countsM now) 3 false) (yp (countsM was) 3 false) oQ oQ) ?_;rintro r22 K23 ⟨rfl,rfl⟩;refine au 1250300 ?_;refine bF 98 (fun g7_35=>?_) (fun g7_35=>?_)
   ·rw [hin] at g7_35;simp at g7_35
   refine au 171 ?_;refine bF 101 (fun g7_38=>?_) (fun g7_38=>?_)
   ·refine au 93250260711 ?_;constructor<;>intro hc0
    ·rw [<- h.at_ lo (by simpa using g7_38)] at hc0;simp at hc0
    refine au 6906702402301142120 ?_;refine bH Z (q_rem Z Z Z oQ oQ) ?_;refine au 116804235 ?_;refine bD Z Z Z Z (wT hT (lo:=lo) (hi:=(lo+w - 1) % was.steps) (b:=was) h1 nw lw) ?_;rintro r25 K26 ⟨rfl,rfl⟩;refine au 0 ?_;rw [hcw.1,hcw.2];refine au 220661 ?_;intro jx hjx;refine au 116804235170 ?_;refine bD Z Z Z Z (n_i) ?_;rintro r28 K29 ⟨rfl,rfl⟩;refine au 0 ?_;rw [hcn.1,hcn.2];refine au 220661 ?_;intro jy hjy;refine au 6804235170 ?_;refine bD Z Z Z Z (vu tame (b:=was) h1 nw lw) ?_;rintro r31 K32 ⟨rfl,rfl⟩;refine au 0 ?_;rw [hnw.1,hnw.2.1];refine au 680423555566661 ?_;refine bD Z Z Z Z (n_n) ?_;rintro r34 K35 ⟨rfl,rfl⟩;refine au 0 ?_;rw [hnn.1,hnn.2.1];refine au 1714223555566661 ?_;refine bF 144 (fun g14_3=>?_) (fun g14_3=>?_)
    ·simp at g14_3
    refine au 125071 ?_;refine bF 148 (fun g14_7=>?_) (fun g14_7=>?_)
    ·simp at g14_7
    refine au 125071 ?_;refine bF 152 (fun g14_11=>?_) (fun g14_11=>?_)
    ·simp at g14_11
    refine au 125071 ?_;refine bF 156 (fun g14_15=>?_) (fun g14_15=>?_)
    ·simp at g14_15
    refine au 12507690670690670 ?_;refine bF 163 (fun g14_22=>?_) (fun g14_22=>?_)
    ·have:=of_decide_eq_true g14_22;omega
    refine au 12507690670690670 ?_;refine bF 170 (fun g14_29=>?_) (fun g14_29=>?_)
    ·have:=of_decide_eq_true g14_29;omega
    refine au 12507690670690670 ?_;refine bF 177 (fun g14_36=>?_) (fun g14_36=>?_)
    ·have:=of_decide_eq_true g14_36;omega
    refine au 11 ?_;refine bF 179 (fun g14_38=>?_) (fun g14_38=>?_)
    ·have ha:=h.arcs (of_decide_eq_true g14_38);have hfw:=hnw.2.2 (of_decide_eq_true g14_38);have hfn:=hnn.2.2 ha.1;refine au 13001 ?_;refine bF 182 (fun g14_41=>?_) (fun g14_41=>?_)
     ·rw [decide_eq_true ha.1] at g14_41;simp at g14_41
     refine au 93250260250711 ?_;constructor<;>intro hc1
     ·rw [hfw,hfn] at hc1;have:=of_decide_eq_true hc1;omega
     refine au 9371422120 ?_;constructor<;>intro hc2
     ·refine au 3542 ?_;refine bB hret [(0,_),(1,_),(s1,_),(s2,_),(e1,_)] ?_;exact ⟨rfl,rfl⟩
     obtain ⟨k,rfl,hk1,hk2,hkr⟩:=hwh.resolve_left (fun h=>by have:=of_decide_eq_false hc2; omega);have hww:=kM w0 hk1;have hwn:=kM n0 hk2;refine au 168042120 ?_;refine bD Z Z Z Z (kY hT (n:=(k:Int)) (b:=was) h1 nw lw) ?_;rintro r37 K38 ⟨rfl,rfl⟩;refine au 0 ?_;rw [hww.1,hww.2];refine au 168042355661 ?_;refine bD Z Z Z Z (n_w) ?_;rintro r40 K41 ⟨rfl,rfl⟩;refine au 0 ?_;rw [hwn.1,hwn.2];refine au 17142355661 ?_;refine bF 205 (fun g20_3=>?_) (fun g20_3=>?_)
     ·refine au 126071 ?_;refine bF 209 (fun g20_7=>?_) (fun g20_7=>?_)
      ·refine au 171 ?_;refine bF 212 (fun g20_10=>?_) (fun g20_10=>?_)
       ·refine au 35260260888 ?_;refine bB hret [(0,_),(1,_),(s1,_),(s2,_),(e1,_)] ?_;exact ⟨rfl,rfl⟩
       refine au 35260250711 ?_;refine bB hret [(0,_),(1,_),(s1,_),(s2,_),(e1,_)] ?_;exact ⟨by rw [h.wrong k hkr (by simpa using g20_10),beq_self_eq_true]; rfl,rfl⟩
      simp at g20_7
     simp at g20_3
    refine au 937142212019032502508888888 ?_;constructor<;>intro hc2
    ·refine au 3542 ?_;refine bB hret [(0,_),(1,_),(s1,_),(s2,_),(e1,_)] ?_;exact ⟨rfl,rfl⟩
    obtain ⟨k,rfl,hk1,hk2,hkr⟩:=hwh.resolve_left (fun h=>by have:=of_decide_eq_false hc2; omega);have hww:=kM w0 hk1;have hwn:=kM n0 hk2;refine au 168042120 ?_;refine bD Z Z Z Z (kY hT (n:=(k:Int)) (b:=was) h1 nw lw) ?_;rintro r43 K44 ⟨rfl,rfl⟩;refine au 0 ?_;rw [hww.1,hww.2];refine au 168042355661 ?_;refine bD Z Z Z Z (n_w) ?_;rintro r46 K47 ⟨rfl,rfl⟩;refine au 0 ?_;rw [hwn.1,hwn.2];refine au 17142355661 ?_;refine bF 205 (fun g20_3=>?_) (fun g20_3=>?_)
    ·refine au 126071 ?_;refine bF 209 (fun g20_7=>?_) (fun g20_7=>?_)
     ·refine au 171 ?_;refine bF 212 (fun g20_10=>?_) (fun g20_10=>?_)
      ·refine au 35260260888 ?_;refine bB hret [(0,_),(1,_),(s1,_),(s2,_),(e1,_)] ?_;exact ⟨rfl,rfl⟩
      refine au 35260250711 ?_;refine bB hret [(0,_),(1,_),(s1,_),(s2,_),(e1,_)] ?_;exact ⟨by rw [h.wrong k hkr (by simpa using g20_10),beq_self_eq_true]; rfl,rfl⟩
     simp at g20_7
    simp at g20_3
   refine au 69067024023011421201903250250888 ?_;refine bH Z (q_rem Z Z Z oQ oQ) ?_;refine au 116804235 ?_;refine bD Z Z Z Z (wT hT (lo:=lo) (hi:=(lo+w - 1) % was.steps) (b:=was) h1 nw lw) ?_;rintro r49 K50 ⟨rfl,rfl⟩;refine au 0 ?_;rw [hcw.1,hcw.2];refine au 220661 ?_;intro jx hjx;refine au 116804235170 ?_;refine bD Z Z Z Z (n_i) ?_;rintro r52 K53 ⟨rfl,rfl⟩;refine au 0 ?_;rw [hcn.1,hcn.2];refine au 220661 ?_;intro jy hjy;refine au 6804235170 ?_;refine bD Z Z Z Z (vu tame (b:=was) h1 nw lw) ?_;rintro r55 K56 ⟨rfl,rfl⟩;refine au 0 ?_;rw [hnw.1,hnw.2.1];refine au 680423555566661 ?_;refine bD Z Z Z Z (n_n) ?_;rintro r58 K59 ⟨rfl,rfl⟩;refine au 0 ?_;rw [hnn.1,hnn.2.1];refine au 1714223555566661 ?_;refine bF 144 (fun g14_3=>?_) (fun g14_3=>?_)
   ·simp at g14_3
   refine au 125071 ?_;refine bF 148 (fun g14_7=>?_) (fun g14_7=>?_)
   ·simp at g14_7
   refine au 125071 ?_;refine bF 152 (fun g14_11=>?_) (fun g14_11=>?_)
   ·simp at g14_11
   refine au 125071 ?_;refine bF 156 (fun g14_15=>?_) (fun g14_15=>?_)
   ·simp at g14_15
   refine au 12507690670690670 ?_;refine bF 163 (fun g14_22=>?_) (fun g14_22=>?_)
   ·have:=of_decide_eq_true g14_22;omega
   refine au 12507690670690670 ?_;refine bF 170 (fun g14_29=>?_) (fun g14_29=>?_)
   ·have:=of_decide_eq_true g14_29;omega
   refine au 12507690670690670 ?_;refine bF 177 (fun g14_36=>?_) (fun g14_36=>?_)
   ·have:=of_decide_eq_true g14_36;omega
   refine au 11 ?_;refine bF 179 (fun g14_38=>?_) (fun g14_38=>?_)
   ·have ha:=h.arcs (of_decide_eq_true g14_38);have hfw:=hnw.2.2 (of_decide_eq_true g14_38);have hfn:=hnn.2.2 ha.1;refine au 13001 ?_;refine bF 182 (fun g14_41=>?_) (fun g14_41=>?_)
    ·rw [decide_eq_true ha.1] at g14_41;simp at g14_41
    refine au 93250260250711 ?_;constructor<;>intro hc1
    ·rw [hfw,hfn] at hc1;have:=of_decide_eq_true hc1;omega
    refine au 9371422120 ?_;constructor<;>intro hc2
    ·refine au 3542 ?_;refine bB hret [(0,_),(1,_),(s1,_),(s2,_),(e1,_)] ?_;exact ⟨rfl,rfl⟩
    obtain ⟨k,rfl,hk1,hk2,hkr⟩:=hwh.resolve_left (fun h=>by have:=of_decide_eq_false hc2; omega);have hww:=kM w0 hk1;have hwn:=kM n0 hk2;refine au 168042120 ?_;refine bD Z Z Z Z (kY hT (n:=(k:Int)) (b:=was) h1 nw lw) ?_;rintro r61 K62 ⟨rfl,rfl⟩;refine au 0 ?_;rw [hww.1,hww.2];refine au 168042355661 ?_;refine bD Z Z Z Z (n_w) ?_;rintro r64 K65 ⟨rfl,rfl⟩;refine au 0 ?_;rw [hwn.1,hwn.2];refine au 17142355661 ?_;refine bF 205 (fun g20_3=>?_) (fun g20_3=>?_)
    ·refine au 126071 ?_;refine bF 209 (fun g20_7=>?_) (fun g20_7=>?_)
     ·refine au 171 ?_;refine bF 212 (fun g20_10=>?_) (fun g20_10=>?_)
      ·refine au 35260260888 ?_;refine bB hret [(0,_),(1,_),(s1,_),(s2,_),(e1,_)] ?_;exact ⟨rfl,rfl⟩
      refine au 35260250711 ?_;refine bB hret [(0,_),(1,_),(s1,_),(s2,_),(e1,_)] ?_;exact ⟨by rw [h.wrong k hkr (by simpa using g20_10),beq_self_eq_true]; rfl,rfl⟩
     simp at g20_7
    simp at g20_3
   refine au 937142212019032502508888888 ?_;constructor<;>intro hc2
   ·refine au 3542 ?_;refine bB hret [(0,_),(1,_),(s1,_),(s2,_),(e1,_)] ?_;exact ⟨rfl,rfl⟩
   obtain ⟨k,rfl,hk1,hk2,hkr⟩:=hwh.resolve_left (fun h=>by have:=of_decide_eq_false hc2; omega);have hww:=kM w0 hk1;have hwn:=kM n0 hk2;refine au 168042120 ?_;refine bD Z Z Z Z (kY hT (n:=(k:Int)) (b:=was) h1 nw lw) ?_;rintro r67 K68 ⟨rfl,rfl⟩;refine au 0 ?_;rw [hww.1,hww.2];refine au 168042355661 ?_;refine bD Z Z Z Z (n_w) ?_;rintro r70 K71 ⟨rfl,rfl⟩;refine au 0 ?_;rw [hwn.1,hwn.2];refine au 17142355661 ?_;refine bF 205 (fun g20_3=>?_) (fun g20_3=>?_)
   ·refine au 126071 ?_;refine bF 209 (fun g20_7=>?_) (fun g20_7=>?_)
    ·refine au 171 ?_;refine bF 212 (fun g20_10=>?_) (fun g20_10=>?_)
     ·refine au 35260260888 ?_;refine bB hret [(0,_),(1,_),(s1,_),(s2,_),(e1,_)] ?_;exact ⟨rfl,rfl⟩
     refine au 35260250711 ?_;refine bB hret [(0,_),(1,_),(s1,_),(s2,_),(e1,_)] ?_;exact ⟨by rw [h.wrong k hkr (by simpa using g20_10),beq_self_eq_true]; rfl,rfl⟩
    simp at g20_7
   simp at g20_3
instance:Cal tp 88:={}
instance:Cal tp 91:={}
def glassX (xs:List Int) (x:Says):Says:={ x with glass:=x.glass||decide (x.frm∈xs) }
def glassL (b:Bk) (xs:List Int):Bk:={ b with seekers:=b.seekers.map (glassX xs) }
def zBk:List AV:=[intA 0,intA 0,intA 0,intA 0,.v (.slice none 0 0),.v (.slice none 0 0)]
def skX (nm:ByteArray) (lo hi:Int):Says:=⟨nm,lo,hi,0,true⟩
theorem zdc {a n:Int} (h0:0<=a) (h1:a<n):(a+n) % n=a:=by rw [Int.add_emod_right,Int.emod_eq_of_lt h0 h1]
theorem zfn (b:Bk) (x:Says):(zQ b x).seekers[b.seekers.length]? =some x:=by
 show (b.seekers++[x])[b.seekers.length]? =some x;rw [lO (mL _),Nat.sub_self];rfl
theorem za4 {b:Bk} {nm:ByteArray} {lo hi:Int} {S:List Int} (h0:0<=lo) (h1:lo<=hi) (h2:hi<b.steps) (hm:∀ x∈S,0<=x/\x<b.steps):rightM (zQ b (skX nm lo hi)) S b.seekers.length=true↔∃ x∈S,lo<=x/\x<=hi:=by
 have e1:wideM (zQ b (skX nm lo hi)) (skX nm lo hi)=hi - lo+1:=by
  show (hi - lo+b.steps) % b.steps+1=_;rw [zdc oQ oQ]
 have e2:rightM (zQ b (skX nm lo hi)) S b.seekers.length=decide (inM (zQ b (skX nm lo hi)) S lo (hi - lo+1)>0):=by
  unfold rightM;rw [zfn];show saysM 0 (inM (zQ b (skX nm lo hi)) S lo (wideM (zQ b (skX nm lo hi)) (skX nm lo hi)))=_;rw [e1];rfl
 rw [e2,decide_eq_true_eq];unfold inM;show ((S.filter fun x=>decide ((x - lo+b.steps) % b.steps<hi - lo+1)).length:Int)>0↔_;constructor
 ·intro h;obtain ⟨x,hx⟩:=List.exists_mem_of_length_pos (l:=S.filter fun x=>decide ((x - lo+b.steps) % b.steps<hi - lo+1)) oQ;obtain ⟨hx1,hx2⟩:=List.mem_filter.1 hx;have hb:=hm x hx1;have hx2:=of_decide_eq_true hx2;by_cases hc:lo<=x
  ·rw [zdc oQ oQ] at hx2;exact ⟨x,hx1,hc,oQ⟩
  ·rw [Int.emod_eq_of_lt oQ oQ] at hx2;omega
 ·rintro ⟨x,hx,h3,h4⟩;have hb:=hm x hx;have:x∈S.filter fun x=>decide ((x - lo+b.steps) % b.steps<hi - lo+1):=List.mem_filter.2 ⟨hx,decide_eq_true (by rw [zdc oQ oQ]; omega)⟩;have:=List.length_pos_of_mem this;omega
section
variable {b:Bk} {nm:ByteArray} {lo hi lo2 hi2:Int}
theorem zbL (h0:0<=lo) (h1:lo<=lo2) (h2:lo2<=hi2) (h3:hi2<=hi) (h4:hi<b.steps) (fn:checkM (zQ b (skX nm lo2 hi2))=0) {S:List Int} (hS:S∈zb (zQ b (skX nm lo2 hi2))) (k:Nat):rightM (zQ b (skX nm lo2 hi2)) S k=rightM (zQ b (skX nm lo hi)) S k:=by
 have hn:=yo fn;obtain ⟨h5,h6⟩:=(wO hn S).1 hS;have hm:∀ x∈S,0<=x/\x<b.steps:=((za2 hn (zgT fn) S).1 h5).2.1;rcases Nat.lt_trichotomy k b.seekers.length with hk | hk | hk
 ·rw [zcW hk,zcW hk]
 ·subst hk;have hr:rightM (zQ b (skX nm lo2 hi2)) S b.seekers.length=true:=by
   unfold canM at h6;simp only [mX,mV] at h6;have h7:=h6.1.1;unfold badM at h7;rw [List.any_eq_false] at h7;have h8:=h7 b.seekers.length (List.mem_range.2 (by show _<(b.seekers++[_]).length; simp));have hg:glassM (zQ b (skX nm lo2 hi2)) b.seekers.length=true:=by unfold glassM; rw [zfn]; rfl
   rw [hg] at h8;simpa using h8
  rw [hr];obtain ⟨x,hx,h7,h8⟩:=(za4 oQ h2 oQ hm).1 hr;exact ((za4 h0 oQ h4 hm).2 ⟨x,hx,oQ,oQ⟩).symm
 ·have hz:∀ x:Says,rightM (zQ b x) S k=false:=fun x=>by
   unfold rightM;rw [lU (by show (b.seekers++[x]).length<=k; simp; omega)]
  rw [hz,hz]
theorem zgv (h0:0<=lo) (h1:lo<=lo2) (h2:lo2<=hi2) (h3:hi2<=hi) (h4:hi<b.steps) (fw:checkM (zQ b (skX nm lo hi))=0) (fn:checkM (zQ b (skX nm lo2 hi2))=0) (hne:zb (zQ b (skX nm lo2 hi2))≠[]):Less (zQ b (skX nm lo hi)) (zQ b (skX nm lo2 hi2)):=by
 have hw:=yo fw;have hn:=yo fn;refine ⟨hw,hn,rfl,fun S hS=>?_,hne⟩;have hr:=zbL (nm:=nm) h0 h1 h2 h3 h4 fn hS;rw [wO hn] at hS;rw [wO hw];refine ⟨hS.1,?_⟩;have h6:=hS.2;have hl:(zQ b (skX nm lo hi)).seekers.length=(zQ b (skX nm lo2 hi2)).seekers.length:=by show (b.seekers++[_]).length=(b.seekers++[_]).length; simp
 have hg:∀ k,glassM (zQ b (skX nm lo hi)) k=glassM (zQ b (skX nm lo2 hi2)) k:=fun k=>by
  unfold glassM;show (match (b.seekers++[_])[k]? with | some x=>x.glass | none=>false)=(match (b.seekers++[_])[k]? with | some x=>x.glass | none=>false);rcases Nat.lt_trichotomy k b.seekers.length with hk | hk | hk
  ·rw [lG hk,lG hk]
  ·subst hk;rw [lO (mL _),lO (mL _),Nat.sub_self];rfl
  ·rw [lU (by simp; omega),lU (by simp; omega)]
 have e1:badM (zQ b (skX nm lo hi)) S (zQ b (skX nm lo hi)).seekers.length=badM (zQ b (skX nm lo2 hi2)) S (zQ b (skX nm lo2 hi2)).seekers.length:=by
  rw [hl];unfold badM;congr 1;funext k;rw [hr k,hg k]
 have e2:wrongL (zQ b (skX nm lo hi)) S (zQ b (skX nm lo hi)).seekers.length=wrongL (zQ b (skX nm lo2 hi2)) S (zQ b (skX nm lo2 hi2)).seekers.length:=by
  rw [hl];unfold wrongL;congr 2;funext k;rw [hr k]
 unfold canM at h6 ⊢;rw [e1,e2];exact h6
end
def fst0 (l:List Int):Int:=l.getD 0 0
def lst0 (l:List Int):Int:=l.getD (l.length - 1) 0
theorem ziM {ob:AObj} {l:List Int} (h:IntsAt ob 0 l) (hl:l≠[]):zZ ob (0+(0:Int).toNat*1) 1=some [intA (fst0 l)]:=by
 have hp:=List.length_pos_iff.2 hl;have:=h 0 hp;unfold fst0;rw [lE,lA hp];exact this
theorem ziN {ob:AObj} {l:List Int} (h:IntsAt ob 0 l) (hl:l≠[]) {n:Int} (hn:n=(l.length:Int) - 1):zZ ob (0+n.toNat*1) 1=some [intA (lst0 l)]:=by
 have hp:=List.length_pos_iff.2 hl;have h2:=h (l.length - 1) oQ;unfold lst0;rw [lE,lA (show l.length - 1<l.length by omega)];rw [show n.toNat=(((l.length - 1:Nat):Int)).toNat by omega];exact h2
def spanOk (b:Bk) (l:List Int):Prop:=l≠[]/\0<=fst0 l/\lst0 l<b.steps
theorem zbX {l:List Int} (h:l.Pairwise (· < ·)):∀ x∈l,fst0 l<=x/\x<=lst0 l:=fun x hx=>by
 obtain ⟨i,hi,rfl⟩:=List.getElem_of_mem hx;unfold fst0 lst0;rw [lE,lE,lA (show 0<l.length by omega),lA (show l.length - 1<l.length by omega)];simp only [Option.getD_some];have hp:=List.pairwise_iff_getElem.1 h;constructor
 ·rcases mP i with e | e
  ·subst e; exact Int.le_refl _
  ·exact Int.le_of_lt (hp 0 i oQ hi e)
 ·by_cases e:i=l.length - 1
  ·subst e; exact Int.le_refl _
  ·exact Int.le_of_lt (hp i (l.length - 1) hi oQ oQ)
theorem zb2 {l:List Int} (h:l≠[]):fst0 l∈l/\lst0 l∈l:=by
 have hp:=List.length_pos_iff.2 h;unfold fst0 lst0;rw [lE,lE,lA hp,lA (show l.length - 1<l.length by omega)];exact ⟨List.getElem_mem _,List.getElem_mem _⟩
def sknm:ByteArray:=⟨#[115,107,101,116,99,104,101,114]⟩
instance:Cal tp 81:={}
theorem zdy {main T} (hT:zh tp main T) {gm} {b:Bk} {s e j:Nat} {ob:AObj} {l:List Int} (hI:IntsAt ob 0 l) (hl:l.length<=100000) (hl2:b.seekers.length<=1000) :
  zg tp T gm 22 [.agg (zx b s e),.sl j 0 l.length] [(s,zn b),(e,zo b),(j,ob)] (fun r K'=>(¬ spanOk b l/\r=.tup [.agg zBk,zm false]/\K'=[(s,zn b),(e,zo b),(j,ob)])\/(spanOk b l/\∃ s2,r=.tup [.agg (zx (zQ b (skX sknm (fst0 l) (lst0 l))) s2 e),zm true]/\K'=[(s,zn b),(e,zo b),(j,ob),(s2,zn (zQ b (skX sknm (fst0 l) (lst0 l))))])):=by
 refine ze 39 hT Tryz.func22 fun Y hret=>?_;refine au 21042 ?_;intro jb hjb;refine au 220 ?_;intro jr hjr;refine au 2235 ?_;refine bL [0,1,2,3,4,5,6,7,8,9,10,11,12,13,14,15,16,17,18,19] ?_;refine ad [[1,1]] ?_;refine bU [6] Z (q_len Z Z Z Und.h) ?_;refine ad [[4,7],[1,8]] ?_;refine TD.sp 9 (fun g1_4=>?_) (fun g1_4=>?_)
 ·have hle:l=[]:=by simp at g1_4; first | exact g1_4 | exact lK oQ
  refine ad [[11,1,9],[11,9,10],[11,9,11],[11,9,12],[7,9,13],[1,14],[11,1,15],[11,1,15],[11,15,17],[11,15,18],[11,15,16,19],[11,15,20],[11,2,15],[11,15,22],[11,15,21,23],[7,15,24],[14]] ?_;refine au 3517043042180 ?_;refine bB hret [(s,_),(e,_),(j,_)] ?_;exact .inl ⟨fun h=>h.1 hle,rfl,rfl⟩
 have hne:l≠[]:=fun h=>by subst h; simp at g1_4
 have hlp:=List.length_pos_iff.2 hne;refine ad [[1,1,9],[2,9,10]] ?_;refine TD.y [9,11] Z (hq:=zp Z Z zd.h (mC _) (ziM hI hne)) (h:=?_);refine ad [[4,9,12],[6,9,13],[1,14]] ?_;refine TD.sp 15 (fun g1_10=>?_) (fun g1_10=>?_)
 ·refine ad [[11,1,15],[11,1,15],[11,15,17],[11,15,18],[11,15,16,19],[11,15,20],[11,2,15],[11,15,22],[11,15,21,23],[7,15,24],[14]] ?_;refine au 3517043042180 ?_;refine bB hret [(s,_),(e,_),(j,_)] ?_;exact .inl ⟨fun h=>by have:=h.2.1; simp at g1_10; omega,rfl,rfl⟩
 refine ad [[1,1,15],[1,1,15]] ?_;refine bU [15,17] Z (q_len Z Z Z Und.h) ?_;refine ad [[9,15,18],[2,15,16,19]] ?_;refine TD.y [15,20] Z (hq:=zp Z Z zd.h (mC _) (ziN hI hne Z)) (h:=?_);refine ad [[3,2,15],[10,15,22],[4,15,21,23],[6,15,24],[14]] ?_;refine au 9 ?_;constructor<;>intro hc0
 ·refine au 3517043042 ?_;refine bB hret [(s,_),(e,_),(j,_)] ?_;exact .inl ⟨fun h=>by have:=h.2.2; simp at hc0; omega,rfl,rfl⟩
 have hok:spanOk b l:=⟨hne,by simp at g1_10; omega,by simp at hc0; omega⟩;refine au 2120 ?_;refine bL [0,1,2,3,4,5,6,7,8,9,10,11,12,13] ?_;refine ad [[12,2],[1,1],[2,28]] ?_;refine TD.y [29] Z (hq:=zp Z Z zd.h (mC _) (ziM hI hne)) (h:=?_);refine ad [[1,1],[1,1]] ?_;refine bU [32] Z (q_len Z Z Z Und.h) ?_;refine ad [[9,33],[2,31,34]] ?_;refine TD.y [35] Z (hq:=zp Z Z zd.h (mC _) (ziN hI hne Z)) (h:=?_);refine bU [30,36] Z (y5 (l:=[_,_,_,_,_]) Z TyZ.h BlOf.h Z) ?_;refine bQ (pend':=[⟨9,[35],[(_,_)]⟩,⟨8,[31,34],[]⟩,⟨7,[33],[]⟩,⟨6,[32],[]⟩,⟨5,[1],[]⟩,⟨4,[1],[]⟩,⟨3,[29],[(_,_)]⟩,⟨2,[28],[]⟩,⟨1,[1],[]⟩]) [27,37] Z Z Z Z Z (ziI hT (b:=b) (s:=s) (e:=e) (x:=skX sknm (fst0 l) (lst0 l)) hl2) (fun r1 K2 h3=>⟨?_,?_⟩)
 ·rcases h3 with ⟨s2,rfl,rfl⟩
  all_goals simp
 obtain ⟨s2,rfl,rfl⟩:=h3;try simp only [cA]
 refine bS tQ ?_;refine bR (pend':=[]) [4,38] Z Z (zt Z Z zd.h Z Z mQ Z) ?_;refine ad [[13],[14]] ?_;refine au 0 ?_;refine bB hret [(s,_),(e,_),(j,_),(s2,_)] ?_;exact .inr ⟨hok,s2,rfl,rfl⟩
theorem ziz (tame:Tame tp) {Ψ:Goroutine->World->Prop} {was now:Bk} {s1 s2 e:Nat} {k3 k4 k5:Int} (h1:s1≠e) (h2:s2≠e) (hst:now.steps=was.steps) (hle:now.seekers.length=was.seekers.length) (eE:zo now=zo was) (hL:checkM was=0->checkM now=0->zb now≠[]->Less was now) (hR:checkM was=0->checkM now=0->∀ S∈zb now,∀ k,rightM now S k=rightM was S k) (nw:∀ x∈was.seekers,x.name.size<=1000) (nn:∀ x∈now.seekers,x.name.size<=1000) (lw:was.seen.length<=1000) (ln:now.seen.length<=1000) (ls:was.seekers.length<=1000) (hk3:0<=k3/\k3<256) (hk4:0<=k4/\k4<256) (hk5:0<=k5/\k5<256):zg tp (BT tp Ψ) gmS 13 [.agg (zx was s1 e),.agg (zx now s2 e),.v (.int .u8 k3),.v (.int .u8 k4),.v (.int .u8 k5)] [(0,zw),(1,zA),(s1,zn was),(s2,zn now),(e,zo was)] (fun r K'=>r=zm true/\K'=[(0,zw),(1,zA),(s1,zn was),(s2,zn now),(e,zo was)]):=by
 have hT:=kX tame Ψ;refine ze 51 hT Tryz.func13 fun Y hret=>?_;refine au 0 ?_;have n_c:=zaG hT (b:=now) (gm:=gmS) h2 nn ln oQ;rw [eE] at n_c;have n_s:=yZ hT (b:=now) h2 nn ln;rw [eE] at n_s;refine au 21042 ?_;intro jw hjw;refine au 210 ?_;intro jn hjn;refine au 68042235 ?_;refine bD Z Z Z Z (zaG hT (b:=was) h1 nw lw ls) ?_;rintro r1 K2 ⟨rfl,rfl⟩;refine au 17 ?_;refine bF 16 (fun g1_4=>?_) (fun g1_4=>?_)
 ·refine au 35421803260888 ?_;refine bB hret [(0,_),(1,_),(s1,_),(s2,_),(e,_)] ?_;exact ⟨rfl,rfl⟩
 have hwas:checkM was=0:=by simpa using g1_4
 refine au 680 ?_;refine bD Z Z Z Z (n_c) ?_;rintro r4 K5 ⟨rfl,rfl⟩;refine au 932507 ?_;refine ⟨fun hcc=>?_,fun hcc=>?_⟩
 ·refine au 3542 ?_;refine bB hret [(0,_),(1,_),(s1,_),(s2,_),(e,_)] ?_;exact ⟨rfl,rfl⟩
 have hnow:checkM now=0:=by simpa using hcc
 have hs2:=zar hnow;obtain ⟨u1,u2,u3,u4,u5,u6,u7⟩:=ko (b:=was) (by rw [((zaH was).1 hwas).1]; rfl);have m3:=Int.emod_nonneg k3 (show was.steps≠0 by omega);have m3':=Int.emod_lt_of_pos k3 (show 0<was.steps by omega);have m4:=Int.emod_nonneg k4 (show was.steps≠0 by omega);have m4':=Int.emod_lt_of_pos k4 (show 0<was.steps by omega);refine au 68042120 ?_;refine bD Z Z Z Z (n_s) ?_;rintro r7 K8 ⟨rfl,rfl⟩;refine au 0 ?_;rw [hs2.1,hs2.2];refine au 2355661 ?_;refine bL [0,1,2,3,4,5,6,7,8,9,10,11,12,13,14,15,16,17,18,19,20,21,22,23,24,25] ?_;refine ad [[1,12],[4,26],[1,27]] ?_;refine TD.sp 28 (fun g4_3=>?_) (fun g4_3=>?_)
 ·refine ad [[1,11,28],[4,28,29],[1,28,30]] ?_;refine TD.sp 31 (fun g4_6=>?_) (fun g4_6=>?_)
  ·refine ad [[11,5,31],[11,6,31],[11,2,31],[11,31,34],[11,5,31],[11,31,36],[11,31,35,37],[11,3,31],[11,31,39],[11,5,31],[11,31,41],[11,31,40,42],[11,31,43],[11,5,31],[11,4,31],[11,31,45,46],[11,31,32,33,38,44,47],[7,28,31,48],[7,28,49],[13,50],[14]] ?_;refine au 0 ?_;refine bB hret [(0,_),(1,_),(s1,_),(s2,_),(e,_)] ?_;exact ⟨rfl,rfl⟩
  have hne:zb now≠[]:=fun h=>by rw [h] at g4_6; cases g4_6
  refine ad [[12,5,31],[12,6,31],[1,2,31]] ?_;refine bU [31,34] Z (kH Z Z Und.h Und.h (km oQ)) ?_;refine ad [[3,5,31],[10,31,36]] ?_;refine bU [31,35,37] Z (q_rem Z Z Z oQ oQ) ?_;refine ad [[1,3,31]] ?_;refine bU [31,39] Z (kH Z Z Und.h Und.h (km oQ)) ?_;refine ad [[3,5,31],[10,31,41]] ?_;refine bU [31,40,42] Z (q_rem Z Z Z oQ oQ) ?_;refine ad [[8,31,43],[12,5,31],[1,4,31]] ?_;refine bQ (pend':=[⟨18,[31,43],[]⟩,⟨17,[31,40,42],[]⟩,⟨16,[31,41],[(_,_)]⟩,⟨15,[5,31],[]⟩,⟨14,[31,39],[]⟩,⟨13,[3,31],[]⟩,⟨12,[31,35,37],[]⟩,⟨11,[31,36],[(_,_)]⟩,⟨10,[5,31],[]⟩,⟨9,[31,34],[]⟩,⟨8,[2,31],[]⟩,⟨7,[6,31],[(_,_)]⟩,⟨6,[5,31],[(_,_)]⟩,⟨4,[28,29],[]⟩,⟨3,[11,28],[]⟩,⟨2,[27],[]⟩,⟨1,[26],[]⟩,⟨0,[12],[]⟩]) [31,45,46] Z Z Z Z Z (zm9 hT (b:=was) hk5 ls) (fun r10 K11 h12=>⟨?_,?_⟩)
  ·rcases h12 with ⟨rfl,rfl⟩
   all_goals simp
  obtain ⟨rfl,rfl⟩:=h12;try simp only [cA]
  refine bS tQ ?_;refine bQ (pend':=[⟨17,[31,40,42],[]⟩,⟨16,[31,41],[(_,_)]⟩,⟨15,[5,31],[]⟩,⟨14,[31,39],[]⟩,⟨13,[3,31],[]⟩,⟨11,[31,36],[(_,_)]⟩,⟨10,[5,31],[]⟩,⟨9,[31,34],[]⟩,⟨8,[2,31],[]⟩,⟨4,[28,29],[]⟩,⟨3,[11,28],[]⟩,⟨2,[27],[]⟩,⟨1,[26],[]⟩,⟨0,[12],[]⟩]) [31,32,33,38,44,47] Z Z Z Z Z (zhh tame (was:=was) (now:=now) (lo:=k3 % was.steps) (w:=1+k4 % was.steps) (wh:=whoM was k5) (hL hwas hnow hne) hwas hnow h1 h2 nw nn lw ln ⟨m3,m3'⟩ ⟨by omega,oQ⟩ ((zmh k5).imp id fun ⟨q,h3,h4⟩=>⟨q,h3,h4,oQ,fun S hS=>hR hwas hnow S hS q⟩) eE) (fun r13 K14 h15=>⟨?_,?_⟩)
  ·rcases h15 with ⟨rfl,rfl⟩
   all_goals simp
  obtain ⟨rfl,rfl⟩:=h15;try simp only [cA]
  refine bS tQ ?_;refine ad [[6,28,31,48],[7,28,49],[13,50],[14]] ?_;refine au 0 ?_;refine bB hret [(0,_),(1,_),(s1,_),(s2,_),(e,_)] ?_;exact ⟨rfl,rfl⟩
 simp at g4_3
theorem ziJ {main T} (hT:zh tp main T) {gm} {j off:Nat} {ob:AObj} {xs:List Int} {v:Int} (hI:IntsAt ob off xs) (hlx:xs.length<=100000)  :
  zg tp T gm 80 [.sl j off xs.length,intA v] [(j,ob)] (fun r K'=>r=zm (decide (v∈xs))/\K'=[(j,ob)]):=by
 refine ze 18 hT Tryz.func80 fun Y hret=>?_;refine au 130354223542 ?_;refine bA [0,1,5] ?_;refine bE (fun n env K=>∃ (i:Nat),n=xs.length - i/\i<=xs.length/\v∉xs.take i/\env=zJ 18 [(0,.sl j off xs.length),(1,intA v),(5,intA i)]/\K=[(j,ob)]) xs.length ⟨0,rfl,mN _,by simp,rfl,rfl⟩ fun n env K hI' hnext=>?_;obtain ⟨i,rfl,hi,hn,rfl,rfl⟩:=hI';refine au 93728011422 ?_;refine ⟨fun hc=>?_,fun hc=>?_⟩
 ·simp only [decide_eq_true_eq] at hc;have hil:i<xs.length:=by omega
  refine au 36011421302120 ?_;refine bH Z (zp Z Z zd.h mQ (hI i hil)) ?_;refine au 9371 ?_;constructor<;>intro hc1
  ·refine au 3542 ?_;refine bB hret [(j,_)] ?_;exact ⟨by rw [decide_eq_true (show v∈xs by have h:xs[i]=v:=(by simpa using hc1); rw [<- h]; exact List.getElem_mem hil)]; rfl,rfl⟩
  refine au 3523014140120 ?_;refine bA [0,1,5] ?_;exact hnext _ _ _ oQ ⟨i+1,rfl,oQ,vC hil hn (fun h=>by rw [h] at hc1; simp at hc1),rfl,rfl⟩
 simp only [decide_eq_false_iff_not] at hc;obtain rfl:i=xs.length:=by omega
 refine au 3542160 ?_;refine bB hret [(j,_)] ?_;exact ⟨by rw [decide_eq_false (by rwa [lW] at hn)]; rfl,rfl⟩
theorem zhF {main T} (hT:zh tp main T) {gm} {j off j2 off2:Nat} {ob ob2:AObj} {xs ys:List Int} (hjj:j≠j2) (hI:IntsAt ob off xs) (hI2:IntsAt ob2 off2 ys) (hlx:xs.length<=100000) (hly:ys.length<=100000) :
  zg tp T gm 21 [.sl j off xs.length,.sl j2 off2 ys.length] [(j,ob),(j2,ob2)] (fun r K'=>r=zm (xs.all fun x=>decide (x∈ys))/\K'=[(j,ob),(j2,ob2)]):=by
 refine ze 19 hT Tryz.func21 fun Y hret=>?_;refine au 130354223542 ?_;refine bA [0,1,5] ?_;refine bE (fun n env K=>∃ (i:Nat),n=xs.length - i/\i<=xs.length/\((xs.take i).all fun x=>decide (x∈ys))=true/\env=zJ 19 [(0,.sl j off xs.length),(1,.sl j2 off2 ys.length),(5,intA i)]/\K=[(j,ob),(j2,ob2)]) xs.length ⟨0,rfl,mN _,rfl,rfl,rfl⟩ fun n env K hI' hnext=>?_;obtain ⟨i,rfl,hi,hn,rfl,rfl⟩:=hI';refine au 93728011422 ?_;refine ⟨fun hc=>?_,fun hc=>?_⟩
 ·simp only [decide_eq_true_eq] at hc;have hil:i<xs.length:=by omega
  refine au 360111421302120 ?_;refine bH Z (zp Z Z zd.h mQ (hI i hil)) ?_;refine bD Z Z Z Z (ziJ hT hI2 hly) ?_;rintro r1 K2 ⟨rfl,rfl⟩;refine au 0 ?_;refine bN (List.Perm.swap _ _ _) ?_;refine au 93300 ?_;constructor<;>intro hc1
  ·refine au 3542 ?_;refine bB hret [(j,_),(j2,_)] ?_;exact ⟨by rw [show (xs.all fun x=>decide (x∈ys))=false from List.all_eq_false.2 ⟨xs[i],List.getElem_mem hil,by simpa using hc1⟩]; rfl,rfl⟩
  refine au 3523014140120 ?_;refine bA [0,1,5] ?_;refine bC [(j,_),(j2,_)] ?_;exact hnext _ _ _ oQ ⟨i+1,rfl,oQ,by rw [List.take_add_one,lA hil,List.all_append,hn]; simpa using hc1,rfl,rfl⟩
 simp only [decide_eq_false_iff_not] at hc;obtain rfl:i=xs.length:=by omega
 refine au 3542160 ?_;refine bB hret [(j,_),(j2,_)] ?_;exact ⟨by rw [show (xs.all fun x=>decide (x∈ys))=true by rwa [lW] at hn]; rfl,rfl⟩
theorem TK.shr {P:Program} {gm:Nat->Option Nat} {T:Goroutine->Hp->Prop} {Y:KX P gm T} {ds:List Nat} {k k':List Item} {env:List AV} {K:KV} {X:Type} {D:X->Prop} {E:X->List AV} {KK:X->KV} (main:(∀ x,D x->TK Y ds k' (E x) (KK x))->TK Y ds k env K) (tail:∀ x,D x->TK Y ds k' (E x) (KK x)):TK Y ds k env K:=main tail
theorem zkj {st wr:Int} {Y Zq:List (Nat×SkT)} {i j:Nat} {lo hi:Int} (h1:skB st wr Y=narrowT (skB st wr Zq) i lo hi):((fromsT (skB st wr Y) j).all fun x=>decide (x∈fromsT (skB st wr Zq) j))=true:=List.all_eq_true.2 fun x hx=>decide_eq_true (by
 obtain ⟨v,hv,e⟩:=zaN.1 hx;rw [h1] at hv;exact zaN.2 ⟨v,zct hv,e⟩)
theorem zca {b:StpB} {j:Nat} (h:allT b≠[]):fromsT b j≠[]:=fun e=>by
 obtain ⟨v,hv⟩:=List.exists_mem_of_ne_nil _ h;have:=(zaN (b:=b) (i:=j) (x:=v.fr.getD j 0)).2 ⟨v,hv,rfl⟩;rw [e] at this;cases this
instance:Cal tp 13:={}
instance:Cal tp 18:={}
instance:Cal tp 19:={}
instance:Cal tp 20:={}
instance:Cal tp 22:={}
instance:Cal tp 7:={}
instance:Cal tp 9:={}
theorem zdk {R:Value->World->Prop} {b:Bk} {s e:Nat} {st wr:Int} {g:Nat} {Zq:List (Nat×SkT)} {lo hi k3 k4 k5 k6 k7:Int} (hse:s≠e) (hk3:0<=k3/\k3<256) (hk4:0<=k4/\k4<256) (hk5:0<=k5/\k5<256) (hk6:0<=k6/\k6<256) (hk7:0<=k7/\k7<256) {A:List AObj} {φ:Nat->Loc3} {F H:Hp} {vs:Array Value} (hv:zP ((0,zw)::(1,zA)::(s,zn b)::(e,zo b)::(5,spChecksG)::(g,skO Zq)::mkK Zq) A) (hn0:(keys ((0,zw)::(1,zA)::(s,zn b)::(e,zo b)::(5,spChecksG)::(g,skO Zq)::mkK Zq)).Nodup) (hg:RelG gmS φ A.length) (hH:RelH φ A F H) (hargs:zT φ A.length [.agg (zx b s e),.agg (stpC st wr g Zq),.agg [intA lo,intA hi],.v (.int .u8 k3),.v (.int .u8 k4),.v (.int .u8 k5),.v (.int .u8 k6),.v (.int .u8 k7)] vs)
  (hR:∀ r K' φ' A' H' v w,(fun (r:AV) (K':KV)=>r=zm true) r K'->RelH φ' A' F H'->RelV φ' A'.length r v->z6 H' w->R v w):BT tp (AtRet tp 5 R) (G (Frame.enter tp 5 vs .normal) []) H:=by
 have hT:=kX tame (AtRet tp 5 R);refine zme 116 tame (Post:=fun (r:AV) (K':KV)=>r=zm true) Tryz.func5 hv hn0 hg hH hargs hR fun Y hret=>?_;refine au 21042 ?_;intro jb hjb;refine au 210 ?_;intro jq hjq;refine au 210 ?_;intro jx hjx;refine au 68042235 ?_;refine bD Z Z Z Z (zmC hT hse) ?_;rintro r1 K2 ⟨rfl,rfl⟩;refine au 1300 ?_;refine bF 31 (fun g1_4=>?_) (fun g1_4=>?_)
 ·refine au 421803260888 ?_;refine bD Z Z Z Z (kI tame) ?_;rintro r4 K5 ⟨rfl,rfl⟩;refine au 35 ?_;refine bB hret [] ?_;exact rfl
 have hf:=zmB (b:=b) (by simpa using g1_4);have hck:=hf.check;have hns:=(yo hck).ns;refine au 680 ?_;refine bD Z Z Z Z (zkf hT (st:=st) (wr:=wr) (g:=g) (Zq:=Zq)) ?_;rintro r7 K8 ⟨⟨z,rfl,hz⟩,rfl⟩;refine au 0 ?_;refine bN (lH (l₁:=(g,_)::mkK Zq)) ?_;simp only [cA];refine au 93250300 ?_;constructor<;>intro hc0
 ·refine au 42 ?_;refine bD Z Z Z Z (kI tame) ?_;rintro r10 K11 ⟨rfl,rfl⟩;refine au 35 ?_;refine bB hret [] ?_;exact rfl
 have hbk:=hz (by simpa using hc0);have hzn:=zN hbk;have m3:=Int.emod_nonneg k3 (show (Zq.length:Int)≠0 by omega);have m3':=Int.emod_lt_of_pos k3 (show 0<(Zq.length:Int) by omega);obtain ⟨i,hi0⟩:∃ n:Nat,k3 % (Zq.length:Int)=(n:Int):=⟨_,(Int.toNat_of_nonneg m3).symm⟩;have hil:i<Zq.length:=by omega
 have m4:=Int.emod_nonneg k4 (show (Zq.length:Int)≠0 by omega);have m4':=Int.emod_lt_of_pos k4 (show 0<(Zq.length:Int) by omega);obtain ⟨j,hj0⟩:∃ n:Nat,k4 % (Zq.length:Int)=(n:Int):=⟨_,(Int.toNat_of_nonneg m4).symm⟩;have hjl:j<Zq.length:=by omega
 refine au 2120 ?_;refine' TK.shr (X:=Nat×List (Nat×SkT)×Nat) (D:=fun x=>skB st wr x.2.1=narrowT (skB st wr Zq) i lo hi/\StpOk (skB st wr x.2.1)/\allT (skB st wr x.2.1)≠[]) (E:=fun x=>zJ 116 [(4,.v (.int .u8 k4)),(5,.v (.int .u8 k5)),(6,.v (.int .u8 k6)),(7,.v (.int .u8 k7)),(8,.ptr jb 0),(9,.ptr jq 0),(17,.ptr x.2.2 0)]) (KK:=fun x=>(x.2.2,.cells (stpC st wr x.1 x.2.1) 57 true)::(jb,.cells (zx b s e) 27 true)::(jq,.cells (stpC st wr g Zq) 57 true)::(0,zw)::(1,zA)::(s,zn b)::(e,zo b)::(5,spChecksG)::(x.1,skO x.2.1)::(mkK x.2.1++((g,skO Zq)::mkK Zq))) ?_ ?_;rotate_left
 ·intro H;refine bL [0,1,2,3,4,5,6,7,8,9,10,12,13,11,14] ?_;refine ad [[12,9],[1,3]] ?_;refine bU [39] Z (kH Z Z Und.h Und.h (km oQ)) ?_;refine ad [[3,9],[10,41]] ?_;refine bU [42] Z (q_len Z Z Z Und.h) ?_;refine bU [40,43] Z (q_rem Z Z Z oQ oQ) ?_;rw [hi0];refine ad [[12,10]] ?_;refine TD.c2 (i1:=8) (i2:=12) (pend1:=[⟨5,[42],[]⟩,⟨4,[41],[(_,_)]⟩,⟨3,[9],[]⟩,⟨2,[39],[]⟩,⟨1,[3],[]⟩]) (pend2:=[⟨7,[10],[(_,_)]⟩,⟨6,[40,43],[]⟩,⟨5,[42],[]⟩,⟨4,[41],[(_,_)]⟩,⟨3,[9],[]⟩,⟨2,[39],[]⟩,⟨1,[3],[]⟩,⟨0,[9],[(_,_)]⟩]) (L1:=[9,10,11,12,13,14]) (L2:=[8,9,10,11,13,14]) [38,44,45] [] Z Z Z Z Z Z Z ?_ ?_
  ·refine zaK Z Z Cal.h Z (zey hT (i:=i) (lo:=lo) (hi:=hi) hbk hil) (by repeat (first | exact Split.none _ | exact Split.all _ | (apply Split.rem; repeat (first | exact Rem.head | apply Rem.tail)) | apply Split.right)) fun r13 K14 h15=>⟨?_,?_⟩
   ·rcases h15 with ⟨n,hn,rfl⟩ | ⟨g2,Y2,rfl,h1,h2,h3,rfl⟩;all_goals simp
   rcases h15 with ⟨n,hn,rfl⟩ | ⟨g2,Y2,rfl,h1,h2,h3,rfl⟩
   ·try simp only [cA]
    refine bS (env':=[_,_,_,_,_,_,_,_,_,_,_,_,_,_,_,_,_,_,_,_,_,_,_,_,_,_,_,_,_,_,_,_,_,_,_,_,_,_,_,_,_,_,_,_,_,_,_,_,_,_,_,_,_,_,_,_,_,_,_,_,_,_,_,_,_,_,_,_,_,_,_,_,_,_,_,_,_,_,_,_,_,_,_,_,_,_,_,_,_,_,_,_,_,_,_,_,_,_,_,_,_,_,_,_,_,_,_,_,_,_,_,_,_,_,_,_]) Z ?_;refine TD.perm lH ?_;simp only [cA];refine ad [[1,46],[5,37],[5,37]] ?_;refine TD.cnewP (pend':=[⟨11,[37],[]⟩,⟨10,[37],[]⟩,⟨9,[46],[]⟩,⟨5,[42],[]⟩,⟨4,[41],[(_,_)]⟩,⟨3,[9],[]⟩,⟨2,[39],[]⟩,⟨1,[3],[]⟩]) [] Z Z Z Z Z (zU Z TyZA.h) (fun _=>zy rfl tQ) sQ fun jo hjo=>?_;refine bR (pend':=[⟨11,[37],[]⟩]) [17,47] Z Z (zt Z Z zd.h Z Z mQ Z) ?_;refine ad [[13,48],[14]] ?_;refine au 9371422 ?_;constructor<;>intro hc1
    ·skip;refine au 42 ?_;refine bD Z Z Z Z (kI tame) ?_;rintro r16 K17 ⟨rfl,rfl⟩;refine au 35 ?_;refine bB hret [] ?_;exact rfl
    exact absurd (by simpa using hc1) hn
   ·try simp only [cA]
    refine bS (env':=[_,_,_,_,_,_,_,_,_,_,_,_,_,_,_,_,_,_,_,_,_,_,_,_,_,_,_,_,_,_,_,_,_,_,_,_,_,_,_,_,_,_,_,_,_,_,_,_,_,_,_,_,_,_,_,_,_,_,_,_,_,_,_,_,_,_,_,_,_,_,_,_,_,_,_,_,_,_,_,_,_,_,_,_,_,_,_,_,_,_,_,_,_,_,_,_,_,_,_,_,_,_,_,_,_,_,_,_,_,_,_,_,_,_,_,_]) Z ?_;refine TD.perm (lH (l₁:=(5,_)::(g2,_)::(mkK Y2++((g,_)::mkK Zq)))) ?_;simp only [cA];refine ad [[1,46],[5,37],[5,37]] ?_;refine TD.cnewP (pend':=[⟨11,[37],[]⟩,⟨10,[37],[]⟩,⟨9,[46],[]⟩,⟨5,[42],[]⟩,⟨4,[41],[(_,_)]⟩,⟨3,[9],[]⟩,⟨2,[39],[]⟩,⟨1,[3],[]⟩]) [] Z Z Z Z Z (zU Z TyZA.h) (fun _=>zy rfl tQ) sQ fun jo hjo=>?_;refine bR (pend':=[⟨11,[37],[]⟩]) [17,47] Z Z (zt Z Z zd.h Z Z mQ Z) ?_;refine ad [[13,48],[14]] ?_;refine au 9371422 ?_;constructor<;>intro hc1
    ·exact absurd hc1 dQ
    refine bA [4,5,6,7,8,9,17] ?_;refine bC ((jo,_)::(jb,_)::(jq,_)::(0,_)::(1,_)::(s,_)::(e,_)::(5,_)::(g2,_)::(mkK Y2++((g,_)::mkK Zq))) ?_;exact H (g2,Y2,jo) ⟨h1,h2,h3⟩
  ·refine yr Z (zU Z TyZA.h) (fun _=>zy rfl tQ) sQ fun jo hjo=>?_;refine bQ (pend':=[⟨5,[42],[]⟩,⟨4,[41],[(_,_)]⟩,⟨3,[9],[]⟩,⟨2,[39],[]⟩,⟨1,[3],[]⟩]) [38,44,45] Z Z Z Z Z (zey hT (i:=i) (lo:=lo) (hi:=hi) hbk hil) (fun r52 K53 h54=>⟨?_,?_⟩)
   ·rcases h54 with ⟨n,hn,rfl⟩ | ⟨g2,Y2,rfl,h1,h2,h3,rfl⟩;all_goals simp
   rcases h54 with ⟨n,hn,rfl⟩ | ⟨g2,Y2,rfl,h1,h2,h3,rfl⟩
   ·try simp only [cA]
    refine bS tQ ?_;refine TD.perm lH ?_;simp only [cA];refine ad [[1,46],[5,37],[5,37]] ?_;refine bR (pend':=[⟨11,[37],[]⟩]) [17,47] Z Z (zt Z Z zd.h Z Z mQ Z) ?_;refine ad [[13,48],[14]] ?_;refine au 9371422 ?_;constructor<;>intro hc1
    ·skip;refine au 42 ?_;refine bD Z Z Z Z (kI tame) ?_;rintro r55 K56 ⟨rfl,rfl⟩;refine au 35 ?_;refine bB hret [] ?_;exact rfl
    exact absurd (by simpa using hc1) hn
   ·try simp only [cA]
    refine bS tQ ?_;refine TD.perm (lH (l₁:=(5,_)::(g2,_)::(mkK Y2++((g,_)::mkK Zq)))) ?_;simp only [cA];refine ad [[1,46],[5,37],[5,37]] ?_;refine bR (pend':=[⟨11,[37],[]⟩]) [17,47] Z Z (zt Z Z zd.h Z Z mQ Z) ?_;refine ad [[13,48],[14]] ?_;refine au 9371422 ?_;constructor<;>intro hc1
    ·exact absurd hc1 dQ
    refine bA [4,5,6,7,8,9,17] ?_;refine bC ((jo,_)::(jb,_)::(jq,_)::(0,_)::(1,_)::(s,_)::(e,_)::(5,_)::(g2,_)::(mkK Y2++((g,_)::mkK Zq))) ?_;exact H (g2,Y2,jo) ⟨h1,h2,h3⟩
 ·rintro ⟨g2,Y2,jo⟩ ⟨h1,h2,h3⟩;dsimp only at h1 h2 h3 ⊢;have hyl:Y2.length=Zq.length:=by
   have e1:=congrArg (fun b=>b.sks.length) h1;have e2:(skB st wr Y2).sks.length=(narrowT (skB st wr Zq) i lo hi).sks.length:=e1;rw [show (skB st wr Y2).sks.length=Y2.length from z_len Y2] at e2;rw [e2];show (((Zq.map (·.2)).modify i _).length)=_;rw [List.length_modify,z_len]
  have hzne:allT (skB st wr Zq)≠[]:=fun hh=>by
   obtain ⟨v,hv⟩:=List.exists_mem_of_ne_nil _ h3;rw [h1] at hv;have:=zct hv;rw [hh] at this;cases this
  refine au 142120 ?_;refine bH Z (kH Z Z Und.h Und.h (km oQ)) ?_;refine au 280690670 ?_;refine bH Z (q_rem Z Z Z oQ oQ) ?_;rw [hj0];refine au 16804235 ?_;refine bD Z Z Z Z (zc4 tame hbk hjl hzne) ?_ (hs:=(.rem (by repeat (first | exact Rem.head | apply Rem.tail)) (by repeat (first | exact zaq _ _ | apply Split.right))));rintro r58 K59 ⟨ja,rfl,rfl⟩;refine au 0 ?_;refine bN (.cons _ (.cons _ (lH (l₁:=(g,_)::mkK Zq)))) ?_;simp only [cA];refine au 168042355661 ?_;refine bD Z Z Z Z (zc4 tame h2 (i:=j) oQ h3) ?_ (hs:=(.rem (by repeat (first | exact Rem.head | apply Rem.tail)) (by repeat (first | exact Split.left (za7 _ _) | apply Split.right))));rintro r61 K62 ⟨jm,rfl,rfl⟩;refine au 0 ?_;refine bN (.cons _ (.cons _ (lH (l₁:=(g2,_)::mkK Y2)))) ?_;simp only [cA];refine au 22355661 ?_;have hin:=zkj (j:=j) h1;refine bC [(jm,_),(ja,_),(jb,_),(0,_),(1,_),(s,_),(e,_)] ?_;refine TK.freezeR 20 Z uQ tQ ?_;refine TK.freezeR 22 Z uQ tQ ?_;refine TK.nd fun hnd=>?_;have hjj:jm≠ja:=fun h=>by subst h; simp [keys] at hnd
  refine au 1714 ?_;refine bF 72 (fun g9_3=>?_) (fun g9_3=>?_)
  ·cases g9_3
  refine au 125071 ?_;refine bF 76 (fun g9_7=>?_) (fun g9_7=>?_)
  ·cases g9_7
  refine au 125072801 ?_;refine bF 81 (fun g9_12=>?_) (fun g9_12=>?_)
  ·exact (zca (j:=j) h3 (by simp at g9_12; first | exact g9_12 | exact lK oQ)).elim
  refine au 11 ?_;refine bD Z Z Z Z (zhF hT hjj (yp (fromsT (skB st wr Y2) j) 3 false) (yp (fromsT (skB st wr Zq) j) 3 false) (mT (vq h2 j) dQ) (mT (vq hbk j) dQ)) ?_;rintro r64 K65 ⟨rfl,rfl⟩;refine au 93250300 ?_;constructor<;>intro hc2
  ·rw [hin] at hc2;simp at hc2
  have hnl:=zca (j:=j) hzne;have hnm:=zca (j:=j) h3;have hsub:∀ x∈(fromsT (skB st wr Y2) j),x∈(fromsT (skB st wr Zq) j):=fun x hx=>of_decide_eq_true (List.all_eq_true.1 hin x hx);have a1:=(zbX (zaM (skB st wr Zq) j) _ (hsub _ (zb2 hnm).1)).1;have a2:=(zbX (zaM (skB st wr Y2) j) _ (zb2 hnm).2).1;have a3:=(zbX (zaM (skB st wr Zq) j) _ (hsub _ (zb2 hnm).2)).2;have hle:(zQ b (skX sknm (fst0 (fromsT (skB st wr Y2) j)) (lst0 (fromsT (skB st wr Y2) j)))).seekers.length=(zQ b (skX sknm (fst0 (fromsT (skB st wr Zq) j)) (lst0 (fromsT (skB st wr Zq) j)))).seekers.length:=by show (b.seekers++[_]).length=(b.seekers++[_]).length; simp
  have hle2:(zQ b (skX sknm (fst0 (fromsT (skB st wr Zq) j)) (lst0 (fromsT (skB st wr Zq) j)))).seekers.length<=1000:=by show (b.seekers++[_]).length<=1000; simp; omega
  refine au 168042120 ?_;refine bD Z Z Z Z (zdy hT (b:=b) (s:=s) (e:=e) (yp (fromsT (skB st wr Zq) j) 3 false) (mT (vq hbk j) dQ) oQ) ?_;rintro r67 K68 h69;rcases h69 with ⟨ho1,rfl,rfl⟩ | ⟨ho1,sa,rfl,rfl⟩
  ·refine au 220661 ?_;intro jw hjw;refine au 16804235170 ?_;refine bD Z Z Z Z (zdy hT (b:=b) (s:=s) (e:=e) (yp (fromsT (skB st wr Y2) j) 3 false) (mT (vq h2 j) dQ) oQ) ?_;rintro r70 K71 h72;rcases h72 with ⟨ho2,rfl,rfl⟩ | ⟨ho2,sb,rfl,rfl⟩
   ·refine au 220661 ?_;intro jn hjn;refine au 130014235170 ?_;refine bF 101 (fun g13_3=>?_) (fun g13_3=>?_)
    ·
     refine au 1260888888126088 ?_;refine bD Z Z Z Z (kI tame) ?_;rintro r73 K74 ⟨rfl,rfl⟩;refine au 35260 ?_;refine bB hret [] ?_;exact rfl
    cases g13_3
   ·refine au 0 ?_;refine au 220661 ?_;intro jn hjn;refine au 130014235170 ?_;refine bF 101 (fun g13_3=>?_) (fun g13_3=>?_)
    ·
     refine au 1260888888126088 ?_;refine bD Z Z Z Z (kI tame) ?_;rintro r76 K77 ⟨rfl,rfl⟩;refine au 35260 ?_;refine bB hret [] ?_;exact rfl
    cases g13_3
  ·refine au 220661 ?_;intro jw hjw;refine au 16804235170 ?_;refine bD Z Z Z Z (zdy hT (b:=b) (s:=s) (e:=e) (yp (fromsT (skB st wr Y2) j) 3 false) (mT (vq h2 j) dQ) oQ) ?_;rintro r79 K80 h81;rcases h81 with ⟨ho2,rfl,rfl⟩ | ⟨ho2,sb,rfl,rfl⟩
   ·refine au 220661 ?_;intro jn hjn;refine au 130014235170 ?_;refine bF 101 (fun g13_3=>?_) (fun g13_3=>?_)
    ·cases g13_3
    refine au 12503001 ?_;refine bF 105 (fun g13_7=>?_) (fun g13_7=>?_)
    ·
     refine au 1260888888 ?_;refine bD Z Z Z Z (kI tame) ?_;rintro r82 K83 ⟨rfl,rfl⟩;refine au 35260 ?_;refine bB hret [] ?_;exact rfl
    cases g13_7
   ·refine au 0 ?_;refine TK.nd fun hnd2=>?_;have hd1:sa≠e:=fun h=>by subst h; simp [keys] at hnd2
    have hd2:sb≠e:=fun h=>by subst h; simp [keys] at hnd2
    refine au 220661 ?_;intro jn hjn;refine au 130014235170 ?_;refine bF 101 (fun g13_3=>?_) (fun g13_3=>?_)
    ·cases g13_3
    refine au 12503001 ?_;refine bF 105 (fun g13_7=>?_) (fun g13_7=>?_)
    ·cases g13_7
    refine au 111680680 ?_;refine bD Z Z Z Z (ziz tame (was:=(zQ b (skX sknm (fst0 (fromsT (skB st wr Zq) j)) (lst0 (fromsT (skB st wr Zq) j))))) (now:=(zQ b (skX sknm (fst0 (fromsT (skB st wr Y2) j)) (lst0 (fromsT (skB st wr Y2) j))))) (s1:=sa) (s2:=sb) (e:=e) hd1 hd2 Z hle Z (fun f1 f2 f3=>zgv ho1.2.1 a1 a2 a3 ho1.2.2 f1 f2 f3) (fun f1 f2 S hS k=>zbL ho1.2.1 a1 a2 a3 ho1.2.2 f2 hS k) (uY hf.names (by show sknm.size<=1000; decide)) (uY hf.names (by show sknm.size<=1000; decide)) hf.seen hf.seen hle2 hk5 hk6 hk7) ?_;rintro r85 K86 ⟨rfl,rfl⟩;refine au 1250 ?_;refine bF 113 (fun g13_15=>?_) (fun g13_15=>?_)
    ·refine bD Z Z Z Z (kI tame) ?_;rintro r88 K89 ⟨rfl,rfl⟩;refine au 35260 ?_;refine bB hret [] ?_;exact rfl
    cases g13_15
end Go.Vel
namespace Go.Vel
open Go Go.Conc Go.Proofs Go.ChangeShapes Go.WideShapes Go.ChangeAt Go.RowKit
def tblLaidT:List (String×DataW Unit):=[("velarium/seeker.checks",Go.Proofs.YtcddfkgckelhiaaGreatDoor.Rows.laid_velarium_seeker_checks),("velarium/seeker.says",Go.Proofs.YtcddfkgckelhiaaGreatDoor.Rows.laid_velarium_seeker_says),("velarium/strip.checks",Go.Proofs.YtcddfkgckelhiaaGreatDoor.Rows.laid_velarium_strip_checks)]
set_option maxRecDepth 100000 in
theorem zkI {W:World} (h:laidMetH tp tblLaidT W):(∃ cur e fz,W.heap[4]? =some (.cells cur e fz)/\cur[0]? =some (.func (.func 286) #[] #[])/\cur[1]? =some (.func (.func 287) #[] #[])/\cur[2]? =some (.func (.func 288) #[] #[]))/\(∃ cur e fz,W.heap[3]? =some (.cells cur e fz)/\cur[0]? =some (.func (.func 284) #[] #[])/\cur[1]? =some (.func (.func 262) #[] #[])/\cur[2]? =some (.func (.func 285) #[] #[]))/\(∃ cur e fz,W.heap[6]? =some (.cells cur e fz)/\cur[0]? =some (.func (.func 304) #[] #[])/\cur[1]? =some (.func (.func 305) #[] #[])/\cur[2]? =some (.func (.func 306) #[] #[])) :=
 ⟨tbl3 (h.funcs (n := "velarium/seeker.checks") (List.mem_cons_self ..)) (t0:=313) (e0:=312) (by kernel_rfl) (by kernel_rfl) Tryz.underlying313 Tryz.underlying312 (by kernel_rfl) (by kernel_rfl) rfl (by kernel_rfl) (by kernel_rfl) (by kernel_rfl),
  tbl3 (h.funcs (n := "velarium/seeker.says") (lL _ (List.mem_cons_self ..))) (t0:=308) (e0:=307) (by kernel_rfl) (by kernel_rfl) Tryz.underlying308 Tryz.underlying307 (by kernel_rfl) (by kernel_rfl) rfl (by kernel_rfl) (by kernel_rfl) (by kernel_rfl),
  tbl3 (h.funcs (n := "velarium/strip.checks") (lL _ (lL _ (List.mem_cons_self ..)))) (t0:=330) (e0:=329) (by kernel_rfl) (by kernel_rfl) Tryz.underlying330 Tryz.underlying329 (by kernel_rfl) (by kernel_rfl) rfl (by kernel_rfl) (by kernel_rfl) (by kernel_rfl)⟩
set_option maxRecDepth 100000 in
theorem ziq (os:Os) (args:Array Value):laidMetH tp tblLaidT ((World.doorLaid tp 400 os).forCall (fun _ _=>0) ⟨#[],args,[]⟩).memory :=
 laidMetH_of_parts3 (fuel:=8) (laidMet_of_run' 8 (by kernel_rfl) (by kernel_rfl)) (by kernel_rfl) (by kernel_rfl)
theorem zac {W:World} {φ:Nat->Loc3} {n:Nat} {l:Loc3} {e:TypeId}:RelO φ n l (holdAll W) (.cells [] e false):=fun h=>absurd rfl h
def mkV (m:MkR):List Value:=[.string m.what,.int .i64 m.col,.int .i64 m.row]
def skV (y:SkT×Value):List Value:=[.string y.1.name,.int .i64 y.1.flo,.int .i64 y.1.fhi,.int .i64 y.1.wide,.int .i64 y.1.slo,.int .i64 y.1.shi,y.2]
def pairV (x:Int×Int):List Value:=[.int .i64 x.1,.int .i64 x.2]
def pairC (x:Int×Int):List AV:=[intA x.1,intA x.2]
theorem list3C {α:Type} {l:List α} (h:l.length=3):∃ a b c,l=[a,b,c]:=by
 match l,h with
 | [a,b,c],_=>exact ⟨a,b,c,rfl⟩
theorem list2C {α:Type} {l:List α} (h:l.length=2):∃ a b,l=[a,b]:=by
 match l,h with
 | [a,b],_=>exact ⟨a,b,rfl⟩
theorem list7C {α:Type} {l:List α} (h:l.length=7):∃ a b c d e f g,l=[a,b,c,d,e,f,g]:=by
 match l,h with
 | [a,b,c,d,e,f,g],_=>exact ⟨a,b,c,d,e,f,g,rfl⟩
section
variable {H:Type} {enc:TypeId×Value->H} {W:World} {sp:Nat->Bool} {held:Bool}
theorem zdX {P:Program} {n:Nat} {t:TypeId} {y:Option (DataW H×List MemPlace)} {z:DataW H×List MemPlace} {l l':List Value} (h:DataW.trod enc P W 0 sp held n t l=y) (hy:y=some z) (hl:l=l'):DataW.trod enc P W 0 sp held n t l'=some z:=by rw [<- hl,h,hy]
theorem zmq (m:Nat) (cs:List Value) (x:DataW H×List MemPlace) (h:DataW.trod enc tp W 0 sp held m 328 cs=some x):∃ z,cs=mkV z:=by
 obtain ⟨xs,n,rfl,hx,hlen,hxs,hf⟩:=DataW.trod_struct Tryz.underlying328 h;have hlen':cs.length=3:=hlen.trans (by kernel_rfl);have hxs':xs.length=3:=hxs;have c3:tp.cellsOf 3=1:=by kernel_rfl
 have c9:tp.cellsOf 9=1:=by kernel_rfl
 obtain ⟨v0,v1,v2,rfl⟩:=list3C hlen';obtain ⟨y0,q0⟩:=yq hxs' (i:=0) dQ;obtain ⟨y1,q1⟩:=yq hxs' (i:=1) dQ;obtain ⟨y2,q2⟩:=yq hxs' (i:=2) dQ;obtain ⟨z0,e0,_⟩:=DataW.trod_string Tryz.underlying9 (yh (c:=v0) (hf 0 _ rfl) q0 (by show List.take (tp.cellsOf 9) (List.drop 0 _)=_; rw [c9]; rfl));obtain ⟨z1,e1,_⟩:=DataW.trod_int Tryz.underlying3 (yh (c:=v1) (hf 1 _ rfl) q1 (by show List.take (tp.cellsOf 3) (List.drop 1 _)=_; rw [c3]; rfl));obtain ⟨z2,e2,_⟩:=DataW.trod_int Tryz.underlying3 (yh (c:=v2) (hf 2 _ rfl) q2 (by show List.take (tp.cellsOf 3) (List.drop 2 _)=_; rw [c3]; rfl));cases e0;cases e1;cases e2;exact ⟨⟨z0,z1,z2⟩,rfl⟩
theorem zb1 (m:Nat) (cs:List Value) (x:DataW H×List MemPlace) (h:DataW.trod enc tp W 0 sp held m 23 cs=some x):∃ z,cs=pairV z:=by
 obtain ⟨xs,n,rfl,hx,hlen,hxs,hf⟩:=DataW.trod_struct Tryz.underlying23 h;have hlen':cs.length=2:=hlen.trans (by kernel_rfl);have hxs':xs.length=2:=hxs;have c3:tp.cellsOf 3=1:=by kernel_rfl
 obtain ⟨v0,v1,rfl⟩:=list2C hlen';obtain ⟨y0,q0⟩:=yq hxs' (i:=0) dQ;obtain ⟨y1,q1⟩:=yq hxs' (i:=1) dQ;obtain ⟨z0,e0,_⟩:=DataW.trod_int Tryz.underlying3 (yh (c:=v0) (hf 0 _ rfl) q0 (by show List.take (tp.cellsOf 3) (List.drop 0 _)=_; rw [c3]; rfl));obtain ⟨z1,e1,_⟩:=DataW.trod_int Tryz.underlying3 (yh (c:=v1) (hf 1 _ rfl) q1 (by show List.take (tp.cellsOf 3) (List.drop 1 _)=_; rw [c3]; rfl));cases e0;cases e1;exact ⟨⟨z0,z1⟩,rfl⟩
theorem zmr (m:Nat) (cs:List Value) (x:DataW H×List MemPlace) (h:DataW.trod enc tp W 0 sp held m 160 cs=some x):∃ z:{ y:SkT×Value // SlIn W mkV 3 y.1.marks y.2 },cs=skV z.1:=by
 obtain ⟨xs,n,rfl,hx,hlen,hxs,hf⟩:=DataW.trod_struct Tryz.underlying160 h;have hlen':cs.length=7:=hlen.trans (by kernel_rfl);have hxs':xs.length=5:=hxs;have c3:tp.cellsOf 3=1:=by kernel_rfl
 have c9:tp.cellsOf 9=1:=by kernel_rfl
 have c23:tp.cellsOf 23=2:=by kernel_rfl
 have c158:tp.cellsOf 158=1:=by kernel_rfl
 obtain ⟨v0,v1,v2,v3,v4,v5,v6,rfl⟩:=list7C hlen';obtain ⟨y0,q0⟩:=yq hxs' (i:=0) dQ;obtain ⟨y1,q1⟩:=yq hxs' (i:=1) dQ;obtain ⟨y2,q2⟩:=yq hxs' (i:=2) dQ;obtain ⟨y3,q3⟩:=yq hxs' (i:=3) dQ;obtain ⟨y4,q4⟩:=yq hxs' (i:=4) dQ;obtain ⟨a0,e0,_⟩:=DataW.trod_string Tryz.underlying9 (yh (c:=v0) (hf 0 _ rfl) q0 (by show List.take (tp.cellsOf 9) (List.drop 0 _)=_; rw [c9]; rfl));obtain ⟨a1,e1⟩:=zb1 _ _ _ (zdX (l':=[v1,v2]) (hf 1 _ rfl) q1 (by show List.take (tp.cellsOf 23) (List.drop 1 _)=_; rw [c23]; rfl));obtain ⟨a2,e2,_⟩:=DataW.trod_int Tryz.underlying3 (yh (c:=v3) (hf 2 _ rfl) q2 (by show List.take (tp.cellsOf 3) (List.drop 3 _)=_; rw [c3]; rfl));obtain ⟨a3,e3⟩:=zb1 _ _ _ (zdX (l':=[v4,v5]) (hf 3 _ rfl) q3 (by show List.take (tp.cellsOf 23) (List.drop 4 _)=_; rw [c23]; rfl));obtain ⟨a4,b4,cap4,e4,l4,r4⟩:=ul (vals:=mkV) (c:=3) Tryz.underlying158 (by kernel_rfl) dQ zmq (yh (c:=v6) (hf 4 _ rfl) q4 (by show List.take (tp.cellsOf 158) (List.drop 6 _)=_; rw [c158]; rfl));cases e0; cases e1; cases e2; cases e3; cases e4;exact ⟨⟨(⟨a0,a1.1,a1.2,a2,a3.1,a3.2,a4⟩,_),⟨b4,cap4,rfl,l4,r4⟩⟩,rfl⟩
theorem zhU {v:Value} {d:DataW H} {p:List MemPlace} (hv:∃ cs,v=.agg cs) (h:DataW.Trod enc tp W 0 sp held 57 v d p):∃ (st wr:Int) (ys:List (SkT×Value)) (v1:Value),v=.agg #[.int .i64 st,.int .i64 wr,v1]/\SlIn W skV 7 ys v1/\∀ p∈ys,SlIn W mkV 3 p.1.marks p.2:=by
 obtain ⟨ca,rfl⟩:=hv;obtain ⟨fuel,h⟩:=h;generalize hcs:(Value.agg ca).cells.toList=cs at h;obtain ⟨xs,n,rfl,hx,hlen,hxs,hf⟩:=DataW.trod_struct Tryz.underlying57 h;have hlen':cs.length=3:=hlen.trans (by kernel_rfl);have hxs':xs.length=3:=hxs;have c3:tp.cellsOf 3=1:=by kernel_rfl
 have c55:tp.cellsOf 55=1:=by kernel_rfl
 obtain ⟨v0,v1,v2,rfl⟩:=list3C hlen';obtain ⟨y0,q0⟩:=yq hxs' (i:=0) dQ;obtain ⟨y1,q1⟩:=yq hxs' (i:=1) dQ;obtain ⟨y2,q2⟩:=yq hxs' (i:=2) dQ;obtain ⟨a0,e0,_⟩:=DataW.trod_int Tryz.underlying3 (yh (c:=v0) (hf 0 _ rfl) q0 (by show List.take (tp.cellsOf 3) (List.drop 0 _)=_; rw [c3]; rfl));obtain ⟨a1,e1,_⟩:=DataW.trod_int Tryz.underlying3 (yh (c:=v1) (hf 1 _ rfl) q1 (by show List.take (tp.cellsOf 3) (List.drop 1 _)=_; rw [c3]; rfl));obtain ⟨zs,b4,cap4,e4,l4,r4⟩:=ul (vals:=fun z:{ y:SkT×Value // SlIn W mkV 3 y.1.marks y.2 }=>skV z.1) (c:=7) Tryz.underlying55 (by kernel_rfl) dQ zmr (yh (c:=v2) (hf 2 _ rfl) q2 (by show List.take (tp.cellsOf 55) (List.drop 2 _)=_; rw [c55]; rfl));cases e0; cases e1; cases e4;refine ⟨a0,a1,zs.map (·.1),_,?_,⟨b4,cap4,by rw [lJ],by rw [lJ]; exact l4,fun hp=>?_⟩,fun p hp=>?_⟩
 ·have:ca.toList=_:=hcs;rw [<- Array.toArray_toList (xs:=ca),this]
 ·rw [lJ] at hp;obtain ⟨blk,off,cur,e',fz,h1,h2,h3⟩:=r4 hp;refine ⟨blk,off,cur,e',fz,h1,h2,fun i z j hi hj=>?_⟩;rw [lQ] at hi;obtain ⟨z',hz,rfl⟩:=mY.1 hi;exact h3 i z' j hz hj
 ·obtain ⟨z,_,rfl⟩:=lY.1 hp;exact z.2
end
theorem zkQ {H:Type} {enc:TypeId×Value->H} {W:World} {sp:Nat->Bool} {held:Bool} {t:TypeId} {α:Type} {vals:α->List Value} (hdec:∀ (m:Nat) (cs:List Value) (x:DataW H×List MemPlace),DataW.trod enc tp W 0 sp held m t cs=some x->∃ z,cs=vals z) {v:Value} {d:DataW H} {p:List MemPlace} (hv:∃ cs,v=.agg cs) (h:DataW.Trod enc tp W 0 sp held t v d p):∃ z:α,v=.agg (vals z).toArray:=by
 obtain ⟨ca,rfl⟩:=hv;obtain ⟨fuel,h⟩:=h;obtain ⟨z,hz⟩:=hdec _ _ _ h;have hz:ca.toList=vals z:=hz;exact ⟨z,by rw [<- Array.toArray_toList (xs:=ca),hz]⟩
theorem zmc {α:Type} {cf:α->List AV} {vals:α->List Value} {φ:Nat->Loc3} {n:Nat} {z:α} (hl:(cf z).length=(vals z).length) (hr:∀ (jj:Nat) a,(cf z)[jj]? =some a->∃ y,(vals z)[jj]? =some y/\RelV φ n a y):RelV φ n (.agg (cf z)) (.agg (vals z).toArray):=by
 refine .agg (by simpa using hl) fun t u y hu hy=>?_;obtain ⟨y',h1,h2⟩:=hr t u hu;have h3:(vals z)[t]? =some y:=by simpa using hy
 rw [h1] at h3;cases h3;exact h2
theorem zmJ {φ:Nat->Loc3} {n:Nat} (z) (jj:Nat) (a:AV) (h:(mkC z)[jj]? =some a):∃ y,(mkV z)[jj]? =some y/\RelV φ n a y:=by
 match jj,h with
 | 0,h=>cases h; exact ⟨_,rfl,.v _⟩
 | 1,h=>cases h; exact ⟨_,rfl,.v _⟩
 | 2,h=>cases h; exact ⟨_,rfl,.v _⟩
 | jj+3,h=>simp [mkC] at h
theorem zkT {φ:Nat->Loc3} {n:Nat} (z) (jj:Nat) (a:AV) (h:(pairC z)[jj]? =some a):∃ y,(pairV z)[jj]? =some y/\RelV φ n a y:=by
 match jj,h with
 | 0,h=>cases h; exact ⟨_,rfl,.v _⟩
 | 1,h=>cases h; exact ⟨_,rfl,.v _⟩
 | jj+2,h=>simp [pairC] at h
def zOf (ys:List (SkT×Value)):List (Nat×SkT):=ys.zipIdx.map fun p=>(p.2+10,p.1.1)
theorem zmi (ys:List (SkT×Value)):(zOf ys).length=ys.length:=by unfold zOf; rw [lJ,List.length_zipIdx]
theorem zhc {ys:List (SkT×Value)} {i:Nat} {p:Nat×SkT} (h:(zOf ys)[i]? =some p):∃ y,ys[i]? =some y/\p=(i+10,y.1):=by
 unfold zOf at h;rw [lQ,List.getElem?_zipIdx] at h;cases hy:ys[i]? with
 | none=>rw [hy] at h; cases h
 | some y =>
  rw [hy] at h;have h:some ((0+i)+10,y.1)=some p:=h;rw [mO] at h;exact ⟨y,rfl,(Option.some.inj h).symm⟩
theorem zm4 {W:World} {ys:List (SkT×Value)} {v:Value} {φ:Nat->Loc3} {n:Nat} (h:SlIn W skV 7 ys v) (hm:∀ p∈ys,SlIn W mkV 3 p.1.marks p.2) (hφ:∀ i y,ys[i]? =some y->φ (i+10)=locV y.2) (hn:ys.length+10<=n):RelO φ n (locV v) (holdAll W) (skO (zOf ys)):=by
 intro hne;obtain ⟨b,cap,rfl,hle,hq⟩:=h;have hpos:0<ys.length:=by
  rcases mP ys.length with h0 | h0
  ·rw [lK h0] at hne; exact absurd rfl hne
  ·exact h0
 obtain ⟨blk,off,cur,e',fz,rfl,hh,hcell⟩:=hq hpos;refine ⟨false,cur,(e',fz),ve hh,(fun h=>by cases h),fun j a ha=>?_⟩;obtain ⟨i,p,jj,h1,h2,rfl,h4⟩:=zb7 (f:=skC) (c:=7) (fun _=>rfl) (zOf ys) j a ha;obtain ⟨y,hy,rfl⟩:=zhc h1;have hi:=(List.getElem?_eq_some_iff.1 hy).1;have hc:=hcell i y jj hy h2
 match jj,h4,hc with
 | 0,h4,hc=>cases h4; exact ⟨_,hc,.v _⟩
 | 1,h4,hc=>cases h4; exact ⟨_,hc,.v _⟩
 | 2,h4,hc=>cases h4; exact ⟨_,hc,.v _⟩
 | 3,h4,hc=>cases h4; exact ⟨_,hc,.v _⟩
 | 4,h4,hc=>cases h4; exact ⟨_,hc,.v _⟩
 | 5,h4,hc=>cases h4; exact ⟨_,hc,.v _⟩
 | 6,h4,hc=>cases h4; exact ⟨_,hc,zbn (hm y (lN hy)) oQ (hφ i y hy)⟩
 | jj+7,h4,hc=>simp [skC] at h4
theorem zdC {ys:List (SkT×Value)} {i:Nat} {o:AObj} (h:(ys.map fun y=>mkO y.1)[i]? =some o):∃ y,ys[i]? =some y/\o=mkO y.1:=by
 rw [lQ] at h;obtain ⟨y,h1,h2⟩:=mY.1 h;exact ⟨y,h1,h2.symm⟩
theorem zlJ {ys:List (SkT×Value)} {x:Nat×AObj} (h:x∈mkK (zOf ys)):∃ i,x.1=i+10/\(ys.map fun y=>mkO y.1)[i]? =some x.2:=by
 obtain ⟨p,hp,rfl⟩:=lY.1 h;obtain ⟨i,hi⟩:=List.getElem?_of_mem hp;obtain ⟨y,hy,rfl⟩:=zhc hi;exact ⟨i,rfl,by rw [lQ,hy]; rfl⟩
theorem keysZ (ys:List (SkT×Value)):keys (mkK (zOf ys))=(List.range' 0 ys.length).map (· + 10):=by
 unfold keys mkK zOf;have h:ys.zipIdx.map Prod.snd=List.range' 0 ys.length:=List.zipIdx_map_snd 0 ys;rw [<- h,List.map_map,List.map_map,List.map_map];rfl
theorem keysT {ys:List (SkT×Value)} {o1 o2 o3 o4 o5 o6:AObj}:(keys ((0,o1)::(1,o2)::(7,o3)::(8,o4)::(5,o5)::(9,o6)::mkK (zOf ys))).Nodup:=by
 show ([0,1,7,8,5,9]++keys (mkK (zOf ys))).Nodup;rw [keysZ,List.nodup_append];refine ⟨by decide,?_,fun a ha c hc e=>?_⟩
 ·refine List.pairwise_map.2 ((List.nodup_range' (s:=0) (n:=ys.length) (step:=1)).imp fun h e=>h oQ)
 ·obtain ⟨x,_,rfl⟩:=lY.1 hc;simp at ha;omega
end Go.Vel
end
