/- Texts for the statements of chapter 9: what all of them need, part 9. It holds of every program, tape and world that the statements name, as each theorem says. -/
import Derived.Test.YtcddfkgckelhiaaGreatDoorC3
import Derived.Test.YtcddfkgckelhiaaGreatDoorC5
import Derived.Test.YtcddfkgckelhiaaGreatDoorC6
import Derived.Test.YtcddfkgckelhiaaGreatDoorC7
section
set_option linter.all false
set_option maxRecDepth 20000
set_option maxHeartbeats 60000000
open Go.Proofs.Tryz renaming prog -> tp
open List renaming getD_eq_getElem?_getD -> lE, mem_cons -> lI, mem_cons_of_mem -> lL
open Nat renaming eq_zero_or_pos -> mP
open Bool renaming and_eq_true -> mX
open Go.Vel.TK renaming rt -> bB, kp -> bC, cl -> bD, sp -> bF, a -> bH, newR -> bI
open Go.Vel.TD renaming cl -> bQ, s -> bR, norm -> bS, z -> bU, cnewR -> bV, cnewP -> bX
namespace Go.Vel
open Go Go.Conc Go.Proofs
theorem zgv (tame:Tame tp) {Ψ:Goroutine->World->Prop} {was now:Bk} {s1 e1:Nat} {lo w wh:Int} (h:Less was now) (fw:checkM was=0) (fn:checkM now=0) (h1:s1≠e1) (nw:∀ x∈was.seekers,x.name.size<=1000) (nn:∀ x∈now.seekers,x.name.size<=1000) (lw:was.seen.length<=1000) (ln:now.seen.length<=1000) (hlo:0<=lo/\lo<was.steps) (hw:1<=w/\w<=was.steps) (hwh:wh = -1\/∃ k:Nat,wh=k/\k<was.seekers.length/\k<now.seekers.length/\∀ S∈zb now,rightM now S k=rightM was S k) (eS:zo now=zo was) (eE:zp now=zp was):zh tp (BT tp Ψ) gmS 57 [.agg (zC was s1 e1),.agg (zC now s1 e1),intA lo,intA w,intA wh] [(0,zx),(1,zB),(s1,zo was),(e1,zp was)] (fun r K'=>r=zm true/\K'=[(0,zx),(1,zB),(s1,zo was),(e1,zp was)]):=by
 have hT:=wM tame Ψ;refine ze 218 hT Tryz.func57 fun Y hret=>?_;refine au 0 ?_;have hst:=h.okw.steps;have hsn:=h.steps;have w0:=(zf1 fw).1.2 h.wne;have n0:=(zf1 fn).1.2 h.ne;have hsw:=zaj fw;have hsn1:=zaj fn;have hlw:zJ was lo=true:=by unfold zJ; simp only [mX,decide_eq_true_eq]; omega
 have hln:zJ now lo=true:=by unfold zJ; simp only [mX,decide_eq_true_eq]; omega
 have haw:=zhw w0 hlw;have han:=zhw n0 hln;have hmany:=h.many;have hcw:=zcR fw w0 hlo hw;have hcn:=zcR fn n0 (lo:=lo) (w:=w) oQ oQ;rw [hsn] at hcn;have hband:=h.within lo w;have hnw:=zct w0;have hnn:=zct n0;have hlcw:=zcg h.okw;have hlcn:=zcg h.okn;have hin:((countsM now).all fun x=>decide (x∈countsM was))=true:=List.all_eq_true.2 fun x hx=>decide_eq_true (h.counts hx);have n_s:=y5 hT (b:=now) h1 nn ln;rw [eS,eE] at n_s;have n_a:=uM hT (n:=lo) (b:=now) h1 nn ln;rw [eS,eE] at n_a;have n_c:=zay tame (Ψ:=Ψ) (b:=now) h1 nn ln;rw [eS,eE] at n_c;have n_i:=wV hT (lo:=lo) (hi:=(lo+w - 1) % was.steps) (b:=now) h1 nn ln;rw [eS,eE] at n_i;have n_n:=vr tame (Ψ:=Ψ) (b:=now) h1 nn ln;rw [eS,eE] at n_n;have n_w:=kX hT (n:=wh) (b:=now) h1 nn ln;rw [eS,eE] at n_w;refine au 21042 ?_;intro jw hjw;refine au 210 ?_;intro jn hjn;refine au 6804235 ?_;refine bD Z Z Z Z (y5 hT (b:=was) h1 nw lw) ?_;rintro r1 K2 ⟨rfl,rfl⟩;refine au 0 ?_;rw [hsw.1,hsw.2];refine au 68042355661 ?_;refine bD Z Z Z Z (n_s) ?_;rintro r4 K5 ⟨rfl,rfl⟩;refine au 0 ?_;rw [hsn1.1,hsn1.2];refine au 68042355661 ?_;refine bD Z Z Z Z (zay tame (b:=was) h1 nw lw) ?_;rintro r7 K8 h9;rcases h9 with ⟨hb0,rfl,rfl⟩ | ⟨hb0,j1,rfl,rfl⟩
 ·refine au 0 ?_;exact absurd w0 hb0
 ·refine au 68042355661 ?_;refine bD Z Z Z Z (n_c) ?_;rintro r10 K11 h12;rcases h12 with ⟨hb1,rfl,rfl⟩ | ⟨hb1,j2,rfl,rfl⟩
  ·refine au 0 ?_;exact absurd n0 hb1
  ·refine au 168042355661 ?_;refine bD Z Z Z Z (uM hT (n:=lo) (b:=was) h1 nw lw) ?_;rintro r13 K14 ⟨rfl,rfl⟩;refine au 0 ?_;rw [haw.1,haw.2];refine au 168042355661 ?_;refine bD Z Z Z Z (n_a) ?_;rintro r16 K17 ⟨rfl,rfl⟩;refine au 0 ?_;rw [han.1,han.2];refine au 22355661 ?_;refine TK.freezeR 17 Z uQ tQ ?_;refine TK.freezeR 15 Z uQ tQ ?_;refine TK.nd fun hnd=>?_;have hjj:j2≠j1:=fun h=>by subst h; simp [keys] at hnd
   refine au 1714 ?_;refine bF 66 (fun g7_3=>?_) (fun g7_3=>?_)
   ·simp at g7_3
   refine au 125071 ?_;refine bF 70 (fun g7_7=>?_) (fun g7_7=>?_)
   ·simp at g7_7
   refine au 125071 ?_;refine bF 74 (fun g7_11=>?_) (fun g7_11=>?_)
   ·simp at g7_11
   refine au 125071 ?_;refine bF 78 (fun g7_15=>?_) (fun g7_15=>?_)
   ·simp at g7_15
   refine au 125071 ?_;refine bF 82 (fun g7_19=>?_) (fun g7_19=>?_)
   ·simp at g7_19
   refine au 125071 ?_;refine bF 86 (fun g7_23=>?_) (fun g7_23=>?_)
   ·simp at g7_23
   refine au 11 ?_;refine bD Z Z Z Z (yy hT) ?_;rintro r19 K20 ⟨rfl,rfl⟩;refine au 1250300 ?_;refine bF 92 (fun g7_29=>?_) (fun g7_29=>?_)
   ·rw [decide_eq_true hmany.1,decide_eq_true hmany.2] at g7_29;simp at g7_29
   refine au 11 ?_;refine bD Z Z Z Z (zgR hT hjj (yB (countsM now) 3 false) (yB (countsM was) 3 false) oQ oQ) ?_;rintro r22 K23 ⟨rfl,rfl⟩;refine au 1250300 ?_;refine bF 98 (fun g7_35=>?_) (fun g7_35=>?_)
   ·rw [hin] at g7_35;simp at g7_35
   refine au 171 ?_;refine bF 101 (fun g7_38=>?_) (fun g7_38=>?_)
   ·refine au 93250260711 ?_;constructor<;>intro hc0
    ·rw [<- h.at_ lo (by simpa using g7_38)] at hc0;simp at hc0
    refine au 6906702402301142120 ?_;refine bH Z (q_rem Z Z Z oQ oQ) ?_;refine au 116804235 ?_;refine bD Z Z Z Z (wV hT (lo:=lo) (hi:=(lo+w - 1) % was.steps) (b:=was) h1 nw lw) ?_;rintro r25 K26 ⟨rfl,rfl⟩;refine au 0 ?_;rw [hcw.1,hcw.2];refine au 220661 ?_;intro jx hjx;refine au 116804235170 ?_;refine bD Z Z Z Z (n_i) ?_;rintro r28 K29 ⟨rfl,rfl⟩;refine au 0 ?_;rw [hcn.1,hcn.2];refine au 220661 ?_;intro jy hjy;refine au 6804235170 ?_;refine bD Z Z Z Z (vr tame (b:=was) h1 nw lw) ?_;rintro r31 K32 ⟨rfl,rfl⟩;refine au 0 ?_;rw [hnw.1,hnw.2.1];refine au 680423555566661 ?_;refine bD Z Z Z Z (n_n) ?_;rintro r34 K35 ⟨rfl,rfl⟩;refine au 0 ?_;rw [hnn.1,hnn.2.1];refine au 1714223555566661 ?_;refine bF 144 (fun g14_3=>?_) (fun g14_3=>?_)
    ·simp at g14_3
    refine au 125071 ?_;refine bF 148 (fun g14_7=>?_) (fun g14_7=>?_)
    ·simp at g14_7
    refine au 125071 ?_;refine bF 152 (fun g14_11=>?_) (fun g14_11=>?_)
    ·simp at g14_11
    refine au 125071 ?_;refine bF 156 (fun g14_15=>?_) (fun g14_15=>?_)
    ·simp at g14_15
    refine au 12507690670690670 ?_;refine bF 163 (fun g14_22=>?_) (fun g14_22=>?_)
    ·have:=of_decide_eq_true g14_22;omega
    refine au 12507690670690670 ?_;refine bF 170 (fun g14_29=>?_) (fun g14_29=>?_)
    ·have:=of_decide_eq_true g14_29;omega
    refine au 12507690670690670 ?_;refine bF 177 (fun g14_36=>?_) (fun g14_36=>?_)
    ·have:=of_decide_eq_true g14_36;omega
    refine au 11 ?_;refine bF 179 (fun g14_38=>?_) (fun g14_38=>?_)
    ·have ha:=h.arcs (of_decide_eq_true g14_38);have hfw:=hnw.2.2 (of_decide_eq_true g14_38);have hfn:=hnn.2.2 ha.1;refine au 13001 ?_;refine bF 182 (fun g14_41=>?_) (fun g14_41=>?_)
     ·rw [decide_eq_true ha.1] at g14_41;simp at g14_41
     refine au 93250260250711 ?_;constructor<;>intro hc1
     ·rw [hfw,hfn] at hc1;have:=of_decide_eq_true hc1;omega
     refine au 9371422120 ?_;constructor<;>intro hc2
     ·refine au 3542 ?_;refine bB hret [(0,_),(1,_),(s1,_),(e1,_)] ?_;exact ⟨rfl,rfl⟩
     obtain ⟨k,rfl,hk1,hk2,hkr⟩:=hwh.resolve_left (fun h=>by have:=of_decide_eq_false hc2; omega);have hww:=kL w0 hk1;have hwn:=kL n0 hk2;refine au 168042120 ?_;refine bD Z Z Z Z (kX hT (n:=(k:Int)) (b:=was) h1 nw lw) ?_;rintro r37 K38 ⟨rfl,rfl⟩;refine au 0 ?_;rw [hww.1,hww.2];refine au 168042355661 ?_;refine bD Z Z Z Z (n_w) ?_;rintro r40 K41 ⟨rfl,rfl⟩;refine au 0 ?_;rw [hwn.1,hwn.2];refine au 17142355661 ?_;refine bF 205 (fun g20_3=>?_) (fun g20_3=>?_)
     ·refine au 126071 ?_;refine bF 209 (fun g20_7=>?_) (fun g20_7=>?_)
      ·refine au 171 ?_;refine bF 212 (fun g20_10=>?_) (fun g20_10=>?_)
       ·refine au 35260260888 ?_;refine bB hret [(0,_),(1,_),(s1,_),(e1,_)] ?_;exact ⟨rfl,rfl⟩
       refine au 35260250711 ?_;refine bB hret [(0,_),(1,_),(s1,_),(e1,_)] ?_;exact ⟨by rw [h.wrong k hkr (by simpa using g20_10),beq_self_eq_true]; rfl,rfl⟩
      simp at g20_7
     simp at g20_3
    refine au 937142212019032502508888888 ?_;constructor<;>intro hc2
    ·refine au 3542 ?_;refine bB hret [(0,_),(1,_),(s1,_),(e1,_)] ?_;exact ⟨rfl,rfl⟩
    obtain ⟨k,rfl,hk1,hk2,hkr⟩:=hwh.resolve_left (fun h=>by have:=of_decide_eq_false hc2; omega);have hww:=kL w0 hk1;have hwn:=kL n0 hk2;refine au 168042120 ?_;refine bD Z Z Z Z (kX hT (n:=(k:Int)) (b:=was) h1 nw lw) ?_;rintro r43 K44 ⟨rfl,rfl⟩;refine au 0 ?_;rw [hww.1,hww.2];refine au 168042355661 ?_;refine bD Z Z Z Z (n_w) ?_;rintro r46 K47 ⟨rfl,rfl⟩;refine au 0 ?_;rw [hwn.1,hwn.2];refine au 17142355661 ?_;refine bF 205 (fun g20_3=>?_) (fun g20_3=>?_)
    ·refine au 126071 ?_;refine bF 209 (fun g20_7=>?_) (fun g20_7=>?_)
     ·refine au 171 ?_;refine bF 212 (fun g20_10=>?_) (fun g20_10=>?_)
      ·refine au 35260260888 ?_;refine bB hret [(0,_),(1,_),(s1,_),(e1,_)] ?_;exact ⟨rfl,rfl⟩
      refine au 35260250711 ?_;refine bB hret [(0,_),(1,_),(s1,_),(e1,_)] ?_;exact ⟨by rw [h.wrong k hkr (by simpa using g20_10),beq_self_eq_true]; rfl,rfl⟩
     simp at g20_7
    simp at g20_3
   refine au 69067024023011421201903250250888 ?_;refine bH Z (q_rem Z Z Z oQ oQ) ?_;refine au 116804235 ?_;refine bD Z Z Z Z (wV hT (lo:=lo) (hi:=(lo+w - 1) % was.steps) (b:=was) h1 nw lw) ?_;rintro r49 K50 ⟨rfl,rfl⟩;refine au 0 ?_;rw [hcw.1,hcw.2];refine au 220661 ?_;intro jx hjx;refine au 116804235170 ?_;refine bD Z Z Z Z (n_i) ?_;rintro r52 K53 ⟨rfl,rfl⟩;refine au 0 ?_;rw [hcn.1,hcn.2];refine au 220661 ?_;intro jy hjy;refine au 6804235170 ?_;refine bD Z Z Z Z (vr tame (b:=was) h1 nw lw) ?_;rintro r55 K56 ⟨rfl,rfl⟩;refine au 0 ?_;rw [hnw.1,hnw.2.1];refine au 680423555566661 ?_;refine bD Z Z Z Z (n_n) ?_;rintro r58 K59 ⟨rfl,rfl⟩;refine au 0 ?_;rw [hnn.1,hnn.2.1];refine au 1714223555566661 ?_;refine bF 144 (fun g14_3=>?_) (fun g14_3=>?_)
   ·simp at g14_3
   refine au 125071 ?_;refine bF 148 (fun g14_7=>?_) (fun g14_7=>?_)
   ·simp at g14_7
   refine au 125071 ?_;refine bF 152 (fun g14_11=>?_) (fun g14_11=>?_)
   ·simp at g14_11
   refine au 125071 ?_;refine bF 156 (fun g14_15=>?_) (fun g14_15=>?_)
   ·simp at g14_15
   refine au 12507690670690670 ?_;refine bF 163 (fun g14_22=>?_) (fun g14_22=>?_)
   ·have:=of_decide_eq_true g14_22;omega
   refine au 12507690670690670 ?_;refine bF 170 (fun g14_29=>?_) (fun g14_29=>?_)
   ·have:=of_decide_eq_true g14_29;omega
   refine au 12507690670690670 ?_;refine bF 177 (fun g14_36=>?_) (fun g14_36=>?_)
   ·have:=of_decide_eq_true g14_36;omega
   refine au 11 ?_;refine bF 179 (fun g14_38=>?_) (fun g14_38=>?_)
   ·have ha:=h.arcs (of_decide_eq_true g14_38);have hfw:=hnw.2.2 (of_decide_eq_true g14_38);have hfn:=hnn.2.2 ha.1;refine au 13001 ?_;refine bF 182 (fun g14_41=>?_) (fun g14_41=>?_)
    ·rw [decide_eq_true ha.1] at g14_41;simp at g14_41
    refine au 93250260250711 ?_;constructor<;>intro hc1
    ·rw [hfw,hfn] at hc1;have:=of_decide_eq_true hc1;omega
    refine au 9371422120 ?_;constructor<;>intro hc2
    ·refine au 3542 ?_;refine bB hret [(0,_),(1,_),(s1,_),(e1,_)] ?_;exact ⟨rfl,rfl⟩
    obtain ⟨k,rfl,hk1,hk2,hkr⟩:=hwh.resolve_left (fun h=>by have:=of_decide_eq_false hc2; omega);have hww:=kL w0 hk1;have hwn:=kL n0 hk2;refine au 168042120 ?_;refine bD Z Z Z Z (kX hT (n:=(k:Int)) (b:=was) h1 nw lw) ?_;rintro r61 K62 ⟨rfl,rfl⟩;refine au 0 ?_;rw [hww.1,hww.2];refine au 168042355661 ?_;refine bD Z Z Z Z (n_w) ?_;rintro r64 K65 ⟨rfl,rfl⟩;refine au 0 ?_;rw [hwn.1,hwn.2];refine au 17142355661 ?_;refine bF 205 (fun g20_3=>?_) (fun g20_3=>?_)
    ·refine au 126071 ?_;refine bF 209 (fun g20_7=>?_) (fun g20_7=>?_)
     ·refine au 171 ?_;refine bF 212 (fun g20_10=>?_) (fun g20_10=>?_)
      ·refine au 35260260888 ?_;refine bB hret [(0,_),(1,_),(s1,_),(e1,_)] ?_;exact ⟨rfl,rfl⟩
      refine au 35260250711 ?_;refine bB hret [(0,_),(1,_),(s1,_),(e1,_)] ?_;exact ⟨by rw [h.wrong k hkr (by simpa using g20_10),beq_self_eq_true]; rfl,rfl⟩
     simp at g20_7
    simp at g20_3
   refine au 937142212019032502508888888 ?_;constructor<;>intro hc2
   ·refine au 3542 ?_;refine bB hret [(0,_),(1,_),(s1,_),(e1,_)] ?_;exact ⟨rfl,rfl⟩
   obtain ⟨k,rfl,hk1,hk2,hkr⟩:=hwh.resolve_left (fun h=>by have:=of_decide_eq_false hc2; omega);have hww:=kL w0 hk1;have hwn:=kL n0 hk2;refine au 168042120 ?_;refine bD Z Z Z Z (kX hT (n:=(k:Int)) (b:=was) h1 nw lw) ?_;rintro r67 K68 ⟨rfl,rfl⟩;refine au 0 ?_;rw [hww.1,hww.2];refine au 168042355661 ?_;refine bD Z Z Z Z (n_w) ?_;rintro r70 K71 ⟨rfl,rfl⟩;refine au 0 ?_;rw [hwn.1,hwn.2];refine au 17142355661 ?_;refine bF 205 (fun g20_3=>?_) (fun g20_3=>?_)
   ·refine au 126071 ?_;refine bF 209 (fun g20_7=>?_) (fun g20_7=>?_)
    ·refine au 171 ?_;refine bF 212 (fun g20_10=>?_) (fun g20_10=>?_)
     ·refine au 35260260888 ?_;refine bB hret [(0,_),(1,_),(s1,_),(e1,_)] ?_;exact ⟨rfl,rfl⟩
     refine au 35260250711 ?_;refine bB hret [(0,_),(1,_),(s1,_),(e1,_)] ?_;exact ⟨by rw [h.wrong k hkr (by simpa using g20_10),beq_self_eq_true]; rfl,rfl⟩
    simp at g20_7
   simp at g20_3
structure Tot {α:Type} (lt:α->α->Bool):Prop where
 irr:∀ a,lt a a=false
 tri:∀ a b,lt a b=false->lt b a=false->a=b
 tr:∀ a b c,lt a b=true->lt b c=true->lt a c=true
theorem Tot.least {α:Type} {lt:α->α->Bool} (h:Tot lt):∀ (xs:List α) (o:α),∀ y∈o::xs,lt y (zQ lt o xs)=false
 | [],o,y,hy=>by
  rw [List.mem_singleton.1 hy];exact h.irr o
 | x::xs,o,y,hy=>by
  show lt y (zQ lt (if lt x o=true then x else o) xs)=false;have ih:=h.least xs (if lt x o=true then x else o);have key:∀ z,z=x\/z=o->lt z (zQ lt (if lt x o=true then x else o) xs)=false:=fun z hz=>by
   by_cases hc:lt x o=true
   ·rw [if_pos hc] at ih ⊢;have h1:=ih x List.mem_cons_self;rcases hz with rfl | rfl
    ·exact h1
    ·rw [Bool.eq_false_iff] at h1 ⊢;exact fun h2=>h1 (h.tr _ _ _ hc h2)
   ·rw [if_neg hc] at ih ⊢;have h1:=ih o List.mem_cons_self;rcases hz with rfl | rfl
    ·rw [Bool.eq_false_iff] at h1 ⊢;intro h2;have hc':lt z o=false:=by simpa using hc
     by_cases h3:lt o z=true
     ·exact h1 (h.tr _ _ _ h3 h2)
     ·have:=h.tri _ _ hc' (by simpa using h3);subst this;exact h1 h2
    ·exact h1
  rcases lI.1 hy with rfl | hy
  ·exact key _ (.inr rfl)
  ·rcases lI.1 hy with rfl | hy
   ·exact key _ (.inl rfl)
   ·exact ih y (lL _ hy)
theorem Tot.uniq {α:Type} {lt:α->α->Bool} (h:Tot lt) {o m:α} {xs:List α} (hm:m∈o::xs) (hl:∀ y∈o::xs,lt y m=false):zQ lt o xs=m :=
 h.tri _ _ (hl _ kf) (h.least xs o m hm)
theorem Tot.same {α:Type} {lt:α->α->Bool} (h:Tot lt) {o o':α} {xs xs':List α} (he:∀ y,y∈o::xs↔y∈o'::xs'):zQ lt o xs=zQ lt o' xs' :=
 h.uniq ((he _).2 kf) fun y hy=>h.least _ _ y ((he y).1 hy)
def minL {α:Type} (lt:α->α->Bool) (d:α) (xs:List α):α:=zQ lt (xs.headD d) (xs.drop 1)
def goodS (b:Bk) (S:List Int):Bool:=seenM b S && !badM b S b.seekers.length
def guessS (b:Bk) (pre:List (List Int)):List (List Int×Int):=(pre.filter (goodS b)).map fun S=>(S,wrongM b S)
def allS (b:Bk) (S l:List Int):Bool:=l.all fun k=>rightM b S k.toNat
def togS (b:Bk) (l:List Int):Bool:=(setsB b).any fun S=>seenM b S&&allS b S l
def uptoM (n:Nat):List Int:=(List.range n).map fun k:Nat=>(k:Int)
def oddS (b:Bk) (pre:List (List Int)):List (List Int):=pre.filter fun l => !togS b l
end Go.Vel
namespace Go.Vel
open Go Go.Conc Go.Proofs
structure Wider (b o:Bk):Prop where
 steps:o.steps=b.steps
 seekers:o.seekers=b.seekers
 seen:o.seen=b.seen
 wrong:b.wrong<=o.wrong/\o.wrong<=3
 low:0<=o.low/\o.low<=b.low
 high:b.high<=o.high/\o.high<=3
namespace Wider
variable {b o:Bk}
theorem rightM (h:Wider b o) (S:List Int) (k:Nat):Vel.rightM o S k=Vel.rightM b S k:=by
 unfold Vel.rightM wideM inM;rw [h.seekers,h.steps]
theorem glassM (h:Wider b o) (k:Nat):Vel.glassM o k=Vel.glassM b k:=by unfold Vel.glassM; rw [h.seekers]
theorem badM (h:Wider b o) (S:List Int) (n:Nat):Vel.badM o S n=Vel.badM b S n:=by
 unfold Vel.badM;congr 1;funext k;rw [h.rightM,h.glassM]
theorem wrongL (h:Wider b o) (S:List Int) (n:Nat):Vel.wrongL o S n=Vel.wrongL b S n:=by
 unfold Vel.wrongL;congr 2;funext k;rw [h.rightM]
theorem wrongM (h:Wider b o) (S:List Int):Vel.wrongM o S=Vel.wrongM b S:=by
 unfold Vel.wrongM;rw [h.seekers,h.badM,h.wrongL]
theorem seenM (h:Wider b o) {S:List Int} (hs:Vel.seenM b S=true):Vel.seenM o S=true:=by
 unfold Vel.seenM at hs ⊢;rw [h.seen];simp only [mX,decide_eq_true_eq] at hs ⊢;obtain ⟨⟨h1,h2⟩,h3⟩:=hs;have:=h.low;have:=h.high;exact ⟨⟨by omega,oQ⟩,h3⟩
theorem canM (h:Wider b o) {S:List Int} (hs:Vel.canM b S=true):Vel.canM o S=true:=by
 unfold Vel.canM at hs ⊢;rw [h.seekers,h.badM,h.wrongL];simp only [mX,decide_eq_true_eq] at hs ⊢;have:=h.wrong;exact ⟨⟨hs.1.1,oQ⟩,h.seenM hs.2⟩
theorem checkM (h:Wider b o) (hc:Vel.checkM b=0):Vel.checkM o=0:=by
 obtain ⟨h1,h2,h3⟩:=(ud b).1 hc;have hr:=y7 (b:=b) (by rw [h1]; rfl);have hst:∀ n,zJ o n=zJ b n:=fun n=>by unfold zJ; rw [h.steps]
 refine (ud o).2 ⟨?_,?_,?_⟩
 ·have:=h.wrong;have:=h.low;have:=h.high;unfold numbersM;rw [h.steps];simp only [cond_eq_if,Bool.or_eq_true,Bool.not_eq_true',Bool.and_eq_false_iff,decide_eq_false_iff_not,decide_eq_true_eq];rw [if_neg oQ]
 ·have h4:∀ n,heardL o n=heardL b n:=fun n=>by
   induction n with
   | zero=>rfl
   | succ n ih =>
    unfold heardL;rw [ih];unfold heard1;simp only [h.seekers,hst]
  unfold heardM at h2 ⊢;rw [h.seekers,h4]; exact h2
 ·unfold lookedM at h3 ⊢;simp only [h.seen,hst];exact h3
theorem sets (h:Wider b o) (hb:BkOk b) (ho:BkOk o) (hh:0<=b.high) {S:List Int} (hS:S∈setsB b):S∈setsB o:=by
 obtain ⟨h1,h2,h3⟩:=(zdZ hb hh S).1 hS;have:=h.high;exact (zdZ ho oQ S).2 ⟨h1,by rw [h.steps]; exact h2,oQ⟩
theorem states (h:Wider b o) (hc:Vel.checkM b=0) {S:List Int} (hS:S∈zb b):S∈zb o:=by
 have hb:=yp hc;have ho:=yp (h.checkM hc);rw [zcq hb] at hS;rw [zcq ho];exact ⟨h.sets hb ho (zkG hc) hS.1,h.canM hS.2⟩
theorem less (h:Wider b o) (hc:Vel.checkM b=0) (hne:zb b≠[]):Less o b:=⟨yp (h.checkM hc),yp hc,h.steps.symm,fun _ hS=>h.states hc hS,hne⟩
theorem many (h:Wider b o) (hc:Vel.checkM b=0):((zb b).length:Int)<=(zb o).length:=Int.ofNat_le.2 (zaa (zaU b) fun _ hS=>h.states hc hS)
end Wider
end Go.Vel
namespace Go.Vel
open Go Go.Conc Go.Proofs
theorem zlA {main T} (hT:zk tp main T) {gm} {b:Bk} {s e:Nat} (hse:s≠e) :
  zh tp T gm 7 [.agg (zC b s e)] [(s,zo b),(e,zp b)] (fun r K'=>r=zm (fitM b)/\K'=[(s,zo b),(e,zp b)]):=by
 refine ze 11 hT Tryz.func7 fun Y hret=>?_;refine au 21042 ?_;intro jb hjb;refine au 6804235 ?_;refine bD Z Z Z Z (zjp hT (s:=s) (e:=e)) ?_;rintro r1 K2 ⟨rfl,rfl⟩;refine au 1300 ?_;refine bF 6 (fun g1_4=>?_) (fun g1_4=>?_)
 ·obtain ⟨hs1,hs2,hs3⟩:=zbq (b:=b) (by simpa using g1_4);refine au 680 ?_;refine bD Z Z Z Z (zaw hT hse (fun x hx=>Nat.le_trans (hs3 x hx) oQ) oQ oQ) ?_;rintro r4 K5 ⟨rfl,rfl⟩;refine au 352607 ?_;refine bB hret [(s,_),(e,_)] ?_;exact ⟨by unfold fitM; rw [g1_4,Bool.true_and]; rfl,rfl⟩
 refine au 35250888 ?_;refine bB hret [(s,_),(e,_)] ?_;exact ⟨by unfold fitM; rw [g1_4,Bool.false_and]; rfl,rfl⟩
theorem pendS {ops:Array Oper} {i:Nat} {pend pend':List Pd} {es:List Nat} (h:edgesOf .any ops i=es) (h2:(pend.filter fun p => !(es.elem p.i))=pend'):pendOf ops i pend=pend':=by unfold pendOf; rw [h]; exact h2
section
variable {P:Program} {gm:Nat->Option Nat} {T:Goroutine->Hp->Prop}
theorem vl {g:FuncId} {a1:AV} {j j2 n:Nat} {ob:AObj} {l:List AV} {e:TypeId} {s:Nat} {Post:AV->KV->Prop} (h:zh P T gm g [a1,.sl j2 0 n] [(j,ob),(j2,.cells l e false)] Post):zh P T gm g [a1,.row j2 n] [(j,ob),(j2,.row l e s)] Post:=by
 intro A hv hn φ F H vs c cs h1 h2 h3 q;have hj:A[j2]? =some (.row l e s):=hv.get sQ;have hb:(φ j2).base=0:=(h2.obj j2 _ hj).2.1;have hst:Kstep [(j,ob),(j2,AObj.row l e s)] A [(j,ob),(j2,.cells l e false)] (A.set j2 (.cells l e false)):=.set hv hn (.tail .head);refine h (A.set j2 (.cells l e false)) hst.view hst.nd φ F H vs c cs (by simpa using h1) (h2.turn hj (fun ho hl=>?_) (fun h=>by cases h) (fun _=>rfl) (fun hs=>?_)) ⟨by simpa using h3.1,fun t a y ha hy=>?_⟩ fun r A' φ' H' v ⟨K',hk,hp⟩ hA hlen hH' hv'=>q r A' φ' H' v ⟨K',hst.trans hk,hp⟩ (by simpa using hA) (by simpa using hlen) hH' hv'
 ·have hc:0<(φ j2).cap:=by
   rcases mP (φ j2).cap with e | e
   ·exact absurd (ho.1 e) hl
   ·exact e
  obtain ⟨cur,q1,q2,q3,q4,q5⟩:=ho.2.2 hc;exact ⟨true,cur,(_,0,0),q1,(fun h=>by cases h),fun t u hu=>by rw [hb,Nat.zero_add]; exact q5 t u hu⟩
 ·show 0<(φ j2).cap;rcases mP (φ j2).cap with e | e
  ·exact absurd ((h2.obj j2 _ hj).1 e) hs
  ·exact e
 ·match t,ha with
  | 0,ha =>
   cases ha;simpa using h3.2 0 a1 y rfl hy
  | 1,ha =>
   cases ha;have:=wP (j:=j2) hb (h3.2 1 _ y rfl hy);simpa [unrow] using this
  | t+2,ha=>simp at ha
end
theorem uH {main T} (hT:zk tp main T) {gm} {j off j2 off2:Nat} {ob ob2:AObj} (xs:List Int) (hjj:j≠j2) (hI:IntsAt ob off xs) (hI2:IntsAt ob2 off2 xs) (hlx:xs.length<=100000) :
  zh tp T gm 38 [.sl j off xs.length,.sl j2 off2 xs.length] [(j,ob),(j2,ob2)] (fun r K'=>r=zm true/\K'=[(j,ob),(j2,ob2)]) :=
 (zjE hT hjj hI hI2 hlx).mono fun r K' ⟨h1,h2⟩=>⟨by rw [h1,decide_eq_true rfl],h2⟩
theorem v8 {b:Bk} (h:(b.seekers.all fun x=>decide (x.name.size<=1000))=true):∀ x∈b.seekers,x.name.size<=1000:=fun x hx=>of_decide_eq_true (List.all_eq_true.1 h x hx)
theorem ex_n1:∀ x∈exB.seekers,x.name.size<=1000:=v8 (by kernel_rfl)
theorem ex_n2:∀ x∈exB2.seekers,x.name.size<=1000:=v8 (by kernel_rfl)
theorem ex_n3:∀ x∈(giveB exB 0).seekers,x.name.size<=1000:=v8 (by kernel_rfl)
theorem ex_n4:∀ x∈(lookB exB ⟨3,true⟩).seekers,x.name.size<=1000:=v8 (by kernel_rfl)
theorem ex_n5:∀ x∈(hearB exB exX).seekers,x.name.size<=1000:=v8 (by kernel_rfl)
theorem ex_l1:exB.seen.length<=1000:=by decide
theorem ex_l2:exB2.seen.length<=1000:=by decide
theorem ex_l3:(giveB exB 0).seen.length<=1000:=by decide
theorem ex_l4:(lookB exB ⟨3,true⟩).seen.length<=1000:=by decide
theorem ex_l5:(hearB exB exX).seen.length<=1000:=by decide
theorem kJ (tame:Tame tp) {Ψ:Goroutine->World->Prop}:zh tp (BT tp Ψ) gmS 9 [] [(0,zx),(1,zB)] (fun r K'=>r=zm true/\K'=[(0,zx),(1,zB)]):=by
 have hT:=wM tame Ψ;refine ze 427 hT Tryz.func9 fun Y hret=>?_;refine au 423542 ?_;refine bD Z Z Z Z (zgG hT) ?_;rintro r1 K2 ⟨s,e,hse,rfl,rfl⟩;refine au 220 ?_;intro j1 hj1;refine au 23170 ?_;refine bC [(j1,_),(0,_),(1,_),(s,_),(e,_)] ?_;refine au 6804 ?_;refine bI Z Z Z (zS (l:=[_]) Z SlEl.h TyZ.h dQ dQ Z) (fun _=>zz rfl tQ) fun ja2 hja2=>?_;refine TK.freezeR 40 Z uQ Z ?_;refine au 0 ?_;refine bD Z Z Z Z (zbu hT (b:=exB) (s:=s) (e:=e) (k:=0) (xs:=[3]) ex_n1 ex_l1 (yB [3] 3 false) dQ) ?_;rintro r4 K5 ⟨rfl,rfl⟩;refine au 0 ?_;rw [ex_r0];refine au 2355661 ?_;refine bC [(j1,_),(0,_),(1,_),(s,_),(e,_)] ?_;refine au 6804 ?_;refine bI Z Z Z (zS (l:=[_]) Z SlEl.h TyZ.h dQ dQ Z) (fun _=>zz rfl tQ) fun ja3 hja3=>?_;refine TK.freezeR 46 Z uQ Z ?_;refine au 0 ?_;refine bD Z Z Z Z (zbu hT (b:=exB) (s:=s) (e:=e) (k:=1) (xs:=[3]) ex_n1 ex_l1 (yB [3] 3 false) dQ) ?_;rintro r7 K8 ⟨rfl,rfl⟩;refine au 0 ?_;rw [ex_r1];refine au 2355661 ?_;refine bC [(j1,_),(0,_),(1,_),(s,_),(e,_)] ?_;refine au 6804 ?_;refine bI Z Z Z (zS (l:=[_]) Z SlEl.h TyZ.h dQ dQ Z) (fun _=>zz rfl tQ) fun ja4 hja4=>?_;refine TK.freezeR 52 Z uQ Z ?_;refine au 0 ?_;refine bD Z Z Z Z (zbC hT (b:=exB) (s:=s) (e:=e) hse (xs:=[3]) ex_n1 ex_l1 (yB [3] 3 false) dQ) ?_;rintro r10 K11 ⟨rfl,rfl⟩;refine au 0 ?_;rw [ex_s3];refine au 2355661 ?_;refine bC [(j1,_),(0,_),(1,_),(s,_),(e,_)] ?_;refine au 6804 ?_;refine bI Z Z Z (zS (l:=[_]) Z SlEl.h TyZ.h dQ dQ Z) (fun _=>zz rfl tQ) fun ja5 hja5=>?_;refine TK.freezeR 58 Z uQ Z ?_;refine au 0 ?_;refine bD Z Z Z Z (zbC hT (b:=exB) (s:=s) (e:=e) hse (xs:=[4]) ex_n1 ex_l1 (yB [4] 3 false) dQ) ?_;rintro r13 K14 ⟨rfl,rfl⟩;refine au 0 ?_;rw [ex_s4];refine au 2355661 ?_;refine bC [(j1,_),(0,_),(1,_),(s,_),(e,_)] ?_;refine au 6804 ?_;refine bD Z Z Z Z (y5 hT (b:=exB) (s:=s) (e:=e) hse ex_n1 ex_l1) ?_;rintro r16 K17 ⟨rfl,rfl⟩;refine au 0 ?_;rw [ex_st];refine au 68042355661 ?_;refine bD Z Z Z Z (zay tame (b:=exB) (s:=s) (e:=e) hse ex_n1 ex_l1) ?_;rintro r19 K20 h21;rcases h21 with ⟨hb0,rfl,rfl⟩ | ⟨hb0,jc,rfl,rfl⟩
 ·refine au 0 ?_;exact absurd zhI hb0
 ·refine au 0 ?_;rw [zhJ];refine au 61 ?_;refine TK.freezeR 70 Z uQ Z ?_;refine au 680423556 ?_;refine bD Z Z Z Z (uM hT (b:=exB) (s:=s) (e:=e) (n:=1) hse ex_n1 ex_l1) ?_;rintro r22 K23 ⟨rfl,rfl⟩;refine au 0 ?_;rw [zlu];refine au 68042355661 ?_;refine bD Z Z Z Z (uM hT (b:=exB) (s:=s) (e:=e) (n:=0) hse ex_n1 ex_l1) ?_;rintro r25 K26 ⟨rfl,rfl⟩;refine au 0 ?_;rw [zlt];refine au 112507112501125030011250112503001125071125071125071125071125071125071125071171422355661 ?_;refine bI Z Z Z (zS (l:=[_]) Z SlEl.h TyZ.h dQ dQ Z) (fun _=>zz rfl tQ) fun jd hjd=>?_;refine bD Z Z Z Z (vl (uH hT [1] (j:=jc) (j2:=jd) (fun h=>hjd (by subst h; simp [keys])) (yB [1] 3 false) (yB [1] 3 false) dQ)) ?_;rintro r28 K29 ⟨rfl,rfl⟩;refine au 21201903250711250711250300 ?_;refine bC [(j1,_),(0,_),(1,_),(s,_),(e,_)] ?_;refine au 6804 ?_;refine bD Z Z Z Z (zfX hT (b:=exB) (s:=s) (e:=e) hse ex_n1 ex_l1) ?_;rintro r31 K32 h33;rcases h33 with ⟨hb0,rfl,rfl⟩ | ⟨hb0,jp,jq,rfl,rfl⟩
  ·refine au 0 ?_;exact absurd zhI hb0
  ·refine au 0 ?_;rw [ex_p1,ex_p0];refine au 661 ?_;refine TK.freezeR 148 Z uQ Z ?_;refine au 6804235556 ?_;refine bD Z Z Z Z (wV hT (b:=exB) (s:=s) (e:=e) (lo:=6) (hi:=1) hse ex_n1 ex_l1) ?_;rintro r34 K35 ⟨rfl,rfl⟩;refine au 0 ?_;rw [ex_w];refine au 220661 ?_;intro jw hjw;refine au 6804235170 ?_;refine bD Z Z Z Z (vr tame (b:=exB) (s:=s) (e:=e) hse ex_n1 ex_l1) ?_;rintro r37 K38 ⟨rfl,rfl⟩;refine au 0 ?_;rw [ex_n];refine au 680423555566661 ?_;refine bD Z Z Z Z (kX hT (b:=exB) (s:=s) (e:=e) (n:=0) hse ex_n1 ex_l1) ?_;rintro r40 K41 ⟨rfl,rfl⟩;refine au 0 ?_;rw [ex_wr];refine au 68042355661 ?_;refine bD Z Z Z Z (zdE hT (b:=exB) (s:=s) (e:=e) hse ex_n1 ex_l1) ?_;rintro r43 K44 h45;rcases h45 with ⟨hc0,rfl,rfl⟩ | ⟨hc0,hg0,rfl,rfl⟩ | ⟨hc0,hg0,jl,rfl,rfl⟩
   ·refine au 0 ?_;exact absurd zeu hc0
   ·refine au 0 ?_;exact absurd hg0 ex_g0
   ·refine au 0 ?_;rw [ex_li];refine au 680423555566661 ?_;refine bD Z Z Z Z (zep hT (b:=exB) (s:=s) (e:=e) hse ex_n1 ex_l1) ?_;rintro r46 K47 h48;rcases h48 with ⟨hc0,rfl,rfl⟩ | ⟨hc0,hg0,rfl,rfl⟩ | ⟨hc0,hg0,jk,rfl,rfl⟩
    ·refine au 0 ?_;exact absurd zeu hc0
    ·refine au 0 ?_;rw [ex_t] at hg0; cases hg0
    ·refine au 0 ?_;rw [ex_cl];refine au 22355661 ?_;refine bC [(j1,_),(0,_),(1,_),(s,_),(e,_),(jp,_),(jq,_),(jw,_),(jl,_),(jk,_)] ?_;refine TK.dr [0,1,2,3,4,5,6,7,8,9,10,11,12,13,14,15,16,17,18,19,20,21,22,23,24,25,26,27,28,29,30,31,32,33,34,35,36,37,38,39,40,41,42,43,44,45,46,47,48,49,50,51,52,53,54,55,56,57,58,59,60,61,62,63,64,65,66,67,68,69,70,71,72,73] [0,1,2,3,4,5,6,7,8,9,10,11,12,13,14,15,16,17,18,19,20,21,22,23,24,25,26,27,28,29,30,31,32,33,34,35,36,37,38,39,40,41,42,43,44,45,46,47,48,49,50,51,52,53,54,55,56,57,58,59,60,61,62,63,64,65,66,67,68,69,70,71,72,73] ?_;refine ad [[1,3],[4,179],[1,180],[1,5,181],[4,181,182],[6,181,183],[1,184],[1,7,185],[4,185,186],[6,185,187],[1,188],[1,9,189],[4,189,190],[6,189,191],[1,192],[1,11,193],[4,193,194],[6,193,195],[1,196],[1,13,197],[4,197,198],[6,197,199],[1,200],[1,18,201]] ?_;refine bU [201,202] Z (q_len Z Z Z Und.h) ?_;refine ad [[4,201,203],[6,201,204],[1,205],[1,19,206]] ?_;refine bV (pend':=[Pd.mk 28 [19,206] [],Pd.mk 26 [201,204] [],Pd.mk 25 [201,203] [],Pd.mk 24 [201,202] [],Pd.mk 23 [18,201] [],Pd.mk 22 [200] [],Pd.mk 21 [197,199] [],Pd.mk 20 [197,198] [],Pd.mk 19 [13,197] [],Pd.mk 18 [196] [],Pd.mk 17 [193,195] [],Pd.mk 16 [193,194] [],Pd.mk 15 [11,193] [],Pd.mk 14 [192] [],Pd.mk 13 [189,191] [],Pd.mk 12 [189,190] [],Pd.mk 11 [9,189] [],Pd.mk 10 [188] [],Pd.mk 9 [185,187] [],Pd.mk 8 [185,186] [],Pd.mk 7 [7,185] [],Pd.mk 6 [184] [],Pd.mk 5 [181,183] [],Pd.mk 4 [181,182] [],Pd.mk 3 [5,181] [],Pd.mk 2 [180] [],Pd.mk 1 [179] [],Pd.mk 0 [3] []]) [206] Z Z Z (pendS (es:=[27]) Z Z) Z (zS (l:=[_,_,_]) Z SlEl.h TyZ.h dQ dQ Z) (fun _=>zz rfl tQ) sQ fun jd1 hjd1=>?_;refine bQ (pend':=[Pd.mk 26 [201,204] [],Pd.mk 25 [201,203] [],Pd.mk 24 [201,202] [],Pd.mk 23 [18,201] [],Pd.mk 22 [200] [],Pd.mk 21 [197,199] [],Pd.mk 20 [197,198] [],Pd.mk 19 [13,197] [],Pd.mk 18 [196] [],Pd.mk 17 [193,195] [],Pd.mk 16 [193,194] [],Pd.mk 15 [11,193] [],Pd.mk 14 [192] [],Pd.mk 13 [189,191] [],Pd.mk 12 [189,190] [],Pd.mk 11 [9,189] [],Pd.mk 10 [188] [],Pd.mk 9 [185,187] [],Pd.mk 8 [185,186] [],Pd.mk 7 [7,185] [],Pd.mk 6 [184] [],Pd.mk 5 [181,183] [],Pd.mk 4 [181,182] [],Pd.mk 3 [5,181] [],Pd.mk 2 [180] [],Pd.mk 1 [179] [],Pd.mk 0 [3] []]) [206,207,208] Z (pendS (es:=[28,29,27,27]) Z Z) Z Z Z (vl (uH hT [1,3,6] (j:=jq) (j2:=jd1) (fun h=>hjd1 (by subst h; simp [keys])) (yB [1,3,6] 3 false) (yB [1,3,6] 3 false) dQ)) (fun r49 K50 h51=>⟨?_,?_⟩)
     ·rcases h51 with ⟨rfl,rfl⟩
      all_goals simp
     obtain ⟨rfl,rfl⟩:=h51;try simp only [cA]
     refine bS tQ ?_;refine bU [206,209] Z (q_not Z Z) ?_;refine ad [[6,206,210],[1,211],[12,20,212]] ?_;refine bQ (pend':=[Pd.mk 34 [20,212] [(_,_)],Pd.mk 32 [206,210] [],Pd.mk 31 [206,209] [],Pd.mk 26 [201,204] [],Pd.mk 25 [201,203] [],Pd.mk 24 [201,202] [],Pd.mk 23 [18,201] [],Pd.mk 22 [200] [],Pd.mk 21 [197,199] [],Pd.mk 20 [197,198] [],Pd.mk 19 [13,197] [],Pd.mk 18 [196] [],Pd.mk 17 [193,195] [],Pd.mk 16 [193,194] [],Pd.mk 15 [11,193] [],Pd.mk 14 [192] [],Pd.mk 13 [189,191] [],Pd.mk 12 [189,190] [],Pd.mk 11 [9,189] [],Pd.mk 10 [188] [],Pd.mk 9 [185,187] [],Pd.mk 8 [185,186] [],Pd.mk 7 [7,185] [],Pd.mk 6 [184] [],Pd.mk 5 [181,183] [],Pd.mk 4 [181,182] [],Pd.mk 3 [5,181] [],Pd.mk 2 [180] [],Pd.mk 1 [179] [],Pd.mk 0 [3] []]) [212] Z (pendS (es:=[33,33]) Z Z) Z Z Z (to_ok hT) (fun r52 K53 h54=>⟨?_,?_⟩)
     ·rcases h54 with ⟨rfl,rfl⟩
      all_goals simp
     obtain ⟨rfl,rfl⟩:=h54;try simp only [cA]
     refine bS tQ ?_;refine bU [212,213,214] Z (zdQ Z Z Z Z Z FlatF.h EqG.h) ?_;refine ad [[6,212,215],[1,216],[1,21,217],[4,217,218],[6,217,219],[1,220],[1,22,221],[4,221,222],[6,221,223],[1,224],[1,23,225]] ?_;refine bU [225,226] Z (q_not Z Z) ?_;refine ad [[6,225,227],[1,228],[1,24,229],[4,229,230],[6,229,231],[1,232],[1,25,233]] ?_;refine bV (pend':=[Pd.mk 55 [25,233] [],Pd.mk 53 [229,231] [],Pd.mk 52 [229,230] [],Pd.mk 51 [24,229] [],Pd.mk 50 [228] [],Pd.mk 49 [225,227] [],Pd.mk 48 [225,226] [],Pd.mk 47 [23,225] [],Pd.mk 46 [224] [],Pd.mk 45 [221,223] [],Pd.mk 44 [221,222] [],Pd.mk 43 [22,221] [],Pd.mk 42 [220] [],Pd.mk 41 [217,219] [],Pd.mk 40 [217,218] [],Pd.mk 39 [21,217] [],Pd.mk 38 [216] [],Pd.mk 37 [212,215] [],Pd.mk 36 [212,213,214] [],Pd.mk 34 [20,212] [(_,_)],Pd.mk 32 [206,210] [],Pd.mk 31 [206,209] [],Pd.mk 26 [201,204] [],Pd.mk 25 [201,203] [],Pd.mk 24 [201,202] [],Pd.mk 23 [18,201] [],Pd.mk 22 [200] [],Pd.mk 21 [197,199] [],Pd.mk 20 [197,198] [],Pd.mk 19 [13,197] [],Pd.mk 18 [196] [],Pd.mk 17 [193,195] [],Pd.mk 16 [193,194] [],Pd.mk 15 [11,193] [],Pd.mk 14 [192] [],Pd.mk 13 [189,191] [],Pd.mk 12 [189,190] [],Pd.mk 11 [9,189] [],Pd.mk 10 [188] [],Pd.mk 9 [185,187] [],Pd.mk 8 [185,186] [],Pd.mk 7 [7,185] [],Pd.mk 6 [184] [],Pd.mk 5 [181,183] [],Pd.mk 4 [181,182] [],Pd.mk 3 [5,181] [],Pd.mk 2 [180] [],Pd.mk 1 [179] [],Pd.mk 0 [3] []]) [233] Z Z Z (pendS (es:=[54]) Z Z) Z (zS (l:=[_]) Z SlEl.h TyZ.h dQ dQ Z) (fun _=>zz rfl tQ) sQ fun jd2 hjd2=>?_;refine bQ (pend':=[Pd.mk 53 [229,231] [],Pd.mk 52 [229,230] [],Pd.mk 51 [24,229] [],Pd.mk 50 [228] [],Pd.mk 49 [225,227] [],Pd.mk 48 [225,226] [],Pd.mk 47 [23,225] [],Pd.mk 46 [224] [],Pd.mk 45 [221,223] [],Pd.mk 44 [221,222] [],Pd.mk 43 [22,221] [],Pd.mk 42 [220] [],Pd.mk 41 [217,219] [],Pd.mk 40 [217,218] [],Pd.mk 39 [21,217] [],Pd.mk 38 [216] [],Pd.mk 37 [212,215] [],Pd.mk 36 [212,213,214] [],Pd.mk 34 [20,212] [(_,_)],Pd.mk 32 [206,210] [],Pd.mk 31 [206,209] [],Pd.mk 26 [201,204] [],Pd.mk 25 [201,203] [],Pd.mk 24 [201,202] [],Pd.mk 23 [18,201] [],Pd.mk 22 [200] [],Pd.mk 21 [197,199] [],Pd.mk 20 [197,198] [],Pd.mk 19 [13,197] [],Pd.mk 18 [196] [],Pd.mk 17 [193,195] [],Pd.mk 16 [193,194] [],Pd.mk 15 [11,193] [],Pd.mk 14 [192] [],Pd.mk 13 [189,191] [],Pd.mk 12 [189,190] [],Pd.mk 11 [9,189] [],Pd.mk 10 [188] [],Pd.mk 9 [185,187] [],Pd.mk 8 [185,186] [],Pd.mk 7 [7,185] [],Pd.mk 6 [184] [],Pd.mk 5 [181,183] [],Pd.mk 4 [181,182] [],Pd.mk 3 [5,181] [],Pd.mk 2 [180] [],Pd.mk 1 [179] [],Pd.mk 0 [3] []]) [233,234,235] Z (pendS (es:=[55,56,54,54]) Z Z) Z Z Z (vl (uH hT [1] (j:=jl) (j2:=jd2) (fun h=>hjd2 (by subst h; simp [keys])) (yB [1] 3 false) (yB [1] 3 false) dQ)) (fun r55 K56 h57=>⟨?_,?_⟩)
     ·rcases h57 with ⟨rfl,rfl⟩
      all_goals simp
     obtain ⟨rfl,rfl⟩:=h57;try simp only [cA]
     refine bS tQ ?_;refine bU [233,236] Z (q_not Z Z) ?_;refine ad [[6,233,237],[1,238],[1,26,239],[4,239,240],[6,239,241],[1,242],[1,27,243]] ?_;refine bU [243,244] Z (q_not Z Z) ?_;refine ad [[6,243,245],[1,246],[1,28,247]] ?_;refine bV (pend':=[Pd.mk 69 [28,247] [],Pd.mk 67 [243,245] [],Pd.mk 66 [243,244] [],Pd.mk 65 [27,243] [],Pd.mk 64 [242] [],Pd.mk 63 [239,241] [],Pd.mk 62 [239,240] [],Pd.mk 61 [26,239] [],Pd.mk 60 [238] [],Pd.mk 59 [233,237] [],Pd.mk 58 [233,236] [],Pd.mk 53 [229,231] [],Pd.mk 52 [229,230] [],Pd.mk 51 [24,229] [],Pd.mk 50 [228] [],Pd.mk 49 [225,227] [],Pd.mk 48 [225,226] [],Pd.mk 47 [23,225] [],Pd.mk 46 [224] [],Pd.mk 45 [221,223] [],Pd.mk 44 [221,222] [],Pd.mk 43 [22,221] [],Pd.mk 42 [220] [],Pd.mk 41 [217,219] [],Pd.mk 40 [217,218] [],Pd.mk 39 [21,217] [],Pd.mk 38 [216] [],Pd.mk 37 [212,215] [],Pd.mk 36 [212,213,214] [],Pd.mk 34 [20,212] [(_,_)],Pd.mk 32 [206,210] [],Pd.mk 31 [206,209] [],Pd.mk 26 [201,204] [],Pd.mk 25 [201,203] [],Pd.mk 24 [201,202] [],Pd.mk 23 [18,201] [],Pd.mk 22 [200] [],Pd.mk 21 [197,199] [],Pd.mk 20 [197,198] [],Pd.mk 19 [13,197] [],Pd.mk 18 [196] [],Pd.mk 17 [193,195] [],Pd.mk 16 [193,194] [],Pd.mk 15 [11,193] [],Pd.mk 14 [192] [],Pd.mk 13 [189,191] [],Pd.mk 12 [189,190] [],Pd.mk 11 [9,189] [],Pd.mk 10 [188] [],Pd.mk 9 [185,187] [],Pd.mk 8 [185,186] [],Pd.mk 7 [7,185] [],Pd.mk 6 [184] [],Pd.mk 5 [181,183] [],Pd.mk 4 [181,182] [],Pd.mk 3 [5,181] [],Pd.mk 2 [180] [],Pd.mk 1 [179] [],Pd.mk 0 [3] []]) [247] Z Z Z (pendS (es:=[68]) Z Z) Z (zS (l:=[_,_,_]) Z SlEl.h TyZ.h dQ dQ Z) (fun _=>zz rfl tQ) sQ fun jd3 hjd3=>?_;refine bQ (pend':=[Pd.mk 67 [243,245] [],Pd.mk 66 [243,244] [],Pd.mk 65 [27,243] [],Pd.mk 64 [242] [],Pd.mk 63 [239,241] [],Pd.mk 62 [239,240] [],Pd.mk 61 [26,239] [],Pd.mk 60 [238] [],Pd.mk 59 [233,237] [],Pd.mk 58 [233,236] [],Pd.mk 53 [229,231] [],Pd.mk 52 [229,230] [],Pd.mk 51 [24,229] [],Pd.mk 50 [228] [],Pd.mk 49 [225,227] [],Pd.mk 48 [225,226] [],Pd.mk 47 [23,225] [],Pd.mk 46 [224] [],Pd.mk 45 [221,223] [],Pd.mk 44 [221,222] [],Pd.mk 43 [22,221] [],Pd.mk 42 [220] [],Pd.mk 41 [217,219] [],Pd.mk 40 [217,218] [],Pd.mk 39 [21,217] [],Pd.mk 38 [216] [],Pd.mk 37 [212,215] [],Pd.mk 36 [212,213,214] [],Pd.mk 34 [20,212] [(_,_)],Pd.mk 32 [206,210] [],Pd.mk 31 [206,209] [],Pd.mk 26 [201,204] [],Pd.mk 25 [201,203] [],Pd.mk 24 [201,202] [],Pd.mk 23 [18,201] [],Pd.mk 22 [200] [],Pd.mk 21 [197,199] [],Pd.mk 20 [197,198] [],Pd.mk 19 [13,197] [],Pd.mk 18 [196] [],Pd.mk 17 [193,195] [],Pd.mk 16 [193,194] [],Pd.mk 15 [11,193] [],Pd.mk 14 [192] [],Pd.mk 13 [189,191] [],Pd.mk 12 [189,190] [],Pd.mk 11 [9,189] [],Pd.mk 10 [188] [],Pd.mk 9 [185,187] [],Pd.mk 8 [185,186] [],Pd.mk 7 [7,185] [],Pd.mk 6 [184] [],Pd.mk 5 [181,183] [],Pd.mk 4 [181,182] [],Pd.mk 3 [5,181] [],Pd.mk 2 [180] [],Pd.mk 1 [179] [],Pd.mk 0 [3] []]) [247,248,249] Z (pendS (es:=[69,70,68,68]) Z Z) Z Z Z (vl (uH hT [0,1,2] (j:=jk) (j2:=jd3) (fun h=>hjd3 (by subst h; simp [keys])) (yB [0,1,2] 3 false) (yB [0,1,2] 3 false) dQ)) (fun r58 K59 h60=>⟨?_,?_⟩)
     ·rcases h60 with ⟨rfl,rfl⟩
      all_goals simp
     obtain ⟨rfl,rfl⟩:=h60;try simp only [cA]
     refine bS tQ ?_;refine bU [247,250] Z (q_not Z Z) ?_;refine ad [[6,247,251],[14]] ?_;refine au 2120190 ?_;refine bC [(j1,_),(0,_),(1,_),(s,_),(e,_)] ?_;refine au 6804 ?_;refine bD Z Z Z Z (zhu hT (b:=exB) (s:=s) (e:=e) hse ex_n1 ex_l1) ?_;rintro r61 K62 ⟨rfl,rfl⟩;refine au 0 ?_;rw [zkx];refine au 6804235556661 ?_;refine bD Z Z Z Z (zgT hT (b:=exB) (s:=s) (e:=e) hse ex_n1 ex_l1) ?_;rintro r64 K65 ⟨rfl,rfl⟩;refine au 0 ?_;rw [zkz];refine au 6804235556661 ?_;refine bD Z Z Z Z (zkB hT (b:=exB) (s:=s) (e:=e) (n:=0) hse ex_n1 ex_l1) ?_;rintro r67 K68 h69;rcases h69 with ⟨hb0,rfl,rfl⟩ | ⟨hb0,g3,g2,rfl,rfl⟩
     ·refine au 0 ?_;exact absurd zlw hb0
     ·refine au 0 ?_;refine TK.nd fun hnd=>?_;have hg3:g3≠g2:=fun h=>by subst h; simp [keys] at hnd
      try rw [show (0:Int).toNat=0 from rfl]
      refine au 220661 ?_;intro jg hjg;refine au 6804235170 ?_;refine bD Z Z Z Z (y5 hT (b:=giveB exB 0) (s:=g3) (e:=g2) hg3 ex_n3 ex_l3) ?_;rintro r70 K71 ⟨rfl,rfl⟩;refine au 0 ?_;rw [ex_g2];refine au 68042355661 ?_;refine bD Z Z Z Z (vr tame (b:=giveB exB 0) (s:=g3) (e:=g2) hg3 ex_n3 ex_l3) ?_;rintro r73 K74 ⟨rfl,rfl⟩;refine au 0 ?_;rw [ex_g3];refine au 23555566661 ?_;refine bC [(j1,_),(0,_),(1,_),(s,_),(e,_),(jg,_)] ?_;refine au 6804 ?_;refine bD Z Z Z Z (zkL hT (b:=exB) (s:=s) (e:=e) (n:=3) (sm:=true) hse ex_n1 ex_l1) ?_;rintro r76 K77 h78;rcases h78 with ⟨hb0,rfl,rfl⟩ | ⟨hb0,l3,l2,rfl,rfl⟩
      ·refine au 0 ?_;exact absurd ex_lk hb0
      ·refine au 0 ?_;refine TK.nd fun hnd=>?_;have hl3:l3≠l2:=fun h=>by subst h; simp [keys] at hnd
       refine au 6804235170661 ?_;refine bD Z Z Z Z (y5 hT (b:=lookB exB ⟨3,true⟩) (s:=l3) (e:=l2) hl3 ex_n4 ex_l4) ?_;rintro r79 K80 ⟨rfl,rfl⟩;refine au 0 ?_;rw [zly];refine au 2355661 ?_;refine bC [(j1,_),(0,_),(1,_),(s,_),(e,_),(jg,_)] ?_;refine au 4206804 ?_;refine bD Z Z Z Z (zkE hT (b:=exB) (s:=s) (e:=e) (x:=exX) hse ex_n1 ex_l1 dQ) ?_;rintro r82 K83 h84;rcases h84 with ⟨hb0,rfl,rfl⟩ | ⟨hb0,h3,h2,rfl,rfl⟩
       ·refine au 0 ?_;exact absurd ex_hr hb0
       ·refine au 0 ?_;refine TK.nd fun hnd=>?_;have hh3:h3≠h2:=fun h=>by subst h; simp [keys] at hnd
        refine au 6804235170661 ?_;refine bD Z Z Z Z (y5 hT (b:=hearB exB exX) (s:=h3) (e:=h2) hh3 ex_n5 ex_l5) ?_;rintro r85 K86 ⟨rfl,rfl⟩;refine au 0 ?_;rw [zlx];refine au 212019032507112507112503001125071125071125071125071125071125071125071125071125071125071125071125071125071125071125071171422355661 ?_;refine bC [(j1,_),(0,_),(1,_),(s,_),(e,_)] ?_;refine au 4 ?_;refine bD Z Z Z Z (zgf hT) ?_;rintro r88 K89 ⟨rfl,rfl⟩;refine au 680423170670 ?_;refine bD Z Z Z Z (y5 hT (b:=exB2) (s:=s) (e:=e) hse ex_n2 ex_l2) ?_;rintro r91 K92 ⟨rfl,rfl⟩;refine au 0 ?_;rw [zls];refine au 68042355661 ?_;refine bD Z Z Z Z (zdE hT (b:=exB2) (s:=s) (e:=e) hse ex_n2 ex_l2) ?_;rintro r94 K95 h96;rcases h96 with ⟨hc0,rfl,rfl⟩ | ⟨hc0,hg0,rfl,rfl⟩ | ⟨hc0,hg0,jl2,rfl,rfl⟩
        ·refine au 0 ?_;exact absurd zhH hc0
        ·refine au 0 ?_;exact absurd hg0 ex2_g
        ·refine au 0 ?_;rw [zlr];refine au 680423555566661 ?_;refine bD Z Z Z Z (zep hT (b:=exB2) (s:=s) (e:=e) hse ex_n2 ex_l2) ?_;rintro r97 K98 h99;rcases h99 with ⟨hc0,rfl,rfl⟩ | ⟨hc0,hg0,rfl,rfl⟩ | ⟨hc0,hg0,jk2,rfl,rfl⟩
         ·refine au 0 ?_;exact absurd zhH hc0
         ·refine au 112607112607112607117142355661 ?_;refine bI Z Z Z (zS (l:=[_,_]) Z SlEl.h TyZ.h dQ dQ Z) (fun _=>zz rfl tQ) fun jd4 hjd4=>?_;refine bD Z Z Z Z (vl (uH hT [1,6] (j:=jl2) (j2:=jd4) (fun h=>hjd4 (by subst h; simp [keys])) (yB [1,6] 3 false) (yB [1,6] 3 false) dQ)) ?_;rintro r100 K101 ⟨rfl,rfl⟩;refine au 3526072801126011260711260 ?_;refine bB hret [(0,_),(1,_)] ?_;exact ⟨rfl,rfl⟩
         ·refine au 0 ?_;rw [ex2_t] at hg0; cases hg0
theorem zj7 {b:StB} {i:Nat} (j:Nat):(b.groups.eraseIdx i).getD j default=b.groups.getD (skip i j) default:=by
 rw [lE,lE,List.getElem?_eraseIdx];unfold skip;split <;> rfl
theorem zkC {b:StB} {i:Nat} (hi:i<b.groups.length):Gone b (goneB b i) i:=⟨hi,rfl,rfl,rfl,by rw [zbU hi]; omega,fun j=>zj7 j⟩
theorem zgb {b:StB} {i:Nat} (hb:StOk b) (hi:i<b.groups.length) (h1:b.groups.length≠1):StOk (goneB b i):=by
 have hs:(b.groups.eraseIdx i).Sublist b.groups:=List.eraseIdx_sublist _ _;have hn:=hb.ngr;have hl:=zbU hi;exact ⟨hb.plat,hb.nst,hb.sts,oQ,fun x hx=>hb.nam x (hs.subset hx),hb.two.sublist hs,fun x hx=>hb.man x (hs.subset hx)⟩
theorem zkM {b:StB} (hb:StOk b) (i:Nat):0<=(grp b i).many:=by
 unfold grp;by_cases h:i<b.groups.length
 ·rw [lE,List.getElem?_eq_getElem h];exact Int.le_trans dQ (hb.man _ (List.getElem_mem h)).1
 ·rw [lE,List.getElem?_eq_none oQ];exact Int.le_refl _
theorem zhR {b:StB} {i:Nat} (hb:StOk b) (hi:i<b.groups.length) (h1:b.groups.length≠1):0<=mostA (goneB b i) spot0/\mostA (goneB b i) spot0<=mostA b spot0:=⟨ziK (zkM (zgb hb hi h1)) _ _,(zkC hi).most hb.ngr.2 _ _ _ rfl rfl (lift0 i)⟩
def wrongB (b:Bk) (w:Int):Bk:={ b with wrong:=w }
theorem zfZ {b:Bk} (hc:checkM b=0) {w1 w2:Int} (hw:w2<=w1/\w1<=3):Wider (wrongB b w2) (wrongB b w1):=by
 obtain ⟨h1,h2,h3,h4,h5,h6,h7⟩:=y7 (b:=b) (by rw [((ud b).1 hc).1]; rfl);exact ⟨rfl,rfl,rfl,hw,⟨h5,Int.le_refl _⟩,⟨Int.le_refl _,h7⟩⟩
theorem zlj {b:Bk} (k:Int):whoM b k = -1\/∃ q:Nat,whoM b k=q/\q<b.seekers.length:=by
 unfold whoM;split
 ·exact .inl rfl
 ·rename_i h;have h1:=Int.emod_nonneg k (show (b.seekers.length:Int)≠0 from h);have h2:=Int.emod_lt_of_pos k (show 0<(b.seekers.length:Int) by omega);exact .inr ⟨(k % b.seekers.length).toNat,oQ,oQ⟩
theorem zbB {main:Bool} {T:Goroutine->Hp->Prop} (hT:zk tp main T) {b:StB} {s g:Nat} {n:Int} (hb:StOk b) (hn:0<=n/\n<b.groups.length) :
  zh tp T gmS 10 [.agg (stbC b s g),intA n] [(2,stChecksG),(s,stO b),(g,grO b)] (fun r K'=>(b.groups.length=1/\r=.tup [.agg [intA 0,zm false,.v (.slice none 0 0),.v (.slice none 0 0)],intA 8]/\K'=[(2,stChecksG),(s,stO b),(g,grO b)])\/(∃ o s2 g2,StOk o/\(0<=mostA o spot0/\mostA o spot0<=mostA b spot0)/\r=.tup [.agg (stbC o s2 g2),intA 0]/\K'=[(s2,stO o),(g2,grO o),(2,stChecksG),(s,stO b),(g,grO b)])):=by
 obtain ⟨i,rfl⟩:=Int.eq_ofNat_of_zero_le hn.1;have hi:i<b.groups.length:=by omega
 exact zh.mono (zhg hT hb hi) fun r K' h=>h.imp id fun ⟨h1,s2,g2,h2,h3⟩=>⟨_,s2,g2,zgb hb hi h1,zhR hb hi h1,h2,h3⟩
instance:Cal tp 57:={}
instance:Cal tp 58:={}
theorem uf (tame:Tame tp) {Ψ:Goroutine->World->Prop} {b:Bk} {s e:Nat} {w1 w2 k3 k4 k5:Int} (hse:s≠e) (hc0:checkM b=0) (hw12:w2<=w1/\w1<=3) (hn:∀ x∈b.seekers,x.name.size<=1000) (hl:b.seen.length<=1000) (hl2:b.seekers.length<=1000) (hk3:0<=k3/\k3<256) (hk4:0<=k4/\k4<256) (hk5:0<=k5/\k5<256):zh tp (BT tp Ψ) gmS 13 [.agg (zC (wrongB b w1) s e),.agg (zC (wrongB b w2) s e),.v (.int .u8 k3),.v (.int .u8 k4),.v (.int .u8 k5)] [(0,zx),(1,zB),(s,zo b),(e,zp b)] (fun r K'=>r=zm true/\K'=[(0,zx),(1,zB),(s,zo b),(e,zp b)]):=by
 have hT:=wM tame Ψ;refine ze 51 hT Tryz.func13 fun Y hret=>?_;refine au 21042 ?_;intro jw hjw;refine au 210 ?_;intro jn hjn;refine au 68042235 ?_;refine bD Z Z Z Z (zaw hT (b:=(wrongB b w1)) hse hn hl hl2) ?_;rintro r1 K2 ⟨rfl,rfl⟩;refine au 17 ?_;refine bF 16 (fun g1_4=>?_) (fun g1_4=>?_)
 ·refine au 35421803260888 ?_;refine bB hret [(0,_),(1,_),(s,_),(e,_)] ?_;exact ⟨rfl,rfl⟩
 have hwas:checkM (wrongB b w1)=0:=by simpa using g1_4
 refine au 680 ?_;refine bD Z Z Z Z (zaw hT (b:=(wrongB b w2)) hse hn hl hl2) ?_;rintro r4 K5 ⟨rfl,rfl⟩;refine au 932507 ?_;refine ⟨fun hcc=>?_,fun hcc=>?_⟩
 ·refine au 3542 ?_;refine bB hret [(0,_),(1,_),(s,_),(e,_)] ?_;exact ⟨rfl,rfl⟩
 have hnow:checkM (wrongB b w2)=0:=by simpa using hcc
 have hw:=zfZ hc0 hw12;have hs2:=zaj hnow;have e9:(wrongB b w1).steps=b.steps:=rfl;obtain ⟨u1,u2,u3,u4,u5,u6,u7⟩:=y7 (b:=b) (by rw [((ud b).1 hc0).1]; rfl);have m3:=Int.emod_nonneg k3 (show b.steps≠0 by omega);have m3':=Int.emod_lt_of_pos k3 (show 0<b.steps by omega);have m4:=Int.emod_nonneg k4 (show b.steps≠0 by omega);have m4':=Int.emod_lt_of_pos k4 (show 0<b.steps by omega);have n4:0<=k4 % (wrongB b w1).steps:=m4;have n4':k4 % (wrongB b w1).steps<b.steps:=m4';refine au 68042120 ?_;refine bD Z Z Z Z (y5 hT (b:=(wrongB b w2)) hse hn hl) ?_;rintro r7 K8 ⟨rfl,rfl⟩;refine au 0 ?_;rw [hs2.1,hs2.2];refine au 2355661 ?_;refine TK.dq [0,1,2,3,4,5,6,7,8,9,10,11,12,13,14,15,16,17,18,19,20,21,22,23,24,25] ?_;refine ad [[1,12],[4,26],[1,27]] ?_;refine TD.sp 28 (fun g4_3=>?_) (fun g4_3=>?_)
 ·refine ad [[1,11,28],[4,28,29],[1,28,30]] ?_;refine TD.sp 31 (fun g4_6=>?_) (fun g4_6=>?_)
  ·refine ad [[11,5,31],[11,6,31],[11,2,31],[11,31,34],[11,5,31],[11,31,36],[11,31,35,37],[11,3,31],[11,31,39],[11,5,31],[11,31,41],[11,31,40,42],[11,31,43],[11,5,31],[11,4,31],[11,31,45,46],[11,31,32,33,38,44,47],[7,28,31,48],[7,28,49],[13,50],[14]] ?_;refine au 0 ?_;refine bB hret [(0,_),(1,_),(s,_),(e,_)] ?_;exact ⟨rfl,rfl⟩
  have hne:zb (wrongB b w2)≠[]:=fun h=>by rw [h] at g4_6; cases g4_6
  refine ad [[12,5,31],[12,6,31],[1,2,31]] ?_;refine bU [31,34] Z (ku Z Z Und.h Und.h (kS oQ)) ?_;refine ad [[3,5,31],[10,31,36]] ?_;refine bU [31,35,37] Z (q_rem Z Z Z oQ oQ) ?_;refine ad [[1,3,31]] ?_;refine bU [31,39] Z (ku Z Z Und.h Und.h (kS oQ)) ?_;refine ad [[3,5,31],[10,31,41]] ?_;refine bU [31,40,42] Z (q_rem Z Z Z oQ oQ) ?_;refine ad [[8,31,43],[12,5,31],[1,4,31]] ?_;refine bQ (pend':=[⟨18,[31,43],[]⟩,⟨17,[31,40,42],[]⟩,⟨16,[31,41],[(_,_)]⟩,⟨15,[5,31],[]⟩,⟨14,[31,39],[]⟩,⟨13,[3,31],[]⟩,⟨12,[31,35,37],[]⟩,⟨11,[31,36],[(_,_)]⟩,⟨10,[5,31],[]⟩,⟨9,[31,34],[]⟩,⟨8,[2,31],[]⟩,⟨7,[6,31],[(_,_)]⟩,⟨6,[5,31],[(_,_)]⟩,⟨4,[28,29],[]⟩,⟨3,[11,28],[]⟩,⟨2,[27],[]⟩,⟨1,[26],[]⟩,⟨0,[12],[]⟩]) [31,45,46] Z Z Z Z Z (zl0 hT (b:=(wrongB b w1)) hk5 hl2) (fun r10 K11 h12=>⟨?_,?_⟩)
  ·rcases h12 with ⟨rfl,rfl⟩
   all_goals simp
  obtain ⟨rfl,rfl⟩:=h12;try simp only [cA]
  refine bS tQ ?_;refine bQ (pend':=[⟨17,[31,40,42],[]⟩,⟨16,[31,41],[(_,_)]⟩,⟨15,[5,31],[]⟩,⟨14,[31,39],[]⟩,⟨13,[3,31],[]⟩,⟨11,[31,36],[(_,_)]⟩,⟨10,[5,31],[]⟩,⟨9,[31,34],[]⟩,⟨8,[2,31],[]⟩,⟨4,[28,29],[]⟩,⟨3,[11,28],[]⟩,⟨2,[27],[]⟩,⟨1,[26],[]⟩,⟨0,[12],[]⟩]) [31,32,33,38,44,47] Z Z Z Z Z (zgv tame (was:=(wrongB b w1)) (now:=(wrongB b w2)) (lo:=k3 % b.steps) (w:=1+k4 % b.steps) (wh:=whoM (wrongB b w1) k5) (hw.less hnow hne) hwas hnow hse hn hn hl hl ⟨m3,m3'⟩ ⟨by omega,by show _<=b.steps; omega⟩ ((zlj k5).imp id fun ⟨q,h1,h2⟩=>⟨q,h1,h2,h2,fun S _=>(hw.rightM S q).symm⟩) rfl rfl) (fun r13 K14 h15=>⟨?_,?_⟩)
  ·rcases h15 with ⟨rfl,rfl⟩
   all_goals simp
  obtain ⟨rfl,rfl⟩:=h15;try simp only [cA]
  refine bS tQ ?_;refine ad [[6,28,31,48],[7,28,49],[13,50],[14]] ?_;refine au 0 ?_;refine bB hret [(0,_),(1,_),(s,_),(e,_)] ?_;exact ⟨rfl,rfl⟩
 simp at g4_3
instance:Cal tp 10:={}
instance:Cal tp 11:={}
instance:Cal tp 13:={}
instance:Cal tp 7:={}
instance:Cal tp 8:={}
instance:Cal tp 9:={}
theorem zeP {R:Value->World->Prop} {b:Bk} {s e:Nat} {q:StB} {s3 g3:Nat} {k2 k3 k4 k5:Int} (hse:s≠e) (hk2:0<=k2/\k2<256) (hk3:0<=k3/\k3<256) (hk4:0<=k4/\k4<256) (hk5:0<=k5/\k5<256) {A:List AObj} {φ:Nat->Loc3} {F H:Hp} {vs:Array Value} (hv:zO [(0,zx),(1,zB),(2,stChecksG),(3,allowsG),(4,fogG),(s,zo b),(e,zp b),(s3,stO q),(g3,grO q)] A) (hn0:(keys [(0,zx),(1,zB),(2,stChecksG),(3,allowsG),(4,fogG),(s,zo b),(e,zp b),(s3,stO q),(g3,grO q)]).Nodup) (hg:RelG gmS φ A.length) (hH:RelH φ A F H) (hargs:zR φ A.length [.agg (zC b s e),.agg (stbC q s3 g3),.v (.int .u8 k2),.v (.int .u8 k3),.v (.int .u8 k4),.v (.int .u8 k5)] vs)
  (hR:∀ r K' φ' A' H' v w,(fun r K'=>r=zm true/\K'=[(0,zx),(1,zB),(2,stChecksG),(3,allowsG),(4,fogG),(s,zo b),(e,zp b),(s3,stO q),(g3,grO q)]) r K'->RelH φ' A' F H'->RelV φ' A'.length r v->zY H' w->R v w):BT tp (AtRet tp 3 R) (G (Frame.enter tp 3 vs .normal) []) H:=by
 have hT:=wM tame (AtRet tp 3 R);refine zlg 93 tame (Post:=fun r K'=>r=zm true/\K'=[(0,zx),(1,zB),(2,stChecksG),(3,allowsG),(4,fogG),(s,zo b),(e,zp b),(s3,stO q),(g3,grO q)]) Tryz.func3 hv hn0 hg hH hargs hR fun Y hret=>?_;refine au 21042 ?_;intro jb hjb;refine au 210 ?_;intro jq hjq;refine au 68042235 ?_;refine bD Z Z Z Z (zlA hT hse) ?_;rintro r1 K2 ⟨rfl,rfl⟩;refine au 1300 ?_;refine bF 24 (fun g1_4=>?_) (fun g1_4=>?_)
 ·refine au 421803260888 ?_;refine bD Z Z Z Z (kJ tame) ?_;rintro r4 K5 ⟨rfl,rfl⟩;refine au 35 ?_;refine bB hret [(0,_),(1,_),(2,_),(3,_),(4,_),(s,_),(e,_),(s3,_),(g3,_)] ?_;exact ⟨rfl,rfl⟩
 have hf:=zlz (b:=b) (by simpa using g1_4);have hck:=hf.check;refine au 680 ?_;refine bD Z Z Z Z (zji hT (b:=q) (s:=s3) (g:=g3)) ?_;rintro r7 K8 ⟨⟨z,rfl,hz⟩,rfl⟩;refine au 93250300 ?_;constructor<;>intro hc0
 ·refine au 42 ?_;refine bD Z Z Z Z (kJ tame) ?_;rintro r10 K11 ⟨rfl,rfl⟩;refine au 35 ?_;refine bB hret [(0,_),(1,_),(2,_),(3,_),(4,_),(s,_),(e,_),(s3,_),(g3,_)] ?_;exact ⟨rfl,rfl⟩
 have hq:StOk q:=hz (by simpa using hc0);have hqn:=hq.ngr;have m2:=Int.emod_nonneg k2 (show (q.groups.length:Int)≠0 by omega);have m2':=Int.emod_lt_of_pos k2 (show 0<(q.groups.length:Int) by omega);refine au 2120 ?_;refine TK.dq [0,1,2,3,4,5,6,7,8,9,11,12,10,13] ?_;refine ad [[12,7],[1,2]] ?_;refine bU [32] Z (ku Z Z Und.h Und.h (kS oQ)) ?_;refine ad [[3,7],[10,34]] ?_;refine bU [35] Z (q_len Z Z Z Und.h) ?_;refine bU [33,36] Z (q_rem Z Z Z oQ oQ) ?_;refine TD.c2 (i1:=7) (i2:=11) (pend1:=[⟨5,[35],[]⟩,⟨4,[34],[(_,_)]⟩,⟨3,[7],[]⟩,⟨2,[32],[]⟩,⟨1,[2],[]⟩]) (pend2:=[⟨6,[33,36],[]⟩,⟨5,[35],[]⟩,⟨4,[34],[(_,_)]⟩,⟨3,[7],[]⟩,⟨2,[32],[]⟩,⟨1,[2],[]⟩,⟨0,[7],[(_,_)]⟩]) (L1:=[8,9,10,11,12,13]) (L2:=[7,8,9,10,12,13]) [31,37] [] Z Z Z Z Z Z Z ?_ ?_
 ·refine k8 Z Z Cal.h Z (zbB hT hq ⟨m2,m2'⟩) (by repeat (first | exact Split.none _ | exact Split.all _ | (apply Split.rem; repeat (first | exact Rem.head | apply Rem.tail)) | apply Split.right)) fun r13 K14 h15=>⟨?_,?_⟩
  ·rcases h15 with ⟨h1,rfl,rfl⟩ | ⟨o,s4,g4,ho,hmo,rfl,rfl⟩;all_goals simp
  rcases h15 with ⟨h1,rfl,rfl⟩ | ⟨o,s4,g4,ho,hmo,rfl,rfl⟩
  ·try simp only [cA]
   refine bS (env':=[_,_,_,_,_,_,_,_,_,_,_,_,_,_,_,_,_,_,_,_,_,_,_,_,_,_,_,_,_,_,_,_,_,_,_,_,_,_,_,_,_,_,_,_,_,_,_,_,_,_,_,_,_,_,_,_,_,_,_,_,_,_,_,_,_,_,_,_,_,_,_,_,_,_,_,_,_,_,_,_,_,_,_,_,_,_,_,_,_,_,_,_,_]) Z ?_;refine ad [[1,38],[5,30],[5,30]] ?_;refine bX (pend':=[⟨10,[30],[]⟩,⟨9,[30],[]⟩,⟨8,[38],[]⟩,⟨5,[35],[]⟩,⟨4,[34],[(_,_)]⟩,⟨3,[7],[]⟩,⟨2,[32],[]⟩,⟨1,[2],[]⟩]) [] Z Z Z Z Z (zG Z TyZA.h) (fun _=>zz rfl tQ) sQ fun jo hjo=>?_;refine bR (pend':=[⟨10,[30],[]⟩]) [13,39] Z Z (zq Z Z zd.h Z Z mQ Z) ?_;refine ad [[13,40],[14]] ?_;refine au 9371422 ?_;constructor<;>intro hc1
   ·skip;refine au 17142 ?_;refine bF 45 (fun g5_3=>?_) (fun g5_3=>?_)
    ·refine au 12607280690670 ?_;refine bF 51 (fun g5_9=>?_) (fun g5_9=>?_)
     ·refine bD Z Z Z Z (kJ tame) ?_;rintro r16 K17 ⟨rfl,rfl⟩;refine au 35260 ?_;refine bB hret [(0,_),(1,_),(2,_),(3,_),(4,_),(s,_),(e,_),(s3,_),(g3,_)] ?_;exact ⟨rfl,rfl⟩
     simp [h1] at g5_9
    cases g5_3
   exact absurd hc1 dQ
  ·try simp only [cA]
   refine bS (env':=[_,_,_,_,_,_,_,_,_,_,_,_,_,_,_,_,_,_,_,_,_,_,_,_,_,_,_,_,_,_,_,_,_,_,_,_,_,_,_,_,_,_,_,_,_,_,_,_,_,_,_,_,_,_,_,_,_,_,_,_,_,_,_,_,_,_,_,_,_,_,_,_,_,_,_,_,_,_,_,_,_,_,_,_,_,_,_,_,_,_,_,_,_]) Z ?_;refine ad [[1,38],[5,30],[5,30]] ?_;refine bX (pend':=[⟨10,[30],[]⟩,⟨9,[30],[]⟩,⟨8,[38],[]⟩,⟨5,[35],[]⟩,⟨4,[34],[(_,_)]⟩,⟨3,[7],[]⟩,⟨2,[32],[]⟩,⟨1,[2],[]⟩]) [] Z Z Z Z Z (zG Z TyZA.h) (fun _=>zz rfl tQ) sQ fun jo hjo=>?_;refine bR (pend':=[⟨10,[30],[]⟩]) [13,39] Z Z (zq Z Z zd.h Z Z mQ Z) ?_;refine ad [[13,40],[14]] ?_;refine au 9371422 ?_;constructor<;>intro hc1
   ·exact absurd hc1 dQ
   skip;refine au 68042120 ?_;refine bD Z Z Z Z (uo hT hq) ?_;rintro r19 K20 ⟨rfl,rfl⟩;refine au 68042355661 ?_;refine bD Z Z Z Z (uo hT (b:=o) (s:=s4) (g:=g4) ho) ?_;rintro r22 K23 ⟨rfl,rfl⟩;refine au 171422355661 ?_;refine bF 66 (fun g8_3=>?_) (fun g8_3=>?_)
   ·cases g8_3
   refine au 125071 ?_;refine bF 70 (fun g8_7=>?_) (fun g8_7=>?_)
   ·cases g8_7
   refine au 11 ?_;refine bD Z Z Z Z (yy hT) ?_;rintro r25 K26 ⟨rfl,rfl⟩;refine au 93250300 ?_;constructor<;>intro hc2
   ·rw [decide_eq_true hmo.1,decide_eq_true hmo.2] at hc2;simp at hc2
   refine au 2120 ?_;refine TK.dq [0,2,3,4,1,5] ?_;refine ad [[12,6],[12,6]] ?_;refine TD.c2 (i1:=2) (i2:=3) (pend1:=[⟨1,[6],[(_,_)]⟩,⟨0,[6],[(_,_)]⟩]) (pend2:=[⟨1,[6],[(_,_)]⟩,⟨0,[6],[(_,_)]⟩]) (L1:=[3,4,5]) (L2:=[2,4,5]) [] [] Z Z Z Z Z Z Z ?_ ?_
   ·refine yc Z (zG Z TyZA.h) (fun _=>zz rfl tQ) sQ fun jw hjw=>?_;refine bX (pend':=[⟨1,[6],[(_,_)]⟩,⟨0,[6],[(_,_)]⟩]) [] Z Z Z Z Z (zG Z TyZA.h) (fun _=>zz rfl tQ) sQ fun jn hjn=>?_;refine bR (pend':=[⟨1,[6],[(_,_)]⟩]) [19,76] Z Z (zq Z Z zd.h Z Z mQ Z) ?_;refine bR (pend':=[]) [20,77] Z Z (zq Z Z zd.h Z Z mQ Z) ?_;refine ad [[14]] ?_;refine au 142 ?_;refine bH Z (q_min Z Z Z) ?_;refine au 1 ?_;refine bH Z (q_min Z Z Z) ?_;refine au 111680680423170670170670 ?_;refine bD Z Z Z Z (uf tame (b:=b) (s:=s) (e:=e) (w1:=(if 3<mostA q spot0 then 3 else mostA q spot0)) (w2:=(if 3<mostA o spot0 then 3 else mostA o spot0)) hse hck ⟨by split <;> split <;> omega,by split <;> omega⟩ hf.names hf.seen hf.says hk3 hk4 hk5) ?_;rintro r28 K29 ⟨rfl,rfl⟩;refine au 1 ?_;refine bF 90 (fun g12_7=>?_) (fun g12_7=>?_)
    ·refine bD Z Z Z Z (kJ tame) ?_;rintro r31 K32 ⟨rfl,rfl⟩;refine au 35260 ?_;refine bB hret [(0,_),(1,_),(2,_),(3,_),(4,_),(s,_),(e,_),(s3,_),(g3,_)] ?_;exact ⟨rfl,rfl⟩
    cases g12_7
   ·refine yc Z (zG Z TyZA.h) (fun _=>zz rfl tQ) sQ fun jn hjn=>?_;refine bX (pend':=[⟨1,[6],[(_,_)]⟩,⟨0,[6],[(_,_)]⟩]) [] Z Z Z Z Z (zG Z TyZA.h) (fun _=>zz rfl tQ) sQ fun jw hjw=>?_;refine bR (pend':=[⟨1,[6],[(_,_)]⟩]) [19,76] Z Z (zq Z Z zd.h Z Z mQ Z) ?_;refine bR (pend':=[]) [20,77] Z Z (zq Z Z zd.h Z Z mQ Z) ?_;refine ad [[14]] ?_;refine au 142 ?_;refine bH Z (q_min Z Z Z) ?_;refine au 1 ?_;refine bH Z (q_min Z Z Z) ?_;refine au 111680680423170670170670 ?_;refine bD Z Z Z Z (uf tame (b:=b) (s:=s) (e:=e) (w1:=(if 3<mostA q spot0 then 3 else mostA q spot0)) (w2:=(if 3<mostA o spot0 then 3 else mostA o spot0)) hse hck ⟨by split <;> split <;> omega,by split <;> omega⟩ hf.names hf.seen hf.says hk3 hk4 hk5) ?_;rintro r34 K35 ⟨rfl,rfl⟩;refine au 1 ?_;refine bF 90 (fun g12_7=>?_) (fun g12_7=>?_)
    ·refine bD Z Z Z Z (kJ tame) ?_;rintro r37 K38 ⟨rfl,rfl⟩;refine au 35260 ?_;refine bB hret [(0,_),(1,_),(2,_),(3,_),(4,_),(s,_),(e,_),(s3,_),(g3,_)] ?_;exact ⟨rfl,rfl⟩
    cases g12_7
 ·refine yc Z (zG Z TyZA.h) (fun _=>zz rfl tQ) sQ fun jo hjo=>?_;refine bQ (pend':=[⟨5,[35],[]⟩,⟨4,[34],[(_,_)]⟩,⟨3,[7],[]⟩,⟨2,[32],[]⟩,⟨1,[2],[]⟩]) [31,37] Z Z Z Z Z (zbB hT hq ⟨m2,m2'⟩) (fun r40 K41 h42=>⟨?_,?_⟩)
  ·rcases h42 with ⟨h1,rfl,rfl⟩ | ⟨o,s4,g4,ho,hmo,rfl,rfl⟩;all_goals simp
  rcases h42 with ⟨h1,rfl,rfl⟩ | ⟨o,s4,g4,ho,hmo,rfl,rfl⟩
  ·try simp only [cA]
   refine bS tQ ?_;refine ad [[1,38],[5,30],[5,30]] ?_;refine bR (pend':=[⟨10,[30],[]⟩]) [13,39] Z Z (zq Z Z zd.h Z Z mQ Z) ?_;refine ad [[13,40],[14]] ?_;refine au 9371422 ?_;constructor<;>intro hc1
   ·skip;refine au 17142 ?_;refine bF 45 (fun g5_3=>?_) (fun g5_3=>?_)
    ·refine au 12607280690670 ?_;refine bF 51 (fun g5_9=>?_) (fun g5_9=>?_)
     ·refine bD Z Z Z Z (kJ tame) ?_;rintro r43 K44 ⟨rfl,rfl⟩;refine au 35260 ?_;refine bB hret [(0,_),(1,_),(2,_),(3,_),(4,_),(s,_),(e,_),(s3,_),(g3,_)] ?_;exact ⟨rfl,rfl⟩
     simp [h1] at g5_9
    cases g5_3
   exact absurd hc1 dQ
  ·try simp only [cA]
   refine bS tQ ?_;refine ad [[1,38],[5,30],[5,30]] ?_;refine bR (pend':=[⟨10,[30],[]⟩]) [13,39] Z Z (zq Z Z zd.h Z Z mQ Z) ?_;refine ad [[13,40],[14]] ?_;refine au 9371422 ?_;constructor<;>intro hc1
   ·exact absurd hc1 dQ
   skip;refine au 68042120 ?_;refine bD Z Z Z Z (uo hT hq) ?_;rintro r46 K47 ⟨rfl,rfl⟩;refine au 68042355661 ?_;refine bD Z Z Z Z (uo hT (b:=o) (s:=s4) (g:=g4) ho) ?_;rintro r49 K50 ⟨rfl,rfl⟩;refine au 171422355661 ?_;refine bF 66 (fun g8_3=>?_) (fun g8_3=>?_)
   ·cases g8_3
   refine au 125071 ?_;refine bF 70 (fun g8_7=>?_) (fun g8_7=>?_)
   ·cases g8_7
   refine au 11 ?_;refine bD Z Z Z Z (yy hT) ?_;rintro r52 K53 ⟨rfl,rfl⟩;refine au 93250300 ?_;constructor<;>intro hc2
   ·rw [decide_eq_true hmo.1,decide_eq_true hmo.2] at hc2;simp at hc2
   refine au 2120 ?_;refine TK.dq [0,2,3,4,1,5] ?_;refine ad [[12,6],[12,6]] ?_;refine TD.c2 (i1:=2) (i2:=3) (pend1:=[⟨1,[6],[(_,_)]⟩,⟨0,[6],[(_,_)]⟩]) (pend2:=[⟨1,[6],[(_,_)]⟩,⟨0,[6],[(_,_)]⟩]) (L1:=[3,4,5]) (L2:=[2,4,5]) [] [] Z Z Z Z Z Z Z ?_ ?_
   ·refine yc Z (zG Z TyZA.h) (fun _=>zz rfl tQ) sQ fun jw hjw=>?_;refine bX (pend':=[⟨1,[6],[(_,_)]⟩,⟨0,[6],[(_,_)]⟩]) [] Z Z Z Z Z (zG Z TyZA.h) (fun _=>zz rfl tQ) sQ fun jn hjn=>?_;refine bR (pend':=[⟨1,[6],[(_,_)]⟩]) [19,76] Z Z (zq Z Z zd.h Z Z mQ Z) ?_;refine bR (pend':=[]) [20,77] Z Z (zq Z Z zd.h Z Z mQ Z) ?_;refine ad [[14]] ?_;refine au 142 ?_;refine bH Z (q_min Z Z Z) ?_;refine au 1 ?_;refine bH Z (q_min Z Z Z) ?_;refine au 111680680423170670170670 ?_;refine bD Z Z Z Z (uf tame (b:=b) (s:=s) (e:=e) (w1:=(if 3<mostA q spot0 then 3 else mostA q spot0)) (w2:=(if 3<mostA o spot0 then 3 else mostA o spot0)) hse hck ⟨by split <;> split <;> omega,by split <;> omega⟩ hf.names hf.seen hf.says hk3 hk4 hk5) ?_;rintro r55 K56 ⟨rfl,rfl⟩;refine au 1 ?_;refine bF 90 (fun g12_7=>?_) (fun g12_7=>?_)
    ·refine bD Z Z Z Z (kJ tame) ?_;rintro r58 K59 ⟨rfl,rfl⟩;refine au 35260 ?_;refine bB hret [(0,_),(1,_),(2,_),(3,_),(4,_),(s,_),(e,_),(s3,_),(g3,_)] ?_;exact ⟨rfl,rfl⟩
    cases g12_7
   ·refine yc Z (zG Z TyZA.h) (fun _=>zz rfl tQ) sQ fun jn hjn=>?_;refine bX (pend':=[⟨1,[6],[(_,_)]⟩,⟨0,[6],[(_,_)]⟩]) [] Z Z Z Z Z (zG Z TyZA.h) (fun _=>zz rfl tQ) sQ fun jw hjw=>?_;refine bR (pend':=[⟨1,[6],[(_,_)]⟩]) [19,76] Z Z (zq Z Z zd.h Z Z mQ Z) ?_;refine bR (pend':=[]) [20,77] Z Z (zq Z Z zd.h Z Z mQ Z) ?_;refine ad [[14]] ?_;refine au 142 ?_;refine bH Z (q_min Z Z Z) ?_;refine au 1 ?_;refine bH Z (q_min Z Z Z) ?_;refine au 111680680423170670170670 ?_;refine bD Z Z Z Z (uf tame (b:=b) (s:=s) (e:=e) (w1:=(if 3<mostA q spot0 then 3 else mostA q spot0)) (w2:=(if 3<mostA o spot0 then 3 else mostA o spot0)) hse hck ⟨by split <;> split <;> omega,by split <;> omega⟩ hf.names hf.seen hf.says hk3 hk4 hk5) ?_;rintro r61 K62 ⟨rfl,rfl⟩;refine au 1 ?_;refine bF 90 (fun g12_7=>?_) (fun g12_7=>?_)
    ·refine bD Z Z Z Z (kJ tame) ?_;rintro r64 K65 ⟨rfl,rfl⟩;refine au 35260 ?_;refine bB hret [(0,_),(1,_),(2,_),(3,_),(4,_),(s,_),(e,_),(s3,_),(g3,_)] ?_;exact ⟨rfl,rfl⟩
    cases g12_7
end Go.Vel
namespace Go.Vel
open Go Go.Conc Go.Proofs Go.ChangeShapes Go.WideShapes Go.ChangeAt Go.RowKit
def tblLaidC:List (String×DataW Unit):=[("velarium/seeker.checks",Go.Proofs.YtcddfkgckelhiaaGreatDoor.Rows.laid_velarium_seeker_checks),("velarium/seeker.says",Go.Proofs.YtcddfkgckelhiaaGreatDoor.Rows.laid_velarium_seeker_says),("velarium/stair.checks",Go.Proofs.YtcddfkgckelhiaaGreatDoor.Rows.laid_velarium_stair_checks),("velarium/stair.allows",Go.Proofs.YtcddfkgckelhiaaGreatDoor.Rows.laid_velarium_stair_allows),("velarium/stair.fog",Go.Proofs.YtcddfkgckelhiaaGreatDoor.Rows.laid_velarium_stair_fog)]
theorem zab {H:Type} {enc:TypeId×Value->H} {P:Program} {W:World} {sp:Nat->Bool} {held:Bool} {fuel:Nat} {t:TypeId} {fd:Field} {v:Value} {x:DataW H} {q:List MemPlace} (ht:P.underlying t=some (.struct #[fd])) (hc:P.cellsOf fd.type=1) (ho:fd.offset=0) (h:DataW.trod enc P W 0 sp held fuel t [v]=some (.agg [x],q)):∃ n q',DataW.trod enc P W 0 sp held n fd.type [v]=some (x,q'):=by
 obtain ⟨y0,n,e,_,h0⟩:=trod_struct1 ht h;simp only [Prod.mk.injEq,DataW.agg.injEq,List.cons.injEq,and_true] at e;obtain ⟨rfl,_⟩:=e;rw [ho,hc] at h0;exact ⟨n,y0.2,h0⟩
theorem tbl4C {P:Program} {W:World} {n:String} {d:DataW Unit} {g0 t0 e0:Nat} {ps rs:Array TypeId} {va:Bool} {b0 b1 b2 b3:UInt8} {r0 r1 r2 r3:List UInt8} {f0 f1 f2 f3:Nat} (h:funcsAt P W n d)
  (hg0:P.globalNamed n=some g0) (ht0:(P.globals[g0]?).map (·.type)=some t0) (hu:P.underlying t0=some (.array 4 e0)) (he:P.underlying e0=some (.func ps rs va)) (hc:P.cellsOf e0=1) (hc3:P.cellsOf t0=4)
  (hd:d.funcsOut=.agg [.held (b0::r0),.held (b1::r1),.held (b2::r2),.held (b3::r3)])
  (q0:((List.range P.funcs.size).filter fun f=>(P.funcs[f]?).any (·.name.toUTF8.data.toList==b0::r0))=[f0])
  (q1:((List.range P.funcs.size).filter fun f=>(P.funcs[f]?).any (·.name.toUTF8.data.toList==b1::r1))=[f1])
  (q2:((List.range P.funcs.size).filter fun f=>(P.funcs[f]?).any (·.name.toUTF8.data.toList==b2::r2))=[f2])
  (q3:((List.range P.funcs.size).filter fun f=>(P.funcs[f]?).any (·.name.toUTF8.data.toList==b3::r3))=[f3])
  : ∃ cur e fz,W.heap[g0]? =some (.cells cur e fz)/\cur[0]? =some (.func (.func f0) #[] #[])/\cur[1]? =some (.func (.func f1) #[] #[])/\cur[2]? =some (.func (.func f2) #[] #[])/\cur[3]? =some (.func (.func f3) #[] #[]):=by
 obtain ⟨g,t,cs,fuel,p,hg,ht,hv,htr⟩:=h;obtain rfl:=Option.some.inj (hg0.symm.trans hg);obtain rfl:=Option.some.inj (ht0.symm.trans ht);rw [hd] at htr;obtain ⟨xs,m,rfl,hx,hlen,hn,hel⟩:=DataW.trod_array hu htr
 match xs,hn with
 | [x0,x1,x2,x3],_ =>
 simp only [Prod.mk.injEq,DataW.agg.injEq,List.map_cons,List.map_nil,List.cons.injEq,and_true] at hx;obtain ⟨⟨e0,e1,e2,e3⟩,_⟩:=hx;rw [hc3] at hlen;obtain ⟨l⟩:=cs
 match l,hlen with
 | [c0,c1,c2,c3],_ =>
 have h0:=hel 0 dQ;have h1:=hel 1 dQ;have h2:=hel 2 dQ;have h3:=hel 3 dQ;rw [hc] at h0 h1 h2 h3;obtain ⟨x0,y0⟩:=x0;obtain ⟨x1,y1⟩:=x1;obtain ⟨x2,y2⟩:=x2;obtain ⟨x3,y3⟩:=x3;dsimp only at e0 e1 e2 e3;subst e0 e1 e2 e3;obtain rfl:=func_of_trod (v:=c0) he q0 h0;obtain rfl:=func_of_trod (v:=c1) he q1 h1;obtain rfl:=func_of_trod (v:=c2) he q2 h2;obtain rfl:=func_of_trod (v:=c3) he q3 h3;have k0:=World.var?_cell hg hv 0;have k1:=World.var?_cell hg hv 1;have k2:=World.var?_cell hg hv 2;have k3:=World.var?_cell hg hv 3;simp only [List.getElem?_toArray,List.getElem?_cons_zero,List.getElem?_cons_succ] at k0 k1 k2 k3;simp only [World.cell?] at k0 k1 k2 k3;cases hh:W.heap[g0]? with
 | none=>rw [hh] at k0; cases k0
 | some o =>
  cases o with
  | cells cur e fz=>rw [hh] at k0 k1 k2 k3; exact ⟨cur,e,fz,rfl,by simpa using k0,by simpa using k1,by simpa using k2,by simpa using k3⟩
  | _=>rw [hh] at k0; cases k0
theorem tblS3 {P:Program} {W:World} {n:String} {d:DataW Unit} {g0 t0 e0:Nat} {ps rs:Array TypeId} {va:Bool} {fd:Field} {b0 b1 b2:UInt8} {r0 r1 r2:List UInt8} {f0 f1 f2:Nat} (h:funcsAt P W n d)
  (hg0:P.globalNamed n=some g0) (ht0:(P.globals[g0]?).map (·.type)=some t0) (hu:P.underlying t0=some (.array 3 e0)) (hs:P.underlying e0=some (.struct #[fd])) (ho:fd.offset=0) (hcf:P.cellsOf fd.type=1) (he:P.underlying fd.type=some (.func ps rs va)) (hc:P.cellsOf e0=1) (hc3:P.cellsOf t0=3)
  (hd:d.funcsOut=.agg [.agg [.held (b0::r0)],.agg [.held (b1::r1)],.agg [.held (b2::r2)]])
  (q0:((List.range P.funcs.size).filter fun f=>(P.funcs[f]?).any (·.name.toUTF8.data.toList==b0::r0))=[f0])
  (q1:((List.range P.funcs.size).filter fun f=>(P.funcs[f]?).any (·.name.toUTF8.data.toList==b1::r1))=[f1])
  (q2:((List.range P.funcs.size).filter fun f=>(P.funcs[f]?).any (·.name.toUTF8.data.toList==b2::r2))=[f2])
  : ∃ cur e fz,W.heap[g0]? =some (.cells cur e fz)/\cur[0]? =some (.func (.func f0) #[] #[])/\cur[1]? =some (.func (.func f1) #[] #[])/\cur[2]? =some (.func (.func f2) #[] #[]):=by
 obtain ⟨g,t,cs,fuel,p,hg,ht,hv,htr⟩:=h;obtain rfl:=Option.some.inj (hg0.symm.trans hg);obtain rfl:=Option.some.inj (ht0.symm.trans ht);rw [hd] at htr;obtain ⟨xs,m,rfl,hx,hlen,hn,hel⟩:=DataW.trod_array hu htr
 match xs,hn with
 | [x0,x1,x2],_ =>
 simp only [Prod.mk.injEq,DataW.agg.injEq,List.map_cons,List.map_nil,List.cons.injEq,and_true] at hx;obtain ⟨⟨e0,e1,e2⟩,_⟩:=hx;rw [hc3] at hlen;obtain ⟨l⟩:=cs
 match l,hlen with
 | [c0,c1,c2],_ =>
 have h0:=hel 0 dQ;have h1:=hel 1 dQ;have h2:=hel 2 dQ;rw [hc] at h0 h1 h2;obtain ⟨x0,y0⟩:=x0;obtain ⟨x1,y1⟩:=x1;obtain ⟨x2,y2⟩:=x2;dsimp only at e0 e1 e2;subst e0 e1 e2;obtain ⟨n0,z0,h0'⟩:=zab hs hcf ho (v:=c0) h0;obtain rfl:=func_of_trod (v:=c0) he q0 h0';obtain ⟨n1,z1,h1'⟩:=zab hs hcf ho (v:=c1) h1;obtain rfl:=func_of_trod (v:=c1) he q1 h1';obtain ⟨n2,z2,h2'⟩:=zab hs hcf ho (v:=c2) h2;obtain rfl:=func_of_trod (v:=c2) he q2 h2';have k0:=World.var?_cell hg hv 0;have k1:=World.var?_cell hg hv 1;have k2:=World.var?_cell hg hv 2;simp only [List.getElem?_toArray,List.getElem?_cons_zero,List.getElem?_cons_succ] at k0 k1 k2;simp only [World.cell?] at k0 k1 k2;cases hh:W.heap[g0]? with
 | none=>rw [hh] at k0; cases k0
 | some o =>
  cases o with
  | cells cur e fz=>rw [hh] at k0 k1 k2; exact ⟨cur,e,fz,rfl,by simpa using k0,by simpa using k1,by simpa using k2⟩
  | _=>rw [hh] at k0; cases k0
theorem zhY {P:Program} {l:List (String×DataW Unit)} {w:World} (h:laidMetH P l w) (hs:(l.filter fun x=>x.2.handleName?.isSome).isEmpty=false):laidMet P (l.filter fun x=>x.2.handleName?.isNone) w:=by
 unfold laidMetH at h;generalize (l.filter fun x=>x.2.handleName?.isSome)=fl at h hs;cases fl with
 | nil=>cases hs
 | cons a r=>exact h.1
theorem zjl {W:World} (h:laidMetH tp tblLaidC W):∃ cur e fz,W.heap[0]? =some (.cells cur e fz)/\cur[0]? =some (.int .i64 (-1))/\cur[1]? =some (.int .i64 0):=by
 have hd:=zhY h (by kernel_rfl)
 have hl:(tblLaidC.filter fun x=>x.2.handleName?.isNone)=[("velarium/stair.fog",.agg [.lit (.int .i64 (-1)),.lit (.int .i64 0)])]:=by kernel_rfl
 rw [hl] at hd;obtain ⟨ps,⟨g,t,cs,fuel,p,q,hg,ht,hv,htr,_⟩,_⟩:=hd
 obtain rfl:=Option.some.inj ((show tp.globalNamed "velarium/stair.fog" = some 0 by kernel_rfl).symm.trans hg)
 obtain rfl:=Option.some.inj ((show (tp.globals[0]?).map (·.type)=some 127 by kernel_rfl).symm.trans ht);obtain ⟨l⟩:=cs;obtain ⟨xs,n,rfl,hx,hlen,hxs,hf⟩:=DataW.trod_struct Tryz.underlying127 htr;have hlen':l.length=2:=hlen.trans (by kernel_rfl);have c3:tp.cellsOf 3=1:=by kernel_rfl
 obtain ⟨v0,v1,rfl⟩:=list2 hlen'
 match xs,(show xs.length=2 from hxs) with
 | [y0,y1],_ =>
 obtain ⟨s,e0,w0,_⟩:=DataW.trod_int Tryz.underlying3 (yi (c:=v0) (hf 0 _ rfl) rfl (by show List.take (tp.cellsOf 3) (List.drop 0 _)=_; rw [c3]; rfl));obtain ⟨a,e1,w1,_⟩:=DataW.trod_int Tryz.underlying3 (yi (c:=v1) (hf 1 _ rfl) rfl (by show List.take (tp.cellsOf 3) (List.drop 1 _)=_; rw [c3]; rfl));cases e0; cases e1; subst w0; subst w1;simp only [Prod.mk.injEq,DataW.agg.injEq,List.map_cons,List.map_nil,List.cons.injEq,DataW.lit.injEq,Lit.int.injEq,true_and,and_true] at hx;obtain ⟨⟨rfl,rfl⟩,_⟩:=hx;have k0:=World.var?_cell hg hv 0;have k1:=World.var?_cell hg hv 1;simp only [List.getElem?_toArray,List.getElem?_cons_zero,List.getElem?_cons_succ] at k0 k1;simp only [World.cell?] at k0 k1;cases hh:W.heap[0]? with
 | none=>rw [hh] at k0; cases k0
 | some o =>
  cases o with
  | cells cur e fz=>rw [hh] at k0 k1; exact ⟨cur,e,fz,rfl,by simpa using k0,by simpa using k1⟩
  | _=>rw [hh] at k0; cases k0
set_option maxRecDepth 100000 in
theorem zjM {W:World} (h:laidMetH tp tblLaidC W):(∃ cur e fz,W.heap[4]? =some (.cells cur e fz)/\cur[0]? =some (.func (.func 286) #[] #[])/\cur[1]? =some (.func (.func 287) #[] #[])/\cur[2]? =some (.func (.func 288) #[] #[]))/\(∃ cur e fz,W.heap[3]? =some (.cells cur e fz)/\cur[0]? =some (.func (.func 284) #[] #[])/\cur[1]? =some (.func (.func 262) #[] #[])/\cur[2]? =some (.func (.func 285) #[] #[]))/\(∃ cur e fz,W.heap[5]? =some (.cells cur e fz)/\cur[0]? =some (.func (.func 294) #[] #[])/\cur[1]? =some (.func (.func 295) #[] #[])/\cur[2]? =some (.func (.func 298) #[] #[]))/\(∃ cur e fz,W.heap[7]? =some (.cells cur e fz)/\cur[0]? =some (.func (.func 313) #[] #[])/\cur[1]? =some (.func (.func 314) #[] #[])/\cur[2]? =some (.func (.func 315) #[] #[])/\cur[3]? =some (.func (.func 316) #[] #[]))/\∃ cur e fz,W.heap[0]? =some (.cells cur e fz)/\cur[0]? =some (.int .i64 (-1))/\cur[1]? =some (.int .i64 0) :=
 ⟨tbl3 (h.funcs (n := "velarium/seeker.checks") (List.mem_cons_self ..)) (t0:=313) (e0:=312) (by kernel_rfl) (by kernel_rfl) Tryz.underlying313 Tryz.underlying312 (by kernel_rfl) (by kernel_rfl) rfl (by kernel_rfl) (by kernel_rfl) (by kernel_rfl),
  tbl3 (h.funcs (n := "velarium/seeker.says") (lL _ (List.mem_cons_self ..))) (t0:=308) (e0:=307) (by kernel_rfl) (by kernel_rfl) Tryz.underlying308 Tryz.underlying307 (by kernel_rfl) (by kernel_rfl) rfl (by kernel_rfl) (by kernel_rfl) (by kernel_rfl),
  tblS3 (h.funcs (n := "velarium/stair.checks") (lL _ (lL _ (List.mem_cons_self ..)))) (t0:=320) (e0:=319) (by kernel_rfl) (by kernel_rfl) Tryz.underlying320 Tryz.underlying319 rfl (by kernel_rfl) Tryz.underlying120 (by kernel_rfl) (by kernel_rfl) rfl (by kernel_rfl) (by kernel_rfl) (by kernel_rfl),
  tbl4C (h.funcs (n := "velarium/stair.allows") (lL _ (lL _ (lL _ (List.mem_cons_self ..))))) (t0:=356) (e0:=355) (by kernel_rfl) (by kernel_rfl) Tryz.underlying356 Tryz.underlying355 (by kernel_rfl) (by kernel_rfl) rfl (by kernel_rfl) (by kernel_rfl) (by kernel_rfl) (by kernel_rfl),
  zjl h⟩
set_option maxRecDepth 100000 in
theorem zhD (os:Os) (args:Array Value):laidMetH tp tblLaidC ((World.doorLaid tp 400 os).forCall (fun _ _=>0) ⟨#[],args,[]⟩).memory :=
 laidMetH_of_parts3 (fuel:=8) (laidMet_of_run' 8 (by kernel_rfl) (by kernel_rfl)) (by kernel_rfl) (by kernel_rfl)
theorem zkd {W:World} {φ:Nat->Loc3} {n g f1 f2 f3 f4:Nat} {e:TypeId} (h:∃ cur e fz,W.heap[g]? =some (.cells cur e fz)/\cur[0]? =some (.func (.func f1) #[] #[])/\cur[1]? =some (.func (.func f2) #[] #[])/\cur[2]? =some (.func (.func f3) #[] #[])/\cur[3]? =some (.func (.func f4) #[] #[])):RelO φ n ⟨g,0,0⟩ (holdAll W) (.cells [.fn f1 [] [],.fn f2 [] [],.fn f3 [] [],.fn f4 [] []] e false):=by
 intro _;obtain ⟨cur,e',fz,hh,h0,h1,h2,h3⟩:=h;refine ⟨false,cur,(e',fz),wj hh,(fun h=>by cases h),fun j a ha=>?_⟩
 match j,ha with
 | 0,ha=>cases ha; exact ⟨_,h0,vT⟩
 | 1,ha=>cases ha; exact ⟨_,h1,vT⟩
 | 2,ha=>cases ha; exact ⟨_,h2,vT⟩
 | 3,ha=>cases ha; exact ⟨_,h3,vT⟩
 | j+4,ha=>simp at ha
theorem zli {W:World} {φ:Nat->Loc3} {n g:Nat} {v0 v1:Value} {e:TypeId} (h:∃ cur e fz,W.heap[g]? =some (.cells cur e fz)/\cur[0]? =some v0/\cur[1]? =some v1):RelO φ n ⟨g,0,0⟩ (holdAll W) (.cells [.v v0,.v v1] e false):=by
 intro _;obtain ⟨cur,e',fz,hh,h0,h1⟩:=h;refine ⟨false,cur,(e',fz),wj hh,(fun h=>by cases h),fun j a ha=>?_⟩
 match j,ha with
 | 0,ha=>cases ha; exact ⟨_,h0,.v _⟩
 | 1,ha=>cases ha; exact ⟨_,h1,.v _⟩
 | j+2,ha=>simp at ha
theorem zgd {W:World} {φ:Nat->Loc3} {n:Nat} {l:Loc3} {e:TypeId}:RelO φ n l (holdAll W) (.cells [] e false):=fun h=>absurd rfl h
def stairV (x:StR):List Value:=[.int .i64 x.holds,.int .i64 x.way,.bool x.gate]
def grpV (x:GrR):List Value:=[.string x.name,.int .i64 x.many]
theorem list3C {α:Type} {l:List α} (h:l.length=3):∃ a b c,l=[a,b,c]:=by
 match l,h with
 | [a,b,c],_=>exact ⟨a,b,c,rfl⟩
theorem list2C {α:Type} {l:List α} (h:l.length=2):∃ a b,l=[a,b]:=by
 match l,h with
 | [a,b],_=>exact ⟨a,b,rfl⟩
theorem list4C {α:Type} {l:List α} (h:l.length=4):∃ a b c d,l=[a,b,c,d]:=by
 match l,h with
 | [a,b,c,d],_=>exact ⟨a,b,c,d,rfl⟩
section
variable {H:Type} {enc:TypeId×Value->H} {W:World} {sp:Nat->Bool} {held:Bool}
theorem zhB (m:Nat) (cs:List Value) (x:DataW H×List MemPlace) (h:DataW.trod enc tp W 0 sp held m 203 cs=some x):∃ z,cs=stairV z:=by
 obtain ⟨xs,n,rfl,hx,hlen,hxs,hf⟩:=DataW.trod_struct Tryz.underlying203 h;have hlen':cs.length=3:=hlen.trans (by kernel_rfl);have hxs':xs.length=3:=hxs;have c3:tp.cellsOf 3=1:=by kernel_rfl
 have c4:tp.cellsOf 4=1:=by kernel_rfl
 have c201:tp.cellsOf 201=1:=by kernel_rfl
 obtain ⟨v0,v1,v2,rfl⟩:=list3C hlen';obtain ⟨y0,q0⟩:=yA hxs' (i:=0) dQ;obtain ⟨y1,q1⟩:=yA hxs' (i:=1) dQ;obtain ⟨y2,q2⟩:=yA hxs' (i:=2) dQ;obtain ⟨z0,e0,_⟩:=DataW.trod_int Tryz.underlying3 (yi (c:=v0) (hf 0 _ rfl) q0 (by show List.take (tp.cellsOf 3) (List.drop 0 _)=_; rw [c3]; rfl));obtain ⟨z1,e1,_⟩:=DataW.trod_int Tryz.underlying201 (yi (c:=v1) (hf 1 _ rfl) q1 (by show List.take (tp.cellsOf 201) (List.drop 1 _)=_; rw [c201]; rfl));obtain ⟨z2,e2,_⟩:=DataW.trod_bool Tryz.underlying4 (yi (c:=v2) (hf 2 _ rfl) q2 (by show List.take (tp.cellsOf 4) (List.drop 2 _)=_; rw [c4]; rfl));cases e0;cases e1;cases e2;exact ⟨⟨z0,z1,z2⟩,rfl⟩
theorem zkp (m:Nat) (cs:List Value) (x:DataW H×List MemPlace) (h:DataW.trod enc tp W 0 sp held m 125 cs=some x):∃ z,cs=grpV z:=by
 obtain ⟨xs,n,rfl,hx,hlen,hxs,hf⟩:=DataW.trod_struct Tryz.underlying125 h;have hlen':cs.length=2:=hlen.trans (by kernel_rfl);have hxs':xs.length=2:=hxs;have c3:tp.cellsOf 3=1:=by kernel_rfl
 have c9:tp.cellsOf 9=1:=by kernel_rfl
 obtain ⟨v0,v1,rfl⟩:=list2C hlen';obtain ⟨y0,q0⟩:=yA hxs' (i:=0) dQ;obtain ⟨y1,q1⟩:=yA hxs' (i:=1) dQ;obtain ⟨z0,e0,_⟩:=DataW.trod_string Tryz.underlying9 (yi (c:=v0) (hf 0 _ rfl) q0 (by show List.take (tp.cellsOf 9) (List.drop 0 _)=_; rw [c9]; rfl));obtain ⟨z1,e1,_⟩:=DataW.trod_int Tryz.underlying3 (yi (c:=v1) (hf 1 _ rfl) q1 (by show List.take (tp.cellsOf 3) (List.drop 1 _)=_; rw [c3]; rfl));cases e0;cases e1;exact ⟨⟨z0,z1⟩,rfl⟩
theorem zg8 {v:Value} {d:DataW H} {p:List MemPlace} (hv:∃ cs,v=.agg cs) (h:DataW.Trod enc tp W 0 sp held 31 v d p):∃ (b:StB) (v1 v2:Value),v=.agg #[.int .i64 b.platform,.bool b.keeper,v1,v2]/\SlIn W stairV 3 b.stairs v1/\SlIn W grpV 2 b.groups v2:=by
 obtain ⟨ca,rfl⟩:=hv;obtain ⟨fuel,h⟩:=h;generalize hcs:(Value.agg ca).cells.toList=cs at h;obtain ⟨xs,n,rfl,hx,hlen,hxs,hf⟩:=DataW.trod_struct Tryz.underlying31 h;have hlen':cs.length=4:=hlen.trans (by kernel_rfl);have hxs':xs.length=4:=hxs;have c3:tp.cellsOf 3=1:=by kernel_rfl
 have c4:tp.cellsOf 4=1:=by kernel_rfl
 have c28:tp.cellsOf 28=1:=by kernel_rfl
 have c29:tp.cellsOf 29=1:=by kernel_rfl
 obtain ⟨v0,v1,v2,v3,rfl⟩:=list4C hlen';obtain ⟨y0,q0⟩:=yA hxs' (i:=0) dQ;obtain ⟨y1,q1⟩:=yA hxs' (i:=1) dQ;obtain ⟨y2,q2⟩:=yA hxs' (i:=2) dQ;obtain ⟨y3,q3⟩:=yA hxs' (i:=3) dQ;obtain ⟨a,e0,_⟩:=DataW.trod_int Tryz.underlying3 (yi (c:=v0) (hf 0 _ rfl) q0 (by show List.take (tp.cellsOf 3) (List.drop 0 _)=_; rw [c3]; rfl));obtain ⟨b,e1,_⟩:=DataW.trod_bool Tryz.underlying4 (yi (c:=v1) (hf 1 _ rfl) q1 (by show List.take (tp.cellsOf 4) (List.drop 1 _)=_; rw [c4]; rfl));obtain ⟨ss,b4,cap4,e4,l4,r4⟩:=uj (vals:=stairV) (c:=3) Tryz.underlying28 (by kernel_rfl) dQ zhB (yi (c:=v2) (hf 2 _ rfl) q2 (by show List.take (tp.cellsOf 28) (List.drop 2 _)=_; rw [c28]; rfl));obtain ⟨ns,b5,cap5,e5,l5,r5⟩:=uj (vals:=grpV) (c:=2) Tryz.underlying29 (by kernel_rfl) dQ zkp (yi (c:=v3) (hf 3 _ rfl) q3 (by show List.take (tp.cellsOf 29) (List.drop 3 _)=_; rw [c29]; rfl));cases e0; cases e1; cases e4; cases e5;refine ⟨⟨a,b,ss,ns⟩,_,_,?_,⟨b4,cap4,rfl,l4,r4⟩,⟨b5,cap5,rfl,l5,r5⟩⟩;have:ca.toList=_:=hcs;rw [<- Array.toArray_toList (xs:=ca),this]
end
theorem ziM {φ:Nat->Loc3} {n:Nat} (z) (jj:Nat) (a:AV) (h:(stairC z)[jj]? =some a):∃ y,(stairV z)[jj]? =some y/\RelV φ n a y:=by
 match jj,h with
 | 0,h=>cases h; exact ⟨_,rfl,.v _⟩
 | 1,h=>cases h; exact ⟨_,rfl,.v _⟩
 | 2,h=>cases h; exact ⟨_,rfl,.v _⟩
 | jj+3,h=>simp [stairC] at h
theorem zkD {φ:Nat->Loc3} {n:Nat} (z) (jj:Nat) (a:AV) (h:(grpC z)[jj]? =some a):∃ y,(grpV z)[jj]? =some y/\RelV φ n a y:=by
 match jj,h with
 | 0,h=>cases h; exact ⟨_,rfl,.v _⟩
 | 1,h=>cases h; exact ⟨_,rfl,.v _⟩
 | jj+2,h=>simp [grpC] at h
end Go.Vel
end
