/- The law RollLearnt: what is learnt makes the plans no worse. It holds of every program, tape and world that the statements name, as each theorem says. -/
import Derived.Sort.AssemblyPlain
import Derived.Sort.LotD3
import Derived.Test.YtamcohjpanjdiaaGreatDoorK5
import Derived.Test.YtamcohjpanjdiaaGreatDoorK7
import Derived.Test.YtamcohjpanjdiaaGreatDoorK8
import Derived.Test.YtamcohjpanjdiaaGreatDoorK10
section
set_option linter.all false
set_option maxRecDepth 20000
set_option maxHeartbeats 60000000
namespace Go.Vel
open Go Go.Conc
section
variable {P:Program} {gm:Nat->Option Nat} {T:Goroutine->Hp->Prop} {Y:KX P gm T} {ds:List Nat} {k:List Item} {env env':List AV} {K:KV} {ops:Array Oper} {i d id:Nat} {L':List Nat} {o:Oper} {r:AV} {pend:List Pd}
theorem TD.mv (s:List Nat) (h:TD Y ds ops k (⟨i,s,[]⟩::pend) L' env' K) (ho:ops[i]? =some o:=by rfl) (hq:∀ A,zM [] A->OpOk P gm (onl s env) A o r A:=by exact zh rfl rfl) (hd:yb o.op=false:=by rfl) (hw:zK ops (onl s env) o=some true:=by rfl) (hc:chkQ ops pend s i env.length o.dst=true:=by rfl) (hx:o.dst=some d:=by rfl) (he:env.set d r=env':=by simp only [List.set]; rfl):TD Y ds ops k pend (i::L') env K:=TD.z s ho hq h hd hw hc hx he
theorem TD.ix (s:List Nat) (h:TD Y ds ops k (⟨i,s,[]⟩::pend) L' env' K) (ho:ops[i]? =some o:=by rfl) (hq:∀ A,zM [] A->OpOk P gm (onl s env) A o r A:=by exact zQ rfl rfl rfl zF.h (by omega) (by omega)) (hd:yb o.op=false:=by rfl) (hw:zK ops (onl s env) o=some true:=by rfl) (hc:chkQ ops pend s i env.length o.dst=true:=by rfl) (hx:o.dst=some d:=by rfl) (he:env.set d r=env':=by simp only [List.set]; rfl):TD Y ds ops k pend (i::L') env K:=TD.z s ho hq h hd hw hc hx he
theorem TK.dr (L ρg:List Nat) (h:TD Y ds ops k [] L env K) (hd:drawnOk ops (List.range ops.size) ρg=true:=by kernel_rfl) (hL:(List.range ops.size).all (fun i=>L.elem i)&&L.all (fun i=>decide (i<ops.size))=true:=by kernel_rfl):TK Y ds (.code (.region id ops true)::k) env K:=TK.draw L ρg hd hL h
end
end Go.Vel
open Go.Proofs.Tryz renaming prog -> tp
open List renaming getElem?_eq_getElem -> lA, mem_cons -> lI, length_map -> lJ, eq_nil_of_length_eq_zero -> lK, map_append -> lM, append_nil -> lR, mem_singleton -> lS, mem_append -> lT, mem_append_left -> lV, take_length -> lW, getElem?_set -> lX, mem_map -> lY, length_cons -> lZ
open List.Mem renaming head -> mC
open Nat renaming le_refl -> mL, zero_le -> mN, zero_add -> mO, lt_or_ge -> mR
open Bool renaming and_eq_true -> mX
namespace Go.Vel
open Go Go.Conc Go.Sort
theorem jH {P:Program} {gm:Nat->Option Nat} {V:KV} {env:List AV} {o:Oper} {t yt:TypeId} {x y:Operand} {a b:Int} (ho:o.op=.binOp .quo t x y yt) (hx:zn gm env x=some (.v (.int .i64 a))) (hy:zn gm env y=some (.v (.int .i64 b))) (h0:0<=a) (h1:0<b) (h2:a<9223372036854775808):Qk P gm env V o (.v (.int .i64 (a / b))):=by
 refine wQ ho hx hy ?_
 show zR P (if b=0 then _ else _)=_
 rw [if_neg oQ]
 show some (Value.int .i64 (IntKind.i64.wrap (a.tdiv b)))=_
 rw [Int.tdiv_eq_ediv_of_nonneg h0,wK ⟨Int.le_trans oQ (Int.ediv_nonneg h0 oQ),Int.lt_of_le_of_lt (Int.ediv_le_self b h0) h2⟩]
theorem TK.shr {P:Program} {gm:Nat->Option Nat} {T:Goroutine->Hp->Prop} {Y:KX P gm T} {ds:List Nat} {k k':List Item} {env:List AV} {K:KV} {X:Type} {D:X->Prop} {E:X->List AV} {KK:X->KV} (main:(∀ x,D x->TK Y ds k' (E x) (KK x))->TK Y ds k env K) (tail:∀ x,D x->TK Y ds k' (E x) (KK x)):TK Y ds k env K:=main tail
theorem jae {d:Array Int} {i:Nat} (h:i<d.size):d.toList[i]? =some d[i]! :=by
 rw [Array.getElem?_toList,Array.getElem?_eq_getElem h,getElem!_pos d i h]
theorem jad (d:Array Int) (i j:Nat):(d.toList.set i d[j]!).set j d[i]! =(swp d i j).toList:=by
 simp [swp]
theorem jA {d:Array Int} {i:Nat} {n:Int} {e:TypeId} {s:Nat} (h:i<d.size) (hn:n=(i:Int)):takeO (.row (d.toList.map intA) e s) (0+n.toNat*1) 1=some [intA d[i]!]:=kD (jae h) (by subst hn; simp)
theorem jB {d:Array Int} {k:Nat} {n v:Int} {e:TypeId} {s:Nat} (h:k<d.size) (hn:n=(k:Int)):putO (.row (d.toList.map intA) e s) (0+n.toNat*1) [intA v]=some (.row ((d.toList.set k v).map intA) e s):=zcU (by rw [Array.length_toList]; exact h) hn
theorem jC {d:Array Int} {i j:Nat} {n:Int} {e:TypeId} {s:Nat} (h:j<d.size) (hn:n=(j:Int)):putO (.row ((d.toList.set i d[j]!).map intA) e s) (0+n.toNat*1) [intA d[i]!]=some (.row ((swp d i j).toList.map intA) e s):=by
 rw [<- jad]
 exact zcU (by rw [List.length_set,Array.length_toList]; exact h) hn
theorem jD {d:Array Int} {i j n:Nat} (h:d.size=n):(swp d i j).size=n:=by rw [swp_size]; exact h
section
variable {a b i j q n hi F root:Nat} {d:Array Int}
theorem xD (h:i<b):insOuter ltInt a b i d=insOuter ltInt a b (i+1) (insInner ltInt a i d):=by
 conv=>lhs; unfold insOuter
 rw [if_pos h]
theorem xu (h:¬ i<b):insOuter ltInt a b i d=d:=by unfold insOuter; rw [if_neg h]
theorem xC (h:a<q+1) (hl:ltInt d[q+1]! d[q]! =true):insInner ltInt a (q+1) d=insInner ltInt a q (swp d (q+1) q):=by
 conv=>lhs; unfold insInner
 rw [if_pos (by simp only [mX,decide_eq_true_eq]; exact ⟨h,hl⟩)]
theorem xt (h:¬ a<q):insInner ltInt a q d=d:=by
 cases q with
 | zero=>rfl
 | succ q =>
  unfold insInner
  rw [if_neg (by simp only [mX,decide_eq_true_eq]; exact fun hh=>h hh.1)]
theorem xo (hl:ltInt d[q+1]! d[q]! =false):insInner ltInt a (q+1) d=d:=by
 unfold insInner
 rw [if_neg (by rw [hl]; simp)]
theorem qD (h:hi<=2*root+1):siftDown ltInt hi F root d=d:=by unfold siftDown; rw [dif_pos h]
def SiftC (hi F root:Nat) (d:Array Int) (c:Nat):Prop:=root<c/\c<hi/\siftDown ltInt hi F root d=if (!ltInt d[F+root]! d[F+c]!)=true then d else siftDown ltInt hi F c (swp d (F+root) (F+c))
theorem jab (h:¬ hi<=2*root+1) (h2:2*root+2<hi) (hl:ltInt d[F+(2*root+1)]! d[F+(2*root+1)+1]! =true):SiftC hi F root d (2*root+2):=by
 refine ⟨by omega,h2,?_⟩
 conv=>lhs; unfold siftDown
 rw [dif_neg h,if_pos (by rw [hl]; simp; omega),dif_pos h2]
theorem xO (h:¬ hi<=2*root+1) (hl:¬ 2*root+2<hi\/ltInt d[F+(2*root+1)]! d[F+(2*root+1)+1]! =false):SiftC hi F root d (2*root+1):=by
 refine ⟨by omega,oQ,?_⟩
 conv=>lhs; unfold siftDown
 rw [dif_neg h,if_neg (by rcases hl with hl | hl <;> simp [hl])]
theorem xP (hi F root:Nat) (d:Array Int):(siftDown ltInt hi F root d).size=d.size:=by
 fun_induction siftDown ltInt hi F root d <;> simp_all [swp_size]
end
end Go.Vel
namespace Go.Vel
open Go Go.Conc Go.Proofs
open Go.Sort
theorem qN {main T} (hT:zo tp main T) {gm} {j n a b:Nat} {d:Array Int} (hd:d.size=n) (hn:n<=1000) (hab:a<=b) (hb:b<=n) :
  zA tp T gm 188 [.sl j 0 n,intA a,intA b] [(j,.row (d.toList.map intA) 3 1)] (fun r K'=>K'=[(j,.row ((insertionSort ltInt d a b).toList.map intA) 3 1)]):=by
 refine zp 49 hT Tryz.func188 fun Y hret=>?_
 refine au [4,5,1,23,2,3,13] ?_
 refine TK.maskL [0,1,2,6] ?_
 refine TK.loopN (fun n1 env K=>∃ (i:Nat) (d1:Array Int),n1=b - i/\a<i/\d1.size=n/\insOuter ltInt a b i d1=insertionSort ltInt d a b/\env=.sl j 0 n::intA a::intA b::naL 3 (intA i::naL 42 [])/\K=[(j,.row (d1.toList.map intA) 3 1)]) (b - (a+1)) ⟨a+1,d,rfl,oQ,hd,rfl,rfl,rfl⟩ fun n1 env K hI hnext=>?_
 obtain ⟨i,d1,rfl,hai,hs1,heq,rfl,rfl⟩:=hI
 refine TK.na nQ ?_
 refine au [4,4,5,1,1,6,3,20] ?_
 refine ⟨fun hc0=>?_,fun hc0=>?_⟩
 ·have hib:i<b:=by simp at hc0; omega
  rw [xD hib] at heq
  refine au [12,4,13,4,5,1,2,3,13] ?_
  refine TK.maskL [0,1,2,6,7] ?_
  refine TK.loopN (fun n1 env K=>∃ (p:Nat) (d2:Array Int),n1=p/\p<=i/\d2.size=n/\insOuter ltInt a b (i+1) (insInner ltInt a p d2)=insertionSort ltInt d a b/\env=.sl j 0 n::intA a::intA b::naL 3 (intA i::intA p::naL 41 [])/\K=[(j,.row (d2.toList.map intA) 3 1)]) i ⟨i,d1,rfl,mL _,hs1,heq,rfl,rfl⟩ fun n1 env K hI hnext1=>?_
  obtain ⟨p,d2,hnp,hp,hs2,heq2,rfl,rfl⟩:=hI
  subst n1
  refine TK.na nQ ?_
  refine au [4,4] ?_
  refine TK.dr [0,1,2,3,4,5,6,7,8,9,10,11,12,13,14] [0,1,2,3,4,5,6,7,8,9,10,11,12,13,14] ?_
  refine TD.mv [7] ?_
  refine TD.mv [1] ?_
  refine TD.z [16,17] Z (q_cmp Z Z Z Z) ?_
  refine TD.mv [18] ?_
  refine TD.sp 19 (fun g4_4=>?_) (fun g4_4=>?_)
  ·have hpa:a<p:=by simp at g4_4; omega
   obtain ⟨q,rfl⟩:∃ q,p=q+1:=⟨p - 1,oQ⟩
   refine TD.mv [0,19] ?_
   refine TD.mv [7,19] ?_
   refine TD.ix [19,20,21] ?_
   refine TD.y [19,22] Z (hq:=zm Z Z zi.h (mC _) (jA (i:=q+1) oQ oQ)) (h:=?_)
   refine TD.mv [0,19] ?_
   refine TD.mv [7,19] ?_
   refine TD.z [19,25] Z (q_sub Z Z Z oQ) ?_
   refine TD.ix [19,24,26] ?_
   refine TD.y [19,27] Z (hq:=zm Z Z zi.h (mC _) (jA (i:=q) oQ oQ)) (h:=?_)
   refine TD.cl (pend':=[⟨11,[19,24,26],[]⟩,⟨10,[19,25],[]⟩,⟨9,[7,19],[]⟩,⟨8,[0,19],[]⟩,⟨6,[19,20,21],[]⟩,⟨5,[7,19],[]⟩,⟨4,[0,19],[]⟩,⟨2,[16,17],[]⟩,⟨1,[1],[]⟩,⟨0,[7],[]⟩]) [19,23,28] Z Z Z Z Z (zg9 hT) (fun r1 K2 h3=>⟨?_,?_⟩)
   ·rcases h3 with ⟨rfl,rfl⟩
    all_goals simp
   obtain ⟨rfl,rfl⟩:=h3
   try simp only [cA]
   refine TD.norm tQ ?_
   refine TD.z [19,29] Z (yE Z Z Z) ?_
   refine TD.fin ?_
   refine au [20] ?_
   refine ⟨fun hc1=>?_,fun hc1=>?_⟩
   ·rw [xC hpa hc1] at heq2
    refine au [12,4,13] ?_
    refine TK.dr [0,1,2,3,4,5,6,7,8,9,10,11,12,13,14,15,16,17] [0,1,5,6,7,8,9,10,11,12,13,14,15,2,3,4,16,17] ?_
    refine TD.mv [0] ?_
    refine TD.mv [7] ?_
    refine TD.mv [0] ?_
    refine TD.mv [7] ?_
    refine TD.z [36] Z (q_sub Z Z Z oQ) ?_
    refine TD.mv [0] ?_
    refine TD.mv [7] ?_
    refine TD.z [39] Z (q_sub Z Z Z oQ) ?_
    refine TD.ix [38,40] ?_
    refine TD.y [41] Z (hq:=zm Z Z zi.h (mC _) (jA (i:=q) oQ oQ)) (h:=?_)
    refine TD.mv [0] ?_
    refine TD.mv [7] ?_
    refine TD.ix [43,44] ?_
    refine TD.y [45] Z (hq:=zm Z Z zi.h (mC _) (jA (i:=q+1) oQ oQ)) (h:=?_)
    refine TD.ix [33,34] ?_
    refine TD.s (pend':=[⟨12,[43,44],[]⟩,⟨11,[7],[]⟩,⟨10,[0],[]⟩,⟨4,[36],[]⟩,⟨3,[7],[]⟩,⟨2,[0],[]⟩]) [42,47] Z Z (zX Z Z zi.h Z Z mQ (jB (k:=q+1) oQ oQ)) ?_
    refine TD.ix [35,37] ?_
    refine TD.s (pend':=[]) [46,48] Z Z (zX Z Z zi.h Z Z mQ (jC (i:=q+1) (j:=q) oQ oQ)) ?_
    refine TD.fin ?_
    refine au [14,5,1,24,2,3] ?_
    refine TK.maskL [0,1,2,6,7] ?_
    refine TK.kp [(j,_)] ?_
    exact hnext1 _ _ _ oQ ⟨q,swp d2 (q+1) q,rfl,oQ,jD hs2,heq2,by rw [show ((q+1:Nat):Int) - 1=(q:Int) by omega]; rfl,rfl⟩
   rw [xo hc1] at heq2
   refine au [16,14,5,1,23,2,3] ?_
   refine TK.maskL [0,1,2,6] ?_
   refine TK.kp [(j,_)] ?_
   exact hnext _ _ _ oQ ⟨i+1,d2,rfl,oQ,hs2,heq2,rfl,rfl⟩
  have hpa:¬ a<p:=by simp at g4_4; omega
  rw [xt hpa] at heq2
  refine TD.u [0,19] Z ?_
  refine TD.u [7,19] Z ?_
  refine TD.u [19,20,21] Z ?_
  refine TD.u [19,22] Z ?_
  refine TD.u [0,19] Z ?_
  refine TD.u [7,19] Z ?_
  refine TD.u [19,25] Z ?_
  refine TD.u [19,24,26] Z ?_
  refine TD.u [19,27] Z ?_
  refine TD.u [19,23,28] Z ?_
  refine TD.z [19,29] Z (yf Z Z Z) ?_
  refine TD.fin ?_
  refine au [19,16,14,5,1,23,2,3] ?_
  refine TK.maskL [0,1,2,6] ?_
  refine TK.kp [(j,_)] ?_
  exact hnext _ _ _ oQ ⟨i+1,d2,rfl,oQ,hs2,heq2,rfl,rfl⟩
 have hib:¬ i<b:=by simp at hc0; omega
 refine au [16] ?_
 refine TK.rt0 hret [(j,_)] ?_
 rw [<- heq,xu hib]
theorem xA {main T} (hT:zo tp main T) {gm} {j n lo hi F:Nat} {d:Array Int} (hd:d.size=n) (hn:n<=1000) (hlo:lo<=1000) (hF:F+hi<=n) :
  zA tp T gm 218 [.sl j 0 n,intA lo,intA hi,intA F] [(j,.row (d.toList.map intA) 3 1)] (fun r K'=>K'=[(j,.row ((siftDown ltInt hi F lo d).toList.map intA) 3 1)]):=by
 refine zp 76 hT Tryz.func218 fun Y hret=>?_
 refine au [4,5,1,2,3,13] ?_
 refine TK.maskL [0,2,3,8] ?_
 refine TK.loopN (fun n1 env K=>∃ (root:Nat) (d1:Array Int),n1=hi - root/\root<=1000/\d1.size=n/\siftDown ltInt hi F root d1=siftDown ltInt hi F lo d/\env=.sl j 0 n::.any::intA hi::intA F::naL 4 (intA root::naL 67 [])/\K=[(j,.row (d1.toList.map intA) 3 1)]) (hi - lo) ⟨lo,d,rfl,hlo,hd,rfl,rfl,rfl⟩ fun n1 env K hI hnext=>?_
 obtain ⟨root,d1,rfl,hr,hs1,heq,rfl,rfl⟩:=hI
 refine TK.na nQ ?_
 refine au [13,4,5,1] ?_
 refine TK.a Z (q_mul Z Z Z oQ) ?_
 refine au [23,2,3,4,4] ?_
 rw [show 2*(root:Int)+1=((2*root+1:Nat):Int) by omega]
 refine au [5,1,1,6,3,20] ?_
 refine ⟨fun hc0=>?_,fun hc0=>?_⟩
 ·have hch:hi<=2*root+1:=by simp at hc0; omega
  have hfin:d1=siftDown ltInt hi F lo d:=by rw [<- heq,qD hch]
  refine au [16] ?_
  refine TK.rt0 hret [(j,_)] ?_
  rw [<- hfin]
 have hch:¬ hi<=2*root+1:=by simp at hc0; omega
 refine au [12,4,4] ?_
 refine' TK.shr (X:=Nat) (D:=fun x=>SiftC hi F root d1 x) (E:=fun x=>.sl j 0 n::.any::intA hi::intA F::naL 4 (intA root::intA x::naL 66 [])) (KK:=fun x=>[(j,.row (d1.toList.map intA) 3 1)]) ?_ ?_
 rotate_left
 ·intro H
  refine TK.dr [0,1,2,3,4,5,6,7,8,9,10,11,12,13,14,15,16,17,18,19] [0,1,2,3,4,5,6,7,8,9,10,11,12,13,14,15,16,17,18,19] ?_
  refine TD.mv [9] ?_
  refine TD.z [17] Z (q_add Z Z Z oQ) ?_
  refine TD.mv [2] ?_
  refine TD.z [18,19] Z (q_cmp Z Z Z Z) ?_
  refine TD.mv [20] ?_
  refine TD.sp 21 (fun g3_5=>?_) (fun g3_5=>?_)
  ·have hg:2*root+2<hi:=by simp at g3_5; omega
   refine TD.mv [0,21] ?_
   refine TD.mv [3,21] ?_
   refine TD.mv [9,21] ?_
   refine TD.z [21,23,24] Z (q_add Z Z Z oQ) ?_
   refine TD.ix [21,22,25] ?_
   refine TD.y [21,26] Z (hq:=zm Z Z zi.h (mC _) (jA (i:=F+(2*root+1)) oQ oQ)) (h:=?_)
   refine TD.mv [0,21] ?_
   refine TD.mv [3,21] ?_
   refine TD.mv [9,21] ?_
   refine TD.z [21,29,30] Z (q_add Z Z Z oQ) ?_
   refine TD.z [21,31] Z (q_add Z Z Z oQ) ?_
   refine TD.ix [21,28,32] ?_
   refine TD.y [21,33] Z (hq:=zm Z Z zi.h (mC _) (jA (i:=F+(2*root+1)+1) oQ oQ)) (h:=?_)
   refine TD.cl (pend':=[⟨16,[21,28,32],[]⟩,⟨15,[21,31],[]⟩,⟨14,[21,29,30],[]⟩,⟨13,[9,21],[]⟩,⟨12,[3,21],[]⟩,⟨11,[0,21],[]⟩,⟨9,[21,22,25],[]⟩,⟨8,[21,23,24],[]⟩,⟨7,[9,21],[]⟩,⟨6,[3,21],[]⟩,⟨5,[0,21],[]⟩,⟨3,[18,19],[]⟩,⟨2,[2],[]⟩,⟨1,[17],[]⟩,⟨0,[9],[]⟩]) [21,27,34] Z Z Z Z Z (zg9 hT) (fun r1 K2 h3=>⟨?_,?_⟩)
   ·rcases h3 with ⟨rfl,rfl⟩
    all_goals simp
   obtain ⟨rfl,rfl⟩:=h3
   try simp only [cA]
   refine TD.norm tQ ?_
   refine TD.z [21,35] Z (yE Z Z Z) ?_
   refine TD.fin ?_
   refine au [20] ?_
   refine ⟨fun hc1=>?_,fun hc1=>?_⟩
   ·have hc:=jab hch hg hc1
    refine au [5,1,23,2] ?_
    rw [show ((2*root+1:Nat):Int)+1=((2*root+2:Nat):Int) by omega]
    refine au [3,4,4] ?_
    refine TK.maskL [0,2,3,8,9] ?_
    refine TK.kp [(j,_)] ?_
    exact H (2*root+2) hc
   have hc:=xO hch (.inr hc1)
   refine au [12,4,4] ?_
   refine TK.maskL [0,2,3,8,9] ?_
   refine TK.kp [(j,_)] ?_
   exact H (2*root+1) hc
  have hg:¬ 2*root+2<hi:=by simp at g3_5; omega
  have hc:=xO (F:=F) (d:=d1) hch (.inl hg)
  refine TD.u [0,21] Z ?_
  refine TD.u [3,21] Z ?_
  refine TD.u [9,21] Z ?_
  refine TD.u [21,23,24] Z ?_
  refine TD.u [21,22,25] Z ?_
  refine TD.u [21,26] Z ?_
  refine TD.u [0,21] Z ?_
  refine TD.u [3,21] Z ?_
  refine TD.u [9,21] Z ?_
  refine TD.u [21,29,30] Z ?_
  refine TD.u [21,31] Z ?_
  refine TD.u [21,28,32] Z ?_
  refine TD.u [21,33] Z ?_
  refine TD.u [21,27,34] Z ?_
  refine TD.z [21,35] Z (yf Z Z Z) ?_
  refine TD.fin ?_
  refine au [19,12,4,4] ?_
  refine TK.maskL [0,2,3,8,9] ?_
  refine TK.kp [(j,_)] ?_
  exact H (2*root+1) hc
 ·rintro c ⟨hrc,hcl,heqc⟩; rw [heq] at heqc
  refine TK.na nQ ?_
  refine TK.dr [0,1,2,3,4,5,6,7,8,9,10,11,12,13] [0,1,2,3,4,5,6,7,8,9,10,11,12,13] ?_
  refine TD.mv [0] ?_
  refine TD.mv [3] ?_
  refine TD.mv [8] ?_
  refine TD.z [40,41] Z (q_add Z Z Z oQ) ?_
  refine TD.ix [39,42] ?_
  refine TD.y [43] Z (hq:=zm Z Z zi.h (mC _) (jA (i:=F+root) oQ oQ)) (h:=?_)
  refine TD.mv [0] ?_
  refine TD.mv [3] ?_
  refine TD.mv [9] ?_
  refine TD.z [46,47] Z (q_add Z Z Z oQ) ?_
  refine TD.ix [45,48] ?_
  refine TD.y [49] Z (hq:=zm Z Z zi.h (mC _) (jA (i:=F+c) oQ oQ)) (h:=?_)
  refine TD.cl (pend':=[⟨10,[45,48],[]⟩,⟨9,[46,47],[]⟩,⟨8,[9],[]⟩,⟨7,[3],[]⟩,⟨6,[0],[]⟩,⟨4,[39,42],[]⟩,⟨3,[40,41],[]⟩,⟨2,[8],[]⟩,⟨1,[3],[]⟩,⟨0,[0],[]⟩]) [44,50] Z Z Z Z Z (zg9 hT) (fun r10 K11 h12=>⟨?_,?_⟩)
  ·rcases h12 with ⟨rfl,rfl⟩
   all_goals simp
  obtain ⟨rfl,rfl⟩:=h12
  try simp only [cA]
  refine TD.norm tQ ?_
  refine TD.z [51] Z (q_not Z Z) ?_
  refine TD.fin ?_
  refine au [20] ?_
  refine ⟨fun hc2=>?_,fun hc2=>?_⟩
  ·have hfin:d1=siftDown ltInt hi F lo d:=by rw [heqc]; exact (if_pos hc2).symm
   refine au [] ?_
   refine TK.rt hret [(j,_)] ?_
   rw [<- hfin]
  have hq:=heqc.trans (if_neg (fun h=>absurd (hc2.symm.trans h) dQ))
  refine au [12,4] ?_
  refine TK.dr [0,1,2,3,4,5,6,7,8,9,10,11,12,13,14,15,16,17,18,19,20,21,22,23] [0,1,2,3,8,9,10,11,12,13,14,15,16,17,18,19,20,21,4,5,6,7,22,23] ?_
  refine TD.mv [0] ?_
  refine TD.mv [3] ?_
  refine TD.mv [8] ?_
  refine TD.z [54,55] Z (q_add Z Z Z oQ) ?_
  refine TD.mv [0] ?_
  refine TD.mv [3] ?_
  refine TD.mv [9] ?_
  refine TD.z [58,59] Z (q_add Z Z Z oQ) ?_
  refine TD.mv [0] ?_
  refine TD.mv [3] ?_
  refine TD.mv [9] ?_
  refine TD.z [62,63] Z (q_add Z Z Z oQ) ?_
  refine TD.ix [61,64] ?_
  refine TD.y [65] Z (hq:=zm Z Z zi.h (mC _) (jA (i:=F+c) oQ oQ)) (h:=?_)
  refine TD.mv [0] ?_
  refine TD.mv [3] ?_
  refine TD.mv [8] ?_
  refine TD.z [68,69] Z (q_add Z Z Z oQ) ?_
  refine TD.ix [67,70] ?_
  refine TD.y [71] Z (hq:=zm Z Z zi.h (mC _) (jA (i:=F+root) oQ oQ)) (h:=?_)
  refine TD.ix [53,56] ?_
  refine TD.s (pend':=[⟨18,[67,70],[]⟩,⟨17,[68,69],[]⟩,⟨16,[8],[]⟩,⟨15,[3],[]⟩,⟨14,[0],[]⟩,⟨7,[58,59],[]⟩,⟨6,[9],[]⟩,⟨5,[3],[]⟩,⟨4,[0],[]⟩]) [66,73] Z Z (zX Z Z zi.h Z Z mQ (jB (k:=F+root) oQ oQ)) ?_
  refine TD.ix [57,60] ?_
  refine TD.s (pend':=[]) [72,74] Z Z (zX Z Z zi.h Z Z mQ (jC (i:=F+root) (j:=F+c) oQ oQ)) ?_
  refine TD.fin ?_
  refine au [5,1,2,3,14] ?_
  refine TK.maskL [0,2,3,8] ?_
  refine TK.kp [(j,_)] ?_
  exact hnext _ _ _ oQ ⟨c,swp d1 (F+root) (F+c),rfl,oQ,jD hs1,hq.symm,rfl,rfl⟩
instance:Cal tp 218:={}
theorem qu {main T} (hT:zo tp main T) {gm} {j n a b:Nat} {d:Array Int} (hd:d.size=n) (hn:n<=1000) (hab:a<b) (hb:b<=n) :
  zA tp T gm 189 [.sl j 0 n,intA a,intA b] [(j,.row (d.toList.map intA) 3 1)] (fun r K'=>K'=[(j,.row ((heapSort ltInt d a b).toList.map intA) 3 1)]):=by
 refine zp 56 hT Tryz.func189 fun Y hret=>?_
 refine au [4,5,1,2,3,4,5,2,3,4,5,1,1,24,2,3,4,4] ?_
 rw [show (b:Int) - (a:Int)=((b - a:Nat):Int) by omega]
 refine au [5,1,24] ?_
 refine TK.a Z (jH Z Z Z oQ oQ oQ) ?_
 refine au [2,3,13] ?_
 refine TK.maskL [0,6,7,8,9] ?_
 refine TK.loopN (fun n1 env K=>∃ (k:Nat) (d1:Array Int),n1=k/\k<=b - a/\d1.size=n/\heapPop ltInt a (b - a) (heapBuild ltInt (b - a) a k d1)=heapSort ltInt d a b/\env=.sl j 0 n::naL 5 (intA a::intA 0::intA (b - a:Nat)::intA ((k:Int) - 1)::naL 46 [])/\K=[(j,.row (d1.toList.map intA) 3 1)]) ((b - a - 1) / 2+1) ⟨(b - a - 1) / 2+1,d,rfl,oQ,hd,rfl,by rw [show (((b - a:Nat):Int) - 1) / 2=(((b - a - 1) / 2+1:Nat):Int) - 1 by omega] <;> rfl,rfl⟩ fun n1 env K hI hnext=>?_
 obtain ⟨k,d1,hnk,hk,hs1,heq,rfl,rfl⟩:=hI
 subst n1
 refine TK.na nQ ?_
 refine au [4,4,5,1,6,3,20] ?_
 refine ⟨fun hc0=>?_,fun hc0=>?_⟩
 ·obtain ⟨q,rfl⟩:∃ q,k=q+1:=⟨k - 1,by simp at hc0; omega⟩
  rw [show ((q+1:Nat):Int) - 1=(q:Int) by omega]
  refine au [12,4,13,5,1,1,1,1] ?_
  refine TK.cl Z Z Z Z (xA hT (d:=d1) (lo:=q) (hi:=b - a) (F:=a) hs1 hn oQ oQ) ?_
  rintro r1 K2 rfl
  refine au [3,14,5,1,24,2,3] ?_
  refine TK.maskL [0,6,7,8,9] ?_
  refine TK.kp [(j,_)] ?_
  exact hnext _ _ _ oQ ⟨q,siftDown ltInt (b - a) a q d1,rfl,oQ,by rw [xP]; exact hs1,heq,rfl,rfl⟩
 obtain rfl:k=0:=by simp at hc0; omega
 refine au [16,4,5,1,24,2,3,13] ?_
 refine TK.maskL [0,6,7,8,10] ?_
 refine TK.loopN (fun n1 env K=>∃ (k:Nat) (d2:Array Int),n1=k/\k<=b - a/\d2.size=n/\heapPop ltInt a k d2=heapSort ltInt d a b/\env=.sl j 0 n::naL 5 (intA a::intA 0::intA (b - a:Nat)::.any::intA ((k:Int) - 1)::naL 45 [])/\K=[(j,.row (d2.toList.map intA) 3 1)]) (b - a) ⟨b - a,d1,rfl,mL _,hs1,heq,rfl,rfl⟩ fun n1 env K hI hnext1=>?_
 obtain ⟨k,d2,hnk2,hk2,hs2,heq2,rfl,rfl⟩:=hI
 subst n1
 refine TK.na nQ ?_
 refine au [4,4,5,1,6,3,20] ?_
 refine ⟨fun hc1=>?_,fun hc1=>?_⟩
 ·obtain ⟨q,rfl⟩:∃ q,k=q+1:=⟨k - 1,by simp at hc1; omega⟩
  rw [show ((q+1:Nat):Int) - 1=(q:Int) by omega]
  refine au [12,4,13,4] ?_
  refine TK.dr [0,1,2,3,4,5,6,7,8,9,10,11,12,13,14,15,16,17,18,19] [0,1,6,7,8,9,10,11,12,13,14,15,16,17,2,3,4,5,18,19] ?_
  refine TD.mv [0] ?_
  refine TD.mv [6] ?_
  refine TD.mv [0] ?_
  refine TD.mv [6] ?_
  refine TD.mv [10] ?_
  refine TD.z [36,37] Z (q_add Z Z Z oQ) ?_
  refine TD.mv [0] ?_
  refine TD.mv [6] ?_
  refine TD.mv [10] ?_
  refine TD.z [40,41] Z (q_add Z Z Z oQ) ?_
  refine TD.ix [39,42] ?_
  refine TD.y [43] Z (hq:=zm Z Z zi.h (mC _) (jA (i:=a+q) oQ oQ)) (h:=?_)
  refine TD.mv [0] ?_
  refine TD.mv [6] ?_
  refine TD.ix [45,46] ?_
  refine TD.y [47] Z (hq:=zm Z Z zi.h (mC _) (jA (i:=a) oQ oQ)) (h:=?_)
  refine TD.ix [33,34] ?_
  refine TD.s (pend':=[⟨14,[45,46],[]⟩,⟨13,[6],[]⟩,⟨12,[0],[]⟩,⟨5,[36,37],[]⟩,⟨4,[10],[]⟩,⟨3,[6],[]⟩,⟨2,[0],[]⟩]) [44,49] Z Z (zX Z Z zi.h Z Z mQ (jB (k:=a) oQ oQ)) ?_
  refine TD.ix [35,38] ?_
  refine TD.s (pend':=[]) [48,50] Z Z (zX Z Z zi.h Z Z mQ (jC (i:=a) (j:=a+q) oQ oQ)) ?_
  refine TD.fin ?_
  refine au [5,1,1,1,1] ?_
  refine TK.cl Z Z Z Z (xA hT (d:=swp d2 a (a+q)) (lo:=0) (hi:=q) (F:=a) (jD hs2) hn oQ oQ) ?_
  rintro r4 K5 rfl
  refine au [3,14,5,1,24,2,3] ?_
  refine TK.maskL [0,6,7,8,10] ?_
  refine TK.kp [(j,_)] ?_
  exact hnext1 _ _ _ oQ ⟨q,siftDown ltInt q a 0 (swp d2 a (a+q)),rfl,oQ,by rw [xP]; exact jD hs2,heq2,rfl,rfl⟩
 obtain rfl:k=0:=by simp at hc1; omega
 refine au [16] ?_
 refine TK.rt0 hret [(j,_)] ?_
 rw [<- heq2]; rfl
end Go.Vel
namespace Go.Vel
open Go Go.Conc Go.Sort
section
variable {p:Int->Bool} {a b i j q u v u2 v2 pv:Nat} {d d1 d2:Array Int}
theorem up_go (h:i<=j) (hp:p d[i]! =true):scanUp p d j i=scanUp p d j (i+1):=by
 conv=>lhs; unfold scanUp
 rw [if_pos (by simp [h,hp])]
theorem jL (h:¬ i<=j\/p d[i]! =false):scanUp p d j i=i:=by
 unfold scanUp
 rw [if_neg (by rcases h with h | h <;> simp [h])]
theorem xh (h:i<=q+1) (hp:p d[q+1]! =true):scanDown p d i (q+1)=scanDown p d i q:=by
 conv=>lhs; unfold scanDown
 rw [if_pos (by simp [h,hp])]
theorem jE (h:¬ i<=q\/p d[q]! =false):scanDown p d i q=q:=by
 cases q with
 | zero=>rfl
 | succ q =>
  unfold scanDown
  rw [if_neg (by rcases h with h | h <;> simp [h])]
theorem jaf (hd:d1=swp d a pv) (hu:scanUp (fun x=>ltInt x d1[a]!) d1 (b - 1) (a+1)=u) (hv:scanDown (fun x => !ltInt x d1[a]!) d1 u (b - 1)=v) (h:v<u):partition ltInt d a b pv=(v,true,swp d1 v a):=by
 subst hd
 unfold partition
 simp only []
 rw [hu,hv,if_pos h]
theorem jag (hd:d1=swp d a pv) (hu:scanUp (fun x=>ltInt x d1[a]!) d1 (b - 1) (a+1)=u) (hv:scanDown (fun x => !ltInt x d1[a]!) d1 u (b - 1)=v) (h:¬ v<u) (hl:partLoop ltInt a (u+1) (v - 1) (swp d1 u v)=(v2,d2)):partition ltInt d a b pv=(v2,false,swp d2 v2 a):=by
 subst hd
 unfold partition
 simp only []
 rw [hu,hv,if_neg h,hl]
theorem jai (hu:scanUp (fun x=>ltInt x d[a]!) d v u=u2) (hv:scanDown (fun x => !ltInt x d[a]!) d u2 v=v2) (h:v2<u2):partLoop ltInt a u v d=(v2,d):=by
 rw [partLoop_eq,hu,hv]
 exact if_pos h
theorem pl_go (hu:scanUp (fun x=>ltInt x d[a]!) d v u=u2) (hv:scanDown (fun x => !ltInt x d[a]!) d u2 v=v2) (h:¬ v2<u2):partLoop ltInt a u v d=partLoop ltInt a (u2+1) (v2 - 1) (swp d u2 v2):=by
 conv=>lhs; rw [partLoop_eq,hu,hv]
 exact if_neg h
theorem jah (hu:scanUp (fun x => !ltInt d[a]! x) d v u=u2) (hv:scanDown (fun x=>ltInt d[a]! x) d u2 v=v2) (h:v2<u2):partEqLoop ltInt a u v d=(u2,d):=by
 rw [partEqLoop_eq,hu,hv]
 exact if_pos h
theorem pe_go (hu:scanUp (fun x => !ltInt d[a]! x) d v u=u2) (hv:scanDown (fun x=>ltInt d[a]! x) d u2 v=v2) (h:¬ v2<u2):partEqLoop ltInt a u v d=partEqLoop ltInt a (u2+1) (v2 - 1) (swp d u2 v2):=by
 conv=>lhs; rw [partEqLoop_eq,hu,hv]
 exact if_neg h
end
end Go.Vel
namespace Go.Vel
open Go Go.Conc Go.Proofs
open Go.Sort
theorem qy {main T} (hT:zo tp main T) {gm} {j n a b pv:Nat} {d:Array Int} (hd:d.size=n) (hn:n<=1000) (ha:a<=pv) (hpv:pv<b) (hb:b<=n) :
  zA tp T gm 196 [.sl j 0 n,intA a,intA b,intA pv] [(j,.row (d.toList.map intA) 3 1)] (fun r K'=>∃ p,partition ltInt d a b pv=p/\r=.tup [intA p.1,zP p.2.1]/\K'=[(j,.row (p.2.2.toList.map intA) 3 1)]):=by
 refine zp 168 hT Tryz.func196 fun Y hret=>?_
 refine au [4,5,2,2,3,4] ?_
 refine TK.dr [0,1,2,3,4,5,6,7,8,9,10,11,12,13,14,15] [0,1,4,5,6,7,8,9,10,11,12,13,2,3,14,15] ?_
 refine TD.mv [0] ?_
 refine TD.mv [1] ?_
 refine TD.mv [0] ?_
 refine TD.mv [3] ?_
 refine TD.mv [0] ?_
 refine TD.mv [3] ?_
 refine TD.ix [16,17] ?_
 refine TD.y [18] Z (hq:=zm Z Z zi.h (mC _) (jA (i:=pv) oQ oQ)) (h:=?_)
 refine TD.mv [0] ?_
 refine TD.mv [1] ?_
 refine TD.ix [20,21] ?_
 refine TD.y [22] Z (hq:=zm Z Z zi.h (mC _) (jA (i:=a) oQ oQ)) (h:=?_)
 refine TD.ix [12,13] ?_
 refine TD.s (pend':=[⟨10,[20,21],[]⟩,⟨9,[1],[]⟩,⟨8,[0],[]⟩,⟨3,[3],[]⟩,⟨2,[0],[]⟩]) [19,24] Z Z (zX Z Z zi.h Z Z mQ (jB (k:=a) oQ oQ)) ?_
 refine TD.ix [14,15] ?_
 refine TD.s (pend':=[]) [23,25] Z Z (zX Z Z zi.h Z Z mQ (jC (i:=a) (j:=pv) oQ oQ)) ?_
 refine TD.fin ?_
 refine au [4] ?_
 obtain ⟨d1,hd1⟩:∃ d1,d1=swp d a pv:=⟨_,rfl⟩
 rw [<- hd1]
 have hs1:d1.size=n:=by rw [hd1]; exact jD hd
 refine au [5,1,23,1,24,2,2,3,4,13] ?_
 refine TK.maskL [0,1,10,11] ?_
 refine TK.loopN (fun n1 env K=>∃ (u:Nat),n1=b - u/\a+1<=u/\u<=b/\scanUp (fun x=>ltInt x d1[a]!) d1 (b - 1) u=scanUp (fun x=>ltInt x d1[a]!) d1 (b - 1) (a+1)/\env=.sl j 0 n::intA a::naL 8 (intA u::intA (b - 1:Nat)::naL 156 [])/\K=[(j,.row (d1.toList.map intA) 3 1)]) (b - (a+1)) ⟨a+1,rfl,mL _,oQ,rfl,by rw [show (b:Int) - 1=((b - 1:Nat):Int) by omega] <;> rfl,rfl⟩ fun n1 env K hI hnextu=>?_
 obtain ⟨u,rfl,hu0,hub,heqs,rfl,rfl⟩:=hI
 refine TK.na nQ ?_
 refine au [4,4] ?_
 refine' TK.shr (X:=Unit) (D:=fun x=>scanUp (fun x=>ltInt x d1[a]!) d1 (b - 1) (a+1)=u) (E:=fun x=>.sl j 0 n::intA a::naL 8 (intA u::intA (b - 1:Nat)::naL 156 [])) (KK:=fun x=>[(j,.row (d1.toList.map intA) 3 1)]) ?_ ?_
 rotate_left
 ·intro H
  refine TK.dr [0,1,2,3,4,5,6,7,8,9,10,11,12,13] [0,1,2,3,4,5,6,7,8,9,10,11,12,13] ?_
  refine TD.mv [10] ?_
  refine TD.mv [11] ?_
  refine TD.z [30,31] Z (q_cmp Z Z Z Z) ?_
  refine TD.mv [32] ?_
  refine TD.sp 33 (fun g3_4=>?_) (fun g3_4=>?_)
  ·have hg:u<=b - 1:=by simp at g3_4; omega
   refine TD.mv [0,33] ?_
   refine TD.mv [10,33] ?_
   refine TD.ix [33,34,35] ?_
   refine TD.y [33,36] Z (hq:=zm Z Z zi.h (mC _) (jA (i:=u) oQ oQ)) (h:=?_)
   refine TD.mv [0,33] ?_
   refine TD.mv [1,33] ?_
   refine TD.ix [33,38,39] ?_
   refine TD.y [33,40] Z (hq:=zm Z Z zi.h (mC _) (jA (i:=a) oQ oQ)) (h:=?_)
   refine TD.cl (pend':=[⟨10,[33,38,39],[]⟩,⟨9,[1,33],[]⟩,⟨8,[0,33],[]⟩,⟨6,[33,34,35],[]⟩,⟨5,[10,33],[]⟩,⟨4,[0,33],[]⟩,⟨2,[30,31],[]⟩,⟨1,[11],[]⟩,⟨0,[10],[]⟩]) [33,37,41] Z Z Z Z Z (zg9 hT) (fun r1 K2 h3=>⟨?_,?_⟩)
   ·rcases h3 with ⟨rfl,rfl⟩
    all_goals simp
   obtain ⟨rfl,rfl⟩:=h3
   try simp only [cA]
   refine TD.norm tQ ?_
   refine TD.z [33,42] Z (yE Z Z Z) ?_
   refine TD.fin ?_
   refine au [20] ?_
   refine ⟨fun hc0=>?_,fun hc0=>?_⟩
   ·rw [up_go (p:=(fun x=>ltInt x d1[a]!)) hg hc0] at heqs
    refine au [12,13,5,1,23,2,3,14] ?_
    refine TK.maskL [0,1,10,11] ?_
    refine TK.kp [(j,_)] ?_
    exact hnextu _ _ _ oQ ⟨u+1,rfl,oQ,oQ,heqs,rfl,rfl⟩
   have hfin:scanUp (fun x=>ltInt x d1[a]!) d1 (b - 1) (a+1)=u:=by rw [<- heqs]; exact jL (p:=(fun x=>ltInt x d1[a]!)) (.inr hc0)
   refine au [16,4,13] ?_
   refine TK.maskL [0,1,10,11] ?_
   refine TK.maskL [0,1,10,11] ?_
   refine TK.kp [(j,_)] ?_
   exact H () hfin
  have hfin:scanUp (fun x=>ltInt x d1[a]!) d1 (b - 1) (a+1)=u:=by rw [<- heqs]; exact jL (.inl (by simp at g3_4; omega))
  refine TD.u [0,33] Z ?_
  refine TD.u [10,33] Z ?_
  refine TD.u [33,34,35] Z ?_
  refine TD.u [33,36] Z ?_
  refine TD.u [0,33] Z ?_
  refine TD.u [1,33] Z ?_
  refine TD.u [33,38,39] Z ?_
  refine TD.u [33,40] Z ?_
  refine TD.u [33,37,41] Z ?_
  refine TD.z [33,42] Z (yf Z Z Z) ?_
  refine TD.fin ?_
  refine au [19,16,4,13] ?_
  refine TK.maskL [0,1,10,11] ?_
  refine TK.maskL [0,1,10,11] ?_
  refine TK.kp [(j,_)] ?_
  exact H () hfin
 ·rintro _ hup
  refine TK.na nQ ?_
  refine TK.loopN (fun n1 env K=>∃ (v:Nat),n1=v/\v<=b - 1/\scanDown (fun x => !ltInt x d1[a]!) d1 u v=scanDown (fun x => !ltInt x d1[a]!) d1 u (b - 1)/\env=.sl j 0 n::intA a::naL 8 (intA u::intA v::naL 156 [])/\K=[(j,.row (d1.toList.map intA) 3 1)]) (b - 1) ⟨b - 1,rfl,mL _,rfl,rfl,rfl⟩ fun n1 env K hI hnextv=>?_
  obtain ⟨v,hnv,hvb,heqs,rfl,rfl⟩:=hI
  subst n1
  refine TK.na nQ ?_
  refine au [4,4] ?_
  refine' TK.shr (X:=Unit) (D:=fun x=>scanDown (fun x => !ltInt x d1[a]!) d1 u (b - 1)=v) (E:=fun x=>.sl j 0 n::intA a::naL 8 (intA u::intA v::naL 156 [])) (KK:=fun x=>[(j,.row (d1.toList.map intA) 3 1)]) ?_ ?_
  rotate_left
  ·intro H
   refine TK.dr [0,1,2,3,4,5,6,7,8,9,10,11,12,13,14] [0,1,2,3,4,5,6,7,8,9,10,11,12,13,14] ?_
   refine TD.mv [10] ?_
   refine TD.mv [11] ?_
   refine TD.z [46,47] Z (q_cmp Z Z Z Z) ?_
   refine TD.mv [48] ?_
   refine TD.sp 49 (fun g5_4=>?_) (fun g5_4=>?_)
   ·have hg:u<=v:=by simp at g5_4; omega
    obtain ⟨q,rfl⟩:∃ q,v=q+1:=⟨v - 1,oQ⟩
    refine TD.mv [0,49] ?_
    refine TD.mv [11,49] ?_
    refine TD.ix [49,50,51] ?_
    refine TD.y [49,52] Z (hq:=zm Z Z zi.h (mC _) (jA (i:=q+1) oQ oQ)) (h:=?_)
    refine TD.mv [0,49] ?_
    refine TD.mv [1,49] ?_
    refine TD.ix [49,54,55] ?_
    refine TD.y [49,56] Z (hq:=zm Z Z zi.h (mC _) (jA (i:=a) oQ oQ)) (h:=?_)
    refine TD.cl (pend':=[⟨10,[49,54,55],[]⟩,⟨9,[1,49],[]⟩,⟨8,[0,49],[]⟩,⟨6,[49,50,51],[]⟩,⟨5,[11,49],[]⟩,⟨4,[0,49],[]⟩,⟨2,[46,47],[]⟩,⟨1,[11],[]⟩,⟨0,[10],[]⟩]) [49,53,57] Z Z Z Z Z (zg9 hT) (fun r25 K26 h27=>⟨?_,?_⟩)
    ·rcases h27 with ⟨rfl,rfl⟩
     all_goals simp
    obtain ⟨rfl,rfl⟩:=h27
    try simp only [cA]
    refine TD.norm tQ ?_
    refine TD.z [49,58] Z (q_not Z Z) ?_
    refine TD.z [49,59] Z (yE Z Z Z) ?_
    refine TD.fin ?_
    refine au [20] ?_
    refine ⟨fun hc1=>?_,fun hc1=>?_⟩
    ·rw [xh (p:=(fun x => !ltInt x d1[a]!)) hg hc1] at heqs
     refine au [12,13,5,1,24,2,3,14] ?_
     refine TK.maskL [0,1,10,11] ?_
     refine TK.kp [(j,_)] ?_
     exact hnextv _ _ _ oQ ⟨q,rfl,oQ,heqs,by rw [show ((q+1:Nat):Int) - 1=(q:Int) by omega]; rfl,rfl⟩
    have hfin:scanDown (fun x => !ltInt x d1[a]!) d1 u (b - 1)=q+1:=by rw [<- heqs]; exact jE (p:=(fun x => !ltInt x d1[a]!)) (.inr hc1)
    refine au [16,4,4] ?_
    refine TK.maskL [0,1,10,11] ?_
    refine TK.kp [(j,_)] ?_
    exact H () hfin
   have hfin:scanDown (fun x => !ltInt x d1[a]!) d1 u (b - 1)=v:=by rw [<- heqs]; exact jE (.inl (by simp at g5_4; omega))
   refine TD.u [0,49] Z ?_
   refine TD.u [11,49] Z ?_
   refine TD.u [49,50,51] Z ?_
   refine TD.u [49,52] Z ?_
   refine TD.u [0,49] Z ?_
   refine TD.u [1,49] Z ?_
   refine TD.u [49,54,55] Z ?_
   refine TD.u [49,56] Z ?_
   refine TD.u [49,53,57] Z ?_
   refine TD.u [49,58] Z ?_
   refine TD.z [49,59] Z (yf Z Z Z) ?_
   refine TD.fin ?_
   refine au [19,16,4,4] ?_
   refine TK.maskL [0,1,10,11] ?_
   refine TK.kp [(j,_)] ?_
   exact H () hfin
  ·rintro _ hdn
   refine TK.na nQ ?_
   refine au [5,1,1,6,3,20] ?_
   refine ⟨fun hc2=>?_,fun hc2=>?_⟩
   ·have hlt:v<u:=by simp at hc2; omega
    refine au [4] ?_
    refine TK.dr [0,1,2,3,4,5,6,7,8,9,10,11,12,13,14,15] [0,1,4,5,6,7,8,9,10,11,12,13,2,3,14,15] ?_
    refine TD.mv [0] ?_
    refine TD.mv [11] ?_
    refine TD.mv [0] ?_
    refine TD.mv [1] ?_
    refine TD.mv [0] ?_
    refine TD.mv [1] ?_
    refine TD.ix [70,71] ?_
    refine TD.y [72] Z (hq:=zm Z Z zi.h (mC _) (jA (i:=a) oQ oQ)) (h:=?_)
    refine TD.mv [0] ?_
    refine TD.mv [11] ?_
    refine TD.ix [74,75] ?_
    refine TD.y [76] Z (hq:=zm Z Z zi.h (mC _) (jA (i:=v) oQ oQ)) (h:=?_)
    refine TD.ix [66,67] ?_
    refine TD.s (pend':=[⟨10,[74,75],[]⟩,⟨9,[11],[]⟩,⟨8,[0],[]⟩,⟨3,[1],[]⟩,⟨2,[0],[]⟩]) [73,78] Z Z (zX Z Z zi.h Z Z mQ (jB (k:=v) oQ oQ)) ?_
    refine TD.ix [68,69] ?_
    refine TD.s (pend':=[]) [77,79] Z Z (zX Z Z zi.h Z Z mQ (jC (i:=v) (j:=a) oQ oQ)) ?_
    refine TD.fin ?_
    refine au [4,5,1,2,2,3] ?_
    refine TK.rt hret [(j,_)] ?_
    exact ⟨_,jaf hd1 hup hdn hlt,rfl,rfl⟩
   have hge:¬ v<u:=by simp at hc2; omega
   refine au [12,4] ?_
   refine TK.dr [0,1,2,3,4,5,6,7,8,9,10,11,12,13,14,15] [0,1,4,5,6,7,8,9,10,11,12,13,2,3,14,15] ?_
   refine TD.mv [0] ?_
   refine TD.mv [10] ?_
   refine TD.mv [0] ?_
   refine TD.mv [11] ?_
   refine TD.mv [0] ?_
   refine TD.mv [11] ?_
   refine TD.ix [85,86] ?_
   refine TD.y [87] Z (hq:=zm Z Z zi.h (mC _) (jA (i:=v) oQ oQ)) (h:=?_)
   refine TD.mv [0] ?_
   refine TD.mv [10] ?_
   refine TD.ix [89,90] ?_
   refine TD.y [91] Z (hq:=zm Z Z zi.h (mC _) (jA (i:=u) oQ oQ)) (h:=?_)
   refine TD.ix [81,82] ?_
   refine TD.s (pend':=[⟨10,[89,90],[]⟩,⟨9,[10],[]⟩,⟨8,[0],[]⟩,⟨3,[11],[]⟩,⟨2,[0],[]⟩]) [88,93] Z Z (zX Z Z zi.h Z Z mQ (jB (k:=u) oQ oQ)) ?_
   refine TD.ix [83,84] ?_
   refine TD.s (pend':=[]) [92,94] Z Z (zX Z Z zi.h Z Z mQ (jC (i:=u) (j:=v) oQ oQ)) ?_
   refine TD.fin ?_
   refine au [4,5,1,23,2,3,4,5,1,24,2,3,4,13] ?_
   refine TK.maskL [0,1,10,11] ?_
   obtain ⟨u0,hu0e⟩:∃ u0,u0=u:=⟨_,rfl⟩
   obtain ⟨v0,hv0e⟩:∃ v0,v0=v:=⟨_,rfl⟩
   have hup0:=hup
   have hdn0:=hdn
   have hge0:=hge
   rw [<- hu0e,<- hv0e] at hdn0 hge0
   rw [<- hu0e] at hup0
   refine TK.loopN (fun n1 env K=>∃ (u2 v2:Nat) (d2:Array Int),n1=v2+1 - u2/\a<u2/\u2<=b/\v2<b/\d2.size=n/\partLoop ltInt a u2 v2 d2=partLoop ltInt a (u0+1) (v0 - 1) (swp d1 u0 v0)/\env=.sl j 0 n::intA a::naL 8 (intA u2::intA v2::naL 156 [])/\K=[(j,.row (d2.toList.map intA) 3 1)]) (v - 1+1 - (u+1)) ⟨u+1,v - 1,swp d1 u v,rfl,oQ,oQ,oQ,jD hs1,by rw [hu0e,hv0e],by rw [show (v:Int) - 1=((v - 1:Nat):Int) by omega] <;> rfl,rfl⟩ fun n1 env K hI hnext2=>?_
   clear hup hdn hge
   obtain ⟨u2,v2,d2,rfl,hau,hub2,hvb2,hs2,heq2,rfl,rfl⟩:=hI
   refine TK.na nQ ?_
   refine au [13,4,13] ?_
   refine TK.maskL [0,1,10,11] ?_
   refine TK.loopN (fun n1 env K=>∃ (u:Nat),n1=b - u/\u2<=u/\u<=b/\scanUp (fun x=>ltInt x d2[a]!) d2 (v2) u=scanUp (fun x=>ltInt x d2[a]!) d2 (v2) (u2)/\env=.sl j 0 n::intA a::naL 8 (intA u::intA v2::naL 156 [])/\K=[(j,.row (d2.toList.map intA) 3 1)]) (b - (u2)) ⟨u2,rfl,mL _,oQ,rfl,rfl,rfl⟩ fun n1 env K hI hnextu=>?_
   obtain ⟨u,rfl,hu0,hub,heqs,rfl,rfl⟩:=hI
   refine TK.na nQ ?_
   refine au [4,4] ?_
   refine' TK.shr (X:=Unit) (D:=fun x=>scanUp (fun x=>ltInt x d2[a]!) d2 (v2) (u2)=u) (E:=fun x=>.sl j 0 n::intA a::naL 8 (intA u::intA v2::naL 156 [])) (KK:=fun x=>[(j,.row (d2.toList.map intA) 3 1)]) ?_ ?_
   rotate_left
   ·intro H
    refine TK.dr [0,1,2,3,4,5,6,7,8,9,10,11,12,13] [0,1,2,3,4,5,6,7,8,9,10,11,12,13] ?_
    refine TD.mv [10] ?_
    refine TD.mv [11] ?_
    refine TD.z [99,100] Z (q_cmp Z Z Z Z) ?_
    refine TD.mv [101] ?_
    refine TD.sp 102 (fun g13_4=>?_) (fun g13_4=>?_)
    ·have hg:u<=v2:=by simp at g13_4; omega
     refine TD.mv [0,102] ?_
     refine TD.mv [10,102] ?_
     refine TD.ix [102,103,104] ?_
     refine TD.y [102,105] Z (hq:=zm Z Z zi.h (mC _) (jA (i:=u) oQ oQ)) (h:=?_)
     refine TD.mv [0,102] ?_
     refine TD.mv [1,102] ?_
     refine TD.ix [102,107,108] ?_
     refine TD.y [102,109] Z (hq:=zm Z Z zi.h (mC _) (jA (i:=a) oQ oQ)) (h:=?_)
     refine TD.cl (pend':=[⟨10,[102,107,108],[]⟩,⟨9,[1,102],[]⟩,⟨8,[0,102],[]⟩,⟨6,[102,103,104],[]⟩,⟨5,[10,102],[]⟩,⟨4,[0,102],[]⟩,⟨2,[99,100],[]⟩,⟨1,[11],[]⟩,⟨0,[10],[]⟩]) [102,106,110] Z Z Z Z Z (zg9 hT) (fun r37 K38 h39=>⟨?_,?_⟩)
     ·rcases h39 with ⟨rfl,rfl⟩
      all_goals simp
     obtain ⟨rfl,rfl⟩:=h39
     try simp only [cA]
     refine TD.norm tQ ?_
     refine TD.z [102,111] Z (yE Z Z Z) ?_
     refine TD.fin ?_
     refine au [20] ?_
     refine ⟨fun hc3=>?_,fun hc3=>?_⟩
     ·rw [up_go (p:=(fun x=>ltInt x d2[a]!)) hg hc3] at heqs
      refine au [12,13,5,1,23,2,3,14] ?_
      refine TK.maskL [0,1,10,11] ?_
      refine TK.kp [(j,_)] ?_
      exact hnextu _ _ _ oQ ⟨u+1,rfl,oQ,oQ,heqs,rfl,rfl⟩
     have hfin:scanUp (fun x=>ltInt x d2[a]!) d2 (v2) (u2)=u:=by rw [<- heqs]; exact jL (p:=(fun x=>ltInt x d2[a]!)) (.inr hc3)
     refine au [16,4,13] ?_
     refine TK.maskL [0,1,10,11] ?_
     refine TK.maskL [0,1,10,11] ?_
     refine TK.kp [(j,_)] ?_
     exact H () hfin
    have hfin:scanUp (fun x=>ltInt x d2[a]!) d2 (v2) (u2)=u:=by rw [<- heqs]; exact jL (.inl (by simp at g13_4; omega))
    refine TD.u [0,102] Z ?_
    refine TD.u [10,102] Z ?_
    refine TD.u [102,103,104] Z ?_
    refine TD.u [102,105] Z ?_
    refine TD.u [0,102] Z ?_
    refine TD.u [1,102] Z ?_
    refine TD.u [102,107,108] Z ?_
    refine TD.u [102,109] Z ?_
    refine TD.u [102,106,110] Z ?_
    refine TD.z [102,111] Z (yf Z Z Z) ?_
    refine TD.fin ?_
    refine au [19,16,4,13] ?_
    refine TK.maskL [0,1,10,11] ?_
    refine TK.maskL [0,1,10,11] ?_
    refine TK.kp [(j,_)] ?_
    exact H () hfin
   ·rintro _ hup
    refine TK.na nQ ?_
    refine TK.loopN (fun n1 env K=>∃ (v:Nat),n1=v/\v<=v2/\scanDown (fun x => !ltInt x d2[a]!) d2 u v=scanDown (fun x => !ltInt x d2[a]!) d2 u (v2)/\env=.sl j 0 n::intA a::naL 8 (intA u::intA v::naL 156 [])/\K=[(j,.row (d2.toList.map intA) 3 1)]) (v2) ⟨v2,rfl,mL _,rfl,rfl,rfl⟩ fun n1 env K hI hnextv=>?_
    obtain ⟨v,hnv,hvb,heqs,rfl,rfl⟩:=hI
    subst n1
    refine TK.na nQ ?_
    refine au [4,4] ?_
    refine' TK.shr (X:=Unit) (D:=fun x=>scanDown (fun x => !ltInt x d2[a]!) d2 u (v2)=v) (E:=fun x=>.sl j 0 n::intA a::naL 8 (intA u::intA v::naL 156 [])) (KK:=fun x=>[(j,.row (d2.toList.map intA) 3 1)]) ?_ ?_
    rotate_left
    ·intro H
     refine TK.dr [0,1,2,3,4,5,6,7,8,9,10,11,12,13,14] [0,1,2,3,4,5,6,7,8,9,10,11,12,13,14] ?_
     refine TD.mv [10] ?_
     refine TD.mv [11] ?_
     refine TD.z [115,116] Z (q_cmp Z Z Z Z) ?_
     refine TD.mv [117] ?_
     refine TD.sp 118 (fun g15_4=>?_) (fun g15_4=>?_)
     ·have hg:u<=v:=by simp at g15_4; omega
      obtain ⟨q,rfl⟩:∃ q,v=q+1:=⟨v - 1,oQ⟩
      refine TD.mv [0,118] ?_
      refine TD.mv [11,118] ?_
      refine TD.ix [118,119,120] ?_
      refine TD.y [118,121] Z (hq:=zm Z Z zi.h (mC _) (jA (i:=q+1) oQ oQ)) (h:=?_)
      refine TD.mv [0,118] ?_
      refine TD.mv [1,118] ?_
      refine TD.ix [118,123,124] ?_
      refine TD.y [118,125] Z (hq:=zm Z Z zi.h (mC _) (jA (i:=a) oQ oQ)) (h:=?_)
      refine TD.cl (pend':=[⟨10,[118,123,124],[]⟩,⟨9,[1,118],[]⟩,⟨8,[0,118],[]⟩,⟨6,[118,119,120],[]⟩,⟨5,[11,118],[]⟩,⟨4,[0,118],[]⟩,⟨2,[115,116],[]⟩,⟨1,[11],[]⟩,⟨0,[10],[]⟩]) [118,122,126] Z Z Z Z Z (zg9 hT) (fun r43 K44 h45=>⟨?_,?_⟩)
      ·rcases h45 with ⟨rfl,rfl⟩
       all_goals simp
      obtain ⟨rfl,rfl⟩:=h45
      try simp only [cA]
      refine TD.norm tQ ?_
      refine TD.z [118,127] Z (q_not Z Z) ?_
      refine TD.z [118,128] Z (yE Z Z Z) ?_
      refine TD.fin ?_
      refine au [20] ?_
      refine ⟨fun hc4=>?_,fun hc4=>?_⟩
      ·rw [xh (p:=(fun x => !ltInt x d2[a]!)) hg hc4] at heqs
       refine au [12,13,5,1,24,2,3,14] ?_
       refine TK.maskL [0,1,10,11] ?_
       refine TK.kp [(j,_)] ?_
       exact hnextv _ _ _ oQ ⟨q,rfl,oQ,heqs,by rw [show ((q+1:Nat):Int) - 1=(q:Int) by omega]; rfl,rfl⟩
      have hfin:scanDown (fun x => !ltInt x d2[a]!) d2 u (v2)=q+1:=by rw [<- heqs]; exact jE (p:=(fun x => !ltInt x d2[a]!)) (.inr hc4)
      refine au [16,4,4] ?_
      refine TK.maskL [0,1,10,11] ?_
      refine TK.kp [(j,_)] ?_
      exact H () hfin
     have hfin:scanDown (fun x => !ltInt x d2[a]!) d2 u (v2)=v:=by rw [<- heqs]; exact jE (.inl (by simp at g15_4; omega))
     refine TD.u [0,118] Z ?_
     refine TD.u [11,118] Z ?_
     refine TD.u [118,119,120] Z ?_
     refine TD.u [118,121] Z ?_
     refine TD.u [0,118] Z ?_
     refine TD.u [1,118] Z ?_
     refine TD.u [118,123,124] Z ?_
     refine TD.u [118,125] Z ?_
     refine TD.u [118,122,126] Z ?_
     refine TD.u [118,127] Z ?_
     refine TD.z [118,128] Z (yf Z Z Z) ?_
     refine TD.fin ?_
     refine au [19,16,4,4] ?_
     refine TK.maskL [0,1,10,11] ?_
     refine TK.kp [(j,_)] ?_
     exact H () hfin
    ·rintro _ hdn
     refine TK.na nQ ?_
     refine au [5,1,1,6,3,20] ?_
     refine ⟨fun hc5=>?_,fun hc5=>?_⟩
     ·have hlt:v<u:=by simp at hc5; omega
      refine au [16,4] ?_
      refine TK.dr [0,1,2,3,4,5,6,7,8,9,10,11,12,13,14,15] [0,1,4,5,6,7,8,9,10,11,12,13,2,3,14,15] ?_
      refine TD.mv [0] ?_
      refine TD.mv [11] ?_
      refine TD.mv [0] ?_
      refine TD.mv [1] ?_
      refine TD.mv [0] ?_
      refine TD.mv [1] ?_
      refine TD.ix [157,158] ?_
      refine TD.y [159] Z (hq:=zm Z Z zi.h (mC _) (jA (i:=a) oQ oQ)) (h:=?_)
      refine TD.mv [0] ?_
      refine TD.mv [11] ?_
      refine TD.ix [161,162] ?_
      refine TD.y [163] Z (hq:=zm Z Z zi.h (mC _) (jA (i:=v) oQ oQ)) (h:=?_)
      refine TD.ix [153,154] ?_
      refine TD.s (pend':=[⟨10,[161,162],[]⟩,⟨9,[11],[]⟩,⟨8,[0],[]⟩,⟨3,[1],[]⟩,⟨2,[0],[]⟩]) [160,165] Z Z (zX Z Z zi.h Z Z mQ (jB (k:=v) oQ oQ)) ?_
      refine TD.ix [155,156] ?_
      refine TD.s (pend':=[]) [164,166] Z Z (zX Z Z zi.h Z Z mQ (jC (i:=v) (j:=a) oQ oQ)) ?_
      refine TD.fin ?_
      refine au [4,5,1,2,2,3] ?_
      refine TK.rt hret [(j,_)] ?_
      exact ⟨_,jag hd1 hup0 hdn0 hge0 (heq2.symm.trans (jai hup hdn hlt)),rfl,rfl⟩
     have hge:¬ v<u:=by simp at hc5; omega
     refine au [12,4] ?_
     refine TK.dr [0,1,2,3,4,5,6,7,8,9,10,11,12,13,14,15] [0,1,4,5,6,7,8,9,10,11,12,13,2,3,14,15] ?_
     refine TD.mv [0] ?_
     refine TD.mv [10] ?_
     refine TD.mv [0] ?_
     refine TD.mv [11] ?_
     refine TD.mv [0] ?_
     refine TD.mv [11] ?_
     refine TD.ix [139,140] ?_
     refine TD.y [141] Z (hq:=zm Z Z zi.h (mC _) (jA (i:=v) oQ oQ)) (h:=?_)
     refine TD.mv [0] ?_
     refine TD.mv [10] ?_
     refine TD.ix [143,144] ?_
     refine TD.y [145] Z (hq:=zm Z Z zi.h (mC _) (jA (i:=u) oQ oQ)) (h:=?_)
     refine TD.ix [135,136] ?_
     refine TD.s (pend':=[⟨10,[143,144],[]⟩,⟨9,[10],[]⟩,⟨8,[0],[]⟩,⟨3,[11],[]⟩,⟨2,[0],[]⟩]) [142,147] Z Z (zX Z Z zi.h Z Z mQ (jB (k:=u) oQ oQ)) ?_
     refine TD.ix [137,138] ?_
     refine TD.s (pend':=[]) [146,148] Z Z (zX Z Z zi.h Z Z mQ (jC (i:=u) (j:=v) oQ oQ)) ?_
     refine TD.fin ?_
     refine au [4,5,1,23,2,3,5,1,24,2,3,14] ?_
     refine TK.maskL [0,1,10,11] ?_
     refine TK.kp [(j,_)] ?_
     exact hnext2 _ _ _ oQ ⟨u+1,v - 1,swp d2 u v,rfl,oQ,oQ,oQ,jD hs2,(pl_go hup hdn hge).symm.trans heq2,by rw [show (v:Int) - 1=((v - 1:Nat):Int) by omega] <;> rfl,rfl⟩
theorem jal {u v:Nat} {d:Array Int} (h:u<v):reverseLoop u v d=reverseLoop (u+1) (v - 1) (swp d u v):=by
 conv=>lhs; unfold reverseLoop
 rw [if_pos h]
theorem qY {u v:Nat} {d:Array Int} (h:¬ u<v):reverseLoop u v d=d:=by unfold reverseLoop; rw [if_neg h]
theorem xX {main T} (hT:zo tp main T) {gm} {j n a b pv:Nat} {d:Array Int} (hd:d.size=n) (hn:n<=1000) (ha:a<=pv) (hpv:pv<b) (hb:b<=n) :
  zA tp T gm 195 [.sl j 0 n,intA a,intA b,intA pv] [(j,.row (d.toList.map intA) 3 1)] (fun r K'=>∃ p,partitionEqual ltInt d a b pv=p/\r=intA p.1/\K'=[(j,.row (p.2.toList.map intA) 3 1)]):=by
 refine zp 84 hT Tryz.func195 fun Y hret=>?_
 refine au [4,5,2,3,4] ?_
 refine TK.dr [0,1,2,3,4,5,6,7,8,9,10,11,12,13,14,15] [0,1,4,5,6,7,8,9,10,11,12,13,2,3,14,15] ?_
 refine TD.mv [0] ?_
 refine TD.mv [1] ?_
 refine TD.mv [0] ?_
 refine TD.mv [3] ?_
 refine TD.mv [0] ?_
 refine TD.mv [3] ?_
 refine TD.ix [15,16] ?_
 refine TD.y [17] Z (hq:=zm Z Z zi.h (mC _) (jA (i:=pv) oQ oQ)) (h:=?_)
 refine TD.mv [0] ?_
 refine TD.mv [1] ?_
 refine TD.ix [19,20] ?_
 refine TD.y [21] Z (hq:=zm Z Z zi.h (mC _) (jA (i:=a) oQ oQ)) (h:=?_)
 refine TD.ix [11,12] ?_
 refine TD.s (pend':=[⟨10,[19,20],[]⟩,⟨9,[1],[]⟩,⟨8,[0],[]⟩,⟨3,[3],[]⟩,⟨2,[0],[]⟩]) [18,23] Z Z (zX Z Z zi.h Z Z mQ (jB (k:=a) oQ oQ)) ?_
 refine TD.ix [13,14] ?_
 refine TD.s (pend':=[]) [22,24] Z Z (zX Z Z zi.h Z Z mQ (jC (i:=a) (j:=pv) oQ oQ)) ?_
 refine TD.fin ?_
 refine au [4,5,1,23,1,24,2,2,3,4,13] ?_
 refine TK.maskL [0,1,9,10] ?_
 refine TK.loopN (fun n1 env K=>∃ (u2 v2:Nat) (d2:Array Int),n1=v2+1 - u2/\a<u2/\u2<=b/\v2<b/\d2.size=n/\partEqLoop ltInt a u2 v2 d2=partitionEqual ltInt d a b pv/\env=.sl j 0 n::intA a::naL 7 (intA u2::intA v2::naL 73 [])/\K=[(j,.row (d2.toList.map intA) 3 1)]) (b - 1+1 - (a+1)) ⟨a+1,b - 1,swp d a pv,rfl,oQ,oQ,oQ,jD hd,rfl,by rw [show (b:Int) - 1=((b - 1:Nat):Int) by omega] <;> rfl,rfl⟩ fun n1 env K hI hnext2=>?_
 obtain ⟨u2,v2,d2,rfl,hau,hub2,hvb2,hs2,heq2,rfl,rfl⟩:=hI
 refine TK.na nQ ?_
 refine au [13,4,13] ?_
 refine TK.maskL [0,1,9,10] ?_
 refine TK.loopN (fun n1 env K=>∃ (u:Nat),n1=b - u/\u2<=u/\u<=b/\scanUp (fun x => !ltInt d2[a]! x) d2 (v2) u=scanUp (fun x => !ltInt d2[a]! x) d2 (v2) (u2)/\env=.sl j 0 n::intA a::naL 7 (intA u::intA v2::naL 73 [])/\K=[(j,.row (d2.toList.map intA) 3 1)]) (b - (u2)) ⟨u2,rfl,mL _,oQ,rfl,rfl,rfl⟩ fun n1 env K hI hnextu=>?_
 obtain ⟨u,rfl,hu0,hub,heqs,rfl,rfl⟩:=hI
 refine TK.na nQ ?_
 refine au [4,4] ?_
 refine' TK.shr (X:=Unit) (D:=fun x=>scanUp (fun x => !ltInt d2[a]! x) d2 (v2) (u2)=u) (E:=fun x=>.sl j 0 n::intA a::naL 7 (intA u::intA v2::naL 73 [])) (KK:=fun x=>[(j,.row (d2.toList.map intA) 3 1)]) ?_ ?_
 rotate_left
 ·intro H
  refine TK.dr [0,1,2,3,4,5,6,7,8,9,10,11,12,13,14] [0,1,2,3,4,5,6,7,8,9,10,11,12,13,14] ?_
  refine TD.mv [9] ?_
  refine TD.mv [10] ?_
  refine TD.z [29,30] Z (q_cmp Z Z Z Z) ?_
  refine TD.mv [31] ?_
  refine TD.sp 32 (fun g3_4=>?_) (fun g3_4=>?_)
  ·have hg:u<=v2:=by simp at g3_4; omega
   refine TD.mv [0,32] ?_
   refine TD.mv [1,32] ?_
   refine TD.ix [32,33,34] ?_
   refine TD.y [32,35] Z (hq:=zm Z Z zi.h (mC _) (jA (i:=a) oQ oQ)) (h:=?_)
   refine TD.mv [0,32] ?_
   refine TD.mv [9,32] ?_
   refine TD.ix [32,37,38] ?_
   refine TD.y [32,39] Z (hq:=zm Z Z zi.h (mC _) (jA (i:=u) oQ oQ)) (h:=?_)
   refine TD.cl (pend':=[⟨10,[32,37,38],[]⟩,⟨9,[9,32],[]⟩,⟨8,[0,32],[]⟩,⟨6,[32,33,34],[]⟩,⟨5,[1,32],[]⟩,⟨4,[0,32],[]⟩,⟨2,[29,30],[]⟩,⟨1,[10],[]⟩,⟨0,[9],[]⟩]) [32,36,40] Z Z Z Z Z (zg9 hT) (fun r1 K2 h3=>⟨?_,?_⟩)
   ·rcases h3 with ⟨rfl,rfl⟩
    all_goals simp
   obtain ⟨rfl,rfl⟩:=h3
   try simp only [cA]
   refine TD.norm tQ ?_
   refine TD.z [32,41] Z (q_not Z Z) ?_
   refine TD.z [32,42] Z (yE Z Z Z) ?_
   refine TD.fin ?_
   refine au [20] ?_
   refine ⟨fun hc0=>?_,fun hc0=>?_⟩
   ·rw [up_go (p:=(fun x => !ltInt d2[a]! x)) hg hc0] at heqs
    refine au [12,13,5,1,23,2,3,14] ?_
    refine TK.maskL [0,1,9,10] ?_
    refine TK.kp [(j,_)] ?_
    exact hnextu _ _ _ oQ ⟨u+1,rfl,oQ,oQ,heqs,rfl,rfl⟩
   have hfin:scanUp (fun x => !ltInt d2[a]! x) d2 (v2) (u2)=u:=by rw [<- heqs]; exact jL (p:=(fun x => !ltInt d2[a]! x)) (.inr hc0)
   refine au [16,4,13] ?_
   refine TK.maskL [0,1,9,10] ?_
   refine TK.maskL [0,1,9,10] ?_
   refine TK.kp [(j,_)] ?_
   exact H () hfin
  have hfin:scanUp (fun x => !ltInt d2[a]! x) d2 (v2) (u2)=u:=by rw [<- heqs]; exact jL (.inl (by simp at g3_4; omega))
  refine TD.u [0,32] Z ?_
  refine TD.u [1,32] Z ?_
  refine TD.u [32,33,34] Z ?_
  refine TD.u [32,35] Z ?_
  refine TD.u [0,32] Z ?_
  refine TD.u [9,32] Z ?_
  refine TD.u [32,37,38] Z ?_
  refine TD.u [32,39] Z ?_
  refine TD.u [32,36,40] Z ?_
  refine TD.u [32,41] Z ?_
  refine TD.z [32,42] Z (yf Z Z Z) ?_
  refine TD.fin ?_
  refine au [19,16,4,13] ?_
  refine TK.maskL [0,1,9,10] ?_
  refine TK.maskL [0,1,9,10] ?_
  refine TK.kp [(j,_)] ?_
  exact H () hfin
 ·rintro _ hup
  refine TK.na nQ ?_
  refine TK.loopN (fun n1 env K=>∃ (v:Nat),n1=v/\v<=v2/\scanDown (fun x=>ltInt d2[a]! x) d2 u v=scanDown (fun x=>ltInt d2[a]! x) d2 u (v2)/\env=.sl j 0 n::intA a::naL 7 (intA u::intA v::naL 73 [])/\K=[(j,.row (d2.toList.map intA) 3 1)]) (v2) ⟨v2,rfl,mL _,rfl,rfl,rfl⟩ fun n1 env K hI hnextv=>?_
  obtain ⟨v,hnv,hvb,heqs,rfl,rfl⟩:=hI
  subst n1
  refine TK.na nQ ?_
  refine au [4,4] ?_
  refine' TK.shr (X:=Unit) (D:=fun x=>scanDown (fun x=>ltInt d2[a]! x) d2 u (v2)=v) (E:=fun x=>.sl j 0 n::intA a::naL 7 (intA u::intA v::naL 73 [])) (KK:=fun x=>[(j,.row (d2.toList.map intA) 3 1)]) ?_ ?_
  rotate_left
  ·intro H
   refine TK.dr [0,1,2,3,4,5,6,7,8,9,10,11,12,13] [0,1,2,3,4,5,6,7,8,9,10,11,12,13] ?_
   refine TD.mv [9] ?_
   refine TD.mv [10] ?_
   refine TD.z [46,47] Z (q_cmp Z Z Z Z) ?_
   refine TD.mv [48] ?_
   refine TD.sp 49 (fun g5_4=>?_) (fun g5_4=>?_)
   ·have hg:u<=v:=by simp at g5_4; omega
    obtain ⟨q,rfl⟩:∃ q,v=q+1:=⟨v - 1,oQ⟩
    refine TD.mv [0,49] ?_
    refine TD.mv [1,49] ?_
    refine TD.ix [49,50,51] ?_
    refine TD.y [49,52] Z (hq:=zm Z Z zi.h (mC _) (jA (i:=a) oQ oQ)) (h:=?_)
    refine TD.mv [0,49] ?_
    refine TD.mv [10,49] ?_
    refine TD.ix [49,54,55] ?_
    refine TD.y [49,56] Z (hq:=zm Z Z zi.h (mC _) (jA (i:=q+1) oQ oQ)) (h:=?_)
    refine TD.cl (pend':=[⟨10,[49,54,55],[]⟩,⟨9,[10,49],[]⟩,⟨8,[0,49],[]⟩,⟨6,[49,50,51],[]⟩,⟨5,[1,49],[]⟩,⟨4,[0,49],[]⟩,⟨2,[46,47],[]⟩,⟨1,[10],[]⟩,⟨0,[9],[]⟩]) [49,53,57] Z Z Z Z Z (zg9 hT) (fun r7 K8 h9=>⟨?_,?_⟩)
    ·rcases h9 with ⟨rfl,rfl⟩
     all_goals simp
    obtain ⟨rfl,rfl⟩:=h9
    try simp only [cA]
    refine TD.norm tQ ?_
    refine TD.z [49,58] Z (yE Z Z Z) ?_
    refine TD.fin ?_
    refine au [20] ?_
    refine ⟨fun hc1=>?_,fun hc1=>?_⟩
    ·rw [xh (p:=(fun x=>ltInt d2[a]! x)) hg hc1] at heqs
     refine au [12,13,5,1,24,2,3,14] ?_
     refine TK.maskL [0,1,9,10] ?_
     refine TK.kp [(j,_)] ?_
     exact hnextv _ _ _ oQ ⟨q,rfl,oQ,heqs,by rw [show ((q+1:Nat):Int) - 1=(q:Int) by omega]; rfl,rfl⟩
    have hfin:scanDown (fun x=>ltInt d2[a]! x) d2 u (v2)=q+1:=by rw [<- heqs]; exact jE (p:=(fun x=>ltInt d2[a]! x)) (.inr hc1)
    refine au [16,4,4] ?_
    refine TK.maskL [0,1,9,10] ?_
    refine TK.kp [(j,_)] ?_
    exact H () hfin
   have hfin:scanDown (fun x=>ltInt d2[a]! x) d2 u (v2)=v:=by rw [<- heqs]; exact jE (.inl (by simp at g5_4; omega))
   refine TD.u [0,49] Z ?_
   refine TD.u [1,49] Z ?_
   refine TD.u [49,50,51] Z ?_
   refine TD.u [49,52] Z ?_
   refine TD.u [0,49] Z ?_
   refine TD.u [10,49] Z ?_
   refine TD.u [49,54,55] Z ?_
   refine TD.u [49,56] Z ?_
   refine TD.u [49,53,57] Z ?_
   refine TD.z [49,58] Z (yf Z Z Z) ?_
   refine TD.fin ?_
   refine au [19,16,4,4] ?_
   refine TK.maskL [0,1,9,10] ?_
   refine TK.kp [(j,_)] ?_
   exact H () hfin
  ·rintro _ hdn
   refine TK.na nQ ?_
   refine au [5,1,1,6,3,20] ?_
   refine ⟨fun hc2=>?_,fun hc2=>?_⟩
   ·have hlt:v<u:=by simp at hc2; omega
    refine au [16,4,5,1,2,3] ?_
    refine TK.rt hret [(j,_)] ?_
    exact ⟨_,heq2.symm.trans (jah hup hdn hlt),rfl,rfl⟩
   have hge:¬ v<u:=by simp at hc2; omega
   refine au [12,4] ?_
   refine TK.dr [0,1,2,3,4,5,6,7,8,9,10,11,12,13,14,15] [0,1,4,5,6,7,8,9,10,11,12,13,2,3,14,15] ?_
   refine TD.mv [0] ?_
   refine TD.mv [9] ?_
   refine TD.mv [0] ?_
   refine TD.mv [10] ?_
   refine TD.mv [0] ?_
   refine TD.mv [10] ?_
   refine TD.ix [69,70] ?_
   refine TD.y [71] Z (hq:=zm Z Z zi.h (mC _) (jA (i:=v) oQ oQ)) (h:=?_)
   refine TD.mv [0] ?_
   refine TD.mv [9] ?_
   refine TD.ix [73,74] ?_
   refine TD.y [75] Z (hq:=zm Z Z zi.h (mC _) (jA (i:=u) oQ oQ)) (h:=?_)
   refine TD.ix [65,66] ?_
   refine TD.s (pend':=[⟨10,[73,74],[]⟩,⟨9,[9],[]⟩,⟨8,[0],[]⟩,⟨3,[10],[]⟩,⟨2,[0],[]⟩]) [72,77] Z Z (zX Z Z zi.h Z Z mQ (jB (k:=u) oQ oQ)) ?_
   refine TD.ix [67,68] ?_
   refine TD.s (pend':=[]) [76,78] Z Z (zX Z Z zi.h Z Z mQ (jC (i:=u) (j:=v) oQ oQ)) ?_
   refine TD.fin ?_
   refine au [4,5,1,23,2,3,5,1,24,2,3,14] ?_
   refine TK.maskL [0,1,9,10] ?_
   refine TK.kp [(j,_)] ?_
   exact hnext2 _ _ _ oQ ⟨u+1,v - 1,swp d2 u v,rfl,oQ,oQ,oQ,jD hs2,(pe_go hup hdn hge).symm.trans heq2,by rw [show (v:Int) - 1=((v - 1:Nat):Int) by omega] <;> rfl,rfl⟩
theorem qX {main T} (hT:zo tp main T) {gm} {j n a b:Nat} {d:Array Int} (hd:d.size=n) (hn:n<=1000) (hab:a<b) (hb:b<=n) :
  zA tp T gm 192 [.sl j 0 n,intA a,intA b] [(j,.row (d.toList.map intA) 3 1)] (fun r K'=>K'=[(j,.row ((reverseRange d a b).toList.map intA) 3 1)]):=by
 refine zp 32 hT Tryz.func192 fun Y hret=>?_
 refine au [4,5,1,2,3,4,5,1,24,2,3,13] ?_
 refine TK.maskL [0,6,7] ?_
 refine TK.loopN (fun n1 env K=>∃ (u v:Nat) (d1:Array Int),n1=v - u/\u<=b/\v<b/\d1.size=n/\reverseLoop u v d1=reverseRange d a b/\env=.sl j 0 n::naL 5 (intA u::intA v::naL 24 [])/\K=[(j,.row (d1.toList.map intA) 3 1)]) (b - 1 - a) ⟨a,b - 1,d,rfl,oQ,oQ,hd,rfl,by rw [show (b:Int) - 1=((b - 1:Nat):Int) by omega] <;> rfl,rfl⟩ fun n1 env K hI hnext=>?_
 obtain ⟨u,v,d1,rfl,hub,hvb,hs1,heq,rfl,rfl⟩:=hI
 refine TK.na nQ ?_
 refine au [4,4,5,1,1,6,3,20] ?_
 refine ⟨fun hc0=>?_,fun hc0=>?_⟩
 ·have hlt:u<v:=by simp at hc0; omega
  rw [jal hlt] at heq
  refine au [12,13,4] ?_
  refine TK.dr [0,1,2,3,4,5,6,7,8,9,10,11,12,13,14,15] [0,1,4,5,6,7,8,9,10,11,12,13,2,3,14,15] ?_
  refine TD.mv [0] ?_
  refine TD.mv [6] ?_
  refine TD.mv [0] ?_
  refine TD.mv [7] ?_
  refine TD.mv [0] ?_
  refine TD.mv [7] ?_
  refine TD.ix [18,19] ?_
  refine TD.y [20] Z (hq:=zm Z Z zi.h (mC _) (jA (i:=v) oQ oQ)) (h:=?_)
  refine TD.mv [0] ?_
  refine TD.mv [6] ?_
  refine TD.ix [22,23] ?_
  refine TD.y [24] Z (hq:=zm Z Z zi.h (mC _) (jA (i:=u) oQ oQ)) (h:=?_)
  refine TD.ix [14,15] ?_
  refine TD.s (pend':=[⟨10,[22,23],[]⟩,⟨9,[6],[]⟩,⟨8,[0],[]⟩,⟨3,[7],[]⟩,⟨2,[0],[]⟩]) [21,26] Z Z (zX Z Z zi.h Z Z mQ (jB (k:=u) oQ oQ)) ?_
  refine TD.ix [16,17] ?_
  refine TD.s (pend':=[]) [25,27] Z Z (zX Z Z zi.h Z Z mQ (jC (i:=u) (j:=v) oQ oQ)) ?_
  refine TD.fin ?_
  refine au [4,5,1,23,2,3,5,1,24,2,3,14] ?_
  refine TK.maskL [0,6,7] ?_
  refine TK.kp [(j,_)] ?_
  exact hnext _ _ _ oQ ⟨u+1,v - 1,swp d1 u v,rfl,oQ,oQ,jD hs1,heq,by rw [show (v:Int) - 1=((v - 1:Nat):Int) by omega] <;> rfl,rfl⟩
 have hlt:¬ u<v:=by simp at hc0; omega
 refine au [16] ?_
 refine TK.rt0 hret [(j,_)] ?_
 rw [<- heq]; rw [qY hlt]
instance:Cal tp 222:={}
instance:Cal tp 233:={}
theorem jO {main T} (hT:zo tp main T) {gm} {j js n a b:Nat} {d:Array Int} {sw:Int} (hd:d.size=n) (hn:n<=1000) (ha:a<n) (hb:b<n) (hsw:0<=sw/\sw<=1000) :
  zA tp T gm 233 [.sl j 0 n,intA a,intA b,.ptr js 0] [(j,.row (d.toList.map intA) 3 1),(js,.cells [intA sw] 3 true)] (fun r K'=>∃ (x y:Nat) (sw':Int),((x=a/\y=b)\/(x=b/\y=a))/\0<=sw'/\sw'<=sw+1/\r=.tup [intA x,intA y]/\K'=[(j,.row (d.toList.map intA) 3 1),(js,.cells [intA sw'] 3 true)]):=by
 refine zp 28 hT Tryz.func233 fun Y hret=>?_
 refine au [4,5,2,2,3,4,4] ?_
 refine TK.dr [0,1,2,3,4,5,6,7,8] [0,1,2,3,4,5,6,7,8] ?_
 refine TD.mv [0] ?_
 refine TD.mv [2] ?_
 refine TD.ix [10,11] ?_
 refine TD.y [12] Z (hq:=zm Z Z zi.h (mC _) (jA (i:=b) oQ oQ)) (h:=?_)
 refine TD.mv [0] ?_
 refine TD.mv [1] ?_
 refine TD.ix [14,15] ?_
 refine TD.y [16] Z (hq:=zm Z Z zi.h (mC _) (jA (i:=a) oQ oQ)) (h:=?_)
 refine TD.cl (pend':=[⟨6,[14,15],[]⟩,⟨5,[1],[]⟩,⟨4,[0],[]⟩,⟨2,[10,11],[]⟩,⟨1,[2],[]⟩,⟨0,[0],[]⟩]) [13,17] Z Z Z Z Z (zg9 hT) (fun r1 K2 h3=>⟨?_,?_⟩)
 ·rcases h3 with ⟨rfl,rfl⟩
  all_goals simp
 obtain ⟨rfl,rfl⟩:=h3
 try simp only [cA]
 refine TD.norm tQ ?_
 refine TD.fin ?_
 refine au [20] ?_
 refine ⟨fun hc0=>?_,fun hc0=>?_⟩
 ·refine au [4,5,1] ?_
  refine TK.a Z (ke Z Z) ?_
  refine au [9,23] ?_
  refine TK.a Z (ke Z Z) ?_
  refine au [17,3,4,5,1,1,2,2,3] ?_
  refine TK.rt hret [(j,_),(js,_)] ?_
  exact ⟨_,_,_,.inr ⟨rfl,rfl⟩,oQ,oQ,rfl,rfl⟩
 refine au [12,4,5,1,1,2,2,3] ?_
 refine TK.rt hret [(j,_),(js,_)] ?_
 exact ⟨_,_,_,.inl ⟨rfl,rfl⟩,oQ,oQ,rfl,rfl⟩
theorem jN {main T} (hT:zo tp main T) {gm} {j js n a b c:Nat} {d:Array Int} {sw:Int} (hd:d.size=n) (hn:n<=1000) (ha:a<n) (hb:b<n) (hc:c<n) (hsw:0<=sw/\sw<=900) :
  zA tp T gm 222 [.sl j 0 n,intA a,intA b,intA c,.ptr js 0] [(j,.row (d.toList.map intA) 3 1),(js,.cells [intA sw] 3 true)] (fun r K'=>∃ (x:Nat) (sw':Int),(x=a\/x=b\/x=c)/\0<=sw'/\sw'<=sw+3/\r=intA x/\K'=[(j,.row (d.toList.map intA) 3 1),(js,.cells [intA sw'] 3 true)]):=by
 refine zp 36 hT Tryz.func222 fun Y hret=>?_
 refine au [4,5,2,3,4,5,1,1,1,1] ?_
 refine TK.cl Z Z Z Z (jO hT (sw:=sw) hd hn oQ oQ oQ) ?_
 rintro r1 K2 ⟨x1,y1,q1,hx1,hq11,hq12,rfl,rfl⟩
 refine au [1,10,10,2,2,3,4,5,1,1,1,1] ?_
 refine TK.cl Z Z Z Z (jO hT (sw:=q1) hd hn oQ oQ oQ) ?_
 rintro r4 K5 ⟨x2,y2,q2,hx2,hq21,hq22,rfl,rfl⟩
 refine au [1,10,10,2,2,3,4,5,1,1,1,1] ?_
 refine TK.cl Z Z Z Z (jO hT (sw:=q2) hd hn oQ oQ oQ) ?_
 rintro r7 K8 ⟨x3,y3,q3,hx3,hq31,hq32,rfl,rfl⟩
 refine au [1,10,10,2,2,3,4,5,1,2,3] ?_
 refine TK.rt hret [(j,_),(js,_)] ?_
 exact ⟨_,_,oQ,oQ,oQ,rfl,rfl⟩
theorem jF {main T} (hT:zo tp main T) {gm} {j js n a:Nat} {d:Array Int} {sw:Int} (hd:d.size=n) (hn:n<=1000) (h1:1<=a) (ha:a+1<n) (hsw:0<=sw/\sw<=900) :
  zA tp T gm 221 [.sl j 0 n,intA a,.ptr js 0] [(j,.row (d.toList.map intA) 3 1),(js,.cells [intA sw] 3 true)] (fun r K'=>∃ (x:Nat) (sw':Int),a<=x+1/\x<=a+1/\0<=sw'/\sw'<=sw+3/\r=intA x/\K'=[(j,.row (d.toList.map intA) 3 1),(js,.cells [intA sw'] 3 true)]):=by
 refine zp 15 hT Tryz.func221 fun Y hret=>?_
 refine au [4,5,2,3,4] ?_
 obtain ⟨p,rfl⟩:∃ p,a=p+1:=⟨a - 1,oQ⟩
 refine au [5,1,1,24] ?_
 rw [show ((p+1:Nat):Int) - 1=(p:Int) by omega]
 refine au [1,1,23,1] ?_
 refine TK.cl Z Z Z Z (jN hT (sw:=sw) (a:=p) (b:=p+1) (c:=p+1+1) hd hn oQ oQ oQ oQ) ?_
 rintro r1 K2 ⟨x,q,hx,hq1,hq2,rfl,rfl⟩
 refine au [2,3] ?_
 refine TK.rt hret [(j,_),(js,_)] ?_
 exact ⟨_,_,oQ,oQ,oQ,oQ,rfl,rfl⟩
end Go.Vel
namespace Go.Vel
open Go Go.Conc Go.Proofs
theorem xB {n:Int} (h:0<=n/\n<18446744073709551616):IntKind.u64.wrap n=n:=by
 unfold IntKind.wrap
 simp only [show IntKind.u64.bits=64 from rfl,show IntKind.u64.signed=false from rfl,Bool.false_and]
 split <;> rename_i h1 <;> first | (exact absurd h1 dQ) | omega
theorem jan (x:Int):0<=IntKind.u64.wrap x/\IntKind.u64.wrap x<18446744073709551616:=by
 unfold IntKind.wrap
 simp only [show IntKind.u64.bits=64 from rfl,show IntKind.u64.signed=false from rfl,Bool.false_and]
 split <;> rename_i h1 <;> first | (exact absurd h1 dQ) | omega
def xorW (a b:Int):Int:=IntKind.u64.wrap ((BitVec.ofInt 64 a ^^^ BitVec.ofInt 64 b).toNat:Int)
def andW (a b:Int):Int:=IntKind.u64.wrap ((BitVec.ofInt 64 a &&& BitVec.ofInt 64 b).toNat:Int)
theorem xR (a b:Int):0<=xorW a b/\xorW a b<18446744073709551616:=jan _
theorem qG (a:Int) {b:Nat} (hb:b<1000):0<=andW a b/\andW a b<=b:=by
 have h1:(BitVec.ofInt 64 (b:Int)).toNat=b:=by
  rw [BitVec.toNat_ofInt]
  omega
 have h2:(BitVec.ofInt 64 a &&& BitVec.ofInt 64 (b:Int)).toNat<=b:=by
  rw [BitVec.toNat_and,h1]
  exact Nat.and_le_right
 unfold andW
 rw [xB oQ]
 omega
section
variable {P:Program} {gm:Nat->Option Nat} {V:KV} {env:List AV} {o:Oper}
theorem xi {t yt:TypeId} {x y:Operand} {a b:Int} (ho:o.op=.binOp .xor t x y yt) (hx:zn gm env x=some (.v (.int .u64 a))) (hy:zn gm env y=some (.v (.int .u64 b))):Qk P gm env V o (.v (.int .u64 (xorW a b))):=wQ ho hx hy rfl
theorem qU {t yt:TypeId} {x y:Operand} {a b:Int} (ho:o.op=.binOp .and t x y yt) (hx:zn gm env x=some (.v (.int .u64 a))) (hy:zn gm env y=some (.v (.int .u64 b))):Qk P gm env V o (.v (.int .u64 (andW a b))):=wQ ho hx hy rfl
theorem qW {t yt:TypeId} {x y:Operand} {a b:Int} (ho:o.op=.binOp .sub t x y yt) (hx:zn gm env x=some (.v (.int .u64 a))) (hy:zn gm env y=some (.v (.int .u64 b))) (h:0<=a - b/\a - b<18446744073709551616):Qk P gm env V o (.v (.int .u64 (a - b))):=by
 refine wQ ho hx hy ?_
 show some (Value.int .u64 (IntKind.u64.wrap (a - b)))=_
 rw [xB h]
theorem qV {t yt:TypeId} {x y:Operand} {k':IntKind} {a b:Int} (ho:o.op=.binOp .shr t x y yt) (hx:zn gm env x=some (.v (.int .u64 a))) (hy:zn gm env y=some (.v (.int k' b))) (h0:0<=b):Qk P gm env V o (.v (.int .u64 (a.fdiv (2 ^ min b.toNat 64)))):=fun A _=>by
 refine vq ho (by rw [zx hx]; rfl) (by rw [zx hy]; rfl) ?_
 rw [u7]
 show zR P (Op.shift .shr .u64 a k' b)=_
 unfold Op.shift
 rw [if_neg oQ]
 rfl
end
theorem qO {s:ByteArray} {n:Nat} (hn:n<256) (h:n<s.size) (hall:(List.range 256).all (fun k=>match s[k]? with | some c=>decide (c.toNat<=8/\(k=0\/2 ^ c.toNat<=2*k)) | none=>true)=true):∃ m:Nat,intA (0+((s[n]'h).toNat:Int))=intA m/\m<=8/\(n=0\/2 ^ m<=2*n)/\([]:KV)=[]:=by
 have h1:=List.all_eq_true.1 hall n (List.mem_range.2 hn)
 rw [getElem?_pos s n h] at h1
 have h2:=of_decide_eq_true h1
 exact ⟨(s[n]'h).toNat,by rw [Int.zero_add],h2.1,h2.2,rfl⟩
theorem jaa {m:Nat} (hm:m<=8):IntKind.u64.wrap (1*2 ^ ((m:Nat):Int).toNat)=((2 ^ m:Nat):Int):=by
 have:m=0\/m=1\/m=2\/m=3\/m=4\/m=5\/m=6\/m=7\/m=8:=by omega
 rcases this with rfl | rfl | rfl | rfl | rfl | rfl | rfl | rfl | rfl <;> decide
end Go.Vel
namespace Go.Vel
open Go Go.Conc Go.Proofs
open Go.Sort
instance:Cal tp 221:={}
instance:zi tp 263 false 1:={}
instance:TyZA tp 3 [.v (.int .i64 0)]:={}
theorem qT {main T} (hT:zo tp main T) {gm} {j n a b:Nat} {d:Array Int} (hd:d.size=n) (hn:n<=1000) (hab:a<b) (hb:b<=n) :
  zA tp T gm 191 [.sl j 0 n,intA a,intA b] [(j,.row (d.toList.map intA) 3 1)] (fun r K'=>∃ (p:Nat) (hh:Int),a<=p/\p<b/\r=.tup [intA p,intA hh]/\K'=[(j,.row (d.toList.map intA) 3 1)]):=by
 refine zp 57 hT Tryz.func191 fun Y hret=>?_
 refine au [4,5,2,2,3,4,5,1,1,24,2,3,4] ?_
 rw [show (b:Int) - (a:Int)=((b - a:Nat):Int) by omega]
 refine au [5,22] ?_
 intro js hjs
 refine au [3,4,5,1,1] ?_
 refine TK.a Z (jH Z Z Z oQ oQ oQ) ?_
 refine TK.a Z (q_mul Z Z Z oQ) ?_
 refine au [23,2,3,4,5,1,1] ?_
 refine TK.a Z (jH Z Z Z oQ oQ oQ) ?_
 refine TK.a Z (q_mul Z Z Z oQ) ?_
 refine au [23,2,3,4,5,1,1] ?_
 refine TK.a Z (jH Z Z Z oQ oQ oQ) ?_
 refine TK.a Z (q_mul Z Z Z oQ) ?_
 refine au [23,2,3,4,4] ?_
 obtain ⟨I,hI⟩:∃ I:Nat,I=a+(b - a) / 4:=⟨_,rfl⟩
 obtain ⟨J,hJ⟩:∃ J:Nat,J=a+(b - a) / 4*2:=⟨_,rfl⟩
 obtain ⟨L,hL⟩:∃ L:Nat,L=a+(b - a) / 4*3:=⟨_,rfl⟩
 refine' TK.shr (X:=Nat×Int) (D:=fun x=>a<=x.1/\x.1<b) (E:=fun x=>naL 9 (.ptr js 0::.any::intA x.1::naL 45 [])) (KK:=fun x=>[(j,.row (d.toList.map intA) 3 1),(js,.cells [intA x.2] 3 true)]) ?_ ?_
 rotate_left
 ·intro H
  rw [show (a:Int)+((b - a:Nat):Int) / 4*1=(I:Int) by omega,show (a:Int)+((b - a:Nat):Int) / 4*2=(J:Int) by omega,show (a:Int)+((b - a:Nat):Int) / 4*3=(L:Int) by omega]
  refine au [5,1,6,3,20] ?_
  refine ⟨fun hc0=>?_,fun hc0=>?_⟩
  ·have h8:8<=b - a:=by simp at hc0; omega
   refine au [4,4,5,1,6,3,20] ?_
   refine ⟨fun hc1=>?_,fun hc1=>?_⟩
   ·have h50:50<=b - a:=by simp at hc1; omega
    refine au [4,5,1,1] ?_
    refine TK.cl Z Z Z Z (jF hT (sw:=0) (a:=I) hd hn oQ oQ oQ) ?_
    rintro r1 K2 ⟨x1,q1,hx11,hx12,hx13,hx14,rfl,rfl⟩
    refine au [2,3,4,5,1,1] ?_
    refine TK.cl Z Z Z Z (jF hT (sw:=q1) (a:=J) hd hn oQ oQ oQ) ?_
    rintro r4 K5 ⟨x2,q2,hx21,hx22,hx23,hx24,rfl,rfl⟩
    refine au [2,3,5,1,1] ?_
    refine TK.cl Z Z Z Z (jF hT (sw:=q2) (a:=L) hd hn oQ oQ oQ) ?_
    rintro r7 K8 ⟨x3,q3,hx31,hx32,hx33,hx34,rfl,rfl⟩
    refine au [2,3,5,1,1,1,1] ?_
    refine TK.cl Z Z Z Z (jN hT (sw:=q3) (a:=x1) (b:=x2) (c:=x3) hd hn oQ oQ oQ oQ) ?_
    rintro r10 K11 ⟨x4,q4,hx4,hx42,hx43,rfl,rfl⟩
    refine au [2,3,4] ?_
    refine TK.maskL [9,11] ?_
    refine TK.kp [(j,_),(js,_)] ?_
    exact H (x4,q4) ⟨by omega,oQ⟩
   refine au [12,5,1,1,1,1] ?_
   refine TK.cl Z Z Z Z (jN hT (sw:=0) (a:=I) (b:=J) (c:=L) hd hn oQ oQ oQ oQ) ?_
   rintro r13 K14 ⟨x4,q4,hx4,hx42,hx43,rfl,rfl⟩
   refine au [2,3,4] ?_
   refine TK.maskL [9,11] ?_
   refine TK.kp [(j,_),(js,_)] ?_
   exact H (x4,q4) ⟨by omega,oQ⟩
  refine au [12,4] ?_
  refine TK.maskL [9,11] ?_
  refine TK.kp [(j,_),(js,_)] ?_
  exact H (J,0) ⟨by omega,oQ⟩
 ·rintro ⟨p,sw⟩ ⟨hp1,hp2⟩; dsimp only at hp1 hp2 ⊢
  refine TK.na nQ ?_
  refine au [5,9,3,13,4,5,6,2,3,20] ?_
  refine ⟨fun hc2=>?_,fun hc2=>?_⟩
  ·refine au [4,5,1,2,2,3] ?_
   refine TK.rt hret [(j,_)] ?_
   exact ⟨p,_,hp1,hp2,rfl,rfl⟩
  refine au [4,5,6,2,3,20] ?_
  refine ⟨fun hc3=>?_,fun hc3=>?_⟩
  ·refine au [4,5,1,2,2,3] ?_
   refine TK.rt hret [(j,_)] ?_
   exact ⟨p,_,hp1,hp2,rfl,rfl⟩
  refine au [4,5,1,2,2,3] ?_
  refine TK.rt hret [(j,_)] ?_
  exact ⟨p,_,hp1,hp2,rfl,rfl⟩
theorem qf {main T} (hT:zo tp main T) {gm} {n:Nat} (hn:n<256) :
  zA tp T gm 198 [.v (.int .u64 n)] [] (fun r K'=>∃ m:Nat,r=intA m/\m<=8/\(n=0\/2 ^ m<=2*n)/\K'=[]):=by
 refine zp 25 hT Tryz.func198 fun Y hret=>?_
 refine au [4,5,2,3,4,4,5,1,6,3,20] ?_
 refine ⟨fun hc0=>?_,fun hc0=>?_⟩
 ·simp at hc0; omega
 refine au [12,4,4,5,1,6,3,20] ?_
 refine ⟨fun hc1=>?_,fun hc1=>?_⟩
 ·simp at hc1; omega
 refine au [12,4,4,5,1,6,3,20] ?_
 refine ⟨fun hc2=>?_,fun hc2=>?_⟩
 ·simp at hc2; omega
 refine au [12,4,5,1,1] ?_
 refine TK.a Z (yU Z Z Und.h Und.h (zgD hn)) ?_
 refine TK.a Z (zet Z Z Z Und.h oQ (zhK hn Z)) ?_
 refine TK.a Z (yU Z Z Und.h Und.h (zfB _)) ?_
 refine TK.a Z (q_add Z Z Z (zfG _)) ?_
 refine au [2,3] ?_
 refine TK.rta hret ?_
 exact qO hn _ (by decide +kernel)
theorem jU {main T} (hT:zo tp main T) {gm} {n:Nat} (hn:n<256) :
  zA tp T gm 161 [.v (.int .u64 n)] [] (fun r K'=>∃ m:Nat,r=intA m/\m<=8/\(n=0\/2 ^ m<=2*n)/\K'=[]):=by
 refine zp 8 hT Tryz.func161 fun Y hret=>?_
 refine au [4,5,2,3,4,19,12,4,5,1] ?_
 refine TK.cl Z Z Z Z (qf hT hn) ?_
 rintro r1 K2 ⟨m,rfl,hm8,hm2,rfl⟩
 refine au [2,3] ?_
 refine TK.rta hret ?_
 exact ⟨m,rfl,hm8,hm2,rfl⟩
theorem qw {main T} (hT:zo tp main T) {gm} {n:Nat} (hn:n<256) (h1:1<=n) :
  zA tp T gm 219 [intA n] [] (fun r K'=>∃ M:Nat,1<=M/\M<=2*n/\r=.v (.int .u64 (M:Int))/\K'=[]):=by
 refine zp 7 hT Tryz.func219 fun Y hret=>?_
 refine au [4,5,2,3,4,5,1] ?_
 refine TK.a Z (yU Z Z Und.h Und.h (zbZ (n:=n) oQ)) ?_
 refine TK.cl Z Z Z Z (jU hT (n:=n) hn) ?_
 rintro r1 K2 ⟨m,rfl,hm8,hm2,rfl⟩
 refine au [] ?_
 refine TK.a Z (q_shL Z Z Z ⟨by omega,by show ((m:Nat):Int)<=64; omega⟩ (r:=((2 ^ m:Nat):Int)) (jaa hm8)) ?_
 refine au [2,3] ?_
 refine TK.rta hret ?_
 exact ⟨2 ^ m,Nat.two_pow_pos _,oQ,rfl,rfl⟩
theorem qv {main T} (hT:zo tp main T) {gm} {jx:Nat} {x:Int} :
  zA tp T gm 220 [.ptr jx 0] [(jx,.cells [.v (.int .u64 x)] 263 true)] (fun r K'=>∃ y:Int,0<=y/\y<18446744073709551616/\r=.v (.int .u64 y)/\K'=[(jx,.cells [.v (.int .u64 y)] 263 true)]):=by
 refine zp 33 hT Tryz.func220 fun Y hret=>?_
 refine au [4,5,2,3,4] ?_
 refine TK.dr [0,1,2,3,4,5,6,7,8,9] [0,1,2,3,4,5,6,7,8,9] ?_
 refine TD.mv [0] ?_
 refine TD.z [3] Z (ke Z Z) ?_
 refine TD.y [4] Z (hq:=zm Z Z zi.h (mC _) Z) (h:=?_)
 refine TD.mv [0] ?_
 refine TD.z [6] Z (ke Z Z) ?_
 refine TD.y [7] Z (hq:=zm Z Z zi.h (mC _) Z) (h:=?_)
 refine TD.z [8] Z (q_shL Z Z Z ⟨by decide,by decide⟩ rfl) ?_
 refine TD.z [5,9] Z (xi Z Z Z) ?_
 refine TD.z [3] Z (ke Z Z) ?_
 refine TD.s (pend':=[]) [10,11] Z Z (zX Z Z zi.h Z Z mQ Z) ?_
 refine TD.fin ?_
 refine au [4] ?_
 refine TK.dr [0,1,2,3,4,5,6,7,8,9] [0,1,2,3,4,5,6,7,8,9] ?_
 refine TD.mv [0] ?_
 refine TD.z [12] Z (ke Z Z) ?_
 refine TD.y [13] Z (hq:=zm Z Z zi.h (mC _) Z) (h:=?_)
 refine TD.mv [0] ?_
 refine TD.z [15] Z (ke Z Z) ?_
 refine TD.y [16] Z (hq:=zm Z Z zi.h (mC _) Z) (h:=?_)
 refine TD.z [17] Z (qV Z Z Z dQ) ?_
 refine TD.z [14,18] Z (xi Z Z Z) ?_
 refine TD.z [12] Z (ke Z Z) ?_
 refine TD.s (pend':=[]) [19,20] Z Z (zX Z Z zi.h Z Z mQ Z) ?_
 refine TD.fin ?_
 refine au [4] ?_
 refine TK.dr [0,1,2,3,4,5,6,7,8,9] [0,1,2,3,4,5,6,7,8,9] ?_
 refine TD.mv [0] ?_
 refine TD.z [21] Z (ke Z Z) ?_
 refine TD.y [22] Z (hq:=zm Z Z zi.h (mC _) Z) (h:=?_)
 refine TD.mv [0] ?_
 refine TD.z [24] Z (ke Z Z) ?_
 refine TD.y [25] Z (hq:=zm Z Z zi.h (mC _) Z) (h:=?_)
 refine TD.z [26] Z (q_shL Z Z Z ⟨by decide,by decide⟩ rfl) ?_
 refine TD.z [23,27] Z (xi Z Z Z) ?_
 refine TD.z [21] Z (ke Z Z) ?_
 refine TD.s (pend':=[]) [28,29] Z Z (zX Z Z zi.h Z Z mQ Z) ?_
 refine TD.fin ?_
 refine au [4,5,1] ?_
 refine TK.a Z (ke Z Z) ?_
 refine au [9,2,3] ?_
 refine TK.rt hret [(jx,_)] ?_
 exact ⟨_,(xR _ _).1,(xR _ _).2,rfl,rfl⟩
end Go.Vel
namespace Go.Vel
open Go Go.Conc Go.Sort
section
variable {a b i u v q s:Nat} {d d2 d3 d4:Array Int}
theorem ss_go (h:u<b) (hl:(!ltInt d[u]! d[u - 1]!)=true):scanSorted ltInt d b u=scanSorted ltInt d b (u+1):=by
 conv=>lhs; unfold scanSorted
 rw [if_pos (by rw [hl]; simp [h])]
theorem qh (h:¬ u<b\/(!ltInt d[u]! d[u - 1]!)=false):scanSorted ltInt d b u=u:=by
 unfold scanSorted
 rw [if_neg (by rcases h with h | h <;> simp [h])]
theorem sd_go (hl:(!ltInt d[q+1]! d[q]!)=false):shiftDown ltInt (q+1) d=shiftDown ltInt q (swp d (q+1) q):=by
 conv=>lhs; unfold shiftDown
 rw [if_neg (by rw [hl]; decide)]
theorem qZ (hl:(!ltInt d[q+1]! d[q]!)=true):shiftDown ltInt (q+1) d=d:=by
 unfold shiftDown
 rw [if_pos hl]
theorem su_go (h:v<b) (hl:(!ltInt d[v]! d[v - 1]!)=false):shiftUp ltInt b v d=shiftUp ltInt b (v+1) (swp d v (v - 1)):=by
 conv=>lhs; unfold shiftUp
 rw [if_pos h,if_neg (by rw [hl]; decide)]
theorem jac (h:v<b) (hl:(!ltInt d[v]! d[v - 1]!)=true):shiftUp ltInt b v d=d:=by
 unfold shiftUp
 rw [if_pos h,if_pos hl]
theorem jam (h:¬ v<b):shiftUp ltInt b v d=d:=by
 unfold shiftUp
 rw [if_neg h]
theorem pi_T (hs:scanSorted ltInt d b i=u) (h:u=b):partialIns ltInt a b (s+1) i d=(d,true):=by
 unfold partialIns
 simp only []
 rw [hs,if_pos h]
theorem pi_F (hs:scanSorted ltInt d b i=u) (h:¬ u=b) (h2:b - a<50):partialIns ltInt a b (s+1) i d=(d,false):=by
 unfold partialIns
 simp only []
 rw [hs,if_neg h,if_pos h2]
theorem pi_go (hs:scanSorted ltInt d b i=u) (h:¬ u=b) (h2:¬ b - a<50) (h3:d3=if u - a>=2 then shiftDown ltInt (u - 1) (swp d u (u - 1)) else swp d u (u - 1)) (h4:d4=if b - u>=2 then shiftUp ltInt b (u+1) d3 else d3):partialIns ltInt a b (s+1) i d=partialIns ltInt a b s u d4:=by
 conv=>lhs; unfold partialIns
 simp only []
 rw [hs,if_neg h,if_neg h2,h4,h3]
end
end Go.Vel
namespace Go.Vel
open Go Go.Conc Go.Proofs
open Go.Sort
theorem qR {main T} (hT:zo tp main T) {gm} {j n a b:Nat} {d:Array Int} (hd:d.size=n) (hn:n<=1000) (hab:a<b) (hb:b<=n) :
  zA tp T gm 193 [.sl j 0 n,intA a,intA b] [(j,.row (d.toList.map intA) 3 1)] (fun r K'=>∃ q,partialInsertionSort ltInt d a b=q/\r=zP q.2/\K'=[(j,.row (q.1.toList.map intA) 3 1)]):=by
 refine zp 133 hT Tryz.func193 fun Y hret=>?_
 refine au [4,5,2,3,4,5,1,23,2,3,4,4,5,2,3,13] ?_
 refine TK.maskL [0,1,2,7,8] ?_
 refine TK.loopN (fun n1 env K=>∃ (s i:Nat) (d1:Array Int),n1=s/\s<=5/\a<i/\i<=b/\d1.size=n/\partialIns ltInt a b s i d1=partialInsertionSort ltInt d a b/\env=.sl j 0 n::intA a::intA b::naL 4 (intA i::intA (5 - (s:Int))::naL 124 [])/\K=[(j,.row (d1.toList.map intA) 3 1)]) 5 ⟨5,a+1,d,rfl,mL _,oQ,oQ,hd,rfl,rfl,rfl⟩ fun n1 env K hI hnext=>?_
 obtain ⟨s1,i,d1,hn1,hs5,hai,hib,hs1,heq,rfl,rfl⟩:=hI
 subst n1
 refine TK.na nQ ?_
 refine au [4,4,5,1,6,3,20] ?_
 refine ⟨fun hc0=>?_,fun hc0=>?_⟩
 ·obtain ⟨s,rfl⟩:∃ s,s1=s+1:=⟨s1 - 1,by simp at hc0; omega⟩
  refine au [12,4,13,4,13] ?_
  refine TK.maskL [0,1,2,7,8] ?_
  refine TK.loopN (fun n1 env K=>∃ (u:Nat),n1=b - u/\i<=u/\u<=b/\scanSorted ltInt d1 b u=scanSorted ltInt d1 b i/\env=.sl j 0 n::intA a::intA b::naL 4 (intA u::intA (5 - ((s+1:Nat):Int))::naL 124 [])/\K=[(j,.row (d1.toList.map intA) 3 1)]) (b - i) ⟨i,rfl,mL _,hib,rfl,rfl,rfl⟩ fun n1 env K hI hnext1=>?_
  obtain ⟨u,rfl,hiu,hub,heqs,rfl,rfl⟩:=hI
  refine TK.na nQ ?_
  refine au [4,4] ?_
  refine' TK.shr (X:=Unit) (D:=fun x=>scanSorted ltInt d1 b i=u) (E:=fun x=>.sl j 0 n::intA a::intA b::naL 4 (intA u::intA (5 - ((s+1:Nat):Int))::naL 124 [])) (KK:=fun x=>[(j,.row (d1.toList.map intA) 3 1)]) ?_ ?_
  rotate_left
  ·intro H
   refine TK.dr [0,1,2,3,4,5,6,7,8,9,10,11,12,13,14,15] [0,1,2,3,4,5,6,7,8,9,10,11,12,13,14,15] ?_
   refine TD.mv [7] ?_
   refine TD.mv [2] ?_
   refine TD.z [17,18] Z (q_cmp Z Z Z Z) ?_
   refine TD.mv [19] ?_
   refine TD.sp 20 (fun g5_4=>?_) (fun g5_4=>?_)
   ·have hg:u<b:=by simp at g5_4; omega
    refine TD.mv [0,20] ?_
    refine TD.mv [7,20] ?_
    refine TD.ix [20,21,22] ?_
    refine TD.y [20,23] Z (hq:=zm Z Z zi.h (mC _) (jA (i:=u) oQ oQ)) (h:=?_)
    refine TD.mv [0,20] ?_
    refine TD.mv [7,20] ?_
    refine TD.z [20,26] Z (q_sub Z Z Z oQ) ?_
    refine TD.ix [20,25,27] ?_
    refine TD.y [20,28] Z (hq:=zm Z Z zi.h (mC _) (jA (i:=u - 1) oQ oQ)) (h:=?_)
    refine TD.cl (pend':=[⟨11,[20,25,27],[]⟩,⟨10,[20,26],[]⟩,⟨9,[7,20],[]⟩,⟨8,[0,20],[]⟩,⟨6,[20,21,22],[]⟩,⟨5,[7,20],[]⟩,⟨4,[0,20],[]⟩,⟨2,[17,18],[]⟩,⟨1,[2],[]⟩,⟨0,[7],[]⟩]) [20,24,29] Z Z Z Z Z (zg9 hT) (fun r1 K2 h3=>⟨?_,?_⟩)
    ·rcases h3 with ⟨rfl,rfl⟩
     all_goals simp
    obtain ⟨rfl,rfl⟩:=h3
    try simp only [cA]
    refine TD.norm tQ ?_
    refine TD.z [20,30] Z (q_not Z Z) ?_
    refine TD.z [20,31] Z (yE Z Z Z) ?_
    refine TD.fin ?_
    refine au [20] ?_
    refine ⟨fun hc1=>?_,fun hc1=>?_⟩
    ·rw [ss_go hg hc1] at heqs
     refine au [12,13,5,1,23,2,3,14] ?_
     refine TK.maskL [0,1,2,7,8] ?_
     refine TK.kp [(j,_)] ?_
     exact hnext1 _ _ _ oQ ⟨u+1,rfl,oQ,oQ,heqs,rfl,rfl⟩
    have hf:scanSorted ltInt d1 b i=u:=by rw [<- heqs]; exact qh (.inr hc1)
    refine au [16,4,4] ?_
    refine TK.maskL [0,1,2,7,8] ?_
    refine TK.kp [(j,_)] ?_
    exact H () hf
   have hf:scanSorted ltInt d1 b i=u:=by rw [<- heqs]; exact qh (.inl (by simp at g5_4; omega))
   refine TD.u [0,20] Z ?_
   refine TD.u [7,20] Z ?_
   refine TD.u [20,21,22] Z ?_
   refine TD.u [20,23] Z ?_
   refine TD.u [0,20] Z ?_
   refine TD.u [7,20] Z ?_
   refine TD.u [20,26] Z ?_
   refine TD.u [20,25,27] Z ?_
   refine TD.u [20,28] Z ?_
   refine TD.u [20,24,29] Z ?_
   refine TD.u [20,30] Z ?_
   refine TD.z [20,31] Z (yf Z Z Z) ?_
   refine TD.fin ?_
   refine au [19,16,4,4] ?_
   refine TK.maskL [0,1,2,7,8] ?_
   refine TK.kp [(j,_)] ?_
   exact H () hf
  ·rintro _ hsc
   refine TK.na nQ ?_
   refine au [5,1,1,6,3,20] ?_
   refine ⟨fun hc2=>?_,fun hc2=>?_⟩
   ·have hq1:partialInsertionSort ltInt d a b=(d1,true):=heq.symm.trans (pi_T hsc (by simp at hc2; omega))
    refine au [4,5,2,3] ?_
    refine TK.rt hret [(j,_)] ?_
    exact ⟨_,hq1,rfl,rfl⟩
   have hub2:¬ u=b:=fun h=>by rw [h] at hc2; simp at hc2
   refine au [12,4,4,5,1,1,24,6,3,20] ?_
   refine ⟨fun hc3=>?_,fun hc3=>?_⟩
   ·have hq1:partialInsertionSort ltInt d a b=(d1,false):=heq.symm.trans (pi_F hsc hub2 (by simp at hc3; omega))
    refine au [4,5,2,3] ?_
    refine TK.rt hret [(j,_)] ?_
    exact ⟨_,hq1,rfl,rfl⟩
   have h50:¬ b - a<50:=by simp at hc3; omega
   refine au [12,4] ?_
   refine TK.dr [0,1,2,3,4,5,6,7,8,9,10,11,12,13,14,15,16,17] [0,1,5,6,7,8,9,10,11,12,13,14,15,2,3,4,16,17] ?_
   refine TD.mv [0] ?_
   refine TD.mv [7] ?_
   refine TD.mv [0] ?_
   refine TD.mv [7] ?_
   refine TD.z [45] Z (q_sub Z Z Z oQ) ?_
   refine TD.mv [0] ?_
   refine TD.mv [7] ?_
   refine TD.z [48] Z (q_sub Z Z Z oQ) ?_
   refine TD.ix [47,49] ?_
   refine TD.y [50] Z (hq:=zm Z Z zi.h (mC _) (jA (i:=u - 1) oQ oQ)) (h:=?_)
   refine TD.mv [0] ?_
   refine TD.mv [7] ?_
   refine TD.ix [52,53] ?_
   refine TD.y [54] Z (hq:=zm Z Z zi.h (mC _) (jA (i:=u) oQ oQ)) (h:=?_)
   refine TD.ix [42,43] ?_
   refine TD.s (pend':=[⟨12,[52,53],[]⟩,⟨11,[7],[]⟩,⟨10,[0],[]⟩,⟨4,[45],[]⟩,⟨3,[7],[]⟩,⟨2,[0],[]⟩]) [51,56] Z Z (zX Z Z zi.h Z Z mQ (jB (k:=u) oQ oQ)) ?_
   refine TD.ix [44,46] ?_
   refine TD.s (pend':=[]) [55,57] Z Z (zX Z Z zi.h Z Z mQ (jC (i:=u) (j:=u - 1) oQ oQ)) ?_
   refine TD.fin ?_
   refine au [4,4] ?_
   refine' TK.shr (X:=Array Int) (D:=fun x=>x.size=n/\x=if u - a>=2 then shiftDown ltInt (u - 1) (swp d1 u (u - 1)) else swp d1 u (u - 1)) (E:=fun x=>.sl j 0 n::intA a::intA b::naL 4 (intA u::intA (5 - ((s+1:Nat):Int))::naL 124 [])) (KK:=fun x=>[(j,.row (x.toList.map intA) 3 1)]) ?_ ?_
   rotate_left
   ·intro H
    obtain ⟨d2,hd2⟩:∃ d2,d2=swp d1 u (u - 1):=⟨_,rfl⟩
    have hs2:d2.size=n:=by rw [hd2]; exact jD hs1
    rw [<- hd2]
    refine au [5,1,1,24,6,3,20] ?_
    refine ⟨fun hc4=>?_,fun hc4=>?_⟩
    ·have h2:u - a>=2:=by simp at hc4; omega
     refine au [4,5,1,24,2,3,13] ?_
     refine TK.maskL [0,1,2,7,8,9] ?_
     refine TK.loopN (fun n1 env K=>∃ (v:Nat) (d3:Array Int),n1=v/\v<=u - 1/\d3.size=n/\shiftDown ltInt v d3=shiftDown ltInt (u - 1) d2/\env=.sl j 0 n::intA a::intA b::naL 4 (intA u::intA (5 - ((s+1:Nat):Int))::intA v::naL 123 [])/\K=[(j,.row (d3.toList.map intA) 3 1)]) (u - 1) ⟨u - 1,d2,rfl,mL _,hs2,rfl,by rw [show (u:Int) - 1=((u - 1:Nat):Int) by omega] <;> rfl,rfl⟩ fun n1 env K hI hnext2=>?_
     obtain ⟨v,d3,hnv,hvu,hs3,heq3,rfl,rfl⟩:=hI
     subst n1
     refine TK.na nQ ?_
     refine au [4,4,5,1,6,3,20] ?_
     refine ⟨fun hc5=>?_,fun hc5=>?_⟩
     ·obtain ⟨q,rfl⟩:∃ q,v=q+1:=⟨v - 1,by simp at hc5; omega⟩
      refine au [12,4,13,4,4] ?_
      refine TK.dr [0,1,2,3,4,5,6,7,8,9,10] [0,1,2,3,4,5,6,7,8,9,10] ?_
      refine TD.mv [0] ?_
      refine TD.mv [9] ?_
      refine TD.ix [68,69] ?_
      refine TD.y [70] Z (hq:=zm Z Z zi.h (mC _) (jA (i:=q+1) oQ oQ)) (h:=?_)
      refine TD.mv [0] ?_
      refine TD.mv [9] ?_
      refine TD.z [73] Z (q_sub Z Z Z oQ) ?_
      refine TD.ix [72,74] ?_
      refine TD.y [75] Z (hq:=zm Z Z zi.h (mC _) (jA (i:=q) oQ oQ)) (h:=?_)
      refine TD.cl (pend':=[⟨7,[72,74],[]⟩,⟨6,[73],[]⟩,⟨5,[9],[]⟩,⟨4,[0],[]⟩,⟨2,[68,69],[]⟩,⟨1,[9],[]⟩,⟨0,[0],[]⟩]) [71,76] Z Z Z Z Z (zg9 hT) (fun r16 K17 h18=>⟨?_,?_⟩)
      ·rcases h18 with ⟨rfl,rfl⟩
       all_goals simp
      obtain ⟨rfl,rfl⟩:=h18
      try simp only [cA]
      refine TD.norm tQ ?_
      refine TD.z [77] Z (q_not Z Z) ?_
      refine TD.fin ?_
      refine au [20] ?_
      refine ⟨fun hc6=>?_,fun hc6=>?_⟩
      ·have hx3:d3.size=n/\d3=if u - a>=2 then shiftDown ltInt (u - 1) d2 else d2:=⟨hs3,by rw [if_pos h2,<- heq3]; exact (qZ hc6).symm⟩
       refine au [16,4] ?_
       refine TK.maskL [0,1,2,7,8] ?_
       refine TK.kp [(j,_)] ?_
       exact H _ (hd2 ▸ hx3)
      refine au [12] ?_
      refine TK.dr [0,1,2,3,4,5,6,7,8,9,10,11,12,13,14,15,16,17] [0,1,5,6,7,8,9,10,11,12,13,14,15,2,3,4,16,17] ?_
      refine TD.mv [0] ?_
      refine TD.mv [9] ?_
      refine TD.mv [0] ?_
      refine TD.mv [9] ?_
      refine TD.z [82] Z (q_sub Z Z Z oQ) ?_
      refine TD.mv [0] ?_
      refine TD.mv [9] ?_
      refine TD.z [85] Z (q_sub Z Z Z oQ) ?_
      refine TD.ix [84,86] ?_
      refine TD.y [87] Z (hq:=zm Z Z zi.h (mC _) (jA (i:=q) oQ oQ)) (h:=?_)
      refine TD.mv [0] ?_
      refine TD.mv [9] ?_
      refine TD.ix [89,90] ?_
      refine TD.y [91] Z (hq:=zm Z Z zi.h (mC _) (jA (i:=q+1) oQ oQ)) (h:=?_)
      refine TD.ix [79,80] ?_
      refine TD.s (pend':=[⟨12,[89,90],[]⟩,⟨11,[9],[]⟩,⟨10,[0],[]⟩,⟨4,[82],[]⟩,⟨3,[9],[]⟩,⟨2,[0],[]⟩]) [88,93] Z Z (zX Z Z zi.h Z Z mQ (jB (k:=q+1) oQ oQ)) ?_
      refine TD.ix [81,83] ?_
      refine TD.s (pend':=[]) [92,94] Z Z (zX Z Z zi.h Z Z mQ (jC (i:=q+1) (j:=q) oQ oQ)) ?_
      refine TD.fin ?_
      refine au [14,5,1,24,2,3] ?_
      refine TK.maskL [0,1,2,7,8,9] ?_
      refine TK.kp [(j,_)] ?_
      exact hnext2 _ _ _ oQ ⟨q,swp d3 (q+1) q,rfl,oQ,jD hs3,(sd_go hc6).symm.trans heq3,by rw [show ((q+1:Nat):Int) - 1=(q:Int) by omega]; rfl,rfl⟩
     obtain rfl:v=0:=by simp at hc5; omega
     have hx3:d3.size=n/\d3=if u - a>=2 then shiftDown ltInt (u - 1) d2 else d2:=⟨hs3,by rw [if_pos h2,<- heq3]; rfl⟩
     refine au [16,4] ?_
     refine TK.maskL [0,1,2,7,8] ?_
     refine TK.kp [(j,_)] ?_
     exact H _ (hd2 ▸ hx3)
    have hx3:d2.size=n/\d2=if u - a>=2 then shiftDown ltInt (u - 1) d2 else d2:=⟨hs2,(if_neg (by simp at hc4; omega)).symm⟩
    refine au [12,4] ?_
    refine TK.maskL [0,1,2,7,8] ?_
    refine TK.kp [(j,_)] ?_
    exact H _ (hd2 ▸ hx3)
   ·rintro d3 ⟨hs3,hd3e⟩
    refine TK.na nQ ?_
    refine' TK.shr (X:=Array Int) (D:=fun x=>x.size=n/\x=if b - u>=2 then shiftUp ltInt b (u+1) d3 else d3) (E:=fun x=>.sl j 0 n::intA a::intA b::naL 4 (intA u::intA (5 - ((s+1:Nat):Int))::naL 124 [])) (KK:=fun x=>[(j,.row (x.toList.map intA) 3 1)]) ?_ ?_
    rotate_left
    ·intro H
     refine au [5,1,1,24,6,3,20] ?_
     refine ⟨fun hc7=>?_,fun hc7=>?_⟩
     ·have h3:b - u>=2:=by simp at hc7; omega
      refine au [4,5,1,23,2,3,13] ?_
      refine TK.maskL [0,1,2,7,8,10] ?_
      refine TK.loopN (fun n1 env K=>∃ (v:Nat) (d4:Array Int),n1=b - v/\u+1<=v/\v<=b/\d4.size=n/\shiftUp ltInt b v d4=shiftUp ltInt b (u+1) d3/\env=.sl j 0 n::intA a::intA b::naL 4 (intA u::intA (5 - ((s+1:Nat):Int))::.any::intA v::naL 122 [])/\K=[(j,.row (d4.toList.map intA) 3 1)]) (b - (u+1)) ⟨u+1,d3,rfl,mL _,oQ,hs3,rfl,rfl,rfl⟩ fun n1 env K hI hnext3=>?_
      obtain ⟨v,d4,rfl,huv,hvb,hs4,heq4,rfl,rfl⟩:=hI
      refine TK.na nQ ?_
      refine au [4,4,5,1,1,6,3,20] ?_
      refine ⟨fun hc8=>?_,fun hc8=>?_⟩
      ·have hvl:v<b:=by simp at hc8; omega
       refine au [12,4,13,4,4] ?_
       refine TK.dr [0,1,2,3,4,5,6,7,8,9,10] [0,1,2,3,4,5,6,7,8,9,10] ?_
       refine TD.mv [0] ?_
       refine TD.mv [10] ?_
       refine TD.ix [106,107] ?_
       refine TD.y [108] Z (hq:=zm Z Z zi.h (mC _) (jA (i:=v) oQ oQ)) (h:=?_)
       refine TD.mv [0] ?_
       refine TD.mv [10] ?_
       refine TD.z [111] Z (q_sub Z Z Z oQ) ?_
       refine TD.ix [110,112] ?_
       refine TD.y [113] Z (hq:=zm Z Z zi.h (mC _) (jA (i:=v - 1) oQ oQ)) (h:=?_)
       refine TD.cl (pend':=[⟨7,[110,112],[]⟩,⟨6,[111],[]⟩,⟨5,[10],[]⟩,⟨4,[0],[]⟩,⟨2,[106,107],[]⟩,⟨1,[10],[]⟩,⟨0,[0],[]⟩]) [109,114] Z Z Z Z Z (zg9 hT) (fun r25 K26 h27=>⟨?_,?_⟩)
       ·rcases h27 with ⟨rfl,rfl⟩
        all_goals simp
       obtain ⟨rfl,rfl⟩:=h27
       try simp only [cA]
       refine TD.norm tQ ?_
       refine TD.z [115] Z (q_not Z Z) ?_
       refine TD.fin ?_
       refine au [20] ?_
       refine ⟨fun hc9=>?_,fun hc9=>?_⟩
       ·have hx4:d4.size=n/\d4=if b - u>=2 then shiftUp ltInt b (u+1) d3 else d3:=⟨hs4,by rw [if_pos h3,<- heq4]; exact (jac hvl hc9).symm⟩
        refine au [16,14] ?_
        refine TK.maskL [0,1,2,7,8] ?_
        refine TK.kp [(j,_)] ?_
        exact H _ hx4
       refine au [12] ?_
       refine TK.dr [0,1,2,3,4,5,6,7,8,9,10,11,12,13,14,15,16,17] [0,1,5,6,7,8,9,10,11,12,13,14,15,2,3,4,16,17] ?_
       refine TD.mv [0] ?_
       refine TD.mv [10] ?_
       refine TD.mv [0] ?_
       refine TD.mv [10] ?_
       refine TD.z [120] Z (q_sub Z Z Z oQ) ?_
       refine TD.mv [0] ?_
       refine TD.mv [10] ?_
       refine TD.z [123] Z (q_sub Z Z Z oQ) ?_
       refine TD.ix [122,124] ?_
       refine TD.y [125] Z (hq:=zm Z Z zi.h (mC _) (jA (i:=v - 1) oQ oQ)) (h:=?_)
       refine TD.mv [0] ?_
       refine TD.mv [10] ?_
       refine TD.ix [127,128] ?_
       refine TD.y [129] Z (hq:=zm Z Z zi.h (mC _) (jA (i:=v) oQ oQ)) (h:=?_)
       refine TD.ix [117,118] ?_
       refine TD.s (pend':=[⟨12,[127,128],[]⟩,⟨11,[10],[]⟩,⟨10,[0],[]⟩,⟨4,[120],[]⟩,⟨3,[10],[]⟩,⟨2,[0],[]⟩]) [126,131] Z Z (zX Z Z zi.h Z Z mQ (jB (k:=v) oQ oQ)) ?_
       refine TD.ix [119,121] ?_
       refine TD.s (pend':=[]) [130,132] Z Z (zX Z Z zi.h Z Z mQ (jC (i:=v) (j:=v - 1) oQ oQ)) ?_
       refine TD.fin ?_
       refine au [14,5,1,23,2,3] ?_
       refine TK.maskL [0,1,2,7,8,10] ?_
       refine TK.kp [(j,_)] ?_
       exact hnext3 _ _ _ oQ ⟨v+1,swp d4 v (v - 1),rfl,oQ,oQ,jD hs4,(su_go hvl hc9).symm.trans heq4,rfl,rfl⟩
      have hx4:d4.size=n/\d4=if b - u>=2 then shiftUp ltInt b (u+1) d3 else d3:=⟨hs4,by rw [if_pos h3,<- heq4]; exact (jam (by simp at hc8; omega)).symm⟩
      refine au [16,14] ?_
      refine TK.maskL [0,1,2,7,8] ?_
      refine TK.kp [(j,_)] ?_
      exact H _ hx4
     have hx4:d3.size=n/\d3=if b - u>=2 then shiftUp ltInt b (u+1) d3 else d3:=⟨hs3,(if_neg (by simp at hc7; omega)).symm⟩
     refine au [12,14] ?_
     refine TK.maskL [0,1,2,7,8] ?_
     refine TK.kp [(j,_)] ?_
     exact H _ hx4
    ·rintro d4 ⟨hd4,hd4e⟩
     refine TK.na nQ ?_
     refine au [5,1,23,2,3] ?_
     refine TK.maskL [0,1,2,7,8] ?_
     refine TK.kp [(j,_)] ?_
     exact hnext _ _ _ oQ ⟨s,u,d4,rfl,oQ,oQ,oQ,hd4,(pi_go hsc hub2 h50 hd3e hd4e).symm.trans heq,by rw [show (5:Int) - ((s+1:Nat):Int)+1=5 - (s:Int) by omega] <;> rfl,rfl⟩
 obtain rfl:s1=0:=by simp at hc0; omega
 have hq1:partialInsertionSort ltInt d a b=(d1,false):=heq.symm
 refine au [16,4,5,2,3] ?_
 refine TK.rt hret [(j,_)] ?_
 exact ⟨_,hq1,rfl,rfl⟩
instance:Cal tp 219:={}
instance:Cal tp 220:={}
instance:TyZA tp 263 [.v (.int .u64 0)]:={}
instance:Und tp 263 (.int .u64):={}
theorem x7 {main T} (hT:zo tp main T) {gm} {j n a b:Nat} {d:Array Int} (hd:d.size=n) (hn:n<256) (h8:a+8<=b) (hb:b<=n) :
  zA tp T gm 190 [.sl j 0 n,intA a,intA b] [(j,.row (d.toList.map intA) 3 1)] (fun r K'=>∃ d',PermIn a b d d'/\K'=[(j,.row (d'.toList.map intA) 3 1)]):=by
 refine zp 65 hT Tryz.func190 fun Y hret=>?_
 refine au [4,5,1,1,24,2,3,4] ?_
 rw [show (b:Int) - (a:Int)=((b - a:Nat):Int) by omega]
 refine au [5,1,6,3,20] ?_
 refine ⟨fun hc0=>?_,fun hc0=>?_⟩
 ·refine au [4,5,1] ?_
  refine TK.a Z (yU Z Z Und.h Und.h (zbZ (n:=b - a) oQ)) ?_
  refine au [22] ?_
  intro jx hjx
  refine au [17,3,4,5,1] ?_
  refine TK.cl Z Z Z Z (qw hT (n:=b - a) oQ oQ) ?_
  rintro r1 K2 ⟨M,hM1,hM2,rfl,rfl⟩
  refine au [2,3,4,5,1,1] ?_
  refine TK.a Z (jH Z Z Z oQ oQ oQ) ?_
  refine TK.a Z (q_mul Z Z Z oQ) ?_
  refine au [23,24,2,3,13] ?_
  refine TK.maskL [0,1,6,7,8,9] ?_
  obtain ⟨s0,hs0⟩:∃ s0:Nat,s0=a+(b - a) / 4*2 - 1:=⟨_,rfl⟩
  refine TK.kp [(j,_),(jx,_)] ?_
  refine TK.loopN (fun n1 env K=>∃ (t:Nat) (x:Int) (d1:Array Int),n1=3 - t/\t<=3/\PermIn a b d d1/\d1.size=n/\env=.sl j 0 n::intA a::naL 4 (intA ((b - a:Nat):Int)::.ptr jx 0::.v (.int .u64 (M:Int))::intA (s0+t:Nat)::naL 55 [])/\K=[(j,.row (d1.toList.map intA) 3 1),(jx,.cells [.v (.int .u64 x)] 263 true)]) 3 ⟨0,_,d,rfl,oQ,permIn_refl d a b,hd,by rw [show (a:Int)+((b - a:Nat):Int) / 4*2 - 1=((s0+0:Nat):Int) by omega] <;> rfl,rfl⟩ fun n1 env K hI hnext=>?_
  obtain ⟨t,x,d1,rfl,ht,hperm,hs1,rfl,rfl⟩:=hI
  refine TK.na nQ ?_
  refine au [4,4,5,1,1,1] ?_
  refine TK.a Z (jH Z Z Z oQ oQ oQ) ?_
  refine TK.a Z (q_mul Z Z Z oQ) ?_
  refine au [23,23,6,3,20] ?_
  refine ⟨fun hc1=>?_,fun hc1=>?_⟩
  ·have ht3:t<3:=by simp at hc1; omega
   refine au [12,4,13,4,5] ?_
   refine TK.cl Z Z Z Z (qv hT) ?_
   rintro r4 K5 ⟨y,hy0,hy1,rfl,rfl⟩
   refine au [1] ?_
   refine TK.a Z (qW Z Z Z oQ) ?_
   rw [show (M:Int) - 1=((M - 1:Nat):Int) by omega]
   refine TK.a Z (qU Z Z Z) ?_
   refine' TK.shr (X:=Nat) (D:=fun x=>x<b - a) (E:=fun x=>.sl j 0 n::intA a::naL 4 (intA ((b - a:Nat):Int)::.ptr jx 0::.v (.int .u64 (M:Int))::intA (s0+t:Nat)::intA x::naL 54 [])) (KK:=fun x=>[(j,.row (d1.toList.map intA) 3 1),(jx,.cells [.v (.int .u64 y)] 263 true)]) ?_ ?_
   rotate_left
   ·intro H
    have hw:=qG y (b:=M - 1) oQ
    obtain ⟨w,hwe⟩:∃ w:Nat,andW y ((M - 1:Nat):Int)=(w:Int):=⟨(andW y ((M - 1:Nat):Int)).toNat,oQ⟩
    rw [hwe] at hw ⊢
    refine TK.a Z (yU Z Z Und.h Und.h (wK oQ)) ?_
    refine au [2,3,4,4,5,1,1,6,3,20] ?_
    refine ⟨fun hc2=>?_,fun hc2=>?_⟩
    ·have hwl:b - a<=w:=by simp at hc2; omega
     refine au [5,1,1,24] ?_
     rw [show (w:Int) - ((b - a:Nat):Int)=((w - (b - a):Nat):Int) by omega]
     refine au [2,3] ?_
     refine TK.maskL [0,1,6,7,8,9,10] ?_
     refine TK.kp [(j,_),(jx,_)] ?_
     exact H _ oQ
    have hwl:w<b - a:=by simp at hc2; omega
    refine au [12] ?_
    refine TK.maskL [0,1,6,7,8,9,10] ?_
    refine TK.kp [(j,_),(jx,_)] ?_
    exact H _ oQ
   ·rintro o ho
    refine TK.na nQ ?_
    refine TK.dr [0,1,2,3,4,5,6,7,8,9,10,11,12,13,14,15,16,17,18,19] [0,1,6,7,8,9,10,11,12,13,14,15,16,17,2,3,4,5,18,19] ?_
    refine TD.mv [0] ?_
    refine TD.mv [9] ?_
    refine TD.mv [0] ?_
    refine TD.mv [1] ?_
    refine TD.mv [10] ?_
    refine TD.z [50,51] Z (q_add Z Z Z oQ) ?_
    refine TD.mv [0] ?_
    refine TD.mv [1] ?_
    refine TD.mv [10] ?_
    refine TD.z [54,55] Z (q_add Z Z Z oQ) ?_
    refine TD.ix [53,56] ?_
    refine TD.y [57] Z (hq:=zm Z Z zi.h (mC _) (jA (i:=a+o) oQ oQ)) (h:=?_)
    refine TD.mv [0] ?_
    refine TD.mv [9] ?_
    refine TD.ix [59,60] ?_
    refine TD.y [61] Z (hq:=zm Z Z zi.h (mC _) (jA (i:=s0+t) oQ oQ)) (h:=?_)
    refine TD.ix [47,48] ?_
    refine TD.s (pend':=[⟨14,[59,60],[]⟩,⟨13,[9],[]⟩,⟨12,[0],[]⟩,⟨5,[50,51],[]⟩,⟨4,[10],[]⟩,⟨3,[1],[]⟩,⟨2,[0],[]⟩]) [58,63] Z Z (zX Z Z zi.h Z Z mQ (jB (k:=s0+t) oQ oQ)) ?_
    refine TD.ix [49,52] ?_
    refine TD.s (pend':=[]) [62,64] Z Z (zX Z Z zi.h Z Z mQ (jC (i:=s0+t) (j:=a+o) oQ oQ)) ?_
    refine TD.fin ?_
    refine au [14,5,1,23,2,3] ?_
    refine TK.maskL [0,1,6,7,8,9] ?_
    refine TK.kp [(j,_),(jx,_)] ?_
    exact hnext _ _ _ oQ ⟨t+1,y,swp d1 (s0+t) (a+o),rfl,oQ,permIn_trans _ _ _ a b hperm (swp_permIn d1 a b _ _ oQ oQ oQ oQ oQ),jD hs1,rfl,rfl⟩
  refine au [16] ?_
  refine TK.rt0 hret [(j,_)] ?_
  exact ⟨d1,hperm,rfl⟩
 simp at hc0; omega
instance:Cal tp 189:={}
instance:Cal tp 190:={}
instance:Cal tp 191:={}
instance:Cal tp 192:={}
instance:Cal tp 193:={}
instance:Cal tp 195:={}
instance:Cal tp 196:={}
theorem qS {main T} (hT:zo tp main T) {gm} {j n:Nat} (hn:n<256):∀ (m a b:Nat) (lim:Int) (d:Array Int),b - a=m->d.size=n->a<=b->b<=n->0<=lim/\lim<=1000->Below ltInt a b d ->
  zA tp T gm 160 [.sl j 0 n,intA a,intA b,intA lim] [(j,.row (d.toList.map intA) 3 1)] (fun r K'=>∃ d',PermIn a b d d'/\SortedIn ltInt a b d'/\K'=[(j,.row (d'.toList.map intA) 3 1)]):=by
 intro m
 induction m using Nat.strongRecOn with | ind m ih=>?_
 intro a b lim d hm hd hab hb hlim hB
 refine zp 134 hT Tryz.func160 fun Y hret=>?_
 refine au [4,5,2,3,4,5,2,3,13] ?_
 refine TK.maskL [0,1,2,3,8,9] ?_
 refine TK.loopN (fun n1 env K=>∃ (u v:Nat) (l:Int) (w1 w2:Bool) (d1:Array Int),n1=v - u/\v - u<=m/\u<=v/\v<=n/\(0<=l/\l<=1000)/\d1.size=n/\Below ltInt u v d1/\(∀ R,PermIn u v d1 R->SortedIn ltInt u v R->PermIn a b d R/\SortedIn ltInt a b R)/\env=.sl j 0 n::intA u::intA v::intA l::naL 4 (zP w1::zP w2::naL 124 [])/\K=[(j,.row (d1.toList.map intA) 3 1)]) (b - a) ⟨a,b,lim,true,true,d,rfl,oQ,hab,hb,hlim,hd,hB,fun R h1 h2=>⟨h1,h2⟩,rfl,rfl⟩ fun n1 env K hI hnext=>?_
 obtain ⟨u,v,l,w1,w2,d1,rfl,hm1,huv,hvn,hl,hs1,hB1,hfin,rfl,rfl⟩:=hI
 refine TK.na nQ ?_
 refine au [13,4,5,1,1,24,2,3,4,4] ?_
 rw [show (v:Int) - (u:Int)=((v - u:Nat):Int) by omega]
 refine au [5,1,6,3,20] ?_
 refine ⟨fun hc0=>?_,fun hc0=>?_⟩
 ·have hq:=insertionSort_holds swo_ltInt d1 u v huv oQ
  have hz:=hfin _ hq.1 hq.2
  refine au [4,5,1,1,1] ?_
  refine TK.cl Z Z Z Z (qN hT (d:=d1) hs1 oQ huv hvn) ?_
  rintro r1 K2 rfl
  refine au [3] ?_
  refine TK.rt hret [(j,_)] ?_
  exact ⟨_,hz.1,hz.2,rfl⟩
 have h12:12<v - u:=by simp at hc0; omega
 refine au [12,4,4,5,1,6,3,20] ?_
 refine ⟨fun hc1=>?_,fun hc1=>?_⟩
 ·have hq:=heapSort_holds swo_ltInt d1 u v huv oQ
  have hz:=hfin _ hq.1 hq.2
  refine au [4,5,1,1,1] ?_
  refine TK.cl Z Z Z Z (qu hT (d:=d1) hs1 oQ oQ hvn) ?_
  rintro r4 K5 rfl
  refine au [3] ?_
  refine TK.rt hret [(j,_)] ?_
  exact ⟨_,hz.1,hz.2,rfl⟩
 refine' TK.shr (X:=Int×Array Int) (D:=fun x=>(0<=x.1/\x.1<=1000)/\PermIn u v d1 x.2) (E:=fun x=>.sl j 0 n::intA u::intA v::intA x.1::naL 4 (zP w1::zP w2::intA ((v - u:Nat):Int)::naL 123 [])) (KK:=fun x=>[(j,.row (x.2.toList.map intA) 3 1)]) ?_ ?_
 rotate_left
 ·intro H
  have hl0:l≠0:=fun h=>by rw [h] at hc1; simp at hc1
  refine au [12,4,4,5,1,30,3,20] ?_
  refine ⟨fun hc2=>?_,fun hc2=>?_⟩
  ·refine au [4,5,1,1,1] ?_
   refine TK.cl Z Z Z Z (x7 hT (d:=d1) hs1 hn oQ hvn) ?_
   rintro r7 K8 ⟨d2,hp2,rfl⟩
   refine au [3,5,1,24,2,3,4] ?_
   refine TK.maskL [0,1,2,3,8,9,10] ?_
   refine TK.kp [(j,_)] ?_
   exact H (l - 1,d2) ⟨by omega,hp2⟩
  have hp2:=permIn_refl d1 u v
  refine au [12,4] ?_
  refine TK.maskL [0,1,2,3,8,9,10] ?_
  refine TK.kp [(j,_)] ?_
  exact H (l,d1) ⟨by omega,hp2⟩
 ·rintro ⟨l2,d2⟩ ⟨hl2,hp2⟩; dsimp only at hl2 hp2 ⊢; have hs2:d2.size=n:=hp2.1.trans hs1; have hB2:=hB1.perm oQ hp2; have hfin2:∀ R,PermIn u v d2 R->SortedIn ltInt u v R->PermIn a b d R/\SortedIn ltInt a b R:=fun R h1 h2=>hfin R (permIn_trans _ _ _ u v hp2 h1) h2
  refine TK.na nQ ?_
  refine' TK.shr (X:=Nat×Int×Array Int) (D:=fun x=>(u<=x.1/\x.1<v)/\PermIn u v d2 x.2.2) (E:=fun x=>.sl j 0 n::intA u::intA v::intA l2::naL 4 (zP w1::zP w2::intA ((v - u:Nat):Int)::intA x.1::intA x.2.1::naL 121 [])) (KK:=fun x=>[(j,.row (x.2.2.toList.map intA) 3 1)]) ?_ ?_
  rotate_left
  ·intro H
   refine au [5,1,1,1] ?_
   refine TK.cl Z Z Z Z (qT hT (d:=d2) hs2 oQ oQ hvn) ?_
   rintro r214 K215 ⟨p,hh,hp1,hpv,rfl,rfl⟩
   refine au [1,10,10,2,2,3,4,4,5,1,6,3,20] ?_
   refine ⟨fun hc3=>?_,fun hc3=>?_⟩
   ·have hp3:=reverseRange_holds d2 u v huv oQ
    refine au [4,5,1,1,1] ?_
    refine TK.cl Z Z Z Z (qX hT (d:=d2) hs2 oQ oQ hvn) ?_
    rintro r217 K218 rfl
    refine au [3,4,5,1,24,1,1,24,24,2] ?_
    rw [show (v:Int) - 1 - ((p:Int) - (u:Int))=((v - 1 - (p - u):Nat):Int) by omega]
    refine au [3,5,2,3,4,4] ?_
    refine TK.maskL [0,1,2,3,8,9,10,11,12] ?_
    refine TK.kp [(j,_)] ?_
    exact H (v - 1 - (p - u),1,_) ⟨by omega,hp3⟩
   have hp3:=permIn_refl d2 u v
   refine au [12,4,4] ?_
   refine TK.maskL [0,1,2,3,8,9,10,11,12] ?_
   refine TK.kp [(j,_)] ?_
   exact H (p,hh,d2) ⟨by omega,hp3⟩
  ·rintro ⟨p,hh,d3⟩ ⟨⟨hpu,hpv⟩,hp3⟩; dsimp only at hpu hpv hp3 ⊢; have hs3:d3.size=n:=hp3.1.trans hs2; have hB3:=hB2.perm oQ hp3; have hfin3:∀ R,PermIn u v d3 R->SortedIn ltInt u v R->PermIn a b d R/\SortedIn ltInt a b R:=fun R h1 h2=>hfin2 R (permIn_trans _ _ _ u v hp3 h1) h2
   refine TK.na nQ ?_
   refine' TK.shr (X:=Array Int) (D:=fun x=>PermIn u v d3 x) (E:=fun x=>.sl j 0 n::intA u::intA v::intA l2::naL 4 (zP w1::zP w2::intA ((v - u:Nat):Int)::intA p::naL 122 [])) (KK:=fun x=>[(j,.row (x.toList.map intA) 3 1)]) ?_ ?_
   rotate_left
   ·intro H
    refine au [5,1,1] ?_
    refine TK.sp 62 (fun g15_2=>?_) (fun g15_2=>?_)
    ·refine au [1,26,1] ?_
     refine TK.sp 65 (fun g15_5=>?_) (fun g15_5=>?_)
     ·refine au [1,6,26,3,20] ?_
      refine ⟨fun hc4=>?_,fun hc4=>?_⟩
      ·refine au [4,5,1,1,1] ?_
       refine TK.cl Z Z Z Z (qR hT (d:=d3) hs3 oQ oQ hvn) ?_
       rintro r319 K320 ⟨q,hqe,rfl,rfl⟩
       refine au [3,20] ?_
       refine ⟨fun hc5=>?_,fun hc5=>?_⟩
       ·have hpi:=partialInsertionSort_holds swo_ltInt d3 u v oQ oQ hB3
        rw [hqe] at hpi
        have hz:=hfin3 _ hpi.1 (hpi.2 hc5)
        refine au [] ?_
        refine TK.rt hret [(j,_)] ?_
        exact ⟨_,hz.1,hz.2,rfl⟩
       have hp4:=(partialInsertionSort_holds swo_ltInt d3 u v oQ oQ hB3).1
       rw [hqe] at hp4
       refine au [12,4,4] ?_
       refine TK.maskL [0,1,2,3,8,9,10,11] ?_
       refine TK.kp [(j,_)] ?_
       exact H _ hp4
      have hp4:=permIn_refl d3 u v
      refine au [12,4,4] ?_
      refine TK.maskL [0,1,2,3,8,9,10,11] ?_
      refine TK.kp [(j,_)] ?_
      exact H _ hp4
     have hp4:=permIn_refl d3 u v
     refine au [11,11,25,3,19,12,4,4] ?_
     refine TK.maskL [0,1,2,3,8,9,10,11] ?_
     refine TK.kp [(j,_)] ?_
     exact H _ hp4
    have hp4:=permIn_refl d3 u v
    refine au [11,25,1,11,11,25,3,19,12,4,4] ?_
    refine TK.maskL [0,1,2,3,8,9,10,11] ?_
    refine TK.kp [(j,_)] ?_
    exact H _ hp4
   ·rintro d4 hp4; have hs4:d4.size=n:=hp4.1.trans hs3; have hB4:=hB3.perm oQ hp4; have hfin4:∀ R,PermIn u v d4 R->SortedIn ltInt u v R->PermIn a b d R/\SortedIn ltInt a b R:=fun R h1 h2=>hfin3 R (permIn_trans _ _ _ u v hp4 h1) h2
    refine TK.na nQ ?_
    refine' TK.shr (X:=Unit) (D:=fun x=>True) (E:=fun x=>.sl j 0 n::intA u::intA v::intA l2::naL 4 (zP w1::zP w2::intA ((v - u:Nat):Int)::intA p::naL 122 [])) (KK:=fun x=>[(j,.row (d4.toList.map intA) 3 1)]) ?_ ?_
    rotate_left
    ·intro H
     refine TK.dr [0,1,2,3,4,5,6,7,8,9,10,11,12,13,14] [0,1,2,3,4,5,6,7,8,9,10,11,12,13,14] ?_
     refine TD.mv [1] ?_
     refine TD.z [73] Z (q_cmp Z Z Z Z) ?_
     refine TD.mv [74] ?_
     refine TD.sp 75 (fun g17_3=>?_) (fun g17_3=>?_)
     ·have hu0:0<u:=by simp at g17_3; omega
      refine TD.mv [0,75] ?_
      refine TD.mv [1,75] ?_
      refine TD.z [75,77] Z (q_sub Z Z Z oQ) ?_
      refine TD.ix [75,76,78] ?_
      refine TD.y [75,79] Z (hq:=zm Z Z zi.h (mC _) (jA (i:=u - 1) oQ oQ)) (h:=?_)
      refine TD.mv [0,75] ?_
      refine TD.mv [11,75] ?_
      refine TD.ix [75,81,82] ?_
      refine TD.y [75,83] Z (hq:=zm Z Z zi.h (mC _) (jA (i:=p) oQ oQ)) (h:=?_)
      refine TD.cl (pend':=[⟨10,[75,81,82],[]⟩,⟨9,[11,75],[]⟩,⟨8,[0,75],[]⟩,⟨6,[75,76,78],[]⟩,⟨5,[75,77],[]⟩,⟨4,[1,75],[]⟩,⟨3,[0,75],[]⟩,⟨1,[73],[]⟩,⟨0,[1],[]⟩]) [75,80,84] Z Z Z Z Z (zg9 hT) (fun r394 K395 h396=>⟨?_,?_⟩)
      ·rcases h396 with ⟨rfl,rfl⟩
       all_goals simp
      obtain ⟨rfl,rfl⟩:=h396
      try simp only [cA]
      refine TD.norm tQ ?_
      refine TD.z [75,85] Z (q_not Z Z) ?_
      refine TD.z [75,86] Z (yE Z Z Z) ?_
      refine TD.fin ?_
      refine au [20] ?_
      refine ⟨fun hc6=>?_,fun hc6=>?_⟩
      ·have hnl:ltInt d4[u - 1]! d4[p]! =false:=by cases hh:ltInt d4[u - 1]! d4[p]! with
        | false=>rfl
        | true=>exact absurd (show (!ltInt d4[u - 1]! d4[p]!)=true from hc6) (by rw [hh]; decide)
       refine au [4,5,1,1,1,1] ?_
       refine TK.cl Z Z Z Z (xX hT (d:=d4) hs4 oQ hpu hpv hvn) ?_
       rintro r397 K398 ⟨q,hqe,rfl,rfl⟩
       refine au [] ?_
       obtain ⟨hr1,hr2,hr3,hr4,hr5⟩:=round_eq swo_ltInt (partitionEqual_holds ltInt) hu0 hpu hpv oQ hB4 hnl (show partitionEqual ltInt d4 u v p=(q.1,q.2) from hqe)
       refine au [2,3,4,5,1,2,3,16] ?_
       refine TK.maskL [0,1,2,3,8,9] ?_
       refine TK.kp [(j,_)] ?_
       exact hnext _ _ _ oQ ⟨q.1,v,l2,w1,w2,q.2,rfl,oQ,oQ,hvn,hl2,hr3.trans hs4,hr4,fun R h1 h2=>(hr5 R h1 h2).elim fun h3 h4=>hfin4 R h3 h4,rfl,rfl⟩
      refine au [12,4] ?_
      refine TK.maskL [0,1,2,3,8,9,10,11] ?_
      refine TK.kp [(j,_)] ?_
      exact H () trivial
     refine TD.u [0,75] Z ?_
     refine TD.u [1,75] Z ?_
     refine TD.u [75,77] Z ?_
     refine TD.u [75,76,78] Z ?_
     refine TD.u [75,79] Z ?_
     refine TD.u [0,75] Z ?_
     refine TD.u [11,75] Z ?_
     refine TD.u [75,81,82] Z ?_
     refine TD.u [75,83] Z ?_
     refine TD.u [75,80,84] Z ?_
     refine TD.u [75,85] Z ?_
     refine TD.z [75,86] Z (yf Z Z Z) ?_
     refine TD.fin ?_
     refine au [19,12,4] ?_
     refine TK.maskL [0,1,2,3,8,9,10,11] ?_
     refine TK.kp [(j,_)] ?_
     exact H () trivial
    ·rintro _ _
     refine TK.na nQ ?_
     refine au [5,1,1,1,1] ?_
     refine TK.cl Z Z Z Z (qy hT (d:=d4) hs4 oQ hpu hpv hvn) ?_
     rintro r409 K410 ⟨q,hqe,rfl,rfl⟩
     refine au [] ?_
     obtain ⟨hr1,hr2,hr3,hr4,hr5,hr6,hr7⟩:=round_part swo_ltInt (partition_holds ltInt) hpu hpv oQ hB4 (show partition ltInt d4 u v p=(q.1,q.2.1,q.2.2) from hqe)
     refine au [1,10,10,2,2,3,4,5,1,2,3,4,5,1,1,24,1,1,24,2,2,3,4] ?_
     rw [show (q.1:Int) - (u:Int)=((q.1 - u:Nat):Int) by omega,show (v:Int) - (q.1:Int)=((v - q.1:Nat):Int) by omega]
     refine au [5,1] ?_
     refine TK.a Z (jH Z Z Z oQ oQ oQ) ?_
     refine au [2,3,4,5,1,1,6,3,20] ?_
     refine ⟨fun hc7=>?_,fun hc7=>?_⟩
     ·refine au [4,5,1,1,6,2,3,4,5,1,1,1,1] ?_
      refine TK.cl Z Z Z Z (ih (q.1 - u) oQ u q.1 l2 q.2.2 Z (by rw [hr3]; exact hs4) hr1 oQ hl2 hr4) ?_
      rintro r412 K413 ⟨L,hL1,hL2,rfl⟩
      refine au [] ?_
      have hbl:=hr6 L hL1 hL2
      refine au [3,5,1,23,2,3,14] ?_
      refine TK.maskL [0,1,2,3,8,9] ?_
      refine TK.kp [(j,_)] ?_
      exact hnext _ _ _ oQ ⟨q.1+1,v,l2,_,q.2.1,L,rfl,oQ,oQ,hvn,hl2,hL1.1.trans (hr3.trans hs4),hbl.1,fun R h1 h2=>(hbl.2 R h1 h2).elim fun h3 h4=>hfin4 R h3 h4,rfl,rfl⟩
     refine au [4,5,1,1,6,2,3,4,5,1,1,23,1,1] ?_
     refine TK.cl Z Z Z Z (ih (v - (q.1+1)) oQ (q.1+1) v l2 q.2.2 Z (by rw [hr3]; exact hs4) oQ hvn hl2 hr5) ?_
     rintro r415 K416 ⟨L,hL1,hL2,rfl⟩
     refine au [] ?_
     have hbl:=hr7 L hL1 hL2
     refine au [3,5,1,2,3,14] ?_
     refine TK.maskL [0,1,2,3,8,9] ?_
     refine TK.kp [(j,_)] ?_
     exact hnext _ _ _ oQ ⟨u,q.1,l2,_,q.2.1,L,rfl,oQ,oQ,oQ,hl2,hL1.1.trans (hr3.trans hs4),hbl.1,fun R h1 h2=>(hbl.2 R h1 h2).elim fun h3 h4=>hfin4 R h3 h4,rfl,rfl⟩
theorem qg {n:Nat} {xs:List Int} {d:Array Int} (hp:PermIn 0 n xs.toArray d) (hs:SortedIn ltInt 0 n d) (hn:xs.length=n):d.toList=xs.mergeSort fun x y=>decide (x<=y):=by
 subst hn
 have:=sorted_unique_holds (lt:=ltInt) swo_ltInt (fun x y h1 h2=>by have h3:=of_decide_eq_false h1; have h4:=of_decide_eq_false h2; omega) xs.toArray d (by simpa using hp) (by simpa using hs)
 rw [this]
 congr 1
 funext x y
 unfold ltInt
 by_cases h:x<=y
 ·rw [decide_eq_true h,decide_eq_false oQ]; rfl
 ·rw [decide_eq_false h,decide_eq_true oQ]; rfl
theorem qE {main T} (hT:zo tp main T) {gm} {j n:Nat} {xs:List Int} (hn:xs.length=n) (h256:n<256) :
  zA tp T gm 131 [.row j n] [(j,.row (xs.map intA) 3 1)] (fun r K'=>K'=[(j,.row ((xs.mergeSort fun x y=>decide (x<=y)).map intA) 3 1)]):=by
 refine zp 11 hT Tryz.func131 fun Y hret=>?_
 refine au [4] ?_
 refine TK.asSl 0 Z (mC _) ?_
 refine au [5,1,28,2,3,5,1,1,1] ?_
 refine TK.a Z (yU Z Z Und.h Und.h (zbZ (n:=n) oQ)) ?_
 refine TK.cl Z Z Z Z (jU hT (n:=n) oQ) ?_ (hs:=(.none _))
 rintro r1 K2 ⟨m,rfl,hm8,hm2,rfl⟩
 refine au [] ?_
 refine TK.cl Z Z Z Z (qS hT (j:=j) (n:=n) h256 n 0 n (m:Int) xs.toArray (Nat.sub_zero n) (by simpa using hn) (mN _) (mL _) oQ (.inl Z)) ?_
 rintro r4 K5 ⟨d2,hp,hs,rfl⟩
 refine au [3] ?_
 refine TK.rt0 hret [(j,_)] ?_
 rw [qg hp hs hn]
end Go.Vel
namespace Go.Vel
open Go Go.Conc
theorem xl {xs:List Int} (hs:∀ i j,i<j->j<xs.length->zN xs i<=zN xs j):∀ p,p<=xs.length->(compN xs p).Pairwise (· < ·)/\(∀ z,z∈compN xs p↔z∈xs.take p)/\(∀ z∈compN xs p,0<p/\z<=zN xs (p - 1))
 | 0,_=>⟨.nil,fun z=>by simp [compN],fun z hz=>by cases hz⟩
 | 1,h=>by
  have e:xs.take 1=[zN xs 0]:=by rw [yP (z5 (l:=xs) (k:=0) oQ)]; rfl
  refine ⟨?_,fun z=>Iff.rfl,fun z hz=>?_⟩
  ·show (xs.take 1).Pairwise _
   rw [e]; exact List.pairwise_singleton _ _
  ·have hz:z∈xs.take 1:=hz
   rw [e] at hz
   exact ⟨by omega,by rw [lS.1 hz]; exact Int.le_refl _⟩
 | p+2,h=>by
  obtain ⟨h1,h2,h3⟩:=xl hs (p+1) oQ
  have hle:=hs p (p+1) oQ oQ
  have ht:xs.take (p+2)=xs.take (p+1)++[zN xs (p+1)]:=yP (z5 oQ)
  by_cases e:zN xs p=zN xs (p+1)
  ·rw [vW e]
   have hm:zN xs p∈xs.take (p+1):=by rw [yP (z5 (l:=xs) (k:=p) oQ)]; simp
   refine ⟨h1,fun z=>?_,fun z hz=>⟨by omega,?_⟩⟩
   ·rw [ht,h2 z,lT,lS]
    exact ⟨.inl,fun hh=>hh.elim id fun hh=>by rw [hh,<- e]; exact hm⟩
   ·have:=(h3 z hz).2
    rw [Nat.add_sub_cancel] at this
    show z<=zN xs (p+1)
    omega
  ·rw [vX e]
   refine ⟨List.pairwise_append.2 ⟨h1,List.pairwise_singleton _ _,fun x hx y hy=>?_⟩,fun z=>?_,fun z hz=>⟨by omega,?_⟩⟩
   ·rw [lS.1 hy]
    have:=(h3 x hx).2
    rw [Nat.add_sub_cancel] at this
    omega
   ·rw [ht,lT,lT,h2 z]
   ·show z<=zN xs (p+1)
    rcases lT.1 hz with hz | hz
    ·have:=(h3 z hz).2
     rw [Nat.add_sub_cancel] at this
     omega
    ·rw [lS.1 hz]; exact Int.le_refl _
def msI (xs:List Int):List Int:=xs.mergeSort fun x y=>decide (x<=y)
theorem xM (xs:List Int):(msI xs).length=xs.length:=(List.mergeSort_perm ..).length_eq
theorem qQ {xs:List Int} {z:Int}:z∈msI xs↔z∈xs:=(List.mergeSort_perm ..).mem_iff
theorem qP (xs:List Int):∀ i j,i<j->j<(msI xs).length->zN (msI xs) i<=zN (msI xs) j:=fun i j hij hj=>by
 have hp:(msI xs).Pairwise fun x y=>decide (x<=y)=true:=List.pairwise_mergeSort (le:=fun x y:Int=>decide (x<=y)) (fun a b c h1 h2=>decide_eq_true (Int.le_trans (of_decide_eq_true h1) (of_decide_eq_true h2))) (fun a b=>by rcases Int.le_total a b with h | h <;> simp [h]) xs
 have h1:=z5 (l:=msI xs) (k:=i) oQ
 have h2:=z5 hj
 have:=List.pairwise_iff_getElem.1 hp i j oQ hj hij
 rw [lA oQ] at h1
 rw [lA hj] at h2
 rw [Option.some.inj h1,Option.some.inj h2] at this
 exact of_decide_eq_true this
def setI (xs:List Int):List Int:=compM (msI xs)
theorem qC {xs:List Int} {z:Int}:z∈setI xs↔z∈xs:=by
 have:=(xl (qP xs) _ (mL _)).2.1 z
 rw [lW] at this
 exact this.trans qQ
theorem xy (xs:List Int):(setI xs).length<=xs.length:=by
 have h:(setI xs).length<=(msI xs).length:=zbz (msI xs) _ (mL _)
 rwa [xM] at h
def shrI (b:RBk) (n:Int):List Int:=setI ((zf b).map fun s=>zN s n.toNat)
theorem xz {b:RBk} {n z:Int}:z∈shrI b n↔∃ s∈zf b,zN s n.toNat=z:=by
 unfold shrI
 rw [qC,lY]
end Go.Vel
namespace Go.Vel
open Go Go.Conc Go.Proofs
theorem jV {main:Bool} {T:Goroutine->Hp->Prop} (hT:zo tp main T)  {b:RBk} {s h e:Nat} (hl:b.seams.length<=100) (hm:b.measures.length<=100) {n:Int}  :
  zA tp T gmR 52 [.agg (zE b s h e),intA n] [(0,zy),(s,zk b),(h,zB b),(e,zq b)] (fun r K'=>(bar2 (zr b) (thereM b n)≠0/\r=.tup [.v (.slice none 0 0),intA (bar2 (zr b) (thereM b n))]/\K'=[(0,zy),(s,zk b),(h,zB b),(e,zq b)])\/(bar2 (zr b) (thereM b n)=0/\zf b=[]/\r=.tup [.v (.slice none 0 0),intA 9]/\K'=[(0,zy),(s,zk b),(h,zB b),(e,zq b)])\/(bar2 (zr b) (thereM b n)=0/\zf b≠[]/\∃ jr zs,r=.tup [.sl jr 0 (shrI b n).length,intA 0]/\K'=(jr,.cells ((shrI b n++zs).map intA) 3 false)::[(0,zy),(s,zk b),(h,zB b),(e,zq b)])):=by
 refine zp 40 hT Tryz.func52 fun Y hret=>?_
 refine au [4,5,21] ?_
 intro jb hjb
 refine au [2,2,3,4,5,8,1,32] ?_
 refine TK.newR Z Z Z (zt (l:=[_]) Z zF.h TyZ.h dQ dQ Z) (fun _=>zu rfl tQ) fun ja hja=>?_
 refine TK.cl Z Z Z Z (uH hT (Kx:=[]) (p1:=thereM b n) (fun h0=>yw Cal.h ((ul hT (b:=b) (s:=s) (h:=h) (e:=e) (n:=n) (zZ h0).sms.len.2).frameP (R:=[(s,zk b)]) (List.Perm.refl _))) hl hm) ?_
 rintro r1 K2 h3
 rcases h3 with ⟨hbar,rfl,rfl⟩ | ⟨hbar,hnil,rfl,rfl⟩ | ⟨hbar,hne,a,rfl,rfl⟩
 ·refine au [1,10,10,22] ?_
  intro j6 hj6
  refine au [17,2,3,4,4,5,1,6,3,20] ?_
  refine ⟨fun hc0=>?_,fun hc0=>?_⟩
  ·
   refine au [4,5,1,2,2,3] ?_
   refine TK.rt hret [(0,_),(s,_),(h,_),(e,_)] ?_
   exact .inl ⟨hbar,rfl,rfl⟩
  exact absurd hbar (by simpa using hc0)
 ·refine au [1,10,10,22] ?_
  intro j6 hj6
  refine au [17,2,3,4,4,5,1,6,3,20] ?_
  refine ⟨fun hc0=>?_,fun hc0=>?_⟩
  ·
   refine au [4,5,1,2,2,3] ?_
   refine TK.rt hret [(0,_),(s,_),(h,_),(e,_)] ?_
   exact .inr (.inl ⟨hbar,hnil,rfl,rfl⟩)
  exact absurd hc0 dQ
 ·refine au [1,10,10,22] ?_
  intro j6 hj6
  refine au [17,2,3,4,4,5,1,6,3,20] ?_
  refine ⟨fun hc0=>?_,fun hc0=>?_⟩
  ·exact absurd hc0 sQ
  have hbb:=zZ (kE hbar)
  have hth:=zah (kb hbar)
  have hs5:=hbb.sms.len
  have hpos:0<(zf b).length:=List.length_pos_iff.2 hne
  have hlen:=kf hbb
  refine au [12,4,5,2] ?_
  refine TK.virt 8 3 1 Z fun jt0 hjt0=>?_
  refine au [3,4,4,5,7,9,28,1,3,13] ?_
  refine TK.maskL [1,4,5,6,8,23,24,25] ?_
  refine TK.kp [(a,_),(0,_),(s,_),(h,_),(e,_),(j6,_),(jt0,_)] ?_
  refine TK.loopN (fun n1 env K=>∃ (i jt:Nat),n1=(zf b).length - i/\i<=(zf b).length/\env=.any::intA n::naL 2 (.v (.slice none 0 0)::intA 0::.ptr j6 0::.any::.row jt i::naL 14 (.sl a 0 (zf b).length::intA (zf b).length::intA i::naL 14 []))/\K=[(a,allO (zf b)),(0,zy),(s,zk b),(h,zB b),(e,zq b),(j6,.cells (knownC b s h e a (zf b).length) 139 true),(jt,.row ((((zf b).take i).map fun s=>zN s n.toNat).map intA) 3 1)]) (zf b).length ⟨0,jt0,rfl,mN _,rfl,rfl⟩ fun n1 env K hI hnext=>?_
  obtain ⟨i,jt,rfl,hi,rfl,rfl⟩:=hI
  refine TK.na nQ ?_
  refine au [4,5,6,3,4,20] ?_
  refine ⟨fun hc1=>?_,fun hc1=>?_⟩
  ·have hil:i<(zf b).length:=by simp at hc1; omega
   obtain ⟨st,hst⟩:∃ st,(zf b)[i]? =some st:=⟨_,lA hil⟩
   refine au [12,4,13,4,5,36] ?_
   refine TK.a Z (z8 Z Z zi.h mQ (zaJ (i:=i) hst Z)) ?_
   refine au [22] ?_
   intro j10 hj10
   refine au [17,3,5,1,1] ?_
   refine TK.a Z (wx Z Z Z ArEl.h oQ oQ) ?_
   refine TK.a Z (zm Z Z zi.h mQ (st_at (i:=n.toNat) oQ oQ)) ?_
   refine TK.newR Z Z Z (zt (l:=[_]) Z zF.h TyZ.h dQ dQ Z) (fun _=>zu rfl tQ) fun j4 hj4=>?_
   refine TK.appR Z Z Z (a_app Z ApOf.h Z mQ (by simp; omega) Z (yu (ln:=[_]) mQ dQ sQ Z) oQ Z (by unfold maxLen; omega) oQ) (fun _=>uQ) (fun _=>zu rfl tQ) fun jt2=>?_
   refine au [2,3,14,5,23,1,3] ?_
   refine TK.maskL [1,4,5,6,8,23,24,25] ?_
   refine TK.kp [(a,_),(0,_),(s,_),(h,_),(e,_),(j6,_),(jt2,_)] ?_
   exact hnext _ _ _ oQ ⟨i+1,jt2,rfl,oQ,rfl,by rw [yP hst,lM,lM]; rfl⟩
  obtain rfl:i=(zf b).length:=by simp at hc1; omega
  rw [List.take_of_length_le (mL _)]
  have hsl2:(msI ((zf b).map fun s=>zN s n.toNat)).length=(zf b).length:=by rw [xM,lJ]
  refine au [16,4,5,1] ?_
  refine TK.cl Z Z Z Z (qE hT (xs:=((zf b).map fun s=>zN s n.toNat)) sQ oQ) ?_
  rintro r5 K6 rfl
  refine au [3,4,5,1] ?_
  refine TK.cl Z Z Z Z (zdl hT (xs:=msI ((zf b).map fun s=>zN s n.toNat)) hsl2 oQ) ?_
  rintro r8 K9 h10
  rcases h10 with ⟨zs,rfl,rfl⟩ | ⟨rfl,hcm,rfl⟩
  ·refine au [] ?_
   refine TK.frzRow (j:=jt) ?_
   refine au [2,2,3] ?_
   refine TK.rt hret [(jt,_),(0,_),(s,_),(h,_),(e,_)] ?_
   exact .inr (.inr ⟨hbar,hne,jt,zs,rfl,rfl⟩)
  ·refine au [] ?_
   refine TK.asSl 39 Z (mC _) ?_
   refine TK.frzRow (j:=jt) ?_
   refine au [2,2,3] ?_
   refine TK.rt hret [(jt,_),(0,_),(s,_),(h,_),(e,_)] ?_
   exact .inr (.inr ⟨hbar,hne,jt,[],by unfold shrI setI; rw [hcm,hsl2],by unfold shrI setI; rw [hcm,lR]⟩)
end Go.Vel
namespace Go.Vel
open Go Go.Conc
theorem xa (b:RBk) (l:List Int):∀ (o:List Int) (z z':Alloc),z.left<=z'.left->(o.foldl (allocM b l) z).left<=(o.foldl (allocM b l) z').left
 | [],z,z',h=>h
 | k::o,z,z',h=>by
  rw [List.foldl_cons,List.foldl_cons]
  refine xa b l o _ _ ?_
  show z.left - min z.left (cutS b l k.toNat).most<=z'.left - min z'.left (cutS b l k.toNat).most
  omega
theorem xU {b:RBk} {r r':Int} (h:r<=r') {l s:List Int} (hs:(hangM (atRound b r') l s).isSome=true):(hangM (atRound b r) l s).isSome=true:=by
 unfold hangM at hs ⊢
 by_cases hf:fitsM (atRound b r') l=false
 ·rw [if_pos hf] at hs; cases hs
 ·have hf':¬ fitsM (atRound b r) l=false:=hf
  rw [if_neg hf] at hs
  rw [if_neg hf']
  dsimp only at hs ⊢
  by_cases h0:0<(allocA (atRound b r') l (freshM (atRound b r') s)).left
  ·rw [if_pos h0] at hs; cases hs
  ·have hm:(allocA (atRound b r) l (freshM (atRound b r) s)).left<=(allocA (atRound b r') l (freshM (atRound b r') s)).left:=by
    refine xa b l (ordM b l) _ _ ?_
    show r - b.steps+_<=r' - b.steps+_
    omega
   rw [if_neg oQ]
   rfl
theorem jJ (b:RBk) (all:List (List Int)) (l:List Int):sqOk b all l=true↔∀ s∈all,(hangM b l s).isSome=true:=by
 unfold sqOk squaresM waysM
 have key:(all.filterMap (hangM b l)).length<all.length↔¬ ∀ s∈all,(hangM b l s).isSome=true:=by
  induction all with
  | nil=>simp
  | cons s r ih =>
   have hle:(r.filterMap (hangM b l)).length<=r.length:=List.length_filterMap_le _ _
   cases hs:hangM b l s with
   | none =>
    rw [List.filterMap_cons_none hs]
    simp [hs]
    omega
   | some z =>
    rw [List.filterMap_cons_some hs,lZ,lZ,Nat.succ_lt_succ_iff,ih]
    simp [hs]
 by_cases h:(all.filterMap (hangM b l)).length<all.length
 ·rw [if_pos h]
  simp only [Option.isSome_none,Bool.false_eq_true,false_iff]
  exact key.1 h
 ·rw [if_neg h]
  simp only [Option.isSome_some,true_iff]
  exact Classical.not_not.1 fun hh=>h (key.2 hh)
theorem xS {b:RBk} {all:List (List Int)} {r r':Int} (h:r<=r') (hc:canAt b all r'=true):canAt b all r=true:=by
 unfold canAt at hc ⊢
 rw [List.any_eq_true] at hc ⊢
 obtain ⟨c,h1,h2⟩:=hc
 refine ⟨c,h1,?_⟩
 rw [mX] at h2 ⊢
 refine ⟨h2.1,?_⟩
 rw [jJ] at *
 exact fun s hs=>xU h (h2.2 s hs)
theorem jK (b:RBk) (all:List (List Int)):∀ k,(∀ n,widestL b all k=some n->b.steps<=n/\n<b.steps+k/\canAt b all n=true/\∀ r,n<r->r<b.steps+k->canAt b all r=false)/\(widestL b all k=none->∀ r,b.steps<=r->r<b.steps+k->canAt b all r=false)
 | 0=>⟨(fun n h=>by cases h),(fun _ r h1 h2=>by omega)⟩
 | k+1=>by
  obtain ⟨i1,i2⟩:=jK b all k
  unfold widestL
  by_cases hc:canAt b all (b.steps+k)=true
  ·rw [if_pos hc]
   refine ⟨fun n h=>?_,fun h=>by cases h⟩
   cases h
   exact ⟨by omega,oQ,hc,fun r h1 h2=>by omega⟩
  ·rw [if_neg hc]
   have hc:canAt b all (b.steps+k)=false:=by simpa using hc
   refine ⟨fun n h=>?_,fun h r h1 h2=>?_⟩
   ·obtain ⟨q1,q2,q3,q4⟩:=i1 n h
    refine ⟨q1,oQ,q3,fun r h1 h2=>?_⟩
    by_cases e:r=b.steps+k
    ·rw [e]; exact hc
    ·exact q4 r h1 oQ
   ·by_cases e:r=b.steps+k
    ·rw [e]; exact hc
    ·exact i2 h r h1 oQ
theorem xf {b:RBk} {all:List (List Int)} (h2:b.steps<=40) {r:Int} (h0:b.steps<=r) (h1:r<=40):canAt b all r=((widestM b all).isSome&&decide (r<=(widestM b all).getD 0)):=by
 obtain ⟨i1,i2⟩:=jK b all (41 - b.steps).toNat
 unfold widestM
 cases h:widestL b all (41 - b.steps).toNat with
 | none =>
  rw [i2 h r h0 oQ]; rfl
 | some n =>
  obtain ⟨q1,q2,q3,q4⟩:=i1 n h
  show canAt b all r=(true&&decide (r<=n))
  rw [Bool.true_and]
  by_cases hr:r<=n
  ·rw [decide_eq_true hr]
   exact xS hr q3
  ·rw [decide_eq_false hr]
   exact q4 r oQ oQ
theorem qk {b:RBk} {all:List (List Int)} (h2:b.steps<=40) {n:Int} (h:widestM b all=some n):b.steps<=n/\n<=40:=by
 obtain ⟨i1,_⟩:=jK b all (41 - b.steps).toNat
 obtain ⟨q1,q2,_⟩:=i1 n h
 omega
theorem qm:∀ m:Fin 6,∀ k:Fin 5,k.1<m.1->zw (2 ^ k.1) m.1=[(k.1:Int)]:=by decide
theorem x6:∀ i,zw 0 i=[]
 | 0=>rfl
 | i+1=>by unfold zw; rw [x6 i,Nat.zero_div]; rfl
theorem jX (c m:Nat):∀ i,i<=m->zw (c % 2 ^ m) i=zw c i
 | 0,_=>rfl
 | i+1,h=>by
  unfold zw
  rw [jX c m i oQ]
  have h1:=Nat.testBit_mod_two_pow c m i
  rw [Nat.testBit_eq_decide_div_mod_eq,Nat.testBit_eq_decide_div_mod_eq,decide_eq_true (show i<m by omega),Bool.true_and] at h1
  have h2:(c % 2 ^ m / 2 ^ i % 2=1)=(c / 2 ^ i % 2=1):=propext (by simpa using h1)
  simp only [h2]
def otherM (c n:Nat):List Int:=if zw c n=[] then [((c % n:Nat):Int)] else zw c n
theorem xW {c n:Nat} (h1:1<=n) (h5:n<=5):∃ d,0<d/\d<2 ^ n/\otherM c n=zw d n:=by
 unfold otherM
 split
 ·have hm:=Nat.mod_lt c h1
  exact ⟨2 ^ (c % n),Nat.two_pow_pos _,Nat.pow_lt_pow_right dQ hm,(qm ⟨n,oQ⟩ ⟨c % n,oQ⟩ hm).symm⟩
 ·rename_i h
  refine ⟨c % 2 ^ n,?_,Nat.mod_lt _ (Nat.two_pow_pos _),(jX c n n (mL _)).symm⟩
  rcases Nat.eq_zero_or_pos (c % 2 ^ n) with h0 | h0
  ·exact absurd (by rw [<- jX c n n (mL _),h0]; exact x6 n) h
  ·exact h0
theorem jW (x:List Int):smallerM x x=false:=by
 cases h:smallerM x x with
 | false=>rfl
 | true=>rw [kJ,zf4] at h; omega
theorem ql {b:RBk} {all:List (List Int)} {c d:Nat} (h:PlanA b all cheaperM c) (h0:0<d) (h1:d<2 ^ b.seams.length) (hs:sqOk b all (zw d b.seams.length)=true):sqHi b all (zw c b.seams.length)<=sqHi b all (zw d b.seams.length)/\(sqHi b all (zw c b.seams.length)<sqHi b all (zw d b.seams.length)\/smallerM (zw d b.seams.length) (zw c b.seams.length)=false):=by
 rcases h.2.2.2 d h0 h1 hs with e | e
 ·obtain ⟨e1,e2⟩:=Prod.mk.inj e
  exact ⟨by omega,.inr (by rw [e1]; exact jW _)⟩
 ·rw [kT] at e
  dsimp only at e
  rcases e with e | ⟨e,e2⟩
  ·exact ⟨by omega,.inl e⟩
  ·exact ⟨by omega,.inr (ziE e2)⟩
theorem qK {b:RBk} {all:List (List Int)} {c d:Nat} (h:PlanA b all shorterM c) (h0:0<d) (h1:d<2 ^ b.seams.length) (hs:sqOk b all (zw d b.seams.length)=true):smallerM (zw d b.seams.length) (zw c b.seams.length)=false:=by
 rcases h.2.2.2 d h0 h1 hs with e | e
 ·rw [(Prod.mk.inj e).1]; exact jW _
 ·exact ziE e
theorem jG {b:RBk} {all:List (List Int)} {c:Nat} {bt:List Int×Int->List Int×Int->Bool} (h:PlanA b all bt c) (hn:NoPlan b all):False:=by
 have:=hn c h.1 h.2.1
 rw [h.2.2.1] at this
 cases this
theorem xx {b:RBk}:∀ (l:List RSeam) (last:Int),(∀ s∈l,seamB b s=true/\last<s.step)->(l.Pairwise fun s t=>s.step<t.step)->seamsL b last l=0
 | [],_,_,_=>rfl
 | s::r,last,h,hp=>by
  obtain ⟨p1,p2⟩:=List.pairwise_cons.1 hp
  have h1:=h s sQ
  unfold seamsL
  rw [if_neg (by rw [h1.1]; decide),if_neg oQ]
  exact xx r _ (fun t ht=>⟨(h t (by simp [ht])).1,p1 t ht⟩) p2
theorem xk {b:RBk}:∀ (l:List RBand) (i:Nat),(∀ k x,l[k]? =some x->bandB x=true/\x.high<wideM b (i+k))->clothsL b i l=0
 | [],_,_=>rfl
 | x::r,i,h=>by
  have h1:=h 0 x rfl
  unfold clothsL
  rw [if_neg (by rw [h1.1]; decide),if_neg (by have:=h1.2; rw [Nat.add_zero] at this; omega)]
  exact xk r _ fun k y hy=>by
   have:=h (k+1) y (by simpa using hy)
   rwa [show i+(k+1)=i+1+k by omega] at this
theorem xL {b:RBk}:∀ (l:List RMeas),(∀ m∈l,0<=m.cloth/\m.cloth<b.seams.length/\1<=m.many/\m.many<=b.seams.length/\0<=m.wide/\m.wide<=24)->measL b l=0
 | [],_=>rfl
 | m::r,h=>by
  have h1:=h m sQ
  have h2:thereM b m.cloth=0:=by unfold thereM; rw [if_pos (by simp [betw]; omega)]
  have h3:measB b m=true:=by simp only [measB,betw,mX,decide_eq_true_eq]; omega
  unfold measL
  rw [if_neg (by rw [h2]; decide),if_neg (by rw [h3]; decide)]
  exact xL r fun y hy=>h y (by simp [hy])
theorem xw {b:RBk} (h:ROk b):zr b=0:=by
 have hr:=h.rnd
 have h1:roundsM b=0:=by
  unfold roundsM
  rw [if_pos]
  simp only [betw,mX,decide_eq_true_eq]
  exact ⟨⟨⟨hr.steps,hr.round⟩,hr.roll⟩,hr.rolls⟩
 have hs:=h.sms
 have sat:∀ i,(hi:i<b.seams.length)->b.seams[i]=sm b i:=fun i hi=>by
  have:=yV hi
  rw [lA hi] at this
  exact Option.some.inj this
 have h2:seamsM b=0:=by
  have hbl:betw b.seams.length 1 5=true:=by
   have:=hs.len
   simp only [betw,mX,decide_eq_true_eq]
   omega
  unfold seamsM
  rw [if_neg (by rw [hbl]; decide)]
  refine xx _ _ (fun s hm=>?_) (List.pairwise_iff_getElem.2 fun i j hi hj hij=>by rw [sat i hi,sat j hj]; exact hs.asc i j hij hj)
  obtain ⟨i,hi,rfl⟩:=List.getElem_of_mem hm
  rw [sat i hi]
  have:=hs.fld i hi
  exact ⟨by simp only [seamB,betw,mX,decide_eq_true_eq]; omega,oQ⟩
 have h3:clothsM b=0:=by
  unfold clothsM
  rw [if_neg (by rw [h.cls.len]; simp)]
  refine xk _ _ fun k x hx=>?_
  have hk:k<b.shrinks.length:=by
   rcases mR k b.shrinks.length with h | h
   ·exact h
   ·rw [List.getElem?_eq_none h] at hx; cases hx
  rw [ko hk] at hx
  cases hx
  have:=h.cls.bnd k (by have:=h.cls.len; omega)
  exact ⟨by simp only [bandB,isBd,mX,decide_eq_true_eq]; omega,by rw [mO]; exact this.2.2.2.2⟩
 have h4:measM b=0:=by
  unfold measM
  have:=h.mes.len
  rw [if_neg oQ]
  exact xL _ h.mes.bnd
 unfold zr
 rw [if_neg (by rw [h1]; decide),if_neg (by rw [h2]; decide),if_neg (by rw [h3]; decide)]
 exact h4
def sumF (f:Nat->Int):Nat->Int
 | 0=>0
 | k+1=>sumF f k+f k
def needM (b:RBk) (l w:List Int) (k:Nat):Int:=sumF (fun i=>(cutS b l i).spoil+w.getD i 0*(cutS b l i).busy) k
def manyM (b:RBk) (l:List Int) (i:Nat):Int:=if i+1<l.length then zN l (i+1) - zN l i else zN l 0 - zN l i+b.seams.length
def nowS (b:RBk) (s:List Int) (x:Nat):Int:=sumF (nowM b s) x
def fS (f:Int->Int):List Int->Int
 | []=>0
 | k::o=>f k+fS f o
def gC (m c:Int->Int):List Int->Int->Int
 | [],_=>0
 | k::o,n=>min n (m k)*c k+gC m c o (n - min n (m k))
def pw:Nat->Int
 | 0=>10000
 | 1=>1000
 | 2=>100
 | 3=>10
 | _=>1
def wgt (b:RBk) (l:List Int) (k:Int):Int:=(cutS b l k.toNat).busy*1000000+pw k.toNat
def mostS (b:RBk) (l:List Int) (k:Nat):Int:=sumF (fun i=>(cutS b l i).most) k
def numW (x:List Int) (n:Nat):Int:=sumF (fun i=>x.getD i 0*pw i) n
theorem xK:∀ (r:List Int) (x:Int),r.foldl min x<=x/\(∀ y∈r,r.foldl min x<=y)/\(r.foldl min x=x\/r.foldl min x∈r)
 | [],x=>⟨Int.le_refl _,fun y hy=>(by cases hy),.inl rfl⟩
 | z::r,x=>by
  obtain ⟨h1,h2,h3⟩:=xK r (min x z)
  rw [List.foldl_cons]
  refine ⟨by omega,fun y hy=>?_,?_⟩
  ·rcases lI.1 hy with rfl | hy
   ·omega
   ·exact h2 y hy
  ·rcases h3 with h3 | h3
   ·rw [h3]
    by_cases e:x<=z
    ·left; omega
    ·right; rw [Int.min_eq_right oQ]; simp
   ·right; simp [h3]
theorem xJ:∀ (r:List Int) (x:Int),x<=r.foldl max x/\(∀ y∈r,y<=r.foldl max x)/\(r.foldl max x=x\/r.foldl max x∈r)
 | [],x=>⟨Int.le_refl _,fun y hy=>(by cases hy),.inl rfl⟩
 | z::r,x=>by
  obtain ⟨h1,h2,h3⟩:=xJ r (max x z)
  rw [List.foldl_cons]
  refine ⟨by omega,fun y hy=>?_,?_⟩
  ·rcases lI.1 hy with rfl | hy
   ·omega
   ·exact h2 y hy
  ·rcases h3 with h3 | h3
   ·rw [h3]
    by_cases e:z<=x
    ·left; omega
    ·right; rw [Int.max_eq_right oQ]; simp
   ·right; simp [h3]
theorem jR {xs:List Int} (hne:xs≠[]):(∀ y∈xs,(spreadM xs).1<=y/\y<=(spreadM xs).2)/\(spreadM xs).1∈xs/\(spreadM xs).2∈xs:=by
 cases xs with
 | nil=>exact absurd rfl hne
 | cons x r =>
  obtain ⟨a1,a2,a3⟩:=xK r x
  obtain ⟨c1,c2,c3⟩:=xJ r x
  show (∀ y∈x::r,r.foldl min x<=y/\y<=r.foldl max x)/\r.foldl min x∈x::r/\r.foldl max x∈x::r
  refine ⟨fun y hy=>?_,?_,?_⟩
  ·rcases lI.1 hy with rfl | hy
   ·exact ⟨a1,c1⟩
   ·exact ⟨a2 y hy,c2 y hy⟩
  ·rcases a3 with h | h
   ·rw [h]; simp
   ·simp [h]
  ·rcases c3 with h | h
   ·rw [h]; simp
   ·simp [h]
theorem sq_in {b:RBk} {all:List (List Int)} {l:List Int} (hne:all≠[]) (h:sqOk b all l=true):(∀ s∈all,∀ w q,hangM b l s=some (w,q)->sqLo b all l<=q/\q<=sqHi b all l)/\(∃ s∈all,∃ w,hangM b l s=some (w,sqLo b all l))/\∃ s∈all,∃ w,hangM b l s=some (w,sqHi b all l):=by
 have hall:=(jJ b all l).1 h
 have hlt:¬ (waysM b all l).length<all.length:=fun hh=>by
  unfold sqOk squaresM at h
  rw [if_pos hh] at h
  cases h
 have e:squaresM b all l=some (spreadM ((waysM b all l).map (·.2))):=by unfold squaresM; rw [if_neg hlt]
 have hnn:(waysM b all l).map (·.2)≠[]:=fun hh=>by
  have h1:=congrArg List.length hh
  rw [lJ] at h1
  have h2:0<all.length:=List.length_pos_iff.2 hne
  simp only [List.length_nil] at h1
  omega
 obtain ⟨g1,g2,g3⟩:=jR hnn
 unfold sqLo sqHi
 rw [e]
 show (∀ s∈all,∀ w q,hangM b l s=some (w,q)->(spreadM _).1<=q/\q<=(spreadM _).2)/\(∃ s∈all,∃ w,hangM b l s=some (w,(spreadM _).1))/\∃ s∈all,∃ w,hangM b l s=some (w,(spreadM _).2)
 have back:∀ q,q∈(waysM b all l).map (·.2)->∃ s∈all,∃ w,hangM b l s=some (w,q):=fun q hq=>by
  obtain ⟨⟨w,q'⟩,hz,rfl⟩:=lY.1 hq
  obtain ⟨s,hs,hz⟩:=List.mem_filterMap.1 hz
  exact ⟨s,hs,w,hz⟩
 exact ⟨fun s hs w q hq=>g1 q (lY.2 ⟨(w,q),List.mem_filterMap.2 ⟨s,hs,hq⟩,rfl⟩),back _ g2,back _ g3⟩
structure Wider (b o:RBk):Prop where
 steps:o.steps=b.steps
 round:o.round=b.round
 roll:b.roll<=o.roll
 rolls:b.rolls<=o.rolls
 len:o.seams.length=b.seams.length
 shr:o.shrinks=b.shrinks
 mes:o.measures=b.measures
 sm:∀ i,i<b.seams.length->(sm o i).step=(sm b i).step/\(sm o i).busy=(sm b i).busy/\(sm o i).spoil=(sm b i).spoil/\(sm o i).whole=(sm b i).whole/\(sm b i).most<=(sm o i).most
theorem Wider.wide {b o:RBk} (h:Wider b o) {i:Nat} (hi:i<b.seams.length):wideM o i=wideM b i:=by
 unfold wideM
 rw [h.len,h.steps,(h.sm i hi).1,(h.sm 0 oQ).1]
 by_cases e:i+1<b.seams.length
 ·rw [if_pos e,if_pos e,(h.sm _ e).1]
 ·rw [if_neg e,if_neg e]
theorem Wider.st {b o:RBk} (h:Wider b o) {s:List Int} (hs:StOk b s):StOk o s:=⟨by rw [h.len]; exact hs.len,fun i hi=>by
 rw [h.len] at hi
 rw [h.wide hi]
 exact hs.bnd i hi⟩
theorem qH {b:RBk} {l:List Int} (hne:zf b≠[]):(canM b l=1↔∀ s∈zf b,(hangM b l s).isSome=true)/\(canM b l=2↔∀ s∈zf b,hangM b l s=none):=by
 have hpos:0<(zf b).length:=List.length_pos_iff.2 hne
 have hle:=zd1 b (zf b) l
 have k1:(waysM b (zf b) l).length=(zf b).length↔∀ s∈zf b,(hangM b l s).isSome=true:=by
  rw [<- jJ]
  unfold sqOk squaresM
  by_cases h:(waysM b (zf b) l).length<(zf b).length
  ·rw [if_pos h]; simp; omega
  ·rw [if_neg h]; simp; omega
 have k2:(waysM b (zf b) l).length=0↔∀ s∈zf b,hangM b l s=none:=by
  rw [List.length_eq_zero_iff]
  unfold waysM
  rw [List.filterMap_eq_nil_iff]
 unfold canM
 by_cases e1:(waysM b (zf b) l).length=(zf b).length
 ·rw [if_pos e1]
  refine ⟨⟨fun _=>k1.1 e1,fun _=>rfl⟩,⟨fun h=>(by cases h),fun h=>?_⟩⟩
  have:=k2.2 h
  omega
 ·rw [if_neg e1]
  by_cases e2:(waysM b (zf b) l).length=0
  ·rw [if_pos e2]
   exact ⟨⟨fun h=>(by cases h),fun h=>absurd (k1.2 h) e1⟩,⟨fun _=>k2.1 e2,fun _=>rfl⟩⟩
  ·rw [if_neg e2]
   exact ⟨⟨fun h=>(by cases h),fun h=>absurd (k1.2 h) e1⟩,⟨fun h=>(by cases h),fun h=>absurd (k2.2 h) e2⟩⟩
def preS (b:RBk):Nat->List (List Int)
 | 0=>[[]]
 | i+1=>(preS b i).flatMap fun p=>(numsM (bd b i)).map fun n=>p++[n]
def extL:List (List Int)->List RBand->List (List Int)
 | L,[]=>L
 | L,x::r=>extL (L.flatMap fun p=>(numsM x).map fun n=>p++[n]) r
theorem jY (b:RBk):∀ (r:List RBand) (L:List (List Int)),(L.flatMap fun p=>fromM b p r)=(extL L r).filter (rightM b)
 | [],L=>by
  unfold extL
  induction L with
  | nil=>rfl
  | cons p L ih =>
   rw [List.flatMap_cons,ih]
   unfold fromM
   by_cases h:rightM b p=true
   ·rw [if_pos h,List.filter_cons_of_pos h]; rfl
   ·rw [if_neg h,List.filter_cons_of_neg h]; rfl
 | x::r,L=>by
  have key:∀ p,fromM b p (x::r)=(numsM x).flatMap fun n=>fromM b (p++[n]) r:=fun p=>by
   conv=>lhs; unfold fromM
  unfold extL
  rw [<- jY b r]
  induction L with
  | nil=>rfl
  | cons p L ih=>rw [List.flatMap_cons,ih,List.flatMap_cons,List.flatMap_append,List.flatMap_map,key]
def leavesL (all:List (List Int)) (i:Nat) (low:Int):Nat->Int
 | 0=>0
 | k+1=>max (leavesL all i low k) (cntM all i (low+k))
def leavesM (b:RBk) (i:Nat):Int:=leavesL (zf b) i (bd b i).low ((bd b i).high+1 - (bd b i).low).toNat
theorem qA {φ:Nat->Loc3} {A:List AObj} {F H:Hp} (h:RelH φ A F H) {j:Nat} {l z:List AV} {e:TypeId} (hj:A[j]? =some (.cells (l++z) e false)):RelH φ (A.set j (.cells l e false)) F H:=by
 have hg:∀ t w,(A.set j (.cells l e false))[t]? =some w->(t=j/\w=.cells l e false)\/(t≠j/\A[t]? =some w):=fun t w ht=>by
  rw [lX] at ht
  split at ht
  ·rename_i e'
   split at ht
   ·cases ht; exact .inl ⟨e'.symm,rfl⟩
   ·cases ht
  ·rename_i e'
   exact .inr ⟨fun h=>e' h.symm,ht⟩
 have hne:l≠[]->l++z≠[]:=fun hl he=>hl (List.append_eq_nil_iff.1 he).1
 refine ⟨fun t w ht=>?_,fun t t' w w' ht ht' hn he hl s1 s2=>?_,h.fr,fun t w ht he hs=>?_⟩
 ·rw [List.length_set]
  rcases hg t w ht with ⟨rfl,rfl⟩ | ⟨_,h2⟩
  ·intro hl
   obtain ⟨r,cur,q,h1,_,h3⟩:=h.obj t _ hj (hne hl)
   exact ⟨r,cur,q,h1,(fun h=>by cases h),fun i a ha=>h3 i a (by
    obtain ⟨hi,_⟩:=List.getElem?_eq_some_iff.1 ha
    rw [List.getElem?_append_left hi]; exact ha)⟩
  ·exact h.obj t w h2
 ·rcases hg t w ht with ⟨rfl,rfl⟩ | ⟨_,h2⟩
  ·cases he
  ·rcases hg t' w' ht' with ⟨rfl,rfl⟩ | ⟨_,h2'⟩
   ·exact h.apart t t' w _ h2 hj hn he rfl s1 (hne s2)
   ·exact h.apart t t' w w' h2 h2' hn he hl s1 s2
 ·rcases hg t w ht with ⟨rfl,rfl⟩ | ⟨_,h2⟩
  ·cases he
  ·exact h.frx t w h2 he hs
section
variable {P:Program} {gm:Nat->Option Nat} {T:Goroutine->Hp->Prop} {Y:KX P gm T} {ds:List Nat} {k:List Item} {env:List AV} {K K':KV}
theorem TK.cutC {j:Nat} {l z:List AV} {e:TypeId} (h:TK Y ds k env K') (hu:Upd K j (.cells (l++z) e false) j (.cells l e false) K':=by repeat (first | exact Upd.head | apply Upd.tail)):TK Y ds k env K:=fun A hA φ H ts h1 h2 h3 h4 h5 h6=>by
 have hj:=hA.view.get hu.mem
 have hl:(A.set j (.cells l e false)).length=A.length:=by simp
 exact h _ (hA.step (.set hA.view hA.nd hu)) φ H ts h1 (by rw [hl]; exact h2) (by rw [hl]; exact h3) (by rw [hl]; exact h4) (qA h5 hj) (by rw [hl]; exact h6)
end
def ji (b:RBk) (sh:List RBand) (me:List RMeas):RBk:={ b with shrinks:=sh,measures:=me }
theorem xr (b:RBk) (sh:List RBand) (me:List RMeas) (l:List Int):∀ k,spoilM (ji b sh me) l k=spoilM b l k
 | 0=>rfl
 | k+1=>by
  unfold spoilM
  rw [xr b sh me l k]; rfl
theorem xF (b:RBk) (sh:List RBand) (me:List RMeas):hangM (ji b sh me)=hangM b:=by
 funext l s
 have h0:allocA (ji b sh me) l (freshM b s)=allocA b l (freshM b s):=by
  unfold allocA alloc0
  rw [xr]; rfl
 unfold hangM
 rw [show fitsM (ji b sh me) l=fitsM b l from rfl,show freshM (ji b sh me) s=freshM b s from rfl,h0]
theorem ch_sq (b:RBk) (sh:List RBand) (me:List RMeas) (all:List (List Int)) (l:List Int):squaresM (ji b sh me) all l=squaresM b all l:=by
 unfold squaresM waysM
 rw [xF]
theorem ch_ok (b:RBk) (sh:List RBand) (me:List RMeas) (all:List (List Int)) (l:List Int):sqOk (ji b sh me) all l=sqOk b all l:=by
 unfold sqOk
 rw [ch_sq]
theorem ch_hi (b:RBk) (sh:List RBand) (me:List RMeas) (all:List (List Int)) (l:List Int):sqHi (ji b sh me) all l=sqHi b all l:=by
 unfold sqHi
 rw [ch_sq]
theorem ch_at (b:RBk) (sh:List RBand) (me:List RMeas) (all:List (List Int)) (r:Int):canAt (ji b sh me) all r=canAt b all r:=by
 unfold canAt
 show (List.range (2 ^ b.seams.length)).any _=_
 congr 1
 funext c
 show (decide (0<c)&&sqOk (ji (atRound b r) sh me) all _)=_
 rw [ch_ok]; rfl
theorem xg (b:RBk) (sh:List RBand) (me:List RMeas) (all:List (List Int)):widestM (ji b sh me) all=widestM b all:=by
 have key:∀ k,widestL (ji b sh me) all k=widestL b all k:=fun k=>by
  induction k with
  | zero=>rfl
  | succ k ih =>
   unfold widestL
   rw [ih]
   show (if canAt (ji b sh me) all (b.steps+k)=true then some (b.steps+k) else _)=_
   rw [ch_at]
 exact key _
theorem xG (b:RBk) (sh:List RBand) (me:List RMeas) {all:List (List Int)} {bt:List Int×Int->List Int×Int->Bool} {c:Nat} (h:PlanA (ji b sh me) all bt c):PlanA b all bt c:=by
 obtain ⟨h1,h2,h3,h4⟩:=h
 refine ⟨h1,h2,(ch_ok b sh me all _).symm.trans h3,fun d a1 a2 a3=>?_⟩
 have:=h4 d a1 a2 ((ch_ok b sh me all _).trans a3)
 simp only [ch_hi] at this
 exact this
theorem ch_no (b:RBk) (sh:List RBand) (me:List RMeas) {all:List (List Int)} (h:NoPlan (ji b sh me) all):NoPlan b all:=fun d a1 a2=>(ch_ok b sh me all _).symm.trans (h d a1 a2)
section
variable {b:RBk} {all al2:List (List Int)} {l:List Int}
theorem xc (hne:al2≠[]) (hsub:∀ s∈al2,s∈all) (h:sqOk b all l=true):sqOk b al2 l=true/\sqLo b all l<=sqLo b al2 l/\sqHi b al2 l<=sqHi b all l:=by
 have hn:all≠[]:=fun e=>by
  cases al2 with
  | nil=>exact hne rfl
  | cons x r=>have:=hsub x sQ; rw [e] at this; cases this
 have h1:=(jJ b all l).1 h
 have h2:sqOk b al2 l=true:=(jJ b al2 l).2 fun s hs=>h1 s (hsub s hs)
 obtain ⟨a1,_,_⟩:=sq_in hn h
 obtain ⟨_,⟨s1,m1,w1,e1⟩,s2,m2,w2,e2⟩:=sq_in hne h2
 exact ⟨h2,(a1 s1 (hsub s1 m1) w1 _ e1).1,(a1 s2 (hsub s2 m2) w2 _ e2).2⟩
theorem qo (hne:al2≠[]) (hsub:∀ s∈al2,s∈all) {c:Nat} {bt:List Int×Int->List Int×Int->Bool} (hp:PlanA b all bt c):¬ NoPlan b al2:=fun hn=>by
 have h1:=hn c hp.1 hp.2.1
 rw [(xc hne hsub hp.2.2.1).1] at h1
 cases h1
theorem xT (hne:al2≠[]) (hsub:∀ s∈al2,s∈all) {c d:Nat} (hp:PlanA b all cheaperM c) (hq:PlanA b al2 cheaperM d):sqHi b al2 (zw d b.seams.length)<=sqHi b all (zw c b.seams.length):=by
 obtain ⟨h1,_,h2⟩:=xc hne hsub hp.2.2.1
 have h3:=(ql (d:=c) hq hp.1 hp.2.1 h1).1
 omega
theorem qd (hne:al2≠[]) (hsub:∀ s∈al2,s∈all) {c d:Nat} (hp:PlanA b all shorterM c) (hq:PlanA b al2 shorterM d):(zw d b.seams.length).length<=(zw c b.seams.length).length:=by
 have h1:=(xc hne hsub hp.2.2.1).1
 have h3:=qK (d:=c) hq hp.1 hp.2.1 h1
 rcases mR (zw c b.seams.length).length (zw d b.seams.length).length with hlt | hge
 ·have:smallerM (zw c b.seams.length) (zw d b.seams.length)=true:=(kJ _ _).2 (.inl hlt)
  rw [h3] at this
  cases this
 ·exact hge
theorem qc (hne:al2≠[]) (hsub:∀ s∈al2,s∈all) {r:Int} (hc:canAt b all r=true):canAt b al2 r=true:=by
 unfold canAt at hc ⊢
 rw [List.any_eq_true] at hc ⊢
 obtain ⟨c,c1,c2⟩:=hc
 rw [mX] at c2
 refine ⟨c,c1,?_⟩
 rw [mX]
 exact ⟨c2.1,(xc hne hsub c2.2).1⟩
theorem jM (hb:ROk b) (hne:al2≠[]) (hsub:∀ s∈al2,s∈all) (hs:(widestM b all).isSome=true):(widestM b al2).isSome=true/\(widestM b all).getD 0<=(widestM b al2).getD 0:=by
 have hst:=hb.rnd.steps
 obtain ⟨n,hn⟩:=Option.isSome_iff_exists.1 hs
 have hbd:=qk oQ hn
 have hc:=xf (b:=b) (all:=all) oQ hbd.1 hbd.2
 rw [hn] at hc
 simp only [Option.isSome_some,Option.getD_some,Int.le_refl,decide_true,Bool.and_true] at hc
 have hco:=qc hne hsub hc
 rw [xf (b:=b) oQ hbd.1 hbd.2,mX,decide_eq_true_eq] at hco
 rw [hn]
 exact hco
end
theorem xq (b:RBk) (l:List Int) (hne:zf b≠[]):(canM b l=1↔∀ s∈zf b,(hangM b l s).isSome=true)/\(canM b l=2↔∀ s∈zf b,hangM b l s=none):=qH hne
theorem x8 (b:RBk) (l:List Int):canM b l=0\/canM b l=1\/canM b l=2:=by
 unfold canM
 split
 ·exact .inr (.inl rfl)
 ·split
  ·exact .inr (.inr rfl)
  ·exact .inl rfl
theorem qJ {b:RBk} {sh:List RBand} {me:List RMeas} {l:List Int} (hne:zf (ji b sh me)≠[]) (hsub:∀ s∈zf (ji b sh me),s∈zf b):canM b l=0\/canM (ji b sh me) l=canM b l:=by
 have hn:zf b≠[]:=fun e=>by
  cases h:zf (ji b sh me) with
  | nil=>exact hne h
  | cons x r=>have:=hsub x (by rw [h]; simp); rw [e] at this; cases this
 have hb:=xq b l hn
 have ho:=xq (ji b sh me) l hne
 rw [xF] at ho
 rcases x8 b l with h | h | h
 ·exact .inl h
 ·right; rw [h]; exact ho.1.2 fun s hs=>hb.1.1 h s (hsub s hs)
 ·right; rw [h]; exact ho.2.2 fun s hs=>hb.2.1 h s (hsub s hs)
theorem qL {b:RBk} {sh:List RBand} {me:List RMeas} (hne:zf (ji b sh me)≠[]) (hsub:∀ s∈zf (ji b sh me),s∈zf b):(newM b).1<=(newM (ji b sh me)).1/\(newM (ji b sh me)).2<=(newM b).2:=by
 have hn:zf b≠[]:=fun e=>by
  cases h:zf (ji b sh me) with
  | nil=>exact hne h
  | cons x r=>have:=hsub x (by rw [h]; simp); rw [e] at this; cases this
 obtain ⟨h1,_,_⟩:=jR (xs:=(zf b).map (freshM b)) (by simpa using hn)
 obtain ⟨_,h2,h3⟩:=jR (xs:=(zf (ji b sh me)).map (freshM (ji b sh me))) (by simpa using hne)
 have key:∀ y∈(zf (ji b sh me)).map (freshM (ji b sh me)),y∈(zf b).map (freshM b):=fun y hy=>by
  obtain ⟨s,hs,rfl⟩:=lY.1 hy
  exact lY.2 ⟨s,hsub s hs,rfl⟩
 exact ⟨(h1 _ (key _ h2)).1,(h1 _ (key _ h3)).2⟩
theorem qM {b:RBk} {sh:List RBand} {me:List RMeas} (hsub:∀ s∈zf (ji b sh me),s∈zf b) (n:Int):∀ z∈shrI (ji b sh me) n,z∈shrI b n:=fun z hz=>by
 obtain ⟨s,hs,h⟩:=xz.1 hz
 exact xz.2 ⟨s,hsub s hs,h⟩
theorem qj (b:RBk) (sh:List RBand) (me:List RMeas) (s:List Int) (c:Nat):∀ k,togM (ji b sh me) s c k=togM b s c k
 | 0=>rfl
 | k+1=>by
  show togM (ji b sh me) s c k+_=togM b s c k+_
  rw [qj b sh me s c k]; rfl
theorem qB (b:RBk) (sh:List RBand) (me:List RMeas) (s:List Int):rightM (ji b sh me) s=me.all fun m=>decide (togM b s m.cloth.toNat m.many.toNat=m.wide):=by
 unfold rightM
 show me.all _=_
 congr 1
 funext m
 rw [qj]
theorem jP (n:Int):∀ (j k:Nat),numsF n (j+k)=numsF n j++numsF (n+j) k
 | 0,k=>by rw [mO,show n+((0:Nat):Int)=n by omega]; rfl
 | j+1,k=>by
  rw [show j+1+k=(j+k)+1 by omega]
  show n::numsF (n+1) (j+k)=n::(numsF (n+1) j++_)
  rw [jP (n+1) j k,show n+1+(j:Int)=n+((j+1:Nat):Int) by omega]
theorem qx {x y:RBand} (h1:x.low<=y.low) (h2:y.high<=x.high):(numsM y).Sublist (numsM x):=by
 unfold numsM
 by_cases h:y.low<=y.high
 ·obtain ⟨j,hj⟩:=Int.eq_ofNat_of_zero_le (show 0<=y.low - x.low by omega)
  obtain ⟨k,hk⟩:=Int.eq_ofNat_of_zero_le (show 0<=x.high - y.high by omega)
  rw [show (x.high+1 - x.low).toNat=j+((y.high+1 - y.low).toNat+k) by omega,jP,jP,show x.low+(j:Int)=y.low by omega]
  exact (List.sublist_append_left _ _).trans (List.sublist_append_right _ _)
 ·rw [show (y.high+1 - y.low).toNat=0 by omega]
  exact List.nil_sublist _
theorem qr {α β:Type} {f g:α->List β} (h:∀ a,(f a).Sublist (g a)) {l m:List α} (hl:l.Sublist m):(l.flatMap f).Sublist (m.flatMap g):=by
 induction hl with
 | slnil=>exact List.Sublist.refl _
 | cons a _ ih=>rw [List.flatMap_cons]; exact ih.trans (List.sublist_append_right _ _)
 | cons_cons a _ ih=>rw [List.flatMap_cons,List.flatMap_cons]; exact (h a).append ih
theorem xI:∀ (r q:List RBand) (L M:List (List Int)),L.Sublist M->r.length=q.length->(∀ (i:Nat) (x y:RBand),r[i]? =some x->q[i]? =some y->y.low<=x.low/\x.high<=y.high)->(extL L r).Sublist (extL M q)
 | [],[],L,M,h,_,_=>h
 | x::r,y::q,L,M,h,hl,hi=>by
  have h0:=hi 0 x y rfl rfl
  exact xI r q _ _ (qr (fun p=>(qx h0.1 h0.2).map _) h) (by simpa using hl) fun i x' y' h1 h2=>hi (i+1) x' y' h1 h2
theorem xd {b:RBk} {sh:List RBand} {me:List RMeas} (hl:sh.length=b.shrinks.length) (hi:∀ (i:Nat) (x y:RBand),sh[i]? =some x->b.shrinks[i]? =some y->y.low<=x.low/\x.high<=y.high) (hm:∀ m∈b.measures,m∈me):(zf (ji b sh me)).Sublist (zf b):=by
 have e1:zf (ji b sh me)=(extL [[]] sh).filter (rightM (ji b sh me)):=by
  have:=jY (ji b sh me) sh [[]]
  rw [List.flatMap_cons,List.flatMap_nil,lR] at this
  exact this
 have e2:zf b=(extL [[]] b.shrinks).filter (rightM b):=by
  have:=jY b b.shrinks [[]]
  rw [List.flatMap_cons,List.flatMap_nil,lR] at this
  exact this
 rw [e1,e2]
 have h1:((extL [[]] sh).filter (rightM (ji b sh me))).Sublist ((extL [[]] sh).filter (rightM b)):=by
  have:(extL [[]] sh).filter (rightM (ji b sh me))=((extL [[]] sh).filter (rightM b)).filter (rightM (ji b sh me)):=by
   rw [List.filter_filter]
   congr 1
   funext s
   cases h:rightM (ji b sh me) s with
   | false=>rfl
   | true =>
    rw [qB,List.all_eq_true] at h
    have:rightM b s=true:=by
     unfold rightM
     rw [List.all_eq_true]
     exact fun m hx=>h m (hm m hx)
    rw [this]; rfl
  rw [this]
  exact List.filter_sublist
 exact h1.trans ((xI sh b.shrinks _ _ (List.Sublist.refl _) hl hi).filter _)
theorem xn {b:RBk} (hb:ROk b) {i:Nat} {z:RBand} (hi:i<b.shrinks.length) (h1:(bd b i).low<=z.low) (h2:z.low<=z.high) (h9:z.high<=(bd b i).high):ROk (driedB b i z):=by
 refine ⟨⟨hb.rnd.steps,hb.rnd.round,hb.rnd.roll,hb.rnd.rolls⟩,⟨hb.sms.len,hb.sms.fld,hb.sms.asc⟩,⟨?_,fun k hk=>?_⟩,⟨hb.mes.len,hb.mes.bnd⟩⟩
 ·show (b.shrinks.set i z).length=_
  rw [List.length_set]; exact hb.cls.len
 ·have hk':k<b.seams.length:=hk
  have hq:=hb.cls.bnd k hk'
  have hqi:=hb.cls.bnd i (by have:=hb.cls.len; omega)
  show 0<=(bd (driedB b i z) k).low/\(bd (driedB b i z) k).low<=(bd (driedB b i z) k).high/\(bd (driedB b i z) k).high<=5/\(bd (driedB b i z) k).high - (bd (driedB b i z) k).low<3/\(bd (driedB b i z) k).high<wideM b k
  have e:bd (driedB b i z) k=if i=k then z else bd b k:=by
   have h3:=ko (b:=driedB b i z) (i:=k) (by show k<(b.shrinks.set i z).length; rw [List.length_set,hb.cls.len]; exact hk')
   have h4:(b.shrinks.set i z)[k]? =some (bd (driedB b i z) k):=h3
   rw [lX] at h4
   by_cases e:i=k
   ·rw [if_pos e] at h4 ⊢
    rw [if_pos hi] at h4
    exact (Option.some.inj h4).symm
   ·rw [if_neg e] at h4 ⊢
    rw [ko (by rw [hb.cls.len]; exact hk')] at h4
    exact (Option.some.inj h4).symm
  rw [e]
  by_cases e:i=k
  ·subst e
   rw [if_pos rfl]
   omega
  ·rw [if_neg e]
   omega
theorem qb {b:RBk} {i:Nat} {z:RBand} (hi:i<b.shrinks.length) (h1:(bd b i).low<=z.low) (h9:z.high<=(bd b i).high):(zf (driedB b i z)).Sublist (zf b):=by
 refine xd (b:=b) (sh:=b.shrinks.set i z) (me:=b.measures) (List.length_set ..) (fun k x y hx hy=>?_) (fun m hm=>hm)
 rw [lX] at hx
 by_cases e:i=k
 ·rw [if_pos e,if_pos hi] at hx
  cases hx
  subst e
  rw [ko hi] at hy
  cases hy
  exact ⟨h1,h9⟩
 ·rw [if_neg e,hy] at hx
  cases hx
  exact ⟨Int.le_refl _,Int.le_refl _⟩
theorem xv (b:RBk) (m:RMeas):(zf (yd b m)).Sublist (zf b):=xd (b:=b) (sh:=b.shrinks) (me:=b.measures++[m]) rfl (fun k x y hx hy=>by rw [hx] at hy; cases hy; exact ⟨Int.le_refl _,Int.le_refl _⟩) (fun x hx=>lV _ hx)
theorem qz {n m:Nat} (h1:0<n) (h2:n<=m):betw (n:Int) 1 (m:Int)=true:=by simp [betw]; omega
end Go.Vel
namespace Go.Vel
open Go Go.Conc Go.Proofs
instance:EqG tp 49:={}
instance:EqG tp 94:={}
instance:FlatF tp 49 [(3,0),(3,1),(3,2)]:={}
instance:FlatF tp 94 [(3,0),(3,1),(3,2),(3,3),(4,4)]:={}
instance:Und tp 4 .bool:={}
theorem xN {main T} (hT:zo tp main T) {gm} {b:RBk} {s h e s2 h2 e2:Nat} (hl:b.seams.length<=100) (hl2:b.shrinks.length<=100) (hl3:b.measures.length<=100) :
  zA tp T gm 44 [.agg (zE b s h e),.agg (zE b s2 h2 e2)] [(s,zk b),(h,zB b),(e,zq b),(s2,zk b),(h2,zB b),(e2,zq b)] (fun r K'=>r=zP true/\K'=[(s,zk b),(h,zB b),(e,zq b),(s2,zk b),(h2,zB b),(e2,zq b)]):=by
 refine zp 115 hT Tryz.func44 fun Y hret=>?_
 refine au [4,5,21] ?_
 intro jb hjb
 refine au [21] ?_
 intro jc hjc
 refine au [2,3,4,4,5,7,9,7,9,6,1] ?_
 refine TK.sp 13 (fun g1_6=>?_) (fun g1_6=>?_)
 ·simp at g1_6
 refine au [7,9,7,9,6,25,1] ?_
 refine TK.sp 20 (fun g1_13=>?_) (fun g1_13=>?_)
 ·simp at g1_13
 refine au [7,9,7,9,6,25,1] ?_
 refine TK.sp 27 (fun g1_20=>?_) (fun g1_20=>?_)
 ·simp at g1_20
 refine au [7,9,7,9,6,25,1] ?_
 refine TK.sp 34 (fun g1_27=>?_) (fun g1_27=>?_)
 ·simp at g1_27
 refine au [7,9,28,7,9,28,6,25,1] ?_
 refine TK.sp 43 (fun g1_36=>?_) (fun g1_36=>?_)
 ·simp at g1_36
 refine au [7,9,28,7,9,28,6,25,1] ?_
 refine TK.sp 52 (fun g1_45=>?_) (fun g1_45=>?_)
 ·simp at g1_45
 refine au [7,9,28,7,9,28,6,25,3,20] ?_
 refine ⟨fun hc0=>?_,fun hc0=>?_⟩
 ·simp at hc0
 refine au [12,4,4,5,2,3,13] ?_
 refine TK.maskL [2,3,4,5] ?_
 refine TK.kp [(jb,_),(jc,_),(s,_),(h,_),(e,_),(s2,_),(h2,_),(e2,_)] ?_
 refine TK.loopN (fun n env K=>∃ (i:Nat),n=b.seams.length - i/\i<=b.seams.length/\env=naL 2 (.ptr jb 0::.ptr jc 0::zP false::intA i::naL 109 [])/\K=[(jb,.cells (zE b s h e) 26 true),(jc,.cells (zE b s2 h2 e2) 26 true),(s,zk b),(h,zB b),(e,zq b),(s2,zk b),(h2,zB b),(e2,zq b)]) b.seams.length ⟨0,rfl,mN _,rfl,rfl⟩ fun n env K hI hnext=>?_
 obtain ⟨i,rfl,hi,rfl,rfl⟩:=hI
 refine TK.na nQ ?_
 refine au [4,4,5,1,7,9,28,6,3,20] ?_
 refine ⟨fun hc1=>?_,fun hc1=>?_⟩
 ·have hil:i<b.seams.length:=by simp at hc1; omega
  obtain ⟨x,hx⟩:∃ x,b.seams[i]? =some x:=⟨_,lA hil⟩
  refine au [12,4,13,4] ?_
  refine TK.dr [0,1,2,3,4,5,6,7,8,9,10] [0,1,2,3,4,5,6,7,8,9,10] ?_
  refine TD.z [2] Z (zg Z Z zl.h dQ) ?_
  refine TD.y [68] Z (hq:=zm Z Z zi.h (mC _) Z) (h:=?_)
  refine TD.mv [5] ?_
  refine TD.ix [69,70] ?_
  refine TD.y [71] Z (hq:=z8 Z Z zi.h (mC _) (w9 (c:=5) (f:=seamC) (fun _=>rfl) hx rfl dQ)) (h:=?_)
  refine TD.z [3] Z (zg Z Z zl.h dQ) ?_
  refine TD.y [73] Z (hq:=zm Z Z zi.h (mC _) Z) (h:=?_)
  refine TD.mv [5] ?_
  refine TD.ix [74,75] ?_
  refine TD.y [76] Z (hq:=z8 Z Z zi.h (mC _) (w9 (c:=5) (f:=seamC) (fun _=>rfl) hx rfl dQ)) (h:=?_)
  refine TD.z [72,77] Z (uO Z Z Z Z Z FlatF.h EqG.h) ?_
  refine TD.fin ?_
  refine au [20] ?_
  refine ⟨fun hc2=>?_,fun hc2=>?_⟩
  ·simp at hc2
  refine au [12,14,5,1,23,2,3] ?_
  refine TK.maskL [2,3,4,5] ?_
  refine TK.kp [(jb,_),(jc,_),(s,_),(h,_),(e,_),(s2,_),(h2,_),(e2,_)] ?_
  exact hnext _ _ _ oQ ⟨i+1,rfl,oQ,rfl,rfl⟩
 obtain rfl:i=b.seams.length:=by simp at hc1; omega
 refine au [16,4,4,5,2,3,13] ?_
 refine TK.maskL [2,3,4,6] ?_
 refine TK.kp [(jb,_),(jc,_),(s,_),(h,_),(e,_),(s2,_),(h2,_),(e2,_)] ?_
 refine TK.loopN (fun n env K=>∃ (i:Nat),n=b.shrinks.length - i/\i<=b.shrinks.length/\env=naL 2 (.ptr jb 0::.ptr jc 0::zP false::.any::intA i::naL 108 [])/\K=[(jb,.cells (zE b s h e) 26 true),(jc,.cells (zE b s2 h2 e2) 26 true),(s,zk b),(h,zB b),(e,zq b),(s2,zk b),(h2,zB b),(e2,zq b)]) b.shrinks.length ⟨0,rfl,mN _,rfl,rfl⟩ fun n env K hI hnext=>?_
 obtain ⟨i,rfl,hi,rfl,rfl⟩:=hI
 refine TK.na nQ ?_
 refine au [4,4,5,1,7,9,28,6,3,20] ?_
 refine ⟨fun hc3=>?_,fun hc3=>?_⟩
 ·have hil:i<b.shrinks.length:=by simp at hc3; omega
  obtain ⟨x,hx⟩:∃ x,b.shrinks[i]? =some x:=⟨_,lA hil⟩
  refine au [12,4,13,4] ?_
  refine TK.dr [0,1,2,3,4,5,6,7,8,9,10] [0,1,2,3,4,5,6,7,8,9,10] ?_
  refine TD.z [2] Z (zg Z Z zl.h dQ) ?_
  refine TD.y [86] Z (hq:=zm Z Z zi.h (mC _) Z) (h:=?_)
  refine TD.mv [6] ?_
  refine TD.ix [87,88] ?_
  refine TD.y [89] Z (hq:=z8 Z Z zi.h (mC _) (w9 (c:=2) (f:=bandC) (fun _=>rfl) hx rfl dQ)) (h:=?_)
  refine TD.z [3] Z (zg Z Z zl.h dQ) ?_
  refine TD.y [91] Z (hq:=zm Z Z zi.h (mC _) Z) (h:=?_)
  refine TD.mv [6] ?_
  refine TD.ix [92,93] ?_
  refine TD.y [94] Z (hq:=z8 Z Z zi.h (mC _) (w9 (c:=2) (f:=bandC) (fun _=>rfl) hx rfl dQ)) (h:=?_)
  refine TD.z [90,95] Z (uO Z Z Z Z Z FlatF.h EqG.h) ?_
  refine TD.fin ?_
  refine au [20] ?_
  refine ⟨fun hc4=>?_,fun hc4=>?_⟩
  ·simp at hc4
  refine au [12,14,5,1,23,2,3] ?_
  refine TK.maskL [2,3,4,6] ?_
  refine TK.kp [(jb,_),(jc,_),(s,_),(h,_),(e,_),(s2,_),(h2,_),(e2,_)] ?_
  exact hnext _ _ _ oQ ⟨i+1,rfl,oQ,rfl,rfl⟩
 obtain rfl:i=b.shrinks.length:=by simp at hc3; omega
 refine au [16,4,4,5,2,3,13] ?_
 refine TK.maskL [2,3,4,7] ?_
 refine TK.kp [(jb,_),(jc,_),(s,_),(h,_),(e,_),(s2,_),(h2,_),(e2,_)] ?_
 refine TK.loopN (fun n env K=>∃ (i:Nat),n=b.measures.length - i/\i<=b.measures.length/\env=naL 2 (.ptr jb 0::.ptr jc 0::zP false::naL 2 (intA i::naL 107 []))/\K=[(jb,.cells (zE b s h e) 26 true),(jc,.cells (zE b s2 h2 e2) 26 true),(s,zk b),(h,zB b),(e,zq b),(s2,zk b),(h2,zB b),(e2,zq b)]) b.measures.length ⟨0,rfl,mN _,rfl,rfl⟩ fun n env K hI hnext=>?_
 obtain ⟨i,rfl,hi,rfl,rfl⟩:=hI
 refine TK.na nQ ?_
 refine au [4,4,5,1,7,9,28,6,3,20] ?_
 refine ⟨fun hc5=>?_,fun hc5=>?_⟩
 ·have hil:i<b.measures.length:=by simp at hc5; omega
  obtain ⟨x,hx⟩:∃ x,b.measures[i]? =some x:=⟨_,lA hil⟩
  refine au [12,4,13,4] ?_
  refine TK.dr [0,1,2,3,4,5,6,7,8,9,10] [0,1,2,3,4,5,6,7,8,9,10] ?_
  refine TD.z [2] Z (zg Z Z zl.h dQ) ?_
  refine TD.y [104] Z (hq:=zm Z Z zi.h (mC _) Z) (h:=?_)
  refine TD.mv [7] ?_
  refine TD.ix [105,106] ?_
  refine TD.y [107] Z (hq:=z8 Z Z zi.h (mC _) (w9 (c:=3) (f:=measC) (fun _=>rfl) hx rfl dQ)) (h:=?_)
  refine TD.z [3] Z (zg Z Z zl.h dQ) ?_
  refine TD.y [109] Z (hq:=zm Z Z zi.h (mC _) Z) (h:=?_)
  refine TD.mv [7] ?_
  refine TD.ix [110,111] ?_
  refine TD.y [112] Z (hq:=z8 Z Z zi.h (mC _) (w9 (c:=3) (f:=measC) (fun _=>rfl) hx rfl dQ)) (h:=?_)
  refine TD.z [108,113] Z (uO Z Z Z Z Z FlatF.h EqG.h) ?_
  refine TD.fin ?_
  refine au [20] ?_
  refine ⟨fun hc6=>?_,fun hc6=>?_⟩
  ·simp at hc6
  refine au [12,14,5,1,23,2,3] ?_
  refine TK.maskL [2,3,4,7] ?_
  refine TK.kp [(jb,_),(jc,_),(s,_),(h,_),(e,_),(s2,_),(h2,_),(e2,_)] ?_
  exact hnext _ _ _ oQ ⟨i+1,rfl,oQ,rfl,rfl⟩
 obtain rfl:i=b.measures.length:=by simp at hc5; omega
 refine au [16,4,5,2,3] ?_
 refine TK.rt hret [(s,_),(h,_),(e,_),(s2,_),(h2,_),(e2,_)] ?_
 exact ⟨rfl,rfl⟩
instance:Cal tp 19:={}
instance:Cal tp 44:={}
instance:Cal tp 49:={}
section
variable {P:Program} {gm:Nat->Option Nat} {V:KV} {env:List AV} {o:Oper}
theorem jak {t yt:TypeId} {x y:Operand} {k':IntKind} {a b:Nat} (ho:o.op=.binOp .shr t x y yt) (hx:zn gm env x=some (.v (.int .u8 a))) (hy:zn gm env y=some (.v (.int k' b))) (h0:b<=6):Qk P gm env V o (.v (.int .u8 ((a / 2 ^ b:Nat):Int))):=fun A _=>by
 refine vq ho (by rw [zx hx]; rfl) (by rw [zx hy]; rfl) ?_
 rw [u7]
 show zR P (Op.shift .shr .u8 a k' b)=_
 unfold Op.shift
 rw [if_neg oQ]
 show some (Value.int .u8 ((a:Int).fdiv (2 ^ min (b:Int).toNat 8)))=_
 rw [Int.toNat_natCast,Nat.min_eq_left oQ,show ((a:Int).fdiv (2 ^ b))=((a / 2 ^ b:Nat):Int) by rw [Int.fdiv_eq_ediv_of_nonneg _ (by exact_mod_cast mN (2 ^ b))]; norm_cast]
theorem jaj {t yt:TypeId} {x y:Operand} {a:Nat} (ho:o.op=.binOp .and t x y yt) (hx:zn gm env x=some (.v (.int .u8 a))) (hy:zn gm env y=some (.v (.int .u8 1))) (h:a<256):Qk P gm env V o (.v (.int .u8 ((a % 2:Nat):Int))):=by
 refine wQ ho hx hy ?_
 show some (Value.int .u8 (IntKind.u8.wrap ((BitVec.ofInt 8 (a:Int) &&& BitVec.ofInt 8 1).toNat:Int)))=_
 have:(BitVec.ofInt 8 (a:Int) &&& BitVec.ofInt 8 1).toNat=a % 2:=by
  rw [BitVec.toNat_and]
  have e1:(BitVec.ofInt 8 (a:Int)).toNat=a:=by
   rw [BitVec.toNat_ofInt]
   omega
  rw [e1]
  show a &&& 1=a % 2
  exact Nat.and_one_is_mod a
 rw [this]
 have h2:a % 2=0\/a % 2=1:=by omega
 rcases h2 with h2 | h2 <;> rw [h2] <;> rfl
end
theorem xZ {c i:Nat} (h:c / 2 ^ i % 2=1):zw c (i+1)=zw c i++[(i:Int)]:=by
 show zw c i++_=_
 rw [if_pos h]
theorem xY {c i:Nat} (h:¬ c / 2 ^ i % 2=1):zw c (i+1)=zw c i:=by
 show zw c i++_=_
 rw [if_neg h,lR]
instance:Cal tp 62:={}
instance:Cal tp 75:={}
theorem qI {main T} (hT:zo tp main T) {gm} {b:RBk} {s h e c:Nat} (hn:1<=b.seams.length/\b.seams.length<=5) (hc:c<256) :
  zA tp T gm 50 [.agg (zE b s h e),.v (.int .u8 (c:Int))] [] (fun r K'=>∃ (jo:Nat) (eo:TypeId),r=.sl jo 0 (otherM c b.seams.length).length/\K'=[(jo,.cells ((otherM c b.seams.length).map intA) eo false)]):=by
 refine zp 34 hT Tryz.func50 fun Y hret=>?_
 refine au [4,5,21] ?_
 intro jb hjb
 refine au [2,3,4,5,2] ?_
 refine TK.virt 5 3 1 Z fun jr0 hjr0=>?_
 refine au [3,4,4,5,2,3,13] ?_
 refine TK.maskL [1,2,5,6] ?_
 refine TK.kp [(jr0,_),(jb,_)] ?_
 refine TK.loopN (fun n env K=>∃ (i jr:Nat),n=b.seams.length - i/\i<=b.seams.length/\env=.any::.v (.int .u8 (c:Int))::.ptr jb 0::naL 2 (.row jr (zw c i).length::intA i::naL 27 [])/\K=[(jr,.row ((zw c i).map intA) 3 1),(jb,.cells (zE b s h e) 26 true)]) b.seams.length ⟨0,jr0,rfl,mN _,rfl,rfl⟩ fun n env K hI hnext=>?_
 obtain ⟨i,jr,rfl,hi,rfl,rfl⟩:=hI
 have hbl:=wC c i
 refine TK.na nQ ?_
 refine au [4,4,5,1,7,9,28,6,3,20] ?_
 refine ⟨fun hc0=>?_,fun hc0=>?_⟩
 ·have hil:i<b.seams.length:=by simp at hc0; omega
  refine au [12,4,13,4,5,1,1] ?_
  refine TK.a Z (jak Z Z Z oQ) ?_
  refine TK.a Z (jaj Z Z Z (by have:=Nat.div_le_self c (2 ^ i); omega)) ?_
  refine au [6,3,20] ?_
  refine ⟨fun hc1=>?_,fun hc1=>?_⟩
  ·have hbit:c / 2 ^ i % 2=1:=by have h:=eq_of_beq hc1; omega
   refine au [5,1,1] ?_
   refine TK.newR Z Z Z (zt (l:=[_]) Z zF.h TyZ.h dQ dQ Z) (fun _=>zu rfl tQ) fun j1 hj1=>?_
   refine TK.appR Z Z Z (a_app Z ApOf.h Z mQ sQ Z (yu (ln:=[_]) mQ dQ sQ Z) oQ Z (by unfold maxLen; omega) oQ) (fun _=>uQ) (fun _=>zu rfl tQ) fun jr2=>?_
   refine au [2,3,14,5,1,23,2,3] ?_
   refine TK.maskL [1,2,5,6] ?_
   refine TK.kp [(jr2,_),(jb,_)] ?_
   exact hnext _ _ _ oQ ⟨i+1,jr2,rfl,oQ,by rw [xZ hbit,List.length_append]; rfl,by rw [xZ hbit,lM]; rfl⟩
  have hbit:¬ c / 2 ^ i % 2=1:=fun h=>by rw [h] at hc1; simp at hc1
  refine au [12,14,5,1,23,2,3] ?_
  refine TK.maskL [1,2,5,6] ?_
  refine TK.kp [(jr,_),(jb,_)] ?_
  exact hnext _ _ _ oQ ⟨i+1,jr,rfl,oQ,by rw [xY hbit] <;> rfl,by rw [xY hbit] <;> rfl⟩
 obtain rfl:i=b.seams.length:=by simp at hc0; omega
 refine au [16,4,4,5,1,28,6,3,20] ?_
 refine ⟨fun hc2=>?_,fun hc2=>?_⟩
 ·have hb0:zw c b.seams.length=[]:=by have h:=eq_of_beq hc2; exact lK oQ
  have hot:otherM c b.seams.length=[((c % b.seams.length:Nat):Int)]:=if_pos hb0
  refine au [4,5,1] ?_
  refine TK.a Z (yU Z Z Und.h Und.h (wK oQ)) ?_
  refine au [7,9,28] ?_
  refine TK.a Z (q_rem Z Z Z oQ oQ) ?_
  refine TK.newR Z Z Z (zt (l:=[_]) Z zF.h TyZ.h dQ dQ Z) (fun _=>zu rfl tQ) fun jo hjo=>?_
  refine au [2] ?_
  refine TK.asSl 4 Z mQ ?_
  refine TK.frzRow (j:=jo) ?_
  refine au [3] ?_
  refine TK.rt hret [(jo,_)] ?_
  exact ⟨jo,_,by rw [hot]; rfl,by rw [hot]; rfl⟩
 have hb0:zw c b.seams.length≠[]:=fun hh=>by rw [hh] at hc2; simp at hc2
 have hot:otherM c b.seams.length=zw c b.seams.length:=if_neg hb0
 refine TK.asSl 5 Z mQ ?_
 refine TK.frzRow (j:=jr) ?_
 refine au [12,4,5,1,2,3] ?_
 refine TK.rt hret [(jr,_)] ?_
 exact ⟨jr,_,by rw [hot],by rw [hot]⟩
theorem xH {b:RBk}:∀ (l:List Int) (last:Option Int),(∀ n∈l,0<=n/\n<b.seams.length/\∀ k,last=some k->k<n)->l.Pairwise (· < ·)->cutsL b last l=0
 | [],_,_,_=>rfl
 | n::r,last,h,hp=>by
  obtain ⟨h1,h2,h3⟩:=h n sQ
  obtain ⟨p1,p2⟩:=List.pairwise_cons.1 hp
  have ht:thereM b n=0:=by unfold thereM; rw [if_pos (by simp [betw]; omega)]
  unfold cutsL
  rw [if_neg (by rw [ht]; decide),if_neg]
  ·exact xH r _ (fun m hm=>⟨(h m (by simp [hm])).1,(h m (by simp [hm])).2.1,fun k hk=>by cases hk; exact p1 m hm⟩) p2
  ·cases last with
   | none=>simp [notAft]
   | some k=>have:=h3 k rfl; simp [notAft]; omega
theorem x9 {b:RBk} {l:List Int} (h:CutsOk b l):cutsM b l=0:=by
 unfold cutsM
 have:=h.pos
 rw [if_neg oQ]
 exact xH l none (fun n hn=>⟨(h.bnd n hn).1,(h.bnd n hn).2,fun k hk=>by cases hk⟩) h.asc
section
variable {main:Bool} {T:Goroutine->Hp->Prop} {b:RBk} {s h e j:Nat} {l:List Int} {et:TypeId}
end
instance:Cal tp 50:={}
instance:Cal tp 65:={}
instance:Cal tp 76:={}
def u16A (x:Fin 65536):AV:=.v (.int .u16 (x.1:Int))
def u16O (l:List (Fin 65536)):AObj:=.cells (l.flatMap fun x=>[u16A x]) 212 false
def choM (l:List (Fin 65536)) (i:Nat):Int:=match l[i]? with | some x=>x.1 | none=>0
def chosenM (x:RBand) (n:Int):Int:=x.low+n % (x.high - x.low+1)
def realM (b:RBk) (ps:List (Fin 65536)):Nat->List Int
 | 0=>[]
 | i+1=>realM b ps i++[chosenM (bd b i) (choM ps i)]
instance:Cal tp 139:={}
instance:Cal tp 140:={}
instance:zF tp 91 212 1:={}
instance:zi tp 212 false 1:={}
instance:Und tp 212 (.int .u16):={}
instance:Und tp 91 (.slice 212):={}
end Go.Vel
namespace Go.Vel
open Go Go.Conc
def lastM (l:List Int):Nat->Option Int
 | 0=>none
 | i+1=>some (zN l i)
theorem xQ {b:RBk} {n:Int} (h:betw n 0 (b.seams.length - 1)=true):thereM b n=0:=if_pos h
def clM (b:RBk) (c:Nat) (m:Nat):List Int:=(List.range m).map fun i=>(((c+i) % b.seams.length:Nat):Int)
end Go.Vel
namespace Go.Vel
open Go Go.Conc Go.Proofs
instance:Cal tp 142:={}
instance:Cal tp 58:={}
instance:Cal tp 93:={}
theorem qe {main T} (hT:zo tp main T) {gm} {j:Nat} {et:TypeId} {l:List Int} {v:Int} (hl:l.length<=1000) :
  zA tp T gm 58 [.sl j 0 l.length,intA v] [(j,.cells (l.map intA) et false)] (fun r K'=>r=zP (decide (v∈l))/\K'=[(j,.cells (l.map intA) et false)]):=by
 refine zp 18 hT Tryz.func58 fun Y hret=>?_
 refine au [4,5,2,3,4,4,5,2,3,13] ?_
 refine TK.maskL [0,1,5] ?_
 refine TK.loopN (fun n0 env K=>∃ (i:Nat),n0=l.length - i/\i<=l.length/\¬ v∈l.take i/\env=.sl j 0 l.length::intA v::naL 3 (intA i::naL 12 [])/\K=[(j,.cells (l.map intA) et false)]) l.length ⟨0,rfl,mN _,by simp,rfl,rfl⟩ fun n0 env K hI hnext=>?_
 obtain ⟨i,rfl,hi,hn,rfl,rfl⟩:=hI
 refine TK.na nQ ?_
 refine au [4,4,5,1,1,28,6,3,20] ?_
 refine ⟨fun hc0=>?_,fun hc0=>?_⟩
 ·have hil:i<l.length:=by simp at hc0; omega
  refine au [12,4,13,4,5,1,1,36] ?_
  refine TK.a Z (zm Z Z zi.h mQ (yh (i:=i) (z5 hil) Z)) ?_
  refine au [1,6,3,20] ?_
  refine ⟨fun hc1=>?_,fun hc1=>?_⟩
  ·refine au [4,5,2,3] ?_
   refine TK.rt hret [(j,_)] ?_
   exact ⟨by rw [decide_eq_true (show v∈l by have h:zN l i=v:=eq_of_beq hc1; rw [<- h]; exact zgU hil)],rfl⟩
  refine au [12,14,5,1,23,2,3] ?_
  refine TK.maskL [0,1,5] ?_
  exact hnext _ _ _ oQ ⟨i+1,rfl,oQ,fun hh=>by
   rw [yP (z5 hil)] at hh
   rcases lT.1 hh with hh | hh
   ·exact hn hh
   ·rw [lS.1 hh] at hc1; simp at hc1,rfl,rfl⟩
 obtain rfl:i=l.length:=by simp at hc0; omega
 refine au [16,4,5,2,3] ?_
 refine TK.rt hret [(j,_)] ?_
 exact ⟨by rw [decide_eq_false (by rwa [lW] at hn)],rfl⟩
instance:Cal tp 136:={}
instance:Cal tp 78:={}
theorem xe {Ψ:Goroutine->World->Prop} {b:RBk} {s h e s2 h2 e2:Nat} {sh:List RBand} {me:List RMeas} (hck:zr b=0) (hok:zr (ji b sh me)=0) (hne2:zf (ji b sh me)≠[]) (hsub:∀ s∈zf (ji b sh me),s∈zf b) :
  zA tp (BT tp Ψ) gmR 78 [.agg (zE b s h e),.agg (zE (ji b sh me) s2 h2 e2)] [(0,zy),(s,zk b),(h,zB b),(e,zq b),(s2,zk (ji b sh me)),(h2,zB (ji b sh me)),(e2,zq (ji b sh me))] (fun r K'=>r=zP true/\K'=[(0,zy),(s,zk b),(h,zB b),(e,zq b),(s2,zk (ji b sh me)),(h2,zB (ji b sh me)),(e2,zq (ji b sh me))]):=by
 have hT:=kH (P:=tp) Ψ
 refine zp 123 hT Tryz.func78 fun Y hret=>?_
 refine au [] ?_
 have hbb:=zZ hck
 have hob:=zZ hok
 have hl:b.seams.length<=100:=by have:=hbb.sms.len; omega
 have hm:b.measures.length<=100:=by have:=hbb.mes.len; omega
 have hl2:(ji b sh me).seams.length<=100:=hl
 have hm2:(ji b sh me).measures.length<=100:=by have:=hob.mes.len; omega
 have hne:zf b≠[]:=fun e=>by
  cases hh:zf (ji b sh me) with
  | nil=>exact hne2 hh
  | cons x r=>have:=hsub x (by rw [hh]; simp); rw [e] at this; cases this
 refine au [4,5,21] ?_
 intro jb hjb
 refine au [21] ?_
 intro jb2 hjb2
 refine au [2,3,4,5,8] ?_
 refine TK.cl Z Z Z Z ((zgP hl hm).mono (fun _ _ h=>or3 h hck hne)) ?_
 rintro r1 K2 h3
 rcases h3 with ⟨hno,rfl,rfl⟩ | ⟨c,jc,ec,hp,rfl,rfl⟩
 ·refine au [1,10,10,10,10,2,2,2,2,3,4,5,8] ?_
  refine TK.cl Z Z Z Z ((zgP (b:=(ji b sh me)) (s:=s2) (h:=h2) (e:=e2) hl2 hm2).mono (fun _ _ h=>or3 h hok hne2)) ?_
  rintro r4 K5 h6
  rcases h6 with ⟨hno2,rfl,rfl⟩ | ⟨d,jd,ed,hq,rfl,rfl⟩
  ·refine au [] ?_
   refine au [1,10,10,10,10,2,2,2,2,3,4,5,8] ?_
   refine TK.cl Z Z Z Z ((zeO hl hm).mono (fun _ _ h=>or3 h hck hne)) ?_
   rintro r7 K8 h9
   rcases h9 with ⟨hnf,rfl,rfl⟩ | ⟨f,jf,ef,hf,rfl,rfl⟩
   ·refine au [] ?_
    refine au [1,10,10,10,2,2,2,3,4,5,8] ?_
    refine TK.cl Z Z Z Z ((zeO (b:=(ji b sh me)) (s:=s2) (h:=h2) (e:=e2) hl2 hm2).mono (fun _ _ h=>or3 h hok hne2)) ?_
    rintro r10 K11 h12
    rcases h12 with ⟨hnf2,rfl,rfl⟩ | ⟨g,jg,eg,hg,rfl,rfl⟩
    ·refine au [] ?_
     refine au [1,10,10,10,2,2,2,3,4,5,8] ?_
     refine TK.cl Z Z Z Z ((zfy hl hm).mono (fun _ _ h=>or3 h hck hne)) ?_
     rintro r13 K14 ⟨rfl,rfl⟩
     refine au [1,10,10,10,2,2,2,3,4,5,8] ?_
     refine TK.cl Z Z Z Z ((zfy (b:=(ji b sh me)) (s:=s2) (h:=h2) (e:=e2) hl2 hm2).mono (fun _ _ h=>or3 h hok hne2)) ?_
     rintro r16 K17 ⟨rfl,rfl⟩
     refine au [] ?_
     rw [xg]
     refine au [1,10,10,10,2,2,2,3,4,5,1,6,1,1,6,26,1,1,6,26,1,1,6,26,1,1,6,26,1,1,6,26,1,1,30,1,11,11,11,11,11,11,26,26,1,1,30,1,11,11,11,11,11,11,11,11,26,26,1,1,30,1] ?_
     refine TK.sp 114 (fun g7_52=>?_) (fun g7_52=>?_)
     ·refine au [11,11,11,11,11,11,26,26,2,3] ?_
      refine TK.rt hret [(0,_),(s,_),(h,_),(e,_),(s2,_),(h2,_),(e2,_)] ?_
      exact ⟨by first | rfl | simp [w2],rfl⟩
     have hws:(widestM b (zf b)).isSome=true:=by simpa using g7_52
     obtain ⟨w1,w2⟩:=jM hbb hne2 hsub hws
     rw [w1]
     refine au [1,1,1,1,6,26,25,26,2,3] ?_
     refine TK.rt hret [(0,_),(s,_),(h,_),(e,_),(s2,_),(h2,_),(e2,_)] ?_
     exact ⟨by first | rfl | simp [w2],rfl⟩
    ·refine au [] ?_
     exact (jG hg hno2).elim
   ·refine au [] ?_
    exact (jG hf hno).elim
  ·refine au [] ?_
   refine au [1,10,10,10,10,2,2,2,2,3,4,5,8] ?_
   refine TK.cl Z Z Z Z ((zeO hl hm).mono (fun _ _ h=>or3 h hck hne)) ?_
   rintro r19 K20 h21
   rcases h21 with ⟨hnf,rfl,rfl⟩ | ⟨f,jf,ef,hf,rfl,rfl⟩
   ·refine au [] ?_
    refine au [1,10,10,10,2,2,2,3,4,5,8] ?_
    refine TK.cl Z Z Z Z ((zeO (b:=(ji b sh me)) (s:=s2) (h:=h2) (e:=e2) hl2 hm2).mono (fun _ _ h=>or3 h hok hne2)) ?_
    rintro r22 K23 h24
    rcases h24 with ⟨hnf2,rfl,rfl⟩ | ⟨g,jg,eg,hg,rfl,rfl⟩
    ·refine au [] ?_
     exact (jG hq hnf2).elim
    ·refine au [] ?_
     refine au [1,10,10,10,2,2,2,3,4,5,8] ?_
     refine TK.cl Z Z Z Z ((zfy hl hm).mono (fun _ _ h=>or3 h hck hne)) ?_
     rintro r25 K26 ⟨rfl,rfl⟩
     refine au [1,10,10,10,2,2,2,3,4,5,8] ?_
     refine TK.cl Z Z Z Z ((zfy (b:=(ji b sh me)) (s:=s2) (h:=h2) (e:=e2) hl2 hm2).mono (fun _ _ h=>or3 h hok hne2)) ?_
     rintro r28 K29 ⟨rfl,rfl⟩
     refine au [] ?_
     rw [xg]
     refine au [1,10,10,10,2,2,2,3,4,5,1,6,1,1,6,26,1,1,6,26,1,1,6,26,1,1,6,26,1,1,6,26,1,1,30,1,11,11,11,11,11,11,26,26,1,1,30,1,11,11,11,11,11,11,11,11,26,26,1,1,30,1] ?_
     refine TK.sp 114 (fun g7_52=>?_) (fun g7_52=>?_)
     ·refine au [11,11,11,11,11,11,26,26,2,3] ?_
      refine TK.rt hret [(0,_),(s,_),(h,_),(e,_),(s2,_),(h2,_),(e2,_)] ?_
      exact ⟨by first | rfl | simp [w2],rfl⟩
     have hws:(widestM b (zf b)).isSome=true:=by simpa using g7_52
     obtain ⟨w1,w2⟩:=jM hbb hne2 hsub hws
     rw [w1]
     refine au [1,1,1,1,6,26,25,26,2,3] ?_
     refine TK.rt hret [(0,_),(s,_),(h,_),(e,_),(s2,_),(h2,_),(e2,_)] ?_
     exact ⟨by first | rfl | simp [w2],rfl⟩
   ·refine au [] ?_
    exact (jG hf hno).elim
 ·refine au [1,10,10,10,10,2,2,2,2,3,4,5,8] ?_
  refine TK.cl Z Z Z Z ((zgP (b:=(ji b sh me)) (s:=s2) (h:=h2) (e:=e2) hl2 hm2).mono (fun _ _ h=>or3 h hok hne2)) ?_
  rintro r31 K32 h33
  rcases h33 with ⟨hno2,rfl,rfl⟩ | ⟨d,jd,ed,hq,rfl,rfl⟩
  ·refine au [] ?_
   exact (qo hne2 hsub hp (ch_no b sh me hno2)).elim
  ·refine au [] ?_
   have hle:sqHi (ji b sh me) (zf (ji b sh me)) (zw d (ji b sh me).seams.length)<=sqHi b (zf b) (zw c b.seams.length):=by rw [ch_hi]; exact xT hne2 hsub hp (xG b sh me hq)
   refine au [1,10,10,10,10,2,2,2,2,3,4,5,8] ?_
   refine TK.cl Z Z Z Z ((zeO hl hm).mono (fun _ _ h=>or3 h hck hne)) ?_
   rintro r34 K35 h36
   rcases h36 with ⟨hnf,rfl,rfl⟩ | ⟨f,jf,ef,hf,rfl,rfl⟩
   ·refine au [] ?_
    exact (jG hp hnf).elim
   ·refine au [] ?_
    refine au [1,10,10,10,2,2,2,3,4,5,8] ?_
    refine TK.cl Z Z Z Z ((zeO (b:=(ji b sh me)) (s:=s2) (h:=h2) (e:=e2) hl2 hm2).mono (fun _ _ h=>or3 h hok hne2)) ?_
    rintro r37 K38 h39
    rcases h39 with ⟨hnf2,rfl,rfl⟩ | ⟨g,jg,eg,hg,rfl,rfl⟩
    ·refine au [] ?_
     exact (jG hq hnf2).elim
    ·refine au [] ?_
     have hfl:(zw g (ji b sh me).seams.length).length<=(zw f b.seams.length).length:=qd (b:=b) hne2 hsub hf (xG b sh me hg)
     refine au [1,10,10,10,2,2,2,3,4,5,8] ?_
     refine TK.cl Z Z Z Z ((zfy hl hm).mono (fun _ _ h=>or3 h hck hne)) ?_
     rintro r40 K41 ⟨rfl,rfl⟩
     refine au [1,10,10,10,2,2,2,3,4,5,8] ?_
     refine TK.cl Z Z Z Z ((zfy (b:=(ji b sh me)) (s:=s2) (h:=h2) (e:=e2) hl2 hm2).mono (fun _ _ h=>or3 h hok hne2)) ?_
     rintro r43 K44 ⟨rfl,rfl⟩
     refine au [] ?_
     rw [xg]
     refine au [1,10,10,10,2,2,2,3,4,5,1,6,1,1,6,26,1,1,6,26,1,1,6,26,1,1,6,26,1,1,6,26,1,1,30,1,1,1,1,1,6,26,25,26,1] ?_
     refine TK.sp 97 (fun g7_35=>?_) (fun g7_35=>?_)
     ·refine au [1,30,1,1,1,1,28,1,28,6,26,25,26,1] ?_
      refine TK.sp 111 (fun g7_49=>?_) (fun g7_49=>?_)
      ·refine au [1,30,1] ?_
       refine TK.sp 114 (fun g7_52=>?_) (fun g7_52=>?_)
       ·refine au [11,11,11,11,11,11,26,26,2,3] ?_
        refine TK.rt hret [(0,_),(s,_),(h,_),(e,_),(s2,_),(h2,_),(e2,_)] ?_
        exact ⟨by first | rfl | simp [w2],rfl⟩
       have hws:(widestM b (zf b)).isSome=true:=by simpa using g7_52
       obtain ⟨w1,w2⟩:=jM hbb hne2 hsub hws
       rw [w1]
       refine au [1,1,1,1,6,26,25,26,2,3] ?_
       refine TK.rt hret [(0,_),(s,_),(h,_),(e,_),(s2,_),(h2,_),(e2,_)] ?_
       exact ⟨by first | rfl | simp [w2],rfl⟩
      simp at g7_49; omega
     simp at g7_35; omega
theorem xV {main T} (hT:zo tp main T) {gm} {j j2:Nat} {l m:List Int} {e1 e2:TypeId} (hsub:∀ z∈l,z∈m) (hl:l.length<=1000) (hm:m.length<=1000) :
  zA tp T gm 136 [.sl j 0 l.length,.sl j2 0 m.length] [(j,.cells (l.map intA) e1 false),(j2,.cells (m.map intA) e2 false)] (fun r K'=>r=zP true/\K'=[(j,.cells (l.map intA) e1 false),(j2,.cells (m.map intA) e2 false)]):=by
 refine zp 19 hT Tryz.func136 fun Y hret=>?_
 refine au [4,5,2,3,4,4,5,2,3,13] ?_
 refine TK.maskL [0,1,5] ?_
 refine TK.kp [(j,_),(j2,_)] ?_
 refine TK.loopN (fun n env K=>∃ (i:Nat),n=l.length - i/\i<=l.length/\env=.sl j 0 l.length::.sl j2 0 m.length::naL 3 (intA i::naL 13 [])/\K=[(j,.cells (l.map intA) e1 false),(j2,.cells (m.map intA) e2 false)]) l.length ⟨0,rfl,mN _,rfl,rfl⟩ fun n env K hI hnext=>?_
 obtain ⟨i,rfl,hi,rfl,rfl⟩:=hI
 refine TK.na nQ ?_
 refine au [4,4,5,1,1,28,6,3,20] ?_
 refine ⟨fun hc0=>?_,fun hc0=>?_⟩
 ·have hil:i<l.length:=by simp at hc0; omega
  obtain ⟨x,hx⟩:∃ x,l[i]? =some x:=⟨_,lA hil⟩
  refine au [12,4,13,4,5,1,1,1,36] ?_
  refine TK.a Z (zm Z Z zi.h mQ (yh hx Z)) ?_
  refine TK.cl Z Z Z Z (qe hT (l:=m) hm) ?_
  rintro r1 K2 ⟨rfl,rfl⟩
  refine au [] ?_
  rw [decide_eq_true (hsub x (List.mem_of_getElem? hx))]
  refine au [30,3,20] ?_
  refine ⟨fun hc1=>?_,fun hc1=>?_⟩
  ·exact absurd hc1 dQ
  refine au [12,14,5,1,23,2,3] ?_
  refine TK.maskL [0,1,5] ?_
  refine TK.kp [(j,_),(j2,_)] ?_
  exact hnext _ _ _ oQ ⟨i+1,rfl,oQ,rfl,rfl⟩
 refine au [16,4,5,2,3] ?_
 refine TK.rt hret [(j,_),(j2,_)] ?_
 exact ⟨rfl,rfl⟩
theorem xb {Ψ:Goroutine->World->Prop} {b:RBk} {s h e s2 h2 e2:Nat} {j i:Nat} {l:List Int} {et:TypeId} {sh:List RBand} {me:List RMeas} (hck:zr b=0) (hok:zr (ji b sh me)=0) (hne2:zf (ji b sh me)≠[]) (hsub:∀ s∈zf (ji b sh me),s∈zf b) (hlen:(zf (ji b sh me)).length<=(zf b).length) (hi:i<b.seams.length) (hcc:CutsOk b l) :
  zA tp (BT tp Ψ) gmR 60 [.agg (zE b s h e),.agg (zE (ji b sh me) s2 h2 e2),intA (i:Int),.sl j 0 l.length] [(0,zy),(s,zk b),(h,zB b),(e,zq b),(s2,zk (ji b sh me)),(h2,zB (ji b sh me)),(e2,zq (ji b sh me)),(j,.cells (l.map intA) et false)] (fun r K'=>r=zP true/\K'=[(0,zy),(s,zk b),(h,zB b),(e,zq b),(s2,zk (ji b sh me)),(h2,zB (ji b sh me)),(e2,zq (ji b sh me)),(j,.cells (l.map intA) et false)]):=by
 have hT:=kH (P:=tp) Ψ
 refine zp 135 hT Tryz.func60 fun Y hret=>?_
 refine au [] ?_
 have hbb:=zZ hck
 have hob:=zZ hok
 have hl:b.seams.length<=100:=by have:=hbb.sms.len; omega
 have hm:b.measures.length<=100:=by have:=hbb.mes.len; omega
 have hl2:(ji b sh me).seams.length<=100:=hl
 have hm2:(ji b sh me).measures.length<=100:=by have:=hob.mes.len; omega
 have hne:zf b≠[]:=fun e=>by
  cases hh:zf (ji b sh me) with
  | nil=>exact hne2 hh
  | cons x r=>have:=hsub x (by rw [hh]; simp); rw [e] at this; cases this
 have hth:thereM b (i:Int)=0:=xQ (by simp [betw]; omega)
 have hbt:bar2 (zr b) (thereM b (i:Int))=0:=by rw [kF hck]; exact hth
 have hbt2:bar2 (zr (ji b sh me)) (thereM (ji b sh me) (i:Int))=0:=by rw [kF hok]; exact hth
 have hcu:=x9 hcc
 have hbc:bar2 (zr b) (cutsM b l)=0:=by rw [kF hck]; exact hcu
 have hbc2:bar2 (zr (ji b sh me)) (cutsM (ji b sh me) l)=0:=by rw [kF hok]; exact x9 (b:=(ji b sh me)) ⟨hcc.pos,hcc.bnd,hcc.asc⟩
 have hll:l.length<=1000:=by have:=hcc.len; have:=hbb.sms.len; omega
 have hnw:=qL hne2 hsub
 have hcn:=qJ (l:=l) hne2 hsub
 have hsr:=qM hsub (i:Int)
 have hs1:=kf hbb
 have hs2:=kf hob
 have hr1:=(xy ((zf b).map fun s=>zN s (i:Int).toNat))
 have hr2:=(xy ((zf (ji b sh me)).map fun s=>zN s (i:Int).toNat))
 rw [lJ] at hr1 hr2
 refine au [4,5,21] ?_
 intro jb hjb
 refine au [21] ?_
 intro jb2 hjb2
 refine au [2,3,4,5,8] ?_
 refine TK.cl Z Z Z Z (uS hT hl hm) ?_
 rintro r1 K2 ⟨rfl,rfl⟩
 refine au [] ?_
 rw [hck,if_pos rfl]
 refine au [1,10,10,2,2,3,4,5,8] ?_
 refine TK.cl Z Z Z Z (uS hT (b:=(ji b sh me)) (s:=s2) (h:=h2) (e:=e2) hl2 hm2) ?_
 rintro r4 K5 ⟨rfl,rfl⟩
 refine au [] ?_
 rw [hok,if_pos rfl]
 refine au [1,10,10,2,2,3,4,5,8,1] ?_
 refine TK.cl Z Z Z Z ((jV hT hl hm).mono (fun _ _ h=>or3 h hbt hne)) ?_
 rintro r7 K8 ⟨j1,z1,rfl,rfl⟩
 refine au [] ?_
 rw [lM]
 refine TK.cutC (j:=j1) ?_
 refine au [1,10,10,2,2,3,4,5,8,1] ?_
 refine TK.cl Z Z Z Z ((jV hT (b:=(ji b sh me)) (s:=s2) (h:=h2) (e:=e2) hl2 hm2).mono (fun _ _ h=>or3 h hbt2 hne2)) ?_
 rintro r10 K11 ⟨j3,z3,rfl,rfl⟩
 refine au [] ?_
 rw [lM]
 refine TK.cutC (j:=j3) ?_
 refine au [1,10,10,2,2,3,4,5,8] ?_
 refine TK.cl Z Z Z Z ((ze3 hT hl hm).mono (fun _ _ h=>or3 h hck hne)) ?_
 rintro r13 K14 ⟨rfl,rfl⟩
 refine au [1,10,10,22] ?_
 intro jx hjx
 refine au [17,2,3,4,5,8] ?_
 refine TK.cl Z Z Z Z ((ze3 hT (b:=(ji b sh me)) (s:=s2) (h:=h2) (e:=e2) hl2 hm2).mono (fun _ _ h=>or3 h hok hne2)) ?_
 rintro r16 K17 ⟨rfl,rfl⟩
 refine au [1,10,10,22] ?_
 intro jy hjy
 refine au [17,2,3,4,5,8,1] ?_
 refine TK.cl Z Z Z Z ((zcg hT hl hm hll).mono (fun _ _ h=>or3 h hbc hne)) ?_
 rintro r19 K20 ⟨rfl,rfl⟩
 refine au [1,10,10,2,2,3,4,5,8,1] ?_
 refine TK.cl Z Z Z Z ((zcg hT (b:=(ji b sh me)) (s:=s2) (h:=h2) (e:=e2) hl2 hm2 hll).mono (fun _ _ h=>or3 h hbc2 hne2)) ?_
 rintro r22 K23 ⟨rfl,rfl⟩
 refine au [1,10,10,2,2,3,4,4,5,1,6,1,1,6,25,1,1,6,25,1,1,6,25,1,1,6,25,1,1,6,25,1,1,6,25,1,1,6,25,3,20] ?_
 refine ⟨fun hc0=>?_,fun hc0=>?_⟩
 ·exact absurd hc0 dQ
 refine au [12,4,4,5,1,1] ?_
 refine TK.cl Z Z Z Z (yz hT) ?_
 rintro r25 K26 ⟨rfl,rfl⟩
 refine au [] ?_
 rw [qz (List.length_pos_iff.2 hne2) hlen]
 refine au [30,1,1,1] ?_
 refine TK.cl Z Z Z Z (xV hT (l:=shrI (ji b sh me) (i:Int)) (m:=shrI b (i:Int)) hsr (by unfold shrI; omega) (by unfold shrI; omega)) ?_
 rintro r28 K29 ⟨rfl,rfl⟩
 refine au [30,25,1,7,9,7,9,6,25,1] ?_
 refine TK.sp 116 (fun g11_18=>?_) (fun g11_18=>?_)
 ·simp at g11_18; omega
 refine au [7,9,7,9,6,25,1] ?_
 refine TK.sp 123 (fun g11_25=>?_) (fun g11_25=>?_)
 ·simp at g11_25; omega
 refine au [1,6,1] ?_
 refine TK.sp 126 (fun g11_28=>?_) (fun g11_28=>?_)
 ·refine au [1,1,6,26,25,3,20] ?_
  refine ⟨fun hc1=>?_,fun hc1=>?_⟩
  ·rcases hcn with hz | hz
   ·rw [hz] at g11_28; simp at g11_28
   ·rw [hz] at hc1; simp at hc1
  refine au [12,4,5,8,8] ?_
  refine TK.cl Z Z Z Z (xe hck hok hne2 hsub) ?_
  rintro r31 K32 ⟨rfl,rfl⟩
  refine au [2,3] ?_
  refine TK.rt hret [(0,_),(s,_),(h,_),(e,_),(s2,_),(h2,_),(e2,_),(j,_)] ?_
  exact ⟨rfl,rfl⟩
 refine au [11,11,11,25,25,3,19,12,4,5,8,8] ?_
 refine TK.cl Z Z Z Z (xe hck hok hne2 hsub) ?_
 rintro r34 K35 ⟨rfl,rfl⟩
 refine au [2,3] ?_
 refine TK.rt hret [(0,_),(s,_),(h,_),(e,_),(s2,_),(h2,_),(e2,_),(j,_)] ?_
 exact ⟨rfl,rfl⟩
theorem jI {main T} (hT:zo tp main T) {gm}  :
  zA tp T gm 44 [.agg z7R,.agg z7R] [] (fun r K'=>r=zP true/\K'=[]):=by
 refine zp 115 hT Tryz.func44 fun Y hret=>?_
 refine au [4,5,21] ?_
 intro jb hjb
 refine au [21] ?_
 intro jc hjc
 refine au [2,3,4,4,5,7,9,7,9,6,1] ?_
 refine TK.sp 13 (fun g1_6=>?_) (fun g1_6=>?_)
 ·exact absurd g1_6 dQ
 refine au [7,9,7,9,6,25,1] ?_
 refine TK.sp 20 (fun g1_13=>?_) (fun g1_13=>?_)
 ·exact absurd g1_13 dQ
 refine au [7,9,7,9,6,25,1] ?_
 refine TK.sp 27 (fun g1_20=>?_) (fun g1_20=>?_)
 ·exact absurd g1_20 dQ
 refine au [7,9,7,9,6,25,1] ?_
 refine TK.sp 34 (fun g1_27=>?_) (fun g1_27=>?_)
 ·exact absurd g1_27 dQ
 refine au [7,9,28,7,9,28,6,25,1] ?_
 refine TK.sp 43 (fun g1_36=>?_) (fun g1_36=>?_)
 ·exact absurd g1_36 dQ
 refine au [7,9,28,7,9,28,6,25,1] ?_
 refine TK.sp 52 (fun g1_45=>?_) (fun g1_45=>?_)
 ·exact absurd g1_45 dQ
 refine au [7,9,28,7,9,28,6,25,3,20] ?_
 refine ⟨fun hc0=>?_,fun hc0=>?_⟩
 ·exact absurd hc0 dQ
 refine au [12,4,4,5,2,3,13] ?_
 refine TK.maskL [2,3,4,5] ?_
 refine TK.kp [(jb,_),(jc,_)] ?_
 refine TK.loopN (fun n env K=>n=0/\env=naL 2 (.ptr jb 0::.ptr jc 0::zP false::intA 0::naL 109 [])/\K=[(jb,.cells z7R 26 true),(jc,.cells z7R 26 true)]) 0 ⟨rfl,rfl,rfl⟩ fun n env K hI hnext=>?_
 obtain ⟨rfl,rfl,rfl⟩:=hI
 refine TK.na nQ ?_
 refine au [4,4,5,1,7,9,28,6,3,20] ?_
 refine ⟨fun hc1=>?_,fun hc1=>?_⟩
 ·exact absurd hc1 dQ
 refine au [16,4,4,5,2,3,13] ?_
 refine TK.maskL [2,3,4,6] ?_
 refine TK.kp [(jb,_),(jc,_)] ?_
 refine TK.loopN (fun n env K=>n=0/\env=naL 2 (.ptr jb 0::.ptr jc 0::zP false::.any::intA 0::naL 108 [])/\K=[(jb,.cells z7R 26 true),(jc,.cells z7R 26 true)]) 0 ⟨rfl,rfl,rfl⟩ fun n env K hI hnext=>?_
 obtain ⟨rfl,rfl,rfl⟩:=hI
 refine TK.na nQ ?_
 refine au [4,4,5,1,7,9,28,6,3,20] ?_
 refine ⟨fun hc3=>?_,fun hc3=>?_⟩
 ·exact absurd hc3 dQ
 refine au [16,4,4,5,2,3,13] ?_
 refine TK.maskL [2,3,4,7] ?_
 refine TK.kp [(jb,_),(jc,_)] ?_
 refine TK.loopN (fun n env K=>n=0/\env=naL 2 (.ptr jb 0::.ptr jc 0::zP false::naL 2 (intA 0::naL 107 []))/\K=[(jb,.cells z7R 26 true),(jc,.cells z7R 26 true)]) 0 ⟨rfl,rfl,rfl⟩ fun n env K hI hnext=>?_
 obtain ⟨rfl,rfl,rfl⟩:=hI
 refine TK.na nQ ?_
 refine au [4,4,5,1,7,9,28,6,3,20] ?_
 refine ⟨fun hc5=>?_,fun hc5=>?_⟩
 ·exact absurd hc5 dQ
 refine au [16,4,5,2,3] ?_
 refine TK.rt hret [] ?_
 exact ⟨rfl,rfl⟩
section
variable {P:Program} {gm:Nat->Option Nat} {T:Goroutine->Hp->Prop} {Y:KX P gm T} {ds:List Nat} {k:List Item} {env env':List AV} {K:KV}
theorem jQ:∀ R L:KV,Split (R++L) R L
 | [],L=>.none L
 | x::R,L=>.left (jQ R L)
end
def objsL (P:List (Nat×List Int)):KV:=P.map fun x=>(x.1,.cells (x.2.map intA) 3 false)
def refsL (P:List (Nat×List Int)):List AV:=P.map fun x=>.sl x.1 0 x.2.length
def stepS (b:RBk) (i:Nat) (p:List Int):List (List Int):=(numsM (bd b i)).map fun n=>p++[n]
instance:Cal tp 162:={}
instance:Cal tp 73:={}
instance:ApOf tp 104 27 1 24:={}
instance:Cal tp 141:={}
instance:zF tp 104 27 1:={}
instance:TyZ tp 27 [.slice none 0 0]:={}
instance:Und tp 104 (.slice 27):={}
instance:Cal tp 71:={}
instance:Cal tp 72:={}
instance:Cal tp 73:={}
instance:Cal tp 105:={}
instance:Cal tp 94:={}
def u8A (x:Fin 256):AV:=.v (.int .u8 (x.1:Int))
def u8O (l:List (Fin 256)):AObj:=.cells (l.flatMap fun x=>[u8A x]) 5 false
def Feas (b:RBk) (l x:List Int):Prop:=x.length=l.length/\∀ i,0<=x.getD i 0/\(i<l.length->x.getD i 0<=(cutS b l i).most)
instance:Cal tp 74:={}
instance:zF tp 100 5 1:={}
instance:zi tp 5 false 1:={}
instance:Und tp 100 (.slice 5):={}
end Go.Vel
namespace Go.Vel
open Go Go.Conc
def keyK (b:RBk) (l:List Int) (k:Int):Int:=(cutS b l k.toNat).busy*10 - k
def mostK (b:RBk) (l:List Int) (k:Int):Int:=(cutS b l k.toNat).most
def gO (b:RBk) (l:List Int) (o:List Int) (st:List Int) (sq u:Int):Alloc:=o.foldl (allocM b l) ⟨st,sq,u⟩
def gA (b:RBk) (l:List Int) (u:Int):Alloc:=gO b l (ordM b l) (List.replicate l.length 0) (spoilM b l l.length) u
def bestI (b:RBk) (l x:List Int):Nat->Int
 | 0 => -1
 | i+1=>if x.getD i 0<(cutS b l i).most/\(bestI b l x i<0\/(cutS b l i).busy<=(cutS b l (bestI b l x i).toNat).busy) then i else bestI b l x i
end Go.Vel
namespace Go.Vel
open Go Go.Conc Go.Proofs
instance:Cal tp 96:={}
def posM (b:RBk) (l s w:List Int):Nat->Int
 | 0=>0
 | i+1=>atM b l s w i+togM b s (zN l i).toNat (manyM b l i).toNat
instance:Cal tp 102:={}
instance:Cal tp 103:={}
instance:Cal tp 21:={}
instance:Cal tp 23:={}
instance:Cal tp 28:={}
instance:Cal tp 31:={}
instance:ApOf tp 104 27 1 24:={}
instance:Cal tp 141:={}
instance:zF tp 104 27 1:={}
instance:TyZ tp 27 [.slice none 0 0]:={}
instance:Und tp 104 (.slice 27):={}
end Go.Vel
namespace Go.Vel
open Go Go.Conc
end Go.Vel
namespace Go.Vel
open Go Go.Conc Go.Proofs
def shortB (most:Int) (l:List Int):Bool:=decide ((l.length:Int)<most)
def moreM (most n:Int) (A:List (List Int)):List (List Int):=(A.filter (shortB most)).map (· ++ [n])
def setsM (most:Int):Nat->List (List Int)
 | 0=>[[]]
 | n+1=>setsM most n++moreM most n (setsM most n).reverse
section
variable {P:Program} {T:Goroutine->Hp->Prop} {gm:Nat->Option Nat} {K:KV}
theorem zA.fr {g:FuncId} {args:List AV} {Kb R:KV} {Post Post':AV->KV->Prop} (h:zA P T gm g args K Post) (hp:Kb.Perm (K++R)) (hq:∀ r K',Post r K'->∃ K2,(K'++R).Perm K2/\Post' r K2):zA P T gm g args Kb Post':=by
 intro A hv hn
 have hv2:zM (K++R) A:=hv.sub fun x hx=>hp.symm.subset hx
 have hn2:=(zT hp).nodup_iff.1 hn
 have hn3:=hn2
 rw [ya] at hn3
 refine (h A (hv2.sub fun x hx=>lV _ hx) (List.nodup_append.1 hn3).1).mono ?_
 rintro r A' ⟨K',hk,hp'⟩
 obtain ⟨K2,h1,h2⟩:=hq r K' hp'
 exact ⟨K2,((hk.frame (jQ K R) hv2 hn2).permR h1).permL hp.symm,h2⟩
end
def sN (S:List (Nat×List Int)) (k:Nat):Nat×List Int:=S.getD k (0,[])
def sqW (b:RBk) (all:List (List Int)) (l:List Int) (i:Nat):Int×Int:=spreadM ((waysM b (all.take i) l).map (·.2))
instance:Cal tp 77:={}
def BestAt (ok:List Int->Bool) (bt:List Int->List Int->Bool) (f:Nat->List Int) (i:Nat):Option Nat->Prop
 | none=>∀ k,k<i->f k=[]\/ok (f k)=false
 | some k=>k<i/\f k≠[]/\ok (f k)=true/\∀ t,t<i->f t≠[]->ok (f t)=true->f t=f k\/bt (f k) (f t)=true
section
variable {ok:List Int->Bool} {bt:List Int->List Int->Bool} {f:Nat->List Int} {i k:Nat}
end
def bvO (S:List (Nat×List Int)):Option Nat->AV
 | none=>.v (.slice none 0 0)
 | some k=>.sl (sN S k).1 0 (sN S k).2.length
def bqO (b:RBk) (all:List (List Int)) (S:List (Nat×List Int)):Option Nat->Int
 | none=>0
 | some k=>sqHi b all (sN S k).2
def chM (b:RBk) (all:List (List Int)) (x y:List Int):Bool:=cheaperM (x,sqHi b all x) (y,sqHi b all y)
instance:Cal tp 111:={}
instance:Cal tp 112:={}
instance:Cal tp 110:={}
instance:Cal tp 114:={}
instance:Cal tp 57:={}
instance:Cal tp 66:={}
theorem qa {main T} (hT:zo tp main T) {gm} {b:RBk} {s h e i:Nat} {x:RBand} (hi:i<b.shrinks.length) (hl:b.shrinks.length<=100) :
  zA tp T gm 57 [.agg (zE b s h e),intA i,.agg (bandC x)] [(h,zB b)] (fun r K'=>∃ h2,r=.agg (zE (driedB b i x) s h2 e)/\K'=[(h2,zB (driedB b i x)),(h,zB b)]):=by
 refine zp 18 hT Tryz.func57 fun Y hret=>?_
 refine au [] ?_
 have hfl:=yy bandC 2 (fun _=>rfl) b.shrinks
 refine au [4,5,21] ?_
 intro jb hjb
 refine au [21] ?_
 intro jx hjx
 refine au [22] ?_
 intro jr hjr
 refine au [3,4,5] ?_
 refine TK.newR Z Z Z (zt (l:=[]) Z zF.h TyZ.h dQ dQ Z) (fun _=>zu rfl tQ) fun j1 hj1=>?_
 refine au [7,9] ?_
 refine TK.appG (ln:=b.shrinks.flatMap bandC) Z Z Z ApOf.h Z mQ Z Z Z (fun hp=>vu mQ oQ (wl hfl oQ)) (fun h=>lK oQ) (kz bandC (fun _=>rfl) _) (by unfold maxLen; omega) oQ (fun _=>uQ) (fun _=>zu rfl tQ) fun h2=>?_
 simp only [List.nil_append,mO]
 refine au [7,17,3,4,5,7,9,1,8,37] ?_
 refine TK.st Z Z Z (zX Z Z zi.h Z Z mQ (zgn (x:=x) hi Z)) uQ (putN Z) ?_
 refine au [3,4] ?_
 refine TK.unrowAt (c:=jb) (i:=5) (j:=h2) Z mQ uQ ?_
 refine TK.frzRow (j:=h2) ?_
 rw [show b.shrinks.length=(driedB b i x).shrinks.length by simp [driedB]]
 refine au [5,8,17,3] ?_
 refine TK.rt hret [(h2,_),(h,_)] ?_
 exact ⟨h2,rfl,rfl⟩
def AgrE (b:RBk) (s h e:Nat) (K:KV) (r:AV) (K':KV):Prop:=(zr b≠0/\r=.tup [.agg z7R,intA (zr b)]/\K'=K)\/(zr b=0/\zf b=[]/\r=.tup [.agg z7R,intA 9]/\K'=K)\/(zr b=0/\zf b≠[]/\r=.tup [.agg (zE b s h e),intA 0]/\K'=K)
instance:Cal tp 122:={}
instance:Cal tp 126:={}
instance:Cal tp 61:={}
theorem xE {main T} (hT:zo tp main T) {gm} {x y:RBand} :
  zA tp T gm 61 [.agg (bandC x),.agg (bandC y)] [] (fun r K'=>r=.agg (bandC ⟨max x.low y.low,min x.high y.high⟩)/\K'=[]):=by
 refine zp 16 hT Tryz.func61 fun Y hret=>?_
 refine au [4,5,21] ?_
 intro jx hjx
 refine au [21] ?_
 intro jy hjy
 refine au [22] ?_
 intro jr hjr
 refine au [3,4,5,7,9,7,9] ?_
 refine TK.a Z (zcY Z Z Z) ?_
 refine au [7,9,7,9] ?_
 refine TK.a Z (zcZ Z Z Z) ?_
 refine au [39,17,3] ?_
 refine TK.rt hret [] ?_
 exact ⟨rfl,rfl⟩
instance:Cal tp 60:={}
theorem xp {b:RBk} {s h e:Nat} {m:RMeas} {k2 k3 k4:Int} {bx:RBand} (hk2:0<=k2/\k2<256) (hk3:0<=k3/\k3<256) (hk4:0<=k4/\k4<256):Top tp gmR 7 [.agg (zE b s h e),.agg (measC m),.v (.int .u8 k2),.v (.int .u8 k3),.v (.int .u8 k4),.agg (bandC bx)] [(0,zy),(s,zk b),(h,zB b),(e,zq b)] (fun r _=>r=zP true):=by
 refine topI 126 Tryz.func7 fun R Y hret=>?_
 have hT:=kH (P:=tp) (AtRet tp 7 R)
 refine au [4,5,21] ?_
 intro jb hjb
 refine au [21] ?_
 intro jm hjm
 refine au [21] ?_
 intro jx hjx
 refine au [2,3,4,4,5,8] ?_
 refine TK.cl Z Z Z Z (zja hT) ?_
 rintro r1 K2 ⟨rfl,rfl⟩
 refine au [30,3,20] ?_
 refine ⟨fun hc0=>?_,fun hc0=>?_⟩
 ·refine au [4,5] ?_
  refine TK.cl Z Z Z Z (zi5) ?_
  rintro r4 K5 ⟨rfl,rfl⟩
  refine au [2,3] ?_
  refine TK.rt hret [] ?_
  rfl
 have hgr:greatM b=false/\zr b=0:=by cases hq:greatM b <;> simp [hq] at hc0; exact ⟨rfl,hc0⟩
 obtain ⟨hgr,hck⟩:=hgr
 have hbb:=zZ hck
 have hl:b.seams.length<=100:=by have:=hbb.sms.len; omega
 have hm:b.measures.length<=100:=by have:=hbb.mes.len; omega
 have hl2:b.shrinks.length<=100:=by have:=hbb.cls.len; omega
 have hst:=hbb.rnd.steps
 obtain ⟨n2,rfl⟩:=Int.eq_ofNat_of_zero_le hk2.1
 obtain ⟨n3,rfl⟩:=Int.eq_ofNat_of_zero_le hk3.1
 obtain ⟨n4,rfl⟩:=Int.eq_ofNat_of_zero_le hk4.1
 have hsl:=hbb.sms.len
 have hcl:=hbb.cls.len
 refine au [12,4] ?_
 refine TK.dr [0,1,2,3,4,5,6,7,8,9,10,11,12,13,14,15,16,17] [0,1,2,3,4,5,8,9,10,12,13,14,15,6,7,11,16,17] ?_
 refine TD.mv [2] ?_
 refine TD.z [22] Z (yU Z Z Und.h Und.h (wK oQ)) ?_
 refine TD.z [6] Z (zg Z Z zl.h dQ) ?_
 refine TD.y [24] Z (hq:=zm Z Z zi.h (mC _) Z) (h:=?_)
 refine TD.z [25] Z (q_len Z Z Z Und.h) ?_
 refine TD.z [23,26] Z (q_rem Z Z Z oQ oQ) ?_
 refine TD.mv [3] ?_
 refine TD.z [28] Z (yU Z Z Und.h Und.h (wK oQ)) ?_
 refine TD.z [6] Z (zg Z Z zl.h dQ) ?_
 refine TD.y [30] Z (hq:=zm Z Z zi.h (mC _) Z) (h:=?_)
 refine TD.z [31] Z (q_len Z Z Z Und.h) ?_
 refine TD.z [29,32] Z (q_rem Z Z Z oQ oQ) ?_
 refine TD.y [6] Z (hq:=z8 Z Z zi.h (mC _) Z) (h:=?_)
 refine TD.mv [4] ?_
 refine TD.cl (pend':=[⟨11,[29,32],[]⟩,⟨10,[31],[]⟩,⟨9,[30],[(_,_)]⟩,⟨8,[6],[]⟩,⟨7,[28],[]⟩,⟨6,[3],[]⟩,⟨5,[23,26],[]⟩,⟨4,[25],[]⟩,⟨3,[24],[(_,_)]⟩,⟨2,[6],[]⟩,⟨1,[22],[]⟩,⟨0,[2],[]⟩]) [34,35] Z Z Z Z Z (qI hT (c:=n4) hsl oQ) (fun r7 K8 h9=>⟨?_,?_⟩)
 ·rcases h9 with ⟨jo,eo,rfl,rfl⟩
  all_goals simp
 obtain ⟨jo,eo,rfl,rfl⟩:=h9
 try simp only [cA]
 refine TD.norm tQ ?_
 refine TD.as (pend':=[⟨11,[29,32],[]⟩,⟨10,[31],[]⟩,⟨9,[30],[(_,_)]⟩,⟨8,[6],[]⟩,⟨7,[28],[]⟩,⟨6,[3],[]⟩]) [27] Z Z (zD Z Z) ?_
 refine TD.as (pend':=[]) [33] Z Z (zD Z Z) ?_
 refine TD.as (pend':=[]) [36] Z Z (zD Z Z) ?_
 refine TD.fin ?_
 refine au [4] ?_
 obtain ⟨d0,hd0,hd1,hdo⟩:=xW (c:=n4) hsl.1 hsl.2
 have hcc:CutsOk b (otherM n4 b.seams.length):=hdo ▸ zeD hbb hd0 hd1
 clear hdo
 generalize otherM n4 b.seams.length=l at hcc ⊢
 have hi2:=Nat.mod_lt n2 (show 0<b.seams.length by omega)
 have hi3:=Nat.mod_lt n3 (show 0<b.seams.length by omega)
 rw [show (n2:Int) % (b.seams.length:Int)=((n2 % b.seams.length:Nat):Int) from rfl,show (n3:Int) % (b.seams.length:Int)=((n3 % b.seams.length:Nat):Int) from rfl]
 generalize n2 % b.seams.length=i at hi2 ⊢
 generalize n3 % b.seams.length=kk at hi3 ⊢
 refine' TK.shr (X:=Nat×(Nat->AV)) (D:=fun x=>True) (E:=fun y=>naL 6 (.ptr jb 0::naL 4 (.ptr jx 0::.any::intA (i:Int)::intA (kk:Int)::.sl jo 0 l.length::.ptr y.1 0::naL 109 []))) (KK:=fun y=>[(0,zy),(s,zk b),(h,zB b),(e,zq b),(jb,.cells (zE b s h e) 26 true),(jx,.cells (bandC bx) 51 true),(jo,.cells (l.map intA) eo false),(y.1,.cells [y.2 0,y.2 1,y.2 2,y.2 3,y.2 4,y.2 5,y.2 6] 26 true)]) ?_ ?_
 rotate_left
 ·intro H
  refine au [5,8,8] ?_
  refine TK.cl Z Z Z Z (zel hT hl hm (m:=m)) ?_
  rintro r10 K11 h12
  rcases h12 with ⟨hbar,rfl,rfl⟩ | ⟨hbar,⟨hb2,rfl,rfl⟩ | ⟨hb2,hn2,rfl,rfl⟩ | ⟨hb2,hn2,s2,h2,e2,rfl,rfl⟩⟩
  ·refine au [] ?_
   exact absurd hck hbar
  ·refine au [1,10,10,22] ?_
   intro jq hjq
   refine au [17,2,3,4,4] ?_
   refine TK.dr [0,1,2,3,4,5,6,7,8,9,10,11,12,13,14,15,16,17,18,19,20,21,22,23,24,25,26,27,28,29,30,31,32] [0,1,2,3,4,5,6,7,8,9,10,11,12,13,14,15,16,17,18,19,20,21,22,23,24,25,26,27,28,29,30,31,32] ?_
   refine TD.mv [17] ?_
   refine TD.z [43] Z (q_cmp Z Z Z Z) ?_
   refine TD.mv [44] ?_
   refine TD.sp 45 (fun g5_3=>?_) (fun g5_3=>?_)
   ·exact absurd (eq_of_beq g5_3) hb2
   refine TD.u [16,45] Z ?_
   refine TD.u [6,45] Z ?_
   refine TD.u [7,45] Z ?_
   refine TD.u [45,47,48] Z ?_
   refine TD.u [45,46,49] Z ?_
   refine TD.u [45,50] Z ?_
   refine TD.u [45,51] Z ?_
   refine TD.u [16,52] Z ?_
   refine TD.u [52,53] Z ?_
   refine TD.u [52,54] Z ?_
   refine TD.u [45,52,55] Z ?_
   refine TD.u [45,56] Z ?_
   refine TD.u [6,57] Z ?_
   refine TD.u [16,57] Z ?_
   refine TD.u [14,57] Z ?_
   refine TD.u [15,57] Z ?_
   refine TD.u [57,58,59,60,61] Z ?_
   refine TD.u [57,62] Z ?_
   refine TD.u [45,57,63] Z ?_
   refine TD.z [45,64] Z (yf Z Z Z) ?_
   refine TD.mv [65] ?_
   refine TD.mv [17,66] ?_
   refine TD.z [66,67] Z (q_cmp Z Z Z Z) ?_
   refine TD.mv [66,68] ?_
   refine TD.sp 69 (fun g5_27=>?_) (fun g5_27=>?_)
   ·refine TD.y [16,69] Z (hq:=z8 Z Z zi.h (mC _) Z) (h:=?_)
    refine TD.z [69] Z (yD (l:=[_,_,_,_,_,_,_]) Z TyZ.h BlOf.h Z) ?_
    refine TD.cl (pend':=[⟨25,[66,67],[]⟩,⟨24,[17,66],[]⟩,⟨23,[65],[]⟩,⟨22,[45,64],[]⟩,⟨21,[45,57,63],[]⟩,⟨20,[57,62],[]⟩,⟨19,[57,58,59,60,61],[]⟩,⟨18,[15,57],[]⟩,⟨17,[14,57],[]⟩,⟨16,[16,57],[]⟩,⟨15,[6,57],[]⟩,⟨14,[45,56],[]⟩,⟨13,[45,52,55],[]⟩,⟨12,[52,54],[]⟩,⟨11,[52,53],[]⟩,⟨10,[16,52],[]⟩,⟨9,[45,51],[]⟩,⟨8,[45,50],[]⟩,⟨7,[45,46,49],[]⟩,⟨6,[45,47,48],[]⟩,⟨5,[7,45],[]⟩,⟨4,[6,45],[]⟩,⟨3,[16,45],[]⟩,⟨2,[44],[]⟩,⟨1,[43],[]⟩,⟨0,[17],[]⟩]) [69,70,71] Z Z Z Z Z (jI hT) (fun r13 K14 h15=>⟨?_,?_⟩)
    ·rcases h15 with ⟨rfl,rfl⟩
     all_goals simp
    obtain ⟨rfl,rfl⟩:=h15
    try simp only [cA]
    refine TD.norm tQ ?_
    refine TD.z [69,72] Z (q_not Z Z) ?_
    refine TD.z [66,69,73] Z (yE Z Z Z) ?_
    refine TD.z [66,74] Z (yf Z Z Z) ?_
    refine TD.fin ?_
    refine au [20] ?_
    refine ⟨fun hc1=>?_,fun hc1=>?_⟩
    ·first | exact absurd hc1 dQ | simp at hc1
    refine au [12,4] ?_
    refine TK.maskL [6,11,13,14,15,16] ?_
    refine TK.kp [(0,_),(s,_),(h,_),(e,_),(jb,_),(jx,_),(jo,_),(jq,_)] ?_
    exact H (jq,fun i=>(z7R).getD i .any) trivial
   exact absurd (by simpa using g5_27) hb2
  ·refine au [1,10,10,22] ?_
   intro jq hjq
   refine au [17,2,3,4,4] ?_
   refine TK.dr [0,1,2,3,4,5,6,7,8,9,10,11,12,13,14,15,16,17,18,19,20,21,22,23,24,25,26,27,28,29,30,31,32] [0,1,2,3,4,5,6,7,8,9,10,11,12,13,14,15,16,17,18,19,20,21,22,23,24,25,26,27,28,29,30,31,32] ?_
   refine TD.mv [17] ?_
   refine TD.z [43] Z (q_cmp Z Z Z Z) ?_
   refine TD.mv [44] ?_
   refine TD.u [16,45] Z ?_
   refine TD.u [6,45] Z ?_
   refine TD.u [7,45] Z ?_
   refine TD.u [45,47,48] Z ?_
   refine TD.u [45,46,49] Z ?_
   refine TD.u [45,50] Z ?_
   refine TD.u [45,51] Z ?_
   refine TD.u [16,52] Z ?_
   refine TD.u [52,53] Z ?_
   refine TD.u [52,54] Z ?_
   refine TD.u [45,52,55] Z ?_
   refine TD.u [45,56] Z ?_
   refine TD.u [6,57] Z ?_
   refine TD.u [16,57] Z ?_
   refine TD.u [14,57] Z ?_
   refine TD.u [15,57] Z ?_
   refine TD.u [57,58,59,60,61] Z ?_
   refine TD.u [57,62] Z ?_
   refine TD.u [45,57,63] Z ?_
   refine TD.z [45,64] Z (yf Z Z Z) ?_
   refine TD.mv [65] ?_
   refine TD.mv [17,66] ?_
   refine TD.z [66,67] Z (q_cmp Z Z Z Z) ?_
   refine TD.mv [66,68] ?_
   refine TD.y [16,69] Z (hq:=z8 Z Z zi.h (mC _) Z) (h:=?_)
   refine TD.z [69] Z (yD (l:=[_,_,_,_,_,_,_]) Z TyZ.h BlOf.h Z) ?_
   refine TD.cl (pend':=[⟨25,[66,67],[]⟩,⟨24,[17,66],[]⟩,⟨23,[65],[]⟩,⟨22,[45,64],[]⟩,⟨21,[45,57,63],[]⟩,⟨20,[57,62],[]⟩,⟨19,[57,58,59,60,61],[]⟩,⟨18,[15,57],[]⟩,⟨17,[14,57],[]⟩,⟨16,[16,57],[]⟩,⟨15,[6,57],[]⟩,⟨14,[45,56],[]⟩,⟨13,[45,52,55],[]⟩,⟨12,[52,54],[]⟩,⟨11,[52,53],[]⟩,⟨10,[16,52],[]⟩,⟨9,[45,51],[]⟩,⟨8,[45,50],[]⟩,⟨7,[45,46,49],[]⟩,⟨6,[45,47,48],[]⟩,⟨5,[7,45],[]⟩,⟨4,[6,45],[]⟩,⟨3,[16,45],[]⟩,⟨2,[44],[]⟩,⟨1,[43],[]⟩,⟨0,[17],[]⟩]) [69,70,71] Z Z Z Z Z (jI hT) (fun r55 K56 h57=>⟨?_,?_⟩)
   ·rcases h57 with ⟨rfl,rfl⟩
    all_goals simp
   obtain ⟨rfl,rfl⟩:=h57
   try simp only [cA]
   refine TD.norm tQ ?_
   refine TD.z [69,72] Z (q_not Z Z) ?_
   refine TD.z [66,69,73] Z (yE Z Z Z) ?_
   refine TD.z [66,74] Z (yf Z Z Z) ?_
   refine TD.fin ?_
   refine au [20] ?_
   refine ⟨fun hc1=>?_,fun hc1=>?_⟩
   ·first | exact absurd hc1 dQ | simp at hc1
   refine au [12,4] ?_
   refine TK.maskL [6,11,13,14,15,16] ?_
   refine TK.kp [(0,_),(s,_),(h,_),(e,_),(jb,_),(jx,_),(jo,_),(jq,_)] ?_
   exact H (jq,fun i=>(z7R).getD i .any) trivial
  ·refine au [1,10,10,22] ?_
   intro jq hjq
   refine au [17,2,3,4,4] ?_
   refine TK.dr [0,1,2,3,4,5,6,7,8,9,10,11,12,13,14,15,16,17,18,19,20,21,22,23,24,25,26,27,28,29,30,31,32] [0,1,2,3,4,5,6,7,8,9,10,11,12,13,14,15,16,17,18,19,20,21,22,23,24,25,26,27,28,29,30,31,32] ?_
   refine TD.mv [17] ?_
   refine TD.z [43] Z (q_cmp Z Z Z Z) ?_
   refine TD.mv [44] ?_
   refine TD.y [16,45] Z (hq:=z8 Z Z zi.h (mC _) Z) (h:=?_)
   refine TD.y [6,45] Z (hq:=z8 Z Z zi.h (mC _) Z) (h:=?_)
   refine TD.y [7,45] Z (hq:=z8 Z Z zi.h (mC _) Z) (h:=?_)
   refine TD.cl (pend':=[⟨3,[16,45],[(_,_)]⟩,⟨1,[43],[]⟩,⟨0,[17],[]⟩]) [45,47,48] Z Z Z Z Z (zap hT (b:=b) (s:=s) (h:=h) (e:=e) (m:=m) hm) (fun r97 K98 h99=>⟨?_,?_⟩)
   ·rcases h99 with ⟨je,rfl,rfl⟩
    all_goals simp
   obtain ⟨je,rfl,rfl⟩:=h99
   try simp only [cA]
   refine TD.norm tQ ?_
   refine TD.cl (pend':=[⟨1,[43],[]⟩,⟨0,[17],[]⟩]) [45,46,49] Z Z Z Z Z (xN hT (b:=yd b m) (by have h1:=(zZ hb2).sms.len; have h2:=(zZ hb2).cls.len; have h3:=(zZ hb2).mes.len; omega) (by have h1:=(zZ hb2).sms.len; have h2:=(zZ hb2).cls.len; have h3:=(zZ hb2).mes.len; omega) (by have h1:=(zZ hb2).sms.len; have h2:=(zZ hb2).cls.len; have h3:=(zZ hb2).mes.len; omega)) (fun r100 K101 h102=>⟨?_,?_⟩)
   ·rcases h102 with ⟨rfl,rfl⟩
    all_goals simp
   obtain ⟨rfl,rfl⟩:=h102
   try simp only [cA]
   refine TD.norm tQ ?_
   refine TD.z [45,50] Z (q_not Z Z) ?_
   refine TD.mv [45,51] ?_
   refine TD.y [16,52] Z (hq:=z8 Z Z zi.h (mC _) Z) (h:=?_)
   refine TD.cl (pend':=[⟨8,[45,50],[]⟩,⟨1,[43],[]⟩,⟨0,[17],[]⟩]) [52,53] Z Z Z Z Z (zeH hT (b:=yd b m) (s:=s2) (h:=h2) (e:=e2) (by have h1:=(zZ hb2).sms.len; have h2:=(zZ hb2).cls.len; have h3:=(zZ hb2).mes.len; omega) (by have h1:=(zZ hb2).sms.len; have h2:=(zZ hb2).cls.len; have h3:=(zZ hb2).mes.len; omega)) (fun r103 K104 h105=>⟨?_,?_⟩)
   ·rcases h105 with ⟨rfl,rfl⟩
    all_goals simp
   obtain ⟨rfl,rfl⟩:=h105
   try simp only [cA]
   refine TD.norm tQ ?_
   rw [hb2]
   refine TD.z [52,54] Z (q_cmp Z Z Z Z) ?_
   refine TD.z [45,52,55] Z (yf Z Z Z) ?_
   refine TD.mv [45,56] ?_
   refine TD.y [6,57] Z (hq:=z8 Z Z zi.h (mC _) Z) (h:=?_)
   refine TD.y [16,57] Z (hq:=z8 Z Z zi.h (mC _) Z) (h:=?_)
   refine TD.mv [14,57] ?_
   refine TD.mv [15,57] ?_
   refine TD.cl (pend':=[⟨13,[45,52,55],[]⟩,⟨12,[52,54],[]⟩,⟨8,[45,50],[]⟩,⟨1,[43],[]⟩,⟨0,[17],[]⟩]) [57,58,59,60,61] Z Z Z Z Z (xb (b:=b) (sh:=b.shrinks) (me:=b.measures++[m]) (i:=kk) (l:=l) hck hb2 hn2 (fun s hs=>(xv b m).subset hs) (xv b m).length_le hi3 hcc) (fun r106 K107 h108=>⟨?_,?_⟩)
   ·rcases h108 with ⟨rfl,rfl⟩
    all_goals simp
   obtain ⟨rfl,rfl⟩:=h108
   try simp only [cA]
   refine TD.norm tQ ?_
   refine TD.z [57,62] Z (q_not Z Z) ?_
   refine TD.z [45,57,63] Z (yf Z Z Z) ?_
   refine TD.z [45,64] Z (yE Z Z Z) ?_
   refine TD.mv [65] ?_
   refine TD.mv [17,66] ?_
   refine TD.z [66,67] Z (q_cmp Z Z Z Z) ?_
   refine TD.mv [66,68] ?_
   refine TD.u [16,69] Z ?_
   refine TD.u [69] Z ?_
   refine TD.u [69,70,71] Z ?_
   refine TD.u [69,72] Z ?_
   refine TD.z [66,69,73] Z (yf Z Z Z) ?_
   refine TD.z [66,74] Z (yf Z Z Z) ?_
   refine TD.fin ?_
   refine au [19,12,4] ?_
   refine TK.maskL [6,11,13,14,15,16] ?_
   refine TK.kp [(0,_),(s,_),(h,_),(e,_),(jb,_),(jx,_),(jo,_),(jq,_)] ?_
   exact H (jq,fun i=>(zE (yd b m) s2 h2 e2).getD i .any) trivial
 ·rintro ⟨jq,z⟩ _; dsimp only; have hbt:bar2 (zr b) (thereM b (i:Int))=0:=by rw [kF hck]; exact xQ (by simp [betw]; omega)
  refine TK.na nQ ?_
  refine au [5,8,1,8] ?_
  refine TK.cl Z Z Z Z (zeL hT hl hm (n:=(i:Int)) (x:=bx)) ?_
  rintro r109 K110 h111
  rcases h111 with ⟨hbar,rfl,rfl⟩ | ⟨hbar,hi1,rfl,rfl⟩ | ⟨hbar,hi1,hlt,rfl,rfl⟩ | ⟨hbar,hi1,hge,⟨hb2,rfl,rfl⟩ | ⟨hb2,hn2,rfl,rfl⟩ | ⟨hb2,hn2,s2,h2,e2,rfl,rfl⟩⟩
  ·refine au [] ?_
   exact absurd hbt hbar
  ·refine au [1,10,10,17,2,3,4,4,5,1,6,3,20] ?_
   refine ⟨fun hc2=>?_,fun hc2=>?_⟩
   ·
    refine au [4,5,1,6,1,11,11,26,1,8,44] ?_
    refine TK.cl Z Z Z Z (jI hT) ?_
    rintro r112 K113 ⟨rfl,rfl⟩
    refine au [26,1] ?_
    refine TK.cl Z Z Z Z (zi5) ?_
    rintro r115 K116 ⟨rfl,rfl⟩
    refine au [26,2,3] ?_
    refine TK.rt hret [] ?_
    rfl
   exact absurd hc2 dQ
  ·refine au [1,10,10,17,2,3,4,4,5,1,6,3,20] ?_
   refine ⟨fun hc2=>?_,fun hc2=>?_⟩
   ·
    refine au [4,5,1,6,1,1,6,25,1,8,44] ?_
    refine TK.cl Z Z Z Z (jI hT) ?_
    rintro r118 K119 ⟨rfl,rfl⟩
    refine au [26,1] ?_
    refine TK.cl Z Z Z Z (zi5) ?_
    rintro r121 K122 ⟨rfl,rfl⟩
    refine au [26,2,3] ?_
    refine TK.rt hret [] ?_
    rfl
   exact absurd hc2 dQ
  ·refine au [] ?_
   exact absurd (xw (xn hbb (i:=i) (z:=dryX b (i:Int) bx) oQ (show (bd b i).low<=max (bd b i).low bx.low from Int.le_max_left _ _) hge (show min (bd b i).high bx.high<=(bd b i).high from Int.min_le_left _ _))) hb2
  ·refine au [1,10,10,17,2,3,4,4,5,1,6,3,20] ?_
   refine ⟨fun hc2=>?_,fun hc2=>?_⟩
   ·
    refine au [4,5,1,6,1,1,6,25,1,8,44] ?_
    refine TK.cl Z Z Z Z (jI hT) ?_
    rintro r124 K125 ⟨rfl,rfl⟩
    refine au [26,1] ?_
    refine TK.cl Z Z Z Z (zi5) ?_
    rintro r127 K128 ⟨rfl,rfl⟩
    refine au [26,2,3] ?_
    refine TK.rt hret [] ?_
    rfl
   exact absurd hc2 dQ
  ·refine au [1,10,10,17,2,3,4,4,5,1,6,3,20] ?_
   refine ⟨fun hc2=>?_,fun hc2=>?_⟩
   ·exact absurd hc2 dQ
   refine au [12,4] ?_
   have hdo:=xn hbb (i:=i) (z:=dryX b (i:Int) bx) oQ (show (bd b i).low<=max (bd b i).low bx.low from Int.le_max_left _ _) hge (show min (bd b i).high bx.high<=(bd b i).high from Int.min_le_left _ _)
   have hds:=qb (b:=b) (i:=i) (z:=dryX b (i:Int) bx) oQ (show (bd b i).low<=max (bd b i).low bx.low from Int.le_max_left _ _) (show min (bd b i).high bx.high<=(bd b i).high from Int.min_le_left _ _)
   refine TK.dr [0,1,2,3,4,5,6,7,8,9,10,11,12,13,14,15,16,17,18,19,20,21,22,23,24,25,26,27] [0,1,2,3,4,5,6,7,8,9,10,11,12,13,14,15,16,17,18,19,20,21,22,23,24,25,26,27] ?_
   refine TD.y [16] Z (hq:=z8 Z Z zi.h (mC _) Z) (h:=?_)
   refine TD.y [6] Z (hq:=z8 Z Z zi.h (mC _) Z) (h:=?_)
   refine TD.mv [13] ?_
   refine TD.z [6] Z (zg Z Z zl.h dQ) ?_
   refine TD.y [102] Z (hq:=zm Z Z zi.h (mC _) Z) (h:=?_)
   refine TD.mv [13] ?_
   refine TD.ix [103,104] ?_
   refine TD.y [105] Z (hq:=z8 Z Z zi.h (mC _) (w9 (c:=2) (f:=bandC) (fun _=>rfl) (ko (b:=b) (i:=i) oQ) rfl dQ)) (h:=?_)
   refine TD.y [11] Z (hq:=z8 Z Z zi.h (mC _) Z) (h:=?_)
   refine TD.cl (pend':=[⟨6,[103,104],[]⟩,⟨5,[13],[]⟩,⟨4,[102],[(_,_)]⟩,⟨3,[6],[]⟩,⟨2,[13],[]⟩,⟨1,[6],[(_,_)]⟩,⟨0,[16],[(_,_)]⟩]) [106,107] Z Z Z Z Z (xE hT (x:=bd b i) (y:=bx)) (fun r130 K131 h132=>⟨?_,?_⟩)
   ·rcases h132 with ⟨rfl,rfl⟩
    all_goals simp
   obtain ⟨rfl,rfl⟩:=h132
   try simp only [cA]
   refine TD.norm tQ ?_
   refine TD.cl (pend':=[⟨6,[103,104],[]⟩,⟨5,[13],[]⟩,⟨4,[102],[(_,_)]⟩,⟨3,[6],[]⟩,⟨0,[16],[(_,_)]⟩]) [100,101,108] Z Z Z Z Z (qa hT (b:=b) (s:=s) (h:=h) (e:=e) (i:=i) (x:=dryX b (i:Int) bx) oQ oQ) (fun r133 K134 h135=>⟨?_,?_⟩)
   ·rcases h135 with ⟨h3,rfl,rfl⟩
    all_goals simp
   obtain ⟨h3,rfl,rfl⟩:=h135
   try simp only [cA]
   refine TD.norm tQ ?_
   refine TD.cl (pend':=[⟨6,[103,104],[]⟩,⟨5,[13],[]⟩,⟨4,[102],[(_,_)]⟩,⟨3,[6],[]⟩]) [99,109] Z Z Z Z Z (xN hT (b:=driedB b i (dryX b (i:Int) bx)) hl (by show (b.shrinks.set i _).length<=100; rw [List.length_set]; omega) hm) (fun r136 K137 h138=>⟨?_,?_⟩)
   ·rcases h138 with ⟨rfl,rfl⟩
    all_goals simp
   obtain ⟨rfl,rfl⟩:=h138
   try simp only [cA]
   refine TD.norm tQ ?_
   refine TD.mv [110] ?_
   refine TD.y [16,111] Z (hq:=z8 Z Z zi.h (mC _) Z) (h:=?_)
   refine TD.cl (pend':=[⟨6,[103,104],[]⟩,⟨5,[13],[]⟩,⟨4,[102],[(_,_)]⟩,⟨3,[6],[]⟩]) [111,112] Z Z Z Z Z (zeH hT (b:=driedB b i (dryX b (i:Int) bx)) (s:=s2) (h:=h2) (e:=e2) hl hm) (fun r139 K140 h141=>⟨?_,?_⟩)
   ·rcases h141 with ⟨rfl,rfl⟩
    all_goals simp
   obtain ⟨rfl,rfl⟩:=h141
   try simp only [cA]
   refine TD.norm tQ ?_
   rw [xw hdo]
   refine TD.z [111,113] Z (q_cmp Z Z Z Z) ?_
   refine TD.z [111,114] Z (yE Z Z Z) ?_
   refine TD.mv [115] ?_
   refine TD.y [6,116] Z (hq:=z8 Z Z zi.h (mC _) Z) (h:=?_)
   refine TD.y [16,116] Z (hq:=z8 Z Z zi.h (mC _) Z) (h:=?_)
   refine TD.mv [14,116] ?_
   refine TD.mv [15,116] ?_
   refine TD.cl (pend':=[⟨16,[111,114],[]⟩,⟨15,[111,113],[]⟩,⟨6,[103,104],[]⟩,⟨5,[13],[]⟩,⟨4,[102],[(_,_)]⟩,⟨3,[6],[]⟩]) [116,117,118,119,120] Z Z Z Z Z (xb (b:=b) (sh:=b.shrinks.set i (dryX b (i:Int) bx)) (me:=b.measures) (i:=kk) (l:=l) hck hb2 hn2 (fun s hs=>hds.subset hs) hds.length_le hi3 hcc) (fun r142 K143 h144=>⟨?_,?_⟩)
   ·rcases h144 with ⟨rfl,rfl⟩
    all_goals simp
   obtain ⟨rfl,rfl⟩:=h144
   try simp only [cA]
   refine TD.norm tQ ?_
   refine TD.z [116,121] Z (yE Z Z Z) ?_
   refine TD.mv [122] ?_
   refine TD.cl (pend':=[⟨23,[116,121],[]⟩,⟨16,[111,114],[]⟩,⟨15,[111,113],[]⟩,⟨6,[103,104],[]⟩,⟨5,[13],[]⟩,⟨4,[102],[(_,_)]⟩,⟨3,[6],[]⟩]) [123] Z Z Z Z Z (zi5) (fun r145 K146 h147=>⟨?_,?_⟩)
   ·rcases h147 with ⟨rfl,rfl⟩
    all_goals simp
   obtain ⟨rfl,rfl⟩:=h147
   try simp only [cA]
   refine TD.norm tQ ?_
   refine TD.z [123,124] Z (yE Z Z Z) ?_
   refine TD.as (pend':=[]) [125] Z Z (zD Z Z) ?_
   refine TD.fin ?_
   refine au [] ?_
   refine TK.rt hret [] ?_
   rfl
end Go.Vel
end
