/- Texts for the statements of chapter 8: what all of them need, part 9. It holds of every program, tape and world that the statements name, as each theorem says. -/
import Derived.Test.YtfplagcfmdkakaaGreatDoorN6
import Derived.Test.YtfplagcfmdkakaaGreatDoorN7
section
set_option linter.all false
set_option maxRecDepth 20000
set_option maxHeartbeats 60000000
open Go.Proofs.Tryz renaming prog -> tp
open List renaming getElem?_eq_getElem -> lA, nil_append -> lC, getD_eq_getElem?_getD -> lE, length_append -> lF, perm_append_comm -> lH, mem_cons -> lI, eq_nil_of_length_eq_zero -> lK, map_append -> lM, mem_of_getElem? -> lN, getElem?_map -> lQ, append_nil -> lR, mem_singleton -> lS, mem_append -> lT, take_length -> lW, mem_map -> lY
open List.Mem renaming head -> mC
open Nat renaming le_refl -> mL, zero_le -> mN, zero_add -> mO, eq_zero_or_pos -> mP
open Go.Vel.TK renaming maskL -> bA, rt -> bB, kp -> bC, cl -> bD, loopN -> bE, na -> bG, a -> bH, newR -> bI, dq -> bL, dr -> bM, perm -> bN, appR -> bO, frzRow -> bY
open Go.Vel.TD renaming cl -> bQ, s -> bR, norm -> bS, y -> bT, z -> bU, cnewR -> bV, cnewP -> bX
namespace Go.Vel
open Go Go.Conc Go.Proofs
theorem TK.shareX {P:Program} {gm:Nat->Option Nat} {T:Goroutine->Hp->Prop} {Y:KX P gm T} {ds:List Nat} {k k':List Item} {env:List AV} {K:KV} {X:Type} {D:X->Prop} {E:X->List AV} {KK:X->KV} (main:(∀ x,D x->TK Y ds k' (E x) (KK x))->TK Y ds k env K) (tail:∀ x,D x->TK Y ds k' (E x) (KK x)):TK Y ds k env K:=main tail
def cvC (c:CvR):List AV:=[intA c.spot.far,intA c.spot.high.num,intA c.spot.high.den,intA c.at0,intA c.high.num,intA c.high.den]
theorem zlA {b:TrB} (hb:TrOk b) {q:Int} {i:Nat} (h1:1<=i) (h2:i<b.earth.length) (h3:(ptI b (i - 1)).far<=q) (h4:q<=(ptI b i).far) : -3660<=((ptI b i).high - (ptI b (i - 1)).high)*(q - (ptI b (i - 1)).far)/\((ptI b i).high - (ptI b (i - 1)).high)*(q - (ptI b (i - 1)).far)<=3660:=by
 have q1:=hb.ea (i - 1) oQ;have q2:=hb.ea i h2;have hc:=hb.cv;have m:=kN (x:=(ptI b i).high - (ptI b (i - 1)).high) (y:=q - (ptI b (i - 1)).far+1) (A:=60) (E:=60) oQ oQ;have e:((ptI b i).high - (ptI b (i - 1)).high)*(q - (ptI b (i - 1)).far+1)=((ptI b i).high - (ptI b (i - 1)).high)*(q - (ptI b (i - 1)).far)+((ptI b i).high - (ptI b (i - 1)).high):=by rw [Int.mul_add,Int.mul_one]
 omega
structure SegI (b:TrB) (q:Int) (i:Nat):Prop where
 r:1<=i/\i<b.earth.length
 lo:(ptI b (i - 1)).far<=q
 g:segM b q i (b.earth.length - 1 - i)=segN b q
theorem seg_0 {b:TrB} (hb:TrOk b) {q:Int} (h:(ptI b 0).far<=q):SegI b q 1:=⟨by have:=hb.ne; omega,h,by unfold segN; rw [show b.earth.length - 1 - 1=b.earth.length - 2 by omega]⟩
theorem seg_S {b:TrB} {q:Int} {i:Nat} (h:SegI b q i) (hq:q<=(ptI b (b.earth.length - 1)).far) (hc:(ptI b i).far<q):SegI b q (i+1):=by
 have h1:=h.r;have h2:i≠b.earth.length - 1:=fun e=>by rw [e] at hc; omega
 refine ⟨by omega,by show (ptI b i).far<=q; omega,?_⟩;rw [<- h.g,show b.earth.length - 1 - i=(b.earth.length - 1 - (i+1))+1 by omega,segM,if_pos hc]
theorem zge {b:TrB} {q:Int} {i:Nat} (h:SegI b q i) (hc:¬ (ptI b i).far<q):segN b q=i:=by
 rw [<- h.g];generalize b.earth.length - 1 - i=k;cases k with
 | zero=>rfl
 | succ k=>rw [segM,if_neg hc]
theorem zkL {b:TrB} (hb:TrOk b) {back high:Int} {p:SpR} (h1:1<=back/\back<=20) (hh:0<=high/\high<=60) (h2:0<=p.far/\p.far<=60) (h3:RBd 10000 60 p.high):(-1088000<=(minusM p.high (wholeM high)).num*(lowM (b.canvas+back) (p.far+back)).num/\(minusM p.high (wholeM high)).num*(lowM (b.canvas+back) (p.far+back)).num<=1088000)/\0<(minusM p.high (wholeM high)).den*(lowM (b.canvas+back) (p.far+back)).den/\(minusM p.high (wholeM high)).den*(lowM (b.canvas+back) (p.far+back)).den<=4800:=by
 have hw:=ziS hb h1 h2;have hu:=up_bd h3 hh;refine ⟨?_,zb7 (D:=60) (E:=80) hu.d hw.d⟩;have hx:=hu.n;have hy:=hw.n;generalize (minusM p.high (wholeM high)).num=x at hx ⊢;generalize (lowM (b.canvas+back) (p.far+back)).num=y at hy ⊢;rcases Int.lt_or_le 0 y with hp | hp
 ·exact kN hx ⟨hp,hy.2⟩
 ·rcases Int.lt_or_le y 0 with hq | hq
  ·have m:=kN hx (y := -y) (E:=80) ⟨by omega,oQ⟩;rw [Int.mul_neg] at m;omega
  ·have:y=0:=by omega
   subst this;rw [Int.mul_zero]; omega
def CvsAt (ob:AObj) (off:Nat) (xs:List CvR):Prop:=∀ (i:Nat) (h:i<xs.length),takeO ob (off+(i:Int).toNat*6) 6=some (cvC xs[i])
abbrev CB (c:CvR):Prop:=RBd 2000000 4800 c.high
theorem zfV {xs:List CvR} {one:CvR} {i:Nat} (h:i<xs.length):greatM2 lowerM one (xs.take (i+1))=if lowerM (greatM2 lowerM one (xs.take i)) xs[i]=true then xs[i] else greatM2 lowerM one (xs.take i):=by
 unfold greatM2;rw [List.take_add_one,lA h,List.foldl_append];rfl
theorem zec {xs:List CvR} {one:CvR} (h1:CB one) (h:∀ x∈xs,CB x):CB (greatM2 lowerM one xs):=by
 rcases zaw lowerM xs one with e | e
 ·rw [e]; exact h1
 ·exact h _ e
theorem zjd {xs:List CvR} {e:TypeId} {rw':Bool}:CvsAt (.cells (xs.flatMap cvC) e rw') 6 (xs.drop 1):=fun i h=>by
 have h1:i+1<xs.length:=by simp at h; omega
 have h2:(xs.drop 1)[i]=xs[i+1]:=by rw [List.getElem_drop]; congr 1; omega
 rw [h2,show 6+(i:Int).toNat*6=0+((i+1:Nat):Int).toNat*6 by simp; omega];exact kA (c:=6) (f:=cvC) (fun _=>rfl) (lA h1) rfl dQ
theorem zkO {b:TrB} {back high:Int} {i:Nat} (h:i<b.earth.length):(edgesM b back high).take (i+1)=(edgesM b back high).take i++[earthC b back high i]:=by
 have h2:(edgesM b back high)[i]? =some (earthC b back high i):=by unfold edgesM; rw [lQ,List.getElem?_range h]; rfl
 rw [List.take_add_one,h2];rfl
theorem zas (b:TrB) (back high:Int):(edgesM b back high).length=b.earth.length:=by unfold edgesM; simp
theorem uO {b:TrB} (hb:TrOk b) {back high:Int} (h1:1<=back/\back<=20) (hh:0<=high/\high<=60):∀ c∈edgesM b back high,CB c:=fun c hc=>by
 obtain ⟨i,hi,rfl⟩:=lY.1 hc;have hq:=hb.ea i (List.mem_range.1 hi);have hcv:=hb.cv;exact zhq hb h1 hh (by show 0<=(ptI b i).far/\(ptI b i).far<=60; omega) ((yL (A:=60) oQ).le dQ dQ)
theorem zfI {b:TrB} (hb:TrOk b) {back high:Int} (h1:1<=back/\back<=20) (hh:0<=high/\high<=60):CB (edgeM b back high):=by
 have hn:=hb.ne;refine zec (uO hb h1 hh _ (lY.2 ⟨0,List.mem_range.2 oQ,rfl⟩)) fun x hx=>uO hb h1 hh x (List.mem_of_mem_drop hx)
theorem far60 {b:TrB} (hb:TrOk b) {x:TPr} (hx:(ptI b 0).far<=x.place/\x.place<=(ptI b (b.earth.length - 1)).far):0<=x.place/\x.place<=60:=by
 have h1:=hb.ne;have h2:=hb.ea 0 oQ;have h3:=hb.ea (b.earth.length - 1) oQ;have h4:=hb.cv;omega
theorem height_bd' {b:TrB} (hb:TrOk b) {q:Int} (hq:(ptI b 0).far<=q/\q<=(ptI b (b.earth.length - 1)).far):RBd 8000 60 (heightM b q):=by
 have hf:=far60 hb (x:=⟨q,0⟩) hq;have key:∀ m k,b.earth.length - k=m->SegI b q k->∃ j,SegI b q j/\¬ (ptI b j).far<q:=fun m=>by
  induction m with
  | zero=>intro k h1 h2; have:=h2.r; omega
  | succ m ih =>
   intro k h1 h2;by_cases hc:(ptI b k).far<q
   ·exact ih (k+1) oQ (seg_S h2 hq.2 hc)
   ·exact ⟨k,h2,hc⟩
 obtain ⟨j,hj,e⟩:=key _ 1 rfl (seg_0 hb hq.1);have e2:=zge hj e;exact zhJ hb hf (by rw [e2]; exact hj.lo) (by rw [e2]; omega)
theorem top_bd' {b:TrB} (hb:TrOk b) {i:Nat} (hi:i<b.props.length):RBd 10000 60 (topM b (prI b i)).high:=by
 have hq:=hb.pr i hi;exact zm3 (height_bd' hb ⟨hq.1,hq.2.1⟩) oQ
theorem uI {b:TrB} (hb:TrOk b) {back high:Int} (h1:1<=back/\back<=20) (hh:0<=high/\high<=60):∀ i,i<=b.props.length->∀ c∈topsI b back high i,CB c
 | 0,_,c,h=>by cases h
 | i+1,hi,c,h=>by
  unfold topsI at h;split at h
  ·exact uI hb h1 hh i oQ c h
  ·rcases lT.1 h with h | h
   ·exact uI hb h1 hh i oQ c h
   ·rw [lS.1 h];have hq:=hb.pr i oQ;exact zhq hb h1 hh (far60 hb ⟨hq.1,hq.2.1⟩) (top_bd' hb oQ)
theorem zaQ (b:TrB) (back high:Int):∀ i,(topsI b back high i).length<=i
 | 0=>mL _
 | i+1=>by
  have h:=zaQ b back high i;unfold topsI;split
  ·omega
  ·rw [lF,List.length_singleton]; omega
theorem zgo {b:TrB} {back high:Int} {i:Nat} (h:(topsI b back high i).any (fun c=>decide (c.spot=topM b (prI b i)))=true):topsI b back high (i+1)=topsI b back high i:=by
 rw [topsI,if_pos h]
theorem zgn {b:TrB} {back high:Int} {i:Nat} (h:(topsI b back high i).any (fun c=>decide (c.spot=topM b (prI b i)))=false):topsI b back high (i+1)=topsI b back high i++[coverM b back high i (topM b (prI b i))]:=by
 rw [topsI,if_neg (by rw [h]; decide)]
theorem zhR {A D:Int} {a c:RatR} (ha:RBd A D a) (hc:RBd A D c):RBd A D (maxM a c):=by unfold maxM; split <;> assumption
theorem zcD {A D:Int}:∀ (l:List CvR) (lo:RatR),RBd A D lo->(∀ c∈l,RBd A D c.high)->RBd A D (lowF lo l)
 | [],lo,h,_=>h
 | c::l,lo,h,hl=>zcD l (maxM lo c.high) (zhR h (hl c (.head _))) fun x hx=>hl x (.tail _ hx)
theorem zl9 {l:List CvR} {lo:RatR} {i:Nat} (h:i<l.length):lowF lo (l.take (i+1))=maxM (lowF lo (l.take i)) l[i].high:=by
 unfold lowF;rw [List.take_add_one,lA h,List.foldl_append];rfl
theorem zfZ {b:TrB} (hb:TrOk b) {back high:Int} (h1:1<=back/\back<=20) (hh:0<=high/\high<=60):RBd 2000000 4800 (lowI b back high)/\RBd 2000000 4800 (highI b back high):=by
 have he:=zfI hb h1 hh;have hw:RBd 2000000 4800 (wholeM b.paint):=(yL (A:=60) (by have:=hb.pa; omega)).le dQ dQ;unfold lowI highI;split
 ·exact ⟨he,hw⟩
 ·exact ⟨hw,he⟩
theorem ze6 {b:TrB} (hb:TrOk b) {back high:Int} (h1:1<=back/\back<=20) (hh:0<=high/\high<=60):RBd 19200000000 23040000 (minusM (highI b back high) (lowF (lowI b back high) (topsM b back high)))/\RBd 19200000000 23040000 (shownM b back high):=by
 have h0:=zfZ hb h1 hh;have hl:=zcD (topsM b back high) _ h0.1 (uI hb h1 hh _ (mL _));have hm:=(zeq h0.2 hl).le (B:=19200000000) (E:=23040000) dQ dQ;exact ⟨hm,zhR hm ((yL (n:=0) (A:=60) dQ).le dQ dQ)⟩
theorem zhj {xs:List CvR} {p:CvR->Bool} {i:Nat} (h:i<xs.length) (hn:(xs.take i).any p=false) (he:p xs[i]=false):(xs.take (i+1)).any p=false:=by
 rw [List.take_add_one,lA h,List.any_append,hn];simp [he]
theorem any_T {xs:List CvR} {p:CvR->Bool} {i:Nat} (h:i<xs.length) (he:p xs[i]=true):xs.any p=true:=List.any_eq_true.2 ⟨_,List.getElem_mem h,he⟩
instance:ApOf tp 221 219 6 48:={}
instance:BlOf tp 108 [(0,1),(1,1)]:={}
instance:BlOf tp 217 [(0,1),(1,2)]:={}
instance:BlOf tp 219 [(0,3),(3,1),(4,2)]:={}
instance:zf tp 108 0 0 false 1:={}
instance:zf tp 108 1 1 false 1:={}
instance:zf tp 217 0 0 false 1:={}
instance:zf tp 217 1 1 true 2:={}
instance:zf tp 219 0 0 true 3:={}
instance:zf tp 219 2 4 true 2:={}
instance:zz tp 221 219 6:={}
instance:zz tp 265 28 2:={}
instance:zd tp 108 true 2:={}
instance:zd tp 217 true 3:={}
instance:zd tp 219 true 6:={}
instance:TyZ tp 108 [.int .i64 0,.int .i64 0]:={}
instance:TyZ tp 217 [.int .i64 0,.int .i64 0,.int .i64 0]:={}
instance:TyZ tp 219 [.int .i64 0,.int .i64 0,.int .i64 0,.int .i64 0,.int .i64 0,.int .i64 0]:={}
instance:TyZA tp 108 [.v (.int .i64 0),.v (.int .i64 0)]:={}
instance:TyZA tp 217 [.v (.int .i64 0),.v (.int .i64 0),.v (.int .i64 0)]:={}
instance:TyZA tp 219 [.v (.int .i64 0),.v (.int .i64 0),.v (.int .i64 0),.v (.int .i64 0),.v (.int .i64 0),.v (.int .i64 0)]:={}
instance:Und tp 221 (.slice 219):={}
instance:Und tp 265 (.slice 28):={}
theorem zco {main T} (hT:zm tp main T) {gm} {b:TrB} {e p y:Nat} (hb:TrOk b) {q:Int} (hq:(ptI b 0).far<=q/\q<=(ptI b (b.earth.length - 1)).far) :
  zq tp T gm 166 [.agg (trC b e p y),intA q] [(e,ptO b)] (fun r K'=>r=.agg (ratC (heightM b q))/\K'=[(e,ptO b)]):=by
 refine zl 52 hT Tryz.func166 fun Y hret=>?_;refine au 0 ?_;have hne:=hb.ne;have hcv:=hb.cv;refine au 21042 ?_;intro jb hjb;refine au 220 ?_;intro jr hjr;refine au 130235423 ?_;refine bA [1,2,4,5] ?_;refine bE (fun m env K=>∃ (i:Nat),m=b.earth.length - i/\SegI b q i/\env=.any::intA q::.ptr jb 0::.any::.ptr jr 0::intA i::naL 46 []/\K=[(jr,.cells [intA 0,intA 0] 28 true),(jb,.cells (trC b e p y) 95 true),(e,ptO b)]) (b.earth.length - 1) ⟨1,rfl,seg_0 hb hq.1,rfl,rfl⟩ fun m env K hI hnext=>?_;obtain ⟨i,rfl,hs,rfl,rfl⟩:=hI;have hsr:=hs.r;have hsl:=hs.lo;have hq1:=hb.ea (i - 1) oQ;have hq2:=hb.ea i hsr.2;have hq3:=hb.sc (i - 1) oQ;rw [show i - 1+1=i by omega] at hq3;refine bG nQ ?_;refine au 67036016906706701422 ?_;refine bH Z (zg Z Z zd.h mQ (zW (c:=0) (pt_at b (i:=i) hsr.2 Z) dQ Z)) ?_;refine au 937 ?_;constructor<;>intro hc0
 ·have hlt:(ptI b i).far<q:=by simp at hc0; omega
  refine au 1403523014130120 ?_;refine bA [1,2,4,5] ?_;refine bC [(jr,_),(jb,_),(e,_)] ?_;exact hnext _ _ _ oQ ⟨i+1,rfl,seg_S hs hq.2 hlt,rfl,rfl⟩
 have hlt:¬ (ptI b i).far<q:=by simp at hc0; omega
 have hse:=zge hs hlt;have hm:=zlA hb hsr.1 hsr.2 hsl oQ;refine au 2160 ?_;refine bL [0,1,2,3,4,5,6,13,14,15,7,8,9,10,11,12,16] ?_;refine ad [[3,2],[3,19],[10,20],[1,5],[9,22],[2,21,23]] ?_;refine bT [24] Z (hq:=zI Z Z zd.h (mC _) (pt_at b (i:=i - 1) oQ oQ)) (h:=?_);refine ad [[3,2],[3,26],[10,27],[1,5],[2,28,29]] ?_;refine bT [30] Z (hq:=zI Z Z zd.h (mC _) (pt_at b (i:=i) hsr.2 Z)) (h:=?_);refine TD.c2 (i1:=13) (i2:=14) (pend1:=[⟨12,[30],[(_,_)]⟩,⟨11,[28,29],[]⟩,⟨10,[5],[]⟩,⟨9,[27],[(_,_)]⟩,⟨8,[26],[]⟩,⟨7,[2],[]⟩,⟨6,[24],[(_,_)]⟩,⟨5,[21,23],[]⟩,⟨4,[22],[]⟩,⟨3,[5],[]⟩,⟨2,[20],[(_,_)]⟩,⟨1,[19],[]⟩,⟨0,[2],[]⟩]) (pend2:=[⟨12,[30],[(_,_)]⟩,⟨11,[28,29],[]⟩,⟨10,[5],[]⟩,⟨9,[27],[(_,_)]⟩,⟨8,[26],[]⟩,⟨7,[2],[]⟩,⟨6,[24],[(_,_)]⟩,⟨5,[21,23],[]⟩,⟨4,[22],[]⟩,⟨3,[5],[]⟩,⟨2,[20],[(_,_)]⟩,⟨1,[19],[]⟩,⟨0,[2],[]⟩]) (L1:=[14,15,16]) (L2:=[13,15,16]) [] [] Z Z Z Z Z Z Z ?_ ?_
 ·refine yu Z (zU Z TyZA.h) (fun _=>zn rfl tQ) sQ fun jp hjp=>?_;refine bX (pend':=[⟨12,[30],[(_,_)]⟩,⟨11,[28,29],[]⟩,⟨10,[5],[]⟩,⟨9,[27],[(_,_)]⟩,⟨8,[26],[]⟩,⟨7,[2],[]⟩,⟨6,[24],[(_,_)]⟩,⟨5,[21,23],[]⟩,⟨4,[22],[]⟩,⟨3,[5],[]⟩,⟨2,[20],[(_,_)]⟩,⟨1,[19],[]⟩,⟨0,[2],[]⟩]) [] Z Z Z Z Z (zU Z TyZA.h) (fun _=>zn rfl tQ) sQ fun jq hjq=>?_;refine bR (pend':=[⟨12,[30],[(_,_)]⟩,⟨11,[28,29],[]⟩,⟨10,[5],[]⟩,⟨9,[27],[(_,_)]⟩,⟨8,[26],[]⟩,⟨7,[2],[]⟩]) [6,25] Z Z (zB Z Z zd.h Z Z mQ Z) ?_;refine bR (pend':=[]) [7,31] Z Z (zB Z Z zd.h Z Z mQ Z) ?_;refine ad [[14]] ?_;refine au 2 ?_;refine bM [0,1,3,4,5,6,7,8,9,10,11,12,13,14,15,16,17,2,18,19,20] [0,1,2,3,4,5,6,7,8,9,10,11,12,13,14,15,16,17,18,19,20] ?_;refine ad [[3,6],[10,32],[3,7],[10,35],[3,6],[10,37],[9,36,38],[1,1],[3,6],[10,41],[9,40,42]] ?_;refine bU [39,43] Z (q_mul Z Z Z oQ) ?_;refine ad [[3,7],[10,45],[3,6],[10,47],[9,46,48]] ?_;refine bQ (pend':=[⟨17,[46,48],[]⟩,⟨16,[47],[(_,_)]⟩,⟨15,[6],[]⟩,⟨14,[45],[(_,_)]⟩,⟨13,[7],[]⟩,⟨12,[39,43],[]⟩,⟨11,[40,42],[]⟩,⟨10,[41],[(_,_)]⟩,⟨9,[6],[]⟩,⟨8,[1],[]⟩,⟨7,[36,38],[]⟩,⟨6,[37],[(_,_)]⟩,⟨5,[6],[]⟩,⟨4,[35],[(_,_)]⟩,⟨3,[7],[]⟩,⟨0,[6],[]⟩]) [33] Z Z Z Z Z (yG hT) (fun r1 K2 h3=>⟨?_,?_⟩)
  ·rcases h3 with ⟨rfl,rfl⟩
   all_goals simp
  obtain ⟨rfl,rfl⟩:=h3;try simp only [cA]
  refine bS tQ ?_;refine bQ (pend':=[⟨16,[47],[(_,_)]⟩,⟨15,[6],[]⟩,⟨14,[45],[(_,_)]⟩,⟨13,[7],[]⟩,⟨11,[40,42],[]⟩,⟨10,[41],[(_,_)]⟩,⟨9,[6],[]⟩,⟨8,[1],[]⟩,⟨7,[36,38],[]⟩,⟨6,[37],[(_,_)]⟩,⟨5,[6],[]⟩,⟨4,[35],[(_,_)]⟩,⟨3,[7],[]⟩,⟨0,[6],[]⟩]) [44,49] Z Z Z Z Z (wd hT oQ oQ) (fun r4 K5 h6=>⟨?_,?_⟩)
  ·rcases h6 with ⟨rfl,rfl⟩
   all_goals simp
  obtain ⟨rfl,rfl⟩:=h6;try simp only [cA]
  refine bS tQ ?_;refine bQ (pend':=[⟨16,[47],[(_,_)]⟩,⟨15,[6],[]⟩,⟨14,[45],[(_,_)]⟩,⟨13,[7],[]⟩,⟨11,[40,42],[]⟩,⟨10,[41],[(_,_)]⟩,⟨9,[6],[]⟩,⟨8,[1],[]⟩,⟨7,[36,38],[]⟩,⟨6,[37],[(_,_)]⟩,⟨5,[6],[]⟩,⟨4,[35],[(_,_)]⟩,⟨3,[7],[]⟩,⟨0,[6],[]⟩]) [34,50] Z Z Z Z Z (kJ hT (yL (A:=60) oQ) (vV (A:=3660) (D:=60) oQ oQ) dQ dQ dQ) (fun r7 K8 h9=>⟨?_,?_⟩)
  ·rcases h9 with ⟨rfl,rfl⟩
   all_goals simp
  obtain ⟨rfl,rfl⟩:=h9;try simp only [cA]
  refine bS tQ ?_;refine bR (pend':=[]) [4,51] Z Z (zB Z Z zd.h Z Z mQ Z) ?_;refine ad [[14]] ?_;refine au 0 ?_;refine bB hret [(e,_)] ?_;exact ⟨by unfold heightM; rw [hse] <;> rfl,rfl⟩
 ·refine yu Z (zU Z TyZA.h) (fun _=>zn rfl tQ) sQ fun jq hjq=>?_;refine bX (pend':=[⟨12,[30],[(_,_)]⟩,⟨11,[28,29],[]⟩,⟨10,[5],[]⟩,⟨9,[27],[(_,_)]⟩,⟨8,[26],[]⟩,⟨7,[2],[]⟩,⟨6,[24],[(_,_)]⟩,⟨5,[21,23],[]⟩,⟨4,[22],[]⟩,⟨3,[5],[]⟩,⟨2,[20],[(_,_)]⟩,⟨1,[19],[]⟩,⟨0,[2],[]⟩]) [] Z Z Z Z Z (zU Z TyZA.h) (fun _=>zn rfl tQ) sQ fun jp hjp=>?_;refine bR (pend':=[⟨12,[30],[(_,_)]⟩,⟨11,[28,29],[]⟩,⟨10,[5],[]⟩,⟨9,[27],[(_,_)]⟩,⟨8,[26],[]⟩,⟨7,[2],[]⟩]) [6,25] Z Z (zB Z Z zd.h Z Z mQ Z) ?_;refine bR (pend':=[]) [7,31] Z Z (zB Z Z zd.h Z Z mQ Z) ?_;refine ad [[14]] ?_;refine au 2 ?_;refine bM [0,1,3,4,5,6,7,8,9,10,11,12,13,14,15,16,17,2,18,19,20] [0,1,2,3,4,5,6,7,8,9,10,11,12,13,14,15,16,17,18,19,20] ?_;refine ad [[3,6],[10,32],[3,7],[10,35],[3,6],[10,37],[9,36,38],[1,1],[3,6],[10,41],[9,40,42]] ?_;refine bU [39,43] Z (q_mul Z Z Z oQ) ?_;refine ad [[3,7],[10,45],[3,6],[10,47],[9,46,48]] ?_;refine bQ (pend':=[⟨17,[46,48],[]⟩,⟨16,[47],[(_,_)]⟩,⟨15,[6],[]⟩,⟨14,[45],[(_,_)]⟩,⟨13,[7],[]⟩,⟨12,[39,43],[]⟩,⟨11,[40,42],[]⟩,⟨10,[41],[(_,_)]⟩,⟨9,[6],[]⟩,⟨8,[1],[]⟩,⟨7,[36,38],[]⟩,⟨6,[37],[(_,_)]⟩,⟨5,[6],[]⟩,⟨4,[35],[(_,_)]⟩,⟨3,[7],[]⟩,⟨0,[6],[]⟩]) [33] Z Z Z Z Z (yG hT) (fun r10 K11 h12=>⟨?_,?_⟩)
  ·rcases h12 with ⟨rfl,rfl⟩
   all_goals simp
  obtain ⟨rfl,rfl⟩:=h12;try simp only [cA]
  refine bS tQ ?_;refine bQ (pend':=[⟨16,[47],[(_,_)]⟩,⟨15,[6],[]⟩,⟨14,[45],[(_,_)]⟩,⟨13,[7],[]⟩,⟨11,[40,42],[]⟩,⟨10,[41],[(_,_)]⟩,⟨9,[6],[]⟩,⟨8,[1],[]⟩,⟨7,[36,38],[]⟩,⟨6,[37],[(_,_)]⟩,⟨5,[6],[]⟩,⟨4,[35],[(_,_)]⟩,⟨3,[7],[]⟩,⟨0,[6],[]⟩]) [44,49] Z Z Z Z Z (wd hT oQ oQ) (fun r13 K14 h15=>⟨?_,?_⟩)
  ·rcases h15 with ⟨rfl,rfl⟩
   all_goals simp
  obtain ⟨rfl,rfl⟩:=h15;try simp only [cA]
  refine bS tQ ?_;refine bQ (pend':=[⟨16,[47],[(_,_)]⟩,⟨15,[6],[]⟩,⟨14,[45],[(_,_)]⟩,⟨13,[7],[]⟩,⟨11,[40,42],[]⟩,⟨10,[41],[(_,_)]⟩,⟨9,[6],[]⟩,⟨8,[1],[]⟩,⟨7,[36,38],[]⟩,⟨6,[37],[(_,_)]⟩,⟨5,[6],[]⟩,⟨4,[35],[(_,_)]⟩,⟨3,[7],[]⟩,⟨0,[6],[]⟩]) [34,50] Z Z Z Z Z (kJ hT (yL (A:=60) oQ) (vV (A:=3660) (D:=60) oQ oQ) dQ dQ dQ) (fun r16 K17 h18=>⟨?_,?_⟩)
  ·rcases h18 with ⟨rfl,rfl⟩
   all_goals simp
  obtain ⟨rfl,rfl⟩:=h18;try simp only [cA]
  refine bS tQ ?_;refine bR (pend':=[]) [4,51] Z Z (zB Z Z zd.h Z Z mQ Z) ?_;refine ad [[14]] ?_;refine au 0 ?_;refine bB hret [(e,_)] ?_;exact ⟨by unfold heightM; rw [hse] <;> rfl,rfl⟩
theorem zgm {main T} (hT:zm tp main T) {gm} {b:TrB} {e p y:Nat} (hb:TrOk b) {back high:Int} (h1:1<=back/\back<=20) (hh:0<=high/\high<=60) {i:Int} {s:SpR} (h2:0<=s.far/\s.far<=60) (h3:RBd 10000 60 s.high) :
  zq tp T gm 162 [.agg (trC b e p y),.agg [intA back,intA high],intA i,.agg (spC s)] [] (fun r K'=>r=.agg (cvC (coverM b back high i s))/\K'=[]):=by
 refine zl 47 hT Tryz.func162 fun Y hret=>?_;refine au 0 ?_;have hcv:=hb.cv;have hm:=zkL hb h1 hh h2 h3;have hw:RBd 60 1 (wholeM high):=yL oQ;have hlb:=vV (A:=1088000) (D:=4800) hm.1 hm.2;refine au 21042 ?_;intro jb hjb;refine au 210 ?_;intro js hjs;refine au 210 ?_;intro jp hjp;refine au 220 ?_;intro jr hjr;refine au 23 ?_;refine bL [0,1,2,3,4,5,6,7] ?_;refine ad [[3,7],[12,11],[3,5],[10,13]] ?_;refine TD.c2 (i1:=4) (i2:=6) (pend1:=[⟨2,[5],[]⟩,⟨1,[11],[(_,_)]⟩,⟨0,[7],[]⟩]) (pend2:=[⟨3,[13],[(_,_)]⟩,⟨2,[5],[]⟩,⟨1,[11],[(_,_)]⟩,⟨0,[7],[]⟩]) (L1:=[5,6,7]) (L2:=[4,5,7]) [14] [] Z Z Z Z Z Z Z ?_ ?_
 ·refine yA Z Z Cal.h Z (yG hT) (by repeat (first | exact Split.none _ | exact Split.all _ | (apply Split.rem; repeat (first | exact Rem.head | apply Rem.tail)) | apply Split.right)) fun r1 K2 h3=>⟨?_,?_⟩
  ·rcases h3 with ⟨rfl,rfl⟩
   all_goals simp
  obtain ⟨rfl,rfl⟩:=h3;try simp only [cA]
  refine bS (env':=[_,_,_,_,_,_,_,_,_,_,_,_,_,_,_,_,_,_,_,_,_,_,_,_,_,_,_,_,_,_,_,_,_,_,_,_,_,_,_,_,_,_,_,_,_,_,_]) Z ?_;refine TD.c2 (i1:=5) (i2:=6) (pend1:=[⟨2,[5],[]⟩,⟨0,[7],[]⟩]) (pend2:=[⟨2,[5],[]⟩,⟨1,[11],[(_,_)]⟩,⟨0,[7],[]⟩]) (L1:=[6,7]) (L2:=[5,7]) [12,15] [] Z Z Z Z Z Z Z ?_ ?_
  ·refine yA Z Z Cal.h Z (uk hT (a:=s.high) h3 hw dQ dQ dQ dQ) (by repeat (first | exact Split.none _ | exact Split.all _ | (apply Split.rem; repeat (first | exact Rem.head | apply Rem.tail)) | apply Split.right)) fun r4 K5 h6=>⟨?_,?_⟩
   ·rcases h6 with ⟨rfl,rfl⟩
    all_goals simp
   obtain ⟨rfl,rfl⟩:=h6;try simp only [cA]
   refine bS (env':=[_,_,_,_,_,_,_,_,_,_,_,_,_,_,_,_,_,_,_,_,_,_,_,_,_,_,_,_,_,_,_,_,_,_,_,_,_,_,_,_,_,_,_,_,_,_,_]) Z ?_;refine bX (pend':=[⟨2,[5],[]⟩,⟨0,[7],[]⟩]) [] Z Z Z Z Z (zU Z TyZA.h) (fun _=>zn rfl tQ) sQ fun j9 hj9=>?_;refine bR (pend':=[]) [9,16] Z Z (zB Z Z zd.h Z Z mQ Z) ?_;refine ad [[14]] ?_;refine au 23069067069067023069067069067067042 ?_;refine TK.clE Z Z Z Z (wd hT oQ oQ) ?_;refine au 220 ?_;intro j10 hj10;refine au 23170 ?_;refine bM [0,1,2,3,5,6,7,8,9,10,11,12,13,14,4,15,16,17,18] [0,1,2,3,4,5,6,7,8,9,10,11,12,13,14,15,16,17,18] ?_;refine ad [[12,7],[1,2],[3,5],[10,31],[3,9],[10,34],[3,10],[10,36]] ?_;refine bU [35,37] Z (q_mul Z Z Z oQ) ?_;refine ad [[3,9],[10,39],[3,10],[10,41]] ?_;refine bU [40,42] Z (q_mul Z Z Z oQ) ?_;refine bQ (pend':=[⟨14,[40,42],[]⟩,⟨13,[41],[(_,_)]⟩,⟨12,[10],[]⟩,⟨11,[39],[(_,_)]⟩,⟨10,[9],[]⟩,⟨9,[35,37],[]⟩,⟨8,[36],[(_,_)]⟩,⟨7,[10],[]⟩,⟨6,[34],[(_,_)]⟩,⟨5,[9],[]⟩,⟨2,[5],[]⟩,⟨1,[2],[]⟩,⟨0,[7],[(_,_)]⟩]) [32] Z Z Z Z Z (yG hT) (fun r10 K11 h12=>⟨?_,?_⟩)
   ·rcases h12 with ⟨rfl,rfl⟩
    all_goals simp
   obtain ⟨rfl,rfl⟩:=h12;try simp only [cA]
   refine bS tQ ?_;refine bQ (pend':=[⟨13,[41],[(_,_)]⟩,⟨12,[10],[]⟩,⟨11,[39],[(_,_)]⟩,⟨10,[9],[]⟩,⟨8,[36],[(_,_)]⟩,⟨7,[10],[]⟩,⟨6,[34],[(_,_)]⟩,⟨5,[9],[]⟩,⟨2,[5],[]⟩,⟨1,[2],[]⟩,⟨0,[7],[(_,_)]⟩]) [38,43] Z Z Z Z Z (wd hT oQ oQ) (fun r13 K14 h15=>⟨?_,?_⟩)
   ·rcases h15 with ⟨rfl,rfl⟩
    all_goals simp
   obtain ⟨rfl,rfl⟩:=h15;try simp only [cA]
   refine bS tQ ?_;refine bQ (pend':=[⟨13,[41],[(_,_)]⟩,⟨12,[10],[]⟩,⟨11,[39],[(_,_)]⟩,⟨10,[9],[]⟩,⟨8,[36],[(_,_)]⟩,⟨7,[10],[]⟩,⟨6,[34],[(_,_)]⟩,⟨5,[9],[]⟩,⟨2,[5],[]⟩,⟨1,[2],[]⟩,⟨0,[7],[(_,_)]⟩]) [33,44] Z Z Z Z Z (kJ hT hw hlb dQ dQ dQ) (fun r16 K17 h18=>⟨?_,?_⟩)
   ·rcases h18 with ⟨rfl,rfl⟩
    all_goals simp
   obtain ⟨rfl,rfl⟩:=h18;try simp only [cA]
   refine bS tQ ?_;refine bU [29,30,45] Z (yo (l:=[_,_,_,_,_,_]) Z TyZ.h BlOf.h Z) ?_;refine bR (pend':=[]) [8,46] Z Z (zB Z Z zd.h Z Z mQ Z) ?_;refine ad [[14]] ?_;refine au 0 ?_;refine bB hret [] ?_;exact ⟨rfl,rfl⟩
  ·refine yu Z (zU Z TyZA.h) (fun _=>zn rfl tQ) sQ fun j9 hj9=>?_;refine bQ (pend':=[⟨2,[5],[]⟩,⟨0,[7],[]⟩]) [12,15] Z Z Z Z Z (uk hT (a:=s.high) h3 hw dQ dQ dQ dQ) (fun r19 K20 h21=>⟨?_,?_⟩)
   ·rcases h21 with ⟨rfl,rfl⟩
    all_goals simp
   obtain ⟨rfl,rfl⟩:=h21;try simp only [cA]
   refine bS tQ ?_;refine bR (pend':=[]) [9,16] Z Z (zB Z Z zd.h Z Z mQ Z) ?_;refine ad [[14]] ?_;refine au 23069067069067023069067069067067042 ?_;refine TK.clE Z Z Z Z (wd hT oQ oQ) ?_;refine au 220 ?_;intro j10 hj10;refine au 23170 ?_;refine bM [0,1,2,3,5,6,7,8,9,10,11,12,13,14,4,15,16,17,18] [0,1,2,3,4,5,6,7,8,9,10,11,12,13,14,15,16,17,18] ?_;refine ad [[12,7],[1,2],[3,5],[10,31],[3,9],[10,34],[3,10],[10,36]] ?_;refine bU [35,37] Z (q_mul Z Z Z oQ) ?_;refine ad [[3,9],[10,39],[3,10],[10,41]] ?_;refine bU [40,42] Z (q_mul Z Z Z oQ) ?_;refine bQ (pend':=[⟨14,[40,42],[]⟩,⟨13,[41],[(_,_)]⟩,⟨12,[10],[]⟩,⟨11,[39],[(_,_)]⟩,⟨10,[9],[]⟩,⟨9,[35,37],[]⟩,⟨8,[36],[(_,_)]⟩,⟨7,[10],[]⟩,⟨6,[34],[(_,_)]⟩,⟨5,[9],[]⟩,⟨2,[5],[]⟩,⟨1,[2],[]⟩,⟨0,[7],[(_,_)]⟩]) [32] Z Z Z Z Z (yG hT) (fun r25 K26 h27=>⟨?_,?_⟩)
   ·rcases h27 with ⟨rfl,rfl⟩
    all_goals simp
   obtain ⟨rfl,rfl⟩:=h27;try simp only [cA]
   refine bS tQ ?_;refine bQ (pend':=[⟨13,[41],[(_,_)]⟩,⟨12,[10],[]⟩,⟨11,[39],[(_,_)]⟩,⟨10,[9],[]⟩,⟨8,[36],[(_,_)]⟩,⟨7,[10],[]⟩,⟨6,[34],[(_,_)]⟩,⟨5,[9],[]⟩,⟨2,[5],[]⟩,⟨1,[2],[]⟩,⟨0,[7],[(_,_)]⟩]) [38,43] Z Z Z Z Z (wd hT oQ oQ) (fun r28 K29 h30=>⟨?_,?_⟩)
   ·rcases h30 with ⟨rfl,rfl⟩
    all_goals simp
   obtain ⟨rfl,rfl⟩:=h30;try simp only [cA]
   refine bS tQ ?_;refine bQ (pend':=[⟨13,[41],[(_,_)]⟩,⟨12,[10],[]⟩,⟨11,[39],[(_,_)]⟩,⟨10,[9],[]⟩,⟨8,[36],[(_,_)]⟩,⟨7,[10],[]⟩,⟨6,[34],[(_,_)]⟩,⟨5,[9],[]⟩,⟨2,[5],[]⟩,⟨1,[2],[]⟩,⟨0,[7],[(_,_)]⟩]) [33,44] Z Z Z Z Z (kJ hT hw hlb dQ dQ dQ) (fun r31 K32 h33=>⟨?_,?_⟩)
   ·rcases h33 with ⟨rfl,rfl⟩
    all_goals simp
   obtain ⟨rfl,rfl⟩:=h33;try simp only [cA]
   refine bS tQ ?_;refine bU [29,30,45] Z (yo (l:=[_,_,_,_,_,_]) Z TyZ.h BlOf.h Z) ?_;refine bR (pend':=[]) [8,46] Z Z (zB Z Z zd.h Z Z mQ Z) ?_;refine ad [[14]] ?_;refine au 0 ?_;refine bB hret [] ?_;exact ⟨rfl,rfl⟩
 ·refine yu Z (zU Z TyZA.h) (fun _=>zn rfl tQ) sQ fun j9 hj9=>?_;refine bQ (pend':=[⟨2,[5],[]⟩,⟨1,[11],[(_,_)]⟩,⟨0,[7],[]⟩]) [14] Z Z Z Z Z (yG hT) (fun r34 K35 h36=>⟨?_,?_⟩)
  ·rcases h36 with ⟨rfl,rfl⟩
   all_goals simp
  obtain ⟨rfl,rfl⟩:=h36;try simp only [cA]
  refine bS tQ ?_;refine bQ (pend':=[⟨2,[5],[]⟩,⟨0,[7],[]⟩]) [12,15] Z Z Z Z Z (uk hT (a:=s.high) h3 hw dQ dQ dQ dQ) (fun r37 K38 h39=>⟨?_,?_⟩)
  ·rcases h39 with ⟨rfl,rfl⟩
   all_goals simp
  obtain ⟨rfl,rfl⟩:=h39;try simp only [cA]
  refine bS tQ ?_;refine bR (pend':=[]) [9,16] Z Z (zB Z Z zd.h Z Z mQ Z) ?_;refine ad [[14]] ?_;refine au 23069067069067023069067069067067042 ?_;refine TK.clE Z Z Z Z (wd hT oQ oQ) ?_;refine au 220 ?_;intro j10 hj10;refine au 23170 ?_;refine bM [0,1,2,3,5,6,7,8,9,10,11,12,13,14,4,15,16,17,18] [0,1,2,3,4,5,6,7,8,9,10,11,12,13,14,15,16,17,18] ?_;refine ad [[12,7],[1,2],[3,5],[10,31],[3,9],[10,34],[3,10],[10,36]] ?_;refine bU [35,37] Z (q_mul Z Z Z oQ) ?_;refine ad [[3,9],[10,39],[3,10],[10,41]] ?_;refine bU [40,42] Z (q_mul Z Z Z oQ) ?_;refine bQ (pend':=[⟨14,[40,42],[]⟩,⟨13,[41],[(_,_)]⟩,⟨12,[10],[]⟩,⟨11,[39],[(_,_)]⟩,⟨10,[9],[]⟩,⟨9,[35,37],[]⟩,⟨8,[36],[(_,_)]⟩,⟨7,[10],[]⟩,⟨6,[34],[(_,_)]⟩,⟨5,[9],[]⟩,⟨2,[5],[]⟩,⟨1,[2],[]⟩,⟨0,[7],[(_,_)]⟩]) [32] Z Z Z Z Z (yG hT) (fun r43 K44 h45=>⟨?_,?_⟩)
  ·rcases h45 with ⟨rfl,rfl⟩
   all_goals simp
  obtain ⟨rfl,rfl⟩:=h45;try simp only [cA]
  refine bS tQ ?_;refine bQ (pend':=[⟨13,[41],[(_,_)]⟩,⟨12,[10],[]⟩,⟨11,[39],[(_,_)]⟩,⟨10,[9],[]⟩,⟨8,[36],[(_,_)]⟩,⟨7,[10],[]⟩,⟨6,[34],[(_,_)]⟩,⟨5,[9],[]⟩,⟨2,[5],[]⟩,⟨1,[2],[]⟩,⟨0,[7],[(_,_)]⟩]) [38,43] Z Z Z Z Z (wd hT oQ oQ) (fun r46 K47 h48=>⟨?_,?_⟩)
  ·rcases h48 with ⟨rfl,rfl⟩
   all_goals simp
  obtain ⟨rfl,rfl⟩:=h48;try simp only [cA]
  refine bS tQ ?_;refine bQ (pend':=[⟨13,[41],[(_,_)]⟩,⟨12,[10],[]⟩,⟨11,[39],[(_,_)]⟩,⟨10,[9],[]⟩,⟨8,[36],[(_,_)]⟩,⟨7,[10],[]⟩,⟨6,[34],[(_,_)]⟩,⟨5,[9],[]⟩,⟨2,[5],[]⟩,⟨1,[2],[]⟩,⟨0,[7],[(_,_)]⟩]) [33,44] Z Z Z Z Z (kJ hT hw hlb dQ dQ dQ) (fun r49 K50 h51=>⟨?_,?_⟩)
  ·rcases h51 with ⟨rfl,rfl⟩
   all_goals simp
  obtain ⟨rfl,rfl⟩:=h51;try simp only [cA]
  refine bS tQ ?_;refine bU [29,30,45] Z (yo (l:=[_,_,_,_,_,_]) Z TyZ.h BlOf.h Z) ?_;refine bR (pend':=[]) [8,46] Z Z (zB Z Z zd.h Z Z mQ Z) ?_;refine ad [[14]] ?_;refine au 0 ?_;refine bB hret [] ?_;exact ⟨rfl,rfl⟩
theorem ziK {main T} (hT:zm tp main T) {gm} {a c:CvR} (ha:CB a) (hc:CB c) :
  zq tp T gm 164 [.agg (cvC a),.agg (cvC c)] [] (fun r K'=>r=zF (lowerM a c)/\K'=[]):=by
 refine zl 10 hT Tryz.func164 fun Y hret=>?_;refine au 21042 ?_;intro ja hja;refine au 210 ?_;intro jc hjc;refine au 6806706806704235 ?_;refine TK.clE Z Z Z Z (zac hT (a:=a.high) (c:=c.high) ha hc dQ dQ) ?_;refine au 35 ?_;refine bB hret [] ?_;exact ⟨rfl,rfl⟩
theorem zhb {main T} (hT:zm tp main T) {gm} {j off:Nat} {ob:AObj} {one:CvR} {xs:List CvR} (h1:CB one) (hx:∀ x∈xs,CB x) (hI:CvsAt ob off xs) (hl:xs.length<=100) {m:Nat} (hm:xs.length=m) :
  zq tp T gm 163 [.fn 164 [] [],.agg (cvC one),.sl j off m] [(j,ob)] (fun r K'=>r=.agg (cvC (greatM2 lowerM one xs))/\K'=[(j,ob)]):=by
 refine zl 22 hT Tryz.func163 fun Y hret=>?_;refine au 0 ?_;subst hm;refine au 21042 ?_;intro jo hjo;refine au 220 ?_;intro jr hjr;refine au 1303128014223 ?_;refine bA [0,4,6,9,10,11] ?_;refine bC [(jo,_),(jr,_),(j,_)] ?_;refine bE (fun n env K=>∃ (i:Nat),n=xs.length - i/\i<=xs.length/\env=.fn 164 [] []::naL 3 (.ptr jo 0::.any::.ptr jr 0::naL 2 (.sl j off xs.length::intA xs.length::intA i::naL 10 []))/\K=[(jo,.cells (cvC (greatM2 lowerM one (xs.take i))) 219 true),(jr,.cells [intA 0,intA 0,intA 0,intA 0,intA 0,intA 0] 219 true),(j,ob)]) xs.length ⟨0,rfl,mN _,rfl,rfl⟩ fun n env K hI' hnext=>?_;obtain ⟨i,rfl,hi,rfl,rfl⟩:=hI';refine bG nQ ?_;refine au 923742 ?_;constructor<;>intro hc0
 ·have hil:i<xs.length:=by simp at hc0; omega
  refine au 360421302120 ?_;refine bH Z (zI Z Z zd.h mQ (hI i hil)) ?_;refine au 220 ?_;intro jx hjx;refine au 6806801423170 ?_;refine TK.clE Z Z Z Z (ziK hT (zec h1 fun x h=>hx x (List.mem_of_mem_take h)) (hx _ (List.getElem_mem hil))) ?_;refine au 93 ?_;constructor<;>intro hc1
  ·refine au 31230414031706804 ?_;refine bA [0,4,6,9,10,11] ?_;refine bC [(jo,_),(jr,_),(j,_)] ?_;exact hnext _ _ _ oQ ⟨i+1,rfl,oQ,rfl,by rw [zfV hil,if_pos hc1] <;> rfl⟩
  refine au 312304140120 ?_;refine bA [0,4,6,9,10,11] ?_;refine bC [(jo,_),(jr,_),(j,_)] ?_;exact hnext _ _ _ oQ ⟨i+1,rfl,oQ,rfl,by rw [zfV hil,if_neg (by rw [hc1]; decide)] <;> rfl⟩
 obtain rfl:i=xs.length:=by simp at hc0; omega
 refine au 317068042160 ?_;refine bB hret [(j,_)] ?_;exact ⟨by rw [lW] <;> rfl,rfl⟩
theorem zcn {main T} (hT:zm tp main T) {gm} {j:Nat} {a c:RatR} {A D B E:Int} (ha:RBd A D a) (hc:RBd B E c) (h1:A*E<=100000000000000000) (h2:B*D<=100000000000000000) :
  zq tp T gm 121 [.fn 88 [] [],.agg (ratC a),.row j 1] [(j,.row (ratC c) 28 2)] (fun r K'=>r=.agg (ratC (maxM a c))/\K'=[(j,.row (ratC c) 28 2)]):=by
 refine zl 22 hT Tryz.func121 fun Y hret=>?_;refine au 21042 ?_;intro jo hjo;refine au 220 ?_;intro jr hjr;refine au 1303128014223 ?_;refine TK.loop ?_;refine au 923742 ?_;constructor<;>intro hc0
 ·
  refine au 220680370421302120 ?_;intro jx hjx;refine au 6806801423170 ?_;refine TK.clE Z Z Z Z (zac hT ha hc h1 h2) ?_;refine au 93 ?_;constructor<;>intro hc1
  ·refine au 31230414031706804 ?_;refine TK.inLoop ?_;refine au 923742 ?_;constructor<;>intro hc0
   ·exact absurd hc0 dQ
   refine au 317068042160 ?_;refine bB hret [(j,_)] ?_;exact ⟨by unfold maxM; rw [if_pos hc1] <;> rfl,rfl⟩
  refine au 312304140120 ?_;refine TK.inLoop ?_;refine au 923742 ?_;constructor<;>intro hc0
  ·exact absurd hc0 dQ
  refine au 317068042160 ?_;refine bB hret [(j,_)] ?_;exact ⟨by unfold maxM; rw [if_neg (by rw [hc1]; decide)] <;> rfl,rfl⟩
 exact absurd hc0 dQ
theorem kx {main T} (hT:zm tp main T) {gm} {b:TrB} {e p y:Nat} (hb:TrOk b) {back high:Int} (h1:1<=back/\back<=20) (hh:0<=high/\high<=60) :
  zq tp T gm 119 [.agg (trC b e p y),.agg [intA back,intA high]] [(e,ptO b)] (fun r K'=>r=.agg (cvC (edgeM b back high))/\K'=[(e,ptO b)]):=by
 refine zl 37 hT Tryz.func119 fun Y hret=>?_;refine au 0 ?_;have hne:=hb.ne;have hcv:=hb.cv;refine au 21042 ?_;intro jb hjb;refine au 210 ?_;intro js hjs;refine au 220 ?_;intro jr hjr;refine au 2235423 ?_;refine TK.virt 5 219 6 Z fun ja0 hja0=>?_;refine au 130312806906706704 ?_;refine bA [2,3,4,5,10,11,12] ?_;refine bC [(ja0,_),(jb,_),(js,_),(jr,_),(e,_)] ?_;refine bE (fun n env K=>∃ (i ja:Nat),n=b.earth.length - i/\i<=b.earth.length/\env=naL 2 (.ptr jb 0::.ptr js 0::.ptr jr 0::.row ja i::naL 4 (.sl e 0 b.earth.length::intA b.earth.length::intA i::naL 24 []))/\K=[(ja,.row (((edgesM b back high).take i).flatMap cvC) 219 6),(jb,.cells (trC b e p y) 95 true),(js,.cells [intA back,intA high] 108 true),(jr,.cells [intA 0,intA 0,intA 0,intA 0,intA 0,intA 0] 219 true),(e,ptO b)]) b.earth.length ⟨0,ja0,rfl,mN _,rfl,rfl⟩ fun n env K hI hnext=>?_;obtain ⟨i,ja,rfl,hi,rfl,rfl⟩:=hI;have hrl:(((edgesM b back high).take i).flatMap cvC).length=i*6:=by rw [yz cvC 6 (fun _=>rfl),List.length_take,zas,Nat.min_eq_left hi]
 refine bG nQ ?_;refine au 923742 ?_;constructor<;>intro hc0
 ·have hil:i<b.earth.length:=by simp at hc0; omega
  have hq:=hb.ea i hil;refine au 3601421302120 ?_;refine bH Z (zI Z Z zd.h mQ (pt_at b hil Z)) ?_;refine au 220 ?_;intro jx hjx;refine au 31705 ?_;refine bL [0,1,2,3,4,5,6,7,8,9,10,11,12,13] ?_;refine ad [[1,5],[12,2],[12,3],[1,6],[3,7],[10,21],[3,7],[10,23]] ?_;refine bQ (pend':=[⟨6,[7],[]⟩,⟨5,[21],[(_,_)]⟩,⟨4,[7],[]⟩,⟨3,[6],[]⟩,⟨2,[3],[(_,_)]⟩,⟨1,[2],[(_,_)]⟩,⟨0,[5],[]⟩]) [24] Z Z Z Z Z (yG hT) (fun r1 K2 h3=>⟨?_,?_⟩)
  ·rcases h3 with ⟨rfl,rfl⟩
   all_goals simp
  obtain ⟨rfl,rfl⟩:=h3;try simp only [cA]
  refine bS tQ ?_;refine bU [22,25] Z (yo (l:=[_,_,_]) Z TyZ.h BlOf.h Z) ?_;refine bQ (pend':=[⟨6,[7],[]⟩,⟨5,[21],[(_,_)]⟩,⟨4,[7],[]⟩,⟨0,[5],[]⟩]) [18,19,20,26] Z Z Z Z Z (zgm hT (s:=⟨(ptI b i).far,wholeM (ptI b i).high⟩) hb h1 hh (by show 0<=(ptI b i).far/\(ptI b i).far<=60; omega) ((yL (A:=60) oQ).le dQ dQ)) (fun r4 K5 h6=>⟨?_,?_⟩)
  ·rcases h6 with ⟨rfl,rfl⟩
   all_goals simp
  obtain ⟨rfl,rfl⟩:=h6;try simp only [cA]
  refine bS tQ ?_;refine bV (pend':=[⟨6,[7],[]⟩,⟨5,[21],[(_,_)]⟩,⟨4,[7],[]⟩,⟨0,[5],[]⟩]) [27] Z Z Z Z Z (zp (l:=[_,_,_,_,_,_]) Z zz.h TyZ.h dQ dQ Z) (fun _=>zn rfl tQ) sQ fun jt hjt=>?_;refine TD.capp (pend':=[⟨6,[7],[]⟩,⟨5,[21],[(_,_)]⟩,⟨4,[7],[]⟩]) [17,28] Z Z Z Z Z (a_app Z ApOf.h Z mQ oQ Z (yp (ln:=[_,_,_,_,_,_]) mQ dQ sQ Z) oQ Z (by unfold maxLen; omega) oQ) (fun _=>uQ) (fun _=>zn rfl tQ) (fun _=>sQ) fun ja2=>?_;refine ad [[13,29],[14]] ?_;refine au 312304140 ?_;refine bA [2,3,4,5,10,11,12] ?_;refine bC [(ja2,_),(jb,_),(js,_),(jr,_),(e,_)] ?_;exact hnext _ _ _ oQ ⟨i+1,ja2,rfl,oQ,rfl,by rw [zkO hil,List.flatMap_append]; simp only [List.flatMap_cons,List.flatMap_nil,lR] <;> rfl⟩
 obtain rfl:i=b.earth.length:=by simp at hc0; omega
 refine au 2160 ?_;rw [show (edgesM b back high).take b.earth.length=edgesM b back high by rw [<- zas b back high,lW]];have hel:=zas b back high;have he0:(edgesM b back high)[0]? =some (earthC b back high 0):=by unfold edgesM; rw [lQ,List.getElem?_range oQ]; rfl
 have hdl:((edgesM b back high).drop 1).length=b.earth.length - 1:=by rw [List.length_drop,hel]
 refine TK.asSl 5 Z mQ ?_;refine bY (j:=ja) ?_;refine au 0 ?_;refine bL [0,1,2,3,4,5,6] ?_;refine ad [[1,5],[2,31]] ?_;refine bT [32] Z (hq:=zI Z Z zd.h (mC _) (kA (c:=6) (f:=cvC) (fun _=>rfl) he0 rfl dQ)) (h:=?_);refine ad [[1,5]] ?_;refine bU [34] Z (zii Z Z zz.h Z Z oQ oQ Z) ?_;refine bQ (pend':=[⟨3,[5],[]⟩,⟨1,[31],[]⟩,⟨0,[5],[]⟩]) [33,35] Z Z Z Z Z (zhb hT (uO hb h1 hh _ (lN he0)) (fun x hx=>uO hb h1 hh x (List.mem_of_mem_drop hx)) zjd oQ hdl) (fun r7 K8 h9=>⟨?_,?_⟩)
 ·rcases h9 with ⟨rfl,rfl⟩
  all_goals simp
 obtain ⟨rfl,rfl⟩:=h9;try simp only [cA]
 refine bS tQ ?_;refine bR (pend':=[]) [4,36] Z Z (zB Z Z zd.h Z Z mQ Z) ?_;refine ad [[14]] ?_;refine au 0 ?_;refine bB hret [(e,_)] ?_;exact ⟨rfl,rfl⟩
theorem zkp {main T} (hT:zm tp main T) {gm} {b:TrB} {e p y:Nat} (hb:TrOk b) {back high:Int} (h1:1<=back/\back<=20) (hh:0<=high/\high<=60) :
  zq tp T gm 120 [.agg (trC b e p y),.agg [intA back,intA high]] [(e,ptO b),(p,prO b)] (fun r K'=>∃ ja,r=.row ja (topsM b back high).length/\K'=[(ja,.row ((topsM b back high).flatMap cvC) 219 6),(e,ptO b),(p,prO b)]):=by
 refine zl 52 hT Tryz.func120 fun Y hret=>?_;refine au 0 ?_;have hne:=hb.ne;have hcv:=hb.cv;have hnp:=hb.np;refine au 21042 ?_;intro jb hjb;refine au 210 ?_;intro js hjs;refine au 35 ?_;refine TK.scope ?_;refine au 2215023542 ?_;refine TK.virt 5 219 6 Z fun ja0 hja0=>?_;refine au 130312806906706704 ?_;refine bA [2,3,5,13,14,15] ?_;refine bC [(ja0,_),(jb,_),(js,_),(e,_),(p,_)] ?_;refine bE (fun n env K=>∃ (i ja:Nat),n=b.props.length - i/\i<=b.props.length/\env=naL 2 (.ptr jb 0::.ptr js 0::.any::.row ja (topsI b back high i).length::naL 7 (.sl p 0 b.props.length::intA b.props.length::intA i::naL 36 []))/\K=[(ja,.row ((topsI b back high i).flatMap cvC) 219 6),(jb,.cells (trC b e p y) 95 true),(js,.cells [intA back,intA high] 108 true),(e,ptO b),(p,prO b)]) b.props.length ⟨0,ja0,rfl,mN _,rfl,rfl⟩ fun n env K hI hnext=>?_;obtain ⟨i,ja,rfl,hi,rfl,rfl⟩:=hI;have htl:=zaQ b back high i;have hfl:=yz cvC 6 (fun _=>rfl) (topsI b back high i);refine bG nQ ?_;refine au 923742 ?_;constructor<;>intro hc0
 ·have hil:i<b.props.length:=by simp at hc0; omega
  have hq:=hb.pr i hil;have hf:=far60 hb (x:=prI b i) ⟨hq.1,hq.2.1⟩;have htb:=top_bd' hb hil;refine au 3601421302120 ?_;refine bH Z (zI Z Z zd.h mQ (pr_at b hil Z)) ?_;refine au 220 ?_;intro jx hjx;refine au 231705 ?_;refine' TK.shareX (X:=Nat) (D:=fun _=>True) (E:=fun jt=>naL 2 (.ptr jb 0::.ptr js 0::.any::.row ja (topsI b back high i).length::intA i::.ptr jx 0::.ptr jt 0::naL 4 (.sl p 0 b.props.length::intA b.props.length::intA i::naL 36 []))) (KK:=fun jt=>[(jx,.cells (prC (prI b i)) 93 true),(jt,.cells (spC (topM b (prI b i))) 217 true),(ja,.row ((topsI b back high i).flatMap cvC) 219 6),(jb,.cells (trC b e p y) 95 true),(js,.cells [intA back,intA high] 108 true),(e,ptO b),(p,prO b)]) (fun H=>?_) ?_;rotate_left
  ·refine bM [0,1,2,3,4,6,7,5,8,9,10,11,12] [0,1,2,3,4,5,6,7,8,9,10,11,12] ?_;refine ad [[3,7],[10,20],[12,2],[3,7],[10,23],[3,7],[10,26]] ?_;refine TD.c2 (i1:=5) (i2:=11) (pend1:=[⟨7,[26],[(_,_)]⟩,⟨6,[7],[]⟩,⟨3,[7],[]⟩,⟨1,[20],[(_,_)]⟩,⟨0,[7],[]⟩]) (pend2:=[⟨7,[26],[(_,_)]⟩,⟨6,[7],[]⟩,⟨4,[23],[(_,_)]⟩,⟨3,[7],[]⟩,⟨2,[2],[(_,_)]⟩,⟨1,[20],[(_,_)]⟩,⟨0,[7],[]⟩]) (L1:=[8,9,10,11,12]) (L2:=[5,8,9,10,12]) [22,24] [] Z Z Z Z Z Z Z ?_ ?_
   ·refine yA Z Z Cal.h Z (zco hT hb ⟨hq.1,hq.2.1⟩) (by repeat (first | exact Split.none _ | exact Split.all _ | (apply Split.rem; repeat (first | exact Rem.head | apply Rem.tail)) | apply Split.right)) fun r1 K2 h3=>⟨?_,?_⟩
    ·rcases h3 with ⟨rfl,rfl⟩
     all_goals simp
    obtain ⟨rfl,rfl⟩:=h3;try simp only [cA]
    refine bS (env':=[_,_,_,_,_,_,_,_,_,_,_,_,_,_,_,_,_,_,_,_,_,_,_,_,_,_,_,_,_,_,_,_,_,_,_,_,_,_,_,_,_,_,_,_,_,_,_,_,_,_,_,_]) Z ?_;refine TD.c2 (i1:=8) (i2:=11) (pend1:=[⟨6,[7],[]⟩,⟨3,[7],[]⟩,⟨1,[20],[(_,_)]⟩,⟨0,[7],[]⟩]) (pend2:=[⟨7,[26],[(_,_)]⟩,⟨6,[7],[]⟩,⟨3,[7],[]⟩,⟨1,[20],[(_,_)]⟩,⟨0,[7],[]⟩]) (L1:=[9,10,11,12]) (L2:=[8,9,10,12]) [27] [] Z Z Z Z Z Z Z ?_ ?_
    ·refine yA Z Z Cal.h Z (yG hT) (by repeat (first | exact Split.none _ | exact Split.all _ | (apply Split.rem; repeat (first | exact Rem.head | apply Rem.tail)) | apply Split.right)) fun r4 K5 h6=>⟨?_,?_⟩
     ·rcases h6 with ⟨rfl,rfl⟩
      all_goals simp
     obtain ⟨rfl,rfl⟩:=h6;try simp only [cA]
     refine bS (env':=[_,_,_,_,_,_,_,_,_,_,_,_,_,_,_,_,_,_,_,_,_,_,_,_,_,_,_,_,_,_,_,_,_,_,_,_,_,_,_,_,_,_,_,_,_,_,_,_,_,_,_,_]) Z ?_;refine TD.c2 (i1:=9) (i2:=11) (pend1:=[⟨6,[7],[]⟩,⟨3,[7],[]⟩,⟨1,[20],[(_,_)]⟩,⟨0,[7],[]⟩]) (pend2:=[⟨6,[7],[]⟩,⟨3,[7],[]⟩,⟨1,[20],[(_,_)]⟩,⟨0,[7],[]⟩]) (L1:=[10,11,12]) (L2:=[9,10,12]) [25,28] [] Z Z Z Z Z Z Z ?_ ?_
     ·refine yA Z Z Cal.h Z (kJ hT (height_bd' hb ⟨hq.1,hq.2.1⟩) (yL (A:=20) oQ) dQ dQ dQ) (by repeat (first | exact Split.none _ | exact Split.all _ | (apply Split.rem; repeat (first | exact Rem.head | apply Rem.tail)) | apply Split.right)) fun r7 K8 h9=>⟨?_,?_⟩
      ·rcases h9 with ⟨rfl,rfl⟩
       all_goals simp
      obtain ⟨rfl,rfl⟩:=h9;try simp only [cA]
      refine bS (env':=[_,_,_,_,_,_,_,_,_,_,_,_,_,_,_,_,_,_,_,_,_,_,_,_,_,_,_,_,_,_,_,_,_,_,_,_,_,_,_,_,_,_,_,_,_,_,_,_,_,_,_,_]) Z ?_;refine bU [21,29] Z (yo (l:=[_,_,_]) Z TyZ.h BlOf.h Z) ?_;refine bX (pend':=[⟨10,[21,29],[]⟩,⟨6,[7],[]⟩,⟨3,[7],[]⟩,⟨1,[20],[(_,_)]⟩,⟨0,[7],[]⟩]) [] Z Z Z Z Z (zU Z TyZA.h) (fun _=>zn rfl tQ) sQ fun jt hjt=>?_;refine bR (pend':=[]) [8,30] Z Z (zB Z Z zd.h Z Z mQ Z) ?_;refine ad [[14]] ?_;refine bA [2,3,5,6,7,8,13,14,15] ?_;refine bC [(jx,_),(jt,_),(ja,_),(jb,_),(js,_),(e,_),(p,_)] ?_;exact H jt trivial
     ·refine yu Z (zU Z TyZA.h) (fun _=>zn rfl tQ) sQ fun jt hjt=>?_;refine bQ (pend':=[⟨6,[7],[]⟩,⟨3,[7],[]⟩,⟨1,[20],[(_,_)]⟩,⟨0,[7],[]⟩]) [25,28] Z Z Z Z Z (kJ hT (height_bd' hb ⟨hq.1,hq.2.1⟩) (yL (A:=20) oQ) dQ dQ dQ) (fun r10 K11 h12=>⟨?_,?_⟩)
      ·rcases h12 with ⟨rfl,rfl⟩
       all_goals simp
      obtain ⟨rfl,rfl⟩:=h12;try simp only [cA]
      refine bS tQ ?_;refine bU [21,29] Z (yo (l:=[_,_,_]) Z TyZ.h BlOf.h Z) ?_;refine bR (pend':=[]) [8,30] Z Z (zB Z Z zd.h Z Z mQ Z) ?_;refine ad [[14]] ?_;refine bA [2,3,5,6,7,8,13,14,15] ?_;refine bC [(jx,_),(jt,_),(ja,_),(jb,_),(js,_),(e,_),(p,_)] ?_;exact H jt trivial
    ·refine yu Z (zU Z TyZA.h) (fun _=>zn rfl tQ) sQ fun jt hjt=>?_;refine bQ (pend':=[⟨6,[7],[]⟩,⟨3,[7],[]⟩,⟨1,[20],[(_,_)]⟩,⟨0,[7],[]⟩]) [27] Z Z Z Z Z (yG hT) (fun r13 K14 h15=>⟨?_,?_⟩)
     ·rcases h15 with ⟨rfl,rfl⟩
      all_goals simp
     obtain ⟨rfl,rfl⟩:=h15;try simp only [cA]
     refine bS tQ ?_;refine bQ (pend':=[⟨6,[7],[]⟩,⟨3,[7],[]⟩,⟨1,[20],[(_,_)]⟩,⟨0,[7],[]⟩]) [25,28] Z Z Z Z Z (kJ hT (height_bd' hb ⟨hq.1,hq.2.1⟩) (yL (A:=20) oQ) dQ dQ dQ) (fun r16 K17 h18=>⟨?_,?_⟩)
     ·rcases h18 with ⟨rfl,rfl⟩
      all_goals simp
     obtain ⟨rfl,rfl⟩:=h18;try simp only [cA]
     refine bS tQ ?_;refine bU [21,29] Z (yo (l:=[_,_,_]) Z TyZ.h BlOf.h Z) ?_;refine bR (pend':=[]) [8,30] Z Z (zB Z Z zd.h Z Z mQ Z) ?_;refine ad [[14]] ?_;refine bA [2,3,5,6,7,8,13,14,15] ?_;refine bC [(jx,_),(jt,_),(ja,_),(jb,_),(js,_),(e,_),(p,_)] ?_;exact H jt trivial
   ·refine yu Z (zU Z TyZA.h) (fun _=>zn rfl tQ) sQ fun jt hjt=>?_;refine bQ (pend':=[⟨7,[26],[(_,_)]⟩,⟨6,[7],[]⟩,⟨3,[7],[]⟩,⟨1,[20],[(_,_)]⟩,⟨0,[7],[]⟩]) [22,24] Z Z Z Z Z (zco hT hb ⟨hq.1,hq.2.1⟩) (fun r19 K20 h21=>⟨?_,?_⟩)
    ·rcases h21 with ⟨rfl,rfl⟩
     all_goals simp
    obtain ⟨rfl,rfl⟩:=h21;try simp only [cA]
    refine bS tQ ?_;refine bQ (pend':=[⟨6,[7],[]⟩,⟨3,[7],[]⟩,⟨1,[20],[(_,_)]⟩,⟨0,[7],[]⟩]) [27] Z Z Z Z Z (yG hT) (fun r22 K23 h24=>⟨?_,?_⟩)
    ·rcases h24 with ⟨rfl,rfl⟩
     all_goals simp
    obtain ⟨rfl,rfl⟩:=h24;try simp only [cA]
    refine bS tQ ?_;refine bQ (pend':=[⟨6,[7],[]⟩,⟨3,[7],[]⟩,⟨1,[20],[(_,_)]⟩,⟨0,[7],[]⟩]) [25,28] Z Z Z Z Z (kJ hT (height_bd' hb ⟨hq.1,hq.2.1⟩) (yL (A:=20) oQ) dQ dQ dQ) (fun r25 K26 h27=>⟨?_,?_⟩)
    ·rcases h27 with ⟨rfl,rfl⟩
     all_goals simp
    obtain ⟨rfl,rfl⟩:=h27;try simp only [cA]
    refine bS tQ ?_;refine bU [21,29] Z (yo (l:=[_,_,_]) Z TyZ.h BlOf.h Z) ?_;refine bR (pend':=[]) [8,30] Z Z (zB Z Z zd.h Z Z mQ Z) ?_;refine ad [[14]] ?_;refine bA [2,3,5,6,7,8,13,14,15] ?_;refine bC [(jx,_),(jt,_),(ja,_),(jb,_),(js,_),(e,_),(p,_)] ?_;exact H jt trivial
  ·intro jt _;refine bG nQ ?_
   (try dsimp only)
   refine au 130312801422 ?_;refine bA [2,3,5,6,7,8,13,14,15,31,32,33] ?_;refine bC [(jx,.cells (prC (prI b i)) 93 true),(jt,.cells (spC (topM b (prI b i))) 217 true),(ja,_),(jb,_),(js,_),(e,_),(p,_)] ?_;refine bE (fun n env K=>∃ (q:Nat),n=(topsI b back high i).length - q/\q<=(topsI b back high i).length/\((topsI b back high i).take q).any (fun c=>decide (c.spot=(topM b (prI b i))))=false/\env=naL 2 (.ptr jb 0::.ptr js 0::.any::.row ja (topsI b back high i).length::intA i::.ptr jx 0::.ptr jt 0::naL 4 (.sl p 0 b.props.length::intA b.props.length::intA i::naL 15 (.row ja (topsI b back high i).length::intA (topsI b back high i).length::intA q::naL 18 [])))/\K=[(jx,.cells (prC (prI b i)) 93 true),(jt,.cells (spC (topM b (prI b i))) 217 true),(ja,.row ((topsI b back high i).flatMap cvC) 219 6),(jb,.cells (trC b e p y) 95 true),(js,.cells [intA back,intA high] 108 true),(e,ptO b),(p,prO b)]) (topsI b back high i).length ⟨0,rfl,mN _,by simp,rfl,rfl⟩ fun n env K hI hnext1=>?_;obtain ⟨q,rfl,hq1,hany,rfl,rfl⟩:=hI;refine bG nQ ?_;refine au 923742 ?_;constructor<;>intro hc1
   ·have hql:q<(topsI b back high i).length:=by simp at hc1; omega
    refine au 370421302120 ?_;refine bH Z (zI Z Z zd.h mQ (uG (f:=cvC) (c:=6) (fun _=>rfl) (lA hql) rfl dQ)) ?_;refine au 220 ?_;intro jc hjc;refine au 680680670423170 ?_;refine bH Z (zmS (s:=((topsI b back high i)[q]).spot) (t:=(topM b (prI b i))) Z Z Z) ?_;refine au 93 ?_;constructor<;>intro hc2
    ·refine au 312304160 ?_;refine bA [2,3,5,13,14,15] ?_;refine bC [(ja,_),(jb,_),(js,_),(e,_),(p,_)] ?_;exact hnext _ _ _ oQ ⟨i+1,ja,rfl,oQ,by rw [zgo (any_T hql hc2)] <;> rfl,by rw [zgo (any_T hql hc2)] <;> rfl⟩
    refine au 312304140120 ?_;refine bA [2,3,5,6,7,8,13,14,15,31,32,33] ?_;refine bC [(jx,_),(jt,_),(ja,_),(jb,_),(js,_),(e,_),(p,_)] ?_;exact hnext1 _ _ _ oQ ⟨q+1,rfl,oQ,zhj hql hany hc2,rfl,rfl⟩
   obtain rfl:q=(topsI b back high i).length:=by simp at hc1; omega
   refine au 680168068014160 ?_;refine TK.clE Z Z Z Z (zgm hT (s:=(topM b (prI b i))) hb h1 hh hf htb) ?_;refine au 0 ?_;refine bI Z Z Z (zp (l:=[_,_,_,_,_,_]) Z zz.h TyZ.h dQ dQ Z) (fun _=>zn rfl tQ) fun jn hjn=>?_;refine bO Z Z Z (a_app Z ApOf.h Z mQ oQ Z (yp (ln:=[_,_,_,_,_,_]) mQ dQ sQ Z) oQ Z (by unfold maxLen; omega) oQ) (fun _=>uQ) (fun _=>zn rfl tQ) fun ja2=>?_;refine au 31230414035 ?_;refine bA [2,3,5,13,14,15] ?_;refine bC [(ja2,_),(jb,_),(js,_),(e,_),(p,_)] ?_;rw [lW] at hany;exact hnext _ _ _ oQ ⟨i+1,ja2,rfl,oQ,by rw [zgn hany,lF] <;> rfl,by rw [zgn hany,List.flatMap_append]; simp only [List.flatMap_cons,List.flatMap_nil,lR] <;> rfl⟩
 obtain rfl:i=b.props.length:=by simp at hc0; omega
 refine au 35142160 ?_;refine bB hret [(ja,_),(e,_),(p,_)] ?_;exact ⟨ja,rfl,rfl⟩
theorem ziR {main T} (hT:zm tp main T) {gm} {b:TrB} {e p y:Nat} (hb:TrOk b) {back high:Int} (h1:1<=back/\back<=20) (hh:0<=high/\high<=60) :
  zq tp T gm 89 [.agg (trC b e p y),.agg [intA back,intA high]] [(e,ptO b),(p,prO b)] (fun r K'=>r=.agg (ratC (shownM b back high))/\K'=[(e,ptO b),(p,prO b)]):=by
 refine zl 42 hT Tryz.func89 fun Y hret=>?_;refine au 0 ?_;have hpa:=hb.pa;have hlh:=zfZ hb h1 hh;have heb:=zfI hb h1 hh;have hsb:=ze6 hb h1 hh;refine au 21042 ?_;intro jb hjb;refine au 210 ?_;intro js hjs;refine au 220 ?_;intro jr hjr;refine au 23 ?_;refine' TK.shareX (X:=Nat×Nat) (D:=fun _=>True) (E:=fun x=>naL 2 (.ptr jb 0::.ptr js 0::.ptr jr 0::.ptr x.1 0::.ptr x.2 0::naL 35 [])) (KK:=fun x=>[(x.1,.cells (ratC (wholeM b.paint)) 28 true),(x.2,.cells (ratC (edgeM b back high).high) 28 true),(jb,.cells (trC b e p y) 95 true),(js,.cells [intA back,intA high] 108 true),(jr,.cells [intA 0,intA 0] 28 true),(e,ptO b),(p,prO b)]) (fun H=>?_) ?_;rotate_left
 ·refine bM [0,1,2,4,5,3,6,7,8,9,10,11] [0,1,2,3,4,5,6,8,9,10,7,11] ?_;refine ad [[3,2],[3,9],[10,10],[12,2],[12,3]] ?_;refine TD.cM [3,8,9] Z ?_;intro mm hmm;simp only [lI,List.not_mem_nil,or_false] at hmm;rcases hmm with rfl | rfl | rfl
  ·refine ⟨[11],_,[⟨5,[3],[(_,_)]⟩,⟨4,[2],[(_,_)]⟩,⟨1,[9],[]⟩,⟨0,[2],[]⟩],[6,7,8,9,10,11],rfl,rfl,rfl,rfl,?_⟩;refine yA Z Z Cal.h Z (yG hT) (by repeat (first | exact Split.none _ | exact Split.all _ | (apply Split.rem; repeat (first | exact Rem.head | apply Rem.tail)) | apply Split.right)) fun r1 K2 h3=>⟨?_,?_⟩
   ·rcases h3 with ⟨rfl,rfl⟩
    all_goals simp
   obtain ⟨rfl,rfl⟩:=h3;try simp only [cA]
   refine bS (env':=[_,_,_,_,_,_,_,_,_,_,_,_,_,_,_,_,_,_,_,_,_,_,_,_,_,_,_,_,_,_,_,_,_,_,_,_,_,_,_,_,_,_]) Z ?_;refine TD.cM [6,8,9] Z ?_;intro mm hmm;simp only [lI,List.not_mem_nil,or_false] at hmm;rcases hmm with rfl | rfl | rfl
   ·refine ⟨[13,14],_,[⟨1,[9],[]⟩,⟨0,[2],[]⟩],[7,8,9,10,11],rfl,rfl,rfl,rfl,?_⟩;refine yA Z Z Cal.h Z (kx hT hb h1 hh) (by repeat (first | exact Split.none _ | exact Split.all _ | (apply Split.rem; repeat (first | exact Rem.head | apply Rem.tail)) | apply Split.right)) fun r4 K5 h6=>⟨?_,?_⟩
    ·rcases h6 with ⟨rfl,rfl⟩
     all_goals simp
    obtain ⟨rfl,rfl⟩:=h6;try simp only [cA]
    refine bS (env':=[_,_,_,_,_,_,_,_,_,_,_,_,_,_,_,_,_,_,_,_,_,_,_,_,_,_,_,_,_,_,_,_,_,_,_,_,_,_,_,_,_,_]) Z ?_;refine bU [15] Z (kB Z Z zf.h Z) ?_;refine TD.c2 (i1:=8) (i2:=9) (pend1:=[⟨7,[15],[]⟩,⟨1,[9],[]⟩,⟨0,[2],[]⟩]) (pend2:=[⟨7,[15],[]⟩,⟨1,[9],[]⟩,⟨0,[2],[]⟩]) (L1:=[9,10,11]) (L2:=[8,10,11]) [] [] Z Z Z Z Z Z Z ?_ ?_
    ·refine yu Z (zU Z TyZA.h) (fun _=>zn rfl tQ) sQ fun j5 hj5=>?_;refine bX (pend':=[⟨7,[15],[]⟩,⟨1,[9],[]⟩,⟨0,[2],[]⟩]) [] Z Z Z Z Z (zU Z TyZA.h) (fun _=>zn rfl tQ) sQ fun j6 hj6=>?_;refine bR (pend':=[⟨7,[15],[]⟩]) [5,12] Z Z (zB Z Z zd.h Z Z mQ Z) ?_;refine bR (pend':=[]) [6,16] Z Z (zB Z Z zd.h Z Z mQ Z) ?_;refine ad [[14]] ?_;refine bA [2,3,4,5,6] ?_;refine bC [(j5,_),(j6,_),(jb,_),(js,_),(jr,_),(e,_),(p,_)] ?_;exact H (j5,j6) trivial
    ·refine yu Z (zU Z TyZA.h) (fun _=>zn rfl tQ) sQ fun j6 hj6=>?_;refine bX (pend':=[⟨7,[15],[]⟩,⟨1,[9],[]⟩,⟨0,[2],[]⟩]) [] Z Z Z Z Z (zU Z TyZA.h) (fun _=>zn rfl tQ) sQ fun j5 hj5=>?_;refine bR (pend':=[⟨7,[15],[]⟩]) [5,12] Z Z (zB Z Z zd.h Z Z mQ Z) ?_;refine bR (pend':=[]) [6,16] Z Z (zB Z Z zd.h Z Z mQ Z) ?_;refine ad [[14]] ?_;refine bA [2,3,4,5,6] ?_;refine bC [(j5,_),(j6,_),(jb,_),(js,_),(jr,_),(e,_),(p,_)] ?_;exact H (j5,j6) trivial
   ·refine ⟨[],_,[⟨5,[3],[(_,_)]⟩,⟨4,[2],[(_,_)]⟩,⟨1,[9],[]⟩,⟨0,[2],[]⟩],[6,7,9,10,11],rfl,rfl,rfl,rfl,?_⟩;refine yu Z (zU Z TyZA.h) (fun _=>zn rfl tQ) sQ fun j5 hj5=>?_;refine TD.c2 (i1:=6) (i2:=9) (pend1:=[⟨1,[9],[]⟩,⟨0,[2],[]⟩]) (pend2:=[⟨5,[3],[(_,_)]⟩,⟨4,[2],[(_,_)]⟩,⟨1,[9],[]⟩,⟨0,[2],[]⟩]) (L1:=[7,9,10,11]) (L2:=[6,7,10,11]) [13,14] [] Z Z Z Z Z Z Z ?_ ?_
    ·refine yA Z Z Cal.h Z (kx hT hb h1 hh) (by repeat (first | exact Split.none _ | exact Split.all _ | (apply Split.rem; repeat (first | exact Rem.head | apply Rem.tail)) | apply Split.right)) fun r7 K8 h9=>⟨?_,?_⟩
     ·rcases h9 with ⟨rfl,rfl⟩
      all_goals simp
     obtain ⟨rfl,rfl⟩:=h9;try simp only [cA]
     refine bS (env':=[_,_,_,_,_,_,_,_,_,_,_,_,_,_,_,_,_,_,_,_,_,_,_,_,_,_,_,_,_,_,_,_,_,_,_,_,_,_,_,_,_,_]) Z ?_;refine bU [15] Z (kB Z Z zf.h Z) ?_;refine bX (pend':=[⟨7,[15],[]⟩,⟨1,[9],[]⟩,⟨0,[2],[]⟩]) [] Z Z Z Z Z (zU Z TyZA.h) (fun _=>zn rfl tQ) sQ fun j6 hj6=>?_;refine bR (pend':=[⟨7,[15],[]⟩]) [5,12] Z Z (zB Z Z zd.h Z Z mQ Z) ?_;refine bR (pend':=[]) [6,16] Z Z (zB Z Z zd.h Z Z mQ Z) ?_;refine ad [[14]] ?_;refine bA [2,3,4,5,6] ?_;refine bC [(j5,_),(j6,_),(jb,_),(js,_),(jr,_),(e,_),(p,_)] ?_;exact H (j5,j6) trivial
    ·refine yu Z (zU Z TyZA.h) (fun _=>zn rfl tQ) sQ fun j6 hj6=>?_;refine bQ (pend':=[⟨1,[9],[]⟩,⟨0,[2],[]⟩]) [13,14] Z Z Z Z Z (kx hT hb h1 hh) (fun r10 K11 h12=>⟨?_,?_⟩)
     ·rcases h12 with ⟨rfl,rfl⟩
      all_goals simp
     obtain ⟨rfl,rfl⟩:=h12;try simp only [cA]
     refine bS tQ ?_;refine bU [15] Z (kB Z Z zf.h Z) ?_;refine bR (pend':=[⟨7,[15],[]⟩]) [5,12] Z Z (zB Z Z zd.h Z Z mQ Z) ?_;refine bR (pend':=[]) [6,16] Z Z (zB Z Z zd.h Z Z mQ Z) ?_;refine ad [[14]] ?_;refine bA [2,3,4,5,6] ?_;refine bC [(j5,_),(j6,_),(jb,_),(js,_),(jr,_),(e,_),(p,_)] ?_;exact H (j5,j6) trivial
   ·refine ⟨[],_,[⟨5,[3],[(_,_)]⟩,⟨4,[2],[(_,_)]⟩,⟨1,[9],[]⟩,⟨0,[2],[]⟩],[6,7,8,10,11],rfl,rfl,rfl,rfl,?_⟩;refine yu Z (zU Z TyZA.h) (fun _=>zn rfl tQ) sQ fun j6 hj6=>?_;refine TD.c2 (i1:=6) (i2:=8) (pend1:=[⟨1,[9],[]⟩,⟨0,[2],[]⟩]) (pend2:=[⟨5,[3],[(_,_)]⟩,⟨4,[2],[(_,_)]⟩,⟨1,[9],[]⟩,⟨0,[2],[]⟩]) (L1:=[7,8,10,11]) (L2:=[6,7,10,11]) [13,14] [] Z Z Z Z Z Z Z ?_ ?_
    ·refine yA Z Z Cal.h Z (kx hT hb h1 hh) (by repeat (first | exact Split.none _ | exact Split.all _ | (apply Split.rem; repeat (first | exact Rem.head | apply Rem.tail)) | apply Split.right)) fun r13 K14 h15=>⟨?_,?_⟩
     ·rcases h15 with ⟨rfl,rfl⟩
      all_goals simp
     obtain ⟨rfl,rfl⟩:=h15;try simp only [cA]
     refine bS (env':=[_,_,_,_,_,_,_,_,_,_,_,_,_,_,_,_,_,_,_,_,_,_,_,_,_,_,_,_,_,_,_,_,_,_,_,_,_,_,_,_,_,_]) Z ?_;refine bU [15] Z (kB Z Z zf.h Z) ?_;refine bX (pend':=[⟨7,[15],[]⟩,⟨1,[9],[]⟩,⟨0,[2],[]⟩]) [] Z Z Z Z Z (zU Z TyZA.h) (fun _=>zn rfl tQ) sQ fun j5 hj5=>?_;refine bR (pend':=[⟨7,[15],[]⟩]) [5,12] Z Z (zB Z Z zd.h Z Z mQ Z) ?_;refine bR (pend':=[]) [6,16] Z Z (zB Z Z zd.h Z Z mQ Z) ?_;refine ad [[14]] ?_;refine bA [2,3,4,5,6] ?_;refine bC [(j5,_),(j6,_),(jb,_),(js,_),(jr,_),(e,_),(p,_)] ?_;exact H (j5,j6) trivial
    ·refine yu Z (zU Z TyZA.h) (fun _=>zn rfl tQ) sQ fun j5 hj5=>?_;refine bQ (pend':=[⟨1,[9],[]⟩,⟨0,[2],[]⟩]) [13,14] Z Z Z Z Z (kx hT hb h1 hh) (fun r16 K17 h18=>⟨?_,?_⟩)
     ·rcases h18 with ⟨rfl,rfl⟩
      all_goals simp
     obtain ⟨rfl,rfl⟩:=h18;try simp only [cA]
     refine bS tQ ?_;refine bU [15] Z (kB Z Z zf.h Z) ?_;refine bR (pend':=[⟨7,[15],[]⟩]) [5,12] Z Z (zB Z Z zd.h Z Z mQ Z) ?_;refine bR (pend':=[]) [6,16] Z Z (zB Z Z zd.h Z Z mQ Z) ?_;refine ad [[14]] ?_;refine bA [2,3,4,5,6] ?_;refine bC [(j5,_),(j6,_),(jb,_),(js,_),(jr,_),(e,_),(p,_)] ?_;exact H (j5,j6) trivial
  ·refine ⟨[],_,[⟨5,[3],[(_,_)]⟩,⟨4,[2],[(_,_)]⟩,⟨2,[10],[(_,_)]⟩,⟨1,[9],[]⟩,⟨0,[2],[]⟩],[3,6,7,9,10,11],rfl,rfl,rfl,rfl,?_⟩;refine yu Z (zU Z TyZA.h) (fun _=>zn rfl tQ) sQ fun j5 hj5=>?_;refine TD.c2 (i1:=3) (i2:=9) (pend1:=[⟨5,[3],[(_,_)]⟩,⟨4,[2],[(_,_)]⟩,⟨1,[9],[]⟩,⟨0,[2],[]⟩]) (pend2:=[⟨5,[3],[(_,_)]⟩,⟨4,[2],[(_,_)]⟩,⟨2,[10],[(_,_)]⟩,⟨1,[9],[]⟩,⟨0,[2],[]⟩]) (L1:=[6,7,9,10,11]) (L2:=[3,6,7,10,11]) [11] [] Z Z Z Z Z Z Z ?_ ?_
   ·refine yA Z Z Cal.h Z (yG hT) (by repeat (first | exact Split.none _ | exact Split.all _ | (apply Split.rem; repeat (first | exact Rem.head | apply Rem.tail)) | apply Split.right)) fun r19 K20 h21=>⟨?_,?_⟩
    ·rcases h21 with ⟨rfl,rfl⟩
     all_goals simp
    obtain ⟨rfl,rfl⟩:=h21;try simp only [cA]
    refine bS (env':=[_,_,_,_,_,_,_,_,_,_,_,_,_,_,_,_,_,_,_,_,_,_,_,_,_,_,_,_,_,_,_,_,_,_,_,_,_,_,_,_,_,_]) Z ?_;refine TD.c2 (i1:=6) (i2:=9) (pend1:=[⟨1,[9],[]⟩,⟨0,[2],[]⟩]) (pend2:=[⟨5,[3],[(_,_)]⟩,⟨4,[2],[(_,_)]⟩,⟨1,[9],[]⟩,⟨0,[2],[]⟩]) (L1:=[7,9,10,11]) (L2:=[6,7,10,11]) [13,14] [] Z Z Z Z Z Z Z ?_ ?_
    ·refine yA Z Z Cal.h Z (kx hT hb h1 hh) (by repeat (first | exact Split.none _ | exact Split.all _ | (apply Split.rem; repeat (first | exact Rem.head | apply Rem.tail)) | apply Split.right)) fun r22 K23 h24=>⟨?_,?_⟩
     ·rcases h24 with ⟨rfl,rfl⟩
      all_goals simp
     obtain ⟨rfl,rfl⟩:=h24;try simp only [cA]
     refine bS (env':=[_,_,_,_,_,_,_,_,_,_,_,_,_,_,_,_,_,_,_,_,_,_,_,_,_,_,_,_,_,_,_,_,_,_,_,_,_,_,_,_,_,_]) Z ?_;refine bU [15] Z (kB Z Z zf.h Z) ?_;refine bX (pend':=[⟨7,[15],[]⟩,⟨1,[9],[]⟩,⟨0,[2],[]⟩]) [] Z Z Z Z Z (zU Z TyZA.h) (fun _=>zn rfl tQ) sQ fun j6 hj6=>?_;refine bR (pend':=[⟨7,[15],[]⟩]) [5,12] Z Z (zB Z Z zd.h Z Z mQ Z) ?_;refine bR (pend':=[]) [6,16] Z Z (zB Z Z zd.h Z Z mQ Z) ?_;refine ad [[14]] ?_;refine bA [2,3,4,5,6] ?_;refine bC [(j5,_),(j6,_),(jb,_),(js,_),(jr,_),(e,_),(p,_)] ?_;exact H (j5,j6) trivial
    ·refine yu Z (zU Z TyZA.h) (fun _=>zn rfl tQ) sQ fun j6 hj6=>?_;refine bQ (pend':=[⟨1,[9],[]⟩,⟨0,[2],[]⟩]) [13,14] Z Z Z Z Z (kx hT hb h1 hh) (fun r25 K26 h27=>⟨?_,?_⟩)
     ·rcases h27 with ⟨rfl,rfl⟩
      all_goals simp
     obtain ⟨rfl,rfl⟩:=h27;try simp only [cA]
     refine bS tQ ?_;refine bU [15] Z (kB Z Z zf.h Z) ?_;refine bR (pend':=[⟨7,[15],[]⟩]) [5,12] Z Z (zB Z Z zd.h Z Z mQ Z) ?_;refine bR (pend':=[]) [6,16] Z Z (zB Z Z zd.h Z Z mQ Z) ?_;refine ad [[14]] ?_;refine bA [2,3,4,5,6] ?_;refine bC [(j5,_),(j6,_),(jb,_),(js,_),(jr,_),(e,_),(p,_)] ?_;exact H (j5,j6) trivial
   ·refine yu Z (zU Z TyZA.h) (fun _=>zn rfl tQ) sQ fun j6 hj6=>?_;refine bQ (pend':=[⟨5,[3],[(_,_)]⟩,⟨4,[2],[(_,_)]⟩,⟨1,[9],[]⟩,⟨0,[2],[]⟩]) [11] Z Z Z Z Z (yG hT) (fun r28 K29 h30=>⟨?_,?_⟩)
    ·rcases h30 with ⟨rfl,rfl⟩
     all_goals simp
    obtain ⟨rfl,rfl⟩:=h30;try simp only [cA]
    refine bS tQ ?_;refine bQ (pend':=[⟨1,[9],[]⟩,⟨0,[2],[]⟩]) [13,14] Z Z Z Z Z (kx hT hb h1 hh) (fun r31 K32 h33=>⟨?_,?_⟩)
    ·rcases h33 with ⟨rfl,rfl⟩
     all_goals simp
    obtain ⟨rfl,rfl⟩:=h33;try simp only [cA]
    refine bS tQ ?_;refine bU [15] Z (kB Z Z zf.h Z) ?_;refine bR (pend':=[⟨7,[15],[]⟩]) [5,12] Z Z (zB Z Z zd.h Z Z mQ Z) ?_;refine bR (pend':=[]) [6,16] Z Z (zB Z Z zd.h Z Z mQ Z) ?_;refine ad [[14]] ?_;refine bA [2,3,4,5,6] ?_;refine bC [(j5,_),(j6,_),(jb,_),(js,_),(jr,_),(e,_),(p,_)] ?_;exact H (j5,j6) trivial
  ·refine ⟨[],_,[⟨5,[3],[(_,_)]⟩,⟨4,[2],[(_,_)]⟩,⟨2,[10],[(_,_)]⟩,⟨1,[9],[]⟩,⟨0,[2],[]⟩],[3,6,7,8,10,11],rfl,rfl,rfl,rfl,?_⟩;refine yu Z (zU Z TyZA.h) (fun _=>zn rfl tQ) sQ fun j6 hj6=>?_;refine TD.c2 (i1:=3) (i2:=8) (pend1:=[⟨5,[3],[(_,_)]⟩,⟨4,[2],[(_,_)]⟩,⟨1,[9],[]⟩,⟨0,[2],[]⟩]) (pend2:=[⟨5,[3],[(_,_)]⟩,⟨4,[2],[(_,_)]⟩,⟨2,[10],[(_,_)]⟩,⟨1,[9],[]⟩,⟨0,[2],[]⟩]) (L1:=[6,7,8,10,11]) (L2:=[3,6,7,10,11]) [11] [] Z Z Z Z Z Z Z ?_ ?_
   ·refine yA Z Z Cal.h Z (yG hT) (by repeat (first | exact Split.none _ | exact Split.all _ | (apply Split.rem; repeat (first | exact Rem.head | apply Rem.tail)) | apply Split.right)) fun r34 K35 h36=>⟨?_,?_⟩
    ·rcases h36 with ⟨rfl,rfl⟩
     all_goals simp
    obtain ⟨rfl,rfl⟩:=h36;try simp only [cA]
    refine bS (env':=[_,_,_,_,_,_,_,_,_,_,_,_,_,_,_,_,_,_,_,_,_,_,_,_,_,_,_,_,_,_,_,_,_,_,_,_,_,_,_,_,_,_]) Z ?_;refine TD.c2 (i1:=6) (i2:=8) (pend1:=[⟨1,[9],[]⟩,⟨0,[2],[]⟩]) (pend2:=[⟨5,[3],[(_,_)]⟩,⟨4,[2],[(_,_)]⟩,⟨1,[9],[]⟩,⟨0,[2],[]⟩]) (L1:=[7,8,10,11]) (L2:=[6,7,10,11]) [13,14] [] Z Z Z Z Z Z Z ?_ ?_
    ·refine yA Z Z Cal.h Z (kx hT hb h1 hh) (by repeat (first | exact Split.none _ | exact Split.all _ | (apply Split.rem; repeat (first | exact Rem.head | apply Rem.tail)) | apply Split.right)) fun r37 K38 h39=>⟨?_,?_⟩
     ·rcases h39 with ⟨rfl,rfl⟩
      all_goals simp
     obtain ⟨rfl,rfl⟩:=h39;try simp only [cA]
     refine bS (env':=[_,_,_,_,_,_,_,_,_,_,_,_,_,_,_,_,_,_,_,_,_,_,_,_,_,_,_,_,_,_,_,_,_,_,_,_,_,_,_,_,_,_]) Z ?_;refine bU [15] Z (kB Z Z zf.h Z) ?_;refine bX (pend':=[⟨7,[15],[]⟩,⟨1,[9],[]⟩,⟨0,[2],[]⟩]) [] Z Z Z Z Z (zU Z TyZA.h) (fun _=>zn rfl tQ) sQ fun j5 hj5=>?_;refine bR (pend':=[⟨7,[15],[]⟩]) [5,12] Z Z (zB Z Z zd.h Z Z mQ Z) ?_;refine bR (pend':=[]) [6,16] Z Z (zB Z Z zd.h Z Z mQ Z) ?_;refine ad [[14]] ?_;refine bA [2,3,4,5,6] ?_;refine bC [(j5,_),(j6,_),(jb,_),(js,_),(jr,_),(e,_),(p,_)] ?_;exact H (j5,j6) trivial
    ·refine yu Z (zU Z TyZA.h) (fun _=>zn rfl tQ) sQ fun j5 hj5=>?_;refine bQ (pend':=[⟨1,[9],[]⟩,⟨0,[2],[]⟩]) [13,14] Z Z Z Z Z (kx hT hb h1 hh) (fun r40 K41 h42=>⟨?_,?_⟩)
     ·rcases h42 with ⟨rfl,rfl⟩
      all_goals simp
     obtain ⟨rfl,rfl⟩:=h42;try simp only [cA]
     refine bS tQ ?_;refine bU [15] Z (kB Z Z zf.h Z) ?_;refine bR (pend':=[⟨7,[15],[]⟩]) [5,12] Z Z (zB Z Z zd.h Z Z mQ Z) ?_;refine bR (pend':=[]) [6,16] Z Z (zB Z Z zd.h Z Z mQ Z) ?_;refine ad [[14]] ?_;refine bA [2,3,4,5,6] ?_;refine bC [(j5,_),(j6,_),(jb,_),(js,_),(jr,_),(e,_),(p,_)] ?_;exact H (j5,j6) trivial
   ·refine yu Z (zU Z TyZA.h) (fun _=>zn rfl tQ) sQ fun j5 hj5=>?_;refine bQ (pend':=[⟨5,[3],[(_,_)]⟩,⟨4,[2],[(_,_)]⟩,⟨1,[9],[]⟩,⟨0,[2],[]⟩]) [11] Z Z Z Z Z (yG hT) (fun r43 K44 h45=>⟨?_,?_⟩)
    ·rcases h45 with ⟨rfl,rfl⟩
     all_goals simp
    obtain ⟨rfl,rfl⟩:=h45;try simp only [cA]
    refine bS tQ ?_;refine bQ (pend':=[⟨1,[9],[]⟩,⟨0,[2],[]⟩]) [13,14] Z Z Z Z Z (kx hT hb h1 hh) (fun r46 K47 h48=>⟨?_,?_⟩)
    ·rcases h48 with ⟨rfl,rfl⟩
     all_goals simp
    obtain ⟨rfl,rfl⟩:=h48;try simp only [cA]
    refine bS tQ ?_;refine bU [15] Z (kB Z Z zf.h Z) ?_;refine bR (pend':=[⟨7,[15],[]⟩]) [5,12] Z Z (zB Z Z zd.h Z Z mQ Z) ?_;refine bR (pend':=[]) [6,16] Z Z (zB Z Z zd.h Z Z mQ Z) ?_;refine ad [[14]] ?_;refine bA [2,3,4,5,6] ?_;refine bC [(j5,_),(j6,_),(jb,_),(js,_),(jr,_),(e,_),(p,_)] ?_;exact H (j5,j6) trivial
 ·rintro ⟨j5,j6⟩ _;refine bG nQ ?_
  (try dsimp only)
  refine au 680680422 ?_;refine TK.clE Z Z Z Z (zac hT (a:=(edgeM b back high).high) (c:=wholeM b.paint) heb (yL (A:=60) oQ) dQ dQ) ?_;refine au 3 ?_;refine' TK.shareX (X:=Unit) (D:=fun _=>True) (E:=fun _=>naL 2 (.ptr jb 0::.ptr js 0::.ptr jr 0::.ptr j5 0::.ptr j6 0::naL 35 [])) (KK:=fun _=>[(j5,.cells (ratC (lowI b back high)) 28 true),(j6,.cells (ratC (highI b back high)) 28 true),(jb,.cells (trC b e p y) 95 true),(js,.cells [intA back,intA high] 108 true),(jr,.cells [intA 0,intA 0] 28 true),(e,ptO b),(p,prO b)]) (fun H=>?_) ?_;rotate_left
  ·skip;refine au 9 ?_;constructor<;>intro hc0
   ·skip;refine au 31701706806804 ?_;refine bA [2,3,4,5,6] ?_;refine bC [(j5,_),(j6,_),(jb,_),(js,_),(jr,_),(e,_),(p,_)] ?_;have e1:lowI b back high=(edgeM b back high).high:=by unfold lowI; rw [if_pos hc0]
    have e2:highI b back high=wholeM b.paint:=by unfold highI; rw [if_pos hc0]
    rw [e1,e2] at H;exact H () trivial
   ·skip;refine au 120 ?_;refine bA [2,3,4,5,6] ?_;refine bC [(j5,_),(j6,_),(jb,_),(js,_),(jr,_),(e,_),(p,_)] ?_;have e1:lowI b back high=wholeM b.paint:=by unfold lowI; rw [if_neg (by rw [hc0]; decide)]
    have e2:highI b back high=(edgeM b back high).high:=by unfold highI; rw [if_neg (by rw [hc0]; decide)]
    rw [e1,e2] at H;exact H () trivial
  ·intro _ _;refine bG nQ ?_;refine au 680680422 ?_;refine bD Z Z Z Z (zkp hT hb h1 hh) ?_;rintro r52 K53 ⟨ja,rfl,rfl⟩;refine au 13031280 ?_;refine bA [2,3,4,5,6,24,25,26] ?_;refine bC [(ja,_),(j5,_),(j6,_),(jb,_),(js,_),(jr,_),(e,_),(p,_)] ?_;refine bE (fun n env K=>∃ (i:Nat),n=(topsM b back high).length - i/\i<=(topsM b back high).length/\env=naL 2 (.ptr jb 0::.ptr js 0::.ptr jr 0::.ptr j5 0::.ptr j6 0::naL 17 (.row ja (topsM b back high).length::intA (topsM b back high).length::intA i::naL 15 []))/\K=[(ja,.row ((topsM b back high).flatMap cvC) 219 6),(j5,.cells (ratC (lowF (lowI b back high) ((topsM b back high).take i))) 28 true),(j6,.cells (ratC (highI b back high)) 28 true),(jb,.cells (trC b e p y) 95 true),(js,.cells [intA back,intA high] 108 true),(jr,.cells [intA 0,intA 0] 28 true),(e,ptO b),(p,prO b)]) (topsM b back high).length ⟨0,rfl,mN _,rfl,rfl⟩ fun n env K hI hnext=>?_;obtain ⟨i,rfl,hi,rfl,rfl⟩:=hI;have htl:(topsM b back high).length<=b.props.length:=zaQ b back high b.props.length;have hnp:=hb.np;have hlb:RBd 2000000 4800 (lowF (lowI b back high) ((topsM b back high).take i)):=zcD _ _ hlh.1 fun c hc=>uI hb h1 hh _ (mL _) c (List.mem_of_mem_take hc);refine bG nQ ?_;refine au 923742 ?_;constructor<;>intro hc1
   ·have hil:i<(topsM b back high).length:=by simp at hc1; omega
    have hcb:=uI hb h1 hh _ (mL _) _ (List.getElem_mem (l:=(topsM b back high)) hil);refine au 370421302120 ?_;refine bH Z (zI Z Z zd.h mQ (uG (f:=cvC) (c:=6) (fun _=>rfl) (lA hil) rfl dQ)) ?_;refine au 220 ?_;intro jx hjx;refine au 68067068043170 ?_;refine bI Z Z Z (zp (l:=[_,_]) Z zz.h TyZ.h dQ dQ Z) (fun _=>zn rfl tQ) fun jn hjn=>?_;refine TK.clE Z Z Z Z (zcn hT (a:=(lowF (lowI b back high) ((topsM b back high).take i))) (c:=((topsM b back high)[i]).high) hlb hcb dQ dQ) ?_;refine au 3123041403170 ?_;refine bA [2,3,4,5,6,24,25,26] ?_;refine bC [(ja,_),(j5,_),(j6,_),(jb,_),(js,_),(jr,_),(e,_),(p,_)] ?_;exact hnext _ _ _ oQ ⟨i+1,rfl,oQ,rfl,by rw [zl9 hil] <;> rfl⟩
   obtain rfl:i=(topsM b back high).length:=by simp at hc1; omega
   rw [lW] at hlb ⊢;refine au 68068042160 ?_;refine TK.clE Z Z Z Z (uk hT hlh.2 hlb dQ dQ dQ dQ) ?_;refine au 0 ?_;refine TK.clE Z Z Z Z (yG hT) ?_;refine au 0 ?_;refine bI Z Z Z (zp (l:=[_,_]) Z zz.h TyZ.h dQ dQ Z) (fun _=>zn rfl tQ) fun jn hjn=>?_;refine TK.clE Z Z Z Z (zcn hT (c:=wholeM 0) hsb.1 (yL (n:=0) (A:=60) dQ) dQ dQ) ?_;refine au 3170 ?_;refine bB hret [(e,_),(p,_)] ?_;exact ⟨rfl,rfl⟩
theorem zkm {main T} (hT:zm tp main T) {gm} {b:TrB} {e p y:Nat} (hb:TrOk b) {back high:Int} (h1:1<=back/\back<=20) (hh:0<=high/\high<=60) :
  zq tp T gm 41 [.agg (trC b e p y),.agg [intA back,intA high]] [(e,ptO b),(p,prO b)] (fun r K'=>r=zF (seesM b back high)/\K'=[(e,ptO b),(p,prO b)]):=by
 refine zl 12 hT Tryz.func41 fun Y hret=>?_;refine au 0 ?_;have hsb:=ze6 hb h1 hh;have hfb:RBd 20 20 b.fine:=⟨by have:=hb.fn; omega,by have:=hb.fd; omega⟩;refine au 21042 ?_;intro jb hjb;refine au 210 ?_;intro js hjs;refine au 235 ?_;refine bL [0,1,2,3,4,5,6,7] ?_;refine ad [[3,2],[3,5],[12,6],[12,2],[12,3]] ?_;refine bQ (pend':=[⟨2,[6],[(_,_)]⟩,⟨1,[5],[]⟩,⟨0,[2],[]⟩]) [8,9] Z Z Z Z Z (ziR hT hb h1 hh) (fun r1 K2 h3=>⟨?_,?_⟩)
 ·rcases h3 with ⟨rfl,rfl⟩
  all_goals simp
 obtain ⟨rfl,rfl⟩:=h3;try simp only [cA]
 refine bS tQ ?_;refine bQ (pend':=[⟨1,[5],[]⟩,⟨0,[2],[]⟩]) [7,10] Z Z Z Z Z (zac hT (a:=b.fine) hfb hsb.2 dQ dQ) (fun r4 K5 h6=>⟨?_,?_⟩)
 ·rcases h6 with ⟨rfl,rfl⟩
  all_goals simp
 obtain ⟨rfl,rfl⟩:=h6;try simp only [cA]
 refine bS tQ ?_;refine ad [[13,11],[14]] ?_;refine au 0 ?_;refine bB hret [(e,_),(p,_)] ?_;exact ⟨rfl,rfl⟩
theorem zm2 {main T} (hT:zm tp main T) {gm} {b:TrB} {e p y:Nat} {n:Nat} {h:Int} (hn:n<b.eyes.length) :
  zq tp T gm 42 [.agg (trC b e p y),intA n,intA h] [(y,eyO b)] (fun r K'=>r=.agg [intA (eyI b n).back,intA h]/\K'=[(y,eyO b)]):=by
 refine zl 16 hT Tryz.func42 fun Y hret=>?_;refine au 21042 ?_;intro jb hjb;refine au 220 ?_;intro jr hjr;refine au 6703601690670670423 ?_;refine bH Z (zg Z Z zd.h mQ (zW (c:=0) (ey_at b (i:=n) hn Z) dQ Z)) ?_;refine au 31703901 ?_;refine bB hret [(y,_)] ?_;exact ⟨rfl,rfl⟩
def YieldG (P:Program) (T:Goroutine->Hp->Prop) (gm:Nat->Option Nat) {α:Type} (Fx:KV) (ar:α->AV) (l:Nat) (J:List α->KV->Prop) (D:KV->Prop) (tot:List α):Prop:=∀ (pre:List α) (x:α) (K1:KV),pre++[x] <+: tot->J pre K1 ->
 CallFK P T gm (.yl l) [ar x] (Fx++K1) fun r K'=>∃ K2,K'=Fx++K2/\((r=zF true/\J (pre++[x]) K2)\/(r=zF false/\D K2))
section
variable {P:Program} {main:Bool} {T:Goroutine->Hp->Prop} {gm:Nat->Option Nat} {Y:KX P gm T} {ds:List Nat} {k:List Item} {env:List AV} {K K0 R:KV} {ops:Array Oper} {i:Nat} {rest:List Nat} {o:Oper}
theorem TK.rangeG {α:Type} (hT:zm P main T) {fo:Operand} {ps:Array Tmp} {x y:Code} {g:FuncId} {fs cp:List AV} {Fx:KV} {ar:α->AV} {tot:List α} {J:List α->KV->Prop} {D:Code->KV->Prop} (hps:ps.size=1) (hro:Y.X.ro=none) (hf:zo gm env fo=some (.fn g fs cp)) (hg:yk P g=true) (hs:Split K (Fx++K0) R) (hJ0:J [] K0)
  (hit:∀ (l:Nat) (J':List α->KV->Prop) (D':KV->Prop) (K1:KV),YieldG P T gm Fx ar l J' D' tot->J' [] K1->zq P T gm g (fs++[.yl l]++cp) (Fx++K1) (fun _ K'=>∃ K2,K'=Fx++K2/\(J' tot K2\/D' K2)))
  (round:∀ (Y':KX P gm T) (l:Nat) (lo lb:AObj) (pre:List α) (S:α) (K1:KV),(∀ ds k env' K K',Upd K l lo l lb K'->TK Y' ds k env' K'->TK Y' ds (.beginRound::k) env' K) ->
   (∀ env' K' K2 D',Split K' ((l,lb)::(Fx++K2)) D'->J (pre++[S]) K2->TK Y' [] [] env' K') ->
   (∀ c k env' K' K2 D',Leave (some c) k->Split K' ((l,lb)::(Fx++K2)) D'->D c K2->TK Y' [] k env' K') ->
   pre++[S] <+: tot->J pre K1->TK Y' [] [.code x,.beginRound,.code y] (putAll env (ps.toList.zip [ar S])) ((l,lo)::(Fx++K1)))
  (hend:∀ d K2,J tot K2->TK Y (d::ds) k env ((d,.raw (.deferred (some [])))::(Fx++(K2++R))))
  (hstop:∀ d c K2,D c K2->TK Y (d::ds) (.code c::k) env ((d,.raw (.deferred (some [])))::(Fx++(K2++R)))):TK Y ds (.code (.rangeFunc fo ps x y)::k) env K:=by
 refine TK.rangeFunc (Post:=fun l _ K'=>∃ st pj K2,K'=(l,.loop Y.X.f env ps x y st pj)::(Fx++K2)/\((st=.ready/\pj=none/\J tot K2)\/∃ c,st=.done/\pj=some c/\D c K2))
  (Q:=fun pj K'=>∃ K2,K'=Fx++K2/\((pj=none/\J tot K2)\/∃ c,pj=some c/\D c K2)) hro hf hg hs (fun l hl=>?_) ?_ ?_
 ·intro A hv hn;have hp:((l,AObj.loop Y.X.f env ps x y .ready none)::(Fx++K0)).Perm (Fx++(l,.loop Y.X.f env ps x y .ready none)::K0):=List.perm_middle.symm;refine CallT.mono (hit l (fun pre K=>∃ K3,K=(l,.loop Y.X.f env ps x y .ready none)::K3/\J pre K3) (fun K=>∃ c K3,K=(l,.loop Y.X.f env ps x y .done (some c))::K3/\D c K3) _ ?_ ⟨K0,rfl,hJ0⟩ A (hv.sub fun x hx=>hp.symm.subset hx) ((zS hp).nodup_iff.1 hn)) ?_
  ·rintro pre S K1 hpre ⟨K3,rfl,hJ⟩;refine CallFK.perm (Post:=fun r K'=>(r=zF true/\∃ K2,K'=(l,.loop Y.X.f env ps x y .ready none)::(Fx++K2)/\J (pre++[S]) K2)\/(r=zF false/\∃ c K2,K'=(l,.loop Y.X.f env ps x y .done (some c))::(Fx++K2)/\D c K2)) ?_ ?_
   ·refine zcV hT (i:=l) (f:=Y.X.f) (env:=env) (ps:=ps) (x:=x) (y:=y) sQ hps.symm fun Y' hro' hl' hret=>?_;refine bN List.perm_middle ?_;refine round Y' l (.loop Y.X.f env ps x y .ready none) (.loop Y.X.f env ps x y .busy none) pre S K3 (fun ds k env' K K' hu h=>TK.beginRound hro' hl' hu h) (fun env' K' K2 D' hsp hJ'=>?_) (fun c k env' K' K2 D' hlv hsp hD=>?_) hpre hJ
    ·exact TK.leave .fin fun A hA=>hret none env' K' (Fx++K2) D' .busy none hsp (.inl ⟨rfl,K2,rfl,hJ'⟩) A hA
    ·exact TK.leave hlv fun A hA=>hret (some c) env' K' (Fx++K2) D' .busy none hsp (.inr ⟨rfl,c,K2,rfl,hD⟩) A hA
   ·rintro r K' (⟨rfl,K2,rfl,h⟩ | ⟨rfl,c,K2,rfl,h⟩)
    ·exact ⟨_,List.perm_middle.symm,_,rfl,.inl ⟨rfl,K2,rfl,h⟩⟩
    ·exact ⟨_,List.perm_middle.symm,_,rfl,.inr ⟨rfl,c,K2,rfl,h⟩⟩
  ·rintro r A' ⟨K',hk,K2,rfl,h⟩;have hk2:∀ K'',(Fx++K2).Perm K''->Kstep ((l,AObj.loop Y.X.f env ps x y .ready none)::(Fx++K0)) A K'' A':=fun K'' hp2 =>
    Kstep.perm ⟨hk.view,hk.nd,fun i hi=>(hk.own i hi).imp_left fun h=>(zS hp).symm.subset h,fun j h1 h2=>hk.kept j h1 fun h=>h2 ((zS hp).symm.subset h),hk.len⟩ hp2
   rcases h with ⟨K3,rfl,h⟩ | ⟨c,K3,rfl,h⟩
   ·exact ⟨_,hk2 _ List.perm_middle,.ready,none,K3,rfl,.inl ⟨rfl,rfl,h⟩⟩
   ·exact ⟨_,hk2 _ List.perm_middle,.done,some c,K3,rfl,.inr ⟨c,rfl,rfl,h⟩⟩
 ·rintro l r K' ⟨st,pj,K2,rfl,h⟩;refine ⟨st,pj,_,rfl,?_,K2,rfl,?_⟩
  ·rcases h with ⟨rfl,_⟩ | ⟨c,rfl,_⟩ <;> rfl
  ·rcases h with ⟨_,rfl,h⟩ | ⟨c,_,rfl,h⟩
   ·exact .inl ⟨rfl,h⟩
   ·exact .inr ⟨c,rfl,h⟩
 ·rintro d pj K' ⟨K2,rfl,⟨rfl,h⟩ | ⟨c,rfl,h⟩⟩
  ·rw [List.append_assoc]; exact hend d K2 h
  ·rw [List.append_assoc]; exact hstop d c K2 h
end
def hsC (s:List Int):List AV:=[intA (s.getD 0 0),intA (s.getD 1 0),intA (s.getD 2 0)]
abbrev hsA (s:List Int):AV:=.agg (hsC s)
theorem zl4 {c s:List Int} (h3:c.length=3) (hz:∀ k,s.length<=k->c.getD k 0=0) (hk:c.take s.length=s):hsC s=c.map intA:=by
 obtain ⟨x,y,z,rfl⟩:∃ x y z,c=[x,y,z]:=by
  match c,h3 with
  | [x,y,z],_=>exact ⟨x,y,z,rfl⟩
 have key:∀ k,s.getD k 0=[x,y,z].getD k 0:=fun k=>by
  rcases Nat.lt_or_ge k s.length with h | h
  ·conv=>lhs; rw [<- hk]
   rw [lE,lE,List.getElem?_take_of_lt h]
  ·rw [hz k h,lE,List.getElem?_eq_none h];rfl
 unfold hsC;rw [key,key,key];rfl
structure ArrT (b:TrB) (c q:List Int):Prop where
 len:c.length=3
 tk:c.take q.length=q
 z:∀ k,b.eyes.length<=k->c.getD k 0=0
theorem zi2 {b:TrB} {c q:List Int} {n:Int} (h:ArrT b c q) (hp:q.length<b.eyes.length) (h5:b.eyes.length<=3):ArrT b (c.set q.length n) (q++[n]):=by
 have hl:=h.len;refine ⟨by simp [hl],?_,fun k hk=>?_⟩
 ·rw [lF,List.length_singleton,List.take_add_one,List.getElem?_set_self oQ,List.take_set_of_le (mL _),h.tk];rfl
 ·rw [lE,List.getElem?_set_ne oQ,<- lE];exact h.z k hk
theorem zcU {b:TrB} {c q:List Int} {n:Int} (h:ArrT b c (q++[n])):ArrT b c q:=⟨h.len,by
 have:=congrArg (List.take q.length) h.tk;rw [List.take_take,lF,List.take_append_of_le_length (mL _),lW] at this;rw [Nat.min_eq_left sQ] at this;exact this,h.z⟩
theorem zh0 (n hi:Int) (h:n<=hi):numsF n (hi+1 - n).toNat=n::numsF (n+1) (hi+1 - (n+1)).toNat:=by
 rw [show (hi+1 - n).toNat=(hi+1 - (n+1)).toNat+1 by omega]; rfl
theorem zhZ (n hi:Int) (h:¬ n<=hi):numsF n (hi+1 - n).toNat=[]:=by
 rw [show (hi+1 - n).toNat=0 by omega]; rfl
theorem zdo {f:Int->List (List Int)} {n hi:Int} {pre x:List (List Int)} (hn:n<=hi) (h:pre++(numsF n (hi+1 - n).toNat).flatMap f=x):(pre++f n)++(numsF (n+1) (hi+1 - (n+1)).toNat).flatMap f=x:=by
 rw [<- h,zh0 n hi hn,List.flatMap_cons,List.append_assoc]
theorem zmK {a b c d:Nat×AObj} {R:KV}:(d::c::b::a::R).Perm (a::c::b::d::R):=by
 have q1:(d::c::b::a::R).Perm (c::b::a::d::R):=(List.perm_middle (l₁:=[c,b,a])).symm;have q2:(c::b::a::d::R).Perm (a::c::b::d::R):=List.perm_middle (l₁:=[c,b]);exact q1.trans q2
theorem zgI {α:Type} {xs:List α} {i:Nat} {x:α} (h:xs[i]? =some x):xs.drop i=x::xs.drop (i+1):=by
 obtain ⟨h1,h2⟩:=List.getElem?_eq_some_iff.1 h;rw [List.drop_eq_getElem_cons h1,h2]
theorem zgK {α:Type} (f:α->List AV) (xs:List α) (x:α):(xs++[x]).flatMap f=xs.flatMap f++f x:=by rw [List.flatMap_append]; simp
theorem zjZ {b:TrB} (hb:TrOk b) {pre:List (List Int)} (h:pre <+: ym b):pre.length<=27:=Nat.le_trans h.length_le (zbo hb)
instance:ApOf tp 96 105 3 24:={}
instance:ArEl tp 105 3 3 false 1:={}
instance:zz tp 96 105 3:={}
instance:zd tp 105 true 3:={}
instance:zd tp 110 false 1:={}
instance:zd tp 96 false 1:={}
instance:TyZ tp 105 [.int .i64 0,.int .i64 0,.int .i64 0]:={}
instance:TyZA tp 105 [.v (.int .i64 0),.v (.int .i64 0),.v (.int .i64 0)]:={}
theorem ziH {main T} (hT:zm tp main T) {gm} {v:AV} :
  zq tp T gm 192 [.v (.slice none 0 0),v] [] (fun r K'=>r=intA (-1)/\K'=[]):=by
 refine zl 19 hT Tryz.func192 fun Y hret=>?_;refine au 1303128014223542 ?_;refine TK.loop ?_;refine au 923742 ?_;constructor<;>intro hc0
 ·exact absurd hc0 dQ
 refine au 3542160 ?_;refine bB hret [] ?_;exact ⟨rfl,rfl⟩
theorem zfe {main T} (hT:zm tp main T) {gm} {v:AV} :
  zq tp T gm 160 [.v (.slice none 0 0),v] [] (fun r K'=>r=zF false/\K'=[]):=by
 refine zl 9 hT Tryz.func160 fun Y hret=>?_;refine au 11423542 ?_;refine TK.clE Z Z Z Z (ziH hT) ?_;refine au 357 ?_;refine bB hret [] ?_;exact ⟨rfl,rfl⟩
theorem ziP {main T} (hT:zm tp main T) {gm} {b:TrB} {e p y:Nat} {hs:List AV} :
  zq tp T gm 116 [.agg (trC b e p y),.agg hs] [] (fun r K'=>r=zF true/\K'=[]):=by
 refine zl 11 hT Tryz.func116 fun Y hret=>?_;refine au 21042 ?_;intro jb hjb;refine au 210 ?_;intro jh hjh;refine au 3206906706704235 ?_;refine TK.clE Z Z Z Z (zfe hT) ?_;refine au 35300 ?_;refine bB hret [] ?_;exact ⟨rfl,rfl⟩
theorem zkj {main T} (hT:zm tp main T) {gm} {b:TrB} {e p y l jb js jy jn:Nat} (hb:TrOk b) {J:List (List Int)->KV->Prop} {D:KV->Prop} {tot:List (List Int)} (hy:YieldG tp T gm [(y,eyO b)] hsA l J D tot) :
  ∀ (m:Nat) (q c:List Int) (pre:List (List Int)) (K1:KV),b.eyes.length - q.length=m->ArrT b c q->q.length<=b.eyes.length->pre++fromT (b.eyes.drop q.length) q <+: tot->J pre K1 ->
  zq tp T gm 115 [intA q.length,.ptr jb 0,.ptr js 0,.ptr jy 0,.ptr jn 0] ((jb,.cells (trC b e p y) 95 true)::(js,.cells (c.map intA) 105 true)::(jy,.cells [.yl l] 110 true)::(jn,.cells [.fn 115 [] [.ptr jb 0,.ptr js 0,.ptr jy 0,.ptr jn 0]] 171 true)::(y,eyO b)::K1) (fun r K'=>∃ (c':List Int) (K2:KV),ArrT b c' q/\K'=(jb,.cells (trC b e p y) 95 true)::(js,.cells (c'.map intA) 105 true)::(jy,.cells [.yl l] 110 true)::(jn,.cells [.fn 115 [] [.ptr jb 0,.ptr js 0,.ptr jy 0,.ptr jn 0]] 171 true)::(y,eyO b)::K2/\((r=zF true/\J (pre++fromT (b.eyes.drop q.length) q) K2)\/(r=zF false/\D K2))):=by
 refine fun m=>Nat.strongRecOn m fun m ih=>?_;intro q c pre K1 hm hc hp hpre hJ;refine zl 51 hT Tryz.func115 fun Y hret=>?_;have hcl:=hc.len;have hny:=hb.ny;refine au 93728069067067014223542 ?_;constructor<;>intro hc0
 ·have hpl:q.length=b.eyes.length:=by simp at hc0; omega
  have hcp:c.map intA=hsC q:=(zl4 hcl (fun k hk=>hc.z k oQ) hc.tk).symm;rw [hcp];have hdn:b.eyes.drop q.length=[]:=List.drop_eq_nil_of_le oQ;have hfr:fromT (b.eyes.drop q.length) q=[q]:=by rw [hdn]; rfl
  refine au 68068042 ?_;refine bD Z Z Z Z (ziP hT (e:=e) (p:=p) (y:=y)) ?_ (hs:=(.none _));rintro r1 K2 ⟨rfl,rfl⟩;refine au 1300 ?_;refine TK.sp 18 (fun g2_5=>?_) (fun g2_5=>?_)
  ·exact absurd g2_5 dQ
  refine au 680690 ?_;refine TK.callF' Z Z Z Z Z (hy pre q K1 (by rw [<- hfr]; exact hpre) hJ) (.right (.right (.right (.right (.all _))))) fun r4 K5 h6=>?_;rcases h6 with ⟨K2,rfl,⟨rfl,hJ2⟩ | ⟨rfl,hD⟩⟩
  ·refine au 0 ?_;refine bN (K':=(jb,_)::(js,_)::(jy,_)::(jn,_)::(y,_)::K2) (lH (l₁:=(y,_)::K2)) ?_;refine au 35250 ?_;refine bB hret (_) ?_ (hs:=(.all _));exact ⟨c,K2,hc,by rw [hcp],.inl ⟨rfl,by rw [hfr]; exact hJ2⟩⟩
  ·refine au 0 ?_;refine bN (K':=(jb,_)::(js,_)::(jy,_)::(jn,_)::(y,_)::K2) (lH (l₁:=(y,_)::K2)) ?_;refine au 35250 ?_;refine bB hret (_) ?_ (hs:=(.all _));exact ⟨c,K2,hc,by rw [hcp],.inr ⟨rfl,hD⟩⟩
 have hlt:q.length<b.eyes.length:=by simp at hc0; omega
 have hbd:=hb.ey q.length hlt;have hdc:b.eyes.drop q.length=(eyI b q.length)::b.eyes.drop (q.length+1):=zgI (zhy hlt);have hfr:fromT (b.eyes.drop q.length) q=(numsF (eyI b q.length).lo ((eyI b q.length).hi+1 - (eyI b q.length).lo).toNat).flatMap fun n=>fromT (b.eyes.drop (q.length+1)) (q++[n]):=by rw [hdc]; rfl
 refine au 6706703601690670670422120 ?_;refine bH Z (zg Z Z zd.h mQ (zW (c:=1) (ey_at b hlt Z) dQ Z)) ?_;refine au 13035 ?_;refine bA [0,1,2,3,4,6,7] ?_;refine bE (fun n1 env K=>∃ (n:Int) (c1:List Int) (pre1:List (List Int)) (K2:KV),n1=((eyI b q.length).hi+1 - n).toNat/\((eyI b q.length).lo<=n/\n<=(eyI b q.length).hi+1)/\ArrT b c1 q/\J pre1 K2/\pre1++(numsF n ((eyI b q.length).hi+1 - n).toNat).flatMap (fun n=>fromT (b.eyes.drop (q.length+1)) (q++[n]))=pre++fromT (b.eyes.drop q.length) q/\env=intA q.length::.ptr jb 0::.ptr js 0::.ptr jy 0::.ptr jn 0::.any::zF false::intA n::naL 43 []/\K=(jb,.cells (trC b e p y) 95 true)::(js,.cells (c1.map intA) 105 true)::(jy,.cells [.yl l] 110 true)::(jn,.cells [.fn 115 [] [.ptr jb 0,.ptr js 0,.ptr jy 0,.ptr jn 0]] 171 true)::(y,eyO b)::K2) _ ⟨(eyI b q.length).lo,c,pre,K1,rfl,oQ,hc,hJ,by rw [hfr],rfl,rfl⟩ fun n1 env K hI hnext=>?_;obtain ⟨n,c1,pre1,K2,rfl,hn,hc1a,hJ1,hEq,rfl,rfl⟩:=hI;have hc1l:=hc1a.len;refine bG nQ ?_;refine au 67067036016906706701422 ?_;refine bH Z (zg Z Z zd.h mQ (zW (c:=2) (ey_at b hlt Z) dQ Z)) ?_;refine au 937 ?_;constructor<;>intro hc1
 ·have hnh:n<=(eyI b q.length).hi:=of_decide_eq_true hc1;refine au 11421302120 ?_;refine bH Z (kS Z Z Z ArEl.h oQ oQ) ?_;refine TK.st Z Z Z (zB Z Z zd.h Z Z mQ (vL (k:=q.length) oQ Z)) uQ (putN Z) ?_;refine au 2301690423 ?_;refine bD Z Z Z Z ((by have:=ih (b.eyes.length - (q.length+1)) oQ (q++[n]) (c1.set q.length n) pre1 K2 sQ (zi2 hc1a hlt oQ) (by rw [lF,List.length_singleton]; omega) (List.IsPrefix.trans ⟨_,by rw [lF]; exact zdo hnh hEq⟩ hpre) hJ1; rw [lF] at this; exact this)) ?_ (hs:=(.all _));rintro r7 K8 h9;rcases h9 with ⟨c2,K3,hc2,rfl,⟨rfl,hJ3⟩ | ⟨rfl,hD⟩⟩
  ·refine au 0 ?_;refine bN (K':=(jb,.cells (trC b e p y) 95 true)::(js,.cells (c2.map intA) 105 true)::(jy,.cells [.yl l] 110 true)::(jn,.cells [.fn 115 [] [.ptr jb 0,.ptr js 0,.ptr jy 0,.ptr jn 0]] 171 true)::(y,eyO b)::K3) (by rw [lR]) ?_;refine au 35230141401201903300 ?_;refine bA [0,1,2,3,4,6,7] ?_;exact hnext _ _ _ oQ ⟨n+1,c2,_,K3,rfl,oQ,zcU hc2,hJ3,zdo hnh hEq,rfl,rfl⟩
  ·refine au 0 ?_;refine bN (K':=(jb,.cells (trC b e p y) 95 true)::(js,.cells (c2.map intA) 105 true)::(jy,.cells [.yl l] 110 true)::(jn,.cells [.fn 115 [] [.ptr jb 0,.ptr js 0,.ptr jy 0,.ptr jn 0]] 171 true)::(y,eyO b)::K3) (by rw [lR]) ?_;refine au 35421803300 ?_;refine bB hret (_) ?_ (hs:=(.all _));exact ⟨c2,K3,zcU hc2,rfl,.inr ⟨rfl,hD⟩⟩
 refine au 3542160 ?_;refine bB hret (_) ?_ (hs:=(.all _));exact ⟨c1,K2,hc1a,rfl,.inl ⟨rfl,by rw [<- hEq,zhZ _ _ (of_decide_eq_false hc1)]; simpa using hJ1⟩⟩
theorem zhf {main T} (hT:zm tp main T) {gm} {b:TrB} {e p y:Nat} (hb:TrOk b) {l:Nat} {J:List (List Int)->KV->Prop} {D:KV->Prop} {K1:KV} (hy:YieldG tp T gm [(y,eyO b)] hsA l J D (ym b)) (hJ:J [] K1) :
  zq tp T gm 86 [.agg (trC b e p y),.yl l] ((y,eyO b)::K1) (fun _ K'=>∃ K2,K'=[(y,eyO b)]++K2/\(J (ym b) K2\/D K2)):=by
 refine zl 9 hT Tryz.func86 fun Y hret=>?_;refine au 0 ?_;have hny:=hb.ny;refine au 21042 ?_;intro jb hjb;refine au 210 ?_;intro jy hjy;refine au 220423 ?_;intro js hjs;refine au 220423 ?_;intro jn hjn;refine au 3170320423 ?_;refine bN (K':=(jb,.cells (trC b e p y) 95 true)::(js,.cells ([0,0,0].map intA) 105 true)::(jy,.cells [.yl l] 110 true)::(jn,.cells [.fn 115 [] [.ptr jb 0,.ptr js 0,.ptr jy 0,.ptr jn 0]] 171 true)::(y,eyO b)::K1) zmK ?_;refine au 6904 ?_;refine bD Z Z Z Z (zkj hT hb hy _ [] [0,0,0] [] K1 Z ⟨rfl,rfl,fun k hk=>by rw [lE]; rcases k with _ | _ | _ | k <;> rfl⟩ (mN _) (List.prefix_refl _) hJ) ?_ (hs:=(.all _));rintro r1 K2 h3;rcases h3 with ⟨c2,K2,hc2,rfl,⟨rfl,hJ2⟩ | ⟨rfl,hD⟩⟩
 ·refine au 0 ?_;refine bN (K':=(jb,.cells (trC b e p y) 95 true)::(js,.cells (c2.map intA) 105 true)::(jy,.cells [.yl l] 110 true)::(jn,.cells [.fn 115 [] [.ptr jb 0,.ptr js 0,.ptr jy 0,.ptr jn 0]] 171 true)::(y,eyO b)::K2) (by rw [lR]) ?_;refine au 3 ?_;refine TK.rt0 hret (_) ?_ (hs:=(.right (.right (.right (.right (.all _))))));exact ⟨_,rfl,.inl hJ2⟩
 ·refine au 0 ?_;refine bN (K':=(jb,.cells (trC b e p y) 95 true)::(js,.cells (c2.map intA) 105 true)::(jy,.cells [.yl l] 110 true)::(jn,.cells [.fn 115 [] [.ptr jb 0,.ptr js 0,.ptr jy 0,.ptr jn 0]] 171 true)::(y,eyO b)::K2) (by rw [lR]) ?_;refine au 3 ?_;refine TK.rt0 hret (_) ?_ (hs:=(.right (.right (.right (.right (.all _))))));exact ⟨_,rfl,.inr hD⟩
theorem zha {main T} (hT:zm tp main T) {gm} {b:TrB} {e p y:Nat} (hb:TrOk b) :
  zq tp T gm 114 [.v (.slice none 0 0),.fn 86 [.agg (trC b e p y)] []] [(y,eyO b)] (fun r K'=>∃ j,r=.row j (ym b).length/\K'=[(y,eyO b),(j,.row ((ym b).flatMap hsC) 105 3)]):=by
 refine vm 13 hT Tryz.func114 fun Y hro hret=>?_;refine au 21042 ?_;intro jl hjl;refine TK.virtAt (i:=0) (e:=105) (size:=3) Z (fun _=>uQ) fun j0 hj0=>?_;refine au 1303142235 ?_;refine TK.rangeG hT (Fx:=[(y,eyO b)]) (ar:=hsA) (tot:=ym b) (J:=fun pre K1=>∃ j,K1=[(jl,.cells [.row j pre.length] 96 true),(j,.row (pre.flatMap hsC) 105 3)]) (D:=fun _ _=>False) rfl hro rfl Cal.h (by repeat (first | exact Split.none _ | exact Split.all _ | (apply Split.rem; repeat (first | exact Rem.head | apply Rem.tail)) | apply Split.right)) ⟨j0,rfl⟩ (fun l J' D' K1 hy hJ=>zhf hT hb hy hJ) (fun Y' l lo lb pre S K1 hbegin hfin hout hpre hJ=>?_) (fun d K2 hJ=>?_) (fun d c K2 hD=>?_)
 ·obtain ⟨j,rfl⟩:=hJ;have hpl:=zjZ hb ((List.prefix_append _ _).trans hpre);have hfl:=yz hsC 3 (fun _=>rfl) pre;refine au 2204 ?_;intro j5 hj5;refine au 3170 ?_;refine hbegin _ _ _ _ _ uQ ?_;refine au 6806904130 ?_;refine bI Z Z Z (zp (l:=[_,_,_]) Z zz.h TyZ.h dQ dQ Z) (fun _=>zn rfl tQ) fun j1 hj1=>?_;refine bO Z Z Z (a_app Z ApOf.h Z mQ oQ Z (yp (ln:=[_,_,_]) mQ dQ sQ Z) oQ Z (by unfold maxLen; omega) oQ) (fun _=>uQ) (fun _=>zn rfl tQ) fun j2=>?_;refine au 1403170 ?_;exact hfin _ _ [(jl,_),(j2,_)] _ (by repeat (first | exact Split.none _ | exact Split.all _ | (apply Split.rem; repeat (first | exact Rem.head | apply Rem.tail)) | apply Split.right)) ⟨j2,by rw [zgK,lF] <;> rfl⟩
 ·obtain ⟨j,rfl⟩:=hJ;simp only [cA];refine au 3569042140 ?_;refine TK.leave (.ret _) fun A hA=>hret _ _ _ _ ([(y,_),(j,_)]) ([(y,_),(j,_)]) _ _ _ (.inr rfl) (by repeat (first | exact Split.none _ | exact Split.all _ | (apply Split.rem; repeat (first | exact Rem.head | apply Rem.tail)) | apply Split.right)) sQ sQ (by repeat (first | exact Split.none _ | exact Split.all _ | (apply Split.rem; repeat (first | exact Rem.head | apply Rem.tail)) | apply Split.right)) (yK (zV Z)) ?_ A hA;exact ⟨j,rfl,rfl⟩
 ·exact hD.elim
theorem zbq {main T} (hT:zm tp main T) {gm} {b:TrB} {e p y:Nat} (hb:TrOk b) :
  zq tp T gm 85 [.fn 86 [.agg (trC b e p y)] []] [(y,eyO b)] (fun r K'=>∃ j,r=.row j (ym b).length/\K'=[(y,eyO b),(j,.row ((ym b).flatMap hsC) 105 3)]):=by
 refine zl 5 hT Tryz.func85 fun Y hret=>?_;refine au 1423542 ?_;refine bD Z Z Z Z (zha hT hb) ?_;rintro r1 K2 ⟨j,rfl,rfl⟩;refine au 35 ?_;refine bB hret [(y,_),(j,_)] ?_;exact ⟨j,rfl,rfl⟩
def knC (b:TrB) (e p y a:Nat):List AV:=[intA b.canvas,intA b.paint,intA b.fine.num,intA b.fine.den,.sl e 0 b.earth.length,.sl p 0 b.props.length,.sl y 0 b.eyes.length,.v (.slice none 0 0),.sl a 0 (ym b).length]
abbrev hsO (b:TrB):AObj:=.cells ((ym b).flatMap hsC) 105 false
theorem hs_at {s:List Int} {n:Nat} {e:TypeId} {rw':Bool} (h:n<3):takeO (.cells (hsC s) e rw') (0+(n:Int).toNat*1) 1=some [intA (s.getD n 0)]:=by
 have:n=0\/n=1\/n=2:=by omega
 rcases this with rfl | rfl | rfl <;> rfl
theorem zhA {p:List Int->Bool} {xs:List (List Int)} {i:Nat} (h:i<xs.length):((xs.take (i+1)).filter p).length=((xs.take i).filter p).length+(if p xs[i]=true then 1 else 0):=by
 rw [List.take_add_one,lA h,List.filter_append,lF];cases hp:p xs[i] <;> simp [hp]
instance:BlOf tp 98 [(0,8),(8,1)]:={}
instance:zf tp 98 0 0 true 8:={}
instance:zf tp 98 1 8 false 1:={}
instance:zd tp 98 true 9:={}
instance:TyZ tp 101 [.nilFunc]:={}
instance:TyZ tp 98 [.int .i64 0,.int .i64 0,.int .i64 0,.int .i64 0,.slice none 0 0,.slice none 0 0,.slice none 0 0,.slice none 0 0,.slice none 0 0]:={}
instance:TyZA tp 98 [.v (.int .i64 0),.v (.int .i64 0),.v (.int .i64 0),.v (.int .i64 0),.v (.slice none 0 0),.v (.slice none 0 0),.v (.slice none 0 0),.v (.slice none 0 0),.v (.slice none 0 0)]:={}
instance:Und tp 96 (.slice 105):={}
theorem ziJ {main:Bool} {T:Goroutine->Hp->Prop} (hT:zm tp main T)  {b:TrB} {e p y:Nat} {n:Int} {ja:Nat} (hb:TrOk b) (hn:0<=n/\n<b.eyes.length) :
  zq tp T gmR 37 [.agg (trC b e p y),.row ja 1] [(ja,.row [.fn 38 [intA n] []] 101 1),(1,trChecksG),(e,ptO b),(p,prO b),(y,eyO b)] (fun r K'=>∃ a,r=.tup [.agg (knC b e p y a),intA 0]/\K'=[(a,hsO b),(ja,.row [.fn 38 [intA n] []] 101 1),(1,trChecksG),(e,ptO b),(p,prO b),(y,eyO b)]):=by
 refine zl 30 hT Tryz.func37 fun Y hret=>?_;refine au 0 ?_;have hne:=states_ne' hb;refine au 21042 ?_;intro jb hjb;refine au 220 ?_;intro jr hjr;refine au 16804235 ?_;refine TK.clE Z Z Z Z (zkl hT hb hn) ?_;refine au 220661 ?_;intro jx hjx;refine au 937142235170 ?_;constructor<;>intro hc0
 ·exact absurd hc0 dQ
 refine au 2120 ?_;refine' TK.shareX (X:=Nat×Nat) (D:=fun _=>True) (E:=fun x=>naL 4 (.ptr jr 0::naL 3 (.ptr x.1 0::naL 21 []))) (KK:=fun x=>[(x.1,.cells (knC b e p y x.2) 98 true),(x.2,hsO b),(jr,.cells [intA 0,intA 0,intA 0,intA 0,.v (.slice none 0 0),.v (.slice none 0 0),.v (.slice none 0 0),.v (.slice none 0 0),.v (.slice none 0 0)] 98 true),(ja,.row [.fn 38 [intA n] []] 101 1),(1,trChecksG),(e,ptO b),(p,prO b),(y,eyO b)]) (fun H=>?_) ?_;rotate_left
 ·refine bL [0,1,2,3,4,5,6] ?_;refine ad [[12,6],[12,6]] ?_;refine bU [20] Z (vD Z Z Z) ?_;refine TD.c2 (i1:=3) (i2:=5) (pend1:=[⟨1,[6],[(_,_)]⟩,⟨0,[6],[(_,_)]⟩]) (pend2:=[⟨2,[20],[]⟩,⟨1,[6],[(_,_)]⟩,⟨0,[6],[(_,_)]⟩]) (L1:=[4,5,6]) (L2:=[3,4,6]) [21] [] Z Z Z Z Z Z Z ?_ ?_
  ·refine yA Z Z Cal.h Z (zbq hT hb) (by repeat (first | exact Split.none _ | exact Split.all _ | (apply Split.rem; repeat (first | exact Rem.head | apply Rem.tail)) | apply Split.right)) fun r4 K5 h6=>⟨?_,?_⟩
   ·rcases h6 with ⟨a,rfl,rfl⟩
    all_goals simp
   obtain ⟨a,rfl,rfl⟩:=h6;try simp only [cA]
   refine bS (env':=[_,_,_,_,_,_,_,_,_,_,_,_,_,_,_,_,_,_,_,_,_,_,_,_,_,_,_,_,_,_]) Z ?_;refine bU [19,22] Z (yo (l:=[_,_,_,_,_,_,_,_,_]) Z TyZ.h BlOf.h Z) ?_;refine bX (pend':=[⟨4,[19,22],[]⟩,⟨1,[6],[(_,_)]⟩,⟨0,[6],[(_,_)]⟩]) [] Z Z Z Z Z (zU Z TyZA.h) (fun _=>zn rfl tQ) sQ fun j8 hj8=>?_;refine bR (pend':=[]) [8,23] Z Z (zB Z Z zd.h Z Z mQ Z) ?_;refine ad [[14]] ?_;refine TK.unrowAt (c:=j8) (i:=8) (j:=a) Z mQ uQ ?_;refine bY (j:=a) ?_;refine bA [4,8] ?_;refine bC [(j8,_),(a,_),(jr,_),(ja,_),(1,_),(e,_),(p,_),(y,_)] ?_;exact H (j8,a) trivial
  ·refine yu Z (zU Z TyZA.h) (fun _=>zn rfl tQ) sQ fun j8 hj8=>?_;refine bQ (pend':=[⟨1,[6],[(_,_)]⟩,⟨0,[6],[(_,_)]⟩]) [21] Z Z Z Z Z (zbq hT hb) (fun r7 K8 h9=>⟨?_,?_⟩)
   ·rcases h9 with ⟨a,rfl,rfl⟩
    all_goals simp
   obtain ⟨a,rfl,rfl⟩:=h9;try simp only [cA]
   refine bS tQ ?_;refine bU [19,22] Z (yo (l:=[_,_,_,_,_,_,_,_,_]) Z TyZ.h BlOf.h Z) ?_;refine bR (pend':=[]) [8,23] Z Z (zB Z Z zd.h Z Z mQ Z) ?_;refine ad [[14]] ?_;refine TK.unrowAt (c:=j8) (i:=8) (j:=a) Z mQ uQ ?_;refine bY (j:=a) ?_;refine bA [4,8] ?_;refine bC [(j8,_),(a,_),(jr,_),(ja,_),(1,_),(e,_),(p,_),(y,_)] ?_;exact H (j8,a) trivial
 ·rintro ⟨j8,a⟩ _;refine bG nQ ?_
  (try dsimp only)
  refine au 937280690670422 ?_;constructor<;>intro hc1
  ·have:=List.length_eq_zero_iff.1 (show (ym b).length=0 by have:=eq_of_beq hc1; omega);exact absurd this hne
  refine au 3517068042120 ?_;refine bB hret [(a,_),(ja,_),(1,_),(e,_),(p,_),(y,_)] ?_;exact ⟨a,rfl,rfl⟩
theorem ziQ {main T} (hT:zm tp main T) {gm} {b:TrB} {e p y:Nat} (hb:TrOk b) {jk jn a n:Nat} {s:List Int} (hn:n<b.eyes.length) (hs:0<=s.getD n 0/\s.getD n 0<=60) :
  zq tp T gm 40 [hsA s,.ptr jk 0,.ptr jn 0] [(jk,.cells (knC b e p y a) 98 true),(jn,.cells [intA n] 3 true),(e,ptO b),(p,prO b),(y,eyO b)] (fun r K'=>r=zF (seesAt b n s)/\K'=[(jk,.cells (knC b e p y a) 98 true),(jn,.cells [intA n] 3 true),(e,ptO b),(p,prO b),(y,eyO b)]):=by
 refine zl 15 hT Tryz.func40 fun Y hret=>?_;refine au 0 ?_;have hny:=hb.ny;have hq:=hb.ey n hn;refine au 21042 ?_;intro jh hjh;refine au 235 ?_;refine bL [0,1,2,3,4,5,6,7,8,9,10] ?_;refine ad [[3,1],[12,5],[3,1],[12,7],[10,2],[10,2]] ?_;refine bU [3,10] Z (kS Z Z Z ArEl.h oQ oQ) ?_;refine bT [11] Z (hq:=zg Z Z zd.h (mC _) (hs_at oQ)) (h:=?_);refine bQ (pend':=[⟨6,[3,10],[]⟩,⟨5,[2],[(_,_)]⟩,⟨2,[1],[]⟩,⟨1,[5],[(_,_)]⟩,⟨0,[1],[]⟩]) [8,9,12] Z Z Z Z Z (zm2 hT (e:=e) (p:=p) hn) (fun r1 K2 h3=>⟨?_,?_⟩)
 ·rcases h3 with ⟨rfl,rfl⟩
  all_goals simp
 obtain ⟨rfl,rfl⟩:=h3;try simp only [cA]
 refine bS tQ ?_;refine bQ (pend':=[⟨6,[3,10],[]⟩,⟨5,[2],[(_,_)]⟩,⟨2,[1],[]⟩,⟨0,[1],[]⟩]) [6,13] Z Z Z Z Z (zkm hT (y:=y) hb oQ hs) (fun r4 K5 h6=>⟨?_,?_⟩)
 ·rcases h6 with ⟨rfl,rfl⟩
  all_goals simp
 obtain ⟨rfl,rfl⟩:=h6;try simp only [cA]
 refine bS tQ ?_;refine ad [[13,14],[14]] ?_;refine au 0 ?_;refine bB hret [(jk,_),(jn,_),(e,_),(p,_),(y,_)] ?_;exact ⟨rfl,rfl⟩
theorem zkq {main T} (hT:zm tp main T) {gm} {b:TrB} {e p y:Nat} (hb:TrOk b) {jk jn a n:Nat} (hn:n<b.eyes.length) :
  zq tp T gm 39 [.agg (knC b e p y a),.fn 40 [] [.ptr jk 0,.ptr jn 0]] [(a,hsO b),(jk,.cells (knC b e p y a) 98 true),(jn,.cells [intA n] 3 true),(e,ptO b),(p,prO b),(y,eyO b)] (fun r K'=>r=intA (wordT b n)/\K'=[(a,hsO b),(jk,.cells (knC b e p y a) 98 true),(jn,.cells [intA n] 3 true),(e,ptO b),(p,prO b),(y,eyO b)]):=by
 refine zl 29 hT Tryz.func39 fun Y hret=>?_;refine au 0 ?_;have hsl:=zbo hb;have hfl:=fun (l:List (List Int))=>List.length_filter_le (seesAt b n) l;refine au 21042 ?_;intro jb hjb;refine au 13031280690670422354235 ?_;refine bA [1,2,5,9,10,11] ?_;refine bC [(a,_),(jk,_),(jn,_),(e,_),(p,_),(y,_),(jb,_)] ?_;refine bE (fun m env K=>∃ (i:Nat),m=(ym b).length - i/\i<=(ym b).length/\env=.any::.fn 40 [] [.ptr jk 0,.ptr jn 0]::.ptr jb 0::naL 2 (intA (((ym b).take i).filter (seesAt b n)).length::naL 3 (.sl a 0 (ym b).length::intA (ym b).length::intA i::naL 17 []))/\K=[(a,hsO b),(jk,.cells (knC b e p y a) 98 true),(jn,.cells [intA n] 3 true),(e,ptO b),(p,prO b),(y,eyO b),(jb,.cells (knC b e p y a) 98 true)]) (ym b).length ⟨0,rfl,mN _,rfl,rfl⟩ fun m env K hI hnext=>?_;obtain ⟨i,rfl,hi,rfl,rfl⟩:=hI;have hfi:=hfl ((ym b).take i);have hti:((ym b).take i).length=i:=by rw [List.length_take]; omega
 refine bG nQ ?_;refine au 923742 ?_;constructor<;>intro hc0
 ·have hil:i<(ym b).length:=by simp at hc0; omega
  have hso:=zg9 hb (List.getElem_mem (l:=ym b) hil);refine au 360421302120 ?_;refine bH Z (zI Z Z zd.h mQ (kA (c:=3) (f:=hsC) (fun _=>rfl) (lA hil) rfl dQ)) ?_;refine au 220 ?_;intro jh hjh;refine au 6801423170 ?_;refine TK.clE Z Z Z Z (ziQ hT (a:=a) hb hn (hso.2 n)) ?_;refine au 93 ?_;constructor<;>intro hc1
  ·refine au 3123041403523014 ?_;refine bA [1,2,5,9,10,11] ?_;refine bC [(a,_),(jk,_),(jn,_),(e,_),(p,_),(y,_),(jb,_)] ?_;exact hnext _ _ _ oQ ⟨i+1,rfl,oQ,by rw [zhA hil,if_pos hc1] <;> rfl,rfl⟩
  refine au 312304140120 ?_;refine bA [1,2,5,9,10,11] ?_;refine bC [(a,_),(jk,_),(jn,_),(e,_),(p,_),(y,_),(jb,_)] ?_;exact hnext _ _ _ oQ ⟨i+1,rfl,oQ,by rw [zhA hil,if_neg (by rw [hc1]; decide)] <;> rfl,rfl⟩
 obtain rfl:i=(ym b).length:=by simp at hc0; omega
 rw [lW] at hfi ⊢;refine au 93572806906704213031422160 ?_;constructor<;>intro hc2
 ·refine au 3542 ?_;refine bB hret [(a,_),(jk,_),(jn,_),(e,_),(p,_),(y,_)] ?_;exact ⟨by unfold wordT wordN; rw [if_pos (by have:=eq_of_beq hc2; omega)] <;> rfl,rfl⟩
 refine au 935742 ?_;constructor<;>intro hc3
 ·refine au 3542 ?_;refine bB hret [(a,_),(jk,_),(jn,_),(e,_),(p,_),(y,_)] ?_;exact ⟨by unfold wordT wordN; rw [if_neg (by intro e; have h4:=beq_eq_false_iff_ne.1 hc2; omega),if_pos (by have:=eq_of_beq hc3; omega)] <;> rfl,rfl⟩
 refine au 3542140120 ?_;refine bB hret [(a,_),(jk,_),(jn,_),(e,_),(p,_),(y,_)] ?_;exact ⟨by unfold wordT wordN; rw [if_neg (by intro e; have h4:=beq_eq_false_iff_ne.1 hc2; omega),if_neg (by intro e; have h4:=beq_eq_false_iff_ne.1 hc3; omega)] <;> rfl,rfl⟩
theorem zfc {main:Bool} {T:Goroutine->Hp->Prop} (hT:zm tp main T)  {b:TrB} {e p y:Nat} (hb:TrOk b) {n:Nat} (hn:n<b.eyes.length) :
  zq tp T gmR 8 [.agg (trC b e p y),intA n] [(1,trChecksG),(e,ptO b),(p,prO b),(y,eyO b)] (fun r K'=>r=.tup [intA (wordT b n),intA 0]/\K'=[(1,trChecksG),(e,ptO b),(p,prO b),(y,eyO b)]):=by
 refine zl 22 hT Tryz.func8 fun Y hret=>?_;refine au 0 ?_;have hny:=hb.ny;refine au 21042 ?_;intro jb hjb;refine au 210 ?_;intro jn hjn;refine au 32069068042355 ?_;refine bI Z Z Z (zp (l:=[_]) Z zz.h TyZ.h dQ dQ Z) (fun _=>zn rfl tQ) fun ja hja=>?_;refine bD Z Z Z Z (ziJ hT (n:=(n:Int)) hb oQ) ?_;rintro r1 K2 ⟨a,rfl,rfl⟩;refine au 220661 ?_;intro jk hjk;refine au 937142235170 ?_;constructor<;>intro hc0
 ·exact absurd hc0 dQ
 refine au 32068042120 ?_;refine TK.clE Z Z Z Z (zkq hT hb hn) ?_;refine au 355 ?_;refine bB hret [(1,_),(e,_),(p,_),(y,_)] ?_;exact ⟨rfl,rfl⟩
end Go.Vel
namespace Go.Vel
open Go Go.Conc
section
variable {P:Program} {gm:Nat->Option Nat} {T:Goroutine->Hp->Prop} {Y:KX P gm T} {ds:List Nat} {k:List Item} {env env':List AV} {K K' K1:KV} {ops:Array Oper} {i:Nat} {rest:List Nat} {o:Oper} {envf:Nat->List AV}
theorem Upd.same' {K K':KV} {i j:Nat} {o o':AObj} (h:Upd K i o j o' K'):i=j->o'=o->K'=K:=by
 induction h with
 | head=>intro hj e; rw [e,hj]
 | tail _ ih=>intro hj e; rw [ih hj e]
theorem Upd.same {K K':KV} {i:Nat} {o o':AObj} (h:Upd K i o i o' K') (e:o'=o):K'=K:=h.same' rfl e
theorem TK.appG {s x:Operand} {t e:TypeId} {size bytes j n m:Nat} {lo ln:List AV} {u:AV} {K'':Nat->KV} (ho:ops[i]? =some o) (hw:zO ops env o=some true) (hop:o.op=.call { callee:=.builtin .append,args:=#[s,x],argTypes:=#[t,t] }) (ht:apOf P t=some (e,size,bytes)) (hs:zo gm env s=some (.row j n)) (hm:(j,.row lo e size)∈K) (hlo:lo.length=n*size) (hx:zo gm env x=some u) (hl:lenA u=some m) (hsrc:0<m->srcO K size u m ln) (hln:m=0->ln=[])
  (hone:ln.all oneA=true) (hmax:n+m<=maxLen) (hbytes:(n+m)*bytes<=140737488355328) (hu:∀ j',Upd K j (.row lo e size) j' (.row (lo++ln) e size) (K'' j')) (he:∀ j',zR env o.dst (.row j' (n+m))=envf j') (h:∀ j',TK Y ds (.inRegion ops rest::k) (envf j') (K'' j')):TK Y ds (.inRegion ops (i::rest)::k) env K:=by
 rcases mP m with e0 | hpos
 ·subst e0;have hk:K'' j=K:=(hu j).same (by rw [hln rfl,lR]);have ht':=ht;unfold apOf at ht';split at ht'
  ·rename_i e' h1;split at ht'
   ·rename_i ti h2;refine TK.q (r:=.row j n) ho (by rw [hop]; rfl) hw (zeK hop h1 h2 hs hx hl) (he j) ?_;rw [<- hk]; exact h j
   ·cases ht'
  ·cases ht'
 ·exact bO ho (by rw [hop]; rfl) hw (a_app hop ht hs hm hlo hx (hsrc hpos) hpos hone hmax hbytes) hu he h
theorem TK.normK (he:K=K') (h:TK Y ds k env K'):TK Y ds k env K:=he ▸ h
end
theorem kF {l:List AV} {e:TypeId} {rw':Bool} {n size:Nat} (hl:l.length=n*size) (h:0<n*size):takeO (.cells l e rw') 0 (n*size)=some l:=by
 simp only [takeO,AObj.look,mO,List.drop_zero];rw [if_pos ⟨h,oQ⟩,<- hl,lW]
theorem kv {α:Type} (f:α->List AV) (h:∀ x,(f x).all oneA=true) (xs:List α):(xs.flatMap f).all oneA=true:=by
 induction xs with
 | nil=>rfl
 | cons x xs ih=>rw [List.flatMap_cons,List.all_append,h,ih]; rfl
end Go.Vel
namespace Go.Vel
open Go Go.Conc Go.Proofs
def AgrR (b:RBk) (K:KV) (r:AV) (K':KV):Prop:=(zu b≠0/\r=.tup [.agg z7R,intA (zu b)]/\K'=K)\/(zu b=0/\zj b=[]/\r=.tup [.agg z7R,intA 9]/\K'=K)\/(zu b=0/\zj b≠[]/\∃ s h e,r=.tup [.agg (zA b s h e),intA 0]/\K'=(s,zk b)::(h,zC b)::(e,zr b)::K)
def yj (b:RBk) (m:RMeas):RBk:={ b with measures:=b.measures++[m] }
def driedB (b:RBk) (i:Nat) (x:RBand):RBk:={ b with shrinks:=b.shrinks.set i x }
theorem zj0 {xs:List RBand} {i:Nat} {n:Int} {x:RBand} {e:TypeId} (h:i<xs.length) (hn:n=(i:Int)):putO (.row (xs.flatMap bandC) e 2) (n.toNat*2) (bandC x)=some (.row ((xs.set i x).flatMap bandC) e 2):=by
 subst hn;unfold putO;dsimp only;have hl:=yz bandC 2 (fun _=>rfl) xs;rw [if_pos ⟨by rw [hl]; simp [bandC]; omega,by simp [bandC],rfl⟩];have key:∀ (xs:List RBand) (i:Nat),i<xs.length->setL (xs.flatMap bandC) (i*2) (bandC x)=(xs.set i x).flatMap bandC:=by
  intro xs
  induction xs with
  | nil=>intro i hi; simp at hi
  | cons y r ih =>
   intro i hi;cases i with
   | zero=>rfl
   | succ i =>
    have:=ih i (by simpa using hi);rw [show (i+1)*2=i*2+2 by omega,List.set_cons_succ,List.flatMap_cons,List.flatMap_cons,<- this];rfl
 rw [Int.toNat_natCast,key xs i h]
instance:ApOf tp 22 47 5 40:={}
instance:ApOf tp 23 68 2 16:={}
instance:ApOf tp 24 88 3 24:={}
instance:BlOf tp 26 [(0,1),(1,1),(2,1),(3,1),(4,1),(5,1),(6,1)]:={}
instance:TyZ tp 26 [.int .i64 0,.int .i64 0,.int .i64 0,.int .i64 0,.slice none 0 0,.slice none 0 0,.slice none 0 0]:={}
instance:TyZ tp 47 [.int .i64 0,.int .i64 0,.int .i64 0,.int .i64 0,.bool false]:={}
instance:TyZ tp 88 [.int .i64 0,.int .i64 0,.int .i64 0]:={}
instance:TyZA tp 26 [.v (.int .i64 0),.v (.int .i64 0),.v (.int .i64 0),.v (.int .i64 0),.v (.slice none 0 0),.v (.slice none 0 0),.v (.slice none 0 0)]:={}
theorem zgB {main T} (hT:zm tp main T) {gm} {j n:Nat} {l:List AV} {et:TypeId} {rw':Bool} (hl:l.length=n*5) (hone:l.all oneA=true) (hn:n<=100000) :
  zq tp T gm 104 [.sl j 0 n] [(j,.cells l et rw')] (fun r K'=>∃ j2,r=.row j2 n/\K'=[(j,.cells l et rw'),(j2,.row l 47 5)]):=by
 refine zl 8 hT Tryz.func104 fun Y hret=>?_;refine au 14223542 ?_;refine TK.nilT Z Z Z Z Und.h fun tz hz=>?_;refine au 93 ?_;constructor<;>intro hc0
 ·refine au 542 ?_;refine TK.virt 2 47 5 Z fun j0 hj0=>?_;refine au 3 ?_;refine bB hret [(j,_),(j0,_)] ?_;obtain rfl:=hz hc0;obtain rfl:=lK (by simpa using hl);exact ⟨_,rfl,rfl⟩
 refine au 42120 ?_;refine bI Z Z Z (zp (l:=[]) Z zz.h TyZ.h dQ dQ Z) (fun _=>zn rfl tQ) fun j1 hj1=>?_;refine au 1 ?_;refine TK.appG (envf:=fun _=>[_,_,_,_,_,_,_,_]) (ln:=l) rfl rfl rfl ApOf.h rfl mQ rfl rfl rfl (fun hp=>wB mQ oQ (kF hl oQ)) (fun h=>by subst h; exact lK (by simpa using hl)) hone (by unfold maxLen; omega) oQ (fun _=>uQ) (fun _=>rfl) fun j2=>?_;simp only [lC,mO];refine au 35 ?_;refine bB hret [(j,_),(j2,_)] ?_;exact ⟨_,rfl,rfl⟩
theorem zbU {main T} (hT:zm tp main T) {gm} {j n:Nat} {l:List AV} {et:TypeId} {rw':Bool} (hl:l.length=n*2) (hone:l.all oneA=true) (hn:n<=100000) :
  zq tp T gm 79 [.sl j 0 n] [(j,.cells l et rw')] (fun r K'=>∃ j2,r=.row j2 n/\K'=[(j,.cells l et rw'),(j2,.row l 68 2)]):=by
 refine zl 8 hT Tryz.func79 fun Y hret=>?_;refine au 14223542 ?_;refine TK.nilT Z Z Z Z Und.h fun tz hz=>?_;refine au 93 ?_;constructor<;>intro hc0
 ·refine au 542 ?_;refine TK.virt 2 68 2 Z fun j0 hj0=>?_;refine au 3 ?_;refine bB hret [(j,_),(j0,_)] ?_;obtain rfl:=hz hc0;obtain rfl:=lK (by simpa using hl);exact ⟨_,rfl,rfl⟩
 refine au 42120 ?_;refine bI Z Z Z (zp (l:=[]) Z zz.h TyZ.h dQ dQ Z) (fun _=>zn rfl tQ) fun j1 hj1=>?_;refine au 1 ?_;refine TK.appG (envf:=fun _=>[_,_,_,_,_,_,_,_]) (ln:=l) rfl rfl rfl ApOf.h rfl mQ rfl rfl rfl (fun hp=>wB mQ oQ (kF hl oQ)) (fun h=>by subst h; exact lK (by simpa using hl)) hone (by unfold maxLen; omega) oQ (fun _=>uQ) (fun _=>rfl) fun j2=>?_;simp only [lC,mO];refine au 35 ?_;refine bB hret [(j,_),(j2,_)] ?_;exact ⟨_,rfl,rfl⟩
theorem uL {main T} (hT:zm tp main T) {gm} {j n:Nat} {l:List AV} {et:TypeId} {rw':Bool} (hl:l.length=n*3) (hone:l.all oneA=true) (hn:n<=100000) :
  zq tp T gm 76 [.sl j 0 n] [(j,.cells l et rw')] (fun r K'=>∃ j2,r=.row j2 n/\K'=[(j,.cells l et rw'),(j2,.row l 88 3)]):=by
 refine zl 8 hT Tryz.func76 fun Y hret=>?_;refine au 14223542 ?_;refine TK.nilT Z Z Z Z Und.h fun tz hz=>?_;refine au 93 ?_;constructor<;>intro hc0
 ·refine au 542 ?_;refine TK.virt 2 88 3 Z fun j0 hj0=>?_;refine au 3 ?_;refine bB hret [(j,_),(j0,_)] ?_;obtain rfl:=hz hc0;obtain rfl:=lK (by simpa using hl);exact ⟨_,rfl,rfl⟩
 refine au 42120 ?_;refine bI Z Z Z (zp (l:=[]) Z zz.h TyZ.h dQ dQ Z) (fun _=>zn rfl tQ) fun j1 hj1=>?_;refine au 1 ?_;refine TK.appG (envf:=fun _=>[_,_,_,_,_,_,_,_]) (ln:=l) rfl rfl rfl ApOf.h rfl mQ rfl rfl rfl (fun hp=>wB mQ oQ (kF hl oQ)) (fun h=>by subst h; exact lK (by simpa using hl)) hone (by unfold maxLen; omega) oQ (fun _=>uQ) (fun _=>rfl) fun j2=>?_;simp only [lC,mO];refine au 35 ?_;refine bB hret [(j,_),(j2,_)] ?_;exact ⟨_,rfl,rfl⟩
theorem zcZ {main T} (hT:zm tp main T) {gm} {b:RBk} {s h e:Nat} (hb:ROk b) :
  zq tp T gm 71 [.agg (zA b s h e)] [(s,zk b),(h,zC b),(e,zr b)] (fun r K'=>∃ s2 h2 e2,r=.agg (zA b s2 h2 e2)/\K'=[(s2,zk b),(h2,zC b),(e2,zr b),(s,zk b),(h,zC b),(e,zr b)]):=by
 refine zl 16 hT Tryz.func71 fun Y hret=>?_;refine au 0 ?_;have hs5:=hb.sms.len;have hsl:=hb.cls.len;have hml:=hb.mes.len;refine au 21042 ?_;intro jb hjb;refine au 220 ?_;intro jr hjr;refine au 23 ?_;refine bM [0,1,3,4,6,7,2,9,5,8,10,11,12,13,14] [0,1,2,3,4,5,6,7,8,9,10,11,12,13,14] ?_;refine ad [[3,1],[10,3],[3,1],[10,6],[3,1],[10,9]] ?_;refine bQ (pend':=[⟨7,[9],[(_,_)]⟩,⟨6,[1],[]⟩,⟨4,[6],[(_,_)]⟩,⟨3,[1],[]⟩,⟨0,[1],[]⟩]) [4] Z Z Z Z Z (zgB hT (yz seamC 5 (fun _=>rfl) b.seams) (kv seamC (fun _=>rfl) _) oQ) (fun r1 K2 h3=>⟨?_,?_⟩)
 ·rcases h3 with ⟨s2,rfl,rfl⟩
  all_goals simp
 obtain ⟨s2,rfl,rfl⟩:=h3;try simp only [cA]
 refine bS tQ ?_;refine ad [[3,1]] ?_;refine bQ (pend':=[⟨9,[1],[]⟩,⟨7,[9],[(_,_)]⟩,⟨6,[1],[]⟩,⟨3,[1],[]⟩,⟨0,[1],[]⟩]) [7] Z Z Z Z Z (zbU hT (yz bandC 2 (fun _=>rfl) b.shrinks) (kv bandC (fun _=>rfl) _) oQ) (fun r4 K5 h6=>⟨?_,?_⟩)
 ·rcases h6 with ⟨h2,rfl,rfl⟩
  all_goals simp
 obtain ⟨h2,rfl,rfl⟩:=h6;try simp only [cA]
 refine bS tQ ?_;refine bQ (pend':=[⟨9,[1],[]⟩,⟨6,[1],[]⟩,⟨3,[1],[]⟩,⟨0,[1],[]⟩]) [10] Z Z Z Z Z (uL hT (yz yd 3 (fun _=>rfl) b.measures) (kv yd (fun _=>rfl) _) oQ) (fun r7 K8 h9=>⟨?_,?_⟩)
 ·rcases h9 with ⟨e2,rfl,rfl⟩
  all_goals simp
 obtain ⟨e2,rfl,rfl⟩:=h9;try simp only [cA]
 refine bS tQ ?_;refine bR (pend':=[]) [5,12] Z Z (zB Z Z zd.h Z Z mQ Z) ?_;refine ad [[3,1]] ?_;refine bR (pend':=[]) [8,13] Z Z (zB Z Z zd.h Z Z mQ Z) ?_;refine ad [[3,1]] ?_;refine bR (pend':=[]) [11,14] Z Z (zB Z Z zd.h Z Z mQ Z) ?_;refine ad [[14]] ?_;refine au 2 ?_;refine TK.unrowAt (c:=jb) (i:=4) (j:=s2) Z mQ uQ ?_;refine bY (j:=s2) ?_;refine TK.unrowAt (c:=jb) (i:=5) (j:=h2) Z mQ uQ ?_;refine bY (j:=h2) ?_;refine TK.unrowAt (c:=jb) (i:=6) (j:=e2) Z mQ uQ ?_;refine bY (j:=e2) ?_;refine au 31706804 ?_;refine bB hret [(s2,_),(h2,_),(e2,_),(s,_),(h,_),(e,_)] ?_;exact ⟨s2,h2,e2,rfl,rfl⟩
theorem zam {main:Bool} {T:Goroutine->Hp->Prop} (hT:zm tp main T)  {b:RBk} {s h e:Nat} (hl:b.seams.length<=100) (hm:b.measures.length<=100) :
  zq tp T gmR 77 [.agg (zA b s h e)] [(0,zx),(s,zk b),(h,zC b),(e,zr b)] (fun r K'=>AgrR b [(0,zx),(s,zk b),(h,zC b),(e,zr b)] r K'):=by
 refine zl 17 hT Tryz.func77 fun Y hret=>?_;refine au 21042 ?_;intro jb hjb;refine au 220 ?_;intro jr hjr;refine au 68042235 ?_;refine bD Z Z Z Z (wK hT (Kx:=[]) hl hm) ?_;rintro r1 K2 h3;rcases h3 with ⟨hbar,rfl,rfl⟩ | ⟨hbar,hnil,rfl,rfl⟩ | ⟨hbar,hne,a,rfl,rfl⟩
 ·refine au 220661 ?_;intro j4 hj4;refine au 93714235170 ?_;constructor<;>intro hc0
  ·
   refine au 35170144042 ?_;refine bB hret [(0,_),(s,_),(h,_),(e,_)] ?_;exact .inl ⟨hbar,rfl,rfl⟩
  exact absurd hbar (by simpa using hc0)
 ·refine au 220661 ?_;intro j4 hj4;refine au 93714235170 ?_;constructor<;>intro hc0
  ·
   refine au 35170144042 ?_;refine bB hret [(0,_),(s,_),(h,_),(e,_)] ?_;exact .inr (.inl ⟨hbar,hnil,rfl,rfl⟩)
  exact absurd hc0 dQ
 ·refine au 220661 ?_;intro j4 hj4;refine au 93714235170 ?_;constructor<;>intro hc0
  ·exact absurd hc0 sQ
  have hbb:=zY hbar;refine au 68042120 ?_;refine bD Z Z Z Z (zcZ hT hbb) ?_;rintro r4 K5 ⟨s2,h2,e2,rfl,rfl⟩;refine au 35170 ?_;refine bB hret [(s2,_),(h2,_),(e2,_),(0,_),(s,_),(h,_),(e,_)] ?_;exact .inr (.inr ⟨hbar,hne,s2,h2,e2,rfl,rfl⟩)
theorem zgR {main:Bool} {T:Goroutine->Hp->Prop} (hT:zm tp main T)  {b:RBk} {s h e:Nat} (hl:b.seams.length<=100) (hm:b.measures.length<=100) {m:RMeas} :
  zq tp T gmR 33 [.agg (zA b s h e),.agg (yd m)] [(0,zx),(s,zk b),(h,zC b),(e,zr b)] (fun r K'=>(zu b≠0/\r=.tup [.agg z7R,intA (zu b)]/\K'=[(0,zx),(s,zk b),(h,zC b),(e,zr b)])\/(zu b=0/\AgrR (yj b m) [(0,zx),(s,zk b),(h,zC b),(e,zr b)] r K')):=by
 refine zl 24 hT Tryz.func33 fun Y hret=>?_;refine au 21042 ?_;intro jb hjb;refine au 210 ?_;intro jm hjm;refine au 220 ?_;intro jr hjr;refine au 68042235 ?_;refine TK.clE Z Z Z Z (vO hT hl hm) ?_;refine au 93714235 ?_;constructor<;>intro hc0
 ·refine au 35170144042 ?_;refine bB hret [(0,_),(s,_),(h,_),(e,_)] ?_;exact .inl ⟨by simpa using hc0,rfl,rfl⟩
 have hbar:zu b=0:=by simpa using hc0
 have hml:=(zY hbar).mes.len;have hfl:=yz yd 3 (fun _=>rfl) b.measures;refine au 2120 ?_;refine bM [0,1,3,2,4,5,6,7] [0,1,2,3,4,5,6,7] ?_;refine ad [[3,2],[10,13],[12,3]] ?_;refine TD.c2 (i1:=2) (i2:=4) (pend1:=[⟨3,[3],[(_,_)]⟩,⟨0,[2],[]⟩]) (pend2:=[⟨1,[13],[(_,_)]⟩,⟨0,[2],[]⟩]) (L1:=[4,5,6,7]) (L2:=[2,5,6,7]) [14] [16] Z Z Z Z Z Z Z ?_ ?_
 ·refine yA Z Z Cal.h Z (uL hT (yz yd 3 (fun _=>rfl) b.measures) (kv yd (fun _=>rfl) _) oQ) (by repeat (first | exact Split.none _ | exact Split.all _ | (apply Split.rem; repeat (first | exact Rem.head | apply Rem.tail)) | apply Split.right)) fun r4 K5 h6=>⟨?_,?_⟩
  ·rcases h6 with ⟨jc,rfl,rfl⟩
   all_goals simp
  obtain ⟨jc,rfl,rfl⟩:=h6;try simp only [cA]
  refine bS (env':=[_,_,_,_,_,_,_,_,_,_,_,_,_,_,_,_,_,_,_,_,_,_,_,_]) Z ?_;refine bV (pend':=[⟨0,[2],[]⟩]) [16] Z Z Z Z Z (zp (l:=[_,_,_]) Z zz.h TyZ.h dQ dQ Z) (fun _=>zn rfl tQ) sQ fun j7 hj7=>?_;refine TD.capp (pend':=[⟨0,[2],[]⟩]) [15,17] Z Z Z Z Z (a_app Z ApOf.h Z mQ oQ Z (yp (ln:=[_,_,_]) mQ dQ sQ Z) oQ Z (by unfold maxLen; omega) oQ) (fun _=>uQ) (fun _=>zn rfl tQ) (fun _=>sQ) fun je=>?_;refine ad [[3,2]] ?_;refine bR (pend':=[]) [18,19] Z Z (zB Z Z zd.h Z Z mQ Z) ?_;refine ad [[14]] ?_;refine au 2 ?_;refine TK.unrowAt (c:=jb) (i:=6) (j:=je) Z mQ uQ ?_;refine bY (j:=je) ?_;rw [show b.measures.flatMap yd++[intA m.cloth,intA m.many,intA m.wide]=(yj b m).measures.flatMap yd from (y9 yd b.measures m).symm,show b.measures.length+1=(yj b m).measures.length by simp [yj]];refine au 6804 ?_;refine bD Z Z Z Z ((zam hT (b:=yj b m) (s:=s) (h:=h) (e:=je) hl (by simp [yj]; omega)).mono (fun _ _ h=>h)) ?_;rintro r8 K9 h10;rcases h10 with ⟨hb2,rfl,rfl⟩ | ⟨hb2,hn2,rfl,rfl⟩ | ⟨hb2,hn2,s2,h2,e2,rfl,rfl⟩
  ·refine au 3517066 ?_;refine bB hret [(0,_),(s,_),(h,_),(e,_)] ?_;exact .inr ⟨hbar,.inl ⟨hb2,rfl,rfl⟩⟩
  ·refine au 3517066 ?_;refine bB hret [(0,_),(s,_),(h,_),(e,_)] ?_;exact .inr ⟨hbar,.inr (.inl ⟨hb2,hn2,rfl,rfl⟩)⟩
  ·refine au 3517066 ?_;refine bB hret [(s2,_),(h2,_),(e2,_),(0,_),(s,_),(h,_),(e,_)] ?_;exact .inr ⟨hbar,.inr (.inr ⟨hb2,hn2,s2,h2,e2,rfl,rfl⟩)⟩
 ·refine wF Z (zp (l:=[_,_,_]) Z zz.h TyZ.h dQ dQ Z) (fun _=>zn rfl tQ) sQ fun j11 hj11=>?_;refine bQ (pend':=[⟨0,[2],[]⟩]) [14] Z Z Z Z Z (uL hT (yz yd 3 (fun _=>rfl) b.measures) (kv yd (fun _=>rfl) _) oQ) (fun r12 K13 h14=>⟨?_,?_⟩)
  ·rcases h14 with ⟨jc,rfl,rfl⟩
   all_goals simp
  obtain ⟨jc,rfl,rfl⟩:=h14;try simp only [cA]
  refine bS tQ ?_;refine TD.capp (pend':=[⟨0,[2],[]⟩]) [15,17] Z Z Z Z Z (a_app Z ApOf.h Z mQ oQ Z (yp (ln:=[_,_,_]) mQ dQ sQ Z) oQ Z (by unfold maxLen; omega) oQ) (fun _=>uQ) (fun _=>zn rfl tQ) (fun _=>sQ) fun je=>?_;refine ad [[3,2]] ?_;refine bR (pend':=[]) [18,19] Z Z (zB Z Z zd.h Z Z mQ Z) ?_;refine ad [[14]] ?_;refine au 2 ?_;refine TK.unrowAt (c:=jb) (i:=6) (j:=je) Z mQ uQ ?_;refine bY (j:=je) ?_;rw [show b.measures.flatMap yd++[intA m.cloth,intA m.many,intA m.wide]=(yj b m).measures.flatMap yd from (y9 yd b.measures m).symm,show b.measures.length+1=(yj b m).measures.length by simp [yj]];refine au 6804 ?_;refine bD Z Z Z Z ((zam hT (b:=yj b m) (s:=s) (h:=h) (e:=je) hl (by simp [yj]; omega)).mono (fun _ _ h=>h)) ?_;rintro r15 K16 h17;rcases h17 with ⟨hb2,rfl,rfl⟩ | ⟨hb2,hn2,rfl,rfl⟩ | ⟨hb2,hn2,s2,h2,e2,rfl,rfl⟩
  ·refine au 3517066 ?_;refine bB hret [(0,_),(s,_),(h,_),(e,_)] ?_;exact .inr ⟨hbar,.inl ⟨hb2,rfl,rfl⟩⟩
  ·refine au 3517066 ?_;refine bB hret [(0,_),(s,_),(h,_),(e,_)] ?_;exact .inr ⟨hbar,.inr (.inl ⟨hb2,hn2,rfl,rfl⟩)⟩
  ·refine au 3517066 ?_;refine bB hret [(s2,_),(h2,_),(e2,_),(0,_),(s,_),(h,_),(e,_)] ?_;exact .inr ⟨hbar,.inr (.inr ⟨hb2,hn2,s2,h2,e2,rfl,rfl⟩)⟩
def dryX (b:RBk) (n:Int) (x:RBand):RBand:=⟨max (bd b n.toNat).low x.low,min (bd b n.toNat).high x.high⟩
def shrM (b:RBk) (n:Int):List Int:=compM (sortR ltI ((zj b).map fun s=>zK s n.toNat))
theorem zgE {xs:List Int} (h:xs.length<2):compM xs=xs:=by
 rcases xs with _ | ⟨x,_ | ⟨y,r⟩⟩
 ·rfl
 ·rfl
 ·simp only [List.length_cons] at h; omega
def onlyL (xs:List RMeas) (mask:Nat):Nat->List RMeas
 | 0=>[]
 | i+1=>onlyL xs mask i++(if mask / 2 ^ i % 2=1 then (xs[i]?).toList else [])
def onlyB (b:RBk) (mask:Nat):RBk:={ b with measures:=onlyL b.measures mask b.measures.length }
theorem zaF (xs:List RMeas) (mask:Nat):∀ i,i<=xs.length->(onlyL xs mask i).length=(zt mask i).length
 | 0,_=>rfl
 | i+1,h=>by
  unfold onlyL zt;rw [lF,lF,zaF xs mask i oQ];split
  ·rw [lA oQ]; rfl
  ·rfl
theorem zdm {xs:List RMeas} {mask:Nat}:∀ i m,m∈onlyL xs mask i->m∈xs
 | 0,m,h=>by cases h
 | i+1,m,h=>by
  unfold onlyL at h;rcases lT.1 h with h | h
  ·exact zdm i m h
  ·split at h
   ·cases e:xs[i]? with
    | none=>rw [e] at h; cases h
    | some y=>rw [e] at h; rw [lS.1 h]; exact lN e
   ·cases h
theorem zjW {b:RBk} (hb:ROk b) (mask:Nat):ROk (onlyB b mask):=⟨⟨hb.rnd.steps,hb.rnd.round,hb.rnd.roll,hb.rnd.rolls⟩,⟨hb.sms.len,hb.sms.fld,hb.sms.asc⟩,⟨hb.cls.len,hb.cls.bnd⟩,⟨by
 show (onlyL b.measures mask b.measures.length).length<=3;rw [zaF _ _ _ (mL _)];have:=wY mask b.measures.length;have:=hb.mes.len;omega,fun m hm=>hb.mes.bnd m (zdm _ m hm)⟩⟩
theorem zhr {main:Bool} {T:Goroutine->Hp->Prop} (hT:zm tp main T)  {b:RBk} {s h e:Nat} (hl:b.seams.length<=100) (hm:b.measures.length<=100) {n:Int} {x:RBand} :
  zq tp T gmR 34 [.agg (zA b s h e),intA n,.agg (bandC x)] [(0,zx),(s,zk b),(h,zC b),(e,zr b)] (fun r K'=>(bar2 (zu b) (thereM b n)≠0/\r=.tup [.agg z7R,intA (bar2 (zu b) (thereM b n))]/\K'=[(0,zx),(s,zk b),(h,zC b),(e,zr b)])\/(bar2 (zu b) (thereM b n)=0/\isBd x 0 5=false/\r=.tup [.agg z7R,intA 1]/\K'=[(0,zx),(s,zk b),(h,zC b),(e,zr b)])\/(bar2 (zu b) (thereM b n)=0/\isBd x 0 5=true/\(dryX b n x).high<(dryX b n x).low/\r=.tup [.agg z7R,intA 9]/\K'=[(0,zx),(s,zk b),(h,zC b),(e,zr b)])\/(bar2 (zu b) (thereM b n)=0/\isBd x 0 5=true/\(dryX b n x).low<=(dryX b n x).high/\AgrR (driedB b n.toNat (dryX b n x)) [(0,zx),(s,zk b),(h,zC b),(e,zr b)] r K')):=by
 refine zl 65 hT Tryz.func34 fun Y hret=>?_;refine au 21042 ?_;intro jb hjb;refine au 210 ?_;intro jx hjx;refine au 220 ?_;intro jr hjr;refine au 320168042235 ?_;refine bI Z Z Z (zp (l:=[_]) Z zz.h TyZ.h dQ dQ Z) (fun _=>zn rfl tQ) fun ja hja=>?_;refine bD Z Z Z Z (vC hT (Kx:=[]) (p1:=thereM b n) hl hm (fun h0=>yI Cal.h ((zab hT (b:=b) (s:=s) (h:=h) (e:=e) (n:=n) (zY h0).sms.len.2).frameP (R:=[(s,zk b)]) (List.Perm.refl _)))) ?_;rintro r1 K2 h3;rcases h3 with ⟨⟨hbar,rfl⟩ | ⟨hbar,rfl⟩,rfl⟩
 ·refine au 220661 ?_;intro j8 hj8;refine au 93714235170 ?_;constructor<;>intro hc0
  ·exact absurd hc0 sQ
  have hbb:=zY (kX hbar);have hth:=za9 (kz hbar);have hs5:=hbb.sms.len;have hsl:=hbb.cls.len;have hml:=hbb.mes.len;have hnb:n.toNat<b.shrinks.length:=by omega
  have hnn:n=(n.toNat:Int):=by omega
  refine au 680422120 ?_;refine TK.clE Z Z Z Z (zdb hT (x:=x)) ?_;refine au 93300 ?_;constructor<;>intro hc1
  ·refine au 3517044042 ?_;refine bB hret [(0,_),(s,_),(h,_),(e,_)] ?_;exact .inr (.inl ⟨hbar,by simpa using hc1,rfl,rfl⟩)
  refine au 2120 ?_;refine bL [0,1,2,3,4,5,6,7,8,9,10,11,12,13,14,15,16,17,18,19,20] ?_;refine ad [[3,3],[10,27],[1,1],[2,28,29],[3,30]] ?_;refine bT [31] Z (hq:=zg Z Z zd.h (mC _) (zW (c:=0) (bd_at b (i:=n.toNat) hnb hnn) dQ Z)) (h:=?_);refine ad [[3,5],[10,33]] ?_;refine bU [32,34] Z (zaH Z Z Z) ?_;refine ad [[3,3],[10,36],[1,1],[2,37,38],[3,39]] ?_;refine bT [40] Z (hq:=zg Z Z zd.h (mC _) (zW (c:=1) (bd_at b (i:=n.toNat) hnb hnn) dQ Z)) (h:=?_);refine ad [[3,5],[10,42]] ?_;refine bU [41,43] Z (zeN Z Z Z) ?_;refine bU [35,44] Z (yo (l:=[_,_]) Z TyZ.h BlOf.h Z) ?_;refine bX (pend':=[⟨18,[35,44],[]⟩,⟨17,[41,43],[]⟩,⟨16,[42],[(_,_)]⟩,⟨15,[5],[]⟩,⟨14,[40],[(_,_)]⟩,⟨13,[39],[]⟩,⟨12,[37,38],[]⟩,⟨11,[1],[]⟩,⟨10,[36],[(_,_)]⟩,⟨9,[3],[]⟩,⟨8,[32,34],[]⟩,⟨7,[33],[(_,_)]⟩,⟨6,[5],[]⟩,⟨5,[31],[(_,_)]⟩,⟨4,[30],[]⟩,⟨3,[28,29],[]⟩,⟨2,[1],[]⟩,⟨1,[27],[(_,_)]⟩,⟨0,[3],[]⟩]) [] Z Z Z Z Z (zU Z TyZA.h) (fun _=>zn rfl tQ) sQ fun j10 hj10=>?_;refine bR (pend':=[]) [10,45] Z Z (zB Z Z zd.h Z Z mQ Z) ?_;refine ad [[14]] ?_;refine au 937690670690670422 ?_;constructor<;>intro hc2
  ·refine au 3517044042 ?_;refine bB hret [(0,_),(s,_),(h,_),(e,_)] ?_;exact .inr (.inr (.inl ⟨hbar,by simpa using hc1,of_decide_eq_true hc2,rfl,rfl⟩))
  refine au 69067042120 ?_;refine bD Z Z Z Z (zbU hT (yz bandC 2 (fun _=>rfl) b.shrinks) (kv bandC (fun _=>rfl) _) oQ) ?_;rintro r7 K8 ⟨jc,rfl,rfl⟩;refine au 3706801690670423170670 ?_;refine TK.st Z Z Z (zB Z Z zd.h Z Z mQ (zj0 (x:=(dryX b n x)) hnb hnn)) uQ (putN Z) ?_;refine au 23 ?_;refine TK.unrowAt (c:=jb) (i:=5) (j:=jc) Z mQ uQ ?_;refine bY (j:=jc) ?_;rw [show b.shrinks.length=(driedB b n.toNat (dryX b n x)).shrinks.length by simp [driedB]];refine au 6804 ?_;refine bD Z Z Z Z ((zam hT (b:=(driedB b n.toNat (dryX b n x))) (s:=s) (h:=jc) (e:=e) hl hm).mono (fun _ _ h=>h)) ?_;rintro r10 K11 h12;rcases h12 with ⟨hb2,rfl,rfl⟩ | ⟨hb2,hn2,rfl,rfl⟩ | ⟨hb2,hn2,s2,h2,e2,rfl,rfl⟩
  ·refine au 3517066 ?_;refine bB hret [(0,_),(s,_),(h,_),(e,_)] ?_;exact .inr (.inr (.inr ⟨hbar,by simpa using hc1,Int.not_lt.1 (of_decide_eq_false hc2),.inl ⟨hb2,rfl,rfl⟩⟩))
  ·refine au 3517066 ?_;refine bB hret [(0,_),(s,_),(h,_),(e,_)] ?_;exact .inr (.inr (.inr ⟨hbar,by simpa using hc1,Int.not_lt.1 (of_decide_eq_false hc2),.inr (.inl ⟨hb2,hn2,rfl,rfl⟩)⟩))
  ·refine au 3517066 ?_;refine bB hret [(s2,_),(h2,_),(e2,_),(0,_),(s,_),(h,_),(e,_)] ?_;exact .inr (.inr (.inr ⟨hbar,by simpa using hc1,Int.not_lt.1 (of_decide_eq_false hc2),.inr (.inr ⟨hb2,hn2,s2,h2,e2,rfl,rfl⟩)⟩))
 ·refine au 220661 ?_;intro j8 hj8;refine au 93714235170 ?_;constructor<;>intro hc0
  ·
   refine au 35170144042 ?_;refine bB hret [(0,_),(s,_),(h,_),(e,_)] ?_;exact .inl ⟨hbar,rfl,rfl⟩
  exact absurd hbar (by simpa using hc0)
theorem zkZ {main:Bool} {T:Goroutine->Hp->Prop} (hT:zm tp main T)  {b:RBk} {s h e:Nat} (hl:b.seams.length<=100) (hm:b.measures.length<=100) {r0:Int} :
  zq tp T gmR 27 [.agg (zA b s h e),intA r0] [(0,zx),(s,zk b),(h,zC b),(e,zr b)] (fun r K'=>(zu b≠0/\r=.tup [.agg z7R,intA (zu b)]/\K'=[(0,zx),(s,zk b),(h,zC b),(e,zr b)])\/(zu b=0/\betw r0 b.steps 40=false/\r=.tup [.agg z7R,intA 1]/\K'=[(0,zx),(s,zk b),(h,zC b),(e,zr b)])\/(zu b=0/\betw r0 b.steps 40=true/\∃ s2 h2 e2,r=.tup [.agg (zA (atRound b r0) s2 h2 e2),intA 0]/\K'=(s2,zk b)::(h2,zC b)::(e2,zr b)::[(0,zx),(s,zk b),(h,zC b),(e,zr b)])):=by
 refine zl 23 hT Tryz.func27 fun Y hret=>?_;refine au 21042 ?_;intro jb hjb;refine au 220 ?_;intro jr hjr;refine au 68042235 ?_;refine TK.clE Z Z Z Z (vO hT hl hm) ?_;refine au 93714235 ?_;constructor<;>intro hc0
 ·refine au 35170144042 ?_;refine bB hret [(0,_),(s,_),(h,_),(e,_)] ?_;exact .inl ⟨by simpa using hc0,rfl,rfl⟩
 have hbar:zu b=0:=by simpa using hc0
 have hbb:=zY hbar;refine au 6906701422120 ?_;refine TK.clE Z Z Z Z (yJ hT) ?_;refine au 93300 ?_;constructor<;>intro hc1
 ·refine au 3517044042 ?_;refine bB hret [(0,_),(s,_),(h,_),(e,_)] ?_;exact .inr (.inl ⟨hbar,by simpa using hc1,rfl,rfl⟩)
 have hb1:=uw (n:=r0) (lo:=b.steps) (hi:=40) (by simpa using hc1);refine au 680423170670142120 ?_;refine bD Z Z Z Z (zcZ hT (b:=atRound b r0) (s:=s) (h:=h) (e:=e) (zan hbb oQ oQ)) ?_;rintro r7 K8 ⟨s2,h2,e2,rfl,rfl⟩;refine au 35170 ?_;refine bB hret [(s2,_),(h2,_),(e2,_),(0,_),(s,_),(h,_),(e,_)] ?_;exact .inr (.inr ⟨hbar,by simpa using hc1,s2,h2,e2,rfl,rfl⟩)
theorem zfm {main T} (hT:zm tp main T) {gm} {j n:Nat} {xs:List Int} (hn:xs.length=n) (hl:n<=1000) :
  zq tp T gm 64 [.row j n] [(j,.row (xs.map intA) 3 1)] (fun r K'=>(∃ zs:List Int,r=.sl j 0 (compM xs).length/\K'=[(j,.row ((compM xs++zs).map intA) 3 1)])\/(r=.row j n/\compM xs=xs/\K'=[(j,.row (xs.map intA) 3 1)])):=by
 refine zl 61 hT Tryz.func64 fun Y hret=>?_;refine au 93728014223542 ?_;constructor<;>intro hc0
 ·
  refine au 35142 ?_;refine bB hret [(j,_)] ?_;exact .inr ⟨rfl,zgE (by simp at hc0; omega),rfl⟩
 have h2:2<=n:=by simp at hc0; omega
 refine au 13035422120 ?_;refine bA [0,3] ?_;refine bE (fun n1 env K=>∃ (i:Nat),n1=n - i/\1<=i/\i<=n/\(compN xs i).length=i/\env=.row j n::naL 2 (intA i::naL 57 [])/\K=[(j,.row (xs.map intA) 3 1)]) (n - 1) ⟨1,rfl,mL _,oQ,by simp [compN]; omega,rfl,rfl⟩ fun n1 env K hI hnext=>?_;obtain ⟨i,rfl,hi1,hi,hlead,rfl,rfl⟩:=hI;refine bG nQ ?_;refine au 93728011422 ?_;constructor<;>intro hc1
 ·have hil:i<n:=by simp at hc1; omega
  refine au 21302120 ?_;refine bL [0,1,2,3,4,5,6,7,8,9] ?_;refine ad [[1,0],[1,3]] ?_;refine bT [16,17] Z (hq:=yZ Z Z Z zz.h (mC _) oQ oQ) (h:=?_);refine bT [18] Z (hq:=zg Z Z zd.h (mC _) (za7 (i:=i) (z7 oQ) Z)) (h:=?_);refine ad [[1,0],[1,3],[9,21]] ?_;refine bT [20,22] Z (hq:=yZ Z Z Z zz.h (mC _) oQ oQ) (h:=?_);refine bT [23] Z (hq:=zg Z Z zd.h (mC _) (za7 (i:=i - 1) (z7 oQ) oQ)) (h:=?_);refine ad [[4,19,24],[14]] ?_;refine au 9 ?_;constructor<;>intro hc2
  ·have heq:zK xs (i - 1)=zK xs i:=by have:=eq_of_beq hc2; exact this.symm
   obtain ⟨i0,rfl⟩:∃ i0,i=i0+1:=⟨i - 1,oQ⟩;have hc1e:compN xs (i0+2)=compN xs (i0+1):=uM heq;refine au 1142 ?_;refine bH Z (wV Z Z zz.h mQ Z Z oQ oQ Z) ?_;refine au 1303542235 ?_;refine bA [0,3,4,5] ?_;refine bE (fun n1 env K=>∃ (q w o4:Nat),n1=n - q/\o4=i0+1/\1<=q/\i0+1+q<=n/\(compN xs (i0+1+q)).length=w/\w+1<=i0+1+q/\env=.row j n::naL 2 (intA w::.sl j o4 (n - (i0+1))::intA q::naL 55 [])/\K=[(j,.row ((compN xs (i0+1+q)++xs.drop w).map intA) 3 1)]) (n - 1) ⟨1,i0+1,_,rfl,(by omega:0+((i0+1:Nat):Int).toNat*1=i0+1),mL _,oQ,by rw [show i0+1+1=i0+2 by omega,hc1e]; exact hlead,oQ,rfl,by rw [show i0+1+1=i0+2 by omega,hc1e,zaq _ oQ hlead,List.take_append_drop]⟩ fun n1 env K hI hnext1=>?_;obtain ⟨q,w,o4,rfl,ho4,hq1,hq,hw,hwq,rfl,rfl⟩:=hI;have hdl:(compN xs (i0+1+q)++xs.drop w).length=n:=by rw [lF,List.length_drop,hw]; omega
   refine bG nQ ?_;refine au 93728011422 ?_;constructor<;>intro hc3
   ·have hql:i0+1+q<n:=by simp at hc3; omega
    have hq2:i0+1+(q+1)=(i0+q)+2:=by omega
    have hq3:compN xs (i0+q+1)=compN xs (i0+1+q):=by rw [show i0+q+1=i0+1+q by omega]
    have hq4:zK xs (i0+1+q)=zK xs (i0+q+1):=by rw [show i0+q+1=i0+1+q by omega]
    refine au 21302120 ?_;refine bL [0,1,2,3,4,5,6,7,8,9] ?_;refine ad [[1,4],[1,5],[2,35,36]] ?_;refine bT [37] Z (hq:=zg Z Z zd.h (mC _) (kV (i:=i0+1+q) (zap hw oQ oQ) oQ)) (h:=?_);refine ad [[1,4],[1,5],[9,40],[2,39,41]] ?_;refine bT [42] Z (hq:=zg Z Z zd.h (mC _) (kV (i:=i0+q) (zap hw oQ oQ) oQ)) (h:=?_);refine ad [[4,38,43],[14]] ?_;refine au 9 ?_;constructor<;>intro hc4
    ·have hne4:zK xs (i0+q)≠zK xs (i0+q+1):=fun h=>by rw [hq4,<- h] at hc4; simp at hc4
     refine au 360111142 ?_;refine bH Z (zg Z Z zd.h mQ (kV (i:=i0+1+q) (zap hw oQ oQ) oQ)) ?_;refine au 370 ?_;refine TK.st Z Z Z (zB Z Z zd.h Z Z mQ (zgb (k:=w) oQ Z)) uQ (putN Z) ?_;refine au 352301414035230143 ?_;refine bA [0,3,4,5] ?_;refine bC [(j,_)] ?_;exact hnext1 _ _ _ oQ ⟨q+1,w+1,o4,rfl,ho4,oQ,oQ,by rw [hq2,uN hne4,lF,hq3,hw]; rfl,oQ,rfl,by rw [zjc hw oQ,hq2,uN hne4,hq3,<- hq4]⟩
    have heq4:zK xs (i0+q)=zK xs (i0+q+1):=by rw [<- hq4]; simp at hc4; exact hc4.symm
    refine au 3523014140120 ?_;refine bA [0,3,4,5] ?_;refine bC [(j,_)] ?_;exact hnext1 _ _ _ oQ ⟨q+1,w,o4,rfl,ho4,oQ,oQ,by rw [hq2,uM heq4,hq3,hw],oQ,rfl,by rw [hq2,uM heq4,hq3]⟩
   have hnq:n=i0+1+q:=by simp at hc3; omega
   refine au 1142160 ?_;refine bH Z (wV Z Z zz.h mQ Z Z oQ oQ Z) ?_;refine TK.st Z Z Z (zlv Z ApOf.h TyZ.h Z oQ mQ (zie (k:=w) hw oQ oQ oQ)) uQ (putN Z) ?_;refine au 11423 ?_;refine bH Z (wV Z Z zz.h mQ Z Z oQ oQ Z) ?_;refine au 35 ?_;refine bB hret [(j,_)] ?_;have hcm:compM xs=compN xs (i0+1+q):=by unfold compM; rw [hn,hnq]
   exact .inl ⟨_,by rw [hcm,hw]; rfl,by rw [hcm]⟩
  have hne:¬ zK xs (i - 1)=zK xs i:=fun h=>by rw [h] at hc2; simp at hc2
  have hi2:i+1=(i - 1)+2:=by omega
  have hi3:zK xs i=zK xs (i - 1+1):=by rw [show i - 1+1=i by omega]
  have hlead2:(compN xs (i - 1+1)).length=i:=by rw [show i - 1+1=i by omega]; exact hlead
  refine au 3523014140120 ?_;refine bA [0,3] ?_;refine bC [(j,_)] ?_;exact hnext _ _ _ oQ ⟨i+1,rfl,oQ,oQ,by rw [hi2,uN (fun h=>hne (by rw [hi3]; exact h)),lF,hlead2]; simp; omega,rfl,rfl⟩
 obtain rfl:i=n:=by simp at hc1; omega
 refine au 35142160 ?_;refine bB hret [(j,_)] ?_;exact .inr ⟨rfl,by unfold compM; rw [zaq _ (mL _) (by rw [hn]; exact hlead),lW],rfl⟩
theorem zcj {main:Bool} {T:Goroutine->Hp->Prop} (hT:zm tp main T)  {b:RBk} {s h e:Nat} (hl:b.seams.length<=100) (hm:b.measures.length<=100) {n:Int} (h12:(zj b).length<=12) :
  zq tp T gmR 21 [.agg (zA b s h e),intA n] [(0,zx),(s,zk b),(h,zC b),(e,zr b)] (fun r K'=>(bar2 (zu b) (thereM b n)≠0/\r=.tup [.v (.slice none 0 0),intA (bar2 (zu b) (thereM b n))]/\K'=[(0,zx),(s,zk b),(h,zC b),(e,zr b)])\/(bar2 (zu b) (thereM b n)=0/\zj b=[]/\r=.tup [.v (.slice none 0 0),intA 9]/\K'=[(0,zx),(s,zk b),(h,zC b),(e,zr b)])\/(bar2 (zu b) (thereM b n)=0/\zj b≠[]/\∃ jr zs,r=.tup [.sl jr 0 (shrM b n).length,intA 0]/\K'=(jr,.cells ((shrM b n++zs).map intA) 3 false)::[(0,zx),(s,zk b),(h,zC b),(e,zr b)])):=by
 refine zl 40 hT Tryz.func21 fun Y hret=>?_;refine au 21042 ?_;intro jb hjb;refine au 320168042355 ?_;refine bI Z Z Z (zp (l:=[_]) Z zz.h TyZ.h dQ dQ Z) (fun _=>zn rfl tQ) fun ja hja=>?_;refine bD Z Z Z Z (zaz hT (Kx:=[]) (p1:=thereM b n) (fun h0=>yI Cal.h ((zab hT (b:=b) (s:=s) (h:=h) (e:=e) (n:=n) (zY h0).sms.len.2).frameP (R:=[(s,zk b)]) (List.Perm.refl _))) hl hm) ?_;rintro r1 K2 h3;rcases h3 with ⟨hbar,rfl,rfl⟩ | ⟨hbar,hnil,rfl,rfl⟩ | ⟨hbar,hne,a,rfl,rfl⟩
 ·refine au 220661 ?_;intro j6 hj6;refine au 937142235170 ?_;constructor<;>intro hc0
  ·
   refine au 355142 ?_;refine bB hret [(0,_),(s,_),(h,_),(e,_)] ?_;exact .inl ⟨hbar,rfl,rfl⟩
  exact absurd hbar (by simpa using hc0)
 ·refine au 220661 ?_;intro j6 hj6;refine au 937142235170 ?_;constructor<;>intro hc0
  ·
   refine au 355142 ?_;refine bB hret [(0,_),(s,_),(h,_),(e,_)] ?_;exact .inr (.inl ⟨hbar,hnil,rfl,rfl⟩)
  exact absurd hc0 dQ
 ·refine au 220661 ?_;intro j6 hj6;refine au 937142235170 ?_;constructor<;>intro hc0
  ·exact absurd hc0 sQ
  have hbb:=zY (kX hbar);have hth:=za9 (kz hbar);have hs5:=hbb.sms.len;have hpos:0<(zj b).length:=List.length_pos_iff.2 hne;refine au 542120 ?_;refine TK.virt 8 3 1 Z fun jt0 hjt0=>?_;refine au 130312806906704223 ?_;refine bA [1,4,5,6,8,23,24,25] ?_;refine bC [(a,_),(0,_),(s,_),(h,_),(e,_),(j6,_),(jt0,_)] ?_;refine bE (fun n1 env K=>∃ (i jt:Nat),n1=(zj b).length - i/\i<=(zj b).length/\env=.any::intA n::naL 2 (.v (.slice none 0 0)::intA 0::.ptr j6 0::.any::.row jt i::naL 14 (.sl a 0 (zj b).length::intA (zj b).length::intA i::naL 14 []))/\K=[(a,allO (zj b)),(0,zx),(s,zk b),(h,zC b),(e,zr b),(j6,.cells (knownC b s h e a (zj b).length) 137 true),(jt,.row ((((zj b).take i).map fun s=>zK s n.toNat).map intA) 3 1)]) (zj b).length ⟨0,jt0,rfl,mN _,rfl,rfl⟩ fun n1 env K hI hnext=>?_;obtain ⟨i,jt,rfl,hi,rfl,rfl⟩:=hI;refine bG nQ ?_;refine au 923742 ?_;constructor<;>intro hc1
  ·have hil:i<(zj b).length:=by simp at hc1; omega
   obtain ⟨st,hst⟩:∃ st,(zj b)[i]? =some st:=⟨_,lA hil⟩;refine au 360421302120 ?_;refine bH Z (zI Z Z zd.h mQ (zbO (i:=i) hst Z)) ?_;refine au 220 ?_;intro j10 hj10;refine au 1143170 ?_;refine bH Z (kS Z Z Z ArEl.h oQ oQ) ?_;refine bH Z (zg Z Z zd.h mQ (st_at (i:=n.toNat) oQ oQ)) ?_;refine bI Z Z Z (zp (l:=[_]) Z zz.h TyZ.h dQ dQ Z) (fun _=>zn rfl tQ) fun j4 hj4=>?_;refine bO Z Z Z (a_app Z ApOf.h Z mQ (by simp; omega) Z (yp (ln:=[_]) mQ dQ sQ Z) oQ Z (by unfold maxLen; omega) oQ) (fun _=>uQ) (fun _=>zn rfl tQ) fun jt2=>?_;refine au 31230414035 ?_;refine bA [1,4,5,6,8,23,24,25] ?_;refine bC [(a,_),(0,_),(s,_),(h,_),(e,_),(j6,_),(jt2,_)] ?_;exact hnext _ _ _ oQ ⟨i+1,jt2,rfl,oQ,rfl,by rw [yC hst,lM,lM]; rfl⟩
  obtain rfl:i=(zj b).length:=by simp at hc1; omega
  rw [List.take_of_length_le (mL _)];have hsl2:(sortR ltI ((zj b).map fun s=>zK s n.toNat)).length=(zj b).length:=by unfold sortR; rw [vy _ _ (mL _),List.length_map]
  refine au 142160 ?_;refine bD Z Z Z Z (zlB hT (xs:=((zj b).map fun s=>zK s n.toNat)) sQ ⟨hpos,h12⟩) ?_;rintro r5 K6 rfl;refine au 1423 ?_;refine bD Z Z Z Z (zfm hT (xs:=sortR ltI ((zj b).map fun s=>zK s n.toNat)) hsl2 oQ) ?_;rintro r8 K9 h10;rcases h10 with ⟨zs,rfl,rfl⟩ | ⟨rfl,hcm,rfl⟩
  ·refine au 0 ?_;refine bY (j:=jt) ?_;refine au 355 ?_;refine bB hret [(jt,_),(0,_),(s,_),(h,_),(e,_)] ?_;exact .inr (.inr ⟨hbar,hne,jt,zs,rfl,rfl⟩)
  ·refine au 0 ?_;refine TK.asSl 39 Z (mC _) ?_;refine bY (j:=jt) ?_;refine au 355 ?_;refine bB hret [(jt,_),(0,_),(s,_),(h,_),(e,_)] ?_;exact .inr (.inr ⟨hbar,hne,jt,[],by unfold shrM; rw [hcm,hsl2],by unfold shrM; rw [hcm,lR]⟩)
end Go.Vel
namespace Go.Vel
open Go Go.Conc
section
variable {P:Program} {gm:Nat->Option Nat} {T:Goroutine->Hp->Prop} {Y:KX P gm T} {ds:List Nat} {k:List Item} {env env':List AV} {K K' K1:KV} {ops:Array Oper} {i:Nat} {L':List Nat} {o:Oper} {envf:Nat->List AV} {pend pend':List Pd}
theorem TD.cappG {s x:Operand} {t e:TypeId} {size bytes j n m:Nat} {lo ln:List AV} {u:AV} {K'':Nat->KV} (sl:List Nat) (ho:ops[i]? =some o) (hd:yf o.op=false) (hw:zO ops (onl sl env) o=some true) (hp':pendOf ops i pend=pend') (hc:chkC ops pend' L' sl i o.dst=true) (hop:o.op=.call { callee:=.builtin .append,args:=#[s,x],argTypes:=#[t,t] }) (ht:apOf P t=some (e,size,bytes)) (hs:zo gm (onl sl env) s=some (.row j n)) (hm:(j,.row lo e size)∈K) (hlo:lo.length=n*size) (hx:zo gm (onl sl env) x=some u) (hl:lenA u=some m) (hsrc:0<m->srcO K size u m ln) (hln:m=0->ln=[])
  (hone:ln.all oneA=true) (hmax:n+m<=maxLen) (hbytes:(n+m)*bytes<=140737488355328) (hu:∀ j',Upd K j (.row lo e size) j' (.row (lo++ln) e size) (K'' j')) (he:∀ j',zR env o.dst (.row j' (n+m))=envf j') (hv:∀ j',∀ p∈pend',∀ x∈p.V,x∈K'' j') (h:∀ j',TD Y ds ops k pend' L' (envf j') (K'' j')):TD Y ds ops k pend (i::L') env K:=by
 rcases mP m with e0 | hpos
 ·subst e0;have hk:K'' j=K:=(hu j).same (by rw [hln rfl,lR]);have ht':=ht;unfold apOf at ht';split at ht'
  ·rename_i e' h1;split at ht'
   ·rename_i ti h2;refine TD.cq (r:=.row j n) sl ho hd hw hp' hc (zeK hop h1 h2 hs hx hl) (he j) (by rw [<- hk]; exact hv j) ?_;rw [<- hk]; exact h j
   ·cases ht'
  ·cases ht'
 ·exact TD.capp sl ho hd hw hp' hc (a_app hop ht hs hm hlo hx (hsrc hpos) hpos hone hmax hbytes) hu he hv h
theorem zfO {j n:Nat} {ob ob':AObj} {K'':Nat->KV} {sl:List Nat} (hd:yf o.op=false) (hq:∀ A,zQ K A->OpOk P gm (onl sl env) A o (.row A.length n) (A.set j .gone++[ob'])) (hu:∀ j',Upd K j ob j' ob' (K'' j')) (he:∀ j',zR env o.dst (.row j' n)=envf j') (hv:∀ j',∀ p∈pend',∀ x∈p.V,x∈K'' j') (h:∀ j',TD Y ds ops k pend' L' (envf j') (K'' j')) :
  ExK Y (onl sl env) K o fun r K'=>(∀ p∈pend',∀ x∈p.V,x∈K')/\TD Y ds ops k pend' L' (zR env o.dst r) K' :=
 wP hd fun A hv' hn=>⟨_,_,_,hq A hv',.renew hv' hn (hu _),hv _,by rw [he]; exact h _⟩
theorem zjn {s x:Operand} {t e:TypeId} {size bytes j n m:Nat} {lo ln:List AV} {u:AV} {K'':Nat->KV} {sl:List Nat} (hd:yf o.op=false) (hop:o.op=.call { callee:=.builtin .append,args:=#[s,x],argTypes:=#[t,t] }) (ht:apOf P t=some (e,size,bytes)) (hs:zo gm (onl sl env) s=some (.row j n)) (hm:(j,.row lo e size)∈K) (hlo:lo.length=n*size) (hx:zo gm (onl sl env) x=some u) (hl:lenA u=some m) (hsrc:0<m->srcO K size u m ln) (hln:m=0->ln=[])
  (hone:ln.all oneA=true) (hmax:n+m<=maxLen) (hbytes:(n+m)*bytes<=140737488355328) (hu:∀ j',Upd K j (.row lo e size) j' (.row (lo++ln) e size) (K'' j')) (he:∀ j',zR env o.dst (.row j' (n+m))=envf j') (hv:∀ j',∀ p∈pend',∀ x∈p.V,x∈K'' j') (h:∀ j',TD Y ds ops k pend' L' (envf j') (K'' j')) :
  ExK Y (onl sl env) K o fun r K'=>(∀ p∈pend',∀ x∈p.V,x∈K')/\TD Y ds ops k pend' L' (zR env o.dst r) K':=by
 rcases mP m with e0 | hpos
 ·subst e0;have hk:K'' j=K:=(hu j).same (by rw [hln rfl,lR]);have ht':=ht;unfold apOf at ht';split at ht'
  ·rename_i e' h1;split at ht'
   ·rename_i ti h2;exact wP hd fun A hv' hn=>⟨.row j n,A,K,zeK hop h1 h2 hs hx hl A hv',.same hv' hn,by rw [<- hk]; exact hv j,by rw [show zR env o.dst (.row j n)=envf j from he j,<- hk]; exact h j⟩
   ·cases ht'
  ·cases ht'
 ·exact zfO hd (a_app hop ht hs hm hlo hx (hsrc hpos) hpos hone hmax hbytes) hu he hv h
end
end Go.Vel
namespace Go.Vel
open Go Go.Conc Go.Proofs
theorem zlp {main T} (hT:zm tp main T) {gm} {b:RBk} {s h e mask:Nat} (hm:b.measures.length<=3) (hk:mask<100) :
  zq tp T gm 81 [.agg (zA b s h e),intA mask] [(e,zr b)] (fun r K'=>∃ jl jm,r=.tup [.agg [intA b.steps,intA b.round,intA b.roll,intA b.rolls,.sl s 0 b.seams.length,.sl h 0 b.shrinks.length,.row jm (onlyB b mask).measures.length],.row jl (zt mask b.measures.length).length]/\K'=[(jl,.row ((zt mask b.measures.length).map intA) 3 1),(jm,.row ((onlyB b mask).measures.flatMap yd) 88 3),(e,zr b)]):=by
 refine zl 42 hT Tryz.func81 fun Y hret=>?_;refine au 21042 ?_;intro jb hjb;refine au 220 ?_;intro jr hjr;refine au 54235 ?_;refine TK.virt 6 3 1 Z fun jl0 hjl0=>?_;refine au 220680423 ?_;intro j7 hj7;refine au 170670670423170 ?_;refine TK.normK (K':=[(j7,.cells [intA b.steps,intA b.round,intA b.roll,intA b.rolls,.sl s 0 b.seams.length,.sl h 0 b.shrinks.length,.v (.slice none 0 0)] 117 true),_,_,_,_]) (by simp only [setL,zA,List.drop_zero,List.take,List.set]; rfl) ?_;refine TK.virtAt (j:=j7) (i:=6) (e:=88) (size:=3) (l:=[intA b.steps,intA b.round,intA b.roll,intA b.rolls,.sl s 0 b.seams.length,.sl h 0 b.shrinks.length,.v (.slice none 0 0)]) Z (fun _=>uQ) fun jm0 hjm0=>?_;refine au 130312806906706704223 ?_;refine bA [1,4,5,6,7,15,16,17] ?_;refine bC [(e,_),(jl0,_),(jm0,_),(j7,_),(jr,_)] ?_;refine bE (fun n env K=>∃ (i jl jm:Nat),n=b.measures.length - i/\i<=b.measures.length/\env=.any::.v (.int .i64 ((mask:Nat):Int))::naL 2 (.ptr jr 0::.v (.slice none 0 0)::.row jl (zt mask i).length::.ptr j7 0::naL 7 (.sl e 0 b.measures.length::intA b.measures.length::intA i::naL 24 []))/\K=[(e,zr b),(jl,.row ((zt mask i).map intA) 3 1),(jm,.row ((onlyL b.measures mask i).flatMap yd) 88 3),(j7,.cells [intA b.steps,intA b.round,intA b.roll,intA b.rolls,.sl s 0 b.seams.length,.sl h 0 b.shrinks.length,.row jm (onlyL b.measures mask i).length] 117 true),(jr,.cells z7R 117 true)]) b.measures.length ⟨0,jl0,jm0,rfl,mN _,rfl,rfl⟩ fun n env K hI hnext=>?_;obtain ⟨i,jl,jm,rfl,hi,rfl,rfl⟩:=hI;have hbl:=wY mask i;have hol:=zaF b.measures mask i hi;have hfl:=yz yd 3 (fun _=>rfl) (onlyL b.measures mask i);refine bG nQ ?_;refine au 923742 ?_;constructor<;>intro hc0
 ·have hil:i<b.measures.length:=by simp at hc0; omega
  obtain ⟨x,hx⟩:∃ x,b.measures[i]? =some x:=⟨_,lA hil⟩;refine au 3601421302120 ?_;refine bH Z (zI Z Z zd.h mQ (zb5 (i:=i) hx Z)) ?_;refine au 220 ?_;intro j9 hj9;refine au 114231705 ?_;refine bH Z (q_sh Z Z Z ⟨by omega,by show ((i:Nat):Int)<=64; omega⟩ (ziw mask i)) ?_;refine bH Z (zig Z Z Z (by have:=Nat.div_le_self mask (2 ^ i); omega)) ?_;refine au 937 ?_;constructor<;>intro hc1
  ·have hbit:mask / 2 ^ i % 2=1:=by have h:=eq_of_beq hc1; omega
   have hk1:zt mask (i+1)=zt mask i++[(i:Int)]:=by show zt mask i++_=_; rw [if_pos hbit]
   have hk2:onlyL b.measures mask (i+1)=onlyL b.measures mask i++[x]:=by show onlyL b.measures mask i++_=_; rw [if_pos hbit,hx]; rfl
   refine bM [0,1,4,5,6,7,2,3,8,9,10,11,12,13] [0,1,2,3,4,5,6,7,8,9,10,11,12,13] ?_;refine ad [[1,6],[1,8],[3,7],[3,31],[10,32],[12,9]] ?_;refine TD.c2 (i1:=2) (i2:=8) (pend1:=[⟨7,[9],[(_,_)]⟩,⟨6,[32],[(_,_)]⟩,⟨5,[31],[]⟩,⟨4,[7],[]⟩,⟨0,[6],[]⟩]) (pend2:=[⟨6,[32],[(_,_)]⟩,⟨5,[31],[]⟩,⟨4,[7],[]⟩,⟨1,[8],[]⟩,⟨0,[6],[]⟩]) (L1:=[3,8,9,10,11,12,13]) (L2:=[2,3,9,10,11,12,13]) [28] [34] Z Z Z Z Z Z Z ?_ ?_
   ·refine wF Z (zp (l:=[_]) Z zz.h TyZ.h dQ dQ Z) (fun _=>zn rfl tQ) sQ fun j1 hj1=>?_;refine TD.c2 (i1:=3) (i2:=8) (pend1:=[⟨7,[9],[(_,_)]⟩,⟨6,[32],[(_,_)]⟩,⟨5,[31],[]⟩,⟨4,[7],[]⟩]) (pend2:=[⟨6,[32],[(_,_)]⟩,⟨5,[31],[]⟩,⟨4,[7],[]⟩,⟨0,[6],[]⟩]) (L1:=[8,9,10,11,12,13]) (L2:=[3,9,10,11,12,13]) [27,29] [34] Z Z Z Z Z Z Z ?_ ?_
    ·refine zfO Z (a_app Z ApOf.h Z mQ sQ Z (yp (ln:=[_]) mQ dQ sQ Z) oQ Z (by unfold maxLen; omega) oQ) (fun _=>uQ) (fun _=>zn rfl tQ) (fun _=>sQ) fun jl2=>?_;refine bV (pend':=[⟨6,[32],[(_,_)]⟩,⟨5,[31],[]⟩,⟨4,[7],[]⟩]) [34] Z Z Z Z Z (zp (l:=[_,_,_]) Z zz.h TyZ.h dQ dQ Z) (fun _=>zn rfl tQ) sQ fun j2 hj2=>?_;refine TD.capp (pend':=[⟨5,[31],[]⟩,⟨4,[7],[]⟩]) [33,35] Z Z Z Z Z (a_app Z ApOf.h Z mQ oQ Z (yp (ln:=[_,_,_]) mQ dQ sQ Z) oQ Z (by unfold maxLen; omega) oQ) (fun _=>uQ) (fun _=>zn rfl tQ) (fun _=>sQ) fun jm2=>?_;refine TD.as (pend':=[⟨5,[31],[]⟩,⟨4,[7],[]⟩]) [30] Z Z (zw Z Z) ?_;refine ad [[3,7],[3,37]] ?_;refine bR (pend':=[⟨11,[7],[]⟩]) [36,38] Z Z (zB Z Z zd.h Z Z mQ Z) ?_;refine ad [[14]] ?_;refine au 312304140 ?_;refine bA [1,4,5,6,7,15,16,17] ?_;refine bC [(e,_),(jl2,_),(jm2,_),(j7,_),(jr,_)] ?_;exact hnext _ _ _ oQ ⟨i+1,jl2,jm2,rfl,oQ,by rw [hk1,lF]; rfl,by rw [hk1,hk2,y9,lM,lF]; rfl⟩
    ·refine wF Z (zp (l:=[_,_,_]) Z zz.h TyZ.h dQ dQ Z) (fun _=>zn rfl tQ) sQ fun j3 hj3=>?_;refine TD.capp (pend':=[⟨6,[32],[(_,_)]⟩,⟨5,[31],[]⟩,⟨4,[7],[]⟩]) [27,29] Z Z Z Z Z (a_app Z ApOf.h Z mQ sQ Z (yp (ln:=[_]) mQ dQ sQ Z) oQ Z (by unfold maxLen; omega) oQ) (fun _=>uQ) (fun _=>zn rfl tQ) (fun _=>sQ) fun jl2=>?_;refine TD.capp (pend':=[⟨5,[31],[]⟩,⟨4,[7],[]⟩]) [33,35] Z Z Z Z Z (a_app Z ApOf.h Z mQ oQ Z (yp (ln:=[_,_,_]) mQ dQ sQ Z) oQ Z (by unfold maxLen; omega) oQ) (fun _=>uQ) (fun _=>zn rfl tQ) (fun _=>sQ) fun jm2=>?_;refine TD.as (pend':=[⟨5,[31],[]⟩,⟨4,[7],[]⟩]) [30] Z Z (zw Z Z) ?_;refine ad [[3,7],[3,37]] ?_;refine bR (pend':=[⟨11,[7],[]⟩]) [36,38] Z Z (zB Z Z zd.h Z Z mQ Z) ?_;refine ad [[14]] ?_;refine au 312304140 ?_;refine bA [1,4,5,6,7,15,16,17] ?_;refine bC [(e,_),(jl2,_),(jm2,_),(j7,_),(jr,_)] ?_;exact hnext _ _ _ oQ ⟨i+1,jl2,jm2,rfl,oQ,by rw [hk1,lF]; rfl,by rw [hk1,hk2,y9,lM,lF]; rfl⟩
   ·refine wF Z (zp (l:=[_,_,_]) Z zz.h TyZ.h dQ dQ Z) (fun _=>zn rfl tQ) sQ fun j4 hj4=>?_;refine bV (pend':=[⟨6,[32],[(_,_)]⟩,⟨5,[31],[]⟩,⟨4,[7],[]⟩,⟨0,[6],[]⟩]) [28] Z Z Z Z Z (zp (l:=[_]) Z zz.h TyZ.h dQ dQ Z) (fun _=>zn rfl tQ) sQ fun j5 hj5=>?_;refine TD.capp (pend':=[⟨6,[32],[(_,_)]⟩,⟨5,[31],[]⟩,⟨4,[7],[]⟩]) [27,29] Z Z Z Z Z (a_app Z ApOf.h Z mQ sQ Z (yp (ln:=[_]) mQ dQ sQ Z) oQ Z (by unfold maxLen; omega) oQ) (fun _=>uQ) (fun _=>zn rfl tQ) (fun _=>sQ) fun jl2=>?_;refine TD.capp (pend':=[⟨5,[31],[]⟩,⟨4,[7],[]⟩]) [33,35] Z Z Z Z Z (a_app Z ApOf.h Z mQ oQ Z (yp (ln:=[_,_,_]) mQ dQ sQ Z) oQ Z (by unfold maxLen; omega) oQ) (fun _=>uQ) (fun _=>zn rfl tQ) (fun _=>sQ) fun jm2=>?_;refine TD.as (pend':=[⟨5,[31],[]⟩,⟨4,[7],[]⟩]) [30] Z Z (zw Z Z) ?_;refine ad [[3,7],[3,37]] ?_;refine bR (pend':=[⟨11,[7],[]⟩]) [36,38] Z Z (zB Z Z zd.h Z Z mQ Z) ?_;refine ad [[14]] ?_;refine au 312304140 ?_;refine bA [1,4,5,6,7,15,16,17] ?_;refine bC [(e,_),(jl2,_),(jm2,_),(j7,_),(jr,_)] ?_;exact hnext _ _ _ oQ ⟨i+1,jl2,jm2,rfl,oQ,by rw [hk1,lF]; rfl,by rw [hk1,hk2,y9,lM,lF]; rfl⟩
  have hbit:¬ mask / 2 ^ i % 2=1:=fun h=>by rw [h] at hc1; simp at hc1
  refine au 312304140120 ?_;refine bA [1,4,5,6,7,15,16,17] ?_;refine bC [(e,_),(jl,_),(jm,_),(j7,_),(jr,_)] ?_;exact hnext _ _ _ oQ ⟨i+1,jl,jm,rfl,oQ,by rw [show zt mask (i+1)=zt mask i by show zt mask i++_=_; rw [if_neg hbit,lR]]; rfl,by rw [show zt mask (i+1)=zt mask i by show zt mask i++_=_; rw [if_neg hbit,lR],show onlyL b.measures mask (i+1)=onlyL b.measures mask i by show onlyL b.measures mask i++_=_; rw [if_neg hbit,lR]]⟩
 obtain rfl:i=b.measures.length:=by simp at hc0; omega
 refine au 35170168042160 ?_;refine bB hret [(jl,_),(jm,_),(e,_)] ?_;exact ⟨jl,jm,by unfold onlyB; rfl,by unfold onlyB; rfl⟩
end Go.Vel
end
