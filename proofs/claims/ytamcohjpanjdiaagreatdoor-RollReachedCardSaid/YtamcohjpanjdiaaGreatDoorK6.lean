/- Texts for the statements of chapter 8: what all of them need, part 7. It holds of every program, tape and world that the statements name, as each theorem says. -/
import Derived.Test.YtamcohjpanjdiaaGreatDoorK3
import Derived.Test.YtamcohjpanjdiaaGreatDoorK5
section
set_option linter.all false
set_option maxRecDepth 20000
set_option maxHeartbeats 60000000
open Go.Proofs.Tryz renaming prog -> tp
open List renaming getElem?_eq_getElem -> lA, getD_eq_getElem?_getD -> lE, length_append -> lF, perm_append_comm -> lH, length_map -> lJ, map_append -> lM, mem_of_getElem? -> lN, append_nil -> lR, mem_singleton -> lS, take_length -> lW, length_cons -> lZ, replicate -> mB
open List.Mem renaming head -> mC
open Nat renaming le_refl -> mL, zero_le -> mN, le_trans -> mT
open Int renaming toNat_natCast -> mZ
namespace Go.Vel
open Go Go.Conc Go.Proofs
instance:ApOf tp 30 96 2 16:={}
instance:BlOf tp 96 [(0,1),(1,1)]:={}
instance:Cal tp 92:={}
instance:EqG tp 96:={}
instance:FlatF tp 96 [(3,0),(3,1)]:={}
instance:zl tp 94 4 4 false 1:={}
instance:zl tp 96 0 0 false 1:={}
instance:zl tp 96 1 1 false 1:={}
instance:zF tp 30 96 2:={}
instance:zi tp 96 true 2:={}
instance:TyZ tp 96 [.int .i64 0,.int .i64 0]:={}
instance:TyZA tp 96 [.v (.int .i64 0),.v (.int .i64 0)]:={}
instance:Und tp 30 (.slice 96):={}
theorem zbW {main T} (hT:zo tp main T) {gm} {b:RBk} {s h e j:Nat} {l:List Int} {et:TypeId} (hb:ROk b) (hl:CutsOk b l) :
  zA tp T gm 92 [.agg (zE b s h e),.sl j 0 l.length] [(s,zk b),(j,.cells (l.map intA) et false)] (fun r K'=>∃ jr,r=.row jr l.length/\K'=[(jr,.row ((stripsM b l).flatMap pairC) 96 2),(s,zk b),(j,.cells (l.map intA) et false)]):=by
 refine zp 61 hT Tryz.func92 fun Y hret=>?_
 refine au [] ?_
 have hp0:=hl.pos
 have hs5:=hb.sms.len
 have hst:=hb.rnd.steps
 have hl5:=hl.len
 have q0:=hl.lt hl.pos
 have f0:=hb.sms.fld _ q0.2.2
 refine au [4,5,21] ?_
 intro jb hjb
 refine au [2,3,4,5,2] ?_
 refine TK.virt 5 96 2 Z fun jr0 hjr0=>?_
 refine au [3,4,4,5,1,28,1,3,13] ?_
 refine TK.maskL [1,2,5,9,10,11] ?_
 refine TK.loopN (fun n env K=>∃ (i jr:Nat),n=l.length - i/\i<=l.length/\env=.any::.sl j 0 l.length::.ptr jb 0::naL 2 (.row jr i::naL 3 (.sl j 0 l.length::intA l.length::intA i::naL 49 []))/\K=[(jr,.row (((List.range i).map (stripM b l)).flatMap pairC) 96 2),(jb,.cells (zE b s h e) 113 true),(s,zk b),(j,.cells (l.map intA) et false)]) l.length ⟨0,jr0,rfl,mN _,rfl,rfl⟩ fun n env K hI hnext=>?_
 obtain ⟨i,jr,rfl,hi,rfl,rfl⟩:=hI
 have hpl:=zgm b l i
 refine TK.na nQ ?_
 refine au [4,5,6,3,4,20] ?_
 refine ⟨fun hc0=>?_,fun hc0=>?_⟩
 ·have hil:i<l.length:=by simp at hc0; omega
  have qi:=hl.lt hil
  have fi:=hb.sms.fld _ qi.2.2
  refine au [12,4,13,4,5,1,36] ?_
  refine TK.a Z (zm Z Z zi.h mQ (yh (i:=i) (z5 hil) Z)) ?_
  refine au [2,2,3,4] ?_
  refine TK.draw [0,1,2,3,4,5,6,7,8,9,10,11,12,13] [0,1,2,3,4,5,6,7,8,9,10,11,12,13] (by kernel_rfl) (by kernel_rfl) ?_
  refine TD.z [2] Z (zg Z Z zl.h dQ) ?_
  refine TD.z [16] Z (zg Z Z zl.h dQ) ?_
  refine TD.y [17] Z (hq:=zm Z Z zi.h (mC _) Z) (h:=?_)
  refine TD.z [1] Z (zh Z Z) ?_
  refine TD.z [19] Z (zQ Z Z Z zF.h oQ oQ) ?_
  refine TD.y [20] Z (hq:=zm Z Z zi.h (mC _) (yh (i:=0) (z5 hl.pos) Z)) (h:=?_)
  refine TD.z [18,21] Z (zQ Z Z Z zF.h oQ oQ) ?_
  refine TD.z [22] Z (zg Z Z zl.h dQ) ?_
  refine TD.y [23] Z (hq:=zm Z Z zi.h (mC _) (ym (c:=0) (sm_at b (i:=(zN l 0).toNat) q0.2.2 oQ) dQ Z)) (h:=?_)
  refine TD.z [2] Z (zg Z Z zl.h dQ) ?_
  refine TD.z [25] Z (zg Z Z zl.h dQ) ?_
  refine TD.y [26] Z (hq:=zm Z Z zi.h (mC _) Z) (h:=?_)
  refine TD.z [24,27] Z (q_add Z Z Z oQ) ?_
  refine TD.as (pend':=[]) [28] Z Z (zD Z Z) ?_
  refine TD.fin ?_
  refine au [4,4,5,1,23,1,28,6,3,20] ?_
  refine ⟨fun hc1=>?_,fun hc1=>?_⟩
  ·have hlt:i+1<l.length:=by simp at hc1; omega
   have qn:=hl.lt hlt
   have fn:=hb.sms.fld _ qn.2.2
   refine TK.draw [0,1,2,3,4,5,6,7,8,9,10,11] [0,1,2,3,4,5,6,7,8,9,10,11] (by kernel_rfl) (by kernel_rfl) ?_
   refine TD.z [2] Z (zg Z Z zl.h dQ) ?_
   refine TD.z [34] Z (zg Z Z zl.h dQ) ?_
   refine TD.y [35] Z (hq:=zm Z Z zi.h (mC _) Z) (h:=?_)
   refine TD.z [1] Z (zh Z Z) ?_
   refine TD.z [6] Z (zh Z Z) ?_
   refine TD.z [38] Z (q_add Z Z Z oQ) ?_
   refine TD.z [37,39] Z (zQ Z Z Z zF.h oQ oQ) ?_
   refine TD.y [40] Z (hq:=zm Z Z zi.h (mC _) (yh (i:=i+1) (z5 hlt) Z)) (h:=?_)
   refine TD.z [36,41] Z (zQ Z Z Z zF.h oQ oQ) ?_
   refine TD.z [42] Z (zg Z Z zl.h dQ) ?_
   refine TD.y [43] Z (hq:=zm Z Z zi.h (mC _) (ym (c:=0) (sm_at b (i:=(zN l (i+1)).toNat) qn.2.2 oQ) dQ Z)) (h:=?_)
   refine TD.as (pend':=[]) [44] Z Z (zD Z Z) ?_
   refine TD.fin ?_
   refine au [5,1,1,1,7,7,9,1,36,7] ?_
   refine TK.a Z (zm Z Z zi.h mQ (ym (c:=0) (sm_at b (i:=(zN l i).toNat) qi.2.2 oQ) dQ Z)) ?_
   refine au [24,39] ?_
   refine TK.newR Z Z Z (zt (l:=[_,_]) Z zF.h TyZ.h dQ dQ Z) (fun _=>zu rfl tQ) fun j1 hj1=>?_
   refine TK.appR Z Z Z (a_app Z ApOf.h Z mQ oQ Z (yu (ln:=[_,_]) mQ dQ sQ Z) oQ Z (by unfold maxLen; omega) oQ) (fun _=>uQ) (fun _=>zu rfl tQ) fun jr2=>?_
   refine au [2,3,14,5,23,1,3] ?_
   refine TK.maskL [1,2,5,9,10,11] ?_
   refine TK.kp [(jr2,_),(jb,_),(s,_),(j,_)] ?_
   exact hnext _ _ _ oQ ⟨i+1,jr2,rfl,by omega,rfl,by rw [zbP]; simp only [stripM,endM,if_pos hlt]; rfl⟩
  have hlt:¬ i+1<l.length:=by simp at hc1; omega
  refine au [12,5,1,1,1,7,7,9,1,36,7] ?_
  refine TK.a Z (zm Z Z zi.h mQ (ym (c:=0) (sm_at b (i:=(zN l i).toNat) qi.2.2 oQ) dQ Z)) ?_
  refine au [24,39] ?_
  refine TK.newR Z Z Z (zt (l:=[_,_]) Z zF.h TyZ.h dQ dQ Z) (fun _=>zu rfl tQ) fun j2 hj2=>?_
  refine TK.appR Z Z Z (a_app Z ApOf.h Z mQ oQ Z (yu (ln:=[_,_]) mQ dQ sQ Z) oQ Z (by unfold maxLen; omega) oQ) (fun _=>uQ) (fun _=>zu rfl tQ) fun jr2=>?_
  refine au [2,3,14,5,23,1,3] ?_
  refine TK.maskL [1,2,5,9,10,11] ?_
  refine TK.kp [(jr2,_),(jb,_),(s,_),(j,_)] ?_
  exact hnext _ _ _ oQ ⟨i+1,jr2,rfl,by omega,rfl,by rw [zbP]; simp only [stripM,endM,if_neg hlt]; rfl⟩
 obtain rfl:i=l.length:=by simp at hc0; omega
 refine au [16,4,5,1,2,3] ?_
 refine TK.rt hret [(jr,_),(s,_),(j,_)] ?_
 exact ⟨jr,rfl,rfl⟩
theorem zdF {main T} (hT:zo tp main T) {gm} {b:RBk} {s h e j:Nat} {l:List Int} {et:TypeId} (hb:ROk b) (hl:CutsOk b l) :
  zA tp T gm 95 [.agg (zE b s h e),.sl j 0 l.length] [(s,zk b),(j,.cells (l.map intA) et false)] (fun r K'=>r=zP (fitsM b l)/\K'=[(s,zk b),(j,.cells (l.map intA) et false)]):=by
 refine zp 60 hT Tryz.func95 fun Y hret=>?_
 refine au [] ?_
 have hp0:=hl.pos
 have hs5:=hb.sms.len
 have hst:=hb.rnd.steps
 have hl5:=hl.len
 have q0:=hl.lt hl.pos
 have f0:=hb.sms.fld _ q0.2.2
 refine au [4,5,21] ?_
 intro jb hjb
 refine au [2,3,4,4,5,1,28,7,7,9,6,3,20] ?_
 refine ⟨fun hc0=>?_,fun hc0=>?_⟩
 ·refine au [4,5,2,3] ?_
  refine TK.rt hret [(s,_),(j,_)] ?_
  exact ⟨by rw [show fitsM b l=false by unfold fitsM; rw [show decide ((l.length:Int)<=b.rolls)=false by simp at hc0; simp; omega]; rfl],rfl⟩
 refine au [12,4] ?_
 refine TK.draw [0,1,2,3,4,5,6,7,8] [0,1,2,3,4,5,6,7,8] (by kernel_rfl) (by kernel_rfl) ?_
 refine TD.z [1] Z (zh Z Z) ?_
 refine TD.z [14] Z (zQ Z Z Z zF.h oQ oQ) ?_
 refine TD.y [15] Z (hq:=zm Z Z zi.h (mC _) (yh (i:=0) (z5 hl.pos) Z)) (h:=?_)
 refine TD.z [2] Z (zg Z Z zl.h dQ) ?_
 refine TD.z [17] Z (zg Z Z zl.h dQ) ?_
 refine TD.y [18] Z (hq:=zm Z Z zi.h (mC _) Z) (h:=?_)
 refine TD.z [16,19] Z (yD (l:=[_,_]) Z TyZ.h BlOf.h Z) ?_
 refine TD.cnewP (pend':=[⟨6,[16,19],[]⟩,⟨5,[18],[(_,_)]⟩,⟨4,[17],[]⟩,⟨3,[2],[]⟩,⟨2,[15],[(_,_)]⟩,⟨1,[14],[]⟩,⟨0,[1],[]⟩]) [] Z Z Z Z Z (yK Z TyZA.h) (fun _=>zu rfl tQ) sQ fun j5 hj5=>?_
 refine TD.s (pend':=[]) [5,20] Z Z (zX Z Z zi.h Z Z mQ Z) ?_
 refine TD.fin ?_
 refine au [4,4,5,8,1] ?_
 refine TK.cl Z Z Z Z (zbW hT hb hl) ?_
 rintro r1 K2 ⟨jr,rfl,rfl⟩
 refine au [28,1,3,13] ?_
 refine TK.maskL [2,4,5,23,24,25] ?_
 refine TK.loopN (fun n env K=>∃ (i:Nat),n=l.length - i/\i<=l.length/\((List.range i).all fun k => !(cutS b l k).whole&&decide ((stripM b l k).2<=b.roll))=true/\env=naL 2 (.ptr jb 0::.any::zP false::.ptr j5 0::naL 17 (.row jr l.length::intA l.length::intA i::naL 34 []))/\K=[(jr,.row ((stripsM b l).flatMap pairC) 96 2),(s,zk b),(j,.cells (l.map intA) et false),(j5,.cells [intA (zN l 0),intA b.steps] 96 true),(jb,.cells (zE b s h e) 113 true)]) l.length ⟨0,rfl,mN _,rfl,rfl,rfl⟩ fun n env K hI hnext=>?_
 obtain ⟨i,rfl,hi,hall,rfl,rfl⟩:=hI
 refine TK.na nQ ?_
 refine au [4,5,6,3,4,20] ?_
 refine ⟨fun hc1=>?_,fun hc1=>?_⟩
 ·have hil:i<l.length:=by simp at hc1; omega
  have qi:=hl.lt hil
  have hsi:(stripM b l i).1=zN l i:=rfl
  have fi:=hb.sms.fld _ qi.2.2
  refine au [12,4,13,4,5,37] ?_
  refine TK.a Z (z8 Z Z zi.h mQ (zbo (c:=2) (f:=pairC) (fun _=>rfl) (zfs hil) rfl dQ)) ?_
  refine au [22] ?_
  intro j7 hj7
  refine au [17,3,4,5,7,7,9,7,9,36,7] ?_
  refine TK.a Z (zm Z Z zi.h mQ (ym (c:=4) (sm_at b (i:=(zN l i).toNat) qi.2.2 oQ) dQ Z)) ?_
  refine au [1] ?_
  refine TK.sp 37 (fun g7_9=>?_) (fun g7_9=>?_)
  ·refine au [11,11,11,11,11,11,11,11,11,11,11,11,26,1,11,11,11,11,11,11,26,3,18,4,5,2,3] ?_
   refine TK.rt hret [(s,_),(j,_)] ?_
   exact ⟨by rw [zaO hil (.inl g7_9)],rfl⟩
  have g7_9:(cutS b l i).whole=false:=g7_9
  refine au [8,8] ?_
  refine TK.a Z (zcW Z Z Z Z Z FlatF.h EqG.h) ?_
  refine au [1] ?_
  refine TK.sp 41 (fun g7_13=>?_) (fun g7_13=>?_)
  ·refine au [7,7,9,7,7,9,6,26,25,1] ?_
   refine TK.sp 51 (fun g7_23=>?_) (fun g7_23=>?_)
   ·refine au [11,11,11,11,11,11,26,3,18,4,5,2,3] ?_
    refine TK.rt hret [(s,_),(j,_)] ?_
    exact ⟨by rw [zaO hil (.inr (by simp [stripM] at g7_13 g7_23; show b.roll<_; simp only [stripM]; omega))],rfl⟩
   refine au [7,9,7,7,9,6,25,3,20] ?_
   refine ⟨fun hc2=>?_,fun hc2=>?_⟩
   ·refine au [4,5,2,3] ?_
    refine TK.rt hret [(s,_),(j,_)] ?_
    exact ⟨by rw [zaO hil (.inr (of_decide_eq_true hc2))],rfl⟩
   refine au [12,14,5,23,1,3] ?_
   refine TK.maskL [2,4,5,23,24,25] ?_
   refine TK.kp [(jr,_),(s,_),(j,_),(j5,_),(jb,_)] ?_
   exact hnext _ _ _ oQ ⟨i+1,rfl,by omega,by rw [List.range_succ,List.all_append,hall]; simp [g7_9,show (stripM b l i).2<=b.roll from Int.not_lt.1 (of_decide_eq_false hc2)],rfl,rfl⟩
  refine au [11,11,11,11,11,11,11,25,25,1,7,9,7,7,9,6,25,3,20] ?_
  refine ⟨fun hc2=>?_,fun hc2=>?_⟩
  ·refine au [4,5,2,3] ?_
   refine TK.rt hret [(s,_),(j,_)] ?_
   exact ⟨by rw [zaO hil (.inr (of_decide_eq_true hc2))],rfl⟩
  refine au [12,14,5,23,1,3] ?_
  refine TK.maskL [2,4,5,23,24,25] ?_
  refine TK.kp [(jr,_),(s,_),(j,_),(j5,_),(jb,_)] ?_
  exact hnext _ _ _ oQ ⟨i+1,rfl,by omega,by rw [List.range_succ,List.all_append,hall]; simp [g7_9,show (stripM b l i).2<=b.roll from Int.not_lt.1 (of_decide_eq_false hc2)],rfl,rfl⟩
 obtain rfl:i=l.length:=by simp at hc1; omega
 refine au [16,4,5,2,3] ?_
 refine TK.rt hret [(s,_),(j,_)] ?_
 exact ⟨by rw [show fitsM b l=true by unfold fitsM; rw [hall,show decide ((l.length:Int)<=b.rolls)=true by simp at hc0; simp; omega]; rfl],rfl⟩
theorem zbZ {n:Nat} (h:n<256):IntKind.u64.wrap (n:Int)=n:=by
 have:∀ n:Nat,n<256->IntKind.u64.wrap (n:Int)=n:=by decide +kernel
 exact this n h
theorem zgD {n:Nat} (h:n<256):IntKind.u8.wrap (n:Int)=n:=by
 have:∀ n:Nat,n<256->IntKind.u8.wrap (n:Int)=n:=by decide +kernel
 exact this n h
theorem zhK {s:ByteArray} {n:Nat} (hn:n<256) (h:s.size=256):s[n]? =some (s[n]'oQ):=getElem?_pos s n oQ
theorem zfB (c:UInt8):IntKind.i64.wrap (c.toNat:Int)=c.toNat:=wK (by have:=c.toNat_lt; omega)
theorem zfG (c:UInt8) : -9223372036854775808<=0+(c.toNat:Int)/\0+(c.toNat:Int)<9223372036854775808:=by have:=c.toNat_lt; omega
theorem zdb {lt:Int->Int->Bool} {xs:List Int} (h:1<=xs.length):sortN lt xs 1++xs.drop 1=xs:=by
 cases xs with
 | nil=>simp at h
 | cons x r=>rfl
instance:Cal tp 161:={}
instance:Cal tp 163:={}
instance:Cal tp 198:={}
instance:Cal tp 199:={}
instance:zi tp 117 false 1:={}
instance:Und tp 211 (.int .u64):={}
instance:Und tp 5 (.int .u8):={}
instance:Und tp 9 .string:={}
theorem zf2 {main T} (hT:zo tp main T) {gm} {n:Nat} (hn:n<256) :
  zA tp T gm 198 [.v (.int .u64 n)] [] (fun r K'=>∃ m:Int,r=intA m/\K'=[]):=by
 refine zp 25 hT Tryz.func198 fun Y hret=>?_
 refine au [4,5,2,3,4,4,5,1,6,3,20] ?_
 refine ⟨fun hc0=>?_,fun hc0=>?_⟩
 ·simp at hc0; omega
 refine au [12,4,4,5,1,6,3,20] ?_
 refine ⟨fun hc1=>?_,fun hc1=>?_⟩
 ·simp at hc1; omega
 refine au [12,4,4,5,1,6,3,20] ?_
 refine ⟨fun hc2=>?_,fun hc2=>?_⟩
 ·simp at hc2; omega
 refine au [12,4,5,1,1] ?_
 refine TK.a Z (yU Z Z Und.h Und.h (zgD hn)) ?_
 refine TK.a Z (zet Z Z Z Und.h oQ (zhK hn Z)) ?_
 refine TK.a Z (yU Z Z Und.h Und.h (zfB _)) ?_
 refine TK.a Z (q_add Z Z Z (zfG _)) ?_
 refine au [2,3] ?_
 refine TK.rta hret ?_
 exact ⟨_,rfl,rfl⟩
theorem zaK {main T} (hT:zo tp main T) {gm} {n:Nat} (hn:n<256) :
  zA tp T gm 161 [.v (.int .u64 n)] [] (fun r K'=>∃ m:Int,r=intA m/\K'=[]):=by
 refine zp 8 hT Tryz.func161 fun Y hret=>?_
 refine au [4,5,2,3,4,19,12,4,5,1] ?_
 refine TK.cl Z Z Z Z (zf2 hT hn) ?_
 rintro r1 K2 ⟨m,rfl,rfl⟩
 refine au [2,3] ?_
 refine TK.rta hret ?_
 exact ⟨_,rfl,rfl⟩
theorem zej {main T} (hT:zo tp main T) {gm} {j n:Nat} {xs:List Int} {et:TypeId} {f:AV} {Kc:KV} {lt:Int->Int->Bool} (hn:xs.length=n) (h12:1<=n/\n<=12) (hg:∀ x∈xs,∀ y∈xs,CallFK tp T gm f [intA x,intA y] Kc (fun r K'=>(∃ c:Int,r=intA c/\decide (c<0)=lt x y)/\K'=Kc)) :
  zA tp T gm 199 [.sl j 0 n,intA 0,intA n,f] ((j,.cells (xs.map intA) et true)::Kc) (fun r K'=>K'=(j,.cells ((sortR lt xs).map intA) et true)::Kc):=by
 refine zp 53 hT Tryz.func199 fun Y hret=>?_
 refine au [4,5,1,23,2,3,13] ?_
 refine TK.maskL [0,1,2,3,8] ?_
 refine TK.loopN (fun n1 env K=>∃ (i:Nat),n1=n - i/\1<=i/\i<=n/\env=[.sl j 0 n,intA 0,intA n,f,.any,.any,.any,.any,intA i,.any,.any,.any,.any,.any,.any,.any,.any,.any,.any,.any,.any,.any,.any,.any,.any,.any,.any,.any,.any,.any,.any,.any,.any,.any,.any,.any,.any,.any,.any,.any,.any,.any,.any,.any,.any,.any,.any,.any,.any,.any,.any,.any,.any]/\K=(j,.cells ((sortN lt xs i++xs.drop i).map intA) et true)::Kc) (n - 1) ⟨1,rfl,mL _,h12.1,rfl,by rw [zdb oQ]⟩ fun n1 env K hI hnext=>?_
 obtain ⟨i,rfl,hi1,hi,rfl,rfl⟩:=hI
 refine au [4,4,5,1,1,6,3,20] ?_
 refine ⟨fun hc0=>?_,fun hc0=>?_⟩
 ·have hil:i<n:=by simp at hc0; omega
  obtain ⟨x,hx⟩:∃ x,xs[i]? =some x:=⟨_,lA oQ⟩
  have hSl:=wV (lt:=lt) xs i oQ
  have hTl:(xs.drop (i+1)).length=n - (i+1):=by simp; omega
  have hxm:=lN hx
  refine au [12,4,13,4,5,1,2,3,13] ?_
  refine TK.maskL [0,1,2,3,8,9] ?_
  refine TK.loopN (fun n1 env K=>∃ (p:Nat),n1=p/\p<=i/\insJ lt x (sortN lt xs i) p=insJ lt x (sortN lt xs i) (sortN lt xs i).length/\env=[.sl j 0 n,intA 0,intA n,f,.any,.any,.any,.any,intA i,intA p,.any,.any,.any,.any,.any,.any,.any,.any,.any,.any,.any,.any,.any,.any,.any,.any,.any,.any,.any,.any,.any,.any,.any,.any,.any,.any,.any,.any,.any,.any,.any,.any,.any,.any,.any,.any,.any,.any,.any,.any,.any,.any,.any]/\K=(j,.cells ((dataM (sortN lt xs i) (xs.drop (i+1)) x p).map intA) et true)::Kc) i ⟨i,rfl,mL _,by rw [hSl],rfl,by have:=zcj (sortN lt xs i) (xs.drop (i+1)) x; rw [hSl] at this; rw [this,<- zH hx]⟩ fun n1 env K hI hnext1=>?_
  obtain ⟨p,hnp,hp,hins,rfl,rfl⟩:=hI
  subst n1
  have hdl:=zci (S:=sortN lt xs i) (T:=xs.drop (i+1)) (x:=x) (j:=p)
  refine au [4,4] ?_
  refine TK.draw [0,1,2,3,4,5,6,7,8,9,10,11,12,13,14,15,16] [0,1,2,3,4,5,6,7,8,9,10,11,12,13,14,15,16] (by kernel_rfl) (by kernel_rfl) ?_
  refine TD.z [9] Z (zh Z Z) ?_
  refine TD.z [1] Z (zh Z Z) ?_
  refine TD.z [18,19] Z (q_cmp Z Z Z Z) ?_
  refine TD.z [20] Z (zh Z Z) ?_
  refine TD.sp 21 (fun g4_4=>?_) (fun g4_4=>?_)
  ·have hp0:0<p:=by simp at g4_4; omega
   obtain ⟨q,rfl⟩:∃ q,p=q+1:=⟨p - 1,by omega⟩
   obtain ⟨y,hy⟩:∃ y,(sortN lt xs i)[q]? =some y:=⟨_,lA oQ⟩
   have hym:=uR i oQ y (lN hy)
   refine TD.z [3,21] Z (zh Z Z) ?_
   refine TD.z [0,21] Z (zh Z Z) ?_
   refine TD.z [9,21] Z (zh Z Z) ?_
   refine TD.z [21,23,24] Z (zQ Z Z Z zF.h oQ oQ) ?_
   refine TD.y [21,25] Z (hq:=zm Z Z zi.h (mC _) (yh (i:=q+1) (uZ oQ) Z)) (h:=?_)
   refine TD.z [0,21] Z (zh Z Z) ?_
   refine TD.z [9,21] Z (zh Z Z) ?_
   refine TD.z [21,28] Z (q_sub Z Z Z oQ) ?_
   refine TD.z [21,27,29] Z (zQ Z Z Z zF.h oQ oQ) ?_
   refine TD.y [21,30] Z (hq:=zm Z Z zi.h (mC _) (yh (i:=q) ((vx oQ).trans hy) oQ)) (h:=?_)
   refine TD.callF' (pend':=[⟨12,[21,27,29],[]⟩,⟨11,[21,28],[]⟩,⟨10,[9,21],[]⟩,⟨9,[0,21],[]⟩,⟨7,[21,23,24],[]⟩,⟨6,[9,21],[]⟩,⟨5,[0,21],[]⟩,⟨2,[18,19],[]⟩,⟨1,[1],[]⟩,⟨0,[9],[]⟩]) [21,22,26,31] Z Z Z Z Z Z Z (hg x hxm y hym) (.right (.all _)) fun r1 K2 h3=>⟨?_,?_⟩
   ·rcases h3 with ⟨⟨c,rfl,hlc⟩,hK⟩
    all_goals (rw [hK]; simp)
   obtain ⟨⟨c,rfl,hlc⟩,hK⟩:=h3
   try simp only [cA]
   refine TD.norm (zu Z tQ) ?_
   rw [hK]
   refine TD.perm (K':=(j,_)::Kc) (List.perm_append_singleton _ _) ?_
   refine TD.z [21,32] Z (q_cmp Z Z Z Z) ?_
   refine TD.z [21,33] Z (yE Z Z Z) ?_
   refine TD.fin ?_
   refine au [20] ?_
   refine ⟨fun hc1=>?_,fun hc1=>?_⟩
   ·have hlt:lt x y=true:=by rw [<- hlc]; exact hc1
    have hsw:=zbB (T:=xs.drop (i+1)) (x:=x) hy
    refine au [12,4,13] ?_
    refine TK.draw [0,1,2,3,4,5,6,7,8,9,10,11,12,13,14,15,16,17] [0,1,5,6,7,8,9,10,11,12,13,14,15,2,3,4,16,17] (by kernel_rfl) (by kernel_rfl) ?_
    refine TD.z [0] Z (zh Z Z) ?_
    refine TD.z [9] Z (zh Z Z) ?_
    refine TD.z [0] Z (zh Z Z) ?_
    refine TD.z [9] Z (zh Z Z) ?_
    refine TD.z [40] Z (q_sub Z Z Z oQ) ?_
    refine TD.z [0] Z (zh Z Z) ?_
    refine TD.z [9] Z (zh Z Z) ?_
    refine TD.z [43] Z (q_sub Z Z Z oQ) ?_
    refine TD.z [42,44] Z (zQ Z Z Z zF.h oQ oQ) ?_
    refine TD.y [45] Z (hq:=zm Z Z zi.h (mC _) (yh (i:=q) ((vx oQ).trans hy) oQ)) (h:=?_)
    refine TD.z [0] Z (zh Z Z) ?_
    refine TD.z [9] Z (zh Z Z) ?_
    refine TD.z [47,48] Z (zQ Z Z Z zF.h oQ oQ) ?_
    refine TD.y [49] Z (hq:=zm Z Z zi.h (mC _) (yh (i:=q+1) (uZ oQ) Z)) (h:=?_)
    refine TD.z [37,38] Z (zQ Z Z Z zF.h oQ oQ) ?_
    refine TD.s (pend':=[⟨12,[47,48],[]⟩,⟨11,[9],[]⟩,⟨10,[0],[]⟩,⟨4,[40],[]⟩,⟨3,[9],[]⟩,⟨2,[0],[]⟩]) [46,51] Z Z (zX Z Z zi.h Z Z mQ (vS (k:=q+1) oQ Z)) ?_
    refine TD.z [39,41] Z (zQ Z Z Z zF.h oQ oQ) ?_
    refine TD.s (pend':=[]) [50,52] Z Z (zX Z Z zi.h Z Z mQ (vS (k:=q) (by rw [List.length_set]; omega) oQ)) ?_
    refine TD.fin ?_
    refine au [14,5,1,24,2,3] ?_
    refine TK.maskL [0,1,2,3,8,9] ?_
    refine TK.kp (((j,_)::Kc)) ?_
    exact hnext1 _ _ _ oQ ⟨q,rfl,by omega,by rw [<- hins,zdI hy hlt],by rw [show ((q+1:Nat):Int) - 1=(q:Int) by omega]; rfl,by rw [hsw]⟩
   have hstop:=vy (lt:=lt) (x:=x) (S:=sortN lt xs i) (T:=xs.drop (i+1)) (j:=q+1) oQ (fun i1 y1 h1 h2=>by obtain rfl:q=i1:=oQ; rw [hy] at h2; cases h2; rw [<- hlc]; exact hc1)
   rw [hins] at hstop
   refine au [16,14,5,1,23,2,3] ?_
   refine TK.maskL [0,1,2,3,8] ?_
   refine TK.kp (((j,_)::Kc)) ?_
   exact hnext _ _ _ oQ ⟨i+1,rfl,by omega,by omega,rfl,by rw [wA hx,<- hstop]⟩
  obtain rfl:p=0:=by simp at g4_4; omega
  have hstop:=vy (lt:=lt) (x:=x) (S:=sortN lt xs i) (T:=xs.drop (i+1)) (j:=0) (mN _) (fun i y h=>by omega)
  rw [hins] at hstop
  refine TD.u [3,21] Z ?_
  refine TD.u [0,21] Z ?_
  refine TD.u [9,21] Z ?_
  refine TD.u [21,23,24] Z ?_
  refine TD.u [21,25] Z ?_
  refine TD.u [0,21] Z ?_
  refine TD.u [9,21] Z ?_
  refine TD.u [21,28] Z ?_
  refine TD.u [21,27,29] Z ?_
  refine TD.u [21,30] Z ?_
  refine TD.u [21,22,26,31] Z ?_
  refine TD.u [21,32] Z ?_
  refine TD.z [21,33] Z (yf Z Z Z) ?_
  refine TD.fin ?_
  refine au [19,16,14,5,1,23,2,3] ?_
  refine TK.maskL [0,1,2,3,8] ?_
  refine TK.kp (((j,_)::Kc)) ?_
  exact hnext _ _ _ oQ ⟨i+1,rfl,by omega,by omega,rfl,by rw [wA hx,<- hstop]⟩
 obtain rfl:i=n:=by simp at hc0; omega
 have hfin:(j,AObj.cells ((sortN lt xs i++xs.drop i).map intA) et true)::Kc=(j,.cells ((sortN lt xs xs.length).map intA) et true)::Kc:=by rw [hn,List.drop_eq_nil_of_le oQ,lR]
 refine au [16] ?_
 refine TK.rt0 hret (((j,_)::Kc)) ?_
 rw [show sortR lt xs=sortN lt xs xs.length from rfl]
 exact hfin
theorem ziv {main T} (hT:zo tp main T) {gm} {lim:Int} {j n:Nat} {xs:List Int} {et:TypeId} {f:AV} {Kc:KV} {lt:Int->Int->Bool} (hn:xs.length=n) (h12:1<=n/\n<=12) (hg:∀ x∈xs,∀ y∈xs,CallFK tp T gm f [intA x,intA y] Kc (fun r K'=>(∃ c:Int,r=intA c/\decide (c<0)=lt x y)/\K'=Kc)) :
  zA tp T gm 163 [.sl j 0 n,intA 0,intA n,intA lim,f] ((j,.cells (xs.map intA) et true)::Kc) (fun r K'=>K'=(j,.cells ((sortR lt xs).map intA) et true)::Kc):=by
 refine zp 148 hT Tryz.func163 fun Y hret=>?_
 refine au [4,5,2,3,4,5,2,3,13] ?_
 refine TK.loop ?_
 refine au [13,4,5,1,1,24,2,3,4,4,5,1,6,3,20] ?_
 refine ⟨fun hc0=>?_,fun hc0=>?_⟩
 ·refine au [4,5,1,1,1,1] ?_
  refine TK.cl Z Z Z Z (zej hT hn h12 hg) ?_ (hs:=(.all _))
  rintro r1 K2 rfl
  refine au [] ?_
  refine TK.perm (K':=(j,_)::Kc) (by rw [lR]) ?_
  refine au [3] ?_
  refine TK.rt hret (((j,_)::Kc)) ?_
  exact rfl
 simp at hc0; omega
theorem zdx {main T} (hT:zo tp main T) {gm} {j n:Nat} {xs:List Int} {et:TypeId} {f:AV} {Kc:KV} {lt:Int->Int->Bool} (hn:xs.length=n) (h12:1<=n/\n<=12) (hg:∀ x∈xs,∀ y∈xs,CallFK tp T gm f [intA x,intA y] Kc (fun r K'=>(∃ c:Int,r=intA c/\decide (c<0)=lt x y)/\K'=Kc)) :
  zA tp T gm 145 [.sl j 0 n,f] ((j,.cells (xs.map intA) et true)::Kc) (fun r K'=>K'=(j,.cells ((sortR lt xs).map intA) et true)::Kc):=by
 refine zp 14 hT Tryz.func145 fun Y hret=>?_
 refine au [4,5,1,28,2,3,5,1,1,1] ?_
 refine TK.a Z (yU Z Z Und.h Und.h (zbZ (n:=n) oQ)) ?_
 refine TK.cl Z Z Z Z (zaK hT (n:=n) oQ) ?_ (hs:=(.none _))
 rintro r1 K2 ⟨m,rfl,rfl⟩
 refine au [1] ?_
 refine TK.cl Z Z Z Z (ziv hT hn h12 hg) ?_ (hs:=(.all _))
 rintro r4 K5 rfl
 refine au [] ?_
 refine TK.perm (K':=(j,_)::Kc) (by rw [lR]) ?_
 refine au [3] ?_
 refine TK.rt0 hret (((j,_)::Kc)) ?_
 exact rfl
theorem zhL {main T} (hT:zo tp main T) {gm} {b:RBk} {s h e j jb jl:Nat} {l:List Int} {et:TypeId} {x y:Int} (hb:ROk b) (hl:CutsOk b l) (hx:0<=x/\x<l.length) (hy:0<=y/\y<l.length) :
  zA tp T gm 146 [intA x,intA y,.ptr jb 0,.ptr jl 0] [(jb,.cells (zE b s h e) 113 true),(jl,.cells [.sl j 0 l.length] 117 true),(s,zk b),(j,.cells (l.map intA) et false)] (fun r K'=>(∃ c:Int,r=intA c/\decide (c<0)=busyLt b l x y)/\K'=[(jb,.cells (zE b s h e) 113 true),(jl,.cells [.sl j 0 l.length] 117 true),(s,zk b),(j,.cells (l.map intA) et false)]):=by
 refine zp 38 hT Tryz.func146 fun Y hret=>?_
 refine au [] ?_
 have hs5:=hb.sms.len
 have hl5:=hl.len
 obtain ⟨p,rfl⟩:∃ p:Nat,x=p:=⟨x.toNat,by omega⟩
 obtain ⟨q,rfl⟩:∃ q:Nat,y=q:=⟨y.toNat,by omega⟩
 have hp:p<l.length:=by omega
 have hq:q<l.length:=by omega
 have qp:=hl.lt hp
 have fp:=hb.sms.fld _ qp.2.2
 have qq:=hl.lt hq
 have fq:=hb.sms.fld _ qq.2.2
 refine au [4,5,2,3,4,4] ?_
 refine TK.draw [0,1,2,3,4,5,6,7,8,9,10,11,12,13,14,15,16,17,18,19,20,21] [0,1,2,3,4,5,6,7,8,9,20,10,11,12,13,14,15,16,17,18,19,21] (by kernel_rfl) (by kernel_rfl) ?_
 refine TD.z [2] Z (zg Z Z zl.h dQ) ?_
 refine TD.z [9] Z (zg Z Z zl.h dQ) ?_
 refine TD.y [10] Z (hq:=zm Z Z zi.h (mC _) Z) (h:=?_)
 refine TD.y [3] Z (hq:=zm Z Z zi.h (mC _) Z) (h:=?_)
 refine TD.z [0] Z (zh Z Z) ?_
 refine TD.z [12,13] Z (zQ Z Z Z zF.h oQ oQ) ?_
 refine TD.y [14] Z (hq:=zm Z Z zi.h (mC _) (yh (i:=p) (z5 hp) Z)) (h:=?_)
 refine TD.z [11,15] Z (zQ Z Z Z zF.h oQ oQ) ?_
 refine TD.z [16] Z (zg Z Z zl.h dQ) ?_
 refine TD.y [17] Z (hq:=zm Z Z zi.h (mC _) (ym (c:=2) (sm_at b (i:=(zN l p).toNat) qp.2.2 oQ) dQ Z)) (h:=?_)
 refine TD.z [2] Z (zg Z Z zl.h dQ) ?_
 refine TD.z [19] Z (zg Z Z zl.h dQ) ?_
 refine TD.y [20] Z (hq:=zm Z Z zi.h (mC _) Z) (h:=?_)
 refine TD.y [3] Z (hq:=zm Z Z zi.h (mC _) Z) (h:=?_)
 refine TD.z [1] Z (zh Z Z) ?_
 refine TD.z [22,23] Z (zQ Z Z Z zF.h oQ oQ) ?_
 refine TD.y [24] Z (hq:=zm Z Z zi.h (mC _) (yh (i:=q) (z5 hq) Z)) (h:=?_)
 refine TD.z [21,25] Z (zQ Z Z Z zF.h oQ oQ) ?_
 refine TD.z [26] Z (zg Z Z zl.h dQ) ?_
 refine TD.y [27] Z (hq:=zm Z Z zi.h (mC _) (ym (c:=2) (sm_at b (i:=(zN l q).toNat) qq.2.2 oQ) dQ Z)) (h:=?_)
 refine TD.as (pend':=[⟨19,[27],[(_,_)]⟩,⟨18,[26],[]⟩,⟨17,[21,25],[]⟩,⟨16,[24],[(_,_)]⟩,⟨15,[22,23],[]⟩,⟨14,[1],[]⟩,⟨13,[3],[(_,_)]⟩,⟨12,[20],[(_,_)]⟩,⟨11,[19],[]⟩,⟨10,[2],[]⟩]) [18] Z Z (zD Z Z) ?_
 refine TD.as (pend':=[]) [28] Z Z (zD Z Z) ?_
 refine TD.fin ?_
 refine au [4,5,1,1,6,3,20] ?_
 refine ⟨fun hc0=>?_,fun hc0=>?_⟩
 ·refine au [4,5,1,1,24,2,3] ?_
  refine TK.rt hret [(jb,_),(jl,_),(s,_),(j,_)] ?_
  exact ⟨⟨_,rfl,by simp at hc0; unfold busyLt; rw [mZ,mZ]; unfold cutS; rw [decide_eq_false hc0,Bool.false_and,Bool.or_false]; exact decide_eq_decide.2 oQ⟩,rfl⟩
 refine au [12,4,5,1,1,24,2,3] ?_
 refine TK.rt hret [(jb,_),(jl,_),(s,_),(j,_)] ?_
 exact ⟨⟨_,rfl,by simp at hc0; simp only [busyLt,cutS,mZ,hc0,Int.lt_irrefl,decide_false,decide_true,Bool.true_and,Bool.false_or]; exact decide_eq_decide.2 oQ⟩,rfl⟩
def HangR (o:Option (List Int×Int)) (K:KV) (r:AV) (K':KV):Prop:=match o with
 | none=>r=.tup [.agg [.v (.slice none 0 0),intA 0],zP false]/\K'=K
 | some (w,q)=>∃ jw,r=.tup [.agg [.sl jw 0 w.length,intA q],zP true]/\K'=(jw,.cells (w.map intA) 3 false)::K
theorem zbx {b:RBk} {l:List Int}:∀ (o:List Int) (z:Alloc),(o.foldl (allocM b l) z).steps.length=z.steps.length
 | [],_=>rfl
 | k::o,z=>by rw [List.foldl_cons,zbx o]; simp [allocM]
theorem zhY {x y:Int} (hx:0<=x/\x<=65) (hy:0<=y/\y<=9):0<=x*y/\x*y<=585:=by
 refine ⟨Int.mul_nonneg hx.1 hy.1,?_⟩
 have h1:x*y<=65*y:=Int.mul_le_mul_of_nonneg_right hx.2 hy.1
 omega
section
variable {P:Program} {gm:Nat->Option Nat} {V:KV} {env:List AV} {o:Oper}
theorem zcZ {x y:Operand} {t u:TypeId} {k k':IntKind} {m n:Int} (ho:o.op=.call { callee:=.builtin .min,args:=#[x,y],argTypes:=#[t,u] }) (hx:zn gm env x=some (.v (.int k m))) (hy:zn gm env y=some (.v (.int k' n))):Qk P gm env V o (.v (.int k (min m n))):=by
 rw [show min m n=if n<m then n else m by split <;> omega]
 exact q_min ho hx hy
theorem zcY {x y:Operand} {t u:TypeId} {k k':IntKind} {m n:Int} (ho:o.op=.call { callee:=.builtin .max,args:=#[x,y],argTypes:=#[t,u] }) (hx:zn gm env x=some (.v (.int k m))) (hy:zn gm env y=some (.v (.int k' n))):Qk P gm env V o (.v (.int k (max m n))):=by
 rw [show max m n=if m<n then n else m by split <;> omega]
 exact q_max ho hx hy
end
instance:BlOf tp 125 [(0,1),(1,1)]:={}
instance:Cal tp 133:={}
instance:Cal tp 145:={}
instance:Cal tp 146:={}
instance:Cal tp 95:={}
instance:zl tp 125 0 0 false 1:={}
instance:zl tp 125 1 1 false 1:={}
instance:zi tp 125 true 2:={}
instance:TyZ tp 125 [.slice none 0 0,.int .i64 0]:={}
instance:TyZA tp 125 [.v (.slice none 0 0),.v (.int .i64 0)]:={}
theorem vc {main T} (hT:zo tp main T) {gm} {b:RBk} {s h e j:Nat} {l:List Int} {et:TypeId} (hb:ROk b) (hl:CutsOk b l) {st:List Int} (hs:StOk b st) :
  zA tp T gm 100 [.agg (zE b s h e),.sl j 0 l.length,.agg (stC st)] [(s,zk b),(j,.cells (l.map intA) et false)] (fun r K'=>HangR (hangM b l st) [(s,zk b),(j,.cells (l.map intA) et false)] r K'):=by
 refine zp 110 hT Tryz.func100 fun Y hret=>?_
 refine au [] ?_
 have hp0:=hl.pos
 have hs5:=hb.sms.len
 have hst:=hb.rnd.steps
 have hl5:=hl.len
 have q0:=hl.lt hl.pos
 have f0:=hb.sms.fld _ q0.2.2
 have hfr:=zcl hb hs
 refine au [4,5,21] ?_
 intro jb hjb
 refine au [21] ?_
 intro jl hjl
 refine au [21] ?_
 intro js hjs
 refine au [22] ?_
 intro jr hjr
 refine au [2,3,4,4,5,8,9] ?_
 refine TK.cl Z Z Z Z (zdF hT hb hl) ?_
 rintro r1 K2 ⟨rfl,rfl⟩
 refine au [30,3,20] ?_
 refine ⟨fun hc0=>?_,fun hc0=>?_⟩
 ·refine au [4,5,39,17,2,3] ?_
  refine TK.rt hret [(s,_),(j,_)] ?_
  rw [show hangM b l st=none by unfold hangM; rw [if_pos (by simpa using hc0)]]
  exact ⟨rfl,rfl⟩
 have hfit:fitsM b l=true:=by simpa using hc0
 refine au [12,4,5,9,28] ?_
 refine TK.newS Z Z Z (zdM Z Z Z ApOf.h TyZ.h hp0 oQ) (fun _=>zu rfl tQ) fun jw hjw=>?_
 refine au [39,22] ?_
 intro j8 hj8
 refine au [17,3,4,4,5,9,28,1,3,13] ?_
 refine TK.maskL [3,4,5,6,7,8,26,27,28] ?_
 refine TK.kp [(s,_),(j,_),(jb,_),(jl,_),(js,_),(jr,_),(jw,_),(j8,_)] ?_
 refine TK.loopN (fun n env K=>∃ (i:Nat),n=l.length - i/\i<=l.length/\env=naL 3 (.ptr jb 0::.ptr jl 0::.ptr js 0::.ptr jr 0::zP false::.ptr j8 0::naL 17 (.sl j 0 l.length::intA l.length::intA i::naL 81 []))/\K=[(s,zk b),(j,.cells (l.map intA) et false),(jb,.cells (zE b s h e) 113 true),(jl,.cells [.sl j 0 l.length] 117 true),(js,.cells (stC st) 129 true),(jr,.cells [.v (.slice none 0 0),intA 0] 125 true),(jw,.cells ((mB l.length (0:Int)).map intA) 3 true),(j8,.cells [.sl jw 0 l.length,intA (spoilM b l i)] 125 true)]) l.length ⟨0,rfl,mN _,rfl,rfl⟩ fun n env K hI hnext=>?_
 obtain ⟨i,rfl,hi,rfl,rfl⟩:=hI
 have hsp:=zaG hb hl i hi
 refine TK.na nQ ?_
 refine au [4,5,6,3,4,20] ?_
 refine ⟨fun hc1=>?_,fun hc1=>?_⟩
 ·have hil:i<l.length:=by simp at hc1; omega
  have qi:=hl.lt hil
  have fi:=hb.sms.fld _ qi.2.2
  refine au [12,4,13,4,5,36] ?_
  refine TK.a Z (zm Z Z zi.h mQ (yh (i:=i) (z5 hil) Z)) ?_
  refine au [2,3] ?_
  refine TK.draw [0,1,2,3,4,5,6,7,8,9,10,11] [0,1,2,3,4,5,6,7,8,9,10,11] (by kernel_rfl) (by kernel_rfl) ?_
  refine TD.z [8] Z (zg Z Z zl.h dQ) ?_
  refine TD.y [32] Z (hq:=zm Z Z zi.h (mC _) Z) (h:=?_)
  refine TD.z [3] Z (zg Z Z zl.h dQ) ?_
  refine TD.z [34] Z (zg Z Z zl.h dQ) ?_
  refine TD.y [35] Z (hq:=zm Z Z zi.h (mC _) Z) (h:=?_)
  refine TD.z [10] Z (zh Z Z) ?_
  refine TD.z [36,37] Z (zQ Z Z Z zF.h oQ oQ) ?_
  refine TD.z [38] Z (zg Z Z zl.h dQ) ?_
  refine TD.y [39] Z (hq:=zm Z Z zi.h (mC _) (ym (c:=3) (sm_at b (i:=(zN l i).toNat) qi.2.2 oQ) dQ Z)) (h:=?_)
  refine TD.z [33,40] Z (q_add Z Z Z oQ) ?_
  refine TD.z [8] Z (zg Z Z zl.h dQ) ?_
  refine TD.s (pend':=[]) [41,42] Z Z (zX Z Z zi.h Z Z mQ Z) ?_
  refine TD.fin ?_
  refine au [14,5,23,1,3] ?_
  refine TK.maskL [3,4,5,6,7,8,26,27,28] ?_
  refine TK.kp [(s,_),(j,_),(jb,_),(jl,_),(js,_),(jr,_),(jw,_),(j8,_)] ?_
  exact hnext _ _ _ oQ ⟨i+1,rfl,by omega,rfl,rfl⟩
 obtain rfl:i=l.length:=by simp at hc1; omega
 refine au [16,4,5,9,28] ?_
 refine TK.newS Z Z Z (zdM Z Z Z ApOf.h TyZ.h hp0 oQ) (fun _=>zu rfl tQ) fun jo hjo=>?_
 refine au [2,3,4,4,5,1,28,1,3,13] ?_
 refine TK.maskL [3,4,5,6,7,8,11,47,48,49] ?_
 refine TK.loopN (fun n env K=>∃ (i:Nat),n=l.length - i/\i<=l.length/\env=naL 3 (.ptr jb 0::.ptr jl 0::.ptr js 0::.ptr jr 0::zP false::.ptr j8 0::naL 2 (.sl jo 0 l.length::naL 35 (.sl jo 0 l.length::intA l.length::intA i::naL 60 [])))/\K=[(jo,.cells ((idxM i++mB (l.length - i) 0).map intA) 3 true),(s,zk b),(j,.cells (l.map intA) et false),(jb,.cells (zE b s h e) 113 true),(jl,.cells [.sl j 0 l.length] 117 true),(js,.cells (stC st) 129 true),(jr,.cells [.v (.slice none 0 0),intA 0] 125 true),(jw,.cells ((mB l.length (0:Int)).map intA) 3 true),(j8,.cells [.sl jw 0 l.length,intA (spoilM b l l.length)] 125 true)]) l.length ⟨0,rfl,mN _,rfl,rfl⟩ fun n env K hI hnext=>?_
 obtain ⟨i,rfl,hi,rfl,rfl⟩:=hI
 refine TK.na nQ ?_
 refine au [4,5,6,3,4,20] ?_
 refine ⟨fun hc2=>?_,fun hc2=>?_⟩
 ·have hil:i<l.length:=by simp at hc2; omega
  refine au [12,4,13,4,5,1,2,3,5,1,1,1,36] ?_
  refine TK.st Z Z Z (zX Z Z zi.h Z Z mQ (vS (k:=i) (by simp [idxM]; omega) Z)) uQ (putN Z) ?_
  refine au [3,14,5,23,1,3] ?_
  refine TK.maskL [3,4,5,6,7,8,11,47,48,49] ?_
  refine TK.kp [(jo,_),(s,_),(j,_),(jb,_),(jl,_),(js,_),(jr,_),(jw,_),(j8,_)] ?_
  exact hnext _ _ _ oQ ⟨i+1,rfl,by omega,rfl,by rw [<- zg7 hil]⟩
 obtain rfl:i=l.length:=by simp at hc2; omega
 refine au [16,4] ?_
 have hidx:idxM l.length++mB (l.length - l.length) 0=idxM l.length:=by simp
 rw [hidx]
 refine au [5,1,32] ?_
 refine TK.cl Z Z Z Z (zdx hT (Kc:=[(jb,.cells (zE b s h e) 113 true),(jl,.cells [.sl j 0 l.length] 117 true),(s,zk b),(j,.cells (l.map intA) et false)]) (lt:=busyLt b l) (by simp [idxM]) ⟨hp0,by omega⟩ (fun x hx y hy=>yw Cal.h (zhL hT hb hl (by have:=zbi hx; omega) (by have:=zbi hy; omega)))) ?_ (hs:=(.left (.rem (.tail (.tail .head)) (.rem (.tail (.tail .head)) (.left (.left (.none _)))))))
 rintro r4 K5 rfl
 refine au [3,4,5,8,8] ?_
 refine TK.cl Z Z Z Z (zcm hT hb hs) ?_ (hs:=(.none _))
 rintro r7 K8 ⟨rfl,rfl⟩
 refine au [2,3,4,4,5,1,28,1,3,13] ?_
 refine TK.maskL [3,4,5,6,7,8,13,63,64,65] ?_
 refine TK.loopN (fun n env K=>∃ (i:Nat) (z:Alloc),n=l.length - i/\i<=l.length/\z=((ordM b l).take i).foldl (allocM b l) (alloc0 b l (freshM b st))/\z.steps.length=l.length/\(0<=z.left/\z.left<=65)/\(0<=z.squares/\z.squares<=45+585*i)/\env=naL 3 (.ptr jb 0::.ptr jl 0::.ptr js 0::.ptr jr 0::zP false::.ptr j8 0::naL 4 (intA z.left::naL 49 (.sl jo 0 l.length::intA l.length::intA i::naL 44 [])))/\K=[(jo,.cells ((ordM b l).map intA) 3 true),(jb,.cells (zE b s h e) 113 true),(jl,.cells [.sl j 0 l.length] 117 true),(s,zk b),(j,.cells (l.map intA) et false),(js,.cells (stC st) 129 true),(jr,.cells [.v (.slice none 0 0),intA 0] 125 true),(jw,.cells (z.steps.map intA) 3 true),(j8,.cells [.sl jw 0 l.length,intA z.squares] 125 true)]) l.length ⟨0,alloc0 b l (freshM b st),rfl,mN _,rfl,by simp [alloc0],hfr,by have:=zaG hb hl l.length (mL _); show 0<=spoilM b l l.length/\spoilM b l l.length<=_; omega,rfl,rfl⟩ fun n env K hI hnext=>?_
 obtain ⟨i,z,rfl,hi,hz,hzl,hzf,hzs,rfl,rfl⟩:=hI
 have hol:=zhr b l
 refine TK.na nQ ?_
 refine au [4,5,6,3,4,20] ?_
 refine ⟨fun hc3=>?_,fun hc3=>?_⟩
 ·have hil:i<l.length:=by simp at hc3; omega
  obtain ⟨k,hk⟩:∃ k,(ordM b l)[i]? =some k:=⟨_,lA oQ⟩
  have hkm:=zdO (lN hk)
  have hkn:k.toNat<l.length:=by omega
  have qi:=hl.lt hkn
  have fi:=hb.sms.fld _ qi.2.2
  have hmul:0<=min z.left (sm b (zN l k.toNat).toNat).most*(sm b (zN l k.toNat).toNat).busy/\min z.left (sm b (zN l k.toNat).toNat).most*(sm b (zN l k.toNat).toNat).busy<=585:=zhY oQ oQ
  refine au [12,4,13,4,5,36] ?_
  refine TK.a Z (zm Z Z zi.h mQ (yh (i:=i) hk Z)) ?_
  refine au [2,3,4] ?_
  refine TK.draw [0,1,2,3,4,5,6,7,8,9,10,11,12] [0,1,2,3,4,5,6,7,8,9,10,11,12] (by kernel_rfl) (by kernel_rfl) ?_
  refine TD.z [13] Z (zh Z Z) ?_
  refine TD.z [3] Z (zg Z Z zl.h dQ) ?_
  refine TD.z [70] Z (zg Z Z zl.h dQ) ?_
  refine TD.y [71] Z (hq:=zm Z Z zi.h (mC _) Z) (h:=?_)
  refine TD.y [4] Z (hq:=zm Z Z zi.h (mC _) Z) (h:=?_)
  refine TD.z [15] Z (zh Z Z) ?_
  refine TD.z [73,74] Z (zQ Z Z Z zF.h oQ oQ) ?_
  refine TD.y [75] Z (hq:=zm Z Z zi.h (mC _) (yh (i:=k.toNat) (z5 hkn) oQ)) (h:=?_)
  refine TD.z [72,76] Z (zQ Z Z Z zF.h oQ oQ) ?_
  refine TD.z [77] Z (zg Z Z zl.h dQ) ?_
  refine TD.y [78] Z (hq:=zm Z Z zi.h (mC _) (ym (c:=1) (sm_at b (i:=(zN l k.toNat).toNat) qi.2.2 oQ) dQ Z)) (h:=?_)
  refine TD.z [69,79] Z (zcZ Z Z Z) ?_
  refine TD.as (pend':=[]) [80] Z Z (zD Z Z) ?_
  refine TD.fin ?_
  refine au [4,5,7,9,1,1,36] ?_
  refine TK.st Z Z Z (zX Z Z zi.h Z Z mQ (vS (k:=k.toNat) oQ oQ)) uQ (putN Z) ?_
  refine au [3,4] ?_
  refine TK.draw [0,1,2,3,4,5,6,7,8,9,10,11,12,13,14,15,16] [0,1,2,3,4,5,6,7,8,9,10,11,12,13,14,15,16] (by kernel_rfl) (by kernel_rfl) ?_
  refine TD.z [8] Z (zg Z Z zl.h dQ) ?_
  refine TD.y [86] Z (hq:=zm Z Z zi.h (mC _) Z) (h:=?_)
  refine TD.z [16] Z (zh Z Z) ?_
  refine TD.z [3] Z (zg Z Z zl.h dQ) ?_
  refine TD.z [89] Z (zg Z Z zl.h dQ) ?_
  refine TD.y [90] Z (hq:=zm Z Z zi.h (mC _) Z) (h:=?_)
  refine TD.y [4] Z (hq:=zm Z Z zi.h (mC _) Z) (h:=?_)
  refine TD.z [15] Z (zh Z Z) ?_
  refine TD.z [92,93] Z (zQ Z Z Z zF.h oQ oQ) ?_
  refine TD.y [94] Z (hq:=zm Z Z zi.h (mC _) (yh (i:=k.toNat) (z5 hkn) oQ)) (h:=?_)
  refine TD.z [91,95] Z (zQ Z Z Z zF.h oQ oQ) ?_
  refine TD.z [96] Z (zg Z Z zl.h dQ) ?_
  refine TD.y [97] Z (hq:=zm Z Z zi.h (mC _) (ym (c:=2) (sm_at b (i:=(zN l k.toNat).toNat) qi.2.2 oQ) dQ Z)) (h:=?_)
  refine TD.z [88,98] Z (q_mul Z Z Z oQ) ?_
  refine TD.z [87,99] Z (q_add Z Z Z oQ) ?_
  refine TD.z [8] Z (zg Z Z zl.h dQ) ?_
  refine TD.s (pend':=[]) [100,101] Z Z (zX Z Z zi.h Z Z mQ Z) ?_
  refine TD.fin ?_
  refine au [5,1,1,24,2,3,14,5,23,1,3] ?_
  refine TK.maskL [3,4,5,6,7,8,13,63,64,65] ?_
  refine TK.kp [(jo,_),(jb,_),(jl,_),(s,_),(j,_),(js,_),(jr,_),(jw,_),(j8,_)] ?_
  exact hnext _ _ _ oQ ⟨i+1,allocM b l z k,rfl,by omega,by rw [yP hk,List.foldl_append,<- hz]; rfl,by simp [allocM,hzl],by show 0<=z.left - min z.left (sm b (zN l k.toNat).toNat).most/\z.left - min z.left (sm b (zN l k.toNat).toNat).most<=65; omega,by show 0<=z.squares+min z.left (sm b (zN l k.toNat).toNat).most*(sm b (zN l k.toNat).toNat).busy/\z.squares+min z.left (sm b (zN l k.toNat).toNat).most*(sm b (zN l k.toNat).toNat).busy<=45+585*((i+1:Nat):Int); omega,rfl,rfl⟩
 obtain rfl:i=l.length:=by simp at hc3; omega
 rw [List.take_of_length_le oQ] at hz
 refine au [16,4,4,5,1,6,3,20] ?_
 refine ⟨fun hc4=>?_,fun hc4=>?_⟩
 ·refine au [4,5,39,17,2,3] ?_
  refine TK.rt hret [(s,_),(j,_)] ?_
  rw [show hangM b l st=none by unfold hangM; rw [if_neg (by rw [hfit]; decide)]; unfold allocA; rw [<- hz]; exact if_pos (of_decide_eq_true hc4)]
  exact ⟨rfl,rfl⟩
 refine au [12,4] ?_
 refine TK.frz (j:=jw) ?_
 refine au [5,8,17,2,3] ?_
 refine TK.rt hret [(jw,_),(s,_),(j,_)] ?_
 rw [show hangM b l st=some (z.steps,z.squares) by unfold hangM; rw [if_neg (by rw [hfit]; decide)]; unfold allocA; rw [<- hz]; exact if_neg (of_decide_eq_false hc4)]
 exact ⟨jw,by rw [hzl]; rfl,rfl⟩
theorem st_at {s:List Int} {i:Nat} {n:Int} {e:TypeId} {rw':Bool} (h:i<5) (hn:n=(i:Int)):takeO (.cells (stC s) e rw') (0+n.toNat*1) 1=some [intA (s.getD i 0)]:=by
 subst hn
 have:i=0\/i=1\/i=2\/i=3\/i=4:=by omega
 rcases this with rfl | rfl | rfl | rfl | rfl <;> rfl
theorem zeQ {c:List Int} {i k:Nat} (h:k<i):(c.take i).getD k 0=c.getD k 0:=by
 rw [lE,lE,List.getElem?_take,if_pos h]
theorem ziG {c p:List Int} {m:Nat} (h5:c.length=5) (hp:p.length=m) (ht:c.take m=p) (hz:∀ k,m<=k->c.getD k 0=0):c.map intA=stC p:=by
 have key:∀ k,c.getD k 0=p.getD k 0:=fun k=>by
  by_cases h:k<m
  ·rw [<- ht,zeQ h]
  ·rw [hz k oQ,lE,List.getElem?_eq_none oQ]; rfl
 have e:c.map intA=stC c:=by
  rcases c with _ | ⟨a0,_ | ⟨a1,_ | ⟨a2,_ | ⟨a3,_ | ⟨a4,_ | ⟨a5,r⟩⟩⟩⟩⟩⟩ <;> simp at h5
  rfl
 rw [e]
 unfold stC slotR
 rw [key 0,key 1,key 2,key 3,key 4]
theorem zcE {xs:List RMeas} {i:Nat} {x:RMeas} {n:Int} {e:TypeId} {rw':Bool} (h:xs[i]? =some x) (hn:n=(i:Int)):takeO (.cells (xs.flatMap measC) e rw') (0+n.toNat*3) 3=some (measC x):=w9 (c:=3) (fun _=>rfl) h hn dQ
theorem zfE {xs:List RMeas} {p:RMeas->Bool} {i:Nat} {x:RMeas} (h:xs[i]? =some x) (hn:(xs.take i).any p=false) (he:p x=false):(xs.take (i+1)).any p=false:=by
 rw [yP h,List.any_append,hn]; simp [he]
theorem zhI {xs:List RMeas} {p:RMeas->Bool} {i:Nat} {x:RMeas} (h:xs[i]? =some x) (he:p x=true):xs.any p=true:=List.any_eq_true.2 ⟨x,lN h,he⟩
theorem zfl (b:RBk) (s:List Int):rightM b s = !(b.measures.any fun m => !decide (togM b s m.cloth.toNat m.many.toNat=m.wide)):=by
 unfold rightM
 induction b.measures with
 | nil=>rfl
 | cons x r ih=>rw [List.all_cons,List.any_cons,ih]; simp
instance:Cal tp 104:={}
instance:Cal tp 147:={}
instance:Cal tp 186:={}
instance:Cal tp 187:={}
instance:Cal tp 217:={}
theorem zin {main T} (hT:zo tp main T) {gm} {b:RBk} {s h e i:Nat} {st:List Int} (hb:ROk b) (hs:StOk b st) (hi:i<b.seams.length) :
  zA tp T gm 147 [.agg (zE b s h e),intA i,.agg (stC st)] [(s,zk b)] (fun r K'=>r=intA (nowM b st i)/\K'=[(s,zk b)]):=by
 refine zp 14 hT Tryz.func147 fun Y hret=>?_
 refine au [] ?_
 have hs5:=hb.sms.len
 have hw:=hb.wide hi
 have hsi:=hs.bnd i hi
 refine au [4,5,21] ?_
 intro jb hjb
 refine au [21] ?_
 intro js hjs
 refine au [2,3,4] ?_
 refine TK.draw [0,1,3,4,5,2,6,7] [0,1,2,3,4,5,6,7] (by kernel_rfl) (by kernel_rfl) ?_
 refine TD.y [3] Z (hq:=z8 Z Z zi.h (mC _) Z) (h:=?_)
 refine TD.z [1] Z (zh Z Z) ?_
 refine TD.z [1] Z (zh Z Z) ?_
 refine TD.z [5,10] Z (wx Z Z Z ArEl.h oQ oQ) ?_
 refine TD.y [11] Z (hq:=zm Z Z zi.h (mC _) (st_at (i:=i) oQ Z)) (h:=?_)
 refine TD.cl (pend':=[⟨5,[11],[(_,_)]⟩,⟨4,[5,10],[]⟩,⟨3,[1],[]⟩]) [7,8] Z Z Z Z Z (zbt hT (i:=i) hb.rnd hb.sms hi) (fun r1 K2 h3=>⟨?_,?_⟩)
 ·rcases h3 with ⟨rfl,rfl⟩
  all_goals simp
 obtain ⟨rfl,rfl⟩:=h3
 try simp only [cA]
 refine TD.norm tQ ?_
 refine TD.z [9,12] Z (q_sub Z Z Z oQ) ?_
 refine TD.as (pend':=[]) [13] Z Z (zD Z Z) ?_
 refine TD.fin ?_
 refine au [] ?_
 refine TK.rt hret [(s,_)] ?_
 exact ⟨rfl,rfl⟩
theorem zfv {main T} (hT:zo tp main T) {gm} {b:RBk} {s h e:Nat} {c k:Int} {st:List Int} (hb:ROk b) (hs:StOk b st) (hc:0<=c/\c<=5) (hk:0<=k/\k<=5) :
  zA tp T gm 104 [.agg (zE b s h e),intA c,intA k,.agg (stC st)] [(s,zk b)] (fun r K'=>r=intA (togM b st c.toNat k.toNat)/\K'=[(s,zk b)]):=by
 refine zp 30 hT Tryz.func104 fun Y hret=>?_
 refine au [] ?_
 obtain ⟨p,rfl⟩:∃ p:Nat,c=p:=⟨c.toNat,by omega⟩
 obtain ⟨q,rfl⟩:∃ q:Nat,k=q:=⟨k.toNat,by omega⟩
 have hs5:=hb.sms.len
 refine au [4,5,21] ?_
 intro jb hjb
 refine au [21] ?_
 intro js hjs
 refine au [2,3,4,5,2,3,4,4,5,1,1,3,13] ?_
 refine TK.maskL [1,4,7,9,11,12] ?_
 refine TK.kp [(s,_),(js,_),(jb,_)] ?_
 refine TK.loopN (fun n env K=>∃ (i:Nat),n=q - i/\i<=q/\env=.any::intA p::naL 2 (.ptr jb 0::naL 2 (.ptr js 0::.any::intA (togM b st p i)::.any::intA q::intA i::naL 17 []))/\K=[(s,zk b),(js,.cells (stC st) 129 true),(jb,.cells (zE b s h e) 113 true)]) q ⟨0,rfl,mN _,rfl,rfl⟩ fun n env K hI hnext=>?_
 obtain ⟨i,rfl,hi,rfl,rfl⟩:=hI
 have htb:=za8 hb hs (c:=p) i
 refine TK.na nQ ?_
 refine au [4,5,6,3,4,20] ?_
 refine ⟨fun hc0=>?_,fun hc0=>?_⟩
 ·have hil:i<q:=by simp at hc0; omega
  have hmod:(p+i) % b.seams.length<b.seams.length:=Nat.mod_lt _ oQ
  have hcm:((p:Int)+(i:Int)) % (b.seams.length:Int)=(((p+i) % b.seams.length:Nat):Int):=by rw [Int.natCast_emod,Int.natCast_add]
  have hw:=hb.wide hmod
  have hsi:=hs.bnd _ hmod
  have hnow:nowM b st ((p+i) % b.seams.length)=wideM b ((p+i) % b.seams.length) - st.getD ((p+i) % b.seams.length) 0:=rfl
  refine au [12,4,13,4,5,1,2,3] ?_
  refine TK.draw [0,1,2,3,4,5,6,7,8,9,10,11,12,13] [0,1,2,3,4,5,6,7,8,9,10,11,12,13] (by kernel_rfl) (by kernel_rfl) ?_
  refine TD.z [9] Z (zh Z Z) ?_
  refine TD.y [4] Z (hq:=z8 Z Z zi.h (mC _) Z) (h:=?_)
  refine TD.z [1] Z (zh Z Z) ?_
  refine TD.z [10] Z (zh Z Z) ?_
  refine TD.z [17,18] Z (q_add Z Z Z oQ) ?_
  refine TD.z [4] Z (zg Z Z zl.h dQ) ?_
  refine TD.z [20] Z (zg Z Z zl.h dQ) ?_
  refine TD.y [21] Z (hq:=zm Z Z zi.h (mC _) Z) (h:=?_)
  refine TD.z [22] Z (q_len Z Z Z Und.h) ?_
  refine TD.z [19,23] Z (q_rem Z Z Z oQ oQ) ?_
  rw [hcm]
  refine TD.y [7] Z (hq:=z8 Z Z zi.h (mC _) Z) (h:=?_)
  refine TD.cl (pend':=[⟨8,[22],[]⟩,⟨7,[21],[(_,_)]⟩,⟨6,[20],[]⟩,⟨5,[4],[]⟩,⟨4,[17,18],[]⟩,⟨3,[10],[]⟩,⟨2,[1],[]⟩,⟨0,[9],[]⟩]) [16,24,25] Z Z Z Z Z (zin hT (i:=(p+i) % b.seams.length) hb hs hmod) (fun r1 K2 h3=>⟨?_,?_⟩)
  ·rcases h3 with ⟨rfl,rfl⟩
   all_goals simp
  obtain ⟨rfl,rfl⟩:=h3
  try simp only [cA]
  refine TD.norm tQ ?_
  refine TD.z [15,26] Z (q_add Z Z Z oQ) ?_
  refine TD.as (pend':=[]) [27] Z Z (zD Z Z) ?_
  refine TD.fin ?_
  refine au [14,5,23,1,3] ?_
  refine TK.maskL [1,4,7,9,11,12] ?_
  refine TK.kp [(s,_),(js,_),(jb,_)] ?_
  exact hnext _ _ _ oQ ⟨i+1,rfl,by omega,rfl,rfl⟩
 obtain rfl:i=q:=by simp at hc0; omega
 refine au [16,4,5,1,2,3] ?_
 refine TK.rt hret [(s,_)] ?_
 exact ⟨rfl,rfl⟩
theorem zfk {main T} (hT:zo tp main T) {gm} {b:RBk} {s h e jb js:Nat} {m:RMeas} {st:List Int} (hb:ROk b) (hs:StOk b st) (hm:m∈b.measures) :
  zA tp T gm 187 [.agg (measC m),.ptr jb 0,.ptr js 0] [(jb,.cells (zE b s h e) 113 true),(js,.cells (stC st) 129 true),(s,zk b)] (fun r K'=>r=zP (!decide (togM b st m.cloth.toNat m.many.toNat=m.wide))/\K'=[(jb,.cells (zE b s h e) 113 true),(js,.cells (stC st) 129 true),(s,zk b)]):=by
 refine zp 15 hT Tryz.func187 fun Y hret=>?_
 refine au [] ?_
 have hs5:=hb.sms.len
 have hmm:=hb.mes.bnd m hm
 refine au [4,5,21] ?_
 intro jm hjm
 refine au [2,3,4] ?_
 refine TK.draw [0,1,2,3,4,5,7,8,6,9,10] [0,1,2,3,4,5,6,7,8,9,10] (by kernel_rfl) (by kernel_rfl) ?_
 refine TD.y [1] Z (hq:=z8 Z Z zi.h (mC _) Z) (h:=?_)
 refine TD.z [3] Z (zg Z Z zl.h dQ) ?_
 refine TD.y [6] Z (hq:=zm Z Z zi.h (mC _) Z) (h:=?_)
 refine TD.z [3] Z (zg Z Z zl.h dQ) ?_
 refine TD.y [8] Z (hq:=zm Z Z zi.h (mC _) Z) (h:=?_)
 refine TD.y [2] Z (hq:=z8 Z Z zi.h (mC _) Z) (h:=?_)
 refine TD.z [3] Z (zg Z Z zl.h dQ) ?_
 refine TD.y [12] Z (hq:=zm Z Z zi.h (mC _) Z) (h:=?_)
 refine TD.cl (pend':=[⟨8,[12],[(_,_)]⟩,⟨7,[3],[]⟩,⟨3,[3],[]⟩,⟨1,[3],[]⟩]) [5,7,9,10] Z Z Z Z Z (zfv hT (c:=m.cloth) (k:=m.many) hb hs oQ oQ) (fun r1 K2 h3=>⟨?_,?_⟩)
 ·rcases h3 with ⟨rfl,rfl⟩
  all_goals simp
 obtain ⟨rfl,rfl⟩:=h3
 try simp only [cA]
 refine TD.norm tQ ?_
 refine TD.z [11,13] Z (q_cmp Z Z Z Z) ?_
 refine TD.as (pend':=[]) [14] Z Z (zD Z Z) ?_
 refine TD.fin ?_
 refine au [] ?_
 refine TK.rt hret [(jb,_),(js,_),(s,_)] ?_
 exact ⟨by simp [bne]; rfl,rfl⟩
theorem zeW {main T} (hT:zo tp main T) {gm} {j:Nat} {xs:List RMeas} {et:TypeId} {f:AV} {Kc:KV} {p:RMeas->Bool} (hp:∀ x∈xs,CallFK tp T gm f [.agg (measC x)] Kc (fun r K'=>r=zP (p x)/\K'=Kc)) (hl:xs.length<=1000) :
  zA tp T gm 217 [.sl j 0 xs.length,f] ((j,.cells (xs.flatMap measC) et false)::Kc) (fun r K'=>(∃ n:Int,r=intA n/\decide (n>=0)=xs.any p)/\K'=(j,.cells (xs.flatMap measC) et false)::Kc):=by
 refine zp 19 hT Tryz.func217 fun Y hret=>?_
 refine au [4,5,2,3,4,4,5,1,28,1,3,13] ?_
 refine TK.maskL [0,1,7,8] ?_
 refine TK.loopN (fun n env K=>∃ (i:Nat),n=xs.length - i/\i<=xs.length/\(xs.take i).any p=false/\env=.sl j 0 xs.length::f::naL 5 (intA xs.length::intA i::naL 10 [])/\K=((j,.cells (xs.flatMap measC) et false)::Kc)) xs.length ⟨0,rfl,mN _,by simp,rfl,rfl⟩ fun n env K hI hnext=>?_
 obtain ⟨i,rfl,hi,hn,rfl,rfl⟩:=hI
 refine TK.na nQ ?_
 refine au [4,5,6,3,4,20] ?_
 refine ⟨fun hc=>?_,fun hc=>?_⟩
 ·simp only [decide_eq_true_eq] at hc
  have hil:i<xs.length:=by omega
  obtain ⟨x,hx⟩:∃ x,xs[i]? =some x:=⟨_,lA hil⟩
  refine au [12,4,13,4,5,1,2,3,4,5,1,1,1,36] ?_
  refine TK.a Z (z8 Z Z zi.h mQ (zcE (i:=i) hx Z)) ?_
  refine TK.callF' Z Z Z Z Z (hp x (lN hx)) (.right (.all _)) fun r1 K2 h3=>?_
  obtain ⟨rfl,hK⟩:=h3
  refine au [] ?_
  rw [hK]
  refine TK.perm (K':=(j,_)::Kc) (List.perm_append_singleton _ _) ?_
  refine au [3,20] ?_
  refine ⟨fun hc1=>?_,fun hc1=>?_⟩
  ·refine au [4,5,1,2,3] ?_
   refine TK.rt hret (((j,_)::Kc)) ?_
   exact ⟨⟨i,rfl,by rw [decide_eq_true (Int.natCast_nonneg i),zhI hx hc1]⟩,rfl⟩
  refine au [12,14,5,23,1,3] ?_
  refine TK.maskL [0,1,7,8] ?_
  refine TK.kp (((j,_)::Kc)) ?_
  exact hnext _ _ _ oQ ⟨i+1,rfl,by omega,zfE hx hn hc1,rfl,rfl⟩
 simp only [decide_eq_false_iff_not] at hc
 obtain rfl:i=xs.length:=by omega
 refine au [16,4,5,2,3] ?_
 refine TK.rt hret (((j,_)::Kc)) ?_
 rw [lW] at hn
 exact ⟨⟨-1,rfl,by rw [hn]; rfl⟩,rfl⟩
theorem zch {main T} (hT:zo tp main T) {gm} {j:Nat} {xs:List RMeas} {et:TypeId} {f:AV} {Kc:KV} {p:RMeas->Bool} (hp:∀ x∈xs,CallFK tp T gm f [.agg (measC x)] Kc (fun r K'=>r=zP (p x)/\K'=Kc)) (hl:xs.length<=1000) :
  zA tp T gm 186 [.sl j 0 xs.length,f] ((j,.cells (xs.flatMap measC) et false)::Kc) (fun r K'=>r=zP (xs.any p)/\K'=(j,.cells (xs.flatMap measC) et false)::Kc):=by
 refine zp 9 hT Tryz.func186 fun Y hret=>?_
 refine au [4,5,2,3,4,5,1,1] ?_
 refine TK.cl Z Z Z Z (zeW hT hp hl) ?_ (hs:=(.all _))
 rintro r1 K2 ⟨⟨m,rfl,hm⟩,rfl⟩
 refine au [] ?_
 refine TK.perm (K':=(j,_)::Kc) (by rw [lR]) ?_
 refine au [6,2,3] ?_
 refine TK.rt hret (((j,_)::Kc)) ?_
 exact ⟨by rw [<- hm],rfl⟩
theorem zgs {main T} (hT:zo tp main T) {gm} {b:RBk} {s h e:Nat} {st:List Int} (hb:ROk b) (hs:StOk b st) :
  zA tp T gm 159 [.agg (zE b s h e),.agg (stC st)] [(s,zk b),(e,zq b)] (fun r K'=>r=zP (rightM b st)/\K'=[(s,zk b),(e,zq b)]):=by
 refine zp 11 hT Tryz.func159 fun Y hret=>?_
 refine au [4,5,21] ?_
 intro jb hjb
 refine au [21] ?_
 intro js hjs
 refine au [2,3,4,5,7,7,9,32] ?_
 refine TK.cl Z Z Z Z (zch hT (p:=fun m => !decide (togM b st m.cloth.toNat m.many.toNat=m.wide)) (Kc:=[(jb,.cells (zE b s h e) 113 true),(js,.cells (stC st) 129 true),(s,zk b)]) (fun x hx=>yw Cal.h (zfk hT hb hs hx)) (by have:=hb.mes.len; omega)) ?_ (hs:=(.rem (.tail (.tail (.tail .head))) (.rem (.tail .head) (.rem .head (.rem .head (.none _))))))
 rintro r1 K2 ⟨rfl,rfl⟩
 refine au [30,2,3] ?_
 refine TK.rt hret [(s,_),(e,_)] ?_
 exact ⟨by rw [zfl],rfl⟩
def YieldR (P:Program) (T:Goroutine->Hp->Prop) (gm:Nat->Option Nat) (b:RBk) (s h e l:Nat) (J:List (List Int)->KV->Prop) (D:KV->Prop) (tot:List (List Int)):Prop:=∀ (pre:List (List Int)) (S:List Int) (K1:KV),pre++[S] <+: tot->J pre K1 ->
 CallFK P T gm (.yl l) [.agg (stC S)] ((s,zk b)::(h,zB b)::(e,zq b)::K1) fun r K'=>∃ K2,K'=(s,zk b)::(h,zB b)::(e,zq b)::K2/\((r=zP true/\J (pre++[S]) K2)\/(r=zP false/\D K2))
structure ArrOk (b:RBk) (c p:List Int):Prop where
 len:c.length=5
 tk:c.take p.length=p
 z:∀ k,b.shrinks.length<=k->c.getD k 0=0
theorem zgM {b:RBk} {c p:List Int} {n:Int} (h:ArrOk b c p) (hp:p.length<b.shrinks.length) (h5:b.shrinks.length<=5):ArrOk b (c.set p.length n) (p++[n]):=by
 have hl:=h.len
 refine ⟨by simp [hl],?_,fun k hk=>?_⟩
 ·rw [lF,List.length_singleton,List.take_add_one,List.getElem?_set_self oQ,List.take_set_of_le (mL _),h.tk]
  rfl
 ·rw [lE,List.getElem?_set_ne oQ,<- lE]
  exact h.z k hk
theorem zb7 {b:RBk} {c p:List Int} {n:Int} (h:ArrOk b c (p++[n])):ArrOk b c p:=⟨h.len,by
 have:=congrArg (List.take p.length) h.tk
 rw [List.take_take,lF,List.take_append_of_le_length (mL _),lW] at this
 rw [Nat.min_eq_left sQ] at this
 exact this,h.z⟩
theorem zgc (n hi:Int) (h:n<=hi):numsF n (hi+1 - n).toNat=n::numsF (n+1) (hi+1 - (n+1)).toNat:=by
 rw [show (hi+1 - n).toNat=(hi+1 - (n+1)).toNat+1 by omega]; rfl
theorem zga (n hi:Int) (h:¬ n<=hi):numsF n (hi+1 - n).toNat=[]:=by
 rw [show (hi+1 - n).toNat=0 by omega]; rfl
theorem zcP {f:Int->List (List Int)} {n hi:Int} {pre x:List (List Int)} (hn:n<=hi) (h:pre++(numsF n (hi+1 - n).toNat).flatMap f=x):(pre++f n)++(numsF (n+1) (hi+1 - (n+1)).toNat).flatMap f=x:=by
 rw [<- h,zgc n hi hn,List.flatMap_cons,List.append_assoc]
theorem ziw (a b c d f g h:Nat×AObj) {R:KV}:([f,h]++a::b::c::d::g::R).Perm (a::b::c::d::f::g::h::R):=by
 have q1:([f,h]++a::b::c::d::g::R).Perm (a::b::c::d::g::R++[f,h]):=lH
 have q2:((a::b::c::d::g::R)++[f,h]).Perm (a::b::c::d::([f,g,h]++R)):=by
  have q3:((g::R)++[f,h]).Perm ([f,g,h]++R):=by
   have q4:((g::R)++[f,h]).Perm (g::([f,h]++R)):=List.Perm.cons _ lH
   exact q4.trans (List.Perm.swap _ _ _)
  exact (((q3.cons d).cons c).cons b).cons a
 exact q1.trans q2
theorem zix {a b c d:Nat×AObj} {R:KV}:(d::c::b::a::R).Perm (a::c::b::d::R):=by
 have q1:(d::c::b::a::R).Perm (c::b::a::d::R):=(List.perm_middle (l₁:=[c,b,a])).symm
 have q2:(c::b::a::d::R).Perm (a::c::b::d::R):=List.perm_middle (l₁:=[c,b])
 exact q1.trans q2
instance:Cal tp 130:={}
instance:Cal tp 158:={}
instance:Cal tp 159:={}
instance:zi tp 207 false 1:={}
instance:zi tp 208 false 1:={}
instance:TyZA tp 208 [.v (.nilFunc)]:={}
theorem zhl {main T} (hT:zo tp main T) {gm} {b:RBk} {s h e l jb js jy jn:Nat} (hb:ROk b) {J:List (List Int)->KV->Prop} {D:KV->Prop} {tot:List (List Int)} (hy:YieldR tp T gm b s h e l J D tot) :
  ∀ (m:Nat) (p c:List Int) (pre:List (List Int)) (K1:KV),b.shrinks.length - p.length=m->ArrOk b c p->PreB b p->pre++fromM b p (b.shrinks.drop p.length) <+: tot->J pre K1 ->
  zA tp T gm 158 [intA p.length,.ptr jb 0,.ptr js 0,.ptr jy 0,.ptr jn 0] ((jb,.cells (zE b s h e) 113 true)::(js,.cells (c.map intA) 129 true)::(jy,.cells [.yl l] 207 true)::(jn,.cells [.fn 158 [] [.ptr jb 0,.ptr js 0,.ptr jy 0,.ptr jn 0]] 208 true)::(s,zk b)::(h,zB b)::(e,zq b)::K1) (fun r K'=>∃ (c':List Int) (K2:KV),ArrOk b c' p/\K'=(jb,.cells (zE b s h e) 113 true)::(js,.cells (c'.map intA) 129 true)::(jy,.cells [.yl l] 207 true)::(jn,.cells [.fn 158 [] [.ptr jb 0,.ptr js 0,.ptr jy 0,.ptr jn 0]] 208 true)::(s,zk b)::(h,zB b)::(e,zq b)::K2/\((r=zP true/\J (pre++fromM b p (b.shrinks.drop p.length)) K2)\/(r=zP false/\D K2))):=by
 refine fun m=>Nat.strongRecOn m fun m ih=>?_
 intro p c pre K1 hm hc hp hpre hJ
 refine zp 49 hT Tryz.func158 fun Y hret=>?_
 have hcl:=hc.len
 have hle:=hp.1
 have hsl:=hb.cls.len
 have hs5:=hb.sms.len
 refine au [4,5,2,3,4,4,5,1,7,7,9,28,6,3,20] ?_
 refine ⟨fun hc0=>?_,fun hc0=>?_⟩
 ·have hpl:p.length=b.shrinks.length:=by simp at hc0; omega
  have hcp:c.map intA=stC p:=ziG hcl hpl (by rw [<- hpl]; exact hc.tk) hc.z
  rw [hcp]
  have hdn:b.shrinks.drop p.length=[]:=List.drop_eq_nil_of_le oQ
  have hst:StOk b p:=zeV hb ⟨hpl,fun i hi=>hp.2 i oQ⟩
  refine au [4,5,8,8] ?_
  refine TK.cl Z Z Z Z (zgs hT hb hst) ?_ (hs:=(.right (.right (.right (.right (.left (.right (.left (.none _)))))))))
  rintro r1 K2 ⟨rfl,rfl⟩
  refine au [] ?_
  refine TK.perm (K':=(jb,_)::(js,_)::(jy,_)::(jn,_)::(s,_)::(h,_)::(e,_)::K1) (ziw _ _ _ _ _ _ _) ?_
  refine au [30,1] ?_
  refine TK.sp 18 (fun g2_5=>?_) (fun g2_5=>?_)
  ·have hfr:fromM b p (b.shrinks.drop p.length)=[]:=by rw [hdn]; unfold fromM; rw [if_neg (by simpa using g2_5)]
   refine au [11,11,11,26,2,3] ?_
   refine TK.rt hret (_) ?_ (hs:=(.all _))
   exact ⟨c,K1,hc,by rw [hcp],.inl ⟨rfl,by rw [hfr]; simpa using hJ⟩⟩
  have hfr:fromM b p (b.shrinks.drop p.length)=[p]:=by rw [hdn]; unfold fromM; rw [if_pos (by simpa using g2_5)]
  refine au [9,8] ?_
  refine TK.callF' Z Z Z Z Z (hy pre p K1 (by rw [<- hfr]; exact hpre) hJ) (.right (.right (.right (.right (.all _))))) fun r4 K5 h6=>?_
  rcases h6 with ⟨K2,rfl,⟨rfl,hJ2⟩ | ⟨rfl,hD⟩⟩
  ·refine au [] ?_
   refine TK.perm (K':=(jb,_)::(js,_)::(jy,_)::(jn,_)::(s,_)::(h,_)::(e,_)::K2) (lH (l₁:=(s,_)::(h,_)::(e,_)::K2)) ?_
   refine au [25,2,3] ?_
   refine TK.rt hret (_) ?_ (hs:=(.all _))
   exact ⟨c,K2,hc,by rw [hcp],.inl ⟨rfl,by rw [hfr]; exact hJ2⟩⟩
  ·refine au [] ?_
   refine TK.perm (K':=(jb,_)::(js,_)::(jy,_)::(jn,_)::(s,_)::(h,_)::(e,_)::K2) (lH (l₁:=(s,_)::(h,_)::(e,_)::K2)) ?_
   refine au [25,2,3] ?_
   refine TK.rt hret (_) ?_ (hs:=(.all _))
   exact ⟨c,K2,hc,by rw [hcp],.inr ⟨rfl,hD⟩⟩
 have hlt:p.length<b.shrinks.length:=by simp at hc0; omega
 have hbd:=hb.cls.bnd p.length oQ
 have hdc:b.shrinks.drop p.length=bd b p.length::b.shrinks.drop (p.length+1):=zH (ko hlt)
 have hfr:fromM b p (b.shrinks.drop p.length)=(numsF (bd b p.length).low ((bd b p.length).high+1 - (bd b p.length).low).toNat).flatMap fun n=>fromM b (p++[n]) (b.shrinks.drop (p.length+1)):=by rw [hdc]; rfl
 refine au [12,4,4,5,7,7,9,1,36,7] ?_
 refine TK.a Z (zm Z Z zi.h mQ (ym (c:=0) (bd_at b hlt Z) dQ Z)) ?_
 refine au [2,3,13] ?_
 refine TK.maskL [0,1,2,3,4,6,7] ?_
 refine TK.loopN (fun n1 env K=>∃ (n:Int) (c1:List Int) (pre1:List (List Int)) (K2:KV),n1=((bd b p.length).high+1 - n).toNat/\((bd b p.length).low<=n/\n<=(bd b p.length).high+1)/\ArrOk b c1 p/\J pre1 K2/\pre1++(numsF n ((bd b p.length).high+1 - n).toNat).flatMap (fun n=>fromM b (p++[n]) (b.shrinks.drop (p.length+1)))=pre++fromM b p (b.shrinks.drop p.length)/\env=[intA p.length,.ptr jb 0,.ptr js 0,.ptr jy 0,.ptr jn 0,.any,zP false,intA n,.any,.any,.any,.any,.any,.any,.any,.any,.any,.any,.any,.any,.any,.any,.any,.any,.any,.any,.any,.any,.any,.any,.any,.any,.any,.any,.any,.any,.any,.any,.any,.any,.any,.any,.any,.any,.any,.any,.any,.any,.any]/\K=(jb,.cells (zE b s h e) 113 true)::(js,.cells (c1.map intA) 129 true)::(jy,.cells [.yl l] 207 true)::(jn,.cells [.fn 158 [] [.ptr jb 0,.ptr js 0,.ptr jy 0,.ptr jn 0]] 208 true)::(s,zk b)::(h,zB b)::(e,zq b)::K2) _ ⟨(bd b p.length).low,c,pre,K1,rfl,by omega,hc,hJ,by rw [hfr],rfl,rfl⟩ fun n1 env K hI hnext=>?_
 obtain ⟨n,c1,pre1,K2,rfl,hn,hc1a,hJ1,hEq,rfl,rfl⟩:=hI
 have hc1l:=hc1a.len
 refine au [4,4,5,1,7,7,9,1,36,7] ?_
 refine TK.a Z (zm Z Z zi.h mQ (ym (c:=1) (bd_at b hlt Z) dQ Z)) ?_
 refine au [6,3,20] ?_
 refine ⟨fun hc1=>?_,fun hc1=>?_⟩
 ·have hnh:n<=(bd b p.length).high:=of_decide_eq_true hc1
  refine au [12,4,13,4,5,1,1] ?_
  refine TK.a Z (wx Z Z Z ArEl.h oQ oQ) ?_
  refine TK.st Z Z Z (zX Z Z zi.h Z Z mQ (vS (k:=p.length) oQ Z)) uQ (putN Z) ?_
  refine au [3,4,5,9,1,23] ?_
  refine TK.cl Z Z Z Z ((by have:=ih (b.shrinks.length - (p.length+1)) oQ (p++[n]) (c1.set p.length n) pre1 K2 sQ (zgM hc1a hlt oQ) (zcS hp hlt hn.1 hnh) (List.IsPrefix.trans ⟨_,by rw [lF]; exact zcP hnh hEq⟩ hpre) hJ1; rw [lF] at this; exact this)) ?_ (hs:=(.all _))
  rintro r7 K8 h9
  rcases h9 with ⟨c2,K3,hc2,rfl,⟨rfl,hJ3⟩ | ⟨rfl,hD⟩⟩
  ·refine au [] ?_
   refine TK.perm (K':=(jb,.cells (zE b s h e) 113 true)::(js,.cells (c2.map intA) 129 true)::(jy,.cells [.yl l] 207 true)::(jn,.cells [.fn 158 [] [.ptr jb 0,.ptr js 0,.ptr jy 0,.ptr jn 0]] 208 true)::(s,zk b)::(h,zB b)::(e,zq b)::K3) (by rw [lR]) ?_
   refine au [30,3,19,12,14,5,1,23,2,3] ?_
   refine TK.maskL [0,1,2,3,4,6,7] ?_
   exact hnext _ _ _ oQ ⟨n+1,c2,_,K3,rfl,by omega,zb7 hc2,hJ3,zcP hnh hEq,rfl,rfl⟩
  ·refine au [] ?_
   refine TK.perm (K':=(jb,.cells (zE b s h e) 113 true)::(js,.cells (c2.map intA) 129 true)::(jy,.cells [.yl l] 207 true)::(jn,.cells [.fn 158 [] [.ptr jb 0,.ptr js 0,.ptr jy 0,.ptr jn 0]] 208 true)::(s,zk b)::(h,zB b)::(e,zq b)::K3) (by rw [lR]) ?_
   refine au [30,3,18,4,5,2,3] ?_
   refine TK.rt hret (_) ?_ (hs:=(.all _))
   exact ⟨c2,K3,zb7 hc2,rfl,.inr ⟨rfl,hD⟩⟩
 refine au [16,4,5,2,3] ?_
 refine TK.rt hret (_) ?_ (hs:=(.all _))
 exact ⟨c1,K2,hc1a,rfl,.inl ⟨rfl,by rw [<- hEq,zga _ _ (of_decide_eq_false hc1)]; simpa using hJ1⟩⟩
theorem zfr {main T} (hT:zo tp main T) {gm} {b:RBk} {s h e l:Nat} (hb:ROk b) {J:List (List Int)->KV->Prop} {D:KV->Prop} {K1:KV} (hy:YieldR tp T gm b s h e l J D (zf b)) (hJ:J [] K1) :
  zA tp T gm 130 [.agg (zE b s h e),.yl l] ((s,zk b)::(h,zB b)::(e,zq b)::K1) (fun _ K'=>∃ K2,K'=(s,zk b)::(h,zB b)::(e,zq b)::K2/\(J (zf b) K2\/D K2)):=by
 refine zp 9 hT Tryz.func130 fun Y hret=>?_
 refine au [] ?_
 have hs5:=hb.sms.len
 have hsl:=hb.cls.len
 refine au [4,5,21] ?_
 intro jb hjb
 refine au [21] ?_
 intro jy hjy
 refine au [3,4,5,22] ?_
 intro js hjs
 refine au [3,4,5,22] ?_
 intro jn hjn
 refine au [3,4,5,32,17,3] ?_
 refine TK.perm (K':=(jb,.cells (zE b s h e) 113 true)::(js,.cells ([0,0,0,0,0].map intA) 129 true)::(jy,.cells [.yl l] 207 true)::(jn,.cells [.fn 158 [] [.ptr jb 0,.ptr js 0,.ptr jy 0,.ptr jn 0]] 208 true)::(s,zk b)::(h,zB b)::(e,zq b)::K1) zix ?_
 refine au [5,9] ?_
 refine TK.cl Z Z Z Z (zhl hT hb hy _ [] [0,0,0,0,0] [] K1 Z ⟨rfl,rfl,fun k hk=>by rw [lE]; rcases k with _ | _ | _ | _ | _ | k <;> rfl⟩ (zdR b) (List.prefix_refl _) hJ) ?_ (hs:=(.all _))
 rintro r1 K2 h3
 rcases h3 with ⟨c2,K2,hc2,rfl,⟨rfl,hJ2⟩ | ⟨rfl,hD⟩⟩
 ·refine au [] ?_
  refine TK.perm (K':=(jb,.cells (zE b s h e) 113 true)::(js,.cells (c2.map intA) 129 true)::(jy,.cells [.yl l] 207 true)::(jn,.cells [.fn 158 [] [.ptr jb 0,.ptr js 0,.ptr jy 0,.ptr jn 0]] 208 true)::(s,zk b)::(h,zB b)::(e,zq b)::K2) (by rw [lR]) ?_
  refine au [3] ?_
  refine TK.rt0 hret (_) ?_ (hs:=(.right (.right (.right (.right (.all _))))))
  exact ⟨_,rfl,.inl hJ2⟩
 ·refine au [] ?_
  refine TK.perm (K':=(jb,.cells (zE b s h e) 113 true)::(js,.cells (c2.map intA) 129 true)::(jy,.cells [.yl l] 207 true)::(jn,.cells [.fn 158 [] [.ptr jb 0,.ptr js 0,.ptr jy 0,.ptr jn 0]] 208 true)::(s,zk b)::(h,zB b)::(e,zq b)::K2) (by rw [lR]) ?_
  refine au [3] ?_
  refine TK.rt0 hret (_) ?_ (hs:=(.right (.right (.right (.right (.all _))))))
  exact ⟨_,rfl,.inr hD⟩
theorem zcQ (a b c d:Nat×AObj) {R:KV}:(a::b::c::d::R).Perm (b::c::d::a::R):=(List.perm_middle (l₁:=[b,c,d])).symm
theorem perm_4' (a b c d:Nat×AObj) {R:KV}:(b::c::d::a::R).Perm (a::b::c::d::R):=List.perm_middle (l₁:=[b,c,d])
theorem Kstep.perm {K K' K'':KV} {A A':List AObj} (h:Kstep K A K' A') (hp:K'.Perm K''):Kstep K A K'' A' :=
 ⟨h.view.sub fun x hx=>hp.symm.subset hx,(zT hp).nodup_iff.1 h.nd,fun i hi=>h.own i ((zT hp).symm.subset hi),h.kept,h.len⟩
theorem CallFK.perm {P:Program} {T:Goroutine->Hp->Prop} {gm:Nat->Option Nat} {yv:AV} {args:List AV} {K:KV} {Post Post':AV->KV->Prop} (h:CallFK P T gm yv args K Post) (hp:∀ r K',Post r K'->∃ K'',K'.Perm K''/\Post' r K''):CallFK P T gm yv args K Post' :=
 fun A hv hn=>(h A hv hn).mono fun r A' ⟨K',h1,h2⟩=>let ⟨K'',h3,h4⟩:=hp r K' h2; ⟨K'',h1.perm h3,h4⟩
section
variable {main:Bool} {T:Goroutine->Hp->Prop} {gm:Nat->Option Nat} {Y:KX tp gm T} {ds:List Nat} {k:List Item} {env:List AV} {K K0 R:KV}
theorem TK.rangeStates (hT:zo tp main T) {fo:Operand} {ps:Array Tmp} {x y:Code} {b:RBk} {s h e:Nat} (hb:ROk b) {J:List (List Int)->KV->Prop} {D:Code->KV->Prop} (hps:ps.size=1) (hro:Y.X.ro=none) (hf:zn gm env fo=some (.fn 130 [.agg (zE b s h e)] [])) (hs:Split K ((s,zk b)::(h,zB b)::(e,zq b)::K0) R) (hJ0:J [] K0)
  (round:∀ (Y':KX tp gm T) (l:Nat) (lo lb:AObj) (pre:List (List Int)) (S:List Int) (K1:KV),(∀ ds k env' K K',Upd K l lo l lb K'->TK Y' ds k env' K'->TK Y' ds (.beginRound::k) env' K) ->
   (∀ env' K' K2 D',Split K' ((l,lb)::(s,zk b)::(h,zB b)::(e,zq b)::K2) D'->J (pre++[S]) K2->TK Y' [] [] env' K') ->
   (∀ c k env' K' K2 D',Leave (some c) k->Split K' ((l,lb)::(s,zk b)::(h,zB b)::(e,zq b)::K2) D'->D c K2->TK Y' [] k env' K') ->
   pre++[S] <+: zf b->J pre K1->TK Y' [] [.code x,.beginRound,.code y] (putAll env (ps.toList.zip [.agg (stC S)])) ((l,lo)::(s,zk b)::(h,zB b)::(e,zq b)::K1))
  (hend:∀ d K2,J (zf b) K2->TK Y (d::ds) k env ((d,.raw (.deferred (some [])))::(s,zk b)::(h,zB b)::(e,zq b)::(K2++R)))
  (hstop:∀ d c K2,D c K2->TK Y (d::ds) (.code c::k) env ((d,.raw (.deferred (some [])))::(s,zk b)::(h,zB b)::(e,zq b)::(K2++R))):TK Y ds (.code (.rangeFunc fo ps x y)::k) env K:=by
 refine TK.rangeFunc (Post:=fun l _ K'=>∃ st pj K2,K'=(l,.loop Y.X.f env ps x y st pj)::(s,zk b)::(h,zB b)::(e,zq b)::K2/\((st=.ready/\pj=none/\J (zf b) K2)\/∃ c,st=.done/\pj=some c/\D c K2))
  (Q:=fun pj K'=>∃ K2,K'=(s,zk b)::(h,zB b)::(e,zq b)::K2/\((pj=none/\J (zf b) K2)\/∃ c,pj=some c/\D c K2)) hro hf Cal.h hs (fun l hl=>?_) ?_ ?_
 ·intro A hv hn
  have hp:((l,AObj.loop Y.X.f env ps x y .ready none)::(s,zk b)::(h,zB b)::(e,zq b)::K0).Perm ((s,zk b)::(h,zB b)::(e,zq b)::(l,.loop Y.X.f env ps x y .ready none)::K0):=zcQ _ _ _ _
  refine CallT.mono (zfr hT hb (l:=l) (J:=fun pre K=>∃ K3,K=(l,.loop Y.X.f env ps x y .ready none)::K3/\J pre K3) (D:=fun K=>∃ c K3,K=(l,.loop Y.X.f env ps x y .done (some c))::K3/\D c K3) ?_ ⟨K0,rfl,hJ0⟩ A (hv.sub fun x hx=>hp.symm.subset hx) ((zT hp).nodup_iff.1 hn)) ?_
  ·rintro pre S K1 hpre ⟨K3,rfl,hJ⟩
   refine CallFK.perm (Post:=fun r K'=>(r=zP true/\∃ K2,K'=(l,.loop Y.X.f env ps x y .ready none)::(s,zk b)::(h,zB b)::(e,zq b)::K2/\J (pre++[S]) K2)\/(r=zP false/\∃ c K2,K'=(l,.loop Y.X.f env ps x y .done (some c))::(s,zk b)::(h,zB b)::(e,zq b)::K2/\D c K2)) ?_ ?_
   ·refine zeF hT (i:=l) (f:=Y.X.f) (env:=env) (ps:=ps) (x:=x) (y:=y) sQ hps.symm fun Y' hro' hl' hret=>?_
    refine TK.perm (perm_4' _ _ _ _) ?_
    refine round Y' l (.loop Y.X.f env ps x y .ready none) (.loop Y.X.f env ps x y .busy none) pre S K3 (fun ds k env' K K' hu h=>TK.beginRound hro' hl' hu h) (fun env' K' K2 D' hsp hJ'=>?_) (fun c k env' K' K2 D' hlv hsp hD=>?_) hpre hJ
    ·exact TK.leave .fin fun A hA=>hret none env' K' ((s,zk b)::(h,zB b)::(e,zq b)::K2) D' .busy none hsp (.inl ⟨rfl,K2,rfl,hJ'⟩) A hA
    ·exact TK.leave hlv fun A hA=>hret (some c) env' K' ((s,zk b)::(h,zB b)::(e,zq b)::K2) D' .busy none hsp (.inr ⟨rfl,c,K2,rfl,hD⟩) A hA
   ·rintro r K' (⟨rfl,K2,rfl,h⟩ | ⟨rfl,c,K2,rfl,h⟩)
    ·exact ⟨_,zcQ _ _ _ _,_,rfl,.inl ⟨rfl,K2,rfl,h⟩⟩
    ·exact ⟨_,zcQ _ _ _ _,_,rfl,.inr ⟨rfl,c,K2,rfl,h⟩⟩
  ·rintro r A' ⟨K',hk,K2,rfl,hx⟩
   have hk2:∀ K'',((s,zk b)::(h,zB b)::(e,zq b)::K2).Perm K''->Kstep ((l,AObj.loop Y.X.f env ps x y .ready none)::(s,zk b)::(h,zB b)::(e,zq b)::K0) A K'' A':=fun K'' hp2 =>
    Kstep.perm ⟨hk.view,hk.nd,fun i hi=>(hk.own i hi).imp_left fun h=>(zT hp).symm.subset h,fun j h1 h2=>hk.kept j h1 fun h=>h2 ((zT hp).symm.subset h),hk.len⟩ hp2
   rcases hx with ⟨K3,rfl,h⟩ | ⟨c,K3,rfl,h⟩
   ·exact ⟨_,hk2 _ (perm_4' _ _ _ _),.ready,none,K3,rfl,.inl ⟨rfl,rfl,h⟩⟩
   ·exact ⟨_,hk2 _ (perm_4' _ _ _ _),.done,some c,K3,rfl,.inr ⟨c,rfl,rfl,h⟩⟩
 ·rintro l r K' ⟨st,pj,K2,rfl,h⟩
  refine ⟨st,pj,_,rfl,?_,K2,rfl,?_⟩
  ·rcases h with ⟨rfl,_⟩ | ⟨c,rfl,_⟩ <;> rfl
  ·rcases h with ⟨_,rfl,h⟩ | ⟨c,_,rfl,h⟩
   ·exact .inl ⟨rfl,h⟩
   ·exact .inr ⟨c,rfl,h⟩
 ·rintro d pj K' ⟨K2,rfl,⟨rfl,h⟩ | ⟨c,rfl,h⟩⟩
  ·exact hend d K2 h
  ·exact hstop d c K2 h
end
theorem zcF (n:Int):∀ k,(numsF n k).length=k
 | 0=>rfl
 | k+1=>by unfold numsF; rw [lZ,zcF (n+1) k]
theorem zcn {b:RBk}:∀ (r:List RBand) (p:List Int),(∀ x∈r,(numsM x).length<=3)->(fromM b p r).length<=3 ^ r.length
 | [],p,_=>by unfold fromM; split <;> simp
 | x::r,p,h=>by
  unfold fromM
  have h1:=h x sQ
  have key:∀ (l:List Int),(l.flatMap fun n=>fromM b (p++[n]) r).length<=l.length*3 ^ r.length:=fun l=>by
   induction l with
   | nil=>simp
   | cons a l ih =>
    rw [List.flatMap_cons,lF,lZ,Nat.succ_mul]
    have:=zcn (b:=b) r (p++[a]) fun y hy=>h y (by simp [hy])
    omega
  have h2:=key (numsM x)
  have h3:(numsM x).length*3 ^ r.length<=3*3 ^ r.length:=Nat.mul_le_mul_right _ h1
  rw [lZ,Nat.pow_succ]
  omega
theorem kf {b:RBk} (hb:ROk b):(zf b).length<=243:=by
 have h1:=zcn (b:=b) b.shrinks [] fun x hx=>by
  obtain ⟨i,hi,rfl⟩:=List.mem_iff_getElem.1 hx
  have hi2:i<b.seams.length:=by have:=hb.cls.len; omega
  have e:b.shrinks[i]=bd b i:=by have:=ko (b:=b) hi; rw [lA hi] at this; exact Option.some.inj this
  have:=hb.cls.bnd i hi2
  unfold numsM
  rw [zcF,e]
  omega
 have h2:3 ^ b.shrinks.length<=3 ^ 5:=Nat.pow_le_pow_right dQ (by have:=hb.cls.len; have:=hb.sms.len; omega)
 exact mT h1 h2
theorem zht {b:RBk} (hb:ROk b) {pre:List (List Int)} (h:pre <+: zf b):pre.length<=243:=mT h.length_le (kf hb)
theorem yS {α:Type} (f:α->List AV) (xs:List α) (x:α):(xs++[x]).flatMap f=xs.flatMap f++f x:=by rw [List.flatMap_append]; simp
abbrev allO (all:List (List Int)):AObj:=.cells (all.flatMap stC) 129 false
def knownC (b:RBk) (s h e a n:Nat):List AV:=[intA b.steps,intA b.round,intA b.roll,intA b.rolls,.sl s 0 b.seams.length,.sl h 0 b.shrinks.length,.sl e 0 b.measures.length,.sl a 0 n]
def z8R:List AV:=[intA 0,intA 0,intA 0,intA 0,.v (.slice none 0 0),.v (.slice none 0 0),.v (.slice none 0 0),.v (.slice none 0 0)]
theorem kE {x y:Int} (h:bar2 x y=0):x=0:=by
 unfold bar2 at h
 split at h
 ·rename_i h1; exact absurd h h1
 ·rename_i h1; simpa using h1
def KnownR (b:RBk) (s h e:Nat) (bar:Int) (K:KV) (r:AV) (K':KV):Prop :=
 (bar≠0/\r=.tup [.agg z8R,intA bar]/\K'=K)\/(bar=0/\zf b=[]/\r=.tup [.agg z8R,intA 9]/\K'=K)\/(bar=0/\zf b≠[]/\∃ a,r=.tup [.agg (knownC b s h e a (zf b).length),intA 0]/\K'=(a,allO (zf b))::K)
theorem zdP (a b c d e f:Nat×AObj) {R:KV}:((c::d::e::f::R)++[a,b]).Perm (c::d::e::f::a::b::R):=by
 have q:(R++[a,b]).Perm ([a,b]++R):=lH
 exact (((q.cons f).cons e).cons d).cons c
theorem zdQ (a b c d e f g:Nat×AObj) {R:KV}:((g::c::d::e::f::R)++[a,b]).Perm (g::c::d::e::f::a::b::R):=by
 have q:(R++[a,b]).Perm ([a,b]++R):=lH
 exact ((((q.cons f).cons e).cons d).cons c).cons g
instance:ApOf tp 137 129 5 40:={}
instance:BlOf tp 139 [(0,7),(7,1)]:={}
instance:Cal tp 148:={}
instance:Cal tp 164:={}
instance:Cal tp 90:={}
instance:zl tp 139 1 7 false 1:={}
instance:zF tp 137 129 5:={}
instance:zi tp 137 false 1:={}
instance:TyZ tp 129 [.int .i64 0,.int .i64 0,.int .i64 0,.int .i64 0,.int .i64 0]:={}
instance:TyZ tp 139 [.int .i64 0,.int .i64 0,.int .i64 0,.int .i64 0,.slice none 0 0,.slice none 0 0,.slice none 0 0,.slice none 0 0]:={}
instance:TyZA tp 139 [.v (.int .i64 0),.v (.int .i64 0),.v (.int .i64 0),.v (.int .i64 0),.v (.slice none 0 0),.v (.slice none 0 0),.v (.slice none 0 0),.v (.slice none 0 0)]:={}
instance:TyZA tp 4 [.v (.bool false)]:={}
instance:Und tp 137 (.slice 129):={}
theorem zdZ {main T} (hT:zo tp main T) {gm} {b:RBk} {s h e:Nat} (hb:ROk b) :
  zA tp T gm 115 [.agg (zE b s h e)] [(s,zk b),(h,zB b),(e,zq b)] (fun r K'=>r=zP (!(zf b).isEmpty)/\K'=[(s,zk b),(h,zB b),(e,zq b)]):=by
 refine vw 6 hT Tryz.func115 fun Y hro hret=>?_
 refine au [4,5,21] ?_
 intro jb hjb
 refine au [22] ?_
 intro jr hjr
 refine au [3,4,4,5,8,32,3,13] ?_
 refine TK.rangeStates hT hb (s:=s) (h:=h) (e:=e) (J:=fun pre K1=>K1=[(jr,.cells [zP false] 4 true),(jb,.cells (zE b s h e) 113 true)]/\pre=[]) (D:=fun c K1=>c=.ret/\zf b≠[]/\K1=[(jr,.cells [zP true] 4 true),(jb,.cells (zE b s h e) 113 true)]) rfl hro rfl (by repeat (first | exact Split.none _ | exact Split.all _ | (apply Split.rem; repeat (first | exact Rem.head | apply Rem.tail)) | apply Split.right)) ⟨rfl,rfl⟩ (fun Y' l lo lb pre S K1 hbegin hfin hout hpre hJ=>?_) (fun d K2 hJ=>?_) (fun d c K2 hD=>?_)
 ·obtain ⟨rfl,rfl⟩:=hJ
  refine au [12] ?_
  refine hbegin _ _ _ _ _ uQ ?_
  refine au [13,4,5,17,3] ?_
  exact hout _ _ _ _ [(jr,_),(jb,_)] _ (.ret _) (by repeat (first | exact Split.none _ | exact Split.all _ | (apply Split.rem; repeat (first | exact Rem.head | apply Rem.tail)) | apply Split.right)) ⟨rfl,fun e=>by rw [e] at hpre; exact absurd hpre.length_le sQ,rfl⟩
 ·obtain ⟨rfl,hJ⟩:=hJ
  simp only [cA]
  refine au [14,4,5,17,3] ?_
  refine TK.leave (.ret _) fun A hA=>hret _ _ _ _ ([(s,_),(h,_),(e,_),(jr,_)]) ([(s,_),(h,_),(e,_)]) _ _ _ (.inr rfl) (by repeat (first | exact Split.none _ | exact Split.all _ | (apply Split.rem; repeat (first | exact Rem.head | apply Rem.tail)) | apply Split.right)) sQ sQ (by repeat (first | exact Split.none _ | exact Split.all _ | (apply Split.rem; repeat (first | exact Rem.head | apply Rem.tail)) | apply Split.right)) (yB (yM Z zi.h mQ rfl)) ?_ A hA
  exact ⟨by rw [hJ]; rfl,rfl⟩
 ·obtain ⟨rfl,hD,rfl⟩:=hD
  simp only [cA]
  refine au [] ?_
  refine TK.leave (.ret _) fun A hA=>hret _ _ _ _ ([(s,_),(h,_),(e,_),(jr,_)]) ([(s,_),(h,_),(e,_)]) _ _ _ (.inr rfl) (by repeat (first | exact Split.none _ | exact Split.all _ | (apply Split.rem; repeat (first | exact Rem.head | apply Rem.tail)) | apply Split.right)) sQ sQ (by repeat (first | exact Split.none _ | exact Split.all _ | (apply Split.rem; repeat (first | exact Rem.head | apply Rem.tail)) | apply Split.right)) (yB (yM Z zi.h mQ rfl)) ?_ A hA
  exact ⟨by cases hh:zf b with | nil=>exact absurd hh hD | cons x r=>rfl,rfl⟩
theorem zb5 {main T} (hT:zo tp main T) {gm} {b:RBk} {s h e:Nat} (hb:ROk b) :
  zA tp T gm 164 [.v (.slice none 0 0),.fn 130 [.agg (zE b s h e)] []] [(s,zk b),(h,zB b),(e,zq b)] (fun r K'=>∃ j,r=.row j (zf b).length/\K'=[(s,zk b),(h,zB b),(e,zq b),(j,.row ((zf b).flatMap stC) 129 5)]):=by
 refine vw 13 hT Tryz.func164 fun Y hro hret=>?_
 refine au [4,5,21] ?_
 intro jl hjl
 refine TK.virtAt (i:=0) (e:=129) (size:=5) Z (fun _=>uQ) fun j0 hj0=>?_
 refine au [2,3,4,4,5,1,3,13] ?_
 refine TK.rangeStates hT hb (s:=s) (h:=h) (e:=e) (J:=fun pre K1=>∃ j,K1=[(jl,.cells [.row j pre.length] 137 true),(j,.row (pre.flatMap stC) 129 5)]) (D:=fun _ _=>False) rfl hro rfl (by repeat (first | exact Split.none _ | exact Split.all _ | (apply Split.rem; repeat (first | exact Rem.head | apply Rem.tail)) | apply Split.right)) ⟨j0,rfl⟩ (fun Y' l lo lb pre S K1 hbegin hfin hout hpre hJ=>?_) (fun d K2 hJ=>?_) (fun d c K2 hD=>?_)
 ·obtain ⟨j,rfl⟩:=hJ
  have hpl:=zht hb ((List.prefix_append _ _).trans hpre)
  have hfl:=yy stC 5 (fun _=>rfl) pre
  refine au [5,22] ?_
  intro j5 hj5
  refine au [17,3] ?_
  refine hbegin _ _ _ _ _ uQ ?_
  refine au [13,5,9,8] ?_
  refine TK.newR Z Z Z (zt (l:=[_,_,_,_,_]) Z zF.h TyZ.h dQ dQ Z) (fun _=>zu rfl tQ) fun j1 hj1=>?_
  refine TK.appR Z Z Z (a_app Z ApOf.h Z mQ oQ Z (yu (ln:=[_,_,_,_,_]) mQ dQ sQ Z) oQ Z (by unfold maxLen; omega) oQ) (fun _=>uQ) (fun _=>zu rfl tQ) fun j2=>?_
  refine au [17,3,14] ?_
  exact hfin _ _ [(jl,_),(j2,_)] _ (by repeat (first | exact Split.none _ | exact Split.all _ | (apply Split.rem; repeat (first | exact Rem.head | apply Rem.tail)) | apply Split.right)) ⟨j2,by rw [yS,lF] <;> rfl⟩
 ·obtain ⟨j,rfl⟩:=hJ
  simp only [cA]
  refine au [14,4,5,9,2,3] ?_
  refine TK.leave (.ret _) fun A hA=>hret _ _ _ _ ([(s,_),(h,_),(e,_),(j,_)]) ([(s,_),(h,_),(e,_),(j,_)]) _ _ _ (.inr rfl) (by repeat (first | exact Split.none _ | exact Split.all _ | (apply Split.rem; repeat (first | exact Rem.head | apply Rem.tail)) | apply Split.right)) sQ sQ (by repeat (first | exact Split.none _ | exact Split.all _ | (apply Split.rem; repeat (first | exact Rem.head | apply Rem.tail)) | apply Split.right)) (yB (zU Z)) ?_ A hA
  exact ⟨j,rfl,rfl⟩
 ·exact hD.elim
theorem wY {main T} (hT:zo tp main T) {gm} {b:RBk} {s h e:Nat} (hb:ROk b) :
  zA tp T gm 148 [.fn 130 [.agg (zE b s h e)] []] [(s,zk b),(h,zB b),(e,zq b)] (fun r K'=>∃ j,r=.row j (zf b).length/\K'=[(s,zk b),(h,zB b),(e,zq b),(j,.row ((zf b).flatMap stC) 129 5)]):=by
 refine zp 5 hT Tryz.func148 fun Y hret=>?_
 refine au [4,5,2,3,4,5,1] ?_
 refine TK.cl Z Z Z Z (zb5 hT hb) ?_
 rintro r1 K2 ⟨j,rfl,rfl⟩
 refine au [2,3] ?_
 refine TK.rt hret [(s,_),(h,_),(e,_),(j,_)] ?_
 exact ⟨j,rfl,rfl⟩
theorem wi {main:Bool} {T:Goroutine->Hp->Prop} (hT:zo tp main T)  {b:RBk} {s h e:Nat} {Kx:KV}  (hl:b.seams.length<=100) (hm:b.measures.length<=100) :
  zA tp T gmR 107 [.agg (zE b s h e),.v (.slice none 0 0)] ((0,zy)::(s,zk b)::(h,zB b)::(e,zq b)::Kx) (fun r K'=>KnownR b s h e (zr b) ((0,zy)::(s,zk b)::(h,zB b)::(e,zq b)::Kx) r K'):=by
 refine zp 30 hT Tryz.func107 fun Y hret=>?_
 refine au [4,5,21] ?_
 intro jb hjb
 refine au [22] ?_
 intro jr hjr
 refine au [2,3,4,5,8,1] ?_
 refine TK.cl Z Z Z Z (uf hT hl hm) ?_ (hs:=(.right (.right (.all _))))
 rintro r1 K2 h3
 rcases h3 with ⟨⟨hbar,rfl⟩ | ⟨hbar,rfl⟩,rfl⟩
 ·refine au [] ?_
  refine TK.perm (K':=(0,_)::(s,_)::(h,_)::(e,_)::(jr,_)::(jb,_)::Kx) (zdP _ _ _ _ _ _ ) ?_
  refine au [1,10,10,22] ?_
  intro j6 hj6
  refine au [17,2,3,4,4,5,1,6,3,20] ?_
  refine ⟨fun hc0=>?_,fun hc0=>?_⟩
  ·exact absurd hc0 sQ
  have hbb:=zZ (hbar)
  refine au [12,4] ?_
  refine TK.draw [0,1,2,3,4,5,6] [0,1,2,3,4,5,6] (by kernel_rfl) (by kernel_rfl) ?_
  refine TD.y [6] Z (hq:=z8 Z Z zi.h (mC _) Z) (h:=?_)
  refine TD.y [6] Z (hq:=z8 Z Z zi.h (mC _) Z) (h:=?_)
  refine TD.z [20] Z (ug Z Z Z) ?_
  refine TD.c2 (i1:=3) (i2:=5) (pend1:=[⟨1,[6],[(_,_)]⟩,⟨0,[6],[(_,_)]⟩]) (pend2:=[⟨2,[20],[]⟩,⟨1,[6],[(_,_)]⟩,⟨0,[6],[(_,_)]⟩]) (L1:=[4,5,6]) (L2:=[3,4,6]) [21] [] Z Z Z Z Z Z Z ?_ ?_
  ·refine we Z Z Cal.h Z (wY hT hbb) (.right (.right (.left (.left (.left (.none _)))))) fun r4 K5 h6=>⟨?_,?_⟩
   ·rcases h6 with ⟨a,rfl,rfl⟩
    all_goals simp
   obtain ⟨a,rfl,rfl⟩:=h6
   try simp only [cA]
   refine TD.norm (env':=[_,_,_,_,_,_,_,_,_,_,_,_,_,_,_,_,_,_,_,_,_,_,_,_,_,_,_,_,_,_]) Z ?_
   refine TD.z [19,22] Z (yD (l:=[_,_,_,_,_,_,_,_]) Z TyZ.h BlOf.h Z) ?_
   refine TD.cnewP (pend':=[⟨4,[19,22],[]⟩,⟨1,[6],[(_,_)]⟩,⟨0,[6],[(_,_)]⟩]) [] Z Z Z Z Z (yK Z TyZA.h) (fun _=>zu rfl tQ) sQ fun j8 hj8=>?_
   refine TD.s (pend':=[]) [8,23] Z Z (zX Z Z zi.h Z Z mQ Z) ?_
   refine TD.fin ?_
   refine au [4,4] ?_
   refine TK.unrowAt (c:=j8) (i:=7) (j:=a) Z mQ uQ ?_
   refine TK.frzRow (j:=a) ?_
   refine au [5,7,9,28,6,3,20] ?_
   refine ⟨fun hc1=>?_,fun hc1=>?_⟩
   ·have hnil:zf b=[]:=List.length_eq_zero_iff.1 (by have:=eq_of_beq hc1; omega)
    refine au [4,5,45,17,2,3] ?_
    refine TK.rt hret ((0,_)::(s,_)::(h,_)::(e,_)::Kx) ?_
    exact .inr (.inl ⟨hbar,hnil,rfl,rfl⟩)
   have hne:zf b≠[]:=fun e=>by rw [e] at hc1; simp at hc1
   refine au [12,4,5,8,17,2,3] ?_
   refine TK.rt hret ((a,_)::(0,_)::(s,_)::(h,_)::(e,_)::Kx) ?_
   exact .inr (.inr ⟨hbar,hne,a,rfl,rfl⟩)
  ·refine vl Z (yK Z TyZA.h) (fun _=>zu rfl tQ) sQ fun j8 hj8=>?_
   refine TD.cl (pend':=[⟨1,[6],[(_,_)]⟩,⟨0,[6],[(_,_)]⟩]) [21] Z Z Z Z Z (wY hT hbb) (fun r7 K8 h9=>⟨?_,?_⟩) (hs:=(.right (.right (.right (.left (.left (.left (.none _))))))))
   ·rcases h9 with ⟨a,rfl,rfl⟩
    all_goals simp
   obtain ⟨a,rfl,rfl⟩:=h9
   try simp only [cA]
   refine TD.norm tQ ?_
   refine TD.z [19,22] Z (yD (l:=[_,_,_,_,_,_,_,_]) Z TyZ.h BlOf.h Z) ?_
   refine TD.s (pend':=[]) [8,23] Z Z (zX Z Z zi.h Z Z mQ Z) ?_
   refine TD.fin ?_
   refine au [4,4] ?_
   refine TK.unrowAt (c:=j8) (i:=7) (j:=a) Z mQ uQ ?_
   refine TK.frzRow (j:=a) ?_
   refine au [5,7,9,28,6,3,20] ?_
   refine ⟨fun hc1=>?_,fun hc1=>?_⟩
   ·have hnil:zf b=[]:=List.length_eq_zero_iff.1 (by have:=eq_of_beq hc1; omega)
    refine au [4,5,45,17,2,3] ?_
    refine TK.rt hret ((0,_)::(s,_)::(h,_)::(e,_)::Kx) ?_
    exact .inr (.inl ⟨hbar,hnil,rfl,rfl⟩)
   have hne:zf b≠[]:=fun e=>by rw [e] at hc1; simp at hc1
   refine au [12,4,5,8,17,2,3] ?_
   refine TK.rt hret ((a,_)::(0,_)::(s,_)::(h,_)::(e,_)::Kx) ?_
   exact .inr (.inr ⟨hbar,hne,a,rfl,rfl⟩)
 ·refine au [] ?_
  refine TK.perm (K':=(0,_)::(s,_)::(h,_)::(e,_)::(jr,_)::(jb,_)::Kx) (zdP _ _ _ _ _ _ ) ?_
  refine au [1,10,10,22] ?_
  intro j6 hj6
  refine au [17,2,3,4,4,5,1,6,3,20] ?_
  refine ⟨fun hc0=>?_,fun hc0=>?_⟩
  ·
   refine au [4,5,45,1,17,2,3] ?_
   refine TK.rt hret ((0,_)::(s,_)::(h,_)::(e,_)::Kx) ?_
   exact .inl ⟨hbar,rfl,rfl⟩
  exact absurd hbar (by simpa using hc0)
theorem uH {main:Bool} {T:Goroutine->Hp->Prop} (hT:zo tp main T)  {b:RBk} {s h e:Nat} {Kx:KV} {ja:Nat} {f1:AV} {p1:Int} (hf1:zr b=0->CallFK tp T gmR f1 [.agg (zE b s h e)] ((s,zk b)::Kx) (fun r K'=>r=intA p1/\K'=(s,zk b)::Kx)) (hl:b.seams.length<=100) (hm:b.measures.length<=100) :
  zA tp T gmR 107 [.agg (zE b s h e),.row ja 1] ((ja,.row [f1] 116 1)::(0,zy)::(s,zk b)::(h,zB b)::(e,zq b)::Kx) (fun r K'=>KnownR b s h e (bar2 (zr b) p1) ((ja,.row [f1] 116 1)::(0,zy)::(s,zk b)::(h,zB b)::(e,zq b)::Kx) r K'):=by
 refine zp 30 hT Tryz.func107 fun Y hret=>?_
 refine au [4,5,21] ?_
 intro jb hjb
 refine au [22] ?_
 intro jr hjr
 refine au [2,3,4,5,8,1] ?_
 refine TK.cl Z Z Z Z (wZ hT hl hm hf1) ?_ (hs:=(.right (.right (.all _))))
 rintro r1 K2 h3
 rcases h3 with ⟨⟨hbar,rfl⟩ | ⟨hbar,rfl⟩,rfl⟩
 ·refine au [] ?_
  refine TK.perm (K':=(ja,_)::(0,_)::(s,_)::(h,_)::(e,_)::(jr,_)::(jb,_)::Kx) (zdQ _ _ _ _ _ _ _) ?_
  refine au [1,10,10,22] ?_
  intro j6 hj6
  refine au [17,2,3,4,4,5,1,6,3,20] ?_
  refine ⟨fun hc0=>?_,fun hc0=>?_⟩
  ·exact absurd hc0 sQ
  have hbb:=zZ (kE hbar)
  refine au [12,4] ?_
  refine TK.draw [0,1,2,3,4,5,6] [0,1,2,3,4,5,6] (by kernel_rfl) (by kernel_rfl) ?_
  refine TD.y [6] Z (hq:=z8 Z Z zi.h (mC _) Z) (h:=?_)
  refine TD.y [6] Z (hq:=z8 Z Z zi.h (mC _) Z) (h:=?_)
  refine TD.z [20] Z (ug Z Z Z) ?_
  refine TD.c2 (i1:=3) (i2:=5) (pend1:=[⟨1,[6],[(_,_)]⟩,⟨0,[6],[(_,_)]⟩]) (pend2:=[⟨2,[20],[]⟩,⟨1,[6],[(_,_)]⟩,⟨0,[6],[(_,_)]⟩]) (L1:=[4,5,6]) (L2:=[3,4,6]) [21] [] Z Z Z Z Z Z Z ?_ ?_
  ·refine we Z Z Cal.h Z (wY hT hbb) (.right (.right (.right (.left (.left (.left (.none _))))))) fun r4 K5 h6=>⟨?_,?_⟩
   ·rcases h6 with ⟨a,rfl,rfl⟩
    all_goals simp
   obtain ⟨a,rfl,rfl⟩:=h6
   try simp only [cA]
   refine TD.norm (env':=[_,_,_,_,_,_,_,_,_,_,_,_,_,_,_,_,_,_,_,_,_,_,_,_,_,_,_,_,_,_]) Z ?_
   refine TD.z [19,22] Z (yD (l:=[_,_,_,_,_,_,_,_]) Z TyZ.h BlOf.h Z) ?_
   refine TD.cnewP (pend':=[⟨4,[19,22],[]⟩,⟨1,[6],[(_,_)]⟩,⟨0,[6],[(_,_)]⟩]) [] Z Z Z Z Z (yK Z TyZA.h) (fun _=>zu rfl tQ) sQ fun j8 hj8=>?_
   refine TD.s (pend':=[]) [8,23] Z Z (zX Z Z zi.h Z Z mQ Z) ?_
   refine TD.fin ?_
   refine au [4,4] ?_
   refine TK.unrowAt (c:=j8) (i:=7) (j:=a) Z mQ uQ ?_
   refine TK.frzRow (j:=a) ?_
   refine au [5,7,9,28,6,3,20] ?_
   refine ⟨fun hc1=>?_,fun hc1=>?_⟩
   ·have hnil:zf b=[]:=List.length_eq_zero_iff.1 (by have:=eq_of_beq hc1; omega)
    refine au [4,5,45,17,2,3] ?_
    refine TK.rt hret ((ja,_)::(0,_)::(s,_)::(h,_)::(e,_)::Kx) ?_
    exact .inr (.inl ⟨hbar,hnil,rfl,rfl⟩)
   have hne:zf b≠[]:=fun e=>by rw [e] at hc1; simp at hc1
   refine au [12,4,5,8,17,2,3] ?_
   refine TK.rt hret ((a,_)::(ja,_)::(0,_)::(s,_)::(h,_)::(e,_)::Kx) ?_
   exact .inr (.inr ⟨hbar,hne,a,rfl,rfl⟩)
  ·refine vl Z (yK Z TyZA.h) (fun _=>zu rfl tQ) sQ fun j8 hj8=>?_
   refine TD.cl (pend':=[⟨1,[6],[(_,_)]⟩,⟨0,[6],[(_,_)]⟩]) [21] Z Z Z Z Z (wY hT hbb) (fun r7 K8 h9=>⟨?_,?_⟩) (hs:=(.right (.right (.right (.right (.left (.left (.left (.none _)))))))))
   ·rcases h9 with ⟨a,rfl,rfl⟩
    all_goals simp
   obtain ⟨a,rfl,rfl⟩:=h9
   try simp only [cA]
   refine TD.norm tQ ?_
   refine TD.z [19,22] Z (yD (l:=[_,_,_,_,_,_,_,_]) Z TyZ.h BlOf.h Z) ?_
   refine TD.s (pend':=[]) [8,23] Z Z (zX Z Z zi.h Z Z mQ Z) ?_
   refine TD.fin ?_
   refine au [4,4] ?_
   refine TK.unrowAt (c:=j8) (i:=7) (j:=a) Z mQ uQ ?_
   refine TK.frzRow (j:=a) ?_
   refine au [5,7,9,28,6,3,20] ?_
   refine ⟨fun hc1=>?_,fun hc1=>?_⟩
   ·have hnil:zf b=[]:=List.length_eq_zero_iff.1 (by have:=eq_of_beq hc1; omega)
    refine au [4,5,45,17,2,3] ?_
    refine TK.rt hret ((ja,_)::(0,_)::(s,_)::(h,_)::(e,_)::Kx) ?_
    exact .inr (.inl ⟨hbar,hnil,rfl,rfl⟩)
   have hne:zf b≠[]:=fun e=>by rw [e] at hc1; simp at hc1
   refine au [12,4,5,8,17,2,3] ?_
   refine TK.rt hret ((a,_)::(ja,_)::(0,_)::(s,_)::(h,_)::(e,_)::Kx) ?_
   exact .inr (.inr ⟨hbar,hne,a,rfl,rfl⟩)
 ·refine au [] ?_
  refine TK.perm (K':=(ja,_)::(0,_)::(s,_)::(h,_)::(e,_)::(jr,_)::(jb,_)::Kx) (zdQ _ _ _ _ _ _ _) ?_
  refine au [1,10,10,22] ?_
  intro j6 hj6
  refine au [17,2,3,4,4,5,1,6,3,20] ?_
  refine ⟨fun hc0=>?_,fun hc0=>?_⟩
  ·
   refine au [4,5,45,1,17,2,3] ?_
   refine TK.rt hret ((ja,_)::(0,_)::(s,_)::(h,_)::(e,_)::Kx) ?_
   exact .inl ⟨hbar,rfl,rfl⟩
  exact absurd hbar (by simpa using hc0)
section
variable {P:Program} {main:Bool} {k:List Item}
theorem zgw {kd:CallKind} {f:FuncId} {ro:Option Nat} {ts:Array Value} {ds:List Deferred} {cs:List Frame} {w:World} {c:Code}:stepG P main (G (fr kd f ro ts ds (.code (.scope c)::k)) cs) w=.go (G (fr kd f ro ts ds (.code c::.inScope c::k)) cs) w #[]:=by simp [G,stepG,stepG.exec,fr]
theorem zex {kd:CallKind} {f:FuncId} {ro:Option Nat} {ts:Array Value} {ds:List Deferred} {cs:List Frame} {w:World} {c:Code}:stepG P main (G (fr kd f ro ts ds (.inScope c::k)) cs) w=.go (G (fr kd f ro ts ds k) cs) w #[]:=by simp [G,stepG,stepG.exec,fr]
end
section
variable {P:Program} {gm:Nat->Option Nat} {T:Goroutine->Hp->Prop} {Y:KX P gm T} {ds:List Nat} {k:List Item} {env:List AV} {K:KV}
theorem TK.scope {c:Code} (h:TK Y ds (.code c::.inScope c::k) env K):TK Y ds (.code (.scope c)::k) env K:=fun A hA φ H ts h1 h2 h3 h4 h5 h6=>Y.X.hT.ctlF rfl (fun _=>zgw) rfl (h A hA φ H ts h1 h2 h3 h4 h5 h6)
theorem TK.inScope {c:Code} (h:TK Y ds k env K):TK Y ds (.inScope c::k) env K:=fun A hA φ H ts h1 h2 h3 h4 h5 h6=>Y.X.hT.ctlF rfl (fun _=>zex) rfl (h A hA φ H ts h1 h2 h3 h4 h5 h6)
end
theorem wF {o:Option (List Int×Int)} {K:KV} {r:AV} {K':KV} (h:HangR o K r K'):(o=none/\r=.tup [.agg [.v (.slice none 0 0),intA 0],zP false]/\K'=K)\/∃ w q jw,o=some (w,q)/\r=.tup [.agg [.sl jw 0 w.length,intA q],zP true]/\K'=(jw,.cells (w.map intA) 3 false)::K:=by
 cases o with
 | none=>exact .inl ⟨rfl,h⟩
 | some z=>obtain ⟨jw,h1,h2⟩:=h; exact .inr ⟨z.1,z.2,jw,rfl,h1,h2⟩
def wayC (p:Nat×Nat×Int):List AV:=[.sl p.1 0 p.2.1,intA p.2.2]
theorem zaJ {all:List (List Int)} {i:Nat} {st:List Int} {n:Int} {e:TypeId} {rw':Bool} (h:all[i]? =some st) (hn:n=(i:Int)):takeO (.cells (all.flatMap stC) e rw') (0+n.toNat*5) 5=some (stC st):=w9 (c:=5) (fun _=>rfl) h hn dQ
theorem zbX {b:RBk} {all:List (List Int)} {l st:List Int} {i:Nat} (h:all[i]? =some st) (hh:hangM b l st=none):waysM b (all.take (i+1)) l=waysM b (all.take i) l:=by
 unfold waysM
 rw [yP h,List.filterMap_append]
 simp [hh]
theorem zbY {b:RBk} {all:List (List Int)} {l st w:List Int} {q:Int} {i:Nat} (h:all[i]? =some st) (hh:hangM b l st=some (w,q)):waysM b (all.take (i+1)) l=waysM b (all.take i) l++[(w,q)]:=by
 unfold waysM
 rw [yP h,List.filterMap_append]
 simp [hh]
theorem zd1 (b:RBk) (all:List (List Int)) (l:List Int):(waysM b all l).length<=all.length:=List.length_filterMap_le _ _
theorem zdy (x:Int) (r:List Int) (y:Int):spreadM (x::(r++[y]))=(min (spreadM (x::r)).1 y,max (spreadM (x::r)).2 y):=by
 unfold spreadM
 dsimp only
 rw [List.foldl_append,List.foldl_append]
 rfl
def sqOk (b:RBk) (all:List (List Int)) (l:List Int):Bool:=(squaresM b all l).isSome
def sqLo (b:RBk) (all:List (List Int)) (l:List Int):Int:=((squaresM b all l).getD (0,0)).1
def sqHi (b:RBk) (all:List (List Int)) (l:List Int):Int:=((squaresM b all l).getD (0,0)).2
theorem kD {l:List Int} {i p:Nat} {x:Int} {e:TypeId} {s:Nat} (h:l[i]? =some x) (hp:p=i):takeO (.row (l.map intA) e s) p 1=some [intA x]:=by
 subst hp
 have:=zag (e:=e) (s:=s) h rfl
 simpa using this
instance:ApOf tp 175 125 2 32:={}
instance:BlOf tp 51 [(0,1),(1,1)]:={}
instance:Cal tp 100:={}
instance:Cal tp 118:={}
instance:Cal tp 134:={}
instance:Cal tp 138:={}
instance:Cal tp 156:={}
instance:Cal tp 185:={}
instance:Cal tp 216:={}
instance:zl tp 143 0 0 false 1:={}
instance:zl tp 143 1 1 false 1:={}
instance:zF tp 175 125 2:={}
instance:TyZ tp 51 [.int .i64 0,.int .i64 0]:={}
instance:Und tp 175 (.slice 125):={}
theorem zd2 {main T} (hT:zo tp main T) {gm} {b:RBk} {s h e a j:Nat} {l:List Int} {all:List (List Int)} {et:TypeId} (hb:ROk b) (hl:CutsOk b l) (ha:okAll b all) (hn:all.length<=243) :
  zA tp T gm 138 [.agg (knownC b s h e a all.length),.sl j 0 l.length] [(s,zk b),(a,allO all),(j,.cells (l.map intA) et false)] (fun r K'=>∃ (jr:Nat) (ps:List (Nat×Nat×Int)),ps.map (·.2.2)=(waysM b all l).map (·.2)/\r=.row jr ps.length/\K'=[(jr,.row (ps.flatMap wayC) 125 2),(s,zk b),(a,allO all),(j,.cells (l.map intA) et false)]):=by
 refine zp 35 hT Tryz.func138 fun Y hret=>?_
 refine au [4,5,21] ?_
 intro jb hjb
 refine au [2,3] ?_
 refine TK.scope ?_
 refine au [4,5,2] ?_
 refine TK.virt 5 125 2 Z fun jr0 hjr0=>?_
 refine au [3,4,15,4,4,5,7,9,28,1,3,13] ?_
 refine TK.maskL [1,2,4,5,11,12] ?_
 refine TK.kp [(s,_),(a,_),(j,_),(jr0,_),(jb,_)] ?_
 refine TK.loopN (fun n env K=>∃ (i jr:Nat) (ps:List (Nat×Nat×Int)),n=all.length - i/\i<=all.length/\ps.map (·.2.2)=(waysM b (all.take i) l).map (·.2)/\env=.any::.sl j 0 l.length::.ptr jb 0::.any::.v (.slice none 0 0)::.row jr ps.length::naL 5 (intA all.length::intA i::naL 22 [])/\K=[(s,zk b),(a,allO all),(j,.cells (l.map intA) et false),(jr,.row (ps.flatMap wayC) 125 2),(jb,.cells (knownC b s h e a all.length) 139 true)]) all.length ⟨0,jr0,[],rfl,mN _,rfl,rfl,rfl⟩ fun n env K hI hnext=>?_
 obtain ⟨i,jr,ps,rfl,hi,hps,rfl,rfl⟩:=hI
 have hpl:ps.length<=i:=by have:=congrArg List.length hps; rw [lJ,lJ] at this; have h2:=zd1 b (all.take i) l; rw [List.length_take] at h2; omega
 have hfl:=yy wayC 2 (fun _=>rfl) ps
 refine TK.na nQ ?_
 refine au [4,5,6,3,4,20] ?_
 refine ⟨fun hc0=>?_,fun hc0=>?_⟩
 ·have hil:i<all.length:=by simp at hc0; omega
  obtain ⟨st,hst⟩:∃ st,all[i]? =some st:=⟨_,lA hil⟩
  have hsk:=ha st (lN hst)
  refine au [12,4,13,4,5,1,2,3,4] ?_
  refine TK.draw [0,1,2,3,4,5,6,7,8,9,10,11,12,13,14] [0,1,2,3,4,5,6,7,8,9,10,12,13,11,14] (by kernel_rfl) (by kernel_rfl) ?_
  refine TD.z [2] Z (zg Z Z zl.h dQ) ?_
  refine TD.y [16] Z (hq:=z8 Z Z zi.h (mC _) Z) (h:=?_)
  refine TD.z [1] Z (zh Z Z) ?_
  refine TD.z [2] Z (zg Z Z zl.h dQ) ?_
  refine TD.y [19] Z (hq:=zm Z Z zi.h (mC _) Z) (h:=?_)
  refine TD.z [6] Z (zh Z Z) ?_
  refine TD.z [20,21] Z (zQ Z Z Z zF.h oQ oQ) ?_
  refine TD.y [22] Z (hq:=z8 Z Z zi.h (mC _) (zaJ (i:=i) hst Z)) (h:=?_)
  refine TD.c2 (i1:=8) (i2:=12) (pend1:=[⟨6,[20,21],[]⟩,⟨5,[6],[]⟩,⟨4,[19],[(_,_)]⟩,⟨3,[2],[]⟩,⟨0,[2],[]⟩]) (pend2:=[⟨7,[22],[(_,_)]⟩,⟨6,[20,21],[]⟩,⟨5,[6],[]⟩,⟨4,[19],[(_,_)]⟩,⟨3,[2],[]⟩,⟨2,[1],[]⟩,⟨1,[16],[(_,_)]⟩,⟨0,[2],[]⟩]) (L1:=[9,10,11,12,13,14]) (L2:=[8,9,10,11,13,14]) [17,18,23] [] Z Z Z Z Z Z Z ?_ ?_
  ·refine we Z Z Cal.h Z ((vc hT hb hl hsk).mono (fun _ _ h=>wF h)) (by repeat (first | exact Split.none _ | exact Split.all _ | (apply Split.rem; repeat (first | exact Rem.head | apply Rem.tail)) | apply Split.right)) fun r1 K2 h3=>⟨?_,?_⟩
   ·rcases h3 with ⟨hno,rfl,rfl⟩ | ⟨w,q,jw,hso,rfl,rfl⟩
    all_goals simp
   rcases h3 with ⟨hno,rfl,rfl⟩ | ⟨w,q,jw,hso,rfl,rfl⟩
   ·try simp only [cA]
    refine TD.norm (env':=[_,_,_,_,_,_,_,_,_,_,_,_,_,_,_,_,_,_,_,_,_,_,_,_,_,_,_,_,_,_,_,_,_,_,_]) Z ?_
    refine TD.z [24] Z (zh Z Z) ?_
    refine TD.z [15] Z (ye Z Z Z) ?_
    refine TD.z [15] Z (ye Z Z Z) ?_
    refine TD.cnewP (pend':=[⟨11,[15],[]⟩,⟨10,[15],[]⟩,⟨9,[24],[]⟩,⟨6,[20,21],[]⟩,⟨5,[6],[]⟩,⟨4,[19],[(_,_)]⟩,⟨3,[2],[]⟩,⟨0,[2],[]⟩]) [] Z Z Z Z Z (yK Z TyZA.h) (fun _=>zu rfl tQ) sQ fun j7 hj7=>?_
    refine TD.s (pend':=[⟨11,[15],[]⟩]) [7,25] Z Z (zX Z Z zi.h Z Z mQ Z) ?_
    refine TD.as (pend':=[]) [26] Z Z (zD Z Z) ?_
    refine TD.fin ?_
    refine au [4,4,5,1,30,3,20] ?_
    refine ⟨fun hc1=>?_,fun hc1=>?_⟩
    ·
     refine au [16,5,23,1,3] ?_
     refine TK.maskL [1,2,4,5,11,12] ?_
     refine TK.kp [(s,_),(a,_),(j,_),(jr,_),(jb,_)] ?_
     exact hnext _ _ _ oQ ⟨i+1,jr,ps,rfl,by omega,by rw [zbX hst hno]; exact hps,rfl,rfl⟩
    exact absurd hc1 dQ
   ·try simp only [cA]
    refine TD.norm (env':=[_,_,_,_,_,_,_,_,_,_,_,_,_,_,_,_,_,_,_,_,_,_,_,_,_,_,_,_,_,_,_,_,_,_,_]) Z ?_
    refine TD.z [24] Z (zh Z Z) ?_
    refine TD.z [15] Z (ye Z Z Z) ?_
    refine TD.z [15] Z (ye Z Z Z) ?_
    refine TD.cnewP (pend':=[⟨11,[15],[]⟩,⟨10,[15],[]⟩,⟨9,[24],[]⟩,⟨6,[20,21],[]⟩,⟨5,[6],[]⟩,⟨4,[19],[(_,_)]⟩,⟨3,[2],[]⟩,⟨0,[2],[]⟩]) [] Z Z Z Z Z (yK Z TyZA.h) (fun _=>zu rfl tQ) sQ fun j7 hj7=>?_
    refine TD.s (pend':=[⟨11,[15],[]⟩]) [7,25] Z Z (zX Z Z zi.h Z Z mQ Z) ?_
    refine TD.as (pend':=[]) [26] Z Z (zD Z Z) ?_
    refine TD.fin ?_
    refine au [4,4,5,1,30,3,20] ?_
    refine ⟨fun hc1=>?_,fun hc1=>?_⟩
    ·exact absurd hc1 dQ
    refine au [12,5,1,8] ?_
    refine TK.newR Z Z Z (zt (l:=[_,_]) Z zF.h TyZ.h dQ dQ Z) (fun _=>zu rfl tQ) fun j4 hj4=>?_
    refine TK.appR Z Z Z (a_app Z ApOf.h Z mQ oQ Z (yu (ln:=[_,_]) mQ dQ sQ Z) oQ Z (by unfold maxLen; omega) oQ) (fun _=>uQ) (fun _=>zu rfl tQ) fun jr2=>?_
    refine au [2,3,14,5,23,1,3] ?_
    refine TK.maskL [1,2,4,5,11,12] ?_
    refine TK.kp [(s,_),(a,_),(j,_),(jr2,_),(jb,_)] ?_
    exact hnext _ _ _ oQ ⟨i+1,jr2,ps++[(jw,w.length,q)],rfl,by omega,by rw [zbY hst hso,lM,lM,hps]; rfl,by rw [lF]; rfl,by rw [yS]; rfl⟩
  ·refine vl Z (yK Z TyZA.h) (fun _=>zu rfl tQ) sQ fun j7 hj7=>?_
   refine TD.cl (pend':=[⟨6,[20,21],[]⟩,⟨5,[6],[]⟩,⟨4,[19],[(_,_)]⟩,⟨3,[2],[]⟩,⟨0,[2],[]⟩]) [17,18,23] Z Z Z Z Z ((vc hT hb hl hsk).mono (fun _ _ h=>wF h)) (fun r5 K6 h7=>⟨?_,?_⟩)
   ·rcases h7 with ⟨hno,rfl,rfl⟩ | ⟨w,q,jw,hso,rfl,rfl⟩
    all_goals simp
   rcases h7 with ⟨hno,rfl,rfl⟩ | ⟨w,q,jw,hso,rfl,rfl⟩
   ·try simp only [cA]
    refine TD.norm tQ ?_
    refine TD.z [24] Z (zh Z Z) ?_
    refine TD.z [15] Z (ye Z Z Z) ?_
    refine TD.z [15] Z (ye Z Z Z) ?_
    refine TD.s (pend':=[⟨11,[15],[]⟩]) [7,25] Z Z (zX Z Z zi.h Z Z mQ Z) ?_
    refine TD.as (pend':=[]) [26] Z Z (zD Z Z) ?_
    refine TD.fin ?_
    refine au [4,4,5,1,30,3,20] ?_
    refine ⟨fun hc1=>?_,fun hc1=>?_⟩
    ·
     refine au [16,5,23,1,3] ?_
     refine TK.maskL [1,2,4,5,11,12] ?_
     refine TK.kp [(s,_),(a,_),(j,_),(jr,_),(jb,_)] ?_
     exact hnext _ _ _ oQ ⟨i+1,jr,ps,rfl,by omega,by rw [zbX hst hno]; exact hps,rfl,rfl⟩
    exact absurd hc1 dQ
   ·try simp only [cA]
    refine TD.norm tQ ?_
    refine TD.z [24] Z (zh Z Z) ?_
    refine TD.z [15] Z (ye Z Z Z) ?_
    refine TD.z [15] Z (ye Z Z Z) ?_
    refine TD.s (pend':=[⟨11,[15],[]⟩]) [7,25] Z Z (zX Z Z zi.h Z Z mQ Z) ?_
    refine TD.as (pend':=[]) [26] Z Z (zD Z Z) ?_
    refine TD.fin ?_
    refine au [4,4,5,1,30,3,20] ?_
    refine ⟨fun hc1=>?_,fun hc1=>?_⟩
    ·exact absurd hc1 dQ
    refine au [12,5,1,8] ?_
    refine TK.newR Z Z Z (zt (l:=[_,_]) Z zF.h TyZ.h dQ dQ Z) (fun _=>zu rfl tQ) fun j8 hj8=>?_
    refine TK.appR Z Z Z (a_app Z ApOf.h Z mQ oQ Z (yu (ln:=[_,_]) mQ dQ sQ Z) oQ Z (by unfold maxLen; omega) oQ) (fun _=>uQ) (fun _=>zu rfl tQ) fun jr2=>?_
    refine au [2,3,14,5,23,1,3] ?_
    refine TK.maskL [1,2,4,5,11,12] ?_
    refine TK.kp [(s,_),(a,_),(j,_),(jr2,_),(jb,_)] ?_
    exact hnext _ _ _ oQ ⟨i+1,jr2,ps++[(jw,w.length,q)],rfl,by omega,by rw [zbY hst hso,lM,lM,hps]; rfl,by rw [lF]; rfl,by rw [yS]; rfl⟩
 obtain rfl:i=all.length:=by simp at hc0; omega
 refine au [16,4,5,1,2,3] ?_
 refine TK.rt hret [(jr,_),(s,_),(a,_),(j,_)] ?_
 exact ⟨jr,ps,by rw [hps,lW],rfl,rfl⟩
theorem zbV {main T} (hT:zo tp main T) {gm} {j off:Nat} {ob:AObj} {x:Int} {xs:List Int} (hI:∀ (i:Nat) (y:Int),xs[i]? =some y->takeO ob (off+(i:Int).toNat*1) 1=some [intA y]) (hl:xs.length<=1000) :
  zA tp T gm 134 [intA x,.sl j off xs.length] [(j,ob)] (fun r K'=>r=.agg [intA (spreadM (x::xs)).1,intA (spreadM (x::xs)).2]/\K'=[(j,ob)]):=by
 refine zp 27 hT Tryz.func134 fun Y hret=>?_
 refine au [4,5,22] ?_
 intro jr hjr
 refine au [3,4,5,1,1,2,2,3,4,4,5,1,28,1,3,13] ?_
 refine TK.maskL [4,5,6,11,12,13] ?_
 refine TK.kp [(j,_),(jr,_)] ?_
 refine TK.loopN (fun n env K=>∃ (i:Nat),n=xs.length - i/\i<=xs.length/\env=naL 4 (.ptr jr 0::intA (spreadM (x::xs.take i)).1::intA (spreadM (x::xs.take i)).2::naL 4 (.sl j off xs.length::intA xs.length::intA i::naL 13 []))/\K=[(j,ob),(jr,.cells [intA 0,intA 0] 51 true)]) xs.length ⟨0,rfl,mN _,rfl,rfl⟩ fun n env K hI' hnext=>?_
 obtain ⟨i,rfl,hi,rfl,rfl⟩:=hI'
 refine TK.na nQ ?_
 refine au [4,5,6,3,4,20] ?_
 refine ⟨fun hc0=>?_,fun hc0=>?_⟩
 ·have hil:i<xs.length:=by simp at hc0; omega
  obtain ⟨y,hy⟩:∃ y,xs[i]? =some y:=⟨_,lA hil⟩
  refine au [12,4,13,4,5,36] ?_
  refine TK.a Z (zm Z Z zi.h mQ (hI i y hy)) ?_
  refine au [2,3,5,1,1] ?_
  refine TK.a Z (zcZ Z Z Z) ?_
  refine au [1,1] ?_
  refine TK.a Z (zcY Z Z Z) ?_
  refine au [2,2,3,14,5,23,1,3] ?_
  refine TK.maskL [4,5,6,11,12,13] ?_
  refine TK.kp [(j,_),(jr,_)] ?_
  exact hnext _ _ _ oQ ⟨i+1,rfl,by omega,by rw [yP hy,zdy]; rfl,rfl⟩
 obtain rfl:i=xs.length:=by simp at hc0; omega
 refine au [16,4,5,1,1,39,17,3] ?_
 refine TK.rt hret [(j,_)] ?_
 exact ⟨by rw [lW]; rfl,rfl⟩
theorem za6 {main T} (hT:zo tp main T) {gm} {b:RBk} {s h e a j:Nat} {l:List Int} {all:List (List Int)} {et:TypeId} (hb:ROk b) (hl:CutsOk b l) (ha:okAll b all) (hn:all.length<=243) (h0:0<all.length) :
  zA tp T gm 135 [.agg (knownC b s h e a all.length),.sl j 0 l.length] [(j,.cells (l.map intA) et false),(s,zk b),(a,allO all)] (fun r K'=>r=.tup [.agg [intA (sqLo b all l),intA (sqHi b all l)],zP (sqOk b all l)]/\K'=[(j,.cells (l.map intA) et false),(s,zk b),(a,allO all)]):=by
 refine zp 38 hT Tryz.func135 fun Y hret=>?_
 refine au [4,5,21] ?_
 intro jb hjb
 refine au [22] ?_
 intro jr0 hjr0
 refine au [2,3,4,5,8,1] ?_
 refine TK.cl Z Z Z Z (zd2 hT hb hl ha hn) ?_
 rintro r1 K2 ⟨jr,ps,hps,rfl,rfl⟩
 refine au [] ?_
 have hpl:ps.length=(waysM b all l).length:=by have:=congrArg List.length hps; rwa [lJ,lJ] at this
 have hwl:=zd1 b all l
 refine au [2,3,4,4,5,1,28,7,9,28,6,3,20] ?_
 refine ⟨fun hc0=>?_,fun hc0=>?_⟩
 ·refine au [4,5,39,17,2,3] ?_
  refine TK.rt hret [(j,_),(s,_),(a,_)] ?_
  have hlt:(waysM b all l).length<all.length:=by rw [<- hpl]; simp at hc0; omega
  exact ⟨by unfold sqLo sqHi sqOk squaresM; rw [if_pos hlt]; rfl,rfl⟩
 have hge:¬ ps.length<all.length:=by simp at hc0; omega
 refine au [12,4,5,2] ?_
 refine TK.virt 7 3 1 Z fun jt0 hjt0=>?_
 refine au [3,4,4,5,1,28,1,3,13] ?_
 refine TK.maskL [2,4,5,7,20,21,22] ?_
 refine TK.kp [(jr,_),(s,_),(a,_),(j,_),(jt0,_),(jb,_),(jr0,_)] ?_
 refine TK.loopN (fun n env K=>∃ (i jt:Nat),n=ps.length - i/\i<=ps.length/\env=naL 2 (.ptr jb 0::.any::.ptr jr0 0::zP false::.any::.row jt i::naL 12 (.row jr ps.length::intA ps.length::intA i::naL 15 []))/\K=[(jr,.row (ps.flatMap wayC) 125 2),(s,zk b),(a,allO all),(j,.cells (l.map intA) et false),(jt,.row (((ps.map (·.2.2)).take i).map intA) 3 1),(jb,.cells (knownC b s h e a all.length) 139 true),(jr0,.cells [intA 0,intA 0] 51 true)]) ps.length ⟨0,jt0,rfl,mN _,rfl,rfl⟩ fun n env K hI hnext=>?_
 obtain ⟨i,jt,rfl,hi,rfl,rfl⟩:=hI
 refine TK.na nQ ?_
 refine au [4,5,6,3,4,20] ?_
 refine ⟨fun hc1=>?_,fun hc1=>?_⟩
 ·have hil:i<ps.length:=by simp at hc1; omega
  obtain ⟨p,hp⟩:∃ p,ps[i]? =some p:=⟨_,lA hil⟩
  refine au [12,4,13,4,5,37] ?_
  refine TK.a Z (z8 Z Z zi.h mQ (zbo (c:=2) (f:=wayC) (fun _=>rfl) hp rfl dQ)) ?_
  refine au [22] ?_
  intro j9 hj9
  refine au [17,3,5,1,7,9] ?_
  refine TK.newR Z Z Z (zt (l:=[_]) Z zF.h TyZ.h dQ dQ Z) (fun _=>zu rfl tQ) fun j4 hj4=>?_
  refine TK.appR Z Z Z (a_app Z ApOf.h Z mQ (by simp; omega) Z (yu (ln:=[_]) mQ dQ sQ Z) oQ Z (by unfold maxLen; omega) oQ) (fun _=>uQ) (fun _=>zu rfl tQ) fun jt2=>?_
  refine au [2,3,14,5,23,1,3] ?_
  refine TK.maskL [2,4,5,7,20,21,22] ?_
  refine TK.kp [(jr,_),(s,_),(a,_),(j,_),(jt2,_),(jb,_),(jr0,_)] ?_
  exact hnext _ _ _ oQ ⟨i+1,jt2,rfl,by omega,rfl,by rw [yP (x:=p.2.2) (by rw [List.getElem?_map,hp]; rfl),lM]; rfl⟩
 obtain rfl:i=ps.length:=by simp at hc1; omega
 obtain ⟨x,xs,hxs⟩:∃ x xs,ps.map (·.2.2)=x::xs:=by
  cases hh:ps with
  | nil=>rw [hh] at hge; exact absurd h0 hge
  | cons y r=>exact ⟨_,_,rfl⟩
 have hxl:ps.length=xs.length+1:=by have:=congrArg List.length hxs; simpa using this
 rw [List.take_of_length_le sQ,hxs,hxl]
 refine au [16,4] ?_
 refine TK.draw [0,1,2,3,4,5,6,7] [0,1,2,3,4,5,6,7] (by kernel_rfl) (by kernel_rfl) ?_
 refine TD.z [7] Z (zh Z Z) ?_
 refine TD.y [32] Z (hq:=kA Z Z Z zF.h (mC _) oQ oQ) (h:=?_)
 refine TD.y [33] Z (hq:=zm Z Z zi.h (mC _) Z) (h:=?_)
 refine TD.z [7] Z (zh Z Z) ?_
 refine TD.y [35] Z (hq:=wy Z Z zF.h (mC _) Z Z oQ oQ Z) (h:=?_)
 refine TD.cl (pend':=[⟨3,[7],[]⟩,⟨1,[32],[(_,_)]⟩,⟨0,[7],[]⟩]) [34,36] Z Z Z Z Z (zbV hT (x:=x) (xs:=xs) (off:=1) (ob:=.row ((x::xs).map intA) 3 1) (fun i y hy=>kD (l:=x::xs) (i:=i+1) (by simpa using hy) oQ) oQ) (fun r5 K6 h7=>⟨?_,?_⟩)
 ·rcases h7 with ⟨rfl,rfl⟩
  all_goals simp
 obtain ⟨rfl,rfl⟩:=h7
 try simp only [cA]
 refine TD.norm tQ ?_
 refine TD.s (pend':=[]) [4,37] Z Z (zX Z Z zi.h Z Z mQ Z) ?_
 refine TD.as (pend':=[]) [] Z Z (zD Z Z) ?_
 refine TD.fin ?_
 refine au [] ?_
 refine TK.rt hret [(j,_),(s,_),(a,_)] ?_
 have hlt:¬ (waysM b all l).length<all.length:=by rw [<- hpl]; exact hge
 exact ⟨by unfold sqLo sqHi sqOk squaresM; rw [if_neg hlt,<- hps,hxs]; rfl,rfl⟩
theorem zaA {main T} (hT:zo tp main T) {gm} {x:Int} :
  zA tp T gm 216 [intA x] [] (fun r K'=>r=zP false/\K'=[]):=by
 refine zp 6 hT Tryz.func216 fun Y hret=>?_
 refine au [4,5,2,3,4,5,1,1,6,2,3] ?_
 refine TK.rta hret ?_
 exact ⟨by simp,rfl⟩
theorem zeK {main T} (hT:zo tp main T) {gm} {x y:Int} :
  zA tp T gm 185 [intA x,intA y] [] (fun r K'=>r=intA (if x<y then -1 else if y<x then 1 else 0)/\K'=[]):=by
 refine zp 20 hT Tryz.func185 fun Y hret=>?_
 refine au [4,5,2,3,4,5,1] ?_
 refine TK.cl Z Z Z Z (zaA hT) ?_
 rintro r1 K2 ⟨rfl,rfl⟩
 refine au [2,3,4,5,1] ?_
 refine TK.cl Z Z Z Z (zaA hT) ?_
 rintro r4 K5 ⟨rfl,rfl⟩
 refine au [2,3,4,4,5,1,3,20] ?_
 refine ⟨fun hc0=>?_,fun hc0=>?_⟩
 ·cases hc0
 skip
 refine au [12,4,4,5,1,3,20] ?_
 refine ⟨fun hc2=>?_,fun hc2=>?_⟩
 ·cases hc2
 refine au [12,4,4,5,1,1,6,3,20] ?_
 refine ⟨fun hc3=>?_,fun hc3=>?_⟩
 ·refine au [4,5,2,3] ?_
  refine TK.rta hret ?_
  exact ⟨by rw [if_pos (of_decide_eq_true hc3)],rfl⟩
 refine au [12,4,4,5,1,1,6,3,20] ?_
 refine ⟨fun hc4=>?_,fun hc4=>?_⟩
 ·refine au [4,5,2,3] ?_
  refine TK.rta hret ?_
  exact ⟨by rw [if_neg (of_decide_eq_false hc3),if_pos (of_decide_eq_true hc4)],rfl⟩
 refine au [12,4,5,2,3] ?_
 refine TK.rta hret ?_
 exact ⟨by rw [if_neg (of_decide_eq_false hc3),if_neg (of_decide_eq_false hc4)],rfl⟩
theorem zef {main T} (hT:zo tp main T) {gm} {j j2:Nat} {xs ys:List Int} {e1 e2:TypeId} (hl:xs.length<=1000) :
  zA tp T gm 156 [.sl j 0 xs.length,.sl j2 0 ys.length] [(j,.cells (xs.map intA) e1 false),(j2,.cells (ys.map intA) e2 false)] (fun r K'=>r=intA (lexM xs ys)/\K'=[(j,.cells (xs.map intA) e1 false),(j2,.cells (ys.map intA) e2 false)]):=by
 refine zp 36 hT Tryz.func156 fun Y hret=>?_
 refine au [4,5,2,3,4,4,5,1,28,1,3,13] ?_
 refine TK.maskL [0,1,4,9,10,11] ?_
 refine TK.loopN (fun n env K=>∃ (i:Nat),n=xs.length - i/\i<=xs.length/\lexM (xs.drop i) (ys.drop i)=lexM xs ys/\env=.sl j 0 xs.length::.sl j2 0 ys.length::naL 2 (intA 0::naL 4 (.sl j 0 xs.length::intA xs.length::intA i::naL 24 []))/\K=[(j,.cells (xs.map intA) e1 false),(j2,.cells (ys.map intA) e2 false)]) xs.length ⟨0,rfl,mN _,rfl,rfl,rfl⟩ fun n env K hI hnext=>?_
 obtain ⟨i,rfl,hi,hinv,rfl,rfl⟩:=hI
 refine TK.na nQ ?_
 refine au [4,5,6,3,4,20] ?_
 refine ⟨fun hc0=>?_,fun hc0=>?_⟩
 ·have hil:i<xs.length:=by simp at hc0; omega
  refine au [12,4,13,4,5,1,36] ?_
  refine TK.a Z (zm Z Z zi.h mQ (yh (i:=i) (z5 hil) Z)) ?_
  refine au [2,2,3,4,4,5,1,1,28,6,3,20] ?_
  refine ⟨fun hc1=>?_,fun hc1=>?_⟩
  ·refine au [4,5,2,3] ?_
   refine TK.rt hret [(j,_),(j2,_)] ?_
   exact ⟨by rw [<- hinv,zH (z5 hil),show ys.drop i=[] from List.drop_eq_nil_of_le (by simp at hc1; omega)]; rfl,rfl⟩
  have hjl:i<ys.length:=by simp at hc1; omega
  refine au [12,4,5,1,1,36] ?_
  refine TK.a Z (zm Z Z zi.h mQ (yh (i:=i) (z5 hjl) Z)) ?_
  refine au [2,3,4,5,1,1] ?_
  refine TK.cl Z Z Z Z (zeK hT) ?_
  rintro r1 K2 ⟨rfl,rfl⟩
  refine au [2,3,4,5,1,6,3,20] ?_
  refine ⟨fun hc2=>?_,fun hc2=>?_⟩
  ·refine au [4,5,1,2,3] ?_
   refine TK.rt hret [(j,_),(j2,_)] ?_
   exact ⟨by rw [<- hinv,zH (z5 hil),zH (z5 hjl)]; simp only [lexM]; split <;> (try rfl); split <;> (try rfl); simp_all,rfl⟩
  have hnl:¬ zN xs i<zN ys i:=fun hh=>by rw [if_pos hh] at hc2; simp at hc2
  have hng:¬ zN ys i<zN xs i:=fun hh=>by rw [if_neg hnl,if_pos hh] at hc2; simp at hc2
  refine au [12,14,5,23,1,3] ?_
  refine TK.maskL [0,1,4,9,10,11] ?_
  refine TK.kp [(j,_),(j2,_)] ?_
  exact hnext _ _ _ oQ ⟨i+1,rfl,by omega,by rw [<- hinv,zH (z5 hil),zH (z5 hjl)]; simp only [lexM]; rw [if_neg hnl,if_neg hng],rfl,rfl⟩
 obtain rfl:i=xs.length:=by simp at hc0; omega
 refine au [16,4,4,5,1,28,1,28,6,3,20] ?_
 refine ⟨fun hc3=>?_,fun hc3=>?_⟩
 ·refine au [4,5,2,3] ?_
  refine TK.rt hret [(j,_),(j2,_)] ?_
  exact ⟨by rw [<- hinv,List.drop_length]; simp at hc3; rw [zH (z5 (l:=ys) (k:=xs.length) oQ)]; rfl,rfl⟩
 refine au [12,4,5,2,3] ?_
 refine TK.rt hret [(j,_),(j2,_)] ?_
 exact ⟨by rw [<- hinv,List.drop_length]; simp at hc3; rw [List.drop_eq_nil_of_le oQ]; rfl,rfl⟩
theorem uj {main T} (hT:zo tp main T) {gm} {j j2:Nat} {xs ys:List Int} {e1 e2:TypeId} (hl:xs.length<=1000) :
  zA tp T gm 118 [.sl j 0 xs.length,.sl j2 0 ys.length] [(j,.cells (xs.map intA) e1 false),(j2,.cells (ys.map intA) e2 false)] (fun r K'=>r=zP (smallerM xs ys)/\K'=[(j,.cells (xs.map intA) e1 false),(j2,.cells (ys.map intA) e2 false)]):=by
 refine zp 23 hT Tryz.func118 fun Y hret=>?_
 refine au [4,5,2,3,4,5,1,28,1,28,6,1] ?_
 refine TK.sp 10 (fun g1_6=>?_) (fun g1_6=>?_)
 ·refine au [11,11,11,11,11,11,11,11,11,11,11,26,2,3] ?_
  refine TK.rt hret [(j,_),(j2,_)] ?_
  exact ⟨by simp at g1_6; simp [smallerM,g1_6],rfl⟩
 refine au [1,28,1,28,6,1] ?_
 refine TK.sp 16 (fun g1_12=>?_) (fun g1_12=>?_)
 ·refine au [1,1] ?_
  refine TK.cl Z Z Z Z (zef hT hl) ?_
  rintro r1 K2 ⟨rfl,rfl⟩
  refine au [6,26,25,2,3] ?_
  refine TK.rt hret [(j,_),(j2,_)] ?_
  exact ⟨by simp at g1_6 g1_12; unfold smallerM; rw [decide_eq_false (show ¬ xs.length<ys.length by omega),decide_eq_true (show xs.length=ys.length by omega)]; rfl,rfl⟩
 refine au [11,11,11,11,25,25,2,3] ?_
 refine TK.rt hret [(j,_),(j2,_)] ?_
 exact ⟨by simp at g1_6 g1_12; unfold smallerM; rw [decide_eq_false (show ¬ xs.length<ys.length by omega),decide_eq_false (show ¬ xs.length=ys.length by omega)]; rfl,rfl⟩
theorem zea {main T} (hT:zo tp main T) {gm} {j j2:Nat} {xs ys:List Int} {e1 e2:TypeId} {p q:Int} (hl:xs.length<=1000) :
  zA tp T gm 109 [.agg [.sl j 0 xs.length,intA p],.agg [.sl j2 0 ys.length,intA q]] [(j,.cells (xs.map intA) e1 false),(j2,.cells (ys.map intA) e2 false)] (fun r K'=>r=zP (cheaperM (xs,p) (ys,q))/\K'=[(j,.cells (xs.map intA) e1 false),(j2,.cells (ys.map intA) e2 false)]):=by
 refine zp 24 hT Tryz.func109 fun Y hret=>?_
 refine au [4,5,21] ?_
 intro jx1 hjx1
 refine au [21] ?_
 intro jx2 hjx2
 refine au [2,3,4,5,7,9,7,9,6,1] ?_
 refine TK.sp 10 (fun g1_6=>?_) (fun g1_6=>?_)
 ·refine au [11,11,11,11,11,11,11,11,11,11,11,11,26,2,3] ?_
  refine TK.rt hret [(j,_),(j2,_)] ?_
  exact ⟨by simp at g1_6; simp [cheaperM,g1_6],rfl⟩
 refine au [7,9,7,9,6,1] ?_
 refine TK.sp 16 (fun g1_12=>?_) (fun g1_12=>?_)
 ·refine au [7,9,7,9] ?_
  refine TK.cl Z Z Z Z (uj hT hl) ?_
  rintro r1 K2 ⟨rfl,rfl⟩
  refine au [26,25,2,3] ?_
  refine TK.rt hret [(j,_),(j2,_)] ?_
  exact ⟨by simp at g1_6 g1_12; simp [cheaperM,g1_12],rfl⟩
 refine au [11,11,11,11,11,25,25,2,3] ?_
 refine TK.rt hret [(j,_),(j2,_)] ?_
 exact ⟨by simp at g1_6 g1_12; simp [cheaperM,g1_12]; omega,rfl⟩
theorem za4 {main T} (hT:zo tp main T) {gm} {j j2:Nat} {xs ys:List Int} {e1 e2:TypeId} {p q:Int} (hl:xs.length<=1000) :
  zA tp T gm 113 [.agg [.sl j 0 xs.length,intA p],.agg [.sl j2 0 ys.length,intA q]] [(j,.cells (xs.map intA) e1 false),(j2,.cells (ys.map intA) e2 false)] (fun r K'=>r=zP (shorterM (xs,p) (ys,q))/\K'=[(j,.cells (xs.map intA) e1 false),(j2,.cells (ys.map intA) e2 false)]):=by
 refine zp 10 hT Tryz.func113 fun Y hret=>?_
 refine au [4,5,21] ?_
 intro jx1 hjx1
 refine au [21] ?_
 intro jx2 hjx2
 refine au [2,3,4,5,7,9,7,9] ?_
 refine TK.cl Z Z Z Z (uj hT hl) ?_
 rintro r1 K2 ⟨rfl,rfl⟩
 refine au [2,3] ?_
 refine TK.rt hret [(j,_),(j2,_)] ?_
 exact ⟨rfl,rfl⟩
end Go.Vel
namespace Go.Vel
open Go Go.Conc
theorem zaB:∀ (x y:List Int),lexM x y = -lexM y x
 | [],[]=>rfl
 | [],_::_=>rfl
 | _::_,[]=>rfl
 | a::x,b::y=>by
  have:=zaB x y
  simp only [lexM]
  by_cases h1:a<b
  ·rw [if_pos h1,if_neg oQ,if_pos h1]
  ·rw [if_neg h1]
   by_cases h2:b<a
   ·rw [if_pos h2,if_pos h2]; rfl
   ·rw [if_neg h2,if_neg h2,if_neg h1,this]
theorem zcD:∀ (x y:List Int),lexM x y=0->x=y
 | [],[],_=>rfl
 | [],_::_,h=>by cases h
 | _::_,[],h=>by cases h
 | a::x,b::y,h=>by
  simp only [lexM] at h
  split at h
  ·cases h
  ·split at h
   ·cases h
   ·rw [show a=b by omega,zcD x y h]
theorem zf4:∀ x:List Int,lexM x x=0
 | []=>rfl
 | a::x=>by simp only [lexM]; rw [if_neg oQ,if_neg oQ]; exact zf4 x
theorem zbH:∀ (x y z:List Int),lexM x y<0->lexM y z<0->lexM x z<0
 | [],[],z,h,_=>by simp [lexM] at h
 | [],_::_,[],_,h=>by simp [lexM] at h
 | [],_::_,_::_,_,_=>by simp [lexM]
 | _::_,[],_,h,_=>by simp [lexM] at h
 | _::_,_::_,[],_,h=>by simp [lexM] at h
 | a::x,b::y,c::z,h1,h2=>by
  simp only [lexM] at h1 h2 ⊢
  by_cases q1:a<b
  ·by_cases q2:b<c
   ·rw [if_pos oQ]; omega
   ·rw [if_neg q2] at h2
    by_cases q3:c<b
    ·rw [if_pos q3] at h2; omega
    ·rw [if_pos oQ]; omega
  ·rw [if_neg q1] at h1
   by_cases q4:b<a
   ·rw [if_pos q4] at h1; omega
   ·rw [if_neg q4] at h1
    by_cases q2:b<c
    ·rw [if_pos oQ]; omega
    ·rw [if_neg q2] at h2
     by_cases q3:c<b
     ·rw [if_pos q3] at h2; omega
     ·rw [if_neg q3] at h2
      rw [if_neg oQ,if_neg oQ]
      exact zbH x y z h1 h2
theorem kJ (x y:List Int):smallerM x y=true↔x.length<y.length\/(x.length=y.length/\lexM x y<0):=by
 unfold smallerM
 simp
theorem uu {x y z:List Int} (h1:smallerM x y=true) (h2:smallerM y z=true):smallerM x z=true:=by
 rw [kJ] at *
 rcases h1 with h1 | ⟨h1,h3⟩ <;> rcases h2 with h2 | ⟨h2,h4⟩
 ·left; omega
 ·left; omega
 ·left; omega
 ·right; exact ⟨by omega,zbH x y z h3 h4⟩
theorem zar (x y:List Int):x=y\/smallerM x y=true\/smallerM y x=true:=by
 by_cases h1:x.length<y.length
 ·right; left; rw [kJ]; exact .inl h1
 ·by_cases h2:y.length<x.length
  ·right; right; rw [kJ]; exact .inl h2
  ·have e:x.length=y.length:=by omega
   have ha:=zaB x y
   by_cases h3:lexM x y=0
   ·exact .inl (zcD x y h3)
   ·by_cases h4:lexM x y<0
    ·right; left; rw [kJ]; exact .inr ⟨e,h4⟩
    ·right; right; rw [kJ]; exact .inr ⟨e.symm,by omega⟩
theorem ziE {x y:List Int} (h:smallerM x y=true):smallerM y x=false:=by
 cases h2:smallerM y x with
 | false=>rfl
 | true =>
  rw [kJ] at h h2
  have:=zaB x y
  omega
theorem kT (p q:List Int×Int):cheaperM p q=true↔p.2<q.2\/(p.2=q.2/\smallerM p.1 q.1=true):=by
 unfold cheaperM
 simp
theorem zb0 (p q r:List Int×Int) (h1:cheaperM p q=true) (h2:cheaperM q r=true):cheaperM p r=true:=by
 rw [kT] at *
 rcases h1 with h1 | ⟨h1,h3⟩ <;> rcases h2 with h2 | ⟨h2,h4⟩
 ·left; omega
 ·left; omega
 ·left; omega
 ·right; exact ⟨by omega,uu h3 h4⟩
theorem zdk (p q:List Int×Int):p=q\/cheaperM p q=true\/cheaperM q p=true:=by
 by_cases h1:p.2<q.2
 ·right; left; rw [kT]; exact .inl h1
 ·by_cases h2:q.2<p.2
  ·right; right; rw [kT]; exact .inl h2
  ·rcases zar p.1 q.1 with h | h | h
   ·left; exact Prod.ext h oQ
   ·right; left; rw [kT]; exact .inr ⟨by omega,h⟩
   ·right; right; rw [kT]; exact .inr ⟨by omega,h⟩
theorem ut (p q r:List Int×Int) (h1:shorterM p q=true) (h2:shorterM q r=true):shorterM p r=true:=uu h1 h2
theorem zb4 {b:RBk} (hb:ROk b) {l:List Int} (hl:CutsOk b l):∀ (o:List Int) (z:Alloc),(∀ k∈o,0<=k/\k<l.length)->0<=z.left->(∀ k,0<=z.steps.getD k 0/\z.steps.getD k 0<=9)->∀ k,0<=(o.foldl (allocM b l) z).steps.getD k 0/\(o.foldl (allocM b l) z).steps.getD k 0<=9
 | [],z,_,_,h=>h
 | k0::o,z,ho,hz,h=>by
  rw [List.foldl_cons]
  have h0:=ho k0 sQ
  have hf:=hb.sms.fld _ (hl.lt (k:=k0.toNat) oQ).2.2
  have key:∀ (v:Int),0<=v->v<=9->∀ k,0<=(z.steps.set k0.toNat v).getD k 0/\(z.steps.set k0.toNat v).getD k 0<=9:=fun v h1 h2 k=>by
   have hk:=h k
   rw [lE] at hk
   rw [lE,List.getElem?_set]
   split
   ·split
    ·simp only [Option.getD_some]; omega
    ·simp
   ·exact hk
  refine zb4 hb hl o _ (fun k hk=>ho k (by simp [hk])) ?_ (key (min z.left (sm b (zN l k0.toNat).toNat).most) oQ oQ)
  show 0<=z.left - min z.left (sm b (zN l k0.toNat).toNat).most
  omega
end Go.Vel
namespace Go.Vel
open Go Go.Conc Go.Proofs
theorem kb {x y:Int} (h:bar2 x y=0):y=0:=by
 have:=kE h
 rwa [kF this] at h
theorem zau {c:Nat}:∀ (i:Nat) (x:Int),x∈zw c i->0<=x/\x<i
 | 0,x,h=>by cases h
 | i+1,x,h=>by
  unfold zw at h
  rcases List.mem_append.1 h with h | h
  ·have:=zau i x h; omega
  ·split at h
   ·rw [lS.1 h]; omega
   ·cases h
theorem zca {c:Nat}:∀ i,(zw c i).Pairwise (· < ·)
 | 0=>.nil
 | i+1=>by
  unfold zw
  refine List.pairwise_append.2 ⟨zca i,?_,fun x hx y hy=>?_⟩
  ·split <;> simp
  ·have:=zau i x hx
   split at hy
   ·rw [lS.1 hy]; omega
   ·cases hy
theorem zeD {b:RBk} (hb:ROk b) {c:Nat} (h0:0<c) (hc:c<2 ^ b.seams.length):CutsOk b (zw c b.seams.length):=by
 have h5:=hb.sms.len
 refine ⟨?_,fun n hn=>zau _ n hn,zca _⟩
 rcases Nat.eq_zero_or_pos (zw c b.seams.length).length with h | h
 ·have:=vv h5.2 hc (List.length_eq_zero_iff.1 h); omega
 ·exact h
theorem zfF {m c d:Nat} (hm:m<=5) (hc:c<2 ^ m) (hd:d<2 ^ m) (h:zw c m=zw d m):c=d:=by
 have key:∀ (m:Fin 6) (c d:Fin 32),c.1<2 ^ m.1->d.1<2 ^ m.1->zw c.1 m.1=zw d.1 m.1->c.1=d.1:=by decide +kernel
 have:2 ^ m<=2 ^ 5:=Nat.pow_le_pow_right dQ hm
 exact key ⟨m,by omega⟩ ⟨c,by omega⟩ ⟨d,by omega⟩ hc hd h
theorem uN {Ψ:Goroutine->World->Prop} {gm:Nat->Option Nat} {b:RBk} {s h e a:Nat} {all:List (List Int)} {gF:FuncId} {bt:List Int×Int->List Int×Int->Bool} (hb:ROk b) (ha:okAll b all) (hn:all.length<=243) (h0:0<all.length)
  (htr:∀ p q r,bt p q=true->bt q r=true->bt p r=true) (htot:∀ b1 c1,0<b1->b1<2 ^ b.seams.length->0<c1->c1<2 ^ b.seams.length->(zw b1 b.seams.length,sqHi b all (zw b1 b.seams.length))=(zw c1 b.seams.length,sqHi b all (zw c1 b.seams.length))\/bt (zw b1 b.seams.length,sqHi b all (zw b1 b.seams.length)) (zw c1 b.seams.length,sqHi b all (zw c1 b.seams.length))=true\/bt (zw c1 b.seams.length,sqHi b all (zw c1 b.seams.length)) (zw b1 b.seams.length,sqHi b all (zw b1 b.seams.length))=true)
  (hbt:∀ {T:Goroutine->Hp->Prop},zo tp false T->∀ (jr:Nat) (cs:List Int) (cost:Int) (cs0:List Int) (cost0:Int) (j0:Nat) (e0:TypeId),cs.length<=5->CallFK tp T gm (.fn gF [] []) [.agg [.sl jr 0 cs.length,.v (.int .i64 cost)],.agg [.sl j0 0 cs0.length,.v (.int .i64 cost0)]] [(jr,.cells (cs.map fun a=>.v (.int .i64 a)) 3 false),(j0,.cells (cs0.map fun a=>.v (.int .i64 a)) e0 false)] (fun r K'=>r=.v (.bool (bt (cs,cost) (cs0,cost0)))/\K'=[(jr,.cells (cs.map fun a=>.v (.int .i64 a)) 3 false),(j0,.cells (cs0.map fun a=>.v (.int .i64 a)) e0 false)])) :
  zA tp (BT tp Ψ) gm 108 [.agg (knownC b s h e a all.length),.fn gF [] []] [(s,zk b),(a,allO all)] (fun r K'=>PlanR [(s,zk b),(a,allO all)] b.seams.length bt (fun c=>sqHi b all (zw c b.seams.length)) (fun c=>sqOk b all (zw c b.seams.length)) r K'):=by
 refine zhs (lw:=fun c=>sqLo b all (zw c b.seams.length)) hb.sms.len (fun z hz=>?_) htr (fun b1 c1 h1 h2 h3 h4 _ _=>htot b1 c1 h1 h2 h3 h4) (fun c hc0 hc1 jr T hT=>?_) hbt
 ·simp only [List.mem_cons,List.not_mem_nil,or_false] at hz
  rcases hz with rfl | rfl
  ·refine ⟨_,_,fun e=>?_,rfl⟩
   have:=congrArg List.length e
   rw [yy seamC 5 (fun _=>rfl)] at this
   have h1:=hb.sms.len
   have:b.seams.length*5=0:=this
   omega
  ·refine ⟨_,_,fun e=>?_,rfl⟩
   have:=congrArg List.length e
   rw [yy stC 5 (fun _=>rfl)] at this
   have:all.length*5=0:=this
   omega
 ·exact za6 hT (j:=jr) (et:=3) hb (zeD hb hc0 hc1) ha hn h0
def canM (b:RBk) (l:List Int):Int:=if (waysM b (zf b) l).length=(zf b).length then 1 else if (waysM b (zf b) l).length=0 then 2 else 0
theorem zhB {b:RBk} {all:List (List Int)} {l:List Int} (h:sqOk b all l=false):sqLo b all l=0/\sqHi b all l=0:=by
 unfold sqOk at h
 unfold sqLo sqHi
 cases hh:squaresM b all l with
 | none=>exact ⟨rfl,rfl⟩
 | some z=>rw [hh] at h; cases h
def newM (b:RBk):Int×Int:=spreadM ((zf b).map (freshM b))
instance:Cal tp 107:={}
instance:Cal tp 91:={}
instance:TyZ tp 116 [.nilFunc]:={}
theorem zhO {main:Bool} {T:Goroutine->Hp->Prop} (hT:zo tp main T)  {b:RBk} {s h e j:Nat} {l:List Int} {et:TypeId} (hl:b.seams.length<=100) (hm:b.measures.length<=100) (hll:l.length<=1000) :
  zA tp T gmR 20 [.agg (zE b s h e),.sl j 0 l.length] [(0,zy),(s,zk b),(h,zB b),(e,zq b),(j,.cells (l.map intA) et false)] (fun r K'=>(bar2 (zr b) (cutsM b l)≠0/\r=.tup [.v (.slice none 0 0),intA (bar2 (zr b) (cutsM b l))]/\K'=[(0,zy),(s,zk b),(h,zB b),(e,zq b),(j,.cells (l.map intA) et false)])\/(bar2 (zr b) (cutsM b l)=0/\∃ jr,r=.tup [.row jr l.length,intA 0]/\K'=(jr,.row ((stripsM b l).flatMap pairC) 96 2)::[(0,zy),(s,zk b),(h,zB b),(e,zq b),(j,.cells (l.map intA) et false)])):=by
 refine zp 22 hT Tryz.func20 fun Y hret=>?_
 refine au [4,5,21] ?_
 intro jb hjb
 refine au [2,2,3,4,5,8,1,32] ?_
 refine TK.newR Z Z Z (zt (l:=[_]) Z zF.h TyZ.h dQ dQ Z) (fun _=>zu rfl tQ) fun ja hja=>?_
 refine TK.cl Z Z Z Z (wZ hT (Kx:=[(j,.cells (l.map intA) et false)]) (p1:=cutsM b l) hl hm (fun h0=>yw Cal.h ((kP hT (zZ h0).sms.len.2 hll).frameP (R:=[(s,zk b)]) (List.Perm.swap _ _ _)))) ?_
 rintro r1 K2 h3
 rcases h3 with ⟨⟨hbar,rfl⟩ | ⟨hbar,rfl⟩,rfl⟩
 ·refine au [1,10,10,22] ?_
  intro j6 hj6
  refine au [17,2,3,4,4,5,1,6,3,20] ?_
  refine ⟨fun hc0=>?_,fun hc0=>?_⟩
  ·exact absurd hc0 sQ
  have hbb:=zZ (kE hbar)
  have hcc:=wD (kb hbar)
  refine au [12,4,5,8,1] ?_
  refine TK.cl Z Z Z Z (zbW hT hbb hcc) ?_
  rintro r4 K5 ⟨jr,rfl,rfl⟩
  refine au [2,2,3] ?_
  refine TK.rt hret [(jr,_),(0,_),(s,_),(h,_),(e,_),(j,_)] ?_
  exact .inr ⟨hbar,jr,rfl,rfl⟩
 ·refine au [1,10,10,22] ?_
  intro j6 hj6
  refine au [17,2,3,4,4,5,1,6,3,20] ?_
  refine ⟨fun hc0=>?_,fun hc0=>?_⟩
  ·
   refine au [4,5,1,2,2,3] ?_
   refine TK.rt hret [(0,_),(s,_),(h,_),(e,_),(j,_)] ?_
   exact .inl ⟨hbar,rfl,rfl⟩
  exact absurd hbar (by simpa using hc0)
theorem zaN {main:Bool} {T:Goroutine->Hp->Prop} (hT:zo tp main T)  {b:RBk} {s h e j:Nat} {l:List Int} {et:TypeId} (hl:b.seams.length<=100) (hm:b.measures.length<=100) (hll:l.length<=1000) :
  zA tp T gmR 22 [.agg (zE b s h e),.sl j 0 l.length] [(0,zy),(s,zk b),(h,zB b),(e,zq b),(j,.cells (l.map intA) et false)] (fun r K'=>r=.tup [zP (decide (bar2 (zr b) (cutsM b l)=0)&&fitsM b l),intA (bar2 (zr b) (cutsM b l))]/\K'=[(0,zy),(s,zk b),(h,zB b),(e,zq b),(j,.cells (l.map intA) et false)]):=by
 refine zp 22 hT Tryz.func22 fun Y hret=>?_
 refine au [4,5,21] ?_
 intro jb hjb
 refine au [2,2,3,4,5,8,1,32] ?_
 refine TK.newR Z Z Z (zt (l:=[_]) Z zF.h TyZ.h dQ dQ Z) (fun _=>zu rfl tQ) fun ja hja=>?_
 refine TK.cl Z Z Z Z (wZ hT (Kx:=[(j,.cells (l.map intA) et false)]) (p1:=cutsM b l) hl hm (fun h0=>yw Cal.h ((kP hT (zZ h0).sms.len.2 hll).frameP (R:=[(s,zk b)]) (List.Perm.swap _ _ _)))) ?_
 rintro r1 K2 h3
 rcases h3 with ⟨⟨hbar,rfl⟩ | ⟨hbar,rfl⟩,rfl⟩
 ·refine au [1,10,10,22] ?_
  intro j6 hj6
  refine au [17,2,3,4,4,5,1,6,3,20] ?_
  refine ⟨fun hc0=>?_,fun hc0=>?_⟩
  ·exact absurd hc0 sQ
  have hbb:=zZ (kE hbar)
  have hcc:=wD (kb hbar)
  refine au [12,4,5,8,1] ?_
  refine TK.cl Z Z Z Z (zdF hT hbb hcc) ?_
  rintro r4 K5 ⟨rfl,rfl⟩
  refine au [2,2,3] ?_
  refine TK.rt hret [(0,_),(s,_),(h,_),(e,_),(j,_)] ?_
  exact ⟨by rw [hbar]; simp,rfl⟩
 ·refine au [1,10,10,22] ?_
  intro j6 hj6
  refine au [17,2,3,4,4,5,1,6,3,20] ?_
  refine ⟨fun hc0=>?_,fun hc0=>?_⟩
  ·
   refine au [4,5,1,2,2,3] ?_
   refine TK.rt hret [(0,_),(s,_),(h,_),(e,_),(j,_)] ?_
   exact ⟨by rw [decide_eq_false hbar]; rfl,rfl⟩
  exact absurd hbar (by simpa using hc0)
theorem zcg {main:Bool} {T:Goroutine->Hp->Prop} (hT:zo tp main T)  {b:RBk} {s h e j:Nat} {l:List Int} {et:TypeId} (hl:b.seams.length<=100) (hm:b.measures.length<=100) (hll:l.length<=1000) :
  zA tp T gmR 70 [.agg (zE b s h e),.sl j 0 l.length] [(0,zy),(s,zk b),(h,zB b),(e,zq b),(j,.cells (l.map intA) et false)] (fun r K'=>(bar2 (zr b) (cutsM b l)≠0/\r=.tup [intA 0,intA (bar2 (zr b) (cutsM b l))]/\K'=[(0,zy),(s,zk b),(h,zB b),(e,zq b),(j,.cells (l.map intA) et false)])\/(bar2 (zr b) (cutsM b l)=0/\zf b=[]/\r=.tup [intA 0,intA 9]/\K'=[(0,zy),(s,zk b),(h,zB b),(e,zq b),(j,.cells (l.map intA) et false)])\/(bar2 (zr b) (cutsM b l)=0/\zf b≠[]/\r=.tup [intA (canM b l),intA 0]/\K'=[(0,zy),(s,zk b),(h,zB b),(e,zq b),(j,.cells (l.map intA) et false)])):=by
 refine zp 30 hT Tryz.func70 fun Y hret=>?_
 refine au [4,5,21] ?_
 intro jb hjb
 refine au [2,2,3,4,5,8,1,32] ?_
 refine TK.newR Z Z Z (zt (l:=[_]) Z zF.h TyZ.h dQ dQ Z) (fun _=>zu rfl tQ) fun ja hja=>?_
 refine TK.cl Z Z Z Z (uH hT (Kx:=[(j,.cells (l.map intA) et false)]) (p1:=cutsM b l) (fun h0=>yw Cal.h ((kP hT (zZ h0).sms.len.2 hll).frameP (R:=[(s,zk b)]) (List.Perm.swap _ _ _))) hl hm) ?_
 rintro r1 K2 h3
 rcases h3 with ⟨hbar,rfl,rfl⟩ | ⟨hbar,hnil,rfl,rfl⟩ | ⟨hbar,hne,a,rfl,rfl⟩
 ·refine au [1,10,10,22] ?_
  intro j6 hj6
  refine au [17,2,3,4,4,5,1,6,3,20] ?_
  refine ⟨fun hc0=>?_,fun hc0=>?_⟩
  ·
   refine au [4,5,1,2,2,3] ?_
   refine TK.rt hret [(0,_),(s,_),(h,_),(e,_),(j,_)] ?_
   exact .inl ⟨hbar,rfl,rfl⟩
  exact absurd hbar (by simpa using hc0)
 ·refine au [1,10,10,22] ?_
  intro j6 hj6
  refine au [17,2,3,4,4,5,1,6,3,20] ?_
  refine ⟨fun hc0=>?_,fun hc0=>?_⟩
  ·
   refine au [4,5,1,2,2,3] ?_
   refine TK.rt hret [(0,_),(s,_),(h,_),(e,_),(j,_)] ?_
   exact .inr (.inl ⟨hbar,hnil,rfl,rfl⟩)
  exact absurd hc0 dQ
 ·refine au [1,10,10,22] ?_
  intro j6 hj6
  refine au [17,2,3,4,4,5,1,6,3,20] ?_
  refine ⟨fun hc0=>?_,fun hc0=>?_⟩
  ·exact absurd hc0 sQ
  have hbb:=zZ (kE hbar)
  have hcc:=wD (kb hbar)
  have hlen:=kf hbb
  have hpos:0<(zf b).length:=List.length_pos_iff.2 hne
  have hall:okAll b (zf b):=fun st hst=>(y7 hbb hst).1
  refine au [12,4,4,5,8,1] ?_
  refine TK.cl Z Z Z Z (zd2 hT hbb hcc hall hlen) ?_
  rintro r4 K5 ⟨jr,ps,hps,rfl,rfl⟩
  refine au [] ?_
  have hpl:ps.length=(waysM b (zf b) l).length:=by have:=congrArg List.length hps; rwa [lJ,lJ] at this
  refine au [28,3,13,4,5,7,9,28,6,2,3,20] ?_
  refine ⟨fun hc1=>?_,fun hc1=>?_⟩
  ·refine au [4,5,2,2,3] ?_
   refine TK.rt hret [(0,_),(s,_),(h,_),(e,_),(j,_)] ?_
   exact .inr (.inr ⟨hbar,hne,by unfold canM; rw [if_pos (by have:=eq_of_beq hc1; omega)],rfl⟩)
  refine au [4,5,6,2,3,20] ?_
  refine ⟨fun hc2=>?_,fun hc2=>?_⟩
  ·refine au [4,5,2,2,3] ?_
   refine TK.rt hret [(0,_),(s,_),(h,_),(e,_),(j,_)] ?_
   exact .inr (.inr ⟨hbar,hne,by unfold canM; rw [if_neg (by simp at hc1; omega),if_pos (by have:=eq_of_beq hc2; omega)],rfl⟩)
  refine au [12,14,4,5,2,2,3] ?_
  refine TK.rt hret [(0,_),(s,_),(h,_),(e,_),(j,_)] ?_
  exact .inr (.inr ⟨hbar,hne,by unfold canM; rw [if_neg (by simp at hc1; omega),if_neg (by rw [<- hpl]; simp at hc2; exact fun h=>hc2 (List.length_eq_zero_iff.1 h))],rfl⟩)
theorem uv {main:Bool} {T:Goroutine->Hp->Prop} (hT:zo tp main T)  {b:RBk} {s h e j:Nat} {l:List Int} {et:TypeId} (hl:b.seams.length<=100) (hm:b.measures.length<=100) (hll:l.length<=1000) :
  zA tp T gmR 54 [.agg (zE b s h e),.sl j 0 l.length] [(0,zy),(s,zk b),(h,zB b),(e,zq b),(j,.cells (l.map intA) et false)] (fun r K'=>(bar2 (zr b) (cutsM b l)≠0/\r=.tup [.agg [intA 0,intA 0],intA (bar2 (zr b) (cutsM b l))]/\K'=[(0,zy),(s,zk b),(h,zB b),(e,zq b),(j,.cells (l.map intA) et false)])\/(bar2 (zr b) (cutsM b l)=0/\zf b=[]/\r=.tup [.agg [intA 0,intA 0],intA 9]/\K'=[(0,zy),(s,zk b),(h,zB b),(e,zq b),(j,.cells (l.map intA) et false)])\/(bar2 (zr b) (cutsM b l)=0/\zf b≠[]/\r=.tup [.agg [intA (sqLo b (zf b) l),intA (sqHi b (zf b) l)],intA (if sqOk b (zf b) l=true then 0 else 8)]/\K'=[(0,zy),(s,zk b),(h,zB b),(e,zq b),(j,.cells (l.map intA) et false)])):=by
 refine zp 32 hT Tryz.func54 fun Y hret=>?_
 refine au [4,5,21] ?_
 intro jb hjb
 refine au [22] ?_
 intro jr hjr
 refine au [2,3,4,5,8,1,32] ?_
 refine TK.newR Z Z Z (zt (l:=[_]) Z zF.h TyZ.h dQ dQ Z) (fun _=>zu rfl tQ) fun ja hja=>?_
 refine TK.cl Z Z Z Z (uH hT (Kx:=[(j,.cells (l.map intA) et false)]) (p1:=cutsM b l) (fun h0=>yw Cal.h ((kP hT (zZ h0).sms.len.2 hll).frameP (R:=[(s,zk b)]) (List.Perm.swap _ _ _))) hl hm) ?_
 rintro r1 K2 h3
 rcases h3 with ⟨hbar,rfl,rfl⟩ | ⟨hbar,hnil,rfl,rfl⟩ | ⟨hbar,hne,a,rfl,rfl⟩
 ·refine au [1,10,10,22] ?_
  intro j6 hj6
  refine au [17,2,3,4,4,5,1,6,3,20] ?_
  refine ⟨fun hc0=>?_,fun hc0=>?_⟩
  ·
   refine au [4,5,39,1,17,2,3] ?_
   refine TK.rt hret [(0,_),(s,_),(h,_),(e,_),(j,_)] ?_
   exact .inl ⟨hbar,rfl,rfl⟩
  exact absurd hbar (by simpa using hc0)
 ·refine au [1,10,10,22] ?_
  intro j6 hj6
  refine au [17,2,3,4,4,5,1,6,3,20] ?_
  refine ⟨fun hc0=>?_,fun hc0=>?_⟩
  ·
   refine au [4,5,39,1,17,2,3] ?_
   refine TK.rt hret [(0,_),(s,_),(h,_),(e,_),(j,_)] ?_
   exact .inr (.inl ⟨hbar,hnil,rfl,rfl⟩)
  exact absurd hc0 dQ
 ·refine au [1,10,10,22] ?_
  intro j6 hj6
  refine au [17,2,3,4,4,5,1,6,3,20] ?_
  refine ⟨fun hc0=>?_,fun hc0=>?_⟩
  ·exact absurd hc0 sQ
  have hbb:=zZ (kE hbar)
  have hcc:=wD (kb hbar)
  have hlen:=kf hbb
  have hpos:0<(zf b).length:=List.length_pos_iff.2 hne
  have hall:okAll b (zf b):=fun st hst=>(y7 hbb hst).1
  refine au [12,4,5,8,1] ?_
  refine TK.cl Z Z Z Z (za6 hT hbb hcc hall hlen hpos) ?_
  rintro r4 K5 ⟨rfl,rfl⟩
  refine au [1,10,10,22] ?_
  intro j8 hj8
  refine au [17,2,3,4,4,5,1,30,3,20] ?_
  refine ⟨fun hc1=>?_,fun hc1=>?_⟩
  ·refine au [4,5,39,17,2,3] ?_
   refine TK.rt hret [(0,_),(s,_),(h,_),(e,_),(j,_)] ?_
   exact .inr (.inr ⟨hbar,hne,by obtain ⟨q1,q2⟩:=zhB (b:=b) (all:=zf b) (l:=l) (by simpa using hc1); rw [q1,q2,if_neg (by simpa using hc1)]; rfl,rfl⟩)
  refine au [12,4,5,8,17,2,3] ?_
  refine TK.rt hret [(0,_),(s,_),(h,_),(e,_),(j,_)] ?_
  exact .inr (.inr ⟨hbar,hne,by rw [if_pos (by simpa using hc1)]; rfl,rfl⟩)
theorem ze3 {main:Bool} {T:Goroutine->Hp->Prop} (hT:zo tp main T)  {b:RBk} {s h e:Nat} (hl:b.seams.length<=100) (hm:b.measures.length<=100) :
  zA tp T gmR 53 [.agg (zE b s h e)] [(0,zy),(s,zk b),(h,zB b),(e,zq b)] (fun r K'=>(zr b≠0/\r=.tup [.agg [intA 0,intA 0],intA (zr b)]/\K'=[(0,zy),(s,zk b),(h,zB b),(e,zq b)])\/(zr b=0/\zf b=[]/\r=.tup [.agg [intA 0,intA 0],intA 9]/\K'=[(0,zy),(s,zk b),(h,zB b),(e,zq b)])\/(zr b=0/\zf b≠[]/\r=.tup [.agg [intA (newM b).1,intA (newM b).2],intA 0]/\K'=[(0,zy),(s,zk b),(h,zB b),(e,zq b)])):=by
 refine zp 39 hT Tryz.func53 fun Y hret=>?_
 refine au [4,5,21] ?_
 intro jb hjb
 refine au [22] ?_
 intro jr hjr
 refine au [2,3,4,5,8] ?_
 refine TK.cl Z Z Z Z (wi hT (Kx:=[]) hl hm) ?_
 rintro r1 K2 h3
 rcases h3 with ⟨hbar,rfl,rfl⟩ | ⟨hbar,hnil,rfl,rfl⟩ | ⟨hbar,hne,a,rfl,rfl⟩
 ·refine au [1,10,10,22] ?_
  intro j4 hj4
  refine au [17,2,3,4,4,5,1,6,3,20] ?_
  refine ⟨fun hc0=>?_,fun hc0=>?_⟩
  ·
   refine au [4,5,39,1,17,2,3] ?_
   refine TK.rt hret [(0,_),(s,_),(h,_),(e,_)] ?_
   exact .inl ⟨hbar,rfl,rfl⟩
  exact absurd hbar (by simpa using hc0)
 ·refine au [1,10,10,22] ?_
  intro j4 hj4
  refine au [17,2,3,4,4,5,1,6,3,20] ?_
  refine ⟨fun hc0=>?_,fun hc0=>?_⟩
  ·
   refine au [4,5,39,1,17,2,3] ?_
   refine TK.rt hret [(0,_),(s,_),(h,_),(e,_)] ?_
   exact .inr (.inl ⟨hbar,hnil,rfl,rfl⟩)
  exact absurd hc0 dQ
 ·refine au [1,10,10,22] ?_
  intro j4 hj4
  refine au [17,2,3,4,4,5,1,6,3,20] ?_
  refine ⟨fun hc0=>?_,fun hc0=>?_⟩
  ·exact absurd hc0 sQ
  have hbb:=zZ hbar
  have hlen:=kf hbb
  have hpos:0<(zf b).length:=List.length_pos_iff.2 hne
  have hall:okAll b (zf b):=fun st hst=>(y7 hbb hst).1
  refine au [12,4,5,2] ?_
  refine TK.virt 6 3 1 Z fun jt0 hjt0=>?_
  refine au [3,4,4,5,7,9,28,1,3,13] ?_
  refine TK.maskL [2,3,4,6,19,20,21] ?_
  refine TK.kp [(a,_),(0,_),(s,_),(h,_),(e,_),(j4,_),(jr,_),(jt0,_)] ?_
  refine TK.loopN (fun n env K=>∃ (i jt:Nat),n=(zf b).length - i/\i<=(zf b).length/\env=naL 2 (.ptr jr 0::intA 0::.ptr j4 0::.any::.row jt i::naL 12 (.sl a 0 (zf b).length::intA (zf b).length::intA i::naL 17 []))/\K=[(a,allO (zf b)),(0,zy),(s,zk b),(h,zB b),(e,zq b),(j4,.cells (knownC b s h e a (zf b).length) 139 true),(jr,.cells [intA 0,intA 0] 51 true),(jt,.row ((((zf b).take i).map (freshM b)).map intA) 3 1)]) (zf b).length ⟨0,jt0,rfl,mN _,rfl,rfl⟩ fun n env K hI hnext=>?_
  obtain ⟨i,jt,rfl,hi,rfl,rfl⟩:=hI
  refine TK.na nQ ?_
  refine au [4,5,6,3,4,20] ?_
  refine ⟨fun hc1=>?_,fun hc1=>?_⟩
  ·have hil:i<(zf b).length:=by simp at hc1; omega
   obtain ⟨st,hst⟩:∃ st,(zf b)[i]? =some st:=⟨_,lA hil⟩
   have hsk:=hall st (lN hst)
   refine au [12,4,13,4,5,36] ?_
   refine TK.a Z (z8 Z Z zi.h mQ (zaJ (i:=i) hst Z)) ?_
   refine au [22] ?_
   intro j8 hj8
   refine au [17,3,5,1,7,8,8] ?_
   refine TK.cl Z Z Z Z (zcm hT hbb hsk) ?_ (hs:=(.none _))
   rintro r4 K5 ⟨rfl,rfl⟩
   refine au [] ?_
   refine TK.newR Z Z Z (zt (l:=[_]) Z zF.h TyZ.h dQ dQ Z) (fun _=>zu rfl tQ) fun j7 hj7=>?_
   refine TK.appR Z Z Z (a_app Z ApOf.h Z mQ (by simp; omega) Z (yu (ln:=[_]) mQ dQ sQ Z) oQ Z (by unfold maxLen; omega) oQ) (fun _=>uQ) (fun _=>zu rfl tQ) fun jt2=>?_
   refine au [2,3,14,5,23,1,3] ?_
   refine TK.maskL [2,3,4,6,19,20,21] ?_
   refine TK.kp [(a,_),(0,_),(s,_),(h,_),(e,_),(j4,_),(jr,_),(jt2,_)] ?_
   exact hnext _ _ _ oQ ⟨i+1,jt2,rfl,by omega,rfl,by rw [yP hst,lM,lM]; rfl⟩
  obtain rfl:i=(zf b).length:=by simp at hc1; omega
  obtain ⟨x,xs,hxs⟩:∃ x xs,(zf b).map (freshM b)=x::xs:=by
   cases hh:zf b with
   | nil=>exact absurd hh hne
   | cons y r=>exact ⟨_,_,rfl⟩
  have hxl:(zf b).length=xs.length+1:=by have:=congrArg List.length hxs; simpa using this
  rw [List.take_of_length_le (mL _),hxs,hxl]
  refine au [16,4] ?_
  refine TK.draw [0,1,2,3,4,5,6,7] [0,1,2,3,4,5,6,7] (by kernel_rfl) (by kernel_rfl) ?_
  refine TD.z [6] Z (zh Z Z) ?_
  refine TD.y [33] Z (hq:=kA Z Z Z zF.h (mC _) oQ oQ) (h:=?_)
  refine TD.y [34] Z (hq:=zm Z Z zi.h (mC _) Z) (h:=?_)
  refine TD.z [6] Z (zh Z Z) ?_
  refine TD.y [36] Z (hq:=wy Z Z zF.h (mC _) Z Z oQ oQ Z) (h:=?_)
  refine TD.cl (pend':=[⟨3,[6],[]⟩,⟨1,[33],[(_,_)]⟩,⟨0,[6],[]⟩]) [35,37] Z Z Z Z Z (zbV hT (x:=x) (xs:=xs) (off:=1) (ob:=.row ((x::xs).map intA) 3 1) (fun i y hy=>kD (l:=x::xs) (i:=i+1) (by simpa using hy) oQ) oQ) (fun r8 K9 h10=>⟨?_,?_⟩)
  ·rcases h10 with ⟨rfl,rfl⟩
   all_goals simp
  obtain ⟨rfl,rfl⟩:=h10
  try simp only [cA]
  refine TD.norm tQ ?_
  refine TD.s (pend':=[]) [2,38] Z Z (zX Z Z zi.h Z Z mQ Z) ?_
  refine TD.as (pend':=[]) [] Z Z (zD Z Z) ?_
  refine TD.fin ?_
  refine au [] ?_
  refine TK.rt hret [(0,_),(s,_),(h,_),(e,_)] ?_
  exact .inr (.inr ⟨hbar,hne,by unfold newM; rw [hxs]; rfl,rfl⟩)
end Go.Vel
end
