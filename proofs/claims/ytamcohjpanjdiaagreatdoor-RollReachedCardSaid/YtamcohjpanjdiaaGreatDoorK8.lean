/- Texts for the statements of chapter 8: what all of them need, part 9. It holds of every program, tape and world that the statements name, as each theorem says. -/
import Derived.Test.YtamcohjpanjdiaaGreatDoorK7
section
set_option linter.all false
set_option maxRecDepth 20000
set_option maxHeartbeats 60000000
open Go.Proofs.Tryz renaming prog -> tp
open List.Mem renaming head -> mC
namespace Go.Vel
open Go Go.Conc
theorem pendS {ops:Array Oper} {i:Nat} {pend pend':List Pd} {es:List Nat} (h:edgesOf .any ops i=es) (h2:(pend.filter fun p => !(es.elem p.i))=pend'):pendOf ops i pend=pend':=by unfold pendOf; rw [h]; exact h2
theorem x_len:(exB.seams.length<=100)/\(exB.measures.length<=100):=by decide
theorem wm:zr exB=0:=by decide +kernel
theorem zd6:bar2 (zr exB) (cutsM exB [1,2])=0:=by decide +kernel
theorem zd5:bar2 (zr exB) (cutsM exB [0,1])=0:=by decide +kernel
theorem zbw:bar2 (zr exB) (cutsM exB [0,2])=0:=by decide +kernel
theorem zgH:stripsM exB [1,2]=[(1,4),(2,8)]:=by decide +kernel
theorem zgE:fitsM exB [0,1]=true:=by decide +kernel
theorem zgF:fitsM exB [0,2]=false:=by decide +kernel
theorem x_h1:bar2 (zr exB) (bar2 (cutsM exB [0,1]) (shM exB [1,0,1]))=0:=by decide +kernel
theorem zd7:hangM exB [0,1] [1,0,1]=some ([3,2],13):=by decide +kernel
theorem x_h2:bar2 (zr exB) (bar2 (cutsM exB [0,1]) (shM exB [0,0,1]))=0:=by decide +kernel
theorem zd8:hangM exB [0,1] [0,0,1]=some ([2,2],11):=by decide +kernel
theorem zgG:placesM exB [0,1] [0,0,1] [2,2]=[0,7]:=by decide +kernel
theorem zaI:zf exB=[[0,0,0],[0,0,1],[1,0,0],[1,0,1]]:=by decide +kernel
theorem x_ne:zf exB≠[]:=by rw [zaI]; decide
theorem x_th2:bar2 (zr exB) (thereM exB 2)=0:=by decide +kernel
theorem ziQ:shrM exB 2=[0,1]:=by decide +kernel
theorem x_new:newM exB=(3,5):=by decide +kernel
theorem zhF:canM exB [0,1]=1:=by decide +kernel
theorem zhG:canM exB [0,2]=2:=by decide +kernel
theorem ziN:betw 16 exB.steps 40=true:=by decide +kernel
theorem ziL:bar2 (zr (atRound exB 16)) (cutsM (atRound exB 16) [0,1])=0:=by decide +kernel
theorem ziP:zf (atRound exB 16)≠[]:=by decide +kernel
theorem zhH:canM (atRound exB 16) [0,1]=0:=by decide +kernel
theorem ziT:squaresM exB (zf exB) [1,2]=some (9,15):=by decide +kernel
theorem ziS:squaresM exB (zf exB) [0,2]=none:=by decide +kernel
theorem ziR:squaresM exB (zf exB) [0,1]=some (9,13):=by decide +kernel
theorem zgI:widestM exB (zf exB)=some 16:=by decide +kernel
theorem x_ask:askM exB (zf exB)=(0,2):=by decide +kernel
def exM:RBk:=yd exB ⟨2,2,7⟩
theorem x_mc:zr exM=0:=by decide +kernel
theorem x_mst:zf exM=[[0,0,1],[1,0,0]]:=by decide +kernel
theorem ziO:newM exM=(4,4):=by decide +kernel
theorem x_mne:zf exM≠[]:=by rw [x_mst]; decide
def exD:RBk:=driedB exB (0:Int).toNat (dryX exB 0 ⟨1,5⟩)
theorem x_d1:bar2 (zr exB) (thereM exB 0)=0/\isBd ⟨1,5⟩ 0 5=true/\(dryX exB 0 ⟨1,5⟩).low<=(dryX exB 0 ⟨1,5⟩).high:=by decide +kernel
theorem x_d2:bar2 (zr exB) (thereM exB 1)=0/\isBd ⟨1,2⟩ 0 5=true/\(dryX exB 1 ⟨1,2⟩).high<(dryX exB 1 ⟨1,2⟩).low:=by decide +kernel
theorem x_dc:zr exD=0:=by decide +kernel
theorem x_dst:zf exD=[[1,0,0],[1,0,1]]:=by decide +kernel
theorem x_dne:zf exD≠[]:=by rw [x_dst]; decide
theorem x_dth:bar2 (zr exD) (thereM exD 0)=0:=by decide +kernel
theorem ziM:shrM exD 0=[1]:=by decide +kernel
def exC1:RBk:=yd exB ⟨0,1,5⟩
def exC:RBk:=yd exC1 ⟨2,2,6⟩
theorem x_cc:zr exC=0:=by decide +kernel
theorem x_cst:zf exC=[]:=by decide +kernel
theorem zd4:clashM exC=some [0,1]:=by decide +kernel
theorem zd3:zw 3 3=[0,1]:=by decide
theorem x_hi3:sqOk exB (zf exB) (zw 3 3)=true/\sqHi exB (zf exB) (zw 3 3)=13:=by
 unfold sqOk sqHi
 rw [zd3,ziR]
 exact ⟨rfl,rfl⟩
theorem ziK:∀ c:Fin 8,0<c.1->sqOk exB (zf exB) (zw c.1 3)=true->c.1≠3->(zw 3 3,sqHi exB (zf exB) (zw 3 3))≠(zw c.1 3,sqHi exB (zf exB) (zw c.1 3))/\cheaperM (zw c.1 3,sqHi exB (zf exB) (zw c.1 3)) (zw 3 3,sqHi exB (zf exB) (zw 3 3))=false/\shorterM (zw c.1 3,sqHi exB (zf exB) (zw c.1 3)) (zw 3 3,sqHi exB (zf exB) (zw 3 3))=false:=by decide +kernel
theorem zfC {bt:List Int×Int->List Int×Int->Bool} {c:Nat} (hbt:bt=cheaperM\/bt=shorterM) (h:PlanA exB (zf exB) bt c):zw c exB.seams.length=[0,1]/\sqHi exB (zf exB) (zw c exB.seams.length)=13:=by
 obtain ⟨h0,h1,h2,h3⟩:=h
 have e3:exB.seams.length=3:=rfl
 rw [e3] at h1 h2 h3 ⊢
 by_cases hc:c=3
 ·subst hc
  exact ⟨zd3,x_hi3.2⟩
 ·exfalso
  have h8:c<8:=h1
  obtain ⟨q1,q2,q3⟩:=ziK ⟨c,h8⟩ h0 h2 hc
  rcases h3 3 dQ dQ x_hi3.1 with h | h
  ·exact q1 h
  ·rcases hbt with rfl | rfl
   ·rw [q2] at h; cases h
   ·rw [q3] at h; cases h
theorem zdh (h:NoPlan exB (zf exB)):False:=by
 have:=h 3 dQ dQ
 have e3:exB.seams.length=3:=rfl
 rw [e3,x_hi3.1] at this
 cases this
theorem or2 {x:Int} {A B:Prop} (h:(x≠0/\A)\/(x=0/\B)) (hx:x=0):B:=by
 rcases h with ⟨h,_⟩ | ⟨_,h⟩
 ·exact absurd hx h
 ·exact h
theorem or3 {x:Int} {A B C D:Prop} (h:(x≠0/\A)\/(x=0/\D/\B)\/(x=0/\¬ D/\C)) (hx:x=0) (hd:¬ D):C:=by
 rcases h with ⟨h,_⟩ | ⟨_,h,_⟩ | ⟨_,_,h⟩
 ·exact absurd hx h
 ·exact absurd h hd
 ·exact h
theorem or3b {x:Int} {A B C D:Prop} (h:(x≠0/\A)\/(x=0/\D/\B)\/(x=0/\C)) (hx:x=0) (hd:¬ D):C:=by
 rcases h with ⟨h,_⟩ | ⟨_,h,_⟩ | ⟨_,h⟩
 ·exact absurd hx h
 ·exact absurd h hd
 ·exact h
theorem or3c {x:Int} {y:Bool} {A B C:Prop} (h:(x≠0/\A)\/(x=0/\y=false/\B)\/(x=0/\y=true/\C)) (hx:x=0) (hy:y=true):C:=by
 rcases h with ⟨h,_⟩ | ⟨_,h,_⟩ | ⟨_,_,h⟩
 ·exact absurd hx h
 ·rw [hy] at h; cases h
 ·exact h
theorem or4 {x u v:Int} {y:Bool} {A B C D:Prop} (h:(x≠0/\A)\/(x=0/\y=false/\B)\/(x=0/\y=true/\u<v/\C)\/(x=0/\y=true/\v<=u/\D)) (hx:x=0/\y=true/\v<=u):D:=by
 obtain ⟨h1,h2,h3⟩:=hx
 rcases h with ⟨h,_⟩ | ⟨_,h,_⟩ | ⟨_,_,h,_⟩ | ⟨_,_,_,h⟩
 ·exact absurd h1 h
 ·rw [h2] at h; cases h
 ·omega
 ·exact h
theorem or4c {x u v:Int} {y:Bool} {A B C D:Prop} (h:(x≠0/\A)\/(x=0/\y=false/\B)\/(x=0/\y=true/\u<v/\C)\/(x=0/\y=true/\v<=u/\D)) (hx:x=0/\y=true/\u<v):C:=by
 obtain ⟨h1,h2,h3⟩:=hx
 rcases h with ⟨h,_⟩ | ⟨_,h,_⟩ | ⟨_,_,_,h⟩ | ⟨_,_,h,_⟩
 ·exact absurd h1 h
 ·rw [h2] at h; cases h
 ·exact h
 ·omega
theorem orCl {x:Int} {A B C D E F:Prop} (h:(x≠0/\A)\/(x=0/\¬ D/\B)\/(x=0/\D/\E/\C)\/(x=0/\D/\F)) (hx:x=0) (hd:D) (he:¬ E):F:=by
 rcases h with ⟨h,_⟩ | ⟨_,h,_⟩ | ⟨_,_,h,_⟩ | ⟨_,_,h⟩
 ·exact absurd hx h
 ·exact absurd hd h
 ·exact absurd h he
 ·exact h
theorem trT {r:AV} {P Q:Prop} [Decidable P] (h:r=zP (decide P)/\Q) (hp:P):r=zP true/\Q:=⟨by rw [h.1,decide_eq_true hp],h.2⟩
theorem zcz {xs zs:List Int} {i:Nat} {x:Int} {e:TypeId} {rw':Bool} (h:xs[i]? =some x):takeO (.cells ((xs++zs).map intA) e rw') (0+(i:Int).toNat*1) 1=some [intA x]:=yh (by rw [List.getElem?_append_left (List.getElem?_eq_some_iff.1 h).1]; exact h) rfl
theorem x_v12:sqLo exB (zf exB) [1,2]=9/\sqHi exB (zf exB) [1,2]=15/\sqOk exB (zf exB) [1,2]=true:=by
 unfold sqLo sqHi sqOk
 rw [ziT]
 exact ⟨rfl,rfl,rfl⟩
theorem x_v02:sqLo exB (zf exB) [0,2]=0/\sqHi exB (zf exB) [0,2]=0/\sqOk exB (zf exB) [0,2]=false:=by
 unfold sqLo sqHi sqOk
 rw [ziS]
 exact ⟨rfl,rfl,rfl⟩
theorem agr3 {b:RBk} {K:KV} {r:AV} {K':KV} (h:AgrR b K r K') (hx:zr b=0) (hn:zf b≠[]):∃ s h e,r=.tup [.agg (zE b s h e),intA 0]/\K'=(s,zk b)::(h,zB b)::(e,zq b)::K:=or3 h hx hn
end Go.Vel
namespace Go.Vel
open Go Go.Conc Go.Proofs
instance:BlOf tp 49 [(0,1),(1,1),(2,1)]:={}
instance:Cal tp 20:={}
instance:Cal tp 22:={}
instance:Cal tp 26:={}
instance:Cal tp 27:={}
instance:Cal tp 30:={}
instance:Cal tp 32:={}
instance:Cal tp 34:={}
instance:Cal tp 36:={}
instance:Cal tp 38:={}
instance:Cal tp 40:={}
instance:Cal tp 42:={}
instance:Cal tp 45:={}
instance:Cal tp 47:={}
instance:Cal tp 51:={}
instance:Cal tp 52:={}
instance:Cal tp 53:={}
instance:Cal tp 54:={}
instance:Cal tp 59:={}
instance:Cal tp 70:={}
instance:Cal tp 88:={}
instance:Cal tp 89:={}
instance:EqG tp 51:={}
instance:FlatF tp 51 [(3,0),(3,1)]:={}
theorem zi5 {Ψ:Goroutine->World->Prop}  :
  zA tp (BT tp Ψ) gmR 19 [] [(0,zy)] (fun r K'=>r=zP true/\K'=[(0,zy)]):=by
 have hT:=kH (P:=tp) Ψ
 refine zp 407 hT Tryz.func19 fun Y hret=>?_
 refine au [4,5,2,3,4,5] ?_
 refine TK.cl Z Z Z Z (zeg hT) ?_
 rintro r1 K2 ⟨s,h,e,rfl,rfl⟩
 refine au [22] ?_
 intro j1 hj1
 refine au [17,3,4] ?_
 refine TK.kp [(0,_),(s,_),(h,_),(e,_),(j1,_)] ?_
 refine au [5,8] ?_
 refine TK.newR Z Z Z (zt (l:=[_,_]) Z zF.h TyZ.h dQ dQ Z) (fun _=>zu rfl tQ) fun ja2 hja2=>?_
 refine TK.asSl 35 Z mQ ?_
 refine TK.frzRow (j:=ja2) ?_
 refine au [] ?_
 refine TK.cl Z Z Z Z ((zhO hT (b:=exB) (l:=[1,2]) x_len.1 x_len.2 dQ).mono (fun _ _ h=>or2 h zd6)) ?_
 rintro r4 K5 ⟨jr,rfl,rfl⟩
 refine au [] ?_
 rw [zgH]
 refine au [1,10,10,2,2,3,4] ?_
 refine TK.asSl 2 Z mQ ?_
 refine TK.frzRow (j:=jr) ?_
 refine au [] ?_
 refine TK.kp [(0,_),(s,_),(h,_),(e,_),(j1,_),(jr,_)] ?_
 refine au [5,8] ?_
 refine TK.newR Z Z Z (zt (l:=[_,_]) Z zF.h TyZ.h dQ dQ Z) (fun _=>zu rfl tQ) fun ja3 hja3=>?_
 refine TK.asSl 41 Z mQ ?_
 refine TK.frzRow (j:=ja3) ?_
 refine au [] ?_
 refine TK.cl Z Z Z Z (zaN hT (b:=exB) (l:=[0,1]) x_len.1 x_len.2 dQ) ?_
 rintro r7 K8 ⟨rfl,rfl⟩
 refine au [] ?_
 rw [zd5,zgE]
 refine au [1,10,10,2,2,3,4] ?_
 refine TK.kp [(0,_),(s,_),(h,_),(e,_),(j1,_),(jr,_)] ?_
 refine au [5,8] ?_
 refine TK.newR Z Z Z (zt (l:=[_,_]) Z zF.h TyZ.h dQ dQ Z) (fun _=>zu rfl tQ) fun ja4 hja4=>?_
 refine TK.asSl 47 Z mQ ?_
 refine TK.frzRow (j:=ja4) ?_
 refine au [] ?_
 refine TK.cl Z Z Z Z (zaN hT (b:=exB) (l:=[0,2]) x_len.1 x_len.2 dQ) ?_
 rintro r10 K11 ⟨rfl,rfl⟩
 refine au [] ?_
 rw [zbw,zgF]
 refine au [1,10,10,2,2,3,4] ?_
 refine TK.kp [(0,_),(s,_),(h,_),(e,_),(j1,_),(jr,_)] ?_
 refine au [5,8] ?_
 refine TK.newR Z Z Z (zt (l:=[_,_]) Z zF.h TyZ.h dQ dQ Z) (fun _=>zu rfl tQ) fun ja5 hja5=>?_
 refine TK.newR Z Z Z (zt (l:=[_,_,_]) Z zF.h TyZ.h dQ dQ Z) (fun _=>zu rfl tQ) fun jb5 hjb5=>?_
 refine TK.asSl 53 Z mQ ?_
 refine TK.frzRow (j:=ja5) ?_
 refine au [] ?_
 refine TK.asSl 54 Z mQ ?_
 refine TK.frzRow (j:=jb5) ?_
 refine au [] ?_
 refine TK.cl Z Z Z Z ((zei hT (b:=exB) (l:=[0,1]) (st:=[1,0,1]) x_len.1 x_len.2 dQ).mono (fun _ _ h=>or3b h x_h1 (by rw [zd7]; exact fun h=>nomatch h))) ?_
 rintro r13 K14 ⟨w5,q5,jw,hw,rfl,rfl⟩
 refine au [] ?_
 rw [zd7] at hw
 cases hw
 refine au [1,10,10,10,10,2,2,2,2,3,4] ?_
 refine TK.kp [(0,_),(s,_),(h,_),(e,_),(j1,_),(jr,_),(jw,_)] ?_
 refine au [5,8] ?_
 refine TK.newR Z Z Z (zt (l:=[_,_]) Z zF.h TyZ.h dQ dQ Z) (fun _=>zu rfl tQ) fun ja6 hja6=>?_
 refine TK.newR Z Z Z (zt (l:=[_,_,_]) Z zF.h TyZ.h dQ dQ Z) (fun _=>zu rfl tQ) fun jb6 hjb6=>?_
 refine TK.asSl 62 Z mQ ?_
 refine TK.frzRow (j:=ja6) ?_
 refine au [] ?_
 refine TK.asSl 63 Z mQ ?_
 refine TK.frzRow (j:=jb6) ?_
 refine au [] ?_
 refine TK.cl Z Z Z Z ((zcR hT (b:=exB) (l:=[0,1]) (st:=[0,0,1]) x_len.1 x_len.2 dQ).mono (fun _ _ h=>or3b h x_h2 (by rw [zd8]; exact fun h=>nomatch h))) ?_
 rintro r16 K17 ⟨w6,q6,jp,hw,rfl,rfl⟩
 refine au [] ?_
 rw [zd8] at hw
 cases hw
 rw [zgG]
 refine au [1,10,10,10,2,2,2,3,4] ?_
 refine TK.asSl 12 Z mQ ?_
 refine TK.frzRow (j:=jp) ?_
 refine au [] ?_
 refine TK.kp [(0,_),(s,_),(h,_),(e,_),(j1,_),(jr,_),(jw,_),(jp,_)] ?_
 refine au [5,8] ?_
 refine TK.cl Z Z Z Z (uS hT (b:=exB) x_len.1 x_len.2) ?_
 rintro r19 K20 ⟨rfl,rfl⟩
 refine au [] ?_
 rw [wm,if_pos rfl,zaI]
 refine au [1,10,10,2,2,3,4] ?_
 refine TK.kp [(0,_),(s,_),(h,_),(e,_),(j1,_),(jr,_),(jw,_),(jp,_)] ?_
 refine au [5,8] ?_
 refine TK.cl Z Z Z Z ((za5 hT (b:=exB) (n:=2) x_len.1 x_len.2 (by rw [zaI]; decide)).mono (fun _ _ h=>or3 h x_th2 x_ne)) ?_
 rintro r22 K23 ⟨js8,zs8,rfl,rfl⟩
 refine au [] ?_
 rw [ziQ]
 refine au [1,10,10,2,2,3,4] ?_
 refine TK.kp [(0,_),(s,_),(h,_),(e,_),(j1,_),(jr,_),(jw,_),(jp,_),(js8,_)] ?_
 refine au [5,8] ?_
 refine TK.cl Z Z Z Z ((ze3 hT (b:=exB) x_len.1 x_len.2).mono (fun _ _ h=>or3 h wm x_ne)) ?_
 rintro r25 K26 ⟨rfl,rfl⟩
 refine au [] ?_
 rw [x_new]
 refine au [1,10,10,22] ?_
 intro j19 hj19
 refine au [17,2,3,4] ?_
 refine TK.kp [(0,_),(s,_),(h,_),(e,_),(j1,_),(jr,_),(jw,_),(jp,_),(js8,_),(j19,_)] ?_
 refine au [5,8] ?_
 refine TK.newR Z Z Z (zt (l:=[_,_]) Z zF.h TyZ.h dQ dQ Z) (fun _=>zu rfl tQ) fun ja10 hja10=>?_
 refine TK.asSl 85 Z mQ ?_
 refine TK.frzRow (j:=ja10) ?_
 refine au [] ?_
 refine TK.cl Z Z Z Z ((zcg hT (b:=exB) (l:=[0,1]) x_len.1 x_len.2 dQ).mono (fun _ _ h=>or3 h zd5 x_ne)) ?_
 rintro r28 K29 ⟨rfl,rfl⟩
 refine au [] ?_
 rw [zhF]
 refine au [1,10,10,2,2,3,4] ?_
 refine TK.kp [(0,_),(s,_),(h,_),(e,_),(j1,_),(jr,_),(jw,_),(jp,_),(js8,_),(j19,_)] ?_
 refine au [5,8] ?_
 refine TK.newR Z Z Z (zt (l:=[_,_]) Z zF.h TyZ.h dQ dQ Z) (fun _=>zu rfl tQ) fun ja11 hja11=>?_
 refine TK.asSl 91 Z mQ ?_
 refine TK.frzRow (j:=ja11) ?_
 refine au [] ?_
 refine TK.cl Z Z Z Z ((zcg hT (b:=exB) (l:=[0,2]) x_len.1 x_len.2 dQ).mono (fun _ _ h=>or3 h zbw x_ne)) ?_
 rintro r31 K32 ⟨rfl,rfl⟩
 refine au [] ?_
 rw [zhG]
 refine au [1,10,10,2,2,3,4,4] ?_
 refine TK.kp [(0,_),(s,_),(h,_),(e,_),(j1,_),(jr,_),(jw,_),(jp,_),(js8,_),(j19,_)] ?_
 refine au [5,1,6,1,1,6,25,1,1,6,25,1,1,6,25,1,1,6,25,1,1,6,25,1,1,6,25,1,1,6,25,1,1,6,25,1,1,6,25,3,19,12,4,4] ?_
 refine TK.kp [(0,_),(s,_),(h,_),(e,_),(j1,_),(jr,_),(jw,_),(jp,_),(js8,_),(j19,_)] ?_
 refine TK.draw [0,1,2,3,4,5,6,7,8,9,10,11,12,13,14,15,16,17,18,19,20,21,22,23,24,25,26,27,28,29,30,31,32,33,34,35,36,37,38,39,40,41,42,43,44,45,46,47,48,49,50,51,52,53,54,55,56,57,58,59] [0,1,2,3,4,5,6,7,8,9,10,11,12,13,14,15,16,17,18,19,20,21,22,23,24,25,26,27,28,29,30,31,32,33,34,35,36,37,38,39,40,41,42,43,44,45,46,47,48,49,50,51,52,53,54,55,56,57,58,59] (by kernel_rfl) (by kernel_rfl) ?_
 refine TD.z [2] Z (zh Z Z) ?_
 refine TD.z [] Z (yD (l:=[_,_]) Z TyZ.h BlOf.h Z) ?_
 refine TD.z [] Z (yD (l:=[_,_]) Z TyZ.h BlOf.h Z) ?_
 refine TD.cnewR (pend':=[Pd.mk 0 [2] []]) [134,135] Z Z Z (pendS (es:=[1,2]) Z Z) Z (zt (l:=[_,_,_,_]) Z zF.h TyZ.h dQ dQ Z) (fun _=>zu rfl tQ) sQ fun jy1 hjy1=>?_
 refine TD.cl (pend':=[]) [133,136] Z (pendS (es:=[0,3]) Z Z) Z Z Z ((zbp hT (xs:=[(1,4),(2,8)]) (ys:=[(1,4),(2,8)]) (off:=0) (ob:=.cells (([(1,4),(2,8)]:List (Int×Int)).flatMap pairC) 96 false) (fun i x hx=>w9 (c:=2) (f:=pairC) (fun _=>rfl) hx rfl dQ) dQ).mono (fun _ _ h=>trT h rfl)) (fun r34 K35 h36=>⟨?_,?_⟩)
 ·rcases h36 with ⟨rfl,rfl⟩
  all_goals simp
 obtain ⟨rfl,rfl⟩:=h36
 try simp only [cA]
 refine TD.norm tQ ?_
 refine TD.z [137] Z (q_not Z Z) ?_
 refine TD.z [138] Z (zh Z Z) ?_
 refine TD.z [4,139] Z (zh Z Z) ?_
 refine TD.z [139,140] Z (q_not Z Z) ?_
 refine TD.z [139,141] Z (yf Z Z Z) ?_
 refine TD.z [142] Z (zh Z Z) ?_
 refine TD.z [6,143] Z (zh Z Z) ?_
 refine TD.z [143,144] Z (yf Z Z Z) ?_
 refine TD.z [145] Z (zh Z Z) ?_
 refine TD.z [8,146] Z (zh Z Z) ?_
 refine TD.cnewR (pend':=[Pd.mk 14 [8,146] [],Pd.mk 12 [143,144] [],Pd.mk 11 [6,143] [],Pd.mk 10 [142] [],Pd.mk 9 [139,141] [],Pd.mk 8 [139,140] [],Pd.mk 7 [4,139] [],Pd.mk 6 [138] [],Pd.mk 5 [137] []]) [146] Z Z Z (pendS (es:=[13]) Z Z) Z (zt (l:=[_,_]) Z zF.h TyZ.h dQ dQ Z) (fun _=>zu rfl tQ) sQ fun jy2 hjy2=>?_
 refine TD.cl (pend':=[Pd.mk 12 [143,144] [],Pd.mk 11 [6,143] [],Pd.mk 10 [142] [],Pd.mk 9 [139,141] [],Pd.mk 8 [139,140] [],Pd.mk 7 [4,139] [],Pd.mk 6 [138] [],Pd.mk 5 [137] []]) [146,147,148] Z (pendS (es:=[14,15,13,13]) Z Z) Z Z Z ((wG hT (xs:=[3,2]) (ys:=[3,2]) (off:=0) (ob:=.cells (([3,2]:List Int).map intA) 3 false) (fun i x hx=>yh hx rfl) dQ).mono (fun _ _ h=>trT h rfl)) (fun r37 K38 h39=>⟨?_,?_⟩)
 ·rcases h39 with ⟨rfl,rfl⟩
  all_goals simp
 obtain ⟨rfl,rfl⟩:=h39
 try simp only [cA]
 refine TD.norm tQ ?_
 refine TD.z [146,149] Z (q_not Z Z) ?_
 refine TD.z [146,150] Z (yf Z Z Z) ?_
 refine TD.z [151] Z (zh Z Z) ?_
 refine TD.z [9,152] Z (zh Z Z) ?_
 refine TD.z [152,153] Z (q_cmp Z Z Z Z) ?_
 refine TD.z [152,154] Z (yf Z Z Z) ?_
 refine TD.z [155] Z (zh Z Z) ?_
 refine TD.z [10,156] Z (zh Z Z) ?_
 refine TD.z [156,157] Z (q_not Z Z) ?_
 refine TD.z [156,158] Z (yf Z Z Z) ?_
 refine TD.z [159] Z (zh Z Z) ?_
 refine TD.z [12,160] Z (zh Z Z) ?_
 refine TD.cnewR (pend':=[Pd.mk 28 [12,160] [],Pd.mk 26 [156,158] [],Pd.mk 25 [156,157] [],Pd.mk 24 [10,156] [],Pd.mk 23 [155] [],Pd.mk 22 [152,154] [],Pd.mk 21 [152,153] [],Pd.mk 20 [9,152] [],Pd.mk 19 [151] [],Pd.mk 18 [146,150] [],Pd.mk 17 [146,149] [],Pd.mk 12 [143,144] [],Pd.mk 11 [6,143] [],Pd.mk 10 [142] [],Pd.mk 9 [139,141] [],Pd.mk 8 [139,140] [],Pd.mk 7 [4,139] [],Pd.mk 6 [138] [],Pd.mk 5 [137] []]) [160] Z Z Z (pendS (es:=[27]) Z Z) Z (zt (l:=[_,_]) Z zF.h TyZ.h dQ dQ Z) (fun _=>zu rfl tQ) sQ fun jy3 hjy3=>?_
 refine TD.cl (pend':=[Pd.mk 26 [156,158] [],Pd.mk 25 [156,157] [],Pd.mk 24 [10,156] [],Pd.mk 23 [155] [],Pd.mk 22 [152,154] [],Pd.mk 21 [152,153] [],Pd.mk 20 [9,152] [],Pd.mk 19 [151] [],Pd.mk 18 [146,150] [],Pd.mk 17 [146,149] [],Pd.mk 12 [143,144] [],Pd.mk 11 [6,143] [],Pd.mk 10 [142] [],Pd.mk 9 [139,141] [],Pd.mk 8 [139,140] [],Pd.mk 7 [4,139] [],Pd.mk 6 [138] [],Pd.mk 5 [137] []]) [160,161,162] Z (pendS (es:=[28,29,27,27]) Z Z) Z Z Z ((wG hT (xs:=[0,7]) (ys:=[0,7]) (off:=0) (ob:=.cells (([0,7]:List Int).map intA) 3 false) (fun i x hx=>yh hx rfl) dQ).mono (fun _ _ h=>trT h rfl)) (fun r40 K41 h42=>⟨?_,?_⟩)
 ·rcases h42 with ⟨rfl,rfl⟩
  all_goals simp
 obtain ⟨rfl,rfl⟩:=h42
 try simp only [cA]
 refine TD.norm tQ ?_
 refine TD.z [160,163] Z (q_not Z Z) ?_
 refine TD.z [160,164] Z (yf Z Z Z) ?_
 refine TD.z [165] Z (zh Z Z) ?_
 refine TD.z [13,166] Z (zh Z Z) ?_
 refine TD.z [166,167] Z (q_not Z Z) ?_
 refine TD.z [166,168] Z (yf Z Z Z) ?_
 refine TD.z [169] Z (zh Z Z) ?_
 refine TD.z [15,170] Z (zh Z Z) ?_
 refine TD.z [170,171] Z (q_cmp Z Z Z Z) ?_
 refine TD.z [170,172] Z (yf Z Z Z) ?_
 refine TD.z [173] Z (zh Z Z) ?_
 refine TD.z [17,174] Z (zh Z Z) ?_
 refine TD.cnewR (pend':=[Pd.mk 42 [17,174] [],Pd.mk 40 [170,172] [],Pd.mk 39 [170,171] [],Pd.mk 38 [15,170] [],Pd.mk 37 [169] [],Pd.mk 36 [166,168] [],Pd.mk 35 [166,167] [],Pd.mk 34 [13,166] [],Pd.mk 33 [165] [],Pd.mk 32 [160,164] [],Pd.mk 31 [160,163] [],Pd.mk 26 [156,158] [],Pd.mk 25 [156,157] [],Pd.mk 24 [10,156] [],Pd.mk 23 [155] [],Pd.mk 22 [152,154] [],Pd.mk 21 [152,153] [],Pd.mk 20 [9,152] [],Pd.mk 19 [151] [],Pd.mk 18 [146,150] [],Pd.mk 17 [146,149] [],Pd.mk 12 [143,144] [],Pd.mk 11 [6,143] [],Pd.mk 10 [142] [],Pd.mk 9 [139,141] [],Pd.mk 8 [139,140] [],Pd.mk 7 [4,139] [],Pd.mk 6 [138] [],Pd.mk 5 [137] []]) [174] Z Z Z (pendS (es:=[41]) Z Z) Z (zt (l:=[_,_]) Z zF.h TyZ.h dQ dQ Z) (fun _=>zu rfl tQ) sQ fun jy4 hjy4=>?_
 refine TD.cl (pend':=[Pd.mk 40 [170,172] [],Pd.mk 39 [170,171] [],Pd.mk 38 [15,170] [],Pd.mk 37 [169] [],Pd.mk 36 [166,168] [],Pd.mk 35 [166,167] [],Pd.mk 34 [13,166] [],Pd.mk 33 [165] [],Pd.mk 32 [160,164] [],Pd.mk 31 [160,163] [],Pd.mk 26 [156,158] [],Pd.mk 25 [156,157] [],Pd.mk 24 [10,156] [],Pd.mk 23 [155] [],Pd.mk 22 [152,154] [],Pd.mk 21 [152,153] [],Pd.mk 20 [9,152] [],Pd.mk 19 [151] [],Pd.mk 18 [146,150] [],Pd.mk 17 [146,149] [],Pd.mk 12 [143,144] [],Pd.mk 11 [6,143] [],Pd.mk 10 [142] [],Pd.mk 9 [139,141] [],Pd.mk 8 [139,140] [],Pd.mk 7 [4,139] [],Pd.mk 6 [138] [],Pd.mk 5 [137] []]) [174,175,176] Z (pendS (es:=[42,43,41,41]) Z Z) Z Z Z ((wG hT (xs:=[0,1]) (ys:=[0,1]) (off:=0) (ob:=.cells (([0,1]++zs8).map intA) 3 false) (fun i x hx=>zcz hx) dQ).mono (fun _ _ h=>trT h rfl)) (fun r43 K44 h45=>⟨?_,?_⟩)
 ·rcases h45 with ⟨rfl,rfl⟩
  all_goals simp
 obtain ⟨rfl,rfl⟩:=h45
 try simp only [cA]
 refine TD.norm tQ ?_
 refine TD.z [174,177] Z (q_not Z Z) ?_
 refine TD.z [174,178] Z (yf Z Z Z) ?_
 refine TD.z [179] Z (zh Z Z) ?_
 refine TD.y [19,180] Z (hq:=z8 Z Z zi.h (mC _) Z) (h:=?_)
 refine TD.cl (pend':=[Pd.mk 48 [19,180] [(_,_)],Pd.mk 46 [174,178] [],Pd.mk 45 [174,177] [],Pd.mk 40 [170,172] [],Pd.mk 39 [170,171] [],Pd.mk 38 [15,170] [],Pd.mk 37 [169] [],Pd.mk 36 [166,168] [],Pd.mk 35 [166,167] [],Pd.mk 34 [13,166] [],Pd.mk 33 [165] [],Pd.mk 32 [160,164] [],Pd.mk 31 [160,163] [],Pd.mk 26 [156,158] [],Pd.mk 25 [156,157] [],Pd.mk 24 [10,156] [],Pd.mk 23 [155] [],Pd.mk 22 [152,154] [],Pd.mk 21 [152,153] [],Pd.mk 20 [9,152] [],Pd.mk 19 [151] [],Pd.mk 18 [146,150] [],Pd.mk 17 [146,149] [],Pd.mk 12 [143,144] [],Pd.mk 11 [6,143] [],Pd.mk 10 [142] [],Pd.mk 9 [139,141] [],Pd.mk 8 [139,140] [],Pd.mk 7 [4,139] [],Pd.mk 6 [138] [],Pd.mk 5 [137] []]) [180] Z (pendS (es:=[47,47]) Z Z) Z Z Z (to_ok hT) (fun r46 K47 h48=>⟨?_,?_⟩)
 ·rcases h48 with ⟨rfl,rfl⟩
  all_goals simp
 obtain ⟨rfl,rfl⟩:=h48
 try simp only [cA]
 refine TD.norm tQ ?_
 refine TD.z [180,181,182] Z (uO Z Z Z Z Z FlatF.h EqG.h) ?_
 refine TD.z [180,183] Z (yf Z Z Z) ?_
 refine TD.z [184] Z (zh Z Z) ?_
 refine TD.z [21,185] Z (zh Z Z) ?_
 refine TD.z [185,186] Z (q_cmp Z Z Z Z) ?_
 refine TD.z [185,187] Z (yf Z Z Z) ?_
 refine TD.z [188] Z (zh Z Z) ?_
 refine TD.z [23,189] Z (zh Z Z) ?_
 refine TD.z [189,190] Z (q_cmp Z Z Z Z) ?_
 refine TD.z [189,191] Z (yf Z Z Z) ?_
 refine TD.fin ?_
 refine au [19,12,4] ?_
 refine TK.kp [(0,_),(s,_),(h,_),(e,_),(j1,_),(j19,_)] ?_
 refine au [5,8] ?_
 refine TK.cl Z Z Z Z ((zg6 hT (b:=exB) (r0:=16) x_len.1 x_len.2).mono (fun _ _ h=>or3c h wm ziN)) ?_
 rintro r49 K50 ⟨s6,h6,e6,rfl,rfl⟩
 refine au [1,10,10,22] ?_
 intro j25 hj25
 refine au [17,2,3,4] ?_
 refine TK.kp [(0,_),(s,_),(h,_),(e,_),(j1,_),(j19,_),(s6,_),(h6,_),(e6,_),(j25,_)] ?_
 refine au [5,8] ?_
 refine TK.newR Z Z Z (zt (l:=[_,_]) Z zF.h TyZ.h dQ dQ Z) (fun _=>zu rfl tQ) fun ja17 hja17=>?_
 refine TK.asSl 200 Z mQ ?_
 refine TK.frzRow (j:=ja17) ?_
 refine au [] ?_
 refine TK.cl Z Z Z Z ((zcg hT (b:=atRound exB 16) (s:=s6) (h:=h6) (e:=e6) (l:=[0,1]) dQ dQ dQ).mono (fun _ _ h=>or3 h ziL ziP)) ?_
 rintro r52 K53 ⟨rfl,rfl⟩
 refine au [] ?_
 rw [zhH]
 refine au [1,10,10,2,2,3,4] ?_
 refine TK.kp [(0,_),(s,_),(h,_),(e,_),(j1,_),(j19,_)] ?_
 refine au [5,8] ?_
 refine TK.newR Z Z Z (zt (l:=[_,_]) Z zF.h TyZ.h dQ dQ Z) (fun _=>zu rfl tQ) fun ja18 hja18=>?_
 refine TK.asSl 206 Z mQ ?_
 refine TK.frzRow (j:=ja18) ?_
 refine au [] ?_
 refine TK.cl Z Z Z Z ((uv hT (b:=exB) (l:=[1,2]) x_len.1 x_len.2 dQ).mono (fun _ _ h=>or3 h zd6 x_ne)) ?_
 rintro r55 K56 ⟨rfl,rfl⟩
 refine au [] ?_
 rw [x_v12.1,x_v12.2.1,x_v12.2.2,show (if true=true then (0:Int) else 8)=0 from rfl]
 refine au [1,10,10,17,2,3,4] ?_
 refine TK.kp [(0,_),(s,_),(h,_),(e,_),(j1,_),(j19,_)] ?_
 refine au [5,8] ?_
 refine TK.newR Z Z Z (zt (l:=[_,_]) Z zF.h TyZ.h dQ dQ Z) (fun _=>zu rfl tQ) fun ja19 hja19=>?_
 refine TK.asSl 212 Z mQ ?_
 refine TK.frzRow (j:=ja19) ?_
 refine au [] ?_
 refine TK.cl Z Z Z Z ((uv hT (b:=exB) (l:=[0,2]) x_len.1 x_len.2 dQ).mono (fun _ _ h=>or3 h zbw x_ne)) ?_
 rintro r58 K59 ⟨rfl,rfl⟩
 refine au [] ?_
 rw [x_v02.1,x_v02.2.1,x_v02.2.2,show (if false=true then (0:Int) else 8)=8 from rfl]
 refine au [1,10,10,2,3,4] ?_
 refine TK.kp [(0,_),(s,_),(h,_),(e,_),(j1,_),(j19,_)] ?_
 refine au [5,8] ?_
 refine TK.cl Z Z Z Z ((zgP (b:=exB) x_len.1 x_len.2).mono (fun _ _ h=>or3 h wm x_ne)) ?_
 rintro r61 K62 h63
 rcases h63 with ⟨hno,rfl,rfl⟩ | ⟨c,jc,ec,hpl,rfl,rfl⟩
 ·refine au [] ?_
  exact (zdh hno).elim
 ·refine au [] ?_
  obtain ⟨hq1,hq2⟩:=zfC (.inl rfl) hpl
  rw [hq2,hq1]
  refine au [1,10,10,10,10,2,2,2,2,3,4] ?_
  refine TK.kp [(0,_),(s,_),(h,_),(e,_),(j1,_),(j19,_),(jc,_)] ?_
  refine au [5,8] ?_
  refine TK.cl Z Z Z Z ((zeO (b:=exB) x_len.1 x_len.2).mono (fun _ _ h=>or3 h wm x_ne)) ?_
  rintro r64 K65 h66
  rcases h66 with ⟨hno,rfl,rfl⟩ | ⟨c2,jf,ef,hpl2,rfl,rfl⟩
  ·refine au [] ?_
   exact (zdh hno).elim
  ·refine au [] ?_
   obtain ⟨hq3,hq4⟩:=zfC (.inr rfl) hpl2
   rw [hq3]
   refine au [1,10,10,10,2,2,2,3,4] ?_
   refine TK.kp [(0,_),(s,_),(h,_),(e,_),(j1,_),(j19,_),(jc,_),(jf,_)] ?_
   refine au [5,8] ?_
   refine TK.cl Z Z Z Z ((zfy (b:=exB) x_len.1 x_len.2).mono (fun _ _ h=>or3 h wm x_ne)) ?_
   rintro r67 K68 ⟨rfl,rfl⟩
   refine au [] ?_
   rw [zgI]
   refine au [1,10,10,10,2,2,2,3,4,4] ?_
   refine TK.kp [(0,_),(s,_),(h,_),(e,_),(j1,_),(j19,_),(jc,_),(jf,_)] ?_
   refine TK.draw [0,1,2,3,4,5,6,7,8,9,10,11,12,13,14,15,16,17,18,19,20,21,22,23,24,25,26,27,28,29,30,31,32,33,34,35,36,37,38,39,40,41,42,43,44,45,46,47,48,49,50,51,52,53,54,55,56,57,58,59,60,61,62,63,64,65,66] [0,1,2,3,4,5,6,7,8,9,10,11,12,13,14,15,16,17,18,19,20,21,22,23,24,25,26,27,28,29,30,31,32,33,34,35,36,37,38,39,40,41,42,43,44,45,46,47,48,49,50,51,52,53,54,55,56,57,58,59,60,61,62,63,64,65,66] (by kernel_rfl) (by kernel_rfl) ?_
   refine TD.z [3] Z (zh Z Z) ?_
   refine TD.z [235] Z (q_cmp Z Z Z Z) ?_
   refine TD.z [236] Z (zh Z Z) ?_
   refine TD.z [5,237] Z (zh Z Z) ?_
   refine TD.z [237,238] Z (q_cmp Z Z Z Z) ?_
   refine TD.z [237,239] Z (yf Z Z Z) ?_
   refine TD.z [240] Z (zh Z Z) ?_
   refine TD.z [7,241] Z (zh Z Z) ?_
   refine TD.z [241,242] Z (q_cmp Z Z Z Z) ?_
   refine TD.z [241,243] Z (yf Z Z Z) ?_
   refine TD.z [244] Z (zh Z Z) ?_
   refine TD.z [11,245] Z (zh Z Z) ?_
   refine TD.z [245,246] Z (q_cmp Z Z Z Z) ?_
   refine TD.z [245,247] Z (yf Z Z Z) ?_
   refine TD.z [248] Z (zh Z Z) ?_
   refine TD.z [14,249] Z (zh Z Z) ?_
   refine TD.z [249,250] Z (q_cmp Z Z Z Z) ?_
   refine TD.z [249,251] Z (yf Z Z Z) ?_
   refine TD.z [252] Z (zh Z Z) ?_
   refine TD.z [16,253] Z (zh Z Z) ?_
   refine TD.z [253,254] Z (q_cmp Z Z Z Z) ?_
   refine TD.z [253,255] Z (yf Z Z Z) ?_
   refine TD.z [256] Z (zh Z Z) ?_
   refine TD.z [18,257] Z (zh Z Z) ?_
   refine TD.z [257,258] Z (q_cmp Z Z Z Z) ?_
   refine TD.z [257,259] Z (yf Z Z Z) ?_
   refine TD.z [260] Z (zh Z Z) ?_
   refine TD.z [21,261] Z (zh Z Z) ?_
   refine TD.z [261,262] Z (q_cmp Z Z Z Z) ?_
   refine TD.z [261,263] Z (yf Z Z Z) ?_
   refine TD.z [264] Z (zh Z Z) ?_
   refine TD.y [19,265] Z (hq:=z8 Z Z zi.h (mC _) Z) (h:=?_)
   refine TD.cl (pend':=[Pd.mk 31 [19,265] [(_,_)],Pd.mk 29 [261,263] [],Pd.mk 28 [261,262] [],Pd.mk 27 [21,261] [],Pd.mk 26 [260] [],Pd.mk 25 [257,259] [],Pd.mk 24 [257,258] [],Pd.mk 23 [18,257] [],Pd.mk 22 [256] [],Pd.mk 21 [253,255] [],Pd.mk 20 [253,254] [],Pd.mk 19 [16,253] [],Pd.mk 18 [252] [],Pd.mk 17 [249,251] [],Pd.mk 16 [249,250] [],Pd.mk 15 [14,249] [],Pd.mk 14 [248] [],Pd.mk 13 [245,247] [],Pd.mk 12 [245,246] [],Pd.mk 11 [11,245] [],Pd.mk 10 [244] [],Pd.mk 9 [241,243] [],Pd.mk 8 [241,242] [],Pd.mk 7 [7,241] [],Pd.mk 6 [240] [],Pd.mk 5 [237,239] [],Pd.mk 4 [237,238] [],Pd.mk 3 [5,237] [],Pd.mk 2 [236] [],Pd.mk 1 [235] [],Pd.mk 0 [3] []]) [265] Z (pendS (es:=[30,30]) Z Z) Z Z Z (to_ok hT) (fun r70 K71 h72=>⟨?_,?_⟩)
   ·rcases h72 with ⟨rfl,rfl⟩
    all_goals simp
   obtain ⟨rfl,rfl⟩:=h72
   try simp only [cA]
   refine TD.norm tQ ?_
   refine TD.z [265,266,267] Z (uO Z Z Z Z Z FlatF.h EqG.h) ?_
   refine TD.z [265,268] Z (yf Z Z Z) ?_
   refine TD.z [269] Z (zh Z Z) ?_
   refine TD.z [26,270] Z (zh Z Z) ?_
   refine TD.cnewR (pend':=[Pd.mk 36 [26,270] [],Pd.mk 34 [265,268] [],Pd.mk 33 [265,266,267] [],Pd.mk 31 [19,265] [(_,_)],Pd.mk 29 [261,263] [],Pd.mk 28 [261,262] [],Pd.mk 27 [21,261] [],Pd.mk 26 [260] [],Pd.mk 25 [257,259] [],Pd.mk 24 [257,258] [],Pd.mk 23 [18,257] [],Pd.mk 22 [256] [],Pd.mk 21 [253,255] [],Pd.mk 20 [253,254] [],Pd.mk 19 [16,253] [],Pd.mk 18 [252] [],Pd.mk 17 [249,251] [],Pd.mk 16 [249,250] [],Pd.mk 15 [14,249] [],Pd.mk 14 [248] [],Pd.mk 13 [245,247] [],Pd.mk 12 [245,246] [],Pd.mk 11 [11,245] [],Pd.mk 10 [244] [],Pd.mk 9 [241,243] [],Pd.mk 8 [241,242] [],Pd.mk 7 [7,241] [],Pd.mk 6 [240] [],Pd.mk 5 [237,239] [],Pd.mk 4 [237,238] [],Pd.mk 3 [5,237] [],Pd.mk 2 [236] [],Pd.mk 1 [235] [],Pd.mk 0 [3] []]) [270] Z Z Z (pendS (es:=[35]) Z Z) Z (zt (l:=[_,_]) Z zF.h TyZ.h dQ dQ Z) (fun _=>zu rfl tQ) sQ fun jz1 hjz1=>?_
   refine TD.cl (pend':=[Pd.mk 34 [265,268] [],Pd.mk 33 [265,266,267] [],Pd.mk 31 [19,265] [(_,_)],Pd.mk 29 [261,263] [],Pd.mk 28 [261,262] [],Pd.mk 27 [21,261] [],Pd.mk 26 [260] [],Pd.mk 25 [257,259] [],Pd.mk 24 [257,258] [],Pd.mk 23 [18,257] [],Pd.mk 22 [256] [],Pd.mk 21 [253,255] [],Pd.mk 20 [253,254] [],Pd.mk 19 [16,253] [],Pd.mk 18 [252] [],Pd.mk 17 [249,251] [],Pd.mk 16 [249,250] [],Pd.mk 15 [14,249] [],Pd.mk 14 [248] [],Pd.mk 13 [245,247] [],Pd.mk 12 [245,246] [],Pd.mk 11 [11,245] [],Pd.mk 10 [244] [],Pd.mk 9 [241,243] [],Pd.mk 8 [241,242] [],Pd.mk 7 [7,241] [],Pd.mk 6 [240] [],Pd.mk 5 [237,239] [],Pd.mk 4 [237,238] [],Pd.mk 3 [5,237] [],Pd.mk 2 [236] [],Pd.mk 1 [235] [],Pd.mk 0 [3] []]) [270,271,272] Z (pendS (es:=[36,37,35,35]) Z Z) Z Z Z ((wG hT (xs:=[0,1]) (ys:=[0,1]) (off:=0) (ob:=.cells (([0,1]:List Int).map intA) ec false) (fun i x hx=>yh hx rfl) dQ).mono (fun _ _ h=>trT h rfl)) (fun r73 K74 h75=>⟨?_,?_⟩)
   ·rcases h75 with ⟨rfl,rfl⟩
    all_goals simp
   obtain ⟨rfl,rfl⟩:=h75
   try simp only [cA]
   refine TD.norm tQ ?_
   refine TD.z [270,273] Z (q_not Z Z) ?_
   refine TD.z [270,274] Z (yf Z Z Z) ?_
   refine TD.z [275] Z (zh Z Z) ?_
   refine TD.z [9,276] Z (zh Z Z) ?_
   refine TD.z [276,277] Z (q_cmp Z Z Z Z) ?_
   refine TD.z [276,278] Z (yf Z Z Z) ?_
   refine TD.z [279] Z (zh Z Z) ?_
   refine TD.z [10,280] Z (zh Z Z) ?_
   refine TD.z [280,281] Z (q_not Z Z) ?_
   refine TD.z [280,282] Z (yf Z Z Z) ?_
   refine TD.z [283] Z (zh Z Z) ?_
   refine TD.z [27,284] Z (zh Z Z) ?_
   refine TD.cnewR (pend':=[Pd.mk 50 [27,284] [],Pd.mk 48 [280,282] [],Pd.mk 47 [280,281] [],Pd.mk 46 [10,280] [],Pd.mk 45 [279] [],Pd.mk 44 [276,278] [],Pd.mk 43 [276,277] [],Pd.mk 42 [9,276] [],Pd.mk 41 [275] [],Pd.mk 40 [270,274] [],Pd.mk 39 [270,273] [],Pd.mk 34 [265,268] [],Pd.mk 33 [265,266,267] [],Pd.mk 31 [19,265] [(_,_)],Pd.mk 29 [261,263] [],Pd.mk 28 [261,262] [],Pd.mk 27 [21,261] [],Pd.mk 26 [260] [],Pd.mk 25 [257,259] [],Pd.mk 24 [257,258] [],Pd.mk 23 [18,257] [],Pd.mk 22 [256] [],Pd.mk 21 [253,255] [],Pd.mk 20 [253,254] [],Pd.mk 19 [16,253] [],Pd.mk 18 [252] [],Pd.mk 17 [249,251] [],Pd.mk 16 [249,250] [],Pd.mk 15 [14,249] [],Pd.mk 14 [248] [],Pd.mk 13 [245,247] [],Pd.mk 12 [245,246] [],Pd.mk 11 [11,245] [],Pd.mk 10 [244] [],Pd.mk 9 [241,243] [],Pd.mk 8 [241,242] [],Pd.mk 7 [7,241] [],Pd.mk 6 [240] [],Pd.mk 5 [237,239] [],Pd.mk 4 [237,238] [],Pd.mk 3 [5,237] [],Pd.mk 2 [236] [],Pd.mk 1 [235] [],Pd.mk 0 [3] []]) [284] Z Z Z (pendS (es:=[49]) Z Z) Z (zt (l:=[_,_]) Z zF.h TyZ.h dQ dQ Z) (fun _=>zu rfl tQ) sQ fun jz2 hjz2=>?_
   refine TD.cl (pend':=[Pd.mk 48 [280,282] [],Pd.mk 47 [280,281] [],Pd.mk 46 [10,280] [],Pd.mk 45 [279] [],Pd.mk 44 [276,278] [],Pd.mk 43 [276,277] [],Pd.mk 42 [9,276] [],Pd.mk 41 [275] [],Pd.mk 40 [270,274] [],Pd.mk 39 [270,273] [],Pd.mk 34 [265,268] [],Pd.mk 33 [265,266,267] [],Pd.mk 31 [19,265] [(_,_)],Pd.mk 29 [261,263] [],Pd.mk 28 [261,262] [],Pd.mk 27 [21,261] [],Pd.mk 26 [260] [],Pd.mk 25 [257,259] [],Pd.mk 24 [257,258] [],Pd.mk 23 [18,257] [],Pd.mk 22 [256] [],Pd.mk 21 [253,255] [],Pd.mk 20 [253,254] [],Pd.mk 19 [16,253] [],Pd.mk 18 [252] [],Pd.mk 17 [249,251] [],Pd.mk 16 [249,250] [],Pd.mk 15 [14,249] [],Pd.mk 14 [248] [],Pd.mk 13 [245,247] [],Pd.mk 12 [245,246] [],Pd.mk 11 [11,245] [],Pd.mk 10 [244] [],Pd.mk 9 [241,243] [],Pd.mk 8 [241,242] [],Pd.mk 7 [7,241] [],Pd.mk 6 [240] [],Pd.mk 5 [237,239] [],Pd.mk 4 [237,238] [],Pd.mk 3 [5,237] [],Pd.mk 2 [236] [],Pd.mk 1 [235] [],Pd.mk 0 [3] []]) [284,285,286] Z (pendS (es:=[50,51,49,49]) Z Z) Z Z Z ((wG hT (xs:=[0,1]) (ys:=[0,1]) (off:=0) (ob:=.cells (([0,1]:List Int).map intA) ef false) (fun i x hx=>yh hx rfl) dQ).mono (fun _ _ h=>trT h rfl)) (fun r76 K77 h78=>⟨?_,?_⟩)
   ·rcases h78 with ⟨rfl,rfl⟩
    all_goals simp
   obtain ⟨rfl,rfl⟩:=h78
   try simp only [cA]
   refine TD.norm tQ ?_
   refine TD.z [284,287] Z (q_not Z Z) ?_
   refine TD.z [284,288] Z (yf Z Z Z) ?_
   refine TD.z [289] Z (zh Z Z) ?_
   refine TD.z [13,290] Z (zh Z Z) ?_
   refine TD.z [290,291] Z (q_not Z Z) ?_
   refine TD.z [290,292] Z (yf Z Z Z) ?_
   refine TD.z [293] Z (zh Z Z) ?_
   refine TD.z [15,294] Z (zh Z Z) ?_
   refine TD.z [294,295] Z (q_cmp Z Z Z Z) ?_
   refine TD.z [294,296] Z (yf Z Z Z) ?_
   refine TD.z [297] Z (zh Z Z) ?_
   refine TD.z [4,298] Z (zh Z Z) ?_
   refine TD.z [298,299] Z (q_not Z Z) ?_
   refine TD.z [298,300] Z (yf Z Z Z) ?_
   refine TD.fin ?_
   refine au [19,12,4] ?_
   refine TK.kp [(0,_),(s,_),(h,_),(e,_),(j1,_),(j19,_)] ?_
   refine au [5,8] ?_
   refine TK.cl Z Z Z Z ((zhJ hT (b:=exB) x_len.1 x_len.2).mono (fun _ _ h=>or3 h wm x_ne)) ?_
   rintro r79 K80 ⟨rfl,rfl⟩
   refine au [] ?_
   rw [x_ask]
   refine au [1,10,10,10,2,2,2,3,4] ?_
   refine TK.kp [(0,_),(s,_),(h,_),(e,_),(j1,_),(j19,_)] ?_
   refine au [5,8,40] ?_
   refine TK.cl Z Z Z Z ((zel hT (b:=exB) (m:=⟨2,2,7⟩) x_len.1 x_len.2).mono (fun _ _ h=>agr3 (or2 h wm) x_mc x_mne)) ?_
   rintro r82 K83 ⟨s7,h7,e7,rfl,rfl⟩
   refine au [1,10,10,22] ?_
   intro j30 hj30
   refine au [17,2,3,4] ?_
   refine TK.kp [(0,_),(s,_),(h,_),(e,_),(j1,_),(j19,_),(s7,_),(h7,_),(e7,_),(j30,_)] ?_
   refine au [5,8] ?_
   refine TK.cl Z Z Z Z (uS hT (b:=exM) (s:=s7) (h:=h7) (e:=e7) dQ dQ) ?_
   rintro r85 K86 ⟨rfl,rfl⟩
   refine au [] ?_
   rw [x_mc,if_pos rfl,x_mst]
   refine au [1,10,10,2,2,3,4] ?_
   refine TK.kp [(0,_),(s,_),(h,_),(e,_),(j1,_),(j19,_),(s7,_),(h7,_),(e7,_),(j30,_)] ?_
   refine au [5,8] ?_
   refine TK.cl Z Z Z Z ((ze3 hT (b:=exM) (s:=s7) (h:=h7) (e:=e7) dQ dQ).mono (fun _ _ h=>or3 h x_mc x_mne)) ?_
   rintro r88 K89 ⟨rfl,rfl⟩
   refine au [] ?_
   rw [ziO]
   refine au [1,10,10,17,2,3,4] ?_
   refine TK.kp [(0,_),(s,_),(h,_),(e,_),(j1,_),(j19,_),(j30,_)] ?_
   refine TK.draw [0,1,2,3,4,5,6,7] [0,1,2,3,4,6,5,7] (by kernel_rfl) (by kernel_rfl) ?_
   refine TD.y [1] Z (hq:=z8 Z Z zi.h (mC _) Z) (h:=?_)
   refine TD.cl (pend':=[⟨0,[1],[(_,_)]⟩]) [] Z Z Z Z Z (to_ok hT) (fun r91 K92 h93=>⟨?_,?_⟩)
   ·rcases h93 with ⟨rfl,rfl⟩
    all_goals simp
   obtain ⟨rfl,rfl⟩:=h93
   try simp only [cA]
   refine TD.norm tQ ?_
   refine TD.cl (pend':=[]) [325,326] Z Z Z Z Z ((zeL hT (b:=exB) (n:=0) (x:=⟨1,5⟩) x_len.1 x_len.2).mono (fun _ _ h=>agr3 (or4 h x_d1) x_dc x_dne)) (fun r94 K95 h96=>⟨?_,?_⟩)
   ·rcases h96 with ⟨s8,h8,e8,rfl,rfl⟩
    all_goals simp
   obtain ⟨s8,h8,e8,rfl,rfl⟩:=h96
   try simp only [cA]
   refine TD.norm tQ ?_
   refine TD.z [327] Z (zh Z Z) ?_
   refine TD.z [324] Z (ye Z Z Z) ?_
   refine TD.z [324] Z (ye Z Z Z) ?_
   refine TD.s (pend':=[⟨5,[324],[]⟩]) [30,328] Z Z (zX Z Z zi.h Z Z mQ Z) ?_
   refine TD.as (pend':=[]) [329] Z Z (zD Z Z) ?_
   refine TD.fin ?_
   refine au [4] ?_
   refine TK.kp [(0,_),(s,_),(h,_),(e,_),(j1,_),(j19,_),(j30,_),(s8,_),(h8,_),(e8,_)] ?_
   refine au [5,8] ?_
   refine TK.cl Z Z Z Z ((za5 hT (b:=exD) (s:=s8) (h:=h8) (e:=e8) (n:=0) dQ dQ (by rw [x_dst]; decide)).mono (fun _ _ h=>or3 h x_dth x_dne)) ?_
   rintro r97 K98 ⟨js9,zs9,rfl,rfl⟩
   refine au [] ?_
   rw [ziM]
   refine au [1,10,10,2,2,3,4] ?_
   refine TK.kp [(0,_),(s,_),(h,_),(e,_),(j1,_),(j19,_),(js9,_)] ?_
   refine TK.draw [0,1,2,3,4,5,6] [0,1,2,3,4,5,6] (by kernel_rfl) (by kernel_rfl) ?_
   refine TD.y [1] Z (hq:=z8 Z Z zi.h (mC _) Z) (h:=?_)
   refine TD.cl (pend':=[⟨0,[1],[(_,_)]⟩]) [] Z Z Z Z Z (to_ok hT) (fun r100 K101 h102=>⟨?_,?_⟩)
   ·rcases h102 with ⟨rfl,rfl⟩
    all_goals simp
   obtain ⟨rfl,rfl⟩:=h102
   try simp only [cA]
   refine TD.norm tQ ?_
   refine TD.cl (pend':=[]) [336,337] Z Z Z Z Z ((zeL hT (b:=exB) (n:=1) (x:=⟨1,2⟩) x_len.1 x_len.2).mono (fun _ _ h=>or4c h x_d2)) (fun r103 K104 h105=>⟨?_,?_⟩)
   ·rcases h105 with ⟨rfl,rfl⟩
    all_goals simp
   obtain ⟨rfl,rfl⟩:=h105
   try simp only [cA]
   refine TD.norm tQ ?_
   refine TD.z [338] Z (zh Z Z) ?_
   refine TD.z [335] Z (ye Z Z Z) ?_
   refine TD.z [335] Z (ye Z Z Z) ?_
   refine TD.as (pend':=[]) [340] Z Z (zD Z Z) ?_
   refine TD.fin ?_
   refine au [4] ?_
   refine TK.kp [(0,_),(s,_),(h,_),(e,_),(j1,_),(j19,_),(js9,_)] ?_
   refine au [5,8,40] ?_
   refine TK.cl Z Z Z Z (zap hT (b:=exB) (m:=⟨0,1,5⟩) dQ) ?_
   rintro r106 K107 ⟨e9,rfl,rfl⟩
   refine au [40] ?_
   refine TK.cl Z Z Z Z (zap hT (b:=exC1) (m:=⟨2,2,6⟩) dQ) ?_
   rintro r109 K110 ⟨e10,rfl,rfl⟩
   refine au [] ?_
   refine TK.cl Z Z Z Z ((zfJ hT (b:=exC) (s:=s) (h:=h) (e:=e10) dQ dQ).mono (fun _ _ h=>orCl h x_cc x_cst (by rw [zd4]; exact fun h=>nomatch h))) ?_
   rintro r112 K113 ⟨l0,j10,e11,hcl,rfl,rfl⟩
   refine au [] ?_
   rw [zd4] at hcl
   cases hcl
   refine au [1,10,10,2,2,3,4] ?_
   refine TK.kp [(0,_),(j19,_),(js9,_),(j10,_)] ?_
   refine TK.draw [0,1,2,3,4,5,6,7,8,9,10,11,12,13,14,15,16,17,18,19,20,21,22,23,24,25,26,27,28,29,30,31,32,33,34,35,36,37,38,39,40,41,42,43,44,45,46,47,48,49,50,51,52,53,54,55,56,57] [0,1,2,3,4,5,6,7,8,9,10,11,12,13,14,15,16,17,18,19,20,21,22,23,24,25,26,27,28,29,30,31,32,33,34,35,36,37,38,39,40,41,42,43,44,45,46,47,48,49,50,51,52,53,54,55,56,57] (by kernel_rfl) (by kernel_rfl) ?_
   refine TD.z [3] Z (zh Z Z) ?_
   refine TD.z [350] Z (q_cmp Z Z Z Z) ?_
   refine TD.z [351] Z (zh Z Z) ?_
   refine TD.z [5,352] Z (zh Z Z) ?_
   refine TD.z [352,353] Z (q_cmp Z Z Z Z) ?_
   refine TD.z [352,354] Z (yE Z Z Z) ?_
   refine TD.z [355] Z (zh Z Z) ?_
   refine TD.z [7,356] Z (zh Z Z) ?_
   refine TD.z [356,357] Z (q_cmp Z Z Z Z) ?_
   refine TD.z [356,358] Z (yE Z Z Z) ?_
   refine TD.z [359] Z (zh Z Z) ?_
   refine TD.z [11,360] Z (zh Z Z) ?_
   refine TD.z [360,361] Z (q_cmp Z Z Z Z) ?_
   refine TD.z [360,362] Z (yE Z Z Z) ?_
   refine TD.z [363] Z (zh Z Z) ?_
   refine TD.z [14,364] Z (zh Z Z) ?_
   refine TD.z [364,365] Z (q_cmp Z Z Z Z) ?_
   refine TD.z [364,366] Z (yE Z Z Z) ?_
   refine TD.z [367] Z (zh Z Z) ?_
   refine TD.z [16,368] Z (zh Z Z) ?_
   refine TD.z [368,369] Z (q_cmp Z Z Z Z) ?_
   refine TD.z [368,370] Z (yE Z Z Z) ?_
   refine TD.z [371] Z (zh Z Z) ?_
   refine TD.z [18,372] Z (zh Z Z) ?_
   refine TD.z [372,373] Z (q_cmp Z Z Z Z) ?_
   refine TD.z [372,374] Z (yE Z Z Z) ?_
   refine TD.z [375] Z (zh Z Z) ?_
   refine TD.z [20,376] Z (zh Z Z) ?_
   refine TD.z [376,377] Z (q_cmp Z Z Z Z) ?_
   refine TD.z [376,378] Z (yE Z Z Z) ?_
   refine TD.z [379] Z (zh Z Z) ?_
   refine TD.z [28,380] Z (zh Z Z) ?_
   refine TD.z [380,381] Z (q_cmp Z Z Z Z) ?_
   refine TD.z [380,382] Z (yE Z Z Z) ?_
   refine TD.z [383] Z (zh Z Z) ?_
   refine TD.z [29,384] Z (zh Z Z) ?_
   refine TD.z [384,385] Z (q_cmp Z Z Z Z) ?_
   refine TD.z [384,386] Z (yE Z Z Z) ?_
   refine TD.z [387] Z (zh Z Z) ?_
   refine TD.z [15,388] Z (zh Z Z) ?_
   refine TD.z [388,389] Z (q_cmp Z Z Z Z) ?_
   refine TD.z [388,390] Z (yE Z Z Z) ?_
   refine TD.z [391] Z (zh Z Z) ?_
   refine TD.y [19,392] Z (hq:=z8 Z Z zi.h (mC _) Z) (h:=?_)
   refine TD.cl (pend':=[⟨43,[19,392],[(_,_)]⟩,⟨41,[388,390],[]⟩,⟨40,[388,389],[]⟩,⟨39,[15,388],[]⟩,⟨38,[387],[]⟩,⟨37,[384,386],[]⟩,⟨36,[384,385],[]⟩,⟨35,[29,384],[]⟩,⟨34,[383],[]⟩,⟨33,[380,382],[]⟩,⟨32,[380,381],[]⟩,⟨31,[28,380],[]⟩,⟨30,[379],[]⟩,⟨29,[376,378],[]⟩,⟨28,[376,377],[]⟩,⟨27,[20,376],[]⟩,⟨26,[375],[]⟩,⟨25,[372,374],[]⟩,⟨24,[372,373],[]⟩,⟨23,[18,372],[]⟩,⟨22,[371],[]⟩,⟨21,[368,370],[]⟩,⟨20,[368,369],[]⟩,⟨19,[16,368],[]⟩,⟨18,[367],[]⟩,⟨17,[364,366],[]⟩,⟨16,[364,365],[]⟩,⟨15,[14,364],[]⟩,⟨14,[363],[]⟩,⟨13,[360,362],[]⟩,⟨12,[360,361],[]⟩,⟨11,[11,360],[]⟩,⟨10,[359],[]⟩,⟨9,[356,358],[]⟩,⟨8,[356,357],[]⟩,⟨7,[7,356],[]⟩,⟨6,[355],[]⟩,⟨5,[352,354],[]⟩,⟨4,[352,353],[]⟩,⟨3,[5,352],[]⟩,⟨2,[351],[]⟩,⟨1,[350],[]⟩,⟨0,[3],[]⟩]) [392] Z Z Z Z Z (to_ok hT) (fun r115 K116 h117=>⟨?_,?_⟩)
   ·rcases h117 with ⟨rfl,rfl⟩
    all_goals simp
   obtain ⟨rfl,rfl⟩:=h117
   try simp only [cA]
   refine TD.norm tQ ?_
   refine TD.z [392,393,394] Z (zcW Z Z Z Z Z FlatF.h EqG.h) ?_
   refine TD.z [392,395] Z (yE Z Z Z) ?_
   refine TD.z [396] Z (zh Z Z) ?_
   refine TD.z [17,397] Z (zh Z Z) ?_
   refine TD.cnewR (pend':=[⟨48,[17,397],[]⟩,⟨46,[392,395],[]⟩,⟨45,[392,393,394],[]⟩,⟨43,[19,392],[(_,_)]⟩,⟨41,[388,390],[]⟩,⟨40,[388,389],[]⟩,⟨39,[15,388],[]⟩,⟨38,[387],[]⟩,⟨37,[384,386],[]⟩,⟨36,[384,385],[]⟩,⟨35,[29,384],[]⟩,⟨34,[383],[]⟩,⟨33,[380,382],[]⟩,⟨32,[380,381],[]⟩,⟨31,[28,380],[]⟩,⟨30,[379],[]⟩,⟨29,[376,378],[]⟩,⟨28,[376,377],[]⟩,⟨27,[20,376],[]⟩,⟨26,[375],[]⟩,⟨25,[372,374],[]⟩,⟨24,[372,373],[]⟩,⟨23,[18,372],[]⟩,⟨22,[371],[]⟩,⟨21,[368,370],[]⟩,⟨20,[368,369],[]⟩,⟨19,[16,368],[]⟩,⟨18,[367],[]⟩,⟨17,[364,366],[]⟩,⟨16,[364,365],[]⟩,⟨15,[14,364],[]⟩,⟨14,[363],[]⟩,⟨13,[360,362],[]⟩,⟨12,[360,361],[]⟩,⟨11,[11,360],[]⟩,⟨10,[359],[]⟩,⟨9,[356,358],[]⟩,⟨8,[356,357],[]⟩,⟨7,[7,356],[]⟩,⟨6,[355],[]⟩,⟨5,[352,354],[]⟩,⟨4,[352,353],[]⟩,⟨3,[5,352],[]⟩,⟨2,[351],[]⟩,⟨1,[350],[]⟩,⟨0,[3],[]⟩]) [397] Z Z Z Z Z (zt (l:=[_]) Z zF.h TyZ.h dQ dQ Z) (fun _=>zu rfl tQ) sQ fun jq1 hjq1=>?_
   refine TD.cl (pend':=[⟨46,[392,395],[]⟩,⟨45,[392,393,394],[]⟩,⟨43,[19,392],[(_,_)]⟩,⟨41,[388,390],[]⟩,⟨40,[388,389],[]⟩,⟨39,[15,388],[]⟩,⟨38,[387],[]⟩,⟨37,[384,386],[]⟩,⟨36,[384,385],[]⟩,⟨35,[29,384],[]⟩,⟨34,[383],[]⟩,⟨33,[380,382],[]⟩,⟨32,[380,381],[]⟩,⟨31,[28,380],[]⟩,⟨30,[379],[]⟩,⟨29,[376,378],[]⟩,⟨28,[376,377],[]⟩,⟨27,[20,376],[]⟩,⟨26,[375],[]⟩,⟨25,[372,374],[]⟩,⟨24,[372,373],[]⟩,⟨23,[18,372],[]⟩,⟨22,[371],[]⟩,⟨21,[368,370],[]⟩,⟨20,[368,369],[]⟩,⟨19,[16,368],[]⟩,⟨18,[367],[]⟩,⟨17,[364,366],[]⟩,⟨16,[364,365],[]⟩,⟨15,[14,364],[]⟩,⟨14,[363],[]⟩,⟨13,[360,362],[]⟩,⟨12,[360,361],[]⟩,⟨11,[11,360],[]⟩,⟨10,[359],[]⟩,⟨9,[356,358],[]⟩,⟨8,[356,357],[]⟩,⟨7,[7,356],[]⟩,⟨6,[355],[]⟩,⟨5,[352,354],[]⟩,⟨4,[352,353],[]⟩,⟨3,[5,352],[]⟩,⟨2,[351],[]⟩,⟨1,[350],[]⟩,⟨0,[3],[]⟩]) [397,398,399] Z Z Z Z Z ((wG hT (xs:=[1]) (ys:=[1]) (off:=0) (ob:=.cells (([1]++zs9).map intA) 3 false) (fun i x hx=>zcz hx) dQ).mono (fun _ _ h=>trT h rfl)) (fun r118 K119 h120=>⟨?_,?_⟩)
   ·rcases h120 with ⟨rfl,rfl⟩
    all_goals simp
   obtain ⟨rfl,rfl⟩:=h120
   try simp only [cA]
   refine TD.norm tQ ?_
   refine TD.z [397,400] Z (yE Z Z Z) ?_
   refine TD.z [401] Z (zh Z Z) ?_
   refine TD.z [31,402] Z (zh Z Z) ?_
   refine TD.cnewR (pend':=[⟨53,[31,402],[]⟩,⟨51,[397,400],[]⟩,⟨46,[392,395],[]⟩,⟨45,[392,393,394],[]⟩,⟨43,[19,392],[(_,_)]⟩,⟨41,[388,390],[]⟩,⟨40,[388,389],[]⟩,⟨39,[15,388],[]⟩,⟨38,[387],[]⟩,⟨37,[384,386],[]⟩,⟨36,[384,385],[]⟩,⟨35,[29,384],[]⟩,⟨34,[383],[]⟩,⟨33,[380,382],[]⟩,⟨32,[380,381],[]⟩,⟨31,[28,380],[]⟩,⟨30,[379],[]⟩,⟨29,[376,378],[]⟩,⟨28,[376,377],[]⟩,⟨27,[20,376],[]⟩,⟨26,[375],[]⟩,⟨25,[372,374],[]⟩,⟨24,[372,373],[]⟩,⟨23,[18,372],[]⟩,⟨22,[371],[]⟩,⟨21,[368,370],[]⟩,⟨20,[368,369],[]⟩,⟨19,[16,368],[]⟩,⟨18,[367],[]⟩,⟨17,[364,366],[]⟩,⟨16,[364,365],[]⟩,⟨15,[14,364],[]⟩,⟨14,[363],[]⟩,⟨13,[360,362],[]⟩,⟨12,[360,361],[]⟩,⟨11,[11,360],[]⟩,⟨10,[359],[]⟩,⟨9,[356,358],[]⟩,⟨8,[356,357],[]⟩,⟨7,[7,356],[]⟩,⟨6,[355],[]⟩,⟨5,[352,354],[]⟩,⟨4,[352,353],[]⟩,⟨3,[5,352],[]⟩,⟨2,[351],[]⟩,⟨1,[350],[]⟩,⟨0,[3],[]⟩]) [402] Z Z Z Z Z (zt (l:=[_,_]) Z zF.h TyZ.h dQ dQ Z) (fun _=>zu rfl tQ) sQ fun jq2 hjq2=>?_
   refine TD.cl (pend':=[⟨51,[397,400],[]⟩,⟨46,[392,395],[]⟩,⟨45,[392,393,394],[]⟩,⟨43,[19,392],[(_,_)]⟩,⟨41,[388,390],[]⟩,⟨40,[388,389],[]⟩,⟨39,[15,388],[]⟩,⟨38,[387],[]⟩,⟨37,[384,386],[]⟩,⟨36,[384,385],[]⟩,⟨35,[29,384],[]⟩,⟨34,[383],[]⟩,⟨33,[380,382],[]⟩,⟨32,[380,381],[]⟩,⟨31,[28,380],[]⟩,⟨30,[379],[]⟩,⟨29,[376,378],[]⟩,⟨28,[376,377],[]⟩,⟨27,[20,376],[]⟩,⟨26,[375],[]⟩,⟨25,[372,374],[]⟩,⟨24,[372,373],[]⟩,⟨23,[18,372],[]⟩,⟨22,[371],[]⟩,⟨21,[368,370],[]⟩,⟨20,[368,369],[]⟩,⟨19,[16,368],[]⟩,⟨18,[367],[]⟩,⟨17,[364,366],[]⟩,⟨16,[364,365],[]⟩,⟨15,[14,364],[]⟩,⟨14,[363],[]⟩,⟨13,[360,362],[]⟩,⟨12,[360,361],[]⟩,⟨11,[11,360],[]⟩,⟨10,[359],[]⟩,⟨9,[356,358],[]⟩,⟨8,[356,357],[]⟩,⟨7,[7,356],[]⟩,⟨6,[355],[]⟩,⟨5,[352,354],[]⟩,⟨4,[352,353],[]⟩,⟨3,[5,352],[]⟩,⟨2,[351],[]⟩,⟨1,[350],[]⟩,⟨0,[3],[]⟩]) [402,403,404] Z Z Z Z Z ((wG hT (xs:=[0,1]) (ys:=[0,1]) (off:=0) (ob:=.cells (([0,1]:List Int).map intA) e11 false) (fun i x hx=>yh hx rfl) dQ).mono (fun _ _ h=>trT h rfl)) (fun r121 K122 h123=>⟨?_,?_⟩)
   ·rcases h123 with ⟨rfl,rfl⟩
    all_goals simp
   obtain ⟨rfl,rfl⟩:=h123
   try simp only [cA]
   refine TD.norm tQ ?_
   refine TD.z [402,405] Z (yE Z Z Z) ?_
   refine TD.as (pend':=[]) [406] Z Z (zD Z Z) ?_
   refine TD.fin ?_
   refine au [] ?_
   refine TK.rt hret [(0,_)] ?_
   exact ⟨rfl,rfl⟩
end Go.Vel
end
