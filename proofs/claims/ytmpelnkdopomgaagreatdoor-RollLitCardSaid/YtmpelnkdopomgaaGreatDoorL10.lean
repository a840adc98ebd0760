/- Texts for the statements of chapter 8: what all of them need, part 11. It holds of every program, tape and world that the statements name, as each theorem says. -/
import Derived.Test.YtmpelnkdopomgaaGreatDoorL8
import Derived.Test.YtmpelnkdopomgaaGreatDoorL9
section
set_option linter.all false
set_option maxRecDepth 20000
set_option maxHeartbeats 60000000
open List renaming length_map -> lJ, map_append -> lM
open List.Mem renaming head -> mC
open Go.Vel.TK renaming maskL -> bA, kp -> bC, sp -> bF, na -> bG
open Go.Vel.TD renaming cl -> bQ, s -> bR, norm -> bS, z -> bU, cnewP -> bX
namespace Go.Vel
open Go Go.Conc Go.Proofs
def newW (k:SlB) (sh:Int) (xs:List Int) (k3 k4:Int):WatR:=⟨k3 % (k.suns.length:Int),k4 % k.steps,litQ k sh xs (k3 % (k.suns.length:Int)) (k4 % k.steps)⟩
def needH (k:SlB) (x:RSeam):Int:=(k.suns.length:Int) - loH k (x.step % k.steps) (zz k)
def needL (k:SlB) (b:RBk):List Int:=b.seams.map (needH k)
theorem zik {k:SlB} {b:RBk} {i:Nat} (h:i<b.seams.length):(b.seams.take (i+1)).map (needH k)=(b.seams.take i).map (needH k)++[needH k (sm b i)]:=by rw [yA (yL h),List.map_append] <;> rfl
theorem zlN {k:SlB} (hk:SlBase k) (x:RSeam):0<=needH k x/\needH k x<=9:=by
 unfold needH;have h1:=zcc k (x.step % k.steps) (zz k) k.suns.length;have h2:=h1.2.2 0 oQ fun y _=>by omega
 have h3:=hk.nsu;unfold loH;omega
theorem zlO {k:SlB} {w:WatR} (x:RSeam):needH (ya k w) x<=needH k x:=by
 have h:=(zgi (b:=k) (w:=w) (n:=x.step % k.steps)).2.1;show (k.suns.length:Int) - loH (ya k w) (x.step % k.steps) (zz (ya k w))<=_;unfold needH;omega
theorem zeB {k:SlB} (hk:SlBase k) (b:RBk):∀ v∈needL k b,0<=v/\v<=9:=fun v hv=>by
 obtain ⟨x,_,rfl⟩:=List.mem_map.1 hv;exact zlN hk x
theorem zeC {k:SlB} {b:RBk} {i:Nat} (h:i<b.seams.length):(needL k b).getD i 0=needH k (sm b i):=by
 unfold needL;rw [List.getD_eq_getElem?_getD,List.getElem?_map,yL h] <;> rfl
theorem zid {k:SlB} {w:WatR} (hk:SlBase k) {b:RBk} (hb:ROk b):(needL k b).length=b.seams.length/\(needL (ya k w) b).length=b.seams.length/\zx (setB busyX b (needL k b))=0/\zx (setB busyX b (needL (ya k w) b))=0/\Wider (setB busyX b (needL k b)) (setB busyX b (needL (ya k w) b)):=by
 have h1:(needL k b).length=b.seams.length:=lJ _;have h2:(needL (ya k w) b).length=b.seams.length:=lJ _;refine ⟨h1,h2,zf4 hb h1 (zeB hk b),zf4 hb h2 (zeB (zag hk w) b),zgT h1 h2 fun i hi=>?_⟩;rw [zeC hi,zeC hi];exact zlO _
theorem zmm {b:SlB} {w:WatR} (hw:SlWat b) (h4:b.watches.length<4) (h1:0<=w.hour/\w.hour<(b.suns.length:Int)) (h2:0<=w.step/\w.step<b.steps):SlWat (ya b w):=⟨by show (b.watches++[w]).length<=4; rw [List.length_append,List.length_singleton]; omega,fun x hx=>by
 rcases List.mem_append.1 hx with hx | hx
 ·exact hw.all x hx
 ·rw [List.mem_singleton.1 hx];show watOk b w=true;unfold watOk;simp;omega⟩
instance:BlOf Tryz.prog 50 [(0,1),(1,1),(2,1)]:={}
theorem zhg {b:RBk} {s h e:Nat} {q:SlB} {c3 s3 e3 w3 j:Nat} {ps:List (Fin 65536)} {k3 k4:Int} (h3:0<=k3/\k3<256) (h4:0<=k4/\k4<256):Top Tryz.prog gmR 3 [.agg (zD b s h e),.agg (slC q c3 s3 e3 w3),.sl j 0 ps.length,.v (.int .u8 k3),.v (.int .u8 k4)] [(0,zB),(1,yq),(s,zl b),(h,zF b),(e,zt b),(c3,clO q),(s3,suO q),(e3,eyO q),(w3,waO q),(j,u16O ps)] (fun r _=>r=zw true):=by
 refine topI 162 Tryz.func3 fun R Y hret=>?_;have hT:=kz (P:=Tryz.prog) (AtRet Tryz.prog 3 R);refine au 21042 ?_;intro jb hjb;refine au 210 ?_;intro jk hjk;refine au 68042235 ?_;refine TK.clE Z Z Z Z (zmD hT) ?_;refine au 1300 ?_;refine bF 26 (fun g1_4=>?_) (fun g1_4=>?_)
 ·refine au 42180326088881260888 ?_;refine TK.clE Z Z Z Z (zba) ?_;refine au 35 ?_;refine TK.rt hret [] ?_;rfl
 have hgr:greatM b=false/\zx b=0:=by cases hq:greatM b <;> simp [hq] at g1_4; exact ⟨rfl,g1_4⟩
 obtain ⟨hgr,hck⟩:=hgr;have hbb:=zZ hck;have hl:b.seams.length<=100:=by have:=hbb.sms.len; omega
 have hm:b.measures.length<=100:=by have:=hbb.mes.len; omega
 have hl2:b.shrinks.length<=100:=by have:=hbb.cls.len; omega
 have hst:=hbb.rnd.steps;refine au 680 ?_;refine TK.cl Z Z Z Z (zjM hT (b:=q)) ?_;rintro r7 K8 ⟨⟨z,rfl,hz⟩,rfl⟩;refine au 1250300 ?_;refine bF 31 (fun g1_9=>?_) (fun g1_9=>?_)
 ·refine au 4218032608888 ?_;refine TK.clE Z Z Z Z (zba) ?_;refine au 35 ?_;refine TK.rt hret [] ?_;rfl
 obtain ⟨hqb,hqw,hqc⟩:=hz (by simpa using g1_9);refine au 932507280690670 ?_;constructor<;>intro hc0
 ·refine au 42 ?_;refine TK.clE Z Z Z Z (zba) ?_;refine au 35 ?_;refine TK.rt hret [] ?_;rfl
 refine au 168042120 ?_;refine TK.cl Z Z Z Z (zku hT hqb oQ) ?_;rintro r16 K17 ⟨jd,rfl,rfl⟩;refine au 0 ?_;have hro:=zl5 hqb (chL ps);generalize realS q (chL ps)=sh at hro ⊢;generalize realD q (chL ps) q.steps.toNat=xs at hro ⊢;have hxl:xs.length<=1000:=by have h1:=hro.len; have h2:=hqb.di; omega
 have hsh : -3<=sh/\sh<=3:=by have h1:=hro.sh; have h2:=hqb.sh; omega
 refine au 220 ?_;intro jz hjz;refine au 680680423170 ?_;refine TK.cl Z Z Z Z (zjb hT hqb hqw hxl hsh) ?_;rintro r19 K20 ⟨jw,rfl,rfl⟩;refine au 23170 ?_;have hne:∀ hr n:Int,0<=hr/\hr<((trulyS q sh xs).suns.length:Int)->0<=n/\n<(trulyS q sh xs).steps->zz (ya (trulyS q sh xs) ⟨hr,n,litQ (trulyS q sh xs) sh xs hr n⟩)≠[]:=fun hr n h1 h2=>zja hqb hqw hro h1 h2;have hkb:SlBase (trulyS q sh xs):=zkn hqb _;have hkw:SlWat (trulyS q sh xs):=zjc hqw;have hkc:(trulyS q sh xs).clean.length<=1000:=by show q.clean.length<=1000; omega
 have hkl:(trulyS q sh xs).watches.length<4:=by show (q.watches.map _).length<4; rw [lJ]; simp at hc0; omega
 refine bC [(jk,.cells (slC (trulyS q sh xs) c3 s3 e3 jw) 36 true),(c3,clO (trulyS q sh xs)),(s3,suO (trulyS q sh xs)),(e3,eyO (trulyS q sh xs)),(jw,waO (trulyS q sh xs)),(0,_),(1,_),(s,_),(h,_),(e,_),(jb,_),(jz,.cells [intA sh,.sl jd 0 xs.length] 42 true),(jd,.cells (xs.map intA) 3 false)] ?_;generalize trulyS q sh xs=k at hne hkb hkw hkc hkl ⊢;have hnsu:=hkb.nsu;have hkst:=hkb.st;refine TK.dq [0,1,2,3,4,5,11,6,7,8,9,10,12] ?_;refine ad [[1,3]] ?_;refine bU [44] Z (yP Z Z Und.h Und.h (kO oQ)) ?_;refine ad [[3,6],[10,46]] ?_;refine bU [47] Z (q_len Z Z Z Und.h) ?_;refine bU [45,48] Z (q_rem Z Z Z oQ oQ) ?_;refine ad [[1,4]] ?_;refine bU [50] Z (yP Z Z Und.h Und.h (kO oQ)) ?_;refine ad [[3,6],[10,52]] ?_;refine bU [51,53] Z (q_rem Z Z Z oQ oQ) ?_;refine TD.as (pend':=[⟨10,[51,53],[]⟩,⟨9,[52],[(_,_)]⟩,⟨8,[6],[]⟩,⟨7,[50],[]⟩,⟨6,[4],[]⟩]) [49] Z Z (zy Z Z) ?_;refine ad [[13,54],[14]] ?_;refine au 2 ?_;have hm1:=uF k3 (n:=(k.suns.length:Int)) oQ;have hm2:=uF k4 (n:=k.steps) oQ;have hnw:=hne _ _ hm1 hm2;have hw2:=zmm (w:=(newW k sh xs k3 k4)) hkw hkl hm1 hm2;have hkne:=zi3 hnw;obtain ⟨o,ho⟩:∃ o,o=ya k (newW k sh xs k3 k4):=⟨_,rfl⟩;have hob:SlBase o:=ho ▸ zag hkb _;have how:SlWat o:=ho ▸ hw2;have hone:zz o≠[]:=ho ▸ hnw;have hoc:o.clean.length<=1000:=by rw [ho]; exact hkc
 have hos:o.steps=k.steps:=by rw [ho]; rfl
 have hou:o.suns.length=k.suns.length:=by rw [ho]; rfl
 have hbk:=zid (w:=(newW k sh xs k3 k4)) hkb hbb;have hhw:=fun n=>zgi (b:=k) (w:=(newW k sh xs k3 k4)) (n:=n);rw [<- ho] at hbk hhw;obtain ⟨hl1,hl2b,hk1,hk2,hwd⟩:=hbk;refine' TK.shareX (X:=Nat×Nat×Nat×Nat×Nat) (D:=fun _=>True) (E:=fun x=>naL 5 (.ptr jb 0::.ptr jk 0::naL 7 (.ptr x.1 0::intA 0::naL 146 []))) (KK:=fun x=>[(x.1,.cells (slC o x.2.1 x.2.2.1 x.2.2.2.1 x.2.2.2.2) 36 true),(x.2.1,clO o),(x.2.2.1,suO o),(x.2.2.2.1,eyO o),(x.2.2.2.2,waO o),(jb,.cells (zD b s h e) 26 true),(jk,.cells (slC k c3 s3 e3 jw) 36 true),(0,zB),(1,yq),(s,zl b),(h,zF b),(e,zt b),(c3,clO k),(s3,suO k),(e3,eyO k),(jw,waO k)]) (fun H=>?_) ?_;rotate_left
 ·refine TK.dq [0,1,2,3,4,5,6,7,8,9,10,11,13,14,12,15] ?_;refine ad [[12,6],[1,12],[1,13],[12,6],[12,11],[1,12],[1,13]] ?_;refine TD.c2 (i1:=7) (i2:=13) (pend1:=[⟨2,[13],[]⟩,⟨1,[12],[]⟩,⟨0,[6],[(_,_)]⟩]) (pend2:=[⟨6,[13],[]⟩,⟨5,[12],[]⟩,⟨4,[11],[(_,_)]⟩,⟨3,[6],[(_,_)]⟩,⟨2,[13],[]⟩,⟨1,[12],[]⟩,⟨0,[6],[(_,_)]⟩]) (L1:=[8,9,10,11,12,13,14,15]) (L2:=[7,8,9,10,11,12,14,15]) [59,60,61,62] [] Z Z Z Z Z Z Z ?_ ?_
  ·refine kc Z Z Cal.h Z (zcL hT hkb (intsA xs 3 false) hxl hsh hm1 hm2) (by repeat (first | exact Split.none _ | exact Split.all _ | (apply Split.rem; repeat (first | exact Rem.head | apply Rem.tail)) | apply Split.right)) fun r22 K23 h24=>⟨?_,?_⟩
   ·rcases h24 with ⟨rfl,rfl⟩
    all_goals simp
   obtain ⟨rfl,rfl⟩:=h24;try simp only [cA]
   refine bS (env':=[_,_,_,_,_,_,_,_,_,_,_,_,_,_,_,_,_,_,_,_,_,_,_,_,_,_,_,_,_,_,_,_,_,_,_,_,_,_,_,_,_,_,_,_,_,_,_,_,_,_,_,_,_,_,_,_,_,_,_,_,_,_,_,_,_,_,_,_,_,_,_,_,_,_,_,_,_,_,_,_,_,_,_,_,_,_,_,_,_,_,_,_,_,_,_,_,_,_,_,_,_,_,_,_,_,_,_,_,_,_,_,_,_,_,_,_,_,_,_,_,_,_,_,_,_,_,_,_,_,_,_,_,_,_,_,_,_,_,_,_,_,_,_,_,_,_,_,_,_,_,_,_,_,_,_,_,_,_,_,_,_,_]) Z ?_;refine bU [57,58,63] Z (yi (l:=[_,_,_]) Z TyZ.h BlOf.h Z) ?_;refine TD.c2 (i1:=9) (i2:=13) (pend1:=[⟨2,[13],[]⟩,⟨1,[12],[]⟩]) (pend2:=[⟨8,[57,58,63],[]⟩,⟨2,[13],[]⟩,⟨1,[12],[]⟩,⟨0,[6],[(_,_)]⟩]) (L1:=[10,11,12,13,14,15]) (L2:=[9,10,11,12,14,15]) [56,64] [] Z Z Z Z Z Z Z ?_ ?_
   ·refine kc Z Z Cal.h Z (u7 hT (x:=(newW k sh xs k3 k4)) hkb hkw hkc hw2 hnw) (by repeat (first | exact Split.none _ | exact Split.all _ | (apply Split.rem; repeat (first | exact Rem.head | apply Rem.tail)) | apply Split.right)) fun r25 K26 h27=>⟨?_,?_⟩
    ·rcases h27 with ⟨c4,s4,e4,w4,rfl,rfl⟩
     all_goals simp
    obtain ⟨c4,s4,e4,w4,rfl,rfl⟩:=h27;try simp only [cA]
    refine bS (env':=[_,_,_,_,_,_,_,_,_,_,_,_,_,_,_,_,_,_,_,_,_,_,_,_,_,_,_,_,_,_,_,_,_,_,_,_,_,_,_,_,_,_,_,_,_,_,_,_,_,_,_,_,_,_,_,_,_,_,_,_,_,_,_,_,_,_,_,_,_,_,_,_,_,_,_,_,_,_,_,_,_,_,_,_,_,_,_,_,_,_,_,_,_,_,_,_,_,_,_,_,_,_,_,_,_,_,_,_,_,_,_,_,_,_,_,_,_,_,_,_,_,_,_,_,_,_,_,_,_,_,_,_,_,_,_,_,_,_,_,_,_,_,_,_,_,_,_,_,_,_,_,_,_,_,_,_,_,_,_,_,_,_]) Z ?_;refine ad [[1,65],[5,55],[5,55]] ?_;refine bX (pend':=[⟨12,[55],[]⟩,⟨11,[55],[]⟩,⟨10,[65],[]⟩,⟨2,[13],[]⟩,⟨1,[12],[]⟩]) [] Z Z Z Z Z (yC Z TyZA.h) (fun _=>zr rfl tQ) sQ fun jo hjo=>?_;refine bR (pend':=[⟨12,[55],[]⟩]) [14,66] Z Z (zM Z Z ze.h Z Z mQ Z) ?_;refine ad [[13,67],[14]] ?_;rw [<- ho];refine bA [5,6,14,15] ?_;refine bC [(jo,_),(c4,_),(s4,_),(e4,_),(w4,_),(jb,_),(jk,_),(0,_),(1,_),(s,_),(h,_),(e,_),(c3,_),(s3,_),(e3,_),(jw,_)] ?_;exact H (jo,c4,s4,e4,w4) trivial
   ·refine kB Z (yC Z TyZA.h) (fun _=>zr rfl tQ) sQ fun jo hjo=>?_;refine bQ (pend':=[⟨2,[13],[]⟩,⟨1,[12],[]⟩]) [56,64] Z Z Z Z Z (u7 hT (x:=(newW k sh xs k3 k4)) hkb hkw hkc hw2 hnw) (fun r28 K29 h30=>⟨?_,?_⟩)
    ·rcases h30 with ⟨c4,s4,e4,w4,rfl,rfl⟩
     all_goals simp
    obtain ⟨c4,s4,e4,w4,rfl,rfl⟩:=h30;try simp only [cA]
    refine bS tQ ?_;refine ad [[1,65],[5,55],[5,55]] ?_;refine bR (pend':=[⟨12,[55],[]⟩]) [14,66] Z Z (zM Z Z ze.h Z Z mQ Z) ?_;refine ad [[13,67],[14]] ?_;rw [<- ho];refine bA [5,6,14,15] ?_;refine bC [(jo,_),(c4,_),(s4,_),(e4,_),(w4,_),(jb,_),(jk,_),(0,_),(1,_),(s,_),(h,_),(e,_),(c3,_),(s3,_),(e3,_),(jw,_)] ?_;exact H (jo,c4,s4,e4,w4) trivial
  ·refine kB Z (yC Z TyZA.h) (fun _=>zr rfl tQ) sQ fun jo hjo=>?_;refine bQ (pend':=[⟨2,[13],[]⟩,⟨1,[12],[]⟩,⟨0,[6],[(_,_)]⟩]) [59,60,61,62] Z Z Z Z Z (zcL hT hkb (intsA xs 3 false) hxl hsh hm1 hm2) (fun r31 K32 h33=>⟨?_,?_⟩)
   ·rcases h33 with ⟨rfl,rfl⟩
    all_goals simp
   obtain ⟨rfl,rfl⟩:=h33;try simp only [cA]
   refine bS tQ ?_;refine bU [57,58,63] Z (yi (l:=[_,_,_]) Z TyZ.h BlOf.h Z) ?_;refine bQ (pend':=[⟨2,[13],[]⟩,⟨1,[12],[]⟩]) [56,64] Z Z Z Z Z (u7 hT (x:=(newW k sh xs k3 k4)) hkb hkw hkc hw2 hnw) (fun r34 K35 h36=>⟨?_,?_⟩)
   ·rcases h36 with ⟨c4,s4,e4,w4,rfl,rfl⟩
    all_goals simp
   obtain ⟨c4,s4,e4,w4,rfl,rfl⟩:=h36;try simp only [cA]
   refine bS tQ ?_;refine ad [[1,65],[5,55],[5,55]] ?_;refine bR (pend':=[⟨12,[55],[]⟩]) [14,66] Z Z (zM Z Z ze.h Z Z mQ Z) ?_;refine ad [[13,67],[14]] ?_;rw [<- ho];refine bA [5,6,14,15] ?_;refine bC [(jo,_),(c4,_),(s4,_),(e4,_),(w4,_),(jb,_),(jk,_),(0,_),(1,_),(s,_),(h,_),(e,_),(c3,_),(s3,_),(e3,_),(jw,_)] ?_;exact H (jo,c4,s4,e4,w4) trivial
 ·rintro ⟨jo,c4,s4,e4,w4⟩ _;refine bG nQ ?_;(try dsimp only);refine au 9371422 ?_;constructor<;>intro hc1
  ·exact absurd hc1 dQ
  refine au 2235542120 ?_;refine TK.virt 16 3 1 Z fun jl0 hjl0=>?_;refine au 0 ?_;refine TK.virt 17 3 1 Z fun jm0 hjm0=>?_;refine au 130354 ?_;refine bA [5,6,14,16,17,18] ?_;refine bC [(jl0,_),(jm0,_),(jo,_),(c4,_),(s4,_),(e4,_),(w4,_),(jb,_),(jk,_),(0,_),(1,_),(s,_),(h,_),(e,_),(c3,_),(s3,_),(e3,_),(jw,_)] ?_;refine TK.loopN (fun n env K=>∃ (i jl jm:Nat),n=b.seams.length - i/\i<=b.seams.length/\env=naL 5 (.ptr jb 0::.ptr jk 0::naL 7 (.ptr jo 0::.any::.row jl i::.row jm i::intA i::naL 143 []))/\K=[(jl,.row (((b.seams.take i).map (needH k)).map intA) 3 1),(jm,.row (((b.seams.take i).map (needH o)).map intA) 3 1),(jo,.cells (slC o c4 s4 e4 w4) 36 true),(c4,clO o),(s4,suO o),(e4,eyO o),(w4,waO o),(jb,.cells (zD b s h e) 26 true),(jk,.cells (slC k c3 s3 e3 jw) 36 true),(0,zB),(1,yq),(s,zl b),(h,zF b),(e,zt b),(c3,clO k),(s3,suO k),(e3,eyO k),(jw,waO k)]) b.seams.length ⟨0,jl0,jm0,rfl,Nat.zero_le _,rfl,rfl⟩ fun n env K hI hnext=>?_;obtain ⟨i,jl,jm,rfl,hi,rfl,rfl⟩:=hI;have hsl5:=hbb.sms.len;refine bG nQ ?_;refine au 9372806906701422 ?_;constructor<;>intro hc2
  ·have hil:i<b.seams.length:=by simp at hc2; omega
   have hf:=hbb.sms.fld i hil;have hms:=uF (sm b i).step (n:=k.steps) oQ;have hh:=hhw ((sm b i).step % k.steps);have hlt:(b.seams.take i).length=i:=by rw [List.length_take]; omega
   have hno:needH o (sm b i)=(k.suns.length:Int) - loH o ((sm b i).step % k.steps) (zz o):=by unfold needH; rw [hos,hou]
   refine au 21302120 ?_;refine' TK.shareX (X:=Nat) (D:=fun _=>True) (E:=fun x=>naL 5 (.ptr jb 0::.ptr jk 0::naL 7 (.ptr jo 0::.any::.row jl i::.row jm i::intA i::.ptr x 0::intA 0::naL 141 []))) (KK:=fun x=>[(x,.cells [intA (loH k ((sm b i).step % k.steps) (zz k)),intA (hiH k ((sm b i).step % k.steps) (zz k))] 28 true),(jl,.row (((b.seams.take i).map (needH k)).map intA) 3 1),(jm,.row (((b.seams.take i).map (needH o)).map intA) 3 1),(jo,.cells (slC o c4 s4 e4 w4) 36 true),(c4,clO o),(s4,suO o),(e4,eyO o),(w4,waO o),(jb,.cells (zD b s h e) 26 true),(jk,.cells (slC k c3 s3 e3 jw) 36 true),(0,zB),(1,yq),(s,zl b),(h,zF b),(e,zt b),(c3,clO k),(s3,suO k),(e3,eyO k),(jw,waO k)]) (fun H=>?_) ?_;rotate_left
   ·refine TK.dq [0,1,2,3,4,5,6,7,8,9,10,11,12,14,15,13,16] ?_;refine ad [[12,6],[3,5],[10,79],[1,18],[2,80,81],[3,82]] ?_;refine TD.y [83] Z (hq:=zk Z Z ze.h (mC _) (yd (c:=0) (sm_at b (i:=i) hil Z) dQ Z)) (h:=?_);refine ad [[3,6],[10,85]] ?_;refine bU [84,86] Z (q_rem Z Z Z oQ oQ) ?_;refine TD.c2 (i1:=10) (i2:=14) (pend1:=[⟨8,[85],[(_,_)]⟩,⟨7,[6],[]⟩,⟨6,[83],[(_,_)]⟩,⟨5,[82],[]⟩,⟨4,[80,81],[]⟩,⟨3,[18],[]⟩,⟨2,[79],[(_,_)]⟩,⟨1,[5],[]⟩]) (pend2:=[⟨9,[84,86],[]⟩,⟨8,[85],[(_,_)]⟩,⟨7,[6],[]⟩,⟨6,[83],[(_,_)]⟩,⟨5,[82],[]⟩,⟨4,[80,81],[]⟩,⟨3,[18],[]⟩,⟨2,[79],[(_,_)]⟩,⟨1,[5],[]⟩,⟨0,[6],[(_,_)]⟩]) (L1:=[11,12,13,14,15,16]) (L2:=[10,11,12,13,15,16]) [78,87] [] Z Z Z Z Z Z Z ?_ ?_
    ·refine kc Z Z Cal.h Z (vC hT hkb hkw hkc hms hkne) (by repeat (first | exact Split.none _ | exact Split.all _ | (apply Split.rem; repeat (first | exact Rem.head | apply Rem.tail)) | apply Split.right)) fun r37 K38 h39=>⟨?_,?_⟩
     ·rcases h39 with ⟨rfl,rfl⟩
      all_goals simp
     obtain ⟨rfl,rfl⟩:=h39;try simp only [cA]
     refine bS (env':=[_,_,_,_,_,_,_,_,_,_,_,_,_,_,_,_,_,_,_,_,_,_,_,_,_,_,_,_,_,_,_,_,_,_,_,_,_,_,_,_,_,_,_,_,_,_,_,_,_,_,_,_,_,_,_,_,_,_,_,_,_,_,_,_,_,_,_,_,_,_,_,_,_,_,_,_,_,_,_,_,_,_,_,_,_,_,_,_,_,_,_,_,_,_,_,_,_,_,_,_,_,_,_,_,_,_,_,_,_,_,_,_,_,_,_,_,_,_,_,_,_,_,_,_,_,_,_,_,_,_,_,_,_,_,_,_,_,_,_,_,_,_,_,_,_,_,_,_,_,_,_,_,_,_,_,_,_,_,_,_,_,_]) Z ?_;refine ad [[1,88],[5,77],[5,77]] ?_;refine bX (pend':=[⟨13,[77],[]⟩,⟨12,[77],[]⟩,⟨11,[88],[]⟩,⟨8,[85],[(_,_)]⟩,⟨7,[6],[]⟩,⟨6,[83],[(_,_)]⟩,⟨5,[82],[]⟩,⟨4,[80,81],[]⟩,⟨3,[18],[]⟩,⟨2,[79],[(_,_)]⟩,⟨1,[5],[]⟩]) [] Z Z Z Z Z (yC Z TyZA.h) (fun _=>zr rfl tQ) sQ fun jx hjx=>?_;refine bR (pend':=[⟨13,[77],[]⟩]) [19,89] Z Z (zM Z Z ze.h Z Z mQ Z) ?_;refine ad [[13,90],[14]] ?_;refine bA [5,6,14,16,17,18,19,20] ?_;refine bC [(jx,_),(jl,_),(jm,_),(jo,_),(c4,_),(s4,_),(e4,_),(w4,_),(jb,_),(jk,_),(0,_),(1,_),(s,_),(h,_),(e,_),(c3,_),(s3,_),(e3,_),(jw,_)] ?_;exact H jx trivial
    ·refine kB Z (yC Z TyZA.h) (fun _=>zr rfl tQ) sQ fun jx hjx=>?_;refine bQ (pend':=[⟨8,[85],[(_,_)]⟩,⟨7,[6],[]⟩,⟨6,[83],[(_,_)]⟩,⟨5,[82],[]⟩,⟨4,[80,81],[]⟩,⟨3,[18],[]⟩,⟨2,[79],[(_,_)]⟩,⟨1,[5],[]⟩]) [78,87] Z Z Z Z Z (vC hT hkb hkw hkc hms hkne) (fun r40 K41 h42=>⟨?_,?_⟩)
     ·rcases h42 with ⟨rfl,rfl⟩
      all_goals simp
     obtain ⟨rfl,rfl⟩:=h42;try simp only [cA]
     refine bS tQ ?_;refine ad [[1,88],[5,77],[5,77]] ?_;refine bR (pend':=[⟨13,[77],[]⟩]) [19,89] Z Z (zM Z Z ze.h Z Z mQ Z) ?_;refine ad [[13,90],[14]] ?_;refine bA [5,6,14,16,17,18,19,20] ?_;refine bC [(jx,_),(jl,_),(jm,_),(jo,_),(c4,_),(s4,_),(e4,_),(w4,_),(jb,_),(jk,_),(0,_),(1,_),(s,_),(h,_),(e,_),(c3,_),(s3,_),(e3,_),(jw,_)] ?_;exact H jx trivial
   ·intro jx _;refine bG nQ ?_;(try dsimp only);refine au 2 ?_;refine' TK.shareX (X:=Nat) (D:=fun _=>True) (E:=fun x=>naL 5 (.ptr jb 0::.ptr jk 0::naL 7 (.ptr jo 0::.any::.row jl i::.row jm i::intA i::.ptr jx 0::intA 0::.ptr x 0::intA 0::naL 139 []))) (KK:=fun x=>[(x,.cells [intA (loH o ((sm b i).step % k.steps) (zz o)),intA (hiH o ((sm b i).step % k.steps) (zz o))] 28 true),(jx,.cells [intA (loH k ((sm b i).step % k.steps) (zz k)),intA (hiH k ((sm b i).step % k.steps) (zz k))] 28 true),(jl,.row (((b.seams.take i).map (needH k)).map intA) 3 1),(jm,.row (((b.seams.take i).map (needH o)).map intA) 3 1),(jo,.cells (slC o c4 s4 e4 w4) 36 true),(c4,clO o),(s4,suO o),(e4,eyO o),(w4,waO o),(jb,.cells (zD b s h e) 26 true),(jk,.cells (slC k c3 s3 e3 jw) 36 true),(0,zB),(1,yq),(s,zl b),(h,zF b),(e,zt b),(c3,clO k),(s3,suO k),(e3,eyO k),(jw,waO k)]) (fun H=>?_) ?_;rotate_left
    ·refine TK.dq [0,1,2,3,4,5,6,7,8,9,10,11,12,14,15,13,16] ?_;refine ad [[12,14],[3,5],[10,93],[1,18],[2,94,95],[3,96]] ?_;refine TD.y [97] Z (hq:=zk Z Z ze.h (mC _) (yd (c:=0) (sm_at b (i:=i) hil Z) dQ Z)) (h:=?_);refine ad [[3,6],[10,99]] ?_;refine bU [98,100] Z (q_rem Z Z Z oQ oQ) ?_;refine TD.c2 (i1:=10) (i2:=14) (pend1:=[⟨8,[99],[(_,_)]⟩,⟨7,[6],[]⟩,⟨6,[97],[(_,_)]⟩,⟨5,[96],[]⟩,⟨4,[94,95],[]⟩,⟨3,[18],[]⟩,⟨2,[93],[(_,_)]⟩,⟨1,[5],[]⟩]) (pend2:=[⟨9,[98,100],[]⟩,⟨8,[99],[(_,_)]⟩,⟨7,[6],[]⟩,⟨6,[97],[(_,_)]⟩,⟨5,[96],[]⟩,⟨4,[94,95],[]⟩,⟨3,[18],[]⟩,⟨2,[93],[(_,_)]⟩,⟨1,[5],[]⟩,⟨0,[14],[(_,_)]⟩]) (L1:=[11,12,13,14,15,16]) (L2:=[10,11,12,13,15,16]) [92,101] [] Z Z Z Z Z Z Z ?_ ?_
     ·refine kc Z Z Cal.h Z (vC hT hob how hoc (by rw [hos]; exact hms) hone) (by repeat (first | exact Split.none _ | exact Split.all _ | (apply Split.rem; repeat (first | exact Rem.head | apply Rem.tail)) | apply Split.right)) fun r43 K44 h45=>⟨?_,?_⟩
      ·rcases h45 with ⟨rfl,rfl⟩
       all_goals simp
      obtain ⟨rfl,rfl⟩:=h45;try simp only [cA]
      refine bS (env':=[_,_,_,_,_,_,_,_,_,_,_,_,_,_,_,_,_,_,_,_,_,_,_,_,_,_,_,_,_,_,_,_,_,_,_,_,_,_,_,_,_,_,_,_,_,_,_,_,_,_,_,_,_,_,_,_,_,_,_,_,_,_,_,_,_,_,_,_,_,_,_,_,_,_,_,_,_,_,_,_,_,_,_,_,_,_,_,_,_,_,_,_,_,_,_,_,_,_,_,_,_,_,_,_,_,_,_,_,_,_,_,_,_,_,_,_,_,_,_,_,_,_,_,_,_,_,_,_,_,_,_,_,_,_,_,_,_,_,_,_,_,_,_,_,_,_,_,_,_,_,_,_,_,_,_,_,_,_,_,_,_,_]) Z ?_;refine ad [[1,102],[5,91],[5,91]] ?_;refine bX (pend':=[⟨13,[91],[]⟩,⟨12,[91],[]⟩,⟨11,[102],[]⟩,⟨8,[99],[(_,_)]⟩,⟨7,[6],[]⟩,⟨6,[97],[(_,_)]⟩,⟨5,[96],[]⟩,⟨4,[94,95],[]⟩,⟨3,[18],[]⟩,⟨2,[93],[(_,_)]⟩,⟨1,[5],[]⟩]) [] Z Z Z Z Z (yC Z TyZA.h) (fun _=>zr rfl tQ) sQ fun jy hjy=>?_;refine bR (pend':=[⟨13,[91],[]⟩]) [21,103] Z Z (zM Z Z ze.h Z Z mQ Z) ?_;refine ad [[13,104],[14]] ?_;refine bA [5,6,14,16,17,18,19,20,21,22] ?_;refine bC [(jy,_),(jx,_),(jl,_),(jm,_),(jo,_),(c4,_),(s4,_),(e4,_),(w4,_),(jb,_),(jk,_),(0,_),(1,_),(s,_),(h,_),(e,_),(c3,_),(s3,_),(e3,_),(jw,_)] ?_;exact H jy trivial
     ·refine kB Z (yC Z TyZA.h) (fun _=>zr rfl tQ) sQ fun jy hjy=>?_;refine bQ (pend':=[⟨8,[99],[(_,_)]⟩,⟨7,[6],[]⟩,⟨6,[97],[(_,_)]⟩,⟨5,[96],[]⟩,⟨4,[94,95],[]⟩,⟨3,[18],[]⟩,⟨2,[93],[(_,_)]⟩,⟨1,[5],[]⟩]) [92,101] Z Z Z Z Z (vC hT hob how hoc (by rw [hos]; exact hms) hone) (fun r46 K47 h48=>⟨?_,?_⟩)
      ·rcases h48 with ⟨rfl,rfl⟩
       all_goals simp
      obtain ⟨rfl,rfl⟩:=h48;try simp only [cA]
      refine bS tQ ?_;refine ad [[1,102],[5,91],[5,91]] ?_;refine bR (pend':=[⟨13,[91],[]⟩]) [21,103] Z Z (zM Z Z ze.h Z Z mQ Z) ?_;refine ad [[13,104],[14]] ?_;refine bA [5,6,14,16,17,18,19,20,21,22] ?_;refine bC [(jy,_),(jx,_),(jl,_),(jm,_),(jo,_),(c4,_),(s4,_),(e4,_),(w4,_),(jb,_),(jk,_),(0,_),(1,_),(s,_),(h,_),(e,_),(c3,_),(s3,_),(e3,_),(jw,_)] ?_;exact H jy trivial
    ·intro jy _;refine bG nQ ?_;(try dsimp only);refine au 171422 ?_;refine bF 107 (fun g15_3=>?_) (fun g15_3=>?_)
     ·exact absurd g15_3 dQ
     refine au 125071 ?_;refine bF 111 (fun g15_7=>?_) (fun g15_7=>?_)
     ·exact absurd g15_7 dQ
     refine au 280690670690670690670 ?_;refine TK.clE Z Z Z Z (z7 hT) ?_;refine au 1250300 ?_;refine bF 122 (fun g15_18=>?_) (fun g15_18=>?_)
     ·simp [betw] at g15_18; omega
     refine au 12507690670 ?_;refine bF 127 (fun g15_23=>?_) (fun g15_23=>?_)
     ·simp at g15_23; omega
     refine au 932507690670690670 ?_;constructor<;>intro hc3
     ·simp at hc3; omega
     refine au 120 ?_;refine' TK.shareX (X:=Nat×Nat) (D:=fun _=>True) (E:=fun x=>naL 5 (.ptr jb 0::.ptr jk 0::naL 7 (.ptr jo 0::.any::.row x.1 (i+1)::.row x.2 (i+1)::intA i::naL 143 []))) (KK:=fun x=>[(x.1,.row (((b.seams.take i).map (needH k)).map intA++[intA ((k.suns.length:Int) - loH k ((sm b i).step % k.steps) (zz k))]) 3 1),(x.2,.row (((b.seams.take i).map (needH o)).map intA++[intA ((k.suns.length:Int) - loH o ((sm b i).step % k.steps) (zz o))]) 3 1),(jo,.cells (slC o c4 s4 e4 w4) 36 true),(c4,clO o),(s4,suO o),(e4,eyO o),(w4,waO o),(jb,.cells (zD b s h e) 26 true),(jk,.cells (slC k c3 s3 e3 jw) 36 true),(0,zB),(1,yq),(s,zl b),(h,zF b),(e,zt b),(c3,clO k),(s3,suO k),(e3,eyO k),(jw,waO k)]) (fun H=>?_) ?_;rotate_left
     ·refine TK.dr [0,1,2,3,4,5,6,9,10,11,12,13,14,15,7,8,16,17,18,19] [0,1,2,3,4,5,6,7,8,9,10,11,12,13,14,15,16,17,18,19] ?_;refine ad [[1,16],[3,6],[10,135]] ?_;refine bU [136] Z (q_len Z Z Z Und.h) ?_;refine ad [[3,19],[10,138],[9,137,139],[1,17],[3,6],[10,144]] ?_;refine bU [145] Z (q_len Z Z Z Und.h) ?_;refine ad [[3,21],[10,147],[9,146,148]] ?_;refine TD.c2 (i1:=7) (i2:=16) (pend1:=[⟨15,[146,148],[]⟩,⟨14,[147],[(_,_)]⟩,⟨13,[21],[]⟩,⟨12,[145],[]⟩,⟨11,[144],[(_,_)]⟩,⟨10,[6],[]⟩,⟨9,[17],[]⟩,⟨5,[138],[(_,_)]⟩,⟨4,[19],[]⟩,⟨3,[136],[]⟩,⟨2,[135],[(_,_)]⟩,⟨1,[6],[]⟩,⟨0,[16],[]⟩]) (pend2:=[⟨14,[147],[(_,_)]⟩,⟨13,[21],[]⟩,⟨12,[145],[]⟩,⟨11,[144],[(_,_)]⟩,⟨10,[6],[]⟩,⟨9,[17],[]⟩,⟨6,[137,139],[]⟩,⟨5,[138],[(_,_)]⟩,⟨4,[19],[]⟩,⟨3,[136],[]⟩,⟨2,[135],[(_,_)]⟩,⟨1,[6],[]⟩,⟨0,[16],[]⟩]) (L1:=[8,16,17,18,19]) (L2:=[7,8,17,18,19]) [140] [149] Z Z Z Z Z Z Z ?_ ?_
      ·refine kJ Z (zp (l:=[_]) Z zE.h TyZ.h dQ dQ Z) (fun _=>zr rfl tQ) sQ fun j52 hj52=>?_;refine TD.c2 (i1:=8) (i2:=16) (pend1:=[⟨15,[146,148],[]⟩,⟨14,[147],[(_,_)]⟩,⟨13,[21],[]⟩,⟨12,[145],[]⟩,⟨11,[144],[(_,_)]⟩,⟨10,[6],[]⟩,⟨9,[17],[]⟩,⟨5,[138],[(_,_)]⟩,⟨4,[19],[]⟩,⟨3,[136],[]⟩,⟨2,[135],[(_,_)]⟩,⟨1,[6],[]⟩]) (pend2:=[⟨14,[147],[(_,_)]⟩,⟨13,[21],[]⟩,⟨12,[145],[]⟩,⟨11,[144],[(_,_)]⟩,⟨10,[6],[]⟩,⟨9,[17],[]⟩,⟨5,[138],[(_,_)]⟩,⟨4,[19],[]⟩,⟨3,[136],[]⟩,⟨2,[135],[(_,_)]⟩,⟨1,[6],[]⟩,⟨0,[16],[]⟩]) (L1:=[16,17,18,19]) (L2:=[8,17,18,19]) [134,141] [149] Z Z Z Z Z Z Z ?_ ?_
       ·refine zcE Z (a_app Z ApOf.h Z mQ (by rw [lJ,lJ,hlt,Nat.mul_one]) Z (yg (ln:=[_]) mQ dQ sQ Z) oQ Z (by unfold maxLen; omega) oQ) (fun _=>uQ) (fun _=>zr rfl tQ) (fun _=>sQ) fun jl2=>?_;refine TD.cnewR (pend':=[⟨14,[147],[(_,_)]⟩,⟨13,[21],[]⟩,⟨12,[145],[]⟩,⟨11,[144],[(_,_)]⟩,⟨10,[6],[]⟩,⟨9,[17],[]⟩,⟨5,[138],[(_,_)]⟩,⟨4,[19],[]⟩,⟨3,[136],[]⟩,⟨2,[135],[(_,_)]⟩,⟨1,[6],[]⟩]) [149] Z Z Z Z Z (zp (l:=[_]) Z zE.h TyZ.h dQ dQ Z) (fun _=>zr rfl tQ) sQ fun j53 hj53=>?_;refine TD.capp (pend':=[⟨14,[147],[(_,_)]⟩,⟨13,[21],[]⟩,⟨12,[145],[]⟩,⟨11,[144],[(_,_)]⟩,⟨10,[6],[]⟩,⟨5,[138],[(_,_)]⟩,⟨4,[19],[]⟩,⟨3,[136],[]⟩,⟨2,[135],[(_,_)]⟩,⟨1,[6],[]⟩]) [143,150] Z Z Z Z Z (a_app Z ApOf.h Z mQ (by rw [lJ,lJ,hlt,Nat.mul_one]) Z (yg (ln:=[_]) mQ dQ sQ Z) oQ Z (by unfold maxLen; omega) oQ) (fun _=>uQ) (fun _=>zr rfl tQ) (fun _=>sQ) fun jm2=>?_;refine TD.as (pend':=[⟨14,[147],[(_,_)]⟩,⟨13,[21],[]⟩,⟨12,[145],[]⟩,⟨11,[144],[(_,_)]⟩,⟨10,[6],[]⟩]) [142] Z Z (zy Z Z) ?_;refine ad [[13,151],[14]] ?_;refine bA [5,6,14,16,17,18] ?_;refine bC [(jl2,_),(jm2,_),(jo,_),(c4,_),(s4,_),(e4,_),(w4,_),(jb,_),(jk,_),(0,_),(1,_),(s,_),(h,_),(e,_),(c3,_),(s3,_),(e3,_),(jw,_)] ?_;exact H (jl2,jm2) trivial
       ·refine kJ Z (zp (l:=[_]) Z zE.h TyZ.h dQ dQ Z) (fun _=>zr rfl tQ) sQ fun j54 hj54=>?_;refine TD.capp (pend':=[⟨14,[147],[(_,_)]⟩,⟨13,[21],[]⟩,⟨12,[145],[]⟩,⟨11,[144],[(_,_)]⟩,⟨10,[6],[]⟩,⟨9,[17],[]⟩,⟨5,[138],[(_,_)]⟩,⟨4,[19],[]⟩,⟨3,[136],[]⟩,⟨2,[135],[(_,_)]⟩,⟨1,[6],[]⟩]) [134,141] Z Z Z Z Z (a_app Z ApOf.h Z mQ (by rw [lJ,lJ,hlt,Nat.mul_one]) Z (yg (ln:=[_]) mQ dQ sQ Z) oQ Z (by unfold maxLen; omega) oQ) (fun _=>uQ) (fun _=>zr rfl tQ) (fun _=>sQ) fun jl2=>?_;refine TD.capp (pend':=[⟨14,[147],[(_,_)]⟩,⟨13,[21],[]⟩,⟨12,[145],[]⟩,⟨11,[144],[(_,_)]⟩,⟨10,[6],[]⟩,⟨5,[138],[(_,_)]⟩,⟨4,[19],[]⟩,⟨3,[136],[]⟩,⟨2,[135],[(_,_)]⟩,⟨1,[6],[]⟩]) [143,150] Z Z Z Z Z (a_app Z ApOf.h Z mQ (by rw [lJ,lJ,hlt,Nat.mul_one]) Z (yg (ln:=[_]) mQ dQ sQ Z) oQ Z (by unfold maxLen; omega) oQ) (fun _=>uQ) (fun _=>zr rfl tQ) (fun _=>sQ) fun jm2=>?_;refine TD.as (pend':=[⟨14,[147],[(_,_)]⟩,⟨13,[21],[]⟩,⟨12,[145],[]⟩,⟨11,[144],[(_,_)]⟩,⟨10,[6],[]⟩]) [142] Z Z (zy Z Z) ?_;refine ad [[13,151],[14]] ?_;refine bA [5,6,14,16,17,18] ?_;refine bC [(jl2,_),(jm2,_),(jo,_),(c4,_),(s4,_),(e4,_),(w4,_),(jb,_),(jk,_),(0,_),(1,_),(s,_),(h,_),(e,_),(c3,_),(s3,_),(e3,_),(jw,_)] ?_;exact H (jl2,jm2) trivial
      ·refine kJ Z (zp (l:=[_]) Z zE.h TyZ.h dQ dQ Z) (fun _=>zr rfl tQ) sQ fun j55 hj55=>?_;refine TD.cnewR (pend':=[⟨14,[147],[(_,_)]⟩,⟨13,[21],[]⟩,⟨12,[145],[]⟩,⟨11,[144],[(_,_)]⟩,⟨10,[6],[]⟩,⟨9,[17],[]⟩,⟨5,[138],[(_,_)]⟩,⟨4,[19],[]⟩,⟨3,[136],[]⟩,⟨2,[135],[(_,_)]⟩,⟨1,[6],[]⟩,⟨0,[16],[]⟩]) [140] Z Z Z Z Z (zp (l:=[_]) Z zE.h TyZ.h dQ dQ Z) (fun _=>zr rfl tQ) sQ fun j56 hj56=>?_;refine TD.capp (pend':=[⟨14,[147],[(_,_)]⟩,⟨13,[21],[]⟩,⟨12,[145],[]⟩,⟨11,[144],[(_,_)]⟩,⟨10,[6],[]⟩,⟨9,[17],[]⟩,⟨5,[138],[(_,_)]⟩,⟨4,[19],[]⟩,⟨3,[136],[]⟩,⟨2,[135],[(_,_)]⟩,⟨1,[6],[]⟩]) [134,141] Z Z Z Z Z (a_app Z ApOf.h Z mQ (by rw [lJ,lJ,hlt,Nat.mul_one]) Z (yg (ln:=[_]) mQ dQ sQ Z) oQ Z (by unfold maxLen; omega) oQ) (fun _=>uQ) (fun _=>zr rfl tQ) (fun _=>sQ) fun jl2=>?_;refine TD.capp (pend':=[⟨14,[147],[(_,_)]⟩,⟨13,[21],[]⟩,⟨12,[145],[]⟩,⟨11,[144],[(_,_)]⟩,⟨10,[6],[]⟩,⟨5,[138],[(_,_)]⟩,⟨4,[19],[]⟩,⟨3,[136],[]⟩,⟨2,[135],[(_,_)]⟩,⟨1,[6],[]⟩]) [143,150] Z Z Z Z Z (a_app Z ApOf.h Z mQ (by rw [lJ,lJ,hlt,Nat.mul_one]) Z (yg (ln:=[_]) mQ dQ sQ Z) oQ Z (by unfold maxLen; omega) oQ) (fun _=>uQ) (fun _=>zr rfl tQ) (fun _=>sQ) fun jm2=>?_;refine TD.as (pend':=[⟨14,[147],[(_,_)]⟩,⟨13,[21],[]⟩,⟨12,[145],[]⟩,⟨11,[144],[(_,_)]⟩,⟨10,[6],[]⟩]) [142] Z Z (zy Z Z) ?_;refine ad [[13,151],[14]] ?_;refine bA [5,6,14,16,17,18] ?_;refine bC [(jl2,_),(jm2,_),(jo,_),(c4,_),(s4,_),(e4,_),(w4,_),(jb,_),(jk,_),(0,_),(1,_),(s,_),(h,_),(e,_),(c3,_),(s3,_),(e3,_),(jw,_)] ?_;exact H (jl2,jm2) trivial
     ·intro ⟨jl2,jm2⟩ _;refine bG nQ ?_;(try dsimp only);refine au 3523014140 ?_;refine bA [5,6,14,16,17,18] ?_;refine bC [(jl2,_),(jm2,_),(jo,_),(c4,_),(s4,_),(e4,_),(w4,_),(jb,_),(jk,_),(0,_),(1,_),(s,_),(h,_),(e,_),(c3,_),(s3,_),(e3,_),(jw,_)] ?_;exact hnext _ _ _ oQ ⟨i+1,jl2,jm2,rfl,oQ,rfl,by rw [zik hil,zik hil,lM,lM,hno]; rfl⟩
  obtain rfl:i=b.seams.length:=by simp at hc2; omega
  refine au 2160 ?_;rw [show b.seams.take b.seams.length=b.seams from List.take_length];refine TK.asSl 16 Z mQ ?_;refine TK.frzRow (j:=jl) ?_;refine au 0 ?_;refine TK.asSl 17 Z mQ ?_;refine TK.frzRow (j:=jm) ?_;refine au 0 ?_;refine TK.dr [0,1,3,4,2,5,6,7,8,9,10] [0,1,2,3,4,5,6,7,8,9,10] ?_;refine ad [[12,5],[1,16],[12,5],[1,17]] ?_;refine bQ (pend':=[⟨4,[17],[]⟩,⟨3,[5],[(_,_)]⟩]) [152,153] Z Z Z Z Z (zd1 hT (l:=needL k b) hbb hl1) (fun r57 K58 h59=>⟨?_,?_⟩)
  ·rcases h59 with ⟨js,rfl,rfl⟩
   all_goals simp
  obtain ⟨js,rfl,rfl⟩:=h59;try simp only [cA]
  refine bS tQ ?_;refine bQ (pend':=[]) [155,156] Z Z Z Z Z (zd1 hT (l:=needL o b) hbb hl2b) (fun r60 K61 h62=>⟨?_,?_⟩)
  ·rcases h62 with ⟨js2,rfl,rfl⟩
   all_goals simp
  obtain ⟨js2,rfl,rfl⟩:=h62;try simp only [cA]
  refine bS tQ ?_;refine bQ (pend':=[]) [154,157] Z Z Z Z Z (zhT (l:=needL k b) (m:=needL o b) hk1 hk2 hwd) (fun r63 K64 h65=>⟨?_,?_⟩)
  ·rcases h65 with ⟨rfl,rfl⟩
   all_goals simp
  obtain ⟨rfl,rfl⟩:=h65;try simp only [cA]
  refine bS tQ ?_;refine ad [[1,158]] ?_;refine TD.sp 159 (fun g18_8=>?_) (fun g18_8=>?_)
  ·refine bQ (pend':=[]) [159] Z Z Z Z Z (zba) (fun r66 K67 h68=>⟨?_,?_⟩)
   ·rcases h68 with ⟨rfl,rfl⟩
    all_goals simp
   obtain ⟨rfl,rfl⟩:=h68;try simp only [cA]
   refine bS tQ ?_;refine ad [[7,159,160],[13,161],[14]] ?_;refine au 0 ?_;refine TK.rt hret [] ?_;rfl
  exact absurd g18_8 dQ
end Go.Vel
end
