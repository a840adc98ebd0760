/- Texts for the statements of chapter 9: what all of them need, part 9. It holds of every program, tape and world that the statements name, as each theorem says. -/
import Derived.Test.YtcddfkgckelhiaaGreatDoorL5
import Derived.Test.YtcddfkgckelhiaaGreatDoorL6
import Derived.Test.YtcddfkgckelhiaaGreatDoorL7
section
set_option linter.all false
set_option maxRecDepth 20000
set_option maxHeartbeats 60000000
open Go.Proofs.Tryz renaming prog -> tp
open List renaming getElem?_eq_getElem -> lA, nil_append -> lC, getElem?_eq_some_iff -> lD, length_append -> lF, getElem?_append_left -> lG, perm_append_comm -> lH, length_map -> lJ, eq_nil_of_length_eq_zero -> lK, mem_cons_of_mem -> lL, map_append -> lM, mem_of_getElem? -> lN, getElem?_append_right -> lO, getElem?_map -> lQ, append_nil -> lR, take_length -> lW, mem_map -> lY, replicate -> mB
open List.Mem renaming head -> mC
open Array renaming getElem?_eq_some_iff -> mG, getElem?_toList -> mI
open Nat renaming le_refl -> mL, zero_le -> mN, zero_add -> mO, le_trans -> mT
open Bool renaming and_eq_true -> mX
open Int renaming toNat_natCast -> mZ
open Go.Vel.TK renaming maskL -> bA, rt -> bB, kp -> bC, cl -> bD, loopN -> bE, sp -> bF, a -> bH, newR -> bI, dq -> bL, perm -> bN, appR -> bO, frzRow -> bY
open Go.Vel.TD renaming cl -> bQ, norm -> bS, z -> bU
namespace Go.Vel
open Go Go.Conc Go.Proofs
theorem zfr (a:Int) {n:Int} (h:0<n):0<=a % n/\a % n<n:=⟨Int.emod_nonneg _ oQ,Int.emod_lt_of_pos _ h⟩
theorem zl2 {c d e x:Nat×AObj} {L R:KV} (h:Rem L x R):(c::d::e::L).Perm ([c,d,e,x]++R):=.cons _ (.cons _ (.cons _ h.perm))
instance:ApOf tp 78 181 2 32:={}
instance:BlOf tp 181 [(0,1),(1,1)]:={}
instance:Cal tp 161:={}
instance:Cal tp 199:={}
instance:Cal tp 62:={}
instance:Cal tp 80:={}
instance:Cal tp 84:={}
instance:zn tp 181 0 0 false 1:={}
instance:zn tp 181 1 1 false 1:={}
instance:zn tp 76 2 2 false 1:={}
instance:zT tp 78 181 2:={}
instance:zd tp 181 true 2:={}
instance:TyZ tp 181 [.int .i64 0,.slice none 0 0]:={}
instance:TyZA tp 181 [.v (.int .i64 0),.v (.slice none 0 0)]:={}
theorem zlQ {main T} (hT:zk tp main T) {gm} {b:SlB} {c s e w:Nat} {j off:Nat} {ob:AObj} {xs:List Int} {sh:Int} {h n:Int} (hb:SlBase b) (hI:IntsAt ob off xs) (hl:xs.length<=1000) (hsh : -3<=sh/\sh<=3) (hh:0<=h/\h<b.suns.length) (hn:0<=n/\n<b.steps) :
  zh tp T gm 199 [.agg (slC b c s e w),.agg [intA sh,.sl j off xs.length],intA h,intA n] [(s,suO b),(j,ob)] (fun r K'=>(∃ z,r=zl z)/\K'=[(s,suO b),(j,ob)]):=by
 refine ze 57 hT Tryz.func199 fun Y hret=>?_;refine au 0 ?_;obtain ⟨i,rfl⟩:=Int.eq_ofNat_of_zero_le hh.1;have hil:i<b.suns.length:=by omega
 have hq:=zfY hb hil;have hst:=hb.st;have hsp:=hb.sp;refine au 21042 ?_;intro jb hjb;refine au 210 ?_;intro jz hjz;refine au 36016906704235 ?_;refine bH Z (zN Z Z zd.h mQ (za4 hil Z)) ?_;refine au 220 ?_;intro jx hjx;refine au 17142235230690670690670423170 ?_;refine bF 24 (fun g3_3=>?_) (fun g3_3=>?_)
 ·refine au 3542180326088888 ?_;refine bB hret [(s,_),(j,_)] ?_;exact ⟨⟨_,rfl⟩,rfl⟩
 have hpos:0<(sunI b i).high+sh:=by simp at g3_3; omega
 refine au 690670690670 ?_;refine bD Z Z Z Z (uZ hT hI hl) ?_;rintro r1 K2 ⟨rfl,rfl⟩;refine au 93250 ?_;constructor<;>intro hc0
 ·refine au 3542 ?_;refine bB hret [(s,_),(j,_)] ?_;exact ⟨⟨_,rfl⟩,rfl⟩
 refine au 690670240690670142120 ?_;refine bH Z (q_quo Z Z Z oQ oQ oQ) ?_;refine au 690670240 ?_;refine bH Z (q_mul Z Z Z oQ) ?_;refine au 690670230 ?_;refine bH Z (q_rem Z Z Z oQ oQ) ?_;refine au 235 ?_;have hmb:=zfr (n - (sunI b i).step - b.steps / 2+2*b.steps) (n:=b.steps) oQ;refine bL [0,1,2,3,4,5,6,7,8,9,10,11] ?_;refine ad [[1,11],[3,4],[10,47],[1,11],[9,48,49]] ?_;refine bU [46,50] Z (q_min Z Z Z) ?_;refine ad [[1,10],[3,4],[10,53]] ?_;refine bU [52,54] Z (q_quo Z Z Z oQ oQ oQ) ?_;refine ad [[4,51,55],[13,56],[14]] ?_;refine au 0 ?_;refine bB hret [(s,_),(j,_)] ?_;exact ⟨⟨_,rfl⟩,rfl⟩
theorem zhV {main T} (hT:zk tp main T) {gm} {b:SlB} {c s e w:Nat} {j off:Nat} {ob:AObj} {xs:List Int} {sh:Int} (hb:SlBase b) (hI:IntsAt ob off xs) (hl:xs.length<=1000) (hw:SlWat b) (hsh : -3<=sh/\sh<=3) :
  zh tp T gm 161 [.agg (slC b c s e w),.agg [intA sh,.sl j off xs.length]] [(s,suO b),(w,waO b),(j,ob)] (fun r K'=>(∃ z,r=zl z)/\K'=[(s,suO b),(w,waO b),(j,ob)]):=by
 refine ze 29 hT Tryz.func161 fun Y hret=>?_;refine au 0 ?_;have hwl:=hw.len;refine au 21042 ?_;intro jb hjb;refine au 210 ?_;intro jz hjz;refine au 1303542235 ?_;refine bA [2,3,5] ?_;refine bE (fun n env K=>∃ (i:Nat),n=b.watches.length - i/\i<=b.watches.length/\env=zK 29 [(2,.ptr jb 0),(3,.ptr jz 0),(5,intA i)]/\K=[(jz,.cells [intA sh,.sl j off xs.length] 181 true),(jb,.cells (slC b c s e w) 74 true),(s,suO b),(w,waO b),(j,ob)]) (b.watches.length) ⟨0,rfl,mN _,rfl,rfl⟩ fun n env K hJ hnext=>?_;obtain ⟨i,rfl,hi,rfl,rfl⟩:=hJ;refine au 9372806906701422 ?_;constructor<;>intro hc0
 ·have hil:i<b.watches.length:=by simp at hc0; omega
  have hwo:=hw.all _ (lN (uM hil));unfold watOk at hwo;simp at hwo;refine au 3601690670421302120 ?_;refine bH Z (zN Z Z zd.h mQ (zc6 hil Z)) ?_;refine au 220 ?_;intro jx hjx;refine au 23170 ?_;refine TK.dr [0,1,2,3,4,5,7,8,6,9] [0,1,2,3,4,5,6,7,8,9] ?_;refine ad [[12,2],[12,3],[3,6],[10,21],[3,6],[10,23],[3,6],[10,26]] ?_;refine bQ (pend':=[⟨8,[26],[(_,_)]⟩,⟨7,[6],[]⟩,⟨4,[6],[]⟩,⟨2,[6],[]⟩]) [19,20,22,24] Z Z Z Z Z (zlQ hT hb hI hl hsh oQ oQ) (fun r1 K2 h3=>⟨?_,?_⟩)
  ·rcases h3 with ⟨⟨z,rfl⟩,rfl⟩
   all_goals simp
  obtain ⟨⟨z,rfl⟩,rfl⟩:=h3;try simp only [cA]
  refine bS tQ ?_;refine bU [25,27] Z (zcN Z Z Z Und.h Z) ?_;refine ad [[14]] ?_;refine au 9 ?_;constructor<;>intro hc1
  ·refine au 3542 ?_;refine bB hret [(s,_),(w,_),(j,_)] ?_;exact ⟨⟨_,rfl⟩,rfl⟩
  refine au 3523014140120 ?_;refine bA [2,3,5] ?_;refine bC [(jz,_),(jb,_),(s,_),(w,_),(j,_)] ?_;exact hnext _ _ _ oQ ⟨i+1,rfl,oQ,rfl,rfl⟩
 refine au 3542160 ?_;refine bB hret [(s,_),(w,_),(j,_)] ?_;exact ⟨⟨_,rfl⟩,rfl⟩
theorem zh4 {main T} (hT:zk tp main T) {gm} {b:SlB} {c s e w:Nat} {j off:Nat} {ob:AObj} {xs:List Int} {sh:Int} (hb:SlBase b) (hI:IntsAt ob off xs) (hl:xs.length<=1000) (hw:SlWat b) (hc:b.clean.length<=1000) (hsh : -3<=sh/\sh<=3) :
  zh tp T gm 84 [.agg (slC b c s e w),.agg [intA sh,.sl j off xs.length]] [(c,clO b),(s,suO b),(w,waO b),(j,ob)] (fun r K'=>(∃ z,r=zl z)/\K'=[(c,clO b),(s,suO b),(w,waO b),(j,ob)]):=by
 refine ze 43 hT Tryz.func84 fun Y hret=>?_;refine au 21042 ?_;intro jb hjb;refine au 210 ?_;intro jz hjz;refine au 1303542235 ?_;refine bA [2,3,5] ?_;refine bE (fun n env K=>∃ (i:Nat),n=xs.length - i/\i<=xs.length/\env=zK 43 [(2,.ptr jb 0),(3,.ptr jz 0),(5,intA i)]/\K=[(jz,.cells [intA sh,.sl j off xs.length] 181 true),(jb,.cells (slC b c s e w) 74 true),(c,clO b),(s,suO b),(w,waO b),(j,ob)]) (xs.length) ⟨0,rfl,mN _,rfl,rfl⟩ fun n env K hJ hnext=>?_;obtain ⟨i,rfl,hi,rfl,rfl⟩:=hJ;refine au 9372806906701422 ?_;constructor<;>intro hc0
 ·have hil:i<xs.length:=by simp at hc0; omega
  refine au 21302120 ?_;refine bL [0,1,2,3,4,5,6,7] ?_;refine ad [[3,2],[10,13],[3,3],[10,15],[1,5],[2,16,17]] ?_;refine TD.y [18] Z (hq:=zm Z Z zd.h (mC _) (hI i hil)) (h:=?_);refine bQ (pend':=[⟨5,[16,17],[]⟩,⟨4,[5],[]⟩,⟨3,[15],[(_,_)]⟩,⟨2,[3],[]⟩,⟨0,[2],[]⟩]) [14,19] Z Z Z Z Z (uZ hT (ym b.clean 3 false) hc) (fun r1 K2 h3=>⟨?_,?_⟩)
  ·rcases h3 with ⟨rfl,rfl⟩
   all_goals simp
  obtain ⟨rfl,rfl⟩:=h3;try simp only [cA]
  refine bS tQ ?_;refine ad [[14]] ?_;refine au 9 ?_;constructor<;>intro hc1
  ·refine au 3542 ?_;refine bB hret [(c,_),(s,_),(w,_),(j,_)] ?_;exact ⟨⟨_,rfl⟩,rfl⟩
  refine au 3523014140120 ?_;refine bA [2,3,5] ?_;refine bC [(jz,_),(jb,_),(c,_),(s,_),(w,_),(j,_)] ?_;exact hnext _ _ _ oQ ⟨i+1,rfl,oQ,rfl,rfl⟩
 refine au 69067067069067067069067042160 ?_;refine bD Z Z Z Z (yi hT) ?_;rintro r4 K5 ⟨rfl,rfl⟩;refine au 1 ?_;refine bF 30 (fun g6_10=>?_) (fun g6_10=>?_)
 ·refine au 12607690670280690670 ?_;refine bF 38 (fun g6_18=>?_) (fun g6_18=>?_)
  ·refine au 680680 ?_;refine bD Z Z Z Z (zhV hT hb hI hl hw hsh) ?_;rintro r7 K8 ⟨⟨z,rfl⟩,rfl⟩;refine au 35260 ?_;refine bB hret [(c,_),(s,_),(w,_),(j,_)] ?_;exact ⟨⟨_,rfl⟩,rfl⟩
  refine au 35250888 ?_;refine bB hret [(c,_),(s,_),(w,_),(j,_)] ?_;exact ⟨⟨_,rfl⟩,rfl⟩
 refine au 352508881250888888 ?_;refine bB hret [(c,_),(s,_),(w,_),(j,_)] ?_;exact ⟨⟨_,rfl⟩,rfl⟩
theorem zgB {main T} (hT:zk tp main T) {gm} {b:SlB} {c s e w:Nat} (hb:SlBase b) (hw:SlWat b) (hc:b.clean.length<=1000) :
  zh tp T gm 24 [.agg (slC b c s e w)] [(c,clO b),(s,suO b),(w,waO b)] (fun r K'=>∃ (jo m:Nat) (l:List AV),r=.row jo m/\K'=[(jo,.row l 181 2),(c,clO b),(s,suO b),(w,waO b)]):=by
 refine ze 43 hT Tryz.func24 fun Y hret=>?_;refine au 0 ?_;have hst:=hb.st;have hdi:=hb.di;have hsh:=hb.sh;have hwd:=hb.wd;refine au 21042 ?_;intro jb hjb;refine au 6906706906704235 ?_;refine bD Z Z Z Z (zmd hT (below:=b.steps) (most:=b.dirty) ⟨by omega,oQ⟩ ⟨by omega,oQ⟩) ?_;rintro r1 K2 ⟨ja,Q,rfl,hQ,rfl⟩;refine au 0 ?_;refine bN (K':=(ja,_)::(jb,_)::(c,_)::(s,_)::(w,_)::objsL Q) (List.Perm.cons _ lH) ?_;refine au 22354235 ?_;refine TK.virt 4 181 2 Z fun jo0 hjo0=>?_;refine au 130356906706704 ?_;refine bA [1,3,4,5] ?_;refine bC ((jo0,_)::(ja,_)::(jb,_)::(c,_)::(s,_)::(w,_)::objsL Q) ?_;have hQl:Q.length<=65536:=by
  have h1:=congrArg List.length hQ;rw [lJ] at h1;rw [h1];exact mT (zaU _ _) (zfH oQ)
 have hQs:∀ x∈Q,x.2.length<=1000:=fun x hx=>by
  have h1:x.2∈Q.map (·.2):=lY.2 ⟨x,hx,rfl⟩;rw [hQ] at h1;have:=uB hdi.1 _ _ h1;omega
 refine bE (fun n1 env K=>∃ (n:Int) (jo m:Nat) (l:List AV),n1=(b.hi+1 - n).toNat/\(b.lo<=n/\n<=b.hi+1)/\(l.length=m*2/\l.all oneA=true/\(m:Int)<=(n - b.lo)*65536)/\env=zK 43 [(1,.ptr jb 0),(3,.row ja Q.length),(4,.row jo m),(5,intA n)]/\K=(jo,.row l 181 2)::(ja,.row (refsL Q) 61 1)::(jb,.cells (slC b c s e w) 74 true)::(c,clO b)::(s,suO b)::(w,waO b)::objsL Q) _ ⟨b.lo,jo0,0,[],rfl,oQ,⟨rfl,rfl,oQ⟩,rfl,rfl⟩ fun n1 env K hI hnext=>?_;obtain ⟨n,jo,m,l,rfl,hn,⟨hl1,hl2,hl3⟩,rfl,rfl⟩:=hI;refine au 9376906706701422 ?_;constructor<;>intro hc0
 ·have hnh:n<=b.hi:=of_decide_eq_true hc0;refine au 13035421302120 ?_;refine bA [1,3,4,5,6] ?_;refine bE (fun n1 env K=>∃ (i jo m:Nat) (l:List AV),n1=Q.length - i/\i<=Q.length/\(l.length=m*2/\l.all oneA=true/\(m:Int)<=(n - b.lo)*65536+i)/\env=zK 43 [(1,.ptr jb 0),(3,.row ja Q.length),(4,.row jo m),(5,intA n),(6,intA i)]/\K=(jo,.row l 181 2)::(ja,.row (refsL Q) 61 1)::(jb,.cells (slC b c s e w) 74 true)::(c,clO b)::(s,suO b)::(w,waO b)::objsL Q) Q.length ⟨0,jo,m,l,rfl,mN _,⟨hl1,hl2,oQ⟩,rfl,rfl⟩ fun n1 env K hI hnext1=>?_;obtain ⟨i,jo,m,l,rfl,hi,⟨hl1,hl2,hl3⟩,rfl,rfl⟩:=hI;refine au 93728011422 ?_;constructor<;>intro hc1
  ·have hil:i<Q.length:=by simp at hc1; omega
   have hxm:Q[i]∈Q:=List.getElem_mem hil;obtain ⟨Rq,hRq⟩:=zcF hxm;refine au 370111421302120 ?_;refine bH Z (zm Z Z zd.h mQ (zdt hil Z)) ?_;refine au 220390 ?_;intro jt hjt;refine au 680680423170 ?_;refine bD Z Z Z Z ((zh4 hT hb (ym _ _ _) (hQs _ hxm) hw hc oQ).frameP (zl2 hRq)) ?_;rintro r4 K5 ⟨⟨z,rfl⟩,rfl⟩;refine au 0 ?_;refine bN (lH (l₁:=(c,_)::(s,_)::(w,_)::objsL Q)) ?_;simp only [cA];refine au 93 ?_;constructor<;>intro hc2
   ·refine au 68014 ?_;refine bI Z Z Z (zD (l:=[_,_]) Z zT.h TyZ.h dQ dQ Z) (fun _=>zt rfl tQ) fun j7 hj7=>?_;refine bO Z Z Z (a_app Z ApOf.h Z mQ hl1 Z (yG (ln:=[_,_]) mQ dQ sQ Z) oQ Z (by unfold maxLen; omega) oQ) (fun _=>uQ) (fun _=>zt rfl tQ) fun j2=>?_;refine au 352301414035 ?_;refine bA [1,3,4,5,6] ?_;refine bC (((j2,_)::(ja,_)::(jb,_)::(c,_)::(s,_)::(w,_)::objsL Q)) ?_;exact hnext1 _ _ _ oQ ⟨i+1,j2,m+1,_,rfl,oQ,⟨by rw [lF,hl1,Nat.succ_mul]; rfl,by rw [List.all_append,hl2]; rfl,oQ⟩,rfl,rfl⟩
   refine au 3523014140120 ?_;refine bA [1,3,4,5,6] ?_;refine bC (((jo,_)::(ja,_)::(jb,_)::(c,_)::(s,_)::(w,_)::objsL Q)) ?_;exact hnext1 _ _ _ oQ ⟨i+1,jo,m,l,rfl,oQ,⟨hl1,hl2,oQ⟩,rfl,rfl⟩
  refine au 3523014140160 ?_;refine bA [1,3,4,5] ?_;refine bC (((jo,_)::(ja,_)::(jb,_)::(c,_)::(s,_)::(w,_)::objsL Q)) ?_;exact hnext _ _ _ oQ ⟨n+1,jo,m,l,rfl,oQ,⟨hl1,hl2,oQ⟩,rfl,rfl⟩
 refine au 35142160 ?_;refine bB hret [(jo,_),(c,_),(s,_),(w,_)] ?_;exact ⟨_,_,l,rfl,rfl⟩
theorem fPo:flatF tp 196=some [(3,0),(3,1)]:=by kernel_rfl
def eqP (a b:Int×Int):Bool:=(a.1==b.1)&&(a.2==b.2)
theorem eqP_t {a b:Int×Int} (h:eqP a b=true):a=b:=by
 obtain ⟨x,y⟩:=a;obtain ⟨z,w⟩:=b;simp [eqP] at h;rw [h.1,h.2]
theorem eqP_s (a:Int×Int):eqP a a=true:=by simp [eqP]
theorem eq_po (a b:Int×Int):zI tp (Op.equal 196 (fcV a) (fcV b))=some (eqP a b):=by
 show zI _ (Op.equalIn (9998+2) 196 _ _)=_;have h:=zkc (P:=tp) (d:=9998) fPo (EqL.consI uI3 (xs:=#[mv a.1,mv a.2]) (ys:=#[mv b.1,mv b.2]) (off:=0) rfl rfl (EqL.consI uI3 (off:=1) rfl rfl EqL.nil));exact h.trans (by simp [eqP])
theorem uPo:∃ fs,tp.underlying 196=some (.struct fs)/\fs.toList.map (fun f=>(f.type,f.offset))=[(3,0),(3,1)]:=by
 have h:=fPo;unfold flatF at h;split at h
 ·rename_i fs hu;split at h
  ·exact ⟨fs,hu,Option.some.inj h⟩
  ·cases h
 ·cases h
theorem zj6 {e:Bool} (a:Int×Int):zI tp (Instr.checkKey e 10000 196 (fcV a))=some ():=by
 obtain ⟨fs,hu,hm⟩:=uPo;show zI _ (Instr.checkKey e (9999+1) 196 _)=_;unfold Instr.checkKey;refine zE (z8 hu) ?_;dsimp only [fcV];rw [<- Array.forIn_toList];refine zE (a:=PUnit.unit) (ziU fs.toList fun f hf=>?_) rfl;have h2:(f.type,f.offset)∈fs.toList.map (fun f=>(f.type,f.offset)):=lY.2 ⟨f,hf,rfl⟩;rw [hm] at h2;have h3:∃ v,zI tp (part f.type #[mv a.1,mv a.2] f.offset)=some v/\zI tp (Instr.checkKey e (9998+1) f.type v)=some ():=by
  simp only [List.mem_cons,Prod.mk.injEq,List.not_mem_nil,or_false] at h2;rcases h2 with ⟨h1,h2⟩ | ⟨h1,h2⟩
  ·rw [h1,h2];exact ⟨mv a.1,wG (by unfold scalT; rw [uI3]) rfl,zgJ uI3⟩
  ·rw [h1,h2];exact ⟨mv a.2,wG (by unfold scalT; rw [uI3]) rfl,zgJ uI3⟩
 obtain ⟨v,h3,h4⟩:=h3
 by_cases hn:f.name ≠ "_"
 ·rw [if_pos hn];simp [zim,zjf,h3];exact zE (s:=Instr.checkKey e (9998+1) f.type v) h4 rfl
 ·rw [if_neg hn];simp [zim,zjf]
structure MapI (es:Array MapEntry) (clock:Nat) (ks L:List (Int×Int)):Prop where
 key:∀ (j:Nat) (en:MapEntry),es[j]? =some en->∃ k,ks[j]? =some k/\en.key=fcV k/\en.val=mv (L.count k)
 len:es.size=ks.length
 nd:∀ (i j:Nat) k,ks[i]? =some k->ks[j]? =some k->i=j
 all:∀ k∈L,k∈ks
 bn:∀ (i j:Nat) (a b:MapEntry),es[i]? =some a->es[j]? =some b->a.born=b.born->i=j
 lt:∀ (j:Nat) (en:MapEntry),es[j]? =some en->en.born<clock
def MapN (ob:Obj) (L:List (Int×Int)):Prop:=∃ es clock ks,ob=.map es clock/\MapI es clock ks L
theorem zkK:MapN (.map #[] 0) []:=⟨#[],0,[],rfl,⟨fun j en h=>by simp at h,rfl,fun i j k h=>by simp at h,fun k h=>h,fun i j a b h=>by simp at h,fun j en h=>by simp at h⟩⟩
def MapE (ob:Obj) (L:List (Int×Int)) (k:Int×Int) (born:Nat):Prop:=∃ es clock ks,ob=.map es clock/\MapI es clock ks L/\∃ (i:Nat) (en:MapEntry),es[i]? =some en/\ks[i]? =some k/\en.born=born
theorem zmP {ob:Obj} {L:List (Int×Int)} {k:Int×Int} {born:Nat} (h:MapE ob L k born):MapN ob L:=by
 obtain ⟨es,c,ks,h1,h2,_⟩:=h;exact ⟨es,c,ks,h1,h2⟩
def FoundP (k:Int×Int) (es:List MapEntry) (ks:List (Int×Int)) (i:Nat):Option (Nat×Value)->Prop
 | none=>∀ j,j<es.length->ks[j]? ≠some k
 | some (q,v)=>∃ j en,q=i+j/\es[j]? =some en/\ks[j]? =some k/\v=en.val
theorem zih {k:Int×Int}:∀ (es:List MapEntry) (ks:List (Int×Int)) (i:Nat),(∀ (j:Nat) en,es[j]? =some en->∃ k,ks[j]? =some k/\en.key=fcV k)->∃ r,zI tp (Instr.findAsking 196 (fcV k) es i)=some r/\FoundP k es ks i r
 | [],ks,i,_=>⟨none,rfl,fun j h=>by simp at h⟩
 | en::es,ks,i,h=>by
  obtain ⟨k',h1,h2⟩:=h 0 en rfl
  match ks,h1 with
  | k0::ks,h1 =>
  cases h1;unfold Instr.findAsking;by_cases he:eqP k k'=true
  ·have:=eqP_t he;subst this;exact ⟨some (i,en.val),zE (a:=true) (by rw [h2,eq_po,he]) rfl,0,en,rfl,rfl,rfl,rfl⟩
  ·obtain ⟨r,h3,h4⟩:=zih es ks (i+1) fun j en hj=>h (j+1) en hj;refine ⟨r,zE (a:=false) (by rw [h2,eq_po]; simpa using he) (by simp only [Bool.false_eq_true,if_false]; exact h3),?_⟩;cases r with
   | none =>
    intro j hj;cases j with
    | zero =>
     intro hk;rw [List.getElem?_cons_zero] at hk;exact he (by rw [Option.some.inj hk]; exact eqP_s k)
    | succ j=>rw [List.getElem?_cons_succ]; exact h4 j (by simpa using hj)
   | some z =>
    obtain ⟨q,v⟩:=z;obtain ⟨j,en2,q1,q2,q3,q4⟩:=h4;exact ⟨j+1,en2,oQ,q2,q3,q4⟩
theorem zlF {k:Int×Int} {es:Array MapEntry} {c:Nat} {ks L:List (Int×Int)} (h:MapI es c ks L):∃ r,zI tp (Instr.findKey 196 (fcV k) es.toList)=some r/\FoundP k es.toList ks 0 r:=by
 obtain ⟨fs,hu,_⟩:=uPo;obtain ⟨r,h1,h2⟩:=zih (k:=k) es.toList ks 0 fun j en hj=>by
  rw [mI] at hj;obtain ⟨k',q1,q2,_⟩:=h.key j en hj;exact ⟨k',q1,q2⟩
 refine ⟨r,?_,h2⟩;unfold Instr.findKey;refine zE (z8 hu) ?_;cases hl:es.toList with
 | nil =>
  rw [hl] at h1;have:some none=some r:=h1;cases this;rfl
 | cons en l =>
  rw [hl] at h1;have:Instr.findNow (.struct fs) (fcV k) (en::l) 0=none:=rfl;rw [this];exact h1
theorem zdW {k:Int×Int} {es:Array MapEntry} {c:Nat} {ks L:List (Int×Int)} (h:MapI es c ks L) {q:Nat} {v:Value} (hf:FoundP k es.toList ks 0 (some (q,v))):v=mv (L.count k)/\∃ en,es[q]? =some en/\ks[q]? =some k/\en.key=fcV k:=by
 obtain ⟨j,en,rfl,q2,q3,rfl⟩:=hf;rw [mI] at q2;obtain ⟨k',r1,r2,r3⟩:=h.key j en q2;rw [q3] at r1;cases r1;exact ⟨r3,en,by rw [mO]; exact q2,by rw [mO]; exact q3,r2⟩
theorem zct {k:Int×Int} {es:Array MapEntry} {c:Nat} {ks L:List (Int×Int)} (h:MapI es c ks L) (hf:FoundP k es.toList ks 0 none):k∉ks/\L.count k=0:=by
 have:k∉ks:=fun hm=>by
  obtain ⟨j,hj⟩:=List.getElem?_of_mem hm;have hl:=(lD.1 hj).1;exact hf j (by rw [Array.length_toList,h.len]; exact hl) hj
 exact ⟨this,List.count_eq_zero.2 fun hm=>this (h.all k hm)⟩
theorem ziX {k:Int×Int} {es:Array MapEntry} {c:Nat} {ks L:List (Int×Int)} (h:MapI es c ks L) {q:Nat} {f:MapEntry->MapEntry} (hk:ks[q]? =some k) (h1:∀ e,(f e).key=fcV k) (h2:∀ e,(f e).val=e.val) (h3:∀ e,(f e).born=e.born):MapI (es.modify q f) c ks L:=by
 have key:∀ (j:Nat) en,(es.modify q f)[j]? =some en->∃ en0,es[j]? =some en0/\(en=en0\/(j=q/\en=f en0)):=fun j en hj=>by
  rw [Array.getElem?_modify] at hj;split at hj
  ·rename_i e;cases hx:es[j]? with
   | none=>rw [hx] at hj; cases hj
   | some en0=>rw [hx] at hj; cases hj; exact ⟨en0,rfl,.inr ⟨e.symm,rfl⟩⟩
  ·exact ⟨en,hj,.inl rfl⟩
 have hb:∀ (j:Nat) en,(es.modify q f)[j]? =some en->∃ en0,es[j]? =some en0/\en.born=en0.born:=fun j en hj=>by
  obtain ⟨en0,q1,rfl | ⟨_,rfl⟩⟩:=key j en hj
  ·exact ⟨_,q1,rfl⟩
  ·exact ⟨_,q1,h3 _⟩
 refine ⟨fun j en hj=>?_,by rw [Array.size_modify]; exact h.len,h.nd,h.all,fun i j a b ha hb' e=>?_,fun j en hj=>?_⟩
 ·obtain ⟨en0,q1,rfl | ⟨rfl,rfl⟩⟩:=key j en hj
  ·exact h.key j _ q1
  ·obtain ⟨k',r1,r2,r3⟩:=h.key j _ q1;rw [hk] at r1;cases r1;exact ⟨k,hk,h1 _,by rw [h2]; exact r3⟩
 ·obtain ⟨a0,q1,q2⟩:=hb i a ha;obtain ⟨b0,q3,q4⟩:=hb j b hb';exact h.bn i j a0 b0 q1 q3 (by rw [<- q2,<- q4,e])
 ·obtain ⟨a0,q1,q2⟩:=hb j en hj;rw [q2]; exact h.lt j a0 q1
theorem ziW {k:Int×Int} {es:Array MapEntry} {c:Nat} {ks L:List (Int×Int)} (h:MapI es c ks L) (hk:k∉ks):MapI (es.push { key:=fcV k,val:=mv 0,born:=c }) (c+1) (ks++[k]) L:=by
 have key:∀ (j:Nat) en,(es.push { key:=fcV k,val:=mv 0,born:=c })[j]? =some en->(j=es.size/\en={ key:=fcV k,val:=mv 0,born:=c })\/es[j]? =some en:=fun j en hj=>by
  rw [Array.getElem?_push] at hj;split at hj
  ·rename_i e; cases hj; exact .inl ⟨e,rfl⟩
  ·exact .inr hj
 have lt:∀ (j:Nat) en,es[j]? =some en->j<ks.length:=fun j en hj=>by rw [<- h.len]; exact (mG.1 hj).1
 refine ⟨fun j en hj=>?_,by rw [Array.size_push,lF,h.len]; rfl,fun i j k' h1 h2=>?_,fun k' hm=>List.mem_append_left _ (h.all k' hm),fun i j a b ha hb e=>?_,fun j en hj=>?_⟩
 ·rcases key j en hj with ⟨rfl,rfl⟩ | hj
  ·exact ⟨k,by rw [h.len,lO (mL _),Nat.sub_self]; rfl,rfl,by rw [List.count_eq_zero.2 fun hm=>hk (h.all k hm)]; rfl⟩
  ·obtain ⟨k',r1,r2⟩:=h.key j en hj;exact ⟨k',by rw [lG (lt j en hj)]; exact r1,r2⟩
 ·have key2:∀ (i:Nat),(ks++[k])[i]? =some k'->(i<ks.length/\ks[i]? =some k')\/(i=ks.length/\k'=k):=fun i hi=>by
   rcases Nat.lt_or_ge i ks.length with hl | hl
   ·exact .inl ⟨hl,by rwa [lG hl] at hi⟩
   ·rw [lO hl] at hi;have hz:i - ks.length<1:=by have:=(lD.1 hi).1; simpa using this
    rw [show i - ks.length=0 by omega] at hi;cases hi;exact .inr ⟨by omega,rfl⟩
  rcases key2 i h1 with ⟨a1,a2⟩ | ⟨a1,a2⟩ <;> rcases key2 j h2 with ⟨b1,b2⟩ | ⟨b1,b2⟩
  ·exact h.nd i j k' a2 b2
  ·subst b2; exact absurd (lN a2) hk
  ·subst a2; exact absurd (lN b2) hk
  ·omega
 ·rcases key i a ha with ⟨rfl,rfl⟩ | ha <;> rcases key j b hb with ⟨rfl,rfl⟩ | hb
  ·rfl
  ·have:=h.lt j b hb; have e:c=b.born:=e; omega
  ·have:=h.lt i a ha; have e:a.born=c:=e; omega
  ·exact h.bn i j a b ha hb e
 ·rcases key j en hj with ⟨rfl,rfl⟩ | hj
  ·exact Nat.lt_succ_self _
  ·exact Nat.lt_succ_of_lt (h.lt j en hj)
theorem zkJ {k:Int×Int} {es:Array MapEntry} {c:Nat} {ks L:List (Int×Int)} (h:MapI es c ks L) {q:Nat} (hk:ks[q]? =some k):MapI (es.modify q fun e=>{ e with val:=mv (L.count k+1:Nat) }) c ks (L++[k]):=by
 have key:∀ (j:Nat) en,(es.modify q fun e=>{ e with val:=mv (L.count k+1:Nat) })[j]? =some en->∃ en0,es[j]? =some en0/\((j≠q/\en=en0)\/(j=q/\en={ en0 with val:=mv (L.count k+1:Nat) })):=fun j en hj=>by
  rw [Array.getElem?_modify] at hj;split at hj
  ·rename_i e;cases hx:es[j]? with
   | none=>rw [hx] at hj; cases hj
   | some en0=>rw [hx] at hj; cases hj; exact ⟨en0,rfl,.inr ⟨e.symm,rfl⟩⟩
  ·rename_i e; exact ⟨en,hj,.inl ⟨fun h=>e h.symm,rfl⟩⟩
 refine ⟨fun j en hj=>?_,by rw [Array.size_modify]; exact h.len,h.nd,fun k' hm=>?_,fun i j a b ha hb e=>?_,fun j en hj=>?_⟩
 ·obtain ⟨en0,q1,⟨hne,rfl⟩ | ⟨rfl,rfl⟩⟩:=key j en hj
  ·obtain ⟨k',r1,r2,r3⟩:=h.key j _ q1;refine ⟨k',r1,r2,?_⟩;have:k'≠k:=fun e=>by subst e; exact hne (h.nd j q k' r1 hk)
   have hz:List.count k' [k]=0:=List.count_eq_zero.2 (by simpa using this);rw [List.count_append,hz,Nat.add_zero];exact r3
  ·obtain ⟨k',r1,r2,r3⟩:=h.key j _ q1;rw [hk] at r1;cases r1;refine ⟨k,hk,r2,?_⟩;rw [List.count_append,List.count_singleton_self]
 ·rcases List.mem_append.1 hm with hm | hm
  ·exact h.all k' hm
  ·rw [List.mem_singleton.1 hm]; exact lN hk
 ·obtain ⟨a0,q1,ha'⟩:=key i a ha;obtain ⟨b0,q2,hb'⟩:=key j b hb;have e1:a.born=a0.born:=by rcases ha' with ⟨_,rfl⟩ | ⟨_,rfl⟩ <;> rfl
  have e2:b.born=b0.born:=by rcases hb' with ⟨_,rfl⟩ | ⟨_,rfl⟩ <;> rfl
  exact h.bn i j a0 b0 q1 q2 (by rw [<- e1,<- e2,e])
 ·obtain ⟨a0,q1,ha'⟩:=key j en hj;have e1:en.born=a0.born:=by rcases ha' with ⟨_,rfl⟩ | ⟨_,rfl⟩ <;> rfl
  rw [e1]; exact h.lt j a0 q1
theorem uMpN:tp.underlying 188=some (.map 196 3):=by kernel_rfl
theorem iInt:tp.info? 3=some Tryz.t3:=by kernel_rfl
theorem zInt:Tryz.t3.zero=some (mv 0):=by kernel_rfl
theorem zma (k:Int×Int):Instr.sameBits 10000 (fcV k) (fcV k)=true:=by
 show Instr.sameBits (9999+1) (fcV k) (fcV k)=true;unfold fcV;simp [Instr.sameBits,mv]
structure KeyP (P:Program):Prop where
 um:P.underlying 188=some (.map 196 3)
 ck:∀ e k,zI P (Instr.checkKey e 10000 196 (fcV k))=some ()
 fd:∀ (k:Int×Int) (es:Array MapEntry) (c:Nat) (ks L:List (Int×Int)),MapI es c ks L->∃ r,zI P (Instr.findKey 196 (fcV k) es.toList)=some r/\FoundP k es.toList ks 0 r
 zi:∃ ti,P.info? 3=some ti/\ti.zero=some (mv 0)
theorem keyP:KeyP tp:=⟨uMpN,fun _ k=>zj6 k,fun k es c ks L h=>zlF h,_,iInt,zInt⟩
section
variable {P:Program} {gm:Nat->Option Nat} {V:KV} {env:List AV} {o:Oper}
theorem zdr (hP:KeyP P) {x y:Operand} {j:Nat} {k:Int×Int} {ob:Obj} {L:List (Int×Int)} (ho:o.op=.lookup 188 x y false) (hx:zw gm env x=some (.map j)) (hy:zw gm env y=some (.agg (fcC k))) (hm:(j,.raw ob)∈V) (hf:MapN ob L):Qk P gm env V o (intA (L.count k)):=fun A hA φ F H a hg hH hE=>by
 obtain ⟨es,c,ks,rfl,hI⟩:=hf;obtain ⟨r,h1,h2⟩:=hP.fd k es c ks L hI;unfold execOp; rw [ho];refine wpS_v ?_;have e1:=zu hg hE x;rw [zq hx] at e1;obtain ⟨hj,e1⟩:=uJ e1;have e2:=zu hg hE y;rw [zq hy] at e2;rw [e1,vg (zjT k) e2];have hb:H (φ j).blk=some (true,.map es c):=hH.obj j _ (hA.get hm);unfold Instr.lookup;refine za _ _ _ (zA hP.um ?_);dsimp only;refine za _ _ _ ?_;refine ⟨true,_,hb,rfl,rfl,?_⟩;refine za _ _ _ ?_;rw [kq];refine za _ _ _ (k9 _ (hP.ck _ k) ?_);refine za _ _ _ (k9 _ h1 ?_);cases r with
 | none =>
  obtain ⟨_,hc⟩:=zct hI h2;obtain ⟨ti,hti,hz⟩:=hP.zi;refine za _ _ _ (kj hti hz ?_);rw [hc];exact zW.quiet hH (.v _)
 | some z =>
  obtain ⟨q,v⟩:=z;obtain ⟨rfl,_⟩:=zdW hI h2;exact zW.quiet hH (.v _)
theorem zfM (hP:KeyP P) {x y:Operand} {j:Nat} {k:Int×Int} {ob:Obj} {L:List (Int×Int)} (ho:o.op=.mapEntry 188 x y) (hx:zw gm env x=some (.map j)) (hy:zw gm env y=some (.agg (fcC k))) (hm:(j,.raw ob)∈V) (hf:MapN ob L) :
  ∃ ob' born,MapE ob' L k born/\∀ A,zP V A->OpOk P gm env A o (.tup [intA (L.count k),intA born]) (A.set j (.raw ob')):=by
 obtain ⟨es,c,ks,rfl,hI⟩:=hf;obtain ⟨r,h1,h2⟩:=hP.fd k es c ks L hI;have key:∀ ob' (born:Nat),MapE ob' L k born->(∀ (H:Hp) (b:Nat) (Q:Value->Hp->Prop),H b=some (true,.map es c)->Q (.tuple #[mv (L.count k),mv born]) (H.put b (true,ob'))->wpS P (match r with | some (i,v)=>Instr.keyThatStays (((es[i]?).map (·.key)).getD (fcV k)) (fcV k) >>= fun key=>setObj b (.map (es.modify i fun e=>{ e with key:=key }) c) >>= fun _=>pure (.tuple #[v,goInt (((es[i]?).map (·.born)).getD 0)]) | none=>zeroValue 3 >>= fun zero=>setObj b (.map (es.push { key:=fcV k,val:=zero,born:=c }) (c+1)) >>= fun _=>pure (.tuple #[zero,goInt c])) H Q)->∃ ob' born,MapE ob' L k born/\∀ A,zP V A->OpOk P gm env A o (.tup [intA (L.count k),intA born]) (A.set j (.raw ob')):=fun ob' born hob hq=>by
  refine ⟨ob',born,hob,fun A hA φ F H a hg hH hE=>?_⟩;unfold execOp; rw [ho];refine wpS_v ?_;have e1:=zu hg hE x;rw [zq hx] at e1;obtain ⟨hj,e1⟩:=uJ e1;have e2:=zu hg hE y;rw [zq hy] at e2;rw [e1,vg (zjT k) e2];have hb:H (φ j).blk=some (true,.map es c):=hH.obj j _ (hA.get hm);unfold Instr.mapEntry;refine za _ _ _ (zA hP.um ?_);dsimp only;refine za _ _ _ ?_;refine ⟨true,_,hb,rfl,rfl,?_⟩;refine za _ _ _ (k9 _ (hP.ck _ k) ?_);refine za _ _ _ (k9 _ h1 ?_);refine hq H _ _ hb ⟨_,φ,.inl rfl,Agr.refl _ _,by simp,hH.set (hA.get hm) Z trivial (Hp.put_same _ _ _),.tup (ys:=#[mv (L.count k),mv born]) Z fun q u v hu hv=>?_⟩
  match q,hu,hv with
  | 0,hu,hv=>cases hu; cases hv; exact .v _
  | 1,hu,hv=>cases hu; cases hv; exact .v _
  | q+2,hu,hv=>cases hu
 cases r with
 | none =>
  obtain ⟨hk,hc⟩:=zct hI h2;refine key (.map (es.push { key:=fcV k,val:=mv 0,born:=c }) (c+1)) c ⟨_,_,_,rfl,ziW hI hk,es.size,_,by rw [Array.getElem?_push,if_pos rfl],by rw [hI.len,lO (mL _),Nat.sub_self]; rfl,rfl⟩ fun H b Q hb hq=>?_;obtain ⟨ti,hti,hz⟩:=hP.zi;refine za _ _ _ (kj hti hz ?_);rw [hc] at hq;exact za _ _ _ ⟨_,hb,rfl,rfl,hq⟩
 | some z =>
  obtain ⟨q,v⟩:=z;obtain ⟨rfl,en,q2,q3,q4⟩:=zdW hI h2;refine key (.map (es.modify q fun e=>{ e with key:=fcV k }) c) en.born ⟨_,_,_,rfl,ziX hI q3 (fun _=>rfl) (fun _=>rfl) (fun _=>rfl),q,{ en with key:=fcV k },by rw [Array.getElem?_modify,if_pos rfl,q2]; rfl,q3,rfl⟩ fun H b Q hb hq=>?_;dsimp only;rw [q2];have hks:Instr.keyThatStays (((some en).map (·.key)).getD (fcV k)) (fcV k)=(pure (fcV k):Sem Value):=by
   show Instr.keyThatStays en.key (fcV k)=_;rw [q4];unfold Instr.keyThatStays;rw [zma];rfl
  rw [hks];refine za _ _ _ ?_;rw [kq];exact za _ _ _ ⟨_,hb,rfl,rfl,hq⟩
theorem zm2 {x y z:Operand} {j born:Nat} {k:Int×Int} {ob:Obj} {L:List (Int×Int)} {t:TypeId} (ho:o.op=.entryStore t x y z) (hx:zw gm env x=some (.map j)) (hy:zw gm env y=some (intA born)) (hz:zw gm env z=some (intA (L.count k+1:Nat))) (hm:(j,.raw ob)∈V) (hf:MapE ob L k born) :
  ∃ ob',MapN ob' (L++[k])/\∀ A,zP V A->OpOk P gm env A o .any (A.set j (.raw ob')):=by
 obtain ⟨es,c,ks,rfl,hI,i,en,h1,h2,h3⟩:=hf;refine ⟨_,⟨_,c,ks,rfl,zkJ hI h2⟩,fun A hA φ F H a hg hH hE=>?_⟩;unfold execOp; rw [ho];refine wpS_u ?_;have e1:=zu hg hE x;rw [zq hx] at e1;obtain ⟨hj,e1⟩:=uJ e1;have e2:=zu hg hE y;rw [zq hy] at e2;have e3:=zu hg hE z;rw [zq hz] at e3;rw [e1,inv_v e2,inv_v e3];have hb:H (φ j).blk=some (true,.map es c):=hH.obj j _ (hA.get hm);have hfi:es.findIdx? (fun e=>(e.born:Int)==(born:Int))=some i:=by
  obtain ⟨hi,hi2⟩:=mG.1 h1;rw [Array.findIdx?_eq_some_iff_getElem];refine ⟨hi,by rw [hi2,h3]; simp,fun q hq=>?_⟩;have hqs:q<es.size:=by omega
  intro he;have he:es[q].born=born:=Int.ofNat.inj (by simpa using he);have:=hI.bn q i es[q] en (Array.getElem?_eq_getElem hqs) h1 (by rw [he,h3]);omega
 unfold Instr.entryStore;refine za _ _ _ ?_;refine ⟨true,_,hb,rfl,rfl,?_⟩;refine za _ _ _ ?_;show wpS P (pure (born:Int)) H _;rw [kq];rw [hfi];exact ⟨_,hb,rfl,rfl,undef,φ,.inr ⟨rfl,rfl⟩,Agr.refl _ _,by simp,hH.set (hA.get hm) rfl trivial (Hp.put_same _ _ _),.any _⟩
end
def stepsC (l:List Bool):List AV:=[zl (l.getD 0 false),zl (l.getD 1 false),zl (l.getD 2 false),zl (l.getD 3 false),zl (l.getD 4 false),zl (l.getD 5 false),zl (l.getD 6 false),zl (l.getD 7 false),zl (l.getD 8 false),zl (l.getD 9 false),zl (l.getD 10 false),zl (l.getD 11 false)]
def skyC (y:SkyR):List AV:=[intA y.shift,zl (y.dirty.getD 0 false),zl (y.dirty.getD 1 false),zl (y.dirty.getD 2 false),zl (y.dirty.getD 3 false),zl (y.dirty.getD 4 false),zl (y.dirty.getD 5 false),zl (y.dirty.getD 6 false),zl (y.dirty.getD 7 false),zl (y.dirty.getD 8 false),zl (y.dirty.getD 9 false),zl (y.dirty.getD 10 false),zl (y.dirty.getD 11 false)]
theorem lt12 {n:Int} (h:0<=n/\n<12):n=0\/n=1\/n=2\/n=3\/n=4\/n=5\/n=6\/n=7\/n=8\/n=9\/n=10\/n=11:=by omega
theorem zcI {l:List Bool} {n:Int} (h:0<=n/\n<12) {g:Bool}:partA false (stepsC l) (n.toNat*1) 1=some (zl (l.getD n.toNat false)):=by
 rcases lt12 h with rfl | rfl | rfl | rfl | rfl | rfl | rfl | rfl | rfl | rfl | rfl | rfl <;> rfl
theorem zm4 {y:SkyR} {n:Int} {e:TypeId} {rw':Bool} (h:0<=n/\n<12):z6 (.cells (skyC y) e rw') (1+n.toNat*1) 1=some [zl (y.dirty.getD n.toNat false)]:=by
 rcases lt12 h with rfl | rfl | rfl | rfl | rfl | rfl | rfl | rfl | rfl | rfl | rfl | rfl <;> rfl
theorem list12 {l:List Bool} (h:l.length=12):∃ a0 a1 a2 a3 a4 a5 a6 a7 a8 a9 a10 a11,l=[a0,a1,a2,a3,a4,a5,a6,a7,a8,a9,a10,a11]:=by
 match l,h with
 | [a0,a1,a2,a3,a4,a5,a6,a7,a8,a9,a10,a11],_=>exact ⟨a0,a1,a2,a3,a4,a5,a6,a7,a8,a9,a10,a11,rfl⟩
theorem zl4 {sh:Int} {d:List Bool} {n:Int} {e:TypeId} {v:Bool} (hd:d.length=12) (h:0<=n/\n<12):putO (.cells (skyC ⟨sh,d⟩) e true) (1+n.toNat*1) [zl v]=some (.cells (skyC ⟨sh,d.set n.toNat v⟩) e true):=by
 obtain ⟨a0,a1,a2,a3,a4,a5,a6,a7,a8,a9,a10,a11,rfl⟩:=list12 hd;rcases lt12 h with rfl | rfl | rfl | rfl | rfl | rfl | rfl | rfl | rfl | rfl | rfl | rfl <;> rfl
theorem zjh {d:List Bool} {n:Int} {e:TypeId} {v:Bool} (hd:d.length=12) (h:0<=n/\n<12):putO (.cells (stepsC d) e true) (0+n.toNat*1) [zl v]=some (.cells (stepsC (d.set n.toNat v)) e true):=by
 obtain ⟨a0,a1,a2,a3,a4,a5,a6,a7,a8,a9,a10,a11,rfl⟩:=list12 hd;rcases lt12 h with rfl | rfl | rfl | rfl | rfl | rfl | rfl | rfl | rfl | rfl | rfl | rfl <;> rfl
theorem zcr {b:SlB} {y:SkyR} {h:Int} (hd:darkS b y h=true):fallsM b y h=mB 12 false:=by unfold fallsM; rw [if_pos hd]
theorem zlP {b:SlB} {y:SkyR} {h n:Int}:decide ((if b.steps - onL b h n<onL b h n then b.steps - onL b h n else onL b h n)<=((sunI b h).high+y.shift) / b.slope)=litN b y h n:=by
 unfold litN;congr 2;rw [Int.min_def];split <;> split <;> omega
def WasAt (ob:AObj) (off:Nat) (xs:List WatR):Prop:=∀ (i:Nat) (h:i<xs.length),z6 ob (off+(i:Int).toNat*3) 3=some (watC xs[i])
theorem zm6 (b:SlB):WasAt (waO b) 0 b.watches:=fun i h=>fl_at (c:=3) (fun _=>rfl) (lA h) rfl dQ
theorem zi2 (b:SlB) (y:SkyR):b.watches.any (fun x => !rightS b y x) = !allRight b y:=by
 unfold allRight
 induction b.watches with
 | nil=>rfl
 | cons x l ih=>rw [List.any_cons,List.all_cons,ih]; cases rightS b y x <;> rfl
instance:ArEl tp 301 12 4 false 1:={}
instance:BlOf tp 301 [(0,1),(1,1),(2,1),(3,1),(4,1),(5,1),(6,1),(7,1),(8,1),(9,1),(10,1),(11,1)]:={}
instance:Cal tp 168:={}
instance:Cal tp 227:={}
instance:Cal tp 228:={}
instance:Cal tp 242:={}
instance:zn tp 303 0 0 false 1:={}
instance:zn tp 303 1 1 true 12:={}
instance:zd tp 301 true 12:={}
instance:zd tp 303 true 13:={}
instance:TyZ tp 301 [.bool false,.bool false,.bool false,.bool false,.bool false,.bool false,.bool false,.bool false,.bool false,.bool false,.bool false,.bool false]:={}
instance:TyZA tp 301 [.v (.bool false),.v (.bool false),.v (.bool false),.v (.bool false),.v (.bool false),.v (.bool false),.v (.bool false),.v (.bool false),.v (.bool false),.v (.bool false),.v (.bool false),.v (.bool false)]:={}
theorem zc0 {main T} (hT:zk tp main T) {gm} {b:SlB} {c s e w:Nat} {y:SkyR} {h:Int} (hb:SlBase b) (hy:y.dirty.length=12 /\ -3<=y.shift/\y.shift<=3) (hh:0<=h/\h<b.suns.length) :
  zh tp T gm 168 [.agg (slC b c s e w),.agg (skyC y),intA h] [(s,suO b)] (fun r K'=>r=.agg (stepsC (fallsM b y h))/\K'=[(s,suO b)]):=by
 refine ze 80 hT Tryz.func168 fun Y hret=>?_;refine au 0 ?_;obtain ⟨i0,rfl⟩:=Int.eq_ofNat_of_zero_le hh.1;have hil:i0<b.suns.length:=by omega
 have hq:=zfY hb hil;have hst:=hb.st;have hsp:=hb.sp;refine au 21042 ?_;intro jb hjb;refine au 210 ?_;intro jz hjz;refine au 220 ?_;intro jo hjo;refine au 3601690670670423 ?_;refine bH Z (zN Z Z zd.h mQ (za4 hil Z)) ?_;refine au 220 ?_;intro jx hjx;refine au 17142235230690670690670423170 ?_;refine bF 26 (fun g3_3=>?_) (fun g3_3=>?_)
 ·refine au 42180326088888 ?_;refine bH Z (yq (l:=[_,_,_,_,_,_,_,_,_,_,_,_]) Z TyZ.h BlOf.h Z) ?_;refine au 3170 ?_;refine bB hret [(s,_)] ?_;exact ⟨by rw [zcr (by unfold darkS; rw [g3_3]; rfl)]; rfl,rfl⟩
 have hpos:0<(sunI b i0).high+y.shift:=by simp at g3_3; omega
 refine au 670690670 ?_;refine bH Z (kP Z Z Z ArEl.h oQ oQ) ?_;refine bH Z (zm Z Z zd.h mQ (zm4 oQ)) ?_;refine au 93250 ?_;constructor<;>intro hc0
 ·refine au 42 ?_;refine bH Z (yq (l:=[_,_,_,_,_,_,_,_,_,_,_,_]) Z TyZ.h BlOf.h Z) ?_;refine au 3170 ?_;refine bB hret [(s,_)] ?_;exact ⟨by rw [zcr (by unfold darkS; rw [hc0,Bool.or_true])]; rfl,rfl⟩
 refine au 2120 ?_;refine bL [0,1,2,3,4,5,6,7,8,9,10,16,11,12,13,14,15,17] ?_;refine ad [[3,7],[10,34],[3,3],[3,36],[10,37]] ?_;refine bU [38] Z (q_quo Z Z Z oQ oQ oQ) ?_;refine ad [[8,35,39],[3,3],[3,41],[10,42]] ?_;refine bU [40,43] Z (q_rem Z Z Z oQ oQ) ?_;refine ad [[1,8],[3,3],[3,46],[10,47]] ?_;refine bU [45,48] Z (q_quo Z Z Z oQ oQ oQ) ?_;refine TD.as (pend':=[⟨15,[45,48],[]⟩,⟨14,[47],[(_,_)]⟩,⟨13,[46],[]⟩,⟨12,[3],[]⟩,⟨11,[8],[]⟩]) [44] Z Z (zV Z Z) ?_;refine ad [[13,49],[14]] ?_;refine au 22 ?_;have hmb:=zfr ((sunI b i0).step+b.steps / 2) (n:=b.steps) oQ;refine au 130316906706704 ?_;refine bA [3,6,9,10,52,53] ?_;refine bC [(jo,_),(jb,_),(s,_)] ?_;refine bE (fun n env K=>∃ (i:Nat),n=b.steps.toNat - i/\(i:Int)<=b.steps/\env=zK 80 [(3,.ptr jb 0),(6,.ptr jo 0),(9,intA (((sunI b i0).step+b.steps / 2) % b.steps)),(10,intA (((sunI b i0).high+y.shift) / b.slope)),(52,intA b.steps),(53,intA i)]/\K=[(jo,.cells (stepsC (fallsI b y i0 i)) 301 true),(jb,.cells (slC b c s e w) 186 true),(s,suO b)]) b.steps.toNat ⟨0,rfl,oQ,rfl,by rw [show fallsI b y i0 ((0:Nat):Int)=mB 12 false from zki b y i0]; rfl⟩ fun n env K hI hnext=>?_;obtain ⟨i,rfl,hi,rfl,rfl⟩:=hI;refine au 923742 ?_;constructor<;>intro hc1
 ·have hib:(i:Int)<b.steps:=of_decide_eq_true hc1;refine au 6906706702306906706702401142351421302120 ?_;refine bH Z (q_rem Z Z Z oQ oQ) ?_;refine au 35 ?_;have hon:=zfr ((i:Int) - ((sunI b i0).step+b.steps / 2) % b.steps+b.steps) (n:=b.steps) oQ;refine au 2401690670670114 ?_;refine bH Z (q_min Z Z Z) ?_;refine au 71 ?_;refine bH Z (kP Z Z Z ArEl.h oQ oQ) ?_;refine TK.st Z Z Z (zy Z Z zd.h Z Z mQ (zjh (zhq b y i0 i) oQ)) uQ (putN Z) ?_;refine au 3123041403 ?_;refine bA [3,6,9,10,52,53] ?_;refine bC [(jo,_),(jb,_),(s,_)] ?_;exact hnext _ _ _ oQ ⟨i+1,rfl,oQ,rfl,by rw [show (((i+1:Nat):Int))=(i:Int)+1 from rfl,<- zkj oQ,<- zlP] <;> rfl⟩
 have hie:(i:Int)=b.steps:=by simp at hc1; omega
 refine au 317068042160 ?_;refine bB hret [(s,_)] ?_;exact ⟨by rw [show fallsM b y i0=fallsI b y i0 i by unfold fallsM; rw [if_neg (by unfold darkS; rw [g3_3,hc0]; decide),hie]] <;> rfl,rfl⟩
theorem zjI {main T} (hT:zk tp main T) {gm} {l:List Bool} :
  zh tp T gm 169 [.agg (stepsC l)] [] (fun r K'=>∃ jo,r=.row jo (listM l).length/\K'=[(jo,.row ((listM l).map intA) 3 1)]):=by
 refine ze 18 hT Tryz.func169 fun Y hret=>?_;refine au 21042 ?_;intro jb hjb;refine au 22354235 ?_;refine TK.virt 3 3 1 Z fun jo0 hjo0=>?_;refine au 130316804 ?_;refine bA [3,6,7] ?_;refine bC [(jo0,_),(jb,_)] ?_;refine bE (fun n env K=>∃ (i jo:Nat),n=12 - i/\i<=12/\env=zK 18 [(3,.row jo (listI l i).length),(6,.agg (stepsC l)),(7,intA i)]/\K=[(jo,.row ((listI l i).map intA) 3 1),(jb,.cells (stepsC l) 301 true)]) 12 ⟨0,jo0,rfl,oQ,rfl,rfl⟩ fun n env K hI hnext=>?_;obtain ⟨i,jo,rfl,hi,rfl,rfl⟩:=hI;have hlen:(listI l i).length<=12:=by
  unfold listI;rw [lJ];exact mT (List.length_filter_le _ _) (by rw [List.length_range]; exact hi)
 refine au 923742 ?_;constructor<;>intro hc0
 ·have hil:i<12:=by simp at hc0; omega
  refine au 1421302120 ?_;refine bH Z (kU Z Z Z ArEl.h oQ oQ (zcI (g:=false) oQ)) ?_;refine au 93142355 ?_;constructor<;>intro hc1
  ·simp only [mZ] at hc1;refine au 114 ?_;refine bI Z Z Z (zD (l:=[_]) Z zT.h TyZ.h dQ dQ Z) (fun _=>zt rfl tQ) fun j1 hj1=>?_;refine bO Z Z Z (a_app Z ApOf.h Z mQ sQ Z (yG (ln:=[_]) mQ dQ sQ Z) oQ Z (by unfold maxLen; omega) oQ) (fun _=>uQ) (fun _=>zt rfl tQ) fun j2=>?_;refine au 31230414035 ?_;refine bA [3,6,7] ?_;refine bC [(j2,_),(jb,_)] ?_;have e:listI l (i+1)=listI l i++[(i:Int)]:=by rw [zgQ,if_pos hc1]
   exact hnext _ _ _ oQ ⟨i+1,j2,rfl,oQ,by rw [e,lF] <;> rfl,by rw [e,lM] <;> rfl⟩
  simp only [mZ] at hc1;refine au 312304140120 ?_;refine bA [3,6,7] ?_;refine bC [(jo,_),(jb,_)] ?_;have e:listI l (i+1)=listI l i:=by rw [zgQ,if_neg (by rw [hc1]; decide),lR]
  exact hnext _ _ _ oQ ⟨i+1,jo,rfl,oQ,by rw [e] <;> rfl,by rw [e] <;> rfl⟩
 obtain rfl:i=12:=by simp at hc0; omega
 refine au 35142160 ?_;refine bB hret [(jo,_)] ?_;exact ⟨jo,rfl,rfl⟩
theorem zgx {main T} (hT:zk tp main T) {gm} {b:SlB} {c s e w:Nat} {y:SkyR} {jb jz:Nat} {x:WatR} (hb:SlBase b) (hy:y.dirty.length=12 /\ -3<=y.shift/\y.shift<=3) (hx:watOk b x=true) :
  zh tp T gm 228 [.agg (watC x),.ptr jb 0,.ptr jz 0] [(jb,.cells (slC b c s e w) 186 true),(jz,.cells (skyC y) 303 true),(s,suO b)] (fun r K'=>r=zl (!rightS b y x)/\K'=[(jb,.cells (slC b c s e w) 186 true),(jz,.cells (skyC y) 303 true),(s,suO b)]):=by
 refine ze 16 hT Tryz.func228 fun Y hret=>?_;refine au 0 ?_;unfold watOk at hx;simp at hx;have hst:=hb.st;refine au 21042 ?_;intro jw hjw;refine au 235 ?_;refine TK.dr [0,1,2,3,5,6,8,9,4,7,10,11] [0,1,2,3,4,5,6,7,8,9,10,11] ?_;refine ad [[12,1],[12,2],[3,3],[10,7],[3,3],[10,10],[3,3],[10,13]] ?_;refine bQ (pend':=[⟨9,[13],[(_,_)]⟩,⟨8,[3],[]⟩,⟨6,[10],[(_,_)]⟩,⟨5,[3],[]⟩,⟨2,[3],[]⟩]) [5,6,8] Z Z Z Z Z (zc0 hT hb hy oQ) (fun r1 K2 h3=>⟨?_,?_⟩)
 ·rcases h3 with ⟨rfl,rfl⟩
  all_goals simp
 obtain ⟨rfl,rfl⟩:=h3;try simp only [cA]
 refine bS tQ ?_;refine bU [9,11] Z (kU Z Z Z ArEl.h oQ oQ (zcI (g:=false) oQ)) ?_;refine bU [12,14] Z (zcN Z Z Z Und.h Z) ?_;refine ad [[13,15],[14]] ?_;refine au 0 ?_;refine bB hret [(jb,_),(jz,_),(s,_)] ?_;exact ⟨rfl,rfl⟩
theorem zhC {main T} (hT:zk tp main T) {gm} {j off:Nat} {ob:AObj} {xs:List WatR} {p:WatR->Bool} {g:FuncId} {cp:List AV} {Kc:KV} (hg:yo tp g=true) (hp:∀ x∈xs,zh tp T gm g ([.agg (watC x)]++cp) Kc (fun r K'=>r=zl (p x)/\K'=Kc)) (hI:WasAt ob off xs) (hl:xs.length<=1000) :
  zh tp T gm 242 [.sl j off xs.length,.fn g [] cp] ((j,ob)::Kc) (fun r K'=>(∃ n:Int,r=intA n/\decide (n>=0)=xs.any p)/\K'=(j,ob)::Kc):=by
 refine ze 19 hT Tryz.func242 fun Y hret=>?_;refine au 1303128014223542 ?_;refine bA [0,1,7,8] ?_;refine bE (fun n env K=>∃ (i:Nat),n=xs.length - i/\i<=xs.length/\(xs.take i).any p=false/\env=zK 19 [(0,.sl j off xs.length),(1,.fn g [] cp),(7,intA xs.length),(8,intA i)]/\K=(j,ob)::Kc) xs.length ⟨0,rfl,mN _,by simp,rfl,rfl⟩ fun n env K hI' hnext=>?_;obtain ⟨i,rfl,hi,hn,rfl,rfl⟩:=hI';refine au 923742 ?_;refine ⟨fun hc=>?_,fun hc=>?_⟩
 ·simp only [decide_eq_true_eq] at hc;have hil:i<xs.length:=by omega
  refine au 36011142351421302120 ?_;refine bH Z (zN Z Z zd.h mQ (hI i hil)) ?_;refine bD Z Z Z Z (hp xs[i] (List.getElem_mem _)) ?_ (hs:=(.right (.all _))) (hg:=hg);rintro r1 K2 ⟨rfl,hK⟩;refine au 0 ?_;rw [hK];refine bN (K':=(j,ob)::Kc) (List.perm_append_singleton _ _) ?_;refine au 93 ?_;constructor<;>intro hc1
  ·refine au 35142 ?_;refine TK.rta hret ?_;exact ⟨⟨i,rfl,by rw [decide_eq_true (Int.natCast_nonneg i),List.any_eq_true.2 ⟨xs[i],List.getElem_mem _,hc1⟩]⟩,rfl⟩
  refine au 312304140120 ?_;refine bA [0,1,7,8] ?_;exact hnext _ _ _ oQ ⟨i+1,rfl,oQ,zdb hil hn hc1,rfl,rfl⟩
 simp only [decide_eq_false_iff_not] at hc;obtain rfl:i=xs.length:=by omega
 refine au 3542160 ?_;refine TK.rta hret ?_;rw [lW] at hn;exact ⟨⟨-1,rfl,by rw [hn]; rfl⟩,rfl⟩
theorem zeE {main T} (hT:zk tp main T) {gm} {j off:Nat} {ob:AObj} {xs:List WatR} {p:WatR->Bool} {g:FuncId} {cp:List AV} {Kc:KV} (hg:yo tp g=true) (hp:∀ x∈xs,zh tp T gm g ([.agg (watC x)]++cp) Kc (fun r K'=>r=zl (p x)/\K'=Kc)) (hI:WasAt ob off xs) (hl:xs.length<=1000) :
  zh tp T gm 227 [.sl j off xs.length,.fn g [] cp] ((j,ob)::Kc) (fun r K'=>r=zl (xs.any p)/\K'=(j,ob)::Kc):=by
 refine ze 9 hT Tryz.func227 fun Y hret=>?_;refine au 11423542 ?_;refine bD Z Z Z Z (zhC hT hg hp hI hl) ?_ (hs:=(.all _));rintro r1 K2 ⟨⟨m,rfl,hm⟩,hK⟩;refine au 0 ?_;rw [hK,lR];refine au 357 ?_;refine TK.rta hret ?_;exact ⟨by rw [<- hm]; rfl,rfl⟩
theorem zc1 {main T} (hT:zk tp main T) {gm} {b:SlB} {c s e w:Nat} {y:SkyR} (hb:SlBase b) (hw:SlWat b) (hy:y.dirty.length=12 /\ -3<=y.shift/\y.shift<=3) :
  zh tp T gm 201 [.agg (slC b c s e w),.agg (skyC y)] [(s,suO b),(w,waO b)] (fun r K'=>r=zl (allRight b y)/\K'=[(s,suO b),(w,waO b)]):=by
 refine ze 11 hT Tryz.func201 fun Y hret=>?_;refine au 21042 ?_;intro jb hjb;refine au 210 ?_;intro jz hjz;refine au 3206906706704235 ?_;refine bD Z Z Z Z (zeE hT (cp:=[.ptr jb 0,.ptr jz 0]) (Kc:=[(jb,.cells (slC b c s e w) 186 true),(jz,.cells (skyC y) 303 true),(s,suO b)]) (p:=fun x => !rightS b y x) Cal.h (fun x hx=>zgx hT hb hy (hw.all x hx)) (zm6 b) (by have:=hw.len; omega)) ?_;rintro r1 K2 ⟨rfl,rfl⟩;refine au 35300 ?_;refine bB hret [(s,_),(w,_)] ?_;exact ⟨by rw [zi2,Bool.not_not]; rfl,rfl⟩
abbrev skyA (y:SkyR):AV:=.agg (skyC y)
theorem zlb {b:SlB} {d:List Bool} {n:Int} {pre pre1 t tot:List SkyR} (h:pre++t <+: tot) (hE:pre1++shiftsI b d n=pre++t) (hn:n<=b.hi):pre1++[⟨n,d⟩] <+: tot:=by
 refine List.IsPrefix.trans ⟨shiftsI b d (n+1),?_⟩ h;rw [<- hE,zfP hn,List.append_assoc]; rfl
instance:Cal tp 225:={}
instance:zd tp 340 false 1:={}
instance:zd tp 364 false 1:={}
instance:TyZA tp 303 [.v (.int .i64 0),.v (.bool false),.v (.bool false),.v (.bool false),.v (.bool false),.v (.bool false),.v (.bool false),.v (.bool false),.v (.bool false),.v (.bool false),.v (.bool false),.v (.bool false),.v (.bool false)]:={}
theorem skyNext0 {main T} (hT:zk tp main T) {gm} {b:SlB} {c s e w l jb jm jy jn:Nat} {mo:Int} (hb:SlBase b) (hcl:b.clean.length<=1000) {J:List SkyR->KV->Prop} {D:KV->Prop} {tot:List SkyR} (hy:YieldG tp T gm [(jb,.cells (slC b c s e w) 186 true),(jm,.cells [intA mo] 3 true),(c,clO b)] skyA l J D tot)  (step:Int) (d:List Bool) (pre:List SkyR) (K1:KV) (hd:d.length=12) (hst0:0<=step/\step<=100) (hpre:pre++skyM b 0 step d <+: tot) (hJ:J pre K1) :
  zh tp T gm 225 [.agg (skyC ⟨0,d⟩),intA step,intA (0:Nat),.ptr jb 0,.ptr jy 0,.ptr jn 0] ((jy,.cells [.yl l] 340 true)::(jn,.cells [.fn 225 [] [.ptr jb 0,.ptr jy 0,.ptr jn 0]] 364 true)::(jb,.cells (slC b c s e w) 186 true)::(jm,.cells [intA mo] 3 true)::(c,clO b)::K1) (fun r K'=>∃ K2,K'=(jy,.cells [.yl l] 340 true)::(jn,.cells [.fn 225 [] [.ptr jb 0,.ptr jy 0,.ptr jn 0]] 364 true)::(jb,.cells (slC b c s e w) 186 true)::(jm,.cells [intA mo] 3 true)::(c,clO b)::K2/\((r=zl true/\J (pre++skyM b 0 step d) K2)\/(r=zl false/\D K2))):=by
 refine ze 59 hT Tryz.func225 fun Y hret=>?_;have hst:=hb.st;have hsh:=hb.sh;refine au 21042 ?_;intro jz hjz;refine au 937142235 ?_;constructor<;>intro hc0
 ·refine au 690670670670422 ?_;refine bH Z (zg Z Z zn.h dQ) ?_;refine au 1303170 ?_;refine bA [3,4,5,6] ?_;refine bE (fun n1 env K=>∃ (n:Int) (pre1:List SkyR) (K2:KV),n1=(b.hi+1 - n).toNat/\(b.lo<=n/\n<=b.hi+1)/\J pre1 K2/\pre1++shiftsI b d n=pre++skyM b 0 step d/\env=zK 59 [(3,.ptr jb 0),(4,.ptr jy 0),(5,.ptr jn 0),(6,.ptr jz 0)]/\K=(jz,.cells (skyC ⟨n,d⟩) 303 true)::(jy,.cells [.yl l] 340 true)::(jn,.cells [.fn 225 [] [.ptr jb 0,.ptr jy 0,.ptr jn 0]] 364 true)::(jb,.cells (slC b c s e w) 186 true)::(jm,.cells [intA mo] 3 true)::(c,clO b)::K2) _ ⟨b.lo,pre,K1,rfl,oQ,hJ,rfl,rfl,rfl⟩ fun n1 env K hI hnext=>?_;obtain ⟨n,pre1,K2,rfl,hn,hJ1,hE,rfl,rfl⟩:=hI;refine au 937690670670670690670422 ?_;constructor<;>intro hc1
  ·have hnh:n<=b.hi:=of_decide_eq_true hc1;refine au 680690421302120 ?_;refine TK.callF' Z Z Z Z Z (hy pre1 ⟨n,d⟩ K2 (zlb hpre hE hnh) hJ1) (.right (.right (.right (.all _)))) fun r1 K2 h3=>?_;rcases h3 with ⟨K3,rfl,⟨rfl,hJ3⟩ | ⟨rfl,hD⟩⟩
   ·refine au 0 ?_;refine bN (K':=(jz,_)::(jy,_)::(jn,_)::(jb,_)::(jm,_)::(c,_)::K3) (lH (l₁:=(jb,_)::(jm,_)::(c,_)::K3)) ?_;refine au 317067023069067041401201903300 ?_;refine bA [3,4,5,6] ?_;exact hnext _ _ _ oQ ⟨n+1,pre1++[⟨n,d⟩],K3,rfl,oQ,hJ3,by rw [<- hE,zfP hnh,List.append_assoc]; rfl,rfl,rfl⟩
   ·refine au 0 ?_;refine bN (K':=(jz,_)::(jy,_)::(jn,_)::(jb,_)::(jm,_)::(c,_)::K3) (lH (l₁:=(jb,_)::(jm,_)::(c,_)::K3)) ?_;refine au 35421803300 ?_;refine bB hret (_) ?_ (hs:=(.right (.all _)));exact ⟨K3,rfl,.inr ⟨rfl,hD⟩⟩
  refine au 3542160 ?_;refine bB hret (_) ?_ (hs:=(.right (.all _)));exact ⟨K2,rfl,.inl ⟨rfl,by rw [<- hE,zhY (of_decide_eq_false hc1),lR]; exact hJ1⟩⟩
 exact absurd hc0 dQ
theorem skyNextS {main T} (hT:zk tp main T) {gm} {b:SlB} {c s e w l jb jm jy jn:Nat} {mo:Int} (hb:SlBase b) (hcl:b.clean.length<=1000) {J:List SkyR->KV->Prop} {D:KV->Prop} {tot:List SkyR} (hy:YieldG tp T gm [(jb,.cells (slC b c s e w) 186 true),(jm,.cells [intA mo] 3 true),(c,clO b)] skyA l J D tot) {left:Nat} (ih:∀ (step:Int) (d:List Bool) (pre:List SkyR) (K1:KV),d.length=12->(0<=step/\step<=100)->pre++skyM b left step d <+: tot->J pre K1 ->
  zh tp T gm 225 [.agg (skyC ⟨0,d⟩),intA step,intA left,.ptr jb 0,.ptr jy 0,.ptr jn 0] ((jy,.cells [.yl l] 340 true)::(jn,.cells [.fn 225 [] [.ptr jb 0,.ptr jy 0,.ptr jn 0]] 364 true)::(jb,.cells (slC b c s e w) 186 true)::(jm,.cells [intA mo] 3 true)::(c,clO b)::K1) (fun r K'=>∃ K2,K'=(jy,.cells [.yl l] 340 true)::(jn,.cells [.fn 225 [] [.ptr jb 0,.ptr jy 0,.ptr jn 0]] 364 true)::(jb,.cells (slC b c s e w) 186 true)::(jm,.cells [intA mo] 3 true)::(c,clO b)::K2/\((r=zl true/\J (pre++skyM b left step d) K2)\/(r=zl false/\D K2)))) (step:Int) (d:List Bool) (pre:List SkyR) (K1:KV) (hd:d.length=12) (hst0:0<=step/\step<=100) (hl2:left<=1) (hpre:pre++skyM b (left+1) step d <+: tot) (hJ:J pre K1) :
  zh tp T gm 225 [.agg (skyC ⟨0,d⟩),intA step,intA ((left+1):Nat),.ptr jb 0,.ptr jy 0,.ptr jn 0] ((jy,.cells [.yl l] 340 true)::(jn,.cells [.fn 225 [] [.ptr jb 0,.ptr jy 0,.ptr jn 0]] 364 true)::(jb,.cells (slC b c s e w) 186 true)::(jm,.cells [intA mo] 3 true)::(c,clO b)::K1) (fun r K'=>∃ K2,K'=(jy,.cells [.yl l] 340 true)::(jn,.cells [.fn 225 [] [.ptr jb 0,.ptr jy 0,.ptr jn 0]] 364 true)::(jb,.cells (slC b c s e w) 186 true)::(jm,.cells [intA mo] 3 true)::(c,clO b)::K2/\((r=zl true/\J (pre++skyM b (left+1) step d) K2)\/(r=zl false/\D K2))):=by
 refine ze 59 hT Tryz.func225 fun Y hret=>?_;have hst:=hb.st;have hsh:=hb.sh;refine au 21042 ?_;intro jz hjz;refine au 937142235 ?_;constructor<;>intro hc0
 ·have:=of_decide_eq_true hc0; omega
 refine au 130351422120 ?_;refine bA [2,3,4,5,6,10] ?_;refine bE (fun n1 env K=>∃ (n:Int) (pre1:List SkyR) (K2:KV),n1=(b.steps - n).toNat/\(0<=n/\n<=100)/\J pre1 K2/\pre1++skyM b (left+1) n d=pre++skyM b (left+1) step d/\env=zK 59 [(2,intA (left+1:Nat)),(3,.ptr jb 0),(4,.ptr jy 0),(5,.ptr jn 0),(6,.ptr jz 0),(10,intA n)]/\K=(jz,.cells (skyC ⟨0,d⟩) 303 true)::(jy,.cells [.yl l] 340 true)::(jn,.cells [.fn 225 [] [.ptr jb 0,.ptr jy 0,.ptr jn 0]] 364 true)::(jb,.cells (slC b c s e w) 186 true)::(jm,.cells [intA mo] 3 true)::(c,clO b)::K2) _ ⟨step,pre,K1,rfl,hst0,hJ,rfl,rfl,rfl⟩ fun n1 env K hI hnext=>?_;obtain ⟨n,pre1,K2,rfl,hn,hJ1,hE,rfl,rfl⟩:=hI;refine au 9376906706701422 ?_;constructor<;>intro hc3
 ·have hns:n<b.steps:=of_decide_eq_true hc3;refine au 16906706704221302120 ?_;refine bD Z Z Z Z (zbq hT (ym b.clean 3 false) hcl) ?_ (hs:=(.right (.right (.right (.right (.right (.left (.none _))))))));rintro r1 K2 ⟨rfl,rfl⟩;refine au 0 ?_;refine bN (K':=(jz,_)::(jy,_)::(jn,_)::(jb,_)::(jm,_)::(c,_)::K2) (List.perm_middle (l₁:=[(jz,_),(jy,_),(jn,_),(jb,_),(jm,_)])).symm ?_;refine au 93 ?_;constructor<;>intro hc4
  ·have hin:b.clean.contains n=true:=by simpa using hc4
   refine au 3523014160 ?_;refine bA [2,3,4,5,6,10] ?_;refine bC (((jz,_)::(jy,_)::(jn,_)::(jb,_)::(jm,_)::(c,_)::K2)) ?_;exact hnext _ _ _ oQ ⟨n+1,pre1,K2,rfl,oQ,hJ1,by rw [<- hE,zfR hns,if_pos hin,lC],rfl,rfl⟩
  have hin:¬ b.clean.contains n=true:=by simpa using hc4
  refine au 22068042120 ?_;intro jo hjo;refine au 6701423170 ?_;refine bH Z (kP Z Z Z ArEl.h oQ oQ) ?_;refine TK.st Z Z Z (zy Z Z zd.h Z Z mQ (zl4 (sh:=0) hd oQ)) uQ (putN Z) ?_;refine au 24012301680690423 ?_;refine bD Z Z Z Z ((by have:=ih (n+1) (d.set n.toNat true) pre1 K2 (by simpa using hd) oQ (List.IsPrefix.trans ⟨skyM b (left+1) (n+1) d,by rw [List.append_assoc,<- hE,zfR hns,if_neg hin]⟩ hpre) hJ1; rw [show (left:Int)=((left+1:Nat):Int) - 1 by omega] at this; exact this)) ?_ (hs:=(.right (.right (.all _))));rintro r4 K5 h6;rcases h6 with ⟨K3,rfl,⟨rfl,hJ3⟩ | ⟨rfl,hD⟩⟩
  ·refine au 0 ?_;refine bN (K':=(jo,_)::(jz,_)::(jy,_)::(jn,_)::(jb,_)::(jm,_)::(c,_)::K3) (lH (l₁:=(jy,_)::(jn,_)::(jb,_)::(jm,_)::(c,_)::K3)) ?_;refine au 35230141401201903300 ?_;refine bA [2,3,4,5,6,10] ?_;refine bC (((jz,_)::(jy,_)::(jn,_)::(jb,_)::(jm,_)::(c,_)::K3)) ?_;exact hnext _ _ _ oQ ⟨n+1,_,K3,rfl,oQ,hJ3,by rw [<- hE,zfR hns,if_neg hin,List.append_assoc],rfl,rfl⟩
  ·refine au 0 ?_;refine bN (K':=(jo,_)::(jz,_)::(jy,_)::(jn,_)::(jb,_)::(jm,_)::(c,_)::K3) (lH (l₁:=(jy,_)::(jn,_)::(jb,_)::(jm,_)::(c,_)::K3)) ?_;refine au 35421803300 ?_;refine bB hret (_) ?_ (hs:=(.right (.right (.all _))));exact ⟨K3,rfl,.inr ⟨rfl,hD⟩⟩
 refine au 3542160 ?_;refine bB hret (_) ?_ (hs:=(.right (.all _)));exact ⟨K2,rfl,.inl ⟨rfl,by rw [<- hE,zla (of_decide_eq_false hc3),lR]; exact hJ1⟩⟩
theorem zcZ {main T} (hT:zk tp main T) {gm} {b:SlB} {c s e w l jb jm jy jn:Nat} {mo:Int} (hb:SlBase b) (hcl:b.clean.length<=1000) {J:List SkyR->KV->Prop} {D:KV->Prop} {tot:List SkyR} (hy:YieldG tp T gm [(jb,.cells (slC b c s e w) 186 true),(jm,.cells [intA mo] 3 true),(c,clO b)] skyA l J D tot):∀ (left:Nat),left<=2->∀ (step:Int) (d:List Bool) (pre:List SkyR) (K1:KV),d.length=12->(0<=step/\step<=100)->pre++skyM b left step d <+: tot->J pre K1 ->
  zh tp T gm 225 [.agg (skyC ⟨0,d⟩),intA step,intA left,.ptr jb 0,.ptr jy 0,.ptr jn 0] ((jy,.cells [.yl l] 340 true)::(jn,.cells [.fn 225 [] [.ptr jb 0,.ptr jy 0,.ptr jn 0]] 364 true)::(jb,.cells (slC b c s e w) 186 true)::(jm,.cells [intA mo] 3 true)::(c,clO b)::K1) (fun r K'=>∃ K2,K'=(jy,.cells [.yl l] 340 true)::(jn,.cells [.fn 225 [] [.ptr jb 0,.ptr jy 0,.ptr jn 0]] 364 true)::(jb,.cells (slC b c s e w) 186 true)::(jm,.cells [intA mo] 3 true)::(c,clO b)::K2/\((r=zl true/\J (pre++skyM b left step d) K2)\/(r=zl false/\D K2)))
 | 0,_,step,d,pre,K1,h1,h2,h3,h4=>skyNext0 hT hb hcl hy step d pre K1 h1 h2 h3 h4
 | left+1,hl,step,d,pre,K1,h1,h2,h3,h4=>skyNextS hT hb hcl hy (zcZ hT hb hcl hy left oQ) step d pre K1 h1 h2 oQ h3 h4
theorem zg0 {b:SlB} (hb:SlBase b) {pre:List SkyR} {y:SkyR} (h:pre++[y] <+: skiesM b):y.dirty.length=12 /\ -3<=y.shift/\y.shift<=3:=by
 have h1:=zfQ hb (n:=(b.dirty+1).toNat) (s:=y) (h.subset sQ);have h2:=hb.sh;exact ⟨h1.1,oQ,oQ⟩
theorem filtT {pre:List SkyR} {y:SkyR} {p:SkyR->Bool} (h:p y=true):(pre++[y]).filter p=pre.filter p++[y]:=by rw [List.filter_append]; simp [h]
theorem filtF {pre:List SkyR} {y:SkyR} {p:SkyR->Bool} (h:p y=false):(pre++[y]).filter p=pre.filter p:=by rw [List.filter_append]; simp [h]
theorem zh1 {b:SlB} (hb:SlBase b) {pre:List SkyR} {y:SkyR} (h:pre++[y] <+: skiesM b) (p:SkyR->Bool):(pre.filter p).length<=3000:=by
 have h1:=h.length_le;have h2:=zer hb (n:=(b.dirty+1).toNat) (by have:=hb.di; omega);have h3:=List.length_filter_le p pre;rw [lF] at h1;unfold skiesM at h1;omega
theorem zh6 (b:SlB):((skiesM b).any (allRight b)=true)=(zG b≠[]):=by
 refine propext ⟨fun h=>?_,fun h=>?_⟩
 ·obtain ⟨x,h1,h2⟩:=List.any_eq_true.1 h;exact List.ne_nil_of_mem (List.mem_filter.2 ⟨h1,h2⟩)
 ·obtain ⟨x,hx⟩:=List.exists_mem_of_ne_nil _ h;obtain ⟨h1,h2⟩:=List.mem_filter.1 hx;exact List.any_eq_true.2 ⟨x,h1,h2⟩
instance:ApOf tp 187 303 13 24:={}
instance:BlOf tp 303 [(0,1),(1,12)]:={}
instance:Cal tp 200:={}
instance:Cal tp 201:={}
instance:Cal tp 224:={}
instance:zT tp 187 303 13:={}
instance:zd tp 187 false 1:={}
instance:TyZ tp 303 [.int .i64 0,.bool false,.bool false,.bool false,.bool false,.bool false,.bool false,.bool false,.bool false,.bool false,.bool false,.bool false,.bool false]:={}
instance:TyZA tp 187 [.v (.slice none 0 0)]:={}
instance:TyZA tp 364 [.v (.nilFunc)]:={}
theorem zeq {main T} (hT:zk tp main T) {gm} {b:SlB} {c s e w l jb jm:Nat} (hb:SlBase b) (hcl:b.clean.length<=1000) {J:List SkyR->KV->Prop} {D:KV->Prop} {K1:KV} (hy:YieldG tp T gm [(jb,.cells (slC b c s e w) 186 true),(jm,.cells [intA b.dirty] 3 true),(c,clO b)] skyA l J D (skiesM b)) (hJ:J [] K1) :
  zh tp T gm 224 [.yl l,.ptr jb 0,.ptr jm 0] ((jb,.cells (slC b c s e w) 186 true)::(jm,.cells [intA b.dirty] 3 true)::(c,clO b)::K1) (fun _ K'=>∃ K2,K'=(jb,.cells (slC b c s e w) 186 true)::(jm,.cells [intA b.dirty] 3 true)::(c,clO b)::K2/\(J (skiesM b) K2\/D K2)):=by
 refine ze 18 hT Tryz.func224 fun Y hret=>?_;refine au 0 ?_;have hdi:=hb.di;refine au 21042 ?_;intro jy hjy;refine au 220423 ?_;intro jn hjn;refine au 23170320423 ?_;refine bN (K':=(jy,_)::(jn,_)::(jb,_)::(jm,_)::(c,_)::K1) (List.Perm.swap _ _ _) ?_;refine au 130312306904 ?_;refine bA [4,8,9] ?_;refine bE (fun n env K=>∃ (i:Nat) (K2:KV),n=(b.dirty+1).toNat - i/\(i:Int)<=b.dirty+1/\J (skiesI b i) K2/\env=zK 18 [(4,.ptr jn 0),(8,intA (b.dirty+1)),(9,intA i)]/\K=(jy,.cells [.yl l] 340 true)::(jn,.cells [.fn 225 [] [.ptr jb 0,.ptr jy 0,.ptr jn 0]] 364 true)::(jb,.cells (slC b c s e w) 186 true)::(jm,.cells [intA b.dirty] 3 true)::(c,clO b)::K2) (b.dirty+1).toNat ⟨0,K1,rfl,oQ,hJ,rfl,rfl⟩ fun n env K hI hnext=>?_;obtain ⟨i,K2,rfl,hi,hJ2,rfl,rfl⟩:=hI;refine au 923742 ?_;constructor<;>intro hc0
 ·have hil:(i:Int)<b.dirty+1:=of_decide_eq_true hc0;refine au 69042351421302120 ?_;refine bH Z (yq (l:=[_,_,_,_,_,_,_,_,_,_,_,_,_]) Z TyZ.h BlOf.h Z) ?_;refine au 1 ?_;refine bD Z Z Z Z (zcZ hT hb hcl hy i oQ 0 zero12 (skiesI b i) K2 Z oQ (by rw [<- zca]; exact zh0 b oQ) hJ2) ?_ (hs:=(.all _));rintro r1 K2 h3;rcases h3 with ⟨K3,rfl,⟨rfl,hJ3⟩ | ⟨rfl,hD⟩⟩
  ·refine au 0 ?_;refine bN (K':=(jy,_)::(jn,_)::(jb,_)::(jm,_)::(c,_)::K3) (by rw [lR]) ?_;refine au 3123041401201903300 ?_;refine bA [4,8,9] ?_;exact hnext _ _ _ oQ ⟨i+1,K3,rfl,oQ,by rw [zca]; exact hJ3,rfl,rfl⟩
  ·refine au 0 ?_;refine bN (K':=(jy,_)::(jn,_)::(jb,_)::(jm,_)::(c,_)::K3) (by rw [lR]) ?_;refine au 1803300 ?_;refine bB hret (_) ?_ (hs:=(.right (.right (.all _))));exact ⟨K3,rfl,.inr hD⟩
 have hie:(i:Int)=b.dirty+1:=by simp at hc0; omega
 have hJ2:J (skiesM b) K2:=by unfold skiesM; rw [<- hie]; exact hJ2
 refine au 160 ?_;refine TK.rt0 hret (_) ?_ (hs:=(.right (.right (.all _))));exact ⟨K2,rfl,.inl hJ2⟩
theorem zes {main T} (hT:zk tp main T) {gm} {b:SlB} {c s e w:Nat} :
  zh tp T gm 200 [.agg (slC b c s e w),intA b.dirty] [] (fun r K'=>∃ jb jm,r=.fn 224 [] [.ptr jb 0,.ptr jm 0]/\K'=[(jb,.cells (slC b c s e w) 186 true),(jm,.cells [intA b.dirty] 3 true)]):=by
 refine ze 6 hT Tryz.func200 fun Y hret=>?_;refine au 21042 ?_;intro jb hjb;refine au 210 ?_;intro jm hjm;refine au 353204235 ?_;refine bB hret [(jb,_),(jm,_)] ?_;exact ⟨jb,jm,rfl,rfl⟩
theorem zjK {main T} (hT:zk tp main T) {gm} {b:SlB} {c s e w:Nat} (hb:SlBase b) (hw:SlWat b) (hcl:b.clean.length<=1000) :
  zh tp T gm 166 [.agg (slC b c s e w)] [(c,clO b),(s,suO b),(w,waO b)] (fun r K'=>r=zl ((skiesM b).any (allRight b))/\K'=[(c,clO b),(s,suO b),(w,waO b)]):=by
 refine wB 13 hT Tryz.func166 fun Y hro hret=>?_;refine au 21042 ?_;intro jb hjb;refine au 220 ?_;intro jr hjr;refine au 6906706706804223 ?_;refine bD Z Z Z Z (zes hT (b:=b) (c:=c) (s:=s) (e:=e) (w:=w)) ?_;rintro r1 K2 ⟨jb2,jm,rfl,rfl⟩;refine au 1303 ?_;refine TK.rangeG hT (Fx:=[(jb2,.cells (slC b c s e w) 186 true),(jm,.cells [intA b.dirty] 3 true),(c,clO b)]) (ar:=skyA) (tot:=skiesM b) (J:=fun pre K1=>K1=[(jr,.cells [zl false] 4 true),(jb,.cells (slC b c s e w) 186 true),(s,suO b),(w,waO b)]/\pre.any (allRight b)=false) (D:=fun cc K1=>cc=.ret/\K1=[(jr,.cells [zl true] 4 true),(jb,.cells (slC b c s e w) 186 true),(s,suO b),(w,waO b)]/\(skiesM b).any (allRight b)=true) rfl hro rfl Cal.h (by repeat (first | exact Split.none _ | exact Split.all _ | (apply Split.rem; repeat (first | exact Rem.head | apply Rem.tail)) | apply Split.right)) ⟨rfl,rfl⟩ (fun l J' D' K1 hy hJ'=>zeq hT hb hcl hy hJ') (fun Y' l lo lb pre y K1 hbegin hfin hout hpre hJ=>?_) (fun d K2 hJ=>?_) (fun d cc K2 hD=>?_)
 ·obtain ⟨rfl,hni⟩:=hJ;have hy:=zg0 hb hpre;simp only [cA];refine au 2204 ?_;intro jt hjt;refine au 3170 ?_;refine hbegin _ _ _ _ _ uQ ?_;refine au 68068042130 ?_;refine bD Z Z Z Z (zc1 hT hb hw hy) ?_;rintro r4 K5 ⟨rfl,rfl⟩;refine au 93 ?_;constructor<;>intro hc0
  ·refine au 317042 ?_;exact hout _ _ _ _ [(jr,_),(jb,_),(s,_),(w,_)] _ (.ret _) (by repeat (first | exact Split.none _ | exact Split.all _ | (apply Split.rem; repeat (first | exact Rem.head | apply Rem.tail)) | apply Split.right)) ⟨rfl,rfl,List.any_eq_true.2 ⟨y,hpre.subset sQ,hc0⟩⟩
  refine au 140120 ?_;exact hfin _ _ [(jr,_),(jb,_),(s,_),(w,_)] _ (by repeat (first | exact Split.none _ | exact Split.all _ | (apply Split.rem; repeat (first | exact Rem.head | apply Rem.tail)) | apply Split.right)) ⟨rfl,by rw [List.any_append,hni]; simp [hc0]⟩
 ·obtain ⟨rfl,hni⟩:=hJ;simp only [cA];refine au 317042140 ?_;refine TK.leave (.ret _) fun A hA=>hret _ _ _ _ ([(c,_),(s,_),(w,_),(jr,_)]) ([(c,_),(s,_),(w,_)]) _ _ _ (.inr rfl) (by repeat (first | exact Split.none _ | exact Split.all _ | (apply Split.rem; repeat (first | exact Rem.head | apply Rem.tail)) | apply Split.right)) sQ sQ (by repeat (first | exact Split.none _ | exact Split.all _ | (apply Split.rem; repeat (first | exact Rem.head | apply Rem.tail)) | apply Split.right)) (yX (yA Z zd.h mQ rfl)) ?_ A hA;exact ⟨by rw [hni] <;> rfl,rfl⟩
 ·obtain ⟨rfl,rfl,htg⟩:=hD;simp only [cA];refine au 0 ?_;refine TK.leave (.ret _) fun A hA=>hret _ _ _ _ ([(c,_),(s,_),(w,_),(jr,_)]) ([(c,_),(s,_),(w,_)]) _ _ _ (.inr rfl) (by repeat (first | exact Split.none _ | exact Split.all _ | (apply Split.rem; repeat (first | exact Rem.head | apply Rem.tail)) | apply Split.right)) sQ sQ (by repeat (first | exact Split.none _ | exact Split.all _ | (apply Split.rem; repeat (first | exact Rem.head | apply Rem.tail)) | apply Split.right)) (yX (yA Z zd.h mQ rfl)) ?_ A hA;exact ⟨by rw [htg] <;> rfl,rfl⟩
theorem zgz {main T} (hT:zk tp main T) {gm} {b:SlB} {c s e w:Nat} (hb:SlBase b) (hw:SlWat b) (hcl:b.clean.length<=1000) :
  zh tp T gm 167 [.agg (slC b c s e w)] [(c,clO b),(s,suO b),(w,waO b)] (fun r K'=>∃ j,r=.row j (zG b).length/\K'=[(c,clO b),(s,suO b),(w,waO b),(j,.row ((zG b).flatMap skyC) 303 13)]):=by
 refine wB 19 hT Tryz.func167 fun Y hro hret=>?_;refine au 21042 ?_;intro jb hjb;refine au 2204235 ?_;intro jl hjl;refine TK.virtC (t:=187) (e:=303) (size:=13) (fun _=>uQ) fun j0 hj0=>?_;refine au 6906706706804223 ?_;refine bD Z Z Z Z (zes hT (b:=b) (c:=c) (s:=s) (e:=e) (w:=w)) ?_;rintro r1 K2 ⟨jb2,jm,rfl,rfl⟩;refine au 1303 ?_;refine TK.rangeG hT (Fx:=[(jb2,.cells (slC b c s e w) 186 true),(jm,.cells [intA b.dirty] 3 true),(c,clO b)]) (ar:=skyA) (tot:=skiesM b) (J:=fun pre K1=>∃ j,K1=[(jl,.cells [.row j (pre.filter (allRight b)).length] 187 true),(j,.row ((pre.filter (allRight b)).flatMap skyC) 303 13),(jb,.cells (slC b c s e w) 186 true),(s,suO b),(w,waO b)]) (D:=fun _ _=>False) rfl hro rfl Cal.h (by repeat (first | exact Split.none _ | exact Split.all _ | (apply Split.rem; repeat (first | exact Rem.head | apply Rem.tail)) | apply Split.right)) ⟨j0,rfl⟩ (fun l J' D' K1 hy hJ'=>zeq hT hb hcl hy hJ') (fun Y' l lo lb pre y K1 hbegin hfin hout hpre hJ=>?_) (fun d K2 hJ=>?_) (fun d cc K2 hD=>?_)
 ·obtain ⟨j,rfl⟩:=hJ;have hy:=zg0 hb hpre;have hpl:=zh1 hb hpre (allRight b);simp only [cA];refine au 2204 ?_;intro jt hjt;refine au 3170 ?_;refine hbegin _ _ _ _ _ uQ ?_;refine au 68068042130 ?_;refine bD Z Z Z Z (zc1 hT hb hw hy) ?_;rintro r4 K5 ⟨rfl,rfl⟩;refine au 93 ?_;constructor<;>intro hc0
  ·refine au 6806904 ?_;refine bI Z Z Z (zD (l:=[_,_,_,_,_,_,_,_,_,_,_,_,_]) Z zT.h TyZ.h dQ dQ Z) (fun _=>zt rfl tQ) fun j7 hj7=>?_;refine bO Z Z Z (a_app Z ApOf.h Z mQ (yx skyC 13 (fun _=>rfl) _) rfl (yG (ln:=[_,_,_,_,_,_,_,_,_,_,_,_,_]) mQ dQ sQ rfl) oQ rfl (by unfold maxLen; omega) oQ) (fun _=>uQ) (fun _=>zt rfl tQ) fun j2=>?_;refine au 1403170 ?_;exact hfin _ _ [(jl,_),(j2,_),(jb,_),(s,_),(w,_)] _ (by repeat (first | exact Split.none _ | exact Split.all _ | (apply Split.rem; repeat (first | exact Rem.head | apply Rem.tail)) | apply Split.right)) ⟨j2,by rw [filtT hc0,List.flatMap_append,lF] <;> rfl⟩
  refine au 140120 ?_;exact hfin _ _ [(jl,_),(j,_),(jb,_),(s,_),(w,_)] _ (by repeat (first | exact Split.none _ | exact Split.all _ | (apply Split.rem; repeat (first | exact Rem.head | apply Rem.tail)) | apply Split.right)) ⟨j,by rw [filtF hc0] <;> rfl⟩
 ·obtain ⟨j,rfl⟩:=hJ;simp only [cA];refine au 3569042140 ?_;refine TK.leave (.ret _) fun A hA=>hret _ _ _ _ ([(c,_),(s,_),(w,_),(j,_)]) ([(c,_),(s,_),(w,_),(j,_)]) _ _ _ (.inr rfl) (by repeat (first | exact Split.none _ | exact Split.all _ | (apply Split.rem; repeat (first | exact Rem.head | apply Rem.tail)) | apply Split.right)) sQ sQ (by repeat (first | exact Split.none _ | exact Split.all _ | (apply Split.rem; repeat (first | exact Rem.head | apply Rem.tail)) | apply Split.right)) (yX (zR Z)) ?_ A hA;exact ⟨j,rfl,rfl⟩
 ·exact hD.elim
def zSl:List AV:=[intA 0,intA 0,intA 0,intA 0,intA 0,.v (.slice none 0 0),intA 0,intA 0,intA 0,intA 0,.v (.slice none 0 0),.v (.slice none 0 0),.v (.slice none 0 0)]
theorem ziL (xs:List Int):(xs.map intA).all oneA=true:=by
 rw [List.all_map]; exact List.all_eq_true.2 fun _ _=>rfl
instance:ApOf tp 70 291 2 16:={}
instance:ApOf tp 71 293 2 16:={}
instance:ApOf tp 72 76 3 24:={}
instance:BlOf tp 74 [(0,1),(1,1),(2,1),(3,2),(5,1),(6,2),(8,2),(10,1),(11,1),(12,1)]:={}
instance:Cal tp 162:={}
instance:Cal tp 163:={}
instance:Cal tp 164:={}
instance:Cal tp 165:={}
instance:Cal tp 166:={}
instance:Cal tp 85:={}
instance:Cal tp 86:={}
instance:Cal tp 87:={}
instance:TyZ tp 291 [.int .i64 0,.int .i64 0]:={}
instance:TyZ tp 293 [.int .i64 0,.int .i64 0]:={}
instance:TyZ tp 74 [.int .i64 0,.int .i64 0,.int .i64 0,.int .i64 0,.int .i64 0,.slice none 0 0,.int .i64 0,.int .i64 0,.int .i64 0,.int .i64 0,.slice none 0 0,.slice none 0 0,.slice none 0 0]:={}
instance:TyZ tp 76 [.int .i64 0,.int .i64 0,.bool false]:={}
instance:TyZA tp 74 [.v (.int .i64 0),.v (.int .i64 0),.v (.int .i64 0),.v (.int .i64 0),.v (.int .i64 0),.v (.slice none 0 0),.v (.int .i64 0),.v (.int .i64 0),.v (.int .i64 0),.v (.int .i64 0),.v (.slice none 0 0),.v (.slice none 0 0),.v (.slice none 0 0)]:={}
theorem zhg {main T} (hT:zk tp main T) {gm} {j n:Nat} {l:List AV} {rw':Bool} (hl:l.length=n*1) (hone:l.all oneA=true) (hn:n<=100000) :
  zh tp T gm 162 [.sl j 0 n] [(j,.cells l 3 rw')] (fun r K'=>∃ j2,r=.row j2 n/\K'=[(j,.cells l 3 rw'),(j2,.row l 3 1)]):=by
 refine ze 8 hT Tryz.func162 fun Y hret=>?_;refine au 14223542 ?_;refine TK.nilT Z Z Z Z Und.h fun tz hz=>?_;refine au 93 ?_;constructor<;>intro hc0
 ·refine au 542 ?_;refine TK.virt 2 3 1 Z fun j0 hj0=>?_;refine au 3 ?_;refine bB hret [(j,_),(j0,_)] ?_;obtain rfl:=hz hc0;obtain rfl:=lK (by simpa using hl);exact ⟨_,rfl,rfl⟩
 refine au 42120 ?_;refine bI Z Z Z (zD (l:=[]) Z zT.h TyZ.h dQ dQ Z) (fun _=>zt rfl tQ) fun j1 hj1=>?_;refine au 1 ?_;refine TK.appG (envf:=fun _=>[_,_,_,_,_,_,_,_]) (ln:=l) rfl rfl rfl ApOf.h rfl mQ rfl rfl rfl (fun hp=>ui mQ oQ (wc hl oQ)) (fun h=>by subst h; exact lK (by simpa using hl)) hone (by unfold maxLen; omega) oQ (fun _=>uQ) (fun _=>rfl) fun j2=>?_;simp only [lC,mO];refine au 35 ?_;refine bB hret [(j,_),(j2,_)] ?_;exact ⟨_,rfl,rfl⟩
theorem zhh {main T} (hT:zk tp main T) {gm} {j n:Nat} {l:List AV} {rw':Bool} (hl:l.length=n*2) (hone:l.all oneA=true) (hn:n<=100000) :
  zh tp T gm 163 [.sl j 0 n] [(j,.cells l 291 rw')] (fun r K'=>∃ j2,r=.row j2 n/\K'=[(j,.cells l 291 rw'),(j2,.row l 291 2)]):=by
 refine ze 8 hT Tryz.func163 fun Y hret=>?_;refine au 14223542 ?_;refine TK.nilT Z Z Z Z Und.h fun tz hz=>?_;refine au 93 ?_;constructor<;>intro hc0
 ·refine au 542 ?_;refine TK.virt 2 291 2 Z fun j0 hj0=>?_;refine au 3 ?_;refine bB hret [(j,_),(j0,_)] ?_;obtain rfl:=hz hc0;obtain rfl:=lK (by simpa using hl);exact ⟨_,rfl,rfl⟩
 refine au 42120 ?_;refine bI Z Z Z (zD (l:=[]) Z zT.h TyZ.h dQ dQ Z) (fun _=>zt rfl tQ) fun j1 hj1=>?_;refine au 1 ?_;refine TK.appG (envf:=fun _=>[_,_,_,_,_,_,_,_]) (ln:=l) rfl rfl rfl ApOf.h rfl mQ rfl rfl rfl (fun hp=>ui mQ oQ (wc hl oQ)) (fun h=>by subst h; exact lK (by simpa using hl)) hone (by unfold maxLen; omega) oQ (fun _=>uQ) (fun _=>rfl) fun j2=>?_;simp only [lC,mO];refine au 35 ?_;refine bB hret [(j,_),(j2,_)] ?_;exact ⟨_,rfl,rfl⟩
theorem zhf {main T} (hT:zk tp main T) {gm} {j n:Nat} {l:List AV} {rw':Bool} (hl:l.length=n*2) (hone:l.all oneA=true) (hn:n<=100000) :
  zh tp T gm 164 [.sl j 0 n] [(j,.cells l 293 rw')] (fun r K'=>∃ j2,r=.row j2 n/\K'=[(j,.cells l 293 rw'),(j2,.row l 293 2)]):=by
 refine ze 8 hT Tryz.func164 fun Y hret=>?_;refine au 14223542 ?_;refine TK.nilT Z Z Z Z Und.h fun tz hz=>?_;refine au 93 ?_;constructor<;>intro hc0
 ·refine au 542 ?_;refine TK.virt 2 293 2 Z fun j0 hj0=>?_;refine au 3 ?_;refine bB hret [(j,_),(j0,_)] ?_;obtain rfl:=hz hc0;obtain rfl:=lK (by simpa using hl);exact ⟨_,rfl,rfl⟩
 refine au 42120 ?_;refine bI Z Z Z (zD (l:=[]) Z zT.h TyZ.h dQ dQ Z) (fun _=>zt rfl tQ) fun j1 hj1=>?_;refine au 1 ?_;refine TK.appG (envf:=fun _=>[_,_,_,_,_,_,_,_]) (ln:=l) rfl rfl rfl ApOf.h rfl mQ rfl rfl rfl (fun hp=>ui mQ oQ (wc hl oQ)) (fun h=>by subst h; exact lK (by simpa using hl)) hone (by unfold maxLen; omega) oQ (fun _=>uQ) (fun _=>rfl) fun j2=>?_;simp only [lC,mO];refine au 35 ?_;refine bB hret [(j,_),(j2,_)] ?_;exact ⟨_,rfl,rfl⟩
theorem zhi {main T} (hT:zk tp main T) {gm} {j n:Nat} {l:List AV} {rw':Bool} (hl:l.length=n*3) (hone:l.all oneA=true) (hn:n<=100000) :
  zh tp T gm 165 [.sl j 0 n] [(j,.cells l 76 rw')] (fun r K'=>∃ j2,r=.row j2 n/\K'=[(j,.cells l 76 rw'),(j2,.row l 76 3)]):=by
 refine ze 8 hT Tryz.func165 fun Y hret=>?_;refine au 14223542 ?_;refine TK.nilT Z Z Z Z Und.h fun tz hz=>?_;refine au 93 ?_;constructor<;>intro hc0
 ·refine au 542 ?_;refine TK.virt 2 76 3 Z fun j0 hj0=>?_;refine au 3 ?_;refine bB hret [(j,_),(j0,_)] ?_;obtain rfl:=hz hc0;obtain rfl:=lK (by simpa using hl);exact ⟨_,rfl,rfl⟩
 refine au 42120 ?_;refine bI Z Z Z (zD (l:=[]) Z zT.h TyZ.h dQ dQ Z) (fun _=>zt rfl tQ) fun j1 hj1=>?_;refine au 1 ?_;refine TK.appG (envf:=fun _=>[_,_,_,_,_,_,_,_]) (ln:=l) rfl rfl rfl ApOf.h rfl mQ rfl rfl rfl (fun hp=>ui mQ oQ (wc hl oQ)) (fun h=>by subst h; exact lK (by simpa using hl)) hone (by unfold maxLen; omega) oQ (fun _=>uQ) (fun _=>rfl) fun j2=>?_;simp only [lC,mO];refine au 35 ?_;refine bB hret [(j,_),(j2,_)] ?_;exact ⟨_,rfl,rfl⟩
theorem zld {main T} (hT:zk tp main T) {gm} {b:SlB} {c s e w:Nat} (hb:SlBase b) (hcl:b.clean.length<=1000) (hwl:b.watches.length<=1000) :
  zh tp T gm 86 [.agg (slC b c s e w)] [(c,clO b),(s,suO b),(e,eyO b),(w,waO b)] (fun r K'=>∃ j1 j2 j3 j4,r=.agg [intA b.steps,intA b.dirty,intA b.slope,intA b.lo,intA b.hi,.row j1 b.clean.length,intA b.rf,intA b.rh,intA b.cf,intA b.ch,.row j2 b.suns.length,.row j3 b.eyes.length,.row j4 b.watches.length]/\K'=[(c,clO b),(s,suO b),(e,eyO b),(w,waO b),(j1,.row (b.clean.map intA) 3 1),(j2,.row (b.suns.flatMap sunC) 291 2),(j3,.row (b.eyes.flatMap eyeC) 293 2),(j4,.row (b.watches.flatMap watC) 76 3)]):=by
 refine ze 20 hT Tryz.func86 fun Y hret=>?_;refine au 0 ?_;have hns:=hb.nsu;have hne:=hb.ney;refine au 21042 ?_;intro jb hjb;refine au 220 ?_;intro jr hjr;refine au 23 ?_;refine TK.dr [0,1,3,4,6,7,9,10,2,12,5,8,11,13,14,15,16,17,18,19] [0,1,2,3,4,5,6,7,8,9,10,11,12,13,14,15,16,17,18,19] ?_;refine ad [[3,1],[10,3],[3,1],[10,6],[3,1],[10,9],[3,1],[10,12]] ?_;refine bQ (pend':=[⟨10,[12],[(_,_)]⟩,⟨9,[1],[]⟩,⟨7,[9],[(_,_)]⟩,⟨6,[1],[]⟩,⟨4,[6],[(_,_)]⟩,⟨3,[1],[]⟩,⟨0,[1],[]⟩]) [4] Z Z Z Z Z (zhg hT (l:=b.clean.map intA) sQ (ziL _) oQ) (fun r1 K2 h3=>⟨?_,?_⟩)
 ·rcases h3 with ⟨j1,rfl,rfl⟩
  all_goals simp
 obtain ⟨j1,rfl,rfl⟩:=h3;try simp only [cA]
 refine bS tQ ?_;refine ad [[3,1]] ?_;refine bQ (pend':=[⟨12,[1],[]⟩,⟨10,[12],[(_,_)]⟩,⟨9,[1],[]⟩,⟨7,[9],[(_,_)]⟩,⟨6,[1],[]⟩,⟨3,[1],[]⟩,⟨0,[1],[]⟩]) [7] Z Z Z Z Z (zhh hT (yx sunC 2 (fun _=>rfl) b.suns) (zaF sunC (fun _=>rfl) _) oQ) (fun r4 K5 h6=>⟨?_,?_⟩)
 ·rcases h6 with ⟨j2,rfl,rfl⟩
  all_goals simp
 obtain ⟨j2,rfl,rfl⟩:=h6;try simp only [cA]
 refine bS tQ ?_;refine bQ (pend':=[⟨12,[1],[]⟩,⟨10,[12],[(_,_)]⟩,⟨9,[1],[]⟩,⟨6,[1],[]⟩,⟨3,[1],[]⟩,⟨0,[1],[]⟩]) [10] Z Z Z Z Z (zhf hT (yx eyeC 2 (fun _=>rfl) b.eyes) (zaF eyeC (fun _=>rfl) _) oQ) (fun r7 K8 h9=>⟨?_,?_⟩)
 ·rcases h9 with ⟨j3,rfl,rfl⟩
  all_goals simp
 obtain ⟨j3,rfl,rfl⟩:=h9;try simp only [cA]
 refine bS tQ ?_;refine bQ (pend':=[⟨12,[1],[]⟩,⟨9,[1],[]⟩,⟨6,[1],[]⟩,⟨3,[1],[]⟩,⟨0,[1],[]⟩]) [13] Z Z Z Z Z (zhi hT (yx watC 3 (fun _=>rfl) b.watches) (zaF watC (fun _=>rfl) _) oQ) (fun r10 K11 h12=>⟨?_,?_⟩)
 ·rcases h12 with ⟨j4,rfl,rfl⟩
  all_goals simp
 obtain ⟨j4,rfl,rfl⟩:=h12;try simp only [cA]
 refine bS tQ ?_;refine TD.s (pend':=[]) [5,15] Z Z (zy Z Z zd.h Z Z mQ Z) ?_;refine ad [[3,1]] ?_;refine TD.s (pend':=[]) [8,16] Z Z (zy Z Z zd.h Z Z mQ Z) ?_;refine ad [[3,1]] ?_;refine TD.s (pend':=[]) [11,17] Z Z (zy Z Z zd.h Z Z mQ Z) ?_;refine ad [[3,1]] ?_;refine TD.s (pend':=[]) [14,18] Z Z (zy Z Z zd.h Z Z mQ Z) ?_;refine ad [[14]] ?_;refine au 317068042 ?_;refine bB hret [(c,_),(s,_),(e,_),(w,_),(j1,_),(j2,_),(j3,_),(j4,_)] ?_;exact ⟨j1,j2,j3,j4,rfl,rfl⟩
theorem zgt {main:Bool} {T:Goroutine->Hp->Prop} (hT:zk tp main T)  {b:SlB} {c s e w:Nat} (hb:SlBase b) (hcl:b.clean.length<=1000) :
  zh tp T gmS 87 [.agg (slC b c s e w)] [(6,yn),(c,clO b),(s,suO b),(e,eyO b),(w,waO b)] (fun r K'=>((SlWat b/\zG b≠[]/\r=.tup [.agg (slC b c s e w),intA 0])\/(∃ n,n≠0/\r=.tup [.agg zSl,intA n]))/\K'=[(6,yn),(c,clO b),(s,suO b),(e,eyO b),(w,waO b)]):=by
 refine ze 17 hT Tryz.func87 fun Y hret=>?_;refine au 21042 ?_;intro jb hjb;refine au 220 ?_;intro jr hjr;refine au 68042235 ?_;refine bD Z Z Z Z (zal hT hb hcl) ?_;rintro r1 K2 ⟨rfl,rfl⟩;refine au 93714235 ?_;constructor<;>intro hc0
 ·refine au 42 ?_;refine bH Z (yq (l:=[_,_,_,_,_,_,_,_,_,_,_,_,_]) Z TyZ.h BlOf.h Z) ?_;refine au 351701 ?_;refine bB hret [(6,_),(c,_),(s,_),(e,_),(w,_)] ?_;exact ⟨.inr ⟨watBar b,by simpa using hc0,rfl⟩,rfl⟩
 have hw:SlWat b:=zli (by simpa using hc0);refine au 680422120 ?_;refine bH Z (yq (l:=[_,_,_,_,_,_,_,_,_,_,_,_,_]) Z TyZ.h BlOf.h Z) ?_;refine bD Z Z Z Z (zjK hT hb hw hcl) ?_;rintro r4 K5 ⟨rfl,rfl⟩;refine au 93300 ?_;constructor<;>intro hc1
 ·refine au 42 ?_;refine bH Z (yq (l:=[_,_,_,_,_,_,_,_,_,_,_,_,_]) Z TyZ.h BlOf.h Z) ?_;refine au 35170 ?_;refine bB hret [(6,_),(c,_),(s,_),(e,_),(w,_)] ?_;exact ⟨.inr ⟨9,by decide,rfl⟩,rfl⟩
 refine au 3517068042120 ?_;refine bB hret [(6,_),(c,_),(s,_),(e,_),(w,_)] ?_;exact ⟨.inl ⟨hw,by rw [<- zh6]; simpa using hc1,rfl⟩,rfl⟩
theorem zh3 {main:Bool} {T:Goroutine->Hp->Prop} (hT:zk tp main T)  {b:SlB} {c s e w:Nat} {x:WatR} (hb:SlBase b) (hw:SlWat b) (hcl:b.clean.length<=1000) :
  zh tp T gmS 25 [.agg (slC b c s e w),.agg (watC x)] [(6,yn),(c,clO b),(s,suO b),(e,eyO b),(w,waO b)] (fun r K'=>(∃ n,n≠0/\r=.tup [.agg zSl,intA n]/\K'=[(6,yn),(c,clO b),(s,suO b),(e,eyO b),(w,waO b)])\/(SlWat (watchS b x)/\zG (watchS b x)≠[]/\∃ c2 s2 e2 w2,r=.tup [.agg (slC (watchS b x) c2 s2 e2 w2),intA 0]/\K'=[(6,yn),(c,clO b),(s,suO b),(e,eyO b),(w,waO b),(c2,clO (watchS b x)),(s2,suO (watchS b x)),(e2,eyO (watchS b x)),(w2,waO (watchS b x))])):=by
 refine ze 26 hT Tryz.func25 fun Y hret=>?_;refine au 0 ?_;have hwl:=hw.len;refine au 21042 ?_;intro jb hjb;refine au 210 ?_;intro jx hjx;refine au 220 ?_;intro jr hjr;refine au 68042235 ?_;refine bD Z Z Z Z (zal hT hb hcl) ?_;rintro r1 K2 ⟨rfl,rfl⟩;refine au 0 ?_;rw [zex hw];refine au 93714235 ?_;constructor<;>intro hc0
 ·exact absurd hc0 dQ
 refine au 68042120 ?_;refine bD Z Z Z Z (zld hT hb hcl oQ) ?_;rintro r4 K5 ⟨j1,j2,j3,j4,rfl,rfl⟩;refine au 220 ?_;intro jo hjo;refine au 23170 ?_;refine bC [(jo,.cells [intA b.steps,intA b.dirty,intA b.slope,intA b.lo,intA b.hi,.row j1 b.clean.length,intA b.rf,intA b.rh,intA b.cf,intA b.ch,.row j2 b.suns.length,.row j3 b.eyes.length,.row j4 b.watches.length] 74 true),(j1,_),(j2,_),(j3,_),(j4,_),(6,_),(jx,_),(jr,_),(c,_),(s,_),(e,_),(w,_)] ?_;refine au 6806906704 ?_;refine bI Z Z Z (zD (l:=[_,_,_]) Z zT.h TyZ.h dQ dQ Z) (fun _=>zt rfl tQ) fun j7 hj7=>?_;refine bO Z Z Z (a_app Z ApOf.h Z mQ (yx watC 3 (fun _=>rfl) _) rfl (yG (ln:=[_,_,_]) mQ dQ sQ rfl) oQ rfl (by unfold maxLen; omega) oQ) (fun _=>uQ) (fun _=>zt rfl tQ) fun j5=>?_;refine au 23170670 ?_;refine bC [(jo,.cells [intA b.steps,intA b.dirty,intA b.slope,intA b.lo,intA b.hi,.row j1 b.clean.length,intA b.rf,intA b.rh,intA b.cf,intA b.ch,.row j2 b.suns.length,.row j3 b.eyes.length,.row j5 (b.watches.length+1)] 74 true),(j5,.row (b.watches.flatMap watC++[intA x.hour,intA x.step,zl x.lit]) 76 3),(j1,_),(j2,_),(j3,_),(6,_),(jr,_),(c,_),(s,_),(e,_),(w,_)] ?_;refine TK.unrowAt (c:=jo) (i:=5) (j:=j1) Z mQ uQ ?_;refine bY (j:=j1) ?_;refine TK.unrowAt (c:=jo) (i:=10) (j:=j2) Z mQ uQ ?_;refine bY (j:=j2) ?_;refine TK.unrowAt (c:=jo) (i:=11) (j:=j3) Z mQ uQ ?_;refine bY (j:=j3) ?_;refine TK.unrowAt (c:=jo) (i:=12) (j:=j5) Z mQ uQ ?_;refine bY (j:=j5) ?_;refine bC [(jo,.cells [intA b.steps,intA b.dirty,intA b.slope,intA b.lo,intA b.hi,.sl j1 0 b.clean.length,intA b.rf,intA b.rh,intA b.cf,intA b.ch,.sl j2 0 b.suns.length,.sl j3 0 b.eyes.length,.sl j5 0 (b.watches.length+1)] 74 true),(j5,.cells (b.watches.flatMap watC++[intA x.hour,intA x.step,zl x.lit]) 76 false),(j1,_),(j2,_),(j3,_),(6,_),(jr,_),(c,_),(s,_),(e,_),(w,_)] ?_;rw [show b.watches.length+1=(watchS b x).watches.length by simp [watchS],show b.watches.flatMap watC++[intA x.hour,intA x.step,zl x.lit]=(watchS b x).watches.flatMap watC by simp [watchS,watC]];refine bC [(jo,.cells (slC (watchS b x) j1 j2 j3 j5) 74 true),(j5,waO (watchS b x)),(j1,clO (watchS b x)),(j2,suO (watchS b x)),(j3,eyO (watchS b x)),(6,yn),(jr,_),(c,_),(s,_),(e,_),(w,_)] ?_;refine au 6804 ?_;refine bD Z Z Z Z (zgt hT (zaq hb x) hcl) ?_;rintro r8 K9 h10;rcases h10 with ⟨⟨hw2,hne2,rfl⟩ | ⟨n,hn,rfl⟩,rfl⟩
 ·refine au 3517066 ?_;refine bB hret [(6,_),(c,_),(s,_),(e,_),(w,_),(j1,_),(j2,_),(j3,_),(j5,_)] ?_;exact .inr ⟨hw2,hne2,_,_,_,_,rfl,rfl⟩
 ·refine au 3517066 ?_;refine bB hret [(6,_),(c,_),(s,_),(e,_),(w,_)] ?_;exact .inl ⟨n,hn,rfl,rfl⟩
theorem TK.shareX {P:Program} {gm:Nat->Option Nat} {T:Goroutine->Hp->Prop} {Y:KX P gm T} {ds:List Nat} {k k':List Item} {env:List AV} {K:KV} {X:Type} {D:X->Prop} {E:X->List AV} {KK:X->KV} (main:(∀ x,D x->TK Y ds k' (E x) (KK x))->TK Y ds k env K) (tail:∀ x,D x->TK Y ds k' (E x) (KK x)):TK Y ds k env K:=main tail
section
variable {P:Program} {gm:Nat->Option Nat} {T:Goroutine->Hp->Prop} {Y:KX P gm T} {ds:List Nat} {kk:List Item} {env env':List AV} {K:KV} {ops:Array Oper} {i:Nat} {o:Oper} {pend pend':List Pd} {L':List Nat} {r:AV}
theorem exK_q {s:List Nat} (hd:ye o.op=false) (hq:Qk P gm (onl s env) K o r) (he:putA env o.dst r=env') (hv:∀ p∈pend',∀ x∈p.V,x∈K) (h:TD Y ds ops kk pend' L' env' K):ExK Y (onl s env) K o fun r K'=>(∀ p∈pend',∀ x∈p.V,x∈K')/\TD Y ds ops kk pend' L' (putA env o.dst r) K' :=
 wQ hd fun A hv' hn=>⟨r,A,K,hq A hv',.same hv' hn,hv,by rw [he]; exact h⟩
theorem TD.entN (hP:KeyP P) {x y:Operand} {j:Nat} {k:Int×Int} {ob:Obj} {L:List (Int×Int)} {K':Obj->KV} {envf:Nat->List AV} (s:List Nat) (ho:ops[i]? =some o) (hop:o.op=.mapEntry 188 x y) (hd:ye o.op=false) (hw:yd ops (onl s env) o=some true) (hp':pendOf ops i pend=pend') (hc:chkC ops pend' L' s i o.dst=true) (hx:zw gm (onl s env) x=some (.map j)) (hy:zw gm (onl s env) y=some (.agg (fcC k))) (hm:(j,.raw ob)∈K) (hf:MapN ob L) (hu:∀ ob',Upd K j (.raw ob) j (.raw ob') (K' ob')) (he:∀ born:Nat,putA env o.dst (.tup [intA (L.count k),intA born])=envf born) (hv:∀ ob',∀ p∈pend',∀ x∈p.V,x∈K' ob')
  (h:∀ ob' born,MapE ob' L k born->TD Y ds ops kk pend' L' (envf born) (K' ob')):TD Y ds ops kk pend (i::L') env K:=by
 obtain ⟨ob',born,h1,h2⟩:=zfM hP hop hx hy hm hf;exact TD.cst s ho hd hw hp' hc h2 (hu ob') (he born) (hv ob') (h ob' born h1)
theorem zkg (hP:KeyP P) {x y:Operand} {j:Nat} {k:Int×Int} {ob:Obj} {L:List (Int×Int)} {K':Obj->KV} {envf:Nat->List AV} {s:List Nat} (hop:o.op=.mapEntry 188 x y) (hd:ye o.op=false) (hx:zw gm (onl s env) x=some (.map j)) (hy:zw gm (onl s env) y=some (.agg (fcC k))) (hm:(j,.raw ob)∈K) (hf:MapN ob L) (hu:∀ ob',Upd K j (.raw ob) j (.raw ob') (K' ob')) (he:∀ born:Nat,putA env o.dst (.tup [intA (L.count k),intA born])=envf born) (hv:∀ ob',∀ p∈pend',∀ x∈p.V,x∈K' ob')
  (h:∀ ob' born,MapE ob' L k born->TD Y ds ops kk pend' L' (envf born) (K' ob')):ExK Y (onl s env) K o fun r K'=>(∀ p∈pend',∀ x∈p.V,x∈K')/\TD Y ds ops kk pend' L' (putA env o.dst r) K':=by
 obtain ⟨ob',born,h1,h2⟩:=zfM hP hop hx hy hm hf;exact ua hd h2 (hu ob') (he born) (hv ob') (h ob' born h1)
theorem TD.putN {t:TypeId} {x y z:Operand} {j born:Nat} {k:Int×Int} {ob:Obj} {L:List (Int×Int)} {K':Obj->KV} (s:List Nat) (ho:ops[i]? =some o) (hop:o.op=.entryStore t x y z) (hd:ye o.op=false) (hdst:o.dst=none) (hw:yd ops (onl s env) o=some true) (hp':pendOf ops i pend=pend') (hc:chkC ops pend' L' s i o.dst=true) (hx:zw gm (onl s env) x=some (.map j)) (hy:zw gm (onl s env) y=some (intA born)) (hz:zw gm (onl s env) z=some (intA (L.count k+1:Nat))) (hm:(j,.raw ob)∈K) (hf:MapE ob L k born) (hu:∀ ob',Upd K j (.raw ob) j (.raw ob') (K' ob')) (hv:∀ ob',∀ p∈pend',∀ x∈p.V,x∈K' ob')
  (h:∀ ob',MapN ob' (L++[k])->TD Y ds ops kk pend' L' env (K' ob')):TD Y ds ops kk pend (i::L') env K:=by
 obtain ⟨ob',h1,h2⟩:=zm2 hop hx hy hz hm hf;exact TD.cst s ho hd hw hp' hc h2 (hu ob') (by rw [hdst]; rfl) (hv ob') (h ob' h1)
end
theorem zmj {l:List SkyR} {i:Nat} {n:Int} {y:SkyR} {e:TypeId} {sz:Nat} (h:l[i]? =some y) (hn:n=(i:Int)):z6 (.row (l.flatMap skyC) e sz) (n.toNat*13) 13=some (skyC y):=by
 have h1:=fl_at (c:=13) (f:=skyC) (e:=e) (rw':=true) (fun _=>rfl) h hn dQ;simpa [z6,AObj.look] using h1
theorem zkA {xs:List Int} {i:Nat} {n v:Int} {e:TypeId} {sz:Nat} (h:xs[i]? =some v) (hn:n=(i:Int)):z6 (.row (xs.map intA) e sz) (n.toNat*1) 1=some [intA v]:=by
 have hf:xs.map intA=xs.flatMap fun x=>[intA x]:=by
  clear h
  induction xs with
  | nil=>rfl
  | cons x xs ih=>rw [List.map_cons,List.flatMap_cons,ih]; rfl
 rw [hf];have h1:=fl_at (c:=1) (f:=fun x=>[intA x]) (e:=e) (rw':=true) (fun _=>rfl) h hn dQ;simpa [z6,AObj.look] using h1
theorem ziR (l:List Bool):(listM l).length<=12:=by
 unfold listM;rw [lJ];exact mT (List.length_filter_le _ _) sQ
theorem za7 {α:Type} {l:List α} {i:Nat} {y:α} (h:l[i]? =some y):l.take (i+1)=l.take i++[y]:=by rw [List.take_add_one,h]; rfl
theorem zhF {b:SlB} {y:SkyR} {h q:Nat} {v:Int} (hv:(listM (fallsM b y h))[q]? =some v):(keysH b y h).take (q+1)=(keysH b y h).take q++[((h:Int),v)]:=by
 refine za7 ?_;unfold keysH;rw [lQ,hv]; rfl
theorem ziO (b:SlB) (y:SkyR) (h:Nat):(keysH b y h).take (listM (fallsM b y h)).length=keysH b y h:=by
 refine List.take_of_length_le ?_;unfold keysH;rw [lJ]; exact mL _
theorem zkD {b:SlB} (hb:SlBase b) {i h q:Nat} {y:SkyR} (hh:h<b.suns.length) (k:Int×Int):(keysS b ((zG b).take i)++(keysI b y h++(keysH b y h).take q)).count k<=1000000:=by
 refine mT (List.count_le_length ..) ?_;have h1:=ziP hb ((zG b).take i);have h2:=zd5 b y h;have h3:=zd4 b y h;have h4:=zam hb;have h5:=hb.nsu;rw [lF,lF,List.length_take];rw [List.length_take] at h1;have h6:min i (zG b).length<=3000:=by omega
 omega
theorem zlf {b:SlB} (hb:SlBase b) {y:SkyR} (h:y∈zG b):y.dirty.length=12 /\ -3<=y.shift/\y.shift<=3:=by
 have h1:=zfQ hb (n:=(b.dirty+1).toNat) (s:=y) (List.mem_filter.1 h).1;have h2:=hb.sh;exact ⟨h1.1,oQ,oQ⟩
def wordI (n m:Int):Int:=if n=m then 1 else if n=0 then 2 else 0
theorem zm8 {n m:Int}:(wordI n m=1)=(n=m):=by
 unfold wordI;by_cases h:n=m
 ·rw [if_pos h]; simp [h]
 ·rw [if_neg h];split <;> simp [h]
def zKn:List AV:=[intA 0,intA 0,intA 0,intA 0,intA 0,.v (.slice none 0 0),intA 0,intA 0,intA 0,intA 0,.v (.slice none 0 0),.v (.slice none 0 0),.v (.slice none 0 0)]++[.v (.slice none 0 0),.v (.map none)]
instance:BlOf tp 190 [(0,13),(13,1),(14,1)]:={}
instance:BlOf tp 196 [(0,1),(1,1)]:={}
instance:Cal tp 167:={}
instance:Cal tp 169:={}
instance:Cal tp 89:={}
instance:zn tp 190 0 0 true 13:={}
instance:zn tp 190 1 13 false 1:={}
instance:zn tp 190 2 14 false 1:={}
instance:zd tp 188 false 1:={}
instance:zd tp 190 true 15:={}
instance:TyZ tp 190 [.int .i64 0,.int .i64 0,.int .i64 0,.int .i64 0,.int .i64 0,.slice none 0 0,.int .i64 0,.int .i64 0,.int .i64 0,.int .i64 0,.slice none 0 0,.slice none 0 0,.slice none 0 0,.slice none 0 0,.map none]:={}
instance:TyZ tp 196 [.int .i64 0,.int .i64 0]:={}
instance:TyZA tp 190 [.v (.int .i64 0),.v (.int .i64 0),.v (.int .i64 0),.v (.int .i64 0),.v (.int .i64 0),.v (.slice none 0 0),.v (.int .i64 0),.v (.int .i64 0),.v (.int .i64 0),.v (.int .i64 0),.v (.slice none 0 0),.v (.slice none 0 0),.v (.slice none 0 0),.v (.slice none 0 0),.v (.map none)]:={}
instance:Und tp 187 (.slice 303):={}
theorem zjJ {main T} (hT:zk tp main T) {gm} {b:SlB} {c s e w:Nat} {h:Int} {jh:Nat} (hl:b.suns.length<=100) :
  zh tp T gm 89 [.agg (slC b c s e w),.ptr jh 0] [(jh,.cells [intA h] 3 true)] (fun r K'=>r=zl (decide (0<=h)&&decide (h<=(b.suns.length:Int) - 1))/\K'=[(jh,.cells [intA h] 3 true)]):=by
 refine ze 7 hT Tryz.func89 fun Y hret=>?_;refine au 21042 ?_;intro jb hjb;refine au 6906804235 ?_;refine bD Z Z Z Z (zbF hT hl) ?_;rintro r1 K2 ⟨rfl,rfl⟩;refine au 35 ?_;refine bB hret [(jh,_)] ?_;exact ⟨rfl,rfl⟩
theorem zjM {main T} (hT:zk tp main T) {gm} {b:SlB} {c s e w:Nat} {ja jm:Nat} {n:Int} :
  zh tp T gm 91 [.agg (slC b c s e w++[.row ja (zG b).length,.map jm]),intA n] [] (fun r K'=>r=intA (wordI n (zG b).length)/\K'=[]):=by
 refine ze 13 hT Tryz.func91 fun Y hret=>?_;refine au 21042 ?_;intro jb hjb;refine au 9357280690670421303142235 ?_;constructor<;>intro hc0
 ·refine au 3542 ?_;refine bB hret [] ?_;exact ⟨by unfold wordI; rw [if_pos (of_decide_eq_true hc0)]; rfl,rfl⟩
 refine au 935742 ?_;constructor<;>intro hc1
 ·refine au 3542 ?_;refine bB hret [] ?_;exact ⟨by unfold wordI; rw [if_neg (of_decide_eq_false hc0),if_pos (of_decide_eq_true hc1)]; rfl,rfl⟩
 refine au 3542140120 ?_;refine bB hret [] ?_;exact ⟨by unfold wordI; rw [if_neg (of_decide_eq_false hc0),if_neg (of_decide_eq_false hc1)]; rfl,rfl⟩
theorem zlc {main:Bool} {T:Goroutine->Hp->Prop} (hT:zk tp main T)  {b:SlB} {c s e w:Nat} {h:Int} {jh:Nat} (hb:SlBase b) (hw:SlWat b) (hcl:b.clean.length<=1000) (hh:0<=h/\h<b.suns.length) (hne:zG b≠[]) :
  zh tp T gmS 88 [.agg (slC b c s e w),.fn 89 [] [.ptr jh 0]] [(6,yn),(c,clO b),(s,suO b),(e,eyO b),(w,waO b),(jh,.cells [intA h] 3 true)] (fun r K'=>∃ ja jm ob,r=.tup [.agg (slC b c s e w++[.row ja (zG b).length,.map jm]),intA 0]/\MapN ob (keysS b (zG b))/\K'=[(jm,.raw ob),(ja,.row ((zG b).flatMap skyC) 303 13),(6,yn),(c,clO b),(s,suO b),(e,eyO b),(w,waO b),(jh,.cells [intA h] 3 true)]):=by
 refine ze 75 hT Tryz.func88 fun Y hret=>?_;refine au 0 ?_;have hnsu:=hb.nsu;have hsl:=zam hb;refine au 21042 ?_;intro jb hjb;refine au 220 ?_;intro jr hjr;refine au 68042235 ?_;refine bD Z Z Z Z (zal hT hb hcl) ?_;rintro r1 K2 ⟨rfl,rfl⟩;refine au 0 ?_;rw [zex hw];refine au 93714235 ?_;constructor<;>intro hc0
 ·exact absurd hc0 dQ
 refine au 68042120 ?_;refine bH Z (yq (l:=[_,_,_,_,_,_,_,_,_,_,_,_,_]) Z TyZ.h BlOf.h Z) ?_;refine TK.newM Z Z Z (zaO Z) (fun _=>zt rfl tQ) fun jm hjm=>?_;refine bH Z (yq (l:=[_,_,_,_,_,_,_,_,_,_,_,_,_,_,_]) Z TyZ.h BlOf.h Z) ?_;refine au 220 ?_;intro jk hjk;refine au 68067014223170 ?_;refine bD Z Z Z Z (zjJ hT (h:=h) oQ) ?_;rintro r4 K5 ⟨rfl,rfl⟩;refine au 93300 ?_;constructor<;>intro hc1
 ·simp at hc1; omega
 refine au 680670422120 ?_;refine bD Z Z Z Z (zgz hT hb hw hcl) ?_;rintro r7 K8 ⟨ja,rfl,rfl⟩;refine au 937280690670423170670 ?_;constructor<;>intro hc2
 ·exact absurd (lK (by simp at hc2; simpa using hc2)) hne
 refine au 22120 ?_;refine bC [(jk,.cells (slC b c s e w++[.row ja (zG b).length,.map jm]) 190 true),(jm,.raw (.map #[] 0)),(ja,.row ((zG b).flatMap skyC) 303 13),(jb,.cells (slC b c s e w) 74 true),(jr,.cells zKn 190 true),(6,yn),(c,clO b),(s,suO b),(e,eyO b),(w,waO b),(jh,.cells [intA h] 3 true)] ?_;refine au 130312806906704 ?_;refine bA [2,4,7,39,40,41] ?_;refine bE (fun n env K=>∃ (i:Nat) (ob:Obj),n=(zG b).length - i/\i<=(zG b).length/\MapN ob (keysS b ((zG b).take i))/\env=zK 75 [(2,.ptr jb 0),(4,.ptr jr 0),(7,.ptr jk 0),(39,.row ja (zG b).length),(40,intA (zG b).length),(41,intA i)]/\K=[(jk,.cells (slC b c s e w++[.row ja (zG b).length,.map jm]) 190 true),(jm,.raw ob),(ja,.row ((zG b).flatMap skyC) 303 13),(jb,.cells (slC b c s e w) 74 true),(jr,.cells zKn 190 true),(6,yn),(c,clO b),(s,suO b),(e,eyO b),(w,waO b),(jh,.cells [intA h] 3 true)]) (zG b).length ⟨0,_,rfl,mN _,zkK,rfl,rfl⟩ fun n env K hI hnext=>?_;obtain ⟨i,ob,rfl,hi,hob,rfl,rfl⟩:=hI;refine au 923742 ?_;constructor<;>intro hc3
 ·have hil:i<(zG b).length:=by simp at hc3; omega
  obtain ⟨y,hyq⟩:∃ y,(zG b)[i]? =some y:=⟨_,lA hil⟩;have hy:=zlf hb (lN hyq);refine au 370421302120 ?_;refine bH Z (zN Z Z zd.h mQ (zmj hyq Z)) ?_;refine au 220 ?_;intro jt hjt;refine au 13031280690670423170 ?_;refine bA [2,4,7,9,39,40,41,47,48] ?_;refine bC [(jt,_),(jk,_),(jm,_),(ja,_),(jb,_),(jr,_),(6,_),(c,_),(s,_),(e,_),(w,_),(jh,_)] ?_;refine bE (fun n env K=>∃ (h1:Nat) (ob:Obj),n=b.suns.length - h1/\h1<=b.suns.length/\MapN ob (keysS b ((zG b).take i)++keysI b y h1)/\env=zK 75 [(2,.ptr jb 0),(4,.ptr jr 0),(7,.ptr jk 0),(9,.ptr jt 0),(39,.row ja (zG b).length),(40,intA (zG b).length),(41,intA i),(47,intA b.suns.length),(48,intA h1)]/\K=[(jt,.cells (skyC y) 303 true),(jk,.cells (slC b c s e w++[.row ja (zG b).length,.map jm]) 190 true),(jm,.raw ob),(ja,.row ((zG b).flatMap skyC) 303 13),(jb,.cells (slC b c s e w) 74 true),(jr,.cells zKn 190 true),(6,yn),(c,clO b),(s,suO b),(e,eyO b),(w,waO b),(jh,.cells [intA h] 3 true)]) b.suns.length ⟨0,ob,rfl,mN _,by rw [show keysI b y 0=[] from rfl,lR]; exact hob,rfl,rfl⟩ fun n env K hI hnext1=>?_;obtain ⟨h1,ob,rfl,hh1,hob,rfl,rfl⟩:=hI;refine au 923742 ?_;constructor<;>intro hc4
  ·have hhl:h1<b.suns.length:=by simp at hc4; omega
   refine au 168068067042351421302120 ?_;refine bD Z Z Z Z (zc0 hT hb hy (h:=(h1:Int)) oQ) ?_;rintro r10 K11 ⟨rfl,rfl⟩;refine au 0 ?_;refine bD Z Z Z Z (zjI hT) ?_;rintro r13 K14 ⟨jl,rfl,rfl⟩;refine au 13031280 ?_;refine bA [2,4,7,9,10,39,40,41,47,48,56,57,58] ?_;refine bC [(jl,_),(jt,_),(jk,_),(jm,_),(ja,_),(jb,_),(jr,_),(6,_),(c,_),(s,_),(e,_),(w,_),(jh,_)] ?_;refine bE (fun n env K=>∃ (q:Nat) (ob:Obj),n=(listM (fallsM b y h1)).length - q/\q<=(listM (fallsM b y h1)).length/\MapN ob (keysS b ((zG b).take i)++(keysI b y h1++(keysH b y h1).take q))/\env=zK 75 [(2,.ptr jb 0),(4,.ptr jr 0),(7,.ptr jk 0),(9,.ptr jt 0),(10,intA h1),(39,.row ja (zG b).length),(40,intA (zG b).length),(41,intA i),(47,intA b.suns.length),(48,intA h1),(56,.row jl (listM (fallsM b y h1)).length),(57,intA (listM (fallsM b y h1)).length),(58,intA q)]/\K=[(jl,.row ((listM (fallsM b y h1)).map intA) 3 1),(jt,.cells (skyC y) 303 true),(jk,.cells (slC b c s e w++[.row ja (zG b).length,.map jm]) 190 true),(jm,.raw ob),(ja,.row ((zG b).flatMap skyC) 303 13),(jb,.cells (slC b c s e w) 74 true),(jr,.cells zKn 190 true),(6,yn),(c,clO b),(s,suO b),(e,eyO b),(w,waO b),(jh,.cells [intA h] 3 true)]) (listM (fallsM b y h1)).length ⟨0,ob,rfl,mN _,by rw [List.take_zero,lR]; exact hob,rfl,rfl⟩ fun n env K hI hnext2=>?_;obtain ⟨q,ob,rfl,hq,hob,rfl,rfl⟩:=hI;refine au 923742 ?_;constructor<;>intro hc5
   ·have hlm:=ziR (fallsM b y h1);have hql:q<(listM (fallsM b y h1)).length:=by simp at hc5; omega
    obtain ⟨v,hvq⟩:∃ v,(listM (fallsM b y h1))[q]? =some v:=⟨_,lA hql⟩;have hcn:=zkD hb (i:=i) (q:=q) (y:=y) hhl ((h1:Int),v);refine au 370421302120 ?_;refine bH Z (zm Z Z zd.h mQ (zkA hvq Z)) ?_;refine au 35 ?_;refine' TK.shareX (X:=Obj) (D:=fun x=>MapN x ((keysS b ((zG b).take i)++(keysI b y h1++(keysH b y h1).take q))++[((h1:Int),v)])) (E:=fun _=>[.any,.any,.ptr jb 0,.any,.ptr jr 0,.any,.any,.ptr jk 0,.any,.ptr jt 0,intA h1,.any,.any,.any,.any,.any,.any,.any,.any,.any,.any,.any,.any,.any,.any,.any,.any,.any,.any,.any,.any,.any,.any,.any,.any,.any,.any,.any,.any,.row ja (zG b).length,intA (zG b).length,intA i,.any,.any,.any,.any,.any,intA b.suns.length,intA h1,.any,.any,.any,.any,.any,.any,.any,.row jl (listM (fallsM b y h1)).length,intA (listM (fallsM b y h1)).length,intA q,.any,.any,.any,.any,.any,.any,.any,.any,.any,.any,.any,.any,.any,.any,.any,.any]) (KK:=fun x=>[(jl,.row ((listM (fallsM b y h1)).map intA) 3 1),(jt,.cells (skyC y) 303 true),(jk,.cells (slC b c s e w++[.row ja (zG b).length,.map jm]) 190 true),(jm,.raw x),(ja,.row ((zG b).flatMap skyC) 303 13),(jb,.cells (slC b c s e w) 74 true),(jr,.cells zKn 190 true),(6,yn),(c,clO b),(s,suO b),(e,eyO b),(w,waO b),(jh,.cells [intA h] 3 true)]) (fun H=>?_) ?_;rotate_left
    ·refine bL [0,1,2,3,4,5,6,7,8,9] ?_;refine ad [[3,7],[10,62],[1,10],[1,12]] ?_;refine bU [64,65] Z (yq (l:=[_,_]) Z TyZ.h BlOf.h Z) ?_;refine TD.c2 (i1:=5) (i2:=7) (pend1:=[⟨3,[12],[]⟩,⟨2,[10],[]⟩,⟨0,[7],[]⟩]) (pend2:=[]) (L1:=[6,7,8,9]) (L2:=[5,6,8,9]) [63,66] [63,66] Z Z Z Z Z Z Z ?_ ?_
     ·refine exK_q Z (zdr keyP (k:=((h1:Int),v)) Z Z Z mQ hob) (zt Z tQ) sQ ?_;refine ad [[8,67]] ?_;refine TD.entN keyP (k:=((h1:Int),v)) (pend':=[⟨6,[67],[]⟩]) [63,66] Z Z Z Z Z Z Z Z mQ hob (fun _=>uQ) (fun _=>(zt Z tQ)) (fun _=>by simp) fun ob2 born he2=>?_;refine ad [[5,69]] ?_;refine TD.putN (k:=((h1:Int),v)) (pend':=[]) [63,68,70] Z Z Z Z Z Z Z Z Z Z mQ he2 (fun _=>uQ) (fun _=>by simp) fun ob3 hob3=>?_;refine ad [[14]] ?_;refine bA [2,4,7,9,10,39,40,41,47,48,56,57,58] ?_;refine bC [(jl,_),(jt,_),(jk,_),(jm,_),(ja,_),(jb,_),(jr,_),(6,_),(c,_),(s,_),(e,_),(w,_),(jh,_)] ?_;exact H ob3 hob3
     ·refine zkg keyP (k:=((h1:Int),v)) Z Z Z Z mQ hob (fun _=>uQ) (fun _=>(zt Z tQ)) (fun _=>by simp) fun ob2 born he2=>?_;refine TD.y [63,66] Z (hq:=zdr keyP (k:=((h1:Int),v)) Z Z Z (mC _) (zmP he2)) (h:=?_);refine ad [[8,67],[5,69]] ?_;refine TD.putN (k:=((h1:Int),v)) (pend':=[]) [63,68,70] Z Z Z Z Z Z Z Z Z Z mQ he2 (fun _=>uQ) (fun _=>by simp) fun ob3 hob3=>?_;refine ad [[14]] ?_;refine bA [2,4,7,9,10,39,40,41,47,48,56,57,58] ?_;refine bC [(jl,_),(jt,_),(jk,_),(jm,_),(ja,_),(jb,_),(jr,_),(6,_),(c,_),(s,_),(e,_),(w,_),(jh,_)] ?_;exact H ob3 hob3
    ·intro ob3 hob3;dsimp only;refine au 312304140 ?_;refine bA [2,4,7,9,10,39,40,41,47,48,56,57,58] ?_;refine bC [(jl,_),(jt,_),(jk,_),(jm,_),(ja,_),(jb,_),(jr,_),(6,_),(c,_),(s,_),(e,_),(w,_),(jh,_)] ?_;exact hnext2 _ _ _ oQ ⟨q+1,ob3,rfl,oQ,by rw [zhF hvq,<- List.append_assoc (keysI b y h1),<- List.append_assoc]; exact hob3,rfl,rfl⟩
   obtain rfl:q=(listM (fallsM b y h1)).length:=by simp at hc5; omega
   rw [ziO] at hob;refine au 312304140160 ?_;refine bA [2,4,7,9,39,40,41,47,48] ?_;refine bC [(jt,_),(jk,_),(jm,_),(ja,_),(jb,_),(jr,_),(6,_),(c,_),(s,_),(e,_),(w,_),(jh,_)] ?_;exact hnext1 _ _ _ oQ ⟨h1+1,ob,rfl,oQ,by rw [zgP]; exact hob,rfl,rfl⟩
  obtain rfl:h1=b.suns.length:=by simp at hc4; omega
  refine au 312304140160 ?_;refine bA [2,4,7,39,40,41] ?_;refine bC [(jk,_),(jm,_),(ja,_),(jb,_),(jr,_),(6,_),(c,_),(s,_),(e,_),(w,_),(jh,_)] ?_;exact hnext _ _ _ oQ ⟨i+1,ob,rfl,oQ,by rw [za7 hyq,zlM]; exact hob,rfl,rfl⟩
 obtain rfl:i=(zG b).length:=by simp at hc3; omega
 rw [lW] at hob;refine au 3517068042160 ?_;refine bB hret [(jm,_),(ja,_),(6,_),(c,_),(s,_),(e,_),(w,_),(jh,_)] ?_;exact ⟨ja,jm,ob,rfl,hob,rfl⟩
theorem za5 (b:SlB) (h i:Nat):(sureI b h i).length<=i:=by
 unfold sureI;rw [lJ];exact mT (List.length_filter_le _ _) sQ
theorem zcG {b:SlB} {h i:Nat}:(wordI (((keysS b (zG b)).count ((h:Int),(i:Int)):Nat):Int) ((zG b).length:Int)=1)=(oftenS b h i=(zG b).length):=by
 rw [zm8];unfold oftenS;exact propext ⟨fun h=>by omega,fun h=>by omega⟩
instance:Cal tp 88:={}
instance:Cal tp 91:={}
theorem zfT {main:Bool} {T:Goroutine->Hp->Prop} (hT:zk tp main T)  {b:SlB} {c s e w:Nat} {h:Nat} (hb:SlBase b) (hw:SlWat b) (hcl:b.clean.length<=1000) (hh:h<b.suns.length) (hne:zG b≠[]) :
  zh tp T gmS 26 [.agg (slC b c s e w),intA (h:Int)] [(6,yn),(c,clO b),(s,suO b),(e,eyO b),(w,waO b)] (fun r K'=>∃ js jp ps,r=.tup [.row js (sureM b h).length,.row jp ps.length,intA 0]/\K'=[(6,yn),(c,clO b),(s,suO b),(e,eyO b),(w,waO b),(js,.row ((sureM b h).map intA) 3 1),(jp,.row (List.map intA ps) 3 1)]):=by
 refine ze 46 hT Tryz.func26 fun Y hret=>?_;refine au 0 ?_;have hst:=hb.st;have hsl:=zam hb;refine au 21042 ?_;intro jb hjb;refine au 210 ?_;intro jh hjh;refine au 320680423555 ?_;refine bD Z Z Z Z (zlc hT (h:=(h:Int)) hb hw hcl oQ hne) ?_;rintro r1 K2 ⟨ja,jm,ob,rfl,hob,rfl⟩;refine au 220661 ?_;intro jk hjk;refine au 937142235170 ?_;constructor<;>intro hc0
 ·exact absurd hc0 dQ
 refine au 22120 ?_;refine TK.virt 4 3 1 Z fun js0 hjs0=>?_;refine au 0 ?_;refine TK.virt 5 3 1 Z fun jp0 hjp0=>?_;refine au 130316906704 ?_;refine bA [3,4,5,7,19,20] ?_;refine bC [(js0,_),(jp0,_),(jk,_),(jm,_),(ja,_),(6,_),(c,_),(s,_),(e,_),(w,_),(jh,_)] ?_;refine bE (fun n env K=>∃ (i js jp:Nat) (ps:List Int),n=b.steps.toNat - i/\(i:Int)<=b.steps/\ps.length<=i/\env=zK 46 [(3,.ptr jh 0),(4,.row js (sureI b h i).length),(5,.row jp ps.length),(7,.ptr jk 0),(19,intA b.steps),(20,intA i)]/\K=[(js,.row ((sureI b h i).map intA) 3 1),(jp,.row (ps.map intA) 3 1),(jk,.cells (slC b c s e w++[.row ja (zG b).length,.map jm]) 190 true),(jm,.raw ob),(ja,.row ((zG b).flatMap skyC) 303 13),(6,yn),(c,clO b),(s,suO b),(e,eyO b),(w,waO b),(jh,.cells [intA (h:Int)] 3 true)]) b.steps.toNat ⟨0,js0,jp0,[],rfl,oQ,mL _,rfl,rfl⟩ fun n env K hI hnext=>?_;obtain ⟨i,js,jp,ps,rfl,hi,hps,rfl,rfl⟩:=hI;have hsi:=za5 b h i;refine au 923742 ?_;constructor<;>intro hc1
 ·have hib:(i:Int)<b.steps:=of_decide_eq_true hc1;refine au 2351421302120 ?_;refine bL [0,1,2,3,4,5,6,7] ?_;refine ad [[12,7],[3,7],[10,24],[10,3],[1,8]] ?_;refine bU [26,27] Z (yq (l:=[_,_]) Z TyZ.h BlOf.h Z) ?_;refine TD.y [25,28] Z (hq:=zdr keyP (k:=((h:Int),(i:Int))) Z Z Z (mC _) hob) (h:=?_);refine bQ (pend':=[⟨5,[26,27],[]⟩,⟨4,[8],[]⟩,⟨3,[3],[(_,_)]⟩,⟨2,[24],[(_,_)]⟩,⟨1,[7],[]⟩]) [23,29] Z Z Z Z Z (zjM hT (b:=b)) (fun r4 K5 h6=>⟨?_,?_⟩)
  ·rcases h6 with ⟨rfl,rfl⟩
   all_goals simp
  obtain ⟨rfl,rfl⟩:=h6;try simp only [cA]
  refine bS tQ ?_;refine ad [[14]] ?_;refine au 935742130 ?_;constructor<;>intro hc2
  ·have hso:oftenS b h i=(zG b).length:=by rw [<- zcG]; exact of_decide_eq_true hc2
   refine au 114 ?_;refine bI Z Z Z (zD (l:=[_]) Z zT.h TyZ.h dQ dQ Z) (fun _=>zt rfl tQ) fun j7 hj7=>?_;refine bO Z Z Z (a_app Z ApOf.h Z mQ sQ Z (yG (ln:=[_]) mQ dQ sQ Z) oQ Z (by unfold maxLen; omega) oQ) (fun _=>uQ) (fun _=>zt rfl tQ) fun j2=>?_;refine au 31230414014035 ?_;refine bA [3,4,5,7,19,20] ?_;refine bC [(j2,_),(jp,_),(jk,_),(jm,_),(ja,_),(6,_),(c,_),(s,_),(e,_),(w,_),(jh,_)] ?_;exact hnext _ _ _ oQ ⟨i+1,j2,jp,ps,rfl,oQ,oQ,by rw [vV,if_pos hso,lF] <;> rfl,by rw [vV,if_pos hso,lM] <;> rfl⟩
  have hso:¬ oftenS b h i=(zG b).length:=by rw [<- zcG]; exact of_decide_eq_false hc2
  refine au 935742 ?_;constructor<;>intro hc3
  ·refine au 114 ?_;refine bI Z Z Z (zD (l:=[_]) Z zT.h TyZ.h dQ dQ Z) (fun _=>zt rfl tQ) fun j8 hj8=>?_;refine bO Z Z Z (a_app Z ApOf.h Z mQ sQ Z (yG (ln:=[_]) mQ dQ sQ Z) oQ Z (by unfold maxLen; omega) oQ) (fun _=>uQ) (fun _=>zt rfl tQ) fun j2=>?_;refine au 31230414014035 ?_;refine bA [3,4,5,7,19,20] ?_;refine bC [(js,_),(j2,_),(jk,_),(jm,_),(ja,_),(6,_),(c,_),(s,_),(e,_),(w,_),(jh,_)] ?_;exact hnext _ _ _ oQ ⟨i+1,js,j2,ps++[(i:Int)],rfl,oQ,by rw [lF]; simp; omega,by rw [vV,if_neg hso,lR,lF] <;> rfl,by rw [vV,if_neg hso,lR,lM] <;> rfl⟩
  refine au 312304140140120 ?_;refine bA [3,4,5,7,19,20] ?_;refine bC [(js,_),(jp,_),(jk,_),(jm,_),(ja,_),(6,_),(c,_),(s,_),(e,_),(w,_),(jh,_)] ?_;exact hnext _ _ _ oQ ⟨i+1,js,jp,ps,rfl,oQ,oQ,by rw [vV,if_neg hso,lR] <;> rfl,by rw [vV,if_neg hso,lR] <;> rfl⟩
 have hie:b.steps.toNat=i:=by simp at hc1; omega
 refine au 35551142160 ?_;refine bB hret [(6,_),(c,_),(s,_),(e,_),(w,_),(js,_),(jp,_)] ?_;exact ⟨js,jp,ps,by unfold sureM; rw [hie] <;> rfl,by unfold sureM; rw [hie] <;> rfl⟩
def glassX (xs:List Int) (x:Says):Says:={ x with glass:=x.glass||decide (x.frm∈xs) }
def glassL (b:Bk) (xs:List Int):Bk:={ b with seekers:=b.seekers.map (glassX xs) }
theorem zcu (b:Bk) (xs:List Int) (k:Nat):(glassL b xs).seekers[k]? =(b.seekers[k]?).map (glassX xs):=by
 show (b.seekers.map (glassX xs))[k]? =_;rw [lQ]
theorem kY (b:Bk) (xs:List Int) (S:List Int) (k:Nat):rightM (glassL b xs) S k=rightM b S k:=by
 unfold rightM;rw [zcu];cases b.seekers[k]? <;> rfl
theorem vJ (b:Bk) (xs:List Int):(glassL b xs).seekers.length=b.seekers.length:=by
 show (b.seekers.map (glassX xs)).length=_;rw [lJ]
theorem zhv {b:Bk} {xs ys:List Int} (h:∀ n∈xs,n∈ys) (k:Nat) (hg:glassM (glassL b xs) k=true):glassM (glassL b ys) k=true:=by
 unfold glassM at hg ⊢;rw [zcu] at hg ⊢;cases hx:b.seekers[k]? with
 | none=>rw [hx] at hg; cases hg
 | some x =>
  rw [hx] at hg;have hg:(x.glass||decide (x.frm∈xs))=true:=hg;show (x.glass||decide (x.frm∈ys))=true;rcases (Bool.or_eq_true _ _).mp hg with h1 | h1
  ·rw [h1]; rfl
  ·rw [decide_eq_true (h _ (of_decide_eq_true h1)),Bool.or_true]
theorem zhu {b:Bk} {xs ys:List Int} (h:∀ n∈xs,n∈ys) (fw:checkM (glassL b xs)=0) (fn:checkM (glassL b ys)=0) (hne:zb (glassL b ys)≠[]):Less (glassL b xs) (glassL b ys):=by
 have hw:=yy fw;have hn:=yy fn;refine ⟨hw,hn,rfl,fun S hS=>?_,hne⟩;rw [vK hn] at hS;rw [vK hw];obtain ⟨h1,h2⟩:=hS;refine ⟨(ut hw (zdl fw) S).2 ((ut hn (zdl fn) S).1 h1),?_⟩;unfold canM at h2 ⊢;simp only [mX,Bool.not_eq_true'] at h2 ⊢;obtain ⟨⟨q1,q2⟩,q3⟩:=h2;rw [vJ] at q1 q2 ⊢;refine ⟨⟨?_,?_⟩,q3⟩
 ·unfold badM at q1 ⊢;rw [List.any_eq_false] at q1 ⊢;intro k hk hc;refine q1 k hk ?_;rw [kY] at hc ⊢;simp only [mX] at hc ⊢;exact ⟨hc.1,zhv h k hc.2⟩
 ·have:wrongL (glassL b xs) S b.seekers.length=wrongL (glassL b ys) S b.seekers.length:=by
   unfold wrongL;congr 2;funext k;rw [kY,kY]
  rw [this];exact q2
theorem zcv {xs:List Int} {l:List Says} {i:Nat} {x:Says} (h:l[i]? =some x):((l.take i).map (glassX xs)).flatMap saysC++saysC (glassX xs x)=((l.take (i+1)).map (glassX xs)).flatMap saysC:=by
 rw [za7 h,lM,List.flatMap_append];simp
def zBk:List AV:=[intA 0,intA 0,intA 0,intA 0,.v (.slice none 0 0),.v (.slice none 0 0)]
theorem zcw {main T} (hT:zk tp main T) {gm} {b:Bk} {s e j:Nat} {ob:AObj} {xs:List Int} (hsj:s≠j) (hI:IntsAt ob 0 xs) (hl:xs.length<=1000) (hl2:b.seekers.length<=1000) :
  zh tp T gm 27 [.agg (zx b s e),.sl j 0 xs.length] [(s,zo b),(j,ob)] (fun r K'=>∃ s2,r=.agg (zx (glassL b xs) s2 e)/\K'=[(s,zo b),(j,ob),(s2,zo (glassL b xs))]):=by
 refine ze 38 hT Tryz.func27 fun Y hret=>?_;refine au 21042 ?_;intro jb hjb;refine au 220 ?_;intro jr hjr;refine au 220680423 ?_;intro jo hjo;refine au 223170670423170 ?_;refine bC [(jo,.cells [intA b.steps,intA b.wrong,intA b.low,intA b.high,.v (.slice none 0 0),.sl e 0 b.seen.length] 27 true),(jb,_),(jr,_),(s,_),(j,_)] ?_;refine TK.virtAt (j:=jo) (i:=4) (e:=114) (size:=5) Z (fun _=>uQ) fun jn0 hjn0=>?_;refine au 130354 ?_;refine bA [1,2,4,5,6] ?_;refine bE (fun n env K=>∃ (i jn:Nat),n=b.seekers.length - i/\i<=b.seekers.length/\env=zK 38 [(1,.sl j 0 xs.length),(2,.ptr jb 0),(4,.ptr jr 0),(5,.ptr jo 0),(6,intA i)]/\K=[(jn,.row (((b.seekers.take i).map (glassX xs)).flatMap saysC) 114 5),(jo,.cells [intA b.steps,intA b.wrong,intA b.low,intA b.high,.row jn ((b.seekers.take i).map (glassX xs)).length,.sl e 0 b.seen.length] 27 true),(jb,.cells (zx b s e) 27 true),(jr,.cells zBk 27 true),(s,zo b),(j,ob)]) b.seekers.length ⟨0,jn0,rfl,mN _,rfl,rfl⟩ fun n env K hJ hnext=>?_;obtain ⟨i,jn,rfl,hi,rfl,rfl⟩:=hJ;refine au 9372806906701422 ?_;constructor<;>intro hc0
 ·have hil:i<b.seekers.length:=by simp at hc0; omega
  obtain ⟨x,hx⟩:∃ x,b.seekers[i]? =some x:=⟨_,lA hil⟩;refine au 3601690670421302120 ?_;refine bH Z (zN Z Z zd.h mQ (says_at' b hx)) ?_;refine au 220 ?_;intro jx hjx;refine au 1690670423170 ?_;refine bF 24 (fun g7_3=>?_) (fun g7_3=>?_)
  ·refine au 680690670431706702608888 ?_;refine bI Z Z Z (zD (l:=[_,_,_,_,_]) Z zT.h TyZ.h dQ dQ Z) (fun _=>zt rfl tQ) fun j1 hj1=>?_;refine bO Z Z Z (a_app Z ApOf.h Z mQ (yx saysC 5 (fun _=>rfl) _) rfl (yG (ln:=[_,_,_,_,_]) mQ dQ sQ rfl) oQ rfl (by unfold maxLen; simp; omega) (by simp; omega)) (fun _=>uQ) (fun _=>zt rfl tQ) fun j2=>?_;refine au 35230141403170670 ?_;refine bA [1,2,4,5,6] ?_;refine bC [(j2,_),(jo,_),(jb,_),(jr,_),(s,_),(j,_)] ?_;have eg:glassX xs x=⟨x.name,x.frm,x.til,x.says,true⟩:=by unfold glassX; rw [show x.glass=true from g7_3]; rfl
   exact hnext _ _ _ oQ ⟨i+1,j2,rfl,oQ,rfl,by rw [<- zcv hx,eg,za7 hx,lM,lF] <;> rfl⟩
  refine au 6906701 ?_;refine bD Z Z Z Z (uZ hT hI hl) ?_;rintro r2 K3 ⟨rfl,rfl⟩;refine au 68069067043170670250 ?_;refine bI Z Z Z (zD (l:=[_,_,_,_,_]) Z zT.h TyZ.h dQ dQ Z) (fun _=>zt rfl tQ) fun j5 hj5=>?_;refine bO Z Z Z (a_app Z ApOf.h Z mQ (yx saysC 5 (fun _=>rfl) _) rfl (yG (ln:=[_,_,_,_,_]) mQ dQ sQ rfl) oQ rfl (by unfold maxLen; simp; omega) (by simp; omega)) (fun _=>uQ) (fun _=>zt rfl tQ) fun j2=>?_;refine au 35230141403170670 ?_;refine bA [1,2,4,5,6] ?_;refine bC [(j2,_),(jo,_),(jb,_),(jr,_),(s,_),(j,_)] ?_;have eg:glassX xs x=⟨x.name,x.frm,x.til,x.says,decide (x.frm∈xs)⟩:=by unfold glassX; rw [show x.glass=false from g7_3]; rfl
  exact hnext _ _ _ oQ ⟨i+1,j2,rfl,oQ,rfl,by rw [<- zcv hx,eg,za7 hx,lM,lF] <;> rfl⟩
 obtain rfl:i=b.seekers.length:=by simp at hc0; omega
 refine au 2160 ?_;refine TK.unrowAt (c:=jo) (i:=4) (j:=jn) Z mQ uQ ?_;refine bY (j:=jn) ?_;refine au 31706804 ?_;refine bB hret [(s,_),(j,_),(jn,_)] ?_;exact ⟨jn,by rw [lW]; rfl,by rw [lW]; rfl⟩
theorem ziC (tame:Tame tp) {Ψ:Goroutine->World->Prop} {was now:Bk} {s1 s2 e:Nat} {k3 k4 k5:Int} (h1:s1≠e) (h2:s2≠e) (hst:now.steps=was.steps) (hle:now.seekers.length=was.seekers.length) (eE:zp now=zp was) (hL:checkM was=0->checkM now=0->zb now≠[]->Less was now) (hR:∀ S k,rightM now S k=rightM was S k) (nw:∀ x∈was.seekers,x.name.size<=1000) (nn:∀ x∈now.seekers,x.name.size<=1000) (lw:was.seen.length<=1000) (ln:now.seen.length<=1000) (ls:was.seekers.length<=1000) (hk3:0<=k3/\k3<256) (hk4:0<=k4/\k4<256) (hk5:0<=k5/\k5<256):zh tp (BT tp Ψ) gmS 13 [.agg (zx was s1 e),.agg (zx now s2 e),.v (.int .u8 k3),.v (.int .u8 k4),.v (.int .u8 k5)] [(0,zr),(1,zz),(s1,zo was),(s2,zo now),(e,zp was)] (fun r K'=>r=zl true/\K'=[(0,zr),(1,zz),(s1,zo was),(s2,zo now),(e,zp was)]):=by
 have hT:=wM tame Ψ;refine ze 51 hT Tryz.func13 fun Y hret=>?_;refine au 0 ?_;have n_c:=zaz hT (b:=now) (gm:=gmS) h2 nn ln oQ;rw [eE] at n_c;have n_s:=kc hT (b:=now) h2 nn ln;rw [eE] at n_s;refine au 21042 ?_;intro jw hjw;refine au 210 ?_;intro jn hjn;refine au 68042235 ?_;refine bD Z Z Z Z (zaz hT (b:=was) h1 nw lw ls) ?_;rintro r1 K2 ⟨rfl,rfl⟩;refine au 17 ?_;refine bF 16 (fun g1_4=>?_) (fun g1_4=>?_)
 ·refine au 35421803260888 ?_;refine bB hret [(0,_),(1,_),(s1,_),(s2,_),(e,_)] ?_;exact ⟨rfl,rfl⟩
 have hwas:checkM was=0:=by simpa using g1_4
 refine au 680 ?_;refine bD Z Z Z Z (n_c) ?_;rintro r4 K5 ⟨rfl,rfl⟩;refine au 932507 ?_;refine ⟨fun hcc=>?_,fun hcc=>?_⟩
 ·refine au 3542 ?_;refine bB hret [(0,_),(1,_),(s1,_),(s2,_),(e,_)] ?_;exact ⟨rfl,rfl⟩
 have hnow:checkM now=0:=by simpa using hcc
 have hs2:=zan hnow;obtain ⟨u1,u2,u3,u4,u5,u6,u7⟩:=kv (b:=was) (by rw [((zaA was).1 hwas).1]; rfl);have m3:=Int.emod_nonneg k3 (show was.steps≠0 by omega);have m3':=Int.emod_lt_of_pos k3 (show 0<was.steps by omega);have m4:=Int.emod_nonneg k4 (show was.steps≠0 by omega);have m4':=Int.emod_lt_of_pos k4 (show 0<was.steps by omega);refine au 68042120 ?_;refine bD Z Z Z Z (n_s) ?_;rintro r7 K8 ⟨rfl,rfl⟩;refine au 0 ?_;rw [hs2.1,hs2.2];refine au 2355661 ?_;refine bL [0,1,2,3,4,5,6,7,8,9,10,11,12,13,14,15,16,17,18,19,20,21,22,23,24,25] ?_;refine ad [[1,12],[4,26],[1,27]] ?_;refine TD.sp 28 (fun g4_3=>?_) (fun g4_3=>?_)
 ·refine ad [[1,11,28],[4,28,29],[1,28,30]] ?_;refine TD.sp 31 (fun g4_6=>?_) (fun g4_6=>?_)
  ·refine ad [[11,5,31],[11,6,31],[11,2,31],[11,31,34],[11,5,31],[11,31,36],[11,31,35,37],[11,3,31],[11,31,39],[11,5,31],[11,31,41],[11,31,40,42],[11,31,43],[11,5,31],[11,4,31],[11,31,45,46],[11,31,32,33,38,44,47],[7,28,31,48],[7,28,49],[13,50],[14]] ?_;refine au 0 ?_;refine bB hret [(0,_),(1,_),(s1,_),(s2,_),(e,_)] ?_;exact ⟨rfl,rfl⟩
  have hne:zb now≠[]:=fun h=>by rw [h] at g4_6; cases g4_6
  refine ad [[12,5,31],[12,6,31],[1,2,31]] ?_;refine bU [31,34] Z (wa Z Z Und.h Und.h (kr oQ)) ?_;refine ad [[3,5,31],[10,31,36]] ?_;refine bU [31,35,37] Z (q_rem Z Z Z oQ oQ) ?_;refine ad [[1,3,31]] ?_;refine bU [31,39] Z (wa Z Z Und.h Und.h (kr oQ)) ?_;refine ad [[3,5,31],[10,31,41]] ?_;refine bU [31,40,42] Z (q_rem Z Z Z oQ oQ) ?_;refine ad [[8,31,43],[12,5,31],[1,4,31]] ?_;refine bQ (pend':=[⟨18,[31,43],[]⟩,⟨17,[31,40,42],[]⟩,⟨16,[31,41],[(_,_)]⟩,⟨15,[5,31],[]⟩,⟨14,[31,39],[]⟩,⟨13,[3,31],[]⟩,⟨12,[31,35,37],[]⟩,⟨11,[31,36],[(_,_)]⟩,⟨10,[5,31],[]⟩,⟨9,[31,34],[]⟩,⟨8,[2,31],[]⟩,⟨7,[6,31],[(_,_)]⟩,⟨6,[5,31],[(_,_)]⟩,⟨4,[28,29],[]⟩,⟨3,[11,28],[]⟩,⟨2,[27],[]⟩,⟨1,[26],[]⟩,⟨0,[12],[]⟩]) [31,45,46] Z Z Z Z Z (zm7 hT (b:=was) hk5 ls) (fun r10 K11 h12=>⟨?_,?_⟩)
  ·rcases h12 with ⟨rfl,rfl⟩
   all_goals simp
  obtain ⟨rfl,rfl⟩:=h12;try simp only [cA]
  refine bS tQ ?_;refine bQ (pend':=[⟨17,[31,40,42],[]⟩,⟨16,[31,41],[(_,_)]⟩,⟨15,[5,31],[]⟩,⟨14,[31,39],[]⟩,⟨13,[3,31],[]⟩,⟨11,[31,36],[(_,_)]⟩,⟨10,[5,31],[]⟩,⟨9,[31,34],[]⟩,⟨8,[2,31],[]⟩,⟨4,[28,29],[]⟩,⟨3,[11,28],[]⟩,⟨2,[27],[]⟩,⟨1,[26],[]⟩,⟨0,[12],[]⟩]) [31,32,33,38,44,47] Z Z Z Z Z (zhb tame (was:=was) (now:=now) (lo:=k3 % was.steps) (w:=1+k4 % was.steps) (wh:=whoM was k5) (hL hwas hnow hne) hwas hnow h1 h2 nw nn lw ln ⟨m3,m3'⟩ ⟨by omega,oQ⟩ ((zmt k5).imp id fun ⟨q,h3,h4⟩=>⟨q,h3,h4,oQ,fun S _=>hR S q⟩) eE) (fun r13 K14 h15=>⟨?_,?_⟩)
  ·rcases h15 with ⟨rfl,rfl⟩
   all_goals simp
  obtain ⟨rfl,rfl⟩:=h15;try simp only [cA]
  refine bS tQ ?_;refine ad [[6,28,31,48],[7,28,49],[13,50],[14]] ?_;refine au 0 ?_;refine bB hret [(0,_),(1,_),(s1,_),(s2,_),(e,_)] ?_;exact ⟨rfl,rfl⟩
 simp at g4_3
theorem TD.nd {P:Program} {gm:Nat->Option Nat} {T:Goroutine->Hp->Prop} {Y:KX P gm T} {ds:List Nat} {k:List Item} {env:List AV} {K:KV} {ops:Array Oper} {pend:List Pd} {L:List Nat} (h:(keys K).Nodup->TD Y ds ops k pend L env K):TD Y ds ops k pend L env K:=fun h1 h2 h3 A hA=>h hA.nd h1 h2 h3 A hA
theorem zaG {b:Bk} {xs:List Int} (h:∀ x∈b.seekers,x.name.size<=1000):∀ x∈(glassL b xs).seekers,x.name.size<=1000:=fun x hx=>by
 obtain ⟨y,hy,rfl⟩:=lY.1 (show x∈b.seekers.map (glassX xs) from hx);exact h y hy
instance:Cal tp 13:={}
instance:Cal tp 23:={}
instance:Cal tp 24:={}
instance:Cal tp 25:={}
instance:Cal tp 26:={}
instance:Cal tp 27:={}
instance:Cal tp 7:={}
instance:Cal tp 9:={}
instance:Und tp 78 (.slice 181):={}
theorem zhG {R:Value->World->Prop} {b:Bk} {s e:Nat} {q:SlB} {c3 s3 e3 w3:Nat} {x:WatR} {k3 k4 k5 k6:Int} (hse:s≠e) (hk3:0<=k3/\k3<256) (hk4:0<=k4/\k4<256) (hk5:0<=k5/\k5<256) (hk6:0<=k6/\k6<256) {A:List AObj} {φ:Nat->Loc3} {F H:Hp} {vs:Array Value} (hv:zP [(0,zr),(1,zz),(6,yn),(s,zo b),(e,zp b),(c3,clO q),(s3,suO q),(e3,eyO q),(w3,waO q)] A) (hn0:(keys [(0,zr),(1,zz),(6,yn),(s,zo b),(e,zp b),(c3,clO q),(s3,suO q),(e3,eyO q),(w3,waO q)]).Nodup) (hg:RelG gmS φ A.length) (hH:RelH φ A F H) (hargs:zS φ A.length [.agg (zx b s e),.agg (slC q c3 s3 e3 w3),.agg (watC x),.v (.int .u8 k3),.v (.int .u8 k4),.v (.int .u8 k5),.v (.int .u8 k6)] vs)
  (hR:∀ r K' φ' A' H' v w,(fun r K'=>r=zl true/\K'=[(0,zr),(1,zz),(6,yn),(s,zo b),(e,zp b),(c3,clO q),(s3,suO q),(e3,eyO q),(w3,waO q)]) r K'->RelH φ' A' F H'->RelV φ' A'.length r v->zZ H' w->R v w):BT tp (AtRet tp 6 R) (G (Frame.enter tp 6 vs .normal) []) H:=by
 have hT:=wM tame (AtRet tp 6 R);refine zmp 93 tame (Post:=fun r K'=>r=zl true/\K'=[(0,zr),(1,zz),(6,yn),(s,zo b),(e,zp b),(c3,clO q),(s3,suO q),(e3,eyO q),(w3,waO q)]) Tryz.func6 hv hn0 hg hH hargs hR fun Y hret=>?_;refine au 21042 ?_;intro jb hjb;refine au 210 ?_;intro jq hjq;refine au 210 ?_;intro jx hjx;refine au 68042235 ?_;refine bD Z Z Z Z (zmJ hT hse) ?_;rintro r1 K2 ⟨rfl,rfl⟩;refine au 1300 ?_;refine bF 27 (fun g1_4=>?_) (fun g1_4=>?_)
 ·refine au 42180326088881260888 ?_;refine bD Z Z Z Z (vB tame) ?_;rintro r4 K5 ⟨rfl,rfl⟩;refine au 35 ?_;refine bB hret [(0,_),(1,_),(6,_),(s,_),(e,_),(c3,_),(s3,_),(e3,_),(w3,_)] ?_;exact ⟨rfl,rfl⟩
 have hf:=zmI (b:=b) (by simpa using g1_4);have hck:=hf.check;refine au 680 ?_;refine bD Z Z Z Z (zkm hT (b:=q) (c:=c3) (s:=s3) (e:=e3) (w:=w3)) ?_;rintro r7 K8 ⟨⟨z,rfl,hz⟩,rfl⟩;refine au 1250300 ?_;refine bF 32 (fun g1_9=>?_) (fun g1_9=>?_)
 ·refine au 4218032608888 ?_;refine bD Z Z Z Z (vB tame) ?_;rintro r10 K11 ⟨rfl,rfl⟩;refine au 35 ?_;refine bB hret [(0,_),(1,_),(6,_),(s,_),(e,_),(c3,_),(s3,_),(e3,_),(w3,_)] ?_;exact ⟨rfl,rfl⟩
 obtain ⟨hqb,hqw,hqc⟩:=hz (by simpa using g1_9);have hqc:q.clean.length<=1000:=by omega
 have hqn:=hqb.nsu;refine au 680 ?_;refine bD Z Z Z Z (zgB hT hqb hqw hqc) ?_;rintro r13 K14 ⟨jo5,m5,l5,rfl,rfl⟩;refine au 932507280 ?_;constructor<;>intro hc0
 ·refine au 42 ?_;refine bD Z Z Z Z (vB tame) ?_;rintro r16 K17 ⟨rfl,rfl⟩;refine au 35 ?_;refine bB hret [(0,_),(1,_),(6,_),(s,_),(e,_),(c3,_),(s3,_),(e3,_),(w3,_)] ?_;exact ⟨rfl,rfl⟩
 have m3:=Int.emod_nonneg k3 (show (q.suns.length:Int)≠0 by omega);have m3':=Int.emod_lt_of_pos k3 (show 0<(q.suns.length:Int) by omega);obtain ⟨hN,hhN⟩:∃ n:Nat,k3 % (q.suns.length:Int)=(n:Int):=⟨_,(Int.toNat_of_nonneg m3).symm⟩;have hhl:hN<q.suns.length:=by omega
 refine au 68068042120 ?_;refine bD Z Z Z Z (zh3 hT (x:=x) hqb hqw hqc) ?_;rintro r19 K20 h21;rcases h21 with ⟨n5,hn5,rfl,rfl⟩ | ⟨hw2,hne2,c2,s2,e2,w2,rfl,rfl⟩
 ·refine au 220661 ?_;intro jo hjo;refine au 937142235170 ?_;constructor<;>intro hc1
  ·skip;refine au 42 ?_;refine bD Z Z Z Z (vB tame) ?_;rintro r22 K23 ⟨rfl,rfl⟩;refine au 35 ?_;refine bB hret [(0,_),(1,_),(6,_),(s,_),(e,_),(c3,_),(s3,_),(e3,_),(w3,_)] ?_;exact ⟨rfl,rfl⟩
  exact absurd (by simpa using hc1) hn5
 ·refine au 220661 ?_;intro jo hjo;refine au 937142235170 ?_;constructor<;>intro hc1
  ·exact absurd hc1 dQ
  have hsn:(watchS q x).suns.length=q.suns.length:=rfl;have hin:((sureM q hN).all fun n=>decide (n∈sureM (watchS q x) hN))=true:=List.all_eq_true.2 fun n hn=>decide_eq_true (zjR hqb x hhl hn);have hl1:=za5 q hN q.steps.toNat;have hl2:=za5 (watchS q x) hN q.steps.toNat;have hqs:=hqb.st;refine au 142120 ?_;refine bH Z (wa Z Z Und.h Und.h (kr oQ)) ?_;refine au 280690670 ?_;refine bH Z (q_rem Z Z Z oQ oQ) ?_;rw [hhN];refine au 16804235 ?_;refine bD Z Z Z Z (zfT hT hqb hqw hqc hhl (zjO hne2)) ?_;rintro r25 K26 ⟨js1,jp1,ps1,rfl,rfl⟩;refine au 16804235556661 ?_;refine bD Z Z Z Z (zfT hT (b:=(watchS q x)) (h:=hN) (zaq hqb x) hw2 hqc hhl hne2) ?_;rintro r28 K29 ⟨js2,jp2,ps2,rfl,rfl⟩;refine au 2235556661 ?_;refine bC [(js1,_),(js2,_),(jb,_),(0,_),(1,_),(6,_),(s,_),(e,_),(c3,_),(s3,_),(e3,_),(w3,_)] ?_;refine TK.freezeR 18 Z uQ tQ ?_;refine TK.freezeR 21 Z uQ tQ ?_;refine TK.nd fun hnd=>?_;have hjj:js1≠js2:=fun h=>by subst h; simp [keys] at hnd
  have hj1:s≠js1:=fun h=>by subst h; simp [keys] at hnd
  have hj2:s≠js2:=fun h=>by subst h; simp [keys] at hnd
  refine au 1714 ?_;refine bF 70 (fun g9_3=>?_) (fun g9_3=>?_)
  ·cases g9_3
  refine au 125071 ?_;refine bF 74 (fun g9_7=>?_) (fun g9_7=>?_)
  ·cases g9_7
  refine au 11 ?_;refine bD Z Z Z Z (zcx hT hjj (ym (sureM q hN) 3 false) (ym (sureM (watchS q x) hN) 3 false) (by show (sureI q hN q.steps.toNat).length<=_; omega) (by show (sureI (watchS q x) hN q.steps.toNat).length<=_; omega)) ?_;rintro r31 K32 ⟨rfl,rfl⟩;refine au 93250300 ?_;constructor<;>intro hc2
  ·rw [hin] at hc2;simp at hc2
  refine au 2120 ?_;refine TK.dr [0,1,3,4,6,7,8,2,5,9,10,11,12,13] [0,1,2,3,4,5,6,7,8,9,10,11,12,13] ?_;refine ad [[12,7],[1,18],[12,7],[1,21],[1,4],[1,5],[1,6]] ?_;refine bQ (pend':=[⟨8,[6],[]⟩,⟨7,[5],[]⟩,⟨6,[4],[]⟩,⟨4,[21],[]⟩,⟨3,[7],[(_,_)]⟩]) [80,81] Z Z Z Z Z (zcw hT (b:=b) (s:=s) (e:=e) hj1 (ym (sureM q hN) 3 false) (by show (sureI q hN q.steps.toNat).length<=_; omega) hf.says) (fun r34 K35 h36=>⟨?_,?_⟩)
  ·rcases h36 with ⟨sg1,rfl,rfl⟩
   all_goals simp
  obtain ⟨sg1,rfl,rfl⟩:=h36;try simp only [cA]
  refine bS tQ ?_;refine bQ (pend':=[⟨8,[6],[]⟩,⟨7,[5],[]⟩,⟨6,[4],[]⟩]) [83,84] Z Z Z Z Z (zcw hT (b:=b) (s:=s) (e:=e) hj2 (ym (sureM (watchS q x) hN) 3 false) (by show (sureI (watchS q x) hN q.steps.toNat).length<=_; omega) hf.says) (fun r37 K38 h39=>⟨?_,?_⟩)
  ·rcases h39 with ⟨sg2,rfl,rfl⟩
   all_goals simp
  obtain ⟨sg2,rfl,rfl⟩:=h39;try simp only [cA]
  refine bS tQ ?_;refine TD.nd fun hnd5=>?_;have hd1:sg1≠e:=fun h=>by subst h; simp [keys] at hnd5
  have hd2:sg2≠e:=fun h=>by subst h; simp [keys] at hnd5
  refine bQ (pend':=[]) [82,85,86,87,88] Z Z Z Z Z (ziC tame (was:=glassL b (sureM q hN)) (now:=glassL b (sureM (watchS q x) hN)) (s1:=sg1) (s2:=sg2) (e:=e) hd1 hd2 Z (by rw [vJ,vJ]) Z (fun h1 h2 h3=>zhu (fun n hn=>zjR hqb x hhl hn) h1 h2 h3) (fun S k=>by rw [kY,kY]) (zaG hf.names) (zaG hf.names) hf.seen hf.seen (by rw [vJ]; exact hf.says) hk4 hk5 hk6) (fun r40 K41 h42=>⟨?_,?_⟩)
  ·rcases h42 with ⟨rfl,rfl⟩
   all_goals simp
  obtain ⟨rfl,rfl⟩:=h42;try simp only [cA]
  refine bS tQ ?_;refine ad [[1,89]] ?_;refine TD.sp 90 (fun g11_11=>?_) (fun g11_11=>?_)
  ·refine bQ (pend':=[]) [90] Z Z Z Z Z (vB tame) (fun r43 K44 h45=>⟨?_,?_⟩)
   ·rcases h45 with ⟨rfl,rfl⟩
    all_goals simp
   obtain ⟨rfl,rfl⟩:=h45;try simp only [cA]
   refine bS tQ ?_;refine ad [[7,90,91],[13,92],[14]] ?_;refine au 0 ?_;refine bB hret [(0,_),(1,_),(6,_),(s,_),(e,_),(c3,_),(s3,_),(e3,_),(w3,_)] ?_;exact ⟨rfl,rfl⟩
  cases g11_11
end Go.Vel
namespace Go.Vel
open Go Go.Conc Go.Proofs Go.ChangeShapes Go.WideShapes Go.ChangeAt Go.RowKit
def tblLaidL:List (String×DataW Unit):=[("velarium/sail.checks",Go.Proofs.YtcddfkgckelhiaaGreatDoor.Rows.laid_velarium_sail_checks),("velarium/seeker.checks",Go.Proofs.YtcddfkgckelhiaaGreatDoor.Rows.laid_velarium_seeker_checks),("velarium/seeker.says",Go.Proofs.YtcddfkgckelhiaaGreatDoor.Rows.laid_velarium_seeker_says)]
theorem tbl5L {P:Program} {W:World} {n:String} {d:DataW Unit} {g0 t0 e0:Nat} {ps rs:Array TypeId} {va:Bool} {b0 b1 b2 b3 b4:UInt8} {r0 r1 r2 r3 r4:List UInt8} {f0 f1 f2 f3 f4:Nat} (h:funcsAt P W n d)
  (hg0:P.globalNamed n=some g0) (ht0:(P.globals[g0]?).map (·.type)=some t0) (hu:P.underlying t0=some (.array 5 e0)) (he:P.underlying e0=some (.func ps rs va)) (hc:P.cellsOf e0=1) (hc3:P.cellsOf t0=5)
  (hd:d.funcsOut=.agg [.held (b0::r0),.held (b1::r1),.held (b2::r2),.held (b3::r3),.held (b4::r4)])
  (q0:((List.range P.funcs.size).filter fun f=>(P.funcs[f]?).any (·.name.toUTF8.data.toList==b0::r0))=[f0])
  (q1:((List.range P.funcs.size).filter fun f=>(P.funcs[f]?).any (·.name.toUTF8.data.toList==b1::r1))=[f1])
  (q2:((List.range P.funcs.size).filter fun f=>(P.funcs[f]?).any (·.name.toUTF8.data.toList==b2::r2))=[f2])
  (q3:((List.range P.funcs.size).filter fun f=>(P.funcs[f]?).any (·.name.toUTF8.data.toList==b3::r3))=[f3])
  (q4:((List.range P.funcs.size).filter fun f=>(P.funcs[f]?).any (·.name.toUTF8.data.toList==b4::r4))=[f4])
  : ∃ cur e fz,W.heap[g0]? =some (.cells cur e fz)/\cur[0]? =some (.func (.func f0) #[] #[])/\cur[1]? =some (.func (.func f1) #[] #[])/\cur[2]? =some (.func (.func f2) #[] #[])/\cur[3]? =some (.func (.func f3) #[] #[])/\cur[4]? =some (.func (.func f4) #[] #[]):=by
 obtain ⟨g,t,cs,fuel,p,hg,ht,hv,htr⟩:=h;obtain rfl:=Option.some.inj (hg0.symm.trans hg);obtain rfl:=Option.some.inj (ht0.symm.trans ht);rw [hd] at htr;obtain ⟨xs,m,rfl,hx,hlen,hn,hel⟩:=DataW.trod_array hu htr
 match xs,hn with
 | [x0,x1,x2,x3,x4],_ =>
 simp only [Prod.mk.injEq,DataW.agg.injEq,List.map_cons,List.map_nil,List.cons.injEq,and_true] at hx;obtain ⟨⟨e0,e1,e2,e3,e4⟩,_⟩:=hx;rw [hc3] at hlen;obtain ⟨l⟩:=cs
 match l,hlen with
 | [c0,c1,c2,c3,c4],_ =>
 have h0:=hel 0 dQ;have h1:=hel 1 dQ;have h2:=hel 2 dQ;have h3:=hel 3 dQ;have h4:=hel 4 dQ;rw [hc] at h0 h1 h2 h3 h4;obtain ⟨x0,y0⟩:=x0;obtain ⟨x1,y1⟩:=x1;obtain ⟨x2,y2⟩:=x2;obtain ⟨x3,y3⟩:=x3;obtain ⟨x4,y4⟩:=x4;dsimp only at e0 e1 e2 e3 e4;subst e0 e1 e2 e3 e4;obtain rfl:=func_of_trod (v:=c0) he q0 h0;obtain rfl:=func_of_trod (v:=c1) he q1 h1;obtain rfl:=func_of_trod (v:=c2) he q2 h2;obtain rfl:=func_of_trod (v:=c3) he q3 h3;obtain rfl:=func_of_trod (v:=c4) he q4 h4;have k0:=World.var?_cell hg hv 0;have k1:=World.var?_cell hg hv 1;have k2:=World.var?_cell hg hv 2;have k3:=World.var?_cell hg hv 3;have k4:=World.var?_cell hg hv 4;simp only [List.getElem?_toArray,List.getElem?_cons_zero,List.getElem?_cons_succ] at k0 k1 k2 k3 k4;simp only [World.cell?] at k0 k1 k2 k3 k4;cases hh:W.heap[g0]? with
 | none=>rw [hh] at k0; cases k0
 | some o =>
  cases o with
  | cells cur e fz=>rw [hh] at k0 k1 k2 k3 k4; exact ⟨cur,e,fz,rfl,by simpa using k0,by simpa using k1,by simpa using k2,by simpa using k3,by simpa using k4⟩
  | _=>rw [hh] at k0; cases k0
set_option maxRecDepth 100000 in
theorem zkQ {W:World} (h:laidMetH tp tblLaidL W):(∃ cur e fz,W.heap[2]? =some (.cells cur e fz)/\cur[0]? =some (.func (.func 276) #[] #[])/\cur[1]? =some (.func (.func 277) #[] #[])/\cur[2]? =some (.func (.func 278) #[] #[])/\cur[3]? =some (.func (.func 279) #[] #[])/\cur[4]? =some (.func (.func 280) #[] #[]))/\(∃ cur e fz,W.heap[4]? =some (.cells cur e fz)/\cur[0]? =some (.func (.func 286) #[] #[])/\cur[1]? =some (.func (.func 287) #[] #[])/\cur[2]? =some (.func (.func 288) #[] #[]))/\(∃ cur e fz,W.heap[3]? =some (.cells cur e fz)/\cur[0]? =some (.func (.func 284) #[] #[])/\cur[1]? =some (.func (.func 262) #[] #[])/\cur[2]? =some (.func (.func 285) #[] #[])) :=
 ⟨tbl5L (h.funcs (n := "velarium/sail.checks") (List.mem_cons_self ..)) (t0:=295) (e0:=294) (by kernel_rfl) (by kernel_rfl) Tryz.underlying295 Tryz.underlying294 (by kernel_rfl) (by kernel_rfl) rfl (by kernel_rfl) (by kernel_rfl) (by kernel_rfl) (by kernel_rfl) (by kernel_rfl),
  tbl3 (h.funcs (n := "velarium/seeker.checks") (lL _ (List.mem_cons_self ..))) (t0:=313) (e0:=312) (by kernel_rfl) (by kernel_rfl) Tryz.underlying313 Tryz.underlying312 (by kernel_rfl) (by kernel_rfl) rfl (by kernel_rfl) (by kernel_rfl) (by kernel_rfl),
  tbl3 (h.funcs (n := "velarium/seeker.says") (lL _ (lL _ (List.mem_cons_self ..)))) (t0:=308) (e0:=307) (by kernel_rfl) (by kernel_rfl) Tryz.underlying308 Tryz.underlying307 (by kernel_rfl) (by kernel_rfl) rfl (by kernel_rfl) (by kernel_rfl) (by kernel_rfl)⟩
set_option maxRecDepth 100000 in
theorem zit (os:Os) (args:Array Value):laidMetH tp tblLaidL ((World.doorLaid tp 400 os).forCall (fun _ _=>0) ⟨#[],args,[]⟩).memory :=
 laidMetH_of_parts3 (fuel:=8) (laidMet_of_run' 8 (by kernel_rfl) (by kernel_rfl)) (by kernel_rfl) (by kernel_rfl)
theorem zlh {W:World} {φ:Nat->Loc3} {n g f1 f2 f3 f4 f5:Nat} {e:TypeId} (h:∃ cur e fz,W.heap[g]? =some (.cells cur e fz)/\cur[0]? =some (.func (.func f1) #[] #[])/\cur[1]? =some (.func (.func f2) #[] #[])/\cur[2]? =some (.func (.func f3) #[] #[])/\cur[3]? =some (.func (.func f4) #[] #[])/\cur[4]? =some (.func (.func f5) #[] #[])):RelO φ n ⟨g,0,0⟩ (holdAll W) (.cells [.fn f1 [] [],.fn f2 [] [],.fn f3 [] [],.fn f4 [] [],.fn f5 [] []] e false):=by
 intro _;obtain ⟨cur,e',fz,hh,h0,h1,h2,h3,h4⟩:=h;refine ⟨false,cur,(e',fz),vi hh,(fun h=>by cases h),fun j a ha=>?_⟩
 match j,ha with
 | 0,ha=>cases ha; exact ⟨_,h0,vu⟩
 | 1,ha=>cases ha; exact ⟨_,h1,vu⟩
 | 2,ha=>cases ha; exact ⟨_,h2,vu⟩
 | 3,ha=>cases ha; exact ⟨_,h3,vu⟩
 | 4,ha=>cases ha; exact ⟨_,h4,vu⟩
 | j+5,ha=>simp at ha
theorem zab {W:World} {φ:Nat->Loc3} {n:Nat} {l:Loc3} {e:TypeId}:RelO φ n l (holdAll W) (.cells [] e false):=fun h=>absurd rfl h
def sunV (x:SunR):List Value:=[.int .i64 x.step,.int .i64 x.high]
def eyeV (x:EyeR):List Value:=[.int .i64 x.at0,.int .i64 x.high]
def watV (x:WatR):List Value:=[.int .i64 x.hour,.int .i64 x.step,.bool x.lit]
def pairV (x:Int×Int):List Value:=[.int .i64 x.1,.int .i64 x.2]
theorem list3C {α:Type} {l:List α} (h:l.length=3):∃ a b c,l=[a,b,c]:=by
 match l,h with
 | [a,b,c],_=>exact ⟨a,b,c,rfl⟩
theorem list2C {α:Type} {l:List α} (h:l.length=2):∃ a b,l=[a,b]:=by
 match l,h with
 | [a,b],_=>exact ⟨a,b,rfl⟩
theorem list13C {α:Type} {l:List α} (h:l.length=13):∃ v0 v1 v2 v3 v4 v5 v6 v7 v8 v9 v10 v11 v12,l=[v0,v1,v2,v3,v4,v5,v6,v7,v8,v9,v10,v11,v12]:=by
 match l,h with
 | [v0,v1,v2,v3,v4,v5,v6,v7,v8,v9,v10,v11,v12],_=>exact ⟨v0,v1,v2,v3,v4,v5,v6,v7,v8,v9,v10,v11,v12,rfl⟩
section
variable {H:Type} {enc:TypeId×Value->H} {W:World} {sp:Nat->Bool} {held:Bool}
theorem zaE {P:Program} {n:Nat} {t:TypeId} {y:Option (DataW H×List MemPlace)} {z:DataW H×List MemPlace} {l l':List Value} (h:DataW.trod enc P W 0 sp held n t l=y) (hy:y=some z) (hl:l=l'):DataW.trod enc P W 0 sp held n t l'=some z:=by rw [<- hl,h,hy]
theorem zlx (m:Nat) (cs:List Value) (x:DataW H×List MemPlace) (h:DataW.trod enc tp W 0 sp held m 291 cs=some x):∃ z,cs=sunV z:=by
 obtain ⟨xs,n,rfl,hx,hlen,hxs,hf⟩:=DataW.trod_struct Tryz.underlying291 h;have hlen':cs.length=2:=hlen.trans (by kernel_rfl);have hxs':xs.length=2:=hxs;have c3:tp.cellsOf 3=1:=by kernel_rfl
 obtain ⟨v0,v1,rfl⟩:=list2C hlen';obtain ⟨y0,q0⟩:=yg hxs' (i:=0) dQ;obtain ⟨y1,q1⟩:=yg hxs' (i:=1) dQ;obtain ⟨z0,e0,_⟩:=DataW.trod_int Tryz.underlying3 (z7 (c:=v0) (hf 0 _ rfl) q0 (by show List.take (tp.cellsOf 3) (List.drop 0 _)=_; rw [c3]; rfl));obtain ⟨z1,e1,_⟩:=DataW.trod_int Tryz.underlying3 (z7 (c:=v1) (hf 1 _ rfl) q1 (by show List.take (tp.cellsOf 3) (List.drop 1 _)=_; rw [c3]; rfl));cases e0;cases e1;exact ⟨⟨z0,z1⟩,rfl⟩
theorem zlv (m:Nat) (cs:List Value) (x:DataW H×List MemPlace) (h:DataW.trod enc tp W 0 sp held m 293 cs=some x):∃ z,cs=eyeV z:=by
 obtain ⟨xs,n,rfl,hx,hlen,hxs,hf⟩:=DataW.trod_struct Tryz.underlying293 h;have hlen':cs.length=2:=hlen.trans (by kernel_rfl);have hxs':xs.length=2:=hxs;have c3:tp.cellsOf 3=1:=by kernel_rfl
 obtain ⟨v0,v1,rfl⟩:=list2C hlen';obtain ⟨y0,q0⟩:=yg hxs' (i:=0) dQ;obtain ⟨y1,q1⟩:=yg hxs' (i:=1) dQ;obtain ⟨z0,e0,_⟩:=DataW.trod_int Tryz.underlying3 (z7 (c:=v0) (hf 0 _ rfl) q0 (by show List.take (tp.cellsOf 3) (List.drop 0 _)=_; rw [c3]; rfl));obtain ⟨z1,e1,_⟩:=DataW.trod_int Tryz.underlying3 (z7 (c:=v1) (hf 1 _ rfl) q1 (by show List.take (tp.cellsOf 3) (List.drop 1 _)=_; rw [c3]; rfl));cases e0;cases e1;exact ⟨⟨z0,z1⟩,rfl⟩
theorem zgK (m:Nat) (cs:List Value) (x:DataW H×List MemPlace) (h:DataW.trod enc tp W 0 sp held m 76 cs=some x):∃ z,cs=watV z:=by
 obtain ⟨xs,n,rfl,hx,hlen,hxs,hf⟩:=DataW.trod_struct Tryz.underlying76 h;have hlen':cs.length=3:=hlen.trans (by kernel_rfl);have hxs':xs.length=3:=hxs;have c3:tp.cellsOf 3=1:=by kernel_rfl
 have c4:tp.cellsOf 4=1:=by kernel_rfl
 obtain ⟨v0,v1,v2,rfl⟩:=list3C hlen';obtain ⟨y0,q0⟩:=yg hxs' (i:=0) dQ;obtain ⟨y1,q1⟩:=yg hxs' (i:=1) dQ;obtain ⟨y2,q2⟩:=yg hxs' (i:=2) dQ;obtain ⟨z0,e0,_⟩:=DataW.trod_int Tryz.underlying3 (z7 (c:=v0) (hf 0 _ rfl) q0 (by show List.take (tp.cellsOf 3) (List.drop 0 _)=_; rw [c3]; rfl));obtain ⟨z1,e1,_⟩:=DataW.trod_int Tryz.underlying3 (z7 (c:=v1) (hf 1 _ rfl) q1 (by show List.take (tp.cellsOf 3) (List.drop 1 _)=_; rw [c3]; rfl));obtain ⟨z2,e2,_⟩:=DataW.trod_bool Tryz.underlying4 (z7 (c:=v2) (hf 2 _ rfl) q2 (by show List.take (tp.cellsOf 4) (List.drop 2 _)=_; rw [c4]; rfl));cases e0;cases e1;cases e2;exact ⟨⟨z0,z1,z2⟩,rfl⟩
theorem zhm (m:Nat) (cs:List Value) (x:DataW H×List MemPlace) (h:DataW.trod enc tp W 0 sp held m 23 cs=some x):∃ z,cs=pairV z:=by
 obtain ⟨xs,n,rfl,hx,hlen,hxs,hf⟩:=DataW.trod_struct Tryz.underlying23 h;have hlen':cs.length=2:=hlen.trans (by kernel_rfl);have hxs':xs.length=2:=hxs;have c3:tp.cellsOf 3=1:=by kernel_rfl
 obtain ⟨v0,v1,rfl⟩:=list2C hlen';obtain ⟨y0,q0⟩:=yg hxs' (i:=0) dQ;obtain ⟨y1,q1⟩:=yg hxs' (i:=1) dQ;obtain ⟨z0,e0,_⟩:=DataW.trod_int Tryz.underlying3 (z7 (c:=v0) (hf 0 _ rfl) q0 (by show List.take (tp.cellsOf 3) (List.drop 0 _)=_; rw [c3]; rfl));obtain ⟨z1,e1,_⟩:=DataW.trod_int Tryz.underlying3 (z7 (c:=v1) (hf 1 _ rfl) q1 (by show List.take (tp.cellsOf 3) (List.drop 1 _)=_; rw [c3]; rfl));cases e0;cases e1;exact ⟨⟨z0,z1⟩,rfl⟩
theorem zcn (m:Nat) (cs:List Value) (x:DataW H×List MemPlace) (h:DataW.trod enc tp W 0 sp held m 69 cs=some x):∃ z,cs=pairV z:=by
 obtain ⟨xs,n,rfl,hx,hlen,hxs,hf⟩:=DataW.trod_struct Tryz.underlying69 h;have hlen':cs.length=2:=hlen.trans (by kernel_rfl);have hxs':xs.length=2:=hxs;have c3:tp.cellsOf 3=1:=by kernel_rfl
 obtain ⟨v0,v1,rfl⟩:=list2C hlen';obtain ⟨y0,q0⟩:=yg hxs' (i:=0) dQ;obtain ⟨y1,q1⟩:=yg hxs' (i:=1) dQ;obtain ⟨z0,e0,_⟩:=DataW.trod_int Tryz.underlying3 (z7 (c:=v0) (hf 0 _ rfl) q0 (by show List.take (tp.cellsOf 3) (List.drop 0 _)=_; rw [c3]; rfl));obtain ⟨z1,e1,_⟩:=DataW.trod_int Tryz.underlying3 (z7 (c:=v1) (hf 1 _ rfl) q1 (by show List.take (tp.cellsOf 3) (List.drop 1 _)=_; rw [c3]; rfl));cases e0;cases e1;exact ⟨⟨z0,z1⟩,rfl⟩
theorem zjd {v:Value} {d:DataW H} {p:List MemPlace} (hv:∃ cs,v=.agg cs) (h:DataW.Trod enc tp W 0 sp held 74 v d p):∃ (b:SlB) (v1 v2 v3 v4:Value),v=.agg #[.int .i64 b.steps,.int .i64 b.dirty,.int .i64 b.slope,.int .i64 b.lo,.int .i64 b.hi,v1,.int .i64 b.rf,.int .i64 b.rh,.int .i64 b.cf,.int .i64 b.ch,v2,v3,v4]/\SlIn W (fun n:Int=>[Value.int .i64 n]) 1 b.clean v1/\SlIn W sunV 2 b.suns v2/\SlIn W eyeV 2 b.eyes v3/\SlIn W watV 3 b.watches v4:=by
 obtain ⟨ca,rfl⟩:=hv;obtain ⟨fuel,h⟩:=h;generalize hcs:(Value.agg ca).cells.toList=cs at h;obtain ⟨xs,n,rfl,hx,hlen,hxs,hf⟩:=DataW.trod_struct Tryz.underlying74 h;have hlen':cs.length=13:=hlen.trans (by kernel_rfl);have hxs':xs.length=10:=hxs;have c3:tp.cellsOf 3=1:=by kernel_rfl
 have c23:tp.cellsOf 23=2:=by kernel_rfl
 have c61:tp.cellsOf 61=1:=by kernel_rfl
 have c69:tp.cellsOf 69=2:=by kernel_rfl
 have c70:tp.cellsOf 70=1:=by kernel_rfl
 have c71:tp.cellsOf 71=1:=by kernel_rfl
 have c72:tp.cellsOf 72=1:=by kernel_rfl
 obtain ⟨v0,v1,v2,v3,v4,v5,v6,v7,v8,v9,v10,v11,v12,rfl⟩:=list13C hlen';obtain ⟨y0,q0⟩:=yg hxs' (i:=0) dQ;obtain ⟨y1,q1⟩:=yg hxs' (i:=1) dQ;obtain ⟨y2,q2⟩:=yg hxs' (i:=2) dQ;obtain ⟨y3,q3⟩:=yg hxs' (i:=3) dQ;obtain ⟨y4,q4⟩:=yg hxs' (i:=4) dQ;obtain ⟨y5,q5⟩:=yg hxs' (i:=5) dQ;obtain ⟨y6,q6⟩:=yg hxs' (i:=6) dQ;obtain ⟨y7,q7⟩:=yg hxs' (i:=7) dQ;obtain ⟨y8,q8⟩:=yg hxs' (i:=8) dQ;obtain ⟨y9,q9⟩:=yg hxs' (i:=9) dQ;obtain ⟨a0,e0,_⟩:=DataW.trod_int Tryz.underlying3 (z7 (c:=v0) (hf 0 _ rfl) q0 (by show List.take (tp.cellsOf 3) (List.drop 0 _)=_; rw [c3]; rfl));obtain ⟨a1,e1,_⟩:=DataW.trod_int Tryz.underlying3 (z7 (c:=v1) (hf 1 _ rfl) q1 (by show List.take (tp.cellsOf 3) (List.drop 1 _)=_; rw [c3]; rfl));obtain ⟨a2,e2,_⟩:=DataW.trod_int Tryz.underlying3 (z7 (c:=v2) (hf 2 _ rfl) q2 (by show List.take (tp.cellsOf 3) (List.drop 2 _)=_; rw [c3]; rfl));obtain ⟨a3,e3⟩:=zhm _ _ _ (zaE (l':=[v3,v4]) (hf 3 _ rfl) q3 (by show List.take (tp.cellsOf 23) (List.drop 3 _)=_; rw [c23]; rfl));obtain ⟨a4,b4,cap4,e4,l4,r4⟩:=wF (vals:=(fun n:Int=>[Value.int .i64 n])) (c:=1) Tryz.underlying61 (by kernel_rfl) dQ zlw (z7 (c:=v5) (hf 4 _ rfl) q4 (by show List.take (tp.cellsOf 61) (List.drop 5 _)=_; rw [c61]; rfl));obtain ⟨a5,e5⟩:=zcn _ _ _ (zaE (l':=[v6,v7]) (hf 5 _ rfl) q5 (by show List.take (tp.cellsOf 69) (List.drop 6 _)=_; rw [c69]; rfl));obtain ⟨a6,e6⟩:=zcn _ _ _ (zaE (l':=[v8,v9]) (hf 6 _ rfl) q6 (by show List.take (tp.cellsOf 69) (List.drop 8 _)=_; rw [c69]; rfl));obtain ⟨a7,b7,cap7,e7,l7,r7⟩:=wF (vals:=sunV) (c:=2) Tryz.underlying70 (by kernel_rfl) dQ zlx (z7 (c:=v10) (hf 7 _ rfl) q7 (by show List.take (tp.cellsOf 70) (List.drop 10 _)=_; rw [c70]; rfl));obtain ⟨a8,b8,cap8,e8,l8,r8⟩:=wF (vals:=eyeV) (c:=2) Tryz.underlying71 (by kernel_rfl) dQ zlv (z7 (c:=v11) (hf 8 _ rfl) q8 (by show List.take (tp.cellsOf 71) (List.drop 11 _)=_; rw [c71]; rfl));obtain ⟨a9,b9,cap9,e9,l9,r9⟩:=wF (vals:=watV) (c:=3) Tryz.underlying72 (by kernel_rfl) dQ zgK (z7 (c:=v12) (hf 9 _ rfl) q9 (by show List.take (tp.cellsOf 72) (List.drop 12 _)=_; rw [c72]; rfl));cases e0; cases e1; cases e2; cases e3; cases e4; cases e5; cases e6; cases e7; cases e8; cases e9;refine ⟨⟨a0,a1,a2,a3.1,a3.2,a4,a5.1,a5.2,a6.1,a6.2,a7,a8,a9⟩,_,_,_,_,?_,⟨b4,cap4,rfl,l4,r4⟩,⟨b7,cap7,rfl,l7,r7⟩,⟨b8,cap8,rfl,l8,r8⟩,⟨b9,cap9,rfl,l9,r9⟩⟩;have:ca.toList=_:=hcs;rw [<- Array.toArray_toList (xs:=ca),this]
end
theorem zkY {H:Type} {enc:TypeId×Value->H} {W:World} {sp:Nat->Bool} {held:Bool} {t:TypeId} {α:Type} {vals:α->List Value} (hdec:∀ (m:Nat) (cs:List Value) (x:DataW H×List MemPlace),DataW.trod enc tp W 0 sp held m t cs=some x->∃ z,cs=vals z) {v:Value} {d:DataW H} {p:List MemPlace} (hv:∃ cs,v=.agg cs) (h:DataW.Trod enc tp W 0 sp held t v d p):∃ z:α,v=.agg (vals z).toArray:=by
 obtain ⟨ca,rfl⟩:=hv;obtain ⟨fuel,h⟩:=h;obtain ⟨z,hz⟩:=hdec _ _ _ h;have hz:ca.toList=vals z:=hz;exact ⟨z,by rw [<- Array.toArray_toList (xs:=ca),hz]⟩
theorem zmm {α:Type} {cf:α->List AV} {vals:α->List Value} {φ:Nat->Loc3} {n:Nat} {z:α} (hl:(cf z).length=(vals z).length) (hr:∀ (jj:Nat) a,(cf z)[jj]? =some a->∃ y,(vals z)[jj]? =some y/\RelV φ n a y):RelV φ n (.agg (cf z)) (.agg (vals z).toArray):=by
 refine .agg (by simpa using hl) fun t u y hu hy=>?_;obtain ⟨y',h1,h2⟩:=hr t u hu;have h3:(vals z)[t]? =some y:=by simpa using hy
 rw [h1] at h3;cases h3;exact h2
theorem zmo {φ:Nat->Loc3} {n:Nat} (z) (jj:Nat) (a:AV) (h:(sunC z)[jj]? =some a):∃ y,(sunV z)[jj]? =some y/\RelV φ n a y:=by
 match jj,h with
 | 0,h=>cases h; exact ⟨_,rfl,.v _⟩
 | 1,h=>cases h; exact ⟨_,rfl,.v _⟩
 | jj+2,h=>simp [sunC] at h
theorem zlE {φ:Nat->Loc3} {n:Nat} (z) (jj:Nat) (a:AV) (h:(eyeC z)[jj]? =some a):∃ y,(eyeV z)[jj]? =some y/\RelV φ n a y:=by
 match jj,h with
 | 0,h=>cases h; exact ⟨_,rfl,.v _⟩
 | 1,h=>cases h; exact ⟨_,rfl,.v _⟩
 | jj+2,h=>simp [eyeC] at h
theorem zg4 {φ:Nat->Loc3} {n:Nat} (z) (jj:Nat) (a:AV) (h:(watC z)[jj]? =some a):∃ y,(watV z)[jj]? =some y/\RelV φ n a y:=by
 match jj,h with
 | 0,h=>cases h; exact ⟨_,rfl,.v _⟩
 | 1,h=>cases h; exact ⟨_,rfl,.v _⟩
 | 2,h=>cases h; exact ⟨_,rfl,.v _⟩
 | jj+3,h=>simp [watC] at h
end Go.Vel
end
