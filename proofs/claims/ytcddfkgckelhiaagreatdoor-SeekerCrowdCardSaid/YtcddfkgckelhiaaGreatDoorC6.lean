/- Texts for the statements of chapter 9: what all of them need, part 7. It holds of every program, tape and world that the statements name, as each theorem says. -/
import Derived.Test.YtcddfkgckelhiaaGreatDoorC3
import Derived.Test.YtcddfkgckelhiaaGreatDoorC4
import Derived.Test.YtcddfkgckelhiaaGreatDoorC5
section
set_option linter.all false
set_option maxRecDepth 20000
set_option maxHeartbeats 60000000
open Go.Proofs.Tryz renaming prog -> tp
open List renaming getElem?_eq_getElem -> lA, nil_append -> lC, getElem?_eq_some_iff -> lD, getD_eq_getElem?_getD -> lE, length_append -> lF, perm_append_comm -> lH, length_map -> lJ, eq_nil_of_length_eq_zero -> lK, mem_cons_of_mem -> lL, map_append -> lM, mem_of_getElem? -> lN, append_nil -> lR, mem_singleton -> lS, mem_append -> lT, take_length -> lW, mem_map -> lY, length_cons -> lZ
open List.Mem renaming head -> mC
open Nat renaming le_refl -> mL, zero_le -> mN, zero_add -> mO, eq_zero_or_pos -> mP, le_trans -> mT
open Int renaming toNat_natCast -> mZ
open Go.Vel.TK renaming maskL -> bA, rt -> bB, kp -> bC, cl -> bD, loopN -> bE, sp -> bF, a -> bH, newR -> bI, dq -> bL, dr -> bM, perm -> bN
open Go.Vel.TD renaming cl -> bQ, s -> bR, norm -> bS, y -> bT, z -> bU, sp -> bW, cnewP -> bX
namespace Go.Vel
open Go Go.Conc Go.Proofs
def stairC (x:StR):List AV:=[intA x.holds,intA x.way,zm x.gate]
def grpC (x:GrR):List AV:=[.v (.string x.name),intA x.many]
def stbC (b:StB) (s g:Nat):List AV:=[intA b.platform,zm b.keeper,.sl s 0 b.stairs.length,.sl g 0 b.groups.length]
abbrev stO (b:StB):AObj:=.cells (b.stairs.flatMap stairC) 203 false
abbrev grO (b:StB):AObj:=.cells (b.groups.flatMap grpC) 125 false
def badStM (x:StR):Bool := !(decide (1<=x.holds)&&decide (x.holds<=99))||(decide (x.way<0)||decide (x.way>2))
structure StOk (b:StB):Prop where
 plat:1<=b.platform/\b.platform<=99
 nst:1<=b.stairs.length/\b.stairs.length<=2
 sts:∀ x∈b.stairs,1<=x.holds/\x.holds<=99/\0<=x.way/\x.way<=2
 ngr:1<=b.groups.length/\b.groups.length<=4
 nam:∀ x∈b.groups,isNameM x.name=true
 two:b.groups.Pairwise fun x y=>x.name.toList≠y.name.toList
 man:∀ x∈b.groups,1<=x.many/\x.many<=20
theorem zf9 {α:Type} (f:α->List AV) (c:Nat) (hc:∀ x,(f x).length=c):∀ (xs:List α) (i:Nat) (h:i<xs.length),((xs.flatMap f).drop (i*c)).take c=f xs[i]
 | x::xs,0,_=>by
  rw [Nat.zero_mul,List.drop_zero,List.flatMap_cons,List.take_left' (hc x)]; rfl
 | x::xs,i+1,h=>by
  rw [List.flatMap_cons,Nat.succ_mul,Nat.add_comm,<- List.drop_drop,List.drop_left' (hc x)];exact zf9 f c hc xs i (by simpa using h)
theorem fl_at {α:Type} {f:α->List AV} {c:Nat} (hc:∀ x,(f x).length=c) {xs:List α} {x:α} {i:Nat} {n:Int} {e:TypeId} {rw':Bool} (h:xs[i]? =some x) (hn:n=(i:Int)) (h0:0<c):z8 (.cells (xs.flatMap f) e rw') (0+n.toNat*c) c=some (f x):=by
 subst hn;obtain ⟨h1,h2⟩:=lD.1 h;have hle:(i+1)*c<=xs.length*c:=Nat.mul_le_mul_right _ h1;have:(i+1)*c=i*c+c:=Nat.succ_mul ..;simp only [z8,AObj.look,mZ,mO];rw [if_pos ⟨by omega,by rw [yr f c hc]; omega⟩,zf9 f c hc _ _ h1,h2]
theorem st_at {b:StB} {i:Nat} {n:Int} {e:TypeId} {rw':Bool} {x:StR} (h:b.stairs[i]? =some x) (hn:n=(i:Int)):z8 (.cells (b.stairs.flatMap stairC) e rw') (0+n.toNat*3) 3=some (stairC x):=fl_at (c:=3) (fun _=>rfl) h hn dQ
theorem gr_at {b:StB} {i:Nat} {n:Int} {e:TypeId} {rw':Bool} {x:GrR} (h:b.groups[i]? =some x) (hn:n=(i:Int)):z8 (.cells (b.groups.flatMap grpC) e rw') (0+n.toNat*2) 2=some (grpC x):=fl_at (c:=2) (fun _=>rfl) h hn dQ
def StsAt (ob:AObj) (off:Nat) (xs:List StR):Prop:=∀ (i:Nat) (h:i<xs.length),z8 ob (off+(i:Int).toNat*3) 3=some (stairC xs[i])
def GrsAt (ob:AObj) (off:Nat) (xs:List GrR):Prop:=∀ (i:Nat) (h:i<xs.length),z8 ob (off+(i:Int).toNat*2) 2=some (grpC xs[i])
theorem zlW (b:StB):StsAt (stO b) 0 b.stairs:=fun i h=>st_at (lA h) rfl
theorem zjq (b:StB) (i:Nat):GrsAt (grO b) 0 (b.groups.take i):=fun k h=>by
 rw [List.length_take] at h;rw [List.getElem_take];exact gr_at (lA oQ) rfl
theorem uE {α:Type} {xs:List α} {p:α->Bool} {i:Nat} (h:i<xs.length) (hn:(xs.take i).any p=false) (he:p xs[i]=false):(xs.take (i+1)).any p=false:=by
 rw [List.take_add_one,lA h,List.any_append,hn];simp [he]
theorem zgy {s:ByteArray} {n i:Nat} {c:UInt8} (h:bytesOk s n=true) (hi:i<n) (hc:s.data[i]? =some c):byteOk i c.toNat=true:=by
 unfold bytesOk at h;have:=List.all_eq_true.1 h i (List.mem_range.2 hi);simpa [hc] using this
theorem zlX {b:StB} {g i:Nat} (h:i<=b.groups.length):subA g 0 2 0 ((i:Int).toNat)=.sl g 0 (b.groups.take i).length:=by
 rw [List.length_take,Nat.min_eq_left h];rfl
theorem zkt {b:StB} (hb:StOk b) {i:Nat} {x:GrR} (hx:b.groups[i]? =some x):((b.groups.take i).any fun o=>o.name.toList==x.name.toList)=false:=by
 rw [List.any_eq_false];intro o ho;obtain ⟨k,hk,rfl⟩:=List.getElem_of_mem ho;rw [List.length_take] at hk;obtain ⟨h1,h2⟩:=lD.1 hx;have:=List.pairwise_iff_getElem.1 hb.two k i oQ h1 oQ;rw [List.getElem_take];rw [h2] at this;simpa using this
def stChecksG:AObj:=.cells [.fn 294 [] [],.fn 295 [] [],.fn 298 [] []] 319 false
instance:ArEl tp 320 3 319 true 1:={}
instance:BlOf tp 117 [(0,4)]:={}
instance:Cal tp 182:={}
instance:Cal tp 294:={}
instance:Cal tp 295:={}
instance:Cal tp 296:={}
instance:Cal tp 297:={}
instance:Cal tp 298:={}
instance:Cal tp 299:={}
instance:Cal tp 300:={}
instance:Cal tp 301:={}
instance:Cal tp 302:={}
instance:Cal tp 303:={}
instance:zu tp 117 0 0 true 4:={}
instance:zu tp 125 0 0 false 1:={}
instance:zu tp 125 1 1 false 1:={}
instance:zu tp 203 0 0 false 1:={}
instance:zu tp 203 1 1 false 1:={}
instance:zu tp 31 0 0 false 1:={}
instance:zu tp 31 2 2 false 1:={}
instance:zu tp 31 3 3 false 1:={}
instance:zu tp 319 0 0 false 1:={}
instance:SlEl tp 28 203 3:={}
instance:SlEl tp 29 125 2:={}
instance:zd tp 120 false 1:={}
instance:zd tp 125 true 2:={}
instance:zd tp 201 false 1:={}
instance:zd tp 203 true 3:={}
instance:zd tp 28 false 1:={}
instance:zd tp 29 false 1:={}
instance:zd tp 31 true 4:={}
instance:zd tp 319 true 1:={}
instance:zd tp 320 true 3:={}
instance:TyZ tp 117 [.int .i64 0,.bool false,.slice none 0 0,.slice none 0 0]:={}
instance:TyZA tp 125 [.v (.string ⟨#[]⟩),.v (.int .i64 0)]:={}
instance:TyZA tp 319 [.v (.nilFunc)]:={}
instance:Und tp 28 (.slice 203):={}
instance:Und tp 29 (.slice 125):={}
theorem yT {main T} (hT:zk tp main T) {gm} {n lo hi:Int} :
  zh tp T gm 182 [intA n,intA lo,intA hi] [] (fun r K'=>r=zm (decide (lo<=n)&&decide (n<=hi))/\K'=[]):=by
 refine ze 15 hT Tryz.func182 fun Y hret=>?_;refine au 1711423542 ?_;refine bF 10 (fun g1_4=>?_) (fun g1_4=>?_)
 ·refine au 35260711 ?_;refine TK.rta hret ?_;exact ⟨by simp [zm,g1_4],rfl⟩
 refine au 35250888 ?_;refine TK.rta hret ?_;exact ⟨by simp [zm,g1_4],rfl⟩
theorem ziL {main T} (hT:zk tp main T) {gm} {s:ByteArray} (hn:isNameM s=true) :
  zh tp T gm 299 [.v (.string s)] [] (fun r K'=>r=zm true/\K'=[]):=by
 refine ze 31 hT Tryz.func299 fun Y hret=>?_;refine au 0 ?_;obtain ⟨hby,hsz⟩:=Bool.and_eq_true_iff.1 (show (bytesOk s s.size&&(decide (1<=(s.size:Int))&&decide ((s.size:Int)<=12)))=true from hn);have hsz2:1<=s.size/\s.size<=12:=by simp at hsz; omega
 refine au 14223542 ?_;refine TK.newS Z Z Z (zdI Z Z Und.h Und.h Und.h oQ) (fun _=>zz rfl tQ) fun jt hjt=>?_;refine au 13031280 ?_;refine bA [0,6,7,8] ?_;refine bE (fun n env K=>∃ (i:Nat),n=s.size - i/\i<=s.size/\env=zW 31 [(0,.v (.string s)),(6,.sl jt 0 s.size),(7,intA s.size),(8,intA i)]/\K=[(jt,.cells (s.data.toList.map byteA) 5 false)]) s.size ⟨0,rfl,mN _,rfl,rfl⟩ fun n env K hI hnext=>?_;obtain ⟨i,rfl,hi,rfl,rfl⟩:=hI;refine au 923742 ?_;refine ⟨fun hc=>?_,fun hc=>?_⟩
 ·simp only [decide_eq_true_eq] at hc;have hil:i<s.data.size:=by have:s.data.size=s.size:=rfl; omega
  obtain ⟨cb,hcb⟩:∃ cb,s.data[i]? =some cb:=⟨_,Array.getElem?_eq_getElem hil⟩;have hbo:=zgy hby (i:=i) hil hcb;refine au 3601421302120 ?_;refine bH Z (zl Z Z zd.h mQ (zcb hcb)) ?_;refine au 142355 ?_;refine bH Z (ku Z Z Und.h Und.h (zbf _)) ?_;refine bD Z Z Z Z (yT hT) ?_;rintro r1 K2 ⟨rfl,rfl⟩;refine au 1300 ?_;refine bF 17 (fun g4_5=>?_) (fun g4_5=>?_)
  ·refine au 171 ?_;refine bF 20 (fun g4_8=>?_) (fun g4_8=>?_)
   ·refine au 354218032602608888 ?_;refine bB hret [] ?_;exact absurd hbo (by rw [zav g4_5 g4_8]; decide)
   refine au 1 ?_;refine bH Z (ku Z Z Und.h Und.h (zbf _)) ?_;refine bD Z Z Z Z (yT hT) ?_;rintro r4 K5 ⟨rfl,rfl⟩;refine au 93260250300 ?_;constructor<;>intro hc1
   ·exact absurd hbo (by rw [ur g4_5 g4_8,not_f hc1]; decide)
   refine au 312304140120 ?_;refine bA [0,6,7,8] ?_;refine bC [(jt,_)] ?_;exact hnext _ _ _ oQ ⟨i+1,rfl,oQ,rfl,rfl⟩
  refine au 312304140120190325088888888 ?_;refine bA [0,6,7,8] ?_;refine bC [(jt,_)] ?_;exact hnext _ _ _ oQ ⟨i+1,rfl,oQ,rfl,rfl⟩
 simp only [decide_eq_false_iff_not] at hc;obtain rfl:i=s.size:=by omega
 refine au 290142160 ?_;refine bD Z Z Z Z (yT hT) ?_;rintro r7 K8 ⟨rfl,rfl⟩;refine au 35 ?_;refine bB hret [] ?_;exact ⟨by rw [hsz],rfl⟩
theorem zgQ {main T} (hT:zk tp main T) {gm} {j off:Nat} {ob:AObj} {xs:List StR} {p:StR->Bool} {g:FuncId} {cp:List AV} {Kc:KV} (hg:yg tp g=true) (hp:∀ x∈xs,zh tp T gm g ([.agg (stairC x)]++cp) Kc (fun r K'=>r=zm (p x)/\K'=Kc)) (hI:StsAt ob off xs) (hl:xs.length<=1000) :
  zh tp T gm 302 [.sl j off xs.length,.fn g [] cp] ((j,ob)::Kc) (fun r K'=>(∃ n:Int,r=intA n/\decide (n>=0)=xs.any p)/\K'=(j,ob)::Kc):=by
 refine ze 19 hT Tryz.func302 fun Y hret=>?_;refine au 1303128014223542 ?_;refine bA [0,1,7,8] ?_;refine bE (fun n env K=>∃ (i:Nat),n=xs.length - i/\i<=xs.length/\(xs.take i).any p=false/\env=zW 19 [(0,.sl j off xs.length),(1,.fn g [] cp),(7,intA xs.length),(8,intA i)]/\K=(j,ob)::Kc) xs.length ⟨0,rfl,mN _,by simp,rfl,rfl⟩ fun n env K hI' hnext=>?_;obtain ⟨i,rfl,hi,hn,rfl,rfl⟩:=hI';refine au 923742 ?_;refine ⟨fun hc=>?_,fun hc=>?_⟩
 ·simp only [decide_eq_true_eq] at hc;have hil:i<xs.length:=by omega
  refine au 36011142351421302120 ?_;refine bH Z (zD Z Z zd.h mQ (hI i hil)) ?_;refine bD Z Z Z Z (hp xs[i] (List.getElem_mem _)) ?_ (hs:=(.right (.all _))) (hg:=hg);rintro r1 K2 ⟨rfl,hK⟩;refine au 0 ?_;rw [hK];refine bN (K':=(j,ob)::Kc) (List.perm_append_singleton _ _) ?_;refine au 93 ?_;constructor<;>intro hc1
  ·refine au 35142 ?_;refine TK.rta hret ?_;exact ⟨⟨i,rfl,by rw [decide_eq_true (Int.natCast_nonneg i),List.any_eq_true.2 ⟨xs[i],List.getElem_mem _,hc1⟩]⟩,rfl⟩
  refine au 312304140120 ?_;refine bA [0,1,7,8] ?_;exact hnext _ _ _ oQ ⟨i+1,rfl,oQ,uE hil hn hc1,rfl,rfl⟩
 simp only [decide_eq_false_iff_not] at hc;obtain rfl:i=xs.length:=by omega
 refine au 3542160 ?_;refine TK.rta hret ?_;rw [lW] at hn;exact ⟨⟨-1,rfl,by rw [hn]; rfl⟩,rfl⟩
theorem zea {main T} (hT:zk tp main T) {gm} {j off:Nat} {ob:AObj} {xs:List StR} {p:StR->Bool} {g:FuncId} {cp:List AV} {Kc:KV} (hg:yg tp g=true) (hp:∀ x∈xs,zh tp T gm g ([.agg (stairC x)]++cp) Kc (fun r K'=>r=zm (p x)/\K'=Kc)) (hI:StsAt ob off xs) (hl:xs.length<=1000) :
  zh tp T gm 296 [.sl j off xs.length,.fn g [] cp] ((j,ob)::Kc) (fun r K'=>r=zm (xs.any p)/\K'=(j,ob)::Kc):=by
 refine ze 9 hT Tryz.func296 fun Y hret=>?_;refine au 11423542 ?_;refine bD Z Z Z Z (zgQ hT hg hp hI hl) ?_ (hs:=(.all _));rintro r1 K2 ⟨⟨m,rfl,hm⟩,hK⟩;refine au 0 ?_;rw [hK,lR];refine au 357 ?_;refine TK.rta hret ?_;exact ⟨by rw [<- hm]; rfl,rfl⟩
theorem zgP {main T} (hT:zk tp main T) {gm} {j off:Nat} {ob:AObj} {xs:List GrR} {p:GrR->Bool} {g:FuncId} {cp:List AV} {Kc:KV} (hg:yg tp g=true) (hp:∀ x∈xs,zh tp T gm g ([.agg (grpC x)]++cp) Kc (fun r K'=>r=zm (p x)/\K'=Kc)) (hI:GrsAt ob off xs) (hl:xs.length<=1000) :
  zh tp T gm 303 [.sl j off xs.length,.fn g [] cp] ((j,ob)::Kc) (fun r K'=>(∃ n:Int,r=intA n/\decide (n>=0)=xs.any p)/\K'=(j,ob)::Kc):=by
 refine ze 19 hT Tryz.func303 fun Y hret=>?_;refine au 1303128014223542 ?_;refine bA [0,1,7,8] ?_;refine bE (fun n env K=>∃ (i:Nat),n=xs.length - i/\i<=xs.length/\(xs.take i).any p=false/\env=zW 19 [(0,.sl j off xs.length),(1,.fn g [] cp),(7,intA xs.length),(8,intA i)]/\K=(j,ob)::Kc) xs.length ⟨0,rfl,mN _,by simp,rfl,rfl⟩ fun n env K hI' hnext=>?_;obtain ⟨i,rfl,hi,hn,rfl,rfl⟩:=hI';refine au 923742 ?_;refine ⟨fun hc=>?_,fun hc=>?_⟩
 ·simp only [decide_eq_true_eq] at hc;have hil:i<xs.length:=by omega
  refine au 36011142351421302120 ?_;refine bH Z (zD Z Z zd.h mQ (hI i hil)) ?_;refine bD Z Z Z Z (hp xs[i] (List.getElem_mem _)) ?_ (hs:=(.right (.all _))) (hg:=hg);rintro r1 K2 ⟨rfl,hK⟩;refine au 0 ?_;rw [hK];refine bN (K':=(j,ob)::Kc) (List.perm_append_singleton _ _) ?_;refine au 93 ?_;constructor<;>intro hc1
  ·refine au 35142 ?_;refine TK.rta hret ?_;exact ⟨⟨i,rfl,by rw [decide_eq_true (Int.natCast_nonneg i),List.any_eq_true.2 ⟨xs[i],List.getElem_mem _,hc1⟩]⟩,rfl⟩
  refine au 312304140120 ?_;refine bA [0,1,7,8] ?_;exact hnext _ _ _ oQ ⟨i+1,rfl,oQ,uE hil hn hc1,rfl,rfl⟩
 simp only [decide_eq_false_iff_not] at hc;obtain rfl:i=xs.length:=by omega
 refine au 3542160 ?_;refine TK.rta hret ?_;rw [lW] at hn;exact ⟨⟨-1,rfl,by rw [hn]; rfl⟩,rfl⟩
theorem zd9 {main T} (hT:zk tp main T) {gm} {j off:Nat} {ob:AObj} {xs:List GrR} {p:GrR->Bool} {g:FuncId} {cp:List AV} {Kc:KV} (hg:yg tp g=true) (hp:∀ x∈xs,zh tp T gm g ([.agg (grpC x)]++cp) Kc (fun r K'=>r=zm (p x)/\K'=Kc)) (hI:GrsAt ob off xs) (hl:xs.length<=1000) :
  zh tp T gm 300 [.sl j off xs.length,.fn g [] cp] ((j,ob)::Kc) (fun r K'=>r=zm (xs.any p)/\K'=(j,ob)::Kc):=by
 refine ze 9 hT Tryz.func300 fun Y hret=>?_;refine au 11423542 ?_;refine bD Z Z Z Z (zgP hT hg hp hI hl) ?_ (hs:=(.all _));rintro r1 K2 ⟨⟨m,rfl,hm⟩,hK⟩;refine au 0 ?_;rw [hK,lR];refine au 357 ?_;refine TK.rta hret ?_;exact ⟨by rw [<- hm]; rfl,rfl⟩
theorem zfS {main T} (hT:zk tp main T) {gm} {b:StB} {s g:Nat} (hb:StOk b) :
  zh tp T gm 294 [.agg (stbC b s g)] [] (fun r K'=>r=intA 0/\K'=[]):=by
 refine ze 8 hT Tryz.func294 fun Y hret=>?_;refine au 21042 ?_;intro jb hjb;refine au 69067067042235 ?_;refine bD Z Z Z Z (yT hT) ?_;rintro r1 K2 ⟨rfl,rfl⟩;refine au 93300 ?_;constructor<;>intro hc0
 ·have:=hb.plat; simp at hc0; omega
 refine au 3542120 ?_;refine bB hret [] ?_;exact ⟨rfl,rfl⟩
theorem zfl {main T} (hT:zk tp main T) {gm} {x:StR} :
  zh tp T gm 297 [.agg (stairC x)] [] (fun r K'=>r=zm (badStM x)/\K'=[]):=by
 refine ze 17 hT Tryz.func297 fun Y hret=>?_;refine au 21042 ?_;intro jx hjx;refine au 6906704235 ?_;refine bD Z Z Z Z (yT hT) ?_;rintro r1 K2 ⟨rfl,rfl⟩;refine au 1300 ?_;refine bF 7 (fun g1_5=>?_) (fun g1_5=>?_)
 ·refine au 352608881260888 ?_;refine bB hret [] ?_;exact ⟨by unfold badStM; simp [zm, *],rfl⟩
 refine au 12507690670 ?_;refine bF 12 (fun g1_10=>?_) (fun g1_10=>?_)
 ·refine au 35260888 ?_;refine bB hret [] ?_;exact ⟨by unfold badStM; simp [zm, *],rfl⟩
 refine au 352507690670 ?_;refine bB hret [] ?_;exact ⟨by unfold badStM; simp [zm, *],rfl⟩
theorem zfT {main T} (hT:zk tp main T) {gm} {b:StB} {s g:Nat} (hb:StOk b) :
  zh tp T gm 295 [.agg (stbC b s g)] [(s,stO b)] (fun r K'=>r=intA 0/\K'=[(s,stO b)]):=by
 refine ze 13 hT Tryz.func295 fun Y hret=>?_;refine au 0 ?_;have hns:=hb.nst;refine au 21042 ?_;intro jb hjb;refine au 28069067067042235 ?_;refine bD Z Z Z Z (yT hT) ?_;rintro r1 K2 ⟨rfl,rfl⟩;refine au 93300 ?_;constructor<;>intro hc0
 ·simp at hc0; omega
 refine au 690670670422120 ?_;refine bD Z Z Z Z (zea hT (cp:=[]) (Kc:=[]) (p:=badStM) Cal.h (fun x _=>zfl hT) (zlW b) oQ) ?_;rintro r4 K5 ⟨rfl,rfl⟩;refine au 93 ?_;constructor<;>intro hc1
 ·rw [List.any_eq_true] at hc1; obtain ⟨x,hx,hc1⟩:=hc1; have:=hb.sts x hx; unfold badStM at hc1; simp at hc1; omega
 refine au 3542120 ?_;refine bB hret [(s,_)] ?_;exact ⟨rfl,rfl⟩
theorem zfm {main T} (hT:zk tp main T) {gm} {x y:GrR} {jy:Nat} {e:TypeId} :
  zh tp T gm 301 [.agg (grpC x),.ptr jy 0] [(jy,.cells (grpC y) e true)] (fun r K'=>r=zm (x.name.toList==y.name.toList)/\K'=[(jy,.cells (grpC y) e true)]):=by
 refine ze 9 hT Tryz.func301 fun Y hret=>?_;refine au 21042 ?_;intro j1 hj1;refine au 353306906706906704235 ?_;refine bB hret [(jy,_)] ?_;exact ⟨rfl,rfl⟩
theorem zfU {main T} (hT:zk tp main T) {gm} {b:StB} {s g:Nat} (hb:StOk b) :
  zh tp T gm 298 [.agg (stbC b s g)] [(g,grO b)] (fun r K'=>r=intA 0/\K'=[(g,grO b)]):=by
 refine ze 39 hT Tryz.func298 fun Y hret=>?_;refine au 0 ?_;have hng:=hb.ngr;refine au 21042 ?_;intro jb hjb;refine au 28069067067042235 ?_;refine bD Z Z Z Z (yT hT) ?_;rintro r1 K2 ⟨rfl,rfl⟩;refine au 93300 ?_;constructor<;>intro hc0
 ·simp at hc0; omega
 refine au 13031280690670670422120 ?_;refine bA [1,13,14,15] ?_;refine bE (fun n env K=>∃ (i:Nat),n=b.groups.length - i/\i<=b.groups.length/\env=zW 39 [(1,.ptr jb 0),(13,.sl g 0 b.groups.length),(14,intA b.groups.length),(15,intA i)]/\K=[(jb,.cells (stbC b s g) 117 true),(g,grO b)]) b.groups.length ⟨0,rfl,mN _,rfl,rfl⟩ fun n env K hI hnext=>?_;obtain ⟨i,rfl,hi,rfl,rfl⟩:=hI;refine au 923742 ?_;constructor<;>intro hc1
 ·have hil:i<b.groups.length:=by simp at hc1; omega
  obtain ⟨x,hx⟩:∃ x,b.groups[i]? =some x:=⟨_,lA hil⟩;have hxm:=lN hx;refine au 3601421302120 ?_;refine bH Z (zD Z Z zd.h mQ (gr_at (i:=i) hx Z)) ?_;refine au 220 ?_;intro jx hjx;refine au 6906704213031705 ?_;refine bD Z Z Z Z (ziL hT (hb.nam x hxm)) ?_;rintro r4 K5 ⟨rfl,rfl⟩;refine au 935300 ?_;constructor<;>intro hc2
  ·exact absurd hc2 dQ
  refine au 169067067042 ?_;refine bH Z (zdR Z Z SlEl.h Z Z oQ oQ (zlX (b:=b) hi)) ?_;refine au 320 ?_;refine bD Z Z Z Z (zd9 hT (cp:=[.ptr jx 0]) (Kc:=[(jx,.cells (grpC x) 125 true)]) (p:=fun o=>o.name.toList==x.name.toList) Cal.h (fun y _=>zfm hT) (zjq b i) (by rw [List.length_take]; omega)) ?_;rintro r7 K8 ⟨rfl,rfl⟩;refine au 0 ?_;rw [zkt hb hx];refine au 935 ?_;constructor<;>intro hc3
  ·exact absurd hc3 dQ
  refine au 69067042 ?_;refine bD Z Z Z Z (yT hT) ?_;rintro r10 K11 ⟨rfl,rfl⟩;refine au 935300 ?_;constructor<;>intro hc4
  ·have:=hb.man x hxm; simp at hc4; omega
  refine au 312304140140120 ?_;refine bA [1,13,14,15] ?_;refine bC [(jb,_),(g,_)] ?_;exact hnext _ _ _ oQ ⟨i+1,rfl,oQ,rfl,rfl⟩
 obtain rfl:i=b.groups.length:=by simp at hc1; omega
 refine au 3542160 ?_;refine bB hret [(g,_)] ?_;exact ⟨rfl,rfl⟩
theorem uJ {main:Bool} {T:Goroutine->Hp->Prop} (hT:zk tp main T)  {b:StB} {s g:Nat} (hb:StOk b) :
  zh tp T gmS 131 [.agg (stbC b s g)] [(2,stChecksG),(s,stO b),(g,grO b)] (fun r K'=>r=intA 0/\K'=[(2,stChecksG),(s,stO b),(g,grO b)]):=by
 refine ze 19 hT Tryz.func131 fun Y hret=>?_;refine au 21042 ?_;intro jb hjb;refine au 1303168042235 ?_;refine TK.loop ?_;refine au 923742 ?_;refine ⟨fun k0=>?_,fun k0=>?_⟩
 ·
  refine au 421302120 ?_;refine bH Z (vN Z Z Z ArEl.h oQ oQ Z) ?_;refine au 220 ?_;intro j1 hj1;refine au 410680690670423170 ?_;refine bD Z Z Z Z (zfS hT (s:=s) (g:=g) hb) ?_;rintro r2 K3 ⟨rfl,rfl⟩;refine au 93714235 ?_;refine ⟨fun k1=>?_,fun k1=>?_⟩
  ·exact absurd k1 dQ
  refine au 312304140120 ?_;refine TK.inLoop ?_;refine au 923742 ?_;refine ⟨fun k0=>?_,fun k0=>?_⟩
  ·
   refine au 421302120 ?_;refine bH Z (vN Z Z Z ArEl.h oQ oQ Z) ?_;refine au 220 ?_;intro j5 hj5;refine au 410680690670423170 ?_;refine bD Z Z Z Z (zfT hT (s:=s) (g:=g) hb) ?_;rintro r6 K7 ⟨rfl,rfl⟩;refine au 93714235 ?_;refine ⟨fun k1=>?_,fun k1=>?_⟩
   ·exact absurd k1 dQ
   refine au 312304140120 ?_;refine TK.inLoop ?_;refine au 923742 ?_;refine ⟨fun k0=>?_,fun k0=>?_⟩
   ·
    refine au 421302120 ?_;refine bH Z (vN Z Z Z ArEl.h oQ oQ Z) ?_;refine au 220 ?_;intro j9 hj9;refine au 410680690670423170 ?_;refine bD Z Z Z Z (zfU hT (s:=s) (g:=g) hb) ?_;rintro r10 K11 ⟨rfl,rfl⟩;refine au 93714235 ?_;refine ⟨fun k1=>?_,fun k1=>?_⟩
    ·exact absurd k1 dQ
    refine au 312304140120 ?_;refine TK.inLoop ?_;refine au 923742 ?_;refine ⟨fun k0=>?_,fun k0=>?_⟩
    ·exact absurd k0 dQ
    refine au 3542160 ?_;refine bB hret [(2,_),(s,_),(g,_)] ?_;exact ⟨rfl,rfl⟩
   exact absurd k0 dQ
  exact absurd k0 dQ
 exact absurd k0 dQ
def onA (a:StA):Bool:=(a.stage==1)||(a.stage==3)
theorem kA {b:StB} {i:Nat} (h:i<b.groups.length):b.groups[i]? =some (grp b i):=by
 unfold grp;rw [lE,lA h]; rfl
theorem str_get' {b:StB} {i:Nat} (h:i<b.stairs.length):b.stairs[i]? =some (str b i):=by
 unfold str;rw [lE,lA h]; rfl
theorem kW {b:StB} (hb:StOk b) {i:Nat} (h:i<b.groups.length):1<=(grp b i).many/\(grp b i).many<=20:=hb.man _ (lN (kA h))
theorem vw {b:StB} (hb:StOk b) {i:Nat} (h:i<b.stairs.length):1<=(str b i).holds/\(str b i).holds<=99/\0<=(str b i).way/\(str b i).way<=2:=hb.sts _ (lN (str_get' h))
theorem zbb {b:StB} (hb:StOk b) (s:List StA) (p:StA->Bool):∀ n,n<=b.groups.length->0<=sumZ (manyI b s p) n/\sumZ (manyI b s p) n<=20*n
 | 0,_=>⟨Int.le_refl _,Int.le_refl _⟩
 | n+1,h=>by
  have h1:=zbb hb s p n oQ;have h2:=kW hb (i:=n) oQ;have h3:0<=manyI b s p n/\manyI b s p n<=20:=by
   unfold manyI;split <;> omega
  show 0<=sumZ _ n+manyI b s p n/\sumZ _ n+manyI b s p n<=_;omega
theorem at_bd {b:StB} (hb:StOk b) (s:List StA) (t:Int):0<=atS b s t/\atS b s t<=80:=by
 have h1:=zbb hb s (fun a=>decide (a.stage=t)) _ (mL _);have h2:=hb.ngr;unfold atS sumS;omega
theorem on_bd {b:StB} (hb:StOk b) (s:List StA) (t k:Int):0<=onS b s t k/\onS b s t k<=80:=by
 have h1:=zbb hb s (fun a=>decide (a=⟨t,k⟩)) _ (mL _);have h2:=hb.ngr;unfold onS sumS;omega
theorem sp_at {s:List StA} {i p:Nat} (h:i<4) {e:TypeId} {rw':Bool} (hp:p=i*2):z8 (.cells (spC s) e rw') p 2=some (atC (atI s i)):=by
 subst hp;have:i=0\/i=1\/i=2\/i=3:=by omega
 rcases this with rfl | rfl | rfl | rfl <;> rfl
theorem uI {s:List StA} {i p:Nat} (h:i<4) {e:TypeId} {rw':Bool} (hp:p=i*2):z8 (.cells (spC s) e rw') p 1=some [intA (atI s i).stage]:=by
 subst hp;have:i=0\/i=1\/i=2\/i=3:=by omega
 rcases this with rfl | rfl | rfl | rfl <;> rfl
theorem ziJ {s:List StA} {i p:Nat} (h:i<4) {e:TypeId} {rw':Bool} (hp:p=i*2+1):z8 (.cells (spC s) e rw') p 1=some [intA (atI s i).stair]:=by
 subst hp;have:i=0\/i=1\/i=2\/i=3:=by omega
 rcases this with rfl | rfl | rfl | rfl <;> rfl
theorem ziI {s:List StA} (hs:s.length=4) {i p:Nat} (h:i<4) {e:TypeId} (hp:p=i*2) (a:StA):putO (.cells (spC s) e true) p [intA a.stage,intA a.stair]=some (.cells (spC (s.set i a)) e true):=by
 subst hp
 match s,hs with
 | [p,q,r,t],_ =>
  have:i=0\/i=1\/i=2\/i=3:=by omega
  rcases this with rfl | rfl | rfl | rfl <;> rfl
theorem zeH {b:StB} {i:Nat} (h:i<b.groups.length) {n:Int} {e:TypeId} {rw':Bool} (hn:n=(i:Int)):z8 (.cells (b.groups.flatMap grpC) e rw') (0+n.toNat*2+1) 1=some [intA (grp b i).many]:=wc (c:=1) (gr_at (kA h) hn) dQ rfl
theorem zku (a:StA) (t k:Int):([a.stage==t,a.stair==k].all id)=decide (a=⟨t,k⟩):=by
 obtain ⟨x,y⟩:=a;by_cases h1:x=t <;> by_cases h2:y=k <;> simp [h1,h2]
def allowsG:AObj:=.cells [.fn 313 [] [],.fn 314 [] [],.fn 315 [] [],.fn 316 [] []] 355 false
instance:ArEl tp 133 4 131 true 2:={}
instance:ArEl tp 356 4 355 false 1:={}
instance:BlOf tp 131 [(0,1),(1,1)]:={}
instance:Cal tp 132:={}
instance:Cal tp 135:={}
instance:Cal tp 183:={}
instance:Cal tp 184:={}
instance:Cal tp 187:={}
instance:Cal tp 313:={}
instance:Cal tp 314:={}
instance:Cal tp 315:={}
instance:Cal tp 316:={}
instance:Cal tp 317:={}
instance:Cal tp 318:={}
instance:EqG tp 131:={}
instance:FlatF tp 131 [(129,0),(3,1)]:={}
instance:zu tp 131 0 0 false 1:={}
instance:zu tp 131 1 1 false 1:={}
instance:zu tp 203 2 2 false 1:={}
instance:zu tp 256 0 0 false 1:={}
instance:zu tp 256 1 1 false 1:={}
instance:zu tp 31 1 1 false 1:={}
instance:zd tp 117 true 4:={}
instance:zd tp 129 false 1:={}
instance:zd tp 131 true 2:={}
instance:zd tp 133 true 8:={}
instance:zd tp 256 true 2:={}
instance:zd tp 355 false 1:={}
instance:TyZ tp 131 [.int .i64 0,.int .i64 0]:={}
instance:TyZA tp 131 [.v (.int .i64 0),.v (.int .i64 0)]:={}
instance:TyZA tp 133 [.v (.int .i64 0),.v (.int .i64 0),.v (.int .i64 0),.v (.int .i64 0),.v (.int .i64 0),.v (.int .i64 0),.v (.int .i64 0),.v (.int .i64 0)]:={}
instance:TyZA tp 203 [.v (.int .i64 0),.v (.int .i64 0),.v (.bool false)]:={}
instance:Und tp 129 (.int .i64):={}
theorem zhh {main T} (hT:zk tp main T) {gm} {n m:Int} (h0:0<=n/\n<m) (hm:m<=1000) :
  zh tp T gm 132 [intA n,intA m] [] (fun r K'=>r=intA 0/\K'=[]):=by
 refine ze 10 hT Tryz.func132 fun Y hret=>?_;refine au 240114223542 ?_;refine bD Z Z Z Z (yT hT) ?_;rintro r1 K2 ⟨rfl,rfl⟩;refine au 93300 ?_;constructor<;>intro hc0
 ·simp at hc0; omega
 refine au 3542120 ?_;refine bB hret [] ?_;exact ⟨rfl,rfl⟩
theorem zhf {main T} (hT:zk tp main T) {gm} {b:StB} {s g:Nat} {n:Int} (hb:StOk b) (h0:0<=n/\n<b.groups.length) :
  zh tp T gm 53 [intA n,.agg (stbC b s g)] [] (fun r K'=>r=intA 0/\K'=[]):=by
 refine ze 11 hT Tryz.func53 fun Y hret=>?_;refine au 0 ?_;have hng:=hb.ngr;refine au 21042 ?_;intro jb hjb;refine au 28069067067014235 ?_;refine bD Z Z Z Z (zhh hT h0 oQ) ?_;rintro r1 K2 ⟨rfl,rfl⟩;refine au 35 ?_;refine bB hret [] ?_;exact ⟨rfl,rfl⟩
theorem zg7 {main T} (hT:zk tp main T) {gm} {a:StA} :
  zh tp T gm 187 [.agg (atC a)] [] (fun r K'=>r=zm (onA a)/\K'=[]):=by
 refine ze 11 hT Tryz.func187 fun Y hret=>?_;refine au 21042 ?_;intro ja hja;refine au 176906704235 ?_;refine bF 6 (fun g1_4=>?_) (fun g1_4=>?_)
 ·refine au 35260888 ?_;refine bB hret [] ?_;exact ⟨by unfold onA; simp [zm, *],rfl⟩
 refine au 352507690670 ?_;refine bB hret [] ?_;exact ⟨by unfold onA; simp [zm, *],rfl⟩
theorem vE {main T} (hT:zk tp main T) {gm} {s:List StA} {i k:Nat} (hs:SpOk s) (hi:i<4) (h4:(atI s i).stage<4) (hk:k<100) :
  zh tp T gm 137 [.agg (spC s),.agg [intA (i:Int),intA (k:Int)]] [] (fun r K'=>r=.agg (spC (ya s i k))/\K'=[]):=by
 refine ze 23 hT Tryz.func137 fun Y hret=>?_;refine au 0 ?_;have hsb:=hs.bnd i;have hsl:=hs.len;refine au 21042 ?_;intro jp hjp;refine au 210 ?_;intro jm hjm;refine au 220 ?_;intro jr hjr;refine au 690670423 ?_;refine bH Z (yo Z Z Z ArEl.h oQ oQ) ?_;refine au 670 ?_;refine bH Z (zl Z Z zd.h mQ (uI hi oQ)) ?_;refine au 220390230 ?_;intro jn hjn;refine au 6804223170 ?_;refine bD Z Z Z Z (zg7 hT (a:=⟨(atI s i).stage+1,0⟩)) ?_;rintro r1 K2 ⟨rfl,rfl⟩;refine au 93 ?_;constructor<;>intro hc0
 ·refine au 6806906704231706706906704 ?_;refine bH Z (yo Z Z Z ArEl.h oQ oQ) ?_;refine TK.st Z Z Z (zq Z Z zd.h Z Z mQ (ziI hsl hi oQ ⟨(atI s i).stage+1,(k:Int)⟩)) uQ (putN Z) ?_;refine au 3170680423 ?_;refine bB hret [] ?_;exact ⟨by unfold ya nextA; rw [if_pos (by unfold onA at hc0; simpa using hc0)] <;> rfl,rfl⟩
 refine au 68069067042120 ?_;refine bH Z (yo Z Z Z ArEl.h oQ oQ) ?_;refine TK.st Z Z Z (zq Z Z zd.h Z Z mQ (ziI hsl hi oQ ⟨(atI s i).stage+1,0⟩)) uQ (putN Z) ?_;refine au 3170680423 ?_;refine bB hret [] ?_;exact ⟨by unfold ya nextA; rw [if_neg (by unfold onA at hc0; simpa using hc0)] <;> rfl,rfl⟩
theorem zka {main T} (hT:zk tp main T) {gm} {a:StA} {t:Int} {jx:Nat} :
  zh tp T gm 184 [.agg (atC a),.ptr jx 0] [(jx,.cells [intA t] 129 true)] (fun r K'=>r=zm (decide (a.stage=t))/\K'=[(jx,.cells [intA t] 129 true)]):=by
 refine ze 8 hT Tryz.func184 fun Y hret=>?_;refine au 21042 ?_;intro ja hja;refine au 3576906906704235 ?_;refine bB hret [(jx,_)] ?_;exact ⟨rfl,rfl⟩
theorem zkb {main T} (hT:zk tp main T) {gm} {a:StA} {t k:Int} {j1 j2:Nat} :
  zh tp T gm 318 [.agg (atC a),.ptr j1 0,.ptr j2 0] [(j1,.cells [intA t] 129 true),(j2,.cells [intA k] 3 true)] (fun r K'=>r=zm (decide (a=⟨t,k⟩))/\K'=[(j1,.cells [intA t] 129 true),(j2,.cells [intA k] 3 true)]):=by
 refine ze 10 hT Tryz.func318 fun Y hret=>?_;refine au 21042 ?_;intro ja hja;refine au 3906906906804235 ?_;refine bH Z (zjV Z Z Z Z Z FlatF.h EqG.h) ?_;refine au 35 ?_;refine bB hret [(j1,_),(j2,_)] ?_;exact ⟨by rw [<- zku a t k] <;> rfl,rfl⟩
theorem ziP {main T} (hT:zk tp main T) {gm} {b:StB} {s g:Nat} {sp:List StA} {p:StA->Bool} {f:FuncId} {cp:List AV} {Kc:KV} (hb:StOk b) (hg:yg tp f=true) (hp:∀ i,i<4->zh tp T gm f ([.agg (atC (atI sp i))]++cp) Kc (fun r K'=>r=zm (p (atI sp i))/\K'=Kc)) :
  zh tp T gm 183 [.agg (stbC b s g),.agg (spC sp),.fn f [] cp] ((g,grO b)::Kc) (fun r K'=>r=intA (sumS b sp p)/\K'=(g,grO b)::Kc):=by
 refine ze 30 hT Tryz.func183 fun Y hret=>?_;refine au 0 ?_;have hng:=hb.ngr;refine au 21042 ?_;intro jb hjb;refine au 210 ?_;intro jp hjp;refine au 13031280690670670422354235 ?_;refine bA [2,3,4,7,12,13,14] ?_;refine bE (fun n env K=>∃ (i:Nat),n=b.groups.length - i/\i<=b.groups.length/\env=zW 30 [(2,.fn f [] cp),(3,.ptr jb 0),(4,.ptr jp 0),(7,intA (sumZ (manyI b sp p) i)),(12,.sl g 0 b.groups.length),(13,intA b.groups.length),(14,intA i)]/\K=(jp,.cells (spC sp) 133 true)::(jb,.cells (stbC b s g) 117 true)::(g,grO b)::Kc) b.groups.length ⟨0,rfl,mN _,rfl,rfl⟩ fun n env K hI hnext=>?_;obtain ⟨i,rfl,hi,rfl,rfl⟩:=hI;have hsb:=zbb hb sp p i hi;refine au 923742 ?_;constructor<;>intro hc0
 ·have hil:i<b.groups.length:=by simp at hc0; omega
  have hgm:=kW hb hil;refine au 3601421302120 ?_;refine bH Z (zD Z Z zd.h mQ (gr_at (kA hil) Z)) ?_;refine au 220 ?_;intro jx hjx;refine au 114231705 ?_;refine bH Z (yo Z Z Z ArEl.h oQ oQ) ?_;refine bH Z (zD Z Z zd.h mQ (sp_at (i:=i) oQ oQ)) ?_;refine bD Z Z Z Z (hp i oQ) ?_ (hs:=(.right (.right (.right (.right (.all _)))))) (hg:=hg);rintro r1 K2 ⟨rfl,hK⟩;refine au 0 ?_;rw [hK];refine bN (K':=(jx,_)::(jp,_)::(jb,_)::(g,_)::Kc) (lH (l₁:=Kc)) ?_;refine au 93 ?_;constructor<;>intro hc1
  ·refine au 3123041403523069067014 ?_;refine bA [2,3,4,7,12,13,14] ?_;refine bC (((jp,_)::(jb,_)::(g,_)::Kc)) ?_;exact hnext _ _ _ oQ ⟨i+1,rfl,oQ,by rw [show sumZ (manyI b sp p) (i+1)=sumZ (manyI b sp p) i+manyI b sp p i from rfl,show manyI b sp p i=(grp b i).many from if_pos hc1] <;> rfl,rfl⟩
  refine au 312304140120 ?_;refine bA [2,3,4,7,12,13,14] ?_;refine bC (((jp,_)::(jb,_)::(g,_)::Kc)) ?_;exact hnext _ _ _ oQ ⟨i+1,rfl,oQ,by rw [show sumZ (manyI b sp p) (i+1)=sumZ (manyI b sp p) i+manyI b sp p i from rfl,show manyI b sp p i=0 from if_neg (by rw [hc1]; decide),Int.add_zero] <;> rfl,rfl⟩
 obtain rfl:i=b.groups.length:=by simp at hc0; omega
 refine au 35142160 ?_;refine bB hret (((g,_)::Kc)) ?_;exact ⟨rfl,rfl⟩
theorem at_ok {main T} (hT:zk tp main T) {gm} {b:StB} {s g:Nat} {sp:List StA} {t:Int} (hb:StOk b) :
  zh tp T gm 135 [.agg (stbC b s g),.agg (spC sp),intA t] [(g,grO b)] (fun r K'=>r=intA (atS b sp t)/\K'=[(g,grO b)]):=by
 refine ze 11 hT Tryz.func135 fun Y hret=>?_;refine au 21042 ?_;intro jb hjb;refine au 210 ?_;intro jp hjp;refine au 210 ?_;intro jx hjx;refine au 3206806804235 ?_;refine bD Z Z Z Z (ziP hT (cp:=[.ptr jx 0]) (Kc:=[(jx,.cells [intA t] 129 true)]) (p:=fun a=>decide (a.stage=t)) hb Cal.h (fun i _=>zka hT)) ?_;rintro r1 K2 ⟨rfl,rfl⟩;refine au 35 ?_;refine bB hret [(g,_)] ?_;exact ⟨rfl,rfl⟩
theorem on_ok {main T} (hT:zk tp main T) {gm} {b:StB} {s g:Nat} {sp:List StA} {t k:Int} (hb:StOk b) :
  zh tp T gm 317 [.agg (stbC b s g),.agg (spC sp),intA t,intA k] [(g,grO b)] (fun r K'=>r=intA (onS b sp t k)/\K'=[(g,grO b)]):=by
 refine ze 13 hT Tryz.func317 fun Y hret=>?_;refine au 21042 ?_;intro jb hjb;refine au 210 ?_;intro jp hjp;refine au 210 ?_;intro j1 hj1;refine au 210 ?_;intro j2 hj2;refine au 3206806804235 ?_;refine bD Z Z Z Z (ziP hT (cp:=[.ptr j1 0,.ptr j2 0]) (Kc:=[(j1,.cells [intA t] 129 true),(j2,.cells [intA k] 3 true)]) (p:=fun a=>decide (a=⟨t,k⟩)) hb Cal.h (fun i _=>zkb hT)) ?_;rintro r1 K2 ⟨rfl,rfl⟩;refine au 35 ?_;refine bB hret [(g,_)] ?_;exact ⟨rfl,rfl⟩
theorem up_ok {main T} (hT:zk tp main T) {gm} {b:StB} {s g:Nat} {sp:List StA} {i k:Nat} (hb:StOk b) (hi:i<b.groups.length) (hk:k<b.stairs.length) :
  zh tp T gm 313 [.agg (stbC b s g),.agg (spC sp),.agg [intA (i:Int),intA (k:Int)]] [(s,stO b),(g,grO b)] (fun r K'=>r=zm (stUp b sp i k)/\K'=[(s,stO b),(g,grO b)]):=by
 refine ze 64 hT Tryz.func313 fun Y hret=>?_;refine au 0 ?_;have hng:=hb.ngr;have hns:=hb.nst;have hgm:=kW hb hi;have hsb:=vw hb hk;have hpl:=hb.plat;have b1:=at_bd hb sp 1;have b2:=at_bd hb sp 2;have b3:=on_bd hb sp 1 k;have b4:=on_bd hb sp 3 k;refine au 21042 ?_;intro jb hjb;refine au 210 ?_;intro jp hjp;refine au 210 ?_;intro jm hjm;refine au 235 ?_;refine bL [0,1,2,3,4,5,6,15,16,7,8,9,10,11,12,13,14,17] ?_;refine ad [[3,3],[3,9],[10,10],[3,5],[10,12],[2,11,13]] ?_;refine bT [14] Z (hq:=zD Z Z zd.h (mC _) (st_at (str_get' hk) Z)) (h:=?_);refine ad [[3,3],[3,16],[10,17],[3,5],[10,19],[2,18,20],[3,21]] ?_;refine bT [22] Z (hq:=zl Z Z zd.h (mC _) (zeH hi Z)) (h:=?_);refine bX (pend':=[⟨14,[22],[(_,_)]⟩,⟨13,[21],[]⟩,⟨12,[18,20],[]⟩,⟨11,[19],[(_,_)]⟩,⟨10,[5],[]⟩,⟨9,[17],[(_,_)]⟩,⟨8,[16],[]⟩,⟨7,[3],[]⟩,⟨6,[14],[(_,_)]⟩,⟨5,[11,13],[]⟩,⟨4,[12],[(_,_)]⟩,⟨3,[5],[]⟩,⟨2,[10],[(_,_)]⟩,⟨1,[9],[]⟩,⟨0,[3],[]⟩]) [] Z Z Z Z Z (zG Z TyZA.h) (fun _=>zz rfl tQ) sQ fun jx hjx=>?_;refine bR (pend':=[⟨14,[22],[(_,_)]⟩,⟨13,[21],[]⟩,⟨12,[18,20],[]⟩,⟨11,[19],[(_,_)]⟩,⟨10,[5],[]⟩,⟨9,[17],[(_,_)]⟩,⟨8,[16],[]⟩,⟨7,[3],[]⟩]) [7,15] Z Z (zq Z Z zd.h Z Z mQ Z) ?_;refine ad [[13,23],[14]] ?_;refine au 22 ?_;refine bM [0,1,2,3,4,6,7,10,12,13,14,5,8,9,11,15,16] [0,1,2,3,4,5,6,7,8,9,10,11,12,13,14,15,16] ?_;refine ad [[3,7],[10,24],[1,25]] ?_;refine bW 26 (fun g2_3=>?_) (fun g2_3=>?_)
 ·refine ad [[12,3,26],[12,4,26],[12,3,26],[12,4,26],[1,8,26],[3,3,26],[3,26,36],[10,26,37]] ?_;refine bQ (pend':=[⟨14,[26,37],[(_,_)]⟩,⟨13,[26,36],[]⟩,⟨12,[3,26],[]⟩,⟨10,[8,26],[]⟩,⟨7,[4,26],[(_,_)]⟩,⟨6,[3,26],[(_,_)]⟩,⟨1,[24],[(_,_)]⟩,⟨0,[7],[]⟩]) [26,27,28] Z Z Z Z Z (at_ok hT hb) (fun r1 K2 h3=>⟨?_,?_⟩)
  ·rcases h3 with ⟨rfl,rfl⟩
   all_goals simp
  obtain ⟨rfl,rfl⟩:=h3;try simp only [cA]
  refine bS tQ ?_;refine bQ (pend':=[⟨14,[26,37],[(_,_)]⟩,⟨13,[26,36],[]⟩,⟨12,[3,26],[]⟩,⟨10,[8,26],[]⟩,⟨1,[24],[(_,_)]⟩,⟨0,[7],[]⟩]) [26,30,31] Z Z Z Z Z (at_ok hT hb) (fun r4 K5 h6=>⟨?_,?_⟩)
  ·rcases h6 with ⟨rfl,rfl⟩
   all_goals simp
  obtain ⟨rfl,rfl⟩:=h6;try simp only [cA]
  refine bS tQ ?_;refine ad [[8,26,29,32],[8,26,33,34],[4,26,35,38],[7,26,39],[14]] ?_;refine au 9 ?_;constructor<;>intro hc0
  ·refine au 3542 ?_;refine bB hret [(s,_),(g,_)] ?_;exact ⟨by unfold stUp; first | (simp [zm, *]; done) | simp_all [zm],rfl⟩
  refine au 2120 ?_;refine bM [0,1,2,3,4,5,6,7,8,9,10,11,12,13,14,15,17,19,20,16,18,21,22,23] [0,1,2,3,4,5,6,7,8,9,10,11,12,13,14,15,16,17,18,19,20,21,22,23] ?_;refine ad [[3,7],[10,41],[4,42],[1,43]] ?_;refine bW 44 (fun g4_4=>?_) (fun g4_4=>?_)
  ·refine ad [[12,3,44],[12,4,44],[3,5,44],[10,44,47]] ?_;refine bQ (pend':=[⟨6,[5,44],[]⟩,⟨2,[42],[]⟩,⟨1,[41],[(_,_)]⟩,⟨0,[7],[]⟩]) [44,45,46,48] Z Z Z Z Z (on_ok hT hb) (fun r7 K8 h9=>⟨?_,?_⟩)
   ·rcases h9 with ⟨rfl,rfl⟩
    all_goals simp
   obtain ⟨rfl,rfl⟩:=h9;try simp only [cA]
   refine bS tQ ?_;refine ad [[4,44,49],[7,44,50],[1,51]] ?_;refine bW 52 (fun g4_12=>?_) (fun g4_12=>?_)
   ·refine ad [[12,3,52],[12,4,52],[3,5,52],[10,52,55],[1,8,52],[3,7,52],[10,52,60]] ?_;refine bQ (pend':=[⟨20,[52,60],[(_,_)]⟩,⟨19,[7,52],[]⟩,⟨17,[8,52],[]⟩,⟨14,[5,52],[]⟩,⟨10,[44,50],[]⟩,⟨9,[44,49],[]⟩,⟨6,[5,44],[]⟩,⟨2,[42],[]⟩,⟨1,[41],[(_,_)]⟩,⟨0,[7],[]⟩]) [52,53,54,56] Z Z Z Z Z (on_ok hT hb) (fun r10 K11 h12=>⟨?_,?_⟩)
    ·rcases h12 with ⟨rfl,rfl⟩
     all_goals simp
    obtain ⟨rfl,rfl⟩:=h12;try simp only [cA]
    refine bS tQ ?_;refine ad [[8,52,57,58],[4,52,59,61],[7,52,62],[13,63],[14]] ?_;refine au 0 ?_;refine bB hret [(s,_),(g,_)] ?_;exact ⟨by unfold stUp; first | (simp [zm, *]; done) | simp_all [zm],rfl⟩
   refine ad [[11,3,52],[11,4,52],[11,5,52],[11,52,55],[11,8,52],[11,7,52],[11,52,60],[11,52,53,54,56],[11,52,57,58],[11,52,59,61],[6,52,62],[13,63],[14]] ?_;refine au 0 ?_;refine bB hret [(s,_),(g,_)] ?_;exact ⟨by unfold stUp; first | (simp [zm, *]; done) | simp_all [zm],rfl⟩
  refine ad [[11,3,44],[11,4,44],[11,5,44],[11,44,47],[11,44,45,46,48],[11,44,49],[6,44,50],[1,51],[11,3,52],[11,4,52],[11,5,52],[11,52,55],[11,8,52],[11,7,52],[11,52,60],[11,52,53,54,56],[11,52,57,58],[11,52,59,61],[6,52,62],[13,63],[14]] ?_;refine au 0 ?_;refine bB hret [(s,_),(g,_)] ?_;exact ⟨by unfold stUp; first | (simp [zm, *]; done) | simp_all [zm],rfl⟩
 refine ad [[11,3,26],[11,4,26],[11,3,26],[11,4,26],[11,8,26],[11,3,26],[11,26,36],[11,26,37],[11,26,27,28],[11,26,30,31],[11,26,29,32],[11,26,33,34],[11,26,35,38],[6,26,39],[14]] ?_;refine au 2120190 ?_;refine bM [0,1,2,3,4,5,6,7,8,9,10,11,12,13,14,15,17,19,20,16,18,21,22,23] [0,1,2,3,4,5,6,7,8,9,10,11,12,13,14,15,16,17,18,19,20,21,22,23] ?_;refine ad [[3,7],[10,41],[4,42],[1,43]] ?_;refine bW 44 (fun g4_4=>?_) (fun g4_4=>?_)
 ·refine ad [[12,3,44],[12,4,44],[3,5,44],[10,44,47]] ?_;refine bQ (pend':=[⟨6,[5,44],[]⟩,⟨2,[42],[]⟩,⟨1,[41],[(_,_)]⟩,⟨0,[7],[]⟩]) [44,45,46,48] Z Z Z Z Z (on_ok hT hb) (fun r13 K14 h15=>⟨?_,?_⟩)
  ·rcases h15 with ⟨rfl,rfl⟩
   all_goals simp
  obtain ⟨rfl,rfl⟩:=h15;try simp only [cA]
  refine bS tQ ?_;refine ad [[4,44,49],[7,44,50],[1,51]] ?_;refine bW 52 (fun g4_12=>?_) (fun g4_12=>?_)
  ·refine ad [[12,3,52],[12,4,52],[3,5,52],[10,52,55],[1,8,52],[3,7,52],[10,52,60]] ?_;refine bQ (pend':=[⟨20,[52,60],[(_,_)]⟩,⟨19,[7,52],[]⟩,⟨17,[8,52],[]⟩,⟨14,[5,52],[]⟩,⟨10,[44,50],[]⟩,⟨9,[44,49],[]⟩,⟨6,[5,44],[]⟩,⟨2,[42],[]⟩,⟨1,[41],[(_,_)]⟩,⟨0,[7],[]⟩]) [52,53,54,56] Z Z Z Z Z (on_ok hT hb) (fun r16 K17 h18=>⟨?_,?_⟩)
   ·rcases h18 with ⟨rfl,rfl⟩
    all_goals simp
   obtain ⟨rfl,rfl⟩:=h18;try simp only [cA]
   refine bS tQ ?_;refine ad [[8,52,57,58],[4,52,59,61],[7,52,62],[13,63],[14]] ?_;refine au 0 ?_;refine bB hret [(s,_),(g,_)] ?_;exact ⟨by unfold stUp; first | (simp [zm, *]; done) | simp_all [zm],rfl⟩
  refine ad [[11,3,52],[11,4,52],[11,5,52],[11,52,55],[11,8,52],[11,7,52],[11,52,60],[11,52,53,54,56],[11,52,57,58],[11,52,59,61],[6,52,62],[13,63],[14]] ?_;refine au 0 ?_;refine bB hret [(s,_),(g,_)] ?_;exact ⟨by unfold stUp; first | (simp [zm, *]; done) | simp_all [zm],rfl⟩
 refine ad [[11,3,44],[11,4,44],[11,5,44],[11,44,47],[11,44,45,46,48],[11,44,49],[6,44,50],[1,51],[11,3,52],[11,4,52],[11,5,52],[11,52,55],[11,8,52],[11,7,52],[11,52,60],[11,52,53,54,56],[11,52,57,58],[11,52,59,61],[6,52,62],[13,63],[14]] ?_;refine au 0 ?_;refine bB hret [(s,_),(g,_)] ?_;exact ⟨by unfold stUp; first | (simp [zm, *]; done) | simp_all [zm],rfl⟩
theorem zhs {main T} (hT:zk tp main T) {gm} {b:StB} {s g:Nat} {sp:List StA} {i k:Nat} (hb:StOk b) (hi:i<b.groups.length) (hk:k<b.stairs.length) :
  zh tp T gm 314 [.agg (stbC b s g),.agg (spC sp),.agg [intA (i:Int),intA (k:Int)]] [(g,grO b)] (fun r K'=>r=zm (arriveS b sp i k)/\K'=[(g,grO b)]):=by
 refine ze 39 hT Tryz.func314 fun Y hret=>?_;refine au 0 ?_;have hng:=hb.ngr;have hns:=hb.nst;have hgm:=kW hb hi;have hsb:=vw hb hk;have hpl:=hb.plat;have b1:=at_bd hb sp 1;have b2:=at_bd hb sp 2;have b3:=on_bd hb sp 1 k;have b4:=on_bd hb sp 3 k;refine au 21042 ?_;intro jb hjb;refine au 210 ?_;intro jp hjp;refine au 210 ?_;intro jm hjm;refine au 235 ?_;refine bM [0,1,2,3,4,5,6,7,8,9,10,11,12,13,14,15,17,18,19,20,21,22,23,24,26,27,28,16,25,29,30,31,32] [0,1,2,3,4,5,6,7,8,9,10,11,12,13,14,15,16,17,18,19,20,21,22,23,24,25,26,27,28,29,30,31,32] ?_;refine ad [[3,5],[10,7]] ?_;refine bU [4,8] Z (yo Z Z Z ArEl.h oQ oQ) ?_;refine ad [[3,9]] ?_;refine bT [10] Z (hq:=zl Z Z zd.h (mC _) (ziJ (i:=i) oQ oQ)) (h:=?_);refine ad [[3,5],[10,12],[4,11,13],[1,14]] ?_;refine bW 15 (fun g1_9=>?_) (fun g1_9=>?_)
 ·refine ad [[3,3,15],[3,15,16],[10,15,17]] ?_;refine bU [15,18] Z (q_not Z Z) ?_;refine ad [[1,15,19]] ?_;refine bW 20 (fun g1_14=>?_) (fun g1_14=>?_)
  ·refine ad [[11,3,20],[11,4,20],[11,3,20],[11,20,24],[11,20,25],[11,5,20],[11,20,27],[11,20,26,28],[11,20,29],[11,20,30],[11,3,20],[11,20,33],[11,20,34],[11,20,21,22],[11,20,23,31],[11,20,32,35],[7,15,20,36],[7,15,37],[13,38],[14]] ?_;refine au 0 ?_;refine bB hret [(g,_)] ?_;exact ⟨by unfold arriveS; first | (simp [zm, *]; done) | simp_all [zm],rfl⟩
  refine ad [[12,3,20],[12,4,20],[3,3,20],[3,20,24],[10,20,25],[3,5,20],[10,20,27],[2,20,26,28],[3,20,29]] ?_;refine bT [20,30] Z (hq:=zl Z Z zd.h (mC _) (zeH hi Z)) (h:=?_);refine ad [[3,3,20],[3,20,33],[10,20,34]] ?_;refine bQ (pend':=[⟨28,[20,34],[(_,_)]⟩,⟨27,[20,33],[]⟩,⟨26,[3,20],[]⟩,⟨24,[20,30],[(_,_)]⟩,⟨23,[20,29],[]⟩,⟨22,[20,26,28],[]⟩,⟨21,[20,27],[(_,_)]⟩,⟨20,[5,20],[]⟩,⟨19,[20,25],[(_,_)]⟩,⟨18,[20,24],[]⟩,⟨17,[3,20],[]⟩,⟨12,[15,18],[]⟩,⟨11,[15,17],[(_,_)]⟩,⟨10,[15,16],[]⟩,⟨9,[3,15],[]⟩,⟨8,[14],[]⟩,⟨7,[11,13],[]⟩,⟨6,[12],[(_,_)]⟩,⟨5,[5],[]⟩,⟨4,[10],[(_,_)]⟩,⟨3,[9],[]⟩,⟨2,[4,8],[]⟩,⟨1,[7],[(_,_)]⟩,⟨0,[5],[]⟩]) [20,21,22] Z Z Z Z Z (at_ok hT hb) (fun r1 K2 h3=>⟨?_,?_⟩)
  ·rcases h3 with ⟨rfl,rfl⟩
   all_goals simp
  obtain ⟨rfl,rfl⟩:=h3;try simp only [cA]
  refine bS tQ ?_;refine ad [[8,20,23,31],[4,20,32,35],[6,15,20,36],[7,15,37],[13,38],[14]] ?_;refine au 0 ?_;refine bB hret [(g,_)] ?_;exact ⟨by unfold arriveS; first | (simp [zm, *]; done) | simp_all [zm],rfl⟩
 refine ad [[11,3,15],[11,15,16],[11,15,17],[11,15,18],[11,15,19],[11,3,20],[11,4,20],[11,3,20],[11,20,24],[11,20,25],[11,5,20],[11,20,27],[11,20,26,28],[11,20,29],[11,20,30],[11,3,20],[11,20,33],[11,20,34],[11,20,21,22],[11,20,23,31],[11,20,32,35],[11,15,20,36],[6,15,37],[13,38],[14]] ?_;refine au 0 ?_;refine bB hret [(g,_)] ?_;exact ⟨by unfold arriveS; first | (simp [zm, *]; done) | simp_all [zm],rfl⟩
theorem zks {main T} (hT:zk tp main T) {gm} {b:StB} {s g:Nat} {sp:List StA} {i k:Nat} (hb:StOk b) (hi:i<b.groups.length) (hk:k<b.stairs.length) :
  zh tp T gm 315 [.agg (stbC b s g),.agg (spC sp),.agg [intA (i:Int),intA (k:Int)]] [(s,stO b),(g,grO b)] (fun r K'=>r=zm (downS b sp i k)/\K'=[(s,stO b),(g,grO b)]):=by
 refine ze 45 hT Tryz.func315 fun Y hret=>?_;refine au 0 ?_;have hng:=hb.ngr;have hns:=hb.nst;have hgm:=kW hb hi;have hsb:=vw hb hk;have hpl:=hb.plat;have b1:=at_bd hb sp 1;have b2:=at_bd hb sp 2;have b3:=on_bd hb sp 1 k;have b4:=on_bd hb sp 3 k;refine au 21042 ?_;intro jb hjb;refine au 210 ?_;intro jp hjp;refine au 210 ?_;intro jm hjm;refine au 3606906706906706704235 ?_;refine bH Z (zD Z Z zd.h mQ (st_at (str_get' hk) Z)) ?_;refine au 220 ?_;intro jx hjx;refine au 23170 ?_;refine bM [0,1,2,3,4,5,6,7,8,9,10,11,12,13,14,15,17,18,19,20,21,22,23,24,26,27,16,25,28,29,30] [0,1,2,3,4,5,6,7,8,9,10,11,12,13,14,15,16,17,18,19,20,21,22,23,24,25,26,27,28,29,30] ?_;refine ad [[3,7],[10,15],[4,16],[1,17]] ?_;refine bW 18 (fun g2_4=>?_) (fun g2_4=>?_)
 ·refine ad [[12,3,18],[12,4,18],[3,5,18],[10,18,21]] ?_;refine bQ (pend':=[⟨6,[5,18],[]⟩,⟨2,[16],[]⟩,⟨1,[15],[(_,_)]⟩,⟨0,[7],[]⟩]) [18,19,20,22] Z Z Z Z Z (on_ok hT hb) (fun r1 K2 h3=>⟨?_,?_⟩)
  ·rcases h3 with ⟨rfl,rfl⟩
   all_goals simp
  obtain ⟨rfl,rfl⟩:=h3;try simp only [cA]
  refine bS tQ ?_;refine ad [[4,18,23],[7,18,24],[1,25]] ?_;refine bW 26 (fun g2_12=>?_) (fun g2_12=>?_)
  ·refine ad [[12,3,26],[12,4,26],[3,5,26],[10,26,29],[3,3,26],[3,26,32],[10,26,33],[3,5,26],[10,26,35],[2,26,34,36],[3,26,37]] ?_;refine bT [26,38] Z (hq:=zl Z Z zd.h (mC _) (zeH hi Z)) (h:=?_);refine ad [[3,7,26],[10,26,41]] ?_;refine bQ (pend':=[⟨27,[26,41],[(_,_)]⟩,⟨26,[7,26],[]⟩,⟨24,[26,38],[(_,_)]⟩,⟨23,[26,37],[]⟩,⟨22,[26,34,36],[]⟩,⟨21,[26,35],[(_,_)]⟩,⟨20,[5,26],[]⟩,⟨19,[26,33],[(_,_)]⟩,⟨18,[26,32],[]⟩,⟨17,[3,26],[]⟩,⟨14,[5,26],[]⟩,⟨10,[18,24],[]⟩,⟨9,[18,23],[]⟩,⟨6,[5,18],[]⟩,⟨2,[16],[]⟩,⟨1,[15],[(_,_)]⟩,⟨0,[7],[]⟩]) [26,27,28,30] Z Z Z Z Z (on_ok hT hb) (fun r4 K5 h6=>⟨?_,?_⟩)
   ·rcases h6 with ⟨rfl,rfl⟩
    all_goals simp
   obtain ⟨rfl,rfl⟩:=h6;try simp only [cA]
   refine bS tQ ?_;refine ad [[8,26,31,39],[4,26,40,42],[7,26,43],[13,44],[14]] ?_;refine au 0 ?_;refine bB hret [(s,_),(g,_)] ?_;exact ⟨by unfold downS; first | (simp [zm, *]; done) | simp_all [zm],rfl⟩
  refine ad [[11,3,26],[11,4,26],[11,5,26],[11,26,29],[11,3,26],[11,26,32],[11,26,33],[11,5,26],[11,26,35],[11,26,34,36],[11,26,37],[11,26,38],[11,7,26],[11,26,41],[11,26,27,28,30],[11,26,31,39],[11,26,40,42],[6,26,43],[13,44],[14]] ?_;refine au 0 ?_;refine bB hret [(s,_),(g,_)] ?_;exact ⟨by unfold downS; first | (simp [zm, *]; done) | simp_all [zm],rfl⟩
 refine ad [[11,3,18],[11,4,18],[11,5,18],[11,18,21],[11,18,19,20,22],[11,18,23],[6,18,24],[1,25],[11,3,26],[11,4,26],[11,5,26],[11,26,29],[11,3,26],[11,26,32],[11,26,33],[11,5,26],[11,26,35],[11,26,34,36],[11,26,37],[11,26,38],[11,7,26],[11,26,41],[11,26,27,28,30],[11,26,31,39],[11,26,40,42],[6,26,43],[13,44],[14]] ?_;refine au 0 ?_;refine bB hret [(s,_),(g,_)] ?_;exact ⟨by unfold downS; first | (simp [zm, *]; done) | simp_all [zm],rfl⟩
theorem zjA {main T} (hT:zk tp main T) {gm} {b:StB} {s g:Nat} {sp:List StA} {i k:Nat} (hb:StOk b) (hi:i<b.groups.length) (hk:k<b.stairs.length) :
  zh tp T gm 316 [.agg (stbC b s g),.agg (spC sp),.agg [intA (i:Int),intA (k:Int)]] [] (fun r K'=>r=zm (leaveS sp i k)/\K'=[]):=by
 refine ze 15 hT Tryz.func316 fun Y hret=>?_;refine au 0 ?_;have hng:=hb.ngr;have hns:=hb.nst;have hgm:=kW hb hi;have hsb:=vw hb hk;have hpl:=hb.plat;have b1:=at_bd hb sp 1;have b2:=at_bd hb sp 2;have b3:=on_bd hb sp 1 k;have b4:=on_bd hb sp 3 k;refine au 21042 ?_;intro jb hjb;refine au 210 ?_;intro jp hjp;refine au 210 ?_;intro jm hjm;refine au 235 ?_;refine bL [0,1,2,3,4,5,6,7,8] ?_;refine ad [[3,5],[10,7]] ?_;refine bU [4,8] Z (yo Z Z Z ArEl.h oQ oQ) ?_;refine ad [[3,9]] ?_;refine bT [10] Z (hq:=zl Z Z zd.h (mC _) (ziJ (i:=i) oQ oQ)) (h:=?_);refine ad [[3,5],[10,12],[4,11,13],[13,14],[14]] ?_;refine au 0 ?_;refine bB hret [] ?_;exact ⟨rfl,rfl⟩
theorem zkN {main:Bool} {T:Goroutine->Hp->Prop} (hT:zk tp main T)  {b:StB} {s g:Nat} {sp:List StA} {i k:Nat} (hb:StOk b) (hi:i<b.groups.length) (hk:k<b.stairs.length) (hst:(atI sp i).stage=0) :
  zh tp T gmS 186 [.agg (stbC b s g),.agg (spC sp),.agg [intA (i:Int),intA (k:Int)]] [(3,allowsG),(s,stO b),(g,grO b)] (fun r K'=>r=zm (mayS b sp i k)/\K'=[(3,allowsG),(s,stO b),(g,grO b)]):=by
 refine ze 24 hT Tryz.func186 fun Y hret=>?_;refine au 0 ?_;have hng:=hb.ngr;have hns:=hb.nst;have hgm:=kW hb hi;have hsb:=vw hb hk;have hpl:=hb.plat;have b1:=at_bd hb sp 1;have b2:=at_bd hb sp 2;have b3:=on_bd hb sp 1 k;have b4:=on_bd hb sp 3 k;refine au 21042 ?_;intro jb hjb;refine au 210 ?_;intro jp hjp;refine au 210 ?_;intro jm hjm;refine au 6906704235 ?_;refine bH Z (yo Z Z Z ArEl.h oQ oQ) ?_;refine au 670 ?_;refine bH Z (zl Z Z zd.h mQ (uI (i:=i) oQ oQ)) ?_;rw [hst];refine au 235 ?_;refine bL [0,1,2,3,4,5,6,7,8,9,10,11] ?_;refine ad [[1,7],[4,13],[1,14]] ?_;refine bW 15 (fun g2_3=>?_) (fun g2_3=>?_)
 ·refine ad [[1,7,15]] ?_;refine bU [15,16] Z (yo Z Z Z ArEl.h oQ oQ) ?_;refine ad [[10,15,17],[12,3,15],[12,4,15],[12,5,15]] ?_;refine bQ (pend':=[⟨4,[15,16],[]⟩,⟨3,[7,15],[]⟩,⟨1,[13],[]⟩,⟨0,[7],[]⟩]) [15,18,19,20,21] Z Z Z Z Z (up_ok hT hb hi hk) (fun r1 K2 h3=>⟨?_,?_⟩)
  ·rcases h3 with ⟨rfl,rfl⟩
   all_goals simp
  obtain ⟨rfl,rfl⟩:=h3;try simp only [cA]
  refine bS tQ ?_;refine ad [[7,15,22],[13,23],[14]] ?_;refine au 0 ?_;refine bB hret [(3,_),(s,_),(g,_)] ?_;exact ⟨by unfold mayS; rw [hst]; rfl,rfl⟩
 exact absurd g2_3 dQ
theorem zkO {main:Bool} {T:Goroutine->Hp->Prop} (hT:zk tp main T)  {b:StB} {s g:Nat} {sp:List StA} {i k:Nat} (hb:StOk b) (hi:i<b.groups.length) (hk:k<b.stairs.length) (hst:(atI sp i).stage=1) :
  zh tp T gmS 186 [.agg (stbC b s g),.agg (spC sp),.agg [intA (i:Int),intA (k:Int)]] [(3,allowsG),(s,stO b),(g,grO b)] (fun r K'=>r=zm (mayS b sp i k)/\K'=[(3,allowsG),(s,stO b),(g,grO b)]):=by
 refine ze 24 hT Tryz.func186 fun Y hret=>?_;refine au 0 ?_;have hng:=hb.ngr;have hns:=hb.nst;have hgm:=kW hb hi;have hsb:=vw hb hk;have hpl:=hb.plat;have b1:=at_bd hb sp 1;have b2:=at_bd hb sp 2;have b3:=on_bd hb sp 1 k;have b4:=on_bd hb sp 3 k;refine au 21042 ?_;intro jb hjb;refine au 210 ?_;intro jp hjp;refine au 210 ?_;intro jm hjm;refine au 6906704235 ?_;refine bH Z (yo Z Z Z ArEl.h oQ oQ) ?_;refine au 670 ?_;refine bH Z (zl Z Z zd.h mQ (uI (i:=i) oQ oQ)) ?_;rw [hst];refine au 235 ?_;refine bL [0,1,2,3,4,5,6,7,8,9,10,11] ?_;refine ad [[1,7],[4,13],[1,14]] ?_;refine bW 15 (fun g2_3=>?_) (fun g2_3=>?_)
 ·refine ad [[1,7,15]] ?_;refine bU [15,16] Z (yo Z Z Z ArEl.h oQ oQ) ?_;refine ad [[10,15,17],[12,3,15],[12,4,15],[12,5,15]] ?_;refine bQ (pend':=[⟨4,[15,16],[]⟩,⟨3,[7,15],[]⟩,⟨1,[13],[]⟩,⟨0,[7],[]⟩]) [15,18,19,20,21] Z Z Z Z Z (zhs hT hb hi hk) (fun r1 K2 h3=>⟨?_,?_⟩)
  ·rcases h3 with ⟨rfl,rfl⟩
   all_goals simp
  obtain ⟨rfl,rfl⟩:=h3;try simp only [cA]
  refine bS tQ ?_;refine ad [[7,15,22],[13,23],[14]] ?_;refine au 0 ?_;refine bB hret [(3,_),(s,_),(g,_)] ?_;exact ⟨by unfold mayS; rw [hst]; rfl,rfl⟩
 exact absurd g2_3 dQ
theorem zkP {main:Bool} {T:Goroutine->Hp->Prop} (hT:zk tp main T)  {b:StB} {s g:Nat} {sp:List StA} {i k:Nat} (hb:StOk b) (hi:i<b.groups.length) (hk:k<b.stairs.length) (hst:(atI sp i).stage=2) :
  zh tp T gmS 186 [.agg (stbC b s g),.agg (spC sp),.agg [intA (i:Int),intA (k:Int)]] [(3,allowsG),(s,stO b),(g,grO b)] (fun r K'=>r=zm (mayS b sp i k)/\K'=[(3,allowsG),(s,stO b),(g,grO b)]):=by
 refine ze 24 hT Tryz.func186 fun Y hret=>?_;refine au 0 ?_;have hng:=hb.ngr;have hns:=hb.nst;have hgm:=kW hb hi;have hsb:=vw hb hk;have hpl:=hb.plat;have b1:=at_bd hb sp 1;have b2:=at_bd hb sp 2;have b3:=on_bd hb sp 1 k;have b4:=on_bd hb sp 3 k;refine au 21042 ?_;intro jb hjb;refine au 210 ?_;intro jp hjp;refine au 210 ?_;intro jm hjm;refine au 6906704235 ?_;refine bH Z (yo Z Z Z ArEl.h oQ oQ) ?_;refine au 670 ?_;refine bH Z (zl Z Z zd.h mQ (uI (i:=i) oQ oQ)) ?_;rw [hst];refine au 235 ?_;refine bL [0,1,2,3,4,5,6,7,8,9,10,11] ?_;refine ad [[1,7],[4,13],[1,14]] ?_;refine bW 15 (fun g2_3=>?_) (fun g2_3=>?_)
 ·refine ad [[1,7,15]] ?_;refine bU [15,16] Z (yo Z Z Z ArEl.h oQ oQ) ?_;refine ad [[10,15,17],[12,3,15],[12,4,15],[12,5,15]] ?_;refine bQ (pend':=[⟨4,[15,16],[]⟩,⟨3,[7,15],[]⟩,⟨1,[13],[]⟩,⟨0,[7],[]⟩]) [15,18,19,20,21] Z Z Z Z Z (zks hT hb hi hk) (fun r1 K2 h3=>⟨?_,?_⟩)
  ·rcases h3 with ⟨rfl,rfl⟩
   all_goals simp
  obtain ⟨rfl,rfl⟩:=h3;try simp only [cA]
  refine bS tQ ?_;refine ad [[7,15,22],[13,23],[14]] ?_;refine au 0 ?_;refine bB hret [(3,_),(s,_),(g,_)] ?_;exact ⟨by unfold mayS; rw [hst]; rfl,rfl⟩
 exact absurd g2_3 dQ
theorem zkQ {main:Bool} {T:Goroutine->Hp->Prop} (hT:zk tp main T)  {b:StB} {s g:Nat} {sp:List StA} {i k:Nat} (hb:StOk b) (hi:i<b.groups.length) (hk:k<b.stairs.length) (hst:(atI sp i).stage=3) :
  zh tp T gmS 186 [.agg (stbC b s g),.agg (spC sp),.agg [intA (i:Int),intA (k:Int)]] [(3,allowsG),(s,stO b),(g,grO b)] (fun r K'=>r=zm (mayS b sp i k)/\K'=[(3,allowsG),(s,stO b),(g,grO b)]):=by
 refine ze 24 hT Tryz.func186 fun Y hret=>?_;refine au 0 ?_;have hng:=hb.ngr;have hns:=hb.nst;have hgm:=kW hb hi;have hsb:=vw hb hk;have hpl:=hb.plat;have b1:=at_bd hb sp 1;have b2:=at_bd hb sp 2;have b3:=on_bd hb sp 1 k;have b4:=on_bd hb sp 3 k;refine au 21042 ?_;intro jb hjb;refine au 210 ?_;intro jp hjp;refine au 210 ?_;intro jm hjm;refine au 6906704235 ?_;refine bH Z (yo Z Z Z ArEl.h oQ oQ) ?_;refine au 670 ?_;refine bH Z (zl Z Z zd.h mQ (uI (i:=i) oQ oQ)) ?_;rw [hst];refine au 235 ?_;refine bL [0,1,2,3,4,5,6,7,8,9,10,11] ?_;refine ad [[1,7],[4,13],[1,14]] ?_;refine bW 15 (fun g2_3=>?_) (fun g2_3=>?_)
 ·refine ad [[1,7,15]] ?_;refine bU [15,16] Z (yo Z Z Z ArEl.h oQ oQ) ?_;refine ad [[10,15,17],[12,3,15],[12,4,15],[12,5,15]] ?_;refine bQ (pend':=[⟨4,[15,16],[]⟩,⟨3,[7,15],[]⟩,⟨1,[13],[]⟩,⟨0,[7],[]⟩]) [15,18,19,20,21] Z Z Z Z Z (zjA hT hb hi hk) (fun r1 K2 h3=>⟨?_,?_⟩)
  ·rcases h3 with ⟨rfl,rfl⟩
   all_goals simp
  obtain ⟨rfl,rfl⟩:=h3;try simp only [cA]
  refine bS tQ ?_;refine ad [[7,15,22],[13,23],[14]] ?_;refine au 0 ?_;refine bB hret [(3,_),(s,_),(g,_)] ?_;exact ⟨by unfold mayS; rw [hst]; rfl,rfl⟩
 exact absurd g2_3 dQ
theorem zlG {main:Bool} {T:Goroutine->Hp->Prop} (hT:zk tp main T) {b:StB} {s g:Nat} {sp:List StA} {i k:Nat} (hb:StOk b) (hi:i<b.groups.length) (hk:k<b.stairs.length) (hst:0<=(atI sp i).stage/\(atI sp i).stage<4) :
  zh tp T gmS 186 [.agg (stbC b s g),.agg (spC sp),.agg [intA (i:Int),intA (k:Int)]] [(3,allowsG),(s,stO b),(g,grO b)] (fun r K'=>r=zm (mayS b sp i k)/\K'=[(3,allowsG),(s,stO b),(g,grO b)]):=by
 have:(atI sp i).stage=0\/(atI sp i).stage=1\/(atI sp i).stage=2\/(atI sp i).stage=3:=by omega
 rcases this with h | h | h | h
 ·exact zkN hT hb hi hk h
 ·exact zkO hT hb hi hk h
 ·exact zkP hT hb hi hk h
 ·exact zkQ hT hb hi hk h
def YieldG (P:Program) (T:Goroutine->Hp->Prop) (gm:Nat->Option Nat) {α:Type} (Fx:KV) (ar:α->AV) (l:Nat) (J:List α->KV->Prop) (D:KV->Prop) (tot:List α):Prop:=∀ (pre:List α) (x:α) (K1:KV),pre++[x] <+: tot->J pre K1 ->
 CallFK P T gm (.yl l) [ar x] (Fx++K1) fun r K'=>∃ K2,K'=Fx++K2/\((r=zm true/\J (pre++[x]) K2)\/(r=zm false/\D K2))
section
variable {P:Program} {main:Bool} {T:Goroutine->Hp->Prop} {gm:Nat->Option Nat} {Y:KX P gm T} {ds:List Nat} {k:List Item} {env:List AV} {K K0 R:KV} {ops:Array Oper} {i:Nat} {rest:List Nat} {o:Oper}
theorem TK.rangeG {α:Type} (hT:zk P main T) {fo:Operand} {ps:Array Tmp} {x y:Code} {g:FuncId} {fs cp:List AV} {Fx:KV} {ar:α->AV} {tot:List α} {J:List α->KV->Prop} {D:Code->KV->Prop} (hps:ps.size=1) (hro:Y.X.ro=none) (hf:zw gm env fo=some (.fn g fs cp)) (hg:yg P g=true) (hs:Split K (Fx++K0) R) (hJ0:J [] K0)
  (hit:∀ (l:Nat) (J':List α->KV->Prop) (D':KV->Prop) (K1:KV),YieldG P T gm Fx ar l J' D' tot->J' [] K1->zh P T gm g (fs++[.yl l]++cp) (Fx++K1) (fun _ K'=>∃ K2,K'=Fx++K2/\(J' tot K2\/D' K2)))
  (round:∀ (Y':KX P gm T) (l:Nat) (lo lb:AObj) (pre:List α) (S:α) (K1:KV),(∀ ds k env' K K',Upd K l lo l lb K'->TK Y' ds k env' K'->TK Y' ds (.beginRound::k) env' K) ->
   (∀ env' K' K2 D',Split K' ((l,lb)::(Fx++K2)) D'->J (pre++[S]) K2->TK Y' [] [] env' K') ->
   (∀ c k env' K' K2 D',Leave (some c) k->Split K' ((l,lb)::(Fx++K2)) D'->D c K2->TK Y' [] k env' K') ->
   pre++[S] <+: tot->J pre K1->TK Y' [] [.code x,.beginRound,.code y] (putAll env (ps.toList.zip [ar S])) ((l,lo)::(Fx++K1)))
  (hend:∀ d K2,J tot K2->TK Y (d::ds) k env ((d,.raw (.deferred (some [])))::(Fx++(K2++R))))
  (hstop:∀ d c K2,D c K2->TK Y (d::ds) (.code c::k) env ((d,.raw (.deferred (some [])))::(Fx++(K2++R)))):TK Y ds (.code (.rangeFunc fo ps x y)::k) env K:=by
 refine TK.rangeFunc (Post:=fun l _ K'=>∃ st pj K2,K'=(l,.loop Y.X.f env ps x y st pj)::(Fx++K2)/\((st=.ready/\pj=none/\J tot K2)\/∃ c,st=.done/\pj=some c/\D c K2))
  (Q:=fun pj K'=>∃ K2,K'=Fx++K2/\((pj=none/\J tot K2)\/∃ c,pj=some c/\D c K2)) hro hf hg hs (fun l hl=>?_) ?_ ?_
 ·intro A hv hn;have hp:((l,AObj.loop Y.X.f env ps x y .ready none)::(Fx++K0)).Perm (Fx++(l,.loop Y.X.f env ps x y .ready none)::K0):=List.perm_middle.symm;refine CallT.mono (hit l (fun pre K=>∃ K3,K=(l,.loop Y.X.f env ps x y .ready none)::K3/\J pre K3) (fun K=>∃ c K3,K=(l,.loop Y.X.f env ps x y .done (some c))::K3/\D c K3) _ ?_ ⟨K0,rfl,hJ0⟩ A (hv.sub fun x hx=>hp.symm.subset hx) ((zU hp).nodup_iff.1 hn)) ?_
  ·rintro pre S K1 hpre ⟨K3,rfl,hJ⟩;refine CallFK.perm (Post:=fun r K'=>(r=zm true/\∃ K2,K'=(l,.loop Y.X.f env ps x y .ready none)::(Fx++K2)/\J (pre++[S]) K2)\/(r=zm false/\∃ c K2,K'=(l,.loop Y.X.f env ps x y .done (some c))::(Fx++K2)/\D c K2)) ?_ ?_
   ·refine zdo hT (i:=l) (f:=Y.X.f) (env:=env) (ps:=ps) (x:=x) (y:=y) sQ hps.symm fun Y' hro' hl' hret=>?_;refine bN List.perm_middle ?_;refine round Y' l (.loop Y.X.f env ps x y .ready none) (.loop Y.X.f env ps x y .busy none) pre S K3 (fun ds k env' K K' hu h=>TK.beginRound hro' hl' hu h) (fun env' K' K2 D' hsp hJ'=>?_) (fun c k env' K' K2 D' hlv hsp hD=>?_) hpre hJ
    ·exact TK.leave .fin fun A hA=>hret none env' K' (Fx++K2) D' .busy none hsp (.inl ⟨rfl,K2,rfl,hJ'⟩) A hA
    ·exact TK.leave hlv fun A hA=>hret (some c) env' K' (Fx++K2) D' .busy none hsp (.inr ⟨rfl,c,K2,rfl,hD⟩) A hA
   ·rintro r K' (⟨rfl,K2,rfl,h⟩ | ⟨rfl,c,K2,rfl,h⟩)
    ·exact ⟨_,List.perm_middle.symm,_,rfl,.inl ⟨rfl,K2,rfl,h⟩⟩
    ·exact ⟨_,List.perm_middle.symm,_,rfl,.inr ⟨rfl,c,K2,rfl,h⟩⟩
  ·rintro r A' ⟨K',hk,K2,rfl,h⟩;have hk2:∀ K'',(Fx++K2).Perm K''->Kstep ((l,AObj.loop Y.X.f env ps x y .ready none)::(Fx++K0)) A K'' A':=fun K'' hp2 =>
    Kstep.perm ⟨hk.view,hk.nd,fun i hi=>(hk.own i hi).imp_left fun h=>(zU hp).symm.subset h,fun j h1 h2=>hk.kept j h1 fun h=>h2 ((zU hp).symm.subset h),hk.len⟩ hp2
   rcases h with ⟨K3,rfl,h⟩ | ⟨c,K3,rfl,h⟩
   ·exact ⟨_,hk2 _ List.perm_middle,.ready,none,K3,rfl,.inl ⟨rfl,rfl,h⟩⟩
   ·exact ⟨_,hk2 _ List.perm_middle,.done,some c,K3,rfl,.inr ⟨c,rfl,rfl,h⟩⟩
 ·rintro l r K' ⟨st,pj,K2,rfl,h⟩;refine ⟨st,pj,_,rfl,?_,K2,rfl,?_⟩
  ·rcases h with ⟨rfl,_⟩ | ⟨c,rfl,_⟩ <;> rfl
  ·rcases h with ⟨_,rfl,h⟩ | ⟨c,_,rfl,h⟩
   ·exact .inl ⟨rfl,h⟩
   ·exact .inr ⟨c,rfl,h⟩
 ·rintro d pj K' ⟨K2,rfl,⟨rfl,h⟩ | ⟨c,rfl,h⟩⟩
  ·rw [List.append_assoc]; exact hend d K2 h
  ·rw [List.append_assoc]; exact hstop d c K2 h
theorem TK.lookF (hP:KeyS P) {G:List StA->Int×Int->Prop} {x y:Operand} {j:Nat} {s:List StA} {ob:Obj} (ho:ops[i]? =some o) (hop:o.op=.lookup 134 x y true) (hd:yf o.op=false) (hw:yb ops env o=some true) (hx:zw gm env x=some (.map j)) (hy:zw gm env y=some (.agg (spC s))) (hs:s.length=4) (hm:(j,.raw ob)∈K) (hf:MapF ob G)
  (h:∀ f ok,(ok=true->G s f)->TK Y ds (.inRegion ops rest::k) (putA env o.dst (.tup [.agg (fcC f),zm ok])) K):TK Y ds (.inRegion ops (i::rest)::k) env K:=by
 obtain ⟨f,ok,h1,h2⟩:=zk1 (V:=K) hP hop hx hy hs hm hf;exact TK.q ho hd hw h2 rfl (h f ok h1)
theorem TK.updF (hP:KeyS P) {G:List StA->Int×Int->Prop} {x y z:Operand} {j:Nat} {s:List StA} {f:Int×Int} {ob:Obj} {K':Obj->KV} (ho:ops[i]? =some o) (hop:o.op=.mapUpdate 134 x y z) (hd:yf o.op=false) (hw:yb ops env o=some true) (hdst:o.dst=none) (hx:zw gm env x=some (.map j)) (hy:zw gm env y=some (.agg (spC s))) (hz:zw gm env z=some (.agg (fcC f))) (hs:s.length=4) (hm:(j,.raw ob)∈K) (hf:MapF ob G) (hG:G s f)
  (hu:∀ ob',Upd K j (.raw ob) j (.raw ob') (K' ob')) (h:∀ ob',MapF ob' G->TK Y ds (.inRegion ops rest::k) env (K' ob')):TK Y ds (.inRegion ops (i::rest)::k) env K:=by
 obtain ⟨ob',h1,h2⟩:=zlT (V:=K) hP hop hx hy hz hs hm hf hG;exact TK.st ho hd hw h2 (hu ob') (by rw [hdst]; rfl) (h ob' h1)
end
def movesK (b:StB) (s:List StA) (i k:Nat):List (Nat×Nat):=((List.range k).filter fun k=>mayS b s i k).map fun k=>(i,k)
def movesP (b:StB) (s:List StA) (i:Nat):List (Nat×Nat):=(List.range i).flatMap (movesI b s)
theorem vV {b:StB} {s:List StA} {i k:Nat}:movesK b s i (k+1)=movesK b s i k++if mayS b s i k=true then [(i,k)] else []:=by
 unfold movesK;rw [List.range_succ,List.filter_append,lM];by_cases h:mayS b s i k=true
 ·rw [if_pos h]; simp [h]
 ·rw [if_neg h]; simp [h]
theorem u9 {b:StB} {s:List StA} {i:Nat}:movesP b s (i+1)=movesP b s i++movesK b s i b.stairs.length:=by
 unfold movesP;rw [List.range_succ,List.flatMap_append];simp [movesI,movesK]
theorem zbs {b:StB} {s:List StA} {i:Nat} (h:(atI s i).stage=4):∀ n,movesK b s i n=[]
 | 0=>rfl
 | n+1=>by
  rw [vV,zbs h n,if_neg (by unfold mayS; rw [h]; simp)]; rfl
theorem zgV {b:StB} {s:List StA} {i k n:Nat} (h:k<=n):movesK b s i k <+: movesK b s i n:=by
 induction n with
 | zero=>rw [show k=0 by omega]; exact List.prefix_refl _
 | succ n ih =>
  by_cases e:k=n+1
  ·rw [e]; exact List.prefix_refl _
  ·rw [vV]; exact (ih oQ).trans (List.prefix_append _ _)
theorem zgW {b:StB} {s:List StA} {i n:Nat} (h:i<=n):movesP b s i <+: movesP b s n:=by
 induction n with
 | zero=>rw [show i=0 by omega]; exact List.prefix_refl _
 | succ n ih =>
  by_cases e:i=n+1
  ·rw [e]; exact List.prefix_refl _
  ·rw [u9]; exact (ih oQ).trans (List.prefix_append _ _)
theorem zh4 {b:StB} {s:List StA} {i k:Nat} (hi:i<b.groups.length) (hk:k<b.stairs.length) (hm:mayS b s i k=true):(movesP b s i++movesK b s i k)++[(i,k)] <+: movesS b s:=by
 have h1:(movesP b s i++movesK b s i k)++[(i,k)] <+: movesP b s (i+1):=by
  rw [u9,List.append_assoc];have:movesK b s i k++[(i,k)]=movesK b s i (k+1):=by rw [vV,if_pos hm]
  rw [this];obtain ⟨t,ht⟩:=zgV (b:=b) (s:=s) (i:=i) (k:=k+1) (n:=b.stairs.length) oQ;exact ⟨t,by rw [List.append_assoc,ht]⟩
 exact h1.trans (zgW (b:=b) (s:=s) (n:=b.groups.length) oQ)
abbrev mvA (x:Nat×Nat):AV:=.agg [intA x.1,intA x.2]
instance:BlOf tp 256 [(0,1),(1,1)]:={}
instance:Cal tp 186:={}
instance:TyZ tp 256 [.int .i64 0,.int .i64 0]:={}
instance:TyZA tp 256 [.v (.int .i64 0),.v (.int .i64 0)]:={}
theorem zeV {main T} (hT:zk tp main T) {gm} {b:StB} {s g:Nat} {sp:List StA} :
  zh tp T gm 136 [.agg (stbC b s g),.agg (spC sp)] [] (fun r K'=>∃ jb jp,r=.fn 185 [] [.ptr jb 0,.ptr jp 0]/\K'=[(jb,.cells (stbC b s g) 117 true),(jp,.cells (spC sp) 133 true)]):=by
 refine ze 6 hT Tryz.func136 fun Y hret=>?_;refine au 21042 ?_;intro jb hjb;refine au 210 ?_;intro jp hjp;refine au 353204235 ?_;refine bB hret [(jb,_),(jp,_)] ?_;exact ⟨jb,jp,rfl,rfl⟩
theorem zdG {main:Bool} {T:Goroutine->Hp->Prop} (hT:zk tp main T) {b:StB} {s g l jb jp:Nat} {sp:List StA} (hb:StOk b) (hsp:SpOk sp) {J:List (Nat×Nat)->KV->Prop} {D:KV->Prop} {K1:KV} (hy:YieldG tp T gmS [(jb,.cells (stbC b s g) 117 true),(jp,.cells (spC sp) 133 true),(3,allowsG),(s,stO b),(g,grO b)] mvA l J D (movesS b sp)) (hJ:J [] K1) :
  zh tp T gmS 185 [.yl l,.ptr jb 0,.ptr jp 0] ((jb,.cells (stbC b s g) 117 true)::(jp,.cells (spC sp) 133 true)::(3,allowsG)::(s,stO b)::(g,grO b)::K1) (fun _ K'=>∃ K2,K'=(jb,.cells (stbC b s g) 117 true)::(jp,.cells (spC sp) 133 true)::(3,allowsG)::(s,stO b)::(g,grO b)::K2/\(J (movesS b sp) K2\/D K2)):=by
 refine ze 41 hT Tryz.func185 fun Y hret=>?_;refine au 0 ?_;have hng:=hb.ngr;have hns:=hb.nst;refine TK.scope ?_;refine au 13031280690670670421502 ?_;refine bA [0,1,2,10,11] ?_;refine bE (fun n env K=>∃ (i:Nat) (K2:KV),n=b.groups.length - i/\i<=b.groups.length/\J (movesP b sp i) K2/\env=zW 41 [(0,.yl l),(1,.ptr jb 0),(2,.ptr jp 0),(10,intA b.groups.length),(11,intA i)]/\K=(jb,.cells (stbC b s g) 117 true)::(jp,.cells (spC sp) 133 true)::(3,allowsG)::(s,stO b)::(g,grO b)::K2) b.groups.length ⟨0,K1,rfl,mN _,hJ,rfl,rfl⟩ fun n env K hI hnext=>?_;obtain ⟨i,K2,rfl,hi,hJ2,rfl,rfl⟩:=hI;refine au 923742 ?_;constructor<;>intro hc0
 ·have hil:i<b.groups.length:=by simp at hc0; omega
  have hsb:=hsp.bnd i;refine au 1422351421302120 ?_;refine bH Z (yo Z Z Z ArEl.h oQ oQ) ?_;refine au 670 ?_;refine bH Z (zl Z Z zd.h mQ (uI (i:=i) oQ oQ)) ?_;refine au 937 ?_;constructor<;>intro hc1
  ·refine au 312304160 ?_;refine bA [0,1,2,10,11] ?_;exact hnext _ _ _ oQ ⟨i+1,K2,rfl,oQ,by rw [u9,zbs (by simpa using hc1),lR]; exact hJ2,rfl,rfl⟩
  have h4:(atI sp i).stage≠4:=by simpa using hc1
  refine au 1303128069067067042120 ?_;refine bA [0,1,2,4,10,11,22,23] ?_;refine bE (fun n env K=>∃ (q:Nat) (K3:KV),n=b.stairs.length - q/\q<=b.stairs.length/\J (movesP b sp i++movesK b sp i q) K3/\env=zW 41 [(0,.yl l),(1,.ptr jb 0),(2,.ptr jp 0),(4,intA i),(10,intA b.groups.length),(11,intA i),(22,intA b.stairs.length),(23,intA q)]/\K=(jb,.cells (stbC b s g) 117 true)::(jp,.cells (spC sp) 133 true)::(3,allowsG)::(s,stO b)::(g,grO b)::K3) b.stairs.length ⟨0,K2,rfl,mN _,by rw [show movesK b sp i 0=[] from rfl,lR]; exact hJ2,rfl,rfl⟩ fun n env K hI hnext2=>?_;obtain ⟨q,K3,rfl,hq,hJ3,rfl,rfl⟩:=hI;refine au 923742 ?_;constructor<;>intro hc2
  ·have hql:q<b.stairs.length:=by simp at hc2; omega
   refine au 2203901142351421302120 ?_;intro jm hjm;refine au 680680680423170 ?_;refine bD Z Z Z Z (zlG hT hb hil hql ⟨hsb.1,oQ⟩) ?_ (hs:=(.right (.right (.right (.left (.left (.left (.none _))))))));rintro r1 K2 ⟨rfl,rfl⟩;refine au 0 ?_;refine bN (K':=(jm,_)::(jb,_)::(jp,_)::(3,_)::(s,_)::(g,_)::K3) (List.perm_append_comm_assoc [(3,_),(s,_),(g,_)] [(jm,_),(jb,_),(jp,_)] K3) ?_;refine au 1 ?_;refine bF 33 (fun g8_5=>?_) (fun g8_5=>?_)
   ·refine au 6801 ?_;refine TK.callF' Z Z Z Z Z (hy _ (i,q) K3 (zh4 hil hql g8_5) hJ3) (.right (.all _)) fun r4 K5 h6=>?_;rcases h6 with ⟨K4,rfl,⟨rfl,hJ4⟩ | ⟨rfl,hD⟩⟩
    ·refine au 0 ?_;refine bN (K':=(jm,_)::(jb,_)::(jp,_)::(3,_)::(s,_)::(g,_)::K4) (lH (l₁:=(jb,_)::(jp,_)::(3,_)::(s,_)::(g,_)::K4)) ?_;refine au 3123041401201903260300 ?_;refine bA [0,1,2,4,10,11,22,23] ?_;refine bC (((jb,_)::(jp,_)::(3,_)::(s,_)::(g,_)::K4)) ?_;exact hnext2 _ _ _ oQ ⟨q+1,K4,rfl,oQ,by rw [vV,if_pos g8_5,<- List.append_assoc]; exact hJ4,rfl,rfl⟩
    ·refine au 0 ?_;refine bN (K':=(jm,_)::(jb,_)::(jp,_)::(3,_)::(s,_)::(g,_)::K4) (lH (l₁:=(jb,_)::(jp,_)::(3,_)::(s,_)::(g,_)::K4)) ?_;refine au 1803260300 ?_;refine bB hret (_) ?_ (hs:=(.right (.all _)));exact ⟨_,rfl,.inr hD⟩
   refine au 31230414012019032508888 ?_;refine bA [0,1,2,4,10,11,22,23] ?_;refine bC (((jb,_)::(jp,_)::(3,_)::(s,_)::(g,_)::K3)) ?_;exact hnext2 _ _ _ oQ ⟨q+1,K3,rfl,oQ,by rw [vV,if_neg (by rw [g8_5]; decide),lR]; exact hJ3,rfl,rfl⟩
  obtain rfl:q=b.stairs.length:=by simp at hc2; omega
  refine au 312304140160 ?_;refine bA [0,1,2,10,11] ?_;exact hnext _ _ _ oQ ⟨i+1,K3,rfl,oQ,by rw [u9]; exact hJ3,rfl,rfl⟩
 obtain rfl:i=b.groups.length:=by simp at hc0; omega
 refine au 160 ?_;refine TK.inScope ?_;refine au 0 ?_;refine TK.rt0 hret (_) ?_ (hs:=(.all _));exact ⟨_,rfl,.inl hJ2⟩
def fogG:AObj:=.cells [intA (-1),intA 0] 127 false
def GoodF (b:StB) (s:List StA) (f:Int×Int):Prop:=f=(-1,0)\/f.2=mostA b s
def foldM (b:StB) (sp:List StA) (l:List (Nat×Nat)):Int:=l.foldl (fun m x=>max m (mostA b (ya sp x.1 x.2))) (atS b sp 2)
theorem vL (b:StB) (sp:List StA) (l:List (Nat×Nat)) (x:Nat×Nat):foldM b sp (l++[x])=max (foldM b sp l) (mostA b (ya sp x.1 x.2)):=by unfold foldM; rw [List.foldl_append]; rfl
theorem maxI (m n:Int):max m n=if m<n then n else m:=by split <;> omega
section
variable {P:Program} {gm:Nat->Option Nat} {V:KV} {env:List AV} {o:Oper}
theorem uG {t yt:TypeId} {x y:Operand} {a c:Int} (ho:o.op=.binOp .add t x y yt) (hx:zw gm env x=some (.v (.int .i64 a))) (hy:zw gm env y=some (.v (.int .i64 c))):Qk P gm env V o (.v (.int .i64 (IntKind.i64.wrap (a+c)))):=fun A _ =>
 wl ho (by rw [zn hx]; rfl) (by rw [zn hy]; rfl) rfl
end
instance:BlOf tp 127 [(0,1),(1,1)]:={}
instance:Cal tp 136:={}
instance:Cal tp 137:={}
instance:Cal tp 185:={}
instance:Cal tp 56:={}
instance:EqG tp 127:={}
instance:FlatF tp 127 [(3,0),(3,1)]:={}
instance:zu tp 127 0 0 false 1:={}
instance:zu tp 127 1 1 false 1:={}
instance:zd tp 127 true 2:={}
instance:zd tp 134 false 1:={}
instance:TyZ tp 127 [.int .i64 0,.int .i64 0]:={}
instance:TyZA tp 127 [.v (.int .i64 0),.v (.int .i64 0)]:={}
theorem zhl {main:Bool} {T:Goroutine->Hp->Prop} (hT:zk tp main T) {b:StB} {s g:Nat} (hb:StOk b):∀ (m:Nat) (sp:List StA) (jm:Nat) (ob:Obj),restS sp=m->SpOk sp->MapF ob (GoodF b) ->
  zh tp T gmS 56 [.agg (stbC b s g),.agg (spC sp),.map jm] [(3,allowsG),(4,fogG),(s,stO b),(g,grO b),(jm,.raw ob)] (fun r K'=>∃ o ob',r=.agg (fcC (o,mostA b sp))/\MapF ob' (GoodF b)/\K'=[(3,allowsG),(4,fogG),(s,stO b),(g,grO b),(jm,.raw ob')]):=by
 refine fun m=>Nat.strongRecOn m fun m ih=>?_;intro sp jm ob hm hsp hmf;refine vm 60 hT Tryz.func56 fun Y hro hret=>?_;refine au 0 ?_;have hng:=hb.ngr;have hns:=hb.nst;have hfold:=zjI hsp hng.2;refine au 21042 ?_;intro jb hjb;refine au 210 ?_;intro jp hjp;refine au 210 ?_;intro jq hjq;refine au 220 ?_;intro jr hjr;refine au 6806904223 ?_;refine TK.lookF keyS Z Z Z Z Z Z hsp.len mQ hmf fun f0 ok0 hg0=>?_;refine au 220661 ?_;intro jf hjf;refine au 114235170 ?_;refine bF 20 (fun g2_2=>?_) (fun g2_2=>?_)
 ·refine au 680680 ?_;refine bH Z (zdQ Z Z Z Z Z FlatF.h EqG.h) ?_;refine au 93260 ?_;constructor<;>intro hc0
  ·refine au 317068042 ?_;refine TK.leave (.ret _) fun A hA=>hret _ _ _ _ ([(3,_),(4,_),(s,_),(g,_),(jm,_),(jr,_)]) ([(3,_),(4,_),(s,_),(g,_),(jm,_)]) _ _ _ (.inr rfl) (by repeat (first | exact Split.none _ | exact Split.all _ | (apply Split.rem; repeat (first | exact Rem.head | apply Rem.tail)) | apply Split.right)) sQ sQ (by repeat (first | exact Split.none _ | exact Split.all _ | (apply Split.rem; repeat (first | exact Rem.head | apply Rem.tail)) | apply Split.right)) (yQ (yR Z zd.h mQ rfl)) ?_ A hA;have hmo:f0.2=mostA b sp:=by
    rcases hg0 g2_2 with h | h
    ·rw [h] at hc0; exact absurd hc0 dQ
    ·exact h
   exact ⟨f0.1,ob,by rw [<- hmo] <;> rfl,hmf,rfl⟩
  refine au 68068069042120 ?_;refine TK.updF keyS (f:=(-1,0)) Z Z Z Z Z Z Z Z hsp.len mQ hmf (.inl Z) (fun _=>uQ) fun ob1 hob1=>?_;refine au 680680423 ?_;refine bD Z Z Z Z (at_ok hT hb) ?_;rintro r1 K2 ⟨rfl,rfl⟩;refine au 220390 ?_;intro jt hjt;refine au 220423170 ?_;intro jst hjst;refine au 6806804223170 ?_;refine bD Z Z Z Z (zeV hT) ?_;rintro r4 K5 ⟨jb2,jp2,rfl,rfl⟩;refine au 1303 ?_;refine TK.rangeG hT (Fx:=[(jb2,.cells (stbC b s g) 117 true),(jp2,.cells (spC sp) 133 true),(3,allowsG),(s,stO b),(g,grO b)]) (ar:=mvA) (tot:=movesS b sp) (J:=fun pre K1=>∃ o ob2,MapF ob2 (GoodF b)/\K1=[(jst,.cells [zm (decide (pre=[]))] 4 true),(jt,.cells [intA o,intA (foldM b sp pre)] 127 true),(jr,.cells [intA 0,intA 0] 127 true),(jq,.cells [.map jm] 134 true),(jp,.cells (spC sp) 133 true),(jb,.cells (stbC b s g) 117 true),(4,fogG),(jm,.raw ob2)]) (D:=fun _ _=>False) rfl hro rfl Cal.h (by repeat (first | exact Split.none _ | exact Split.all _ | (apply Split.rem; repeat (first | exact Rem.head | apply Rem.tail)) | apply Split.right)) ⟨0,ob1,hob1,rfl⟩ (fun l J' D' K1 hy hJ'=>zdG hT hb hsp hy hJ') (fun Y' l lo lb pre x K1 hbegin hfin hout hpre hJ=>?_) (fun d K2 hJ=>?_) (fun d c K2 hD=>?_)
  ·obtain ⟨o,ob2,hmf2,rfl⟩:=hJ;obtain ⟨i,k⟩:=x;obtain ⟨hi,hk,hmay⟩:=wC.1 (hpre.subset (List.mem_append_right pre (lS.2 rfl)));have h4:=uh hmay hsp;obtain ⟨hbo,hrs⟩:=uc (k:=k) hsp (by dsimp only at hi; omega) h4;dsimp only at hi hk hbo hrs h4;simp only [cA];refine au 2204 ?_;intro jv hjv;refine au 3170 ?_;refine hbegin _ _ _ _ _ uQ ?_;refine au 2317042130 ?_;refine bM [0,1,2,4,3,5,6,7] [0,1,2,3,4,5,6,7] ?_;refine ad [[12,3],[12,4],[12,11],[10,5]] ?_;refine TD.c2 (i1:=3) (i2:=6) (pend1:=[⟨4,[5],[(_,_)]⟩,⟨0,[3],[(_,_)]⟩]) (pend2:=[⟨4,[5],[(_,_)]⟩,⟨2,[11],[(_,_)]⟩,⟨1,[4],[(_,_)]⟩,⟨0,[3],[(_,_)]⟩]) (L1:=[5,6,7]) (L2:=[3,5,7]) [38,39] [] Z Z Z Z Z Z Z ?_ ?_
   ·refine k8 Z Z Cal.h Z (vE hT hsp oQ h4 oQ) (by repeat (first | exact Split.none _ | exact Split.all _ | (apply Split.rem; repeat (first | exact Rem.head | apply Rem.tail)) | apply Split.right)) fun r7 K8 h9=>⟨?_,?_⟩
    ·rcases h9 with ⟨rfl,rfl⟩
     all_goals simp
    obtain ⟨rfl,rfl⟩:=h9;try simp only [cA]
    refine bS (env':=[_,_,_,_,_,_,_,_,_,_,_,_,_,_,_,_,_,_,_,_,_,_,_,_,_,_,_,_,_,_,_,_,_,_,_,_,_,_,_,_,_,_,_,_,_,_,_,_,_,_,_,_,_,_,_,_,_,_,_,_]) Z ?_;refine TD.c2 (i1:=5) (i2:=6) (pend1:=[]) (pend2:=[⟨4,[5],[(_,_)]⟩,⟨0,[3],[(_,_)]⟩]) (L1:=[6,7]) (L2:=[5,7]) [37,40,41] [] Z Z Z Z Z Z Z ?_ ?_
    ·refine k8 Z Z Cal.h Z (ih (restS (ya sp i k)) oQ (ya sp i k) jm ob2 Z hbo hmf2) (by repeat (first | exact Split.none _ | exact Split.all _ | (apply Split.rem; repeat (first | exact Rem.head | apply Rem.tail)) | apply Split.right)) fun r10 K11 h12=>⟨?_,?_⟩
     ·rcases h12 with ⟨o2,ob3,rfl,hob3,rfl⟩
      all_goals simp
     obtain ⟨o2,ob3,rfl,hob3,rfl⟩:=h12;try simp only [cA]
     refine bS (env':=[_,_,_,_,_,_,_,_,_,_,_,_,_,_,_,_,_,_,_,_,_,_,_,_,_,_,_,_,_,_,_,_,_,_,_,_,_,_,_,_,_,_,_,_,_,_,_,_,_,_,_,_,_,_,_,_,_,_,_,_]) Z ?_;refine bX (pend':=[]) [] Z Z Z Z Z (zG Z TyZA.h) (fun _=>zz rfl tQ) sQ fun jg hjg=>?_;refine bR (pend':=[]) [12,42] Z Z (zq Z Z zd.h Z Z mQ Z) ?_;refine ad [[14]] ?_;refine au 6906706906704 ?_;refine bH Z (uG Z Z Z) ?_;refine au 690670690670 ?_;refine bH Z (q_max Z Z Z) ?_;refine au 1403170390 ?_;exact hfin _ _ [(jst,_),(jt,_),(jr,_),(jq,_),(jp,_),(jb,_),(4,_),(jm,_)] _ (by repeat (first | exact Split.none _ | exact Split.all _ | (apply Split.rem; repeat (first | exact Rem.head | apply Rem.tail)) | apply Split.right)) ⟨_,ob3,hob3,by rw [vL,maxI,decide_eq_false (show ¬ pre++[((i,k):Nat×Nat)]=[] by simp)] <;> rfl⟩
    ·refine yc Z (zG Z TyZA.h) (fun _=>zz rfl tQ) sQ fun jg hjg=>?_;refine bQ (pend':=[]) [37,40,41] Z Z Z Z Z (ih (restS (ya sp i k)) oQ (ya sp i k) jm ob2 Z hbo hmf2) (fun r13 K14 h15=>⟨?_,?_⟩)
     ·rcases h15 with ⟨o2,ob3,rfl,hob3,rfl⟩
      all_goals simp
     obtain ⟨o2,ob3,rfl,hob3,rfl⟩:=h15;try simp only [cA]
     refine bS tQ ?_;refine bR (pend':=[]) [12,42] Z Z (zq Z Z zd.h Z Z mQ Z) ?_;refine ad [[14]] ?_;refine au 6906706906704 ?_;refine bH Z (uG Z Z Z) ?_;refine au 690670690670 ?_;refine bH Z (q_max Z Z Z) ?_;refine au 1403170390 ?_;exact hfin _ _ [(jst,_),(jt,_),(jr,_),(jq,_),(jp,_),(jb,_),(4,_),(jm,_)] _ (by repeat (first | exact Split.none _ | exact Split.all _ | (apply Split.rem; repeat (first | exact Rem.head | apply Rem.tail)) | apply Split.right)) ⟨_,ob3,hob3,by rw [vL,maxI,decide_eq_false (show ¬ pre++[((i,k):Nat×Nat)]=[] by simp)] <;> rfl⟩
   ·refine yc Z (zG Z TyZA.h) (fun _=>zz rfl tQ) sQ fun jg hjg=>?_;refine bQ (pend':=[⟨4,[5],[(_,_)]⟩,⟨0,[3],[(_,_)]⟩]) [38,39] Z Z Z Z Z (vE hT hsp oQ h4 oQ) (fun r16 K17 h18=>⟨?_,?_⟩)
    ·rcases h18 with ⟨rfl,rfl⟩
     all_goals simp
    obtain ⟨rfl,rfl⟩:=h18;try simp only [cA]
    refine bS tQ ?_;refine bQ (pend':=[]) [37,40,41] Z Z Z Z Z (ih (restS (ya sp i k)) oQ (ya sp i k) jm ob2 Z hbo hmf2) (fun r19 K20 h21=>⟨?_,?_⟩)
    ·rcases h21 with ⟨o2,ob3,rfl,hob3,rfl⟩
     all_goals simp
    obtain ⟨o2,ob3,rfl,hob3,rfl⟩:=h21;try simp only [cA]
    refine bS tQ ?_;refine bR (pend':=[]) [12,42] Z Z (zq Z Z zd.h Z Z mQ Z) ?_;refine ad [[14]] ?_;refine au 6906706906704 ?_;refine bH Z (uG Z Z Z) ?_;refine au 690670690670 ?_;refine bH Z (q_max Z Z Z) ?_;refine au 1403170390 ?_;exact hfin _ _ [(jst,_),(jt,_),(jr,_),(jq,_),(jp,_),(jb,_),(4,_),(jm,_)] _ (by repeat (first | exact Split.none _ | exact Split.all _ | (apply Split.rem; repeat (first | exact Rem.head | apply Rem.tail)) | apply Split.right)) ⟨_,ob3,hob3,by rw [vL,maxI,decide_eq_false (show ¬ pre++[((i,k):Nat×Nat)]=[] by simp)] <;> rfl⟩
  ·obtain ⟨o,ob2,hmf2,rfl⟩:=hJ;simp only [cA];rw [show foldM b sp (movesS b sp)=mostA b sp from hfold.symm];refine au 93690422140 ?_;constructor<;>intro hc1
   ·refine au 6806806904231706704 ?_;refine TK.updF keyS (f:=(_,mostA b sp)) Z Z Z Z Z Z Z Z hsp.len mQ hmf2 (.inr Z) (fun _=>uQ) fun ob4 hob4=>?_;refine au 3170680423 ?_;refine TK.leave (.ret _) fun A hA=>hret _ _ _ _ ([(3,_),(4,_),(s,_),(g,_),(jm,_),(jr,_)]) ([(3,_),(4,_),(s,_),(g,_),(jm,_)]) _ _ _ (.inr rfl) (by repeat (first | exact Split.none _ | exact Split.all _ | (apply Split.rem; repeat (first | exact Rem.head | apply Rem.tail)) | apply Split.right)) sQ sQ (by repeat (first | exact Split.none _ | exact Split.all _ | (apply Split.rem; repeat (first | exact Rem.head | apply Rem.tail)) | apply Split.right)) (yQ (yR Z zd.h mQ rfl)) ?_ A hA;exact ⟨_,ob4,rfl,hob4,rfl⟩
   refine au 68068069042120 ?_;refine TK.updF keyS (f:=(_,mostA b sp)) Z Z Z Z Z Z Z Z hsp.len mQ hmf2 (.inr Z) (fun _=>uQ) fun ob4 hob4=>?_;refine au 3170680423 ?_;refine TK.leave (.ret _) fun A hA=>hret _ _ _ _ ([(3,_),(4,_),(s,_),(g,_),(jm,_),(jr,_)]) ([(3,_),(4,_),(s,_),(g,_),(jm,_)]) _ _ _ (.inr rfl) (by repeat (first | exact Split.none _ | exact Split.all _ | (apply Split.rem; repeat (first | exact Rem.head | apply Rem.tail)) | apply Split.right)) sQ sQ (by repeat (first | exact Split.none _ | exact Split.all _ | (apply Split.rem; repeat (first | exact Rem.head | apply Rem.tail)) | apply Split.right)) (yQ (yR Z zd.h mQ rfl)) ?_ A hA;exact ⟨_,ob4,rfl,hob4,rfl⟩
  ·exact hD.elim
 refine au 680680690421201903250888 ?_;refine TK.updF keyS (f:=(-1,0)) Z Z Z Z Z Z Z Z hsp.len mQ hmf (.inl Z) (fun _=>uQ) fun ob1 hob1=>?_;refine au 680680423 ?_;refine bD Z Z Z Z (at_ok hT hb) ?_;rintro r22 K23 ⟨rfl,rfl⟩;refine au 220390 ?_;intro jt hjt;refine au 220423170 ?_;intro jst hjst;refine au 6806804223170 ?_;refine bD Z Z Z Z (zeV hT) ?_;rintro r25 K26 ⟨jb2,jp2,rfl,rfl⟩;refine au 1303 ?_;refine TK.rangeG hT (Fx:=[(jb2,.cells (stbC b s g) 117 true),(jp2,.cells (spC sp) 133 true),(3,allowsG),(s,stO b),(g,grO b)]) (ar:=mvA) (tot:=movesS b sp) (J:=fun pre K1=>∃ o ob2,MapF ob2 (GoodF b)/\K1=[(jst,.cells [zm (decide (pre=[]))] 4 true),(jt,.cells [intA o,intA (foldM b sp pre)] 127 true),(jr,.cells [intA 0,intA 0] 127 true),(jq,.cells [.map jm] 134 true),(jp,.cells (spC sp) 133 true),(jb,.cells (stbC b s g) 117 true),(4,fogG),(jm,.raw ob2)]) (D:=fun _ _=>False) rfl hro rfl Cal.h (by repeat (first | exact Split.none _ | exact Split.all _ | (apply Split.rem; repeat (first | exact Rem.head | apply Rem.tail)) | apply Split.right)) ⟨0,ob1,hob1,rfl⟩ (fun l J' D' K1 hy hJ'=>zdG hT hb hsp hy hJ') (fun Y' l lo lb pre x K1 hbegin hfin hout hpre hJ=>?_) (fun d K2 hJ=>?_) (fun d c K2 hD=>?_)
 ·obtain ⟨o,ob2,hmf2,rfl⟩:=hJ;obtain ⟨i,k⟩:=x;obtain ⟨hi,hk,hmay⟩:=wC.1 (hpre.subset (List.mem_append_right pre (lS.2 rfl)));have h4:=uh hmay hsp;obtain ⟨hbo,hrs⟩:=uc (k:=k) hsp (by dsimp only at hi; omega) h4;dsimp only at hi hk hbo hrs h4;simp only [cA];refine au 2204 ?_;intro jv hjv;refine au 3170 ?_;refine hbegin _ _ _ _ _ uQ ?_;refine au 2317042130 ?_;refine bM [0,1,2,4,3,5,6,7] [0,1,2,3,4,5,6,7] ?_;refine ad [[12,3],[12,4],[12,11],[10,5]] ?_;refine TD.c2 (i1:=3) (i2:=6) (pend1:=[⟨4,[5],[(_,_)]⟩,⟨0,[3],[(_,_)]⟩]) (pend2:=[⟨4,[5],[(_,_)]⟩,⟨2,[11],[(_,_)]⟩,⟨1,[4],[(_,_)]⟩,⟨0,[3],[(_,_)]⟩]) (L1:=[5,6,7]) (L2:=[3,5,7]) [38,39] [] Z Z Z Z Z Z Z ?_ ?_
  ·refine k8 Z Z Cal.h Z (vE hT hsp oQ h4 oQ) (by repeat (first | exact Split.none _ | exact Split.all _ | (apply Split.rem; repeat (first | exact Rem.head | apply Rem.tail)) | apply Split.right)) fun r28 K29 h30=>⟨?_,?_⟩
   ·rcases h30 with ⟨rfl,rfl⟩
    all_goals simp
   obtain ⟨rfl,rfl⟩:=h30;try simp only [cA]
   refine bS (env':=[_,_,_,_,_,_,_,_,_,_,_,_,_,_,_,_,_,_,_,_,_,_,_,_,_,_,_,_,_,_,_,_,_,_,_,_,_,_,_,_,_,_,_,_,_,_,_,_,_,_,_,_,_,_,_,_,_,_,_,_]) Z ?_;refine TD.c2 (i1:=5) (i2:=6) (pend1:=[]) (pend2:=[⟨4,[5],[(_,_)]⟩,⟨0,[3],[(_,_)]⟩]) (L1:=[6,7]) (L2:=[5,7]) [37,40,41] [] Z Z Z Z Z Z Z ?_ ?_
   ·refine k8 Z Z Cal.h Z (ih (restS (ya sp i k)) oQ (ya sp i k) jm ob2 Z hbo hmf2) (by repeat (first | exact Split.none _ | exact Split.all _ | (apply Split.rem; repeat (first | exact Rem.head | apply Rem.tail)) | apply Split.right)) fun r31 K32 h33=>⟨?_,?_⟩
    ·rcases h33 with ⟨o2,ob3,rfl,hob3,rfl⟩
     all_goals simp
    obtain ⟨o2,ob3,rfl,hob3,rfl⟩:=h33;try simp only [cA]
    refine bS (env':=[_,_,_,_,_,_,_,_,_,_,_,_,_,_,_,_,_,_,_,_,_,_,_,_,_,_,_,_,_,_,_,_,_,_,_,_,_,_,_,_,_,_,_,_,_,_,_,_,_,_,_,_,_,_,_,_,_,_,_,_]) Z ?_;refine bX (pend':=[]) [] Z Z Z Z Z (zG Z TyZA.h) (fun _=>zz rfl tQ) sQ fun jg hjg=>?_;refine bR (pend':=[]) [12,42] Z Z (zq Z Z zd.h Z Z mQ Z) ?_;refine ad [[14]] ?_;refine au 6906706906704 ?_;refine bH Z (uG Z Z Z) ?_;refine au 690670690670 ?_;refine bH Z (q_max Z Z Z) ?_;refine au 1403170390 ?_;exact hfin _ _ [(jst,_),(jt,_),(jr,_),(jq,_),(jp,_),(jb,_),(4,_),(jm,_)] _ (by repeat (first | exact Split.none _ | exact Split.all _ | (apply Split.rem; repeat (first | exact Rem.head | apply Rem.tail)) | apply Split.right)) ⟨_,ob3,hob3,by rw [vL,maxI,decide_eq_false (show ¬ pre++[((i,k):Nat×Nat)]=[] by simp)] <;> rfl⟩
   ·refine yc Z (zG Z TyZA.h) (fun _=>zz rfl tQ) sQ fun jg hjg=>?_;refine bQ (pend':=[]) [37,40,41] Z Z Z Z Z (ih (restS (ya sp i k)) oQ (ya sp i k) jm ob2 Z hbo hmf2) (fun r34 K35 h36=>⟨?_,?_⟩)
    ·rcases h36 with ⟨o2,ob3,rfl,hob3,rfl⟩
     all_goals simp
    obtain ⟨o2,ob3,rfl,hob3,rfl⟩:=h36;try simp only [cA]
    refine bS tQ ?_;refine bR (pend':=[]) [12,42] Z Z (zq Z Z zd.h Z Z mQ Z) ?_;refine ad [[14]] ?_;refine au 6906706906704 ?_;refine bH Z (uG Z Z Z) ?_;refine au 690670690670 ?_;refine bH Z (q_max Z Z Z) ?_;refine au 1403170390 ?_;exact hfin _ _ [(jst,_),(jt,_),(jr,_),(jq,_),(jp,_),(jb,_),(4,_),(jm,_)] _ (by repeat (first | exact Split.none _ | exact Split.all _ | (apply Split.rem; repeat (first | exact Rem.head | apply Rem.tail)) | apply Split.right)) ⟨_,ob3,hob3,by rw [vL,maxI,decide_eq_false (show ¬ pre++[((i,k):Nat×Nat)]=[] by simp)] <;> rfl⟩
  ·refine yc Z (zG Z TyZA.h) (fun _=>zz rfl tQ) sQ fun jg hjg=>?_;refine bQ (pend':=[⟨4,[5],[(_,_)]⟩,⟨0,[3],[(_,_)]⟩]) [38,39] Z Z Z Z Z (vE hT hsp oQ h4 oQ) (fun r37 K38 h39=>⟨?_,?_⟩)
   ·rcases h39 with ⟨rfl,rfl⟩
    all_goals simp
   obtain ⟨rfl,rfl⟩:=h39;try simp only [cA]
   refine bS tQ ?_;refine bQ (pend':=[]) [37,40,41] Z Z Z Z Z (ih (restS (ya sp i k)) oQ (ya sp i k) jm ob2 Z hbo hmf2) (fun r40 K41 h42=>⟨?_,?_⟩)
   ·rcases h42 with ⟨o2,ob3,rfl,hob3,rfl⟩
    all_goals simp
   obtain ⟨o2,ob3,rfl,hob3,rfl⟩:=h42;try simp only [cA]
   refine bS tQ ?_;refine bR (pend':=[]) [12,42] Z Z (zq Z Z zd.h Z Z mQ Z) ?_;refine ad [[14]] ?_;refine au 6906706906704 ?_;refine bH Z (uG Z Z Z) ?_;refine au 690670690670 ?_;refine bH Z (q_max Z Z Z) ?_;refine au 1403170390 ?_;exact hfin _ _ [(jst,_),(jt,_),(jr,_),(jq,_),(jp,_),(jb,_),(4,_),(jm,_)] _ (by repeat (first | exact Split.none _ | exact Split.all _ | (apply Split.rem; repeat (first | exact Rem.head | apply Rem.tail)) | apply Split.right)) ⟨_,ob3,hob3,by rw [vL,maxI,decide_eq_false (show ¬ pre++[((i,k):Nat×Nat)]=[] by simp)] <;> rfl⟩
 ·obtain ⟨o,ob2,hmf2,rfl⟩:=hJ;simp only [cA];rw [show foldM b sp (movesS b sp)=mostA b sp from hfold.symm];refine au 93690422140 ?_;constructor<;>intro hc1
  ·refine au 6806806904231706704 ?_;refine TK.updF keyS (f:=(_,mostA b sp)) Z Z Z Z Z Z Z Z hsp.len mQ hmf2 (.inr Z) (fun _=>uQ) fun ob4 hob4=>?_;refine au 3170680423 ?_;refine TK.leave (.ret _) fun A hA=>hret _ _ _ _ ([(3,_),(4,_),(s,_),(g,_),(jm,_),(jr,_)]) ([(3,_),(4,_),(s,_),(g,_),(jm,_)]) _ _ _ (.inr rfl) (by repeat (first | exact Split.none _ | exact Split.all _ | (apply Split.rem; repeat (first | exact Rem.head | apply Rem.tail)) | apply Split.right)) sQ sQ (by repeat (first | exact Split.none _ | exact Split.all _ | (apply Split.rem; repeat (first | exact Rem.head | apply Rem.tail)) | apply Split.right)) (yQ (yR Z zd.h mQ rfl)) ?_ A hA;exact ⟨_,ob4,rfl,hob4,rfl⟩
  refine au 68068069042120 ?_;refine TK.updF keyS (f:=(_,mostA b sp)) Z Z Z Z Z Z Z Z hsp.len mQ hmf2 (.inr Z) (fun _=>uQ) fun ob4 hob4=>?_;refine au 3170680423 ?_;refine TK.leave (.ret _) fun A hA=>hret _ _ _ _ ([(3,_),(4,_),(s,_),(g,_),(jm,_),(jr,_)]) ([(3,_),(4,_),(s,_),(g,_),(jm,_)]) _ _ _ (.inr rfl) (by repeat (first | exact Split.none _ | exact Split.all _ | (apply Split.rem; repeat (first | exact Rem.head | apply Rem.tail)) | apply Split.right)) sQ sQ (by repeat (first | exact Split.none _ | exact Split.all _ | (apply Split.rem; repeat (first | exact Rem.head | apply Rem.tail)) | apply Split.right)) (yQ (yR Z zd.h mQ rfl)) ?_ A hA;exact ⟨_,ob4,rfl,hob4,rfl⟩
 ·exact hD.elim
theorem zaA {α:Type} (f:α->List AV) (hf:∀ x,(f x).all oneA=true) (xs:List α):(xs.flatMap f).all oneA=true:=by
 induction xs with
 | nil=>rfl
 | cons x xs ih=>rw [List.flatMap_cons,List.all_append,hf,ih]; rfl
instance:ApOf tp 28 203 3 24:={}
instance:ApOf tp 29 125 2 24:={}
instance:BlOf tp 133 [(0,2),(2,2),(4,2),(6,2)]:={}
instance:Cal tp 131:={}
instance:Cal tp 133:={}
instance:Cal tp 134:={}
instance:Cal tp 52:={}
instance:Cal tp 53:={}
instance:SlEl tp 247 120 1:={}
instance:TyZ tp 125 [.string ⟨#[]⟩,.int .i64 0]:={}
instance:TyZ tp 133 [.int .i64 0,.int .i64 0,.int .i64 0,.int .i64 0,.int .i64 0,.int .i64 0,.int .i64 0,.int .i64 0]:={}
instance:TyZ tp 203 [.int .i64 0,.int .i64 0,.bool false]:={}
instance:TyZA tp 117 [.v (.int .i64 0),.v (.bool false),.v (.slice none 0 0),.v (.slice none 0 0)]:={}
instance:TyZA tp 31 [.v (.int .i64 0),.v (.bool false),.v (.slice none 0 0),.v (.slice none 0 0)]:={}
instance:Und tp 247 (.slice 120):={}
theorem zfn {main:Bool} {T:Goroutine->Hp->Prop} (hT:zk tp main T)  {b:StB} {s g:Nat} (hb:StOk b) :
  zh tp T gmS 52 [.agg (stbC b s g),.v (.slice none 0 0)] [(2,stChecksG),(s,stO b),(g,grO b)] (fun r K'=>r=.tup [.agg (stbC b s g),intA 0]/\K'=[(2,stChecksG),(s,stO b),(g,grO b)]):=by
 refine ze 33 hT Tryz.func52 fun Y hret=>?_;refine au 21042 ?_;intro jb hjb;refine au 220 ?_;intro jr hjr;refine au 68042235 ?_;refine bD Z Z Z Z (uJ hT hb) ?_;rintro r1 K2 ⟨rfl,rfl⟩;refine au 93714235 ?_;constructor<;>intro hc0
 ·exact absurd hc0 dQ
 refine au 130312801422120 ?_;refine TK.loop ?_;refine au 923742 ?_;constructor<;>intro hc1
 ·exact absurd hc1 dQ
 refine au 3517041068042160 ?_;refine bB hret [(2,_),(s,_),(g,_)] ?_;exact ⟨rfl,rfl⟩
theorem zfo {main:Bool} {T:Goroutine->Hp->Prop} (hT:zk tp main T)  {b:StB} {s g j:Nat} {n:Int} (hb:StOk b) (hn:0<=n/\n<b.groups.length) :
  zh tp T gmS 52 [.agg (stbC b s g),.row j 1] [(2,stChecksG),(s,stO b),(g,grO b),(j,.row [.fn 53 [intA n] []] 120 1)] (fun r K'=>r=.tup [.agg (stbC b s g),intA 0]/\K'=[(2,stChecksG),(s,stO b),(g,grO b),(j,.row [.fn 53 [intA n] []] 120 1)]):=by
 refine ze 33 hT Tryz.func52 fun Y hret=>?_;refine au 21042 ?_;intro jb hjb;refine au 220 ?_;intro jr hjr;refine au 68042235 ?_;refine bD Z Z Z Z (uJ hT hb) ?_;rintro r1 K2 ⟨rfl,rfl⟩;refine au 93714235 ?_;constructor<;>intro hc0
 ·exact absurd hc0 dQ
 refine au 130312801422120 ?_;refine TK.loop ?_;refine au 923742 ?_;constructor<;>intro hc1
 ·
  refine au 370421302120 ?_;refine bH Z (zl Z Z zd.h mQ Z) ?_;refine au 41068014235 ?_;refine bD Z Z Z Z (zhf hT (s:=s) (g:=g) hb hn) ?_;rintro r4 K5 ⟨rfl,rfl⟩;refine au 93714235 ?_;constructor<;>intro hc2
  ·exact absurd hc2 dQ
  refine au 312304140120 ?_;refine TK.inLoop ?_;refine au 923742 ?_;constructor<;>intro hc1
  ·exact absurd hc1 dQ
  refine au 3517041068042160 ?_;refine bB hret [(2,_),(s,_),(g,_),(j,_)] ?_;exact ⟨rfl,rfl⟩
 exact absurd hc1 dQ
theorem uo {main:Bool} {T:Goroutine->Hp->Prop} (hT:zk tp main T)  {b:StB} {s g:Nat} (hb:StOk b) :
  zh tp T gmS 11 [.agg (stbC b s g)] [(2,stChecksG),(3,allowsG),(4,fogG),(s,stO b),(g,grO b)] (fun r K'=>r=.tup [intA (mostA b spot0),intA 0]/\K'=[(2,stChecksG),(3,allowsG),(4,fogG),(s,stO b),(g,grO b)]):=by
 refine ze 19 hT Tryz.func11 fun Y hret=>?_;refine au 21042 ?_;intro jb hjb;refine au 68042355 ?_;refine bD Z Z Z Z (zfn hT hb) ?_;rintro r1 K2 ⟨rfl,rfl⟩;refine au 220661 ?_;intro jx hjx;refine au 937142235170 ?_;constructor<;>intro hc0
 ·exact absurd hc0 dQ
 refine au 45068042120 ?_;refine TK.newM Z Z Z (zaJ Z) (fun _=>zz rfl tQ) fun jm hjm=>?_;refine bD Z Z Z Z (zhl hT hb _ spot0 jm _ Z zj8 (zjG _)) ?_;rintro r4 K5 ⟨o,ob2,rfl,hob2,rfl⟩;refine au 355310 ?_;refine bB hret [(2,_),(3,_),(4,_),(s,_),(g,_)] ?_;exact ⟨rfl,rfl⟩
theorem zgB {main T} (hT:zk tp main T) {gm} {j n:Nat} {l:List AV} {rw':Bool} (hl:l.length=n*3) (hone:l.all oneA=true) (hn:n<=100000) :
  zh tp T gm 133 [.sl j 0 n] [(j,.cells l 203 rw')] (fun r K'=>∃ j2,r=.row j2 n/\K'=[(j,.cells l 203 rw'),(j2,.row l 203 3)]):=by
 refine ze 8 hT Tryz.func133 fun Y hret=>?_;refine au 14223542 ?_;refine TK.nilT Z Z Z Z Und.h fun tz hz=>?_;refine au 93 ?_;constructor<;>intro hc0
 ·refine au 542 ?_;refine TK.virt 2 203 3 Z fun j0 hj0=>?_;refine au 3 ?_;refine bB hret [(j,_),(j0,_)] ?_;obtain rfl:=hz hc0;obtain rfl:=lK (by simpa using hl);exact ⟨_,rfl,rfl⟩
 refine au 42120 ?_;refine bI Z Z Z (zS (l:=[]) Z SlEl.h TyZ.h dQ dQ Z) (fun _=>zz rfl tQ) fun j1 hj1=>?_;refine au 1 ?_;refine TK.appG (envf:=fun _=>[_,_,_,_,_,_,_,_]) (ln:=l) rfl rfl rfl ApOf.h rfl mQ rfl rfl rfl (fun hp=>zcN mQ oQ (uq hl oQ)) (fun h=>by subst h; exact lK (by simpa using hl)) hone (by unfold maxLen; omega) oQ (fun _=>uQ) (fun _=>rfl) fun j2=>?_;simp only [lC,mO];refine au 35 ?_;refine bB hret [(j,_),(j2,_)] ?_;exact ⟨_,rfl,rfl⟩
theorem zgA {main T} (hT:zk tp main T) {gm} {j n:Nat} {l:List AV} {rw':Bool} (hl:l.length=n*2) (hone:l.all oneA=true) (hn:n<=100000) :
  zh tp T gm 134 [.sl j 0 n] [(j,.cells l 125 rw')] (fun r K'=>∃ j2,r=.row j2 n/\K'=[(j,.cells l 125 rw'),(j2,.row l 125 2)]):=by
 refine ze 8 hT Tryz.func134 fun Y hret=>?_;refine au 14223542 ?_;refine TK.nilT Z Z Z Z Und.h fun tz hz=>?_;refine au 93 ?_;constructor<;>intro hc0
 ·refine au 542 ?_;refine TK.virt 2 125 2 Z fun j0 hj0=>?_;refine au 3 ?_;refine bB hret [(j,_),(j0,_)] ?_;obtain rfl:=hz hc0;obtain rfl:=lK (by simpa using hl);exact ⟨_,rfl,rfl⟩
 refine au 42120 ?_;refine bI Z Z Z (zS (l:=[]) Z SlEl.h TyZ.h dQ dQ Z) (fun _=>zz rfl tQ) fun j1 hj1=>?_;refine au 1 ?_;refine TK.appG (envf:=fun _=>[_,_,_,_,_,_,_,_]) (ln:=l) rfl rfl rfl ApOf.h rfl mQ rfl rfl rfl (fun hp=>zcN mQ oQ (uq hl oQ)) (fun h=>by subst h; exact lK (by simpa using hl)) hone (by unfold maxLen; omega) oQ (fun _=>uQ) (fun _=>rfl) fun j2=>?_;simp only [lC,mO];refine au 35 ?_;refine bB hret [(j,_),(j2,_)] ?_;exact ⟨_,rfl,rfl⟩
theorem zfV {main T} (hT:zk tp main T) {gm} {b:StB} {s g:Nat} (hb:StOk b) :
  zh tp T gm 54 [.agg (stbC b s g)] [(s,stO b),(g,grO b)] (fun r K'=>∃ j1 j2,r=.agg [intA b.platform,zm b.keeper,.row j1 b.stairs.length,.row j2 b.groups.length]/\K'=[(s,stO b),(g,grO b),(j1,.row (b.stairs.flatMap stairC) 203 3),(j2,.row (b.groups.flatMap grpC) 125 2)]):=by
 refine ze 12 hT Tryz.func54 fun Y hret=>?_;refine au 0 ?_;have hng:=hb.ngr;have hns:=hb.nst;refine au 21042 ?_;intro jb hjb;refine au 220 ?_;intro jr hjr;refine au 23 ?_;refine bM [0,1,3,4,2,6,5,7,8,9] [0,1,2,3,4,5,6,7,8,9] ?_;refine ad [[3,1],[10,3],[3,1],[10,6]] ?_;refine bQ (pend':=[⟨4,[6],[(_,_)]⟩,⟨3,[1],[]⟩,⟨0,[1],[]⟩]) [4] Z Z Z Z Z (zgB hT (yr stairC 3 (fun _=>rfl) b.stairs) (zaA stairC (fun _=>rfl) _) oQ) (fun r1 K2 h3=>⟨?_,?_⟩)
 ·rcases h3 with ⟨j1,rfl,rfl⟩
  all_goals simp
 obtain ⟨j1,rfl,rfl⟩:=h3;try simp only [cA]
 refine bS tQ ?_;refine ad [[3,1]] ?_;refine bQ (pend':=[⟨6,[1],[]⟩,⟨3,[1],[]⟩,⟨0,[1],[]⟩]) [7] Z Z Z Z Z (zgA hT (yr grpC 2 (fun _=>rfl) b.groups) (zaA grpC (fun _=>rfl) _) oQ) (fun r4 K5 h6=>⟨?_,?_⟩)
 ·rcases h6 with ⟨j2,rfl,rfl⟩
  all_goals simp
 obtain ⟨j2,rfl,rfl⟩:=h6;try simp only [cA]
 refine bS tQ ?_;refine bR (pend':=[]) [5,9] Z Z (zq Z Z zd.h Z Z mQ Z) ?_;refine ad [[3,1]] ?_;refine bR (pend':=[]) [8,10] Z Z (zq Z Z zd.h Z Z mQ Z) ?_;refine ad [[14]] ?_;refine au 317068042 ?_;refine bB hret [(s,_),(g,_),(j1,_),(j2,_)] ?_;exact ⟨j1,j2,rfl,rfl⟩
end Go.Vel
namespace Go.Vel
open Go Go.Conc
section
variable {P:Program} {gm:Nat->Option Nat} {V:KV} {env:List AV} {o:Oper} {A:List AObj}
theorem zgj {φ:Nat->Loc3} {n:Nat} {loc:Loc3} {H:Hp} {lo:List AV} {e:TypeId} {size h:Nat} (ho:RelO φ n loc H (.row lo e size)) (hs0:0<size) (hh:h*size<=lo.length) (h0:0<h):0<loc.cap/\h<=loc.cap:=by
 obtain ⟨h1,h2,h3⟩:=ho;have hpos:0<h*size:=Nat.mul_pos h0 hs0;have hc:0<loc.cap:=by
  rcases mP loc.cap with e | e
  ·rw [h1 e] at hh; simp at hh; omega
  ·exact e
 obtain ⟨cur,_,hcs,_,hle,_⟩:=h3 hc;refine ⟨hc,Nat.le_of_mul_le_mul_right (c:=size) ?_ hs0⟩;omega
theorem zfe {t e:TypeId} {x:Operand} {hi:Operand} {i len size h:Nat} (ho:o.op=.slice t x none (some hi) none) (hx:zw gm env x=some (.row i len)) (ht:slElem P t=some (e,size)) (hhi:bndA (some (zK gm env hi)) len=some h) (h2:h<=len):Qk P gm env V o (.row i h):=fun A hA φ F H a hg hH hE=>by
 unfold execOp; rw [ho];have hx':=zt hg hE x;rw [zn hx] at hx';obtain ⟨ti,e1,e2,e3⟩:=kl ht;obtain ⟨hi',hl,ez⟩:=wd hx';dsimp only;obtain ⟨base,ez,hb⟩:∃ base,a.eval x=.slice base len (φ i).cap/\RelV φ A.length (.row i h) (.slice base h (φ i).cap):=by
  rcases mP (φ i).cap with e0 | e0
  ·unfold rowV at ez;rw [if_pos e0] at ez;obtain ⟨b,ez⟩:=ez;obtain rfl:len=0:=by omega
   obtain rfl:h=0:=by omega
   refine ⟨b,by rw [ez,e0],.row hi' oQ ?_⟩;unfold rowV;rw [if_pos e0,e0];exact ⟨b,rfl⟩
  ·refine ⟨_,wx e0 ez,.row hi' oQ ?_⟩;unfold rowV;rw [if_neg oQ]
 rw [ez];refine wpS_v ?_;unfold Instr.sliceAt;refine za _ _ _ (zr e1 ?_);dsimp only;unfold Instr.slice;refine za _ _ _ (zr e1 ?_);dsimp only;refine za _ _ _ (kx (low:=none) (l:=0) (high:=some (zK gm env hi)) (fun x hx=>by cases hx) (wg hg hE (some hi)) (fun _=>rfl) (fun e=>by cases e) rfl hhi (mN _) oQ ?_);dsimp only;refine za _ _ _ (yh e2 ?_);have hz:∀ b:Option Addr,(if (φ i).cap=0 then b else Option.map (fun x:Addr=>x.add (0*ti.size)) b)=b:=fun b=>by
  split
  ·rfl
  ·cases b with
   | none=>rfl
   | some x=>simp [Addr.add]
 rw [hz];exact zP.quiet hH hb
theorem zfc {t e:TypeId} {x:Operand} {lo hi mx:Operand} {i len size:Nat} {l h m:Int} (ho:o.op=.slice t x (some lo) (some hi) (some mx)) (hx:zw gm env x=some (.row i len)) (ht:slElem P t=some (e,size))
  (hlo:zw gm env lo=some (.v (.int .i64 l))) (hhi:zw gm env hi=some (.v (.int .i64 h))) (hmx:zw gm env mx=some (.v (.int .i64 m))) (h0:0<=l) (h1:l<=h) (h2:h<=m) (h3:m<=len):Qk P gm env V o .any:=fun A hA φ F H a hg hH hE=>by
 unfold execOp; rw [ho];have hx':=zt hg hE x;rw [zn hx] at hx';have el:=zt hg hE lo;rw [zn hlo] at el;have eh:=zt hg hE hi;rw [zn hhi] at eh;have em:=zt hg hE mx;rw [zn hmx] at em;obtain ⟨ti,e1,e2,e3⟩:=kl ht;obtain ⟨hi',hl,ez⟩:=wd hx';obtain ⟨b,c,ez2⟩:=zai hl ez;have hcap:len<=c:=by
  unfold rowV at ez;split at ez
  ·rename_i e0;have:len=0:=by omega
   omega
  ·rw [ez2] at ez; cases ez; exact hl
 dsimp only;rw [ez2,Option.map_some,Option.map_some,Option.map_some,inv_v el,inv_v eh,inv_v em];refine wpS_v ?_;unfold Instr.sliceAt;refine za _ _ _ (zr e1 ?_);dsimp only;unfold Instr.slice;refine za _ _ _ (zr e1 ?_);dsimp only;refine za _ _ _ ?_;unfold Instr.sliceBounds;refine za _ _ _ (km oQ oQ ?_);refine za _ _ _ (km oQ oQ ?_);refine za _ _ _ (km oQ oQ ?_);dsimp only;refine za _ _ _ (yh e2 ?_);exact zP.quiet hH (.any _)
theorem zfd {t e:TypeId} {x:Operand} {lo hi:Operand} {i len size l h:Nat} {l0:List AV} {e':TypeId} (ho:o.op=.slice t x (some lo) (some hi) none) (hx:zw gm env x=some (.row i len)) (ht:slElem P t=some (e,size)) (hm:(i,.row l0 e' size)∈V)
  (hlo:bndA (some (zK gm env lo)) 0=some l) (hhi:bndA (some (zK gm env hi)) len=some h) (h1:l<=h) (h0:0<h) (hs0:0<size) (h2:h*size<=l0.length) {r:AV} (hr:AV.sl i (l*size) (h - l)=r):Qk P gm env V o r:=hr ▸ fun A hA φ F H a hg hH hE=>by
 unfold execOp; rw [ho];have hx':=zt hg hE x;rw [zn hx] at hx';obtain ⟨ti,e1,e2,e3⟩:=kl ht;obtain ⟨hi',hl,ez⟩:=wd hx';have hrow:=hH.obj i _ (hA.get hm);obtain ⟨hc,hcap⟩:=zgj hrow hs0 h2 h0;obtain ⟨_,hbase,_⟩:=hrow;have ez:=wx hc ez;dsimp only;rw [ez];refine wpS_v ?_;unfold Instr.sliceAt;refine za _ _ _ (zr e1 ?_);dsimp only;unfold Instr.slice;refine za _ _ _ (zr e1 ?_);dsimp only;refine za _ _ _ (kx (low:=some (zK gm env lo)) (high:=some (zK gm env hi)) (wg hg hE (some lo)) (wg hg hE (some hi)) (fun e=>by cases e) (fun e=>by cases e) hlo hhi h1 hcap ?_);dsimp only;refine za _ _ _ (yh e2 ?_);rw [e3];have:=zak (φ:=φ) (n:=A.length) (off:=0) (size:=size) hi' h1 hcap (b:=some ⟨(φ i).blk,0,none⟩) (fun _=>by rw [hbase]);unfold subA at this;rw [mO] at this;exact zP.quiet hH this
theorem zk5 {s x:Operand} {t e:TypeId} {ti:TypeInfo} {size j n p m:Nat} {lo:List AV} (ho:o.op=.call { callee:=.builtin .append,args:=#[s,x],argTypes:=#[t,t] }) (ht:P.underlying t=some (.slice e)) (hi:P.info? e=some ti) (hts:ti.size=size) (hs0:0<size)
  (hs:zw gm env s=some (.row j n)) (hx:zw gm env x=some (.sl j (p*size) m)) (hmem:(j,.row lo e size)∈V) (hm:0<m) (hnp:n<=p) (hpm:(p+m)*size<=lo.length) (hone:lo.all oneA=true) :
  ∀ A,zO V A->OpOk P gm env A o (.row j (n+m)) (A.set j (.row (lo.take (n*size)++((lo.drop (p*size)).take (m*size)++lo.drop ((n+m)*size))) e size)):=fun A hA φ F H a hg hH hE=>by
 rw [yP ho];have hs':=zt hg hE s;rw [zn hs] at hs';have hx':=zt hg hE x;rw [zn hx] at hx';obtain ⟨hj,hn,es⟩:=wd hs';obtain ⟨_,cx,bx,hcx,hbx,ex⟩:=zaD hx';have hrow:=hH.obj j _ (hA.get hmem);obtain ⟨hc,hcap⟩:=zgj hrow hs0 hpm oQ;obtain ⟨_,hbase,hrw⟩:=hrow;obtain ⟨cur,hb,hcs,hcm,hle,hcells⟩:=hrw hc;have es:=wx hc es;have hbx:=hbx hm;rw [hbase,mO] at hbx;have e1:(p+m)*size=p*size+m*size:=Nat.add_mul ..;have e2:(n+m)*size=n*size+m*size:=Nat.add_mul ..;have e3:n*size<=p*size:=Nat.mul_le_mul_right _ hnp;obtain ⟨ys,hys⟩:∃ ys,ys=(cur.toList.drop (p*size)).take (m*size):=⟨_,rfl⟩;have hyl:ys.length=m*size:=by rw [hys]; simp; omega
 have hyg:∀ k,k<m*size->ys[k]? =cur[p*size+k]? :=fun k hk=>by
  rw [hys,List.getElem?_take,if_pos hk,List.getElem?_drop,Array.getElem?_toList]
 simp only [builtin,List.map_toArray,List.map_cons,List.map_nil];refine wpS_v ?_;rw [es,ex,hbx];unfold Builtin.append_;show wpS P (underlying t >>= _) H _;refine za _ _ _ (zr ht ?_);dsimp only;refine za _ _ _ (yh hi ?_);refine za _ _ _ ?_;refine zr (t:=t) ht ?_;dsimp only;refine za _ _ _ ?_;rw [ky];simp only [Bool.false_eq_true,if_false,Bool.not_false,if_true];refine za _ _ _ ?_;show wpS P (if n+m<=(φ j).cap then _ else _) H _;rw [if_pos oQ];refine za _ _ _ ?_;show wpS P (loadCells _ (m*ti.size)) H _;rw [hts,<- hyl];refine kU hb ys (fun k y hy=>?_) ?_
 ·have hk:=(lD.1 hy).1;rw [hyl] at hk;rw [<- hyg k hk]; exact hy
 refine za _ _ _ ?_;rw [y6];refine kn ys 0 cur H hb oQ (fun y hy=>?_) ?_
 ·obtain ⟨k,hk⟩:=List.mem_iff_getElem?.1 hy;have hk2:=(lD.1 hk).1;rw [hyl] at hk2;rw [hyg k hk2] at hk;have hlo:lo[p*size+k]? =some lo[p*size+k]:=lA oQ;obtain ⟨y',hy',hr⟩:=hcells _ _ hlo;rw [hk] at hy';cases hy';exact zbY (List.all_eq_true.1 hone _ (List.getElem_mem _)) hr
 show zP φ A F _ _ (.value (.slice _ (n+m) (φ j).cap)) _;rw [Nat.add_zero,mO];refine ⟨_,φ,.inl rfl,Agr.refl _ _,by simp,hH.set (hA.get hmem) Z hc ⟨fun h=>absurd h oQ,hbase,fun _=>⟨_,Hp.put_same _ _ _,by rw [kg]; exact hcs,hcm,?_,fun k u hu=>?_⟩⟩,?_⟩
 ·rw [kg];simp only [lF,List.length_take,List.length_drop];omega
 ·rw [wK _ _ _ _ oQ,hyl];have hg:∀ q u,lo[q]? =some u->∃ y,cur[q]? =some y/\RelV φ A.length u y:=hcells;rw [hyl] at hu;rw [List.getElem?_append] at hu;split at hu
  ·rename_i h1;rw [List.length_take] at h1;rw [if_neg oQ];rw [List.getElem?_take,if_pos oQ] at hu;exact hg k u hu
  ·rename_i h1;rw [List.length_take] at h1;rw [List.getElem?_append] at hu;split at hu
   ·rename_i h2;simp only [List.length_take,List.length_drop] at h2 hu;rw [if_pos oQ,hyg _ oQ];rw [List.getElem?_take,if_pos oQ,List.getElem?_drop] at hu;have:=hg _ u hu;rwa [show p*size+(k - min (n*size) lo.length)=p*size+(k - n*size) by omega] at this
   ·rename_i h2;simp only [List.length_take,List.length_drop] at h2 hu;rw [if_neg oQ];rw [List.getElem?_drop] at hu;have:=hg _ u hu;rwa [show (n+m)*size+(k - min (n*size) lo.length - min (m*size) (lo.length - p*size))=k by omega] at this
 ·refine .row (by simp; exact hj) oQ ?_;unfold rowV;rw [if_neg oQ]
theorem zgl {x:Operand} {t e:TypeId} {ti:TypeInfo} {z:Value} {size j p m:Nat} {lo:List AV} (ho:o.op=.call { callee:=.builtin .clear,args:=#[x],argTypes:=#[t] }) (ht:P.underlying t=some (.slice e)) (hi:P.info? e=some ti) (hz:ti.zero=some z) (hzs:z.cells.size=size) (hz1:∀ y∈z.cells.toList,oneCell y=true) (hs0:0<size)
  (hx:zw gm env x=some (.sl j p m)) (hmem:(j,.row lo e size)∈V) (hm:0<m) (hpm:p+m*size<=lo.length) :
  ∀ A,zO V A->OpOk P gm env A o .any (A.set j (.row (lo.take p) e size)):=fun A hA φ F H a hg hH hE=>by
 rw [yP ho];have hx':=zt hg hE x;rw [zn hx] at hx';obtain ⟨hj,cx,bx,hcx,hbx,ex⟩:=zaD hx';have hrow:=hH.obj j _ (hA.get hmem);have hms:0<m*size:=Nat.mul_pos hm hs0;have hc:0<(φ j).cap:=by
  rcases mP (φ j).cap with e | e
  ·have:=hrow.1 e;rw [this] at hpm; simp at hpm; omega
  ·exact e
 obtain ⟨_,hbase,hrw⟩:=hrow;obtain ⟨cur,hb,hcs,hcm,hle,hcells⟩:=hrw hc;have hbx:=hbx hm;rw [hbase,mO] at hbx;simp only [builtin,List.map_toArray,List.map_cons,List.map_nil];refine wpS_v ?_;rw [ex,hbx];unfold Builtin.clear_;show wpS P (underlying t >>= _) H _;refine za _ _ _ (zr ht ?_);obtain ⟨m,rfl⟩:∃ k,m=k+1:=⟨m - 1,oQ⟩;dsimp only;refine za _ _ _ (ke hi hz ?_);have hzl:(Builtin.zeroCells z.cells (m+1)).toList.length=(m+1)*size:=by
  simp [Builtin.zeroCells,hzs]
 refine za _ _ _ (kn _ 0 cur H hb (by rw [hzl]; omega) (fun y hy=>?_) ?_)
 ·simp only [Builtin.zeroCells,Array.toList_map,lY] at hy;obtain ⟨k,hk,rfl⟩:=hy;have hlt:k % z.cells.size<z.cells.size:=Nat.mod_lt _ oQ;first
   | exact hz1 _ (by simp [getElem!_pos,hlt])
   | (rw [getElem!_pos _ _ hlt]; exact hz1 _ sQ)
 refine ⟨_,φ,.inl rfl,Agr.refl _ _,by simp,hH.set (hA.get hmem) Z hc ⟨fun h=>absurd h oQ,hbase,fun _=>⟨_,Hp.put_same _ _ _,by rw [kg]; exact hcs,hcm,?_,fun k u hu=>?_⟩⟩,.any _⟩
 ·rw [kg,List.length_take]; omega
 ·rw [wK _ _ _ _ (by rw [hzl]; omega)];rw [List.getElem?_take] at hu;split at hu
  ·rename_i h1;rw [if_neg oQ];exact hcells k u hu
  ·cases hu
end
end Go.Vel
namespace Go.Vel
open Go Go.Conc Go.Proofs
theorem zbR {α:Type} (f:α->List AV) (c:Nat) (hc:∀ x,(f x).length=c):∀ (i:Nat) (L:List α),(L.flatMap f).take (i*c)=(L.take i).flatMap f
 | 0,L=>by simp
 | i+1,[]=>by simp
 | i+1,x::L=>by
  rw [List.flatMap_cons,List.take_succ_cons,List.flatMap_cons,<- zbR f c hc i L,show (i+1)*c=(f x).length+i*c by rw [hc,Nat.succ_mul,Nat.add_comm],List.take_length_add_append]
theorem zeB {α:Type} (f:α->List AV) (c:Nat) (hc:∀ x,(f x).length=c):∀ (i:Nat) (L:List α),(L.flatMap f).drop (i*c)=(L.drop i).flatMap f
 | 0,L=>by simp
 | i+1,[]=>by simp
 | i+1,x::L=>by
  rw [List.flatMap_cons,List.drop_succ_cons,<- zeB f c hc i L,show (i+1)*c=(f x).length+i*c by rw [hc,Nat.succ_mul,Nat.add_comm],List.drop_length_add_append]
theorem zi9 {L:List GrR} {i n:Nat} (hL:L.length=n) (hi:i<n) (rest:List AV):((L.flatMap grpC).take (i*2)++(((L.flatMap grpC).drop ((i+1)*2)).take ((n - (i+1))*2)++rest)).take ((i+(n - (i+1)))*2)=(L.eraseIdx i).flatMap grpC:=by
 have h1:=zbR grpC 2 (fun _=>rfl) i L;have h2:=zeB grpC 2 (fun _=>rfl) (i+1) L;have h3:=yr grpC 2 (fun _=>rfl) (L.drop (i+1));rw [List.length_drop] at h3;rw [h1,h2,List.take_of_length_le (l:=(L.drop (i+1)).flatMap grpC) oQ,<- List.append_assoc,<- List.flatMap_append,<- List.eraseIdx_eq_take_drop_succ];have h4:=yr grpC 2 (fun _=>rfl) (L.eraseIdx i);rw [List.length_eraseIdx,if_pos oQ] at h4;exact List.take_left' oQ
theorem uGrS:tp.underlying 29=some (.slice 125):=by kernel_rfl
theorem iGr:tp.info? 125=some Tryz.t125:=by kernel_rfl
theorem sGr:Tryz.t125.size=2:=by kernel_rfl
theorem zGr:Tryz.t125.zero=some (.agg #[.string ByteArray.empty,.int .i64 0]):=by kernel_rfl
theorem zi8 {L:List GrR} {i:Nat} (hL:L.length=i+1):(L.flatMap grpC).take (i*2)=(L.eraseIdx i).flatMap grpC:=by
 rw [zbR grpC 2 (fun _=>rfl) i L,List.eraseIdx_eq_take_drop_succ,List.drop_of_length_le oQ,lR]
theorem zkr {main T} (hT:zk tp main T) {gm} {L:List GrR} {i j n:Nat} (hL:L.length=n) (hn:n<=4) (hi:i+1<n) :
  zh tp T gm 55 [.row j n,intA (i:Int),intA ((i:Int)+1)] [(j,.row (L.flatMap grpC) 125 2)] (fun r K'=>r=.row j (n - 1)/\K'=[(j,.row ((L.eraseIdx i).flatMap grpC) 125 2)]):=by
 refine ze 33 hT Tryz.func55 fun Y hret=>?_;refine au 0 ?_;have hfl:=yr grpC 2 (fun _=>rfl) L;refine au 2801111423542 ?_;refine bH Z (zfc Z Z SlEl.h Z Z Z oQ oQ oQ oQ) ?_;refine au 937114223 ?_;constructor<;>intro hc0
 ·have:=of_decide_eq_true hc0; omega
 refine au 235280142120 ?_;refine bL [0,1,2,3,4,5,6,7] ?_;refine ad [[1,0],[1,1]] ?_;refine bU [20,21] Z (zfe (h:=i) Z Z SlEl.h Z oQ) ?_;refine ad [[1,0],[1,2]] ?_;refine bT [23,24] Z (hq:=wU (l:=i+1) (h:=n) Z Z SlEl.h (mC _) (by show some (((i:Int)+1).toNat)=_; rw [show ((i:Int)+1).toNat=i+1 by omega]) Z oQ oQ (r:=.sl j ((i+1)*2) (n - (i+1))) (by unfold subA; rw [mO])) (h:=?_);refine TD.cst (pend':=[⟨4,[2],[]⟩,⟨3,[0],[]⟩,⟨1,[1],[]⟩,⟨0,[0],[]⟩]) (j:=j) (ob':=.row _ 125 2) [22,25] Z Z Z Z Z (zk5 (p:=i+1) Z uGrS iGr sGr dQ Z Z mQ oQ oQ oQ (zaA grpC (fun _=>rfl) _)) uQ (zz Z tQ) sQ ?_;refine ad [[13,26],[14]] ?_;refine au 12801142 ?_;refine bH Z (zfd (l:=(i+(n - (i+1)))) (h:=n) Z Z SlEl.h mQ Z Z oQ oQ dQ (by simp only [lF,List.length_take,List.length_drop]; omega) Z) ?_;refine TK.st Z Z Z (zgl (size:=2) (p:=(i+(n - (i+1)))*2) (m:=n - (i+(n - (i+1)))) Z uGrS iGr zGr Z dQ dQ Z mQ oQ (by simp only [lF,List.length_take,List.length_drop]; omega)) uQ (putN Z) ?_;refine au 351423 ?_;refine bB hret [(j,_)] ?_;exact ⟨by show AV.row j (i+(n - (i+1)))=_; congr 1; omega,congrArg (fun z=>[(j,AObj.row z 125 2)]) (zi9 hL oQ _)⟩
theorem zkq {main T} (hT:zk tp main T) {gm} {L:List GrR} {i j:Nat} (hL:L.length=i+1) (hn:i+1<=4) :
  zh tp T gm 55 [.row j (i+1),intA (i:Int),intA ((i:Int)+1)] [(j,.row (L.flatMap grpC) 125 2)] (fun r K'=>r=.row j ((i+1) - 1)/\K'=[(j,.row ((L.eraseIdx i).flatMap grpC) 125 2)]):=by
 refine ze 33 hT Tryz.func55 fun Y hret=>?_;refine au 0 ?_;have hfl:=yr grpC 2 (fun _=>rfl) L;refine au 2801111423542 ?_;refine bH Z (zfc Z Z SlEl.h Z Z Z oQ oQ oQ oQ) ?_;refine au 937114223 ?_;constructor<;>intro hc0
 ·have:=of_decide_eq_true hc0; omega
 refine au 235280142120 ?_;refine bL [0,1,2,3,4,5,6,7] ?_;refine ad [[1,0],[1,1]] ?_;refine bU [20,21] Z (zfe (h:=i) Z Z SlEl.h Z oQ) ?_;refine ad [[1,0],[1,2]] ?_;refine bT [23,24] Z (hq:=wU (l:=i+1) (h:=(i+1)) Z Z SlEl.h (mC _) (by show some (((i:Int)+1).toNat)=_; rw [show ((i:Int)+1).toNat=i+1 by omega]) Z oQ oQ (r:=.sl j ((i+1)*2) ((i+1) - (i+1))) (by unfold subA; rw [mO])) (h:=?_);refine TD.cq (pend':=[⟨4,[2],[]⟩,⟨3,[0],[]⟩,⟨1,[1],[]⟩,⟨0,[0],[]⟩]) [22,25] Z Z Z Z Z (zil Z uGrS iGr Z Z (by show some (i+1 - (i+1))=_; rw [Nat.sub_self])) (zz Z tQ) sQ ?_;refine ad [[13,26],[14]] ?_;refine au 12801142 ?_;refine bH Z (zfd (l:=i) (h:=(i+1)) Z Z SlEl.h mQ Z Z oQ oQ dQ oQ Z) ?_;refine TK.st Z Z Z (zgl (size:=2) (p:=i*2) (m:=(i+1) - i) Z uGrS iGr zGr Z dQ dQ Z mQ oQ oQ) uQ (putN Z) ?_;refine au 351423 ?_;refine bB hret [(j,_)] ?_;exact ⟨rfl,congrArg (fun z=>[(j,AObj.row z 125 2)]) (zi8 hL)⟩
theorem zhC {main T} (hT:zk tp main T) {gm} {L:List GrR} {i j n:Nat} (hL:L.length=n) (hn:n<=4) (hi:i<n) :
  zh tp T gm 55 [.row j n,intA (i:Int),intA ((i:Int)+1)] [(j,.row (L.flatMap grpC) 125 2)] (fun r K'=>r=.row j (n - 1)/\K'=[(j,.row ((L.eraseIdx i).flatMap grpC) 125 2)]):=by
 by_cases h:i+1<n
 ·exact zkr hT hL hn h
 ·obtain rfl:n=i+1:=by omega
  exact zkq hT hL hn
end Go.Vel
namespace Go.Vel
open Go Go.Conc
section
variable {P:Program} {gm:Nat->Option Nat} {T:Goroutine->Hp->Prop} {Y:KX P gm T} {ds:List Nat} {k:List Item} {env:List AV} {K K':KV}
theorem TK.unrowAt {c i j n:Nat} {l l1:List AV} {t e1:TypeId} {s1:Nat} {rw':Bool} (hi:l[i]? =some (.row j n)) (hm:(j,.row l1 e1 s1)∈K) (hu:Upd K c (.cells l t rw') c (.cells (l.set i (.sl j 0 n)) t rw') K') (h:TK Y ds k env K'):TK Y ds k env K:=fun A hA φ H ts h1 h2 h3 h4 h5 h6=>by
 have hj:=hA.view.get hu.mem;have hb:(φ j).base=0:=(h5.obj j _ (hA.view.get hm)).2.1;have hil:i<l.length:=(lD.1 hi).1;have hne:l≠[]:=fun e=>by rw [e] at hil; exact absurd hil (Nat.not_lt_zero _)
 refine h _ (hA.step (.set hA.view hA.nd hu)) φ H ts h1 (by simpa using h2) (by simpa using h3) (by simpa using h4) (h5.turn hj (fun ho hl=>?_) (fun h=>h) (fun _=>rfl) (fun hs=>by simpa [sol] using hne)) (by simpa using h6);obtain ⟨rw2,cur,fz,q1,q2,q3⟩:=ho hne;refine ⟨rw2,cur,fz,q1,q2,fun t' a ha=>?_⟩;by_cases e:t'=i
 ·subst e;rw [List.getElem?_set_self hil] at ha;cases ha;obtain ⟨y,hy,hr⟩:=q3 t' _ hi;exact ⟨y,hy,by have:=wP (j:=j) hb hr; simpa [unrow] using this⟩
 ·rw [List.getElem?_set_ne (fun h=>e h.symm)] at ha;exact q3 t' a ha
theorem zfQ {φ:Nat->Loc3} {A:List AObj} {F H:Hp} (h:RelH φ A F H) {j:Nat} {l:List AV} {e:TypeId} {sz:Nat} (hj:A[j]? =some (.row l e sz)):RelH φ (A.set j (.cells l e false)) F H:=by
 have hg:∀ t w,(A.set j (.cells l e false))[t]? =some w->(t=j/\w=.cells l e false)\/(t≠j/\A[t]? =some w):=fun t w ht=>by
  rw [List.getElem?_set] at ht;split at ht
  ·rename_i e';split at ht
   ·cases ht; exact .inl ⟨e'.symm,rfl⟩
   ·cases ht
  ·rename_i e';exact .inr ⟨fun h=>e' h.symm,ht⟩
 have hcap:l≠[]->0<(φ j).cap:=fun hl=>by
  rcases mP (φ j).cap with e | e
  ·exact absurd ((h.obj j _ hj).1 e) hl
  ·exact e
 refine ⟨fun t w ht=>?_,fun t t' w w' ht ht' hn he hl s1 s2=>?_,h.fr,fun t w ht he hs=>?_⟩
 ·rw [List.length_set];rcases hg t w ht with ⟨rfl,rfl⟩ | ⟨_,h2⟩
  ·intro hl;obtain ⟨_,hb,hc⟩:=h.obj t _ hj;obtain ⟨cur,h1,_,_,_,h3⟩:=hc (hcap hl);exact ⟨true,cur,(e,0,0),h1,(fun h=>by cases h),fun i a ha=>by rw [hb,mO]; exact h3 i a ha⟩
  ·exact h.obj t w h2
 ·rcases hg t w ht with ⟨rfl,rfl⟩ | ⟨_,h2⟩
  ·cases he
  ·rcases hg t' w' ht' with ⟨rfl,rfl⟩ | ⟨_,h2'⟩
   ·exact h.apart t t' w _ h2 hj hn he rfl s1 (hcap s2)
   ·exact h.apart t t' w w' h2 h2' hn he hl s1 s2
 ·rcases hg t w ht with ⟨rfl,rfl⟩ | ⟨_,h2⟩
  ·cases he
  ·exact h.frx t w h2 he hs
theorem TK.frzRow {j:Nat} {l:List AV} {e:TypeId} {sz:Nat} (h:TK Y ds k env K') (hu:Upd K j (.row l e sz) j (.cells l e false) K':=by repeat (first | exact Upd.head | apply Upd.tail)):TK Y ds k env K:=fun A hA φ H ts h1 h2 h3 h4 h5 h6=>by
 have hj:=hA.view.get hu.mem;have hl:(A.set j (.cells l e false)).length=A.length:=by simp
 exact h _ (hA.step (.set hA.view hA.nd hu)) φ H ts h1 (by rw [hl]; exact h2) (by rw [hl]; exact h3) (by rw [hl]; exact h4) (zfQ h5 hj) (by rw [hl]; exact h6)
end
end Go.Vel
namespace Go.Vel
open Go Go.Conc Go.Proofs
def goneB (b:StB) (i:Nat):StB:={ b with groups:=b.groups.eraseIdx i }
theorem zbU {b:StB} {i:Nat} (h:i<b.groups.length):(goneB b i).groups.length=b.groups.length - 1:=by show (b.groups.eraseIdx i).length=_; rw [List.length_eraseIdx,if_pos h]
instance:BlOf tp 31 [(0,1),(1,1),(2,1),(3,1)]:={}
instance:Cal tp 30:={}
instance:Cal tp 31:={}
instance:Cal tp 54:={}
instance:Cal tp 55:={}
instance:TyZ tp 120 [.nilFunc]:={}
instance:TyZ tp 31 [.int .i64 0,.bool false,.slice none 0 0,.slice none 0 0]:={}
theorem zhg {main:Bool} {T:Goroutine->Hp->Prop} (hT:zk tp main T)  {b:StB} {s g i:Nat} (hb:StOk b) (hi:i<b.groups.length) :
  zh tp T gmS 10 [.agg (stbC b s g),intA (i:Int)] [(2,stChecksG),(s,stO b),(g,grO b)] (fun r K'=>(b.groups.length=1/\r=.tup [.agg [intA 0,zm false,.v (.slice none 0 0),.v (.slice none 0 0)],intA 8]/\K'=[(2,stChecksG),(s,stO b),(g,grO b)])\/(b.groups.length≠1/\∃ s2 g2,r=.tup [.agg (stbC (goneB b i) s2 g2),intA 0]/\K'=[(s2,stO (goneB b i)),(g2,grO (goneB b i)),(2,stChecksG),(s,stO b),(g,grO b)])):=by
 refine ze 35 hT Tryz.func10 fun Y hret=>?_;refine au 0 ?_;have hng:=hb.ngr;have hns:=hb.nst;refine au 21042 ?_;intro jb hjb;refine au 220 ?_;intro jr hjr;refine au 320168042235 ?_;refine bI Z Z Z (zS (l:=[_]) Z SlEl.h TyZ.h dQ dQ Z) (fun _=>zz rfl tQ) fun ja hja=>?_;refine bD Z Z Z Z (zfo hT (n:=(i:Int)) hb oQ) ?_;rintro r1 K2 ⟨rfl,rfl⟩;refine au 220661 ?_;intro jx hjx;refine au 93714235170 ?_;constructor<;>intro hc0
 ·exact absurd hc0 dQ
 refine au 937280690670422120 ?_;constructor<;>intro hc1
 ·refine au 3517041042 ?_;refine bB hret [(2,_),(s,_),(g,_)] ?_;exact .inl ⟨by simp at hc1; omega,rfl,rfl⟩
 refine au 68042120 ?_;refine bD Z Z Z Z (zfV hT hb) ?_;rintro r4 K5 ⟨j1,j2,rfl,rfl⟩;refine au 23011690670423170 ?_;refine bD Z Z Z Z (zhC hT Z oQ hi) ?_;rintro r7 K8 ⟨rfl,rfl⟩;refine au 23170670 ?_;refine TK.unrowAt (c:=jb) (i:=2) (j:=j1) Z mQ uQ ?_;refine TK.frzRow (j:=j1) ?_;refine TK.unrowAt (c:=jb) (i:=3) (j:=j2) Z mQ uQ ?_;refine TK.frzRow (j:=j2) ?_;refine au 351706804 ?_;refine bB hret [(j1,_),(j2,_),(2,_),(s,_),(g,_)] ?_;exact .inr ⟨by simp at hc1; omega,j1,j2,by unfold stbC; rw [zbU hi]; rfl,rfl⟩
theorem zgK {main T} (hT:zk tp main T) {gm} {b:StB} {s g:Nat} :
  zh tp T gm 30 [.agg (stbC b s g)] [(s,stO b),(g,grO b)] (fun r K'=>(∃ z,r=zm z/\(z=false->b.stairs.length<=20/\b.groups.length<=20/\∀ x∈b.groups,x.name.size<=100))/\K'=[(s,stO b),(g,grO b)]):=by
 refine ze 29 hT Tryz.func30 fun Y hret=>?_;refine au 21042 ?_;intro jb hjb;refine au 1728069067042235 ?_;refine bF 8 (fun g1_5=>?_) (fun g1_5=>?_)
 ·refine au 354218032608888 ?_;refine bB hret [(s,_),(g,_)] ?_;exact ⟨⟨true,rfl,fun h=>by cases h⟩,rfl⟩
 refine au 932507280690670 ?_;constructor<;>intro hc0
 ·skip;refine au 3542 ?_;refine bB hret [(s,_),(g,_)] ?_;exact ⟨⟨true,rfl,fun h=>by cases h⟩,rfl⟩
 have h20:b.stairs.length<=20/\b.groups.length<=20:=by simp_all; omega
 refine au 13035422120 ?_;refine bA [1,3] ?_;refine bE (fun n env K=>∃ (i:Nat),n=b.groups.length - i/\i<=b.groups.length/\(∀ x∈b.groups.take i,x.name.size<=100)/\env=zW 29 [(1,.ptr jb 0),(3,intA i)]/\K=[(jb,.cells (stbC b s g) 31 true),(s,stO b),(g,grO b)]) b.groups.length ⟨0,rfl,mN _,fun x hx=>by simp at hx,rfl,rfl⟩ fun n env K hI hnext=>?_;obtain ⟨i,rfl,hi,hall,rfl,rfl⟩:=hI;refine au 9372806906701422 ?_;constructor<;>intro hc1
 ·have hil:i<b.groups.length:=by simp at hc1; omega
  refine au 6703601690670421302120 ?_;refine bH Z (zl Z Z zd.h mQ (wc (c:=0) (gr_at (kA hil) Z) dQ Z)) ?_;refine au 937290 ?_;constructor<;>intro hc2
  ·refine au 3542 ?_;refine bB hret [(s,_),(g,_)] ?_;exact ⟨⟨true,rfl,fun h=>by cases h⟩,rfl⟩
  refine au 3523014140120 ?_;refine bA [1,3] ?_;refine bC [(jb,_),(s,_),(g,_)] ?_;exact hnext _ _ _ oQ ⟨i+1,rfl,oQ,fun x hx=>by
   rw [List.take_add_one,kA hil] at hx;rcases lT.1 hx with hx | hx
   ·exact hall x hx
   ·simp at hx; subst hx; simp at hc2; omega,rfl,rfl⟩
 obtain rfl:i=b.groups.length:=by simp at hc1; omega
 refine au 3542160 ?_;refine bB hret [(s,_),(g,_)] ?_;exact ⟨⟨false,rfl,fun _=>⟨h20.1,h20.2,fun x hx=>hall x (by rw [lW]; exact hx)⟩⟩,rfl⟩
theorem zgz {main T} (hT:zk tp main T) {gm} {b:StB} {s g:Nat} (hl1:b.stairs.length<=20) (hl2:b.groups.length<=20) (hnm:∀ x∈b.groups,x.name.size<=100) :
  zh tp T gm 31 [.agg (stbC b s g)] [(s,stO b),(g,grO b)] (fun r K'=>(∃ c,r=intA c/\(c=0->StOk b))/\K'=[(s,stO b),(g,grO b)]):=by
 refine ze 80 hT Tryz.func31 fun Y hret=>?_;refine au 21042 ?_;intro jb hjb;refine au 69067042235 ?_;refine bD Z Z Z Z (yy hT) ?_;rintro r1 K2 ⟨rfl,rfl⟩;refine au 93300 ?_;constructor<;>intro hc0
 ·refine au 3542 ?_;refine bB hret [(s,_),(g,_)] ?_;exact ⟨⟨1,rfl,fun h=>by cases h⟩,rfl⟩
 have h0:1<=b.platform/\b.platform<=99:=by simp at hc0; omega
 refine au 280690670422120 ?_;refine bD Z Z Z Z (yy hT) ?_;rintro r4 K5 ⟨rfl,rfl⟩;refine au 93300 ?_;constructor<;>intro hc1
 ·refine au 3542 ?_;refine bB hret [(s,_),(g,_)] ?_;exact ⟨⟨2,rfl,fun h=>by cases h⟩,rfl⟩
 have h1:1<=b.stairs.length/\b.stairs.length<=2:=by simp at hc1; omega
 refine au 13035422120 ?_;refine bA [1,3] ?_;refine bE (fun n env K=>∃ (i:Nat),n=b.stairs.length - i/\i<=b.stairs.length/\(∀ x∈b.stairs.take i,1<=x.holds/\x.holds<=99/\0<=x.way/\x.way<=2)/\env=zW 80 [(1,.ptr jb 0),(3,intA i)]/\K=[(jb,.cells (stbC b s g) 31 true),(s,stO b),(g,grO b)]) b.stairs.length ⟨0,rfl,mN _,fun x hx=>by simp at hx,rfl,rfl⟩ fun n env K hI hnext=>?_;obtain ⟨i,rfl,hi,hst,rfl,rfl⟩:=hI;refine au 9372806906701422 ?_;constructor<;>intro hc2
 ·have hil:i<b.stairs.length:=by simp at hc2; omega
  refine au 6703601690670421302120 ?_;refine bH Z (zl Z Z zd.h mQ (wc (c:=0) (st_at (str_get' hil) Z) dQ Z)) ?_;refine bD Z Z Z Z (yy hT) ?_;rintro r7 K8 ⟨rfl,rfl⟩;refine au 1300 ?_;refine bF 31 (fun g8_9=>?_) (fun g8_9=>?_)
  ·refine au 3542180326088888888 ?_;refine bB hret [(s,_),(g,_)] ?_;exact ⟨⟨1,rfl,fun h=>by cases h⟩,rfl⟩
  refine au 6703601690670 ?_;refine bH Z (zl Z Z zd.h mQ (wc (c:=1) (st_at (str_get' hil) Z) dQ Z)) ?_;refine bD Z Z Z Z (yy hT) ?_;rintro r10 K11 ⟨rfl,rfl⟩;refine au 93250300 ?_;constructor<;>intro hc3
  ·refine au 3542 ?_;refine bB hret [(s,_),(g,_)] ?_;exact ⟨⟨1,rfl,fun h=>by cases h⟩,rfl⟩
  refine au 3523014140120 ?_;refine bA [1,3] ?_;refine bC [(jb,_),(s,_),(g,_)] ?_;exact hnext _ _ _ oQ ⟨i+1,rfl,oQ,fun x hx=>by
   rw [List.take_add_one,str_get' hil] at hx;rcases lT.1 hx with hx | hx
   ·exact hst x hx
   ·simp at hx; subst hx; first | (simp_all; done) | (simp_all; omega),rfl,rfl⟩
 obtain rfl:i=b.stairs.length:=by simp at hc2; omega
 refine au 280690670422160 ?_;refine bD Z Z Z Z (yy hT) ?_;rintro r13 K14 ⟨rfl,rfl⟩;refine au 93300 ?_;constructor<;>intro hc4
 ·refine au 3542 ?_;refine bB hret [(s,_),(g,_)] ?_;exact ⟨⟨2,rfl,fun h=>by cases h⟩,rfl⟩
 have h2:1<=b.groups.length/\b.groups.length<=4:=by simp at hc4; omega
 refine au 13035422120 ?_;refine bA [1,4] ?_;refine bE (fun n env K=>∃ (i:Nat),n=b.groups.length - i/\i<=b.groups.length/\(∀ x∈b.groups.take i,isNameM x.name=true/\1<=x.many/\x.many<=20)/\(b.groups.take i).Pairwise (fun x y=>x.name.toList≠y.name.toList)/\env=zW 80 [(1,.ptr jb 0),(4,intA i)]/\K=[(jb,.cells (stbC b s g) 31 true),(s,stO b),(g,grO b)]) b.groups.length ⟨0,rfl,mN _,fun x hx=>by simp at hx,by simp,rfl,rfl⟩ fun n env K hI hnext1=>?_;obtain ⟨i,rfl,hi,hgr,hpw,rfl,rfl⟩:=hI;refine au 9372806906701422 ?_;constructor<;>intro hc5
 ·have hil2:i<b.groups.length:=by simp at hc5; omega
  have hxm:=hnm _ (lN (kA hil2));refine au 3601690670421302120 ?_;refine bH Z (zD Z Z zd.h mQ (gr_at (kA hil2) Z)) ?_;refine au 220 ?_;intro jx hjx;refine au 6906704223170 ?_;refine bD Z Z Z Z (zcm hT oQ) ?_;rintro r16 K17 ⟨rfl,rfl⟩;refine au 93300 ?_;constructor<;>intro hc6
  ·refine au 3542 ?_;refine bB hret [(s,_),(g,_)] ?_;exact ⟨⟨4,rfl,fun h=>by cases h⟩,rfl⟩
  refine au 13035422120 ?_;refine bA [1,4,5,6] ?_;refine bE (fun n env K=>∃ (q:Nat),n=i - q/\q<=i/\(∀ y∈b.groups.take q,y.name.toList≠(grp b i).name.toList)/\env=zW 80 [(1,.ptr jb 0),(4,intA i),(5,.ptr jx 0),(6,intA q)]/\K=[(jx,.cells (grpC (grp b i)) 125 true),(jb,.cells (stbC b s g) 31 true),(s,stO b),(g,grO b)]) i ⟨0,rfl,mN _,fun x hx=>by simp at hx,rfl,rfl⟩ fun n env K hI hnext2=>?_;obtain ⟨q,rfl,hq,hne,rfl,rfl⟩:=hI;refine au 93711422 ?_;constructor<;>intro hc7
  ·have hqi:q<i:=by simp at hc7; omega
   refine au 21302120 ?_;refine bL [0,1,2,3,4,5,6,7,8] ?_;refine ad [[3,1],[10,67],[1,6],[2,68,69],[3,70]] ?_;refine bT [71] Z (hq:=zl Z Z zd.h (mC _) (wc (c:=0) (gr_at (kA (i:=q) oQ) Z) dQ Z)) (h:=?_);refine ad [[3,5],[10,73]] ?_;refine bU [72,74] Z (zfb Z Z Z Z) ?_;refine ad [[14]] ?_;refine au 9 ?_;constructor<;>intro hc8
   ·refine au 3542 ?_;refine bB hret [(s,_),(g,_)] ?_;exact ⟨⟨5,rfl,fun h=>by cases h⟩,rfl⟩
   refine au 3523014140120 ?_;refine bA [1,4,5,6] ?_;refine bC [(jx,_),(jb,_),(s,_),(g,_)] ?_;exact hnext2 _ _ _ oQ ⟨q+1,rfl,oQ,fun y hy=>by
    rw [List.take_add_one,kA oQ] at hy;rcases lT.1 hy with hy | hy
    ·exact hne y hy
    ·simp at hy; subst hy; simpa using hc8,rfl,rfl⟩
  obtain rfl:i=q:=by simp at hc7; omega
  refine au 69067042160 ?_;refine bD Z Z Z Z (yy hT) ?_;rintro r19 K20 ⟨rfl,rfl⟩;refine au 93300 ?_;constructor<;>intro hc9
  ·refine au 3542 ?_;refine bB hret [(s,_),(g,_)] ?_;exact ⟨⟨1,rfl,fun h=>by cases h⟩,rfl⟩
  refine au 3523014140120 ?_;refine bA [1,4] ?_;refine bC [(jb,_),(s,_),(g,_)] ?_;have hgx:isNameM (grp b i).name=true/\1<=(grp b i).many/\(grp b i).many<=20:=⟨by simpa using hc6,by simp at hc9; omega⟩;exact hnext1 _ _ _ oQ ⟨i+1,rfl,oQ,fun x hx=>by
   rw [List.take_add_one,kA hil2] at hx;rcases lT.1 hx with hx | hx
   ·exact hgr x hx
   ·simp at hx; subst hx; exact hgx,by
   rw [List.take_add_one,kA hil2];refine List.pairwise_append.2 ⟨hpw,by simp,fun x hx y hy=>?_⟩;simp at hy;subst hy;exact hne x hx,rfl,rfl⟩
 obtain rfl:i=b.groups.length:=by simp at hc5; omega
 refine au 3542160 ?_;refine bB hret [(s,_),(g,_)] ?_;rw [lW] at hst hgr hpw;exact ⟨⟨0,rfl,fun _=>⟨h0,h1,hst,h2,fun x hx=>(hgr x hx).1,hpw,fun x hx=>(hgr x hx).2⟩⟩,rfl⟩
theorem zji {main T} (hT:zk tp main T) {gm} {b:StB} {s g:Nat} :
  zh tp T gm 8 [.agg (stbC b s g)] [(s,stO b),(g,grO b)] (fun r K'=>(∃ z,r=zm z/\(z=true->StOk b))/\K'=[(s,stO b),(g,grO b)]):=by
 refine ze 11 hT Tryz.func8 fun Y hret=>?_;refine au 21042 ?_;intro jb hjb;refine au 6804235 ?_;refine bD Z Z Z Z (zgK hT) ?_;rintro r1 K2 ⟨⟨z,rfl,hz⟩,rfl⟩;refine au 1300 ?_;refine bF 6 (fun g1_4=>?_) (fun g1_4=>?_)
 ·obtain ⟨hl1,hl2,hnm⟩:=hz (by simpa using g1_4);refine au 680 ?_;refine bD Z Z Z Z (zgz hT hl1 hl2 hnm) ?_;rintro r4 K5 ⟨⟨c,rfl,hck⟩,rfl⟩;refine au 352607 ?_;refine bB hret [(s,_),(g,_)] ?_;exact ⟨⟨_,rfl,fun h=>hck (by simpa using h)⟩,rfl⟩
 refine au 35250888 ?_;refine bB hret [(s,_),(g,_)] ?_;exact ⟨⟨_,rfl,fun h=>by cases h⟩,rfl⟩
theorem ziQ {xs ys:List Int} {i:Nat} (h:i<xs.length) (h2:i<ys.length) (ht:xs.take i=ys.take i) (he:xs[i]=ys[i]):xs.take (i+1)=ys.take (i+1):=by
 rw [List.take_add_one,List.take_add_one,lA h,lA h2,ht,he]
def stateSim (b:Bk) (xs:List Int):Bool×Int:=if checkM b≠0 then (false,checkM b) else if handedM b xs≠0 then (false,handedM b xs) else (canM b xs,0)
theorem zjv {main T} (hT:zk tp main T) {gm} {j off:Nat} {ob:AObj} {xs:List Int} {v:Int} (hI:IntsAt ob off xs) (hlx:xs.length<=1000)  :
  zh tp T gm 80 [.sl j off xs.length,intA v] [(j,ob)] (fun r K'=>r=zm (decide (v∈xs))/\K'=[(j,ob)]):=by
 refine ze 18 hT Tryz.func80 fun Y hret=>?_;refine au 130354223542 ?_;refine bA [0,1,5] ?_;refine bE (fun n env K=>∃ (i:Nat),n=xs.length - i/\i<=xs.length/\v∉xs.take i/\env=zW 18 [(0,.sl j off xs.length),(1,intA v),(5,intA i)]/\K=[(j,ob)]) xs.length ⟨0,rfl,mN _,by simp,rfl,rfl⟩ fun n env K hI' hnext=>?_;obtain ⟨i,rfl,hi,hn,rfl,rfl⟩:=hI';refine au 93728011422 ?_;refine ⟨fun hc=>?_,fun hc=>?_⟩
 ·simp only [decide_eq_true_eq] at hc;have hil:i<xs.length:=by omega
  refine au 36011421302120 ?_;refine bH Z (zl Z Z zd.h mQ (hI i hil)) ?_;refine au 9371 ?_;constructor<;>intro hc1
  ·refine au 3542 ?_;refine bB hret [(j,_)] ?_;exact ⟨by rw [decide_eq_true (show v∈xs by have h:xs[i]=v:=(by simpa using hc1); rw [<- h]; exact List.getElem_mem hil)]; rfl,rfl⟩
  refine au 3523014140120 ?_;refine bA [0,1,5] ?_;exact hnext _ _ _ oQ ⟨i+1,rfl,oQ,zar hil hn (fun h=>by rw [h] at hc1; simp at hc1),rfl,rfl⟩
 simp only [decide_eq_false_iff_not] at hc;obtain rfl:i=xs.length:=by omega
 refine au 3542160 ?_;refine bB hret [(j,_)] ?_;exact ⟨by rw [decide_eq_false (by rwa [lW] at hn)]; rfl,rfl⟩
theorem zfR {main T} (hT:zk tp main T) {gm} {j off j2 off2:Nat} {ob ob2:AObj} {xs ys:List Int} (hjj:j≠j2) (hI:IntsAt ob off xs) (hI2:IntsAt ob2 off2 ys) (hlx:xs.length<=100000) :
  zh tp T gm 109 [.sl j off xs.length,.sl j2 off2 ys.length] [(j,ob),(j2,ob2)] (fun r K'=>r=zm (decide (xs=ys))/\K'=[(j,ob),(j2,ob2)]):=by
 refine ze 26 hT Tryz.func109 fun Y hret=>?_;refine au 937280128014223542 ?_;constructor<;>intro hc0
 ·refine au 3542 ?_;refine bB hret [(j,_),(j2,_)] ?_;exact ⟨by rw [decide_eq_false (fun h=>by rw [h] at hc0; simp at hc0)]; rfl,rfl⟩
 have hlen:xs.length=ys.length:=by have h:(xs.length:Int)=ys.length:=(by simpa using hc0); omega
 refine au 13035422120 ?_;refine bA [0,1,5] ?_;refine bE (fun n env K=>∃ (i:Nat),n=xs.length - i/\i<=xs.length/\xs.take i=ys.take i/\env=zW 26 [(0,.sl j off xs.length),(1,.sl j2 off2 ys.length),(5,intA i)]/\K=[(j,ob),(j2,ob2)]) xs.length ⟨0,rfl,mN _,rfl,rfl,rfl⟩ fun n env K hI' hnext=>?_;obtain ⟨i,rfl,hi,hn,rfl,rfl⟩:=hI';refine au 93728011422 ?_;refine ⟨fun hc=>?_,fun hc=>?_⟩
 ·simp only [decide_eq_true_eq] at hc;have hil:i<xs.length:=by omega
  refine au 21302120 ?_;refine bL [0,1,2,3,4,5,6,7,8] ?_;refine ad [[1,0],[1,5],[2,17,18]] ?_;refine bT [19] Z (hq:=zl Z Z zd.h (mC _) (hI i hil)) (h:=?_);refine ad [[1,1],[1,5],[2,21,22]] ?_;refine bT [23] Z (hq:=zl Z Z zd.h (mC _) (hI2 i oQ)) (h:=?_);refine ad [[4,20,24],[14]] ?_;refine au 9 ?_;constructor<;>intro hc2
  ·refine au 3542 ?_;refine bB hret [(j,_),(j2,_)] ?_;exact ⟨by rw [decide_eq_false (fun h=>by subst h; simp at hc2)]; rfl,rfl⟩
  refine au 3523014140120 ?_;refine bA [0,1,5] ?_;exact hnext _ _ _ oQ ⟨i+1,rfl,oQ,ziQ hil oQ hn (by simpa using hc2),rfl,rfl⟩
 simp only [decide_eq_false_iff_not] at hc;obtain rfl:i=xs.length:=by omega
 refine au 3542160 ?_;refine bB hret [(j,_),(j2,_)] ?_;exact ⟨by rw [decide_eq_true (by rwa [lW,hlen,lW] at hn)]; rfl,rfl⟩
theorem zaI {b:Bk}:∀ (rest S T:List Int),T.Sublist rest->T≠[]->((S++T).length:Int)<=b.high->seenM b (S++T)=true->S++T∈loopM b S rest
 | [],S,T,hs,hne,_,_=>absurd (List.sublist_nil.1 hs) hne
 | n::rest,S,T,hs,hne,hl,hsn=>by
  have hlt:(S.length:Int)<b.high:=by
   have:0<T.length:=List.length_pos_iff.2 hne;rw [lF] at hl;omega
  unfold loopM;rw [if_pos hlt];cases hs with
  | cons _ h=>exact lT.2 (.inr (zaI rest S T h hne hl hsn))
  | cons_cons _ h =>
   rename_i T';refine lT.2 (.inl ?_);rw [show S++n::T'=(S++[n])++T' by simp] at hl hsn ⊢;by_cases h0:T'=[]
   ·subst h0;rw [lR] at hl hsn ⊢;refine lT.2 (.inl ?_);unfold ownM;rw [if_pos hsn];exact lS.2 rfl
   ·exact lT.2 (.inr (zaI rest (S++[n]) T' h h0 hl hsn))
theorem zb7 {b:Bk}:∀ (m i:Nat) (xs:List Int),b.steps.toNat - i=m->xs.Pairwise (· < ·)->(∀ x∈xs,(i:Int)<=x/\x<b.steps)->xs.Sublist (restM b i)
 | _,_,[],_,_,_=>List.nil_sublist _
 | 0,i,x::xs,hm,_,hb=>by have:=hb x sQ; omega
 | m+1,i,x::xs,hm,hp,hb=>by
  rw [zcD oQ];have h2:=List.pairwise_cons.1 hp;by_cases hx:x=i
  ·subst hx;refine .cons_cons _ (zb7 m (i+1) xs oQ h2.2 fun y hy=>?_);have:=h2.1 y hy;have:=hb y (by simp [hy]);omega
  ·refine .cons _ (zb7 m (i+1) (x::xs) oQ hp fun y hy=>?_);have h3:=hb x sQ;have h4:=hb y hy;rcases List.mem_cons.1 hy with rfl | hy
   ·omega
   ·have:=h2.1 y hy; omega
def objsL (P:List (Nat×List Int)):KV:=P.map fun x=>(x.1,.cells (x.2.map intA) 3 false)
def refsL (P:List (Nat×List Int)):List AV:=P.map fun x=>.sl x.1 0 x.2.length
theorem zh9 (P:List (Nat×List Int)) (x:Nat×List Int):objsL (P++[x])=objsL P++[(x.1,.cells (x.2.map intA) 3 false)]:=by simp [objsL]
theorem ziu (P:List (Nat×List Int)) (x:Nat×List Int):refsL (P++[x])=refsL P++[.sl x.1 0 x.2.length]:=by simp [refsL]
theorem vu {P:List (Nat×List Int)} {x:Nat×List Int} (h:x∈P):(x.1,AObj.cells (x.2.map intA) 3 false)∈objsL P:=lY.2 ⟨x,h,rfl⟩
theorem zdT {P:List (Nat×List Int)} {k:Nat} (h:k<P.length) {e:TypeId} {sz:Nat}:z8 (.row (refsL P) e sz) k 1=some [.sl P[k].1 0 P[k].2.length]:=by
 simp only [z8,AObj.look];rw [if_pos (by simp [refsL]; omega)];simp [List.take_one,refsL,h]
abbrev Gs:=Nat×List Int×Int
def objsG (P:List Gs):KV:=P.map fun x=>(x.1,.cells (x.2.1.map intA) 3 false)
def refsG (P:List Gs):List AV:=P.flatMap fun x=>[.sl x.1 0 x.2.1.length,intA x.2.2]
theorem zh8 (P:List Gs) (x:Gs):objsG (P++[x])=objsG P++[(x.1,.cells (x.2.1.map intA) 3 false)]:=by simp [objsG]
theorem zit (P:List Gs) (x:Gs):refsG (P++[x])=refsG P++[.sl x.1 0 x.2.1.length,intA x.2.2]:=by simp [refsG]
theorem wE {P:List Gs} {x:Gs} (h:x∈P):(x.1,AObj.cells (x.2.1.map intA) 3 false)∈objsG P:=lY.2 ⟨x,h,rfl⟩
theorem zdS (P:List Gs):(refsG P).length=P.length*2:=yr _ 2 (fun _=>rfl) P
theorem zaf {P:List Gs} {k:Nat} (h:k<P.length) {e:TypeId} {sz:Nat}:z8 (.row (refsG P) e sz) (k*2) 2=some [.sl P[k].1 0 P[k].2.1.length,intA P[k].2.2]:=by
 have hle:(k+1)*2<=P.length*2:=Nat.mul_le_mul_right _ h;have hl:=zdS P;simp only [z8,AObj.look];rw [if_pos ⟨by omega,oQ⟩];unfold refsG;rw [kE _ 2 (fun _=>rfl) _ _ h]
theorem uT {α β:Type} (f:α->β) (lt:β->β->Bool) (o:α) (xs:List α):f (zQ (fun a c=>lt (f a) (f c)) o xs)=zQ lt (f o) (xs.map f):=by
 induction xs generalizing o with
 | nil=>rfl
 | cons x xs ih =>
  show f (zQ _ (if lt (f x) (f o)=true then x else o) xs)=zQ lt (if lt (f x) (f o)=true then f x else f o) (xs.map f);rw [ih];split <;> rfl
def bitsM (n bits:Nat):List Int:=((List.range n).filter (bitB bits)).map fun k:Nat=>(k:Int)
theorem zf3 {n bits:Nat} (h:bitB bits n=true):bitsM (n+1) bits=bitsM n bits++[(n:Int)]:=by
 unfold bitsM; rw [List.range_succ,List.filter_append]; simp [h]
theorem zf2 {n bits:Nat} (h:bitB bits n=false):bitsM (n+1) bits=bitsM n bits:=by
 unfold bitsM; rw [List.range_succ,List.filter_append]; simp [h]
theorem zdn (n bits:Nat):(bitsM n bits).length<=n:=by
 unfold bitsM; rw [lJ]; exact mT (List.length_filter_le _ _) sQ
def oddM (b:Bk) (k:Nat):List (List Int):=((List.range k).filter fun bits => !togM b bits).map (bitsM b.seekers.length)
theorem zlJ {b:Bk} {k:Nat} (h:togM b k=true):oddM b (k+1)=oddM b k:=by
 unfold oddM; rw [List.range_succ,List.filter_append]; simp [h]
theorem zia {b:Bk} {k:Nat} (h:togM b k=false):oddM b (k+1)=oddM b k++[bitsM b.seekers.length k]:=by
 unfold oddM; rw [List.range_succ,List.filter_append]; simp [h]
theorem zjL (b:Bk) (k:Nat):(oddM b k).length<=k:=by
 unfold oddM; rw [lJ]; exact mT (List.length_filter_le _ _) sQ
theorem zjK {b:Bk} {k:Nat}:∀ L∈oddM b k,L.length<=b.seekers.length:=fun L hL=>by
 obtain ⟨q,_,rfl⟩:=lY.1 hL;exact zdn _ _
def everyM (b:Bk):Nat:=2 ^ b.seekers.length - 1
def clashM (b:Bk):List Int:=zQ ltLists ((oddM b (everyM b+1)).headD []) ((oddM b (everyM b+1)).drop 1)
def guessM (b:Bk) (pre:List (List Int)):List (List Int×Int):=(pre.filter fun S => !badM b S b.seekers.length).map fun S=>(S,wrongM b S)
theorem zjs {b:Bk} {pre:List (List Int)} {S:List Int} (h:badM b S b.seekers.length=false):guessM b (pre++[S])=guessM b pre++[(S,wrongM b S)]:=by
 unfold guessM; rw [List.filter_append]; simp [h]
theorem zjr {b:Bk} {pre:List (List Int)} {S:List Int} (h:badM b S b.seekers.length=true):guessM b (pre++[S])=guessM b pre:=by
 unfold guessM; rw [List.filter_append]; simp [h]
def likelyM (b:Bk):List Int×Int:=zQ ltGuess ((guessM b (allM b)).headD ([],0)) ((guessM b (allM b)).drop 1)
theorem zep {main:Bool} {T:Goroutine->Hp->Prop} (hT:zk tp main T)  {b:Bk} {s e:Nat} (hse:s≠e) (hn:∀ x∈b.seekers,x.name.size<=1000) (hl:b.seen.length<=1000) :
  zh tp T gmS 44 [.agg (zC b s e)] [(0,zx),(1,zB),(s,zo b),(e,zp b)] (fun r K'=>(checkM b≠0/\r=.tup [.v (.slice none 0 0),intA (checkM b)]/\K'=[(0,zx),(1,zB),(s,zo b),(e,zp b)])\/(checkM b=0/\togM b (everyM b)=true/\r=.tup [.v (.slice none 0 0),intA 0]/\K'=[(0,zx),(1,zB),(s,zo b),(e,zp b)])\/(checkM b=0/\togM b (everyM b)=false/\∃ j,r=.tup [.sl j 0 (clashM b).length,intA 0]/\K'=[(0,zx),(1,zB),(s,zo b),(e,zp b),(j,.cells ((clashM b).map intA) 3 false)])):=by
 refine ze 60 hT Tryz.func44 fun Y hret=>?_;refine au 21042 ?_;intro jb hjb;refine au 680422355 ?_;refine bD Z Z Z Z (kO hT (b:=b) (s:=s) (e:=e) hn hl) ?_;rintro r1 K2 ⟨rfl,rfl⟩;refine au 93714235 ?_;constructor<;>intro hc0
 ·refine au 355142 ?_;refine bB hret [(0,_),(1,_),(s,_),(e,_)] ?_;exact .inl ⟨by simpa using hc0,rfl,rfl⟩
 have hck:checkM b=0:=by simpa using hc0
 have hb:=yp hck;have hn5:=hb.ns;have hp32:2 ^ b.seekers.length<=32:=mT (Nat.pow_le_pow_right oQ hn5) dQ;have hp1:1<=2 ^ b.seekers.length:=Nat.one_le_two_pow;have hev:(((2 ^ b.seekers.length:Nat):Int) - 1)=((everyM b:Nat):Int):=by unfold everyM; omega
 have hel:everyM b<=31:=by unfold everyM; omega
 refine au 28069067042120 ?_;refine bH Z (zlR Z Z Z oQ) ?_;refine bH Z (q_sub Z Z Z (by rw [hev]; omega)) ?_;rw [hev];refine au 143068042235 ?_;refine bD Z Z Z Z (zbF hT (bits:=everyM b) hse hb oQ) ?_;rintro r4 K5 ⟨rfl,rfl⟩;refine au 93 ?_;constructor<;>intro hc1
 ·refine au 35542 ?_;refine bB hret [(0,_),(1,_),(s,_),(e,_)] ?_;exact .inr (.inl ⟨hck,hc1,rfl,rfl⟩)
 refine au 542120 ?_;refine TK.virt 6 61 1 Z fun jo0 hjo0=>?_;refine au 1303123014223 ?_;refine bA [1,6,25,26] ?_;refine bC [(jo0,_),(jb,_),(0,_),(1,_),(s,_),(e,_)] ?_;refine bE (fun n env K=>∃ (i jo:Nat) (P:List (Nat×List Int)),n=everyM b+1 - i/\i<=everyM b+1/\P.map (·.2)=oddM b i/\env=zW 60 [(1,.ptr jb 0),(6,.row jo P.length),(25,intA (everyM b+1)),(26,intA i)]/\K=(jo,.row (refsL P) 61 1)::(jb,.cells (zC b s e) 27 true)::(0,zx)::(1,zB)::(s,zo b)::(e,zp b)::objsL P) (everyM b+1) ⟨0,jo0,[],rfl,mN _,rfl,rfl,rfl⟩ fun n env K hI' hnext=>?_;obtain ⟨i,jo,P,rfl,hi,hP,rfl,rfl⟩:=hI';have hPl:P.length<=i:=by have:=zjL b i; rw [<- hP,lJ] at this; exact this
 refine au 923742 ?_;constructor<;>intro hc2
 ·simp only [decide_eq_true_eq] at hc2;have hil:i<everyM b+1:=by omega
  refine au 1430680422351421302120 ?_;refine bD Z Z Z Z (zbF hT (bits:=i) hse hb oQ) ?_;rintro r7 K8 ⟨rfl,rfl⟩;refine au 93 ?_;constructor<;>intro hc3
  ·refine au 160 ?_;refine au 312304 ?_;refine bA [1,6,25,26] ?_;refine bC (((jo,_)::(jb,_)::(0,_)::(1,_)::(s,_)::(e,_)::objsL P)) ?_;exact hnext _ _ _ oQ ⟨i+1,jo,P,rfl,oQ,by rw [zlJ hc3]; exact hP,rfl,rfl⟩
  refine au 542120 ?_;refine TK.virt 8 3 1 Z fun j80 hj80=>?_;refine au 130312806906704223 ?_;refine bA [1,6,7,8,25,26,35,36] ?_;refine bC ((j80,_)::(jo,_)::(jb,_)::(0,_)::(1,_)::(s,_)::(e,_)::objsL P) ?_;refine bE (fun n env K=>∃ (q j8:Nat),n=b.seekers.length - q/\q<=b.seekers.length/\env=zW 60 [(1,.ptr jb 0),(6,.row jo P.length),(7,intA i),(8,.row j8 (bitsM q i).length),(25,intA (everyM b+1)),(26,intA i),(35,intA b.seekers.length),(36,intA q)]/\K=(j8,.row ((bitsM q i).map intA) 3 1)::(jo,.row (refsL P) 61 1)::(jb,.cells (zC b s e) 27 true)::(0,zx)::(1,zB)::(s,zo b)::(e,zp b)::objsL P) b.seekers.length ⟨0,j80,rfl,mN _,rfl,rfl⟩ fun n env K hI' hnext2=>?_;obtain ⟨q,j8,rfl,hq,rfl,rfl⟩:=hI';have hql2:=zdn q i;refine au 923742 ?_;constructor<;>intro hc4
  ·simp only [decide_eq_true_eq] at hc4;have hql:q<b.seekers.length:=by omega
   refine au 1142351421302120 ?_;refine bH Z (ziq Z Z Z oQ) ?_;refine bH Z (zik Z Z Z (by have:=Nat.div_le_self i (2 ^ q); omega)) ?_;refine au 937 ?_;constructor<;>intro hc5
   ·have hc5:bitB i q=true:=hc5;refine au 114 ?_;refine bI Z Z Z (zS (l:=[_]) Z SlEl.h TyZ.h dQ dQ Z) (fun _=>zz rfl tQ) fun j10 hj10=>?_;refine TK.appR Z Z Z (a_app Z ApOf.h Z mQ (by simp <;> omega) Z (kC (ln:=[_]) mQ dQ sQ Z) oQ Z (by unfold maxLen; omega) oQ) (fun _=>uQ) (fun _=>zz rfl tQ) fun j82=>?_;refine au 31230414035 ?_;refine bA [1,6,7,8,25,26,35,36] ?_;refine bC (((j82,_)::(jo,_)::(jb,_)::(0,_)::(1,_)::(s,_)::(e,_)::objsL P)) ?_;exact hnext2 _ _ _ oQ ⟨q+1,j82,rfl,oQ,by rw [zf3 hc5,lF]; rfl,by rw [zf3 hc5,lM]; rfl⟩
   have hc5:bitB i q=false:=hc5;refine au 312304140120 ?_;refine bA [1,6,7,8,25,26,35,36] ?_;refine bC (((j8,_)::(jo,_)::(jb,_)::(0,_)::(1,_)::(s,_)::(e,_)::objsL P)) ?_;exact hnext2 _ _ _ oQ ⟨q+1,j8,rfl,oQ,by rw [zf2 hc5] <;> rfl,by rw [zf2 hc5] <;> rfl⟩
  simp only [decide_eq_false_iff_not] at hc4;obtain rfl:q=b.seekers.length:=by omega
  refine au 160 ?_;refine TK.freezeR 8 Z uQ Z ?_;refine au 114 ?_;refine bI Z Z Z (zS (l:=[_]) Z SlEl.h TyZ.h dQ dQ Z) (fun _=>zz rfl tQ) fun j19 hj19=>?_;refine TK.appR Z Z Z (a_app Z ApOf.h Z mQ (by simp [refsL]) Z (kC (ln:=[_]) mQ dQ sQ Z) oQ Z (by unfold maxLen; omega) oQ) (fun _=>uQ) (fun _=>zz rfl tQ) fun jo2=>?_;refine au 14035 ?_;refine au 312304 ?_;refine bA [1,6,25,26] ?_;refine bC (((j8,_)::(jo2,_)::(jb,_)::(0,_)::(1,_)::(s,_)::(e,_)::objsL P)) ?_;refine bN (K':=(jo2,.row (refsL (P++[(j8,bitsM b.seekers.length i)])) 61 1)::(jb,.cells (zC b s e) 27 true)::(0,zx)::(1,zB)::(s,zo b)::(e,zp b)::objsL (P++[(j8,bitsM b.seekers.length i)])) (by rw [zh9,ziu]; exact (List.perm_append_singleton _ ((jo2,_)::(jb,_)::(0,_)::(1,_)::(s,_)::(e,_)::objsL P)).symm) ?_;exact hnext _ _ _ oQ ⟨i+1,jo2,P++[(j8,bitsM b.seekers.length i)],rfl,oQ,by rw [zia hc3,lM,hP]; rfl,by rw [lF]; rfl,rfl⟩
 simp only [decide_eq_false_iff_not] at hc2;obtain rfl:i=everyM b+1:=by omega
 obtain ⟨p,ps,rfl⟩:∃ p ps,P=p::ps:=by
  cases P with
  | nil =>
   rw [zia hc1] at hP;have:=congrArg List.length hP;simp at this
  | cons p ps=>exact ⟨p,ps,rfl⟩
 have hlen:∀ x∈p::ps,x.2.length<=1000:=fun x hx=>by
  have:=zjK (b:=b) (k:=everyM b+1) x.2 (by rw [<- hP]; exact List.mem_map_of_mem (f:=fun x:Nat×List Int=>x.2) hx);omega
 refine au 2160 ?_;refine bL [0,1,2,3,4,5,6,7] ?_;refine ad [[1,6]] ?_;refine bT [54] Z (hq:=vG Z Z Z SlEl.h (mC _) (by first | omega | (simp only [lZ]; omega)) (by first | omega | (simp only [lZ]; omega))) (h:=?_);refine bT [55] Z (hq:=zl Z Z zd.h (mC _) (zdT (k:=0) sQ)) (h:=?_);refine ad [[1,6]] ?_;refine bT [57] Z (hq:=wU Z Z SlEl.h (mC _) Z Z (by first | omega | (simp only [lZ]; omega)) (by first | omega | (simp only [lZ]; omega)) Z) (h:=?_);refine bQ (pend':=[⟨3,[6],[]⟩,⟨1,[54],[(_,_)]⟩,⟨0,[6],[]⟩]) [56,58] Z Z Z Z Z (zez hT (o:=p) (xs:=ps) (lt:=fun a c=>ltLists a.2 c.2) (fv:=.fn 125 [] []) (jo:=jo) (off:=1) (obo:=.row (refsL (p::ps)) 61 1) (K:=(jo,.row (refsL (p::ps)) 61 1)::objsL (p::ps)) (by simp at hPl; omega) sQ (fun k hk=>by rw [show 1+((k:Int)).toNat*1=k+1 by rw [mZ]; omega]; exact zdT (P:=p::ps) (k:=k+1) (by simpa using hk)) (fun x hx y hy=>yx Cal.h (zhA hT (lL _ (vu hx)) (lL _ (vu hy)) (yB _ _ _) (yB _ _ _) (hlen x hx) (hlen y hy)))) (fun r11 K12 h13=>⟨?_,?_⟩)
 ·rcases h13 with ⟨rfl,rfl⟩
  all_goals simp
 obtain ⟨rfl,rfl⟩:=h13;try simp only [cA]
 refine bS tQ ?_;refine TD.perm (List.Perm.cons _ lH) ?_;simp only [cA];generalize hres0:zQ (fun (a c:Nat×List Int)=>ltLists a.2 c.2) p ps=res;have hmem:res∈p::ps:=hres0 ▸ kf;obtain ⟨R1,hR1⟩:=vI (vu hmem);have hcl:res.2=clashM b:=by
  rw [<- hres0,uT (fun x:Nat×List Int=>x.2)];unfold clashM;rw [<- hP]; rfl
 refine ad [[13,59],[13],[14]] ?_;refine au 0 ?_;refine bB hret [(0,_),(1,_),(s,_),(e,_),(res.1,.cells (res.2.map intA) 3 false)] ?_ (hs:=(by repeat (first | exact Split.none _ | exact Split.all _ | (apply Split.rem; repeat (first | exact Rem.head | exact hR1 | apply Rem.tail)) | apply Split.right)));refine .inr (.inr ⟨hck,hc1,res.1,?_,?_⟩)
 ·rw [<- hcl]; rfl
 ·rw [<- hcl]
end Go.Vel
end
