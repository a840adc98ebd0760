/- Texts for the statements of chapter 9: what all of them need, part 8. It holds of every program, tape and world that the statements name, as each theorem says. -/
import Derived.Test.YtcddfkgckelhiaaGreatDoorProg
import Derived.Test.YtcddfkgckelhiaaGreatDoorL3
import Derived.Test.YtcddfkgckelhiaaGreatDoorL4
import Derived.Test.YtcddfkgckelhiaaGreatDoorL5
import Derived.Test.YtcddfkgckelhiaaGreatDoorL6
section
set_option linter.all false
set_option maxRecDepth 20000
set_option maxHeartbeats 60000000
open Go.Proofs.Tryz renaming prog -> tp
open List renaming getElem?_eq_getElem -> lA, getElem?_eq_some_iff -> lD, getD_eq_getElem?_getD -> lE, mem_cons -> lI, length_map -> lJ, map_append -> lM, mem_of_getElem? -> lN, getElem?_set_ne -> lP, append_nil -> lR, mem_append -> lT, take_length -> lW, getElem?_set -> lX, mem_map -> lY, length_cons -> lZ, map_congr_left -> mA, replicate -> mB
open List.Mem renaming head -> mC
open Nat renaming zero_le -> mN, zero_add -> mO, eq_zero_or_pos -> mP, le_trans -> mT
open Bool renaming not_eq_true' -> mV, and_eq_true -> mX
open Int renaming toNat_natCast -> mZ
open Go.Vel.TK renaming maskL -> bA, rt -> bB, kp -> bC, cl -> bD, loopN -> bE, sp -> bF, a -> bH, newR -> bI
open Go.Vel.TD renaming cl -> bQ, norm -> bS, z -> bU, cnewR -> bV
namespace Go.Vel
open Go Go.Conc Go.Proofs
section
variable {P:Program} {gm:Nat->Option Nat} {T:Goroutine->Hp->Prop} {Y:KX P gm T} {ds:List Nat} {k:List Item} {env env':List AV} {K K':KV}
theorem TK.nilAgg (d p:Nat) (e:TypeId) {l:List AV} {x:Option Addr} {c:Nat} (hx:env[d]? =some (.agg l)) (hp:l[p]? =some (.v (.slice x 0 c))) (h:∀ j,j∉keys K->TK Y ds k (env.set d (.agg (l.set p (.sl j 0 0)))) ((j,.cells [] e false)::K)):TK Y ds k env K:=fun A hA φ H ts h1 h2 h3 h4 h5 h6=>by
 have hk:A.length∉keys K:=fun hm=>absurd (hA.view.lt hm) (Nat.lt_irrefl _);have hH:=h5.virtO (o:=.cells [] e false) (fun φ n hl=>absurd rfl hl) (fun hl=>hl rfl);have hag:=yr φ A.length ⟨0,0,0⟩;have hlen:(A++[AObj.cells [] e false]).length=A.length+1:=by simp
 have hds:dsC (upd3 φ A.length ⟨0,0,0⟩) ds=dsC φ ds:=by
  unfold dsC;exact mA fun d hd'=>by rw [hag d (h4 d hd')]
 rw [<- hds];refine h _ hk _ (hA.step (.push hA.view hA.nd _)) _ H ts (h1.trans hag h2) oQ (h3.mono hag oQ) (fun d hd=>by have:=h4 d hd; omega) hH ?_;have hE:=h6.mono (n':=(A++[AObj.cells [] e false]).length) hag oQ;exact hE.set' hx fun y hy=>by
  obtain ⟨ys,rfl,q1,q2⟩:=zbb hy;refine .agg (by simpa using q1) fun t u z hu hz=>?_;rw [lX] at hu;split at hu
  ·rename_i ht;subst ht;split at hu
   ·cases hu;have:=q2 p _ z hp hz;rw [inv_v this];exact .sl oQ (mN _) fun hp=>absurd hp (Nat.lt_irrefl _)
   ·cases hu
  ·exact q2 t u z hu hz
end
def greatM (b:Bk):Bool:=decide (b.seekers.length>20)||decide (b.seen.length>20)||b.seekers.any fun x=>decide (x.name.size>100)
theorem zlp {α:Type} {xs:List α} {p:α->Bool} (h:(xs.take xs.length).any p=false):xs.any p=false:=by rwa [lW] at h
theorem zg8 {α:Type} {xs:List α} {p:α->Bool} {i:Nat} {x:α} (h:xs[i]? =some x) (he:p x=true):xs.any p=true:=List.any_eq_true.2 ⟨x,lN h,he⟩
theorem zbw {b:Bk} (h:greatM b=false):b.seekers.length<=20/\b.seen.length<=20/\∀ x∈b.seekers,x.name.size<=100:=by
 unfold greatM at h;simp only [Bool.or_eq_false_iff,decide_eq_false_iff_not] at h;refine ⟨by omega,oQ,fun x hx=>?_⟩;have:=List.any_eq_false.1 h.2 x hx;simp at this;omega
def exB:Bk:=⟨8,1,1,1,[⟨⟨#[97,110,110]⟩,1,3,0,false⟩,⟨⟨#[98,111]⟩,2,5,1,false⟩,⟨⟨#[99,121]⟩,3,6,0,false⟩],[]⟩
def exB2:Bk:={ exB with low:=2,high:=2 }
def exX:Says:=⟨⟨#[100,105]⟩,5,1,0,true⟩
theorem ze2:checkM exB=0:=by kernel_rfl
theorem ziA:zb exB=[[1],[3],[6]]:=by kernel_rfl
theorem ziy:askM exB true=0:=by kernel_rfl
theorem ex_r0:rightApi exB [3] 0=(true,0):=by kernel_rfl
theorem ex_r1:rightApi exB [3] 1=(false,0):=by kernel_rfl
theorem ex_s3:stateApi exB [3]=(true,0):=by kernel_rfl
theorem ex_s4:stateApi exB [4]=(false,0):=by kernel_rfl
theorem ex_st:statesApi exB=(3,0):=by kernel_rfl
theorem zmC:atApi exB 1=(0,0):=by kernel_rfl
theorem zmB:atApi exB 0=(2,0):=by kernel_rfl
theorem ex_p1:pickL exB 1 exB.steps.toNat=[]:=by kernel_rfl
theorem ex_p0:pickL exB 0 exB.steps.toNat=[1,3,6]:=by kernel_rfl
theorem ex_w:withinApi exB 6 1=((0,1),0):=by kernel_rfl
theorem ex_n:narrowApi exB=((1,6),true,0):=by kernel_rfl
theorem ex_wr:wrongApi exB 0=(0,0):=by kernel_rfl
theorem ex_g0:guessM exB (allM exB)≠[]:=by decide +kernel
theorem ex_li:likelyM exB=([1],1):=by kernel_rfl
theorem ex_t:togM exB (everyM exB)=false:=by kernel_rfl
theorem ex_cl:clashM exB=[0,1,2]:=by kernel_rfl
theorem zlB:askApi exB=(1,2,0):=by kernel_rfl
theorem zlD:lendApi exB=(0,2,0):=by kernel_rfl
theorem zmE:giveM exB 0=0:=by kernel_rfl
theorem ex_g2:statesApi (giveB exB 0)=(2,0):=by kernel_rfl
theorem ex_g3:narrowApi (giveB exB 0)=((1,3),true,0):=by kernel_rfl
theorem ex_lk:newsM exB (lookB exB ⟨3,true⟩)=0:=by kernel_rfl
theorem zmG:statesApi (lookB exB ⟨3,true⟩)=(1,0):=by kernel_rfl
theorem ex_hr:newsM exB (hearB exB exX)=0:=by kernel_rfl
theorem zmF:statesApi (hearB exB exX)=(2,0):=by kernel_rfl
theorem zmA:statesApi exB2=(17,0):=by kernel_rfl
theorem zix:checkM exB2=0:=by kernel_rfl
theorem ex2_g:guessM exB2 (allM exB2)≠[]:=by decide +kernel
theorem zmz:likelyM exB2=([1,6],0):=by kernel_rfl
theorem ex2_t:togM exB2 (everyM exB2)=true:=by kernel_rfl
theorem zmD:(zb exB).map (fun S=>(S.length:Int))=[1,1,1]:=by rw [ziA]; rfl
theorem ziz:countsM exB=[1]:=by
 unfold countsM sortI;rw [zmD,List.mergeSort_of_pairwise dQ]
 decide +kernel
theorem zks {main T} (hT:zk tp main T) {gm} {b:Bk} {s e:Nat} :
  zh tp T gm 28 [.agg (zx b s e)] [(s,zo b)] (fun r K'=>r=zl (greatM b)/\K'=[(s,zo b)]):=by
 refine ze 29 hT Tryz.func28 fun Y hret=>?_;refine au 21042 ?_;intro jb hjb;refine au 1728069067042235 ?_;refine bF 8 (fun g1_5=>?_) (fun g1_5=>?_)
 ·refine au 354218032608888 ?_;refine bB hret [(s,_)] ?_;exact ⟨by unfold greatM; rw [show decide (b.seekers.length>20)=true by have:=of_decide_eq_true g1_5; simp; omega]; rfl,rfl⟩
 have hlen20:b.seekers.length<=20:=by have:=of_decide_eq_false g1_5; omega
 refine au 932507280690670 ?_;constructor<;>intro hc0
 ·refine au 3542 ?_;refine bB hret [(s,_)] ?_;exact ⟨by unfold greatM; rw [show decide (b.seen.length>20)=true by have:=of_decide_eq_true hc0; simp; omega,Bool.or_true]; rfl,rfl⟩
 refine au 13035422120 ?_;refine bA [1,3] ?_;refine bE (fun n env K=>∃ (i:Nat),n=b.seekers.length - i/\i<=b.seekers.length/\((b.seekers.take i).any fun x=>decide (x.name.size>100))=false/\env=zK 29 [(1,.ptr jb 0),(3,intA i)]/\K=[(jb,.cells (zx b s e) 27 true),(s,zo b)]) b.seekers.length ⟨0,rfl,mN _,rfl,rfl,rfl⟩ fun n env K hI' hnext=>?_;obtain ⟨i,rfl,hi,hany,rfl,rfl⟩:=hI';refine au 9372806906701422 ?_;refine ⟨fun hc=>?_,fun hc=>?_⟩
 ·simp only [decide_eq_true_eq] at hc;have hil:i<b.seekers.length:=by omega
  obtain ⟨x,hx⟩:∃ x,b.seekers[i]? =some x:=⟨_,lA hil⟩;refine au 6703601690670421302120 ?_;refine bH Z (zm Z Z zd.h mQ (kA (says_at' b hx) dQ Z)) ?_;refine au 937290 ?_;constructor<;>intro hc2
  ·refine au 3542 ?_;refine bB hret [(s,_)] ?_;exact ⟨by unfold greatM; rw [zg8 (p:=fun x:Says=>decide (x.name.size>100)) hx (by have:=of_decide_eq_true hc2; simp; omega),Bool.or_true]; rfl,rfl⟩
  refine au 3523014140120 ?_;refine bA [1,3] ?_;refine bC [(jb,_),(s,_)] ?_;exact hnext _ _ _ oQ ⟨i+1,rfl,oQ,vD hx hany (by have:=of_decide_eq_false hc2; simp; omega),rfl,rfl⟩
 simp only [decide_eq_false_iff_not] at hc;obtain rfl:i=b.seekers.length:=by omega
 refine au 3542160 ?_;refine bB hret [(s,_)] ?_;exact ⟨by unfold greatM; rw [zlp hany,show decide (b.seekers.length>20)=false by have:=of_decide_eq_false g1_5; simp; omega,show decide (b.seen.length>20)=false by have:=of_decide_eq_false hc0; simp; omega]; rfl,rfl⟩
theorem to_ok {main T} (hT:zk tp main T) {gm} {a z:Int} :
  zh tp T gm 45 [intA a,intA z] [] (fun r K'=>r=.agg [intA a,intA z]/\K'=[]):=by
 refine ze 8 hT Tryz.func45 fun Y hret=>?_;refine au 22042 ?_;intro j1 hj1;refine au 317039011423 ?_;refine bB hret [] ?_;exact ⟨rfl,rfl⟩
theorem zgS {main T} (hT:zk tp main T) {gm} {n:Int} :
  zh tp T gm 51 [intA n] [] (fun r K'=>r=.agg [intA n,intA n]/\K'=[]):=by
 refine ze 6 hT Tryz.func51 fun Y hret=>?_;refine au 22042 ?_;intro j1 hj1;refine au 11423 ?_;refine bD Z Z Z Z (to_ok hT) ?_;rintro r2 K3 ⟨rfl,rfl⟩;refine au 3170 ?_;refine bB hret [] ?_;exact ⟨rfl,rfl⟩
theorem zkH {main T} (hT:zk tp main T) {gm} {j off j2 off2:Nat} {ob ob2:AObj} {xs ys:List Int} (hjj:j≠j2) (hI:IntsAt ob off xs) (hI2:IntsAt ob2 off2 ys) (hlx:xs.length<=100000) :
  zh tp T gm 38 [.sl j off xs.length,.sl j2 off2 ys.length] [(j,ob),(j2,ob2)] (fun r K'=>r=zl (decide (xs=ys))/\K'=[(j,ob),(j2,ob2)]):=by
 refine ze 8 hT Tryz.func38 fun Y hret=>?_;refine au 11423542 ?_;refine bD Z Z Z Z (zgs hT hjj hI hI2 hlx) ?_;rintro r1 K2 ⟨rfl,rfl⟩;refine au 35 ?_;refine bB hret [(j,_),(j2,_)] ?_;exact ⟨rfl,rfl⟩
theorem zhp {main T} (hT:zk tp main T) {gm}  :
  zh tp T gm 32 [] [] (fun r K'=>∃ s e,s≠e/\r=.agg (zx exB s e)/\K'=[(s,zo exB),(e,zp exB)]):=by
 refine ze 7 hT Tryz.func32 fun Y hret=>?_;refine au 22042 ?_;intro j1 hj1;refine au 423 ?_;refine bD Z Z Z Z (zgS hT) ?_;rintro r2 K3 ⟨rfl,rfl⟩;refine au 420420420 ?_;refine bI Z Z Z (zD (l:=[_,_,_,_,_,_,_,_,_,_,_,_,_,_,_]) Z zT.h TyZ.h dQ dQ Z) (fun _=>zt rfl tQ) fun jS hjS=>?_;refine TK.freezeR 5 Z uQ Z ?_;refine au 430 ?_;refine TK.nilAgg 6 5 200 Z Z fun jE hjE=>?_;refine au 3170 ?_;refine bB hret [(jS,_),(jE,_)] ?_;exact ⟨jS,jE,fun h=>hjE (by subst h; simp [keys]),rfl,rfl⟩
theorem zan {b:Bk} (hc:checkM b=0):(statesApi b).1=(zb b).length/\(statesApi b).2=0:=by
 unfold statesApi;rw [if_neg (by simp [hc])];exact ⟨rfl,rfl⟩
def fitM (b:Bk):Bool := !greatM b&&checkM b==0
structure Fits9 (b:Bk):Prop where
 check:checkM b=0
 names:∀ x∈b.seekers,x.name.size<=1000
 seen:b.seen.length<=1000
 says:b.seekers.length<=1000
 small:∀ x∈b.seekers,x.name.size<=100
theorem zmI {b:Bk} (h:fitM b=true):Fits9 b:=by
 unfold fitM at h;simp only [mX,mV,beq_iff_eq] at h;obtain ⟨h1,h2,h3⟩:=zbw h.1;exact ⟨h.2,fun x hx=>mT (h3 x hx) oQ,oQ,oQ,h3⟩
section
variable {P:Program} {gm:Nat->Option Nat} {T:Goroutine->Hp->Prop} {Y:KX P gm T} {ds:List Nat} {k:List Item} {env env':List AV} {K K' K1:KV} {ops:Array Oper} {i:Nat} {L':List Nat} {o:Oper} {envf:Nat->List AV} {pend pend':List Pd}
end
section
variable {P:Program} {gm:Nat->Option Nat} {T:Goroutine->Hp->Prop} {Y:KX P gm T} {ds:List Nat} {k:List Item} {env env':List AV} {K K':KV}
end
def newsR (b o:Bk):Int:=if checkM b≠0 then checkM b else knownBar o true
def giveR (b:Bk) (k:Int):Int:=if checkM b≠0 then checkM b else if isSeekerM b k=false then 6 else if glassB b k.toNat=true then 5 else knownBar (giveB b k.toNat) true
instance:Cal tp 21:={}
instance:Cal tp 28:={}
instance:Cal tp 29:={}
instance:Cal tp 80:={}
def whoM (b:Bk) (k:Int):Int:=if (b.seekers.length:Int)=0 then -1 else k % b.seekers.length
theorem zii {b:Bk} {n:Int} (h0:askM b true=0) (hs:zF b n=true):(atApi b n).1=wordM (zb b).length (oftM (zb b) n)/\(atApi b n).2=0:=by
 unfold atApi;rw [hs,if_neg (by simp [h0])];exact ⟨rfl,rfl⟩
theorem kK {b:Bk} {k:Nat} (h0:askM b true=0) (hk:k<b.seekers.length):(wrongApi b k).1=wordM (zb b).length ((zb b).length - rightsM b (zb b) k)/\(wrongApi b k).2=0:=by
 unfold wrongApi;rw [show isSeekerM b k=true by unfold isSeekerM; simp only [mX,decide_eq_true_eq]; omega,if_neg (by simp [h0]),mZ];exact ⟨rfl,rfl⟩
theorem zie {b:Bk} {lo hi:Int} (h0:askM b true=0) (h1:zF b lo=true) (h2:zF b hi=true):(withinApi b lo hi).1=withinM b (zb b) lo ((hi - lo+b.steps) % b.steps+1)/\(withinApi b lo hi).2=0:=by
 unfold withinApi;rw [h1,h2,if_neg (by simp [h0])];exact ⟨rfl,rfl⟩
theorem zc8 {b:Bk} {lo w:Int} (hc:checkM b=0) (h0:askM b true=0) (hlo:0<=lo/\lo<b.steps) (hw:1<=w/\w<=b.steps):(withinApi b lo ((lo+w - 1) % b.steps)).1=withinM b (zb b) lo w/\(withinApi b lo ((lo+w - 1) % b.steps)).2=0:=by
 have h:=zie (lo:=lo) (hi:=(lo+w - 1) % b.steps) h0 (by unfold zF; simp only [mX,decide_eq_true_eq]; omega) (zjP (yy hc) _);rw [zlj hlo.1 hlo.2 hw.1 hw.2] at h;exact h
theorem zcD {b:Bk} (h0:askM b true=0):(narrowApi b).2.2=0/\(narrowApi b).2.1=decide (arcsOf b (List.range b.steps.toNat)≠[])/\(arcsOf b (List.range b.steps.toNat)≠[]->(narrowApi b).1=narrowM b):=by
 unfold narrowApi;rw [if_neg (by simp [h0])];by_cases h:arcsOf b (List.range b.steps.toNat)=[]
 ·rw [if_pos h]; exact ⟨rfl,by simp [h],fun h2=>absurd h h2⟩
 ·rw [if_neg h]; exact ⟨rfl,by simp [h],fun _=>rfl⟩
theorem zcl {b:Bk} (hb:BkOk b):(countsM b).length<=1000:=by
 have h:=zac (l1:=countsM b) (l2:=[0,1,2,3]) (zif (zhl hb)) fun x hx=>by
  obtain ⟨S,h1,rfl⟩:=(uT hb x).1 hx;have:=zeu hb h1;simp only [lI,List.not_mem_nil,or_false];omega
 simp at h;omega
theorem zcx {main T} (hT:zk tp main T) {gm} {j off j2 off2:Nat} {ob ob2:AObj} {xs ys:List Int} (hjj:j≠j2) (hI:IntsAt ob off xs) (hI2:IntsAt ob2 off2 ys) (hlx:xs.length<=100000) (hly:ys.length<=1000) :
  zh tp T gm 21 [.sl j off xs.length,.sl j2 off2 ys.length] [(j,ob),(j2,ob2)] (fun r K'=>r=zl (xs.all fun x=>decide (x∈ys))/\K'=[(j,ob),(j2,ob2)]):=by
 refine ze 19 hT Tryz.func21 fun Y hret=>?_;refine au 130354223542 ?_;refine bA [0,1,5] ?_;refine bE (fun n env K=>∃ (i:Nat),n=xs.length - i/\i<=xs.length/\((xs.take i).all fun x=>decide (x∈ys))=true/\env=zK 19 [(0,.sl j off xs.length),(1,.sl j2 off2 ys.length),(5,intA i)]/\K=[(j,ob),(j2,ob2)]) xs.length ⟨0,rfl,mN _,rfl,rfl,rfl⟩ fun n env K hI' hnext=>?_;obtain ⟨i,rfl,hi,hn,rfl,rfl⟩:=hI';refine au 93728011422 ?_;refine ⟨fun hc=>?_,fun hc=>?_⟩
 ·simp only [decide_eq_true_eq] at hc;have hil:i<xs.length:=by omega
  refine au 360111421302120 ?_;refine bH Z (zm Z Z zd.h mQ (hI i hil)) ?_;refine bD Z Z Z Z (uZ hT hI2 hly) ?_;rintro r1 K2 ⟨rfl,rfl⟩;refine au 0 ?_;refine TK.perm (List.Perm.swap _ _ _) ?_;refine au 93300 ?_;constructor<;>intro hc1
  ·refine au 3542 ?_;refine bB hret [(j,_),(j2,_)] ?_;exact ⟨by rw [show (xs.all fun x=>decide (x∈ys))=false from List.all_eq_false.2 ⟨xs[i],List.getElem_mem hil,by simpa using hc1⟩]; rfl,rfl⟩
  refine au 3523014140120 ?_;refine bA [0,1,5] ?_;refine bC [(j,_),(j2,_)] ?_;exact hnext _ _ _ oQ ⟨i+1,rfl,oQ,by rw [List.take_add_one,lA hil,List.all_append,hn]; simpa using hc1,rfl,rfl⟩
 simp only [decide_eq_false_iff_not] at hc;obtain rfl:i=xs.length:=by omega
 refine au 3542160 ?_;refine bB hret [(j,_),(j2,_)] ?_;exact ⟨by rw [show (xs.all fun x=>decide (x∈ys))=true by rwa [lW] at hn]; rfl,rfl⟩
theorem zm7 {main T} (hT:zk tp main T) {gm} {b:Bk} {s e:Nat} {k:Int} (hk:0<=k/\k<256) (hl2:b.seekers.length<=1000) :
  zh tp T gm 58 [.agg (zx b s e),.v (.int .u8 k)] [] (fun r K'=>r=intA (whoM b k)/\K'=[]):=by
 refine ze 15 hT Tryz.func58 fun Y hret=>?_;refine au 21042 ?_;intro jb hjb;refine au 93728069067042235 ?_;constructor<;>intro hc0
 ·refine au 3542 ?_;refine bB hret [] ?_;exact ⟨by unfold whoM; rw [if_pos (by simpa using hc0)]; rfl,rfl⟩
 have hpos:0<b.seekers.length:=by have:¬ ((b.seekers.length:Int)=0):=(by simpa using hc0); omega
 refine au 142120 ?_;refine bH Z (wa Z Z Und.h Und.h (kr oQ)) ?_;refine au 280690670 ?_;refine bH Z (q_rem Z Z Z oQ oQ) ?_;refine au 35 ?_;refine bB hret [] ?_;exact ⟨by unfold whoM; rw [if_neg (by simpa using hc0)]; rfl,rfl⟩
end Go.Vel
namespace Go.Vel
open Go Go.Conc
structure StR where
 holds:Int
 way:Int
 gate:Bool
structure GrR where
 name:ByteArray
 many:Int
structure StB where
 platform:Int
 keeper:Bool
 stairs:List StR
 groups:List GrR
structure StA where
 stage:Int
 stair:Int
 deriving DecidableEq
instance:Inhabited StR:=⟨⟨0,0,false⟩⟩
instance:Inhabited GrR:=⟨⟨ByteArray.empty,0⟩⟩
def a0:StA:=⟨0,0⟩
def atI (s:List StA) (i:Nat):StA:=s.getD i a0
def str (b:StB) (k:Nat):StR:=b.stairs.getD k default
def grp (b:StB) (i:Nat):GrR:=b.groups.getD i default
def sumZ (f:Nat->Int):Nat->Int
 | 0=>0
 | k+1=>sumZ f k+f k
def manyI (b:StB) (s:List StA) (p:StA->Bool) (i:Nat):Int:=if p (atI s i)=true then (grp b i).many else 0
def sumS (b:StB) (s:List StA) (p:StA->Bool):Int:=sumZ (manyI b s p) b.groups.length
def onS (b:StB) (s:List StA) (stage:Int) (k:Int):Int:=sumS b s fun a=>decide (a=⟨stage,k⟩)
def atS (b:StB) (s:List StA) (stage:Int):Int:=sumS b s fun a=>decide (a.stage=stage)
def stUp (b:StB) (s:List StA) (i k:Nat):Bool :=
 !((str b k).gate&&decide (atS b s 2+atS b s 1+(grp b i).many>b.platform))&&(decide ((str b k).way≠2)&&(decide (onS b s 3 k=0)&&decide (onS b s 1 k+(grp b i).many<=(str b k).holds)))
def arriveS (b:StB) (s:List StA) (i k:Nat):Bool:=decide ((atI s i).stair=k)&&(!b.keeper||decide (atS b s 2+(grp b i).many<=b.platform))
def downS (b:StB) (s:List StA) (i k:Nat):Bool:=decide ((str b k).way≠1)&&(decide (onS b s 1 k=0)&&decide (onS b s 3 k+(grp b i).many<=(str b k).holds))
def leaveS (s:List StA) (i k:Nat):Bool:=decide ((atI s i).stair=k)
def mayS (b:StB) (s:List StA) (i k:Nat):Bool :=
 if (atI s i).stage=0 then stUp b s i k else if (atI s i).stage=1 then arriveS b s i k else if (atI s i).stage=2 then downS b s i k else if (atI s i).stage=3 then leaveS s i k else false
def nextA (a:StA) (k:Nat):StA:=⟨a.stage+1,if a.stage+1=1\/a.stage+1=3 then k else 0⟩
def behindS (s:List StA) (i k:Nat):List StA:=s.set i (nextA (atI s i) k)
def movesI (b:StB) (s:List StA) (i:Nat):List (Nat×Nat):=((List.range b.stairs.length).filter fun k=>mayS b s i k).map fun k=>(i,k)
def movesS (b:StB) (s:List StA):List (Nat×Nat):=(List.range b.groups.length).flatMap (movesI b s)
def stMost (b:StB):Nat->List StA->Int
 | 0,s=>atS b s 2
 | n+1,s=>(movesS b s).foldl (fun m x=>max m (stMost b n (behindS s x.1 x.2))) (atS b s 2)
def restS (s:List StA):Nat:=((4 - (atI s 0).stage)+(4 - (atI s 1).stage)+(4 - (atI s 2).stage)+(4 - (atI s 3).stage)).toNat
structure SpOk (s:List StA):Prop where
 len:s.length=4
 bnd:∀ i,0<=(atI s i).stage/\(atI s i).stage<=4
def spot0:List StA:=[a0,a0,a0,a0]
theorem zdc {s:List StA} {i:Nat} {a:StA} (h:i<s.length) (j:Nat):atI (s.set i a) j=if j=i then a else atI s j:=by
 unfold atI;rw [lE,lX];by_cases e:j=i
 ·subst e; rw [if_pos rfl,if_pos h,if_pos rfl]; rfl
 ·rw [if_neg (fun e2=>e e2.symm),if_neg e,lE]
theorem zeb {b:StB} {s:List StA} {x:Nat×Nat}:x∈movesS b s↔x.1<b.groups.length/\x.2<b.stairs.length/\mayS b s x.1 x.2=true:=by
 unfold movesS movesI;simp only [List.mem_flatMap,lY,List.mem_filter,List.mem_range];constructor
 ·rintro ⟨i,hi,k,⟨hk,hm⟩,rfl⟩;exact ⟨hi,hk,hm⟩
 ·rintro ⟨h1,h2,h3⟩;exact ⟨x.1,h1,x.2,⟨h2,h3⟩,rfl⟩
theorem zbV {f:Nat×Nat->Int}:∀ (l:List (Nat×Nat)) (z:Int),z<=l.foldl (fun m x=>max m (f x)) z/\(∀ x∈l,f x<=l.foldl (fun m x=>max m (f x)) z)/\∀ M,z<=M->(∀ x∈l,f x<=M)->l.foldl (fun m x=>max m (f x)) z<=M
 | [],z=>⟨Int.le_refl _,(fun x h=>by cases h),fun M h _=>h⟩
 | y::l,z=>by
  obtain ⟨h1,h2,h3⟩:=zbV (f:=f) l (max z (f y));rw [List.foldl_cons];refine ⟨by omega,fun x hx=>?_,fun M hz hM=>?_⟩
  ·rcases lI.1 hx with rfl | hx
   ·omega
   ·exact h2 x hx
  ·have:=hM y sQ;exact h3 M oQ fun x hx=>hM x (by simp [hx])
def skip (i j:Nat):Nat:=if j<i then j else j+1
theorem zao {f g:Nat->Int}:∀ n,(∀ i,i<n->f i=g i)->sumZ f n=sumZ g n
 | 0,_=>rfl
 | n+1,h=>by
  unfold sumZ;rw [zao n fun i hi=>h i oQ,h n oQ]
theorem zfX {f:Nat->Int} {i:Nat} (h0:f i=0):∀ m,i<=m->sumZ f (m+1)=sumZ (fun j=>f (skip i j)) m
 | 0,h=>by
  obtain rfl:i=0:=by omega
  show 0+f 0=0;rw [h0]; rfl
 | m+1,h=>by
  show sumZ f (m+1)+f (m+1)=sumZ (fun j=>f (skip i j)) m+f (skip i m);by_cases e:i=m+1
  ·subst e;rw [h0,Int.add_zero];have e1:skip (m+1) m=m:=if_pos oQ;rw [e1];show sumZ f m+f m=_;congr 1;exact zao m fun j hj=>by show f j=f (skip (m+1) j); rw [show skip (m+1) j=j from if_pos oQ]
  ·rw [zfX h0 m oQ];have e1:skip i m=m+1:=if_neg oQ;rw [e1]
structure Gone (b o:StB) (i:Nat):Prop where
 lt:i<b.groups.length
 platform:o.platform=b.platform
 keeper:o.keeper=b.keeper
 stairs:o.stairs=b.stairs
 len:o.groups.length+1=b.groups.length
 grp:∀ j,grp o j=grp b (skip i j)
structure LiftS (i:Nat) (s z:List StA):Prop where
 zero:atI z i=a0
 other:∀ j,j<3->atI s j=atI z (skip i j)
section
variable {b o:StB} {i:Nat} {s z:List StA}
theorem Gone.sum (h:Gone b o i) (h4:b.groups.length<=4) (hl:LiftS i s z) {p:StA->Bool} (hp:p a0=false):sumS o s p=sumS b z p:=by
 have hlt:=h.lt;have hle:=h.len;unfold sumS;rw [<- hle,zfX (f:=manyI b z p) (i:=i) (by unfold manyI; rw [hl.zero,hp]; rfl) _ oQ];refine zao _ fun j hj=>?_;unfold manyI;rw [hl.other j oQ,h.grp]
theorem Gone.atE (h:Gone b o i) (h4:b.groups.length<=4) (hl:LiftS i s z) {t:Int} (ht:t≠0):atS o s t=atS b z t:=h.sum h4 hl (decide_eq_false fun e=>ht e.symm)
theorem Gone.onE (h:Gone b o i) (h4:b.groups.length<=4) (hl:LiftS i s z) {t k:Int} (ht:t≠0):onS o s t k=onS b z t k:=h.sum h4 hl (decide_eq_false fun e=>ht (StA.mk.inj e).1.symm)
theorem Gone.may (h:Gone b o i) (h4:b.groups.length<=4) (hl:LiftS i s z) {j k:Nat} (hj:j<o.groups.length):mayS o s j k=mayS b z (skip i j) k:=by
 have hle:=h.len;have e:atI s j=atI z (skip i j):=hl.other j oQ;have e2:∀ k,str o k=str b k:=fun k=>by unfold str; rw [h.stairs]
 unfold mayS stUp arriveS downS leaveS;rw [h.atE h4 hl dQ,h.atE h4 hl dQ,h.onE h4 hl dQ,h.onE h4 hl dQ,e,e2,h.grp,h.platform,h.keeper]
theorem ziQ (hz:z.length=4) (hs:s.length=4) (hl:LiftS i s z) {j k:Nat} (hj:j<3) (hi:i<4):LiftS i (behindS s j k) (behindS z (skip i j) k):=by
 have hk:skip i j<4:=by unfold skip; split <;> omega
 refine ⟨?_,fun t ht=>?_⟩
 ·unfold behindS;rw [zdc oQ,if_neg (by unfold skip; split <;> omega),hl.zero]
 ·unfold behindS;rw [zdc oQ,zdc oQ,hl.other j hj];have:t=j↔skip i t=skip i j:=by unfold skip; split <;> split <;> omega
  by_cases e:t=j
  ·rw [if_pos e,if_pos (this.1 e)]
  ·rw [if_neg e,if_neg (fun h=>e (this.2 h)),hl.other t ht]
theorem Gone.most (h:Gone b o i) (h4:b.groups.length<=4):∀ (n:Nat) (s z:List StA),s.length=4->z.length=4->LiftS i s z->stMost o n s<=stMost b n z
 | 0,s,z,_,_,hl=>by
  show atS o s 2<=atS b z 2;rw [h.atE h4 hl dQ]; exact Int.le_refl _
 | n+1,s,z,hs,hz,hl=>by
  have hlt:=h.lt;have hle:=h.len;obtain ⟨q1,q2,_⟩:=zbV (f:=fun x=>stMost b n (behindS z x.1 x.2)) (movesS b z) (atS b z 2);refine (zbV (f:=fun x=>stMost o n (behindS s x.1 x.2)) (movesS o s) (atS o s 2)).2.2 _ (by rw [h.atE h4 hl dQ]; exact q1) fun x hx=>?_;obtain ⟨h1,h2,h3⟩:=zeb.1 hx;have hk:skip i x.1<b.groups.length:=by unfold skip; split <;> omega
  have hm:=q2 (skip i x.1,x.2) (zeb.2 ⟨hk,by rw [<- h.stairs]; exact h2,by rw [<- h.may h4 hl h1]; exact h3⟩);exact Int.le_trans (h.most h4 n _ _ (by unfold behindS; rw [List.length_set]; exact hs) (by unfold behindS; rw [List.length_set]; exact hz) (ziQ hz hs hl oQ oQ)) hm
end
def mostA (b:StB) (s:List StA):Int:=stMost b (restS s) s
end Go.Vel
namespace Go.Vel
open Go Go.Conc Go.Proofs
def atC (a:StA):List AV:=[intA a.stage,intA a.stair]
def spC (s:List StA):List AV:=[intA (atI s 0).stage,intA (atI s 0).stair,intA (atI s 1).stage,intA (atI s 1).stair,intA (atI s 2).stage,intA (atI s 2).stair,intA (atI s 3).stage,intA (atI s 3).stair]
def fcC (f:Int×Int):List AV:=[intA f.1,intA f.2]
def mv (a:Int):Value:=.int .i64 a
def spV (s:List StA):Value:=.agg #[mv (atI s 0).stage,mv (atI s 0).stair,mv (atI s 1).stage,mv (atI s 1).stair,mv (atI s 2).stage,mv (atI s 2).stair,mv (atI s 3).stage,mv (atI s 3).stair]
def fcV (f:Int×Int):Value:=.agg #[mv f.1,mv f.2]
def eqA (a b:StA):Bool:=(a.stage==b.stage)&&(a.stair==b.stair)
def eqSp (s t:List StA):Bool:=eqA (atI s 0) (atI t 0)&&(eqA (atI s 1) (atI t 1)&&(eqA (atI s 2) (atI t 2)&&eqA (atI s 3) (atI t 3)))
theorem uI3:tp.underlying 3=some (.int .i64):=by kernel_rfl
theorem zim {α β:Type} {P:Program} (s:Sem α) (f:α->Sem β):zI P (s >>= f)=(zI P s).bind fun a=>zI P (f a):=by
 show zI P (s.bind f)=_
 induction s with
 | pure a=>rfl
 | program k ih=>exact ih P
 | _=>rfl
theorem zjf {α:Type} {P:Program} (a:α):zI P (pure a)=some a:=rfl
theorem zkc {P:Program} {d:Nat} {t:TypeId} {l:List (TypeId×Nat)} {xs ys:Array Value} {bs:List Bool} (hl:flatF P t=some l) (h:EqL P xs ys l bs):zI P (Op.equalIn (d+2) t (.agg xs) (.agg ys))=some (bs.all id):=by
 unfold flatF at hl;split at hl
 ·rename_i fs hu;split at hl
  ·rename_i hc;simp only [mX,List.all_eq_true,mV] at hc;obtain ⟨hall,hst⟩:=hc;show zI _ (Op.equalIn ((d+1)+1) t _ _)=_;unfold Op.equalIn;refine zE (z8 hu) ?_;dsimp only;refine zE (a:=P) Z ?_;rw [hst];simp only [Bool.false_eq_true,if_false];refine zE (a:=(if bs.all id=true then none else some false,())) ?_ (by cases bs.all id <;> rfl);rw [<- Array.forIn_toList];refine zgL _ fs.toList (fun f hf v w b hv hw h1 h2 he=>?_) (Option.some.inj hl) h
   have hn:f.name ≠ "_" := by have:=(hall f hf).1; simpa using this
   have hs:=(hall f hf).2;rw [if_pos hn];refine zE (wG hs hv) (zE (wG hs hw) (zE (zgM (d:=d) h1 h2 he) ?_));cases b <;> rfl
  ·cases hl
 ·cases hl
theorem zgJ {d:Nat} {e:Bool} {a:Int} {t:TypeId} (h:tp.underlying t=some (.int .i64)):zI tp (Instr.checkKey e (d+1) t (mv a))=some ():=by
 unfold Instr.checkKey;exact zE (z8 h) rfl
theorem ziU {P:Program} {F:Field->PUnit->Sem (ForInStep PUnit)}:∀ fl:List Field,(∀ f∈fl,zI P (F f PUnit.unit)=some (.yield PUnit.unit))->zI P (forIn fl PUnit.unit F)=some PUnit.unit
 | [],_=>rfl
 | f::fl,h=>by
  rw [List.forIn_cons];exact zE (h f sQ) (ziU fl fun f hf=>h f (by simp [hf]))
def EnOk (G:List StA->Int×Int->Prop) (en:MapEntry):Prop:=∃ s f,s.length=4/\en.key=spV s/\en.val=fcV f/\G s f
def MapF (ob:Obj) (G:List StA->Int×Int->Prop):Prop:=∃ es clock,ob=.map es clock/\∀ en∈es.toList,EnOk G en
def Found (G:List StA->Int×Int->Prop) (s:List StA) (es:List MapEntry) (i:Nat):Option (Nat×Value)->Prop
 | none=>True
 | some (k,v)=>i<=k/\(∃ en,es[k - i]? =some en/\en.key=spV s)/\∃ f,v=fcV f/\G s f
theorem zjT (f:Int×Int):toV (.agg (fcC f))=some (fcV f):=rfl
structure KeyS (P:Program):Prop where
 um:P.underlying 134=some (.map 133 127)
 ck:∀ e s,zI P (Instr.checkKey e 10000 133 (spV s))=some ()
 fd:∀ (G:List StA->Int×Int->Prop) (s:List StA) (es:List MapEntry),s.length=4->(∀ en∈es,EnOk G en)->∃ r,zI P (Instr.findKey 133 (spV s) es)=some r/\Found G s es 0 r
 zi:∃ ti,P.info? 127=some ti/\ti.zero=some (fcV (0,0))
section
variable {P:Program} {gm:Nat->Option Nat} {V:KV} {env:List AV} {o:Oper}
end
def stairC (x:StR):List AV:=[intA x.holds,intA x.way,zl x.gate]
def grpC (x:GrR):List AV:=[.v (.string x.name),intA x.many]
def stbC (b:StB) (s g:Nat):List AV:=[intA b.platform,zl b.keeper,.sl s 0 b.stairs.length,.sl g 0 b.groups.length]
abbrev stO (b:StB):AObj:=.cells (b.stairs.flatMap stairC) 203 false
abbrev grO (b:StB):AObj:=.cells (b.groups.flatMap grpC) 125 false
def badStM (x:StR):Bool := !(decide (1<=x.holds)&&decide (x.holds<=99))||(decide (x.way<0)||decide (x.way>2))
structure StOk (b:StB):Prop where
 plat:1<=b.platform/\b.platform<=99
 nst:1<=b.stairs.length/\b.stairs.length<=2
 sts:∀ x∈b.stairs,1<=x.holds/\x.holds<=99/\0<=x.way/\x.way<=2
 ngr:1<=b.groups.length/\b.groups.length<=4
 nam:∀ x∈b.groups,isNameM x.name=true
 two:b.groups.Pairwise fun x y=>x.name.toList≠y.name.toList
 man:∀ x∈b.groups,1<=x.many/\x.many<=20
theorem zgN {α:Type} (f:α->List AV) (c:Nat) (hc:∀ x,(f x).length=c):∀ (xs:List α) (i:Nat) (h:i<xs.length),((xs.flatMap f).drop (i*c)).take c=f xs[i]
 | x::xs,0,_=>by
  rw [Nat.zero_mul,List.drop_zero,List.flatMap_cons,List.take_left' (hc x)]; rfl
 | x::xs,i+1,h=>by
  rw [List.flatMap_cons,Nat.succ_mul,Nat.add_comm,<- List.drop_drop,List.drop_left' (hc x)];exact zgN f c hc xs i (by simpa using h)
theorem fl_at {α:Type} {f:α->List AV} {c:Nat} (hc:∀ x,(f x).length=c) {xs:List α} {x:α} {i:Nat} {n:Int} {e:TypeId} {rw':Bool} (h:xs[i]? =some x) (hn:n=(i:Int)) (h0:0<c):z6 (.cells (xs.flatMap f) e rw') (0+n.toNat*c) c=some (f x):=by
 subst hn;obtain ⟨h1,h2⟩:=lD.1 h;have hle:(i+1)*c<=xs.length*c:=Nat.mul_le_mul_right _ h1;have:(i+1)*c=i*c+c:=Nat.succ_mul ..;simp only [z6,AObj.look,mZ,mO];rw [if_pos ⟨by omega,by rw [yx f c hc]; omega⟩,zgN f c hc _ _ h1,h2]
def StsAt (ob:AObj) (off:Nat) (xs:List StR):Prop:=∀ (i:Nat) (h:i<xs.length),z6 ob (off+(i:Int).toNat*3) 3=some (stairC xs[i])
def GrsAt (ob:AObj) (off:Nat) (xs:List GrR):Prop:=∀ (i:Nat) (h:i<xs.length),z6 ob (off+(i:Int).toNat*2) 2=some (grpC xs[i])
theorem zdb {α:Type} {xs:List α} {p:α->Bool} {i:Nat} (h:i<xs.length) (hn:(xs.take i).any p=false) (he:p xs[i]=false):(xs.take (i+1)).any p=false:=by
 rw [List.take_add_one,lA h,List.any_append,hn];simp [he]
def stChecksG:AObj:=.cells [.fn 294 [] [],.fn 295 [] [],.fn 298 [] []] 319 false
instance:ArEl tp 320 3 319 true 1:={}
instance:BlOf tp 117 [(0,4)]:={}
instance:Cal tp 182:={}
instance:Cal tp 294:={}
instance:Cal tp 295:={}
instance:Cal tp 296:={}
instance:Cal tp 297:={}
instance:Cal tp 298:={}
instance:Cal tp 299:={}
instance:Cal tp 300:={}
instance:Cal tp 301:={}
instance:Cal tp 302:={}
instance:Cal tp 303:={}
instance:zn tp 117 0 0 true 4:={}
instance:zn tp 125 0 0 false 1:={}
instance:zn tp 125 1 1 false 1:={}
instance:zn tp 203 0 0 false 1:={}
instance:zn tp 203 1 1 false 1:={}
instance:zn tp 31 0 0 false 1:={}
instance:zn tp 31 2 2 false 1:={}
instance:zn tp 31 3 3 false 1:={}
instance:zn tp 319 0 0 false 1:={}
instance:zT tp 28 203 3:={}
instance:zT tp 29 125 2:={}
instance:zd tp 120 false 1:={}
instance:zd tp 125 true 2:={}
instance:zd tp 201 false 1:={}
instance:zd tp 203 true 3:={}
instance:zd tp 28 false 1:={}
instance:zd tp 29 false 1:={}
instance:zd tp 31 true 4:={}
instance:zd tp 319 true 1:={}
instance:zd tp 320 true 3:={}
instance:TyZ tp 117 [.int .i64 0,.bool false,.slice none 0 0,.slice none 0 0]:={}
instance:TyZA tp 125 [.v (.string ⟨#[]⟩),.v (.int .i64 0)]:={}
instance:TyZA tp 319 [.v (.nilFunc)]:={}
instance:Und tp 28 (.slice 203):={}
instance:Und tp 29 (.slice 125):={}
def onA (a:StA):Bool:=(a.stage==1)||(a.stage==3)
def allowsG:AObj:=.cells [.fn 313 [] [],.fn 314 [] [],.fn 315 [] [],.fn 316 [] []] 355 false
instance:ArEl tp 133 4 131 true 2:={}
instance:ArEl tp 356 4 355 false 1:={}
instance:BlOf tp 131 [(0,1),(1,1)]:={}
instance:Cal tp 132:={}
instance:Cal tp 135:={}
instance:Cal tp 183:={}
instance:Cal tp 184:={}
instance:Cal tp 187:={}
instance:Cal tp 313:={}
instance:Cal tp 314:={}
instance:Cal tp 315:={}
instance:Cal tp 316:={}
instance:Cal tp 317:={}
instance:Cal tp 318:={}
instance:EqG tp 131:={}
instance:FlatF tp 131 [(129,0),(3,1)]:={}
instance:zn tp 131 0 0 false 1:={}
instance:zn tp 131 1 1 false 1:={}
instance:zn tp 203 2 2 false 1:={}
instance:zn tp 256 0 0 false 1:={}
instance:zn tp 256 1 1 false 1:={}
instance:zn tp 31 1 1 false 1:={}
instance:zd tp 117 true 4:={}
instance:zd tp 129 false 1:={}
instance:zd tp 131 true 2:={}
instance:zd tp 133 true 8:={}
instance:zd tp 256 true 2:={}
instance:zd tp 355 false 1:={}
instance:TyZ tp 131 [.int .i64 0,.int .i64 0]:={}
instance:TyZA tp 131 [.v (.int .i64 0),.v (.int .i64 0)]:={}
instance:TyZA tp 133 [.v (.int .i64 0),.v (.int .i64 0),.v (.int .i64 0),.v (.int .i64 0),.v (.int .i64 0),.v (.int .i64 0),.v (.int .i64 0),.v (.int .i64 0)]:={}
instance:TyZA tp 203 [.v (.int .i64 0),.v (.int .i64 0),.v (.bool false)]:={}
instance:Und tp 129 (.int .i64):={}
def YieldG (P:Program) (T:Goroutine->Hp->Prop) (gm:Nat->Option Nat) {α:Type} (Fx:KV) (ar:α->AV) (l:Nat) (J:List α->KV->Prop) (D:KV->Prop) (tot:List α):Prop:=∀ (pre:List α) (x:α) (K1:KV),pre++[x] <+: tot->J pre K1 ->
 CallFK P T gm (.yl l) [ar x] (Fx++K1) fun r K'=>∃ K2,K'=Fx++K2/\((r=zl true/\J (pre++[x]) K2)\/(r=zl false/\D K2))
section
variable {P:Program} {main:Bool} {T:Goroutine->Hp->Prop} {gm:Nat->Option Nat} {Y:KX P gm T} {ds:List Nat} {k:List Item} {env:List AV} {K K0 R:KV} {ops:Array Oper} {i:Nat} {rest:List Nat} {o:Oper}
theorem TK.rangeG {α:Type} (hT:zk P main T) {fo:Operand} {ps:Array Tmp} {x y:Code} {g:FuncId} {fs cp:List AV} {Fx:KV} {ar:α->AV} {tot:List α} {J:List α->KV->Prop} {D:Code->KV->Prop} (hps:ps.size=1) (hro:Y.X.ro=none) (hf:zw gm env fo=some (.fn g fs cp)) (hg:yo P g=true) (hs:Split K (Fx++K0) R) (hJ0:J [] K0)
  (hit:∀ (l:Nat) (J':List α->KV->Prop) (D':KV->Prop) (K1:KV),YieldG P T gm Fx ar l J' D' tot->J' [] K1->zh P T gm g (fs++[.yl l]++cp) (Fx++K1) (fun _ K'=>∃ K2,K'=Fx++K2/\(J' tot K2\/D' K2)))
  (round:∀ (Y':KX P gm T) (l:Nat) (lo lb:AObj) (pre:List α) (S:α) (K1:KV),(∀ ds k env' K K',Upd K l lo l lb K'->TK Y' ds k env' K'->TK Y' ds (.beginRound::k) env' K) ->
   (∀ env' K' K2 D',Split K' ((l,lb)::(Fx++K2)) D'->J (pre++[S]) K2->TK Y' [] [] env' K') ->
   (∀ c k env' K' K2 D',Leave (some c) k->Split K' ((l,lb)::(Fx++K2)) D'->D c K2->TK Y' [] k env' K') ->
   pre++[S] <+: tot->J pre K1->TK Y' [] [.code x,.beginRound,.code y] (putAll env (ps.toList.zip [ar S])) ((l,lo)::(Fx++K1)))
  (hend:∀ d K2,J tot K2->TK Y (d::ds) k env ((d,.raw (.deferred (some [])))::(Fx++(K2++R))))
  (hstop:∀ d c K2,D c K2->TK Y (d::ds) (.code c::k) env ((d,.raw (.deferred (some [])))::(Fx++(K2++R)))):TK Y ds (.code (.rangeFunc fo ps x y)::k) env K:=by
 refine TK.rangeFunc (Post:=fun l _ K'=>∃ st pj K2,K'=(l,.loop Y.X.f env ps x y st pj)::(Fx++K2)/\((st=.ready/\pj=none/\J tot K2)\/∃ c,st=.done/\pj=some c/\D c K2))
  (Q:=fun pj K'=>∃ K2,K'=Fx++K2/\((pj=none/\J tot K2)\/∃ c,pj=some c/\D c K2)) hro hf hg hs (fun l hl=>?_) ?_ ?_
 ·intro A hv hn;have hp:((l,AObj.loop Y.X.f env ps x y .ready none)::(Fx++K0)).Perm (Fx++(l,.loop Y.X.f env ps x y .ready none)::K0):=List.perm_middle.symm;refine CallT.mono (hit l (fun pre K=>∃ K3,K=(l,.loop Y.X.f env ps x y .ready none)::K3/\J pre K3) (fun K=>∃ c K3,K=(l,.loop Y.X.f env ps x y .done (some c))::K3/\D c K3) _ ?_ ⟨K0,rfl,hJ0⟩ A (hv.sub fun x hx=>hp.symm.subset hx) ((zO hp).nodup_iff.1 hn)) ?_
  ·rintro pre S K1 hpre ⟨K3,rfl,hJ⟩;refine CallFK.perm (Post:=fun r K'=>(r=zl true/\∃ K2,K'=(l,.loop Y.X.f env ps x y .ready none)::(Fx++K2)/\J (pre++[S]) K2)\/(r=zl false/\∃ c K2,K'=(l,.loop Y.X.f env ps x y .done (some c))::(Fx++K2)/\D c K2)) ?_ ?_
   ·refine zdM hT (i:=l) (f:=Y.X.f) (env:=env) (ps:=ps) (x:=x) (y:=y) sQ hps.symm fun Y' hro' hl' hret=>?_;refine TK.perm List.perm_middle ?_;refine round Y' l (.loop Y.X.f env ps x y .ready none) (.loop Y.X.f env ps x y .busy none) pre S K3 (fun ds k env' K K' hu h=>TK.beginRound hro' hl' hu h) (fun env' K' K2 D' hsp hJ'=>?_) (fun c k env' K' K2 D' hlv hsp hD=>?_) hpre hJ
    ·exact TK.leave .fin fun A hA=>hret none env' K' (Fx++K2) D' .busy none hsp (.inl ⟨rfl,K2,rfl,hJ'⟩) A hA
    ·exact TK.leave hlv fun A hA=>hret (some c) env' K' (Fx++K2) D' .busy none hsp (.inr ⟨rfl,c,K2,rfl,hD⟩) A hA
   ·rintro r K' (⟨rfl,K2,rfl,h⟩ | ⟨rfl,c,K2,rfl,h⟩)
    ·exact ⟨_,List.perm_middle.symm,_,rfl,.inl ⟨rfl,K2,rfl,h⟩⟩
    ·exact ⟨_,List.perm_middle.symm,_,rfl,.inr ⟨rfl,c,K2,rfl,h⟩⟩
  ·rintro r A' ⟨K',hk,K2,rfl,h⟩;have hk2:∀ K'',(Fx++K2).Perm K''->Kstep ((l,AObj.loop Y.X.f env ps x y .ready none)::(Fx++K0)) A K'' A':=fun K'' hp2 =>
    Kstep.perm ⟨hk.view,hk.nd,fun i hi=>(hk.own i hi).imp_left fun h=>(zO hp).symm.subset h,fun j h1 h2=>hk.kept j h1 fun h=>h2 ((zO hp).symm.subset h),hk.len⟩ hp2
   rcases h with ⟨K3,rfl,h⟩ | ⟨c,K3,rfl,h⟩
   ·exact ⟨_,hk2 _ List.perm_middle,.ready,none,K3,rfl,.inl ⟨rfl,rfl,h⟩⟩
   ·exact ⟨_,hk2 _ List.perm_middle,.done,some c,K3,rfl,.inr ⟨c,rfl,rfl,h⟩⟩
 ·rintro l r K' ⟨st,pj,K2,rfl,h⟩;refine ⟨st,pj,_,rfl,?_,K2,rfl,?_⟩
  ·rcases h with ⟨rfl,_⟩ | ⟨c,rfl,_⟩ <;> rfl
  ·rcases h with ⟨_,rfl,h⟩ | ⟨c,_,rfl,h⟩
   ·exact .inl ⟨rfl,h⟩
   ·exact .inr ⟨c,rfl,h⟩
 ·rintro d pj K' ⟨K2,rfl,⟨rfl,h⟩ | ⟨c,rfl,h⟩⟩
  ·rw [List.append_assoc]; exact hend d K2 h
  ·rw [List.append_assoc]; exact hstop d c K2 h
end
def movesK (b:StB) (s:List StA) (i k:Nat):List (Nat×Nat):=((List.range k).filter fun k=>mayS b s i k).map fun k=>(i,k)
def movesP (b:StB) (s:List StA) (i:Nat):List (Nat×Nat):=(List.range i).flatMap (movesI b s)
abbrev mvA (x:Nat×Nat):AV:=.agg [intA x.1,intA x.2]
instance:BlOf tp 256 [(0,1),(1,1)]:={}
instance:Cal tp 186:={}
instance:TyZ tp 256 [.int .i64 0,.int .i64 0]:={}
instance:TyZA tp 256 [.v (.int .i64 0),.v (.int .i64 0)]:={}
def fogG:AObj:=.cells [intA (-1),intA 0] 127 false
def GoodF (b:StB) (s:List StA) (f:Int×Int):Prop:=f=(-1,0)\/f.2=mostA b s
def foldM (b:StB) (sp:List StA) (l:List (Nat×Nat)):Int:=l.foldl (fun m x=>max m (mostA b (behindS sp x.1 x.2))) (atS b sp 2)
section
variable {P:Program} {gm:Nat->Option Nat} {V:KV} {env:List AV} {o:Oper}
end
instance:BlOf tp 127 [(0,1),(1,1)]:={}
instance:Cal tp 136:={}
instance:Cal tp 137:={}
instance:Cal tp 185:={}
instance:Cal tp 56:={}
instance:EqG tp 127:={}
instance:FlatF tp 127 [(3,0),(3,1)]:={}
instance:zn tp 127 0 0 false 1:={}
instance:zn tp 127 1 1 false 1:={}
instance:zd tp 127 true 2:={}
instance:zd tp 134 false 1:={}
instance:TyZ tp 127 [.int .i64 0,.int .i64 0]:={}
instance:TyZA tp 127 [.v (.int .i64 0),.v (.int .i64 0)]:={}
theorem zaF {α:Type} (f:α->List AV) (hf:∀ x,(f x).all oneA=true) (xs:List α):(xs.flatMap f).all oneA=true:=by
 induction xs with
 | nil=>rfl
 | cons x xs ih=>rw [List.flatMap_cons,List.all_append,hf,ih]; rfl
instance:ApOf tp 28 203 3 24:={}
instance:ApOf tp 29 125 2 24:={}
instance:BlOf tp 133 [(0,2),(2,2),(4,2),(6,2)]:={}
instance:Cal tp 131:={}
instance:Cal tp 133:={}
instance:Cal tp 134:={}
instance:Cal tp 52:={}
instance:Cal tp 53:={}
instance:zT tp 247 120 1:={}
instance:TyZ tp 125 [.string ⟨#[]⟩,.int .i64 0]:={}
instance:TyZ tp 133 [.int .i64 0,.int .i64 0,.int .i64 0,.int .i64 0,.int .i64 0,.int .i64 0,.int .i64 0,.int .i64 0]:={}
instance:TyZ tp 203 [.int .i64 0,.int .i64 0,.bool false]:={}
instance:TyZA tp 117 [.v (.int .i64 0),.v (.bool false),.v (.slice none 0 0),.v (.slice none 0 0)]:={}
instance:TyZA tp 31 [.v (.int .i64 0),.v (.bool false),.v (.slice none 0 0),.v (.slice none 0 0)]:={}
instance:Und tp 247 (.slice 120):={}
end Go.Vel
namespace Go.Vel
open Go Go.Conc
section
variable {P:Program} {gm:Nat->Option Nat} {V:KV} {env:List AV} {o:Oper} {A:List AObj}
end
end Go.Vel
namespace Go.Vel
open Go Go.Conc Go.Proofs
end Go.Vel
namespace Go.Vel
open Go Go.Conc
section
variable {P:Program} {gm:Nat->Option Nat} {T:Goroutine->Hp->Prop} {Y:KX P gm T} {ds:List Nat} {k:List Item} {env:List AV} {K K':KV}
theorem TK.virtAt {l:List AV} {i:Nat} {t e:TypeId} {rw':Bool} {x:Option Addr} {size j:Nat} {K':Nat->KV} (hi:l[i]? =some (.v (.slice x 0 0))) (hu:∀ j',Upd K j (.cells l t rw') j (.cells (l.set i (.row j' 0)) t rw') (K' j')) (h:∀ j',j'∉keys K->TK Y ds k env ((j',.row [] e size)::K' j')):TK Y ds k env K:=fun A hA φ H ts h1 h2 h3 h4 h5 h6=>by
 have hk:A.length∉keys K:=fun hm=>absurd (hA.view.lt hm) (Nat.lt_irrefl _);have hH:=h5.virt e size;have hag:=yr φ A.length ⟨0,0,0⟩;have hlen:(A++[AObj.row [] e size]).length=A.length+1:=by simp
 have hds:dsC (upd3 φ A.length ⟨0,0,0⟩) ds=dsC φ ds:=by
  unfold dsC;exact mA fun d hd'=>by rw [hag d (h4 d hd')]
 have hj:=hA.view.get (hu A.length).mem;have hjl:j<A.length:=(lD.1 hj).1;have hj2:(A++[AObj.row [] e size])[j]? =some (.cells l t rw'):=by rw [List.getElem?_append_left hjl]; exact hj
 have hstep:=hA.step (.push hA.view hA.nd (.row [] e size));have hstep2:=hstep.step (.set hstep.view hstep.nd (Upd.tail (hu A.length)));have hil:i<l.length:=(lD.1 hi).1;have hne:l≠[]:=fun e=>by rw [e] at hil; exact absurd hil (Nat.not_lt_zero _)
 rw [<- hds];refine h _ hk _ hstep2 _ H ts (h1.trans hag h2) (by simp; omega) (by simpa using h3.mono hag oQ) (fun d hd=>by have:=h4 d hd; simp; omega) (hH.turn hj2 (fun ho hl=>?_) (fun h=>h) (fun _=>rfl) (fun hs=>by simpa [sol] using hne)) (by simpa using h6.mono hag oQ);obtain ⟨rw2,cur,fz,q1,q2,q3⟩:=ho hne;refine ⟨rw2,cur,fz,q1,q2,fun t' a ha=>?_⟩;by_cases e:t'=i
 ·subst e;rw [List.getElem?_set_self hil] at ha;cases ha;obtain ⟨y,hy,hr⟩:=q3 t' _ hi;refine ⟨y,hy,?_⟩;rw [inv_v hr];refine .row oQ sQ ?_;unfold rowV;simp [upd3]
 ·rw [lP (fun h=>e h.symm)] at ha;exact q3 t' a ha
theorem TK.unrowAt {c i j n:Nat} {l l1:List AV} {t e1:TypeId} {s1:Nat} {rw':Bool} (hi:l[i]? =some (.row j n)) (hm:(j,.row l1 e1 s1)∈K) (hu:Upd K c (.cells l t rw') c (.cells (l.set i (.sl j 0 n)) t rw') K') (h:TK Y ds k env K'):TK Y ds k env K:=fun A hA φ H ts h1 h2 h3 h4 h5 h6=>by
 have hj:=hA.view.get hu.mem;have hb:(φ j).base=0:=(h5.obj j _ (hA.view.get hm)).2.1;have hil:i<l.length:=(lD.1 hi).1;have hne:l≠[]:=fun e=>by rw [e] at hil; exact absurd hil (Nat.not_lt_zero _)
 refine h _ (hA.step (.set hA.view hA.nd hu)) φ H ts h1 (by simpa using h2) (by simpa using h3) (by simpa using h4) (h5.turn hj (fun ho hl=>?_) (fun h=>h) (fun _=>rfl) (fun hs=>by simpa [sol] using hne)) (by simpa using h6);obtain ⟨rw2,cur,fz,q1,q2,q3⟩:=ho hne;refine ⟨rw2,cur,fz,q1,q2,fun t' a ha=>?_⟩;by_cases e:t'=i
 ·subst e;rw [List.getElem?_set_self hil] at ha;cases ha;obtain ⟨y,hy,hr⟩:=q3 t' _ hi;exact ⟨y,hy,by have:=wN (j:=j) hb hr; simpa [unrow] using this⟩
 ·rw [lP (fun h=>e h.symm)] at ha;exact q3 t' a ha
theorem zgr {φ:Nat->Loc3} {A:List AObj} {F H:Hp} (h:RelH φ A F H) {j:Nat} {l:List AV} {e:TypeId} {sz:Nat} (hj:A[j]? =some (.row l e sz)):RelH φ (A.set j (.cells l e false)) F H:=by
 have hg:∀ t w,(A.set j (.cells l e false))[t]? =some w->(t=j/\w=.cells l e false)\/(t≠j/\A[t]? =some w):=fun t w ht=>by
  rw [lX] at ht;split at ht
  ·rename_i e';split at ht
   ·cases ht; exact .inl ⟨e'.symm,rfl⟩
   ·cases ht
  ·rename_i e';exact .inr ⟨fun h=>e' h.symm,ht⟩
 have hcap:l≠[]->0<(φ j).cap:=fun hl=>by
  rcases mP (φ j).cap with e | e
  ·exact absurd ((h.obj j _ hj).1 e) hl
  ·exact e
 refine ⟨fun t w ht=>?_,fun t t' w w' ht ht' hn he hl s1 s2=>?_,h.fr,fun t w ht he hs=>?_⟩
 ·rw [List.length_set];rcases hg t w ht with ⟨rfl,rfl⟩ | ⟨_,h2⟩
  ·intro hl;obtain ⟨_,hb,hc⟩:=h.obj t _ hj;obtain ⟨cur,h1,_,_,_,h3⟩:=hc (hcap hl);exact ⟨true,cur,(e,0,0),h1,(fun h=>by cases h),fun i a ha=>by rw [hb,mO]; exact h3 i a ha⟩
  ·exact h.obj t w h2
 ·rcases hg t w ht with ⟨rfl,rfl⟩ | ⟨_,h2⟩
  ·cases he
  ·rcases hg t' w' ht' with ⟨rfl,rfl⟩ | ⟨_,h2'⟩
   ·exact h.apart t t' w _ h2 hj hn he rfl s1 (hcap s2)
   ·exact h.apart t t' w w' h2 h2' hn he hl s1 s2
 ·rcases hg t w ht with ⟨rfl,rfl⟩ | ⟨_,h2⟩
  ·cases he
  ·exact h.frx t w h2 he hs
theorem TK.frzRow {j:Nat} {l:List AV} {e:TypeId} {sz:Nat} (h:TK Y ds k env K') (hu:Upd K j (.row l e sz) j (.cells l e false) K':=by repeat (first | exact Upd.head | apply Upd.tail)):TK Y ds k env K:=fun A hA φ H ts h1 h2 h3 h4 h5 h6=>by
 have hj:=hA.view.get hu.mem;have hl:(A.set j (.cells l e false)).length=A.length:=by simp
 exact h _ (hA.step (.set hA.view hA.nd hu)) φ H ts h1 (by rw [hl]; exact h2) (by rw [hl]; exact h3) (by rw [hl]; exact h4) (zgr h5 hj) (by rw [hl]; exact h6)
end
end Go.Vel
namespace Go.Vel
open Go Go.Conc Go.Proofs
def goneB (b:StB) (i:Nat):StB:={ b with groups:=b.groups.eraseIdx i }
instance:BlOf tp 31 [(0,1),(1,1),(2,1),(3,1)]:={}
instance:Cal tp 30:={}
instance:Cal tp 31:={}
instance:Cal tp 54:={}
instance:Cal tp 55:={}
instance:TyZ tp 120 [.nilFunc]:={}
instance:TyZ tp 31 [.int .i64 0,.bool false,.slice none 0 0,.slice none 0 0]:={}
structure Tot {α:Type} (lt:α->α->Bool):Prop where
 irr:∀ a,lt a a=false
 tri:∀ a b,lt a b=false->lt b a=false->a=b
 tr:∀ a b c,lt a b=true->lt b c=true->lt a c=true
theorem Tot.least {α:Type} {lt:α->α->Bool} (h:Tot lt):∀ (xs:List α) (o:α),∀ y∈o::xs,lt y (zQ lt o xs)=false
 | [],o,y,hy=>by
  rw [List.mem_singleton.1 hy];exact h.irr o
 | x::xs,o,y,hy=>by
  show lt y (zQ lt (if lt x o=true then x else o) xs)=false;have ih:=h.least xs (if lt x o=true then x else o);have key:∀ z,z=x\/z=o->lt z (zQ lt (if lt x o=true then x else o) xs)=false:=fun z hz=>by
   by_cases hc:lt x o=true
   ·rw [if_pos hc] at ih ⊢;have h1:=ih x List.mem_cons_self;rcases hz with rfl | rfl
    ·exact h1
    ·rw [Bool.eq_false_iff] at h1 ⊢;exact fun h2=>h1 (h.tr _ _ _ hc h2)
   ·rw [if_neg hc] at ih ⊢;have h1:=ih o List.mem_cons_self;rcases hz with rfl | rfl
    ·rw [Bool.eq_false_iff] at h1 ⊢;intro h2;have hc':lt z o=false:=by simpa using hc
     by_cases h3:lt o z=true
     ·exact h1 (h.tr _ _ _ h3 h2)
     ·have:=h.tri _ _ hc' (by simpa using h3);subst this;exact h1 h2
    ·exact h1
  rcases lI.1 hy with rfl | hy
  ·exact key _ (.inr rfl)
  ·rcases lI.1 hy with rfl | hy
   ·exact key _ (.inl rfl)
   ·exact ih y (List.mem_cons_of_mem _ hy)
theorem Tot.uniq {α:Type} {lt:α->α->Bool} (h:Tot lt) {o m:α} {xs:List α} (hm:m∈o::xs) (hl:∀ y∈o::xs,lt y m=false):zQ lt o xs=m :=
 h.tri _ _ (hl _ kl) (h.least xs o m hm)
theorem Tot.same {α:Type} {lt:α->α->Bool} (h:Tot lt) {o o':α} {xs xs':List α} (he:∀ y,y∈o::xs↔y∈o'::xs'):zQ lt o xs=zQ lt o' xs' :=
 h.uniq ((he _).2 kl) fun y hy=>h.least _ _ y ((he y).1 hy)
def minL {α:Type} (lt:α->α->Bool) (d:α) (xs:List α):α:=zQ lt (xs.headD d) (xs.drop 1)
def goodS (b:Bk) (S:List Int):Bool:=seenM b S && !badM b S b.seekers.length
def guessS (b:Bk) (pre:List (List Int)):List (List Int×Int):=(pre.filter (goodS b)).map fun S=>(S,wrongM b S)
def allS (b:Bk) (S l:List Int):Bool:=l.all fun k=>rightM b S k.toNat
def togS (b:Bk) (l:List Int):Bool:=(setsB b).any fun S=>seenM b S&&allS b S l
def uptoM (n:Nat):List Int:=(List.range n).map fun k:Nat=>(k:Int)
def oddS (b:Bk) (pre:List (List Int)):List (List Int):=pre.filter fun l => !togS b l
end Go.Vel
namespace Go.Vel
open Go Go.Conc Go.Proofs
structure Wider (b o:Bk):Prop where
 steps:o.steps=b.steps
 seekers:o.seekers=b.seekers
 seen:o.seen=b.seen
 wrong:b.wrong<=o.wrong/\o.wrong<=3
 low:0<=o.low/\o.low<=b.low
 high:b.high<=o.high/\o.high<=3
namespace Wider
variable {b o:Bk}
theorem rightM (h:Wider b o) (S:List Int) (k:Nat):Vel.rightM o S k=Vel.rightM b S k:=by
 unfold Vel.rightM wideM inM;rw [h.seekers,h.steps]
theorem glassM (h:Wider b o) (k:Nat):Vel.glassM o k=Vel.glassM b k:=by unfold Vel.glassM; rw [h.seekers]
theorem badM (h:Wider b o) (S:List Int) (n:Nat):Vel.badM o S n=Vel.badM b S n:=by
 unfold Vel.badM;congr 1;funext k;rw [h.rightM,h.glassM]
theorem wrongL (h:Wider b o) (S:List Int) (n:Nat):Vel.wrongL o S n=Vel.wrongL b S n:=by
 unfold Vel.wrongL;congr 2;funext k;rw [h.rightM]
theorem wrongM (h:Wider b o) (S:List Int):Vel.wrongM o S=Vel.wrongM b S:=by
 unfold Vel.wrongM;rw [h.seekers,h.badM,h.wrongL]
theorem seenM (h:Wider b o) {S:List Int} (hs:Vel.seenM b S=true):Vel.seenM o S=true:=by
 unfold Vel.seenM at hs ⊢;rw [h.seen];simp only [mX,decide_eq_true_eq] at hs ⊢;obtain ⟨⟨h1,h2⟩,h3⟩:=hs;have:=h.low;have:=h.high;exact ⟨⟨by omega,oQ⟩,h3⟩
theorem canM (h:Wider b o) {S:List Int} (hs:Vel.canM b S=true):Vel.canM o S=true:=by
 unfold Vel.canM at hs ⊢;rw [h.seekers,h.badM,h.wrongL];simp only [mX,decide_eq_true_eq] at hs ⊢;have:=h.wrong;exact ⟨⟨hs.1.1,oQ⟩,h.seenM hs.2⟩
theorem checkM (h:Wider b o) (hc:Vel.checkM b=0):Vel.checkM o=0:=by
 obtain ⟨h1,h2,h3⟩:=(zaA b).1 hc;have hr:=kv (b:=b) (by rw [h1]; rfl);have hst:∀ n,zF o n=zF b n:=fun n=>by unfold zF; rw [h.steps]
 refine (zaA o).2 ⟨?_,?_,?_⟩
 ·have:=h.wrong;have:=h.low;have:=h.high;unfold numbersM;rw [h.steps];simp only [cond_eq_if,Bool.or_eq_true,mV,Bool.and_eq_false_iff,decide_eq_false_iff_not,decide_eq_true_eq];rw [if_neg oQ]
 ·have h4:∀ n,heardL o n=heardL b n:=fun n=>by
   induction n with
   | zero=>rfl
   | succ n ih =>
    unfold heardL;rw [ih];unfold heard1;simp only [h.seekers,hst]
  unfold heardM at h2 ⊢;rw [h.seekers,h4]; exact h2
 ·unfold lookedM at h3 ⊢;simp only [h.seen,hst];exact h3
theorem sets (h:Wider b o) (hb:BkOk b) (ho:BkOk o) (hh:0<=b.high) {S:List Int} (hS:S∈setsB b):S∈setsB o:=by
 obtain ⟨h1,h2,h3⟩:=(ut hb hh S).1 hS;have:=h.high;exact (ut ho oQ S).2 ⟨h1,by rw [h.steps]; exact h2,oQ⟩
theorem states (h:Wider b o) (hc:Vel.checkM b=0) {S:List Int} (hS:S∈zb b):S∈zb o:=by
 have hb:=yy hc;have ho:=yy (h.checkM hc);rw [vK hb] at hS;rw [vK ho];exact ⟨h.sets hb ho (zdl hc) hS.1,h.canM hS.2⟩
theorem many (h:Wider b o) (hc:Vel.checkM b=0):((zb b).length:Int)<=(zb o).length:=Int.ofNat_le.2 (zac (za0 b) fun _ hS=>h.states hc hS)
end Wider
end Go.Vel
namespace Go.Vel
open Go Go.Conc Go.Proofs
theorem zmJ {main T} (hT:zk tp main T) {gm} {b:Bk} {s e:Nat} (hse:s≠e) :
  zh tp T gm 7 [.agg (zx b s e)] [(s,zo b),(e,zp b)] (fun r K'=>r=zl (fitM b)/\K'=[(s,zo b),(e,zp b)]):=by
 refine ze 11 hT Tryz.func7 fun Y hret=>?_;refine au 21042 ?_;intro jb hjb;refine au 6804235 ?_;refine bD Z Z Z Z (zks hT (s:=s) (e:=e)) ?_;rintro r1 K2 ⟨rfl,rfl⟩;refine au 1300 ?_;refine bF 6 (fun g1_4=>?_) (fun g1_4=>?_)
 ·obtain ⟨hs1,hs2,hs3⟩:=zbw (b:=b) (by simpa using g1_4);refine au 680 ?_;refine bD Z Z Z Z (zaz hT hse (fun x hx=>mT (hs3 x hx) oQ) oQ oQ) ?_;rintro r4 K5 ⟨rfl,rfl⟩;refine au 352607 ?_;refine bB hret [(s,_),(e,_)] ?_;exact ⟨by unfold fitM; rw [g1_4,Bool.true_and]; rfl,rfl⟩
 refine au 35250888 ?_;refine bB hret [(s,_),(e,_)] ?_;exact ⟨by unfold fitM; rw [g1_4,Bool.false_and]; rfl,rfl⟩
theorem pendS {ops:Array Oper} {i:Nat} {pend pend':List Pd} {es:List Nat} (h:edgesOf .any ops i=es) (h2:(pend.filter fun p => !(es.elem p.i))=pend'):pendOf ops i pend=pend':=by unfold pendOf; rw [h]; exact h2
section
variable {P:Program} {gm:Nat->Option Nat} {T:Goroutine->Hp->Prop}
theorem vr {g:FuncId} {a1:AV} {j j2 n:Nat} {ob:AObj} {l:List AV} {e:TypeId} {s:Nat} {Post:AV->KV->Prop} (h:zh P T gm g [a1,.sl j2 0 n] [(j,ob),(j2,.cells l e false)] Post):zh P T gm g [a1,.row j2 n] [(j,ob),(j2,.row l e s)] Post:=by
 intro A hv hn φ F H vs c cs h1 h2 h3 q;have hj:A[j2]? =some (.row l e s):=hv.get sQ;have hb:(φ j2).base=0:=(h2.obj j2 _ hj).2.1;have hst:Kstep [(j,ob),(j2,AObj.row l e s)] A [(j,ob),(j2,.cells l e false)] (A.set j2 (.cells l e false)):=.set hv hn (.tail .head);refine h (A.set j2 (.cells l e false)) hst.view hst.nd φ F H vs c cs (by simpa using h1) (h2.turn hj (fun ho hl=>?_) (fun h=>by cases h) (fun _=>rfl) (fun hs=>?_)) ⟨by simpa using h3.1,fun t a y ha hy=>?_⟩ fun r A' φ' H' v ⟨K',hk,hp⟩ hA hlen hH' hv'=>q r A' φ' H' v ⟨K',hst.trans hk,hp⟩ (by simpa using hA) (by simpa using hlen) hH' hv'
 ·have hc:0<(φ j2).cap:=by
   rcases mP (φ j2).cap with e | e
   ·exact absurd (ho.1 e) hl
   ·exact e
  obtain ⟨cur,q1,q2,q3,q4,q5⟩:=ho.2.2 hc;exact ⟨true,cur,(_,0,0),q1,(fun h=>by cases h),fun t u hu=>by rw [hb,mO]; exact q5 t u hu⟩
 ·show 0<(φ j2).cap;rcases mP (φ j2).cap with e | e
  ·exact absurd ((h2.obj j2 _ hj).1 e) hs
  ·exact e
 ·match t,ha with
  | 0,ha =>
   cases ha;simpa using h3.2 0 a1 y rfl hy
  | 1,ha =>
   cases ha;have:=wN (j:=j2) hb (h3.2 1 _ y rfl hy);simpa [unrow] using this
  | t+2,ha=>simp at ha
end
theorem uL {main T} (hT:zk tp main T) {gm} {j off j2 off2:Nat} {ob ob2:AObj} (xs:List Int) (hjj:j≠j2) (hI:IntsAt ob off xs) (hI2:IntsAt ob2 off2 xs) (hlx:xs.length<=100000) :
  zh tp T gm 38 [.sl j off xs.length,.sl j2 off2 xs.length] [(j,ob),(j2,ob2)] (fun r K'=>r=zl true/\K'=[(j,ob),(j2,ob2)]) :=
 (zkH hT hjj hI hI2 hlx).mono fun r K' ⟨h1,h2⟩=>⟨by rw [h1,decide_eq_true rfl],h2⟩
theorem uh {b:Bk} (h:(b.seekers.all fun x=>decide (x.name.size<=1000))=true):∀ x∈b.seekers,x.name.size<=1000:=fun x hx=>of_decide_eq_true (List.all_eq_true.1 h x hx)
theorem ex_n1:∀ x∈exB.seekers,x.name.size<=1000:=uh (by kernel_rfl)
theorem ex_n2:∀ x∈exB2.seekers,x.name.size<=1000:=uh (by kernel_rfl)
theorem ex_n3:∀ x∈(giveB exB 0).seekers,x.name.size<=1000:=uh (by kernel_rfl)
theorem ex_n4:∀ x∈(lookB exB ⟨3,true⟩).seekers,x.name.size<=1000:=uh (by kernel_rfl)
theorem ex_n5:∀ x∈(hearB exB exX).seekers,x.name.size<=1000:=uh (by kernel_rfl)
theorem ex_l1:exB.seen.length<=1000:=by decide
theorem ex_l2:exB2.seen.length<=1000:=by decide
theorem ex_l3:(giveB exB 0).seen.length<=1000:=by decide
theorem ex_l4:(lookB exB ⟨3,true⟩).seen.length<=1000:=by decide
theorem ex_l5:(hearB exB exX).seen.length<=1000:=by decide
theorem vB (tame:Tame tp) {Ψ:Goroutine->World->Prop}:zh tp (BT tp Ψ) gmS 9 [] [(0,zr),(1,zz)] (fun r K'=>r=zl true/\K'=[(0,zr),(1,zz)]):=by
 have hT:=wM tame Ψ;refine ze 427 hT Tryz.func9 fun Y hret=>?_;refine au 423542 ?_;refine bD Z Z Z Z (zhp hT) ?_;rintro r1 K2 ⟨s,e,hse,rfl,rfl⟩;refine au 220 ?_;intro j1 hj1;refine au 23170 ?_;refine bC [(j1,_),(0,_),(1,_),(s,_),(e,_)] ?_;refine au 6804 ?_;refine bI Z Z Z (zD (l:=[_]) Z zT.h TyZ.h dQ dQ Z) (fun _=>zt rfl tQ) fun ja2 hja2=>?_;refine TK.freezeR 40 Z uQ Z ?_;refine au 0 ?_;refine bD Z Z Z Z (zbz hT (b:=exB) (s:=s) (e:=e) (k:=0) (xs:=[3]) ex_n1 ex_l1 (ym [3] 3 false) dQ) ?_;rintro r4 K5 ⟨rfl,rfl⟩;refine au 0 ?_;rw [ex_r0];refine au 2355661 ?_;refine bC [(j1,_),(0,_),(1,_),(s,_),(e,_)] ?_;refine au 6804 ?_;refine bI Z Z Z (zD (l:=[_]) Z zT.h TyZ.h dQ dQ Z) (fun _=>zt rfl tQ) fun ja3 hja3=>?_;refine TK.freezeR 46 Z uQ Z ?_;refine au 0 ?_;refine bD Z Z Z Z (zbz hT (b:=exB) (s:=s) (e:=e) (k:=1) (xs:=[3]) ex_n1 ex_l1 (ym [3] 3 false) dQ) ?_;rintro r7 K8 ⟨rfl,rfl⟩;refine au 0 ?_;rw [ex_r1];refine au 2355661 ?_;refine bC [(j1,_),(0,_),(1,_),(s,_),(e,_)] ?_;refine au 6804 ?_;refine bI Z Z Z (zD (l:=[_]) Z zT.h TyZ.h dQ dQ Z) (fun _=>zt rfl tQ) fun ja4 hja4=>?_;refine TK.freezeR 52 Z uQ Z ?_;refine au 0 ?_;refine bD Z Z Z Z (zbG hT (b:=exB) (s:=s) (e:=e) hse (xs:=[3]) ex_n1 ex_l1 (ym [3] 3 false) dQ) ?_;rintro r10 K11 ⟨rfl,rfl⟩;refine au 0 ?_;rw [ex_s3];refine au 2355661 ?_;refine bC [(j1,_),(0,_),(1,_),(s,_),(e,_)] ?_;refine au 6804 ?_;refine bI Z Z Z (zD (l:=[_]) Z zT.h TyZ.h dQ dQ Z) (fun _=>zt rfl tQ) fun ja5 hja5=>?_;refine TK.freezeR 58 Z uQ Z ?_;refine au 0 ?_;refine bD Z Z Z Z (zbG hT (b:=exB) (s:=s) (e:=e) hse (xs:=[4]) ex_n1 ex_l1 (ym [4] 3 false) dQ) ?_;rintro r13 K14 ⟨rfl,rfl⟩;refine au 0 ?_;rw [ex_s4];refine au 2355661 ?_;refine bC [(j1,_),(0,_),(1,_),(s,_),(e,_)] ?_;refine au 6804 ?_;refine bD Z Z Z Z (kc hT (b:=exB) (s:=s) (e:=e) hse ex_n1 ex_l1) ?_;rintro r16 K17 ⟨rfl,rfl⟩;refine au 0 ?_;rw [ex_st];refine au 68042355661 ?_;refine bD Z Z Z Z (zaC tame (b:=exB) (s:=s) (e:=e) hse ex_n1 ex_l1) ?_;rintro r19 K20 h21;rcases h21 with ⟨hb0,rfl,rfl⟩ | ⟨hb0,jc,rfl,rfl⟩
 ·refine au 0 ?_;exact absurd ziy hb0
 ·refine au 0 ?_;rw [ziz];refine au 61 ?_;refine TK.freezeR 70 Z uQ Z ?_;refine au 680423556 ?_;refine bD Z Z Z Z (uP hT (b:=exB) (s:=s) (e:=e) (n:=1) hse ex_n1 ex_l1) ?_;rintro r22 K23 ⟨rfl,rfl⟩;refine au 0 ?_;rw [zmC];refine au 68042355661 ?_;refine bD Z Z Z Z (uP hT (b:=exB) (s:=s) (e:=e) (n:=0) hse ex_n1 ex_l1) ?_;rintro r25 K26 ⟨rfl,rfl⟩;refine au 0 ?_;rw [zmB];refine au 112507112501125030011250112503001125071125071125071125071125071125071125071171422355661 ?_;refine bI Z Z Z (zD (l:=[_]) Z zT.h TyZ.h dQ dQ Z) (fun _=>zt rfl tQ) fun jd hjd=>?_;refine bD Z Z Z Z (vr (uL hT [1] (j:=jc) (j2:=jd) (fun h=>hjd (by subst h; simp [keys])) (ym [1] 3 false) (ym [1] 3 false) dQ)) ?_;rintro r28 K29 ⟨rfl,rfl⟩;refine au 21201903250711250711250300 ?_;refine bC [(j1,_),(0,_),(1,_),(s,_),(e,_)] ?_;refine au 6804 ?_;refine bD Z Z Z Z (zgC hT (b:=exB) (s:=s) (e:=e) hse ex_n1 ex_l1) ?_;rintro r31 K32 h33;rcases h33 with ⟨hb0,rfl,rfl⟩ | ⟨hb0,jp,jq,rfl,rfl⟩
  ·refine au 0 ?_;exact absurd ziy hb0
  ·refine au 0 ?_;rw [ex_p1,ex_p0];refine au 661 ?_;refine TK.freezeR 148 Z uQ Z ?_;refine au 6804235556 ?_;refine bD Z Z Z Z (wX hT (b:=exB) (s:=s) (e:=e) (lo:=6) (hi:=1) hse ex_n1 ex_l1) ?_;rintro r34 K35 ⟨rfl,rfl⟩;refine au 0 ?_;rw [ex_w];refine au 220661 ?_;intro jw hjw;refine au 6804235170 ?_;refine bD Z Z Z Z (vx tame (b:=exB) (s:=s) (e:=e) hse ex_n1 ex_l1) ?_;rintro r37 K38 ⟨rfl,rfl⟩;refine au 0 ?_;rw [ex_n];refine au 680423555566661 ?_;refine bD Z Z Z Z (kV hT (b:=exB) (s:=s) (e:=e) (n:=0) hse ex_n1 ex_l1) ?_;rintro r40 K41 ⟨rfl,rfl⟩;refine au 0 ?_;rw [ex_wr];refine au 68042355661 ?_;refine bD Z Z Z Z (zd7 hT (b:=exB) (s:=s) (e:=e) hse ex_n1 ex_l1) ?_;rintro r43 K44 h45;rcases h45 with ⟨hc0,rfl,rfl⟩ | ⟨hc0,hg0,rfl,rfl⟩ | ⟨hc0,hg0,jl,rfl,rfl⟩
   ·refine au 0 ?_;exact absurd ze2 hc0
   ·refine au 0 ?_;exact absurd hg0 ex_g0
   ·refine au 0 ?_;rw [ex_li];refine au 680423555566661 ?_;refine bD Z Z Z Z (zeW hT (b:=exB) (s:=s) (e:=e) hse ex_n1 ex_l1) ?_;rintro r46 K47 h48;rcases h48 with ⟨hc0,rfl,rfl⟩ | ⟨hc0,hg0,rfl,rfl⟩ | ⟨hc0,hg0,jk,rfl,rfl⟩
    ·refine au 0 ?_;exact absurd ze2 hc0
    ·refine au 0 ?_;rw [ex_t] at hg0; cases hg0
    ·refine au 0 ?_;rw [ex_cl];refine au 22355661 ?_;refine bC [(j1,_),(0,_),(1,_),(s,_),(e,_),(jp,_),(jq,_),(jw,_),(jl,_),(jk,_)] ?_;refine TK.dr [0,1,2,3,4,5,6,7,8,9,10,11,12,13,14,15,16,17,18,19,20,21,22,23,24,25,26,27,28,29,30,31,32,33,34,35,36,37,38,39,40,41,42,43,44,45,46,47,48,49,50,51,52,53,54,55,56,57,58,59,60,61,62,63,64,65,66,67,68,69,70,71,72,73] [0,1,2,3,4,5,6,7,8,9,10,11,12,13,14,15,16,17,18,19,20,21,22,23,24,25,26,27,28,29,30,31,32,33,34,35,36,37,38,39,40,41,42,43,44,45,46,47,48,49,50,51,52,53,54,55,56,57,58,59,60,61,62,63,64,65,66,67,68,69,70,71,72,73] ?_;refine ad [[1,3],[4,179],[1,180],[1,5,181],[4,181,182],[6,181,183],[1,184],[1,7,185],[4,185,186],[6,185,187],[1,188],[1,9,189],[4,189,190],[6,189,191],[1,192],[1,11,193],[4,193,194],[6,193,195],[1,196],[1,13,197],[4,197,198],[6,197,199],[1,200],[1,18,201]] ?_;refine bU [201,202] Z (q_len Z Z Z Und.h) ?_;refine ad [[4,201,203],[6,201,204],[1,205],[1,19,206]] ?_;refine bV (pend':=[Pd.mk 28 [19,206] [],Pd.mk 26 [201,204] [],Pd.mk 25 [201,203] [],Pd.mk 24 [201,202] [],Pd.mk 23 [18,201] [],Pd.mk 22 [200] [],Pd.mk 21 [197,199] [],Pd.mk 20 [197,198] [],Pd.mk 19 [13,197] [],Pd.mk 18 [196] [],Pd.mk 17 [193,195] [],Pd.mk 16 [193,194] [],Pd.mk 15 [11,193] [],Pd.mk 14 [192] [],Pd.mk 13 [189,191] [],Pd.mk 12 [189,190] [],Pd.mk 11 [9,189] [],Pd.mk 10 [188] [],Pd.mk 9 [185,187] [],Pd.mk 8 [185,186] [],Pd.mk 7 [7,185] [],Pd.mk 6 [184] [],Pd.mk 5 [181,183] [],Pd.mk 4 [181,182] [],Pd.mk 3 [5,181] [],Pd.mk 2 [180] [],Pd.mk 1 [179] [],Pd.mk 0 [3] []]) [206] Z Z Z (pendS (es:=[27]) Z Z) Z (zD (l:=[_,_,_]) Z zT.h TyZ.h dQ dQ Z) (fun _=>zt rfl tQ) sQ fun jd1 hjd1=>?_;refine bQ (pend':=[Pd.mk 26 [201,204] [],Pd.mk 25 [201,203] [],Pd.mk 24 [201,202] [],Pd.mk 23 [18,201] [],Pd.mk 22 [200] [],Pd.mk 21 [197,199] [],Pd.mk 20 [197,198] [],Pd.mk 19 [13,197] [],Pd.mk 18 [196] [],Pd.mk 17 [193,195] [],Pd.mk 16 [193,194] [],Pd.mk 15 [11,193] [],Pd.mk 14 [192] [],Pd.mk 13 [189,191] [],Pd.mk 12 [189,190] [],Pd.mk 11 [9,189] [],Pd.mk 10 [188] [],Pd.mk 9 [185,187] [],Pd.mk 8 [185,186] [],Pd.mk 7 [7,185] [],Pd.mk 6 [184] [],Pd.mk 5 [181,183] [],Pd.mk 4 [181,182] [],Pd.mk 3 [5,181] [],Pd.mk 2 [180] [],Pd.mk 1 [179] [],Pd.mk 0 [3] []]) [206,207,208] Z (pendS (es:=[28,29,27,27]) Z Z) Z Z Z (vr (uL hT [1,3,6] (j:=jq) (j2:=jd1) (fun h=>hjd1 (by subst h; simp [keys])) (ym [1,3,6] 3 false) (ym [1,3,6] 3 false) dQ)) (fun r49 K50 h51=>⟨?_,?_⟩)
     ·rcases h51 with ⟨rfl,rfl⟩
      all_goals simp
     obtain ⟨rfl,rfl⟩:=h51;try simp only [cA]
     refine bS tQ ?_;refine bU [206,209] Z (q_not Z Z) ?_;refine ad [[6,206,210],[1,211],[12,20,212]] ?_;refine bQ (pend':=[Pd.mk 34 [20,212] [(_,_)],Pd.mk 32 [206,210] [],Pd.mk 31 [206,209] [],Pd.mk 26 [201,204] [],Pd.mk 25 [201,203] [],Pd.mk 24 [201,202] [],Pd.mk 23 [18,201] [],Pd.mk 22 [200] [],Pd.mk 21 [197,199] [],Pd.mk 20 [197,198] [],Pd.mk 19 [13,197] [],Pd.mk 18 [196] [],Pd.mk 17 [193,195] [],Pd.mk 16 [193,194] [],Pd.mk 15 [11,193] [],Pd.mk 14 [192] [],Pd.mk 13 [189,191] [],Pd.mk 12 [189,190] [],Pd.mk 11 [9,189] [],Pd.mk 10 [188] [],Pd.mk 9 [185,187] [],Pd.mk 8 [185,186] [],Pd.mk 7 [7,185] [],Pd.mk 6 [184] [],Pd.mk 5 [181,183] [],Pd.mk 4 [181,182] [],Pd.mk 3 [5,181] [],Pd.mk 2 [180] [],Pd.mk 1 [179] [],Pd.mk 0 [3] []]) [212] Z (pendS (es:=[33,33]) Z Z) Z Z Z (to_ok hT) (fun r52 K53 h54=>⟨?_,?_⟩)
     ·rcases h54 with ⟨rfl,rfl⟩
      all_goals simp
     obtain ⟨rfl,rfl⟩:=h54;try simp only [cA]
     refine bS tQ ?_;refine bU [212,213,214] Z (zjm Z Z Z Z Z FlatF.h EqG.h) ?_;refine ad [[6,212,215],[1,216],[1,21,217],[4,217,218],[6,217,219],[1,220],[1,22,221],[4,221,222],[6,221,223],[1,224],[1,23,225]] ?_;refine bU [225,226] Z (q_not Z Z) ?_;refine ad [[6,225,227],[1,228],[1,24,229],[4,229,230],[6,229,231],[1,232],[1,25,233]] ?_;refine bV (pend':=[Pd.mk 55 [25,233] [],Pd.mk 53 [229,231] [],Pd.mk 52 [229,230] [],Pd.mk 51 [24,229] [],Pd.mk 50 [228] [],Pd.mk 49 [225,227] [],Pd.mk 48 [225,226] [],Pd.mk 47 [23,225] [],Pd.mk 46 [224] [],Pd.mk 45 [221,223] [],Pd.mk 44 [221,222] [],Pd.mk 43 [22,221] [],Pd.mk 42 [220] [],Pd.mk 41 [217,219] [],Pd.mk 40 [217,218] [],Pd.mk 39 [21,217] [],Pd.mk 38 [216] [],Pd.mk 37 [212,215] [],Pd.mk 36 [212,213,214] [],Pd.mk 34 [20,212] [(_,_)],Pd.mk 32 [206,210] [],Pd.mk 31 [206,209] [],Pd.mk 26 [201,204] [],Pd.mk 25 [201,203] [],Pd.mk 24 [201,202] [],Pd.mk 23 [18,201] [],Pd.mk 22 [200] [],Pd.mk 21 [197,199] [],Pd.mk 20 [197,198] [],Pd.mk 19 [13,197] [],Pd.mk 18 [196] [],Pd.mk 17 [193,195] [],Pd.mk 16 [193,194] [],Pd.mk 15 [11,193] [],Pd.mk 14 [192] [],Pd.mk 13 [189,191] [],Pd.mk 12 [189,190] [],Pd.mk 11 [9,189] [],Pd.mk 10 [188] [],Pd.mk 9 [185,187] [],Pd.mk 8 [185,186] [],Pd.mk 7 [7,185] [],Pd.mk 6 [184] [],Pd.mk 5 [181,183] [],Pd.mk 4 [181,182] [],Pd.mk 3 [5,181] [],Pd.mk 2 [180] [],Pd.mk 1 [179] [],Pd.mk 0 [3] []]) [233] Z Z Z (pendS (es:=[54]) Z Z) Z (zD (l:=[_]) Z zT.h TyZ.h dQ dQ Z) (fun _=>zt rfl tQ) sQ fun jd2 hjd2=>?_;refine bQ (pend':=[Pd.mk 53 [229,231] [],Pd.mk 52 [229,230] [],Pd.mk 51 [24,229] [],Pd.mk 50 [228] [],Pd.mk 49 [225,227] [],Pd.mk 48 [225,226] [],Pd.mk 47 [23,225] [],Pd.mk 46 [224] [],Pd.mk 45 [221,223] [],Pd.mk 44 [221,222] [],Pd.mk 43 [22,221] [],Pd.mk 42 [220] [],Pd.mk 41 [217,219] [],Pd.mk 40 [217,218] [],Pd.mk 39 [21,217] [],Pd.mk 38 [216] [],Pd.mk 37 [212,215] [],Pd.mk 36 [212,213,214] [],Pd.mk 34 [20,212] [(_,_)],Pd.mk 32 [206,210] [],Pd.mk 31 [206,209] [],Pd.mk 26 [201,204] [],Pd.mk 25 [201,203] [],Pd.mk 24 [201,202] [],Pd.mk 23 [18,201] [],Pd.mk 22 [200] [],Pd.mk 21 [197,199] [],Pd.mk 20 [197,198] [],Pd.mk 19 [13,197] [],Pd.mk 18 [196] [],Pd.mk 17 [193,195] [],Pd.mk 16 [193,194] [],Pd.mk 15 [11,193] [],Pd.mk 14 [192] [],Pd.mk 13 [189,191] [],Pd.mk 12 [189,190] [],Pd.mk 11 [9,189] [],Pd.mk 10 [188] [],Pd.mk 9 [185,187] [],Pd.mk 8 [185,186] [],Pd.mk 7 [7,185] [],Pd.mk 6 [184] [],Pd.mk 5 [181,183] [],Pd.mk 4 [181,182] [],Pd.mk 3 [5,181] [],Pd.mk 2 [180] [],Pd.mk 1 [179] [],Pd.mk 0 [3] []]) [233,234,235] Z (pendS (es:=[55,56,54,54]) Z Z) Z Z Z (vr (uL hT [1] (j:=jl) (j2:=jd2) (fun h=>hjd2 (by subst h; simp [keys])) (ym [1] 3 false) (ym [1] 3 false) dQ)) (fun r55 K56 h57=>⟨?_,?_⟩)
     ·rcases h57 with ⟨rfl,rfl⟩
      all_goals simp
     obtain ⟨rfl,rfl⟩:=h57;try simp only [cA]
     refine bS tQ ?_;refine bU [233,236] Z (q_not Z Z) ?_;refine ad [[6,233,237],[1,238],[1,26,239],[4,239,240],[6,239,241],[1,242],[1,27,243]] ?_;refine bU [243,244] Z (q_not Z Z) ?_;refine ad [[6,243,245],[1,246],[1,28,247]] ?_;refine bV (pend':=[Pd.mk 69 [28,247] [],Pd.mk 67 [243,245] [],Pd.mk 66 [243,244] [],Pd.mk 65 [27,243] [],Pd.mk 64 [242] [],Pd.mk 63 [239,241] [],Pd.mk 62 [239,240] [],Pd.mk 61 [26,239] [],Pd.mk 60 [238] [],Pd.mk 59 [233,237] [],Pd.mk 58 [233,236] [],Pd.mk 53 [229,231] [],Pd.mk 52 [229,230] [],Pd.mk 51 [24,229] [],Pd.mk 50 [228] [],Pd.mk 49 [225,227] [],Pd.mk 48 [225,226] [],Pd.mk 47 [23,225] [],Pd.mk 46 [224] [],Pd.mk 45 [221,223] [],Pd.mk 44 [221,222] [],Pd.mk 43 [22,221] [],Pd.mk 42 [220] [],Pd.mk 41 [217,219] [],Pd.mk 40 [217,218] [],Pd.mk 39 [21,217] [],Pd.mk 38 [216] [],Pd.mk 37 [212,215] [],Pd.mk 36 [212,213,214] [],Pd.mk 34 [20,212] [(_,_)],Pd.mk 32 [206,210] [],Pd.mk 31 [206,209] [],Pd.mk 26 [201,204] [],Pd.mk 25 [201,203] [],Pd.mk 24 [201,202] [],Pd.mk 23 [18,201] [],Pd.mk 22 [200] [],Pd.mk 21 [197,199] [],Pd.mk 20 [197,198] [],Pd.mk 19 [13,197] [],Pd.mk 18 [196] [],Pd.mk 17 [193,195] [],Pd.mk 16 [193,194] [],Pd.mk 15 [11,193] [],Pd.mk 14 [192] [],Pd.mk 13 [189,191] [],Pd.mk 12 [189,190] [],Pd.mk 11 [9,189] [],Pd.mk 10 [188] [],Pd.mk 9 [185,187] [],Pd.mk 8 [185,186] [],Pd.mk 7 [7,185] [],Pd.mk 6 [184] [],Pd.mk 5 [181,183] [],Pd.mk 4 [181,182] [],Pd.mk 3 [5,181] [],Pd.mk 2 [180] [],Pd.mk 1 [179] [],Pd.mk 0 [3] []]) [247] Z Z Z (pendS (es:=[68]) Z Z) Z (zD (l:=[_,_,_]) Z zT.h TyZ.h dQ dQ Z) (fun _=>zt rfl tQ) sQ fun jd3 hjd3=>?_;refine bQ (pend':=[Pd.mk 67 [243,245] [],Pd.mk 66 [243,244] [],Pd.mk 65 [27,243] [],Pd.mk 64 [242] [],Pd.mk 63 [239,241] [],Pd.mk 62 [239,240] [],Pd.mk 61 [26,239] [],Pd.mk 60 [238] [],Pd.mk 59 [233,237] [],Pd.mk 58 [233,236] [],Pd.mk 53 [229,231] [],Pd.mk 52 [229,230] [],Pd.mk 51 [24,229] [],Pd.mk 50 [228] [],Pd.mk 49 [225,227] [],Pd.mk 48 [225,226] [],Pd.mk 47 [23,225] [],Pd.mk 46 [224] [],Pd.mk 45 [221,223] [],Pd.mk 44 [221,222] [],Pd.mk 43 [22,221] [],Pd.mk 42 [220] [],Pd.mk 41 [217,219] [],Pd.mk 40 [217,218] [],Pd.mk 39 [21,217] [],Pd.mk 38 [216] [],Pd.mk 37 [212,215] [],Pd.mk 36 [212,213,214] [],Pd.mk 34 [20,212] [(_,_)],Pd.mk 32 [206,210] [],Pd.mk 31 [206,209] [],Pd.mk 26 [201,204] [],Pd.mk 25 [201,203] [],Pd.mk 24 [201,202] [],Pd.mk 23 [18,201] [],Pd.mk 22 [200] [],Pd.mk 21 [197,199] [],Pd.mk 20 [197,198] [],Pd.mk 19 [13,197] [],Pd.mk 18 [196] [],Pd.mk 17 [193,195] [],Pd.mk 16 [193,194] [],Pd.mk 15 [11,193] [],Pd.mk 14 [192] [],Pd.mk 13 [189,191] [],Pd.mk 12 [189,190] [],Pd.mk 11 [9,189] [],Pd.mk 10 [188] [],Pd.mk 9 [185,187] [],Pd.mk 8 [185,186] [],Pd.mk 7 [7,185] [],Pd.mk 6 [184] [],Pd.mk 5 [181,183] [],Pd.mk 4 [181,182] [],Pd.mk 3 [5,181] [],Pd.mk 2 [180] [],Pd.mk 1 [179] [],Pd.mk 0 [3] []]) [247,248,249] Z (pendS (es:=[69,70,68,68]) Z Z) Z Z Z (vr (uL hT [0,1,2] (j:=jk) (j2:=jd3) (fun h=>hjd3 (by subst h; simp [keys])) (ym [0,1,2] 3 false) (ym [0,1,2] 3 false) dQ)) (fun r58 K59 h60=>⟨?_,?_⟩)
     ·rcases h60 with ⟨rfl,rfl⟩
      all_goals simp
     obtain ⟨rfl,rfl⟩:=h60;try simp only [cA]
     refine bS tQ ?_;refine bU [247,250] Z (q_not Z Z) ?_;refine ad [[6,247,251],[14]] ?_;refine au 2120190 ?_;refine bC [(j1,_),(0,_),(1,_),(s,_),(e,_)] ?_;refine au 6804 ?_;refine bD Z Z Z Z (zig hT (b:=exB) (s:=s) (e:=e) hse ex_n1 ex_l1) ?_;rintro r61 K62 ⟨rfl,rfl⟩;refine au 0 ?_;rw [zlB];refine au 6804235556661 ?_;refine bD Z Z Z Z (zhH hT (b:=exB) (s:=s) (e:=e) hse ex_n1 ex_l1) ?_;rintro r64 K65 ⟨rfl,rfl⟩;refine au 0 ?_;rw [zlD];refine au 6804235556661 ?_;refine bD Z Z Z Z (zlG hT (b:=exB) (s:=s) (e:=e) (n:=0) hse ex_n1 ex_l1) ?_;rintro r67 K68 h69;rcases h69 with ⟨hb0,rfl,rfl⟩ | ⟨hb0,g3,g2,rfl,rfl⟩
     ·refine au 0 ?_;exact absurd zmE hb0
     ·refine au 0 ?_;refine TK.nd fun hnd=>?_;have hg3:g3≠g2:=fun h=>by subst h; simp [keys] at hnd
      try rw [show (0:Int).toNat=0 from rfl]
      refine au 220661 ?_;intro jg hjg;refine au 6804235170 ?_;refine bD Z Z Z Z (kc hT (b:=giveB exB 0) (s:=g3) (e:=g2) hg3 ex_n3 ex_l3) ?_;rintro r70 K71 ⟨rfl,rfl⟩;refine au 0 ?_;rw [ex_g2];refine au 68042355661 ?_;refine bD Z Z Z Z (vx tame (b:=giveB exB 0) (s:=g3) (e:=g2) hg3 ex_n3 ex_l3) ?_;rintro r73 K74 ⟨rfl,rfl⟩;refine au 0 ?_;rw [ex_g3];refine au 23555566661 ?_;refine bC [(j1,_),(0,_),(1,_),(s,_),(e,_),(jg,_)] ?_;refine au 6804 ?_;refine bD Z Z Z Z (zlR hT (b:=exB) (s:=s) (e:=e) (n:=3) (sm:=true) hse ex_n1 ex_l1) ?_;rintro r76 K77 h78;rcases h78 with ⟨hb0,rfl,rfl⟩ | ⟨hb0,l3,l2,rfl,rfl⟩
      ·refine au 0 ?_;exact absurd ex_lk hb0
      ·refine au 0 ?_;refine TK.nd fun hnd=>?_;have hl3:l3≠l2:=fun h=>by subst h; simp [keys] at hnd
       refine au 6804235170661 ?_;refine bD Z Z Z Z (kc hT (b:=lookB exB ⟨3,true⟩) (s:=l3) (e:=l2) hl3 ex_n4 ex_l4) ?_;rintro r79 K80 ⟨rfl,rfl⟩;refine au 0 ?_;rw [zmG];refine au 2355661 ?_;refine bC [(j1,_),(0,_),(1,_),(s,_),(e,_),(jg,_)] ?_;refine au 4206804 ?_;refine bD Z Z Z Z (zlH hT (b:=exB) (s:=s) (e:=e) (x:=exX) hse ex_n1 ex_l1 dQ) ?_;rintro r82 K83 h84;rcases h84 with ⟨hb0,rfl,rfl⟩ | ⟨hb0,h3,h2,rfl,rfl⟩
       ·refine au 0 ?_;exact absurd ex_hr hb0
       ·refine au 0 ?_;refine TK.nd fun hnd=>?_;have hh3:h3≠h2:=fun h=>by subst h; simp [keys] at hnd
        refine au 6804235170661 ?_;refine bD Z Z Z Z (kc hT (b:=hearB exB exX) (s:=h3) (e:=h2) hh3 ex_n5 ex_l5) ?_;rintro r85 K86 ⟨rfl,rfl⟩;refine au 0 ?_;rw [zmF];refine au 212019032507112507112503001125071125071125071125071125071125071125071125071125071125071125071125071125071125071125071171422355661 ?_;refine bC [(j1,_),(0,_),(1,_),(s,_),(e,_)] ?_;refine au 4 ?_;refine bD Z Z Z Z (zgS hT) ?_;rintro r88 K89 ⟨rfl,rfl⟩;refine au 680423170670 ?_;refine bD Z Z Z Z (kc hT (b:=exB2) (s:=s) (e:=e) hse ex_n2 ex_l2) ?_;rintro r91 K92 ⟨rfl,rfl⟩;refine au 0 ?_;rw [zmA];refine au 68042355661 ?_;refine bD Z Z Z Z (zd7 hT (b:=exB2) (s:=s) (e:=e) hse ex_n2 ex_l2) ?_;rintro r94 K95 h96;rcases h96 with ⟨hc0,rfl,rfl⟩ | ⟨hc0,hg0,rfl,rfl⟩ | ⟨hc0,hg0,jl2,rfl,rfl⟩
        ·refine au 0 ?_;exact absurd zix hc0
        ·refine au 0 ?_;exact absurd hg0 ex2_g
        ·refine au 0 ?_;rw [zmz];refine au 680423555566661 ?_;refine bD Z Z Z Z (zeW hT (b:=exB2) (s:=s) (e:=e) hse ex_n2 ex_l2) ?_;rintro r97 K98 h99;rcases h99 with ⟨hc0,rfl,rfl⟩ | ⟨hc0,hg0,rfl,rfl⟩ | ⟨hc0,hg0,jk2,rfl,rfl⟩
         ·refine au 0 ?_;exact absurd zix hc0
         ·refine au 112607112607112607117142355661 ?_;refine bI Z Z Z (zD (l:=[_,_]) Z zT.h TyZ.h dQ dQ Z) (fun _=>zt rfl tQ) fun jd4 hjd4=>?_;refine bD Z Z Z Z (vr (uL hT [1,6] (j:=jl2) (j2:=jd4) (fun h=>hjd4 (by subst h; simp [keys])) (ym [1,6] 3 false) (ym [1,6] 3 false) dQ)) ?_;rintro r100 K101 ⟨rfl,rfl⟩;refine au 3526072801126011260711260 ?_;refine bB hret [(0,_),(1,_)] ?_;exact ⟨rfl,rfl⟩
         ·refine au 0 ?_;rw [ex2_t] at hg0; cases hg0
def wrongB (b:Bk) (w:Int):Bk:={ b with wrong:=w }
theorem zmt {b:Bk} (k:Int):whoM b k = -1\/∃ q:Nat,whoM b k=q/\q<b.seekers.length:=by
 unfold whoM;split
 ·exact .inl rfl
 ·rename_i h;have h1:=Int.emod_nonneg k (show (b.seekers.length:Int)≠0 from h);have h2:=Int.emod_lt_of_pos k (show 0<(b.seekers.length:Int) by omega);exact .inr ⟨(k % b.seekers.length).toNat,oQ,oQ⟩
instance:Cal tp 57:={}
instance:Cal tp 58:={}
theorem zhb (tame:Tame tp) {Ψ:Goroutine->World->Prop} {was now:Bk} {s1 e1 s2:Nat} {lo w wh:Int} (h:Less was now) (fw:checkM was=0) (fn:checkM now=0) (h1:s1≠e1) (h2:s2≠e1) (nw:∀ x∈was.seekers,x.name.size<=1000) (nn:∀ x∈now.seekers,x.name.size<=1000) (lw:was.seen.length<=1000) (ln:now.seen.length<=1000) (hlo:0<=lo/\lo<was.steps) (hw:1<=w/\w<=was.steps) (hwh:wh = -1\/∃ k:Nat,wh=k/\k<was.seekers.length/\k<now.seekers.length/\∀ S∈zb now,rightM now S k=rightM was S k) (eE:zp now=zp was):zh tp (BT tp Ψ) gmS 57 [.agg (zx was s1 e1),.agg (zx now s2 e1),intA lo,intA w,intA wh] [(0,zr),(1,zz),(s1,zo was),(s2,zo now),(e1,zp was)] (fun r K'=>r=zl true/\K'=[(0,zr),(1,zz),(s1,zo was),(s2,zo now),(e1,zp was)]):=by
 have hT:=wM tame Ψ;refine ze 218 hT Tryz.func57 fun Y hret=>?_;refine au 0 ?_;have hst:=h.okw.steps;have hsn:=h.steps;have w0:=(zgF fw).1.2 h.wne;have n0:=(zgF fn).1.2 h.ne;have hsw:=zan fw;have hsn1:=zan fn;have hlw:zF was lo=true:=by unfold zF; simp only [mX,decide_eq_true_eq]; omega
 have hln:zF now lo=true:=by unfold zF; simp only [mX,decide_eq_true_eq]; omega
 have haw:=zii w0 hlw;have han:=zii n0 hln;have hmany:=h.many;have hcw:=zc8 fw w0 hlo hw;have hcn:=zc8 fn n0 (lo:=lo) (w:=w) oQ oQ;rw [hsn] at hcn;have hband:=h.within lo w;have hnw:=zcD w0;have hnn:=zcD n0;have hlcw:=zcl h.okw;have hlcn:=zcl h.okn;have hin:((countsM now).all fun x=>decide (x∈countsM was))=true:=List.all_eq_true.2 fun x hx=>decide_eq_true (h.counts hx);have n_s:=kc hT (b:=now) h2 nn ln;rw [eE] at n_s;have n_a:=uP hT (n:=lo) (b:=now) h2 nn ln;rw [eE] at n_a;have n_c:=zaC tame (Ψ:=Ψ) (b:=now) h2 nn ln;rw [eE] at n_c;have n_i:=wX hT (lo:=lo) (hi:=(lo+w - 1) % was.steps) (b:=now) h2 nn ln;rw [eE] at n_i;have n_n:=vx tame (Ψ:=Ψ) (b:=now) h2 nn ln;rw [eE] at n_n;have n_w:=kV hT (n:=wh) (b:=now) h2 nn ln;rw [eE] at n_w;refine au 21042 ?_;intro jw hjw;refine au 210 ?_;intro jn hjn;refine au 6804235 ?_;refine bD Z Z Z Z (kc hT (b:=was) h1 nw lw) ?_;rintro r1 K2 ⟨rfl,rfl⟩;refine au 0 ?_;rw [hsw.1,hsw.2];refine au 68042355661 ?_;refine bD Z Z Z Z (n_s) ?_;rintro r4 K5 ⟨rfl,rfl⟩;refine au 0 ?_;rw [hsn1.1,hsn1.2];refine au 68042355661 ?_;refine bD Z Z Z Z (zaC tame (b:=was) h1 nw lw) ?_;rintro r7 K8 h9;rcases h9 with ⟨hb0,rfl,rfl⟩ | ⟨hb0,j1,rfl,rfl⟩
 ·refine au 0 ?_;exact absurd w0 hb0
 ·refine au 68042355661 ?_;refine bD Z Z Z Z (n_c) ?_;rintro r10 K11 h12;rcases h12 with ⟨hb1,rfl,rfl⟩ | ⟨hb1,j2,rfl,rfl⟩
  ·refine au 0 ?_;exact absurd n0 hb1
  ·refine au 168042355661 ?_;refine bD Z Z Z Z (uP hT (n:=lo) (b:=was) h1 nw lw) ?_;rintro r13 K14 ⟨rfl,rfl⟩;refine au 0 ?_;rw [haw.1,haw.2];refine au 168042355661 ?_;refine bD Z Z Z Z (n_a) ?_;rintro r16 K17 ⟨rfl,rfl⟩;refine au 0 ?_;rw [han.1,han.2];refine au 22355661 ?_;refine TK.freezeR 17 Z uQ tQ ?_;refine TK.freezeR 15 Z uQ tQ ?_;refine TK.nd fun hnd=>?_;have hjj:j2≠j1:=fun h=>by subst h; simp [keys] at hnd
   refine au 1714 ?_;refine bF 66 (fun g7_3=>?_) (fun g7_3=>?_)
   ·simp at g7_3
   refine au 125071 ?_;refine bF 70 (fun g7_7=>?_) (fun g7_7=>?_)
   ·simp at g7_7
   refine au 125071 ?_;refine bF 74 (fun g7_11=>?_) (fun g7_11=>?_)
   ·simp at g7_11
   refine au 125071 ?_;refine bF 78 (fun g7_15=>?_) (fun g7_15=>?_)
   ·simp at g7_15
   refine au 125071 ?_;refine bF 82 (fun g7_19=>?_) (fun g7_19=>?_)
   ·simp at g7_19
   refine au 125071 ?_;refine bF 86 (fun g7_23=>?_) (fun g7_23=>?_)
   ·simp at g7_23
   refine au 11 ?_;refine bD Z Z Z Z (yi hT) ?_;rintro r19 K20 ⟨rfl,rfl⟩;refine au 1250300 ?_;refine bF 92 (fun g7_29=>?_) (fun g7_29=>?_)
   ·rw [decide_eq_true hmany.1,decide_eq_true hmany.2] at g7_29;simp at g7_29
   refine au 11 ?_;refine bD Z Z Z Z (zcx hT hjj (ym (countsM now) 3 false) (ym (countsM was) 3 false) oQ oQ) ?_;rintro r22 K23 ⟨rfl,rfl⟩;refine au 1250300 ?_;refine bF 98 (fun g7_35=>?_) (fun g7_35=>?_)
   ·rw [hin] at g7_35;simp at g7_35
   refine au 171 ?_;refine bF 101 (fun g7_38=>?_) (fun g7_38=>?_)
   ·refine au 93250260711 ?_;constructor<;>intro hc0
    ·rw [<- h.at_ lo (by simpa using g7_38)] at hc0;simp at hc0
    refine au 6906702402301142120 ?_;refine bH Z (q_rem Z Z Z oQ oQ) ?_;refine au 116804235 ?_;refine bD Z Z Z Z (wX hT (lo:=lo) (hi:=(lo+w - 1) % was.steps) (b:=was) h1 nw lw) ?_;rintro r25 K26 ⟨rfl,rfl⟩;refine au 0 ?_;rw [hcw.1,hcw.2];refine au 220661 ?_;intro jx hjx;refine au 116804235170 ?_;refine bD Z Z Z Z (n_i) ?_;rintro r28 K29 ⟨rfl,rfl⟩;refine au 0 ?_;rw [hcn.1,hcn.2];refine au 220661 ?_;intro jy hjy;refine au 6804235170 ?_;refine bD Z Z Z Z (vx tame (b:=was) h1 nw lw) ?_;rintro r31 K32 ⟨rfl,rfl⟩;refine au 0 ?_;rw [hnw.1,hnw.2.1];refine au 680423555566661 ?_;refine bD Z Z Z Z (n_n) ?_;rintro r34 K35 ⟨rfl,rfl⟩;refine au 0 ?_;rw [hnn.1,hnn.2.1];refine au 1714223555566661 ?_;refine bF 144 (fun g14_3=>?_) (fun g14_3=>?_)
    ·simp at g14_3
    refine au 125071 ?_;refine bF 148 (fun g14_7=>?_) (fun g14_7=>?_)
    ·simp at g14_7
    refine au 125071 ?_;refine bF 152 (fun g14_11=>?_) (fun g14_11=>?_)
    ·simp at g14_11
    refine au 125071 ?_;refine bF 156 (fun g14_15=>?_) (fun g14_15=>?_)
    ·simp at g14_15
    refine au 12507690670690670 ?_;refine bF 163 (fun g14_22=>?_) (fun g14_22=>?_)
    ·have:=of_decide_eq_true g14_22;omega
    refine au 12507690670690670 ?_;refine bF 170 (fun g14_29=>?_) (fun g14_29=>?_)
    ·have:=of_decide_eq_true g14_29;omega
    refine au 12507690670690670 ?_;refine bF 177 (fun g14_36=>?_) (fun g14_36=>?_)
    ·have:=of_decide_eq_true g14_36;omega
    refine au 11 ?_;refine bF 179 (fun g14_38=>?_) (fun g14_38=>?_)
    ·have ha:=h.arcs (of_decide_eq_true g14_38);have hfw:=hnw.2.2 (of_decide_eq_true g14_38);have hfn:=hnn.2.2 ha.1;refine au 13001 ?_;refine bF 182 (fun g14_41=>?_) (fun g14_41=>?_)
     ·rw [decide_eq_true ha.1] at g14_41;simp at g14_41
     refine au 93250260250711 ?_;constructor<;>intro hc1
     ·rw [hfw,hfn] at hc1;have:=of_decide_eq_true hc1;omega
     refine au 9371422120 ?_;constructor<;>intro hc2
     ·refine au 3542 ?_;refine bB hret [(0,_),(1,_),(s1,_),(s2,_),(e1,_)] ?_;exact ⟨rfl,rfl⟩
     obtain ⟨k,rfl,hk1,hk2,hkr⟩:=hwh.resolve_left (fun h=>by have:=of_decide_eq_false hc2; omega);have hww:=kK w0 hk1;have hwn:=kK n0 hk2;refine au 168042120 ?_;refine bD Z Z Z Z (kV hT (n:=(k:Int)) (b:=was) h1 nw lw) ?_;rintro r37 K38 ⟨rfl,rfl⟩;refine au 0 ?_;rw [hww.1,hww.2];refine au 168042355661 ?_;refine bD Z Z Z Z (n_w) ?_;rintro r40 K41 ⟨rfl,rfl⟩;refine au 0 ?_;rw [hwn.1,hwn.2];refine au 17142355661 ?_;refine bF 205 (fun g20_3=>?_) (fun g20_3=>?_)
     ·refine au 126071 ?_;refine bF 209 (fun g20_7=>?_) (fun g20_7=>?_)
      ·refine au 171 ?_;refine bF 212 (fun g20_10=>?_) (fun g20_10=>?_)
       ·refine au 35260260888 ?_;refine bB hret [(0,_),(1,_),(s1,_),(s2,_),(e1,_)] ?_;exact ⟨rfl,rfl⟩
       refine au 35260250711 ?_;refine bB hret [(0,_),(1,_),(s1,_),(s2,_),(e1,_)] ?_;exact ⟨by rw [h.wrong k hkr (by simpa using g20_10),beq_self_eq_true]; rfl,rfl⟩
      simp at g20_7
     simp at g20_3
    refine au 937142212019032502508888888 ?_;constructor<;>intro hc2
    ·refine au 3542 ?_;refine bB hret [(0,_),(1,_),(s1,_),(s2,_),(e1,_)] ?_;exact ⟨rfl,rfl⟩
    obtain ⟨k,rfl,hk1,hk2,hkr⟩:=hwh.resolve_left (fun h=>by have:=of_decide_eq_false hc2; omega);have hww:=kK w0 hk1;have hwn:=kK n0 hk2;refine au 168042120 ?_;refine bD Z Z Z Z (kV hT (n:=(k:Int)) (b:=was) h1 nw lw) ?_;rintro r43 K44 ⟨rfl,rfl⟩;refine au 0 ?_;rw [hww.1,hww.2];refine au 168042355661 ?_;refine bD Z Z Z Z (n_w) ?_;rintro r46 K47 ⟨rfl,rfl⟩;refine au 0 ?_;rw [hwn.1,hwn.2];refine au 17142355661 ?_;refine bF 205 (fun g20_3=>?_) (fun g20_3=>?_)
    ·refine au 126071 ?_;refine bF 209 (fun g20_7=>?_) (fun g20_7=>?_)
     ·refine au 171 ?_;refine bF 212 (fun g20_10=>?_) (fun g20_10=>?_)
      ·refine au 35260260888 ?_;refine bB hret [(0,_),(1,_),(s1,_),(s2,_),(e1,_)] ?_;exact ⟨rfl,rfl⟩
      refine au 35260250711 ?_;refine bB hret [(0,_),(1,_),(s1,_),(s2,_),(e1,_)] ?_;exact ⟨by rw [h.wrong k hkr (by simpa using g20_10),beq_self_eq_true]; rfl,rfl⟩
     simp at g20_7
    simp at g20_3
   refine au 69067024023011421201903250250888 ?_;refine bH Z (q_rem Z Z Z oQ oQ) ?_;refine au 116804235 ?_;refine bD Z Z Z Z (wX hT (lo:=lo) (hi:=(lo+w - 1) % was.steps) (b:=was) h1 nw lw) ?_;rintro r49 K50 ⟨rfl,rfl⟩;refine au 0 ?_;rw [hcw.1,hcw.2];refine au 220661 ?_;intro jx hjx;refine au 116804235170 ?_;refine bD Z Z Z Z (n_i) ?_;rintro r52 K53 ⟨rfl,rfl⟩;refine au 0 ?_;rw [hcn.1,hcn.2];refine au 220661 ?_;intro jy hjy;refine au 6804235170 ?_;refine bD Z Z Z Z (vx tame (b:=was) h1 nw lw) ?_;rintro r55 K56 ⟨rfl,rfl⟩;refine au 0 ?_;rw [hnw.1,hnw.2.1];refine au 680423555566661 ?_;refine bD Z Z Z Z (n_n) ?_;rintro r58 K59 ⟨rfl,rfl⟩;refine au 0 ?_;rw [hnn.1,hnn.2.1];refine au 1714223555566661 ?_;refine bF 144 (fun g14_3=>?_) (fun g14_3=>?_)
   ·simp at g14_3
   refine au 125071 ?_;refine bF 148 (fun g14_7=>?_) (fun g14_7=>?_)
   ·simp at g14_7
   refine au 125071 ?_;refine bF 152 (fun g14_11=>?_) (fun g14_11=>?_)
   ·simp at g14_11
   refine au 125071 ?_;refine bF 156 (fun g14_15=>?_) (fun g14_15=>?_)
   ·simp at g14_15
   refine au 12507690670690670 ?_;refine bF 163 (fun g14_22=>?_) (fun g14_22=>?_)
   ·have:=of_decide_eq_true g14_22;omega
   refine au 12507690670690670 ?_;refine bF 170 (fun g14_29=>?_) (fun g14_29=>?_)
   ·have:=of_decide_eq_true g14_29;omega
   refine au 12507690670690670 ?_;refine bF 177 (fun g14_36=>?_) (fun g14_36=>?_)
   ·have:=of_decide_eq_true g14_36;omega
   refine au 11 ?_;refine bF 179 (fun g14_38=>?_) (fun g14_38=>?_)
   ·have ha:=h.arcs (of_decide_eq_true g14_38);have hfw:=hnw.2.2 (of_decide_eq_true g14_38);have hfn:=hnn.2.2 ha.1;refine au 13001 ?_;refine bF 182 (fun g14_41=>?_) (fun g14_41=>?_)
    ·rw [decide_eq_true ha.1] at g14_41;simp at g14_41
    refine au 93250260250711 ?_;constructor<;>intro hc1
    ·rw [hfw,hfn] at hc1;have:=of_decide_eq_true hc1;omega
    refine au 9371422120 ?_;constructor<;>intro hc2
    ·refine au 3542 ?_;refine bB hret [(0,_),(1,_),(s1,_),(s2,_),(e1,_)] ?_;exact ⟨rfl,rfl⟩
    obtain ⟨k,rfl,hk1,hk2,hkr⟩:=hwh.resolve_left (fun h=>by have:=of_decide_eq_false hc2; omega);have hww:=kK w0 hk1;have hwn:=kK n0 hk2;refine au 168042120 ?_;refine bD Z Z Z Z (kV hT (n:=(k:Int)) (b:=was) h1 nw lw) ?_;rintro r61 K62 ⟨rfl,rfl⟩;refine au 0 ?_;rw [hww.1,hww.2];refine au 168042355661 ?_;refine bD Z Z Z Z (n_w) ?_;rintro r64 K65 ⟨rfl,rfl⟩;refine au 0 ?_;rw [hwn.1,hwn.2];refine au 17142355661 ?_;refine bF 205 (fun g20_3=>?_) (fun g20_3=>?_)
    ·refine au 126071 ?_;refine bF 209 (fun g20_7=>?_) (fun g20_7=>?_)
     ·refine au 171 ?_;refine bF 212 (fun g20_10=>?_) (fun g20_10=>?_)
      ·refine au 35260260888 ?_;refine bB hret [(0,_),(1,_),(s1,_),(s2,_),(e1,_)] ?_;exact ⟨rfl,rfl⟩
      refine au 35260250711 ?_;refine bB hret [(0,_),(1,_),(s1,_),(s2,_),(e1,_)] ?_;exact ⟨by rw [h.wrong k hkr (by simpa using g20_10),beq_self_eq_true]; rfl,rfl⟩
     simp at g20_7
    simp at g20_3
   refine au 937142212019032502508888888 ?_;constructor<;>intro hc2
   ·refine au 3542 ?_;refine bB hret [(0,_),(1,_),(s1,_),(s2,_),(e1,_)] ?_;exact ⟨rfl,rfl⟩
   obtain ⟨k,rfl,hk1,hk2,hkr⟩:=hwh.resolve_left (fun h=>by have:=of_decide_eq_false hc2; omega);have hww:=kK w0 hk1;have hwn:=kK n0 hk2;refine au 168042120 ?_;refine bD Z Z Z Z (kV hT (n:=(k:Int)) (b:=was) h1 nw lw) ?_;rintro r67 K68 ⟨rfl,rfl⟩;refine au 0 ?_;rw [hww.1,hww.2];refine au 168042355661 ?_;refine bD Z Z Z Z (n_w) ?_;rintro r70 K71 ⟨rfl,rfl⟩;refine au 0 ?_;rw [hwn.1,hwn.2];refine au 17142355661 ?_;refine bF 205 (fun g20_3=>?_) (fun g20_3=>?_)
   ·refine au 126071 ?_;refine bF 209 (fun g20_7=>?_) (fun g20_7=>?_)
    ·refine au 171 ?_;refine bF 212 (fun g20_10=>?_) (fun g20_10=>?_)
     ·refine au 35260260888 ?_;refine bB hret [(0,_),(1,_),(s1,_),(s2,_),(e1,_)] ?_;exact ⟨rfl,rfl⟩
     refine au 35260250711 ?_;refine bB hret [(0,_),(1,_),(s1,_),(s2,_),(e1,_)] ?_;exact ⟨by rw [h.wrong k hkr (by simpa using g20_10),beq_self_eq_true]; rfl,rfl⟩
    simp at g20_7
   simp at g20_3
end Go.Vel
namespace Go.Vel
structure SunR where
 step:Int
 high:Int
 deriving Inhabited
structure EyeR where
 at0:Int
 high:Int
 deriving Inhabited
structure WatR where
 hour:Int
 step:Int
 lit:Bool
 deriving Inhabited
structure SlB where
 steps:Int
 dirty:Int
 slope:Int
 lo:Int
 hi:Int
 clean:List Int
 rf:Int
 rh:Int
 cf:Int
 ch:Int
 suns:List SunR
 eyes:List EyeR
 watches:List WatR
structure SlBase (b:SlB):Prop where
 st:4<=b.steps/\b.steps<=12
 di:0<=b.dirty/\b.dirty<=2
 sp:1<=b.slope/\b.slope<=4
 sh : -3<=b.lo/\b.lo<=b.hi/\b.hi<=3
 wd:b.hi - b.lo<3
 cl:∀ i (h:i<b.clean.length),0<=b.clean[i]/\b.clean[i]<b.steps/\∀ h0:0<i,b.clean[i - 1]'oQ<b.clean[i]
 rg:2<=b.rf/\b.rf<=30/\2<=b.rh/\b.rh<=60/\0<=b.cf/\b.cf<=b.rf/\1<=b.ch/\b.ch<=60/\b.ch<b.rh
 nsu:1<=b.suns.length/\b.suns.length<=4
 sun:∀ x∈b.suns,0<=x.step/\x.step<b.steps /\ -9<=x.high/\x.high<=9
 ney:b.eyes.length<=3
 eye:∀ x∈b.eyes,1 - b.rf<=x.at0/\x.at0<=b.rf - 1/\0<=x.high/\x.high<=60/\x.high<b.ch
def watOk (b:SlB) (x:WatR):Bool:=(decide (0<=x.hour)&&decide (x.hour<=(b.suns.length:Int) - 1))&&(decide (0<=x.step)&&decide (x.step<=b.steps - 1))
structure SlWat (b:SlB):Prop where
 len:b.watches.length<=4
 all:∀ x∈b.watches,watOk b x=true
structure SkyR where
 shift:Int
 dirty:List Bool
def sunI (b:SlB) (h:Int):SunR:=b.suns.getD h.toNat default
theorem zdz {b:SlB} {h:Nat} (hh:h<b.suns.length):b.suns[h]? =some (sunI b h):=by
 unfold sunI;rw [mZ,lE,lA hh]; rfl
def darkS (b:SlB) (s:SkyR) (h:Int):Bool:=decide ((sunI b h).high+s.shift<=0)||s.dirty.getD (sunI b h).step.toNat false
def onL (b:SlB) (h:Int) (n:Int):Int:=(n - ((sunI b h).step+b.steps / 2) % b.steps+b.steps) % b.steps
def litN (b:SlB) (s:SkyR) (h:Int) (n:Int):Bool:=decide (min (onL b h n) (b.steps - onL b h n)<=((sunI b h).high+s.shift) / b.slope)
def fallsI (b:SlB) (s:SkyR) (h:Int) (i:Int):List Bool:=(List.range 12).map fun (n:Nat)=>decide ((n:Int)<i)&&litN b s h n
def fallsM (b:SlB) (s:SkyR) (h:Int):List Bool:=if darkS b s h=true then mB 12 false else fallsI b s h b.steps
theorem zhq (b:SlB) (s:SkyR) (h i:Int):(fallsI b s h i).length=12:=by simp [fallsI]
theorem zki (b:SlB) (s:SkyR) (h:Int):fallsI b s h 0=mB 12 false:=by
 refine List.ext_getElem (by simp [fallsI]) fun n h1 h2=>?_;simp only [fallsI,List.getElem_map,List.getElem_range,List.getElem_replicate];rw [decide_eq_false oQ]; rfl
theorem zkj {b:SlB} {s:SkyR} {h:Int} {i:Nat} (hi:i<12):(fallsI b s h i).set i (litN b s h i)=fallsI b s h ((i:Int)+1):=by
 refine List.ext_getElem (by simp [fallsI]) fun n h1 h2=>?_;rw [List.getElem_set];simp only [fallsI,List.getElem_map,List.getElem_range];by_cases hn:i=n
 ·subst hn;rw [if_pos rfl,decide_eq_true oQ]; rfl
 ·rw [if_neg hn];congr 1;exact decide_eq_decide.2 oQ
def rightS (b:SlB) (s:SkyR) (w:WatR):Bool:=(fallsM b s w.hour).getD w.step.toNat false==w.lit
def allRight (b:SlB) (s:SkyR):Bool:=b.watches.all (rightS b s)
def shiftsI (b:SlB) (d:List Bool) (n:Int):List SkyR:=(List.range (b.hi+1 - n).toNat).map fun (k:Nat)=>⟨n+k,d⟩
theorem zfP {b:SlB} {d:List Bool} {n:Int} (h:n<=b.hi):shiftsI b d n=⟨n,d⟩::shiftsI b d (n+1):=by
 unfold shiftsI;rw [show (b.hi+1 - n).toNat=(b.hi+1 - (n+1)).toNat+1 by omega,List.range_succ_eq_map,List.map_cons,List.map_map];congr 1
 ·simp
 ·refine mA fun k _=>?_;simp only [Function.comp];congr 1;omega
theorem zhY {b:SlB} {d:List Bool} {n:Int} (h:¬ n<=b.hi):shiftsI b d n=[]:=by
 unfold shiftsI;rw [show (b.hi+1 - n).toNat=0 by omega]; rfl
def skyM (b:SlB):Nat->Int->List Bool->List SkyR
 | 0,_,d=>shiftsI b d b.lo
 | left+1,step,d=>(List.range (b.steps - step).toNat).flatMap fun (k:Nat)=>if b.clean.contains (step+k) then [] else skyM b left (step+k+1) (d.set (step+k).toNat true)
def skyR (b:SlB) (left:Nat) (step:Int) (d:List Bool):List SkyR:=skyM b (left+1) step d
theorem zfR {b:SlB} {left:Nat} {n:Int} {d:List Bool} (h:n<b.steps):skyM b (left+1) n d=(if b.clean.contains n then [] else skyM b left (n+1) (d.set n.toNat true))++skyM b (left+1) (n+1) d:=by
 conv=>lhs; unfold skyM
 conv=>rhs; rhs; unfold skyM
 rw [show (b.steps - n).toNat=(b.steps - (n+1)).toNat+1 by omega,List.range_succ_eq_map,List.flatMap_cons,List.flatMap_map];congr 1
 ·simp
 ·congr 1;funext k;rw [show n+((k+1:Nat):Int)=n+1+(k:Int) by omega]
theorem zla {b:SlB} {left:Nat} {n:Int} {d:List Bool} (h:¬ n<b.steps):skyM b (left+1) n d=[]:=by
 unfold skyM;rw [show (b.steps - n).toNat=0 by omega]; rfl
def zero12:List Bool:=mB 12 false
def skiesI (b:SlB) (n:Nat):List SkyR:=(List.range n).flatMap fun many=>skyM b many 0 zero12
theorem zca (b:SlB) (n:Nat):skiesI b (n+1)=skiesI b n++skyM b n 0 zero12:=by
 unfold skiesI;rw [List.range_succ,List.flatMap_append,List.flatMap_cons,List.flatMap_nil,lR]
theorem zh0 (b:SlB) {n m:Nat} (h:n<=m):skiesI b n <+: skiesI b m:=by
 induction m with
 | zero=>rw [Nat.le_zero.1 h]; exact List.prefix_refl _
 | succ m ih =>
  rcases Nat.eq_or_lt_of_le h with rfl | h
  ·exact List.prefix_refl _
  ·exact (ih oQ).trans ⟨_,(zca b m).symm⟩
def skiesM (b:SlB):List SkyR:=skiesI b (b.dirty+1).toNat
def zG (b:SlB):List SkyR:=(skiesM b).filter (allRight b)
theorem zjF {b:SlB} (hb:SlBase b):∀ (left:Nat) (step:Int) (d:List Bool),d.length=12->∀ s∈skyM b left step d,s.dirty.length=12/\b.lo<=s.shift/\s.shift<=b.hi
 | 0,step,d,hd,s,h=>by
  unfold skyM shiftsI at h;obtain ⟨k,hk,rfl⟩:=lY.1 h;have:=List.mem_range.1 hk;exact ⟨hd,by simp; omega,by simp; omega⟩
 | left+1,step,d,hd,s,h=>by
  unfold skyM at h;obtain ⟨k,hk,h⟩:=List.mem_flatMap.1 h;split at h
  ·cases h
  ·exact zjF hb left _ _ (by simpa using hd) s h
theorem zfQ {b:SlB} (hb:SlBase b) {n:Nat} {s:SkyR} (h:s∈skiesI b n):s.dirty.length=12/\b.lo<=s.shift/\s.shift<=b.hi:=by
 obtain ⟨k,_,h⟩:=List.mem_flatMap.1 h;exact zjF hb k 0 zero12 (by simp [zero12]) s h
theorem wT {α β:Type} {f:α->List β} {n:Nat}:∀ {l:List α},(∀ x∈l,(f x).length<=n)->(l.flatMap f).length<=l.length*n
 | [],_=>by simp
 | x::l,h=>by
  rw [List.flatMap_cons,List.length_append,lZ,Nat.succ_mul];have h1:=h x sQ;have h2:=wT (l:=l) fun y hy=>h y (by simp [hy]);omega
theorem zg1 {b:SlB} (hb:SlBase b):∀ (left:Nat) (step:Int) (d:List Bool),0<=step->(skyM b left step d).length<=12 ^ left*3
 | 0,step,d,h0=>by
  unfold skyM shiftsI;have:=hb.wd;rw [lJ,List.length_range]; omega
 | left+1,step,d,h0=>by
  unfold skyM;refine mT (wT (n:=12 ^ left*3) fun k _=>?_) ?_
  ·split
   ·simp
   ·exact zg1 hb left _ _ oQ
  ·have:=hb.st;rw [List.length_range,Nat.pow_succ,Nat.mul_comm (12 ^ left) 12,Nat.mul_assoc];exact Nat.mul_le_mul_right _ oQ
theorem zer {b:SlB} (hb:SlBase b) {n:Nat} (h:n<=3):(skiesI b n).length<=3000:=by
 refine mT (wT (n:=12 ^ 2*3) fun k hk=>?_) ?_
 ·have:=List.mem_range.1 hk;exact mT (zg1 hb k 0 _ (Int.le_refl _)) (Nat.mul_le_mul_right _ (Nat.pow_le_pow_right dQ oQ))
 ·rw [List.length_range]; omega
theorem zam {b:SlB} (hb:SlBase b):(zG b).length<=3000:=mT (List.length_filter_le _ _) (zer hb (by have:=hb.di; omega))
def listM (l:List Bool):List Int:=((List.range 12).filter fun n=>l.getD n false).map fun (n:Nat)=>(n:Int)
def listI (l:List Bool) (i:Nat):List Int:=((List.range i).filter fun n=>l.getD n false).map fun (n:Nat)=>(n:Int)
theorem zgQ (l:List Bool) (i:Nat):listI l (i+1)=listI l i++if l.getD i false=true then [(i:Int)] else []:=by
 unfold listI;rw [List.range_succ,List.filter_append,lM];congr 1;by_cases h:l.getD i false=true
 ·rw [if_pos h,List.filter_cons,if_pos h]; rfl
 ·rw [if_neg h,List.filter_cons,if_neg h]; rfl
def keysH (b:SlB) (s:SkyR) (h:Nat):List (Int×Int):=(listM (fallsM b s h)).map fun n=>((h:Int),n)
def keysI (b:SlB) (s:SkyR) (h:Nat):List (Int×Int):=(List.range h).flatMap (keysH b s)
def keysS (b:SlB) (l:List SkyR):List (Int×Int):=l.flatMap fun s=>keysI b s b.suns.length
theorem zgP (b:SlB) (s:SkyR) (h:Nat):keysI b s (h+1)=keysI b s h++keysH b s h:=by
 unfold keysI;rw [List.range_succ,List.flatMap_append,List.flatMap_cons,List.flatMap_nil,lR]
theorem zlM (b:SlB) (l:List SkyR) (s:SkyR):keysS b (l++[s])=keysS b l++keysI b s b.suns.length:=by
 unfold keysS;rw [List.flatMap_append,List.flatMap_cons,List.flatMap_nil,lR]
theorem zd4 (b:SlB) (s:SkyR) (h:Nat):(keysH b s h).length<=12:=by
 unfold keysH listM;rw [lJ,lJ];exact mT (List.length_filter_le _ _) sQ
theorem zd5 (b:SlB) (s:SkyR) (h:Nat):(keysI b s h).length<=h*12:=by
 have:=wT (f:=keysH b s) (l:=List.range h) fun k _=>zd4 b s k;rwa [List.length_range] at this
theorem ziP {b:SlB} (hb:SlBase b) (l:List SkyR):(keysS b l).length<=l.length*48:=wT fun s _=>mT (zd5 b s _) (by have:=hb.nsu; omega)
def litK (b:SlB) (s:SkyR) (h n:Nat):Bool:=(fallsM b s h).getD n false
theorem zeF {h n:Int} {l:List Int}:(l.map fun k=>(h,k)).count (h,n)=l.count n:=by
 induction l with
 | nil=>rfl
 | cons x l ih=>simp [List.count_cons,ih]
theorem ze0 {h h' n:Int} (hne:h≠h') (l:List Int):(l.map fun k=>(h',k)).count (h,n)=0:=by
 rw [List.count_eq_zero];intro hm;obtain ⟨k,_,e⟩:=lY.1 hm;exact hne (congrArg Prod.fst e).symm
theorem zis {l:List Int} (hnd:l.Nodup) {n:Int} (h:n∈l):l.count n=1:=by
 induction l with
 | nil=>cases h
 | cons x l ih =>
  obtain ⟨h1,h2⟩:=List.nodup_cons.1 hnd;rw [List.count_cons];rcases lI.1 h with rfl | h
  ·rw [List.count_eq_zero.2 h1]; simp
  ·rw [ih h2 h,if_neg (by simp; exact fun e=>h1 (e ▸ h))]
theorem zhk {l:List Bool} {n:Nat} (hn:n<12):(listM l).count (n:Int)=if l.getD n false=true then 1 else 0:=by
 have hnd:(listM l).Nodup:=by
  unfold listM;refine List.Pairwise.map _ (R:=fun a b:Nat=>a≠b) (fun a b h=>by omega) ((List.nodup_range (n:=12)).filter _)
 split
 ·rename_i h;exact zis hnd (lY.2 ⟨n,List.mem_filter.2 ⟨List.mem_range.2 hn,h⟩,rfl⟩)
 ·rename_i h;rw [List.count_eq_zero];intro hm;obtain ⟨k,hk,e⟩:=lY.1 hm;have:k=n:=by omega
  subst this;exact h (List.mem_filter.1 hk).2
theorem zbr {b:SlB} {s:SkyR} {h n:Nat} (hn:n<12):∀ m,(keysI b s m).count ((h:Int),(n:Int))=if h<m/\litK b s h n=true then 1 else 0
 | 0=>by simp [keysI]
 | m+1=>by
  rw [zgP,List.count_append,zbr hn m];unfold keysH;by_cases hm:h=m
  ·subst hm;rw [zeF,zhk hn,if_neg oQ,mO];unfold litK;by_cases hl:(fallsM b s h).getD n false=true
   ·rw [if_pos hl,if_pos ⟨by omega,hl⟩]
   ·rw [if_neg hl,if_neg (fun h=>hl h.2)]
  ·rw [ze0 oQ,Nat.add_zero];by_cases hl:litK b s h n=true
   ·by_cases h1:h<m
    ·rw [if_pos ⟨h1,hl⟩,if_pos ⟨by omega,hl⟩]
    ·rw [if_neg (fun h=>h1 h.1),if_neg (fun h=>by omega)]
   ·rw [if_neg (fun h=>hl h.2),if_neg (fun h=>hl h.2)]
theorem zbs {b:SlB} {h n:Nat} (hh:h<b.suns.length) (hn:n<12) (l:List SkyR):(keysS b l).count ((h:Int),(n:Int))=(l.filter fun s=>litK b s h n).length:=by
 induction l with
 | nil=>rfl
 | cons s l ih =>
  have:keysS b (s::l)=keysI b s b.suns.length++keysS b l:=by unfold keysS; rw [List.flatMap_cons]
  rw [this,List.count_append,ih,zbr hn];by_cases hl:litK b s h n=true
  ·rw [if_pos ⟨hh,hl⟩,List.filter_cons,if_pos hl,lZ,Nat.add_comm]
  ·rw [if_neg (fun h=>hl h.2),List.filter_cons,if_neg hl,mO]
def oftenS (b:SlB) (h:Nat) (n:Nat):Nat:=(keysS b (zG b)).count ((h:Int),(n:Int))
def sureI (b:SlB) (h:Nat) (i:Nat):List Int:=((List.range i).filter fun n=>oftenS b h n==(zG b).length).map fun (n:Nat)=>(n:Int)
def sureM (b:SlB) (h:Nat):List Int:=sureI b h b.steps.toNat
theorem vV (b:SlB) (h i:Nat):sureI b h (i+1)=sureI b h i++if oftenS b h i=(zG b).length then [(i:Int)] else []:=by
 unfold sureI;rw [List.range_succ,List.filter_append,lM];congr 1;by_cases h1:oftenS b h i=(zG b).length
 ·rw [if_pos h1,List.filter_cons_of_pos (by simpa using h1)]; rfl
 ·rw [if_neg h1,List.filter_cons_of_neg (by simpa using h1)]; rfl
theorem zfZ {b:SlB} (hb:SlBase b) {h:Nat} (hh:h<b.suns.length) {n:Int}:n∈sureM b h↔∃ k:Nat,n=k/\k<b.steps.toNat/\∀ s∈zG b,litK b s h k=true:=by
 have hst:=hb.st;unfold sureM sureI;rw [lY];constructor
 ·rintro ⟨k,hk,rfl⟩;obtain ⟨h1,h2⟩:=List.mem_filter.1 hk;have h1:=List.mem_range.1 h1;refine ⟨k,rfl,h1,fun s hs=>?_⟩;unfold oftenS at h2;rw [zbs hh oQ] at h2;have h3:((zG b).filter fun s=>litK b s h k).length=(zG b).length:=by simpa using h2
  exact (List.length_filter_eq_length_iff.1 h3) s hs
 ·rintro ⟨k,rfl,h1,h2⟩;refine ⟨k,List.mem_filter.2 ⟨List.mem_range.2 h1,?_⟩,rfl⟩;unfold oftenS;rw [zbs hh oQ];have:=List.length_filter_eq_length_iff.2 h2;simpa using this
def watchS (b:SlB) (w:WatR):SlB:={ b with watches:=b.watches++[w] }
theorem zaq {b:SlB} (hb:SlBase b) (w:WatR):SlBase (watchS b w):=⟨hb.st,hb.di,hb.sp,hb.sh,hb.wd,hb.cl,hb.rg,hb.nsu,hb.sun,hb.ney,hb.eye⟩
theorem sky_w (b:SlB) (w:WatR):∀ (left:Nat) (step:Int) (d:List Bool),skyM (watchS b w) left step d=skyM b left step d
 | 0,_,_=>rfl
 | left+1,step,d=>by
  unfold skyM;show List.flatMap _ (List.range (b.steps - step).toNat)=_;congr 1;funext k;rw [sky_w b w left];rfl
theorem zmi (b:SlB) (w:WatR):skiesM (watchS b w)=skiesM b:=by
 unfold skiesM skiesI;show List.flatMap _ (List.range (b.dirty+1).toNat)=_;congr 1;funext k;exact sky_w b w k 0 zero12
theorem zfW {b:SlB} {w:WatR} {s:SkyR} (h:s∈zG (watchS b w)):s∈zG b:=by
 unfold zG at h ⊢;rw [zmi] at h;obtain ⟨h1,h2⟩:=List.mem_filter.1 h;refine List.mem_filter.2 ⟨h1,?_⟩;have:allRight (watchS b w) s=(allRight b s&&(rightS b s w&&true)):=by
  unfold allRight watchS;rw [List.all_append];rfl
 rw [this] at h2;exact (Bool.and_eq_true_iff.1 h2).1
theorem zjR {b:SlB} (hb:SlBase b) (w:WatR) {h:Nat} (hh:h<b.suns.length) {n:Int} (hn:n∈sureM b h):n∈sureM (watchS b w) h:=by
 obtain ⟨k,h1,h2,h3⟩:=(zfZ hb hh).1 hn;exact (zfZ (zaq hb w) hh).2 ⟨k,h1,h2,fun s hs=>h3 s (zfW hs)⟩
theorem zjO {b:SlB} {w:WatR} (h:zG (watchS b w)≠[]):zG b≠[]:=by
 obtain ⟨s,hs⟩:=List.exists_mem_of_ne_nil _ h;exact List.ne_nil_of_mem (zfW hs)
end Go.Vel
namespace Go.Vel
open Go Go.Conc Go.Proofs
def sunC (x:SunR):List AV:=[intA x.step,intA x.high]
def eyeC (x:EyeR):List AV:=[intA x.at0,intA x.high]
def watC (x:WatR):List AV:=[intA x.hour,intA x.step,zl x.lit]
def slC (b:SlB) (c s e w:Nat):List AV:=[intA b.steps,intA b.dirty,intA b.slope,intA b.lo,intA b.hi,.sl c 0 b.clean.length,intA b.rf,intA b.rh,intA b.cf,intA b.ch,.sl s 0 b.suns.length,.sl e 0 b.eyes.length,.sl w 0 b.watches.length]
abbrev clO (b:SlB):AObj:=.cells (b.clean.map intA) 3 false
abbrev suO (b:SlB):AObj:=.cells (b.suns.flatMap sunC) 291 false
abbrev eyO (b:SlB):AObj:=.cells (b.eyes.flatMap eyeC) 293 false
abbrev waO (b:SlB):AObj:=.cells (b.watches.flatMap watC) 76 false
def eyeI (b:SlB) (i:Nat):EyeR:=b.eyes.getD i default
def watI (b:SlB) (i:Nat):WatR:=b.watches.getD i default
theorem zdg {b:SlB} {i:Nat} (h:i<b.eyes.length):b.eyes[i]? =some (eyeI b i):=by
 unfold eyeI;rw [lE,lA h]; rfl
theorem uM {b:SlB} {i:Nat} (h:i<b.watches.length):b.watches[i]? =some (watI b i):=by
 unfold watI;rw [lE,lA h]; rfl
theorem za4 {b:SlB} {i:Nat} {n:Int} {e:TypeId} {rw':Bool} (h:i<b.suns.length) (hn:n=(i:Int)):z6 (.cells (b.suns.flatMap sunC) e rw') (0+n.toNat*2) 2=some (sunC (sunI b i)):=fl_at (c:=2) (fun _=>rfl) (zdz h) hn dQ
theorem zcq {b:SlB} {i:Nat} {n:Int} {e:TypeId} {rw':Bool} (h:i<b.eyes.length) (hn:n=(i:Int)):z6 (.cells (b.eyes.flatMap eyeC) e rw') (0+n.toNat*2) 2=some (eyeC (eyeI b i)):=fl_at (c:=2) (fun _=>rfl) (zdg h) hn dQ
theorem zc6 {b:SlB} {i:Nat} {n:Int} {e:TypeId} {rw':Bool} (h:i<b.watches.length) (hn:n=(i:Int)):z6 (.cells (b.watches.flatMap watC) e rw') (0+n.toNat*3) 3=some (watC (watI b i)):=fl_at (c:=3) (fun _=>rfl) (uM h) hn dQ
theorem zfY {b:SlB} (hb:SlBase b) {i:Nat} (h:i<b.suns.length):0<=(sunI b i).step/\(sunI b i).step<b.steps /\ -9<=(sunI b i).high/\(sunI b i).high<=9:=hb.sun _ (lN (zdz h))
theorem zmH {b:SlB} (hb:SlBase b) {i:Nat} (h:i<b.eyes.length):1 - b.rf<=(eyeI b i).at0/\(eyeI b i).at0<=b.rf - 1/\0<=(eyeI b i).high/\(eyeI b i).high<=60/\(eyeI b i).high<b.ch:=hb.eye _ (lN (zdg h))
def badBand (x y lo hi:Int):Bool := !(decide (lo<=x)&&decide (x<=y)&&decide (y<=hi))
def watBar (b:SlB):Int:=if b.watches.length>4 then 2 else if b.watches.all (watOk b)=true then 0 else 6
theorem zli {b:SlB} (h:watBar b=0):SlWat b:=by
 unfold watBar at h;split at h
 ·cases h
 ·rename_i h1;split at h
  ·rename_i h2;exact ⟨by omega,List.all_eq_true.1 h2⟩
  ·cases h
theorem zex {b:SlB} (h:SlWat b):watBar b=0:=by
 unfold watBar;rw [if_neg (by have:=h.len; omega),if_pos (List.all_eq_true.2 h.all)]
theorem zf7 {b:SlB} (h4:¬ b.watches.length>4) {i:Nat} (hi:i<b.watches.length) (h:watOk b (watI b i)=false):watBar b=6:=by
 unfold watBar;rw [if_neg h4,if_neg];intro ha;rw [List.all_eq_true.1 ha _ (lN (uM hi))] at h;cases h
theorem zeC {α:Type} {xs:List α} {p:α->Bool} {i:Nat} {x:α} (hx:xs[i]? =some x) (hn:(xs.take i).all p=true) (he:p x=true):(xs.take (i+1)).all p=true:=by
 rw [List.take_add_one,hx,List.all_append,hn];simp [he]
theorem zmr {b:SlB} {x:WatR} (h:x.hour<0\/(b.suns.length:Int) - 1<x.hour):watOk b x=false:=by
 have:(decide (0<=x.hour)&&decide (x.hour<=(b.suns.length:Int) - 1))=false:=by simp; omega
 unfold watOk;rw [this]; rfl
theorem zms {b:SlB} {x:WatR} (h:x.step<0\/b.steps - 1<x.step):watOk b x=false:=by
 have:(decide (0<=x.step)&&decide (x.step<=b.steps - 1))=false:=by simp; omega
 unfold watOk;rw [this,Bool.and_false]
def yn:AObj:=.cells [.fn 276 [] [],.fn 277 [] [],.fn 278 [] [],.fn 279 [] [],.fn 280 [] []] 295 false
instance:ArEl tp 295 5 294 false 1:={}
instance:BlOf tp 186 [(0,13)]:={}
instance:Cal tp 170:={}
instance:Cal tp 276:={}
instance:Cal tp 277:={}
instance:Cal tp 278:={}
instance:Cal tp 279:={}
instance:Cal tp 280:={}
instance:Cal tp 281:={}
instance:Cal tp 282:={}
instance:Cal tp 283:={}
instance:Cal tp 90:={}
instance:zn tp 186 0 0 true 13:={}
instance:zn tp 291 0 0 false 1:={}
instance:zn tp 291 1 1 false 1:={}
instance:zn tp 293 0 0 false 1:={}
instance:zn tp 293 1 1 false 1:={}
instance:zn tp 69 0 0 false 1:={}
instance:zn tp 69 1 1 false 1:={}
instance:zn tp 74 0 0 false 1:={}
instance:zn tp 74 1 1 false 1:={}
instance:zn tp 74 2 2 false 1:={}
instance:zn tp 74 3 3 true 2:={}
instance:zn tp 74 4 5 false 1:={}
instance:zn tp 74 5 6 true 2:={}
instance:zn tp 74 6 8 true 2:={}
instance:zn tp 74 7 10 false 1:={}
instance:zn tp 74 8 11 false 1:={}
instance:zn tp 74 9 12 false 1:={}
instance:zn tp 76 0 0 false 1:={}
instance:zn tp 76 1 1 false 1:={}
instance:zT tp 70 291 2:={}
instance:zT tp 71 293 2:={}
instance:zT tp 72 76 3:={}
instance:zd tp 186 true 13:={}
instance:zd tp 291 true 2:={}
instance:zd tp 293 true 2:={}
instance:zd tp 295 true 5:={}
instance:zd tp 70 false 1:={}
instance:zd tp 71 false 1:={}
instance:zd tp 72 false 1:={}
instance:zd tp 74 true 13:={}
instance:zd tp 76 true 3:={}
instance:TyZ tp 186 [.int .i64 0,.int .i64 0,.int .i64 0,.int .i64 0,.int .i64 0,.slice none 0 0,.int .i64 0,.int .i64 0,.int .i64 0,.int .i64 0,.slice none 0 0,.slice none 0 0,.slice none 0 0]:={}
instance:TyZA tp 291 [.v (.int .i64 0),.v (.int .i64 0)]:={}
instance:TyZA tp 293 [.v (.int .i64 0),.v (.int .i64 0)]:={}
instance:TyZA tp 76 [.v (.int .i64 0),.v (.int .i64 0),.v (.bool false)]:={}
instance:Und tp 70 (.slice 291):={}
instance:Und tp 71 (.slice 293):={}
instance:Und tp 72 (.slice 76):={}
theorem yS {main T} (hT:zk tp main T) {gm} {n lo hi:Int} :
  zh tp T gm 170 [intA n,intA lo,intA hi] [] (fun r K'=>r=zl (decide (lo<=n)&&decide (n<=hi))/\K'=[]):=by
 refine ze 15 hT Tryz.func170 fun Y hret=>?_;refine au 1711423542 ?_;refine bF 10 (fun g1_4=>?_) (fun g1_4=>?_)
 ·refine au 35260711 ?_;refine TK.rta hret ?_;exact ⟨by simp [zl, *],rfl⟩
 refine au 35250888 ?_;refine TK.rta hret ?_;exact ⟨by simp [zl, *],rfl⟩
theorem zjG {main T} (hT:zk tp main T) {gm} {x y lo hi:Int} :
  zh tp T gm 281 [.agg [intA x,intA y],intA lo,intA hi] [] (fun r K'=>r=zl (decide (lo<=x)&&decide (x<=y)&&decide (y<=hi))/\K'=[]):=by
 refine ze 24 hT Tryz.func281 fun Y hret=>?_;refine au 21042 ?_;intro j1 hj1;refine au 1769067014235 ?_;refine bF 11 (fun g1_5=>?_) (fun g1_5=>?_)
 ·refine au 12607690670690670 ?_;refine bF 18 (fun g1_12=>?_) (fun g1_12=>?_)
  ·refine au 3526071690670 ?_;refine bB hret [] ?_;exact ⟨by simp [zl, *],rfl⟩
  refine au 352508888 ?_;refine bB hret [] ?_;exact ⟨by simp [zl, *],rfl⟩
 refine au 352508888125088888 ?_;refine bB hret [] ?_;exact ⟨by simp [zl, *],rfl⟩
theorem uC {main T} (hT:zk tp main T) {gm} {b:SlB} {c s e w:Nat} {n:Int} (hs:0<=b.steps/\b.steps<=100) :
  zh tp T gm 283 [.agg (slC b c s e w),intA n] [] (fun r K'=>r=zl (decide (0<=n)&&decide (n<=b.steps - 1))/\K'=[]):=by
 refine ze 11 hT Tryz.func283 fun Y hret=>?_;refine au 21042 ?_;intro jb hjb;refine au 24069067067014235 ?_;refine bD Z Z Z Z (yS hT) ?_;rintro r1 K2 ⟨rfl,rfl⟩;refine au 35 ?_;refine bB hret [] ?_;exact ⟨rfl,rfl⟩
theorem zbF {main T} (hT:zk tp main T) {gm} {b:SlB} {c s e w:Nat} {n:Int} (hs:b.suns.length<=100) :
  zh tp T gm 90 [.agg (slC b c s e w),intA n] [] (fun r K'=>r=zl (decide (0<=n)&&decide (n<=(b.suns.length:Int) - 1))/\K'=[]):=by
 refine ze 12 hT Tryz.func90 fun Y hret=>?_;refine au 21042 ?_;intro jb hjb;refine au 24028069067067014235 ?_;refine bD Z Z Z Z (yS hT) ?_;rintro r1 K2 ⟨rfl,rfl⟩;refine au 35 ?_;refine bB hret [] ?_;exact ⟨rfl,rfl⟩
theorem zgv {main T} (hT:zk tp main T) {gm} {b:SlB} {c s e w:Nat} (hb:SlBase b) (hl:b.clean.length<=1000) :
  zh tp T gm 282 [.agg (slC b c s e w),.sl c 0 b.clean.length] [(c,clO b)] (fun r K'=>r=intA 0/\K'=[(c,clO b)]):=by
 refine ze 30 hT Tryz.func282 fun Y hret=>?_;refine au 0 ?_;have hst:=hb.st;have hI:=ym b.clean 3 false;refine au 21042 ?_;intro jb hjb;refine au 13031280142235 ?_;refine bA [1,2,7,8,9] ?_;refine bE (fun n env K=>∃ (i:Nat),n=b.clean.length - i/\i<=b.clean.length/\env=zK 30 [(1,.sl c 0 b.clean.length),(2,.ptr jb 0),(7,.sl c 0 b.clean.length),(8,intA b.clean.length),(9,intA i)]/\K=[(jb,.cells (slC b c s e w) 186 true),(c,clO b)]) (b.clean.length) ⟨0,rfl,mN _,rfl,rfl⟩ fun n env K hJ hnext=>?_;obtain ⟨i,rfl,hi,rfl,rfl⟩:=hJ;refine au 923742 ?_;constructor<;>intro hc0
 ·have hil:i<b.clean.length:=by simp at hc0; omega
  obtain ⟨q1,q2,q3⟩:=hb.cl i hil;refine au 3601421302120 ?_;refine bH Z (zm Z Z zd.h mQ (hI i hil)) ?_;refine au 1680422355 ?_;refine bD Z Z Z Z (uC hT oQ) ?_;rintro r1 K2 ⟨rfl,rfl⟩;refine au 93300 ?_;constructor<;>intro hc1
  ·simp at hc1; omega
  refine au 17142120 ?_;refine bF 20 (fun g6_3=>?_) (fun g6_3=>?_)
  ·have h0:0<i:=by simp at g6_3; omega
   refine au 360240111 ?_;refine bH Z (zm Z Z zd.h mQ (zgW hI hil h0)) ?_;refine au 932607 ?_;constructor<;>intro hc2
   ·have:=q3 h0; simp at hc2; omega
   refine au 312304140120 ?_;refine bA [1,2,7,8,9] ?_;refine bC [(jb,_),(c,_)] ?_;exact hnext _ _ _ oQ ⟨i+1,rfl,oQ,rfl,rfl⟩
  refine au 31230414012019032508888888 ?_;refine bA [1,2,7,8,9] ?_;refine bC [(jb,_),(c,_)] ?_;exact hnext _ _ _ oQ ⟨i+1,rfl,oQ,rfl,rfl⟩
 skip;refine au 3542160 ?_;refine bB hret [(c,_)] ?_;exact ⟨rfl,rfl⟩
theorem zh2 {main T} (hT:zk tp main T) {gm} {b:SlB} {c s e w:Nat} (hb:SlBase b) (hl:b.clean.length<=1000) :
  zh tp T gm 276 [.agg (slC b c s e w)] [(c,clO b)] (fun r K'=>r=intA 0/\K'=[(c,clO b)]):=by
 refine ze 46 hT Tryz.func276 fun Y hret=>?_;refine au 0 ?_;have h1:=hb.st;have h2:=hb.di;have h3:=hb.sp;have h4:=hb.sh;have h5:=hb.wd;refine au 21042 ?_;intro jb hjb;refine au 69067067042235 ?_;refine bD Z Z Z Z (yS hT) ?_;rintro r1 K2 ⟨rfl,rfl⟩;refine au 1300 ?_;refine bF 8 (fun g1_6=>?_) (fun g1_6=>?_)
 ·simp at g1_6; omega
 refine au 690670670 ?_;refine bD Z Z Z Z (yS hT) ?_;rintro r4 K5 ⟨rfl,rfl⟩;refine au 1250300 ?_;refine bF 15 (fun g1_13=>?_) (fun g1_13=>?_)
 ·simp at g1_13; omega
 refine au 690670670 ?_;refine bD Z Z Z Z (yS hT) ?_;rintro r7 K8 ⟨rfl,rfl⟩;refine au 1250300 ?_;refine bF 22 (fun g1_20=>?_) (fun g1_20=>?_)
 ·simp at g1_20; omega
 refine au 680670670 ?_;refine bD Z Z Z Z (zjG hT) ?_;rintro r10 K11 ⟨rfl,rfl⟩;refine au 1250300 ?_;refine bF 29 (fun g1_27=>?_) (fun g1_27=>?_)
 ·simp at g1_27; omega
 refine au 932507240690670670670690670670670 ?_;constructor<;>intro hc0
 ·simp at hc0; omega
 refine au 69067067068042120 ?_;refine bD Z Z Z Z (zgv hT hb hl) ?_;rintro r13 K14 ⟨rfl,rfl⟩;refine au 35 ?_;refine bB hret [(c,_)] ?_;exact ⟨rfl,rfl⟩
theorem zgw {main T} (hT:zk tp main T) {gm} {b:SlB} {c s e w:Nat} (hb:SlBase b) :
  zh tp T gm 277 [.agg (slC b c s e w)] [] (fun r K'=>r=intA 0/\K'=[]):=by
 refine ze 46 hT Tryz.func277 fun Y hret=>?_;refine au 0 ?_;have h1:=hb.rg;refine au 21042 ?_;intro jb hjb;refine au 69067067067042235 ?_;refine bD Z Z Z Z (yS hT) ?_;rintro r1 K2 ⟨rfl,rfl⟩;refine au 1300 ?_;refine bF 9 (fun g1_7=>?_) (fun g1_7=>?_)
 ·simp at g1_7; omega
 refine au 690670670670 ?_;refine bD Z Z Z Z (yS hT) ?_;rintro r4 K5 ⟨rfl,rfl⟩;refine au 1250300 ?_;refine bF 17 (fun g1_15=>?_) (fun g1_15=>?_)
 ·simp at g1_15; omega
 refine au 690670670670690670670670 ?_;refine bD Z Z Z Z (yS hT) ?_;rintro r7 K8 ⟨rfl,rfl⟩;refine au 1250300 ?_;refine bF 29 (fun g1_27=>?_) (fun g1_27=>?_)
 ·simp at g1_27; omega
 refine au 690670670670 ?_;refine bD Z Z Z Z (yS hT) ?_;rintro r10 K11 ⟨rfl,rfl⟩;refine au 93250300 ?_;constructor<;>intro hc0
 ·simp at hc0; omega
 refine au 937690670670670690670670670422120 ?_;constructor<;>intro hc1
 ·simp at hc1; omega
 refine au 3542120 ?_;refine bB hret [] ?_;exact ⟨rfl,rfl⟩
theorem zjL {main T} (hT:zk tp main T) {gm} {b:SlB} {c s e w:Nat} (hb:SlBase b) :
  zh tp T gm 278 [.agg (slC b c s e w)] [(s,suO b)] (fun r K'=>r=intA 0/\K'=[(s,suO b)]):=by
 refine ze 31 hT Tryz.func278 fun Y hret=>?_;refine au 0 ?_;have h1:=hb.nsu;have hst:=hb.st;refine au 21042 ?_;intro jb hjb;refine au 28069067067042235 ?_;refine bD Z Z Z Z (yS hT) ?_;rintro r1 K2 ⟨rfl,rfl⟩;refine au 93300 ?_;constructor<;>intro hc0
 ·simp at hc0; omega
 refine au 13031280690670670422120 ?_;refine bA [1,13,14,15] ?_;refine bE (fun n env K=>∃ (i:Nat),n=b.suns.length - i/\i<=b.suns.length/\env=zK 31 [(1,.ptr jb 0),(13,.sl s 0 b.suns.length),(14,intA b.suns.length),(15,intA i)]/\K=[(jb,.cells (slC b c s e w) 186 true),(s,suO b)]) (b.suns.length) ⟨0,rfl,mN _,rfl,rfl⟩ fun n env K hI hnext=>?_;obtain ⟨i,rfl,hi,rfl,rfl⟩:=hI;refine au 923742 ?_;constructor<;>intro hc1
 ·have hil:i<b.suns.length:=by simp at hc1; omega
  have hq:=zfY hb hil;refine au 360421302120 ?_;refine bH Z (zN Z Z zd.h mQ (za4 hil Z)) ?_;refine au 220 ?_;intro jx hjx;refine au 690670680421303170 ?_;refine bD Z Z Z Z (uC hT oQ) ?_;rintro r4 K5 ⟨rfl,rfl⟩;refine au 935300 ?_;constructor<;>intro hc2
  ·simp at hc2; omega
  refine au 69067042 ?_;refine bD Z Z Z Z (yS hT) ?_;rintro r7 K8 ⟨rfl,rfl⟩;refine au 935300 ?_;constructor<;>intro hc3
  ·simp at hc3; omega
  refine au 312304140140120 ?_;refine bA [1,13,14,15] ?_;refine bC [(jb,_),(s,_)] ?_;exact hnext _ _ _ oQ ⟨i+1,rfl,oQ,rfl,rfl⟩
 refine au 3542160 ?_;refine bB hret [(s,_)] ?_;exact ⟨rfl,rfl⟩
theorem zjH {main T} (hT:zk tp main T) {gm} {b:SlB} {c s e w:Nat} (hb:SlBase b) :
  zh tp T gm 279 [.agg (slC b c s e w)] [(e,eyO b)] (fun r K'=>r=intA 0/\K'=[(e,eyO b)]):=by
 refine ze 48 hT Tryz.func279 fun Y hret=>?_;refine au 0 ?_;have h1:=hb.ney;have hst:=hb.st;have hrg:=hb.rg;refine au 21042 ?_;intro jb hjb;refine au 93728069067067042235 ?_;constructor<;>intro hc0
 ·simp at hc0; omega
 refine au 13031280690670670422120 ?_;refine bA [1,12,13,14] ?_;refine bE (fun n env K=>∃ (i:Nat),n=b.eyes.length - i/\i<=b.eyes.length/\env=zK 48 [(1,.ptr jb 0),(12,.sl e 0 b.eyes.length),(13,intA b.eyes.length),(14,intA i)]/\K=[(jb,.cells (slC b c s e w) 186 true),(e,eyO b)]) (b.eyes.length) ⟨0,rfl,mN _,rfl,rfl⟩ fun n env K hI hnext=>?_;obtain ⟨i,rfl,hi,rfl,rfl⟩:=hI;refine au 923742 ?_;constructor<;>intro hc1
 ·have hil:i<b.eyes.length:=by simp at hc1; omega
  have hq:=zmH hb hil;refine au 360421302120 ?_;refine bH Z (zN Z Z zd.h mQ (zcq hil Z)) ?_;refine au 220 ?_;intro jx hjx;refine au 240690670670670240690670670670690670421303170 ?_;refine bD Z Z Z Z (yS hT) ?_;rintro r1 K2 ⟨rfl,rfl⟩;refine au 1300 ?_;refine bF 33 (fun g6_15=>?_) (fun g6_15=>?_)
  ·simp at g6_15; omega
  refine au 690670 ?_;refine bD Z Z Z Z (yS hT) ?_;rintro r4 K5 ⟨rfl,rfl⟩;refine au 935250300 ?_;constructor<;>intro hc2
  ·simp at hc2; omega
  refine au 935769067067067069067042 ?_;constructor<;>intro hc3
  ·simp at hc3; omega
  refine au 312304140140120 ?_;refine bA [1,12,13,14] ?_;refine bC [(jb,_),(e,_)] ?_;exact hnext _ _ _ oQ ⟨i+1,rfl,oQ,rfl,rfl⟩
 refine au 3542160 ?_;refine bB hret [(e,_)] ?_;exact ⟨rfl,rfl⟩
theorem zfU {main T} (hT:zk tp main T) {gm} {b:SlB} {c s e w:Nat} (hb:SlBase b) :
  zh tp T gm 280 [.agg (slC b c s e w)] [(w,waO b)] (fun r K'=>r=intA (watBar b)/\K'=[(w,waO b)]):=by
 refine ze 31 hT Tryz.func280 fun Y hret=>?_;refine au 0 ?_;have h1:=hb.nsu;have hst:=hb.st;refine au 21042 ?_;intro jb hjb;refine au 93728069067067042235 ?_;constructor<;>intro hc0
 ·refine au 3542 ?_;refine bB hret [(w,_)] ?_;exact ⟨by unfold watBar; rw [if_pos (by simp at hc0; omega)]; rfl,rfl⟩
 have hl4:¬ b.watches.length>4:=by simp at hc0; omega
 refine au 13031280690670670422120 ?_;refine bA [1,12,13,14] ?_;refine bE (fun n env K=>∃ (i:Nat),n=b.watches.length - i/\i<=b.watches.length/\(b.watches.take i).all (watOk b)=true/\env=zK 31 [(1,.ptr jb 0),(12,.sl w 0 b.watches.length),(13,intA b.watches.length),(14,intA i)]/\K=[(jb,.cells (slC b c s e w) 186 true),(w,waO b)]) (b.watches.length) ⟨0,rfl,mN _,rfl,rfl,rfl⟩ fun n env K hI hnext=>?_;obtain ⟨i,rfl,hi,hall,rfl,rfl⟩:=hI;refine au 923742 ?_;constructor<;>intro hc1
 ·have hil:i<b.watches.length:=by simp at hc1; omega
  refine au 360421302120 ?_;refine bH Z (zN Z Z zd.h mQ (zc6 hil Z)) ?_;refine au 220 ?_;intro jx hjx;refine au 690670680423170 ?_;refine bD Z Z Z Z (zbF hT oQ) ?_;rintro r1 K2 ⟨rfl,rfl⟩;refine au 1300 ?_;refine bF 23 (fun g6_6=>?_) (fun g6_6=>?_)
  ·refine au 3542180326088888 ?_;refine bB hret [(w,_)] ?_;exact ⟨by rw [zf7 hl4 hil (zmr (by simpa using g6_6))]; rfl,rfl⟩
  refine au 690670680 ?_;refine bD Z Z Z Z (uC hT oQ) ?_;rintro r4 K5 ⟨rfl,rfl⟩;refine au 93250300 ?_;constructor<;>intro hc2
  ·refine au 3542 ?_;refine bB hret [(w,_)] ?_;exact ⟨by rw [zf7 hl4 hil (zms (by simpa using hc2))]; rfl,rfl⟩
  refine au 312304140120 ?_;refine bA [1,12,13,14] ?_;refine bC [(jb,_),(w,_)] ?_;exact hnext _ _ _ oQ ⟨i+1,rfl,oQ,zeC (uM hil) hall (by unfold watOk; simp_all),rfl,rfl⟩
 obtain rfl:i=b.watches.length:=by simp at hc1; omega
 refine au 3542160 ?_;refine bB hret [(w,_)] ?_;rw [lW] at hall;exact ⟨by unfold watBar; rw [if_neg hl4,if_pos hall]; rfl,rfl⟩
theorem zal {main:Bool} {T:Goroutine->Hp->Prop} (hT:zk tp main T)  {b:SlB} {c s e w:Nat} (hb:SlBase b) (hl:b.clean.length<=1000) :
  zh tp T gmS 85 [.agg (slC b c s e w)] [(6,yn),(c,clO b),(s,suO b),(e,eyO b),(w,waO b)] (fun r K'=>r=intA (watBar b)/\K'=[(6,yn),(c,clO b),(s,suO b),(e,eyO b),(w,waO b)]):=by
 refine ze 18 hT Tryz.func85 fun Y hret=>?_;refine au 21042 ?_;intro jb hjb;refine au 1303168042235 ?_;refine TK.loop ?_;refine au 923742 ?_;refine ⟨fun k0=>?_,fun k0=>?_⟩
 ·
  refine au 421302120 ?_;refine bH Z (kU Z Z Z ArEl.h oQ oQ Z) ?_;refine au 68014235 ?_;refine bH Z (yq (l:=[_,_,_,_,_,_,_,_,_,_,_,_,_]) Z TyZ.h BlOf.h Z) ?_;refine bD Z Z Z Z (zh2 hT hb hl) ?_;rintro r1 K2 ⟨rfl,rfl⟩;refine au 93714235 ?_;refine ⟨fun k1=>?_,fun k1=>?_⟩
  ·exact absurd k1 dQ
  skip;refine au 312304140120 ?_;refine TK.inLoop ?_;refine au 923742 ?_;refine ⟨fun k0=>?_,fun k0=>?_⟩
  ·
   refine au 421302120 ?_;refine bH Z (kU Z Z Z ArEl.h oQ oQ Z) ?_;refine au 68014235 ?_;refine bH Z (yq (l:=[_,_,_,_,_,_,_,_,_,_,_,_,_]) Z TyZ.h BlOf.h Z) ?_;refine bD Z Z Z Z (zgw hT (c:=c) (s:=s) (e:=e) (w:=w) hb) ?_;rintro r4 K5 ⟨rfl,rfl⟩;refine au 93714235 ?_;refine ⟨fun k1=>?_,fun k1=>?_⟩
   ·exact absurd k1 dQ
   skip;refine au 312304140120 ?_;refine TK.inLoop ?_;refine au 923742 ?_;refine ⟨fun k0=>?_,fun k0=>?_⟩
   ·
    refine au 421302120 ?_;refine bH Z (kU Z Z Z ArEl.h oQ oQ Z) ?_;refine au 68014235 ?_;refine bH Z (yq (l:=[_,_,_,_,_,_,_,_,_,_,_,_,_]) Z TyZ.h BlOf.h Z) ?_;refine bD Z Z Z Z (zjL hT hb) ?_;rintro r7 K8 ⟨rfl,rfl⟩;refine au 93714235 ?_;refine ⟨fun k1=>?_,fun k1=>?_⟩
    ·exact absurd k1 dQ
    skip;refine au 312304140120 ?_;refine TK.inLoop ?_;refine au 923742 ?_;refine ⟨fun k0=>?_,fun k0=>?_⟩
    ·
     refine au 421302120 ?_;refine bH Z (kU Z Z Z ArEl.h oQ oQ Z) ?_;refine au 68014235 ?_;refine bH Z (yq (l:=[_,_,_,_,_,_,_,_,_,_,_,_,_]) Z TyZ.h BlOf.h Z) ?_;refine bD Z Z Z Z (zjH hT hb) ?_;rintro r10 K11 ⟨rfl,rfl⟩;refine au 93714235 ?_;refine ⟨fun k1=>?_,fun k1=>?_⟩
     ·exact absurd k1 dQ
     skip;refine au 312304140120 ?_;refine TK.inLoop ?_;refine au 923742 ?_;refine ⟨fun k0=>?_,fun k0=>?_⟩
     ·
      refine au 421302120 ?_;refine bH Z (kU Z Z Z ArEl.h oQ oQ Z) ?_;refine au 68014235 ?_;refine bH Z (yq (l:=[_,_,_,_,_,_,_,_,_,_,_,_,_]) Z TyZ.h BlOf.h Z) ?_;refine bD Z Z Z Z (zfU hT hb) ?_;rintro r13 K14 ⟨rfl,rfl⟩;refine au 93714235 ?_;refine ⟨fun k1=>?_,fun k1=>?_⟩
      ·
       refine au 35142 ?_;refine bB hret [(6,_),(c,_),(s,_),(e,_),(w,_)] ?_;exact ⟨rfl,rfl⟩
      have hw0:watBar b=0:=by simpa using k1
      refine au 312304140120 ?_;refine TK.inLoop ?_;refine au 923742 ?_;refine ⟨fun k0=>?_,fun k0=>?_⟩
      ·exact absurd k0 dQ
      refine au 3542160 ?_;refine bB hret [(6,_),(c,_),(s,_),(e,_),(w,_)] ?_;exact ⟨by rw [hw0]; rfl,rfl⟩
     exact absurd k0 dQ
    exact absurd k0 dQ
   exact absurd k0 dQ
  exact absurd k0 dQ
 exact absurd k0 dQ
def bkS (n:Int):Bk:=⟨n,0,0,0,[],[]⟩
structure SlRound (b:SlB):Prop where
 st:4<=b.steps/\b.steps<=12
 di:0<=b.dirty/\b.dirty<=2
 sp:1<=b.slope/\b.slope<=4
 sh : -3<=b.lo/\b.lo<=b.hi/\b.hi<=3
 wd:b.hi - b.lo<3
 cl:∀ i (h:i<b.clean.length),0<=b.clean[i]/\b.clean[i]<b.steps/\∀ h0:0<i,b.clean[i - 1]'oQ<b.clean[i]
 rg:2<=b.rf/\b.rf<=30/\2<=b.rh/\b.rh<=60/\0<=b.cf/\b.cf<=b.rf/\1<=b.ch/\b.ch<=60/\b.ch<b.rh
theorem zj7 {n:Int} {xs:List Int} (h:firstNZ (barH (bkS n) xs) xs.length=0) (i:Nat) (hi:i<xs.length):0<=xs[i]/\xs[i]<n/\∀ h0:0<i,xs[i - 1]'oQ<xs[i]:=by
 have h1:=wS h i hi;unfold barH at h1;rw [lA hi] at h1;dsimp only at h1;split at h1
 ·cases h1
 ·rename_i h2;have h3:zF (bkS n) xs[i]=true:=by simpa using h2
  unfold zF bkS at h3;simp at h3;split at h1
  ·cases h1
  ·rename_i h4;refine ⟨h3.1,oQ,fun h0=>?_⟩;rw [lA (show i - 1<xs.length by omega)] at h4;simp at h4;have:=h4 h0;omega
instance:Cal tp 158:={}
instance:Cal tp 159:={}
instance:Cal tp 160:={}
instance:Cal tp 198:={}
instance:Cal tp 82:={}
instance:Cal tp 83:={}
theorem zgy {main T} (hT:zk tp main T) {gm} {b:SlB} {c s e w:Nat} (hl:b.clean.length<=1000) :
  zh tp T gm 158 [.agg (slC b c s e w)] [(c,clO b)] (fun r K'=>(∃ z,r=intA z/\(z=0->SlRound b))/\K'=[(c,clO b)]):=by
 refine ze 80 hT Tryz.func158 fun Y hret=>?_;refine au 21042 ?_;intro jb hjb;refine au 69067042235 ?_;refine bD Z Z Z Z (yi hT) ?_;rintro r1 K2 ⟨rfl,rfl⟩;refine au 1300 ?_;refine bF 8 (fun g1_5=>?_) (fun g1_5=>?_)
 ·refine au 3542180326088888888126088881260888812608888 ?_;refine bB hret [(c,_)] ?_;exact ⟨⟨1,rfl,fun h=>by cases h⟩,rfl⟩
 refine au 690670 ?_;refine bD Z Z Z Z (yi hT) ?_;rintro r4 K5 ⟨rfl,rfl⟩;refine au 1250300 ?_;refine bF 14 (fun g1_11=>?_) (fun g1_11=>?_)
 ·refine au 35421803260888888881260888812608888 ?_;refine bB hret [(c,_)] ?_;exact ⟨⟨1,rfl,fun h=>by cases h⟩,rfl⟩
 refine au 690670 ?_;refine bD Z Z Z Z (yi hT) ?_;rintro r7 K8 ⟨rfl,rfl⟩;refine au 1250300 ?_;refine bF 20 (fun g1_17=>?_) (fun g1_17=>?_)
 ·refine au 354218032608888888812608888 ?_;refine bB hret [(c,_)] ?_;exact ⟨⟨1,rfl,fun h=>by cases h⟩,rfl⟩
 refine au 680670 ?_;refine bD Z Z Z Z (zd3 hT) ?_;rintro r10 K11 ⟨rfl,rfl⟩;refine au 1250300 ?_;refine bF 26 (fun g1_23=>?_) (fun g1_23=>?_)
 ·refine au 3542180326088888888 ?_;refine bB hret [(c,_)] ?_;exact ⟨⟨1,rfl,fun h=>by cases h⟩,rfl⟩
 refine au 690670670690670670 ?_;refine bH Z (q_sub Z Z Z (by simp [insideM] at g1_23; omega)) ?_;refine au 932507 ?_;constructor<;>intro hc0
 ·refine au 3542 ?_;refine bB hret [(c,_)] ?_;exact ⟨⟨1,rfl,fun h=>by cases h⟩,rfl⟩
 refine au 690670690670422120 ?_;refine bD Z Z Z Z (zir hT (b:=bkS b.steps) (s:=0) (e:=0) (by simp at g1_5; show 0<=b.steps/\b.steps<=16; omega) (ym b.clean 3 false) hl) ?_;rintro r13 K14 ⟨rfl,rfl⟩;refine au 93714235 ?_;constructor<;>intro hc1
 ·refine au 35142 ?_;refine bB hret [(c,_)] ?_;exact ⟨⟨_,rfl,fun h=>absurd h (by simpa using hc1)⟩,rfl⟩
 refine au 690670670422120 ?_;refine bD Z Z Z Z (yi hT) ?_;rintro r16 K17 ⟨rfl,rfl⟩;refine au 1300 ?_;refine bF 49 (fun g6_6=>?_) (fun g6_6=>?_)
 ·refine au 3542180326088888126088888888126088888 ?_;refine bB hret [(c,_)] ?_;exact ⟨⟨1,rfl,fun h=>by cases h⟩,rfl⟩
 refine au 690670670 ?_;refine bD Z Z Z Z (yi hT) ?_;rintro r19 K20 ⟨rfl,rfl⟩;refine au 1250300 ?_;refine bF 56 (fun g6_13=>?_) (fun g6_13=>?_)
 ·refine au 3542180326088888126088888888 ?_;refine bB hret [(c,_)] ?_;exact ⟨⟨1,rfl,fun h=>by cases h⟩,rfl⟩
 refine au 690670670 ?_;refine bH Z (zg Z Z zn.h dQ) ?_;refine au 690670 ?_;refine bD Z Z Z Z (yi hT) ?_;rintro r22 K23 ⟨rfl,rfl⟩;refine au 1250300 ?_;refine bF 66 (fun g6_23=>?_) (fun g6_23=>?_)
 ·refine au 3542180326088888 ?_;refine bB hret [(c,_)] ?_;exact ⟨⟨1,rfl,fun h=>by cases h⟩,rfl⟩
 refine au 690670670 ?_;refine bD Z Z Z Z (yi hT) ?_;rintro r25 K26 ⟨rfl,rfl⟩;refine au 93250300 ?_;constructor<;>intro hc2
 ·refine au 3542 ?_;refine bB hret [(c,_)] ?_;exact ⟨⟨1,rfl,fun h=>by cases h⟩,rfl⟩
 refine au 937690670670690670670422120 ?_;constructor<;>intro hc3
 ·refine au 3542 ?_;refine bB hret [(c,_)] ?_;exact ⟨⟨7,rfl,fun h=>by cases h⟩,rfl⟩
 refine au 3542120 ?_;refine bB hret [(c,_)] ?_;exact ⟨⟨0,rfl,fun _=>⟨by simp at g1_5; omega,by simp at g1_11; omega,by simp at g1_17; omega,by simp [insideM] at g1_23; omega,by simp at hc0; omega,zj7 (by simpa using hc1),by simp at g6_6 g6_13 g6_23 hc2 hc3; omega⟩⟩,rfl⟩
theorem zaW {main T} (hT:zk tp main T) {gm} {b:SlB} {c s e w:Nat} {n:Int} (hs:0<=b.steps/\b.steps<=100) :
  zh tp T gm 159 [.agg (slC b c s e w),intA n] [] (fun r K'=>r=zl (decide (0<=n)&&decide (n<=b.steps - 1))/\K'=[]):=by
 refine ze 10 hT Tryz.func159 fun Y hret=>?_;refine au 21042 ?_;intro jb hjb;refine au 24069067014235 ?_;refine bD Z Z Z Z (yi hT) ?_;rintro r1 K2 ⟨rfl,rfl⟩;refine au 35 ?_;refine bB hret [] ?_;exact ⟨rfl,rfl⟩
theorem zfS {main T} (hT:zk tp main T) {gm} {b:SlB} {c s e w:Nat} {n:Int} (hs:b.suns.length<=100) :
  zh tp T gm 160 [.agg (slC b c s e w),intA n] [] (fun r K'=>r=zl (decide (0<=n)&&decide (n<=(b.suns.length:Int) - 1))/\K'=[]):=by
 refine ze 11 hT Tryz.func160 fun Y hret=>?_;refine au 21042 ?_;intro jb hjb;refine au 24028069067014235 ?_;refine bD Z Z Z Z (yi hT) ?_;rintro r1 K2 ⟨rfl,rfl⟩;refine au 35 ?_;refine bB hret [] ?_;exact ⟨rfl,rfl⟩
theorem zgu {main T} (hT:zk tp main T) {gm} {b:SlB} {c s e w:Nat} (hl:b.clean.length<=20) (hl2:b.suns.length<=20) (hl3:b.eyes.length<=20) (hl4:b.watches.length<=20) :
  zh tp T gm 83 [.agg (slC b c s e w)] [(c,clO b),(s,suO b),(e,eyO b),(w,waO b)] (fun r K'=>(∃ z,r=intA z/\(z=0->SlBase b/\SlWat b))/\K'=[(c,clO b),(s,suO b),(e,eyO b),(w,waO b)]):=by
 refine ze 119 hT Tryz.func83 fun Y hret=>?_;refine au 21042 ?_;intro jb hjb;refine au 68042235 ?_;refine bD Z Z Z Z (zgy hT oQ) ?_;rintro r1 K2 ⟨⟨z,rfl,hz⟩,rfl⟩;refine au 0 ?_;refine TK.perm (K':=[(jb,_),(c,_),(s,_),(e,_),(w,_)]) (List.Perm.swap _ _ _) ?_;refine au 93714235 ?_;constructor<;>intro hc0
 ·refine au 35142 ?_;refine bB hret [(c,_),(s,_),(e,_),(w,_)] ?_;exact ⟨⟨_,rfl,fun h=>absurd h (by simpa using hc0)⟩,rfl⟩
 have hrr:=hz (by simpa using hc0);have hst:=hrr.st;have hrg:=hrr.rg;refine au 280690670422120 ?_;refine bD Z Z Z Z (yi hT) ?_;rintro r4 K5 ⟨rfl,rfl⟩;refine au 93300 ?_;constructor<;>intro hc1
 ·refine au 3542 ?_;refine bB hret [(c,_),(s,_),(e,_),(w,_)] ?_;exact ⟨⟨2,rfl,fun h=>by cases h⟩,rfl⟩
 have hn1:1<=b.suns.length/\b.suns.length<=4:=by simp at hc1; omega
 refine au 13035422120 ?_;refine bA [1,4] ?_;refine bE (fun n env K=>∃ (i:Nat),n=b.suns.length - i/\i<=b.suns.length/\(∀ x∈b.suns.take i,0<=x.step/\x.step<b.steps /\ -9<=x.high/\x.high<=9)/\env=zK 119 [(1,.ptr jb 0),(4,intA i)]/\K=[(jb,.cells (slC b c s e w) 74 true),(c,clO b),(s,suO b),(e,eyO b),(w,waO b)]) (b.suns.length) ⟨0,rfl,mN _,fun x hx=>by simp at hx,rfl,rfl⟩ fun n env K hI hnext=>?_;obtain ⟨i,rfl,hi,hsu,rfl,rfl⟩:=hI;refine au 9372806906701422 ?_;constructor<;>intro hc2
 ·have hil:i<b.suns.length:=by simp at hc2; omega
  refine au 221302120 ?_;refine TK.dq [0,1,2,3,4,5,6,7,8] ?_;refine ad [[12,1],[3,1],[10,25],[1,4],[2,26,27],[3,28]] ?_;refine TD.y [29] Z (hq:=zm Z Z zd.h (mC _) (kA (c:=0) (za4 hil Z) dQ Z)) (h:=?_);refine bQ (pend':=[⟨5,[28],[]⟩,⟨4,[26,27],[]⟩,⟨3,[4],[]⟩,⟨2,[25],[(_,_)]⟩,⟨1,[1],[]⟩]) [24,30] Z Z Z Z Z (zaW hT oQ) (fun r7 K8 h9=>⟨?_,?_⟩)
  ·rcases h9 with ⟨rfl,rfl⟩
   all_goals simp
  obtain ⟨rfl,rfl⟩:=h9;try simp only [cA]
  refine bS tQ ?_;refine bU [31] Z (q_not Z Z) ?_;refine ad [[14]] ?_;refine au 9 ?_;constructor<;>intro hc3
  ·refine au 3542 ?_;refine bB hret [(c,_),(s,_),(e,_),(w,_)] ?_;exact ⟨⟨6,rfl,fun h=>by cases h⟩,rfl⟩
  refine au 670360169067042120 ?_;refine bH Z (zm Z Z zd.h mQ (kA (c:=1) (za4 hil Z) dQ Z)) ?_;refine bD Z Z Z Z (yi hT) ?_;rintro r10 K11 ⟨rfl,rfl⟩;refine au 93300 ?_;constructor<;>intro hc4
  ·refine au 3542 ?_;refine bB hret [(c,_),(s,_),(e,_),(w,_)] ?_;exact ⟨⟨1,rfl,fun h=>by cases h⟩,rfl⟩
  refine au 3523014140120 ?_;refine bA [1,4] ?_;refine bC [(jb,_),(c,_),(s,_),(e,_),(w,_)] ?_;exact hnext _ _ _ oQ ⟨i+1,rfl,oQ,fun x hx=>by
   rw [List.take_add_one,zdz hil] at hx;rcases lT.1 hx with hx | hx
   ·exact hsu x hx
   ·simp at hx; subst hx; simp at hc3 hc4; omega,rfl,rfl⟩
 obtain rfl:i=b.suns.length:=by simp at hc2; omega
 refine au 937280690670422160 ?_;constructor<;>intro hc5
 ·refine au 3542 ?_;refine bB hret [(c,_),(s,_),(e,_),(w,_)] ?_;exact ⟨⟨2,rfl,fun h=>by cases h⟩,rfl⟩
 have hn2:b.eyes.length<=3:=by simp at hc5; omega
 refine au 13035422120 ?_;refine bA [1,5] ?_;refine bE (fun n env K=>∃ (i:Nat),n=b.eyes.length - i/\i<=b.eyes.length/\(∀ x∈b.eyes.take i,1 - b.rf<=x.at0/\x.at0<=b.rf - 1/\0<=x.high/\x.high<=60/\x.high<b.ch)/\env=zK 119 [(1,.ptr jb 0),(5,intA i)]/\K=[(jb,.cells (slC b c s e w) 74 true),(c,clO b),(s,suO b),(e,eyO b),(w,waO b)]) (b.eyes.length) ⟨0,rfl,mN _,fun x hx=>by simp at hx,rfl,rfl⟩ fun n env K hI hnext1=>?_;obtain ⟨i,rfl,hi,hey,rfl,rfl⟩:=hI;refine au 9372806906701422 ?_;constructor<;>intro hc6
 ·have hil:i<b.eyes.length:=by simp at hc6; omega
  refine au 221302120 ?_;refine TK.dq [0,1,2,3,4,5,6,7,8,9,10,11,12,13,14,15,16,17,18,19,20,21,22,23,24,25] ?_;refine ad [[3,1],[10,52],[1,5],[2,53,54],[3,55]] ?_;refine TD.y [56] Z (hq:=zm Z Z zd.h (mC _) (kA (c:=0) (zcq hil Z) dQ Z)) (h:=?_);refine ad [[3,1],[3,58],[10,59],[9,60],[3,1],[3,62],[10,63],[9,64]] ?_;refine bQ (pend':=[⟨12,[63],[(_,_)]⟩,⟨11,[62],[]⟩,⟨10,[1],[]⟩,⟨8,[59],[(_,_)]⟩,⟨7,[58],[]⟩,⟨6,[1],[]⟩,⟨4,[55],[]⟩,⟨3,[53,54],[]⟩,⟨2,[5],[]⟩,⟨1,[52],[(_,_)]⟩,⟨0,[1],[]⟩]) [57,61,65] Z Z Z Z Z (yi hT) (fun r13 K14 h15=>⟨?_,?_⟩)
  ·rcases h15 with ⟨rfl,rfl⟩
   all_goals simp
  obtain ⟨rfl,rfl⟩:=h15;try simp only [cA]
  refine bS tQ ?_;refine bU [66] Z (q_not Z Z) ?_;refine ad [[1,67]] ?_;refine TD.sp 68 (fun g18_17=>?_) (fun g18_17=>?_)
  ·refine ad [[11,1,68],[11,68,69],[11,5,68],[11,68,70,71],[11,68,72],[11,68,73],[11,68,74],[11,68,75],[7,68,76],[14]] ?_;refine au 3542180 ?_;refine bB hret [(c,_),(s,_),(e,_),(w,_)] ?_;exact ⟨⟨1,rfl,fun h=>by cases h⟩,rfl⟩
  refine ad [[3,1,68],[10,68,69],[1,5,68],[2,68,70,71],[3,68,72]] ?_;refine TD.y [68,73] Z (hq:=zm Z Z zd.h (mC _) (kA (c:=1) (zcq hil Z) dQ Z)) (h:=?_);refine bQ (pend':=[⟨21,[68,72],[]⟩,⟨20,[68,70,71],[]⟩,⟨19,[5,68],[]⟩,⟨18,[68,69],[(_,_)]⟩,⟨17,[1,68],[]⟩,⟨15,[66],[]⟩,⟨12,[63],[(_,_)]⟩,⟨11,[62],[]⟩,⟨10,[1],[]⟩,⟨8,[59],[(_,_)]⟩,⟨7,[58],[]⟩,⟨6,[1],[]⟩,⟨4,[55],[]⟩,⟨3,[53,54],[]⟩,⟨2,[5],[]⟩,⟨1,[52],[(_,_)]⟩,⟨0,[1],[]⟩]) [68,74] Z Z Z Z Z (yi hT) (fun r16 K17 h18=>⟨?_,?_⟩)
  ·rcases h18 with ⟨rfl,rfl⟩
   all_goals simp
  obtain ⟨rfl,rfl⟩:=h18;try simp only [cA]
  refine bS tQ ?_;refine bU [68,75] Z (q_not Z Z) ?_;refine ad [[6,68,76],[14]] ?_;refine au 9 ?_;constructor<;>intro hc7
  ·refine au 3542 ?_;refine bB hret [(c,_),(s,_),(e,_),(w,_)] ?_;exact ⟨⟨1,rfl,fun h=>by cases h⟩,rfl⟩
  refine au 2120 ?_;refine TK.dq [0,1,2,3,4,5,6,7,8,9] ?_;refine ad [[3,1],[10,78],[1,5],[2,79,80],[3,81]] ?_;refine TD.y [82] Z (hq:=zm Z Z zd.h (mC _) (kA (c:=1) (zcq hil Z) dQ Z)) (h:=?_);refine ad [[3,1],[3,84],[10,85],[4,83,86],[14]] ?_;refine au 9 ?_;constructor<;>intro hc8
  ·refine au 3542 ?_;refine bB hret [(c,_),(s,_),(e,_),(w,_)] ?_;exact ⟨⟨7,rfl,fun h=>by cases h⟩,rfl⟩
  refine au 3523014140120 ?_;refine bA [1,5] ?_;refine bC [(jb,_),(c,_),(s,_),(e,_),(w,_)] ?_;exact hnext1 _ _ _ oQ ⟨i+1,rfl,oQ,fun x hx=>by
   rw [List.take_add_one,zdg hil] at hx;rcases lT.1 hx with hx | hx
   ·exact hey x hx
   ·simp at hx; subst hx; simp at g18_17 hc7 hc8; omega,rfl,rfl⟩
 obtain rfl:i=b.eyes.length:=by simp at hc6; omega
 refine au 937280690670422160 ?_;constructor<;>intro hc9
 ·refine au 3542 ?_;refine bB hret [(c,_),(s,_),(e,_),(w,_)] ?_;exact ⟨⟨2,rfl,fun h=>by cases h⟩,rfl⟩
 have hn3:b.watches.length<=4:=by simp at hc9; omega
 refine au 13035422120 ?_;refine bA [1,6] ?_;refine bE (fun n env K=>∃ (i:Nat),n=b.watches.length - i/\i<=b.watches.length/\(∀ x∈b.watches.take i,watOk b x=true)/\env=zK 119 [(1,.ptr jb 0),(6,intA i)]/\K=[(jb,.cells (slC b c s e w) 74 true),(c,clO b),(s,suO b),(e,eyO b),(w,waO b)]) (b.watches.length) ⟨0,rfl,mN _,fun x hx=>by simp at hx,rfl,rfl⟩ fun n env K hI hnext2=>?_;obtain ⟨i,rfl,hi,hwa,rfl,rfl⟩:=hI;refine au 9372806906701422 ?_;constructor<;>intro hc10
 ·have hil:i<b.watches.length:=by simp at hc10; omega
  refine au 21302120 ?_;refine TK.dq [0,1,2,3,4,5,6,7,8,9,10,11,12,13,14,15,16,17,18,19] ?_;refine ad [[12,1],[3,1],[10,100],[1,6],[2,101,102],[3,103]] ?_;refine TD.y [104] Z (hq:=zm Z Z zd.h (mC _) (kA (c:=0) (zc6 hil Z) dQ Z)) (h:=?_);refine bQ (pend':=[⟨5,[103],[]⟩,⟨4,[101,102],[]⟩,⟨3,[6],[]⟩,⟨2,[100],[(_,_)]⟩,⟨1,[1],[]⟩]) [99,105] Z Z Z Z Z (zfS hT oQ) (fun r19 K20 h21=>⟨?_,?_⟩)
  ·rcases h21 with ⟨rfl,rfl⟩
   all_goals simp
  obtain ⟨rfl,rfl⟩:=h21;try simp only [cA]
  refine bS tQ ?_;refine bU [106] Z (q_not Z Z) ?_;refine ad [[1,107]] ?_;refine TD.sp 108 (fun g27_10=>?_) (fun g27_10=>?_)
  ·refine ad [[11,1,108],[11,1,108],[11,108,110],[11,6,108],[11,108,111,112],[11,108,113],[11,108,114],[11,108,109,115],[11,108,116],[7,108,117],[14]] ?_;refine au 3542180 ?_;refine bB hret [(c,_),(s,_),(e,_),(w,_)] ?_;exact ⟨⟨6,rfl,fun h=>by cases h⟩,rfl⟩
  refine ad [[12,1,108],[3,1,108],[10,108,110],[1,6,108],[2,108,111,112],[3,108,113]] ?_;refine TD.y [108,114] Z (hq:=zm Z Z zd.h (mC _) (kA (c:=1) (zc6 hil Z) dQ Z)) (h:=?_);refine bQ (pend':=[⟨15,[108,113],[]⟩,⟨14,[108,111,112],[]⟩,⟨13,[6,108],[]⟩,⟨12,[108,110],[(_,_)]⟩,⟨11,[1,108],[]⟩,⟨8,[106],[]⟩,⟨5,[103],[]⟩,⟨4,[101,102],[]⟩,⟨3,[6],[]⟩,⟨2,[100],[(_,_)]⟩,⟨1,[1],[]⟩]) [108,109,115] Z Z Z Z Z (zaW hT oQ) (fun r22 K23 h24=>⟨?_,?_⟩)
  ·rcases h24 with ⟨rfl,rfl⟩
   all_goals simp
  obtain ⟨rfl,rfl⟩:=h24;try simp only [cA]
  refine bS tQ ?_;refine bU [108,116] Z (q_not Z Z) ?_;refine ad [[6,108,117],[14]] ?_;refine au 9 ?_;constructor<;>intro hc11
  ·refine au 3542 ?_;refine bB hret [(c,_),(s,_),(e,_),(w,_)] ?_;exact ⟨⟨6,rfl,fun h=>by cases h⟩,rfl⟩
  refine au 3523014140120 ?_;refine bA [1,6] ?_;refine bC [(jb,_),(c,_),(s,_),(e,_),(w,_)] ?_;exact hnext2 _ _ _ oQ ⟨i+1,rfl,oQ,fun x hx=>by
   rw [List.take_add_one,uM hil] at hx;rcases lT.1 hx with hx | hx
   ·exact hwa x hx
   ·simp at hx; subst hx; unfold watOk; simp_all,rfl,rfl⟩
 obtain rfl:i=b.watches.length:=by simp at hc10; omega
 refine au 3542160 ?_;refine bB hret [(c,_),(s,_),(e,_),(w,_)] ?_;rw [lW] at hsu hey hwa;exact ⟨⟨0,rfl,fun _=>⟨⟨hrr.st,hrr.di,hrr.sp,hrr.sh,hrr.wd,hrr.cl,hrr.rg,hn1,hsu,hn2,hey⟩,⟨hn3,hwa⟩⟩⟩,rfl⟩
theorem zhw {main T} (hT:zk tp main T) {gm} {b:SlB} {c s e w:Nat} :
  zh tp T gm 82 [.agg (slC b c s e w)] [] (fun r K'=>(∃ z,r=zl z/\(z=false->b.clean.length<=20/\b.suns.length<=20/\b.eyes.length<=20/\b.watches.length<=20))/\K'=[]):=by
 refine ze 25 hT Tryz.func82 fun Y hret=>?_;refine au 21042 ?_;intro jb hjb;refine au 172806906704235 ?_;refine bF 7 (fun g1_5=>?_) (fun g1_5=>?_)
 ·refine au 3526088881260888812608888 ?_;refine bB hret [] ?_;exact ⟨⟨_,rfl,fun h=>by cases h⟩,rfl⟩
 refine au 12507280690670 ?_;refine bF 13 (fun g1_11=>?_) (fun g1_11=>?_)
 ·refine au 35260888812608888 ?_;refine bB hret [] ?_;exact ⟨⟨_,rfl,fun h=>by cases h⟩,rfl⟩
 refine au 12507280690670 ?_;refine bF 19 (fun g1_17=>?_) (fun g1_17=>?_)
 ·refine au 352608888 ?_;refine bB hret [] ?_;exact ⟨⟨_,rfl,fun h=>by cases h⟩,rfl⟩
 refine au 352507280690670 ?_;refine bB hret [] ?_;exact ⟨⟨_,rfl,fun h=>by simp at g1_5 g1_11 g1_17 h; omega⟩,rfl⟩
theorem zkm {main T} (hT:zk tp main T) {gm} {b:SlB} {c s e w:Nat} :
  zh tp T gm 23 [.agg (slC b c s e w)] [(c,clO b),(s,suO b),(e,eyO b),(w,waO b)] (fun r K'=>(∃ z,r=zl z/\(z=true->SlBase b/\SlWat b/\b.clean.length<=20))/\K'=[(c,clO b),(s,suO b),(e,eyO b),(w,waO b)]):=by
 refine ze 11 hT Tryz.func23 fun Y hret=>?_;refine au 21042 ?_;intro jb hjb;refine au 6804235 ?_;refine bD Z Z Z Z (zhw hT) ?_;rintro r1 K2 ⟨⟨z,rfl,hz⟩,rfl⟩;refine au 1300 ?_;refine bF 6 (fun g1_4=>?_) (fun g1_4=>?_)
 ·obtain ⟨hl1,hl2,hl3,hl4⟩:=hz (by simpa using g1_4);refine au 680 ?_;refine bD Z Z Z Z (zgu hT hl1 hl2 hl3 hl4) ?_;rintro r4 K5 ⟨⟨c0,rfl,hck⟩,rfl⟩;refine au 352607 ?_;refine bB hret [(c,_),(s,_),(e,_),(w,_)] ?_;exact ⟨⟨_,rfl,fun h=>have hh:=hck (by simpa using h); ⟨hh.1,hh.2,hl1⟩⟩,rfl⟩
 refine au 35250888 ?_;refine bB hret [(c,_),(s,_),(e,_),(w,_)] ?_;exact ⟨⟨_,rfl,fun h=>by cases h⟩,rfl⟩
end Go.Vel
end
