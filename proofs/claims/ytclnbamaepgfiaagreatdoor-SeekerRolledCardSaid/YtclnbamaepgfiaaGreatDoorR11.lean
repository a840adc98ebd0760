/- Texts for the law SeekerRolled (chapters 8 and 9), part 12. It holds of every program, tape and world that the statements name, as each theorem says. -/
import Derived.Test.YtclnbamaepgfiaaGreatDoorR3
import Derived.Test.YtclnbamaepgfiaaGreatDoorR5
import Derived.Test.YtclnbamaepgfiaaGreatDoorR7
import Derived.Test.YtclnbamaepgfiaaGreatDoorR8
import Derived.Test.YtclnbamaepgfiaaGreatDoorR9
import Derived.Test.YtclnbamaepgfiaaGreatDoorR10
open Go renaming Goroutine -> gG, TypeId -> gT, Program -> gP
open Bool renaming true -> tt, false -> ff
section
set_option linter.all false
set_option maxRecDepth 20000
set_option maxHeartbeats 60000000
open Go.Proofs.Tryz renaming prog -> tp
open List renaming getElem?_eq_getElem -> lA, length_append -> lF, perm_append_comm -> lH, mem_cons -> lI, length_map -> lJ, mem_cons_of_mem -> lL, map_append -> lM, mem_of_getElem? -> lN, append_nil -> lR, mem_singleton -> lS, mem_append -> lT, take_length -> lW, getElem?_set -> lX, mem_map -> lY, length_cons -> lZ, map_congr_left -> mA
open List.Mem renaming head -> mC
open Nat renaming le_refl -> mL, zero_le -> mN, zero_add -> mO, eq_zero_or_pos -> mP, le_trans -> mT
open Bool renaming false_eq_true -> mU, not_eq_true' -> mV, not_eq_false' -> mW, and_eq_true -> mX
open Int renaming toNat_natCast -> mZ
open Go.Vel.TK renaming maskL -> bA, rt -> bB, kp -> bC, cl -> bD, loopN -> bE, sp -> bF, na -> bG, a -> bH, newR -> bI, dq -> bL, perm -> bN, appR -> bO, frzRow -> bY
open Go.Vel.TD renaming s -> bR, norm -> bS, y -> bT, z -> bU, cnewR -> bV, cnewP -> bX
namespace Go.Vel
open Go Go.Conc Go.Proofs
theorem zcc(xs zs:List Int)(e:gT)(rw':Bool):IntsAt (.cells ((xs++zs).map za) e rw') 0 xs:=fun i h=>by
 have:=yK (xs++zs) e rw' i (by rw[lF];omega);rwa[List.getElem_append_left h]at this
def cntL:Nat->Nat->Nat
 | 0,_=>0
 | _+1,0=>0
 | d+1,k+1=>1+cntL d k+cntL (d+1) k
theorem zbb{b:Bk}:∀(Wp S:List Int)(d:Nat),b.high<=(S.length:Int)+d->(loopM b S Wp).length<=cntL d Wp.length
 | [],S,d,h=>by simp[loopM]
 | n::Wp,S,d,h=>by
  by_cases hs:(S.length:Int)<b.high
  ·obtain⟨d,rfl⟩:∃ k,d=k+1:=⟨d - 1,oQ⟩;have h1:=zbb (b:=b) Wp (S++[n]) d (by rw[lF];simp;omega);have h2:=zbb (b:=b) Wp S (d+1) h;have h3:(ownM b (S++[n])).length<=1:=by unfold ownM;split <;> simp
   unfold loopM;rw[if_pos hs];simp only[lF,lZ,cntL];omega
  ·rw[zaE hs];exact mN _
theorem zgm{b:Bk}(hb:BkOk b):(zd b).length<65536:=by
 have h1:(zd b).length<=(allM b).length:=List.length_filter_le _ _;have h2:(allM b).length=(ownM b []).length+(loopM b [] (restM b 0)).length:=by unfold allM;rw[lF]
 have h3:=zbb (b:=b) (restM b 0) [] 3 (by have:=hb.high;simp;omega);have h4:(restM b 0).length=b.sP.toNat:=by simp[restM]
 have h5:∀ k,k<=16->cntL 3 k<=696:=by decide
 have h6:=h5 (restM b 0).length (by have:=hb.sP;omega);have h7:(ownM b []).length<=1:=by unfold ownM;split <;> simp
 omega
def countsM(b:Bk):List Int:=setI ((zd b).map fun S=>(S.length:Int))
theorem za6{Ψ:gG->World->Prop}{b:Bk}{s e:Nat}(hse:s≠e)(hn:∀ x∈b.kE,x.name.size<=1000)(hl:b.seen.length<=1000):zl tp (BT tp Ψ) gmR 21 [.agg (zA b s e)] [(0,zx),(1,zC),(s,zu b),(e,zw b)] (fun r K'=>(askM b tt≠0/\r=.tup [.v (.slice none 0 0),za (askM b tt)]/\K'=[(0,zx),(1,zC),(s,zu b),(e,zw b)])\/(askM b tt=0/\∃(j:Nat)(zs:List Int),r=.tup [.sl j 0 (countsM b).length,za 0]/\K'=[(0,zx),(1,zC),(s,zu b),(e,zw b),(j,.cells ((countsM b++zs).map za) 3 ff)])):=by
 have hT:=kI (P:=tp) Ψ;refine zh 34 hT Tryz.func21 fun Y Wz=>?_;refine au 21042 ?_;intro jb hjb;refine au 68042355 ?_;refine bD Z Z Z Z (vJ hT (b:=b) (s:=s) (e:=e) (t:=tt) hse hn hl Z (fun hb=>yC Cal.h (vb hT))) ?_;rintro r1 K2 h3;rcases h3 with⟨hb0,rfl,rfl⟩|⟨jl,jm,om,hb0,hom,rfl,rfl⟩
 ·refine au 220661 ?_;intro jx hjx;refine au 937142235170 ?_;apply aI<;>intro Jz
  ·
   refine au 355142 ?_;refine bB Wz [(0,_),(1,_),(s,_),(e,_)] ?_;exact .inl ⟨hb0,rfl,rfl⟩
  exact absurd (by simpa using Jz) hb0
 ·refine au 220661 ?_;intro jx hjx;refine au 937142235170 ?_;apply aI<;>intro Jz
  ·exact absurd Jz dQ
  obtain⟨hck,hth,hne⟩:=wm hb0;have hb:=yH hck;have hLo:=yU hb;have hLn:=yP hb;refine au 542120 ?_;refine TK.virt 6 3 1 Z fun j01 hj01=>?_;refine au 130312806906704223 ?_;refine bA [6,18,19,20] ?_;refine bC [(jx,_),(jm,_),(jl,_),(jb,_),(0,_),(1,_),(s,_),(e,_),(j01,_)] ?_;refine bE (fun n Wq K=>∃(i j1:Nat),n=(zd b).length - i/\i<=(zd b).length/\Wq=ym 34 [(6,.row j1 (((zd b).take i).map fun S=>(S.length:Int)).length),(18,.sl jl 0 (zd b).length),(19,za (zd b).length),(20,za i)]/\K=[(jx,.cells (yq b s e (.sl jl 0 (zd b).length) jm) 125 tt),(jm,.raw om),(jl,listO (zd b)),(jb,.cells (zA b s e) 27 tt),(0,zx),(1,zC),(s,zu b),(e,zw b),(j1,.row ((((zd b).take i).map fun S=>(S.length:Int)).map za) 3 1)]) (zd b).length ⟨0,j01,rfl,mN _,rfl,rfl⟩ fun n Wq K hI' Wj=>?_;obtain⟨i,j1,rfl,hi,rfl,rfl⟩:=hI';refine au 923742 ?_;apply aI<;>intro Jx
  ·simp only[dT_]at Jx;have Qb:i<(zd b).length:=by omega
   have htl:(((zd b).take i).map fun S=>(S.length:Int)).length<=65536:=by rw[lJ,List.length_take];omega
   refine au 360421302120 ?_;refine bH Z (zK Z Z ze.h mQ (zbC (zd b) i Qb)) ?_;refine au 220 ?_;intro j9 hj9;refine au 690670143170 ?_;refine bI Z Z Z (zH (l:=[_]) Z zp.h TyZ.h dQ dQ Z) (fun _=>zD rfl tQ) fun j4 hj4=>?_;refine bO Z Z Z (a_app Z ApOf.h Z mQ (by simp <;> omega) Z (yO (ln:=[_]) mQ dQ sQ Z) oQ Z (by unfold maxLen;omega) oQ) (fun _=>uQ) (fun _=>zD rfl tQ) fun j3=>?_;refine au 31230414035 ?_;refine bA [6,18,19,20] ?_;refine bC [(jx,_),(jm,_),(jl,_),(jb,_),(0,_),(1,_),(s,_),(e,_),(j3,_)] ?_;have e1:((zd b).take (i+1)).map (fun S=>(S.length:Int))=((zd b).take i).map (fun S=>(S.length:Int))++[((zd b)[i].length:Int)]:=by rw[List.take_add_one,lA Qb,lM] <;> rfl
   exact Wj _ _ _ oQ ⟨i+1,j3,rfl,oQ,by rw[e1,lF] <;> rfl,by rw[e1,lM] <;> rfl⟩
  simp only[dF_]at Jx;obtain rfl:i=(zd b).length:=by omega
  rw[lW];have hsmall:=zgm hb;refine au 142160 ?_;refine bD Z Z Z Z (zmu hT (xs:=((zd b).map fun S=>(S.length:Int))) rfl (by rw[lJ];omega)) ?_;rintro r5 K6 rfl;refine au 1423 ?_;refine bD Z Z Z Z (zgA hT (xs:=msI ((zd b).map fun S=>(S.length:Int))) (zhm _) (by rw[lJ];omega)) ?_;rintro r8 K9 h10;rcases h10 with⟨zs,rfl,rfl⟩|⟨rfl,hcm,rfl⟩
  ·refine au 0 ?_;refine bY (j:=j1) ?_;refine au 355 ?_;refine bB Wz [(0,_),(1,_),(s,_),(e,_),(j1,_)] ?_;exact .inr ⟨hb0,j1,zs,rfl,rfl⟩
  ·refine au 0 ?_;refine TK.asSl 33 Z (mC _) ?_;refine bY (j:=j1) ?_;refine au 355 ?_;refine bB Wz [(0,_),(1,_),(s,_),(e,_),(j1,_)] ?_;exact .inr ⟨hb0,j1,[],by unfold countsM setI;rw[hcm,zhm],by unfold countsM setI;rw[hcm,lR]⟩
section
variable {P:gP}{gm:Nat->Option Nat}{T:gG->Hp->Prop}{Y:KX P gm T}{ds:List Nat}{k:List Item}{Wq Wk:List AV}{K:KV}
end
def shortB(most:Int)(l:List Int):Bool:=decide ((l.length:Int)<most)
def moreM(most n:Int)(A:List (List Int)):List (List Int):=(A.filter (shortB most)).map (· ++ [n])
def setsM(most:Int):Nat->List (List Int)
 | 0=>[[]]
 | n+1=>setsM most n++moreM most n (setsM most n).reverse
theorem zbU{most:Int}(hm:0<=most):∀ n,∀ l∈setsM most n,(l.length:Int)<=most
 | 0,l,hl=>by rw[lS.1 hl];simpa using hm
 | n+1,l,hl=>by
  rcases lT.1 hl with hl|hl
  ·exact zbU hm n l hl
  ·obtain⟨x,hx,rfl⟩:=lY.1 hl;have:=oT_ (List.mem_filter.1 hx).2;simp;omega
theorem znd{b:Bk}(h:zF b=0):0<=b.high:=by
 unfold zF at h;split at h
 ·rename_i h1;rw[h]at h1;cases h1
 ·rename_i h1;obtain⟨q1,q2,q3,q4,q5,q6,q7⟩:=kA (b:=b) (by simpa using h1);omega
theorem vk{most:Int}:∀ n,∀ l∈setsM most n,∀ x∈l,0<=x/\x<n
 | 0,l,hl,x,hx=>by rw[lS.1 hl]at hx;cases hx
 | n+1,l,hl,x,hx=>by
  rcases lT.1 hl with hl|hl
  ·have:=vk n l hl x hx;omega
  ·obtain⟨y,hy,rfl⟩:=lY.1 hl;rcases lT.1 hx with hx|hx
   ·have:=vk n y (List.mem_reverse.1 (List.mem_filter.1 hy).1) x hx;omega
   ·rw[lS.1 hx];omega
def setsB(b:Bk):List (List Int):=setsM b.high b.sP.toNat
def statesR(b:Bk):List (List Int):=(setsB b).filter (canM b)
theorem wY{b:Bk}:∀(Wp S R:List Int),R∈loopM b S Wp->∃ T,T.Sublist Wp/\T≠[]/\R=S++T
 | [],S,R,h=>by cases h
 | n::Wp,S,R,h=>by
  simp only[loopM]at h;split at h
  ·rcases lT.1 h with h|h
   ·rcases lT.1 h with h|h
    ·unfold ownM at h;split at h
     ·rw[lS.1 h];exact⟨[n],.cons_cons _ (List.nil_sublist _),by simp,rfl⟩
     ·cases h
    ·obtain⟨T,h1,_,rfl⟩:=wY Wp _ R h;exact⟨n::T,.cons_cons _ h1,by simp,by simp⟩
   ·obtain⟨T,h1,h2,rfl⟩:=wY Wp _ R h;exact⟨T,.cons _ h1,h2,rfl⟩
  ·cases h
theorem zek(b:Bk)(S:List Int):(ownM b S).Nodup:=by
 unfold ownM;split <;> simp
theorem zaF{b:Bk}:∀(Wp S:List Int),Wp.Nodup->(loopM b S Wp).Nodup
 | [],S,_=>by simp[loopM]
 | n::Wp,S,h=>by
  have h2:=List.nodup_cons.1 h;simp only[loopM];split
  ·refine List.nodup_append.2 ⟨List.nodup_append.2 ⟨zek _ _,zaF Wp _ h2.2,fun x hx y hy e=>?_⟩,zaF Wp _ h2.2,fun x hx y hy e=>?_⟩
   ·subst e;obtain⟨T,_,hT,rfl⟩:=wY _ _ _ hy;unfold ownM at hx;split at hx
    ·have:=lS.1 hx;exact hT (by simpa using this)
    ·cases hx
   ·subst e;obtain⟨T,hT1,_,e2⟩:=wY _ _ _ hy;have hn:n∈T:=by
     rcases lT.1 hx with hx|hx
     ·unfold ownM at hx;split at hx
      ·have:=lS.1 hx;rw[e2]at this;have:=List.append_cancel_left this;simp[this]
      ·cases hx
     ·obtain⟨T',_,_,e3⟩:=wY _ _ _ hx;rw[e2,List.append_assoc]at e3;have:=List.append_cancel_left e3;simp[this]
    exact h2.1 (hT1.subset hn)
  ·simp
theorem zc7(b:Bk)(i:Nat):(restM b i).Pairwise (· < ·):=by
 unfold restM;rw[List.pairwise_map];exact(List.pairwise_lt_range' (s:=i) (n:=b.sP.toNat - i)).imp fun h=>by omega
theorem zcA(b:Bk):(allM b).Nodup:=by
 have hr:(restM b 0).Nodup:=(zc7 b 0).imp fun h e=>by omega
 refine List.nodup_append.2 ⟨zek _ _,zaF _ _ hr,fun x hx y hy e=>?_⟩;subst e;obtain⟨T,_,hT,rfl⟩:=wY _ _ _ hy;unfold ownM at hx;split at hx
 ·exact hT (by simpa using lS.1 hx)
 ·cases hx
theorem zdJ{b:Bk}{R:List Int}(h:R∈allM b):R.Pairwise (· < ·):=by
 rcases lT.1 h with h|h
 ·unfold ownM at h;split at h
  ·rw[lS.1 h];exact .nil
  ·cases h
 ·obtain⟨T,h1,_,rfl⟩:=wY _ _ _ h;exact(zc7 b 0).sublist h1
theorem memA{b:Bk}{xs:List Int}(hp:xs.Pairwise (· < ·))(hr:∀ x∈xs,0<=x/\x<b.sP)(hs:seenM b xs=tt):xs∈allM b:=by
 unfold allM;have hh:((xs.length:Int))<=b.high:=by
  unfold seenM at hs;simp only[mX,dT_]at hs;exact hs.1.2
 by_cases h0:xs=[]
 ·subst h0;refine lT.2 (.inl ?_);unfold ownM;rw[if_pos hs];exact lS.2 rfl
 ·exact lT.2 (.inr (zbf (restM b 0) [] xs (zcw _ 0 xs rfl hp fun x hx=>by have:=hr x hx;omega) h0 hh hs))
theorem uP{most:Int}:∀ n,∀ l∈setsM most n,l.Pairwise (· < ·)
 | 0,l,hl=>by rw[lS.1 hl];exact .nil
 | n+1,l,hl=>by
  rcases lT.1 hl with hl|hl
  ·exact uP n l hl
  ·obtain⟨y,hy,rfl⟩:=lY.1 hl;have hy':=List.mem_reverse.1 (List.mem_filter.1 hy).1;refine List.pairwise_append.2 ⟨uP n y hy',by simp,fun a ha c hc=>?_⟩;rw[lS.1 hc];exact(vk n y hy' a ha).2
theorem uC{most:Int}:∀(n:Nat)(l:List Int),l.Pairwise (· < ·)->(∀ x∈l,0<=x/\x<n)->(l.length:Int)<=most->l∈setsM most n
 | 0,l,_,hr,_=>by
  cases l with
  | nil=>exact lS.2 rfl
  | cons x l=>have:=hr x sQ;omega
 | n+1,l,hp,hr,hl=>by
  rcases List.eq_nil_or_concat l with rfl|⟨y,a,rfl⟩
  ·exact lT.2 (.inl (uC n [] .nil (fun x hx=>by cases hx) hl))
  ·rw[List.concat_eq_append]at hp hr hl ⊢;have hp2:=List.pairwise_append.1 hp;have ha:=hr a sQ;have Qp:∀ x∈y,x<a:=fun x hx=>hp2.2.2 x hx a sQ;by_cases e:a=n
   ·subst e;refine lT.2 (.inr (lY.2 ⟨y,List.mem_filter.2 ⟨List.mem_reverse.2 (uC n y hp2.1 (fun x hx=>?_) ?_),?_⟩,rfl⟩))
    ·have:=Qp x hx;have:=hr x (by simp[hx]);omega
    ·simp at hl;omega
    ·unfold shortB;simp at hl ⊢;omega
   ·refine lT.2 (.inl (uC n _ hp (fun x hx=>?_) hl));have h1:=hr x hx;rcases lT.1 hx with hx|hx
    ·have:=Qp x hx;omega
    ·rw[lS.1 hx]at h1 ⊢;omega
theorem zda{most:Int}:∀ n,(setsM most n).Nodup
 | 0=>by simp[setsM]
 | n+1=>by
  have ih:=zda (most:=most) n;refine List.nodup_append.2 ⟨ih,?_,fun x hx y hy e=>?_⟩
  ·unfold moreM List.Nodup;rw[List.pairwise_map];refine List.Pairwise.filter _ ?_;exact(List.pairwise_reverse.2 (ih.imp fun {a c} h=>(fun e=>h e.symm:c≠a))).imp fun h e=>h (List.append_cancel_right e)
  ·subst e;obtain⟨y,_,rfl⟩:=lY.1 hy;have:=vk n _ hx n sQ;omega
theorem ze7{b:Bk}{S:List Int}(h:canM b S=tt):seenM b S=tt:=by
 unfold canM at h;simp only[mX]at h;exact h.2
theorem zgY{b:Bk}(hb:BkOk b):(zd b).Perm (statesR b):=by
 unfold zd statesR;refine(List.perm_ext_iff_of_nodup (List.Pairwise.filter _ (zcA b)) (List.Pairwise.filter _ (zda _))).2 fun S=>?_;rw[List.mem_filter,List.mem_filter];constructor
 ·rintro⟨h1,h2⟩;refine⟨uC _ S (zdJ h1) (fun x hx=>?_) ?_,h2⟩
  ·have:=(zaa hb S h1).mem x hx;omega
  ·have:=ze7 h2;unfold seenM at this;simp only[mX,dT_]at this;exact this.1.2
 ·rintro⟨h1,h2⟩;refine⟨memA (uP _ S h1) (fun x hx=>?_) (ze7 h2),h2⟩;have:=vk _ S h1 x hx;have:=hb.sP;omega
def oftR(Ls:List (List Int))(n:Int):Int:=((Ls.filter fun S=>decide (n∈S)).length:Nat)
structure LsIn(P Q:List (Nat×List Int))(Ls:List (List Int)):Prop where
 eq:P.map (·.2)=Ls
 mem:∀ x∈P,x∈Q
theorem zho:∀{Ls:List (List Int)}(_:∀ S∈Ls,S.Nodup)(n:Int),oftR Ls n=oftM Ls n
 | [],_,n=>rfl
 | S::Ls,h,n=>by
  have ih:=zho (fun T hT=>h T (lL _ hT)) n;unfold oftR oftM at ih ⊢;rw[List.flatten_cons,List.count_append,List.filter_cons];have h1:=(h S List.mem_cons_self).count (a:=n);by_cases hm:n∈S
  ·rw[if_pos (by simpa using hm)];rw[if_pos hm]at h1;rw[h1,lZ];omega
  ·rw[if_neg (by simpa using hm)];rw[if_neg hm]at h1;rw[h1];omega
theorem zcT{b:Bk}(hb:BkOk b)(S:List Int):S∈zd b↔S∈setsB b/\canM b S=tt:=by
 rw[(zgY hb).mem_iff];exact List.mem_filter
theorem zgl(b:Bk):(zd b).Nodup:=List.Pairwise.filter _ (zcA b)
theorem ziD{b:Bk}{S:List Int}(h:S∈zd b):S.Pairwise (· < ·):=zdJ (List.mem_filter.1 h).1
theorem zgX{b:Bk}{S:List Int}(h:S∈zd b):S.Nodup:=(ziD h).imp fun h e=>by omega
theorem zey{b:Bk}(hb:BkOk b){S:List Int}(h:S∈zd b):S.length<=3:=(zaa hb S (List.mem_filter.1 h).1).len
theorem zeu{b:Bk}(hb:BkOk b)(hh:0<=b.high)(S:List Int):S∈setsB b↔S.Pairwise (· < ·)/\(∀ x∈S,0<=x/\x<b.sP)/\(S.length:Int)<=b.high:=by
 have hst:=hb.sP;constructor
 ·intro h;exact⟨uP _ S h,fun x hx=>by have:=vk _ S h x hx;omega,zbU hh _ S h⟩
 ·rintro⟨h1,h2,h3⟩;exact uC _ S h1 (fun x hx=>by have:=h2 x hx;omega) h3
theorem zfi{α:Type}(p:α->Bool):∀ A:List α,(A.filter p).length+(A.filter fun x => !p x).length=A.length
 | []=>rfl
 | x::A=>by
  have ih:=zfi p A;rw[List.filter_cons,List.filter_cons,lZ];cases p x
  ·simp only[mU,if_false,Bool.not_false,if_true,lZ];omega
  ·simp only[Bool.not_true,mU,if_false,if_true,lZ];omega
theorem zny{b:Bk}(n:Int):oftM (zd b) n=(((zd b).filter fun S=>decide (n∈S)).length:Nat):=(zho (fun _ h=>zgX h) n).symm
theorem zdo{α:Type}{p:α->Bool}{A:List α}:(A.filter p).length=A.length↔∀ S∈A,p S=tt:=by
 rw[List.length_filter_eq_length_iff]
theorem zcL{α:Type}{p:α->Bool}{A:List α}:(A.filter p).length=0↔∀ S∈A,p S=ff:=by
 rw[List.length_eq_zero_iff,List.filter_eq_nil_iff];exact⟨fun h S hS=>by simpa using h S hS,fun h S hS=>by simpa using h S hS⟩
theorem zhL{α:Type}{p:α->Bool}{A:List α}(hne:A≠[]):(wordM A.length ((A.filter p).length:Nat)=1↔∀ S∈A,p S=tt)/\(wordM A.length ((A.filter p).length:Nat)=2↔∀ S∈A,p S=ff)/\(wordM A.length ((A.filter p).length:Nat)=0↔(∃ S∈A,p S=tt)/\∃ S∈A,p S=ff):=by
 have h1:=zdo (p:=p) (A:=A);have h2:=zcL (p:=p) (A:=A);have h0:A.length≠0:=fun h=>hne (List.length_eq_zero_iff.1 h);have e1:(∃ S∈A,p S=tt)↔¬ (A.filter p).length=0:=by
  rw[h2];constructor
  ·rintro⟨S,hS,hp⟩ h;rw[h S hS]at hp;cases hp
  ·intro h;refine Classical.byContradiction fun hc=>h fun S hS=>?_;rw[Bool.eq_false_iff];exact fun hp=>hc ⟨S,hS,hp⟩
 have e2:(∃ S∈A,p S=ff)↔¬ (A.filter p).length=A.length:=by
  rw[h1];constructor
  ·rintro⟨S,hS,hp⟩ h;rw[h S hS]at hp;cases hp
  ·intro h;refine Classical.byContradiction fun hc=>h fun S hS=>?_;cases hp:p S with
   | true=>rfl
   | false=>exact absurd ⟨S,hS,hp⟩ hc
 rw[e1,e2,<- h1,<- h2];unfold wordM;simp only[beq_iff_eq];generalize (A.filter p).length=m at *
 generalize A.length=n at *
 refine⟨⟨fun h=>?_,fun h=>?_⟩,⟨fun h=>?_,fun h=>?_⟩,⟨fun h=>?_,fun h=>?_⟩⟩ <;> (repeat' split at *) <;> omega
theorem zhK{b:Bk}(hne:zd b≠[])(n:Int):(wordM (zd b).length (oftM (zd b) n)=1↔∀ S∈zd b,n∈S)/\(wordM (zd b).length (oftM (zd b) n)=2↔∀ S∈zd b,n∉S)/\(wordM (zd b).length (oftM (zd b) n)=0↔(∃ S∈zd b,n∈S)/\∃ S∈zd b,n∉S):=by
 have:=zhL (p:=fun S=>decide (n∈S)) hne;rw[zny];simpa only[dT_,dF_]using this
theorem zdi{c:Bk}{A:List (List Int)}(hne:A≠[])(k:Nat):(wordM A.length (A.length - rightsM c A k)=1↔∀ S∈A,yh c S k=ff)/\(wordM A.length (A.length - rightsM c A k)=2↔∀ S∈A,yh c S k=tt)/\(wordM A.length (A.length - rightsM c A k)=0↔(∃ S∈A,yh c S k=ff)/\∃ S∈A,yh c S k=tt):=by
 have h:=zhL (p:=fun S => !yh c S k) hne;have e:(A.length:Int) - rightsM c A k=((A.filter fun S => !yh c S k).length:Nat):=by
  unfold rightsM;have:=zfi (fun S=>yh c S k) A;omega
 rw[e];simpa only[mV,mW]using h
theorem zav{b:Bk}(hb:BkOk b)(n:Int):n∈countsM b↔∃ S∈zd b,(S.length:Int)=n:=by
 unfold countsM;rw[zmp];simp only[lY]
theorem zh0{b:Bk}(hb:BkOk b):(countsM b).Pairwise (· < ·):=zmo _
theorem zdN(b:Bk)(lo w:Int):∀(A:List (List Int))(z:Int×Int),(A.foldl (bandM b lo w) z).1<=z.1/\z.2<=(A.foldl (bandM b lo w) z).2/\(∀ S∈A,(A.foldl (bandM b lo w) z).1<=inM b S lo w/\inM b S lo w<=(A.foldl (bandM b lo w) z).2)/\((A.foldl (bandM b lo w) z).1=z.1\/∃ S∈A,(A.foldl (bandM b lo w) z).1=inM b S lo w)/\((A.foldl (bandM b lo w) z).2=z.2\/∃ S∈A,(A.foldl (bandM b lo w) z).2=inM b S lo w)
 | [],z=>⟨Int.le_refl _,Int.le_refl _,(fun S h=>by cases h),.inl rfl,.inl rfl⟩
 | S::A,z=>by
  obtain⟨h1,h2,h3,h4,h5⟩:=zdN b lo w A (bandM b lo w z S);rw[List.foldl_cons];generalize A.foldl (bandM b lo w) (bandM b lo w z S)=r at *
  have e1:(bandM b lo w z S).1=if inM b S lo w<z.1 then inM b S lo w else z.1:=rfl
  have e2:(bandM b lo w z S).2=if z.2<inM b S lo w then inM b S lo w else z.2:=rfl
  rw[e1]at h1 h4;rw[e2]at h2 h5;refine⟨?_,?_,fun T hT=>?_,?_,?_⟩
  ·split at h1 <;> omega
  ·split at h2 <;> omega
  ·rcases lI.1 hT with rfl|hT
   ·constructor
    ·split at h1 <;> omega
    ·split at h2 <;> omega
   ·exact h3 T hT
  ·rcases h4 with h4|⟨T,hT,h4⟩
   ·split at h4
    ·exact .inr ⟨S,List.mem_cons_self,h4⟩
    ·exact .inl h4
   ·exact .inr ⟨T,lL _ hT,h4⟩
  ·rcases h5 with h5|⟨T,hT,h5⟩
   ·split at h5
    ·exact .inr ⟨S,List.mem_cons_self,h5⟩
    ·exact .inl h5
   ·exact .inr ⟨T,lL _ hT,h5⟩
theorem zoz{b:Bk}(hb:BkOk b){S:List Int}(h:S∈zd b)(lo w:Int):0<=inM b S lo w/\inM b S lo w<=3:=by
 have h1:=zjx b S lo w;have h2:=zey hb h;omega
theorem zeE{b:Bk}(hb:BkOk b)(hne:zd b≠[])(lo w:Int):(∀ S∈zd b,(withinM b (zd b) lo w).1<=inM b S lo w/\inM b S lo w<=(withinM b (zd b) lo w).2)/\(∃ S∈zd b,(withinM b (zd b) lo w).1=inM b S lo w)/\∃ S∈zd b,(withinM b (zd b) lo w).2=inM b S lo w:=by
 obtain⟨_,_,h3,h4,h5⟩:=zdN b lo w (zd b) (3,0);obtain⟨S,hS⟩:=List.exists_mem_of_ne_nil _ hne;have hi:=zoz hb hS lo w;have h6:=h3 S hS;unfold withinM;refine⟨h3,?_,?_⟩
 ·rcases h4 with h4|h4
  ·exact⟨S,hS,by rw[h4]at h6 ⊢;show(3:Int)=_;have:=h6.1;simp only at this;omega⟩
  ·exact h4
 ·rcases h5 with h5|h5
  ·exact⟨S,hS,by rw[h5]at h6 ⊢;show(0:Int)=_;have:=h6.2;simp only at this;omega⟩
  ·exact h5
theorem zdL{b:Bk}{low k:Nat}:arcK b low=some k↔(withinM b (zd b) low ((k:Int)+1)).1>0/\k<b.sP.toNat/\∀ q<k,¬ (withinM b (zd b) low ((q:Int)+1)).1>0:=by
 unfold arcK;rw[List.find?_range_eq_some];simp only[List.mem_range,dT_,mV,dF_]
theorem zeU{b:Bk}{y:Int×Int}:y∈arcsOf b (List.range b.sP.toNat)↔∃ low k:Nat,low<b.sP.toNat/\arcK b low=some k/\y=((low:Int),(k:Int)+1):=by
 unfold arcsOf;rw[List.mem_filterMap];constructor
 ·rintro⟨low,h1,h2⟩;unfold arcA at h2;cases h5:arcK b low with
  | none=>rw[h5]at h2;exact absurd h2 sQ
  | some m =>
   rw[h5]at h2;exact⟨low,m,List.mem_range.1 h1,h5,(Option.some.inj h2).symm⟩
 ·rintro⟨low,k,h1,h2,h3⟩;refine⟨low,List.mem_range.2 h1,?_⟩;unfold arcA;rw[h2,h3] <;> rfl
theorem zcW{b:Bk}(hne:arcsOf b (List.range b.sP.toNat)≠[]):narrowM b∈arcsOf b (List.range b.sP.toNat)/\∀ y∈arcsOf b (List.range b.sP.toNat),ltArc y (narrowM b)=ff:=by
 unfold narrowM;generalize arcsOf b (List.range b.sP.toNat)=l at hne;cases l with
 | nil=>exact absurd rfl hne
 | cons x xs=>exact⟨wo,zay⟩
end Go.Vel
namespace Go.Vel
open Go Go.Conc Go.Proofs
theorem zci{α:Type}:∀{l1 l2:List α},l1.Nodup->(∀ x∈l1,x∈l2)->l1.length<=l2.length
 | [],_,_,_=>mN _
 | x::l1,l2,hn,hs=>by
  obtain⟨h1,h2⟩:=List.nodup_cons.1 hn;obtain⟨a,c,rfl⟩:=List.append_of_mem (hs x sQ);have:=zci (l1:=l1) (l2:=a++c) h2 fun y hy=>by
   have hne:y≠x:=fun e=>h1 (e ▸ hy);have:=hs y (by simp[hy]);simpa[hne]using this
  simp at this ⊢;omega
structure Less(was now:Bk):Prop where
 okw:BkOk was
 okn:BkOk now
 sP:now.sP=was.sP
 sub:∀ S∈zd now,S∈zd was
 ne:zd now≠[]
namespace Less
variable {was now:Bk}
theorem wne(h:Less was now):zd was≠[]:=fun e=>by
 obtain⟨S,hS⟩:=List.exists_mem_of_ne_nil _ h.ne;have:=h.sub S hS;rw[e]at this;cases this
theorem inM(h:Less was now)(S:List Int)(lo w:Int):Vel.inM now S lo w=Vel.inM was S lo w:=by unfold Vel.inM;rw[h.sP]
theorem many(h:Less was now):1<=((zd now).length:Int)/\((zd now).length:Int)<=(zd was).length:=by
 have h1:=zci (zgl now) h.sub;have h2:(zd now).length≠0:=fun e=>h.ne (List.length_eq_zero_iff.1 e);omega
theorem counts(h:Less was now){n:Int}(hn:n∈countsM now):n∈countsM was:=by
 obtain⟨S,h1,h2⟩:=(zav h.okn n).1 hn;exact(zav h.okw n).2 ⟨S,h.sub S h1,h2⟩
theorem at_(h:Less was now)(n:Int)(hu:wordM (zd was).length (oftM (zd was) n)≠0):wordM (zd was).length (oftM (zd was) n)=wordM (zd now).length (oftM (zd now) n):=by
 obtain⟨w1,w2,w3⟩:=zhK h.wne n;obtain⟨v1,v2,_⟩:=zhK h.ne n;have hc:wordM (zd was).length (oftM (zd was) n)=1\/wordM (zd was).length (oftM (zd was) n)=2:=by
  unfold wordM at hu ⊢;split at hu
  ·exact .inl (by rw[if_pos (by assumption)])
  ·split at hu
   ·exact .inr (by rw[if_neg (by assumption),if_pos (by assumption)])
   ·exact absurd rfl hu
 rcases hc with hc|hc
 ·rw[hc,v1.2 fun S hS=>w1.1 hc S (h.sub S hS)]
 ·rw[hc,v2.2 fun S hS=>w2.1 hc S (h.sub S hS)]
theorem wrong(h:Less was now)(k:Nat)(hr:∀ S∈zd now,yh now S k=yh was S k)(hu:wordM (zd was).length ((zd was).length - rightsM was (zd was) k)≠0):wordM (zd was).length ((zd was).length - rightsM was (zd was) k)=wordM (zd now).length ((zd now).length - rightsM now (zd now) k):=by
 obtain⟨w1,w2,_⟩:=zdi (c:=was) h.wne k;obtain⟨v1,v2,_⟩:=zdi (c:=now) h.ne k;have hc:wordM (zd was).length ((zd was).length - rightsM was (zd was) k)=1\/wordM (zd was).length ((zd was).length - rightsM was (zd was) k)=2:=by
  unfold wordM at hu ⊢;split at hu
  ·exact .inl (by rw[if_pos (by assumption)])
  ·split at hu
   ·exact .inr (by rw[if_neg (by assumption),if_pos (by assumption)])
   ·exact absurd rfl hu
 rcases hc with hc|hc
 ·rw[hc,v1.2 fun S hS=>by rw[hr S hS];exact w1.1 hc S (h.sub S hS)]
 ·rw[hc,v2.2 fun S hS=>by rw[hr S hS];exact w2.1 hc S (h.sub S hS)]
theorem within(h:Less was now)(lo w:Int):(withinM was (zd was) lo w).1<=(withinM now (zd now) lo w).1/\(withinM now (zd now) lo w).1<=(withinM now (zd now) lo w).2/\(withinM now (zd now) lo w).2<=(withinM was (zd was) lo w).2:=by
 obtain⟨a1,_,_⟩:=zeE h.okw h.wne lo w;obtain⟨b1,⟨S,hS,b2⟩,⟨T,hT,b3⟩⟩:=zeE h.okn h.ne lo w;have c1:=a1 S (h.sub S hS);have c2:=a1 T (h.sub T hT);have c3:=b1 S hS;rw[<- h.inM S lo w]at c1;rw[<- h.inM T lo w]at c2;omega
theorem arcs(h:Less was now)(ha:arcsOf was (List.range was.sP.toNat)≠[]):arcsOf now (List.range now.sP.toNat)≠[]/\(narrowM now).2<=(narrowM was).2:=by
 obtain⟨h1,_⟩:=zcW ha;obtain⟨low,k,h2,h3,h4⟩:=zeU.1 h1;obtain⟨h5,h6,_⟩:=zdL.1 h3;have h7:=(h.within low ((k:Int)+1)).1;have hp:(withinM now (zd now) low ((k:Int)+1)).1>0:=by omega
 obtain⟨q,hq⟩:∃ q,arcK now low=some q:=by
  cases hc:arcK now low with
  | some q=>exact⟨q,rfl⟩
  | none =>
   unfold arcK at hc;rw[List.find?_eq_none]at hc;have:=hc k (List.mem_range.2 (by rw[h.sP];exact h6));exact absurd hp (by simpa using this)
 have hqk:q<=k:=by
  obtain⟨_,_,h8⟩:=zdL.1 hq;refine Classical.byContradiction fun hc=>h8 k oQ hp
 have hm:((low:Int),(q:Int)+1)∈arcsOf now (List.range now.sP.toNat):=zeU.2 ⟨low,q,by rw[h.sP];exact h2,hq,rfl⟩;have hne:arcsOf now (List.range now.sP.toNat)≠[]:=List.ne_nil_of_mem hm;refine⟨hne,?_⟩;have h9:=(zcW hne).2 _ hm;rw[Bool.eq_false_iff,ne_eq,uI]at h9;rw[h4];simp only at h9 ⊢;omega
end Less
end Go.Vel
namespace Go.Vel
open Go Go.Conc Go.Proofs
theorem zcK{a n:Int}(h0:0<=a)(h1:a<2*n):(a<n/\a % n=a)\/(n<=a/\a % n=a - n):=by
 by_cases h:a<n
 ·exact .inl ⟨h,Int.emod_eq_of_lt h0 h⟩
 ·refine .inr ⟨by omega,?_⟩;rw[<- Int.sub_emod_right a n];exact Int.emod_eq_of_lt oQ oQ
theorem zmA{n i w:Int}(h0:0<=i)(h1:i<n)(h2:1<=w)(h3:w<=n):((i+w - 1) % n - i+n) % n+1=w:=by
 have e1:=zcK (a:=i+w - 1) (n:=n) oQ oQ;have e2:=zcK (a:=(i+w - 1) % n - i+n) (n:=n) oQ oQ;omega
theorem zkB{b:Bk}(hb:BkOk b)(x:Int):zS b (x % b.sP)=tt:=by
 have:=hb.sP;have h1:=Int.emod_nonneg x (show b.sP≠0 by omega);have h2:=Int.emod_lt_of_pos x (show 0<b.sP by omega);unfold zS;simp only[mX,dT_];omega
theorem ziP{l:List Int}(h:l.Pairwise (· < ·)):l.Nodup:=h.imp fun h e=>by omega
theorem uF(b:Bk):zF b=0↔numbersM b=0/\heardM b=0/\lookedM b=0:=by
 unfold zF;by_cases h1:numbersM b=0
 ·by_cases h2:heardM b=0
  ·rw[if_neg (by simpa using h1),if_neg (by simpa using h2)];exact⟨fun h=>⟨h1,h2,h⟩,fun h=>h.2.2⟩
  ·rw[if_neg (by simpa using h1),if_pos (by simpa using h2)];exact⟨fun h=>absurd h h2,fun h=>absurd h.2.1 h2⟩
 ·rw[if_pos (by simpa using h1)];exact⟨fun h=>absurd h h1,fun h=>absurd h.1 h1⟩
theorem zg3{b:Bk}(h:zF b=0):(askM b tt=0↔zd b≠[])/\(askM b tt=9↔zd b=[])/\(askM b tt=0\/askM b tt=9):=by
 unfold askM;rw[if_neg (by simp[h]),if_neg dQ];by_cases h0:zd b=[]
 ·simp[h0]
 ·simp[h0]
section
variable {P:gP}{gm:Nat->Option Nat}{T:gG->Hp->Prop}{Y:KX P gm T}{ds:List Nat}{k:List Item}{Wq Wk:List AV}{K K':KV}
theorem TK.nilAgg(d p:Nat)(e:gT){l:List AV}{x:Option Addr}{c:Nat}(hx:Wq[d]? =some (.agg l))(hp:l[p]? =some (.v (.slice x 0 c)))(h:∀ j,j∉keys K->TK Y ds k (Wq.set d (.agg (l.set p (.sl j 0 0)))) ((j,.cells [] e ff)::K)):TK Y ds k Wq K:=fun A hA φ H ts h1 h2 h3 h4 h5 h6=>by
 have hk:A.length∉keys K:=fun hm=>absurd (hA.view.lt hm) (Nat.lt_irrefl _);have hH:=h5.virtO (o:=.cells [] e ff) (fun φ n hl=>absurd rfl hl) (fun hl=>hl rfl);have hag:=yn φ A.length ⟨0,0,0⟩;have Wb:(A++[AObj.cells [] e ff]).length=A.length+1:=by simp
 have hds:dsC (yc φ A.length ⟨0,0,0⟩) ds=dsC φ ds:=by
  unfold dsC;exact mA fun d hd'=>by rw[hag d (h4 d hd')]
 rw[<- hds];refine h _ hk _ (hA.step (.push hA.view hA.nd _)) _ H ts (h1.trans hag h2) oQ (h3.mono hag oQ) (fun d hd=>by have:=h4 d hd;omega) hH ?_;have hE:=h6.mono (n':=(A++[AObj.cells [] e ff]).length) hag oQ;exact hE.set' hx fun y hy=>by
  obtain⟨ys,rfl,q1,q2⟩:=zbB hy;refine .agg (by simpa using q1) fun t u z hu hz=>?_;rw[lX]at hu;split at hu
  ·rename_i ht;subst ht;split at hu
   ·cases hu;have:=q2 p _ z hp hz;rw[inv_v this];exact .sl oQ (mN _) fun hp=>absurd hp (Nat.lt_irrefl _)
   ·cases hu
  ·exact q2 t u z hu hz
end
def greatMz(b:Bk):Bool:=decide (b.kE.length>20)||decide (b.seen.length>20)||b.kE.any fun x=>decide (x.name.size>100)
theorem zmI{α:Type}{xs:List α}{p:α->Bool}(h:(xs.take xs.length).any p=ff):xs.any p=ff:=by rwa[lW]at h
theorem zhO{α:Type}{xs:List α}{p:α->Bool}{i:Nat}{x:α}(h:xs[i]? =some x)(he:p x=tt):xs.any p=tt:=List.any_eq_true.2 ⟨x,lN h,he⟩
theorem zbQ{b:Bk}(h:greatMz b=ff):b.kE.length<=20/\b.seen.length<=20/\∀ x∈b.kE,x.name.size<=100:=by
 unfold greatMz at h;simp only[Bool.or_eq_false_iff,dF_]at h;refine⟨by omega,oQ,fun x hx=>?_⟩;have:=List.any_eq_false.1 h.2 x hx;simp at this;omega
def exB:Bk:=⟨8,1,1,1,[⟨⟨#[97,110,110]⟩,1,3,0,ff⟩,⟨⟨#[98,111]⟩,2,5,1,ff⟩,⟨⟨#[99,121]⟩,3,6,0,ff⟩],[]⟩
def exB2:Bk:={ exB with low:=2,high:=2 }
def exX:Says:=⟨⟨#[100,105]⟩,5,1,0,tt⟩
theorem zfh:zF exB=0:=by kernel_rfl
theorem zjg:zd exB=[[1],[3],[6]]:=by kernel_rfl
theorem zje:askM exB tt=0:=by kernel_rfl
theorem ex_r0:rightApi exB [3] 0=(tt,0):=by kernel_rfl
theorem ex_r1:rightApi exB [3] 1=(ff,0):=by kernel_rfl
theorem ex_s3:stateApi exB [3]=(tt,0):=by kernel_rfl
theorem ex_s4:stateApi exB [4]=(ff,0):=by kernel_rfl
theorem ex_st:statesApi exB=(3,0):=by kernel_rfl
theorem zop:atApi exB 1=(0,0):=by kernel_rfl
theorem zoo:atApi exB 0=(2,0):=by kernel_rfl
theorem ex_p1:pickL exB 1 exB.sP.toNat=[]:=by kernel_rfl
theorem ex_p0:pickL exB 0 exB.sP.toNat=[1,3,6]:=by kernel_rfl
theorem ex_w:withinApi exB 6 1=((0,1),0):=by kernel_rfl
theorem ex_n:narrowApi exB=((1,6),tt,0):=by kernel_rfl
theorem ex_wr:wrongApi exB 0=(0,0):=by kernel_rfl
theorem ex_g0:guessM exB (allM exB)≠[]:=by decide +kernel
theorem ex_li:likelyM exB=([1],1):=by kernel_rfl
theorem ex_t:togMz exB (everyM exB)=ff:=by kernel_rfl
theorem ex_cl:clashM exB=[0,1,2]:=by kernel_rfl
theorem zm0:askApi exB=(1,2,0):=by kernel_rfl
theorem zm2:lendApi exB=(0,2,0):=by kernel_rfl
theorem zor:giveM exB 0=0:=by kernel_rfl
theorem ex_g2:statesApi (giveB exB 0)=(2,0):=by kernel_rfl
theorem ex_g3:narrowApi (giveB exB 0)=((1,3),tt,0):=by kernel_rfl
theorem ex_lk:newsM exB (lookB exB ⟨3,tt⟩)=0:=by kernel_rfl
theorem zot:statesApi (lookB exB ⟨3,tt⟩)=(1,0):=by kernel_rfl
theorem ex_hr:newsM exB (hearB exB exX)=0:=by kernel_rfl
theorem zos:statesApi (hearB exB exX)=(2,0):=by kernel_rfl
theorem zon:statesApi exB2=(17,0):=by kernel_rfl
theorem zjc:zF exB2=0:=by kernel_rfl
theorem ex2_g:guessM exB2 (allM exB2)≠[]:=by decide +kernel
theorem zom:likelyM exB2=([1,6],0):=by kernel_rfl
theorem ex2_t:togMz exB2 (everyM exB2)=tt:=by kernel_rfl
theorem zoq:(zd exB).map (fun S=>(S.length:Int))=[1,1,1]:=by rw[zjg] <;> rfl
theorem zjf:countsM exB=[1]:=by
 unfold countsM setI msI;rw[zoq,List.mergeSort_of_pairwise dQ]
 decide +kernel
theorem zjs{main T}(hT:zo tp main T){gm}{b:Bk}{s e:Nat} :
  zl tp T gm 12 [.agg (zA b s e)] [(s,zu b)] (fun r K'=>r=zr (greatMz b)/\K'=[(s,zu b)]):=by
 refine zh 29 hT Tryz.func12 fun Y Wz=>?_;refine au 21042 ?_;intro jb hjb;refine au 1728069067042235 ?_;refine bF 8 (fun g1_5=>?_) (fun g1_5=>?_)
 ·refine au 354218032608888 ?_;refine bB Wz [(s,_)] ?_;exact⟨by unfold greatMz;rw[show decide (b.kE.length>20)=tt by have:=oT_ g1_5;simp;omega] <;> rfl,rfl⟩
 have hlen20:b.kE.length<=20:=by have:=oF_ g1_5;omega
 refine au 932507280690670 ?_;apply aI<;>intro Jz
 ·refine au 3542 ?_;refine bB Wz [(s,_)] ?_;exact⟨by unfold greatMz;rw[show decide (b.seen.length>20)=tt by have:=oT_ Jz;simp;omega,Bool.or_true] <;> rfl,rfl⟩
 refine au 13035422120 ?_;refine bA [1,3] ?_;refine bE (fun n Wq K=>∃(i:Nat),n=b.kE.length - i/\i<=b.kE.length/\((b.kE.take i).any fun x=>decide (x.name.size>100))=ff/\Wq=ym 29 [(1,.ptr jb 0),(3,za i)]/\K=[(jb,.cells (zA b s e) 27 tt),(s,zu b)]) b.kE.length ⟨0,rfl,mN _,rfl,rfl,rfl⟩ fun n Wq K hI' Wj=>?_;obtain⟨i,rfl,hi,hany,rfl,rfl⟩:=hI';refine au 9372806906701422 ?_;refine⟨fun hc=>?_,fun hc=>?_⟩
 ·simp only[dT_]at hc;have Qb:i<b.kE.length:=by omega
  obtain⟨x,hx⟩:∃ x,b.kE[i]? =some x:=⟨_,lA Qb⟩;refine au 6703601690670421302120 ?_;refine bH Z (zg Z Z ze.h mQ (zbs (says_at' b hx) dQ Z)) ?_;refine au 937290 ?_;apply aI<;>intro hc2
  ·refine au 3542 ?_;refine bB Wz [(s,_)] ?_;exact⟨by unfold greatMz;rw[zhO (p:=fun x:Says=>decide (x.name.size>100)) hx (by have:=oT_ hc2;simp;omega),Bool.or_true] <;> rfl,rfl⟩
  refine au 3523014140120 ?_;refine bA [1,3] ?_;refine bC [(jb,_),(s,_)] ?_;exact Wj _ _ _ oQ ⟨i+1,rfl,oQ,vX hx hany (by have:=oF_ hc2;simp;omega),rfl,rfl⟩
 simp only[dF_]at hc;obtain rfl:i=b.kE.length:=by omega
 refine au 3542160 ?_;refine bB Wz [(s,_)] ?_;exact⟨by unfold greatMz;rw[zmI hany,show decide (b.kE.length>20)=ff by have:=oF_ g1_5;simp;omega,show decide (b.seen.length>20)=ff by have:=oF_ Jz;simp;omega] <;> rfl,rfl⟩
theorem to_ok{main T}(hT:zo tp main T){gm}{a z:Int} :
  zl tp T gm 10 [za a,za z] [] (fun r K'=>r=.agg [za a,za z]/\K'=[]):=by
 refine zh 8 hT Tryz.func10 fun Y Wz=>?_;refine au 22042 ?_;intro j1 hj1;refine au 317039011423 ?_;refine bB Wz [] ?_;exact⟨rfl,rfl⟩
theorem zhp{main T}(hT:zo tp main T){gm}{n:Int} :
  zl tp T gm 35 [za n] [] (fun r K'=>r=.agg [za n,za n]/\K'=[]):=by
 refine zh 6 hT Tryz.func35 fun Y Wz=>?_;refine au 22042 ?_;intro j1 hj1;refine au 11423 ?_;refine TK.clE Z Z Z Z (to_ok hT) ?_;refine au 3170 ?_;refine bB Wz [] ?_;exact⟨rfl,rfl⟩
theorem zlD{main T}(hT:zo tp main T){gm}{j off j2 off2:Nat}{ob ob2:AObj}{xs ys:List Int}(hjj:j≠j2)(hI:IntsAt ob off xs)(hI2:IntsAt ob2 off2 ys)(hlx:xs.length<=100000) :
  zl tp T gm 23 [.sl j off xs.length,.sl j2 off2 ys.length] [(j,ob),(j2,ob2)] (fun r K'=>r=zr (decide (xs=ys))/\K'=[(j,ob),(j2,ob2)]):=by
 refine zh 8 hT Tryz.func23 fun Y Wz=>?_;refine au 11423542 ?_;refine TK.clE Z Z Z Z (zgR hT hjj hI hI2 hlx) ?_;refine au 35 ?_;refine bB Wz [(j,_),(j2,_)] ?_;exact⟨rfl,rfl⟩
theorem zh1{main T}(hT:zo tp main T){gm}  :
  zl tp T gm 17 [] [] (fun r K'=>∃ s e,s≠e/\r=.agg (zA exB s e)/\K'=[(s,zu exB),(e,zw exB)]):=by
 refine zh 7 hT Tryz.func17 fun Y Wz=>?_;refine au 22042 ?_;intro j1 hj1;refine au 423 ?_;refine TK.clE Z Z Z Z (zhp hT) ?_;refine au 420420420 ?_;refine bI Z Z Z (zH (l:=[_,_,_,_,_,_,_,_,_,_,_,_,_,_,_]) Z zp.h TyZ.h dQ dQ Z) (fun _=>zD rfl tQ) fun jS hjS=>?_;refine TK.freezeR 5 Z uQ Z ?_;refine au 430 ?_;refine TK.nilAgg 6 5 105 Z Z fun jE hjE=>?_;refine au 3170 ?_;refine bB Wz [(jS,_),(jE,_)] ?_;exact⟨jS,jE,fun h=>hjE (by subst h;simp[keys]),rfl,rfl⟩
theorem zaS{b:Bk}(hc:zF b=0):(statesApi b).1=(zd b).length/\(statesApi b).2=0:=by
 unfold statesApi;rw[if_neg (by simp[hc])];exact⟨rfl,rfl⟩
def fitM(b:Bk):Bool := !greatMz b&&zF b==0
structure Fits9(b:Bk):Prop where
 check:zF b=0
 names:∀ x∈b.kE,x.name.size<=1000
 seen:b.seen.length<=1000
 says:b.kE.length<=1000
 small:∀ x∈b.kE,x.name.size<=100
theorem zou{b:Bk}(h:fitM b=tt):Fits9 b:=by
 unfold fitM at h;simp only[mX,mV,beq_iff_eq]at h;obtain⟨h1,h2,h3⟩:=zbQ h.1;exact⟨h.2,fun x hx=>mT (h3 x hx) oQ,oQ,oQ,h3⟩
section
variable {P:gP}{gm:Nat->Option Nat}{T:gG->Hp->Prop}{Y:KX P gm T}{ds:List Nat}{k:List Item}{Wq Wk:List AV}{K K' K1:KV}{Qy:Array Oper}{i:Nat}{L':List Nat}{o:Oper}{envf:Nat->List AV}{Wy Wx:List Pd}
end
section
variable {P:gP}{gm:Nat->Option Nat}{T:gG->Hp->Prop}{Y:KX P gm T}{ds:List Nat}{k:List Item}{Wq Wk:List AV}{K K':KV}
end
instance:zm tp 32 4 4 ff 1:={}
instance:ze tp 28 ff 1:={}
instance:ze tp 32 tt 7:={}
instance:TyZA tp 32 [.v (.int .i64 0),.v (.int .i64 0),.v (.int .i64 0),.v (.int .i64 0),.v (.slice none 0 0),.v (.slice none 0 0),.v (.slice none 0 0)]:={}
instance:Und tp 28 (.slice 183):={}
def whoM(b:Bk)(k:Int):Int:=if (b.kE.length:Int)=0 then -1 else k % b.kE.length
theorem ziR{b:Bk}{n:Int}(h0:askM b tt=0)(hs:zS b n=tt):(atApi b n).1=wordM (zd b).length (oftM (zd b) n)/\(atApi b n).2=0:=by
 unfold atApi;rw[hs,if_neg (by simp[h0])];exact⟨rfl,rfl⟩
theorem wi{b:Bk}{k:Nat}(h0:askM b tt=0)(hk:k<b.kE.length):(wrongApi b k).1=wordM (zd b).length ((zd b).length - rightsM b (zd b) k)/\(wrongApi b k).2=0:=by
 unfold wrongApi;rw[show isSeekerM b k=tt by unfold isSeekerM;simp only[mX,dT_];omega,if_neg (by simp[h0]),mZ];exact⟨rfl,rfl⟩
theorem ziM{b:Bk}{lo hi:Int}(h0:askM b tt=0)(h1:zS b lo=tt)(h2:zS b hi=tt):(withinApi b lo hi).1=withinM b (zd b) lo ((hi - lo+b.sP) % b.sP+1)/\(withinApi b lo hi).2=0:=by
 unfold withinApi;rw[h1,h2,if_neg (by simp[h0])];exact⟨rfl,rfl⟩
theorem zdh{b:Bk}{lo w:Int}(hc:zF b=0)(h0:askM b tt=0)(hlo:0<=lo/\lo<b.sP)(hw:1<=w/\w<=b.sP):(withinApi b lo ((lo+w - 1) % b.sP)).1=withinM b (zd b) lo w/\(withinApi b lo ((lo+w - 1) % b.sP)).2=0:=by
 have h:=ziM (lo:=lo) (hi:=(lo+w - 1) % b.sP) h0 (by unfold zS;simp only[mX,dT_];omega) (zkB (yH hc) _);rw[zmA hlo.1 hlo.2 hw.1 hw.2]at h;exact h
theorem zcX{b:Bk}(h0:askM b tt=0):(narrowApi b).2.2=0/\(narrowApi b).2.1=decide (arcsOf b (List.range b.sP.toNat)≠[])/\(arcsOf b (List.range b.sP.toNat)≠[]->(narrowApi b).1=narrowM b):=by
 unfold narrowApi;rw[if_neg (by simp[h0])];by_cases h:arcsOf b (List.range b.sP.toNat)=[]
 ·rw[if_pos h];exact⟨rfl,by simp[h],fun h2=>absurd h h2⟩
 ·rw[if_neg h];exact⟨rfl,by simp[h],fun _=>rfl⟩
theorem zcJ{b:Bk}(hb:BkOk b):(countsM b).length<=1000:=by
 have h:=zci (l1:=countsM b) (l2:=[0,1,2,3]) (ziP (zh0 hb)) fun x hx=>by
  obtain⟨S,h1,rfl⟩:=(zav hb x).1 hx;have:=zey hb h1;simp only[lI,List.not_mem_nil,or_false];omega
 simp at h;omega
theorem zib{main T}(hT:zo tp main T){gm}{j off j2 off2:Nat}{ob ob2:AObj}{xs ys:List Int}(hjj:j≠j2)(hI:IntsAt ob off xs)(hI2:IntsAt ob2 off2 ys)(hlx:xs.length<=100000)(hly:ys.length<=1000) :
  zl tp T gm 103 [.sl j off xs.length,.sl j2 off2 ys.length] [(j,ob),(j2,ob2)] (fun r K'=>r=zr (xs.all fun x=>decide (x∈ys))/\K'=[(j,ob),(j2,ob2)]):=by
 refine zh 19 hT Tryz.func103 fun Y Wz=>?_;refine au 130354223542 ?_;refine bA [0,1,5] ?_;refine bE (fun n Wq K=>∃(i:Nat),n=xs.length - i/\i<=xs.length/\((xs.take i).all fun x=>decide (x∈ys))=tt/\Wq=ym 19 [(0,.sl j off xs.length),(1,.sl j2 off2 ys.length),(5,za i)]/\K=[(j,ob),(j2,ob2)]) xs.length ⟨0,rfl,mN _,rfl,rfl,rfl⟩ fun n Wq K hI' Wj=>?_;obtain⟨i,rfl,hi,hn,rfl,rfl⟩:=hI';refine au 93728011422 ?_;refine⟨fun hc=>?_,fun hc=>?_⟩
 ·simp only[dT_]at hc;have Qb:i<xs.length:=by omega
  refine au 360111421302120 ?_;refine bH Z (zg Z Z ze.h mQ (hI i Qb)) ?_;refine TK.clE Z Z Z Z (zls hT hI2 hly) ?_;refine au 0 ?_;refine bN (List.Perm.swap _ _ _) ?_;refine au 93300 ?_;apply aI<;>intro Jx
  ·refine au 3542 ?_;refine bB Wz [(j,_),(j2,_)] ?_;exact⟨by rw[show(xs.all fun x=>decide (x∈ys))=ff from List.all_eq_false.2 ⟨xs[i],List.getElem_mem Qb,by simpa using Jx⟩] <;> rfl,rfl⟩
  refine au 3523014140120 ?_;refine bA [0,1,5] ?_;refine bC [(j,_),(j2,_)] ?_;exact Wj _ _ _ oQ ⟨i+1,rfl,oQ,by rw[List.take_add_one,lA Qb,List.all_append,hn];simpa using Jx,rfl,rfl⟩
 simp only[dF_]at hc;obtain rfl:i=xs.length:=by omega
 refine au 3542160 ?_;refine bB Wz [(j,_),(j2,_)] ?_;exact⟨by rw[show(xs.all fun x=>decide (x∈ys))=tt by rwa[lW]at hn] <;> rfl,rfl⟩
theorem zpy{main T}(hT:zo tp main T){gm}{b:Bk}{s e:Nat}{k:Int}(hk:0<=k/\k<256)(hl2:b.kE.length<=1000) :
  zl tp T gm 45 [.agg (zA b s e),.v (.int .u8 k)] [] (fun r K'=>r=za (whoM b k)/\K'=[]):=by
 refine zh 15 hT Tryz.func45 fun Y Wz=>?_;refine au 21042 ?_;intro jb hjb;refine au 93728069067042235 ?_;apply aI<;>intro Jz
 ·refine au 3542 ?_;refine bB Wz [] ?_;exact⟨by unfold whoM;rw[if_pos (by simpa using Jz)] <;> rfl,rfl⟩
 have Qx:0<b.kE.length:=by have:¬ ((b.kE.length:Int)=0):=(by simpa using Jz);omega
 refine au 142120 ?_;refine bH Z (yr Z Z Und.h Und.h (kg oQ)) ?_;refine au 280690670 ?_;refine bH Z (q_rem Z Z Z oQ oQ) ?_;refine au 35 ?_;refine bB Wz [] ?_;exact⟨by unfold whoM;rw[if_neg (by simpa using Jz)] <;> rfl,rfl⟩
theorem zhQ{Ψ:gG->World->Prop}{was now:Bk}{s1 e1:Nat}{lo w wh:Int}(h:Less was now)(fw:zF was=0)(fn:zF now=0)(h1:s1≠e1)(nw:∀ x∈was.kE,x.name.size<=1000)(nn:∀ x∈now.kE,x.name.size<=1000)(lw:was.seen.length<=1000)(ln:now.seen.length<=1000)(hlo:0<=lo/\lo<was.sP)(hw:1<=w/\w<=was.sP)(hwh:wh = -1\/∃ k:Nat,wh=k/\k<was.kE.length/\k<now.kE.length/\∀ S∈zd now,yh now S k=yh was S k)(eS:zu now=zu was)(eE:zw now=zw was):zl tp (BT tp Ψ) gmR 44 [.agg (zA was s1 e1),.agg (zA now s1 e1),za lo,za w,za wh] [(0,zx),(1,zC),(s1,zu was),(e1,zw was)] (fun r K'=>r=zr tt/\K'=[(0,zx),(1,zC),(s1,zu was),(e1,zw was)]):=by
 have hT:=kI (P:=tp) Ψ;refine zh 218 hT Tryz.func44 fun Y Wz=>?_;refine au 0 ?_;have hst:=h.okw.sP;have hsn:=h.sP;have w0:=(zg3 fw).1.2 h.wne;have n0:=(zg3 fn).1.2 h.ne;have hsw:=zaS fw;have hsn1:=zaS fn;have hlw:zS was lo=tt:=by unfold zS;simp only[mX,dT_];omega
 have hln:zS now lo=tt:=by unfold zS;simp only[mX,dT_];omega
 have haw:=ziR w0 hlw;have han:=ziR n0 hln;have hmany:=h.many;have hcw:=zdh fw w0 hlo hw;have hcn:=zdh fn n0 (lo:=lo) (w:=w) oQ oQ;rw[hsn]at hcn;have hband:=h.within lo w;have hnw:=zcX w0;have hnn:=zcX n0;have hlcw:=zcJ h.okw;have hlcn:=zcJ h.okn;have hin:((countsM now).all fun x=>decide (x∈countsM was))=tt:=List.all_eq_true.2 fun x hx=>decide_eq_true (h.counts hx);have n_s:=kx hT (b:=now) h1 nn ln;rw[eS,eE]at n_s;have n_a:=zas hT (n:=lo) (b:=now) h1 nn ln;rw[eS,eE]at n_a;have n_c:=za6 (Ψ:=Ψ) (b:=now) h1 nn ln;rw[eS,eE]at n_c;have n_i:=vr hT (lo:=lo) (hi:=(lo+w - 1) % was.sP) (b:=now) h1 nn ln;rw[eS,eE]at n_i;have n_n:=vR (Ψ:=Ψ) (b:=now) h1 nn ln;rw[eS,eE]at n_n;have n_w:=wy hT (n:=wh) (b:=now) h1 nn ln;rw[eS,eE]at n_w;refine au 21042 ?_;intro jw hjw;refine au 210 ?_;intro jn hjn;refine au 6804235 ?_;refine TK.clE Z Z Z Z (kx hT (b:=was) h1 nw lw) ?_;refine au 0 ?_;rw[hsw.1,hsw.2];refine au 68042355661 ?_;refine TK.clE Z Z Z Z (n_s) ?_;refine au 0 ?_;rw[hsn1.1,hsn1.2];refine au 68042355661 ?_;refine bD Z Z Z Z (za6 (b:=was) h1 nw lw) ?_;rintro r7 K8 h9;rcases h9 with⟨hb0,rfl,rfl⟩|⟨hb0,j1,z1,rfl,rfl⟩
 ·exact absurd w0 hb0
 ·refine au 68042355661 ?_;refine bD Z Z Z Z (n_c) ?_;rintro r10 K11 h12;rcases h12 with⟨hb1,rfl,rfl⟩|⟨hb1,j2,z2,rfl,rfl⟩
  ·exact absurd n0 hb1
  ·refine au 168042355661 ?_;refine TK.clE Z Z Z Z (zas hT (n:=lo) (b:=was) h1 nw lw) ?_;refine au 0 ?_;rw[haw.1,haw.2];refine au 168042355661 ?_;refine TK.clE Z Z Z Z (n_a) ?_;refine au 0 ?_;rw[han.1,han.2];refine au 22355661 ?_;refine TK.ndz fun hnd=>?_;have hjj:j2≠j1:=fun h=>by subst h;simp[keys]at hnd
   refine au 1714 ?_;refine bF 66 (fun g7_3=>?_) (fun g7_3=>?_)
   ·simp at g7_3
   refine au 125071 ?_;refine bF 70 (fun g7_7=>?_) (fun g7_7=>?_)
   ·simp at g7_7
   refine au 125071 ?_;refine bF 74 (fun g7_11=>?_) (fun g7_11=>?_)
   ·simp at g7_11
   refine au 125071 ?_;refine bF 78 (fun g7_15=>?_) (fun g7_15=>?_)
   ·simp at g7_15
   refine au 125071 ?_;refine bF 82 (fun g7_19=>?_) (fun g7_19=>?_)
   ·simp at g7_19
   refine au 125071 ?_;refine bF 86 (fun g7_23=>?_) (fun g7_23=>?_)
   ·simp at g7_23
   refine au 11 ?_;refine TK.clE Z Z Z Z (kE hT) ?_;refine au 1250300 ?_;refine bF 92 (fun g7_29=>?_) (fun g7_29=>?_)
   ·rw[decide_eq_true hmany.1,decide_eq_true hmany.2]at g7_29;simp at g7_29
   refine au 11 ?_;refine TK.clE Z Z Z Z (zib hT hjj (zcc (countsM now) z2 3 ff) (zcc (countsM was) z1 3 ff) oQ oQ) ?_;refine au 1250300 ?_;refine bF 98 (fun g7_35=>?_) (fun g7_35=>?_)
   ·rw[hin]at g7_35;simp at g7_35
   refine au 171 ?_;refine bF 101 (fun g7_38=>?_) (fun g7_38=>?_)
   ·refine au 93250260711 ?_;apply aI<;>intro Jz
    ·rw[<- h.at_ lo (by simpa using g7_38)]at Jz;simp at Jz
    refine au 6906702402301142120 ?_;refine bH Z (q_rem Z Z Z oQ oQ) ?_;refine au 116804235 ?_;refine TK.clE Z Z Z Z (vr hT (lo:=lo) (hi:=(lo+w - 1) % was.sP) (b:=was) h1 nw lw) ?_;refine au 0 ?_;rw[hcw.1,hcw.2];refine au 220661 ?_;intro jx hjx;refine au 116804235170 ?_;refine TK.clE Z Z Z Z (n_i) ?_;refine au 0 ?_;rw[hcn.1,hcn.2];refine au 220661 ?_;intro jy hjy;refine au 6804235170 ?_;refine TK.clE Z Z Z Z (vR (b:=was) h1 nw lw) ?_;refine au 0 ?_;rw[hnw.1,hnw.2.1];refine au 680423555566661 ?_;refine TK.clE Z Z Z Z (n_n) ?_;refine au 0 ?_;rw[hnn.1,hnn.2.1];refine au 1714223555566661 ?_;refine bF 144 (fun g14_3=>?_) (fun g14_3=>?_)
    ·simp at g14_3
    refine au 125071 ?_;refine bF 148 (fun g14_7=>?_) (fun g14_7=>?_)
    ·simp at g14_7
    refine au 125071 ?_;refine bF 152 (fun g14_11=>?_) (fun g14_11=>?_)
    ·simp at g14_11
    refine au 125071 ?_;refine bF 156 (fun g14_15=>?_) (fun g14_15=>?_)
    ·simp at g14_15
    refine au 12507690670690670 ?_;refine bF 163 (fun g14_22=>?_) (fun g14_22=>?_)
    ·have:=oT_ g14_22;omega
    refine au 12507690670690670 ?_;refine bF 170 (fun g14_29=>?_) (fun g14_29=>?_)
    ·have:=oT_ g14_29;omega
    refine au 12507690670690670 ?_;refine bF 177 (fun g14_36=>?_) (fun g14_36=>?_)
    ·have:=oT_ g14_36;omega
    refine au 11 ?_;refine bF 179 (fun g14_38=>?_) (fun g14_38=>?_)
    ·have ha:=h.arcs (oT_ g14_38);have hfw:=hnw.2.2 (oT_ g14_38);have hfn:=hnn.2.2 ha.1;refine au 13001 ?_;refine bF 182 (fun g14_41=>?_) (fun g14_41=>?_)
     ·rw[decide_eq_true ha.1]at g14_41;simp at g14_41
     refine au 93250260250711 ?_;apply aI<;>intro Jx
     ·rw[hfw,hfn]at Jx;have:=oT_ Jx;omega
     refine au 9371422120 ?_;apply aI<;>intro hc2
     ·refine au 3542 ?_;refine bB Wz [(0,_),(1,_),(s1,_),(e1,_)] ?_;exact⟨rfl,rfl⟩
     obtain⟨k,rfl,hk1,hk2,hkr⟩:=hwh.resolve_left (fun h=>by have:=oF_ hc2;omega);have hww:=wi w0 hk1;have hwn:=wi n0 hk2;refine au 168042120 ?_;refine TK.clE Z Z Z Z (wy hT (n:=(k:Int)) (b:=was) h1 nw lw) ?_;refine au 0 ?_;rw[hww.1,hww.2];refine au 168042355661 ?_;refine TK.clE Z Z Z Z (n_w) ?_;refine au 0 ?_;rw[hwn.1,hwn.2];refine au 17142355661 ?_;refine bF 205 (fun g20_3=>?_) (fun g20_3=>?_)
     ·refine au 126071 ?_;refine bF 209 (fun g20_7=>?_) (fun g20_7=>?_)
      ·refine au 171 ?_;refine bF 212 (fun g20_10=>?_) (fun g20_10=>?_)
       ·refine au 35260260888 ?_;refine bB Wz [(0,_),(1,_),(s1,_),(e1,_)] ?_;exact⟨rfl,rfl⟩
       refine au 35260250711 ?_;refine bB Wz [(0,_),(1,_),(s1,_),(e1,_)] ?_;exact⟨by rw[h.wrong k hkr (by simpa using g20_10),beq_self_eq_true] <;> rfl,rfl⟩
      simp at g20_7
     simp at g20_3
    refine au 937142212019032502508888888 ?_;apply aI<;>intro hc2
    ·refine au 3542 ?_;refine bB Wz [(0,_),(1,_),(s1,_),(e1,_)] ?_;exact⟨rfl,rfl⟩
    obtain⟨k,rfl,hk1,hk2,hkr⟩:=hwh.resolve_left (fun h=>by have:=oF_ hc2;omega);have hww:=wi w0 hk1;have hwn:=wi n0 hk2;refine au 168042120 ?_;refine TK.clE Z Z Z Z (wy hT (n:=(k:Int)) (b:=was) h1 nw lw) ?_;refine au 0 ?_;rw[hww.1,hww.2];refine au 168042355661 ?_;refine TK.clE Z Z Z Z (n_w) ?_;refine au 0 ?_;rw[hwn.1,hwn.2];refine au 17142355661 ?_;refine bF 205 (fun g20_3=>?_) (fun g20_3=>?_)
    ·refine au 126071 ?_;refine bF 209 (fun g20_7=>?_) (fun g20_7=>?_)
     ·refine au 171 ?_;refine bF 212 (fun g20_10=>?_) (fun g20_10=>?_)
      ·refine au 35260260888 ?_;refine bB Wz [(0,_),(1,_),(s1,_),(e1,_)] ?_;exact⟨rfl,rfl⟩
      refine au 35260250711 ?_;refine bB Wz [(0,_),(1,_),(s1,_),(e1,_)] ?_;exact⟨by rw[h.wrong k hkr (by simpa using g20_10),beq_self_eq_true] <;> rfl,rfl⟩
     simp at g20_7
    simp at g20_3
   refine au 69067024023011421201903250250888 ?_;refine bH Z (q_rem Z Z Z oQ oQ) ?_;refine au 116804235 ?_;refine TK.clE Z Z Z Z (vr hT (lo:=lo) (hi:=(lo+w - 1) % was.sP) (b:=was) h1 nw lw) ?_;refine au 0 ?_;rw[hcw.1,hcw.2];refine au 220661 ?_;intro jx hjx;refine au 116804235170 ?_;refine TK.clE Z Z Z Z (n_i) ?_;refine au 0 ?_;rw[hcn.1,hcn.2];refine au 220661 ?_;intro jy hjy;refine au 6804235170 ?_;refine TK.clE Z Z Z Z (vR (b:=was) h1 nw lw) ?_;refine au 0 ?_;rw[hnw.1,hnw.2.1];refine au 680423555566661 ?_;refine TK.clE Z Z Z Z (n_n) ?_;refine au 0 ?_;rw[hnn.1,hnn.2.1];refine au 1714223555566661 ?_;refine bF 144 (fun g14_3=>?_) (fun g14_3=>?_)
   ·simp at g14_3
   refine au 125071 ?_;refine bF 148 (fun g14_7=>?_) (fun g14_7=>?_)
   ·simp at g14_7
   refine au 125071 ?_;refine bF 152 (fun g14_11=>?_) (fun g14_11=>?_)
   ·simp at g14_11
   refine au 125071 ?_;refine bF 156 (fun g14_15=>?_) (fun g14_15=>?_)
   ·simp at g14_15
   refine au 12507690670690670 ?_;refine bF 163 (fun g14_22=>?_) (fun g14_22=>?_)
   ·have:=oT_ g14_22;omega
   refine au 12507690670690670 ?_;refine bF 170 (fun g14_29=>?_) (fun g14_29=>?_)
   ·have:=oT_ g14_29;omega
   refine au 12507690670690670 ?_;refine bF 177 (fun g14_36=>?_) (fun g14_36=>?_)
   ·have:=oT_ g14_36;omega
   refine au 11 ?_;refine bF 179 (fun g14_38=>?_) (fun g14_38=>?_)
   ·have ha:=h.arcs (oT_ g14_38);have hfw:=hnw.2.2 (oT_ g14_38);have hfn:=hnn.2.2 ha.1;refine au 13001 ?_;refine bF 182 (fun g14_41=>?_) (fun g14_41=>?_)
    ·rw[decide_eq_true ha.1]at g14_41;simp at g14_41
    refine au 93250260250711 ?_;apply aI<;>intro Jx
    ·rw[hfw,hfn]at Jx;have:=oT_ Jx;omega
    refine au 9371422120 ?_;apply aI<;>intro hc2
    ·refine au 3542 ?_;refine bB Wz [(0,_),(1,_),(s1,_),(e1,_)] ?_;exact⟨rfl,rfl⟩
    obtain⟨k,rfl,hk1,hk2,hkr⟩:=hwh.resolve_left (fun h=>by have:=oF_ hc2;omega);have hww:=wi w0 hk1;have hwn:=wi n0 hk2;refine au 168042120 ?_;refine TK.clE Z Z Z Z (wy hT (n:=(k:Int)) (b:=was) h1 nw lw) ?_;refine au 0 ?_;rw[hww.1,hww.2];refine au 168042355661 ?_;refine TK.clE Z Z Z Z (n_w) ?_;refine au 0 ?_;rw[hwn.1,hwn.2];refine au 17142355661 ?_;refine bF 205 (fun g20_3=>?_) (fun g20_3=>?_)
    ·refine au 126071 ?_;refine bF 209 (fun g20_7=>?_) (fun g20_7=>?_)
     ·refine au 171 ?_;refine bF 212 (fun g20_10=>?_) (fun g20_10=>?_)
      ·refine au 35260260888 ?_;refine bB Wz [(0,_),(1,_),(s1,_),(e1,_)] ?_;exact⟨rfl,rfl⟩
      refine au 35260250711 ?_;refine bB Wz [(0,_),(1,_),(s1,_),(e1,_)] ?_;exact⟨by rw[h.wrong k hkr (by simpa using g20_10),beq_self_eq_true] <;> rfl,rfl⟩
     simp at g20_7
    simp at g20_3
   refine au 937142212019032502508888888 ?_;apply aI<;>intro hc2
   ·refine au 3542 ?_;refine bB Wz [(0,_),(1,_),(s1,_),(e1,_)] ?_;exact⟨rfl,rfl⟩
   obtain⟨k,rfl,hk1,hk2,hkr⟩:=hwh.resolve_left (fun h=>by have:=oF_ hc2;omega);have hww:=wi w0 hk1;have hwn:=wi n0 hk2;refine au 168042120 ?_;refine TK.clE Z Z Z Z (wy hT (n:=(k:Int)) (b:=was) h1 nw lw) ?_;refine au 0 ?_;rw[hww.1,hww.2];refine au 168042355661 ?_;refine TK.clE Z Z Z Z (n_w) ?_;refine au 0 ?_;rw[hwn.1,hwn.2];refine au 17142355661 ?_;refine bF 205 (fun g20_3=>?_) (fun g20_3=>?_)
   ·refine au 126071 ?_;refine bF 209 (fun g20_7=>?_) (fun g20_7=>?_)
    ·refine au 171 ?_;refine bF 212 (fun g20_10=>?_) (fun g20_10=>?_)
     ·refine au 35260260888 ?_;refine bB Wz [(0,_),(1,_),(s1,_),(e1,_)] ?_;exact⟨rfl,rfl⟩
     refine au 35260250711 ?_;refine bB Wz [(0,_),(1,_),(s1,_),(e1,_)] ?_;exact⟨by rw[h.wrong k hkr (by simpa using g20_10),beq_self_eq_true] <;> rfl,rfl⟩
    simp at g20_7
   simp at g20_3
structure Tot{α:Type}(lt:α->α->Bool):Prop where
 irr:∀ a,lt a a=ff
 tri:∀ a b,lt a b=ff->lt b a=ff->a=b
 tr:∀ a b c,lt a b=tt->lt b c=tt->lt a c=tt
end Go.Vel
namespace Go.Vel
open Go Go.Conc Go.Proofs
structure Widerz(b o:Bk):Prop where
 sP:o.sP=b.sP
 kE:o.kE=b.kE
 seen:o.seen=b.seen
 wrong:b.wrong<=o.wrong/\o.wrong<=3
 low:0<=o.low/\o.low<=b.low
 high:b.high<=o.high/\o.high<=3
namespace Widerz
variable {b o:Bk}
theorem rightM(h:Widerz b o)(S:List Int)(k:Nat):yh o S k=yh b S k:=by
 unfold yh wideMz inM;rw[h.kE,h.sP]
theorem glassM(h:Widerz b o)(k:Nat):Vel.glassM o k=Vel.glassM b k:=by unfold Vel.glassM;rw[h.kE]
theorem badM(h:Widerz b o)(S:List Int)(n:Nat):Vel.badM o S n=Vel.badM b S n:=by
 unfold Vel.badM;congr 1;funext k;rw[h.rightM,h.glassM]
theorem wrongL(h:Widerz b o)(S:List Int)(n:Nat):Vel.wrongL o S n=Vel.wrongL b S n:=by
 unfold Vel.wrongL;congr 2;funext k;rw[h.rightM]
theorem seenM(h:Widerz b o){S:List Int}(hs:Vel.seenM b S=tt):Vel.seenM o S=tt:=by
 unfold Vel.seenM at hs ⊢;rw[h.seen];simp only[mX,dT_]at hs ⊢;obtain⟨⟨h1,h2⟩,h3⟩:=hs;have:=h.low;have:=h.high;exact⟨⟨by omega,oQ⟩,h3⟩
theorem canM(h:Widerz b o){S:List Int}(hs:Vel.canM b S=tt):Vel.canM o S=tt:=by
 unfold Vel.canM at hs ⊢;rw[h.kE,h.badM,h.wrongL];simp only[mX,dT_]at hs ⊢;have:=h.wrong;exact⟨⟨hs.1.1,oQ⟩,h.seenM hs.2⟩
theorem checkM(h:Widerz b o)(hc:zF b=0):zF o=0:=by
 obtain⟨h1,h2,h3⟩:=(uF b).1 hc;have hr:=kA (b:=b) (by rw[h1] <;> rfl);have hst:∀ n,zS o n=zS b n:=fun n=>by unfold zS;rw[h.sP]
 refine(uF o).2 ⟨?_,?_,?_⟩
 ·have:=h.wrong;have:=h.low;have:=h.high;unfold numbersM;rw[h.sP];simp only[cond_eq_if,Bool.or_eq_true,mV,Bool.and_eq_false_iff,dF_,dT_];rw[if_neg oQ]
 ·have h4:∀ n,heardL o n=heardL b n:=fun n=>by
   induction n with
   | zero=>rfl
   | succ n ih =>
    unfold heardL;rw[ih];unfold heard1;simp only[h.kE,hst]
  unfold heardM at h2 ⊢;rw[h.kE,h4];exact h2
 ·unfold lookedM at h3 ⊢;simp only[h.seen,hst];exact h3
theorem sets(h:Widerz b o)(hb:BkOk b)(ho:BkOk o)(hh:0<=b.high){S:List Int}(hS:S∈setsB b):S∈setsB o:=by
 obtain⟨h1,h2,h3⟩:=(zeu hb hh S).1 hS;have:=h.high;exact(zeu ho oQ S).2 ⟨h1,by rw[h.sP];exact h2,oQ⟩
theorem states(h:Widerz b o)(hc:zF b=0){S:List Int}(hS:S∈zd b):S∈zd o:=by
 have hb:=yH hc;have ho:=yH (h.checkM hc);rw[zcT hb]at hS;rw[zcT ho];exact⟨h.sets hb ho (znd hc) hS.1,h.canM hS.2⟩
theorem less(h:Widerz b o)(hc:zF b=0)(hne:zd b≠[]):Less o b:=⟨yH (h.checkM hc),yH hc,h.sP.symm,fun _ hS=>h.states hc hS,hne⟩
end Widerz
end Go.Vel
namespace Go.Vel
open Go Go.Conc Go.Proofs
theorem zm4{main T}(hT:zo tp main T){gm}{b:Bk}{s e:Nat}(hse:s≠e) :
  zl tp T gm 4 [.agg (zA b s e)] [(s,zu b),(e,zw b)] (fun r K'=>r=zr (fitM b)/\K'=[(s,zu b),(e,zw b)]):=by
 refine zh 11 hT Tryz.func4 fun Y Wz=>?_;refine au 21042 ?_;intro jb hjb;refine au 6804235 ?_;refine TK.clE Z Z Z Z (zjs hT (s:=s) (e:=e)) ?_;refine au 1300 ?_;refine bF 6 (fun g1_4=>?_) (fun g1_4=>?_)
 ·obtain⟨hs1,hs2,hs3⟩:=zbQ (b:=b) (by simpa using g1_4);refine au 680 ?_;refine TK.clE Z Z Z Z (zau hT hse (fun x hx=>mT (hs3 x hx) oQ) oQ oQ) ?_;refine au 352607 ?_;refine bB Wz [(s,_),(e,_)] ?_;exact⟨by unfold fitM;rw[g1_4,Bool.true_and] <;> rfl,rfl⟩
 refine au 35250888 ?_;refine bB Wz [(s,_),(e,_)] ?_;exact⟨by unfold fitM;rw[g1_4,Bool.false_and] <;> rfl,rfl⟩
theorem pendS{Qy:Array Oper}{i:Nat}{Wy Wx:List Pd}{es:List Nat}(h:edgesOf .any Qy i=es)(h2:(Wy.filter fun p => !(es.elem p.i))=Wx):pendOf Qy i Wy=Wx:=by unfold pendOf;rw[h];exact h2
section
variable {P:gP}{gm:Nat->Option Nat}{T:gG->Hp->Prop}
theorem vK{g:FuncId}{a1:AV}{j j2 n:Nat}{ob:AObj}{l:List AV}{e:gT}{s:Nat}{Post:AV->KV->Prop}(h:zl P T gm g [a1,.sl j2 0 n] [(j,ob),(j2,.cells l e ff)] Post):zl P T gm g [a1,.row j2 n] [(j,ob),(j2,.row l e s)] Post:=by
 intro A hv hn φ F H vs c cs h0 h1 h2 h3 q;have hj:A[j2]? =some (.row l e s):=hv.get sQ;have hb:(φ j2).base=0:=(h2.obj j2 _ hj).2.1;have hst:Kstep [(j,ob),(j2,AObj.row l e s)] A [(j,ob),(j2,.cells l e ff)] (A.set j2 (.cells l e ff)):=.set hv hn (.tail .head);refine h (A.set j2 (.cells l e ff)) hst.view hst.nd φ F H vs c cs h0 (by simpa using h1) (h2.turn hj (fun ho hl=>?_) (fun h=>by cases h) (fun _=>rfl) (fun hs=>?_)) ⟨by simpa using h3.1,fun t a y ha hy=>?_⟩ fun r A' φ' H' v ⟨K',hk,hp⟩ hA Wb hH' hv'=>q r A' φ' H' v ⟨K',hst.trans hk,hp⟩ (by simpa using hA) (by simpa using Wb) hH' hv'
 ·have hc:0<(φ j2).cap:=by
   rcases mP (φ j2).cap with e|e
   ·exact absurd (ho.1 e) hl
   ·exact e
  obtain⟨cur,q1,q2,q3,q4,q5⟩:=ho.2.2 hc;exact⟨tt,cur,(_,0,0),q1,(fun h=>by cases h),fun t u hu=>by rw[hb,mO];exact q5 t u hu⟩
 ·show 0<(φ j2).cap;rcases mP (φ j2).cap with e|e
  ·exact absurd ((h2.obj j2 _ hj).1 e) hs
  ·exact e
 ·match t,ha with
  | 0,ha =>
   cases ha;simpa using h3.2 0 a1 y rfl hy
  | 1,ha =>
   cases ha;have:=wJ (j:=j2) hb (h3.2 1 _ y rfl hy);simpa[unrow]using this
  | t+2,ha=>simp at ha
end
theorem zam{main T}(hT:zo tp main T){gm}{j off j2 off2:Nat}{ob ob2:AObj}(xs:List Int)(hjj:j≠j2)(hI:IntsAt ob off xs)(hI2:IntsAt ob2 off2 xs)(hlx:xs.length<=100000) :
  zl tp T gm 23 [.sl j off xs.length,.sl j2 off2 xs.length] [(j,ob),(j2,ob2)] (fun r K'=>r=zr tt/\K'=[(j,ob),(j2,ob2)]) :=
 (zlD hT hjj hI hI2 hlx).mono fun r K' ⟨h1,h2⟩=>⟨by rw[h1,decide_eq_true rfl],h2⟩
theorem uD{b:Bk}(h:(b.kE.all fun x=>decide (x.name.size<=1000))=tt):∀ x∈b.kE,x.name.size<=1000:=fun x hx=>oT_ (List.all_eq_true.1 h x hx)
theorem ex_n1:∀ x∈exB.kE,x.name.size<=1000:=uD (by kernel_rfl)
theorem ex_n2:∀ x∈exB2.kE,x.name.size<=1000:=uD (by kernel_rfl)
theorem ex_n3:∀ x∈(giveB exB 0).kE,x.name.size<=1000:=uD (by kernel_rfl)
theorem ex_n4:∀ x∈(lookB exB ⟨3,tt⟩).kE,x.name.size<=1000:=uD (by kernel_rfl)
theorem ex_n5:∀ x∈(hearB exB exX).kE,x.name.size<=1000:=uD (by kernel_rfl)
theorem ex_l1:exB.seen.length<=1000:=by decide
theorem ex_l2:exB2.seen.length<=1000:=by decide
theorem ex_l3:(giveB exB 0).seen.length<=1000:=by decide
theorem ex_l4:(lookB exB ⟨3,tt⟩).seen.length<=1000:=by decide
theorem ex_l5:(hearB exB exX).seen.length<=1000:=by decide
theorem kb{Ψ:gG->World->Prop}:zl tp (BT tp Ψ) gmR 7 [] [(0,zx),(1,zC)] (fun r K'=>r=zr tt/\K'=[(0,zx),(1,zC)]):=by
 have hT:=kI (P:=tp) Ψ;refine zh 427 hT Tryz.func7 fun Y Wz=>?_;refine au 423542 ?_;refine bD Z Z Z Z (zh1 hT) ?_;rintro r1 K2 ⟨s,e,hse,rfl,rfl⟩;refine au 220 ?_;intro j1 hj1;refine au 23170 ?_;refine bC [(j1,_),(0,_),(1,_),(s,_),(e,_)] ?_;refine au 6804 ?_;refine bI Z Z Z (zH (l:=[_]) Z zp.h TyZ.h dQ dQ Z) (fun _=>zD rfl tQ) fun ja2 hja2=>?_;refine TK.freezeR 40 Z uQ Z ?_;refine au 0 ?_;refine TK.clE Z Z Z Z (zbR hT (b:=exB) (s:=s) (e:=e) (k:=0) (xs:=[3]) ex_n1 ex_l1 (yK [3] 3 ff) dQ) ?_;refine au 0 ?_;rw[ex_r0];refine au 2355661 ?_;refine bC [(j1,_),(0,_),(1,_),(s,_),(e,_)] ?_;refine au 6804 ?_;refine bI Z Z Z (zH (l:=[_]) Z zp.h TyZ.h dQ dQ Z) (fun _=>zD rfl tQ) fun ja3 hja3=>?_;refine TK.freezeR 46 Z uQ Z ?_;refine au 0 ?_;refine TK.clE Z Z Z Z (zbR hT (b:=exB) (s:=s) (e:=e) (k:=1) (xs:=[3]) ex_n1 ex_l1 (yK [3] 3 ff) dQ) ?_;refine au 0 ?_;rw[ex_r1];refine au 2355661 ?_;refine bC [(j1,_),(0,_),(1,_),(s,_),(e,_)] ?_;refine au 6804 ?_;refine bI Z Z Z (zH (l:=[_]) Z zp.h TyZ.h dQ dQ Z) (fun _=>zD rfl tQ) fun ja4 hja4=>?_;refine TK.freezeR 52 Z uQ Z ?_;refine au 0 ?_;refine TK.clE Z Z Z Z (zbV hT (b:=exB) (s:=s) (e:=e) hse (xs:=[3]) ex_n1 ex_l1 (yK [3] 3 ff) dQ) ?_;refine au 0 ?_;rw[ex_s3];refine au 2355661 ?_;refine bC [(j1,_),(0,_),(1,_),(s,_),(e,_)] ?_;refine au 6804 ?_;refine bI Z Z Z (zH (l:=[_]) Z zp.h TyZ.h dQ dQ Z) (fun _=>zD rfl tQ) fun ja5 hja5=>?_;refine TK.freezeR 58 Z uQ Z ?_;refine au 0 ?_;refine TK.clE Z Z Z Z (zbV hT (b:=exB) (s:=s) (e:=e) hse (xs:=[4]) ex_n1 ex_l1 (yK [4] 3 ff) dQ) ?_;refine au 0 ?_;rw[ex_s4];refine au 2355661 ?_;refine bC [(j1,_),(0,_),(1,_),(s,_),(e,_)] ?_;refine au 6804 ?_;refine TK.clE Z Z Z Z (kx hT (b:=exB) (s:=s) (e:=e) hse ex_n1 ex_l1) ?_;refine au 0 ?_;rw[ex_st];refine au 68042355661 ?_;refine bD Z Z Z Z (za6 (b:=exB) (s:=s) (e:=e) hse ex_n1 ex_l1) ?_;rintro r19 K20 h21;rcases h21 with⟨hb0,rfl,rfl⟩|⟨hb0,jc,zc,rfl,rfl⟩
 ·exact absurd zje hb0
 ·refine au 0 ?_;rw[zjf];refine au 68042355661 ?_;refine TK.clE Z Z Z Z (zas hT (b:=exB) (s:=s) (e:=e) (n:=1) hse ex_n1 ex_l1) ?_;refine au 0 ?_;rw[zop];refine au 68042355661 ?_;refine TK.clE Z Z Z Z (zas hT (b:=exB) (s:=s) (e:=e) (n:=0) hse ex_n1 ex_l1) ?_;refine au 0 ?_;rw[zoo];refine au 112507112501125030011250112503001125071125071125071125071125071125071125071171422355661 ?_;refine bI Z Z Z (zH (l:=[_]) Z zp.h TyZ.h dQ dQ Z) (fun _=>zD rfl tQ) fun jd hjd=>?_;refine TK.clE Z Z Z Z (vK (zam hT [1] (j:=jc) (j2:=jd) (fun h=>hjd (by subst h;simp[keys])) (zcc [1] zc 3 ff) (yK [1] 3 ff) dQ)) ?_;refine au 21201903250711250711250300 ?_;refine bC [(j1,_),(0,_),(1,_),(s,_),(e,_)] ?_;refine au 6804 ?_;refine bD Z Z Z Z (zg0 hT (b:=exB) (s:=s) (e:=e) hse ex_n1 ex_l1) ?_;rintro r31 K32 h33;rcases h33 with⟨hb0,rfl,rfl⟩|⟨hb0,jp,jq,rfl,rfl⟩
  ·exact absurd zje hb0
  ·refine au 0 ?_;rw[ex_p1,ex_p0];refine au 661 ?_;refine TK.freezeR 148 Z uQ Z ?_;refine au 6804235556 ?_;refine TK.clE Z Z Z Z (vr hT (b:=exB) (s:=s) (e:=e) (lo:=6) (hi:=1) hse ex_n1 ex_l1) ?_;refine au 0 ?_;rw[ex_w];refine au 220661 ?_;intro jw hjw;refine au 6804235170 ?_;refine TK.clE Z Z Z Z (vR (b:=exB) (s:=s) (e:=e) hse ex_n1 ex_l1) ?_;refine au 0 ?_;rw[ex_n];refine au 680423555566661 ?_;refine TK.clE Z Z Z Z (wy hT (b:=exB) (s:=s) (e:=e) (n:=0) hse ex_n1 ex_l1) ?_;refine au 0 ?_;rw[ex_wr];refine au 68042355661 ?_;refine bD Z Z Z Z (zeb hT (b:=exB) (s:=s) (e:=e) hse ex_n1 ex_l1) ?_;rintro r43 K44 h45;rcases h45 with⟨Jz,rfl,rfl⟩|⟨Jz,hg0,rfl,rfl⟩|⟨Jz,hg0,jl,rfl,rfl⟩
   ·exact absurd zfh Jz
   ·exact absurd hg0 ex_g0
   ·refine au 0 ?_;rw[ex_li];refine au 680423555566661 ?_;refine bD Z Z Z Z (zfa hT (b:=exB) (s:=s) (e:=e) hse ex_n1 ex_l1) ?_;rintro r46 K47 h48;rcases h48 with⟨Jz,rfl,rfl⟩|⟨Jz,hg0,rfl,rfl⟩|⟨Jz,hg0,jk,rfl,rfl⟩
    ·exact absurd zfh Jz
    ·refine au 0 ?_;rw[ex_t]at hg0;cases hg0
    ·refine au 0 ?_;rw[ex_cl];refine au 22355661 ?_;refine bC [(j1,_),(0,_),(1,_),(s,_),(e,_),(jp,_),(jq,_),(jw,_),(jl,_),(jk,_)] ?_;refine TK.dr [0,1,2,3,4,5,6,7,8,9,10,11,12,13,14,15,16,17,18,19,20,21,22,23,24,25,26,27,28,29,30,31,32,33,34,35,36,37,38,39,40,41,42,43,44,45,46,47,48,49,50,51,52,53,54,55,56,57,58,59,60,61,62,63,64,65,66,67,68,69,70,71,72,73] [0,1,2,3,4,5,6,7,8,9,10,11,12,13,14,15,16,17,18,19,20,21,22,23,24,25,26,27,28,29,30,31,32,33,34,35,36,37,38,39,40,41,42,43,44,45,46,47,48,49,50,51,52,53,54,55,56,57,58,59,60,61,62,63,64,65,66,67,68,69,70,71,72,73] ?_;refine ad [[1,3],[4,179],[1,180],[1,5,181],[4,181,182],[6,181,183],[1,184],[1,7,185],[4,185,186],[6,185,187],[1,188],[1,9,189],[4,189,190],[6,189,191],[1,192],[1,11,193],[4,193,194],[6,193,195],[1,196],[1,13,197],[4,197,198],[6,197,199],[1,200],[1,18,201]] ?_;refine bU [201,202] Z (q_len Z Z Z Und.h) ?_;refine ad [[4,201,203],[6,201,204],[1,205],[1,19,206]] ?_;refine bV (Wx:=[_,_,_,_,_,_,_,_,_,_,_,_,_,_,_,_,_,_,_,_,_,_,_,_,_,_,_,_]) [206] Z Z Z (pendS (es:=[27]) Z Z) Z (zH (l:=[_,_,_]) Z zp.h TyZ.h dQ dQ Z) (fun _=>zD rfl tQ) sQ fun jd1 hjd1=>?_;refine TD.clE (Wx:=[_,_,_,_,_,_,_,_,_,_,_,_,_,_,_,_,_,_,_,_,_,_,_,_,_,_,_]) [206,207,208] Z (pendS (es:=[28,29,27,27]) Z Z) Z Z Z (vK (zam hT [1,3,6] (j:=jq) (j2:=jd1) (fun h=>hjd1 (by subst h;simp[keys])) (yK [1,3,6] 3 ff) (yK [1,3,6] 3 ff) dQ)) ?_;refine bU [206,209] Z (q_not Z Z) ?_;refine ad [[6,206,210],[1,211],[12,20,212]] ?_;refine TD.clE (Wx:=[_,_,_,_,_,_,_,_,_,_,_,_,_,_,_,_,_,_,_,_,_,_,_,_,_,_,_,_,_,_]) [212] Z (pendS (es:=[33,33]) Z Z) Z Z Z (to_ok hT) ?_;refine bU [212,213,214] Z (zj6 Z Z Z Z Z FlatF.h EqG.h) ?_;refine ad [[6,212,215],[1,216],[1,21,217],[4,217,218],[6,217,219],[1,220],[1,22,221],[4,221,222],[6,221,223],[1,224],[1,23,225]] ?_;refine bU [225,226] Z (q_not Z Z) ?_;refine ad [[6,225,227],[1,228],[1,24,229],[4,229,230],[6,229,231],[1,232],[1,25,233]] ?_;refine bV (Wx:=[_,_,_,_,_,_,_,_,_,_,_,_,_,_,_,_,_,_,_,_,_,_,_,_,_,_,_,_,_,_,_,_,_,_,_,_,_,_,_,_,_,_,_,_,_,_,_,_,_]) [233] Z Z Z (pendS (es:=[54]) Z Z) Z (zH (l:=[_]) Z zp.h TyZ.h dQ dQ Z) (fun _=>zD rfl tQ) sQ fun jd2 hjd2=>?_;refine TD.clE (Wx:=[_,_,_,_,_,_,_,_,_,_,_,_,_,_,_,_,_,_,_,_,_,_,_,_,_,_,_,_,_,_,_,_,_,_,_,_,_,_,_,_,_,_,_,_,_,_,_,_]) [233,234,235] Z (pendS (es:=[55,56,54,54]) Z Z) Z Z Z (vK (zam hT [1] (j:=jl) (j2:=jd2) (fun h=>hjd2 (by subst h;simp[keys])) (yK [1] 3 ff) (yK [1] 3 ff) dQ)) ?_;refine bU [233,236] Z (q_not Z Z) ?_;refine ad [[6,233,237],[1,238],[1,26,239],[4,239,240],[6,239,241],[1,242],[1,27,243]] ?_;refine bU [243,244] Z (q_not Z Z) ?_;refine ad [[6,243,245],[1,246],[1,28,247]] ?_;refine bV (Wx:=[_,_,_,_,_,_,_,_,_,_,_,_,_,_,_,_,_,_,_,_,_,_,_,_,_,_,_,_,_,_,_,_,_,_,_,_,_,_,_,_,_,_,_,_,_,_,_,_,_,_,_,_,_,_,_,_,_,_,_]) [247] Z Z Z (pendS (es:=[68]) Z Z) Z (zH (l:=[_,_,_]) Z zp.h TyZ.h dQ dQ Z) (fun _=>zD rfl tQ) sQ fun jd3 hjd3=>?_;refine TD.clE (Wx:=[_,_,_,_,_,_,_,_,_,_,_,_,_,_,_,_,_,_,_,_,_,_,_,_,_,_,_,_,_,_,_,_,_,_,_,_,_,_,_,_,_,_,_,_,_,_,_,_,_,_,_,_,_,_,_,_,_,_]) [247,248,249] Z (pendS (es:=[69,70,68,68]) Z Z) Z Z Z (vK (zam hT [0,1,2] (j:=jk) (j2:=jd3) (fun h=>hjd3 (by subst h;simp[keys])) (yK [0,1,2] 3 ff) (yK [0,1,2] 3 ff) dQ)) ?_;refine bU [247,250] Z (q_not Z Z) ?_;refine ad [[6,247,251],[14]] ?_;refine au 2120190 ?_;refine bC [(j1,_),(0,_),(1,_),(s,_),(e,_)] ?_;refine au 6804 ?_;refine TK.clE Z Z Z Z (ziQ hT (b:=exB) (s:=s) (e:=e) hse ex_n1 ex_l1) ?_;refine au 0 ?_;rw[zm0];refine au 6804235556661 ?_;refine TK.clE Z Z Z Z (zie hT (b:=exB) (s:=s) (e:=e) hse ex_n1 ex_l1) ?_;refine au 0 ?_;rw[zm2];refine au 6804235556661 ?_;refine bD Z Z Z Z (zna hT (b:=exB) (s:=s) (e:=e) (n:=0) hse ex_n1 ex_l1) ?_;rintro r67 K68 h69;rcases h69 with⟨hb0,rfl,rfl⟩|⟨hb0,g3,g2,rfl,rfl⟩
     ·exact absurd zor hb0
     ·refine au 0 ?_;refine TK.ndz fun hnd=>?_;have hg3:g3≠g2:=fun h=>by subst h;simp[keys]at hnd
      try rw[show(0:Int).toNat=0 from rfl]
      refine au 220661 ?_;intro jg hjg;refine au 6804235170 ?_;refine TK.clE Z Z Z Z (kx hT (b:=giveB exB 0) (s:=g3) (e:=g2) hg3 ex_n3 ex_l3) ?_;refine au 0 ?_;rw[ex_g2];refine au 68042355661 ?_;refine TK.clE Z Z Z Z (vR (b:=giveB exB 0) (s:=g3) (e:=g2) hg3 ex_n3 ex_l3) ?_;refine au 0 ?_;rw[ex_g3];refine au 23555566661 ?_;refine bC [(j1,_),(0,_),(1,_),(s,_),(e,_),(jg,_)] ?_;refine au 6804 ?_;refine bD Z Z Z Z (znk hT (b:=exB) (s:=s) (e:=e) (n:=3) (sm:=tt) hse ex_n1 ex_l1) ?_;rintro r76 K77 h78;rcases h78 with⟨hb0,rfl,rfl⟩|⟨hb0,l3,l2,rfl,rfl⟩
      ·exact absurd ex_lk hb0
      ·refine au 0 ?_;refine TK.ndz fun hnd=>?_;have hl3:l3≠l2:=fun h=>by subst h;simp[keys]at hnd
       refine au 6804235170661 ?_;refine TK.clE Z Z Z Z (kx hT (b:=lookB exB ⟨3,tt⟩) (s:=l3) (e:=l2) hl3 ex_n4 ex_l4) ?_;refine au 0 ?_;rw[zot];refine au 2355661 ?_;refine bC [(j1,_),(0,_),(1,_),(s,_),(e,_),(jg,_)] ?_;refine au 4206804 ?_;refine bD Z Z Z Z (znc hT (b:=exB) (s:=s) (e:=e) (x:=exX) hse ex_n1 ex_l1 dQ) ?_;rintro r82 K83 h84;rcases h84 with⟨hb0,rfl,rfl⟩|⟨hb0,h3,h2,rfl,rfl⟩
       ·exact absurd ex_hr hb0
       ·refine au 0 ?_;refine TK.ndz fun hnd=>?_;have hh3:h3≠h2:=fun h=>by subst h;simp[keys]at hnd
        refine au 6804235170661 ?_;refine TK.clE Z Z Z Z (kx hT (b:=hearB exB exX) (s:=h3) (e:=h2) hh3 ex_n5 ex_l5) ?_;refine au 0 ?_;rw[zos];refine au 212019032507112507112503001125071125071125071125071125071125071125071125071125071125071125071125071125071125071125071171422355661 ?_;refine bC [(j1,_),(0,_),(1,_),(s,_),(e,_)] ?_;refine au 4 ?_;refine TK.clE Z Z Z Z (zhp hT) ?_;refine au 680423170670 ?_;refine TK.clE Z Z Z Z (kx hT (b:=exB2) (s:=s) (e:=e) hse ex_n2 ex_l2) ?_;refine au 0 ?_;rw[zon];refine au 68042355661 ?_;refine bD Z Z Z Z (zeb hT (b:=exB2) (s:=s) (e:=e) hse ex_n2 ex_l2) ?_;rintro r94 K95 h96;rcases h96 with⟨Jz,rfl,rfl⟩|⟨Jz,hg0,rfl,rfl⟩|⟨Jz,hg0,jl2,rfl,rfl⟩
        ·exact absurd zjc Jz
        ·exact absurd hg0 ex2_g
        ·refine au 0 ?_;rw[zom];refine au 680423555566661 ?_;refine bD Z Z Z Z (zfa hT (b:=exB2) (s:=s) (e:=e) hse ex_n2 ex_l2) ?_;rintro r97 K98 h99;rcases h99 with⟨Jz,rfl,rfl⟩|⟨Jz,hg0,rfl,rfl⟩|⟨Jz,hg0,jk2,rfl,rfl⟩
         ·exact absurd zjc Jz
         ·refine au 112607112607112607117142355661 ?_;refine bI Z Z Z (zH (l:=[_,_]) Z zp.h TyZ.h dQ dQ Z) (fun _=>zD rfl tQ) fun jd4 hjd4=>?_;refine TK.clE Z Z Z Z (vK (zam hT [1,6] (j:=jl2) (j2:=jd4) (fun h=>hjd4 (by subst h;simp[keys])) (yK [1,6] 3 ff) (yK [1,6] 3 ff) dQ)) ?_;refine au 3526072801126011260711260 ?_;refine bB Wz [(0,_),(1,_)] ?_;exact⟨rfl,rfl⟩
         ·refine au 0 ?_;rw[ex2_t]at hg0;cases hg0
def seamsB(b:Bk)(n:Int):Bk:={ b with low:=0,high:=n }
theorem zgS{b:Bk}(hc:zF b=0){n1 n2:Int}(hn:0<=n2/\n2<=n1/\n1<=3):Widerz (seamsB b n2) (seamsB b n1):=by
 obtain⟨h1,h2,h3,h4,h5,h6,h7⟩:=kA (b:=b) (by rw[((uF b).1 hc).1] <;> rfl);exact⟨rfl,rfl,rfl,⟨Int.le_refl _,by show b.wrong<=3;omega⟩,⟨Int.le_refl _,Int.le_refl _⟩,hn.2⟩
theorem zoc{b:Bk}(k:Int):whoM b k = -1\/∃ q:Nat,whoM b k=q/\q<b.kE.length:=by
 unfold whoM;split
 ·exact .inl rfl
 ·rename_i h;have h1:=Int.emod_nonneg k (show(b.kE.length:Int)≠0 from h);have h2:=Int.emod_lt_of_pos k (show 0<(b.kE.length:Int) by omega);exact .inr ⟨(k % b.kE.length).toNat,oQ,oQ⟩
theorem uH{Ψ:gG->World->Prop}{b:Bk}{s e:Nat}{n1 n2 k3 k4 k5:Int}(hse:s≠e)(Jz:zF b=0)(hn12:0<=n2/\n2<=n1/\n1<=3)(hn:∀ x∈b.kE,x.name.size<=1000)(hl:b.seen.length<=1000)(hl2:b.kE.length<=1000)(hk3:0<=k3/\k3<256)(hk4:0<=k4/\k4<256)(hk5:0<=k5/\k5<256):zl tp (BT tp Ψ) gmR 11 [.agg (zA (seamsB b n1) s e),.agg (zA (seamsB b n2) s e),.v (.int .u8 k3),.v (.int .u8 k4),.v (.int .u8 k5)] [(0,zx),(1,zC),(s,zu b),(e,zw b)] (fun r K'=>r=zr tt/\K'=[(0,zx),(1,zC),(s,zu b),(e,zw b)]):=by
 have hT:=kI (P:=tp) Ψ;refine zh 51 hT Tryz.func11 fun Y Wz=>?_;refine au 21042 ?_;intro jw hjw;refine au 210 ?_;intro jn hjn;refine au 68042235 ?_;refine TK.clE Z Z Z Z (zau hT (b:=(seamsB b n1)) hse hn hl hl2) ?_;refine au 17 ?_;refine bF 16 (fun g1_4=>?_) (fun g1_4=>?_)
 ·refine au 35421803260888 ?_;refine bB Wz [(0,_),(1,_),(s,_),(e,_)] ?_;exact⟨rfl,rfl⟩
 have hwas:zF (seamsB b n1)=0:=by simpa using g1_4
 refine au 680 ?_;refine TK.clE Z Z Z Z (zau hT (b:=(seamsB b n2)) hse hn hl hl2) ?_;refine au 932507 ?_;refine⟨fun hcc=>?_,fun hcc=>?_⟩
 ·refine au 3542 ?_;refine bB Wz [(0,_),(1,_),(s,_),(e,_)] ?_;exact⟨rfl,rfl⟩
 have hnow:zF (seamsB b n2)=0:=by simpa using hcc
 have hw:=zgS Jz hn12;have hs2:=zaS hnow;have e9:(seamsB b n1).sP=b.sP:=rfl;obtain⟨u1,u2,u3,u4,u5,u6,u7⟩:=kA (b:=b) (by rw[((uF b).1 Jz).1] <;> rfl);have m3:=Int.emod_nonneg k3 (show b.sP≠0 by omega);have m3':=Int.emod_lt_of_pos k3 (show 0<b.sP by omega);have m4:=Int.emod_nonneg k4 (show b.sP≠0 by omega);have m4':=Int.emod_lt_of_pos k4 (show 0<b.sP by omega);have n4:0<=k4 % (seamsB b n1).sP:=m4;have n4':k4 % (seamsB b n1).sP<b.sP:=m4';refine au 68042120 ?_;refine TK.clE Z Z Z Z (kx hT (b:=(seamsB b n2)) hse hn hl) ?_;refine au 0 ?_;rw[hs2.1,hs2.2];refine au 2355661 ?_;refine bL [0,1,2,3,4,5,6,7,8,9,10,11,12,13,14,15,16,17,18,19,20,21,22,23,24,25] ?_;refine ad [[1,12],[4,26],[1,27]] ?_;refine TD.sp 28 (fun g4_3=>?_) (fun g4_3=>?_)
 ·refine ad [[1,11,28],[4,28,29],[1,28,30]] ?_;refine TD.sp 31 (fun g4_6=>?_) (fun g4_6=>?_)
  ·refine ad [[11,5,31],[11,6,31],[11,2,31],[11,31,34],[11,5,31],[11,31,36],[11,31,35,37],[11,3,31],[11,31,39],[11,5,31],[11,31,41],[11,31,40,42],[11,31,43],[11,5,31],[11,4,31],[11,31,45,46],[11,31,32,33,38,44,47],[7,28,31,48],[7,28,49],[13,50],[14]] ?_;refine au 0 ?_;refine bB Wz [(0,_),(1,_),(s,_),(e,_)] ?_;exact⟨rfl,rfl⟩
  have hne:zd (seamsB b n2)≠[]:=fun h=>by rw[h]at g4_6;cases g4_6
  refine ad [[12,5,31],[12,6,31],[1,2,31]] ?_;refine bU [31,34] Z (yr Z Z Und.h Und.h (kg oQ)) ?_;refine ad [[3,5,31],[10,31,36]] ?_;refine bU [31,35,37] Z (q_rem Z Z Z oQ oQ) ?_;refine ad [[1,3,31]] ?_;refine bU [31,39] Z (yr Z Z Und.h Und.h (kg oQ)) ?_;refine ad [[3,5,31],[10,31,41]] ?_;refine bU [31,40,42] Z (q_rem Z Z Z oQ oQ) ?_;refine ad [[8,31,43],[12,5,31],[1,4,31]] ?_;refine TD.clE (Wx:=[_,_,_,_,_,_,_,_,_,_,_,_,_,_,_,_,_,_]) [31,45,46] Z Z Z Z Z (zpy hT (b:=(seamsB b n1)) hk5 hl2) ?_;refine TD.clE (Wx:=[_,_,_,_,_,_,_,_,_,_,_,_,_,_]) [31,32,33,38,44,47] Z Z Z Z Z (zhQ (was:=(seamsB b n1)) (now:=(seamsB b n2)) (lo:=k3 % b.sP) (w:=1+k4 % b.sP) (wh:=whoM (seamsB b n1) k5) (hw.less hnow hne) hwas hnow hse hn hn hl hl ⟨m3,m3'⟩ ⟨by omega,by show _<=b.sP;omega⟩ ((zoc k5).imp id fun⟨q,h1,h2⟩=>⟨q,h1,h2,h2,fun S _=>(hw.rightM S q).symm⟩) rfl rfl) ?_;refine ad [[6,28,31,48],[7,28,49],[13,50],[14]] ?_;refine au 0 ?_;refine bB Wz [(0,_),(1,_),(s,_),(e,_)] ?_;exact⟨rfl,rfl⟩
 simp at g4_3
def greatM(b:RBk):Bool:=decide (b.sE.length>20)||decide (b.sH.length>20)||decide (b.mE.length>20)
theorem zll{main T}(hT:zo tp main T){gm}{b:RBk}{s h e:Nat} :
  zl tp T gm 14 [.agg (zP b s h e)] [] (fun r K'=>r=zr (greatM b)/\K'=[]):=by
 refine zh 19 hT Tryz.func14 fun Y Wz=>?_;refine au 21042 ?_;intro jb hjb;refine au 172806906704235 ?_;refine bF 7 (fun g1_5=>?_) (fun g1_5=>?_)
 ·refine au 35260888812608888 ?_;refine bB Wz [] ?_;exact⟨by unfold greatM;rw[show decide (b.sE.length>20)=tt by simp at g1_5;simp;omega];rfl,rfl⟩
 refine au 12507280690670 ?_;refine bF 13 (fun g1_11=>?_) (fun g1_11=>?_)
 ·refine au 352608888 ?_;refine bB Wz [] ?_;exact⟨by unfold greatM;rw[show decide (b.sH.length>20)=tt by simp at g1_11;simp;omega];simp,rfl⟩
 refine au 352507280690670 ?_;refine bB Wz [] ?_;exact⟨by unfold greatM;rw[show decide (b.sE.length>20)=ff by simp at g1_5;simp;omega,show decide (b.sH.length>20)=ff by simp at g1_11;simp;omega,Bool.false_or,Bool.false_or];exact congrArg _ (congrArg _ (decide_eq_decide.2 oQ)),rfl⟩
theorem yT{main T}(hT:zo tp main T){gm}{n lo hi:Int} :
  zl tp T gm 46 [za n,za lo,za hi] [] (fun r K'=>r=zr (betw n lo hi)/\K'=[]):=by
 refine zh 15 hT Tryz.func46 fun Y Wz=>?_;refine au 1711423542 ?_;refine bF 10 (fun g1_4=>?_) (fun g1_4=>?_)
 ·refine au 35260711 ?_;refine TK.rta Wz ?_;exact⟨by simp[zr,betw,g1_4],rfl⟩
 refine au 35250888 ?_;refine TK.rta Wz ?_;exact⟨by simp[zr,betw,g1_4],rfl⟩
theorem zic{main T}(hT:zo tp main T){gm}{x:RBand}{lo hi:Int} :
  zl tp T gm 47 [.agg (bandC x),za lo,za hi] [] (fun r K'=>r=zr (isBd x lo hi)/\K'=[]):=by
 refine zh 24 hT Tryz.func47 fun Y Wz=>?_;refine au 21042 ?_;intro j1 hj1;refine au 1769067014235 ?_;refine bF 11 (fun g1_5=>?_) (fun g1_5=>?_)
 ·refine au 12607690670690670 ?_;refine bF 18 (fun g1_12=>?_) (fun g1_12=>?_)
  ·refine au 3526071690670 ?_;refine bB Wz [] ?_;exact⟨by simp_all[isBd,bandC] <;> (intros;omega),rfl⟩
  refine au 352508888 ?_;refine bB Wz [] ?_;exact⟨by simp_all[isBd,bandC] <;> (intros;omega),rfl⟩
 refine au 352508888125088888 ?_;refine bB Wz [] ?_;exact⟨by simp_all[isBd,bandC] <;> (intros;omega),rfl⟩
theorem zeD{main T}(hT:zo tp main T){gm}{b:RBk}{s h e i:Nat}(hr:RndOk b)(hs:SmOk b)(hi:i<b.sE.length) :
  zl tp T gm 104 [.agg (zP b s h e),za i] [(s,zt b)] (fun r K'=>r=za (wideM b i)/\K'=[(s,zt b)]):=by
 refine zh 40 hT Tryz.func104 fun Y Wz=>?_;refine au 0 ?_;have h5:=hs.len;have hst:=hr.sP;have f0:=hs.fld 0 oQ;have fi:=hs.fld i hi;refine au 21042 ?_;intro jb hjb;refine au 937280690670230142235 ?_;apply aI<;>intro Jz
 ·have Qp:i+1<b.sE.length:=by simp at Jz;omega
  have fn:=hs.fld (i+1) Qp;refine au 2 ?_;refine bL [0,1,2,3,4,5,6,7,8,9,10,11,12,13,14] ?_;refine ad [[3,2],[10,11],[1,1],[8,13],[2,12,14],[3,15]] ?_;refine bT [16] Z (hq:=zg Z Z ze.h (mC _) (yB (c:=0) (sm_at (i:=i+1) b Qp Z) dQ Z)) (h:=?_);refine ad [[3,2],[10,18],[1,1],[2,19,20],[3,21]] ?_;refine bT [22] Z (hq:=zg Z Z ze.h (mC _) (yB (c:=0) (sm_at (i:=i) b hi Z) dQ Z)) (h:=?_);refine ad [[9,17,23],[13,24],[14]] ?_;refine au 0 ?_;refine bB Wz [(s,_)] ?_;exact⟨by unfold wideM;rw[if_pos Qp];rfl,rfl⟩
 have Qp:¬ i+1<b.sE.length:=by simp at Jz;omega
 refine au 2120 ?_;refine bL [0,1,2,3,4,5,6,7,8,9,10,11,12,13,14,15] ?_;refine ad [[3,2],[10,25],[2,26],[3,27]] ?_;refine bT [28] Z (hq:=zg Z Z ze.h (mC _) (yB (c:=0) (sm_at (i:=0) b oQ Z) dQ Z)) (h:=?_);refine ad [[3,2],[10,30],[8,29,31],[3,2],[10,33],[1,1],[2,34,35],[3,36]] ?_;refine bT [37] Z (hq:=zg Z Z ze.h (mC _) (yB (c:=0) (sm_at (i:=i) b hi Z) dQ Z)) (h:=?_);refine ad [[9,32,38],[13,39],[14]] ?_;refine au 0 ?_;refine bB Wz [(s,_)] ?_;exact⟨by unfold wideM;rw[if_neg Qp];rfl,rfl⟩
theorem zkq{main T}(hT:zo tp main T){gm}{b:RBk}{s h e:Nat}(hr:RndOk b)(hl:b.sE.length<=100) :
  zl tp T gm 50 [.agg (zP b s h e)] [(s,zt b)] (fun r K'=>r=za (seamsM b)/\K'=[(s,zt b)]):=by
 refine zh 61 hT Tryz.func50 fun Y Wz=>?_;refine au 0 ?_;have hst:=hr.sP;refine au 21042 ?_;intro jb hjb;refine au 28069067042235 ?_;refine TK.clE Z Z Z Z (yT hT) ?_;refine au 93300 ?_;apply aI<;>intro Jz
 ·refine au 3542 ?_;refine bB Wz [(s,_)] ?_;simp only[mV,mW]at Jz;exact⟨by simp[seamsM,Jz],rfl⟩
 simp only[mV,mW]at Jz;have hl5:=zcC Jz;refine au 13035422120 ?_;refine bA [1,2,3] ?_;refine bE (fun n Wq K=>∃(i:Nat)(last:Int),n=b.sE.length - i/\i<=b.sE.length/\seamsL b last (b.sE.drop i)=seamsM b/\(0<i->last=(sm b (i - 1)).step)/\(i=0->last = -1)/\Wq=.any::.ptr jb 0::za 0::za i::naL 57 []/\K=[(jb,.cells (zP b s h e) 32 tt),(s,zt b)]) b.sE.length ⟨0,-1,rfl,mN _,by unfold seamsM;rw[if_neg (by rw[Jz];decide)];rfl,fun h=>absurd h (Nat.lt_irrefl _),fun _=>rfl,rfl,rfl⟩ fun n Wq K hI Wj=>?_;obtain⟨i,last,rfl,hi,Qz,hlast,hlast0,rfl,rfl⟩:=hI;refine bG nQ ?_;refine au 9372806906701422 ?_;apply aI<;>intro Jx
 ·have Qb:i<b.sE.length:=by simp at Jx;omega
  refine au 3601690670421302120 ?_;refine bH Z (zK Z Z ze.h mQ (sm_at (i:=i) b Qb Z)) ?_;refine au 220 ?_;intro jx hjx;refine au 2406906706906704223170 ?_;refine TK.clE Z Z Z Z (yT hT) ?_;refine au 1300 ?_;refine bF 29 (fun g7_8=>?_) (fun g7_8=>?_)
  ·refine au 3542180326088881260888812608888 ?_;refine bB Wz [(s,_)] ?_;exact⟨by rw[<- Qz,zY (kv Qb),seamsL,if_pos (by simp only[mV,mW]at g7_8;simp[seamB,g7_8])],rfl⟩
  refine au 690670 ?_;refine TK.clE Z Z Z Z (yT hT) ?_;refine au 1250300 ?_;refine bF 35 (fun g7_14=>?_) (fun g7_14=>?_)
  ·refine au 35421803260888812608888 ?_;refine bB Wz [(s,_)] ?_;exact⟨by rw[<- Qz,zY (kv Qb),seamsL,if_pos (by simp only[mV,mW]at g7_8 g7_14;simp[seamB,g7_8,g7_14])],rfl⟩
  refine au 690670 ?_;refine TK.clE Z Z Z Z (yT hT) ?_;refine au 1250300 ?_;refine bF 41 (fun g7_20=>?_) (fun g7_20=>?_)
  ·refine au 354218032608888 ?_;refine bB Wz [(s,_)] ?_;exact⟨by rw[<- Qz,zY (kv Qb),seamsL,if_pos (by simp only[mV,mW]at g7_8 g7_14 g7_20;simp[seamB,g7_8,g7_14,g7_20])],rfl⟩
  refine au 690670 ?_;refine TK.clE Z Z Z Z (yT hT) ?_;refine au 93250300 ?_;apply aI<;>intro hc2
  ·refine au 3542 ?_;refine bB Wz [(s,_)] ?_;exact⟨by rw[<- Qz,zY (kv Qb),seamsL,if_pos (by simp only[mV,mW]at g7_8 g7_14 g7_20 hc2;simp[seamB,g7_8,g7_14,g7_20,hc2])],rfl⟩
  have hsb:seamB b (sm b i)=tt:=by simp only[mV,mW]at g7_8 g7_14 g7_20 hc2;simp[seamB,g7_8,g7_14,g7_20,hc2]
  refine au 2120 ?_;refine bL [0,1,2,3,4,5,6,7,8,9,10,11,12,13] ?_;refine ad [[1,3],[4,47],[1,48]] ?_;refine TD.sp 49 (fun g9_3=>?_) (fun g9_3=>?_)
  ·have hi0:0<i:=by simp at g9_3;omega
   refine ad [[3,4,49],[10,49,50],[3,1,49],[10,49,52],[1,3,49],[9,49,54],[2,49,53,55],[3,49,56]] ?_;refine bT [49,57] Z (hq:=zg Z Z ze.h (mC _) (yB (c:=0) (sm_at (i:=i - 1) b oQ oQ) dQ Z)) (h:=?_);refine ad [[4,49,51,58],[7,49,59],[14]] ?_;refine au 9 ?_;apply aI<;>intro hc3
   ·refine au 3542 ?_;refine bB Wz [(s,_)] ?_;exact⟨by rw[<- Qz,zY (kv Qb),seamsL,if_neg (by rw[hsb];decide),if_pos (by rw[hlast (by simp at g9_3;omega)];exact oT_ hc3)],rfl⟩
   refine au 3523014140120 ?_;refine bA [1,2,3] ?_;refine bC [(jb,_),(s,_)] ?_;exact Wj _ _ _ oQ ⟨i+1,(sm b i).step,rfl,oQ,by rw[<- Qz,zY (kv Qb),seamsL,if_neg (by rw[hsb];decide),if_neg (by rw[hlast (by simp at g9_3;omega)];exact oF_ hc3)],fun _=>rfl,fun h=>by omega,rfl,rfl⟩
  refine ad [[11,4,49],[11,49,50],[11,1,49],[11,49,52],[11,3,49],[11,49,54],[11,49,53,55],[11,49,56],[11,49,57],[11,49,51,58],[6,49,59],[14]] ?_;refine au 3523014140120190 ?_;refine bA [1,2,3] ?_;refine bC [(jb,_),(s,_)] ?_;exact Wj _ _ _ oQ ⟨i+1,(sm b i).step,rfl,oQ,by have h0:=(zhy hsb).1;rw[<- Qz,zY (kv Qb),seamsL,if_neg (by rw[hsb];decide),if_neg (by rw[hlast0 (by simp at g9_3;omega)];omega)],fun _=>rfl,fun h=>by omega,rfl,rfl⟩
 obtain rfl:i=b.sE.length:=by simp at Jx;omega
 refine au 3542160 ?_;refine bB Wz [(s,_)] ?_;exact⟨by rw[<- Qz,List.drop_length];rfl,rfl⟩
theorem zhW{main T}(hT:zo tp main T){gm}{b:RBk}{s h e:Nat}(hr:RndOk b)(hs:SmOk b)(hm:b.mE.length<=100) :
  zl tp T gm 51 [.agg (zP b s h e)] [(s,zt b),(h,zX b),(e,zG b)] (fun r K'=>r=za (if clothsM b≠0 then clothsM b else measM b)/\K'=[(s,zt b),(h,zX b),(e,zG b)]):=by
 refine zh 80 hT Tryz.func51 fun Y Wz=>?_;refine au 0 ?_;have hst:=hr.sP;have hl5:=hs.len;refine au 21042 ?_;intro jb hjb;refine au 93728069067028069067042235 ?_;apply aI<;>intro Jz
 ·refine au 3542 ?_;refine bB Wz [(s,_),(h,_),(e,_)] ?_;exact⟨by rw[show clothsM b=2 by unfold clothsM;rw[if_pos (by simp at Jz;omega)]];rfl,rfl⟩
 have hle:b.sH.length=b.sE.length:=by simp at Jz;omega
 refine au 13035422120 ?_;refine bA [1,2,3] ?_;refine bE (fun n Wq K=>∃(i:Nat),n=b.sH.length - i/\i<=b.sH.length/\clothsL b i (b.sH.drop i)=clothsM b/\Wq=.any::.ptr jb 0::za 0::za i::naL 76 []/\K=[(jb,.cells (zP b s h e) 32 tt),(s,zt b),(h,zX b),(e,zG b)]) b.sH.length ⟨0,rfl,mN _,by unfold clothsM;rw[if_neg (by simpa using hle)];rfl,rfl,rfl⟩ fun n Wq K hI Wj=>?_;obtain⟨i,rfl,hi,Qz,rfl,rfl⟩:=hI;refine bG nQ ?_;refine au 9372806906701422 ?_;apply aI<;>intro Jx
 ·have Qb:i<b.sH.length:=by simp at Jx;omega
  refine au 3601690670421302120 ?_;refine bH Z (zK Z Z ze.h mQ (bd_at (i:=i) b Qb Z)) ?_;refine au 220 ?_;intro jx hjx;refine au 6804223170 ?_;refine TK.clE Z Z Z Z (zic hT (x:=bd b i)) ?_;refine au 1300 ?_;refine bF 29 (fun g7_4=>?_) (fun g7_4=>?_)
  ·refine au 35421803260888888 ?_;refine bB Wz [(s,_),(h,_),(e,_)] ?_;exact⟨by rw[show clothsM b=1 by rw[<- Qz,zY (kJ Qb),clothsL,if_pos (by simp at g7_4;simp[bandB,g7_4])]];rfl,rfl⟩
  have hbd:0<=(bd b i).low/\(bd b i).low<=(bd b i).high/\(bd b i).high<=5:=by simp[isBd]at g7_4;omega
  refine au 932507240690670690670 ?_;apply aI<;>intro hc2
  ·refine au 3542 ?_;refine bB Wz [(s,_),(h,_),(e,_)] ?_;exact⟨by rw[show clothsM b=1 by rw[<- Qz,zY (kJ Qb),clothsL,if_pos (by simp at g7_4 hc2;simp[bandB,g7_4] <;> omega)]];rfl,rfl⟩
  have hbb:bandB (bd b i)=tt:=by simp at g7_4 hc2;simp[bandB,g7_4];omega
  refine au 2120 ?_;refine bL [0,1,2,3,4,5] ?_;refine ad [[3,4],[10,37],[12,1],[1,3]] ?_;refine TD.clE (Wx:=[_,_]) [39,40] Z Z Z Z Z (zeD hT (i:=i) hr hs oQ) ?_;refine ad [[4,38,41],[14]] ?_;refine au 9 ?_;apply aI<;>intro hc3
  ·refine au 3542 ?_;refine bB Wz [(s,_),(h,_),(e,_)] ?_;exact⟨by rw[show clothsM b=8 by rw[<- Qz,zY (kJ Qb),clothsL,if_neg (by rw[hbb];decide),if_pos (oT_ hc3)]];rfl,rfl⟩
  refine au 3523014140120 ?_;refine bA [1,2,3] ?_;refine bC [(jb,_),(s,_),(h,_),(e,_)] ?_;exact Wj _ _ _ oQ ⟨i+1,rfl,oQ,by rw[<- Qz,zY (kJ Qb),clothsL,if_neg (by rw[hbb];decide),if_neg (oF_ hc3)],rfl,rfl⟩
 obtain rfl:i=b.sH.length:=by simp at Jx;omega
 have hcl:clothsM b=0:=by rw[<- Qz,List.drop_length];rfl
 refine au 937280690670422160 ?_;apply aI<;>intro hc4
 ·refine au 3542 ?_;refine bB Wz [(s,_),(h,_),(e,_)] ?_;exact⟨by rw[if_neg (fun h=>h hcl),show measM b=2 by unfold measM;rw[if_pos (by simp at hc4;omega)]],rfl⟩
 refine au 13035422120 ?_;refine bA [1,2,5] ?_;refine bE (fun n Wq K=>∃(i:Nat),n=b.mE.length - i/\i<=b.mE.length/\measL b (b.mE.drop i)=measM b/\Wq=.any::.ptr jb 0::za 0::naL 2 (za i::naL 74 [])/\K=[(jb,.cells (zP b s h e) 32 tt),(s,zt b),(h,zX b),(e,zG b)]) b.mE.length ⟨0,rfl,mN _,by unfold measM;rw[if_neg (by simp at hc4;omega)];rfl,rfl,rfl⟩ fun n Wq K hI Wj=>?_;obtain⟨i,rfl,hi,hinv2,rfl,rfl⟩:=hI;refine bG nQ ?_;refine au 9372806906701422 ?_;apply aI<;>intro hc5
 ·have Qb:i<b.mE.length:=by simp at hc5;omega
  obtain⟨x,hg⟩:∃ x,b.mE[i]? =some x:=⟨_,lA Qb⟩;refine au 3601690670421302120 ?_;refine bH Z (zK Z Z ze.h mQ (zfK (i:=i) hg Z)) ?_;refine au 220 ?_;intro jy hjy;refine au 2402806906706906704223170 ?_;refine TK.clE Z Z Z Z (yT hT) ?_;refine au 93300 ?_;apply aI<;>intro hc6
  ·refine au 3542 ?_;refine bB Wz [(s,_),(h,_),(e,_)] ?_;exact⟨by rw[if_neg (fun h=>h hcl),<- hinv2,zY hg,measL,if_pos (by simp at hc6;simp[thereM,hc6]),show thereM b x.cloth=6 by simp at hc6;simp[thereM,hc6]],rfl⟩
  refine au 28069067069067042120 ?_;refine TK.clE Z Z Z Z (yT hT) ?_;refine au 1300 ?_;refine bF 74 (fun g19_8=>?_) (fun g19_8=>?_)
  ·refine au 354218032608888 ?_;refine bB Wz [(s,_),(h,_),(e,_)] ?_;exact⟨by rw[if_neg (fun h=>h hcl),<- hinv2,zY hg,measL,if_neg (by simp at hc6;simp[thereM,hc6]),if_pos (by simp at g19_8;simp[measB,g19_8])],rfl⟩
  refine au 690670 ?_;refine TK.clE Z Z Z Z (yT hT) ?_;refine au 93250300 ?_;apply aI<;>intro hc7
  ·refine au 3542 ?_;refine bB Wz [(s,_),(h,_),(e,_)] ?_;exact⟨by rw[if_neg (fun h=>h hcl),<- hinv2,zY hg,measL,if_neg (by simp at hc6;simp[thereM,hc6]),if_pos (by simp at g19_8 hc7;simp[measB,g19_8,hc7])],rfl⟩
  refine au 3523014140120 ?_;refine bA [1,2,5] ?_;refine bC [(jb,_),(s,_),(h,_),(e,_)] ?_;exact Wj _ _ _ oQ ⟨i+1,rfl,oQ,by rw[<- hinv2,zY hg,measL,if_neg (by simp at hc6;simp[thereM,hc6]),if_neg (by simp at g19_8 hc7;simp[measB,g19_8,hc7])],rfl,rfl⟩
 obtain rfl:i=b.mE.length:=by simp at hc5;omega
 refine au 3542160 ?_;refine bB Wz [(s,_),(h,_),(e,_)] ?_;exact⟨by rw[if_neg (fun h=>h hcl),<- hinv2,List.drop_length];rfl,rfl⟩
theorem zi2{main T}(hT:zo tp main T){gm}{b:RBk}{s h e:Nat}(hl:b.sE.length<=100)(hm:b.mE.length<=100) :
  zl tp T gm 15 [.agg (zP b s h e)] [(s,zt b),(h,zX b),(e,zG b)] (fun r K'=>r=za (checkM b)/\K'=[(s,zt b),(h,zX b),(e,zG b)]):=by
 refine zh 35 hT Tryz.func15 fun Y Wz=>?_;refine au 21042 ?_;intro jb hjb;refine au 69067042235 ?_;refine TK.clE Z Z Z Z (yT hT) ?_;refine au 1300 ?_;refine bF 8 (fun g1_5=>?_) (fun g1_5=>?_)
 ·refine au 354218032608888126088881260888888 ?_;refine bB Wz [(s,_),(h,_),(e,_)] ?_;simp only[mV,mW]at g1_5;exact⟨by rw[show checkM b=1 by unfold checkM;rw[if_pos (by rw[show roundsM b=1 by simp[roundsM,g1_5]];decide)];simp[roundsM,g1_5]],rfl⟩
 refine au 690670690670 ?_;refine TK.clE Z Z Z Z (yT hT) ?_;refine au 1250300 ?_;refine bF 16 (fun g1_13=>?_) (fun g1_13=>?_)
 ·refine au 35421803260888812608888 ?_;refine bB Wz [(s,_),(h,_),(e,_)] ?_;simp only[mV,mW]at g1_5 g1_13;exact⟨by rw[show checkM b=1 by unfold checkM;rw[if_pos (by rw[show roundsM b=1 by simp[roundsM,g1_5,g1_13]];decide)];simp[roundsM,g1_5,g1_13]],rfl⟩
 refine au 690670 ?_;refine TK.clE Z Z Z Z (yT hT) ?_;refine au 1250300 ?_;refine bF 22 (fun g1_19=>?_) (fun g1_19=>?_)
 ·refine au 354218032608888 ?_;refine bB Wz [(s,_),(h,_),(e,_)] ?_;simp only[mV,mW]at g1_5 g1_13 g1_19;exact⟨by rw[show checkM b=1 by unfold checkM;rw[if_pos (by rw[show roundsM b=1 by simp[roundsM,g1_5,g1_13,g1_19]];decide)];simp[roundsM,g1_5,g1_13,g1_19]],rfl⟩
 refine au 690670 ?_;refine TK.clE Z Z Z Z (yT hT) ?_;refine au 93250300 ?_;apply aI<;>intro Jz
 ·refine au 3542 ?_;refine bB Wz [(s,_),(h,_),(e,_)] ?_;simp only[mV,mW]at g1_5 g1_13 g1_19 Jz;exact⟨by rw[show checkM b=1 by unfold checkM;rw[if_pos (by rw[show roundsM b=1 by simp[roundsM,g1_5,g1_13,g1_19,Jz]];decide)];simp[roundsM,g1_5,g1_13,g1_19,Jz]],rfl⟩
 simp only[mV,mW]at g1_5 g1_13 g1_19 Jz;have hr0:roundsM b=0:=by simp[roundsM,g1_5,g1_13,g1_19,Jz]
 have hr:=zaO hr0;refine au 680422120 ?_;refine TK.clE Z Z Z Z (zkq hT hr hl) ?_;refine au 93714235 ?_;apply aI<;>intro Jx
 ·refine au 35142 ?_;refine bB Wz [(s,_),(h,_),(e,_)] ?_;exact⟨by unfold checkM;rw[if_neg (by simpa using hr0),if_pos (by simpa using Jx)],rfl⟩
 have hs0:seamsM b=0:=by simpa using Jx
 have hs:=zbm hs0;refine au 68042120 ?_;refine TK.clE Z Z Z Z (zhW hT hr hs hm) ?_;refine au 35 ?_;refine bB Wz [(s,_),(h,_),(e,_)] ?_;exact⟨by rw[show checkM b=(if clothsM b≠0 then clothsM b else measM b) by unfold checkM;rw[if_neg (by simpa using hr0),if_neg (by simpa using hs0)]],rfl⟩
theorem zov{main T}(hT:zo tp main T){gm}{b:RBk}{s h e:Nat} :
  zl tp T gm 5 [.agg (zP b s h e)] [(s,zt b),(h,zX b),(e,zG b)] (fun r K'=>r=zr (!greatM b&&decide (checkM b=0))/\K'=[(s,zt b),(h,zX b),(e,zG b)]):=by
 refine zh 11 hT Tryz.func5 fun Y Wz=>?_;refine au 21042 ?_;intro jb hjb;refine au 6804235 ?_;refine bD Z Z Z Z (zll hT) ?_ (hs:=(.none _));rintro r1 K2 ⟨rfl,rfl⟩;refine au 1300 ?_;refine bF 6 (fun g1_4=>?_) (fun g1_4=>?_)
 ·refine au 680 ?_;refine TK.clE Z Z Z Z (zi2 hT (by simp[greatM]at g1_4;omega) (by simp[greatM]at g1_4;omega)) ?_;refine au 352607 ?_;refine bB Wz [(s,_),(h,_),(e,_)] ?_;exact⟨by simp at g1_4;rw[g1_4];simp;rfl,rfl⟩
 refine au 35250888 ?_;refine bB Wz [(s,_),(h,_),(e,_)] ?_;exact⟨by simp at g1_4;rw[g1_4];rfl,rfl⟩
end Go.Vel
namespace Go.Vel
open Go Go.Conc
theorem zcu(b:RBk)(all:List (List Int))(l:List Int):sqOk b all l=tt↔∀ s∈all,(hangM b l s).isSome=tt:=by
 unfold sqOk squaresM waysM;have key:(all.filterMap (hangM b l)).length<all.length↔¬ ∀ s∈all,(hangM b l s).isSome=tt:=by
  induction all with
  | nil=>simp
  | cons s r ih =>
   have hle:(r.filterMap (hangM b l)).length<=r.length:=List.length_filterMap_le _ _;cases hs:hangM b l s with
   | none =>
    rw[List.filterMap_cons_none hs];simp[hs];omega
   | some z =>
    rw[List.filterMap_cons_some hs,lZ,lZ,Nat.succ_lt_succ_iff,ih];simp[hs]
 by_cases h:(all.filterMap (hangM b l)).length<all.length
 ·rw[if_pos h];simp only[Option.isSome_none,mU,false_iff];exact key.1 h
 ·rw[if_neg h];simp only[Option.isSome_some,true_iff];exact Classical.not_not.1 fun hh=>h (key.2 hh)
theorem zgT(x:List Int):smallerM x x=ff:=by
 cases h:smallerM x x with
 | false=>rfl
 | true=>rw[kH,zfI]at h;omega
theorem zm3{b:RBk}{all:List (List Int)}{c d:Nat}(h:PlanA b all shorterM c)(h0:0<d)(h1:d<2 ^ b.sE.length)(hs:sqOk b all (zE d b.sE.length)=tt):smallerM (zE d b.sE.length) (zE c b.sE.length)=ff:=by
 rcases h.2.2.2 d h0 h1 hs with e|e
 ·rw[(Prod.mk.inj e).1];exact zgT _
 ·exact zgk e
end Go.Vel
namespace Go.Vel
open Go Go.Conc Go.Proofs
theorem ziK{main T}(hT:zo tp main T){gm}{b:RBk}{s h e j c m:Nat}{st:List Int}{et:gT}(hb:ROk b)(hs:StOk b st)(hc:c<b.sE.length)(hm:m<=b.sE.length) :
  zl tp T gm 105 [.agg (zP b s h e),za c,za m,.sl j 0 st.length] [(s,zt b),(j,.cells (st.map za) et ff)] (fun r K'=>r=za (togM b st c m)/\K'=[(s,zt b),(j,.cells (st.map za) et ff)]):=by
 refine zh 35 hT Tryz.func105 fun Y Wz=>?_;refine au 0 ?_;have hsl:=hb.sms.len;have hst:=hs.len;refine au 21042 ?_;intro jb hjb;refine au 13035422354235 ?_;refine bA [1,2,3,4,9,10] ?_;refine bC [(s,_),(j,_),(jb,_)] ?_;refine bE (fun n Wq K=>∃(i:Nat),n=m - i/\i<=m/\Wq=.any::za c::za m::.sl j 0 st.length::.ptr jb 0::naL 4 (za (togM b st c i)::za i::naL 24 [])/\K=[(s,zt b),(j,.cells (st.map za) et ff),(jb,.cells (zP b s h e) 32 tt)]) m ⟨0,rfl,mN _,rfl,rfl⟩ fun n Wq K hI Wj=>?_;obtain⟨i,rfl,hi,rfl,rfl⟩:=hI;refine bG nQ ?_;refine au 93711422 ?_;apply aI<;>intro Jz
 ·have Qb:i<m:=by simp at Jz;omega
  have hkl:(c+i) % b.sE.length<b.sE.length:=Nat.mod_lt _ oQ;have htb:=zgr hb hs (c:=c) i;have hwd:=hb.wide hkl;have hsb:=hs.bnd _ hkl;refine au 28069067023011421302120 ?_;refine bH Z (q_rem Z Z Z oQ oQ) ?_;refine au 35 ?_;rw[show((c:Int)+(i:Int)) % (b.sE.length:Int)=(((c+i) % b.sE.length:Nat):Int) by rw[<- Int.natCast_add,<- Int.natCast_emod]];have htn:togM b st c i+wideM b ((c+i) % b.sE.length) - cutN st ((c+i) % b.sE.length)=togM b st c (i+1):=by show _=togM b st c i+(wideM b _ - st.getD _ 0);unfold cutN;omega
  have hsb2:0<=cutN st ((c+i) % b.sE.length)/\cutN st ((c+i) % b.sE.length)<=5:=⟨hsb.1,hsb.2.1⟩;refine TK.dr [0,1,2,5,6,7,8,3,4,9,10] [0,1,2,3,4,5,6,7,8,9,10] ?_;refine ad [[1,9],[12,4],[1,11],[1,3],[1,11],[2,29,30]] ?_;refine bT [31] Z (hq:=zg Z Z ze.h (mC _) (y8 (i:=(c+i) % b.sE.length) (yx oQ) Z)) (h:=?_);refine TD.clE (Wx:=[_,_,_,_,_]) [25,26] Z Z Z Z Z (zeD hT (i:=(c+i) % b.sE.length) hb.rnd hb.sms hkl) ?_;refine ad [[8,24,27],[9,28,32],[13,33],[14]] ?_;refine au 3523014140 ?_;refine bA [1,2,3,4,9,10] ?_;refine bC [(s,_),(j,_),(jb,_)] ?_;exact Wj _ _ _ oQ ⟨i+1,rfl,oQ,by rw[htn];rfl,rfl⟩
 obtain rfl:i=m:=by simp at Jz;omega
 refine au 35142160 ?_;refine bB Wz [(s,_),(j,_)] ?_;exact⟨rfl,rfl⟩
end Go.Vel
namespace Go.Vel
open Go Go.Conc
theorem zhe:∀(r:List Int)(x:Int),r.foldl min x<=x/\(∀ y∈r,r.foldl min x<=y)/\(r.foldl min x=x\/r.foldl min x∈r)
 | [],x=>⟨Int.le_refl _,fun y hy=>(by cases hy),.inl rfl⟩
 | z::r,x=>by
  obtain⟨h1,h2,h3⟩:=zhe r (min x z);rw[List.foldl_cons];refine⟨by omega,fun y hy=>?_,?_⟩
  ·rcases lI.1 hy with rfl|hy
   ·omega
   ·exact h2 y hy
  ·rcases h3 with h3|h3
   ·rw[h3];by_cases e:x<=z
    ·left;omega
    ·right;rw[Int.min_eq_right oQ];simp
   ·right;simp[h3]
theorem zhd:∀(r:List Int)(x:Int),x<=r.foldl max x/\(∀ y∈r,y<=r.foldl max x)/\(r.foldl max x=x\/r.foldl max x∈r)
 | [],x=>⟨Int.le_refl _,fun y hy=>(by cases hy),.inl rfl⟩
 | z::r,x=>by
  obtain⟨h1,h2,h3⟩:=zhd r (max x z);rw[List.foldl_cons];refine⟨by omega,fun y hy=>?_,?_⟩
  ·rcases lI.1 hy with rfl|hy
   ·omega
   ·exact h2 y hy
  ·rcases h3 with h3|h3
   ·rw[h3];by_cases e:z<=x
    ·left;omega
    ·right;rw[Int.max_eq_right oQ];simp
   ·right;simp[h3]
theorem zkx{xs:List Int}(hne:xs≠[]):(∀ y∈xs,(spreadM xs).1<=y/\y<=(spreadM xs).2)/\(spreadM xs).1∈xs/\(spreadM xs).2∈xs:=by
 cases xs with
 | nil=>exact absurd rfl hne
 | cons x r =>
  obtain⟨a1,a2,a3⟩:=zhe r x;obtain⟨c1,c2,c3⟩:=zhd r x;show(∀ y∈x::r,r.foldl min x<=y/\y<=r.foldl max x)/\r.foldl min x∈x::r/\r.foldl max x∈x::r;refine⟨fun y hy=>?_,?_,?_⟩
  ·rcases lI.1 hy with rfl|hy
   ·exact⟨a1,c1⟩
   ·exact⟨a2 y hy,c2 y hy⟩
  ·rcases a3 with h|h
   ·rw[h];simp
   ·simp[h]
  ·rcases c3 with h|h
   ·rw[h];simp
   ·simp[h]
theorem sq_in{b:RBk}{all:List (List Int)}{l:List Int}(hne:all≠[])(h:sqOk b all l=tt):(∀ s∈all,∀ w q,hangM b l s=some (w,q)->sqLo b all l<=q/\q<=sqHi b all l)/\(∃ s∈all,∃ w,hangM b l s=some (w,sqLo b all l))/\∃ s∈all,∃ w,hangM b l s=some (w,sqHi b all l):=by
 have hall:=(zcu b all l).1 h;have Qp:¬ (waysM b all l).length<all.length:=fun hh=>by
  unfold sqOk squaresM at h;rw[if_pos hh]at h;cases h
 have e:squaresM b all l=some (spreadM ((waysM b all l).map (·.2))):=by unfold squaresM;rw[if_neg Qp]
 have hnn:(waysM b all l).map (·.2)≠[]:=fun hh=>by
  have h1:=congrArg List.length hh;rw[lJ]at h1;have h2:0<all.length:=List.length_pos_iff.2 hne;simp only[List.length_nil]at h1;omega
 obtain⟨g1,g2,g3⟩:=zkx hnn;unfold sqLo sqHi;rw[e];show(∀ s∈all,∀ w q,hangM b l s=some (w,q)->(spreadM _).1<=q/\q<=(spreadM _).2)/\(∃ s∈all,∃ w,hangM b l s=some (w,(spreadM _).1))/\∃ s∈all,∃ w,hangM b l s=some (w,(spreadM _).2);have back:∀ q,q∈(waysM b all l).map (·.2)->∃ s∈all,∃ w,hangM b l s=some (w,q):=fun q hq=>by
  obtain⟨⟨w,q'⟩,hz,rfl⟩:=lY.1 hq;obtain⟨s,hs,hz⟩:=List.mem_filterMap.1 hz;exact⟨s,hs,w,hz⟩
 exact⟨fun s hs w q hq=>g1 q (lY.2 ⟨(w,q),List.mem_filterMap.2 ⟨s,hs,hq⟩,rfl⟩),back _ g2,back _ g3⟩
structure Wider(b o:RBk):Prop where
 sP:o.sP=b.sP
 round:o.round=b.round
 roll:b.roll<=o.roll
 rolls:b.rolls<=o.rolls
 len:o.sE.length=b.sE.length
 shr:o.sH=b.sH
 mes:o.mE=b.mE
 sm:∀ i,i<b.sE.length->(sm o i).step=(sm b i).step/\(sm o i).busy=(sm b i).busy/\(sm o i).spoil=(sm b i).spoil/\(sm o i).whole=(sm b i).whole/\(sm b i).most<=(sm o i).most
def preS(b:RBk):Nat->List (List Int)
 | 0=>[[]]
 | i+1=>(preS b i).flatMap fun p=>(numsM (bd b i)).map fun n=>p++[n]
def extL:List (List Int)->List RBand->List (List Int)
 | L,[]=>L
 | L,x::r=>extL (L.flatMap fun p=>(numsM x).map fun n=>p++[n]) r
theorem zdX:∀(r:List RBand)(L:List (List Int))(x:RBand),extL L (r++[x])=(extL L r).flatMap fun p=>(numsM x).map fun n=>p++[n]
 | [],L,x=>rfl
 | y::r,L,x=>zdX r _ x
theorem zaC(b:RBk):∀(r:List RBand)(L:List (List Int)),(L.flatMap fun p=>fromM b p r)=(extL L r).filter (rightM b)
 | [],L=>by
  unfold extL
  induction L with
  | nil=>rfl
  | cons p L ih =>
   rw[List.flatMap_cons,ih];unfold fromM;by_cases h:rightM b p=tt
   ·rw[if_pos h,List.filter_cons_of_pos h];rfl
   ·rw[if_neg h,List.filter_cons_of_neg h];rfl
 | x::r,L=>by
  have key:∀ p,fromM b p (x::r)=(numsM x).flatMap fun n=>fromM b (p++[n]) r:=fun p=>by
   conv=>lhs;unfold fromM
  unfold extL;rw[<- zaC b r]
  induction L with
  | nil=>rfl
  | cons p L ih=>rw[List.flatMap_cons,ih,List.flatMap_cons,List.flatMap_append,List.flatMap_map,key]
theorem zf3(b:RBk):∀ i,i<=b.sH.length->preS b i=extL [[]] (b.sH.take i)
 | 0,_=>by rw[List.take_zero];rfl
 | i+1,h=>by
  rw[yQ (kJ (b:=b) (i:=i) oQ),zdX,<- zf3 b i oQ];rfl
theorem ziu(b:RBk):(preS b b.sH.length).filter (rightM b)=z8 b:=by
 rw[zf3 b _ (mL _),lW,<- zaC];rw[List.flatMap_cons,List.flatMap_nil,lR];rfl
theorem zcj{b:RBk}(hb:ROk b):∀ i,i<=b.sH.length->∀ p∈preS b i,p.length=i/\PreB b p
 | 0,_,p,hp=>by rw[lS.1 hp];exact⟨rfl,zdw b⟩
 | i+1,h,p,hp=>by
  obtain⟨q,hq,hp⟩:=List.mem_flatMap.1 hp;obtain⟨n,hn,rfl⟩:=lY.1 hp;obtain⟨h1,h2⟩:=zcj hb i oQ q hq;have hbd:=hb.cls.bnd i (by have:=hb.cls.len;omega);rw[zfN hbd.2.1]at hn;exact⟨by rw[lF,h1];rfl,zck h2 oQ (by rw[h1];exact hn.1) (by rw[h1];exact hn.2)⟩
theorem zbi:∀(k:Nat)(n:Int),(numsF n k).length=k
 | 0,_=>rfl
 | k+1,n=>by unfold numsF;rw[lZ,zbi k]
theorem uq{f:List Int->List (List Int)}(hf:∀ p,(f p).length<=3):∀ L:List (List Int),(L.flatMap f).length<=L.length*3
 | []=>mN _
 | p::L=>by
  rw[List.flatMap_cons,lF,lZ];have h1:=hf p;have h2:=uq hf L;omega
theorem zf4{b:RBk}(hb:ROk b):∀ i,i<=b.sH.length->(preS b i).length<=3 ^ i
 | 0,_=>mL _
 | i+1,h=>by
  have h1:=zf4 hb i oQ;have hbd:=hb.cls.bnd i (by have:=hb.cls.len;omega);have h2:=uq (f:=fun p=>(numsM (bd b i)).map fun n=>p++[n]) (fun p=>by
   rw[lJ];unfold numsM;rw[zbi];omega) (preS b i)
  rw[Nat.pow_succ];show((preS b i).flatMap _).length<=_;omega
end Go.Vel
namespace Go.Vel
open Go Go.Conc Go.Proofs
section
variable {P:gP}{gm:Nat->Option Nat}{T:gG->Hp->Prop}{Y:KX P gm T}{ds:List Nat}{k:List Item}{Wq Wk:List AV}{K:KV}
theorem TK.nilRow{t e:gT}{x:Option Addr}{s j:Nat}{K':Nat->KV}(hu:∀ j',Upd K j (.row [.v (.slice x 0 0)] t s) j (.row [.sl j' 0 0] t s) (K' j'))(h:∀ j',j'∉keys K->TK Y ds k Wq ((j',.cells [] e ff)::K' j')):TK Y ds k Wq K:=fun A hA φ H ts h1 h2 h3 h4 h5 h6=>by
 have hk:A.length∉keys K:=fun hm=>absurd (hA.view.lt hm) (Nat.lt_irrefl _);have hH:=h5.virtO (o:=.cells [] e ff) (fun φ n hl=>absurd rfl hl) (fun hl=>hl rfl);have hag:=yn φ A.length ⟨0,0,0⟩;have Wb:(A++[AObj.cells [] e ff]).length=A.length+1:=by simp
 have hds:dsC (yc φ A.length ⟨0,0,0⟩) ds=dsC φ ds:=by
  unfold dsC;exact mA fun d hd'=>by rw[hag d (h4 d hd')]
 have hj:=hA.view.get (hu A.length).mem;have hjl:j<A.length:=(List.getElem?_eq_some_iff.1 hj).1;have hj2:(A++[AObj.cells [] e ff])[j]? =some (.row [.v (.slice x 0 0)] t s):=by rw[List.getElem?_append_left hjl];exact hj
 have hstep:=hA.step (.push hA.view hA.nd (.cells [] e ff));have hstep2:=hstep.step (.set hstep.view hstep.nd (Upd.tail (hu A.length)));rw[<- hds];refine h _ hk _ hstep2 _ H ts (h1.trans hag h2) (by simp;omega) (by simpa using h3.mono hag oQ) (fun d hd=>by have:=h4 d hd;simp;omega) (hH.turn hj2 (fun ho=>?_) (fun h=>h) (fun _=>rfl) (fun hs=>hs)) (by simpa using h6.mono hag oQ);obtain⟨q0,q1,q2⟩:=ho;refine⟨fun hc=>absurd (q0 hc) sQ,q1,fun hc=>?_⟩;obtain⟨cur,p1,p2,p3,p4,p5⟩:=q2 hc;refine⟨cur,p1,p2,p3,by simpa using p4,fun t' a ha=>?_⟩;cases t' with
 | zero =>
  simp only[List.getElem?_cons_zero,Option.some.injEq]at ha;subst ha;obtain⟨y,hy,hr⟩:=p5 0 _ rfl;refine⟨y,hy,?_⟩;rw[inv_v hr];exact .sl sQ (mN _) fun hp=>absurd hp (Nat.lt_irrefl _)
 | succ t'=>simp at ha
theorem zbr:∀ R L:KV,Split (R++L) R L
 | [],L=>.none L
 | x::R,L=>.left (zbr R L)
theorem TK.dropP{R L:KV}(hp:K.Perm (R++L))(h:TK Y ds k Wq R):TK Y ds k Wq K:=bN hp (TK.keep (zbr R L) h)
end
def objsL(P:List (Nat×List Int)):KV:=P.map fun x=>(x.1,.cells (x.2.map za) 3 ff)
def refsL(P:List (Nat×List Int)):List AV:=P.map fun x=>.sl x.1 0 x.2.length
theorem zeh{P:List (Nat×List Int)}{x:Nat×List Int}(h:x∈P):(x.1,AObj.cells (x.2.map za) 3 ff)∈objsL P:=lY.2 ⟨x,h,rfl⟩
theorem zdA{P:List (Nat×List Int)}{k:Nat}{n:Int}(hk:k<P.length)(h:n=(k:Int)){e:gT}{sz:Nat}:z6 (.row (refsL P) e sz) (n.toNat*1) 1=some [.sl P[k].1 0 P[k].2.length]:=by
 subst h;rw[mZ,Nat.mul_one];simp only[z6,AObj.look];rw[if_pos (by simp[refsL];omega)];simp[List.take_one,refsL,hk]
theorem ints1(xs:List Int):(xs.map za).all oneA=tt:=by
 rw[List.all_map];exact List.all_eq_true.2 fun _ _=>rfl
theorem zhj{P:List (Nat×List Int)}{A:List (List Int)}(h:P.map (·.2)=A){k:Nat}(hk:k<P.length):A[k]? =some P[k].2:=by
 rw[<- h];simp[hk]
theorem zix{K:KV}{x:Nat×AObj}:x∈K->∃ R,Rem K x R:=by
 induction K with
 | nil=>intro h;cases h
 | cons y K ih =>
  intro h;rcases lI.1 h with rfl|h
  ·exact⟨_,.head⟩
  ·obtain⟨R,hR⟩:=ih h;exact⟨_,.tail hR⟩
def stepS(b:RBk)(i:Nat)(p:List Int):List (List Int):=(numsM (bd b i)).map fun n=>p++[n]
theorem zlP(x:RBand):∀ t,t<(x.high+1 - x.low).toNat->(numsM x)[t]? =some (x.low+t):=by
 have key:∀(k:Nat)(n:Int)(t:Nat),t<k->(numsF n k)[t]? =some (n+t):=by
  intro k
  induction k with
  | zero=>intro n t h;omega
  | succ k ih =>
   intro n t h;unfold numsF;cases t with
   | zero=>simp
   | succ t =>
    rw[List.getElem?_cons_succ,ih (n+1) t oQ];congr 1;omega
 exact fun t h=>key _ _ t h
theorem zbj(x:RBand):(numsM x).length=(x.high+1 - x.low).toNat:=by
 unfold numsM;rw[zbi]
theorem zjU{α:Type}{A:List α}{x:α}{L M:List α}:(x::(A++(L++M))).Perm (A++M++(x::L)):=by
 have h1:(A++(L++M)).Perm ((A++M)++L):=by
  rw[List.append_assoc];exact List.Perm.append_left A lH
 exact(List.Perm.cons x h1).trans (List.perm_middle (a:=x) (l₁:=A++M) (l₂:=L)).symm
theorem zgQ{main T}(hT:zo tp main T){gm}{b:RBk}{s h e j:Nat}{st:List Int}{et:gT}{m:RMeas}(hb:ROk b)(hs:StOk b st)(hm:0<=m.cloth/\m.cloth<b.sE.length/\1<=m.many/\m.many<=b.sE.length) :
  zl tp T gm 52 [.agg (zP b s h e),.agg (measC m),.sl j 0 st.length] [(s,zt b),(j,.cells (st.map za) et ff)] (fun r K'=>r=zr (decide (togM b st m.cloth.toNat m.many.toNat=m.wide))/\K'=[(s,zt b),(j,.cells (st.map za) et ff)]):=by
 refine zh 17 hT Tryz.func52 fun Y Wz=>?_;refine au 0 ?_;obtain⟨mc,mm,mw⟩:=m;dsimp only at hm;obtain⟨c,rfl⟩:=Int.eq_ofNat_of_zero_le hm.1;obtain⟨k,rfl⟩:=Int.eq_ofNat_of_zero_le (show 0<=mm by omega);refine au 21042 ?_;intro jb hjb;refine au 210 ?_;intro jm hjm;refine au 235 ?_;refine TK.dr [0,1,2,3,4,5,7,8,6,9,10] [0,1,2,3,4,5,6,7,8,9,10] ?_;refine ad [[12,3],[3,4],[10,8],[3,4],[10,10],[1,2],[3,4],[10,14]] ?_;refine TD.clE (Wx:=[_,_,_,_]) [7,9,11,12] Z Z Z Z Z (ziK hT (c:=c) (m:=k) hb hs oQ oQ) ?_;refine ad [[4,13,15],[13,16],[14]] ?_;refine au 0 ?_;refine bB Wz [(s,_),(j,_)] ?_;exact⟨rfl,rfl⟩
theorem zkk{main T}(hT:zo tp main T){gm}{b:RBk}{s h e j:Nat}{st:List Int}{et:gT}(hb:ROk b)(hs:StOk b st) :
  zl tp T gm 16 [.agg (zP b s h e),.sl j 0 st.length] [(s,zt b),(e,zG b),(j,.cells (st.map za) et ff)] (fun r K'=>r=zr (rightM b st)/\K'=[(s,zt b),(e,zG b),(j,.cells (st.map za) et ff)]):=by
 refine zh 22 hT Tryz.func16 fun Y Wz=>?_;refine au 0 ?_;have hml:=hb.mes.len;refine au 21042 ?_;intro jb hjb;refine au 1303542235 ?_;refine bA [1,2,5] ?_;refine bC [(s,_),(e,_),(j,_),(jb,_)] ?_;refine bE (fun n Wq K=>∃(i:Nat),n=b.mE.length - i/\i<=b.mE.length/\(∀ m∈b.mE.take i,decide (togM b st m.cloth.toNat m.many.toNat=m.wide)=tt)/\Wq=.any::.sl j 0 st.length::.ptr jb 0::naL 2 (za i::naL 16 [])/\K=[(s,zt b),(e,zG b),(j,.cells (st.map za) et ff),(jb,.cells (zP b s h e) 32 tt)]) b.mE.length ⟨0,rfl,mN _,fun m hm=>by simp at hm,rfl,rfl⟩ fun n Wq K hI Wj=>?_;obtain⟨i,rfl,hi,hri,rfl,rfl⟩:=hI;refine bG nQ ?_;refine au 9372806906701422 ?_;apply aI<;>intro Jz
 ·have Qb:i<b.mE.length:=by simp at Jz;omega
  obtain⟨x,hx⟩:∃ x,b.mE[i]? =some x:=⟨_,lA Qb⟩;have hxb:=hb.mes.bnd x (lN hx);refine au 21302120 ?_;refine bL [0,1,2,3,4,5,6,7,8] ?_;refine ad [[12,2],[3,2],[10,14],[1,5],[2,15,16]] ?_;refine bT [17] Z (hq:=zK Z Z ze.h (mC _) (zfK (i:=i) hx Z)) (h:=?_);refine ad [[1,1]] ?_;refine TD.clE (Wx:=[_,_,_,_]) [13,18,19] Z Z Z Z Z (zgQ hT (m:=x) hb hs ⟨hxb.1,hxb.2.1,hxb.2.2.1,hxb.2.2.2.1⟩) ?_;refine bU [20] Z (q_not Z Z) ?_;refine ad [[14]] ?_;refine au 9 ?_;apply aI<;>intro Jx
  ·refine au 3542 ?_;refine bB Wz [(s,_),(e,_),(j,_)] ?_;exact⟨by rw[show rightM b st=ff from List.all_eq_false.2 ⟨x,lN hx,by simpa using Jx⟩],rfl⟩
  refine au 3523014140120 ?_;refine bA [1,2,5] ?_;refine bC [(s,_),(e,_),(j,_),(jb,_)] ?_;exact Wj _ _ _ oQ ⟨i+1,rfl,oQ,fun m hm=>by
   rw[yQ hx]at hm;rcases lT.1 hm with hm|hm
   ·exact hri m hm
   ·rw[lS.1 hm];simpa using Jx,rfl,rfl⟩
 obtain rfl:i=b.mE.length:=by simp at Jz;omega
 refine au 3542160 ?_;refine bB Wz [(s,_),(e,_),(j,_)] ?_;exact⟨by rw[show rightM b st=tt from List.all_eq_true.2 fun m hm=>hri m (by rw[lW];exact hm)],rfl⟩
theorem zmf{main T}(hT:zo tp main T){gm}{b:RBk}{s h e:Nat}{P:List (Nat×List Int)}{x:Nat×List Int}(hb:ROk b)(hs:StOk b x.2)(hx:x∈P):zl tp T gm 16 [.agg (zP b s h e),.sl x.1 0 x.2.length] ((s,zt b)::(e,zG b)::objsL P) (fun r K'=>r=zr (rightM b x.2)/\K'=(s,zt b)::(e,zG b)::objsL P):=by
 obtain⟨R,hR⟩:=zix (zeh hx);exact(zkk hT hb hs).frameP (R:=R) (List.Perm.cons _ (List.Perm.cons _ hR.perm))
instance:ApOf tp 35 41 1 24:={}
instance:zp tp 35 41 1:={}
instance:TyZ tp 41 [.slice none 0 0]:={}
instance:Und tp 35 (.slice 41):={}
theorem ziE{main T}(hT:zo tp main T){gm}{b:RBk}{s h e:Nat}(hb:ROk b) :
  zl tp T gm 6 [.agg (zP b s h e)] [(s,zt b),(h,zX b),(e,zG b)] (fun r K'=>∃(jr:Nat)(Q:List (Nat×List Int)),r=.row jr (z8 b).length/\K'=(jr,.row (refsL Q) 41 1)::[(s,zt b),(h,zX b),(e,zG b)]):=by
 refine zh 73 hT Tryz.func6 fun Y Wz=>?_;refine au 0 ?_;have hsl:=hb.sms.len;have hcl:=hb.cls.len;have h243:∀ i,i<=5->3 ^ i<=243:=fun i hi=>mT (Nat.pow_le_pow_right dQ hi) dQ;refine au 21042 ?_;intro jb hjb;refine au 4235 ?_;refine bI Z Z Z (zH (l:=[_]) Z zp.h TyZ.h dQ dQ Z) (fun _=>zD rfl tQ) fun j0 hj0=>?_;refine au 5 ?_;refine TK.nilRow (e:=3) (fun _=>uQ) fun je hje=>?_;refine au 130354223 ?_;refine bA [1,3,4] ?_;refine bC [(j0,_),(h,_),(jb,_),(s,_),(e,_),(je,_)] ?_;refine bE (fun n Wq K=>∃(i ja:Nat)(P:List (Nat×List Int)),n=b.sH.length - i/\i<=b.sH.length/\P.map (·.2)=preS b i/\Wq=.any::.ptr jb 0::.any::.row ja P.length::za i::naL 68 []/\K=(ja,.row (refsL P) 41 1)::(h,zX b)::(jb,.cells (zP b s h e) 32 tt)::(s,zt b)::(e,zG b)::objsL P) b.sH.length ⟨0,j0,[(je,[])],rfl,mN _,rfl,rfl,rfl⟩ fun n Wq K hI Wj=>?_;obtain⟨i,ja,P,rfl,hi,hP,rfl,rfl⟩:=hI;have hPl:P.length=(preS b i).length:=by rw[<- hP,lJ]
 have hPb:P.length<=243:=by have:=zf4 hb i hi;have:=h243 i oQ;omega
 refine bG nQ ?_;refine au 9372806906701422 ?_;apply aI<;>intro Jz
 ·have Qb:i<b.sH.length:=by simp at Jz;omega
  have hbd:=hb.cls.bnd i oQ;refine au 5421302120 ?_;refine TK.virt 5 41 1 Z fun jn0 hjn0=>?_;refine au 130354223 ?_;refine bA [1,3,4,5,6] ?_;refine bN (K':=(jn0,.row [] 41 1)::(ja,.row (refsL P) 41 1)::(h,zX b)::(jb,.cells (zP b s h e) 32 tt)::(s,zt b)::(e,zG b)::(objsL P++objsL [])) (by simp[objsL]) ?_;refine bE (fun n Wq K=>∃(q jn:Nat)(Q:List (Nat×List Int)),n=P.length - q/\q<=P.length/\Q.map (·.2)=((preS b i).take q).flatMap (stepS b i)/\Wq=.any::.ptr jb 0::.any::.row ja P.length::za i::.row jn Q.length::za q::naL 66 []/\K=(jn,.row (refsL Q) 41 1)::(ja,.row (refsL P) 41 1)::(h,zX b)::(jb,.cells (zP b s h e) 32 tt)::(s,zt b)::(e,zG b)::(objsL P++objsL Q)) P.length ⟨0,jn0,[],rfl,mN _,rfl,rfl,rfl⟩ fun n Wq K hI2 hnext2=>?_;obtain⟨q,jn,Q,rfl,hq,hQ,rfl,rfl⟩:=hI2;refine bG nQ ?_;refine au 93728011422 ?_;apply aI<;>intro Jx
  ·have hql:q<P.length:=by simp at Jx;omega
   have hg:(preS b i)[q]? =some P[q].2:=zhj hP hql;obtain⟨pq,hpq⟩:∃ pq,pq=P[q]:=⟨_,rfl⟩;rw[<- hpq]at hg;have hpl:=(zcj hb i hi pq.2 (lN hg)).1;have hmp:pq∈P:=hpq ▸ List.getElem_mem hql;refine au 6703601690670421302120 ?_;refine bH Z (zg Z Z ze.h mQ (yB (c:=0) (bd_at b (i:=i) Qb Z) dQ Z)) ?_;refine au 13035 ?_;refine bA [1,3,4,5,6,7] ?_;refine bE (fun n Wq K=>∃(t jn:Nat)(Q:List (Nat×List Int)),n=((bd b i).high+1 - (bd b i).low).toNat - t/\t<=((bd b i).high+1 - (bd b i).low).toNat/\Q.map (·.2)=((preS b i).take q).flatMap (stepS b i)++((numsM (bd b i)).take t).map (fun n=>P[q].2++[n])/\Wq=.any::.ptr jb 0::.any::.row ja P.length::za i::.row jn Q.length::za q::za ((bd b i).low+(t:Int))::naL 65 []/\K=(jn,.row (refsL Q) 41 1)::(ja,.row (refsL P) 41 1)::(h,zX b)::(jb,.cells (zP b s h e) 32 tt)::(s,zt b)::(e,zG b)::(objsL P++objsL Q)) ((bd b i).high+1 - (bd b i).low).toNat ⟨0,jn,Q,rfl,mN _,by rw[hQ,List.take_zero,List.map_nil,lR],by rw[show(bd b i).low+((0:Nat):Int)=(bd b i).low by omega];rfl,rfl⟩ fun n Wq K hI3 hnext3=>?_;obtain⟨t,jn,Q,rfl,ht,hQ,rfl,rfl⟩:=hI3;rw[<- hpq]at hQ;have hQl:Q.length<=1000:=by
    have h1:=congrArg List.length hQ;rw[lJ,lF,lJ,List.length_take,zbj]at h1;have h2:=uq (f:=stepS b i) (fun p=>by unfold stepS;rw[lJ,zbj];omega) ((preS b i).take q);rw[List.length_take]at h2;omega
   refine bG nQ ?_;refine au 67036016906701422 ?_;refine bH Z (zg Z Z ze.h mQ (yB (c:=1) (bd_at b (i:=i) Qb Z) dQ Z)) ?_;refine au 937 ?_;apply aI<;>intro hc2
   ·have htl:t<((bd b i).high+1 - (bd b i).low).toNat:=by simp at hc2;omega
    have hmx:(pq.1,AObj.cells (pq.2.map za) 3 ff)∈objsL P++objsL Q:=List.mem_append_left _ (zeh hmp);refine au 141302120 ?_;refine bI Z Z Z (zH (l:=[]) Z zp.h TyZ.h dQ dQ Z) (fun _=>zD rfl tQ) fun j9 hj9=>?_;refine au 37011 ?_;refine bH Z (zg Z Z ze.h mQ (zdA hql Z)) ?_;rw[<- hpq];refine TK.appG (ln:=pq.2.map za) Z Z Z ApOf.h Z mQ Z Z Z (fun hp=>zan mQ oQ (uR (n:=pq.2.length) (size:=1) sQ oQ)) (fun h=>by simp[List.eq_nil_of_length_eq_zero h]) (ints1 _) (by unfold maxLen;omega) oQ (fun _=>uQ) (fun _=>zD rfl tQ) fun j6=>?_;simp only[List.nil_append,mO];refine au 1 ?_;refine bI Z Z Z (zH (l:=[_]) Z zp.h TyZ.h dQ dQ Z) (fun _=>zD rfl tQ) fun j1 hj1=>?_;refine bO Z Z Z (a_app Z ApOf.h Z mQ sQ Z (yO (ln:=[_]) mQ dQ sQ Z) oQ Z (by unfold maxLen;omega) oQ) (fun _=>uQ) (fun _=>zD rfl tQ) fun j3=>?_;refine TK.asSl 49 Z mQ ?_;refine bY (j:=j3) ?_;refine au 0 ?_;refine bI Z Z Z (zH (l:=[_]) Z zp.h TyZ.h dQ dQ Z) (fun _=>zD rfl tQ) fun j2 hj2=>?_;refine bO Z Z Z (a_app Z ApOf.h Z mQ (by simp[refsL]) Z (yO (ln:=[_]) mQ dQ sQ Z) oQ Z (by unfold maxLen;omega) oQ) (fun _=>uQ) (fun _=>zD rfl tQ) fun j4=>?_;refine au 352301414035 ?_;refine bA [1,3,4,5,6,7] ?_;refine bC (((j4,_)::(j3,_)::(ja,_)::(h,_)::(jb,_)::(s,_)::(e,_)::(objsL P++objsL Q))) ?_;refine bN (K':=(j4,.row (refsL Q++[.sl j3 0 (pq.2.length+1)]) 41 1)::(ja,.row (refsL P) 41 1)::(h,zX b)::(jb,.cells (zP b s h e) 32 tt)::(s,zt b)::(e,zG b)::(objsL P++(objsL Q++[(j3,.cells (pq.2.map za++[za ((bd b i).low+(t:Int))]) 3 ff)]))) ?_ ?_
    ·rw[<- List.append_assoc];exact List.Perm.cons _ (List.perm_append_singleton (j3,_) ((ja,.row (refsL P) 41 1)::(h,zX b)::(jb,.cells (zP b s h e) 32 tt)::(s,zt b)::(e,zG b)::(objsL P++objsL Q))).symm
    exact hnext3 _ _ _ oQ ⟨t+1,j4,Q++[(j3,pq.2++[(bd b i).low+(t:Int)])],rfl,oQ,by rw[lM,hQ,<- hpq,yQ (zlP _ t htl),lM,List.append_assoc];rfl,by rw[lF,show(bd b i).low+(t:Int)+1=(bd b i).low+((t+1:Nat):Int) by omega];rfl,by simp[refsL,objsL]⟩
   obtain rfl:t=((bd b i).high+1 - (bd b i).low).toNat:=by simp at hc2;omega
   refine au 3523014140160 ?_;refine bA [1,3,4,5,6] ?_;refine bC (((jn,_)::(ja,_)::(h,_)::(jb,_)::(s,_)::(e,_)::(objsL P++objsL Q))) ?_;exact hnext2 _ _ _ oQ ⟨q+1,jn,Q,rfl,oQ,by rw[hQ,show(numsM (bd b i)).take ((bd b i).high+1 - (bd b i).low).toNat=numsM (bd b i) from List.take_of_length_le (by rw[zbj];exact mL _),yQ hg,List.flatMap_append];simp[stepS],rfl,rfl⟩
  obtain rfl:q=P.length:=by simp at Jx;omega
  have hQ:Q.map (·.2)=preS b (i+1):=by rw[hQ,hPl,lW];rfl
  refine au 35230141403514160 ?_;refine bA [1,3,4] ?_;refine bC (((jn,_)::(ja,_)::(h,_)::(jb,_)::(s,_)::(e,_)::(objsL P++objsL Q))) ?_;refine TK.dropP (R:=(jn,.row (refsL Q) 41 1)::(h,zX b)::(jb,.cells (zP b s h e) 32 tt)::(s,zt b)::(e,zG b)::objsL Q) (L:=(ja,.row (refsL P) 41 1)::objsL P) ?_ ?_
  ·exact List.Perm.cons _ (zjU (A:=(h,zX b)::(jb,.cells (zP b s h e) 32 tt)::(s,zt b)::(e,zG b)::[]) (x:=(ja,.row (refsL P) 41 1)) (L:=objsL P) (M:=objsL Q))
  exact Wj _ _ _ oQ ⟨i+1,jn,Q,rfl,oQ,hQ,rfl,rfl⟩
 obtain rfl:i=b.sH.length:=by simp at Jz;omega
 refine au 542160 ?_;refine TK.virt 8 41 1 Z fun jo0 hjo0=>?_;refine au 130354223 ?_;refine bA [1,3,8,9] ?_;refine bE (fun n Wq K=>∃(q jo:Nat)(Q:List (Nat×List Int)),n=P.length - q/\q<=P.length/\Q.map (·.2)=((preS b b.sH.length).take q).filter (rightM b)/\Wq=.any::.ptr jb 0::.any::.row ja P.length::naL 4 (.row jo Q.length::za q::naL 63 [])/\K=(jo,.row (refsL Q) 41 1)::(ja,.row (refsL P) 41 1)::(h,zX b)::(jb,.cells (zP b s h e) 32 tt)::(s,zt b)::(e,zG b)::objsL P) P.length ⟨0,jo0,[],rfl,mN _,rfl,rfl,rfl⟩ fun n Wq K hI4 hnext4=>?_;obtain⟨q,jo,Q,rfl,hq,hQ,rfl,rfl⟩:=hI4;have hQl:(Q.map (·.2)).length=Q.length:=lJ ..;have hQb:Q.length<=243:=by
  rw[<- hQl,hQ];have h1:=List.length_filter_le (rightM b) ((preS b b.sH.length).take q);rw[List.length_take]at h1;omega
 refine bG nQ ?_;refine au 93728011422 ?_;apply aI<;>intro hc3
 ·have hql:q<P.length:=by simp at hc3;omega
  have hg:(preS b b.sH.length)[q]? =some P[q].2:=zhj hP hql;have hmp:P[q]∈P:=List.getElem_mem hql;obtain⟨hpl,hpb⟩:=zcj hb _ (mL _) P[q].2 (lN hg);have hst:StOk b P[q].2:=zfy hb ⟨hpl,fun i hi=>hpb.2 i oQ⟩;refine au 21302120 ?_;refine bL [0,1,2,3,4,5] ?_;refine ad [[12,1],[1,3],[1,9]] ?_;refine bT [60,61] Z (hq:=kT Z Z Z zp.h (mC _) oQ oQ) (h:=?_);refine bT [62] Z (hq:=zg Z Z ze.h (mC _) (zdA hql Z)) (h:=?_);refine TD.clE (Wx:=[_,_,_]) [59,63] Z Z Z Z Z (zmf hT hb hst hmp) ?_;refine TD.perm (lH (l₁:=(s,_)::(e,_)::objsL P)) ?_;simp only[cA];refine ad [[14]] ?_;refine au 9 ?_;apply aI<;>intro hc4
  ·refine au 3701114 ?_;refine bH Z (zg Z Z ze.h mQ (zdA hql Z)) ?_;refine bI Z Z Z (zH (l:=[_]) Z zp.h TyZ.h dQ dQ Z) (fun _=>zD rfl tQ) fun j6 hj6=>?_;refine bO Z Z Z (a_app Z ApOf.h Z mQ (by simp[refsL]) Z (yO (ln:=[_]) mQ dQ sQ Z) oQ Z (by unfold maxLen;omega) oQ) (fun _=>uQ) (fun _=>zD rfl tQ) fun jo2=>?_;refine au 352301414035 ?_;refine bA [1,3,8,9] ?_;refine bC (((jo2,_)::(ja,_)::(h,_)::(jb,_)::(s,_)::(e,_)::objsL P)) ?_;exact hnext4 _ _ _ oQ ⟨q+1,jo2,Q++[P[q]],rfl,oQ,by rw[lM,hQ,yQ hg,List.filter_append,List.filter_cons_of_pos hc4];rfl,by rw[lF];rfl,by simp[refsL] <;> rfl⟩
  refine au 3523014140120 ?_;refine bA [1,3,8,9] ?_;refine bC (((jo,_)::(ja,_)::(h,_)::(jb,_)::(s,_)::(e,_)::objsL P)) ?_;exact hnext4 _ _ _ oQ ⟨q+1,jo,Q,rfl,oQ,by rw[hQ,yQ hg,List.filter_append,List.filter_cons_of_neg (by rw[hc4];decide),List.filter_nil,lR],rfl,rfl⟩
 obtain rfl:q=P.length:=by simp at hc3;omega
 rw[hPl]at hQ;refine au 35142160 ?_;refine bB Wz [(jo,_),(s,_),(h,_),(e,_)] ?_;exact⟨jo,Q,by rw[<- ziu,<- hQl,hQ,lW] <;> rfl,rfl⟩
end Go.Vel
namespace Go.Vel
open Go Go.Conc
section
variable {P:gP}{gm:Nat->Option Nat}{T:gG->Hp->Prop}{Y:KX P gm T}{ds:List Nat}{k:List Item}{Wq:List AV}{K K':KV}
end
def changeB(b:RBk)(sh:List RBand)(me:List RMeas):RBk:={ b with sH:=sh,mE:=me }
theorem ze8(b:RBk)(sh:List RBand)(me:List RMeas)(l:List Int):∀ k,spoilM (changeB b sh me) l k=spoilM b l k
 | 0=>rfl
 | k+1=>by
  unfold spoilM;rw[ze8 b sh me l k];rfl
theorem zmQ(b:RBk)(sh:List RBand)(me:List RMeas):hangM (changeB b sh me)=hangM b:=by
 funext l s;have h0:allocA (changeB b sh me) l (freshM b s)=allocA b l (freshM b s):=by
  unfold allocA alloc0;rw[ze8];rfl
 unfold hangM;rw[show fitsM (changeB b sh me) l=fitsM b l from rfl,show freshM (changeB b sh me) s=freshM b s from rfl,h0]
theorem ch_sq(b:RBk)(sh:List RBand)(me:List RMeas)(all:List (List Int))(l:List Int):squaresM (changeB b sh me) all l=squaresM b all l:=by
 unfold squaresM waysM;rw[zmQ]
theorem ch_ok(b:RBk)(sh:List RBand)(me:List RMeas)(all:List (List Int))(l:List Int):sqOk (changeB b sh me) all l=sqOk b all l:=by
 unfold sqOk;rw[ch_sq]
theorem ch_hi(b:RBk)(sh:List RBand)(me:List RMeas)(all:List (List Int))(l:List Int):sqHi (changeB b sh me) all l=sqHi b all l:=by
 unfold sqHi;rw[ch_sq]
theorem zmR(b:RBk)(sh:List RBand)(me:List RMeas){all:List (List Int)}{bt:List Int×Int->List Int×Int->Bool}{c:Nat}(h:PlanA (changeB b sh me) all bt c):PlanA b all bt c:=by
 obtain⟨h1,h2,h3,h4⟩:=h;refine⟨h1,h2,(ch_ok b sh me all _).symm.trans h3,fun d a1 a2 a3=>?_⟩;have:=h4 d a1 a2 ((ch_ok b sh me all _).trans a3);simp only[ch_hi]at this;exact this
theorem ch_no(b:RBk)(sh:List RBand)(me:List RMeas){all:List (List Int)}(h:NoPlan (changeB b sh me) all):NoPlan b all:=fun d a1 a2=>(ch_ok b sh me all _).symm.trans (h d a1 a2)
section
variable {b:RBk}{all al2:List (List Int)}{l:List Int}
theorem zjj(hne:al2≠[])(Qv:∀ s∈al2,s∈all)(h:sqOk b all l=tt):sqOk b al2 l=tt/\sqLo b all l<=sqLo b al2 l/\sqHi b al2 l<=sqHi b all l:=by
 have hn:all≠[]:=fun e=>by
  cases al2 with
  | nil=>exact hne rfl
  | cons x r=>have:=Qv x sQ;rw[e]at this;cases this
 have h1:=(zcu b all l).1 h;have h2:sqOk b al2 l=tt:=(zcu b al2 l).2 fun s hs=>h1 s (Qv s hs);obtain⟨a1,_,_⟩:=sq_in hn h;obtain⟨_,⟨s1,m1,w1,e1⟩,s2,m2,w2,e2⟩:=sq_in hne h2;exact⟨h2,(a1 s1 (Qv s1 m1) w1 _ e1).1,(a1 s2 (Qv s2 m2) w2 _ e2).2⟩
theorem zk9(hne:al2≠[])(Qv:∀ s∈al2,s∈all){c:Nat}{bt:List Int×Int->List Int×Int->Bool}(hp:PlanA b all bt c):¬ NoPlan b al2:=fun hn=>by
 have h1:=hn c hp.1 hp.2.1;rw[(zjj hne Qv hp.2.2.1).1]at h1;cases h1
theorem zji(hne:al2≠[])(Qv:∀ s∈al2,s∈all){c d:Nat}(hp:PlanA b all shorterM c)(hq:PlanA b al2 shorterM d):(zE d b.sE.length).length<=(zE c b.sE.length).length:=by
 have h1:=(zjj hne Qv hp.2.2.1).1;have h3:=zm3 (d:=c) hq hp.1 hp.2.1 h1;rcases Nat.lt_or_ge (zE c b.sE.length).length (zE d b.sE.length).length with Qp|hge
 ·have:smallerM (zE c b.sE.length) (zE d b.sE.length)=tt:=(kH _ _).2 (.inl Qp);rw[h3]at this;cases this
 ·exact hge
end
theorem zkG(b:RBk)(sh:List RBand)(me:List RMeas)(s:List Int)(c:Nat):∀ k,togM (changeB b sh me) s c k=togM b s c k
 | 0=>rfl
 | k+1=>by
  show togM (changeB b sh me) s c k+_=togM b s c k+_;rw[zkG b sh me s c k];rfl
theorem zme(b:RBk)(sh:List RBand)(me:List RMeas)(s:List Int):rightM (changeB b sh me) s=me.all fun m=>decide (togM b s m.cloth.toNat m.many.toNat=m.wide):=by
 unfold rightM;show me.all _=_;congr 1;funext m;rw[zkG]
theorem zbh(n:Int):∀(j k:Nat),numsF n (j+k)=numsF n j++numsF (n+j) k
 | 0,k=>by rw[mO,show n+((0:Nat):Int)=n by omega];rfl
 | j+1,k=>by
  rw[show j+1+k=(j+k)+1 by omega];show n::numsF (n+1) (j+k)=n::(numsF (n+1) j++_);rw[zbh (n+1) j k,show n+1+(j:Int)=n+((j+1:Nat):Int) by omega]
theorem zlR{x y:RBand}(h1:x.low<=y.low)(h2:y.high<=x.high):(numsM y).Sublist (numsM x):=by
 unfold numsM;by_cases h:y.low<=y.high
 ·obtain⟨j,hj⟩:=Int.eq_ofNat_of_zero_le (show 0<=y.low - x.low by omega);obtain⟨k,hk⟩:=Int.eq_ofNat_of_zero_le (show 0<=x.high - y.high by omega);rw[show(x.high+1 - x.low).toNat=j+((y.high+1 - y.low).toNat+k) by omega,zbh,zbh,show x.low+(j:Int)=y.low by omega];exact(List.sublist_append_left _ _).trans (List.sublist_append_right _ _)
 ·rw[show(y.high+1 - y.low).toNat=0 by omega];exact List.nil_sublist _
theorem zlc{α β:Type}{f g:α->List β}(h:∀ a,(f a).Sublist (g a)){l m:List α}(hl:l.Sublist m):(l.flatMap f).Sublist (m.flatMap g):=by
 induction hl with
 | slnil=>exact List.Sublist.refl _
 | cons a _ ih=>rw[List.flatMap_cons];exact ih.trans (List.sublist_append_right _ _)
 | cons_cons a _ ih=>rw[List.flatMap_cons,List.flatMap_cons];exact(h a).append ih
theorem zg9:∀(r q:List RBand)(L M:List (List Int)),L.Sublist M->r.length=q.length->(∀(i:Nat)(x y:RBand),r[i]? =some x->q[i]? =some y->y.low<=x.low/\x.high<=y.high)->(extL L r).Sublist (extL M q)
 | [],[],L,M,h,_,_=>h
 | x::r,y::q,L,M,h,hl,hi=>by
  have h0:=hi 0 x y rfl rfl;exact zg9 r q _ _ (zlc (fun p=>(zlR h0.1 h0.2).map _) h) (by simpa using hl) fun i x' y' h1 h2=>hi (i+1) x' y' h1 h2
theorem zh2{b:RBk}{sh:List RBand}{me:List RMeas}(hl:sh.length=b.sH.length)(hi:∀(i:Nat)(x y:RBand),sh[i]? =some x->b.sH[i]? =some y->y.low<=x.low/\x.high<=y.high)(hm:∀ m∈b.mE,m∈me):(z8 (changeB b sh me)).Sublist (z8 b):=by
 have e1:z8 (changeB b sh me)=(extL [[]] sh).filter (rightM (changeB b sh me)):=by
  have:=zaC (changeB b sh me) sh [[]];rw[List.flatMap_cons,List.flatMap_nil,lR]at this;exact this
 have e2:z8 b=(extL [[]] b.sH).filter (rightM b):=by
  have:=zaC b b.sH [[]];rw[List.flatMap_cons,List.flatMap_nil,lR]at this;exact this
 rw[e1,e2];have h1:((extL [[]] sh).filter (rightM (changeB b sh me))).Sublist ((extL [[]] sh).filter (rightM b)):=by
  have:(extL [[]] sh).filter (rightM (changeB b sh me))=((extL [[]] sh).filter (rightM b)).filter (rightM (changeB b sh me)):=by
   rw[List.filter_filter];congr 1;funext s;cases h:rightM (changeB b sh me) s with
   | false=>rfl
   | true =>
    rw[zme,List.all_eq_true]at h;have:rightM b s=tt:=by
     unfold rightM;rw[List.all_eq_true];exact fun m hx=>h m (hm m hx)
    rw[this];rfl
  rw[this];exact List.filter_sublist
 exact h1.trans ((zg9 sh b.sH _ _ (List.Sublist.refl _) hl hi).filter _)
theorem zi8{b:RBk}{i:Nat}{z:RBand}(hi:i<b.sH.length)(h1:(bd b i).low<=z.low)(h9:z.high<=(bd b i).high):(z8 (driedB b i z)).Sublist (z8 b):=by
 refine zh2 (b:=b) (sh:=b.sH.set i z) (me:=b.mE) (List.length_set ..) (fun k x y hx hy=>?_) (fun m hm=>hm);rw[lX]at hx;by_cases e:i=k
 ·rw[if_pos e,if_pos hi]at hx;cases hx;subst e;rw[kJ hi]at hy;cases hy;exact⟨h1,h9⟩
 ·rw[if_neg e,hy]at hx;cases hx;exact⟨Int.le_refl _,Int.le_refl _⟩
end Go.Vel
namespace Go.Vel
open Go Go.Conc Go.Proofs
structure RGood(q:RBk):Prop where
 ck:checkM q=0
 ne:z8 q≠[]
def FewL(q:RBk)(l:List Int):Prop:=∃ c,PlanA q (z8 q) shorterM c/\l=zE c q.sE.length
structure Later(q o:RBk):Prop where
 good:RGood o
 fewer:∀ l m,FewL q l->FewL o m->m.length<=l.length
 still:∀ l,FewL q l->¬ NoPlan o (z8 o)
theorem FewL.pos{q:RBk}{l:List Int}(h:FewL q l)(hg:RGood q):0<l.length:=by
 obtain⟨c,hp,rfl⟩:=h;exact(zdP (kQ hg.ck) hp.1 hp.2.1).pos
theorem zgJ{q:RBk}(hg:RGood q){i:Nat}{z:RBand}(hi:i<q.sE.length)(h1:(bd q i).low<=z.low)(h9:z.high<=(bd q i).high)(hc:checkM (driedB q i z)=0)(hne:z8 (driedB q i z)≠[]):Later q (driedB q i z):=by
 have hb:=kQ hg.ck;have hl:=hb.cls.len;have hs:=zi8 (b:=q) (i:=i) (z:=z) oQ h1 h9;have Qv:∀ s∈z8 (driedB q i z),s∈z8 q:=fun s h=>hs.subset h;refine⟨⟨hc,hne⟩,fun l m hl hm=>?_,fun l hl hn=>?_⟩
 ·obtain⟨c,hp,rfl⟩:=hl;obtain⟨d,hd,rfl⟩:=hm;exact zji (b:=q) hne Qv hp (zmR q (q.sH.set i z) q.mE hd)
 ·obtain⟨c,hp,rfl⟩:=hl;exact zk9 hne Qv hp (ch_no q (q.sH.set i z) q.mE hn)
theorem RGood.lens{q:RBk}(hg:RGood q):(1<=q.sE.length/\q.sE.length<=100)/\q.mE.length<=100:=by
 have hb:=kQ hg.ck;have h1:=hb.sms.len;have h2:=hb.mes.len;omega
def rfitM(q:RBk):Bool := !greatM q&&decide (checkM q=0)
theorem znR{main T}(hT:zo tp main T){gm}{q:RBk}{s h e:Nat} :
  zl tp T gm 5 [.agg (zP q s h e)] [(s,zt q),(h,zX q),(e,zG q)] (fun r K'=>r=zr (rfitM q)/\K'=[(s,zt q),(h,zX q),(e,zG q)]):=zov hT
theorem ziv{main T}(hT:zo tp main T){gm}{q:RBk}{s h e:Nat}(hf:rfitM q=tt) :
  zl tp T gm 6 [.agg (zP q s h e)] [(s,zt q),(h,zX q),(e,zG q)] (fun r K'=>∃(jr n:Nat)(ob:AObj),(n≠0->RGood q)/\r=.row jr n/\K'=[(jr,ob),(s,zt q),(h,zX q),(e,zG q)]):=by
 have hck:checkM q=0:=by
  unfold rfitM at hf;simp only[mX,dT_]at hf;exact hf.2
 exact zl.mono (ziE hT (kQ hck)) fun r K' ⟨jr,Q,h1,h2⟩=>⟨jr,_,_,fun hn=>⟨hck,fun e=>hn (by rw[e];rfl)⟩,h1,h2⟩
theorem zhv{main:Bool}{T:gG->Hp->Prop}(hT:zo tp main T){q:RBk}{s h e:Nat}(hg:RGood q){n:Int}(hn:0<=n/\n<q.sE.length){x:RBand} :
  zl tp T gmR 8 [.agg (zP q s h e),za n,.agg (bandC x)] [(2,checksG),(s,zt q),(h,zX q),(e,zG q)] (fun r K'=>(∃ c,c≠0/\r=.tup [.agg z7R,za c]/\K'=[(2,checksG),(s,zt q),(h,zX q),(e,zG q)])\/(∃ o s4 h4 e4,Later q o/\r=.tup [.agg (zP o s4 h4 e4),za 0]/\K'=[(s4,zt o),(h4,zX o),(e4,zG o),(2,checksG),(s,zt q),(h,zX q),(e,zG q)])):=by
 obtain⟨⟨_,hl⟩,hm⟩:=hg.lens;refine zl.mono (zol hT hl hm) fun r K' h=>?_;rcases h with⟨h1,h2,h3⟩|⟨_,_,h2,h3⟩|⟨_,_,_,h2,h3⟩|⟨_,_,_,h⟩
 ·exact .inl ⟨_,h1,h2,h3⟩
 ·exact .inl ⟨1,by decide,h2,h3⟩
 ·exact .inl ⟨9,by decide,h2,h3⟩
 ·rcases h with⟨h1,h2,h3⟩|⟨_,_,h2,h3⟩|⟨h1,h2,s4,h4,e4,h5,h6⟩
  ·exact .inl ⟨_,h1,h2,h3⟩
  ·exact .inl ⟨9,by decide,h2,h3⟩
  ·exact .inr ⟨_,s4,h4,e4,zgJ hg oQ (show(bd q n.toNat).low<=max (bd q n.toNat).low x.low from Int.le_max_left _ _) (show min (bd q n.toNat).high x.high<=(bd q n.toNat).high from Int.min_le_left _ _) h1 h2,h5,h6⟩
theorem uj{Ψ:gG->World->Prop}{q:RBk}{s h e:Nat}(hg:RGood q) :
  zl tp (BT tp Ψ) gmR 9 [.agg (zP q s h e)] [(2,checksG),(s,zt q),(h,zX q),(e,zG q)] (fun r K'=>(NoPlan q (z8 q)/\r=.tup [.v (.slice none 0 0),zr ff,za 0]/\K'=[(2,checksG),(s,zt q),(h,zX q),(e,zG q)])\/(∃(l:List Int)(jc:Nat)(ec:gT),FewL q l/\r=.tup [.sl jc 0 l.length,zr tt,za 0]/\K'=[(jc,.cells (l.map za) ec ff),(2,checksG),(s,zt q),(h,zX q),(e,zG q)])):=by
 obtain⟨⟨_,hl⟩,hm⟩:=hg.lens;refine zl.mono (zjk hl hm) fun r K' h=>?_;rcases h with⟨h1,_⟩|⟨_,h1,_⟩|⟨_,_,h⟩
 ·exact absurd hg.ck h1
 ·exact absurd h1 hg.ne
 ·rcases h with h|⟨c,jc,ec,h1,h2,h3⟩
  ·exact .inl h
  ·exact .inr ⟨_,jc,ec,⟨c,h1,rfl⟩,h2,h3⟩
theorem zeL{b:Bk}{s e:Nat}{q:RBk}{s3 h3 e3:Nat}{x:RBand}{k3 k4 k5 k6:Int}(hse:s≠e)(hk3:0<=k3/\k3<256)(hk4:0<=k4/\k4<256)(hk5:0<=k5/\k5<256)(hk6:0<=k6/\k6<256):Top tp gmR 3 [.agg (zA b s e),.agg (zP q s3 h3 e3),.agg (bandC x),.v (.int .u8 k3),.v (.int .u8 k4),.v (.int .u8 k5),.v (.int .u8 k6)] [(0,zx),(1,zC),(2,checksG),(s3,zt q),(h3,zX q),(e3,zG q),(s,zu b),(e,zw b)] (fun r _=>r=zr tt):=by
 refine topI 116 Tryz.func3 fun R Y Wz=>?_;have hT:=kI (P:=tp) (AtRet tp 3 R);refine au 21042 ?_;intro jb hjb;refine au 210 ?_;intro jq hjq;refine au 210 ?_;intro jx hjx;refine au 68042235 ?_;refine TK.clE Z Z Z Z (zm4 hT hse) ?_;refine au 1300 ?_;refine bF 28 (fun g1_4=>?_) (fun g1_4=>?_)
 ·refine au 42180326088881260888 ?_;refine TK.clE Z Z Z Z (kb) ?_;refine au 35 ?_;refine bB Wz [] ?_;rfl
 have hf:=zou (b:=b) (by simpa using g1_4);have hck:=hf.check;refine au 680 ?_;refine TK.clE Z Z Z Z (znR hT) ?_;refine au 1250300 ?_;refine bF 33 (fun g1_9=>?_) (fun g1_9=>?_)
 ·refine au 4218032608888 ?_;refine TK.clE Z Z Z Z (kb) ?_;refine au 35 ?_;refine bB Wz [] ?_;rfl
 have hrf:rfitM q=tt:=by simpa using g1_9
 refine au 680 ?_;refine bD Z Z Z Z (ziv hT hrf) ?_;rintro r13 K14 ⟨jr,nr,ob,hgq,rfl,rfl⟩;refine au 932507280 ?_;apply aI<;>intro Jz
 ·refine au 42 ?_;refine TK.clE Z Z Z Z (kb) ?_;refine au 35 ?_;refine bB Wz [] ?_;rfl
 have hg:=hgq (by simpa using Jz);have hql:=hg.lens;have m3:=Int.emod_nonneg k3 (show(q.sE.length:Int)≠0 by omega);have m3':=Int.emod_lt_of_pos k3 (show 0<(q.sE.length:Int) by omega);refine au 2120 ?_;refine bL [0,1,2,3,4,5,6,7,8,9,10,12,13,11,14] ?_;refine ad [[12,8],[1,3]] ?_;refine bU [42] Z (yr Z Z Und.h Und.h (kg oQ)) ?_;refine ad [[3,8],[10,44]] ?_;refine bU [45] Z (q_len Z Z Z Und.h) ?_;refine bU [43,46] Z (q_rem Z Z Z oQ oQ) ?_;refine ad [[12,9]] ?_;refine TD.c2 (i1:=8) (i2:=12) (pend1:=[_,_,_,_,_]) (pend2:=[_,_,_,_,_,_,_,_]) (L1:=[9,10,11,12,13,14]) (L2:=[8,9,10,11,13,14]) [41,47,48] [] Z Z Z Z Z Z Z ?_ ?_
 ·refine vM Z Z Cal.h Z (zhv hT hg ⟨m3,m3'⟩) vQ fun r19 K20 h21=>⟨?_,?_⟩
  ·rcases h21 with⟨c,hcn,rfl,rfl⟩|⟨o,s4,h4,e4,hlo,rfl,rfl⟩;all_goals simp
  rcases h21 with⟨c,hcn,rfl,rfl⟩|⟨o,s4,h4,e4,hlo,rfl,rfl⟩
  ·try simp only[cA]
   refine bS (Wk:=[_,_,_,_,_,_,_,_,_,_,_,_,_,_,_,_,_,_,_,_,_,_,_,_,_,_,_,_,_,_,_,_,_,_,_,_,_,_,_,_,_,_,_,_,_,_,_,_,_,_,_,_,_,_,_,_,_,_,_,_,_,_,_,_,_,_,_,_,_,_,_,_,_,_,_,_,_,_,_,_,_,_,_,_,_,_,_,_,_,_,_,_,_,_,_,_,_,_,_,_,_,_,_,_,_,_,_,_,_,_,_,_,_,_,_,_]) Z ?_;refine ad [[1,49],[5,40],[5,40]] ?_;refine bX (Wx:=[_,_,_,_,_,_,_,_]) [] Z Z Z Z Z (yA Z TyZA.h) (fun _=>zD rfl tQ) sQ fun jo hjo=>?_;refine bR (Wx:=[_]) [15,50] Z Z (zz Z Z ze.h Z Z mQ Z) ?_;refine ad [[13,51],[14]] ?_;refine au 9371422 ?_;apply aI<;>intro Jx
   ·refine au 42 ?_;refine TK.clE Z Z Z Z (kb) ?_;refine au 35 ?_;refine bB Wz [] ?_;rfl
   exact absurd Jx (by simpa using hcn)
  ·try simp only[cA]
   refine bS (Wk:=[_,_,_,_,_,_,_,_,_,_,_,_,_,_,_,_,_,_,_,_,_,_,_,_,_,_,_,_,_,_,_,_,_,_,_,_,_,_,_,_,_,_,_,_,_,_,_,_,_,_,_,_,_,_,_,_,_,_,_,_,_,_,_,_,_,_,_,_,_,_,_,_,_,_,_,_,_,_,_,_,_,_,_,_,_,_,_,_,_,_,_,_,_,_,_,_,_,_,_,_,_,_,_,_,_,_,_,_,_,_,_,_,_,_,_,_]) Z ?_;refine ad [[1,49],[5,40],[5,40]] ?_;refine bX (Wx:=[_,_,_,_,_,_,_,_]) [] Z Z Z Z Z (yA Z TyZA.h) (fun _=>zD rfl tQ) sQ fun jo hjo=>?_;refine bR (Wx:=[_]) [15,50] Z Z (zz Z Z ze.h Z Z mQ Z) ?_;refine ad [[13,51],[14]] ?_;refine au 9371422 ?_;apply aI<;>intro Jx
   ·exact absurd Jx dQ
   refine au 68042120 ?_;refine bD Z Z Z Z (uj hg) ?_;rintro r25 K26 h27;rcases h27 with⟨hno,rfl,rfl⟩|⟨l1,j1,e1,hl1,rfl,rfl⟩
   ·refine au 6804235556661 ?_;refine bD Z Z Z Z (uj hlo.good) ?_;rintro r28 K29 h30;rcases h30 with⟨hno2,rfl,rfl⟩|⟨l2,j2,e2,hl2,rfl,rfl⟩
    ·refine au 0 ?_;refine au 9330014221201903250250888888888888881112507117142235556661 ?_;apply aI<;>intro hc3
     ·
      refine au 42 ?_;refine TK.clE Z Z Z Z (kb) ?_;refine au 35 ?_;refine bB Wz [] ?_;rfl
     exact absurd hc3 dQ
    ·refine au 9330014221201903250250888888888888881112507117142235556661 ?_;apply aI<;>intro hc3
     ·
      refine au 42 ?_;refine TK.clE Z Z Z Z (kb) ?_;refine au 35 ?_;refine bB Wz [] ?_;rfl
     exact absurd hc3 dQ
   ·refine au 6804235556661 ?_;refine bD Z Z Z Z (uj hlo.good) ?_;rintro r37 K38 h39;rcases h39 with⟨hno2,rfl,rfl⟩|⟨l2,j2,e2,hl2,rfl,rfl⟩
    ·exact(hlo.still _ hl1 hno2).elim
    ·refine au 1250728012801130011112507117142235556661 ?_;refine bF 85 (fun g8_19=>?_) (fun g8_19=>?_)
     ·have:=oT_ g8_19;have:=hlo.fewer _ _ hl1 hl2;omega
     have hle:=hlo.fewer _ _ hl1 hl2;refine au 9325026025072801 ?_;apply aI<;>intro hc2
     ·first|exact absurd hc2 dQ|(have h8:=hl2.pos hlo.good;have h9:=eq_of_beq hc2;omega)
     refine au 933001422120 ?_;apply aI<;>intro hc3
     ·exact absurd hc3 dQ
     refine au 2120 ?_;refine bL [0,2,3,4,1,5] ?_;refine ad [[12,7],[12,7]] ?_;refine TD.c2 (i1:=2) (i2:=3) (pend1:=[_,_]) (pend2:=[_,_]) (L1:=[3,4,5]) (L2:=[2,4,5]) [] [] Z Z Z Z Z Z Z ?_ ?_
     ·refine kK Z (yA Z TyZA.h) (fun _=>zD rfl tQ) sQ fun jw hjw=>?_;refine bX (Wx:=[_,_]) [] Z Z Z Z Z (yA Z TyZA.h) (fun _=>zD rfl tQ) sQ fun jn hjn=>?_;refine bR (Wx:=[_]) [23,95] Z Z (zz Z Z ze.h Z Z mQ Z) ?_;refine bR (Wx:=[]) [24,96] Z Z (zz Z Z ze.h Z Z mQ Z) ?_;refine ad [[14]] ?_;refine au 280142 ?_;refine bH Z (q_min Z Z Z) ?_;refine TK.clE Z Z Z Z (to_ok hT) ?_;refine au 2801 ?_;refine bH Z (q_min Z Z Z) ?_;refine TK.clE Z Z Z Z (to_ok hT) ?_;refine au 111680680423170670170670 ?_;refine TK.clE Z Z Z Z (uH (b:=b) (s:=s) (e:=e) (n1:=(if 3<(l1.length:Int)then 3 else(l1.length:Int))) (n2:=(if 3<(l2.length:Int)then 3 else(l2.length:Int))) hse hck ⟨by split <;> omega,by split <;> split <;> omega,by split <;> omega⟩ hf.names hf.seen hf.says hk4 hk5 hk6) ?_;refine au 1 ?_;refine TK.clE Z Z Z Z (kb) ?_;refine au 35260 ?_;refine bB Wz [] ?_;rfl
     ·refine kK Z (yA Z TyZA.h) (fun _=>zD rfl tQ) sQ fun jn hjn=>?_;refine bX (Wx:=[_,_]) [] Z Z Z Z Z (yA Z TyZA.h) (fun _=>zD rfl tQ) sQ fun jw hjw=>?_;refine bR (Wx:=[_]) [23,95] Z Z (zz Z Z ze.h Z Z mQ Z) ?_;refine bR (Wx:=[]) [24,96] Z Z (zz Z Z ze.h Z Z mQ Z) ?_;refine ad [[14]] ?_;refine au 280142 ?_;refine bH Z (q_min Z Z Z) ?_;refine TK.clE Z Z Z Z (to_ok hT) ?_;refine au 2801 ?_;refine bH Z (q_min Z Z Z) ?_;refine TK.clE Z Z Z Z (to_ok hT) ?_;refine au 111680680423170670170670 ?_;refine TK.clE Z Z Z Z (uH (b:=b) (s:=s) (e:=e) (n1:=(if 3<(l1.length:Int)then 3 else(l1.length:Int))) (n2:=(if 3<(l2.length:Int)then 3 else(l2.length:Int))) hse hck ⟨by split <;> omega,by split <;> split <;> omega,by split <;> omega⟩ hf.names hf.seen hf.says hk4 hk5 hk6) ?_;refine au 1 ?_;refine TK.clE Z Z Z Z (kb) ?_;refine au 35260 ?_;refine bB Wz [] ?_;rfl
 ·refine kK Z (yA Z TyZA.h) (fun _=>zD rfl tQ) sQ fun jo hjo=>?_;refine TD.cl (Wx:=[_,_,_,_,_]) [41,47,48] Z Z Z Z Z (zhv hT hg ⟨m3,m3'⟩) (fun r64 K65 h66=>⟨?_,?_⟩)
  ·rcases h66 with⟨c,hcn,rfl,rfl⟩|⟨o,s4,h4,e4,hlo,rfl,rfl⟩;all_goals simp
  rcases h66 with⟨c,hcn,rfl,rfl⟩|⟨o,s4,h4,e4,hlo,rfl,rfl⟩
  ·try simp only[cA]
   refine bS tQ ?_;refine ad [[1,49],[5,40],[5,40]] ?_;refine bR (Wx:=[_]) [15,50] Z Z (zz Z Z ze.h Z Z mQ Z) ?_;refine ad [[13,51],[14]] ?_;refine au 9371422 ?_;apply aI<;>intro Jx
   ·refine au 42 ?_;refine TK.clE Z Z Z Z (kb) ?_;refine au 35 ?_;refine bB Wz [] ?_;rfl
   exact absurd Jx (by simpa using hcn)
  ·try simp only[cA]
   refine bS tQ ?_;refine ad [[1,49],[5,40],[5,40]] ?_;refine bR (Wx:=[_]) [15,50] Z Z (zz Z Z ze.h Z Z mQ Z) ?_;refine ad [[13,51],[14]] ?_;refine au 9371422 ?_;apply aI<;>intro Jx
   ·exact absurd Jx dQ
   refine au 68042120 ?_;refine bD Z Z Z Z (uj hg) ?_;rintro r70 K71 h72;rcases h72 with⟨hno,rfl,rfl⟩|⟨l1,j1,e1,hl1,rfl,rfl⟩
   ·refine au 6804235556661 ?_;refine bD Z Z Z Z (uj hlo.good) ?_;rintro r73 K74 h75;rcases h75 with⟨hno2,rfl,rfl⟩|⟨l2,j2,e2,hl2,rfl,rfl⟩
    ·refine au 0 ?_;refine au 9330014221201903250250888888888888881112507117142235556661 ?_;apply aI<;>intro hc3
     ·
      refine au 42 ?_;refine TK.clE Z Z Z Z (kb) ?_;refine au 35 ?_;refine bB Wz [] ?_;rfl
     exact absurd hc3 dQ
    ·refine au 9330014221201903250250888888888888881112507117142235556661 ?_;apply aI<;>intro hc3
     ·
      refine au 42 ?_;refine TK.clE Z Z Z Z (kb) ?_;refine au 35 ?_;refine bB Wz [] ?_;rfl
     exact absurd hc3 dQ
   ·refine au 6804235556661 ?_;refine bD Z Z Z Z (uj hlo.good) ?_;rintro r82 K83 h84;rcases h84 with⟨hno2,rfl,rfl⟩|⟨l2,j2,e2,hl2,rfl,rfl⟩
    ·exact(hlo.still _ hl1 hno2).elim
    ·refine au 1250728012801130011112507117142235556661 ?_;refine bF 85 (fun g8_19=>?_) (fun g8_19=>?_)
     ·have:=oT_ g8_19;have:=hlo.fewer _ _ hl1 hl2;omega
     have hle:=hlo.fewer _ _ hl1 hl2;refine au 9325026025072801 ?_;apply aI<;>intro hc2
     ·first|exact absurd hc2 dQ|(have h8:=hl2.pos hlo.good;have h9:=eq_of_beq hc2;omega)
     refine au 933001422120 ?_;apply aI<;>intro hc3
     ·exact absurd hc3 dQ
     refine au 2120 ?_;refine bL [0,2,3,4,1,5] ?_;refine ad [[12,7],[12,7]] ?_;refine TD.c2 (i1:=2) (i2:=3) (pend1:=[_,_]) (pend2:=[_,_]) (L1:=[3,4,5]) (L2:=[2,4,5]) [] [] Z Z Z Z Z Z Z ?_ ?_
     ·refine kK Z (yA Z TyZA.h) (fun _=>zD rfl tQ) sQ fun jw hjw=>?_;refine bX (Wx:=[_,_]) [] Z Z Z Z Z (yA Z TyZA.h) (fun _=>zD rfl tQ) sQ fun jn hjn=>?_;refine bR (Wx:=[_]) [23,95] Z Z (zz Z Z ze.h Z Z mQ Z) ?_;refine bR (Wx:=[]) [24,96] Z Z (zz Z Z ze.h Z Z mQ Z) ?_;refine ad [[14]] ?_;refine au 280142 ?_;refine bH Z (q_min Z Z Z) ?_;refine TK.clE Z Z Z Z (to_ok hT) ?_;refine au 2801 ?_;refine bH Z (q_min Z Z Z) ?_;refine TK.clE Z Z Z Z (to_ok hT) ?_;refine au 111680680423170670170670 ?_;refine TK.clE Z Z Z Z (uH (b:=b) (s:=s) (e:=e) (n1:=(if 3<(l1.length:Int)then 3 else(l1.length:Int))) (n2:=(if 3<(l2.length:Int)then 3 else(l2.length:Int))) hse hck ⟨by split <;> omega,by split <;> split <;> omega,by split <;> omega⟩ hf.names hf.seen hf.says hk4 hk5 hk6) ?_;refine au 1 ?_;refine TK.clE Z Z Z Z (kb) ?_;refine au 35260 ?_;refine bB Wz [] ?_;rfl
     ·refine kK Z (yA Z TyZA.h) (fun _=>zD rfl tQ) sQ fun jn hjn=>?_;refine bX (Wx:=[_,_]) [] Z Z Z Z Z (yA Z TyZA.h) (fun _=>zD rfl tQ) sQ fun jw hjw=>?_;refine bR (Wx:=[_]) [23,95] Z Z (zz Z Z ze.h Z Z mQ Z) ?_;refine bR (Wx:=[]) [24,96] Z Z (zz Z Z ze.h Z Z mQ Z) ?_;refine ad [[14]] ?_;refine au 280142 ?_;refine bH Z (q_min Z Z Z) ?_;refine TK.clE Z Z Z Z (to_ok hT) ?_;refine au 2801 ?_;refine bH Z (q_min Z Z Z) ?_;refine TK.clE Z Z Z Z (to_ok hT) ?_;refine au 111680680423170670170670 ?_;refine TK.clE Z Z Z Z (uH (b:=b) (s:=s) (e:=e) (n1:=(if 3<(l1.length:Int)then 3 else(l1.length:Int))) (n2:=(if 3<(l2.length:Int)then 3 else(l2.length:Int))) hse hck ⟨by split <;> omega,by split <;> split <;> omega,by split <;> omega⟩ hf.names hf.seen hf.says hk4 hk5 hk6) ?_;refine au 1 ?_;refine TK.clE Z Z Z Z (kb) ?_;refine au 35260 ?_;refine bB Wz [] ?_;rfl
end Go.Vel
end
