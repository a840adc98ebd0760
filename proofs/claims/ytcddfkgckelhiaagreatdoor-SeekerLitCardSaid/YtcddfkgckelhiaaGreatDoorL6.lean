/- Texts for the statements of chapter 9: what all of them need, part 7. It holds of every program, tape and world that the statements name, as each theorem says. -/
import Derived.Shelf.Sort.Plain
import Derived.Shelf.Slices.CompactI
import Derived.Shelf.Slices.In.SortNone
import Derived.Sort.OwnSortedInts
import Derived.Test.YtcddfkgckelhiaaGreatDoorL3
import Derived.Test.YtcddfkgckelhiaaGreatDoorL4
import Derived.Test.YtcddfkgckelhiaaGreatDoorL5
section
set_option linter.all false
set_option maxRecDepth 20000
set_option maxHeartbeats 60000000
open Go.Proofs.Tryz renaming prog -> tp
open List renaming getElem?_eq_getElem -> lA, getElem?_eq_some_iff -> lD, length_append -> lF, getElem?_append_left -> lG, perm_append_comm -> lH, mem_cons -> lI, length_map -> lJ, eq_nil_of_length_eq_zero -> lK, mem_cons_of_mem -> lL, map_append -> lM, getElem?_set_ne -> lP, getElem?_map -> lQ, append_nil -> lR, mem_singleton -> lS, mem_append -> lT, take_length -> lW, mem_map -> lY, length_cons -> lZ, replicate -> mB
open List.Mem renaming head -> mC
open Array renaming getElem?_toList -> mI
open Nat renaming le_refl -> mL, zero_le -> mN, zero_add -> mO, eq_zero_or_pos -> mP, le_trans -> mT
open Bool renaming false_eq_true -> mU, not_eq_true' -> mV, and_eq_true -> mX
open Option renaming map_eq_some_iff -> mY
open Int renaming toNat_natCast -> mZ
open Go.Vel.TK renaming maskL -> bA, rt -> bB, kp -> bC, cl -> bD, loopN -> bE, newR -> bI, dq -> bL, perm -> bN, appR -> bO
open Go.Vel.TD renaming s -> bR, norm -> bS, cnewP -> bX
namespace Go.Vel
open Go Go.Conc Go.Proofs
theorem zd7 {main:Bool} {T:Goroutine->Hp->Prop} (hT:zk tp main T)  {b:Bk} {s e:Nat} (hse:s≠e) (hn:∀ x∈b.seekers,x.name.size<=1000) (hl:b.seen.length<=1000) :
  zh tp T gmS 43 [.agg (zx b s e)] [(0,zr),(1,zz),(s,zo b),(e,zp b)] (fun r K'=>(checkM b≠0/\r=.tup [.v (.slice none 0 0),intA 0,zl false,intA (checkM b)]/\K'=[(0,zr),(1,zz),(s,zo b),(e,zp b)])\/(checkM b=0/\guessM b (allM b)=[]/\r=.tup [.v (.slice none 0 0),intA 0,zl false,intA 0]/\K'=[(0,zr),(1,zz),(s,zo b),(e,zp b)])\/(checkM b=0/\guessM b (allM b)≠[]/\∃ j,r=.tup [.sl j 0 (likelyM b).1.length,intA (likelyM b).2,zl true,intA 0]/\K'=[(0,zr),(1,zz),(s,zo b),(e,zp b),(j,.cells ((likelyM b).1.map intA) 3 false)])):=by
 refine wB 50 hT Tryz.func43 fun Y hro hret=>?_;refine au 21042 ?_;intro jb hjb;refine au 68042235555 ?_;refine bD Z Z Z Z (kN hT (b:=b) (s:=s) (e:=e) hn hl) ?_;rintro r1 K2 ⟨rfl,rfl⟩;refine au 93714235 ?_;constructor<;>intro hc0
 ·refine au 35555142 ?_;refine TK.leave (.ret _) fun A hA=>hret _ _ _ _ ([(0,_),(1,_),(s,_),(e,_)]) ([(0,_),(1,_),(s,_),(e,_)]) _ _ _ (.inr rfl) (by repeat (first | exact Split.none _ | exact Split.all _ | (apply Split.rem; repeat (first | exact Rem.head | apply Rem.tail)) | apply Split.right)) sQ sQ (by repeat (first | exact Split.none _ | exact Split.all _ | (apply Split.rem; repeat (first | exact Rem.head | apply Rem.tail)) | apply Split.right)) (kf (.cons (zR Z) (.cons (zR Z) (.cons (zR Z) (.cons (zR Z) ResKs.nil)))) rfl) ?_ A hA;exact .inl ⟨by simpa using hc0,rfl,rfl⟩
 have hck:checkM b=0:=by simpa using hc0
 have hb:=yy hck;refine au 22043068042120 ?_;intro jx hjx;refine au 220423170 ?_;intro jl hjl;refine TK.virtC (t:=234) (e:=238) (size:=2) (fun _=>uQ) fun jo0 hjo0=>?_;refine au 13033206804223 ?_;refine TK.rangeAll hT hb (s:=s) (e:=e) (K0:=(jl,.cells [.row jo0 0] 234 true)::(jo0,.row [] 238 2)::(jx,.cells (zx b s e) 205 true)::(1,zz)::(s,zo b)::[]) (J:=fun pre K1=>∃ (jo:Nat) (P:List Gs),P.map (·.2)=guessM b pre/\K1=(jl,.cells [.row jo P.length] 234 true)::(jo,.row (refsG P) 238 2)::(jx,.cells (zx b s e) 205 true)::(1,zz)::(s,zo b)::objsG P) (D:=fun _ _=>False) rfl hro rfl (by repeat (first | exact Split.none _ | exact Split.all _ | (apply Split.rem; repeat (first | exact Rem.head | apply Rem.tail)) | apply Split.right)) ⟨jo0,[],rfl,rfl⟩ (fun Y' l lo lb pre S K1 hbegin hfin hout hpre hJ=>?_) (fun d K2 hJ=>?_) (fun d c K2 hD=>?_)
 ·obtain ⟨jo,P,hP,rfl⟩:=hJ;have hSm:=uO hb hpre;have hpl:=zgV hb hpre (fun S => !badM b S b.seekers.length);have hPl:P.length<=65536:=by have:=congrArg List.length hP; unfold guessM at this; simp only [lJ] at this; omega
  refine au 2204 ?_;intro j4 hj4;refine au 3170 ?_;refine hbegin _ _ _ _ _ uQ ?_;refine au 68068042130 ?_;refine bD Z Z Z Z (zgd hT (s:=s) (e:=e) hb hSm) ?_;rintro r5 K6 ⟨rfl,rfl⟩;refine au 93142355661 ?_;constructor<;>intro hc1
  ·have hwr:0<=wrongM b S/\wrongM b S<=100:=by unfold wrongM; have:=zeB b S b.seekers.length; have:=hb.ns; split <;> omega
   refine TK.dr [0,1,3,2,4,5,6,7] [0,1,2,3,4,5,6,7] ?_;refine ad [[10,8],[12,9],[1,10]] ?_;refine TD.cl (pend':=[⟨3,[10],[]⟩,⟨0,[8],[(_,_)]⟩]) [31] Z Z Z Z Z (zkF hT hSm.len fun x hx=>⟨(hSm.mem x hx).1,by have:=(hSm.mem x hx).2; have:=hb.steps; omega⟩) (fun r8 K9 h10=>⟨?_,?_⟩)
   ·rcases h10 with ⟨jr,rfl,rfl⟩
    all_goals simp
   obtain ⟨jr,rfl,rfl⟩:=h10;try simp only [cA]
   refine bS tQ ?_;refine TD.z [32,33] Z (yq (l:=[_,_]) Z TyZ.h BlOf.h Z) ?_;refine TD.cnewR (pend':=[⟨3,[10],[]⟩,⟨0,[8],[(_,_)]⟩]) [34] Z Z Z Z Z (zD (l:=[_,_]) Z zT.h TyZ.h dQ dQ Z) (fun _=>zt rfl tQ) sQ fun j11 hj11=>?_;refine TD.capp (pend':=[⟨3,[10],[]⟩]) [30,35] Z Z Z Z Z (a_app Z ApOf.h Z mQ (zek P) Z (yG (ln:=[_,_]) mQ dQ sQ Z) oQ Z (by unfold maxLen; omega) oQ) (fun _=>uQ) (fun _=>zt rfl tQ) (fun _=>sQ) fun jo2=>?_;refine bR (pend':=[]) [8,36] Z Z (zy Z Z zd.h Z Z mQ Z) ?_;refine ad [[14]] ?_;refine au 140 ?_;refine bC ((l,lb)::(e,zp b)::(jr,_)::(jl,_)::(jo2,_)::(jx,_)::(1,_)::(s,_)::objsG P) ?_;refine bN (K':=(l,lb)::(e,zp b)::(jl,_)::(jo2,_)::(jx,_)::(1,_)::(s,_)::objsG (P++[(jr,S,wrongM b S)])) (by rw [zi3]; exact (List.Perm.cons _ (List.Perm.cons _ (List.perm_append_singleton _ ((jl,_)::(jo2,_)::(jx,_)::(1,_)::(s,_)::objsG P)).symm))) ?_;exact hfin _ _ ((jl,_)::(jo2,_)::(jx,_)::(1,_)::(s,_)::objsG (P++[(jr,S,wrongM b S)])) _ (.all _) ⟨jo2,P++[(jr,S,wrongM b S)],by rw [zku (by simpa using hc1),lM,hP]; rfl,by rw [zjr,lF] <;> rfl⟩
  refine au 140120 ?_;exact hfin _ _ ((jl,_)::(jo,_)::(jx,_)::(1,_)::(s,_)::objsG P) _ (by repeat (first | exact Split.none _ | exact Split.all _ | (apply Split.rem; repeat (first | exact Rem.head | apply Rem.tail)) | apply Split.right)) ⟨jo,P,by rw [zkt (by simpa using hc1)]; exact hP,rfl⟩
 ·obtain ⟨jo,P,hP,rfl⟩:=hJ;have hPl:P.length<=65536:=by
   have h1:=congrArg List.length hP;have h2:=zbN hb;have h3:=List.length_filter_le (fun S => !badM b S b.seekers.length) (allM b);unfold guessM at h1;simp only [lJ] at h1;omega
  simp only [cA];refine bN (List.Perm.cons _ (List.Perm.cons _ (List.Perm.cons _ (List.Perm.cons _ (List.Perm.cons _ (List.Perm.cons _ (List.Perm.cons _ lH))))))) ?_;simp only [cA];refine au 937280690422140 ?_;constructor<;>intro hc2
  ·have hPn:P=[]:=lK (by have h:(P.length:Int)=0:=(by simpa using hc2); omega);refine au 3555542 ?_;refine TK.leave (.ret _) fun A hA=>hret _ _ _ _ ([(0,_),(1,_),(s,_),(e,_)]) ([(0,_),(1,_),(s,_),(e,_)]) _ _ _ (.inr rfl) (by repeat (first | exact Split.none _ | exact Split.all _ | (apply Split.rem; repeat (first | exact Rem.head | apply Rem.tail)) | apply Split.right)) sQ sQ (by repeat (first | exact Split.none _ | exact Split.all _ | (apply Split.rem; repeat (first | exact Rem.head | apply Rem.tail)) | apply Split.right)) (kf (.cons (zR Z) (.cons (zR Z) (.cons (zR Z) (.cons (zR Z) ResKs.nil)))) rfl) ?_ A hA;exact .inr (.inl ⟨hck,by rw [<- hP,hPn]; rfl,rfl,rfl⟩)
  obtain ⟨p,ps,rfl⟩:∃ p ps,P=p::ps:=by
   cases P with
   | nil=>exact absurd hc2 dQ
   | cons p ps=>exact ⟨p,ps,rfl⟩
  have hlen:∀ x∈p::ps,x.2.1.length<=1000:=fun x hx=>by
   have h1:x.2∈guessM b (allM b):=by rw [<- hP]; exact List.mem_map_of_mem (f:=fun x:Gs=>x.2) hx
   obtain ⟨S,hS,h2⟩:=lY.1 h1;have:=(uI hb S (List.mem_filter.1 hS).1).len;rw [<- h2]; dsimp only; omega
  refine au 2120 ?_;refine bL [0,1,2,3,4,5,6,7] ?_;refine ad [[10,8]] ?_;refine TD.y [40] Z (hq:=vM Z Z Z zT.h (mC _) (by first | omega | (simp only [lZ]; omega)) (by first | omega | (simp only [lZ]; omega))) (h:=?_);refine TD.y [41] Z (hq:=zN Z Z zd.h (mC _) (zah (k:=0) sQ)) (h:=?_);refine ad [[10,8]] ?_;refine TD.y [43] Z (hq:=zag Z Z zT.h (mC _) Z Z (by first | omega | (simp only [lZ]; omega)) (by first | omega | (simp only [lZ]; omega)) Z) (h:=?_);refine TD.c2 (i1:=5) (i2:=6) (pend1:=[⟨3,[8],[(_,_)]⟩,⟨1,[40],[(_,_)]⟩,⟨0,[8],[(_,_)]⟩]) (pend2:=[⟨4,[43],[(_,_)]⟩,⟨3,[8],[(_,_)]⟩,⟨2,[41],[(_,_)]⟩,⟨1,[40],[(_,_)]⟩,⟨0,[8],[(_,_)]⟩]) (L1:=[6,7]) (L2:=[5,7]) [42,44] [] Z Z Z Z Z Z Z ?_ ?_
  ·refine zdT Z Z Cal.h Z (zau hT (o:=p) (xs:=ps) (lt:=fun a c=>ltGuess a.2 c.2) (fv:=.fn 121 [] []) (jo:=jo) (off:=2) (obo:=.row (refsG (p::ps)) 238 2) (K:=(jo,.row (refsG (p::ps)) 238 2)::objsG (p::ps)) (by simp at hPl; omega) sQ (fun k hk=>by rw [show 2+((k:Int)).toNat*2=(k+1)*2 by rw [mZ]; omega]; exact zah (P:=p::ps) (k:=k+1) (by simpa using hk)) (fun x hx y hy=>yC Cal.h (zcy hT (lL _ (wD hx)) (lL _ (wD hy)) (ym _ _ _) (ym _ _ _) (hlen x hx) (hlen y hy)))) (by repeat (first | exact Split.none _ | exact Split.all _ | (apply Split.rem; repeat (first | exact Rem.head | apply Rem.tail)) | apply Split.right)) fun r12 K13 h14=>⟨?_,?_⟩
   ·rcases h14 with ⟨rfl,rfl⟩
    all_goals simp
   obtain ⟨rfl,rfl⟩:=h14;try simp only [cA]
   refine bS (env':=[_,_,_,_,_,_,_,_,_,_,_,_,_,_,_,_,_,_,_,_,_,_,_,_,_,_,_,_,_,_,_,_,_,_,_,_,_,_,_,_,_,_,_,_,_,_,_,_,_,_]) Z ?_;refine TD.perm (List.Perm.cons _ lH) ?_;simp only [cA];generalize hres0:zQ (fun (a c:Gs)=>ltGuess a.2 c.2) p ps=res;have hmem:res∈p::ps:=hres0 ▸ kl;obtain ⟨R1,hR1⟩:=vO (wD hmem);have hcl:res.2=likelyM b:=by
    rw [<- hres0,uW (fun x:Gs=>x.2)];unfold likelyM;rw [<- hP]; rfl
   refine bX (pend':=[⟨3,[8],[(_,_)]⟩,⟨1,[40],[(_,_)]⟩,⟨0,[8],[(_,_)]⟩]) [] Z Z Z Z Z (zY Z TyZA.h) (fun _=>zt rfl tQ) sQ fun jg hjg=>?_;refine bR (pend':=[]) [12,45] Z Z (zy Z Z zd.h Z Z mQ Z) ?_;refine ad [[14]] ?_;refine au 2 ?_;refine bL [0,1,4,2,3,5,6,7] ?_;refine ad [[3,12],[10,46],[3,12],[10,48]] ?_;refine TD.as (pend':=[⟨3,[48],[(_,_)]⟩,⟨2,[12],[]⟩]) [47] Z Z (zV Z Z) ?_;refine ad [[13,49],[13],[13],[14]] ?_;refine TK.leave (.ret _) fun A hA=>hret _ _ _ _ ([(0,_),(1,_),(s,_),(e,_),(res.1,.cells (res.2.1.map intA) 3 false)]) ([(0,_),(1,_),(s,_),(e,_),(res.1,.cells (res.2.1.map intA) 3 false)]) _ _ _ (.inr rfl) (by repeat (first | exact Split.none _ | exact Split.all _ | (apply Split.rem; repeat (first | exact Rem.head | exact hR1 | apply Rem.tail)) | apply Split.right)) sQ sQ (by repeat (first | exact Split.none _ | exact Split.all _ | (apply Split.rem; repeat (first | exact Rem.head | exact hR1 | apply Rem.tail)) | apply Split.right)) (kf (.cons (zR Z) (.cons (zR Z) (.cons (zR Z) (.cons (zR Z) ResKs.nil)))) rfl) ?_ A hA;refine .inr (.inr ⟨hck,by rw [<- hP]; simp,res.1,?_,?_⟩)
   ·rw [<- hcl]; rfl
   ·rw [<- hcl]
  ·refine yw Z (zY Z TyZA.h) (fun _=>zt rfl tQ) sQ fun jg hjg=>?_;refine TD.cl (pend':=[⟨3,[8],[(_,_)]⟩,⟨1,[40],[(_,_)]⟩,⟨0,[8],[(_,_)]⟩]) [42,44] Z Z Z Z Z (zau hT (o:=p) (xs:=ps) (lt:=fun a c=>ltGuess a.2 c.2) (fv:=.fn 121 [] []) (jo:=jo) (off:=2) (obo:=.row (refsG (p::ps)) 238 2) (K:=(jo,.row (refsG (p::ps)) 238 2)::objsG (p::ps)) (by simp at hPl; omega) sQ (fun k hk=>by rw [show 2+((k:Int)).toNat*2=(k+1)*2 by rw [mZ]; omega]; exact zah (P:=p::ps) (k:=k+1) (by simpa using hk)) (fun x hx y hy=>yC Cal.h (zcy hT (lL _ (wD hx)) (lL _ (wD hy)) (ym _ _ _) (ym _ _ _) (hlen x hx) (hlen y hy)))) (fun r15 K16 h17=>⟨?_,?_⟩)
   ·rcases h17 with ⟨rfl,rfl⟩
    all_goals simp
   obtain ⟨rfl,rfl⟩:=h17;try simp only [cA]
   refine bS tQ ?_;refine TD.perm (List.Perm.cons _ lH) ?_;simp only [cA];generalize hres0:zQ (fun (a c:Gs)=>ltGuess a.2 c.2) p ps=res;have hmem:res∈p::ps:=hres0 ▸ kl;obtain ⟨R1,hR1⟩:=vO (wD hmem);have hcl:res.2=likelyM b:=by
    rw [<- hres0,uW (fun x:Gs=>x.2)];unfold likelyM;rw [<- hP]; rfl
   refine bR (pend':=[]) [12,45] Z Z (zy Z Z zd.h Z Z mQ Z) ?_;refine ad [[14]] ?_;refine au 2 ?_;refine bL [0,1,4,2,3,5,6,7] ?_;refine ad [[3,12],[10,46],[3,12],[10,48]] ?_;refine TD.as (pend':=[⟨3,[48],[(_,_)]⟩,⟨2,[12],[]⟩]) [47] Z Z (zV Z Z) ?_;refine ad [[13,49],[13],[13],[14]] ?_;refine TK.leave (.ret _) fun A hA=>hret _ _ _ _ ([(0,_),(1,_),(s,_),(e,_),(res.1,.cells (res.2.1.map intA) 3 false)]) ([(0,_),(1,_),(s,_),(e,_),(res.1,.cells (res.2.1.map intA) 3 false)]) _ _ _ (.inr rfl) (by repeat (first | exact Split.none _ | exact Split.all _ | (apply Split.rem; repeat (first | exact Rem.head | exact hR1 | apply Rem.tail)) | apply Split.right)) sQ sQ (by repeat (first | exact Split.none _ | exact Split.all _ | (apply Split.rem; repeat (first | exact Rem.head | exact hR1 | apply Rem.tail)) | apply Split.right)) (kf (.cons (zR Z) (.cons (zR Z) (.cons (zR Z) (.cons (zR Z) ResKs.nil)))) rfl) ?_ A hA;refine .inr (.inr ⟨hck,by rw [<- hP]; simp,res.1,?_,?_⟩)
   ·rw [<- hcl]; rfl
   ·rw [<- hcl]
 ·exact hD.elim
end Go.Vel
namespace Go.Vel
open Go Go.Conc
open Go.ConcN (upd)
theorem zcL {α:Type} {P:Program}:∀ (s:Sem α) {a:α},zI P s=some a->∀ (w:World) (es:Array Event),s.runT P w es=(.ok a w,es):=by
 intro s
 induction s with
 | pure b=>intro a h w es; cases h; rfl
 | program k ih=>intro a h w es; exact ih P h w es
 | _=>intro a h; cases h
theorem pureS_pure' {α:Type} {P:Program} (a:α):zI P (pure a)=some a:=rfl
def lend (Bs del:List Nat) (H:Hp):Hp:=fun b=>if del.elem b then none else if Bs.elem b then (H b).map fun x=>(false,x.2) else H b
theorem zfo {Bs del:List Nat} {H:Hp} {b:Nat} {rw':Bool} {o:Obj} (h:lend Bs del H b=some (rw',o)):∃ r,H b=some (r,o)/\(rw'=true->r=true):=by
 unfold lend at h;split at h
 ·cases h
 ·split at h
  ·obtain ⟨x,hx,e⟩:=mY.1 h;cases e;exact ⟨x.1,hx,fun h=>by cases h⟩
  ·exact ⟨rw',h,id⟩
theorem wU {Bs del:List Nat} {H:Hp} {b:Nat} (h1:b∉Bs) (h2:b∉del):lend Bs del H b=H b:=by
 unfold lend;rw [if_neg (by simpa using h2),if_neg (by simpa using h1)]
theorem zlO {Bs del:List Nat} {H:Hp} {b:Nat} {r:Bool} {o:Obj} (h2:b∉del) (h:H b=some (r,o)):∃ r',lend Bs del H b=some (r',o):=by
 unfold lend;rw [if_neg (by simpa using h2)];split
 ·exact ⟨false,by rw [h]; rfl⟩
 ·exact ⟨r,h⟩
theorem RelH.lend {φ:Nat->Loc3} {A:List AObj} {F H:Hp} (h:RelH φ A F H) (Bs del:List Nat) (hB:∀ (t:Nat) o,A[t]? =some o->o.live=true->sol (φ t) o->(φ t).blk∉del/\(o.excl=true->(φ t).blk∉Bs)) (hF:∀ b,b∈Bs\/b∈del->F b=none):RelH φ A F (Go.Vel.lend Bs del H):=by
 refine ⟨fun t o ht=>?_,h.apart,fun b x hx=>?_,h.frx⟩
 ·have ho:=h.obj t o ht;cases o with
  | cells l e rw' =>
   intro hl;obtain ⟨r,cur,fz,q1,q2,q3⟩:=ho hl;obtain ⟨d1,d2⟩:=hB t _ ht rfl hl;cases rw' with
   | false =>
    obtain ⟨r',hr'⟩:=zlO (Bs:=Bs) d1 q1;exact ⟨r',cur,fz,hr',(fun h=>by cases h),q3⟩
   | true=>exact ⟨r,cur,fz,(wU (d2 rfl) d1).trans q1,q2,q3⟩
  | row l e size =>
   obtain ⟨h0,h2,hh⟩:=ho;refine ⟨h0,h2,fun hc=>?_⟩;obtain ⟨cur,q1,q2⟩:=hh hc;obtain ⟨d1,d2⟩:=hB t _ ht rfl hc;exact ⟨cur,(wU (d2 rfl) d1).trans q1,q2⟩
  | raw o =>
   obtain ⟨d1,d2⟩:=hB t _ ht rfl trivial;exact (wU (d2 rfl) d1).trans ho
  | loop f env ps x y st pj =>
   obtain ⟨ts,d,q1,q2⟩:=ho;obtain ⟨d1,d2⟩:=hB t _ ht rfl trivial;exact ⟨ts,d,(wU (d2 rfl) d1).trans q1,q2⟩
  | gone=>trivial
 ·have hn:¬ (b∈Bs\/b∈del):=fun hm=>by rw [hF b hm] at hx; cases hx
  rw [wU (fun hm=>hn (.inl hm)) (fun hm=>hn (.inr hm))];exact h.fr b x hx
section
variable {P:Program} {gm:Nat->Option Nat} {T:Goroutine->Hp->Prop} {cg cn:Nat} {msg:Nat->Nat×Value} {Stop:Goroutine->Hp->Prop} {Y:KX P gm T} {ds:List Nat} {k:List Item} {env env':List AV} {K K':KV} {ops:Array Oper} {i:Nat} {rest:List Nat} {o:Oper} {φ0:Nat->Loc3} {n0 j:Nat} {R:Nat->Bool}
def phX (Y:KX P gm T) (cg cn:Nat) (msg:Nat->Nat×Value) (Stop:Goroutine->Hp->Prop) (j:Nat) (R:Nat->Bool) (φ0:Nat->Loc3) (n0:Nat):KX P gm (MainT P cg cn msg Stop j R) :=
 ⟨{ main:=true,hT:=zhZ P cg cn msg Stop j R,φ0,n0,F:=Y.X.F,kd:=Y.X.kd,hkd:=Y.X.hkd,f:=Y.X.f,ro:=Y.X.ro,cs:=Y.X.cs,L:=fun _ _ _ _=>False,hL:=fun _ _ _ _ _ _ _ _ _ h=>h.elim },Y.A0,Y.K0⟩
theorem kn_ph {j':Nat} {R':Nat->Bool} {A:List AObj} (h:Kn (phX Y cg cn msg Stop j R φ0 n0) K A):Kn (phX Y cg cn msg Stop j' R' φ0 n0) K A:=⟨h.view,h.nd,h.own,h.kept,h.len⟩
theorem TK.recv {c1 c2:Operand} {e1 e2:TypeId} {t1 t2:TypeInfo} {z1 z2:Value} (ho:ops[i]? =some o) (hop:o.op=.select #[{ chan:=c1,send:=none,elem:=e1 },{ chan:=c2,send:=none,elem:=e2 }] true) (hw:yd ops env o=some true) (hc1:zw gm env c1=some (.v (.chan (some cg)))) (hc2:zw gm env c2=some (.v (.chan (some cn))))
  (hi1:P.info? e1=some t1) (hz1:t1.zero=some z1) (hi2:P.info? e2=some t2) (hz2:t2.zero=some z2) (hex:∃ q,q<j/\R q=false)
  (h:∀ q,q<j->R q=false->TK (phX Y cg cn msg Stop j (upd R q true) φ0 n0) ds (.inRegion ops rest::k) (putA env o.dst (.tup (if (msg q).1=cg then [.v (.int .i64 0),.v (.bool true),.v (msg q).2,.v z2] else [.v (.int .i64 1),.v (.bool true),.v z1,.v (msg q).2]))) K) :
  TK (phX Y cg cn msg Stop j R φ0 n0) ds (.inRegion ops (i::rest)::k) env K:=fun A hA φ H ts h1 h2 h3 h4 h5 h6=>by
 have q1:=zu (a:=⟨ts,[]⟩) h3 h6 c1;rw [zq hc1] at q1;have q2:=zu (a:=⟨ts,[]⟩) h3 h6 c2;rw [zq hc2] at q2;have q1':evT ts c1=.chan (some cg):=inv_v q1;have q2':evT ts c2=.chan (some cn):=inv_v q2;have hz:∀ {t:TypeId} {ti:TypeInfo} {z:Value},P.info? t=some ti->ti.zero=some z->zI P (zeroValue t)=some z:=fun {t ti z} hi hz=>by
  unfold zeroValue typeInfo
  show zI P ((match P.info? t with | some i=>pure i | none=>stuck "no such type") >>= _)=_
  rw [hi];show zI P (match ti.zero with | some z=>_ | none=>_)=_;rw [hz]; rfl
 have hpure:zI P (execOp (evT ts) o)=some (.comm (sel2 cg cn z1 z2) true .select):=by
  unfold execOp;rw [hop];dsimp only;rw [Array.mapM_eq_mapM_toList];simp only [List.mapM_cons,List.mapM_nil];have b1:∀ {α β:Type} {s:Sem α} {f:α->Sem β} {a:α} {b:β},zI P s=some a->zI P (f a)=some b->zI P (s >>= f)=some b:=fun h1 h2=>zE h1 h2;rw [q1',q2'];refine b1 (a:=sel2 cg cn z1 z2) ?_ rfl;refine b1 (a:=[rcase cg z1,rcase cn z2]) ?_ rfl;refine b1 (a:=rcase cg z1) (b1 (hz hi1 hz1) Z) ?_;refine b1 (a:=[rcase cn z2]) ?_ rfl;exact b1 (a:=rcase cn z2) (b1 (hz hi2 hz2) rfl) rfl
 refine .recv (G (fr Y.X.kd Y.X.f Y.X.ro ts (dsC φ ds) (.inRegion ops (i::rest)::k)) Y.X.cs) z1 z2 Z hex (fun w hf=>⟨#[],?_,fun e he=>by simp at he⟩) fun q hq hR p hp=>?_
 ·show stepG P true (G (fr Y.X.kd Y.X.f Y.X.ro ts (dsC φ ds) (.inRegion ops (i::rest)::k)) Y.X.cs) w=_;rw [vf Y.X.hkd ho (ki h6 hw) (by rw [hop]; rfl)];obtain ⟨r1,r2⟩:=yW (zcL _ hpure w #[]);simp [stepG.apply,Sem.runT_eq,r1,r2,fr,GStep.after,seen];rfl
 ·have hfin:=kF Y.X.kd Y.X.f Y.X.ro ts (dsC φ ds) ops i rest k (commResult (sel2 cg cn z1 z2) .select p (msg q).2 true);simp only [ho,Option.bind_some] at hfin;show MainT P cg cn msg Stop j (upd R q true) (G ((fr Y.X.kd Y.X.f Y.X.ro ts (dsC φ ds) (.inRegion ops (i::rest)::k)).finish (commResult (sel2 cg cn z1 z2) .select p (msg q).2 true)) Y.X.cs) H;rw [hfin];refine h q hq hR A (kn_ph hA) φ H _ h1 h2 h3 h4 h5 (wI (a:=⟨ts,[]⟩) h6 ?_ o.dst);have htup:∀ (a b c d:Value),RelV φ A.length (.tup [.v a,.v b,.v c,.v d]) (.tuple #[a,b,c,d]):=fun a b c d=>.tup rfl fun t x y hx hy=>by
   rcases t with _ | _ | _ | _ | t <;> simp at hx hy <;> subst hx hy <;> exact .v _
  have c0:∀ v,commResult (sel2 cg cn z1 z2) .select ((0:Nat):Int) v true=.tuple #[.int .i64 0,.bool true,v,z2]:=fun v=>by
   simp [commResult,sel2,rcase,goInt,Array.zipIdx]
  have c1:∀ v,commResult (sel2 cg cn z1 z2) .select ((1:Nat):Int) v true=.tuple #[.int .i64 1,.bool true,z1,v]:=fun v=>by
   simp [commResult,sel2,rcase,goInt,Array.zipIdx]
  by_cases e:(msg q).1=cg
  ·rw [if_pos e] at hp ⊢;subst hp;rw [c0];exact htup (.int .i64 0) (.bool true) (msg q).2 z2
  ·rw [if_neg e] at hp ⊢;subst hp;rw [c1];exact htup (.int .i64 1) (.bool true) z1 (msg q).2
theorem TK.stopM {Ψ:Goroutine->World->Prop} {Y:KX P gm (BT P Ψ)} (hR:∀ q,q<j->R q=true) (hk:∀ x∈k,okI x) (hcs:∀ f∈Y.X.cs,okF f) (hag:Agr Y.X.φ0 φ0 Y.X.n0) (hn:Y.X.n0<=n0) (h:TK Y ds k env K) :
  TK (phX Y cg cn msg (fun a Hs=>okG a/\BT P Ψ a Hs) j R φ0 n0) ds k env K:=fun A hA φ H ts h1 h2 h3 h4 h5 h6 =>
 .stop rfl hR ⟨⟨hk,hcs,fun t h=>by cases h⟩,h A ⟨hA.view,hA.nd,hA.own,hA.kept,hA.len⟩ φ H ts (hag.trans h1 hn) (mT hn h2) h3 h4 h5 h6⟩
theorem TK.spawn {fo:Operand} {at_:Array TypeId} {g:FuncId} {cp:List AV} {S:KV} {j9:Nat} {l9:List AV} {e9:TypeId} (ho:ops[i]? =some o) (hop:o.op=.go { callee:=.value fo,args:=#[],argTypes:=at_ }) (hw:yd ops env o=some true) (hf:zw gm env fo=some (.fn g [] cp)) (hR:R j=false)
  (hS:∀ x∈S,x∈K/\x.1<n0/\Y.X.F (φ0 x.1).blk=none/\∃ l e,l≠[]/\x.2=.cells l e false) (hu:Rem K (j9,.cells l9 e9 true) K') (hl9:l9≠[])
  (hchild:∀ (φ:Nat->Loc3) (A:List AObj) (Hc:Hp) (vs:Array Value),zP ((j9,.cells l9 e9 false)::S) A->RelG gm φ A.length->RelH φ A (fun _=>none) Hc->zS φ A.length cp vs->TreeW P (AtSend P (msg j)) (born P { target:=.fn (.func g) vs,args:=#[] }) Hc)
  (h:TK (phX Y cg cn msg Stop (j+1) R φ0 n0) ds (.inRegion ops rest::k) (putA env o.dst (.v undef)) K') :
  TK (phX Y cg cn msg Stop j R φ0 n0) ds (.inRegion ops (i::rest)::k) env K:=fun A hA φ H ts h1 h2 h3 h4 h5 h6=>by
 have hperm:=hu.perm;have hmem9:(j9,AObj.cells l9 e9 true)∈K:=hperm.symm.subset sQ;have hj9:=hA.view.get hmem9;have hj9l:j9<A.length:=(lD.1 hj9).1;have hne9:∀ x∈S,x.1≠j9:=fun x hx e=>by
  obtain ⟨hxK,_,_,l,e',_,hx2⟩:=hS x hx;have h9:=hA.view x hxK;rw [e,hj9,hx2] at h9;cases h9
 obtain ⟨rw9,cur9,fz9,hb9,hfz9,hc9⟩:=h5.obj j9 _ hj9 hl9;have hfo:=zu (a:=⟨ts,[]⟩) h3 h6 fo;rw [zq hf] at hfo;obtain ⟨xs,ys,ev,hr1,hr2⟩:=zaI hfo;have hxs:xs=#[]:=by
  have:=hr1.1;exact Array.eq_empty_of_size_eq_zero this.symm
 subst hxs
 let Bs:List Nat:=(φ j9).blk::S.map fun x=>(φ x.1).blk
 have hφS:∀ x∈S,φ x.1=φ0 x.1:=fun x hx=>h1 x.1 (hS x hx).2.1;have hFB:∀ b,b∈Bs->Y.X.F b=none:=fun b hb=>by
  rcases lI.1 hb with rfl | hb
  ·exact h5.frx j9 _ hj9 rfl hl9
  ·obtain ⟨x,hx,rfl⟩:=lY.1 hb;rw [hφS x hx]; exact (hS x hx).2.2.1
 have hdrop:=h5.drop j9;have hcaller:RelH φ (A.set j9 .gone) Y.X.F (lend Bs [] H):=by
  refine hdrop.lend Bs [] (fun t q ht hl hs=>⟨by simp,fun hx hm=>?_⟩) fun b hb=>hFB b (hb.resolve_right sQ);by_cases htj:j9=t
  ·subst htj;rw [List.getElem?_set_self hj9l] at ht;cases ht; cases hl
  ·rw [lP htj] at ht;rcases lI.1 hm with hm | hm
   ·exact h5.apart t j9 q _ ht hj9 (fun e=>htj e.symm) hx rfl hs hl9 hm
   ·obtain ⟨x,hx',hm⟩:=lY.1 hm;obtain ⟨hxK,_,_,l,e',hl0,hx2⟩:=hS x hx';have hax:=hA.view x hxK;rw [hx2] at hax;by_cases htx:t=x.1
    ·subst htx; rw [ht] at hax; cases hax; cases hx
    ·exact h5.apart t x.1 q _ ht hax htx hx rfl hs hl0 hm.symm
 have hkn:Kn (phX Y cg cn msg Stop (j+1) R φ0 n0) K' (A.set j9 .gone):=by
  have hnd:=(zO hperm).nodup_iff.1 hA.nd;rw [zd6,List.nodup_cons] at hnd;refine ⟨fun x hx=>?_,hnd.2,fun t ht=>hA.own t ((zO hperm).symm.subset (lL _ ht)),fun t ht1 ht2=>?_,by rw [List.length_set]; exact hA.len⟩
  ·have hne:j9≠x.1:=fun e=>hnd.1 (by show j9∈keys K'; rw [e]; exact yE hx);rw [lP hne];exact hA.view x (hperm.symm.subset (lL _ hx))
  ·have hne:j9≠t:=fun e=>by
    subst e;rcases hA.own j9 (mem_keys' hmem9) with h | h
    ·exact ht2 h
    ·exact absurd ht1 (Nat.not_lt.2 h)
   rw [lP hne];exact hA.kept t ht1 ht2
 let Ac:List AObj:=(List.range A.length).map fun t=>if t=j9 then .cells l9 e9 false else if (S.map (·.1)).elem t then (A[t]?).getD .gone else .gone
 have hAcl:Ac.length=A.length:=by simp [Ac]
 have hAc:∀ (t:Nat) (q:AObj),Ac[t]? =some q->q.live=true->(t=j9/\q=.cells l9 e9 false)\/∃ x∈S,x.1=t/\x.2=q:=fun t q ht hl=>by
  have hlt:t<A.length:=by rw [<- hAcl]; exact (lD.1 ht).1
  simp only [Ac,lQ,List.getElem?_range hlt,Option.map_some,Option.some.injEq] at ht;split at ht
  ·rename_i e; exact .inl ⟨e,ht.symm⟩
  ·split at ht
   ·rename_i hm;simp only [List.elem_eq_mem,decide_eq_true_eq] at hm;obtain ⟨x,hx,e⟩:=lY.1 hm;have hax:=hA.view x (hS x hx).1;rw [e] at hax;rw [hax] at ht;exact .inr ⟨x,hx,e,ht⟩
   ·subst ht; cases hl
 let Hc:Hp:=fun b=>if Bs.elem b then (H b).map fun x=>(false,x.2) else none
 have hHc:∀ b r o,b∈Bs->H b=some (r,o)->Hc b=some (false,o):=fun b r o hb hx=>by
  simp only [Hc];rw [if_pos (by simpa using hb),hx]; rfl
 have hRc:RelH φ Ac (fun _=>none) Hc:=by
  have hne:∀ (t:Nat) (q:AObj),Ac[t]? =some q->q.excl=false:=fun t q ht=>by
   cases hl:q.live with
   | false=>cases q <;> first | rfl | cases hl
   | true =>
    rcases hAc t q ht hl with ⟨_,rfl⟩ | ⟨x,hx,_,hq⟩
    ·rfl
    ·obtain ⟨_,_,_,l,e',_,hx2⟩:=hS x hx;rw [<- hq,hx2]; rfl
  refine ⟨fun t q ht=>?_,fun t t' q q' ht _ _ he=>absurd he (by rw [hne t q ht]; decide),(fun b x hx=>by cases hx),fun t q ht he=>absurd he (by rw [hne t q ht]; decide)⟩;rw [hAcl];cases hl:q.live with
  | false=>cases q <;> first | trivial | cases hl
  | true =>
   rcases hAc t q ht hl with ⟨rfl,rfl⟩ | ⟨x,hx,rfl,rfl⟩
   ·intro _;exact ⟨false,cur9,fz9,hHc _ _ _ List.mem_cons_self hb9,(fun h=>by cases h),hc9⟩
   ·obtain ⟨hxK,_,_,l,e',hl0,hx2⟩:=hS x hx;have hax:=hA.view x hxK;rw [hx2] at hax ⊢;intro _;obtain ⟨r,cur,fz,p1,_,p3⟩:=h5.obj x.1 _ hax hl0;exact ⟨false,cur,fz,hHc _ _ _ (lL _ (List.mem_map_of_mem hx)) p1,(fun h=>by cases h),p3⟩
 have hVc:zP ((j9,.cells l9 e9 false)::S) Ac:=fun x hx=>by
  rcases lI.1 hx with rfl | hx
  ·simp [Ac,hj9l]
  ·have hax:=hA.view x (hS x hx).1;have hlt:x.1<A.length:=(lD.1 hax).1;simp only [Ac,lQ,List.getElem?_range hlt,Option.map_some];rw [if_neg (hne9 x hx),if_pos (by simpa using ⟨x.2,hx⟩),hax]; rfl
 have hch:=hchild φ Ac Hc ys hVc (by rw [hAcl]; exact h3) hRc (by rw [hAcl]; exact hr2);have hfin:=kF Y.X.kd Y.X.f Y.X.ro ts (dsC φ ds) ops i rest k undef;simp only [ho,Option.bind_some] at hfin;refine .spawn (G (fr Y.X.kd Y.X.f Y.X.ro (putT ts o.dst undef) (dsC φ ds) (.inRegion ops rest::k)) Y.X.cs) (born P { target:=.fn (.func g) ys,args:=#[] }) (Go.Vel.lend Bs [] H) Hc Z (fun w hf=>⟨#[],?_,fun e he=>by simp at he⟩) rfl rfl hR (fun b r q hb=>zfo hb) (fun b r q hb=>?_) (fun b q hb=>?_) hch ?_
 ·show stepG P true (G (fr Y.X.kd Y.X.f Y.X.ro ts (dsC φ ds) (.inRegion ops (i::rest)::k)) Y.X.cs) w=_;rw [vf Y.X.hkd ho (ki h6 hw) (by rw [hop]; rfl)];have hpure:zI P (execOp (evT ts) o)=some (.spawn { target:=.fn (.func g) ys,args:=#[] }):=by
   unfold execOp;rw [hop];dsimp only;have ev':evT ts fo=.func (.func g) #[] ys:=ev;refine zE (a:={ target:=.fn (.func g) ys,args:=#[] }) ?_ rfl;show zI P (Deferred.ofValue (evT ts fo) ((#[]:Array Operand).map (evT ts)))=_;rw [ev'];simp [Deferred.ofValue,pureS_pure']
  obtain ⟨r1,r2⟩:=yW (zcL _ hpure w #[]);simp only [fr] at hfin;simp [stepG.apply,Sem.runT_eq,r1,r2,fr,GStep.after,seen,hfin,born];rfl
 ·simp only [Hc] at hb;split at hb
  ·obtain ⟨x,hx,e⟩:=mY.1 hb;cases e;exact ⟨rfl,x.1,hx⟩
  ·cases hb
 ·simp only [Hc];split
  ·rename_i hm;exfalso;unfold Go.Vel.lend at hb;rw [if_neg sQ,if_pos hm] at hb;obtain ⟨x,_,e⟩:=mY.1 hb;cases e
  ·rfl
 ·have hA9l:(A.set j9 .gone).length=A.length:=by simp
  refine h (A.set j9 .gone) hkn φ _ _ h1 (by rw [hA9l]; exact h2) (by rw [hA9l]; exact h3) (by rw [hA9l]; exact h4) hcaller ?_;rw [hA9l];exact wI (a:=⟨ts,[]⟩) h6 (.v undef) o.dst
end
end Go.Vel
namespace Go.Vel
open Go Go.Conc
def Turned (φ:Nat->Loc3) (A A':List AObj):Prop:=∀ (t:Nat) (o:AObj),A'[t]? =some o->∃ o',A[t]? =some o'/\(o.excl=true->o'.excl=true)/\(o.live=true->o'.live=true)/\(sol (φ t) o->sol (φ t) o')
theorem Turned.refl (φ:Nat->Loc3) (A:List AObj):Turned φ A A:=fun _ o h=>⟨o,h,id,id,id⟩
theorem Turned.trans {φ:Nat->Loc3} {A B C:List AObj} (h:Turned φ A B) (k:Turned φ B C):Turned φ A C:=fun t o ht=>by
 obtain ⟨o1,h1,a1,a2,a3⟩:=k t o ht;obtain ⟨o2,h2,b1,b2,b3⟩:=h t o1 h1;exact ⟨o2,h2,fun x=>b1 (a1 x),fun x=>b2 (a2 x),fun x=>b3 (a3 x)⟩
section
variable {P:Program} {gm:Nat->Option Nat} {T:Goroutine->Hp->Prop} {Y:KX P gm T} {ds:List Nat} {k:List Item} {env env':List AV} {K K':KV}
theorem ww {φ:Nat->Loc3} {A A0:List AObj} {F H:Hp} {j:Nat} {o o':AObj} (hA:Kn Y K A) (hH:RelH φ A F H) (hT:Turned φ A0 A) (hl0:A.length=A0.length) (hu:Upd K j o j o' K') (ho:RelO φ A0.length (φ j) H o->RelO φ A0.length (φ j) H o') (hx:o'.excl=true->o.excl=true) (hl:o'.live=true->o.live=true) (hs:sol (φ j) o'->sol (φ j) o) :
  ∃ A',Kn Y K' A'/\RelH φ A' F H/\Turned φ A0 A'/\A'.length=A0.length:=by
 have hj:=hA.view.get hu.mem;refine ⟨A.set j o',hA.step (.set hA.view hA.nd hu),hH.turn hj (by rw [hl0]; exact ho) hx hl hs,hT.trans fun t q ht=>?_,by rw [List.length_set,hl0]⟩;by_cases e:j=t
 ·subst e;rw [List.getElem?_set_self (lD.1 hj).1] at ht;cases ht;exact ⟨o,hj,hx,hl,hs⟩
 ·rw [lP e] at ht;exact ⟨q,ht,id,id,id⟩
theorem TK.phase {Ψ:Goroutine->World->Prop} {Y:KX P gm (BT P Ψ)} {jc1 jc2 j7 j8 jx jb jl:Nat} {e7 e8 ex eb el:TypeId} {sl:Nat} {lx lb l:List AV} {Kr:KV} (msgf:Nat->Nat->Nat->Nat×Value) (hmsg:∀ cg cn i,(msgf cg cn i).1=cg\/(msgf cg cn i).1=cn) (hlx:lx≠[]) (hlb:lb≠[]) (hl:l≠[])
  (h:∀ (φ0:Nat->Loc3) (n0 cg cn:Nat),cg≠cn->Agr Y.X.φ0 φ0 Y.X.n0->Y.X.n0<=n0->(∀ t∈[j7,j8,jx,jb,jl],t<n0/\Y.X.F (φ0 t).blk=none)->(∀ f∈Y.X.cs,okF f) ->
   TK (phX Y cg cn (msgf cg cn) (fun a Hs=>okG a/\BT P Ψ a Hs) 0 (fun _=>false) φ0 n0) ds k env ((jc1,.gone)::(jc2,.gone)::(j7,.cells [.v (.chan (some cg))] e7 false)::(j8,.cells [.v (.chan (some cn))] e8 false)::(jx,.cells (lx.map (unrow jl)) ex false)::(jb,.cells lb eb false)::(jl,.cells l el false)::Kr)) :
  TK Y ds k env ((jc1,.raw (.chan 0 #[] false 0 0 false))::(jc2,.raw (.chan 0 #[] false 0 0 false))::(j7,.cells [.chan jc1] e7 true)::(j8,.cells [.chan jc2] e8 true)::(jx,.cells lx ex true)::(jb,.cells lb eb true)::(jl,.row l el sl)::Kr):=fun A hA φ H ts h1 h2 h3 h4 h5 h6=>by
 have g1:=hA.view.get (show (jc1,AObj.raw (.chan 0 #[] false 0 0 false))∈_ from .head _);have g2:=hA.view.get (show (jc2,AObj.raw (.chan 0 #[] false 0 0 false))∈_ from .tail _ (.head _));have g3:=hA.view.get (show (j7,AObj.cells [.chan jc1] e7 true)∈_ from .tail _ (.tail _ (.head _)));have g4:=hA.view.get (show (j8,AObj.cells [.chan jc2] e8 true)∈_ from .tail _ (.tail _ (.tail _ (.head _))));have g5:=hA.view.get (show (jx,AObj.cells lx ex true)∈_ from .tail _ (.tail _ (.tail _ (.tail _ (.head _)))));have g6:=hA.view.get (show (jb,AObj.cells lb eb true)∈_ from .tail _ (.tail _ (.tail _ (.tail _ (.tail _ (.head _))))));have g7:=hA.view.get (show (jl,AObj.row l el sl)∈_ from .tail _ (.tail _ (.tail _ (.tail _ (.tail _ (.tail _ (.head _)))))));have hnd:=hA.nd;have hsl:sol (φ jl) (.row l el sl):=by
  show 0<(φ jl).cap;rcases mP (φ jl).cap with e | e
  ·exact absurd ((h5.obj jl _ g7).1 e) hl
  ·exact e
 have hbase:(φ jl).base=0:=(h5.obj jl _ g7).2.1;have hfalse:∀ {l':List AV} {e':TypeId} {jt:Nat},RelO φ A.length (φ jt) H (.cells l' e' true)->RelO φ A.length (φ jt) H (.cells l' e' false):=fun ho hl0=>by
  obtain ⟨r,cur,fz,p1,_,p3⟩:=ho hl0;exact ⟨r,cur,fz,p1,(fun h=>by cases h),p3⟩
 have hone:∀ {jt jc:Nat} {e':TypeId},RelO φ A.length (φ jt) H (.cells [.chan jc] e' true)->RelO φ A.length (φ jt) H (.cells [.v (.chan (some (φ jc).blk))] e' false):=fun ho hl0=>by
  obtain ⟨r,cur,fz,p1,_,p3⟩:=ho sQ;refine ⟨r,cur,fz,p1,(fun h=>by cases h),fun t a ha=>?_⟩;cases t with
  | zero =>
   simp at ha; subst ha;obtain ⟨y,hy,hr⟩:=p3 0 _ rfl;exact ⟨y,hy,by rw [(zkB hr).2]; exact .v _⟩
  | succ t=>simp at ha
 obtain ⟨A1,k1,r1,t1,n1⟩:=ww (o':=.gone) hA h5 (Turned.refl φ A) rfl .head (fun _=>trivial) (fun h=>by cases h) (fun h=>by cases h) (fun _=>trivial);obtain ⟨A2,k2,r2,t2,n2⟩:=ww (o':=.gone) k1 r1 t1 n1 (.tail .head) (fun _=>trivial) (fun h=>by cases h) (fun h=>by cases h) (fun _=>trivial);obtain ⟨A3,k3,r3,t3,n3⟩:=ww (o':=.cells [.v (.chan (some (φ jc1).blk))] e7 false) k2 r2 t2 n2 (.tail (.tail .head)) hone (fun h=>by cases h) (fun _=>rfl) (fun _=>by simp [sol]);obtain ⟨A4,k4,r4,t4,n4⟩:=ww (o':=.cells [.v (.chan (some (φ jc2).blk))] e8 false) k3 r3 t3 n3 (.tail (.tail (.tail .head))) hone (fun h=>by cases h) (fun _=>rfl) (fun _=>by simp [sol]);obtain ⟨A5,k5,r5,t5,n5⟩:=ww (o':=.cells (lx.map (unrow jl)) ex false) k4 r4 t4 n4 (.tail (.tail (.tail (.tail .head)))) (fun ho hl0=>by
  obtain ⟨r,cur,fz,p1,_,p3⟩:=ho hlx;refine ⟨r,cur,fz,p1,(fun h=>by cases h),fun t a ha=>?_⟩;rw [lQ] at ha;cases e:lx[t]? with
  | none=>rw [e] at ha; cases ha
  | some a0 =>
   rw [e] at ha;cases ha;obtain ⟨y,hy,hr⟩:=p3 t a0 e;exact ⟨y,hy,wN hbase hr⟩) (fun h=>by cases h) (fun _=>rfl) (fun _=>hlx)
 obtain ⟨A6,k6,r6,t6,n6⟩:=ww (o':=.cells lb eb false) k5 r5 t5 n5 (.tail (.tail (.tail (.tail (.tail .head))))) hfalse (fun h=>by cases h) (fun _=>rfl) (fun h=>h);obtain ⟨A7,k7,r7,t7,n7⟩:=ww (o':=.cells l el false) k6 r6 t6 n6 (.tail (.tail (.tail (.tail (.tail (.tail .head)))))) (fun ho hl0=>by
  obtain ⟨cur,q1,q2,q3,q4,q5⟩:=ho.2.2 hsl;exact ⟨true,cur,(_,0,0),q1,(fun h=>by cases h),fun t u hu=>by rw [hbase,mO]; exact q5 t u hu⟩) (fun h=>by cases h) (fun _=>rfl) (fun _=>hsl)
 have v7:=k7.view;have w1:=v7.get (show (jc1,AObj.gone)∈_ from .head _);have w2:=v7.get (show (jc2,AObj.gone)∈_ from .tail _ (.head _));have w3:=v7.get (show (j7,AObj.cells [.v (.chan (some (φ jc1).blk))] e7 false)∈_ from .tail _ (.tail _ (.head _)));have w4:=v7.get (show (j8,AObj.cells [.v (.chan (some (φ jc2).blk))] e8 false)∈_ from .tail _ (.tail _ (.tail _ (.head _))));have w5:=v7.get (show (jx,AObj.cells (lx.map (unrow jl)) ex false)∈_ from .tail _ (.tail _ (.tail _ (.tail _ (.head _)))));have w6:=v7.get (show (jb,AObj.cells lb eb false)∈_ from .tail _ (.tail _ (.tail _ (.tail _ (.tail _ (.head _))))));have w7:=v7.get (show (jl,AObj.cells l el false)∈_ from .tail _ (.tail _ (.tail _ (.tail _ (.tail _ (.tail _ (.head _)))))))
 let Bs:List Nat:=[(φ j7).blk,(φ j8).blk,(φ jx).blk,(φ jb).blk,(φ jl).blk]
 have f1:=h5.frx jc1 _ g1 rfl trivial;have f2:=h5.frx jc2 _ g2 rfl trivial;have f3:=h5.frx j7 _ g3 rfl (by simp [sol]);have f4:=h5.frx j8 _ g4 rfl (by simp [sol]);have f5:=h5.frx jx _ g5 rfl hlx;have f6:=h5.frx jb _ g6 rfl hlb;have f7:=h5.frx jl _ g7 rfl hsl;have hF:∀ b,b∈Bs\/b∈[(φ jc1).blk,(φ jc2).blk]->Y.X.F b=none:=fun b hb=>by
  simp only [Bs,lI,List.not_mem_nil,or_false] at hb;rcases hb with (rfl | rfl | rfl | rfl | rfl) | (rfl | rfl) <;> assumption
 have hne12:(φ jc1).blk≠(φ jc2).blk:=by
  refine h5.apart jc1 jc2 _ _ g1 g2 (fun e=>?_) rfl rfl trivial trivial;subst e;simp [keys] at hnd
 have hrel:=r7.lend Bs [(φ jc1).blk,(φ jc2).blk] (fun t o ht hlv hs=>by
  obtain ⟨o',ho',x1,x2,x3⟩:=t7 t o ht;have y2:=x2 hlv;have y3:=x3 hs;have d1:jc1≠t:=fun e=>by subst e; rw [w1] at ht; cases ht; cases hlv
  have d2:jc2≠t:=fun e=>by subst e; rw [w2] at ht; cases ht; cases hlv
  refine ⟨?_,fun hx=>?_⟩
  ·simp only [lI,List.not_mem_nil,or_false,not_or];exact ⟨fun e=>h5.apart jc1 t _ o' g1 ho' d1 rfl y2 trivial y3 e.symm,fun e=>h5.apart jc2 t _ o' g2 ho' d2 rfl y2 trivial y3 e.symm⟩
  ·have y1:=x1 hx;simp only [Bs,lI,List.not_mem_nil,or_false,not_or];have dd:∀ {jt:Nat} {lt:List AV} {et:TypeId},A7[jt]? =some (.cells lt et false)->t≠jt:=fun hw e=>by subst e; rw [hw] at ht; cases ht; cases hx
   exact ⟨h5.apart t j7 o' _ ho' g3 (dd w3) y1 rfl y3 (by simp [sol]),h5.apart t j8 o' _ ho' g4 (dd w4) y1 rfl y3 (by simp [sol]),h5.apart t jx o' _ ho' g5 (dd w5) y1 rfl y3 hlx,h5.apart t jb o' _ ho' g6 (dd w6) y1 rfl y3 hlb,h5.apart t jl o' _ ho' g7 (dd w7) y1 rfl y3 hsl⟩) hF
 have lt:=fun {t:Nat} {q:AObj} (hq:A[t]? =some q)=>(lD.1 hq).1;refine zhc (cg:=(φ jc1).blk) (cn:=(φ jc2).blk) (msg:=msgf _ _) (H':=Go.Vel.lend Bs [(φ jc1).blk,(φ jc2).blk] H) (hmsg _ _) hne12 (h5.obj jc1 _ g1) (h5.obj jc2 _ g2) (fun b rw' o hb=>let ⟨r,hr,_⟩:=zfo hb; ⟨r,hr⟩) ⟨by simp [Go.Vel.lend],by simp [Go.Vel.lend]⟩ fun hok=>?_;refine h φ A.length _ _ hne12 h1 h2 (fun t ht=>?_) hok.2.1 A7 ⟨k7.view,k7.nd,k7.own,k7.kept,k7.len⟩ φ _ ts (Agr.refl _ _) (by show A.length<=A7.length; omega) (by rw [n7]; exact h3) (by rw [n7]; exact h4) hrel (by rw [n7]; exact h6);simp only [lI,List.not_mem_nil,or_false] at ht;rcases ht with rfl | rfl | rfl | rfl | rfl
 ·exact ⟨lt g3,f3⟩
 ·exact ⟨lt g4,f4⟩
 ·exact ⟨lt g5,f5⟩
 ·exact ⟨lt g6,f6⟩
 ·exact ⟨lt g7,f7⟩
end
end Go.Vel
namespace Go.Vel
open Go Go.Conc Go.Proofs
def rowO (Ls:List (List Int)):AObj:=.row (Ls.flatMap zX) 209 4
theorem zkG (Ls:List (List Int)) (i:Nat) (h:i<Ls.length):z6 (rowO Ls) ((i:Int).toNat*4) 4=some (zX Ls[i]):=by
 have hle:(i+1)*4<=Ls.length*4:=Nat.mul_le_mul_right _ h;simp only [z6,AObj.look,rowO,mZ];rw [if_pos ⟨by omega,by rw [yx zX 4 (fun _=>rfl)]; omega⟩,kE zX 4 (fun _=>rfl) _ _ h]
def arcK (b:Bk) (low:Nat):Option Nat:=(List.range b.steps.toNat).find? fun k=>decide ((withinM b (zb b) low ((k:Int)+1)).1>0)
def arcA (b:Bk) (low:Nat):Option (Int×Int):=(arcK b low).map fun k=>((low:Int),(k:Int)+1)
def msgN (b:Bk) (cg cn low:Nat):Nat×Value:=match arcK b low with
 | some k=>(cg,.agg #[.int .i64 low,.int .i64 ((k:Int)+1)])
 | none=>(cn,.bool true)
def arcsOf (b:Bk) (rec:List Nat):List (Int×Int):=rec.filterMap (arcA b)
def arcC (x:Int×Int):List AV:=[intA x.1,intA x.2]
def narrowM (b:Bk):Int×Int:=zQ ltArc ((arcsOf b (List.range b.steps.toNat)).headD (0,0)) ((arcsOf b (List.range b.steps.toNat)).drop 1)
theorem un (a c:Int×Int):ltArc a c=true↔a.2<c.2\/(a.2=c.2/\a.1<c.1):=by
 unfold ltArc; simp
theorem uX {o:Int×Int} {xs:List (Int×Int)}:∀ y∈o::xs,ltArc y (zQ ltArc o xs)=false:=by
 induction xs generalizing o with
 | nil =>
  intro y hy;simp only [lS] at hy;subst hy;unfold zQ ltArc; simp
 | cons x xs ih =>
  intro y hy;show ltArc y (zQ ltArc (if ltArc x o=true then x else o) xs)=false;have h0:=ih (o:=if ltArc x o=true then x else o);generalize zQ ltArc (if ltArc x o=true then x else o) xs=m at h0;rcases lI.1 hy with rfl | hy
  ·by_cases hc:ltArc x y=true
   ·rw [if_pos hc] at h0;have h1:=h0 x List.mem_cons_self;rw [Bool.eq_false_iff] at h1 ⊢;intro h2;apply h1;rw [un] at hc h2 ⊢;omega
   ·rw [if_neg hc] at h0;exact h0 y List.mem_cons_self
  ·rcases lI.1 hy with rfl | hy
   ·by_cases hc:ltArc y o=true
    ·rw [if_pos hc] at h0; exact h0 y List.mem_cons_self
    ·rw [if_neg hc] at h0;have h1:=h0 o List.mem_cons_self;rw [Bool.eq_false_iff] at h1 ⊢;intro h2;apply h1;rw [un] at hc h2 ⊢;omega
   ·exact h0 y (lL _ hy)
theorem zgj {o o':Int×Int} {xs xs':List (Int×Int)} (h:∀ y,y∈o::xs↔y∈o'::xs'):zQ ltArc o xs=zQ ltArc o' xs':=by
 have h1:=uX (o:=o) (xs:=xs) _ ((h _).2 (kl (lt:=ltArc) (o:=o') (xs:=xs')));have h2:=uX (o:=o') (xs:=xs') _ ((h _).1 (kl (lt:=ltArc) (o:=o) (xs:=xs)));rw [Bool.eq_false_iff,ne_eq,un] at h1 h2;exact Prod.ext oQ oQ
theorem uo:∀ {l1 l2:List Nat},l1.Nodup->(∀ x∈l1,x∈l2)->l1.length<=l2.length
 | [],_,_,_=>mN _
 | x::l1,l2,hn,hs=>by
  obtain ⟨h1,h2⟩:=List.nodup_cons.1 hn;have hx:x∈l2:=hs x sQ;have:=uo (l1:=l1) (l2:=l2.erase x) h2 fun y hy=>by
   have hne:y≠x:=fun e=>h1 (e ▸ hy);exact (List.mem_erase_of_ne hne).2 (hs y (by simp [hy]))
  rw [List.length_erase_of_mem hx] at this;have:0<l2.length:=List.length_pos_of_mem hx;simp; omega
theorem zk2 {N:Nat} {rec:List Nat} (hn:rec.Nodup) (hlt:rec.length<N):∃ q,q<N/\q∉rec:=by
 refine Classical.byContradiction fun h=>?_;have hall:∀ q∈List.range N,q∈rec:=fun q hq=>Classical.byContradiction fun hm=>h ⟨q,List.mem_range.1 hq,hm⟩;have:=uo (List.nodup_range (n:=N)) hall;rw [List.length_range] at this;omega
theorem zl7 {N:Nat} {rec:List Nat} (hn:rec.Nodup) (hs:∀ q∈rec,q<N) (hl:rec.length=N):∀ q,q<N->q∈rec:=fun q hq=>Classical.byContradiction fun hm=>by
 have:=uo (l1:=q::rec) (l2:=List.range N) (List.nodup_cons.2 ⟨hm,hn⟩) fun x hx=>by
  rcases lI.1 hx with rfl | hx
  ·exact List.mem_range.2 hq
  ·exact List.mem_range.2 (hs x hx)
 rw [List.length_range] at this;simp at this;omega
theorem zge {b:Bk} {rec:List Nat} {N:Nat} (h:∀ q,q∈rec↔q<N) (y:Int×Int):y∈arcsOf b rec↔y∈arcsOf b (List.range N):=by
 unfold arcsOf;simp only [List.mem_filterMap,List.mem_range,h]
theorem zg9 (b:Bk) (rec:List Nat):(arcsOf b rec).length<=rec.length:=List.length_filterMap_le _ _
theorem zeO {b:Bk} {rec:List Nat} {q:Nat} {x:Int×Int} (h:arcA b q=some x):arcsOf b (rec++[q])=arcsOf b rec++[x]:=by
 unfold arcsOf; rw [List.filterMap_append]; simp [h]
theorem zeN {b:Bk} {rec:List Nat} {q:Nat} (h:arcA b q=none):arcsOf b (rec++[q])=arcsOf b rec:=by
 unfold arcsOf; rw [List.filterMap_append]; simp [h]
theorem zbO {xs:List (Int×Int)} {k:Nat} (h:k<xs.length) {e:TypeId} {sz:Nat}:z6 (.row (xs.flatMap arcC) e sz) (k*2) 2=some [intA xs[k].1,intA xs[k].2]:=by
 have hle:(k+1)*2<=xs.length*2:=Nat.mul_le_mul_right _ h;have hl:=yx arcC 2 (fun _=>rfl) xs;simp only [z6,AObj.look];rw [if_pos ⟨by omega,oQ⟩,kE arcC 2 (fun _=>rfl) _ _ h];rfl
section
variable {P:Program} {gm:Nat->Option Nat} {T:Goroutine->Hp->Prop} {cg cn:Nat} {msg:Nat->Nat×Value} {Stop:Goroutine->Hp->Prop} {Y:KX P gm T} {ds:List Nat} {k:List Item} {env:List AV} {K:KV} {φ0:Nat->Loc3} {n0:Nat}
theorem TK.loopJ {R:Nat->Bool} {c:Code} (I:Nat->List AV->KV->Prop) (N:Nat) (h0:I 0 env K) (round:∀ j env K,j<=N->I j env K->(∀ env' K',j<N->I (j+1) env' K'->TK (phX Y cg cn msg Stop (j+1) R φ0 n0) ds (.inLoop c::k) env' K')->TK (phX Y cg cn msg Stop j R φ0 n0) ds (.code c::.inLoop c::k) env K) :
  TK (phX Y cg cn msg Stop 0 R φ0 n0) ds (.code (.loop c)::k) env K:=by
 have key:∀ q j env K,N - j=q->j<=N->I j env K->TK (phX Y cg cn msg Stop j R φ0 n0) ds (.code c::.inLoop c::k) env K:=by
  intro q
  induction q with
  | zero=>exact fun j env K hq hj hI=>round j env K hj hI fun env' K' hlt=>absurd hlt oQ
  | succ q ih=>exact fun j env K hq hj hI=>round j env K hj hI fun env' K' hlt hI'=>TK.inLoop (ih (j+1) env' K' oQ oQ hI')
 exact TK.loop (key N 0 env K rfl (mN _) h0)
theorem TK.loopR {j:Nat} {R:Nat->Bool} {c:Code} (I:Nat->(Nat->Bool)->List AV->KV->Prop) (n:Nat) (h0:I n R env K) (round:∀ n R env K,I n R env K->(∀ n' R' env' K',n'<n->I n' R' env' K'->TK (phX Y cg cn msg Stop j R' φ0 n0) ds (.inLoop c::k) env' K')->TK (phX Y cg cn msg Stop j R φ0 n0) ds (.code c::.inLoop c::k) env K) :
  TK (phX Y cg cn msg Stop j R φ0 n0) ds (.code (.loop c)::k) env K:=by
 have key:∀ n R env K,I n R env K->TK (phX Y cg cn msg Stop j R φ0 n0) ds (.code c::.inLoop c::k) env K:=by
  intro n
  induction n using Nat.strongRecOn with
  | _ n ih=>exact fun R env K hI=>round n R env K hI fun n' R' env' K' hlt hI'=>TK.inLoop (ih n' hlt R' env' K' hI')
 exact TK.loop (key n R env K h0)
theorem ziF {f:FuncId} {fn:Func} {c:Code} (args:Array Value) (hf:P.funcs[f]? =some fn) (hb:fn.body=some c):Frame.enter P f args .deferred=fr .deferred f none (args++Array.replicate (fn.ntmps - args.size) undef) [] [.code c]:=by
 simp [Frame.enter,hf,hb,fr]
theorem zmq {m:Nat×Value} {g:FuncId} {fn:Func} {c:Code} {cp:List AV} {K:KV} {φ:Nat->Loc3} {A:List AObj} {Hc:Hp} {vs:Array Value} (hg:yo P g=true) (hf:P.funcs[g]? =some fn) (hb:fn.body=some c) (hv:zP K A) (hn:(keys K).Nodup) (h3:RelG gm φ A.length) (h5:RelH φ A (fun _=>none) Hc) (h6:zS φ A.length cp vs)
  (h:∀ Y:KX P gm (TreeW P (AtSend P m)),Y.X.kd=.deferred->Y.X.ro=none->Y.X.cs=[bot P]->Y.X.f=g->TK Y [] [.code c] (cp++mB (fn.ntmps - cp.length) .any) K):TreeW P (AtSend P m) (born P { target:=.fn (.func g) vs,args:=#[] }) Hc:=by
 have hT:=zcY P (AtSend P m);refine hT.ctl Z (fun w=>birth hg #[] vs w) rfl ?_;rw [Array.empty_append,ziF vs hf hb]
 let X:Cx P gm (TreeW P (AtSend P m)):={ main:=false,hT,φ0:=φ,n0:=A.length,F:=fun _=>none,kd:=.deferred,hkd:=(fun h=>by cases h),f:=g,ro:=none,cs:=[bot P],L:=fun _ _ _ _=>False,hL:=fun _ _ _ _ _ _ _ _ _ h=>h.elim }
 exact h ⟨X,A,keys K⟩ rfl rfl rfl rfl A ⟨hv,hn,fun i hi=>.inl hi,fun _ _ _=>rfl,mL _⟩ φ Hc _ (Agr.refl _ _) (mL _) h3 (fun d hd=>by cases hd) h5 (vN h6 _)
end
theorem zlr {main:Bool} {T:Goroutine->Hp->Prop} (hT:zk tp main T)  {b:Bk} {s e:Nat} {yv:AV} {t:Bool} {Kt:KV} (hse:s≠e) (hn:∀ x∈b.seekers,x.name.size<=1000) (hl:b.seen.length<=1000) (hy1:oneA yv=true) (hth:BkOk b->CallFK tp T gmS yv [.agg (zx b s e)] Kt (fun r K'=>r=zl t/\K'=Kt)) :
  zh tp T gmS 102 [.agg (zx b s e),yv] ((0,zr)::(1,zz)::(s,zo b)::(e,zp b)::Kt) (fun r K'=>(askM b t≠0/\r=.tup [.agg zeroKn,intA (askM b t)]/\K'=(0,zr)::(1,zz)::(s,zo b)::(e,zp b)::Kt)\/(∃ jl m om,askM b t=0/\MapOk om (oftM (zb b))/\r=.tup [.agg (knownC b s e (.row jl (zb b).length) m),intA 0]/\K'=(jl,rowO (zb b))::(m,.raw om)::(0,zr)::(1,zz)::(s,zo b)::(e,zp b)::Kt)):=by
 refine ze 59 hT Tryz.func102 fun Y hret=>?_;refine au 21042 ?_;intro jb hjb;refine au 220 ?_;intro jk hjk;refine au 68042235 ?_;refine bD Z Z Z Z (kN hT (b:=b) (s:=s) (e:=e) hn hl) ?_;rintro r1 K2 ⟨rfl,rfl⟩;refine au 93714235 ?_;constructor<;>intro hc0
 ·refine au 35170145042 ?_;refine bB hret (((0,zr)::(1,zz)::(s,zo b)::(e,zp b)::Kt)) ?_;have ha:askM b t=checkM b:=if_pos (by simpa using hc0);exact .inl ⟨by rw [ha]; simpa using hc0,by rw [ha]; rfl,rfl⟩
 have hc1:checkM b=0:=by simpa using hc0
 have hb:=yy hc1;refine au 43068042120 ?_;refine TK.newM Z Z Z (zaO Z) (fun _=>zt rfl tQ) fun jm hjm=>?_;refine au 220450 ?_;intro jx hjx;refine au 68067014223170 ?_;refine TK.callF' Z Z Z Z Z (hth hb) (.right (.right (.right (.right (.right (.right (.right (.right (.all _))))))))) fun r4 K5 h6=>?_;obtain ⟨rfl,hK⟩:=h6;refine au 0 ?_;rw [hK];refine bN (K':=(jx,_)::(jm,_)::(0,_)::(s,_)::(e,_)::(jk,_)::(jb,_)::(1,_)::Kt) (lH (l₁:=Kt)) ?_;refine au 93300 ?_;constructor<;>intro hc2
 ·have ht:t=false:=by simpa using hc2
  refine au 3517045042 ?_;refine bB hret (((0,zr)::(1,zz)::(s,zo b)::(e,zp b)::Kt)) ?_;have ha:askM b t=6:=by unfold askM; rw [if_neg (by simpa using hc1),ht,if_pos rfl]
  exact .inl ⟨by rw [ha]; decide,by rw [ha]; rfl,rfl⟩
 have ht:t=true:=by simpa using hc2
 refine au 680670422120 ?_;refine bD Z Z Z Z (za1 hT hse hb) ?_;rintro r7 K8 ⟨jl,rfl,rfl⟩;refine au 937280690670423170670 ?_;constructor<;>intro hc3
 ·have hst:zb b=[]:=lK (by have h:((zb b).length:Int)=0:=(by simpa using hc3); omega);refine au 3517045042 ?_;refine bB hret (((0,zr)::(1,zz)::(s,zo b)::(e,zp b)::Kt)) ?_;have ha:askM b t=9:=by unfold askM; rw [if_neg (by simpa using hc1),ht,if_neg dQ,if_pos hst]
  exact .inl ⟨by rw [ha]; decide,by rw [ha]; rfl,rfl⟩
 have hst:zb b≠[]:=fun h=>by rw [h] at hc3; exact absurd hc3 dQ
 have hLo:=yM hb;have hLn:=yH hb;refine au 13031280690670422120 ?_;refine bA [4,7,38,39,40] ?_;refine bC (((jx,_)::(jm,_)::(jl,_)::(jk,_)::(0,_)::(1,_)::(s,_)::(e,_)::Kt)) ?_;refine bE (fun n env K=>∃ (i:Nat) (om:Obj),n=(zb b).length - i/\i<=(zb b).length/\MapOk om (fun q=>(((zb b).take i).flatten.count q:Nat))/\env=zK 59 [(4,.ptr jk 0),(7,.ptr jx 0),(38,.row jl (zb b).length),(39,intA (zb b).length),(40,intA i)]/\K=(jx,.cells (knownC b s e (.row jl (zb b).length) jm) 219 true)::(jm,.raw om)::(jl,rowO (zb b))::(jk,.cells zeroKn 219 true)::(0,zr)::(1,zz)::(s,zo b)::(e,zp b)::Kt) (zb b).length ⟨0,_,rfl,mN _,zd8,rfl,rfl⟩ fun n env K hI' hnext=>?_;obtain ⟨i,om,rfl,hi,hom,rfl,rfl⟩:=hI';refine au 923742 ?_;refine ⟨fun hc=>?_,fun hc=>?_⟩
 ·simp only [decide_eq_true_eq] at hc;have hil:i<(zb b).length:=by omega
  have hSm:=hLo _ (List.getElem_mem hil);refine au 370421302120 ?_;refine TK.a Z (zN Z Z zd.h mQ (zkG (zb b) i hil)) ?_;refine au 220 ?_;intro j9 hj9;refine au 680423170 ?_;refine bD Z Z Z Z (zbd hT hSm.len fun x hx=>⟨(hSm.mem x hx).1,by have:=(hSm.mem x hx).2; have:=hb.steps; omega⟩) ?_;rintro r10 K11 ⟨jr,rfl,rfl⟩;refine au 13031280 ?_;refine bA [4,7,38,39,40,45,46,47] ?_;refine bC (((jr,_)::(jx,_)::(jm,_)::(jl,_)::(jk,_)::(0,_)::(1,_)::(s,_)::(e,_)::Kt)) ?_;refine bE (fun n env K=>∃ (q:Nat) (om2:Obj),n=(zb b)[i].length - q/\q<=(zb b)[i].length/\MapOk om2 (fun z=>(((((zb b).take i).flatten++(zb b)[i].take q).count z:Nat):Int))/\env=zK 59 [(4,.ptr jk 0),(7,.ptr jx 0),(38,.row jl (zb b).length),(39,intA (zb b).length),(40,intA i),(45,.row jr (zb b)[i].length),(46,intA (zb b)[i].length),(47,intA q)]/\K=(jr,.row ((zb b)[i].map intA) 3 1)::(jx,.cells (knownC b s e (.row jl (zb b).length) jm) 219 true)::(jm,.raw om2)::(jl,rowO (zb b))::(jk,.cells zeroKn 219 true)::(0,zr)::(1,zz)::(s,zo b)::(e,zp b)::Kt) (zb b)[i].length ⟨0,om,rfl,mN _,by simpa using hom,rfl,rfl⟩ fun n env K hI' hnext2=>?_;obtain ⟨q,om2,rfl,hq,hom2,rfl,rfl⟩:=hI';refine au 923742 ?_;refine ⟨fun hcq=>?_,fun hcq=>?_⟩
  ·simp only [decide_eq_true_eq] at hcq;have hlen3:=hSm.len;have hql:q<(zb b)[i].length:=by omega
   have hcnt:(((zb b).take i).flatten++(zb b)[i].take q).count (zb b)[i][q]<=200000:=mT List.count_le_length (by
    have h1:=ux (Ls:=(zb b).take i) (fun R hR=>(hLo R (List.mem_of_mem_take hR)).len);have h2:((zb b).take i).length<=65536:=by rw [List.length_take]; omega
    have h3:=hSm.len;rw [lF,List.length_take]; omega)
   refine au 370421302120 ?_;refine TK.a Z (zm Z Z zd.h mQ (zb4 (i:=q) hql Z)) ?_;refine au 1690670435 ?_;refine TK.a Z (ue Z Z Z Und.h Und.h InfO.h Z mQ hom2) ?_;refine au 230 ?_;refine TK.st Z Z Z (zbB Z Z Z Z Und.h Und.h mQ hom2) uQ (putN Z) ?_;refine au 3123041403 ?_;refine bA [4,7,38,39,40,45,46,47] ?_;refine bC (((jr,_)::(jx,_)::(jm,_)::(jl,_)::(jk,_)::(0,_)::(1,_)::(s,_)::(e,_)::Kt)) ?_;exact hnext2 _ _ _ oQ ⟨q+1,_,rfl,oQ,vl (zjU hom2) (fun z=>(zfu hil hql z).symm),rfl,rfl⟩
  simp only [decide_eq_false_iff_not] at hcq;obtain rfl:q=(zb b)[i].length:=by omega
  refine au 312304140160 ?_;refine bA [4,7,38,39,40] ?_;refine bC (((jx,_)::(jm,_)::(jl,_)::(jk,_)::(0,_)::(1,_)::(s,_)::(e,_)::Kt)) ?_;exact hnext _ _ _ oQ ⟨i+1,om2,rfl,oQ,vl hom2 (fun q=>by rw [zft hil]),rfl,rfl⟩
 simp only [decide_eq_false_iff_not] at hc;obtain rfl:i=(zb b).length:=by omega
 refine au 3517068042160 ?_;refine bB hret (((jl,_)::(jm,_)::(0,zr)::(1,zz)::(s,zo b)::(e,zp b)::Kt)) ?_;have ha:askM b t=0:=by unfold askM; rw [if_neg (by simpa using hc1),ht,if_neg dQ,if_neg hst]
 rw [lW] at hom;exact .inr ⟨jl,jm,_,ha,hom,rfl,rfl⟩
theorem zjX {gm:Nat->Option Nat} {m:Nat×Value} {b:Bk} {s e j9 j7 j8 jx jb jl jm low cg cn:Nat} (hb:BkOk b) (hlow:low<b.steps.toNat) (hm:m=msgN b cg cn low) (Y:KX tp gm (TreeW tp (AtSend tp m))) (hkd:Y.X.kd=.deferred) (hro:Y.X.ro=none) (hcs:Y.X.cs=[bot tp]) (hf:Y.X.f=113) :
  TK Y [] [.code ((Tryz.f113.body).getD .skip)] ([.ptr jb 0,.ptr jx 0,.ptr j9 0,.ptr j7 0,.ptr j8 0]++mB (Tryz.f113.ntmps - 5) .any) [(j9,.cells [intA low] 3 false),(j7,.cells [.v (.chan (some cg))] 226 false),(j8,.cells [.v (.chan (some cn))] 227 false),(jx,.cells (knownC b s e (.sl jl 0 (zb b).length) jm) 219 false),(jb,.cells (zx b s e) 27 false),(jl,listO (zb b))]:=by
 have hT:=zcY tp (AtSend tp m);have hLo:=yM hb;have hLn:=yH hb;have hst16:=hb.steps;refine TK.norm (he:=rfl) (env':=[_,_,_,_,_,_,_,_,_,_,_,_,_,_,_,_,_,_,_,_,_,_,_]) ?_;refine au 13035422 ?_;refine bA [0,1,2,3,4,5] ?_;refine bE (fun n env K=>∃ (i:Nat),n=b.steps.toNat - i/\i<=b.steps.toNat/\(∀ q,q<i->¬ (withinM b (zb b) low ((q:Int)+1)).1>0)/\env=zK 23 [(0,.ptr jb 0),(1,.ptr jx 0),(2,.ptr j9 0),(3,.ptr j7 0),(4,.ptr j8 0),(5,intA ((i:Int)+1))]/\K=[(j9,.cells [intA low] 3 false),(j7,.cells [.v (.chan (some cg))] 226 false),(j8,.cells [.v (.chan (some cn))] 227 false),(jx,.cells (knownC b s e (.sl jl 0 (zb b).length) jm) 219 false),(jb,.cells (zx b s e) 27 false),(jl,listO (zb b))]) b.steps.toNat ⟨0,rfl,mN _,fun q hq=>absurd hq (Nat.not_lt_zero _),rfl,rfl⟩ fun n env K hI' hnext=>?_;obtain ⟨i,rfl,hi,hno,rfl,rfl⟩:=hI';refine au 9376906701422 ?_;refine ⟨fun hc=>?_,fun hc=>?_⟩
 ·simp only [decide_eq_true_eq] at hc;have hil:i<b.steps.toNat:=by omega
  refine au 1690680421302120 ?_;refine bD Z Z Z Z (zez hT (b:=b) (s:=s) (e:=e) (lo:=low) (w:=(i:Int)+1) hb.steps hLo hLn oQ) ?_;rintro r1 K2 ⟨rfl,rfl⟩;refine au 937310 ?_;constructor<;>intro hc1
  ·have hak:arcK b low=some i:=List.find?_range_eq_some.2 ⟨by simpa using hc1,List.mem_range.2 hil,fun q hq=>by have:=hno q hq; simpa using this⟩;obtain rfl:m=(cg,.agg #[.int .i64 low,.int .i64 ((i:Int)+1)]):=by rw [hm]; unfold msgN; rw [hak]
   refine au 390169069042 ?_;exact TK.sendW rfl rfl rfl rfl rfl rfl hkd hro hcs fun ts=>by rw [hf]; exact zjq Tryz.func113 rfl
  refine au 3523014140120 ?_;refine bA [0,1,2,3,4,5] ?_;refine bC [(j9,_),(j7,_),(j8,_),(jx,_),(jb,_),(jl,_)] ?_;exact hnext _ _ _ oQ ⟨i+1,rfl,oQ,fun q hq=>by
   rcases Nat.lt_or_ge q i with h | h
   ·exact hno q h
   ·obtain rfl:q=i:=by omega
    simpa using hc1,rfl,rfl⟩
 simp only [decide_eq_false_iff_not] at hc;obtain rfl:i=b.steps.toNat:=by omega
 have hak:arcK b low=none:=List.find?_eq_none.2 fun q hq=>by have:=hno q (List.mem_range.1 hq); simpa using this
 obtain rfl:m=(cn,.bool true):=by rw [hm]; unfold msgN; rw [hak]
 refine au 6904160 ?_;exact TK.sendW rfl rfl rfl rfl rfl rfl hkd hro hcs fun ts=>by rw [hf]; exact zjp Tryz.func113 rfl
section
variable {P:Program} {gm:Nat->Option Nat} {T:Goroutine->Hp->Prop} {Y:KX P gm T} {ds:List Nat} {k:List Item} {env:List AV} {K:KV}
theorem TK.share {c:Code} (E:Nat->Nat->Nat->Nat->List AV) (KK:Nat->Nat->Nat->Nat->KV) (h:(∀ a b c d,TK Y ds k (E a b c d) (KK a b c d))->TK Y ds (.code c::k) env K) (hc:∀ a b c d,TK Y ds k (E a b c d) (KK a b c d)):TK Y ds (.code c::k) env K:=h hc
end
def narrowApi (b:Bk):(Int×Int)×Bool×Int:=if askM b true≠0 then ((0,0),false,askM b true) else if arcsOf b (List.range b.steps.toNat)=[] then ((0,0),false,0) else (narrowM b,true,0)
theorem zgO {Ls:List (List Int)} (h:Ls≠[]):Ls.flatMap zX≠[]:=by
 cases Ls with
 | nil=>exact absurd rfl h
 | cons S Ls=>rw [List.flatMap_cons]; unfold zX; simp
theorem zlU (b:Bk) (cg cn i:Nat):(msgN b cg cn i).1=cg\/(msgN b cg cn i).1=cn:=by
 unfold msgN; split
 ·exact .inl rfl
 ·exact .inr rfl
theorem zmR {b:Bk} {cg cn q w:Nat} (h:arcK b q=some w):msgN b cg cn q=(cg,.agg #[.int .i64 q,.int .i64 ((w:Int)+1)])/\arcA b q=some ((q:Int),(w:Int)+1):=by
 unfold msgN arcA; rw [h]; exact ⟨rfl,rfl⟩
theorem zmQ {b:Bk} {cg cn q:Nat} (h:arcK b q=none):msgN b cg cn q=(cn,.bool true)/\arcA b q=none:=by
 unfold msgN arcA; rw [h]; exact ⟨rfl,rfl⟩
theorem vx (tame:Tame tp) {Ψ:Goroutine->World->Prop} {b:Bk} {s e:Nat} (hse:s≠e) (hn:∀ x∈b.seekers,x.name.size<=1000) (hl:b.seen.length<=1000):zh tp (BT tp Ψ) gmS 41 [.agg (zx b s e)] [(0,zr),(1,zz),(s,zo b),(e,zp b)] (fun r K'=>r=.tup [intA (narrowApi b).1.1,intA (narrowApi b).1.2,zl (narrowApi b).2.1,intA (narrowApi b).2.2]/\K'=[(0,zr),(1,zz),(s,zo b),(e,zp b)]):=by
 have hT:=wM tame Ψ;refine ze 59 hT Tryz.func41 fun Y hret=>?_;refine au 21042 ?_;intro jb hjb;refine au 6804235555 ?_;refine bD Z Z Z Z (zlr hT (b:=b) (s:=s) (e:=e) (t:=true) hse hn hl Z (fun hb=>yC Cal.h (wz hT))) ?_;rintro r1 K2 h3;rcases h3 with ⟨hb0,rfl,rfl⟩ | ⟨jl,jm,om,hb0,hom,rfl,rfl⟩
 ·refine au 220661 ?_;intro jx hjx;refine au 937142235170 ?_;constructor<;>intro hc0
  ·
   refine au 35555142 ?_;refine bB hret [(0,_),(1,_),(s,_),(e,_)] ?_;exact ⟨by unfold narrowApi; rw [if_pos hb0]; rfl,rfl⟩
  exact absurd (by simpa using hc0) hb0
 ·refine au 220661 ?_;intro jx hjx;refine au 937142235170 ?_;constructor<;>intro hc0
  ·exact absurd hc0 dQ
  obtain ⟨hck,hth,hne⟩:=kM hb0;have hb:=yy hck;have hLo:=yM hb;have hLn:=yH hb;refine au 2120 ?_;refine TK.share (fun jc1 jc2 j7 j8=>zK 59 [(1,.ptr jb 0),(6,.ptr jx 0),(7,.ptr j7 0),(8,.ptr j8 0)]) (fun jc1 jc2 j7 j8=>(jc1,.raw (.chan 0 #[] false 0 0 false))::(jc2,.raw (.chan 0 #[] false 0 0 false))::(j7,.cells [.chan jc1] 226 true)::(j8,.cells [.chan jc2] 227 true)::(jx,.cells (knownC b s e (.row jl (zb b).length) jm) 219 true)::(jb,.cells (zx b s e) 27 true)::(jl,rowO (zb b))::(0,zr)::(1,zz)::(s,zo b)::(e,zp b)::[]) (fun hcont=>?_) (fun jc1 jc2 j7 j8=>?_)
  ·refine bL [0,1,2,3,4,5] ?_;refine TD.cM [0,1,2,3] Z ?_;intro mm hmm;simp only [lI,List.not_mem_nil,or_false] at hmm;rcases hmm with rfl | rfl | rfl | rfl
   ·refine ⟨[],_,[],[1,2,3,4,5],rfl,rfl,rfl,rfl,?_⟩;refine zU Z (zL Z Und.h InfO.h) (fun _=>zt rfl tQ) sQ fun jc1 hjc1=>?_;refine TD.cM [1,2,3] Z ?_;intro mm hmm;simp only [lI,List.not_mem_nil,or_false] at hmm;rcases hmm with rfl | rfl | rfl
    ·refine ⟨[],_,[],[2,3,4,5],rfl,rfl,rfl,rfl,?_⟩;refine zU Z (zL Z Und.h InfO.h) (fun _=>zt rfl tQ) sQ fun jc2 hjc2=>?_;refine TD.c2 (i1:=2) (i2:=3) (pend1:=[]) (pend2:=[]) (L1:=[3,4,5]) (L2:=[2,4,5]) [] [] Z Z Z Z Z Z Z ?_ ?_
     ·refine yw Z (zY Z TyZA.h) (fun _=>zt rfl tQ) sQ fun j7 hj7=>?_;refine bX (pend':=[]) [] Z Z Z Z Z (zY Z TyZA.h) (fun _=>zt rfl tQ) sQ fun j8 hj8=>?_;refine bR (pend':=[]) [7,21] Z Z (zy Z Z zd.h Z Z mQ Z) ?_;refine bR (pend':=[]) [8,22] Z Z (zy Z Z zd.h Z Z mQ Z) ?_;refine ad [[14]] ?_;refine bA [1,6,7,8] ?_;refine bC ((jc1,_)::(jc2,_)::(j7,_)::(j8,_)::(jx,_)::(jb,_)::(jl,_)::(0,_)::(1,_)::(s,_)::(e,_)::[]) ?_;exact hcont jc1 jc2 j7 j8
     ·refine yw Z (zY Z TyZA.h) (fun _=>zt rfl tQ) sQ fun j8 hj8=>?_;refine bX (pend':=[]) [] Z Z Z Z Z (zY Z TyZA.h) (fun _=>zt rfl tQ) sQ fun j7 hj7=>?_;refine bR (pend':=[]) [7,21] Z Z (zy Z Z zd.h Z Z mQ Z) ?_;refine bR (pend':=[]) [8,22] Z Z (zy Z Z zd.h Z Z mQ Z) ?_;refine ad [[14]] ?_;refine bA [1,6,7,8] ?_;refine bC ((jc1,_)::(jc2,_)::(j7,_)::(j8,_)::(jx,_)::(jb,_)::(jl,_)::(0,_)::(1,_)::(s,_)::(e,_)::[]) ?_;exact hcont jc1 jc2 j7 j8
    ·refine ⟨[],_,[],[1,3,4,5],rfl,rfl,rfl,rfl,?_⟩;refine yw Z (zY Z TyZA.h) (fun _=>zt rfl tQ) sQ fun j7 hj7=>?_;refine TD.c2 (i1:=1) (i2:=3) (pend1:=[]) (pend2:=[]) (L1:=[3,4,5]) (L2:=[1,4,5]) [] [] Z Z Z Z Z Z Z ?_ ?_
     ·refine zU Z (zL Z Und.h InfO.h) (fun _=>zt rfl tQ) sQ fun jc2 hjc2=>?_;refine bX (pend':=[]) [] Z Z Z Z Z (zY Z TyZA.h) (fun _=>zt rfl tQ) sQ fun j8 hj8=>?_;refine bR (pend':=[]) [7,21] Z Z (zy Z Z zd.h Z Z mQ Z) ?_;refine bR (pend':=[]) [8,22] Z Z (zy Z Z zd.h Z Z mQ Z) ?_;refine ad [[14]] ?_;refine bA [1,6,7,8] ?_;refine bC ((jc1,_)::(jc2,_)::(j7,_)::(j8,_)::(jx,_)::(jb,_)::(jl,_)::(0,_)::(1,_)::(s,_)::(e,_)::[]) ?_;exact hcont jc1 jc2 j7 j8
     ·refine yw Z (zY Z TyZA.h) (fun _=>zt rfl tQ) sQ fun j8 hj8=>?_;refine TD.c2 (i1:=1) (i2:=4) (pend1:=[]) (pend2:=[]) (L1:=[4,5]) (L2:=[1,5]) [] [7,21] Z Z Z Z Z Z Z ?_ ?_
      ·refine zU Z (zL Z Und.h InfO.h) (fun _=>zt rfl tQ) sQ fun jc2 hjc2=>?_;refine bR (pend':=[]) [7,21] Z Z (zy Z Z zd.h Z Z mQ Z) ?_;refine bR (pend':=[]) [8,22] Z Z (zy Z Z zd.h Z Z mQ Z) ?_;refine ad [[14]] ?_;refine bA [1,6,7,8] ?_;refine bC ((jc1,_)::(jc2,_)::(j7,_)::(j8,_)::(jx,_)::(jb,_)::(jl,_)::(0,_)::(1,_)::(s,_)::(e,_)::[]) ?_;exact hcont jc1 jc2 j7 j8
      ·refine ua Z (zy Z Z zd.h Z Z mQ Z) uQ (putN Z) sQ ?_;refine TD.c (pend':=[]) [] Z Z Z Z (zU Z (zL Z Und.h InfO.h) (fun _=>zt rfl tQ) sQ fun jc2 hjc2=>?_);refine bR (pend':=[]) [8,22] Z Z (zy Z Z zd.h Z Z mQ Z) ?_;refine ad [[14]] ?_;refine bA [1,6,7,8] ?_;refine bC ((jc1,_)::(jc2,_)::(j7,_)::(j8,_)::(jx,_)::(jb,_)::(jl,_)::(0,_)::(1,_)::(s,_)::(e,_)::[]) ?_;exact hcont jc1 jc2 j7 j8
    ·refine ⟨[],_,[],[1,2,4,5],rfl,rfl,rfl,rfl,?_⟩;refine yw Z (zY Z TyZA.h) (fun _=>zt rfl tQ) sQ fun j8 hj8=>?_;refine TD.c2 (i1:=1) (i2:=2) (pend1:=[]) (pend2:=[]) (L1:=[2,4,5]) (L2:=[1,4,5]) [] [] Z Z Z Z Z Z Z ?_ ?_
     ·refine zU Z (zL Z Und.h InfO.h) (fun _=>zt rfl tQ) sQ fun jc2 hjc2=>?_;refine bX (pend':=[]) [] Z Z Z Z Z (zY Z TyZA.h) (fun _=>zt rfl tQ) sQ fun j7 hj7=>?_;refine bR (pend':=[]) [7,21] Z Z (zy Z Z zd.h Z Z mQ Z) ?_;refine bR (pend':=[]) [8,22] Z Z (zy Z Z zd.h Z Z mQ Z) ?_;refine ad [[14]] ?_;refine bA [1,6,7,8] ?_;refine bC ((jc1,_)::(jc2,_)::(j7,_)::(j8,_)::(jx,_)::(jb,_)::(jl,_)::(0,_)::(1,_)::(s,_)::(e,_)::[]) ?_;exact hcont jc1 jc2 j7 j8
     ·refine yw Z (zY Z TyZA.h) (fun _=>zt rfl tQ) sQ fun j7 hj7=>?_;refine TD.c2 (i1:=1) (i2:=4) (pend1:=[]) (pend2:=[]) (L1:=[4,5]) (L2:=[1,5]) [] [7,21] Z Z Z Z Z Z Z ?_ ?_
      ·refine zU Z (zL Z Und.h InfO.h) (fun _=>zt rfl tQ) sQ fun jc2 hjc2=>?_;refine bR (pend':=[]) [7,21] Z Z (zy Z Z zd.h Z Z mQ Z) ?_;refine bR (pend':=[]) [8,22] Z Z (zy Z Z zd.h Z Z mQ Z) ?_;refine ad [[14]] ?_;refine bA [1,6,7,8] ?_;refine bC ((jc1,_)::(jc2,_)::(j7,_)::(j8,_)::(jx,_)::(jb,_)::(jl,_)::(0,_)::(1,_)::(s,_)::(e,_)::[]) ?_;exact hcont jc1 jc2 j7 j8
      ·refine ua Z (zy Z Z zd.h Z Z mQ Z) uQ (putN Z) sQ ?_;refine TD.c (pend':=[]) [] Z Z Z Z (zU Z (zL Z Und.h InfO.h) (fun _=>zt rfl tQ) sQ fun jc2 hjc2=>?_);refine bR (pend':=[]) [8,22] Z Z (zy Z Z zd.h Z Z mQ Z) ?_;refine ad [[14]] ?_;refine bA [1,6,7,8] ?_;refine bC ((jc1,_)::(jc2,_)::(j7,_)::(j8,_)::(jx,_)::(jb,_)::(jl,_)::(0,_)::(1,_)::(s,_)::(e,_)::[]) ?_;exact hcont jc1 jc2 j7 j8
   ·refine ⟨[],_,[],[0,2,3,4,5],rfl,rfl,rfl,rfl,?_⟩;refine zU Z (zL Z Und.h InfO.h) (fun _=>zt rfl tQ) sQ fun jc2 hjc2=>?_;refine TD.cM [0,2,3] Z ?_;intro mm hmm;simp only [lI,List.not_mem_nil,or_false] at hmm;rcases hmm with rfl | rfl | rfl
    ·refine ⟨[],_,[],[2,3,4,5],rfl,rfl,rfl,rfl,?_⟩;refine zU Z (zL Z Und.h InfO.h) (fun _=>zt rfl tQ) sQ fun jc1 hjc1=>?_;refine TD.c2 (i1:=2) (i2:=3) (pend1:=[]) (pend2:=[]) (L1:=[3,4,5]) (L2:=[2,4,5]) [] [] Z Z Z Z Z Z Z ?_ ?_
     ·refine yw Z (zY Z TyZA.h) (fun _=>zt rfl tQ) sQ fun j7 hj7=>?_;refine bX (pend':=[]) [] Z Z Z Z Z (zY Z TyZA.h) (fun _=>zt rfl tQ) sQ fun j8 hj8=>?_;refine bR (pend':=[]) [7,21] Z Z (zy Z Z zd.h Z Z mQ Z) ?_;refine bR (pend':=[]) [8,22] Z Z (zy Z Z zd.h Z Z mQ Z) ?_;refine ad [[14]] ?_;refine bA [1,6,7,8] ?_;refine bC ((jc1,_)::(jc2,_)::(j7,_)::(j8,_)::(jx,_)::(jb,_)::(jl,_)::(0,_)::(1,_)::(s,_)::(e,_)::[]) ?_;exact hcont jc1 jc2 j7 j8
     ·refine yw Z (zY Z TyZA.h) (fun _=>zt rfl tQ) sQ fun j8 hj8=>?_;refine bX (pend':=[]) [] Z Z Z Z Z (zY Z TyZA.h) (fun _=>zt rfl tQ) sQ fun j7 hj7=>?_;refine bR (pend':=[]) [7,21] Z Z (zy Z Z zd.h Z Z mQ Z) ?_;refine bR (pend':=[]) [8,22] Z Z (zy Z Z zd.h Z Z mQ Z) ?_;refine ad [[14]] ?_;refine bA [1,6,7,8] ?_;refine bC ((jc1,_)::(jc2,_)::(j7,_)::(j8,_)::(jx,_)::(jb,_)::(jl,_)::(0,_)::(1,_)::(s,_)::(e,_)::[]) ?_;exact hcont jc1 jc2 j7 j8
    ·refine ⟨[],_,[],[0,3,4,5],rfl,rfl,rfl,rfl,?_⟩;refine yw Z (zY Z TyZA.h) (fun _=>zt rfl tQ) sQ fun j7 hj7=>?_;refine TD.c2 (i1:=0) (i2:=3) (pend1:=[]) (pend2:=[]) (L1:=[3,4,5]) (L2:=[0,4,5]) [] [] Z Z Z Z Z Z Z ?_ ?_
     ·refine zU Z (zL Z Und.h InfO.h) (fun _=>zt rfl tQ) sQ fun jc1 hjc1=>?_;refine bX (pend':=[]) [] Z Z Z Z Z (zY Z TyZA.h) (fun _=>zt rfl tQ) sQ fun j8 hj8=>?_;refine bR (pend':=[]) [7,21] Z Z (zy Z Z zd.h Z Z mQ Z) ?_;refine bR (pend':=[]) [8,22] Z Z (zy Z Z zd.h Z Z mQ Z) ?_;refine ad [[14]] ?_;refine bA [1,6,7,8] ?_;refine bC ((jc1,_)::(jc2,_)::(j7,_)::(j8,_)::(jx,_)::(jb,_)::(jl,_)::(0,_)::(1,_)::(s,_)::(e,_)::[]) ?_;exact hcont jc1 jc2 j7 j8
     ·refine yw Z (zY Z TyZA.h) (fun _=>zt rfl tQ) sQ fun j8 hj8=>?_;refine TD.c (pend':=[]) [] Z Z Z Z (zU Z (zL Z Und.h InfO.h) (fun _=>zt rfl tQ) sQ fun jc1 hjc1=>?_);refine bR (pend':=[]) [7,21] Z Z (zy Z Z zd.h Z Z mQ Z) ?_;refine bR (pend':=[]) [8,22] Z Z (zy Z Z zd.h Z Z mQ Z) ?_;refine ad [[14]] ?_;refine bA [1,6,7,8] ?_;refine bC ((jc1,_)::(jc2,_)::(j7,_)::(j8,_)::(jx,_)::(jb,_)::(jl,_)::(0,_)::(1,_)::(s,_)::(e,_)::[]) ?_;exact hcont jc1 jc2 j7 j8
    ·refine ⟨[],_,[],[0,2,4,5],rfl,rfl,rfl,rfl,?_⟩;refine yw Z (zY Z TyZA.h) (fun _=>zt rfl tQ) sQ fun j8 hj8=>?_;refine TD.c2 (i1:=0) (i2:=2) (pend1:=[]) (pend2:=[]) (L1:=[2,4,5]) (L2:=[0,4,5]) [] [] Z Z Z Z Z Z Z ?_ ?_
     ·refine zU Z (zL Z Und.h InfO.h) (fun _=>zt rfl tQ) sQ fun jc1 hjc1=>?_;refine bX (pend':=[]) [] Z Z Z Z Z (zY Z TyZA.h) (fun _=>zt rfl tQ) sQ fun j7 hj7=>?_;refine bR (pend':=[]) [7,21] Z Z (zy Z Z zd.h Z Z mQ Z) ?_;refine bR (pend':=[]) [8,22] Z Z (zy Z Z zd.h Z Z mQ Z) ?_;refine ad [[14]] ?_;refine bA [1,6,7,8] ?_;refine bC ((jc1,_)::(jc2,_)::(j7,_)::(j8,_)::(jx,_)::(jb,_)::(jl,_)::(0,_)::(1,_)::(s,_)::(e,_)::[]) ?_;exact hcont jc1 jc2 j7 j8
     ·refine yw Z (zY Z TyZA.h) (fun _=>zt rfl tQ) sQ fun j7 hj7=>?_;refine TD.c (pend':=[]) [] Z Z Z Z (zU Z (zL Z Und.h InfO.h) (fun _=>zt rfl tQ) sQ fun jc1 hjc1=>?_);refine bR (pend':=[]) [7,21] Z Z (zy Z Z zd.h Z Z mQ Z) ?_;refine bR (pend':=[]) [8,22] Z Z (zy Z Z zd.h Z Z mQ Z) ?_;refine ad [[14]] ?_;refine bA [1,6,7,8] ?_;refine bC ((jc1,_)::(jc2,_)::(j7,_)::(j8,_)::(jx,_)::(jb,_)::(jl,_)::(0,_)::(1,_)::(s,_)::(e,_)::[]) ?_;exact hcont jc1 jc2 j7 j8
   ·refine ⟨[],_,[],[0,1,3,4,5],rfl,rfl,rfl,rfl,?_⟩;refine yw Z (zY Z TyZA.h) (fun _=>zt rfl tQ) sQ fun j7 hj7=>?_;refine TD.cM [0,1,3] Z ?_;intro mm hmm;simp only [lI,List.not_mem_nil,or_false] at hmm;rcases hmm with rfl | rfl | rfl
    ·refine ⟨[],_,[],[1,3,4,5],rfl,rfl,rfl,rfl,?_⟩;refine zU Z (zL Z Und.h InfO.h) (fun _=>zt rfl tQ) sQ fun jc1 hjc1=>?_;refine TD.c2 (i1:=1) (i2:=3) (pend1:=[]) (pend2:=[]) (L1:=[3,4,5]) (L2:=[1,4,5]) [] [] Z Z Z Z Z Z Z ?_ ?_
     ·refine zU Z (zL Z Und.h InfO.h) (fun _=>zt rfl tQ) sQ fun jc2 hjc2=>?_;refine bX (pend':=[]) [] Z Z Z Z Z (zY Z TyZA.h) (fun _=>zt rfl tQ) sQ fun j8 hj8=>?_;refine bR (pend':=[]) [7,21] Z Z (zy Z Z zd.h Z Z mQ Z) ?_;refine bR (pend':=[]) [8,22] Z Z (zy Z Z zd.h Z Z mQ Z) ?_;refine ad [[14]] ?_;refine bA [1,6,7,8] ?_;refine bC ((jc1,_)::(jc2,_)::(j7,_)::(j8,_)::(jx,_)::(jb,_)::(jl,_)::(0,_)::(1,_)::(s,_)::(e,_)::[]) ?_;exact hcont jc1 jc2 j7 j8
     ·refine yw Z (zY Z TyZA.h) (fun _=>zt rfl tQ) sQ fun j8 hj8=>?_;refine TD.c2 (i1:=1) (i2:=4) (pend1:=[]) (pend2:=[]) (L1:=[4,5]) (L2:=[1,5]) [] [7,21] Z Z Z Z Z Z Z ?_ ?_
      ·refine zU Z (zL Z Und.h InfO.h) (fun _=>zt rfl tQ) sQ fun jc2 hjc2=>?_;refine bR (pend':=[]) [7,21] Z Z (zy Z Z zd.h Z Z mQ Z) ?_;refine bR (pend':=[]) [8,22] Z Z (zy Z Z zd.h Z Z mQ Z) ?_;refine ad [[14]] ?_;refine bA [1,6,7,8] ?_;refine bC ((jc1,_)::(jc2,_)::(j7,_)::(j8,_)::(jx,_)::(jb,_)::(jl,_)::(0,_)::(1,_)::(s,_)::(e,_)::[]) ?_;exact hcont jc1 jc2 j7 j8
      ·refine ua Z (zy Z Z zd.h Z Z mQ Z) uQ (putN Z) sQ ?_;refine TD.c (pend':=[]) [] Z Z Z Z (zU Z (zL Z Und.h InfO.h) (fun _=>zt rfl tQ) sQ fun jc2 hjc2=>?_);refine bR (pend':=[]) [8,22] Z Z (zy Z Z zd.h Z Z mQ Z) ?_;refine ad [[14]] ?_;refine bA [1,6,7,8] ?_;refine bC ((jc1,_)::(jc2,_)::(j7,_)::(j8,_)::(jx,_)::(jb,_)::(jl,_)::(0,_)::(1,_)::(s,_)::(e,_)::[]) ?_;exact hcont jc1 jc2 j7 j8
    ·refine ⟨[],_,[],[0,3,4,5],rfl,rfl,rfl,rfl,?_⟩;refine zU Z (zL Z Und.h InfO.h) (fun _=>zt rfl tQ) sQ fun jc2 hjc2=>?_;refine TD.c2 (i1:=0) (i2:=3) (pend1:=[]) (pend2:=[]) (L1:=[3,4,5]) (L2:=[0,4,5]) [] [] Z Z Z Z Z Z Z ?_ ?_
     ·refine zU Z (zL Z Und.h InfO.h) (fun _=>zt rfl tQ) sQ fun jc1 hjc1=>?_;refine bX (pend':=[]) [] Z Z Z Z Z (zY Z TyZA.h) (fun _=>zt rfl tQ) sQ fun j8 hj8=>?_;refine bR (pend':=[]) [7,21] Z Z (zy Z Z zd.h Z Z mQ Z) ?_;refine bR (pend':=[]) [8,22] Z Z (zy Z Z zd.h Z Z mQ Z) ?_;refine ad [[14]] ?_;refine bA [1,6,7,8] ?_;refine bC ((jc1,_)::(jc2,_)::(j7,_)::(j8,_)::(jx,_)::(jb,_)::(jl,_)::(0,_)::(1,_)::(s,_)::(e,_)::[]) ?_;exact hcont jc1 jc2 j7 j8
     ·refine yw Z (zY Z TyZA.h) (fun _=>zt rfl tQ) sQ fun j8 hj8=>?_;refine TD.c (pend':=[]) [] Z Z Z Z (zU Z (zL Z Und.h InfO.h) (fun _=>zt rfl tQ) sQ fun jc1 hjc1=>?_);refine bR (pend':=[]) [7,21] Z Z (zy Z Z zd.h Z Z mQ Z) ?_;refine bR (pend':=[]) [8,22] Z Z (zy Z Z zd.h Z Z mQ Z) ?_;refine ad [[14]] ?_;refine bA [1,6,7,8] ?_;refine bC ((jc1,_)::(jc2,_)::(j7,_)::(j8,_)::(jx,_)::(jb,_)::(jl,_)::(0,_)::(1,_)::(s,_)::(e,_)::[]) ?_;exact hcont jc1 jc2 j7 j8
    ·refine ⟨[],_,[],[0,1,4,5],rfl,rfl,rfl,rfl,?_⟩;refine yw Z (zY Z TyZA.h) (fun _=>zt rfl tQ) sQ fun j8 hj8=>?_;refine TD.c2 (i1:=0) (i2:=1) (pend1:=[]) (pend2:=[]) (L1:=[1,4,5]) (L2:=[0,4,5]) [] [] Z Z Z Z Z Z Z ?_ ?_
     ·refine zU Z (zL Z Und.h InfO.h) (fun _=>zt rfl tQ) sQ fun jc1 hjc1=>?_;refine TD.c2 (i1:=1) (i2:=4) (pend1:=[]) (pend2:=[]) (L1:=[4,5]) (L2:=[1,5]) [] [7,21] Z Z Z Z Z Z Z ?_ ?_
      ·refine zU Z (zL Z Und.h InfO.h) (fun _=>zt rfl tQ) sQ fun jc2 hjc2=>?_;refine bR (pend':=[]) [7,21] Z Z (zy Z Z zd.h Z Z mQ Z) ?_;refine bR (pend':=[]) [8,22] Z Z (zy Z Z zd.h Z Z mQ Z) ?_;refine ad [[14]] ?_;refine bA [1,6,7,8] ?_;refine bC ((jc1,_)::(jc2,_)::(j7,_)::(j8,_)::(jx,_)::(jb,_)::(jl,_)::(0,_)::(1,_)::(s,_)::(e,_)::[]) ?_;exact hcont jc1 jc2 j7 j8
      ·refine ua Z (zy Z Z zd.h Z Z mQ Z) uQ (putN Z) sQ ?_;refine TD.c (pend':=[]) [] Z Z Z Z (zU Z (zL Z Und.h InfO.h) (fun _=>zt rfl tQ) sQ fun jc2 hjc2=>?_);refine bR (pend':=[]) [8,22] Z Z (zy Z Z zd.h Z Z mQ Z) ?_;refine ad [[14]] ?_;refine bA [1,6,7,8] ?_;refine bC ((jc1,_)::(jc2,_)::(j7,_)::(j8,_)::(jx,_)::(jb,_)::(jl,_)::(0,_)::(1,_)::(s,_)::(e,_)::[]) ?_;exact hcont jc1 jc2 j7 j8
     ·refine zU Z (zL Z Und.h InfO.h) (fun _=>zt rfl tQ) sQ fun jc2 hjc2=>?_;refine TD.c (pend':=[]) [] Z Z Z Z (zU Z (zL Z Und.h InfO.h) (fun _=>zt rfl tQ) sQ fun jc1 hjc1=>?_);refine bR (pend':=[]) [7,21] Z Z (zy Z Z zd.h Z Z mQ Z) ?_;refine bR (pend':=[]) [8,22] Z Z (zy Z Z zd.h Z Z mQ Z) ?_;refine ad [[14]] ?_;refine bA [1,6,7,8] ?_;refine bC ((jc1,_)::(jc2,_)::(j7,_)::(j8,_)::(jx,_)::(jb,_)::(jl,_)::(0,_)::(1,_)::(s,_)::(e,_)::[]) ?_;exact hcont jc1 jc2 j7 j8
   ·refine ⟨[],_,[],[0,1,2,4,5],rfl,rfl,rfl,rfl,?_⟩;refine yw Z (zY Z TyZA.h) (fun _=>zt rfl tQ) sQ fun j8 hj8=>?_;refine TD.cM [0,1,2] Z ?_;intro mm hmm;simp only [lI,List.not_mem_nil,or_false] at hmm;rcases hmm with rfl | rfl | rfl
    ·refine ⟨[],_,[],[1,2,4,5],rfl,rfl,rfl,rfl,?_⟩;refine zU Z (zL Z Und.h InfO.h) (fun _=>zt rfl tQ) sQ fun jc1 hjc1=>?_;refine TD.c2 (i1:=1) (i2:=2) (pend1:=[]) (pend2:=[]) (L1:=[2,4,5]) (L2:=[1,4,5]) [] [] Z Z Z Z Z Z Z ?_ ?_
     ·refine zU Z (zL Z Und.h InfO.h) (fun _=>zt rfl tQ) sQ fun jc2 hjc2=>?_;refine bX (pend':=[]) [] Z Z Z Z Z (zY Z TyZA.h) (fun _=>zt rfl tQ) sQ fun j7 hj7=>?_;refine bR (pend':=[]) [7,21] Z Z (zy Z Z zd.h Z Z mQ Z) ?_;refine bR (pend':=[]) [8,22] Z Z (zy Z Z zd.h Z Z mQ Z) ?_;refine ad [[14]] ?_;refine bA [1,6,7,8] ?_;refine bC ((jc1,_)::(jc2,_)::(j7,_)::(j8,_)::(jx,_)::(jb,_)::(jl,_)::(0,_)::(1,_)::(s,_)::(e,_)::[]) ?_;exact hcont jc1 jc2 j7 j8
     ·refine yw Z (zY Z TyZA.h) (fun _=>zt rfl tQ) sQ fun j7 hj7=>?_;refine TD.c2 (i1:=1) (i2:=4) (pend1:=[]) (pend2:=[]) (L1:=[4,5]) (L2:=[1,5]) [] [7,21] Z Z Z Z Z Z Z ?_ ?_
      ·refine zU Z (zL Z Und.h InfO.h) (fun _=>zt rfl tQ) sQ fun jc2 hjc2=>?_;refine bR (pend':=[]) [7,21] Z Z (zy Z Z zd.h Z Z mQ Z) ?_;refine bR (pend':=[]) [8,22] Z Z (zy Z Z zd.h Z Z mQ Z) ?_;refine ad [[14]] ?_;refine bA [1,6,7,8] ?_;refine bC ((jc1,_)::(jc2,_)::(j7,_)::(j8,_)::(jx,_)::(jb,_)::(jl,_)::(0,_)::(1,_)::(s,_)::(e,_)::[]) ?_;exact hcont jc1 jc2 j7 j8
      ·refine ua Z (zy Z Z zd.h Z Z mQ Z) uQ (putN Z) sQ ?_;refine TD.c (pend':=[]) [] Z Z Z Z (zU Z (zL Z Und.h InfO.h) (fun _=>zt rfl tQ) sQ fun jc2 hjc2=>?_);refine bR (pend':=[]) [8,22] Z Z (zy Z Z zd.h Z Z mQ Z) ?_;refine ad [[14]] ?_;refine bA [1,6,7,8] ?_;refine bC ((jc1,_)::(jc2,_)::(j7,_)::(j8,_)::(jx,_)::(jb,_)::(jl,_)::(0,_)::(1,_)::(s,_)::(e,_)::[]) ?_;exact hcont jc1 jc2 j7 j8
    ·refine ⟨[],_,[],[0,2,4,5],rfl,rfl,rfl,rfl,?_⟩;refine zU Z (zL Z Und.h InfO.h) (fun _=>zt rfl tQ) sQ fun jc2 hjc2=>?_;refine TD.c2 (i1:=0) (i2:=2) (pend1:=[]) (pend2:=[]) (L1:=[2,4,5]) (L2:=[0,4,5]) [] [] Z Z Z Z Z Z Z ?_ ?_
     ·refine zU Z (zL Z Und.h InfO.h) (fun _=>zt rfl tQ) sQ fun jc1 hjc1=>?_;refine bX (pend':=[]) [] Z Z Z Z Z (zY Z TyZA.h) (fun _=>zt rfl tQ) sQ fun j7 hj7=>?_;refine bR (pend':=[]) [7,21] Z Z (zy Z Z zd.h Z Z mQ Z) ?_;refine bR (pend':=[]) [8,22] Z Z (zy Z Z zd.h Z Z mQ Z) ?_;refine ad [[14]] ?_;refine bA [1,6,7,8] ?_;refine bC ((jc1,_)::(jc2,_)::(j7,_)::(j8,_)::(jx,_)::(jb,_)::(jl,_)::(0,_)::(1,_)::(s,_)::(e,_)::[]) ?_;exact hcont jc1 jc2 j7 j8
     ·refine yw Z (zY Z TyZA.h) (fun _=>zt rfl tQ) sQ fun j7 hj7=>?_;refine TD.c (pend':=[]) [] Z Z Z Z (zU Z (zL Z Und.h InfO.h) (fun _=>zt rfl tQ) sQ fun jc1 hjc1=>?_);refine bR (pend':=[]) [7,21] Z Z (zy Z Z zd.h Z Z mQ Z) ?_;refine bR (pend':=[]) [8,22] Z Z (zy Z Z zd.h Z Z mQ Z) ?_;refine ad [[14]] ?_;refine bA [1,6,7,8] ?_;refine bC ((jc1,_)::(jc2,_)::(j7,_)::(j8,_)::(jx,_)::(jb,_)::(jl,_)::(0,_)::(1,_)::(s,_)::(e,_)::[]) ?_;exact hcont jc1 jc2 j7 j8
    ·refine ⟨[],_,[],[0,1,4,5],rfl,rfl,rfl,rfl,?_⟩;refine yw Z (zY Z TyZA.h) (fun _=>zt rfl tQ) sQ fun j7 hj7=>?_;refine TD.c2 (i1:=0) (i2:=1) (pend1:=[]) (pend2:=[]) (L1:=[1,4,5]) (L2:=[0,4,5]) [] [] Z Z Z Z Z Z Z ?_ ?_
     ·refine zU Z (zL Z Und.h InfO.h) (fun _=>zt rfl tQ) sQ fun jc1 hjc1=>?_;refine TD.c2 (i1:=1) (i2:=4) (pend1:=[]) (pend2:=[]) (L1:=[4,5]) (L2:=[1,5]) [] [7,21] Z Z Z Z Z Z Z ?_ ?_
      ·refine zU Z (zL Z Und.h InfO.h) (fun _=>zt rfl tQ) sQ fun jc2 hjc2=>?_;refine bR (pend':=[]) [7,21] Z Z (zy Z Z zd.h Z Z mQ Z) ?_;refine bR (pend':=[]) [8,22] Z Z (zy Z Z zd.h Z Z mQ Z) ?_;refine ad [[14]] ?_;refine bA [1,6,7,8] ?_;refine bC ((jc1,_)::(jc2,_)::(j7,_)::(j8,_)::(jx,_)::(jb,_)::(jl,_)::(0,_)::(1,_)::(s,_)::(e,_)::[]) ?_;exact hcont jc1 jc2 j7 j8
      ·refine ua Z (zy Z Z zd.h Z Z mQ Z) uQ (putN Z) sQ ?_;refine TD.c (pend':=[]) [] Z Z Z Z (zU Z (zL Z Und.h InfO.h) (fun _=>zt rfl tQ) sQ fun jc2 hjc2=>?_);refine bR (pend':=[]) [8,22] Z Z (zy Z Z zd.h Z Z mQ Z) ?_;refine ad [[14]] ?_;refine bA [1,6,7,8] ?_;refine bC ((jc1,_)::(jc2,_)::(j7,_)::(j8,_)::(jx,_)::(jb,_)::(jl,_)::(0,_)::(1,_)::(s,_)::(e,_)::[]) ?_;exact hcont jc1 jc2 j7 j8
     ·refine zU Z (zL Z Und.h InfO.h) (fun _=>zt rfl tQ) sQ fun jc2 hjc2=>?_;refine TD.c (pend':=[]) [] Z Z Z Z (zU Z (zL Z Und.h InfO.h) (fun _=>zt rfl tQ) sQ fun jc1 hjc1=>?_);refine bR (pend':=[]) [7,21] Z Z (zy Z Z zd.h Z Z mQ Z) ?_;refine bR (pend':=[]) [8,22] Z Z (zy Z Z zd.h Z Z mQ Z) ?_;refine ad [[14]] ?_;refine bA [1,6,7,8] ?_;refine bC ((jc1,_)::(jc2,_)::(j7,_)::(j8,_)::(jx,_)::(jb,_)::(jl,_)::(0,_)::(1,_)::(s,_)::(e,_)::[]) ?_;exact hcont jc1 jc2 j7 j8
  ·refine TK.phase (fun cg cn=>msgN b cg cn) (zlU b) (by simp [knownC]) (by simp [zx]) (zgO hne) fun φ0 n0 cg cn hcc hag hn0 hsh hcs=>?_;refine bC ((j7,_)::(j8,_)::(jx,_)::(jb,_)::(jl,_)::(0,_)::(1,_)::(s,_)::(e,_)::[]) ?_;refine TK.normK (K':=(j7,.cells [.v (.chan (some cg))] 226 false)::(j8,.cells [.v (.chan (some cn))] 227 false)::(jx,.cells (knownC b s e (.sl jl 0 (zb b).length) jm) 219 false)::(jb,.cells (zx b s e) 27 false)::(jl,listO (zb b))::(0,zr)::(1,zz)::(s,zo b)::(e,zp b)::[]) (by simp [knownC,unrow,intA]; rfl) ?_;refine au 13031690670422 ?_;refine bA [1,6,7,8,24,25] ?_;refine TK.loopJ (fun q env K=>env=zK 59 [(1,.ptr jb 0),(6,.ptr jx 0),(7,.ptr j7 0),(8,.ptr j8 0),(24,intA b.steps),(25,intA q)]/\K=(j7,.cells [.v (.chan (some cg))] 226 false)::(j8,.cells [.v (.chan (some cn))] 227 false)::(jx,.cells (knownC b s e (.sl jl 0 (zb b).length) jm) 219 false)::(jb,.cells (zx b s e) 27 false)::(jl,listO (zb b))::(0,zr)::(1,zz)::(s,zo b)::(e,zp b)::[]) b.steps.toNat ⟨rfl,rfl⟩ fun q env K hq hI' hnext=>?_;obtain ⟨rfl,rfl⟩:=hI';refine au 923742 ?_;constructor<;>intro hc1
   ·simp only [decide_eq_true_eq] at hc1;have hql:q<b.steps.toNat:=by omega
    have hst16:=hb.steps;refine au 2201421302120 ?_;intro j9 hj9;refine au 32043170 ?_;refine TK.nd fun hnd=>?_;refine TK.spawn (j9:=j9) (l9:=[intA (q:Int)]) (e9:=3) (K':=(j7,.cells [.v (.chan (some cg))] 226 false)::(j8,.cells [.v (.chan (some cn))] 227 false)::(jx,.cells (knownC b s e (.sl jl 0 (zb b).length) jm) 219 false)::(jb,.cells (zx b s e) 27 false)::(jl,listO (zb b))::(0,zr)::(1,zz)::(s,zo b)::(e,zp b)::[]) Z Z Z Z Z (S:=[(j7,.cells [.v (.chan (some cg))] 226 false),(j8,.cells [.v (.chan (some cn))] 227 false),(jx,.cells (knownC b s e (.sl jl 0 (zb b).length) jm) 219 false),(jb,.cells (zx b s e) 27 false),(jl,listO (zb b))]) (fun x hx=>?_) .head sQ (fun φ A Hc vs hv hg hr hrel=>?_) ?_;rotate_left 2
    ·refine au 3123041403 ?_;refine bA [1,6,7,8,24,25] ?_;refine bC (((j7,_)::(j8,_)::(jx,_)::(jb,_)::(jl,_)::(0,_)::(1,_)::(s,_)::(e,_)::[])) ?_;exact hnext _ _ hql ⟨rfl,rfl⟩
    ·simp only [lI,List.not_mem_nil,or_false] at hx;rcases hx with rfl | rfl | rfl | rfl | rfl
     ·exact ⟨by simp,(hsh j7 sQ).1,(hsh j7 sQ).2,_,_,by simp,rfl⟩
     ·exact ⟨by simp,(hsh j8 sQ).1,(hsh j8 sQ).2,_,_,by simp,rfl⟩
     ·exact ⟨by simp,(hsh jx sQ).1,(hsh jx sQ).2,_,_,by simp [knownC],rfl⟩
     ·exact ⟨by simp,(hsh jb sQ).1,(hsh jb sQ).2,_,_,by simp [zx],rfl⟩
     ·exact ⟨by simp,(hsh jl sQ).1,(hsh jl sQ).2,_,_,zgO hne,rfl⟩
    ·refine zmq (K:=(j9,.cells [intA (q:Int)] 3 false)::[(j7,.cells [.v (.chan (some cg))] 226 false),(j8,.cells [.v (.chan (some cn))] 227 false),(jx,.cells (knownC b s e (.sl jl 0 (zb b).length) jm) 219 false),(jb,.cells (zx b s e) 27 false),(jl,listO (zb b))]) Cal.h Tryz.func113 Z hv ?_ hg hr hrel fun Y2 k1 k2 k3 k4=>zjX hb hql rfl Y2 k1 k2 k3 k4;simp only [keys,List.map_cons,List.map_nil,List.nodup_cons,lI,List.not_mem_nil,or_false,not_or] at hnd ⊢;obtain ⟨⟨a1,a2,a3,a4,a5,_⟩,⟨b1,b2,b3,b4,_⟩,⟨c1,c2,c3,_⟩,⟨d1,d2,_⟩,⟨g1,_⟩,_⟩:=hnd;exact ⟨⟨a1,a2,a3,a4,a5⟩,⟨b1,b2,b3,b4⟩,⟨c1,c2,c3⟩,⟨d1,d2⟩,g1,not_false,List.nodup_nil⟩
   simp only [decide_eq_false_iff_not] at hc1;obtain rfl:q=b.steps.toNat:=by omega
   refine au 542160 ?_;refine TK.virt 10 229 2 Z fun ja0 hja0=>?_;refine au 130316906704223 ?_;refine bA [1,6,7,8,10,31,32] ?_;refine TK.loopR (fun n R env K=>∃ (rec:List Nat) (ja:Nat),n=b.steps.toNat - rec.length/\rec.Nodup/\(∀ q,R q=true↔q∈rec)/\(∀ q∈rec,q<b.steps.toNat)/\env=zK 59 [(1,.ptr jb 0),(6,.ptr jx 0),(7,.ptr j7 0),(8,.ptr j8 0),(10,.row ja (arcsOf b rec).length),(31,intA b.steps),(32,intA rec.length)]/\K=(ja,.row ((arcsOf b rec).flatMap arcC) 229 2)::(j7,.cells [.v (.chan (some cg))] 226 false)::(j8,.cells [.v (.chan (some cn))] 227 false)::(jx,.cells (knownC b s e (.sl jl 0 (zb b).length) jm) 219 false)::(jb,.cells (zx b s e) 27 false)::(jl,listO (zb b))::(0,zr)::(1,zz)::(s,zo b)::(e,zp b)::[]) b.steps.toNat ⟨[],ja0,rfl,List.nodup_nil,by simp,by simp,rfl,rfl⟩ fun n R env K hI' hnext=>?_;obtain ⟨rec,ja,rfl,hrn,hRr,hrl,rfl,rfl⟩:=hI';have hal:=zg9 b rec;refine au 923742 ?_;constructor<;>intro hc2
   ·simp only [decide_eq_true_eq] at hc2;have hrlt:rec.length<b.steps.toNat:=by omega
    have hst16b:=hb.steps;refine au 423690436904221302120 ?_;refine TK.recv Z Z Z Z Z InfO.h Z InfO.h Z (by obtain ⟨q,h1,h2⟩:=zk2 hrn hrlt; exact ⟨q,h1,by rw [Bool.eq_false_iff]; exact fun h=>h2 ((hRr q).1 h)⟩) fun q hq hRq=>?_;have hqr:q∉rec:=fun h=>by rw [(hRr q).2 h] at hRq; cases hRq
    have hrn2:(rec++[q]).Nodup:=List.nodup_append.2 ⟨hrn,by simp,fun x hx y hy=>by rw [lS.1 hy]; exact fun h=>hqr (h ▸ hx)⟩;have hR2:∀ x,Go.ConcN.upd R q true x=true↔x∈rec++[q]:=fun x=>by
     by_cases hx:x=q
     ·subst hx; simp [Go.ConcN.upd]
     ·simp [Go.ConcN.upd,hx,hRr]
    have hrl2:∀ x∈rec++[q],x<b.steps.toNat:=fun x hx=>by
     rcases lT.1 hx with hx | hx
     ·exact hrl x hx
     ·rw [lS.1 hx]; exact hq
    rcases hak:arcK b q with _ | wq;rotate_left
    ·have hma:=zmR (cg:=cg) (cn:=cn) hak;rw [hma.1,if_pos rfl];refine au 91303776 ?_;constructor<;>intro hc3
     ·
      refine au 220642 ?_;intro j11 hj11;refine au 680143170 ?_;refine bI Z Z Z (zD (l:=[_,_]) Z zT.h TyZ.h dQ dQ Z) (fun _=>zt rfl tQ) fun j4 hj4=>?_;refine bO Z Z Z (a_app Z ApOf.h Z mQ (yx arcC 2 (fun _=>rfl) _) rfl (yG (ln:=[_,_]) mQ dQ sQ rfl) oQ rfl (by unfold maxLen; omega) oQ) (fun _=>uQ) (fun _=>zt rfl tQ) fun ja2=>?_;refine au 31230414014035 ?_;refine bA [1,6,7,8,10,31,32] ?_;refine bC (((ja2,_)::(j7,_)::(j8,_)::(jx,_)::(jb,_)::(jl,_)::(0,_)::(1,_)::(s,_)::(e,_)::[])) ?_;exact hnext _ _ _ _ (by rw [lF]; simp; omega) ⟨rec++[q],ja2,rfl,hrn2,hR2,hrl2,by rw [zeO hma.2,lF,lF]; rfl,by rw [zeO hma.2,List.flatMap_append]; rfl⟩
     exact absurd hc3 dQ
    ·have hma:=zmQ (cg:=cg) (cn:=cn) hak;rw [hma.1,if_neg (fun h=>hcc h.symm)];refine au 91303776 ?_;constructor<;>intro hc3
     ·exact absurd hc3 dQ
     refine au 9 ?_;constructor<;>intro hc4
     ·
      refine au 312304140140120 ?_;refine bA [1,6,7,8,10,31,32] ?_;refine bC (((ja,_)::(j7,_)::(j8,_)::(jx,_)::(jb,_)::(jl,_)::(0,_)::(1,_)::(s,_)::(e,_)::[])) ?_;exact hnext _ _ _ _ (by rw [lF]; simp; omega) ⟨rec++[q],ja,rfl,hrn2,hR2,hrl2,by rw [zeN hma.2,lF]; rfl,by rw [zeN hma.2]⟩
     exact absurd hc4 dQ
   simp only [decide_eq_false_iff_not] at hc2;have hrle:rec.length<=b.steps.toNat:=by have:=uo (l2:=List.range b.steps.toNat) hrn (fun x hx=>List.mem_range.2 (hrl x hx)); rwa [List.length_range] at this
   have hrall:=zl7 hrn hrl oQ;refine TK.stopM (fun q hq=>(hRr q).2 (hrall q hq)) (by intro x hx; repeat (first | (cases hx; done) | (rcases lI.1 hx with rfl | hx; · trivial))) hcs hag hn0 ?_;have hsame:=zge (b:=b) (rec:=rec) (N:=b.steps.toNat) fun q=>⟨hrl q,hrall q⟩;have hst16c:=hb.steps;refine au 9372801422160 ?_;constructor<;>intro hc5
   ·have hnone:arcsOf b (List.range b.steps.toNat)=[]:=List.eq_nil_iff_forall_not_mem.2 fun y hy=>by
     have h0:arcsOf b rec=[]:=lK (by have h:((arcsOf b rec).length:Int)=0:=(by simpa using hc5); omega);have:=(hsame y).2 hy;rw [h0] at this;cases this
    refine au 3555542 ?_;refine bB hret [(0,_),(1,_),(s,_),(e,_)] ?_;exact ⟨by unfold narrowApi; rw [if_neg (show ¬ (askM b true≠0) by rw [hb0]; decide),if_pos hnone]; rfl,rfl⟩
   obtain ⟨p,ps,hps⟩:∃ p ps,arcsOf b rec=p::ps:=by
    cases h:arcsOf b rec with
    | nil=>rw [h] at hc5; exact absurd hc5 dQ
    | cons p ps=>exact ⟨p,ps,rfl⟩
   obtain ⟨p2,ps2,hps2⟩:∃ p ps,arcsOf b (List.range b.steps.toNat)=p::ps:=by
    cases h:arcsOf b (List.range b.steps.toNat) with
    | nil =>
     have:=(hsame p).1 (by rw [hps]; simp);rw [h] at this; cases this
    | cons p ps=>exact ⟨p,ps,rfl⟩
   have hsome:arcsOf b (List.range b.steps.toNat)≠[]:=by rw [hps2]; simp
   have hres:zQ ltArc p ps=narrowM b:=by
    unfold narrowM;rw [hps2];show zQ ltArc p ps=zQ ltArc p2 ps2;exact zgj fun y=>by rw [<- hps,<- hps2]; exact hsame y
   rw [hps] at hal ⊢;refine au 2120 ?_;refine bL [0,1,2,3,4,5,6,7] ?_;refine ad [[1,10]] ?_;refine TD.y [49] Z (hq:=vM Z Z Z zT.h (mC _) (by first | omega | (simp only [lZ]; omega)) (by first | omega | (simp only [lZ]; omega))) (h:=?_);refine TD.y [50] Z (hq:=zN Z Z zd.h (mC _) (zbO (k:=0) sQ)) (h:=?_);refine ad [[1,10]] ?_;refine TD.y [52] Z (hq:=zag Z Z zT.h (mC _) Z Z (by first | omega | (simp only [lZ]; omega)) (by first | omega | (simp only [lZ]; omega)) Z) (h:=?_);refine TD.c2 (i1:=5) (i2:=6) (pend1:=[⟨3,[10],[]⟩,⟨1,[49],[(_,_)]⟩,⟨0,[10],[]⟩]) (pend2:=[⟨4,[52],[(_,_)]⟩,⟨3,[10],[]⟩,⟨2,[50],[(_,_)]⟩,⟨1,[49],[(_,_)]⟩,⟨0,[10],[]⟩]) (L1:=[6,7]) (L2:=[5,7]) [51,53] [] Z Z Z Z Z Z Z ?_ ?_
   ·refine zdT Z Z Cal.h Z (zbu hT (o:=p) (xs:=ps) (lt:=ltArc) (fv:=.fn 115 [] []) (jo:=ja) (off:=2) (obo:=.row ((p::ps).flatMap arcC) 229 2) (K:=[(ja,.row ((p::ps).flatMap arcC) 229 2)]) (by simp at hal; omega) sQ (fun k hk=>by rw [show 2+((k:Int)).toNat*2=(k+1)*2 by rw [mZ]; omega]; exact zbO (xs:=p::ps) (k:=k+1) (by simpa using hk)) (fun x hx y hy=>CallFK.frame (.none _) (yC Cal.h (zcB hT)))) (by repeat (first | exact Split.none _ | exact Split.all _ | (apply Split.rem; repeat (first | exact Rem.head | apply Rem.tail)) | apply Split.right)) fun r5 K6 h7=>⟨?_,?_⟩
    ·rcases h7 with ⟨rfl,rfl⟩
     all_goals simp
    obtain ⟨rfl,rfl⟩:=h7;try simp only [cA]
    refine bS (env':=[_,_,_,_,_,_,_,_,_,_,_,_,_,_,_,_,_,_,_,_,_,_,_,_,_,_,_,_,_,_,_,_,_,_,_,_,_,_,_,_,_,_,_,_,_,_,_,_,_,_,_,_,_,_,_,_,_,_,_]) Z ?_;refine bX (pend':=[⟨3,[10],[]⟩,⟨1,[49],[(_,_)]⟩,⟨0,[10],[]⟩]) [] Z Z Z Z Z (zY Z TyZA.h) (fun _=>zt rfl tQ) sQ fun j12 hj12=>?_;refine bR (pend':=[]) [12,54] Z Z (zy Z Z zd.h Z Z mQ Z) ?_;refine ad [[14]] ?_;refine au 2 ?_;refine bL [0,1,4,2,3,5,6,7] ?_;refine ad [[3,12],[10,55],[3,12],[10,57]] ?_;refine TD.as (pend':=[⟨3,[57],[(_,_)]⟩,⟨2,[12],[]⟩]) [56] Z Z (zV Z Z) ?_;refine ad [[13,58],[13],[13],[14]] ?_;refine au 0 ?_;refine bB hret [(0,_),(1,_),(s,_),(e,_)] ?_;exact ⟨by unfold narrowApi; rw [if_neg (show ¬ (askM b true≠0) by rw [hb0]; decide),if_neg hsome,<- hres]; rfl,rfl⟩
   ·refine yw Z (zY Z TyZA.h) (fun _=>zt rfl tQ) sQ fun j12 hj12=>?_;refine TD.cl (pend':=[⟨3,[10],[]⟩,⟨1,[49],[(_,_)]⟩,⟨0,[10],[]⟩]) [51,53] Z Z Z Z Z (zbu hT (o:=p) (xs:=ps) (lt:=ltArc) (fv:=.fn 115 [] []) (jo:=ja) (off:=2) (obo:=.row ((p::ps).flatMap arcC) 229 2) (K:=[(ja,.row ((p::ps).flatMap arcC) 229 2)]) (by simp at hal; omega) sQ (fun k hk=>by rw [show 2+((k:Int)).toNat*2=(k+1)*2 by rw [mZ]; omega]; exact zbO (xs:=p::ps) (k:=k+1) (by simpa using hk)) (fun x hx y hy=>CallFK.frame (.none _) (yC Cal.h (zcB hT)))) (fun r8 K9 h10=>⟨?_,?_⟩)
    ·rcases h10 with ⟨rfl,rfl⟩
     all_goals simp
    obtain ⟨rfl,rfl⟩:=h10;try simp only [cA]
    refine bS tQ ?_;refine bR (pend':=[]) [12,54] Z Z (zy Z Z zd.h Z Z mQ Z) ?_;refine ad [[14]] ?_;refine au 2 ?_;refine bL [0,1,4,2,3,5,6,7] ?_;refine ad [[3,12],[10,55],[3,12],[10,57]] ?_;refine TD.as (pend':=[⟨3,[57],[(_,_)]⟩,⟨2,[12],[]⟩]) [56] Z Z (zV Z Z) ?_;refine ad [[13,58],[13],[13],[14]] ?_;refine au 0 ?_;refine bB hret [(0,_),(1,_),(s,_),(e,_)] ?_;exact ⟨by unfold narrowApi; rw [if_neg (show ¬ (askM b true≠0) by rw [hb0]; decide),if_neg hsome,<- hres]; rfl,rfl⟩
end Go.Vel
namespace Go.Proofs
open Go.Shelf
def Tryz.lays189_ren:Go.Shelf.Ren:=⟨fun | 189=>104 | 125=>178 | 257=>177 | 128=>214 | 129=>215 | 294=>205 | 295=>206 | 296=>207 | 297=>208 | 298=>209 | 299=>210 | 216=>211 | 300=>212 | 301=>213 | 328=>230 | 329=>231 | 330=>232 | 331=>233 | 332=>234 | 215=>216 | 343=>243 | n=>n,fun | 28=>61 | 3=>3 | 46=>173 | 0=>0 | 51=>352 | 53=>354 | 4=>4 | 183=>345 | 182=>344 | 131=>52 | 5=>5 | 9=>9 | 218=>368 | 222=>372 | 228=>385 | 229=>243 | n=>n,fun n=>n⟩
theorem Tryz.lays189:Lays.n189 tp Tryz.lays189_ren where
 mixed:=by kernel_rfl
 f125:=Tryz.func178.trans (congrArg some (by kernel_rfl))
 f128:=Tryz.func214.trans (congrArg some (by kernel_rfl))
 f129:=Tryz.func215.trans (congrArg some (by kernel_rfl))
 f189:=Tryz.func104.trans (congrArg some (by kernel_rfl))
 f215:=Tryz.func216.trans (congrArg some (by kernel_rfl))
 f216:=Tryz.func211.trans (congrArg some (by kernel_rfl))
 f257:=Tryz.func177.trans (congrArg some (by kernel_rfl))
 f294:=Tryz.func205.trans (congrArg some (by kernel_rfl))
 f295:=Tryz.func206.trans (congrArg some (by kernel_rfl))
 f296:=Tryz.func207.trans (congrArg some (by kernel_rfl))
 f297:=Tryz.func208.trans (congrArg some (by kernel_rfl))
 f298:=Tryz.func209.trans (congrArg some (by kernel_rfl))
 f299:=Tryz.func210.trans (congrArg some (by kernel_rfl))
 f300:=Tryz.func212.trans (congrArg some (by kernel_rfl))
 f301:=Tryz.func213.trans (congrArg some (by kernel_rfl))
 f328:=Tryz.func230.trans (congrArg some (by kernel_rfl))
 f329:=Tryz.func231.trans (congrArg some (by kernel_rfl))
 f330:=Tryz.func232.trans (congrArg some (by kernel_rfl))
 f331:=Tryz.func233.trans (congrArg some (by kernel_rfl))
 f332:=Tryz.func234.trans (congrArg some (by kernel_rfl))
 f343:=Tryz.func243.trans (congrArg some (by kernel_rfl))
 t0:=Tryz.underlying0
 a0:=Tryz.isAgg0
 z0:=Tryz.sizeOf0
 v0:=Tryz.zeroValue0
 t3:=Tryz.underlying3
 a3:=Tryz.isAgg3
 z3:=Tryz.sizeOf3
 v3:=Tryz.zeroValue3
 t4:=Tryz.underlying4
 a4:=Tryz.isAgg4
 z4:=Tryz.sizeOf4
 v4:=Tryz.zeroValue4
 t5:=Tryz.underlying5
 a5:=Tryz.isAgg5
 z5:=Tryz.sizeOf5
 v5:=Tryz.zeroValue5
 t9:=Tryz.underlying9
 a9:=Tryz.isAgg9
 z9:=Tryz.sizeOf9
 v9:=Tryz.zeroValue9
 t28:=Tryz.underlying61
 a28:=Tryz.isAgg61
 z28:=Tryz.sizeOf61
 v28:=Tryz.zeroValue61
 t46:=Tryz.underlying173
 a46:=Tryz.isAgg173
 z46:=Tryz.sizeOf173
 v46:=Tryz.zeroValue173
 t51:=Tryz.underlying352
 a51:=Tryz.isAgg352
 z51:=Tryz.sizeOf352
 v51:=Tryz.zeroValue352
 t53:=Tryz.underlying354
 a53:=Tryz.isAgg354
 z53:=Tryz.sizeOf354
 v53:=Tryz.zeroValue354
 t131:=Tryz.underlying52
 a131:=Tryz.isAgg52
 z131:=Tryz.sizeOf52
 v131:=Tryz.zeroValue52
 t182:=Tryz.underlying344
 a182:=Tryz.isAgg344
 z182:=Tryz.sizeOf344
 v182:=Tryz.zeroValue344
 t183:=Tryz.underlying345
 a183:=Tryz.isAgg345
 z183:=Tryz.sizeOf345
 v183:=Tryz.zeroValue345
 t218:=Tryz.underlying368
 a218:=Tryz.isAgg368
 z218:=Tryz.sizeOf368
 v218:=Tryz.zeroValue368
 t222:=Tryz.underlying372
 a222:=Tryz.isAgg372
 z222:=Tryz.sizeOf372
 v222:=Tryz.zeroValue372
 t228:=Tryz.underlying385
 a228:=Tryz.isAgg385
 z228:=Tryz.sizeOf385
 v228:=Tryz.zeroValue385
 t229:=Tryz.underlying243
 a229:=Tryz.isAgg243
 z229:=Tryz.sizeOf243
 v229:=Tryz.zeroValue243
def Tryz.lays20_ren:Go.Shelf.Ren:=⟨fun | 20=>105 | n=>n,fun | 22=>61 | 3=>3 | 4=>4 | 0=>0 | n=>n,fun n=>n⟩
theorem Tryz.lays20:Lays2.n20 tp Tryz.lays20_ren where
 mixed:=by kernel_rfl
 f20:=Tryz.func105.trans (congrArg some (by kernel_rfl))
 t0:=Tryz.underlying0
 a0:=Tryz.isAgg0
 z0:=Tryz.sizeOf0
 v0:=Tryz.zeroValue0
 t3:=Tryz.underlying3
 a3:=Tryz.isAgg3
 z3:=Tryz.sizeOf3
 v3:=Tryz.zeroValue3
 t4:=Tryz.underlying4
 a4:=Tryz.isAgg4
 z4:=Tryz.sizeOf4
 v4:=Tryz.zeroValue4
 t22:=Tryz.underlying61
 a22:=Tryz.isAgg61
 z22:=Tryz.sizeOf61
 v22:=Tryz.zeroValue61
 i3:=by kernel_rfl
end Go.Proofs
namespace Go.Vel
open Go Go.Conc Go.Proofs
theorem ziK {xs:List Int} {cur:Array Value} {φ:Nat->Loc3} {n:Nat} (h:∀ (j:Nat) a,(xs.map intA)[j]? =some a->∃ y,cur[j]? =some y/\RelV φ n a y) {j:Nat} (hj:j<xs.length):cur[j]? =some (.int .i64 xs[j]):=by
 obtain ⟨y,h1,h2⟩:=h j (intA xs[j]) (by rw [lQ,lA hj]; rfl);cases h2;exact h1
theorem zhD {xs:List Int} {cur:Array Value} {φ:Nat->Loc3} {n:Nat} (h:∀ (j:Nat) a,(xs.map intA)[j]? =some a->∃ y,cur[j]? =some y/\RelV φ n a y):cur.toList.take xs.length=xs.map (Value.int .i64):=by
 apply List.ext_getElem?;intro j;by_cases hj:j<xs.length
 ·rw [List.getElem?_take_of_lt hj,mI,ziK h hj,lQ,lA hj]; rfl
 ·rw [List.getElem?_take_eq_none oQ,List.getElem?_eq_none (by simp; omega)]
theorem zl3 {xs:List Int} {cur:Array Value} (h:xs.length<=cur.size) {j:Nat} (hj:j<xs.length):(Go.Sort.putCells (Value.int .i64) 0 xs.toArray cur)[j]? =some (.int .i64 xs[j]):=by
 have:=Go.take_putCellsI cur xs h;have h2:((Go.Sort.putCells (Value.int .i64) 0 xs.toArray cur).toList.take xs.length)[j]? =some (.int .i64 xs[j]):=by rw [this,lQ,lA hj]; rfl
 rwa [List.getElem?_take_of_lt hj,mI] at h2
theorem zfI {d:Array Int} {cur:Array Value}:(Go.Sort.putCells (Value.int .i64) 0 d cur).size=cur.size:=by simp [Go.Sort.putCells]
theorem zkn {H:Hp} {w w':World} {g:Nat} {o:Obj} (hf:zZ H w) (hg:w'.heap[g]? =some o) (hk:∀ k,k<w.heap.size->k≠g->w'.heap[k]? =w.heap[k]?):zZ (H.put g (true,o)) w':=by
 intro b rw' x hb;by_cases he:b=g
 ·subst he; rw [Hp.put_same] at hb; cases hb; exact hg
 ·rw [Hp.put_other H _ he] at hb;rw [hk b (hf.lt hb) he];exact hf b _ _ hb
section
variable {Ψ:Goroutine->World->Prop} {gm:Nat->Option Nat}
theorem zdN (tame:Tame tp) {g:FuncId} {j m:Nat} {xs zs:List Int} {r:AV} {rv:Option Addr->Nat->Value} (hz:zs.length=xs.length) (hm:m<=xs.length)
  (hc:∀ (b cap:Nat) (w:World),Go.Sort.Holds (Value.int .i64) w b 0 xs.toArray->b<w.heap.size->xs.length<=cap->cap<=maxLen->Calls tp g #[.slice (some ⟨b,0,none⟩) xs.length cap] w fun e w'=>e=.returned (rv (some ⟨b,0,none⟩) cap)/\∃ n os,w'=Go.Sort.grow (Go.Sort.putRow (Value.int .i64) (Go.Sort.ahead w n) b 0 zs.toArray) os)
  (h0:xs=[]->∀ (p:Option Addr) (cap:Nat) (w:World),Calls tp g #[.slice p 0 cap] w fun e w'=>e=.returned (rv p cap)/\w'=w)
  (hr:∀ (φ:Nat->Loc3) (n cap:Nat) (p:Option Addr),j<n->xs.length<=(φ j).cap->rowV (φ j) xs.length (.slice p xs.length cap)->RelV φ n r (rv p cap)) :
  zh tp (BT tp Ψ) gm g [.row j xs.length] [(j,.row (xs.map intA) 3 1)] (fun r' K'=>r'=r/\K'=[(j,.row ((zs.take m).map intA) 3 1)]):=by
 intro A hv hn φ F H vs c cs h1 h2 h3 k;have hj:=hv.get (.head _);obtain ⟨y,rfl⟩:∃ y,vs=#[y]:=by
  have hs:vs.size=1:=h3.1.symm;exact ⟨vs[0],by apply Array.ext (by simpa using hs); intro i h1 h2; simp at h2; subst h2; rfl⟩
 have hy:=h3.2 0 _ _ rfl rfl;obtain ⟨hO0,hO1,hO2⟩:=h2.obj j _ hj;cases hy with
 | row hi hle hrow =>
 have hup:Upd [(j,AObj.row (xs.map intA) 3 1)] j (.row (xs.map intA) 3 1) j (.row ((zs.take m).map intA) 3 1) [(j,.row ((zs.take m).map intA) 3 1)]:=.head;by_cases hx:xs=[]
 ·obtain ⟨p,cap,rfl⟩:∃ p cap,y=.slice p xs.length cap:=by
   unfold rowV at hrow;split at hrow
   ·obtain ⟨p,rfl⟩:=hrow; exact ⟨p,0,by rw [hx]; rfl⟩
   ·exact ⟨_,_,hrow⟩
  have hzz:zs.take m=xs:=by rw [hx] at hz hm ⊢; rw [lK hz]; simp
  refine zbn tame (Post:=fun v H'=>v=rv p cap/\H'=H) (fun w hf=>?_) Ψ c cs fun v H' hp=>?_
  ·have:=h0 hx p cap w;rw [show xs.length=0 by rw [hx]; rfl];exact this.mono fun e w' ⟨a,b⟩=>⟨_,a,by rw [b]; exact ⟨rfl,rfl⟩,H,by rw [b]; exact hf,rfl,rfl⟩
  ·obtain ⟨rfl,rfl⟩:=hp;refine k r A φ H' _ ⟨_,?_,rfl,rfl⟩ (Agr.refl _ _) (mL _) h2 (hr φ _ cap p hi hle hrow);rw [hzz];exact Kstep.same hv hn
 ·have hcap:0<(φ j).cap:=by
   rcases mP (φ j).cap with h | h
   ·exact absurd (hO0 h) (by simpa using hx)
   ·exact h
  obtain ⟨cur,q1,q2,q3,q4,q5⟩:=hO2 hcap;have hrow':=hrow;unfold rowV at hrow;rw [if_neg oQ] at hrow;subst hrow;rw [lJ] at q4;have hput:zs.length<=cur.size:=by omega
  refine zbn tame (Post:=fun v H'=>v=rv (some ⟨(φ j).blk,0,none⟩) (φ j).cap/\H'=H.put (φ j).blk (true,.cells (Go.Sort.putCells (Value.int .i64) 0 zs.toArray cur) 3 (0,0))) (fun w hf=>?_) Ψ c cs fun v H' hp=>?_
  ·have hb:=hf _ _ _ q1;refine (hc (φ j).blk (φ j).cap w (Go.holds_of_blockI hb (zhD q5)) (Array.getElem?_eq_some_iff.1 hb).1 hle q3).mono fun e w' ⟨a,n,os,b⟩=>⟨_,a,by rw [b]; exact ⟨rfl,rfl⟩,_,?_,rfl,rfl⟩;subst b;obtain ⟨_,_,_,_,hg⟩:=Go.grownBy_sortedI (w:=w) (g:=(φ j).blk) (n:=n) (os:=os) zs.toArray;exact zkn hf (Go.heap_sortedI zs.toArray hb) fun k' h1 h2=>hg k' h1 (fun e=>h2 (by cases e; rfl))
  ·obtain ⟨rfl,rfl⟩:=hp;refine k r (A.set j (.row ((zs.take m).map intA) 3 1)) φ _ _ ⟨_,Kstep.set hv hn hup,rfl,rfl⟩ (Agr.refl _ _) sQ (h2.set hj Z hcap ?_) (by simpa using hr φ A.length _ _ hi hle hrow');refine ⟨fun h=>by omega,hO1,fun _=>⟨_,Hp.put_same _ _ _,by rw [zfI]; exact q2,q3,by rw [lJ,List.length_take,zfI]; omega,fun i a ha=>?_⟩⟩;rw [lQ,mY] at ha;obtain ⟨z,hz1,rfl⟩:=ha;rw [List.getElem?_take] at hz1;split at hz1
   ·obtain ⟨hz2,rfl⟩:=lD.1 hz1;exact ⟨_,zl3 hput hz2,.v _⟩
   ·cases hz1
theorem zgh (xs:List Int):(Lib.compact xs).length<=xs.length:=by
 unfold Lib.compact Lib.compactUpTo;rw [lJ];exact mT (List.length_filter_le _ _) sQ
def sortI (xs:List Int):List Int:=xs.mergeSort fun x y=>decide (x<=y)
theorem zaY (xs:List Int):(sortI xs).length=xs.length:=List.length_mergeSort _
theorem zml (tame:Tame tp) {j:Nat} {xs:List Int} (hlen:xs.length<=100000):zh tp (BT tp Ψ) gm 104 [.row j xs.length] [(j,.row (xs.map intA) 3 1)] (fun r K'=>r=.tup []/\K'=[(j,.row ((sortI xs).map intA) 3 1)]):=by
 have h:=zdN (gm:=gm) (Ψ:=Ψ) tame (g:=104) (j:=j) (m:=xs.length) (xs:=xs) (zs:=sortI xs) (r:=.tup []) (rv:=fun _ _=>.tuple #[]) (zaY xs) (mL _)
  (fun b cap w hH hb h1 h2=>Any.slices_Sort_int Tryz.lays189 b 0 cap xs w hH hb oQ)
  (fun _ p cap w=>Any.slices_Sort_int_none Tryz.lays189 p cap w)
  (fun φ n cap p _ _ _=>.tup rfl (fun j a y ha=>by simp at ha))
 rw [show (sortI xs).take xs.length=sortI xs by rw [<- zaY xs]; exact lW] at h;exact h
theorem zhj (tame:Tame tp) {j:Nat} {xs:List Int}:zh tp (BT tp Ψ) gm 105 [.row j xs.length] [(j,.row (xs.map intA) 3 1)] (fun r K'=>r=.row j (Lib.compact xs).length/\K'=[(j,.row ((Lib.compact xs).map intA) 3 1)]):=by
 have hl:=zgh xs;have h:=zdN (gm:=gm) (Ψ:=Ψ) tame (g:=105) (j:=j) (m:=(Lib.compact xs).length) (xs:=xs) (zs:=Lib.compact xs++mB (xs.length - (Lib.compact xs).length) 0) (r:=.row j (Lib.compact xs).length) (rv:=fun p cap=>.slice p (Lib.compact xs).length cap) (by simp; omega) hl
  (fun b cap w hH hb h1 h2=>(Any.slices_Compact_int Tryz.lays20 b 0 cap xs w hH (by unfold maxLen at h2; omega) h1).mono fun e w' ⟨a,q,b⟩=>⟨a,q,#[],by rw [b,Go.Sort.grow_empty]⟩)
  (fun hx p cap w=>(Any.slices_Compact_int_empty Tryz.lays20 p cap w).mono fun e w' ⟨a,b⟩=>⟨by rw [a,show (Lib.compact xs).length=0 by subst hx; simpa using hl],b⟩)
  (fun φ n cap p hn hle hrow=>by
   refine .row hn oQ ?_;unfold rowV at hrow ⊢;split at hrow
   ·rename_i h;obtain ⟨q,hq⟩:=hrow;rw [if_pos h]
    injection hq with h1 h2 h3
    exact ⟨q,by rw [h1,h3,show (Lib.compact xs).length=0 by omega]⟩
   ·rename_i h;rw [if_neg h]
    injection hrow with h1 h2 h3
    rw [h1,h3])
 rw [List.take_left' rfl] at h;exact h
end
def countsM (b:Bk):List Int:=Lib.compact (sortI ((zb b).map fun S=>(S.length:Int)))
theorem zaC (tame:Tame tp) {Ψ:Goroutine->World->Prop} {b:Bk} {s e:Nat} (hse:s≠e) (hn:∀ x∈b.seekers,x.name.size<=1000) (hl:b.seen.length<=1000):zh tp (BT tp Ψ) gmS 36 [.agg (zx b s e)] [(0,zr),(1,zz),(s,zo b),(e,zp b)] (fun r K'=>(askM b true≠0/\r=.tup [.v (.slice none 0 0),intA (askM b true)]/\K'=[(0,zr),(1,zz),(s,zo b),(e,zp b)])\/(askM b true=0/\∃ j,r=.tup [.row j (countsM b).length,intA 0]/\K'=[(0,zr),(1,zz),(s,zo b),(e,zp b),(j,.row ((countsM b).map intA) 3 1)])):=by
 have hT:=wM tame Ψ;refine ze 34 hT Tryz.func36 fun Y hret=>?_;refine au 21042 ?_;intro jb hjb;refine au 68042355 ?_;refine bD Z Z Z Z (vq hT (b:=b) (s:=s) (e:=e) (t:=true) hse hn hl Z (fun hb=>yC Cal.h (wz hT))) ?_;rintro r1 K2 h3;rcases h3 with ⟨hb0,rfl,rfl⟩ | ⟨jl,jm,om,hb0,hom,rfl,rfl⟩
 ·refine au 220661 ?_;intro jx hjx;refine au 937142235170 ?_;constructor<;>intro hc0
  ·
   refine au 355142 ?_;refine bB hret [(0,_),(1,_),(s,_),(e,_)] ?_;exact .inl ⟨hb0,rfl,rfl⟩
  exact absurd (by simpa using hc0) hb0
 ·refine au 220661 ?_;intro jx hjx;refine au 937142235170 ?_;constructor<;>intro hc0
  ·exact absurd hc0 dQ
  obtain ⟨hck,hth,hne⟩:=kM hb0;have hb:=yy hck;have hLo:=yM hb;have hLn:=yH hb;refine au 542120 ?_;refine TK.virt 6 3 1 Z fun j01 hj01=>?_;refine au 130312806906704223 ?_;refine bA [6,18,19,20] ?_;refine bC [(jx,_),(jm,_),(jl,_),(jb,_),(0,_),(1,_),(s,_),(e,_),(j01,_)] ?_;refine bE (fun n env K=>∃ (i j1:Nat),n=(zb b).length - i/\i<=(zb b).length/\env=zK 34 [(6,.row j1 (((zb b).take i).map fun S=>(S.length:Int)).length),(18,.sl jl 0 (zb b).length),(19,intA (zb b).length),(20,intA i)]/\K=[(jx,.cells (knownC b s e (.sl jl 0 (zb b).length) jm) 219 true),(jm,.raw om),(jl,listO (zb b)),(jb,.cells (zx b s e) 27 true),(0,zr),(1,zz),(s,zo b),(e,zp b),(j1,.row ((((zb b).take i).map fun S=>(S.length:Int)).map intA) 3 1)]) (zb b).length ⟨0,j01,rfl,mN _,rfl,rfl⟩ fun n env K hI' hnext=>?_;obtain ⟨i,j1,rfl,hi,rfl,rfl⟩:=hI';refine au 923742 ?_;constructor<;>intro hc1
  ·simp only [decide_eq_true_eq] at hc1;have hil:i<(zb b).length:=by omega
   have htl:(((zb b).take i).map fun S=>(S.length:Int)).length<=65536:=by rw [lJ,List.length_take]; omega
   refine au 360421302120 ?_;refine TK.a Z (zN Z Z zd.h mQ (zbc (zb b) i hil)) ?_;refine au 220 ?_;intro j9 hj9;refine au 690670143170 ?_;refine bI Z Z Z (zD (l:=[_]) Z zT.h TyZ.h dQ dQ Z) (fun _=>zt rfl tQ) fun j4 hj4=>?_;refine bO Z Z Z (a_app Z ApOf.h Z mQ (by simp <;> omega) Z (yG (ln:=[_]) mQ dQ sQ Z) oQ Z (by unfold maxLen; omega) oQ) (fun _=>uQ) (fun _=>zt rfl tQ) fun j3=>?_;refine au 31230414035 ?_;refine bA [6,18,19,20] ?_;refine bC [(jx,_),(jm,_),(jl,_),(jb,_),(0,_),(1,_),(s,_),(e,_),(j3,_)] ?_;have e1:((zb b).take (i+1)).map (fun S=>(S.length:Int))=((zb b).take i).map (fun S=>(S.length:Int))++[((zb b)[i].length:Int)]:=by rw [List.take_add_one,lA hil,lM]; rfl
   exact hnext _ _ _ oQ ⟨i+1,j3,rfl,oQ,by rw [e1,lF]; rfl,by rw [e1,lM]; rfl⟩
  simp only [decide_eq_false_iff_not] at hc1;obtain rfl:i=(zb b).length:=by omega
  rw [lW];refine au 142160 ?_;refine bD Z Z Z Z (zml tame (by rw [lJ]; omega)) ?_;rintro r5 K6 ⟨rfl,rfl⟩;refine au 0 ?_;rw [<- zaY ((zb b).map fun S=>(S.length:Int))];refine au 1423 ?_;refine bD Z Z Z Z (zhj tame) ?_;rintro r8 K9 ⟨rfl,rfl⟩;refine au 355 ?_;refine bB hret [(0,_),(1,_),(s,_),(e,_),(j1,_)] ?_;exact .inr ⟨hb0,j1,rfl,rfl⟩
end Go.Vel
namespace Go.Vel
open Go Go.Conc Go.Proofs
section
variable {P:Program} {gm:Nat->Option Nat} {T:Goroutine->Hp->Prop} {Y:KX P gm T} {ds:List Nat} {k:List Item} {env env':List AV} {K:KV}
theorem TK.nilRow {t e:TypeId} {x:Option Addr} {s j:Nat} {K':Nat->KV} (hu:∀ j',Upd K j (.row [.v (.slice x 0 0)] t s) j (.row [.sl j' 0 0] t s) (K' j')) (h:∀ j',j'∉keys K->TK Y ds k env ((j',.cells [] e false)::K' j')):TK Y ds k env K:=fun A hA φ H ts h1 h2 h3 h4 h5 h6=>by
 have hk:A.length∉keys K:=fun hm=>absurd (hA.view.lt hm) (Nat.lt_irrefl _);have hH:=h5.virtO (o:=.cells [] e false) (fun φ n hl=>absurd rfl hl) (fun hl=>hl rfl);have hag:=yr φ A.length ⟨0,0,0⟩;have hlen:(A++[AObj.cells [] e false]).length=A.length+1:=by simp
 have hds:dsC (upd3 φ A.length ⟨0,0,0⟩) ds=dsC φ ds:=by
  unfold dsC;exact List.map_congr_left fun d hd'=>by rw [hag d (h4 d hd')]
 have hj:=hA.view.get (hu A.length).mem;have hjl:j<A.length:=(lD.1 hj).1;have hj2:(A++[AObj.cells [] e false])[j]? =some (.row [.v (.slice x 0 0)] t s):=by rw [lG hjl]; exact hj
 have hstep:=hA.step (.push hA.view hA.nd (.cells [] e false));have hstep2:=hstep.step (.set hstep.view hstep.nd (Upd.tail (hu A.length)));rw [<- hds];refine h _ hk _ hstep2 _ H ts (h1.trans hag h2) (by simp; omega) (by simpa using h3.mono hag oQ) (fun d hd=>by have:=h4 d hd; simp; omega) (hH.turn hj2 (fun ho=>?_) (fun h=>h) (fun _=>rfl) (fun hs=>hs)) (by simpa using h6.mono hag oQ);obtain ⟨q0,q1,q2⟩:=ho;refine ⟨fun hc=>absurd (q0 hc) sQ,q1,fun hc=>?_⟩;obtain ⟨cur,p1,p2,p3,p4,p5⟩:=q2 hc;refine ⟨cur,p1,p2,p3,by simpa using p4,fun t' a ha=>?_⟩;cases t' with
 | zero =>
  simp only [List.getElem?_cons_zero,Option.some.injEq] at ha;subst ha;obtain ⟨y,hy,hr⟩:=p5 0 _ rfl;refine ⟨y,hy,?_⟩;rw [inv_v hr];exact .sl sQ (mN _) fun hp=>absurd hp (Nat.lt_irrefl _)
 | succ t'=>simp at ha
end
def shortB (most:Int) (l:List Int):Bool:=decide ((l.length:Int)<most)
def moreM (most n:Int) (A:List (List Int)):List (List Int):=(A.filter (shortB most)).map (· ++ [n])
def setsM (most:Int):Nat->List (List Int)
 | 0=>[[]]
 | n+1=>setsM most n++moreM most n (setsM most n).reverse
theorem zd9 (most n:Int) (A B:List (List Int)):moreM most n (A++B)=moreM most n A++moreM most n B:=by simp [moreM]
theorem zlT {most n:Int} {l:List Int} (h:shortB most l=true):moreM most n [l]=[l++[n]]:=by simp [moreM,h]
theorem zlS {most n:Int} {l:List Int} (h:shortB most l=false):moreM most n [l]=[]:=by simp [moreM,h]
theorem zea (most n:Int) (A:List (List Int)):(moreM most n A).length<=A.length:=by
 unfold moreM; rw [lJ]; exact List.length_filter_le _ _
theorem zaU (most:Int):∀ n,(setsM most n).length<=2 ^ n
 | 0=>mL _
 | n+1=>by
  have h1:=zaU most n;have h2:=zea most n (setsM most n).reverse;rw [List.length_reverse] at h2;show (setsM most n++_).length<=_;rw [lF,Nat.pow_succ];omega
theorem zfH {n:Nat} (h:n<=16):2 ^ n<=65536:=mT (Nat.pow_le_pow_right dQ h) dQ
theorem uB {most:Int} (hm:0<=most):∀ n,∀ l∈setsM most n,(l.length:Int)<=most
 | 0,l,hl=>by rw [lS.1 hl]; simpa using hm
 | n+1,l,hl=>by
  rcases lT.1 hl with hl | hl
  ·exact uB hm n l hl
  ·obtain ⟨x,hx,rfl⟩:=lY.1 hl;have:=of_decide_eq_true (List.mem_filter.1 hx).2;simp; omega
theorem zc5 {α:Type} (A:List α) {q:Nat} (h:q<A.length):A.reverse.take (q+1)=A.reverse.take q++[A[A.length - 1 - q]]:=by
 rw [List.take_add_one,lA (by simpa using h),List.getElem_reverse]; rfl
theorem zdt {P:List (Nat×List Int)} {k:Nat} {n:Int} (hk:k<P.length) (h:n=(k:Int)) {e:TypeId} {sz:Nat}:z6 (.row (refsL P) e sz) (n.toNat*1) 1=some [.sl P[k].1 0 P[k].2.length]:=by
 subst h;rw [mZ,Nat.mul_one];exact zaT hk
theorem zkz (xs:List Int):(xs.map intA).all oneA=true:=by
 rw [List.all_map]; exact List.all_eq_true.2 fun _ _=>rfl
theorem zgn {P:List (Nat×List Int)} {A B:List (List Int)} (h:P.map (·.2)=A++B) {k:Nat} (hk:k<A.length) (hk2:k<P.length):P[k].2=A[k]:=by
 have h1:(P.map (·.2))[k]? =some P[k].2:=by simp [hk2]
 rw [h,lG hk,lA hk] at h1;exact (Option.some.inj h1).symm
theorem zmd {main T} (hT:zk tp main T) {gm} {below most:Int} (hb:0<=below/\below<=16) (hm:0<=most/\most<=16) :
  zh tp T gm 62 [intA below,intA most] [] (fun r K'=>∃ (j:Nat) (P:List (Nat×List Int)),r=.row j P.length/\P.map (·.2)=setsM most below.toNat/\K'=(j,.row (refsL P) 61 1)::objsL P):=by
 refine ze 41 hT Tryz.func62 fun Y hret=>?_;refine au 423542 ?_;refine bI Z Z Z (zD (l:=[_]) Z zT.h TyZ.h dQ dQ Z) (fun _=>zt rfl tQ) fun j0 hj0=>?_;refine au 5 ?_;refine TK.nilRow (e:=3) (fun _=>uQ) fun je hje=>?_;refine au 130354223 ?_;refine bA [0,1,5,6] ?_;refine bC [(j0,_),(je,_)] ?_;refine bE (fun n env K=>∃ (i j:Nat) (P:List (Nat×List Int)),n=below.toNat - i/\(i:Int)<=below/\P.map (·.2)=setsM most i/\env=zK 41 [(0,intA below),(1,intA most),(5,.row j P.length),(6,intA i)]/\K=(j,.row (refsL P) 61 1)::objsL P) below.toNat ⟨0,j0,[(je,[])],rfl,hb.1,rfl,rfl,rfl⟩ fun n env K hI hnext=>?_;obtain ⟨i,j,P,rfl,hi,hP,rfl,rfl⟩:=hI;have hPl:P.length<=65536:=by have:=zaU most i; rw [<- hP,lJ] at this; exact mT this (zfH oQ)
 refine au 93711422 ?_;constructor<;>intro hc0
 ·simp only [decide_eq_true_eq] at hc0;refine au 130352402801421302120 ?_;refine bA [0,1,5,6,7] ?_;refine bE (fun n env K=>∃ (q j2:Nat) (P2:List (Nat×List Int)),n=P.length - q/\q<=P.length/\P2.map (·.2)=setsM most i++moreM most i ((setsM most i).reverse.take q)/\env=zK 41 [(0,intA below),(1,intA most),(5,.row j2 P2.length),(6,intA i),(7,intA ((P.length:Int) - 1 - q))]/\K=(j2,.row (refsL P2) 61 1)::objsL P2) P.length ⟨0,j,P,rfl,mN _,by rw [hP,List.take_zero]; exact (lR _).symm,by rw [Int.natCast_zero,Int.sub_zero]; rfl,rfl⟩ fun n env K hI2 hnext2=>?_;obtain ⟨q,j2,P2,rfl,hq,hP2,rfl,rfl⟩:=hI2;have hsl:(setsM most i).length=P.length:=by rw [<- hP,lJ]
  have hPP:P.length<=P2.length:=by have:=congrArg List.length hP2; rw [lJ,lF,hsl] at this; omega
  have hPl2:P2.length<=131072:=by
   have h1:=congrArg List.length hP2;have h2:=zea most i ((setsM most i).reverse.take q);rw [List.length_take] at h2;rw [lJ,lF,hsl] at h1;omega
  refine au 9371422 ?_;constructor<;>intro hc1
  ·simp only [decide_eq_true_eq] at hc1;have hql:q<P.length:=by omega
   obtain ⟨k0,hk0⟩:∃ k0,k0=(setsM most i).length - 1 - q:=⟨_,rfl⟩;have hkl:k0<P2.length:=by omega
   have hkn:(P.length:Int) - 1 - q=(k0:Int):=by omega
   have hx2:P2[k0].2=(setsM most i)[(setsM most i).length - 1 - q]:=by rw [zgn hP2 oQ hkl]; congr 1
   have hmx:=wE (List.getElem_mem hkl);refine au 37011421302120 ?_;refine TK.a Z (zm Z Z zd.h mQ (zdt hkl hkn)) ?_;refine au 9371280 ?_;constructor<;>intro hc2
   ·simp only [decide_eq_true_eq] at hc2;refine au 14 ?_;refine bI Z Z Z (zD (l:=[]) Z zT.h TyZ.h dQ dQ Z) (fun _=>zt rfl tQ) fun j9 hj9=>?_;refine au 37011 ?_;refine TK.a Z (zm Z Z zd.h mQ (zdt hkl hkn)) ?_;refine TK.appG (ln:=P2[k0].2.map intA) Z Z Z ApOf.h Z mQ Z Z Z (fun hp=>ui mQ oQ (wc (n:=P2[k0].2.length) (size:=1) sQ oQ)) (fun h=>by simp [lK h]) (zkz _) (by unfold maxLen; omega) oQ (fun _=>uQ) (fun _=>zt rfl tQ) fun j6=>?_;simp only [List.nil_append,mO];refine au 1 ?_;refine bI Z Z Z (zD (l:=[_]) Z zT.h TyZ.h dQ dQ Z) (fun _=>zt rfl tQ) fun j1 hj1=>?_;refine bO Z Z Z (a_app Z ApOf.h Z mQ (by simp <;> omega) Z (yG (ln:=[_]) mQ dQ sQ Z) oQ Z (by unfold maxLen; omega) oQ) (fun _=>uQ) (fun _=>zt rfl tQ) fun j3=>?_;refine TK.freezeR 37 Z uQ Z ?_;refine au 0 ?_;refine bI Z Z Z (zD (l:=[_]) Z zT.h TyZ.h dQ dQ Z) (fun _=>zt rfl tQ) fun j2 hj2=>?_;refine bO Z Z Z (a_app Z ApOf.h Z mQ (by simp [refsL]) Z (yG (ln:=[_]) mQ dQ sQ Z) oQ Z (by unfold maxLen; omega) oQ) (fun _=>uQ) (fun _=>zt rfl tQ) fun j4=>?_;refine au 352401414035 ?_;refine bA [0,1,5,6,7] ?_;refine bC (((j4,_)::(j3,_)::objsL P2)) ?_;refine bN (K':=(j4,.row (refsL P2++[.sl j3 0 (P2[k0].2.length+1)]) 61 1)::(objsL P2++[(j3,.cells (P2[k0].2.map intA++[intA i]) 3 false)])) (List.Perm.cons _ (List.perm_append_singleton (j3,_) (objsL P2)).symm) ?_;exact hnext2 _ _ _ oQ ⟨q+1,j4,P2++[(j3,P2[k0].2++[(i:Int)])],rfl,oQ,by rw [zc5 _ oQ,zd9,lM,hP2,List.append_assoc,zlT (by rw [<- hx2]; exact decide_eq_true hc2),hx2]; rfl,by rw [lF,show ((P.length:Int) - 1 - (q+1:Nat))=(P.length:Int) - 1 - q - 1 by omega]; rfl,by simp [refsL,objsL]⟩
   simp only [decide_eq_false_iff_not] at hc2;refine au 3524014140120 ?_;refine bA [0,1,5,6,7] ?_;refine bC (((j2,_)::objsL P2)) ?_;exact hnext2 _ _ _ oQ ⟨q+1,j2,P2,rfl,oQ,by rw [zc5 _ oQ,zd9,hP2,zlS (by rw [<- hx2]; exact decide_eq_false hc2),lR],by rw [show ((P.length:Int) - 1 - (q+1:Nat))=(P.length:Int) - 1 - q - 1 by omega]; rfl,rfl⟩
  simp only [decide_eq_false_iff_not] at hc1;obtain rfl:q=P.length:=by omega
  have hP2:P2.map (·.2)=setsM most (i+1):=by rw [hP2,<- hsl,<- List.length_reverse,lW]; rfl
  refine au 3523014140160 ?_;refine bA [0,1,5,6] ?_;refine bC (((j2,_)::objsL P2)) ?_;exact hnext _ _ _ oQ ⟨i+1,j2,P2,rfl,oQ,hP2,rfl,rfl⟩
 simp only [decide_eq_false_iff_not] at hc0;obtain rfl:(i:Int)=below:=by omega
 rw [mZ] at *
 refine au 35142160 ?_;refine bB hret (((j,_)::objsL P)) ?_;exact ⟨_,_,rfl,hP,rfl⟩
section
variable {P:Program} {gm:Nat->Option Nat} {T:Goroutine->Hp->Prop}
theorem Kstep.permR {K K' K2:KV} {A A':List AObj} (h:Kstep K A K' A') (hp:K'.Perm K2):Kstep K A K2 A' :=
 ⟨h.view.sub fun x hx=>hp.symm.subset hx,(zO hp).nodup_iff.1 h.nd,fun i hi=>h.own i ((zO hp).symm.subset hi),h.kept,h.len⟩
theorem Kstep.permL {K K' K2:KV} {A A':List AObj} (h:Kstep K A K' A') (hp:K.Perm K2):Kstep K2 A K' A' :=
 ⟨h.view,h.nd,fun i hi=>(h.own i hi).imp (fun h=>(zO hp).subset h) id,fun j hj hn=>h.kept j hj fun hm=>hn ((zO hp).subset hm),h.len⟩
theorem zh.frameP {g:FuncId} {args:List AV} {K Kb R:KV} {Q:AV->Prop} (h:zh P T gm g args K (fun r K'=>Q r/\K'=K)) (hp:Kb.Perm (K++R)):zh P T gm g args Kb (fun r K'=>Q r/\K'=Kb):=by
 intro A hv hn;have hv2:zP (K++R) A:=hv.sub fun x hx=>hp.symm.subset hx;have hn2:=(zO hp).nodup_iff.1 hn;have hn3:=hn2;rw [yp] at hn3;refine (h A (hv2.sub fun x hx=>List.mem_append_left _ hx) (List.nodup_append.1 hn3).1).mono ?_;rintro r A' ⟨K',hk,hq,rfl⟩;refine ⟨Kb,?_,hq,rfl⟩;have hs:Split (K'++R) K' R:=by
  have key:∀ (K:KV),Split (K++R) K R:=fun K=>by
   induction K with
   | nil=>exact .none _
   | cons x K ih=>exact .left ih
  exact key K'
 exact ((hk.frame hs hv2 hn2).permR hp.symm).permL hp.symm
end
theorem zdl {b:Bk} (h:checkM b=0):0<=b.high:=by
 unfold checkM at h;split at h
 ·rename_i h1; rw [h] at h1; cases h1
 ·rename_i h1;obtain ⟨q1,q2,q3,q4,q5,q6,q7⟩:=kv (b:=b) (by simpa using h1);omega
theorem wL {most:Int}:∀ n,∀ l∈setsM most n,∀ x∈l,0<=x/\x<n
 | 0,l,hl,x,hx=>by rw [lS.1 hl] at hx; cases hx
 | n+1,l,hl,x,hx=>by
  rcases lT.1 hl with hl | hl
  ·have:=wL n l hl x hx; omega
  ·obtain ⟨y,hy,rfl⟩:=lY.1 hl;rcases lT.1 hx with hx | hx
   ·have:=wL n y (List.mem_reverse.1 (List.mem_filter.1 hy).1) x hx; omega
   ·rw [lS.1 hx]; omega
def setsB (b:Bk):List (List Int):=setsM b.high b.steps.toNat
def statesR (b:Bk):List (List Int):=(setsB b).filter (canM b)
theorem zcF {Q:List (Nat×List Int)} {x:Nat×List Int} (hx:x∈Q):∃ R,Rem (objsL Q) (x.1,.cells (x.2.map intA) 3 false) R:=vO (wE hx)
def knownBar (b:Bk) (t:Bool):Int:=if checkM b=0 then if t=false then 6 else if statesR b=[] then 9 else 0 else checkM b
theorem wu {b:Bk}:∀ (rest S R:List Int),R∈loopM b S rest->∃ T,T.Sublist rest/\T≠[]/\R=S++T
 | [],S,R,h=>by cases h
 | n::rest,S,R,h=>by
  simp only [loopM] at h;split at h
  ·rcases lT.1 h with h | h
   ·rcases lT.1 h with h | h
    ·unfold ownM at h;split at h
     ·rw [lS.1 h];exact ⟨[n],.cons_cons _ (List.nil_sublist _),by simp,rfl⟩
     ·cases h
    ·obtain ⟨T,h1,_,rfl⟩:=wu rest _ R h;exact ⟨n::T,.cons_cons _ h1,by simp,by simp⟩
   ·obtain ⟨T,h1,h2,rfl⟩:=wu rest _ R h;exact ⟨T,.cons _ h1,h2,rfl⟩
  ·cases h
theorem zei (b:Bk) (S:List Int):(ownM b S).Nodup:=by
 unfold ownM;split <;> simp
theorem zaa {b:Bk}:∀ (rest S:List Int),rest.Nodup->(loopM b S rest).Nodup
 | [],S,_=>by simp [loopM]
 | n::rest,S,h=>by
  have h2:=List.nodup_cons.1 h;simp only [loopM];split
  ·refine List.nodup_append.2 ⟨List.nodup_append.2 ⟨zei _ _,zaa rest _ h2.2,fun x hx y hy e=>?_⟩,zaa rest _ h2.2,fun x hx y hy e=>?_⟩
   ·subst e;obtain ⟨T,_,hT,rfl⟩:=wu _ _ _ hy;unfold ownM at hx;split at hx
    ·have:=lS.1 hx;exact hT (by simpa using this)
    ·cases hx
   ·subst e;obtain ⟨T,hT1,_,e2⟩:=wu _ _ _ hy;have hn:n∈T:=by
     rcases lT.1 hx with hx | hx
     ·unfold ownM at hx;split at hx
      ·have:=lS.1 hx;rw [e2] at this;have:=List.append_cancel_left this;simp [this]
      ·cases hx
     ·obtain ⟨T',_,_,e3⟩:=wu _ _ _ hx;rw [e2,List.append_assoc] at e3;have:=List.append_cancel_left e3;simp [this]
    exact h2.1 (hT1.subset hn)
  ·simp
theorem zcR (b:Bk) (i:Nat):(restM b i).Pairwise (· < ·):=by
 unfold restM;rw [List.pairwise_map];exact (List.pairwise_lt_range' (s:=i) (n:=b.steps.toNat - i)).imp fun h=>by omega
theorem zcg (b:Bk):(allM b).Nodup:=by
 have hr:(restM b 0).Nodup:=(zcR b 0).imp fun h e=>by omega
 refine List.nodup_append.2 ⟨zei _ _,zaa _ _ hr,fun x hx y hy e=>?_⟩;subst e;obtain ⟨T,_,hT,rfl⟩:=wu _ _ _ hy;unfold ownM at hx;split at hx
 ·exact hT (by simpa using lS.1 hx)
 ·cases hx
theorem zdF {b:Bk} {R:List Int} (h:R∈allM b):R.Pairwise (· < ·):=by
 rcases lT.1 h with h | h
 ·unfold ownM at h;split at h
  ·rw [lS.1 h]; exact .nil
  ·cases h
 ·obtain ⟨T,h1,_,rfl⟩:=wu _ _ _ h;exact (zcR b 0).sublist h1
theorem memA {b:Bk} {xs:List Int} (hp:xs.Pairwise (· < ·)) (hr:∀ x∈xs,0<=x/\x<b.steps) (hs:seenM b xs=true):xs∈allM b:=by
 unfold allM;have hh:((xs.length:Int))<=b.high:=by
  unfold seenM at hs;simp only [mX,decide_eq_true_eq] at hs;exact hs.1.2
 by_cases h0:xs=[]
 ·subst h0;refine lT.2 (.inl ?_);unfold ownM;rw [if_pos hs];exact lS.2 rfl
 ·exact lT.2 (.inr (zaN (restM b 0) [] xs (zce _ 0 xs rfl hp fun x hx=>by have:=hr x hx; omega) h0 hh hs))
theorem uu {most:Int}:∀ n,∀ l∈setsM most n,l.Pairwise (· < ·)
 | 0,l,hl=>by rw [lS.1 hl]; exact .nil
 | n+1,l,hl=>by
  rcases lT.1 hl with hl | hl
  ·exact uu n l hl
  ·obtain ⟨y,hy,rfl⟩:=lY.1 hl;have hy':=List.mem_reverse.1 (List.mem_filter.1 hy).1;refine List.pairwise_append.2 ⟨uu n y hy',by simp,fun a ha c hc=>?_⟩;rw [lS.1 hc];exact (wL n y hy' a ha).2
theorem ug {most:Int}:∀ (n:Nat) (l:List Int),l.Pairwise (· < ·)->(∀ x∈l,0<=x/\x<n)->(l.length:Int)<=most->l∈setsM most n
 | 0,l,_,hr,_=>by
  cases l with
  | nil=>exact lS.2 rfl
  | cons x l=>have:=hr x sQ; omega
 | n+1,l,hp,hr,hl=>by
  rcases List.eq_nil_or_concat l with rfl | ⟨y,a,rfl⟩
  ·exact lT.2 (.inl (ug n [] .nil (fun x hx=>by cases hx) hl))
  ·rw [List.concat_eq_append] at hp hr hl ⊢;have hp2:=List.pairwise_append.1 hp;have ha:=hr a sQ;have hlt:∀ x∈y,x<a:=fun x hx=>hp2.2.2 x hx a sQ;by_cases e:a=n
   ·subst e;refine lT.2 (.inr (lY.2 ⟨y,List.mem_filter.2 ⟨List.mem_reverse.2 (ug n y hp2.1 (fun x hx=>?_) ?_),?_⟩,rfl⟩))
    ·have:=hlt x hx; have:=hr x (by simp [hx]); omega
    ·simp at hl; omega
    ·unfold shortB; simp at hl ⊢; omega
   ·refine lT.2 (.inl (ug n _ hp (fun x hx=>?_) hl));have h1:=hr x hx;rcases lT.1 hx with hx | hx
    ·have:=hlt x hx; omega
    ·rw [lS.1 hx] at h1 ⊢; omega
theorem zcV {most:Int}:∀ n,(setsM most n).Nodup
 | 0=>by simp [setsM]
 | n+1=>by
  have ih:=zcV (most:=most) n;refine List.nodup_append.2 ⟨ih,?_,fun x hx y hy e=>?_⟩
  ·unfold moreM List.Nodup;rw [List.pairwise_map];refine List.Pairwise.filter _ ?_;exact (List.pairwise_reverse.2 (ih.imp fun {a c} h=>(fun e=>h e.symm:c≠a))).imp fun h e=>h (List.append_cancel_right e)
  ·subst e;obtain ⟨y,_,rfl⟩:=lY.1 hy;have:=wL n _ hx n sQ;omega
theorem zeV {b:Bk} {S:List Int} (h:canM b S=true):seenM b S=true:=by
 unfold canM at h;simp only [mX] at h;exact h.2
theorem uD {b:Bk} (hb:BkOk b):(zb b).Perm (statesR b):=by
 unfold zb statesR;refine (List.perm_ext_iff_of_nodup (List.Pairwise.filter _ (zcg b)) (List.Pairwise.filter _ (zcV _))).2 fun S=>?_;rw [List.mem_filter,List.mem_filter];constructor
 ·rintro ⟨h1,h2⟩;refine ⟨ug _ S (zdF h1) (fun x hx=>?_) ?_,h2⟩
  ·have:=(uI hb S h1).mem x hx; omega
  ·have:=zeV h2;unfold seenM at this;simp only [mX,decide_eq_true_eq] at this;exact this.1.2
 ·rintro ⟨h1,h2⟩;refine ⟨memA (uu _ S h1) (fun x hx=>?_) (zeV h2),h2⟩;have:=wL _ S h1 x hx;have:=hb.steps;omega
def oftR (Ls:List (List Int)) (n:Int):Int:=((Ls.filter fun S=>decide (n∈S)).length:Nat)
structure LsIn (P Q:List (Nat×List Int)) (Ls:List (List Int)):Prop where
 eq:P.map (·.2)=Ls
 mem:∀ x∈P,x∈Q
theorem LsIn.len {P Q:List (Nat×List Int)} {Ls:List (List Int)} (h:LsIn P Q Ls):P.length=Ls.length:=by rw [<- h.eq,lJ]
theorem LsIn.get {P Q:List (Nat×List Int)} {Ls:List (List Int)} (h:LsIn P Q Ls) {i:Nat} (hi:i<P.length):P[i].2=Ls[i]'(h.len ▸ hi):=by
 have e:=h.eq;subst e;simp
theorem LsIn.obj {P Q:List (Nat×List Int)} {Ls:List (List Int)} (h:LsIn P Q Ls) {i:Nat} (hi:i<P.length):(P[i].1,AObj.cells (P[i].2.map intA) 3 false)∈objsL Q:=wE (h.mem _ (List.getElem_mem hi))
theorem LsIn.split {P Q:List (Nat×List Int)} {Ls:List (List Int)} (h:LsIn P Q Ls) {i:Nat} (hi:i<P.length):∃ R,Rem (objsL Q) (P[i].1,.cells (P[i].2.map intA) 3 false) R:=zcF (h.mem _ (List.getElem_mem hi))
theorem zgR:∀ {Ls:List (List Int)} (_:∀ S∈Ls,S.Nodup) (n:Int),oftR Ls n=oftM Ls n
 | [],_,n=>rfl
 | S::Ls,h,n=>by
  have ih:=zgR (fun T hT=>h T (lL _ hT)) n;unfold oftR oftM at ih ⊢;rw [List.flatten_cons,List.count_append,List.filter_cons];have h1:=(h S List.mem_cons_self).count (a:=n);by_cases hm:n∈S
  ·rw [if_pos (by simpa using hm)];rw [if_pos hm] at h1;rw [h1,lZ];omega
  ·rw [if_neg (by simpa using hm)];rw [if_neg hm] at h1;rw [h1];omega
def stepS (x:Int) (p:List Int×Bool) (o:Int):List Int×Bool :=
 ((if (!p.2&&decide (o>=x))=true then p.1++[x] else p.1)++(if (o !=x)=true then [o] else []),p.2||decide (o>=x))
def finS (x:Int) (p:List Int×Bool):List Int:=if p.2=true then p.1 else p.1++[x]
def insS (out:List Int) (x:Int):List Int:=finS x (out.foldl (stepS x) ([],false))
def sortS (xs:List Int):List Int:=xs.foldl insS []
theorem za2 {x:Int}:∀ (os:List Int) (nx:List Int),(∀ y∈os,x<y)->os.foldl (stepS x) (nx,true)=(nx++os,true)
 | [],nx,_=>by rw [List.foldl_nil,lR]
 | o::os,nx,h=>by
  have h1:x<o:=h o List.mem_cons_self;rw [List.foldl_cons,show stepS x (nx,true) o=(nx++[o],true) from by
   unfold stepS;rw [if_neg sQ,if_pos (by simp; omega)]; rfl,za2 os _ fun y hy=>h y (lL _ hy),List.append_assoc]
  rfl
theorem zev {x:Int}:∀ (os:List Int) (nx:List Int),os.Pairwise (· < ·)->finS x (os.foldl (stepS x) (nx,false))=nx++(os.filter (fun y=>decide (y<x))++x::os.filter (fun y=>decide (x<y)))
 | [],nx,_=>by simp [finS]
 | o::os,nx,h=>by
  obtain ⟨h1,h2⟩:=List.pairwise_cons.1 h;rw [List.foldl_cons];by_cases hc:o<x
  ·rw [show stepS x (nx,false) o=(nx++[o],false) from by
    unfold stepS;rw [if_neg (by simp; omega),if_pos (by simp; omega)];simp; omega,zev os _ h2,List.filter_cons,if_pos (by simpa using hc),List.filter_cons,if_neg (by simp; omega)]
   simp
  ·have h3:∀ y∈os,x<y:=fun y hy=>by have:=h1 y hy; omega
   have h4:os.filter (fun y=>decide (y<x))=[]:=List.filter_eq_nil_iff.2 fun y hy=>by have:=h3 y hy; simp; omega
   have h5:os.filter (fun y=>decide (x<y))=os:=List.filter_eq_self.2 fun y hy=>by simpa using h3 y hy
   rw [List.filter_cons,if_neg (by simpa using hc),List.filter_cons,h4,h5];by_cases he:o=x
   ·subst he;rw [show stepS o (nx,false) o=(nx++[o],true) from by unfold stepS; simp,za2 os _ h3];simp [finS]
   ·rw [show stepS x (nx,false) o=(nx++[x]++[o],true) from by
     unfold stepS;rw [if_pos (by simp; omega),if_pos (by simpa using he)];simp; omega,za2 os _ h3]
    rw [if_pos (by simp; omega)];simp [finS]
theorem zlJ {out:List Int} {x:Int} (h:out.Pairwise (· < ·)):insS out x=out.filter (fun y=>decide (y<x))++x::out.filter (fun y=>decide (x<y)):=by
 unfold insS; rw [zev out [] h]; rfl
theorem zky {out:List Int} {x:Int} (h:out.Pairwise (· < ·)):(insS out x).Pairwise (· < ·)/\∀ y,y∈insS out x↔y∈out\/y=x:=by
 rw [zlJ h];refine ⟨?_,fun y=>?_⟩
 ·refine List.pairwise_append.2 ⟨h.sublist List.filter_sublist,List.pairwise_cons.2 ⟨fun y hy=>by simpa using (List.mem_filter.1 hy).2,h.sublist List.filter_sublist⟩,fun a ha c hc=>?_⟩;have h1:a<x:=by simpa using (List.mem_filter.1 ha).2
  rcases lI.1 hc with rfl | hc
  ·exact h1
  ·have h2:x<c:=by simpa using (List.mem_filter.1 hc).2
   omega
 ·simp only [lT,List.mem_filter,lI,decide_eq_true_eq];constructor
  ·rintro (⟨h1,_⟩ | rfl | ⟨h1,_⟩)
   ·exact .inl h1
   ·exact .inr rfl
   ·exact .inl h1
  ·rintro (h1 | rfl)
   ·rcases Int.lt_trichotomy y x with h2 | h2 | h2
    ·exact .inl ⟨h1,h2⟩
    ·exact .inr (.inl h2)
    ·exact .inr (.inr ⟨h1,h2⟩)
   ·exact .inr (.inl rfl)
theorem zaZ (xs:List Int):∀ out:List Int,out.Pairwise (· < ·)->(xs.foldl insS out).Pairwise (· < ·)/\∀ y,y∈xs.foldl insS out↔y∈out\/y∈xs:=by
 induction xs with
 | nil=>intro out h; exact ⟨h,fun y=>by simp⟩
 | cons x xs ih =>
  intro out h;obtain ⟨h1,h2⟩:=zky (x:=x) h;obtain ⟨h3,h4⟩:=ih _ h1;refine ⟨h3,fun y=>?_⟩;rw [List.foldl_cons,h4,h2,lI,or_assoc]
theorem zgE:∀ {xs ys:List Int},xs.Pairwise (· < ·)->ys.Pairwise (· < ·)->(∀ z,z∈xs↔z∈ys)->xs=ys
 | [],[],_,_,_=>rfl
 | [],y::ys,_,_,h=>absurd ((h y).2 List.mem_cons_self) sQ
 | x::xs,[],_,_,h=>absurd ((h x).1 List.mem_cons_self) sQ
 | x::xs,y::ys,h1,h2,h=>by
  obtain ⟨h3,h4⟩:=List.pairwise_cons.1 h1;obtain ⟨h5,h6⟩:=List.pairwise_cons.1 h2;have hx:=lI.1 ((h x).1 List.mem_cons_self);have hy:=lI.1 ((h y).2 List.mem_cons_self);have he:x=y:=by
   rcases hx with e | e
   ·exact e
   ·rcases hy with f | f
    ·exact f.symm
    ·have:=h5 _ e; have:=h3 _ f; omega
  subst he;congr 1;refine zgE h4 h6 fun z=>⟨fun hz=>?_,fun hz=>?_⟩
  ·rcases lI.1 ((h z).1 (lL _ hz)) with e | e
   ·have:=h3 _ hz; omega
   ·exact e
  ·rcases lI.1 ((h z).2 (lL _ hz)) with e | e
   ·have:=h5 _ hz; omega
   ·exact e
theorem zbp {d:Array Int} (hs:∀ i j:Nat,i<=j->j<d.size->d[i]! <=d[j]!):∀ m:Nat,m<=d.size->(Lib.compactUpTo d m).Pairwise (· < ·)/\∀ y,y∈Lib.compactUpTo d m↔∃ i,i<m/\d[i]! =y
 | 0,_=>⟨by simp [Lib.compactUpTo],fun y=>by simp [Lib.compactUpTo]⟩
 | m+1,hm=>by
  obtain ⟨h1,h2⟩:=zbp hs m oQ;rw [Lib.compactUpTo_succ];cases hk:Lib.keeps d m
  ·rw [if_neg dQ,lR];refine ⟨h1,fun y=>(h2 y).trans ⟨fun ⟨i,a,c⟩=>⟨i,oQ,c⟩,fun ⟨i,a,c⟩=>?_⟩⟩;by_cases hi:i<m
   ·exact ⟨i,hi,c⟩
   ·obtain rfl:i=m:=by omega
    simp [Lib.keeps] at hk;exact ⟨i - 1,oQ,by rw [<- c]; first | exact hk.2.symm | exact hk.2⟩
  ·rw [if_pos rfl];refine ⟨List.pairwise_append.2 ⟨h1,List.pairwise_singleton _ _,fun a ha c hc=>?_⟩,fun y=>?_⟩
   ·obtain ⟨i,hi,rfl⟩:=(h2 a).1 ha;rw [lS.1 hc];have h3:=hs i (m - 1) oQ oQ;have h4:=hs (m - 1) m oQ oQ;simp [Lib.keeps] at hk;rcases hk with hk | hk
    ·omega
    ·omega
   ·rw [lT,h2,lS];constructor
    ·rintro (⟨i,a,c⟩ | rfl)
     ·exact ⟨i,oQ,c⟩
     ·exact ⟨m,oQ,rfl⟩
    ·rintro ⟨i,a,c⟩;by_cases hi:i<m
     ·exact .inl ⟨i,hi,c⟩
     ·obtain rfl:i=m:=by omega
      exact .inr c.symm
theorem zdQ {b:Bk} (hb:BkOk b):sortS ((statesR b).map fun S=>(S.length:Int))=countsM b:=by
 unfold sortS countsM Lib.compact;obtain ⟨h1,h2⟩:=zaZ ((statesR b).map fun S=>(S.length:Int)) [] List.Pairwise.nil;generalize hz:sortI ((zb b).map fun S=>(S.length:Int))=zs;have hp:zs.Perm ((zb b).map fun S=>(S.length:Int)):=by rw [<- hz]; exact List.mergeSort_perm _ _
 have hso:zs.Pairwise (fun x y=>decide (x<=y)=true):=by
  rw [<- hz];exact List.pairwise_mergeSort (fun a c e h3 h4=>by simp only [decide_eq_true_eq] at *; omega) (fun a c=>by simp only [Bool.or_eq_true,decide_eq_true_eq]; omega) _
 have hs:∀ i j:Nat,i<=j->j<zs.toArray.size->zs.toArray[i]! <=zs.toArray[j]! :=fun i j hij hj=>by
  rw [List.size_toArray] at hj;rw [getElem!_pos zs.toArray i (by simp; omega),getElem!_pos zs.toArray j (by simpa using hj)];rcases Nat.lt_or_eq_of_le hij with h | rfl
  ·have:=List.pairwise_iff_getElem.1 hso i j oQ hj h;simpa using this
  ·exact Int.le_refl _
 obtain ⟨h5,h6⟩:=zbp hs zs.length sQ;refine zgE h1 h5 fun z=>?_;rw [h2,h6];have h7:z∈(statesR b).map (fun S=>(S.length:Int))↔z∈zs:=by
  rw [hp.mem_iff];exact ((uD hb).map _).mem_iff.symm
 rw [h7];constructor
 ·rintro (h | h)
  ·exact absurd h sQ
  ·obtain ⟨i,hi,rfl⟩:=List.mem_iff_getElem.1 h;exact ⟨i,hi,by rw [getElem!_pos zs.toArray i (by simpa using hi)]; simp⟩
 ·rintro ⟨i,hi,rfl⟩;refine .inr ?_;rw [getElem!_pos zs.toArray i (by simpa using hi)];simp
theorem vK {b:Bk} (hb:BkOk b) (S:List Int):S∈zb b↔S∈setsB b/\canM b S=true:=by
 rw [(uD hb).mem_iff]; exact List.mem_filter
theorem za0 (b:Bk):(zb b).Nodup:=List.Pairwise.filter _ (zcg b)
theorem zh5 {b:Bk} {S:List Int} (h:S∈zb b):S.Pairwise (· < ·):=zdF (List.mem_filter.1 h).1
theorem zgA {b:Bk} {S:List Int} (h:S∈zb b):S.Nodup:=(zh5 h).imp fun h e=>by omega
theorem zeu {b:Bk} (hb:BkOk b) {S:List Int} (h:S∈zb b):S.length<=3:=(uI hb S (List.mem_filter.1 h).1).len
theorem ut {b:Bk} (hb:BkOk b) (hh:0<=b.high) (S:List Int):S∈setsB b↔S.Pairwise (· < ·)/\(∀ x∈S,0<=x/\x<b.steps)/\(S.length:Int)<=b.high:=by
 have hst:=hb.steps;constructor
 ·intro h;exact ⟨uu _ S h,fun x hx=>by have:=wL _ S h x hx; omega,uB hh _ S h⟩
 ·rintro ⟨h1,h2,h3⟩;exact ug _ S h1 (fun x hx=>by have:=h2 x hx; omega) h3
theorem ze4 {α:Type} (p:α->Bool):∀ A:List α,(A.filter p).length+(A.filter fun x => !p x).length=A.length
 | []=>rfl
 | x::A=>by
  have ih:=ze4 p A;rw [List.filter_cons,List.filter_cons,lZ];cases p x
  ·simp only [mU,if_false,Bool.not_false,if_true,lZ]; omega
  ·simp only [Bool.not_true,mU,if_false,if_true,lZ]; omega
theorem zlY {b:Bk} (n:Int):oftM (zb b) n=(((zb b).filter fun S=>decide (n∈S)).length:Nat):=(zgR (fun _ h=>zgA h) n).symm
theorem zdh {α:Type} {p:α->Bool} {A:List α}:(A.filter p).length=A.length↔∀ S∈A,p S=true:=by
 rw [List.length_filter_eq_length_iff]
theorem zcs {α:Type} {p:α->Bool} {A:List α}:(A.filter p).length=0↔∀ S∈A,p S=false:=by
 rw [List.length_eq_zero_iff,List.filter_eq_nil_iff];exact ⟨fun h S hS=>by simpa using h S hS,fun h S hS=>by simpa using h S hS⟩
theorem zg6 {α:Type} {p:α->Bool} {A:List α} (hne:A≠[]):(wordM A.length ((A.filter p).length:Nat)=1↔∀ S∈A,p S=true)/\(wordM A.length ((A.filter p).length:Nat)=2↔∀ S∈A,p S=false)/\(wordM A.length ((A.filter p).length:Nat)=0↔(∃ S∈A,p S=true)/\∃ S∈A,p S=false):=by
 have h1:=zdh (p:=p) (A:=A);have h2:=zcs (p:=p) (A:=A);have h0:A.length≠0:=fun h=>hne (List.length_eq_zero_iff.1 h);have e1:(∃ S∈A,p S=true)↔¬ (A.filter p).length=0:=by
  rw [h2];constructor
  ·rintro ⟨S,hS,hp⟩ h; rw [h S hS] at hp; cases hp
  ·intro h;refine Classical.byContradiction fun hc=>h fun S hS=>?_;rw [Bool.eq_false_iff];exact fun hp=>hc ⟨S,hS,hp⟩
 have e2:(∃ S∈A,p S=false)↔¬ (A.filter p).length=A.length:=by
  rw [h1];constructor
  ·rintro ⟨S,hS,hp⟩ h; rw [h S hS] at hp; cases hp
  ·intro h;refine Classical.byContradiction fun hc=>h fun S hS=>?_;cases hp:p S with
   | true=>rfl
   | false=>exact absurd ⟨S,hS,hp⟩ hc
 rw [e1,e2,<- h1,<- h2];unfold wordM;simp only [beq_iff_eq];generalize (A.filter p).length=m at *
 generalize A.length=n at *
 refine ⟨⟨fun h=>?_,fun h=>?_⟩,⟨fun h=>?_,fun h=>?_⟩,⟨fun h=>?_,fun h=>?_⟩⟩ <;> (repeat' split at *) <;> omega
theorem zg5 {b:Bk} (hne:zb b≠[]) (n:Int):(wordM (zb b).length (oftM (zb b) n)=1↔∀ S∈zb b,n∈S)/\(wordM (zb b).length (oftM (zb b) n)=2↔∀ S∈zb b,n∉S)/\(wordM (zb b).length (oftM (zb b) n)=0↔(∃ S∈zb b,n∈S)/\∃ S∈zb b,n∉S):=by
 have:=zg6 (p:=fun S=>decide (n∈S)) hne;rw [zlY];simpa only [decide_eq_true_eq,decide_eq_false_iff_not] using this
theorem zc9 {c:Bk} {A:List (List Int)} (hne:A≠[]) (k:Nat):(wordM A.length (A.length - rightsM c A k)=1↔∀ S∈A,rightM c S k=false)/\(wordM A.length (A.length - rightsM c A k)=2↔∀ S∈A,rightM c S k=true)/\(wordM A.length (A.length - rightsM c A k)=0↔(∃ S∈A,rightM c S k=false)/\∃ S∈A,rightM c S k=true):=by
 have h:=zg6 (p:=fun S => !rightM c S k) hne;have e:(A.length:Int) - rightsM c A k=((A.filter fun S => !rightM c S k).length:Nat):=by
  unfold rightsM;have:=ze4 (fun S=>rightM c S k) A;omega
 rw [e];simpa only [mV,Bool.not_eq_false'] using h
theorem uT {b:Bk} (hb:BkOk b) (n:Int):n∈countsM b↔∃ S∈zb b,(S.length:Int)=n:=by
 rw [<- zdQ hb];unfold sortS;rw [(zaZ _ [] .nil).2 n];simp only [List.not_mem_nil,false_or,lY,(uD hb).mem_iff]
theorem zhl {b:Bk} (hb:BkOk b):(countsM b).Pairwise (· < ·):=by
 rw [<- zdQ hb]; exact (zaZ _ [] .nil).1
theorem zdJ (b:Bk) (lo w:Int):∀ (A:List (List Int)) (z:Int×Int),(A.foldl (bandM b lo w) z).1<=z.1/\z.2<=(A.foldl (bandM b lo w) z).2/\(∀ S∈A,(A.foldl (bandM b lo w) z).1<=inM b S lo w/\inM b S lo w<=(A.foldl (bandM b lo w) z).2)/\((A.foldl (bandM b lo w) z).1=z.1\/∃ S∈A,(A.foldl (bandM b lo w) z).1=inM b S lo w)/\((A.foldl (bandM b lo w) z).2=z.2\/∃ S∈A,(A.foldl (bandM b lo w) z).2=inM b S lo w)
 | [],z=>⟨Int.le_refl _,Int.le_refl _,(fun S h=>by cases h),.inl rfl,.inl rfl⟩
 | S::A,z=>by
  obtain ⟨h1,h2,h3,h4,h5⟩:=zdJ b lo w A (bandM b lo w z S);rw [List.foldl_cons];generalize A.foldl (bandM b lo w) (bandM b lo w z S)=r at *
  have e1:(bandM b lo w z S).1=if inM b S lo w<z.1 then inM b S lo w else z.1:=rfl
  have e2:(bandM b lo w z S).2=if z.2<inM b S lo w then inM b S lo w else z.2:=rfl
  rw [e1] at h1 h4;rw [e2] at h2 h5;refine ⟨?_,?_,fun T hT=>?_,?_,?_⟩
  ·split at h1 <;> omega
  ·split at h2 <;> omega
  ·rcases lI.1 hT with rfl | hT
   ·constructor
    ·split at h1 <;> omega
    ·split at h2 <;> omega
   ·exact h3 T hT
  ·rcases h4 with h4 | ⟨T,hT,h4⟩
   ·split at h4
    ·exact .inr ⟨S,List.mem_cons_self,h4⟩
    ·exact .inl h4
   ·exact .inr ⟨T,lL _ hT,h4⟩
  ·rcases h5 with h5 | ⟨T,hT,h5⟩
   ·split at h5
    ·exact .inr ⟨S,List.mem_cons_self,h5⟩
    ·exact .inl h5
   ·exact .inr ⟨T,lL _ hT,h5⟩
theorem zmL {b:Bk} (hb:BkOk b) {S:List Int} (h:S∈zb b) (lo w:Int):0<=inM b S lo w/\inM b S lo w<=3:=by
 have h1:=ziJ b S lo w;have h2:=zeu hb h;omega
theorem zey {b:Bk} (hb:BkOk b) (hne:zb b≠[]) (lo w:Int):(∀ S∈zb b,(withinM b (zb b) lo w).1<=inM b S lo w/\inM b S lo w<=(withinM b (zb b) lo w).2)/\(∃ S∈zb b,(withinM b (zb b) lo w).1=inM b S lo w)/\∃ S∈zb b,(withinM b (zb b) lo w).2=inM b S lo w:=by
 obtain ⟨_,_,h3,h4,h5⟩:=zdJ b lo w (zb b) (3,0);obtain ⟨S,hS⟩:=List.exists_mem_of_ne_nil _ hne;have hi:=zmL hb hS lo w;have h6:=h3 S hS;unfold withinM;refine ⟨h3,?_,?_⟩
 ·rcases h4 with h4 | h4
  ·exact ⟨S,hS,by rw [h4] at h6 ⊢; show (3:Int)=_; have:=h6.1; simp only at this; omega⟩
  ·exact h4
 ·rcases h5 with h5 | h5
  ·exact ⟨S,hS,by rw [h5] at h6 ⊢; show (0:Int)=_; have:=h6.2; simp only at this; omega⟩
  ·exact h5
theorem zdH {b:Bk} {low k:Nat}:arcK b low=some k↔(withinM b (zb b) low ((k:Int)+1)).1>0/\k<b.steps.toNat/\∀ q<k,¬ (withinM b (zb b) low ((q:Int)+1)).1>0:=by
 unfold arcK;rw [List.find?_range_eq_some];simp only [List.mem_range,decide_eq_true_eq,mV,decide_eq_false_iff_not]
theorem zeP {b:Bk} {y:Int×Int}:y∈arcsOf b (List.range b.steps.toNat)↔∃ low k:Nat,low<b.steps.toNat/\arcK b low=some k/\y=((low:Int),(k:Int)+1):=by
 unfold arcsOf;rw [List.mem_filterMap];constructor
 ·rintro ⟨low,h1,h2⟩;unfold arcA at h2;cases h5:arcK b low with
  | none=>rw [h5] at h2; exact absurd h2 sQ
  | some m =>
   rw [h5] at h2;exact ⟨low,m,List.mem_range.1 h1,h5,(Option.some.inj h2).symm⟩
 ·rintro ⟨low,k,h1,h2,h3⟩;refine ⟨low,List.mem_range.2 h1,?_⟩;unfold arcA;rw [h2,h3]; rfl
theorem zcC {b:Bk} (hne:arcsOf b (List.range b.steps.toNat)≠[]):narrowM b∈arcsOf b (List.range b.steps.toNat)/\∀ y∈arcsOf b (List.range b.steps.toNat),ltArc y (narrowM b)=false:=by
 unfold narrowM;generalize arcsOf b (List.range b.steps.toNat)=l at hne;cases l with
 | nil=>exact absurd rfl hne
 | cons x xs=>exact ⟨kl,uX⟩
end Go.Vel
namespace Go.Vel
open Go Go.Conc Go.Proofs
theorem zac {α:Type}:∀ {l1 l2:List α},l1.Nodup->(∀ x∈l1,x∈l2)->l1.length<=l2.length
 | [],_,_,_=>mN _
 | x::l1,l2,hn,hs=>by
  obtain ⟨h1,h2⟩:=List.nodup_cons.1 hn;obtain ⟨a,c,rfl⟩:=List.append_of_mem (hs x sQ);have:=zac (l1:=l1) (l2:=a++c) h2 fun y hy=>by
   have hne:y≠x:=fun e=>h1 (e ▸ hy);have:=hs y (by simp [hy]);simpa [hne] using this
  simp at this ⊢; omega
structure Less (was now:Bk):Prop where
 okw:BkOk was
 okn:BkOk now
 steps:now.steps=was.steps
 sub:∀ S∈zb now,S∈zb was
 ne:zb now≠[]
namespace Less
variable {was now:Bk}
theorem wne (h:Less was now):zb was≠[]:=fun e=>by
 obtain ⟨S,hS⟩:=List.exists_mem_of_ne_nil _ h.ne;have:=h.sub S hS;rw [e] at this;cases this
theorem inM (h:Less was now) (S:List Int) (lo w:Int):inM now S lo w=inM was S lo w:=by unfold Vel.inM; rw [h.steps]
theorem many (h:Less was now):1<=((zb now).length:Int)/\((zb now).length:Int)<=(zb was).length:=by
 have h1:=zac (za0 now) h.sub;have h2:(zb now).length≠0:=fun e=>h.ne (List.length_eq_zero_iff.1 e);omega
theorem counts (h:Less was now) {n:Int} (hn:n∈countsM now):n∈countsM was:=by
 obtain ⟨S,h1,h2⟩:=(uT h.okn n).1 hn;exact (uT h.okw n).2 ⟨S,h.sub S h1,h2⟩
theorem at_ (h:Less was now) (n:Int) (hu:wordM (zb was).length (oftM (zb was) n)≠0):wordM (zb was).length (oftM (zb was) n)=wordM (zb now).length (oftM (zb now) n):=by
 obtain ⟨w1,w2,w3⟩:=zg5 h.wne n;obtain ⟨v1,v2,_⟩:=zg5 h.ne n;have hc:wordM (zb was).length (oftM (zb was) n)=1\/wordM (zb was).length (oftM (zb was) n)=2:=by
  unfold wordM at hu ⊢;split at hu
  ·exact .inl (by rw [if_pos (by assumption)])
  ·split at hu
   ·exact .inr (by rw [if_neg (by assumption),if_pos (by assumption)])
   ·exact absurd rfl hu
 rcases hc with hc | hc
 ·rw [hc,v1.2 fun S hS=>w1.1 hc S (h.sub S hS)]
 ·rw [hc,v2.2 fun S hS=>w2.1 hc S (h.sub S hS)]
theorem wrong (h:Less was now) (k:Nat) (hr:∀ S∈zb now,rightM now S k=rightM was S k) (hu:wordM (zb was).length ((zb was).length - rightsM was (zb was) k)≠0):wordM (zb was).length ((zb was).length - rightsM was (zb was) k)=wordM (zb now).length ((zb now).length - rightsM now (zb now) k):=by
 obtain ⟨w1,w2,_⟩:=zc9 (c:=was) h.wne k;obtain ⟨v1,v2,_⟩:=zc9 (c:=now) h.ne k;have hc:wordM (zb was).length ((zb was).length - rightsM was (zb was) k)=1\/wordM (zb was).length ((zb was).length - rightsM was (zb was) k)=2:=by
  unfold wordM at hu ⊢;split at hu
  ·exact .inl (by rw [if_pos (by assumption)])
  ·split at hu
   ·exact .inr (by rw [if_neg (by assumption),if_pos (by assumption)])
   ·exact absurd rfl hu
 rcases hc with hc | hc
 ·rw [hc,v1.2 fun S hS=>by rw [hr S hS]; exact w1.1 hc S (h.sub S hS)]
 ·rw [hc,v2.2 fun S hS=>by rw [hr S hS]; exact w2.1 hc S (h.sub S hS)]
theorem within (h:Less was now) (lo w:Int):(withinM was (zb was) lo w).1<=(withinM now (zb now) lo w).1/\(withinM now (zb now) lo w).1<=(withinM now (zb now) lo w).2/\(withinM now (zb now) lo w).2<=(withinM was (zb was) lo w).2:=by
 obtain ⟨a1,_,_⟩:=zey h.okw h.wne lo w;obtain ⟨b1,⟨S,hS,b2⟩,⟨T,hT,b3⟩⟩:=zey h.okn h.ne lo w;have c1:=a1 S (h.sub S hS);have c2:=a1 T (h.sub T hT);have c3:=b1 S hS;rw [<- h.inM S lo w] at c1;rw [<- h.inM T lo w] at c2;omega
theorem arcs (h:Less was now) (ha:arcsOf was (List.range was.steps.toNat)≠[]):arcsOf now (List.range now.steps.toNat)≠[]/\(narrowM now).2<=(narrowM was).2:=by
 obtain ⟨h1,_⟩:=zcC ha;obtain ⟨low,k,h2,h3,h4⟩:=zeP.1 h1;obtain ⟨h5,h6,_⟩:=zdH.1 h3;have h7:=(h.within low ((k:Int)+1)).1;have hp:(withinM now (zb now) low ((k:Int)+1)).1>0:=by omega
 obtain ⟨q,hq⟩:∃ q,arcK now low=some q:=by
  cases hc:arcK now low with
  | some q=>exact ⟨q,rfl⟩
  | none =>
   unfold arcK at hc;rw [List.find?_eq_none] at hc;have:=hc k (List.mem_range.2 (by rw [h.steps]; exact h6));exact absurd hp (by simpa using this)
 have hqk:q<=k:=by
  obtain ⟨_,_,h8⟩:=zdH.1 hq;refine Classical.byContradiction fun hc=>h8 k oQ hp
 have hm:((low:Int),(q:Int)+1)∈arcsOf now (List.range now.steps.toNat):=zeP.2 ⟨low,q,by rw [h.steps]; exact h2,hq,rfl⟩;have hne:arcsOf now (List.range now.steps.toNat)≠[]:=List.ne_nil_of_mem hm;refine ⟨hne,?_⟩;have h9:=(zcC hne).2 _ hm;rw [Bool.eq_false_iff,ne_eq,un] at h9;rw [h4];simp only at h9 ⊢;omega
end Less
end Go.Vel
namespace Go.Vel
open Go Go.Conc Go.Proofs
theorem zcp {a n:Int} (h0:0<=a) (h1:a<2*n):(a<n/\a % n=a)\/(n<=a/\a % n=a - n):=by
 by_cases h:a<n
 ·exact .inl ⟨h,Int.emod_eq_of_lt h0 h⟩
 ·refine .inr ⟨by omega,?_⟩;rw [<- Int.sub_emod_right a n];exact Int.emod_eq_of_lt oQ oQ
theorem zlj {n i w:Int} (h0:0<=i) (h1:i<n) (h2:1<=w) (h3:w<=n):((i+w - 1) % n - i+n) % n+1=w:=by
 have e1:=zcp (a:=i+w - 1) (n:=n) oQ oQ;have e2:=zcp (a:=(i+w - 1) % n - i+n) (n:=n) oQ oQ;omega
theorem zjP {b:Bk} (hb:BkOk b) (x:Int):zF b (x % b.steps)=true:=by
 have:=hb.steps;have h1:=Int.emod_nonneg x (show b.steps≠0 by omega);have h2:=Int.emod_lt_of_pos x (show 0<b.steps by omega);unfold zF;simp only [mX,decide_eq_true_eq];omega
theorem zif {l:List Int} (h:l.Pairwise (· < ·)):l.Nodup:=h.imp fun h e=>by omega
theorem zaA (b:Bk):checkM b=0↔numbersM b=0/\heardM b=0/\lookedM b=0:=by
 unfold checkM;by_cases h1:numbersM b=0
 ·by_cases h2:heardM b=0
  ·rw [if_neg (by simpa using h1),if_neg (by simpa using h2)];exact ⟨fun h=>⟨h1,h2,h⟩,fun h=>h.2.2⟩
  ·rw [if_neg (by simpa using h1),if_pos (by simpa using h2)];exact ⟨fun h=>absurd h h2,fun h=>absurd h.2.1 h2⟩
 ·rw [if_pos (by simpa using h1)];exact ⟨fun h=>absurd h h1,fun h=>absurd h.1 h1⟩
theorem zgF {b:Bk} (h:checkM b=0):(askM b true=0↔zb b≠[])/\(askM b true=9↔zb b=[])/\(askM b true=0\/askM b true=9):=by
 unfold askM;rw [if_neg (by simp [h]),if_neg dQ];by_cases h0:zb b=[]
 ·simp [h0]
 ·simp [h0]
end Go.Vel
end
