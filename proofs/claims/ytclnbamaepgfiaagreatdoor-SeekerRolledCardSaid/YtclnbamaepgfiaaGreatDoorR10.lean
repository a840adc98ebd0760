/- Texts for the law SeekerRolled (chapters 8 and 9), part 11. It holds of every program, tape and world that the statements name, as each theorem says. -/
import Derived.Sort.AssemblyPlain
import Derived.Sort.LotD3
import Derived.Test.YtclnbamaepgfiaaGreatDoorR5
import Derived.Test.YtclnbamaepgfiaaGreatDoorR9
open Go renaming Goroutine -> gG, TypeId -> gT, Operand -> gO, Program -> gP
open Bool renaming true -> tt, false -> ff
section
set_option linter.all false
set_option maxRecDepth 20000
set_option maxHeartbeats 60000000
open Go.Proofs.Tryz renaming prog -> tp
open List renaming getElem?_eq_getElem -> lA, nil_append -> lC, length_append -> lF, length_map -> lJ, eq_nil_of_length_eq_zero -> lK, map_append -> lM, append_nil -> lR, mem_singleton -> lS, mem_append -> lT, take_length -> lW, replicate -> mB
open List.Mem renaming head -> mC
open Nat renaming le_refl -> mL, zero_le -> mN, zero_add -> mO, eq_zero_or_pos -> mP
open Bool renaming and_eq_true -> mX
open Go.Vel.TK renaming maskL -> bA, rt -> bB, kp -> bC, cl -> bD, loopN -> bE, sp -> bF, na -> bG, a -> bH, newR -> bI, dq -> bL, appR -> bO, frzRow -> bY
open Go.Vel.TD renaming s -> bR, norm -> bS, y -> bT, z -> bU, sp -> bW, cnewP -> bX
namespace Go.Vel
open Go Go.Conc Go.Proofs
section
variable {P:gP}{main:Bool}{k:List Item}
theorem zmr{kd:CallKind}{f:FuncId}{ro:Option Nat}{ts:Array Value}{ds:List Deferred}{cs:List Frame}{w:World}{c:Code}:stepG P main (G (fr kd f ro ts ds (.code (.scope c)::k)) cs) w=.go (G (fr kd f ro ts ds (.code c::.inScope c::k)) cs) w #[]:=by simp[G,stepG,stepG.exec,fr]
end
section
variable {P:gP}{gm:Nat->Option Nat}{T:gG->Hp->Prop}{Y:KX P gm T}{ds:List Nat}{k:List Item}{Wq:List AV}{K:KV}
theorem TK.scope{c:Code}(h:TK Y ds (.code c::.inScope c::k) Wq K):TK Y ds (.code (.scope c)::k) Wq K:=fun A hA φ H ts h1 h2 h3 h4 h5 h6=>Y.X.hT.ctlF rfl (fun _=>zmr) rfl (h A hA φ H ts h1 h2 h3 h4 h5 h6)
end
theorem zft{o:Option (List Int×Int)}{K:KV}{r:AV}{K':KV}(h:HangR o K r K'):(o=none/\r=.tup [.agg [.v (.slice none 0 0),za 0],zr ff]/\K'=K)\/∃ w q jw,o=some (w,q)/\r=.tup [.agg [.sl jw 0 w.length,za q],zr tt]/\K'=(jw,.cells (w.map za) 3 ff)::K:=by
 cases o with
 | none=>exact .inl ⟨rfl,h⟩
 | some z=>obtain⟨jw,h1,h2⟩:=h;exact .inr ⟨z.1,z.2,jw,rfl,h1,h2⟩
def wayC(p:Nat×Nat×Int):List AV:=[.sl p.1 0 p.2.1,za p.2.2]
theorem zoe{all:List (List Int)}{i:Nat}{st:List Int}{n:Int}{e:gT}{rw':Bool}(h:all[i]? =some st)(hn:n=(i:Int)):z6 (.cells (all.flatMap stC) e rw') (0+n.toNat*5) 5=some (stC st):=zaf (c:=5) (fun _=>rfl) h hn dQ
theorem zeB{b:RBk}{all:List (List Int)}{l st:List Int}{i:Nat}(h:all[i]? =some st)(hh:hangM b l st=none):waysM b (all.take (i+1)) l=waysM b (all.take i) l:=by
 unfold waysM;rw[yQ h,List.filterMap_append];simp[hh]
theorem zeC{b:RBk}{all:List (List Int)}{l st w:List Int}{q:Int}{i:Nat}(h:all[i]? =some st)(hh:hangM b l st=some (w,q)):waysM b (all.take (i+1)) l=waysM b (all.take i) l++[(w,q)]:=by
 unfold waysM;rw[yQ h,List.filterMap_append];simp[hh]
theorem zhI(b:RBk)(all:List (List Int))(l:List Int):(waysM b all l).length<=all.length:=List.length_filterMap_le _ _
theorem zgW(x:Int)(r:List Int)(y:Int):spreadM (x::(r++[y]))=(min (spreadM (x::r)).1 y,max (spreadM (x::r)).2 y):=by
 unfold spreadM;dsimp only;rw[List.foldl_append,List.foldl_append];rfl
def sqOk(b:RBk)(all:List (List Int))(l:List Int):Bool:=(squaresM b all l).isSome
def sqLo(b:RBk)(all:List (List Int))(l:List Int):Int:=((squaresM b all l).getD (0,0)).1
def sqHi(b:RBk)(all:List (List Int))(l:List Int):Int:=((squaresM b all l).getD (0,0)).2
theorem uB{l:List Int}{i p:Nat}{x:Int}{e:gT}{s:Nat}(h:l[i]? =some x)(hp:p=i):z6 (.row (l.map za) e s) p 1=some [za x]:=by
 subst hp;have:=zdB (e:=e) (s:=s) h rfl;simpa using this
instance:ApOf tp 219 222 2 32:={}
instance:BlOf tp 23 [(0,1),(1,1)]:={}
instance:zm tp 95 0 0 ff 1:={}
instance:zp tp 219 222 2:={}
instance:TyZ tp 23 [.int .i64 0,.int .i64 0]:={}
instance:Und tp 219 (.slice 222):={}
theorem zob{main T}(hT:zo tp main T){gm}{b:RBk}{s h e a j:Nat}{l:List Int}{all:List (List Int)}{et:gT}(hb:ROk b)(hl:CutsOk b l)(ha:okAll b all)(hn:all.length<=243) :
  zl tp T gm 135 [.agg (knownC b s h e a all.length),.sl j 0 l.length] [(s,zt b),(a,allO all),(j,.cells (l.map za) et ff)] (fun r K'=>∃(jr:Nat)(ps:List (Nat×Nat×Int)),ps.map (·.2.2)=(waysM b all l).map (·.2)/\r=.row jr ps.length/\K'=[(jr,.row (ps.flatMap wayC) 222 2),(s,zt b),(a,allO all),(j,.cells (l.map za) et ff)]):=by
 refine zh 35 hT Tryz.func135 fun Y Wz=>?_;refine au 21042 ?_;intro jb hjb;refine au 35 ?_;refine TK.scope ?_;refine au 542 ?_;refine TK.virt 5 222 2 Z fun jr0 hjr0=>?_;refine au 1303128069067042215023 ?_;refine bA [1,2,4,5,11,12] ?_;refine bC [(s,_),(a,_),(j,_),(jr0,_),(jb,_)] ?_;refine bE (fun n Wq K=>∃(i jr:Nat)(ps:List (Nat×Nat×Int)),n=all.length - i/\i<=all.length/\ps.map (·.2.2)=(waysM b (all.take i) l).map (·.2)/\Wq=.any::.sl j 0 l.length::.ptr jb 0::.any::.v (.slice none 0 0)::.row jr ps.length::naL 5 (za all.length::za i::naL 22 [])/\K=[(s,zt b),(a,allO all),(j,.cells (l.map za) et ff),(jr,.row (ps.flatMap wayC) 222 2),(jb,.cells (knownC b s h e a all.length) 91 tt)]) all.length ⟨0,jr0,[],rfl,mN _,rfl,rfl,rfl⟩ fun n Wq K hI Wj=>?_;obtain⟨i,jr,ps,rfl,hi,hps,rfl,rfl⟩:=hI;have hpl:ps.length<=i:=by have:=congrArg List.length hps;rw[lJ,lJ]at this;have h2:=zhI b (all.take i) l;rw[List.length_take]at h2;omega
 have hfl:=kz wayC 2 (fun _=>rfl) ps;refine bG nQ ?_;refine au 923742 ?_;apply aI<;>intro Jz
 ·have Qb:i<all.length:=by simp at Jz;omega
  obtain⟨st,hst⟩:∃ st,all[i]? =some st:=⟨_,lA Qb⟩;have hsk:=ha st (List.mem_of_getElem? hst);refine au 2351421302120 ?_;refine bL [0,1,2,3,4,5,6,7,8,9,10,12,13,11,14] ?_;refine ad [[3,2],[12,16],[1,1],[3,2],[10,19],[1,6],[2,20,21]] ?_;refine bT [22] Z (hq:=zK Z Z ze.h (mC _) (zoe (i:=i) hst Z)) (h:=?_);refine TD.c2 (i1:=8) (i2:=12) (pend1:=[_,_,_,_,_]) (pend2:=[_,_,_,_,_,_,_,_]) (L1:=[9,10,11,12,13,14]) (L2:=[8,9,10,11,13,14]) [17,18,23] [] Z Z Z Z Z Z Z ?_ ?_
  ·refine vM Z Z Cal.h Z ((zhf hT hb hl hsk).mono (fun _ _ h=>zft h)) vQ fun r1 K2 h3=>⟨?_,?_⟩
   ·rcases h3 with⟨hno,rfl,rfl⟩|⟨w,q,jw,hso,rfl,rfl⟩;all_goals simp
   rcases h3 with⟨hno,rfl,rfl⟩|⟨w,q,jw,hso,rfl,rfl⟩
   ·try simp only[cA]
    refine bS (Wk:=[_,_,_,_,_,_,_,_,_,_,_,_,_,_,_,_,_,_,_,_,_,_,_,_,_,_,_,_,_,_,_,_,_,_,_]) Z ?_;refine ad [[1,24],[5,15],[5,15]] ?_;refine bX (Wx:=[_,_,_,_,_,_,_,_]) [] Z Z Z Z Z (yA Z TyZA.h) (fun _=>zD rfl tQ) sQ fun j7 hj7=>?_;refine bR (Wx:=[_]) [7,25] Z Z (zz Z Z ze.h Z Z mQ Z) ?_;refine ad [[13,26],[14]] ?_;refine au 933001422 ?_;apply aI<;>intro Jx
    ·
     refine au 312304160 ?_;refine bA [1,2,4,5,11,12] ?_;refine bC [(s,_),(a,_),(j,_),(jr,_),(jb,_)] ?_;exact Wj _ _ _ oQ ⟨i+1,jr,ps,rfl,oQ,by rw[zeB hst hno];exact hps,rfl,rfl⟩
    exact absurd Jx dQ
   ·try simp only[cA]
    refine bS (Wk:=[_,_,_,_,_,_,_,_,_,_,_,_,_,_,_,_,_,_,_,_,_,_,_,_,_,_,_,_,_,_,_,_,_,_,_]) Z ?_;refine ad [[1,24],[5,15],[5,15]] ?_;refine bX (Wx:=[_,_,_,_,_,_,_,_]) [] Z Z Z Z Z (yA Z TyZA.h) (fun _=>zD rfl tQ) sQ fun j7 hj7=>?_;refine bR (Wx:=[_]) [7,25] Z Z (zz Z Z ze.h Z Z mQ Z) ?_;refine ad [[13,26],[14]] ?_;refine au 933001422 ?_;apply aI<;>intro Jx
    ·exact absurd Jx dQ
    refine au 68014120 ?_;refine bI Z Z Z (zH (l:=[_,_]) Z zp.h TyZ.h dQ dQ Z) (fun _=>zD rfl tQ) fun j4 hj4=>?_;refine bO Z Z Z (a_app Z ApOf.h Z mQ oQ Z (yO (ln:=[_,_]) mQ dQ sQ Z) oQ Z (by unfold maxLen;omega) oQ) (fun _=>uQ) (fun _=>zD rfl tQ) fun jr2=>?_;refine au 31230414035 ?_;refine bA [1,2,4,5,11,12] ?_;refine bC [(s,_),(a,_),(j,_),(jr2,_),(jb,_)] ?_;exact Wj _ _ _ oQ ⟨i+1,jr2,ps++[(jw,w.length,q)],rfl,oQ,by rw[zeC hst hso,lM,lM,hps];rfl,by rw[lF];rfl,by rw[za7];rfl⟩
  ·refine kK Z (yA Z TyZA.h) (fun _=>zD rfl tQ) sQ fun j7 hj7=>?_;refine TD.cl (Wx:=[_,_,_,_,_]) [17,18,23] Z Z Z Z Z ((zhf hT hb hl hsk).mono (fun _ _ h=>zft h)) (fun r5 K6 h7=>⟨?_,?_⟩)
   ·rcases h7 with⟨hno,rfl,rfl⟩|⟨w,q,jw,hso,rfl,rfl⟩;all_goals simp
   rcases h7 with⟨hno,rfl,rfl⟩|⟨w,q,jw,hso,rfl,rfl⟩
   ·try simp only[cA]
    refine bS tQ ?_;refine ad [[1,24],[5,15],[5,15]] ?_;refine bR (Wx:=[_]) [7,25] Z Z (zz Z Z ze.h Z Z mQ Z) ?_;refine ad [[13,26],[14]] ?_;refine au 933001422 ?_;apply aI<;>intro Jx
    ·
     refine au 312304160 ?_;refine bA [1,2,4,5,11,12] ?_;refine bC [(s,_),(a,_),(j,_),(jr,_),(jb,_)] ?_;exact Wj _ _ _ oQ ⟨i+1,jr,ps,rfl,oQ,by rw[zeB hst hno];exact hps,rfl,rfl⟩
    exact absurd Jx dQ
   ·try simp only[cA]
    refine bS tQ ?_;refine ad [[1,24],[5,15],[5,15]] ?_;refine bR (Wx:=[_]) [7,25] Z Z (zz Z Z ze.h Z Z mQ Z) ?_;refine ad [[13,26],[14]] ?_;refine au 933001422 ?_;apply aI<;>intro Jx
    ·exact absurd Jx dQ
    refine au 68014120 ?_;refine bI Z Z Z (zH (l:=[_,_]) Z zp.h TyZ.h dQ dQ Z) (fun _=>zD rfl tQ) fun j8 hj8=>?_;refine bO Z Z Z (a_app Z ApOf.h Z mQ oQ Z (yO (ln:=[_,_]) mQ dQ sQ Z) oQ Z (by unfold maxLen;omega) oQ) (fun _=>uQ) (fun _=>zD rfl tQ) fun jr2=>?_;refine au 31230414035 ?_;refine bA [1,2,4,5,11,12] ?_;refine bC [(s,_),(a,_),(j,_),(jr2,_),(jb,_)] ?_;exact Wj _ _ _ oQ ⟨i+1,jr2,ps++[(jw,w.length,q)],rfl,oQ,by rw[zeC hst hso,lM,lM,hps];rfl,by rw[lF];rfl,by rw[za7];rfl⟩
 obtain rfl:i=all.length:=by simp at Jz;omega
 refine au 35142160 ?_;refine bB Wz [(jr,_),(s,_),(a,_),(j,_)] ?_;exact⟨jr,ps,by rw[hps,lW],rfl,rfl⟩
theorem zky{main T}(hT:zo tp main T){gm}{j off:Nat}{ob:AObj}{x:Int}{xs:List Int}(hI:∀(i:Nat)(y:Int),xs[i]? =some y->z6 ob (off+(i:Int).toNat*1) 1=some [za y])(hl:xs.length<=1000) :
  zl tp T gm 136 [za x,.sl j off xs.length] [(j,ob)] (fun r K'=>r=.agg [za (spreadM (x::xs)).1,za (spreadM (x::xs)).2]/\K'=[(j,ob)]):=by
 refine zh 27 hT Tryz.func136 fun Y Wz=>?_;refine au 22042 ?_;intro jr hjr;refine au 13031280142235511423 ?_;refine bA [4,5,6,11,12,13] ?_;refine bC [(j,_),(jr,_)] ?_;refine bE (fun n Wq K=>∃(i:Nat),n=xs.length - i/\i<=xs.length/\Wq=naL 4 (.ptr jr 0::za (spreadM (x::xs.take i)).1::za (spreadM (x::xs.take i)).2::naL 4 (.sl j off xs.length::za xs.length::za i::naL 13 []))/\K=[(j,ob),(jr,.cells [za 0,za 0] 23 tt)]) xs.length ⟨0,rfl,mN _,rfl,rfl⟩ fun n Wq K hI' Wj=>?_;obtain⟨i,rfl,hi,rfl,rfl⟩:=hI';refine bG nQ ?_;refine au 923742 ?_;apply aI<;>intro Jz
 ·have Qb:i<xs.length:=by simp at Jz;omega
  obtain⟨y,hy⟩:∃ y,xs[i]? =some y:=⟨_,lA Qb⟩;refine au 360421302120 ?_;refine bH Z (zg Z Z ze.h mQ (hI i y hy)) ?_;refine au 11435 ?_;refine bH Z (zf9 Z Z Z) ?_;refine au 11 ?_;refine bH Z (zj5 Z Z Z) ?_;refine au 312304140355 ?_;refine bA [4,5,6,11,12,13] ?_;refine bC [(j,_),(jr,_)] ?_;exact Wj _ _ _ oQ ⟨i+1,rfl,oQ,by rw[yQ hy,zgW];rfl,rfl⟩
 obtain rfl:i=xs.length:=by simp at Jz;omega
 refine au 31703901142160 ?_;refine bB Wz [(j,_)] ?_;exact⟨by rw[lW];rfl,rfl⟩
theorem ziC{main T}(hT:zo tp main T){gm}{b:RBk}{s h e a j:Nat}{l:List Int}{all:List (List Int)}{et:gT}(hb:ROk b)(hl:CutsOk b l)(ha:okAll b all)(hn:all.length<=243)(h0:0<all.length) :
  zl tp T gm 97 [.agg (knownC b s h e a all.length),.sl j 0 l.length] [(j,.cells (l.map za) et ff),(s,zt b),(a,allO all)] (fun r K'=>r=.tup [.agg [za (sqLo b all l),za (sqHi b all l)],zr (sqOk b all l)]/\K'=[(j,.cells (l.map za) et ff),(s,zt b),(a,allO all)]):=by
 refine zh 38 hT Tryz.func97 fun Y Wz=>?_;refine au 21042 ?_;intro jb hjb;refine au 220 ?_;intro jr0 hjr0;refine au 16804235 ?_;refine bD Z Z Z Z (zob hT hb hl ha hn) ?_;rintro r1 K2 ⟨jr,ps,hps,rfl,rfl⟩;refine au 0 ?_;have hpl:ps.length=(waysM b all l).length:=by have:=congrArg List.length hps;rwa[lJ,lJ]at this
 have hwl:=zhI b all l;refine au 937280690670280142235 ?_;apply aI<;>intro Jz
 ·refine au 3517039042 ?_;refine bB Wz [(j,_),(s,_),(a,_)] ?_;have Qp:(waysM b all l).length<all.length:=by rw[<- hpl];simp at Jz;omega
  exact⟨by unfold sqLo sqHi sqOk squaresM;rw[if_pos Qp];rfl,rfl⟩
 have hge:¬ ps.length<all.length:=by simp at Jz;omega
 refine au 542120 ?_;refine TK.virt 7 3 1 Z fun jt0 hjt0=>?_;refine au 1303128014223 ?_;refine bA [2,4,5,7,20,21,22] ?_;refine bC [(jr,_),(s,_),(a,_),(j,_),(jt0,_),(jb,_),(jr0,_)] ?_;refine bE (fun n Wq K=>∃(i jt:Nat),n=ps.length - i/\i<=ps.length/\Wq=naL 2 (.ptr jb 0::.any::.ptr jr0 0::zr ff::.any::.row jt i::naL 12 (.row jr ps.length::za ps.length::za i::naL 15 []))/\K=[(jr,.row (ps.flatMap wayC) 222 2),(s,zt b),(a,allO all),(j,.cells (l.map za) et ff),(jt,.row (((ps.map (·.2.2)).take i).map za) 3 1),(jb,.cells (knownC b s h e a all.length) 91 tt),(jr0,.cells [za 0,za 0] 23 tt)]) ps.length ⟨0,jt0,rfl,mN _,rfl,rfl⟩ fun n Wq K hI Wj=>?_;obtain⟨i,jt,rfl,hi,rfl,rfl⟩:=hI;refine bG nQ ?_;refine au 923742 ?_;apply aI<;>intro Jx
 ·have Qb:i<ps.length:=by simp at Jx;omega
  obtain⟨p,hp⟩:∃ p,ps[i]? =some p:=⟨_,lA Qb⟩;refine au 370421302120 ?_;refine bH Z (zK Z Z ze.h mQ (zhx (c:=2) (f:=wayC) (fun _=>rfl) hp rfl dQ)) ?_;refine au 220 ?_;intro j9 hj9;refine au 690670143170 ?_;refine bI Z Z Z (zH (l:=[_]) Z zp.h TyZ.h dQ dQ Z) (fun _=>zD rfl tQ) fun j4 hj4=>?_;refine bO Z Z Z (a_app Z ApOf.h Z mQ (by simp;omega) Z (yO (ln:=[_]) mQ dQ sQ Z) oQ Z (by unfold maxLen;omega) oQ) (fun _=>uQ) (fun _=>zD rfl tQ) fun jt2=>?_;refine au 31230414035 ?_;refine bA [2,4,5,7,20,21,22] ?_;refine bC [(jr,_),(s,_),(a,_),(j,_),(jt2,_),(jb,_),(jr0,_)] ?_;exact Wj _ _ _ oQ ⟨i+1,jt2,rfl,oQ,rfl,by rw[yQ (x:=p.2.2) (by rw[List.getElem?_map,hp];rfl),lM];rfl⟩
 obtain rfl:i=ps.length:=by simp at Jx;omega
 obtain⟨x,xs,hxs⟩:∃ x xs,ps.map (·.2.2)=x::xs:=by
  cases hh:ps with
  | nil=>rw[hh]at hge;exact absurd h0 hge
  | cons y r=>exact⟨_,_,rfl⟩
 have hxl:ps.length=xs.length+1:=by have:=congrArg List.length hxs;simpa using this
 rw[List.take_of_length_le sQ,hxs,hxl];refine au 2160 ?_;refine bL [0,1,2,3,4,5,6,7] ?_;refine ad [[1,7]] ?_;refine bT [32] Z (hq:=kT Z Z Z zp.h (mC _) oQ oQ) (h:=?_);refine ad [[10,33],[1,7]] ?_;refine bT [35] Z (hq:=wp Z Z zp.h (mC _) Z Z oQ oQ Z) (h:=?_);refine TD.clE (Wx:=[_,_,_]) [34,36] Z Z Z Z Z (zky hT (x:=x) (xs:=xs) (off:=1) (ob:=.row ((x::xs).map za) 3 1) (fun i y hy=>uB (l:=x::xs) (i:=i+1) (by simpa using hy) oQ) oQ) ?_;refine bR (Wx:=[]) [4,37] Z Z (zz Z Z ze.h Z Z mQ Z) ?_;refine ad [[13],[14]] ?_;refine au 0 ?_;refine bB Wz [(j,_),(s,_),(a,_)] ?_;have Qp:¬ (waysM b all l).length<all.length:=by rw[<- hpl];exact hge
 exact⟨by unfold sqLo sqHi sqOk squaresM;rw[if_neg Qp,<- hps,hxs];rfl,rfl⟩
theorem zcd{main T}(hT:zo tp main T){gm}{x:Int} :
  zl tp T gm 159 [za x] [] (fun r K'=>r=zr ff/\K'=[]):=by
 refine zh 6 hT Tryz.func159 fun Y Wz=>?_;refine au 35711423542 ?_;refine TK.rta Wz ?_;exact⟨by simp,rfl⟩
theorem zi5{main T}(hT:zo tp main T){gm}{x y:Int} :
  zl tp T gm 114 [za x,za y] [] (fun r K'=>r=za (if x<y then -1 else if y<x then 1 else 0)/\K'=[]):=by
 refine zh 20 hT Tryz.func114 fun Y Wz=>?_;refine au 1423542 ?_;refine TK.clE Z Z Z Z (zcd hT) ?_;refine au 14235 ?_;refine TK.clE Z Z Z Z (zcd hT) ?_;refine au 93142235 ?_;apply aI<;>intro Jz
 ·cases Jz
 refine au 931422120 ?_;apply aI<;>intro hc2
 ·cases hc2
 refine au 93711422120 ?_;apply aI<;>intro hc3
 ·refine au 3542 ?_;refine TK.rta Wz ?_;exact⟨by rw[if_pos (oT_ hc3)],rfl⟩
 refine au 93711422120 ?_;apply aI<;>intro hc4
 ·refine au 3542 ?_;refine TK.rta Wz ?_;exact⟨by rw[if_neg (oF_ hc3),if_pos (oT_ hc4)],rfl⟩
 refine au 3542120 ?_;refine TK.rta Wz ?_;exact⟨by rw[if_neg (oF_ hc3),if_neg (oF_ hc4)],rfl⟩
theorem zhZ{main T}(hT:zo tp main T){gm}{j j2:Nat}{xs ys:List Int}{e1 e2:gT}(hl:xs.length<=1000) :
  zl tp T gm 80 [.sl j 0 xs.length,.sl j2 0 ys.length] [(j,.cells (xs.map za) e1 ff),(j2,.cells (ys.map za) e2 ff)] (fun r K'=>r=za (lexM xs ys)/\K'=[(j,.cells (xs.map za) e1 ff),(j2,.cells (ys.map za) e2 ff)]):=by
 refine zh 36 hT Tryz.func80 fun Y Wz=>?_;refine au 1303128014223542 ?_;refine bA [0,1,4,9,10,11] ?_;refine bE (fun n Wq K=>∃(i:Nat),n=xs.length - i/\i<=xs.length/\lexM (xs.drop i) (ys.drop i)=lexM xs ys/\Wq=.sl j 0 xs.length::.sl j2 0 ys.length::naL 2 (za 0::naL 4 (.sl j 0 xs.length::za xs.length::za i::naL 24 []))/\K=[(j,.cells (xs.map za) e1 ff),(j2,.cells (ys.map za) e2 ff)]) xs.length ⟨0,rfl,mN _,rfl,rfl,rfl⟩ fun n Wq K hI Wj=>?_;obtain⟨i,rfl,hi,Qz,rfl,rfl⟩:=hI;refine bG nQ ?_;refine au 923742 ?_;apply aI<;>intro Jz
 ·have Qb:i<xs.length:=by simp at Jz;omega
  refine au 3601421302120 ?_;refine bH Z (zg Z Z ze.h mQ (y8 (i:=i) (yx Qb) Z)) ?_;refine au 93728011422355 ?_;apply aI<;>intro Jx
  ·refine au 3542 ?_;refine bB Wz [(j,_),(j2,_)] ?_;exact⟨by rw[<- Qz,zY (yx Qb),show ys.drop i=[] from List.drop_eq_nil_of_le (by simp at Jx;omega)];rfl,rfl⟩
  have hjl:i<ys.length:=by simp at Jx;omega
  refine au 3601142120 ?_;refine bH Z (zg Z Z ze.h mQ (y8 (i:=i) (yx hjl) Z)) ?_;refine au 114235 ?_;refine TK.clE Z Z Z Z (zi5 hT) ?_;refine au 93714235 ?_;apply aI<;>intro hc2
  ·refine au 35142 ?_;refine bB Wz [(j,_),(j2,_)] ?_;exact⟨by rw[<- Qz,zY (yx Qb),zY (yx hjl)];simp only[lexM];split <;> (try rfl);split <;> (try rfl);simp_all,rfl⟩
  have hnl:¬ cutN xs i<cutN ys i:=fun hh=>by rw[if_pos hh]at hc2;simp at hc2
  have hng:¬ cutN ys i<cutN xs i:=fun hh=>by rw[if_neg hnl,if_pos hh]at hc2;simp at hc2
  refine au 312304140120 ?_;refine bA [0,1,4,9,10,11] ?_;refine bC [(j,_),(j2,_)] ?_;exact Wj _ _ _ oQ ⟨i+1,rfl,oQ,by rw[<- Qz,zY (yx Qb),zY (yx hjl)];simp only[lexM];rw[if_neg hnl,if_neg hng],rfl,rfl⟩
 obtain rfl:i=xs.length:=by simp at Jz;omega
 refine au 93728012801422160 ?_;apply aI<;>intro hc3
 ·refine au 3542 ?_;refine bB Wz [(j,_),(j2,_)] ?_;exact⟨by rw[<- Qz,List.drop_length];simp at hc3;rw[zY (yx (l:=ys) (k:=xs.length) oQ)];rfl,rfl⟩
 refine au 3542120 ?_;refine bB Wz [(j,_),(j2,_)] ?_;exact⟨by rw[<- Qz,List.drop_length];simp at hc3;rw[List.drop_eq_nil_of_le oQ];rfl,rfl⟩
theorem ziB{main T}(hT:zo tp main T){gm}{j j2:Nat}{xs ys:List Int}{e1 e2:gT}(hl:xs.length<=1000) :
  zl tp T gm 102 [.sl j 0 xs.length,.sl j2 0 ys.length] [(j,.cells (xs.map za) e1 ff),(j2,.cells (ys.map za) e2 ff)] (fun r K'=>r=zr (smallerM xs ys)/\K'=[(j,.cells (xs.map za) e1 ff),(j2,.cells (ys.map za) e2 ff)]):=by
 refine zh 23 hT Tryz.func102 fun Y Wz=>?_;refine au 1728012801423542 ?_;refine bF 10 (fun g1_6=>?_) (fun g1_6=>?_)
 ·refine au 3526088888888888 ?_;refine bB Wz [(j,_),(j2,_)] ?_;exact⟨by simp at g1_6;simp[smallerM,g1_6],rfl⟩
 refine au 1728012801 ?_;refine bF 16 (fun g1_12=>?_) (fun g1_12=>?_)
 ·refine au 11 ?_;refine TK.clE Z Z Z Z (zhZ hT hl) ?_;refine au 352502607 ?_;refine bB Wz [(j,_),(j2,_)] ?_;exact⟨by simp at g1_6 g1_12;unfold smallerM;rw[decide_eq_false (show ¬ xs.length<ys.length by omega),decide_eq_true (show xs.length=ys.length by omega)];rfl,rfl⟩
 refine au 352502508888 ?_;refine bB Wz [(j,_),(j2,_)] ?_;exact⟨by simp at g1_6 g1_12;unfold smallerM;rw[decide_eq_false (show ¬ xs.length<ys.length by omega),decide_eq_false (show ¬ xs.length=ys.length by omega)];rfl,rfl⟩
theorem ziz{main T}(hT:zo tp main T){gm}{j j2:Nat}{xs ys:List Int}{e1 e2:gT}{p q:Int}(hl:xs.length<=1000) :
  zl tp T gm 43 [.agg [.sl j 0 xs.length,za p],.agg [.sl j2 0 ys.length,za q]] [(j,.cells (xs.map za) e1 ff),(j2,.cells (ys.map za) e2 ff)] (fun r K'=>r=zr (shorterM (xs,p) (ys,q))/\K'=[(j,.cells (xs.map za) e1 ff),(j2,.cells (ys.map za) e2 ff)]):=by
 refine zh 10 hT Tryz.func43 fun Y Wz=>?_;refine au 21042 ?_;intro jx1 hjx1;refine au 210 ?_;intro jx2 hjx2;refine au 6906706906704235 ?_;refine TK.clE Z Z Z Z (ziB hT hl) ?_;refine au 35 ?_;refine bB Wz [(j,_),(j2,_)] ?_;exact⟨rfl,rfl⟩
end Go.Vel
namespace Go.Vel
open Go Go.Conc
theorem zcf:∀(x y:List Int),lexM x y = -lexM y x
 | [],[]=>rfl
 | [],_::_=>rfl
 | _::_,[]=>rfl
 | a::x,b::y=>by
  have:=zcf x y;simp only[lexM];by_cases h1:a<b
  ·rw[if_pos h1,if_neg oQ,if_pos h1]
  ·rw[if_neg h1];by_cases h2:b<a
   ·rw[if_pos h2,if_pos h2];rfl
   ·rw[if_neg h2,if_neg h2,if_neg h1,this]
theorem zfJ:∀(x y:List Int),lexM x y=0->x=y
 | [],[],_=>rfl
 | [],_::_,h=>by cases h
 | _::_,[],h=>by cases h
 | a::x,b::y,h=>by
  simp only[lexM]at h;split at h
  ·cases h
  ·split at h
   ·cases h
   ·rw[show a=b by omega,zfJ x y h]
theorem zfI:∀ x:List Int,lexM x x=0
 | []=>rfl
 | a::x=>by simp only[lexM];rw[if_neg oQ,if_neg oQ];exact zfI x
theorem zea:∀(x y z:List Int),lexM x y<0->lexM y z<0->lexM x z<0
 | [],[],z,h,_=>by simp[lexM]at h
 | [],_::_,[],_,h=>by simp[lexM]at h
 | [],_::_,_::_,_,_=>by simp[lexM]
 | _::_,[],_,h,_=>by simp[lexM]at h
 | _::_,_::_,[],_,h=>by simp[lexM]at h
 | a::x,b::y,c::z,h1,h2=>by
  simp only[lexM]at h1 h2 ⊢;by_cases q1:a<b
  ·by_cases q2:b<c
   ·rw[if_pos oQ];omega
   ·rw[if_neg q2]at h2;by_cases q3:c<b
    ·rw[if_pos q3]at h2;omega
    ·rw[if_pos oQ];omega
  ·rw[if_neg q1]at h1;by_cases q4:b<a
   ·rw[if_pos q4]at h1;omega
   ·rw[if_neg q4]at h1;by_cases q2:b<c
    ·rw[if_pos oQ];omega
    ·rw[if_neg q2]at h2;by_cases q3:c<b
     ·rw[if_pos q3]at h2;omega
     ·rw[if_neg q3]at h2;rw[if_neg oQ,if_neg oQ];exact zea x y z h1 h2
theorem kH(x y:List Int):smallerM x y=tt↔x.length<y.length\/(x.length=y.length/\lexM x y<0):=by
 unfold smallerM;simp
theorem zeO{x y z:List Int}(h1:smallerM x y=tt)(h2:smallerM y z=tt):smallerM x z=tt:=by
 rw[kH]at *
 rcases h1 with h1|⟨h1,h3⟩ <;> rcases h2 with h2|⟨h2,h4⟩
 ·left;omega
 ·left;omega
 ·left;omega
 ·right;exact⟨by omega,zea x y z h3 h4⟩
theorem zgU(x y:List Int):x=y\/smallerM x y=tt\/smallerM y x=tt:=by
 by_cases h1:x.length<y.length
 ·right;left;rw[kH];exact .inl h1
 ·by_cases h2:y.length<x.length
  ·right;right;rw[kH];exact .inl h2
  ·have e:x.length=y.length:=by omega
   have ha:=zcf x y;by_cases h3:lexM x y=0
   ·exact .inl (zfJ x y h3)
   ·by_cases h4:lexM x y<0
    ·right;left;rw[kH];exact .inr ⟨e,h4⟩
    ·right;right;rw[kH];exact .inr ⟨e.symm,oQ⟩
theorem zgk{x y:List Int}(h:smallerM x y=tt):smallerM y x=ff:=by
 cases h2:smallerM y x with
 | false=>rfl
 | true =>
  rw[kH]at h h2;have:=zcf x y;omega
theorem zeN(p q r:List Int×Int)(h1:shorterM p q=tt)(h2:shorterM q r=tt):shorterM p r=tt:=zeO h1 h2
end Go.Vel
namespace Go.Vel
open Go Go.Conc Go.Proofs
theorem zmO{x y:Int}(h:bar2 x y=0):y=0:=by
 have:=ziS h;rwa[zcB this]at h
theorem zb4{c:Nat}:∀(i:Nat)(x:Int),x∈zE c i->0<=x/\x<i
 | 0,x,h=>by cases h
 | i+1,x,h=>by
  unfold zE at h;rcases lT.1 h with h|h
  ·have:=zb4 i x h;omega
  ·split at h
   ·rw[lS.1 h];omega
   ·cases h
theorem zeY{c:Nat}:∀ i,(zE c i).Pairwise (· < ·)
 | 0=>.nil
 | i+1=>by
  unfold zE;refine List.pairwise_append.2 ⟨zeY i,?_,fun x hx y hy=>?_⟩
  ·split <;> simp
  ·have:=zb4 i x hx;split at hy
   ·rw[lS.1 hy];omega
   ·cases hy
theorem zdP{b:RBk}(hb:ROk b){c:Nat}(h0:0<c)(hc:c<2 ^ b.sE.length):CutsOk b (zE c b.sE.length):=by
 have h5:=hb.sms.len;refine⟨?_,fun n hn=>zb4 _ n hn,zeY _⟩;rcases mP (zE c b.sE.length).length with h|h
 ·have:=uE h5.2 hc (List.length_eq_zero_iff.1 h);omega
 ·exact h
theorem zkS{m c d:Nat}(hm:m<=5)(hc:c<2 ^ m)(hd:d<2 ^ m)(h:zE c m=zE d m):c=d:=by
 have key:∀(m:Fin 6)(c d:Fin 32),c.1<2 ^ m.1->d.1<2 ^ m.1->zE c.1 m.1=zE d.1 m.1->c.1=d.1:=by decide +kernel
 have:2 ^ m<=2 ^ 5:=Nat.pow_le_pow_right dQ hm;exact key ⟨m,oQ⟩ ⟨c,oQ⟩ ⟨d,oQ⟩ hc hd h
theorem zjW{Ψ:gG->World->Prop}{gm:Nat->Option Nat}{b:RBk}{s h e a:Nat}{all:List (List Int)}{gF:FuncId}{bt:List Int×Int->List Int×Int->Bool}(hb:ROk b)(ha:okAll b all)(hn:all.length<=243)(h0:0<all.length)
  (htr:∀ p q r,bt p q=tt->bt q r=tt->bt p r=tt) (htot:∀ b1 c1,0<b1->b1<2 ^ b.sE.length->0<c1->c1<2 ^ b.sE.length->(zE b1 b.sE.length,sqHi b all (zE b1 b.sE.length))=(zE c1 b.sE.length,sqHi b all (zE c1 b.sE.length))\/bt (zE b1 b.sE.length,sqHi b all (zE b1 b.sE.length)) (zE c1 b.sE.length,sqHi b all (zE c1 b.sE.length))=tt\/bt (zE c1 b.sE.length,sqHi b all (zE c1 b.sE.length)) (zE b1 b.sE.length,sqHi b all (zE b1 b.sE.length))=tt)
  (hbt:∀{T:gG->Hp->Prop},zo tp ff T->∀(jr:Nat)(cs:List Int)(cost:Int)(cs0:List Int)(cost0:Int)(j0:Nat)(e0:gT),cs.length<=5->CallFK tp T gm (.fn gF [] []) [.agg [.sl jr 0 cs.length,.v (.int .i64 cost)],.agg [.sl j0 0 cs0.length,.v (.int .i64 cost0)]] [(jr,.cells (cs.map fun a=>.v (.int .i64 a)) 3 ff),(j0,.cells (cs0.map fun a=>.v (.int .i64 a)) e0 ff)] (fun r K'=>r=.v (.bool (bt (cs,cost) (cs0,cost0)))/\K'=[(jr,.cells (cs.map fun a=>.v (.int .i64 a)) 3 ff),(j0,.cells (cs0.map fun a=>.v (.int .i64 a)) e0 ff)])) :
  zl tp (BT tp Ψ) gm 42 [.agg (knownC b s h e a all.length),.fn gF [] []] [(s,zt b),(a,allO all)] (fun r K'=>PlanR [(s,zt b),(a,allO all)] b.sE.length bt (fun c=>sqHi b all (zE c b.sE.length)) (fun c=>sqOk b all (zE c b.sE.length)) r K'):=by
 refine znL (lw:=fun c=>sqLo b all (zE c b.sE.length)) hb.sms.len (fun z hz=>?_) htr (fun b1 c1 h1 h2 h3 h4 _ _=>htot b1 c1 h1 h2 h3 h4) (fun c Jz Jx jr T hT=>?_) hbt
 ·simp only[List.mem_cons,List.not_mem_nil,or_false]at hz;rcases hz with rfl|rfl
  ·refine⟨_,_,fun e=>?_,rfl⟩;have:=congrArg List.length e;rw[kz seamC 5 (fun _=>rfl)]at this;have h1:=hb.sms.len;have:b.sE.length*5=0:=this;omega
  ·refine⟨_,_,fun e=>?_,rfl⟩;have:=congrArg List.length e;rw[kz stC 5 (fun _=>rfl)]at this;have:all.length*5=0:=this;omega
 ·exact ziC hT (j:=jr) (et:=3) hb (zdP hb Jz Jx) ha hn h0
theorem zku{b:RBk}(hb:ROk b){all:List (List Int)}(b1 c1:Nat)(h1:0<b1)(h2:b1<2 ^ b.sE.length)(h3:0<c1)(h4:c1<2 ^ b.sE.length):(zE b1 b.sE.length,sqHi b all (zE b1 b.sE.length))=(zE c1 b.sE.length,sqHi b all (zE c1 b.sE.length))\/shorterM (zE b1 b.sE.length,sqHi b all (zE b1 b.sE.length)) (zE c1 b.sE.length,sqHi b all (zE c1 b.sE.length))=tt\/shorterM (zE c1 b.sE.length,sqHi b all (zE c1 b.sE.length)) (zE b1 b.sE.length,sqHi b all (zE b1 b.sE.length))=tt:=by
 rcases zgU (zE b1 b.sE.length) (zE c1 b.sE.length)with h|h|h
 ·left;rw[zkS hb.sms.len.2 h2 h4 h]
 ·exact .inr (.inl h)
 ·exact .inr (.inr h)
def PlanA(b:RBk)(all:List (List Int))(bt:List Int×Int->List Int×Int->Bool)(c:Nat):Prop:=0<c/\c<2 ^ b.sE.length/\sqOk b all (zE c b.sE.length)=tt/\∀ d,0<d->d<2 ^ b.sE.length->sqOk b all (zE d b.sE.length)=tt->(zE d b.sE.length,sqHi b all (zE d b.sE.length))=(zE c b.sE.length,sqHi b all (zE c b.sE.length))\/bt (zE c b.sE.length,sqHi b all (zE c b.sE.length)) (zE d b.sE.length,sqHi b all (zE d b.sE.length))=tt
def NoPlan(b:RBk)(all:List (List Int)):Prop:=∀ d,0<d->d<2 ^ b.sE.length->sqOk b all (zE d b.sE.length)=ff
theorem zjk{Ψ:gG->World->Prop}{b:RBk}{s h e:Nat}(hl:b.sE.length<=100)(hm:b.mE.length<=100) :
  zl tp (BT tp Ψ) gmR 9 [.agg (zP b s h e)] [(2,checksG),(s,zt b),(h,zX b),(e,zG b)] (fun r K'=>(checkM b≠0/\r=.tup [.v (.slice none 0 0),zr ff,za (checkM b)]/\K'=[(2,checksG),(s,zt b),(h,zX b),(e,zG b)])\/(checkM b=0/\z8 b=[]/\r=.tup [.v (.slice none 0 0),zr ff,za 9]/\K'=[(2,checksG),(s,zt b),(h,zX b),(e,zG b)])\/(checkM b=0/\z8 b≠[]/\((NoPlan b (z8 b)/\r=.tup [.v (.slice none 0 0),zr ff,za 0]/\K'=[(2,checksG),(s,zt b),(h,zX b),(e,zG b)])\/∃ c jc ec,PlanA b (z8 b) shorterM c/\r=.tup [.sl jc 0 (zE c b.sE.length).length,zr tt,za 0]/\K'=(jc,.cells ((zE c b.sE.length).map za) ec ff)::[(2,checksG),(s,zt b),(h,zX b),(e,zG b)]))):=by
 have hT:=kI (P:=tp) Ψ;refine zh 23 hT Tryz.func9 fun Y Wz=>?_;refine au 21042 ?_;intro jb hjb;refine au 680423555 ?_;refine bD Z Z Z Z (zd9 hT (Kx:=[]) hl hm) ?_;rintro r1 K2 h3;rcases h3 with⟨Wv,rfl,rfl⟩|⟨Wv,hnil,rfl,rfl⟩|⟨Wv,hne,a,rfl,rfl⟩
 ·refine au 220661 ?_;intro j6 hj6;refine au 937142235170 ?_;apply aI<;>intro Jz
  ·
   refine au 3555142 ?_;refine bB Wz [(2,_),(s,_),(h,_),(e,_)] ?_;exact .inl ⟨Wv,rfl,rfl⟩
  exact absurd Wv (by simpa using Jz)
 ·refine au 220661 ?_;intro j6 hj6;refine au 937142235170 ?_;apply aI<;>intro Jz
  ·
   refine au 3555142 ?_;refine bB Wz [(2,_),(s,_),(h,_),(e,_)] ?_;exact .inr (.inl ⟨Wv,hnil,rfl,rfl⟩)
  exact absurd Jz dQ
 ·refine au 220661 ?_;intro j6 hj6;refine au 937142235170 ?_;apply aI<;>intro Jz
  ·exact absurd Jz sQ
  have hbb:=kQ Wv;have Wb:=zde hbb;have Qx:0<(z8 b).length:=List.length_pos_iff.2 hne;have hall:okAll b (z8 b):=fun st hst=>(ziF hbb hst).1;refine au 68042120 ?_;refine bD Z Z Z Z (zjW (bt:=shorterM) hbb hall Wb Qx zeN (zku hbb) (fun hT1 jr cs cost cs0 cost0 j0 e0 Wb=>yC Cal.h (ziz hT1 oQ))) ?_;rintro r4 K5 h6;rcases h6 with⟨rfl,rfl,hno⟩|⟨c,jc,ec,hq0,hq1,hok,hbest,rfl,rfl⟩
  ·refine au 220661 ?_;intro j7 hj7;refine au 355516906704235170 ?_;refine bB Wz [(2,_),(s,_),(h,_),(e,_)] ?_;exact .inr (.inr ⟨Wv,hne,.inl ⟨hno,rfl,rfl⟩⟩)
  ·refine au 220661 ?_;intro j7 hj7;refine au 355516906704235170 ?_;refine bB Wz [(jc,_),(2,_),(s,_),(h,_),(e,_)] ?_;exact .inr (.inr ⟨Wv,hne,.inr ⟨c,jc,ec,⟨hq0,hq1,hok,hbest⟩,rfl,rfl⟩⟩)
end Go.Vel
namespace Go.Vel
open Go Go.Conc
section
variable {P:gP}{gm:Nat->Option Nat}{Wq:List AV}{A A':List AObj}{o:Oper}{V:KV}
theorem zlW{d:gO}{t e:gT}{ti:TypeInfo}{z:Value}{i off m:Nat}(ho:o.op=.call { callee:=.builtin .clear,args:=#[d],argTypes:=#[t] })(ht:P.underlying t=some (.slice e))(hi:P.info? e=some ti)(hz:ti.zero=some z)(hzc:z.cells=#[.int .i64 0])(hd:zT gm Wq d=.sl i off m)(hm:0<m)(hs:storeA A i off (mB m (.v (.int .i64 0)))=some A') :
  OpOk P gm Wq A o (.tup []) A':=fun φ F H a hg hH hE=>by
 rw[ko ho];have hd':=zy hg hE d;rw[hd]at hd';obtain⟨Qb,cap,b,hlc,hb,ed⟩:=zcP hd';simp only[builtin,List.map_toArray,List.map_cons,List.map_nil];refine wpS_v ?_;rw[ed,hb hm];obtain⟨m',rfl⟩:∃ m',m=m'+1:=⟨m - 1,oQ⟩;unfold Builtin.clear_;dsimp only;show wpS P (underlying t >>= _) H _;refine zf _ _ _ (zB ht ?_);refine zf _ _ _ (kD hi hz ?_);have hzz:(Builtin.zeroCells z.cells (m'+1)).toList=(Array.replicate (m'+1) (Value.int .i64 0)).toList:=by
  rw[hzc];unfold Builtin.zeroCells;apply List.ext_getElem
  ·simp
  ·intro i h1 h2;simp[Nat.mod_one]
 rw[hzz];refine zf _ _ _ (zeH hH hs (ys:=Array.replicate (m'+1) (Value.int .i64 0)) ?_ fun H' hH' Wb=>?_)
 ·have:=zbG φ A.length (Array.replicate (m'+1) (Value.int .i64 0));simpa using this
 ·exact⟨_,φ,.inl rfl,Agr.refl _ _,oQ,hH',.tup rfl fun j a y ha=>by simp at ha⟩
theorem znO{d:gO}{t e:gT}{i off m:Nat}{ob ob':AObj}(ho:o.op=.call { callee:=.builtin .clear,args:=#[d],argTypes:=#[t] })(ha:apOf P t=some (e,1,8))(hz:tyZero P e=some [.int .i64 0])(hd:zn gm Wq d=some (.sl i off m))(hm:0<m)(hi:(i,ob)∈V)(hs:putO ob off (mB m (.v (.int .i64 0)))=some ob') :
  ∀ A,zU V A->OpOk P gm Wq A o (.tup []) (A.set i ob'):=fun A hA=>by
 unfold apOf at ha;split at ha
 ·rename_i e' h1;split at ha
  ·rename_i ti h2;split at ha
   ·rename_i z h3;split at ha
    ·rename_i h4;simp only[Option.some.injEq,Prod.mk.injEq]at ha;obtain⟨rfl,h5,h6⟩:=ha;obtain⟨i',z',g1,g2,g3⟩:=wS hz;rw[h2]at g1;cases g1;rw[h3]at g2;cases g2;exact zlW ho h1 h2 h3 (by rw[<- Array.toList_inj,g3]) (zq hd) hm (zez (hA.get hi) hs)
    ·cases ha
   ·cases ha
  ·cases ha
 ·cases ha
end
theorem zht{xs:List Int}{k:Nat}{n v:Int}{e:gT}{s:Nat}(h:k<xs.length)(hn:n=(k:Int)):putO (.row (xs.map za) e s) (n.toNat*1) [za v]=some (.row ((xs.set k v).map za) e s):=by
 subst hn;unfold putO;dsimp only;rw[if_pos ⟨by simp;omega,by simp,rfl⟩,zgf _ _ _ (by simp;omega),List.map_set];simp
theorem zgg(c:AV):∀(m:Nat)(l:List AV)(k:Nat),k+m=l.length->setL l k (mB m c)=l.take k++mB m c
 | 0,l,k,h=>by simp[setL,List.take_of_length_le (by omega:l.length<=k)]
 | m+1,l,k,h=>by
  rw[List.replicate_succ];show setL (l.set k c) (k+1) (mB m c)=_;rw[zgg c m (l.set k c) (k+1) (by rw[List.length_set];omega),List.take_add_one,List.getElem?_set_self oQ,List.take_set_of_le (mL _)];simp
theorem zl8{xs:List Int}{k m:Nat}{e:gT}{s:Nat}(h:k+m=xs.length)(hm:0<m):putO (.row (xs.map za) e s) k (mB m (.v (.int .i64 0)))=some (.row ((xs.take k++mB m 0).map za) e s):=by
 unfold putO;dsimp only;rw[if_pos ⟨by simp;omega,by simpa using hm,by simp[oneA,oneCell]⟩,zgg _ _ _ _ (by simpa using h),lM,List.map_take,List.map_replicate]
def compN(xs:List Int):Nat->List Int
 | 0=>[]
 | 1=>xs.take 1
 | p+2=>compN xs (p+1)++(if cutN xs p=cutN xs (p+1)then []else [cutN xs (p+1)])
def compM(xs:List Int):List Int:=compN xs xs.length
theorem zdU(xs:List Int):∀ p,p<=xs.length->(compN xs p).length<=p
 | 0,_=>by simp[compN]
 | 1,_=>by simp[compN];omega
 | p+2,h=>by
  have:=zdU xs (p+1) oQ;unfold compN;rw[lF];split <;> simp <;> omega
theorem um{xs:List Int}{p:Nat}(h:cutN xs p=cutN xs (p+1)):compN xs (p+2)=compN xs (p+1):=by
 conv=>lhs;unfold compN
 rw[if_pos h,lR]
theorem un{xs:List Int}{p:Nat}(h:cutN xs p≠cutN xs (p+1)):compN xs (p+2)=compN xs (p+1)++[cutN xs (p+1)]:=by
 conv=>lhs;unfold compN
 rw[if_neg h]
end Go.Vel
namespace Go.Vel
open Go Go.Conc Go.Proofs
theorem ky{main T}(hT:zo tp main T){gm}{x y:Int} :
  zl tp T gm 154 [za x,za y] [] (fun r K'=>r=zr (decide (x<y))/\K'=[]):=by
 refine zh 17 hT Tryz.func154 fun Y Wz=>?_;refine au 1423542 ?_;refine TK.clE Z Z Z Z (zcd hT) ?_;refine au 1 ?_;refine bF 7 (fun g1_3=>?_) (fun g1_3=>?_)
 ·cases g1_3
 refine au 352507111250888 ?_;refine TK.rta Wz ?_;exact⟨rfl,rfl⟩
section
variable {P:gP}{gm:Nat->Option Nat}{T:gG->Hp->Prop}{Y:KX P gm T}{ds:List Nat}{k:List Item}{Wq Wk:List AV}{K:KV}
theorem TK.asSl(d:Nat){j n:Nat}{l:List AV}{e:gT}{s:Nat}(hd:Wq[d]? =some (.row j n))(hm:(j,.row l e s)∈K)(h:TK Y ds k (Wq.set d (.sl j 0 n)) K):TK Y ds k Wq K:=fun A hA φ H ts h1 h2 h3 h4 h5 h6=>by
 have hj:=hA.view.get hm;have hb:(φ j).base=0:=(h5.obj j _ hj).2.1;have hr:∀ y,RelV φ A.length (.row j n) y->RelV φ A.length (.sl j 0 n) y:=fun y hy=>by
  have:=wJ (j:=j) hb hy;simpa[unrow]using this
 exact h _ hA φ H ts h1 h2 h3 h4 h5 (by simpa using h6.set' hd hr)
end
theorem zf7{xs:List Int}{k:Nat}{n v:Int}{e:gT}{s:Nat}(h:k<xs.length)(hn:n=(k:Int)):putO (.row (xs.map za) e s) (0+n.toNat*1) [za v]=some (.row ((xs.set k v).map za) e s):=by
 rw[mO];exact zht h hn
theorem za4{xs:List Int}:∀ p,p<=xs.length->(compN xs p).length=p->compN xs p=xs.take p
 | 0,_,_=>by simp[compN]
 | 1,_,_=>by simp[compN]
 | p+2,h,hl=>by
  have h1:=zdU xs (p+1) oQ;by_cases e:cutN xs p=cutN xs (p+1)
  ·rw[um e]at hl;omega
  ·rw[un e]at hl ⊢;rw[lF,List.length_singleton]at hl;rw[za4 (p+1) oQ oQ];exact(yQ (yx oQ)).symm
theorem za3{xs:List Int}{w i:Nat}{C:List Int}(hC:C.length=w)(h:w<=i)(hi:i<xs.length):(C++xs.drop w)[i]? =some (cutN xs i):=by
 rw[List.getElem?_append_right oQ,List.getElem?_drop,hC,show w+(i - w)=i by omega];exact yx hi
theorem zkW{xs C:List Int}{w:Nat}{v:Int}(hC:C.length=w)(h:w<xs.length):(C++xs.drop w).set w v=(C++[v])++xs.drop (w+1):=by
 rw[List.set_append_right _ _ oQ,hC,Nat.sub_self,zY (yx h),List.set_cons_zero,List.append_assoc];rfl
theorem zjY{xs C:List Int}{k m off:Nat}{e:gT}{s:Nat}(hC:C.length=k)(ho:off=k)(h:k+m=(C++xs.drop k).length)(hm:0<m):putO (.row ((C++xs.drop k).map za) e s) off (mB m (.v (.int .i64 0)))=some (.row ((C++mB m 0).map za) e s):=by
 subst ho;rw[zl8 h hm,List.take_left' hC]
end Go.Vel
namespace Go.Vel
open Go Go.Conc
section
variable {P:gP}{gm:Nat->Option Nat}{T:gG->Hp->Prop}{Y:KX P gm T}{ds:List Nat}{k:List Item}{Wq Wk:List AV}{K K' K1:KV}{Qy:Array Oper}{i:Nat}{Wp:List Nat}{o:Oper}{envf:Nat->List AV}
theorem TK.appG{s x:gO}{t e:gT}{size bytes j n m:Nat}{lo ln:List AV}{u:AV}{K'':Nat->KV}(ho:Qy[i]? =some o)(hw:zM Qy Wq o=some tt)(Qw:o.op=.call { callee:=.builtin .append,args:=#[s,x],argTypes:=#[t,t] })(ht:apOf P t=some (e,size,bytes))(hs:zn gm Wq s=some (.row j n))(hm:(j,.row lo e size)∈K)(hlo:lo.length=n*size)(hx:zn gm Wq x=some u)(hl:lenA u=some m)(hsrc:0<m->srcO K size u m ln)(hln:m=0->ln=[])
  (hone:ln.all oneA=tt) (hmax:n+m<=maxLen) (hbytes:(n+m)*bytes<=140737488355328) (hu:∀ j',Upd K j (.row lo e size) j' (.row (lo++ln) e size) (K'' j')) (he:∀ j',zV Wq o.dst (.row j' (n+m))=envf j') (h:∀ j',TK Y ds (.inRegion Qy Wp::k) (envf j') (K'' j')):TK Y ds (.inRegion Qy (i::Wp)::k) Wq K:=by
 rcases mP m with e0|Qx
 ·subst e0;have hk:K'' j=K:=(hu j).same (by rw[hln rfl,lR]);have ht':=ht;unfold apOf at ht';split at ht'
  ·rename_i e' h1;split at ht'
   ·rename_i ti h2;refine TK.q (r:=.row j n) ho (by rw[Qw];rfl) hw (zj0 Qw h1 h2 hs hx hl) (he j) ?_;rw[<- hk];exact h j
   ·cases ht'
  ·cases ht'
 ·exact bO ho (by rw[Qw];rfl) hw (a_app Qw ht hs hm hlo hx (hsrc Qx) Qx hone hmax hbytes) hu he h
end
theorem uR{l:List AV}{e:gT}{rw':Bool}{n size:Nat}(hl:l.length=n*size)(h:0<n*size):z6 (.cells l e rw') 0 (n*size)=some l:=by
 simp only[z6,AObj.look,mO,List.drop_zero];rw[if_pos ⟨h,oQ⟩,<- hl,lW]
theorem zaB{α:Type}(f:α->List AV)(h:∀ x,(f x).all oneA=tt)(xs:List α):(xs.flatMap f).all oneA=tt:=by
 induction xs with
 | nil=>rfl
 | cons x xs ih=>rw[List.flatMap_cons,List.all_append,h,ih];rfl
end Go.Vel
namespace Go.Vel
open Go Go.Conc Go.Proofs
def AgrR(b:RBk)(K:KV)(r:AV)(K':KV):Prop:=(checkM b≠0/\r=.tup [.agg z7R,za (checkM b)]/\K'=K)\/(checkM b=0/\z8 b=[]/\r=.tup [.agg z7R,za 9]/\K'=K)\/(checkM b=0/\z8 b≠[]/\∃ s h e,r=.tup [.agg (zP b s h e),za 0]/\K'=(s,zt b)::(h,zX b)::(e,zG b)::K)
def driedB(b:RBk)(i:Nat)(x:RBand):RBk:={ b with sH:=b.sH.set i x }
theorem zl7{xs:List RBand}{i:Nat}{n:Int}{x:RBand}{e:gT}(h:i<xs.length)(hn:n=(i:Int)):putO (.row (xs.flatMap bandC) e 2) (n.toNat*2) (bandC x)=some (.row ((xs.set i x).flatMap bandC) e 2):=by
 subst hn;unfold putO;dsimp only;have hl:=kz bandC 2 (fun _=>rfl) xs;rw[if_pos ⟨by rw[hl];simp[bandC];omega,by simp[bandC],rfl⟩];have key:∀(xs:List RBand)(i:Nat),i<xs.length->setL (xs.flatMap bandC) (i*2) (bandC x)=(xs.set i x).flatMap bandC:=by
  intro xs
  induction xs with
  | nil=>intro i hi;simp at hi
  | cons y r ih =>
   intro i hi;cases i with
   | zero=>rfl
   | succ i =>
    have:=ih i (by simpa using hi);rw[show(i+1)*2=i*2+2 by omega,List.set_cons_succ,List.flatMap_cons,List.flatMap_cons,<- this];rfl
 rw[Int.toNat_natCast,key xs i h]
instance:ApOf tp 28 183 5 40:={}
instance:ApOf tp 29 23 2 16:={}
instance:ApOf tp 30 108 3 24:={}
instance:BlOf tp 32 [(0,1),(1,1),(2,1),(3,1),(4,1),(5,1),(6,1)]:={}
instance:TyZ tp 108 [.int .i64 0,.int .i64 0,.int .i64 0]:={}
instance:TyZ tp 183 [.int .i64 0,.int .i64 0,.int .i64 0,.int .i64 0,.bool ff]:={}
instance:TyZ tp 32 [.int .i64 0,.int .i64 0,.int .i64 0,.int .i64 0,.slice none 0 0,.slice none 0 0,.slice none 0 0]:={}
instance:TyZA tp 32 [.v (.int .i64 0),.v (.int .i64 0),.v (.int .i64 0),.v (.int .i64 0),.v (.slice none 0 0),.v (.slice none 0 0),.v (.slice none 0 0)]:={}
theorem zhV{main T}(hT:zo tp main T){gm}{j n:Nat}{l:List AV}{et:gT}{rw':Bool}(hl:l.length=n*5)(hone:l.all oneA=tt)(hn:n<=100000) :
  zl tp T gm 117 [.sl j 0 n] [(j,.cells l et rw')] (fun r K'=>∃ j2,r=.row j2 n/\K'=[(j,.cells l et rw'),(j2,.row l 183 5)]):=by
 refine zh 8 hT Tryz.func117 fun Y Wz=>?_;refine au 14223542 ?_;refine TK.nilT Z Z Z Z Und.h fun tz hz=>?_;refine au 93 ?_;apply aI<;>intro Jz
 ·refine au 542 ?_;refine TK.virt 2 183 5 Z fun j0 hj0=>?_;refine au 3 ?_;refine bB Wz [(j,_),(j0,_)] ?_;obtain rfl:=hz Jz;obtain rfl:=lK (by simpa using hl);exact⟨_,rfl,rfl⟩
 refine au 42120 ?_;refine bI Z Z Z (zH (l:=[]) Z zp.h TyZ.h dQ dQ Z) (fun _=>zD rfl tQ) fun j1 hj1=>?_;refine au 1 ?_;refine TK.appG (envf:=fun _=>[_,_,_,_,_,_,_,_]) (ln:=l) rfl rfl rfl ApOf.h rfl mQ rfl rfl rfl (fun hp=>zan mQ oQ (uR hl oQ)) (fun h=>by subst h;exact lK (by simpa using hl)) hone (by unfold maxLen;omega) oQ (fun _=>uQ) (fun _=>rfl) fun j2=>?_;simp only[lC,mO];refine au 35 ?_;refine bB Wz [(j,_),(j2,_)] ?_;exact⟨_,rfl,rfl⟩
theorem zcG{main T}(hT:zo tp main T){gm}{j n:Nat}{l:List AV}{et:gT}{rw':Bool}(hl:l.length=n*2)(hone:l.all oneA=tt)(hn:n<=100000) :
  zl tp T gm 39 [.sl j 0 n] [(j,.cells l et rw')] (fun r K'=>∃ j2,r=.row j2 n/\K'=[(j,.cells l et rw'),(j2,.row l 23 2)]):=by
 refine zh 8 hT Tryz.func39 fun Y Wz=>?_;refine au 14223542 ?_;refine TK.nilT Z Z Z Z Und.h fun tz hz=>?_;refine au 93 ?_;apply aI<;>intro Jz
 ·refine au 542 ?_;refine TK.virt 2 23 2 Z fun j0 hj0=>?_;refine au 3 ?_;refine bB Wz [(j,_),(j0,_)] ?_;obtain rfl:=hz Jz;obtain rfl:=lK (by simpa using hl);exact⟨_,rfl,rfl⟩
 refine au 42120 ?_;refine bI Z Z Z (zH (l:=[]) Z zp.h TyZ.h dQ dQ Z) (fun _=>zD rfl tQ) fun j1 hj1=>?_;refine au 1 ?_;refine TK.appG (envf:=fun _=>[_,_,_,_,_,_,_,_]) (ln:=l) rfl rfl rfl ApOf.h rfl mQ rfl rfl rfl (fun hp=>zan mQ oQ (uR hl oQ)) (fun h=>by subst h;exact lK (by simpa using hl)) hone (by unfold maxLen;omega) oQ (fun _=>uQ) (fun _=>rfl) fun j2=>?_;simp only[lC,mO];refine au 35 ?_;refine bB Wz [(j,_),(j2,_)] ?_;exact⟨_,rfl,rfl⟩
theorem zhU{main T}(hT:zo tp main T){gm}{j n:Nat}{l:List AV}{et:gT}{rw':Bool}(hl:l.length=n*3)(hone:l.all oneA=tt)(hn:n<=100000) :
  zl tp T gm 118 [.sl j 0 n] [(j,.cells l et rw')] (fun r K'=>∃ j2,r=.row j2 n/\K'=[(j,.cells l et rw'),(j2,.row l 108 3)]):=by
 refine zh 8 hT Tryz.func118 fun Y Wz=>?_;refine au 14223542 ?_;refine TK.nilT Z Z Z Z Und.h fun tz hz=>?_;refine au 93 ?_;apply aI<;>intro Jz
 ·refine au 542 ?_;refine TK.virt 2 108 3 Z fun j0 hj0=>?_;refine au 3 ?_;refine bB Wz [(j,_),(j0,_)] ?_;obtain rfl:=hz Jz;obtain rfl:=lK (by simpa using hl);exact⟨_,rfl,rfl⟩
 refine au 42120 ?_;refine bI Z Z Z (zH (l:=[]) Z zp.h TyZ.h dQ dQ Z) (fun _=>zD rfl tQ) fun j1 hj1=>?_;refine au 1 ?_;refine TK.appG (envf:=fun _=>[_,_,_,_,_,_,_,_]) (ln:=l) rfl rfl rfl ApOf.h rfl mQ rfl rfl rfl (fun hp=>zan mQ oQ (uR hl oQ)) (fun h=>by subst h;exact lK (by simpa using hl)) hone (by unfold maxLen;omega) oQ (fun _=>uQ) (fun _=>rfl) fun j2=>?_;simp only[lC,mO];refine au 35 ?_;refine bB Wz [(j,_),(j2,_)] ?_;exact⟨_,rfl,rfl⟩
theorem zi6{main T}(hT:zo tp main T){gm}{b:RBk}{s h e:Nat}(hb:ROk b) :
  zl tp T gm 91 [.agg (zP b s h e)] [(s,zt b),(h,zX b),(e,zG b)] (fun r K'=>∃ s2 h2 e2,r=.agg (zP b s2 h2 e2)/\K'=[(s2,zt b),(h2,zX b),(e2,zG b),(s,zt b),(h,zX b),(e,zG b)]):=by
 refine zh 16 hT Tryz.func91 fun Y Wz=>?_;refine au 0 ?_;have hs5:=hb.sms.len;have hsl:=hb.cls.len;have hml:=hb.mes.len;refine au 21042 ?_;intro jb hjb;refine au 220 ?_;intro jr hjr;refine au 23 ?_;refine TK.dr [0,1,3,4,6,7,2,9,5,8,10,11,12,13,14] [0,1,2,3,4,5,6,7,8,9,10,11,12,13,14] ?_;refine ad [[3,1],[10,3],[3,1],[10,6],[3,1],[10,9]] ?_;refine TD.cl (Wx:=[_,_,_,_,_]) [4] Z Z Z Z Z (zhV hT (kz seamC 5 (fun _=>rfl) b.sE) (zaB seamC (fun _=>rfl) _) oQ) (fun r1 K2 h3=>⟨?_,?_⟩)
 ·rcases h3 with⟨s2,rfl,rfl⟩
  all_goals simp
 obtain⟨s2,rfl,rfl⟩:=h3;try simp only[cA]
 refine bS tQ ?_;refine ad [[3,1]] ?_;refine TD.cl (Wx:=[_,_,_,_,_]) [7] Z Z Z Z Z (zcG hT (kz bandC 2 (fun _=>rfl) b.sH) (zaB bandC (fun _=>rfl) _) oQ) (fun r4 K5 h6=>⟨?_,?_⟩)
 ·rcases h6 with⟨h2,rfl,rfl⟩
  all_goals simp
 obtain⟨h2,rfl,rfl⟩:=h6;try simp only[cA]
 refine bS tQ ?_;refine TD.cl (Wx:=[_,_,_,_]) [10] Z Z Z Z Z (zhU hT (kz measC 3 (fun _=>rfl) b.mE) (zaB measC (fun _=>rfl) _) oQ) (fun r7 K8 h9=>⟨?_,?_⟩)
 ·rcases h9 with⟨e2,rfl,rfl⟩
  all_goals simp
 obtain⟨e2,rfl,rfl⟩:=h9;try simp only[cA]
 refine bS tQ ?_;refine bR (Wx:=[]) [5,12] Z Z (zz Z Z ze.h Z Z mQ Z) ?_;refine ad [[3,1]] ?_;refine bR (Wx:=[]) [8,13] Z Z (zz Z Z ze.h Z Z mQ Z) ?_;refine ad [[3,1]] ?_;refine bR (Wx:=[]) [11,14] Z Z (zz Z Z ze.h Z Z mQ Z) ?_;refine ad [[14]] ?_;refine au 2 ?_;refine TK.unrowAt (c:=jb) (i:=4) (j:=s2) Z mQ uQ ?_;refine bY (j:=s2) ?_;refine TK.unrowAt (c:=jb) (i:=5) (j:=h2) Z mQ uQ ?_;refine bY (j:=h2) ?_;refine TK.unrowAt (c:=jb) (i:=6) (j:=e2) Z mQ uQ ?_;refine bY (j:=e2) ?_;refine au 31706804 ?_;refine bB Wz [(s2,_),(h2,_),(e2,_),(s,_),(h,_),(e,_)] ?_;exact⟨s2,h2,e2,rfl,rfl⟩
theorem ziO{main:Bool}{T:gG->Hp->Prop}(hT:zo tp main T){b:RBk}{s h e:Nat}(hl:b.sE.length<=100)(hm:b.mE.length<=100) :
  zl tp T gmR 40 [.agg (zP b s h e)] [(2,checksG),(s,zt b),(h,zX b),(e,zG b)] (fun r K'=>AgrR b [(2,checksG),(s,zt b),(h,zX b),(e,zG b)] r K'):=by
 refine zh 17 hT Tryz.func40 fun Y Wz=>?_;refine au 21042 ?_;intro jb hjb;refine au 220 ?_;intro jr hjr;refine au 68042235 ?_;refine bD Z Z Z Z (zd9 hT (Kx:=[]) hl hm) ?_;rintro r1 K2 h3;rcases h3 with⟨Wv,rfl,rfl⟩|⟨Wv,hnil,rfl,rfl⟩|⟨Wv,hne,a,rfl,rfl⟩
 ·refine au 220661 ?_;intro j4 hj4;refine au 93714235170 ?_;apply aI<;>intro Jz
  ·
   refine au 35170144042 ?_;refine bB Wz [(2,_),(s,_),(h,_),(e,_)] ?_;exact .inl ⟨Wv,rfl,rfl⟩
  exact absurd Wv (by simpa using Jz)
 ·refine au 220661 ?_;intro j4 hj4;refine au 93714235170 ?_;apply aI<;>intro Jz
  ·
   refine au 35170144042 ?_;refine bB Wz [(2,_),(s,_),(h,_),(e,_)] ?_;exact .inr (.inl ⟨Wv,hnil,rfl,rfl⟩)
  exact absurd Jz dQ
 ·refine au 220661 ?_;intro j4 hj4;refine au 93714235170 ?_;apply aI<;>intro Jz
  ·exact absurd Jz sQ
  have hbb:=kQ Wv;refine au 68042120 ?_;refine bD Z Z Z Z (zi6 hT hbb) ?_;rintro r4 K5 ⟨s2,h2,e2,rfl,rfl⟩;refine au 35170 ?_;refine bB Wz [(s2,_),(h2,_),(e2,_),(2,_),(s,_),(h,_),(e,_)] ?_;exact .inr (.inr ⟨Wv,hne,s2,h2,e2,rfl,rfl⟩)
def dryX(b:RBk)(n:Int)(x:RBand):RBand:=⟨max (bd b n.toNat).low x.low,min (bd b n.toNat).high x.high⟩
theorem zhY{xs:List Int}(h:xs.length<2):compM xs=xs:=by
 rcases xs with _|⟨x,_|⟨y,r⟩⟩
 ·rfl
 ·rfl
 ·simp only[List.length_cons]at h;omega
instance:TyZ tp 84 [.nilFunc]:={}
theorem zol{main:Bool}{T:gG->Hp->Prop}(hT:zo tp main T){b:RBk}{s h e:Nat}(hl:b.sE.length<=100)(hm:b.mE.length<=100){n:Int}{x:RBand} :
  zl tp T gmR 8 [.agg (zP b s h e),za n,.agg (bandC x)] [(2,checksG),(s,zt b),(h,zX b),(e,zG b)] (fun r K'=>(bar2 (checkM b) (thereM b n)≠0/\r=.tup [.agg z7R,za (bar2 (checkM b) (thereM b n))]/\K'=[(2,checksG),(s,zt b),(h,zX b),(e,zG b)])\/(bar2 (checkM b) (thereM b n)=0/\isBd x 0 5=ff/\r=.tup [.agg z7R,za 1]/\K'=[(2,checksG),(s,zt b),(h,zX b),(e,zG b)])\/(bar2 (checkM b) (thereM b n)=0/\isBd x 0 5=tt/\(dryX b n x).high<(dryX b n x).low/\r=.tup [.agg z7R,za 9]/\K'=[(2,checksG),(s,zt b),(h,zX b),(e,zG b)])\/(bar2 (checkM b) (thereM b n)=0/\isBd x 0 5=tt/\(dryX b n x).low<=(dryX b n x).high/\AgrR (driedB b n.toNat (dryX b n x)) [(2,checksG),(s,zt b),(h,zX b),(e,zG b)] r K')):=by
 refine zh 65 hT Tryz.func8 fun Y Wz=>?_;refine au 21042 ?_;intro jb hjb;refine au 210 ?_;intro jx hjx;refine au 220 ?_;intro jr hjr;refine au 320168042235 ?_;refine bI Z Z Z (zH (l:=[_]) Z zp.h TyZ.h dQ dQ Z) (fun _=>zD rfl tQ) fun ja hja=>?_;refine bD Z Z Z Z (zir hT (Kx:=[]) (p1:=thereM b n) hl hm (fun h0=>yC Cal.h ((zgo hT (b:=b) (s:=s) (h:=h) (e:=e) (n:=n) (kQ h0).sms.len.2).frameP (R:=[(s,zt b)]) (List.Perm.refl _)))) ?_;rintro r1 K2 h3;rcases h3 with⟨⟨Wv,rfl⟩|⟨Wv,rfl⟩,rfl⟩
 ·refine au 220661 ?_;intro j8 hj8;refine au 93714235170 ?_;apply aI<;>intro Jz
  ·exact absurd Jz sQ
  have hbb:=kQ (ziS Wv);have hth:=zhH (zmO Wv);have hs5:=hbb.sms.len;have hsl:=hbb.cls.len;have hml:=hbb.mes.len;have hnb:n.toNat<b.sH.length:=by omega
  have hnn:n=(n.toNat:Int):=by omega
  refine au 680422120 ?_;refine TK.clE Z Z Z Z (zd8 hT (x:=x)) ?_;refine au 93300 ?_;apply aI<;>intro Jx
  ·refine au 3517044042 ?_;refine bB Wz [(2,_),(s,_),(h,_),(e,_)] ?_;exact .inr (.inl ⟨Wv,by simpa using Jx,rfl,rfl⟩)
  refine au 2120 ?_;refine bL [0,1,2,3,4,5,6,7,8,9,10,11,12,13,14,15,16,17,18,19,20] ?_;refine ad [[3,3],[10,27],[1,1],[2,28,29],[3,30]] ?_;refine bT [31] Z (hq:=zg Z Z ze.h (mC _) (yB (c:=0) (bd_at b (i:=n.toNat) hnb hnn) dQ Z)) (h:=?_);refine ad [[3,5],[10,33]] ?_;refine bU [32,34] Z (zj5 Z Z Z) ?_;refine ad [[3,3],[10,36],[1,1],[2,37,38],[3,39]] ?_;refine bT [40] Z (hq:=zg Z Z ze.h (mC _) (yB (c:=1) (bd_at b (i:=n.toNat) hnb hnn) dQ Z)) (h:=?_);refine ad [[3,5],[10,42]] ?_;refine bU [41,43] Z (zf9 Z Z Z) ?_;refine bU [35,44] Z (kh (l:=[_,_]) Z TyZ.h BlOf.h Z) ?_;refine bX (Wx:=[_,_,_,_,_,_,_,_,_,_,_,_,_,_,_,_,_,_,_]) [] Z Z Z Z Z (yA Z TyZA.h) (fun _=>zD rfl tQ) sQ fun j10 hj10=>?_;refine bR (Wx:=[]) [10,45] Z Z (zz Z Z ze.h Z Z mQ Z) ?_;refine ad [[14]] ?_;refine au 937690670690670422 ?_;apply aI<;>intro hc2
  ·refine au 3517044042 ?_;refine bB Wz [(2,_),(s,_),(h,_),(e,_)] ?_;exact .inr (.inr (.inl ⟨Wv,by simpa using Jx,oT_ hc2,rfl,rfl⟩))
  refine au 69067042120 ?_;refine bD Z Z Z Z (zcG hT (kz bandC 2 (fun _=>rfl) b.sH) (zaB bandC (fun _=>rfl) _) oQ) ?_;rintro r7 K8 ⟨jc,rfl,rfl⟩;refine au 3706801690670423170670 ?_;refine TK.st Z Z Z (zz Z Z ze.h Z Z mQ (zl7 (x:=(dryX b n x)) hnb hnn)) uQ (putN Z) ?_;refine au 23 ?_;refine TK.unrowAt (c:=jb) (i:=5) (j:=jc) Z mQ uQ ?_;refine bY (j:=jc) ?_;rw[show b.sH.length=(driedB b n.toNat (dryX b n x)).sH.length by simp[driedB]];refine au 6804 ?_;refine bD Z Z Z Z ((ziO hT (b:=(driedB b n.toNat (dryX b n x))) (s:=s) (h:=jc) (e:=e) hl hm).mono (fun _ _ h=>h)) ?_;rintro r10 K11 h12;rcases h12 with⟨hb2,rfl,rfl⟩|⟨hb2,hn2,rfl,rfl⟩|⟨hb2,hn2,s2,h2,e2,rfl,rfl⟩
  ·refine au 3517066 ?_;refine bB Wz [(2,_),(s,_),(h,_),(e,_)] ?_;exact .inr (.inr (.inr ⟨Wv,by simpa using Jx,Int.not_lt.1 (oF_ hc2),.inl ⟨hb2,rfl,rfl⟩⟩))
  ·refine au 3517066 ?_;refine bB Wz [(2,_),(s,_),(h,_),(e,_)] ?_;exact .inr (.inr (.inr ⟨Wv,by simpa using Jx,Int.not_lt.1 (oF_ hc2),.inr (.inl ⟨hb2,hn2,rfl,rfl⟩)⟩))
  ·refine au 3517066 ?_;refine bB Wz [(s2,_),(h2,_),(e2,_),(2,_),(s,_),(h,_),(e,_)] ?_;exact .inr (.inr (.inr ⟨Wv,by simpa using Jx,Int.not_lt.1 (oF_ hc2),.inr (.inr ⟨hb2,hn2,s2,h2,e2,rfl,rfl⟩)⟩))
 ·refine au 220661 ?_;intro j8 hj8;refine au 93714235170 ?_;apply aI<;>intro Jz
  ·
   refine au 35170144042 ?_;refine bB Wz [(2,_),(s,_),(h,_),(e,_)] ?_;exact .inl ⟨Wv,rfl,rfl⟩
  exact absurd Wv (by simpa using Jz)
theorem zgA{main T}(hT:zo tp main T){gm}{j n:Nat}{xs:List Int}(hn:xs.length=n)(hl:n<=100000) :
  zl tp T gm 63 [.row j n] [(j,.row (xs.map za) 3 1)] (fun r K'=>(∃ zs:List Int,r=.sl j 0 (compM xs).length/\K'=[(j,.row ((compM xs++zs).map za) 3 1)])\/(r=.row j n/\compM xs=xs/\K'=[(j,.row (xs.map za) 3 1)])):=by
 refine zh 61 hT Tryz.func63 fun Y Wz=>?_;refine au 93728014223542 ?_;apply aI<;>intro Jz
 ·
  refine au 35142 ?_;refine bB Wz [(j,_)] ?_;exact .inr ⟨rfl,zhY (by simp at Jz;omega),rfl⟩
 have h2:2<=n:=by simp at Jz;omega
 refine au 13035422120 ?_;refine bA [0,3] ?_;refine bE (fun n1 Wq K=>∃(i:Nat),n1=n - i/\1<=i/\i<=n/\(compN xs i).length=i/\Wq=.row j n::naL 2 (za i::naL 57 [])/\K=[(j,.row (xs.map za) 3 1)]) (n - 1) ⟨1,rfl,mL _,oQ,by simp[compN];omega,rfl,rfl⟩ fun n1 Wq K hI Wj=>?_;obtain⟨i,rfl,hi1,hi,hlead,rfl,rfl⟩:=hI;refine bG nQ ?_;refine au 93728011422 ?_;apply aI<;>intro Jx
 ·have Qb:i<n:=by simp at Jx;omega
  refine au 21302120 ?_;refine bL [0,1,2,3,4,5,6,7,8,9] ?_;refine ad [[1,0],[1,3]] ?_;refine bT [16,17] Z (hq:=kT Z Z Z zp.h (mC _) oQ oQ) (h:=?_);refine bT [18] Z (hq:=zg Z Z ze.h (mC _) (zdB (i:=i) (yx oQ) Z)) (h:=?_);refine ad [[1,0],[1,3],[9,21]] ?_;refine bT [20,22] Z (hq:=kT Z Z Z zp.h (mC _) oQ oQ) (h:=?_);refine bT [23] Z (hq:=zg Z Z ze.h (mC _) (zdB (i:=i - 1) (yx oQ) oQ)) (h:=?_);refine ad [[4,19,24],[14]] ?_;refine au 9 ?_;apply aI<;>intro hc2
  ·have heq:cutN xs (i - 1)=cutN xs i:=by have:=eq_of_beq hc2;exact this.symm
   obtain⟨i0,rfl⟩:∃ i0,i=i0+1:=⟨i - 1,oQ⟩;have hc1e:compN xs (i0+2)=compN xs (i0+1):=um heq;refine au 1142 ?_;refine bH Z (wp Z Z zp.h mQ Z Z oQ oQ Z) ?_;refine au 1303542235 ?_;refine bA [0,3,4,5] ?_;refine bE (fun n1 Wq K=>∃(q w o4:Nat),n1=n - q/\o4=i0+1/\1<=q/\i0+1+q<=n/\(compN xs (i0+1+q)).length=w/\w+1<=i0+1+q/\Wq=.row j n::naL 2 (za w::.sl j o4 (n - (i0+1))::za q::naL 55 [])/\K=[(j,.row ((compN xs (i0+1+q)++xs.drop w).map za) 3 1)]) (n - 1) ⟨1,i0+1,_,rfl,(by omega:0+((i0+1:Nat):Int).toNat*1=i0+1),mL _,oQ,by rw[show i0+1+1=i0+2 by omega,hc1e];exact hlead,oQ,rfl,by rw[show i0+1+1=i0+2 by omega,hc1e,za4 _ oQ hlead,List.take_append_drop]⟩ fun n1 Wq K hI Ww=>?_;obtain⟨q,w,o4,rfl,ho4,hq1,hq,hw,hwq,rfl,rfl⟩:=hI;have hdl:(compN xs (i0+1+q)++xs.drop w).length=n:=by rw[lF,List.length_drop,hw];omega
   refine bG nQ ?_;refine au 93728011422 ?_;apply aI<;>intro hc3
   ·have hql:i0+1+q<n:=by simp at hc3;omega
    have hq2:i0+1+(q+1)=(i0+q)+2:=by omega
    have hq3:compN xs (i0+q+1)=compN xs (i0+1+q):=by rw[show i0+q+1=i0+1+q by omega]
    have hq4:cutN xs (i0+1+q)=cutN xs (i0+q+1):=by rw[show i0+q+1=i0+1+q by omega]
    refine au 21302120 ?_;refine bL [0,1,2,3,4,5,6,7,8,9] ?_;refine ad [[1,4],[1,5],[2,35,36]] ?_;refine bT [37] Z (hq:=zg Z Z ze.h (mC _) (uB (i:=i0+1+q) (za3 hw oQ oQ) oQ)) (h:=?_);refine ad [[1,4],[1,5],[9,40],[2,39,41]] ?_;refine bT [42] Z (hq:=zg Z Z ze.h (mC _) (uB (i:=i0+q) (za3 hw oQ oQ) oQ)) (h:=?_);refine ad [[4,38,43],[14]] ?_;refine au 9 ?_;apply aI<;>intro hc4
    ·have hne4:cutN xs (i0+q)≠cutN xs (i0+q+1):=fun h=>by rw[hq4,<- h]at hc4;simp at hc4
     refine au 360111142 ?_;refine bH Z (zg Z Z ze.h mQ (uB (i:=i0+1+q) (za3 hw oQ oQ) oQ)) ?_;refine au 370 ?_;refine TK.st Z Z Z (zz Z Z ze.h Z Z mQ (zht (k:=w) oQ Z)) uQ (putN Z) ?_;refine au 352301414035230143 ?_;refine bA [0,3,4,5] ?_;refine bC [(j,_)] ?_;exact Ww _ _ _ oQ ⟨q+1,w+1,o4,rfl,ho4,oQ,oQ,by rw[hq2,un hne4,lF,hq3,hw];rfl,oQ,rfl,by rw[zkW hw oQ,hq2,un hne4,hq3,<- hq4]⟩
    have heq4:cutN xs (i0+q)=cutN xs (i0+q+1):=by rw[<- hq4];simp at hc4;exact hc4.symm
    refine au 3523014140120 ?_;refine bA [0,3,4,5] ?_;refine bC [(j,_)] ?_;exact Ww _ _ _ oQ ⟨q+1,w,o4,rfl,ho4,oQ,oQ,by rw[hq2,um heq4,hq3,hw],oQ,rfl,by rw[hq2,um heq4,hq3]⟩
   have hnq:n=i0+1+q:=by simp at hc3;omega
   refine au 1142160 ?_;refine bH Z (wp Z Z zp.h mQ Z Z oQ oQ Z) ?_;refine TK.st Z Z Z (znO Z ApOf.h TyZ.h Z oQ mQ (zjY (k:=w) hw oQ oQ oQ)) uQ (putN Z) ?_;refine au 11423 ?_;refine bH Z (wp Z Z zp.h mQ Z Z oQ oQ Z) ?_;refine au 35 ?_;refine bB Wz [(j,_)] ?_;have hcm:compM xs=compN xs (i0+1+q):=by unfold compM;rw[hn,hnq]
   exact .inl ⟨_,by rw[hcm,hw];rfl,by rw[hcm]⟩
  have hne:¬ cutN xs (i - 1)=cutN xs i:=fun h=>by rw[h]at hc2;simp at hc2
  have hi2:i+1=(i - 1)+2:=by omega
  have hi3:cutN xs i=cutN xs (i - 1+1):=by rw[show i - 1+1=i by omega]
  have hlead2:(compN xs (i - 1+1)).length=i:=by rw[show i - 1+1=i by omega];exact hlead
  refine au 3523014140120 ?_;refine bA [0,3] ?_;refine bC [(j,_)] ?_;exact Wj _ _ _ oQ ⟨i+1,rfl,oQ,oQ,by rw[hi2,un (fun h=>hne (by rw[hi3];exact h)),lF,hlead2];simp;omega,rfl,rfl⟩
 obtain rfl:i=n:=by simp at Jx;omega
 refine au 35142160 ?_;refine bB Wz [(j,_)] ?_;exact .inr ⟨rfl,by unfold compM;rw[za4 _ (mL _) (by rw[hn];exact hlead),lW],rfl⟩
end Go.Vel
namespace Go.Vel
open Go Go.Conc
theorem za5{xs:List Int}(hs:∀ i j,i<j->j<xs.length->cutN xs i<=cutN xs j):∀ p,p<=xs.length->(compN xs p).Pairwise (· < ·)/\(∀ z,z∈compN xs p↔z∈xs.take p)/\(∀ z∈compN xs p,0<p/\z<=cutN xs (p - 1))
 | 0,_=>⟨.nil,fun z=>by simp[compN],fun z hz=>by cases hz⟩
 | 1,h=>by
  have e:xs.take 1=[cutN xs 0]:=by rw[yQ (yx (l:=xs) (k:=0) oQ)];rfl
  refine⟨?_,fun z=>Iff.rfl,fun z hz=>?_⟩
  ·show(xs.take 1).Pairwise _;rw[e];exact List.pairwise_singleton _ _
  ·have hz:z∈xs.take 1:=hz;rw[e]at hz;exact⟨by omega,by rw[lS.1 hz];exact Int.le_refl _⟩
 | p+2,h=>by
  obtain⟨h1,h2,h3⟩:=za5 hs (p+1) oQ;have hle:=hs p (p+1) oQ oQ;have ht:xs.take (p+2)=xs.take (p+1)++[cutN xs (p+1)]:=yQ (yx oQ);by_cases e:cutN xs p=cutN xs (p+1)
  ·rw[um e];have hm:cutN xs p∈xs.take (p+1):=by rw[yQ (yx (l:=xs) (k:=p) oQ)];simp
   refine⟨h1,fun z=>?_,fun z hz=>⟨by omega,?_⟩⟩
   ·rw[ht,h2 z,lT,lS];exact⟨.inl,fun hh=>hh.elim id fun hh=>by rw[hh,<- e];exact hm⟩
   ·have:=(h3 z hz).2;rw[Nat.add_sub_cancel]at this;show z<=cutN xs (p+1);omega
  ·rw[un e];refine⟨List.pairwise_append.2 ⟨h1,List.pairwise_singleton _ _,fun x hx y hy=>?_⟩,fun z=>?_,fun z hz=>⟨by omega,?_⟩⟩
   ·rw[lS.1 hy];have:=(h3 x hx).2;rw[Nat.add_sub_cancel]at this;omega
   ·rw[ht,lT,lT,h2 z]
   ·show z<=cutN xs (p+1);rcases lT.1 hz with hz|hz
    ·have:=(h3 z hz).2;rw[Nat.add_sub_cancel]at this;omega
    ·rw[lS.1 hz];exact Int.le_refl _
def msI(xs:List Int):List Int:=xs.mergeSort fun x y=>decide (x<=y)
theorem zhm(xs:List Int):(msI xs).length=xs.length:=(List.mergeSort_perm ..).length_eq
theorem znm{xs:List Int}{z:Int}:z∈msI xs↔z∈xs:=(List.mergeSort_perm ..).mem_iff
theorem zhl(xs:List Int):∀ i j,i<j->j<(msI xs).length->cutN (msI xs) i<=cutN (msI xs) j:=fun i j hij hj=>by
 have hp:(msI xs).Pairwise fun x y=>decide (x<=y)=tt:=List.pairwise_mergeSort (le:=fun x y:Int=>decide (x<=y)) (fun a b c h1 h2=>decide_eq_true (Int.le_trans (oT_ h1) (oT_ h2))) (fun a b=>by rcases Int.le_total a b with h|h <;> simp[h]) xs;have h1:=yx (l:=msI xs) (k:=i) oQ;have h2:=yx hj;have:=List.pairwise_iff_getElem.1 hp i j oQ hj hij;rw[lA oQ]at h1;rw[lA hj]at h2;rw[Option.some.inj h1,Option.some.inj h2]at this;exact oT_ this
def setI(xs:List Int):List Int:=compM (msI xs)
theorem zmo(xs:List Int):(setI xs).Pairwise (· < ·):=(za5 (zhl xs) _ (mL _)).1
theorem zmp{xs:List Int}{z:Int}:z∈setI xs↔z∈xs:=by
 have:=(za5 (zhl xs) _ (mL _)).2.1 z;rw[lW]at this;exact this.trans znm
end Go.Vel
namespace Go.Vel
open Go Go.Conc Go.Sort
theorem TK.shr{P:gP}{gm:Nat->Option Nat}{T:gG->Hp->Prop}{Y:KX P gm T}{ds:List Nat}{k k':List Item}{Wq:List AV}{K:KV}{X:Type}{D:X->Prop}{E:X->List AV}{KK:X->KV}(main:(∀ x,D x->TK Y ds k' (E x) (KK x))->TK Y ds k Wq K)(tail:∀ x,D x->TK Y ds k' (E x) (KK x)):TK Y ds k Wq K:=main tail
theorem zoj{d:Array Int}{i:Nat}(h:i<d.size):d.toList[i]? =some d[i]! :=by
 rw[Array.getElem?_toList,Array.getElem?_eq_getElem h,getElem!_pos d i h]
theorem zn6(d:Array Int)(i j:Nat):(d.toList.set i d[j]!).set j d[i]! =(swp d i j).toList:=by
 simp[swp]
theorem zR{d:Array Int}{i:Nat}{n:Int}{e:gT}{s:Nat}(h:i<d.size)(hn:n=(i:Int)):z6 (.row (d.toList.map za) e s) (0+n.toNat*1) 1=some [za d[i]!]:=uB (zoj h) (by subst hn;simp)
theorem kL{d:Array Int}{k:Nat}{n v:Int}{e:gT}{s:Nat}(h:k<d.size)(hn:n=(k:Int)):putO (.row (d.toList.map za) e s) (0+n.toNat*1) [za v]=some (.row ((d.toList.set k v).map za) e s):=zf7 (by rw[Array.length_toList];exact h) hn
theorem kM{d:Array Int}{i j:Nat}{n:Int}{e:gT}{s:Nat}(h:j<d.size)(hn:n=(j:Int)):putO (.row ((d.toList.set i d[j]!).map za) e s) (0+n.toNat*1) [za d[i]!]=some (.row ((swp d i j).toList.map za) e s):=by
 rw[<- zn6];exact zf7 (by rw[List.length_set,Array.length_toList];exact h) hn
theorem kU{d:Array Int}{i j n:Nat}(h:d.size=n):(swp d i j).size=n:=by rw[swp_size];exact h
section
variable {a b i j q n hi F root:Nat}{d:Array Int}
theorem zgI(h:i<b):insOuter ltInt a b i d=insOuter ltInt a b (i+1) (insInner ltInt a i d):=by
 conv=>lhs;unfold insOuter
 rw[if_pos h]
theorem zfE(h:¬ i<b):insOuter ltInt a b i d=d:=by unfold insOuter;rw[if_neg h]
theorem zgH(h:a<q+1)(hl:ltInt d[q+1]! d[q]! =tt):insInner ltInt a (q+1) d=insInner ltInt a q (swp d (q+1) q):=by
 conv=>lhs;unfold insInner
 rw[if_pos (by simp only[mX,dT_];exact⟨h,hl⟩)]
theorem zfB(h:¬ a<q):insInner ltInt a q d=d:=by
 cases q with
 | zero=>rfl
 | succ q =>
  unfold insInner;rw[if_neg (by simp only[mX,dT_];exact fun hh=>h hh.1)]
theorem zeK(hl:ltInt d[q+1]! d[q]! =ff):insInner ltInt a (q+1) d=d:=by
 unfold insInner;rw[if_neg (by rw[hl];simp)]
theorem zmt(h:hi<=2*root+1):siftDown ltInt hi F root d=d:=by unfold siftDown;rw[dif_pos h]
def SiftC(hi F root:Nat)(d:Array Int)(c:Nat):Prop:=root<c/\c<hi/\siftDown ltInt hi F root d=if (!ltInt d[F+root]! d[F+c]!)=tt then d else siftDown ltInt hi F c (swp d (F+root) (F+c))
theorem zn2(h:¬ hi<=2*root+1)(h2:2*root+2<hi)(hl:ltInt d[F+(2*root+1)]! d[F+(2*root+1)+1]! =tt):SiftC hi F root d (2*root+2):=by
 refine⟨by omega,h2,?_⟩
 conv=>lhs;unfold siftDown
 rw[dif_neg h,if_pos (by rw[hl];simp;omega),dif_pos h2]
theorem zhE(h:¬ hi<=2*root+1)(hl:¬ 2*root+2<hi\/ltInt d[F+(2*root+1)]! d[F+(2*root+1)+1]! =ff):SiftC hi F root d (2*root+1):=by
 refine⟨by omega,oQ,?_⟩
 conv=>lhs;unfold siftDown
 rw[dif_neg h,if_neg (by rcases hl with hl|hl <;> simp[hl])]
theorem zhF(hi F root:Nat)(d:Array Int):(siftDown ltInt hi F root d).size=d.size:=by
 fun_induction siftDown ltInt hi F root d <;> simp_all[swp_size]
end
end Go.Vel
namespace Go.Vel
open Go Go.Conc Go.Proofs
open Go.Sort
theorem znf{main T}(hT:zo tp main T){gm}{j n a b:Nat}{d:Array Int}(hd:d.size=n)(hn:n<=100000)(hab:a<=b)(hb:b<=n) :
  zl tp T gm 148 [.sl j 0 n,za a,za b] [(j,.row (d.toList.map za) 3 1)] (fun r K'=>K'=[(j,.row ((insertionSort ltInt d a b).toList.map za) 3 1)]):=by
 refine zh 49 hT Tryz.func148 fun Y Wz=>?_;refine au 13035230142 ?_;refine bA [0,1,2,6] ?_;refine bE (fun n1 Wq K=>∃(i:Nat)(d1:Array Int),n1=b - i/\a<i/\d1.size=n/\insOuter ltInt a b i d1=insertionSort ltInt d a b/\Wq=.sl j 0 n::za a::za b::naL 3 (za i::naL 42 [])/\K=[(j,.row (d1.toList.map za) 3 1)]) (b - (a+1)) ⟨a+1,d,rfl,oQ,hd,rfl,rfl,rfl⟩ fun n1 Wq K hI Wj=>?_;obtain⟨i,d1,rfl,hai,hs1,heq,rfl,rfl⟩:=hI;refine bG nQ ?_;refine au 93711422 ?_;apply aI<;>intro Jz
 ·have hib:i<b:=by simp at Jz;omega
  rw[zgI hib]at heq;refine au 130351421302120 ?_;refine bA [0,1,2,6,7] ?_;refine bE (fun n1 Wq K=>∃(p:Nat)(d2:Array Int),n1=p/\p<=i/\d2.size=n/\insOuter ltInt a b (i+1) (insInner ltInt a p d2)=insertionSort ltInt d a b/\Wq=.sl j 0 n::za a::za b::naL 3 (za i::za p::naL 41 [])/\K=[(j,.row (d2.toList.map za) 3 1)]) i ⟨i,d1,rfl,mL _,hs1,heq,rfl,rfl⟩ fun n1 Wq K hI Ww=>?_;obtain⟨p,d2,hnp,hp,hs2,heq2,rfl,rfl⟩:=hI;subst n1;refine bG nQ ?_;refine au 22 ?_;refine bL [0,1,2,3,4,5,6,7,8,9,10,11,12,13,14] ?_;refine ad [[1,7],[1,1],[4,16,17],[1,18]] ?_;refine bW 19 (fun g4_4=>?_) (fun g4_4=>?_)
  ·have hpa:a<p:=by simp at g4_4;omega
   obtain⟨q,rfl⟩:∃ q,p=q+1:=⟨p - 1,oQ⟩;refine ad [[1,0,19],[1,7,19],[2,19,20,21]] ?_;refine bT [19,22] Z (hq:=zg Z Z ze.h (mC _) (zR (i:=q+1) oQ oQ)) (h:=?_);refine ad [[1,0,19],[1,7,19],[9,19,25],[2,19,24,26]] ?_;refine bT [19,27] Z (hq:=zg Z Z ze.h (mC _) (zR (i:=q) oQ oQ)) (h:=?_);refine TD.clE (Wx:=[_,_,_,_,_,_,_,_,_,_]) [19,23,28] Z Z Z Z Z (ky hT) ?_;refine ad [[7,19,29],[14]] ?_;refine au 9 ?_;apply aI<;>intro Jx
   ·rw[zgH hpa Jx]at heq2;refine au 1302120 ?_;refine bL [0,1,5,6,7,8,9,10,11,12,13,14,15,2,3,4,16,17] ?_;refine ad [[1,0],[1,7],[1,0],[1,7],[9,36],[1,0],[1,7],[9,39],[2,38,40]] ?_;refine bT [41] Z (hq:=zg Z Z ze.h (mC _) (zR (i:=q) oQ oQ)) (h:=?_);refine ad [[1,0],[1,7],[2,43,44]] ?_;refine bT [45] Z (hq:=zg Z Z ze.h (mC _) (zR (i:=q+1) oQ oQ)) (h:=?_);refine ad [[2,33,34]] ?_;refine bR (Wx:=[_,_,_,_,_,_]) [42,47] Z Z (zz Z Z ze.h Z Z mQ (kL (k:=q+1) oQ oQ)) ?_;refine ad [[2,35,37]] ?_;refine bR (Wx:=[]) [46,48] Z Z (zz Z Z ze.h Z Z mQ (kM (i:=q+1) (j:=q) oQ oQ)) ?_;refine ad [[14]] ?_;refine au 3524014140 ?_;refine bA [0,1,2,6,7] ?_;refine bC [(j,_)] ?_;exact Ww _ _ _ oQ ⟨q,swp d2 (q+1) q,rfl,oQ,kU hs2,heq2,by rw[show((q+1:Nat):Int) - 1=(q:Int) by omega];rfl,rfl⟩
   rw[zeK Jx]at heq2;refine au 3523014140160 ?_;refine bA [0,1,2,6] ?_;refine bC [(j,_)] ?_;exact Wj _ _ _ oQ ⟨i+1,d2,rfl,oQ,hs2,heq2,rfl,rfl⟩
  have hpa:¬ a<p:=by simp at g4_4;omega
  rw[zfB hpa]at heq2;refine ad [[11,0,19],[11,7,19],[11,19,20,21],[11,19,22],[11,0,19],[11,7,19],[11,19,25],[11,19,24,26],[11,19,27],[11,19,23,28],[6,19,29],[14]] ?_;refine au 3523014140160190 ?_;refine bA [0,1,2,6] ?_;refine bC [(j,_)] ?_;exact Wj _ _ _ oQ ⟨i+1,d2,rfl,oQ,hs2,heq2,rfl,rfl⟩
 have hib:¬ i<b:=by simp at Jz;omega
 refine au 160 ?_;refine TK.rt0 Wz [(j,_)] ?_;rw[<- heq,zfE hib]
theorem zgi{main T}(hT:zo tp main T){gm}{j n lo hi F:Nat}{d:Array Int}(hd:d.size=n)(hn:n<=100000)(hlo:lo<=100000)(hF:F+hi<=n) :
  zl tp T gm 175 [.sl j 0 n,za lo,za hi,za F] [(j,.row (d.toList.map za) 3 1)] (fun r K'=>K'=[(j,.row ((siftDown ltInt hi F lo d).toList.map za) 3 1)]):=by
 refine zh 76 hT Tryz.func175 fun Y Wz=>?_;refine au 13035142 ?_;refine bA [0,2,3,8] ?_;refine bE (fun n1 Wq K=>∃(root:Nat)(d1:Array Int),n1=hi - root/\root<=100000/\d1.size=n/\siftDown ltInt hi F root d1=siftDown ltInt hi F lo d/\Wq=.sl j 0 n::.any::za hi::za F::naL 4 (za root::naL 67 [])/\K=[(j,.row (d1.toList.map za) 3 1)]) (hi - lo) ⟨lo,d,rfl,hlo,hd,rfl,rfl,rfl⟩ fun n1 Wq K hI Wj=>?_;obtain⟨root,d1,rfl,hr,hs1,heq,rfl,rfl⟩:=hI;refine bG nQ ?_;refine au 142130 ?_;refine bH Z (q_mul Z Z Z oQ) ?_;refine au 2235230 ?_;rw[show 2*(root:Int)+1=((2*root+1:Nat):Int) by omega];refine au 937114 ?_;apply aI<;>intro Jz
 ·have hch:hi<=2*root+1:=by simp at Jz;omega
  have Qj:d1=siftDown ltInt hi F lo d:=by rw[<- heq,zmt hch]
  refine au 160 ?_;refine TK.rt0 Wz [(j,_)] ?_;rw[<- Qj]
 have hch:¬ hi<=2*root+1:=by simp at Jz;omega
 refine au 22120 ?_;refine' TK.shr (X:=Nat) (D:=fun x=>SiftC hi F root d1 x) (E:=fun x=>.sl j 0 n::.any::za hi::za F::naL 4 (za root::za x::naL 66 [])) (KK:=fun x=>[(j,.row (d1.toList.map za) 3 1)]) ?_ ?_;rotate_left
 ·intro H;refine bL [0,1,2,3,4,5,6,7,8,9,10,11,12,13,14,15,16,17,18,19] ?_;refine ad [[1,9],[8,17],[1,2],[4,18,19],[1,20]] ?_;refine bW 21 (fun g3_5=>?_) (fun g3_5=>?_)
  ·have hg:2*root+2<hi:=by simp at g3_5;omega
   refine ad [[1,0,21],[1,3,21],[1,9,21],[8,21,23,24],[2,21,22,25]] ?_;refine bT [21,26] Z (hq:=zg Z Z ze.h (mC _) (zR (i:=F+(2*root+1)) oQ oQ)) (h:=?_);refine ad [[1,0,21],[1,3,21],[1,9,21],[8,21,29,30],[8,21,31],[2,21,28,32]] ?_;refine bT [21,33] Z (hq:=zg Z Z ze.h (mC _) (zR (i:=F+(2*root+1)+1) oQ oQ)) (h:=?_);refine TD.clE (Wx:=[_,_,_,_,_,_,_,_,_,_,_,_,_,_,_]) [21,27,34] Z Z Z Z Z (ky hT) ?_;refine ad [[7,21,35],[14]] ?_;refine au 9 ?_;apply aI<;>intro Jx
   ·have hc:=zn2 hch hg Jx;refine au 523014 ?_;rw[show((2*root+1:Nat):Int)+1=((2*root+2:Nat):Int) by omega];refine au 223 ?_;refine bA [0,2,3,8,9] ?_;refine bC [(j,_)] ?_;exact H (2*root+2) hc
   have hc:=zhE hch (.inr Jx);refine au 22120 ?_;refine bA [0,2,3,8,9] ?_;refine bC [(j,_)] ?_;exact H (2*root+1) hc
  have hg:¬ 2*root+2<hi:=by simp at g3_5;omega
  have hc:=zhE (F:=F) (d:=d1) hch (.inl hg);refine ad [[11,0,21],[11,3,21],[11,9,21],[11,21,23,24],[11,21,22,25],[11,21,26],[11,0,21],[11,3,21],[11,9,21],[11,21,29,30],[11,21,31],[11,21,28,32],[11,21,33],[11,21,27,34],[6,21,35],[14]] ?_;refine au 22120190 ?_;refine bA [0,2,3,8,9] ?_;refine bC [(j,_)] ?_;exact H (2*root+1) hc
 ·rintro c ⟨hrc,hcl,heqc⟩;rw[heq]at heqc;refine bG nQ ?_;refine bL [0,1,2,3,4,5,6,7,8,9,10,11,12,13] ?_;refine ad [[1,0],[1,3],[1,8],[8,40,41],[2,39,42]] ?_;refine bT [43] Z (hq:=zg Z Z ze.h (mC _) (zR (i:=F+root) oQ oQ)) (h:=?_);refine ad [[1,0],[1,3],[1,9],[8,46,47],[2,45,48]] ?_;refine bT [49] Z (hq:=zg Z Z ze.h (mC _) (zR (i:=F+c) oQ oQ)) (h:=?_);refine TD.clE (Wx:=[_,_,_,_,_,_,_,_,_,_]) [44,50] Z Z Z Z Z (ky hT) ?_;refine bU [51] Z (q_not Z Z) ?_;refine ad [[14]] ?_;refine au 9 ?_;apply aI<;>intro hc2
  ·have Qj:d1=siftDown ltInt hi F lo d:=by rw[heqc];exact(if_pos hc2).symm
   refine au 0 ?_;refine bB Wz [(j,_)] ?_;rw[<- Qj]
  have hq:=heqc.trans (if_neg (fun h=>absurd (hc2.symm.trans h) dQ));refine au 2120 ?_;refine bL [0,1,2,3,8,9,10,11,12,13,14,15,16,17,18,19,20,21,4,5,6,7,22,23] ?_;refine ad [[1,0],[1,3],[1,8],[8,54,55],[1,0],[1,3],[1,9],[8,58,59],[1,0],[1,3],[1,9],[8,62,63],[2,61,64]] ?_;refine bT [65] Z (hq:=zg Z Z ze.h (mC _) (zR (i:=F+c) oQ oQ)) (h:=?_);refine ad [[1,0],[1,3],[1,8],[8,68,69],[2,67,70]] ?_;refine bT [71] Z (hq:=zg Z Z ze.h (mC _) (zR (i:=F+root) oQ oQ)) (h:=?_);refine ad [[2,53,56]] ?_;refine bR (Wx:=[_,_,_,_,_,_,_,_,_]) [66,73] Z Z (zz Z Z ze.h Z Z mQ (kL (k:=F+root) oQ oQ)) ?_;refine ad [[2,57,60]] ?_;refine bR (Wx:=[]) [72,74] Z Z (zz Z Z ze.h Z Z mQ (kM (i:=F+root) (j:=F+c) oQ oQ)) ?_;refine ad [[14]] ?_;refine au 1403514 ?_;refine bA [0,2,3,8] ?_;refine bC [(j,_)] ?_;exact Wj _ _ _ oQ ⟨c,swp d1 (F+root) (F+c),rfl,oQ,kU hs1,hq.symm,rfl,rfl⟩
theorem zlp{main T}(hT:zo tp main T){gm}{j n a b:Nat}{d:Array Int}(hd:d.size=n)(hn:n<=100000)(hab:a<b)(hb:b<=n) :
  zl tp T gm 149 [.sl j 0 n,za a,za b] [(j,.row (d.toList.map za) 3 1)] (fun r K'=>K'=[(j,.row ((heapSort ltInt d a b).toList.map za) 3 1)]):=by
 refine zh 56 hT Tryz.func149 fun Y Wz=>?_;refine au 22352401142354235142 ?_;rw[show(b:Int) - (a:Int)=((b - a:Nat):Int) by omega];refine au 24014 ?_;refine bH Z (q_quo Z Z Z oQ oQ oQ) ?_;refine au 13035 ?_;refine bA [0,6,7,8,9] ?_;refine bE (fun n1 Wq K=>∃(k:Nat)(d1:Array Int),n1=k/\k<=b - a/\d1.size=n/\heapPop ltInt a (b - a) (heapBuild ltInt (b - a) a k d1)=heapSort ltInt d a b/\Wq=.sl j 0 n::naL 5 (za a::za 0::za (b - a:Nat)::za ((k:Int) - 1)::naL 46 [])/\K=[(j,.row (d1.toList.map za) 3 1)]) ((b - a - 1) / 2+1) ⟨(b - a - 1) / 2+1,d,rfl,oQ,hd,rfl,by rw[show(((b - a:Nat):Int) - 1) / 2=(((b - a - 1) / 2+1:Nat):Int) - 1 by omega] <;> rfl,rfl⟩ fun n1 Wq K hI Wj=>?_;obtain⟨k,d1,hnk,hk,hs1,heq,rfl,rfl⟩:=hI;subst n1;refine bG nQ ?_;refine au 9371422 ?_;apply aI<;>intro Jz
 ·obtain⟨q,rfl⟩:∃ q,k=q+1:=⟨k - 1,by simp at Jz;omega⟩;rw[show((q+1:Nat):Int) - 1=(q:Int) by omega];refine au 111141302120 ?_;refine bD Z Z Z Z (zgi hT (d:=d1) (lo:=q) (hi:=b - a) (F:=a) hs1 hn oQ oQ) ?_;rintro r1 K2 rfl;refine au 35240141403 ?_;refine bA [0,6,7,8,9] ?_;refine bC [(j,_)] ?_;exact Wj _ _ _ oQ ⟨q,siftDown ltInt (b - a) a q d1,rfl,oQ,by rw[zhF];exact hs1,heq,rfl,rfl⟩
 obtain rfl:k=0:=by simp at Jz;omega
 refine au 13035240142160 ?_;refine bA [0,6,7,8,10] ?_;refine bE (fun n1 Wq K=>∃(k:Nat)(d2:Array Int),n1=k/\k<=b - a/\d2.size=n/\heapPop ltInt a k d2=heapSort ltInt d a b/\Wq=.sl j 0 n::naL 5 (za a::za 0::za (b - a:Nat)::.any::za ((k:Int) - 1)::naL 45 [])/\K=[(j,.row (d2.toList.map za) 3 1)]) (b - a) ⟨b - a,d1,rfl,mL _,hs1,heq,rfl,rfl⟩ fun n1 Wq K hI Ww=>?_;obtain⟨k,d2,hnk2,hk2,hs2,heq2,rfl,rfl⟩:=hI;subst n1;refine bG nQ ?_;refine au 9371422 ?_;apply aI<;>intro Jx
 ·obtain⟨q,rfl⟩:∃ q,k=q+1:=⟨k - 1,by simp at Jx;omega⟩;rw[show((q+1:Nat):Int) - 1=(q:Int) by omega];refine au 21302120 ?_;refine bL [0,1,6,7,8,9,10,11,12,13,14,15,16,17,2,3,4,5,18,19] ?_;refine ad [[1,0],[1,6],[1,0],[1,6],[1,10],[8,36,37],[1,0],[1,6],[1,10],[8,40,41],[2,39,42]] ?_;refine bT [43] Z (hq:=zg Z Z ze.h (mC _) (zR (i:=a+q) oQ oQ)) (h:=?_);refine ad [[1,0],[1,6],[2,45,46]] ?_;refine bT [47] Z (hq:=zg Z Z ze.h (mC _) (zR (i:=a) oQ oQ)) (h:=?_);refine ad [[2,33,34]] ?_;refine bR (Wx:=[_,_,_,_,_,_,_]) [44,49] Z Z (zz Z Z ze.h Z Z mQ (kL (k:=a) oQ oQ)) ?_;refine ad [[2,35,38]] ?_;refine bR (Wx:=[]) [48,50] Z Z (zz Z Z ze.h Z Z mQ (kM (i:=a) (j:=a+q) oQ oQ)) ?_;refine ad [[14]] ?_;refine au 11114 ?_;refine bD Z Z Z Z (zgi hT (d:=swp d2 a (a+q)) (lo:=0) (hi:=q) (F:=a) (kU hs2) hn oQ oQ) ?_;rintro r4 K5 rfl;refine au 35240141403 ?_;refine bA [0,6,7,8,10] ?_;refine bC [(j,_)] ?_;exact Ww _ _ _ oQ ⟨q,siftDown ltInt q a 0 (swp d2 a (a+q)),rfl,oQ,by rw[zhF];exact kU hs2,heq2,rfl,rfl⟩
 obtain rfl:k=0:=by simp at Jx;omega
 refine au 160 ?_;refine TK.rt0 Wz [(j,_)] ?_;rw[<- heq2];rfl
end Go.Vel
namespace Go.Vel
open Go Go.Conc Go.Sort
section
variable {p:Int->Bool}{a b i j q u v u2 v2 pv:Nat}{d d1 d2:Array Int}
theorem up_go(h:i<=j)(hp:p d[i]! =tt):scanUp p d j i=scanUp p d j (i+1):=by
 conv=>lhs;unfold scanUp
 rw[if_pos (by simp[h,hp])]
theorem zap(h:¬ i<=j\/p d[i]! =ff):scanUp p d j i=i:=by
 unfold scanUp;rw[if_neg (by rcases h with h|h <;> simp[h])]
theorem zdn(h:i<=q+1)(hp:p d[q+1]! =tt):scanDown p d i (q+1)=scanDown p d i q:=by
 conv=>lhs;unfold scanDown
 rw[if_pos (by simp[h,hp])]
theorem vu(h:¬ i<=q\/p d[q]! =ff):scanDown p d i q=q:=by
 cases q with
 | zero=>rfl
 | succ q =>
  unfold scanDown;rw[if_neg (by rcases h with h|h <;> simp[h])]
theorem zpf(hd:d1=swp d a pv)(hu:scanUp (fun x=>ltInt x d1[a]!) d1 (b - 1) (a+1)=u)(hv:scanDown (fun x => !ltInt x d1[a]!) d1 u (b - 1)=v)(h:v<u):partition ltInt d a b pv=(v,tt,swp d1 v a):=by
 subst hd;unfold partition;simp only[];rw[hu,hv,if_pos h]
theorem zpg(hd:d1=swp d a pv)(hu:scanUp (fun x=>ltInt x d1[a]!) d1 (b - 1) (a+1)=u)(hv:scanDown (fun x => !ltInt x d1[a]!) d1 u (b - 1)=v)(h:¬ v<u)(hl:partLoop ltInt a (u+1) (v - 1) (swp d1 u v)=(v2,d2)):partition ltInt d a b pv=(v2,ff,swp d2 v2 a):=by
 subst hd;unfold partition;simp only[];rw[hu,hv,if_neg h,hl]
theorem zpl(hu:scanUp (fun x=>ltInt x d[a]!) d v u=u2)(hv:scanDown (fun x => !ltInt x d[a]!) d u2 v=v2)(h:v2<u2):partLoop ltInt a u v d=(v2,d):=by
 rw[partLoop_eq,hu,hv];exact if_pos h
theorem pl_go(hu:scanUp (fun x=>ltInt x d[a]!) d v u=u2)(hv:scanDown (fun x => !ltInt x d[a]!) d u2 v=v2)(h:¬ v2<u2):partLoop ltInt a u v d=partLoop ltInt a (u2+1) (v2 - 1) (swp d u2 v2):=by
 conv=>lhs;rw[partLoop_eq,hu,hv]
 exact if_neg h
theorem zpi(hu:scanUp (fun x => !ltInt d[a]! x) d v u=u2)(hv:scanDown (fun x=>ltInt d[a]! x) d u2 v=v2)(h:v2<u2):partEqLoop ltInt a u v d=(u2,d):=by
 rw[partEqLoop_eq,hu,hv];exact if_pos h
theorem pe_go(hu:scanUp (fun x => !ltInt d[a]! x) d v u=u2)(hv:scanDown (fun x=>ltInt d[a]! x) d u2 v=v2)(h:¬ v2<u2):partEqLoop ltInt a u v d=partEqLoop ltInt a (u2+1) (v2 - 1) (swp d u2 v2):=by
 conv=>lhs;rw[partEqLoop_eq,hu,hv]
 exact if_neg h
end
end Go.Vel
namespace Go.Vel
open Go Go.Conc Go.Proofs
open Go.Sort
theorem zl5{main T}(hT:zo tp main T){gm}{j n a b pv:Nat}{d:Array Int}(hd:d.size=n)(hn:n<=100000)(ha:a<=pv)(hpv:pv<b)(hb:b<=n) :
  zl tp T gm 156 [.sl j 0 n,za a,za b,za pv] [(j,.row (d.toList.map za) 3 1)] (fun r K'=>∃ p,partition ltInt d a b pv=p/\r=.tup [za p.1,zr p.2.1]/\K'=[(j,.row (p.2.2.toList.map za) 3 1)]):=by
 refine zh 168 hT Tryz.func156 fun Y Wz=>?_;refine au 235542 ?_;refine bL [0,1,4,5,6,7,8,9,10,11,12,13,2,3,14,15] ?_;refine ad [[1,0],[1,1],[1,0],[1,3],[1,0],[1,3],[2,16,17]] ?_;refine bT [18] Z (hq:=zg Z Z ze.h (mC _) (zR (i:=pv) oQ oQ)) (h:=?_);refine ad [[1,0],[1,1],[2,20,21]] ?_;refine bT [22] Z (hq:=zg Z Z ze.h (mC _) (zR (i:=a) oQ oQ)) (h:=?_);refine ad [[2,12,13]] ?_;refine bR (Wx:=[_,_,_,_,_]) [19,24] Z Z (zz Z Z ze.h Z Z mQ (kL (k:=a) oQ oQ)) ?_;refine ad [[2,14,15]] ?_;refine bR (Wx:=[]) [23,25] Z Z (zz Z Z ze.h Z Z mQ (kM (i:=a) (j:=pv) oQ oQ)) ?_;refine ad [[14]] ?_;refine au 2 ?_;obtain⟨d1,hd1⟩:∃ d1,d1=swp d a pv:=⟨_,rfl⟩;rw[<- hd1];have hs1:d1.size=n:=by rw[hd1];exact kU hd
 refine au 1302355240123014 ?_;refine bA [0,1,10,11] ?_;refine bE (fun n1 Wq K=>∃(u:Nat),n1=b - u/\a+1<=u/\u<=b/\scanUp (fun x=>ltInt x d1[a]!) d1 (b - 1) u=scanUp (fun x=>ltInt x d1[a]!) d1 (b - 1) (a+1)/\Wq=.sl j 0 n::za a::naL 8 (za u::za (b - 1:Nat)::naL 156 [])/\K=[(j,.row (d1.toList.map za) 3 1)]) (b - (a+1)) ⟨a+1,rfl,mL _,oQ,rfl,by rw[show(b:Int) - 1=((b - 1:Nat):Int) by omega] <;> rfl,rfl⟩ fun n1 Wq K hI hnextu=>?_;obtain⟨u,rfl,hu0,hub,heqs,rfl,rfl⟩:=hI;refine bG nQ ?_;refine au 22 ?_;refine' TK.shr (X:=Unit) (D:=fun x=>scanUp (fun x=>ltInt x d1[a]!) d1 (b - 1) (a+1)=u) (E:=fun x=>.sl j 0 n::za a::naL 8 (za u::za (b - 1:Nat)::naL 156 [])) (KK:=fun x=>[(j,.row (d1.toList.map za) 3 1)]) ?_ ?_;rotate_left
 ·intro H;refine bL [0,1,2,3,4,5,6,7,8,9,10,11,12,13] ?_;refine ad [[1,10],[1,11],[4,30,31],[1,32]] ?_;refine bW 33 (fun g3_4=>?_) (fun g3_4=>?_)
  ·have hg:u<=b - 1:=by simp at g3_4;omega
   refine ad [[1,0,33],[1,10,33],[2,33,34,35]] ?_;refine bT [33,36] Z (hq:=zg Z Z ze.h (mC _) (zR (i:=u) oQ oQ)) (h:=?_);refine ad [[1,0,33],[1,1,33],[2,33,38,39]] ?_;refine bT [33,40] Z (hq:=zg Z Z ze.h (mC _) (zR (i:=a) oQ oQ)) (h:=?_);refine TD.clE (Wx:=[_,_,_,_,_,_,_,_,_]) [33,37,41] Z Z Z Z Z (ky hT) ?_;refine ad [[7,33,42],[14]] ?_;refine au 9 ?_;apply aI<;>intro Jz
   ·rw[up_go (p:=(fun x=>ltInt x d1[a]!)) hg Jz]at heqs;refine au 1403523014130120 ?_;refine bA [0,1,10,11] ?_;refine bC [(j,_)] ?_;exact hnextu _ _ _ oQ ⟨u+1,rfl,oQ,oQ,heqs,rfl,rfl⟩
   have Qj:scanUp (fun x=>ltInt x d1[a]!) d1 (b - 1) (a+1)=u:=by rw[<- heqs];exact zap (p:=(fun x=>ltInt x d1[a]!)) (.inr Jz)
   refine au 1302160 ?_;refine bA [0,1,10,11] ?_;refine bA [0,1,10,11] ?_;refine bC [(j,_)] ?_;exact H () Qj
  have Qj:scanUp (fun x=>ltInt x d1[a]!) d1 (b - 1) (a+1)=u:=by rw[<- heqs];exact zap (.inl (by simp at g3_4;omega))
  refine ad [[11,0,33],[11,10,33],[11,33,34,35],[11,33,36],[11,0,33],[11,1,33],[11,33,38,39],[11,33,40],[11,33,37,41],[6,33,42],[14]] ?_;refine au 1302160190 ?_;refine bA [0,1,10,11] ?_;refine bA [0,1,10,11] ?_;refine bC [(j,_)] ?_;exact H () Qj
 ·rintro _ hup;refine bG nQ ?_;refine bE (fun n1 Wq K=>∃(v:Nat),n1=v/\v<=b - 1/\scanDown (fun x => !ltInt x d1[a]!) d1 u v=scanDown (fun x => !ltInt x d1[a]!) d1 u (b - 1)/\Wq=.sl j 0 n::za a::naL 8 (za u::za v::naL 156 [])/\K=[(j,.row (d1.toList.map za) 3 1)]) (b - 1) ⟨b - 1,rfl,mL _,rfl,rfl,rfl⟩ fun n1 Wq K hI hnextv=>?_;obtain⟨v,hnv,hvb,heqs,rfl,rfl⟩:=hI;subst n1;refine bG nQ ?_;refine au 22 ?_;refine' TK.shr (X:=Unit) (D:=fun x=>scanDown (fun x => !ltInt x d1[a]!) d1 u (b - 1)=v) (E:=fun x=>.sl j 0 n::za a::naL 8 (za u::za v::naL 156 [])) (KK:=fun x=>[(j,.row (d1.toList.map za) 3 1)]) ?_ ?_;rotate_left
  ·intro H;refine bL [0,1,2,3,4,5,6,7,8,9,10,11,12,13,14] ?_;refine ad [[1,10],[1,11],[4,46,47],[1,48]] ?_;refine bW 49 (fun g5_4=>?_) (fun g5_4=>?_)
   ·have hg:u<=v:=by simp at g5_4;omega
    obtain⟨q,rfl⟩:∃ q,v=q+1:=⟨v - 1,oQ⟩;refine ad [[1,0,49],[1,11,49],[2,49,50,51]] ?_;refine bT [49,52] Z (hq:=zg Z Z ze.h (mC _) (zR (i:=q+1) oQ oQ)) (h:=?_);refine ad [[1,0,49],[1,1,49],[2,49,54,55]] ?_;refine bT [49,56] Z (hq:=zg Z Z ze.h (mC _) (zR (i:=a) oQ oQ)) (h:=?_);refine TD.clE (Wx:=[_,_,_,_,_,_,_,_,_]) [49,53,57] Z Z Z Z Z (ky hT) ?_;refine bU [49,58] Z (q_not Z Z) ?_;refine ad [[7,49,59],[14]] ?_;refine au 9 ?_;apply aI<;>intro Jx
    ·rw[zdn (p:=(fun x => !ltInt x d1[a]!)) hg Jx]at heqs;refine au 1403524014130120 ?_;refine bA [0,1,10,11] ?_;refine bC [(j,_)] ?_;exact hnextv _ _ _ oQ ⟨q,rfl,oQ,heqs,by rw[show((q+1:Nat):Int) - 1=(q:Int) by omega];rfl,rfl⟩
    have Qj:scanDown (fun x => !ltInt x d1[a]!) d1 u (b - 1)=q+1:=by rw[<- heqs];exact vu (p:=(fun x => !ltInt x d1[a]!)) (.inr Jx)
    refine au 22160 ?_;refine bA [0,1,10,11] ?_;refine bC [(j,_)] ?_;exact H () Qj
   have Qj:scanDown (fun x => !ltInt x d1[a]!) d1 u (b - 1)=v:=by rw[<- heqs];exact vu (.inl (by simp at g5_4;omega))
   refine ad [[11,0,49],[11,11,49],[11,49,50,51],[11,49,52],[11,0,49],[11,1,49],[11,49,54,55],[11,49,56],[11,49,53,57],[11,49,58],[6,49,59],[14]] ?_;refine au 22160190 ?_;refine bA [0,1,10,11] ?_;refine bC [(j,_)] ?_;exact H () Qj
  ·rintro _ hdn;refine bG nQ ?_;refine au 937114 ?_;apply aI<;>intro hc2
   ·have Qp:v<u:=by simp at hc2;omega
    refine au 2 ?_;refine bL [0,1,4,5,6,7,8,9,10,11,12,13,2,3,14,15] ?_;refine ad [[1,0],[1,11],[1,0],[1,1],[1,0],[1,1],[2,70,71]] ?_;refine bT [72] Z (hq:=zg Z Z ze.h (mC _) (zR (i:=a) oQ oQ)) (h:=?_);refine ad [[1,0],[1,11],[2,74,75]] ?_;refine bT [76] Z (hq:=zg Z Z ze.h (mC _) (zR (i:=v) oQ oQ)) (h:=?_);refine ad [[2,66,67]] ?_;refine bR (Wx:=[_,_,_,_,_]) [73,78] Z Z (zz Z Z ze.h Z Z mQ (kL (k:=v) oQ oQ)) ?_;refine ad [[2,68,69]] ?_;refine bR (Wx:=[]) [77,79] Z Z (zz Z Z ze.h Z Z mQ (kM (i:=v) (j:=a) oQ oQ)) ?_;refine ad [[14]] ?_;refine au 355142 ?_;refine bB Wz [(j,_)] ?_;exact⟨_,zpf hd1 hup hdn Qp,rfl,rfl⟩
   have hge:¬ v<u:=by simp at hc2;omega
   refine au 2120 ?_;refine bL [0,1,4,5,6,7,8,9,10,11,12,13,2,3,14,15] ?_;refine ad [[1,0],[1,10],[1,0],[1,11],[1,0],[1,11],[2,85,86]] ?_;refine bT [87] Z (hq:=zg Z Z ze.h (mC _) (zR (i:=v) oQ oQ)) (h:=?_);refine ad [[1,0],[1,10],[2,89,90]] ?_;refine bT [91] Z (hq:=zg Z Z ze.h (mC _) (zR (i:=u) oQ oQ)) (h:=?_);refine ad [[2,81,82]] ?_;refine bR (Wx:=[_,_,_,_,_]) [88,93] Z Z (zz Z Z ze.h Z Z mQ (kL (k:=u) oQ oQ)) ?_;refine ad [[2,83,84]] ?_;refine bR (Wx:=[]) [92,94] Z Z (zz Z Z ze.h Z Z mQ (kM (i:=u) (j:=v) oQ oQ)) ?_;refine ad [[14]] ?_;refine au 13023524014235230142 ?_;refine bA [0,1,10,11] ?_;obtain⟨u0,hu0e⟩:∃ u0,u0=u:=⟨_,rfl⟩;obtain⟨v0,hv0e⟩:∃ v0,v0=v:=⟨_,rfl⟩;have hup0:=hup;have hdn0:=hdn;have hge0:=hge;rw[<- hu0e,<- hv0e]at hdn0 hge0;rw[<- hu0e]at hup0;refine bE (fun n1 Wq K=>∃(u2 v2:Nat)(d2:Array Int),n1=v2+1 - u2/\a<u2/\u2<=b/\v2<b/\d2.size=n/\partLoop ltInt a u2 v2 d2=partLoop ltInt a (u0+1) (v0 - 1) (swp d1 u0 v0)/\Wq=.sl j 0 n::za a::naL 8 (za u2::za v2::naL 156 [])/\K=[(j,.row (d2.toList.map za) 3 1)]) (v - 1+1 - (u+1)) ⟨u+1,v - 1,swp d1 u v,rfl,oQ,oQ,oQ,kU hs1,by rw[hu0e,hv0e],by rw[show(v:Int) - 1=((v - 1:Nat):Int) by omega] <;> rfl,rfl⟩ fun n1 Wq K hI hnext2=>?_;clear hup hdn hge;obtain⟨u2,v2,d2,rfl,hau,hub2,hvb2,hs2,heq2,rfl,rfl⟩:=hI;refine bG nQ ?_;refine au 1302130 ?_;refine bA [0,1,10,11] ?_;refine bE (fun n1 Wq K=>∃(u:Nat),n1=b - u/\u2<=u/\u<=b/\scanUp (fun x=>ltInt x d2[a]!) d2 (v2) u=scanUp (fun x=>ltInt x d2[a]!) d2 (v2) (u2)/\Wq=.sl j 0 n::za a::naL 8 (za u::za v2::naL 156 [])/\K=[(j,.row (d2.toList.map za) 3 1)]) (b - (u2)) ⟨u2,rfl,mL _,oQ,rfl,rfl,rfl⟩ fun n1 Wq K hI hnextu=>?_;obtain⟨u,rfl,hu0,hub,heqs,rfl,rfl⟩:=hI;refine bG nQ ?_;refine au 22 ?_;refine' TK.shr (X:=Unit) (D:=fun x=>scanUp (fun x=>ltInt x d2[a]!) d2 (v2) (u2)=u) (E:=fun x=>.sl j 0 n::za a::naL 8 (za u::za v2::naL 156 [])) (KK:=fun x=>[(j,.row (d2.toList.map za) 3 1)]) ?_ ?_;rotate_left
   ·intro H;refine bL [0,1,2,3,4,5,6,7,8,9,10,11,12,13] ?_;refine ad [[1,10],[1,11],[4,99,100],[1,101]] ?_;refine bW 102 (fun g13_4=>?_) (fun g13_4=>?_)
    ·have hg:u<=v2:=by simp at g13_4;omega
     refine ad [[1,0,102],[1,10,102],[2,102,103,104]] ?_;refine bT [102,105] Z (hq:=zg Z Z ze.h (mC _) (zR (i:=u) oQ oQ)) (h:=?_);refine ad [[1,0,102],[1,1,102],[2,102,107,108]] ?_;refine bT [102,109] Z (hq:=zg Z Z ze.h (mC _) (zR (i:=a) oQ oQ)) (h:=?_);refine TD.clE (Wx:=[_,_,_,_,_,_,_,_,_]) [102,106,110] Z Z Z Z Z (ky hT) ?_;refine ad [[7,102,111],[14]] ?_;refine au 9 ?_;apply aI<;>intro hc3
     ·rw[up_go (p:=(fun x=>ltInt x d2[a]!)) hg hc3]at heqs;refine au 1403523014130120 ?_;refine bA [0,1,10,11] ?_;refine bC [(j,_)] ?_;exact hnextu _ _ _ oQ ⟨u+1,rfl,oQ,oQ,heqs,rfl,rfl⟩
     have Qj:scanUp (fun x=>ltInt x d2[a]!) d2 (v2) (u2)=u:=by rw[<- heqs];exact zap (p:=(fun x=>ltInt x d2[a]!)) (.inr hc3)
     refine au 1302160 ?_;refine bA [0,1,10,11] ?_;refine bA [0,1,10,11] ?_;refine bC [(j,_)] ?_;exact H () Qj
    have Qj:scanUp (fun x=>ltInt x d2[a]!) d2 (v2) (u2)=u:=by rw[<- heqs];exact zap (.inl (by simp at g13_4;omega))
    refine ad [[11,0,102],[11,10,102],[11,102,103,104],[11,102,105],[11,0,102],[11,1,102],[11,102,107,108],[11,102,109],[11,102,106,110],[6,102,111],[14]] ?_;refine au 1302160190 ?_;refine bA [0,1,10,11] ?_;refine bA [0,1,10,11] ?_;refine bC [(j,_)] ?_;exact H () Qj
   ·rintro _ hup;refine bG nQ ?_;refine bE (fun n1 Wq K=>∃(v:Nat),n1=v/\v<=v2/\scanDown (fun x => !ltInt x d2[a]!) d2 u v=scanDown (fun x => !ltInt x d2[a]!) d2 u (v2)/\Wq=.sl j 0 n::za a::naL 8 (za u::za v::naL 156 [])/\K=[(j,.row (d2.toList.map za) 3 1)]) (v2) ⟨v2,rfl,mL _,rfl,rfl,rfl⟩ fun n1 Wq K hI hnextv=>?_;obtain⟨v,hnv,hvb,heqs,rfl,rfl⟩:=hI;subst n1;refine bG nQ ?_;refine au 22 ?_;refine' TK.shr (X:=Unit) (D:=fun x=>scanDown (fun x => !ltInt x d2[a]!) d2 u (v2)=v) (E:=fun x=>.sl j 0 n::za a::naL 8 (za u::za v::naL 156 [])) (KK:=fun x=>[(j,.row (d2.toList.map za) 3 1)]) ?_ ?_;rotate_left
    ·intro H;refine bL [0,1,2,3,4,5,6,7,8,9,10,11,12,13,14] ?_;refine ad [[1,10],[1,11],[4,115,116],[1,117]] ?_;refine bW 118 (fun g15_4=>?_) (fun g15_4=>?_)
     ·have hg:u<=v:=by simp at g15_4;omega
      obtain⟨q,rfl⟩:∃ q,v=q+1:=⟨v - 1,oQ⟩;refine ad [[1,0,118],[1,11,118],[2,118,119,120]] ?_;refine bT [118,121] Z (hq:=zg Z Z ze.h (mC _) (zR (i:=q+1) oQ oQ)) (h:=?_);refine ad [[1,0,118],[1,1,118],[2,118,123,124]] ?_;refine bT [118,125] Z (hq:=zg Z Z ze.h (mC _) (zR (i:=a) oQ oQ)) (h:=?_);refine TD.clE (Wx:=[_,_,_,_,_,_,_,_,_]) [118,122,126] Z Z Z Z Z (ky hT) ?_;refine bU [118,127] Z (q_not Z Z) ?_;refine ad [[7,118,128],[14]] ?_;refine au 9 ?_;apply aI<;>intro hc4
      ·rw[zdn (p:=(fun x => !ltInt x d2[a]!)) hg hc4]at heqs;refine au 1403524014130120 ?_;refine bA [0,1,10,11] ?_;refine bC [(j,_)] ?_;exact hnextv _ _ _ oQ ⟨q,rfl,oQ,heqs,by rw[show((q+1:Nat):Int) - 1=(q:Int) by omega];rfl,rfl⟩
      have Qj:scanDown (fun x => !ltInt x d2[a]!) d2 u (v2)=q+1:=by rw[<- heqs];exact vu (p:=(fun x => !ltInt x d2[a]!)) (.inr hc4)
      refine au 22160 ?_;refine bA [0,1,10,11] ?_;refine bC [(j,_)] ?_;exact H () Qj
     have Qj:scanDown (fun x => !ltInt x d2[a]!) d2 u (v2)=v:=by rw[<- heqs];exact vu (.inl (by simp at g15_4;omega))
     refine ad [[11,0,118],[11,11,118],[11,118,119,120],[11,118,121],[11,0,118],[11,1,118],[11,118,123,124],[11,118,125],[11,118,122,126],[11,118,127],[6,118,128],[14]] ?_;refine au 22160190 ?_;refine bA [0,1,10,11] ?_;refine bC [(j,_)] ?_;exact H () Qj
    ·rintro _ hdn;refine bG nQ ?_;refine au 937114 ?_;apply aI<;>intro hc5
     ·have Qp:v<u:=by simp at hc5;omega
      refine au 2160 ?_;refine bL [0,1,4,5,6,7,8,9,10,11,12,13,2,3,14,15] ?_;refine ad [[1,0],[1,11],[1,0],[1,1],[1,0],[1,1],[2,157,158]] ?_;refine bT [159] Z (hq:=zg Z Z ze.h (mC _) (zR (i:=a) oQ oQ)) (h:=?_);refine ad [[1,0],[1,11],[2,161,162]] ?_;refine bT [163] Z (hq:=zg Z Z ze.h (mC _) (zR (i:=v) oQ oQ)) (h:=?_);refine ad [[2,153,154]] ?_;refine bR (Wx:=[_,_,_,_,_]) [160,165] Z Z (zz Z Z ze.h Z Z mQ (kL (k:=v) oQ oQ)) ?_;refine ad [[2,155,156]] ?_;refine bR (Wx:=[]) [164,166] Z Z (zz Z Z ze.h Z Z mQ (kM (i:=v) (j:=a) oQ oQ)) ?_;refine ad [[14]] ?_;refine au 355142 ?_;refine bB Wz [(j,_)] ?_;exact⟨_,zpg hd1 hup0 hdn0 hge0 (heq2.symm.trans (zpl hup hdn Qp)),rfl,rfl⟩
     have hge:¬ v<u:=by simp at hc5;omega
     refine au 2120 ?_;refine bL [0,1,4,5,6,7,8,9,10,11,12,13,2,3,14,15] ?_;refine ad [[1,0],[1,10],[1,0],[1,11],[1,0],[1,11],[2,139,140]] ?_;refine bT [141] Z (hq:=zg Z Z ze.h (mC _) (zR (i:=v) oQ oQ)) (h:=?_);refine ad [[1,0],[1,10],[2,143,144]] ?_;refine bT [145] Z (hq:=zg Z Z ze.h (mC _) (zR (i:=u) oQ oQ)) (h:=?_);refine ad [[2,135,136]] ?_;refine bR (Wx:=[_,_,_,_,_]) [142,147] Z Z (zz Z Z ze.h Z Z mQ (kL (k:=u) oQ oQ)) ?_;refine ad [[2,137,138]] ?_;refine bR (Wx:=[]) [146,148] Z Z (zz Z Z ze.h Z Z mQ (kM (i:=u) (j:=v) oQ oQ)) ?_;refine ad [[14]] ?_;refine au 140352401435230142 ?_;refine bA [0,1,10,11] ?_;refine bC [(j,_)] ?_;exact hnext2 _ _ _ oQ ⟨u+1,v - 1,swp d2 u v,rfl,oQ,oQ,oQ,kU hs2,(pl_go hup hdn hge).symm.trans heq2,by rw[show(v:Int) - 1=((v - 1:Nat):Int) by omega] <;> rfl,rfl⟩
theorem zpo{u v:Nat}{d:Array Int}(h:u<v):reverseLoop u v d=reverseLoop (u+1) (v - 1) (swp d u v):=by
 conv=>lhs;unfold reverseLoop
 rw[if_pos h]
theorem znX{u v:Nat}{d:Array Int}(h:¬ u<v):reverseLoop u v d=d:=by unfold reverseLoop;rw[if_neg h]
theorem zit{main T}(hT:zo tp main T){gm}{j n a b pv:Nat}{d:Array Int}(hd:d.size=n)(hn:n<=100000)(ha:a<=pv)(hpv:pv<b)(hb:b<=n) :
  zl tp T gm 155 [.sl j 0 n,za a,za b,za pv] [(j,.row (d.toList.map za) 3 1)] (fun r K'=>∃ p,partitionEqual ltInt d a b pv=p/\r=za p.1/\K'=[(j,.row (p.2.toList.map za) 3 1)]):=by
 refine zh 84 hT Tryz.func155 fun Y Wz=>?_;refine au 23542 ?_;refine bL [0,1,4,5,6,7,8,9,10,11,12,13,2,3,14,15] ?_;refine ad [[1,0],[1,1],[1,0],[1,3],[1,0],[1,3],[2,15,16]] ?_;refine bT [17] Z (hq:=zg Z Z ze.h (mC _) (zR (i:=pv) oQ oQ)) (h:=?_);refine ad [[1,0],[1,1],[2,19,20]] ?_;refine bT [21] Z (hq:=zg Z Z ze.h (mC _) (zR (i:=a) oQ oQ)) (h:=?_);refine ad [[2,11,12]] ?_;refine bR (Wx:=[_,_,_,_,_]) [18,23] Z Z (zz Z Z ze.h Z Z mQ (kL (k:=a) oQ oQ)) ?_;refine ad [[2,13,14]] ?_;refine bR (Wx:=[]) [22,24] Z Z (zz Z Z ze.h Z Z mQ (kM (i:=a) (j:=pv) oQ oQ)) ?_;refine ad [[14]] ?_;refine au 13023552401230142 ?_;refine bA [0,1,9,10] ?_;refine bE (fun n1 Wq K=>∃(u2 v2:Nat)(d2:Array Int),n1=v2+1 - u2/\a<u2/\u2<=b/\v2<b/\d2.size=n/\partEqLoop ltInt a u2 v2 d2=partitionEqual ltInt d a b pv/\Wq=.sl j 0 n::za a::naL 7 (za u2::za v2::naL 73 [])/\K=[(j,.row (d2.toList.map za) 3 1)]) (b - 1+1 - (a+1)) ⟨a+1,b - 1,swp d a pv,rfl,oQ,oQ,oQ,kU hd,rfl,by rw[show(b:Int) - 1=((b - 1:Nat):Int) by omega] <;> rfl,rfl⟩ fun n1 Wq K hI hnext2=>?_;obtain⟨u2,v2,d2,rfl,hau,hub2,hvb2,hs2,heq2,rfl,rfl⟩:=hI;refine bG nQ ?_;refine au 1302130 ?_;refine bA [0,1,9,10] ?_;refine bE (fun n1 Wq K=>∃(u:Nat),n1=b - u/\u2<=u/\u<=b/\scanUp (fun x => !ltInt d2[a]! x) d2 (v2) u=scanUp (fun x => !ltInt d2[a]! x) d2 (v2) (u2)/\Wq=.sl j 0 n::za a::naL 7 (za u::za v2::naL 73 [])/\K=[(j,.row (d2.toList.map za) 3 1)]) (b - (u2)) ⟨u2,rfl,mL _,oQ,rfl,rfl,rfl⟩ fun n1 Wq K hI hnextu=>?_;obtain⟨u,rfl,hu0,hub,heqs,rfl,rfl⟩:=hI;refine bG nQ ?_;refine au 22 ?_;refine' TK.shr (X:=Unit) (D:=fun x=>scanUp (fun x => !ltInt d2[a]! x) d2 (v2) (u2)=u) (E:=fun x=>.sl j 0 n::za a::naL 7 (za u::za v2::naL 73 [])) (KK:=fun x=>[(j,.row (d2.toList.map za) 3 1)]) ?_ ?_;rotate_left
 ·intro H;refine bL [0,1,2,3,4,5,6,7,8,9,10,11,12,13,14] ?_;refine ad [[1,9],[1,10],[4,29,30],[1,31]] ?_;refine bW 32 (fun g3_4=>?_) (fun g3_4=>?_)
  ·have hg:u<=v2:=by simp at g3_4;omega
   refine ad [[1,0,32],[1,1,32],[2,32,33,34]] ?_;refine bT [32,35] Z (hq:=zg Z Z ze.h (mC _) (zR (i:=a) oQ oQ)) (h:=?_);refine ad [[1,0,32],[1,9,32],[2,32,37,38]] ?_;refine bT [32,39] Z (hq:=zg Z Z ze.h (mC _) (zR (i:=u) oQ oQ)) (h:=?_);refine TD.clE (Wx:=[_,_,_,_,_,_,_,_,_]) [32,36,40] Z Z Z Z Z (ky hT) ?_;refine bU [32,41] Z (q_not Z Z) ?_;refine ad [[7,32,42],[14]] ?_;refine au 9 ?_;apply aI<;>intro Jz
   ·rw[up_go (p:=(fun x => !ltInt d2[a]! x)) hg Jz]at heqs;refine au 1403523014130120 ?_;refine bA [0,1,9,10] ?_;refine bC [(j,_)] ?_;exact hnextu _ _ _ oQ ⟨u+1,rfl,oQ,oQ,heqs,rfl,rfl⟩
   have Qj:scanUp (fun x => !ltInt d2[a]! x) d2 (v2) (u2)=u:=by rw[<- heqs];exact zap (p:=(fun x => !ltInt d2[a]! x)) (.inr Jz)
   refine au 1302160 ?_;refine bA [0,1,9,10] ?_;refine bA [0,1,9,10] ?_;refine bC [(j,_)] ?_;exact H () Qj
  have Qj:scanUp (fun x => !ltInt d2[a]! x) d2 (v2) (u2)=u:=by rw[<- heqs];exact zap (.inl (by simp at g3_4;omega))
  refine ad [[11,0,32],[11,1,32],[11,32,33,34],[11,32,35],[11,0,32],[11,9,32],[11,32,37,38],[11,32,39],[11,32,36,40],[11,32,41],[6,32,42],[14]] ?_;refine au 1302160190 ?_;refine bA [0,1,9,10] ?_;refine bA [0,1,9,10] ?_;refine bC [(j,_)] ?_;exact H () Qj
 ·rintro _ hup;refine bG nQ ?_;refine bE (fun n1 Wq K=>∃(v:Nat),n1=v/\v<=v2/\scanDown (fun x=>ltInt d2[a]! x) d2 u v=scanDown (fun x=>ltInt d2[a]! x) d2 u (v2)/\Wq=.sl j 0 n::za a::naL 7 (za u::za v::naL 73 [])/\K=[(j,.row (d2.toList.map za) 3 1)]) (v2) ⟨v2,rfl,mL _,rfl,rfl,rfl⟩ fun n1 Wq K hI hnextv=>?_;obtain⟨v,hnv,hvb,heqs,rfl,rfl⟩:=hI;subst n1;refine bG nQ ?_;refine au 22 ?_;refine' TK.shr (X:=Unit) (D:=fun x=>scanDown (fun x=>ltInt d2[a]! x) d2 u (v2)=v) (E:=fun x=>.sl j 0 n::za a::naL 7 (za u::za v::naL 73 [])) (KK:=fun x=>[(j,.row (d2.toList.map za) 3 1)]) ?_ ?_;rotate_left
  ·intro H;refine bL [0,1,2,3,4,5,6,7,8,9,10,11,12,13] ?_;refine ad [[1,9],[1,10],[4,46,47],[1,48]] ?_;refine bW 49 (fun g5_4=>?_) (fun g5_4=>?_)
   ·have hg:u<=v:=by simp at g5_4;omega
    obtain⟨q,rfl⟩:∃ q,v=q+1:=⟨v - 1,oQ⟩;refine ad [[1,0,49],[1,1,49],[2,49,50,51]] ?_;refine bT [49,52] Z (hq:=zg Z Z ze.h (mC _) (zR (i:=a) oQ oQ)) (h:=?_);refine ad [[1,0,49],[1,10,49],[2,49,54,55]] ?_;refine bT [49,56] Z (hq:=zg Z Z ze.h (mC _) (zR (i:=q+1) oQ oQ)) (h:=?_);refine TD.clE (Wx:=[_,_,_,_,_,_,_,_,_]) [49,53,57] Z Z Z Z Z (ky hT) ?_;refine ad [[7,49,58],[14]] ?_;refine au 9 ?_;apply aI<;>intro Jx
    ·rw[zdn (p:=(fun x=>ltInt d2[a]! x)) hg Jx]at heqs;refine au 1403524014130120 ?_;refine bA [0,1,9,10] ?_;refine bC [(j,_)] ?_;exact hnextv _ _ _ oQ ⟨q,rfl,oQ,heqs,by rw[show((q+1:Nat):Int) - 1=(q:Int) by omega];rfl,rfl⟩
    have Qj:scanDown (fun x=>ltInt d2[a]! x) d2 u (v2)=q+1:=by rw[<- heqs];exact vu (p:=(fun x=>ltInt d2[a]! x)) (.inr Jx)
    refine au 22160 ?_;refine bA [0,1,9,10] ?_;refine bC [(j,_)] ?_;exact H () Qj
   have Qj:scanDown (fun x=>ltInt d2[a]! x) d2 u (v2)=v:=by rw[<- heqs];exact vu (.inl (by simp at g5_4;omega))
   refine ad [[11,0,49],[11,1,49],[11,49,50,51],[11,49,52],[11,0,49],[11,10,49],[11,49,54,55],[11,49,56],[11,49,53,57],[6,49,58],[14]] ?_;refine au 22160190 ?_;refine bA [0,1,9,10] ?_;refine bC [(j,_)] ?_;exact H () Qj
  ·rintro _ hdn;refine bG nQ ?_;refine au 937114 ?_;apply aI<;>intro hc2
   ·have Qp:v<u:=by simp at hc2;omega
    refine au 35142160 ?_;refine bB Wz [(j,_)] ?_;exact⟨_,heq2.symm.trans (zpi hup hdn Qp),rfl,rfl⟩
   have hge:¬ v<u:=by simp at hc2;omega
   refine au 2120 ?_;refine bL [0,1,4,5,6,7,8,9,10,11,12,13,2,3,14,15] ?_;refine ad [[1,0],[1,9],[1,0],[1,10],[1,0],[1,10],[2,69,70]] ?_;refine bT [71] Z (hq:=zg Z Z ze.h (mC _) (zR (i:=v) oQ oQ)) (h:=?_);refine ad [[1,0],[1,9],[2,73,74]] ?_;refine bT [75] Z (hq:=zg Z Z ze.h (mC _) (zR (i:=u) oQ oQ)) (h:=?_);refine ad [[2,65,66]] ?_;refine bR (Wx:=[_,_,_,_,_]) [72,77] Z Z (zz Z Z ze.h Z Z mQ (kL (k:=u) oQ oQ)) ?_;refine ad [[2,67,68]] ?_;refine bR (Wx:=[]) [76,78] Z Z (zz Z Z ze.h Z Z mQ (kM (i:=u) (j:=v) oQ oQ)) ?_;refine ad [[14]] ?_;refine au 140352401435230142 ?_;refine bA [0,1,9,10] ?_;refine bC [(j,_)] ?_;exact hnext2 _ _ _ oQ ⟨u+1,v - 1,swp d2 u v,rfl,oQ,oQ,oQ,kU hs2,(pe_go hup hdn hge).symm.trans heq2,by rw[show(v:Int) - 1=((v - 1:Nat):Int) by omega] <;> rfl,rfl⟩
theorem znW{main T}(hT:zo tp main T){gm}{j n a b:Nat}{d:Array Int}(hd:d.size=n)(hn:n<=100000)(hab:a<b)(hb:b<=n) :
  zl tp T gm 152 [.sl j 0 n,za a,za b] [(j,.row (d.toList.map za) 3 1)] (fun r K'=>K'=[(j,.row ((reverseRange d a b).toList.map za) 3 1)]):=by
 refine zh 32 hT Tryz.func152 fun Y Wz=>?_;refine au 1303524014235142 ?_;refine bA [0,6,7] ?_;refine bE (fun n1 Wq K=>∃(u v:Nat)(d1:Array Int),n1=v - u/\u<=b/\v<b/\d1.size=n/\reverseLoop u v d1=reverseRange d a b/\Wq=.sl j 0 n::naL 5 (za u::za v::naL 24 [])/\K=[(j,.row (d1.toList.map za) 3 1)]) (b - 1 - a) ⟨a,b - 1,d,rfl,oQ,oQ,hd,rfl,by rw[show(b:Int) - 1=((b - 1:Nat):Int) by omega] <;> rfl,rfl⟩ fun n1 Wq K hI Wj=>?_;obtain⟨u,v,d1,rfl,hub,hvb,hs1,heq,rfl,rfl⟩:=hI;refine bG nQ ?_;refine au 93711422 ?_;apply aI<;>intro Jz
 ·have Qp:u<v:=by simp at Jz;omega
  rw[zpo Qp]at heq;refine au 2130120 ?_;refine bL [0,1,4,5,6,7,8,9,10,11,12,13,2,3,14,15] ?_;refine ad [[1,0],[1,6],[1,0],[1,7],[1,0],[1,7],[2,18,19]] ?_;refine bT [20] Z (hq:=zg Z Z ze.h (mC _) (zR (i:=v) oQ oQ)) (h:=?_);refine ad [[1,0],[1,6],[2,22,23]] ?_;refine bT [24] Z (hq:=zg Z Z ze.h (mC _) (zR (i:=u) oQ oQ)) (h:=?_);refine ad [[2,14,15]] ?_;refine bR (Wx:=[_,_,_,_,_]) [21,26] Z Z (zz Z Z ze.h Z Z mQ (kL (k:=u) oQ oQ)) ?_;refine ad [[2,16,17]] ?_;refine bR (Wx:=[]) [25,27] Z Z (zz Z Z ze.h Z Z mQ (kM (i:=u) (j:=v) oQ oQ)) ?_;refine ad [[14]] ?_;refine au 140352401435230142 ?_;refine bA [0,6,7] ?_;refine bC [(j,_)] ?_;exact Wj _ _ _ oQ ⟨u+1,v - 1,swp d1 u v,rfl,oQ,oQ,kU hs1,heq,by rw[show(v:Int) - 1=((v - 1:Nat):Int) by omega] <;> rfl,rfl⟩
 have Qp:¬ u<v:=by simp at Jz;omega
 refine au 160 ?_;refine TK.rt0 Wz [(j,_)] ?_;rw[<- heq];rw[znX Qp]
theorem zaI{main T}(hT:zo tp main T){gm}{j js n a b:Nat}{d:Array Int}{sw:Int}(hd:d.size=n)(hn:n<=100000)(ha:a<n)(hb:b<n)(hsw:0<=sw/\sw<=1000) :
  zl tp T gm 194 [.sl j 0 n,za a,za b,.ptr js 0] [(j,.row (d.toList.map za) 3 1),(js,.cells [za sw] 3 tt)] (fun r K'=>∃(x y:Nat)(sw':Int),((x=a/\y=b)\/(x=b/\y=a))/\0<=sw'/\sw'<=sw+1/\r=.tup [za x,za y]/\K'=[(j,.row (d.toList.map za) 3 1),(js,.cells [za sw'] 3 tt)]):=by
 refine zh 28 hT Tryz.func194 fun Y Wz=>?_;refine au 2235542 ?_;refine bL [0,1,2,3,4,5,6,7,8] ?_;refine ad [[1,0],[1,2],[2,10,11]] ?_;refine bT [12] Z (hq:=zg Z Z ze.h (mC _) (zR (i:=b) oQ oQ)) (h:=?_);refine ad [[1,0],[1,1],[2,14,15]] ?_;refine bT [16] Z (hq:=zg Z Z ze.h (mC _) (zR (i:=a) oQ oQ)) (h:=?_);refine TD.clE (Wx:=[_,_,_,_,_,_]) [13,17] Z Z Z Z Z (ky hT) ?_;refine ad [[14]] ?_;refine au 9 ?_;apply aI<;>intro Jz
 ·refine au 142 ?_;refine bH Z (kc Z Z) ?_;refine au 230690 ?_;refine bH Z (kc Z Z) ?_;refine au 35511423170 ?_;refine bB Wz [(j,_),(js,_)] ?_;exact⟨_,_,_,.inr ⟨rfl,rfl⟩,oQ,oQ,rfl,rfl⟩
 refine au 3551142120 ?_;refine bB Wz [(j,_),(js,_)] ?_;exact⟨_,_,_,.inl ⟨rfl,rfl⟩,oQ,oQ,rfl,rfl⟩
theorem zaG{main T}(hT:zo tp main T){gm}{j js n a b c:Nat}{d:Array Int}{sw:Int}(hd:d.size=n)(hn:n<=100000)(ha:a<n)(hb:b<n)(hc:c<n)(hsw:0<=sw/\sw<=900) :
  zl tp T gm 179 [.sl j 0 n,za a,za b,za c,.ptr js 0] [(j,.row (d.toList.map za) 3 1),(js,.cells [za sw] 3 tt)] (fun r K'=>∃(x:Nat)(sw':Int),(x=a\/x=b\/x=c)/\0<=sw'/\sw'<=sw+3/\r=za x/\K'=[(j,.row (d.toList.map za) 3 1),(js,.cells [za sw'] 3 tt)]):=by
 refine zh 36 hT Tryz.func179 fun Y Wz=>?_;refine au 1111423542 ?_;refine bD Z Z Z Z (zaI hT (sw:=sw) hd hn oQ oQ oQ) ?_;rintro r1 K2 ⟨x1,y1,q1,hx1,hq11,hq12,rfl,rfl⟩;refine au 111142355661 ?_;refine bD Z Z Z Z (zaI hT (sw:=q1) hd hn oQ oQ oQ) ?_;rintro r4 K5 ⟨x2,y2,q2,hx2,hq21,hq22,rfl,rfl⟩;refine au 111142355661 ?_;refine bD Z Z Z Z (zaI hT (sw:=q2) hd hn oQ oQ oQ) ?_;rintro r7 K8 ⟨x3,y3,q3,hx3,hq31,hq32,rfl,rfl⟩;refine au 35142355661 ?_;refine bB Wz [(j,_),(js,_)] ?_;exact⟨_,_,oQ,oQ,oQ,rfl,rfl⟩
theorem vY{main T}(hT:zo tp main T){gm}{j js n a:Nat}{d:Array Int}{sw:Int}(hd:d.size=n)(hn:n<=100000)(h1:1<=a)(ha:a+1<n)(hsw:0<=sw/\sw<=900) :
  zl tp T gm 178 [.sl j 0 n,za a,.ptr js 0] [(j,.row (d.toList.map za) 3 1),(js,.cells [za sw] 3 tt)] (fun r K'=>∃(x:Nat)(sw':Int),a<=x+1/\x<=a+1/\0<=sw'/\sw'<=sw+3/\r=za x/\K'=[(j,.row (d.toList.map za) 3 1),(js,.cells [za sw'] 3 tt)]):=by
 refine zh 15 hT Tryz.func178 fun Y Wz=>?_;refine au 23542 ?_;obtain⟨p,rfl⟩:∃ p,a=p+1:=⟨a - 1,oQ⟩;refine au 240114 ?_;rw[show((p+1:Nat):Int) - 1=(p:Int) by omega];refine au 123011 ?_;refine bD Z Z Z Z (zaG hT (sw:=sw) (a:=p) (b:=p+1) (c:=p+1+1) hd hn oQ oQ oQ oQ) ?_;rintro r1 K2 ⟨x,q,hx,hq1,hq2,rfl,rfl⟩;refine au 35 ?_;refine bB Wz [(j,_),(js,_)] ?_;exact⟨_,_,oQ,oQ,oQ,oQ,rfl,rfl⟩
end Go.Vel
namespace Go.Vel
open Go Go.Conc Go.Proofs
theorem zcy{n:Int}(h:0<=n/\n<18446744073709551616):IntKind.u64.wrap n=n:=by
 unfold IntKind.wrap;simp only[show IntKind.u64.bits=64 from rfl,show IntKind.u64.signed=ff from rfl,Bool.false_and];split <;> rename_i h1 <;> first|(exact absurd h1 dQ)|omega
theorem zpx(x:Int):0<=IntKind.u64.wrap x/\IntKind.u64.wrap x<18446744073709551616:=by
 unfold IntKind.wrap;simp only[show IntKind.u64.bits=64 from rfl,show IntKind.u64.signed=ff from rfl,Bool.false_and];split <;> rename_i h1 <;> first|(exact absurd h1 dQ)|omega
def xorW(a b:Int):Int:=IntKind.u64.wrap ((BitVec.ofInt 64 a ^^^ BitVec.ofInt 64 b).toNat:Int)
def andW(a b:Int):Int:=IntKind.u64.wrap ((BitVec.ofInt 64 a &&& BitVec.ofInt 64 b).toNat:Int)
theorem zhN(a b:Int):0<=xorW a b/\xorW a b<18446744073709551616:=zpx _
theorem zmH(a:Int){b:Nat}(hb:b<1000000):0<=andW a b/\andW a b<=b:=by
 have h1:(BitVec.ofInt 64 (b:Int)).toNat=b:=by
  rw[BitVec.toNat_ofInt];omega
 have h2:(BitVec.ofInt 64 a &&& BitVec.ofInt 64 (b:Int)).toNat<=b:=by
  rw[BitVec.toNat_and,h1];exact Nat.and_le_right
 unfold andW;rw[zcy oQ];omega
section
variable {P:gP}{gm:Nat->Option Nat}{V:KV}{Wq:List AV}{o:Oper}
theorem zdy{t yt:gT}{x y:gO}{a b:Int}(ho:o.op=.binOp .xor t x y yt)(hx:zn gm Wq x=some (.v (.int .u64 a)))(hy:zn gm Wq y=some (.v (.int .u64 b))):Qk P gm Wq V o (.v (.int .u64 (xorW a b))):=wv ho hx hy rfl
theorem znN{t yt:gT}{x y:gO}{a b:Int}(ho:o.op=.binOp .and t x y yt)(hx:zn gm Wq x=some (.v (.int .u64 a)))(hy:zn gm Wq y=some (.v (.int .u64 b))):Qk P gm Wq V o (.v (.int .u64 (andW a b))):=wv ho hx hy rfl
theorem znQ{t yt:gT}{x y:gO}{a b:Int}(ho:o.op=.binOp .sub t x y yt)(hx:zn gm Wq x=some (.v (.int .u64 a)))(hy:zn gm Wq y=some (.v (.int .u64 b)))(h:0<=a - b/\a - b<18446744073709551616):Qk P gm Wq V o (.v (.int .u64 (a - b))):=by
 refine wv ho hx hy ?_;show some (Value.int .u64 (IntKind.u64.wrap (a - b)))=_;rw[zcy h]
theorem zhu{t yt:gT}{x y:gO}{k':IntKind}{a b:Int}(ho:o.op=.binOp .shr t x y yt)(hx:zn gm Wq x=some (.v (.int .u64 a)))(hy:zn gm Wq y=some (.v (.int k' b)))(h0:0<=b):Qk P gm Wq V o (.v (.int .u64 (a.fdiv (2 ^ min b.toNat 64)))):=fun A _=>by
 refine wu ho (by rw[zq hx];rfl) (by rw[zq hy];rfl) ?_;rw[vv];show zL P (Op.shift .shr .u64 a k' b)=_;unfold Op.shift;rw[if_neg oQ];rfl
end
theorem zni{s:ByteArray}{n:Nat}(hn:n<256)(h:n<s.size)(hall:(List.range 256).all (fun k=>match s[k]? with|some c=>decide (c.toNat<=8/\(k=0\/2 ^ c.toNat<=2*k))|none=>tt)=tt):∃ m:Nat,za (0+((s[n]'h).toNat:Int))=za m/\m<=8/\(n=0\/2 ^ m<=2*n)/\([]:KV)=[]:=by
 have h1:=List.all_eq_true.1 hall n (List.mem_range.2 hn);rw[getElem?_pos s n h]at h1;have h2:=oT_ h1;exact⟨(s[n]'h).toNat,by rw[Int.zero_add],h2.1,h2.2,rfl⟩
theorem zly{s:ByteArray}{n:Nat}(hn:n<256)(h:n<s.size)(hall:(List.range 256).all (fun k=>match s[k]? with|some c=>decide (c.toNat<=8/\(k=0\/2 ^ c.toNat<=2*k))|none=>tt)=tt):∃ m:Nat,za (0+((s[n]'h).toNat:Int))=za m/\m<=16/\(n=0\/2 ^ m<=2*n)/\([]:KV)=[]:=by
 obtain⟨m,h1,h2,h3,h4⟩:=zni hn h hall;exact⟨m,h1,oQ,h3,h4⟩
theorem zlz{s:ByteArray}{n:Nat}(hn:n<65536)(h256:256<=n)(h:n / 256<s.size)(hall:(List.range 256).all (fun k=>match s[k]? with|some c=>decide (c.toNat<=8/\(k=0\/2 ^ c.toNat<=2*k))|none=>tt)=tt):∃ m:Nat,za (0+8+((s[n / 256]'h).toNat:Int))=za m/\m<=16/\(n=0\/2 ^ m<=2*n)/\([]:KV)=[]:=by
 have h1:=List.all_eq_true.1 hall (n / 256) (List.mem_range.2 oQ);rw[getElem?_pos s (n / 256) h]at h1;have h2:=oT_ h1;have h3:2 ^ (s[n / 256]'h).toNat<=2*(n / 256):=h2.2.resolve_left oQ;refine⟨8+(s[n / 256]'h).toNat,by congr 1,oQ,.inr ?_,rfl⟩;rw[Nat.pow_add];omega
theorem ziZ(c:UInt8) : -9223372036854775808<=0+8+(c.toNat:Int)/\0+8+(c.toNat:Int)<9223372036854775808:=by have:=c.toNat_lt;omega
theorem zbw{n:Nat}(h:n<65536):IntKind.u64.wrap (n:Int)=n:=zcy oQ
theorem shr8{n:Nat}:((n:Int).fdiv (2 ^ min ((8:Int)).toNat 64))=((n / 256:Nat):Int):=by
 show((n:Int).fdiv 256)=_;rw[Int.fdiv_eq_ediv_of_nonneg _ dQ];rfl
theorem zn1{m:Nat}(hm:m<=16):IntKind.u64.wrap (1*2 ^ ((m:Nat):Int).toNat)=((2 ^ m:Nat):Int):=by
 have:m=0\/m=1\/m=2\/m=3\/m=4\/m=5\/m=6\/m=7\/m=8\/m=9\/m=10\/m=11\/m=12\/m=13\/m=14\/m=15\/m=16:=by omega
 rcases this with rfl|rfl|rfl|rfl|rfl|rfl|rfl|rfl|rfl|rfl|rfl|rfl|rfl|rfl|rfl|rfl|rfl <;> decide
end Go.Vel
namespace Go.Vel
open Go Go.Conc Go.Proofs
open Go.Sort
instance:ze tp 259 ff 1:={}
instance:TyZA tp 3 [.v (.int .i64 0)]:={}
theorem znK{main T}(hT:zo tp main T){gm}{j n a b:Nat}{d:Array Int}(hd:d.size=n)(hn:n<=100000)(hab:a<b)(hb:b<=n) :
  zl tp T gm 151 [.sl j 0 n,za a,za b] [(j,.row (d.toList.map za) 3 1)] (fun r K'=>∃(p:Nat)(hh:Int),a<=p/\p<b/\r=.tup [za p,za hh]/\K'=[(j,.row (d.toList.map za) 3 1)]):=by
 refine zh 57 hT Tryz.func151 fun Y Wz=>?_;refine au 235240114235542 ?_;rw[show(b:Int) - (a:Int)=((b - a:Nat):Int) by omega];refine au 2204 ?_;intro js hjs;refine au 11423 ?_;refine bH Z (q_quo Z Z Z oQ oQ oQ) ?_;refine bH Z (q_mul Z Z Z oQ) ?_;refine au 114235230 ?_;refine bH Z (q_quo Z Z Z oQ oQ oQ) ?_;refine bH Z (q_mul Z Z Z oQ) ?_;refine au 114235230 ?_;refine bH Z (q_quo Z Z Z oQ oQ oQ) ?_;refine bH Z (q_mul Z Z Z oQ) ?_;refine au 2235230 ?_;obtain⟨I,hI⟩:∃ I:Nat,I=a+(b - a) / 4:=⟨_,rfl⟩;obtain⟨J,hJ⟩:∃ J:Nat,J=a+(b - a) / 4*2:=⟨_,rfl⟩;obtain⟨L,hL⟩:∃ L:Nat,L=a+(b - a) / 4*3:=⟨_,rfl⟩;refine' TK.shr (X:=Nat×Int) (D:=fun x=>a<=x.1/\x.1<b) (E:=fun x=>naL 9 (.ptr js 0::.any::za x.1::naL 45 [])) (KK:=fun x=>[(j,.row (d.toList.map za) 3 1),(js,.cells [za x.2] 3 tt)]) ?_ ?_;rotate_left
 ·intro H;rw[show(a:Int)+((b - a:Nat):Int) / 4*1=(I:Int) by omega,show(a:Int)+((b - a:Nat):Int) / 4*2=(J:Int) by omega,show(a:Int)+((b - a:Nat):Int) / 4*3=(L:Int) by omega];refine au 93714 ?_;apply aI<;>intro Jz
  ·have h8:8<=b - a:=by simp at Jz;omega
   refine au 9371422 ?_;apply aI<;>intro Jx
   ·have h50:50<=b - a:=by simp at Jx;omega
    refine au 1142 ?_;refine bD Z Z Z Z (vY hT (sw:=0) (a:=I) hd hn oQ oQ oQ) ?_;rintro r1 K2 ⟨x1,q1,hx11,hx12,hx13,hx14,rfl,rfl⟩;refine au 114235 ?_;refine bD Z Z Z Z (vY hT (sw:=q1) (a:=J) hd hn oQ oQ oQ) ?_;rintro r4 K5 ⟨x2,q2,hx21,hx22,hx23,hx24,rfl,rfl⟩;refine au 11435 ?_;refine bD Z Z Z Z (vY hT (sw:=q2) (a:=L) hd hn oQ oQ oQ) ?_;rintro r7 K8 ⟨x3,q3,hx31,hx32,hx33,hx34,rfl,rfl⟩;refine au 1111435 ?_;refine bD Z Z Z Z (zaG hT (sw:=q3) (a:=x1) (b:=x2) (c:=x3) hd hn oQ oQ oQ oQ) ?_;rintro r10 K11 ⟨x4,q4,hx4,hx42,hx43,rfl,rfl⟩;refine au 235 ?_;refine bA [9,11] ?_;refine bC [(j,_),(js,_)] ?_;exact H (x4,q4) ⟨by omega,oQ⟩
   refine au 11114120 ?_;refine bD Z Z Z Z (zaG hT (sw:=0) (a:=I) (b:=J) (c:=L) hd hn oQ oQ oQ oQ) ?_;rintro r13 K14 ⟨x4,q4,hx4,hx42,hx43,rfl,rfl⟩;refine au 235 ?_;refine bA [9,11] ?_;refine bC [(j,_),(js,_)] ?_;exact H (x4,q4) ⟨by omega,oQ⟩
  refine au 2120 ?_;refine bA [9,11] ?_;refine bC [(j,_),(js,_)] ?_;exact H (J,0) ⟨by omega,oQ⟩
 ·rintro⟨p,sw⟩ ⟨hp1,hp2⟩;dsimp only at hp1 hp2 ⊢;refine bG nQ ?_;refine au 93574213036904 ?_;apply aI<;>intro hc2
  ·refine au 355142 ?_;refine bB Wz [(j,_)] ?_;exact⟨p,_,hp1,hp2,rfl,rfl⟩
  refine au 935742 ?_;apply aI<;>intro hc3
  ·refine au 355142 ?_;refine bB Wz [(j,_)] ?_;exact⟨p,_,hp1,hp2,rfl,rfl⟩
  refine au 355142 ?_;refine bB Wz [(j,_)] ?_;exact⟨p,_,hp1,hp2,rfl,rfl⟩
theorem zjD{main T}(hT:zo tp main T){gm}{n:Nat}(hn:n<65536) :
  zl tp T gm 158 [.v (.int .u64 n)] [] (fun r K'=>∃ m:Nat,r=za m/\m<=16/\(n=0\/2 ^ m<=2*n)/\K'=[]):=by
 refine zh 25 hT Tryz.func158 fun Y Wz=>?_;refine au 93714223542 ?_;apply aI<;>intro Jz
 ·simp at Jz;omega
 refine au 9371422120 ?_;apply aI<;>intro Jx
 ·simp at Jx;omega
 refine au 9371422120 ?_;apply aI<;>intro hc2
 ·have h256:256<=n:=by simp at hc2;omega
  refine au 142 ?_;refine bH Z (zhu Z Z Z dQ) ?_;rw[shr8];refine au 1142352301435 ?_;refine bH Z (yr Z Z Und.h Und.h (zcz (n:=n / 256) oQ)) ?_;refine bH Z (vp Z Z Z Und.h oQ (zeW (n:=n / 256) oQ Z)) ?_;refine bH Z (yr Z Z Und.h Und.h (zbv _)) ?_;refine bH Z (q_add Z Z Z (ziZ _)) ?_;refine au 35 ?_;refine TK.rta Wz ?_;exact zlz hn h256 _ (by decide +kernel)
 have h255:n<256:=by simp at hc2;omega
 refine au 1142120 ?_;refine bH Z (yr Z Z Und.h Und.h (zcz h255)) ?_;refine bH Z (vp Z Z Z Und.h oQ (zeW h255 Z)) ?_;refine bH Z (yr Z Z Und.h Und.h (zbv _)) ?_;refine bH Z (q_add Z Z Z (ze0 _)) ?_;refine au 35 ?_;refine TK.rta Wz ?_;exact zly h255 _ (by decide +kernel)
theorem zbJ{main T}(hT:zo tp main T){gm}{n:Nat}(hn:n<65536) :
  zl tp T gm 113 [.v (.int .u64 n)] [] (fun r K'=>∃ m:Nat,r=za m/\m<=16/\(n=0\/2 ^ m<=2*n)/\K'=[]):=by
 refine zh 8 hT Tryz.func113 fun Y Wz=>?_;refine au 14212019023542 ?_;refine bD Z Z Z Z (zjD hT hn) ?_;rintro r1 K2 ⟨m,rfl,hm8,hm2,rfl⟩;refine au 35 ?_;refine TK.rta Wz ?_;exact⟨m,rfl,hm8,hm2,rfl⟩
theorem zlN{main T}(hT:zo tp main T){gm}{n:Nat}(hn:n<65536)(h1:1<=n) :
  zl tp T gm 176 [za n] [] (fun r K'=>∃ M:Nat,1<=M/\M<=2*n/\r=.v (.int .u64 (M:Int))/\K'=[]):=by
 refine zh 7 hT Tryz.func176 fun Y Wz=>?_;refine au 1423542 ?_;refine bH Z (yr Z Z Und.h Und.h (zbw (n:=n) oQ)) ?_;refine bD Z Z Z Z (zbJ hT (n:=n) hn) ?_;rintro r1 K2 ⟨m,rfl,hm8,hm2,rfl⟩;refine au 0 ?_;refine bH Z (q_shL Z Z Z ⟨by omega,by show((m:Nat):Int)<=64;omega⟩ (r:=((2 ^ m:Nat):Int)) (zn1 hm8)) ?_;refine au 35 ?_;refine TK.rta Wz ?_;exact⟨2 ^ m,Nat.two_pow_pos _,oQ,rfl,rfl⟩
theorem zlL{main T}(hT:zo tp main T){gm}{jx:Nat}{x:Int} :
  zl tp T gm 177 [.ptr jx 0] [(jx,.cells [.v (.int .u64 x)] 259 tt)] (fun r K'=>∃ y:Int,0<=y/\y<18446744073709551616/\r=.v (.int .u64 y)/\K'=[(jx,.cells [.v (.int .u64 y)] 259 tt)]):=by
 refine zh 33 hT Tryz.func177 fun Y Wz=>?_;refine au 23542 ?_;refine bL [0,1,2,3,4,5,6,7,8,9] ?_;refine ad [[1,0]] ?_;refine bU [3] Z (kc Z Z) ?_;refine ad [[10,4],[1,0]] ?_;refine bU [6] Z (kc Z Z) ?_;refine ad [[10,7]] ?_;refine bU [8] Z (q_shL Z Z Z ⟨by decide,by decide⟩ rfl) ?_;refine bU [5,9] Z (zdy Z Z Z) ?_;refine bU [3] Z (kc Z Z) ?_;refine bR (Wx:=[]) [10,11] Z Z (zz Z Z ze.h Z Z mQ Z) ?_;refine ad [[14]] ?_;refine au 2 ?_;refine bL [0,1,2,3,4,5,6,7,8,9] ?_;refine ad [[1,0]] ?_;refine bU [12] Z (kc Z Z) ?_;refine ad [[10,13],[1,0]] ?_;refine bU [15] Z (kc Z Z) ?_;refine ad [[10,16]] ?_;refine bU [17] Z (zhu Z Z Z dQ) ?_;refine bU [14,18] Z (zdy Z Z Z) ?_;refine bU [12] Z (kc Z Z) ?_;refine bR (Wx:=[]) [19,20] Z Z (zz Z Z ze.h Z Z mQ Z) ?_;refine ad [[14]] ?_;refine au 2 ?_;refine bL [0,1,2,3,4,5,6,7,8,9] ?_;refine ad [[1,0]] ?_;refine bU [21] Z (kc Z Z) ?_;refine ad [[10,22],[1,0]] ?_;refine bU [24] Z (kc Z Z) ?_;refine ad [[10,25]] ?_;refine bU [26] Z (q_shL Z Z Z ⟨by decide,by decide⟩ rfl) ?_;refine bU [23,27] Z (zdy Z Z Z) ?_;refine bU [21] Z (kc Z Z) ?_;refine bR (Wx:=[]) [28,29] Z Z (zz Z Z ze.h Z Z mQ Z) ?_;refine ad [[14]] ?_;refine au 142 ?_;refine bH Z (kc Z Z) ?_;refine au 35690 ?_;refine bB Wz [(jx,_)] ?_;exact⟨_,(zhN _ _).1,(zhN _ _).2,rfl,rfl⟩
end Go.Vel
namespace Go.Vel
open Go Go.Conc Go.Sort
section
variable {a b i u v q s:Nat}{d d2 d3 d4:Array Int}
theorem ss_go(h:u<b)(hl:(!ltInt d[u]! d[u - 1]!)=tt):scanSorted ltInt d b u=scanSorted ltInt d b (u+1):=by
 conv=>lhs;unfold scanSorted
 rw[if_pos (by rw[hl];simp[h])]
theorem zkz(h:¬ u<b\/(!ltInt d[u]! d[u - 1]!)=ff):scanSorted ltInt d b u=u:=by
 unfold scanSorted;rw[if_neg (by rcases h with h|h <;> simp[h])]
theorem sd_go(hl:(!ltInt d[q+1]! d[q]!)=ff):shiftDown ltInt (q+1) d=shiftDown ltInt q (swp d (q+1) q):=by
 conv=>lhs;unfold shiftDown
 rw[if_neg (by rw[hl];decide)]
theorem zn0(hl:(!ltInt d[q+1]! d[q]!)=tt):shiftDown ltInt (q+1) d=d:=by
 unfold shiftDown;rw[if_pos hl]
theorem su_go(h:v<b)(hl:(!ltInt d[v]! d[v - 1]!)=ff):shiftUp ltInt b v d=shiftUp ltInt b (v+1) (swp d v (v - 1)):=by
 conv=>lhs;unfold shiftUp
 rw[if_pos h,if_neg (by rw[hl];decide)]
theorem zn5(h:v<b)(hl:(!ltInt d[v]! d[v - 1]!)=tt):shiftUp ltInt b v d=d:=by
 unfold shiftUp;rw[if_pos h,if_pos hl]
theorem zpv(h:¬ v<b):shiftUp ltInt b v d=d:=by
 unfold shiftUp;rw[if_neg h]
theorem pi_T(hs:scanSorted ltInt d b i=u)(h:u=b):partialIns ltInt a b (s+1) i d=(d,tt):=by
 unfold partialIns;simp only[];rw[hs,if_pos h]
theorem pi_F(hs:scanSorted ltInt d b i=u)(h:¬ u=b)(h2:b - a<50):partialIns ltInt a b (s+1) i d=(d,ff):=by
 unfold partialIns;simp only[];rw[hs,if_neg h,if_pos h2]
theorem pi_go(hs:scanSorted ltInt d b i=u)(h:¬ u=b)(h2:¬ b - a<50)(h3:d3=if u - a>=2 then shiftDown ltInt (u - 1) (swp d u (u - 1))else swp d u (u - 1))(h4:d4=if b - u>=2 then shiftUp ltInt b (u+1) d3 else d3):partialIns ltInt a b (s+1) i d=partialIns ltInt a b s u d4:=by
 conv=>lhs;unfold partialIns
 simp only[];rw[hs,if_neg h,if_neg h2,h4,h3]
end
end Go.Vel
namespace Go.Vel
open Go Go.Conc Go.Proofs
open Go.Sort
theorem znH{main T}(hT:zo tp main T){gm}{j n a b:Nat}{d:Array Int}(hd:d.size=n)(hn:n<=100000)(hab:a<b)(hb:b<=n) :
  zl tp T gm 153 [.sl j 0 n,za a,za b] [(j,.row (d.toList.map za) 3 1)] (fun r K'=>∃ q,partialInsertionSort ltInt d a b=q/\r=zr q.2/\K'=[(j,.row (q.1.toList.map za) 3 1)]):=by
 refine zh 133 hT Tryz.func153 fun Y Wz=>?_;refine au 13035422352301423542 ?_;refine bA [0,1,2,7,8] ?_;refine bE (fun n1 Wq K=>∃(s i:Nat)(d1:Array Int),n1=s/\s<=5/\a<i/\i<=b/\d1.size=n/\partialIns ltInt a b s i d1=partialInsertionSort ltInt d a b/\Wq=.sl j 0 n::za a::za b::naL 4 (za i::za (5 - (s:Int))::naL 124 [])/\K=[(j,.row (d1.toList.map za) 3 1)]) 5 ⟨5,a+1,d,rfl,mL _,oQ,oQ,hd,rfl,rfl,rfl⟩ fun n1 Wq K hI Wj=>?_;obtain⟨s1,i,d1,hn1,hs5,hai,hib,hs1,heq,rfl,rfl⟩:=hI;subst n1;refine bG nQ ?_;refine au 9371422 ?_;apply aI<;>intro Jz
 ·obtain⟨s,rfl⟩:∃ s,s1=s+1:=⟨s1 - 1,by simp at Jz;omega⟩;refine au 13021302120 ?_;refine bA [0,1,2,7,8] ?_;refine bE (fun n1 Wq K=>∃(u:Nat),n1=b - u/\i<=u/\u<=b/\scanSorted ltInt d1 b u=scanSorted ltInt d1 b i/\Wq=.sl j 0 n::za a::za b::naL 4 (za u::za (5 - ((s+1:Nat):Int))::naL 124 [])/\K=[(j,.row (d1.toList.map za) 3 1)]) (b - i) ⟨i,rfl,mL _,hib,rfl,rfl,rfl⟩ fun n1 Wq K hI Ww=>?_;obtain⟨u,rfl,hiu,hub,heqs,rfl,rfl⟩:=hI;refine bG nQ ?_;refine au 22 ?_;refine' TK.shr (X:=Unit) (D:=fun x=>scanSorted ltInt d1 b i=u) (E:=fun x=>.sl j 0 n::za a::za b::naL 4 (za u::za (5 - ((s+1:Nat):Int))::naL 124 [])) (KK:=fun x=>[(j,.row (d1.toList.map za) 3 1)]) ?_ ?_;rotate_left
  ·intro H;refine bL [0,1,2,3,4,5,6,7,8,9,10,11,12,13,14,15] ?_;refine ad [[1,7],[1,2],[4,17,18],[1,19]] ?_;refine bW 20 (fun g5_4=>?_) (fun g5_4=>?_)
   ·have hg:u<b:=by simp at g5_4;omega
    refine ad [[1,0,20],[1,7,20],[2,20,21,22]] ?_;refine bT [20,23] Z (hq:=zg Z Z ze.h (mC _) (zR (i:=u) oQ oQ)) (h:=?_);refine ad [[1,0,20],[1,7,20],[9,20,26],[2,20,25,27]] ?_;refine bT [20,28] Z (hq:=zg Z Z ze.h (mC _) (zR (i:=u - 1) oQ oQ)) (h:=?_);refine TD.clE (Wx:=[_,_,_,_,_,_,_,_,_,_]) [20,24,29] Z Z Z Z Z (ky hT) ?_;refine bU [20,30] Z (q_not Z Z) ?_;refine ad [[7,20,31],[14]] ?_;refine au 9 ?_;apply aI<;>intro Jx
    ·rw[ss_go hg Jx]at heqs;refine au 1403523014130120 ?_;refine bA [0,1,2,7,8] ?_;refine bC [(j,_)] ?_;exact Ww _ _ _ oQ ⟨u+1,rfl,oQ,oQ,heqs,rfl,rfl⟩
    have hf:scanSorted ltInt d1 b i=u:=by rw[<- heqs];exact zkz (.inr Jx)
    refine au 22160 ?_;refine bA [0,1,2,7,8] ?_;refine bC [(j,_)] ?_;exact H () hf
   have hf:scanSorted ltInt d1 b i=u:=by rw[<- heqs];exact zkz (.inl (by simp at g5_4;omega))
   refine ad [[11,0,20],[11,7,20],[11,20,21,22],[11,20,23],[11,0,20],[11,7,20],[11,20,26],[11,20,25,27],[11,20,28],[11,20,24,29],[11,20,30],[6,20,31],[14]] ?_;refine au 22160190 ?_;refine bA [0,1,2,7,8] ?_;refine bC [(j,_)] ?_;exact H () hf
  ·rintro _ hsc;refine bG nQ ?_;refine au 937114 ?_;apply aI<;>intro hc2
   ·have hq1:partialInsertionSort ltInt d a b=(d1,tt):=heq.symm.trans (pi_T hsc (by simp at hc2;omega));refine au 3542 ?_;refine bB Wz [(j,_)] ?_;exact⟨_,hq1,rfl,rfl⟩
   have hub2:¬ u=b:=fun h=>by rw[h]at hc2;simp at hc2
   refine au 93724011422120 ?_;apply aI<;>intro hc3
   ·have hq1:partialInsertionSort ltInt d a b=(d1,ff):=heq.symm.trans (pi_F hsc hub2 (by simp at hc3;omega));refine au 3542 ?_;refine bB Wz [(j,_)] ?_;exact⟨_,hq1,rfl,rfl⟩
   have h50:¬ b - a<50:=by simp at hc3;omega
   refine au 2120 ?_;refine bL [0,1,5,6,7,8,9,10,11,12,13,14,15,2,3,4,16,17] ?_;refine ad [[1,0],[1,7],[1,0],[1,7],[9,45],[1,0],[1,7],[9,48],[2,47,49]] ?_;refine bT [50] Z (hq:=zg Z Z ze.h (mC _) (zR (i:=u - 1) oQ oQ)) (h:=?_);refine ad [[1,0],[1,7],[2,52,53]] ?_;refine bT [54] Z (hq:=zg Z Z ze.h (mC _) (zR (i:=u) oQ oQ)) (h:=?_);refine ad [[2,42,43]] ?_;refine bR (Wx:=[_,_,_,_,_,_]) [51,56] Z Z (zz Z Z ze.h Z Z mQ (kL (k:=u) oQ oQ)) ?_;refine ad [[2,44,46]] ?_;refine bR (Wx:=[]) [55,57] Z Z (zz Z Z ze.h Z Z mQ (kM (i:=u) (j:=u - 1) oQ oQ)) ?_;refine ad [[14]] ?_;refine au 22 ?_;refine' TK.shr (X:=Array Int) (D:=fun x=>x.size=n/\x=if u - a>=2 then shiftDown ltInt (u - 1) (swp d1 u (u - 1))else swp d1 u (u - 1)) (E:=fun x=>.sl j 0 n::za a::za b::naL 4 (za u::za (5 - ((s+1:Nat):Int))::naL 124 [])) (KK:=fun x=>[(j,.row (x.toList.map za) 3 1)]) ?_ ?_;rotate_left
   ·intro H;obtain⟨d2,hd2⟩:∃ d2,d2=swp d1 u (u - 1):=⟨_,rfl⟩;have hs2:d2.size=n:=by rw[hd2];exact kU hs1
    rw[<- hd2];refine au 937240114 ?_;apply aI<;>intro hc4
    ·have h2:u - a>=2:=by simp at hc4;omega
     refine au 13035240142 ?_;refine bA [0,1,2,7,8,9] ?_;refine bE (fun n1 Wq K=>∃(v:Nat)(d3:Array Int),n1=v/\v<=u - 1/\d3.size=n/\shiftDown ltInt v d3=shiftDown ltInt (u - 1) d2/\Wq=.sl j 0 n::za a::za b::naL 4 (za u::za (5 - ((s+1:Nat):Int))::za v::naL 123 [])/\K=[(j,.row (d3.toList.map za) 3 1)]) (u - 1) ⟨u - 1,d2,rfl,mL _,hs2,rfl,by rw[show(u:Int) - 1=((u - 1:Nat):Int) by omega] <;> rfl,rfl⟩ fun n1 Wq K hI hnext2=>?_;obtain⟨v,d3,hnv,hvu,hs3,heq3,rfl,rfl⟩:=hI;subst n1;refine bG nQ ?_;refine au 9371422 ?_;apply aI<;>intro hc5
     ·obtain⟨q,rfl⟩:∃ q,v=q+1:=⟨v - 1,by simp at hc5;omega⟩;refine au 221302120 ?_;refine bL [0,1,2,3,4,5,6,7,8,9,10] ?_;refine ad [[1,0],[1,9],[2,68,69]] ?_;refine bT [70] Z (hq:=zg Z Z ze.h (mC _) (zR (i:=q+1) oQ oQ)) (h:=?_);refine ad [[1,0],[1,9],[9,73],[2,72,74]] ?_;refine bT [75] Z (hq:=zg Z Z ze.h (mC _) (zR (i:=q) oQ oQ)) (h:=?_);refine TD.clE (Wx:=[_,_,_,_,_,_,_]) [71,76] Z Z Z Z Z (ky hT) ?_;refine bU [77] Z (q_not Z Z) ?_;refine ad [[14]] ?_;refine au 9 ?_;apply aI<;>intro hc6
      ·have hx3:d3.size=n/\d3=if u - a>=2 then shiftDown ltInt (u - 1) d2 else d2:=⟨hs3,by rw[if_pos h2,<- heq3];exact(zn0 hc6).symm⟩
       refine au 2160 ?_;refine bA [0,1,2,7,8] ?_;refine bC [(j,_)] ?_;exact H _ (hd2 ▸ hx3)
      refine au 120 ?_;refine bL [0,1,5,6,7,8,9,10,11,12,13,14,15,2,3,4,16,17] ?_;refine ad [[1,0],[1,9],[1,0],[1,9],[9,82],[1,0],[1,9],[9,85],[2,84,86]] ?_;refine bT [87] Z (hq:=zg Z Z ze.h (mC _) (zR (i:=q) oQ oQ)) (h:=?_);refine ad [[1,0],[1,9],[2,89,90]] ?_;refine bT [91] Z (hq:=zg Z Z ze.h (mC _) (zR (i:=q+1) oQ oQ)) (h:=?_);refine ad [[2,79,80]] ?_;refine bR (Wx:=[_,_,_,_,_,_]) [88,93] Z Z (zz Z Z ze.h Z Z mQ (kL (k:=q+1) oQ oQ)) ?_;refine ad [[2,81,83]] ?_;refine bR (Wx:=[]) [92,94] Z Z (zz Z Z ze.h Z Z mQ (kM (i:=q+1) (j:=q) oQ oQ)) ?_;refine ad [[14]] ?_;refine au 3524014140 ?_;refine bA [0,1,2,7,8,9] ?_;refine bC [(j,_)] ?_;exact hnext2 _ _ _ oQ ⟨q,swp d3 (q+1) q,rfl,oQ,kU hs3,(sd_go hc6).symm.trans heq3,by rw[show((q+1:Nat):Int) - 1=(q:Int) by omega];rfl,rfl⟩
     obtain rfl:v=0:=by simp at hc5;omega
     have hx3:d3.size=n/\d3=if u - a>=2 then shiftDown ltInt (u - 1) d2 else d2:=⟨hs3,by rw[if_pos h2,<- heq3];rfl⟩
     refine au 2160 ?_;refine bA [0,1,2,7,8] ?_;refine bC [(j,_)] ?_;exact H _ (hd2 ▸ hx3)
    have hx3:d2.size=n/\d2=if u - a>=2 then shiftDown ltInt (u - 1) d2 else d2:=⟨hs2,(if_neg (by simp at hc4;omega)).symm⟩
    refine au 2120 ?_;refine bA [0,1,2,7,8] ?_;refine bC [(j,_)] ?_;exact H _ (hd2 ▸ hx3)
   ·rintro d3 ⟨hs3,hd3e⟩;refine bG nQ ?_;refine' TK.shr (X:=Array Int) (D:=fun x=>x.size=n/\x=if b - u>=2 then shiftUp ltInt b (u+1) d3 else d3) (E:=fun x=>.sl j 0 n::za a::za b::naL 4 (za u::za (5 - ((s+1:Nat):Int))::naL 124 [])) (KK:=fun x=>[(j,.row (x.toList.map za) 3 1)]) ?_ ?_;rotate_left
    ·intro H;refine au 937240114 ?_;apply aI<;>intro hc7
     ·have h3:b - u>=2:=by simp at hc7;omega
      refine au 13035230142 ?_;refine bA [0,1,2,7,8,10] ?_;refine bE (fun n1 Wq K=>∃(v:Nat)(d4:Array Int),n1=b - v/\u+1<=v/\v<=b/\d4.size=n/\shiftUp ltInt b v d4=shiftUp ltInt b (u+1) d3/\Wq=.sl j 0 n::za a::za b::naL 4 (za u::za (5 - ((s+1:Nat):Int))::.any::za v::naL 122 [])/\K=[(j,.row (d4.toList.map za) 3 1)]) (b - (u+1)) ⟨u+1,d3,rfl,mL _,oQ,hs3,rfl,rfl,rfl⟩ fun n1 Wq K hI hnext3=>?_;obtain⟨v,d4,rfl,huv,hvb,hs4,heq4,rfl,rfl⟩:=hI;refine bG nQ ?_;refine au 93711422 ?_;apply aI<;>intro hc8
      ·have hvl:v<b:=by simp at hc8;omega
       refine au 221302120 ?_;refine bL [0,1,2,3,4,5,6,7,8,9,10] ?_;refine ad [[1,0],[1,10],[2,106,107]] ?_;refine bT [108] Z (hq:=zg Z Z ze.h (mC _) (zR (i:=v) oQ oQ)) (h:=?_);refine ad [[1,0],[1,10],[9,111],[2,110,112]] ?_;refine bT [113] Z (hq:=zg Z Z ze.h (mC _) (zR (i:=v - 1) oQ oQ)) (h:=?_);refine TD.clE (Wx:=[_,_,_,_,_,_,_]) [109,114] Z Z Z Z Z (ky hT) ?_;refine bU [115] Z (q_not Z Z) ?_;refine ad [[14]] ?_;refine au 9 ?_;apply aI<;>intro hc9
       ·have hx4:d4.size=n/\d4=if b - u>=2 then shiftUp ltInt b (u+1) d3 else d3:=⟨hs4,by rw[if_pos h3,<- heq4];exact(zn5 hvl hc9).symm⟩
        refine au 140160 ?_;refine bA [0,1,2,7,8] ?_;refine bC [(j,_)] ?_;exact H _ hx4
       refine au 120 ?_;refine bL [0,1,5,6,7,8,9,10,11,12,13,14,15,2,3,4,16,17] ?_;refine ad [[1,0],[1,10],[1,0],[1,10],[9,120],[1,0],[1,10],[9,123],[2,122,124]] ?_;refine bT [125] Z (hq:=zg Z Z ze.h (mC _) (zR (i:=v - 1) oQ oQ)) (h:=?_);refine ad [[1,0],[1,10],[2,127,128]] ?_;refine bT [129] Z (hq:=zg Z Z ze.h (mC _) (zR (i:=v) oQ oQ)) (h:=?_);refine ad [[2,117,118]] ?_;refine bR (Wx:=[_,_,_,_,_,_]) [126,131] Z Z (zz Z Z ze.h Z Z mQ (kL (k:=v) oQ oQ)) ?_;refine ad [[2,119,121]] ?_;refine bR (Wx:=[]) [130,132] Z Z (zz Z Z ze.h Z Z mQ (kM (i:=v) (j:=v - 1) oQ oQ)) ?_;refine ad [[14]] ?_;refine au 3523014140 ?_;refine bA [0,1,2,7,8,10] ?_;refine bC [(j,_)] ?_;exact hnext3 _ _ _ oQ ⟨v+1,swp d4 v (v - 1),rfl,oQ,oQ,kU hs4,(su_go hvl hc9).symm.trans heq4,rfl,rfl⟩
      have hx4:d4.size=n/\d4=if b - u>=2 then shiftUp ltInt b (u+1) d3 else d3:=⟨hs4,by rw[if_pos h3,<- heq4];exact(zpv (by simp at hc8;omega)).symm⟩
      refine au 140160 ?_;refine bA [0,1,2,7,8] ?_;refine bC [(j,_)] ?_;exact H _ hx4
     have hx4:d3.size=n/\d3=if b - u>=2 then shiftUp ltInt b (u+1) d3 else d3:=⟨hs3,(if_neg (by simp at hc7;omega)).symm⟩
     refine au 140120 ?_;refine bA [0,1,2,7,8] ?_;refine bC [(j,_)] ?_;exact H _ hx4
    ·rintro d4 ⟨hd4,hd4e⟩;refine bG nQ ?_;refine au 3523014 ?_;refine bA [0,1,2,7,8] ?_;refine bC [(j,_)] ?_;exact Wj _ _ _ oQ ⟨s,u,d4,rfl,oQ,oQ,oQ,hd4,(pi_go hsc hub2 h50 hd3e hd4e).symm.trans heq,by rw[show(5:Int) - ((s+1:Nat):Int)+1=5 - (s:Int) by omega] <;> rfl,rfl⟩
 obtain rfl:s1=0:=by simp at Jz;omega
 have hq1:partialInsertionSort ltInt d a b=(d1,ff):=heq.symm;refine au 3542160 ?_;refine bB Wz [(j,_)] ?_;exact⟨_,hq1,rfl,rfl⟩
instance:TyZA tp 259 [.v (.int .u64 0)]:={}
instance:Und tp 259 (.int .u64):={}
theorem ziX{main T}(hT:zo tp main T){gm}{j n a b:Nat}{d:Array Int}(hd:d.size=n)(hn:n<65536)(h8:a+8<=b)(hb:b<=n) :
  zl tp T gm 150 [.sl j 0 n,za a,za b] [(j,.row (d.toList.map za) 3 1)] (fun r K'=>∃ d',PermIn a b d d'/\K'=[(j,.row (d'.toList.map za) 3 1)]):=by
 refine zh 65 hT Tryz.func150 fun Y Wz=>?_;refine au 2352401142 ?_;rw[show(b:Int) - (a:Int)=((b - a:Nat):Int) by omega];refine au 93714 ?_;apply aI<;>intro Jz
 ·refine au 142 ?_;refine bH Z (yr Z Z Und.h Und.h (zbw (n:=b - a) oQ)) ?_;refine au 220 ?_;intro jx hjx;refine au 1423170 ?_;refine bD Z Z Z Z (zlN hT (n:=b - a) oQ oQ) ?_;rintro r1 K2 ⟨M,hM1,hM2,rfl,rfl⟩;refine au 114235 ?_;refine bH Z (q_quo Z Z Z oQ oQ oQ) ?_;refine bH Z (q_mul Z Z Z oQ) ?_;refine au 13035240230 ?_;refine bA [0,1,6,7,8,9] ?_;obtain⟨s0,hs0⟩:∃ s0:Nat,s0=a+(b - a) / 4*2 - 1:=⟨_,rfl⟩;refine bC [(j,_),(jx,_)] ?_;refine bE (fun n1 Wq K=>∃(t:Nat)(x:Int)(d1:Array Int),n1=3 - t/\t<=3/\PermIn a b d d1/\d1.size=n/\Wq=.sl j 0 n::za a::naL 4 (za ((b - a:Nat):Int)::.ptr jx 0::.v (.int .u64 (M:Int))::za (s0+t:Nat)::naL 55 [])/\K=[(j,.row (d1.toList.map za) 3 1),(jx,.cells [.v (.int .u64 x)] 259 tt)]) 3 ⟨0,_,d,rfl,oQ,permIn_refl d a b,hd,by rw[show(a:Int)+((b - a:Nat):Int) / 4*2 - 1=((s0+0:Nat):Int) by omega] <;> rfl,rfl⟩ fun n1 Wq K hI Wj=>?_;obtain⟨t,x,d1,rfl,ht,hperm,hs1,rfl,rfl⟩:=hI;refine bG nQ ?_;refine au 111422 ?_;refine bH Z (q_quo Z Z Z oQ oQ oQ) ?_;refine bH Z (q_mul Z Z Z oQ) ?_;refine au 937230230 ?_;apply aI<;>intro Jx
  ·have ht3:t<3:=by simp at Jx;omega
   refine au 421302120 ?_;refine bD Z Z Z Z (zlL hT) ?_;rintro r4 K5 ⟨y,hy0,hy1,rfl,rfl⟩;refine au 1 ?_;refine bH Z (znQ Z Z Z oQ) ?_;rw[show(M:Int) - 1=((M - 1:Nat):Int) by omega];refine bH Z (znN Z Z Z) ?_;refine' TK.shr (X:=Nat) (D:=fun x=>x<b - a) (E:=fun x=>.sl j 0 n::za a::naL 4 (za ((b - a:Nat):Int)::.ptr jx 0::.v (.int .u64 (M:Int))::za (s0+t:Nat)::za x::naL 54 [])) (KK:=fun x=>[(j,.row (d1.toList.map za) 3 1),(jx,.cells [.v (.int .u64 y)] 259 tt)]) ?_ ?_;rotate_left
   ·intro H;have hw:=zmH y (b:=M - 1) oQ;obtain⟨w,hwe⟩:∃ w:Nat,andW y ((M - 1:Nat):Int)=(w:Int):=⟨(andW y ((M - 1:Nat):Int)).toNat,oQ⟩;rw[hwe]at hw ⊢;refine bH Z (yr Z Z Und.h Und.h (kg oQ)) ?_;refine au 9371142235 ?_;apply aI<;>intro hc2
    ·have hwl:b - a<=w:=by simp at hc2;omega
     refine au 240114 ?_;rw[show(w:Int) - ((b - a:Nat):Int)=((w - (b - a):Nat):Int) by omega];refine au 35 ?_;refine bA [0,1,6,7,8,9,10] ?_;refine bC [(j,_),(jx,_)] ?_;exact H _ oQ
    have hwl:w<b - a:=by simp at hc2;omega
    refine au 120 ?_;refine bA [0,1,6,7,8,9,10] ?_;refine bC [(j,_),(jx,_)] ?_;exact H _ oQ
   ·rintro o ho;refine bG nQ ?_;refine bL [0,1,6,7,8,9,10,11,12,13,14,15,16,17,2,3,4,5,18,19] ?_;refine ad [[1,0],[1,9],[1,0],[1,1],[1,10],[8,50,51],[1,0],[1,1],[1,10],[8,54,55],[2,53,56]] ?_;refine bT [57] Z (hq:=zg Z Z ze.h (mC _) (zR (i:=a+o) oQ oQ)) (h:=?_);refine ad [[1,0],[1,9],[2,59,60]] ?_;refine bT [61] Z (hq:=zg Z Z ze.h (mC _) (zR (i:=s0+t) oQ oQ)) (h:=?_);refine ad [[2,47,48]] ?_;refine bR (Wx:=[_,_,_,_,_,_,_]) [58,63] Z Z (zz Z Z ze.h Z Z mQ (kL (k:=s0+t) oQ oQ)) ?_;refine ad [[2,49,52]] ?_;refine bR (Wx:=[]) [62,64] Z Z (zz Z Z ze.h Z Z mQ (kM (i:=s0+t) (j:=a+o) oQ oQ)) ?_;refine ad [[14]] ?_;refine au 3523014140 ?_;refine bA [0,1,6,7,8,9] ?_;refine bC [(j,_),(jx,_)] ?_;exact Wj _ _ _ oQ ⟨t+1,y,swp d1 (s0+t) (a+o),rfl,oQ,permIn_trans _ _ _ a b hperm (swp_permIn d1 a b _ _ oQ oQ oQ oQ oQ),kU hs1,rfl,rfl⟩
  refine au 160 ?_;refine TK.rt0 Wz [(j,_)] ?_;exact⟨d1,hperm,rfl⟩
 simp at Jz;omega
theorem znI{main T}(hT:zo tp main T){gm}{j n:Nat}(hn:n<65536):∀(m a b:Nat)(lim:Int)(d:Array Int),b - a=m->d.size=n->a<=b->b<=n->0<=lim/\lim<=1000->Below ltInt a b d ->
  zl tp T gm 112 [.sl j 0 n,za a,za b,za lim] [(j,.row (d.toList.map za) 3 1)] (fun r K'=>∃ d',PermIn a b d d'/\SortedIn ltInt a b d'/\K'=[(j,.row (d'.toList.map za) 3 1)]):=by
 intro m
 induction m using Nat.strongRecOn with|ind m ih=>?_
 intro a b lim d hm hd hab hb hlim hB;refine zh 134 hT Tryz.func112 fun Y Wz=>?_;refine au 13035423542 ?_;refine bA [0,1,2,3,8,9] ?_;refine bE (fun n1 Wq K=>∃(u v:Nat)(l:Int)(w1 w2:Bool)(d1:Array Int),n1=v - u/\v - u<=m/\u<=v/\v<=n/\(0<=l/\l<=1000)/\d1.size=n/\Below ltInt u v d1/\(∀ R,PermIn u v d1 R->SortedIn ltInt u v R->PermIn a b d R/\SortedIn ltInt a b R)/\Wq=.sl j 0 n::za u::za v::za l::naL 4 (zr w1::zr w2::naL 124 [])/\K=[(j,.row (d1.toList.map za) 3 1)]) (b - a) ⟨a,b,lim,tt,tt,d,rfl,oQ,hab,hb,hlim,hd,hB,fun R h1 h2=>⟨h1,h2⟩,rfl,rfl⟩ fun n1 Wq K hI Wj=>?_;obtain⟨u,v,l,w1,w2,d1,rfl,hm1,huv,hvn,hl,hs1,hB1,Qj,rfl,rfl⟩:=hI;refine bG nQ ?_;refine au 22352401142130 ?_;rw[show(v:Int) - (u:Int)=((v - u:Nat):Int) by omega];refine au 93714 ?_;apply aI<;>intro Jz
 ·have hq:=insertionSort_holds swo_ltInt d1 u v huv oQ;have hz:=Qj _ hq.1 hq.2;refine au 11142 ?_;refine bD Z Z Z Z (znf hT (d:=d1) hs1 oQ huv hvn) ?_;rintro r1 K2 rfl;refine au 3 ?_;refine bB Wz [(j,_)] ?_;exact⟨_,hz.1,hz.2,rfl⟩
 have h12:12<v - u:=by simp at Jz;omega
 refine au 9371422120 ?_;apply aI<;>intro Jx
 ·have hq:=heapSort_holds swo_ltInt d1 u v huv oQ;have hz:=Qj _ hq.1 hq.2;refine au 11142 ?_;refine bD Z Z Z Z (zlp hT (d:=d1) hs1 oQ oQ hvn) ?_;rintro r4 K5 rfl;refine au 3 ?_;refine bB Wz [(j,_)] ?_;exact⟨_,hz.1,hz.2,rfl⟩
 refine' TK.shr (X:=Int×Array Int) (D:=fun x=>(0<=x.1/\x.1<=1000)/\PermIn u v d1 x.2) (E:=fun x=>.sl j 0 n::za u::za v::za x.1::naL 4 (zr w1::zr w2::za ((v - u:Nat):Int)::naL 123 [])) (KK:=fun x=>[(j,.row (x.2.toList.map za) 3 1)]) ?_ ?_;rotate_left
 ·intro H;have hl0:l≠0:=fun h=>by rw[h]at Jx;simp at Jx
  refine au 933001422120 ?_;apply aI<;>intro hc2
  ·refine au 11142 ?_;refine bD Z Z Z Z (ziX hT (d:=d1) hs1 hn oQ hvn) ?_;rintro r7 K8 ⟨d2,hp2,rfl⟩;refine au 235240143 ?_;refine bA [0,1,2,3,8,9,10] ?_;refine bC [(j,_)] ?_;exact H (l - 1,d2) ⟨by omega,hp2⟩
  have hp2:=permIn_refl d1 u v;refine au 2120 ?_;refine bA [0,1,2,3,8,9,10] ?_;refine bC [(j,_)] ?_;exact H (l,d1) ⟨by omega,hp2⟩
 ·rintro⟨l2,d2⟩ ⟨hl2,hp2⟩;dsimp only at hl2 hp2 ⊢;have hs2:d2.size=n:=hp2.1.trans hs1;have hB2:=hB1.perm oQ hp2;have hfin2:∀ R,PermIn u v d2 R->SortedIn ltInt u v R->PermIn a b d R/\SortedIn ltInt a b R:=fun R h1 h2=>Qj R (permIn_trans _ _ _ u v hp2 h1) h2;refine bG nQ ?_;refine' TK.shr (X:=Nat×Int×Array Int) (D:=fun x=>(u<=x.1/\x.1<v)/\PermIn u v d2 x.2.2) (E:=fun x=>.sl j 0 n::za u::za v::za l2::naL 4 (zr w1::zr w2::za ((v - u:Nat):Int)::za x.1::za x.2.1::naL 121 [])) (KK:=fun x=>[(j,.row (x.2.2.toList.map za) 3 1)]) ?_ ?_;rotate_left
  ·intro H;refine au 1114 ?_;refine bD Z Z Z Z (znK hT (d:=d2) hs2 oQ oQ hvn) ?_;rintro r214 K215 ⟨p,hh,hp1,hpv,rfl,rfl⟩;refine au 9371422355661 ?_;apply aI<;>intro hc3
   ·have hp3:=reverseRange_holds d2 u v huv oQ;refine au 11142 ?_;refine bD Z Z Z Z (znW hT (d:=d2) hs2 oQ oQ hvn) ?_;rintro r217 K218 rfl;refine au 5240240112401423 ?_;rw[show(v:Int) - 1 - ((p:Int) - (u:Int))=((v - 1 - (p - u):Nat):Int) by omega];refine au 223543 ?_;refine bA [0,1,2,3,8,9,10,11,12] ?_;refine bC [(j,_)] ?_;exact H (v - 1 - (p - u),1,_) ⟨by omega,hp3⟩
   have hp3:=permIn_refl d2 u v;refine au 22120 ?_;refine bA [0,1,2,3,8,9,10,11,12] ?_;refine bC [(j,_)] ?_;exact H (p,hh,d2) ⟨by omega,hp3⟩
  ·rintro⟨p,hh,d3⟩ ⟨⟨hpu,hpv⟩,hp3⟩;dsimp only at hpu hpv hp3 ⊢;have hs3:d3.size=n:=hp3.1.trans hs2;have hB3:=hB2.perm oQ hp3;have hfin3:∀ R,PermIn u v d3 R->SortedIn ltInt u v R->PermIn a b d R/\SortedIn ltInt a b R:=fun R h1 h2=>hfin2 R (permIn_trans _ _ _ u v hp3 h1) h2;refine bG nQ ?_;refine' TK.shr (X:=Array Int) (D:=fun x=>PermIn u v d3 x) (E:=fun x=>.sl j 0 n::za u::za v::za l2::naL 4 (zr w1::zr w2::za ((v - u:Nat):Int)::za p::naL 122 [])) (KK:=fun x=>[(j,.row (x.toList.map za) 3 1)]) ?_ ?_;rotate_left
   ·intro H;refine au 114 ?_;refine bF 62 (fun g15_2=>?_) (fun g15_2=>?_)
    ·refine au 12601 ?_;refine bF 65 (fun g15_5=>?_) (fun g15_5=>?_)
     ·refine au 9326071 ?_;apply aI<;>intro hc4
      ·refine au 11142 ?_;refine bD Z Z Z Z (znH hT (d:=d3) hs3 oQ oQ hvn) ?_;rintro r319 K320 ⟨q,hqe,rfl,rfl⟩;refine au 93 ?_;apply aI<;>intro hc5
       ·have hpi:=partialInsertionSort_holds swo_ltInt d3 u v oQ oQ hB3;rw[hqe]at hpi;have hz:=hfin3 _ hpi.1 (hpi.2 hc5);refine au 0 ?_;refine bB Wz [(j,_)] ?_;exact⟨_,hz.1,hz.2,rfl⟩
       have hp4:=(partialInsertionSort_holds swo_ltInt d3 u v oQ oQ hB3).1;rw[hqe]at hp4;refine au 22120 ?_;refine bA [0,1,2,3,8,9,10,11] ?_;refine bC [(j,_)] ?_;exact H _ hp4
      have hp4:=permIn_refl d3 u v;refine au 22120 ?_;refine bA [0,1,2,3,8,9,10,11] ?_;refine bC [(j,_)] ?_;exact H _ hp4
     have hp4:=permIn_refl d3 u v;refine au 22120190325088 ?_;refine bA [0,1,2,3,8,9,10,11] ?_;refine bC [(j,_)] ?_;exact H _ hp4
    have hp4:=permIn_refl d3 u v;refine au 2212019032508812508 ?_;refine bA [0,1,2,3,8,9,10,11] ?_;refine bC [(j,_)] ?_;exact H _ hp4
   ·rintro d4 hp4;have hs4:d4.size=n:=hp4.1.trans hs3;have hB4:=hB3.perm oQ hp4;have hfin4:∀ R,PermIn u v d4 R->SortedIn ltInt u v R->PermIn a b d R/\SortedIn ltInt a b R:=fun R h1 h2=>hfin3 R (permIn_trans _ _ _ u v hp4 h1) h2;refine bG nQ ?_;refine' TK.shr (X:=Unit) (D:=fun x=>True) (E:=fun x=>.sl j 0 n::za u::za v::za l2::naL 4 (zr w1::zr w2::za ((v - u:Nat):Int)::za p::naL 122 [])) (KK:=fun x=>[(j,.row (d4.toList.map za) 3 1)]) ?_ ?_;rotate_left
    ·intro H;refine bL [0,1,2,3,4,5,6,7,8,9,10,11,12,13,14] ?_;refine ad [[1,1],[4,73],[1,74]] ?_;refine bW 75 (fun g17_3=>?_) (fun g17_3=>?_)
     ·have hu0:0<u:=by simp at g17_3;omega
      refine ad [[1,0,75],[1,1,75],[9,75,77],[2,75,76,78]] ?_;refine bT [75,79] Z (hq:=zg Z Z ze.h (mC _) (zR (i:=u - 1) oQ oQ)) (h:=?_);refine ad [[1,0,75],[1,11,75],[2,75,81,82]] ?_;refine bT [75,83] Z (hq:=zg Z Z ze.h (mC _) (zR (i:=p) oQ oQ)) (h:=?_);refine TD.clE (Wx:=[_,_,_,_,_,_,_,_,_]) [75,80,84] Z Z Z Z Z (ky hT) ?_;refine bU [75,85] Z (q_not Z Z) ?_;refine ad [[7,75,86],[14]] ?_;refine au 9 ?_;apply aI<;>intro hc6
      ·have hnl:ltInt d4[u - 1]! d4[p]! =ff:=by cases hh:ltInt d4[u - 1]! d4[p]! with
        | false=>rfl
        | true=>exact absurd (show(!ltInt d4[u - 1]! d4[p]!)=tt from hc6) (by rw[hh];decide)
       refine au 111142 ?_;refine bD Z Z Z Z (zit hT (d:=d4) hs4 oQ hpu hpv hvn) ?_;rintro r397 K398 ⟨q,hqe,rfl,rfl⟩;refine au 0 ?_;obtain⟨hr1,hr2,hr3,hr4,hr5⟩:=round_eq swo_ltInt (partitionEqual_holds ltInt) hu0 hpu hpv oQ hB4 hnl (show partitionEqual ltInt d4 u v p=(q.1,q.2) from hqe);refine au 1603514235 ?_;refine bA [0,1,2,3,8,9] ?_;refine bC [(j,_)] ?_;exact Wj _ _ _ oQ ⟨q.1,v,l2,w1,w2,q.2,rfl,oQ,oQ,hvn,hl2,hr3.trans hs4,hr4,fun R h1 h2=>(hr5 R h1 h2).elim fun h3 h4=>hfin4 R h3 h4,rfl,rfl⟩
      refine au 2120 ?_;refine bA [0,1,2,3,8,9,10,11] ?_;refine bC [(j,_)] ?_;exact H () trivial
     refine ad [[11,0,75],[11,1,75],[11,75,77],[11,75,76,78],[11,75,79],[11,0,75],[11,11,75],[11,75,81,82],[11,75,83],[11,75,80,84],[11,75,85],[6,75,86],[14]] ?_;refine au 2120190 ?_;refine bA [0,1,2,3,8,9,10,11] ?_;refine bC [(j,_)] ?_;exact H () trivial
    ·rintro _ _;refine bG nQ ?_;refine au 11114 ?_;refine bD Z Z Z Z (zl5 hT (d:=d4) hs4 oQ hpu hpv hvn) ?_;rintro r409 K410 ⟨q,hqe,rfl,rfl⟩;refine au 0 ?_;obtain⟨hr1,hr2,hr3,hr4,hr5,hr6,hr7⟩:=round_part swo_ltInt (partition_holds ltInt) hpu hpv oQ hB4 (show partition ltInt d4 u v p=(q.1,q.2.1,q.2.2) from hqe);refine au 235524011240114235142355661 ?_;rw[show(q.1:Int) - (u:Int)=((q.1 - u:Nat):Int) by omega,show(v:Int) - (q.1:Int)=((v - q.1:Nat):Int) by omega];refine au 14 ?_;refine bH Z (q_quo Z Z Z oQ oQ oQ) ?_;refine au 937114235 ?_;apply aI<;>intro hc7
     ·refine au 1111423571142 ?_;refine bD Z Z Z Z (ih (q.1 - u) oQ u q.1 l2 q.2.2 Z (by rw[hr3];exact hs4) hr1 oQ hl2 hr4) ?_;rintro r412 K413 ⟨L,hL1,hL2,rfl⟩;refine au 0 ?_;have hbl:=hr6 L hL1 hL2;refine au 14035230143 ?_;refine bA [0,1,2,3,8,9] ?_;refine bC [(j,_)] ?_;exact Wj _ _ _ oQ ⟨q.1+1,v,l2,_,q.2.1,L,rfl,oQ,oQ,hvn,hl2,hL1.1.trans (hr3.trans hs4),hbl.1,fun R h1 h2=>(hbl.2 R h1 h2).elim fun h3 h4=>hfin4 R h3 h4,rfl,rfl⟩
     refine au 1123011423571142 ?_;refine bD Z Z Z Z (ih (v - (q.1+1)) oQ (q.1+1) v l2 q.2.2 Z (by rw[hr3];exact hs4) oQ hvn hl2 hr5) ?_;rintro r415 K416 ⟨L,hL1,hL2,rfl⟩;refine au 0 ?_;have hbl:=hr7 L hL1 hL2;refine au 14035143 ?_;refine bA [0,1,2,3,8,9] ?_;refine bC [(j,_)] ?_;exact Wj _ _ _ oQ ⟨u,q.1,l2,_,q.2.1,L,rfl,oQ,oQ,oQ,hl2,hL1.1.trans (hr3.trans hs4),hbl.1,fun R h1 h2=>(hbl.2 R h1 h2).elim fun h3 h4=>hfin4 R h3 h4,rfl,rfl⟩
theorem zkw{n:Nat}{xs:List Int}{d:Array Int}(hp:PermIn 0 n xs.toArray d)(hs:SortedIn ltInt 0 n d)(hn:xs.length=n):d.toList=xs.mergeSort fun x y=>decide (x<=y):=by
 subst hn;have:=sorted_unique_holds (lt:=ltInt) swo_ltInt (fun x y h1 h2=>by have h3:=oF_ h1;have h4:=oF_ h2;omega) xs.toArray d (by simpa using hp) (by simpa using hs);rw[this];congr 1;funext x y;unfold ltInt;by_cases h:x<=y
 ·rw[decide_eq_true h,decide_eq_false oQ];rfl
 ·rw[decide_eq_false h,decide_eq_true oQ];rfl
theorem zmu{main T}(hT:zo tp main T){gm}{j n:Nat}{xs:List Int}(hn:xs.length=n)(h256:n<65536) :
  zl tp T gm 62 [.row j n] [(j,.row (xs.map za) 3 1)] (fun r K'=>K'=[(j,.row ((xs.mergeSort fun x y=>decide (x<=y)).map za) 3 1)]):=by
 refine zh 11 hT Tryz.func62 fun Y Wz=>?_;refine au 2 ?_;refine TK.asSl 0 Z (mC _) ?_;refine au 11143528014 ?_;refine bH Z (yr Z Z Und.h Und.h (zbw (n:=n) oQ)) ?_;refine bD Z Z Z Z (zbJ hT (n:=n) oQ) ?_ (hs:=(.none _));rintro r1 K2 ⟨m,rfl,hm8,hm2,rfl⟩;refine au 0 ?_;refine bD Z Z Z Z (znI hT (j:=j) (n:=n) h256 n 0 n (m:Int) xs.toArray (Nat.sub_zero n) (by simpa using hn) (mN _) (mL _) oQ (.inl Z)) ?_;rintro r4 K5 ⟨d2,hp,hs,rfl⟩;refine au 3 ?_;refine TK.rt0 Wz [(j,_)] ?_;rw[zkw hp hs hn]
end Go.Vel
end
