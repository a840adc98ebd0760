/- Texts for the statements of chapter 8: what all of them need, part 9. It holds of every program, tape and world that the statements name, as each theorem says. -/
import Derived.Sort.AssemblyPlain
import Derived.Sort.LotD3
import Derived.Test.YtlmglkmfkcbakaaGreatDoorS7
open Go renaming Goroutine -> gG, TypeId -> gT, Operand -> gO, Program -> gP, Value -> gV
open Bool renaming true -> tt, false -> ff
section
set_option linter.all false
set_option maxRecDepth 20000
set_option maxHeartbeats 60000000
open Go.Proofs.Tryz renaming prog -> tp
open List renaming getElem?_eq_getElem -> lA, nil_append -> lC, getElem?_eq_some_iff -> lD, getD_eq_getElem?_getD -> lE, length_append -> lF, perm_append_comm -> lH, mem_cons -> lI, length_map -> lJ, eq_nil_of_length_eq_zero -> lK, mem_cons_of_mem -> lL, map_append -> lM, mem_of_getElem? -> lN, getElem?_map -> lQ, append_nil -> lR, mem_singleton -> lS, mem_append -> lT, mem_append_left -> lV, take_length -> lW, getElem?_set -> lX, length_cons -> lZ
open List.Mem renaming head -> mC
open Nat renaming le_refl -> mL, zero_le -> mN, zero_add -> mO, eq_zero_or_pos -> mP, le_trans -> mT
open Bool renaming and_eq_true -> mX
open Int renaming toNat_natCast -> mZ
open Go.Vel.TK renaming maskL -> bA, rt -> bB, kp -> bC, cl -> bD, loopN -> bE, na -> bG, a -> bH, dq -> bL, perm -> bN
open Go.Vel.TD renaming s -> bR, y -> bT, z -> bU, sp -> bW
namespace Go.Vel
open Go Go.Conc Go.Proofs
section
variable {P:gP} {main:Bool} {gm:Nat->Option Nat} {T:gG->Hp->Prop} {Y:KX P gm T} {ds:List Nat} {k:List Item} {Wq:List AV} {K:KV} {V:KV} {o:Oper}
theorem Kstep.trans {K1 K2:KV} {A A1 A2:List AObj} (h1:Kstep K A K1 A1) (h2:Kstep K1 A1 K2 A2):Kstep K A K2 A2:=by
 refine ⟨h2.view,h2.nd,fun i hi=>?_,fun j hj hn=>?_,mT h1.len h2.len⟩
 ·rcases h2.own i hi with h | h
  ·exact h1.own i h
  ·exact .inr (mT h1.len h)
 ·rw [h2.kept j (Nat.lt_of_lt_of_le hj h1.len) (fun hm=>?_)]
  ·exact h1.kept j hj hn
  ·rcases h1.own j hm with h | h
   ·exact hn h
   ·omega
theorem zeA {g:FuncId} {args:List AV} {n:Nat} {l:List AV} {e:gT} {s:Nat} {R:KV} (h:zr P T gm g args K fun r K'=>∃ j,r=.row j n/\K'=(j,.row l e s)::R):zr P T gm g args K fun r K'=>∃ j,r=.sl j 0 n/\K'=(j,.cells l e ff)::R:=by
 intro A hv hn φ F H vs c cs h0 h1 h2 h3 q;refine h A hv hn φ F H vs c cs h0 h1 h2 h3 fun r A' φ' H' v ⟨K',hk,j,hr,he⟩ hA Wb hH' hv'=>?_;subst hr he;have hj:A'[j]? =some (.row l e s):=hk.view.get sQ;have hb:(φ' j).base=0:=(hH'.obj j _ hj).2.1;refine q (.sl j 0 n) (A'.set j (.cells l e ff)) φ' H' v ⟨_,hk.trans (.set hk.view hk.nd .head),j,rfl,rfl⟩ hA (by simpa using Wb) (hH'.turn hj (fun ho hl=>?_) (fun h=>by cases h) (fun _=>rfl) (fun hs=>?_)) ?_
 ·have hc:0<(φ' j).cap:=by
   rcases mP (φ' j).cap with e | e
   ·exact absurd (ho.1 e) hl
   ·exact e
  obtain ⟨cur,q1,q2,q3,q4,q5⟩:=ho.2.2 hc;exact ⟨tt,cur,(_,0,0),q1,(fun h=>by cases h),fun t u hu=>by rw [hb,mO]; exact q5 t u hu⟩
 ·show 0<(φ' j).cap;rcases mP (φ' j).cap with e | e
  ·exact absurd ((hH'.obj j _ hj).1 e) hs
  ·exact e
 ·have:=zbf (j:=j) hb hv';simpa [unrow] using this
end
theorem zoY (Zq:List (Nat×SkT)):(Zq.flatMap skC).all oneA=tt:=zdI skC (fun _=>rfl) Zq
theorem zn3 (l:List MkR):(l.flatMap mkC).all oneA=tt:=zdI mkC (fun _=>rfl) l
theorem vB {Zq:List (Nat×SkT)} {i:Nat} {n:Int} {p:Nat×SkT} {e:gT} {sz:Nat} (h:Zq[i]? =some p) (hn:n=(i:Int)):yj (.row (Zq.flatMap skC) e sz) (n.toNat*7) 7=some (skC p):=by
 have h1:=sk_at (e:=e) (rw':=tt) h hn;simpa [yj,AObj.look] using h1
theorem zcn {Zq:List (Nat×SkT)} {i:Nat} {p:Nat×SkT} (h:Zq[i]? =some p):Zq.flatMap skC=(Zq.take i).flatMap skC++(skC p++(Zq.drop (i+1)).flatMap skC)/\((Zq.take i).flatMap skC).length=i*7:=by
 obtain ⟨h1,h2⟩:=lD.1 h;have hs:Zq=Zq.take i++p::Zq.drop (i+1):=by
  rw [<- h2,<- List.drop_eq_getElem_cons h1,List.take_append_drop]
 refine ⟨?_,?_⟩
 ·conv=>lhs; rw [hs]
  rw [List.flatMap_append,List.flatMap_cons]
 ·rw [yw skC 7 (fun _=>rfl),List.length_take];congr 1; omega
theorem znj {α:Type} (A B C:List α) (k:Nat) (v:α) (hk:k<B.length):(A++(B++C)).set (A.length+k) v=A++(B.set k v++C):=by
 rw [List.set_append_right _ _ oQ,show A.length+k - A.length=k by omega,List.set_append_left _ _ hk]
theorem zoV {Zq:List (Nat×SkT)} {i k:Nat} {p p':Nat×SkT} {v:AV} (h:Zq[i]? =some p) (hk:k<7) (he:(skC p).set k v=skC p'):(Zq.flatMap skC).set (i*7+k) v=(Zq.set i p').flatMap skC:=by
 obtain ⟨h1,h2⟩:=zcn h;have hl:=(lD.1 h).1;have h3:(Zq.set i p')[i]? =some p':=by rw [List.getElem?_set_self hl]
 obtain ⟨h4,h5⟩:=zcn h3;rw [h4,h1,<- h2,znj _ _ _ _ _ (by exact hk),he,List.take_set_of_le (mL _),List.drop_set_of_lt oQ]
theorem zjo {l:List AV} {e:gT} {sz k:Nat} {v:AV} (h:k<l.length) (h1:oneA v=tt):putO (.row l e sz) k [v]=some (.row (l.set k v) e sz):=by
 unfold putO;dsimp only;rw [if_pos ⟨by simp only [lZ,List.length_nil]; omega,Nat.zero_lt_succ _,by simp [h1]⟩];rfl
theorem zdf {Zq:List (Nat×SkT)} {i k:Nat} {n:Int} {p p':Nat×SkT} {v:AV} {e:gT} {sz:Nat} (h:Zq[i]? =some p) (hn:n=(i:Int)) (hk:k<7) (h1:oneA v=tt) (he:(skC p).set k v=skC p'):putO (.row (Zq.flatMap skC) e sz) (n.toNat*7+k) [v]=some (.row ((Zq.set i p').flatMap skC) e sz):=by
 subst hn;rw [mZ];have hl:=(lD.1 h).1;have h2:=zoV h hk he;have Wb:=yw skC 7 (fun _=>rfl) Zq;rw [<- h2];exact zjo (by rw [Wb]; omega) h1
theorem zlg {a b c d e f:Nat×AObj} {L R M:KV} (h:Rem L b R):(a::b::c::d::e::f::(R++M)).Perm (c::d::e::f::(L++(M++[a]))):=by
 have h1:(L++(M++[a])).Perm ([a,b]++(R++M)):=by
  have q1:(L++(M++[a])).Perm ((b::R)++(M++[a])):=h.perm.append_right _;have q2:((b::R)++(M++[a])).Perm (a::((b::R)++M)):=by
   rw [<- List.append_assoc];exact lH
  exact q1.trans q2
 have h2:([c,d,e,f]++(L++(M++[a]))).Perm ([c,d,e,f]++([a,b]++(R++M))):=h1.append_left _;exact (h2.trans (List.perm_append_comm_assoc [c,d,e,f] [a,b] (R++M))).symm
theorem zlh {b:Nat×AObj} {L R M:KV} (h:Rem L b R) (A:KV):(A++(L++M)).Perm (b::(A++(R++M))):=by
 have h1:(A++(L++M)).Perm (A++([b]++(R++M))):=(h.perm.append_right M).append_left A;exact h1.trans (List.perm_append_comm_assoc A [b] (R++M))
theorem zgU (Y:List (Nat×SkT)) (p:Nat×SkT):mkK (Y++[p])=mkK Y++[(p.1,mkO p.2)]:=by unfold mkK; rw [lM]; rfl
theorem y_get {Y Zq:List (Nat×SkT)} {i:Nat} (hY:Y.length=i) {p:Nat×SkT} (h:Zq[i]? =some p):(Y++Zq.drop i)[i]? =some p:=by
 rw [List.getElem?_append_right oQ,hY,Nat.sub_self,List.getElem?_drop,Nat.add_zero,h]
theorem y_set {Y Zq:List (Nat×SkT)} {i:Nat} (hY:Y.length=i) {p p':Nat×SkT} (h:Zq[i]? =some p):(Y++Zq.drop i).set i p'=(Y++[p'])++Zq.drop (i+1):=by
 obtain ⟨h1,h2⟩:=lD.1 h;rw [List.set_append_right _ _ oQ,hY,Nat.sub_self,List.drop_eq_getElem_cons h1,List.set_cons_zero,List.append_assoc]; rfl
theorem zjh {j g a b:Nat×AObj} {L:KV}:(g::j::b::a::L).Perm (j::a::b::g::L):=(List.perm_middle (l₁:=[j,b,a]) (a:=g) (l₂:=L)).symm.trans (.cons _ (List.Perm.swap _ _ _))
instance:ApOf tp 27 95 7 80:={}
instance:ApOf tp 93 98 3 32:={}
instance:TyZ tp 95 [.string ⟨#[]⟩,.int .i64 0,.int .i64 0,.int .i64 0,.int .i64 0,.int .i64 0,.slice none 0 0]:={}
instance:TyZ tp 98 [.string ⟨#[]⟩,.int .i64 0,.int .i64 0]:={}
theorem zhI {main T} (hT:zt tp main T) {gm} {j n:Nat} {l:List AV} {rw':Bool} (hl:l.length=n*7) (hone:l.all oneA=tt) (hn:n<=100000) :
  zr tp T gm 122 [.sl j 0 n] [(j,.cells l 95 rw')] (fun r K'=>∃ j2,r=.row j2 n/\K'=[(j,.cells l 95 rw'),(j2,.row l 95 7)]):=by
 refine zn 8 hT Tryz.func122 fun Y Wz=>?_;refine au 14223542 ?_;refine TK.nilT Z Z Z Z Und.h fun tz hz=>?_;refine au 93 ?_;constructor<;>intro Jz
 ·refine au 542 ?_;refine TK.virt 2 95 7 Z fun j0 hj0=>?_;refine au 3 ?_;refine bB Wz [(j,_),(j0,_)] ?_;obtain rfl:=hz Jz;obtain rfl:=lK (by simpa using hl);exact ⟨_,rfl,rfl⟩
 refine au 42120 ?_;refine TK.newR Z Z Z (zu (l:=[]) Z zq.h TyZ.h dQ dQ Z) (fun _=>zx rfl tQ) fun j1 hj1=>?_;refine au 1 ?_;refine TK.appG (envf:=fun _=>[_,_,_,_,_,_,_,_]) (ln:=l) rfl rfl rfl ApOf.h rfl mQ rfl rfl rfl (fun hp=>wG mQ oQ (kL hl oQ)) (fun h=>by subst h; exact lK (by simpa using hl)) hone (by unfold maxLen; omega) oQ (fun _=>uQ) (fun _=>rfl) fun j2=>?_;simp only [lC,mO];refine au 35 ?_;refine bB Wz [(j,_),(j2,_)] ?_;exact ⟨_,rfl,rfl⟩
theorem zhH {main T} (hT:zt tp main T) {gm} {j n:Nat} {l:List AV} {rw':Bool} (hl:l.length=n*3) (hone:l.all oneA=tt) (hn:n<=100000) :
  zr tp T gm 123 [.sl j 0 n] [(j,.cells l 98 rw')] (fun r K'=>∃ j2,r=.row j2 n/\K'=(j2,.row l 98 3)::[(j,.cells l 98 rw')]):=by
 refine zn 8 hT Tryz.func123 fun Y Wz=>?_;refine au 14223542 ?_;refine TK.nilT Z Z Z Z Und.h fun tz hz=>?_;refine au 93 ?_;constructor<;>intro Jz
 ·refine au 542 ?_;refine TK.virt 2 98 3 Z fun j0 hj0=>?_;refine au 3 ?_;refine bB Wz [(j0,_),(j,_)] ?_;obtain rfl:=hz Jz;obtain rfl:=lK (by simpa using hl);exact ⟨_,rfl,rfl⟩
 refine au 42120 ?_;refine TK.newR Z Z Z (zu (l:=[]) Z zq.h TyZ.h dQ dQ Z) (fun _=>zx rfl tQ) fun j1 hj1=>?_;refine au 1 ?_;refine TK.appG (envf:=fun _=>[_,_,_,_,_,_,_,_]) (ln:=l) rfl rfl rfl ApOf.h rfl mQ rfl rfl rfl (fun hp=>wG mQ oQ (kL hl oQ)) (fun h=>by subst h; exact lK (by simpa using hl)) hone (by unfold maxLen; omega) oQ (fun _=>uQ) (fun _=>rfl) fun j2=>?_;simp only [lC,mO];refine au 35 ?_;refine bB Wz [(j2,_),(j,_)] ?_;exact ⟨_,rfl,rfl⟩
theorem zf2 {main T} (hT:zt tp main T) {gm} {j:Nat} {x:SkT} (hn:x.mK.length<=1000):zr tp T gm 123 [.sl j 0 x.mK.length] [(j,mkO x)] (fun r K'=>∃ j2,r=.sl j2 0 x.mK.length/\K'=(j2,mkO x)::[(j,mkO x)]) :=
 zeA (zhH hT (yw mkC 3 (fun _=>rfl) x.mK) (zn3 _) oQ)
instance:TyZA tp 29 [.v (.int .i64 0),.v (.int .i64 0),.v (.slice none 0 0)]:={}
theorem zlH {main T} (hT:zt tp main T) {gm} {st wr:Int} {g:Nat} {Zq:List (Nat×SkT)} (hb:StpOk (skB st wr Zq)) :
  zr tp T gm 98 [.agg (stpC st wr g Zq)] ((g,skO Zq)::mkK Zq) (fun r K'=>∃ j1 Y,Y.map (·.2)=Zq.map (·.2)/\Y.length=Zq.length/\r=.agg [za st,za wr,.row j1 Zq.length]/\K'=(j1,.row (Y.flatMap skC) 95 7)::(g,skO Zq)::(mkK Zq++mkK Y)):=by
 refine zn 27 hT Tryz.func98 fun Y Wz=>?_;refine au 0 ?_;have h3:=zN hb;refine au 21042 ?_;intro jb hjb;refine au 220 ?_;intro jr hjr;refine au 690670423 ?_;refine bD Z Z Z Z (zhI hT (yw skC 7 (fun _=>rfl) Zq) (zoY Zq) oQ) ?_;rintro r1 K2 ⟨j1,rfl,rfl⟩;refine au 223170670 ?_;refine bN (K':=(j1,_)::(jb,_)::(jr,_)::(g,_)::mkK Zq) zjh ?_;refine au 130312806906704 ?_;refine bA [1,2,10,11,12] ?_;refine bC ((j1,.row (Zq.flatMap skC) 95 7)::(jb,.cells [za st,za wr,.row j1 Zq.length] 29 tt)::(jr,.cells [za 0,za 0,.v (.slice none 0 0)] 29 tt)::(g,skO Zq)::mkK Zq) ?_;refine bE (fun n Wq K=>∃ (i:Nat) (Y:List (Nat×SkT)),n=Zq.length - i/\i<=Zq.length/\Y.length=i/\Y.map (·.2)=(Zq.take i).map (·.2)/\Wq=.any::.ptr jb 0::.ptr jr 0::naL 7 (.row j1 Zq.length::za Zq.length::za i::naL 14 [])/\K=(j1,.row ((Y++Zq.drop i).flatMap skC) 95 7)::(jb,.cells [za st,za wr,.row j1 Zq.length] 29 tt)::(jr,.cells [za 0,za 0,.v (.slice none 0 0)] 29 tt)::(g,skO Zq)::(mkK Zq++mkK Y)) Zq.length ⟨0,[],rfl,mN _,rfl,rfl,rfl,by rw [show mkK []=[] from rfl,lR] <;> rfl⟩ fun n Wq K hI Wj=>?_;obtain ⟨i,Y,rfl,hi,hYl,hYm,rfl,rfl⟩:=hI;refine bG nQ ?_;refine au 923742 ?_;constructor<;>intro Jz
 ·have Qb:i<Zq.length:=by simp at Jz; omega
  obtain ⟨p,hp⟩:∃ p,Zq[i]? =some p:=⟨_,lA Qb⟩;have hpY:=y_get hYl hp;have hx:=zOk hb hp;have hn4:=hx.nm;obtain ⟨Rq,hRq⟩:=ve (v8 hp);refine au 3701421302120 ?_;refine bH Z (zS Z Z ze.h mQ (vB hpY Z)) ?_;refine au 220 ?_;intro jx hjx;refine au 31705 ?_;refine bN (zlh hRq [(jx,_),(j1,_),(jb,_),(jr,_),(g,_)]) ?_;simp only [cA];refine bL [0,1,2,3,4,5,6,7,8] ?_;refine ad [[3,1],[10,17],[1,3],[3,4],[10,20]] ?_;refine TD.cl (Wx:=[_,_,_,_]) [21] Z Z Z Z Z (zf2 hT (x:=p.2) oQ) (fun r4 K5 h6=>⟨?_,?_⟩)
  ·rcases h6 with ⟨j2,rfl,rfl⟩
   all_goals simp
  obtain ⟨j2,rfl,rfl⟩:=h6;try simp only [cA]
  refine TD.norm tQ ?_;refine TD.cq (Wx:=[]) [18,19] Z Z Z Z Z (kh Z Z Z zq.h mQ oQ oQ) (zx Z tQ) sQ ?_;refine ad [[3,23]] ?_;refine bR (Wx:=[]) [22,24] Z Z (zE Z Z ze.h Z Z mQ (zdf (p':=(j2,p.2)) hpY Z dQ Z Z)) ?_;refine ad [[14]] ?_;refine au 312304140 ?_;refine bA [1,2,10,11,12] ?_;refine bC (((j2,_)::(p.1,_)::(j1,_)::(jb,_)::(jr,_)::(g,_)::(Rq++mkK Y))) ?_;refine bN (zlg hRq) ?_;rw [<- zgU Y (j2,p.2),y_set hYl hp];exact Wj _ _ _ oQ ⟨i+1,Y++[(j2,p.2)],rfl,oQ,by rw [lF,hYl]; rfl,by rw [lM,hYm,uh hp,lM]; rfl,rfl,rfl⟩
 obtain rfl:i=Zq.length:=by simp at Jz; omega
 refine au 317068042160 ?_;refine bB Wz (((j1,_)::(g,_)::(mkK Zq++mkK Y))) ?_;refine ⟨j1,Y,?_,hYl,rfl,?_⟩
 ·rw [hYm,lW]
 ·rw [List.drop_length,lR]
theorem zaB {n:Int} (h:0<=n/\n<18446744073709551616):IntKind.u64.wrap n=n:=by
 unfold IntKind.wrap;simp only [show IntKind.u64.bits=64 from rfl,show IntKind.u64.signed=ff from rfl,Bool.false_and];split <;> rename_i h1 <;> first | omega | (simp at h1)
section
variable {P:gP} {gm:Nat->Option Nat} {V:KV} {Wq:List AV} {o:Oper}
theorem zoQ {t yt:gT} {x y:gO} {k':IntKind} {a b:Nat} (ho:o.op=.binOp .shr t x y yt) (hx:zo gm Wq x=some (.v (.int .u64 a))) (hy:zo gm Wq y=some (.v (.int k' b))) (h0:b<=60):Qk P gm Wq V o (.v (.int .u64 ((a / 2 ^ b:Nat):Int))):=fun A _=>by
 refine wm ho (by rw [zA hx]; rfl) (by rw [zA hy]; rfl) ?_;rw [wR];show zO P (Op.shift .shr .u64 a k' b)=_;unfold Op.shift;rw [if_neg oQ];show some (Value.int .u64 ((a:Int).fdiv (2 ^ min (b:Int).toNat 64)))=_;rw [Nat.min_eq_left oQ,mZ,show ((a:Int).fdiv (2 ^ b))=((a / 2 ^ b:Nat):Int) by rw [Int.fdiv_eq_ediv_of_nonneg _ (by exact_mod_cast mN (2 ^ b))]; norm_cast]
theorem zjw {t yt:gT} {x y:gO} {a b:Nat} (ho:o.op=.binOp .and t x y yt) (hx:zo gm Wq x=some (.v (.int .u64 a))) (hy:zo gm Wq y=some (.v (.int .u64 b))) (h:a<9223372036854775808) (h2:b<9223372036854775808):Qk P gm Wq V o (.v (.int .u64 ((a &&& b:Nat):Int))):=by
 refine kx ho hx hy ?_;show some (Value.int .u64 (IntKind.u64.wrap ((BitVec.ofInt 64 (a:Int) &&& BitVec.ofInt 64 (b:Int)).toNat:Int)))=_;have e:∀ c:Nat,c<9223372036854775808->(BitVec.ofInt 64 (c:Int)).toNat=c:=fun c hc=>by
  rw [BitVec.toNat_ofInt];omega
 have hle:a &&& b<=a:=Nat.and_le_left;rw [BitVec.toNat_and,e a h,e b h2,zaB oQ]
theorem zoL {t yt:gT} {x y:gO} {a:Nat} (ho:o.op=.binOp .and t x y yt) (hx:zo gm Wq x=some (.v (.int .u64 a))) (hy:zo gm Wq y=some (.v (.int .u64 1))) (h:a<9223372036854775808):Qk P gm Wq V o (.v (.int .u64 ((a % 2:Nat):Int))):=by
 have:=zjw (P:=P) (V:=V) (b:=1) ho hx hy h dQ;rwa [Nat.and_one_is_mod] at this
theorem zjt {t yt:gT} {x y:gO} {a b:Int} (ho:o.op=.binOp .add t x y yt) (hx:zo gm Wq x=some (.v (.int .u64 a))) (hy:zo gm Wq y=some (.v (.int .u64 b))) (h:0<=a+b/\a+b<18446744073709551616):Qk P gm Wq V o (.v (.int .u64 (a+b))):=by
 refine kx ho hx hy ?_;show some (Value.int .u64 (IntKind.u64.wrap (a+b)))=_;rw [zaB h]
theorem zoR {t yt:gT} {x y:gO} {a b:Int} (ho:o.op=.binOp .sub t x y yt) (hx:zo gm Wq x=some (.v (.int .u64 a))) (hy:zo gm Wq y=some (.v (.int .u64 b))) (h:0<=a - b/\a - b<18446744073709551616):Qk P gm Wq V o (.v (.int .u64 (a - b))):=by
 refine kx ho hx hy ?_;show some (Value.int .u64 (IntKind.u64.wrap (a - b)))=_;rw [zaB h]
theorem zoP {t yt:gT} {x y:gO} {k':IntKind} {b:Nat} (ho:o.op=.binOp .shl t x y yt) (hx:zo gm Wq x=some (.v (.int .u64 1))) (hy:zo gm Wq y=some (.v (.int k' b))) (h0:b<=20):Qk P gm Wq V o (.v (.int .u64 ((2 ^ b:Nat):Int))):=fun A _=>by
 have hp:2 ^ b<=2 ^ 20:=Nat.pow_le_pow_right oQ h0;refine wm ho (by rw [zA hx]; rfl) (by rw [zA hy]; rfl) ?_;rw [wR];show zO P (Op.shift .shl .u64 1 k' b)=_;unfold Op.shift;rw [if_neg oQ];show some (Value.int .u64 (IntKind.u64.wrap (1*2 ^ min (b:Int).toNat 64)))=_;have e:(1*2 ^ b:Int)=((2 ^ b:Nat):Int):=by rw [Int.one_mul]; norm_cast
 have hp':2 ^ b<=1048576:=hp;rw [Nat.min_eq_left oQ,mZ,e,zaB (by generalize 2 ^ b=m at hp' ⊢; omega)]
end
def vwC (v:VwT):List AV:=[za (v.fr.getD 0 0),za (v.fr.getD 1 0),za (v.fr.getD 2 0),za (v.fr.getD 3 0),za (v.st.getD 0 0),za (v.st.getD 1 0),za (v.st.getD 2 0),za (v.st.getD 3 0),.v (.int .u64 v.wr)]
structure VwOk (v:VwT):Prop where
 fr:∀ k,0<=v.fr.getD k 0/\v.fr.getD k 0<=100
 st:∀ k,-100<=v.st.getD k 0/\v.st.getD k 0<=100
 wr:v.wr<=1000
theorem lt4 {i:Nat} (h:i<4):i=0\/i=1\/i=2\/i=3:=by omega
theorem ziP {v:VwT} {i:Nat} {n:Int} {e:gT} {rw':Bool} (h:i<4) (hn:n=(i:Int)):yj (.cells (vwC v) e rw') (0+n.toNat*1) 1=some [za (v.fr.getD i 0)]:=by
 subst hn;rcases lt4 h with rfl | rfl | rfl | rfl <;> rfl
theorem zfP {v:VwT} {i:Nat} {n:Int} {e:gT} {rw':Bool} (h:i<4) (hn:n=(i:Int)):yj (.cells (vwC v) e rw') (4+n.toNat*1) 1=some [za (v.st.getD i 0)]:=by
 subst hn;rcases lt4 h with rfl | rfl | rfl | rfl <;> rfl
def AtL (l:List (ByteArray×gV)) (L:List (ByteArray×(Int×Int))):Prop:=(∀ s v,(s,v)∈l->∃ p∈L,p.1=s/\v=fcV p.2)/\∀ p∈L,(p.1,fcV p.2)∈l
theorem zl1:AtL [] []:=by
 constructor
 ·intro s v h; cases h
 ·intro p h; cases h
theorem zgy {l:List (ByteArray×gV)} {L:List (ByteArray×(Int×Int))} {s:ByteArray} {x:Int×Int} {r:Option (Nat×gV)} (h:AtL l L) (hr:FoundB s l 0 r) (hc:∀ p∈L,p.1=s->p.2=x):AtL (setB l s (fcV x) r) (L++[(s,x)]):=by
 cases r with
 | none =>
  refine ⟨fun s' v hm=>?_,fun p hp=>?_⟩
  ·rcases lT.1 hm with hm | hm
   ·obtain ⟨p,h1,h2⟩:=h.1 s' v hm;exact ⟨p,lV _ h1,h2⟩
   ·cases lS.1 hm;exact ⟨(s,x),by simp,rfl,rfl⟩
  ·show _∈l++[(s,fcV x)];rcases lT.1 hp with hp | hp
   ·exact lV _ (h.2 p hp)
   ·rw [lS.1 hp]; simp
 | some z =>
  obtain ⟨q,v⟩:=z;obtain ⟨j,hj,h3⟩:=hr;obtain rfl:q=j:=by omega
  obtain ⟨p,h4,h5,h6⟩:=h.1 s v (lN h3);have hx:=hc p h4 h5;have he:setB l s (fcV x) (some (q,v))=l:=by
   show l.set q (s,fcV x)=l;rw [<- hx,<- h6];refine List.ext_getElem? fun k=>?_;rw [lX];by_cases hk:q=k
   ·subst hk;rw [if_pos rfl,if_pos (lD.1 h3).1,h3]
   ·rw [if_neg hk]
  rw [he];refine ⟨fun s' v' hm=>?_,fun p' hp=>?_⟩
  ·obtain ⟨p',q1,q2⟩:=h.1 s' v' hm;exact ⟨p',lV _ q1,q2⟩
  ·rcases lT.1 hp with hp | hp
   ·exact h.2 p' hp
   ·rw [lS.1 hp,<- h5,<- hx];exact h.2 p h4
def avP:gV->AV
 | .agg cs=>.agg (cs.toList.map fun z=>.v z)
 | v=>.v v
theorem zl3 {l:List (ByteArray×gV)} {L:List (ByteArray×(Int×Int))} (h:AtL l L) (φ:Nat->Loc3) (n:Nat) (v:gV) (hv:v=fcV (0,0)\/∃ p∈l,v=p.2):RelV φ n (avP v) v:=by
 have:∃ x,v=fcV x:=by
  rcases hv with rfl | ⟨q,hp,rfl⟩
  ·exact ⟨_,rfl⟩
  ·obtain ⟨p,_,_,e⟩:=h.1 q.1 q.2 hp;exact ⟨_,e⟩
 obtain ⟨x,rfl⟩:=this;exact zoS x
theorem zkd {l:List (ByteArray×gV)} {L:List (ByteArray×(Int×Int))} (h:AtL l L) {s:ByteArray} {v:gV} {ok:Bool} (hv:(ok=ff/\(∀ p∈l,p.1≠s)/\v=fcV (0,0))\/(ok=tt/\(s,v)∈l)):∃ x:Int×Int,v=fcV x/\((ok=ff/\∀ p∈L,p.1≠s)\/(ok=tt/\∃ p∈L,p.1=s/\p.2=x)):=by
 rcases hv with ⟨h1,h2,h3⟩ | ⟨h1,h2⟩
 ·exact ⟨_,h3,.inl ⟨h1,fun p hp=>h2 _ (h.2 p hp)⟩⟩
 ·obtain ⟨p,q1,q2,q3⟩:=h.1 s v h2;exact ⟨p.2,q3,.inr ⟨h1,p,q1,q2,rfl⟩⟩
theorem zeF {L:List (ByteArray×(Int×Int))} {s:ByteArray} {x:Int×Int} (h:∀ p∈L,p.1=s->p.2=x):(L.all fun q=>consT q (s,x))=tt:=List.all_eq_true.2 fun p hp=>by
 unfold consT;by_cases e:p.1=s
 ·rw [decide_eq_true e,decide_eq_true (h p hp e)]; rfl
 ·rw [decide_eq_false e]; rfl
theorem zmQ {L:List (ByteArray×(Int×Int))} (h:okL L=tt) {p q:ByteArray×(Int×Int)} (hp:p∈L) (hq:q∈L) (he:p.1=q.1):p.2=q.2:=by
 induction L with
 | nil=>cases hp
 | cons a L ih =>
  have h:(L.all (consT a)&&okL L)=tt:=h;obtain ⟨h1,h2⟩:=Bool.and_eq_true_iff.1 h;have key:∀ b∈L,a.1=b.1->a.2=b.2:=fun b hb e=>by
   have:=List.all_eq_true.1 h1 b hb;unfold consT at this;rw [decide_eq_true e] at this;simpa using this
  rcases lI.1 hp with e1 | hp1 <;> rcases lI.1 hq with e2 | hq1
  ·rw [e1,e2]
  ·rw [e1] at he ⊢; exact key q hq1 he
  ·rw [e2] at he ⊢; exact (key p hp1 he.symm).symm
  ·exact ih h2 hp1 hq1
theorem zmR {L:List (ByteArray×(Int×Int))} {s:ByteArray} {x:Int×Int} {p:ByteArray×(Int×Int)} (hp:p∈L) (h1:p.1=s) (h2:p.2≠x):okL (L++[(s,x)])=ff:=by
 rw [okL_S];have:(L.all fun q=>consT q (s,x))=ff:=List.all_eq_false.2 ⟨p,hp,by
  unfold consT;rw [decide_eq_true h1,decide_eq_false h2]; decide⟩
 rw [this,Bool.and_false]
theorem wN {steps:Int} {v:VwT} {i q:Nat} {l:List MkR} {m:MkR} (h:l[q]? =some m):marksT steps v i (l.take (q+1))=marksT steps v i (l.take q)++[(m.what,placeT steps v i m)]:=by
 unfold marksT;rw [uh h,lM]; rfl
theorem zbx {steps:Int} {v:VwT} {l:List SkT} {i:Nat} {x:SkT} (h:l[i]? =some x):yc steps v 0 (l.take (i+1))=yc steps v 0 (l.take i)++seenT steps v i x:=by
 have hl:=(lD.1 h).1;rw [uh h,uB,List.length_take,Nat.min_eq_left oQ,mO];congr 1;simp [yc]
theorem zjK {steps:Int} {v:VwT} {l:List SkT} {i:Nat}:∃ r,yc steps v 0 l=yc steps v 0 (l.take i)++r:=⟨_,by conv=>lhs; rw [<- List.take_append_drop i l,uB]⟩
theorem znL (w i:Nat):AV.v (Value.bool (((w / 2 ^ i % 2:Nat):Int)==1))=zC (bitT w i):=by
 unfold bitT zC;congr 2;by_cases h:w / 2 ^ i % 2=1
 ·rw [h]; rfl
 ·rw [beq_eq_false_iff_ne.2 h,beq_eq_false_iff_ne.2 oQ]
instance:ArEl tp 115 4 3 ff 1:={}
instance:BlOf tp 102 [(0,1),(1,1)]:={}
instance:zl tp 118 0 0 tt 4:={}
instance:zl tp 118 1 4 tt 4:={}
instance:zl tp 118 2 8 ff 1:={}
instance:ze tp 102 tt 2:={}
instance:ze tp 116 ff 1:={}
instance:TyZ tp 102 [.int .i64 0,.int .i64 0]:={}
instance:TyZA tp 102 [.v (.int .i64 0),.v (.int .i64 0)]:={}
theorem zij {main T} (hT:zt tp main T) {gm} {v:VwT} {i:Nat} (hv:VwOk v) (hi:i<4) :
  zr tp T gm 188 [.agg (vwC v),za (i:Int)] [] (fun r K'=>r=zC (bitT v.wr i)/\K'=[]):=by
 refine zn 11 hT Tryz.func188 fun Y Wz=>?_;refine au 0 ?_;have hw:=hv.wr;refine au 21042 ?_;intro jb hjb;refine au 16906704235 ?_;refine bH Z (zoQ Z Z Z oQ) ?_;refine bH Z (zoL Z Z Z (by have:=Nat.div_le_self v.wr (2 ^ i); omega)) ?_;refine au 357 ?_;refine bB Wz [] ?_;exact ⟨znL v.wr i,rfl⟩
theorem zgr {main T} (hT:zt tp main T) {gm} {st wr:Int} {g:Nat} {Zq:List (Nat×SkT)} {v:VwT} {i:Nat} {m:MkR} (hv:VwOk v) (hi:i<4) (hs:4<=st/\st<=24) (hm:0<=m.col/\m.col<=100 /\ -9<=m.row/\m.row<=9) :
  zr tp T gm 189 [.agg (stpC st wr g Zq),.agg (vwC v),za (i:Int),.agg (mkC m)] [] (fun r K'=>r=.agg (fcC (placeT st v i m))/\K'=[]):=by
 refine zn 28 hT Tryz.func189 fun Y Wz=>?_;refine au 0 ?_;have hf:=hv.fr i;have hse:=hv.st i;refine au 21042 ?_;intro jb hjb;refine au 210 ?_;intro jv hjv;refine au 210 ?_;intro jm hjm;refine au 220 ?_;intro jr hjr;refine au 23 ?_;refine bL [0,1,2,3,4,5,6,7,8,9,10,11,12,13,14,15,16,17,18,19] ?_;refine ad [[1,2],[3,5]] ?_;refine bU [9,10] Z (yH Z Z Z ArEl.h oQ oQ) ?_;refine bT [11] Z (hq:=zj Z Z ze.h (mC _) (ziP hi Z)) (h:=?_);refine ad [[3,7],[10,13],[8,12,14],[3,4],[3,16],[10,17]] ?_;refine bU [15,18] Z (q_rem Z Z Z oQ oQ) ?_;refine ad [[3,7],[10,20],[1,2],[3,5]] ?_;refine bU [22,23] Z (yH Z Z Z ArEl.h oQ oQ) ?_;refine bT [24] Z (hq:=zj Z Z ze.h (mC _) (zfP hi Z)) (h:=?_);refine ad [[8,21,25]] ?_;refine bU [19,26] Z (yP (l:=[_,_]) Z TyZ.h BlOf.h Z) ?_;refine bR (Wx:=[]) [8,27] Z Z (zE Z Z ze.h Z Z mQ Z) ?_;refine ad [[14]] ?_;refine au 0 ?_;refine bB Wz [] ?_;exact ⟨rfl,rfl⟩
theorem zgz {L:List (ByteArray×(Int×Int))} {s:ByteArray} {x y:Int×Int} {ok:Bool} (hok:okL L=tt) (h:(ok=ff/\∀ p∈L,p.1≠s)\/(ok=tt/\∃ p∈L,p.1=s/\p.2=x)) (hq:ok=tt->x=y):∀ p∈L,p.1=s->p.2=y:=fun p hp he=>by
 rcases h with ⟨_,h⟩ | ⟨h1,p',h2,h3,h4⟩
 ·exact absurd he (h p hp)
 ·rw [zmQ hok hp h2 (he.trans h3.symm),h4,hq h1]
theorem zio {st:Int} {v:VwT} {l:List SkT} {i q:Nat} {x:SkT} {m:MkR} (hx:l[i]? =some x) (hw:bitT v.wr i=ff) (hm:x.mK[q]? =some m) {p:ByteArray×(Int×Int)} (hp:p∈yc st v 0 (l.take i)++marksT st v i (x.mK.take q)) (h1:p.1=m.what) (h2:p.2≠placeT st v i m):agreeT st l v=ff:=by
 have hb:=zmR hp h1 h2;rw [List.append_assoc,<- wN hm] at hb;obtain ⟨r,hr⟩:=zjK (steps:=st) (v:=v) (l:=l) (i:=i+1);have hs:seenT st v i x=marksT st v i (x.mK.take (q+1))++marksT st v i (x.mK.drop (q+1)):=by
  unfold seenT;rw [if_neg (by rw [hw]; decide)];unfold marksT;rw [<- lM,List.take_append_drop]
 unfold agreeT;rw [hr,zbx hx,hs,<- List.append_assoc,List.append_assoc];exact zmS hb
theorem zhz {st:Int} {v:VwT} {l:List SkT} (h:okL (yc st v 0 (l.take l.length))=tt):agreeT st l v=tt:=by
 rw [lW] at h;exact h
instance:EqG tp 102:={}
instance:FlatF tp 102 [(3,0),(3,1)]:={}
instance:InfO tp 102 Tryz.t102:={}
instance:ze tp 105 tt 3:={}
instance:ze tp 118 tt 9:={}
instance:Und tp 283 (.map 9 102):={}
theorem zig {main T} (hT:zt tp main T) {gm} {st wr:Int} {g:Nat} {Zq:List (Nat×SkT)} {v:VwT} (hb:StpOk (skB st wr Zq)) (hv:VwOk v) :
  zr tp T gm 163 [.agg (stpC st wr g Zq),.agg (vwC v)] ((g,skO Zq)::mkK Zq) (fun r K'=>r=zC (agreeT st (Zq.map (·.2)) v)/\K'=(g,skO Zq)::mkK Zq):=by
 refine zn 57 hT Tryz.func163 fun Y Wz=>?_;refine au 0 ?_;have h1:4<=st/\st<=24:=hb.st;have h3:=zN hb;refine au 21042 ?_;intro jb hjb;refine au 210 ?_;intro jv hjv;refine au 4235 ?_;refine TK.newM Z Z Z (uu Z) (fun _=>zx rfl tQ) fun jm hjm=>?_;refine au 1303128069067067042235 ?_;refine bA [2,3,5,16,17,18] ?_;refine bE (fun n Wq K=>∃ (i:Nat) (ob:Obj) (l:List (ByteArray×gV)),n=Zq.length - i/\i<=Zq.length/\MapB ob l/\AtL l (yc st v 0 ((Zq.map (·.2)).take i))/\okL (yc st v 0 ((Zq.map (·.2)).take i))=tt/\Wq=naL 2 (.ptr jb 0::.ptr jv 0::.any::.map jm::naL 10 (.sl g 0 Zq.length::za Zq.length::za i::naL 38 []))/\K=(jm,.raw ob)::(jv,.cells (vwC v) 118 tt)::(jb,.cells (stpC st wr g Zq) 105 tt)::(g,skO Zq)::mkK Zq) Zq.length ⟨0,_,[],rfl,mN _,ze7,zl1,rfl,rfl,rfl⟩ fun n Wq K hI Wj=>?_;obtain ⟨i,ob,l,rfl,hi,hob,hat,hok,rfl,rfl⟩:=hI;refine bG nQ ?_;refine au 923742 ?_;constructor<;>intro Jz
 ·have Qb:i<Zq.length:=by simp at Jz; omega
  obtain ⟨p,hp⟩:∃ p,Zq[i]? =some p:=⟨_,lA Qb⟩;have hp2:(Zq.map (·.2))[i]? =some p.2:=by rw [lQ,hp]; rfl
  have hx:=zOk hb hp;have hxw:=hx.wd;have hn4:=hx.nm;have hmm:=v8 hp;refine au 3601421302120 ?_;refine bH Z (zS Z Z ze.h mQ (sk_at hp Z)) ?_;refine au 220 ?_;intro jx hjx;refine au 168042231705 ?_;refine TK.clE Z Z Z Z (zij hT hv oQ) ?_;refine au 93 ?_;constructor<;>intro Jx
  ·refine au 312304160 ?_;refine bA [2,3,5,16,17,18] ?_;refine bC (((jm,_)::(jv,_)::(jb,_)::(g,_)::mkK Zq)) ?_;have hs0:yc st v 0 ((Zq.map (·.2)).take (i+1))=yc st v 0 ((Zq.map (·.2)).take i):=by rw [zbx hp2]; unfold seenT; rw [if_pos Jx,lR]
   exact Wj _ _ _ oQ ⟨i+1,ob,l,rfl,oQ,hob,by rw [hs0]; exact hat,by rw [hs0]; exact hok,rfl,rfl⟩
  have hwr:bitT v.wr i=ff:=Jx;refine au 1303128069067042120 ?_;refine bA [2,3,5,6,7,16,17,18,27,28,29] ?_;refine bC ((jx,_)::(jm,_)::(jv,_)::(jb,_)::(g,_)::mkK Zq) ?_;refine bE (fun n Wq K=>∃ (q:Nat) (ob:Obj) (l:List (ByteArray×gV)),n=p.2.mK.length - q/\q<=p.2.mK.length/\MapB ob l/\AtL l (yc st v 0 ((Zq.map (·.2)).take i)++marksT st v i (p.2.mK.take q))/\okL (yc st v 0 ((Zq.map (·.2)).take i)++marksT st v i (p.2.mK.take q))=tt/\Wq=naL 2 (.ptr jb 0::.ptr jv 0::.any::.map jm::za i::.ptr jx 0::naL 8 (.sl g 0 Zq.length::za Zq.length::za i::naL 8 (.sl p.1 0 p.2.mK.length::za p.2.mK.length::za q::naL 27 [])))/\K=(jx,.cells (skC p) 95 tt)::(jm,.raw ob)::(jv,.cells (vwC v) 118 tt)::(jb,.cells (stpC st wr g Zq) 105 tt)::(g,skO Zq)::mkK Zq) p.2.mK.length ⟨0,ob,l,rfl,mN _,hob,by rw [show marksT st v i (p.2.mK.take 0)=[] from rfl,lR]; exact hat,by rw [show marksT st v i (p.2.mK.take 0)=[] from rfl,lR]; exact hok,rfl,rfl⟩ fun n Wq K hI Ww=>?_;obtain ⟨q,ob,l,rfl,hq,hob,hat,hok,rfl,rfl⟩:=hI;refine bG nQ ?_;refine au 923742 ?_;constructor<;>intro hc2
  ·have hql:q<p.2.mK.length:=by simp at hc2; omega
   obtain ⟨m,hm⟩:∃ m,p.2.mK[q]? =some m:=⟨_,lA hql⟩;obtain ⟨k1,k2,k3,k4,k5⟩:=hx.mks m (lN hm);refine au 360421302120 ?_;refine bH Z (zS Z Z ze.h mQ (mk_at hm Z)) ?_;refine au 220 ?_;intro jw hjw;refine au 6801680680423170 ?_;refine TK.clE Z Z Z Z (zgr hT hv oQ h1 ⟨k2,oQ,k4,k5⟩) ?_;refine au 220 ?_;intro jp hjp;refine au 69067014223170 ?_;refine TK.lookB2 keyB (av:=avP) Z Z Z Z Z Z Und.h InfO.h Z mQ hob (zl3 hat) fun v4 ok4 hv4=>?_;refine au 0 ?_;obtain ⟨x4,rfl,hx4⟩:=zkd hat hv4;rw [show avP (fcV x4)=AV.agg (fcC x4) from rfl];refine au 220661 ?_;intro jq hjq;refine au 114235170 ?_;refine TK.sp 46 (fun g11_2=>?_) (fun g11_2=>?_)
   ·refine au 680680 ?_;refine bH Z (uy Z Z Z Z Z FlatF.h EqG.h) ?_;refine au 93260 ?_;constructor<;>intro hc3
    ·obtain ⟨_,pm,hpm,hpe,hpx⟩:=hx4.resolve_left (fun h=>by rw [h.1] at g11_2; cases g11_2);have hne:x4≠placeT st v i m:=fun e=>by rw [e] at hc3; simp at hc3
     refine au 3542 ?_;refine bB Wz (((g,_)::mkK Zq)) ?_;exact ⟨by rw [zio hp2 hwr hm hpm hpe (fun e=>by rw [<- hpx] at hne; exact hne e)] <;> rfl,rfl⟩
    have hxy:ok4=tt->x4=placeT st v i m:=fun _=>by have h:=hc3; simp at h; exact Prod.ext h.1 h.2
    refine au 68069067014120 ?_;have hcons:=zgz hok hx4 hxy;refine TK.updB keyB (v:=fcV (placeT st v i m)) Z Z Z Z Z Z Z Z Z Und.h mQ hob (fun _=>uQ) fun ob2 r2 hr2 hob2=>?_;have hat2:=zgy hat hr2 hcons;have hok2:okL ((yc st v 0 ((Zq.map (·.2)).take i)++marksT st v i (p.2.mK.take q))++[(m.what,placeT st v i m)])=tt:=by rw [okL_S,hok,zeF hcons]; rfl
    refine au 3123041403 ?_;refine bA [2,3,5,6,7,16,17,18,27,28,29] ?_;refine bC (((jx,_)::(jm,_)::(jv,_)::(jb,_)::(g,_)::mkK Zq)) ?_;exact Ww _ _ _ oQ ⟨q+1,ob2,_,rfl,oQ,hob2,by rw [wN hm,<- List.append_assoc]; exact hat2,by rw [wN hm,<- List.append_assoc]; exact hok2,rfl,rfl⟩
   have hxy:ok4=tt->x4=placeT st v i m:=fun h=>by rw [g11_2] at h; cases h
   refine au 680690670141201903250888 ?_;have hcons:=zgz hok hx4 hxy;refine TK.updB keyB (v:=fcV (placeT st v i m)) Z Z Z Z Z Z Z Z Z Und.h mQ hob (fun _=>uQ) fun ob2 r2 hr2 hob2=>?_;have hat2:=zgy hat hr2 hcons;have hok2:okL ((yc st v 0 ((Zq.map (·.2)).take i)++marksT st v i (p.2.mK.take q))++[(m.what,placeT st v i m)])=tt:=by rw [okL_S,hok,zeF hcons]; rfl
   refine au 3123041403 ?_;refine bA [2,3,5,6,7,16,17,18,27,28,29] ?_;refine bC (((jx,_)::(jm,_)::(jv,_)::(jb,_)::(g,_)::mkK Zq)) ?_;exact Ww _ _ _ oQ ⟨q+1,ob2,_,rfl,oQ,hob2,by rw [wN hm,<- List.append_assoc]; exact hat2,by rw [wN hm,<- List.append_assoc]; exact hok2,rfl,rfl⟩
  obtain rfl:q=p.2.mK.length:=by simp at hc2; omega
  rw [lW] at hat hok;refine au 312304140160 ?_;refine bA [2,3,5,16,17,18] ?_;refine bC (((jm,_)::(jv,_)::(jb,_)::(g,_)::mkK Zq)) ?_;have hs0:yc st v 0 ((Zq.map (·.2)).take (i+1))=yc st v 0 ((Zq.map (·.2)).take i)++marksT st v i p.2.mK:=by rw [zbx hp2]; unfold seenT; rw [if_neg (by rw [hwr]; decide)]
  exact Wj _ _ _ oQ ⟨i+1,ob,l,rfl,oQ,hob,by rw [hs0]; exact hat,by rw [hs0]; exact hok,rfl,rfl⟩
 obtain rfl:i=Zq.length:=by simp at Jz; omega
 refine au 3542160 ?_;refine bB Wz (((g,_)::mkK Zq)) ?_;exact ⟨by rw [zhz (by rw [z_len]; exact hok)] <;> rfl,rfl⟩
def YieldG (P:gP) (T:gG->Hp->Prop) (gm:Nat->Option Nat) {α:Type} (Fx:KV) (ar:α->AV) (l:Nat) (J:List α->KV->Prop) (D:KV->Prop) (tot:List α):Prop:=∀ (pre:List α) (x:α) (K1:KV),pre++[x] <+: tot->J pre K1 ->
 CallFK P T gm (.yl l) [ar x] (Fx++K1) fun r K'=>∃ K2,K'=Fx++K2/\((r=zC tt/\J (pre++[x]) K2)\/(r=zC ff/\D K2))
section
variable {P:gP} {main:Bool} {T:gG->Hp->Prop} {gm:Nat->Option Nat} {Y:KX P gm T} {ds:List Nat} {k:List Item} {Wq:List AV} {K K0 R:KV} {Qy:Array Oper} {i:Nat} {Wp:List Nat} {o:Oper}
theorem TK.rangeG {α:Type} (hT:zt P main T) {fo:gO} {ps:Array Tmp} {x y:Code} {g:FuncId} {fs cp:List AV} {Fx:KV} {ar:α->AV} {tot:List α} {J:List α->KV->Prop} {D:Code->KV->Prop} (hps:ps.size=1) (hro:Y.X.ro=none) (hf:zo gm Wq fo=some (.fn g fs cp)) (hg:yo P g=tt) (hs:Split K (Fx++K0) R) (hJ0:J [] K0)
  (hit:∀ (l:Nat) (J':List α->KV->Prop) (D':KV->Prop) (K1:KV),YieldG P T gm Fx ar l J' D' tot->J' [] K1->zr P T gm g (fs++[.yl l]++cp) (Fx++K1) (fun _ K'=>∃ K2,K'=Fx++K2/\(J' tot K2\/D' K2)))
  (round:∀ (Y':KX P gm T) (l:Nat) (lo lb:AObj) (pre:List α) (S:α) (K1:KV),(∀ ds k Wk K K',Upd K l lo l lb K'->TK Y' ds k Wk K'->TK Y' ds (.beginRound::k) Wk K) ->
   (∀ Wk K' K2 D',Split K' ((l,lb)::(Fx++K2)) D'->J (pre++[S]) K2->TK Y' [] [] Wk K') ->
   (∀ c k Wk K' K2 D',Leave (some c) k->Split K' ((l,lb)::(Fx++K2)) D'->D c K2->TK Y' [] k Wk K') ->
   pre++[S] <+: tot->J pre K1->TK Y' [] [.code x,.beginRound,.code y] (putAll Wq (ps.toList.zip [ar S])) ((l,lo)::(Fx++K1)))
  (hend:∀ d K2,J tot K2->TK Y (d::ds) k Wq ((d,.raw (.deferred (some [])))::(Fx++(K2++R))))
  (hstop:∀ d c K2,D c K2->TK Y (d::ds) (.code c::k) Wq ((d,.raw (.deferred (some [])))::(Fx++(K2++R)))):TK Y ds (.code (.rangeFunc fo ps x y)::k) Wq K:=by
 refine TK.rangeFunc (Post:=fun l _ K'=>∃ st pj K2,K'=(l,.loop Y.X.f Wq ps x y st pj)::(Fx++K2)/\((st=.ready/\pj=none/\J tot K2)\/∃ c,st=.done/\pj=some c/\D c K2))
  (Q:=fun pj K'=>∃ K2,K'=Fx++K2/\((pj=none/\J tot K2)\/∃ c,pj=some c/\D c K2)) hro hf hg hs (fun l hl=>?_) ?_ ?_
 ·intro A hv hn;have hp:((l,AObj.loop Y.X.f Wq ps x y .ready none)::(Fx++K0)).Perm (Fx++(l,.loop Y.X.f Wq ps x y .ready none)::K0):=List.perm_middle.symm;refine CallT.mono (hit l (fun pre K=>∃ K3,K=(l,.loop Y.X.f Wq ps x y .ready none)::K3/\J pre K3) (fun K=>∃ c K3,K=(l,.loop Y.X.f Wq ps x y .done (some c))::K3/\D c K3) _ ?_ ⟨K0,rfl,hJ0⟩ A (hv.sub fun x hx=>hp.symm.subset hx) ((z7 hp).nodup_iff.1 hn)) ?_
  ·rintro pre S K1 hpre ⟨K3,rfl,hJ⟩;refine CallFK.perm (Post:=fun r K'=>(r=zC tt/\∃ K2,K'=(l,.loop Y.X.f Wq ps x y .ready none)::(Fx++K2)/\J (pre++[S]) K2)\/(r=zC ff/\∃ c K2,K'=(l,.loop Y.X.f Wq ps x y .done (some c))::(Fx++K2)/\D c K2)) ?_ ?_
   ·refine zdv hT (i:=l) (f:=Y.X.f) (Wq:=Wq) (ps:=ps) (x:=x) (y:=y) sQ hps.symm fun Y' hro' hl' Wz=>?_;refine bN List.perm_middle ?_;refine round Y' l (.loop Y.X.f Wq ps x y .ready none) (.loop Y.X.f Wq ps x y .busy none) pre S K3 (fun ds k Wk K K' hu h=>TK.beginRound hro' hl' hu h) (fun Wk K' K2 D' hsp hJ'=>?_) (fun c k Wk K' K2 D' hlv hsp hD=>?_) hpre hJ
    ·exact TK.leave .fin fun A hA=>Wz none Wk K' (Fx++K2) D' .busy none hsp (.inl ⟨rfl,K2,rfl,hJ'⟩) A hA
    ·exact TK.leave hlv fun A hA=>Wz (some c) Wk K' (Fx++K2) D' .busy none hsp (.inr ⟨rfl,c,K2,rfl,hD⟩) A hA
   ·rintro r K' (⟨rfl,K2,rfl,h⟩ | ⟨rfl,c,K2,rfl,h⟩)
    ·exact ⟨_,List.perm_middle.symm,_,rfl,.inl ⟨rfl,K2,rfl,h⟩⟩
    ·exact ⟨_,List.perm_middle.symm,_,rfl,.inr ⟨rfl,c,K2,rfl,h⟩⟩
  ·rintro r A' ⟨K',hk,K2,rfl,h⟩;have hk2:∀ K'',(Fx++K2).Perm K''->Kstep ((l,AObj.loop Y.X.f Wq ps x y .ready none)::(Fx++K0)) A K'' A':=fun K'' hp2 =>
    Kstep.perm ⟨hk.view,hk.nd,fun i hi=>(hk.own i hi).imp_left fun h=>(z7 hp).symm.subset h,fun j h1 h2=>hk.kept j h1 fun h=>h2 ((z7 hp).symm.subset h),hk.len⟩ hp2
   rcases h with ⟨K3,rfl,h⟩ | ⟨c,K3,rfl,h⟩
   ·exact ⟨_,hk2 _ List.perm_middle,.ready,none,K3,rfl,.inl ⟨rfl,rfl,h⟩⟩
   ·exact ⟨_,hk2 _ List.perm_middle,.done,some c,K3,rfl,.inr ⟨c,rfl,rfl,h⟩⟩
 ·rintro l r K' ⟨st,pj,K2,rfl,h⟩;refine ⟨st,pj,_,rfl,?_,K2,rfl,?_⟩
  ·rcases h with ⟨rfl,_⟩ | ⟨c,rfl,_⟩ <;> rfl
  ·rcases h with ⟨_,rfl,h⟩ | ⟨c,_,rfl,h⟩
   ·exact .inl ⟨rfl,h⟩
   ·exact .inr ⟨c,rfl,h⟩
 ·rintro d pj K' ⟨K2,rfl,⟨rfl,h⟩ | ⟨c,rfl,h⟩⟩
  ·rw [List.append_assoc]; exact hend d K2 h
  ·rw [List.append_assoc]; exact hstop d c K2 h
end
abbrev vwA (v:VwT):AV:=.agg (vwC v)
theorem wY:∀ (A B:KV),Split (A++B) A B
 | [],B=>.none B
 | x::A,B=>.left (wY A B)
theorem un {l:List Int} {n k:Nat} {a:Int} (h:n<l.length):(l.set n a).getD k 0=if n=k then a else l.getD k 0:=by
 rw [lE,lX];by_cases e:n=k
 ·subst e; rw [if_pos rfl,if_pos h,if_pos rfl]; rfl
 ·rw [if_neg e,if_neg e,lE]
theorem ziO {f s:List Int} {w n:Nat} {a m:Int} {e:gT} {rw':Bool} (h:n<4) (hf:f.length=4) (hm:m=(n:Int)):yj (.cells (vwC ⟨f.set n a,s,w⟩) e rw') (0+m.toNat*1) 1=some [za a]:=by
 rw [ziP h hm];show some [za ((f.set n a).getD n 0)]=_;rw [un oQ,if_pos rfl]
theorem zhm {f s:List Int} {w n:Nat} {c m:Int} {e:gT} {rw':Bool} (h:n<4) (hs:s.length=4) (hm:m=(n:Int)):yj (.cells (vwC ⟨f,s.set n c,w⟩) e rw') (4+m.toNat*1) 1=some [za c]:=by
 rw [zfP h hm];show some [za ((s.set n c).getD n 0)]=_;rw [un oQ,if_pos rfl]
theorem zjq {f s:List Int} {w n:Nat} {a m:Int} {e:gT} (h:n<4) (hf:f.length=4) (hm:m=(n:Int)):putO (.cells (vwC ⟨f,s,w⟩) e tt) (0+m.toNat*1) [za a]=some (.cells (vwC ⟨f.set n a,s,w⟩) e tt):=by
 subst hm
 match f,hf with
 | [x0,x1,x2,x3],_=>rcases lt4 h with rfl | rfl | rfl | rfl <;> rfl
theorem zg7 {f s:List Int} {w n:Nat} {c m:Int} {e:gT} (h:n<4) (hs:s.length=4) (hm:m=(n:Int)):putO (.cells (vwC ⟨f,s,w⟩) e tt) (4+m.toNat*1) [za c]=some (.cells (vwC ⟨f,s.set n c,w⟩) e tt):=by
 subst hm
 match s,hs with
 | [x0,x1,x2,x3],_=>rcases lt4 h with rfl | rfl | rfl | rfl <;> rfl
theorem zpa {f s:List Int} {w n:Nat} {a c:Int} (hv:VwOk ⟨f,s,w⟩) (hn:n<4) (hf:f.length=4) (hs:s.length=4) (ha:0<=a/\a<=100) (hc : -100<=c/\c<=100):VwOk ⟨f.set n a,s.set n c,w⟩:=by
 refine ⟨fun k=>?_,fun k=>?_,hv.wr⟩
 ·show 0<=(f.set n a).getD k 0/\(f.set n a).getD k 0<=100;rw [un oQ];split
  ·exact ha
  ·exact hv.fr k
 ·show -100<=(s.set n c).getD k 0/\(s.set n c).getD k 0<=100;rw [un oQ];split
  ·exact hc
  ·exact hv.st k
theorem set_set {l:List Int} {n:Nat} {a b:Int}:(l.set n a).set n b=l.set n b:=by rw [List.set_set]
theorem zm6 {f s:List Int} {w n:Nat} {a a' m:Int} {e:gT} (h:n<4) (hf:f.length=4) (hm:m=(n:Int)):putO (.cells (vwC ⟨f.set n a,s,w⟩) e tt) (0+m.toNat*1) [za a']=some (.cells (vwC ⟨f.set n a',s,w⟩) e tt):=by
 rw [zjq h (by rw [List.length_set,hf]) hm,set_set]
theorem zm7 {f s:List Int} {w n:Nat} {c c' m:Int} {e:gT} (h:n<4) (hs:s.length=4) (hm:m=(n:Int)):putO (.cells (vwC ⟨f,s.set n c,w⟩) e tt) (4+m.toNat*1) [za c']=some (.cells (vwC ⟨f,s.set n c',w⟩) e tt):=by
 rw [zg7 h (by rw [List.length_set,hs]) hm,set_set]
def restA (ag:VwT->Bool) (w:Nat) (x:SkT) (l:List SkT) (n:Nat) (f s:List Int) (a:Int):List VwT:=(numsT a x.fhi).flatMap fun a=>(numsT x.slo x.shi).flatMap fun c=>viewT ag w l (n+1) (f.set n a) (s.set n c)
def restC (ag:VwT->Bool) (w:Nat) (x:SkT) (l:List SkT) (n:Nat) (f s:List Int) (a c:Int):List VwT:=(numsT c x.shi).flatMap fun c=>viewT ag w l (n+1) (f.set n a) (s.set n c)
theorem zha {ag:VwT->Bool} {w:Nat} {x:SkT} {l:List SkT} {n:Nat} {f s:List Int} {a:Int} (h:a<=x.fhi):restA ag w x l n f s a=restC ag w x l n f s a x.slo++restA ag w x l n f s (a+1):=by
 unfold restA restC;rw [zgY h,List.flatMap_cons]
theorem zjC {ag:VwT->Bool} {w:Nat} {x:SkT} {l:List SkT} {n:Nat} {f s:List Int} {a:Int} (h:¬ a<=x.fhi):restA ag w x l n f s a=[]:=by
 unfold restA;rw [zdT h]; rfl
theorem zhb {ag:VwT->Bool} {w:Nat} {x:SkT} {l:List SkT} {n:Nat} {f s:List Int} {a c:Int} (h:c<=x.shi):restC ag w x l n f s a c=viewT ag w l (n+1) (f.set n a) (s.set n c)++restC ag w x l n f s a (c+1):=by
 unfold restC;rw [zgY h,List.flatMap_cons]
theorem zjD {ag:VwT->Bool} {w:Nat} {x:SkT} {l:List SkT} {n:Nat} {f s:List Int} {a c:Int} (h:¬ c<=x.shi):restC ag w x l n f s a c=[]:=by
 unfold restC;rw [zdT h]; rfl
instance:ze tp 259 ff 1:={}
instance:ze tp 260 ff 1:={}
theorem vwNext0 {main T} (hT:zt tp main T) {gm} {st wr:Int} {g lp jb jw jy jn w:Nat} {Zq:List (Nat×SkT)} (hb:StpOk (skB st wr Zq)) {J:List VwT->KV->Prop} {D:KV->Prop} {tot:List VwT} (hy:YieldG tp T gm ((jb,.cells (stpC st wr g Zq) 105 tt)::(jw,.cells [.v (.int .u64 (w:Nat))] 116 tt)::(g,skO Zq)::mkK Zq) vwA lp J D tot) {n:Nat} {f s:List Int} {pre:List VwT} {K1:KV} (hd:(Zq.map (·.2)).drop n=[]) (hnl:n<=Zq.length) (hf:f.length=4) (hs:s.length=4) (hv:VwOk ⟨f,s,w⟩) (hpre:pre++viewT (agreeT st (Zq.map (·.2))) w [] n f s <+: tot) (hJ:J pre K1) :
  zr tp T gm 162 [.agg (vwC ⟨f,s,w⟩),za (n:Int),.ptr jb 0,.ptr jy 0,.ptr jn 0] ((jy,.cells [.yl lp] 259 tt)::(jn,.cells [.fn 162 [] [.ptr jb 0,.ptr jy 0,.ptr jn 0]] 260 tt)::(jb,.cells (stpC st wr g Zq) 105 tt)::(jw,.cells [.v (.int .u64 (w:Nat))] 116 tt)::(g,skO Zq)::(mkK Zq++K1)) (fun r K'=>∃ K2,K'=(jy,.cells [.yl lp] 259 tt)::(jn,.cells [.fn 162 [] [.ptr jb 0,.ptr jy 0,.ptr jn 0]] 260 tt)::(jb,.cells (stpC st wr g Zq) 105 tt)::(jw,.cells [.v (.int .u64 (w:Nat))] 116 tt)::(g,skO Zq)::(mkK Zq++K2)/\((r=zC tt/\J (pre++viewT (agreeT st (Zq.map (·.2))) w [] n f s) K2)\/(r=zC ff/\D K2))):=by
 refine zn 78 hT Tryz.func162 fun Y Wz=>?_;have hz:=zN hb;have hst:4<=st/\st<=24:=hb.st;refine au 21042 ?_;intro jz hjz;refine au 937280690670670142235 ?_;constructor<;>intro Jz
 ·refine au 68068042 ?_;refine bD Z Z Z Z (zig hT hb hv) ?_ (hs:=(.right (.right (.right (.right (.right (.left (wY _ _))))))));rintro r1 K2 ⟨rfl,rfl⟩;refine au 0 ?_;refine bN (K':=(jz,_)::(jy,_)::(jn,_)::(jb,_)::(jw,_)::(g,_)::(mkK Zq++K1)) (List.perm_append_comm_assoc ((g,_)::mkK Zq) [(jz,_),(jy,_),(jn,_),(jb,_),(jw,_)] K1) ?_;refine au 1300 ?_;refine TK.sp 19 (fun g2_5=>?_) (fun g2_5=>?_)
  ·refine au 35260888 ?_;refine bB Wz (_) ?_ (hs:=(.right (.all _)));exact ⟨K1,rfl,.inl ⟨rfl,by rw [show viewT (agreeT st (Zq.map (·.2))) w [] n f s=[] by unfold viewT; rw [if_neg (by simpa using g2_5)],lR]; exact hJ⟩⟩
  have hvt:viewT (agreeT st (Zq.map (·.2))) w [] n f s=[⟨f,s,w⟩]:=by unfold viewT; rw [if_pos (by simpa using g2_5)]
  refine au 680690 ?_;refine TK.callF' Z Z Z Z Z (hy pre ⟨f,s,w⟩ K1 (by rw [<- hvt]; exact hpre) hJ) (.right (.right (.right (.all _)))) fun r4 K5 h6=>?_;rcases h6 with ⟨K3,rfl,⟨rfl,hJ3⟩ | ⟨rfl,hD⟩⟩
  ·refine au 0 ?_;refine bN (K':=(jz,_)::(jy,_)::(jn,_)::(jb,_)::(jw,_)::(g,_)::(mkK Zq++K3)) (lH (l₁:=(jb,_)::(jw,_)::(g,_)::(mkK Zq++K3)) (l₂:=[(jz,_),(jy,_),(jn,_)])) ?_;refine au 35250 ?_;refine bB Wz (_) ?_ (hs:=(.right (.all _)));exact ⟨K3,rfl,.inl ⟨rfl,by rw [hvt]; exact hJ3⟩⟩
  ·refine au 0 ?_;refine bN (K':=(jz,_)::(jy,_)::(jn,_)::(jb,_)::(jw,_)::(g,_)::(mkK Zq++K3)) (lH (l₁:=(jb,_)::(jw,_)::(g,_)::(mkK Zq++K3)) (l₂:=[(jz,_),(jy,_),(jn,_)])) ?_;refine au 35250 ?_;refine bB Wz (_) ?_ (hs:=(.right (.all _)));exact ⟨K3,rfl,.inr ⟨rfl,hD⟩⟩
 exact absurd (show ((n:Int)==(Zq.length:Int))=tt by have h1:=congrArg List.length hd; rw [List.length_drop,z_len] at h1; simp at h1; simp; omega) (by rw [Jz]; decide)
theorem vwNextS {main T} (hT:zt tp main T) {gm} {st wr:Int} {g lp jb jw jy jn w:Nat} {Zq:List (Nat×SkT)} (hb:StpOk (skB st wr Zq)) {J:List VwT->KV->Prop} {D:KV->Prop} {tot:List VwT} (hy:YieldG tp T gm ((jb,.cells (stpC st wr g Zq) 105 tt)::(jw,.cells [.v (.int .u64 (w:Nat))] 116 tt)::(g,skO Zq)::mkK Zq) vwA lp J D tot) {l:List SkT} {x:SkT} {n:Nat} (ih:∀ {f s:List Int} {pre:List VwT} {K1:KV},f.length=4->s.length=4->VwOk ⟨f,s,w⟩->pre++viewT (agreeT st (Zq.map (·.2))) w l (n+1) f s <+: tot->J pre K1 ->
  zr tp T gm 162 [.agg (vwC ⟨f,s,w⟩),za ((n+1:Nat):Int),.ptr jb 0,.ptr jy 0,.ptr jn 0] ((jy,.cells [.yl lp] 259 tt)::(jn,.cells [.fn 162 [] [.ptr jb 0,.ptr jy 0,.ptr jn 0]] 260 tt)::(jb,.cells (stpC st wr g Zq) 105 tt)::(jw,.cells [.v (.int .u64 (w:Nat))] 116 tt)::(g,skO Zq)::(mkK Zq++K1)) (fun r K'=>∃ K2,K'=(jy,.cells [.yl lp] 259 tt)::(jn,.cells [.fn 162 [] [.ptr jb 0,.ptr jy 0,.ptr jn 0]] 260 tt)::(jb,.cells (stpC st wr g Zq) 105 tt)::(jw,.cells [.v (.int .u64 (w:Nat))] 116 tt)::(g,skO Zq)::(mkK Zq++K2)/\((r=zC tt/\J (pre++viewT (agreeT st (Zq.map (·.2))) w l (n+1) f s) K2)\/(r=zC ff/\D K2)))) {f s:List Int} {pre:List VwT} {K1:KV} (hd:(Zq.map (·.2)).drop n=(x::l)) (hnl:n<=Zq.length) (hf:f.length=4) (hs:s.length=4) (hv:VwOk ⟨f,s,w⟩) (hpre:pre++viewT (agreeT st (Zq.map (·.2))) w (x::l) n f s <+: tot) (hJ:J pre K1) :
  zr tp T gm 162 [.agg (vwC ⟨f,s,w⟩),za (n:Int),.ptr jb 0,.ptr jy 0,.ptr jn 0] ((jy,.cells [.yl lp] 259 tt)::(jn,.cells [.fn 162 [] [.ptr jb 0,.ptr jy 0,.ptr jn 0]] 260 tt)::(jb,.cells (stpC st wr g Zq) 105 tt)::(jw,.cells [.v (.int .u64 (w:Nat))] 116 tt)::(g,skO Zq)::(mkK Zq++K1)) (fun r K'=>∃ K2,K'=(jy,.cells [.yl lp] 259 tt)::(jn,.cells [.fn 162 [] [.ptr jb 0,.ptr jy 0,.ptr jn 0]] 260 tt)::(jb,.cells (stpC st wr g Zq) 105 tt)::(jw,.cells [.v (.int .u64 (w:Nat))] 116 tt)::(g,skO Zq)::(mkK Zq++K2)/\((r=zC tt/\J (pre++viewT (agreeT st (Zq.map (·.2))) w (x::l) n f s) K2)\/(r=zC ff/\D K2))):=by
 refine zn 78 hT Tryz.func162 fun Y Wz=>?_;have hz:=zN hb;have hst:4<=st/\st<=24:=hb.st;refine au 21042 ?_;intro jz hjz;refine au 937280690670670142235 ?_;constructor<;>intro Jz
 ·have:=congrArg List.length hd; rw [List.length_drop,z_len,lZ] at this; simp at Jz; omega
 have hl7:=congrArg List.length hd;rw [List.length_drop,z_len,lZ] at hl7;have hnz:n<Zq.length:=by omega
 obtain ⟨p,hp⟩:∃ p,Zq[n]? =some p:=⟨_,lA hnz⟩;have hpx:p.2=x:=by
  have h1:=congrArg (fun l=>l[0]?) hd;simp only [List.getElem?_drop,Nat.add_zero,lQ,hp,Option.map_some,List.getElem?_cons_zero,Option.some.injEq] at h1;exact h1
 have hx:=zOk hb hp;rw [hpx] at hx;have hxf:=hx.fr;have hxs:=hx.se;subst hpx;refine au 360169067067042120 ?_;refine bH Z (zS Z Z ze.h mQ (sk_at hp Z)) ?_;refine au 220 ?_;intro jx hjx;refine au 67069067067014223170 ?_;refine bH Z (yH Z Z Z ArEl.h oQ oQ) ?_;refine TK.st Z Z Z (zE Z Z ze.h Z Z mQ (zjq oQ hf Z)) uQ (putN Z) ?_;refine au 1303 ?_;refine bA [1,2,3,4,5,8] ?_;refine bE (fun n1 Wq K=>∃ (a:Int) (s1:List Int) (pre1:List VwT) (K2:KV),n1=(p.2.fhi+1 - a).toNat/\(p.2.flo<=a/\a<=p.2.fhi+1)/\s1.length=4/\(∀ c,s1.set n c=s.set n c)/\J pre1 K2/\pre1++restA (agreeT st (Zq.map (·.2))) w p.2 l n f s a=pre++restA (agreeT st (Zq.map (·.2))) w p.2 l n f s p.2.flo/\Wq=.any::za (n:Int)::.ptr jb 0::.ptr jy 0::.ptr jn 0::.ptr jz 0::naL 2 (.ptr jx 0::naL 69 [])/\K=(jx,.cells (skC p) 95 tt)::(jz,.cells (vwC ⟨f.set n a,s1,w⟩) 118 tt)::(jy,.cells [.yl lp] 259 tt)::(jn,.cells [.fn 162 [] [.ptr jb 0,.ptr jy 0,.ptr jn 0]] 260 tt)::(jb,.cells (stpC st wr g Zq) 105 tt)::(jw,.cells [.v (.int .u64 (w:Nat))] 116 tt)::(g,skO Zq)::(mkK Zq++K2)) _ ⟨p.2.flo,s,pre,K1,rfl,oQ,hs,fun _=>rfl,hJ,rfl,rfl,rfl⟩ fun n1 Wq K hI Wj=>?_;obtain ⟨a,s1,pre1,K2,rfl,ha,hs1,hss,hJ1,hE,rfl,rfl⟩:=hI;refine bG nQ ?_;refine au 22 ?_;refine bL [0,1,2,3,4,5,6,7] ?_;refine ad [[1,1],[3,5]] ?_;refine bU [36,37] Z (yH Z Z Z ArEl.h oQ oQ) ?_;refine bT [38] Z (hq:=zj Z Z ze.h (mC _) (ziO oQ hf Z)) (h:=?_);refine ad [[3,8],[3,40],[10,41],[4,39,42],[14]] ?_;refine au 9 ?_;constructor<;>intro Jx
 ·have hah:a<=p.2.fhi:=of_decide_eq_true Jx;refine au 6706906706701421302120 ?_;refine bH Z (yH Z Z Z ArEl.h oQ oQ) ?_;refine TK.st Z Z Z (zE Z Z ze.h Z Z mQ (zg7 oQ hs1 Z)) uQ (putN Z) ?_;refine au 1303 ?_;refine bA [1,2,3,4,5,8] ?_;rw [hss p.2.slo];refine bE (fun n1 Wq K=>∃ (c:Int) (pre2:List VwT) (K3:KV),n1=(p.2.shi+1 - c).toNat/\(p.2.slo<=c/\c<=p.2.shi+1)/\J pre2 K3/\pre2++restC (agreeT st (Zq.map (·.2))) w p.2 l n f s a c=pre1++restC (agreeT st (Zq.map (·.2))) w p.2 l n f s a p.2.slo/\Wq=.any::za (n:Int)::.ptr jb 0::.ptr jy 0::.ptr jn 0::.ptr jz 0::naL 2 (.ptr jx 0::naL 69 [])/\K=(jx,.cells (skC p) 95 tt)::(jz,.cells (vwC ⟨f.set n a,s.set n c,w⟩) 118 tt)::(jy,.cells [.yl lp] 259 tt)::(jn,.cells [.fn 162 [] [.ptr jb 0,.ptr jy 0,.ptr jn 0]] 260 tt)::(jb,.cells (stpC st wr g Zq) 105 tt)::(jw,.cells [.v (.int .u64 (w:Nat))] 116 tt)::(g,skO Zq)::(mkK Zq++K3)) _ ⟨p.2.slo,pre1,K2,rfl,oQ,hJ1,rfl,rfl,rfl⟩ fun n1 Wq K hI Ww=>?_;obtain ⟨c,pre2,K3,rfl,hc,hJ2,hE2,rfl,rfl⟩:=hI;refine bG nQ ?_;refine au 22 ?_;refine bL [0,1,2,3,4,5,6,7] ?_;refine ad [[1,1],[3,5]] ?_;refine bU [57,58] Z (yH Z Z Z ArEl.h oQ oQ) ?_;refine bT [59] Z (hq:=zj Z Z ze.h (mC _) (zhm oQ hs Z)) (h:=?_);refine ad [[3,8],[3,61],[10,62],[4,60,63],[14]] ?_;refine au 9 ?_;constructor<;>intro hc2
  ·have hcs:c<=p.2.shi:=of_decide_eq_true hc2;refine au 2301680690421302120 ?_;refine bD Z Z Z Z (ih (f:=f.set n a) (s:=s.set n c) (pre:=pre2) (K1:=K3) (by rw [List.length_set,hf]) (by rw [List.length_set,hs]) (zpa hv oQ hf hs oQ oQ) (List.IsPrefix.trans ⟨restC (agreeT st (Zq.map (·.2))) w p.2 l n f s a (c+1)++restA (agreeT st (Zq.map (·.2))) w p.2 l n f s (a+1),by rw [List.append_assoc,<- List.append_assoc (viewT _ _ _ _ _ _),<- zhb hcs,<- List.append_assoc,hE2,List.append_assoc,<- zha hah,hE]; rfl⟩ hpre) hJ2) ?_ (hs:=(.right (.right (.all _))));rintro r1 K2 h3;rcases h3 with ⟨K4,rfl,⟨rfl,hJ4⟩ | ⟨rfl,hD⟩⟩
   ·refine au 0 ?_;refine bN (K':=(jx,_)::(jz,_)::(jy,_)::(jn,_)::(jb,_)::(jw,_)::(g,_)::(mkK Zq++K4)) (lH (l₁:=(jy,_)::(jn,_)::(jb,_)::(jw,_)::(g,_)::(mkK Zq++K4)) (l₂:=[(jx,_),(jz,_)])) ?_;refine au 670141401201903300 ?_;refine bH Z (yH Z Z Z ArEl.h oQ oQ) ?_;refine bH Z (zj Z Z ze.h mQ (zhm oQ hs Z)) ?_;refine au 670230 ?_;refine bH Z (yH Z Z Z ArEl.h oQ oQ) ?_;refine TK.st Z Z Z (zE Z Z ze.h Z Z mQ (zm7 oQ hs Z)) uQ (putN Z) ?_;refine au 3 ?_;refine bA [1,2,3,4,5,8] ?_;refine bC (((jx,_)::(jz,_)::(jy,_)::(jn,_)::(jb,_)::(jw,_)::(g,_)::(mkK Zq++K4))) ?_;exact Ww _ _ _ oQ ⟨c+1,_,K4,rfl,oQ,hJ4,by rw [<- hE2,zhb hcs,List.append_assoc],rfl,rfl⟩
   ·refine au 0 ?_;refine bN (K':=(jx,_)::(jz,_)::(jy,_)::(jn,_)::(jb,_)::(jw,_)::(g,_)::(mkK Zq++K4)) (lH (l₁:=(jy,_)::(jn,_)::(jb,_)::(jw,_)::(g,_)::(mkK Zq++K4)) (l₂:=[(jx,_),(jz,_)])) ?_;refine au 35421803300 ?_;refine bB Wz (_) ?_ (hs:=(.right (.right (.all _))));exact ⟨K4,rfl,.inr ⟨rfl,hD⟩⟩
  refine au 67014140160 ?_;refine bH Z (yH Z Z Z ArEl.h oQ oQ) ?_;refine bH Z (zj Z Z ze.h mQ (ziO oQ hf Z)) ?_;refine au 670230 ?_;refine bH Z (yH Z Z Z ArEl.h oQ oQ) ?_;refine TK.st Z Z Z (zE Z Z ze.h Z Z mQ (zm6 oQ hf Z)) uQ (putN Z) ?_;refine au 3 ?_;refine bA [1,2,3,4,5,8] ?_;refine bC (((jx,_)::(jz,_)::(jy,_)::(jn,_)::(jb,_)::(jw,_)::(g,_)::(mkK Zq++K3))) ?_;exact Wj _ _ _ oQ ⟨a+1,s.set n c,pre2,K3,rfl,oQ,by rw [List.length_set,hs],fun _=>set_set,hJ2,by rw [<- hE,zha hah,<- List.append_assoc,<- hE2,zjD (of_decide_eq_false hc2),lR],rfl,rfl⟩
 refine au 3542160 ?_;refine bB Wz (_) ?_ (hs:=(.right (.right (.all _))));exact ⟨K2,rfl,.inl ⟨rfl,by rw [show viewT (agreeT st (Zq.map (·.2))) w (p.2::l) n f s=restA (agreeT st (Zq.map (·.2))) w p.2 l n f s p.2.flo from rfl,<- hE,zjC (of_decide_eq_false Jx),lR]; exact hJ1⟩⟩
theorem kY {α β:Type} {f:α->List β} {n:Nat}:∀ {l:List α},(∀ x∈l,(f x).length<=n)->(l.flatMap f).length<=l.length*n
 | [],_=>by simp
 | x::l,h=>by
  rw [List.flatMap_cons,lF,lZ,Nat.succ_mul];have h1:=h x sQ;have h2:=kY (l:=l) fun y hy=>h y (by simp [hy]);omega
theorem zeb {main T} (hT:zt tp main T) {gm} {st wr:Int} {g lp jb jw jy jn w:Nat} {Zq:List (Nat×SkT)} (hb:StpOk (skB st wr Zq)) {J:List VwT->KV->Prop} {D:KV->Prop} {tot:List VwT} (hy:YieldG tp T gm ((jb,.cells (stpC st wr g Zq) 105 tt)::(jw,.cells [.v (.int .u64 (w:Nat))] 116 tt)::(g,skO Zq)::mkK Zq) vwA lp J D tot):∀ (l:List SkT) (n:Nat) (f s:List Int) (pre:List VwT) (K1:KV),(Zq.map (·.2)).drop n=l->n<=Zq.length->f.length=4->s.length=4->VwOk ⟨f,s,w⟩->pre++viewT (agreeT st (Zq.map (·.2))) w l n f s <+: tot->J pre K1 ->
  zr tp T gm 162 [.agg (vwC ⟨f,s,w⟩),za (n:Int),.ptr jb 0,.ptr jy 0,.ptr jn 0] ((jy,.cells [.yl lp] 259 tt)::(jn,.cells [.fn 162 [] [.ptr jb 0,.ptr jy 0,.ptr jn 0]] 260 tt)::(jb,.cells (stpC st wr g Zq) 105 tt)::(jw,.cells [.v (.int .u64 (w:Nat))] 116 tt)::(g,skO Zq)::(mkK Zq++K1)) (fun r K'=>∃ K2,K'=(jy,.cells [.yl lp] 259 tt)::(jn,.cells [.fn 162 [] [.ptr jb 0,.ptr jy 0,.ptr jn 0]] 260 tt)::(jb,.cells (stpC st wr g Zq) 105 tt)::(jw,.cells [.v (.int .u64 (w:Nat))] 116 tt)::(g,skO Zq)::(mkK Zq++K2)/\((r=zC tt/\J (pre++viewT (agreeT st (Zq.map (·.2))) w l n f s) K2)\/(r=zC ff/\D K2)))
 | [],n,f,s,pre,K1,h1,h2,h3,h4,h5,h6,h7=>vwNext0 hT hb hy h1 h2 h3 h4 h5 h6 h7
 | x::l,n,f,s,pre,K1,h1,h2,h3,h4,h5,h6,h7=>by
  have hl:=congrArg List.length h1;rw [List.length_drop,z_len,lZ] at hl;have hd:(Zq.map (·.2)).drop (n+1)=l:=by
   have:=congrArg (List.drop 1) h1;rw [List.drop_drop] at this;exact this
  exact vwNextS hT hb hy (fun {f s pre K1} q1 q2 q3 q4 q5=>zeb hT hb hy l (n+1) f s pre K1 hd oQ q1 q2 q3 q4 q5) h1 h2 h3 h4 h5 h6 h7
theorem znH {w:Nat} (h:w<=1000):VwOk ⟨zero4,zero4,w⟩:=by
 have h0:∀ k,zero4.getD k 0=0:=fun k=>by
  match k with
  | 0=>rfl
  | 1=>rfl
  | 2=>rfl
  | 3=>rfl
  | k+4=>rfl
 exact ⟨fun k=>by show 0<=zero4.getD k 0/\_; rw [h0]; exact ⟨by decide,by decide⟩,fun k=>by show -100<=zero4.getD k 0/\_; rw [h0]; exact ⟨by decide,by decide⟩,h⟩
theorem zfV {ag:VwT->Bool} {w:Nat} {st:Int}:∀ (l:List SkT) (n:Nat) (f s:List Int),(∀ x∈l,SkOk st x)->(viewT ag w l n f s).length<=9 ^ l.length
 | [],n,f,s,_=>by
  unfold viewT;split <;> simp
 | x::l,n,f,s,h=>by
  have hx:=h x sQ;have h1:=hx.fr;have h2:=hx.se;unfold viewT;have k1:(numsT x.flo x.fhi).length<=3:=by unfold numsT; rw [lJ,List.length_range]; omega
  have k2:(numsT x.slo x.shi).length<=3:=by unfold numsT; rw [lJ,List.length_range]; omega
  refine mT (kY (n:=3*9 ^ l.length) fun a _=>mT (kY (n:=9 ^ l.length) fun c _=>zfV l (n+1) _ _ fun y hy=>h y (lL _ hy)) (Nat.mul_le_mul_right _ k2)) ?_;refine mT (Nat.mul_le_mul_right _ k1) ?_;rw [lZ,Nat.pow_succ,<- Nat.mul_assoc,Nat.mul_comm (9 ^ l.length) 9];exact mL _
theorem zea {st wr:Int} {Zq:List (Nat×SkT)} (hb:StpOk (skB st wr Zq)) (w:Nat):(viewsT (skB st wr Zq) w).length<=6561:=by
 have hz:=zN hb;refine mT (zfV (st:=st) (Zq.map (·.2)) 0 zero4 zero4 (show ∀ x∈Zq.map (·.2),SkOk st x from hb.sk)) ?_;rw [z_len];exact mT (Nat.pow_le_pow_right dQ hz.2) dQ
theorem zjf:∀ u:Nat,u<16->0<u->onesT 4 u=1+onesT 4 (u &&& (u - 1))/\(u &&& (u - 1))<u:=by decide
theorem zmX:∀ u:Nat,u<16->onesT 4 u<=4:=by decide
instance:BlOf tp 118 [(0,4),(4,4),(8,1)]:={}
instance:TyZ tp 118 [.int .i64 0,.int .i64 0,.int .i64 0,.int .i64 0,.int .i64 0,.int .i64 0,.int .i64 0,.int .i64 0,.int .u64 0]:={}
instance:TyZA tp 260 [.v (.nilFunc)]:={}
theorem zgs {main T} (hT:zt tp main T) {gm} {st wr:Int} {g lp jb jw w:Nat} {Zq:List (Nat×SkT)} (hb:StpOk (skB st wr Zq)) (hw:w<=1000) {J:List VwT->KV->Prop} {D:KV->Prop} {K1:KV} (hy:YieldG tp T gm ((jb,.cells (stpC st wr g Zq) 105 tt)::(jw,.cells [.v (.int .u64 (w:Nat))] 116 tt)::(g,skO Zq)::mkK Zq) vwA lp J D (viewsT (skB st wr Zq) w)) (hJ:J [] K1) :
  zr tp T gm 161 [.yl lp,.ptr jb 0,.ptr jw 0] (((jb,.cells (stpC st wr g Zq) 105 tt)::(jw,.cells [.v (.int .u64 (w:Nat))] 116 tt)::(g,skO Zq)::mkK Zq)++K1) (fun _ K'=>∃ K2,K'=((jb,.cells (stpC st wr g Zq) 105 tt)::(jw,.cells [.v (.int .u64 (w:Nat))] 116 tt)::(g,skO Zq)::mkK Zq)++K2/\(J (viewsT (skB st wr Zq) w) K2\/D K2)):=by
 refine zn 10 hT Tryz.func161 fun Y Wz=>?_;refine au 21042 ?_;intro jy hjy;refine au 220423 ?_;intro jn hjn;refine au 3170320423 ?_;refine bN (K':=(jy,_)::(jn,_)::(jb,_)::(jw,_)::(g,_)::(mkK Zq++K1)) (List.Perm.swap _ _ _) ?_;refine au 4606906904 ?_;refine bD Z Z Z Z (zeb hT hb hy (Zq.map (·.2)) 0 zero4 zero4 [] K1 Z (mN _) Z Z (znH hw) (List.prefix_refl _) hJ) ?_ (hs:=(.all _));rintro r1 K2 h3;rcases h3 with ⟨K3,rfl,⟨rfl,hJ3⟩ | ⟨rfl,hD⟩⟩
 ·refine au 0 ?_;refine bN (K':=(jy,_)::(jn,_)::(jb,_)::(jw,_)::(g,_)::(mkK Zq++K3)) (by rw [lR]) ?_;refine au 3 ?_;refine TK.rt0 Wz (_) ?_ (hs:=(.right (.right (.all _))));exact ⟨K3,rfl,.inl hJ3⟩
 ·refine au 0 ?_;refine bN (K':=(jy,_)::(jn,_)::(jb,_)::(jw,_)::(g,_)::(mkK Zq++K3)) (by rw [lR]) ?_;refine au 3 ?_;refine TK.rt0 Wz (_) ?_ (hs:=(.right (.right (.all _))));exact ⟨K3,rfl,.inr hD⟩
theorem zii {main T} (hT:zt tp main T) {gm} {st wr:Int} {g:Nat} {Zq:List (Nat×SkT)} {w:Nat} :
  zr tp T gm 121 [.agg (stpC st wr g Zq),.v (.int .u64 (w:Nat))] [] (fun r K'=>∃ jb jw,r=.fn 161 [] [.ptr jb 0,.ptr jw 0]/\K'=[(jb,.cells (stpC st wr g Zq) 105 tt),(jw,.cells [.v (.int .u64 (w:Nat))] 116 tt)]):=by
 refine zn 6 hT Tryz.func121 fun Y Wz=>?_;refine au 21042 ?_;intro jb hjb;refine au 210 ?_;intro jw hjw;refine au 353204235 ?_;refine bB Wz [(jb,_),(jw,_)] ?_;exact ⟨jb,jw,rfl,rfl⟩
theorem zjS {main T} (hT:zt tp main T) {gm} {w:Nat} (hw:w<16) :
  zr tp T gm 119 [.v (.int .u64 (w:Nat))] [] (fun r K'=>r=za (onesT 4 w:Nat)/\K'=[]):=by
 refine zn 13 hT Tryz.func119 fun Y Wz=>?_;refine au 130235423542 ?_;refine bA [0,3] ?_;refine bE (fun n1 Wq K=>∃ (u c:Nat),u=n1/\u<16/\c+onesT 4 u=onesT 4 w/\Wq=.v (.int .u64 (u:Nat))::naL 2 (za (c:Nat)::naL 9 [])/\K=[]) w ⟨w,0,rfl,hw,oQ,rfl,rfl⟩ fun n1 Wq K hI Wj=>?_;obtain ⟨u,c,rfl,hu,hE,rfl,rfl⟩:=hI;refine bG nQ ?_;refine au 9371422 ?_;constructor<;>intro Jz
 ·have hu1:0<u:=by simp at Jz; omega
  have hs:=zjf u hu hu1;have hcl:=zmX w hw;have hcu:((u:Int) - 1)=((u - 1:Nat):Int):=by omega
  refine au 11414035230141302120 ?_;refine bH Z (zoR Z Z Z oQ) ?_;rw [hcu];refine bH Z (zjw Z Z Z oQ oQ) ?_;refine au 35 ?_;refine bA [0,3] ?_;exact Wj _ _ _ hs.2 ⟨u &&& (u - 1),c+1,rfl,oQ,oQ,rfl,rfl⟩
 have hu0:u=0:=by simp at Jz; omega
 refine au 35142160 ?_;refine TK.rta Wz ?_;exact ⟨by rw [<- hE,hu0] <;> rfl,rfl⟩
theorem zlX {st wr:Int} {Zq:List (Nat×SkT)} (hb:StpOk (skB st wr Zq)) {n:Nat} (hn:n<=16):(allI (skB st wr Zq) n).length<=104976:=by
 unfold allI;refine mT (kY (n:=6561) fun w _=>?_) ?_
 ·split
  ·exact zea hb w
  ·exact mN _
 ·rw [List.length_range]; omega
theorem pow4 {n:Nat} (h:n<=4):2 ^ n<=16:=mT (Nat.pow_le_pow_right dQ h) dQ
theorem uG:∀ {L K:KV},K.Perm L->Split K L []
 | [],K,h=>by rw [h.eq_nil]; exact .none []
 | x::L,K,h=>by
  obtain ⟨R,hR⟩:=ve (h.symm.subset (List.mem_cons_self (a:=x) (l:=L)));exact .rem hR (uG (List.Perm.cons_inv (hR.perm.symm.trans h)))
instance:ApOf tp 106 118 9 72:={}
instance:zq tp 106 118 9:={}
instance:ze tp 106 ff 1:={}
instance:TyZA tp 118 [.v (.int .i64 0),.v (.int .i64 0),.v (.int .i64 0),.v (.int .i64 0),.v (.int .i64 0),.v (.int .i64 0),.v (.int .i64 0),.v (.int .i64 0),.v (.int .u64 0)]:={}
theorem zgk {main T} (hT:zt tp main T) {gm} {st wr:Int} {g jb jw j w:Nat} {Zq:List (Nat×SkT)} {l:List VwT} (hb:StpOk (skB st wr Zq)) (hw:w<=1000) (hl:l.length<=200000) :
  zr tp T gm 120 [.row j l.length,.fn 161 [] [.ptr jb 0,.ptr jw 0]] ((j,.row (l.flatMap vwC) 118 9)::((jb,.cells (stpC st wr g Zq) 105 tt)::(jw,.cells [.v (.int .u64 (w:Nat))] 116 tt)::(g,skO Zq)::mkK Zq)) (fun r K'=>∃ j3,r=.row j3 (l++viewsT (skB st wr Zq) w).length/\K'=(j3,.row ((l++viewsT (skB st wr Zq) w).flatMap vwC) 118 9)::((jb,.cells (stpC st wr g Zq) 105 tt)::(jw,.cells [.v (.int .u64 (w:Nat))] 116 tt)::(g,skO Zq)::mkK Zq)):=by
 refine vx 13 hT Tryz.func120 fun Y hro Wz=>?_;refine au 21042 ?_;intro js hjs;refine au 1303142235 ?_;refine TK.rangeG hT (Fx:=((jb,.cells (stpC st wr g Zq) 105 tt)::(jw,.cells [.v (.int .u64 (w:Nat))] 116 tt)::(g,skO Zq)::mkK Zq)) (ar:=vwA) (tot:=viewsT (skB st wr Zq) w) (J:=fun pre K1=>∃ j3,K1=[(js,.cells [.row j3 (l++pre).length] 106 tt),(j3,.row ((l++pre).flatMap vwC) 118 9)]) (D:=fun _ _=>False) rfl hro rfl Cal.h (uG (lH (l₁:=[(js,_),(j,_)]))) ⟨j,by rw [lR] <;> rfl⟩ (fun l J' D' K1 hy hJ'=>zgs hT hb hw hy hJ') (fun Y' lq lo lb pre y K1 hbegin Qj hout hpre hJ=>?_) (fun d K2 hJ=>?_) (fun d cc K2 hD=>?_)
 ·obtain ⟨j3,rfl⟩:=hJ;refine bN (K':=(js,_)::(j3,_)::(lq,_)::(jb,_)::(jw,_)::(g,_)::mkK Zq) (lH (l₁:=(lq,_)::(jb,_)::(jw,_)::(g,_)::mkK Zq) (l₂:=[(js,_),(j3,_)])) ?_;have hpl:(l++pre).length<=300000:=by
   have h1:=hpre.length_le;have h2:=zea hb w;rw [lF] at h1 ⊢;omega
  simp only [cA];refine au 2204 ?_;intro jt hjt;refine au 3170 ?_;refine hbegin _ _ _ _ _ uQ ?_;refine au 6806904130 ?_;refine TK.newR Z Z Z (zu (l:=[_,_,_,_,_,_,_,_,_]) Z zq.h TyZ.h dQ dQ Z) (fun _=>zx rfl tQ) fun j1 hj1=>?_;refine TK.appR Z Z Z (a_app Z ApOf.h Z mQ (yw vwC 9 (fun _=>rfl) _) rfl (yq (ln:=[_,_,_,_,_,_,_,_,_]) mQ dQ sQ rfl) oQ rfl (by unfold maxLen; omega) oQ) (fun _=>uQ) (fun _=>zx rfl tQ) fun j2=>?_;refine au 1403170 ?_;have e1:(l++(pre++[y])).length=(l++pre).length+1:=by simp only [lF,lZ,List.length_nil]; omega
  have e2:(l++(pre++[y])).flatMap vwC=(l++pre).flatMap vwC++vwC y:=by simp only [List.flatMap_append,List.flatMap_cons,List.flatMap_nil,lR,List.append_assoc]
  refine bC ((js,_)::(j2,_)::(lq,_)::(jb,_)::(jw,_)::(g,_)::mkK Zq) ?_;exact Qj _ _ [(js,_),(j2,_)] [] (uG (lH (l₁:=[(js,_),(j2,_)]))) ⟨j2,by rw [e1,e2] <;> rfl⟩
 ·obtain ⟨j3,rfl⟩:=hJ;simp only [List.cons_append,lC,lR];refine bN (K':=(js,_)::(j3,_)::(d,_)::(jb,_)::(jw,_)::(g,_)::mkK Zq) (lH (l₁:=(d,_)::(jb,_)::(jw,_)::(g,_)::mkK Zq) (l₂:=[(js,_),(j3,_)])) ?_;refine au 3569042140 ?_;refine TK.leave (.ret _) fun A hA=>Wz _ _ _ _ (((j3,_)::((jb,_)::(jw,_)::(g,_)::mkK Zq))) (((j3,_)::((jb,_)::(jw,_)::(g,_)::mkK Zq))) _ _ _ (.inr rfl) vQ sQ sQ vQ (yQ (z5 Z)) ?_ A hA;exact ⟨j3,rfl,rfl⟩
 ·exact hD.elim
instance:BlOf tp 108 [(0,3),(3,1)]:={}
instance:zl tp 108 0 0 tt 3:={}
instance:zl tp 108 1 3 ff 1:={}
instance:ze tp 108 tt 4:={}
instance:TyZ tp 108 [.int .i64 0,.int .i64 0,.slice none 0 0,.slice none 0 0]:={}
instance:TyZA tp 108 [.v (.int .i64 0),.v (.int .i64 0),.v (.slice none 0 0),.v (.slice none 0 0)]:={}
instance:Und tp 106 (.slice 118):={}
theorem zfM {main T} (hT:zt tp main T) {gm} {st wr:Int} {g:Nat} {Zq:List (Nat×SkT)} (hb:StpOk (skB st wr Zq)) :
  zr tp T gm 96 [.agg (stpC st wr g Zq)] ((g,skO Zq)::mkK Zq) (fun r K'=>∃ jo,r=.row jo (allT (skB st wr Zq)).length/\K'=(jo,.row ((allT (skB st wr Zq)).flatMap vwC) 118 9)::(g,skO Zq)::mkK Zq):=by
 refine zn 26 hT Tryz.func96 fun Y Wz=>?_;refine au 0 ?_;have hz:=zN hb;have hwr:0<=wr/\wr<=2:=hb.wr;have hpw:=pow4 hz.2;refine au 21042 ?_;intro jb hjb;refine au 22354235 ?_;refine TK.virt 3 118 9 Z fun jo0 hjo0=>?_;refine au 2806906706704 ?_;refine bH Z (zoP Z Z Z oQ) ?_;refine au 13031 ?_;refine bA [1,3,9,10] ?_;refine bC ((jo0,_)::(jb,_)::(g,_)::mkK Zq) ?_;refine bE (fun n1 Wq K=>∃ (i jo:Nat),n1=2 ^ Zq.length - i/\i<=2 ^ Zq.length/\Wq=.any::.ptr jb 0::.any::.row jo (allI (skB st wr Zq) i).length::naL 5 (.v (.int .u64 ((2 ^ Zq.length:Nat):Int))::.v (.int .u64 (i:Nat))::naL 15 [])/\K=(jo,.row ((allI (skB st wr Zq) i).flatMap vwC) 118 9)::(jb,.cells (stpC st wr g Zq) 105 tt)::(g,skO Zq)::mkK Zq) (2 ^ Zq.length) ⟨0,jo0,rfl,mN _,rfl,rfl⟩ fun n1 Wq K hI Wj=>?_;obtain ⟨i,jo,rfl,hi,rfl,rfl⟩:=hI;have hal:=zlX hb (n:=i) oQ;refine bG nQ ?_;refine au 923742 ?_;constructor<;>intro Jz
 ·have Qb:i<2 ^ Zq.length:=by simp at Jz; exact_mod_cast Jz
  refine au 2351421302120 ?_;refine TK.dr [0,2,3,4,1,5] [0,1,2,3,4,5] ?_;refine ad [[1,4],[3,1],[3,15],[10,16]] ?_;refine TD.clE (Wx:=[_,_,_]) [13] Z Z Z Z Z (zjS hT oQ) ?_;refine ad [[4,14,17],[14]] ?_;refine au 9 ?_;constructor<;>intro Jx
  ·refine au 168014 ?_;refine bD Z Z Z Z (zii hT (st:=st) (wr:=wr) (g:=g) (Zq:=Zq) (w:=i)) ?_;rintro r4 K5 ⟨jb2,jw,rfl,rfl⟩;refine au 0 ?_;refine bD Z Z Z Z (zgk hT hb (w:=i) (l:=allI (skB st wr Zq) i) oQ oQ) ?_;rintro r7 K8 ⟨j3,rfl,rfl⟩;refine au 0 ?_;refine bN (K':=(jb,_)::(j3,_)::(jb2,_)::(jw,_)::(g,_)::mkK Zq) (lH (l₁:=(j3,_)::(jb2,_)::(jw,_)::(g,_)::mkK Zq) (l₂:=[(jb,_)])) ?_;refine au 414035 ?_;refine bH Z (zjt Z Z Z oQ) ?_;refine au 31 ?_;refine bA [1,3,9,10] ?_;refine bC (((j3,_)::(jb,_)::(g,_)::mkK Zq)) ?_;have e1:allI (skB st wr Zq) (i+1)=allI (skB st wr Zq) i++viewsT (skB st wr Zq) i:=by rw [ziq,if_pos (show (onesT 4 i:Int)<=(skB st wr Zq).wrong from of_decide_eq_true Jx)]
   exact Wj _ _ _ oQ ⟨i+1,j3,rfl,oQ,by rw [e1] <;> rfl,by rw [e1] <;> rfl⟩
  refine au 4140120 ?_;refine bH Z (zjt Z Z Z oQ) ?_;refine au 31 ?_;refine bA [1,3,9,10] ?_;refine bC (((jo,_)::(jb,_)::(g,_)::mkK Zq)) ?_;have e1:allI (skB st wr Zq) (i+1)=allI (skB st wr Zq) i:=by rw [ziq,if_neg (show ¬ (onesT 4 i:Int)<=(skB st wr Zq).wrong from of_decide_eq_false Jx),lR]
  exact Wj _ _ _ oQ ⟨i+1,jo,rfl,oQ,by rw [e1] <;> rfl,by rw [e1] <;> rfl⟩
 have hie0:2 ^ Zq.length<=i:=by simp at Jz; exact_mod_cast Jz
 have hie:2 ^ Zq.length=i:=by omega
 refine au 35142160 ?_;refine bB Wz (((jo,_)::(g,_)::mkK Zq)) ?_;exact ⟨jo,by unfold allT; rw [show (skB st wr Zq).sks.length=Zq.length from z_len Zq,hie] <;> rfl,by unfold allT; rw [show (skB st wr Zq).sks.length=Zq.length from z_len Zq,hie] <;> rfl⟩
theorem zgj {main T} (hT:zt tp main T) {gm} {st wr:Int} {g:Nat} {Zq:List (Nat×SkT)} :
  zr tp T gm 124 [.agg (stpC st wr g Zq)] [] (fun r K'=>r=zC tt/\K'=[]):=by
 refine zn 3 hT Tryz.func124 fun Y Wz=>?_;refine au 21042 ?_;intro j1 hj1;refine au 354235 ?_;refine bB Wz [] ?_;exact ⟨rfl,rfl⟩
theorem zjP {main:Bool} {T:gG->Hp->Prop} (hT:zt tp main T)  {st wr:Int} {g:Nat} {Zq:List (Nat×SkT)} (hb:StpOk (skB st wr Zq)) :
  zr tp T gmR 46 [.agg (stpC st wr g Zq),.fn 124 [] []] ((1,spChecksG)::(g,skO Zq)::mkK Zq) (fun r K'=>(allT (skB st wr Zq)=[]/\r=.tup [.agg [za 0,za 0,.v (.slice none 0 0),.v (.slice none 0 0)],za 9]/\K'=(1,spChecksG)::(g,skO Zq)::mkK Zq)\/(allT (skB st wr Zq)≠[]/\∃ ja,r=.tup [.agg (stpC st wr g Zq++[.row ja (allT (skB st wr Zq)).length]),za 0]/\K'=(ja,.row ((allT (skB st wr Zq)).flatMap vwC) 118 9)::(1,spChecksG)::(g,skO Zq)::mkK Zq)):=by
 refine zn 33 hT Tryz.func46 fun Y Wz=>?_;refine au 21042 ?_;intro jb hjb;refine au 220 ?_;intro jr hjr;refine au 68042235 ?_;refine TK.clE Z Z Z Z (zau hT hb) ?_;refine au 0 ?_;refine bN (K':=(jr,_)::(jb,_)::(1,_)::(g,_)::mkK Zq) (lH (l₁:=(1,_)::(g,_)::mkK Zq) (l₂:=[(jr,_),(jb,_)])) ?_;refine au 93714235 ?_;constructor<;>intro Jz
 ·exact absurd Jz dQ
 refine au 22041040068042120 ?_;intro jk hjk;refine au 68067014223170 ?_;refine TK.clE Z Z Z Z (zgj hT (st:=st) (wr:=wr) (g:=g) (Zq:=Zq)) ?_;refine au 93300 ?_;constructor<;>intro Jx
 ·exact absurd Jx dQ
 refine au 680670422120 ?_;refine bD Z Z Z Z (zfM hT hb) ?_;rintro r7 K8 ⟨ja,rfl,rfl⟩;refine au 0 ?_;refine bN (K':=(jk,_)::(jr,_)::(jb,_)::(1,_)::(ja,_)::(g,_)::mkK Zq) (lH (l₁:=(ja,_)::(g,_)::mkK Zq) (l₂:=[(jk,_),(jr,_),(jb,_),(1,_)])) ?_;refine au 937280690670423170670 ?_;constructor<;>intro hc2
 ·refine au 3517041042 ?_;refine bB Wz (((1,_)::(g,_)::mkK Zq)) ?_;exact .inl ⟨lK (by simp at hc2; simpa using hc2),rfl,rfl⟩
 refine au 3517068042120 ?_;refine bB Wz (((ja,_)::(1,_)::(g,_)::mkK Zq)) ?_;exact .inr ⟨fun e=>by rw [e] at hc2; simp at hc2,ja,rfl,rfl⟩
theorem zcN:∀ (A B:KV),Split (A++B) B A
 | [],B=>.all B
 | x::A,B=>.right (zcN A B)
theorem zec:∀ (l:List SkT) {st n m:Int},(∀ x∈l,SkOk st x)->n<=m->waysI l n<=waysI l m
 | [],_,_,_,_,h=>h
 | x::l,st,n,m,hl,h=>zec l (st:=st) (fun y hy=>hl y (lL _ hy)) (Int.mul_le_mul_of_nonneg_right h (by have:=uk (hl x sQ); omega))
theorem zcR {v:Int}:∀ {l:List SkT} {i:Nat} {st:Int},(∀ x∈l,SkOk st x)->∀ (n m:Int),1<=n->n<=m->waysI (l.modify i fun x=>levelX x v) n<=waysI l m
 | [],i,st,_,n,m,_,h=>by cases i <;> exact h
 | x::l,0,st,hl,n,m,h1,h=>by
  refine zec l (st:=st) (n:=n*waysX (levelX x v)) (m:=m*waysX x) (fun y hy=>hl y (lL _ hy)) ?_;have hx:=hl x sQ;have hf:=hx.fr;have hs:=hx.se;have h3:waysX (levelX x v)<=waysX x:=by
   unfold waysX;refine Int.mul_le_mul_of_nonneg_left ?_ (by show 0<=x.fhi - x.flo+1; omega);show v - v+1<=_;omega
  have hb:=uk hx;exact Int.le_trans (Int.mul_le_mul_of_nonneg_left h3 oQ) (Int.mul_le_mul_of_nonneg_right h oQ)
 | x::l,i+1,st,hl,n,m,h1,h=>by
  have hb:=uk (hl x sQ);refine zcR (l:=l) (i:=i) (st:=st) (fun y hy=>hl y (lL _ hy)) (n*waysX x) (m*waysX x) ?_ (Int.mul_le_mul_of_nonneg_right h oQ);have:=Int.mul_le_mul h1 hb.1 dQ oQ;simpa using this
theorem znG {Zq:List (Nat×SkT)} {i:Nat} {p:Nat×SkT} (h:Zq[i]? =some p) (v:Int):(Zq.set i (p.1,levelX p.2 v)).map (·.2)=(Zq.map (·.2)).modify i fun x=>levelX x v:=by
 refine List.ext_getElem? fun k=>?_;rw [lQ,lX,List.getElem?_modify,lQ];by_cases e:i=k
 ·subst e;rw [if_pos rfl,if_pos (lD.1 h).1,h];simp
 ·rw [if_neg e];cases Zq[k]? with
  | none=>rfl
  | some q=>simp [e]
theorem zi3 {st wr:Int} {Zq:List (Nat×SkT)} (hb:StpOk (skB st wr Zq)) {i:Nat} {v:Int} (hv:∀ x,(Zq.map (·.2))[i]? =some x->x.slo<=v/\v<=x.shi):StpOk (levelT (skB st wr Zq) i v):=by
 have Wb:((Zq.map (·.2)).modify i fun x=>levelX x v).length=(Zq.map (·.2)).length:=List.length_modify ..;refine ⟨hb.st,hb.wr,?_,fun y hy=>?_,?_,?_⟩
 ·show 1<=((Zq.map (·.2)).modify i fun x=>levelX x v).length/\((Zq.map (·.2)).modify i fun x=>levelX x v).length<=4;rw [Wb]; exact hb.ns
 ·obtain ⟨k,hk⟩:=List.getElem?_of_mem (show y∈(levelT (skB st wr Zq) i v).sks from hy);obtain ⟨x,hx,e⟩:=zdN hk;have ho:=hb.sk x (lN hx);by_cases hik:i=k
  ·subst hik;rw [if_pos rfl] at e;subst e;have h1:=ho.se;have h2:=hv x hx;exact ⟨ho.nam,ho.fr,ho.wd,⟨by show -3<=v; omega,Int.le_refl _,by show v<=3; omega,by show v - v<3; omega⟩,ho.nm,ho.mks,ho.two⟩
  ·rw [if_neg hik] at e;subst e;exact ho
 ·have h3:(Zq.map (·.2)).Pairwise fun x y=>x.name.toList≠y.name.toList:=hb.two;show ((Zq.map (·.2)).modify i fun x=>levelX x v).Pairwise fun x y=>x.name.toList≠y.name.toList;rw [List.pairwise_iff_getElem] at h3 ⊢;intro a c ha hc hac;rw [Wb] at ha hc;have:=h3 a c ha hc hac;rw [List.getElem_modify,List.getElem_modify];split <;> split <;> exact this
 ·show waysI ((Zq.map (·.2)).modify i fun x=>levelX x v) 1<=200;exact Int.le_trans (zcR hb.sk 1 1 dQ (Int.le_refl _)) hb.wy
instance:BlOf tp 29 [(0,1),(1,1),(2,1)]:={}
instance:TyZ tp 29 [.int .i64 0,.int .i64 0,.slice none 0 0]:={}
theorem zgn {main T} (hT:zt tp main T) {gm} {j off:Nat} :
  zr tp T gm 52 [.ptr j off] [] (fun r K'=>r=.ptr j (off+4)/\K'=[]):=by
 refine zn 6 hT Tryz.func52 fun Y Wz=>?_;refine au 1423542 ?_;refine bH Z (yD Z Z) ?_;refine au 35670 ?_;refine TK.rta Wz ?_;exact ⟨rfl,rfl⟩
theorem zd5 {main T} (hT:zt tp main T) {gm} {st wr:Int} {g:Nat} {Zq:List (Nat×SkT)} {n:Int} (hl:Zq.length<=1000) :
  zr tp T gm 48 [.agg (stpC st wr g Zq),za n] [] (fun r K'=>r=zC (decide (0<=n)&&decide (n<=(Zq.length:Int) - 1))/\K'=[]):=by
 refine zn 12 hT Tryz.func48 fun Y Wz=>?_;refine au 21042 ?_;intro jb hjb;refine au 24028069067067014235 ?_;refine TK.clE Z Z Z Z (kW hT) ?_;refine au 35 ?_;refine bB Wz [] ?_;exact ⟨rfl,rfl⟩
theorem zgi {main:Bool} {T:gG->Hp->Prop} (hT:zt tp main T)  {st wr:Int} {g:Nat} {Zq:List (Nat×SkT)} (hb:StpOk (skB st wr Zq)) :
  zr tp T gmR 99 [.agg (stpC st wr g Zq)] ((1,spChecksG)::(g,skO Zq)::mkK Zq) (fun r K'=>((allT (skB st wr Zq)=[]/\r=.tup [.agg [za 0,za 0,.v (.slice none 0 0)],za 9])\/(allT (skB st wr Zq)≠[]/\r=.tup [.agg (stpC st wr g Zq),za 0]))/\K'=(1,spChecksG)::(g,skO Zq)::mkK Zq):=by
 refine zn 16 hT Tryz.func99 fun Y Wz=>?_;refine au 21042 ?_;intro jb hjb;refine au 220 ?_;intro jr hjr;refine au 68042235 ?_;refine bD Z Z Z Z (zjP hT hb) ?_;rintro r1 K2 h3;rcases h3 with ⟨he,rfl,rfl⟩ | ⟨he,ja,rfl,rfl⟩
 ·refine au 0 ?_;refine bN (K':=(jr,_)::(jb,_)::(1,_)::(g,_)::mkK Zq) (lH (l₁:=(1,_)::(g,_)::mkK Zq) (l₂:=[(jr,_),(jb,_)])) ?_;refine au 220661 ?_;intro j4 hj4;refine au 93714235170 ?_;constructor<;>intro Jz
  ·refine au 35170140042 ?_;refine bB Wz (((1,_)::(g,_)::mkK Zq)) ?_;exact ⟨.inl ⟨he,rfl⟩,rfl⟩
  exact absurd Jz dQ
 ·refine au 0 ?_;refine bN (K':=(jr,_)::(jb,_)::(ja,_)::(1,_)::(g,_)::mkK Zq) (lH (l₁:=(ja,_)::(1,_)::(g,_)::mkK Zq) (l₂:=[(jr,_),(jb,_)])) ?_;refine au 220661 ?_;intro j5 hj5;refine au 93714235170 ?_;constructor<;>intro Jz
  ·exact absurd Jz dQ
  refine au 3517068042120 ?_;refine bB Wz (((1,_)::(g,_)::mkK Zq)) ?_;exact ⟨.inr ⟨he,rfl⟩,rfl⟩
theorem zkQ {x:SkT} {v:Int} (h:x.slo<=v/\v<=x.shi):({ x with slo:=max x.slo v,shi:=min x.shi v }:SkT)=levelX x v:=by
 unfold levelX;rw [show max x.slo v=v by omega,show min x.shi v=v by omega]
theorem zmA {Y:List (Nat×SkT)} {i:Nat} {p p':Nat×SkT} (h:Y[i]? =some p) (h1:p'.1=p.1) (h2:p'.2.mK=p.2.mK):mkK (Y.set i p')=mkK Y:=by
 unfold mkK;refine List.ext_getElem? fun k=>?_;rw [lQ,lQ,lX];by_cases e:i=k
 ·subst e;rw [if_pos rfl,if_pos (lD.1 h).1,h];simp only [Option.map_some,h1];unfold mkO;rw [h2]
 ·rw [if_neg e]
theorem zgo {main:Bool} {T:gG->Hp->Prop} (hT:zt tp main T)  {st wr:Int} {g:Nat} {Zq:List (Nat×SkT)} {i:Nat} {v:Int} (hb:StpOk (skB st wr Zq)) (hi0:i<Zq.length) (hv:∀ x,(Zq.map (·.2))[i]? =some x->x.slo<=v/\v<=x.shi) (hne:allT (levelT (skB st wr Zq) i v)≠[]) :
  zr tp T gmR 51 [.agg (stpC st wr g Zq),za (i:Int),.agg [za v,za v],za (-3),za 3,.fn 52 [] []] ((1,spChecksG)::(g,skO Zq)::mkK Zq) (fun r K'=>∃ g2 Y2,r=.tup [.agg (stpC st wr g2 Y2),za 0]/\skB st wr Y2=levelT (skB st wr Zq) i v/\StpOk (skB st wr Y2)/\Y2.length=Zq.length/\K'=(1,spChecksG)::(g2,skO Y2)::(mkK Y2++((g,skO Zq)::mkK Zq))):=by
 refine zn 91 hT Tryz.func51 fun Y Wz=>?_;refine au 0 ?_;have hz:=zN hb;have hst:4<=st/\st<=24:=hb.st;obtain ⟨pz,hpz⟩:∃ p,Zq[i]? =some p:=⟨_,lA hi0⟩;have hv2:=hv pz.2 (by rw [lQ,hpz]; rfl);have hse:=(zOk hb hpz).se;refine au 21042 ?_;intro jb hjb;refine au 210 ?_;intro j8 hj8;refine au 220 ?_;intro jr hjr;refine au 68042235 ?_;refine TK.clE Z Z Z Z (zau hT hb) ?_;refine au 0 ?_;refine bN (K':=(jr,_)::(j8,_)::(jb,_)::(1,_)::(g,_)::mkK Zq) (lH (l₁:=(1,_)::(g,_)::mkK Zq) (l₂:=[(jr,_),(j8,_),(jb,_)])) ?_;refine au 93714235 ?_;constructor<;>intro Jz
 ·exact absurd Jz dQ
 refine au 1400680421302120 ?_;refine TK.clE Z Z Z Z (zd5 hT oQ) ?_;refine au 935300 ?_;constructor<;>intro Jx
 ·simp at Jx; omega
 refine au 17169067042 ?_;refine TK.sp 35 (fun g6_5=>?_) (fun g6_5=>?_)
 ·simp at g6_5; omega
 refine au 12507690670690670 ?_;refine TK.sp 42 (fun g6_12=>?_) (fun g6_12=>?_)
 ·simp at g6_12
 refine au 93525071690670 ?_;constructor<;>intro hc2
 ·simp at hc2; omega
 refine au 68042140120 ?_;refine bD Z Z Z Z (zlH hT hb) ?_;rintro r7 K8 ⟨j1,Y,hYm,hYl,rfl,rfl⟩;refine au 0 ?_;refine bN (K':=(jr,_)::(j8,_)::(jb,_)::(1,_)::(j1,_)::(g,_)::(mkK Zq++mkK Y)) (lH (l₁:=(j1,_)::(g,_)::(mkK Zq++mkK Y)) (l₂:=[(jr,_),(j8,_),(jb,_),(1,_)])) ?_;obtain ⟨p,hp⟩:∃ p,Y[i]? =some p:=⟨_,lA oQ⟩;have hpv:p.2.slo<=v/\v<=p.2.shi:=hv p.2 (by rw [<- hYm,lQ,hp]; rfl);have hp1:(Y.set i (p.1,{ p.2 with slo:=max p.2.slo v }))[i]? =some (p.1,{ p.2 with slo:=max p.2.slo v }):=by rw [List.getElem?_set_self oQ]
 have hp2:(Y.set i (p.1,levelX p.2 v))[i]? =some (p.1,levelX p.2 v):=by rw [List.getElem?_set_self oQ]
 refine au 220 ?_;intro jo hjo;refine au 37016906701423170 ?_;refine TK.clE Z Z Z Z (zgn hT) ?_;refine au 235 ?_;refine bL [0,2,3,4,5,6,7,8,9,10,11,12,13,14,15,16,17,18,1,19,20,21] ?_;refine ad [[1,16],[1,16],[1,16]] ?_;refine bU [59] Z (yD Z Z) ?_;refine ad [[3,60]] ?_;refine bT [61] Z (hq:=zj Z Z ze.h (mC _) (yd (c:=4) (vB hp Z) dQ Z)) (h:=?_);refine ad [[3,8],[10,63]] ?_;refine bU [62,64] Z (zcG Z Z Z) ?_;refine ad [[1,16]] ?_;refine bU [66] Z (yD Z Z) ?_;refine ad [[3,67]] ?_;refine bT [68] Z (hq:=zj Z Z ze.h (mC _) (yd (c:=5) (vB hp Z) dQ Z)) (h:=?_);refine ad [[3,8],[10,70]] ?_;refine bU [69,71] Z (zcH Z Z Z) ?_;refine bU [57] Z (yD Z Z) ?_;refine ad [[3,73]] ?_;refine bR (Wx:=[_,_,_,_,_,_,_,_]) [65,74] Z Z (zE Z Z ze.h Z Z mQ (zdf (k:=4) (p':=(p.1,{ p.2 with slo:=max p.2.slo v })) hp Z dQ Z Z)) ?_;refine bU [58] Z (yD Z Z) ?_;refine ad [[3,75]] ?_;refine bR (Wx:=[_]) [72,76] Z Z (zE Z Z ze.h Z Z mQ (zdf (k:=5) (p':=(p.1,{ p.2 with slo:=max p.2.slo v,shi:=min p.2.shi v })) hp1 Z dQ Z Z)) ?_;refine ad [[14]] ?_;refine au 22 ?_;rw [List.set_set,zkQ hpv];refine bL [0,1,2,3,4,5,6,7,8] ?_;refine ad [[1,16]] ?_;refine bU [77] Z (yD Z Z) ?_;refine ad [[3,78]] ?_;refine bT [79] Z (hq:=zj Z Z ze.h (mC _) (yd (c:=4) (vB hp2 Z) dQ Z)) (h:=?_);refine ad [[1,16]] ?_;refine bU [81] Z (yD Z Z) ?_;refine ad [[3,82]] ?_;refine bT [83] Z (hq:=zj Z Z ze.h (mC _) (yd (c:=5) (vB hp2 Z) dQ Z)) (h:=?_);refine ad [[4,80,84],[14]] ?_;refine au 9 ?_;constructor<;>intro hc3
 ·simp at hc3; exact absurd hc3 (Int.lt_irrefl _)
 have hnb:skB st wr (Y.set i (p.1,levelX p.2 v))=levelT (skB st wr Zq) i v:=by
  unfold skB levelT;rw [znG hp,hYm]
 have hbo:StpOk (skB st wr (Y.set i (p.1,levelX p.2 v))):=by
  rw [hnb];exact zi3 hb hv
 have hmk:mkK (Y.set i (p.1,levelX p.2 v))=mkK Y:=zmA hp rfl rfl;refine au 2120 ?_;refine TK.unrowAt (c:=jo) (i:=2) (j:=j1) Z mQ uQ ?_;refine TK.frzRow (j:=j1) ?_;refine au 0 ?_;rw [<- hmk,show Zq.length=(Y.set i (p.1,levelX p.2 v)).length by rw [List.length_set,hYl]];refine bN (K':=(jo,_)::(jr,_)::(j8,_)::(jb,_)::(g,_)::(mkK Zq++((1,_)::(j1,_)::mkK (Y.set i (p.1,levelX p.2 v))))) ((List.perm_append_comm_assoc [(1,_),(j1,_)] ((g,_)::mkK Zq) (mkK (Y.set i (p.1,levelX p.2 v)))).append_left [(jo,_),(jr,_),(j8,_),(jb,_)]) ?_;refine au 6804 ?_;refine bD Z Z Z Z (zgi hT (Zq:=(Y.set i (p.1,levelX p.2 v))) hbo) ?_ (hs:=(.right (.right (.right (.right (.right (zcN _ _)))))));rintro r13 K14 h15;rcases h15 with ⟨⟨he,rfl⟩ | ⟨hne2,rfl⟩,rfl⟩
 ·exact absurd he (by rw [hnb]; exact hne)
 ·refine au 0 ?_;refine bN (K':=(jo,_)::(jr,_)::(j8,_)::(jb,_)::(1,_)::(j1,_)::(mkK (Y.set i (p.1,levelX p.2 v))++((g,_)::mkK Zq))) (List.perm_append_comm_assoc ((1,_)::(j1,_)::mkK (Y.set i (p.1,levelX p.2 v))) [(jo,_),(jr,_),(j8,_),(jb,_)] ((g,_)::mkK Zq)) ?_;refine au 3517066 ?_;refine bB Wz (((1,_)::(j1,_)::(mkK (Y.set i (p.1,levelX p.2 v))++((g,_)::mkK Zq)))) ?_ (hs:=(.right (.right (.right (.right (.all _))))));exact ⟨j1,(Y.set i (p.1,levelX p.2 v)),rfl,hnb,hbo,by rw [List.length_set,hYl],rfl⟩
theorem zav {main:Bool} {T:gG->Hp->Prop} (hT:zt tp main T)  {st wr:Int} {g:Nat} {Zq:List (Nat×SkT)} {i:Nat} {v:Int} (hb:StpOk (skB st wr Zq)) (hi0:i<Zq.length) (hv:∀ x,(Zq.map (·.2))[i]? =some x->x.slo<=v/\v<=x.shi) (hne:allT (levelT (skB st wr Zq) i v)≠[]) :
  zr tp T gmR 10 [.agg (stpC st wr g Zq),za (i:Int),.agg [za v,za v]] ((1,spChecksG)::(g,skO Zq)::mkK Zq) (fun r K'=>∃ g2 Y2,r=.tup [.agg (stpC st wr g2 Y2),za 0]/\skB st wr Y2=levelT (skB st wr Zq) i v/\StpOk (skB st wr Y2)/\Y2.length=Zq.length/\K'=(1,spChecksG)::(g2,skO Y2)::(mkK Y2++((g,skO Zq)::mkK Zq))):=by
 refine zn 14 hT Tryz.func10 fun Y Wz=>?_;refine au 21042 ?_;intro jb hjb;refine au 210 ?_;intro j8 hj8;refine au 220 ?_;intro jr hjr;refine au 68016804235 ?_;refine bD Z Z Z Z (zgo hT (i:=i) (v:=v) hb hi0 hv hne) ?_ (hs:=(.right (.right (.right (.all _)))));rintro r1 K2 ⟨g2,Y2,rfl,h1,h2,h3,rfl⟩;refine au 0 ?_;refine bN (K':=(jr,_)::(j8,_)::(jb,_)::(1,_)::(g2,_)::(mkK Y2++((g,_)::mkK Zq))) (lH (l₁:=(1,_)::(g2,_)::(mkK Y2++((g,_)::mkK Zq))) (l₂:=[(jr,_),(j8,_),(jb,_)])) ?_;refine au 3517066 ?_;refine bB Wz (((1,_)::(g2,_)::(mkK Y2++((g,_)::mkK Zq)))) ?_ (hs:=(.right (.right (.right (.all _)))));exact ⟨g2,Y2,rfl,h1,h2,h3,rfl⟩
theorem zgp {main T} (hT:zt tp main T) {gm} {st wr:Int} {g:Nat} {Zq:List (Nat×SkT)} {i jh:Nat} (hl:Zq.length<=1000) :
  zr tp T gm 47 [.agg (stpC st wr g Zq),.ptr jh 0] [(jh,.cells [za (i:Int)] 3 tt)] (fun r K'=>r=zC (decide ((0:Int)<=(i:Int))&&decide ((i:Int)<=(Zq.length:Int) - 1))/\K'=[(jh,.cells [za (i:Int)] 3 tt)]):=by
 refine zn 7 hT Tryz.func47 fun Y Wz=>?_;refine au 21042 ?_;intro jb hjb;refine au 6906804235 ?_;refine TK.clE Z Z Z Z (zd5 hT hl) ?_;refine au 35 ?_;refine bB Wz [(jh,_)] ?_;exact ⟨rfl,rfl⟩
theorem zgq {main T} (hT:zt tp main T) {gm} {v:VwT} {i jh:Nat} (hi:i<4) :
  zr tp T gm 50 [.agg (vwC v),.ptr jh 0] [(jh,.cells [za (i:Int)] 3 tt)] (fun r K'=>r=za (v.st.getD i 0)/\K'=[(jh,.cells [za (i:Int)] 3 tt)]):=by
 refine zn 8 hT Tryz.func50 fun Y Wz=>?_;refine au 21042 ?_;intro jb hjb;refine au 6706904235 ?_;refine bH Z (yH Z Z Z ArEl.h oQ oQ) ?_;refine bH Z (zj Z Z ze.h mQ (zfP hi Z)) ?_;refine au 35 ?_;refine bB Wz [(jh,_)] ?_;exact ⟨rfl,rfl⟩
theorem zjQ {main:Bool} {T:gG->Hp->Prop} (hT:zt tp main T)  {st wr:Int} {g:Nat} {Zq:List (Nat×SkT)} {i jh:Nat} (hb:StpOk (skB st wr Zq)) (hi0:i<Zq.length) (hne:allT (skB st wr Zq)≠[]) :
  zr tp T gmR 46 [.agg (stpC st wr g Zq),.fn 47 [] [.ptr jh 0]] ((jh,.cells [za (i:Int)] 3 tt)::(1,spChecksG)::(g,skO Zq)::mkK Zq) (fun r K'=>∃ ja,r=.tup [.agg (stpC st wr g Zq++[.row ja (allT (skB st wr Zq)).length]),za 0]/\K'=(ja,.row ((allT (skB st wr Zq)).flatMap vwC) 118 9)::(jh,.cells [za (i:Int)] 3 tt)::(1,spChecksG)::(g,skO Zq)::mkK Zq):=by
 refine zn 33 hT Tryz.func46 fun Y Wz=>?_;refine au 0 ?_;have hz:=zN hb;refine au 21042 ?_;intro jb hjb;refine au 220 ?_;intro jr hjr;refine au 68042235 ?_;refine TK.clE Z Z Z Z (zau hT hb) ?_;refine au 0 ?_;refine bN (K':=(jr,_)::(jb,_)::(jh,_)::(1,_)::(g,_)::mkK Zq) (lH (l₁:=(1,_)::(g,_)::mkK Zq) (l₂:=[(jr,_),(jb,_),(jh,_)])) ?_;refine au 93714235 ?_;constructor<;>intro Jz
 ·exact absurd Jz dQ
 refine au 22041040068042120 ?_;intro jk hjk;refine au 68067014223170 ?_;refine TK.clE Z Z Z Z (zgp hT (st:=st) (wr:=wr) (g:=g) (Zq:=Zq) oQ) ?_;refine au 0 ?_;refine bN (K':=(jk,_)::(jr,_)::(jb,_)::(jh,_)::(1,_)::(g,_)::mkK Zq) ((lH (l₁:=[(jh,_)]) (l₂:=[(jk,_),(jr,_),(jb,_)])).append_right ((1,_)::(g,_)::mkK Zq)) ?_;refine au 93300 ?_;constructor<;>intro Jx
 ·simp at Jx; omega
 refine au 680670422120 ?_;refine bD Z Z Z Z (zfM hT hb) ?_;rintro r7 K8 ⟨ja,rfl,rfl⟩;refine au 0 ?_;refine bN (K':=(jk,_)::(jr,_)::(jb,_)::(jh,_)::(1,_)::(ja,_)::(g,_)::mkK Zq) (lH (l₁:=(ja,_)::(g,_)::mkK Zq) (l₂:=[(jk,_),(jr,_),(jb,_),(jh,_),(1,_)])) ?_;refine au 937280690670423170670 ?_;constructor<;>intro hc2
 ·exact absurd (lK (by simp at hc2; simpa using hc2)) hne
 refine au 3517068042120 ?_;refine bB Wz (((ja,_)::(jh,_)::(1,_)::(g,_)::mkK Zq)) ?_;exact ⟨ja,rfl,rfl⟩
end Go.Vel
namespace Go.Vel
open Go Go.Conc Go.Sort
theorem TK.shr {P:gP} {gm:Nat->Option Nat} {T:gG->Hp->Prop} {Y:KX P gm T} {ds:List Nat} {k k':List Item} {Wq:List AV} {K:KV} {X:Type} {D:X->Prop} {E:X->List AV} {KK:X->KV} (main:(∀ x,D x->TK Y ds k' (E x) (KK x))->TK Y ds k Wq K) (tail:∀ x,D x->TK Y ds k' (E x) (KK x)):TK Y ds k Wq K:=main tail
theorem znK {d:Array Int} {i:Nat} (h:i<d.size):d.toList[i]? =some d[i]! :=by
 rw [Array.getElem?_toList,Array.getElem?_eq_getElem h,getElem!_pos d i h]
theorem znr (d:Array Int) (i j:Nat):(d.toList.set i d[j]!).set j d[i]! =(swp d i j).toList:=by
 simp [swp]
theorem zT {d:Array Int} {i:Nat} {n:Int} {e:gT} {s:Nat} (h:i<d.size) (hn:n=(i:Int)):yj (.row (d.toList.map za) e s) (0+n.toNat*1) 1=some [za d[i]!]:=kQ (znK h) (by subst hn; simp)
theorem kF {d:Array Int} {k:Nat} {n v:Int} {e:gT} {s:Nat} (h:k<d.size) (hn:n=(k:Int)):putO (.row (d.toList.map za) e s) (0+n.toNat*1) [za v]=some (.row ((d.toList.set k v).map za) e s):=zan (by rw [Array.length_toList]; exact h) hn
theorem kG {d:Array Int} {i j:Nat} {n:Int} {e:gT} {s:Nat} (h:j<d.size) (hn:n=(j:Int)):putO (.row ((d.toList.set i d[j]!).map za) e s) (0+n.toNat*1) [za d[i]!]=some (.row ((swp d i j).toList.map za) e s):=by
 rw [<- znr];exact zan (by rw [List.length_set,Array.length_toList]; exact h) hn
theorem kK {d:Array Int} {i j n:Nat} (h:d.size=n):(swp d i j).size=n:=by rw [swp_size]; exact h
section
variable {a b i j q n hi F root:Nat} {d:Array Int}
theorem zf7 (h:i<b):insOuter ltInt a b i d=insOuter ltInt a b (i+1) (insInner ltInt a i d):=by
 conv=>lhs; unfold insOuter
 rw [if_pos h]
theorem ze0 (h:¬ i<b):insOuter ltInt a b i d=d:=by unfold insOuter; rw [if_neg h]
theorem zf6 (h:a<q+1) (hl:ltInt d[q+1]! d[q]! =tt):insInner ltInt a (q+1) d=insInner ltInt a q (swp d (q+1) q):=by
 conv=>lhs; unfold insInner
 rw [if_pos (by simp only [mX,decide_eq_true_eq]; exact ⟨h,hl⟩)]
theorem zeX (h:¬ a<q):insInner ltInt a q d=d:=by
 cases q with
 | zero=>rfl
 | succ q =>
  unfold insInner;rw [if_neg (by simp only [mX,decide_eq_true_eq]; exact fun hh=>h hh.1)]
theorem zej (hl:ltInt d[q+1]! d[q]! =ff):insInner ltInt a (q+1) d=d:=by
 unfold insInner;rw [if_neg (by rw [hl]; simp)]
theorem zlG (h:hi<=2*root+1):siftDown ltInt hi F root d=d:=by unfold siftDown; rw [dif_pos h]
def SiftC (hi F root:Nat) (d:Array Int) (c:Nat):Prop:=root<c/\c<hi/\siftDown ltInt hi F root d=if (!ltInt d[F+root]! d[F+c]!)=tt then d else siftDown ltInt hi F c (swp d (F+root) (F+c))
theorem znl (h:¬ hi<=2*root+1) (h2:2*root+2<hi) (hl:ltInt d[F+(2*root+1)]! d[F+(2*root+1)+1]! =tt):SiftC hi F root d (2*root+2):=by
 refine ⟨by omega,h2,?_⟩
 conv=>lhs; unfold siftDown
 rw [dif_neg h,if_pos (by rw [hl]; simp; omega),dif_pos h2]
theorem zhi (h:¬ hi<=2*root+1) (hl:¬ 2*root+2<hi\/ltInt d[F+(2*root+1)]! d[F+(2*root+1)+1]! =ff):SiftC hi F root d (2*root+1):=by
 refine ⟨by omega,oQ,?_⟩
 conv=>lhs; unfold siftDown
 rw [dif_neg h,if_neg (by rcases hl with hl | hl <;> simp [hl])]
theorem zhj (hi F root:Nat) (d:Array Int):(siftDown ltInt hi F root d).size=d.size:=by
 fun_induction siftDown ltInt hi F root d <;> simp_all [swp_size]
end
end Go.Vel
namespace Go.Vel
open Go Go.Conc Go.Proofs
open Go.Sort
theorem zmu {main T} (hT:zt tp main T) {gm} {j n a b:Nat} {d:Array Int} (hd:d.size=n) (hn:n<=100000) (hab:a<=b) (hb:b<=n) :
  zr tp T gm 129 [.sl j 0 n,za a,za b] [(j,.row (d.toList.map za) 3 1)] (fun r K'=>K'=[(j,.row ((insertionSort ltInt d a b).toList.map za) 3 1)]):=by
 refine zn 49 hT Tryz.func129 fun Y Wz=>?_;refine au 13035230142 ?_;refine bA [0,1,2,6] ?_;refine bE (fun n1 Wq K=>∃ (i:Nat) (d1:Array Int),n1=b - i/\a<i/\d1.size=n/\insOuter ltInt a b i d1=insertionSort ltInt d a b/\Wq=.sl j 0 n::za a::za b::naL 3 (za i::naL 42 [])/\K=[(j,.row (d1.toList.map za) 3 1)]) (b - (a+1)) ⟨a+1,d,rfl,oQ,hd,rfl,rfl,rfl⟩ fun n1 Wq K hI Wj=>?_;obtain ⟨i,d1,rfl,hai,hs1,heq,rfl,rfl⟩:=hI;refine bG nQ ?_;refine au 93711422 ?_;constructor<;>intro Jz
 ·have hib:i<b:=by simp at Jz; omega
  rw [zf7 hib] at heq;refine au 130351421302120 ?_;refine bA [0,1,2,6,7] ?_;refine bE (fun n1 Wq K=>∃ (p:Nat) (d2:Array Int),n1=p/\p<=i/\d2.size=n/\insOuter ltInt a b (i+1) (insInner ltInt a p d2)=insertionSort ltInt d a b/\Wq=.sl j 0 n::za a::za b::naL 3 (za i::za p::naL 41 [])/\K=[(j,.row (d2.toList.map za) 3 1)]) i ⟨i,d1,rfl,mL _,hs1,heq,rfl,rfl⟩ fun n1 Wq K hI Ww=>?_;obtain ⟨p,d2,hnp,hp,hs2,heq2,rfl,rfl⟩:=hI;subst n1;refine bG nQ ?_;refine au 22 ?_;refine bL [0,1,2,3,4,5,6,7,8,9,10,11,12,13,14] ?_;refine ad [[1,7],[1,1],[4,16,17],[1,18]] ?_;refine bW 19 (fun g4_4=>?_) (fun g4_4=>?_)
  ·have hpa:a<p:=by simp at g4_4; omega
   obtain ⟨q,rfl⟩:∃ q,p=q+1:=⟨p - 1,oQ⟩;refine ad [[1,0,19],[1,7,19],[2,19,20,21]] ?_;refine bT [19,22] Z (hq:=zj Z Z ze.h (mC _) (zT (i:=q+1) oQ oQ)) (h:=?_);refine ad [[1,0,19],[1,7,19],[9,19,25],[2,19,24,26]] ?_;refine bT [19,27] Z (hq:=zj Z Z ze.h (mC _) (zT (i:=q) oQ oQ)) (h:=?_);refine TD.clE (Wx:=[_,_,_,_,_,_,_,_,_,_]) [19,23,28] Z Z Z Z Z (kf hT) ?_;refine ad [[7,19,29],[14]] ?_;refine au 9 ?_;constructor<;>intro Jx
   ·rw [zf6 hpa Jx] at heq2;refine au 1302120 ?_;refine bL [0,1,5,6,7,8,9,10,11,12,13,14,15,2,3,4,16,17] ?_;refine ad [[1,0],[1,7],[1,0],[1,7],[9,36],[1,0],[1,7],[9,39],[2,38,40]] ?_;refine bT [41] Z (hq:=zj Z Z ze.h (mC _) (zT (i:=q) oQ oQ)) (h:=?_);refine ad [[1,0],[1,7],[2,43,44]] ?_;refine bT [45] Z (hq:=zj Z Z ze.h (mC _) (zT (i:=q+1) oQ oQ)) (h:=?_);refine ad [[2,33,34]] ?_;refine bR (Wx:=[_,_,_,_,_,_]) [42,47] Z Z (zE Z Z ze.h Z Z mQ (kF (k:=q+1) oQ oQ)) ?_;refine ad [[2,35,37]] ?_;refine bR (Wx:=[]) [46,48] Z Z (zE Z Z ze.h Z Z mQ (kG (i:=q+1) (j:=q) oQ oQ)) ?_;refine ad [[14]] ?_;refine au 3524014140 ?_;refine bA [0,1,2,6,7] ?_;refine bC [(j,_)] ?_;exact Ww _ _ _ oQ ⟨q,swp d2 (q+1) q,rfl,oQ,kK hs2,heq2,by rw [show ((q+1:Nat):Int) - 1=(q:Int) by omega]; rfl,rfl⟩
   rw [zej Jx] at heq2;refine au 3523014140160 ?_;refine bA [0,1,2,6] ?_;refine bC [(j,_)] ?_;exact Wj _ _ _ oQ ⟨i+1,d2,rfl,oQ,hs2,heq2,rfl,rfl⟩
  have hpa:¬ a<p:=by simp at g4_4; omega
  rw [zeX hpa] at heq2;refine ad [[11,0,19],[11,7,19],[11,19,20,21],[11,19,22],[11,0,19],[11,7,19],[11,19,25],[11,19,24,26],[11,19,27],[11,19,23,28],[6,19,29],[14]] ?_;refine au 3523014140160190 ?_;refine bA [0,1,2,6] ?_;refine bC [(j,_)] ?_;exact Wj _ _ _ oQ ⟨i+1,d2,rfl,oQ,hs2,heq2,rfl,rfl⟩
 have hib:¬ i<b:=by simp at Jz; omega
 refine au 160 ?_;refine TK.rt0 Wz [(j,_)] ?_;rw [<- heq,ze0 hib]
theorem zfJ {main T} (hT:zt tp main T) {gm} {j n lo hi F:Nat} {d:Array Int} (hd:d.size=n) (hn:n<=100000) (hlo:lo<=100000) (hF:F+hi<=n) :
  zr tp T gm 173 [.sl j 0 n,za lo,za hi,za F] [(j,.row (d.toList.map za) 3 1)] (fun r K'=>K'=[(j,.row ((siftDown ltInt hi F lo d).toList.map za) 3 1)]):=by
 refine zn 76 hT Tryz.func173 fun Y Wz=>?_;refine au 13035142 ?_;refine bA [0,2,3,8] ?_;refine bE (fun n1 Wq K=>∃ (root:Nat) (d1:Array Int),n1=hi - root/\root<=100000/\d1.size=n/\siftDown ltInt hi F root d1=siftDown ltInt hi F lo d/\Wq=.sl j 0 n::.any::za hi::za F::naL 4 (za root::naL 67 [])/\K=[(j,.row (d1.toList.map za) 3 1)]) (hi - lo) ⟨lo,d,rfl,hlo,hd,rfl,rfl,rfl⟩ fun n1 Wq K hI Wj=>?_;obtain ⟨root,d1,rfl,hr,hs1,heq,rfl,rfl⟩:=hI;refine bG nQ ?_;refine au 142130 ?_;refine bH Z (q_mul Z Z Z oQ) ?_;refine au 2235230 ?_;rw [show 2*(root:Int)+1=((2*root+1:Nat):Int) by omega];refine au 937114 ?_;constructor<;>intro Jz
 ·have hch:hi<=2*root+1:=by simp at Jz; omega
  have Qj:d1=siftDown ltInt hi F lo d:=by rw [<- heq,zlG hch]
  refine au 160 ?_;refine TK.rt0 Wz [(j,_)] ?_;rw [<- Qj]
 have hch:¬ hi<=2*root+1:=by simp at Jz; omega
 refine au 22120 ?_;refine' TK.shr (X:=Nat) (D:=fun x=>SiftC hi F root d1 x) (E:=fun x=>.sl j 0 n::.any::za hi::za F::naL 4 (za root::za x::naL 66 [])) (KK:=fun x=>[(j,.row (d1.toList.map za) 3 1)]) ?_ ?_;rotate_left
 ·intro H;refine bL [0,1,2,3,4,5,6,7,8,9,10,11,12,13,14,15,16,17,18,19] ?_;refine ad [[1,9],[8,17],[1,2],[4,18,19],[1,20]] ?_;refine bW 21 (fun g3_5=>?_) (fun g3_5=>?_)
  ·have hg:2*root+2<hi:=by simp at g3_5; omega
   refine ad [[1,0,21],[1,3,21],[1,9,21],[8,21,23,24],[2,21,22,25]] ?_;refine bT [21,26] Z (hq:=zj Z Z ze.h (mC _) (zT (i:=F+(2*root+1)) oQ oQ)) (h:=?_);refine ad [[1,0,21],[1,3,21],[1,9,21],[8,21,29,30],[8,21,31],[2,21,28,32]] ?_;refine bT [21,33] Z (hq:=zj Z Z ze.h (mC _) (zT (i:=F+(2*root+1)+1) oQ oQ)) (h:=?_);refine TD.clE (Wx:=[_,_,_,_,_,_,_,_,_,_,_,_,_,_,_]) [21,27,34] Z Z Z Z Z (kf hT) ?_;refine ad [[7,21,35],[14]] ?_;refine au 9 ?_;constructor<;>intro Jx
   ·have hc:=znl hch hg Jx;refine au 523014 ?_;rw [show ((2*root+1:Nat):Int)+1=((2*root+2:Nat):Int) by omega];refine au 223 ?_;refine bA [0,2,3,8,9] ?_;refine bC [(j,_)] ?_;exact H (2*root+2) hc
   have hc:=zhi hch (.inr Jx);refine au 22120 ?_;refine bA [0,2,3,8,9] ?_;refine bC [(j,_)] ?_;exact H (2*root+1) hc
  have hg:¬ 2*root+2<hi:=by simp at g3_5; omega
  have hc:=zhi (F:=F) (d:=d1) hch (.inl hg);refine ad [[11,0,21],[11,3,21],[11,9,21],[11,21,23,24],[11,21,22,25],[11,21,26],[11,0,21],[11,3,21],[11,9,21],[11,21,29,30],[11,21,31],[11,21,28,32],[11,21,33],[11,21,27,34],[6,21,35],[14]] ?_;refine au 22120190 ?_;refine bA [0,2,3,8,9] ?_;refine bC [(j,_)] ?_;exact H (2*root+1) hc
 ·rintro c ⟨hrc,hcl,heqc⟩; rw [heq] at heqc;refine bG nQ ?_;refine bL [0,1,2,3,4,5,6,7,8,9,10,11,12,13] ?_;refine ad [[1,0],[1,3],[1,8],[8,40,41],[2,39,42]] ?_;refine bT [43] Z (hq:=zj Z Z ze.h (mC _) (zT (i:=F+root) oQ oQ)) (h:=?_);refine ad [[1,0],[1,3],[1,9],[8,46,47],[2,45,48]] ?_;refine bT [49] Z (hq:=zj Z Z ze.h (mC _) (zT (i:=F+c) oQ oQ)) (h:=?_);refine TD.clE (Wx:=[_,_,_,_,_,_,_,_,_,_]) [44,50] Z Z Z Z Z (kf hT) ?_;refine bU [51] Z (q_not Z Z) ?_;refine ad [[14]] ?_;refine au 9 ?_;constructor<;>intro hc2
  ·have Qj:d1=siftDown ltInt hi F lo d:=by rw [heqc]; exact (if_pos hc2).symm
   refine au 0 ?_;refine bB Wz [(j,_)] ?_;rw [<- Qj]
  have hq:=heqc.trans (if_neg (fun h=>absurd (hc2.symm.trans h) dQ));refine au 2120 ?_;refine bL [0,1,2,3,8,9,10,11,12,13,14,15,16,17,18,19,20,21,4,5,6,7,22,23] ?_;refine ad [[1,0],[1,3],[1,8],[8,54,55],[1,0],[1,3],[1,9],[8,58,59],[1,0],[1,3],[1,9],[8,62,63],[2,61,64]] ?_;refine bT [65] Z (hq:=zj Z Z ze.h (mC _) (zT (i:=F+c) oQ oQ)) (h:=?_);refine ad [[1,0],[1,3],[1,8],[8,68,69],[2,67,70]] ?_;refine bT [71] Z (hq:=zj Z Z ze.h (mC _) (zT (i:=F+root) oQ oQ)) (h:=?_);refine ad [[2,53,56]] ?_;refine bR (Wx:=[_,_,_,_,_,_,_,_,_]) [66,73] Z Z (zE Z Z ze.h Z Z mQ (kF (k:=F+root) oQ oQ)) ?_;refine ad [[2,57,60]] ?_;refine bR (Wx:=[]) [72,74] Z Z (zE Z Z ze.h Z Z mQ (kG (i:=F+root) (j:=F+c) oQ oQ)) ?_;refine ad [[14]] ?_;refine au 1403514 ?_;refine bA [0,2,3,8] ?_;refine bC [(j,_)] ?_;exact Wj _ _ _ oQ ⟨c,swp d1 (F+root) (F+c),rfl,oQ,kK hs1,hq.symm,rfl,rfl⟩
theorem zkJ {main T} (hT:zt tp main T) {gm} {j n a b:Nat} {d:Array Int} (hd:d.size=n) (hn:n<=100000) (hab:a<b) (hb:b<=n) :
  zr tp T gm 130 [.sl j 0 n,za a,za b] [(j,.row (d.toList.map za) 3 1)] (fun r K'=>K'=[(j,.row ((heapSort ltInt d a b).toList.map za) 3 1)]):=by
 refine zn 56 hT Tryz.func130 fun Y Wz=>?_;refine au 22352401142354235142 ?_;rw [show (b:Int) - (a:Int)=((b - a:Nat):Int) by omega];refine au 24014 ?_;refine bH Z (q_quo Z Z Z oQ oQ oQ) ?_;refine au 13035 ?_;refine bA [0,6,7,8,9] ?_;refine bE (fun n1 Wq K=>∃ (k:Nat) (d1:Array Int),n1=k/\k<=b - a/\d1.size=n/\heapPop ltInt a (b - a) (heapBuild ltInt (b - a) a k d1)=heapSort ltInt d a b/\Wq=.sl j 0 n::naL 5 (za a::za 0::za (b - a:Nat)::za ((k:Int) - 1)::naL 46 [])/\K=[(j,.row (d1.toList.map za) 3 1)]) ((b - a - 1) / 2+1) ⟨(b - a - 1) / 2+1,d,rfl,oQ,hd,rfl,by rw [show (((b - a:Nat):Int) - 1) / 2=(((b - a - 1) / 2+1:Nat):Int) - 1 by omega] <;> rfl,rfl⟩ fun n1 Wq K hI Wj=>?_;obtain ⟨k,d1,hnk,hk,hs1,heq,rfl,rfl⟩:=hI;subst n1;refine bG nQ ?_;refine au 9371422 ?_;constructor<;>intro Jz
 ·obtain ⟨q,rfl⟩:∃ q,k=q+1:=⟨k - 1,by simp at Jz; omega⟩;rw [show ((q+1:Nat):Int) - 1=(q:Int) by omega];refine au 111141302120 ?_;refine bD Z Z Z Z (zfJ hT (d:=d1) (lo:=q) (hi:=b - a) (F:=a) hs1 hn oQ oQ) ?_;rintro r1 K2 rfl;refine au 35240141403 ?_;refine bA [0,6,7,8,9] ?_;refine bC [(j,_)] ?_;exact Wj _ _ _ oQ ⟨q,siftDown ltInt (b - a) a q d1,rfl,oQ,by rw [zhj]; exact hs1,heq,rfl,rfl⟩
 obtain rfl:k=0:=by simp at Jz; omega
 refine au 13035240142160 ?_;refine bA [0,6,7,8,10] ?_;refine bE (fun n1 Wq K=>∃ (k:Nat) (d2:Array Int),n1=k/\k<=b - a/\d2.size=n/\heapPop ltInt a k d2=heapSort ltInt d a b/\Wq=.sl j 0 n::naL 5 (za a::za 0::za (b - a:Nat)::.any::za ((k:Int) - 1)::naL 45 [])/\K=[(j,.row (d2.toList.map za) 3 1)]) (b - a) ⟨b - a,d1,rfl,mL _,hs1,heq,rfl,rfl⟩ fun n1 Wq K hI Ww=>?_;obtain ⟨k,d2,hnk2,hk2,hs2,heq2,rfl,rfl⟩:=hI;subst n1;refine bG nQ ?_;refine au 9371422 ?_;constructor<;>intro Jx
 ·obtain ⟨q,rfl⟩:∃ q,k=q+1:=⟨k - 1,by simp at Jx; omega⟩;rw [show ((q+1:Nat):Int) - 1=(q:Int) by omega];refine au 21302120 ?_;refine bL [0,1,6,7,8,9,10,11,12,13,14,15,16,17,2,3,4,5,18,19] ?_;refine ad [[1,0],[1,6],[1,0],[1,6],[1,10],[8,36,37],[1,0],[1,6],[1,10],[8,40,41],[2,39,42]] ?_;refine bT [43] Z (hq:=zj Z Z ze.h (mC _) (zT (i:=a+q) oQ oQ)) (h:=?_);refine ad [[1,0],[1,6],[2,45,46]] ?_;refine bT [47] Z (hq:=zj Z Z ze.h (mC _) (zT (i:=a) oQ oQ)) (h:=?_);refine ad [[2,33,34]] ?_;refine bR (Wx:=[_,_,_,_,_,_,_]) [44,49] Z Z (zE Z Z ze.h Z Z mQ (kF (k:=a) oQ oQ)) ?_;refine ad [[2,35,38]] ?_;refine bR (Wx:=[]) [48,50] Z Z (zE Z Z ze.h Z Z mQ (kG (i:=a) (j:=a+q) oQ oQ)) ?_;refine ad [[14]] ?_;refine au 11114 ?_;refine bD Z Z Z Z (zfJ hT (d:=swp d2 a (a+q)) (lo:=0) (hi:=q) (F:=a) (kK hs2) hn oQ oQ) ?_;rintro r4 K5 rfl;refine au 35240141403 ?_;refine bA [0,6,7,8,10] ?_;refine bC [(j,_)] ?_;exact Ww _ _ _ oQ ⟨q,siftDown ltInt q a 0 (swp d2 a (a+q)),rfl,oQ,by rw [zhj]; exact kK hs2,heq2,rfl,rfl⟩
 obtain rfl:k=0:=by simp at Jx; omega
 refine au 160 ?_;refine TK.rt0 Wz [(j,_)] ?_;rw [<- heq2]; rfl
end Go.Vel
namespace Go.Vel
open Go Go.Conc Go.Sort
section
variable {p:Int->Bool} {a b i j q u v u2 v2 pv:Nat} {d d1 d2:Array Int}
theorem up_go (h:i<=j) (hp:p d[i]! =tt):scanUp p d j i=scanUp p d j (i+1):=by
 conv=>lhs; unfold scanUp
 rw [if_pos (by simp [h,hp])]
theorem u7 (h:¬ i<=j\/p d[i]! =ff):scanUp p d j i=i:=by
 unfold scanUp;rw [if_neg (by rcases h with h | h <;> simp [h])]
theorem zcZ (h:i<=q+1) (hp:p d[q+1]! =tt):scanDown p d i (q+1)=scanDown p d i q:=by
 conv=>lhs; unfold scanDown
 rw [if_pos (by simp [h,hp])]
theorem vk (h:¬ i<=q\/p d[q]! =ff):scanDown p d i q=q:=by
 cases q with
 | zero=>rfl
 | succ q =>
  unfold scanDown;rw [if_neg (by rcases h with h | h <;> simp [h])]
theorem zoC (hd:d1=swp d a pv) (hu:scanUp (fun x=>ltInt x d1[a]!) d1 (b - 1) (a+1)=u) (hv:scanDown (fun x => !ltInt x d1[a]!) d1 u (b - 1)=v) (h:v<u):partition ltInt d a b pv=(v,tt,swp d1 v a):=by
 subst hd;unfold partition;simp only [];rw [hu,hv,if_pos h]
theorem zoD (hd:d1=swp d a pv) (hu:scanUp (fun x=>ltInt x d1[a]!) d1 (b - 1) (a+1)=u) (hv:scanDown (fun x => !ltInt x d1[a]!) d1 u (b - 1)=v) (h:¬ v<u) (hl:partLoop ltInt a (u+1) (v - 1) (swp d1 u v)=(v2,d2)):partition ltInt d a b pv=(v2,ff,swp d2 v2 a):=by
 subst hd;unfold partition;simp only [];rw [hu,hv,if_neg h,hl]
theorem zoI (hu:scanUp (fun x=>ltInt x d[a]!) d v u=u2) (hv:scanDown (fun x => !ltInt x d[a]!) d u2 v=v2) (h:v2<u2):partLoop ltInt a u v d=(v2,d):=by
 rw [partLoop_eq,hu,hv];exact if_pos h
theorem pl_go (hu:scanUp (fun x=>ltInt x d[a]!) d v u=u2) (hv:scanDown (fun x => !ltInt x d[a]!) d u2 v=v2) (h:¬ v2<u2):partLoop ltInt a u v d=partLoop ltInt a (u2+1) (v2 - 1) (swp d u2 v2):=by
 conv=>lhs; rw [partLoop_eq,hu,hv]
 exact if_neg h
theorem zoF (hu:scanUp (fun x => !ltInt d[a]! x) d v u=u2) (hv:scanDown (fun x=>ltInt d[a]! x) d u2 v=v2) (h:v2<u2):partEqLoop ltInt a u v d=(u2,d):=by
 rw [partEqLoop_eq,hu,hv];exact if_pos h
theorem pe_go (hu:scanUp (fun x => !ltInt d[a]! x) d v u=u2) (hv:scanDown (fun x=>ltInt d[a]! x) d u2 v=v2) (h:¬ v2<u2):partEqLoop ltInt a u v d=partEqLoop ltInt a (u2+1) (v2 - 1) (swp d u2 v2):=by
 conv=>lhs; rw [partEqLoop_eq,hu,hv]
 exact if_neg h
end
end Go.Vel
namespace Go.Vel
open Go Go.Conc Go.Proofs
open Go.Sort
theorem zlj {main T} (hT:zt tp main T) {gm} {j n a b pv:Nat} {d:Array Int} (hd:d.size=n) (hn:n<=100000) (ha:a<=pv) (hpv:pv<b) (hb:b<=n) :
  zr tp T gm 137 [.sl j 0 n,za a,za b,za pv] [(j,.row (d.toList.map za) 3 1)] (fun r K'=>∃ p,partition ltInt d a b pv=p/\r=.tup [za p.1,zC p.2.1]/\K'=[(j,.row (p.2.2.toList.map za) 3 1)]):=by
 refine zn 168 hT Tryz.func137 fun Y Wz=>?_;refine au 235542 ?_;refine bL [0,1,4,5,6,7,8,9,10,11,12,13,2,3,14,15] ?_;refine ad [[1,0],[1,1],[1,0],[1,3],[1,0],[1,3],[2,16,17]] ?_;refine bT [18] Z (hq:=zj Z Z ze.h (mC _) (zT (i:=pv) oQ oQ)) (h:=?_);refine ad [[1,0],[1,1],[2,20,21]] ?_;refine bT [22] Z (hq:=zj Z Z ze.h (mC _) (zT (i:=a) oQ oQ)) (h:=?_);refine ad [[2,12,13]] ?_;refine bR (Wx:=[_,_,_,_,_]) [19,24] Z Z (zE Z Z ze.h Z Z mQ (kF (k:=a) oQ oQ)) ?_;refine ad [[2,14,15]] ?_;refine bR (Wx:=[]) [23,25] Z Z (zE Z Z ze.h Z Z mQ (kG (i:=a) (j:=pv) oQ oQ)) ?_;refine ad [[14]] ?_;refine au 2 ?_;obtain ⟨d1,hd1⟩:∃ d1,d1=swp d a pv:=⟨_,rfl⟩;rw [<- hd1];have hs1:d1.size=n:=by rw [hd1]; exact kK hd
 refine au 1302355240123014 ?_;refine bA [0,1,10,11] ?_;refine bE (fun n1 Wq K=>∃ (u:Nat),n1=b - u/\a+1<=u/\u<=b/\scanUp (fun x=>ltInt x d1[a]!) d1 (b - 1) u=scanUp (fun x=>ltInt x d1[a]!) d1 (b - 1) (a+1)/\Wq=.sl j 0 n::za a::naL 8 (za u::za (b - 1:Nat)::naL 156 [])/\K=[(j,.row (d1.toList.map za) 3 1)]) (b - (a+1)) ⟨a+1,rfl,mL _,oQ,rfl,by rw [show (b:Int) - 1=((b - 1:Nat):Int) by omega] <;> rfl,rfl⟩ fun n1 Wq K hI hnextu=>?_;obtain ⟨u,rfl,hu0,hub,heqs,rfl,rfl⟩:=hI;refine bG nQ ?_;refine au 22 ?_;refine' TK.shr (X:=Unit) (D:=fun x=>scanUp (fun x=>ltInt x d1[a]!) d1 (b - 1) (a+1)=u) (E:=fun x=>.sl j 0 n::za a::naL 8 (za u::za (b - 1:Nat)::naL 156 [])) (KK:=fun x=>[(j,.row (d1.toList.map za) 3 1)]) ?_ ?_;rotate_left
 ·intro H;refine bL [0,1,2,3,4,5,6,7,8,9,10,11,12,13] ?_;refine ad [[1,10],[1,11],[4,30,31],[1,32]] ?_;refine bW 33 (fun g3_4=>?_) (fun g3_4=>?_)
  ·have hg:u<=b - 1:=by simp at g3_4; omega
   refine ad [[1,0,33],[1,10,33],[2,33,34,35]] ?_;refine bT [33,36] Z (hq:=zj Z Z ze.h (mC _) (zT (i:=u) oQ oQ)) (h:=?_);refine ad [[1,0,33],[1,1,33],[2,33,38,39]] ?_;refine bT [33,40] Z (hq:=zj Z Z ze.h (mC _) (zT (i:=a) oQ oQ)) (h:=?_);refine TD.clE (Wx:=[_,_,_,_,_,_,_,_,_]) [33,37,41] Z Z Z Z Z (kf hT) ?_;refine ad [[7,33,42],[14]] ?_;refine au 9 ?_;constructor<;>intro Jz
   ·rw [up_go (p:=(fun x=>ltInt x d1[a]!)) hg Jz] at heqs;refine au 1403523014130120 ?_;refine bA [0,1,10,11] ?_;refine bC [(j,_)] ?_;exact hnextu _ _ _ oQ ⟨u+1,rfl,oQ,oQ,heqs,rfl,rfl⟩
   have Qj:scanUp (fun x=>ltInt x d1[a]!) d1 (b - 1) (a+1)=u:=by rw [<- heqs]; exact u7 (p:=(fun x=>ltInt x d1[a]!)) (.inr Jz)
   refine au 1302160 ?_;refine bA [0,1,10,11] ?_;refine bA [0,1,10,11] ?_;refine bC [(j,_)] ?_;exact H () Qj
  have Qj:scanUp (fun x=>ltInt x d1[a]!) d1 (b - 1) (a+1)=u:=by rw [<- heqs]; exact u7 (.inl (by simp at g3_4; omega))
  refine ad [[11,0,33],[11,10,33],[11,33,34,35],[11,33,36],[11,0,33],[11,1,33],[11,33,38,39],[11,33,40],[11,33,37,41],[6,33,42],[14]] ?_;refine au 1302160190 ?_;refine bA [0,1,10,11] ?_;refine bA [0,1,10,11] ?_;refine bC [(j,_)] ?_;exact H () Qj
 ·rintro _ hup;refine bG nQ ?_;refine bE (fun n1 Wq K=>∃ (v:Nat),n1=v/\v<=b - 1/\scanDown (fun x => !ltInt x d1[a]!) d1 u v=scanDown (fun x => !ltInt x d1[a]!) d1 u (b - 1)/\Wq=.sl j 0 n::za a::naL 8 (za u::za v::naL 156 [])/\K=[(j,.row (d1.toList.map za) 3 1)]) (b - 1) ⟨b - 1,rfl,mL _,rfl,rfl,rfl⟩ fun n1 Wq K hI hnextv=>?_;obtain ⟨v,hnv,hvb,heqs,rfl,rfl⟩:=hI;subst n1;refine bG nQ ?_;refine au 22 ?_;refine' TK.shr (X:=Unit) (D:=fun x=>scanDown (fun x => !ltInt x d1[a]!) d1 u (b - 1)=v) (E:=fun x=>.sl j 0 n::za a::naL 8 (za u::za v::naL 156 [])) (KK:=fun x=>[(j,.row (d1.toList.map za) 3 1)]) ?_ ?_;rotate_left
  ·intro H;refine bL [0,1,2,3,4,5,6,7,8,9,10,11,12,13,14] ?_;refine ad [[1,10],[1,11],[4,46,47],[1,48]] ?_;refine bW 49 (fun g5_4=>?_) (fun g5_4=>?_)
   ·have hg:u<=v:=by simp at g5_4; omega
    obtain ⟨q,rfl⟩:∃ q,v=q+1:=⟨v - 1,oQ⟩;refine ad [[1,0,49],[1,11,49],[2,49,50,51]] ?_;refine bT [49,52] Z (hq:=zj Z Z ze.h (mC _) (zT (i:=q+1) oQ oQ)) (h:=?_);refine ad [[1,0,49],[1,1,49],[2,49,54,55]] ?_;refine bT [49,56] Z (hq:=zj Z Z ze.h (mC _) (zT (i:=a) oQ oQ)) (h:=?_);refine TD.clE (Wx:=[_,_,_,_,_,_,_,_,_]) [49,53,57] Z Z Z Z Z (kf hT) ?_;refine bU [49,58] Z (q_not Z Z) ?_;refine ad [[7,49,59],[14]] ?_;refine au 9 ?_;constructor<;>intro Jx
    ·rw [zcZ (p:=(fun x => !ltInt x d1[a]!)) hg Jx] at heqs;refine au 1403524014130120 ?_;refine bA [0,1,10,11] ?_;refine bC [(j,_)] ?_;exact hnextv _ _ _ oQ ⟨q,rfl,oQ,heqs,by rw [show ((q+1:Nat):Int) - 1=(q:Int) by omega]; rfl,rfl⟩
    have Qj:scanDown (fun x => !ltInt x d1[a]!) d1 u (b - 1)=q+1:=by rw [<- heqs]; exact vk (p:=(fun x => !ltInt x d1[a]!)) (.inr Jx)
    refine au 22160 ?_;refine bA [0,1,10,11] ?_;refine bC [(j,_)] ?_;exact H () Qj
   have Qj:scanDown (fun x => !ltInt x d1[a]!) d1 u (b - 1)=v:=by rw [<- heqs]; exact vk (.inl (by simp at g5_4; omega))
   refine ad [[11,0,49],[11,11,49],[11,49,50,51],[11,49,52],[11,0,49],[11,1,49],[11,49,54,55],[11,49,56],[11,49,53,57],[11,49,58],[6,49,59],[14]] ?_;refine au 22160190 ?_;refine bA [0,1,10,11] ?_;refine bC [(j,_)] ?_;exact H () Qj
  ·rintro _ hdn;refine bG nQ ?_;refine au 937114 ?_;constructor<;>intro hc2
   ·have Qp:v<u:=by simp at hc2; omega
    refine au 2 ?_;refine bL [0,1,4,5,6,7,8,9,10,11,12,13,2,3,14,15] ?_;refine ad [[1,0],[1,11],[1,0],[1,1],[1,0],[1,1],[2,70,71]] ?_;refine bT [72] Z (hq:=zj Z Z ze.h (mC _) (zT (i:=a) oQ oQ)) (h:=?_);refine ad [[1,0],[1,11],[2,74,75]] ?_;refine bT [76] Z (hq:=zj Z Z ze.h (mC _) (zT (i:=v) oQ oQ)) (h:=?_);refine ad [[2,66,67]] ?_;refine bR (Wx:=[_,_,_,_,_]) [73,78] Z Z (zE Z Z ze.h Z Z mQ (kF (k:=v) oQ oQ)) ?_;refine ad [[2,68,69]] ?_;refine bR (Wx:=[]) [77,79] Z Z (zE Z Z ze.h Z Z mQ (kG (i:=v) (j:=a) oQ oQ)) ?_;refine ad [[14]] ?_;refine au 355142 ?_;refine bB Wz [(j,_)] ?_;exact ⟨_,zoC hd1 hup hdn Qp,rfl,rfl⟩
   have hge:¬ v<u:=by simp at hc2; omega
   refine au 2120 ?_;refine bL [0,1,4,5,6,7,8,9,10,11,12,13,2,3,14,15] ?_;refine ad [[1,0],[1,10],[1,0],[1,11],[1,0],[1,11],[2,85,86]] ?_;refine bT [87] Z (hq:=zj Z Z ze.h (mC _) (zT (i:=v) oQ oQ)) (h:=?_);refine ad [[1,0],[1,10],[2,89,90]] ?_;refine bT [91] Z (hq:=zj Z Z ze.h (mC _) (zT (i:=u) oQ oQ)) (h:=?_);refine ad [[2,81,82]] ?_;refine bR (Wx:=[_,_,_,_,_]) [88,93] Z Z (zE Z Z ze.h Z Z mQ (kF (k:=u) oQ oQ)) ?_;refine ad [[2,83,84]] ?_;refine bR (Wx:=[]) [92,94] Z Z (zE Z Z ze.h Z Z mQ (kG (i:=u) (j:=v) oQ oQ)) ?_;refine ad [[14]] ?_;refine au 13023524014235230142 ?_;refine bA [0,1,10,11] ?_;obtain ⟨u0,hu0e⟩:∃ u0,u0=u:=⟨_,rfl⟩;obtain ⟨v0,hv0e⟩:∃ v0,v0=v:=⟨_,rfl⟩;have hup0:=hup;have hdn0:=hdn;have hge0:=hge;rw [<- hu0e,<- hv0e] at hdn0 hge0;rw [<- hu0e] at hup0;refine bE (fun n1 Wq K=>∃ (u2 v2:Nat) (d2:Array Int),n1=v2+1 - u2/\a<u2/\u2<=b/\v2<b/\d2.size=n/\partLoop ltInt a u2 v2 d2=partLoop ltInt a (u0+1) (v0 - 1) (swp d1 u0 v0)/\Wq=.sl j 0 n::za a::naL 8 (za u2::za v2::naL 156 [])/\K=[(j,.row (d2.toList.map za) 3 1)]) (v - 1+1 - (u+1)) ⟨u+1,v - 1,swp d1 u v,rfl,oQ,oQ,oQ,kK hs1,by rw [hu0e,hv0e],by rw [show (v:Int) - 1=((v - 1:Nat):Int) by omega] <;> rfl,rfl⟩ fun n1 Wq K hI hnext2=>?_;clear hup hdn hge;obtain ⟨u2,v2,d2,rfl,hau,hub2,hvb2,hs2,heq2,rfl,rfl⟩:=hI;refine bG nQ ?_;refine au 1302130 ?_;refine bA [0,1,10,11] ?_;refine bE (fun n1 Wq K=>∃ (u:Nat),n1=b - u/\u2<=u/\u<=b/\scanUp (fun x=>ltInt x d2[a]!) d2 (v2) u=scanUp (fun x=>ltInt x d2[a]!) d2 (v2) (u2)/\Wq=.sl j 0 n::za a::naL 8 (za u::za v2::naL 156 [])/\K=[(j,.row (d2.toList.map za) 3 1)]) (b - (u2)) ⟨u2,rfl,mL _,oQ,rfl,rfl,rfl⟩ fun n1 Wq K hI hnextu=>?_;obtain ⟨u,rfl,hu0,hub,heqs,rfl,rfl⟩:=hI;refine bG nQ ?_;refine au 22 ?_;refine' TK.shr (X:=Unit) (D:=fun x=>scanUp (fun x=>ltInt x d2[a]!) d2 (v2) (u2)=u) (E:=fun x=>.sl j 0 n::za a::naL 8 (za u::za v2::naL 156 [])) (KK:=fun x=>[(j,.row (d2.toList.map za) 3 1)]) ?_ ?_;rotate_left
   ·intro H;refine bL [0,1,2,3,4,5,6,7,8,9,10,11,12,13] ?_;refine ad [[1,10],[1,11],[4,99,100],[1,101]] ?_;refine bW 102 (fun g13_4=>?_) (fun g13_4=>?_)
    ·have hg:u<=v2:=by simp at g13_4; omega
     refine ad [[1,0,102],[1,10,102],[2,102,103,104]] ?_;refine bT [102,105] Z (hq:=zj Z Z ze.h (mC _) (zT (i:=u) oQ oQ)) (h:=?_);refine ad [[1,0,102],[1,1,102],[2,102,107,108]] ?_;refine bT [102,109] Z (hq:=zj Z Z ze.h (mC _) (zT (i:=a) oQ oQ)) (h:=?_);refine TD.clE (Wx:=[_,_,_,_,_,_,_,_,_]) [102,106,110] Z Z Z Z Z (kf hT) ?_;refine ad [[7,102,111],[14]] ?_;refine au 9 ?_;constructor<;>intro hc3
     ·rw [up_go (p:=(fun x=>ltInt x d2[a]!)) hg hc3] at heqs;refine au 1403523014130120 ?_;refine bA [0,1,10,11] ?_;refine bC [(j,_)] ?_;exact hnextu _ _ _ oQ ⟨u+1,rfl,oQ,oQ,heqs,rfl,rfl⟩
     have Qj:scanUp (fun x=>ltInt x d2[a]!) d2 (v2) (u2)=u:=by rw [<- heqs]; exact u7 (p:=(fun x=>ltInt x d2[a]!)) (.inr hc3)
     refine au 1302160 ?_;refine bA [0,1,10,11] ?_;refine bA [0,1,10,11] ?_;refine bC [(j,_)] ?_;exact H () Qj
    have Qj:scanUp (fun x=>ltInt x d2[a]!) d2 (v2) (u2)=u:=by rw [<- heqs]; exact u7 (.inl (by simp at g13_4; omega))
    refine ad [[11,0,102],[11,10,102],[11,102,103,104],[11,102,105],[11,0,102],[11,1,102],[11,102,107,108],[11,102,109],[11,102,106,110],[6,102,111],[14]] ?_;refine au 1302160190 ?_;refine bA [0,1,10,11] ?_;refine bA [0,1,10,11] ?_;refine bC [(j,_)] ?_;exact H () Qj
   ·rintro _ hup;refine bG nQ ?_;refine bE (fun n1 Wq K=>∃ (v:Nat),n1=v/\v<=v2/\scanDown (fun x => !ltInt x d2[a]!) d2 u v=scanDown (fun x => !ltInt x d2[a]!) d2 u (v2)/\Wq=.sl j 0 n::za a::naL 8 (za u::za v::naL 156 [])/\K=[(j,.row (d2.toList.map za) 3 1)]) (v2) ⟨v2,rfl,mL _,rfl,rfl,rfl⟩ fun n1 Wq K hI hnextv=>?_;obtain ⟨v,hnv,hvb,heqs,rfl,rfl⟩:=hI;subst n1;refine bG nQ ?_;refine au 22 ?_;refine' TK.shr (X:=Unit) (D:=fun x=>scanDown (fun x => !ltInt x d2[a]!) d2 u (v2)=v) (E:=fun x=>.sl j 0 n::za a::naL 8 (za u::za v::naL 156 [])) (KK:=fun x=>[(j,.row (d2.toList.map za) 3 1)]) ?_ ?_;rotate_left
    ·intro H;refine bL [0,1,2,3,4,5,6,7,8,9,10,11,12,13,14] ?_;refine ad [[1,10],[1,11],[4,115,116],[1,117]] ?_;refine bW 118 (fun g15_4=>?_) (fun g15_4=>?_)
     ·have hg:u<=v:=by simp at g15_4; omega
      obtain ⟨q,rfl⟩:∃ q,v=q+1:=⟨v - 1,oQ⟩;refine ad [[1,0,118],[1,11,118],[2,118,119,120]] ?_;refine bT [118,121] Z (hq:=zj Z Z ze.h (mC _) (zT (i:=q+1) oQ oQ)) (h:=?_);refine ad [[1,0,118],[1,1,118],[2,118,123,124]] ?_;refine bT [118,125] Z (hq:=zj Z Z ze.h (mC _) (zT (i:=a) oQ oQ)) (h:=?_);refine TD.clE (Wx:=[_,_,_,_,_,_,_,_,_]) [118,122,126] Z Z Z Z Z (kf hT) ?_;refine bU [118,127] Z (q_not Z Z) ?_;refine ad [[7,118,128],[14]] ?_;refine au 9 ?_;constructor<;>intro hc4
      ·rw [zcZ (p:=(fun x => !ltInt x d2[a]!)) hg hc4] at heqs;refine au 1403524014130120 ?_;refine bA [0,1,10,11] ?_;refine bC [(j,_)] ?_;exact hnextv _ _ _ oQ ⟨q,rfl,oQ,heqs,by rw [show ((q+1:Nat):Int) - 1=(q:Int) by omega]; rfl,rfl⟩
      have Qj:scanDown (fun x => !ltInt x d2[a]!) d2 u (v2)=q+1:=by rw [<- heqs]; exact vk (p:=(fun x => !ltInt x d2[a]!)) (.inr hc4)
      refine au 22160 ?_;refine bA [0,1,10,11] ?_;refine bC [(j,_)] ?_;exact H () Qj
     have Qj:scanDown (fun x => !ltInt x d2[a]!) d2 u (v2)=v:=by rw [<- heqs]; exact vk (.inl (by simp at g15_4; omega))
     refine ad [[11,0,118],[11,11,118],[11,118,119,120],[11,118,121],[11,0,118],[11,1,118],[11,118,123,124],[11,118,125],[11,118,122,126],[11,118,127],[6,118,128],[14]] ?_;refine au 22160190 ?_;refine bA [0,1,10,11] ?_;refine bC [(j,_)] ?_;exact H () Qj
    ·rintro _ hdn;refine bG nQ ?_;refine au 937114 ?_;constructor<;>intro hc5
     ·have Qp:v<u:=by simp at hc5; omega
      refine au 2160 ?_;refine bL [0,1,4,5,6,7,8,9,10,11,12,13,2,3,14,15] ?_;refine ad [[1,0],[1,11],[1,0],[1,1],[1,0],[1,1],[2,157,158]] ?_;refine bT [159] Z (hq:=zj Z Z ze.h (mC _) (zT (i:=a) oQ oQ)) (h:=?_);refine ad [[1,0],[1,11],[2,161,162]] ?_;refine bT [163] Z (hq:=zj Z Z ze.h (mC _) (zT (i:=v) oQ oQ)) (h:=?_);refine ad [[2,153,154]] ?_;refine bR (Wx:=[_,_,_,_,_]) [160,165] Z Z (zE Z Z ze.h Z Z mQ (kF (k:=v) oQ oQ)) ?_;refine ad [[2,155,156]] ?_;refine bR (Wx:=[]) [164,166] Z Z (zE Z Z ze.h Z Z mQ (kG (i:=v) (j:=a) oQ oQ)) ?_;refine ad [[14]] ?_;refine au 355142 ?_;refine bB Wz [(j,_)] ?_;exact ⟨_,zoD hd1 hup0 hdn0 hge0 (heq2.symm.trans (zoI hup hdn Qp)),rfl,rfl⟩
     have hge:¬ v<u:=by simp at hc5; omega
     refine au 2120 ?_;refine bL [0,1,4,5,6,7,8,9,10,11,12,13,2,3,14,15] ?_;refine ad [[1,0],[1,10],[1,0],[1,11],[1,0],[1,11],[2,139,140]] ?_;refine bT [141] Z (hq:=zj Z Z ze.h (mC _) (zT (i:=v) oQ oQ)) (h:=?_);refine ad [[1,0],[1,10],[2,143,144]] ?_;refine bT [145] Z (hq:=zj Z Z ze.h (mC _) (zT (i:=u) oQ oQ)) (h:=?_);refine ad [[2,135,136]] ?_;refine bR (Wx:=[_,_,_,_,_]) [142,147] Z Z (zE Z Z ze.h Z Z mQ (kF (k:=u) oQ oQ)) ?_;refine ad [[2,137,138]] ?_;refine bR (Wx:=[]) [146,148] Z Z (zE Z Z ze.h Z Z mQ (kG (i:=u) (j:=v) oQ oQ)) ?_;refine ad [[14]] ?_;refine au 140352401435230142 ?_;refine bA [0,1,10,11] ?_;refine bC [(j,_)] ?_;exact hnext2 _ _ _ oQ ⟨u+1,v - 1,swp d2 u v,rfl,oQ,oQ,oQ,kK hs2,(pl_go hup hdn hge).symm.trans heq2,by rw [show (v:Int) - 1=((v - 1:Nat):Int) by omega] <;> rfl,rfl⟩
theorem zoT {u v:Nat} {d:Array Int} (h:u<v):reverseLoop u v d=reverseLoop (u+1) (v - 1) (swp d u v):=by
 conv=>lhs; unfold reverseLoop
 rw [if_pos h]
theorem zng {u v:Nat} {d:Array Int} (h:¬ u<v):reverseLoop u v d=d:=by unfold reverseLoop; rw [if_neg h]
theorem zia {main T} (hT:zt tp main T) {gm} {j n a b pv:Nat} {d:Array Int} (hd:d.size=n) (hn:n<=100000) (ha:a<=pv) (hpv:pv<b) (hb:b<=n) :
  zr tp T gm 136 [.sl j 0 n,za a,za b,za pv] [(j,.row (d.toList.map za) 3 1)] (fun r K'=>∃ p,partitionEqual ltInt d a b pv=p/\r=za p.1/\K'=[(j,.row (p.2.toList.map za) 3 1)]):=by
 refine zn 84 hT Tryz.func136 fun Y Wz=>?_;refine au 23542 ?_;refine bL [0,1,4,5,6,7,8,9,10,11,12,13,2,3,14,15] ?_;refine ad [[1,0],[1,1],[1,0],[1,3],[1,0],[1,3],[2,15,16]] ?_;refine bT [17] Z (hq:=zj Z Z ze.h (mC _) (zT (i:=pv) oQ oQ)) (h:=?_);refine ad [[1,0],[1,1],[2,19,20]] ?_;refine bT [21] Z (hq:=zj Z Z ze.h (mC _) (zT (i:=a) oQ oQ)) (h:=?_);refine ad [[2,11,12]] ?_;refine bR (Wx:=[_,_,_,_,_]) [18,23] Z Z (zE Z Z ze.h Z Z mQ (kF (k:=a) oQ oQ)) ?_;refine ad [[2,13,14]] ?_;refine bR (Wx:=[]) [22,24] Z Z (zE Z Z ze.h Z Z mQ (kG (i:=a) (j:=pv) oQ oQ)) ?_;refine ad [[14]] ?_;refine au 13023552401230142 ?_;refine bA [0,1,9,10] ?_;refine bE (fun n1 Wq K=>∃ (u2 v2:Nat) (d2:Array Int),n1=v2+1 - u2/\a<u2/\u2<=b/\v2<b/\d2.size=n/\partEqLoop ltInt a u2 v2 d2=partitionEqual ltInt d a b pv/\Wq=.sl j 0 n::za a::naL 7 (za u2::za v2::naL 73 [])/\K=[(j,.row (d2.toList.map za) 3 1)]) (b - 1+1 - (a+1)) ⟨a+1,b - 1,swp d a pv,rfl,oQ,oQ,oQ,kK hd,rfl,by rw [show (b:Int) - 1=((b - 1:Nat):Int) by omega] <;> rfl,rfl⟩ fun n1 Wq K hI hnext2=>?_;obtain ⟨u2,v2,d2,rfl,hau,hub2,hvb2,hs2,heq2,rfl,rfl⟩:=hI;refine bG nQ ?_;refine au 1302130 ?_;refine bA [0,1,9,10] ?_;refine bE (fun n1 Wq K=>∃ (u:Nat),n1=b - u/\u2<=u/\u<=b/\scanUp (fun x => !ltInt d2[a]! x) d2 (v2) u=scanUp (fun x => !ltInt d2[a]! x) d2 (v2) (u2)/\Wq=.sl j 0 n::za a::naL 7 (za u::za v2::naL 73 [])/\K=[(j,.row (d2.toList.map za) 3 1)]) (b - (u2)) ⟨u2,rfl,mL _,oQ,rfl,rfl,rfl⟩ fun n1 Wq K hI hnextu=>?_;obtain ⟨u,rfl,hu0,hub,heqs,rfl,rfl⟩:=hI;refine bG nQ ?_;refine au 22 ?_;refine' TK.shr (X:=Unit) (D:=fun x=>scanUp (fun x => !ltInt d2[a]! x) d2 (v2) (u2)=u) (E:=fun x=>.sl j 0 n::za a::naL 7 (za u::za v2::naL 73 [])) (KK:=fun x=>[(j,.row (d2.toList.map za) 3 1)]) ?_ ?_;rotate_left
 ·intro H;refine bL [0,1,2,3,4,5,6,7,8,9,10,11,12,13,14] ?_;refine ad [[1,9],[1,10],[4,29,30],[1,31]] ?_;refine bW 32 (fun g3_4=>?_) (fun g3_4=>?_)
  ·have hg:u<=v2:=by simp at g3_4; omega
   refine ad [[1,0,32],[1,1,32],[2,32,33,34]] ?_;refine bT [32,35] Z (hq:=zj Z Z ze.h (mC _) (zT (i:=a) oQ oQ)) (h:=?_);refine ad [[1,0,32],[1,9,32],[2,32,37,38]] ?_;refine bT [32,39] Z (hq:=zj Z Z ze.h (mC _) (zT (i:=u) oQ oQ)) (h:=?_);refine TD.clE (Wx:=[_,_,_,_,_,_,_,_,_]) [32,36,40] Z Z Z Z Z (kf hT) ?_;refine bU [32,41] Z (q_not Z Z) ?_;refine ad [[7,32,42],[14]] ?_;refine au 9 ?_;constructor<;>intro Jz
   ·rw [up_go (p:=(fun x => !ltInt d2[a]! x)) hg Jz] at heqs;refine au 1403523014130120 ?_;refine bA [0,1,9,10] ?_;refine bC [(j,_)] ?_;exact hnextu _ _ _ oQ ⟨u+1,rfl,oQ,oQ,heqs,rfl,rfl⟩
   have Qj:scanUp (fun x => !ltInt d2[a]! x) d2 (v2) (u2)=u:=by rw [<- heqs]; exact u7 (p:=(fun x => !ltInt d2[a]! x)) (.inr Jz)
   refine au 1302160 ?_;refine bA [0,1,9,10] ?_;refine bA [0,1,9,10] ?_;refine bC [(j,_)] ?_;exact H () Qj
  have Qj:scanUp (fun x => !ltInt d2[a]! x) d2 (v2) (u2)=u:=by rw [<- heqs]; exact u7 (.inl (by simp at g3_4; omega))
  refine ad [[11,0,32],[11,1,32],[11,32,33,34],[11,32,35],[11,0,32],[11,9,32],[11,32,37,38],[11,32,39],[11,32,36,40],[11,32,41],[6,32,42],[14]] ?_;refine au 1302160190 ?_;refine bA [0,1,9,10] ?_;refine bA [0,1,9,10] ?_;refine bC [(j,_)] ?_;exact H () Qj
 ·rintro _ hup;refine bG nQ ?_;refine bE (fun n1 Wq K=>∃ (v:Nat),n1=v/\v<=v2/\scanDown (fun x=>ltInt d2[a]! x) d2 u v=scanDown (fun x=>ltInt d2[a]! x) d2 u (v2)/\Wq=.sl j 0 n::za a::naL 7 (za u::za v::naL 73 [])/\K=[(j,.row (d2.toList.map za) 3 1)]) (v2) ⟨v2,rfl,mL _,rfl,rfl,rfl⟩ fun n1 Wq K hI hnextv=>?_;obtain ⟨v,hnv,hvb,heqs,rfl,rfl⟩:=hI;subst n1;refine bG nQ ?_;refine au 22 ?_;refine' TK.shr (X:=Unit) (D:=fun x=>scanDown (fun x=>ltInt d2[a]! x) d2 u (v2)=v) (E:=fun x=>.sl j 0 n::za a::naL 7 (za u::za v::naL 73 [])) (KK:=fun x=>[(j,.row (d2.toList.map za) 3 1)]) ?_ ?_;rotate_left
  ·intro H;refine bL [0,1,2,3,4,5,6,7,8,9,10,11,12,13] ?_;refine ad [[1,9],[1,10],[4,46,47],[1,48]] ?_;refine bW 49 (fun g5_4=>?_) (fun g5_4=>?_)
   ·have hg:u<=v:=by simp at g5_4; omega
    obtain ⟨q,rfl⟩:∃ q,v=q+1:=⟨v - 1,oQ⟩;refine ad [[1,0,49],[1,1,49],[2,49,50,51]] ?_;refine bT [49,52] Z (hq:=zj Z Z ze.h (mC _) (zT (i:=a) oQ oQ)) (h:=?_);refine ad [[1,0,49],[1,10,49],[2,49,54,55]] ?_;refine bT [49,56] Z (hq:=zj Z Z ze.h (mC _) (zT (i:=q+1) oQ oQ)) (h:=?_);refine TD.clE (Wx:=[_,_,_,_,_,_,_,_,_]) [49,53,57] Z Z Z Z Z (kf hT) ?_;refine ad [[7,49,58],[14]] ?_;refine au 9 ?_;constructor<;>intro Jx
    ·rw [zcZ (p:=(fun x=>ltInt d2[a]! x)) hg Jx] at heqs;refine au 1403524014130120 ?_;refine bA [0,1,9,10] ?_;refine bC [(j,_)] ?_;exact hnextv _ _ _ oQ ⟨q,rfl,oQ,heqs,by rw [show ((q+1:Nat):Int) - 1=(q:Int) by omega]; rfl,rfl⟩
    have Qj:scanDown (fun x=>ltInt d2[a]! x) d2 u (v2)=q+1:=by rw [<- heqs]; exact vk (p:=(fun x=>ltInt d2[a]! x)) (.inr Jx)
    refine au 22160 ?_;refine bA [0,1,9,10] ?_;refine bC [(j,_)] ?_;exact H () Qj
   have Qj:scanDown (fun x=>ltInt d2[a]! x) d2 u (v2)=v:=by rw [<- heqs]; exact vk (.inl (by simp at g5_4; omega))
   refine ad [[11,0,49],[11,1,49],[11,49,50,51],[11,49,52],[11,0,49],[11,10,49],[11,49,54,55],[11,49,56],[11,49,53,57],[6,49,58],[14]] ?_;refine au 22160190 ?_;refine bA [0,1,9,10] ?_;refine bC [(j,_)] ?_;exact H () Qj
  ·rintro _ hdn;refine bG nQ ?_;refine au 937114 ?_;constructor<;>intro hc2
   ·have Qp:v<u:=by simp at hc2; omega
    refine au 35142160 ?_;refine bB Wz [(j,_)] ?_;exact ⟨_,heq2.symm.trans (zoF hup hdn Qp),rfl,rfl⟩
   have hge:¬ v<u:=by simp at hc2; omega
   refine au 2120 ?_;refine bL [0,1,4,5,6,7,8,9,10,11,12,13,2,3,14,15] ?_;refine ad [[1,0],[1,9],[1,0],[1,10],[1,0],[1,10],[2,69,70]] ?_;refine bT [71] Z (hq:=zj Z Z ze.h (mC _) (zT (i:=v) oQ oQ)) (h:=?_);refine ad [[1,0],[1,9],[2,73,74]] ?_;refine bT [75] Z (hq:=zj Z Z ze.h (mC _) (zT (i:=u) oQ oQ)) (h:=?_);refine ad [[2,65,66]] ?_;refine bR (Wx:=[_,_,_,_,_]) [72,77] Z Z (zE Z Z ze.h Z Z mQ (kF (k:=u) oQ oQ)) ?_;refine ad [[2,67,68]] ?_;refine bR (Wx:=[]) [76,78] Z Z (zE Z Z ze.h Z Z mQ (kG (i:=u) (j:=v) oQ oQ)) ?_;refine ad [[14]] ?_;refine au 140352401435230142 ?_;refine bA [0,1,9,10] ?_;refine bC [(j,_)] ?_;exact hnext2 _ _ _ oQ ⟨u+1,v - 1,swp d2 u v,rfl,oQ,oQ,oQ,kK hs2,(pe_go hup hdn hge).symm.trans heq2,by rw [show (v:Int) - 1=((v - 1:Nat):Int) by omega] <;> rfl,rfl⟩
theorem znf {main T} (hT:zt tp main T) {gm} {j n a b:Nat} {d:Array Int} (hd:d.size=n) (hn:n<=100000) (hab:a<b) (hb:b<=n) :
  zr tp T gm 133 [.sl j 0 n,za a,za b] [(j,.row (d.toList.map za) 3 1)] (fun r K'=>K'=[(j,.row ((reverseRange d a b).toList.map za) 3 1)]):=by
 refine zn 32 hT Tryz.func133 fun Y Wz=>?_;refine au 1303524014235142 ?_;refine bA [0,6,7] ?_;refine bE (fun n1 Wq K=>∃ (u v:Nat) (d1:Array Int),n1=v - u/\u<=b/\v<b/\d1.size=n/\reverseLoop u v d1=reverseRange d a b/\Wq=.sl j 0 n::naL 5 (za u::za v::naL 24 [])/\K=[(j,.row (d1.toList.map za) 3 1)]) (b - 1 - a) ⟨a,b - 1,d,rfl,oQ,oQ,hd,rfl,by rw [show (b:Int) - 1=((b - 1:Nat):Int) by omega] <;> rfl,rfl⟩ fun n1 Wq K hI Wj=>?_;obtain ⟨u,v,d1,rfl,hub,hvb,hs1,heq,rfl,rfl⟩:=hI;refine bG nQ ?_;refine au 93711422 ?_;constructor<;>intro Jz
 ·have Qp:u<v:=by simp at Jz; omega
  rw [zoT Qp] at heq;refine au 2130120 ?_;refine bL [0,1,4,5,6,7,8,9,10,11,12,13,2,3,14,15] ?_;refine ad [[1,0],[1,6],[1,0],[1,7],[1,0],[1,7],[2,18,19]] ?_;refine bT [20] Z (hq:=zj Z Z ze.h (mC _) (zT (i:=v) oQ oQ)) (h:=?_);refine ad [[1,0],[1,6],[2,22,23]] ?_;refine bT [24] Z (hq:=zj Z Z ze.h (mC _) (zT (i:=u) oQ oQ)) (h:=?_);refine ad [[2,14,15]] ?_;refine bR (Wx:=[_,_,_,_,_]) [21,26] Z Z (zE Z Z ze.h Z Z mQ (kF (k:=u) oQ oQ)) ?_;refine ad [[2,16,17]] ?_;refine bR (Wx:=[]) [25,27] Z Z (zE Z Z ze.h Z Z mQ (kG (i:=u) (j:=v) oQ oQ)) ?_;refine ad [[14]] ?_;refine au 140352401435230142 ?_;refine bA [0,6,7] ?_;refine bC [(j,_)] ?_;exact Wj _ _ _ oQ ⟨u+1,v - 1,swp d1 u v,rfl,oQ,oQ,kK hs1,heq,by rw [show (v:Int) - 1=((v - 1:Nat):Int) by omega] <;> rfl,rfl⟩
 have Qp:¬ u<v:=by simp at Jz; omega
 refine au 160 ?_;refine TK.rt0 Wz [(j,_)] ?_;rw [<- heq]; rw [zng Qp]
theorem zam {main T} (hT:zt tp main T) {gm} {j js n a b:Nat} {d:Array Int} {sw:Int} (hd:d.size=n) (hn:n<=100000) (ha:a<n) (hb:b<n) (hsw:0<=sw/\sw<=1000) :
  zr tp T gm 193 [.sl j 0 n,za a,za b,.ptr js 0] [(j,.row (d.toList.map za) 3 1),(js,.cells [za sw] 3 tt)] (fun r K'=>∃ (x y:Nat) (sw':Int),((x=a/\y=b)\/(x=b/\y=a))/\0<=sw'/\sw'<=sw+1/\r=.tup [za x,za y]/\K'=[(j,.row (d.toList.map za) 3 1),(js,.cells [za sw'] 3 tt)]):=by
 refine zn 28 hT Tryz.func193 fun Y Wz=>?_;refine au 2235542 ?_;refine bL [0,1,2,3,4,5,6,7,8] ?_;refine ad [[1,0],[1,2],[2,10,11]] ?_;refine bT [12] Z (hq:=zj Z Z ze.h (mC _) (zT (i:=b) oQ oQ)) (h:=?_);refine ad [[1,0],[1,1],[2,14,15]] ?_;refine bT [16] Z (hq:=zj Z Z ze.h (mC _) (zT (i:=a) oQ oQ)) (h:=?_);refine TD.clE (Wx:=[_,_,_,_,_,_]) [13,17] Z Z Z Z Z (kf hT) ?_;refine ad [[14]] ?_;refine au 9 ?_;constructor<;>intro Jz
 ·refine au 142 ?_;refine bH Z (yD Z Z) ?_;refine au 230690 ?_;refine bH Z (yD Z Z) ?_;refine au 35511423170 ?_;refine bB Wz [(j,_),(js,_)] ?_;exact ⟨_,_,_,.inr ⟨rfl,rfl⟩,oQ,oQ,rfl,rfl⟩
 refine au 3551142120 ?_;refine bB Wz [(j,_),(js,_)] ?_;exact ⟨_,_,_,.inl ⟨rfl,rfl⟩,oQ,oQ,rfl,rfl⟩
theorem zai {main T} (hT:zt tp main T) {gm} {j js n a b c:Nat} {d:Array Int} {sw:Int} (hd:d.size=n) (hn:n<=100000) (ha:a<n) (hb:b<n) (hc:c<n) (hsw:0<=sw/\sw<=900) :
  zr tp T gm 177 [.sl j 0 n,za a,za b,za c,.ptr js 0] [(j,.row (d.toList.map za) 3 1),(js,.cells [za sw] 3 tt)] (fun r K'=>∃ (x:Nat) (sw':Int),(x=a\/x=b\/x=c)/\0<=sw'/\sw'<=sw+3/\r=za x/\K'=[(j,.row (d.toList.map za) 3 1),(js,.cells [za sw'] 3 tt)]):=by
 refine zn 36 hT Tryz.func177 fun Y Wz=>?_;refine au 1111423542 ?_;refine bD Z Z Z Z (zam hT (sw:=sw) hd hn oQ oQ oQ) ?_;rintro r1 K2 ⟨x1,y1,q1,hx1,hq11,hq12,rfl,rfl⟩;refine au 111142355661 ?_;refine bD Z Z Z Z (zam hT (sw:=q1) hd hn oQ oQ oQ) ?_;rintro r4 K5 ⟨x2,y2,q2,hx2,hq21,hq22,rfl,rfl⟩;refine au 111142355661 ?_;refine bD Z Z Z Z (zam hT (sw:=q2) hd hn oQ oQ oQ) ?_;rintro r7 K8 ⟨x3,y3,q3,hx3,hq31,hq32,rfl,rfl⟩;refine au 35142355661 ?_;refine bB Wz [(j,_),(js,_)] ?_;exact ⟨_,_,oQ,oQ,oQ,rfl,rfl⟩
theorem vF {main T} (hT:zt tp main T) {gm} {j js n a:Nat} {d:Array Int} {sw:Int} (hd:d.size=n) (hn:n<=100000) (h1:1<=a) (ha:a+1<n) (hsw:0<=sw/\sw<=900) :
  zr tp T gm 176 [.sl j 0 n,za a,.ptr js 0] [(j,.row (d.toList.map za) 3 1),(js,.cells [za sw] 3 tt)] (fun r K'=>∃ (x:Nat) (sw':Int),a<=x+1/\x<=a+1/\0<=sw'/\sw'<=sw+3/\r=za x/\K'=[(j,.row (d.toList.map za) 3 1),(js,.cells [za sw'] 3 tt)]):=by
 refine zn 15 hT Tryz.func176 fun Y Wz=>?_;refine au 23542 ?_;obtain ⟨p,rfl⟩:∃ p,a=p+1:=⟨a - 1,oQ⟩;refine au 240114 ?_;rw [show ((p+1:Nat):Int) - 1=(p:Int) by omega];refine au 123011 ?_;refine bD Z Z Z Z (zai hT (sw:=sw) (a:=p) (b:=p+1) (c:=p+1+1) hd hn oQ oQ oQ oQ) ?_;rintro r1 K2 ⟨x,q,hx,hq1,hq2,rfl,rfl⟩;refine au 35 ?_;refine bB Wz [(j,_),(js,_)] ?_;exact ⟨_,_,oQ,oQ,oQ,oQ,rfl,rfl⟩
end Go.Vel
namespace Go.Vel
open Go Go.Conc Go.Proofs
theorem zcd {n:Int} (h:0<=n/\n<18446744073709551616):IntKind.u64.wrap n=n:=by
 unfold IntKind.wrap;simp only [show IntKind.u64.bits=64 from rfl,show IntKind.u64.signed=ff from rfl,Bool.false_and];split <;> rename_i h1 <;> first | (exact absurd h1 dQ) | omega
theorem zo8 (x:Int):0<=IntKind.u64.wrap x/\IntKind.u64.wrap x<18446744073709551616:=by
 unfold IntKind.wrap;simp only [show IntKind.u64.bits=64 from rfl,show IntKind.u64.signed=ff from rfl,Bool.false_and];split <;> rename_i h1 <;> first | (exact absurd h1 dQ) | omega
def xorW (a b:Int):Int:=IntKind.u64.wrap ((BitVec.ofInt 64 a ^^^ BitVec.ofInt 64 b).toNat:Int)
def andW (a b:Int):Int:=IntKind.u64.wrap ((BitVec.ofInt 64 a &&& BitVec.ofInt 64 b).toNat:Int)
theorem zhx (a b:Int):0<=xorW a b/\xorW a b<18446744073709551616:=zo8 _
theorem zlY (a:Int) {b:Nat} (hb:b<1000000):0<=andW a b/\andW a b<=b:=by
 have h1:(BitVec.ofInt 64 (b:Int)).toNat=b:=by
  rw [BitVec.toNat_ofInt];omega
 have h2:(BitVec.ofInt 64 a &&& BitVec.ofInt 64 (b:Int)).toNat<=b:=by
  rw [BitVec.toNat_and,h1];exact Nat.and_le_right
 unfold andW;rw [zcd oQ];omega
section
variable {P:gP} {gm:Nat->Option Nat} {V:KV} {Wq:List AV} {o:Oper}
theorem zdc {t yt:gT} {x y:gO} {a b:Int} (ho:o.op=.binOp .xor t x y yt) (hx:zo gm Wq x=some (.v (.int .u64 a))) (hy:zo gm Wq y=some (.v (.int .u64 b))):Qk P gm Wq V o (.v (.int .u64 (xorW a b))):=kx ho hx hy rfl
theorem zm8 {t yt:gT} {x y:gO} {a b:Int} (ho:o.op=.binOp .and t x y yt) (hx:zo gm Wq x=some (.v (.int .u64 a))) (hy:zo gm Wq y=some (.v (.int .u64 b))):Qk P gm Wq V o (.v (.int .u64 (andW a b))):=kx ho hx hy rfl
theorem znb {t yt:gT} {x y:gO} {a b:Int} (ho:o.op=.binOp .sub t x y yt) (hx:zo gm Wq x=some (.v (.int .u64 a))) (hy:zo gm Wq y=some (.v (.int .u64 b))) (h:0<=a - b/\a - b<18446744073709551616):Qk P gm Wq V o (.v (.int .u64 (a - b))):=by
 refine kx ho hx hy ?_;show some (Value.int .u64 (IntKind.u64.wrap (a - b)))=_;rw [zcd h]
theorem zg8 {t yt:gT} {x y:gO} {k':IntKind} {a b:Int} (ho:o.op=.binOp .shr t x y yt) (hx:zo gm Wq x=some (.v (.int .u64 a))) (hy:zo gm Wq y=some (.v (.int k' b))) (h0:0<=b):Qk P gm Wq V o (.v (.int .u64 (a.fdiv (2 ^ min b.toNat 64)))):=fun A _=>by
 refine wm ho (by rw [zA hx]; rfl) (by rw [zA hy]; rfl) ?_;rw [wR];show zO P (Op.shift .shr .u64 a k' b)=_;unfold Op.shift;rw [if_neg oQ];rfl
end
theorem zmw {s:ByteArray} {n:Nat} (hn:n<256) (h:n<s.size) (hall:(List.range 256).all (fun k=>match s[k]? with | some c=>decide (c.toNat<=8/\(k=0\/2 ^ c.toNat<=2*k)) | none=>tt)=tt):∃ m:Nat,za (0+((s[n]'h).toNat:Int))=za m/\m<=8/\(n=0\/2 ^ m<=2*n)/\([]:KV)=[]:=by
 have h1:=List.all_eq_true.1 hall n (List.mem_range.2 hn);rw [getElem?_pos s n h] at h1;have h2:=of_decide_eq_true h1;exact ⟨(s[n]'h).toNat,by rw [Int.zero_add],h2.1,h2.2,rfl⟩
theorem zkN {s:ByteArray} {n:Nat} (hn:n<256) (h:n<s.size) (hall:(List.range 256).all (fun k=>match s[k]? with | some c=>decide (c.toNat<=8/\(k=0\/2 ^ c.toNat<=2*k)) | none=>tt)=tt):∃ m:Nat,za (0+((s[n]'h).toNat:Int))=za m/\m<=16/\(n=0\/2 ^ m<=2*n)/\([]:KV)=[]:=by
 obtain ⟨m,h1,h2,h3,h4⟩:=zmw hn h hall;exact ⟨m,h1,oQ,h3,h4⟩
theorem zkO {s:ByteArray} {n:Nat} (hn:n<65536) (h256:256<=n) (h:n / 256<s.size) (hall:(List.range 256).all (fun k=>match s[k]? with | some c=>decide (c.toNat<=8/\(k=0\/2 ^ c.toNat<=2*k)) | none=>tt)=tt):∃ m:Nat,za (0+8+((s[n / 256]'h).toNat:Int))=za m/\m<=16/\(n=0\/2 ^ m<=2*n)/\([]:KV)=[]:=by
 have h1:=List.all_eq_true.1 hall (n / 256) (List.mem_range.2 oQ);rw [getElem?_pos s (n / 256) h] at h1;have h2:=of_decide_eq_true h1;have h3:2 ^ (s[n / 256]'h).toNat<=2*(n / 256):=h2.2.resolve_left oQ;refine ⟨8+(s[n / 256]'h).toNat,by congr 1,oQ,.inr ?_,rfl⟩;rw [Nat.pow_add];omega
theorem ziz (c:UInt8) : -9223372036854775808<=0+8+(c.toNat:Int)/\0+8+(c.toNat:Int)<9223372036854775808:=by have:=c.toNat_lt; omega
theorem zbk {n:Nat} (h:n<65536):IntKind.u64.wrap (n:Int)=n:=zcd oQ
theorem shr8 {n:Nat}:((n:Int).fdiv (2 ^ min ((8:Int)).toNat 64))=((n / 256:Nat):Int):=by
 show ((n:Int).fdiv 256)=_;rw [Int.fdiv_eq_ediv_of_nonneg _ dQ];rfl
theorem znk {m:Nat} (hm:m<=16):IntKind.u64.wrap (1*2 ^ ((m:Nat):Int).toNat)=((2 ^ m:Nat):Int):=by
 have:m=0\/m=1\/m=2\/m=3\/m=4\/m=5\/m=6\/m=7\/m=8\/m=9\/m=10\/m=11\/m=12\/m=13\/m=14\/m=15\/m=16:=by omega
 rcases this with rfl | rfl | rfl | rfl | rfl | rfl | rfl | rfl | rfl | rfl | rfl | rfl | rfl | rfl | rfl | rfl | rfl <;> decide
end Go.Vel
namespace Go.Vel
open Go Go.Conc Go.Proofs
open Go.Sort
instance:ze tp 267 ff 1:={}
instance:TyZA tp 3 [.v (.int .i64 0)]:={}
theorem zm3 {main T} (hT:zt tp main T) {gm} {j n a b:Nat} {d:Array Int} (hd:d.size=n) (hn:n<=100000) (hab:a<b) (hb:b<=n) :
  zr tp T gm 132 [.sl j 0 n,za a,za b] [(j,.row (d.toList.map za) 3 1)] (fun r K'=>∃ (p:Nat) (hh:Int),a<=p/\p<b/\r=.tup [za p,za hh]/\K'=[(j,.row (d.toList.map za) 3 1)]):=by
 refine zn 57 hT Tryz.func132 fun Y Wz=>?_;refine au 235240114235542 ?_;rw [show (b:Int) - (a:Int)=((b - a:Nat):Int) by omega];refine au 2204 ?_;intro js hjs;refine au 11423 ?_;refine bH Z (q_quo Z Z Z oQ oQ oQ) ?_;refine bH Z (q_mul Z Z Z oQ) ?_;refine au 114235230 ?_;refine bH Z (q_quo Z Z Z oQ oQ oQ) ?_;refine bH Z (q_mul Z Z Z oQ) ?_;refine au 114235230 ?_;refine bH Z (q_quo Z Z Z oQ oQ oQ) ?_;refine bH Z (q_mul Z Z Z oQ) ?_;refine au 2235230 ?_;obtain ⟨I,hI⟩:∃ I:Nat,I=a+(b - a) / 4:=⟨_,rfl⟩;obtain ⟨J,hJ⟩:∃ J:Nat,J=a+(b - a) / 4*2:=⟨_,rfl⟩;obtain ⟨L,hL⟩:∃ L:Nat,L=a+(b - a) / 4*3:=⟨_,rfl⟩;refine' TK.shr (X:=Nat×Int) (D:=fun x=>a<=x.1/\x.1<b) (E:=fun x=>naL 9 (.ptr js 0::.any::za x.1::naL 45 [])) (KK:=fun x=>[(j,.row (d.toList.map za) 3 1),(js,.cells [za x.2] 3 tt)]) ?_ ?_;rotate_left
 ·intro H;rw [show (a:Int)+((b - a:Nat):Int) / 4*1=(I:Int) by omega,show (a:Int)+((b - a:Nat):Int) / 4*2=(J:Int) by omega,show (a:Int)+((b - a:Nat):Int) / 4*3=(L:Int) by omega];refine au 93714 ?_;constructor<;>intro Jz
  ·have h8:8<=b - a:=by simp at Jz; omega
   refine au 9371422 ?_;constructor<;>intro Jx
   ·have h50:50<=b - a:=by simp at Jx; omega
    refine au 1142 ?_;refine bD Z Z Z Z (vF hT (sw:=0) (a:=I) hd hn oQ oQ oQ) ?_;rintro r1 K2 ⟨x1,q1,hx11,hx12,hx13,hx14,rfl,rfl⟩;refine au 114235 ?_;refine bD Z Z Z Z (vF hT (sw:=q1) (a:=J) hd hn oQ oQ oQ) ?_;rintro r4 K5 ⟨x2,q2,hx21,hx22,hx23,hx24,rfl,rfl⟩;refine au 11435 ?_;refine bD Z Z Z Z (vF hT (sw:=q2) (a:=L) hd hn oQ oQ oQ) ?_;rintro r7 K8 ⟨x3,q3,hx31,hx32,hx33,hx34,rfl,rfl⟩;refine au 1111435 ?_;refine bD Z Z Z Z (zai hT (sw:=q3) (a:=x1) (b:=x2) (c:=x3) hd hn oQ oQ oQ oQ) ?_;rintro r10 K11 ⟨x4,q4,hx4,hx42,hx43,rfl,rfl⟩;refine au 235 ?_;refine bA [9,11] ?_;refine bC [(j,_),(js,_)] ?_;exact H (x4,q4) ⟨by omega,oQ⟩
   refine au 11114120 ?_;refine bD Z Z Z Z (zai hT (sw:=0) (a:=I) (b:=J) (c:=L) hd hn oQ oQ oQ oQ) ?_;rintro r13 K14 ⟨x4,q4,hx4,hx42,hx43,rfl,rfl⟩;refine au 235 ?_;refine bA [9,11] ?_;refine bC [(j,_),(js,_)] ?_;exact H (x4,q4) ⟨by omega,oQ⟩
  refine au 2120 ?_;refine bA [9,11] ?_;refine bC [(j,_),(js,_)] ?_;exact H (J,0) ⟨by omega,oQ⟩
 ·rintro ⟨p,sw⟩ ⟨hp1,hp2⟩; dsimp only at hp1 hp2 ⊢;refine bG nQ ?_;refine au 93574213036904 ?_;constructor<;>intro hc2
  ·refine au 355142 ?_;refine bB Wz [(j,_)] ?_;exact ⟨p,_,hp1,hp2,rfl,rfl⟩
  refine au 935742 ?_;constructor<;>intro hc3
  ·refine au 355142 ?_;refine bB Wz [(j,_)] ?_;exact ⟨p,_,hp1,hp2,rfl,rfl⟩
  refine au 355142 ?_;refine bB Wz [(j,_)] ?_;exact ⟨p,_,hp1,hp2,rfl,rfl⟩
theorem zi2 {main T} (hT:zt tp main T) {gm} {n:Nat} (hn:n<65536) :
  zr tp T gm 139 [.v (.int .u64 n)] [] (fun r K'=>∃ m:Nat,r=za m/\m<=16/\(n=0\/2 ^ m<=2*n)/\K'=[]):=by
 refine zn 25 hT Tryz.func139 fun Y Wz=>?_;refine au 93714223542 ?_;constructor<;>intro Jz
 ·simp at Jz; omega
 refine au 9371422120 ?_;constructor<;>intro Jx
 ·simp at Jx; omega
 refine au 9371422120 ?_;constructor<;>intro hc2
 ·have h256:256<=n:=by simp at hc2; omega
  refine au 142 ?_;refine bH Z (zg8 Z Z Z dQ) ?_;rw [shr8];refine au 1142352301435 ?_;refine bH Z (yu Z Z Und.h Und.h (zce (n:=n / 256) oQ)) ?_;refine bH Z (wA Z Z Z Und.h oQ (zeu (n:=n / 256) oQ Z)) ?_;refine bH Z (yu Z Z Und.h Und.h (zbj _)) ?_;refine bH Z (q_add Z Z Z (ziz _)) ?_;refine au 35 ?_;refine TK.rta Wz ?_;exact zkO hn h256 _ (by decide +kernel)
 have h255:n<256:=by simp at hc2; omega
 refine au 1142120 ?_;refine bH Z (yu Z Z Und.h Und.h (zce h255)) ?_;refine bH Z (wA Z Z Z Und.h oQ (zeu h255 Z)) ?_;refine bH Z (yu Z Z Und.h Und.h (zbj _)) ?_;refine bH Z (q_add Z Z Z (zew _)) ?_;refine au 35 ?_;refine TK.rta Wz ?_;exact zkN h255 _ (by decide +kernel)
theorem zbD {main T} (hT:zt tp main T) {gm} {n:Nat} (hn:n<65536) :
  zr tp T gm 109 [.v (.int .u64 n)] [] (fun r K'=>∃ m:Nat,r=za m/\m<=16/\(n=0\/2 ^ m<=2*n)/\K'=[]):=by
 refine zn 8 hT Tryz.func109 fun Y Wz=>?_;refine au 14212019023542 ?_;refine bD Z Z Z Z (zi2 hT hn) ?_;rintro r1 K2 ⟨m,rfl,hm8,hm2,rfl⟩;refine au 35 ?_;refine TK.rta Wz ?_;exact ⟨m,rfl,hm8,hm2,rfl⟩
theorem zk2 {main T} (hT:zt tp main T) {gm} {n:Nat} (hn:n<65536) (h1:1<=n) :
  zr tp T gm 174 [za n] [] (fun r K'=>∃ M:Nat,1<=M/\M<=2*n/\r=.v (.int .u64 (M:Int))/\K'=[]):=by
 refine zn 7 hT Tryz.func174 fun Y Wz=>?_;refine au 1423542 ?_;refine bH Z (yu Z Z Und.h Und.h (zbk (n:=n) oQ)) ?_;refine bD Z Z Z Z (zbD hT (n:=n) hn) ?_;rintro r1 K2 ⟨m,rfl,hm8,hm2,rfl⟩;refine au 0 ?_;refine bH Z (q_shL Z Z Z ⟨by omega,by show ((m:Nat):Int)<=64; omega⟩ (r:=((2 ^ m:Nat):Int)) (znk hm8)) ?_;refine au 35 ?_;refine TK.rta Wz ?_;exact ⟨2 ^ m,Nat.two_pow_pos _,oQ,rfl,rfl⟩
theorem zk1 {main T} (hT:zt tp main T) {gm} {jx:Nat} {x:Int} :
  zr tp T gm 175 [.ptr jx 0] [(jx,.cells [.v (.int .u64 x)] 267 tt)] (fun r K'=>∃ y:Int,0<=y/\y<18446744073709551616/\r=.v (.int .u64 y)/\K'=[(jx,.cells [.v (.int .u64 y)] 267 tt)]):=by
 refine zn 33 hT Tryz.func175 fun Y Wz=>?_;refine au 23542 ?_;refine bL [0,1,2,3,4,5,6,7,8,9] ?_;refine ad [[1,0]] ?_;refine bU [3] Z (yD Z Z) ?_;refine ad [[10,4],[1,0]] ?_;refine bU [6] Z (yD Z Z) ?_;refine ad [[10,7]] ?_;refine bU [8] Z (q_shL Z Z Z ⟨by decide,by decide⟩ rfl) ?_;refine bU [5,9] Z (zdc Z Z Z) ?_;refine bU [3] Z (yD Z Z) ?_;refine bR (Wx:=[]) [10,11] Z Z (zE Z Z ze.h Z Z mQ Z) ?_;refine ad [[14]] ?_;refine au 2 ?_;refine bL [0,1,2,3,4,5,6,7,8,9] ?_;refine ad [[1,0]] ?_;refine bU [12] Z (yD Z Z) ?_;refine ad [[10,13],[1,0]] ?_;refine bU [15] Z (yD Z Z) ?_;refine ad [[10,16]] ?_;refine bU [17] Z (zg8 Z Z Z dQ) ?_;refine bU [14,18] Z (zdc Z Z Z) ?_;refine bU [12] Z (yD Z Z) ?_;refine bR (Wx:=[]) [19,20] Z Z (zE Z Z ze.h Z Z mQ Z) ?_;refine ad [[14]] ?_;refine au 2 ?_;refine bL [0,1,2,3,4,5,6,7,8,9] ?_;refine ad [[1,0]] ?_;refine bU [21] Z (yD Z Z) ?_;refine ad [[10,22],[1,0]] ?_;refine bU [24] Z (yD Z Z) ?_;refine ad [[10,25]] ?_;refine bU [26] Z (q_shL Z Z Z ⟨by decide,by decide⟩ rfl) ?_;refine bU [23,27] Z (zdc Z Z Z) ?_;refine bU [21] Z (yD Z Z) ?_;refine bR (Wx:=[]) [28,29] Z Z (zE Z Z ze.h Z Z mQ Z) ?_;refine ad [[14]] ?_;refine au 142 ?_;refine bH Z (yD Z Z) ?_;refine au 35690 ?_;refine bB Wz [(jx,_)] ?_;exact ⟨_,(zhx _ _).1,(zhx _ _).2,rfl,rfl⟩
end Go.Vel
namespace Go.Vel
open Go Go.Conc Go.Sort
section
variable {a b i u v q s:Nat} {d d2 d3 d4:Array Int}
theorem ss_go (h:u<b) (hl:(!ltInt d[u]! d[u - 1]!)=tt):scanSorted ltInt d b u=scanSorted ltInt d b (u+1):=by
 conv=>lhs; unfold scanSorted
 rw [if_pos (by rw [hl]; simp [h])]
theorem zjU (h:¬ u<b\/(!ltInt d[u]! d[u - 1]!)=ff):scanSorted ltInt d b u=u:=by
 unfold scanSorted;rw [if_neg (by rcases h with h | h <;> simp [h])]
theorem sd_go (hl:(!ltInt d[q+1]! d[q]!)=ff):shiftDown ltInt (q+1) d=shiftDown ltInt q (swp d (q+1) q):=by
 conv=>lhs; unfold shiftDown
 rw [if_neg (by rw [hl]; decide)]
theorem zni (hl:(!ltInt d[q+1]! d[q]!)=tt):shiftDown ltInt (q+1) d=d:=by
 unfold shiftDown;rw [if_pos hl]
theorem su_go (h:v<b) (hl:(!ltInt d[v]! d[v - 1]!)=ff):shiftUp ltInt b v d=shiftUp ltInt b (v+1) (swp d v (v - 1)):=by
 conv=>lhs; unfold shiftUp
 rw [if_pos h,if_neg (by rw [hl]; decide)]
theorem znq (h:v<b) (hl:(!ltInt d[v]! d[v - 1]!)=tt):shiftUp ltInt b v d=d:=by
 unfold shiftUp;rw [if_pos h,if_pos hl]
theorem zo3 (h:¬ v<b):shiftUp ltInt b v d=d:=by
 unfold shiftUp;rw [if_neg h]
theorem pi_T (hs:scanSorted ltInt d b i=u) (h:u=b):partialIns ltInt a b (s+1) i d=(d,tt):=by
 unfold partialIns;simp only [];rw [hs,if_pos h]
theorem pi_F (hs:scanSorted ltInt d b i=u) (h:¬ u=b) (h2:b - a<50):partialIns ltInt a b (s+1) i d=(d,ff):=by
 unfold partialIns;simp only [];rw [hs,if_neg h,if_pos h2]
theorem pi_go (hs:scanSorted ltInt d b i=u) (h:¬ u=b) (h2:¬ b - a<50) (h3:d3=if u - a>=2 then shiftDown ltInt (u - 1) (swp d u (u - 1)) else swp d u (u - 1)) (h4:d4=if b - u>=2 then shiftUp ltInt b (u+1) d3 else d3):partialIns ltInt a b (s+1) i d=partialIns ltInt a b s u d4:=by
 conv=>lhs; unfold partialIns
 simp only [];rw [hs,if_neg h,if_neg h2,h4,h3]
end
end Go.Vel
end
