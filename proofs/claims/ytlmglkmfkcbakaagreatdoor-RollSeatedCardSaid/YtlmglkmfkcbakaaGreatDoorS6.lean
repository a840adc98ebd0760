/- Texts for the statements of chapter 8: what all of them need, part 7. It holds of every program, tape and world that the statements name, as each theorem says. -/
import Derived.Test.YtlmglkmfkcbakaaGreatDoorS1
import Derived.Test.YtlmglkmfkcbakaaGreatDoorS5
open Go renaming Goroutine -> gG, TypeId -> gT, Operand -> gO, Program -> gP, Value -> gV
open Bool renaming true -> tt, false -> ff
section
set_option linter.all false
set_option maxRecDepth 20000
set_option maxHeartbeats 60000000
open Go.Proofs.Tryz renaming prog -> tp
open List renaming getElem?_eq_getElem -> lA, getD_eq_getElem?_getD -> lE, length_append -> lF, perm_append_comm -> lH, length_map -> lJ, map_append -> lM, mem_of_getElem? -> lN, append_nil -> lR, mem_singleton -> lS, take_length -> lW, length_cons -> lZ, replicate -> mB
open List.Mem renaming head -> mC
open Array renaming getElem?_eq_getElem -> mD
open Nat renaming le_refl -> mL, zero_le -> mN, le_trans -> mT
open Int renaming toNat_natCast -> mZ
open Go.Vel.TK renaming maskL -> bA, rt -> bB, kp -> bC, cl -> bD, loopN -> bE, sp -> bF, na -> bG, a -> bH, newR -> bI, dq -> bL, perm -> bN, appR -> bO, frzRow -> bY
open Go.Vel.TD renaming cl -> bQ, s -> bR, norm -> bS, y -> bT, z -> bU, cnewP -> bX
namespace Go.Vel
open Go Go.Conc Go.Proofs
theorem zeg {n:Nat} (h:n<256):IntKind.u64.wrap (n:Int)=n:=by
 have:∀ n:Nat,n<256->IntKind.u64.wrap (n:Int)=n:=by decide +kernel
 exact this n h
theorem zce {n:Nat} (h:n<256):IntKind.u8.wrap (n:Int)=n:=by
 have:∀ n:Nat,n<256->IntKind.u8.wrap (n:Int)=n:=by decide +kernel
 exact this n h
theorem zeu {s:ByteArray} {n:Nat} (hn:n<256) (h:s.size=256):s[n]? =some (s[n]'oQ):=getElem?_pos s n oQ
theorem zbj (c:UInt8):IntKind.i64.wrap (c.toNat:Int)=c.toNat:=kg (by have:=c.toNat_lt; omega)
theorem zew (c:UInt8) : -9223372036854775808<=0+(c.toNat:Int)/\0+(c.toNat:Int)<9223372036854775808:=by have:=c.toNat_lt; omega
theorem zfL {lt:Int->Int->Bool} {xs:List Int} (h:1<=xs.length):sortN lt xs 1++xs.drop 1=xs:=by
 cases xs with
 | nil=>simp at h
 | cons x r=>rfl
instance:ze tp 138 ff 1:={}
instance:Und tp 116 (.int .u64):={}
instance:Und tp 5 (.int .u8):={}
instance:Und tp 9 .string:={}
theorem zkM {main T} (hT:zt tp main T) {gm} {n:Nat} (hn:n<256) :
  zr tp T gm 139 [.v (.int .u64 n)] [] (fun r K'=>∃ m:Int,r=za m/\K'=[]):=by
 refine zn 25 hT Tryz.func139 fun Y Wz=>?_;refine au 93714223542 ?_;constructor<;>intro Jz
 ·simp at Jz; omega
 refine au 9371422120 ?_;constructor<;>intro Jx
 ·simp at Jx; omega
 refine au 9371422120 ?_;constructor<;>intro hc2
 ·simp at hc2; omega
 refine au 1142120 ?_;refine bH Z (yu Z Z Und.h Und.h (zce hn)) ?_;refine bH Z (wA Z Z Z Und.h oQ (zeu hn Z)) ?_;refine bH Z (yu Z Z Und.h Und.h (zbj _)) ?_;refine bH Z (q_add Z Z Z (zew _)) ?_;refine au 35 ?_;refine TK.rta Wz ?_;exact ⟨_,rfl,rfl⟩
theorem zch {main T} (hT:zt tp main T) {gm} {n:Nat} (hn:n<256) :
  zr tp T gm 109 [.v (.int .u64 n)] [] (fun r K'=>∃ m:Int,r=za m/\K'=[]):=by
 refine zn 8 hT Tryz.func109 fun Y Wz=>?_;refine au 14212019023542 ?_;refine bD Z Z Z Z (zkM hT hn) ?_;rintro r1 K2 ⟨m,rfl,rfl⟩;refine au 35 ?_;refine TK.rta Wz ?_;exact ⟨_,rfl,rfl⟩
theorem zhX {main T} (hT:zt tp main T) {gm} {j n:Nat} {xs:List Int} {et:gT} {f:AV} {Kc:KV} {lt:Int->Int->Bool} (hn:xs.length=n) (h12:1<=n/\n<=12) (hg:∀ x∈xs,∀ y∈xs,CallFK tp T gm f [za x,za y] Kc (fun r K'=>(∃ c:Int,r=za c/\decide (c<0)=lt x y)/\K'=Kc)) :
  zr tp T gm 164 [.sl j 0 n,za 0,za n,f] ((j,.cells (xs.map za) et tt)::Kc) (fun r K'=>K'=(j,.cells ((sortR lt xs).map za) et tt)::Kc):=by
 refine zn 53 hT Tryz.func164 fun Y Wz=>?_;refine au 13035230142 ?_;refine bA [0,1,2,3,8] ?_;refine bE (fun n1 Wq K=>∃ (i:Nat),n1=n - i/\1<=i/\i<=n/\Wq=.sl j 0 n::za 0::za n::f::naL 4 (za i::naL 44 [])/\K=(j,.cells ((sortN lt xs i++xs.drop i).map za) et tt)::Kc) (n - 1) ⟨1,rfl,mL _,h12.1,rfl,by rw [zfL oQ]⟩ fun n1 Wq K hI Wj=>?_;obtain ⟨i,rfl,hi1,hi,rfl,rfl⟩:=hI;refine bG nQ ?_;refine au 93711422 ?_;constructor<;>intro Jz
 ·have Qb:i<n:=by simp at Jz; omega
  obtain ⟨x,hx⟩:∃ x,xs[i]? =some x:=⟨_,lA oQ⟩;have hSl:=vD (lt:=lt) xs i oQ;have hTl:(xs.drop (i+1)).length=n - (i+1):=by simp; omega
  have hxm:=lN hx;refine au 130351421302120 ?_;refine bA [0,1,2,3,8,9] ?_;refine bE (fun n1 Wq K=>∃ (p:Nat),n1=p/\p<=i/\insJ lt x (sortN lt xs i) p=insJ lt x (sortN lt xs i) (sortN lt xs i).length/\Wq=.sl j 0 n::za 0::za n::f::naL 4 (za i::za p::naL 43 [])/\K=(j,.cells ((dataM (sortN lt xs i) (xs.drop (i+1)) x p).map za) et tt)::Kc) i ⟨i,rfl,mL _,by rw [hSl],rfl,by have:=zeI (sortN lt xs i) (xs.drop (i+1)) x; rw [hSl] at this; rw [this,<- zM hx]⟩ fun n1 Wq K hI Ww=>?_;obtain ⟨p,hnp,hp,hins,rfl,rfl⟩:=hI;subst n1;have hdl:=zeH (S:=sortN lt xs i) (T:=xs.drop (i+1)) (x:=x) (j:=p);refine bG nQ ?_;refine au 22 ?_;refine bL [0,1,2,3,4,5,6,7,8,9,10,11,12,13,14,15,16] ?_;refine ad [[1,9],[1,1],[4,18,19],[1,20]] ?_;refine TD.sp 21 (fun g4_4=>?_) (fun g4_4=>?_)
  ·have hp0:0<p:=by simp at g4_4; omega
   obtain ⟨q,rfl⟩:∃ q,p=q+1:=⟨p - 1,oQ⟩;obtain ⟨y,hy⟩:∃ y,(sortN lt xs i)[q]? =some y:=⟨_,lA oQ⟩;have hym:=zba i oQ y (lN hy);refine ad [[1,3,21],[1,0,21],[1,9,21],[2,21,23,24]] ?_;refine bT [21,25] Z (hq:=zj Z Z ze.h (mC _) (yb (i:=q+1) (zbn oQ) Z)) (h:=?_);refine ad [[1,0,21],[1,9,21],[9,21,28],[2,21,27,29]] ?_;refine bT [21,30] Z (hq:=zj Z Z ze.h (mC _) (yb (i:=q) ((um oQ).trans hy) oQ)) (h:=?_);refine TD.callF' (Wx:=[_,_,_,_,_,_,_,_,_,_]) [21,22,26,31] Z Z Z Z Z Z Z (hg x hxm y hym) (.right (.all _)) fun r1 K2 h3=>⟨?_,?_⟩
   ·rcases h3 with ⟨⟨c,rfl,hlc⟩,hK⟩
    all_goals (rw [hK]; simp)
   obtain ⟨⟨c,rfl,hlc⟩,hK⟩:=h3;try simp only [cA]
   refine bS (zx Z tQ) ?_;rw [hK];refine TD.perm (K':=(j,_)::Kc) (List.perm_append_singleton _ _) ?_;refine ad [[4,21,32],[7,21,33],[14]] ?_;refine au 9 ?_;constructor<;>intro Jx
   ·have Qp:lt x y=tt:=by rw [<- hlc]; exact Jx
    have hsw:=zdD (T:=xs.drop (i+1)) (x:=x) hy;refine au 1302120 ?_;refine bL [0,1,5,6,7,8,9,10,11,12,13,14,15,2,3,4,16,17] ?_;refine ad [[1,0],[1,9],[1,0],[1,9],[9,40],[1,0],[1,9],[9,43],[2,42,44]] ?_;refine bT [45] Z (hq:=zj Z Z ze.h (mC _) (yb (i:=q) ((um oQ).trans hy) oQ)) (h:=?_);refine ad [[1,0],[1,9],[2,47,48]] ?_;refine bT [49] Z (hq:=zj Z Z ze.h (mC _) (yb (i:=q+1) (zbn oQ) Z)) (h:=?_);refine ad [[2,37,38]] ?_;refine bR (Wx:=[_,_,_,_,_,_]) [46,51] Z Z (zE Z Z ze.h Z Z mQ (uV (k:=q+1) oQ Z)) ?_;refine ad [[2,39,41]] ?_;refine bR (Wx:=[]) [50,52] Z Z (zE Z Z ze.h Z Z mQ (uV (k:=q) (by rw [List.length_set]; omega) oQ)) ?_;refine ad [[14]] ?_;refine au 3524014140 ?_;refine bA [0,1,2,3,8,9] ?_;refine bC (((j,_)::Kc)) ?_;exact Ww _ _ _ oQ ⟨q,rfl,oQ,by rw [<- hins,zgP hy Qp],by rw [show ((q+1:Nat):Int) - 1=(q:Int) by omega]; rfl,by rw [hsw]⟩
   have hstop:=up (lt:=lt) (x:=x) (S:=sortN lt xs i) (T:=xs.drop (i+1)) (j:=q+1) oQ (fun i1 y1 h1 h2=>by obtain rfl:q=i1:=oQ; rw [hy] at h2; cases h2; rw [<- hlc]; exact Jx);rw [hins] at hstop;refine au 3523014140160 ?_;refine bA [0,1,2,3,8] ?_;refine bC (((j,_)::Kc)) ?_;exact Wj _ _ _ oQ ⟨i+1,rfl,oQ,oQ,rfl,by rw [vg hx,<- hstop]⟩
  obtain rfl:p=0:=by simp at g4_4; omega
  have hstop:=up (lt:=lt) (x:=x) (S:=sortN lt xs i) (T:=xs.drop (i+1)) (j:=0) (mN _) (fun i y h=>by omega);rw [hins] at hstop;refine ad [[11,3,21],[11,0,21],[11,9,21],[11,21,23,24],[11,21,25],[11,0,21],[11,9,21],[11,21,28],[11,21,27,29],[11,21,30],[11,21,22,26,31],[11,21,32],[6,21,33],[14]] ?_;refine au 3523014140160190 ?_;refine bA [0,1,2,3,8] ?_;refine bC (((j,_)::Kc)) ?_;exact Wj _ _ _ oQ ⟨i+1,rfl,oQ,oQ,rfl,by rw [vg hx,<- hstop]⟩
 obtain rfl:i=n:=by simp at Jz; omega
 have Qj:(j,AObj.cells ((sortN lt xs i++xs.drop i).map za) et tt)::Kc=(j,.cells ((sortN lt xs xs.length).map za) et tt)::Kc:=by rw [hn,List.drop_eq_nil_of_le oQ,lR]
 refine au 160 ?_;refine TK.rt0 Wz (((j,_)::Kc)) ?_;rw [show sortR lt xs=sortN lt xs xs.length from rfl];exact Qj
theorem zoE {main T} (hT:zt tp main T) {gm} {lim:Int} {j n:Nat} {xs:List Int} {et:gT} {f:AV} {Kc:KV} {lt:Int->Int->Bool} (hn:xs.length=n) (h12:1<=n/\n<=12) (hg:∀ x∈xs,∀ y∈xs,CallFK tp T gm f [za x,za y] Kc (fun r K'=>(∃ c:Int,r=za c/\decide (c<0)=lt x y)/\K'=Kc)) :
  zr tp T gm 125 [.sl j 0 n,za 0,za n,za lim,f] ((j,.cells (xs.map za) et tt)::Kc) (fun r K'=>K'=(j,.cells ((sortR lt xs).map za) et tt)::Kc):=by
 refine zn 148 hT Tryz.func125 fun Y Wz=>?_;refine au 13035423542 ?_;refine TK.loop ?_;refine au 9371422352401142130 ?_;constructor<;>intro Jz
 ·refine au 111142 ?_;refine bD Z Z Z Z (zhX hT hn h12 hg) ?_ (hs:=(.all _));rintro r1 K2 rfl;refine au 0 ?_;refine bN (K':=(j,_)::Kc) (by rw [lR]) ?_;refine au 3 ?_;refine bB Wz (((j,_)::Kc)) ?_;exact rfl
 simp at Jz; omega
theorem zgh {main T} (hT:zt tp main T) {gm} {j n:Nat} {xs:List Int} {et:gT} {f:AV} {Kc:KV} {lt:Int->Int->Bool} (hn:xs.length=n) (h12:1<=n/\n<=12) (hg:∀ x∈xs,∀ y∈xs,CallFK tp T gm f [za x,za y] Kc (fun r K'=>(∃ c:Int,r=za c/\decide (c<0)=lt x y)/\K'=Kc)) :
  zr tp T gm 102 [.sl j 0 n,f] ((j,.cells (xs.map za) et tt)::Kc) (fun r K'=>K'=(j,.cells ((sortR lt xs).map za) et tt)::Kc):=by
 refine zn 14 hT Tryz.func102 fun Y Wz=>?_;refine au 111435280142 ?_;refine bH Z (yu Z Z Und.h Und.h (zeg (n:=n) oQ)) ?_;refine bD Z Z Z Z (zch hT (n:=n) oQ) ?_ (hs:=(.none _));rintro r1 K2 ⟨m,rfl,rfl⟩;refine au 1 ?_;refine bD Z Z Z Z (zoE hT hn h12 hg) ?_ (hs:=(.all _));rintro r4 K5 rfl;refine au 0 ?_;refine bN (K':=(j,_)::Kc) (by rw [lR]) ?_;refine au 3 ?_;refine TK.rt0 Wz (((j,_)::Kc)) ?_;exact rfl
theorem znM {main T} (hT:zt tp main T) {gm} {b:RBk} {s h e j jb jl:Nat} {l:List Int} {et:gT} {x y:Int} (hb:ROk b) (hl:CutsOk b l) (hx:0<=x/\x<l.length) (hy:0<=y/\y<l.length) :
  zr tp T gm 103 [za x,za y,.ptr jb 0,.ptr jl 0] [(jb,.cells (zH b s h e) 134 tt),(jl,.cells [.sl j 0 l.length] 138 tt),(s,zp b),(j,.cells (l.map za) et ff)] (fun r K'=>(∃ c:Int,r=za c/\decide (c<0)=busyLt b l x y)/\K'=[(jb,.cells (zH b s h e) 134 tt),(jl,.cells [.sl j 0 l.length] 138 tt),(s,zp b),(j,.cells (l.map za) et ff)]):=by
 refine zn 38 hT Tryz.func103 fun Y Wz=>?_;refine au 0 ?_;have hs5:=hb.sms.len;have hl5:=hl.len;obtain ⟨p,rfl⟩:∃ p:Nat,x=p:=⟨x.toNat,oQ⟩;obtain ⟨q,rfl⟩:∃ q:Nat,y=q:=⟨y.toNat,oQ⟩;have hp:p<l.length:=by omega
 have hq:q<l.length:=by omega
 have qp:=hl.lt hp;have fp:=hb.sms.fld _ qp.2.2;have qq:=hl.lt hq;have fq:=hb.sms.fld _ qq.2.2;refine au 223542 ?_;refine bL [0,1,2,3,4,5,6,7,8,9,20,10,11,12,13,14,15,16,17,18,19,21] ?_;refine ad [[3,2],[3,9],[10,10],[10,3],[1,0],[2,12,13]] ?_;refine bT [14] Z (hq:=zj Z Z ze.h (mC _) (yb (i:=p) (ya hp) Z)) (h:=?_);refine ad [[2,11,15],[3,16]] ?_;refine bT [17] Z (hq:=zj Z Z ze.h (mC _) (yd (c:=2) (sm_at b (i:=(zK l p).toNat) qp.2.2 oQ) dQ Z)) (h:=?_);refine ad [[3,2],[3,19],[10,20],[10,3],[1,1],[2,22,23]] ?_;refine bT [24] Z (hq:=zj Z Z ze.h (mC _) (yb (i:=q) (ya hq) Z)) (h:=?_);refine ad [[2,21,25],[3,26]] ?_;refine bT [27] Z (hq:=zj Z Z ze.h (mC _) (yd (c:=2) (sm_at b (i:=(zK l q).toNat) qq.2.2 oQ) dQ Z)) (h:=?_);refine TD.as (Wx:=[_,_,_,_,_,_,_,_,_,_]) [18] Z Z (zG Z Z) ?_;refine ad [[13,28],[14]] ?_;refine au 9371142 ?_;constructor<;>intro Jz
 ·refine au 352401142 ?_;refine bB Wz [(jb,_),(jl,_),(s,_),(j,_)] ?_;exact ⟨⟨_,rfl,by simp at Jz; unfold busyLt; rw [mZ,mZ]; unfold cutS; rw [decide_eq_false Jz,Bool.false_and,Bool.or_false]; exact decide_eq_decide.2 oQ⟩,rfl⟩
 refine au 352401142120 ?_;refine bB Wz [(jb,_),(jl,_),(s,_),(j,_)] ?_;exact ⟨⟨_,rfl,by simp at Jz; simp only [busyLt,cutS,mZ,Jz,Int.lt_irrefl,decide_false,decide_true,Bool.true_and,Bool.false_or]; exact decide_eq_decide.2 oQ⟩,rfl⟩
def HangR (o:Option (List Int×Int)) (K:KV) (r:AV) (K':KV):Prop:=match o with
 | none=>r=.tup [.agg [.v (.slice none 0 0),za 0],zC ff]/\K'=K
 | some (w,q)=>∃ jw,r=.tup [.agg [.sl jw 0 w.length,za q],zC tt]/\K'=(jw,.cells (w.map za) 3 ff)::K
theorem zdt {b:RBk} {l:List Int}:∀ (o:List Int) (z:Alloc),(o.foldl (allocM b l) z).steps.length=z.steps.length
 | [],_=>rfl
 | k::o,z=>by rw [List.foldl_cons,zdt o]; simp [allocM]
theorem zn5 {x y:Int} (hx:0<=x/\x<=65) (hy:0<=y/\y<=9):0<=x*y/\x*y<=585:=by
 refine ⟨Int.mul_nonneg hx.1 hy.1,?_⟩;have h1:x*y<=65*y:=Int.mul_le_mul_of_nonneg_right hx.2 hy.1;omega
section
variable {P:gP} {gm:Nat->Option Nat} {V:KV} {Wq:List AV} {o:Oper}
theorem zcH {x y:gO} {t u:gT} {k k':IntKind} {m n:Int} (ho:o.op=.call { callee:=.builtin .min,args:=#[x,y],argTypes:=#[t,u] }) (hx:zo gm Wq x=some (.v (.int k m))) (hy:zo gm Wq y=some (.v (.int k' n))):Qk P gm Wq V o (.v (.int k (min m n))):=by
 rw [show min m n=if n<m then n else m by split <;> omega];exact q_min ho hx hy
theorem zcG {x y:gO} {t u:gT} {k k':IntKind} {m n:Int} (ho:o.op=.call { callee:=.builtin .max,args:=#[x,y],argTypes:=#[t,u] }) (hx:zo gm Wq x=some (.v (.int k m))) (hy:zo gm Wq y=some (.v (.int k' n))):Qk P gm Wq V o (.v (.int k (max m n))):=by
 rw [show max m n=if m<n then n else m by split <;> omega];exact q_max ho hx hy
end
instance:BlOf tp 143 [(0,1),(1,1)]:={}
instance:zl tp 143 0 0 ff 1:={}
instance:zl tp 143 1 1 ff 1:={}
instance:ze tp 143 tt 2:={}
instance:TyZ tp 143 [.slice none 0 0,.int .i64 0]:={}
instance:TyZA tp 143 [.v (.slice none 0 0),.v (.int .i64 0)]:={}
theorem vK {main T} (hT:zt tp main T) {gm} {b:RBk} {s h e j:Nat} {l:List Int} {et:gT} (hb:ROk b) (hl:CutsOk b l) {st:List Int} (hs:StOk b st) :
  zr tp T gm 68 [.agg (zH b s h e),.sl j 0 l.length,.agg (stC st)] [(s,zp b),(j,.cells (l.map za) et ff)] (fun r K'=>HangR (hangM b l st) [(s,zp b),(j,.cells (l.map za) et ff)] r K'):=by
 refine zn 110 hT Tryz.func68 fun Y Wz=>?_;refine au 0 ?_;have hp0:=hl.pos;have hs5:=hb.sms.len;have hst:=hb.rnd.steps;have hl5:=hl.len;have q0:=hl.lt hl.pos;have f0:=hb.sms.fld _ q0.2.2;have hfr:=zeL hb hs;refine au 21042 ?_;intro jb hjb;refine au 210 ?_;intro jl hjl;refine au 210 ?_;intro js hjs;refine au 220 ?_;intro jr hjr;refine au 69068042235 ?_;refine TK.clE Z Z Z Z (zgK hT hb hl) ?_;refine au 93300 ?_;constructor<;>intro Jz
 ·refine au 3517039042 ?_;refine bB Wz [(s,_),(j,_)] ?_;rw [show hangM b l st=none by unfold hangM; rw [if_pos (by simpa using Jz)]];exact ⟨rfl,rfl⟩
 have hfit:fitsM b l=tt:=by simpa using Jz
 refine au 28069042120 ?_;refine TK.newS Z Z Z (zgX Z Z Z ApOf.h TyZ.h hp0 oQ) (fun _=>zx rfl tQ) fun jw hjw=>?_;refine au 220390 ?_;intro j8 hj8;refine au 130312806904223170 ?_;refine bA [3,4,5,6,7,8,26,27,28] ?_;refine bC [(s,_),(j,_),(jb,_),(jl,_),(js,_),(jr,_),(jw,_),(j8,_)] ?_;refine bE (fun n Wq K=>∃ (i:Nat),n=l.length - i/\i<=l.length/\Wq=naL 3 (.ptr jb 0::.ptr jl 0::.ptr js 0::.ptr jr 0::zC ff::.ptr j8 0::naL 17 (.sl j 0 l.length::za l.length::za i::naL 81 []))/\K=[(s,zp b),(j,.cells (l.map za) et ff),(jb,.cells (zH b s h e) 134 tt),(jl,.cells [.sl j 0 l.length] 138 tt),(js,.cells (stC st) 147 tt),(jr,.cells [.v (.slice none 0 0),za 0] 143 tt),(jw,.cells ((mB l.length (0:Int)).map za) 3 tt),(j8,.cells [.sl jw 0 l.length,za (spoilM b l i)] 143 tt)]) l.length ⟨0,rfl,mN _,rfl,rfl⟩ fun n Wq K hI Wj=>?_;obtain ⟨i,rfl,hi,rfl,rfl⟩:=hI;have hsp:=zca hb hl i hi;refine bG nQ ?_;refine au 923742 ?_;constructor<;>intro Jx
 ·have Qb:i<l.length:=by simp at Jx; omega
  have qi:=hl.lt Qb;have fi:=hb.sms.fld _ qi.2.2;refine au 360421302120 ?_;refine bH Z (zj Z Z ze.h mQ (yb (i:=i) (ya Qb) Z)) ?_;refine au 35 ?_;refine bL [0,1,2,3,4,5,6,7,8,9,10,11] ?_;refine ad [[3,8],[10,32],[3,3],[3,34],[10,35],[1,10],[2,36,37],[3,38]] ?_;refine bT [39] Z (hq:=zj Z Z ze.h (mC _) (yd (c:=3) (sm_at b (i:=(zK l i).toNat) qi.2.2 oQ) dQ Z)) (h:=?_);refine ad [[8,33,40],[3,8]] ?_;refine bR (Wx:=[]) [41,42] Z Z (zE Z Z ze.h Z Z mQ Z) ?_;refine ad [[14]] ?_;refine au 312304140 ?_;refine bA [3,4,5,6,7,8,26,27,28] ?_;refine bC [(s,_),(j,_),(jb,_),(jl,_),(js,_),(jr,_),(jw,_),(j8,_)] ?_;exact Wj _ _ _ oQ ⟨i+1,rfl,oQ,rfl,rfl⟩
 obtain rfl:i=l.length:=by simp at Jx; omega
 refine au 28069042160 ?_;refine TK.newS Z Z Z (zgX Z Z Z ApOf.h TyZ.h hp0 oQ) (fun _=>zx rfl tQ) fun jo hjo=>?_;refine au 13031280142235 ?_;refine bA [3,4,5,6,7,8,11,47,48,49] ?_;refine bE (fun n Wq K=>∃ (i:Nat),n=l.length - i/\i<=l.length/\Wq=naL 3 (.ptr jb 0::.ptr jl 0::.ptr js 0::.ptr jr 0::zC ff::.ptr j8 0::naL 2 (.sl jo 0 l.length::naL 35 (.sl jo 0 l.length::za l.length::za i::naL 60 [])))/\K=[(jo,.cells ((idxM i++mB (l.length - i) 0).map za) 3 tt),(s,zp b),(j,.cells (l.map za) et ff),(jb,.cells (zH b s h e) 134 tt),(jl,.cells [.sl j 0 l.length] 138 tt),(js,.cells (stC st) 147 tt),(jr,.cells [.v (.slice none 0 0),za 0] 143 tt),(jw,.cells ((mB l.length (0:Int)).map za) 3 tt),(j8,.cells [.sl jw 0 l.length,za (spoilM b l l.length)] 143 tt)]) l.length ⟨0,rfl,mN _,rfl,rfl⟩ fun n Wq K hI Wj=>?_;obtain ⟨i,rfl,hi,rfl,rfl⟩:=hI;refine bG nQ ?_;refine au 923742 ?_;constructor<;>intro hc2
 ·have Qb:i<l.length:=by simp at hc2; omega
  refine au 3601114351421302120 ?_;refine TK.st Z Z Z (zE Z Z ze.h Z Z mQ (uV (k:=i) (by simp [idxM]; omega) Z)) uQ (putN Z) ?_;refine au 3123041403 ?_;refine bA [3,4,5,6,7,8,11,47,48,49] ?_;refine bC [(jo,_),(s,_),(j,_),(jb,_),(jl,_),(js,_),(jr,_),(jw,_),(j8,_)] ?_;exact Wj _ _ _ oQ ⟨i+1,rfl,oQ,rfl,by rw [<- zmt Qb]⟩
 obtain rfl:i=l.length:=by simp at hc2; omega
 refine au 2160 ?_;have hidx:idxM l.length++mB (l.length - l.length) 0=idxM l.length:=by simp
 rw [hidx];refine au 32014 ?_;refine bD Z Z Z Z (zgh hT (Kc:=[(jb,.cells (zH b s h e) 134 tt),(jl,.cells [.sl j 0 l.length] 138 tt),(s,zp b),(j,.cells (l.map za) et ff)]) (lt:=busyLt b l) (by simp [idxM]) ⟨hp0,oQ⟩ (fun x hx y hy=>yK Cal.h (znM hT hb hl (by have:=zc5 hx; omega) (by have:=zc5 hy; omega)))) ?_ (hs:=(.left (.rem (.tail (.tail .head)) (.rem (.tail (.tail .head)) (.left (.left (.none _)))))));rintro r4 K5 rfl;refine au 680680423 ?_;refine bD Z Z Z Z (zeM hT hb hs) ?_ (hs:=(.none _));rintro r7 K8 ⟨rfl,rfl⟩;refine au 13031280142235 ?_;refine bA [3,4,5,6,7,8,13,63,64,65] ?_;refine bE (fun n Wq K=>∃ (i:Nat) (z:Alloc),n=l.length - i/\i<=l.length/\z=((ordM b l).take i).foldl (allocM b l) (alloc0 b l (freshM b st))/\z.steps.length=l.length/\(0<=z.left/\z.left<=65)/\(0<=z.squares/\z.squares<=45+585*i)/\Wq=naL 3 (.ptr jb 0::.ptr jl 0::.ptr js 0::.ptr jr 0::zC ff::.ptr j8 0::naL 4 (za z.left::naL 49 (.sl jo 0 l.length::za l.length::za i::naL 44 [])))/\K=[(jo,.cells ((ordM b l).map za) 3 tt),(jb,.cells (zH b s h e) 134 tt),(jl,.cells [.sl j 0 l.length] 138 tt),(s,zp b),(j,.cells (l.map za) et ff),(js,.cells (stC st) 147 tt),(jr,.cells [.v (.slice none 0 0),za 0] 143 tt),(jw,.cells (z.steps.map za) 3 tt),(j8,.cells [.sl jw 0 l.length,za z.squares] 143 tt)]) l.length ⟨0,alloc0 b l (freshM b st),rfl,mN _,rfl,by simp [alloc0],hfr,by have:=zca hb hl l.length (mL _); show 0<=spoilM b l l.length/\spoilM b l l.length<=_; omega,rfl,rfl⟩ fun n Wq K hI Wj=>?_;obtain ⟨i,z,rfl,hi,hz,hzl,hzf,hzs,rfl,rfl⟩:=hI;have hol:=zmZ b l;refine bG nQ ?_;refine au 923742 ?_;constructor<;>intro hc3
 ·have Qb:i<l.length:=by simp at hc3; omega
  obtain ⟨k,hk⟩:∃ k,(ordM b l)[i]? =some k:=⟨_,lA oQ⟩;have hkm:=zg0 (lN hk);have hkn:k.toNat<l.length:=by omega
  have qi:=hl.lt hkn;have fi:=hb.sms.fld _ qi.2.2;have hmul:0<=min z.left (sm b (zK l k.toNat).toNat).most*(sm b (zK l k.toNat).toNat).busy/\min z.left (sm b (zK l k.toNat).toNat).most*(sm b (zK l k.toNat).toNat).busy<=585:=zn5 oQ oQ;refine au 360421302120 ?_;refine bH Z (zj Z Z ze.h mQ (yb (i:=i) hk Z)) ?_;refine au 235 ?_;refine bL [0,1,2,3,4,5,6,7,8,9,10,11,12] ?_;refine ad [[1,13],[3,3],[3,70],[10,71],[10,4],[1,15],[2,73,74]] ?_;refine bT [75] Z (hq:=zj Z Z ze.h (mC _) (yb (i:=k.toNat) (ya hkn) oQ)) (h:=?_);refine ad [[2,72,76],[3,77]] ?_;refine bT [78] Z (hq:=zj Z Z ze.h (mC _) (yd (c:=1) (sm_at b (i:=(zK l k.toNat).toNat) qi.2.2 oQ) dQ Z)) (h:=?_);refine bU [69,79] Z (zcH Z Z Z) ?_;refine ad [[13,80],[14]] ?_;refine au 3601169067042 ?_;refine TK.st Z Z Z (zE Z Z ze.h Z Z mQ (uV (k:=k.toNat) oQ oQ)) uQ (putN Z) ?_;refine au 23 ?_;refine bL [0,1,2,3,4,5,6,7,8,9,10,11,12,13,14,15,16] ?_;refine ad [[3,8],[10,86],[1,16],[3,3],[3,89],[10,90],[10,4],[1,15],[2,92,93]] ?_;refine bT [94] Z (hq:=zj Z Z ze.h (mC _) (yb (i:=k.toNat) (ya hkn) oQ)) (h:=?_);refine ad [[2,91,95],[3,96]] ?_;refine bT [97] Z (hq:=zj Z Z ze.h (mC _) (yd (c:=2) (sm_at b (i:=(zK l k.toNat).toNat) qi.2.2 oQ) dQ Z)) (h:=?_);refine bU [88,98] Z (q_mul Z Z Z oQ) ?_;refine ad [[8,87,99],[3,8]] ?_;refine bR (Wx:=[]) [100,101] Z Z (zE Z Z ze.h Z Z mQ Z) ?_;refine ad [[14]] ?_;refine au 31230414035240114 ?_;refine bA [3,4,5,6,7,8,13,63,64,65] ?_;refine bC [(jo,_),(jb,_),(jl,_),(s,_),(j,_),(js,_),(jr,_),(jw,_),(j8,_)] ?_;exact Wj _ _ _ oQ ⟨i+1,allocM b l z k,rfl,oQ,by rw [yL hk,List.foldl_append,<- hz]; rfl,by simp [allocM,hzl],by show 0<=z.left - min z.left (sm b (zK l k.toNat).toNat).most/\z.left - min z.left (sm b (zK l k.toNat).toNat).most<=65; omega,by show 0<=z.squares+min z.left (sm b (zK l k.toNat).toNat).most*(sm b (zK l k.toNat).toNat).busy/\z.squares+min z.left (sm b (zK l k.toNat).toNat).most*(sm b (zK l k.toNat).toNat).busy<=45+585*((i+1:Nat):Int); omega,rfl,rfl⟩
 obtain rfl:i=l.length:=by simp at hc3; omega
 rw [List.take_of_length_le oQ] at hz;refine au 9371422160 ?_;constructor<;>intro hc4
 ·refine au 3517039042 ?_;refine bB Wz [(s,_),(j,_)] ?_;rw [show hangM b l st=none by unfold hangM; rw [if_neg (by rw [hfit]; decide)]; unfold allocA; rw [<- hz]; exact if_pos (of_decide_eq_true hc4)];exact ⟨rfl,rfl⟩
 refine au 2120 ?_;refine TK.frz (j:=jw) ?_;refine au 351706804 ?_;refine bB Wz [(jw,_),(s,_),(j,_)] ?_;rw [show hangM b l st=some (z.steps,z.squares) by unfold hangM; rw [if_neg (by rw [hfit]; decide)]; unfold allocA; rw [<- hz]; exact if_neg (of_decide_eq_false hc4)];exact ⟨jw,by rw [hzl]; rfl,rfl⟩
theorem st_at {s:List Int} {i:Nat} {n:Int} {e:gT} {rw':Bool} (h:i<5) (hn:n=(i:Int)):yj (.cells (stC s) e rw') (0+n.toNat*1) 1=some [za (s.getD i 0)]:=by
 subst hn;have:i=0\/i=1\/i=2\/i=3\/i=4:=by omega
 rcases this with rfl | rfl | rfl | rfl | rfl <;> rfl
theorem ziR {c:List Int} {i k:Nat} (h:k<i):(c.take i).getD k 0=c.getD k 0:=by
 rw [lE,lE,List.getElem?_take,if_pos h]
theorem zo1 {c p:List Int} {m:Nat} (h5:c.length=5) (hp:p.length=m) (ht:c.take m=p) (hz:∀ k,m<=k->c.getD k 0=0):c.map za=stC p:=by
 have key:∀ k,c.getD k 0=p.getD k 0:=fun k=>by
  by_cases h:k<m
  ·rw [<- ht,ziR h]
  ·rw [hz k oQ,lE,List.getElem?_eq_none oQ]; rfl
 have e:c.map za=stC c:=by
  rcases c with _ | ⟨a0,_ | ⟨a1,_ | ⟨a2,_ | ⟨a3,_ | ⟨a4,_ | ⟨a5,r⟩⟩⟩⟩⟩⟩ <;> simp at h5;rfl
 rw [e];unfold stC slotR;rw [key 0,key 1,key 2,key 3,key 4]
theorem ze9 {xs:List RMeas} {i:Nat} {x:RMeas} {n:Int} {e:gT} {rw':Bool} (h:xs[i]? =some x) (hn:n=(i:Int)):yj (.cells (xs.flatMap measC) e rw') (0+n.toNat*3) 3=some (measC x):=wS (c:=3) (fun _=>rfl) h hn dQ
theorem zkc {xs:List RMeas} {p:RMeas->Bool} {i:Nat} {x:RMeas} (h:xs[i]? =some x) (hn:(xs.take i).any p=ff) (he:p x=ff):(xs.take (i+1)).any p=ff:=by
 rw [yL h,List.any_append,hn]; simp [he]
theorem znI {xs:List RMeas} {p:RMeas->Bool} {i:Nat} {x:RMeas} (h:xs[i]? =some x) (he:p x=tt):xs.any p=tt:=List.any_eq_true.2 ⟨x,lN h,he⟩
theorem zjF (b:RBk) (s:List Int):rightM b s = !(b.mE.any fun m => !decide (togM b s m.cloth.toNat m.many.toNat=m.wide)):=by
 unfold rightM
 induction b.mE with
 | nil=>rfl
 | cons x r ih=>rw [List.all_cons,List.any_cons,ih]; simp
theorem zow {main T} (hT:zt tp main T) {gm} {b:RBk} {s h e i:Nat} {st:List Int} (hb:ROk b) (hs:StOk b st) (hi:i<b.sE.length) :
  zr tp T gm 104 [.agg (zH b s h e),za i,.agg (stC st)] [(s,zp b)] (fun r K'=>r=za (nowM b st i)/\K'=[(s,zp b)]):=by
 refine zn 14 hT Tryz.func104 fun Y Wz=>?_;refine au 0 ?_;have hs5:=hb.sms.len;have hw:=hb.wide hi;have hsi:=hs.bnd i hi;refine au 21042 ?_;intro jb hjb;refine au 210 ?_;intro js hjs;refine au 235 ?_;refine TK.dr [0,1,3,4,5,2,6,7] [0,1,2,3,4,5,6,7] ?_;refine ad [[12,3],[1,1],[1,1]] ?_;refine bU [5,10] Z (yH Z Z Z ArEl.h oQ oQ) ?_;refine bT [11] Z (hq:=zj Z Z ze.h (mC _) (st_at (i:=i) oQ Z)) (h:=?_);refine TD.clE (Wx:=[_,_,_]) [7,8] Z Z Z Z Z (zdo hT (i:=i) hb.rnd hb.sms hi) ?_;refine ad [[9,9,12],[13,13],[14]] ?_;refine au 0 ?_;refine bB Wz [(s,_)] ?_;exact ⟨rfl,rfl⟩
theorem zj1 {main T} (hT:zt tp main T) {gm} {b:RBk} {s h e:Nat} {c k:Int} {st:List Int} (hb:ROk b) (hs:StOk b st) (hc:0<=c/\c<=5) (hk:0<=k/\k<=5) :
  zr tp T gm 70 [.agg (zH b s h e),za c,za k,.agg (stC st)] [(s,zp b)] (fun r K'=>r=za (togM b st c.toNat k.toNat)/\K'=[(s,zp b)]):=by
 refine zn 30 hT Tryz.func70 fun Y Wz=>?_;refine au 0 ?_;obtain ⟨p,rfl⟩:∃ p:Nat,c=p:=⟨c.toNat,oQ⟩;obtain ⟨q,rfl⟩:∃ q:Nat,k=q:=⟨k.toNat,oQ⟩;have hs5:=hb.sms.len;refine au 21042 ?_;intro jb hjb;refine au 210 ?_;intro js hjs;refine au 130311422354235 ?_;refine bA [1,4,7,9,11,12] ?_;refine bC [(s,_),(js,_),(jb,_)] ?_;refine bE (fun n Wq K=>∃ (i:Nat),n=q - i/\i<=q/\Wq=.any::za p::naL 2 (.ptr jb 0::naL 2 (.ptr js 0::.any::za (togM b st p i)::.any::za q::za i::naL 17 []))/\K=[(s,zp b),(js,.cells (stC st) 147 tt),(jb,.cells (zH b s h e) 134 tt)]) q ⟨0,rfl,mN _,rfl,rfl⟩ fun n Wq K hI Wj=>?_;obtain ⟨i,rfl,hi,rfl,rfl⟩:=hI;have htb:=zcQ hb hs (c:=p) i;refine bG nQ ?_;refine au 923742 ?_;constructor<;>intro Jz
 ·have Qb:i<q:=by simp at Jz; omega
  have hmod:(p+i) % b.sE.length<b.sE.length:=Nat.mod_lt _ oQ;have hcm:((p:Int)+(i:Int)) % (b.sE.length:Int)=(((p+i) % b.sE.length:Nat):Int):=by rw [Int.natCast_emod,Int.natCast_add]
  have hw:=hb.wide hmod;have hsi:=hs.bnd _ hmod;have hnow:nowM b st ((p+i) % b.sE.length)=wideM b ((p+i) % b.sE.length) - st.getD ((p+i) % b.sE.length) 0:=rfl;refine au 351421302120 ?_;refine bL [0,1,2,3,4,5,6,7,8,9,10,11,12,13] ?_;refine ad [[1,9],[12,4],[1,1],[1,10],[8,17,18],[3,4],[3,20],[10,21]] ?_;refine bU [22] Z (q_len Z Z Z Und.h) ?_;refine bU [19,23] Z (q_rem Z Z Z oQ oQ) ?_;rw [hcm];refine ad [[12,7]] ?_;refine TD.clE (Wx:=[_,_,_,_,_,_,_,_]) [16,24,25] Z Z Z Z Z (zow hT (i:=(p+i) % b.sE.length) hb hs hmod) ?_;refine ad [[8,15,26],[13,27],[14]] ?_;refine au 312304140 ?_;refine bA [1,4,7,9,11,12] ?_;refine bC [(s,_),(js,_),(jb,_)] ?_;exact Wj _ _ _ oQ ⟨i+1,rfl,oQ,rfl,rfl⟩
 obtain rfl:i=q:=by simp at Jz; omega
 refine au 35142160 ?_;refine bB Wz [(s,_)] ?_;exact ⟨rfl,rfl⟩
theorem zjE {main T} (hT:zt tp main T) {gm} {b:RBk} {s h e jb js:Nat} {m:RMeas} {st:List Int} (hb:ROk b) (hs:StOk b st) (hm:m∈b.mE) :
  zr tp T gm 127 [.agg (measC m),.ptr jb 0,.ptr js 0] [(jb,.cells (zH b s h e) 134 tt),(js,.cells (stC st) 147 tt),(s,zp b)] (fun r K'=>r=zC (!decide (togM b st m.cloth.toNat m.many.toNat=m.wide))/\K'=[(jb,.cells (zH b s h e) 134 tt),(js,.cells (stC st) 147 tt),(s,zp b)]):=by
 refine zn 15 hT Tryz.func127 fun Y Wz=>?_;refine au 0 ?_;have hs5:=hb.sms.len;have hmm:=hb.mes.bnd m hm;refine au 21042 ?_;intro jm hjm;refine au 235 ?_;refine TK.dr [0,1,2,3,4,5,7,8,6,9,10] [0,1,2,3,4,5,6,7,8,9,10] ?_;refine ad [[12,1],[3,3],[10,6],[3,3],[10,8],[12,2],[3,3],[10,12]] ?_;refine TD.clE (Wx:=[_,_,_,_]) [5,7,9,10] Z Z Z Z Z (zj1 hT (c:=m.cloth) (k:=m.many) hb hs oQ oQ) ?_;refine ad [[4,11,13],[13,14],[14]] ?_;refine au 0 ?_;refine bB Wz [(jb,_),(js,_),(s,_)] ?_;exact ⟨by simp [bne]; rfl,rfl⟩
theorem ziY {main T} (hT:zt tp main T) {gm} {j:Nat} {xs:List RMeas} {et:gT} {f:AV} {Kc:KV} {p:RMeas->Bool} (hp:∀ x∈xs,CallFK tp T gm f [.agg (measC x)] Kc (fun r K'=>r=zC (p x)/\K'=Kc)) (hl:xs.length<=1000) :
  zr tp T gm 172 [.sl j 0 xs.length,f] ((j,.cells (xs.flatMap measC) et ff)::Kc) (fun r K'=>(∃ n:Int,r=za n/\decide (n>=0)=xs.any p)/\K'=(j,.cells (xs.flatMap measC) et ff)::Kc):=by
 refine zn 19 hT Tryz.func172 fun Y Wz=>?_;refine au 1303128014223542 ?_;refine bA [0,1,7,8] ?_;refine bE (fun n Wq K=>∃ (i:Nat),n=xs.length - i/\i<=xs.length/\(xs.take i).any p=ff/\Wq=.sl j 0 xs.length::f::naL 5 (za xs.length::za i::naL 10 [])/\K=((j,.cells (xs.flatMap measC) et ff)::Kc)) xs.length ⟨0,rfl,mN _,by simp,rfl,rfl⟩ fun n Wq K hI Wj=>?_;obtain ⟨i,rfl,hi,hn,rfl,rfl⟩:=hI;refine bG nQ ?_;refine au 923742 ?_;refine ⟨fun hc=>?_,fun hc=>?_⟩
 ·simp only [decide_eq_true_eq] at hc;have Qb:i<xs.length:=by omega
  obtain ⟨x,hx⟩:∃ x,xs[i]? =some x:=⟨_,lA Qb⟩;refine au 36011142351421302120 ?_;refine bH Z (zS Z Z ze.h mQ (ze9 (i:=i) hx Z)) ?_;refine TK.callF' Z Z Z Z Z (hp x (lN hx)) (.right (.all _)) fun r1 K2 h3=>?_;obtain ⟨rfl,hK⟩:=h3;refine au 0 ?_;rw [hK];refine bN (K':=(j,_)::Kc) (List.perm_append_singleton _ _) ?_;refine au 93 ?_;constructor<;>intro Jx
  ·refine au 35142 ?_;refine bB Wz (((j,_)::Kc)) ?_;exact ⟨⟨i,rfl,by rw [decide_eq_true (Int.natCast_nonneg i),znI hx Jx]⟩,rfl⟩
  refine au 312304140120 ?_;refine bA [0,1,7,8] ?_;refine bC (((j,_)::Kc)) ?_;exact Wj _ _ _ oQ ⟨i+1,rfl,oQ,zkc hx hn Jx,rfl,rfl⟩
 simp only [decide_eq_false_iff_not] at hc;obtain rfl:i=xs.length:=by omega
 refine au 3542160 ?_;refine bB Wz (((j,_)::Kc)) ?_;rw [lW] at hn;exact ⟨⟨-1,rfl,by rw [hn]; rfl⟩,rfl⟩
theorem zeG {main T} (hT:zt tp main T) {gm} {j:Nat} {xs:List RMeas} {et:gT} {f:AV} {Kc:KV} {p:RMeas->Bool} (hp:∀ x∈xs,CallFK tp T gm f [.agg (measC x)] Kc (fun r K'=>r=zC (p x)/\K'=Kc)) (hl:xs.length<=1000) :
  zr tp T gm 126 [.sl j 0 xs.length,f] ((j,.cells (xs.flatMap measC) et ff)::Kc) (fun r K'=>r=zC (xs.any p)/\K'=(j,.cells (xs.flatMap measC) et ff)::Kc):=by
 refine zn 9 hT Tryz.func126 fun Y Wz=>?_;refine au 11423542 ?_;refine bD Z Z Z Z (ziY hT hp hl) ?_ (hs:=(.all _));rintro r1 K2 ⟨⟨m,rfl,hm⟩,rfl⟩;refine au 0 ?_;refine bN (K':=(j,_)::Kc) (by rw [lR]) ?_;refine au 357 ?_;refine bB Wz (((j,_)::Kc)) ?_;exact ⟨by rw [<- hm],rfl⟩
theorem zlv {main T} (hT:zt tp main T) {gm} {b:RBk} {s h e:Nat} {st:List Int} (hb:ROk b) (hs:StOk b st) :
  zr tp T gm 106 [.agg (zH b s h e),.agg (stC st)] [(s,zp b),(e,zz b)] (fun r K'=>r=zC (rightM b st)/\K'=[(s,zp b),(e,zz b)]):=by
 refine zn 11 hT Tryz.func106 fun Y Wz=>?_;refine au 21042 ?_;intro jb hjb;refine au 210 ?_;intro js hjs;refine au 3206906706704235 ?_;refine bD Z Z Z Z (zeG hT (p:=fun m => !decide (togM b st m.cloth.toNat m.many.toNat=m.wide)) (Kc:=[(jb,.cells (zH b s h e) 134 tt),(js,.cells (stC st) 147 tt),(s,zp b)]) (fun x hx=>yK Cal.h (zjE hT hb hs hx)) (by have:=hb.mes.len; omega)) ?_ (hs:=(.rem (.tail (.tail (.tail .head))) (.rem (.tail .head) (.rem .head (.rem .head (.none _))))));rintro r1 K2 ⟨rfl,rfl⟩;refine au 35300 ?_;refine bB Wz [(s,_),(e,_)] ?_;exact ⟨by rw [zjF],rfl⟩
def YieldR (P:gP) (T:gG->Hp->Prop) (gm:Nat->Option Nat) (b:RBk) (s h e l:Nat) (J:List (List Int)->KV->Prop) (D:KV->Prop) (tot:List (List Int)):Prop:=∀ (pre:List (List Int)) (S:List Int) (K1:KV),pre++[S] <+: tot->J pre K1 ->
 CallFK P T gm (.yl l) [.agg (stC S)] ((s,zp b)::(h,zF b)::(e,zz b)::K1) fun r K'=>∃ K2,K'=(s,zp b)::(h,zF b)::(e,zz b)::K2/\((r=zC tt/\J (pre++[S]) K2)\/(r=zC ff/\D K2))
structure ArrOk (b:RBk) (c p:List Int):Prop where
 len:c.length=5
 tk:c.take p.length=p
 z:∀ k,b.sH.length<=k->c.getD k 0=0
theorem zlZ {b:RBk} {c p:List Int} {n:Int} (h:ArrOk b c p) (hp:p.length<b.sH.length) (h5:b.sH.length<=5):ArrOk b (c.set p.length n) (p++[n]):=by
 have hl:=h.len;refine ⟨by simp [hl],?_,fun k hk=>?_⟩
 ·rw [lF,List.length_singleton,List.take_add_one,List.getElem?_set_self oQ,List.take_set_of_le (mL _),h.tk];rfl
 ·rw [lE,List.getElem?_set_ne oQ,<- lE];exact h.z k hk
theorem zeq {b:RBk} {c p:List Int} {n:Int} (h:ArrOk b c (p++[n])):ArrOk b c p:=⟨h.len,by
 have:=congrArg (List.take p.length) h.tk;rw [List.take_take,lF,List.take_append_of_le_length (mL _),lW] at this;rw [Nat.min_eq_left sQ] at this;exact this,h.z⟩
theorem zk4 (n hi:Int) (h:n<=hi):numsF n (hi+1 - n).toNat=n::numsF (n+1) (hi+1 - (n+1)).toNat:=by
 rw [show (hi+1 - n).toNat=(hi+1 - (n+1)).toNat+1 by omega]; rfl
theorem zk3 (n hi:Int) (h:¬ n<=hi):numsF n (hi+1 - n).toNat=[]:=by
 rw [show (hi+1 - n).toNat=0 by omega]; rfl
theorem zfl {f:Int->List (List Int)} {n hi:Int} {pre x:List (List Int)} (hn:n<=hi) (h:pre++(numsF n (hi+1 - n).toNat).flatMap f=x):(pre++f n)++(numsF (n+1) (hi+1 - (n+1)).toNat).flatMap f=x:=by
 rw [<- h,zk4 n hi hn,List.flatMap_cons,List.append_assoc]
theorem zoG (a b c d f g h:Nat×AObj) {R:KV}:([f,h]++a::b::c::d::g::R).Perm (a::b::c::d::f::g::h::R):=by
 have q1:([f,h]++a::b::c::d::g::R).Perm (a::b::c::d::g::R++[f,h]):=lH;have q2:((a::b::c::d::g::R)++[f,h]).Perm (a::b::c::d::([f,g,h]++R)):=by
  have q3:((g::R)++[f,h]).Perm ([f,g,h]++R):=by
   have q4:((g::R)++[f,h]).Perm (g::([f,h]++R)):=List.Perm.cons _ lH;exact q4.trans (List.Perm.swap _ _ _)
  exact (((q3.cons d).cons c).cons b).cons a
 exact q1.trans q2
theorem zoH {a b c d:Nat×AObj} {R:KV}:(d::c::b::a::R).Perm (a::c::b::d::R):=by
 have q1:(d::c::b::a::R).Perm (c::b::a::d::R):=(List.perm_middle (l₁:=[c,b,a])).symm;have q2:(c::b::a::d::R).Perm (a::c::b::d::R):=List.perm_middle (l₁:=[c,b]);exact q1.trans q2
instance:ze tp 111 ff 1:={}
instance:ze tp 192 ff 1:={}
instance:TyZA tp 111 [.v (.nilFunc)]:={}
theorem zmO {main T} (hT:zt tp main T) {gm} {b:RBk} {s h e l jb js jy jn:Nat} (hb:ROk b) {J:List (List Int)->KV->Prop} {D:KV->Prop} {tot:List (List Int)} (hy:YieldR tp T gm b s h e l J D tot) :
  ∀ (m:Nat) (p c:List Int) (pre:List (List Int)) (K1:KV),b.sH.length - p.length=m->ArrOk b c p->PreB b p->pre++fromM b p (b.sH.drop p.length) <+: tot->J pre K1 ->
  zr tp T gm 105 [za p.length,.ptr jb 0,.ptr js 0,.ptr jy 0,.ptr jn 0] ((jb,.cells (zH b s h e) 134 tt)::(js,.cells (c.map za) 147 tt)::(jy,.cells [.yl l] 192 tt)::(jn,.cells [.fn 105 [] [.ptr jb 0,.ptr js 0,.ptr jy 0,.ptr jn 0]] 111 tt)::(s,zp b)::(h,zF b)::(e,zz b)::K1) (fun r K'=>∃ (c':List Int) (K2:KV),ArrOk b c' p/\K'=(jb,.cells (zH b s h e) 134 tt)::(js,.cells (c'.map za) 147 tt)::(jy,.cells [.yl l] 192 tt)::(jn,.cells [.fn 105 [] [.ptr jb 0,.ptr js 0,.ptr jy 0,.ptr jn 0]] 111 tt)::(s,zp b)::(h,zF b)::(e,zz b)::K2/\((r=zC tt/\J (pre++fromM b p (b.sH.drop p.length)) K2)\/(r=zC ff/\D K2))):=by
 refine fun m=>Nat.strongRecOn m fun m ih=>?_;intro p c pre K1 hm hc hp hpre hJ;refine zn 49 hT Tryz.func105 fun Y Wz=>?_;have hcl:=hc.len;have hle:=hp.1;have hsl:=hb.cls.len;have hs5:=hb.sms.len;refine au 93728069067067014223542 ?_;constructor<;>intro Jz
 ·have hpl:p.length=b.sH.length:=by simp at Jz; omega
  have hcp:c.map za=stC p:=zo1 hcl hpl (by rw [<- hpl]; exact hc.tk) hc.z;rw [hcp];have hdn:b.sH.drop p.length=[]:=List.drop_eq_nil_of_le oQ;have hst:StOk b p:=ziX hb ⟨hpl,fun i hi=>hp.2 i oQ⟩;refine au 68068042 ?_;refine bD Z Z Z Z (zlv hT hb hst) ?_ (hs:=(.right (.right (.right (.right (.left (.right (.left (.none _)))))))));rintro r1 K2 ⟨rfl,rfl⟩;refine au 0 ?_;refine bN (K':=(jb,_)::(js,_)::(jy,_)::(jn,_)::(s,_)::(h,_)::(e,_)::K1) (zoG _ _ _ _ _ _ _) ?_;refine au 1300 ?_;refine bF 18 (fun g2_5=>?_) (fun g2_5=>?_)
  ·have hfr:fromM b p (b.sH.drop p.length)=[]:=by rw [hdn]; unfold fromM; rw [if_neg (by simpa using g2_5)]
   refine au 35260888 ?_;refine bB Wz (_) ?_ (hs:=(.all _));exact ⟨c,K1,hc,by rw [hcp],.inl ⟨rfl,by rw [hfr]; simpa using hJ⟩⟩
  have hfr:fromM b p (b.sH.drop p.length)=[p]:=by rw [hdn]; unfold fromM; rw [if_pos (by simpa using g2_5)]
  refine au 680690 ?_;refine TK.callF' Z Z Z Z Z (hy pre p K1 (by rw [<- hfr]; exact hpre) hJ) (.right (.right (.right (.right (.all _))))) fun r4 K5 h6=>?_;rcases h6 with ⟨K2,rfl,⟨rfl,hJ2⟩ | ⟨rfl,hD⟩⟩
  ·refine au 0 ?_;refine bN (K':=(jb,_)::(js,_)::(jy,_)::(jn,_)::(s,_)::(h,_)::(e,_)::K2) (lH (l₁:=(s,_)::(h,_)::(e,_)::K2)) ?_;refine au 35250 ?_;refine bB Wz (_) ?_ (hs:=(.all _));exact ⟨c,K2,hc,by rw [hcp],.inl ⟨rfl,by rw [hfr]; exact hJ2⟩⟩
  ·refine au 0 ?_;refine bN (K':=(jb,_)::(js,_)::(jy,_)::(jn,_)::(s,_)::(h,_)::(e,_)::K2) (lH (l₁:=(s,_)::(h,_)::(e,_)::K2)) ?_;refine au 35250 ?_;refine bB Wz (_) ?_ (hs:=(.all _));exact ⟨c,K2,hc,by rw [hcp],.inr ⟨rfl,hD⟩⟩
 have Qp:p.length<b.sH.length:=by simp at Jz; omega
 have hbd:=hb.cls.bnd p.length oQ;have hdc:b.sH.drop p.length=bd b p.length::b.sH.drop (p.length+1):=zM (yT Qp);have hfr:fromM b p (b.sH.drop p.length)=(numsF (bd b p.length).low ((bd b p.length).high+1 - (bd b p.length).low).toNat).flatMap fun n=>fromM b (p++[n]) (b.sH.drop (p.length+1)):=by rw [hdc]; rfl
 refine au 6703601690670670422120 ?_;refine bH Z (zj Z Z ze.h mQ (yd (c:=0) (bd_at b Qp Z) dQ Z)) ?_;refine au 13035 ?_;refine bA [0,1,2,3,4,6,7] ?_;refine bE (fun n1 Wq K=>∃ (n:Int) (c1:List Int) (pre1:List (List Int)) (K2:KV),n1=((bd b p.length).high+1 - n).toNat/\((bd b p.length).low<=n/\n<=(bd b p.length).high+1)/\ArrOk b c1 p/\J pre1 K2/\pre1++(numsF n ((bd b p.length).high+1 - n).toNat).flatMap (fun n=>fromM b (p++[n]) (b.sH.drop (p.length+1)))=pre++fromM b p (b.sH.drop p.length)/\Wq=za p.length::.ptr jb 0::.ptr js 0::.ptr jy 0::.ptr jn 0::.any::zC ff::za n::naL 41 []/\K=(jb,.cells (zH b s h e) 134 tt)::(js,.cells (c1.map za) 147 tt)::(jy,.cells [.yl l] 192 tt)::(jn,.cells [.fn 105 [] [.ptr jb 0,.ptr js 0,.ptr jy 0,.ptr jn 0]] 111 tt)::(s,zp b)::(h,zF b)::(e,zz b)::K2) _ ⟨(bd b p.length).low,c,pre,K1,rfl,oQ,hc,hJ,by rw [hfr],rfl,rfl⟩ fun n1 Wq K hI Wj=>?_;obtain ⟨n,c1,pre1,K2,rfl,hn,hc1a,hJ1,hEq,rfl,rfl⟩:=hI;have hc1l:=hc1a.len;refine bG nQ ?_;refine au 67036016906706701422 ?_;refine bH Z (zj Z Z ze.h mQ (yd (c:=1) (bd_at b Qp Z) dQ Z)) ?_;refine au 937 ?_;constructor<;>intro Jx
 ·have hnh:n<=(bd b p.length).high:=of_decide_eq_true Jx;refine au 11421302120 ?_;refine bH Z (yH Z Z Z ArEl.h oQ oQ) ?_;refine TK.st Z Z Z (zE Z Z ze.h Z Z mQ (uV (k:=p.length) oQ Z)) uQ (putN Z) ?_;refine au 2301690423 ?_;refine bD Z Z Z Z ((by have:=ih (b.sH.length - (p.length+1)) oQ (p++[n]) (c1.set p.length n) pre1 K2 sQ (zlZ hc1a Qp oQ) (zfo hp Qp hn.1 hnh) (List.IsPrefix.trans ⟨_,by rw [lF]; exact zfl hnh hEq⟩ hpre) hJ1; rw [lF] at this; exact this)) ?_ (hs:=(.all _));rintro r7 K8 h9;rcases h9 with ⟨c2,K3,hc2,rfl,⟨rfl,hJ3⟩ | ⟨rfl,hD⟩⟩
  ·refine au 0 ?_;refine bN (K':=(jb,.cells (zH b s h e) 134 tt)::(js,.cells (c2.map za) 147 tt)::(jy,.cells [.yl l] 192 tt)::(jn,.cells [.fn 105 [] [.ptr jb 0,.ptr js 0,.ptr jy 0,.ptr jn 0]] 111 tt)::(s,zp b)::(h,zF b)::(e,zz b)::K3) (by rw [lR]) ?_;refine au 35230141401201903300 ?_;refine bA [0,1,2,3,4,6,7] ?_;exact Wj _ _ _ oQ ⟨n+1,c2,_,K3,rfl,oQ,zeq hc2,hJ3,zfl hnh hEq,rfl,rfl⟩
  ·refine au 0 ?_;refine bN (K':=(jb,.cells (zH b s h e) 134 tt)::(js,.cells (c2.map za) 147 tt)::(jy,.cells [.yl l] 192 tt)::(jn,.cells [.fn 105 [] [.ptr jb 0,.ptr js 0,.ptr jy 0,.ptr jn 0]] 111 tt)::(s,zp b)::(h,zF b)::(e,zz b)::K3) (by rw [lR]) ?_;refine au 35421803300 ?_;refine bB Wz (_) ?_ (hs:=(.all _));exact ⟨c2,K3,zeq hc2,rfl,.inr ⟨rfl,hD⟩⟩
 refine au 3542160 ?_;refine bB Wz (_) ?_ (hs:=(.all _));exact ⟨c1,K2,hc1a,rfl,.inl ⟨rfl,by rw [<- hEq,zk3 _ _ (of_decide_eq_false Jx)]; simpa using hJ1⟩⟩
theorem zjV {main T} (hT:zt tp main T) {gm} {b:RBk} {s h e l:Nat} (hb:ROk b) {J:List (List Int)->KV->Prop} {D:KV->Prop} {K1:KV} (hy:YieldR tp T gm b s h e l J D (zh b)) (hJ:J [] K1) :
  zr tp T gm 71 [.agg (zH b s h e),.yl l] ((s,zp b)::(h,zF b)::(e,zz b)::K1) (fun _ K'=>∃ K2,K'=(s,zp b)::(h,zF b)::(e,zz b)::K2/\(J (zh b) K2\/D K2)):=by
 refine zn 9 hT Tryz.func71 fun Y Wz=>?_;refine au 0 ?_;have hs5:=hb.sms.len;have hsl:=hb.cls.len;refine au 21042 ?_;intro jb hjb;refine au 210 ?_;intro jy hjy;refine au 220423 ?_;intro js hjs;refine au 220423 ?_;intro jn hjn;refine au 3170320423 ?_;refine bN (K':=(jb,.cells (zH b s h e) 134 tt)::(js,.cells ([0,0,0,0,0].map za) 147 tt)::(jy,.cells [.yl l] 192 tt)::(jn,.cells [.fn 105 [] [.ptr jb 0,.ptr js 0,.ptr jy 0,.ptr jn 0]] 111 tt)::(s,zp b)::(h,zF b)::(e,zz b)::K1) zoH ?_;refine au 6904 ?_;refine bD Z Z Z Z (zmO hT hb hy _ [] [0,0,0,0,0] [] K1 Z ⟨rfl,rfl,fun k hk=>by rw [lE]; rcases k with _ | _ | _ | _ | _ | k <;> rfl⟩ (zg4 b) (List.prefix_refl _) hJ) ?_ (hs:=(.all _));rintro r1 K2 h3;rcases h3 with ⟨c2,K2,hc2,rfl,⟨rfl,hJ2⟩ | ⟨rfl,hD⟩⟩
 ·refine au 0 ?_;refine bN (K':=(jb,.cells (zH b s h e) 134 tt)::(js,.cells (c2.map za) 147 tt)::(jy,.cells [.yl l] 192 tt)::(jn,.cells [.fn 105 [] [.ptr jb 0,.ptr js 0,.ptr jy 0,.ptr jn 0]] 111 tt)::(s,zp b)::(h,zF b)::(e,zz b)::K2) (by rw [lR]) ?_;refine au 3 ?_;refine TK.rt0 Wz (_) ?_ (hs:=(.right (.right (.right (.right (.all _))))));exact ⟨_,rfl,.inl hJ2⟩
 ·refine au 0 ?_;refine bN (K':=(jb,.cells (zH b s h e) 134 tt)::(js,.cells (c2.map za) 147 tt)::(jy,.cells [.yl l] 192 tt)::(jn,.cells [.fn 105 [] [.ptr jb 0,.ptr js 0,.ptr jy 0,.ptr jn 0]] 111 tt)::(s,zp b)::(h,zF b)::(e,zz b)::K2) (by rw [lR]) ?_;refine au 3 ?_;refine TK.rt0 Wz (_) ?_ (hs:=(.right (.right (.right (.right (.all _))))));exact ⟨_,rfl,.inr hD⟩
theorem zfm (a b c d:Nat×AObj) {R:KV}:(a::b::c::d::R).Perm (b::c::d::a::R):=(List.perm_middle (l₁:=[b,c,d])).symm
theorem perm_4' (a b c d:Nat×AObj) {R:KV}:(b::c::d::a::R).Perm (a::b::c::d::R):=List.perm_middle (l₁:=[b,c,d])
theorem Kstep.perm {K K' K'':KV} {A A':List AObj} (h:Kstep K A K' A') (hp:K'.Perm K''):Kstep K A K'' A' :=
 ⟨h.view.sub fun x hx=>hp.symm.subset hx,(z7 hp).nodup_iff.1 h.nd,fun i hi=>h.own i ((z7 hp).symm.subset hi),h.kept,h.len⟩
theorem CallFK.perm {P:gP} {T:gG->Hp->Prop} {gm:Nat->Option Nat} {yv:AV} {args:List AV} {K:KV} {Post Post':AV->KV->Prop} (h:CallFK P T gm yv args K Post) (hp:∀ r K',Post r K'->∃ K'',K'.Perm K''/\Post' r K''):CallFK P T gm yv args K Post' :=
 fun A hv hn=>(h A hv hn).mono fun r A' ⟨K',h1,h2⟩=>let ⟨K'',h3,h4⟩:=hp r K' h2; ⟨K'',h1.perm h3,h4⟩
section
variable {main:Bool} {T:gG->Hp->Prop} {gm:Nat->Option Nat} {Y:KX tp gm T} {ds:List Nat} {k:List Item} {Wq:List AV} {K K0 R:KV}
theorem TK.rangeStates (hT:zt tp main T) {fo:gO} {ps:Array Tmp} {x y:Code} {b:RBk} {s h e:Nat} (hb:ROk b) {J:List (List Int)->KV->Prop} {D:Code->KV->Prop} (hps:ps.size=1) (hro:Y.X.ro=none) (hf:zo gm Wq fo=some (.fn 71 [.agg (zH b s h e)] [])) (hs:Split K ((s,zp b)::(h,zF b)::(e,zz b)::K0) R) (hJ0:J [] K0)
  (round:∀ (Y':KX tp gm T) (l:Nat) (lo lb:AObj) (pre:List (List Int)) (S:List Int) (K1:KV),(∀ ds k Wk K K',Upd K l lo l lb K'->TK Y' ds k Wk K'->TK Y' ds (.beginRound::k) Wk K) ->
   (∀ Wk K' K2 D',Split K' ((l,lb)::(s,zp b)::(h,zF b)::(e,zz b)::K2) D'->J (pre++[S]) K2->TK Y' [] [] Wk K') ->
   (∀ c k Wk K' K2 D',Leave (some c) k->Split K' ((l,lb)::(s,zp b)::(h,zF b)::(e,zz b)::K2) D'->D c K2->TK Y' [] k Wk K') ->
   pre++[S] <+: zh b->J pre K1->TK Y' [] [.code x,.beginRound,.code y] (putAll Wq (ps.toList.zip [.agg (stC S)])) ((l,lo)::(s,zp b)::(h,zF b)::(e,zz b)::K1))
  (hend:∀ d K2,J (zh b) K2->TK Y (d::ds) k Wq ((d,.raw (.deferred (some [])))::(s,zp b)::(h,zF b)::(e,zz b)::(K2++R)))
  (hstop:∀ d c K2,D c K2->TK Y (d::ds) (.code c::k) Wq ((d,.raw (.deferred (some [])))::(s,zp b)::(h,zF b)::(e,zz b)::(K2++R))):TK Y ds (.code (.rangeFunc fo ps x y)::k) Wq K:=by
 refine TK.rangeFunc (Post:=fun l _ K'=>∃ st pj K2,K'=(l,.loop Y.X.f Wq ps x y st pj)::(s,zp b)::(h,zF b)::(e,zz b)::K2/\((st=.ready/\pj=none/\J (zh b) K2)\/∃ c,st=.done/\pj=some c/\D c K2))
  (Q:=fun pj K'=>∃ K2,K'=(s,zp b)::(h,zF b)::(e,zz b)::K2/\((pj=none/\J (zh b) K2)\/∃ c,pj=some c/\D c K2)) hro hf Cal.h hs (fun l hl=>?_) ?_ ?_
 ·intro A hv hn;have hp:((l,AObj.loop Y.X.f Wq ps x y .ready none)::(s,zp b)::(h,zF b)::(e,zz b)::K0).Perm ((s,zp b)::(h,zF b)::(e,zz b)::(l,.loop Y.X.f Wq ps x y .ready none)::K0):=zfm _ _ _ _;refine CallT.mono (zjV hT hb (l:=l) (J:=fun pre K=>∃ K3,K=(l,.loop Y.X.f Wq ps x y .ready none)::K3/\J pre K3) (D:=fun K=>∃ c K3,K=(l,.loop Y.X.f Wq ps x y .done (some c))::K3/\D c K3) ?_ ⟨K0,rfl,hJ0⟩ A (hv.sub fun x hx=>hp.symm.subset hx) ((z7 hp).nodup_iff.1 hn)) ?_
  ·rintro pre S K1 hpre ⟨K3,rfl,hJ⟩;refine CallFK.perm (Post:=fun r K'=>(r=zC tt/\∃ K2,K'=(l,.loop Y.X.f Wq ps x y .ready none)::(s,zp b)::(h,zF b)::(e,zz b)::K2/\J (pre++[S]) K2)\/(r=zC ff/\∃ c K2,K'=(l,.loop Y.X.f Wq ps x y .done (some c))::(s,zp b)::(h,zF b)::(e,zz b)::K2/\D c K2)) ?_ ?_
   ·refine zdv hT (i:=l) (f:=Y.X.f) (Wq:=Wq) (ps:=ps) (x:=x) (y:=y) sQ hps.symm fun Y' hro' hl' Wz=>?_;refine bN (perm_4' _ _ _ _) ?_;refine round Y' l (.loop Y.X.f Wq ps x y .ready none) (.loop Y.X.f Wq ps x y .busy none) pre S K3 (fun ds k Wk K K' hu h=>TK.beginRound hro' hl' hu h) (fun Wk K' K2 D' hsp hJ'=>?_) (fun c k Wk K' K2 D' hlv hsp hD=>?_) hpre hJ
    ·exact TK.leave .fin fun A hA=>Wz none Wk K' ((s,zp b)::(h,zF b)::(e,zz b)::K2) D' .busy none hsp (.inl ⟨rfl,K2,rfl,hJ'⟩) A hA
    ·exact TK.leave hlv fun A hA=>Wz (some c) Wk K' ((s,zp b)::(h,zF b)::(e,zz b)::K2) D' .busy none hsp (.inr ⟨rfl,c,K2,rfl,hD⟩) A hA
   ·rintro r K' (⟨rfl,K2,rfl,h⟩ | ⟨rfl,c,K2,rfl,h⟩)
    ·exact ⟨_,zfm _ _ _ _,_,rfl,.inl ⟨rfl,K2,rfl,h⟩⟩
    ·exact ⟨_,zfm _ _ _ _,_,rfl,.inr ⟨rfl,c,K2,rfl,h⟩⟩
  ·rintro r A' ⟨K',hk,K2,rfl,hx⟩;have hk2:∀ K'',((s,zp b)::(h,zF b)::(e,zz b)::K2).Perm K''->Kstep ((l,AObj.loop Y.X.f Wq ps x y .ready none)::(s,zp b)::(h,zF b)::(e,zz b)::K0) A K'' A':=fun K'' hp2 =>
    Kstep.perm ⟨hk.view,hk.nd,fun i hi=>(hk.own i hi).imp_left fun h=>(z7 hp).symm.subset h,fun j h1 h2=>hk.kept j h1 fun h=>h2 ((z7 hp).symm.subset h),hk.len⟩ hp2
   rcases hx with ⟨K3,rfl,h⟩ | ⟨c,K3,rfl,h⟩
   ·exact ⟨_,hk2 _ (perm_4' _ _ _ _),.ready,none,K3,rfl,.inl ⟨rfl,rfl,h⟩⟩
   ·exact ⟨_,hk2 _ (perm_4' _ _ _ _),.done,some c,K3,rfl,.inr ⟨c,rfl,rfl,h⟩⟩
 ·rintro l r K' ⟨st,pj,K2,rfl,h⟩;refine ⟨st,pj,_,rfl,?_,K2,rfl,?_⟩
  ·rcases h with ⟨rfl,_⟩ | ⟨c,rfl,_⟩ <;> rfl
  ·rcases h with ⟨_,rfl,h⟩ | ⟨c,_,rfl,h⟩
   ·exact .inl ⟨rfl,h⟩
   ·exact .inr ⟨c,rfl,h⟩
 ·rintro d pj K' ⟨K2,rfl,⟨rfl,h⟩ | ⟨c,rfl,h⟩⟩
  ·exact hend d K2 h
  ·exact hstop d c K2 h
end
theorem zfa (n:Int):∀ k,(numsF n k).length=k
 | 0=>rfl
 | k+1=>by unfold numsF; rw [lZ,zfa (n+1) k]
theorem zeN {b:RBk}:∀ (r:List RBand) (p:List Int),(∀ x∈r,(numsM x).length<=3)->(fromM b p r).length<=3 ^ r.length
 | [],p,_=>by unfold fromM; split <;> simp
 | x::r,p,h=>by
  unfold fromM;have h1:=h x sQ;have key:∀ (l:List Int),(l.flatMap fun n=>fromM b (p++[n]) r).length<=l.length*3 ^ r.length:=fun l=>by
   induction l with
   | nil=>simp
   | cons a l ih =>
    rw [List.flatMap_cons,lF,lZ,Nat.succ_mul];have:=zeN (b:=b) r (p++[a]) fun y hy=>h y (by simp [hy]);omega
  have h2:=key (numsM x);have h3:(numsM x).length*3 ^ r.length<=3*3 ^ r.length:=Nat.mul_le_mul_right _ h1;rw [lZ,Nat.pow_succ];omega
theorem y7 {b:RBk} (hb:ROk b):(zh b).length<=243:=by
 have h1:=zeN (b:=b) b.sH [] fun x hx=>by
  obtain ⟨i,hi,rfl⟩:=List.mem_iff_getElem.1 hx;have hi2:i<b.sE.length:=by have:=hb.cls.len; omega
  have e:b.sH[i]=bd b i:=by have:=yT (b:=b) hi; rw [lA hi] at this; exact Option.some.inj this
  have:=hb.cls.bnd i hi2;unfold numsM;rw [zfa,e];omega
 have h2:3 ^ b.sH.length<=3 ^ 5:=Nat.pow_le_pow_right dQ (by have:=hb.cls.len; have:=hb.sms.len; omega);exact mT h1 h2
theorem zm5 {b:RBk} (hb:ROk b) {pre:List (List Int)} (h:pre <+: zh b):pre.length<=243:=mT h.length_le (y7 hb)
theorem km {α:Type} (f:α->List AV) (xs:List α) (x:α):(xs++[x]).flatMap f=xs.flatMap f++f x:=by rw [List.flatMap_append]; simp
abbrev allO (all:List (List Int)):AObj:=.cells (all.flatMap stC) 147 ff
def knownC (b:RBk) (s h e a n:Nat):List AV:=[za b.steps,za b.round,za b.roll,za b.rolls,.sl s 0 b.sE.length,.sl h 0 b.sH.length,.sl e 0 b.mE.length,.sl a 0 n]
def z8R:List AV:=[za 0,za 0,za 0,za 0,.v (.slice none 0 0),.v (.slice none 0 0),.v (.slice none 0 0),.v (.slice none 0 0)]
theorem kS {x y:Int} (h:bar2 x y=0):x=0:=by
 unfold bar2 at h;split at h
 ·rename_i h1; exact absurd h h1
 ·rename_i h1; simpa using h1
def KnownR (b:RBk) (s h e:Nat) (bar:Int) (K:KV) (r:AV) (K':KV):Prop :=
 (bar≠0/\r=.tup [.agg z8R,za bar]/\K'=K)\/(bar=0/\zh b=[]/\r=.tup [.agg z8R,za 9]/\K'=K)\/(bar=0/\zh b≠[]/\∃ a,r=.tup [.agg (knownC b s h e a (zh b).length),za 0]/\K'=(a,allO (zh b))::K)
theorem zg1 (a b c d e f:Nat×AObj) {R:KV}:((c::d::e::f::R)++[a,b]).Perm (c::d::e::f::a::b::R):=by
 have q:(R++[a,b]).Perm ([a,b]++R):=lH;exact (((q.cons f).cons e).cons d).cons c
theorem zg2 (a b c d e f g:Nat×AObj) {R:KV}:((g::c::d::e::f::R)++[a,b]).Perm (g::c::d::e::f::a::b::R):=by
 have q:(R++[a,b]).Perm ([a,b]++R):=lH;exact ((((q.cons f).cons e).cons d).cons c).cons g
instance:ApOf tp 152 147 5 40:={}
instance:BlOf tp 154 [(0,7),(7,1)]:={}
instance:zl tp 154 1 7 ff 1:={}
instance:zq tp 152 147 5:={}
instance:ze tp 152 ff 1:={}
instance:TyZ tp 147 [.int .i64 0,.int .i64 0,.int .i64 0,.int .i64 0,.int .i64 0]:={}
instance:TyZ tp 154 [.int .i64 0,.int .i64 0,.int .i64 0,.int .i64 0,.slice none 0 0,.slice none 0 0,.slice none 0 0,.slice none 0 0]:={}
instance:TyZA tp 154 [.v (.int .i64 0),.v (.int .i64 0),.v (.int .i64 0),.v (.int .i64 0),.v (.slice none 0 0),.v (.slice none 0 0),.v (.slice none 0 0),.v (.slice none 0 0)]:={}
instance:TyZA tp 4 [.v (.bool ff)]:={}
instance:Und tp 152 (.slice 147):={}
theorem zhk {main T} (hT:zt tp main T) {gm} {b:RBk} {s h e:Nat} (hb:ROk b) :
  zr tp T gm 90 [.agg (zH b s h e)] [(s,zp b),(h,zF b),(e,zz b)] (fun r K'=>r=zC (!(zh b).isEmpty)/\K'=[(s,zp b),(h,zF b),(e,zz b)]):=by
 refine vx 6 hT Tryz.func90 fun Y hro Wz=>?_;refine au 21042 ?_;intro jb hjb;refine au 220 ?_;intro jr hjr;refine au 13033206804223 ?_;refine TK.rangeStates hT hb (s:=s) (h:=h) (e:=e) (J:=fun pre K1=>K1=[(jr,.cells [zC ff] 4 tt),(jb,.cells (zH b s h e) 134 tt)]/\pre=[]) (D:=fun c K1=>c=.ret/\zh b≠[]/\K1=[(jr,.cells [zC tt] 4 tt),(jb,.cells (zH b s h e) 134 tt)]) rfl hro rfl vQ ⟨rfl,rfl⟩ (fun Y' l lo lb pre S K1 hbegin Qj hout hpre hJ=>?_) (fun d K2 hJ=>?_) (fun d c K2 hD=>?_)
 ·obtain ⟨rfl,rfl⟩:=hJ;refine au 120 ?_;refine hbegin _ _ _ _ _ uQ ?_;refine au 317042130 ?_;exact hout _ _ _ _ [(jr,_),(jb,_)] _ (.ret _) vQ ⟨rfl,fun e=>by rw [e] at hpre; exact absurd hpre.length_le sQ,rfl⟩
 ·obtain ⟨rfl,hJ⟩:=hJ;simp only [cA];refine au 317042140 ?_;refine TK.leave (.ret _) fun A hA=>Wz _ _ _ _ ([(s,_),(h,_),(e,_),(jr,_)]) ([(s,_),(h,_),(e,_)]) _ _ _ (.inr rfl) vQ sQ sQ vQ (yQ (yZ Z ze.h mQ rfl)) ?_ A hA;exact ⟨by rw [hJ]; rfl,rfl⟩
 ·obtain ⟨rfl,hD,rfl⟩:=hD;simp only [cA];refine au 0 ?_;refine TK.leave (.ret _) fun A hA=>Wz _ _ _ _ ([(s,_),(h,_),(e,_),(jr,_)]) ([(s,_),(h,_),(e,_)]) _ _ _ (.inr rfl) vQ sQ sQ vQ (yQ (yZ Z ze.h mQ rfl)) ?_ A hA;exact ⟨by cases hh:zh b with | nil=>exact absurd hh hD | cons x r=>rfl,rfl⟩
theorem zep {main T} (hT:zt tp main T) {gm} {b:RBk} {s h e:Nat} (hb:ROk b) :
  zr tp T gm 128 [.v (.slice none 0 0),.fn 71 [.agg (zH b s h e)] []] [(s,zp b),(h,zF b),(e,zz b)] (fun r K'=>∃ j,r=.row j (zh b).length/\K'=[(s,zp b),(h,zF b),(e,zz b),(j,.row ((zh b).flatMap stC) 147 5)]):=by
 refine vx 13 hT Tryz.func128 fun Y hro Wz=>?_;refine au 21042 ?_;intro jl hjl;refine TK.virtAt (i:=0) (e:=147) (size:=5) Z (fun _=>uQ) fun j0 hj0=>?_;refine au 1303142235 ?_;refine TK.rangeStates hT hb (s:=s) (h:=h) (e:=e) (J:=fun pre K1=>∃ j,K1=[(jl,.cells [.row j pre.length] 152 tt),(j,.row (pre.flatMap stC) 147 5)]) (D:=fun _ _=>False) rfl hro rfl vQ ⟨j0,rfl⟩ (fun Y' l lo lb pre S K1 hbegin Qj hout hpre hJ=>?_) (fun d K2 hJ=>?_) (fun d c K2 hD=>?_)
 ·obtain ⟨j,rfl⟩:=hJ;have hpl:=zm5 hb ((List.prefix_append _ _).trans hpre);have hfl:=yw stC 5 (fun _=>rfl) pre;refine au 2204 ?_;intro j5 hj5;refine au 3170 ?_;refine hbegin _ _ _ _ _ uQ ?_;refine au 6806904130 ?_;refine bI Z Z Z (zu (l:=[_,_,_,_,_]) Z zq.h TyZ.h dQ dQ Z) (fun _=>zx rfl tQ) fun j1 hj1=>?_;refine bO Z Z Z (a_app Z ApOf.h Z mQ oQ Z (yq (ln:=[_,_,_,_,_]) mQ dQ sQ Z) oQ Z (by unfold maxLen; omega) oQ) (fun _=>uQ) (fun _=>zx rfl tQ) fun j2=>?_;refine au 1403170 ?_;exact Qj _ _ [(jl,_),(j2,_)] _ vQ ⟨j2,by rw [km,lF] <;> rfl⟩
 ·obtain ⟨j,rfl⟩:=hJ;simp only [cA];refine au 3569042140 ?_;refine TK.leave (.ret _) fun A hA=>Wz _ _ _ _ ([(s,_),(h,_),(e,_),(j,_)]) ([(s,_),(h,_),(e,_),(j,_)]) _ _ _ (.inr rfl) vQ sQ sQ vQ (yQ (z5 Z)) ?_ A hA;exact ⟨j,rfl,rfl⟩
 ·exact hD.elim
theorem vH {main T} (hT:zt tp main T) {gm} {b:RBk} {s h e:Nat} (hb:ROk b) :
  zr tp T gm 107 [.fn 71 [.agg (zH b s h e)] []] [(s,zp b),(h,zF b),(e,zz b)] (fun r K'=>∃ j,r=.row j (zh b).length/\K'=[(s,zp b),(h,zF b),(e,zz b),(j,.row ((zh b).flatMap stC) 147 5)]):=by
 refine zn 5 hT Tryz.func107 fun Y Wz=>?_;refine au 1423542 ?_;refine bD Z Z Z Z (zep hT hb) ?_;rintro r1 K2 ⟨j,rfl,rfl⟩;refine au 35 ?_;refine bB Wz [(s,_),(h,_),(e,_),(j,_)] ?_;exact ⟨j,rfl,rfl⟩
theorem wU {main:Bool} {T:gG->Hp->Prop} (hT:zt tp main T)  {b:RBk} {s h e:Nat} {Kx:KV}  (hl:b.sE.length<=100) (hm:b.mE.length<=100) :
  zr tp T gmR 72 [.agg (zH b s h e),.v (.slice none 0 0)] ((0,zB)::(s,zp b)::(h,zF b)::(e,zz b)::Kx) (fun r K'=>KnownR b s h e (zy b) ((0,zB)::(s,zp b)::(h,zF b)::(e,zz b)::Kx) r K'):=by
 refine zn 30 hT Tryz.func72 fun Y Wz=>?_;refine au 21042 ?_;intro jb hjb;refine au 220 ?_;intro jr hjr;refine au 16804235 ?_;refine bD Z Z Z Z (zal hT hl hm) ?_ (hs:=(.right (.right (.all _))));rintro r1 K2 h3;rcases h3 with ⟨⟨Wv,rfl⟩ | ⟨Wv,rfl⟩,rfl⟩
 ·refine au 0 ?_;refine bN (K':=(0,_)::(s,_)::(h,_)::(e,_)::(jr,_)::(jb,_)::Kx) (zg1 _ _ _ _ _ _ ) ?_;refine au 220661 ?_;intro j6 hj6;refine au 937142235170 ?_;constructor<;>intro Jz
  ·exact absurd Jz sQ
  have hbb:=zX (Wv);refine au 2120 ?_;refine bL [0,1,2,3,4,5,6] ?_;refine ad [[12,6],[12,6]] ?_;refine bU [20] Z (zao Z Z Z) ?_;refine TD.c2 (i1:=3) (i2:=5) (pend1:=[_,_]) (pend2:=[_,_,_]) (L1:=[4,5,6]) (L2:=[3,4,6]) [21] [] Z Z Z Z Z Z Z ?_ ?_
  ·refine kJ Z Z Cal.h Z (vH hT hbb) (.right (.right (.left (.left (.left (.none _)))))) fun r4 K5 h6=>⟨?_,?_⟩
   ·rcases h6 with ⟨a,rfl,rfl⟩
    all_goals simp
   obtain ⟨a,rfl,rfl⟩:=h6;try simp only [cA]
   refine bS (Wk:=[_,_,_,_,_,_,_,_,_,_,_,_,_,_,_,_,_,_,_,_,_,_,_,_,_,_,_,_,_,_]) Z ?_;refine bU [19,22] Z (yP (l:=[_,_,_,_,_,_,_,_]) Z TyZ.h BlOf.h Z) ?_;refine bX (Wx:=[_,_,_]) [] Z Z Z Z Z (yN Z TyZA.h) (fun _=>zx rfl tQ) sQ fun j8 hj8=>?_;refine bR (Wx:=[]) [8,23] Z Z (zE Z Z ze.h Z Z mQ Z) ?_;refine ad [[14]] ?_;refine au 22 ?_;refine TK.unrowAt (c:=j8) (i:=7) (j:=a) Z mQ uQ ?_;refine bY (j:=a) ?_;refine au 9372806906704 ?_;constructor<;>intro Jx
   ·have hnil:zh b=[]:=List.length_eq_zero_iff.1 (by have:=eq_of_beq Jx; omega);refine au 3517045042 ?_;refine bB Wz ((0,_)::(s,_)::(h,_)::(e,_)::Kx) ?_;exact .inr (.inl ⟨Wv,hnil,rfl,rfl⟩)
   have hne:zh b≠[]:=fun e=>by rw [e] at Jx; simp at Jx
   refine au 3517068042120 ?_;refine bB Wz ((a,_)::(0,_)::(s,_)::(h,_)::(e,_)::Kx) ?_;exact .inr (.inr ⟨Wv,hne,a,rfl,rfl⟩)
  ·refine wg Z (yN Z TyZA.h) (fun _=>zx rfl tQ) sQ fun j8 hj8=>?_;refine bQ (Wx:=[_,_]) [21] Z Z Z Z Z (vH hT hbb) (fun r7 K8 h9=>⟨?_,?_⟩) (hs:=(.right (.right (.right (.left (.left (.left (.none _))))))))
   ·rcases h9 with ⟨a,rfl,rfl⟩
    all_goals simp
   obtain ⟨a,rfl,rfl⟩:=h9;try simp only [cA]
   refine bS tQ ?_;refine bU [19,22] Z (yP (l:=[_,_,_,_,_,_,_,_]) Z TyZ.h BlOf.h Z) ?_;refine bR (Wx:=[]) [8,23] Z Z (zE Z Z ze.h Z Z mQ Z) ?_;refine ad [[14]] ?_;refine au 22 ?_;refine TK.unrowAt (c:=j8) (i:=7) (j:=a) Z mQ uQ ?_;refine bY (j:=a) ?_;refine au 9372806906704 ?_;constructor<;>intro Jx
   ·have hnil:zh b=[]:=List.length_eq_zero_iff.1 (by have:=eq_of_beq Jx; omega);refine au 3517045042 ?_;refine bB Wz ((0,_)::(s,_)::(h,_)::(e,_)::Kx) ?_;exact .inr (.inl ⟨Wv,hnil,rfl,rfl⟩)
   have hne:zh b≠[]:=fun e=>by rw [e] at Jx; simp at Jx
   refine au 3517068042120 ?_;refine bB Wz ((a,_)::(0,_)::(s,_)::(h,_)::(e,_)::Kx) ?_;exact .inr (.inr ⟨Wv,hne,a,rfl,rfl⟩)
 ·refine au 0 ?_;refine bN (K':=(0,_)::(s,_)::(h,_)::(e,_)::(jr,_)::(jb,_)::Kx) (zg1 _ _ _ _ _ _ ) ?_;refine au 220661 ?_;intro j6 hj6;refine au 937142235170 ?_;constructor<;>intro Jz
  ·
   refine au 35170145042 ?_;refine bB Wz ((0,_)::(s,_)::(h,_)::(e,_)::Kx) ?_;exact .inl ⟨Wv,rfl,rfl⟩
  exact absurd Wv (by simpa using Jz)
theorem uq {main:Bool} {T:gG->Hp->Prop} (hT:zt tp main T)  {b:RBk} {s h e:Nat} {Kx:KV} {ja:Nat} {f1:AV} {p1:Int} (hf1:zy b=0->CallFK tp T gmR f1 [.agg (zH b s h e)] ((s,zp b)::Kx) (fun r K'=>r=za p1/\K'=(s,zp b)::Kx)) (hl:b.sE.length<=100) (hm:b.mE.length<=100) :
  zr tp T gmR 72 [.agg (zH b s h e),.row ja 1] ((ja,.row [f1] 137 1)::(0,zB)::(s,zp b)::(h,zF b)::(e,zz b)::Kx) (fun r K'=>KnownR b s h e (bar2 (zy b) p1) ((ja,.row [f1] 137 1)::(0,zB)::(s,zp b)::(h,zF b)::(e,zz b)::Kx) r K'):=by
 refine zn 30 hT Tryz.func72 fun Y Wz=>?_;refine au 21042 ?_;intro jb hjb;refine au 220 ?_;intro jr hjr;refine au 16804235 ?_;refine bD Z Z Z Z (vI hT hl hm hf1) ?_ (hs:=(.right (.right (.all _))));rintro r1 K2 h3;rcases h3 with ⟨⟨Wv,rfl⟩ | ⟨Wv,rfl⟩,rfl⟩
 ·refine au 0 ?_;refine bN (K':=(ja,_)::(0,_)::(s,_)::(h,_)::(e,_)::(jr,_)::(jb,_)::Kx) (zg2 _ _ _ _ _ _ _) ?_;refine au 220661 ?_;intro j6 hj6;refine au 937142235170 ?_;constructor<;>intro Jz
  ·exact absurd Jz sQ
  have hbb:=zX (kS Wv);refine au 2120 ?_;refine bL [0,1,2,3,4,5,6] ?_;refine ad [[12,6],[12,6]] ?_;refine bU [20] Z (zao Z Z Z) ?_;refine TD.c2 (i1:=3) (i2:=5) (pend1:=[_,_]) (pend2:=[_,_,_]) (L1:=[4,5,6]) (L2:=[3,4,6]) [21] [] Z Z Z Z Z Z Z ?_ ?_
  ·refine kJ Z Z Cal.h Z (vH hT hbb) (.right (.right (.right (.left (.left (.left (.none _))))))) fun r4 K5 h6=>⟨?_,?_⟩
   ·rcases h6 with ⟨a,rfl,rfl⟩
    all_goals simp
   obtain ⟨a,rfl,rfl⟩:=h6;try simp only [cA]
   refine bS (Wk:=[_,_,_,_,_,_,_,_,_,_,_,_,_,_,_,_,_,_,_,_,_,_,_,_,_,_,_,_,_,_]) Z ?_;refine bU [19,22] Z (yP (l:=[_,_,_,_,_,_,_,_]) Z TyZ.h BlOf.h Z) ?_;refine bX (Wx:=[_,_,_]) [] Z Z Z Z Z (yN Z TyZA.h) (fun _=>zx rfl tQ) sQ fun j8 hj8=>?_;refine bR (Wx:=[]) [8,23] Z Z (zE Z Z ze.h Z Z mQ Z) ?_;refine ad [[14]] ?_;refine au 22 ?_;refine TK.unrowAt (c:=j8) (i:=7) (j:=a) Z mQ uQ ?_;refine bY (j:=a) ?_;refine au 9372806906704 ?_;constructor<;>intro Jx
   ·have hnil:zh b=[]:=List.length_eq_zero_iff.1 (by have:=eq_of_beq Jx; omega);refine au 3517045042 ?_;refine bB Wz ((ja,_)::(0,_)::(s,_)::(h,_)::(e,_)::Kx) ?_;exact .inr (.inl ⟨Wv,hnil,rfl,rfl⟩)
   have hne:zh b≠[]:=fun e=>by rw [e] at Jx; simp at Jx
   refine au 3517068042120 ?_;refine bB Wz ((a,_)::(ja,_)::(0,_)::(s,_)::(h,_)::(e,_)::Kx) ?_;exact .inr (.inr ⟨Wv,hne,a,rfl,rfl⟩)
  ·refine wg Z (yN Z TyZA.h) (fun _=>zx rfl tQ) sQ fun j8 hj8=>?_;refine bQ (Wx:=[_,_]) [21] Z Z Z Z Z (vH hT hbb) (fun r7 K8 h9=>⟨?_,?_⟩) (hs:=(.right (.right (.right (.right (.left (.left (.left (.none _)))))))))
   ·rcases h9 with ⟨a,rfl,rfl⟩
    all_goals simp
   obtain ⟨a,rfl,rfl⟩:=h9;try simp only [cA]
   refine bS tQ ?_;refine bU [19,22] Z (yP (l:=[_,_,_,_,_,_,_,_]) Z TyZ.h BlOf.h Z) ?_;refine bR (Wx:=[]) [8,23] Z Z (zE Z Z ze.h Z Z mQ Z) ?_;refine ad [[14]] ?_;refine au 22 ?_;refine TK.unrowAt (c:=j8) (i:=7) (j:=a) Z mQ uQ ?_;refine bY (j:=a) ?_;refine au 9372806906704 ?_;constructor<;>intro Jx
   ·have hnil:zh b=[]:=List.length_eq_zero_iff.1 (by have:=eq_of_beq Jx; omega);refine au 3517045042 ?_;refine bB Wz ((ja,_)::(0,_)::(s,_)::(h,_)::(e,_)::Kx) ?_;exact .inr (.inl ⟨Wv,hnil,rfl,rfl⟩)
   have hne:zh b≠[]:=fun e=>by rw [e] at Jx; simp at Jx
   refine au 3517068042120 ?_;refine bB Wz ((a,_)::(ja,_)::(0,_)::(s,_)::(h,_)::(e,_)::Kx) ?_;exact .inr (.inr ⟨Wv,hne,a,rfl,rfl⟩)
 ·refine au 0 ?_;refine bN (K':=(ja,_)::(0,_)::(s,_)::(h,_)::(e,_)::(jr,_)::(jb,_)::Kx) (zg2 _ _ _ _ _ _ _) ?_;refine au 220661 ?_;intro j6 hj6;refine au 937142235170 ?_;constructor<;>intro Jz
  ·
   refine au 35170145042 ?_;refine bB Wz ((ja,_)::(0,_)::(s,_)::(h,_)::(e,_)::Kx) ?_;exact .inl ⟨Wv,rfl,rfl⟩
  exact absurd Wv (by simpa using Jz)
section
variable {P:gP} {main:Bool} {k:List Item}
theorem zlE {kd:CallKind} {f:FuncId} {ro:Option Nat} {ts:Array gV} {ds:List Deferred} {cs:List Frame} {w:World} {c:Code}:stepG P main (G (fr kd f ro ts ds (.code (.scope c)::k)) cs) w=.go (G (fr kd f ro ts ds (.code c::.inScope c::k)) cs) w #[]:=by simp [G,stepG,stepG.exec,fr]
end
section
variable {P:gP} {gm:Nat->Option Nat} {T:gG->Hp->Prop} {Y:KX P gm T} {ds:List Nat} {k:List Item} {Wq:List AV} {K:KV}
theorem TK.scope {c:Code} (h:TK Y ds (.code c::.inScope c::k) Wq K):TK Y ds (.code (.scope c)::k) Wq K:=fun A hA φ H ts h1 h2 h3 h4 h5 h6=>Y.X.hT.ctlF rfl (fun _=>zlE) rfl (h A hA φ H ts h1 h2 h3 h4 h5 h6)
end
theorem vm {o:Option (List Int×Int)} {K:KV} {r:AV} {K':KV} (h:HangR o K r K'):(o=none/\r=.tup [.agg [.v (.slice none 0 0),za 0],zC ff]/\K'=K)\/∃ w q jw,o=some (w,q)/\r=.tup [.agg [.sl jw 0 w.length,za q],zC tt]/\K'=(jw,.cells (w.map za) 3 ff)::K:=by
 cases o with
 | none=>exact .inl ⟨rfl,h⟩
 | some z=>obtain ⟨jw,h1,h2⟩:=h; exact .inr ⟨z.1,z.2,jw,rfl,h1,h2⟩
def wayC (p:Nat×Nat×Int):List AV:=[.sl p.1 0 p.2.1,za p.2.2]
theorem zaJ {all:List (List Int)} {i:Nat} {st:List Int} {n:Int} {e:gT} {rw':Bool} (h:all[i]? =some st) (hn:n=(i:Int)):yj (.cells (all.flatMap stC) e rw') (0+n.toNat*5) 5=some (stC st):=wS (c:=5) (fun _=>rfl) h hn dQ
theorem zed {b:RBk} {all:List (List Int)} {l st:List Int} {i:Nat} (h:all[i]? =some st) (hh:hangM b l st=none):waysM b (all.take (i+1)) l=waysM b (all.take i) l:=by
 unfold waysM;rw [yL h,List.filterMap_append];simp [hh]
theorem zee {b:RBk} {all:List (List Int)} {l st w:List Int} {q:Int} {i:Nat} (h:all[i]? =some st) (hh:hangM b l st=some (w,q)):waysM b (all.take (i+1)) l=waysM b (all.take i) l++[(w,q)]:=by
 unfold waysM;rw [yL h,List.filterMap_append];simp [hh]
theorem zdn (b:RBk) (all:List (List Int)) (l:List Int):(waysM b all l).length<=all.length:=List.length_filterMap_le _ _
theorem zgt (x:Int) (r:List Int) (y:Int):spreadM (x::(r++[y]))=(min (spreadM (x::r)).1 y,max (spreadM (x::r)).2 y):=by
 unfold spreadM;dsimp only;rw [List.foldl_append,List.foldl_append];rfl
def sqOk (b:RBk) (all:List (List Int)) (l:List Int):Bool:=(squaresM b all l).isSome
def sqLo (b:RBk) (all:List (List Int)) (l:List Int):Int:=((squaresM b all l).getD (0,0)).1
def sqHi (b:RBk) (all:List (List Int)) (l:List Int):Int:=((squaresM b all l).getD (0,0)).2
theorem kQ {l:List Int} {i p:Nat} {x:Int} {e:gT} {s:Nat} (h:l[i]? =some x) (hp:p=i):yj (.row (l.map za) e s) p 1=some [za x]:=by
 subst hp;have:=zbw (e:=e) (s:=s) h rfl;simpa using this
instance:ApOf tp 162 143 2 32:={}
instance:BlOf tp 45 [(0,1),(1,1)]:={}
instance:zl tp 168 0 0 ff 1:={}
instance:zl tp 168 1 1 ff 1:={}
instance:zq tp 162 143 2:={}
instance:TyZ tp 45 [.int .i64 0,.int .i64 0]:={}
instance:Und tp 162 (.slice 143):={}
theorem zhp {main T} (hT:zt tp main T) {gm} {b:RBk} {s h e a j:Nat} {l:List Int} {all:List (List Int)} {et:gT} (hb:ROk b) (hl:CutsOk b l) (ha:okAll b all) (hn:all.length<=243) :
  zr tp T gm 78 [.agg (knownC b s h e a all.length),.sl j 0 l.length] [(s,zp b),(a,allO all),(j,.cells (l.map za) et ff)] (fun r K'=>∃ (jr:Nat) (ps:List (Nat×Nat×Int)),ps.map (·.2.2)=(waysM b all l).map (·.2)/\r=.row jr ps.length/\K'=[(jr,.row (ps.flatMap wayC) 143 2),(s,zp b),(a,allO all),(j,.cells (l.map za) et ff)]):=by
 refine zn 35 hT Tryz.func78 fun Y Wz=>?_;refine au 21042 ?_;intro jb hjb;refine au 35 ?_;refine TK.scope ?_;refine au 542 ?_;refine TK.virt 5 143 2 Z fun jr0 hjr0=>?_;refine au 1303128069067042215023 ?_;refine bA [1,2,4,5,11,12] ?_;refine bC [(s,_),(a,_),(j,_),(jr0,_),(jb,_)] ?_;refine bE (fun n Wq K=>∃ (i jr:Nat) (ps:List (Nat×Nat×Int)),n=all.length - i/\i<=all.length/\ps.map (·.2.2)=(waysM b (all.take i) l).map (·.2)/\Wq=.any::.sl j 0 l.length::.ptr jb 0::.any::.v (.slice none 0 0)::.row jr ps.length::naL 5 (za all.length::za i::naL 22 [])/\K=[(s,zp b),(a,allO all),(j,.cells (l.map za) et ff),(jr,.row (ps.flatMap wayC) 143 2),(jb,.cells (knownC b s h e a all.length) 154 tt)]) all.length ⟨0,jr0,[],rfl,mN _,rfl,rfl,rfl⟩ fun n Wq K hI Wj=>?_;obtain ⟨i,jr,ps,rfl,hi,hps,rfl,rfl⟩:=hI;have hpl:ps.length<=i:=by have:=congrArg List.length hps; rw [lJ,lJ] at this; have h2:=zdn b (all.take i) l; rw [List.length_take] at h2; omega
 have hfl:=yw wayC 2 (fun _=>rfl) ps;refine bG nQ ?_;refine au 923742 ?_;constructor<;>intro Jz
 ·have Qb:i<all.length:=by simp at Jz; omega
  obtain ⟨st,hst⟩:∃ st,all[i]? =some st:=⟨_,lA Qb⟩;have hsk:=ha st (lN hst);refine au 2351421302120 ?_;refine bL [0,1,2,3,4,5,6,7,8,9,10,12,13,11,14] ?_;refine ad [[3,2],[12,16],[1,1],[3,2],[10,19],[1,6],[2,20,21]] ?_;refine bT [22] Z (hq:=zS Z Z ze.h (mC _) (zaJ (i:=i) hst Z)) (h:=?_);refine TD.c2 (i1:=8) (i2:=12) (pend1:=[_,_,_,_,_]) (pend2:=[_,_,_,_,_,_,_,_]) (L1:=[9,10,11,12,13,14]) (L2:=[8,9,10,11,13,14]) [17,18,23] [] Z Z Z Z Z Z Z ?_ ?_
  ·refine kJ Z Z Cal.h Z ((vK hT hb hl hsk).mono (fun _ _ h=>vm h)) vQ fun r1 K2 h3=>⟨?_,?_⟩
   ·rcases h3 with ⟨hno,rfl,rfl⟩ | ⟨w,q,jw,hso,rfl,rfl⟩;all_goals simp
   rcases h3 with ⟨hno,rfl,rfl⟩ | ⟨w,q,jw,hso,rfl,rfl⟩
   ·try simp only [cA]
    refine bS (Wk:=[_,_,_,_,_,_,_,_,_,_,_,_,_,_,_,_,_,_,_,_,_,_,_,_,_,_,_,_,_,_,_,_,_,_,_]) Z ?_;refine ad [[1,24],[5,15],[5,15]] ?_;refine bX (Wx:=[_,_,_,_,_,_,_,_]) [] Z Z Z Z Z (yN Z TyZA.h) (fun _=>zx rfl tQ) sQ fun j7 hj7=>?_;refine bR (Wx:=[_]) [7,25] Z Z (zE Z Z ze.h Z Z mQ Z) ?_;refine ad [[13,26],[14]] ?_;refine au 933001422 ?_;constructor<;>intro Jx
    ·
     refine au 312304160 ?_;refine bA [1,2,4,5,11,12] ?_;refine bC [(s,_),(a,_),(j,_),(jr,_),(jb,_)] ?_;exact Wj _ _ _ oQ ⟨i+1,jr,ps,rfl,oQ,by rw [zed hst hno]; exact hps,rfl,rfl⟩
    exact absurd Jx dQ
   ·try simp only [cA]
    refine bS (Wk:=[_,_,_,_,_,_,_,_,_,_,_,_,_,_,_,_,_,_,_,_,_,_,_,_,_,_,_,_,_,_,_,_,_,_,_]) Z ?_;refine ad [[1,24],[5,15],[5,15]] ?_;refine bX (Wx:=[_,_,_,_,_,_,_,_]) [] Z Z Z Z Z (yN Z TyZA.h) (fun _=>zx rfl tQ) sQ fun j7 hj7=>?_;refine bR (Wx:=[_]) [7,25] Z Z (zE Z Z ze.h Z Z mQ Z) ?_;refine ad [[13,26],[14]] ?_;refine au 933001422 ?_;constructor<;>intro Jx
    ·exact absurd Jx dQ
    refine au 68014120 ?_;refine bI Z Z Z (zu (l:=[_,_]) Z zq.h TyZ.h dQ dQ Z) (fun _=>zx rfl tQ) fun j4 hj4=>?_;refine bO Z Z Z (a_app Z ApOf.h Z mQ oQ Z (yq (ln:=[_,_]) mQ dQ sQ Z) oQ Z (by unfold maxLen; omega) oQ) (fun _=>uQ) (fun _=>zx rfl tQ) fun jr2=>?_;refine au 31230414035 ?_;refine bA [1,2,4,5,11,12] ?_;refine bC [(s,_),(a,_),(j,_),(jr2,_),(jb,_)] ?_;exact Wj _ _ _ oQ ⟨i+1,jr2,ps++[(jw,w.length,q)],rfl,oQ,by rw [zee hst hso,lM,lM,hps]; rfl,by rw [lF]; rfl,by rw [km]; rfl⟩
  ·refine wg Z (yN Z TyZA.h) (fun _=>zx rfl tQ) sQ fun j7 hj7=>?_;refine bQ (Wx:=[_,_,_,_,_]) [17,18,23] Z Z Z Z Z ((vK hT hb hl hsk).mono (fun _ _ h=>vm h)) (fun r5 K6 h7=>⟨?_,?_⟩)
   ·rcases h7 with ⟨hno,rfl,rfl⟩ | ⟨w,q,jw,hso,rfl,rfl⟩;all_goals simp
   rcases h7 with ⟨hno,rfl,rfl⟩ | ⟨w,q,jw,hso,rfl,rfl⟩
   ·try simp only [cA]
    refine bS tQ ?_;refine ad [[1,24],[5,15],[5,15]] ?_;refine bR (Wx:=[_]) [7,25] Z Z (zE Z Z ze.h Z Z mQ Z) ?_;refine ad [[13,26],[14]] ?_;refine au 933001422 ?_;constructor<;>intro Jx
    ·
     refine au 312304160 ?_;refine bA [1,2,4,5,11,12] ?_;refine bC [(s,_),(a,_),(j,_),(jr,_),(jb,_)] ?_;exact Wj _ _ _ oQ ⟨i+1,jr,ps,rfl,oQ,by rw [zed hst hno]; exact hps,rfl,rfl⟩
    exact absurd Jx dQ
   ·try simp only [cA]
    refine bS tQ ?_;refine ad [[1,24],[5,15],[5,15]] ?_;refine bR (Wx:=[_]) [7,25] Z Z (zE Z Z ze.h Z Z mQ Z) ?_;refine ad [[13,26],[14]] ?_;refine au 933001422 ?_;constructor<;>intro Jx
    ·exact absurd Jx dQ
    refine au 68014120 ?_;refine bI Z Z Z (zu (l:=[_,_]) Z zq.h TyZ.h dQ dQ Z) (fun _=>zx rfl tQ) fun j8 hj8=>?_;refine bO Z Z Z (a_app Z ApOf.h Z mQ oQ Z (yq (ln:=[_,_]) mQ dQ sQ Z) oQ Z (by unfold maxLen; omega) oQ) (fun _=>uQ) (fun _=>zx rfl tQ) fun jr2=>?_;refine au 31230414035 ?_;refine bA [1,2,4,5,11,12] ?_;refine bC [(s,_),(a,_),(j,_),(jr2,_),(jb,_)] ?_;exact Wj _ _ _ oQ ⟨i+1,jr2,ps++[(jw,w.length,q)],rfl,oQ,by rw [zee hst hso,lM,lM,hps]; rfl,by rw [lF]; rfl,by rw [km]; rfl⟩
 obtain rfl:i=all.length:=by simp at Jz; omega
 refine au 35142160 ?_;refine bB Wz [(jr,_),(s,_),(a,_),(j,_)] ?_;exact ⟨jr,ps,by rw [hps,lW],rfl,rfl⟩
theorem zd7 {main T} (hT:zt tp main T) {gm} {j off:Nat} {ob:AObj} {x:Int} {xs:List Int} (hI:∀ (i:Nat) (y:Int),xs[i]? =some y->yj ob (off+(i:Int).toNat*1) 1=some [za y]) (hl:xs.length<=1000) :
  zr tp T gm 77 [za x,.sl j off xs.length] [(j,ob)] (fun r K'=>r=.agg [za (spreadM (x::xs)).1,za (spreadM (x::xs)).2]/\K'=[(j,ob)]):=by
 refine zn 27 hT Tryz.func77 fun Y Wz=>?_;refine au 22042 ?_;intro jr hjr;refine au 13031280142235511423 ?_;refine bA [4,5,6,11,12,13] ?_;refine bC [(j,_),(jr,_)] ?_;refine bE (fun n Wq K=>∃ (i:Nat),n=xs.length - i/\i<=xs.length/\Wq=naL 4 (.ptr jr 0::za (spreadM (x::xs.take i)).1::za (spreadM (x::xs.take i)).2::naL 4 (.sl j off xs.length::za xs.length::za i::naL 13 []))/\K=[(j,ob),(jr,.cells [za 0,za 0] 45 tt)]) xs.length ⟨0,rfl,mN _,rfl,rfl⟩ fun n Wq K hI' Wj=>?_;obtain ⟨i,rfl,hi,rfl,rfl⟩:=hI';refine bG nQ ?_;refine au 923742 ?_;constructor<;>intro Jz
 ·have Qb:i<xs.length:=by simp at Jz; omega
  obtain ⟨y,hy⟩:∃ y,xs[i]? =some y:=⟨_,lA Qb⟩;refine au 360421302120 ?_;refine bH Z (zj Z Z ze.h mQ (hI i y hy)) ?_;refine au 11435 ?_;refine bH Z (zcH Z Z Z) ?_;refine au 11 ?_;refine bH Z (zcG Z Z Z) ?_;refine au 312304140355 ?_;refine bA [4,5,6,11,12,13] ?_;refine bC [(j,_),(jr,_)] ?_;exact Wj _ _ _ oQ ⟨i+1,rfl,oQ,by rw [yL hy,zgt]; rfl,rfl⟩
 obtain rfl:i=xs.length:=by simp at Jz; omega
 refine au 31703901142160 ?_;refine bB Wz [(j,_)] ?_;exact ⟨by rw [lW]; rfl,rfl⟩
theorem zcO {main T} (hT:zt tp main T) {gm} {b:RBk} {s h e a j:Nat} {l:List Int} {all:List (List Int)} {et:gT} (hb:ROk b) (hl:CutsOk b l) (ha:okAll b all) (hn:all.length<=243) (h0:0<all.length) :
  zr tp T gm 82 [.agg (knownC b s h e a all.length),.sl j 0 l.length] [(j,.cells (l.map za) et ff),(s,zp b),(a,allO all)] (fun r K'=>r=.tup [.agg [za (sqLo b all l),za (sqHi b all l)],zC (sqOk b all l)]/\K'=[(j,.cells (l.map za) et ff),(s,zp b),(a,allO all)]):=by
 refine zn 38 hT Tryz.func82 fun Y Wz=>?_;refine au 21042 ?_;intro jb hjb;refine au 220 ?_;intro jr0 hjr0;refine au 16804235 ?_;refine bD Z Z Z Z (zhp hT hb hl ha hn) ?_;rintro r1 K2 ⟨jr,ps,hps,rfl,rfl⟩;refine au 0 ?_;have hpl:ps.length=(waysM b all l).length:=by have:=congrArg List.length hps; rwa [lJ,lJ] at this
 have hwl:=zdn b all l;refine au 937280690670280142235 ?_;constructor<;>intro Jz
 ·refine au 3517039042 ?_;refine bB Wz [(j,_),(s,_),(a,_)] ?_;have Qp:(waysM b all l).length<all.length:=by rw [<- hpl]; simp at Jz; omega
  exact ⟨by unfold sqLo sqHi sqOk squaresM; rw [if_pos Qp]; rfl,rfl⟩
 have hge:¬ ps.length<all.length:=by simp at Jz; omega
 refine au 542120 ?_;refine TK.virt 7 3 1 Z fun jt0 hjt0=>?_;refine au 1303128014223 ?_;refine bA [2,4,5,7,20,21,22] ?_;refine bC [(jr,_),(s,_),(a,_),(j,_),(jt0,_),(jb,_),(jr0,_)] ?_;refine bE (fun n Wq K=>∃ (i jt:Nat),n=ps.length - i/\i<=ps.length/\Wq=naL 2 (.ptr jb 0::.any::.ptr jr0 0::zC ff::.any::.row jt i::naL 12 (.row jr ps.length::za ps.length::za i::naL 15 []))/\K=[(jr,.row (ps.flatMap wayC) 143 2),(s,zp b),(a,allO all),(j,.cells (l.map za) et ff),(jt,.row (((ps.map (·.2.2)).take i).map za) 3 1),(jb,.cells (knownC b s h e a all.length) 154 tt),(jr0,.cells [za 0,za 0] 45 tt)]) ps.length ⟨0,jt0,rfl,mN _,rfl,rfl⟩ fun n Wq K hI Wj=>?_;obtain ⟨i,jt,rfl,hi,rfl,rfl⟩:=hI;refine bG nQ ?_;refine au 923742 ?_;constructor<;>intro Jx
 ·have Qb:i<ps.length:=by simp at Jx; omega
  obtain ⟨p,hp⟩:∃ p,ps[i]? =some p:=⟨_,lA Qb⟩;refine au 370421302120 ?_;refine bH Z (zS Z Z ze.h mQ (zdg (c:=2) (f:=wayC) (fun _=>rfl) hp rfl dQ)) ?_;refine au 220 ?_;intro j9 hj9;refine au 690670143170 ?_;refine bI Z Z Z (zu (l:=[_]) Z zq.h TyZ.h dQ dQ Z) (fun _=>zx rfl tQ) fun j4 hj4=>?_;refine bO Z Z Z (a_app Z ApOf.h Z mQ (by simp; omega) Z (yq (ln:=[_]) mQ dQ sQ Z) oQ Z (by unfold maxLen; omega) oQ) (fun _=>uQ) (fun _=>zx rfl tQ) fun jt2=>?_;refine au 31230414035 ?_;refine bA [2,4,5,7,20,21,22] ?_;refine bC [(jr,_),(s,_),(a,_),(j,_),(jt2,_),(jb,_),(jr0,_)] ?_;exact Wj _ _ _ oQ ⟨i+1,jt2,rfl,oQ,rfl,by rw [yL (x:=p.2.2) (by rw [List.getElem?_map,hp]; rfl),lM]; rfl⟩
 obtain rfl:i=ps.length:=by simp at Jx; omega
 obtain ⟨x,xs,hxs⟩:∃ x xs,ps.map (·.2.2)=x::xs:=by
  cases hh:ps with
  | nil=>rw [hh] at hge; exact absurd h0 hge
  | cons y r=>exact ⟨_,_,rfl⟩
 have hxl:ps.length=xs.length+1:=by have:=congrArg List.length hxs; simpa using this
 rw [List.take_of_length_le sQ,hxs,hxl];refine au 2160 ?_;refine bL [0,1,2,3,4,5,6,7] ?_;refine ad [[1,7]] ?_;refine bT [32] Z (hq:=kh Z Z Z zq.h (mC _) oQ oQ) (h:=?_);refine ad [[10,33],[1,7]] ?_;refine bT [35] Z (hq:=vd Z Z zq.h (mC _) Z Z oQ oQ Z) (h:=?_);refine TD.clE (Wx:=[_,_,_]) [34,36] Z Z Z Z Z (zd7 hT (x:=x) (xs:=xs) (off:=1) (ob:=.row ((x::xs).map za) 3 1) (fun i y hy=>kQ (l:=x::xs) (i:=i+1) (by simpa using hy) oQ) oQ) ?_;refine bR (Wx:=[]) [4,37] Z Z (zE Z Z ze.h Z Z mQ Z) ?_;refine ad [[13],[14]] ?_;refine au 0 ?_;refine bB Wz [(j,_),(s,_),(a,_)] ?_;have Qp:¬ (waysM b all l).length<all.length:=by rw [<- hpl]; exact hge
 exact ⟨by unfold sqLo sqHi sqOk squaresM; rw [if_neg Qp,<- hps,hxs]; rfl,rfl⟩
theorem zb1 {main T} (hT:zt tp main T) {gm} {x:Int} :
  zr tp T gm 178 [za x] [] (fun r K'=>r=zC ff/\K'=[]):=by
 refine zn 6 hT Tryz.func178 fun Y Wz=>?_;refine au 35711423542 ?_;refine TK.rta Wz ?_;exact ⟨by simp,rfl⟩
theorem ziF {main T} (hT:zt tp main T) {gm} {x y:Int} :
  zr tp T gm 160 [za x,za y] [] (fun r K'=>r=za (if x<y then -1 else if y<x then 1 else 0)/\K'=[]):=by
 refine zn 20 hT Tryz.func160 fun Y Wz=>?_;refine au 1423542 ?_;refine TK.clE Z Z Z Z (zb1 hT) ?_;refine au 14235 ?_;refine TK.clE Z Z Z Z (zb1 hT) ?_;refine au 93142235 ?_;constructor<;>intro Jz
 ·cases Jz
 refine au 931422120 ?_;constructor<;>intro hc2
 ·cases hc2
 refine au 93711422120 ?_;constructor<;>intro hc3
 ·refine au 3542 ?_;refine TK.rta Wz ?_;exact ⟨by rw [if_pos (of_decide_eq_true hc3)],rfl⟩
 refine au 93711422120 ?_;constructor<;>intro hc4
 ·refine au 3542 ?_;refine TK.rta Wz ?_;exact ⟨by rw [if_neg (of_decide_eq_false hc3),if_pos (of_decide_eq_true hc4)],rfl⟩
 refine au 3542120 ?_;refine TK.rta Wz ?_;exact ⟨by rw [if_neg (of_decide_eq_false hc3),if_neg (of_decide_eq_false hc4)],rfl⟩
theorem zhN {main T} (hT:zt tp main T) {gm} {j j2:Nat} {xs ys:List Int} {e1 e2:gT} (hl:xs.length<=1000) :
  zr tp T gm 118 [.sl j 0 xs.length,.sl j2 0 ys.length] [(j,.cells (xs.map za) e1 ff),(j2,.cells (ys.map za) e2 ff)] (fun r K'=>r=za (lexM xs ys)/\K'=[(j,.cells (xs.map za) e1 ff),(j2,.cells (ys.map za) e2 ff)]):=by
 refine zn 36 hT Tryz.func118 fun Y Wz=>?_;refine au 1303128014223542 ?_;refine bA [0,1,4,9,10,11] ?_;refine bE (fun n Wq K=>∃ (i:Nat),n=xs.length - i/\i<=xs.length/\lexM (xs.drop i) (ys.drop i)=lexM xs ys/\Wq=.sl j 0 xs.length::.sl j2 0 ys.length::naL 2 (za 0::naL 4 (.sl j 0 xs.length::za xs.length::za i::naL 24 []))/\K=[(j,.cells (xs.map za) e1 ff),(j2,.cells (ys.map za) e2 ff)]) xs.length ⟨0,rfl,mN _,rfl,rfl,rfl⟩ fun n Wq K hI Wj=>?_;obtain ⟨i,rfl,hi,Qz,rfl,rfl⟩:=hI;refine bG nQ ?_;refine au 923742 ?_;constructor<;>intro Jz
 ·have Qb:i<xs.length:=by simp at Jz; omega
  refine au 3601421302120 ?_;refine bH Z (zj Z Z ze.h mQ (yb (i:=i) (ya Qb) Z)) ?_;refine au 93728011422355 ?_;constructor<;>intro Jx
  ·refine au 3542 ?_;refine bB Wz [(j,_),(j2,_)] ?_;exact ⟨by rw [<- Qz,zM (ya Qb),show ys.drop i=[] from List.drop_eq_nil_of_le (by simp at Jx; omega)]; rfl,rfl⟩
  have hjl:i<ys.length:=by simp at Jx; omega
  refine au 3601142120 ?_;refine bH Z (zj Z Z ze.h mQ (yb (i:=i) (ya hjl) Z)) ?_;refine au 114235 ?_;refine TK.clE Z Z Z Z (ziF hT) ?_;refine au 93714235 ?_;constructor<;>intro hc2
  ·refine au 35142 ?_;refine bB Wz [(j,_),(j2,_)] ?_;exact ⟨by rw [<- Qz,zM (ya Qb),zM (ya hjl)]; simp only [lexM]; split <;> (try rfl); split <;> (try rfl); simp_all,rfl⟩
  have hnl:¬ zK xs i<zK ys i:=fun hh=>by rw [if_pos hh] at hc2; simp at hc2
  have hng:¬ zK ys i<zK xs i:=fun hh=>by rw [if_neg hnl,if_pos hh] at hc2; simp at hc2
  refine au 312304140120 ?_;refine bA [0,1,4,9,10,11] ?_;refine bC [(j,_),(j2,_)] ?_;exact Wj _ _ _ oQ ⟨i+1,rfl,oQ,by rw [<- Qz,zM (ya Qb),zM (ya hjl)]; simp only [lexM]; rw [if_neg hnl,if_neg hng],rfl,rfl⟩
 obtain rfl:i=xs.length:=by simp at Jz; omega
 refine au 93728012801422160 ?_;constructor<;>intro hc3
 ·refine au 3542 ?_;refine bB Wz [(j,_),(j2,_)] ?_;exact ⟨by rw [<- Qz,List.drop_length]; simp at hc3; rw [zM (ya (l:=ys) (k:=xs.length) oQ)]; rfl,rfl⟩
 refine au 3542120 ?_;refine bB Wz [(j,_),(j2,_)] ?_;exact ⟨by rw [<- Qz,List.drop_length]; simp at hc3; rw [List.drop_eq_nil_of_le oQ]; rfl,rfl⟩
theorem zat {main T} (hT:zt tp main T) {gm} {j j2:Nat} {xs ys:List Int} {e1 e2:gT} (hl:xs.length<=1000) :
  zr tp T gm 93 [.sl j 0 xs.length,.sl j2 0 ys.length] [(j,.cells (xs.map za) e1 ff),(j2,.cells (ys.map za) e2 ff)] (fun r K'=>r=zC (yB xs ys)/\K'=[(j,.cells (xs.map za) e1 ff),(j2,.cells (ys.map za) e2 ff)]):=by
 refine zn 23 hT Tryz.func93 fun Y Wz=>?_;refine au 1728012801423542 ?_;refine bF 10 (fun g1_6=>?_) (fun g1_6=>?_)
 ·refine au 3526088888888888 ?_;refine bB Wz [(j,_),(j2,_)] ?_;exact ⟨by simp at g1_6; simp [yB,g1_6],rfl⟩
 refine au 1728012801 ?_;refine bF 16 (fun g1_12=>?_) (fun g1_12=>?_)
 ·refine au 11 ?_;refine TK.clE Z Z Z Z (zhN hT hl) ?_;refine au 352502607 ?_;refine bB Wz [(j,_),(j2,_)] ?_;exact ⟨by simp at g1_6 g1_12; unfold yB; rw [decide_eq_false (show ¬ xs.length<ys.length by omega),decide_eq_true (show xs.length=ys.length by omega)]; rfl,rfl⟩
 refine au 352502508888 ?_;refine bB Wz [(j,_),(j2,_)] ?_;exact ⟨by simp at g1_6 g1_12; unfold yB; rw [decide_eq_false (show ¬ xs.length<ys.length by omega),decide_eq_false (show ¬ xs.length=ys.length by omega)]; rfl,rfl⟩
theorem zhE {main T} (hT:zt tp main T) {gm} {j j2:Nat} {xs ys:List Int} {e1 e2:gT} {p q:Int} (hl:xs.length<=1000) :
  zr tp T gm 84 [.agg [.sl j 0 xs.length,za p],.agg [.sl j2 0 ys.length,za q]] [(j,.cells (xs.map za) e1 ff),(j2,.cells (ys.map za) e2 ff)] (fun r K'=>r=zC (cheaperM (xs,p) (ys,q))/\K'=[(j,.cells (xs.map za) e1 ff),(j2,.cells (ys.map za) e2 ff)]):=by
 refine zn 24 hT Tryz.func84 fun Y Wz=>?_;refine au 21042 ?_;intro jx1 hjx1;refine au 210 ?_;intro jx2 hjx2;refine au 176906706906704235 ?_;refine bF 10 (fun g1_6=>?_) (fun g1_6=>?_)
 ·refine au 35260888888888888 ?_;refine bB Wz [(j,_),(j2,_)] ?_;exact ⟨by simp at g1_6; simp [cheaperM,g1_6],rfl⟩
 refine au 17690670690670 ?_;refine bF 16 (fun g1_12=>?_) (fun g1_12=>?_)
 ·refine au 690670690670 ?_;refine TK.clE Z Z Z Z (zat hT hl) ?_;refine au 35250260 ?_;refine bB Wz [(j,_),(j2,_)] ?_;exact ⟨by simp at g1_6 g1_12; simp [cheaperM,g1_12],rfl⟩
 refine au 3525025088888 ?_;refine bB Wz [(j,_),(j2,_)] ?_;exact ⟨by simp at g1_6 g1_12; simp [cheaperM,g1_12]; omega,rfl⟩
theorem zcK {main T} (hT:zt tp main T) {gm} {j j2:Nat} {xs ys:List Int} {e1 e2:gT} {p q:Int} (hl:xs.length<=1000) :
  zr tp T gm 85 [.agg [.sl j 0 xs.length,za p],.agg [.sl j2 0 ys.length,za q]] [(j,.cells (xs.map za) e1 ff),(j2,.cells (ys.map za) e2 ff)] (fun r K'=>r=zC (shorterM (xs,p) (ys,q))/\K'=[(j,.cells (xs.map za) e1 ff),(j2,.cells (ys.map za) e2 ff)]):=by
 refine zn 10 hT Tryz.func85 fun Y Wz=>?_;refine au 21042 ?_;intro jx1 hjx1;refine au 210 ?_;intro jx2 hjx2;refine au 6906706906704235 ?_;refine TK.clE Z Z Z Z (zat hT hl) ?_;refine au 35 ?_;refine bB Wz [(j,_),(j2,_)] ?_;exact ⟨rfl,rfl⟩
end Go.Vel
namespace Go.Vel
open Go Go.Conc
theorem zb2:∀ (x y:List Int),lexM x y = -lexM y x
 | [],[]=>rfl
 | [],_::_=>rfl
 | _::_,[]=>rfl
 | a::x,b::y=>by
  have:=zb2 x y;simp only [lexM];by_cases h1:a<b
  ·rw [if_pos h1,if_neg oQ,if_pos h1]
  ·rw [if_neg h1];by_cases h2:b<a
   ·rw [if_pos h2,if_pos h2]; rfl
   ·rw [if_neg h2,if_neg h2,if_neg h1,this]
theorem ze6:∀ (x y:List Int),lexM x y=0->x=y
 | [],[],_=>rfl
 | [],_::_,h=>by cases h
 | _::_,[],h=>by cases h
 | a::x,b::y,h=>by
  simp only [lexM] at h;split at h
  ·cases h
  ·split at h
   ·cases h
   ·rw [show a=b by omega,ze6 x y h]
theorem ze5:∀ x:List Int,lexM x x=0
 | []=>rfl
 | a::x=>by simp only [lexM]; rw [if_neg oQ,if_neg oQ]; exact ze5 x
theorem zdO:∀ (x y z:List Int),lexM x y<0->lexM y z<0->lexM x z<0
 | [],[],z,h,_=>by simp [lexM] at h
 | [],_::_,[],_,h=>by simp [lexM] at h
 | [],_::_,_::_,_,_=>by simp [lexM]
 | _::_,[],_,h,_=>by simp [lexM] at h
 | _::_,_::_,[],_,h=>by simp [lexM] at h
 | a::x,b::y,c::z,h1,h2=>by
  simp only [lexM] at h1 h2 ⊢;by_cases q1:a<b
  ·by_cases q2:b<c
   ·rw [if_pos oQ]; omega
   ·rw [if_neg q2] at h2;by_cases q3:c<b
    ·rw [if_pos q3] at h2; omega
    ·rw [if_pos oQ]; omega
  ·rw [if_neg q1] at h1;by_cases q4:b<a
   ·rw [if_pos q4] at h1; omega
   ·rw [if_neg q4] at h1;by_cases q2:b<c
    ·rw [if_pos oQ]; omega
    ·rw [if_neg q2] at h2;by_cases q3:c<b
     ·rw [if_pos q3] at h2; omega
     ·rw [if_neg q3] at h2;rw [if_neg oQ,if_neg oQ];exact zdO x y z h1 h2
theorem kC (x y:List Int):yB x y=tt↔x.length<y.length\/(x.length=y.length/\lexM x y<0):=by
 unfold yB;simp
theorem zaF {x y z:List Int} (h1:yB x y=tt) (h2:yB y z=tt):yB x z=tt:=by
 rw [kC] at *
 rcases h1 with h1 | ⟨h1,h3⟩ <;> rcases h2 with h2 | ⟨h2,h4⟩
 ·left; omega
 ·left; omega
 ·left; omega
 ·right; exact ⟨by omega,zdO x y z h3 h4⟩
theorem zbP (x y:List Int):x=y\/yB x y=tt\/yB y x=tt:=by
 by_cases h1:x.length<y.length
 ·right; left; rw [kC]; exact .inl h1
 ·by_cases h2:y.length<x.length
  ·right; right; rw [kC]; exact .inl h2
  ·have e:x.length=y.length:=by omega
   have ha:=zb2 x y;by_cases h3:lexM x y=0
   ·exact .inl (ze6 x y h3)
   ·by_cases h4:lexM x y<0
    ·right; left; rw [kC]; exact .inr ⟨e,h4⟩
    ·right; right; rw [kC]; exact .inr ⟨e.symm,oQ⟩
theorem za9 {x y:List Int} (h:yB x y=tt):yB y x=ff:=by
 cases h2:yB y x with
 | false=>rfl
 | true =>
  rw [kC] at h h2;have:=zb2 x y;omega
theorem kZ (p q:List Int×Int):cheaperM p q=tt↔p.2<q.2\/(p.2=q.2/\yB p.1 q.1=tt):=by
 unfold cheaperM;simp
theorem zeh (p q r:List Int×Int) (h1:cheaperM p q=tt) (h2:cheaperM q r=tt):cheaperM p r=tt:=by
 rw [kZ] at *
 rcases h1 with h1 | ⟨h1,h3⟩ <;> rcases h2 with h2 | ⟨h2,h4⟩
 ·left; omega
 ·left; omega
 ·left; omega
 ·right; exact ⟨by omega,zaF h3 h4⟩
theorem zf1 (p q:List Int×Int):p=q\/cheaperM p q=tt\/cheaperM q p=tt:=by
 by_cases h1:p.2<q.2
 ·right; left; rw [kZ]; exact .inl h1
 ·by_cases h2:q.2<p.2
  ·right; right; rw [kZ]; exact .inl h2
  ·rcases zbP p.1 q.1 with h | h | h
   ·left; exact Prod.ext h oQ
   ·right; left; rw [kZ]; exact .inr ⟨by omega,h⟩
   ·right; right; rw [kZ]; exact .inr ⟨by omega,h⟩
theorem zaE (p q r:List Int×Int) (h1:shorterM p q=tt) (h2:shorterM q r=tt):shorterM p r=tt:=zaF h1 h2
theorem zeo {b:RBk} (hb:ROk b) {l:List Int} (hl:CutsOk b l):∀ (o:List Int) (z:Alloc),(∀ k∈o,0<=k/\k<l.length)->0<=z.left->(∀ k,0<=z.steps.getD k 0/\z.steps.getD k 0<=9)->∀ k,0<=(o.foldl (allocM b l) z).steps.getD k 0/\(o.foldl (allocM b l) z).steps.getD k 0<=9
 | [],z,_,_,h=>h
 | k0::o,z,ho,hz,h=>by
  rw [List.foldl_cons];have h0:=ho k0 sQ;have hf:=hb.sms.fld _ (hl.lt (k:=k0.toNat) oQ).2.2;have key:∀ (v:Int),0<=v->v<=9->∀ k,0<=(z.steps.set k0.toNat v).getD k 0/\(z.steps.set k0.toNat v).getD k 0<=9:=fun v h1 h2 k=>by
   have hk:=h k;rw [lE] at hk;rw [lE,List.getElem?_set];split
   ·split
    ·simp only [Option.getD_some]; omega
    ·simp
   ·exact hk
  refine zeo hb hl o _ (fun k hk=>ho k (by simp [hk])) ?_ (key (min z.left (sm b (zK l k0.toNat).toNat).most) oQ oQ);show 0<=z.left - min z.left (sm b (zK l k0.toNat).toNat).most;omega
end Go.Vel
namespace Go.Vel
open Go Go.Conc Go.Proofs
theorem kD {x y:Int} (h:bar2 x y=0):y=0:=by
 have:=kS h;rwa [kv this] at h
theorem zbS {c:Nat}:∀ (i:Nat) (x:Int),x∈zw c i->0<=x/\x<i
 | 0,x,h=>by cases h
 | i+1,x,h=>by
  unfold zw at h;rcases List.mem_append.1 h with h | h
  ·have:=zbS i x h; omega
  ·split at h
   ·rw [lS.1 h]; omega
   ·cases h
theorem zev {c:Nat}:∀ i,(zw c i).Pairwise (· < ·)
 | 0=>.nil
 | i+1=>by
  unfold zw;refine List.pairwise_append.2 ⟨zev i,?_,fun x hx y hy=>?_⟩
  ·split <;> simp
  ·have:=zbS i x hx;split at hy
   ·rw [lS.1 hy]; omega
   ·cases hy
theorem zdu {b:RBk} (hb:ROk b) {c:Nat} (h0:0<c) (hc:c<2 ^ b.sE.length):CutsOk b (zw c b.sE.length):=by
 have h5:=hb.sms.len;refine ⟨?_,fun n hn=>zbS _ n hn,zev _⟩;rcases Nat.eq_zero_or_pos (zw c b.sE.length).length with h | h
 ·have:=ul h5.2 hc (List.length_eq_zero_iff.1 h); omega
 ·exact h
theorem zki {m c d:Nat} (hm:m<=5) (hc:c<2 ^ m) (hd:d<2 ^ m) (h:zw c m=zw d m):c=d:=by
 have key:∀ (m:Fin 6) (c d:Fin 32),c.1<2 ^ m.1->d.1<2 ^ m.1->zw c.1 m.1=zw d.1 m.1->c.1=d.1:=by decide +kernel
 have:2 ^ m<=2 ^ 5:=Nat.pow_le_pow_right dQ hm;exact key ⟨m,oQ⟩ ⟨c,oQ⟩ ⟨d,oQ⟩ hc hd h
theorem za4 {Ψ:gG->World->Prop} {gm:Nat->Option Nat} {b:RBk} {s h e a:Nat} {all:List (List Int)} {gF:FuncId} {bt:List Int×Int->List Int×Int->Bool} (hb:ROk b) (ha:okAll b all) (hn:all.length<=243) (h0:0<all.length)
  (htr:∀ p q r,bt p q=tt->bt q r=tt->bt p r=tt) (htot:∀ b1 c1,0<b1->b1<2 ^ b.sE.length->0<c1->c1<2 ^ b.sE.length->(zw b1 b.sE.length,sqHi b all (zw b1 b.sE.length))=(zw c1 b.sE.length,sqHi b all (zw c1 b.sE.length))\/bt (zw b1 b.sE.length,sqHi b all (zw b1 b.sE.length)) (zw c1 b.sE.length,sqHi b all (zw c1 b.sE.length))=tt\/bt (zw c1 b.sE.length,sqHi b all (zw c1 b.sE.length)) (zw b1 b.sE.length,sqHi b all (zw b1 b.sE.length))=tt)
  (hbt:∀ {T:gG->Hp->Prop},zt tp ff T->∀ (jr:Nat) (cs:List Int) (cost:Int) (cs0:List Int) (cost0:Int) (j0:Nat) (e0:gT),cs.length<=5->CallFK tp T gm (.fn gF [] []) [.agg [.sl jr 0 cs.length,.v (.int .i64 cost)],.agg [.sl j0 0 cs0.length,.v (.int .i64 cost0)]] [(jr,.cells (cs.map fun a=>.v (.int .i64 a)) 3 ff),(j0,.cells (cs0.map fun a=>.v (.int .i64 a)) e0 ff)] (fun r K'=>r=.v (.bool (bt (cs,cost) (cs0,cost0)))/\K'=[(jr,.cells (cs.map fun a=>.v (.int .i64 a)) 3 ff),(j0,.cells (cs0.map fun a=>.v (.int .i64 a)) e0 ff)])) :
  zr tp (BT tp Ψ) gm 83 [.agg (knownC b s h e a all.length),.fn gF [] []] [(s,zp b),(a,allO all)] (fun r K'=>PlanR [(s,zp b),(a,allO all)] b.sE.length bt (fun c=>sqHi b all (zw c b.sE.length)) (fun c=>sqOk b all (zw c b.sE.length)) r K'):=by
 refine zm4 (lw:=fun c=>sqLo b all (zw c b.sE.length)) hb.sms.len (fun z hz=>?_) htr (fun b1 c1 h1 h2 h3 h4 _ _=>htot b1 c1 h1 h2 h3 h4) (fun c Jz Jx jr T hT=>?_) hbt
 ·simp only [List.mem_cons,List.not_mem_nil,or_false] at hz;rcases hz with rfl | rfl
  ·refine ⟨_,_,fun e=>?_,rfl⟩;have:=congrArg List.length e;rw [yw seamC 5 (fun _=>rfl)] at this;have h1:=hb.sms.len;have:b.sE.length*5=0:=this;omega
  ·refine ⟨_,_,fun e=>?_,rfl⟩;have:=congrArg List.length e;rw [yw stC 5 (fun _=>rfl)] at this;have:all.length*5=0:=this;omega
 ·exact zcO hT (j:=jr) (et:=3) hb (zdu hb Jz Jx) ha hn h0
def canM (b:RBk) (l:List Int):Int:=if (waysM b (zh b) l).length=(zh b).length then 1 else if (waysM b (zh b) l).length=0 then 2 else 0
theorem znn {b:RBk} {all:List (List Int)} {l:List Int} (h:sqOk b all l=ff):sqLo b all l=0/\sqHi b all l=0:=by
 unfold sqOk at h;unfold sqLo sqHi;cases hh:squaresM b all l with
 | none=>exact ⟨rfl,rfl⟩
 | some z=>rw [hh] at h; cases h
def newM (b:RBk):Int×Int:=spreadM ((zh b).map (freshM b))
instance:TyZ tp 137 [.nilFunc]:={}
theorem znP {main:Bool} {T:gG->Hp->Prop} (hT:zt tp main T)  {b:RBk} {s h e j:Nat} {l:List Int} {et:gT} (hl:b.sE.length<=100) (hm:b.mE.length<=100) (hll:l.length<=1000) :
  zr tp T gmR 23 [.agg (zH b s h e),.sl j 0 l.length] [(0,zB),(s,zp b),(h,zF b),(e,zz b),(j,.cells (l.map za) et ff)] (fun r K'=>(bar2 (zy b) (cutsM b l)≠0/\r=.tup [.v (.slice none 0 0),za (bar2 (zy b) (cutsM b l))]/\K'=[(0,zB),(s,zp b),(h,zF b),(e,zz b),(j,.cells (l.map za) et ff)])\/(bar2 (zy b) (cutsM b l)=0/\∃ jr,r=.tup [.row jr l.length,za 0]/\K'=(jr,.row ((stripsM b l).flatMap pairC) 76 2)::[(0,zB),(s,zp b),(h,zF b),(e,zz b),(j,.cells (l.map za) et ff)])):=by
 refine zn 22 hT Tryz.func23 fun Y Wz=>?_;refine au 21042 ?_;intro jb hjb;refine au 320168042355 ?_;refine bI Z Z Z (zu (l:=[_]) Z zq.h TyZ.h dQ dQ Z) (fun _=>zx rfl tQ) fun ja hja=>?_;refine bD Z Z Z Z (vI hT (Kx:=[(j,.cells (l.map za) et ff)]) (p1:=cutsM b l) hl hm (fun h0=>yK Cal.h ((wz hT (zX h0).sms.len.2 hll).frameP (R:=[(s,zp b)]) (List.Perm.swap _ _ _)))) ?_;rintro r1 K2 h3;rcases h3 with ⟨⟨Wv,rfl⟩ | ⟨Wv,rfl⟩,rfl⟩
 ·refine au 220661 ?_;intro j6 hj6;refine au 937142235170 ?_;constructor<;>intro Jz
  ·exact absurd Jz sQ
  have hbb:=zX (kS Wv);have hcc:=vj (kD Wv);refine au 168042120 ?_;refine bD Z Z Z Z (zd8 hT hbb hcc) ?_;rintro r4 K5 ⟨jr,rfl,rfl⟩;refine au 355 ?_;refine bB Wz [(jr,_),(0,_),(s,_),(h,_),(e,_),(j,_)] ?_;exact .inr ⟨Wv,jr,rfl,rfl⟩
 ·refine au 220661 ?_;intro j6 hj6;refine au 937142235170 ?_;constructor<;>intro Jz
  ·
   refine au 355142 ?_;refine bB Wz [(0,_),(s,_),(h,_),(e,_),(j,_)] ?_;exact .inl ⟨Wv,rfl,rfl⟩
  exact absurd Wv (by simpa using Jz)
theorem zcl {main:Bool} {T:gG->Hp->Prop} (hT:zt tp main T)  {b:RBk} {s h e j:Nat} {l:List Int} {et:gT} (hl:b.sE.length<=100) (hm:b.mE.length<=100) (hll:l.length<=1000) :
  zr tp T gmR 24 [.agg (zH b s h e),.sl j 0 l.length] [(0,zB),(s,zp b),(h,zF b),(e,zz b),(j,.cells (l.map za) et ff)] (fun r K'=>r=.tup [zC (decide (bar2 (zy b) (cutsM b l)=0)&&fitsM b l),za (bar2 (zy b) (cutsM b l))]/\K'=[(0,zB),(s,zp b),(h,zF b),(e,zz b),(j,.cells (l.map za) et ff)]):=by
 refine zn 22 hT Tryz.func24 fun Y Wz=>?_;refine au 21042 ?_;intro jb hjb;refine au 320168042355 ?_;refine bI Z Z Z (zu (l:=[_]) Z zq.h TyZ.h dQ dQ Z) (fun _=>zx rfl tQ) fun ja hja=>?_;refine bD Z Z Z Z (vI hT (Kx:=[(j,.cells (l.map za) et ff)]) (p1:=cutsM b l) hl hm (fun h0=>yK Cal.h ((wz hT (zX h0).sms.len.2 hll).frameP (R:=[(s,zp b)]) (List.Perm.swap _ _ _)))) ?_;rintro r1 K2 h3;rcases h3 with ⟨⟨Wv,rfl⟩ | ⟨Wv,rfl⟩,rfl⟩
 ·refine au 220661 ?_;intro j6 hj6;refine au 937142235170 ?_;constructor<;>intro Jz
  ·exact absurd Jz sQ
  have hbb:=zX (kS Wv);have hcc:=vj (kD Wv);refine au 168042120 ?_;refine TK.clE Z Z Z Z (zgK hT hbb hcc) ?_;refine au 355 ?_;refine bB Wz [(0,_),(s,_),(h,_),(e,_),(j,_)] ?_;exact ⟨by rw [Wv]; simp,rfl⟩
 ·refine au 220661 ?_;intro j6 hj6;refine au 937142235170 ?_;constructor<;>intro Jz
  ·
   refine au 355142 ?_;refine bB Wz [(0,_),(s,_),(h,_),(e,_),(j,_)] ?_;exact ⟨by rw [decide_eq_false Wv]; rfl,rfl⟩
  exact absurd Wv (by simpa using Jz)
theorem zaN {main:Bool} {T:gG->Hp->Prop} (hT:zt tp main T)  {b:RBk} {s h e j:Nat} {l:List Int} {et:gT} (hl:b.sE.length<=100) (hm:b.mE.length<=100) (hll:l.length<=1000) :
  zr tp T gmR 30 [.agg (zH b s h e),.sl j 0 l.length] [(0,zB),(s,zp b),(h,zF b),(e,zz b),(j,.cells (l.map za) et ff)] (fun r K'=>(bar2 (zy b) (cutsM b l)≠0/\r=.tup [za 0,za (bar2 (zy b) (cutsM b l))]/\K'=[(0,zB),(s,zp b),(h,zF b),(e,zz b),(j,.cells (l.map za) et ff)])\/(bar2 (zy b) (cutsM b l)=0/\zh b=[]/\r=.tup [za 0,za 9]/\K'=[(0,zB),(s,zp b),(h,zF b),(e,zz b),(j,.cells (l.map za) et ff)])\/(bar2 (zy b) (cutsM b l)=0/\zh b≠[]/\r=.tup [za (canM b l),za 0]/\K'=[(0,zB),(s,zp b),(h,zF b),(e,zz b),(j,.cells (l.map za) et ff)])):=by
 refine zn 30 hT Tryz.func30 fun Y Wz=>?_;refine au 21042 ?_;intro jb hjb;refine au 320168042355 ?_;refine bI Z Z Z (zu (l:=[_]) Z zq.h TyZ.h dQ dQ Z) (fun _=>zx rfl tQ) fun ja hja=>?_;refine bD Z Z Z Z (uq hT (Kx:=[(j,.cells (l.map za) et ff)]) (p1:=cutsM b l) (fun h0=>yK Cal.h ((wz hT (zX h0).sms.len.2 hll).frameP (R:=[(s,zp b)]) (List.Perm.swap _ _ _))) hl hm) ?_;rintro r1 K2 h3;rcases h3 with ⟨Wv,rfl,rfl⟩ | ⟨Wv,hnil,rfl,rfl⟩ | ⟨Wv,hne,a,rfl,rfl⟩
 ·refine au 220661 ?_;intro j6 hj6;refine au 937142235170 ?_;constructor<;>intro Jz
  ·
   refine au 355142 ?_;refine bB Wz [(0,_),(s,_),(h,_),(e,_),(j,_)] ?_;exact .inl ⟨Wv,rfl,rfl⟩
  exact absurd Wv (by simpa using Jz)
 ·refine au 220661 ?_;intro j6 hj6;refine au 937142235170 ?_;constructor<;>intro Jz
  ·
   refine au 355142 ?_;refine bB Wz [(0,_),(s,_),(h,_),(e,_),(j,_)] ?_;exact .inr (.inl ⟨Wv,hnil,rfl,rfl⟩)
  exact absurd Jz dQ
 ·refine au 220661 ?_;intro j6 hj6;refine au 937142235170 ?_;constructor<;>intro Jz
  ·exact absurd Jz sQ
  have hbb:=zX (kS Wv);have hcc:=vj (kD Wv);have Wb:=y7 hbb;have Qx:0<(zh b).length:=List.length_pos_iff.2 hne;have hall:okAll b (zh b):=fun st hst=>(ky hbb hst).1;refine au 1680422120 ?_;refine bD Z Z Z Z (zhp hT hbb hcc hall Wb) ?_;rintro r4 K5 ⟨jr,ps,hps,rfl,rfl⟩;refine au 0 ?_;have hpl:ps.length=(waysM b (zh b) l).length:=by have:=congrArg List.length hps; rwa [lJ,lJ] at this
  refine au 9357280690670421303280 ?_;constructor<;>intro Jx
  ·refine au 35542 ?_;refine bB Wz [(0,_),(s,_),(h,_),(e,_),(j,_)] ?_;exact .inr (.inr ⟨Wv,hne,by unfold canM; rw [if_pos (by have:=eq_of_beq Jx; omega)],rfl⟩)
  refine au 935742 ?_;constructor<;>intro hc2
  ·refine au 35542 ?_;refine bB Wz [(0,_),(s,_),(h,_),(e,_),(j,_)] ?_;exact .inr (.inr ⟨Wv,hne,by unfold canM; rw [if_neg (by simp at Jx; omega),if_pos (by have:=eq_of_beq hc2; omega)],rfl⟩)
  refine au 35542140120 ?_;refine bB Wz [(0,_),(s,_),(h,_),(e,_),(j,_)] ?_;exact .inr (.inr ⟨Wv,hne,by unfold canM; rw [if_neg (by simp at Jx; omega),if_neg (by rw [<- hpl]; simp at hc2; exact fun h=>hc2 (List.length_eq_zero_iff.1 h))],rfl⟩)
theorem zaG {main:Bool} {T:gG->Hp->Prop} (hT:zt tp main T)  {b:RBk} {s h e j:Nat} {l:List Int} {et:gT} (hl:b.sE.length<=100) (hm:b.mE.length<=100) (hll:l.length<=1000) :
  zr tp T gmR 33 [.agg (zH b s h e),.sl j 0 l.length] [(0,zB),(s,zp b),(h,zF b),(e,zz b),(j,.cells (l.map za) et ff)] (fun r K'=>(bar2 (zy b) (cutsM b l)≠0/\r=.tup [.agg [za 0,za 0],za (bar2 (zy b) (cutsM b l))]/\K'=[(0,zB),(s,zp b),(h,zF b),(e,zz b),(j,.cells (l.map za) et ff)])\/(bar2 (zy b) (cutsM b l)=0/\zh b=[]/\r=.tup [.agg [za 0,za 0],za 9]/\K'=[(0,zB),(s,zp b),(h,zF b),(e,zz b),(j,.cells (l.map za) et ff)])\/(bar2 (zy b) (cutsM b l)=0/\zh b≠[]/\r=.tup [.agg [za (sqLo b (zh b) l),za (sqHi b (zh b) l)],za (if sqOk b (zh b) l=tt then 0 else 8)]/\K'=[(0,zB),(s,zp b),(h,zF b),(e,zz b),(j,.cells (l.map za) et ff)])):=by
 refine zn 32 hT Tryz.func33 fun Y Wz=>?_;refine au 21042 ?_;intro jb hjb;refine au 220 ?_;intro jr hjr;refine au 32016804235 ?_;refine bI Z Z Z (zu (l:=[_]) Z zq.h TyZ.h dQ dQ Z) (fun _=>zx rfl tQ) fun ja hja=>?_;refine bD Z Z Z Z (uq hT (Kx:=[(j,.cells (l.map za) et ff)]) (p1:=cutsM b l) (fun h0=>yK Cal.h ((wz hT (zX h0).sms.len.2 hll).frameP (R:=[(s,zp b)]) (List.Perm.swap _ _ _))) hl hm) ?_;rintro r1 K2 h3;rcases h3 with ⟨Wv,rfl,rfl⟩ | ⟨Wv,hnil,rfl,rfl⟩ | ⟨Wv,hne,a,rfl,rfl⟩
 ·refine au 220661 ?_;intro j6 hj6;refine au 937142235170 ?_;constructor<;>intro Jz
  ·
   refine au 35170139042 ?_;refine bB Wz [(0,_),(s,_),(h,_),(e,_),(j,_)] ?_;exact .inl ⟨Wv,rfl,rfl⟩
  exact absurd Wv (by simpa using Jz)
 ·refine au 220661 ?_;intro j6 hj6;refine au 937142235170 ?_;constructor<;>intro Jz
  ·
   refine au 35170139042 ?_;refine bB Wz [(0,_),(s,_),(h,_),(e,_),(j,_)] ?_;exact .inr (.inl ⟨Wv,hnil,rfl,rfl⟩)
  exact absurd Jz dQ
 ·refine au 220661 ?_;intro j6 hj6;refine au 937142235170 ?_;constructor<;>intro Jz
  ·exact absurd Jz sQ
  have hbb:=zX (kS Wv);have hcc:=vj (kD Wv);have Wb:=y7 hbb;have Qx:0<(zh b).length:=List.length_pos_iff.2 hne;have hall:okAll b (zh b):=fun st hst=>(ky hbb hst).1;refine au 168042120 ?_;refine TK.clE Z Z Z Z (zcO hT hbb hcc hall Wb Qx) ?_;refine au 220661 ?_;intro j8 hj8;refine au 93300142235170 ?_;constructor<;>intro Jx
  ·refine au 3517039042 ?_;refine bB Wz [(0,_),(s,_),(h,_),(e,_),(j,_)] ?_;exact .inr (.inr ⟨Wv,hne,by obtain ⟨q1,q2⟩:=znn (b:=b) (all:=zh b) (l:=l) (by simpa using Jx); rw [q1,q2,if_neg (by simpa using Jx)]; rfl,rfl⟩)
  refine au 3517068042120 ?_;refine bB Wz [(0,_),(s,_),(h,_),(e,_),(j,_)] ?_;exact .inr (.inr ⟨Wv,hne,by rw [if_pos (by simpa using Jx)]; rfl,rfl⟩)
theorem zcx {main:Bool} {T:gG->Hp->Prop} (hT:zt tp main T)  {b:RBk} {s h e:Nat} (hl:b.sE.length<=100) (hm:b.mE.length<=100) :
  zr tp T gmR 29 [.agg (zH b s h e)] [(0,zB),(s,zp b),(h,zF b),(e,zz b)] (fun r K'=>(zy b≠0/\r=.tup [.agg [za 0,za 0],za (zy b)]/\K'=[(0,zB),(s,zp b),(h,zF b),(e,zz b)])\/(zy b=0/\zh b=[]/\r=.tup [.agg [za 0,za 0],za 9]/\K'=[(0,zB),(s,zp b),(h,zF b),(e,zz b)])\/(zy b=0/\zh b≠[]/\r=.tup [.agg [za (newM b).1,za (newM b).2],za 0]/\K'=[(0,zB),(s,zp b),(h,zF b),(e,zz b)])):=by
 refine zn 39 hT Tryz.func29 fun Y Wz=>?_;refine au 21042 ?_;intro jb hjb;refine au 220 ?_;intro jr hjr;refine au 6804235 ?_;refine bD Z Z Z Z (wU hT (Kx:=[]) hl hm) ?_;rintro r1 K2 h3;rcases h3 with ⟨Wv,rfl,rfl⟩ | ⟨Wv,hnil,rfl,rfl⟩ | ⟨Wv,hne,a,rfl,rfl⟩
 ·refine au 220661 ?_;intro j4 hj4;refine au 937142235170 ?_;constructor<;>intro Jz
  ·
   refine au 35170139042 ?_;refine bB Wz [(0,_),(s,_),(h,_),(e,_)] ?_;exact .inl ⟨Wv,rfl,rfl⟩
  exact absurd Wv (by simpa using Jz)
 ·refine au 220661 ?_;intro j4 hj4;refine au 937142235170 ?_;constructor<;>intro Jz
  ·
   refine au 35170139042 ?_;refine bB Wz [(0,_),(s,_),(h,_),(e,_)] ?_;exact .inr (.inl ⟨Wv,hnil,rfl,rfl⟩)
  exact absurd Jz dQ
 ·refine au 220661 ?_;intro j4 hj4;refine au 937142235170 ?_;constructor<;>intro Jz
  ·exact absurd Jz sQ
  have hbb:=zX Wv;have Wb:=y7 hbb;have Qx:0<(zh b).length:=List.length_pos_iff.2 hne;have hall:okAll b (zh b):=fun st hst=>(ky hbb hst).1;refine au 542120 ?_;refine TK.virt 6 3 1 Z fun jt0 hjt0=>?_;refine au 130312806906704223 ?_;refine bA [2,3,4,6,19,20,21] ?_;refine bC [(a,_),(0,_),(s,_),(h,_),(e,_),(j4,_),(jr,_),(jt0,_)] ?_;refine bE (fun n Wq K=>∃ (i jt:Nat),n=(zh b).length - i/\i<=(zh b).length/\Wq=naL 2 (.ptr jr 0::za 0::.ptr j4 0::.any::.row jt i::naL 12 (.sl a 0 (zh b).length::za (zh b).length::za i::naL 17 []))/\K=[(a,allO (zh b)),(0,zB),(s,zp b),(h,zF b),(e,zz b),(j4,.cells (knownC b s h e a (zh b).length) 154 tt),(jr,.cells [za 0,za 0] 45 tt),(jt,.row ((((zh b).take i).map (freshM b)).map za) 3 1)]) (zh b).length ⟨0,jt0,rfl,mN _,rfl,rfl⟩ fun n Wq K hI Wj=>?_;obtain ⟨i,jt,rfl,hi,rfl,rfl⟩:=hI;refine bG nQ ?_;refine au 923742 ?_;constructor<;>intro Jx
  ·have Qb:i<(zh b).length:=by simp at Jx; omega
   obtain ⟨st,hst⟩:∃ st,(zh b)[i]? =some st:=⟨_,lA Qb⟩;have hsk:=hall st (lN hst);refine au 360421302120 ?_;refine bH Z (zS Z Z ze.h mQ (zaJ (i:=i) hst Z)) ?_;refine au 220 ?_;intro j8 hj8;refine au 680680670143170 ?_;refine bD Z Z Z Z (zeM hT hbb hsk) ?_ (hs:=(.none _));rintro r4 K5 ⟨rfl,rfl⟩;refine au 0 ?_;refine bI Z Z Z (zu (l:=[_]) Z zq.h TyZ.h dQ dQ Z) (fun _=>zx rfl tQ) fun j7 hj7=>?_;refine bO Z Z Z (a_app Z ApOf.h Z mQ (by simp; omega) Z (yq (ln:=[_]) mQ dQ sQ Z) oQ Z (by unfold maxLen; omega) oQ) (fun _=>uQ) (fun _=>zx rfl tQ) fun jt2=>?_;refine au 31230414035 ?_;refine bA [2,3,4,6,19,20,21] ?_;refine bC [(a,_),(0,_),(s,_),(h,_),(e,_),(j4,_),(jr,_),(jt2,_)] ?_;exact Wj _ _ _ oQ ⟨i+1,jt2,rfl,oQ,rfl,by rw [yL hst,lM,lM]; rfl⟩
  obtain rfl:i=(zh b).length:=by simp at Jx; omega
  obtain ⟨x,xs,hxs⟩:∃ x xs,(zh b).map (freshM b)=x::xs:=by
   cases hh:zh b with
   | nil=>exact absurd hh hne
   | cons y r=>exact ⟨_,_,rfl⟩
  have hxl:(zh b).length=xs.length+1:=by have:=congrArg List.length hxs; simpa using this
  rw [List.take_of_length_le (mL _),hxs,hxl];refine au 2160 ?_;refine bL [0,1,2,3,4,5,6,7] ?_;refine ad [[1,6]] ?_;refine bT [33] Z (hq:=kh Z Z Z zq.h (mC _) oQ oQ) (h:=?_);refine ad [[10,34],[1,6]] ?_;refine bT [36] Z (hq:=vd Z Z zq.h (mC _) Z Z oQ oQ Z) (h:=?_);refine TD.clE (Wx:=[_,_,_]) [35,37] Z Z Z Z Z (zd7 hT (x:=x) (xs:=xs) (off:=1) (ob:=.row ((x::xs).map za) 3 1) (fun i y hy=>kQ (l:=x::xs) (i:=i+1) (by simpa using hy) oQ) oQ) ?_;refine bR (Wx:=[]) [2,38] Z Z (zE Z Z ze.h Z Z mQ Z) ?_;refine ad [[13],[14]] ?_;refine au 0 ?_;refine bB Wz [(0,_),(s,_),(h,_),(e,_)] ?_;exact .inr (.inr ⟨Wv,hne,by unfold newM; rw [hxs]; rfl,rfl⟩)
def atM (b:RBk) (l s w:List Int):Nat->Int
 | 0=>0
 | k+1=>atM b l s w k+(togM b s (zK l k).toNat (zK l (k+1) - zK l k).toNat+w.getD (k+1) 0)
def placesM (b:RBk) (l s w:List Int):List Int:=(List.range l.length).map (atM b l s w)
theorem znY {b:RBk} (hb:ROk b) {l s w:List Int} {q:Int} (hl:CutsOk b l) (hs:StOk b s) (h:hangM b l s=some (w,q)):w.length=l.length/\∀ k,0<=w.getD k 0/\w.getD k 0<=9:=by
 unfold hangM at h;split at h
 ·cases h
 ·dsimp only at h;split at h
  ·cases h
  ·cases h;have h0:=(zeL hb hs).1;unfold allocA;refine ⟨by rw [zdt]; simp [alloc0],zeo hb hl _ _ (fun k hk=>zg0 hk) h0 fun k=>?_⟩;show 0<=(mB l.length (0:Int)).getD k 0/\_;have:(alloc0 b l (freshM b s)).steps=mB l.length 0:=rfl;rw [this,lE,List.getElem?_replicate];split <;> simp
theorem znO {b:RBk} {l:List Int} (hl:CutsOk b l) {k:Nat} (h:k+1<l.length):zK l k<zK l (k+1):=by
 have e1:=ya (l:=l) (k:=k) oQ;have e2:=ya h;have:=List.pairwise_iff_getElem.1 hl.asc k (k+1) oQ h oQ;rw [lA oQ] at e1;rw [lA h] at e2;rw [Option.some.inj e1,Option.some.inj e2] at this;exact this
theorem at_bd {b:RBk} (hb:ROk b) {l s w:List Int} (hl:CutsOk b l) (hs:StOk b s) (hw:∀ k,0<=w.getD k 0/\w.getD k 0<=9):∀ k,k<l.length->0<=atM b l s w k/\atM b l s w k<=129*k
 | 0,_=>by simp [atM]
 | k+1,h=>by
  have h1:=at_bd hb hl hs hw k oQ;have h2:=hw (k+1);have h3:=zcQ hb hs (c:=(zK l k).toNat) (zK l (k+1) - zK l k).toNat;have h4:=hl.lt (k:=k) oQ;have h5:=hl.lt h;have h6:=hb.sms.len;unfold atM;omega
theorem zd3 {b:RBk} (hb:ROk b) {all:List (List Int)} (b1 c1:Nat) (h1:0<b1) (h2:b1<2 ^ b.sE.length) (h3:0<c1) (h4:c1<2 ^ b.sE.length):(zw b1 b.sE.length,sqHi b all (zw b1 b.sE.length))=(zw c1 b.sE.length,sqHi b all (zw c1 b.sE.length))\/shorterM (zw b1 b.sE.length,sqHi b all (zw b1 b.sE.length)) (zw c1 b.sE.length,sqHi b all (zw c1 b.sE.length))=tt\/shorterM (zw c1 b.sE.length,sqHi b all (zw c1 b.sE.length)) (zw b1 b.sE.length,sqHi b all (zw b1 b.sE.length))=tt:=by
 rcases zbP (zw b1 b.sE.length) (zw c1 b.sE.length) with h | h | h
 ·left;rw [zki hb.sms.len.2 h2 h4 h]
 ·exact .inr (.inl h)
 ·exact .inr (.inr h)
def PlanA (b:RBk) (all:List (List Int)) (bt:List Int×Int->List Int×Int->Bool) (c:Nat):Prop:=0<c/\c<2 ^ b.sE.length/\sqOk b all (zw c b.sE.length)=tt/\∀ d,0<d->d<2 ^ b.sE.length->sqOk b all (zw d b.sE.length)=tt->(zw d b.sE.length,sqHi b all (zw d b.sE.length))=(zw c b.sE.length,sqHi b all (zw c b.sE.length))\/bt (zw c b.sE.length,sqHi b all (zw c b.sE.length)) (zw d b.sE.length,sqHi b all (zw d b.sE.length))=tt
def NoPlan (b:RBk) (all:List (List Int)):Prop:=∀ d,0<d->d<2 ^ b.sE.length->sqOk b all (zw d b.sE.length)=ff
def atRound (b:RBk) (r:Int):RBk:={ b with round:=r }
theorem zes {b:RBk} (hb:ROk b) {r:Int} (h1:b.steps<=r) (h2:r<=40):ROk (atRound b r):=⟨⟨hb.rnd.steps,⟨h1,h2⟩,hb.rnd.roll,hb.rnd.rolls⟩,⟨hb.sms.len,hb.sms.fld,hb.sms.asc⟩,⟨hb.cls.len,hb.cls.bnd⟩,⟨hb.mes.len,hb.mes.bnd⟩⟩
theorem zl2 {b:RBk} {all:List (List Int)} (h:okAll b all) (r:Int):okAll (atRound b r) all:=fun s hs=>⟨(h s hs).len,(h s hs).bnd⟩
def canAt (b:RBk) (all:List (List Int)) (r:Int):Bool:=(List.range (2 ^ b.sE.length)).any fun c=>decide (0<c)&&sqOk (atRound b r) all (zw c b.sE.length)
def widestL (b:RBk) (all:List (List Int)):Nat->Option Int
 | 0=>none
 | k+1=>if canAt b all (b.steps+k)=tt then some (b.steps+k) else widestL b all k
def widestM (b:RBk) (all:List (List Int)):Option Int:=widestL b all (41 - b.steps).toNat
theorem zl8 {b:RBk} {all:List (List Int)} {r:Int} {c:Nat} (h0:0<c) (h1:c<2 ^ b.sE.length) (h:sqOk (atRound b r) all (zw c b.sE.length)=tt):canAt b all r=tt:=by
 unfold canAt;rw [List.any_eq_true];exact ⟨c,List.mem_range.2 h1,by simp [h0,h]⟩
theorem zl7 {b:RBk} {all:List (List Int)} {r:Int} (h:∀ c,0<c->c<2 ^ b.sE.length->sqOk (atRound b r) all (zw c b.sE.length)=ff):canAt b all r=ff:=by
 unfold canAt;rw [List.any_eq_false];intro c hc;by_cases h0:0<c
 ·rw [h c h0 (List.mem_range.1 hc)]; simp
 ·simp [h0]
theorem zhU {main:Bool} {T:gG->Hp->Prop} (hT:zt tp main T)  {b:RBk} {s h e j j2:Nat} {l st:List Int} {et et2:gT} (hl:b.sE.length<=100) (hm:b.mE.length<=100) (hll:l.length<=1000) :
  zr tp T gmR 25 [.agg (zH b s h e),.sl j 0 l.length,.sl j2 0 st.length] [(0,zB),(s,zp b),(h,zF b),(e,zz b),(j,.cells (l.map za) et ff),(j2,.cells (st.map za) et2 ff)] (fun r K'=>(bar2 (zy b) (bar2 (cutsM b l) (shM b st))≠0/\r=.tup [.v (.slice none 0 0),za 0,zC ff,za (bar2 (zy b) (bar2 (cutsM b l) (shM b st)))]/\K'=[(0,zB),(s,zp b),(h,zF b),(e,zz b),(j,.cells (l.map za) et ff),(j2,.cells (st.map za) et2 ff)])\/(bar2 (zy b) (bar2 (cutsM b l) (shM b st))=0/\hangM b l st=none/\r=.tup [.v (.slice none 0 0),za 0,zC ff,za 0]/\K'=[(0,zB),(s,zp b),(h,zF b),(e,zz b),(j,.cells (l.map za) et ff),(j2,.cells (st.map za) et2 ff)])\/(bar2 (zy b) (bar2 (cutsM b l) (shM b st))=0/\∃ w q jw,hangM b l st=some (w,q)/\r=.tup [.sl jw 0 w.length,za q,zC tt,za 0]/\K'=(jw,.cells (w.map za) 3 ff)::[(0,zB),(s,zp b),(h,zF b),(e,zz b),(j,.cells (l.map za) et ff),(j2,.cells (st.map za) et2 ff)])):=by
 refine zn 38 hT Tryz.func25 fun Y Wz=>?_;refine au 21042 ?_;intro jb hjb;refine au 320132016804235555 ?_;refine bI Z Z Z (zu (l:=[_,_]) Z zq.h TyZ.h dQ dQ Z) (fun _=>zx rfl tQ) fun ja hja=>?_;refine bD Z Z Z Z (zcA hT (Kx:=[(j,.cells (l.map za) et ff),(j2,.cells (st.map za) et2 ff)]) (p1:=cutsM b l) (p2:=shM b st) hl hm (fun h0=>yK Cal.h ((wz hT (zX h0).sms.len.2 hll).frameP (R:=[(s,zp b),(j2,.cells (st.map za) et2 ff)]) (List.Perm.swap _ _ _))) (fun h0=>yK Cal.h ((zfH hT (zX h0).rnd (zX h0).sms).frameP (R:=[(j,.cells (l.map za) et ff)]) ((List.Perm.swap _ _ _).cons _)))) ?_;rintro r1 K2 h3;rcases h3 with ⟨⟨Wv,rfl⟩ | ⟨Wv,rfl⟩,rfl⟩
 ·refine au 220661 ?_;intro j6 hj6;refine au 937142235170 ?_;constructor<;>intro Jz
  ·exact absurd Jz sQ
  have hbb:=zX (kS Wv);have hcc:=vj (kS (kD Wv));have hss:=zjN (kD (kD Wv));have h5:=hbb.sms.len;have hsl:=hss.len;refine au 2120 ?_;refine bL [0,1,2,3,4,5,6,8,9,7,10] ?_;refine ad [[12,10],[1,1],[1,2]] ?_;refine TD.c2 (i1:=3) (i2:=8) (pend1:=[_,_]) (pend2:=[_,_,_]) (L1:=[4,5,6,7,8,9,10]) (L2:=[3,4,5,6,7,9,10]) [28] [] Z Z Z Z Z Z Z ?_ ?_
  ·refine kJ Z Z Cal.h Z (zaw hT oQ oQ) vQ fun r4 K5 h6=>⟨?_,?_⟩
   ·rcases h6 with ⟨rfl,rfl⟩
    all_goals simp
   obtain ⟨rfl,rfl⟩:=h6;try simp only [cA]
   refine bS (Wk:=[_,_,_,_,_,_,_,_,_,_,_,_,_,_,_,_,_,_,_,_,_,_,_,_,_,_,_,_,_,_,_,_,_,_,_,_,_,_]) Z ?_;refine TD.c2 (i1:=4) (i2:=8) (pend1:=[]) (pend2:=[_,_]) (L1:=[5,6,7,8,9,10]) (L2:=[4,5,6,7,9,10]) [26,27,29] [] Z Z Z Z Z Z Z ?_ ?_
   ·refine kJ Z Z Cal.h Z ((vK hT hbb hcc hss).mono (fun _ _ h=>vm h)) vQ fun r7 K8 h9=>⟨?_,?_⟩
    ·rcases h9 with ⟨hno,rfl,rfl⟩ | ⟨w,q,jw,hso,rfl,rfl⟩;all_goals simp
    rcases h9 with ⟨hno,rfl,rfl⟩ | ⟨w,q,jw,hso,rfl,rfl⟩
    ·try simp only [cA]
     refine bS (Wk:=[_,_,_,_,_,_,_,_,_,_,_,_,_,_,_,_,_,_,_,_,_,_,_,_,_,_,_,_,_,_,_,_,_,_,_,_,_,_]) Z ?_;refine ad [[1,30],[5,25],[5,25]] ?_;refine bX (Wx:=[_,_,_]) [] Z Z Z Z Z (yN Z TyZA.h) (fun _=>zx rfl tQ) sQ fun j8 hj8=>?_;refine bR (Wx:=[_]) [11,31] Z Z (zE Z Z ze.h Z Z mQ Z) ?_;refine ad [[13,32],[14]] ?_;refine au 2 ?_;refine bL [0,1,5,2,3,6,4,7,8] ?_;refine ad [[3,11],[10,33],[3,11],[10,35],[1,8]] ?_;refine TD.as (Wx:=[_,_,_]) [34] Z Z (zG Z Z) ?_;refine TD.as (Wx:=[_]) [36] Z Z (zG Z Z) ?_;refine ad [[13,37],[13],[14]] ?_;refine au 0 ?_;refine bB Wz [(0,_),(s,_),(h,_),(e,_),(j,_),(j2,_)] ?_;exact .inr (.inl ⟨Wv,hno,rfl,rfl⟩)
    ·try simp only [cA]
     refine bS (Wk:=[_,_,_,_,_,_,_,_,_,_,_,_,_,_,_,_,_,_,_,_,_,_,_,_,_,_,_,_,_,_,_,_,_,_,_,_,_,_]) Z ?_;refine ad [[1,30],[5,25],[5,25]] ?_;refine bX (Wx:=[_,_,_]) [] Z Z Z Z Z (yN Z TyZA.h) (fun _=>zx rfl tQ) sQ fun j8 hj8=>?_;refine bR (Wx:=[_]) [11,31] Z Z (zE Z Z ze.h Z Z mQ Z) ?_;refine ad [[13,32],[14]] ?_;refine au 2 ?_;refine bL [0,1,5,2,3,6,4,7,8] ?_;refine ad [[3,11],[10,33],[3,11],[10,35],[1,8]] ?_;refine TD.as (Wx:=[_,_,_]) [34] Z Z (zG Z Z) ?_;refine TD.as (Wx:=[_]) [36] Z Z (zG Z Z) ?_;refine ad [[13,37],[13],[14]] ?_;refine au 0 ?_;refine bB Wz [(jw,_),(0,_),(s,_),(h,_),(e,_),(j,_),(j2,_)] ?_;exact .inr (.inr ⟨Wv,w,q,jw,hso,rfl,rfl⟩)
   ·refine wg Z (yN Z TyZA.h) (fun _=>zx rfl tQ) sQ fun j8 hj8=>?_;refine bQ (Wx:=[]) [26,27,29] Z Z Z Z Z ((vK hT hbb hcc hss).mono (fun _ _ h=>vm h)) (fun r10 K11 h12=>⟨?_,?_⟩)
    ·rcases h12 with ⟨hno,rfl,rfl⟩ | ⟨w,q,jw,hso,rfl,rfl⟩;all_goals simp
    rcases h12 with ⟨hno,rfl,rfl⟩ | ⟨w,q,jw,hso,rfl,rfl⟩
    ·try simp only [cA]
     refine bS tQ ?_;refine ad [[1,30],[5,25],[5,25]] ?_;refine bR (Wx:=[_]) [11,31] Z Z (zE Z Z ze.h Z Z mQ Z) ?_;refine ad [[13,32],[14]] ?_;refine au 2 ?_;refine bL [0,1,5,2,3,6,4,7,8] ?_;refine ad [[3,11],[10,33],[3,11],[10,35],[1,8]] ?_;refine TD.as (Wx:=[_,_,_]) [34] Z Z (zG Z Z) ?_;refine TD.as (Wx:=[_]) [36] Z Z (zG Z Z) ?_;refine ad [[13,37],[13],[14]] ?_;refine au 0 ?_;refine bB Wz [(0,_),(s,_),(h,_),(e,_),(j,_),(j2,_)] ?_;exact .inr (.inl ⟨Wv,hno,rfl,rfl⟩)
    ·try simp only [cA]
     refine bS tQ ?_;refine ad [[1,30],[5,25],[5,25]] ?_;refine bR (Wx:=[_]) [11,31] Z Z (zE Z Z ze.h Z Z mQ Z) ?_;refine ad [[13,32],[14]] ?_;refine au 2 ?_;refine bL [0,1,5,2,3,6,4,7,8] ?_;refine ad [[3,11],[10,33],[3,11],[10,35],[1,8]] ?_;refine TD.as (Wx:=[_,_,_]) [34] Z Z (zG Z Z) ?_;refine TD.as (Wx:=[_]) [36] Z Z (zG Z Z) ?_;refine ad [[13,37],[13],[14]] ?_;refine au 0 ?_;refine bB Wz [(jw,_),(0,_),(s,_),(h,_),(e,_),(j,_),(j2,_)] ?_;exact .inr (.inr ⟨Wv,w,q,jw,hso,rfl,rfl⟩)
  ·refine wg Z (yN Z TyZA.h) (fun _=>zx rfl tQ) sQ fun j8 hj8=>?_;refine TD.clE (Wx:=[_,_]) [28] Z Z Z Z Z (zaw hT oQ oQ) ?_;refine bQ (Wx:=[]) [26,27,29] Z Z Z Z Z ((vK hT hbb hcc hss).mono (fun _ _ h=>vm h)) (fun r16 K17 h18=>⟨?_,?_⟩)
   ·rcases h18 with ⟨hno,rfl,rfl⟩ | ⟨w,q,jw,hso,rfl,rfl⟩;all_goals simp
   rcases h18 with ⟨hno,rfl,rfl⟩ | ⟨w,q,jw,hso,rfl,rfl⟩
   ·try simp only [cA]
    refine bS tQ ?_;refine ad [[1,30],[5,25],[5,25]] ?_;refine bR (Wx:=[_]) [11,31] Z Z (zE Z Z ze.h Z Z mQ Z) ?_;refine ad [[13,32],[14]] ?_;refine au 2 ?_;refine bL [0,1,5,2,3,6,4,7,8] ?_;refine ad [[3,11],[10,33],[3,11],[10,35],[1,8]] ?_;refine TD.as (Wx:=[_,_,_]) [34] Z Z (zG Z Z) ?_;refine TD.as (Wx:=[_]) [36] Z Z (zG Z Z) ?_;refine ad [[13,37],[13],[14]] ?_;refine au 0 ?_;refine bB Wz [(0,_),(s,_),(h,_),(e,_),(j,_),(j2,_)] ?_;exact .inr (.inl ⟨Wv,hno,rfl,rfl⟩)
   ·try simp only [cA]
    refine bS tQ ?_;refine ad [[1,30],[5,25],[5,25]] ?_;refine bR (Wx:=[_]) [11,31] Z Z (zE Z Z ze.h Z Z mQ Z) ?_;refine ad [[13,32],[14]] ?_;refine au 2 ?_;refine bL [0,1,5,2,3,6,4,7,8] ?_;refine ad [[3,11],[10,33],[3,11],[10,35],[1,8]] ?_;refine TD.as (Wx:=[_,_,_]) [34] Z Z (zG Z Z) ?_;refine TD.as (Wx:=[_]) [36] Z Z (zG Z Z) ?_;refine ad [[13,37],[13],[14]] ?_;refine au 0 ?_;refine bB Wz [(jw,_),(0,_),(s,_),(h,_),(e,_),(j,_),(j2,_)] ?_;exact .inr (.inr ⟨Wv,w,q,jw,hso,rfl,rfl⟩)
 ·refine au 220661 ?_;intro j6 hj6;refine au 937142235170 ?_;constructor<;>intro Jz
  ·
   refine au 35555142 ?_;refine bB Wz [(0,_),(s,_),(h,_),(e,_),(j,_),(j2,_)] ?_;exact .inl ⟨Wv,rfl,rfl⟩
  exact absurd Wv (by simpa using Jz)
theorem zfn {main:Bool} {T:gG->Hp->Prop} (hT:zt tp main T)  {b:RBk} {s h e j j2:Nat} {l st:List Int} {et et2:gT} (hl:b.sE.length<=100) (hm:b.mE.length<=100) (hll:l.length<=1000) :
  zr tp T gmR 26 [.agg (zH b s h e),.sl j 0 l.length,.sl j2 0 st.length] [(0,zB),(s,zp b),(h,zF b),(e,zz b),(j,.cells (l.map za) et ff),(j2,.cells (st.map za) et2 ff)] (fun r K'=>(bar2 (zy b) (bar2 (cutsM b l) (shM b st))≠0/\r=.tup [.v (.slice none 0 0),zC ff,za (bar2 (zy b) (bar2 (cutsM b l) (shM b st)))]/\K'=[(0,zB),(s,zp b),(h,zF b),(e,zz b),(j,.cells (l.map za) et ff),(j2,.cells (st.map za) et2 ff)])\/(bar2 (zy b) (bar2 (cutsM b l) (shM b st))=0/\hangM b l st=none/\r=.tup [.v (.slice none 0 0),zC ff,za 0]/\K'=[(0,zB),(s,zp b),(h,zF b),(e,zz b),(j,.cells (l.map za) et ff),(j2,.cells (st.map za) et2 ff)])\/(bar2 (zy b) (bar2 (cutsM b l) (shM b st))=0/\∃ w q jr,hangM b l st=some (w,q)/\r=.tup [.row jr l.length,zC tt,za 0]/\K'=(jr,.row ((placesM b l st w).map za) 3 1)::[(0,zB),(s,zp b),(h,zF b),(e,zz b),(j,.cells (l.map za) et ff),(j2,.cells (st.map za) et2 ff)])):=by
 refine zn 77 hT Tryz.func26 fun Y Wz=>?_;refine au 21042 ?_;intro jb hjb;refine au 32013201680423555 ?_;refine bI Z Z Z (zu (l:=[_,_]) Z zq.h TyZ.h dQ dQ Z) (fun _=>zx rfl tQ) fun ja hja=>?_;refine bD Z Z Z Z (zcA hT (Kx:=[(j,.cells (l.map za) et ff),(j2,.cells (st.map za) et2 ff)]) (p1:=cutsM b l) (p2:=shM b st) hl hm (fun h0=>yK Cal.h ((wz hT (zX h0).sms.len.2 hll).frameP (R:=[(s,zp b),(j2,.cells (st.map za) et2 ff)]) (List.Perm.swap _ _ _))) (fun h0=>yK Cal.h ((zfH hT (zX h0).rnd (zX h0).sms).frameP (R:=[(j,.cells (l.map za) et ff)]) ((List.Perm.swap _ _ _).cons _)))) ?_;rintro r1 K2 h3;rcases h3 with ⟨⟨Wv,rfl⟩ | ⟨Wv,rfl⟩,rfl⟩
 ·refine au 220661 ?_;intro j6 hj6;refine au 937142235170 ?_;constructor<;>intro Jz
  ·exact absurd Jz sQ
  have hbb:=zX (kS Wv);have hcc:=vj (kS (kD Wv));have hss:=zjN (kD (kD Wv));have h5:=hbb.sms.len;have hsl:=hss.len;refine au 142120 ?_;refine TK.clE Z Z Z Z (zaw hT oQ oQ) ?_;refine au 220 ?_;intro js hjs;refine au 6801680423170 ?_;refine bD Z Z Z Z ((vK hT hbb hcc hss).mono (fun _ _ h=>vm h)) ?_;rintro r7 K8 h9;rcases h9 with ⟨hno,rfl,rfl⟩ | ⟨w,q,jw,hso,rfl,rfl⟩
  ·refine au 220661 ?_;intro jw8 hjw8;refine au 93300142235170 ?_;constructor<;>intro Jx
   ·
    refine au 355542 ?_;refine bB Wz [(0,_),(s,_),(h,_),(e,_),(j,_),(j2,_)] ?_;exact .inr (.inl ⟨Wv,hno,rfl,rfl⟩)
   exact absurd Jx dQ
  ·refine au 220661 ?_;intro jw8 hjw8;refine au 93300142235170 ?_;constructor<;>intro Jx
   ·exact absurd Jx dQ
   obtain ⟨hwl,hwb⟩:=znY hbb hcc hss hso;refine au 542120 ?_;refine TK.virt 6 3 1 Z fun jr0 hjr0=>?_;refine au 1303128014223 ?_;refine bA [1,6,9,10,11,12,39,40,41] ?_;refine bC [(0,_),(s,_),(h,_),(e,_),(j,_),(j2,_),(jw,_),(jw8,_),(js,_),(j6,_),(jr0,_)] ?_;refine bE (fun n Wq K=>∃ (i jr:Nat) (at0:Int),n=l.length - i/\i<=l.length/\(i<l.length->at0+(if i=0 then 0 else togM b st (zK l (i - 1)).toNat (zK l i - zK l (i - 1)).toNat+zK w i)=atM b l st w i)/\(0<=at0/\at0<=1000)/\Wq=.any::.sl j 0 l.length::naL 4 (.row jr i::naL 2 (.ptr j6 0::.ptr js 0::.ptr jw8 0::za at0::naL 26 (.sl j 0 l.length::za l.length::za i::naL 35 [])))/\K=[(0,zB),(s,zp b),(h,zF b),(e,zz b),(j,.cells (l.map za) et ff),(j2,.cells (st.map za) et2 ff),(jw,.cells (w.map za) 3 ff),(jw8,.cells [.sl jw 0 w.length,za q] 143 tt),(js,.cells (stC st) 147 tt),(j6,.cells (zH b s h e) 134 tt),(jr,.row (((List.range i).map (atM b l st w)).map za) 3 1)]) l.length ⟨0,jr0,0,rfl,mN _,fun _=>rfl,⟨Int.le_refl _,by decide⟩,rfl,rfl⟩ fun n Wq K hI Wj=>?_;obtain ⟨i,jr,at0,rfl,hi,hat,hatb,rfl,rfl⟩:=hI;refine bG nQ ?_;refine au 923742 ?_;constructor<;>intro hc2
   ·have Qb:i<l.length:=by simp at hc2; omega
    have qi:=hcc.lt Qb;have hcl:=hcc.len;refine au 3601421302120 ?_;refine bH Z (zj Z Z ze.h mQ (yb (i:=i) (ya Qb) Z)) ?_;refine au 9371422355 ?_;constructor<;>intro hc3
    ·have hi0:0<i:=by simp at hc3; omega
     have qp:=hcc.lt (k:=i - 1) oQ;have Qp:=znO hcc (k:=i - 1) oQ;rw [show i - 1+1=i by omega] at Qp;have htb:=zcQ hbb hss (c:=(zK l (i - 1)).toNat) (zK l i - zK l (i - 1)).toNat;have hwi:0<=zK w i/\zK w i<=9:=hwb i;have hnew:=hat Qb;rw [if_neg oQ] at hnew;refine TK.dr [0,1,2,3,4,5,6,7,8,9,10,11,12,13,14,16,17,18,19,20,15,21,22,23] [0,1,2,3,4,5,6,7,8,9,10,11,12,13,14,15,16,17,18,19,20,21,22,23] ?_;refine ad [[1,12],[12,9],[1,1],[1,13],[9,51],[2,50,52]] ?_;refine bT [53] Z (hq:=zj Z Z ze.h (mC _) (yb (i:=i - 1) (ya oQ) oQ)) (h:=?_);refine ad [[1,14],[1,1],[1,13],[9,57],[2,56,58]] ?_;refine bT [59] Z (hq:=zj Z Z ze.h (mC _) (yb (i:=i - 1) (ya oQ) oQ)) (h:=?_);refine ad [[9,55,60],[12,10],[3,11],[10,64],[1,13],[2,65,66]] ?_;refine bT [67] Z (hq:=zj Z Z ze.h (mC _) (yb (i:=i) (ya (l:=w) oQ) Z)) (h:=?_);refine TD.clE (Wx:=[_,_,_,_,_,_,_,_,_,_,_,_,_,_,_,_]) [49,54,61,62] Z Z Z Z Z (zj1 hT (c:=zK l (i - 1)) (k:=zK l i - zK l (i - 1)) hbb hss oQ oQ) ?_;refine ad [[8,63,68],[8,48,69],[13,70],[14]] ?_;refine au 114 ?_;refine bI Z Z Z (zu (l:=[_]) Z zq.h TyZ.h dQ dQ Z) (fun _=>zx rfl tQ) fun j13 hj13=>?_;refine bO Z Z Z (a_app Z ApOf.h Z mQ sQ Z (yq (ln:=[_]) mQ dQ sQ Z) oQ Z (by unfold maxLen; omega) oQ) (fun _=>uQ) (fun _=>zx rfl tQ) fun jr2=>?_;refine au 31230414035 ?_;refine bA [1,6,9,10,11,12,39,40,41] ?_;refine bC [(0,_),(s,_),(h,_),(e,_),(j,_),(j2,_),(jw,_),(jw8,_),(js,_),(j6,_),(jr2,_)] ?_;exact Wj _ _ _ oQ ⟨i+1,jr2,atM b l st w i,rfl,oQ,fun hh=>by rw [if_neg oQ]; rfl,by have:=at_bd hbb hcc hss hwb i Qb; omega,by rw [hnew]; rfl,by rw [hnew,List.range_succ,lM,lM]; rfl⟩
    obtain rfl:i=0:=by simp at hc3; omega
    have hnew:at0=atM b l st w 0:=by have:=hat Qb; rw [if_pos rfl,Int.add_zero] at this; exact this
    refine au 114120 ?_;refine bI Z Z Z (zu (l:=[_]) Z zq.h TyZ.h dQ dQ Z) (fun _=>zx rfl tQ) fun j14 hj14=>?_;refine bO Z Z Z (a_app Z ApOf.h Z mQ sQ Z (yq (ln:=[_]) mQ dQ sQ Z) oQ Z (by unfold maxLen; omega) oQ) (fun _=>uQ) (fun _=>zx rfl tQ) fun jr2=>?_;refine au 31230414035 ?_;refine bA [1,6,9,10,11,12,39,40,41] ?_;refine bC [(0,_),(s,_),(h,_),(e,_),(j,_),(j2,_),(jw,_),(jw8,_),(js,_),(j6,_),(jr2,_)] ?_;exact Wj _ _ _ oQ ⟨0+1,jr2,atM b l st w 0,rfl,oQ,fun hh=>by rw [if_neg oQ]; rfl,by have:=at_bd hbb hcc hss hwb 0 Qb; omega,by rw [hnew]; rfl,by rw [hnew,List.range_succ,lM,lM]; rfl⟩
   obtain rfl:i=l.length:=by simp at hc2; omega
   refine au 3555142160 ?_;refine bB Wz [(jr,_),(0,_),(s,_),(h,_),(e,_),(j,_),(j2,_)] ?_;exact .inr (.inr ⟨Wv,w,q,jr,hso,rfl,rfl⟩)
 ·refine au 220661 ?_;intro j6 hj6;refine au 937142235170 ?_;constructor<;>intro Jz
  ·
   refine au 3555142 ?_;refine bB Wz [(0,_),(s,_),(h,_),(e,_),(j,_),(j2,_)] ?_;exact .inl ⟨Wv,rfl,rfl⟩
  exact absurd Wv (by simpa using Jz)
theorem zbl {Ψ:gG->World->Prop} {b:RBk} {s h e:Nat} (hl:b.sE.length<=100) (hm:b.mE.length<=100) :
  zr tp (BT tp Ψ) gmR 34 [.agg (zH b s h e)] [(0,zB),(s,zp b),(h,zF b),(e,zz b)] (fun r K'=>(zy b≠0/\r=.tup [.v (.slice none 0 0),za 0,zC ff,za (zy b)]/\K'=[(0,zB),(s,zp b),(h,zF b),(e,zz b)])\/(zy b=0/\zh b=[]/\r=.tup [.v (.slice none 0 0),za 0,zC ff,za 9]/\K'=[(0,zB),(s,zp b),(h,zF b),(e,zz b)])\/(zy b=0/\zh b≠[]/\((NoPlan b (zh b)/\r=.tup [.v (.slice none 0 0),za 0,zC ff,za 0]/\K'=[(0,zB),(s,zp b),(h,zF b),(e,zz b)])\/∃ c jc ec,PlanA b (zh b) cheaperM c/\r=.tup [.sl jc 0 (zw c b.sE.length).length,za (sqHi b (zh b) (zw c b.sE.length)),zC tt,za 0]/\K'=(jc,.cells ((zw c b.sE.length).map za) ec ff)::[(0,zB),(s,zp b),(h,zF b),(e,zz b)]))):=by
 have hT:=kE (P:=tp) Ψ;refine zn 26 hT Tryz.func34 fun Y Wz=>?_;refine au 21042 ?_;intro jb hjb;refine au 6804235555 ?_;refine bD Z Z Z Z (wU hT (Kx:=[]) hl hm) ?_;rintro r1 K2 h3;rcases h3 with ⟨Wv,rfl,rfl⟩ | ⟨Wv,hnil,rfl,rfl⟩ | ⟨Wv,hne,a,rfl,rfl⟩
 ·refine au 220661 ?_;intro j6 hj6;refine au 937142235170 ?_;constructor<;>intro Jz
  ·
   refine au 35555142 ?_;refine bB Wz [(0,_),(s,_),(h,_),(e,_)] ?_;exact .inl ⟨Wv,rfl,rfl⟩
  exact absurd Wv (by simpa using Jz)
 ·refine au 220661 ?_;intro j6 hj6;refine au 937142235170 ?_;constructor<;>intro Jz
  ·
   refine au 35555142 ?_;refine bB Wz [(0,_),(s,_),(h,_),(e,_)] ?_;exact .inr (.inl ⟨Wv,hnil,rfl,rfl⟩)
  exact absurd Jz dQ
 ·refine au 220661 ?_;intro j6 hj6;refine au 937142235170 ?_;constructor<;>intro Jz
  ·exact absurd Jz sQ
  have hbb:=zX Wv;have Wb:=y7 hbb;have Qx:0<(zh b).length:=List.length_pos_iff.2 hne;have hall:okAll b (zh b):=fun st hst=>(ky hbb hst).1;refine au 68042120 ?_;refine bD Z Z Z Z (za4 (bt:=cheaperM) hbb hall Wb Qx zeh (fun _ _ _ _ _ _=>zf1 _ _) (fun hT1 jr cs cost cs0 cost0 j0 e0 Wb=>yK Cal.h (zhE hT1 oQ))) ?_;rintro r4 K5 h6;rcases h6 with ⟨rfl,rfl,hno⟩ | ⟨c,jc,ec,hq0,hq1,hok,hbest,rfl,rfl⟩
  ·refine au 220661 ?_;intro j7 hj7;refine au 235170 ?_;refine bL [0,1,5,2,3,6,4,7,8] ?_;refine ad [[3,7],[10,21],[3,7],[10,23],[1,4]] ?_;refine TD.as (Wx:=[_,_,_]) [22] Z Z (zG Z Z) ?_;refine TD.as (Wx:=[_]) [24] Z Z (zG Z Z) ?_;refine ad [[13,25],[13],[14]] ?_;refine au 0 ?_;refine bB Wz [(0,_),(s,_),(h,_),(e,_)] ?_;exact .inr (.inr ⟨Wv,hne,.inl ⟨hno,rfl,rfl⟩⟩)
  ·refine au 220661 ?_;intro j7 hj7;refine au 235170 ?_;refine bL [0,1,5,2,3,6,4,7,8] ?_;refine ad [[3,7],[10,21],[3,7],[10,23],[1,4]] ?_;refine TD.as (Wx:=[_,_,_]) [22] Z Z (zG Z Z) ?_;refine TD.as (Wx:=[_]) [24] Z Z (zG Z Z) ?_;refine ad [[13,25],[13],[14]] ?_;refine au 0 ?_;refine bB Wz [(jc,_),(0,_),(s,_),(h,_),(e,_)] ?_;exact .inr (.inr ⟨Wv,hne,.inr ⟨c,jc,ec,⟨hq0,hq1,hok,hbest⟩,rfl,rfl⟩⟩)
theorem wh {Ψ:gG->World->Prop} {b:RBk} {s h e:Nat} (hl:b.sE.length<=100) (hm:b.mE.length<=100) :
  zr tp (BT tp Ψ) gmR 35 [.agg (zH b s h e)] [(0,zB),(s,zp b),(h,zF b),(e,zz b)] (fun r K'=>(zy b≠0/\r=.tup [.v (.slice none 0 0),zC ff,za (zy b)]/\K'=[(0,zB),(s,zp b),(h,zF b),(e,zz b)])\/(zy b=0/\zh b=[]/\r=.tup [.v (.slice none 0 0),zC ff,za 9]/\K'=[(0,zB),(s,zp b),(h,zF b),(e,zz b)])\/(zy b=0/\zh b≠[]/\((NoPlan b (zh b)/\r=.tup [.v (.slice none 0 0),zC ff,za 0]/\K'=[(0,zB),(s,zp b),(h,zF b),(e,zz b)])\/∃ c jc ec,PlanA b (zh b) shorterM c/\r=.tup [.sl jc 0 (zw c b.sE.length).length,zC tt,za 0]/\K'=(jc,.cells ((zw c b.sE.length).map za) ec ff)::[(0,zB),(s,zp b),(h,zF b),(e,zz b)]))):=by
 have hT:=kE (P:=tp) Ψ;refine zn 23 hT Tryz.func35 fun Y Wz=>?_;refine au 21042 ?_;intro jb hjb;refine au 680423555 ?_;refine bD Z Z Z Z (wU hT (Kx:=[]) hl hm) ?_;rintro r1 K2 h3;rcases h3 with ⟨Wv,rfl,rfl⟩ | ⟨Wv,hnil,rfl,rfl⟩ | ⟨Wv,hne,a,rfl,rfl⟩
 ·refine au 220661 ?_;intro j6 hj6;refine au 937142235170 ?_;constructor<;>intro Jz
  ·
   refine au 3555142 ?_;refine bB Wz [(0,_),(s,_),(h,_),(e,_)] ?_;exact .inl ⟨Wv,rfl,rfl⟩
  exact absurd Wv (by simpa using Jz)
 ·refine au 220661 ?_;intro j6 hj6;refine au 937142235170 ?_;constructor<;>intro Jz
  ·
   refine au 3555142 ?_;refine bB Wz [(0,_),(s,_),(h,_),(e,_)] ?_;exact .inr (.inl ⟨Wv,hnil,rfl,rfl⟩)
  exact absurd Jz dQ
 ·refine au 220661 ?_;intro j6 hj6;refine au 937142235170 ?_;constructor<;>intro Jz
  ·exact absurd Jz sQ
  have hbb:=zX Wv;have Wb:=y7 hbb;have Qx:0<(zh b).length:=List.length_pos_iff.2 hne;have hall:okAll b (zh b):=fun st hst=>(ky hbb hst).1;refine au 68042120 ?_;refine bD Z Z Z Z (za4 (bt:=shorterM) hbb hall Wb Qx zaE (zd3 hbb) (fun hT1 jr cs cost cs0 cost0 j0 e0 Wb=>yK Cal.h (zcK hT1 oQ))) ?_;rintro r4 K5 h6;rcases h6 with ⟨rfl,rfl,hno⟩ | ⟨c,jc,ec,hq0,hq1,hok,hbest,rfl,rfl⟩
  ·refine au 220661 ?_;intro j7 hj7;refine au 355516906704235170 ?_;refine bB Wz [(0,_),(s,_),(h,_),(e,_)] ?_;exact .inr (.inr ⟨Wv,hne,.inl ⟨hno,rfl,rfl⟩⟩)
  ·refine au 220661 ?_;intro j7 hj7;refine au 355516906704235170 ?_;refine bB Wz [(jc,_),(0,_),(s,_),(h,_),(e,_)] ?_;exact .inr (.inr ⟨Wv,hne,.inr ⟨c,jc,ec,⟨hq0,hq1,hok,hbest⟩,rfl,rfl⟩⟩)
theorem ww {Ψ:gG->World->Prop} {b:RBk} {s h e:Nat} (hl:b.sE.length<=100) (hm:b.mE.length<=100) :
  zr tp (BT tp Ψ) gmR 36 [.agg (zH b s h e)] [(0,zB),(s,zp b),(h,zF b),(e,zz b)] (fun r K'=>(zy b≠0/\r=.tup [za 0,zC ff,za (zy b)]/\K'=[(0,zB),(s,zp b),(h,zF b),(e,zz b)])\/(zy b=0/\zh b=[]/\r=.tup [za 0,zC ff,za 9]/\K'=[(0,zB),(s,zp b),(h,zF b),(e,zz b)])\/(zy b=0/\zh b≠[]/\r=.tup [za ((widestM b (zh b)).getD 0),zC (widestM b (zh b)).isSome,za 0]/\K'=[(0,zB),(s,zp b),(h,zF b),(e,zz b)])):=by
 have hT:=kE (P:=tp) Ψ;refine zn 33 hT Tryz.func36 fun Y Wz=>?_;refine au 21042 ?_;intro jb hjb;refine au 680423555 ?_;refine bD Z Z Z Z (wU hT (Kx:=[]) hl hm) ?_;rintro r1 K2 h3;rcases h3 with ⟨Wv,rfl,rfl⟩ | ⟨Wv,hnil,rfl,rfl⟩ | ⟨Wv,hne,a,rfl,rfl⟩
 ·refine au 220661 ?_;intro j5 hj5;refine au 937142235170 ?_;constructor<;>intro Jz
  ·
   refine au 3555142 ?_;refine bB Wz [(0,_),(s,_),(h,_),(e,_)] ?_;exact .inl ⟨Wv,rfl,rfl⟩
  exact absurd Wv (by simpa using Jz)
 ·refine au 220661 ?_;intro j5 hj5;refine au 937142235170 ?_;constructor<;>intro Jz
  ·
   refine au 3555142 ?_;refine bB Wz [(0,_),(s,_),(h,_),(e,_)] ?_;exact .inr (.inl ⟨Wv,hnil,rfl,rfl⟩)
  exact absurd Jz dQ
 ·refine au 220661 ?_;intro j5 hj5;refine au 937142235170 ?_;constructor<;>intro Jz
  ·exact absurd Jz sQ
  have hbb:=zX Wv;have Wb:=y7 hbb;have Qx:0<(zh b).length:=List.length_pos_iff.2 hne;have hall:okAll b (zh b):=fun st hst=>(ky hbb hst).1;have hst:=hbb.rnd.steps;refine au 13035422120 ?_;refine bA [1,2,3,4,5] ?_;refine bC [(a,_),(0,_),(s,_),(h,_),(e,_),(jb,_),(j5,_)] ?_;refine bE (fun n Wq K=>∃ (k:Nat) (r0:Int),n=k/\b.steps+k<=41/\widestL b (zh b) k=widestM b (zh b)/\Wq=.any::.ptr jb 0::za (b.steps+(k:Int) - 1)::zC ff::za 0::.ptr j5 0::naL 27 []/\K=[(a,allO (zh b)),(0,zB),(s,zp b),(h,zF b),(e,zz b),(jb,.cells (zH b s h e) 26 tt),(j5,.cells (knownC (atRound b r0) s h e a (zh b).length) 154 tt)]) (41 - b.steps).toNat ⟨(41 - b.steps).toNat,b.round,rfl,oQ,rfl,by rw [show b.steps+((41 - b.steps).toNat:Int) - 1=40 by omega]; rfl,rfl⟩ fun n Wq K hI Wj=>?_;obtain ⟨k1,r0,hn1,hk,hw,rfl,rfl⟩:=hI;subst n;refine bG nQ ?_;refine au 9376906701422 ?_;constructor<;>intro Jx
  ·obtain ⟨k,rfl⟩:∃ k,k1=k+1:=⟨k1 - 1,by simp at Jx; omega⟩;have hkk:b.steps+((k+1:Nat):Int) - 1=b.steps+(k:Int):=by omega
   rw [hkk];refine au 6804231706706706701421302120 ?_;refine bD Z Z Z Z (za4 (b:=atRound b (b.steps+k)) (bt:=shorterM) (zes hbb oQ oQ) (zl2 hall _) Wb Qx zaE (zd3 (zes hbb oQ oQ)) (fun hT1 jr cs cost cs0 cost0 j0 e0 Wb=>yK Cal.h (zcK hT1 oQ))) ?_;rintro r4 K5 h6;rcases h6 with ⟨rfl,rfl,hno⟩ | ⟨c,jc,ec,hq0,hq1,hok,hbest,rfl,rfl⟩
   ·refine au 220661 ?_;intro j7 hj7;refine au 9314235170 ?_;constructor<;>intro hc2
    ·cases hc2
    refine au 3524014140120 ?_;refine bA [1,2,3,4,5] ?_;refine bC [(a,_),(0,_),(s,_),(h,_),(e,_),(jb,_),(j5,_)] ?_;exact Wj _ _ _ oQ ⟨k,b.steps+(k:Int),rfl,oQ,by rw [<- hw,show widestL b (zh b) (k+1)=widestL b (zh b) k from if_neg (by rw [zl7 (b:=b) hno]; decide)],rfl,rfl⟩
   ·refine au 220661 ?_;intro j7 hj7;refine au 9314235170 ?_;constructor<;>intro hc2
    ·
     refine au 3555142 ?_;refine bB Wz [(0,_),(s,_),(h,_),(e,_)] ?_;exact .inr (.inr ⟨Wv,hne,by rw [<- hw,show widestL b (zh b) (k+1)=some (b.steps+k) from if_pos (zl8 hq0 hq1 hok)]; rfl,rfl⟩)
    cases hc2
  obtain rfl:k1=0:=by simp at Jx; omega
  refine au 355542160 ?_;refine bB Wz [(0,_),(s,_),(h,_),(e,_)] ?_;exact .inr (.inr ⟨Wv,hne,by rw [<- hw]; rfl,rfl⟩)
theorem uA:tp.underlying 147=some (.array 5 3):=by kernel_rfl
theorem u3:tp.underlying 3=some (.int .i64):=by kernel_rfl
theorem i3:tp.info? 3=some Tryz.t3:=by kernel_rfl
theorem i3s:Tryz.t3.size=1:=by kernel_rfl
theorem zcD {P:gP} {t:gT} {i:TypeInfo} (h:P.info? t=some i):zO P (sizeOf t)=some i.size:=by
 unfold sizeOf typeInfo
 show zO P ((match P.info? t with | some i=>pure i | none=>stuck "no such type") >>= fun i=>pure i.size)=_
 rw [h]; rfl
theorem znU {d:Nat} {a b:Int}:zO tp (Op.equalIn (d+1) 3 (.int .i64 a) (.int .i64 b))=some (a==b):=by
 unfold Op.equalIn;exact zP (ye u3) rfl
theorem kP {cs:Array gV} {off:Nat} {v:gV} (h:cs[off]? =some v):zO tp (part 3 cs off)=some v:=by
 unfold part isAgg;refine zP (a:=ff) ?_ ?_
 ·exact zP (ye u3) rfl
 ·simp [h]; rfl
theorem zaC {α β:Type} {P:gP} (s:Sem α) (f:α->Sem β):zO P (s >>= f)=(zO P s).bind fun a=>zO P (f a):=by
 show zO P (s.bind f)=_
 induction s with
 | pure a=>rfl
 | program k ih=>exact ih P
 | _=>rfl
theorem zcE {α:Type} {P:gP} (a:α):zO P (pure a)=some a:=rfl
def stV (s:List Int):gV:=.agg #[.int .i64 (s.getD 0 0),.int .i64 (s.getD 1 0),.int .i64 (s.getD 2 0),.int .i64 (s.getD 3 0),.int .i64 (s.getD 4 0)]
def eqSt (s t:List Int):Bool:=(s.getD 0 0==t.getD 0 0)&&((s.getD 1 0==t.getD 1 0)&&((s.getD 2 0==t.getD 2 0)&&((s.getD 3 0==t.getD 3 0)&&(s.getD 4 0==t.getD 4 0))))
theorem znT {d:Nat} {a0 a1 a2 a3 a4 b0 b1 b2 b3 b4:Int}:zO tp (Op.equalIn (d+2) 147 (.agg #[.int .i64 a0,.int .i64 a1,.int .i64 a2,.int .i64 a3,.int .i64 a4]) (.agg #[.int .i64 b0,.int .i64 b1,.int .i64 b2,.int .i64 b3,.int .i64 b4]))=some (a0==b0&&(a1==b1&&(a2==b2&&(a3==b3&&a4==b4)))):=by
 unfold Op.equalIn;refine zP (ye uA) ?_;dsimp only;refine zP (zcD i3) ?_;rw [i3s];simp only [Std.Legacy.Range.forIn_eq_forIn_range',Std.Legacy.Range.size,Nat.sub_zero,Nat.add_sub_cancel,Nat.div_one];simp [List.range'];have p0:=fun a b c d e:gV=>kP (cs:=#[a,b,c,d,e]) (off:=0) rfl;have p1:=fun a b c d e:gV=>kP (cs:=#[a,b,c,d,e]) (off:=1) rfl;have p2:=fun a b c d e:gV=>kP (cs:=#[a,b,c,d,e]) (off:=2) rfl;have p3:=fun a b c d e:gV=>kP (cs:=#[a,b,c,d,e]) (off:=3) rfl;have p4:=fun a b c d e:gV=>kP (cs:=#[a,b,c,d,e]) (off:=4) rfl;have e:=fun a b:Int=>znU (d:=d) (a:=a) (b:=b);rcases h1:(a0==b0) <;> rcases h2:(a1==b1) <;> rcases h3:(a2==b2) <;> rcases h4:(a3==b3) <;> rcases h5:(a4==b4) <;> simp [zaC,zcE,p0,p1,p2,p3,p4,e,h1,h2,h3,h4,h5]
theorem eq_st (s t:List Int):zO tp (Op.equal 147 (stV s) (stV t))=some (eqSt s t):=znT (d:=9998)
theorem ziC {d:Nat} {e:Bool} {a:Int}:zO tp (Instr.checkKey e (d+1) 3 (.int .i64 a))=some ():=by
 unfold Instr.checkKey;exact zP (ye u3) rfl
theorem zkm {e:Bool} (s:List Int):zO tp (Instr.checkKey e 10000 147 (stV s))=some ():=by
 show zO tp (Instr.checkKey e (9998+2) 147 (stV s))=some ();unfold Instr.checkKey;refine zP (ye uA) ?_;unfold stV;dsimp only;simp only [Std.Legacy.Range.forIn_eq_forIn_range',Std.Legacy.Range.size,Nat.sub_zero,Nat.add_sub_cancel,Nat.div_one];simp [List.range'];have p0:=fun a b c d e:gV=>kP (cs:=#[a,b,c,d,e]) (off:=0) rfl;have p1:=fun a b c d e:gV=>kP (cs:=#[a,b,c,d,e]) (off:=1) rfl;have p2:=fun a b c d e:gV=>kP (cs:=#[a,b,c,d,e]) (off:=2) rfl;have p3:=fun a b c d e:gV=>kP (cs:=#[a,b,c,d,e]) (off:=3) rfl;have p4:=fun a b c d e:gV=>kP (cs:=#[a,b,c,d,e]) (off:=4) rfl;have hs:zO tp (sizeOf 3)=some 1:=by rw [zcD i3,i3s]
 have ck:=fun (e:Bool) (a:Int)=>ziC (d:=9998) (e:=e) (a:=a);simp [zaC,zcE,p0,p1,p2,p3,p4,hs,ck]
theorem zer {s:List Int}:∀ (es:List MapEntry) (ks:List (List Int)) (i:Nat),es.map (·.key)=ks.map stV->(∀ t∈ks,eqSt s t=ff)->zO tp (Instr.findAsking 147 (stV s) es i)=some none
 | [],_,_,_,_=>rfl
 | en::es,[],_,h,_=>by simp at h
 | en::es,t::ks,i,h,hk=>by
  simp only [List.map_cons,List.cons.injEq] at h;unfold Instr.findAsking;refine zP (a:=ff) ?_ ?_
  ·rw [h.1,eq_st,hk t sQ]
  ·simp only [Bool.false_eq_true,if_false];exact zer es ks (i+1) h.2 fun t ht=>hk t (by simp [ht])
def MapS (ob:Obj) (ks:List (List Int)):Prop:=∃ es clock,ob=.map es clock/\es.toList.map (·.key)=ks.map stV
def upS (ob:Obj) (s:List Int):Obj:=match ob with
 | .map es clock=>.map (es.push { key:=stV s,val:=.bool tt,born:=clock }) (clock+1)
 | ob=>ob
theorem zkS:MapS (.map #[] 0) []:=⟨#[],0,rfl,rfl⟩
theorem zmz {ob:Obj} {ks:List (List Int)} {s:List Int} (h:MapS ob ks):MapS (upS ob s) (ks++[s]):=by
 obtain ⟨es,c,rfl,h⟩:=h;exact ⟨_,_,rfl,by rw [Array.toList_push,lM,lM,h]; rfl⟩
section
variable {P:gP} {gm:Nat->Option Nat} {V:KV} {Wq:List AV} {o:Oper}
structure KeyOk (P:gP):Prop where
 u:P.underlying 147=some (.array 5 3)
 ck:∀ s,zO P (Instr.checkKey ff 10000 147 (stV s))=some ()
 fa:∀ (s:List Int) (es:List MapEntry) (ks:List (List Int)) (i:Nat),es.map (·.key)=ks.map stV->(∀ t∈ks,eqSt s t=ff)->zO P (Instr.findAsking 147 (stV s) es i)=some none
theorem keyOk:KeyOk tp:=⟨uA,zkm,fun s es ks i=>zer es ks i⟩
theorem znZ {φ:Nat->Loc3} {n:Nat} {s:List Int} {y:gV} (h:RelV φ n (.agg (stC s)) y):y=stV s:=by
 obtain ⟨ys,rfl,h1,h2⟩:=zc6 h;have hsz:ys.size=5:=h1.symm;have g:∀ i:Nat,i<5->ys[i]? =some (.int .i64 (s.getD i 0)):=fun i hi=>by
  have hy:ys[i]? =some ys[i]:=mD oQ;have hs:(stC s)[i]? =some (slotR s i):=by
   have:i=0\/i=1\/i=2\/i=3\/i=4:=by omega
   rcases this with rfl | rfl | rfl | rfl | rfl <;> rfl
  have:=inv_v (h2 i _ _ hs hy);rw [hy,this]
 unfold stV;congr 1;refine Array.ext (by simpa using hsz) fun i hi1 hi2=>?_;have h5:i<5:=by omega
 have hh:=g i h5;rw [mD hi1] at hh;rw [Option.some.inj hh];have:i=0\/i=1\/i=2\/i=3\/i=4:=by omega
 rcases this with rfl | rfl | rfl | rfl | rfl <;> rfl
theorem zfx (hP:KeyOk P) {t et:gT} {x y:gO} {j:Nat} {ob:Obj} {s:List Int} {ks:List (List Int)} (ho:o.op=.mapUpdate t x y (.const (.bool tt))) (hx:zo gm Wq x=some (.map j)) (hy:zo gm Wq y=some (.agg (stC s))) (ht:P.underlying t=some (.map 147 et)) (hm:(j,.raw ob)∈V) (hf:MapS ob ks) (hn:∀ k∈ks,eqSt s k=ff) :
  ∀ A,zV V A->OpOk P gm Wq A o .any (A.set j (.raw (upS ob s))):=fun A hA φ F H a hg hH hE=>by
 unfold execOp; rw [ho];refine wpS_u ?_;have h1:=zD hg hE x;rw [zA hx] at h1;obtain ⟨hj,e1⟩:=vn h1;have h2:=zD hg hE y;rw [zA hy] at h2;rw [e1,znZ h2];obtain ⟨es,c,rfl,hk⟩:=hf;have hb:H (φ j).blk=some (tt,.map es c):=hH.obj j _ (hA.get hm);have hend:zZ φ A F .any (A.set j (.raw (upS (.map es c) s))) .skip (H.put (φ j).blk (tt,upS (.map es c) s)) :=
  ⟨undef,φ,.inr ⟨rfl,rfl⟩,Agr.refl _ _,by simp,hH.set (hA.get hm) rfl trivial (Hp.put_same _ _ _),.any _⟩
 unfold Instr.mapUpdate;refine zf _ _ _ (zJ ht ?_);dsimp only;refine zf _ _ _ ?_;refine ⟨tt,_,hb,rfl,rfl,?_⟩;refine zf _ _ _ (ko _ (hP.ck s) ?_);refine zf _ _ _ ?_;unfold Instr.findKey;refine zf _ _ _ (zJ hP.u ?_);have key:∀ (Q:Option (Nat×gV)->Hp->Prop),Q none H->wpS P (match Instr.findNow (.array 5 3) (stV s) es.toList 0 with | some r=>pure r | none=>Instr.findAsking 147 (stV s) es.toList) H Q:=fun Q hq=>by
  cases hes:es.toList with
  | nil=>exact hq
  | cons en r =>
   have:Instr.findNow (.array 5 3) (stV s) (en::r) 0=none:=rfl;rw [this];exact ko _ (hP.fa s _ ks 0 (by rw [<- hes]; exact hk) hn) hq
 refine key _ ?_;refine ⟨_,hb,rfl,rfl,?_⟩;exact hend
theorem zjx {t kt et:gT} {x:gO} {j:Nat} {ob:Obj} {ks:List (List Int)} (ho:o.op=.call { callee:=.builtin .len,args:=#[x],argTypes:=#[t] }) (hx:zo gm Wq x=some (.map j)) (ht:P.underlying t=some (.map kt et)) (hm:(j,.raw ob)∈V) (hf:MapS ob ks) :
  Qk P gm Wq V o (.v (.int .i64 ks.length)):=fun A hA φ F H a hg hH hE=>by
 rw [yR ho];have h1:=zD hg hE x;rw [zA hx] at h1;obtain ⟨hj,e1⟩:=vn h1;obtain ⟨es,c,rfl,hk⟩:=hf;have hb:H (φ j).blk=some (tt,.map es c):=hH.obj j _ (hA.get hm);simp only [builtin,List.map_toArray,List.map_cons,List.map_nil,e1];refine wpS_v ?_;show wpS _ (underlying t >>= _) H _;refine zf _ _ _ (zJ ht ?_);refine zf _ _ _ ?_;refine ⟨tt,_,hb,rfl,rfl,?_⟩;have hl:es.size=ks.length:=by have:=congrArg List.length hk; simpa using this
 show zZ _ _ _ _ _ (.value (goInt es.size)) H;rw [hl];exact zZ.quiet hH (.v _)
end
end Go.Vel
namespace Go.Vel
open Go Go.Conc
section
variable {P:gP} {gm:Nat->Option Nat} {Wq:List AV} {A A':List AObj} {o:Oper} {V:KV}
theorem zk9 {d:gO} {t e:gT} {ti:TypeInfo} {z:gV} {i off m:Nat} (ho:o.op=.call { callee:=.builtin .clear,args:=#[d],argTypes:=#[t] }) (ht:P.underlying t=some (.slice e)) (hi:P.info? e=some ti) (hz:ti.zero=some z) (hzc:z.cells=#[.int .i64 0]) (hd:zR gm Wq d=.sl i off m) (hm:0<m) (hs:storeA A i off (mB m (.v (.int .i64 0)))=some A') :
  OpOk P gm Wq A o (.tup []) A':=fun φ F H a hg hH hE=>by
 rw [yR ho];have hd':=zD hg hE d;rw [hd] at hd';obtain ⟨Qb,cap,b,hlc,hb,ed⟩:=zaW hd';simp only [builtin,List.map_toArray,List.map_cons,List.map_nil];refine wpS_v ?_;rw [ed,hb hm];obtain ⟨m',rfl⟩:∃ m',m=m'+1:=⟨m - 1,oQ⟩;unfold Builtin.clear_;dsimp only;show wpS P (underlying t >>= _) H _;refine zf _ _ _ (zJ ht ?_);refine zf _ _ _ (yU hi hz ?_);have hzz:(Builtin.zeroCells z.cells (m'+1)).toList=(Array.replicate (m'+1) (Value.int .i64 0)).toList:=by
  rw [hzc];unfold Builtin.zeroCells;apply List.ext_getElem
  ·simp
  ·intro i h1 h2;simp [Nat.mod_one]
 rw [hzz];refine zf _ _ _ (zbi hH hs (ys:=Array.replicate (m'+1) (Value.int .i64 0)) ?_ fun H' hH' Wb=>?_)
 ·have:=zbv φ A.length (Array.replicate (m'+1) (Value.int .i64 0));simpa using this
 ·exact ⟨_,φ,.inl rfl,Agr.refl _ _,oQ,hH',.tup rfl fun j a y ha=>by simp at ha⟩
theorem zm9 {d:gO} {t e:gT} {i off m:Nat} {ob ob':AObj} (ho:o.op=.call { callee:=.builtin .clear,args:=#[d],argTypes:=#[t] }) (ha:apOf P t=some (e,1,8)) (hz:tyZero P e=some [.int .i64 0]) (hd:zo gm Wq d=some (.sl i off m)) (hm:0<m) (hi:(i,ob)∈V) (hs:putO ob off (mB m (.v (.int .i64 0)))=some ob') :
  ∀ A,zV V A->OpOk P gm Wq A o (.tup []) (A.set i ob'):=fun A hA=>by
 unfold apOf at ha;split at ha
 ·rename_i e' h1;split at ha
  ·rename_i ti h2;split at ha
   ·rename_i z h3;split at ha
    ·rename_i h4;simp only [Option.some.injEq,Prod.mk.injEq] at ha;obtain ⟨rfl,h5,h6⟩:=ha;obtain ⟨i',z',g1,g2,g3⟩:=wH hz;rw [h2] at g1;cases g1;rw [h3] at g2;cases g2;exact zk9 ho h1 h2 h3 (by rw [<- Array.toList_inj,g3]) (zA hd) hm (zbc (hA.get hi) hs)
    ·cases ha
   ·cases ha
  ·cases ha
 ·cases ha
end
theorem zg6 {xs:List Int} {k:Nat} {n v:Int} {e:gT} {s:Nat} (h:k<xs.length) (hn:n=(k:Int)):putO (.row (xs.map za) e s) (n.toNat*1) [za v]=some (.row ((xs.set k v).map za) e s):=by
 subst hn;unfold putO;dsimp only;rw [if_pos ⟨by simp; omega,by simp,rfl⟩,zfE _ _ _ (by simp; omega),List.map_set];simp
theorem zfF (c:AV):∀ (m:Nat) (l:List AV) (k:Nat),k+m=l.length->setL l k (mB m c)=l.take k++mB m c
 | 0,l,k,h=>by simp [setL,List.take_of_length_le (by omega:l.length<=k)]
 | m+1,l,k,h=>by
  rw [List.replicate_succ];show setL (l.set k c) (k+1) (mB m c)=_;rw [zfF c m (l.set k c) (k+1) (by rw [List.length_set]; omega),List.take_add_one,List.getElem?_set_self oQ,List.take_set_of_le (mL _)];simp
theorem zll {xs:List Int} {k m:Nat} {e:gT} {s:Nat} (h:k+m=xs.length) (hm:0<m):putO (.row (xs.map za) e s) k (mB m (.v (.int .i64 0)))=some (.row ((xs.take k++mB m 0).map za) e s):=by
 unfold putO;dsimp only;rw [if_pos ⟨by simp; omega,by simpa using hm,by simp [oneA,oneCell]⟩,zfF _ _ _ _ (by simpa using h),lM,List.map_take,List.map_replicate]
def compN (xs:List Int):Nat->List Int
 | 0=>[]
 | 1=>xs.take 1
 | p+2=>compN xs (p+1)++(if zK xs p=zK xs (p+1) then [] else [zK xs (p+1)])
def compM (xs:List Int):List Int:=compN xs xs.length
theorem zaO (xs:List Int):∀ p,p<=xs.length->(compN xs p).length<=p
 | 0,_=>by simp [compN]
 | 1,_=>by simp [compN]; omega
 | p+2,h=>by
  have:=zaO xs (p+1) oQ;unfold compN;rw [lF];split <;> simp <;> omega
theorem vU {xs:List Int} {p:Nat} (h:zK xs p=zK xs (p+1)):compN xs (p+2)=compN xs (p+1):=by
 conv=>lhs; unfold compN
 rw [if_pos h,lR]
theorem vV {xs:List Int} {p:Nat} (h:zK xs p≠zK xs (p+1)):compN xs (p+2)=compN xs (p+1)++[zK xs (p+1)]:=by
 conv=>lhs; unfold compN
 rw [if_neg h]
theorem zlI {s t:List Int} (h:s.length=t.length) (h5:s.length<=5) (he:eqSt s t=tt):s=t:=by
 simp only [eqSt,Bool.and_eq_true,beq_iff_eq] at he;obtain ⟨e0,e1,e2,e3,e4⟩:=he;refine List.ext_getElem h fun i h1 h2=>?_;have g:∀ (l:List Int) (h:i<l.length),l.getD i 0=l[i]:=fun l h=>by rw [lE,lA h]; rfl
 have:i=0\/i=1\/i=2\/i=3\/i=4:=by omega
 rw [<- g s h1,<- g t h2];rcases this with rfl | rfl | rfl | rfl | rfl <;> assumption
theorem zb0 {b:RBk}:∀ (r:List RBand) (p s:List Int),s∈fromM b p r->s.take p.length=p/\s.length=p.length+r.length
 | [],p,s,h=>by
  unfold fromM at h;split at h
  ·rw [lS.1 h]; simp
  ·cases h
 | x::r,p,s,h=>by
  unfold fromM at h;obtain ⟨n,hn,hs⟩:=List.mem_flatMap.1 h;obtain ⟨h1,h2⟩:=zb0 r (p++[n]) s hs;rw [lF,List.length_singleton] at h1 h2;refine ⟨?_,by rw [h2,lZ]; omega⟩;have:=congrArg (List.take p.length) h1;rw [List.take_take,List.take_append_of_le_length (mL _),lW,Nat.min_eq_left oQ] at this;exact this
theorem zbM:∀ (k:Nat) (n:Int),(numsF n k).Nodup
 | 0,_=>.nil
 | k+1,n=>by
  unfold numsF;refine List.nodup_cons.2 ⟨fun h=>?_,zbM k _⟩;rw [za1] at h;omega
theorem zco {b:RBk}:∀ (r:List RBand) (p:List Int),(fromM b p r).Nodup
 | [],p=>by unfold fromM; split <;> simp
 | x::r,p=>by
  unfold fromM;show List.Pairwise (· ≠ ·) _;rw [List.pairwise_flatMap];refine ⟨fun n _=>zco r _,?_⟩;have:=zbM (x.high+1 - x.low).toNat x.low;unfold numsM;refine List.Pairwise.imp (fun {a c} hne s hs1 s2 hs2 he=>?_) this;subst he;have e1:=(zb0 r _ s hs1).1;have e2:=(zb0 r _ s hs2).1;rw [lF,List.length_singleton] at e1 e2;have:=e1.symm.trans e2;simp at this;exact hne this
theorem zfQ (b:RBk):(zh b).Nodup:=zco _ _
theorem zi8 {b:RBk} (hb:ROk b) {pre:List (List Int)} {S:List Int} (h:pre++[S] <+: zh b):∀ k∈pre,eqSt S k=ff:=fun k hk=>by
 have hnd:(pre++[S]).Nodup:=(zfQ b).sublist h.sublist;have hS:S∈zh b:=h.subset sQ;have hk2:k∈zh b:=h.subset (by simp [hk]);have l1:=(ky hb hS).1.len;have l2:=(ky hb hk2).1.len;cases he:eqSt S k with
 | false=>rfl
 | true =>
  have:=zlI oQ (by have:=hb.sms.len; omega) he;subst this;rw [List.nodup_append] at hnd;exact absurd rfl (hnd.2.2 S hk S sQ)
end Go.Vel
end
