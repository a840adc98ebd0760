/- Texts for the statements of chapter 8: what all of them need, part 7. It holds of every program, tape and world that the statements name, as each theorem says. -/
import Derived.Test.YtmpelnkdopomgaaGreatDoorL1
import Derived.Test.YtmpelnkdopomgaaGreatDoorL5
section
set_option linter.all false
set_option maxRecDepth 20000
set_option maxHeartbeats 60000000
open Go.Proofs.Tryz renaming prog -> tp
open List renaming getElem?_eq_getElem -> lA, getD_eq_getElem?_getD -> lE, length_append -> lF, perm_append_comm -> lH, length_map -> lJ, map_append -> lM, mem_of_getElem? -> lN, append_nil -> lR, mem_singleton -> lS, take_length -> lW, length_cons -> lZ, replicate -> mB
open List.Mem renaming head -> mC
open Array renaming getElem?_eq_getElem -> mD
open Nat renaming le_refl -> mL, zero_le -> mN, le_trans -> mT
open Int renaming toNat_natCast -> mZ
open Go.Vel.TK renaming maskL -> bA, rt -> bB, kp -> bC, cl -> bD, loopN -> bE, sp -> bF, na -> bG, a -> bH, newR -> bI, dq -> bL, perm -> bN, appR -> bO, frzRow -> bY
open Go.Vel.TD renaming cl -> bQ, s -> bR, norm -> bS, y -> bT, z -> bU, cnewP -> bX
namespace Go.Vel
open Go Go.Conc Go.Proofs
theorem zdN {n:Nat} (h:n<256):IntKind.u64.wrap (n:Int)=n:=by
 have:∀ n:Nat,n<256->IntKind.u64.wrap (n:Int)=n:=by decide +kernel
 exact this n h
theorem zkT {n:Nat} (h:n<256):IntKind.u8.wrap (n:Int)=n:=by
 have:∀ n:Nat,n<256->IntKind.u8.wrap (n:Int)=n:=by decide +kernel
 exact this n h
theorem zmu {s:ByteArray} {n:Nat} (hn:n<256) (h:s.size=256):s[n]? =some (s[n]'oQ):=getElem?_pos s n oQ
theorem zjh (c:UInt8):IntKind.i64.wrap (c.toNat:Int)=c.toNat:=kO (by have:=c.toNat_lt; omega)
theorem zjq (c:UInt8) : -9223372036854775808<=0+(c.toNat:Int)/\0+(c.toNat:Int)<9223372036854775808:=by have:=c.toNat_lt; omega
theorem zfm {lt:Int->Int->Bool} {xs:List Int} (h:1<=xs.length):sortN lt xs 1++xs.drop 1=xs:=by
 cases xs with
 | nil=>simp at h
 | cons x r=>rfl
instance:ze tp 132 false 1:={}
instance:Und tp 199 (.int .u64):={}
instance:Und tp 5 (.int .u8):={}
instance:Und tp 9 .string:={}
theorem zjZ {main T} (hT:zn tp main T) {gm} {n:Nat} (hn:n<256) :
  zq tp T gm 138 [.v (.int .u64 n)] [] (fun r K'=>∃ m:Int,r=intA m/\K'=[]):=by
 refine zm 25 hT Tryz.func138 fun Y hret=>?_;refine au 93714223542 ?_;constructor<;>intro hc0
 ·simp at hc0; omega
 refine au 9371422120 ?_;constructor<;>intro hc1
 ·simp at hc1; omega
 refine au 9371422120 ?_;constructor<;>intro hc2
 ·simp at hc2; omega
 refine au 1142120 ?_;refine bH Z (yP Z Z Und.h Und.h (zkT hn)) ?_;refine bH Z (zhq Z Z Z Und.h oQ (zmu hn Z)) ?_;refine bH Z (yP Z Z Und.h Und.h (zjh _)) ?_;refine bH Z (q_add Z Z Z (zjq _)) ?_;refine au 35 ?_;refine TK.rta hret ?_;exact ⟨_,rfl,rfl⟩
theorem zbU {main T} (hT:zn tp main T) {gm} {n:Nat} (hn:n<256) :
  zq tp T gm 111 [.v (.int .u64 n)] [] (fun r K'=>∃ m:Int,r=intA m/\K'=[]):=by
 refine zm 8 hT Tryz.func111 fun Y hret=>?_;refine au 14212019023542 ?_;refine bD Z Z Z Z (zjZ hT hn) ?_;rintro r1 K2 ⟨m,rfl,rfl⟩;refine au 35 ?_;refine TK.rta hret ?_;exact ⟨_,rfl,rfl⟩
theorem zhe {main T} (hT:zn tp main T) {gm} {j n:Nat} {xs:List Int} {et:TypeId} {f:AV} {Kc:KV} {lt:Int->Int->Bool} (hn:xs.length=n) (h12:1<=n/\n<=12) (hg:∀ x∈xs,∀ y∈xs,CallFK tp T gm f [intA x,intA y] Kc (fun r K'=>(∃ c:Int,r=intA c/\decide (c<0)=lt x y)/\K'=Kc)) :
  zq tp T gm 166 [.sl j 0 n,intA 0,intA n,f] ((j,.cells (xs.map intA) et true)::Kc) (fun r K'=>K'=(j,.cells ((sortR lt xs).map intA) et true)::Kc):=by
 refine zm 53 hT Tryz.func166 fun Y hret=>?_;refine au 13035230142 ?_;refine bA [0,1,2,3,8] ?_;refine bE (fun n1 env K=>∃ (i:Nat),n1=n - i/\1<=i/\i<=n/\env=.sl j 0 n::intA 0::intA n::f::naL 4 (intA i::naL 44 [])/\K=(j,.cells ((sortN lt xs i++xs.drop i).map intA) et true)::Kc) (n - 1) ⟨1,rfl,mL _,h12.1,rfl,by rw [zfm oQ]⟩ fun n1 env K hI hnext=>?_;obtain ⟨i,rfl,hi1,hi,rfl,rfl⟩:=hI;refine bG nQ ?_;refine au 93711422 ?_;constructor<;>intro hc0
 ·have hil:i<n:=by simp at hc0; omega
  obtain ⟨x,hx⟩:∃ x,xs[i]? =some x:=⟨_,lA oQ⟩;have hSl:=vw (lt:=lt) xs i oQ;have hTl:(xs.drop (i+1)).length=n - (i+1):=by simp; omega
  have hxm:=lN hx;refine au 130351421302120 ?_;refine bA [0,1,2,3,8,9] ?_;refine bE (fun n1 env K=>∃ (p:Nat),n1=p/\p<=i/\insJ lt x (sortN lt xs i) p=insJ lt x (sortN lt xs i) (sortN lt xs i).length/\env=.sl j 0 n::intA 0::intA n::f::naL 4 (intA i::intA p::naL 43 [])/\K=(j,.cells ((dataM (sortN lt xs i) (xs.drop (i+1)) x p).map intA) et true)::Kc) i ⟨i,rfl,mL _,by rw [hSl],rfl,by have:=zea (sortN lt xs i) (xs.drop (i+1)) x; rw [hSl] at this; rw [this,<- zO hx]⟩ fun n1 env K hI hnext1=>?_;obtain ⟨p,hnp,hp,hins,rfl,rfl⟩:=hI;subst n1;have hdl:=zd9 (S:=sortN lt xs i) (T:=xs.drop (i+1)) (x:=x) (j:=p);refine bG nQ ?_;refine au 22 ?_;refine bL [0,1,2,3,4,5,6,7,8,9,10,11,12,13,14,15,16] ?_;refine ad [[1,9],[1,1],[4,18,19],[1,20]] ?_;refine TD.sp 21 (fun g4_4=>?_) (fun g4_4=>?_)
  ·have hp0:0<p:=by simp at g4_4; omega
   obtain ⟨q,rfl⟩:∃ q,p=q+1:=⟨p - 1,oQ⟩;obtain ⟨y,hy⟩:∃ y,(sortN lt xs i)[q]? =some y:=⟨_,lA oQ⟩;have hym:=ui i oQ y (lN hy);refine ad [[1,3,21],[1,0,21],[1,9,21],[2,21,23,24]] ?_;refine bT [21,25] Z (hq:=zk Z Z ze.h (mC _) (yr (i:=q+1) (za5 oQ) Z)) (h:=?_);refine ad [[1,0,21],[1,9,21],[9,21,28],[2,21,27,29]] ?_;refine bT [21,30] Z (hq:=zk Z Z ze.h (mC _) (yr (i:=q) ((vY oQ).trans hy) oQ)) (h:=?_);refine TD.callF' (pend':=[⟨12,[21,27,29],[]⟩,⟨11,[21,28],[]⟩,⟨10,[9,21],[]⟩,⟨9,[0,21],[]⟩,⟨7,[21,23,24],[]⟩,⟨6,[9,21],[]⟩,⟨5,[0,21],[]⟩,⟨2,[18,19],[]⟩,⟨1,[1],[]⟩,⟨0,[9],[]⟩]) [21,22,26,31] Z Z Z Z Z Z Z (hg x hxm y hym) (.right (.all _)) fun r1 K2 h3=>⟨?_,?_⟩
   ·rcases h3 with ⟨⟨c,rfl,hlc⟩,hK⟩
    all_goals (rw [hK]; simp)
   obtain ⟨⟨c,rfl,hlc⟩,hK⟩:=h3;try simp only [cA]
   refine bS (zr Z tQ) ?_;rw [hK];refine TD.perm (K':=(j,_)::Kc) (List.perm_append_singleton _ _) ?_;refine ad [[4,21,32],[7,21,33],[14]] ?_;refine au 9 ?_;constructor<;>intro hc1
   ·have hlt:lt x y=true:=by rw [<- hlc]; exact hc1
    have hsw:=zdc (T:=xs.drop (i+1)) (x:=x) hy;refine au 1302120 ?_;refine bL [0,1,5,6,7,8,9,10,11,12,13,14,15,2,3,4,16,17] ?_;refine ad [[1,0],[1,9],[1,0],[1,9],[9,40],[1,0],[1,9],[9,43],[2,42,44]] ?_;refine bT [45] Z (hq:=zk Z Z ze.h (mC _) (yr (i:=q) ((vY oQ).trans hy) oQ)) (h:=?_);refine ad [[1,0],[1,9],[2,47,48]] ?_;refine bT [49] Z (hq:=zk Z Z ze.h (mC _) (yr (i:=q+1) (za5 oQ) Z)) (h:=?_);refine ad [[2,37,38]] ?_;refine bR (pend':=[⟨12,[47,48],[]⟩,⟨11,[9],[]⟩,⟨10,[0],[]⟩,⟨4,[40],[]⟩,⟨3,[9],[]⟩,⟨2,[0],[]⟩]) [46,51] Z Z (zM Z Z ze.h Z Z mQ (uH (k:=q+1) oQ Z)) ?_;refine ad [[2,39,41]] ?_;refine bR (pend':=[]) [50,52] Z Z (zM Z Z ze.h Z Z mQ (uH (k:=q) (by rw [List.length_set]; omega) oQ)) ?_;refine ad [[14]] ?_;refine au 3524014140 ?_;refine bA [0,1,2,3,8,9] ?_;refine bC (((j,_)::Kc)) ?_;exact hnext1 _ _ _ oQ ⟨q,rfl,oQ,by rw [<- hins,zgk hy hlt],by rw [show ((q+1:Nat):Int) - 1=(q:Int) by omega]; rfl,by rw [hsw]⟩
   have hstop:=vZ (lt:=lt) (x:=x) (S:=sortN lt xs i) (T:=xs.drop (i+1)) (j:=q+1) oQ (fun i1 y1 h1 h2=>by obtain rfl:q=i1:=oQ; rw [hy] at h2; cases h2; rw [<- hlc]; exact hc1);rw [hins] at hstop;refine au 3523014140160 ?_;refine bA [0,1,2,3,8] ?_;refine bC (((j,_)::Kc)) ?_;exact hnext _ _ _ oQ ⟨i+1,rfl,oQ,oQ,rfl,by rw [kZ hx,<- hstop]⟩
  obtain rfl:p=0:=by simp at g4_4; omega
  have hstop:=vZ (lt:=lt) (x:=x) (S:=sortN lt xs i) (T:=xs.drop (i+1)) (j:=0) (mN _) (fun i y h=>by omega);rw [hins] at hstop;refine ad [[11,3,21],[11,0,21],[11,9,21],[11,21,23,24],[11,21,25],[11,0,21],[11,9,21],[11,21,28],[11,21,27,29],[11,21,30],[11,21,22,26,31],[11,21,32],[6,21,33],[14]] ?_;refine au 3523014140160190 ?_;refine bA [0,1,2,3,8] ?_;refine bC (((j,_)::Kc)) ?_;exact hnext _ _ _ oQ ⟨i+1,rfl,oQ,oQ,rfl,by rw [kZ hx,<- hstop]⟩
 obtain rfl:i=n:=by simp at hc0; omega
 have hfin:(j,AObj.cells ((sortN lt xs i++xs.drop i).map intA) et true)::Kc=(j,.cells ((sortN lt xs xs.length).map intA) et true)::Kc:=by rw [hn,List.drop_eq_nil_of_le oQ,lR]
 refine au 160 ?_;refine TK.rt0 hret (((j,_)::Kc)) ?_;rw [show sortR lt xs=sortN lt xs xs.length from rfl];exact hfin
theorem znl {main T} (hT:zn tp main T) {gm} {lim:Int} {j n:Nat} {xs:List Int} {et:TypeId} {f:AV} {Kc:KV} {lt:Int->Int->Bool} (hn:xs.length=n) (h12:1<=n/\n<=12) (hg:∀ x∈xs,∀ y∈xs,CallFK tp T gm f [intA x,intA y] Kc (fun r K'=>(∃ c:Int,r=intA c/\decide (c<0)=lt x y)/\K'=Kc)) :
  zq tp T gm 124 [.sl j 0 n,intA 0,intA n,intA lim,f] ((j,.cells (xs.map intA) et true)::Kc) (fun r K'=>K'=(j,.cells ((sortR lt xs).map intA) et true)::Kc):=by
 refine zm 148 hT Tryz.func124 fun Y hret=>?_;refine au 13035423542 ?_;refine TK.loop ?_;refine au 9371422352401142130 ?_;constructor<;>intro hc0
 ·refine au 111142 ?_;refine bD Z Z Z Z (zhe hT hn h12 hg) ?_ (hs:=(.all _));rintro r1 K2 rfl;refine au 0 ?_;refine bN (K':=(j,_)::Kc) (by rw [lR]) ?_;refine au 3 ?_;refine bB hret (((j,_)::Kc)) ?_;exact rfl
 simp at hc0; omega
theorem zfZ {main T} (hT:zn tp main T) {gm} {j n:Nat} {xs:List Int} {et:TypeId} {f:AV} {Kc:KV} {lt:Int->Int->Bool} (hn:xs.length=n) (h12:1<=n/\n<=12) (hg:∀ x∈xs,∀ y∈xs,CallFK tp T gm f [intA x,intA y] Kc (fun r K'=>(∃ c:Int,r=intA c/\decide (c<0)=lt x y)/\K'=Kc)) :
  zq tp T gm 104 [.sl j 0 n,f] ((j,.cells (xs.map intA) et true)::Kc) (fun r K'=>K'=(j,.cells ((sortR lt xs).map intA) et true)::Kc):=by
 refine zm 14 hT Tryz.func104 fun Y hret=>?_;refine au 111435280142 ?_;refine bH Z (yP Z Z Und.h Und.h (zdN (n:=n) oQ)) ?_;refine bD Z Z Z Z (zbU hT (n:=n) oQ) ?_ (hs:=(.none _));rintro r1 K2 ⟨m,rfl,rfl⟩;refine au 1 ?_;refine bD Z Z Z Z (znl hT hn h12 hg) ?_ (hs:=(.all _));rintro r4 K5 rfl;refine au 0 ?_;refine bN (K':=(j,_)::Kc) (by rw [lR]) ?_;refine au 3 ?_;refine TK.rt0 hret (((j,_)::Kc)) ?_;exact rfl
theorem zmv {main T} (hT:zn tp main T) {gm} {b:RBk} {s h e j jb jl:Nat} {l:List Int} {et:TypeId} {x y:Int} (hb:ROk b) (hl:CutsOk b l) (hx:0<=x/\x<l.length) (hy:0<=y/\y<l.length) :
  zq tp T gm 105 [intA x,intA y,.ptr jb 0,.ptr jl 0] [(jb,.cells (zD b s h e) 128 true),(jl,.cells [.sl j 0 l.length] 132 true),(s,zl b),(j,.cells (l.map intA) et false)] (fun r K'=>(∃ c:Int,r=intA c/\decide (c<0)=busyLt b l x y)/\K'=[(jb,.cells (zD b s h e) 128 true),(jl,.cells [.sl j 0 l.length] 132 true),(s,zl b),(j,.cells (l.map intA) et false)]):=by
 refine zm 38 hT Tryz.func105 fun Y hret=>?_;refine au 0 ?_;have hs5:=hb.sms.len;have hl5:=hl.len;obtain ⟨p,rfl⟩:∃ p:Nat,x=p:=⟨x.toNat,oQ⟩;obtain ⟨q,rfl⟩:∃ q:Nat,y=q:=⟨y.toNat,oQ⟩;have hp:p<l.length:=by omega
 have hq:q<l.length:=by omega
 have qp:=hl.lt hp;have fp:=hb.sms.fld _ qp.2.2;have qq:=hl.lt hq;have fq:=hb.sms.fld _ qq.2.2;refine au 223542 ?_;refine bL [0,1,2,3,4,5,6,7,8,9,20,10,11,12,13,14,15,16,17,18,19,21] ?_;refine ad [[3,2],[3,9],[10,10],[10,3],[1,0],[2,12,13]] ?_;refine bT [14] Z (hq:=zk Z Z ze.h (mC _) (yr (i:=p) (yb hp) Z)) (h:=?_);refine ad [[2,11,15],[3,16]] ?_;refine bT [17] Z (hq:=zk Z Z ze.h (mC _) (yd (c:=2) (sm_at b (i:=(zL l p).toNat) qp.2.2 oQ) dQ Z)) (h:=?_);refine ad [[3,2],[3,19],[10,20],[10,3],[1,1],[2,22,23]] ?_;refine bT [24] Z (hq:=zk Z Z ze.h (mC _) (yr (i:=q) (yb hq) Z)) (h:=?_);refine ad [[2,21,25],[3,26]] ?_;refine bT [27] Z (hq:=zk Z Z ze.h (mC _) (yd (c:=2) (sm_at b (i:=(zL l q).toNat) qq.2.2 oQ) dQ Z)) (h:=?_);refine TD.as (pend':=[⟨19,[27],[(_,_)]⟩,⟨18,[26],[]⟩,⟨17,[21,25],[]⟩,⟨16,[24],[(_,_)]⟩,⟨15,[22,23],[]⟩,⟨14,[1],[]⟩,⟨13,[3],[(_,_)]⟩,⟨12,[20],[(_,_)]⟩,⟨11,[19],[]⟩,⟨10,[2],[]⟩]) [18] Z Z (zy Z Z) ?_;refine ad [[13,28],[14]] ?_;refine au 9371142 ?_;constructor<;>intro hc0
 ·refine au 352401142 ?_;refine bB hret [(jb,_),(jl,_),(s,_),(j,_)] ?_;exact ⟨⟨_,rfl,by simp at hc0; unfold busyLt; rw [mZ,mZ]; unfold cutS; rw [decide_eq_false hc0,Bool.false_and,Bool.or_false]; exact decide_eq_decide.2 oQ⟩,rfl⟩
 refine au 352401142120 ?_;refine bB hret [(jb,_),(jl,_),(s,_),(j,_)] ?_;exact ⟨⟨_,rfl,by simp at hc0; simp only [busyLt,cutS,mZ,hc0,Int.lt_irrefl,decide_false,decide_true,Bool.true_and,Bool.false_or]; exact decide_eq_decide.2 oQ⟩,rfl⟩
def HangR (o:Option (List Int×Int)) (K:KV) (r:AV) (K':KV):Prop:=match o with
 | none=>r=.tup [.agg [.v (.slice none 0 0),intA 0],zw false]/\K'=K
 | some (w,q)=>∃ jw,r=.tup [.agg [.sl jw 0 w.length,intA q],zw true]/\K'=(jw,.cells (w.map intA) 3 false)::K
theorem zc4 {b:RBk} {l:List Int}:∀ (o:List Int) (z:Alloc),(o.foldl (allocM b l) z).steps.length=z.steps.length
 | [],_=>rfl
 | k::o,z=>by rw [List.foldl_cons,zc4 o]; simp [allocM]
theorem zmO {x y:Int} (hx:0<=x/\x<=65) (hy:0<=y/\y<=9):0<=x*y/\x*y<=585:=by
 refine ⟨Int.mul_nonneg hx.1 hy.1,?_⟩;have h1:x*y<=65*y:=Int.mul_le_mul_of_nonneg_right hx.2 hy.1;omega
section
variable {P:Program} {gm:Nat->Option Nat} {V:KV} {env:List AV} {o:Oper}
theorem zcm {x y:Operand} {t u:TypeId} {k k':IntKind} {m n:Int} (ho:o.op=.call { callee:=.builtin .min,args:=#[x,y],argTypes:=#[t,u] }) (hx:zo gm env x=some (.v (.int k m))) (hy:zo gm env y=some (.v (.int k' n))):Qk P gm env V o (.v (.int k (min m n))):=by
 rw [show min m n=if n<m then n else m by split <;> omega];exact q_min ho hx hy
theorem zcl {x y:Operand} {t u:TypeId} {k k':IntKind} {m n:Int} (ho:o.op=.call { callee:=.builtin .max,args:=#[x,y],argTypes:=#[t,u] }) (hx:zo gm env x=some (.v (.int k m))) (hy:zo gm env y=some (.v (.int k' n))):Qk P gm env V o (.v (.int k (max m n))):=by
 rw [show max m n=if m<n then n else m by split <;> omega];exact q_max ho hx hy
end
instance:BlOf tp 137 [(0,1),(1,1)]:={}
instance:zj tp 137 0 0 false 1:={}
instance:zj tp 137 1 1 false 1:={}
instance:ze tp 137 true 2:={}
instance:TyZ tp 137 [.slice none 0 0,.int .i64 0]:={}
instance:TyZA tp 137 [.v (.slice none 0 0),.v (.int .i64 0)]:={}
theorem vF {main T} (hT:zn tp main T) {gm} {b:RBk} {s h e j:Nat} {l:List Int} {et:TypeId} (hb:ROk b) (hl:CutsOk b l) {st:List Int} (hs:StOk b st) :
  zq tp T gm 64 [.agg (zD b s h e),.sl j 0 l.length,.agg (stC st)] [(s,zl b),(j,.cells (l.map intA) et false)] (fun r K'=>HangR (hangM b l st) [(s,zl b),(j,.cells (l.map intA) et false)] r K'):=by
 refine zm 110 hT Tryz.func64 fun Y hret=>?_;refine au 0 ?_;have hp0:=hl.pos;have hs5:=hb.sms.len;have hst:=hb.rnd.steps;have hl5:=hl.len;have q0:=hl.lt hl.pos;have f0:=hb.sms.fld _ q0.2.2;have hfr:=uS hb hs;refine au 21042 ?_;intro jb hjb;refine au 210 ?_;intro jl hjl;refine au 210 ?_;intro js hjs;refine au 220 ?_;intro jr hjr;refine au 69068042235 ?_;refine TK.clE Z Z Z Z (zgc hT hb hl) ?_;refine au 93300 ?_;constructor<;>intro hc0
 ·refine au 3517039042 ?_;refine bB hret [(s,_),(j,_)] ?_;rw [show hangM b l st=none by unfold hangM; rw [if_pos (by simpa using hc0)]];exact ⟨rfl,rfl⟩
 have hfit:fitsM b l=true:=by simpa using hc0
 refine au 28069042120 ?_;refine TK.newS Z Z Z (zgr Z Z Z ApOf.h TyZ.h hp0 oQ) (fun _=>zr rfl tQ) fun jw hjw=>?_;refine au 220390 ?_;intro j8 hj8;refine au 130312806904223170 ?_;refine bA [3,4,5,6,7,8,26,27,28] ?_;refine bC [(s,_),(j,_),(jb,_),(jl,_),(js,_),(jr,_),(jw,_),(j8,_)] ?_;refine bE (fun n env K=>∃ (i:Nat),n=l.length - i/\i<=l.length/\env=naL 3 (.ptr jb 0::.ptr jl 0::.ptr js 0::.ptr jr 0::zw false::.ptr j8 0::naL 17 (.sl j 0 l.length::intA l.length::intA i::naL 81 []))/\K=[(s,zl b),(j,.cells (l.map intA) et false),(jb,.cells (zD b s h e) 128 true),(jl,.cells [.sl j 0 l.length] 132 true),(js,.cells (stC st) 141 true),(jr,.cells [.v (.slice none 0 0),intA 0] 137 true),(jw,.cells ((mB l.length (0:Int)).map intA) 3 true),(j8,.cells [.sl jw 0 l.length,intA (spoilM b l i)] 137 true)]) l.length ⟨0,rfl,mN _,rfl,rfl⟩ fun n env K hI hnext=>?_;obtain ⟨i,rfl,hi,rfl,rfl⟩:=hI;have hsp:=zbN hb hl i hi;refine bG nQ ?_;refine au 923742 ?_;constructor<;>intro hc1
 ·have hil:i<l.length:=by simp at hc1; omega
  have qi:=hl.lt hil;have fi:=hb.sms.fld _ qi.2.2;refine au 360421302120 ?_;refine bH Z (zk Z Z ze.h mQ (yr (i:=i) (yb hil) Z)) ?_;refine au 35 ?_;refine bL [0,1,2,3,4,5,6,7,8,9,10,11] ?_;refine ad [[3,8],[10,32],[3,3],[3,34],[10,35],[1,10],[2,36,37],[3,38]] ?_;refine bT [39] Z (hq:=zk Z Z ze.h (mC _) (yd (c:=3) (sm_at b (i:=(zL l i).toNat) qi.2.2 oQ) dQ Z)) (h:=?_);refine ad [[8,33,40],[3,8]] ?_;refine bR (pend':=[]) [41,42] Z Z (zM Z Z ze.h Z Z mQ Z) ?_;refine ad [[14]] ?_;refine au 312304140 ?_;refine bA [3,4,5,6,7,8,26,27,28] ?_;refine bC [(s,_),(j,_),(jb,_),(jl,_),(js,_),(jr,_),(jw,_),(j8,_)] ?_;exact hnext _ _ _ oQ ⟨i+1,rfl,oQ,rfl,rfl⟩
 obtain rfl:i=l.length:=by simp at hc1; omega
 refine au 28069042160 ?_;refine TK.newS Z Z Z (zgr Z Z Z ApOf.h TyZ.h hp0 oQ) (fun _=>zr rfl tQ) fun jo hjo=>?_;refine au 13031280142235 ?_;refine bA [3,4,5,6,7,8,11,47,48,49] ?_;refine bE (fun n env K=>∃ (i:Nat),n=l.length - i/\i<=l.length/\env=naL 3 (.ptr jb 0::.ptr jl 0::.ptr js 0::.ptr jr 0::zw false::.ptr j8 0::naL 2 (.sl jo 0 l.length::naL 35 (.sl jo 0 l.length::intA l.length::intA i::naL 60 [])))/\K=[(jo,.cells ((idxM i++mB (l.length - i) 0).map intA) 3 true),(s,zl b),(j,.cells (l.map intA) et false),(jb,.cells (zD b s h e) 128 true),(jl,.cells [.sl j 0 l.length] 132 true),(js,.cells (stC st) 141 true),(jr,.cells [.v (.slice none 0 0),intA 0] 137 true),(jw,.cells ((mB l.length (0:Int)).map intA) 3 true),(j8,.cells [.sl jw 0 l.length,intA (spoilM b l l.length)] 137 true)]) l.length ⟨0,rfl,mN _,rfl,rfl⟩ fun n env K hI hnext=>?_;obtain ⟨i,rfl,hi,rfl,rfl⟩:=hI;refine bG nQ ?_;refine au 923742 ?_;constructor<;>intro hc2
 ·have hil:i<l.length:=by simp at hc2; omega
  refine au 3601114351421302120 ?_;refine TK.st Z Z Z (zM Z Z ze.h Z Z mQ (uH (k:=i) (by simp [idxM]; omega) Z)) uQ (putN Z) ?_;refine au 3123041403 ?_;refine bA [3,4,5,6,7,8,11,47,48,49] ?_;refine bC [(jo,_),(s,_),(j,_),(jb,_),(jl,_),(js,_),(jr,_),(jw,_),(j8,_)] ?_;exact hnext _ _ _ oQ ⟨i+1,rfl,oQ,rfl,by rw [<- zlt hil]⟩
 obtain rfl:i=l.length:=by simp at hc2; omega
 refine au 2160 ?_;have hidx:idxM l.length++mB (l.length - l.length) 0=idxM l.length:=by simp
 rw [hidx];refine au 32014 ?_;refine bD Z Z Z Z (zfZ hT (Kc:=[(jb,.cells (zD b s h e) 128 true),(jl,.cells [.sl j 0 l.length] 132 true),(s,zl b),(j,.cells (l.map intA) et false)]) (lt:=busyLt b l) (by simp [idxM]) ⟨hp0,oQ⟩ (fun x hx y hy=>yJ Cal.h (zmv hT hb hl (by have:=uD hx; omega) (by have:=uD hy; omega)))) ?_ (hs:=(.left (.rem (.tail (.tail .head)) (.rem (.tail (.tail .head)) (.left (.left (.none _)))))));rintro r4 K5 rfl;refine au 680680423 ?_;refine bD Z Z Z Z (zed hT hb hs) ?_ (hs:=(.none _));rintro r7 K8 ⟨rfl,rfl⟩;refine au 13031280142235 ?_;refine bA [3,4,5,6,7,8,13,63,64,65] ?_;refine bE (fun n env K=>∃ (i:Nat) (z:Alloc),n=l.length - i/\i<=l.length/\z=((ordM b l).take i).foldl (allocM b l) (alloc0 b l (yn b st))/\z.steps.length=l.length/\(0<=z.left/\z.left<=65)/\(0<=z.squares/\z.squares<=45+585*i)/\env=naL 3 (.ptr jb 0::.ptr jl 0::.ptr js 0::.ptr jr 0::zw false::.ptr j8 0::naL 4 (intA z.left::naL 49 (.sl jo 0 l.length::intA l.length::intA i::naL 44 [])))/\K=[(jo,.cells ((ordM b l).map intA) 3 true),(jb,.cells (zD b s h e) 128 true),(jl,.cells [.sl j 0 l.length] 132 true),(s,zl b),(j,.cells (l.map intA) et false),(js,.cells (stC st) 141 true),(jr,.cells [.v (.slice none 0 0),intA 0] 137 true),(jw,.cells (z.steps.map intA) 3 true),(j8,.cells [.sl jw 0 l.length,intA z.squares] 137 true)]) l.length ⟨0,alloc0 b l (yn b st),rfl,mN _,rfl,by simp [alloc0],hfr,by have:=zbN hb hl l.length (mL _); show 0<=spoilM b l l.length/\spoilM b l l.length<=_; omega,rfl,rfl⟩ fun n env K hI hnext=>?_;obtain ⟨i,z,rfl,hi,hz,hzl,hzf,hzs,rfl,rfl⟩:=hI;have hol:=zlW b l;refine bG nQ ?_;refine au 923742 ?_;constructor<;>intro hc3
 ·have hil:i<l.length:=by simp at hc3; omega
  obtain ⟨k,hk⟩:∃ k,(ordM b l)[i]? =some k:=⟨_,lA oQ⟩;have hkm:=ww (lN hk);have hkn:k.toNat<l.length:=by omega
  have qi:=hl.lt hkn;have fi:=hb.sms.fld _ qi.2.2;have hmul:0<=min z.left (sm b (zL l k.toNat).toNat).most*(sm b (zL l k.toNat).toNat).busy/\min z.left (sm b (zL l k.toNat).toNat).most*(sm b (zL l k.toNat).toNat).busy<=585:=zmO oQ oQ;refine au 360421302120 ?_;refine bH Z (zk Z Z ze.h mQ (yr (i:=i) hk Z)) ?_;refine au 235 ?_;refine bL [0,1,2,3,4,5,6,7,8,9,10,11,12] ?_;refine ad [[1,13],[3,3],[3,70],[10,71],[10,4],[1,15],[2,73,74]] ?_;refine bT [75] Z (hq:=zk Z Z ze.h (mC _) (yr (i:=k.toNat) (yb hkn) oQ)) (h:=?_);refine ad [[2,72,76],[3,77]] ?_;refine bT [78] Z (hq:=zk Z Z ze.h (mC _) (yd (c:=1) (sm_at b (i:=(zL l k.toNat).toNat) qi.2.2 oQ) dQ Z)) (h:=?_);refine bU [69,79] Z (zcm Z Z Z) ?_;refine ad [[13,80],[14]] ?_;refine au 3601169067042 ?_;refine TK.st Z Z Z (zM Z Z ze.h Z Z mQ (uH (k:=k.toNat) oQ oQ)) uQ (putN Z) ?_;refine au 23 ?_;refine bL [0,1,2,3,4,5,6,7,8,9,10,11,12,13,14,15,16] ?_;refine ad [[3,8],[10,86],[1,16],[3,3],[3,89],[10,90],[10,4],[1,15],[2,92,93]] ?_;refine bT [94] Z (hq:=zk Z Z ze.h (mC _) (yr (i:=k.toNat) (yb hkn) oQ)) (h:=?_);refine ad [[2,91,95],[3,96]] ?_;refine bT [97] Z (hq:=zk Z Z ze.h (mC _) (yd (c:=2) (sm_at b (i:=(zL l k.toNat).toNat) qi.2.2 oQ) dQ Z)) (h:=?_);refine bU [88,98] Z (q_mul Z Z Z oQ) ?_;refine ad [[8,87,99],[3,8]] ?_;refine bR (pend':=[]) [100,101] Z Z (zM Z Z ze.h Z Z mQ Z) ?_;refine ad [[14]] ?_;refine au 31230414035240114 ?_;refine bA [3,4,5,6,7,8,13,63,64,65] ?_;refine bC [(jo,_),(jb,_),(jl,_),(s,_),(j,_),(js,_),(jr,_),(jw,_),(j8,_)] ?_;exact hnext _ _ _ oQ ⟨i+1,allocM b l z k,rfl,oQ,by rw [yA hk,List.foldl_append,<- hz]; rfl,by simp [allocM,hzl],by show 0<=z.left - min z.left (sm b (zL l k.toNat).toNat).most/\z.left - min z.left (sm b (zL l k.toNat).toNat).most<=65; omega,by show 0<=z.squares+min z.left (sm b (zL l k.toNat).toNat).most*(sm b (zL l k.toNat).toNat).busy/\z.squares+min z.left (sm b (zL l k.toNat).toNat).most*(sm b (zL l k.toNat).toNat).busy<=45+585*((i+1:Nat):Int); omega,rfl,rfl⟩
 obtain rfl:i=l.length:=by simp at hc3; omega
 rw [List.take_of_length_le oQ] at hz;refine au 9371422160 ?_;constructor<;>intro hc4
 ·refine au 3517039042 ?_;refine bB hret [(s,_),(j,_)] ?_;rw [show hangM b l st=none by unfold hangM; rw [if_neg (by rw [hfit]; decide)]; unfold allocA; rw [<- hz]; exact if_pos (of_decide_eq_true hc4)];exact ⟨rfl,rfl⟩
 refine au 2120 ?_;refine TK.frz (j:=jw) ?_;refine au 351706804 ?_;refine bB hret [(jw,_),(s,_),(j,_)] ?_;rw [show hangM b l st=some (z.steps,z.squares) by unfold hangM; rw [if_neg (by rw [hfit]; decide)]; unfold allocA; rw [<- hz]; exact if_neg (of_decide_eq_false hc4)];exact ⟨jw,by rw [hzl]; rfl,rfl⟩
theorem st_at {s:List Int} {i:Nat} {n:Int} {e:TypeId} {rw':Bool} (h:i<5) (hn:n=(i:Int)):takeO (.cells (stC s) e rw') (0+n.toNat*1) 1=some [intA (s.getD i 0)]:=by
 subst hn;have:i=0\/i=1\/i=2\/i=3\/i=4:=by omega
 rcases this with rfl | rfl | rfl | rfl | rfl <;> rfl
theorem zhZ {c:List Int} {i k:Nat} (h:k<i):(c.take i).getD k 0=c.getD k 0:=by
 rw [lE,lE,List.getElem?_take,if_pos h]
theorem zny {c p:List Int} {m:Nat} (h5:c.length=5) (hp:p.length=m) (ht:c.take m=p) (hz:∀ k,m<=k->c.getD k 0=0):c.map intA=stC p:=by
 have key:∀ k,c.getD k 0=p.getD k 0:=fun k=>by
  by_cases h:k<m
  ·rw [<- ht,zhZ h]
  ·rw [hz k oQ,lE,List.getElem?_eq_none oQ]; rfl
 have e:c.map intA=stC c:=by
  rcases c with _ | ⟨a0,_ | ⟨a1,_ | ⟨a2,_ | ⟨a3,_ | ⟨a4,_ | ⟨a5,r⟩⟩⟩⟩⟩⟩ <;> simp at h5;rfl
 rw [e];unfold stC slotR;rw [key 0,key 1,key 2,key 3,key 4]
theorem zcd {xs:List RMeas} {i:Nat} {x:RMeas} {n:Int} {e:TypeId} {rw':Bool} (h:xs[i]? =some x) (hn:n=(i:Int)):takeO (.cells (xs.flatMap yk) e rw') (0+n.toNat*3) 3=some (yk x):=ky (c:=3) (fun _=>rfl) h hn dQ
theorem zjk {xs:List RMeas} {p:RMeas->Bool} {i:Nat} {x:RMeas} (h:xs[i]? =some x) (hn:(xs.take i).any p=false) (he:p x=false):(xs.take (i+1)).any p=false:=by
 rw [yA h,List.any_append,hn]; simp [he]
theorem zms {xs:List RMeas} {p:RMeas->Bool} {i:Nat} {x:RMeas} (h:xs[i]? =some x) (he:p x=true):xs.any p=true:=List.any_eq_true.2 ⟨x,lN h,he⟩
theorem ziO (b:RBk) (s:List Int):rightM b s = !(b.measures.any fun m => !decide (togM b s m.cloth.toNat m.many.toNat=m.wide)):=by
 unfold rightM
 induction b.measures with
 | nil=>rfl
 | cons x r ih=>rw [List.all_cons,List.any_cons,ih]; simp
theorem znd {main T} (hT:zn tp main T) {gm} {b:RBk} {s h e i:Nat} {st:List Int} (hb:ROk b) (hs:StOk b st) (hi:i<b.seams.length) :
  zq tp T gm 106 [.agg (zD b s h e),intA i,.agg (stC st)] [(s,zl b)] (fun r K'=>r=intA (nowM b st i)/\K'=[(s,zl b)]):=by
 refine zm 14 hT Tryz.func106 fun Y hret=>?_;refine au 0 ?_;have hs5:=hb.sms.len;have hw:=hb.wide hi;have hsi:=hs.bnd i hi;refine au 21042 ?_;intro jb hjb;refine au 210 ?_;intro js hjs;refine au 235 ?_;refine TK.dr [0,1,3,4,5,2,6,7] [0,1,2,3,4,5,6,7] ?_;refine ad [[12,3],[1,1],[1,1]] ?_;refine bU [5,10] Z (kF Z Z Z ArEl.h oQ oQ) ?_;refine bT [11] Z (hq:=zk Z Z ze.h (mC _) (st_at (i:=i) oQ Z)) (h:=?_);refine bQ (pend':=[⟨5,[11],[(_,_)]⟩,⟨4,[5,10],[]⟩,⟨3,[1],[]⟩]) [7,8] Z Z Z Z Z (zc0 hT (i:=i) hb.rnd hb.sms hi) (fun r1 K2 h3=>⟨?_,?_⟩)
 ·rcases h3 with ⟨rfl,rfl⟩
  all_goals simp
 obtain ⟨rfl,rfl⟩:=h3;try simp only [cA]
 refine bS tQ ?_;refine ad [[9,9,12],[13,13],[14]] ?_;refine au 0 ?_;refine bB hret [(s,_)] ?_;exact ⟨rfl,rfl⟩
theorem zi9 {main T} (hT:zn tp main T) {gm} {b:RBk} {s h e:Nat} {c k:Int} {st:List Int} (hb:ROk b) (hs:StOk b st) (hc:0<=c/\c<=5) (hk:0<=k/\k<=5) :
  zq tp T gm 66 [.agg (zD b s h e),intA c,intA k,.agg (stC st)] [(s,zl b)] (fun r K'=>r=intA (togM b st c.toNat k.toNat)/\K'=[(s,zl b)]):=by
 refine zm 30 hT Tryz.func66 fun Y hret=>?_;refine au 0 ?_;obtain ⟨p,rfl⟩:∃ p:Nat,c=p:=⟨c.toNat,oQ⟩;obtain ⟨q,rfl⟩:∃ q:Nat,k=q:=⟨k.toNat,oQ⟩;have hs5:=hb.sms.len;refine au 21042 ?_;intro jb hjb;refine au 210 ?_;intro js hjs;refine au 130311422354235 ?_;refine bA [1,4,7,9,11,12] ?_;refine bC [(s,_),(js,_),(jb,_)] ?_;refine bE (fun n env K=>∃ (i:Nat),n=q - i/\i<=q/\env=.any::intA p::naL 2 (.ptr jb 0::naL 2 (.ptr js 0::.any::intA (togM b st p i)::.any::intA q::intA i::naL 17 []))/\K=[(s,zl b),(js,.cells (stC st) 141 true),(jb,.cells (zD b s h e) 128 true)]) q ⟨0,rfl,mN _,rfl,rfl⟩ fun n env K hI hnext=>?_;obtain ⟨i,rfl,hi,rfl,rfl⟩:=hI;have htb:=zaY hb hs (c:=p) i;refine bG nQ ?_;refine au 923742 ?_;constructor<;>intro hc0
 ·have hil:i<q:=by simp at hc0; omega
  have hmod:(p+i) % b.seams.length<b.seams.length:=Nat.mod_lt _ oQ;have hcm:((p:Int)+(i:Int)) % (b.seams.length:Int)=(((p+i) % b.seams.length:Nat):Int):=by rw [Int.natCast_emod,Int.natCast_add]
  have hw:=hb.wide hmod;have hsi:=hs.bnd _ hmod;have hnow:nowM b st ((p+i) % b.seams.length)=wideM b ((p+i) % b.seams.length) - st.getD ((p+i) % b.seams.length) 0:=rfl;refine au 351421302120 ?_;refine bL [0,1,2,3,4,5,6,7,8,9,10,11,12,13] ?_;refine ad [[1,9],[12,4],[1,1],[1,10],[8,17,18],[3,4],[3,20],[10,21]] ?_;refine bU [22] Z (q_len Z Z Z Und.h) ?_;refine bU [19,23] Z (q_rem Z Z Z oQ oQ) ?_;rw [hcm];refine ad [[12,7]] ?_;refine bQ (pend':=[⟨8,[22],[]⟩,⟨7,[21],[(_,_)]⟩,⟨6,[20],[]⟩,⟨5,[4],[]⟩,⟨4,[17,18],[]⟩,⟨3,[10],[]⟩,⟨2,[1],[]⟩,⟨0,[9],[]⟩]) [16,24,25] Z Z Z Z Z (znd hT (i:=(p+i) % b.seams.length) hb hs hmod) (fun r1 K2 h3=>⟨?_,?_⟩)
  ·rcases h3 with ⟨rfl,rfl⟩
   all_goals simp
  obtain ⟨rfl,rfl⟩:=h3;try simp only [cA]
  refine bS tQ ?_;refine ad [[8,15,26],[13,27],[14]] ?_;refine au 312304140 ?_;refine bA [1,4,7,9,11,12] ?_;refine bC [(s,_),(js,_),(jb,_)] ?_;exact hnext _ _ _ oQ ⟨i+1,rfl,oQ,rfl,rfl⟩
 obtain rfl:i=q:=by simp at hc0; omega
 refine au 35142160 ?_;refine bB hret [(s,_)] ?_;exact ⟨rfl,rfl⟩
theorem ziM {main T} (hT:zn tp main T) {gm} {b:RBk} {s h e jb js:Nat} {m:RMeas} {st:List Int} (hb:ROk b) (hs:StOk b st) (hm:m∈b.measures) :
  zq tp T gm 126 [.agg (yk m),.ptr jb 0,.ptr js 0] [(jb,.cells (zD b s h e) 128 true),(js,.cells (stC st) 141 true),(s,zl b)] (fun r K'=>r=zw (!decide (togM b st m.cloth.toNat m.many.toNat=m.wide))/\K'=[(jb,.cells (zD b s h e) 128 true),(js,.cells (stC st) 141 true),(s,zl b)]):=by
 refine zm 15 hT Tryz.func126 fun Y hret=>?_;refine au 0 ?_;have hs5:=hb.sms.len;have hmm:=hb.mes.bnd m hm;refine au 21042 ?_;intro jm hjm;refine au 235 ?_;refine TK.dr [0,1,2,3,4,5,7,8,6,9,10] [0,1,2,3,4,5,6,7,8,9,10] ?_;refine ad [[12,1],[3,3],[10,6],[3,3],[10,8],[12,2],[3,3],[10,12]] ?_;refine bQ (pend':=[⟨8,[12],[(_,_)]⟩,⟨7,[3],[]⟩,⟨3,[3],[]⟩,⟨1,[3],[]⟩]) [5,7,9,10] Z Z Z Z Z (zi9 hT (c:=m.cloth) (k:=m.many) hb hs oQ oQ) (fun r1 K2 h3=>⟨?_,?_⟩)
 ·rcases h3 with ⟨rfl,rfl⟩
  all_goals simp
 obtain ⟨rfl,rfl⟩:=h3;try simp only [cA]
 refine bS tQ ?_;refine ad [[4,11,13],[13,14],[14]] ?_;refine au 0 ?_;refine bB hret [(jb,_),(js,_),(s,_)] ?_;exact ⟨by simp [bne]; rfl,rfl⟩
theorem zh5 {main T} (hT:zn tp main T) {gm} {j:Nat} {xs:List RMeas} {et:TypeId} {f:AV} {Kc:KV} {p:RMeas->Bool} (hp:∀ x∈xs,CallFK tp T gm f [.agg (yk x)] Kc (fun r K'=>r=zw (p x)/\K'=Kc)) (hl:xs.length<=1000) :
  zq tp T gm 174 [.sl j 0 xs.length,f] ((j,.cells (xs.flatMap yk) et false)::Kc) (fun r K'=>(∃ n:Int,r=intA n/\decide (n>=0)=xs.any p)/\K'=(j,.cells (xs.flatMap yk) et false)::Kc):=by
 refine zm 19 hT Tryz.func174 fun Y hret=>?_;refine au 1303128014223542 ?_;refine bA [0,1,7,8] ?_;refine bE (fun n env K=>∃ (i:Nat),n=xs.length - i/\i<=xs.length/\(xs.take i).any p=false/\env=.sl j 0 xs.length::f::naL 5 (intA xs.length::intA i::naL 10 [])/\K=((j,.cells (xs.flatMap yk) et false)::Kc)) xs.length ⟨0,rfl,mN _,by simp,rfl,rfl⟩ fun n env K hI hnext=>?_;obtain ⟨i,rfl,hi,hn,rfl,rfl⟩:=hI;refine bG nQ ?_;refine au 923742 ?_;refine ⟨fun hc=>?_,fun hc=>?_⟩
 ·simp only [decide_eq_true_eq] at hc;have hil:i<xs.length:=by omega
  obtain ⟨x,hx⟩:∃ x,xs[i]? =some x:=⟨_,lA hil⟩;refine au 36011142351421302120 ?_;refine bH Z (zK Z Z ze.h mQ (zcd (i:=i) hx Z)) ?_;refine TK.callF' Z Z Z Z Z (hp x (lN hx)) (.right (.all _)) fun r1 K2 h3=>?_;obtain ⟨rfl,hK⟩:=h3;refine au 0 ?_;rw [hK];refine bN (K':=(j,_)::Kc) (List.perm_append_singleton _ _) ?_;refine au 93 ?_;constructor<;>intro hc1
  ·refine au 35142 ?_;refine bB hret (((j,_)::Kc)) ?_;exact ⟨⟨i,rfl,by rw [decide_eq_true (Int.natCast_nonneg i),zms hx hc1]⟩,rfl⟩
  refine au 312304140120 ?_;refine bA [0,1,7,8] ?_;refine bC (((j,_)::Kc)) ?_;exact hnext _ _ _ oQ ⟨i+1,rfl,oQ,zjk hx hn hc1,rfl,rfl⟩
 simp only [decide_eq_false_iff_not] at hc;obtain rfl:i=xs.length:=by omega
 refine au 3542160 ?_;refine bB hret (((j,_)::Kc)) ?_;rw [lW] at hn;exact ⟨⟨-1,rfl,by rw [hn]; rfl⟩,rfl⟩
theorem zd8 {main T} (hT:zn tp main T) {gm} {j:Nat} {xs:List RMeas} {et:TypeId} {f:AV} {Kc:KV} {p:RMeas->Bool} (hp:∀ x∈xs,CallFK tp T gm f [.agg (yk x)] Kc (fun r K'=>r=zw (p x)/\K'=Kc)) (hl:xs.length<=1000) :
  zq tp T gm 125 [.sl j 0 xs.length,f] ((j,.cells (xs.flatMap yk) et false)::Kc) (fun r K'=>r=zw (xs.any p)/\K'=(j,.cells (xs.flatMap yk) et false)::Kc):=by
 refine zm 9 hT Tryz.func125 fun Y hret=>?_;refine au 11423542 ?_;refine bD Z Z Z Z (zh5 hT hp hl) ?_ (hs:=(.all _));rintro r1 K2 ⟨⟨m,rfl,hm⟩,rfl⟩;refine au 0 ?_;refine bN (K':=(j,_)::Kc) (by rw [lR]) ?_;refine au 357 ?_;refine bB hret (((j,_)::Kc)) ?_;exact ⟨by rw [<- hm],rfl⟩
theorem zkz {main T} (hT:zn tp main T) {gm} {b:RBk} {s h e:Nat} {st:List Int} (hb:ROk b) (hs:StOk b st) :
  zq tp T gm 108 [.agg (zD b s h e),.agg (stC st)] [(s,zl b),(e,zt b)] (fun r K'=>r=zw (rightM b st)/\K'=[(s,zl b),(e,zt b)]):=by
 refine zm 11 hT Tryz.func108 fun Y hret=>?_;refine au 21042 ?_;intro jb hjb;refine au 210 ?_;intro js hjs;refine au 3206906706704235 ?_;refine bD Z Z Z Z (zd8 hT (p:=fun m => !decide (togM b st m.cloth.toNat m.many.toNat=m.wide)) (Kc:=[(jb,.cells (zD b s h e) 128 true),(js,.cells (stC st) 141 true),(s,zl b)]) (fun x hx=>yJ Cal.h (ziM hT hb hs hx)) (by have:=hb.mes.len; omega)) ?_ (hs:=(.rem (.tail (.tail (.tail .head))) (.rem (.tail .head) (.rem .head (.rem .head (.none _))))));rintro r1 K2 ⟨rfl,rfl⟩;refine au 35300 ?_;refine bB hret [(s,_),(e,_)] ?_;exact ⟨by rw [ziO],rfl⟩
def YieldR (P:Program) (T:Goroutine->Hp->Prop) (gm:Nat->Option Nat) (b:RBk) (s h e l:Nat) (J:List (List Int)->KV->Prop) (D:KV->Prop) (tot:List (List Int)):Prop:=∀ (pre:List (List Int)) (S:List Int) (K1:KV),pre++[S] <+: tot->J pre K1 ->
 CallFK P T gm (.yl l) [.agg (stC S)] ((s,zl b)::(h,zF b)::(e,zt b)::K1) fun r K'=>∃ K2,K'=(s,zl b)::(h,zF b)::(e,zt b)::K2/\((r=zw true/\J (pre++[S]) K2)\/(r=zw false/\D K2))
structure ArrOk (b:RBk) (c p:List Int):Prop where
 len:c.length=5
 tk:c.take p.length=p
 z:∀ k,b.shrinks.length<=k->c.getD k 0=0
theorem zk2 {b:RBk} {c p:List Int} {n:Int} (h:ArrOk b c p) (hp:p.length<b.shrinks.length) (h5:b.shrinks.length<=5):ArrOk b (c.set p.length n) (p++[n]):=by
 have hl:=h.len;refine ⟨by simp [hl],?_,fun k hk=>?_⟩
 ·rw [lF,List.length_singleton,List.take_add_one,List.getElem?_set_self oQ,List.take_set_of_le (mL _),h.tk];rfl
 ·rw [lE,List.getElem?_set_ne oQ,<- lE];exact h.z k hk
theorem zdY {b:RBk} {c p:List Int} {n:Int} (h:ArrOk b c (p++[n])):ArrOk b c p:=⟨h.len,by
 have:=congrArg (List.take p.length) h.tk;rw [List.take_take,lF,List.take_append_of_le_length (mL _),lW] at this;rw [Nat.min_eq_left sQ] at this;exact this,h.z⟩
theorem zkc (n hi:Int) (h:n<=hi):numsF n (hi+1 - n).toNat=n::numsF (n+1) (hi+1 - (n+1)).toNat:=by
 rw [show (hi+1 - n).toNat=(hi+1 - (n+1)).toNat+1 by omega]; rfl
theorem zka (n hi:Int) (h:¬ n<=hi):numsF n (hi+1 - n).toNat=[]:=by
 rw [show (hi+1 - n).toNat=0 by omega]; rfl
theorem zeO {f:Int->List (List Int)} {n hi:Int} {pre x:List (List Int)} (hn:n<=hi) (h:pre++(numsF n (hi+1 - n).toNat).flatMap f=x):(pre++f n)++(numsF (n+1) (hi+1 - (n+1)).toNat).flatMap f=x:=by
 rw [<- h,zkc n hi hn,List.flatMap_cons,List.append_assoc]
theorem znm (a b c d f g h:Nat×AObj) {R:KV}:([f,h]++a::b::c::d::g::R).Perm (a::b::c::d::f::g::h::R):=by
 have q1:([f,h]++a::b::c::d::g::R).Perm (a::b::c::d::g::R++[f,h]):=lH;have q2:((a::b::c::d::g::R)++[f,h]).Perm (a::b::c::d::([f,g,h]++R)):=by
  have q3:((g::R)++[f,h]).Perm ([f,g,h]++R):=by
   have q4:((g::R)++[f,h]).Perm (g::([f,h]++R)):=List.Perm.cons _ lH;exact q4.trans (List.Perm.swap _ _ _)
  exact (((q3.cons d).cons c).cons b).cons a
 exact q1.trans q2
theorem znn {a b c d:Nat×AObj} {R:KV}:(d::c::b::a::R).Perm (a::c::b::d::R):=by
 have q1:(d::c::b::a::R).Perm (c::b::a::d::R):=(List.perm_middle (l₁:=[c,b,a])).symm;have q2:(c::b::a::d::R).Perm (a::c::b::d::R):=List.perm_middle (l₁:=[c,b]);exact q1.trans q2
instance:ze tp 114 false 1:={}
instance:ze tp 195 false 1:={}
instance:TyZA tp 114 [.v (.nilFunc)]:={}
theorem zlP {main T} (hT:zn tp main T) {gm} {b:RBk} {s h e l jb js jy jn:Nat} (hb:ROk b) {J:List (List Int)->KV->Prop} {D:KV->Prop} {tot:List (List Int)} (hy:YieldR tp T gm b s h e l J D tot) :
  ∀ (m:Nat) (p c:List Int) (pre:List (List Int)) (K1:KV),b.shrinks.length - p.length=m->ArrOk b c p->PreB b p->pre++fromM b p (b.shrinks.drop p.length) <+: tot->J pre K1 ->
  zq tp T gm 107 [intA p.length,.ptr jb 0,.ptr js 0,.ptr jy 0,.ptr jn 0] ((jb,.cells (zD b s h e) 128 true)::(js,.cells (c.map intA) 141 true)::(jy,.cells [.yl l] 195 true)::(jn,.cells [.fn 107 [] [.ptr jb 0,.ptr js 0,.ptr jy 0,.ptr jn 0]] 114 true)::(s,zl b)::(h,zF b)::(e,zt b)::K1) (fun r K'=>∃ (c':List Int) (K2:KV),ArrOk b c' p/\K'=(jb,.cells (zD b s h e) 128 true)::(js,.cells (c'.map intA) 141 true)::(jy,.cells [.yl l] 195 true)::(jn,.cells [.fn 107 [] [.ptr jb 0,.ptr js 0,.ptr jy 0,.ptr jn 0]] 114 true)::(s,zl b)::(h,zF b)::(e,zt b)::K2/\((r=zw true/\J (pre++fromM b p (b.shrinks.drop p.length)) K2)\/(r=zw false/\D K2))):=by
 refine fun m=>Nat.strongRecOn m fun m ih=>?_;intro p c pre K1 hm hc hp hpre hJ;refine zm 49 hT Tryz.func107 fun Y hret=>?_;have hcl:=hc.len;have hle:=hp.1;have hsl:=hb.cls.len;have hs5:=hb.sms.len;refine au 93728069067067014223542 ?_;constructor<;>intro hc0
 ·have hpl:p.length=b.shrinks.length:=by simp at hc0; omega
  have hcp:c.map intA=stC p:=zny hcl hpl (by rw [<- hpl]; exact hc.tk) hc.z;rw [hcp];have hdn:b.shrinks.drop p.length=[]:=List.drop_eq_nil_of_le oQ;have hst:StOk b p:=zes hb ⟨hpl,fun i hi=>hp.2 i oQ⟩;refine au 68068042 ?_;refine bD Z Z Z Z (zkz hT hb hst) ?_ (hs:=(.right (.right (.right (.right (.left (.right (.left (.none _)))))))));rintro r1 K2 ⟨rfl,rfl⟩;refine au 0 ?_;refine bN (K':=(jb,_)::(js,_)::(jy,_)::(jn,_)::(s,_)::(h,_)::(e,_)::K1) (znm _ _ _ _ _ _ _) ?_;refine au 1300 ?_;refine bF 18 (fun g2_5=>?_) (fun g2_5=>?_)
  ·have hfr:fromM b p (b.shrinks.drop p.length)=[]:=by rw [hdn]; unfold fromM; rw [if_neg (by simpa using g2_5)]
   refine au 35260888 ?_;refine bB hret (_) ?_ (hs:=(.all _));exact ⟨c,K1,hc,by rw [hcp],.inl ⟨rfl,by rw [hfr]; simpa using hJ⟩⟩
  have hfr:fromM b p (b.shrinks.drop p.length)=[p]:=by rw [hdn]; unfold fromM; rw [if_pos (by simpa using g2_5)]
  refine au 680690 ?_;refine TK.callF' Z Z Z Z Z (hy pre p K1 (by rw [<- hfr]; exact hpre) hJ) (.right (.right (.right (.right (.all _))))) fun r4 K5 h6=>?_;rcases h6 with ⟨K2,rfl,⟨rfl,hJ2⟩ | ⟨rfl,hD⟩⟩
  ·refine au 0 ?_;refine bN (K':=(jb,_)::(js,_)::(jy,_)::(jn,_)::(s,_)::(h,_)::(e,_)::K2) (lH (l₁:=(s,_)::(h,_)::(e,_)::K2)) ?_;refine au 35250 ?_;refine bB hret (_) ?_ (hs:=(.all _));exact ⟨c,K2,hc,by rw [hcp],.inl ⟨rfl,by rw [hfr]; exact hJ2⟩⟩
  ·refine au 0 ?_;refine bN (K':=(jb,_)::(js,_)::(jy,_)::(jn,_)::(s,_)::(h,_)::(e,_)::K2) (lH (l₁:=(s,_)::(h,_)::(e,_)::K2)) ?_;refine au 35250 ?_;refine bB hret (_) ?_ (hs:=(.all _));exact ⟨c,K2,hc,by rw [hcp],.inr ⟨rfl,hD⟩⟩
 have hlt:p.length<b.shrinks.length:=by simp at hc0; omega
 have hbd:=hb.cls.bnd p.length oQ;have hdc:b.shrinks.drop p.length=bd b p.length::b.shrinks.drop (p.length+1):=zO (kA hlt);have hfr:fromM b p (b.shrinks.drop p.length)=(numsF (bd b p.length).low ((bd b p.length).high+1 - (bd b p.length).low).toNat).flatMap fun n=>fromM b (p++[n]) (b.shrinks.drop (p.length+1)):=by rw [hdc]; rfl
 refine au 6703601690670670422120 ?_;refine bH Z (zk Z Z ze.h mQ (yd (c:=0) (bd_at b hlt Z) dQ Z)) ?_;refine au 13035 ?_;refine bA [0,1,2,3,4,6,7] ?_;refine bE (fun n1 env K=>∃ (n:Int) (c1:List Int) (pre1:List (List Int)) (K2:KV),n1=((bd b p.length).high+1 - n).toNat/\((bd b p.length).low<=n/\n<=(bd b p.length).high+1)/\ArrOk b c1 p/\J pre1 K2/\pre1++(numsF n ((bd b p.length).high+1 - n).toNat).flatMap (fun n=>fromM b (p++[n]) (b.shrinks.drop (p.length+1)))=pre++fromM b p (b.shrinks.drop p.length)/\env=intA p.length::.ptr jb 0::.ptr js 0::.ptr jy 0::.ptr jn 0::.any::zw false::intA n::naL 41 []/\K=(jb,.cells (zD b s h e) 128 true)::(js,.cells (c1.map intA) 141 true)::(jy,.cells [.yl l] 195 true)::(jn,.cells [.fn 107 [] [.ptr jb 0,.ptr js 0,.ptr jy 0,.ptr jn 0]] 114 true)::(s,zl b)::(h,zF b)::(e,zt b)::K2) _ ⟨(bd b p.length).low,c,pre,K1,rfl,oQ,hc,hJ,by rw [hfr],rfl,rfl⟩ fun n1 env K hI hnext=>?_;obtain ⟨n,c1,pre1,K2,rfl,hn,hc1a,hJ1,hEq,rfl,rfl⟩:=hI;have hc1l:=hc1a.len;refine bG nQ ?_;refine au 67036016906706701422 ?_;refine bH Z (zk Z Z ze.h mQ (yd (c:=1) (bd_at b hlt Z) dQ Z)) ?_;refine au 937 ?_;constructor<;>intro hc1
 ·have hnh:n<=(bd b p.length).high:=of_decide_eq_true hc1;refine au 11421302120 ?_;refine bH Z (kF Z Z Z ArEl.h oQ oQ) ?_;refine TK.st Z Z Z (zM Z Z ze.h Z Z mQ (uH (k:=p.length) oQ Z)) uQ (putN Z) ?_;refine au 2301690423 ?_;refine bD Z Z Z Z ((by have:=ih (b.shrinks.length - (p.length+1)) oQ (p++[n]) (c1.set p.length n) pre1 K2 sQ (zk2 hc1a hlt oQ) (zbG hp hlt hn.1 hnh) (List.IsPrefix.trans ⟨_,by rw [lF]; exact zeO hnh hEq⟩ hpre) hJ1; rw [lF] at this; exact this)) ?_ (hs:=(.all _));rintro r7 K8 h9;rcases h9 with ⟨c2,K3,hc2,rfl,⟨rfl,hJ3⟩ | ⟨rfl,hD⟩⟩
  ·refine au 0 ?_;refine bN (K':=(jb,.cells (zD b s h e) 128 true)::(js,.cells (c2.map intA) 141 true)::(jy,.cells [.yl l] 195 true)::(jn,.cells [.fn 107 [] [.ptr jb 0,.ptr js 0,.ptr jy 0,.ptr jn 0]] 114 true)::(s,zl b)::(h,zF b)::(e,zt b)::K3) (by rw [lR]) ?_;refine au 35230141401201903300 ?_;refine bA [0,1,2,3,4,6,7] ?_;exact hnext _ _ _ oQ ⟨n+1,c2,_,K3,rfl,oQ,zdY hc2,hJ3,zeO hnh hEq,rfl,rfl⟩
  ·refine au 0 ?_;refine bN (K':=(jb,.cells (zD b s h e) 128 true)::(js,.cells (c2.map intA) 141 true)::(jy,.cells [.yl l] 195 true)::(jn,.cells [.fn 107 [] [.ptr jb 0,.ptr js 0,.ptr jy 0,.ptr jn 0]] 114 true)::(s,zl b)::(h,zF b)::(e,zt b)::K3) (by rw [lR]) ?_;refine au 35421803300 ?_;refine bB hret (_) ?_ (hs:=(.all _));exact ⟨c2,K3,zdY hc2,rfl,.inr ⟨rfl,hD⟩⟩
 refine au 3542160 ?_;refine bB hret (_) ?_ (hs:=(.all _));exact ⟨c1,K2,hc1a,rfl,.inl ⟨rfl,by rw [<- hEq,zka _ _ (of_decide_eq_false hc1)]; simpa using hJ1⟩⟩
theorem zi4 {main T} (hT:zn tp main T) {gm} {b:RBk} {s h e l:Nat} (hb:ROk b) {J:List (List Int)->KV->Prop} {D:KV->Prop} {K1:KV} (hy:YieldR tp T gm b s h e l J D (zh b)) (hJ:J [] K1) :
  zq tp T gm 67 [.agg (zD b s h e),.yl l] ((s,zl b)::(h,zF b)::(e,zt b)::K1) (fun _ K'=>∃ K2,K'=(s,zl b)::(h,zF b)::(e,zt b)::K2/\(J (zh b) K2\/D K2)):=by
 refine zm 9 hT Tryz.func67 fun Y hret=>?_;refine au 0 ?_;have hs5:=hb.sms.len;have hsl:=hb.cls.len;refine au 21042 ?_;intro jb hjb;refine au 210 ?_;intro jy hjy;refine au 220423 ?_;intro js hjs;refine au 220423 ?_;intro jn hjn;refine au 3170320423 ?_;refine bN (K':=(jb,.cells (zD b s h e) 128 true)::(js,.cells ([0,0,0,0,0].map intA) 141 true)::(jy,.cells [.yl l] 195 true)::(jn,.cells [.fn 107 [] [.ptr jb 0,.ptr js 0,.ptr jy 0,.ptr jn 0]] 114 true)::(s,zl b)::(h,zF b)::(e,zt b)::K1) znn ?_;refine au 6904 ?_;refine bD Z Z Z Z (zlP hT hb hy _ [] [0,0,0,0,0] [] K1 Z ⟨rfl,rfl,fun k hk=>by rw [lE]; rcases k with _ | _ | _ | _ | _ | k <;> rfl⟩ (zcN b) (List.prefix_refl _) hJ) ?_ (hs:=(.all _));rintro r1 K2 h3;rcases h3 with ⟨c2,K2,hc2,rfl,⟨rfl,hJ2⟩ | ⟨rfl,hD⟩⟩
 ·refine au 0 ?_;refine bN (K':=(jb,.cells (zD b s h e) 128 true)::(js,.cells (c2.map intA) 141 true)::(jy,.cells [.yl l] 195 true)::(jn,.cells [.fn 107 [] [.ptr jb 0,.ptr js 0,.ptr jy 0,.ptr jn 0]] 114 true)::(s,zl b)::(h,zF b)::(e,zt b)::K2) (by rw [lR]) ?_;refine au 3 ?_;refine TK.rt0 hret (_) ?_ (hs:=(.right (.right (.right (.right (.all _))))));exact ⟨_,rfl,.inl hJ2⟩
 ·refine au 0 ?_;refine bN (K':=(jb,.cells (zD b s h e) 128 true)::(js,.cells (c2.map intA) 141 true)::(jy,.cells [.yl l] 195 true)::(jn,.cells [.fn 107 [] [.ptr jb 0,.ptr js 0,.ptr jy 0,.ptr jn 0]] 114 true)::(s,zl b)::(h,zF b)::(e,zt b)::K2) (by rw [lR]) ?_;refine au 3 ?_;refine TK.rt0 hret (_) ?_ (hs:=(.right (.right (.right (.right (.all _))))));exact ⟨_,rfl,.inr hD⟩
theorem zeP (a b c d:Nat×AObj) {R:KV}:(a::b::c::d::R).Perm (b::c::d::a::R):=(List.perm_middle (l₁:=[b,c,d])).symm
theorem perm_4' (a b c d:Nat×AObj) {R:KV}:(b::c::d::a::R).Perm (a::b::c::d::R):=List.perm_middle (l₁:=[b,c,d])
theorem Kstep.perm {K K' K'':KV} {A A':List AObj} (h:Kstep K A K' A') (hp:K'.Perm K''):Kstep K A K'' A' :=
 ⟨h.view.sub fun x hx=>hp.symm.subset hx,(zU hp).nodup_iff.1 h.nd,fun i hi=>h.own i ((zU hp).symm.subset hi),h.kept,h.len⟩
theorem CallFK.perm {P:Program} {T:Goroutine->Hp->Prop} {gm:Nat->Option Nat} {yv:AV} {args:List AV} {K:KV} {Post Post':AV->KV->Prop} (h:CallFK P T gm yv args K Post) (hp:∀ r K',Post r K'->∃ K'',K'.Perm K''/\Post' r K''):CallFK P T gm yv args K Post' :=
 fun A hv hn=>(h A hv hn).mono fun r A' ⟨K',h1,h2⟩=>let ⟨K'',h3,h4⟩:=hp r K' h2; ⟨K'',h1.perm h3,h4⟩
section
variable {main:Bool} {T:Goroutine->Hp->Prop} {gm:Nat->Option Nat} {Y:KX tp gm T} {ds:List Nat} {k:List Item} {env:List AV} {K K0 R:KV}
theorem TK.rangeStates (hT:zn tp main T) {fo:Operand} {ps:Array Tmp} {x y:Code} {b:RBk} {s h e:Nat} (hb:ROk b) {J:List (List Int)->KV->Prop} {D:Code->KV->Prop} (hps:ps.size=1) (hro:Y.X.ro=none) (hf:zo gm env fo=some (.fn 67 [.agg (zD b s h e)] [])) (hs:Split K ((s,zl b)::(h,zF b)::(e,zt b)::K0) R) (hJ0:J [] K0)
  (round:∀ (Y':KX tp gm T) (l:Nat) (lo lb:AObj) (pre:List (List Int)) (S:List Int) (K1:KV),(∀ ds k env' K K',Upd K l lo l lb K'->TK Y' ds k env' K'->TK Y' ds (.beginRound::k) env' K) ->
   (∀ env' K' K2 D',Split K' ((l,lb)::(s,zl b)::(h,zF b)::(e,zt b)::K2) D'->J (pre++[S]) K2->TK Y' [] [] env' K') ->
   (∀ c k env' K' K2 D',Leave (some c) k->Split K' ((l,lb)::(s,zl b)::(h,zF b)::(e,zt b)::K2) D'->D c K2->TK Y' [] k env' K') ->
   pre++[S] <+: zh b->J pre K1->TK Y' [] [.code x,.beginRound,.code y] (putAll env (ps.toList.zip [.agg (stC S)])) ((l,lo)::(s,zl b)::(h,zF b)::(e,zt b)::K1))
  (hend:∀ d K2,J (zh b) K2->TK Y (d::ds) k env ((d,.raw (.deferred (some [])))::(s,zl b)::(h,zF b)::(e,zt b)::(K2++R)))
  (hstop:∀ d c K2,D c K2->TK Y (d::ds) (.code c::k) env ((d,.raw (.deferred (some [])))::(s,zl b)::(h,zF b)::(e,zt b)::(K2++R))):TK Y ds (.code (.rangeFunc fo ps x y)::k) env K:=by
 refine TK.rangeFunc (Post:=fun l _ K'=>∃ st pj K2,K'=(l,.loop Y.X.f env ps x y st pj)::(s,zl b)::(h,zF b)::(e,zt b)::K2/\((st=.ready/\pj=none/\J (zh b) K2)\/∃ c,st=.done/\pj=some c/\D c K2))
  (Q:=fun pj K'=>∃ K2,K'=(s,zl b)::(h,zF b)::(e,zt b)::K2/\((pj=none/\J (zh b) K2)\/∃ c,pj=some c/\D c K2)) hro hf Cal.h hs (fun l hl=>?_) ?_ ?_
 ·intro A hv hn;have hp:((l,AObj.loop Y.X.f env ps x y .ready none)::(s,zl b)::(h,zF b)::(e,zt b)::K0).Perm ((s,zl b)::(h,zF b)::(e,zt b)::(l,.loop Y.X.f env ps x y .ready none)::K0):=zeP _ _ _ _;refine CallT.mono (zi4 hT hb (l:=l) (J:=fun pre K=>∃ K3,K=(l,.loop Y.X.f env ps x y .ready none)::K3/\J pre K3) (D:=fun K=>∃ c K3,K=(l,.loop Y.X.f env ps x y .done (some c))::K3/\D c K3) ?_ ⟨K0,rfl,hJ0⟩ A (hv.sub fun x hx=>hp.symm.subset hx) ((zU hp).nodup_iff.1 hn)) ?_
  ·rintro pre S K1 hpre ⟨K3,rfl,hJ⟩;refine CallFK.perm (Post:=fun r K'=>(r=zw true/\∃ K2,K'=(l,.loop Y.X.f env ps x y .ready none)::(s,zl b)::(h,zF b)::(e,zt b)::K2/\J (pre++[S]) K2)\/(r=zw false/\∃ c K2,K'=(l,.loop Y.X.f env ps x y .done (some c))::(s,zl b)::(h,zF b)::(e,zt b)::K2/\D c K2)) ?_ ?_
   ·refine zc7 hT (i:=l) (f:=Y.X.f) (env:=env) (ps:=ps) (x:=x) (y:=y) sQ hps.symm fun Y' hro' hl' hret=>?_;refine bN (perm_4' _ _ _ _) ?_;refine round Y' l (.loop Y.X.f env ps x y .ready none) (.loop Y.X.f env ps x y .busy none) pre S K3 (fun ds k env' K K' hu h=>TK.beginRound hro' hl' hu h) (fun env' K' K2 D' hsp hJ'=>?_) (fun c k env' K' K2 D' hlv hsp hD=>?_) hpre hJ
    ·exact TK.leave .fin fun A hA=>hret none env' K' ((s,zl b)::(h,zF b)::(e,zt b)::K2) D' .busy none hsp (.inl ⟨rfl,K2,rfl,hJ'⟩) A hA
    ·exact TK.leave hlv fun A hA=>hret (some c) env' K' ((s,zl b)::(h,zF b)::(e,zt b)::K2) D' .busy none hsp (.inr ⟨rfl,c,K2,rfl,hD⟩) A hA
   ·rintro r K' (⟨rfl,K2,rfl,h⟩ | ⟨rfl,c,K2,rfl,h⟩)
    ·exact ⟨_,zeP _ _ _ _,_,rfl,.inl ⟨rfl,K2,rfl,h⟩⟩
    ·exact ⟨_,zeP _ _ _ _,_,rfl,.inr ⟨rfl,c,K2,rfl,h⟩⟩
  ·rintro r A' ⟨K',hk,K2,rfl,hx⟩;have hk2:∀ K'',((s,zl b)::(h,zF b)::(e,zt b)::K2).Perm K''->Kstep ((l,AObj.loop Y.X.f env ps x y .ready none)::(s,zl b)::(h,zF b)::(e,zt b)::K0) A K'' A':=fun K'' hp2 =>
    Kstep.perm ⟨hk.view,hk.nd,fun i hi=>(hk.own i hi).imp_left fun h=>(zU hp).symm.subset h,fun j h1 h2=>hk.kept j h1 fun h=>h2 ((zU hp).symm.subset h),hk.len⟩ hp2
   rcases hx with ⟨K3,rfl,h⟩ | ⟨c,K3,rfl,h⟩
   ·exact ⟨_,hk2 _ (perm_4' _ _ _ _),.ready,none,K3,rfl,.inl ⟨rfl,rfl,h⟩⟩
   ·exact ⟨_,hk2 _ (perm_4' _ _ _ _),.done,some c,K3,rfl,.inr ⟨c,rfl,rfl,h⟩⟩
 ·rintro l r K' ⟨st,pj,K2,rfl,h⟩;refine ⟨st,pj,_,rfl,?_,K2,rfl,?_⟩
  ·rcases h with ⟨rfl,_⟩ | ⟨c,rfl,_⟩ <;> rfl
  ·rcases h with ⟨_,rfl,h⟩ | ⟨c,_,rfl,h⟩
   ·exact .inl ⟨rfl,h⟩
   ·exact .inr ⟨c,rfl,h⟩
 ·rintro d pj K' ⟨K2,rfl,⟨rfl,h⟩ | ⟨c,rfl,h⟩⟩
  ·exact hend d K2 h
  ·exact hstop d c K2 h
end
theorem zeD (n:Int):∀ k,(numsF n k).length=k
 | 0=>rfl
 | k+1=>by unfold numsF; rw [lZ,zeD (n+1) k]
theorem zef {b:RBk}:∀ (r:List RBand) (p:List Int),(∀ x∈r,(numsM x).length<=3)->(fromM b p r).length<=3 ^ r.length
 | [],p,_=>by unfold fromM; split <;> simp
 | x::r,p,h=>by
  unfold fromM;have h1:=h x sQ;have key:∀ (l:List Int),(l.flatMap fun n=>fromM b (p++[n]) r).length<=l.length*3 ^ r.length:=fun l=>by
   induction l with
   | nil=>simp
   | cons a l ih =>
    rw [List.flatMap_cons,lF,lZ,Nat.succ_mul];have:=zef (b:=b) r (p++[a]) fun y hy=>h y (by simp [hy]);omega
  have h2:=key (numsM x);have h3:(numsM x).length*3 ^ r.length<=3*3 ^ r.length:=Nat.mul_le_mul_right _ h1;rw [lZ,Nat.pow_succ];omega
theorem kH {b:RBk} (hb:ROk b):(zh b).length<=243:=by
 have h1:=zef (b:=b) b.shrinks [] fun x hx=>by
  obtain ⟨i,hi,rfl⟩:=List.mem_iff_getElem.1 hx;have hi2:i<b.seams.length:=by have:=hb.cls.len; omega
  have e:b.shrinks[i]=bd b i:=by have:=kA (b:=b) hi; rw [lA hi] at this; exact Option.some.inj this
  have:=hb.cls.bnd i hi2;unfold numsM;rw [zeD,e];omega
 have h2:3 ^ b.shrinks.length<=3 ^ 5:=Nat.pow_le_pow_right dQ (by have:=hb.cls.len; have:=hb.sms.len; omega);exact mT h1 h2
theorem zlZ {b:RBk} (hb:ROk b) {pre:List (List Int)} (h:pre <+: zh b):pre.length<=243:=mT h.length_le (kH hb)
theorem kj {α:Type} (f:α->List AV) (xs:List α) (x:α):(xs++[x]).flatMap f=xs.flatMap f++f x:=by rw [List.flatMap_append]; simp
abbrev allO (all:List (List Int)):AObj:=.cells (all.flatMap stC) 141 false
def knownC (b:RBk) (s h e a n:Nat):List AV:=[intA b.steps,intA b.round,intA b.roll,intA b.rolls,.sl s 0 b.seams.length,.sl h 0 b.shrinks.length,.sl e 0 b.measures.length,.sl a 0 n]
def z8R:List AV:=[intA 0,intA 0,intA 0,intA 0,.v (.slice none 0 0),.v (.slice none 0 0),.v (.slice none 0 0),.v (.slice none 0 0)]
theorem wb {x y:Int} (h:bar2 x y=0):x=0:=by
 unfold bar2 at h;split at h
 ·rename_i h1; exact absurd h h1
 ·rename_i h1; simpa using h1
def KnownR (b:RBk) (s h e:Nat) (bar:Int) (K:KV) (r:AV) (K':KV):Prop :=
 (bar≠0/\r=.tup [.agg z8R,intA bar]/\K'=K)\/(bar=0/\zh b=[]/\r=.tup [.agg z8R,intA 9]/\K'=K)\/(bar=0/\zh b≠[]/\∃ a,r=.tup [.agg (knownC b s h e a (zh b).length),intA 0]/\K'=(a,allO (zh b))::K)
theorem zgt (a b c d e f:Nat×AObj) {R:KV}:((c::d::e::f::R)++[a,b]).Perm (c::d::e::f::a::b::R):=by
 have q:(R++[a,b]).Perm ([a,b]++R):=lH;exact (((q.cons f).cons e).cons d).cons c
theorem zgu (a b c d e f g:Nat×AObj) {R:KV}:((g::c::d::e::f::R)++[a,b]).Perm (g::c::d::e::f::a::b::R):=by
 have q:(R++[a,b]).Perm ([a,b]++R):=lH;exact ((((q.cons f).cons e).cons d).cons c).cons g
instance:ApOf tp 146 141 5 40:={}
instance:BlOf tp 148 [(0,7),(7,1)]:={}
instance:zj tp 148 1 7 false 1:={}
instance:zE tp 146 141 5:={}
instance:ze tp 146 false 1:={}
instance:TyZ tp 141 [.int .i64 0,.int .i64 0,.int .i64 0,.int .i64 0,.int .i64 0]:={}
instance:TyZ tp 148 [.int .i64 0,.int .i64 0,.int .i64 0,.int .i64 0,.slice none 0 0,.slice none 0 0,.slice none 0 0,.slice none 0 0]:={}
instance:TyZA tp 148 [.v (.int .i64 0),.v (.int .i64 0),.v (.int .i64 0),.v (.int .i64 0),.v (.slice none 0 0),.v (.slice none 0 0),.v (.slice none 0 0),.v (.slice none 0 0)]:={}
instance:TyZA tp 4 [.v (.bool false)]:={}
instance:Und tp 146 (.slice 141):={}
theorem zgH {main T} (hT:zn tp main T) {gm} {b:RBk} {s h e:Nat} (hb:ROk b) :
  zq tp T gm 87 [.agg (zD b s h e)] [(s,zl b),(h,zF b),(e,zt b)] (fun r K'=>r=zw (!(zh b).isEmpty)/\K'=[(s,zl b),(h,zF b),(e,zt b)]):=by
 refine wJ 6 hT Tryz.func87 fun Y hro hret=>?_;refine au 21042 ?_;intro jb hjb;refine au 220 ?_;intro jr hjr;refine au 13033206804223 ?_;refine TK.rangeStates hT hb (s:=s) (h:=h) (e:=e) (J:=fun pre K1=>K1=[(jr,.cells [zw false] 4 true),(jb,.cells (zD b s h e) 128 true)]/\pre=[]) (D:=fun c K1=>c=.ret/\zh b≠[]/\K1=[(jr,.cells [zw true] 4 true),(jb,.cells (zD b s h e) 128 true)]) rfl hro rfl (by repeat (first | exact Split.none _ | exact Split.all _ | (apply Split.rem; repeat (first | exact Rem.head | apply Rem.tail)) | apply Split.right)) ⟨rfl,rfl⟩ (fun Y' l lo lb pre S K1 hbegin hfin hout hpre hJ=>?_) (fun d K2 hJ=>?_) (fun d c K2 hD=>?_)
 ·obtain ⟨rfl,rfl⟩:=hJ;refine au 120 ?_;refine hbegin _ _ _ _ _ uQ ?_;refine au 317042130 ?_;exact hout _ _ _ _ [(jr,_),(jb,_)] _ (.ret _) (by repeat (first | exact Split.none _ | exact Split.all _ | (apply Split.rem; repeat (first | exact Rem.head | apply Rem.tail)) | apply Split.right)) ⟨rfl,fun e=>by rw [e] at hpre; exact absurd hpre.length_le sQ,rfl⟩
 ·obtain ⟨rfl,hJ⟩:=hJ;simp only [cA];refine au 317042140 ?_;refine TK.leave (.ret _) fun A hA=>hret _ _ _ _ ([(s,_),(h,_),(e,_),(jr,_)]) ([(s,_),(h,_),(e,_)]) _ _ _ (.inr rfl) (by repeat (first | exact Split.none _ | exact Split.all _ | (apply Split.rem; repeat (first | exact Rem.head | apply Rem.tail)) | apply Split.right)) sQ sQ (by repeat (first | exact Split.none _ | exact Split.all _ | (apply Split.rem; repeat (first | exact Rem.head | apply Rem.tail)) | apply Split.right)) (yI (yO Z ze.h mQ rfl)) ?_ A hA;exact ⟨by rw [hJ]; rfl,rfl⟩
 ·obtain ⟨rfl,hD,rfl⟩:=hD;simp only [cA];refine au 0 ?_;refine TK.leave (.ret _) fun A hA=>hret _ _ _ _ ([(s,_),(h,_),(e,_),(jr,_)]) ([(s,_),(h,_),(e,_)]) _ _ _ (.inr rfl) (by repeat (first | exact Split.none _ | exact Split.all _ | (apply Split.rem; repeat (first | exact Rem.head | apply Rem.tail)) | apply Split.right)) sQ sQ (by repeat (first | exact Split.none _ | exact Split.all _ | (apply Split.rem; repeat (first | exact Rem.head | apply Rem.tail)) | apply Split.right)) (yI (yO Z ze.h mQ rfl)) ?_ A hA;exact ⟨by cases hh:zh b with | nil=>exact absurd hh hD | cons x r=>rfl,rfl⟩
theorem zdW {main T} (hT:zn tp main T) {gm} {b:RBk} {s h e:Nat} (hb:ROk b) :
  zq tp T gm 127 [.v (.slice none 0 0),.fn 67 [.agg (zD b s h e)] []] [(s,zl b),(h,zF b),(e,zt b)] (fun r K'=>∃ j,r=.row j (zh b).length/\K'=[(s,zl b),(h,zF b),(e,zt b),(j,.row ((zh b).flatMap stC) 141 5)]):=by
 refine wJ 13 hT Tryz.func127 fun Y hro hret=>?_;refine au 21042 ?_;intro jl hjl;refine TK.virtAt (i:=0) (e:=141) (size:=5) Z (fun _=>uQ) fun j0 hj0=>?_;refine au 1303142235 ?_;refine TK.rangeStates hT hb (s:=s) (h:=h) (e:=e) (J:=fun pre K1=>∃ j,K1=[(jl,.cells [.row j pre.length] 146 true),(j,.row (pre.flatMap stC) 141 5)]) (D:=fun _ _=>False) rfl hro rfl (by repeat (first | exact Split.none _ | exact Split.all _ | (apply Split.rem; repeat (first | exact Rem.head | apply Rem.tail)) | apply Split.right)) ⟨j0,rfl⟩ (fun Y' l lo lb pre S K1 hbegin hfin hout hpre hJ=>?_) (fun d K2 hJ=>?_) (fun d c K2 hD=>?_)
 ·obtain ⟨j,rfl⟩:=hJ;have hpl:=zlZ hb ((List.prefix_append _ _).trans hpre);have hfl:=yy stC 5 (fun _=>rfl) pre;refine au 2204 ?_;intro j5 hj5;refine au 3170 ?_;refine hbegin _ _ _ _ _ uQ ?_;refine au 6806904130 ?_;refine bI Z Z Z (zp (l:=[_,_,_,_,_]) Z zE.h TyZ.h dQ dQ Z) (fun _=>zr rfl tQ) fun j1 hj1=>?_;refine bO Z Z Z (a_app Z ApOf.h Z mQ oQ Z (yg (ln:=[_,_,_,_,_]) mQ dQ sQ Z) oQ Z (by unfold maxLen; omega) oQ) (fun _=>uQ) (fun _=>zr rfl tQ) fun j2=>?_;refine au 1403170 ?_;exact hfin _ _ [(jl,_),(j2,_)] _ (by repeat (first | exact Split.none _ | exact Split.all _ | (apply Split.rem; repeat (first | exact Rem.head | apply Rem.tail)) | apply Split.right)) ⟨j2,by rw [kj,lF] <;> rfl⟩
 ·obtain ⟨j,rfl⟩:=hJ;simp only [cA];refine au 3569042140 ?_;refine TK.leave (.ret _) fun A hA=>hret _ _ _ _ ([(s,_),(h,_),(e,_),(j,_)]) ([(s,_),(h,_),(e,_),(j,_)]) _ _ _ (.inr rfl) (by repeat (first | exact Split.none _ | exact Split.all _ | (apply Split.rem; repeat (first | exact Rem.head | apply Rem.tail)) | apply Split.right)) sQ sQ (by repeat (first | exact Split.none _ | exact Split.all _ | (apply Split.rem; repeat (first | exact Rem.head | apply Rem.tail)) | apply Split.right)) (yI (zX Z)) ?_ A hA;exact ⟨j,rfl,rfl⟩
 ·exact hD.elim
theorem vA {main T} (hT:zn tp main T) {gm} {b:RBk} {s h e:Nat} (hb:ROk b) :
  zq tp T gm 109 [.fn 67 [.agg (zD b s h e)] []] [(s,zl b),(h,zF b),(e,zt b)] (fun r K'=>∃ j,r=.row j (zh b).length/\K'=[(s,zl b),(h,zF b),(e,zt b),(j,.row ((zh b).flatMap stC) 141 5)]):=by
 refine zm 5 hT Tryz.func109 fun Y hret=>?_;refine au 1423542 ?_;refine bD Z Z Z Z (zdW hT hb) ?_;rintro r1 K2 ⟨j,rfl,rfl⟩;refine au 35 ?_;refine bB hret [(s,_),(h,_),(e,_),(j,_)] ?_;exact ⟨j,rfl,rfl⟩
theorem wL {main:Bool} {T:Goroutine->Hp->Prop} (hT:zn tp main T)  {b:RBk} {s h e:Nat} {Kx:KV}  (hl:b.seams.length<=100) (hm:b.measures.length<=100) :
  zq tp T gmR 68 [.agg (zD b s h e),.v (.slice none 0 0)] ((0,zB)::(s,zl b)::(h,zF b)::(e,zt b)::Kx) (fun r K'=>KnownR b s h e (zx b) ((0,zB)::(s,zl b)::(h,zF b)::(e,zt b)::Kx) r K'):=by
 refine zm 30 hT Tryz.func68 fun Y hret=>?_;refine au 21042 ?_;intro jb hjb;refine au 220 ?_;intro jr hjr;refine au 16804235 ?_;refine bD Z Z Z Z (uV hT hl hm) ?_ (hs:=(.right (.right (.all _))));rintro r1 K2 h3;rcases h3 with ⟨⟨hbar,rfl⟩ | ⟨hbar,rfl⟩,rfl⟩
 ·refine au 0 ?_;refine bN (K':=(0,_)::(s,_)::(h,_)::(e,_)::(jr,_)::(jb,_)::Kx) (zgt _ _ _ _ _ _ ) ?_;refine au 220661 ?_;intro j6 hj6;refine au 937142235170 ?_;constructor<;>intro hc0
  ·exact absurd hc0 sQ
  have hbb:=zZ (hbar);refine au 2120 ?_;refine bL [0,1,2,3,4,5,6] ?_;refine ad [[12,6],[12,6]] ?_;refine bU [20] Z (uX Z Z Z) ?_;refine TD.c2 (i1:=3) (i2:=5) (pend1:=[⟨1,[6],[(_,_)]⟩,⟨0,[6],[(_,_)]⟩]) (pend2:=[⟨2,[20],[]⟩,⟨1,[6],[(_,_)]⟩,⟨0,[6],[(_,_)]⟩]) (L1:=[4,5,6]) (L2:=[3,4,6]) [21] [] Z Z Z Z Z Z Z ?_ ?_
  ·refine kc Z Z Cal.h Z (vA hT hbb) (.right (.right (.left (.left (.left (.none _)))))) fun r4 K5 h6=>⟨?_,?_⟩
   ·rcases h6 with ⟨a,rfl,rfl⟩
    all_goals simp
   obtain ⟨a,rfl,rfl⟩:=h6;try simp only [cA]
   refine bS (env':=[_,_,_,_,_,_,_,_,_,_,_,_,_,_,_,_,_,_,_,_,_,_,_,_,_,_,_,_,_,_]) Z ?_;refine bU [19,22] Z (yi (l:=[_,_,_,_,_,_,_,_]) Z TyZ.h BlOf.h Z) ?_;refine bX (pend':=[⟨4,[19,22],[]⟩,⟨1,[6],[(_,_)]⟩,⟨0,[6],[(_,_)]⟩]) [] Z Z Z Z Z (yC Z TyZA.h) (fun _=>zr rfl tQ) sQ fun j8 hj8=>?_;refine bR (pend':=[]) [8,23] Z Z (zM Z Z ze.h Z Z mQ Z) ?_;refine ad [[14]] ?_;refine au 22 ?_;refine TK.unrowAt (c:=j8) (i:=7) (j:=a) Z mQ uQ ?_;refine bY (j:=a) ?_;refine au 9372806906704 ?_;constructor<;>intro hc1
   ·have hnil:zh b=[]:=List.length_eq_zero_iff.1 (by have:=eq_of_beq hc1; omega);refine au 3517045042 ?_;refine bB hret ((0,_)::(s,_)::(h,_)::(e,_)::Kx) ?_;exact .inr (.inl ⟨hbar,hnil,rfl,rfl⟩)
   have hne:zh b≠[]:=fun e=>by rw [e] at hc1; simp at hc1
   refine au 3517068042120 ?_;refine bB hret ((a,_)::(0,_)::(s,_)::(h,_)::(e,_)::Kx) ?_;exact .inr (.inr ⟨hbar,hne,a,rfl,rfl⟩)
  ·refine kB Z (yC Z TyZA.h) (fun _=>zr rfl tQ) sQ fun j8 hj8=>?_;refine bQ (pend':=[⟨1,[6],[(_,_)]⟩,⟨0,[6],[(_,_)]⟩]) [21] Z Z Z Z Z (vA hT hbb) (fun r7 K8 h9=>⟨?_,?_⟩) (hs:=(.right (.right (.right (.left (.left (.left (.none _))))))))
   ·rcases h9 with ⟨a,rfl,rfl⟩
    all_goals simp
   obtain ⟨a,rfl,rfl⟩:=h9;try simp only [cA]
   refine bS tQ ?_;refine bU [19,22] Z (yi (l:=[_,_,_,_,_,_,_,_]) Z TyZ.h BlOf.h Z) ?_;refine bR (pend':=[]) [8,23] Z Z (zM Z Z ze.h Z Z mQ Z) ?_;refine ad [[14]] ?_;refine au 22 ?_;refine TK.unrowAt (c:=j8) (i:=7) (j:=a) Z mQ uQ ?_;refine bY (j:=a) ?_;refine au 9372806906704 ?_;constructor<;>intro hc1
   ·have hnil:zh b=[]:=List.length_eq_zero_iff.1 (by have:=eq_of_beq hc1; omega);refine au 3517045042 ?_;refine bB hret ((0,_)::(s,_)::(h,_)::(e,_)::Kx) ?_;exact .inr (.inl ⟨hbar,hnil,rfl,rfl⟩)
   have hne:zh b≠[]:=fun e=>by rw [e] at hc1; simp at hc1
   refine au 3517068042120 ?_;refine bB hret ((a,_)::(0,_)::(s,_)::(h,_)::(e,_)::Kx) ?_;exact .inr (.inr ⟨hbar,hne,a,rfl,rfl⟩)
 ·refine au 0 ?_;refine bN (K':=(0,_)::(s,_)::(h,_)::(e,_)::(jr,_)::(jb,_)::Kx) (zgt _ _ _ _ _ _ ) ?_;refine au 220661 ?_;intro j6 hj6;refine au 937142235170 ?_;constructor<;>intro hc0
  ·
   refine au 35170145042 ?_;refine bB hret ((0,_)::(s,_)::(h,_)::(e,_)::Kx) ?_;exact .inl ⟨hbar,rfl,rfl⟩
  exact absurd hbar (by simpa using hc0)
theorem zaF {main:Bool} {T:Goroutine->Hp->Prop} (hT:zn tp main T)  {b:RBk} {s h e:Nat} {Kx:KV} {ja:Nat} {f1:AV} {p1:Int} (hf1:zx b=0->CallFK tp T gmR f1 [.agg (zD b s h e)] ((s,zl b)::Kx) (fun r K'=>r=intA p1/\K'=(s,zl b)::Kx)) (hl:b.seams.length<=100) (hm:b.measures.length<=100) :
  zq tp T gmR 68 [.agg (zD b s h e),.row ja 1] ((ja,.row [f1] 131 1)::(0,zB)::(s,zl b)::(h,zF b)::(e,zt b)::Kx) (fun r K'=>KnownR b s h e (bar2 (zx b) p1) ((ja,.row [f1] 131 1)::(0,zB)::(s,zl b)::(h,zF b)::(e,zt b)::Kx) r K'):=by
 refine zm 30 hT Tryz.func68 fun Y hret=>?_;refine au 21042 ?_;intro jb hjb;refine au 220 ?_;intro jr hjr;refine au 16804235 ?_;refine bD Z Z Z Z (vB hT hl hm hf1) ?_ (hs:=(.right (.right (.all _))));rintro r1 K2 h3;rcases h3 with ⟨⟨hbar,rfl⟩ | ⟨hbar,rfl⟩,rfl⟩
 ·refine au 0 ?_;refine bN (K':=(ja,_)::(0,_)::(s,_)::(h,_)::(e,_)::(jr,_)::(jb,_)::Kx) (zgu _ _ _ _ _ _ _) ?_;refine au 220661 ?_;intro j6 hj6;refine au 937142235170 ?_;constructor<;>intro hc0
  ·exact absurd hc0 sQ
  have hbb:=zZ (wb hbar);refine au 2120 ?_;refine bL [0,1,2,3,4,5,6] ?_;refine ad [[12,6],[12,6]] ?_;refine bU [20] Z (uX Z Z Z) ?_;refine TD.c2 (i1:=3) (i2:=5) (pend1:=[⟨1,[6],[(_,_)]⟩,⟨0,[6],[(_,_)]⟩]) (pend2:=[⟨2,[20],[]⟩,⟨1,[6],[(_,_)]⟩,⟨0,[6],[(_,_)]⟩]) (L1:=[4,5,6]) (L2:=[3,4,6]) [21] [] Z Z Z Z Z Z Z ?_ ?_
  ·refine kc Z Z Cal.h Z (vA hT hbb) (.right (.right (.right (.left (.left (.left (.none _))))))) fun r4 K5 h6=>⟨?_,?_⟩
   ·rcases h6 with ⟨a,rfl,rfl⟩
    all_goals simp
   obtain ⟨a,rfl,rfl⟩:=h6;try simp only [cA]
   refine bS (env':=[_,_,_,_,_,_,_,_,_,_,_,_,_,_,_,_,_,_,_,_,_,_,_,_,_,_,_,_,_,_]) Z ?_;refine bU [19,22] Z (yi (l:=[_,_,_,_,_,_,_,_]) Z TyZ.h BlOf.h Z) ?_;refine bX (pend':=[⟨4,[19,22],[]⟩,⟨1,[6],[(_,_)]⟩,⟨0,[6],[(_,_)]⟩]) [] Z Z Z Z Z (yC Z TyZA.h) (fun _=>zr rfl tQ) sQ fun j8 hj8=>?_;refine bR (pend':=[]) [8,23] Z Z (zM Z Z ze.h Z Z mQ Z) ?_;refine ad [[14]] ?_;refine au 22 ?_;refine TK.unrowAt (c:=j8) (i:=7) (j:=a) Z mQ uQ ?_;refine bY (j:=a) ?_;refine au 9372806906704 ?_;constructor<;>intro hc1
   ·have hnil:zh b=[]:=List.length_eq_zero_iff.1 (by have:=eq_of_beq hc1; omega);refine au 3517045042 ?_;refine bB hret ((ja,_)::(0,_)::(s,_)::(h,_)::(e,_)::Kx) ?_;exact .inr (.inl ⟨hbar,hnil,rfl,rfl⟩)
   have hne:zh b≠[]:=fun e=>by rw [e] at hc1; simp at hc1
   refine au 3517068042120 ?_;refine bB hret ((a,_)::(ja,_)::(0,_)::(s,_)::(h,_)::(e,_)::Kx) ?_;exact .inr (.inr ⟨hbar,hne,a,rfl,rfl⟩)
  ·refine kB Z (yC Z TyZA.h) (fun _=>zr rfl tQ) sQ fun j8 hj8=>?_;refine bQ (pend':=[⟨1,[6],[(_,_)]⟩,⟨0,[6],[(_,_)]⟩]) [21] Z Z Z Z Z (vA hT hbb) (fun r7 K8 h9=>⟨?_,?_⟩) (hs:=(.right (.right (.right (.right (.left (.left (.left (.none _)))))))))
   ·rcases h9 with ⟨a,rfl,rfl⟩
    all_goals simp
   obtain ⟨a,rfl,rfl⟩:=h9;try simp only [cA]
   refine bS tQ ?_;refine bU [19,22] Z (yi (l:=[_,_,_,_,_,_,_,_]) Z TyZ.h BlOf.h Z) ?_;refine bR (pend':=[]) [8,23] Z Z (zM Z Z ze.h Z Z mQ Z) ?_;refine ad [[14]] ?_;refine au 22 ?_;refine TK.unrowAt (c:=j8) (i:=7) (j:=a) Z mQ uQ ?_;refine bY (j:=a) ?_;refine au 9372806906704 ?_;constructor<;>intro hc1
   ·have hnil:zh b=[]:=List.length_eq_zero_iff.1 (by have:=eq_of_beq hc1; omega);refine au 3517045042 ?_;refine bB hret ((ja,_)::(0,_)::(s,_)::(h,_)::(e,_)::Kx) ?_;exact .inr (.inl ⟨hbar,hnil,rfl,rfl⟩)
   have hne:zh b≠[]:=fun e=>by rw [e] at hc1; simp at hc1
   refine au 3517068042120 ?_;refine bB hret ((a,_)::(ja,_)::(0,_)::(s,_)::(h,_)::(e,_)::Kx) ?_;exact .inr (.inr ⟨hbar,hne,a,rfl,rfl⟩)
 ·refine au 0 ?_;refine bN (K':=(ja,_)::(0,_)::(s,_)::(h,_)::(e,_)::(jr,_)::(jb,_)::Kx) (zgu _ _ _ _ _ _ _) ?_;refine au 220661 ?_;intro j6 hj6;refine au 937142235170 ?_;constructor<;>intro hc0
  ·
   refine au 35170145042 ?_;refine bB hret ((ja,_)::(0,_)::(s,_)::(h,_)::(e,_)::Kx) ?_;exact .inl ⟨hbar,rfl,rfl⟩
  exact absurd hbar (by simpa using hc0)
section
variable {P:Program} {main:Bool} {k:List Item}
theorem zkG {kd:CallKind} {f:FuncId} {ro:Option Nat} {ts:Array Value} {ds:List Deferred} {cs:List Frame} {w:World} {c:Code}:stepG P main (G (fr kd f ro ts ds (.code (.scope c)::k)) cs) w=.go (G (fr kd f ro ts ds (.code c::.inScope c::k)) cs) w #[]:=by simp [G,stepG,stepG.exec,fr]
theorem zhv {kd:CallKind} {f:FuncId} {ro:Option Nat} {ts:Array Value} {ds:List Deferred} {cs:List Frame} {w:World} {c:Code}:stepG P main (G (fr kd f ro ts ds (.inScope c::k)) cs) w=.go (G (fr kd f ro ts ds k) cs) w #[]:=by simp [G,stepG,stepG.exec,fr]
end
section
variable {P:Program} {gm:Nat->Option Nat} {T:Goroutine->Hp->Prop} {Y:KX P gm T} {ds:List Nat} {k:List Item} {env:List AV} {K:KV}
theorem TK.scope {c:Code} (h:TK Y ds (.code c::.inScope c::k) env K):TK Y ds (.code (.scope c)::k) env K:=fun A hA φ H ts h1 h2 h3 h4 h5 h6=>Y.X.hT.ctlF rfl (fun _=>zkG) rfl (h A hA φ H ts h1 h2 h3 h4 h5 h6)
theorem TK.inScope {c:Code} (h:TK Y ds k env K):TK Y ds (.inScope c::k) env K:=fun A hA φ H ts h1 h2 h3 h4 h5 h6=>Y.X.hT.ctlF rfl (fun _=>zhv) rfl (h A hA φ H ts h1 h2 h3 h4 h5 h6)
end
theorem vc {o:Option (List Int×Int)} {K:KV} {r:AV} {K':KV} (h:HangR o K r K'):(o=none/\r=.tup [.agg [.v (.slice none 0 0),intA 0],zw false]/\K'=K)\/∃ w q jw,o=some (w,q)/\r=.tup [.agg [.sl jw 0 w.length,intA q],zw true]/\K'=(jw,.cells (w.map intA) 3 false)::K:=by
 cases o with
 | none=>exact .inl ⟨rfl,h⟩
 | some z=>obtain ⟨jw,h1,h2⟩:=h; exact .inr ⟨z.1,z.2,jw,rfl,h1,h2⟩
def wayC (p:Nat×Nat×Int):List AV:=[.sl p.1 0 p.2.1,intA p.2.2]
theorem zbQ {all:List (List Int)} {i:Nat} {st:List Int} {n:Int} {e:TypeId} {rw':Bool} (h:all[i]? =some st) (hn:n=(i:Int)):takeO (.cells (all.flatMap stC) e rw') (0+n.toNat*5) 5=some (stC st):=ky (c:=5) (fun _=>rfl) h hn dQ
theorem zdK {b:RBk} {all:List (List Int)} {l st:List Int} {i:Nat} (h:all[i]? =some st) (hh:hangM b l st=none):waysM b (all.take (i+1)) l=waysM b (all.take i) l:=by
 unfold waysM;rw [yA h,List.filterMap_append];simp [hh]
theorem zdL {b:RBk} {all:List (List Int)} {l st w:List Int} {q:Int} {i:Nat} (h:all[i]? =some st) (hh:hangM b l st=some (w,q)):waysM b (all.take (i+1)) l=waysM b (all.take i) l++[(w,q)]:=by
 unfold waysM;rw [yA h,List.filterMap_append];simp [hh]
theorem zgL (b:RBk) (all:List (List Int)) (l:List Int):(waysM b all l).length<=all.length:=List.length_filterMap_le _ _
theorem zf0 (x:Int) (r:List Int) (y:Int):spreadM (x::(r++[y]))=(min (spreadM (x::r)).1 y,max (spreadM (x::r)).2 y):=by
 unfold spreadM;dsimp only;rw [List.foldl_append,List.foldl_append];rfl
def sqOk (b:RBk) (all:List (List Int)) (l:List Int):Bool:=(squaresM b all l).isSome
def sqLo (b:RBk) (all:List (List Int)) (l:List Int):Int:=((squaresM b all l).getD (0,0)).1
def sqHi (b:RBk) (all:List (List Int)) (l:List Int):Int:=((squaresM b all l).getD (0,0)).2
theorem kY {l:List Int} {i p:Nat} {x:Int} {e:TypeId} {s:Nat} (h:l[i]? =some x) (hp:p=i):takeO (.row (l.map intA) e s) p 1=some [intA x]:=by
 subst hp;have:=zbf (e:=e) (s:=s) h rfl;simpa using this
instance:ApOf tp 156 137 2 32:={}
instance:BlOf tp 28 [(0,1),(1,1)]:={}
instance:zj tp 163 0 0 false 1:={}
instance:zj tp 163 1 1 false 1:={}
instance:zE tp 156 137 2:={}
instance:TyZ tp 28 [.int .i64 0,.int .i64 0]:={}
instance:Und tp 156 (.slice 137):={}
theorem zgM {main T} (hT:zn tp main T) {gm} {b:RBk} {s h e a j:Nat} {l:List Int} {all:List (List Int)} {et:TypeId} (hb:ROk b) (hl:CutsOk b l) (ha:okAll b all) (hn:all.length<=243) :
  zq tp T gm 74 [.agg (knownC b s h e a all.length),.sl j 0 l.length] [(s,zl b),(a,allO all),(j,.cells (l.map intA) et false)] (fun r K'=>∃ (jr:Nat) (ps:List (Nat×Nat×Int)),ps.map (·.2.2)=(waysM b all l).map (·.2)/\r=.row jr ps.length/\K'=[(jr,.row (ps.flatMap wayC) 137 2),(s,zl b),(a,allO all),(j,.cells (l.map intA) et false)]):=by
 refine zm 35 hT Tryz.func74 fun Y hret=>?_;refine au 21042 ?_;intro jb hjb;refine au 35 ?_;refine TK.scope ?_;refine au 542 ?_;refine TK.virt 5 137 2 Z fun jr0 hjr0=>?_;refine au 1303128069067042215023 ?_;refine bA [1,2,4,5,11,12] ?_;refine bC [(s,_),(a,_),(j,_),(jr0,_),(jb,_)] ?_;refine bE (fun n env K=>∃ (i jr:Nat) (ps:List (Nat×Nat×Int)),n=all.length - i/\i<=all.length/\ps.map (·.2.2)=(waysM b (all.take i) l).map (·.2)/\env=.any::.sl j 0 l.length::.ptr jb 0::.any::.v (.slice none 0 0)::.row jr ps.length::naL 5 (intA all.length::intA i::naL 22 [])/\K=[(s,zl b),(a,allO all),(j,.cells (l.map intA) et false),(jr,.row (ps.flatMap wayC) 137 2),(jb,.cells (knownC b s h e a all.length) 148 true)]) all.length ⟨0,jr0,[],rfl,mN _,rfl,rfl,rfl⟩ fun n env K hI hnext=>?_;obtain ⟨i,jr,ps,rfl,hi,hps,rfl,rfl⟩:=hI;have hpl:ps.length<=i:=by have:=congrArg List.length hps; rw [lJ,lJ] at this; have h2:=zgL b (all.take i) l; rw [List.length_take] at h2; omega
 have hfl:=yy wayC 2 (fun _=>rfl) ps;refine bG nQ ?_;refine au 923742 ?_;constructor<;>intro hc0
 ·have hil:i<all.length:=by simp at hc0; omega
  obtain ⟨st,hst⟩:∃ st,all[i]? =some st:=⟨_,lA hil⟩;have hsk:=ha st (lN hst);refine au 2351421302120 ?_;refine bL [0,1,2,3,4,5,6,7,8,9,10,12,13,11,14] ?_;refine ad [[3,2],[12,16],[1,1],[3,2],[10,19],[1,6],[2,20,21]] ?_;refine bT [22] Z (hq:=zK Z Z ze.h (mC _) (zbQ (i:=i) hst Z)) (h:=?_);refine TD.c2 (i1:=8) (i2:=12) (pend1:=[⟨6,[20,21],[]⟩,⟨5,[6],[]⟩,⟨4,[19],[(_,_)]⟩,⟨3,[2],[]⟩,⟨0,[2],[]⟩]) (pend2:=[⟨7,[22],[(_,_)]⟩,⟨6,[20,21],[]⟩,⟨5,[6],[]⟩,⟨4,[19],[(_,_)]⟩,⟨3,[2],[]⟩,⟨2,[1],[]⟩,⟨1,[16],[(_,_)]⟩,⟨0,[2],[]⟩]) (L1:=[9,10,11,12,13,14]) (L2:=[8,9,10,11,13,14]) [17,18,23] [] Z Z Z Z Z Z Z ?_ ?_
  ·refine kc Z Z Cal.h Z ((vF hT hb hl hsk).mono (fun _ _ h=>vc h)) (by repeat (first | exact Split.none _ | exact Split.all _ | (apply Split.rem; repeat (first | exact Rem.head | apply Rem.tail)) | apply Split.right)) fun r1 K2 h3=>⟨?_,?_⟩
   ·rcases h3 with ⟨hno,rfl,rfl⟩ | ⟨w,q,jw,hso,rfl,rfl⟩;all_goals simp
   rcases h3 with ⟨hno,rfl,rfl⟩ | ⟨w,q,jw,hso,rfl,rfl⟩
   ·try simp only [cA]
    refine bS (env':=[_,_,_,_,_,_,_,_,_,_,_,_,_,_,_,_,_,_,_,_,_,_,_,_,_,_,_,_,_,_,_,_,_,_,_]) Z ?_;refine ad [[1,24],[5,15],[5,15]] ?_;refine bX (pend':=[⟨11,[15],[]⟩,⟨10,[15],[]⟩,⟨9,[24],[]⟩,⟨6,[20,21],[]⟩,⟨5,[6],[]⟩,⟨4,[19],[(_,_)]⟩,⟨3,[2],[]⟩,⟨0,[2],[]⟩]) [] Z Z Z Z Z (yC Z TyZA.h) (fun _=>zr rfl tQ) sQ fun j7 hj7=>?_;refine bR (pend':=[⟨11,[15],[]⟩]) [7,25] Z Z (zM Z Z ze.h Z Z mQ Z) ?_;refine ad [[13,26],[14]] ?_;refine au 933001422 ?_;constructor<;>intro hc1
    ·
     refine au 312304160 ?_;refine bA [1,2,4,5,11,12] ?_;refine bC [(s,_),(a,_),(j,_),(jr,_),(jb,_)] ?_;exact hnext _ _ _ oQ ⟨i+1,jr,ps,rfl,oQ,by rw [zdK hst hno]; exact hps,rfl,rfl⟩
    exact absurd hc1 dQ
   ·try simp only [cA]
    refine bS (env':=[_,_,_,_,_,_,_,_,_,_,_,_,_,_,_,_,_,_,_,_,_,_,_,_,_,_,_,_,_,_,_,_,_,_,_]) Z ?_;refine ad [[1,24],[5,15],[5,15]] ?_;refine bX (pend':=[⟨11,[15],[]⟩,⟨10,[15],[]⟩,⟨9,[24],[]⟩,⟨6,[20,21],[]⟩,⟨5,[6],[]⟩,⟨4,[19],[(_,_)]⟩,⟨3,[2],[]⟩,⟨0,[2],[]⟩]) [] Z Z Z Z Z (yC Z TyZA.h) (fun _=>zr rfl tQ) sQ fun j7 hj7=>?_;refine bR (pend':=[⟨11,[15],[]⟩]) [7,25] Z Z (zM Z Z ze.h Z Z mQ Z) ?_;refine ad [[13,26],[14]] ?_;refine au 933001422 ?_;constructor<;>intro hc1
    ·exact absurd hc1 dQ
    refine au 68014120 ?_;refine bI Z Z Z (zp (l:=[_,_]) Z zE.h TyZ.h dQ dQ Z) (fun _=>zr rfl tQ) fun j4 hj4=>?_;refine bO Z Z Z (a_app Z ApOf.h Z mQ oQ Z (yg (ln:=[_,_]) mQ dQ sQ Z) oQ Z (by unfold maxLen; omega) oQ) (fun _=>uQ) (fun _=>zr rfl tQ) fun jr2=>?_;refine au 31230414035 ?_;refine bA [1,2,4,5,11,12] ?_;refine bC [(s,_),(a,_),(j,_),(jr2,_),(jb,_)] ?_;exact hnext _ _ _ oQ ⟨i+1,jr2,ps++[(jw,w.length,q)],rfl,oQ,by rw [zdL hst hso,lM,lM,hps]; rfl,by rw [lF]; rfl,by rw [kj]; rfl⟩
  ·refine kB Z (yC Z TyZA.h) (fun _=>zr rfl tQ) sQ fun j7 hj7=>?_;refine bQ (pend':=[⟨6,[20,21],[]⟩,⟨5,[6],[]⟩,⟨4,[19],[(_,_)]⟩,⟨3,[2],[]⟩,⟨0,[2],[]⟩]) [17,18,23] Z Z Z Z Z ((vF hT hb hl hsk).mono (fun _ _ h=>vc h)) (fun r5 K6 h7=>⟨?_,?_⟩)
   ·rcases h7 with ⟨hno,rfl,rfl⟩ | ⟨w,q,jw,hso,rfl,rfl⟩;all_goals simp
   rcases h7 with ⟨hno,rfl,rfl⟩ | ⟨w,q,jw,hso,rfl,rfl⟩
   ·try simp only [cA]
    refine bS tQ ?_;refine ad [[1,24],[5,15],[5,15]] ?_;refine bR (pend':=[⟨11,[15],[]⟩]) [7,25] Z Z (zM Z Z ze.h Z Z mQ Z) ?_;refine ad [[13,26],[14]] ?_;refine au 933001422 ?_;constructor<;>intro hc1
    ·
     refine au 312304160 ?_;refine bA [1,2,4,5,11,12] ?_;refine bC [(s,_),(a,_),(j,_),(jr,_),(jb,_)] ?_;exact hnext _ _ _ oQ ⟨i+1,jr,ps,rfl,oQ,by rw [zdK hst hno]; exact hps,rfl,rfl⟩
    exact absurd hc1 dQ
   ·try simp only [cA]
    refine bS tQ ?_;refine ad [[1,24],[5,15],[5,15]] ?_;refine bR (pend':=[⟨11,[15],[]⟩]) [7,25] Z Z (zM Z Z ze.h Z Z mQ Z) ?_;refine ad [[13,26],[14]] ?_;refine au 933001422 ?_;constructor<;>intro hc1
    ·exact absurd hc1 dQ
    refine au 68014120 ?_;refine bI Z Z Z (zp (l:=[_,_]) Z zE.h TyZ.h dQ dQ Z) (fun _=>zr rfl tQ) fun j8 hj8=>?_;refine bO Z Z Z (a_app Z ApOf.h Z mQ oQ Z (yg (ln:=[_,_]) mQ dQ sQ Z) oQ Z (by unfold maxLen; omega) oQ) (fun _=>uQ) (fun _=>zr rfl tQ) fun jr2=>?_;refine au 31230414035 ?_;refine bA [1,2,4,5,11,12] ?_;refine bC [(s,_),(a,_),(j,_),(jr2,_),(jb,_)] ?_;exact hnext _ _ _ oQ ⟨i+1,jr2,ps++[(jw,w.length,q)],rfl,oQ,by rw [zdL hst hso,lM,lM,hps]; rfl,by rw [lF]; rfl,by rw [kj]; rfl⟩
 obtain rfl:i=all.length:=by simp at hc0; omega
 refine au 35142160 ?_;refine bB hret [(jr,_),(s,_),(a,_),(j,_)] ?_;exact ⟨jr,ps,by rw [hps,lW],rfl,rfl⟩
theorem zdI {main T} (hT:zn tp main T) {gm} {j off:Nat} {ob:AObj} {x:Int} {xs:List Int} (hI:∀ (i:Nat) (y:Int),xs[i]? =some y->takeO ob (off+(i:Int).toNat*1) 1=some [intA y]) (hl:xs.length<=1000) :
  zq tp T gm 73 [intA x,.sl j off xs.length] [(j,ob)] (fun r K'=>r=.agg [intA (spreadM (x::xs)).1,intA (spreadM (x::xs)).2]/\K'=[(j,ob)]):=by
 refine zm 27 hT Tryz.func73 fun Y hret=>?_;refine au 22042 ?_;intro jr hjr;refine au 13031280142235511423 ?_;refine bA [4,5,6,11,12,13] ?_;refine bC [(j,_),(jr,_)] ?_;refine bE (fun n env K=>∃ (i:Nat),n=xs.length - i/\i<=xs.length/\env=naL 4 (.ptr jr 0::intA (spreadM (x::xs.take i)).1::intA (spreadM (x::xs.take i)).2::naL 4 (.sl j off xs.length::intA xs.length::intA i::naL 13 []))/\K=[(j,ob),(jr,.cells [intA 0,intA 0] 28 true)]) xs.length ⟨0,rfl,mN _,rfl,rfl⟩ fun n env K hI' hnext=>?_;obtain ⟨i,rfl,hi,rfl,rfl⟩:=hI';refine bG nQ ?_;refine au 923742 ?_;constructor<;>intro hc0
 ·have hil:i<xs.length:=by simp at hc0; omega
  obtain ⟨y,hy⟩:∃ y,xs[i]? =some y:=⟨_,lA hil⟩;refine au 360421302120 ?_;refine bH Z (zk Z Z ze.h mQ (hI i y hy)) ?_;refine au 11435 ?_;refine bH Z (zcm Z Z Z) ?_;refine au 11 ?_;refine bH Z (zcl Z Z Z) ?_;refine au 312304140355 ?_;refine bA [4,5,6,11,12,13] ?_;refine bC [(j,_),(jr,_)] ?_;exact hnext _ _ _ oQ ⟨i+1,rfl,oQ,by rw [yA hy,zf0]; rfl,rfl⟩
 obtain rfl:i=xs.length:=by simp at hc0; omega
 refine au 31703901142160 ?_;refine bB hret [(j,_)] ?_;exact ⟨by rw [lW]; rfl,rfl⟩
theorem zct {main T} (hT:zn tp main T) {gm} {b:RBk} {s h e a j:Nat} {l:List Int} {all:List (List Int)} {et:TypeId} (hb:ROk b) (hl:CutsOk b l) (ha:okAll b all) (hn:all.length<=243) (h0:0<all.length) :
  zq tp T gm 79 [.agg (knownC b s h e a all.length),.sl j 0 l.length] [(j,.cells (l.map intA) et false),(s,zl b),(a,allO all)] (fun r K'=>r=.tup [.agg [intA (sqLo b all l),intA (sqHi b all l)],zw (sqOk b all l)]/\K'=[(j,.cells (l.map intA) et false),(s,zl b),(a,allO all)]):=by
 refine zm 38 hT Tryz.func79 fun Y hret=>?_;refine au 21042 ?_;intro jb hjb;refine au 220 ?_;intro jr0 hjr0;refine au 16804235 ?_;refine bD Z Z Z Z (zgM hT hb hl ha hn) ?_;rintro r1 K2 ⟨jr,ps,hps,rfl,rfl⟩;refine au 0 ?_;have hpl:ps.length=(waysM b all l).length:=by have:=congrArg List.length hps; rwa [lJ,lJ] at this
 have hwl:=zgL b all l;refine au 937280690670280142235 ?_;constructor<;>intro hc0
 ·refine au 3517039042 ?_;refine bB hret [(j,_),(s,_),(a,_)] ?_;have hlt:(waysM b all l).length<all.length:=by rw [<- hpl]; simp at hc0; omega
  exact ⟨by unfold sqLo sqHi sqOk squaresM; rw [if_pos hlt]; rfl,rfl⟩
 have hge:¬ ps.length<all.length:=by simp at hc0; omega
 refine au 542120 ?_;refine TK.virt 7 3 1 Z fun jt0 hjt0=>?_;refine au 1303128014223 ?_;refine bA [2,4,5,7,20,21,22] ?_;refine bC [(jr,_),(s,_),(a,_),(j,_),(jt0,_),(jb,_),(jr0,_)] ?_;refine bE (fun n env K=>∃ (i jt:Nat),n=ps.length - i/\i<=ps.length/\env=naL 2 (.ptr jb 0::.any::.ptr jr0 0::zw false::.any::.row jt i::naL 12 (.row jr ps.length::intA ps.length::intA i::naL 15 []))/\K=[(jr,.row (ps.flatMap wayC) 137 2),(s,zl b),(a,allO all),(j,.cells (l.map intA) et false),(jt,.row (((ps.map (·.2.2)).take i).map intA) 3 1),(jb,.cells (knownC b s h e a all.length) 148 true),(jr0,.cells [intA 0,intA 0] 28 true)]) ps.length ⟨0,jt0,rfl,mN _,rfl,rfl⟩ fun n env K hI hnext=>?_;obtain ⟨i,jt,rfl,hi,rfl,rfl⟩:=hI;refine bG nQ ?_;refine au 923742 ?_;constructor<;>intro hc1
 ·have hil:i<ps.length:=by simp at hc1; omega
  obtain ⟨p,hp⟩:∃ p,ps[i]? =some p:=⟨_,lA hil⟩;refine au 370421302120 ?_;refine bH Z (zK Z Z ze.h mQ (zcU (c:=2) (f:=wayC) (fun _=>rfl) hp rfl dQ)) ?_;refine au 220 ?_;intro j9 hj9;refine au 690670143170 ?_;refine bI Z Z Z (zp (l:=[_]) Z zE.h TyZ.h dQ dQ Z) (fun _=>zr rfl tQ) fun j4 hj4=>?_;refine bO Z Z Z (a_app Z ApOf.h Z mQ (by simp; omega) Z (yg (ln:=[_]) mQ dQ sQ Z) oQ Z (by unfold maxLen; omega) oQ) (fun _=>uQ) (fun _=>zr rfl tQ) fun jt2=>?_;refine au 31230414035 ?_;refine bA [2,4,5,7,20,21,22] ?_;refine bC [(jr,_),(s,_),(a,_),(j,_),(jt2,_),(jb,_),(jr0,_)] ?_;exact hnext _ _ _ oQ ⟨i+1,jt2,rfl,oQ,rfl,by rw [yA (x:=p.2.2) (by rw [List.getElem?_map,hp]; rfl),lM]; rfl⟩
 obtain rfl:i=ps.length:=by simp at hc1; omega
 obtain ⟨x,xs,hxs⟩:∃ x xs,ps.map (·.2.2)=x::xs:=by
  cases hh:ps with
  | nil=>rw [hh] at hge; exact absurd h0 hge
  | cons y r=>exact ⟨_,_,rfl⟩
 have hxl:ps.length=xs.length+1:=by have:=congrArg List.length hxs; simpa using this
 rw [List.take_of_length_le sQ,hxs,hxl];refine au 2160 ?_;refine bL [0,1,2,3,4,5,6,7] ?_;refine ad [[1,7]] ?_;refine bT [32] Z (hq:=kq Z Z Z zE.h (mC _) oQ oQ) (h:=?_);refine ad [[10,33],[1,7]] ?_;refine bT [35] Z (hq:=wZ Z Z zE.h (mC _) Z Z oQ oQ Z) (h:=?_);refine bQ (pend':=[⟨3,[7],[]⟩,⟨1,[32],[(_,_)]⟩,⟨0,[7],[]⟩]) [34,36] Z Z Z Z Z (zdI hT (x:=x) (xs:=xs) (off:=1) (ob:=.row ((x::xs).map intA) 3 1) (fun i y hy=>kY (l:=x::xs) (i:=i+1) (by simpa using hy) oQ) oQ) (fun r5 K6 h7=>⟨?_,?_⟩)
 ·rcases h7 with ⟨rfl,rfl⟩
  all_goals simp
 obtain ⟨rfl,rfl⟩:=h7;try simp only [cA]
 refine bS tQ ?_;refine bR (pend':=[]) [4,37] Z Z (zM Z Z ze.h Z Z mQ Z) ?_;refine ad [[13],[14]] ?_;refine au 0 ?_;refine bB hret [(j,_),(s,_),(a,_)] ?_;have hlt:¬ (waysM b all l).length<all.length:=by rw [<- hpl]; exact hge
 exact ⟨by unfold sqLo sqHi sqOk squaresM; rw [if_neg hlt,<- hps,hxs]; rfl,rfl⟩
theorem zbD {main T} (hT:zn tp main T) {gm} {x:Int} :
  zq tp T gm 180 [intA x] [] (fun r K'=>r=zw false/\K'=[]):=by
 refine zm 6 hT Tryz.func180 fun Y hret=>?_;refine au 35711423542 ?_;refine TK.rta hret ?_;exact ⟨by simp,rfl⟩
theorem zhR {main T} (hT:zn tp main T) {gm} {x y:Int} :
  zq tp T gm 159 [intA x,intA y] [] (fun r K'=>r=intA (if x<y then -1 else if y<x then 1 else 0)/\K'=[]):=by
 refine zm 20 hT Tryz.func159 fun Y hret=>?_;refine au 1423542 ?_;refine TK.clE Z Z Z Z (zbD hT) ?_;refine au 14235 ?_;refine TK.clE Z Z Z Z (zbD hT) ?_;refine au 93142235 ?_;constructor<;>intro hc0
 ·cases hc0
 skip;refine au 931422120 ?_;constructor<;>intro hc2
 ·cases hc2
 refine au 93711422120 ?_;constructor<;>intro hc3
 ·refine au 3542 ?_;refine TK.rta hret ?_;exact ⟨by rw [if_pos (of_decide_eq_true hc3)],rfl⟩
 refine au 93711422120 ?_;constructor<;>intro hc4
 ·refine au 3542 ?_;refine TK.rta hret ?_;exact ⟨by rw [if_neg (of_decide_eq_false hc3),if_pos (of_decide_eq_true hc4)],rfl⟩
 refine au 3542120 ?_;refine TK.rta hret ?_;exact ⟨by rw [if_neg (of_decide_eq_false hc3),if_neg (of_decide_eq_false hc4)],rfl⟩
theorem zg5 {main T} (hT:zn tp main T) {gm} {j j2:Nat} {xs ys:List Int} {e1 e2:TypeId} (hl:xs.length<=1000) :
  zq tp T gm 120 [.sl j 0 xs.length,.sl j2 0 ys.length] [(j,.cells (xs.map intA) e1 false),(j2,.cells (ys.map intA) e2 false)] (fun r K'=>r=intA (lexM xs ys)/\K'=[(j,.cells (xs.map intA) e1 false),(j2,.cells (ys.map intA) e2 false)]):=by
 refine zm 36 hT Tryz.func120 fun Y hret=>?_;refine au 1303128014223542 ?_;refine bA [0,1,4,9,10,11] ?_;refine bE (fun n env K=>∃ (i:Nat),n=xs.length - i/\i<=xs.length/\lexM (xs.drop i) (ys.drop i)=lexM xs ys/\env=.sl j 0 xs.length::.sl j2 0 ys.length::naL 2 (intA 0::naL 4 (.sl j 0 xs.length::intA xs.length::intA i::naL 24 []))/\K=[(j,.cells (xs.map intA) e1 false),(j2,.cells (ys.map intA) e2 false)]) xs.length ⟨0,rfl,mN _,rfl,rfl,rfl⟩ fun n env K hI hnext=>?_;obtain ⟨i,rfl,hi,hinv,rfl,rfl⟩:=hI;refine bG nQ ?_;refine au 923742 ?_;constructor<;>intro hc0
 ·have hil:i<xs.length:=by simp at hc0; omega
  refine au 3601421302120 ?_;refine bH Z (zk Z Z ze.h mQ (yr (i:=i) (yb hil) Z)) ?_;refine au 93728011422355 ?_;constructor<;>intro hc1
  ·refine au 3542 ?_;refine bB hret [(j,_),(j2,_)] ?_;exact ⟨by rw [<- hinv,zO (yb hil),show ys.drop i=[] from List.drop_eq_nil_of_le (by simp at hc1; omega)]; rfl,rfl⟩
  have hjl:i<ys.length:=by simp at hc1; omega
  refine au 3601142120 ?_;refine bH Z (zk Z Z ze.h mQ (yr (i:=i) (yb hjl) Z)) ?_;refine au 114235 ?_;refine TK.clE Z Z Z Z (zhR hT) ?_;refine au 93714235 ?_;constructor<;>intro hc2
  ·refine au 35142 ?_;refine bB hret [(j,_),(j2,_)] ?_;exact ⟨by rw [<- hinv,zO (yb hil),zO (yb hjl)]; simp only [lexM]; split <;> (try rfl); split <;> (try rfl); simp_all,rfl⟩
  have hnl:¬ zL xs i<zL ys i:=fun hh=>by rw [if_pos hh] at hc2; simp at hc2
  have hng:¬ zL ys i<zL xs i:=fun hh=>by rw [if_neg hnl,if_pos hh] at hc2; simp at hc2
  refine au 312304140120 ?_;refine bA [0,1,4,9,10,11] ?_;refine bC [(j,_),(j2,_)] ?_;exact hnext _ _ _ oQ ⟨i+1,rfl,oQ,by rw [<- hinv,zO (yb hil),zO (yb hjl)]; simp only [lexM]; rw [if_neg hnl,if_neg hng],rfl,rfl⟩
 obtain rfl:i=xs.length:=by simp at hc0; omega
 refine au 93728012801422160 ?_;constructor<;>intro hc3
 ·refine au 3542 ?_;refine bB hret [(j,_),(j2,_)] ?_;exact ⟨by rw [<- hinv,List.drop_length]; simp at hc3; rw [zO (yb (l:=ys) (k:=xs.length) oQ)]; rfl,rfl⟩
 refine au 3542120 ?_;refine bB hret [(j,_),(j2,_)] ?_;exact ⟨by rw [<- hinv,List.drop_length]; simp at hc3; rw [List.drop_eq_nil_of_le oQ]; rfl,rfl⟩
theorem u9 {main T} (hT:zn tp main T) {gm} {j j2:Nat} {xs ys:List Int} {e1 e2:TypeId} (hl:xs.length<=1000) :
  zq tp T gm 90 [.sl j 0 xs.length,.sl j2 0 ys.length] [(j,.cells (xs.map intA) e1 false),(j2,.cells (ys.map intA) e2 false)] (fun r K'=>r=zw (yz xs ys)/\K'=[(j,.cells (xs.map intA) e1 false),(j2,.cells (ys.map intA) e2 false)]):=by
 refine zm 23 hT Tryz.func90 fun Y hret=>?_;refine au 1728012801423542 ?_;refine bF 10 (fun g1_6=>?_) (fun g1_6=>?_)
 ·refine au 3526088888888888 ?_;refine bB hret [(j,_),(j2,_)] ?_;exact ⟨by simp at g1_6; simp [yz,g1_6],rfl⟩
 refine au 1728012801 ?_;refine bF 16 (fun g1_12=>?_) (fun g1_12=>?_)
 ·refine au 11 ?_;refine TK.clE Z Z Z Z (zg5 hT hl) ?_;refine au 352502607 ?_;refine bB hret [(j,_),(j2,_)] ?_;exact ⟨by simp at g1_6 g1_12; unfold yz; rw [decide_eq_false (show ¬ xs.length<ys.length by omega),decide_eq_true (show xs.length=ys.length by omega)]; rfl,rfl⟩
 refine au 352502508888 ?_;refine bB hret [(j,_),(j2,_)] ?_;exact ⟨by simp at g1_6 g1_12; unfold yz; rw [decide_eq_false (show ¬ xs.length<ys.length by omega),decide_eq_false (show ¬ xs.length=ys.length by omega)]; rfl,rfl⟩
theorem zgW {main T} (hT:zn tp main T) {gm} {j j2:Nat} {xs ys:List Int} {e1 e2:TypeId} {p q:Int} (hl:xs.length<=1000) :
  zq tp T gm 81 [.agg [.sl j 0 xs.length,intA p],.agg [.sl j2 0 ys.length,intA q]] [(j,.cells (xs.map intA) e1 false),(j2,.cells (ys.map intA) e2 false)] (fun r K'=>r=zw (cheaperM (xs,p) (ys,q))/\K'=[(j,.cells (xs.map intA) e1 false),(j2,.cells (ys.map intA) e2 false)]):=by
 refine zm 24 hT Tryz.func81 fun Y hret=>?_;refine au 21042 ?_;intro jx1 hjx1;refine au 210 ?_;intro jx2 hjx2;refine au 176906706906704235 ?_;refine bF 10 (fun g1_6=>?_) (fun g1_6=>?_)
 ·refine au 35260888888888888 ?_;refine bB hret [(j,_),(j2,_)] ?_;exact ⟨by simp at g1_6; simp [cheaperM,g1_6],rfl⟩
 refine au 17690670690670 ?_;refine bF 16 (fun g1_12=>?_) (fun g1_12=>?_)
 ·refine au 690670690670 ?_;refine TK.clE Z Z Z Z (u9 hT hl) ?_;refine au 35250260 ?_;refine bB hret [(j,_),(j2,_)] ?_;exact ⟨by simp at g1_6 g1_12; simp [cheaperM,g1_12],rfl⟩
 refine au 3525025088888 ?_;refine bB hret [(j,_),(j2,_)] ?_;exact ⟨by simp at g1_6 g1_12; simp [cheaperM,g1_12]; omega,rfl⟩
theorem zcp {main T} (hT:zn tp main T) {gm} {j j2:Nat} {xs ys:List Int} {e1 e2:TypeId} {p q:Int} (hl:xs.length<=1000) :
  zq tp T gm 82 [.agg [.sl j 0 xs.length,intA p],.agg [.sl j2 0 ys.length,intA q]] [(j,.cells (xs.map intA) e1 false),(j2,.cells (ys.map intA) e2 false)] (fun r K'=>r=zw (shorterM (xs,p) (ys,q))/\K'=[(j,.cells (xs.map intA) e1 false),(j2,.cells (ys.map intA) e2 false)]):=by
 refine zm 10 hT Tryz.func82 fun Y hret=>?_;refine au 21042 ?_;intro jx1 hjx1;refine au 210 ?_;intro jx2 hjx2;refine au 6906706906704235 ?_;refine TK.clE Z Z Z Z (u9 hT hl) ?_;refine au 35 ?_;refine bB hret [(j,_),(j2,_)] ?_;exact ⟨rfl,rfl⟩
end Go.Vel
namespace Go.Vel
open Go Go.Conc
theorem zbE:∀ (x y:List Int),lexM x y = -lexM y x
 | [],[]=>rfl
 | [],_::_=>rfl
 | _::_,[]=>rfl
 | a::x,b::y=>by
  have:=zbE x y;simp only [lexM];by_cases h1:a<b
  ·rw [if_pos h1,if_neg oQ,if_pos h1]
  ·rw [if_neg h1];by_cases h2:b<a
   ·rw [if_pos h2,if_pos h2]; rfl
   ·rw [if_neg h2,if_neg h2,if_neg h1,this]
theorem zeA:∀ (x y:List Int),lexM x y=0->x=y
 | [],[],_=>rfl
 | [],_::_,h=>by cases h
 | _::_,[],h=>by cases h
 | a::x,b::y,h=>by
  simp only [lexM] at h;split at h
  ·cases h
  ·split at h
   ·cases h
   ·rw [show a=b by omega,zeA x y h]
theorem zez:∀ x:List Int,lexM x x=0
 | []=>rfl
 | a::x=>by simp only [lexM]; rw [if_neg oQ,if_neg oQ]; exact zez x
theorem zdp:∀ (x y z:List Int),lexM x y<0->lexM y z<0->lexM x z<0
 | [],[],z,h,_=>by simp [lexM] at h
 | [],_::_,[],_,h=>by simp [lexM] at h
 | [],_::_,_::_,_,_=>by simp [lexM]
 | _::_,[],_,h,_=>by simp [lexM] at h
 | _::_,_::_,[],_,h=>by simp [lexM] at h
 | a::x,b::y,c::z,h1,h2=>by
  simp only [lexM] at h1 h2 ⊢;by_cases q1:a<b
  ·by_cases q2:b<c
   ·rw [if_pos oQ]; omega
   ·rw [if_neg q2] at h2;by_cases q3:c<b
    ·rw [if_pos q3] at h2; omega
    ·rw [if_pos oQ]; omega
  ·rw [if_neg q1] at h1;by_cases q4:b<a
   ·rw [if_pos q4] at h1; omega
   ·rw [if_neg q4] at h1;by_cases q2:b<c
    ·rw [if_pos oQ]; omega
    ·rw [if_neg q2] at h2;by_cases q3:c<b
     ·rw [if_pos q3] at h2; omega
     ·rw [if_neg q3] at h2;rw [if_neg oQ,if_neg oQ];exact zdp x y z h1 h2
theorem kx (x y:List Int):yz x y=true↔x.length<y.length\/(x.length=y.length/\lexM x y<0):=by
 unfold yz;simp
theorem zan {x y z:List Int} (h1:yz x y=true) (h2:yz y z=true):yz x z=true:=by
 rw [kx] at *
 rcases h1 with h1 | ⟨h1,h3⟩ <;> rcases h2 with h2 | ⟨h2,h4⟩
 ·left; omega
 ·left; omega
 ·left; omega
 ·right; exact ⟨by omega,zdp x y z h3 h4⟩
theorem zbs (x y:List Int):x=y\/yz x y=true\/yz y x=true:=by
 by_cases h1:x.length<y.length
 ·right; left; rw [kx]; exact .inl h1
 ·by_cases h2:y.length<x.length
  ·right; right; rw [kx]; exact .inl h2
  ·have e:x.length=y.length:=by omega
   have ha:=zbE x y;by_cases h3:lexM x y=0
   ·exact .inl (zeA x y h3)
   ·by_cases h4:lexM x y<0
    ·right; left; rw [kx]; exact .inr ⟨e,h4⟩
    ·right; right; rw [kx]; exact .inr ⟨e.symm,oQ⟩
theorem zaR {x y:List Int} (h:yz x y=true):yz y x=false:=by
 cases h2:yz y x with
 | false=>rfl
 | true =>
  rw [kx] at h h2;have:=zbE x y;omega
theorem we (p q:List Int×Int):cheaperM p q=true↔p.2<q.2\/(p.2=q.2/\yz p.1 q.1=true):=by
 unfold cheaperM;simp
theorem zdP (p q r:List Int×Int) (h1:cheaperM p q=true) (h2:cheaperM q r=true):cheaperM p r=true:=by
 rw [we] at *
 rcases h1 with h1 | ⟨h1,h3⟩ <;> rcases h2 with h2 | ⟨h2,h4⟩
 ·left; omega
 ·left; omega
 ·left; omega
 ·right; exact ⟨by omega,zan h3 h4⟩
theorem zfB (p q:List Int×Int):p=q\/cheaperM p q=true\/cheaperM q p=true:=by
 by_cases h1:p.2<q.2
 ·right; left; rw [we]; exact .inl h1
 ·by_cases h2:q.2<p.2
  ·right; right; rw [we]; exact .inl h2
  ·rcases zbs p.1 q.1 with h | h | h
   ·left; exact Prod.ext h oQ
   ·right; left; rw [we]; exact .inr ⟨by omega,h⟩
   ·right; right; rw [we]; exact .inr ⟨by omega,h⟩
theorem zam (p q r:List Int×Int) (h1:shorterM p q=true) (h2:shorterM q r=true):shorterM p r=true:=zan h1 h2
theorem zdV {b:RBk} (hb:ROk b) {l:List Int} (hl:CutsOk b l):∀ (o:List Int) (z:Alloc),(∀ k∈o,0<=k/\k<l.length)->0<=z.left->(∀ k,0<=z.steps.getD k 0/\z.steps.getD k 0<=9)->∀ k,0<=(o.foldl (allocM b l) z).steps.getD k 0/\(o.foldl (allocM b l) z).steps.getD k 0<=9
 | [],z,_,_,h=>h
 | k0::o,z,ho,hz,h=>by
  rw [List.foldl_cons];have h0:=ho k0 sQ;have hf:=hb.sms.fld _ (hl.lt (k:=k0.toNat) oQ).2.2;have key:∀ (v:Int),0<=v->v<=9->∀ k,0<=(z.steps.set k0.toNat v).getD k 0/\(z.steps.set k0.toNat v).getD k 0<=9:=fun v h1 h2 k=>by
   have hk:=h k;rw [lE] at hk;rw [lE,List.getElem?_set];split
   ·split
    ·simp only [Option.getD_some]; omega
    ·simp
   ·exact hk
  refine zdV hb hl o _ (fun k hk=>ho k (by simp [hk])) ?_ (key (min z.left (sm b (zL l k0.toNat).toNat).most) oQ oQ);show 0<=z.left - min z.left (sm b (zL l k0.toNat).toNat).most;omega
end Go.Vel
namespace Go.Vel
open Go Go.Conc Go.Proofs
theorem kC {x y:Int} (h:bar2 x y=0):y=0:=by
 have:=wb h;rwa [wc this] at h
theorem zbv {c:Nat}:∀ (i:Nat) (x:Int),x∈zu c i->0<=x/\x<i
 | 0,x,h=>by cases h
 | i+1,x,h=>by
  unfold zu at h;rcases List.mem_append.1 h with h | h
  ·have:=zbv i x h; omega
  ·split at h
   ·rw [lS.1 h]; omega
   ·cases h
theorem zd0 {c:Nat}:∀ i,(zu c i).Pairwise (· < ·)
 | 0=>.nil
 | i+1=>by
  unfold zu;refine List.pairwise_append.2 ⟨zd0 i,?_,fun x hx y hy=>?_⟩
  ·split <;> simp
  ·have:=zbv i x hx;split at hy
   ·rw [lS.1 hy]; omega
   ·cases hy
theorem vo {b:RBk} (hb:ROk b) {c:Nat} (h0:0<c) (hc:c<2 ^ b.seams.length):CutsOk b (zu c b.seams.length):=by
 have h5:=hb.sms.len;refine ⟨?_,fun n hn=>zbv _ n hn,zd0 _⟩;rcases Nat.eq_zero_or_pos (zu c b.seams.length).length with h | h
 ·have:=vX h5.2 hc (List.length_eq_zero_iff.1 h); omega
 ·exact h
theorem zjo {m c d:Nat} (hm:m<=5) (hc:c<2 ^ m) (hd:d<2 ^ m) (h:zu c m=zu d m):c=d:=by
 have key:∀ (m:Fin 6) (c d:Fin 32),c.1<2 ^ m.1->d.1<2 ^ m.1->zu c.1 m.1=zu d.1 m.1->c.1=d.1:=by decide +kernel
 have:2 ^ m<=2 ^ 5:=Nat.pow_le_pow_right dQ hm;exact key ⟨m,oQ⟩ ⟨c,oQ⟩ ⟨d,oQ⟩ hc hd h
theorem zaN {Ψ:Goroutine->World->Prop} {gm:Nat->Option Nat} {b:RBk} {s h e a:Nat} {all:List (List Int)} {gF:FuncId} {bt:List Int×Int->List Int×Int->Bool} (hb:ROk b) (ha:okAll b all) (hn:all.length<=243) (h0:0<all.length)
  (htr:∀ p q r,bt p q=true->bt q r=true->bt p r=true) (htot:∀ b1 c1,0<b1->b1<2 ^ b.seams.length->0<c1->c1<2 ^ b.seams.length->(zu b1 b.seams.length,sqHi b all (zu b1 b.seams.length))=(zu c1 b.seams.length,sqHi b all (zu c1 b.seams.length))\/bt (zu b1 b.seams.length,sqHi b all (zu b1 b.seams.length)) (zu c1 b.seams.length,sqHi b all (zu c1 b.seams.length))=true\/bt (zu c1 b.seams.length,sqHi b all (zu c1 b.seams.length)) (zu b1 b.seams.length,sqHi b all (zu b1 b.seams.length))=true)
  (hbt:∀ {T:Goroutine->Hp->Prop},zn tp false T->∀ (jr:Nat) (cs:List Int) (cost:Int) (cs0:List Int) (cost0:Int) (j0:Nat) (e0:TypeId),cs.length<=5->CallFK tp T gm (.fn gF [] []) [.agg [.sl jr 0 cs.length,.v (.int .i64 cost)],.agg [.sl j0 0 cs0.length,.v (.int .i64 cost0)]] [(jr,.cells (cs.map fun a=>.v (.int .i64 a)) 3 false),(j0,.cells (cs0.map fun a=>.v (.int .i64 a)) e0 false)] (fun r K'=>r=.v (.bool (bt (cs,cost) (cs0,cost0)))/\K'=[(jr,.cells (cs.map fun a=>.v (.int .i64 a)) 3 false),(j0,.cells (cs0.map fun a=>.v (.int .i64 a)) e0 false)])) :
  zq tp (BT tp Ψ) gm 80 [.agg (knownC b s h e a all.length),.fn gF [] []] [(s,zl b),(a,allO all)] (fun r K'=>PlanR [(s,zl b),(a,allO all)] b.seams.length bt (fun c=>sqHi b all (zu c b.seams.length)) (fun c=>sqOk b all (zu c b.seams.length)) r K'):=by
 refine zlY (lw:=fun c=>sqLo b all (zu c b.seams.length)) hb.sms.len (fun z hz=>?_) htr (fun b1 c1 h1 h2 h3 h4 _ _=>htot b1 c1 h1 h2 h3 h4) (fun c hc0 hc1 jr T hT=>?_) hbt
 ·simp only [List.mem_cons,List.not_mem_nil,or_false] at hz;rcases hz with rfl | rfl
  ·refine ⟨_,_,fun e=>?_,rfl⟩;have:=congrArg List.length e;rw [yy seamC 5 (fun _=>rfl)] at this;have h1:=hb.sms.len;have:b.seams.length*5=0:=this;omega
  ·refine ⟨_,_,fun e=>?_,rfl⟩;have:=congrArg List.length e;rw [yy stC 5 (fun _=>rfl)] at this;have:all.length*5=0:=this;omega
 ·exact zct hT (j:=jr) (et:=3) hb (vo hb hc0 hc1) ha hn h0
def canM (b:RBk) (l:List Int):Int:=if (waysM b (zh b) l).length=(zh b).length then 1 else if (waysM b (zh b) l).length=0 then 2 else 0
theorem zme {b:RBk} {all:List (List Int)} {l:List Int} (h:sqOk b all l=false):sqLo b all l=0/\sqHi b all l=0:=by
 unfold sqOk at h;unfold sqLo sqHi;cases hh:squaresM b all l with
 | none=>exact ⟨rfl,rfl⟩
 | some z=>rw [hh] at h; cases h
def newM (b:RBk):Int×Int:=spreadM ((zh b).map (yn b))
instance:TyZ tp 131 [.nilFunc]:={}
theorem zmy {main:Bool} {T:Goroutine->Hp->Prop} (hT:zn tp main T)  {b:RBk} {s h e j:Nat} {l:List Int} {et:TypeId} (hl:b.seams.length<=100) (hm:b.measures.length<=100) (hll:l.length<=1000) :
  zq tp T gmR 20 [.agg (zD b s h e),.sl j 0 l.length] [(0,zB),(s,zl b),(h,zF b),(e,zt b),(j,.cells (l.map intA) et false)] (fun r K'=>(bar2 (zx b) (cutsM b l)≠0/\r=.tup [.v (.slice none 0 0),intA (bar2 (zx b) (cutsM b l))]/\K'=[(0,zB),(s,zl b),(h,zF b),(e,zt b),(j,.cells (l.map intA) et false)])\/(bar2 (zx b) (cutsM b l)=0/\∃ jr,r=.tup [.row jr l.length,intA 0]/\K'=(jr,.row ((stripsM b l).flatMap pairC) 81 2)::[(0,zB),(s,zl b),(h,zF b),(e,zt b),(j,.cells (l.map intA) et false)])):=by
 refine zm 22 hT Tryz.func20 fun Y hret=>?_;refine au 21042 ?_;intro jb hjb;refine au 320168042355 ?_;refine bI Z Z Z (zp (l:=[_]) Z zE.h TyZ.h dQ dQ Z) (fun _=>zr rfl tQ) fun ja hja=>?_;refine bD Z Z Z Z (vB hT (Kx:=[(j,.cells (l.map intA) et false)]) (p1:=cutsM b l) hl hm (fun h0=>yJ Cal.h ((wv hT (zZ h0).sms.len.2 hll).frameP (R:=[(s,zl b)]) (List.Perm.swap _ _ _)))) ?_;rintro r1 K2 h3;rcases h3 with ⟨⟨hbar,rfl⟩ | ⟨hbar,rfl⟩,rfl⟩
 ·refine au 220661 ?_;intro j6 hj6;refine au 937142235170 ?_;constructor<;>intro hc0
  ·exact absurd hc0 sQ
  have hbb:=zZ (wb hbar);have hcc:=w9 (kC hbar);refine au 168042120 ?_;refine bD Z Z Z Z (zdJ hT hbb hcc) ?_;rintro r4 K5 ⟨jr,rfl,rfl⟩;refine au 355 ?_;refine bB hret [(jr,_),(0,_),(s,_),(h,_),(e,_),(j,_)] ?_;exact .inr ⟨hbar,jr,rfl,rfl⟩
 ·refine au 220661 ?_;intro j6 hj6;refine au 937142235170 ?_;constructor<;>intro hc0
  ·
   refine au 355142 ?_;refine bB hret [(0,_),(s,_),(h,_),(e,_),(j,_)] ?_;exact .inl ⟨hbar,rfl,rfl⟩
  exact absurd hbar (by simpa using hc0)
theorem zb1 {main:Bool} {T:Goroutine->Hp->Prop} (hT:zn tp main T)  {b:RBk} {s h e j:Nat} {l:List Int} {et:TypeId} (hl:b.seams.length<=100) (hm:b.measures.length<=100) (hll:l.length<=1000) :
  zq tp T gmR 21 [.agg (zD b s h e),.sl j 0 l.length] [(0,zB),(s,zl b),(h,zF b),(e,zt b),(j,.cells (l.map intA) et false)] (fun r K'=>r=.tup [zw (decide (bar2 (zx b) (cutsM b l)=0)&&fitsM b l),intA (bar2 (zx b) (cutsM b l))]/\K'=[(0,zB),(s,zl b),(h,zF b),(e,zt b),(j,.cells (l.map intA) et false)]):=by
 refine zm 22 hT Tryz.func21 fun Y hret=>?_;refine au 21042 ?_;intro jb hjb;refine au 320168042355 ?_;refine bI Z Z Z (zp (l:=[_]) Z zE.h TyZ.h dQ dQ Z) (fun _=>zr rfl tQ) fun ja hja=>?_;refine bD Z Z Z Z (vB hT (Kx:=[(j,.cells (l.map intA) et false)]) (p1:=cutsM b l) hl hm (fun h0=>yJ Cal.h ((wv hT (zZ h0).sms.len.2 hll).frameP (R:=[(s,zl b)]) (List.Perm.swap _ _ _)))) ?_;rintro r1 K2 h3;rcases h3 with ⟨⟨hbar,rfl⟩ | ⟨hbar,rfl⟩,rfl⟩
 ·refine au 220661 ?_;intro j6 hj6;refine au 937142235170 ?_;constructor<;>intro hc0
  ·exact absurd hc0 sQ
  have hbb:=zZ (wb hbar);have hcc:=w9 (kC hbar);refine au 168042120 ?_;refine TK.clE Z Z Z Z (zgc hT hbb hcc) ?_;refine au 355 ?_;refine bB hret [(0,_),(s,_),(h,_),(e,_),(j,_)] ?_;exact ⟨by rw [hbar]; simp,rfl⟩
 ·refine au 220661 ?_;intro j6 hj6;refine au 937142235170 ?_;constructor<;>intro hc0
  ·
   refine au 355142 ?_;refine bB hret [(0,_),(s,_),(h,_),(e,_),(j,_)] ?_;exact ⟨by rw [decide_eq_false hbar]; rfl,rfl⟩
  exact absurd hbar (by simpa using hc0)
theorem zd7 {main:Bool} {T:Goroutine->Hp->Prop} (hT:zn tp main T)  {b:RBk} {s h e j:Nat} {l:List Int} {et:TypeId} (hl:b.seams.length<=100) (hm:b.measures.length<=100) (hll:l.length<=1000) :
  zq tp T gmR 27 [.agg (zD b s h e),.sl j 0 l.length] [(0,zB),(s,zl b),(h,zF b),(e,zt b),(j,.cells (l.map intA) et false)] (fun r K'=>(bar2 (zx b) (cutsM b l)≠0/\r=.tup [intA 0,intA (bar2 (zx b) (cutsM b l))]/\K'=[(0,zB),(s,zl b),(h,zF b),(e,zt b),(j,.cells (l.map intA) et false)])\/(bar2 (zx b) (cutsM b l)=0/\zh b=[]/\r=.tup [intA 0,intA 9]/\K'=[(0,zB),(s,zl b),(h,zF b),(e,zt b),(j,.cells (l.map intA) et false)])\/(bar2 (zx b) (cutsM b l)=0/\zh b≠[]/\r=.tup [intA (canM b l),intA 0]/\K'=[(0,zB),(s,zl b),(h,zF b),(e,zt b),(j,.cells (l.map intA) et false)])):=by
 refine zm 30 hT Tryz.func27 fun Y hret=>?_;refine au 21042 ?_;intro jb hjb;refine au 320168042355 ?_;refine bI Z Z Z (zp (l:=[_]) Z zE.h TyZ.h dQ dQ Z) (fun _=>zr rfl tQ) fun ja hja=>?_;refine bD Z Z Z Z (zaF hT (Kx:=[(j,.cells (l.map intA) et false)]) (p1:=cutsM b l) (fun h0=>yJ Cal.h ((wv hT (zZ h0).sms.len.2 hll).frameP (R:=[(s,zl b)]) (List.Perm.swap _ _ _))) hl hm) ?_;rintro r1 K2 h3;rcases h3 with ⟨hbar,rfl,rfl⟩ | ⟨hbar,hnil,rfl,rfl⟩ | ⟨hbar,hne,a,rfl,rfl⟩
 ·refine au 220661 ?_;intro j6 hj6;refine au 937142235170 ?_;constructor<;>intro hc0
  ·
   refine au 355142 ?_;refine bB hret [(0,_),(s,_),(h,_),(e,_),(j,_)] ?_;exact .inl ⟨hbar,rfl,rfl⟩
  exact absurd hbar (by simpa using hc0)
 ·refine au 220661 ?_;intro j6 hj6;refine au 937142235170 ?_;constructor<;>intro hc0
  ·
   refine au 355142 ?_;refine bB hret [(0,_),(s,_),(h,_),(e,_),(j,_)] ?_;exact .inr (.inl ⟨hbar,hnil,rfl,rfl⟩)
  exact absurd hc0 dQ
 ·refine au 220661 ?_;intro j6 hj6;refine au 937142235170 ?_;constructor<;>intro hc0
  ·exact absurd hc0 sQ
  have hbb:=zZ (wb hbar);have hcc:=w9 (kC hbar);have hlen:=kH hbb;have hpos:0<(zh b).length:=List.length_pos_iff.2 hne;have hall:okAll b (zh b):=fun st hst=>(ki hbb hst).1;refine au 1680422120 ?_;refine bD Z Z Z Z (zgM hT hbb hcc hall hlen) ?_;rintro r4 K5 ⟨jr,ps,hps,rfl,rfl⟩;refine au 0 ?_;have hpl:ps.length=(waysM b (zh b) l).length:=by have:=congrArg List.length hps; rwa [lJ,lJ] at this
  refine au 9357280690670421303280 ?_;constructor<;>intro hc1
  ·refine au 35542 ?_;refine bB hret [(0,_),(s,_),(h,_),(e,_),(j,_)] ?_;exact .inr (.inr ⟨hbar,hne,by unfold canM; rw [if_pos (by have:=eq_of_beq hc1; omega)],rfl⟩)
  refine au 935742 ?_;constructor<;>intro hc2
  ·refine au 35542 ?_;refine bB hret [(0,_),(s,_),(h,_),(e,_),(j,_)] ?_;exact .inr (.inr ⟨hbar,hne,by unfold canM; rw [if_neg (by simp at hc1; omega),if_pos (by have:=eq_of_beq hc2; omega)],rfl⟩)
  refine au 35542140120 ?_;refine bB hret [(0,_),(s,_),(h,_),(e,_),(j,_)] ?_;exact .inr (.inr ⟨hbar,hne,by unfold canM; rw [if_neg (by simp at hc1; omega),if_neg (by rw [<- hpl]; simp at hc2; exact fun h=>hc2 (List.length_eq_zero_iff.1 h))],rfl⟩)
theorem zao {main:Bool} {T:Goroutine->Hp->Prop} (hT:zn tp main T)  {b:RBk} {s h e j:Nat} {l:List Int} {et:TypeId} (hl:b.seams.length<=100) (hm:b.measures.length<=100) (hll:l.length<=1000) :
  zq tp T gmR 32 [.agg (zD b s h e),.sl j 0 l.length] [(0,zB),(s,zl b),(h,zF b),(e,zt b),(j,.cells (l.map intA) et false)] (fun r K'=>(bar2 (zx b) (cutsM b l)≠0/\r=.tup [.agg [intA 0,intA 0],intA (bar2 (zx b) (cutsM b l))]/\K'=[(0,zB),(s,zl b),(h,zF b),(e,zt b),(j,.cells (l.map intA) et false)])\/(bar2 (zx b) (cutsM b l)=0/\zh b=[]/\r=.tup [.agg [intA 0,intA 0],intA 9]/\K'=[(0,zB),(s,zl b),(h,zF b),(e,zt b),(j,.cells (l.map intA) et false)])\/(bar2 (zx b) (cutsM b l)=0/\zh b≠[]/\r=.tup [.agg [intA (sqLo b (zh b) l),intA (sqHi b (zh b) l)],intA (if sqOk b (zh b) l=true then 0 else 8)]/\K'=[(0,zB),(s,zl b),(h,zF b),(e,zt b),(j,.cells (l.map intA) et false)])):=by
 refine zm 32 hT Tryz.func32 fun Y hret=>?_;refine au 21042 ?_;intro jb hjb;refine au 220 ?_;intro jr hjr;refine au 32016804235 ?_;refine bI Z Z Z (zp (l:=[_]) Z zE.h TyZ.h dQ dQ Z) (fun _=>zr rfl tQ) fun ja hja=>?_;refine bD Z Z Z Z (zaF hT (Kx:=[(j,.cells (l.map intA) et false)]) (p1:=cutsM b l) (fun h0=>yJ Cal.h ((wv hT (zZ h0).sms.len.2 hll).frameP (R:=[(s,zl b)]) (List.Perm.swap _ _ _))) hl hm) ?_;rintro r1 K2 h3;rcases h3 with ⟨hbar,rfl,rfl⟩ | ⟨hbar,hnil,rfl,rfl⟩ | ⟨hbar,hne,a,rfl,rfl⟩
 ·refine au 220661 ?_;intro j6 hj6;refine au 937142235170 ?_;constructor<;>intro hc0
  ·
   refine au 35170139042 ?_;refine bB hret [(0,_),(s,_),(h,_),(e,_),(j,_)] ?_;exact .inl ⟨hbar,rfl,rfl⟩
  exact absurd hbar (by simpa using hc0)
 ·refine au 220661 ?_;intro j6 hj6;refine au 937142235170 ?_;constructor<;>intro hc0
  ·
   refine au 35170139042 ?_;refine bB hret [(0,_),(s,_),(h,_),(e,_),(j,_)] ?_;exact .inr (.inl ⟨hbar,hnil,rfl,rfl⟩)
  exact absurd hc0 dQ
 ·refine au 220661 ?_;intro j6 hj6;refine au 937142235170 ?_;constructor<;>intro hc0
  ·exact absurd hc0 sQ
  have hbb:=zZ (wb hbar);have hcc:=w9 (kC hbar);have hlen:=kH hbb;have hpos:0<(zh b).length:=List.length_pos_iff.2 hne;have hall:okAll b (zh b):=fun st hst=>(ki hbb hst).1;refine au 168042120 ?_;refine TK.clE Z Z Z Z (zct hT hbb hcc hall hlen hpos) ?_;refine au 220661 ?_;intro j8 hj8;refine au 93300142235170 ?_;constructor<;>intro hc1
  ·refine au 3517039042 ?_;refine bB hret [(0,_),(s,_),(h,_),(e,_),(j,_)] ?_;exact .inr (.inr ⟨hbar,hne,by obtain ⟨q1,q2⟩:=zme (b:=b) (all:=zh b) (l:=l) (by simpa using hc1); rw [q1,q2,if_neg (by simpa using hc1)]; rfl,rfl⟩)
  refine au 3517068042120 ?_;refine bB hret [(0,_),(s,_),(h,_),(e,_),(j,_)] ?_;exact .inr (.inr ⟨hbar,hne,by rw [if_pos (by simpa using hc1)]; rfl,rfl⟩)
theorem zil {main:Bool} {T:Goroutine->Hp->Prop} (hT:zn tp main T)  {b:RBk} {s h e:Nat} (hl:b.seams.length<=100) (hm:b.measures.length<=100) :
  zq tp T gmR 26 [.agg (zD b s h e)] [(0,zB),(s,zl b),(h,zF b),(e,zt b)] (fun r K'=>(zx b≠0/\r=.tup [.agg [intA 0,intA 0],intA (zx b)]/\K'=[(0,zB),(s,zl b),(h,zF b),(e,zt b)])\/(zx b=0/\zh b=[]/\r=.tup [.agg [intA 0,intA 0],intA 9]/\K'=[(0,zB),(s,zl b),(h,zF b),(e,zt b)])\/(zx b=0/\zh b≠[]/\r=.tup [.agg [intA (newM b).1,intA (newM b).2],intA 0]/\K'=[(0,zB),(s,zl b),(h,zF b),(e,zt b)])):=by
 refine zm 39 hT Tryz.func26 fun Y hret=>?_;refine au 21042 ?_;intro jb hjb;refine au 220 ?_;intro jr hjr;refine au 6804235 ?_;refine bD Z Z Z Z (wL hT (Kx:=[]) hl hm) ?_;rintro r1 K2 h3;rcases h3 with ⟨hbar,rfl,rfl⟩ | ⟨hbar,hnil,rfl,rfl⟩ | ⟨hbar,hne,a,rfl,rfl⟩
 ·refine au 220661 ?_;intro j4 hj4;refine au 937142235170 ?_;constructor<;>intro hc0
  ·
   refine au 35170139042 ?_;refine bB hret [(0,_),(s,_),(h,_),(e,_)] ?_;exact .inl ⟨hbar,rfl,rfl⟩
  exact absurd hbar (by simpa using hc0)
 ·refine au 220661 ?_;intro j4 hj4;refine au 937142235170 ?_;constructor<;>intro hc0
  ·
   refine au 35170139042 ?_;refine bB hret [(0,_),(s,_),(h,_),(e,_)] ?_;exact .inr (.inl ⟨hbar,hnil,rfl,rfl⟩)
  exact absurd hc0 dQ
 ·refine au 220661 ?_;intro j4 hj4;refine au 937142235170 ?_;constructor<;>intro hc0
  ·exact absurd hc0 sQ
  have hbb:=zZ hbar;have hlen:=kH hbb;have hpos:0<(zh b).length:=List.length_pos_iff.2 hne;have hall:okAll b (zh b):=fun st hst=>(ki hbb hst).1;refine au 542120 ?_;refine TK.virt 6 3 1 Z fun jt0 hjt0=>?_;refine au 130312806906704223 ?_;refine bA [2,3,4,6,19,20,21] ?_;refine bC [(a,_),(0,_),(s,_),(h,_),(e,_),(j4,_),(jr,_),(jt0,_)] ?_;refine bE (fun n env K=>∃ (i jt:Nat),n=(zh b).length - i/\i<=(zh b).length/\env=naL 2 (.ptr jr 0::intA 0::.ptr j4 0::.any::.row jt i::naL 12 (.sl a 0 (zh b).length::intA (zh b).length::intA i::naL 17 []))/\K=[(a,allO (zh b)),(0,zB),(s,zl b),(h,zF b),(e,zt b),(j4,.cells (knownC b s h e a (zh b).length) 148 true),(jr,.cells [intA 0,intA 0] 28 true),(jt,.row ((((zh b).take i).map (yn b)).map intA) 3 1)]) (zh b).length ⟨0,jt0,rfl,mN _,rfl,rfl⟩ fun n env K hI hnext=>?_;obtain ⟨i,jt,rfl,hi,rfl,rfl⟩:=hI;refine bG nQ ?_;refine au 923742 ?_;constructor<;>intro hc1
  ·have hil:i<(zh b).length:=by simp at hc1; omega
   obtain ⟨st,hst⟩:∃ st,(zh b)[i]? =some st:=⟨_,lA hil⟩;have hsk:=hall st (lN hst);refine au 360421302120 ?_;refine bH Z (zK Z Z ze.h mQ (zbQ (i:=i) hst Z)) ?_;refine au 220 ?_;intro j8 hj8;refine au 680680670143170 ?_;refine bD Z Z Z Z (zed hT hbb hsk) ?_ (hs:=(.none _));rintro r4 K5 ⟨rfl,rfl⟩;refine au 0 ?_;refine bI Z Z Z (zp (l:=[_]) Z zE.h TyZ.h dQ dQ Z) (fun _=>zr rfl tQ) fun j7 hj7=>?_;refine bO Z Z Z (a_app Z ApOf.h Z mQ (by simp; omega) Z (yg (ln:=[_]) mQ dQ sQ Z) oQ Z (by unfold maxLen; omega) oQ) (fun _=>uQ) (fun _=>zr rfl tQ) fun jt2=>?_;refine au 31230414035 ?_;refine bA [2,3,4,6,19,20,21] ?_;refine bC [(a,_),(0,_),(s,_),(h,_),(e,_),(j4,_),(jr,_),(jt2,_)] ?_;exact hnext _ _ _ oQ ⟨i+1,jt2,rfl,oQ,rfl,by rw [yA hst,lM,lM]; rfl⟩
  obtain rfl:i=(zh b).length:=by simp at hc1; omega
  obtain ⟨x,xs,hxs⟩:∃ x xs,(zh b).map (yn b)=x::xs:=by
   cases hh:zh b with
   | nil=>exact absurd hh hne
   | cons y r=>exact ⟨_,_,rfl⟩
  have hxl:(zh b).length=xs.length+1:=by have:=congrArg List.length hxs; simpa using this
  rw [List.take_of_length_le (mL _),hxs,hxl];refine au 2160 ?_;refine bL [0,1,2,3,4,5,6,7] ?_;refine ad [[1,6]] ?_;refine bT [33] Z (hq:=kq Z Z Z zE.h (mC _) oQ oQ) (h:=?_);refine ad [[10,34],[1,6]] ?_;refine bT [36] Z (hq:=wZ Z Z zE.h (mC _) Z Z oQ oQ Z) (h:=?_);refine bQ (pend':=[⟨3,[6],[]⟩,⟨1,[33],[(_,_)]⟩,⟨0,[6],[]⟩]) [35,37] Z Z Z Z Z (zdI hT (x:=x) (xs:=xs) (off:=1) (ob:=.row ((x::xs).map intA) 3 1) (fun i y hy=>kY (l:=x::xs) (i:=i+1) (by simpa using hy) oQ) oQ) (fun r8 K9 h10=>⟨?_,?_⟩)
  ·rcases h10 with ⟨rfl,rfl⟩
   all_goals simp
  obtain ⟨rfl,rfl⟩:=h10;try simp only [cA]
  refine bS tQ ?_;refine bR (pend':=[]) [2,38] Z Z (zM Z Z ze.h Z Z mQ Z) ?_;refine ad [[13],[14]] ?_;refine au 0 ?_;refine bB hret [(0,_),(s,_),(h,_),(e,_)] ?_;exact .inr (.inr ⟨hbar,hne,by unfold newM; rw [hxs]; rfl,rfl⟩)
def atM (b:RBk) (l s w:List Int):Nat->Int
 | 0=>0
 | k+1=>atM b l s w k+(togM b s (zL l k).toNat (zL l (k+1) - zL l k).toNat+w.getD (k+1) 0)
def placesM (b:RBk) (l s w:List Int):List Int:=(List.range l.length).map (atM b l s w)
theorem zh2 {b:RBk} (hb:ROk b) {l s w:List Int} {q:Int} (hl:CutsOk b l) (hs:StOk b s) (h:hangM b l s=some (w,q)):w.length=l.length/\∀ k,0<=w.getD k 0/\w.getD k 0<=9:=by
 unfold hangM at h;split at h
 ·cases h
 ·dsimp only at h;split at h
  ·cases h
  ·cases h;have h0:=(uS hb hs).1;unfold allocA;refine ⟨by rw [zc4]; simp [alloc0],zdV hb hl _ _ (fun k hk=>ww hk) h0 fun k=>?_⟩;show 0<=(mB l.length (0:Int)).getD k 0/\_;have:(alloc0 b l (yn b s)).steps=mB l.length 0:=rfl;rw [this,lE,List.getElem?_replicate];split <;> simp
theorem zmx {b:RBk} {l:List Int} (hl:CutsOk b l) {k:Nat} (h:k+1<l.length):zL l k<zL l (k+1):=by
 have e1:=yb (l:=l) (k:=k) oQ;have e2:=yb h;have:=List.pairwise_iff_getElem.1 hl.asc k (k+1) oQ h oQ;rw [lA oQ] at e1;rw [lA h] at e2;rw [Option.some.inj e1,Option.some.inj e2] at this;exact this
theorem at_bd {b:RBk} (hb:ROk b) {l s w:List Int} (hl:CutsOk b l) (hs:StOk b s) (hw:∀ k,0<=w.getD k 0/\w.getD k 0<=9):∀ k,k<l.length->0<=atM b l s w k/\atM b l s w k<=129*k
 | 0,_=>by simp [atM]
 | k+1,h=>by
  have h1:=at_bd hb hl hs hw k oQ;have h2:=hw (k+1);have h3:=zaY hb hs (c:=(zL l k).toNat) (zL l (k+1) - zL l k).toNat;have h4:=hl.lt (k:=k) oQ;have h5:=hl.lt h;have h6:=hb.sms.len;unfold atM;omega
theorem zdD {b:RBk} (hb:ROk b) {all:List (List Int)} (b1 c1:Nat) (h1:0<b1) (h2:b1<2 ^ b.seams.length) (h3:0<c1) (h4:c1<2 ^ b.seams.length):(zu b1 b.seams.length,sqHi b all (zu b1 b.seams.length))=(zu c1 b.seams.length,sqHi b all (zu c1 b.seams.length))\/shorterM (zu b1 b.seams.length,sqHi b all (zu b1 b.seams.length)) (zu c1 b.seams.length,sqHi b all (zu c1 b.seams.length))=true\/shorterM (zu c1 b.seams.length,sqHi b all (zu c1 b.seams.length)) (zu b1 b.seams.length,sqHi b all (zu b1 b.seams.length))=true:=by
 rcases zbs (zu b1 b.seams.length) (zu c1 b.seams.length) with h | h | h
 ·left;rw [zjo hb.sms.len.2 h2 h4 h]
 ·exact .inr (.inl h)
 ·exact .inr (.inr h)
def PlanA (b:RBk) (all:List (List Int)) (bt:List Int×Int->List Int×Int->Bool) (c:Nat):Prop:=0<c/\c<2 ^ b.seams.length/\sqOk b all (zu c b.seams.length)=true/\∀ d,0<d->d<2 ^ b.seams.length->sqOk b all (zu d b.seams.length)=true->(zu d b.seams.length,sqHi b all (zu d b.seams.length))=(zu c b.seams.length,sqHi b all (zu c b.seams.length))\/bt (zu c b.seams.length,sqHi b all (zu c b.seams.length)) (zu d b.seams.length,sqHi b all (zu d b.seams.length))=true
def NoPlan (b:RBk) (all:List (List Int)):Prop:=∀ d,0<d->d<2 ^ b.seams.length->sqOk b all (zu d b.seams.length)=false
def atRound (b:RBk) (r:Int):RBk:={ b with round:=r }
theorem zar {b:RBk} (hb:ROk b) {r:Int} (h1:b.steps<=r) (h2:r<=40):ROk (atRound b r):=⟨⟨hb.rnd.steps,⟨h1,h2⟩,hb.rnd.roll,hb.rnd.rolls⟩,⟨hb.sms.len,hb.sms.fld,hb.sms.asc⟩,⟨hb.cls.len,hb.cls.bnd⟩,⟨hb.mes.len,hb.mes.bnd⟩⟩
theorem zf3 {b:RBk} {all:List (List Int)} (h:okAll b all) (r:Int):okAll (atRound b r) all:=fun s hs=>⟨(h s hs).len,(h s hs).bnd⟩
def canAt (b:RBk) (all:List (List Int)) (r:Int):Bool:=(List.range (2 ^ b.seams.length)).any fun c=>decide (0<c)&&sqOk (atRound b r) all (zu c b.seams.length)
def widestL (b:RBk) (all:List (List Int)):Nat->Option Int
 | 0=>none
 | k+1=>if canAt b all (b.steps+k)=true then some (b.steps+k) else widestL b all k
def widestM (b:RBk) (all:List (List Int)):Option Int:=widestL b all (41 - b.steps).toNat
theorem zk7 {b:RBk} {all:List (List Int)} {r:Int} {c:Nat} (h0:0<c) (h1:c<2 ^ b.seams.length) (h:sqOk (atRound b r) all (zu c b.seams.length)=true):canAt b all r=true:=by
 unfold canAt;rw [List.any_eq_true];exact ⟨c,List.mem_range.2 h1,by simp [h0,h]⟩
theorem zk6 {b:RBk} {all:List (List Int)} {r:Int} (h:∀ c,0<c->c<2 ^ b.seams.length->sqOk (atRound b r) all (zu c b.seams.length)=false):canAt b all r=false:=by
 unfold canAt;rw [List.any_eq_false];intro c hc;by_cases h0:0<c
 ·rw [h c h0 (List.mem_range.1 hc)]; simp
 ·simp [h0]
theorem zhb {main:Bool} {T:Goroutine->Hp->Prop} (hT:zn tp main T)  {b:RBk} {s h e j j2:Nat} {l st:List Int} {et et2:TypeId} (hl:b.seams.length<=100) (hm:b.measures.length<=100) (hll:l.length<=1000) :
  zq tp T gmR 22 [.agg (zD b s h e),.sl j 0 l.length,.sl j2 0 st.length] [(0,zB),(s,zl b),(h,zF b),(e,zt b),(j,.cells (l.map intA) et false),(j2,.cells (st.map intA) et2 false)] (fun r K'=>(bar2 (zx b) (bar2 (cutsM b l) (shM b st))≠0/\r=.tup [.v (.slice none 0 0),intA 0,zw false,intA (bar2 (zx b) (bar2 (cutsM b l) (shM b st)))]/\K'=[(0,zB),(s,zl b),(h,zF b),(e,zt b),(j,.cells (l.map intA) et false),(j2,.cells (st.map intA) et2 false)])\/(bar2 (zx b) (bar2 (cutsM b l) (shM b st))=0/\hangM b l st=none/\r=.tup [.v (.slice none 0 0),intA 0,zw false,intA 0]/\K'=[(0,zB),(s,zl b),(h,zF b),(e,zt b),(j,.cells (l.map intA) et false),(j2,.cells (st.map intA) et2 false)])\/(bar2 (zx b) (bar2 (cutsM b l) (shM b st))=0/\∃ w q jw,hangM b l st=some (w,q)/\r=.tup [.sl jw 0 w.length,intA q,zw true,intA 0]/\K'=(jw,.cells (w.map intA) 3 false)::[(0,zB),(s,zl b),(h,zF b),(e,zt b),(j,.cells (l.map intA) et false),(j2,.cells (st.map intA) et2 false)])):=by
 refine zm 38 hT Tryz.func22 fun Y hret=>?_;refine au 21042 ?_;intro jb hjb;refine au 320132016804235555 ?_;refine bI Z Z Z (zp (l:=[_,_]) Z zE.h TyZ.h dQ dQ Z) (fun _=>zr rfl tQ) fun ja hja=>?_;refine bD Z Z Z Z (zcf hT (Kx:=[(j,.cells (l.map intA) et false),(j2,.cells (st.map intA) et2 false)]) (p1:=cutsM b l) (p2:=shM b st) hl hm (fun h0=>yJ Cal.h ((wv hT (zZ h0).sms.len.2 hll).frameP (R:=[(s,zl b),(j2,.cells (st.map intA) et2 false)]) (List.Perm.swap _ _ _))) (fun h0=>yJ Cal.h ((zfg hT (zZ h0).rnd (zZ h0).sms).frameP (R:=[(j,.cells (l.map intA) et false)]) ((List.Perm.swap _ _ _).cons _)))) ?_;rintro r1 K2 h3;rcases h3 with ⟨⟨hbar,rfl⟩ | ⟨hbar,rfl⟩,rfl⟩
 ·refine au 220661 ?_;intro j6 hj6;refine au 937142235170 ?_;constructor<;>intro hc0
  ·exact absurd hc0 sQ
  have hbb:=zZ (wb hbar);have hcc:=w9 (wb (kC hbar));have hss:=ziU (kC (kC hbar));have h5:=hbb.sms.len;have hsl:=hss.len;refine au 2120 ?_;refine bL [0,1,2,3,4,5,6,8,9,7,10] ?_;refine ad [[12,10],[1,1],[1,2]] ?_;refine TD.c2 (i1:=3) (i2:=8) (pend1:=[⟨1,[1],[]⟩,⟨0,[10],[(_,_)]⟩]) (pend2:=[⟨2,[2],[]⟩,⟨1,[1],[]⟩,⟨0,[10],[(_,_)]⟩]) (L1:=[4,5,6,7,8,9,10]) (L2:=[3,4,5,6,7,9,10]) [28] [] Z Z Z Z Z Z Z ?_ ?_
  ·refine kc Z Z Cal.h Z (zac hT oQ oQ) (by repeat (first | exact Split.none _ | exact Split.all _ | (apply Split.rem; repeat (first | exact Rem.head | apply Rem.tail)) | apply Split.right)) fun r4 K5 h6=>⟨?_,?_⟩
   ·rcases h6 with ⟨rfl,rfl⟩
    all_goals simp
   obtain ⟨rfl,rfl⟩:=h6;try simp only [cA]
   refine bS (env':=[_,_,_,_,_,_,_,_,_,_,_,_,_,_,_,_,_,_,_,_,_,_,_,_,_,_,_,_,_,_,_,_,_,_,_,_,_,_]) Z ?_;refine TD.c2 (i1:=4) (i2:=8) (pend1:=[]) (pend2:=[⟨1,[1],[]⟩,⟨0,[10],[(_,_)]⟩]) (L1:=[5,6,7,8,9,10]) (L2:=[4,5,6,7,9,10]) [26,27,29] [] Z Z Z Z Z Z Z ?_ ?_
   ·refine kc Z Z Cal.h Z ((vF hT hbb hcc hss).mono (fun _ _ h=>vc h)) (by repeat (first | exact Split.none _ | exact Split.all _ | (apply Split.rem; repeat (first | exact Rem.head | apply Rem.tail)) | apply Split.right)) fun r7 K8 h9=>⟨?_,?_⟩
    ·rcases h9 with ⟨hno,rfl,rfl⟩ | ⟨w,q,jw,hso,rfl,rfl⟩;all_goals simp
    rcases h9 with ⟨hno,rfl,rfl⟩ | ⟨w,q,jw,hso,rfl,rfl⟩
    ·try simp only [cA]
     refine bS (env':=[_,_,_,_,_,_,_,_,_,_,_,_,_,_,_,_,_,_,_,_,_,_,_,_,_,_,_,_,_,_,_,_,_,_,_,_,_,_]) Z ?_;refine ad [[1,30],[5,25],[5,25]] ?_;refine bX (pend':=[⟨7,[25],[]⟩,⟨6,[25],[]⟩,⟨5,[30],[]⟩]) [] Z Z Z Z Z (yC Z TyZA.h) (fun _=>zr rfl tQ) sQ fun j8 hj8=>?_;refine bR (pend':=[⟨7,[25],[]⟩]) [11,31] Z Z (zM Z Z ze.h Z Z mQ Z) ?_;refine ad [[13,32],[14]] ?_;refine au 2 ?_;refine bL [0,1,5,2,3,6,4,7,8] ?_;refine ad [[3,11],[10,33],[3,11],[10,35],[1,8]] ?_;refine TD.as (pend':=[⟨4,[8],[]⟩,⟨3,[35],[(_,_)]⟩,⟨2,[11],[]⟩]) [34] Z Z (zy Z Z) ?_;refine TD.as (pend':=[⟨4,[8],[]⟩]) [36] Z Z (zy Z Z) ?_;refine ad [[13,37],[13],[14]] ?_;refine au 0 ?_;refine bB hret [(0,_),(s,_),(h,_),(e,_),(j,_),(j2,_)] ?_;exact .inr (.inl ⟨hbar,hno,rfl,rfl⟩)
    ·try simp only [cA]
     refine bS (env':=[_,_,_,_,_,_,_,_,_,_,_,_,_,_,_,_,_,_,_,_,_,_,_,_,_,_,_,_,_,_,_,_,_,_,_,_,_,_]) Z ?_;refine ad [[1,30],[5,25],[5,25]] ?_;refine bX (pend':=[⟨7,[25],[]⟩,⟨6,[25],[]⟩,⟨5,[30],[]⟩]) [] Z Z Z Z Z (yC Z TyZA.h) (fun _=>zr rfl tQ) sQ fun j8 hj8=>?_;refine bR (pend':=[⟨7,[25],[]⟩]) [11,31] Z Z (zM Z Z ze.h Z Z mQ Z) ?_;refine ad [[13,32],[14]] ?_;refine au 2 ?_;refine bL [0,1,5,2,3,6,4,7,8] ?_;refine ad [[3,11],[10,33],[3,11],[10,35],[1,8]] ?_;refine TD.as (pend':=[⟨4,[8],[]⟩,⟨3,[35],[(_,_)]⟩,⟨2,[11],[]⟩]) [34] Z Z (zy Z Z) ?_;refine TD.as (pend':=[⟨4,[8],[]⟩]) [36] Z Z (zy Z Z) ?_;refine ad [[13,37],[13],[14]] ?_;refine au 0 ?_;refine bB hret [(jw,_),(0,_),(s,_),(h,_),(e,_),(j,_),(j2,_)] ?_;exact .inr (.inr ⟨hbar,w,q,jw,hso,rfl,rfl⟩)
   ·refine kB Z (yC Z TyZA.h) (fun _=>zr rfl tQ) sQ fun j8 hj8=>?_;refine bQ (pend':=[]) [26,27,29] Z Z Z Z Z ((vF hT hbb hcc hss).mono (fun _ _ h=>vc h)) (fun r10 K11 h12=>⟨?_,?_⟩)
    ·rcases h12 with ⟨hno,rfl,rfl⟩ | ⟨w,q,jw,hso,rfl,rfl⟩;all_goals simp
    rcases h12 with ⟨hno,rfl,rfl⟩ | ⟨w,q,jw,hso,rfl,rfl⟩
    ·try simp only [cA]
     refine bS tQ ?_;refine ad [[1,30],[5,25],[5,25]] ?_;refine bR (pend':=[⟨7,[25],[]⟩]) [11,31] Z Z (zM Z Z ze.h Z Z mQ Z) ?_;refine ad [[13,32],[14]] ?_;refine au 2 ?_;refine bL [0,1,5,2,3,6,4,7,8] ?_;refine ad [[3,11],[10,33],[3,11],[10,35],[1,8]] ?_;refine TD.as (pend':=[⟨4,[8],[]⟩,⟨3,[35],[(_,_)]⟩,⟨2,[11],[]⟩]) [34] Z Z (zy Z Z) ?_;refine TD.as (pend':=[⟨4,[8],[]⟩]) [36] Z Z (zy Z Z) ?_;refine ad [[13,37],[13],[14]] ?_;refine au 0 ?_;refine bB hret [(0,_),(s,_),(h,_),(e,_),(j,_),(j2,_)] ?_;exact .inr (.inl ⟨hbar,hno,rfl,rfl⟩)
    ·try simp only [cA]
     refine bS tQ ?_;refine ad [[1,30],[5,25],[5,25]] ?_;refine bR (pend':=[⟨7,[25],[]⟩]) [11,31] Z Z (zM Z Z ze.h Z Z mQ Z) ?_;refine ad [[13,32],[14]] ?_;refine au 2 ?_;refine bL [0,1,5,2,3,6,4,7,8] ?_;refine ad [[3,11],[10,33],[3,11],[10,35],[1,8]] ?_;refine TD.as (pend':=[⟨4,[8],[]⟩,⟨3,[35],[(_,_)]⟩,⟨2,[11],[]⟩]) [34] Z Z (zy Z Z) ?_;refine TD.as (pend':=[⟨4,[8],[]⟩]) [36] Z Z (zy Z Z) ?_;refine ad [[13,37],[13],[14]] ?_;refine au 0 ?_;refine bB hret [(jw,_),(0,_),(s,_),(h,_),(e,_),(j,_),(j2,_)] ?_;exact .inr (.inr ⟨hbar,w,q,jw,hso,rfl,rfl⟩)
  ·refine kB Z (yC Z TyZA.h) (fun _=>zr rfl tQ) sQ fun j8 hj8=>?_;refine bQ (pend':=[⟨1,[1],[]⟩,⟨0,[10],[(_,_)]⟩]) [28] Z Z Z Z Z (zac hT oQ oQ) (fun r13 K14 h15=>⟨?_,?_⟩)
   ·rcases h15 with ⟨rfl,rfl⟩
    all_goals simp
   obtain ⟨rfl,rfl⟩:=h15;try simp only [cA]
   refine bS tQ ?_;refine bQ (pend':=[]) [26,27,29] Z Z Z Z Z ((vF hT hbb hcc hss).mono (fun _ _ h=>vc h)) (fun r16 K17 h18=>⟨?_,?_⟩)
   ·rcases h18 with ⟨hno,rfl,rfl⟩ | ⟨w,q,jw,hso,rfl,rfl⟩;all_goals simp
   rcases h18 with ⟨hno,rfl,rfl⟩ | ⟨w,q,jw,hso,rfl,rfl⟩
   ·try simp only [cA]
    refine bS tQ ?_;refine ad [[1,30],[5,25],[5,25]] ?_;refine bR (pend':=[⟨7,[25],[]⟩]) [11,31] Z Z (zM Z Z ze.h Z Z mQ Z) ?_;refine ad [[13,32],[14]] ?_;refine au 2 ?_;refine bL [0,1,5,2,3,6,4,7,8] ?_;refine ad [[3,11],[10,33],[3,11],[10,35],[1,8]] ?_;refine TD.as (pend':=[⟨4,[8],[]⟩,⟨3,[35],[(_,_)]⟩,⟨2,[11],[]⟩]) [34] Z Z (zy Z Z) ?_;refine TD.as (pend':=[⟨4,[8],[]⟩]) [36] Z Z (zy Z Z) ?_;refine ad [[13,37],[13],[14]] ?_;refine au 0 ?_;refine bB hret [(0,_),(s,_),(h,_),(e,_),(j,_),(j2,_)] ?_;exact .inr (.inl ⟨hbar,hno,rfl,rfl⟩)
   ·try simp only [cA]
    refine bS tQ ?_;refine ad [[1,30],[5,25],[5,25]] ?_;refine bR (pend':=[⟨7,[25],[]⟩]) [11,31] Z Z (zM Z Z ze.h Z Z mQ Z) ?_;refine ad [[13,32],[14]] ?_;refine au 2 ?_;refine bL [0,1,5,2,3,6,4,7,8] ?_;refine ad [[3,11],[10,33],[3,11],[10,35],[1,8]] ?_;refine TD.as (pend':=[⟨4,[8],[]⟩,⟨3,[35],[(_,_)]⟩,⟨2,[11],[]⟩]) [34] Z Z (zy Z Z) ?_;refine TD.as (pend':=[⟨4,[8],[]⟩]) [36] Z Z (zy Z Z) ?_;refine ad [[13,37],[13],[14]] ?_;refine au 0 ?_;refine bB hret [(jw,_),(0,_),(s,_),(h,_),(e,_),(j,_),(j2,_)] ?_;exact .inr (.inr ⟨hbar,w,q,jw,hso,rfl,rfl⟩)
 ·refine au 220661 ?_;intro j6 hj6;refine au 937142235170 ?_;constructor<;>intro hc0
  ·
   refine au 35555142 ?_;refine bB hret [(0,_),(s,_),(h,_),(e,_),(j,_),(j2,_)] ?_;exact .inl ⟨hbar,rfl,rfl⟩
  exact absurd hbar (by simpa using hc0)
theorem zeQ {main:Bool} {T:Goroutine->Hp->Prop} (hT:zn tp main T)  {b:RBk} {s h e j j2:Nat} {l st:List Int} {et et2:TypeId} (hl:b.seams.length<=100) (hm:b.measures.length<=100) (hll:l.length<=1000) :
  zq tp T gmR 23 [.agg (zD b s h e),.sl j 0 l.length,.sl j2 0 st.length] [(0,zB),(s,zl b),(h,zF b),(e,zt b),(j,.cells (l.map intA) et false),(j2,.cells (st.map intA) et2 false)] (fun r K'=>(bar2 (zx b) (bar2 (cutsM b l) (shM b st))≠0/\r=.tup [.v (.slice none 0 0),zw false,intA (bar2 (zx b) (bar2 (cutsM b l) (shM b st)))]/\K'=[(0,zB),(s,zl b),(h,zF b),(e,zt b),(j,.cells (l.map intA) et false),(j2,.cells (st.map intA) et2 false)])\/(bar2 (zx b) (bar2 (cutsM b l) (shM b st))=0/\hangM b l st=none/\r=.tup [.v (.slice none 0 0),zw false,intA 0]/\K'=[(0,zB),(s,zl b),(h,zF b),(e,zt b),(j,.cells (l.map intA) et false),(j2,.cells (st.map intA) et2 false)])\/(bar2 (zx b) (bar2 (cutsM b l) (shM b st))=0/\∃ w q jr,hangM b l st=some (w,q)/\r=.tup [.row jr l.length,zw true,intA 0]/\K'=(jr,.row ((placesM b l st w).map intA) 3 1)::[(0,zB),(s,zl b),(h,zF b),(e,zt b),(j,.cells (l.map intA) et false),(j2,.cells (st.map intA) et2 false)])):=by
 refine zm 77 hT Tryz.func23 fun Y hret=>?_;refine au 21042 ?_;intro jb hjb;refine au 32013201680423555 ?_;refine bI Z Z Z (zp (l:=[_,_]) Z zE.h TyZ.h dQ dQ Z) (fun _=>zr rfl tQ) fun ja hja=>?_;refine bD Z Z Z Z (zcf hT (Kx:=[(j,.cells (l.map intA) et false),(j2,.cells (st.map intA) et2 false)]) (p1:=cutsM b l) (p2:=shM b st) hl hm (fun h0=>yJ Cal.h ((wv hT (zZ h0).sms.len.2 hll).frameP (R:=[(s,zl b),(j2,.cells (st.map intA) et2 false)]) (List.Perm.swap _ _ _))) (fun h0=>yJ Cal.h ((zfg hT (zZ h0).rnd (zZ h0).sms).frameP (R:=[(j,.cells (l.map intA) et false)]) ((List.Perm.swap _ _ _).cons _)))) ?_;rintro r1 K2 h3;rcases h3 with ⟨⟨hbar,rfl⟩ | ⟨hbar,rfl⟩,rfl⟩
 ·refine au 220661 ?_;intro j6 hj6;refine au 937142235170 ?_;constructor<;>intro hc0
  ·exact absurd hc0 sQ
  have hbb:=zZ (wb hbar);have hcc:=w9 (wb (kC hbar));have hss:=ziU (kC (kC hbar));have h5:=hbb.sms.len;have hsl:=hss.len;refine au 142120 ?_;refine TK.clE Z Z Z Z (zac hT oQ oQ) ?_;refine au 220 ?_;intro js hjs;refine au 6801680423170 ?_;refine bD Z Z Z Z ((vF hT hbb hcc hss).mono (fun _ _ h=>vc h)) ?_;rintro r7 K8 h9;rcases h9 with ⟨hno,rfl,rfl⟩ | ⟨w,q,jw,hso,rfl,rfl⟩
  ·refine au 220661 ?_;intro jw8 hjw8;refine au 93300142235170 ?_;constructor<;>intro hc1
   ·
    refine au 355542 ?_;refine bB hret [(0,_),(s,_),(h,_),(e,_),(j,_),(j2,_)] ?_;exact .inr (.inl ⟨hbar,hno,rfl,rfl⟩)
   exact absurd hc1 dQ
  ·refine au 220661 ?_;intro jw8 hjw8;refine au 93300142235170 ?_;constructor<;>intro hc1
   ·exact absurd hc1 dQ
   obtain ⟨hwl,hwb⟩:=zh2 hbb hcc hss hso;refine au 542120 ?_;refine TK.virt 6 3 1 Z fun jr0 hjr0=>?_;refine au 1303128014223 ?_;refine bA [1,6,9,10,11,12,39,40,41] ?_;refine bC [(0,_),(s,_),(h,_),(e,_),(j,_),(j2,_),(jw,_),(jw8,_),(js,_),(j6,_),(jr0,_)] ?_;refine bE (fun n env K=>∃ (i jr:Nat) (at0:Int),n=l.length - i/\i<=l.length/\(i<l.length->at0+(if i=0 then 0 else togM b st (zL l (i - 1)).toNat (zL l i - zL l (i - 1)).toNat+zL w i)=atM b l st w i)/\(0<=at0/\at0<=1000)/\env=.any::.sl j 0 l.length::naL 4 (.row jr i::naL 2 (.ptr j6 0::.ptr js 0::.ptr jw8 0::intA at0::naL 26 (.sl j 0 l.length::intA l.length::intA i::naL 35 [])))/\K=[(0,zB),(s,zl b),(h,zF b),(e,zt b),(j,.cells (l.map intA) et false),(j2,.cells (st.map intA) et2 false),(jw,.cells (w.map intA) 3 false),(jw8,.cells [.sl jw 0 w.length,intA q] 137 true),(js,.cells (stC st) 141 true),(j6,.cells (zD b s h e) 128 true),(jr,.row (((List.range i).map (atM b l st w)).map intA) 3 1)]) l.length ⟨0,jr0,0,rfl,mN _,fun _=>rfl,⟨Int.le_refl _,by decide⟩,rfl,rfl⟩ fun n env K hI hnext=>?_;obtain ⟨i,jr,at0,rfl,hi,hat,hatb,rfl,rfl⟩:=hI;refine bG nQ ?_;refine au 923742 ?_;constructor<;>intro hc2
   ·have hil:i<l.length:=by simp at hc2; omega
    have qi:=hcc.lt hil;have hcl:=hcc.len;refine au 3601421302120 ?_;refine bH Z (zk Z Z ze.h mQ (yr (i:=i) (yb hil) Z)) ?_;refine au 9371422355 ?_;constructor<;>intro hc3
    ·have hi0:0<i:=by simp at hc3; omega
     have qp:=hcc.lt (k:=i - 1) oQ;have hlt:=zmx hcc (k:=i - 1) oQ;rw [show i - 1+1=i by omega] at hlt;have htb:=zaY hbb hss (c:=(zL l (i - 1)).toNat) (zL l i - zL l (i - 1)).toNat;have hwi:0<=zL w i/\zL w i<=9:=hwb i;have hnew:=hat hil;rw [if_neg oQ] at hnew;refine TK.dr [0,1,2,3,4,5,6,7,8,9,10,11,12,13,14,16,17,18,19,20,15,21,22,23] [0,1,2,3,4,5,6,7,8,9,10,11,12,13,14,15,16,17,18,19,20,21,22,23] ?_;refine ad [[1,12],[12,9],[1,1],[1,13],[9,51],[2,50,52]] ?_;refine bT [53] Z (hq:=zk Z Z ze.h (mC _) (yr (i:=i - 1) (yb oQ) oQ)) (h:=?_);refine ad [[1,14],[1,1],[1,13],[9,57],[2,56,58]] ?_;refine bT [59] Z (hq:=zk Z Z ze.h (mC _) (yr (i:=i - 1) (yb oQ) oQ)) (h:=?_);refine ad [[9,55,60],[12,10],[3,11],[10,64],[1,13],[2,65,66]] ?_;refine bT [67] Z (hq:=zk Z Z ze.h (mC _) (yr (i:=i) (yb (l:=w) oQ) Z)) (h:=?_);refine bQ (pend':=[⟨20,[67],[(_,_)]⟩,⟨19,[65,66],[]⟩,⟨18,[13],[]⟩,⟨17,[64],[(_,_)]⟩,⟨16,[11],[]⟩,⟨12,[59],[(_,_)]⟩,⟨11,[56,58],[]⟩,⟨10,[57],[]⟩,⟨9,[13],[]⟩,⟨8,[1],[]⟩,⟨7,[14],[]⟩,⟨5,[50,52],[]⟩,⟨4,[51],[]⟩,⟨3,[13],[]⟩,⟨2,[1],[]⟩,⟨0,[12],[]⟩]) [49,54,61,62] Z Z Z Z Z (zi9 hT (c:=zL l (i - 1)) (k:=zL l i - zL l (i - 1)) hbb hss oQ oQ) (fun r10 K11 h12=>⟨?_,?_⟩)
     ·rcases h12 with ⟨rfl,rfl⟩
      all_goals simp
     obtain ⟨rfl,rfl⟩:=h12;try simp only [cA]
     refine bS tQ ?_;refine ad [[8,63,68],[8,48,69],[13,70],[14]] ?_;refine au 114 ?_;refine bI Z Z Z (zp (l:=[_]) Z zE.h TyZ.h dQ dQ Z) (fun _=>zr rfl tQ) fun j13 hj13=>?_;refine bO Z Z Z (a_app Z ApOf.h Z mQ sQ Z (yg (ln:=[_]) mQ dQ sQ Z) oQ Z (by unfold maxLen; omega) oQ) (fun _=>uQ) (fun _=>zr rfl tQ) fun jr2=>?_;refine au 31230414035 ?_;refine bA [1,6,9,10,11,12,39,40,41] ?_;refine bC [(0,_),(s,_),(h,_),(e,_),(j,_),(j2,_),(jw,_),(jw8,_),(js,_),(j6,_),(jr2,_)] ?_;exact hnext _ _ _ oQ ⟨i+1,jr2,atM b l st w i,rfl,oQ,fun hh=>by rw [if_neg oQ]; rfl,by have:=at_bd hbb hcc hss hwb i hil; omega,by rw [hnew]; rfl,by rw [hnew,List.range_succ,lM,lM]; rfl⟩
    obtain rfl:i=0:=by simp at hc3; omega
    have hnew:at0=atM b l st w 0:=by have:=hat hil; rw [if_pos rfl,Int.add_zero] at this; exact this
    refine au 114120 ?_;refine bI Z Z Z (zp (l:=[_]) Z zE.h TyZ.h dQ dQ Z) (fun _=>zr rfl tQ) fun j14 hj14=>?_;refine bO Z Z Z (a_app Z ApOf.h Z mQ sQ Z (yg (ln:=[_]) mQ dQ sQ Z) oQ Z (by unfold maxLen; omega) oQ) (fun _=>uQ) (fun _=>zr rfl tQ) fun jr2=>?_;refine au 31230414035 ?_;refine bA [1,6,9,10,11,12,39,40,41] ?_;refine bC [(0,_),(s,_),(h,_),(e,_),(j,_),(j2,_),(jw,_),(jw8,_),(js,_),(j6,_),(jr2,_)] ?_;exact hnext _ _ _ oQ ⟨0+1,jr2,atM b l st w 0,rfl,oQ,fun hh=>by rw [if_neg oQ]; rfl,by have:=at_bd hbb hcc hss hwb 0 hil; omega,by rw [hnew]; rfl,by rw [hnew,List.range_succ,lM,lM]; rfl⟩
   obtain rfl:i=l.length:=by simp at hc2; omega
   refine au 3555142160 ?_;refine bB hret [(jr,_),(0,_),(s,_),(h,_),(e,_),(j,_),(j2,_)] ?_;exact .inr (.inr ⟨hbar,w,q,jr,hso,rfl,rfl⟩)
 ·refine au 220661 ?_;intro j6 hj6;refine au 937142235170 ?_;constructor<;>intro hc0
  ·
   refine au 3555142 ?_;refine bB hret [(0,_),(s,_),(h,_),(e,_),(j,_),(j2,_)] ?_;exact .inl ⟨hbar,rfl,rfl⟩
  exact absurd hbar (by simpa using hc0)
theorem za3 {Ψ:Goroutine->World->Prop} {b:RBk} {s h e:Nat} (hl:b.seams.length<=100) (hm:b.measures.length<=100) :
  zq tp (BT tp Ψ) gmR 33 [.agg (zD b s h e)] [(0,zB),(s,zl b),(h,zF b),(e,zt b)] (fun r K'=>(zx b≠0/\r=.tup [.v (.slice none 0 0),intA 0,zw false,intA (zx b)]/\K'=[(0,zB),(s,zl b),(h,zF b),(e,zt b)])\/(zx b=0/\zh b=[]/\r=.tup [.v (.slice none 0 0),intA 0,zw false,intA 9]/\K'=[(0,zB),(s,zl b),(h,zF b),(e,zt b)])\/(zx b=0/\zh b≠[]/\((NoPlan b (zh b)/\r=.tup [.v (.slice none 0 0),intA 0,zw false,intA 0]/\K'=[(0,zB),(s,zl b),(h,zF b),(e,zt b)])\/∃ c jc ec,PlanA b (zh b) cheaperM c/\r=.tup [.sl jc 0 (zu c b.seams.length).length,intA (sqHi b (zh b) (zu c b.seams.length)),zw true,intA 0]/\K'=(jc,.cells ((zu c b.seams.length).map intA) ec false)::[(0,zB),(s,zl b),(h,zF b),(e,zt b)]))):=by
 have hT:=kz (P:=tp) Ψ;refine zm 26 hT Tryz.func33 fun Y hret=>?_;refine au 21042 ?_;intro jb hjb;refine au 6804235555 ?_;refine bD Z Z Z Z (wL hT (Kx:=[]) hl hm) ?_;rintro r1 K2 h3;rcases h3 with ⟨hbar,rfl,rfl⟩ | ⟨hbar,hnil,rfl,rfl⟩ | ⟨hbar,hne,a,rfl,rfl⟩
 ·refine au 220661 ?_;intro j6 hj6;refine au 937142235170 ?_;constructor<;>intro hc0
  ·
   refine au 35555142 ?_;refine bB hret [(0,_),(s,_),(h,_),(e,_)] ?_;exact .inl ⟨hbar,rfl,rfl⟩
  exact absurd hbar (by simpa using hc0)
 ·refine au 220661 ?_;intro j6 hj6;refine au 937142235170 ?_;constructor<;>intro hc0
  ·
   refine au 35555142 ?_;refine bB hret [(0,_),(s,_),(h,_),(e,_)] ?_;exact .inr (.inl ⟨hbar,hnil,rfl,rfl⟩)
  exact absurd hc0 dQ
 ·refine au 220661 ?_;intro j6 hj6;refine au 937142235170 ?_;constructor<;>intro hc0
  ·exact absurd hc0 sQ
  have hbb:=zZ hbar;have hlen:=kH hbb;have hpos:0<(zh b).length:=List.length_pos_iff.2 hne;have hall:okAll b (zh b):=fun st hst=>(ki hbb hst).1;refine au 68042120 ?_;refine bD Z Z Z Z (zaN (bt:=cheaperM) hbb hall hlen hpos zdP (fun _ _ _ _ _ _=>zfB _ _) (fun hT1 jr cs cost cs0 cost0 j0 e0 hlen=>yJ Cal.h (zgW hT1 oQ))) ?_;rintro r4 K5 h6;rcases h6 with ⟨rfl,rfl,hno⟩ | ⟨c,jc,ec,hq0,hq1,hok,hbest,rfl,rfl⟩
  ·refine au 220661 ?_;intro j7 hj7;refine au 235170 ?_;refine bL [0,1,5,2,3,6,4,7,8] ?_;refine ad [[3,7],[10,21],[3,7],[10,23],[1,4]] ?_;refine TD.as (pend':=[⟨4,[4],[]⟩,⟨3,[23],[(_,_)]⟩,⟨2,[7],[]⟩]) [22] Z Z (zy Z Z) ?_;refine TD.as (pend':=[⟨4,[4],[]⟩]) [24] Z Z (zy Z Z) ?_;refine ad [[13,25],[13],[14]] ?_;refine au 0 ?_;refine bB hret [(0,_),(s,_),(h,_),(e,_)] ?_;exact .inr (.inr ⟨hbar,hne,.inl ⟨hno,rfl,rfl⟩⟩)
  ·refine au 220661 ?_;intro j7 hj7;refine au 235170 ?_;refine bL [0,1,5,2,3,6,4,7,8] ?_;refine ad [[3,7],[10,21],[3,7],[10,23],[1,4]] ?_;refine TD.as (pend':=[⟨4,[4],[]⟩,⟨3,[23],[(_,_)]⟩,⟨2,[7],[]⟩]) [22] Z Z (zy Z Z) ?_;refine TD.as (pend':=[⟨4,[4],[]⟩]) [24] Z Z (zy Z Z) ?_;refine ad [[13,25],[13],[14]] ?_;refine au 0 ?_;refine bB hret [(jc,_),(0,_),(s,_),(h,_),(e,_)] ?_;exact .inr (.inr ⟨hbar,hne,.inr ⟨c,jc,ec,⟨hq0,hq1,hok,hbest⟩,rfl,rfl⟩⟩)
theorem wj {Ψ:Goroutine->World->Prop} {b:RBk} {s h e:Nat} (hl:b.seams.length<=100) (hm:b.measures.length<=100) :
  zq tp (BT tp Ψ) gmR 34 [.agg (zD b s h e)] [(0,zB),(s,zl b),(h,zF b),(e,zt b)] (fun r K'=>(zx b≠0/\r=.tup [.v (.slice none 0 0),zw false,intA (zx b)]/\K'=[(0,zB),(s,zl b),(h,zF b),(e,zt b)])\/(zx b=0/\zh b=[]/\r=.tup [.v (.slice none 0 0),zw false,intA 9]/\K'=[(0,zB),(s,zl b),(h,zF b),(e,zt b)])\/(zx b=0/\zh b≠[]/\((NoPlan b (zh b)/\r=.tup [.v (.slice none 0 0),zw false,intA 0]/\K'=[(0,zB),(s,zl b),(h,zF b),(e,zt b)])\/∃ c jc ec,PlanA b (zh b) shorterM c/\r=.tup [.sl jc 0 (zu c b.seams.length).length,zw true,intA 0]/\K'=(jc,.cells ((zu c b.seams.length).map intA) ec false)::[(0,zB),(s,zl b),(h,zF b),(e,zt b)]))):=by
 have hT:=kz (P:=tp) Ψ;refine zm 23 hT Tryz.func34 fun Y hret=>?_;refine au 21042 ?_;intro jb hjb;refine au 680423555 ?_;refine bD Z Z Z Z (wL hT (Kx:=[]) hl hm) ?_;rintro r1 K2 h3;rcases h3 with ⟨hbar,rfl,rfl⟩ | ⟨hbar,hnil,rfl,rfl⟩ | ⟨hbar,hne,a,rfl,rfl⟩
 ·refine au 220661 ?_;intro j6 hj6;refine au 937142235170 ?_;constructor<;>intro hc0
  ·
   refine au 3555142 ?_;refine bB hret [(0,_),(s,_),(h,_),(e,_)] ?_;exact .inl ⟨hbar,rfl,rfl⟩
  exact absurd hbar (by simpa using hc0)
 ·refine au 220661 ?_;intro j6 hj6;refine au 937142235170 ?_;constructor<;>intro hc0
  ·
   refine au 3555142 ?_;refine bB hret [(0,_),(s,_),(h,_),(e,_)] ?_;exact .inr (.inl ⟨hbar,hnil,rfl,rfl⟩)
  exact absurd hc0 dQ
 ·refine au 220661 ?_;intro j6 hj6;refine au 937142235170 ?_;constructor<;>intro hc0
  ·exact absurd hc0 sQ
  have hbb:=zZ hbar;have hlen:=kH hbb;have hpos:0<(zh b).length:=List.length_pos_iff.2 hne;have hall:okAll b (zh b):=fun st hst=>(ki hbb hst).1;refine au 68042120 ?_;refine bD Z Z Z Z (zaN (bt:=shorterM) hbb hall hlen hpos zam (zdD hbb) (fun hT1 jr cs cost cs0 cost0 j0 e0 hlen=>yJ Cal.h (zcp hT1 oQ))) ?_;rintro r4 K5 h6;rcases h6 with ⟨rfl,rfl,hno⟩ | ⟨c,jc,ec,hq0,hq1,hok,hbest,rfl,rfl⟩
  ·refine au 220661 ?_;intro j7 hj7;refine au 355516906704235170 ?_;refine bB hret [(0,_),(s,_),(h,_),(e,_)] ?_;exact .inr (.inr ⟨hbar,hne,.inl ⟨hno,rfl,rfl⟩⟩)
  ·refine au 220661 ?_;intro j7 hj7;refine au 355516906704235170 ?_;refine bB hret [(jc,_),(0,_),(s,_),(h,_),(e,_)] ?_;exact .inr (.inr ⟨hbar,hne,.inr ⟨c,jc,ec,⟨hq0,hq1,hok,hbest⟩,rfl,rfl⟩⟩)
theorem wu {Ψ:Goroutine->World->Prop} {b:RBk} {s h e:Nat} (hl:b.seams.length<=100) (hm:b.measures.length<=100) :
  zq tp (BT tp Ψ) gmR 35 [.agg (zD b s h e)] [(0,zB),(s,zl b),(h,zF b),(e,zt b)] (fun r K'=>(zx b≠0/\r=.tup [intA 0,zw false,intA (zx b)]/\K'=[(0,zB),(s,zl b),(h,zF b),(e,zt b)])\/(zx b=0/\zh b=[]/\r=.tup [intA 0,zw false,intA 9]/\K'=[(0,zB),(s,zl b),(h,zF b),(e,zt b)])\/(zx b=0/\zh b≠[]/\r=.tup [intA ((widestM b (zh b)).getD 0),zw (widestM b (zh b)).isSome,intA 0]/\K'=[(0,zB),(s,zl b),(h,zF b),(e,zt b)])):=by
 have hT:=kz (P:=tp) Ψ;refine zm 33 hT Tryz.func35 fun Y hret=>?_;refine au 21042 ?_;intro jb hjb;refine au 680423555 ?_;refine bD Z Z Z Z (wL hT (Kx:=[]) hl hm) ?_;rintro r1 K2 h3;rcases h3 with ⟨hbar,rfl,rfl⟩ | ⟨hbar,hnil,rfl,rfl⟩ | ⟨hbar,hne,a,rfl,rfl⟩
 ·refine au 220661 ?_;intro j5 hj5;refine au 937142235170 ?_;constructor<;>intro hc0
  ·
   refine au 3555142 ?_;refine bB hret [(0,_),(s,_),(h,_),(e,_)] ?_;exact .inl ⟨hbar,rfl,rfl⟩
  exact absurd hbar (by simpa using hc0)
 ·refine au 220661 ?_;intro j5 hj5;refine au 937142235170 ?_;constructor<;>intro hc0
  ·
   refine au 3555142 ?_;refine bB hret [(0,_),(s,_),(h,_),(e,_)] ?_;exact .inr (.inl ⟨hbar,hnil,rfl,rfl⟩)
  exact absurd hc0 dQ
 ·refine au 220661 ?_;intro j5 hj5;refine au 937142235170 ?_;constructor<;>intro hc0
  ·exact absurd hc0 sQ
  have hbb:=zZ hbar;have hlen:=kH hbb;have hpos:0<(zh b).length:=List.length_pos_iff.2 hne;have hall:okAll b (zh b):=fun st hst=>(ki hbb hst).1;have hst:=hbb.rnd.steps;refine au 13035422120 ?_;refine bA [1,2,3,4,5] ?_;refine bC [(a,_),(0,_),(s,_),(h,_),(e,_),(jb,_),(j5,_)] ?_;refine bE (fun n env K=>∃ (k:Nat) (r0:Int),n=k/\b.steps+k<=41/\widestL b (zh b) k=widestM b (zh b)/\env=.any::.ptr jb 0::intA (b.steps+(k:Int) - 1)::zw false::intA 0::.ptr j5 0::naL 27 []/\K=[(a,allO (zh b)),(0,zB),(s,zl b),(h,zF b),(e,zt b),(jb,.cells (zD b s h e) 26 true),(j5,.cells (knownC (atRound b r0) s h e a (zh b).length) 148 true)]) (41 - b.steps).toNat ⟨(41 - b.steps).toNat,b.round,rfl,oQ,rfl,by rw [show b.steps+((41 - b.steps).toNat:Int) - 1=40 by omega]; rfl,rfl⟩ fun n env K hI hnext=>?_;obtain ⟨k1,r0,hn1,hk,hw,rfl,rfl⟩:=hI;subst n;refine bG nQ ?_;refine au 9376906701422 ?_;constructor<;>intro hc1
  ·obtain ⟨k,rfl⟩:∃ k,k1=k+1:=⟨k1 - 1,by simp at hc1; omega⟩;have hkk:b.steps+((k+1:Nat):Int) - 1=b.steps+(k:Int):=by omega
   rw [hkk];refine au 6804231706706706701421302120 ?_;refine bD Z Z Z Z (zaN (b:=atRound b (b.steps+k)) (bt:=shorterM) (zar hbb oQ oQ) (zf3 hall _) hlen hpos zam (zdD (zar hbb oQ oQ)) (fun hT1 jr cs cost cs0 cost0 j0 e0 hlen=>yJ Cal.h (zcp hT1 oQ))) ?_;rintro r4 K5 h6;rcases h6 with ⟨rfl,rfl,hno⟩ | ⟨c,jc,ec,hq0,hq1,hok,hbest,rfl,rfl⟩
   ·refine au 220661 ?_;intro j7 hj7;refine au 9314235170 ?_;constructor<;>intro hc2
    ·cases hc2
    refine au 3524014140120 ?_;refine bA [1,2,3,4,5] ?_;refine bC [(a,_),(0,_),(s,_),(h,_),(e,_),(jb,_),(j5,_)] ?_;exact hnext _ _ _ oQ ⟨k,b.steps+(k:Int),rfl,oQ,by rw [<- hw,show widestL b (zh b) (k+1)=widestL b (zh b) k from if_neg (by rw [zk6 (b:=b) hno]; decide)],rfl,rfl⟩
   ·refine au 220661 ?_;intro j7 hj7;refine au 9314235170 ?_;constructor<;>intro hc2
    ·
     refine au 3555142 ?_;refine bB hret [(0,_),(s,_),(h,_),(e,_)] ?_;exact .inr (.inr ⟨hbar,hne,by rw [<- hw,show widestL b (zh b) (k+1)=some (b.steps+k) from if_pos (zk7 hq0 hq1 hok)]; rfl,rfl⟩)
    cases hc2
  obtain rfl:k1=0:=by simp at hc1; omega
  refine au 355542160 ?_;refine bB hret [(0,_),(s,_),(h,_),(e,_)] ?_;exact .inr (.inr ⟨hbar,hne,by rw [<- hw]; rfl,rfl⟩)
theorem uA:tp.underlying 141=some (.array 5 3):=by kernel_rfl
theorem u3:tp.underlying 3=some (.int .i64):=by kernel_rfl
theorem i3:tp.info? 3=some Tryz.t3:=by kernel_rfl
theorem i3s:Tryz.t3.size=1:=by kernel_rfl
theorem zci {P:Program} {t:TypeId} {i:TypeInfo} (h:P.info? t=some i):zJ P (sizeOf t)=some i.size:=by
 unfold sizeOf typeInfo
 show zJ P ((match P.info? t with | some i=>pure i | none=>stuck "no such type") >>= fun i=>pure i.size)=_
 rw [h]; rfl
theorem zmA {d:Nat} {a b:Int}:zJ tp (Op.equalIn (d+1) 3 (.int .i64 a) (.int .i64 b))=some (a==b):=by
 unfold Op.equalIn;exact zH (z6 u3) rfl
theorem kM {cs:Array Value} {off:Nat} {v:Value} (h:cs[off]? =some v):zJ tp (part 3 cs off)=some v:=by
 unfold part isAgg;refine zH (a:=false) ?_ ?_
 ·exact zH (z6 u3) rfl
 ·simp [h]; rfl
theorem zak {α β:Type} {P:Program} (s:Sem α) (f:α->Sem β):zJ P (s >>= f)=(zJ P s).bind fun a=>zJ P (f a):=by
 show zJ P (s.bind f)=_
 induction s with
 | pure a=>rfl
 | program k ih=>exact ih P
 | _=>rfl
theorem zcj {α:Type} {P:Program} (a:α):zJ P (pure a)=some a:=rfl
def stV (s:List Int):Value:=.agg #[.int .i64 (s.getD 0 0),.int .i64 (s.getD 1 0),.int .i64 (s.getD 2 0),.int .i64 (s.getD 3 0),.int .i64 (s.getD 4 0)]
def eqSt (s t:List Int):Bool:=(s.getD 0 0==t.getD 0 0)&&((s.getD 1 0==t.getD 1 0)&&((s.getD 2 0==t.getD 2 0)&&((s.getD 3 0==t.getD 3 0)&&(s.getD 4 0==t.getD 4 0))))
theorem zmz {d:Nat} {a0 a1 a2 a3 a4 b0 b1 b2 b3 b4:Int}:zJ tp (Op.equalIn (d+2) 141 (.agg #[.int .i64 a0,.int .i64 a1,.int .i64 a2,.int .i64 a3,.int .i64 a4]) (.agg #[.int .i64 b0,.int .i64 b1,.int .i64 b2,.int .i64 b3,.int .i64 b4]))=some (a0==b0&&(a1==b1&&(a2==b2&&(a3==b3&&a4==b4)))):=by
 unfold Op.equalIn;refine zH (z6 uA) ?_;dsimp only;refine zH (zci i3) ?_;rw [i3s];simp only [Std.Legacy.Range.forIn_eq_forIn_range',Std.Legacy.Range.size,Nat.sub_zero,Nat.add_sub_cancel,Nat.div_one];simp [List.range'];have p0:=fun a b c d e:Value=>kM (cs:=#[a,b,c,d,e]) (off:=0) rfl;have p1:=fun a b c d e:Value=>kM (cs:=#[a,b,c,d,e]) (off:=1) rfl;have p2:=fun a b c d e:Value=>kM (cs:=#[a,b,c,d,e]) (off:=2) rfl;have p3:=fun a b c d e:Value=>kM (cs:=#[a,b,c,d,e]) (off:=3) rfl;have p4:=fun a b c d e:Value=>kM (cs:=#[a,b,c,d,e]) (off:=4) rfl;have e:=fun a b:Int=>zmA (d:=d) (a:=a) (b:=b);rcases h1:(a0==b0) <;> rcases h2:(a1==b1) <;> rcases h3:(a2==b2) <;> rcases h4:(a3==b3) <;> rcases h5:(a4==b4) <;> simp [zak,zcj,p0,p1,p2,p3,p4,e,h1,h2,h3,h4,h5]
theorem eq_st (s t:List Int):zJ tp (Op.equal 141 (stV s) (stV t))=some (eqSt s t):=zmz (d:=9998)
theorem zhO {d:Nat} {e:Bool} {a:Int}:zJ tp (Instr.checkKey e (d+1) 3 (.int .i64 a))=some ():=by
 unfold Instr.checkKey;exact zH (z6 u3) rfl
theorem zjt {e:Bool} (s:List Int):zJ tp (Instr.checkKey e 10000 141 (stV s))=some ():=by
 show zJ tp (Instr.checkKey e (9998+2) 141 (stV s))=some ();unfold Instr.checkKey;refine zH (z6 uA) ?_;unfold stV;dsimp only;simp only [Std.Legacy.Range.forIn_eq_forIn_range',Std.Legacy.Range.size,Nat.sub_zero,Nat.add_sub_cancel,Nat.div_one];simp [List.range'];have p0:=fun a b c d e:Value=>kM (cs:=#[a,b,c,d,e]) (off:=0) rfl;have p1:=fun a b c d e:Value=>kM (cs:=#[a,b,c,d,e]) (off:=1) rfl;have p2:=fun a b c d e:Value=>kM (cs:=#[a,b,c,d,e]) (off:=2) rfl;have p3:=fun a b c d e:Value=>kM (cs:=#[a,b,c,d,e]) (off:=3) rfl;have p4:=fun a b c d e:Value=>kM (cs:=#[a,b,c,d,e]) (off:=4) rfl;have hs:zJ tp (sizeOf 3)=some 1:=by rw [zci i3,i3s]
 have ck:=fun (e:Bool) (a:Int)=>zhO (d:=9998) (e:=e) (a:=a);simp [zak,zcj,p0,p1,p2,p3,p4,hs,ck]
theorem zdZ {s:List Int}:∀ (es:List MapEntry) (ks:List (List Int)) (i:Nat),es.map (·.key)=ks.map stV->(∀ t∈ks,eqSt s t=false)->zJ tp (Instr.findAsking 141 (stV s) es i)=some none
 | [],_,_,_,_=>rfl
 | en::es,[],_,h,_=>by simp at h
 | en::es,t::ks,i,h,hk=>by
  simp only [List.map_cons,List.cons.injEq] at h;unfold Instr.findAsking;refine zH (a:=false) ?_ ?_
  ·rw [h.1,eq_st,hk t sQ]
  ·simp only [Bool.false_eq_true,if_false];exact zdZ es ks (i+1) h.2 fun t ht=>hk t (by simp [ht])
def MapS (ob:Obj) (ks:List (List Int)):Prop:=∃ es clock,ob=.map es clock/\es.toList.map (·.key)=ks.map stV
def upS (ob:Obj) (s:List Int):Obj:=match ob with
 | .map es clock=>.map (es.push { key:=stV s,val:=.bool true,born:=clock }) (clock+1)
 | ob=>ob
theorem zj4:MapS (.map #[] 0) []:=⟨#[],0,rfl,rfl⟩
theorem zlD {ob:Obj} {ks:List (List Int)} {s:List Int} (h:MapS ob ks):MapS (upS ob s) (ks++[s]):=by
 obtain ⟨es,c,rfl,h⟩:=h;exact ⟨_,_,rfl,by rw [Array.toList_push,lM,lM,h]; rfl⟩
section
variable {P:Program} {gm:Nat->Option Nat} {V:KV} {env:List AV} {o:Oper}
structure KeyOk (P:Program):Prop where
 u:P.underlying 141=some (.array 5 3)
 ck:∀ s,zJ P (Instr.checkKey false 10000 141 (stV s))=some ()
 fa:∀ (s:List Int) (es:List MapEntry) (ks:List (List Int)) (i:Nat),es.map (·.key)=ks.map stV->(∀ t∈ks,eqSt s t=false)->zJ P (Instr.findAsking 141 (stV s) es i)=some none
theorem keyOk:KeyOk tp:=⟨uA,zjt,fun s es ks i=>zdZ es ks i⟩
theorem zmG {φ:Nat->Loc3} {n:Nat} {s:List Int} {y:Value} (h:RelV φ n (.agg (stC s)) y):y=stV s:=by
 obtain ⟨ys,rfl,h1,h2⟩:=zbb h;have hsz:ys.size=5:=h1.symm;have g:∀ i:Nat,i<5->ys[i]? =some (.int .i64 (s.getD i 0)):=fun i hi=>by
  have hy:ys[i]? =some ys[i]:=mD oQ;have hs:(stC s)[i]? =some (slotR s i):=by
   have:i=0\/i=1\/i=2\/i=3\/i=4:=by omega
   rcases this with rfl | rfl | rfl | rfl | rfl <;> rfl
  have:=inv_v (h2 i _ _ hs hy);rw [hy,this]
 unfold stV;congr 1;refine Array.ext (by simpa using hsz) fun i hi1 hi2=>?_;have h5:i<5:=by omega
 have hh:=g i h5;rw [mD hi1] at hh;rw [Option.some.inj hh];have:i=0\/i=1\/i=2\/i=3\/i=4:=by omega
 rcases this with rfl | rfl | rfl | rfl | rfl <;> rfl
theorem ze2 (hP:KeyOk P) {t et:TypeId} {x y:Operand} {j:Nat} {ob:Obj} {s:List Int} {ks:List (List Int)} (ho:o.op=.mapUpdate t x y (.const (.bool true))) (hx:zo gm env x=some (.map j)) (hy:zo gm env y=some (.agg (stC s))) (ht:P.underlying t=some (.map 141 et)) (hm:(j,.raw ob)∈V) (hf:MapS ob ks) (hn:∀ k∈ks,eqSt s k=false) :
  ∀ A,zR V A->OpOk P gm env A o .any (A.set j (.raw (upS ob s))):=fun A hA φ F H a hg hH hE=>by
 unfold execOp; rw [ho];refine wpS_u ?_;have h1:=zC hg hE x;rw [zA hx] at h1;obtain ⟨hj,e1⟩:=vd h1;have h2:=zC hg hE y;rw [zA hy] at h2;rw [e1,zmG h2];obtain ⟨es,c,rfl,hk⟩:=hf;have hb:H (φ j).blk=some (true,.map es c):=hH.obj j _ (hA.get hm);have hend:zY φ A F .any (A.set j (.raw (upS (.map es c) s))) .skip (H.put (φ j).blk (true,upS (.map es c) s)) :=
  ⟨undef,φ,.inr ⟨rfl,rfl⟩,Agr.refl _ _,by simp,hH.set (hA.get hm) rfl trivial (Hp.put_same _ _ _),.any _⟩
 unfold Instr.mapUpdate;refine zc _ _ _ (zG ht ?_);dsimp only;refine zc _ _ _ ?_;refine ⟨true,_,hb,rfl,rfl,?_⟩;refine zc _ _ _ (kE _ (hP.ck s) ?_);refine zc _ _ _ ?_;unfold Instr.findKey;refine zc _ _ _ (zG hP.u ?_);have key:∀ (Q:Option (Nat×Value)->Hp->Prop),Q none H->wpS P (match Instr.findNow (.array 5 3) (stV s) es.toList 0 with | some r=>pure r | none=>Instr.findAsking 141 (stV s) es.toList) H Q:=fun Q hq=>by
  cases hes:es.toList with
  | nil=>exact hq
  | cons en r =>
   have:Instr.findNow (.array 5 3) (stV s) (en::r) 0=none:=rfl;rw [this];exact kE _ (hP.fa s _ ks 0 (by rw [<- hes]; exact hk) hn) hq
 refine key _ ?_;refine ⟨_,hb,rfl,rfl,?_⟩;exact hend
theorem ziJ {t kt et:TypeId} {x:Operand} {j:Nat} {ob:Obj} {ks:List (List Int)} (ho:o.op=.call { callee:=.builtin .len,args:=#[x],argTypes:=#[t] }) (hx:zo gm env x=some (.map j)) (ht:P.underlying t=some (.map kt et)) (hm:(j,.raw ob)∈V) (hf:MapS ob ks) :
  Qk P gm env V o (.v (.int .i64 ks.length)):=fun A hA φ F H a hg hH hE=>by
 rw [yM ho];have h1:=zC hg hE x;rw [zA hx] at h1;obtain ⟨hj,e1⟩:=vd h1;obtain ⟨es,c,rfl,hk⟩:=hf;have hb:H (φ j).blk=some (true,.map es c):=hH.obj j _ (hA.get hm);simp only [builtin,List.map_toArray,List.map_cons,List.map_nil,e1];refine wpS_v ?_;show wpS _ (underlying t >>= _) H _;refine zc _ _ _ (zG ht ?_);refine zc _ _ _ ?_;refine ⟨true,_,hb,rfl,rfl,?_⟩;have hl:es.size=ks.length:=by have:=congrArg List.length hk; simpa using this
 show zY _ _ _ _ _ (.value (goInt es.size)) H;rw [hl];exact zY.quiet hH (.v _)
end
end Go.Vel
end
