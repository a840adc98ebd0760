/- Texts for the statements of chapter 8: what all of them need, part 7. It holds of every program, tape and world that the statements name, as each theorem says. -/
import Derived.Test.YtfplagcfmdkakaaGreatDoorN1
import Derived.Test.YtfplagcfmdkakaaGreatDoorN5
section
set_option linter.all false
set_option maxRecDepth 20000
set_option maxHeartbeats 60000000
open Go.Proofs.Tryz renaming prog -> tp
open List renaming getElem?_eq_getElem -> lA, getD_eq_getElem?_getD -> lE, length_append -> lF, perm_append_comm -> lH, length_map -> lJ, map_append -> lM, mem_of_getElem? -> lN, append_nil -> lR, mem_singleton -> lS, mem_append -> lT, take_length -> lW, length_cons -> lZ, replicate -> mB
open List.Mem renaming head -> mC
open Nat renaming le_refl -> mL, zero_le -> mN, le_trans -> mT
open Int renaming toNat_natCast -> mZ
open Go.Vel.TK renaming maskL -> bA, rt -> bB, kp -> bC, cl -> bD, loopN -> bE, sp -> bF, na -> bG, a -> bH, newR -> bI, dq -> bL, perm -> bN, appR -> bO, frzRow -> bY
open Go.Vel.TD renaming cl -> bQ, s -> bR, norm -> bS, y -> bT, z -> bU, cnewP -> bX
namespace Go.Vel
open Go Go.Conc Go.Proofs
theorem zdB {n:Nat} (h:n<256):IntKind.u64.wrap (n:Int)=n:=by
 have:∀ n:Nat,n<256->IntKind.u64.wrap (n:Int)=n:=by decide +kernel
 exact this n h
theorem zkv {n:Nat} (h:n<256):IntKind.u8.wrap (n:Int)=n:=by
 have:∀ n:Nat,n<256->IntKind.u8.wrap (n:Int)=n:=by decide +kernel
 exact this n h
theorem zlP {s:ByteArray} {n:Nat} (hn:n<256) (h:s.size=256):s[n]? =some (s[n]'oQ):=getElem?_pos s n oQ
theorem ziY (c:UInt8):IntKind.i64.wrap (c.toNat:Int)=c.toNat:=ky (by have:=c.toNat_lt; omega)
theorem zi7 (c:UInt8) : -9223372036854775808<=0+(c.toNat:Int)/\0+(c.toNat:Int)<9223372036854775808:=by have:=c.toNat_lt; omega
theorem ze7 {lt:Int->Int->Bool} {xs:List Int} (h:1<=xs.length):sortN lt xs 1++xs.drop 1=xs:=by
 cases xs with
 | nil=>simp at h
 | cons x r=>rfl
instance:zd tp 121 false 1:={}
instance:Und tp 190 (.int .u64):={}
instance:Und tp 5 (.int .u8):={}
instance:Und tp 9 .string:={}
theorem zjA {main T} (hT:zm tp main T) {gm} {n:Nat} (hn:n<256) :
  zq tp T gm 138 [.v (.int .u64 n)] [] (fun r K'=>∃ m:Int,r=intA m/\K'=[]):=by
 refine zl 25 hT Tryz.func138 fun Y hret=>?_;refine au 93714223542 ?_;constructor<;>intro hc0
 ·simp at hc0; omega
 refine au 9371422120 ?_;constructor<;>intro hc1
 ·simp at hc1; omega
 refine au 9371422120 ?_;constructor<;>intro hc2
 ·simp at hc2; omega
 refine au 1142120 ?_;refine bH Z (yT Z Z Und.h Und.h (zkv hn)) ?_;refine bH Z (zg2 Z Z Z Und.h oQ (zlP hn Z)) ?_;refine bH Z (yT Z Z Und.h Und.h (ziY _)) ?_;refine bH Z (q_add Z Z Z (zi7 _)) ?_;refine au 35 ?_;refine TK.rta hret ?_;exact ⟨_,rfl,rfl⟩
theorem zbS {main T} (hT:zm tp main T) {gm} {n:Nat} (hn:n<256) :
  zq tp T gm 103 [.v (.int .u64 n)] [] (fun r K'=>∃ m:Int,r=intA m/\K'=[]):=by
 refine zl 8 hT Tryz.func103 fun Y hret=>?_;refine au 14212019023542 ?_;refine bD Z Z Z Z (zjA hT hn) ?_;rintro r1 K2 ⟨m,rfl,rfl⟩;refine au 35 ?_;refine TK.rta hret ?_;exact ⟨_,rfl,rfl⟩
theorem zgQ {main T} (hT:zm tp main T) {gm} {j n:Nat} {xs:List Int} {et:TypeId} {f:AV} {Kc:KV} {lt:Int->Int->Bool} (hn:xs.length=n) (h12:1<=n/\n<=12) (hg:∀ x∈xs,∀ y∈xs,CallFK tp T gm f [intA x,intA y] Kc (fun r K'=>(∃ c:Int,r=intA c/\decide (c<0)=lt x y)/\K'=Kc)) :
  zq tp T gm 168 [.sl j 0 n,intA 0,intA n,f] ((j,.cells (xs.map intA) et true)::Kc) (fun r K'=>K'=(j,.cells ((sortR lt xs).map intA) et true)::Kc):=by
 refine zl 53 hT Tryz.func168 fun Y hret=>?_;refine au 13035230142 ?_;refine bA [0,1,2,3,8] ?_;refine bE (fun n1 env K=>∃ (i:Nat),n1=n - i/\1<=i/\i<=n/\env=.sl j 0 n::intA 0::intA n::f::naL 4 (intA i::naL 44 [])/\K=(j,.cells ((sortN lt xs i++xs.drop i).map intA) et true)::Kc) (n - 1) ⟨1,rfl,mL _,h12.1,rfl,by rw [ze7 oQ]⟩ fun n1 env K hI hnext=>?_;obtain ⟨i,rfl,hi1,hi,rfl,rfl⟩:=hI;refine bG nQ ?_;refine au 93711422 ?_;constructor<;>intro hc0
 ·have hil:i<n:=by simp at hc0; omega
  obtain ⟨x,hx⟩:∃ x,xs[i]? =some x:=⟨_,lA oQ⟩;have hSl:=vy (lt:=lt) xs i oQ;have hTl:(xs.drop (i+1)).length=n - (i+1):=by simp; omega
  have hxm:=lN hx;refine au 130351421302120 ?_;refine bA [0,1,2,3,8,9] ?_;refine bE (fun n1 env K=>∃ (p:Nat),n1=p/\p<=i/\insJ lt x (sortN lt xs i) p=insJ lt x (sortN lt xs i) (sortN lt xs i).length/\env=.sl j 0 n::intA 0::intA n::f::naL 4 (intA i::intA p::naL 43 [])/\K=(j,.cells ((dataM (sortN lt xs i) (xs.drop (i+1)) x p).map intA) et true)::Kc) i ⟨i,rfl,mL _,by rw [hSl],rfl,by have:=zdW (sortN lt xs i) (xs.drop (i+1)) x; rw [hSl] at this; rw [this,<- zN hx]⟩ fun n1 env K hI hnext1=>?_;obtain ⟨p,hnp,hp,hins,rfl,rfl⟩:=hI;subst n1;have hdl:=zdV (S:=sortN lt xs i) (T:=xs.drop (i+1)) (x:=x) (j:=p);refine bG nQ ?_;refine au 22 ?_;refine bL [0,1,2,3,4,5,6,7,8,9,10,11,12,13,14,15,16] ?_;refine ad [[1,9],[1,1],[4,18,19],[1,20]] ?_;refine TD.sp 21 (fun g4_4=>?_) (fun g4_4=>?_)
  ·have hp0:0<p:=by simp at g4_4; omega
   obtain ⟨q,rfl⟩:∃ q,p=q+1:=⟨p - 1,oQ⟩;obtain ⟨y,hy⟩:∃ y,(sortN lt xs i)[q]? =some y:=⟨_,lA oQ⟩;have hym:=ui i oQ y (lN hy);refine ad [[1,3,21],[1,0,21],[1,9,21],[2,21,23,24]] ?_;refine bT [21,25] Z (hq:=zg Z Z zd.h (mC _) (yn (i:=q+1) (zaW oQ) Z)) (h:=?_);refine ad [[1,0,21],[1,9,21],[9,21,28],[2,21,27,29]] ?_;refine bT [21,30] Z (hq:=zg Z Z zd.h (mC _) (yn (i:=q) ((v8 oQ).trans hy) oQ)) (h:=?_);refine TD.callF' (pend':=[⟨12,[21,27,29],[]⟩,⟨11,[21,28],[]⟩,⟨10,[9,21],[]⟩,⟨9,[0,21],[]⟩,⟨7,[21,23,24],[]⟩,⟨6,[9,21],[]⟩,⟨5,[0,21],[]⟩,⟨2,[18,19],[]⟩,⟨1,[1],[]⟩,⟨0,[9],[]⟩]) [21,22,26,31] Z Z Z Z Z Z Z (hg x hxm y hym) (.right (.all _)) fun r1 K2 h3=>⟨?_,?_⟩
   ·rcases h3 with ⟨⟨c,rfl,hlc⟩,hK⟩
    all_goals (rw [hK]; simp)
   obtain ⟨⟨c,rfl,hlc⟩,hK⟩:=h3;try simp only [cA]
   refine bS (zn Z tQ) ?_;rw [hK];refine TD.perm (K':=(j,_)::Kc) (List.perm_append_singleton _ _) ?_;refine ad [[4,21,32],[7,21,33],[14]] ?_;refine au 9 ?_;constructor<;>intro hc1
   ·have hlt:lt x y=true:=by rw [<- hlc]; exact hc1
    have hsw:=zc1 (T:=xs.drop (i+1)) (x:=x) hy;refine au 1302120 ?_;refine bL [0,1,5,6,7,8,9,10,11,12,13,14,15,2,3,4,16,17] ?_;refine ad [[1,0],[1,9],[1,0],[1,9],[9,40],[1,0],[1,9],[9,43],[2,42,44]] ?_;refine bT [45] Z (hq:=zg Z Z zd.h (mC _) (yn (i:=q) ((v8 oQ).trans hy) oQ)) (h:=?_);refine ad [[1,0],[1,9],[2,47,48]] ?_;refine bT [49] Z (hq:=zg Z Z zd.h (mC _) (yn (i:=q+1) (zaW oQ) Z)) (h:=?_);refine ad [[2,37,38]] ?_;refine bR (pend':=[⟨12,[47,48],[]⟩,⟨11,[9],[]⟩,⟨10,[0],[]⟩,⟨4,[40],[]⟩,⟨3,[9],[]⟩,⟨2,[0],[]⟩]) [46,51] Z Z (zB Z Z zd.h Z Z mQ (vL (k:=q+1) oQ Z)) ?_;refine ad [[2,39,41]] ?_;refine bR (pend':=[]) [50,52] Z Z (zB Z Z zd.h Z Z mQ (vL (k:=q) (by rw [List.length_set]; omega) oQ)) ?_;refine ad [[14]] ?_;refine au 3524014140 ?_;refine bA [0,1,2,3,8,9] ?_;refine bC (((j,_)::Kc)) ?_;exact hnext1 _ _ _ oQ ⟨q,rfl,oQ,by rw [<- hins,zfW hy hlt],by rw [show ((q+1:Nat):Int) - 1=(q:Int) by omega]; rfl,by rw [hsw]⟩
   have hstop:=v9 (lt:=lt) (x:=x) (S:=sortN lt xs i) (T:=xs.drop (i+1)) (j:=q+1) oQ (fun i1 y1 h1 h2=>by obtain rfl:q=i1:=oQ; rw [hy] at h2; cases h2; rw [<- hlc]; exact hc1);rw [hins] at hstop;refine au 3523014140160 ?_;refine bA [0,1,2,3,8] ?_;refine bC (((j,_)::Kc)) ?_;exact hnext _ _ _ oQ ⟨i+1,rfl,oQ,oQ,rfl,by rw [kW hx,<- hstop]⟩
  obtain rfl:p=0:=by simp at g4_4; omega
  have hstop:=v9 (lt:=lt) (x:=x) (S:=sortN lt xs i) (T:=xs.drop (i+1)) (j:=0) (mN _) (fun i y h=>by omega);rw [hins] at hstop;refine ad [[11,3,21],[11,0,21],[11,9,21],[11,21,23,24],[11,21,25],[11,0,21],[11,9,21],[11,21,28],[11,21,27,29],[11,21,30],[11,21,22,26,31],[11,21,32],[6,21,33],[14]] ?_;refine au 3523014140160190 ?_;refine bA [0,1,2,3,8] ?_;refine bC (((j,_)::Kc)) ?_;exact hnext _ _ _ oQ ⟨i+1,rfl,oQ,oQ,rfl,by rw [kW hx,<- hstop]⟩
 obtain rfl:i=n:=by simp at hc0; omega
 have hfin:(j,AObj.cells ((sortN lt xs i++xs.drop i).map intA) et true)::Kc=(j,.cells ((sortN lt xs xs.length).map intA) et true)::Kc:=by rw [hn,List.drop_eq_nil_of_le oQ,lR]
 refine au 160 ?_;refine TK.rt0 hret (((j,_)::Kc)) ?_;rw [show sortR lt xs=sortN lt xs xs.length from rfl];exact hfin
theorem zmH {main T} (hT:zm tp main T) {gm} {lim:Int} {j n:Nat} {xs:List Int} {et:TypeId} {f:AV} {Kc:KV} {lt:Int->Int->Bool} (hn:xs.length=n) (h12:1<=n/\n<=12) (hg:∀ x∈xs,∀ y∈xs,CallFK tp T gm f [intA x,intA y] Kc (fun r K'=>(∃ c:Int,r=intA c/\decide (c<0)=lt x y)/\K'=Kc)) :
  zq tp T gm 124 [.sl j 0 n,intA 0,intA n,intA lim,f] ((j,.cells (xs.map intA) et true)::Kc) (fun r K'=>K'=(j,.cells ((sortR lt xs).map intA) et true)::Kc):=by
 refine zl 148 hT Tryz.func124 fun Y hret=>?_;refine au 13035423542 ?_;refine TK.loop ?_;refine au 9371422352401142130 ?_;constructor<;>intro hc0
 ·refine au 111142 ?_;refine bD Z Z Z Z (zgQ hT hn h12 hg) ?_ (hs:=(.all _));rintro r1 K2 rfl;refine au 0 ?_;refine bN (K':=(j,_)::Kc) (by rw [lR]) ?_;refine au 3 ?_;refine bB hret (((j,_)::Kc)) ?_;exact rfl
 simp at hc0; omega
theorem zfA {main T} (hT:zm tp main T) {gm} {j n:Nat} {xs:List Int} {et:TypeId} {f:AV} {Kc:KV} {lt:Int->Int->Bool} (hn:xs.length=n) (h12:1<=n/\n<=12) (hg:∀ x∈xs,∀ y∈xs,CallFK tp T gm f [intA x,intA y] Kc (fun r K'=>(∃ c:Int,r=intA c/\decide (c<0)=lt x y)/\K'=Kc)) :
  zq tp T gm 96 [.sl j 0 n,f] ((j,.cells (xs.map intA) et true)::Kc) (fun r K'=>K'=(j,.cells ((sortR lt xs).map intA) et true)::Kc):=by
 refine zl 14 hT Tryz.func96 fun Y hret=>?_;refine au 111435280142 ?_;refine bH Z (yT Z Z Und.h Und.h (zdB (n:=n) oQ)) ?_;refine bD Z Z Z Z (zbS hT (n:=n) oQ) ?_ (hs:=(.none _));rintro r1 K2 ⟨m,rfl,rfl⟩;refine au 1 ?_;refine bD Z Z Z Z (zmH hT hn h12 hg) ?_ (hs:=(.all _));rintro r4 K5 rfl;refine au 0 ?_;refine bN (K':=(j,_)::Kc) (by rw [lR]) ?_;refine au 3 ?_;refine TK.rt0 hret (((j,_)::Kc)) ?_;exact rfl
theorem zlQ {main T} (hT:zm tp main T) {gm} {b:RBk} {s h e j jb jl:Nat} {l:List Int} {et:TypeId} {x y:Int} (hb:ROk b) (hl:CutsOk b l) (hx:0<=x/\x<l.length) (hy:0<=y/\y<l.length) :
  zq tp T gm 97 [intA x,intA y,.ptr jb 0,.ptr jl 0] [(jb,.cells (zA b s h e) 117 true),(jl,.cells [.sl j 0 l.length] 121 true),(s,zk b),(j,.cells (l.map intA) et false)] (fun r K'=>(∃ c:Int,r=intA c/\decide (c<0)=busyLt b l x y)/\K'=[(jb,.cells (zA b s h e) 117 true),(jl,.cells [.sl j 0 l.length] 121 true),(s,zk b),(j,.cells (l.map intA) et false)]):=by
 refine zl 38 hT Tryz.func97 fun Y hret=>?_;refine au 0 ?_;have hs5:=hb.sms.len;have hl5:=hl.len;obtain ⟨p,rfl⟩:∃ p:Nat,x=p:=⟨x.toNat,oQ⟩;obtain ⟨q,rfl⟩:∃ q:Nat,y=q:=⟨y.toNat,oQ⟩;have hp:p<l.length:=by omega
 have hq:q<l.length:=by omega
 have qp:=hl.lt hp;have fp:=hb.sms.fld _ qp.2.2;have qq:=hl.lt hq;have fq:=hb.sms.fld _ qq.2.2;refine au 223542 ?_;refine bL [0,1,2,3,4,5,6,7,8,9,20,10,11,12,13,14,15,16,17,18,19,21] ?_;refine ad [[3,2],[3,9],[10,10],[10,3],[1,0],[2,12,13]] ?_;refine bT [14] Z (hq:=zg Z Z zd.h (mC _) (yn (i:=p) (z7 hp) Z)) (h:=?_);refine ad [[2,11,15],[3,16]] ?_;refine bT [17] Z (hq:=zg Z Z zd.h (mC _) (zW (c:=2) (sm_at b (i:=(zK l p).toNat) qp.2.2 oQ) dQ Z)) (h:=?_);refine ad [[3,2],[3,19],[10,20],[10,3],[1,1],[2,22,23]] ?_;refine bT [24] Z (hq:=zg Z Z zd.h (mC _) (yn (i:=q) (z7 hq) Z)) (h:=?_);refine ad [[2,21,25],[3,26]] ?_;refine bT [27] Z (hq:=zg Z Z zd.h (mC _) (zW (c:=2) (sm_at b (i:=(zK l q).toNat) qq.2.2 oQ) dQ Z)) (h:=?_);refine TD.as (pend':=[⟨19,[27],[(_,_)]⟩,⟨18,[26],[]⟩,⟨17,[21,25],[]⟩,⟨16,[24],[(_,_)]⟩,⟨15,[22,23],[]⟩,⟨14,[1],[]⟩,⟨13,[3],[(_,_)]⟩,⟨12,[20],[(_,_)]⟩,⟨11,[19],[]⟩,⟨10,[2],[]⟩]) [18] Z Z (zw Z Z) ?_;refine ad [[13,28],[14]] ?_;refine au 9371142 ?_;constructor<;>intro hc0
 ·refine au 352401142 ?_;refine bB hret [(jb,_),(jl,_),(s,_),(j,_)] ?_;exact ⟨⟨_,rfl,by simp at hc0; unfold busyLt; rw [mZ,mZ]; unfold cutS; rw [decide_eq_false hc0,Bool.false_and,Bool.or_false]; exact decide_eq_decide.2 oQ⟩,rfl⟩
 refine au 352401142120 ?_;refine bB hret [(jb,_),(jl,_),(s,_),(j,_)] ?_;exact ⟨⟨_,rfl,by simp at hc0; simp only [busyLt,cutS,mZ,hc0,Int.lt_irrefl,decide_false,decide_true,Bool.true_and,Bool.false_or]; exact decide_eq_decide.2 oQ⟩,rfl⟩
def HangR (o:Option (List Int×Int)) (K:KV) (r:AV) (K':KV):Prop:=match o with
 | none=>r=.tup [.agg [.v (.slice none 0 0),intA 0],zF false]/\K'=K
 | some (w,q)=>∃ jw,r=.tup [.agg [.sl jw 0 w.length,intA q],zF true]/\K'=(jw,.cells (w.map intA) 3 false)::K
theorem zcS {b:RBk} {l:List Int}:∀ (o:List Int) (z:Alloc),(o.foldl (allocM b l) z).steps.length=z.steps.length
 | [],_=>rfl
 | k::o,z=>by rw [List.foldl_cons,zcS o]; simp [allocM]
theorem zmb {x y:Int} (hx:0<=x/\x<=65) (hy:0<=y/\y<=9):0<=x*y/\x*y<=585:=by
 refine ⟨Int.mul_nonneg hx.1 hy.1,?_⟩;have h1:x*y<=65*y:=Int.mul_le_mul_of_nonneg_right hx.2 hy.1;omega
section
variable {P:Program} {gm:Nat->Option Nat} {V:KV} {env:List AV} {o:Oper}
theorem zeN {x y:Operand} {t u:TypeId} {k k':IntKind} {m n:Int} (ho:o.op=.call { callee:=.builtin .min,args:=#[x,y],argTypes:=#[t,u] }) (hx:zo gm env x=some (.v (.int k m))) (hy:zo gm env y=some (.v (.int k' n))):Qk P gm env V o (.v (.int k (min m n))):=by
 rw [show min m n=if n<m then n else m by split <;> omega];exact q_min ho hx hy
theorem zaH {x y:Operand} {t u:TypeId} {k k':IntKind} {m n:Int} (ho:o.op=.call { callee:=.builtin .max,args:=#[x,y],argTypes:=#[t,u] }) (hx:zo gm env x=some (.v (.int k m))) (hy:zo gm env y=some (.v (.int k' n))):Qk P gm env V o (.v (.int k (max m n))):=by
 rw [show max m n=if m<n then n else m by split <;> omega];exact q_max ho hx hy
end
instance:BlOf tp 126 [(0,1),(1,1)]:={}
instance:zf tp 126 0 0 false 1:={}
instance:zf tp 126 1 1 false 1:={}
instance:zd tp 126 true 2:={}
instance:TyZ tp 126 [.slice none 0 0,.int .i64 0]:={}
instance:TyZA tp 126 [.v (.slice none 0 0),.v (.int .i64 0)]:={}
theorem vG {main T} (hT:zm tp main T) {gm} {b:RBk} {s h e j:Nat} {l:List Int} {et:TypeId} (hb:ROk b) (hl:CutsOk b l) {st:List Int} (hs:StOk b st) :
  zq tp T gm 57 [.agg (zA b s h e),.sl j 0 l.length,.agg (stC st)] [(s,zk b),(j,.cells (l.map intA) et false)] (fun r K'=>HangR (hangM b l st) [(s,zk b),(j,.cells (l.map intA) et false)] r K'):=by
 refine zl 110 hT Tryz.func57 fun Y hret=>?_;refine au 0 ?_;have hp0:=hl.pos;have hs5:=hb.sms.len;have hst:=hb.rnd.steps;have hl5:=hl.len;have q0:=hl.lt hl.pos;have f0:=hb.sms.fld _ q0.2.2;have hfr:=uT hb hs;refine au 21042 ?_;intro jb hjb;refine au 210 ?_;intro jl hjl;refine au 210 ?_;intro js hjs;refine au 220 ?_;intro jr hjr;refine au 69068042235 ?_;refine TK.clE Z Z Z Z (zfP hT hb hl) ?_;refine au 93300 ?_;constructor<;>intro hc0
 ·refine au 3517039042 ?_;refine bB hret [(s,_),(j,_)] ?_;rw [show hangM b l st=none by unfold hangM; rw [if_pos (by simpa using hc0)]];exact ⟨rfl,rfl⟩
 have hfit:fitsM b l=true:=by simpa using hc0
 refine au 28069042120 ?_;refine TK.newS Z Z Z (zf4 Z Z Z ApOf.h TyZ.h hp0 oQ) (fun _=>zn rfl tQ) fun jw hjw=>?_;refine au 220390 ?_;intro j8 hj8;refine au 130312806904223170 ?_;refine bA [3,4,5,6,7,8,26,27,28] ?_;refine bC [(s,_),(j,_),(jb,_),(jl,_),(js,_),(jr,_),(jw,_),(j8,_)] ?_;refine bE (fun n env K=>∃ (i:Nat),n=l.length - i/\i<=l.length/\env=naL 3 (.ptr jb 0::.ptr jl 0::.ptr js 0::.ptr jr 0::zF false::.ptr j8 0::naL 17 (.sl j 0 l.length::intA l.length::intA i::naL 81 []))/\K=[(s,zk b),(j,.cells (l.map intA) et false),(jb,.cells (zA b s h e) 117 true),(jl,.cells [.sl j 0 l.length] 121 true),(js,.cells (stC st) 130 true),(jr,.cells [.v (.slice none 0 0),intA 0] 126 true),(jw,.cells ((mB l.length (0:Int)).map intA) 3 true),(j8,.cells [.sl jw 0 l.length,intA (spoilM b l i)] 126 true)]) l.length ⟨0,rfl,mN _,rfl,rfl⟩ fun n env K hI hnext=>?_;obtain ⟨i,rfl,hi,rfl,rfl⟩:=hI;have hsp:=zbL hb hl i hi;refine bG nQ ?_;refine au 923742 ?_;constructor<;>intro hc1
 ·have hil:i<l.length:=by simp at hc1; omega
  have qi:=hl.lt hil;have fi:=hb.sms.fld _ qi.2.2;refine au 360421302120 ?_;refine bH Z (zg Z Z zd.h mQ (yn (i:=i) (z7 hil) Z)) ?_;refine au 35 ?_;refine bL [0,1,2,3,4,5,6,7,8,9,10,11] ?_;refine ad [[3,8],[10,32],[3,3],[3,34],[10,35],[1,10],[2,36,37],[3,38]] ?_;refine bT [39] Z (hq:=zg Z Z zd.h (mC _) (zW (c:=3) (sm_at b (i:=(zK l i).toNat) qi.2.2 oQ) dQ Z)) (h:=?_);refine ad [[8,33,40],[3,8]] ?_;refine bR (pend':=[]) [41,42] Z Z (zB Z Z zd.h Z Z mQ Z) ?_;refine ad [[14]] ?_;refine au 312304140 ?_;refine bA [3,4,5,6,7,8,26,27,28] ?_;refine bC [(s,_),(j,_),(jb,_),(jl,_),(js,_),(jr,_),(jw,_),(j8,_)] ?_;exact hnext _ _ _ oQ ⟨i+1,rfl,oQ,rfl,rfl⟩
 obtain rfl:i=l.length:=by simp at hc1; omega
 refine au 28069042160 ?_;refine TK.newS Z Z Z (zf4 Z Z Z ApOf.h TyZ.h hp0 oQ) (fun _=>zn rfl tQ) fun jo hjo=>?_;refine au 13031280142235 ?_;refine bA [3,4,5,6,7,8,11,47,48,49] ?_;refine bE (fun n env K=>∃ (i:Nat),n=l.length - i/\i<=l.length/\env=naL 3 (.ptr jb 0::.ptr jl 0::.ptr js 0::.ptr jr 0::zF false::.ptr j8 0::naL 2 (.sl jo 0 l.length::naL 35 (.sl jo 0 l.length::intA l.length::intA i::naL 60 [])))/\K=[(jo,.cells ((idxM i++mB (l.length - i) 0).map intA) 3 true),(s,zk b),(j,.cells (l.map intA) et false),(jb,.cells (zA b s h e) 117 true),(jl,.cells [.sl j 0 l.length] 121 true),(js,.cells (stC st) 130 true),(jr,.cells [.v (.slice none 0 0),intA 0] 126 true),(jw,.cells ((mB l.length (0:Int)).map intA) 3 true),(j8,.cells [.sl jw 0 l.length,intA (spoilM b l l.length)] 126 true)]) l.length ⟨0,rfl,mN _,rfl,rfl⟩ fun n env K hI hnext=>?_;obtain ⟨i,rfl,hi,rfl,rfl⟩:=hI;refine bG nQ ?_;refine au 923742 ?_;constructor<;>intro hc2
 ·have hil:i<l.length:=by simp at hc2; omega
  refine au 3601114351421302120 ?_;refine TK.st Z Z Z (zB Z Z zd.h Z Z mQ (vL (k:=i) (by simp [idxM]; omega) Z)) uQ (putN Z) ?_;refine au 3123041403 ?_;refine bA [3,4,5,6,7,8,11,47,48,49] ?_;refine bC [(jo,_),(s,_),(j,_),(jb,_),(jl,_),(js,_),(jr,_),(jw,_),(j8,_)] ?_;exact hnext _ _ _ oQ ⟨i+1,rfl,oQ,rfl,by rw [<- zk0 hil]⟩
 obtain rfl:i=l.length:=by simp at hc2; omega
 refine au 2160 ?_;have hidx:idxM l.length++mB (l.length - l.length) 0=idxM l.length:=by simp
 rw [hidx];refine au 32014 ?_;refine bD Z Z Z Z (zfA hT (Kc:=[(jb,.cells (zA b s h e) 117 true),(jl,.cells [.sl j 0 l.length] 121 true),(s,zk b),(j,.cells (l.map intA) et false)]) (lt:=busyLt b l) (by simp [idxM]) ⟨hp0,oQ⟩ (fun x hx y hy=>yI Cal.h (zlQ hT hb hl (by have:=uD hx; omega) (by have:=uD hy; omega)))) ?_ (hs:=(.left (.rem (.tail (.tail .head)) (.rem (.tail (.tail .head)) (.left (.left (.none _)))))));rintro r4 K5 rfl;refine au 680680423 ?_;refine bD Z Z Z Z (zd1 hT hb hs) ?_ (hs:=(.none _));rintro r7 K8 ⟨rfl,rfl⟩;refine au 13031280142235 ?_;refine bA [3,4,5,6,7,8,13,63,64,65] ?_;refine bE (fun n env K=>∃ (i:Nat) (z:Alloc),n=l.length - i/\i<=l.length/\z=((ordM b l).take i).foldl (allocM b l) (alloc0 b l (ye b st))/\z.steps.length=l.length/\(0<=z.left/\z.left<=65)/\(0<=z.squares/\z.squares<=45+585*i)/\env=naL 3 (.ptr jb 0::.ptr jl 0::.ptr js 0::.ptr jr 0::zF false::.ptr j8 0::naL 4 (intA z.left::naL 49 (.sl jo 0 l.length::intA l.length::intA i::naL 44 [])))/\K=[(jo,.cells ((ordM b l).map intA) 3 true),(jb,.cells (zA b s h e) 117 true),(jl,.cells [.sl j 0 l.length] 121 true),(s,zk b),(j,.cells (l.map intA) et false),(js,.cells (stC st) 130 true),(jr,.cells [.v (.slice none 0 0),intA 0] 126 true),(jw,.cells (z.steps.map intA) 3 true),(j8,.cells [.sl jw 0 l.length,intA z.squares] 126 true)]) l.length ⟨0,alloc0 b l (ye b st),rfl,mN _,rfl,by simp [alloc0],hfr,by have:=zbL hb hl l.length (mL _); show 0<=spoilM b l l.length/\spoilM b l l.length<=_; omega,rfl,rfl⟩ fun n env K hI hnext=>?_;obtain ⟨i,z,rfl,hi,hz,hzl,hzf,hzs,rfl,rfl⟩:=hI;have hol:=zlq b l;refine bG nQ ?_;refine au 923742 ?_;constructor<;>intro hc3
 ·have hil:i<l.length:=by simp at hc3; omega
  obtain ⟨k,hk⟩:∃ k,(ordM b l)[i]? =some k:=⟨_,lA oQ⟩;have hkm:=wu (lN hk);have hkn:k.toNat<l.length:=by omega
  have qi:=hl.lt hkn;have fi:=hb.sms.fld _ qi.2.2;have hmul:0<=min z.left (sm b (zK l k.toNat).toNat).most*(sm b (zK l k.toNat).toNat).busy/\min z.left (sm b (zK l k.toNat).toNat).most*(sm b (zK l k.toNat).toNat).busy<=585:=zmb oQ oQ;refine au 360421302120 ?_;refine bH Z (zg Z Z zd.h mQ (yn (i:=i) hk Z)) ?_;refine au 235 ?_;refine bL [0,1,2,3,4,5,6,7,8,9,10,11,12] ?_;refine ad [[1,13],[3,3],[3,70],[10,71],[10,4],[1,15],[2,73,74]] ?_;refine bT [75] Z (hq:=zg Z Z zd.h (mC _) (yn (i:=k.toNat) (z7 hkn) oQ)) (h:=?_);refine ad [[2,72,76],[3,77]] ?_;refine bT [78] Z (hq:=zg Z Z zd.h (mC _) (zW (c:=1) (sm_at b (i:=(zK l k.toNat).toNat) qi.2.2 oQ) dQ Z)) (h:=?_);refine bU [69,79] Z (zeN Z Z Z) ?_;refine ad [[13,80],[14]] ?_;refine au 3601169067042 ?_;refine TK.st Z Z Z (zB Z Z zd.h Z Z mQ (vL (k:=k.toNat) oQ oQ)) uQ (putN Z) ?_;refine au 23 ?_;refine bL [0,1,2,3,4,5,6,7,8,9,10,11,12,13,14,15,16] ?_;refine ad [[3,8],[10,86],[1,16],[3,3],[3,89],[10,90],[10,4],[1,15],[2,92,93]] ?_;refine bT [94] Z (hq:=zg Z Z zd.h (mC _) (yn (i:=k.toNat) (z7 hkn) oQ)) (h:=?_);refine ad [[2,91,95],[3,96]] ?_;refine bT [97] Z (hq:=zg Z Z zd.h (mC _) (zW (c:=2) (sm_at b (i:=(zK l k.toNat).toNat) qi.2.2 oQ) dQ Z)) (h:=?_);refine bU [88,98] Z (q_mul Z Z Z oQ) ?_;refine ad [[8,87,99],[3,8]] ?_;refine bR (pend':=[]) [100,101] Z Z (zB Z Z zd.h Z Z mQ Z) ?_;refine ad [[14]] ?_;refine au 31230414035240114 ?_;refine bA [3,4,5,6,7,8,13,63,64,65] ?_;refine bC [(jo,_),(jb,_),(jl,_),(s,_),(j,_),(js,_),(jr,_),(jw,_),(j8,_)] ?_;exact hnext _ _ _ oQ ⟨i+1,allocM b l z k,rfl,oQ,by rw [yC hk,List.foldl_append,<- hz]; rfl,by simp [allocM,hzl],by show 0<=z.left - min z.left (sm b (zK l k.toNat).toNat).most/\z.left - min z.left (sm b (zK l k.toNat).toNat).most<=65; omega,by show 0<=z.squares+min z.left (sm b (zK l k.toNat).toNat).most*(sm b (zK l k.toNat).toNat).busy/\z.squares+min z.left (sm b (zK l k.toNat).toNat).most*(sm b (zK l k.toNat).toNat).busy<=45+585*((i+1:Nat):Int); omega,rfl,rfl⟩
 obtain rfl:i=l.length:=by simp at hc3; omega
 rw [List.take_of_length_le oQ] at hz;refine au 9371422160 ?_;constructor<;>intro hc4
 ·refine au 3517039042 ?_;refine bB hret [(s,_),(j,_)] ?_;rw [show hangM b l st=none by unfold hangM; rw [if_neg (by rw [hfit]; decide)]; unfold allocA; rw [<- hz]; exact if_pos (of_decide_eq_true hc4)];exact ⟨rfl,rfl⟩
 refine au 2120 ?_;refine TK.frz (j:=jw) ?_;refine au 351706804 ?_;refine bB hret [(jw,_),(s,_),(j,_)] ?_;rw [show hangM b l st=some (z.steps,z.squares) by unfold hangM; rw [if_neg (by rw [hfit]; decide)]; unfold allocA; rw [<- hz]; exact if_neg (of_decide_eq_false hc4)];exact ⟨jw,by rw [hzl]; rfl,rfl⟩
theorem st_at {s:List Int} {i:Nat} {n:Int} {e:TypeId} {rw':Bool} (h:i<5) (hn:n=(i:Int)):takeO (.cells (stC s) e rw') (0+n.toNat*1) 1=some [intA (s.getD i 0)]:=by
 subst hn;have:i=0\/i=1\/i=2\/i=3\/i=4:=by omega
 rcases this with rfl | rfl | rfl | rfl | rfl <;> rfl
theorem zhD {c:List Int} {i k:Nat} (h:k<i):(c.take i).getD k 0=c.getD k 0:=by
 rw [lE,lE,List.getElem?_take,if_pos h]
theorem zmZ {c p:List Int} {m:Nat} (h5:c.length=5) (hp:p.length=m) (ht:c.take m=p) (hz:∀ k,m<=k->c.getD k 0=0):c.map intA=stC p:=by
 have key:∀ k,c.getD k 0=p.getD k 0:=fun k=>by
  by_cases h:k<m
  ·rw [<- ht,zhD h]
  ·rw [hz k oQ,lE,List.getElem?_eq_none oQ]; rfl
 have e:c.map intA=stC c:=by
  rcases c with _ | ⟨a0,_ | ⟨a1,_ | ⟨a2,_ | ⟨a3,_ | ⟨a4,_ | ⟨a5,r⟩⟩⟩⟩⟩⟩ <;> simp at h5;rfl
 rw [e];unfold stC slotR;rw [key 0,key 1,key 2,key 3,key 4]
theorem zb5 {xs:List RMeas} {i:Nat} {x:RMeas} {n:Int} {e:TypeId} {rw':Bool} (h:xs[i]? =some x) (hn:n=(i:Int)):takeO (.cells (xs.flatMap yd) e rw') (0+n.toNat*3) 3=some (yd x):=kA (c:=3) (fun _=>rfl) h hn dQ
theorem zi1 {xs:List RMeas} {p:RMeas->Bool} {i:Nat} {x:RMeas} (h:xs[i]? =some x) (hn:(xs.take i).any p=false) (he:p x=false):(xs.take (i+1)).any p=false:=by
 rw [yC h,List.any_append,hn]; simp [he]
theorem zlN {xs:List RMeas} {p:RMeas->Bool} {i:Nat} {x:RMeas} (h:xs[i]? =some x) (he:p x=true):xs.any p=true:=List.any_eq_true.2 ⟨x,lN h,he⟩
theorem zin (b:RBk) (s:List Int):rightM b s = !(b.measures.any fun m => !decide (togM b s m.cloth.toNat m.many.toNat=m.wide)):=by
 unfold rightM
 induction b.measures with
 | nil=>rfl
 | cons x r ih=>rw [List.all_cons,List.any_cons,ih]; simp
theorem zmA {main T} (hT:zm tp main T) {gm} {b:RBk} {s h e i:Nat} {st:List Int} (hb:ROk b) (hs:StOk b st) (hi:i<b.seams.length) :
  zq tp T gm 98 [.agg (zA b s h e),intA i,.agg (stC st)] [(s,zk b)] (fun r K'=>r=intA (nowM b st i)/\K'=[(s,zk b)]):=by
 refine zl 14 hT Tryz.func98 fun Y hret=>?_;refine au 0 ?_;have hs5:=hb.sms.len;have hw:=hb.wide hi;have hsi:=hs.bnd i hi;refine au 21042 ?_;intro jb hjb;refine au 210 ?_;intro js hjs;refine au 235 ?_;refine TK.dr [0,1,3,4,5,2,6,7] [0,1,2,3,4,5,6,7] ?_;refine ad [[12,3],[1,1],[1,1]] ?_;refine bU [5,10] Z (kS Z Z Z ArEl.h oQ oQ) ?_;refine bT [11] Z (hq:=zg Z Z zd.h (mC _) (st_at (i:=i) oQ Z)) (h:=?_);refine bQ (pend':=[⟨5,[11],[(_,_)]⟩,⟨4,[5,10],[]⟩,⟨3,[1],[]⟩]) [7,8] Z Z Z Z Z (zcO hT (i:=i) hb.rnd hb.sms hi) (fun r1 K2 h3=>⟨?_,?_⟩)
 ·rcases h3 with ⟨rfl,rfl⟩
  all_goals simp
 obtain ⟨rfl,rfl⟩:=h3;try simp only [cA]
 refine bS tQ ?_;refine ad [[9,9,12],[13,13],[14]] ?_;refine au 0 ?_;refine bB hret [(s,_)] ?_;exact ⟨rfl,rfl⟩
theorem ziL {main T} (hT:zm tp main T) {gm} {b:RBk} {s h e:Nat} {c k:Int} {st:List Int} (hb:ROk b) (hs:StOk b st) (hc:0<=c/\c<=5) (hk:0<=k/\k<=5) :
  zq tp T gm 59 [.agg (zA b s h e),intA c,intA k,.agg (stC st)] [(s,zk b)] (fun r K'=>r=intA (togM b st c.toNat k.toNat)/\K'=[(s,zk b)]):=by
 refine zl 30 hT Tryz.func59 fun Y hret=>?_;refine au 0 ?_;obtain ⟨p,rfl⟩:∃ p:Nat,c=p:=⟨c.toNat,oQ⟩;obtain ⟨q,rfl⟩:∃ q:Nat,k=q:=⟨k.toNat,oQ⟩;have hs5:=hb.sms.len;refine au 21042 ?_;intro jb hjb;refine au 210 ?_;intro js hjs;refine au 130311422354235 ?_;refine bA [1,4,7,9,11,12] ?_;refine bC [(s,_),(js,_),(jb,_)] ?_;refine bE (fun n env K=>∃ (i:Nat),n=q - i/\i<=q/\env=.any::intA p::naL 2 (.ptr jb 0::naL 2 (.ptr js 0::.any::intA (togM b st p i)::.any::intA q::intA i::naL 17 []))/\K=[(s,zk b),(js,.cells (stC st) 130 true),(jb,.cells (zA b s h e) 117 true)]) q ⟨0,rfl,mN _,rfl,rfl⟩ fun n env K hI hnext=>?_;obtain ⟨i,rfl,hi,rfl,rfl⟩:=hI;have htb:=zaP hb hs (c:=p) i;refine bG nQ ?_;refine au 923742 ?_;constructor<;>intro hc0
 ·have hil:i<q:=by simp at hc0; omega
  have hmod:(p+i) % b.seams.length<b.seams.length:=Nat.mod_lt _ oQ;have hcm:((p:Int)+(i:Int)) % (b.seams.length:Int)=(((p+i) % b.seams.length:Nat):Int):=by rw [Int.natCast_emod,Int.natCast_add]
  have hw:=hb.wide hmod;have hsi:=hs.bnd _ hmod;have hnow:nowM b st ((p+i) % b.seams.length)=wideM b ((p+i) % b.seams.length) - st.getD ((p+i) % b.seams.length) 0:=rfl;refine au 351421302120 ?_;refine bL [0,1,2,3,4,5,6,7,8,9,10,11,12,13] ?_;refine ad [[1,9],[12,4],[1,1],[1,10],[8,17,18],[3,4],[3,20],[10,21]] ?_;refine bU [22] Z (q_len Z Z Z Und.h) ?_;refine bU [19,23] Z (q_rem Z Z Z oQ oQ) ?_;rw [hcm];refine ad [[12,7]] ?_;refine bQ (pend':=[⟨8,[22],[]⟩,⟨7,[21],[(_,_)]⟩,⟨6,[20],[]⟩,⟨5,[4],[]⟩,⟨4,[17,18],[]⟩,⟨3,[10],[]⟩,⟨2,[1],[]⟩,⟨0,[9],[]⟩]) [16,24,25] Z Z Z Z Z (zmA hT (i:=(p+i) % b.seams.length) hb hs hmod) (fun r1 K2 h3=>⟨?_,?_⟩)
  ·rcases h3 with ⟨rfl,rfl⟩
   all_goals simp
  obtain ⟨rfl,rfl⟩:=h3;try simp only [cA]
  refine bS tQ ?_;refine ad [[8,15,26],[13,27],[14]] ?_;refine au 312304140 ?_;refine bA [1,4,7,9,11,12] ?_;refine bC [(s,_),(js,_),(jb,_)] ?_;exact hnext _ _ _ oQ ⟨i+1,rfl,oQ,rfl,rfl⟩
 obtain rfl:i=q:=by simp at hc0; omega
 refine au 35142160 ?_;refine bB hret [(s,_)] ?_;exact ⟨rfl,rfl⟩
theorem zil {main T} (hT:zm tp main T) {gm} {b:RBk} {s h e jb js:Nat} {m:RMeas} {st:List Int} (hb:ROk b) (hs:StOk b st) (hm:m∈b.measures) :
  zq tp T gm 126 [.agg (yd m),.ptr jb 0,.ptr js 0] [(jb,.cells (zA b s h e) 117 true),(js,.cells (stC st) 130 true),(s,zk b)] (fun r K'=>r=zF (!decide (togM b st m.cloth.toNat m.many.toNat=m.wide))/\K'=[(jb,.cells (zA b s h e) 117 true),(js,.cells (stC st) 130 true),(s,zk b)]):=by
 refine zl 15 hT Tryz.func126 fun Y hret=>?_;refine au 0 ?_;have hs5:=hb.sms.len;have hmm:=hb.mes.bnd m hm;refine au 21042 ?_;intro jm hjm;refine au 235 ?_;refine TK.dr [0,1,2,3,4,5,7,8,6,9,10] [0,1,2,3,4,5,6,7,8,9,10] ?_;refine ad [[12,1],[3,3],[10,6],[3,3],[10,8],[12,2],[3,3],[10,12]] ?_;refine bQ (pend':=[⟨8,[12],[(_,_)]⟩,⟨7,[3],[]⟩,⟨3,[3],[]⟩,⟨1,[3],[]⟩]) [5,7,9,10] Z Z Z Z Z (ziL hT (c:=m.cloth) (k:=m.many) hb hs oQ oQ) (fun r1 K2 h3=>⟨?_,?_⟩)
 ·rcases h3 with ⟨rfl,rfl⟩
  all_goals simp
 obtain ⟨rfl,rfl⟩:=h3;try simp only [cA]
 refine bS tQ ?_;refine ad [[4,11,13],[13,14],[14]] ?_;refine au 0 ?_;refine bB hret [(jb,_),(js,_),(s,_)] ?_;exact ⟨by simp [bne]; rfl,rfl⟩
theorem zhK {main T} (hT:zm tp main T) {gm} {j:Nat} {xs:List RMeas} {et:TypeId} {f:AV} {Kc:KV} {p:RMeas->Bool} (hp:∀ x∈xs,CallFK tp T gm f [.agg (yd x)] Kc (fun r K'=>r=zF (p x)/\K'=Kc)) (hl:xs.length<=1000) :
  zq tp T gm 176 [.sl j 0 xs.length,f] ((j,.cells (xs.flatMap yd) et false)::Kc) (fun r K'=>(∃ n:Int,r=intA n/\decide (n>=0)=xs.any p)/\K'=(j,.cells (xs.flatMap yd) et false)::Kc):=by
 refine zl 19 hT Tryz.func176 fun Y hret=>?_;refine au 1303128014223542 ?_;refine bA [0,1,7,8] ?_;refine bE (fun n env K=>∃ (i:Nat),n=xs.length - i/\i<=xs.length/\(xs.take i).any p=false/\env=.sl j 0 xs.length::f::naL 5 (intA xs.length::intA i::naL 10 [])/\K=((j,.cells (xs.flatMap yd) et false)::Kc)) xs.length ⟨0,rfl,mN _,by simp,rfl,rfl⟩ fun n env K hI hnext=>?_;obtain ⟨i,rfl,hi,hn,rfl,rfl⟩:=hI;refine bG nQ ?_;refine au 923742 ?_;refine ⟨fun hc=>?_,fun hc=>?_⟩
 ·simp only [decide_eq_true_eq] at hc;have hil:i<xs.length:=by omega
  obtain ⟨x,hx⟩:∃ x,xs[i]? =some x:=⟨_,lA hil⟩;refine au 36011142351421302120 ?_;refine bH Z (zI Z Z zd.h mQ (zb5 (i:=i) hx Z)) ?_;refine TK.callF' Z Z Z Z Z (hp x (lN hx)) (.right (.all _)) fun r1 K2 h3=>?_;obtain ⟨rfl,hK⟩:=h3;refine au 0 ?_;rw [hK];refine bN (K':=(j,_)::Kc) (List.perm_append_singleton _ _) ?_;refine au 93 ?_;constructor<;>intro hc1
  ·refine au 35142 ?_;refine bB hret (((j,_)::Kc)) ?_;exact ⟨⟨i,rfl,by rw [decide_eq_true (Int.natCast_nonneg i),zlN hx hc1]⟩,rfl⟩
  refine au 312304140120 ?_;refine bA [0,1,7,8] ?_;refine bC (((j,_)::Kc)) ?_;exact hnext _ _ _ oQ ⟨i+1,rfl,oQ,zi1 hx hn hc1,rfl,rfl⟩
 simp only [decide_eq_false_iff_not] at hc;obtain rfl:i=xs.length:=by omega
 refine au 3542160 ?_;refine bB hret (((j,_)::Kc)) ?_;rw [lW] at hn;exact ⟨⟨-1,rfl,by rw [hn]; rfl⟩,rfl⟩
theorem zdU {main T} (hT:zm tp main T) {gm} {j:Nat} {xs:List RMeas} {et:TypeId} {f:AV} {Kc:KV} {p:RMeas->Bool} (hp:∀ x∈xs,CallFK tp T gm f [.agg (yd x)] Kc (fun r K'=>r=zF (p x)/\K'=Kc)) (hl:xs.length<=1000) :
  zq tp T gm 125 [.sl j 0 xs.length,f] ((j,.cells (xs.flatMap yd) et false)::Kc) (fun r K'=>r=zF (xs.any p)/\K'=(j,.cells (xs.flatMap yd) et false)::Kc):=by
 refine zl 9 hT Tryz.func125 fun Y hret=>?_;refine au 11423542 ?_;refine bD Z Z Z Z (zhK hT hp hl) ?_ (hs:=(.all _));rintro r1 K2 ⟨⟨m,rfl,hm⟩,rfl⟩;refine au 0 ?_;refine bN (K':=(j,_)::Kc) (by rw [lR]) ?_;refine au 357 ?_;refine bB hret (((j,_)::Kc)) ?_;exact ⟨by rw [<- hm],rfl⟩
theorem zj6 {main T} (hT:zm tp main T) {gm} {b:RBk} {s h e:Nat} {st:List Int} (hb:ROk b) (hs:StOk b st) :
  zq tp T gm 100 [.agg (zA b s h e),.agg (stC st)] [(s,zk b),(e,zr b)] (fun r K'=>r=zF (rightM b st)/\K'=[(s,zk b),(e,zr b)]):=by
 refine zl 11 hT Tryz.func100 fun Y hret=>?_;refine au 21042 ?_;intro jb hjb;refine au 210 ?_;intro js hjs;refine au 3206906706704235 ?_;refine bD Z Z Z Z (zdU hT (p:=fun m => !decide (togM b st m.cloth.toNat m.many.toNat=m.wide)) (Kc:=[(jb,.cells (zA b s h e) 117 true),(js,.cells (stC st) 130 true),(s,zk b)]) (fun x hx=>yI Cal.h (zil hT hb hs hx)) (by have:=hb.mes.len; omega)) ?_ (hs:=(.rem (.tail (.tail (.tail .head))) (.rem (.tail .head) (.rem .head (.rem .head (.none _))))));rintro r1 K2 ⟨rfl,rfl⟩;refine au 35300 ?_;refine bB hret [(s,_),(e,_)] ?_;exact ⟨by rw [zin],rfl⟩
def YieldR (P:Program) (T:Goroutine->Hp->Prop) (gm:Nat->Option Nat) (b:RBk) (s h e l:Nat) (J:List (List Int)->KV->Prop) (D:KV->Prop) (tot:List (List Int)):Prop:=∀ (pre:List (List Int)) (S:List Int) (K1:KV),pre++[S] <+: tot->J pre K1 ->
 CallFK P T gm (.yl l) [.agg (stC S)] ((s,zk b)::(h,zC b)::(e,zr b)::K1) fun r K'=>∃ K2,K'=(s,zk b)::(h,zC b)::(e,zr b)::K2/\((r=zF true/\J (pre++[S]) K2)\/(r=zF false/\D K2))
structure ArrOk (b:RBk) (c p:List Int):Prop where
 len:c.length=5
 tk:c.take p.length=p
 z:∀ k,b.shrinks.length<=k->c.getD k 0=0
theorem zkF {b:RBk} {c p:List Int} {n:Int} (h:ArrOk b c p) (hp:p.length<b.shrinks.length) (h5:b.shrinks.length<=5):ArrOk b (c.set p.length n) (p++[n]):=by
 have hl:=h.len;refine ⟨by simp [hl],?_,fun k hk=>?_⟩
 ·rw [lF,List.length_singleton,List.take_add_one,List.getElem?_set_self oQ,List.take_set_of_le (mL _),h.tk];rfl
 ·rw [lE,List.getElem?_set_ne oQ,<- lE];exact h.z k hk
theorem zdK {b:RBk} {c p:List Int} {n:Int} (h:ArrOk b c (p++[n])):ArrOk b c p:=⟨h.len,by
 have:=congrArg (List.take p.length) h.tk;rw [List.take_take,lF,List.take_append_of_le_length (mL _),lW] at this;rw [Nat.min_eq_left sQ] at this;exact this,h.z⟩
theorem zjN (n hi:Int) (h:n<=hi):numsF n (hi+1 - n).toNat=n::numsF (n+1) (hi+1 - (n+1)).toNat:=by
 rw [show (hi+1 - n).toNat=(hi+1 - (n+1)).toNat+1 by omega]; rfl
theorem zjL (n hi:Int) (h:¬ n<=hi):numsF n (hi+1 - n).toNat=[]:=by
 rw [show (hi+1 - n).toNat=0 by omega]; rfl
theorem zeD {f:Int->List (List Int)} {n hi:Int} {pre x:List (List Int)} (hn:n<=hi) (h:pre++(numsF n (hi+1 - n).toNat).flatMap f=x):(pre++f n)++(numsF (n+1) (hi+1 - (n+1)).toNat).flatMap f=x:=by
 rw [<- h,zjN n hi hn,List.flatMap_cons,List.append_assoc]
theorem zmI (a b c d f g h:Nat×AObj) {R:KV}:([f,h]++a::b::c::d::g::R).Perm (a::b::c::d::f::g::h::R):=by
 have q1:([f,h]++a::b::c::d::g::R).Perm (a::b::c::d::g::R++[f,h]):=lH;have q2:((a::b::c::d::g::R)++[f,h]).Perm (a::b::c::d::([f,g,h]++R)):=by
  have q3:((g::R)++[f,h]).Perm ([f,g,h]++R):=by
   have q4:((g::R)++[f,h]).Perm (g::([f,h]++R)):=List.Perm.cons _ lH;exact q4.trans (List.Perm.swap _ _ _)
  exact (((q3.cons d).cons c).cons b).cons a
 exact q1.trans q2
theorem zmJ {a b c d:Nat×AObj} {R:KV}:(d::c::b::a::R).Perm (a::c::b::d::R):=by
 have q1:(d::c::b::a::R).Perm (c::b::a::d::R):=(List.perm_middle (l₁:=[c,b,a])).symm;have q2:(c::b::a::d::R).Perm (a::c::b::d::R):=List.perm_middle (l₁:=[c,b]);exact q1.trans q2
instance:zd tp 171 false 1:={}
instance:zd tp 186 false 1:={}
instance:TyZA tp 171 [.v (.nilFunc)]:={}
theorem zlj {main T} (hT:zm tp main T) {gm} {b:RBk} {s h e l jb js jy jn:Nat} (hb:ROk b) {J:List (List Int)->KV->Prop} {D:KV->Prop} {tot:List (List Int)} (hy:YieldR tp T gm b s h e l J D tot) :
  ∀ (m:Nat) (p c:List Int) (pre:List (List Int)) (K1:KV),b.shrinks.length - p.length=m->ArrOk b c p->PreB b p->pre++fromM b p (b.shrinks.drop p.length) <+: tot->J pre K1 ->
  zq tp T gm 99 [intA p.length,.ptr jb 0,.ptr js 0,.ptr jy 0,.ptr jn 0] ((jb,.cells (zA b s h e) 117 true)::(js,.cells (c.map intA) 130 true)::(jy,.cells [.yl l] 186 true)::(jn,.cells [.fn 99 [] [.ptr jb 0,.ptr js 0,.ptr jy 0,.ptr jn 0]] 171 true)::(s,zk b)::(h,zC b)::(e,zr b)::K1) (fun r K'=>∃ (c':List Int) (K2:KV),ArrOk b c' p/\K'=(jb,.cells (zA b s h e) 117 true)::(js,.cells (c'.map intA) 130 true)::(jy,.cells [.yl l] 186 true)::(jn,.cells [.fn 99 [] [.ptr jb 0,.ptr js 0,.ptr jy 0,.ptr jn 0]] 171 true)::(s,zk b)::(h,zC b)::(e,zr b)::K2/\((r=zF true/\J (pre++fromM b p (b.shrinks.drop p.length)) K2)\/(r=zF false/\D K2))):=by
 refine fun m=>Nat.strongRecOn m fun m ih=>?_;intro p c pre K1 hm hc hp hpre hJ;refine zl 49 hT Tryz.func99 fun Y hret=>?_;have hcl:=hc.len;have hle:=hp.1;have hsl:=hb.cls.len;have hs5:=hb.sms.len;refine au 93728069067067014223542 ?_;constructor<;>intro hc0
 ·have hpl:p.length=b.shrinks.length:=by simp at hc0; omega
  have hcp:c.map intA=stC p:=zmZ hcl hpl (by rw [<- hpl]; exact hc.tk) hc.z;rw [hcp];have hdn:b.shrinks.drop p.length=[]:=List.drop_eq_nil_of_le oQ;have hst:StOk b p:=zeh hb ⟨hpl,fun i hi=>hp.2 i oQ⟩;refine au 68068042 ?_;refine bD Z Z Z Z (zj6 hT hb hst) ?_ (hs:=(.right (.right (.right (.right (.left (.right (.left (.none _)))))))));rintro r1 K2 ⟨rfl,rfl⟩;refine au 0 ?_;refine bN (K':=(jb,_)::(js,_)::(jy,_)::(jn,_)::(s,_)::(h,_)::(e,_)::K1) (zmI _ _ _ _ _ _ _) ?_;refine au 1300 ?_;refine bF 18 (fun g2_5=>?_) (fun g2_5=>?_)
  ·have hfr:fromM b p (b.shrinks.drop p.length)=[]:=by rw [hdn]; unfold fromM; rw [if_neg (by simpa using g2_5)]
   refine au 35260888 ?_;refine bB hret (_) ?_ (hs:=(.all _));exact ⟨c,K1,hc,by rw [hcp],.inl ⟨rfl,by rw [hfr]; simpa using hJ⟩⟩
  have hfr:fromM b p (b.shrinks.drop p.length)=[p]:=by rw [hdn]; unfold fromM; rw [if_pos (by simpa using g2_5)]
  refine au 680690 ?_;refine TK.callF' Z Z Z Z Z (hy pre p K1 (by rw [<- hfr]; exact hpre) hJ) (.right (.right (.right (.right (.all _))))) fun r4 K5 h6=>?_;rcases h6 with ⟨K2,rfl,⟨rfl,hJ2⟩ | ⟨rfl,hD⟩⟩
  ·refine au 0 ?_;refine bN (K':=(jb,_)::(js,_)::(jy,_)::(jn,_)::(s,_)::(h,_)::(e,_)::K2) (lH (l₁:=(s,_)::(h,_)::(e,_)::K2)) ?_;refine au 35250 ?_;refine bB hret (_) ?_ (hs:=(.all _));exact ⟨c,K2,hc,by rw [hcp],.inl ⟨rfl,by rw [hfr]; exact hJ2⟩⟩
  ·refine au 0 ?_;refine bN (K':=(jb,_)::(js,_)::(jy,_)::(jn,_)::(s,_)::(h,_)::(e,_)::K2) (lH (l₁:=(s,_)::(h,_)::(e,_)::K2)) ?_;refine au 35250 ?_;refine bB hret (_) ?_ (hs:=(.all _));exact ⟨c,K2,hc,by rw [hcp],.inr ⟨rfl,hD⟩⟩
 have hlt:p.length<b.shrinks.length:=by simp at hc0; omega
 have hbd:=hb.cls.bnd p.length oQ;have hdc:b.shrinks.drop p.length=bd b p.length::b.shrinks.drop (p.length+1):=zN (kr hlt);have hfr:fromM b p (b.shrinks.drop p.length)=(numsF (bd b p.length).low ((bd b p.length).high+1 - (bd b p.length).low).toNat).flatMap fun n=>fromM b (p++[n]) (b.shrinks.drop (p.length+1)):=by rw [hdc]; rfl
 refine au 6703601690670670422120 ?_;refine bH Z (zg Z Z zd.h mQ (zW (c:=0) (bd_at b hlt Z) dQ Z)) ?_;refine au 13035 ?_;refine bA [0,1,2,3,4,6,7] ?_;refine bE (fun n1 env K=>∃ (n:Int) (c1:List Int) (pre1:List (List Int)) (K2:KV),n1=((bd b p.length).high+1 - n).toNat/\((bd b p.length).low<=n/\n<=(bd b p.length).high+1)/\ArrOk b c1 p/\J pre1 K2/\pre1++(numsF n ((bd b p.length).high+1 - n).toNat).flatMap (fun n=>fromM b (p++[n]) (b.shrinks.drop (p.length+1)))=pre++fromM b p (b.shrinks.drop p.length)/\env=intA p.length::.ptr jb 0::.ptr js 0::.ptr jy 0::.ptr jn 0::.any::zF false::intA n::naL 41 []/\K=(jb,.cells (zA b s h e) 117 true)::(js,.cells (c1.map intA) 130 true)::(jy,.cells [.yl l] 186 true)::(jn,.cells [.fn 99 [] [.ptr jb 0,.ptr js 0,.ptr jy 0,.ptr jn 0]] 171 true)::(s,zk b)::(h,zC b)::(e,zr b)::K2) _ ⟨(bd b p.length).low,c,pre,K1,rfl,oQ,hc,hJ,by rw [hfr],rfl,rfl⟩ fun n1 env K hI hnext=>?_;obtain ⟨n,c1,pre1,K2,rfl,hn,hc1a,hJ1,hEq,rfl,rfl⟩:=hI;have hc1l:=hc1a.len;refine bG nQ ?_;refine au 67036016906706701422 ?_;refine bH Z (zg Z Z zd.h mQ (zW (c:=1) (bd_at b hlt Z) dQ Z)) ?_;refine au 937 ?_;constructor<;>intro hc1
 ·have hnh:n<=(bd b p.length).high:=of_decide_eq_true hc1;refine au 11421302120 ?_;refine bH Z (kS Z Z Z ArEl.h oQ oQ) ?_;refine TK.st Z Z Z (zB Z Z zd.h Z Z mQ (vL (k:=p.length) oQ Z)) uQ (putN Z) ?_;refine au 2301690423 ?_;refine bD Z Z Z Z ((by have:=ih (b.shrinks.length - (p.length+1)) oQ (p++[n]) (c1.set p.length n) pre1 K2 sQ (zkF hc1a hlt oQ) (zbF hp hlt hn.1 hnh) (List.IsPrefix.trans ⟨_,by rw [lF]; exact zeD hnh hEq⟩ hpre) hJ1; rw [lF] at this; exact this)) ?_ (hs:=(.all _));rintro r7 K8 h9;rcases h9 with ⟨c2,K3,hc2,rfl,⟨rfl,hJ3⟩ | ⟨rfl,hD⟩⟩
  ·refine au 0 ?_;refine bN (K':=(jb,.cells (zA b s h e) 117 true)::(js,.cells (c2.map intA) 130 true)::(jy,.cells [.yl l] 186 true)::(jn,.cells [.fn 99 [] [.ptr jb 0,.ptr js 0,.ptr jy 0,.ptr jn 0]] 171 true)::(s,zk b)::(h,zC b)::(e,zr b)::K3) (by rw [lR]) ?_;refine au 35230141401201903300 ?_;refine bA [0,1,2,3,4,6,7] ?_;exact hnext _ _ _ oQ ⟨n+1,c2,_,K3,rfl,oQ,zdK hc2,hJ3,zeD hnh hEq,rfl,rfl⟩
  ·refine au 0 ?_;refine bN (K':=(jb,.cells (zA b s h e) 117 true)::(js,.cells (c2.map intA) 130 true)::(jy,.cells [.yl l] 186 true)::(jn,.cells [.fn 99 [] [.ptr jb 0,.ptr js 0,.ptr jy 0,.ptr jn 0]] 171 true)::(s,zk b)::(h,zC b)::(e,zr b)::K3) (by rw [lR]) ?_;refine au 35421803300 ?_;refine bB hret (_) ?_ (hs:=(.all _));exact ⟨c2,K3,zdK hc2,rfl,.inr ⟨rfl,hD⟩⟩
 refine au 3542160 ?_;refine bB hret (_) ?_ (hs:=(.all _));exact ⟨c1,K2,hc1a,rfl,.inl ⟨rfl,by rw [<- hEq,zjL _ _ (of_decide_eq_false hc1)]; simpa using hJ1⟩⟩
theorem ziB {main T} (hT:zm tp main T) {gm} {b:RBk} {s h e l:Nat} (hb:ROk b) {J:List (List Int)->KV->Prop} {D:KV->Prop} {K1:KV} (hy:YieldR tp T gm b s h e l J D (zj b)) (hJ:J [] K1) :
  zq tp T gm 60 [.agg (zA b s h e),.yl l] ((s,zk b)::(h,zC b)::(e,zr b)::K1) (fun _ K'=>∃ K2,K'=(s,zk b)::(h,zC b)::(e,zr b)::K2/\(J (zj b) K2\/D K2)):=by
 refine zl 9 hT Tryz.func60 fun Y hret=>?_;refine au 0 ?_;have hs5:=hb.sms.len;have hsl:=hb.cls.len;refine au 21042 ?_;intro jb hjb;refine au 210 ?_;intro jy hjy;refine au 220423 ?_;intro js hjs;refine au 220423 ?_;intro jn hjn;refine au 3170320423 ?_;refine bN (K':=(jb,.cells (zA b s h e) 117 true)::(js,.cells ([0,0,0,0,0].map intA) 130 true)::(jy,.cells [.yl l] 186 true)::(jn,.cells [.fn 99 [] [.ptr jb 0,.ptr js 0,.ptr jy 0,.ptr jn 0]] 171 true)::(s,zk b)::(h,zC b)::(e,zr b)::K1) zmJ ?_;refine au 6904 ?_;refine bD Z Z Z Z (zlj hT hb hy _ [] [0,0,0,0,0] [] K1 Z ⟨rfl,rfl,fun k hk=>by rw [lE]; rcases k with _ | _ | _ | _ | _ | k <;> rfl⟩ (zcG b) (List.prefix_refl _) hJ) ?_ (hs:=(.all _));rintro r1 K2 h3;rcases h3 with ⟨c2,K2,hc2,rfl,⟨rfl,hJ2⟩ | ⟨rfl,hD⟩⟩
 ·refine au 0 ?_;refine bN (K':=(jb,.cells (zA b s h e) 117 true)::(js,.cells (c2.map intA) 130 true)::(jy,.cells [.yl l] 186 true)::(jn,.cells [.fn 99 [] [.ptr jb 0,.ptr js 0,.ptr jy 0,.ptr jn 0]] 171 true)::(s,zk b)::(h,zC b)::(e,zr b)::K2) (by rw [lR]) ?_;refine au 3 ?_;refine TK.rt0 hret (_) ?_ (hs:=(.right (.right (.right (.right (.all _))))));exact ⟨_,rfl,.inl hJ2⟩
 ·refine au 0 ?_;refine bN (K':=(jb,.cells (zA b s h e) 117 true)::(js,.cells (c2.map intA) 130 true)::(jy,.cells [.yl l] 186 true)::(jn,.cells [.fn 99 [] [.ptr jb 0,.ptr js 0,.ptr jy 0,.ptr jn 0]] 171 true)::(s,zk b)::(h,zC b)::(e,zr b)::K2) (by rw [lR]) ?_;refine au 3 ?_;refine TK.rt0 hret (_) ?_ (hs:=(.right (.right (.right (.right (.all _))))));exact ⟨_,rfl,.inr hD⟩
theorem zeE (a b c d:Nat×AObj) {R:KV}:(a::b::c::d::R).Perm (b::c::d::a::R):=(List.perm_middle (l₁:=[b,c,d])).symm
theorem perm_4' (a b c d:Nat×AObj) {R:KV}:(b::c::d::a::R).Perm (a::b::c::d::R):=List.perm_middle (l₁:=[b,c,d])
theorem Kstep.perm {K K' K'':KV} {A A':List AObj} (h:Kstep K A K' A') (hp:K'.Perm K''):Kstep K A K'' A' :=
 ⟨h.view.sub fun x hx=>hp.symm.subset hx,(zS hp).nodup_iff.1 h.nd,fun i hi=>h.own i ((zS hp).symm.subset hi),h.kept,h.len⟩
theorem CallFK.perm {P:Program} {T:Goroutine->Hp->Prop} {gm:Nat->Option Nat} {yv:AV} {args:List AV} {K:KV} {Post Post':AV->KV->Prop} (h:CallFK P T gm yv args K Post) (hp:∀ r K',Post r K'->∃ K'',K'.Perm K''/\Post' r K''):CallFK P T gm yv args K Post' :=
 fun A hv hn=>(h A hv hn).mono fun r A' ⟨K',h1,h2⟩=>let ⟨K'',h3,h4⟩:=hp r K' h2; ⟨K'',h1.perm h3,h4⟩
section
variable {main:Bool} {T:Goroutine->Hp->Prop} {gm:Nat->Option Nat} {Y:KX tp gm T} {ds:List Nat} {k:List Item} {env:List AV} {K K0 R:KV}
theorem TK.rangeStates (hT:zm tp main T) {fo:Operand} {ps:Array Tmp} {x y:Code} {b:RBk} {s h e:Nat} (hb:ROk b) {J:List (List Int)->KV->Prop} {D:Code->KV->Prop} (hps:ps.size=1) (hro:Y.X.ro=none) (hf:zo gm env fo=some (.fn 60 [.agg (zA b s h e)] [])) (hs:Split K ((s,zk b)::(h,zC b)::(e,zr b)::K0) R) (hJ0:J [] K0)
  (round:∀ (Y':KX tp gm T) (l:Nat) (lo lb:AObj) (pre:List (List Int)) (S:List Int) (K1:KV),(∀ ds k env' K K',Upd K l lo l lb K'->TK Y' ds k env' K'->TK Y' ds (.beginRound::k) env' K) ->
   (∀ env' K' K2 D',Split K' ((l,lb)::(s,zk b)::(h,zC b)::(e,zr b)::K2) D'->J (pre++[S]) K2->TK Y' [] [] env' K') ->
   (∀ c k env' K' K2 D',Leave (some c) k->Split K' ((l,lb)::(s,zk b)::(h,zC b)::(e,zr b)::K2) D'->D c K2->TK Y' [] k env' K') ->
   pre++[S] <+: zj b->J pre K1->TK Y' [] [.code x,.beginRound,.code y] (putAll env (ps.toList.zip [.agg (stC S)])) ((l,lo)::(s,zk b)::(h,zC b)::(e,zr b)::K1))
  (hend:∀ d K2,J (zj b) K2->TK Y (d::ds) k env ((d,.raw (.deferred (some [])))::(s,zk b)::(h,zC b)::(e,zr b)::(K2++R)))
  (hstop:∀ d c K2,D c K2->TK Y (d::ds) (.code c::k) env ((d,.raw (.deferred (some [])))::(s,zk b)::(h,zC b)::(e,zr b)::(K2++R))):TK Y ds (.code (.rangeFunc fo ps x y)::k) env K:=by
 refine TK.rangeFunc (Post:=fun l _ K'=>∃ st pj K2,K'=(l,.loop Y.X.f env ps x y st pj)::(s,zk b)::(h,zC b)::(e,zr b)::K2/\((st=.ready/\pj=none/\J (zj b) K2)\/∃ c,st=.done/\pj=some c/\D c K2))
  (Q:=fun pj K'=>∃ K2,K'=(s,zk b)::(h,zC b)::(e,zr b)::K2/\((pj=none/\J (zj b) K2)\/∃ c,pj=some c/\D c K2)) hro hf Cal.h hs (fun l hl=>?_) ?_ ?_
 ·intro A hv hn;have hp:((l,AObj.loop Y.X.f env ps x y .ready none)::(s,zk b)::(h,zC b)::(e,zr b)::K0).Perm ((s,zk b)::(h,zC b)::(e,zr b)::(l,.loop Y.X.f env ps x y .ready none)::K0):=zeE _ _ _ _;refine CallT.mono (ziB hT hb (l:=l) (J:=fun pre K=>∃ K3,K=(l,.loop Y.X.f env ps x y .ready none)::K3/\J pre K3) (D:=fun K=>∃ c K3,K=(l,.loop Y.X.f env ps x y .done (some c))::K3/\D c K3) ?_ ⟨K0,rfl,hJ0⟩ A (hv.sub fun x hx=>hp.symm.subset hx) ((zS hp).nodup_iff.1 hn)) ?_
  ·rintro pre S K1 hpre ⟨K3,rfl,hJ⟩;refine CallFK.perm (Post:=fun r K'=>(r=zF true/\∃ K2,K'=(l,.loop Y.X.f env ps x y .ready none)::(s,zk b)::(h,zC b)::(e,zr b)::K2/\J (pre++[S]) K2)\/(r=zF false/\∃ c K2,K'=(l,.loop Y.X.f env ps x y .done (some c))::(s,zk b)::(h,zC b)::(e,zr b)::K2/\D c K2)) ?_ ?_
   ·refine zcV hT (i:=l) (f:=Y.X.f) (env:=env) (ps:=ps) (x:=x) (y:=y) sQ hps.symm fun Y' hro' hl' hret=>?_;refine bN (perm_4' _ _ _ _) ?_;refine round Y' l (.loop Y.X.f env ps x y .ready none) (.loop Y.X.f env ps x y .busy none) pre S K3 (fun ds k env' K K' hu h=>TK.beginRound hro' hl' hu h) (fun env' K' K2 D' hsp hJ'=>?_) (fun c k env' K' K2 D' hlv hsp hD=>?_) hpre hJ
    ·exact TK.leave .fin fun A hA=>hret none env' K' ((s,zk b)::(h,zC b)::(e,zr b)::K2) D' .busy none hsp (.inl ⟨rfl,K2,rfl,hJ'⟩) A hA
    ·exact TK.leave hlv fun A hA=>hret (some c) env' K' ((s,zk b)::(h,zC b)::(e,zr b)::K2) D' .busy none hsp (.inr ⟨rfl,c,K2,rfl,hD⟩) A hA
   ·rintro r K' (⟨rfl,K2,rfl,h⟩ | ⟨rfl,c,K2,rfl,h⟩)
    ·exact ⟨_,zeE _ _ _ _,_,rfl,.inl ⟨rfl,K2,rfl,h⟩⟩
    ·exact ⟨_,zeE _ _ _ _,_,rfl,.inr ⟨rfl,c,K2,rfl,h⟩⟩
  ·rintro r A' ⟨K',hk,K2,rfl,hx⟩;have hk2:∀ K'',((s,zk b)::(h,zC b)::(e,zr b)::K2).Perm K''->Kstep ((l,AObj.loop Y.X.f env ps x y .ready none)::(s,zk b)::(h,zC b)::(e,zr b)::K0) A K'' A':=fun K'' hp2 =>
    Kstep.perm ⟨hk.view,hk.nd,fun i hi=>(hk.own i hi).imp_left fun h=>(zS hp).symm.subset h,fun j h1 h2=>hk.kept j h1 fun h=>h2 ((zS hp).symm.subset h),hk.len⟩ hp2
   rcases hx with ⟨K3,rfl,h⟩ | ⟨c,K3,rfl,h⟩
   ·exact ⟨_,hk2 _ (perm_4' _ _ _ _),.ready,none,K3,rfl,.inl ⟨rfl,rfl,h⟩⟩
   ·exact ⟨_,hk2 _ (perm_4' _ _ _ _),.done,some c,K3,rfl,.inr ⟨c,rfl,rfl,h⟩⟩
 ·rintro l r K' ⟨st,pj,K2,rfl,h⟩;refine ⟨st,pj,_,rfl,?_,K2,rfl,?_⟩
  ·rcases h with ⟨rfl,_⟩ | ⟨c,rfl,_⟩ <;> rfl
  ·rcases h with ⟨_,rfl,h⟩ | ⟨c,_,rfl,h⟩
   ·exact .inl ⟨rfl,h⟩
   ·exact .inr ⟨c,rfl,h⟩
 ·rintro d pj K' ⟨K2,rfl,⟨rfl,h⟩ | ⟨c,rfl,h⟩⟩
  ·exact hend d K2 h
  ·exact hstop d c K2 h
end
theorem zes (n:Int):∀ k,(numsF n k).length=k
 | 0=>rfl
 | k+1=>by unfold numsF; rw [lZ,zes (n+1) k]
theorem zd5 {b:RBk}:∀ (r:List RBand) (p:List Int),(∀ x∈r,(numsM x).length<=3)->(fromM b p r).length<=3 ^ r.length
 | [],p,_=>by unfold fromM; split <;> simp
 | x::r,p,h=>by
  unfold fromM;have h1:=h x sQ;have key:∀ (l:List Int),(l.flatMap fun n=>fromM b (p++[n]) r).length<=l.length*3 ^ r.length:=fun l=>by
   induction l with
   | nil=>simp
   | cons a l ih =>
    rw [List.flatMap_cons,lF,lZ,Nat.succ_mul];have:=zd5 (b:=b) r (p++[a]) fun y hy=>h y (by simp [hy]);omega
  have h2:=key (numsM x);have h3:(numsM x).length*3 ^ r.length<=3*3 ^ r.length:=Nat.mul_le_mul_right _ h1;rw [lZ,Nat.pow_succ];omega
theorem kE {b:RBk} (hb:ROk b):(zj b).length<=243:=by
 have h1:=zd5 (b:=b) b.shrinks [] fun x hx=>by
  obtain ⟨i,hi,rfl⟩:=List.mem_iff_getElem.1 hx;have hi2:i<b.seams.length:=by have:=hb.cls.len; omega
  have e:b.shrinks[i]=bd b i:=by have:=kr (b:=b) hi; rw [lA hi] at this; exact Option.some.inj this
  have:=hb.cls.bnd i hi2;unfold numsM;rw [zes,e];omega
 have h2:3 ^ b.shrinks.length<=3 ^ 5:=Nat.pow_le_pow_right dQ (by have:=hb.cls.len; have:=hb.sms.len; omega);exact mT h1 h2
theorem zlt {b:RBk} (hb:ROk b) {pre:List (List Int)} (h:pre <+: zj b):pre.length<=243:=mT h.length_le (kE hb)
theorem y9 {α:Type} (f:α->List AV) (xs:List α) (x:α):(xs++[x]).flatMap f=xs.flatMap f++f x:=by rw [List.flatMap_append]; simp
abbrev allO (all:List (List Int)):AObj:=.cells (all.flatMap stC) 130 false
def knownC (b:RBk) (s h e a n:Nat):List AV:=[intA b.steps,intA b.round,intA b.roll,intA b.rolls,.sl s 0 b.seams.length,.sl h 0 b.shrinks.length,.sl e 0 b.measures.length,.sl a 0 n]
def z8R:List AV:=[intA 0,intA 0,intA 0,intA 0,.v (.slice none 0 0),.v (.slice none 0 0),.v (.slice none 0 0),.v (.slice none 0 0)]
theorem kX {x y:Int} (h:bar2 x y=0):x=0:=by
 unfold bar2 at h;split at h
 ·rename_i h1; exact absurd h h1
 ·rename_i h1; simpa using h1
def KnownR (b:RBk) (s h e:Nat) (bar:Int) (K:KV) (r:AV) (K':KV):Prop :=
 (bar≠0/\r=.tup [.agg z8R,intA bar]/\K'=K)\/(bar=0/\zj b=[]/\r=.tup [.agg z8R,intA 9]/\K'=K)\/(bar=0/\zj b≠[]/\∃ a,r=.tup [.agg (knownC b s h e a (zj b).length),intA 0]/\K'=(a,allO (zj b))::K)
theorem zf8 (a b c d e f:Nat×AObj) {R:KV}:((c::d::e::f::R)++[a,b]).Perm (c::d::e::f::a::b::R):=by
 have q:(R++[a,b]).Perm ([a,b]++R):=lH;exact (((q.cons f).cons e).cons d).cons c
theorem zf9 (a b c d e f g:Nat×AObj) {R:KV}:((g::c::d::e::f::R)++[a,b]).Perm (g::c::d::e::f::a::b::R):=by
 have q:(R++[a,b]).Perm ([a,b]++R):=lH;exact ((((q.cons f).cons e).cons d).cons c).cons g
instance:ApOf tp 135 130 5 40:={}
instance:BlOf tp 137 [(0,7),(7,1)]:={}
instance:zf tp 137 1 7 false 1:={}
instance:zz tp 135 130 5:={}
instance:zd tp 135 false 1:={}
instance:TyZ tp 130 [.int .i64 0,.int .i64 0,.int .i64 0,.int .i64 0,.int .i64 0]:={}
instance:TyZ tp 137 [.int .i64 0,.int .i64 0,.int .i64 0,.int .i64 0,.slice none 0 0,.slice none 0 0,.slice none 0 0,.slice none 0 0]:={}
instance:TyZA tp 137 [.v (.int .i64 0),.v (.int .i64 0),.v (.int .i64 0),.v (.int .i64 0),.v (.slice none 0 0),.v (.slice none 0 0),.v (.slice none 0 0),.v (.slice none 0 0)]:={}
instance:TyZA tp 4 [.v (.bool false)]:={}
instance:Und tp 135 (.slice 130):={}
theorem zgj {main T} (hT:zm tp main T) {gm} {b:RBk} {s h e:Nat} (hb:ROk b) :
  zq tp T gm 80 [.agg (zA b s h e)] [(s,zk b),(h,zC b),(e,zr b)] (fun r K'=>r=zF (!(zj b).isEmpty)/\K'=[(s,zk b),(h,zC b),(e,zr b)]):=by
 refine vm 6 hT Tryz.func80 fun Y hro hret=>?_;refine au 21042 ?_;intro jb hjb;refine au 220 ?_;intro jr hjr;refine au 13033206804223 ?_;refine TK.rangeStates hT hb (s:=s) (h:=h) (e:=e) (J:=fun pre K1=>K1=[(jr,.cells [zF false] 4 true),(jb,.cells (zA b s h e) 117 true)]/\pre=[]) (D:=fun c K1=>c=.ret/\zj b≠[]/\K1=[(jr,.cells [zF true] 4 true),(jb,.cells (zA b s h e) 117 true)]) rfl hro rfl (by repeat (first | exact Split.none _ | exact Split.all _ | (apply Split.rem; repeat (first | exact Rem.head | apply Rem.tail)) | apply Split.right)) ⟨rfl,rfl⟩ (fun Y' l lo lb pre S K1 hbegin hfin hout hpre hJ=>?_) (fun d K2 hJ=>?_) (fun d c K2 hD=>?_)
 ·obtain ⟨rfl,rfl⟩:=hJ;refine au 120 ?_;refine hbegin _ _ _ _ _ uQ ?_;refine au 317042130 ?_;exact hout _ _ _ _ [(jr,_),(jb,_)] _ (.ret _) (by repeat (first | exact Split.none _ | exact Split.all _ | (apply Split.rem; repeat (first | exact Rem.head | apply Rem.tail)) | apply Split.right)) ⟨rfl,fun e=>by rw [e] at hpre; exact absurd hpre.length_le sQ,rfl⟩
 ·obtain ⟨rfl,hJ⟩:=hJ;simp only [cA];refine au 317042140 ?_;refine TK.leave (.ret _) fun A hA=>hret _ _ _ _ ([(s,_),(h,_),(e,_),(jr,_)]) ([(s,_),(h,_),(e,_)]) _ _ _ (.inr rfl) (by repeat (first | exact Split.none _ | exact Split.all _ | (apply Split.rem; repeat (first | exact Rem.head | apply Rem.tail)) | apply Split.right)) sQ sQ (by repeat (first | exact Split.none _ | exact Split.all _ | (apply Split.rem; repeat (first | exact Rem.head | apply Rem.tail)) | apply Split.right)) (yK (yV Z zd.h mQ rfl)) ?_ A hA;exact ⟨by rw [hJ]; rfl,rfl⟩
 ·obtain ⟨rfl,hD,rfl⟩:=hD;simp only [cA];refine au 0 ?_;refine TK.leave (.ret _) fun A hA=>hret _ _ _ _ ([(s,_),(h,_),(e,_),(jr,_)]) ([(s,_),(h,_),(e,_)]) _ _ _ (.inr rfl) (by repeat (first | exact Split.none _ | exact Split.all _ | (apply Split.rem; repeat (first | exact Rem.head | apply Rem.tail)) | apply Split.right)) sQ sQ (by repeat (first | exact Split.none _ | exact Split.all _ | (apply Split.rem; repeat (first | exact Rem.head | apply Rem.tail)) | apply Split.right)) (yK (yV Z zd.h mQ rfl)) ?_ A hA;exact ⟨by cases hh:zj b with | nil=>exact absurd hh hD | cons x r=>rfl,rfl⟩
theorem zdI {main T} (hT:zm tp main T) {gm} {b:RBk} {s h e:Nat} (hb:ROk b) :
  zq tp T gm 127 [.v (.slice none 0 0),.fn 60 [.agg (zA b s h e)] []] [(s,zk b),(h,zC b),(e,zr b)] (fun r K'=>∃ j,r=.row j (zj b).length/\K'=[(s,zk b),(h,zC b),(e,zr b),(j,.row ((zj b).flatMap stC) 130 5)]):=by
 refine vm 13 hT Tryz.func127 fun Y hro hret=>?_;refine au 21042 ?_;intro jl hjl;refine TK.virtAt (i:=0) (e:=130) (size:=5) Z (fun _=>uQ) fun j0 hj0=>?_;refine au 1303142235 ?_;refine TK.rangeStates hT hb (s:=s) (h:=h) (e:=e) (J:=fun pre K1=>∃ j,K1=[(jl,.cells [.row j pre.length] 135 true),(j,.row (pre.flatMap stC) 130 5)]) (D:=fun _ _=>False) rfl hro rfl (by repeat (first | exact Split.none _ | exact Split.all _ | (apply Split.rem; repeat (first | exact Rem.head | apply Rem.tail)) | apply Split.right)) ⟨j0,rfl⟩ (fun Y' l lo lb pre S K1 hbegin hfin hout hpre hJ=>?_) (fun d K2 hJ=>?_) (fun d c K2 hD=>?_)
 ·obtain ⟨j,rfl⟩:=hJ;have hpl:=zlt hb ((List.prefix_append _ _).trans hpre);have hfl:=yz stC 5 (fun _=>rfl) pre;refine au 2204 ?_;intro j5 hj5;refine au 3170 ?_;refine hbegin _ _ _ _ _ uQ ?_;refine au 6806904130 ?_;refine bI Z Z Z (zp (l:=[_,_,_,_,_]) Z zz.h TyZ.h dQ dQ Z) (fun _=>zn rfl tQ) fun j1 hj1=>?_;refine bO Z Z Z (a_app Z ApOf.h Z mQ oQ Z (yp (ln:=[_,_,_,_,_]) mQ dQ sQ Z) oQ Z (by unfold maxLen; omega) oQ) (fun _=>uQ) (fun _=>zn rfl tQ) fun j2=>?_;refine au 1403170 ?_;exact hfin _ _ [(jl,_),(j2,_)] _ (by repeat (first | exact Split.none _ | exact Split.all _ | (apply Split.rem; repeat (first | exact Rem.head | apply Rem.tail)) | apply Split.right)) ⟨j2,by rw [y9,lF] <;> rfl⟩
 ·obtain ⟨j,rfl⟩:=hJ;simp only [cA];refine au 3569042140 ?_;refine TK.leave (.ret _) fun A hA=>hret _ _ _ _ ([(s,_),(h,_),(e,_),(j,_)]) ([(s,_),(h,_),(e,_),(j,_)]) _ _ _ (.inr rfl) (by repeat (first | exact Split.none _ | exact Split.all _ | (apply Split.rem; repeat (first | exact Rem.head | apply Rem.tail)) | apply Split.right)) sQ sQ (by repeat (first | exact Split.none _ | exact Split.all _ | (apply Split.rem; repeat (first | exact Rem.head | apply Rem.tail)) | apply Split.right)) (yK (zV Z)) ?_ A hA;exact ⟨j,rfl,rfl⟩
 ·exact hD.elim
theorem vB {main T} (hT:zm tp main T) {gm} {b:RBk} {s h e:Nat} (hb:ROk b) :
  zq tp T gm 101 [.fn 60 [.agg (zA b s h e)] []] [(s,zk b),(h,zC b),(e,zr b)] (fun r K'=>∃ j,r=.row j (zj b).length/\K'=[(s,zk b),(h,zC b),(e,zr b),(j,.row ((zj b).flatMap stC) 130 5)]):=by
 refine zl 5 hT Tryz.func101 fun Y hret=>?_;refine au 1423542 ?_;refine bD Z Z Z Z (zdI hT hb) ?_;rintro r1 K2 ⟨j,rfl,rfl⟩;refine au 35 ?_;refine bB hret [(s,_),(h,_),(e,_),(j,_)] ?_;exact ⟨j,rfl,rfl⟩
theorem wK {main:Bool} {T:Goroutine->Hp->Prop} (hT:zm tp main T)  {b:RBk} {s h e:Nat} {Kx:KV}  (hl:b.seams.length<=100) (hm:b.measures.length<=100) :
  zq tp T gmR 61 [.agg (zA b s h e),.v (.slice none 0 0)] ((0,zx)::(s,zk b)::(h,zC b)::(e,zr b)::Kx) (fun r K'=>KnownR b s h e (zu b) ((0,zx)::(s,zk b)::(h,zC b)::(e,zr b)::Kx) r K'):=by
 refine zl 30 hT Tryz.func61 fun Y hret=>?_;refine au 21042 ?_;intro jb hjb;refine au 220 ?_;intro jr hjr;refine au 16804235 ?_;refine bD Z Z Z Z (uX hT hl hm) ?_ (hs:=(.right (.right (.all _))));rintro r1 K2 h3;rcases h3 with ⟨⟨hbar,rfl⟩ | ⟨hbar,rfl⟩,rfl⟩
 ·refine au 0 ?_;refine bN (K':=(0,_)::(s,_)::(h,_)::(e,_)::(jr,_)::(jb,_)::Kx) (zf8 _ _ _ _ _ _ ) ?_;refine au 220661 ?_;intro j6 hj6;refine au 937142235170 ?_;constructor<;>intro hc0
  ·exact absurd hc0 sQ
  have hbb:=zY (hbar);refine au 2120 ?_;refine bL [0,1,2,3,4,5,6] ?_;refine ad [[12,6],[12,6]] ?_;refine bU [20] Z (vD Z Z Z) ?_;refine TD.c2 (i1:=3) (i2:=5) (pend1:=[⟨1,[6],[(_,_)]⟩,⟨0,[6],[(_,_)]⟩]) (pend2:=[⟨2,[20],[]⟩,⟨1,[6],[(_,_)]⟩,⟨0,[6],[(_,_)]⟩]) (L1:=[4,5,6]) (L2:=[3,4,6]) [21] [] Z Z Z Z Z Z Z ?_ ?_
  ·refine yA Z Z Cal.h Z (vB hT hbb) (.right (.right (.left (.left (.left (.none _)))))) fun r4 K5 h6=>⟨?_,?_⟩
   ·rcases h6 with ⟨a,rfl,rfl⟩
    all_goals simp
   obtain ⟨a,rfl,rfl⟩:=h6;try simp only [cA]
   refine bS (env':=[_,_,_,_,_,_,_,_,_,_,_,_,_,_,_,_,_,_,_,_,_,_,_,_,_,_,_,_,_,_]) Z ?_;refine bU [19,22] Z (yo (l:=[_,_,_,_,_,_,_,_]) Z TyZ.h BlOf.h Z) ?_;refine bX (pend':=[⟨4,[19,22],[]⟩,⟨1,[6],[(_,_)]⟩,⟨0,[6],[(_,_)]⟩]) [] Z Z Z Z Z (zU Z TyZA.h) (fun _=>zn rfl tQ) sQ fun j8 hj8=>?_;refine bR (pend':=[]) [8,23] Z Z (zB Z Z zd.h Z Z mQ Z) ?_;refine ad [[14]] ?_;refine au 22 ?_;refine TK.unrowAt (c:=j8) (i:=7) (j:=a) Z mQ uQ ?_;refine bY (j:=a) ?_;refine au 9372806906704 ?_;constructor<;>intro hc1
   ·have hnil:zj b=[]:=List.length_eq_zero_iff.1 (by have:=eq_of_beq hc1; omega);refine au 3517045042 ?_;refine bB hret ((0,_)::(s,_)::(h,_)::(e,_)::Kx) ?_;exact .inr (.inl ⟨hbar,hnil,rfl,rfl⟩)
   have hne:zj b≠[]:=fun e=>by rw [e] at hc1; simp at hc1
   refine au 3517068042120 ?_;refine bB hret ((a,_)::(0,_)::(s,_)::(h,_)::(e,_)::Kx) ?_;exact .inr (.inr ⟨hbar,hne,a,rfl,rfl⟩)
  ·refine yu Z (zU Z TyZA.h) (fun _=>zn rfl tQ) sQ fun j8 hj8=>?_;refine bQ (pend':=[⟨1,[6],[(_,_)]⟩,⟨0,[6],[(_,_)]⟩]) [21] Z Z Z Z Z (vB hT hbb) (fun r7 K8 h9=>⟨?_,?_⟩) (hs:=(.right (.right (.right (.left (.left (.left (.none _))))))))
   ·rcases h9 with ⟨a,rfl,rfl⟩
    all_goals simp
   obtain ⟨a,rfl,rfl⟩:=h9;try simp only [cA]
   refine bS tQ ?_;refine bU [19,22] Z (yo (l:=[_,_,_,_,_,_,_,_]) Z TyZ.h BlOf.h Z) ?_;refine bR (pend':=[]) [8,23] Z Z (zB Z Z zd.h Z Z mQ Z) ?_;refine ad [[14]] ?_;refine au 22 ?_;refine TK.unrowAt (c:=j8) (i:=7) (j:=a) Z mQ uQ ?_;refine bY (j:=a) ?_;refine au 9372806906704 ?_;constructor<;>intro hc1
   ·have hnil:zj b=[]:=List.length_eq_zero_iff.1 (by have:=eq_of_beq hc1; omega);refine au 3517045042 ?_;refine bB hret ((0,_)::(s,_)::(h,_)::(e,_)::Kx) ?_;exact .inr (.inl ⟨hbar,hnil,rfl,rfl⟩)
   have hne:zj b≠[]:=fun e=>by rw [e] at hc1; simp at hc1
   refine au 3517068042120 ?_;refine bB hret ((a,_)::(0,_)::(s,_)::(h,_)::(e,_)::Kx) ?_;exact .inr (.inr ⟨hbar,hne,a,rfl,rfl⟩)
 ·refine au 0 ?_;refine bN (K':=(0,_)::(s,_)::(h,_)::(e,_)::(jr,_)::(jb,_)::Kx) (zf8 _ _ _ _ _ _ ) ?_;refine au 220661 ?_;intro j6 hj6;refine au 937142235170 ?_;constructor<;>intro hc0
  ·
   refine au 35170145042 ?_;refine bB hret ((0,_)::(s,_)::(h,_)::(e,_)::Kx) ?_;exact .inl ⟨hbar,rfl,rfl⟩
  exact absurd hbar (by simpa using hc0)
theorem zaz {main:Bool} {T:Goroutine->Hp->Prop} (hT:zm tp main T)  {b:RBk} {s h e:Nat} {Kx:KV} {ja:Nat} {f1:AV} {p1:Int} (hf1:zu b=0->CallFK tp T gmR f1 [.agg (zA b s h e)] ((s,zk b)::Kx) (fun r K'=>r=intA p1/\K'=(s,zk b)::Kx)) (hl:b.seams.length<=100) (hm:b.measures.length<=100) :
  zq tp T gmR 61 [.agg (zA b s h e),.row ja 1] ((ja,.row [f1] 120 1)::(0,zx)::(s,zk b)::(h,zC b)::(e,zr b)::Kx) (fun r K'=>KnownR b s h e (bar2 (zu b) p1) ((ja,.row [f1] 120 1)::(0,zx)::(s,zk b)::(h,zC b)::(e,zr b)::Kx) r K'):=by
 refine zl 30 hT Tryz.func61 fun Y hret=>?_;refine au 21042 ?_;intro jb hjb;refine au 220 ?_;intro jr hjr;refine au 16804235 ?_;refine bD Z Z Z Z (vC hT hl hm hf1) ?_ (hs:=(.right (.right (.all _))));rintro r1 K2 h3;rcases h3 with ⟨⟨hbar,rfl⟩ | ⟨hbar,rfl⟩,rfl⟩
 ·refine au 0 ?_;refine bN (K':=(ja,_)::(0,_)::(s,_)::(h,_)::(e,_)::(jr,_)::(jb,_)::Kx) (zf9 _ _ _ _ _ _ _) ?_;refine au 220661 ?_;intro j6 hj6;refine au 937142235170 ?_;constructor<;>intro hc0
  ·exact absurd hc0 sQ
  have hbb:=zY (kX hbar);refine au 2120 ?_;refine bL [0,1,2,3,4,5,6] ?_;refine ad [[12,6],[12,6]] ?_;refine bU [20] Z (vD Z Z Z) ?_;refine TD.c2 (i1:=3) (i2:=5) (pend1:=[⟨1,[6],[(_,_)]⟩,⟨0,[6],[(_,_)]⟩]) (pend2:=[⟨2,[20],[]⟩,⟨1,[6],[(_,_)]⟩,⟨0,[6],[(_,_)]⟩]) (L1:=[4,5,6]) (L2:=[3,4,6]) [21] [] Z Z Z Z Z Z Z ?_ ?_
  ·refine yA Z Z Cal.h Z (vB hT hbb) (.right (.right (.right (.left (.left (.left (.none _))))))) fun r4 K5 h6=>⟨?_,?_⟩
   ·rcases h6 with ⟨a,rfl,rfl⟩
    all_goals simp
   obtain ⟨a,rfl,rfl⟩:=h6;try simp only [cA]
   refine bS (env':=[_,_,_,_,_,_,_,_,_,_,_,_,_,_,_,_,_,_,_,_,_,_,_,_,_,_,_,_,_,_]) Z ?_;refine bU [19,22] Z (yo (l:=[_,_,_,_,_,_,_,_]) Z TyZ.h BlOf.h Z) ?_;refine bX (pend':=[⟨4,[19,22],[]⟩,⟨1,[6],[(_,_)]⟩,⟨0,[6],[(_,_)]⟩]) [] Z Z Z Z Z (zU Z TyZA.h) (fun _=>zn rfl tQ) sQ fun j8 hj8=>?_;refine bR (pend':=[]) [8,23] Z Z (zB Z Z zd.h Z Z mQ Z) ?_;refine ad [[14]] ?_;refine au 22 ?_;refine TK.unrowAt (c:=j8) (i:=7) (j:=a) Z mQ uQ ?_;refine bY (j:=a) ?_;refine au 9372806906704 ?_;constructor<;>intro hc1
   ·have hnil:zj b=[]:=List.length_eq_zero_iff.1 (by have:=eq_of_beq hc1; omega);refine au 3517045042 ?_;refine bB hret ((ja,_)::(0,_)::(s,_)::(h,_)::(e,_)::Kx) ?_;exact .inr (.inl ⟨hbar,hnil,rfl,rfl⟩)
   have hne:zj b≠[]:=fun e=>by rw [e] at hc1; simp at hc1
   refine au 3517068042120 ?_;refine bB hret ((a,_)::(ja,_)::(0,_)::(s,_)::(h,_)::(e,_)::Kx) ?_;exact .inr (.inr ⟨hbar,hne,a,rfl,rfl⟩)
  ·refine yu Z (zU Z TyZA.h) (fun _=>zn rfl tQ) sQ fun j8 hj8=>?_;refine bQ (pend':=[⟨1,[6],[(_,_)]⟩,⟨0,[6],[(_,_)]⟩]) [21] Z Z Z Z Z (vB hT hbb) (fun r7 K8 h9=>⟨?_,?_⟩) (hs:=(.right (.right (.right (.right (.left (.left (.left (.none _)))))))))
   ·rcases h9 with ⟨a,rfl,rfl⟩
    all_goals simp
   obtain ⟨a,rfl,rfl⟩:=h9;try simp only [cA]
   refine bS tQ ?_;refine bU [19,22] Z (yo (l:=[_,_,_,_,_,_,_,_]) Z TyZ.h BlOf.h Z) ?_;refine bR (pend':=[]) [8,23] Z Z (zB Z Z zd.h Z Z mQ Z) ?_;refine ad [[14]] ?_;refine au 22 ?_;refine TK.unrowAt (c:=j8) (i:=7) (j:=a) Z mQ uQ ?_;refine bY (j:=a) ?_;refine au 9372806906704 ?_;constructor<;>intro hc1
   ·have hnil:zj b=[]:=List.length_eq_zero_iff.1 (by have:=eq_of_beq hc1; omega);refine au 3517045042 ?_;refine bB hret ((ja,_)::(0,_)::(s,_)::(h,_)::(e,_)::Kx) ?_;exact .inr (.inl ⟨hbar,hnil,rfl,rfl⟩)
   have hne:zj b≠[]:=fun e=>by rw [e] at hc1; simp at hc1
   refine au 3517068042120 ?_;refine bB hret ((a,_)::(ja,_)::(0,_)::(s,_)::(h,_)::(e,_)::Kx) ?_;exact .inr (.inr ⟨hbar,hne,a,rfl,rfl⟩)
 ·refine au 0 ?_;refine bN (K':=(ja,_)::(0,_)::(s,_)::(h,_)::(e,_)::(jr,_)::(jb,_)::Kx) (zf9 _ _ _ _ _ _ _) ?_;refine au 220661 ?_;intro j6 hj6;refine au 937142235170 ?_;constructor<;>intro hc0
  ·
   refine au 35170145042 ?_;refine bB hret ((ja,_)::(0,_)::(s,_)::(h,_)::(e,_)::Kx) ?_;exact .inl ⟨hbar,rfl,rfl⟩
  exact absurd hbar (by simpa using hc0)
end Go.Vel
namespace Go.Vel
structure RatR where
 num:Int
 den:Int
 deriving Inhabited,DecidableEq
def gcdI (n d:Int):Int:=(Int.gcd n d:Int)
def lowM (n d:Int):RatR:=⟨n / gcdI n d,d / gcdI n d⟩
def wholeM (n:Int):RatR:=⟨n,1⟩
def lessM (a b:RatR):Bool:=decide (a.num*b.den<b.num*a.den)
def plusM (a b:RatR):RatR:=lowM (a.num*b.den+b.num*a.den) (a.den*b.den)
def minusM (a b:RatR):RatR:=plusM a ⟨-b.num,b.den⟩
def leM (a b:RatR):Prop:=a.num*b.den<=b.num*a.den
theorem zcz {n d:Int} (h:0<d):0<gcdI n d:=by
 unfold gcdI;have:0<Int.gcd n d:=Int.gcd_pos_of_ne_zero_right n oQ;omega
theorem vb {n d:Int} (h:0<d):0<(lowM n d).den:=by
 have hg:=zcz (n:=n) h;have hd:gcdI n d ∣ d:=Int.gcd_dvd_right n d;obtain ⟨k,hk⟩:=hd;show 0<d / gcdI n d;have key:∀ g d k:Int,0<g->d=g*k->d / g=k:=fun g d k h1 h2=>by
  rw [h2];exact Int.mul_ediv_cancel_left _ oQ
 have e:d / gcdI n d=k:=key _ d k hg hk;rw [e];rcases Int.lt_or_le 0 k with h1 | h1
 ·exact h1
 ·have:=Int.mul_nonpos_of_nonneg_of_nonpos (Int.le_of_lt hg) h1;omega
theorem zf0 {n d:Int} (h:0<d):(lowM n d).num*d=n*(lowM n d).den:=by
 have hg:=zcz (n:=n) h;obtain ⟨k,hk⟩:=Int.gcd_dvd_right n d;obtain ⟨m,hm⟩:=Int.gcd_dvd_left n d;have hk:d=gcdI n d*k:=hk;have hm:n=gcdI n d*m:=hm;show n / gcdI n d*d=n*(d / gcdI n d);have key0:∀ g d k:Int,0<g->d=g*k->d / g=k:=fun g d k h1 h2=>by
  rw [h2];exact Int.mul_ediv_cancel_left _ oQ
 have e1:d / gcdI n d=k:=key0 _ d k hg hk;have e2:n / gcdI n d=m:=key0 _ n m hg hm;rw [e1,e2];have key:∀ g n d m k:Int,n=g*m->d=g*k->m*d=n*k:=fun g n d m k h1 h2=>by
  subst h1;subst h2;rw [Int.mul_assoc g m k,Int.mul_left_comm]
 exact key _ n d m k hm hk
theorem lt_le_trans' {a b c:RatR} (ha:0<a.den) (hb:0<b.den) (hc:0<c.den) (h1:lessM a b=true) (h2:leM b c):lessM a c=true:=by
 unfold lessM at *
 unfold leM at h2;simp only [decide_eq_true_eq] at h1 ⊢;have p1:=Int.mul_lt_mul_of_pos_right h1 hc;have p2:=Int.mul_le_mul_of_nonneg_right h2 (Int.le_of_lt ha);refine Int.lt_of_mul_lt_mul_right (a:=b.den) ?_ (Int.le_of_lt hb);have e1:a.num*c.den*b.den=a.num*b.den*c.den:=by rw [Int.mul_right_comm]
 have e2:b.num*a.den*c.den=b.num*c.den*a.den:=by rw [Int.mul_right_comm]
 have e3:c.num*a.den*b.den=c.num*b.den*a.den:=by rw [Int.mul_right_comm]
 omega
theorem le_refl' (a:RatR):leM a a:=Int.le_refl _
theorem zjK {a b:RatR} (h:lessM a b=false):leM b a:=by
 unfold lessM at h; unfold leM;simp only [decide_eq_false_iff_not] at h;omega
theorem zk2 {a b:RatR} (h:lessM a b=true):leM a b:=by
 unfold lessM at h; unfold leM;simp only [decide_eq_true_eq] at h;omega
theorem zma {n d m e:Int} (hd:0<d) (he:0<e) (h:n*e<=m*d):leM (lowM n d) (lowM m e):=by
 unfold leM;have v1:=zf0 (n:=n) hd;have v2:=zf0 (n:=m) he;have q1:=vb (n:=n) hd;have q2:=vb (n:=m) he;generalize (lowM n d).num=a at *
 generalize (lowM n d).den=b at *
 generalize (lowM m e).num=c at *
 generalize (lowM m e).den=f at *
 refine Int.le_of_mul_le_mul_right (a:=d*e) ?_ (Int.mul_pos hd he);have p:=Int.mul_le_mul_of_nonneg_right h (Int.le_of_lt (Int.mul_pos q1 q2));have e1:a*f*(d*e)=n*e*(b*f):=by
  calc a*f*(d*e)=a*d*(f*e):=by simp only [Int.mul_assoc,Int.mul_left_comm]
   _=n*b*(f*e):=by rw [v1]
   _=n*e*(b*f):=by simp only [Int.mul_assoc,Int.mul_left_comm,Int.mul_comm]
 have e2:c*b*(d*e)=m*d*(b*f):=by
  calc c*b*(d*e)=c*e*(b*d):=by simp only [Int.mul_assoc,Int.mul_left_comm,Int.mul_comm]
   _=m*f*(b*d):=by rw [v2]
   _=m*d*(b*f):=by simp only [Int.mul_assoc,Int.mul_left_comm,Int.mul_comm]
 rw [e1,e2];exact p
theorem zaA {a b:RatR} (ha:0<a.den) (hb:0<b.den):0<(minusM a b).den:=vb (Int.mul_pos ha hb)
theorem zbD {a b:RatR} (ha:0<a.den) (hb:0<b.den):0<(plusM a b).den:=vb (Int.mul_pos ha hb)
theorem zgS {a b c:RatR} (ha:0<a.den) (hb:0<b.den) (hc:0<c.den) (h:leM b c):leM (minusM a c) (minusM a b):=by
 unfold leM at h;refine zma (Int.mul_pos ha hc) (Int.mul_pos ha hb) ?_;show (a.num*c.den + -c.num*a.den)*(a.den*b.den)<=(a.num*b.den + -b.num*a.den)*(a.den*c.den);have p:=Int.mul_le_mul_of_nonneg_right h (Int.le_of_lt (Int.mul_pos ha ha));have e1:(a.num*c.den + -c.num*a.den)*(a.den*b.den)=a.num*c.den*(a.den*b.den) - c.num*b.den*(a.den*a.den):=by
  rw [Int.add_mul,Int.neg_mul,Int.neg_mul,<- Int.sub_eq_add_neg];congr 1;simp only [Int.mul_assoc,Int.mul_left_comm,Int.mul_comm]
 have e2:(a.num*b.den + -b.num*a.den)*(a.den*c.den)=a.num*c.den*(a.den*b.den) - b.num*c.den*(a.den*a.den):=by
  rw [Int.add_mul,Int.neg_mul,Int.neg_mul,<- Int.sub_eq_add_neg];congr 1
  ·simp only [Int.mul_assoc,Int.mul_left_comm,Int.mul_comm]
  ·simp only [Int.mul_assoc,Int.mul_left_comm,Int.mul_comm]
 rw [e1,e2];omega
def greatM2 {α:Type} (less:α->α->Bool) (one:α) (more:List α):α:=more.foldl (fun one x=>if less one x=true then x else one) one
def maxM (a b:RatR):RatR:=if lessM a b=true then b else a
theorem max_l (a b:RatR):leM a (maxM a b):=by
 unfold maxM;by_cases h:lessM a b=true
 ·rw [if_pos h]; exact zk2 h
 ·rw [if_neg h]; exact le_refl' a
theorem zcE {a b:RatR} (ha:0<a.den) (hb:0<b.den):0<(maxM a b).den:=by unfold maxM; split <;> assumption
theorem zjC {f a b:RatR}:lessM f (maxM a b)=true->lessM f a=true\/lessM f b=true:=by
 unfold maxM;by_cases h:lessM a b=true
 ·rw [if_pos h]; exact .inr
 ·rw [if_neg h]; exact .inl
theorem zk3 {f a b c:RatR} (hf:0<f.den) (ha:0<a.den) (hb:0<b.den) (hc:0<c.den) (hab:leM a b) (h:lessM f (maxM a c)=true):lessM f (maxM b c)=true:=by
 have hm:leM c (maxM b c):=by
  unfold maxM;by_cases h:lessM b c=true
  ·rw [if_pos h]; exact le_refl' c
  ·rw [if_neg h]; exact zjK (by simpa using h)
 rcases zjC h with h | h
 ·exact lt_le_trans' hf hb (zcE hb hc) (lt_le_trans' hf ha hb h hab) (max_l b c)
 ·exact lt_le_trans' hf hc (zcE hb hc) h hm
structure TPt where
 far:Int
 high:Int
 deriving Inhabited
structure TPr where
 place:Int
 tall:Int
 deriving Inhabited
structure TEy where
 back:Int
 lo:Int
 hi:Int
 deriving Inhabited
structure TrB where
 canvas:Int
 paint:Int
 fine:RatR
 earth:List TPt
 props:List TPr
 eyes:List TEy
def ptI (b:TrB) (i:Nat):TPt:=b.earth.getD i default
def prI (b:TrB) (i:Nat):TPr:=b.props.getD i default
def eyI (b:TrB) (i:Nat):TEy:=b.eyes.getD i default
structure TrOk (b:TrB):Prop where
 cv:2<=b.canvas/\b.canvas<=60
 pa:0<=b.paint/\b.paint<=60
 fd:1<=b.fine.den/\b.fine.den<=20
 fn:0<=b.fine.num/\b.fine.num<=20
 fl:lowM b.fine.num b.fine.den=b.fine
 ne:2<=b.earth.length/\b.earth.length<=5
 ea:∀ i,i<b.earth.length->0<=(ptI b i).far/\(ptI b i).far<b.canvas/\0<=(ptI b i).high/\(ptI b i).high<=60
 sc:∀ i,i+1<b.earth.length->(ptI b i).far<(ptI b (i+1)).far
 np:b.props.length<=3
 pr:∀ i,i<b.props.length->(ptI b 0).far<=(prI b i).place/\(prI b i).place<=(ptI b (b.earth.length - 1)).far/\1<=(prI b i).tall/\(prI b i).tall<=20
 ny:1<=b.eyes.length/\b.eyes.length<=3
 ey:∀ i,i<b.eyes.length->1<=(eyI b i).back/\(eyI b i).back<=20/\0<=(eyI b i).lo/\(eyI b i).lo<=(eyI b i).hi/\(eyI b i).hi<=60/\(eyI b i).hi - (eyI b i).lo<3
def segM (b:TrB) (p:Int) (i:Nat):Nat->Nat
 | 0=>i
 | k+1=>if (ptI b i).far<p then segM b p (i+1) k else i
def segN (b:TrB) (p:Int):Nat:=segM b p 1 (b.earth.length - 2)
def heightM (b:TrB) (p:Int):RatR:=plusM (wholeM (ptI b (segN b p - 1)).high) (lowM (((ptI b (segN b p)).high - (ptI b (segN b p - 1)).high)*(p - (ptI b (segN b p - 1)).far)) ((ptI b (segN b p)).far - (ptI b (segN b p - 1)).far))
structure SpR where
 far:Int
 high:RatR
 deriving DecidableEq
structure CvR where
 spot:SpR
 at0:Int
 high:RatR
def coverM (b:TrB) (back high:Int) (i:Int) (p:SpR):CvR:=⟨p,i,plusM (wholeM high) (lowM ((minusM p.high (wholeM high)).num*(lowM (b.canvas+back) (p.far+back)).num) ((minusM p.high (wholeM high)).den*(lowM (b.canvas+back) (p.far+back)).den))⟩
def lowerM (a c:CvR):Bool:=lessM a.high c.high
def earthC (b:TrB) (back high:Int) (i:Nat):CvR:=coverM b back high i ⟨(ptI b i).far,wholeM (ptI b i).high⟩
def edgesM (b:TrB) (back high:Int):List CvR:=(List.range b.earth.length).map (earthC b back high)
def edgeM (b:TrB) (back high:Int):CvR:=greatM2 lowerM (earthC b back high 0) ((edgesM b back high).drop 1)
def topM (b:TrB) (p:TPr):SpR:=⟨p.place,plusM (heightM b p.place) (wholeM p.tall)⟩
def topsI (b:TrB) (back high:Int):Nat->List CvR
 | 0=>[]
 | i+1=>if (topsI b back high i).any (fun c=>decide (c.spot=topM b (prI b i)))=true then topsI b back high i else topsI b back high i++[coverM b back high i (topM b (prI b i))]
def topsM (b:TrB) (back high:Int):List CvR:=topsI b back high b.props.length
def lowI (b:TrB) (back high:Int):RatR:=if lessM (edgeM b back high).high (wholeM b.paint)=true then (edgeM b back high).high else wholeM b.paint
def highI (b:TrB) (back high:Int):RatR:=if lessM (edgeM b back high).high (wholeM b.paint)=true then wholeM b.paint else (edgeM b back high).high
def lowF (lo:RatR) (l:List CvR):RatR:=l.foldl (fun lo c=>maxM lo c.high) lo
def shownM (b:TrB) (back high:Int):RatR:=maxM (minusM (highI b back high) (lowF (lowI b back high) (topsM b back high))) (wholeM 0)
def seesM (b:TrB) (back high:Int):Bool:=lessM b.fine (shownM b back high)
theorem kQ (n:Int):0<(wholeM n).den:=Int.zero_lt_one
theorem zc0 {b:TrB} (hb:TrOk b) {back high i:Int} {p:SpR} (h1:1<=back) (h2:0<=p.far) (h3:0<p.high.den):0<(coverM b back high i p).high.den:=by
 have hw:0<(lowM (b.canvas+back) (p.far+back)).den:=vb oQ;exact zbD (kQ _) (vb (Int.mul_pos (zaA h3 (kQ _)) hw))
theorem zaw {α:Type} (f:α->α->Bool):∀ (l:List α) (a:α),greatM2 f a l=a\/greatM2 f a l∈l
 | [],a=>.inl rfl
 | x::r,a=>by
  unfold greatM2;rw [List.foldl_cons];rcases zaw f r (if f a x=true then x else a) with h | h
  ·have h:r.foldl (fun one x=>if f one x=true then x else one) (if f a x=true then x else a)=_:=h;rw [h];split
   ·exact .inr (.head _)
   ·exact .inl rfl
  ·exact .inr (.tail _ h)
theorem zc2 {b:TrB} (hb:TrOk b) {back high:Int} {i:Nat} (hi:i<b.earth.length) (h1:1<=back):0<(earthC b back high i).high.den:=zc0 hb h1 (hb.ea i hi).1 (kQ _)
theorem zji {b:TrB} (hb:TrOk b) {back high:Int} (h1:1<=back):0<(edgeM b back high).high.den:=by
 have hn:=hb.ne;rcases zaw lowerM ((edgesM b back high).drop 1) (earthC b back high 0) with h | h
 ·show 0<(greatM2 lowerM _ _).high.den;rw [h];exact zc2 hb oQ h1
 ·have h:=List.mem_of_mem_drop h;obtain ⟨i,hi,e⟩:=List.mem_map.1 h;show 0<(greatM2 lowerM _ _).high.den;rw [<- e];exact zc2 hb (List.mem_range.1 hi) h1
theorem zjE {b:TrB} (hb:TrOk b) {back high:Int} (h1:1<=back):0<(lowI b back high).den/\0<(highI b back high).den:=by
 have:=zji hb (high:=high) h1;unfold lowI highI;split
 ·exact ⟨this,kQ _⟩
 ·exact ⟨kQ _,this⟩
theorem zit {b:TrB} {p:Int}:∀ (k i:Nat),i<=segM b p i k/\segM b p i k<=i+k
 | 0,i=>⟨mL _,mL _⟩
 | k+1,i=>by
  unfold segM;split
  ·have:=zit (b:=b) (p:=p) k (i+1); omega
  ·omega
theorem zis {b:TrB} (hb:TrOk b) (p:Int):1<=segN b p/\segN b p<b.earth.length:=by
 have h1:=zit (b:=b) (p:=p) (b.earth.length - 2) 1;have h2:=hb.ne;unfold segN;omega
theorem zgP {b:TrB} (hb:TrOk b) (p:Int):0<(heightM b p).den:=by
 have h1:=zis hb p;have h2:=hb.sc (segN b p - 1) oQ;rw [show segN b p - 1+1=segN b p by omega] at h2;exact zbD (kQ _) (vb oQ)
theorem zlI {b:TrB} (hb:TrOk b) (p:TPr):0<(topM b p).high.den:=zbD (zgP hb _) (kQ _)
theorem zad {b:TrB} (hb:TrOk b) {back high:Int} (h1:1<=back):∀ i,i<=b.props.length->∀ c∈topsI b back high i,0<c.high.den
 | 0,_,c,h=>by cases h
 | i+1,hi,c,h=>by
  unfold topsI at h;split at h
  ·exact zad hb h1 i oQ c h
  ·rcases lT.1 h with h | h
   ·exact zad hb h1 i oQ c h
   ·rw [lS.1 h];have h2:=hb.pr i oQ;have h3:=(hb.ea 0 (by have:=hb.ne; omega)).1;exact zc0 hb h1 (show 0<=(prI b i).place by omega) (zlI hb _)
theorem zbC:∀ (l:List CvR) (lo:RatR),0<lo.den->(∀ c∈l,0<c.high.den)->0<(lowF lo l).den
 | [],lo,h,_=>h
 | c::r,lo,h,hc=>zbC r (maxM lo c.high) (zcE h (hc c (.head _))) fun x hx=>hc x (.tail _ hx)
def propB (b:TrB) (p:TPr):TrB:={ b with props:=b.props++[p] }
theorem zga {b:TrB} {p:TPr} {i:Nat} (hi:i<b.props.length):prI (propB b p) i=prI b i:=by
 unfold prI propB;rw [lE,lE,List.getElem?_append_left hi]
theorem zeV (b:TrB) (p:TPr) (q:Int):∀ (k i:Nat),segM (propB b p) q i k=segM b q i k
 | 0,i=>rfl
 | k+1,i=>by
  show (if (ptI b i).far<q then segM (propB b p) q (i+1) k else i)=(if (ptI b i).far<q then segM b q (i+1) k else i);rw [zeV b p q k (i+1)]
theorem zfq (b:TrB) (p:TPr) (q:Int):heightM (propB b p) q=heightM b q:=by
 have h:segN (propB b p) q=segN b q:=zeV b p q _ _;unfold heightM;rw [h];rfl
theorem zkk (b:TrB) (p x:TPr):topM (propB b p) x=topM b x:=by
 unfold topM;rw [zfq]
theorem zdx {b:TrB} {p:TPr} {back high:Int}:∀ i,i<=b.props.length->topsI (propB b p) back high i=topsI b back high i
 | 0,_=>rfl
 | i+1,hi=>by
  unfold topsI;rw [zdx i oQ,zga oQ,zkk];rfl
theorem ziM {b:TrB} {p:TPr} {back high:Int}:topsM (propB b p) back high=topsM b back high\/∃ c,topsM (propB b p) back high=topsM b back high++[c]:=by
 unfold topsM;rw [show (propB b p).props.length=b.props.length+1 by show (b.props++[p]).length=_; simp];rw [topsI,zdx _ (mL _)];split
 ·exact .inl rfl
 ·exact .inr ⟨_,rfl⟩
theorem zlu {b:TrB} (hb:TrOk b) {p:TPr} (h3:b.props.length<3) (hp:(ptI b 0).far<=p.place/\p.place<=(ptI b (b.earth.length - 1)).far/\1<=p.tall/\p.tall<=20):TrOk (propB b p):=by
 have hl:(propB b p).props.length=b.props.length+1:=by show (b.props++[p]).length=_; simp
 refine ⟨hb.cv,hb.pa,hb.fd,hb.fn,hb.fl,hb.ne,hb.ea,hb.sc,oQ,fun i hi=>?_,hb.ny,hb.ey⟩;rcases Nat.lt_or_ge i b.props.length with h | h
 ·rw [zga h]; exact hb.pr i h
 ·have:i=b.props.length:=by omega
  subst this;have e:prI (propB b p) b.props.length=p:=by unfold prI propB; rw [lE,List.getElem?_append_right (mL _)]; simp
  rw [e];exact hp
theorem zir {b:TrB} (hb:TrOk b) {p:TPr} (hb':TrOk (propB b p)) {back high:Int} (h1:1<=back) (h:seesM (propB b p) back high=true):seesM b back high=true:=by
 have hf:0<b.fine.den:=by have:=hb.fd; omega
 have h0:=zjE hb (high:=high) h1;have hd:0<(lowF (lowI b back high) (topsM b back high)).den:=zbC _ _ h0.1 (zad hb h1 _ (mL _));have hd':0<(lowF (lowI b back high) (topsM (propB b p) back high)).den:=zbC _ _ h0.1 (zad hb' h1 _ (mL _));have hle:leM (lowF (lowI b back high) (topsM b back high)) (lowF (lowI b back high) (topsM (propB b p) back high)):=by
  rcases ziM (b:=b) (p:=p) (back:=back) (high:=high) with e | ⟨c,e⟩
  ·rw [e]; exact le_refl' _
  ·rw [e];unfold lowF;rw [List.foldl_append];exact max_l _ _
 have hm:=zgS h0.2 hd hd' hle;refine zk3 hf (zaA h0.2 hd') (zaA h0.2 hd) (kQ 0) hm ?_;exact h
def fromT:List TEy->List Int->List (List Int)
 | [],p=>[p]
 | e::r,p=>(numsF e.lo (e.hi+1 - e.lo).toNat).flatMap fun n=>fromT r (p++[n])
def ym (b:TrB):List (List Int):=fromT b.eyes []
def seesAt (b:TrB) (n:Nat) (h:List Int):Bool:=seesM b (eyI b n).back (h.getD n 0)
def wordN (n m:Int):Int:=if n=m then 1 else if n=0 then 2 else 0
def wordT (b:TrB) (n:Nat):Int:=wordN ((ym b).filter (seesAt b n)).length (ym b).length
theorem zdj (n:Int):∀ k,(numsF n k).length=k
 | 0=>rfl
 | k+1=>by unfold numsF; rw [lZ,zdj (n+1) k]
def EysOk (r:List TEy):Prop:=∀ e∈r,e.lo<=e.hi/\e.hi - e.lo<3/\0<=e.lo/\e.hi<=60
theorem zd2:∀ (r:List TEy) (p:List Int),EysOk r->fromT r p≠[]
 | [],p,_=>by unfold fromT; simp
 | e::r,p,h=>by
  unfold fromT;have he:=h e (.head _);have hm:e.lo∈numsF e.lo (e.hi+1 - e.lo).toNat:=(vp _ _ _).2 ⟨Int.le_refl _,oQ⟩;obtain ⟨x,hx⟩:=List.exists_mem_of_ne_nil _ (zd2 r (p++[e.lo]) fun y hy=>h y (.tail _ hy));exact List.ne_nil_of_mem (List.mem_flatMap.2 ⟨_,hm,hx⟩)
theorem flatMap_le' {α β:Type} {f:α->List β} {n:Nat}:∀ {l:List α},(∀ x∈l,(f x).length<=n)->(l.flatMap f).length<=l.length*n
 | [],_=>by simp
 | x::l,h=>by
  rw [List.flatMap_cons,lF,lZ,Nat.succ_mul];have h1:=h x (.head _);have h2:=flatMap_le' (l:=l) fun y hy=>h y (.tail _ hy);omega
theorem zc8:∀ (r:List TEy) (p:List Int),EysOk r->(fromT r p).length<=3 ^ r.length
 | [],p,_=>by unfold fromT; simp
 | e::r,p,h=>by
  unfold fromT;have he:=h e (.head _);have h1:=flatMap_le' (f:=fun n=>fromT r (p++[n])) (l:=numsF e.lo (e.hi+1 - e.lo).toNat) (n:=3 ^ r.length) fun n _=>zc8 r _ fun y hy=>h y (.tail _ hy);rw [zdj] at h1;rw [lZ,Nat.pow_succ,Nat.mul_comm];exact mT h1 (Nat.mul_le_mul_right _ oQ)
theorem zd3:∀ (r:List TEy) (p:List Int),EysOk r->(∀ x∈p,0<=x/\x<=60)->∀ s∈fromT r p,s.length=p.length+r.length/\∀ x∈s,0<=x/\x<=60
 | [],p,_,h2,s,hs=>by
  unfold fromT at hs;rw [lS.1 hs];exact ⟨rfl,h2⟩
 | e::r,p,h,h2,s,hs=>by
  unfold fromT at hs;obtain ⟨n,hn,hs⟩:=List.mem_flatMap.1 hs;have h3:=(vp _ _ _).1 hn;have he:=h e (.head _);obtain ⟨q1,q2⟩:=zd3 r (p++[n]) (fun y hy=>h y (.tail _ hy)) (fun x hx=>by
   rcases lT.1 hx with hx | hx
   ·exact h2 x hx
   ·rw [lS.1 hx]; omega) s hs
  refine ⟨?_,q2⟩;rw [q1,lF,List.length_singleton,lZ];omega
theorem zdY {b:TrB} (hb:TrOk b):EysOk b.eyes:=fun e he=>by
 obtain ⟨i,hi,rfl⟩:=List.mem_iff_getElem.1 he;have h:=hb.ey i hi;have e1:eyI b i=b.eyes[i]:=by unfold eyI; rw [lE,lA hi]; rfl
 rw [e1] at h;omega
theorem states_ne' {b:TrB} (hb:TrOk b):ym b≠[]:=zd2 _ _ (zdY hb)
theorem zbo {b:TrB} (hb:TrOk b):(ym b).length<=27:=by
 have h1:=zc8 b.eyes [] (zdY hb);have h3:3 ^ b.eyes.length<=3 ^ 3:=Nat.pow_le_pow_right dQ hb.ny.2;exact mT h1 h3
theorem zg9 {b:TrB} (hb:TrOk b) {s:List Int} (h:s∈ym b):s.length=b.eyes.length/\∀ i,0<=s.getD i 0/\s.getD i 0<=60:=by
 obtain ⟨h1,h2⟩:=zd3 b.eyes [] (zdY hb) (fun x hx=>by cases hx) s h;refine ⟨by simpa using h1,fun i=>?_⟩;rw [lE];cases hx:s[i]? with
 | none=>exact ⟨Int.le_refl _,by decide⟩
 | some x=>exact h2 x (lN hx)
theorem zfD (b:TrB) (p:TPr):ym (propB b p)=ym b:=rfl
theorem ziV {b:TrB} (hb:TrOk b) {p:TPr} (hb':TrOk (propB b p)) {n:Nat} (hn:n<b.eyes.length) (h:wordT b n=2):wordT (propB b p) n=2:=by
 have h1:1<=(eyI b n).back:=(hb.ey n hn).1;have hne:=states_ne' hb;have hl:(ym b).length≠0:=fun h=>hne (List.eq_nil_of_length_eq_zero h);have hc:((ym b).filter (seesAt b n)).length=0:=by
  unfold wordT wordN at h;split at h
  ·cases h
  ·split at h
   ·omega
   ·cases h
 have hc':((ym b).filter (seesAt (propB b p) n)).length=0:=by
  rw [List.length_eq_zero_iff,List.filter_eq_nil_iff] at hc ⊢;intro s hs hh;exact hc s hs (zir hb hb' h1 hh)
 unfold wordT wordN;rw [zfD,hc',if_neg oQ];rfl
end Go.Vel
namespace Go.Vel
open Go Go.Conc
section
variable {P:Program} {gm:Nat->Option Nat} {V:KV} {env:List AV} {o:Oper}
theorem zcf {t yt:TypeId} {x y:Operand} {a b:Int} (ho:o.op=.binOp .quo t x y yt) (hx:zo gm env x=some (.v (.int .i64 a))) (hy:zo gm env y=some (.v (.int .i64 b))) (hd:b ∣ a) (h1:0<b) (h2 : -1000000000000000000<=a/\a<=1000000000000000000):Qk P gm env V o (.v (.int .i64 (a / b))):=by
 refine wz ho hx hy ?_;show zJ P (if b=0 then _ else _)=_;rw [if_neg oQ];show some (Value.int .i64 (IntKind.i64.wrap (a.tdiv b)))=_;obtain ⟨m,rfl⟩:=hd;have e:b*m / b=m:=Int.mul_ediv_cancel_left _ oQ;have e2:(b*m).tdiv b=m:=Int.mul_tdiv_cancel_left _ oQ;have hm : -1000000000000000000<=m/\m<=1000000000000000000:=by
  rcases Int.lt_or_le m 0 with h | h
  ·have:=Int.mul_le_mul_of_nonpos_right (a:=b) (b:=1) (c:=m) oQ oQ;omega
  ·have:=Int.mul_le_mul_of_nonneg_right (a:=1) (b:=b) (c:=m) oQ h;omega
 rw [e,e2,ky oQ]
theorem zeO {t:TypeId} {x:Operand} {a:Int} (ho:o.op=.unOp .neg t x) (hx:zo gm env x=some (.v (.int .i64 a))) (h : -1000000000000000000<=a/\a<=1000000000000000000):Qk P gm env V o (.v (.int .i64 (-a))):=fun A _=>by
 refine ok_un ho (by rw [zy hx]; rfl) ?_;show some (Value.int .i64 (IntKind.i64.wrap (0 - a)))=_;rw [ky oQ,Int.zero_sub]
end
structure RBd (A D:Int) (r:RatR):Prop where
 n : -A<=r.num/\r.num<=A
 d:0<r.den/\r.den<=D
theorem RBd.le {A D B E:Int} {r:RatR} (h:RBd A D r) (h1:A<=B) (h2:D<=E):RBd B E r:=⟨by have:=h.n; omega,by have:=h.d; omega⟩
theorem yL {n A:Int} (h : -A<=n/\n<=A):RBd A 1 (wholeM n):=⟨h,Int.zero_lt_one,Int.le_refl _⟩
theorem kN {x y A E:Int} (hx : -A<=x/\x<=A) (hy:0<y/\y<=E) : -(A*E)<=x*y/\x*y<=A*E:=by
 have h1:=Int.mul_le_mul_of_nonneg_right hx.2 (Int.le_of_lt hy.1);have h2:=Int.mul_le_mul_of_nonneg_right hx.1 (Int.le_of_lt hy.1);have h3:=Int.mul_le_mul_of_nonneg_left hy.2 (show 0<=A by omega);rw [Int.neg_mul] at h2;omega
theorem zb7 {x y D E:Int} (hx:0<x/\x<=D) (hy:0<y/\y<=E):0<x*y/\x*y<=D*E:=⟨Int.mul_pos hx.1 hy.1,Int.mul_le_mul hx.2 hy.2 oQ oQ⟩
theorem vV {n d A D:Int} (hn : -A<=n/\n<=A) (hd:0<d/\d<=D):RBd A D (lowM n d):=by
 have hg:=zcz (n:=n) hd.1;obtain ⟨k,hk⟩:=Int.gcd_dvd_right n d;obtain ⟨m,hm⟩:=Int.gcd_dvd_left n d;have hk:d=gcdI n d*k:=hk;have hm:n=gcdI n d*m:=hm;have key:∀ g n d m k:Int,0<g->n=g*m->d=g*k->(-A<=n/\n<=A)->(0<d/\d<=D)->RBd A D ⟨n / g,d / g⟩:=fun g n d m k hg h1 h2 hn hd=>by
  subst h1;subst h2;have e1:g*m / g=m:=Int.mul_ediv_cancel_left _ oQ;have e2:g*k / g=k:=Int.mul_ediv_cancel_left _ oQ;have hkp:0<k:=by
   rcases Int.lt_or_le 0 k with h | h
   ·exact h
   ·have:=Int.mul_nonpos_of_nonneg_of_nonpos (Int.le_of_lt hg) h; omega
  have hk2:=Int.mul_le_mul_of_nonneg_right (a:=1) (b:=g) (c:=k) oQ oQ;have hm2 : -A<=m/\m<=A:=by
   rcases Int.lt_or_le m 0 with h | h
   ·have:=Int.mul_le_mul_of_nonpos_right (a:=g) (b:=1) (c:=m) oQ oQ;omega
   ·have:=Int.mul_le_mul_of_nonneg_right (a:=1) (b:=g) (c:=m) oQ h;omega
  refine ⟨?_,?_⟩
  ·show -A<=g*m / g/\g*m / g<=A;rw [e1]; exact hm2
  ·show 0<g*k / g/\g*k / g<=D;rw [e2]; omega
 exact key _ n d m k hg hm hk hn hd
theorem za5 {A D B E:Int} {a b:RatR} (ha:RBd A D a) (hb:RBd B E b):RBd (A*E+B*D) (D*E) (plusM a b):=by
 have h1:=kN ha.n hb.d;have h2:=kN hb.n ha.d;exact vV oQ (zb7 ha.d hb.d)
theorem zhT {B E:Int} {b:RatR} (hb:RBd B E b):RBd B E ⟨-b.num,b.den⟩:=⟨by have:=hb.n; show -B <= -b.num /\ -b.num<=B; omega,hb.d⟩
theorem zeq {A D B E:Int} {a b:RatR} (ha:RBd A D a) (hb:RBd B E b):RBd (A*E+B*D) (D*E) (minusM a b):=za5 ha (zhT hb)
theorem zhJ {b:TrB} (hb:TrOk b) {p:Int} (hp:0<=p/\p<=60) (h1:(ptI b (segN b p - 1)).far<=p) (h2:p<=(ptI b (segN b p)).far):RBd 8000 60 (heightM b p):=by
 have hs:=zis hb p;have h3:=hb.sc (segN b p - 1) oQ;rw [show segN b p - 1+1=segN b p by omega] at h3;have q1:=hb.ea (segN b p - 1) oQ;have q2:=hb.ea (segN b p) oQ;have hc:=hb.cv;have m:=kN (x:=(ptI b (segN b p)).high - (ptI b (segN b p - 1)).high) (y:=p - (ptI b (segN b p - 1)).far+1) (A:=60) (E:=60) oQ oQ;have e:((ptI b (segN b p)).high - (ptI b (segN b p - 1)).high)*(p - (ptI b (segN b p - 1)).far+1)=((ptI b (segN b p)).high - (ptI b (segN b p - 1)).high)*(p - (ptI b (segN b p - 1)).far)+((ptI b (segN b p)).high - (ptI b (segN b p - 1)).high):=by rw [Int.mul_add,Int.mul_one]
 have l:=vV (n:=((ptI b (segN b p)).high - (ptI b (segN b p - 1)).high)*(p - (ptI b (segN b p - 1)).far)) (d:=(ptI b (segN b p)).far - (ptI b (segN b p - 1)).far) (A:=3660) (D:=60) oQ oQ;have w:=yL (n:=(ptI b (segN b p - 1)).high) (A:=59+1) oQ;have z:=za5 w l;exact z.le dQ dQ
theorem zm3 {b:TrB} {x:TPr} (h:RBd 8000 60 (heightM b x.place)) (ht:0<=x.tall/\x.tall<=20):RBd 10000 60 (topM b x).high:=(za5 h (yL (A:=20) oQ)).le dQ dQ
theorem ziS {b:TrB} (hb:TrOk b) {back far:Int} (h1:1<=back/\back<=20) (h2:0<=far/\far<=60):RBd 80 80 (lowM (b.canvas+back) (far+back)):=vV (by have:=hb.cv; omega) oQ
theorem up_bd {r:RatR} {high:Int} (h:RBd 10000 60 r) (h1:0<=high/\high<=60):RBd 13600 60 (minusM r (wholeM high)):=(zeq h (yL (A:=60) oQ)).le dQ dQ
theorem zhq {b:TrB} (hb:TrOk b) {back high i:Int} {p:SpR} (h1:1<=back/\back<=20) (hh:0<=high/\high<=60) (h2:0<=p.far/\p.far<=60) (h3:RBd 10000 60 p.high):RBd 2000000 4800 (coverM b back high i p).high:=by
 have hw:=ziS hb h1 h2;have hu:=up_bd h3 hh;have n:=kN (A:=13600) (E:=80) hu.n (y:=80) oQ;have l:=vV (A:=13600*80) (D:=60*80) (n:=(minusM p.high (wholeM high)).num*(lowM (b.canvas+back) (p.far+back)).num) (d:=(minusM p.high (wholeM high)).den*(lowM (b.canvas+back) (p.far+back)).den) (by
  have hx:=hu.n;have hy:=hw.n;generalize (minusM p.high (wholeM high)).num=x at hx;generalize (lowM (b.canvas+back) (p.far+back)).num=y at hy;rcases Int.lt_or_le 0 y with hp | hp
  ·exact kN hx ⟨hp,hy.2⟩
  ·rcases Int.lt_or_le y 0 with hq | hq
   ·have m:=kN hx (y := -y) (E:=80) ⟨by omega,oQ⟩;rw [Int.mul_neg] at m;omega
   ·have:y=0:=by omega
    subst this;rw [Int.mul_zero]; omega) (zb7 hu.d hw.d)
 exact (za5 (yL (n:=high) (A:=60) oQ) l).le dQ dQ
end Go.Vel
namespace Go.Vel
open Go Go.Conc Go.Proofs
def ratC (r:RatR):List AV:=[intA r.num,intA r.den]
def ptC (x:TPt):List AV:=[intA x.far,intA x.high]
def prC (x:TPr):List AV:=[intA x.place,intA x.tall]
def eyC (x:TEy):List AV:=[intA x.back,intA x.lo,intA x.hi]
abbrev ptO (b:TrB):AObj:=.cells (b.earth.flatMap ptC) 39 false
abbrev prO (b:TrB):AObj:=.cells (b.props.flatMap prC) 93 false
abbrev eyO (b:TrB):AObj:=.cells (b.eyes.flatMap eyC) 175 false
def trC (b:TrB) (e p y:Nat):List AV:=[intA b.canvas,intA b.paint,intA b.fine.num,intA b.fine.den,.sl e 0 b.earth.length,.sl p 0 b.props.length,.sl y 0 b.eyes.length,.v (.slice none 0 0)]
theorem zmN {b:TrB} {i:Nat} (h:i<b.earth.length):b.earth[i]? =some (ptI b i):=by
 unfold ptI; rw [lE,lA h]; rfl
theorem zmL {b:TrB} {i:Nat} (h:i<b.props.length):b.props[i]? =some (prI b i):=by
 unfold prI; rw [lE,lA h]; rfl
theorem zhy {b:TrB} {i:Nat} (h:i<b.eyes.length):b.eyes[i]? =some (eyI b i):=by
 unfold eyI; rw [lE,lA h]; rfl
theorem pt_at (b:TrB) {i:Nat} {n:Int} {e:TypeId} {rw':Bool} (h:i<b.earth.length) (hn:n=(i:Int)):takeO (.cells (b.earth.flatMap ptC) e rw') (0+n.toNat*2) 2=some (ptC (ptI b i)):=kA (c:=2) (fun _=>rfl) (zmN h) hn dQ
theorem pr_at (b:TrB) {i:Nat} {n:Int} {e:TypeId} {rw':Bool} (h:i<b.props.length) (hn:n=(i:Int)):takeO (.cells (b.props.flatMap prC) e rw') (0+n.toNat*2) 2=some (prC (prI b i)):=kA (c:=2) (fun _=>rfl) (zmL h) hn dQ
theorem ey_at (b:TrB) {i:Nat} {n:Int} {e:TypeId} {rw':Bool} (h:i<b.eyes.length) (hn:n=(i:Int)):takeO (.cells (b.eyes.flatMap eyC) e rw') (0+n.toNat*3) 3=some (eyC (eyI b i)):=kA (c:=3) (fun _=>rfl) (zhy h) hn dQ
structure EuclI (n d a c:Int):Prop where
 a0:0<=a
 c0:0<=c
 pos:0<a\/0<c
 g:gcdI a c=gcdI n d
theorem zhv {n d:Int} (h:0<d):EuclI n d (max n (-n)) d:=⟨by omega,oQ,.inr h,by
 unfold gcdI;rcases Int.le_total 0 n with hn | hn
 ·rw [show max n (-n)=n by omega]
 ·rw [show max n (-n) = -n by omega,Int.neg_gcd]⟩
theorem zhw {n d a c:Int} (h:EuclI n d a c) (hc:c≠0):EuclI n d c (a % c):=by
 have h1:=Int.emod_nonneg a hc;refine ⟨h.c0,h1,.inl (by have:=h.c0; omega),?_⟩;rw [<- h.g];obtain ⟨m,rfl⟩:=Int.eq_ofNat_of_zero_le h.a0;obtain ⟨q,rfl⟩:=Int.eq_ofNat_of_zero_le h.c0;unfold gcdI;rw [<- Int.natCast_emod,Int.gcd_natCast_natCast,Int.gcd_natCast_natCast,Nat.gcd_comm q,<- Nat.gcd_rec,Nat.gcd_comm]
theorem zfN {a c:Int} (h:0<=c) (hc:c≠0):(a % c).toNat<c.toNat:=by
 have h1:=Int.emod_nonneg a hc;have h2:=Int.emod_lt_of_pos a (show 0<c by omega);omega
theorem zdX {n d a:Int} (h:EuclI n d a 0):a=gcdI n d/\0<a:=by
 have h0:=h.a0;have hp:0<a:=by rcases h.pos with h | h <;> omega
 refine ⟨?_,hp⟩;rw [<- h.g];unfold gcdI;rw [Int.gcd_zero];omega
def trChecksG:AObj:=.cells [.fn 228 [] [],.fn 229 [] [],.fn 230 [] [],.fn 231 [] [],.fn 232 [] []] 259 false
instance:ArEl tp 259 5 101 false 1:={}
instance:BlOf tp 28 [(0,1),(1,1)]:={}
instance:BlOf tp 95 [(0,8)]:={}
instance:EqG tp 28:={}
instance:FlatF tp 28 [(3,0),(3,1)]:={}
instance:zf tp 175 0 0 false 1:={}
instance:zf tp 175 1 1 true 2:={}
instance:zf tp 28 0 0 false 1:={}
instance:zf tp 28 1 1 false 1:={}
instance:zf tp 34 0 0 false 1:={}
instance:zf tp 34 1 1 false 1:={}
instance:zf tp 34 2 2 true 2:={}
instance:zf tp 34 3 4 false 1:={}
instance:zf tp 34 4 5 false 1:={}
instance:zf tp 34 5 6 false 1:={}
instance:zf tp 34 6 7 false 1:={}
instance:zf tp 39 0 0 false 1:={}
instance:zf tp 39 1 1 false 1:={}
instance:zf tp 93 0 0 false 1:={}
instance:zf tp 93 1 1 false 1:={}
instance:zf tp 95 0 0 true 8:={}
instance:zz tp 166 101 1:={}
instance:zz tp 29 39 2:={}
instance:zz tp 30 93 2:={}
instance:zz tp 31 175 3:={}
instance:zd tp 101 false 1:={}
instance:zd tp 175 true 3:={}
instance:zd tp 259 true 5:={}
instance:zd tp 28 true 2:={}
instance:zd tp 29 false 1:={}
instance:zd tp 30 false 1:={}
instance:zd tp 31 false 1:={}
instance:zd tp 32 false 1:={}
instance:zd tp 34 true 8:={}
instance:zd tp 39 true 2:={}
instance:zd tp 93 true 2:={}
instance:zd tp 95 true 8:={}
instance:TyZ tp 28 [.int .i64 0,.int .i64 0]:={}
instance:TyZ tp 95 [.int .i64 0,.int .i64 0,.int .i64 0,.int .i64 0,.slice none 0 0,.slice none 0 0,.slice none 0 0,.slice none 0 0]:={}
instance:TyZA tp 175 [.v (.int .i64 0),.v (.int .i64 0),.v (.int .i64 0)]:={}
instance:TyZA tp 28 [.v (.int .i64 0),.v (.int .i64 0)]:={}
instance:TyZA tp 39 [.v (.int .i64 0),.v (.int .i64 0)]:={}
instance:TyZA tp 93 [.v (.int .i64 0),.v (.int .i64 0)]:={}
instance:TyZA tp 95 [.v (.int .i64 0),.v (.int .i64 0),.v (.int .i64 0),.v (.int .i64 0),.v (.slice none 0 0),.v (.slice none 0 0),.v (.slice none 0 0),.v (.slice none 0 0)]:={}
instance:Und tp 166 (.slice 101):={}
instance:Und tp 29 (.slice 39):={}
instance:Und tp 30 (.slice 93):={}
instance:Und tp 31 (.slice 175):={}
instance:Und tp 32 (.slice 180):={}
theorem kg {main T} (hT:zm tp main T) {gm} {n lo hi:Int} :
  zq tp T gm 117 [intA n,intA lo,intA hi] [] (fun r K'=>r=zF (decide (lo<=n)&&decide (n<=hi))/\K'=[]):=by
 refine zl 15 hT Tryz.func117 fun Y hret=>?_;refine au 1711423542 ?_;refine bF 10 (fun g1_4=>?_) (fun g1_4=>?_)
 ·refine au 35260711 ?_;refine TK.rta hret ?_;exact ⟨by simp [zF, *],rfl⟩
 refine au 35250888 ?_;refine TK.rta hret ?_;exact ⟨by simp [zF, *],rfl⟩
theorem zkg {main T} (hT:zm tp main T) {gm} {x z lo hi:Int} :
  zq tp T gm 235 [.agg [intA x,intA z],intA lo,intA hi] [] (fun r K'=>r=zF (decide (lo<=x)&&decide (x<=z)&&decide (z<=hi))/\K'=[]):=by
 refine zl 24 hT Tryz.func235 fun Y hret=>?_;refine au 21042 ?_;intro j1 hj1;refine au 1769067014235 ?_;refine bF 11 (fun g1_5=>?_) (fun g1_5=>?_)
 ·refine au 12607690670690670 ?_;refine bF 18 (fun g1_12=>?_) (fun g1_12=>?_)
  ·refine au 3526071690670 ?_;refine bB hret [] ?_;exact ⟨by simp [zF, *],rfl⟩
  refine au 352508888 ?_;refine bB hret [] ?_;exact ⟨by simp [zF, *],rfl⟩
 refine au 352508888125088888 ?_;refine bB hret [] ?_;exact ⟨by simp [zF, *],rfl⟩
theorem wd {main T} (hT:zm tp main T) {gm} {n d:Int} (hn : -1000000000000000000<=n/\n<=1000000000000000000) (hd:0<d/\d<=1000000000000000000) :
  zq tp T gm 193 [intA n,intA d] [] (fun r K'=>r=.agg (ratC (lowM n d))/\K'=[]):=by
 refine zl 25 hT Tryz.func193 fun Y hret=>?_;refine au 22042 ?_;intro jr hjr;refine au 11423 ?_;refine bH Z (zeO Z Z hn) ?_;refine bH Z (zaH Z Z Z) ?_;refine au 13023551 ?_;refine bA [0,1,4,5,6] ?_;refine bE (fun m env K=>∃ (a c:Int),m=c.toNat/\EuclI n d a c/\env=intA n::intA d::naL 2 (.ptr jr 0::intA a::intA c::naL 18 [])/\K=[(jr,.cells [intA 0,intA 0] 28 true)]) d.toNat ⟨max n (-n),d,rfl,zhv hd.1,rfl,rfl⟩ fun m env K hI hnext=>?_;obtain ⟨a,c,rfl,he,rfl,rfl⟩:=hI;refine bG nQ ?_;refine au 9371422 ?_;constructor<;>intro hc0
 ·have hcn:c≠0:=by simpa using hc0
  have h0:=he.a0;have h1:=he.c0;refine au 130120 ?_;refine bL [0,1,2,3,4,5] ?_;refine ad [[1,6],[1,5],[1,6]] ?_;refine bU [15,16] Z (q_rem Z Z Z oQ oQ) ?_;refine TD.as (pend':=[⟨3,[15,16],[]⟩,⟨2,[6],[]⟩]) [14] Z Z (zw Z Z) ?_;refine ad [[13,17],[14]] ?_;refine au 140 ?_;refine bA [0,1,4,5,6] ?_;exact hnext _ _ _ (zfN he.c0 hcn) ⟨c,a % c,rfl,zhw he hcn,rfl,rfl⟩
 obtain rfl:c=0:=by simpa using hc0
 obtain ⟨rfl,hg⟩:=zdX he;refine au 2160 ?_;refine bL [0,1,2,3,4,5,6,7] ?_;refine ad [[1,0],[1,5]] ?_;refine bU [18,19] Z (zcf Z Z Z (Int.gcd_dvd_left n d) hg oQ) ?_;refine ad [[1,1],[1,5]] ?_;refine bU [21,22] Z (zcf Z Z Z (Int.gcd_dvd_right n d) hg oQ) ?_;refine bU [20,23] Z (yo (l:=[_,_]) Z TyZ.h BlOf.h Z) ?_;refine bR (pend':=[]) [4,24] Z Z (zB Z Z zd.h Z Z mQ Z) ?_;refine ad [[14]] ?_;refine au 0 ?_;refine bB hret [] ?_;exact ⟨rfl,rfl⟩
theorem yG {main T} (hT:zm tp main T) {gm} {n:Int} :
  zq tp T gm 118 [intA n] [] (fun r K'=>r=.agg (ratC (wholeM n))/\K'=[]):=by
 refine zl 5 hT Tryz.func118 fun Y hret=>?_;refine au 22042 ?_;intro jr hjr;refine au 31703901423 ?_;refine bB hret [] ?_;exact ⟨rfl,rfl⟩
theorem zac {main T} (hT:zm tp main T) {gm} {a c:RatR} {A D B E:Int} (ha:RBd A D a) (hc:RBd B E c) (h1:A*E<=100000000000000000) (h2:B*D<=100000000000000000) :
  zq tp T gm 88 [.agg (ratC a),.agg (ratC c)] [] (fun r K'=>r=zF (lessM a c)/\K'=[]):=by
 refine zl 16 hT Tryz.func88 fun Y hret=>?_;refine au 0 ?_;have m1:=kN ha.n hc.d;have m2:=kN hc.n ha.d;refine au 21042 ?_;intro ja hja;refine au 210 ?_;intro jc hjc;refine au 6906706906704235 ?_;refine bH Z (q_mul Z Z Z oQ) ?_;refine au 690670690670 ?_;refine bH Z (q_mul Z Z Z oQ) ?_;refine au 357 ?_;refine bB hret [] ?_;exact ⟨rfl,rfl⟩
theorem kJ {main T} (hT:zm tp main T) {gm} {a c:RatR} {A D B E:Int} (ha:RBd A D a) (hc:RBd B E c) (h1:A*E<=100000000000000000) (h2:B*D<=100000000000000000) (h3:D*E<=100000000000000000) :
  zq tp T gm 165 [.agg (ratC a),.agg (ratC c)] [] (fun r K'=>r=.agg (ratC (plusM a c))/\K'=[]):=by
 refine zl 22 hT Tryz.func165 fun Y hret=>?_;refine au 0 ?_;have m1:=kN ha.n hc.d;have m2:=kN hc.n ha.d;have m3:=zb7 ha.d hc.d;refine au 21042 ?_;intro ja hja;refine au 210 ?_;intro jc hjc;refine au 220 ?_;intro jr hjr;refine au 690670690670423 ?_;refine bH Z (q_mul Z Z Z oQ) ?_;refine au 690670690670 ?_;refine bH Z (q_mul Z Z Z oQ) ?_;refine au 690670690670230 ?_;refine bH Z (q_mul Z Z Z oQ) ?_;refine TK.clE Z Z Z Z (wd hT oQ oQ) ?_;refine au 3170 ?_;refine bB hret [] ?_;exact ⟨rfl,rfl⟩
theorem uk {main T} (hT:zm tp main T) {gm} {a c:RatR} {A D B E:Int} (ha:RBd A D a) (hc:RBd B E c) (h1:A*E<=100000000000000000) (h2:B*D<=100000000000000000) (h3:D*E<=100000000000000000) (h0:B<=100000000000000000) :
  zq tp T gm 122 [.agg (ratC a),.agg (ratC c)] [] (fun r K'=>r=.agg (ratC (minusM a c))/\K'=[]):=by
 refine zl 13 hT Tryz.func122 fun Y hret=>?_;refine au 0 ?_;have hcn:=hc.n;refine au 21042 ?_;intro ja hja;refine au 210 ?_;intro jc hjc;refine au 220 ?_;intro jr hjr;refine au 690670680423 ?_;refine bH Z (zeO Z Z oQ) ?_;refine au 390690670 ?_;refine TK.clE Z Z Z Z (kJ hT ha (zhT hc) h1 h2 h3) ?_;refine au 3170 ?_;refine bB hret [] ?_;exact ⟨rfl,rfl⟩
theorem ziN {main T} (hT:zm tp main T) {gm} {b:TrB} {e p y:Nat} {n:Int} (hne:2<=b.earth.length/\b.earth.length<=5) :
  zq tp T gm 233 [.agg (trC b e p y),intA n] [(e,ptO b)] (fun r K'=>r=zF (decide ((ptI b 0).far<=n)&&decide (n<=(ptI b (b.earth.length - 1)).far))/\K'=[(e,ptO b)]):=by
 refine zl 24 hT Tryz.func233 fun Y hret=>?_;refine au 21042 ?_;intro jb hjb;refine au 235 ?_;refine bL [0,1,2,3,4,5,6,7,8,9,10,11,12,13,14,15,16,17,18,19] ?_;refine ad [[1,1],[3,2],[3,6],[10,7],[2,8],[3,9]] ?_;refine bT [10] Z (hq:=zg Z Z zd.h (mC _) (zW (c:=0) (pt_at b (i:=0) oQ Z) dQ Z)) (h:=?_);refine ad [[3,2],[3,12],[10,13],[3,2],[3,15],[10,16]] ?_;refine bU [17] Z (q_len Z Z Z Und.h) ?_;refine ad [[9,18],[2,14,19],[3,20]] ?_;refine bT [21] Z (hq:=zg Z Z zd.h (mC _) (zW (c:=0) (pt_at b (i:=b.earth.length - 1) oQ oQ) dQ Z)) (h:=?_);refine bQ (pend':=[⟨16,[20],[]⟩,⟨15,[14,19],[]⟩,⟨14,[18],[]⟩,⟨13,[17],[]⟩,⟨12,[16],[(_,_)]⟩,⟨11,[15],[]⟩,⟨10,[2],[]⟩,⟨9,[13],[(_,_)]⟩,⟨8,[12],[]⟩,⟨7,[2],[]⟩,⟨5,[9],[]⟩,⟨4,[8],[]⟩,⟨3,[7],[(_,_)]⟩,⟨2,[6],[]⟩,⟨1,[2],[]⟩]) [5,11,22] Z Z Z Z Z (kg hT) (fun r1 K2 h3=>⟨?_,?_⟩)
 ·rcases h3 with ⟨rfl,rfl⟩
  all_goals simp
 obtain ⟨rfl,rfl⟩:=h3;try simp only [cA]
 refine bS tQ ?_;refine ad [[13,23],[14]] ?_;refine au 0 ?_;refine bB hret [(e,_)] ?_;exact ⟨rfl,rfl⟩
theorem ziI {main T} (hT:zm tp main T) {gm} {b:TrB} {e p y:Nat} {n:Int} (hny:b.eyes.length<=100) :
  zq tp T gm 87 [.agg (trC b e p y),intA n] [] (fun r K'=>r=zF (decide (0<=n)&&decide (n<=(b.eyes.length:Int) - 1))/\K'=[]):=by
 refine zl 12 hT Tryz.func87 fun Y hret=>?_;refine au 21042 ?_;intro jb hjb;refine au 24028069067067014235 ?_;refine TK.clE Z Z Z Z (kg hT) ?_;refine au 35 ?_;refine bB hret [] ?_;exact ⟨rfl,rfl⟩
theorem zhc {main T} (hT:zm tp main T) {gm} {b:TrB} {e p y:Nat} (hb:TrOk b) :
  zq tp T gm 228 [.agg (trC b e p y)] [] (fun r K'=>r=intA 0/\K'=[]):=by
 refine zl 40 hT Tryz.func228 fun Y hret=>?_;refine au 0 ?_;have h1:=hb.cv;have h2:=hb.pa;have h3:=hb.fd;have h4:=hb.fn;refine au 21042 ?_;intro jb hjb;refine au 690670670422130235 ?_;refine TK.clE Z Z Z Z (kg hT) ?_;refine au 935300 ?_;constructor<;>intro hc0
 ·simp at hc0; omega
 refine au 69067067042 ?_;refine TK.clE Z Z Z Z (kg hT) ?_;refine au 935300 ?_;constructor<;>intro hc1
 ·simp at hc1; omega
 refine au 69067067067042 ?_;refine TK.clE Z Z Z Z (kg hT) ?_;refine au 935300 ?_;constructor<;>intro hc2
 ·simp at hc2; omega
 refine au 6906706706704 ?_;refine TK.clE Z Z Z Z (kg hT) ?_;refine au 935300 ?_;constructor<;>intro hc3
 ·simp at hc3; omega
 refine au 2 ?_;refine TK.dr [0,1,2,3,4,5,6,7,9,10,11,8,12,13] [0,1,2,3,4,5,6,7,8,9,10,11,12,13] ?_;refine ad [[3,1],[3,27],[3,28],[10,29],[3,1],[3,31],[3,32],[10,33],[3,1],[3,36],[12,37]] ?_;refine bQ (pend':=[⟨11,[37],[(_,_)]⟩,⟨10,[36],[]⟩,⟨9,[1],[]⟩,⟨6,[32],[]⟩,⟨5,[31],[]⟩,⟨4,[1],[]⟩,⟨2,[28],[]⟩,⟨1,[27],[]⟩,⟨0,[1],[]⟩]) [30,34] Z Z Z Z Z (wd hT oQ oQ) (fun r13 K14 h15=>⟨?_,?_⟩)
 ·rcases h15 with ⟨rfl,rfl⟩
  all_goals simp
 obtain ⟨rfl,rfl⟩:=h15;try simp only [cA]
 refine bS tQ ?_;rw [hb.fl];refine bU [35,38] Z (vv Z Z Z Z Z FlatF.h EqG.h) ?_;refine TD.as (pend':=[⟨11,[37],[(_,_)]⟩,⟨10,[36],[]⟩,⟨9,[1],[]⟩,⟨6,[32],[]⟩,⟨5,[31],[]⟩,⟨4,[1],[]⟩,⟨2,[28],[]⟩,⟨1,[27],[]⟩,⟨0,[1],[]⟩]) [39] Z Z (zw Z Z) ?_;refine ad [[14]] ?_;refine au 9 ?_;constructor<;>intro hc4
 ·simp at hc4
 refine au 3542140120 ?_;refine bB hret [] ?_;exact ⟨rfl,rfl⟩
theorem ziG {main T} (hT:zm tp main T) {gm} {b:TrB} {e p y:Nat} (hb:TrOk b) :
  zq tp T gm 229 [.agg (trC b e p y)] [(e,ptO b)] (fun r K'=>r=intA 0/\K'=[(e,ptO b)]):=by
 refine zl 50 hT Tryz.func229 fun Y hret=>?_;refine au 0 ?_;have h1:=hb.ne;have hcv:=hb.cv;refine au 21042 ?_;intro jb hjb;refine au 28069067067042235 ?_;refine TK.clE Z Z Z Z (kg hT) ?_;refine au 93300 ?_;constructor<;>intro hc0
 ·simp at hc0; omega
 refine au 13031280690670670422120 ?_;refine bA [1,13,14,15] ?_;refine bE (fun n env K=>∃ (i:Nat),n=b.earth.length - i/\i<=b.earth.length/\env=.any::.ptr jb 0::naL 11 (.sl e 0 b.earth.length::intA b.earth.length::intA i::naL 34 [])/\K=[(jb,.cells (trC b e p y) 95 true),(e,ptO b)]) (b.earth.length) ⟨0,rfl,mN _,rfl,rfl⟩ fun n env K hI hnext=>?_;obtain ⟨i,rfl,hi,rfl,rfl⟩:=hI;refine bG nQ ?_;refine au 923742 ?_;constructor<;>intro hc1
 ·have hil:i<b.earth.length:=by simp at hc1; omega
  have hq:=hb.ea i hil;refine au 3601421302120 ?_;refine bH Z (zI Z Z zd.h mQ (pt_at b hil Z)) ?_;refine au 220 ?_;intro jx hjx;refine au 24069067067069067042213031705 ?_;refine TK.clE Z Z Z Z (kg hT) ?_;refine au 935300 ?_;constructor<;>intro hc2
  ·simp at hc2; omega
  refine au 6906704 ?_;refine TK.clE Z Z Z Z (kg hT) ?_;refine au 935300 ?_;constructor<;>intro hc3
  ·simp at hc3; omega
  refine au 2 ?_;refine bL [0,1,2,3,4,5,6,7,8,9,10,11,12,13,14,15] ?_;refine ad [[1,3],[4,34],[1,35]] ?_;refine TD.sp 36 (fun g9_3=>?_) (fun g9_3=>?_)
  ·have hi0:0<i:=by simp at g9_3; omega
   have hqa:=hb.sc (i - 1) oQ;rw [show i - 1+1=i by omega] at hqa;refine ad [[3,4,36],[10,36,37],[3,1,36],[3,36,39],[10,36,40],[1,3,36],[9,36,42],[2,36,41,43],[3,36,44]] ?_;refine bT [36,45] Z (hq:=zg Z Z zd.h (mC _) (zW (c:=0) (pt_at b (i:=i - 1) oQ oQ) dQ Z)) (h:=?_);refine ad [[4,36,38,46],[7,36,47]] ?_;refine TD.as (pend':=[⟨13,[36,38,46],[]⟩,⟨12,[36,45],[(_,_)]⟩,⟨11,[36,44],[]⟩,⟨10,[36,41,43],[]⟩,⟨9,[36,42],[]⟩,⟨8,[3,36],[]⟩,⟨7,[36,40],[(_,_)]⟩,⟨6,[36,39],[]⟩,⟨5,[1,36],[]⟩,⟨4,[36,37],[(_,_)]⟩,⟨3,[4,36],[]⟩,⟨1,[34],[]⟩,⟨0,[3],[]⟩]) [48] Z Z (zw Z Z) ?_;refine ad [[14]] ?_;refine au 9 ?_;constructor<;>intro hc4
   ·simp at hc4; omega
   refine au 312304140140120 ?_;refine bA [1,13,14,15] ?_;refine bC [(jb,_),(e,_)] ?_;exact hnext _ _ _ oQ ⟨i+1,rfl,oQ,rfl,rfl⟩
  refine ad [[11,4,36],[11,36,37],[11,1,36],[11,36,39],[11,36,40],[11,3,36],[11,36,42],[11,36,41,43],[11,36,44],[11,36,45],[11,36,38,46],[6,36,47]] ?_;refine TD.as (pend':=[⟨13,[36,38,46],[]⟩,⟨12,[36,45],[]⟩,⟨11,[36,44],[]⟩,⟨10,[36,41,43],[]⟩,⟨9,[36,42],[]⟩,⟨8,[3,36],[]⟩,⟨7,[36,40],[]⟩,⟨6,[36,39],[]⟩,⟨5,[1,36],[]⟩,⟨4,[36,37],[]⟩,⟨3,[4,36],[]⟩,⟨1,[34],[]⟩,⟨0,[3],[]⟩]) [48] Z Z (zw Z Z) ?_;refine ad [[14]] ?_;refine au 312304140140120190 ?_;refine bA [1,13,14,15] ?_;refine bC [(jb,_),(e,_)] ?_;exact hnext _ _ _ oQ ⟨i+1,rfl,oQ,rfl,rfl⟩
 refine au 3542160 ?_;refine bB hret [(e,_)] ?_;exact ⟨rfl,rfl⟩
theorem zkn {main T} (hT:zm tp main T) {gm} {b:TrB} {e p y:Nat} {n:Int} (hn:1<=n/\n<=20) :
  zq tp T gm 234 [intA n,.agg (trC b e p y)] [] (fun r K'=>r=intA 0/\K'=[]):=by
 refine zl 8 hT Tryz.func234 fun Y hret=>?_;refine au 21042 ?_;intro jb hjb;refine au 142235 ?_;refine TK.clE Z Z Z Z (kg hT) ?_;refine au 93300 ?_;constructor<;>intro hc0
 ·simp at hc0; omega
 refine au 3542120 ?_;refine bB hret [] ?_;exact ⟨rfl,rfl⟩
theorem zlF {main T} (hT:zm tp main T) {gm} {b:TrB} {e p y:Nat} (hb:TrOk b) {n:Int} (hn:0<=n/\n<b.eyes.length) :
  zq tp T gm 38 [intA n,.agg (trC b e p y)] [] (fun r K'=>r=intA 0/\K'=[]):=by
 refine zl 9 hT Tryz.func38 fun Y hret=>?_;refine au 0 ?_;have hny:=hb.ny;refine au 21042 ?_;intro jb hjb;refine au 168042235 ?_;refine TK.clE Z Z Z Z (ziI hT oQ) ?_;refine au 93300 ?_;constructor<;>intro hc0
 ·simp at hc0; omega
 refine au 3542120 ?_;refine bB hret [] ?_;exact ⟨rfl,rfl⟩
theorem ziO {main T} (hT:zm tp main T) {gm} {b:TrB} {e p y:Nat} (hb:TrOk b) :
  zq tp T gm 230 [.agg (trC b e p y)] [(e,ptO b),(p,prO b)] (fun r K'=>r=intA 0/\K'=[(e,ptO b),(p,prO b)]):=by
 refine zl 32 hT Tryz.func230 fun Y hret=>?_;refine au 0 ?_;have h1:=hb.np;refine au 21042 ?_;intro jb hjb;refine au 93728069067067042235 ?_;constructor<;>intro hc0
 ·simp at hc0; omega
 refine au 13031280690670670422120 ?_;refine bA [1,13,14,15] ?_;refine bE (fun n env K=>∃ (i:Nat),n=b.props.length - i/\i<=b.props.length/\env=.any::.ptr jb 0::naL 11 (.sl p 0 b.props.length::intA b.props.length::intA i::naL 16 [])/\K=[(jb,.cells (trC b e p y) 95 true),(e,ptO b),(p,prO b)]) (b.props.length) ⟨0,rfl,mN _,rfl,rfl⟩ fun n env K hI hnext=>?_;obtain ⟨i,rfl,hi,rfl,rfl⟩:=hI;refine bG nQ ?_;refine au 923742 ?_;constructor<;>intro hc1
 ·have hil:i<b.props.length:=by simp at hc1; omega
  have hq:=hb.pr i hil;refine au 360421302120 ?_;refine bH Z (zI Z Z zd.h mQ (pr_at b hil Z)) ?_;refine au 220 ?_;intro jx hjx;refine au 6906706804223170 ?_;refine TK.clE Z Z Z Z (ziN hT hb.ne) ?_;refine au 93300 ?_;constructor<;>intro hc2
  ·simp at hc2; omega
  refine au 68069067042120 ?_;refine TK.clE Z Z Z Z (zkn hT oQ) ?_;refine au 93714235 ?_;constructor<;>intro hc3
  ·exact absurd hc3 dQ
  refine au 312304140120 ?_;refine bA [1,13,14,15] ?_;refine bC [(jb,_),(e,_),(p,_)] ?_;exact hnext _ _ _ oQ ⟨i+1,rfl,oQ,rfl,rfl⟩
 refine au 3542160 ?_;refine bB hret [(e,_),(p,_)] ?_;exact ⟨rfl,rfl⟩
theorem zki {main T} (hT:zm tp main T) {gm} {b:TrB} {e p y:Nat} (hb:TrOk b) :
  zq tp T gm 231 [.agg (trC b e p y)] [(y,eyO b)] (fun r K'=>r=intA 0/\K'=[(y,eyO b)]):=by
 refine zl 40 hT Tryz.func231 fun Y hret=>?_;refine au 0 ?_;have h1:=hb.ny;refine au 21042 ?_;intro jb hjb;refine au 28069067067042235 ?_;refine TK.clE Z Z Z Z (kg hT) ?_;refine au 93300 ?_;constructor<;>intro hc0
 ·simp at hc0; omega
 refine au 13031280690670670422120 ?_;refine bA [1,13,14,15] ?_;refine bE (fun n env K=>∃ (i:Nat),n=b.eyes.length - i/\i<=b.eyes.length/\env=.any::.ptr jb 0::naL 11 (.sl y 0 b.eyes.length::intA b.eyes.length::intA i::naL 24 [])/\K=[(jb,.cells (trC b e p y) 95 true),(y,eyO b)]) (b.eyes.length) ⟨0,rfl,mN _,rfl,rfl⟩ fun n env K hI hnext=>?_;obtain ⟨i,rfl,hi,rfl,rfl⟩:=hI;refine bG nQ ?_;refine au 923742 ?_;constructor<;>intro hc1
 ·have hil:i<b.eyes.length:=by simp at hc1; omega
  have hq:=hb.ey i hil;refine au 360421302120 ?_;refine bH Z (zI Z Z zd.h mQ (ey_at b hil Z)) ?_;refine au 220 ?_;intro jx hjx;refine au 690670423170 ?_;refine TK.clE Z Z Z Z (kg hT) ?_;refine au 1300 ?_;refine bF 23 (fun g6_5=>?_) (fun g6_5=>?_)
  ·simp at g6_5; omega
  refine au 680670 ?_;refine TK.clE Z Z Z Z (zkg hT) ?_;refine au 1250300 ?_;refine bF 29 (fun g6_11=>?_) (fun g6_11=>?_)
  ·simp at g6_11; omega
  refine au 932507240690670670690670670 ?_;constructor<;>intro hc2
  ·simp at hc2; omega
  refine au 312304140120 ?_;refine bA [1,13,14,15] ?_;refine bC [(jb,_),(y,_)] ?_;exact hnext _ _ _ oQ ⟨i+1,rfl,oQ,rfl,rfl⟩
 refine au 3542160 ?_;refine bB hret [(y,_)] ?_;exact ⟨rfl,rfl⟩
theorem zko {main T} (hT:zm tp main T) {gm} {b:TrB} {e p y:Nat} :
  zq tp T gm 232 [.agg (trC b e p y)] [] (fun r K'=>r=intA 0/\K'=[]):=by
 refine zl 24 hT Tryz.func232 fun Y hret=>?_;refine au 21042 ?_;intro jb hjb;refine au 93728069067067042235 ?_;constructor<;>intro hc0
 ·exact absurd hc0 dQ
 refine au 13031280690670670422120 ?_;refine TK.loop ?_;refine au 923742 ?_;constructor<;>intro hc1
 ·exact absurd hc1 dQ
 refine au 3542160 ?_;refine bB hret [] ?_;exact ⟨rfl,rfl⟩
theorem ziF {main:Bool} {T:Goroutine->Hp->Prop} (hT:zm tp main T)  {b:TrB} {e p y:Nat} (hb:TrOk b) :
  zq tp T gmR 113 [.agg (trC b e p y)] [(1,trChecksG),(e,ptO b),(p,prO b),(y,eyO b)] (fun r K'=>r=intA 0/\K'=[(1,trChecksG),(e,ptO b),(p,prO b),(y,eyO b)]):=by
 refine zl 18 hT Tryz.func113 fun Y hret=>?_;refine au 21042 ?_;intro jb hjb;refine au 1303168042235 ?_;refine TK.loop ?_;refine au 923742 ?_;refine ⟨fun k0=>?_,fun k0=>?_⟩
 ·
  refine au 421302120 ?_;refine bH Z (ke Z Z Z ArEl.h oQ oQ Z) ?_;refine au 45068014235 ?_;refine TK.clE Z Z Z Z (zhc hT (e:=e) (p:=p) (y:=y) hb) ?_;refine au 93714235 ?_;refine ⟨fun k1=>?_,fun k1=>?_⟩
  ·exact absurd k1 dQ
  refine au 312304140120 ?_;refine TK.inLoop ?_;refine au 923742 ?_;refine ⟨fun k0=>?_,fun k0=>?_⟩
  ·
   refine au 421302120 ?_;refine bH Z (ke Z Z Z ArEl.h oQ oQ Z) ?_;refine au 45068014235 ?_;refine TK.clE Z Z Z Z (ziG hT (p:=p) (y:=y) hb) ?_;refine au 93714235 ?_;refine ⟨fun k1=>?_,fun k1=>?_⟩
   ·exact absurd k1 dQ
   refine au 312304140120 ?_;refine TK.inLoop ?_;refine au 923742 ?_;refine ⟨fun k0=>?_,fun k0=>?_⟩
   ·
    refine au 421302120 ?_;refine bH Z (ke Z Z Z ArEl.h oQ oQ Z) ?_;refine au 45068014235 ?_;refine TK.clE Z Z Z Z (ziO hT (y:=y) hb) ?_;refine au 93714235 ?_;refine ⟨fun k1=>?_,fun k1=>?_⟩
    ·exact absurd k1 dQ
    refine au 312304140120 ?_;refine TK.inLoop ?_;refine au 923742 ?_;refine ⟨fun k0=>?_,fun k0=>?_⟩
    ·
     refine au 421302120 ?_;refine bH Z (ke Z Z Z ArEl.h oQ oQ Z) ?_;refine au 45068014235 ?_;refine TK.clE Z Z Z Z (zki hT (e:=e) (p:=p) hb) ?_;refine au 93714235 ?_;refine ⟨fun k1=>?_,fun k1=>?_⟩
     ·exact absurd k1 dQ
     refine au 312304140120 ?_;refine TK.inLoop ?_;refine au 923742 ?_;refine ⟨fun k0=>?_,fun k0=>?_⟩
     ·
      refine au 421302120 ?_;refine bH Z (ke Z Z Z ArEl.h oQ oQ Z) ?_;refine au 45068014235 ?_;refine TK.clE Z Z Z Z (zko hT (b:=b) (e:=e) (p:=p) (y:=y)) ?_;refine au 93714235 ?_;refine ⟨fun k1=>?_,fun k1=>?_⟩
      ·exact absurd k1 dQ
      refine au 312304140120 ?_;refine TK.inLoop ?_;refine au 923742 ?_;refine ⟨fun k0=>?_,fun k0=>?_⟩
      ·exact absurd k0 dQ
      refine au 3542160 ?_;refine bB hret [(1,_),(e,_),(p,_),(y,_)] ?_;exact ⟨rfl,rfl⟩
     exact absurd k0 dQ
    exact absurd k0 dQ
   exact absurd k0 dQ
  exact absurd k0 dQ
 exact absurd k0 dQ
theorem zkl {main:Bool} {T:Goroutine->Hp->Prop} (hT:zm tp main T)  {b:TrB} {e p y:Nat} {n:Int} {ja:Nat} (hb:TrOk b) (hn:0<=n/\n<b.eyes.length) :
  zq tp T gmR 84 [.agg (trC b e p y),.row ja 1] [(ja,.row [.fn 38 [intA n] []] 101 1),(1,trChecksG),(e,ptO b),(p,prO b),(y,eyO b)] (fun r K'=>r=.tup [.agg (trC b e p y),intA 0]/\K'=[(ja,.row [.fn 38 [intA n] []] 101 1),(1,trChecksG),(e,ptO b),(p,prO b),(y,eyO b)]):=by
 refine zl 34 hT Tryz.func84 fun Y hret=>?_;refine au 21042 ?_;intro jb hjb;refine au 220 ?_;intro jr hjr;refine au 68042235 ?_;refine TK.clE Z Z Z Z (ziF hT hb) ?_;refine au 93714235 ?_;constructor<;>intro hc0
 ·exact absurd hc0 dQ
 refine au 22045068042120 ?_;intro jx hjx;refine au 1303128014223170 ?_;refine TK.loop ?_;refine au 923742 ?_;constructor<;>intro hc1
 ·
  refine au 68014235690370421302120 ?_;refine TK.clE Z Z Z Z (zlF hT (e:=e) (p:=p) (y:=y) hb hn) ?_;refine au 93714235 ?_;constructor<;>intro hc2
  ·exact absurd hc2 dQ
  refine au 312304140120 ?_;refine TK.inLoop ?_;refine au 923742 ?_;constructor<;>intro hc1
  ·exact absurd hc1 dQ
  refine au 3517068042160 ?_;refine bB hret [(ja,_),(1,_),(e,_),(p,_),(y,_)] ?_;exact ⟨rfl,rfl⟩
 exact absurd hc1 dQ
section
variable {P:Program} {main:Bool} {k:List Item}
theorem zkd {kd:CallKind} {f:FuncId} {ro:Option Nat} {ts:Array Value} {ds:List Deferred} {cs:List Frame} {w:World} {c:Code}:stepG P main (G (fr kd f ro ts ds (.code (.scope c)::k)) cs) w=.go (G (fr kd f ro ts ds (.code c::.inScope c::k)) cs) w #[]:=by simp [G,stepG,stepG.exec,fr]
theorem zg7 {kd:CallKind} {f:FuncId} {ro:Option Nat} {ts:Array Value} {ds:List Deferred} {cs:List Frame} {w:World} {c:Code}:stepG P main (G (fr kd f ro ts ds (.inScope c::k)) cs) w=.go (G (fr kd f ro ts ds k) cs) w #[]:=by simp [G,stepG,stepG.exec,fr]
end
section
variable {P:Program} {gm:Nat->Option Nat} {T:Goroutine->Hp->Prop} {Y:KX P gm T} {ds:List Nat} {k:List Item} {env:List AV} {K:KV}
theorem TK.scope {c:Code} (h:TK Y ds (.code c::.inScope c::k) env K):TK Y ds (.code (.scope c)::k) env K:=fun A hA φ H ts h1 h2 h3 h4 h5 h6=>Y.X.hT.ctlF rfl (fun _=>zkd) rfl (h A hA φ H ts h1 h2 h3 h4 h5 h6)
theorem TK.inScope {c:Code} (h:TK Y ds k env K):TK Y ds (.inScope c::k) env K:=fun A hA φ H ts h1 h2 h3 h4 h5 h6=>Y.X.hT.ctlF rfl (fun _=>zg7) rfl (h A hA φ H ts h1 h2 h3 h4 h5 h6)
end
theorem w8 {o:Option (List Int×Int)} {K:KV} {r:AV} {K':KV} (h:HangR o K r K'):(o=none/\r=.tup [.agg [.v (.slice none 0 0),intA 0],zF false]/\K'=K)\/∃ w q jw,o=some (w,q)/\r=.tup [.agg [.sl jw 0 w.length,intA q],zF true]/\K'=(jw,.cells (w.map intA) 3 false)::K:=by
 cases o with
 | none=>exact .inl ⟨rfl,h⟩
 | some z=>obtain ⟨jw,h1,h2⟩:=h; exact .inr ⟨z.1,z.2,jw,rfl,h1,h2⟩
def wayC (p:Nat×Nat×Int):List AV:=[.sl p.1 0 p.2.1,intA p.2.2]
theorem zbO {all:List (List Int)} {i:Nat} {st:List Int} {n:Int} {e:TypeId} {rw':Bool} (h:all[i]? =some st) (hn:n=(i:Int)):takeO (.cells (all.flatMap stC) e rw') (0+n.toNat*5) 5=some (stC st):=kA (c:=5) (fun _=>rfl) h hn dQ
theorem zdy {b:RBk} {all:List (List Int)} {l st:List Int} {i:Nat} (h:all[i]? =some st) (hh:hangM b l st=none):waysM b (all.take (i+1)) l=waysM b (all.take i) l:=by
 unfold waysM;rw [yC h,List.filterMap_append];simp [hh]
theorem zdz {b:RBk} {all:List (List Int)} {l st w:List Int} {q:Int} {i:Nat} (h:all[i]? =some st) (hh:hangM b l st=some (w,q)):waysM b (all.take (i+1)) l=waysM b (all.take i) l++[(w,q)]:=by
 unfold waysM;rw [yC h,List.filterMap_append];simp [hh]
theorem zgp (b:RBk) (all:List (List Int)) (l:List Int):(waysM b all l).length<=all.length:=List.length_filterMap_le _ _
theorem zfC (x:Int) (r:List Int) (y:Int):spreadM (x::(r++[y]))=(min (spreadM (x::r)).1 y,max (spreadM (x::r)).2 y):=by
 unfold spreadM;dsimp only;rw [List.foldl_append,List.foldl_append];rfl
def sqOk (b:RBk) (all:List (List Int)) (l:List Int):Bool:=(squaresM b all l).isSome
def sqLo (b:RBk) (all:List (List Int)) (l:List Int):Int:=((squaresM b all l).getD (0,0)).1
def sqHi (b:RBk) (all:List (List Int)) (l:List Int):Int:=((squaresM b all l).getD (0,0)).2
theorem kV {l:List Int} {i p:Nat} {x:Int} {e:TypeId} {s:Nat} (h:l[i]? =some x) (hp:p=i):takeO (.row (l.map intA) e s) p 1=some [intA x]:=by
 subst hp;have:=za7 (e:=e) (s:=s) h rfl;simpa using this
instance:ApOf tp 145 126 2 32:={}
instance:BlOf tp 68 [(0,1),(1,1)]:={}
instance:zf tp 152 0 0 false 1:={}
instance:zf tp 152 1 1 false 1:={}
instance:zz tp 145 126 2:={}
instance:TyZ tp 68 [.int .i64 0,.int .i64 0]:={}
instance:Und tp 145 (.slice 126):={}
theorem zgq {main T} (hT:zm tp main T) {gm} {b:RBk} {s h e a j:Nat} {l:List Int} {all:List (List Int)} {et:TypeId} (hb:ROk b) (hl:CutsOk b l) (ha:okAll b all) (hn:all.length<=243) :
  zq tp T gm 67 [.agg (knownC b s h e a all.length),.sl j 0 l.length] [(s,zk b),(a,allO all),(j,.cells (l.map intA) et false)] (fun r K'=>∃ (jr:Nat) (ps:List (Nat×Nat×Int)),ps.map (·.2.2)=(waysM b all l).map (·.2)/\r=.row jr ps.length/\K'=[(jr,.row (ps.flatMap wayC) 126 2),(s,zk b),(a,allO all),(j,.cells (l.map intA) et false)]):=by
 refine zl 35 hT Tryz.func67 fun Y hret=>?_;refine au 21042 ?_;intro jb hjb;refine au 35 ?_;refine TK.scope ?_;refine au 542 ?_;refine TK.virt 5 126 2 Z fun jr0 hjr0=>?_;refine au 1303128069067042215023 ?_;refine bA [1,2,4,5,11,12] ?_;refine bC [(s,_),(a,_),(j,_),(jr0,_),(jb,_)] ?_;refine bE (fun n env K=>∃ (i jr:Nat) (ps:List (Nat×Nat×Int)),n=all.length - i/\i<=all.length/\ps.map (·.2.2)=(waysM b (all.take i) l).map (·.2)/\env=.any::.sl j 0 l.length::.ptr jb 0::.any::.v (.slice none 0 0)::.row jr ps.length::naL 5 (intA all.length::intA i::naL 22 [])/\K=[(s,zk b),(a,allO all),(j,.cells (l.map intA) et false),(jr,.row (ps.flatMap wayC) 126 2),(jb,.cells (knownC b s h e a all.length) 137 true)]) all.length ⟨0,jr0,[],rfl,mN _,rfl,rfl,rfl⟩ fun n env K hI hnext=>?_;obtain ⟨i,jr,ps,rfl,hi,hps,rfl,rfl⟩:=hI;have hpl:ps.length<=i:=by have:=congrArg List.length hps; rw [lJ,lJ] at this; have h2:=zgp b (all.take i) l; rw [List.length_take] at h2; omega
 have hfl:=yz wayC 2 (fun _=>rfl) ps;refine bG nQ ?_;refine au 923742 ?_;constructor<;>intro hc0
 ·have hil:i<all.length:=by simp at hc0; omega
  obtain ⟨st,hst⟩:∃ st,all[i]? =some st:=⟨_,lA hil⟩;have hsk:=ha st (lN hst);refine au 2351421302120 ?_;refine bL [0,1,2,3,4,5,6,7,8,9,10,12,13,11,14] ?_;refine ad [[3,2],[12,16],[1,1],[3,2],[10,19],[1,6],[2,20,21]] ?_;refine bT [22] Z (hq:=zI Z Z zd.h (mC _) (zbO (i:=i) hst Z)) (h:=?_);refine TD.c2 (i1:=8) (i2:=12) (pend1:=[⟨6,[20,21],[]⟩,⟨5,[6],[]⟩,⟨4,[19],[(_,_)]⟩,⟨3,[2],[]⟩,⟨0,[2],[]⟩]) (pend2:=[⟨7,[22],[(_,_)]⟩,⟨6,[20,21],[]⟩,⟨5,[6],[]⟩,⟨4,[19],[(_,_)]⟩,⟨3,[2],[]⟩,⟨2,[1],[]⟩,⟨1,[16],[(_,_)]⟩,⟨0,[2],[]⟩]) (L1:=[9,10,11,12,13,14]) (L2:=[8,9,10,11,13,14]) [17,18,23] [] Z Z Z Z Z Z Z ?_ ?_
  ·refine yA Z Z Cal.h Z ((vG hT hb hl hsk).mono (fun _ _ h=>w8 h)) (by repeat (first | exact Split.none _ | exact Split.all _ | (apply Split.rem; repeat (first | exact Rem.head | apply Rem.tail)) | apply Split.right)) fun r1 K2 h3=>⟨?_,?_⟩
   ·rcases h3 with ⟨hno,rfl,rfl⟩ | ⟨w,q,jw,hso,rfl,rfl⟩;all_goals simp
   rcases h3 with ⟨hno,rfl,rfl⟩ | ⟨w,q,jw,hso,rfl,rfl⟩
   ·try simp only [cA]
    refine bS (env':=[_,_,_,_,_,_,_,_,_,_,_,_,_,_,_,_,_,_,_,_,_,_,_,_,_,_,_,_,_,_,_,_,_,_,_]) Z ?_;refine ad [[1,24],[5,15],[5,15]] ?_;refine bX (pend':=[⟨11,[15],[]⟩,⟨10,[15],[]⟩,⟨9,[24],[]⟩,⟨6,[20,21],[]⟩,⟨5,[6],[]⟩,⟨4,[19],[(_,_)]⟩,⟨3,[2],[]⟩,⟨0,[2],[]⟩]) [] Z Z Z Z Z (zU Z TyZA.h) (fun _=>zn rfl tQ) sQ fun j7 hj7=>?_;refine bR (pend':=[⟨11,[15],[]⟩]) [7,25] Z Z (zB Z Z zd.h Z Z mQ Z) ?_;refine ad [[13,26],[14]] ?_;refine au 933001422 ?_;constructor<;>intro hc1
    ·
     refine au 312304160 ?_;refine bA [1,2,4,5,11,12] ?_;refine bC [(s,_),(a,_),(j,_),(jr,_),(jb,_)] ?_;exact hnext _ _ _ oQ ⟨i+1,jr,ps,rfl,oQ,by rw [zdy hst hno]; exact hps,rfl,rfl⟩
    exact absurd hc1 dQ
   ·try simp only [cA]
    refine bS (env':=[_,_,_,_,_,_,_,_,_,_,_,_,_,_,_,_,_,_,_,_,_,_,_,_,_,_,_,_,_,_,_,_,_,_,_]) Z ?_;refine ad [[1,24],[5,15],[5,15]] ?_;refine bX (pend':=[⟨11,[15],[]⟩,⟨10,[15],[]⟩,⟨9,[24],[]⟩,⟨6,[20,21],[]⟩,⟨5,[6],[]⟩,⟨4,[19],[(_,_)]⟩,⟨3,[2],[]⟩,⟨0,[2],[]⟩]) [] Z Z Z Z Z (zU Z TyZA.h) (fun _=>zn rfl tQ) sQ fun j7 hj7=>?_;refine bR (pend':=[⟨11,[15],[]⟩]) [7,25] Z Z (zB Z Z zd.h Z Z mQ Z) ?_;refine ad [[13,26],[14]] ?_;refine au 933001422 ?_;constructor<;>intro hc1
    ·exact absurd hc1 dQ
    refine au 68014120 ?_;refine bI Z Z Z (zp (l:=[_,_]) Z zz.h TyZ.h dQ dQ Z) (fun _=>zn rfl tQ) fun j4 hj4=>?_;refine bO Z Z Z (a_app Z ApOf.h Z mQ oQ Z (yp (ln:=[_,_]) mQ dQ sQ Z) oQ Z (by unfold maxLen; omega) oQ) (fun _=>uQ) (fun _=>zn rfl tQ) fun jr2=>?_;refine au 31230414035 ?_;refine bA [1,2,4,5,11,12] ?_;refine bC [(s,_),(a,_),(j,_),(jr2,_),(jb,_)] ?_;exact hnext _ _ _ oQ ⟨i+1,jr2,ps++[(jw,w.length,q)],rfl,oQ,by rw [zdz hst hso,lM,lM,hps]; rfl,by rw [lF]; rfl,by rw [y9]; rfl⟩
  ·refine yu Z (zU Z TyZA.h) (fun _=>zn rfl tQ) sQ fun j7 hj7=>?_;refine bQ (pend':=[⟨6,[20,21],[]⟩,⟨5,[6],[]⟩,⟨4,[19],[(_,_)]⟩,⟨3,[2],[]⟩,⟨0,[2],[]⟩]) [17,18,23] Z Z Z Z Z ((vG hT hb hl hsk).mono (fun _ _ h=>w8 h)) (fun r5 K6 h7=>⟨?_,?_⟩)
   ·rcases h7 with ⟨hno,rfl,rfl⟩ | ⟨w,q,jw,hso,rfl,rfl⟩;all_goals simp
   rcases h7 with ⟨hno,rfl,rfl⟩ | ⟨w,q,jw,hso,rfl,rfl⟩
   ·try simp only [cA]
    refine bS tQ ?_;refine ad [[1,24],[5,15],[5,15]] ?_;refine bR (pend':=[⟨11,[15],[]⟩]) [7,25] Z Z (zB Z Z zd.h Z Z mQ Z) ?_;refine ad [[13,26],[14]] ?_;refine au 933001422 ?_;constructor<;>intro hc1
    ·
     refine au 312304160 ?_;refine bA [1,2,4,5,11,12] ?_;refine bC [(s,_),(a,_),(j,_),(jr,_),(jb,_)] ?_;exact hnext _ _ _ oQ ⟨i+1,jr,ps,rfl,oQ,by rw [zdy hst hno]; exact hps,rfl,rfl⟩
    exact absurd hc1 dQ
   ·try simp only [cA]
    refine bS tQ ?_;refine ad [[1,24],[5,15],[5,15]] ?_;refine bR (pend':=[⟨11,[15],[]⟩]) [7,25] Z Z (zB Z Z zd.h Z Z mQ Z) ?_;refine ad [[13,26],[14]] ?_;refine au 933001422 ?_;constructor<;>intro hc1
    ·exact absurd hc1 dQ
    refine au 68014120 ?_;refine bI Z Z Z (zp (l:=[_,_]) Z zz.h TyZ.h dQ dQ Z) (fun _=>zn rfl tQ) fun j8 hj8=>?_;refine bO Z Z Z (a_app Z ApOf.h Z mQ oQ Z (yp (ln:=[_,_]) mQ dQ sQ Z) oQ Z (by unfold maxLen; omega) oQ) (fun _=>uQ) (fun _=>zn rfl tQ) fun jr2=>?_;refine au 31230414035 ?_;refine bA [1,2,4,5,11,12] ?_;refine bC [(s,_),(a,_),(j,_),(jr2,_),(jb,_)] ?_;exact hnext _ _ _ oQ ⟨i+1,jr2,ps++[(jw,w.length,q)],rfl,oQ,by rw [zdz hst hso,lM,lM,hps]; rfl,by rw [lF]; rfl,by rw [y9]; rfl⟩
 obtain rfl:i=all.length:=by simp at hc0; omega
 refine au 35142160 ?_;refine bB hret [(jr,_),(s,_),(a,_),(j,_)] ?_;exact ⟨jr,ps,by rw [hps,lW],rfl,rfl⟩
theorem zdv {main T} (hT:zm tp main T) {gm} {j off:Nat} {ob:AObj} {x:Int} {xs:List Int} (hI:∀ (i:Nat) (y:Int),xs[i]? =some y->takeO ob (off+(i:Int).toNat*1) 1=some [intA y]) (hl:xs.length<=1000) :
  zq tp T gm 66 [intA x,.sl j off xs.length] [(j,ob)] (fun r K'=>r=.agg [intA (spreadM (x::xs)).1,intA (spreadM (x::xs)).2]/\K'=[(j,ob)]):=by
 refine zl 27 hT Tryz.func66 fun Y hret=>?_;refine au 22042 ?_;intro jr hjr;refine au 13031280142235511423 ?_;refine bA [4,5,6,11,12,13] ?_;refine bC [(j,_),(jr,_)] ?_;refine bE (fun n env K=>∃ (i:Nat),n=xs.length - i/\i<=xs.length/\env=naL 4 (.ptr jr 0::intA (spreadM (x::xs.take i)).1::intA (spreadM (x::xs.take i)).2::naL 4 (.sl j off xs.length::intA xs.length::intA i::naL 13 []))/\K=[(j,ob),(jr,.cells [intA 0,intA 0] 68 true)]) xs.length ⟨0,rfl,mN _,rfl,rfl⟩ fun n env K hI' hnext=>?_;obtain ⟨i,rfl,hi,rfl,rfl⟩:=hI';refine bG nQ ?_;refine au 923742 ?_;constructor<;>intro hc0
 ·have hil:i<xs.length:=by simp at hc0; omega
  obtain ⟨y,hy⟩:∃ y,xs[i]? =some y:=⟨_,lA hil⟩;refine au 360421302120 ?_;refine bH Z (zg Z Z zd.h mQ (hI i y hy)) ?_;refine au 11435 ?_;refine bH Z (zeN Z Z Z) ?_;refine au 11 ?_;refine bH Z (zaH Z Z Z) ?_;refine au 312304140355 ?_;refine bA [4,5,6,11,12,13] ?_;refine bC [(j,_),(jr,_)] ?_;exact hnext _ _ _ oQ ⟨i+1,rfl,oQ,by rw [yC hy,zfC]; rfl,rfl⟩
 obtain rfl:i=xs.length:=by simp at hc0; omega
 refine au 31703901142160 ?_;refine bB hret [(j,_)] ?_;exact ⟨by rw [lW]; rfl,rfl⟩
theorem zcl {main T} (hT:zm tp main T) {gm} {b:RBk} {s h e a j:Nat} {l:List Int} {all:List (List Int)} {et:TypeId} (hb:ROk b) (hl:CutsOk b l) (ha:okAll b all) (hn:all.length<=243) (h0:0<all.length) :
  zq tp T gm 72 [.agg (knownC b s h e a all.length),.sl j 0 l.length] [(j,.cells (l.map intA) et false),(s,zk b),(a,allO all)] (fun r K'=>r=.tup [.agg [intA (sqLo b all l),intA (sqHi b all l)],zF (sqOk b all l)]/\K'=[(j,.cells (l.map intA) et false),(s,zk b),(a,allO all)]):=by
 refine zl 38 hT Tryz.func72 fun Y hret=>?_;refine au 21042 ?_;intro jb hjb;refine au 220 ?_;intro jr0 hjr0;refine au 16804235 ?_;refine bD Z Z Z Z (zgq hT hb hl ha hn) ?_;rintro r1 K2 ⟨jr,ps,hps,rfl,rfl⟩;refine au 0 ?_;have hpl:ps.length=(waysM b all l).length:=by have:=congrArg List.length hps; rwa [lJ,lJ] at this
 have hwl:=zgp b all l;refine au 937280690670280142235 ?_;constructor<;>intro hc0
 ·refine au 3517039042 ?_;refine bB hret [(j,_),(s,_),(a,_)] ?_;have hlt:(waysM b all l).length<all.length:=by rw [<- hpl]; simp at hc0; omega
  exact ⟨by unfold sqLo sqHi sqOk squaresM; rw [if_pos hlt]; rfl,rfl⟩
 have hge:¬ ps.length<all.length:=by simp at hc0; omega
 refine au 542120 ?_;refine TK.virt 7 3 1 Z fun jt0 hjt0=>?_;refine au 1303128014223 ?_;refine bA [2,4,5,7,20,21,22] ?_;refine bC [(jr,_),(s,_),(a,_),(j,_),(jt0,_),(jb,_),(jr0,_)] ?_;refine bE (fun n env K=>∃ (i jt:Nat),n=ps.length - i/\i<=ps.length/\env=naL 2 (.ptr jb 0::.any::.ptr jr0 0::zF false::.any::.row jt i::naL 12 (.row jr ps.length::intA ps.length::intA i::naL 15 []))/\K=[(jr,.row (ps.flatMap wayC) 126 2),(s,zk b),(a,allO all),(j,.cells (l.map intA) et false),(jt,.row (((ps.map (·.2.2)).take i).map intA) 3 1),(jb,.cells (knownC b s h e a all.length) 137 true),(jr0,.cells [intA 0,intA 0] 68 true)]) ps.length ⟨0,jt0,rfl,mN _,rfl,rfl⟩ fun n env K hI hnext=>?_;obtain ⟨i,jt,rfl,hi,rfl,rfl⟩:=hI;refine bG nQ ?_;refine au 923742 ?_;constructor<;>intro hc1
 ·have hil:i<ps.length:=by simp at hc1; omega
  obtain ⟨p,hp⟩:∃ p,ps[i]? =some p:=⟨_,lA hil⟩;refine au 370421302120 ?_;refine bH Z (zI Z Z zd.h mQ (uG (c:=2) (f:=wayC) (fun _=>rfl) hp rfl dQ)) ?_;refine au 220 ?_;intro j9 hj9;refine au 690670143170 ?_;refine bI Z Z Z (zp (l:=[_]) Z zz.h TyZ.h dQ dQ Z) (fun _=>zn rfl tQ) fun j4 hj4=>?_;refine bO Z Z Z (a_app Z ApOf.h Z mQ (by simp; omega) Z (yp (ln:=[_]) mQ dQ sQ Z) oQ Z (by unfold maxLen; omega) oQ) (fun _=>uQ) (fun _=>zn rfl tQ) fun jt2=>?_;refine au 31230414035 ?_;refine bA [2,4,5,7,20,21,22] ?_;refine bC [(jr,_),(s,_),(a,_),(j,_),(jt2,_),(jb,_),(jr0,_)] ?_;exact hnext _ _ _ oQ ⟨i+1,jt2,rfl,oQ,rfl,by rw [yC (x:=p.2.2) (by rw [List.getElem?_map,hp]; rfl),lM]; rfl⟩
 obtain rfl:i=ps.length:=by simp at hc1; omega
 obtain ⟨x,xs,hxs⟩:∃ x xs,ps.map (·.2.2)=x::xs:=by
  cases hh:ps with
  | nil=>rw [hh] at hge; exact absurd h0 hge
  | cons y r=>exact ⟨_,_,rfl⟩
 have hxl:ps.length=xs.length+1:=by have:=congrArg List.length hxs; simpa using this
 rw [List.take_of_length_le sQ,hxs,hxl];refine au 2160 ?_;refine bL [0,1,2,3,4,5,6,7] ?_;refine ad [[1,7]] ?_;refine bT [32] Z (hq:=yZ Z Z Z zz.h (mC _) oQ oQ) (h:=?_);refine ad [[10,33],[1,7]] ?_;refine bT [35] Z (hq:=wV Z Z zz.h (mC _) Z Z oQ oQ Z) (h:=?_);refine bQ (pend':=[⟨3,[7],[]⟩,⟨1,[32],[(_,_)]⟩,⟨0,[7],[]⟩]) [34,36] Z Z Z Z Z (zdv hT (x:=x) (xs:=xs) (off:=1) (ob:=.row ((x::xs).map intA) 3 1) (fun i y hy=>kV (l:=x::xs) (i:=i+1) (by simpa using hy) oQ) oQ) (fun r5 K6 h7=>⟨?_,?_⟩)
 ·rcases h7 with ⟨rfl,rfl⟩
  all_goals simp
 obtain ⟨rfl,rfl⟩:=h7;try simp only [cA]
 refine bS tQ ?_;refine bR (pend':=[]) [4,37] Z Z (zB Z Z zd.h Z Z mQ Z) ?_;refine ad [[13],[14]] ?_;refine au 0 ?_;refine bB hret [(j,_),(s,_),(a,_)] ?_;have hlt:¬ (waysM b all l).length<all.length:=by rw [<- hpl]; exact hge
 exact ⟨by unfold sqLo sqHi sqOk squaresM; rw [if_neg hlt,<- hps,hxs]; rfl,rfl⟩
theorem zbA {main T} (hT:zm tp main T) {gm} {x:Int} :
  zq tp T gm 182 [intA x] [] (fun r K'=>r=zF false/\K'=[]):=by
 refine zl 6 hT Tryz.func182 fun Y hret=>?_;refine au 35711423542 ?_;refine TK.rta hret ?_;exact ⟨by simp,rfl⟩
theorem zhp {main T} (hT:zm tp main T) {gm} {x y:Int} :
  zq tp T gm 159 [intA x,intA y] [] (fun r K'=>r=intA (if x<y then -1 else if y<x then 1 else 0)/\K'=[]):=by
 refine zl 20 hT Tryz.func159 fun Y hret=>?_;refine au 1423542 ?_;refine TK.clE Z Z Z Z (zbA hT) ?_;refine au 14235 ?_;refine TK.clE Z Z Z Z (zbA hT) ?_;refine au 93142235 ?_;constructor<;>intro hc0
 ·cases hc0
 skip;refine au 931422120 ?_;constructor<;>intro hc2
 ·cases hc2
 refine au 93711422120 ?_;constructor<;>intro hc3
 ·refine au 3542 ?_;refine TK.rta hret ?_;exact ⟨by rw [if_pos (of_decide_eq_true hc3)],rfl⟩
 refine au 93711422120 ?_;constructor<;>intro hc4
 ·refine au 3542 ?_;refine TK.rta hret ?_;exact ⟨by rw [if_neg (of_decide_eq_false hc3),if_pos (of_decide_eq_true hc4)],rfl⟩
 refine au 3542120 ?_;refine TK.rta hret ?_;exact ⟨by rw [if_neg (of_decide_eq_false hc3),if_neg (of_decide_eq_false hc4)],rfl⟩
theorem zgF {main T} (hT:zm tp main T) {gm} {j j2:Nat} {xs ys:List Int} {e1 e2:TypeId} (hl:xs.length<=1000) :
  zq tp T gm 112 [.sl j 0 xs.length,.sl j2 0 ys.length] [(j,.cells (xs.map intA) e1 false),(j2,.cells (ys.map intA) e2 false)] (fun r K'=>r=intA (lexM xs ys)/\K'=[(j,.cells (xs.map intA) e1 false),(j2,.cells (ys.map intA) e2 false)]):=by
 refine zl 36 hT Tryz.func112 fun Y hret=>?_;refine au 1303128014223542 ?_;refine bA [0,1,4,9,10,11] ?_;refine bE (fun n env K=>∃ (i:Nat),n=xs.length - i/\i<=xs.length/\lexM (xs.drop i) (ys.drop i)=lexM xs ys/\env=.sl j 0 xs.length::.sl j2 0 ys.length::naL 2 (intA 0::naL 4 (.sl j 0 xs.length::intA xs.length::intA i::naL 24 []))/\K=[(j,.cells (xs.map intA) e1 false),(j2,.cells (ys.map intA) e2 false)]) xs.length ⟨0,rfl,mN _,rfl,rfl,rfl⟩ fun n env K hI hnext=>?_;obtain ⟨i,rfl,hi,hinv,rfl,rfl⟩:=hI;refine bG nQ ?_;refine au 923742 ?_;constructor<;>intro hc0
 ·have hil:i<xs.length:=by simp at hc0; omega
  refine au 3601421302120 ?_;refine bH Z (zg Z Z zd.h mQ (yn (i:=i) (z7 hil) Z)) ?_;refine au 93728011422355 ?_;constructor<;>intro hc1
  ·refine au 3542 ?_;refine bB hret [(j,_),(j2,_)] ?_;exact ⟨by rw [<- hinv,zN (z7 hil),show ys.drop i=[] from List.drop_eq_nil_of_le (by simp at hc1; omega)]; rfl,rfl⟩
  have hjl:i<ys.length:=by simp at hc1; omega
  refine au 3601142120 ?_;refine bH Z (zg Z Z zd.h mQ (yn (i:=i) (z7 hjl) Z)) ?_;refine au 114235 ?_;refine TK.clE Z Z Z Z (zhp hT) ?_;refine au 93714235 ?_;constructor<;>intro hc2
  ·refine au 35142 ?_;refine bB hret [(j,_),(j2,_)] ?_;exact ⟨by rw [<- hinv,zN (z7 hil),zN (z7 hjl)]; simp only [lexM]; split <;> (try rfl); split <;> (try rfl); simp_all,rfl⟩
  have hnl:¬ zK xs i<zK ys i:=fun hh=>by rw [if_pos hh] at hc2; simp at hc2
  have hng:¬ zK ys i<zK xs i:=fun hh=>by rw [if_neg hnl,if_pos hh] at hc2; simp at hc2
  refine au 312304140120 ?_;refine bA [0,1,4,9,10,11] ?_;refine bC [(j,_),(j2,_)] ?_;exact hnext _ _ _ oQ ⟨i+1,rfl,oQ,by rw [<- hinv,zN (z7 hil),zN (z7 hjl)]; simp only [lexM]; rw [if_neg hnl,if_neg hng],rfl,rfl⟩
 obtain rfl:i=xs.length:=by simp at hc0; omega
 refine au 93728012801422160 ?_;constructor<;>intro hc3
 ·refine au 3542 ?_;refine bB hret [(j,_),(j2,_)] ?_;exact ⟨by rw [<- hinv,List.drop_length]; simp at hc3; rw [zN (z7 (l:=ys) (k:=xs.length) oQ)]; rfl,rfl⟩
 refine au 3542120 ?_;refine bB hret [(j,_),(j2,_)] ?_;exact ⟨by rw [<- hinv,List.drop_length]; simp at hc3; rw [List.drop_eq_nil_of_le oQ]; rfl,rfl⟩
theorem u4 {main T} (hT:zm tp main T) {gm} {j j2:Nat} {xs ys:List Int} {e1 e2:TypeId} (hl:xs.length<=1000) :
  zq tp T gm 83 [.sl j 0 xs.length,.sl j2 0 ys.length] [(j,.cells (xs.map intA) e1 false),(j2,.cells (ys.map intA) e2 false)] (fun r K'=>r=zF (yw xs ys)/\K'=[(j,.cells (xs.map intA) e1 false),(j2,.cells (ys.map intA) e2 false)]):=by
 refine zl 23 hT Tryz.func83 fun Y hret=>?_;refine au 1728012801423542 ?_;refine bF 10 (fun g1_6=>?_) (fun g1_6=>?_)
 ·refine au 3526088888888888 ?_;refine bB hret [(j,_),(j2,_)] ?_;exact ⟨by simp at g1_6; simp [yw,g1_6],rfl⟩
 refine au 1728012801 ?_;refine bF 16 (fun g1_12=>?_) (fun g1_12=>?_)
 ·refine au 11 ?_;refine TK.clE Z Z Z Z (zgF hT hl) ?_;refine au 352502607 ?_;refine bB hret [(j,_),(j2,_)] ?_;exact ⟨by simp at g1_6 g1_12; unfold yw; rw [decide_eq_false (show ¬ xs.length<ys.length by omega),decide_eq_true (show xs.length=ys.length by omega)]; rfl,rfl⟩
 refine au 352502508888 ?_;refine bB hret [(j,_),(j2,_)] ?_;exact ⟨by simp at g1_6 g1_12; unfold yw; rw [decide_eq_false (show ¬ xs.length<ys.length by omega),decide_eq_false (show ¬ xs.length=ys.length by omega)]; rfl,rfl⟩
theorem zgz {main T} (hT:zm tp main T) {gm} {j j2:Nat} {xs ys:List Int} {e1 e2:TypeId} {p q:Int} (hl:xs.length<=1000) :
  zq tp T gm 74 [.agg [.sl j 0 xs.length,intA p],.agg [.sl j2 0 ys.length,intA q]] [(j,.cells (xs.map intA) e1 false),(j2,.cells (ys.map intA) e2 false)] (fun r K'=>r=zF (cheaperM (xs,p) (ys,q))/\K'=[(j,.cells (xs.map intA) e1 false),(j2,.cells (ys.map intA) e2 false)]):=by
 refine zl 24 hT Tryz.func74 fun Y hret=>?_;refine au 21042 ?_;intro jx1 hjx1;refine au 210 ?_;intro jx2 hjx2;refine au 176906706906704235 ?_;refine bF 10 (fun g1_6=>?_) (fun g1_6=>?_)
 ·refine au 35260888888888888 ?_;refine bB hret [(j,_),(j2,_)] ?_;exact ⟨by simp at g1_6; simp [cheaperM,g1_6],rfl⟩
 refine au 17690670690670 ?_;refine bF 16 (fun g1_12=>?_) (fun g1_12=>?_)
 ·refine au 690670690670 ?_;refine TK.clE Z Z Z Z (u4 hT hl) ?_;refine au 35250260 ?_;refine bB hret [(j,_),(j2,_)] ?_;exact ⟨by simp at g1_6 g1_12; simp [cheaperM,g1_12],rfl⟩
 refine au 3525025088888 ?_;refine bB hret [(j,_),(j2,_)] ?_;exact ⟨by simp at g1_6 g1_12; simp [cheaperM,g1_12]; omega,rfl⟩
theorem zci {main T} (hT:zm tp main T) {gm} {j j2:Nat} {xs ys:List Int} {e1 e2:TypeId} {p q:Int} (hl:xs.length<=1000) :
  zq tp T gm 75 [.agg [.sl j 0 xs.length,intA p],.agg [.sl j2 0 ys.length,intA q]] [(j,.cells (xs.map intA) e1 false),(j2,.cells (ys.map intA) e2 false)] (fun r K'=>r=zF (shorterM (xs,p) (ys,q))/\K'=[(j,.cells (xs.map intA) e1 false),(j2,.cells (ys.map intA) e2 false)]):=by
 refine zl 10 hT Tryz.func75 fun Y hret=>?_;refine au 21042 ?_;intro jx1 hjx1;refine au 210 ?_;intro jx2 hjx2;refine au 6906706906704235 ?_;refine TK.clE Z Z Z Z (u4 hT hl) ?_;refine au 35 ?_;refine bB hret [(j,_),(j2,_)] ?_;exact ⟨rfl,rfl⟩
end Go.Vel
namespace Go.Vel
open Go Go.Conc
theorem zbB:∀ (x y:List Int),lexM x y = -lexM y x
 | [],[]=>rfl
 | [],_::_=>rfl
 | _::_,[]=>rfl
 | a::x,b::y=>by
  have:=zbB x y;simp only [lexM];by_cases h1:a<b
  ·rw [if_pos h1,if_neg oQ,if_pos h1]
  ·rw [if_neg h1];by_cases h2:b<a
   ·rw [if_pos h2,if_pos h2]; rfl
   ·rw [if_neg h2,if_neg h2,if_neg h1,this]
theorem zep:∀ (x y:List Int),lexM x y=0->x=y
 | [],[],_=>rfl
 | [],_::_,h=>by cases h
 | _::_,[],h=>by cases h
 | a::x,b::y,h=>by
  simp only [lexM] at h;split at h
  ·cases h
  ·split at h
   ·cases h
   ·rw [show a=b by omega,zep x y h]
theorem zeo:∀ x:List Int,lexM x x=0
 | []=>rfl
 | a::x=>by simp only [lexM]; rw [if_neg oQ,if_neg oQ]; exact zeo x
theorem zdd:∀ (x y z:List Int),lexM x y<0->lexM y z<0->lexM x z<0
 | [],[],z,h,_=>by simp [lexM] at h
 | [],_::_,[],_,h=>by simp [lexM] at h
 | [],_::_,_::_,_,_=>by simp [lexM]
 | _::_,[],_,h,_=>by simp [lexM] at h
 | _::_,_::_,[],_,h=>by simp [lexM] at h
 | a::x,b::y,c::z,h1,h2=>by
  simp only [lexM] at h1 h2 ⊢;by_cases q1:a<b
  ·by_cases q2:b<c
   ·rw [if_pos oQ]; omega
   ·rw [if_neg q2] at h2;by_cases q3:c<b
    ·rw [if_pos q3] at h2; omega
    ·rw [if_pos oQ]; omega
  ·rw [if_neg q1] at h1;by_cases q4:b<a
   ·rw [if_pos q4] at h1; omega
   ·rw [if_neg q4] at h1;by_cases q2:b<c
    ·rw [if_pos oQ]; omega
    ·rw [if_neg q2] at h2;by_cases q3:c<b
     ·rw [if_pos q3] at h2; omega
     ·rw [if_neg q3] at h2;rw [if_neg oQ,if_neg oQ];exact zdd x y z h1 h2
theorem ko (x y:List Int):yw x y=true↔x.length<y.length\/(x.length=y.length/\lexM x y<0):=by
 unfold yw;simp
theorem zaj {x y z:List Int} (h1:yw x y=true) (h2:yw y z=true):yw x z=true:=by
 rw [ko] at *
 rcases h1 with h1 | ⟨h1,h3⟩ <;> rcases h2 with h2 | ⟨h2,h4⟩
 ·left; omega
 ·left; omega
 ·left; omega
 ·right; exact ⟨by omega,zdd x y z h3 h4⟩
theorem zbn (x y:List Int):x=y\/yw x y=true\/yw y x=true:=by
 by_cases h1:x.length<y.length
 ·right; left; rw [ko]; exact .inl h1
 ·by_cases h2:y.length<x.length
  ·right; right; rw [ko]; exact .inl h2
  ·have e:x.length=y.length:=by omega
   have ha:=zbB x y;by_cases h3:lexM x y=0
   ·exact .inl (zep x y h3)
   ·by_cases h4:lexM x y<0
    ·right; left; rw [ko]; exact .inr ⟨e,h4⟩
    ·right; right; rw [ko]; exact .inr ⟨e.symm,oQ⟩
theorem zaJ {x y:List Int} (h:yw x y=true):yw y x=false:=by
 cases h2:yw y x with
 | false=>rfl
 | true =>
  rw [ko] at h h2;have:=zbB x y;omega
theorem kZ (p q:List Int×Int):cheaperM p q=true↔p.2<q.2\/(p.2=q.2/\yw p.1 q.1=true):=by
 unfold cheaperM;simp
theorem zdC (p q r:List Int×Int) (h1:cheaperM p q=true) (h2:cheaperM q r=true):cheaperM p r=true:=by
 rw [kZ] at *
 rcases h1 with h1 | ⟨h1,h3⟩ <;> rcases h2 with h2 | ⟨h2,h4⟩
 ·left; omega
 ·left; omega
 ·left; omega
 ·right; exact ⟨by omega,zaj h3 h4⟩
theorem zfl (p q:List Int×Int):p=q\/cheaperM p q=true\/cheaperM q p=true:=by
 by_cases h1:p.2<q.2
 ·right; left; rw [kZ]; exact .inl h1
 ·by_cases h2:q.2<p.2
  ·right; right; rw [kZ]; exact .inl h2
  ·rcases zbn p.1 q.1 with h | h | h
   ·left; exact Prod.ext h oQ
   ·right; left; rw [kZ]; exact .inr ⟨by omega,h⟩
   ·right; right; rw [kZ]; exact .inr ⟨by omega,h⟩
theorem zai (p q r:List Int×Int) (h1:shorterM p q=true) (h2:shorterM q r=true):shorterM p r=true:=zaj h1 h2
theorem zdH {b:RBk} (hb:ROk b) {l:List Int} (hl:CutsOk b l):∀ (o:List Int) (z:Alloc),(∀ k∈o,0<=k/\k<l.length)->0<=z.left->(∀ k,0<=z.steps.getD k 0/\z.steps.getD k 0<=9)->∀ k,0<=(o.foldl (allocM b l) z).steps.getD k 0/\(o.foldl (allocM b l) z).steps.getD k 0<=9
 | [],z,_,_,h=>h
 | k0::o,z,ho,hz,h=>by
  rw [List.foldl_cons];have h0:=ho k0 sQ;have hf:=hb.sms.fld _ (hl.lt (k:=k0.toNat) oQ).2.2;have key:∀ (v:Int),0<=v->v<=9->∀ k,0<=(z.steps.set k0.toNat v).getD k 0/\(z.steps.set k0.toNat v).getD k 0<=9:=fun v h1 h2 k=>by
   have hk:=h k;rw [lE] at hk;rw [lE,List.getElem?_set];split
   ·split
    ·simp only [Option.getD_some]; omega
    ·simp
   ·exact hk
  refine zdH hb hl o _ (fun k hk=>ho k (by simp [hk])) ?_ (key (min z.left (sm b (zK l k0.toNat).toNat).most) oQ oQ);show 0<=z.left - min z.left (sm b (zK l k0.toNat).toNat).most;omega
end Go.Vel
end
