/- Texts for the statements of chapter 9: what all of them need, part 8. It holds of every program, tape and world that the statements name, as each theorem says. -/
import Derived.Test.YtcddfkgckelhiaaGreatDoorT3
import Derived.Test.YtcddfkgckelhiaaGreatDoorT4
import Derived.Test.YtcddfkgckelhiaaGreatDoorT5
import Derived.Test.YtcddfkgckelhiaaGreatDoorT6
section
set_option linter.all false
set_option maxRecDepth 20000
set_option maxHeartbeats 60000000
open Go.Proofs.Tryz renaming prog -> tp
open List renaming getElem?_eq_getElem -> lA, nil_append -> lC, getElem?_eq_some_iff -> lD, getD_eq_getElem?_getD -> lE, length_append -> lF, perm_append_comm -> lH, mem_cons -> lI, length_map -> lJ, eq_nil_of_length_eq_zero -> lK, mem_cons_of_mem -> lL, map_append -> lM, mem_of_getElem? -> lN, getElem?_map -> lQ, append_nil -> lR, mem_singleton -> lS, mem_append -> lT, mem_append_left -> lV, take_length -> lW, getElem?_set -> lX, mem_map -> lY, length_cons -> lZ
open List.Mem renaming head -> mC
open Nat renaming le_refl -> mL, zero_le -> mN, zero_add -> mO, le_trans -> mT
open Bool renaming and_eq_true -> mX
open Int renaming toNat_natCast -> mZ
open Go.Vel.TK renaming maskL -> bA, rt -> bB, kp -> bC, cl -> bD, loopN -> bE, sp -> bF, a -> bH, newR -> bI, dq -> bL, perm -> bN
open Go.Vel.TD renaming y -> bT, z -> bU
namespace Go.Vel
open Go Go.Conc Go.Proofs
def zSl:List AV:=[intA 0,intA 0,intA 0,intA 0,intA 0,.v (.slice none 0 0),intA 0,intA 0,intA 0,intA 0,.v (.slice none 0 0),.v (.slice none 0 0),.v (.slice none 0 0)]
instance:ApOf tp 70 291 2 16:={}
instance:ApOf tp 71 293 2 16:={}
instance:ApOf tp 72 76 3 24:={}
instance:BlOf tp 74 [(0,1),(1,1),(2,1),(3,2),(5,1),(6,2),(8,2),(10,1),(11,1),(12,1)]:={}
instance:Cal tp 162:={}
instance:Cal tp 163:={}
instance:Cal tp 164:={}
instance:Cal tp 165:={}
instance:Cal tp 166:={}
instance:Cal tp 85:={}
instance:Cal tp 86:={}
instance:Cal tp 87:={}
instance:TyZ tp 291 [.int .i64 0,.int .i64 0]:={}
instance:TyZ tp 293 [.int .i64 0,.int .i64 0]:={}
instance:TyZ tp 74 [.int .i64 0,.int .i64 0,.int .i64 0,.int .i64 0,.int .i64 0,.slice none 0 0,.int .i64 0,.int .i64 0,.int .i64 0,.int .i64 0,.slice none 0 0,.slice none 0 0,.slice none 0 0]:={}
instance:TyZ tp 76 [.int .i64 0,.int .i64 0,.bool false]:={}
instance:TyZA tp 74 [.v (.int .i64 0),.v (.int .i64 0),.v (.int .i64 0),.v (.int .i64 0),.v (.int .i64 0),.v (.slice none 0 0),.v (.int .i64 0),.v (.int .i64 0),.v (.int .i64 0),.v (.int .i64 0),.v (.slice none 0 0),.v (.slice none 0 0),.v (.slice none 0 0)]:={}
section
variable {P:Program} {gm:Nat->Option Nat} {T:Goroutine->Hp->Prop} {Y:KX P gm T} {ds:List Nat} {kk:List Item} {env env':List AV} {K:KV} {ops:Array Oper} {i:Nat} {o:Oper} {pend pend':List Pd} {L':List Nat} {r:AV}
theorem TD.putN {t:TypeId} {x y z:Operand} {j born:Nat} {k:Int×Int} {ob:Obj} {L:List (Int×Int)} {K':Obj->KV} (s:List Nat) (ho:ops[i]? =some o) (hop:o.op=.entryStore t x y z) (hd:yc o.op=false) (hdst:o.dst=none) (hw:yd ops (onl s env) o=some true) (hp':pendOf ops i pend=pend') (hc:chkC ops pend' L' s i o.dst=true) (hx:zr gm (onl s env) x=some (.map j)) (hy:zr gm (onl s env) y=some (intA born)) (hz:zr gm (onl s env) z=some (intA (L.count k+1:Nat))) (hm:(j,.raw ob)∈K) (hf:MapE ob L k born) (hu:∀ ob',Upd K j (.raw ob) j (.raw ob') (K' ob')) (hv:∀ ob',∀ p∈pend',∀ x∈p.V,x∈K' ob')
  (h:∀ ob',MapN ob' (L++[k])->TD Y ds ops kk pend' L' env (K' ob')):TD Y ds ops kk pend (i::L') env K:=by
 obtain ⟨ob',h1,h2⟩:=zm0 hop hx hy hz hm hf;exact TD.cst s ho hd hw hp' hc h2 (hu ob') (by rw [hdst]; rfl) (hv ob') (h ob' h1)
end
theorem zbd {α:Type} {l:List α} {i:Nat} {y:α} (h:l[i]? =some y):l.take (i+1)=l.take i++[y]:=by rw [List.take_add_one,h]; rfl
def wordI (n m:Int):Int:=if n=m then 1 else if n=0 then 2 else 0
def zKn:List AV:=[intA 0,intA 0,intA 0,intA 0,intA 0,.v (.slice none 0 0),intA 0,intA 0,intA 0,intA 0,.v (.slice none 0 0),.v (.slice none 0 0),.v (.slice none 0 0)]++[.v (.slice none 0 0),.v (.map none)]
instance:BlOf tp 190 [(0,13),(13,1),(14,1)]:={}
instance:BlOf tp 196 [(0,1),(1,1)]:={}
instance:Cal tp 167:={}
instance:Cal tp 169:={}
instance:Cal tp 89:={}
instance:zl tp 190 0 0 true 13:={}
instance:zl tp 190 1 13 false 1:={}
instance:zl tp 190 2 14 false 1:={}
instance:zd tp 188 false 1:={}
instance:zd tp 190 true 15:={}
instance:TyZ tp 190 [.int .i64 0,.int .i64 0,.int .i64 0,.int .i64 0,.int .i64 0,.slice none 0 0,.int .i64 0,.int .i64 0,.int .i64 0,.int .i64 0,.slice none 0 0,.slice none 0 0,.slice none 0 0,.slice none 0 0,.map none]:={}
instance:TyZ tp 196 [.int .i64 0,.int .i64 0]:={}
instance:TyZA tp 190 [.v (.int .i64 0),.v (.int .i64 0),.v (.int .i64 0),.v (.int .i64 0),.v (.int .i64 0),.v (.slice none 0 0),.v (.int .i64 0),.v (.int .i64 0),.v (.int .i64 0),.v (.int .i64 0),.v (.slice none 0 0),.v (.slice none 0 0),.v (.slice none 0 0),.v (.slice none 0 0),.v (.map none)]:={}
instance:Und tp 187 (.slice 303):={}
def mkC (m:MkR):List AV:=[.v (.string m.what),intA m.col,intA m.row]
def skC (p:Nat×SkT):List AV:=[.v (.string p.2.name),intA p.2.flo,intA p.2.fhi,intA p.2.wide,intA p.2.slo,intA p.2.shi,.sl p.1 0 p.2.marks.length]
def stpC (st wr:Int) (g:Nat) (Zq:List (Nat×SkT)):List AV:=[intA st,intA wr,.sl g 0 Zq.length]
abbrev mkO (x:SkT):AObj:=.cells (x.marks.flatMap mkC) 328 false
abbrev skO (Zq:List (Nat×SkT)):AObj:=.cells (Zq.flatMap skC) 160 false
def mkK (Zq:List (Nat×SkT)):KV:=Zq.map fun p=>(p.1,mkO p.2)
def skB (st wr:Int) (Zq:List (Nat×SkT)):StpB:=⟨st,wr,Zq.map (·.2)⟩
structure SkOk (steps:Int) (x:SkT):Prop where
 nam:isNameM x.name=true
 fr:0<=x.flo/\x.flo<=x.fhi/\x.fhi<=steps - 1/\x.fhi - x.flo<3
 wd:1<=x.wide/\x.wide<=steps
 se : -3<=x.slo/\x.slo<=x.shi/\x.shi<=3/\x.shi - x.slo<3
 nm:x.marks.length<=4
 mks:∀ m∈x.marks,isNameM m.what=true/\0<=m.col/\m.col<=x.wide - 1 /\ -9<=m.row/\m.row<=9
 two:x.marks.Pairwise fun m n=>m.what.toList≠n.what.toList
def waysX (x:SkT):Int:=(x.fhi - x.flo+1)*(x.shi - x.slo+1)
def waysI:List SkT->Int->Int
 | [],n=>n
 | x::l,n=>waysI l (n*waysX x)
structure StpOk (b:StpB):Prop where
 st:4<=b.steps/\b.steps<=24
 wr:0<=b.wrong/\b.wrong<=2
 ns:1<=b.sks.length/\b.sks.length<=4
 sk:∀ x∈b.sks,SkOk b.steps x
 two:b.sks.Pairwise fun x y=>x.name.toList≠y.name.toList
 wy:waysI b.sks 1<=200
theorem z_len (Zq:List (Nat×SkT)):(Zq.map (·.2)).length=Zq.length:=lJ ..
theorem zOk {st wr:Int} {Zq:List (Nat×SkT)} (hb:StpOk (skB st wr Zq)) {i:Nat} {p:Nat×SkT} (h:Zq[i]? =some p):SkOk st p.2:=hb.sk _ (lY.2 ⟨p,lN h,rfl⟩)
theorem zN {st wr:Int} {Zq:List (Nat×SkT)} (hb:StpOk (skB st wr Zq)):1<=Zq.length/\Zq.length<=4:=by
 have:=hb.ns;rwa [show (skB st wr Zq).sks.length=Zq.length from z_len Zq] at this
theorem sk_at {Zq:List (Nat×SkT)} {i:Nat} {n:Int} {p:Nat×SkT} {e:TypeId} {rw':Bool} (h:Zq[i]? =some p) (hn:n=(i:Int)):zZ (.cells (Zq.flatMap skC) e rw') (0+n.toNat*7) 7=some (skC p):=fl_at (c:=7) (fun _=>rfl) h hn dQ
theorem mk_at {x:SkT} {i:Nat} {n:Int} {m:MkR} {e:TypeId} {rw':Bool} (h:x.marks[i]? =some m) (hn:n=(i:Int)):zZ (.cells (x.marks.flatMap mkC) e rw') (0+n.toNat*3) 3=some (mkC m):=fl_at (c:=3) (fun _=>rfl) h hn dQ
theorem zaW {Zq:List (Nat×SkT)} {i:Nat} {p:Nat×SkT} (h:Zq[i]? =some p):(p.1,mkO p.2)∈mkK Zq:=lY.2 ⟨p,lN h,rfl⟩
def MksAt (ob:AObj) (off:Nat) (xs:List MkR):Prop:=∀ (i:Nat) (h:i<xs.length),zZ ob (off+(i:Int).toNat*3) 3=some (mkC xs[i])
theorem zkC (x:SkT) (i:Nat):MksAt (mkO x) 0 (x.marks.take i):=fun k h=>by
 rw [List.length_take] at h;rw [List.getElem_take];exact mk_at (lA oQ) rfl
theorem zm6 {x:SkT} {g i:Nat} (h:i<=x.marks.length):subA g 0 3 0 ((i:Int).toNat)=.sl g 0 (x.marks.take i).length:=by
 rw [List.length_take,Nat.min_eq_left h];rfl
theorem zms {l:List MkR} (hp:l.Pairwise fun m n=>m.what.toList≠n.what.toList) {i:Nat} {m:MkR} (hx:l[i]? =some m):((l.take i).any fun o=>o.what.toList==m.what.toList)=false:=by
 rw [List.any_eq_false];intro o ho;obtain ⟨k,hk,rfl⟩:=List.getElem_of_mem ho;rw [List.length_take] at hk;obtain ⟨h1,h2⟩:=lD.1 hx;have:=List.pairwise_iff_getElem.1 hp k i oQ h1 oQ;rw [List.getElem_take];rw [h2] at this;intro he;exact this (by simpa using he)
theorem zkD {st wr:Int} {Zq:List (Nat×SkT)} (hb:StpOk (skB st wr Zq)) {i:Nat} {p:Nat×SkT} (hx:Zq[i]? =some p):∀ q∈Zq.take i,q.2.name≠p.2.name:=fun q hq=>by
 obtain ⟨k,hk,rfl⟩:=List.getElem_of_mem hq;rw [List.length_take] at hk;obtain ⟨h1,h2⟩:=lD.1 hx;have h3:(Zq.map (·.2)).Pairwise fun x y=>x.name.toList≠y.name.toList:=hb.two;have:=List.pairwise_iff_getElem.1 h3 k i (by rw [z_len]; omega) (by rw [z_len]; exact h1) oQ;rw [List.getElem_map,List.getElem_map,h2] at this;rw [List.getElem_take];exact fun e=>this (congrArg ByteArray.toList e)
def namesL (Zq:List (Nat×SkT)) (i:Nat):List (ByteArray×Value):=(Zq.take i).map fun p=>(p.2.name,Value.bool true)
theorem zkE {Zq:List (Nat×SkT)} {i:Nat} {p:Nat×SkT} (h:Zq[i]? =some p):namesL Zq (i+1)=namesL Zq i++[(p.2.name,.bool true)]:=by
 unfold namesL;rw [zbd h,lM]; rfl
theorem zcI {st wr:Int} {Zq:List (Nat×SkT)} (hb:StpOk (skB st wr Zq)) {i:Nat} {p:Nat×SkT} (hx:Zq[i]? =some p) {v:Value} (h:(p.2.name,v)∈namesL Zq i):False:=by
 obtain ⟨q,hq,e⟩:=lY.1 h;exact zkD hb hx q hq (congrArg Prod.fst e)
theorem ziV {st wr:Int} {Zq:List (Nat×SkT)} (hb:StpOk (skB st wr Zq)) {i:Nat} {p:Nat×SkT} (hx:Zq[i]? =some p) {r:Option (Nat×Value)} (h:FoundB p.2.name (namesL Zq i) 0 r):setB (namesL Zq i) p.2.name (.bool true) r=namesL Zq (i+1):=by
 cases r with
 | none=>exact (zkE hx).symm
 | some z =>
  obtain ⟨q,v⟩:=z;obtain ⟨j,_,h2⟩:=h;exact (zcI hb hx (lN h2)).elim
theorem zjR {l:List SkT} {i:Nat} {x:SkT} {n:Int} (h:l[i]? =some x):waysI (l.take (i+1)) n=waysI (l.take i) n*waysX x:=by
 induction l generalizing i n with
 | nil=>simp at h
 | cons y l ih =>
  cases i with
  | zero=>cases h; rfl
  | succ i=>exact ih (i:=i) (n:=n*waysX y) h
theorem ug {st:Int} {x:SkT} (h:SkOk st x):1<=waysX x/\waysX x<=9:=by
 have h1:=h.fr;have h2:=h.se;unfold waysX;have a1:x.fhi - x.flo=0\/x.fhi - x.flo=1\/x.fhi - x.flo=2:=by omega
 have a2:x.shi - x.slo=0\/x.shi - x.slo=1\/x.shi - x.slo=2:=by omega
 rcases a1 with e1 | e1 | e1 <;> rcases a2 with e2 | e2 | e2 <;> rw [e1,e2] <;> decide
theorem zdE {st:Int}:∀ {l:List SkT} (n:Int),(∀ x∈l,SkOk st x)->1<=n->1<=waysI l n/\waysI l n<=n*9 ^ l.length
 | [],n,_,h=>⟨h,by simp [waysI]⟩
 | x::l,n,hl,h=>by
  have hx:=ug (hl x sQ);have h1:1<=n*waysX x:=by have:=Int.mul_le_mul h hx.1 dQ oQ; simpa using this
  have h2:=zdE (n*waysX x) (fun y hy=>hl y (lL _ hy)) h1;refine ⟨h2.1,Int.le_trans h2.2 ?_⟩;rw [lZ,Int.pow_succ,Int.mul_comm (9 ^ l.length) 9,<- Int.mul_assoc];exact Int.mul_le_mul_of_nonneg_right (Int.mul_le_mul_of_nonneg_left hx.2 oQ) (Int.pow_nonneg dQ)
theorem zeJ {st:Int} {l:List SkT} (hl:∀ x∈l,SkOk st x) {i:Nat} (h:i<=4):1<=waysI (l.take i) 1/\waysI (l.take i) 1<=6561:=by
 have h1:=zdE (l:=l.take i) 1 (fun x hx=>hl x (List.mem_of_mem_take hx)) dQ;refine ⟨h1.1,Int.le_trans h1.2 ?_⟩;have h2:(l.take i).length<=4:=by rw [List.length_take]; omega
 have h3:(l.take i).length=0\/(l.take i).length=1\/(l.take i).length=2\/(l.take i).length=3\/(l.take i).length=4:=by omega
 rcases h3 with e | e | e | e | e <;> rw [e] <;> decide
theorem zlW {a x:Nat×AObj} {L R:KV} (h:Rem L x R):(a::L).Perm ([x,a]++R):=(List.Perm.cons _ h.perm).trans (List.Perm.swap _ _ _)
def spChecksG:AObj:=.cells [.fn 304 [] [],.fn 305 [] [],.fn 306 [] []] 330 false
instance:ArEl tp 330 3 329 false 1:={}
instance:BlOf tp 163 [(0,3)]:={}
instance:Cal tp 157:={}
instance:Cal tp 304:={}
instance:Cal tp 305:={}
instance:Cal tp 306:={}
instance:Cal tp 307:={}
instance:Cal tp 308:={}
instance:Cal tp 309:={}
instance:Cal tp 310:={}
instance:Cal tp 311:={}
instance:Cal tp 312:={}
instance:zl tp 160 0 0 false 1:={}
instance:zl tp 160 1 1 true 2:={}
instance:zl tp 160 2 3 false 1:={}
instance:zl tp 160 3 4 true 2:={}
instance:zl tp 160 4 6 false 1:={}
instance:zl tp 163 0 0 true 3:={}
instance:zl tp 328 0 0 false 1:={}
instance:zl tp 328 1 1 false 1:={}
instance:zl tp 328 2 2 false 1:={}
instance:zl tp 57 0 0 false 1:={}
instance:zl tp 57 1 1 false 1:={}
instance:zl tp 57 2 2 false 1:={}
instance:SlEl tp 158 328 3:={}
instance:SlEl tp 55 160 7:={}
instance:zd tp 158 false 1:={}
instance:zd tp 160 true 7:={}
instance:zd tp 328 true 3:={}
instance:zd tp 330 true 3:={}
instance:zd tp 55 false 1:={}
instance:zd tp 57 true 3:={}
instance:TyZ tp 163 [.int .i64 0,.int .i64 0,.slice none 0 0]:={}
instance:TyZA tp 160 [.v (.string ⟨#[]⟩),.v (.int .i64 0),.v (.int .i64 0),.v (.int .i64 0),.v (.int .i64 0),.v (.int .i64 0),.v (.slice none 0 0)]:={}
instance:TyZA tp 328 [.v (.string ⟨#[]⟩),.v (.int .i64 0),.v (.int .i64 0)]:={}
instance:Und tp 158 (.slice 328):={}
instance:Und tp 422 (.map 9 4):={}
instance:Und tp 55 (.slice 160):={}
theorem kJ {main T} (hT:zh tp main T) {gm} {n lo hi:Int} :
  zg tp T gm 157 [intA n,intA lo,intA hi] [] (fun r K'=>r=zm (decide (lo<=n)&&decide (n<=hi))/\K'=[]):=by
 refine ze 15 hT Tryz.func157 fun Y hret=>?_;refine au 1711423542 ?_;refine bF 10 (fun g1_4=>?_) (fun g1_4=>?_)
 ·refine au 35260711 ?_;refine TK.rta hret ?_;exact ⟨by simp [zm, *],rfl⟩
 refine au 35250888 ?_;refine TK.rta hret ?_;exact ⟨by simp [zm, *],rfl⟩
theorem zev {main T} (hT:zh tp main T) {gm} {x y lo hi many:Int} (hx : -1000<=x/\x<=1000 /\ -1000<=y/\y<=1000) (h:lo<=x/\x<=y/\y<=hi/\y - x<many) :
  zg tp T gm 308 [.agg [intA x,intA y],intA lo,intA hi,intA many] [] (fun r K'=>r=zm true/\K'=[]):=by
 refine ze 35 hT Tryz.func308 fun Y hret=>?_;refine au 21042 ?_;intro j1 hj1;refine au 1769067014235 ?_;refine bF 13 (fun g1_5=>?_) (fun g1_5=>?_)
 ·refine au 12607690670690670 ?_;refine bF 20 (fun g1_12=>?_) (fun g1_12=>?_)
  ·refine au 126071690670 ?_;refine bF 26 (fun g1_18=>?_) (fun g1_18=>?_)
   ·refine au 3526071240690670690670 ?_;refine bB hret [] ?_;exact ⟨by simp [zm, *],rfl⟩
   simp at g1_18; omega
  simp at g1_12; omega
 simp at g1_5; omega
theorem zgC {main T} (hT:zh tp main T) {gm} {c:UInt8} :
  zg tp T gm 311 [.v (.int .u8 c.toNat)] [] (fun r K'=>r=zm (decide ((97:Int)<=c.toNat)&&decide ((c.toNat:Int)<=122))/\K'=[]):=by
 refine ze 9 hT Tryz.func311 fun Y hret=>?_;refine au 171423542 ?_;refine bF 5 (fun g1_3=>?_) (fun g1_3=>?_)
 ·refine au 3526071 ?_;refine TK.rta hret ?_;exact ⟨by simp [zm, *],rfl⟩
 refine au 3525088 ?_;refine TK.rta hret ?_;exact ⟨by simp [zm, *],rfl⟩
theorem zex {main T} (hT:zh tp main T) {gm} {s:ByteArray} (hn:isNameM s=true) :
  zg tp T gm 307 [.v (.string s)] [] (fun r K'=>r=zm true/\K'=[]):=by
 refine ze 34 hT Tryz.func307 fun Y hret=>?_;refine au 0 ?_;obtain ⟨hby,hsz⟩:=Bool.and_eq_true_iff.1 (show (bytesOk s s.size&&(decide (1<=(s.size:Int))&&decide ((s.size:Int)<=12)))=true from hn);have hsz2:1<=s.size/\s.size<=12:=by simp at hsz; omega
 refine au 13031290142235423542 ?_;refine bA [0,3,7,8] ?_;refine bE (fun n env K=>∃ (i:Nat),n=s.size - i/\i<=s.size/\env=zJ 34 [(0,.v (.string s)),(3,.fn 311 [] []),(7,intA s.size),(8,intA i)]/\K=[]) (s.size) ⟨0,rfl,mN _,rfl,rfl⟩ fun n env K hI hnext=>?_;obtain ⟨i,rfl,hi,rfl,rfl⟩:=hI;refine au 923742 ?_;refine ⟨fun hc=>?_,fun hc=>?_⟩
 ·simp only [decide_eq_true_eq] at hc;have hil:i<s.data.size:=by have:s.data.size=s.size:=rfl; omega
  obtain ⟨cb,hcb⟩:∃ cb,s.data[i]? =some cb:=⟨_,Array.getElem?_eq_getElem hil⟩;have hbo:=zhk hby (show i<s.size from hil) hcb;have hcs:s[(i:Int).toNat]? =some cb:=hcb;refine au 1142351421302120 ?_;refine bH Z (zah Z Z Z Und.h oQ hcs) ?_;refine au 114235 ?_;refine bD Z Z Z Z (zgC hT (c:=cb)) ?_;rintro r1 K2 ⟨rfl,rfl⟩;refine au 1300 ?_;refine bF 18 (fun g6_5=>?_) (fun g6_5=>?_)
  ·refine au 171 ?_;refine bF 21 (fun g6_8=>?_) (fun g6_8=>?_)
   ·exact absurd hbo (by rw [zaE g6_5 g6_8]; decide)
   refine au 125071 ?_;refine bF 25 (fun g6_12=>?_) (fun g6_12=>?_)
   ·exact absurd hbo (by rw [vd g6_5 g6_8]; simp at g6_12 ⊢; omega)
   refine au 9326025071 ?_;constructor<;>intro hc1
   ·exact absurd hbo (by rw [vd g6_5 g6_8]; simp at hc1 ⊢; omega)
   refine au 312304140120 ?_;refine bA [0,3,7,8] ?_;exact hnext _ _ _ oQ ⟨i+1,rfl,oQ,rfl,rfl⟩
  refine au 31230414012019032508888888888 ?_;refine bA [0,3,7,8] ?_;exact hnext _ _ _ oQ ⟨i+1,rfl,oQ,rfl,rfl⟩
 simp only [decide_eq_false_iff_not] at hc;obtain rfl:i=s.size:=by omega
 refine au 290142160 ?_;refine bD Z Z Z Z (kJ hT) ?_;rintro r4 K5 ⟨rfl,rfl⟩;refine au 35 ?_;refine bB hret [] ?_;exact ⟨by rw [hsz],rfl⟩
theorem zfZ {main T} (hT:zh tp main T) {gm} {st wr:Int} {g:Nat} {Zq:List (Nat×SkT)} (hb:StpOk (skB st wr Zq)) :
  zg tp T gm 304 [.agg (stpC st wr g Zq)] [] (fun r K'=>r=intA 0/\K'=[]):=by
 refine ze 21 hT Tryz.func304 fun Y hret=>?_;refine au 0 ?_;have h1:4<=st/\st<=24:=hb.st;have h2:0<=wr/\wr<=2:=hb.wr;have h3:=zN hb;refine au 21042 ?_;intro jb hjb;refine au 69067067042235 ?_;refine bD Z Z Z Z (kJ hT) ?_;rintro r1 K2 ⟨rfl,rfl⟩;refine au 1300 ?_;refine bF 8 (fun g1_6=>?_) (fun g1_6=>?_)
 ·simp at g1_6; omega
 refine au 690670670 ?_;refine bD Z Z Z Z (kJ hT) ?_;rintro r4 K5 ⟨rfl,rfl⟩;refine au 93250300 ?_;constructor<;>intro hc0
 ·simp at hc0; omega
 refine au 280690670670422120 ?_;refine bD Z Z Z Z (kJ hT) ?_;rintro r7 K8 ⟨rfl,rfl⟩;refine au 93300 ?_;constructor<;>intro hc1
 ·simp at hc1; omega
 refine au 3542120 ?_;refine bB hret [] ?_;exact ⟨rfl,rfl⟩
theorem zhD {main T} (hT:zh tp main T) {gm} {j off:Nat} {ob:AObj} {xs:List MkR} {p:MkR->Bool} {g:FuncId} {cp:List AV} {Kc:KV} (hg:ym tp g=true) (hp:∀ x∈xs,zg tp T gm g ([.agg (mkC x)]++cp) Kc (fun r K'=>r=zm (p x)/\K'=Kc)) (hI:MksAt ob off xs) (hl:xs.length<=1000) :
  zg tp T gm 312 [.sl j off xs.length,.fn g [] cp] ((j,ob)::Kc) (fun r K'=>(∃ n:Int,r=intA n/\decide (n>=0)=xs.any p)/\K'=(j,ob)::Kc):=by
 refine ze 19 hT Tryz.func312 fun Y hret=>?_;refine au 1303128014223542 ?_;refine bA [0,1,7,8] ?_;refine bE (fun n env K=>∃ (i:Nat),n=xs.length - i/\i<=xs.length/\(xs.take i).any p=false/\env=zJ 19 [(0,.sl j off xs.length),(1,.fn g [] cp),(7,intA xs.length),(8,intA i)]/\K=(j,ob)::Kc) xs.length ⟨0,rfl,mN _,by simp,rfl,rfl⟩ fun n env K hI' hnext=>?_;obtain ⟨i,rfl,hi,hn,rfl,rfl⟩:=hI';refine au 923742 ?_;refine ⟨fun hc=>?_,fun hc=>?_⟩
 ·simp only [decide_eq_true_eq] at hc;have hil:i<xs.length:=by omega
  refine au 36011142351421302120 ?_;refine bH Z (zK Z Z zd.h mQ (hI i hil)) ?_;refine bD Z Z Z Z (hp xs[i] (List.getElem_mem _)) ?_ (hs:=(.right (.all _))) (hg:=hg);rintro r1 K2 ⟨rfl,hK⟩;refine au 0 ?_;rw [hK];refine bN (K':=(j,ob)::Kc) (List.perm_append_singleton _ _) ?_;refine au 93 ?_;constructor<;>intro hc1
  ·refine au 35142 ?_;refine TK.rta hret ?_;exact ⟨⟨i,rfl,by rw [decide_eq_true (Int.natCast_nonneg i),List.any_eq_true.2 ⟨xs[i],List.getElem_mem _,hc1⟩]⟩,rfl⟩
  refine au 312304140120 ?_;refine bA [0,1,7,8] ?_;exact hnext _ _ _ oQ ⟨i+1,rfl,oQ,zdb hil hn hc1,rfl,rfl⟩
 simp only [decide_eq_false_iff_not] at hc;obtain rfl:i=xs.length:=by omega
 refine au 3542160 ?_;refine TK.rta hret ?_;rw [lW] at hn;exact ⟨⟨-1,rfl,by rw [hn]; rfl⟩,rfl⟩
theorem zeP {main T} (hT:zh tp main T) {gm} {j off:Nat} {ob:AObj} {xs:List MkR} {p:MkR->Bool} {g:FuncId} {cp:List AV} {Kc:KV} (hg:ym tp g=true) (hp:∀ x∈xs,zg tp T gm g ([.agg (mkC x)]++cp) Kc (fun r K'=>r=zm (p x)/\K'=Kc)) (hI:MksAt ob off xs) (hl:xs.length<=1000) :
  zg tp T gm 309 [.sl j off xs.length,.fn g [] cp] ((j,ob)::Kc) (fun r K'=>r=zm (xs.any p)/\K'=(j,ob)::Kc):=by
 refine ze 9 hT Tryz.func309 fun Y hret=>?_;refine au 11423542 ?_;refine bD Z Z Z Z (zhD hT hg hp hI hl) ?_ (hs:=(.all _));rintro r1 K2 ⟨⟨m,rfl,hm⟩,hK⟩;refine au 0 ?_;rw [hK,lR];refine au 357 ?_;refine TK.rta hret ?_;exact ⟨by rw [<- hm]; rfl,rfl⟩
theorem zgz {main T} (hT:zh tp main T) {gm} {x y:MkR} {jy:Nat} {e:TypeId} :
  zg tp T gm 310 [.agg (mkC x),.ptr jy 0] [(jy,.cells (mkC y) e true)] (fun r K'=>r=zm (x.what.toList==y.what.toList)/\K'=[(jy,.cells (mkC y) e true)]):=by
 refine ze 9 hT Tryz.func310 fun Y hret=>?_;refine au 21042 ?_;intro j1 hj1;refine au 353306906706906704235 ?_;refine bB hret [(jy,_)] ?_;exact ⟨rfl,rfl⟩
theorem zh2 {main T} (hT:zh tp main T) {gm} {st wr:Int} {g:Nat} {Zq:List (Nat×SkT)} (hb:StpOk (skB st wr Zq)) :
  zg tp T gm 305 [.agg (stpC st wr g Zq)] ((g,skO Zq)::mkK Zq) (fun r K'=>r=intA 0/\K'=(g,skO Zq)::mkK Zq):=by
 refine ze 95 hT Tryz.func305 fun Y hret=>?_;refine au 0 ?_;have h1:4<=st/\st<=24:=hb.st;have h3:=zN hb;refine au 21042 ?_;intro jb hjb;refine au 4235 ?_;refine TK.newM Z Z Z (uj Z) (fun _=>zy rfl tQ) fun jm hjm=>?_;refine au 1303128069067067042235 ?_;refine bA [1,3,11,12,13] ?_;refine bE (fun n env K=>∃ (i:Nat) (ob:Obj),n=Zq.length - i/\i<=Zq.length/\MapB ob (namesL Zq i)/\env=zJ 95 [(1,.ptr jb 0),(3,.map jm),(11,.sl g 0 Zq.length),(12,intA Zq.length),(13,intA i)]/\K=(jm,.raw ob)::(jb,.cells (stpC st wr g Zq) 163 true)::(g,skO Zq)::mkK Zq) Zq.length ⟨0,_,rfl,mN _,zfz,rfl,rfl⟩ fun n env K hI hnext=>?_;obtain ⟨i,ob,rfl,hi,hob,rfl,rfl⟩:=hI;refine au 923742 ?_;constructor<;>intro hc0
 ·have hil:i<Zq.length:=by simp at hc0; omega
  obtain ⟨p,hp⟩:∃ p,Zq[i]? =some p:=⟨_,lA hil⟩;have hx:=zOk hb hp;have hf:=hx.fr;have hw:=hx.wd;have hs:=hx.se;have hn4:=hx.nm;have hmm:=zaW hp;refine au 360421302120 ?_;refine bH Z (zK Z Z zd.h mQ (sk_at hp Z)) ?_;refine au 220 ?_;intro jx hjx;refine au 6906704213023170 ?_;refine bD Z Z Z Z (zex hT hx.nam) ?_;rintro r1 K2 ⟨rfl,rfl⟩;refine au 935300 ?_;constructor<;>intro hc1
  ·exact absurd hc1 dQ
  refine au 690670142 ?_;refine bH Z (zkX keyB Z Z Z Und.h InfO.h Z (fun _ _=>.v _) mQ hob (fun v hv=>zcI hb hp hv)) ?_;refine au 935 ?_;constructor<;>intro hc2
  ·exact absurd hc2 dQ
  refine au 24069067067068067042 ?_;refine bD Z Z Z Z (zev hT ⟨by omega,oQ,oQ,oQ⟩ ⟨by omega,oQ,oQ,oQ⟩) ?_;rintro r4 K5 ⟨rfl,rfl⟩;refine au 1300 ?_;refine bF 36 (fun g9_9=>?_) (fun g9_9=>?_)
  ·exact absurd g9_9 dQ
  refine au 690670670690670 ?_;refine bD Z Z Z Z (kJ hT) ?_;rintro r7 K8 ⟨rfl,rfl⟩;refine au 1250300 ?_;refine bF 45 (fun g9_18=>?_) (fun g9_18=>?_)
  ·simp at g9_18; omega
  refine au 680670 ?_;refine bD Z Z Z Z (zev hT ⟨by omega,oQ,oQ,oQ⟩ ⟨by omega,oQ,oQ,oQ⟩) ?_;rintro r10 K11 ⟨rfl,rfl⟩;refine au 935250300 ?_;constructor<;>intro hc3
  ·exact absurd hc3 dQ
  refine au 935728069067042 ?_;constructor<;>intro hc4
  ·simp at hc4; omega
  refine au 690670142140120 ?_;refine TK.updB keyB Z Z Z Z Z Z Z Z Z Und.h mQ hob (fun _=>uQ) fun ob2 r2 hr2 hob1=>?_;have hob2:MapB ob2 (namesL Zq (i+1)):=by rw [<- ziV hb hp hr2]; exact hob1
  refine au 13031280690670423 ?_;refine bA [1,3,5,11,12,13,60,61,62] ?_;refine bE (fun n env K=>∃ (q:Nat),n=p.2.marks.length - q/\q<=p.2.marks.length/\env=zJ 95 [(1,.ptr jb 0),(3,.map jm),(5,.ptr jx 0),(11,.sl g 0 Zq.length),(12,intA Zq.length),(13,intA i),(60,.sl p.1 0 p.2.marks.length),(61,intA p.2.marks.length),(62,intA q)]/\K=(jx,.cells (skC p) 160 true)::(jm,.raw ob2)::(jb,.cells (stpC st wr g Zq) 163 true)::(g,skO Zq)::mkK Zq) p.2.marks.length ⟨0,rfl,mN _,rfl,rfl⟩ fun n env K hI hnext1=>?_;obtain ⟨q,rfl,hq,rfl,rfl⟩:=hI;refine au 923742 ?_;constructor<;>intro hc5
  ·have hql:q<p.2.marks.length:=by simp at hc5; omega
   obtain ⟨m,hm⟩:∃ m,p.2.marks[q]? =some m:=⟨_,lA hql⟩;obtain ⟨k1,k2,k3,k4,k5⟩:=hx.mks m (lN hm);refine au 3601421302120 ?_;refine bH Z (zK Z Z zd.h mQ (mk_at hm Z)) ?_;refine au 220 ?_;intro jw hjw;refine au 6906704213031705 ?_;refine bD Z Z Z Z (zex hT k1) ?_;rintro r13 K14 ⟨rfl,rfl⟩;refine au 935300 ?_;constructor<;>intro hc6
   ·exact absurd hc6 dQ
   refine au 2 ?_;obtain ⟨Rq,hRq⟩:=kf hmm;refine bN (K':=(jx,_)::(jm,_)::(jb,_)::(g,_)::(jw,_)::mkK Zq) (List.perm_middle (l₁:=[(jx,_),(jm,_),(jb,_),(g,_)])).symm ?_;refine au 16906704 ?_;refine bH Z (zem Z Z SlEl.h Z Z oQ oQ (zm6 (x:=p.2) hq)) ?_;refine au 320 ?_;refine bD Z Z Z Z ((zeP hT (cp:=[.ptr jw 0]) (Kc:=[(jw,.cells (mkC m) 328 true)]) (p:=fun o=>o.what.toList==m.what.toList) Cal.h (fun y _=>zgz hT) (zkC p.2 q) (by rw [List.length_take]; omega)).frameP (zlW hRq)) ?_ (hs:=(.right (.right (.right (.right (.all _))))));rintro r16 K17 ⟨rfl,rfl⟩;refine au 0 ?_;refine bN (K':=(jx,_)::(jm,_)::(jb,_)::(g,_)::(jw,_)::mkK Zq) (lH (l₁:=(jw,_)::mkK Zq)) ?_;rw [zms hx.two hm];refine au 935 ?_;constructor<;>intro hc7
   ·exact absurd hc7 dQ
   refine au 24069067069067042 ?_;refine bD Z Z Z Z (kJ hT) ?_;rintro r19 K20 ⟨rfl,rfl⟩;refine au 1300 ?_;refine bF 87 (fun g21_8=>?_) (fun g21_8=>?_)
   ·simp at g21_8; omega
   refine au 690670 ?_;refine bD Z Z Z Z (kJ hT) ?_;rintro r22 K23 ⟨rfl,rfl⟩;refine au 935250300 ?_;constructor<;>intro hc8
   ·simp at hc8; omega
   refine au 312304140140120 ?_;refine bA [1,3,5,11,12,13,60,61,62] ?_;refine bC (((jx,_)::(jm,_)::(jb,_)::(g,_)::mkK Zq)) ?_;exact hnext1 _ _ _ oQ ⟨q+1,rfl,oQ,rfl,rfl⟩
  refine au 312304140160 ?_;refine bA [1,3,11,12,13] ?_;refine bC (((jm,_)::(jb,_)::(g,_)::mkK Zq)) ?_;exact hnext _ _ _ oQ ⟨i+1,ob2,rfl,oQ,hob2,rfl,rfl⟩
 skip;refine au 3542160 ?_;refine bB hret (((g,_)::mkK Zq)) ?_;exact ⟨rfl,rfl⟩
theorem zjL {main T} (hT:zh tp main T) {gm} {st wr:Int} {g:Nat} {Zq:List (Nat×SkT)} (hb:StpOk (skB st wr Zq)) :
  zg tp T gm 306 [.agg (stpC st wr g Zq)] ((g,skO Zq)::mkK Zq) (fun r K'=>r=intA 0/\K'=(g,skO Zq)::mkK Zq):=by
 refine ze 36 hT Tryz.func306 fun Y hret=>?_;refine au 0 ?_;have h3:=zN hb;have hwy:waysI (Zq.map (·.2)) 1<=200:=hb.wy;refine au 21042 ?_;intro jb hjb;refine au 13031280690670670422354235 ?_;refine bA [1,3,8,9,10] ?_;refine bE (fun n env K=>∃ (i:Nat),n=Zq.length - i/\i<=Zq.length/\env=zJ 36 [(1,.ptr jb 0),(3,intA (waysI ((Zq.map (·.2)).take i) 1)),(8,.sl g 0 Zq.length),(9,intA Zq.length),(10,intA i)]/\K=(jb,.cells (stpC st wr g Zq) 163 true)::(g,skO Zq)::mkK Zq) Zq.length ⟨0,rfl,mN _,rfl,rfl⟩ fun n env K hI hnext=>?_;obtain ⟨i,rfl,hi,rfl,rfl⟩:=hI;refine au 923742 ?_;constructor<;>intro hc0
 ·have hil:i<Zq.length:=by simp at hc0; omega
  obtain ⟨p,hp⟩:∃ p,Zq[i]? =some p:=⟨_,lA hil⟩;have hp2:(Zq.map (·.2))[i]? =some p.2:=by rw [lQ,hp]; rfl
  have hx:=zOk hb hp;have hf:=hx.fr;have hs:=hx.se;have hwb:=ug hx;have hwi:=zeJ (st:=st) (l:=Zq.map (·.2)) (i:=i) (show ∀ x∈Zq.map (·.2),SkOk st x from hb.sk) oQ;have hmul : -9223372036854775808<=waysI ((Zq.map (·.2)).take i) 1*waysX p.2/\waysI ((Zq.map (·.2)).take i) 1*waysX p.2<9223372036854775808:=by
   have a1:=Int.mul_nonneg (show 0<=waysI ((Zq.map (·.2)).take i) 1 by omega) (show 0<=waysX p.2 by omega);have a2:=Int.mul_le_mul hwi.2 hwb.2 oQ dQ;omega
  have hm1 : -9223372036854775808<=(p.2.fhi - p.2.flo+1)*(p.2.shi - p.2.slo+1)/\(p.2.fhi - p.2.flo+1)*(p.2.shi - p.2.slo+1)<9223372036854775808:=by
   have:waysX p.2=(p.2.fhi - p.2.flo+1)*(p.2.shi - p.2.slo+1):=rfl;omega
  refine au 360421302120 ?_;refine bH Z (zK Z Z zd.h mQ (sk_at hp Z)) ?_;refine au 220 ?_;intro jx hjx;refine au 230240690670670690670670230240690670670690670670143170 ?_;refine bH Z (q_mul Z Z Z (by exact hm1)) ?_;refine bH Z (q_mul Z Z Z (by exact hmul)) ?_;refine au 31230414035 ?_;refine bA [1,3,8,9,10] ?_;refine bC (((jb,_)::(g,_)::mkK Zq)) ?_;exact hnext _ _ _ oQ ⟨i+1,rfl,oQ,by rw [zjR hp2] <;> rfl,rfl⟩
 obtain rfl:i=Zq.length:=by simp at hc0; omega
 refine au 9371422160 ?_;constructor<;>intro hc1
 ·rw [List.take_of_length_le (by rw [z_len]; exact mL _)] at hc1; simp at hc1; omega
 refine au 3542120 ?_;refine bB hret (((g,_)::mkK Zq)) ?_;exact ⟨rfl,rfl⟩
theorem zap {main:Bool} {T:Goroutine->Hp->Prop} (hT:zh tp main T)  {st wr:Int} {g:Nat} {Zq:List (Nat×SkT)} (hb:StpOk (skB st wr Zq)) :
  zg tp T gmS 153 [.agg (stpC st wr g Zq)] ((5,spChecksG)::(g,skO Zq)::mkK Zq) (fun r K'=>r=intA 0/\K'=(5,spChecksG)::(g,skO Zq)::mkK Zq):=by
 refine ze 18 hT Tryz.func153 fun Y hret=>?_;refine au 21042 ?_;intro jb hjb;refine au 1303168042235 ?_;refine TK.loop ?_;refine au 923742 ?_;refine ⟨fun k0=>?_,fun k0=>?_⟩
 ·
  refine au 421302120 ?_;refine bH Z (vO Z Z Z ArEl.h oQ oQ Z) ?_;refine au 40068014235 ?_;refine bD Z Z Z Z (zfZ hT (g:=g) hb) ?_;rintro r1 K2 ⟨rfl,rfl⟩;refine au 0 ?_;refine au 93714235 ?_;refine ⟨fun k1=>?_,fun k1=>?_⟩
  ·exact absurd k1 dQ
  refine au 312304140120 ?_;refine TK.inLoop ?_;refine au 923742 ?_;refine ⟨fun k0=>?_,fun k0=>?_⟩
  ·
   refine au 421302120 ?_;refine bH Z (vO Z Z Z ArEl.h oQ oQ Z) ?_;refine au 40068014235 ?_;refine bD Z Z Z Z (zh2 hT hb) ?_;rintro r4 K5 ⟨rfl,rfl⟩;refine au 0 ?_;refine bN (lH (l₁:=(g,_)::mkK Zq)) ?_;simp only [cA];refine au 93714235 ?_;refine ⟨fun k1=>?_,fun k1=>?_⟩
   ·exact absurd k1 dQ
   refine au 312304140120 ?_;refine TK.inLoop ?_;refine au 923742 ?_;refine ⟨fun k0=>?_,fun k0=>?_⟩
   ·
    refine au 421302120 ?_;refine bH Z (vO Z Z Z ArEl.h oQ oQ Z) ?_;refine au 40068014235 ?_;refine bD Z Z Z Z (zjL hT hb) ?_;rintro r7 K8 ⟨rfl,rfl⟩;refine au 0 ?_;refine bN (lH (l₁:=(g,_)::mkK Zq)) ?_;simp only [cA];refine au 93714235 ?_;refine ⟨fun k1=>?_,fun k1=>?_⟩
    ·exact absurd k1 dQ
    refine au 312304140120 ?_;refine TK.inLoop ?_;refine au 923742 ?_;refine ⟨fun k0=>?_,fun k0=>?_⟩
    ·exact absurd k0 dQ
    refine au 3542160 ?_;refine bB hret (((5,_)::(g,_)::mkK Zq)) ?_;exact ⟨rfl,rfl⟩
   exact absurd k0 dQ
  exact absurd k0 dQ
 exact absurd k0 dQ
theorem zm5 (Zq:List (Nat×SkT)):(Zq.flatMap skC).all oneA=true:=zdZ skC (fun _=>rfl) Zq
theorem zmI (l:List MkR):(l.flatMap mkC).all oneA=true:=zdZ mkC (fun _=>rfl) l
theorem za0 {Zq:List (Nat×SkT)} {i:Nat} {n:Int} {p:Nat×SkT} {e:TypeId} {sz:Nat} (h:Zq[i]? =some p) (hn:n=(i:Int)):zZ (.row (Zq.flatMap skC) e sz) (n.toNat*7) 7=some (skC p):=by
 have h1:=sk_at (e:=e) (rw':=true) h hn;simpa [zZ,AObj.look] using h1
theorem zcE {Zq:List (Nat×SkT)} {i:Nat} {p:Nat×SkT} (h:Zq[i]? =some p):Zq.flatMap skC=(Zq.take i).flatMap skC++(skC p++(Zq.drop (i+1)).flatMap skC)/\((Zq.take i).flatMap skC).length=i*7:=by
 obtain ⟨h1,h2⟩:=lD.1 h;have hs:Zq=Zq.take i++p::Zq.drop (i+1):=by
  rw [<- h2,<- List.drop_eq_getElem_cons h1,List.take_append_drop]
 refine ⟨?_,?_⟩
 ·conv=>lhs; rw [hs]
  rw [List.flatMap_append,List.flatMap_cons]
 ·rw [yk skC 7 (fun _=>rfl),List.length_take];congr 1; omega
theorem zl6 {α:Type} (A B C:List α) (k:Nat) (v:α) (hk:k<B.length):(A++(B++C)).set (A.length+k) v=A++(B.set k v++C):=by
 rw [List.set_append_right _ _ oQ,show A.length+k - A.length=k by omega,List.set_append_left _ _ hk]
theorem zm2 {Zq:List (Nat×SkT)} {i k:Nat} {p p':Nat×SkT} {v:AV} (h:Zq[i]? =some p) (hk:k<7) (he:(skC p).set k v=skC p'):(Zq.flatMap skC).set (i*7+k) v=(Zq.set i p').flatMap skC:=by
 obtain ⟨h1,h2⟩:=zcE h;have hl:=(lD.1 h).1;have h3:(Zq.set i p')[i]? =some p':=by rw [List.getElem?_set_self hl]
 obtain ⟨h4,h5⟩:=zcE h3;rw [h4,h1,<- h2,zl6 _ _ _ _ _ (by exact hk),he,List.take_set_of_le (mL _),List.drop_set_of_lt oQ]
theorem zjc {l:List AV} {e:TypeId} {sz k:Nat} {v:AV} (h:k<l.length) (h1:oneA v=true):putO (.row l e sz) k [v]=some (.row (l.set k v) e sz):=by
 unfold putO;dsimp only;rw [if_pos ⟨by simp only [lZ,List.length_nil]; omega,Nat.zero_lt_succ _,by simp [h1]⟩];rfl
theorem zdt {Zq:List (Nat×SkT)} {i k:Nat} {n:Int} {p p':Nat×SkT} {v:AV} {e:TypeId} {sz:Nat} (h:Zq[i]? =some p) (hn:n=(i:Int)) (hk:k<7) (h1:oneA v=true) (he:(skC p).set k v=skC p'):putO (.row (Zq.flatMap skC) e sz) (n.toNat*7+k) [v]=some (.row ((Zq.set i p').flatMap skC) e sz):=by
 subst hn;rw [mZ];have hl:=(lD.1 h).1;have h2:=zm2 h hk he;have hlen:=yk skC 7 (fun _=>rfl) Zq;rw [<- h2];exact zjc (by rw [hlen]; omega) h1
theorem zkR {a b c d e f:Nat×AObj} {L R M:KV} (h:Rem L b R):(a::b::c::d::e::f::(R++M)).Perm (c::d::e::f::(L++(M++[a]))):=by
 have h1:(L++(M++[a])).Perm ([a,b]++(R++M)):=by
  have q1:(L++(M++[a])).Perm ((b::R)++(M++[a])):=h.perm.append_right _;have q2:((b::R)++(M++[a])).Perm (a::((b::R)++M)):=by
   rw [<- List.append_assoc];exact lH
  exact q1.trans q2
 have h2:([c,d,e,f]++(L++(M++[a]))).Perm ([c,d,e,f]++([a,b]++(R++M))):=h1.append_left _;exact (h2.trans (List.perm_append_comm_assoc [c,d,e,f] [a,b] (R++M))).symm
theorem zkS {b:Nat×AObj} {L R M:KV} (h:Rem L b R) (A:KV):(A++(L++M)).Perm (b::(A++(R++M))):=by
 have h1:(A++(L++M)).Perm (A++([b]++(R++M))):=(h.perm.append_right M).append_left A;exact h1.trans (List.perm_append_comm_assoc A [b] (R++M))
theorem zlH (Y:List (Nat×SkT)) (p:Nat×SkT):mkK (Y++[p])=mkK Y++[(p.1,mkO p.2)]:=by unfold mkK; rw [lM]; rfl
theorem y_get {Y Zq:List (Nat×SkT)} {i:Nat} (hY:Y.length=i) {p:Nat×SkT} (h:Zq[i]? =some p):(Y++Zq.drop i)[i]? =some p:=by
 rw [List.getElem?_append_right oQ,hY,Nat.sub_self,List.getElem?_drop,Nat.add_zero,h]
theorem y_set {Y Zq:List (Nat×SkT)} {i:Nat} (hY:Y.length=i) {p p':Nat×SkT} (h:Zq[i]? =some p):(Y++Zq.drop i).set i p'=(Y++[p'])++Zq.drop (i+1):=by
 obtain ⟨h1,h2⟩:=lD.1 h;rw [List.set_append_right _ _ oQ,hY,Nat.sub_self,List.drop_eq_getElem_cons h1,List.set_cons_zero,List.append_assoc]; rfl
theorem zja {j g a b:Nat×AObj} {L:KV}:(g::j::b::a::L).Perm (j::a::b::g::L):=(List.perm_middle (l₁:=[j,b,a]) (a:=g) (l₂:=L)).symm.trans (.cons _ (List.Perm.swap _ _ _))
instance:ApOf tp 158 328 3 32:={}
instance:ApOf tp 55 160 7 80:={}
instance:TyZ tp 160 [.string ⟨#[]⟩,.int .i64 0,.int .i64 0,.int .i64 0,.int .i64 0,.int .i64 0,.slice none 0 0]:={}
instance:TyZ tp 328 [.string ⟨#[]⟩,.int .i64 0,.int .i64 0]:={}
theorem zhp {main T} (hT:zh tp main T) {gm} {j n:Nat} {l:List AV} {rw':Bool} (hl:l.length=n*7) (hone:l.all oneA=true) (hn:n<=100000) :
  zg tp T gm 192 [.sl j 0 n] [(j,.cells l 160 rw')] (fun r K'=>∃ j2,r=.row j2 n/\K'=[(j,.cells l 160 rw'),(j2,.row l 160 7)]):=by
 refine ze 8 hT Tryz.func192 fun Y hret=>?_;refine au 14223542 ?_;refine TK.nilT Z Z Z Z Und.h fun tz hz=>?_;refine au 93 ?_;constructor<;>intro hc0
 ·refine au 542 ?_;refine TK.virt 2 160 7 Z fun j0 hj0=>?_;refine au 3 ?_;refine bB hret [(j,_),(j0,_)] ?_;obtain rfl:=hz hc0;obtain rfl:=lK (by simpa using hl);exact ⟨_,rfl,rfl⟩
 refine au 42120 ?_;refine bI Z Z Z (zG (l:=[]) Z SlEl.h TyZ.h dQ dQ Z) (fun _=>zy rfl tQ) fun j1 hj1=>?_;refine au 1 ?_;refine TK.appG (envf:=fun _=>[_,_,_,_,_,_,_,_]) (ln:=l) rfl rfl rfl ApOf.h rfl mQ rfl rfl rfl (fun hp=>ud mQ oQ (wc hl oQ)) (fun h=>by subst h; exact lK (by simpa using hl)) hone (by unfold maxLen; omega) oQ (fun _=>uQ) (fun _=>rfl) fun j2=>?_;simp only [lC,mO];refine au 35 ?_;refine bB hret [(j,_),(j2,_)] ?_;exact ⟨_,rfl,rfl⟩
theorem zho {main T} (hT:zh tp main T) {gm} {j n:Nat} {l:List AV} {rw':Bool} (hl:l.length=n*3) (hone:l.all oneA=true) (hn:n<=100000) :
  zg tp T gm 193 [.sl j 0 n] [(j,.cells l 328 rw')] (fun r K'=>∃ j2,r=.row j2 n/\K'=(j2,.row l 328 3)::[(j,.cells l 328 rw')]):=by
 refine ze 8 hT Tryz.func193 fun Y hret=>?_;refine au 14223542 ?_;refine TK.nilT Z Z Z Z Und.h fun tz hz=>?_;refine au 93 ?_;constructor<;>intro hc0
 ·refine au 542 ?_;refine TK.virt 2 328 3 Z fun j0 hj0=>?_;refine au 3 ?_;refine bB hret [(j0,_),(j,_)] ?_;obtain rfl:=hz hc0;obtain rfl:=lK (by simpa using hl);exact ⟨_,rfl,rfl⟩
 refine au 42120 ?_;refine bI Z Z Z (zG (l:=[]) Z SlEl.h TyZ.h dQ dQ Z) (fun _=>zy rfl tQ) fun j1 hj1=>?_;refine au 1 ?_;refine TK.appG (envf:=fun _=>[_,_,_,_,_,_,_,_]) (ln:=l) rfl rfl rfl ApOf.h rfl mQ rfl rfl rfl (fun hp=>ud mQ oQ (wc hl oQ)) (fun h=>by subst h; exact lK (by simpa using hl)) hone (by unfold maxLen; omega) oQ (fun _=>uQ) (fun _=>rfl) fun j2=>?_;simp only [lC,mO];refine au 35 ?_;refine bB hret [(j2,_),(j,_)] ?_;exact ⟨_,rfl,rfl⟩
theorem zgj {main T} (hT:zh tp main T) {gm} {j:Nat} {x:SkT} (hn:x.marks.length<=1000):zg tp T gm 193 [.sl j 0 x.marks.length] [(j,mkO x)] (fun r K'=>∃ j2,r=.sl j2 0 x.marks.length/\K'=(j2,mkO x)::[(j,mkO x)]) :=
 zaF (zho hT (yk mkC 3 (fun _=>rfl) x.marks) (zmI _) oQ)
instance:Cal tp 192:={}
instance:Cal tp 193:={}
instance:TyZA tp 57 [.v (.int .i64 0),.v (.int .i64 0),.v (.slice none 0 0)]:={}
theorem zk8 {main T} (hT:zh tp main T) {gm} {st wr:Int} {g:Nat} {Zq:List (Nat×SkT)} (hb:StpOk (skB st wr Zq)) :
  zg tp T gm 154 [.agg (stpC st wr g Zq)] ((g,skO Zq)::mkK Zq) (fun r K'=>∃ j1 Y,Y.map (·.2)=Zq.map (·.2)/\Y.length=Zq.length/\r=.agg [intA st,intA wr,.row j1 Zq.length]/\K'=(j1,.row (Y.flatMap skC) 160 7)::(g,skO Zq)::(mkK Zq++mkK Y)):=by
 refine ze 27 hT Tryz.func154 fun Y hret=>?_;refine au 0 ?_;have h3:=zN hb;refine au 21042 ?_;intro jb hjb;refine au 220 ?_;intro jr hjr;refine au 690670423 ?_;refine bD Z Z Z Z (zhp hT (yk skC 7 (fun _=>rfl) Zq) (zm5 Zq) oQ) ?_;rintro r1 K2 ⟨j1,rfl,rfl⟩;refine au 223170670 ?_;refine bN (K':=(j1,_)::(jb,_)::(jr,_)::(g,_)::mkK Zq) zja ?_;refine au 130312806906704 ?_;refine bA [1,2,10,11,12] ?_;refine bC ((j1,.row (Zq.flatMap skC) 160 7)::(jb,.cells [intA st,intA wr,.row j1 Zq.length] 57 true)::(jr,.cells [intA 0,intA 0,.v (.slice none 0 0)] 57 true)::(g,skO Zq)::mkK Zq) ?_;refine bE (fun n env K=>∃ (i:Nat) (Y:List (Nat×SkT)),n=Zq.length - i/\i<=Zq.length/\Y.length=i/\Y.map (·.2)=(Zq.take i).map (·.2)/\env=zJ 27 [(1,.ptr jb 0),(2,.ptr jr 0),(10,.row j1 Zq.length),(11,intA Zq.length),(12,intA i)]/\K=(j1,.row ((Y++Zq.drop i).flatMap skC) 160 7)::(jb,.cells [intA st,intA wr,.row j1 Zq.length] 57 true)::(jr,.cells [intA 0,intA 0,.v (.slice none 0 0)] 57 true)::(g,skO Zq)::(mkK Zq++mkK Y)) Zq.length ⟨0,[],rfl,mN _,rfl,rfl,rfl,by rw [show mkK []=[] from rfl,lR] <;> rfl⟩ fun n env K hI hnext=>?_;obtain ⟨i,Y,rfl,hi,hYl,hYm,rfl,rfl⟩:=hI;refine au 923742 ?_;constructor<;>intro hc0
 ·have hil:i<Zq.length:=by simp at hc0; omega
  obtain ⟨p,hp⟩:∃ p,Zq[i]? =some p:=⟨_,lA hil⟩;have hpY:=y_get hYl hp;have hx:=zOk hb hp;have hn4:=hx.nm;obtain ⟨Rq,hRq⟩:=kf (zaW hp);refine au 3701421302120 ?_;refine bH Z (zK Z Z zd.h mQ (za0 hpY Z)) ?_;refine au 220 ?_;intro jx hjx;refine au 31705 ?_;refine bN (zkS hRq [(jx,_),(j1,_),(jb,_),(jr,_),(g,_)]) ?_;simp only [cA];refine bL [0,1,2,3,4,5,6,7,8] ?_;refine ad [[3,1],[10,17],[1,3],[3,4],[10,20]] ?_;refine TD.cl (pend':=[⟨3,[4],[]⟩,⟨2,[3],[]⟩,⟨1,[17],[(_,_)]⟩,⟨0,[1],[]⟩]) [21] Z Z Z Z Z (zgj hT (x:=p.2) oQ) (fun r4 K5 h6=>⟨?_,?_⟩)
  ·rcases h6 with ⟨j2,rfl,rfl⟩
   all_goals simp
  obtain ⟨j2,rfl,rfl⟩:=h6;try simp only [cA]
  refine TD.norm tQ ?_;refine TD.cq (pend':=[]) [18,19] Z Z Z Z Z (wR Z Z Z SlEl.h mQ oQ oQ) (zy Z tQ) sQ ?_;refine ad [[3,23]] ?_;refine TD.s (pend':=[]) [22,24] Z Z (zt Z Z zd.h Z Z mQ (zdt (p':=(j2,p.2)) hpY Z dQ Z Z)) ?_;refine ad [[14]] ?_;refine au 312304140 ?_;refine bA [1,2,10,11,12] ?_;refine bC (((j2,_)::(p.1,_)::(j1,_)::(jb,_)::(jr,_)::(g,_)::(Rq++mkK Y))) ?_;refine bN (zkR hRq) ?_;rw [<- zlH Y (j2,p.2),y_set hYl hp];exact hnext _ _ _ oQ ⟨i+1,Y++[(j2,p.2)],rfl,oQ,by rw [lF,hYl]; rfl,by rw [lM,hYm,zbd hp,lM]; rfl,rfl,rfl⟩
 obtain rfl:i=Zq.length:=by simp at hc0; omega
 refine au 317068042160 ?_;refine bB hret (((j1,_)::(g,_)::(mkK Zq++mkK Y))) ?_;refine ⟨j1,Y,?_,hYl,rfl,?_⟩
 ·rw [hYm,lW]
 ·rw [List.drop_length,lR]
theorem zaw {n:Int} (h:0<=n/\n<18446744073709551616):IntKind.u64.wrap n=n:=by
 unfold IntKind.wrap;simp only [show IntKind.u64.bits=64 from rfl,show IntKind.u64.signed=false from rfl,Bool.false_and];split <;> rename_i h1 <;> first | omega | (simp at h1)
section
variable {P:Program} {gm:Nat->Option Nat} {V:KV} {env:List AV} {o:Oper}
theorem zmX {t yt:TypeId} {x y:Operand} {k':IntKind} {a b:Nat} (ho:o.op=.binOp .shr t x y yt) (hx:zr gm env x=some (.v (.int .u64 a))) (hy:zr gm env y=some (.v (.int k' b))) (h0:b<=60):Qk P gm env V o (.v (.int .u64 ((a / 2 ^ b:Nat):Int))):=fun A _=>by
 refine wj ho (by rw [zq hx]; rfl) (by rw [zq hy]; rfl) ?_;rw [uG];show zO P (Op.shift .shr .u64 a k' b)=_;unfold Op.shift;rw [if_neg oQ];show some (Value.int .u64 ((a:Int).fdiv (2 ^ min (b:Int).toNat 64)))=_;rw [Nat.min_eq_left oQ,mZ,show ((a:Int).fdiv (2 ^ b))=((a / 2 ^ b:Nat):Int) by rw [Int.fdiv_eq_ediv_of_nonneg _ (by exact_mod_cast mN (2 ^ b))]; norm_cast]
theorem zjh {t yt:TypeId} {x y:Operand} {a b:Nat} (ho:o.op=.binOp .and t x y yt) (hx:zr gm env x=some (.v (.int .u64 a))) (hy:zr gm env y=some (.v (.int .u64 b))) (h:a<9223372036854775808) (h2:b<9223372036854775808):Qk P gm env V o (.v (.int .u64 ((a &&& b:Nat):Int))):=by
 refine wP ho hx hy ?_;show some (Value.int .u64 (IntKind.u64.wrap ((BitVec.ofInt 64 (a:Int) &&& BitVec.ofInt 64 (b:Int)).toNat:Int)))=_;have e:∀ c:Nat,c<9223372036854775808->(BitVec.ofInt 64 (c:Int)).toNat=c:=fun c hc=>by
  rw [BitVec.toNat_ofInt];omega
 have hle:a &&& b<=a:=Nat.and_le_left;rw [BitVec.toNat_and,e a h,e b h2,zaw oQ]
theorem zmT {t yt:TypeId} {x y:Operand} {a:Nat} (ho:o.op=.binOp .and t x y yt) (hx:zr gm env x=some (.v (.int .u64 a))) (hy:zr gm env y=some (.v (.int .u64 1))) (h:a<9223372036854775808):Qk P gm env V o (.v (.int .u64 ((a % 2:Nat):Int))):=by
 have:=zjh (P:=P) (V:=V) (b:=1) ho hx hy h dQ;rwa [Nat.and_one_is_mod] at this
theorem zjf {t yt:TypeId} {x y:Operand} {a b:Int} (ho:o.op=.binOp .add t x y yt) (hx:zr gm env x=some (.v (.int .u64 a))) (hy:zr gm env y=some (.v (.int .u64 b))) (h:0<=a+b/\a+b<18446744073709551616):Qk P gm env V o (.v (.int .u64 (a+b))):=by
 refine wP ho hx hy ?_;show some (Value.int .u64 (IntKind.u64.wrap (a+b)))=_;rw [zaw h]
theorem zmY {t yt:TypeId} {x y:Operand} {a b:Int} (ho:o.op=.binOp .sub t x y yt) (hx:zr gm env x=some (.v (.int .u64 a))) (hy:zr gm env y=some (.v (.int .u64 b))) (h:0<=a - b/\a - b<18446744073709551616):Qk P gm env V o (.v (.int .u64 (a - b))):=by
 refine wP ho hx hy ?_;show some (Value.int .u64 (IntKind.u64.wrap (a - b)))=_;rw [zaw h]
theorem zmW {t yt:TypeId} {x y:Operand} {k':IntKind} {b:Nat} (ho:o.op=.binOp .shl t x y yt) (hx:zr gm env x=some (.v (.int .u64 1))) (hy:zr gm env y=some (.v (.int k' b))) (h0:b<=20):Qk P gm env V o (.v (.int .u64 ((2 ^ b:Nat):Int))):=fun A _=>by
 have hp:2 ^ b<=2 ^ 20:=Nat.pow_le_pow_right oQ h0;refine wj ho (by rw [zq hx]; rfl) (by rw [zq hy]; rfl) ?_;rw [uG];show zO P (Op.shift .shl .u64 1 k' b)=_;unfold Op.shift;rw [if_neg oQ];show some (Value.int .u64 (IntKind.u64.wrap (1*2 ^ min (b:Int).toNat 64)))=_;have e:(1*2 ^ b:Int)=((2 ^ b:Nat):Int):=by rw [Int.one_mul]; norm_cast
 have hp':2 ^ b<=1048576:=hp;rw [Nat.min_eq_left oQ,mZ,e,zaw (by generalize 2 ^ b=m at hp' ⊢; omega)]
end
def vwC (v:VwT):List AV:=[intA (v.fr.getD 0 0),intA (v.fr.getD 1 0),intA (v.fr.getD 2 0),intA (v.fr.getD 3 0),intA (v.st.getD 0 0),intA (v.st.getD 1 0),intA (v.st.getD 2 0),intA (v.st.getD 3 0),.v (.int .u64 v.wr)]
structure VwOk (v:VwT):Prop where
 fr:∀ k,0<=v.fr.getD k 0/\v.fr.getD k 0<=100
 st:∀ k,-100<=v.st.getD k 0/\v.st.getD k 0<=100
 wr:v.wr<=1000
theorem lt4 {i:Nat} (h:i<4):i=0\/i=1\/i=2\/i=3:=by omega
theorem fr_at {v:VwT} {i:Nat} {n:Int} {e:TypeId} {rw':Bool} (h:i<4) (hn:n=(i:Int)):zZ (.cells (vwC v) e rw') (0+n.toNat*1) 1=some [intA (v.fr.getD i 0)]:=by
 subst hn;rcases lt4 h with rfl | rfl | rfl | rfl <;> rfl
theorem zjM {v:VwT} {i:Nat} {n:Int} {e:TypeId} {rw':Bool} (h:i<4) (hn:n=(i:Int)):zZ (.cells (vwC v) e rw') (4+n.toNat*1) 1=some [intA (v.st.getD i 0)]:=by
 subst hn;rcases lt4 h with rfl | rfl | rfl | rfl <;> rfl
def AtL (l:List (ByteArray×Value)) (L:List (ByteArray×(Int×Int))):Prop:=(∀ s v,(s,v)∈l->∃ p∈L,p.1=s/\v=fcV p.2)/\∀ p∈L,(p.1,fcV p.2)∈l
theorem zlm:AtL [] []:=by
 constructor
 ·intro s v h; cases h
 ·intro p h; cases h
theorem zgM {l:List (ByteArray×Value)} {L:List (ByteArray×(Int×Int))} {s:ByteArray} {x:Int×Int} {r:Option (Nat×Value)} (h:AtL l L) (hr:FoundB s l 0 r) (hc:∀ p∈L,p.1=s->p.2=x):AtL (setB l s (fcV x) r) (L++[(s,x)]):=by
 cases r with
 | none =>
  refine ⟨fun s' v hm=>?_,fun p hp=>?_⟩
  ·rcases lT.1 hm with hm | hm
   ·obtain ⟨p,h1,h2⟩:=h.1 s' v hm;exact ⟨p,lV _ h1,h2⟩
   ·cases lS.1 hm;exact ⟨(s,x),by simp,rfl,rfl⟩
  ·show _∈l++[(s,fcV x)];rcases lT.1 hp with hp | hp
   ·exact lV _ (h.2 p hp)
   ·rw [lS.1 hp]; simp
 | some z =>
  obtain ⟨q,v⟩:=z;obtain ⟨j,hj,h3⟩:=hr;obtain rfl:q=j:=by omega
  obtain ⟨p,h4,h5,h6⟩:=h.1 s v (lN h3);have hx:=hc p h4 h5;have he:setB l s (fcV x) (some (q,v))=l:=by
   show l.set q (s,fcV x)=l;rw [<- hx,<- h6];refine List.ext_getElem? fun k=>?_;rw [lX];by_cases hk:q=k
   ·subst hk;rw [if_pos rfl,if_pos (lD.1 h3).1,h3]
   ·rw [if_neg hk]
  rw [he];refine ⟨fun s' v' hm=>?_,fun p' hp=>?_⟩
  ·obtain ⟨p',q1,q2⟩:=h.1 s' v' hm;exact ⟨p',lV _ q1,q2⟩
  ·rcases lT.1 hp with hp | hp
   ·exact h.2 p' hp
   ·rw [lS.1 hp,<- h5,<- hx];exact h.2 p h4
def avP:Value->AV
 | .agg cs=>.agg (cs.toList.map fun z=>.v z)
 | v=>.v v
theorem zln {l:List (ByteArray×Value)} {L:List (ByteArray×(Int×Int))} (h:AtL l L) (φ:Nat->Loc3) (n:Nat) (v:Value) (hv:v=fcV (0,0)\/∃ p∈l,v=p.2):RelV φ n (avP v) v:=by
 have:∃ x,v=fcV x:=by
  rcases hv with rfl | ⟨q,hp,rfl⟩
  ·exact ⟨_,rfl⟩
  ·obtain ⟨p,_,_,e⟩:=h.1 q.1 q.2 hp;exact ⟨_,e⟩
 obtain ⟨x,rfl⟩:=this;exact zmZ x
theorem zj2 {l:List (ByteArray×Value)} {L:List (ByteArray×(Int×Int))} (h:AtL l L) {s:ByteArray} {v:Value} {ok:Bool} (hv:(ok=false/\(∀ p∈l,p.1≠s)/\v=fcV (0,0))\/(ok=true/\(s,v)∈l)):∃ x:Int×Int,v=fcV x/\((ok=false/\∀ p∈L,p.1≠s)\/(ok=true/\∃ p∈L,p.1=s/\p.2=x)):=by
 rcases hv with ⟨h1,h2,h3⟩ | ⟨h1,h2⟩
 ·exact ⟨_,h3,.inl ⟨h1,fun p hp=>h2 _ (h.2 p hp)⟩⟩
 ·obtain ⟨p,q1,q2,q3⟩:=h.1 s v h2;exact ⟨p.2,q3,.inr ⟨h1,p,q1,q2,rfl⟩⟩
theorem ze8 {L:List (ByteArray×(Int×Int))} {s:ByteArray} {x:Int×Int} (h:∀ p∈L,p.1=s->p.2=x):(L.all fun q=>consT q (s,x))=true:=List.all_eq_true.2 fun p hp=>by
 unfold consT;by_cases e:p.1=s
 ·rw [decide_eq_true e,decide_eq_true (h p hp e)]; rfl
 ·rw [decide_eq_false e]; rfl
theorem zlP {L:List (ByteArray×(Int×Int))} (h:okL L=true) {p q:ByteArray×(Int×Int)} (hp:p∈L) (hq:q∈L) (he:p.1=q.1):p.2=q.2:=by
 induction L with
 | nil=>cases hp
 | cons a L ih =>
  have h:(L.all (consT a)&&okL L)=true:=h;obtain ⟨h1,h2⟩:=Bool.and_eq_true_iff.1 h;have key:∀ b∈L,a.1=b.1->a.2=b.2:=fun b hb e=>by
   have:=List.all_eq_true.1 h1 b hb;unfold consT at this;rw [decide_eq_true e] at this;simpa using this
  rcases lI.1 hp with e1 | hp1 <;> rcases lI.1 hq with e2 | hq1
  ·rw [e1,e2]
  ·rw [e1] at he ⊢; exact key q hq1 he
  ·rw [e2] at he ⊢; exact (key p hp1 he.symm).symm
  ·exact ih h2 hp1 hq1
theorem zlQ {L:List (ByteArray×(Int×Int))} {s:ByteArray} {x:Int×Int} {p:ByteArray×(Int×Int)} (hp:p∈L) (h1:p.1=s) (h2:p.2≠x):okL (L++[(s,x)])=false:=by
 rw [okL_S];have:(L.all fun q=>consT q (s,x))=false:=List.all_eq_false.2 ⟨p,hp,by
  unfold consT;rw [decide_eq_true h1,decide_eq_false h2]; decide⟩
 rw [this,Bool.and_false]
theorem vX {steps:Int} {v:VwT} {i q:Nat} {l:List MkR} {m:MkR} (h:l[q]? =some m):marksT steps v i (l.take (q+1))=marksT steps v i (l.take q)++[(m.what,placeT steps v i m)]:=by
 unfold marksT;rw [zbd h,lM]; rfl
theorem zdu {steps:Int} {v:VwT} {l:List SkT} {i:Nat} {x:SkT} (h:l[i]? =some x):seenL steps v 0 (l.take (i+1))=seenL steps v 0 (l.take i)++seenT steps v i x:=by
 have hl:=(lD.1 h).1;rw [zbd h,za1,List.length_take,Nat.min_eq_left oQ,mO];congr 1;simp [seenL]
theorem zjC {steps:Int} {v:VwT} {l:List SkT} {i:Nat}:∃ r,seenL steps v 0 l=seenL steps v 0 (l.take i)++r:=⟨_,by conv=>lhs; rw [<- List.take_append_drop i l,za1]⟩
theorem zmo (w i:Nat):AV.v (Value.bool (((w / 2 ^ i % 2:Nat):Int)==1))=zm (bitT w i):=by
 unfold bitT zm;congr 2;by_cases h:w / 2 ^ i % 2=1
 ·rw [h]; rfl
 ·rw [beq_eq_false_iff_ne.2 h,beq_eq_false_iff_ne.2 oQ]
instance:ArEl tp 172 4 3 false 1:={}
instance:BlOf tp 380 [(0,1),(1,1)]:={}
instance:zl tp 175 0 0 true 4:={}
instance:zl tp 175 1 4 true 4:={}
instance:zl tp 175 2 8 false 1:={}
instance:zd tp 173 false 1:={}
instance:zd tp 380 true 2:={}
instance:TyZ tp 380 [.int .i64 0,.int .i64 0]:={}
instance:TyZA tp 380 [.v (.int .i64 0),.v (.int .i64 0)]:={}
theorem zh5 {main T} (hT:zh tp main T) {gm} {v:VwT} {i:Nat} (hv:VwOk v) (hi:i<4) :
  zg tp T gm 239 [.agg (vwC v),intA (i:Int)] [] (fun r K'=>r=zm (bitT v.wr i)/\K'=[]):=by
 refine ze 11 hT Tryz.func239 fun Y hret=>?_;refine au 0 ?_;have hw:=hv.wr;refine au 21042 ?_;intro jb hjb;refine au 16906704235 ?_;refine bH Z (zmX Z Z Z oQ) ?_;refine bH Z (zmT Z Z Z (by have:=Nat.div_le_self v.wr (2 ^ i); omega)) ?_;refine au 357 ?_;refine bB hret [] ?_;exact ⟨zmo v.wr i,rfl⟩
theorem zgE {main T} (hT:zh tp main T) {gm} {st wr:Int} {g:Nat} {Zq:List (Nat×SkT)} {v:VwT} {i:Nat} {m:MkR} (hv:VwOk v) (hi:i<4) (hs:4<=st/\st<=24) (hm:0<=m.col/\m.col<=100 /\ -9<=m.row/\m.row<=9) :
  zg tp T gm 240 [.agg (stpC st wr g Zq),.agg (vwC v),intA (i:Int),.agg (mkC m)] [] (fun r K'=>r=.agg (fcC (placeT st v i m))/\K'=[]):=by
 refine ze 28 hT Tryz.func240 fun Y hret=>?_;refine au 0 ?_;have hf:=hv.fr i;have hse:=hv.st i;refine au 21042 ?_;intro jb hjb;refine au 210 ?_;intro jv hjv;refine au 210 ?_;intro jm hjm;refine au 220 ?_;intro jr hjr;refine au 23 ?_;refine bL [0,1,2,3,4,5,6,7,8,9,10,11,12,13,14,15,16,17,18,19] ?_;refine ad [[1,2],[3,5]] ?_;refine bU [9,10] Z (yC Z Z Z ArEl.h oQ oQ) ?_;refine bT [11] Z (hq:=zp Z Z zd.h (mC _) (fr_at hi Z)) (h:=?_);refine ad [[3,7],[10,13],[8,12,14],[3,4],[3,16],[10,17]] ?_;refine bU [15,18] Z (q_rem Z Z Z oQ oQ) ?_;refine ad [[3,7],[10,20],[1,2],[3,5]] ?_;refine bU [22,23] Z (yC Z Z Z ArEl.h oQ oQ) ?_;refine bT [24] Z (hq:=zp Z Z zd.h (mC _) (zjM hi Z)) (h:=?_);refine ad [[8,21,25]] ?_;refine bU [19,26] Z (y5 (l:=[_,_]) Z TyZ.h BlOf.h Z) ?_;refine TD.s (pend':=[]) [8,27] Z Z (zt Z Z zd.h Z Z mQ Z) ?_;refine ad [[14]] ?_;refine au 0 ?_;refine bB hret [] ?_;exact ⟨rfl,rfl⟩
theorem zgN {L:List (ByteArray×(Int×Int))} {s:ByteArray} {x y:Int×Int} {ok:Bool} (hok:okL L=true) (h:(ok=false/\∀ p∈L,p.1≠s)\/(ok=true/\∃ p∈L,p.1=s/\p.2=x)) (hq:ok=true->x=y):∀ p∈L,p.1=s->p.2=y:=fun p hp he=>by
 rcases h with ⟨_,h⟩ | ⟨h1,p',h2,h3,h4⟩
 ·exact absurd he (h p hp)
 ·rw [zlP hok hp h2 (he.trans h3.symm),h4,hq h1]
theorem zif {st:Int} {v:VwT} {l:List SkT} {i q:Nat} {x:SkT} {m:MkR} (hx:l[i]? =some x) (hw:bitT v.wr i=false) (hm:x.marks[q]? =some m) {p:ByteArray×(Int×Int)} (hp:p∈seenL st v 0 (l.take i)++marksT st v i (x.marks.take q)) (h1:p.1=m.what) (h2:p.2≠placeT st v i m):agreeT st l v=false:=by
 have hb:=zlQ hp h1 h2;rw [List.append_assoc,<- vX hm] at hb;obtain ⟨r,hr⟩:=zjC (steps:=st) (v:=v) (l:=l) (i:=i+1);have hs:seenT st v i x=marksT st v i (x.marks.take (q+1))++marksT st v i (x.marks.drop (q+1)):=by
  unfold seenT;rw [if_neg (by rw [hw]; decide)];unfold marksT;rw [<- lM,List.take_append_drop]
 unfold agreeT;rw [hr,zdu hx,hs,<- List.append_assoc,List.append_assoc];exact zlR hb
theorem zhd {st:Int} {v:VwT} {l:List SkT} (h:okL (seenL st v 0 (l.take l.length))=true):agreeT st l v=true:=by
 rw [lW] at h;exact h
instance:Cal tp 239:={}
instance:Cal tp 240:={}
instance:EqG tp 380:={}
instance:FlatF tp 380 [(3,0),(3,1)]:={}
instance:InfO tp 380 Tryz.t380:={}
instance:zd tp 163 true 3:={}
instance:zd tp 175 true 9:={}
instance:Und tp 378 (.map 9 380):={}
theorem zh1 {main T} (hT:zh tp main T) {gm} {st wr:Int} {g:Nat} {Zq:List (Nat×SkT)} {v:VwT} (hb:StpOk (skB st wr Zq)) (hv:VwOk v) :
  zg tp T gm 223 [.agg (stpC st wr g Zq),.agg (vwC v)] ((g,skO Zq)::mkK Zq) (fun r K'=>r=zm (agreeT st (Zq.map (·.2)) v)/\K'=(g,skO Zq)::mkK Zq):=by
 refine ze 57 hT Tryz.func223 fun Y hret=>?_;refine au 0 ?_;have h1:4<=st/\st<=24:=hb.st;have h3:=zN hb;refine au 21042 ?_;intro jb hjb;refine au 210 ?_;intro jv hjv;refine au 4235 ?_;refine TK.newM Z Z Z (uj Z) (fun _=>zy rfl tQ) fun jm hjm=>?_;refine au 1303128069067067042235 ?_;refine bA [2,3,5,16,17,18] ?_;refine bE (fun n env K=>∃ (i:Nat) (ob:Obj) (l:List (ByteArray×Value)),n=Zq.length - i/\i<=Zq.length/\MapB ob l/\AtL l (seenL st v 0 ((Zq.map (·.2)).take i))/\okL (seenL st v 0 ((Zq.map (·.2)).take i))=true/\env=zJ 57 [(2,.ptr jb 0),(3,.ptr jv 0),(5,.map jm),(16,.sl g 0 Zq.length),(17,intA Zq.length),(18,intA i)]/\K=(jm,.raw ob)::(jv,.cells (vwC v) 175 true)::(jb,.cells (stpC st wr g Zq) 163 true)::(g,skO Zq)::mkK Zq) Zq.length ⟨0,_,[],rfl,mN _,zfz,zlm,rfl,rfl,rfl⟩ fun n env K hI hnext=>?_;obtain ⟨i,ob,l,rfl,hi,hob,hat,hok,rfl,rfl⟩:=hI;refine au 923742 ?_;constructor<;>intro hc0
 ·have hil:i<Zq.length:=by simp at hc0; omega
  obtain ⟨p,hp⟩:∃ p,Zq[i]? =some p:=⟨_,lA hil⟩;have hp2:(Zq.map (·.2))[i]? =some p.2:=by rw [lQ,hp]; rfl
  have hx:=zOk hb hp;have hxw:=hx.wd;have hn4:=hx.nm;have hmm:=zaW hp;refine au 3601421302120 ?_;refine bH Z (zK Z Z zd.h mQ (sk_at hp Z)) ?_;refine au 220 ?_;intro jx hjx;refine au 168042231705 ?_;refine bD Z Z Z Z (zh5 hT hv oQ) ?_;rintro r1 K2 ⟨rfl,rfl⟩;refine au 93 ?_;constructor<;>intro hc1
  ·refine au 312304160 ?_;refine bA [2,3,5,16,17,18] ?_;refine bC (((jm,_)::(jv,_)::(jb,_)::(g,_)::mkK Zq)) ?_;have hs0:seenL st v 0 ((Zq.map (·.2)).take (i+1))=seenL st v 0 ((Zq.map (·.2)).take i):=by rw [zdu hp2]; unfold seenT; rw [if_pos hc1,lR]
   exact hnext _ _ _ oQ ⟨i+1,ob,l,rfl,oQ,hob,by rw [hs0]; exact hat,by rw [hs0]; exact hok,rfl,rfl⟩
  have hwr:bitT v.wr i=false:=hc1;refine au 1303128069067042120 ?_;refine bA [2,3,5,6,7,16,17,18,27,28,29] ?_;refine bC ((jx,_)::(jm,_)::(jv,_)::(jb,_)::(g,_)::mkK Zq) ?_;refine bE (fun n env K=>∃ (q:Nat) (ob:Obj) (l:List (ByteArray×Value)),n=p.2.marks.length - q/\q<=p.2.marks.length/\MapB ob l/\AtL l (seenL st v 0 ((Zq.map (·.2)).take i)++marksT st v i (p.2.marks.take q))/\okL (seenL st v 0 ((Zq.map (·.2)).take i)++marksT st v i (p.2.marks.take q))=true/\env=zJ 57 [(2,.ptr jb 0),(3,.ptr jv 0),(5,.map jm),(6,intA i),(7,.ptr jx 0),(16,.sl g 0 Zq.length),(17,intA Zq.length),(18,intA i),(27,.sl p.1 0 p.2.marks.length),(28,intA p.2.marks.length),(29,intA q)]/\K=(jx,.cells (skC p) 160 true)::(jm,.raw ob)::(jv,.cells (vwC v) 175 true)::(jb,.cells (stpC st wr g Zq) 163 true)::(g,skO Zq)::mkK Zq) p.2.marks.length ⟨0,ob,l,rfl,mN _,hob,by rw [show marksT st v i (p.2.marks.take 0)=[] from rfl,lR]; exact hat,by rw [show marksT st v i (p.2.marks.take 0)=[] from rfl,lR]; exact hok,rfl,rfl⟩ fun n env K hI hnext1=>?_;obtain ⟨q,ob,l,rfl,hq,hob,hat,hok,rfl,rfl⟩:=hI;refine au 923742 ?_;constructor<;>intro hc2
  ·have hql:q<p.2.marks.length:=by simp at hc2; omega
   obtain ⟨m,hm⟩:∃ m,p.2.marks[q]? =some m:=⟨_,lA hql⟩;obtain ⟨k1,k2,k3,k4,k5⟩:=hx.mks m (lN hm);refine au 360421302120 ?_;refine bH Z (zK Z Z zd.h mQ (mk_at hm Z)) ?_;refine au 220 ?_;intro jw hjw;refine au 6801680680423170 ?_;refine bD Z Z Z Z (zgE hT hv oQ h1 ⟨k2,oQ,k4,k5⟩) ?_;rintro r4 K5 ⟨rfl,rfl⟩;refine au 220 ?_;intro jp hjp;refine au 69067014223170 ?_;refine TK.lookB2 keyB (av:=avP) Z Z Z Z Z Z Und.h InfO.h Z mQ hob (zln hat) fun v4 ok4 hv4=>?_;refine au 0 ?_;obtain ⟨x4,rfl,hx4⟩:=zj2 hat hv4;rw [show avP (fcV x4)=AV.agg (fcC x4) from rfl];refine au 220661 ?_;intro jq hjq;refine au 114235170 ?_;refine bF 46 (fun g11_2=>?_) (fun g11_2=>?_)
   ·refine au 680680 ?_;refine bH Z (zel Z Z Z Z Z FlatF.h EqG.h) ?_;refine au 93260 ?_;constructor<;>intro hc3
    ·obtain ⟨_,pm,hpm,hpe,hpx⟩:=hx4.resolve_left (fun h=>by rw [h.1] at g11_2; cases g11_2);have hne:x4≠placeT st v i m:=fun e=>by rw [e] at hc3; simp at hc3
     refine au 3542 ?_;refine bB hret (((g,_)::mkK Zq)) ?_;exact ⟨by rw [zif hp2 hwr hm hpm hpe (fun e=>by rw [<- hpx] at hne; exact hne e)]; rfl,rfl⟩
    have hxy:ok4=true->x4=placeT st v i m:=fun _=>by have h:=hc3; simp at h; exact Prod.ext h.1 h.2
    refine au 68069067014120 ?_;have hcons:=zgN hok hx4 hxy;refine TK.updB keyB (v:=fcV (placeT st v i m)) Z Z Z Z Z Z Z Z Z Und.h mQ hob (fun _=>uQ) fun ob2 r2 hr2 hob2=>?_;have hat2:=zgM hat hr2 hcons;have hok2:okL ((seenL st v 0 ((Zq.map (·.2)).take i)++marksT st v i (p.2.marks.take q))++[(m.what,placeT st v i m)])=true:=by rw [okL_S,hok,ze8 hcons]; rfl
    refine au 3123041403 ?_;refine bA [2,3,5,6,7,16,17,18,27,28,29] ?_;refine bC (((jx,_)::(jm,_)::(jv,_)::(jb,_)::(g,_)::mkK Zq)) ?_;exact hnext1 _ _ _ oQ ⟨q+1,ob2,_,rfl,oQ,hob2,by rw [vX hm,<- List.append_assoc]; exact hat2,by rw [vX hm,<- List.append_assoc]; exact hok2,rfl,rfl⟩
   have hxy:ok4=true->x4=placeT st v i m:=fun h=>by rw [g11_2] at h; cases h
   refine au 680690670141201903250888 ?_;have hcons:=zgN hok hx4 hxy;refine TK.updB keyB (v:=fcV (placeT st v i m)) Z Z Z Z Z Z Z Z Z Und.h mQ hob (fun _=>uQ) fun ob2 r2 hr2 hob2=>?_;have hat2:=zgM hat hr2 hcons;have hok2:okL ((seenL st v 0 ((Zq.map (·.2)).take i)++marksT st v i (p.2.marks.take q))++[(m.what,placeT st v i m)])=true:=by rw [okL_S,hok,ze8 hcons]; rfl
   refine au 3123041403 ?_;refine bA [2,3,5,6,7,16,17,18,27,28,29] ?_;refine bC (((jx,_)::(jm,_)::(jv,_)::(jb,_)::(g,_)::mkK Zq)) ?_;exact hnext1 _ _ _ oQ ⟨q+1,ob2,_,rfl,oQ,hob2,by rw [vX hm,<- List.append_assoc]; exact hat2,by rw [vX hm,<- List.append_assoc]; exact hok2,rfl,rfl⟩
  obtain rfl:q=p.2.marks.length:=by simp at hc2; omega
  rw [lW] at hat hok;refine au 312304140160 ?_;refine bA [2,3,5,16,17,18] ?_;refine bC (((jm,_)::(jv,_)::(jb,_)::(g,_)::mkK Zq)) ?_;have hs0:seenL st v 0 ((Zq.map (·.2)).take (i+1))=seenL st v 0 ((Zq.map (·.2)).take i)++marksT st v i p.2.marks:=by rw [zdu hp2]; unfold seenT; rw [if_neg (by rw [hwr]; decide)]
  exact hnext _ _ _ oQ ⟨i+1,ob,l,rfl,oQ,hob,by rw [hs0]; exact hat,by rw [hs0]; exact hok,rfl,rfl⟩
 obtain rfl:i=Zq.length:=by simp at hc0; omega
 refine au 3542160 ?_;refine bB hret (((g,_)::mkK Zq)) ?_;exact ⟨by rw [zhd (by rw [z_len]; exact hok)]; rfl,rfl⟩
abbrev vwA (v:VwT):AV:=.agg (vwC v)
theorem za7:∀ (A B:KV),Split (A++B) A B
 | [],B=>.none B
 | x::A,B=>.left (za7 A B)
theorem uW {l:List Int} {n k:Nat} {a:Int} (h:n<l.length):(l.set n a).getD k 0=if n=k then a else l.getD k 0:=by
 rw [lE,lX];by_cases e:n=k
 ·subst e; rw [if_pos rfl,if_pos h,if_pos rfl]; rfl
 ·rw [if_neg e,if_neg e,lE]
theorem ziE {f s:List Int} {w n:Nat} {a m:Int} {e:TypeId} {rw':Bool} (h:n<4) (hf:f.length=4) (hm:m=(n:Int)):zZ (.cells (vwC ⟨f.set n a,s,w⟩) e rw') (0+m.toNat*1) 1=some [intA a]:=by
 rw [fr_at h hm];show some [intA ((f.set n a).getD n 0)]=_;rw [uW oQ,if_pos rfl]
theorem zg7 {f s:List Int} {w n:Nat} {c m:Int} {e:TypeId} {rw':Bool} (h:n<4) (hs:s.length=4) (hm:m=(n:Int)):zZ (.cells (vwC ⟨f,s.set n c,w⟩) e rw') (4+m.toNat*1) 1=some [intA c]:=by
 rw [zjM h hm];show some [intA ((s.set n c).getD n 0)]=_;rw [uW oQ,if_pos rfl]
theorem zjd {f s:List Int} {w n:Nat} {a m:Int} {e:TypeId} (h:n<4) (hf:f.length=4) (hm:m=(n:Int)):putO (.cells (vwC ⟨f,s,w⟩) e true) (0+m.toNat*1) [intA a]=some (.cells (vwC ⟨f.set n a,s,w⟩) e true):=by
 subst hm
 match f,hf with
 | [x0,x1,x2,x3],_=>rcases lt4 h with rfl | rfl | rfl | rfl <;> rfl
theorem zg0 {f s:List Int} {w n:Nat} {c m:Int} {e:TypeId} (h:n<4) (hs:s.length=4) (hm:m=(n:Int)):putO (.cells (vwC ⟨f,s,w⟩) e true) (4+m.toNat*1) [intA c]=some (.cells (vwC ⟨f,s.set n c,w⟩) e true):=by
 subst hm
 match s,hs with
 | [x0,x1,x2,x3],_=>rcases lt4 h with rfl | rfl | rfl | rfl <;> rfl
theorem zm8 {f s:List Int} {w n:Nat} {a c:Int} (hv:VwOk ⟨f,s,w⟩) (hn:n<4) (hf:f.length=4) (hs:s.length=4) (ha:0<=a/\a<=100) (hc : -100<=c/\c<=100):VwOk ⟨f.set n a,s.set n c,w⟩:=by
 refine ⟨fun k=>?_,fun k=>?_,hv.wr⟩
 ·show 0<=(f.set n a).getD k 0/\(f.set n a).getD k 0<=100;rw [uW oQ];split
  ·exact ha
  ·exact hv.fr k
 ·show -100<=(s.set n c).getD k 0/\(s.set n c).getD k 0<=100;rw [uW oQ];split
  ·exact hc
  ·exact hv.st k
theorem set_set {l:List Int} {n:Nat} {a b:Int}:(l.set n a).set n b=l.set n b:=by rw [List.set_set]
theorem zlX {f s:List Int} {w n:Nat} {a a' m:Int} {e:TypeId} (h:n<4) (hf:f.length=4) (hm:m=(n:Int)):putO (.cells (vwC ⟨f.set n a,s,w⟩) e true) (0+m.toNat*1) [intA a']=some (.cells (vwC ⟨f.set n a',s,w⟩) e true):=by
 rw [zjd h (by rw [List.length_set,hf]) hm,set_set]
theorem zlZ {f s:List Int} {w n:Nat} {c c' m:Int} {e:TypeId} (h:n<4) (hs:s.length=4) (hm:m=(n:Int)):putO (.cells (vwC ⟨f,s.set n c,w⟩) e true) (4+m.toNat*1) [intA c']=some (.cells (vwC ⟨f,s.set n c',w⟩) e true):=by
 rw [zg0 h (by rw [List.length_set,hs]) hm,set_set]
def restA (ag:VwT->Bool) (w:Nat) (x:SkT) (l:List SkT) (n:Nat) (f s:List Int) (a:Int):List VwT:=(numsT a x.fhi).flatMap fun a=>(numsT x.slo x.shi).flatMap fun c=>viewT ag w l (n+1) (f.set n a) (s.set n c)
def restC (ag:VwT->Bool) (w:Nat) (x:SkT) (l:List SkT) (n:Nat) (f s:List Int) (a c:Int):List VwT:=(numsT c x.shi).flatMap fun c=>viewT ag w l (n+1) (f.set n a) (s.set n c)
theorem zg1 {ag:VwT->Bool} {w:Nat} {x:SkT} {l:List SkT} {n:Nat} {f s:List Int} {a:Int} (h:a<=x.fhi):restA ag w x l n f s a=restC ag w x l n f s a x.slo++restA ag w x l n f s (a+1):=by
 unfold restA restC;rw [zgU h,List.flatMap_cons]
theorem zjr {ag:VwT->Bool} {w:Nat} {x:SkT} {l:List SkT} {n:Nat} {f s:List Int} {a:Int} (h:¬ a<=x.fhi):restA ag w x l n f s a=[]:=by
 unfold restA;rw [zed h]; rfl
theorem zg2 {ag:VwT->Bool} {w:Nat} {x:SkT} {l:List SkT} {n:Nat} {f s:List Int} {a c:Int} (h:c<=x.shi):restC ag w x l n f s a c=viewT ag w l (n+1) (f.set n a) (s.set n c)++restC ag w x l n f s a (c+1):=by
 unfold restC;rw [zgU h,List.flatMap_cons]
theorem zjs {ag:VwT->Bool} {w:Nat} {x:SkT} {l:List SkT} {n:Nat} {f s:List Int} {a c:Int} (h:¬ c<=x.shi):restC ag w x l n f s a c=[]:=by
 unfold restC;rw [zed h]; rfl
instance:Cal tp 222:={}
instance:Cal tp 223:={}
instance:zd tp 362 false 1:={}
instance:zd tp 363 false 1:={}
theorem vwNext0 {main T} (hT:zh tp main T) {gm} {st wr:Int} {g lp jb jw jy jn w:Nat} {Zq:List (Nat×SkT)} (hb:StpOk (skB st wr Zq)) {J:List VwT->KV->Prop} {D:KV->Prop} {tot:List VwT} (hy:YieldG tp T gm ((jb,.cells (stpC st wr g Zq) 163 true)::(jw,.cells [.v (.int .u64 (w:Nat))] 173 true)::(g,skO Zq)::mkK Zq) vwA lp J D tot) {n:Nat} {f s:List Int} {pre:List VwT} {K1:KV} (hd:(Zq.map (·.2)).drop n=[]) (hnl:n<=Zq.length) (hf:f.length=4) (hs:s.length=4) (hv:VwOk ⟨f,s,w⟩) (hpre:pre++viewT (agreeT st (Zq.map (·.2))) w [] n f s <+: tot) (hJ:J pre K1) :
  zg tp T gm 222 [.agg (vwC ⟨f,s,w⟩),intA (n:Int),.ptr jb 0,.ptr jy 0,.ptr jn 0] ((jy,.cells [.yl lp] 362 true)::(jn,.cells [.fn 222 [] [.ptr jb 0,.ptr jy 0,.ptr jn 0]] 363 true)::(jb,.cells (stpC st wr g Zq) 163 true)::(jw,.cells [.v (.int .u64 (w:Nat))] 173 true)::(g,skO Zq)::(mkK Zq++K1)) (fun r K'=>∃ K2,K'=(jy,.cells [.yl lp] 362 true)::(jn,.cells [.fn 222 [] [.ptr jb 0,.ptr jy 0,.ptr jn 0]] 363 true)::(jb,.cells (stpC st wr g Zq) 163 true)::(jw,.cells [.v (.int .u64 (w:Nat))] 173 true)::(g,skO Zq)::(mkK Zq++K2)/\((r=zm true/\J (pre++viewT (agreeT st (Zq.map (·.2))) w [] n f s) K2)\/(r=zm false/\D K2))):=by
 refine ze 78 hT Tryz.func222 fun Y hret=>?_;have hz:=zN hb;have hst:4<=st/\st<=24:=hb.st;refine au 21042 ?_;intro jz hjz;refine au 937280690670670142235 ?_;constructor<;>intro hc0
 ·refine au 68068042 ?_;refine bD Z Z Z Z (zh1 hT hb hv) ?_ (hs:=(.right (.right (.right (.right (.right (.left (za7 _ _))))))));rintro r1 K2 ⟨rfl,rfl⟩;refine au 0 ?_;refine bN (K':=(jz,_)::(jy,_)::(jn,_)::(jb,_)::(jw,_)::(g,_)::(mkK Zq++K1)) (List.perm_append_comm_assoc ((g,_)::mkK Zq) [(jz,_),(jy,_),(jn,_),(jb,_),(jw,_)] K1) ?_;refine au 1300 ?_;refine bF 19 (fun g2_5=>?_) (fun g2_5=>?_)
  ·refine au 35260888 ?_;refine bB hret (_) ?_ (hs:=(.right (.all _)));exact ⟨K1,rfl,.inl ⟨rfl,by rw [show viewT (agreeT st (Zq.map (·.2))) w [] n f s=[] by unfold viewT; rw [if_neg (by simpa using g2_5)],lR]; exact hJ⟩⟩
  have hvt:viewT (agreeT st (Zq.map (·.2))) w [] n f s=[⟨f,s,w⟩]:=by unfold viewT; rw [if_pos (by simpa using g2_5)]
  refine au 680690 ?_;refine TK.callF' Z Z Z Z Z (hy pre ⟨f,s,w⟩ K1 (by rw [<- hvt]; exact hpre) hJ) (.right (.right (.right (.all _)))) fun r4 K5 h6=>?_;rcases h6 with ⟨K3,rfl,⟨rfl,hJ3⟩ | ⟨rfl,hD⟩⟩
  ·refine au 0 ?_;refine bN (K':=(jz,_)::(jy,_)::(jn,_)::(jb,_)::(jw,_)::(g,_)::(mkK Zq++K3)) (lH (l₁:=(jb,_)::(jw,_)::(g,_)::(mkK Zq++K3)) (l₂:=[(jz,_),(jy,_),(jn,_)])) ?_;refine au 35250 ?_;refine bB hret (_) ?_ (hs:=(.right (.all _)));exact ⟨K3,rfl,.inl ⟨rfl,by rw [hvt]; exact hJ3⟩⟩
  ·refine au 0 ?_;refine bN (K':=(jz,_)::(jy,_)::(jn,_)::(jb,_)::(jw,_)::(g,_)::(mkK Zq++K3)) (lH (l₁:=(jb,_)::(jw,_)::(g,_)::(mkK Zq++K3)) (l₂:=[(jz,_),(jy,_),(jn,_)])) ?_;refine au 35250 ?_;refine bB hret (_) ?_ (hs:=(.right (.all _)));exact ⟨K3,rfl,.inr ⟨rfl,hD⟩⟩
 exact absurd (show ((n:Int)==(Zq.length:Int))=true by have h1:=congrArg List.length hd; rw [List.length_drop,z_len] at h1; simp at h1; simp; omega) (by rw [hc0]; decide)
theorem vwNextS {main T} (hT:zh tp main T) {gm} {st wr:Int} {g lp jb jw jy jn w:Nat} {Zq:List (Nat×SkT)} (hb:StpOk (skB st wr Zq)) {J:List VwT->KV->Prop} {D:KV->Prop} {tot:List VwT} (hy:YieldG tp T gm ((jb,.cells (stpC st wr g Zq) 163 true)::(jw,.cells [.v (.int .u64 (w:Nat))] 173 true)::(g,skO Zq)::mkK Zq) vwA lp J D tot) {l:List SkT} {x:SkT} {n:Nat} (ih:∀ {f s:List Int} {pre:List VwT} {K1:KV},f.length=4->s.length=4->VwOk ⟨f,s,w⟩->pre++viewT (agreeT st (Zq.map (·.2))) w l (n+1) f s <+: tot->J pre K1 ->
  zg tp T gm 222 [.agg (vwC ⟨f,s,w⟩),intA ((n+1:Nat):Int),.ptr jb 0,.ptr jy 0,.ptr jn 0] ((jy,.cells [.yl lp] 362 true)::(jn,.cells [.fn 222 [] [.ptr jb 0,.ptr jy 0,.ptr jn 0]] 363 true)::(jb,.cells (stpC st wr g Zq) 163 true)::(jw,.cells [.v (.int .u64 (w:Nat))] 173 true)::(g,skO Zq)::(mkK Zq++K1)) (fun r K'=>∃ K2,K'=(jy,.cells [.yl lp] 362 true)::(jn,.cells [.fn 222 [] [.ptr jb 0,.ptr jy 0,.ptr jn 0]] 363 true)::(jb,.cells (stpC st wr g Zq) 163 true)::(jw,.cells [.v (.int .u64 (w:Nat))] 173 true)::(g,skO Zq)::(mkK Zq++K2)/\((r=zm true/\J (pre++viewT (agreeT st (Zq.map (·.2))) w l (n+1) f s) K2)\/(r=zm false/\D K2)))) {f s:List Int} {pre:List VwT} {K1:KV} (hd:(Zq.map (·.2)).drop n=(x::l)) (hnl:n<=Zq.length) (hf:f.length=4) (hs:s.length=4) (hv:VwOk ⟨f,s,w⟩) (hpre:pre++viewT (agreeT st (Zq.map (·.2))) w (x::l) n f s <+: tot) (hJ:J pre K1) :
  zg tp T gm 222 [.agg (vwC ⟨f,s,w⟩),intA (n:Int),.ptr jb 0,.ptr jy 0,.ptr jn 0] ((jy,.cells [.yl lp] 362 true)::(jn,.cells [.fn 222 [] [.ptr jb 0,.ptr jy 0,.ptr jn 0]] 363 true)::(jb,.cells (stpC st wr g Zq) 163 true)::(jw,.cells [.v (.int .u64 (w:Nat))] 173 true)::(g,skO Zq)::(mkK Zq++K1)) (fun r K'=>∃ K2,K'=(jy,.cells [.yl lp] 362 true)::(jn,.cells [.fn 222 [] [.ptr jb 0,.ptr jy 0,.ptr jn 0]] 363 true)::(jb,.cells (stpC st wr g Zq) 163 true)::(jw,.cells [.v (.int .u64 (w:Nat))] 173 true)::(g,skO Zq)::(mkK Zq++K2)/\((r=zm true/\J (pre++viewT (agreeT st (Zq.map (·.2))) w (x::l) n f s) K2)\/(r=zm false/\D K2))):=by
 refine ze 78 hT Tryz.func222 fun Y hret=>?_;have hz:=zN hb;have hst:4<=st/\st<=24:=hb.st;refine au 21042 ?_;intro jz hjz;refine au 937280690670670142235 ?_;constructor<;>intro hc0
 ·have:=congrArg List.length hd; rw [List.length_drop,z_len,lZ] at this; simp at hc0; omega
 have hl7:=congrArg List.length hd;rw [List.length_drop,z_len,lZ] at hl7;have hnz:n<Zq.length:=by omega
 obtain ⟨p,hp⟩:∃ p,Zq[n]? =some p:=⟨_,lA hnz⟩;have hpx:p.2=x:=by
  have h1:=congrArg (fun l=>l[0]?) hd;simp only [List.getElem?_drop,Nat.add_zero,lQ,hp,Option.map_some,List.getElem?_cons_zero,Option.some.injEq] at h1;exact h1
 have hx:=zOk hb hp;rw [hpx] at hx;have hxf:=hx.fr;have hxs:=hx.se;subst hpx;refine au 360169067067042120 ?_;refine bH Z (zK Z Z zd.h mQ (sk_at hp Z)) ?_;refine au 220 ?_;intro jx hjx;refine au 67069067067014223170 ?_;refine bH Z (yC Z Z Z ArEl.h oQ oQ) ?_;refine TK.st Z Z Z (zt Z Z zd.h Z Z mQ (zjd oQ hf Z)) uQ (putN Z) ?_;refine au 1303 ?_;refine bA [1,2,3,4,5,8] ?_;refine bE (fun n1 env K=>∃ (a:Int) (s1:List Int) (pre1:List VwT) (K2:KV),n1=(p.2.fhi+1 - a).toNat/\(p.2.flo<=a/\a<=p.2.fhi+1)/\s1.length=4/\(∀ c,s1.set n c=s.set n c)/\J pre1 K2/\pre1++restA (agreeT st (Zq.map (·.2))) w p.2 l n f s a=pre++restA (agreeT st (Zq.map (·.2))) w p.2 l n f s p.2.flo/\env=zJ 78 [(1,intA (n:Int)),(2,.ptr jb 0),(3,.ptr jy 0),(4,.ptr jn 0),(5,.ptr jz 0),(8,.ptr jx 0)]/\K=(jx,.cells (skC p) 160 true)::(jz,.cells (vwC ⟨f.set n a,s1,w⟩) 175 true)::(jy,.cells [.yl lp] 362 true)::(jn,.cells [.fn 222 [] [.ptr jb 0,.ptr jy 0,.ptr jn 0]] 363 true)::(jb,.cells (stpC st wr g Zq) 163 true)::(jw,.cells [.v (.int .u64 (w:Nat))] 173 true)::(g,skO Zq)::(mkK Zq++K2)) _ ⟨p.2.flo,s,pre,K1,rfl,oQ,hs,fun _=>rfl,hJ,rfl,rfl,rfl⟩ fun n1 env K hI hnext=>?_;obtain ⟨a,s1,pre1,K2,rfl,ha,hs1,hss,hJ1,hE,rfl,rfl⟩:=hI;refine au 22 ?_;refine bL [0,1,2,3,4,5,6,7] ?_;refine ad [[1,1],[3,5]] ?_;refine bU [36,37] Z (yC Z Z Z ArEl.h oQ oQ) ?_;refine bT [38] Z (hq:=zp Z Z zd.h (mC _) (ziE oQ hf Z)) (h:=?_);refine ad [[3,8],[3,40],[10,41],[4,39,42],[14]] ?_;refine au 9 ?_;constructor<;>intro hc1
 ·have hah:a<=p.2.fhi:=of_decide_eq_true hc1;refine au 6706906706701421302120 ?_;refine bH Z (yC Z Z Z ArEl.h oQ oQ) ?_;refine TK.st Z Z Z (zt Z Z zd.h Z Z mQ (zg0 oQ hs1 Z)) uQ (putN Z) ?_;refine au 1303 ?_;refine bA [1,2,3,4,5,8] ?_;rw [hss p.2.slo];refine bE (fun n1 env K=>∃ (c:Int) (pre2:List VwT) (K3:KV),n1=(p.2.shi+1 - c).toNat/\(p.2.slo<=c/\c<=p.2.shi+1)/\J pre2 K3/\pre2++restC (agreeT st (Zq.map (·.2))) w p.2 l n f s a c=pre1++restC (agreeT st (Zq.map (·.2))) w p.2 l n f s a p.2.slo/\env=zJ 78 [(1,intA (n:Int)),(2,.ptr jb 0),(3,.ptr jy 0),(4,.ptr jn 0),(5,.ptr jz 0),(8,.ptr jx 0)]/\K=(jx,.cells (skC p) 160 true)::(jz,.cells (vwC ⟨f.set n a,s.set n c,w⟩) 175 true)::(jy,.cells [.yl lp] 362 true)::(jn,.cells [.fn 222 [] [.ptr jb 0,.ptr jy 0,.ptr jn 0]] 363 true)::(jb,.cells (stpC st wr g Zq) 163 true)::(jw,.cells [.v (.int .u64 (w:Nat))] 173 true)::(g,skO Zq)::(mkK Zq++K3)) _ ⟨p.2.slo,pre1,K2,rfl,oQ,hJ1,rfl,rfl,rfl⟩ fun n1 env K hI hnext1=>?_;obtain ⟨c,pre2,K3,rfl,hc,hJ2,hE2,rfl,rfl⟩:=hI;refine au 22 ?_;refine bL [0,1,2,3,4,5,6,7] ?_;refine ad [[1,1],[3,5]] ?_;refine bU [57,58] Z (yC Z Z Z ArEl.h oQ oQ) ?_;refine bT [59] Z (hq:=zp Z Z zd.h (mC _) (zg7 oQ hs Z)) (h:=?_);refine ad [[3,8],[3,61],[10,62],[4,60,63],[14]] ?_;refine au 9 ?_;constructor<;>intro hc2
  ·have hcs:c<=p.2.shi:=of_decide_eq_true hc2;refine au 2301680690421302120 ?_;refine bD Z Z Z Z (ih (f:=f.set n a) (s:=s.set n c) (pre:=pre2) (K1:=K3) (by rw [List.length_set,hf]) (by rw [List.length_set,hs]) (zm8 hv oQ hf hs oQ oQ) (List.IsPrefix.trans ⟨restC (agreeT st (Zq.map (·.2))) w p.2 l n f s a (c+1)++restA (agreeT st (Zq.map (·.2))) w p.2 l n f s (a+1),by rw [List.append_assoc,<- List.append_assoc (viewT _ _ _ _ _ _),<- zg2 hcs,<- List.append_assoc,hE2,List.append_assoc,<- zg1 hah,hE]; rfl⟩ hpre) hJ2) ?_ (hs:=(.right (.right (.all _))));rintro r1 K2 h3;rcases h3 with ⟨K4,rfl,⟨rfl,hJ4⟩ | ⟨rfl,hD⟩⟩
   ·refine au 0 ?_;refine bN (K':=(jx,_)::(jz,_)::(jy,_)::(jn,_)::(jb,_)::(jw,_)::(g,_)::(mkK Zq++K4)) (lH (l₁:=(jy,_)::(jn,_)::(jb,_)::(jw,_)::(g,_)::(mkK Zq++K4)) (l₂:=[(jx,_),(jz,_)])) ?_;refine au 670141401201903300 ?_;refine bH Z (yC Z Z Z ArEl.h oQ oQ) ?_;refine bH Z (zp Z Z zd.h mQ (zg7 oQ hs Z)) ?_;refine au 670230 ?_;refine bH Z (yC Z Z Z ArEl.h oQ oQ) ?_;refine TK.st Z Z Z (zt Z Z zd.h Z Z mQ (zlZ oQ hs Z)) uQ (putN Z) ?_;refine au 3 ?_;refine bA [1,2,3,4,5,8] ?_;refine bC (((jx,_)::(jz,_)::(jy,_)::(jn,_)::(jb,_)::(jw,_)::(g,_)::(mkK Zq++K4))) ?_;exact hnext1 _ _ _ oQ ⟨c+1,_,K4,rfl,oQ,hJ4,by rw [<- hE2,zg2 hcs,List.append_assoc],rfl,rfl⟩
   ·refine au 0 ?_;refine bN (K':=(jx,_)::(jz,_)::(jy,_)::(jn,_)::(jb,_)::(jw,_)::(g,_)::(mkK Zq++K4)) (lH (l₁:=(jy,_)::(jn,_)::(jb,_)::(jw,_)::(g,_)::(mkK Zq++K4)) (l₂:=[(jx,_),(jz,_)])) ?_;refine au 35421803300 ?_;refine bB hret (_) ?_ (hs:=(.right (.right (.all _))));exact ⟨K4,rfl,.inr ⟨rfl,hD⟩⟩
  refine au 67014140160 ?_;refine bH Z (yC Z Z Z ArEl.h oQ oQ) ?_;refine bH Z (zp Z Z zd.h mQ (ziE oQ hf Z)) ?_;refine au 670230 ?_;refine bH Z (yC Z Z Z ArEl.h oQ oQ) ?_;refine TK.st Z Z Z (zt Z Z zd.h Z Z mQ (zlX oQ hf Z)) uQ (putN Z) ?_;refine au 3 ?_;refine bA [1,2,3,4,5,8] ?_;refine bC (((jx,_)::(jz,_)::(jy,_)::(jn,_)::(jb,_)::(jw,_)::(g,_)::(mkK Zq++K3))) ?_;exact hnext _ _ _ oQ ⟨a+1,s.set n c,pre2,K3,rfl,oQ,by rw [List.length_set,hs],fun _=>set_set,hJ2,by rw [<- hE,zg1 hah,<- List.append_assoc,<- hE2,zjs (of_decide_eq_false hc2),lR],rfl,rfl⟩
 refine au 3542160 ?_;refine bB hret (_) ?_ (hs:=(.right (.right (.all _))));exact ⟨K2,rfl,.inl ⟨rfl,by rw [show viewT (agreeT st (Zq.map (·.2))) w (p.2::l) n f s=restA (agreeT st (Zq.map (·.2))) w p.2 l n f s p.2.flo from rfl,<- hE,zjr (of_decide_eq_false hc1),lR]; exact hJ1⟩⟩
theorem zeH {main T} (hT:zh tp main T) {gm} {st wr:Int} {g lp jb jw jy jn w:Nat} {Zq:List (Nat×SkT)} (hb:StpOk (skB st wr Zq)) {J:List VwT->KV->Prop} {D:KV->Prop} {tot:List VwT} (hy:YieldG tp T gm ((jb,.cells (stpC st wr g Zq) 163 true)::(jw,.cells [.v (.int .u64 (w:Nat))] 173 true)::(g,skO Zq)::mkK Zq) vwA lp J D tot):∀ (l:List SkT) (n:Nat) (f s:List Int) (pre:List VwT) (K1:KV),(Zq.map (·.2)).drop n=l->n<=Zq.length->f.length=4->s.length=4->VwOk ⟨f,s,w⟩->pre++viewT (agreeT st (Zq.map (·.2))) w l n f s <+: tot->J pre K1 ->
  zg tp T gm 222 [.agg (vwC ⟨f,s,w⟩),intA (n:Int),.ptr jb 0,.ptr jy 0,.ptr jn 0] ((jy,.cells [.yl lp] 362 true)::(jn,.cells [.fn 222 [] [.ptr jb 0,.ptr jy 0,.ptr jn 0]] 363 true)::(jb,.cells (stpC st wr g Zq) 163 true)::(jw,.cells [.v (.int .u64 (w:Nat))] 173 true)::(g,skO Zq)::(mkK Zq++K1)) (fun r K'=>∃ K2,K'=(jy,.cells [.yl lp] 362 true)::(jn,.cells [.fn 222 [] [.ptr jb 0,.ptr jy 0,.ptr jn 0]] 363 true)::(jb,.cells (stpC st wr g Zq) 163 true)::(jw,.cells [.v (.int .u64 (w:Nat))] 173 true)::(g,skO Zq)::(mkK Zq++K2)/\((r=zm true/\J (pre++viewT (agreeT st (Zq.map (·.2))) w l n f s) K2)\/(r=zm false/\D K2)))
 | [],n,f,s,pre,K1,h1,h2,h3,h4,h5,h6,h7=>vwNext0 hT hb hy h1 h2 h3 h4 h5 h6 h7
 | x::l,n,f,s,pre,K1,h1,h2,h3,h4,h5,h6,h7=>by
  have hl:=congrArg List.length h1;rw [List.length_drop,z_len,lZ] at hl;have hd:(Zq.map (·.2)).drop (n+1)=l:=by
   have:=congrArg (List.drop 1) h1;rw [List.drop_drop] at this;exact this
  exact vwNextS hT hb hy (fun {f s pre K1} q1 q2 q3 q4 q5=>zeH hT hb hy l (n+1) f s pre K1 hd oQ q1 q2 q3 q4 q5) h1 h2 h3 h4 h5 h6 h7
theorem zmj {w:Nat} (h:w<=1000):VwOk ⟨zero4,zero4,w⟩:=by
 have h0:∀ k,zero4.getD k 0=0:=fun k=>by
  match k with
  | 0=>rfl
  | 1=>rfl
  | 2=>rfl
  | 3=>rfl
  | k+4=>rfl
 exact ⟨fun k=>by show 0<=zero4.getD k 0/\_; rw [h0]; exact ⟨by decide,by decide⟩,fun k=>by show -100<=zero4.getD k 0/\_; rw [h0]; exact ⟨by decide,by decide⟩,h⟩
theorem zf9 {ag:VwT->Bool} {w:Nat} {st:Int}:∀ (l:List SkT) (n:Nat) (f s:List Int),(∀ x∈l,SkOk st x)->(viewT ag w l n f s).length<=9 ^ l.length
 | [],n,f,s,_=>by
  unfold viewT;split <;> simp
 | x::l,n,f,s,h=>by
  have hx:=h x sQ;have h1:=hx.fr;have h2:=hx.se;unfold viewT;have k1:(numsT x.flo x.fhi).length<=3:=by unfold numsT; rw [lJ,List.length_range]; omega
  have k2:(numsT x.slo x.shi).length<=3:=by unfold numsT; rw [lJ,List.length_range]; omega
  refine mT (kR (n:=3*9 ^ l.length) fun a _=>mT (kR (n:=9 ^ l.length) fun c _=>zf9 l (n+1) _ _ fun y hy=>h y (lL _ hy)) (Nat.mul_le_mul_right _ k2)) ?_;refine mT (Nat.mul_le_mul_right _ k1) ?_;rw [lZ,Nat.pow_succ,<- Nat.mul_assoc,Nat.mul_comm (9 ^ l.length) 9];exact mL _
theorem zeG {st wr:Int} {Zq:List (Nat×SkT)} (hb:StpOk (skB st wr Zq)) (w:Nat):(viewsT (skB st wr Zq) w).length<=6561:=by
 have hz:=zN hb;refine mT (zf9 (st:=st) (Zq.map (·.2)) 0 zero4 zero4 (show ∀ x∈Zq.map (·.2),SkOk st x from hb.sk)) ?_;rw [z_len];exact mT (Nat.pow_le_pow_right dQ hz.2) dQ
theorem zi8:∀ u:Nat,u<16->0<u->onesT 4 u=1+onesT 4 (u &&& (u - 1))/\(u &&& (u - 1))<u:=by decide
theorem zlV:∀ u:Nat,u<16->onesT 4 u<=4:=by decide
instance:BlOf tp 175 [(0,4),(4,4),(8,1)]:={}
instance:Cal tp 221:={}
instance:TyZ tp 175 [.int .i64 0,.int .i64 0,.int .i64 0,.int .i64 0,.int .i64 0,.int .i64 0,.int .i64 0,.int .i64 0,.int .u64 0]:={}
instance:TyZA tp 363 [.v (.nilFunc)]:={}
theorem zgF {main T} (hT:zh tp main T) {gm} {st wr:Int} {g lp jb jw w:Nat} {Zq:List (Nat×SkT)} (hb:StpOk (skB st wr Zq)) (hw:w<=1000) {J:List VwT->KV->Prop} {D:KV->Prop} {K1:KV} (hy:YieldG tp T gm ((jb,.cells (stpC st wr g Zq) 163 true)::(jw,.cells [.v (.int .u64 (w:Nat))] 173 true)::(g,skO Zq)::mkK Zq) vwA lp J D (viewsT (skB st wr Zq) w)) (hJ:J [] K1) :
  zg tp T gm 221 [.yl lp,.ptr jb 0,.ptr jw 0] (((jb,.cells (stpC st wr g Zq) 163 true)::(jw,.cells [.v (.int .u64 (w:Nat))] 173 true)::(g,skO Zq)::mkK Zq)++K1) (fun _ K'=>∃ K2,K'=((jb,.cells (stpC st wr g Zq) 163 true)::(jw,.cells [.v (.int .u64 (w:Nat))] 173 true)::(g,skO Zq)::mkK Zq)++K2/\(J (viewsT (skB st wr Zq) w) K2\/D K2)):=by
 refine ze 10 hT Tryz.func221 fun Y hret=>?_;refine au 21042 ?_;intro jy hjy;refine au 220423 ?_;intro jn hjn;refine au 3170320423 ?_;refine bN (K':=(jy,_)::(jn,_)::(jb,_)::(jw,_)::(g,_)::(mkK Zq++K1)) (List.Perm.swap _ _ _) ?_;refine au 4606906904 ?_;refine bD Z Z Z Z (zeH hT hb hy (Zq.map (·.2)) 0 zero4 zero4 [] K1 Z (mN _) Z Z (zmj hw) (List.prefix_refl _) hJ) ?_ (hs:=(.all _));rintro r1 K2 h3;rcases h3 with ⟨K3,rfl,⟨rfl,hJ3⟩ | ⟨rfl,hD⟩⟩
 ·refine au 0 ?_;refine bN (K':=(jy,_)::(jn,_)::(jb,_)::(jw,_)::(g,_)::(mkK Zq++K3)) (by rw [lR]) ?_;refine au 3 ?_;refine TK.rt0 hret (_) ?_ (hs:=(.right (.right (.all _))));exact ⟨K3,rfl,.inl hJ3⟩
 ·refine au 0 ?_;refine bN (K':=(jy,_)::(jn,_)::(jb,_)::(jw,_)::(g,_)::(mkK Zq++K3)) (by rw [lR]) ?_;refine au 3 ?_;refine TK.rt0 hret (_) ?_ (hs:=(.right (.right (.all _))));exact ⟨K3,rfl,.inr hD⟩
theorem zh4 {main T} (hT:zh tp main T) {gm} {st wr:Int} {g:Nat} {Zq:List (Nat×SkT)} {w:Nat} :
  zg tp T gm 197 [.agg (stpC st wr g Zq),.v (.int .u64 (w:Nat))] [] (fun r K'=>∃ jb jw,r=.fn 221 [] [.ptr jb 0,.ptr jw 0]/\K'=[(jb,.cells (stpC st wr g Zq) 163 true),(jw,.cells [.v (.int .u64 (w:Nat))] 173 true)]):=by
 refine ze 6 hT Tryz.func197 fun Y hret=>?_;refine au 21042 ?_;intro jb hjb;refine au 210 ?_;intro jw hjw;refine au 353204235 ?_;refine bB hret [(jb,_),(jw,_)] ?_;exact ⟨jb,jw,rfl,rfl⟩
theorem zjK {main T} (hT:zh tp main T) {gm} {w:Nat} (hw:w<16) :
  zg tp T gm 195 [.v (.int .u64 (w:Nat))] [] (fun r K'=>r=intA (onesT 4 w:Nat)/\K'=[]):=by
 refine ze 13 hT Tryz.func195 fun Y hret=>?_;refine au 130235423542 ?_;refine bA [0,3] ?_;refine bE (fun n1 env K=>∃ (u c:Nat),u=n1/\u<16/\c+onesT 4 u=onesT 4 w/\env=zJ 13 [(0,.v (.int .u64 (u:Nat))),(3,intA (c:Nat))]/\K=[]) w ⟨w,0,rfl,hw,oQ,rfl,rfl⟩ fun n1 env K hI hnext=>?_;obtain ⟨u,c,rfl,hu,hE,rfl,rfl⟩:=hI;refine au 9371422 ?_;constructor<;>intro hc0
 ·have hu1:0<u:=by simp at hc0; omega
  have hs:=zi8 u hu hu1;have hcl:=zlV w hw;have hcu:((u:Int) - 1)=((u - 1:Nat):Int):=by omega
  refine au 11414035230141302120 ?_;refine bH Z (zmY Z Z Z oQ) ?_;rw [hcu];refine bH Z (zjh Z Z Z oQ oQ) ?_;refine au 35 ?_;refine bA [0,3] ?_;exact hnext _ _ _ hs.2 ⟨u &&& (u - 1),c+1,rfl,oQ,oQ,rfl,rfl⟩
 have hu0:u=0:=by simp at hc0; omega
 refine au 35142160 ?_;refine TK.rta hret ?_;exact ⟨by rw [<- hE,hu0]; rfl,rfl⟩
theorem zli {st wr:Int} {Zq:List (Nat×SkT)} (hb:StpOk (skB st wr Zq)) {n:Nat} (hn:n<=16):(allI (skB st wr Zq) n).length<=104976:=by
 unfold allI;refine mT (kR (n:=6561) fun w _=>?_) ?_
 ·split
  ·exact zeG hb w
  ·exact mN _
 ·rw [List.length_range]; omega
theorem pow4 {n:Nat} (h:n<=4):2 ^ n<=16:=mT (Nat.pow_le_pow_right dQ h) dQ
theorem uz:∀ {L K:KV},K.Perm L->Split K L []
 | [],K,h=>by rw [h.eq_nil]; exact .none []
 | x::L,K,h=>by
  obtain ⟨R,hR⟩:=kf (h.symm.subset (List.mem_cons_self (a:=x) (l:=L)));exact .rem hR (uz (List.Perm.cons_inv (hR.perm.symm.trans h)))
instance:ApOf tp 164 175 9 72:={}
instance:SlEl tp 164 175 9:={}
instance:zd tp 164 false 1:={}
instance:TyZA tp 175 [.v (.int .i64 0),.v (.int .i64 0),.v (.int .i64 0),.v (.int .i64 0),.v (.int .i64 0),.v (.int .i64 0),.v (.int .i64 0),.v (.int .i64 0),.v (.int .u64 0)]:={}
theorem zgy {main T} (hT:zh tp main T) {gm} {st wr:Int} {g jb jw j w:Nat} {Zq:List (Nat×SkT)} {l:List VwT} (hb:StpOk (skB st wr Zq)) (hw:w<=1000) (hl:l.length<=200000) :
  zg tp T gm 196 [.row j l.length,.fn 221 [] [.ptr jb 0,.ptr jw 0]] ((j,.row (l.flatMap vwC) 175 9)::((jb,.cells (stpC st wr g Zq) 163 true)::(jw,.cells [.v (.int .u64 (w:Nat))] 173 true)::(g,skO Zq)::mkK Zq)) (fun r K'=>∃ j3,r=.row j3 (l++viewsT (skB st wr Zq) w).length/\K'=(j3,.row ((l++viewsT (skB st wr Zq) w).flatMap vwC) 175 9)::((jb,.cells (stpC st wr g Zq) 163 true)::(jw,.cells [.v (.int .u64 (w:Nat))] 173 true)::(g,skO Zq)::mkK Zq)):=by
 refine vo 13 hT Tryz.func196 fun Y hro hret=>?_;refine au 21042 ?_;intro js hjs;refine au 1303142235 ?_;refine TK.rangeG hT (Fx:=((jb,.cells (stpC st wr g Zq) 163 true)::(jw,.cells [.v (.int .u64 (w:Nat))] 173 true)::(g,skO Zq)::mkK Zq)) (ar:=vwA) (tot:=viewsT (skB st wr Zq) w) (J:=fun pre K1=>∃ j3,K1=[(js,.cells [.row j3 (l++pre).length] 164 true),(j3,.row ((l++pre).flatMap vwC) 175 9)]) (D:=fun _ _=>False) rfl hro rfl Cal.h (uz (lH (l₁:=[(js,_),(j,_)]))) ⟨j,by rw [lR] <;> rfl⟩ (fun l J' D' K1 hy hJ'=>zgF hT hb hw hy hJ') (fun Y' lq lo lb pre y K1 hbegin hfin hout hpre hJ=>?_) (fun d K2 hJ=>?_) (fun d cc K2 hD=>?_)
 ·obtain ⟨j3,rfl⟩:=hJ;refine bN (K':=(js,_)::(j3,_)::(lq,_)::(jb,_)::(jw,_)::(g,_)::mkK Zq) (lH (l₁:=(lq,_)::(jb,_)::(jw,_)::(g,_)::mkK Zq) (l₂:=[(js,_),(j3,_)])) ?_;have hpl:(l++pre).length<=300000:=by
   have h1:=hpre.length_le;have h2:=zeG hb w;rw [lF] at h1 ⊢;omega
  simp only [cA];refine au 2204 ?_;intro jt hjt;refine au 3170 ?_;refine hbegin _ _ _ _ _ uQ ?_;refine au 6806904130 ?_;refine bI Z Z Z (zG (l:=[_,_,_,_,_,_,_,_,_]) Z SlEl.h TyZ.h dQ dQ Z) (fun _=>zy rfl tQ) fun j1 hj1=>?_;refine TK.appR Z Z Z (a_app Z ApOf.h Z mQ (yk vwC 9 (fun _=>rfl) _) rfl (yS (ln:=[_,_,_,_,_,_,_,_,_]) mQ dQ sQ rfl) oQ rfl (by unfold maxLen; omega) oQ) (fun _=>uQ) (fun _=>zy rfl tQ) fun j2=>?_;refine au 1403170 ?_;have e1:(l++(pre++[y])).length=(l++pre).length+1:=by simp only [lF,lZ,List.length_nil]; omega
  have e2:(l++(pre++[y])).flatMap vwC=(l++pre).flatMap vwC++vwC y:=by simp only [List.flatMap_append,List.flatMap_cons,List.flatMap_nil,lR,List.append_assoc]
  refine bC ((js,_)::(j2,_)::(lq,_)::(jb,_)::(jw,_)::(g,_)::mkK Zq) ?_;exact hfin _ _ [(js,_),(j2,_)] [] (uz (lH (l₁:=[(js,_),(j2,_)]))) ⟨j2,by rw [e1,e2] <;> rfl⟩
 ·obtain ⟨j3,rfl⟩:=hJ;simp only [List.cons_append,lC,lR];refine bN (K':=(js,_)::(j3,_)::(d,_)::(jb,_)::(jw,_)::(g,_)::mkK Zq) (lH (l₁:=(d,_)::(jb,_)::(jw,_)::(g,_)::mkK Zq) (l₂:=[(js,_),(j3,_)])) ?_;refine au 3569042140 ?_;refine TK.leave (.ret _) fun A hA=>hret _ _ _ _ (((j3,_)::((jb,_)::(jw,_)::(g,_)::mkK Zq))) (((j3,_)::((jb,_)::(jw,_)::(g,_)::mkK Zq))) _ _ _ (.inr rfl) (by repeat (first | exact Split.none _ | exact Split.all _ | (apply Split.rem; repeat (first | exact Rem.head | apply Rem.tail)) | apply Split.right)) sQ sQ (by repeat (first | exact Split.none _ | exact Split.all _ | (apply Split.rem; repeat (first | exact Rem.head | apply Rem.tail)) | apply Split.right)) (kl (zS Z)) ?_ A hA;exact ⟨j3,rfl,rfl⟩
 ·exact hD.elim
instance:BlOf tp 166 [(0,3),(3,1)]:={}
instance:Cal tp 153:={}
instance:Cal tp 156:={}
instance:Cal tp 194:={}
instance:Cal tp 195:={}
instance:Cal tp 196:={}
instance:Cal tp 197:={}
instance:zl tp 166 0 0 true 3:={}
instance:zl tp 166 1 3 false 1:={}
instance:zd tp 166 true 4:={}
instance:TyZ tp 166 [.int .i64 0,.int .i64 0,.slice none 0 0,.slice none 0 0]:={}
instance:TyZA tp 166 [.v (.int .i64 0),.v (.int .i64 0),.v (.slice none 0 0),.v (.slice none 0 0)]:={}
instance:Und tp 164 (.slice 175):={}
theorem zfY {main T} (hT:zh tp main T) {gm} {st wr:Int} {g:Nat} {Zq:List (Nat×SkT)} (hb:StpOk (skB st wr Zq)) :
  zg tp T gm 156 [.agg (stpC st wr g Zq)] ((g,skO Zq)::mkK Zq) (fun r K'=>∃ jo,r=.row jo (allT (skB st wr Zq)).length/\K'=(jo,.row ((allT (skB st wr Zq)).flatMap vwC) 175 9)::(g,skO Zq)::mkK Zq):=by
 refine ze 26 hT Tryz.func156 fun Y hret=>?_;refine au 0 ?_;have hz:=zN hb;have hwr:0<=wr/\wr<=2:=hb.wr;have hpw:=pow4 hz.2;refine au 21042 ?_;intro jb hjb;refine au 22354235 ?_;refine TK.virt 3 175 9 Z fun jo0 hjo0=>?_;refine au 2806906706704 ?_;refine bH Z (zmW Z Z Z oQ) ?_;refine au 13031 ?_;refine bA [1,3,9,10] ?_;refine bC ((jo0,_)::(jb,_)::(g,_)::mkK Zq) ?_;refine bE (fun n1 env K=>∃ (i jo:Nat),n1=2 ^ Zq.length - i/\i<=2 ^ Zq.length/\env=zJ 26 [(1,.ptr jb 0),(3,.row jo (allI (skB st wr Zq) i).length),(9,.v (.int .u64 ((2 ^ Zq.length:Nat):Int))),(10,.v (.int .u64 (i:Nat)))]/\K=(jo,.row ((allI (skB st wr Zq) i).flatMap vwC) 175 9)::(jb,.cells (stpC st wr g Zq) 163 true)::(g,skO Zq)::mkK Zq) (2 ^ Zq.length) ⟨0,jo0,rfl,mN _,rfl,rfl⟩ fun n1 env K hI hnext=>?_;obtain ⟨i,jo,rfl,hi,rfl,rfl⟩:=hI;have hal:=zli hb (n:=i) oQ;refine au 923742 ?_;constructor<;>intro hc0
 ·have hil:i<2 ^ Zq.length:=by simp at hc0; exact_mod_cast hc0
  refine au 2351421302120 ?_;refine TK.dr [0,2,3,4,1,5] [0,1,2,3,4,5] ?_;refine ad [[1,4],[3,1],[3,15],[10,16]] ?_;refine TD.cl (pend':=[⟨4,[16],[(_,_)]⟩,⟨3,[15],[]⟩,⟨2,[1],[]⟩]) [13] Z Z Z Z Z (zjK hT oQ) (fun r1 K2 h3=>⟨?_,?_⟩)
  ·rcases h3 with ⟨rfl,rfl⟩
   all_goals simp
  obtain ⟨rfl,rfl⟩:=h3;try simp only [cA]
  refine TD.norm tQ ?_;refine ad [[4,14,17],[14]] ?_;refine au 9 ?_;constructor<;>intro hc1
  ·refine au 168014 ?_;refine bD Z Z Z Z (zh4 hT (st:=st) (wr:=wr) (g:=g) (Zq:=Zq) (w:=i)) ?_;rintro r4 K5 ⟨jb2,jw,rfl,rfl⟩;refine au 0 ?_;refine bD Z Z Z Z (zgy hT hb (w:=i) (l:=allI (skB st wr Zq) i) oQ oQ) ?_;rintro r7 K8 ⟨j3,rfl,rfl⟩;refine au 0 ?_;refine bN (K':=(jb,_)::(j3,_)::(jb2,_)::(jw,_)::(g,_)::mkK Zq) (lH (l₁:=(j3,_)::(jb2,_)::(jw,_)::(g,_)::mkK Zq) (l₂:=[(jb,_)])) ?_;refine au 414035 ?_;refine bH Z (zjf Z Z Z oQ) ?_;refine au 31 ?_;refine bA [1,3,9,10] ?_;refine bC (((j3,_)::(jb,_)::(g,_)::mkK Zq)) ?_;have e1:allI (skB st wr Zq) (i+1)=allI (skB st wr Zq) i++viewsT (skB st wr Zq) i:=by rw [zig,if_pos (show (onesT 4 i:Int)<=(skB st wr Zq).wrong from of_decide_eq_true hc1)]
   exact hnext _ _ _ oQ ⟨i+1,j3,rfl,oQ,by rw [e1] <;> rfl,by rw [e1] <;> rfl⟩
  refine au 4140120 ?_;refine bH Z (zjf Z Z Z oQ) ?_;refine au 31 ?_;refine bA [1,3,9,10] ?_;refine bC (((jo,_)::(jb,_)::(g,_)::mkK Zq)) ?_;have e1:allI (skB st wr Zq) (i+1)=allI (skB st wr Zq) i:=by rw [zig,if_neg (show ¬ (onesT 4 i:Int)<=(skB st wr Zq).wrong from of_decide_eq_false hc1),lR]
  exact hnext _ _ _ oQ ⟨i+1,jo,rfl,oQ,by rw [e1] <;> rfl,by rw [e1] <;> rfl⟩
 have hie0:2 ^ Zq.length<=i:=by simp at hc0; exact_mod_cast hc0
 have hie:2 ^ Zq.length=i:=by omega
 refine au 35142160 ?_;refine bB hret (((jo,_)::(g,_)::mkK Zq)) ?_;exact ⟨jo,by unfold allT; rw [show (skB st wr Zq).sks.length=Zq.length from z_len Zq,hie] <;> rfl,by unfold allT; rw [show (skB st wr Zq).sks.length=Zq.length from z_len Zq,hie] <;> rfl⟩
theorem zgx {main T} (hT:zh tp main T) {gm} {st wr:Int} {g:Nat} {Zq:List (Nat×SkT)} :
  zg tp T gm 194 [.agg (stpC st wr g Zq)] [] (fun r K'=>r=zm true/\K'=[]):=by
 refine ze 3 hT Tryz.func194 fun Y hret=>?_;refine au 21042 ?_;intro j1 hj1;refine au 354235 ?_;refine bB hret [] ?_;exact ⟨rfl,rfl⟩
theorem zjH {main:Bool} {T:Goroutine->Hp->Prop} (hT:zh tp main T)  {st wr:Int} {g:Nat} {Zq:List (Nat×SkT)} (hb:StpOk (skB st wr Zq)) :
  zg tp T gmS 75 [.agg (stpC st wr g Zq),.fn 194 [] []] ((5,spChecksG)::(g,skO Zq)::mkK Zq) (fun r K'=>(allT (skB st wr Zq)=[]/\r=.tup [.agg [intA 0,intA 0,.v (.slice none 0 0),.v (.slice none 0 0)],intA 9]/\K'=(5,spChecksG)::(g,skO Zq)::mkK Zq)\/(allT (skB st wr Zq)≠[]/\∃ ja,r=.tup [.agg (stpC st wr g Zq++[.row ja (allT (skB st wr Zq)).length]),intA 0]/\K'=(ja,.row ((allT (skB st wr Zq)).flatMap vwC) 175 9)::(5,spChecksG)::(g,skO Zq)::mkK Zq)):=by
 refine ze 33 hT Tryz.func75 fun Y hret=>?_;refine au 21042 ?_;intro jb hjb;refine au 220 ?_;intro jr hjr;refine au 68042235 ?_;refine bD Z Z Z Z (zap hT hb) ?_;rintro r1 K2 ⟨rfl,rfl⟩;refine au 0 ?_;refine bN (K':=(jr,_)::(jb,_)::(5,_)::(g,_)::mkK Zq) (lH (l₁:=(5,_)::(g,_)::mkK Zq) (l₂:=[(jr,_),(jb,_)])) ?_;refine au 93714235 ?_;constructor<;>intro hc0
 ·exact absurd hc0 dQ
 refine au 22041040068042120 ?_;intro jk hjk;refine au 68067014223170 ?_;refine bD Z Z Z Z (zgx hT (st:=st) (wr:=wr) (g:=g) (Zq:=Zq)) ?_;rintro r4 K5 ⟨rfl,rfl⟩;refine au 93300 ?_;constructor<;>intro hc1
 ·exact absurd hc1 dQ
 refine au 680670422120 ?_;refine bD Z Z Z Z (zfY hT hb) ?_;rintro r7 K8 ⟨ja,rfl,rfl⟩;refine au 0 ?_;refine bN (K':=(jk,_)::(jr,_)::(jb,_)::(5,_)::(ja,_)::(g,_)::mkK Zq) (lH (l₁:=(ja,_)::(g,_)::mkK Zq) (l₂:=[(jk,_),(jr,_),(jb,_),(5,_)])) ?_;refine au 937280690670423170670 ?_;constructor<;>intro hc2
 ·refine au 3517041042 ?_;refine bB hret (((5,_)::(g,_)::mkK Zq)) ?_;exact .inl ⟨lK (by simp at hc2; simpa using hc2),rfl,rfl⟩
 refine au 3517068042120 ?_;refine bB hret (((ja,_)::(5,_)::(g,_)::mkK Zq)) ?_;exact .inr ⟨fun e=>by rw [e] at hc2; simp at hc2,ja,rfl,rfl⟩
section
variable {P:Program} {gm:Nat->Option Nat} {V:KV} {env:List AV} {o:Oper}
theorem v8 {x:Operand} {i off:Nat} (ho:o.op=.nilCheck x) (hx:zr gm env x=some (.ptr i off)):Qk P gm env V o (.ptr i off):=fun A _ φ F H ac hg hH hE=>by
 unfold execOp; rw [ho];have h1:=zu hg hE x;rw [zq hx] at h1;obtain ⟨hi,e⟩:=wC h1;dsimp only;rw [e];exact zW.quiet hH (.ptr hi)
end
theorem zaq:∀ (A B:KV),Split (A++B) B A
 | [],B=>.all B
 | x::A,B=>.right (zaq A B)
theorem zeI:∀ (l:List SkT) {st n m:Int},(∀ x∈l,SkOk st x)->n<=m->waysI l n<=waysI l m
 | [],_,_,_,_,h=>h
 | x::l,st,n,m,hl,h=>zeI l (st:=st) (fun y hy=>hl y (lL _ hy)) (Int.mul_le_mul_of_nonneg_right h (by have:=ug (hl x sQ); omega))
theorem zbR {lo hi:Int}:∀ {l:List SkT} {i:Nat} {st:Int},(∀ x,l[i]? =some x->(z7 x lo hi).flo<=(z7 x lo hi).fhi)->(∀ x∈l,SkOk st x)->∀ (n m:Int),1<=n->n<=m->waysI (l.modify i fun x=>z7 x lo hi) n<=waysI l m
 | [],i,st,_,_,n,m,_,h=>by cases i <;> exact h
 | x::l,0,st,hlh,hl,n,m,h1,h=>by
  refine zeI l (st:=st) (n:=n*waysX (z7 x lo hi)) (m:=m*waysX x) (fun y hy=>hl y (lL _ hy)) ?_;have hx:=hl x sQ;have hf:=hx.fr;have hs:=hx.se;have hb:=ug hx;have h2:=hlh x rfl;have h3:waysX (z7 x lo hi)<=waysX x:=by
   unfold waysX;refine Int.mul_le_mul_of_nonneg_right ?_ (by show 0<=x.shi - x.slo+1; omega);unfold z7;dsimp only;split <;> split <;> omega
  exact Int.le_trans (Int.mul_le_mul_of_nonneg_left h3 oQ) (Int.mul_le_mul_of_nonneg_right h oQ)
 | x::l,i+1,st,hlh,hl,n,m,h1,h=>by
  have hb:=ug (hl x sQ);refine zbR (l:=l) (i:=i) (st:=st) (fun y hy=>hlh y hy) (fun y hy=>hl y (lL _ hy)) (n*waysX x) (m*waysX x) ?_ (Int.mul_le_mul_of_nonneg_right h oQ);have:=Int.mul_le_mul h1 hb.1 dQ oQ;simpa using this
theorem zlg {Zq:List (Nat×SkT)} {i:Nat} {p:Nat×SkT} (h:Zq[i]? =some p) (lo hi:Int):(Zq.set i (p.1,z7 p.2 lo hi)).map (·.2)=(Zq.map (·.2)).modify i fun x=>z7 x lo hi:=by
 refine List.ext_getElem? fun k=>?_;rw [lQ,lX,List.getElem?_modify,lQ];by_cases e:i=k
 ·subst e;rw [if_pos rfl,if_pos (lD.1 h).1,h];simp
 ·rw [if_neg e];cases Zq[k]? with
  | none=>rfl
  | some q=>simp [e]
theorem zhJ {st wr:Int} {Zq:List (Nat×SkT)} (hb:StpOk (skB st wr Zq)) {i:Nat} {lo hi:Int} (hlh:∀ x,(Zq.map (·.2))[i]? =some x->(z7 x lo hi).flo<=(z7 x lo hi).fhi):StpOk (narrowT (skB st wr Zq) i lo hi):=by
 have hlen:((Zq.map (·.2)).modify i fun x=>z7 x lo hi).length=(Zq.map (·.2)).length:=List.length_modify ..;have hget:∀ (k:Nat) y,((Zq.map (·.2)).modify i fun x=>z7 x lo hi)[k]? =some y->∃ x,(Zq.map (·.2))[k]? =some x/\(y=x\/(k=i/\y=z7 x lo hi)):=fun k y hy=>by
  rw [List.getElem?_modify] at hy;cases hx:(Zq.map (·.2))[k]? with
  | none=>rw [hx] at hy; cases hy
  | some x =>
   rw [hx] at hy;simp only [Option.map_eq_map,Option.map_some,Option.some.injEq] at hy;refine ⟨x,rfl,?_⟩;by_cases e:i=k
   ·rw [if_pos e] at hy; exact .inr ⟨e.symm,hy.symm⟩
   ·rw [if_neg e] at hy; exact .inl hy.symm
 have hnm:∀ x,(z7 x lo hi).name=x.name:=fun _=>rfl;refine ⟨hb.st,hb.wr,?_,fun y hy=>?_,?_,?_⟩
 ·show 1<=((Zq.map (·.2)).modify i fun x=>z7 x lo hi).length/\((Zq.map (·.2)).modify i fun x=>z7 x lo hi).length<=4;rw [hlen]; exact hb.ns
 ·obtain ⟨k,hk⟩:=List.getElem?_of_mem (show y∈(Zq.map (·.2)).modify i fun x=>z7 x lo hi from hy);obtain ⟨x,hx,e⟩:=hget k y hk;have ho:=hb.sk x (lN hx);rcases e with rfl | ⟨rfl,rfl⟩
  ·exact ho
  ·have h1:=ho.fr;have h2:=hlh x hx;refine ⟨ho.nam,?_,ho.wd,ho.se,ho.nm,ho.mks,ho.two⟩;unfold z7 at h2 ⊢;dsimp only at h2 ⊢;refine ⟨?_,h2,?_,?_⟩
   ·split <;> omega
   ·show _<=st - 1;have h1:0<=x.flo/\x.flo<=x.fhi/\x.fhi<=st - 1/\x.fhi - x.flo<3:=h1;split <;> omega
   ·split <;> split <;> omega
 ·have h3:(Zq.map (·.2)).Pairwise fun x y=>x.name.toList≠y.name.toList:=hb.two;show ((Zq.map (·.2)).modify i fun x=>z7 x lo hi).Pairwise fun x y=>x.name.toList≠y.name.toList;rw [List.pairwise_iff_getElem] at h3 ⊢;intro a c ha hc hac;rw [hlen] at ha hc;have:=h3 a c ha hc hac;rw [List.getElem_modify,List.getElem_modify];split <;> split <;> exact this
 ·show waysI ((Zq.map (·.2)).modify i fun x=>z7 x lo hi) 1<=200;exact Int.le_trans (zbR hlh hb.sk 1 1 dQ (Int.le_refl _)) hb.wy
instance:BlOf tp 57 [(0,1),(1,1),(2,1)]:={}
instance:Cal tp 75:={}
instance:TyZ tp 57 [.int .i64 0,.int .i64 0,.slice none 0 0]:={}
theorem zh3 {main T} (hT:zh tp main T) {gm} {j off:Nat} :
  zg tp T gm 74 [.ptr j off] [] (fun r K'=>r=.ptr j (off+1)/\K'=[]):=by
 refine ze 6 hT Tryz.func74 fun Y hret=>?_;refine au 1423542 ?_;refine bH Z (v8 Z Z) ?_;refine au 35670 ?_;refine TK.rta hret ?_;exact ⟨rfl,rfl⟩
theorem zew {main T} (hT:zh tp main T) {gm} {st wr:Int} {g:Nat} {Zq:List (Nat×SkT)} {n:Int} (hl:Zq.length<=1000) :
  zg tp T gm 77 [.agg (stpC st wr g Zq),intA n] [] (fun r K'=>r=zm (decide (0<=n)&&decide (n<=(Zq.length:Int) - 1))/\K'=[]):=by
 refine ze 12 hT Tryz.func77 fun Y hret=>?_;refine au 21042 ?_;intro jb hjb;refine au 24028069067067014235 ?_;refine bD Z Z Z Z (kJ hT) ?_;rintro r1 K2 ⟨rfl,rfl⟩;refine au 35 ?_;refine bB hret [] ?_;exact ⟨rfl,rfl⟩
theorem zgw {main:Bool} {T:Goroutine->Hp->Prop} (hT:zh tp main T)  {st wr:Int} {g:Nat} {Zq:List (Nat×SkT)} (hb:StpOk (skB st wr Zq)) :
  zg tp T gmS 155 [.agg (stpC st wr g Zq)] ((5,spChecksG)::(g,skO Zq)::mkK Zq) (fun r K'=>((allT (skB st wr Zq)=[]/\r=.tup [.agg [intA 0,intA 0,.v (.slice none 0 0)],intA 9])\/(allT (skB st wr Zq)≠[]/\r=.tup [.agg (stpC st wr g Zq),intA 0]))/\K'=(5,spChecksG)::(g,skO Zq)::mkK Zq):=by
 refine ze 16 hT Tryz.func155 fun Y hret=>?_;refine au 21042 ?_;intro jb hjb;refine au 220 ?_;intro jr hjr;refine au 68042235 ?_;refine bD Z Z Z Z (zjH hT hb) ?_;rintro r1 K2 h3;rcases h3 with ⟨he,rfl,rfl⟩ | ⟨he,ja,rfl,rfl⟩
 ·refine au 0 ?_;refine bN (K':=(jr,_)::(jb,_)::(5,_)::(g,_)::mkK Zq) (lH (l₁:=(5,_)::(g,_)::mkK Zq) (l₂:=[(jr,_),(jb,_)])) ?_;refine au 220661 ?_;intro j4 hj4;refine au 93714235170 ?_;constructor<;>intro hc0
  ·skip;refine au 35170140042 ?_;refine bB hret (((5,_)::(g,_)::mkK Zq)) ?_;exact ⟨.inl ⟨he,rfl⟩,rfl⟩
  exact absurd hc0 dQ
 ·refine au 0 ?_;refine bN (K':=(jr,_)::(jb,_)::(ja,_)::(5,_)::(g,_)::mkK Zq) (lH (l₁:=(ja,_)::(5,_)::(g,_)::mkK Zq) (l₂:=[(jr,_),(jb,_)])) ?_;refine au 220661 ?_;intro j5 hj5;refine au 93714235170 ?_;constructor<;>intro hc0
  ·exact absurd hc0 dQ
  skip;refine au 3517068042120 ?_;refine bB hret (((5,_)::(g,_)::mkK Zq)) ?_;exact ⟨.inr ⟨he,rfl⟩,rfl⟩
theorem zlI {Y:List (Nat×SkT)} {i:Nat} {p p':Nat×SkT} (h:Y[i]? =some p) (h1:p'.1=p.1) (h2:p'.2.marks=p.2.marks):mkK (Y.set i p')=mkK Y:=by
 unfold mkK;refine List.ext_getElem? fun k=>?_;rw [lQ,lQ,lX];by_cases e:i=k
 ·subst e;rw [if_pos rfl,if_pos (lD.1 h).1,h];simp only [Option.map_some,h1];unfold mkO;rw [h2]
 ·rw [if_neg e]
instance:Cal tp 154:={}
instance:Cal tp 155:={}
instance:Cal tp 74:={}
instance:Cal tp 77:={}
theorem zgD {main:Bool} {T:Goroutine->Hp->Prop} (hT:zh tp main T)  {st wr:Int} {g:Nat} {Zq:List (Nat×SkT)} {i:Nat} {lo hi bhi:Int} (hb:StpOk (skB st wr Zq)) (hi0:i<Zq.length) (hbh:bhi<=100) :
  zg tp T gmS 73 [.agg (stpC st wr g Zq),intA (i:Int),.agg [intA lo,intA hi],intA 0,intA bhi,.fn 74 [] []] ((5,spChecksG)::(g,skO Zq)::mkK Zq) (fun r K'=>(∃ n,n≠0/\r=.tup [.agg [intA 0,intA 0,.v (.slice none 0 0)],intA n])\/(∃ g2 Y2,r=.tup [.agg (stpC st wr g2 Y2),intA 0]/\skB st wr Y2=narrowT (skB st wr Zq) i lo hi/\StpOk (skB st wr Y2)/\allT (skB st wr Y2)≠[]/\K'=(5,spChecksG)::(g2,skO Y2)::(mkK Y2++((g,skO Zq)::mkK Zq)))):=by
 refine ze 91 hT Tryz.func73 fun Y hret=>?_;refine au 0 ?_;have hz:=zN hb;have hst:4<=st/\st<=24:=hb.st;refine au 21042 ?_;intro jb hjb;refine au 210 ?_;intro j8 hj8;refine au 220 ?_;intro jr hjr;refine au 68042235 ?_;refine bD Z Z Z Z (zap hT hb) ?_;rintro r1 K2 ⟨rfl,rfl⟩;refine au 0 ?_;refine bN (K':=(jr,_)::(j8,_)::(jb,_)::(5,_)::(g,_)::mkK Zq) (lH (l₁:=(5,_)::(g,_)::mkK Zq) (l₂:=[(jr,_),(j8,_),(jb,_)])) ?_;refine au 93714235 ?_;constructor<;>intro hc0
 ·exact absurd hc0 dQ
 refine au 1400680421302120 ?_;refine bD Z Z Z Z (zew hT oQ) ?_;rintro r4 K5 ⟨rfl,rfl⟩;refine au 935300 ?_;constructor<;>intro hc1
 ·simp at hc1; omega
 refine au 17169067042 ?_;refine bF 35 (fun g6_5=>?_) (fun g6_5=>?_)
 ·refine au 3517040042180352608888126088888 ?_;refine bB hret [] ?_ (hs:=(.none _));exact .inl ⟨1,by decide,rfl⟩
 refine au 12507690670690670 ?_;refine bF 42 (fun g6_12=>?_) (fun g6_12=>?_)
 ·refine au 3517040042180352608888 ?_;refine bB hret [] ?_ (hs:=(.none _));exact .inl ⟨1,by decide,rfl⟩
 refine au 93525071690670 ?_;constructor<;>intro hc2
 ·refine au 3517040042 ?_;refine bB hret [] ?_ (hs:=(.none _));exact .inl ⟨1,by decide,rfl⟩
 refine au 68042140120 ?_;refine bD Z Z Z Z (zk8 hT hb) ?_;rintro r7 K8 ⟨j1,Y,hYm,hYl,rfl,rfl⟩;refine au 0 ?_;refine bN (K':=(jr,_)::(j8,_)::(jb,_)::(5,_)::(j1,_)::(g,_)::(mkK Zq++mkK Y)) (lH (l₁:=(j1,_)::(g,_)::(mkK Zq++mkK Y)) (l₂:=[(jr,_),(j8,_),(jb,_),(5,_)])) ?_;obtain ⟨p,hp⟩:∃ p,Y[i]? =some p:=⟨_,lA oQ⟩;have hp1:(Y.set i (p.1,{ p.2 with flo:=if p.2.flo<lo then lo else p.2.flo }))[i]? =some (p.1,{ p.2 with flo:=if p.2.flo<lo then lo else p.2.flo }):=by rw [List.getElem?_set_self oQ]
 have hp2:(Y.set i (p.1,z7 p.2 lo hi))[i]? =some (p.1,z7 p.2 lo hi):=by rw [List.getElem?_set_self oQ]
 refine au 220 ?_;intro jo hjo;refine au 37016906701423170 ?_;refine bD Z Z Z Z (zh3 hT) ?_;rintro r10 K11 ⟨rfl,rfl⟩;refine au 235 ?_;refine bL [0,2,3,4,5,6,7,8,9,10,11,12,13,14,15,16,17,18,1,19,20,21] ?_;refine ad [[1,16],[1,16],[1,16]] ?_;refine bU [59] Z (v8 Z Z) ?_;refine ad [[3,60]] ?_;refine bT [61] Z (hq:=zp Z Z zd.h (mC _) (ky (c:=1) (za0 hp Z) dQ Z)) (h:=?_);refine ad [[3,8],[10,63]] ?_;refine bU [62,64] Z (q_max Z Z Z) ?_;refine ad [[1,16]] ?_;refine bU [66] Z (v8 Z Z) ?_;refine ad [[3,67]] ?_;refine bT [68] Z (hq:=zp Z Z zd.h (mC _) (ky (c:=2) (za0 hp Z) dQ Z)) (h:=?_);refine ad [[3,8],[10,70]] ?_;refine bU [69,71] Z (q_min Z Z Z) ?_;refine bU [57] Z (v8 Z Z) ?_;refine ad [[3,73]] ?_;refine TD.s (pend':=[⟨16,[57],[]⟩,⟨15,[69,71],[]⟩,⟨14,[70],[(_,_)]⟩,⟨13,[8],[]⟩,⟨11,[67],[]⟩,⟨10,[66],[]⟩,⟨9,[16],[]⟩,⟨1,[16],[]⟩]) [65,74] Z Z (zt Z Z zd.h Z Z mQ (zdt (k:=1) (p':=(p.1,{ p.2 with flo:=if p.2.flo<lo then lo else p.2.flo })) hp Z dQ Z Z)) ?_;refine bU [58] Z (v8 Z Z) ?_;refine ad [[3,75]] ?_;refine TD.s (pend':=[⟨19,[58],[]⟩]) [72,76] Z Z (zt Z Z zd.h Z Z mQ (zdt (k:=2) (p':=(p.1,z7 p.2 lo hi)) hp1 Z dQ Z Z)) ?_;refine ad [[14]] ?_;refine au 22 ?_;rw [List.set_set];refine bL [0,1,2,3,4,5,6,7,8] ?_;refine ad [[1,16]] ?_;refine bU [77] Z (v8 Z Z) ?_;refine ad [[3,78]] ?_;refine bT [79] Z (hq:=zp Z Z zd.h (mC _) (ky (c:=1) (za0 hp2 Z) dQ Z)) (h:=?_);refine ad [[1,16]] ?_;refine bU [81] Z (v8 Z Z) ?_;refine ad [[3,82]] ?_;refine bT [83] Z (hq:=zp Z Z zd.h (mC _) (ky (c:=2) (za0 hp2 Z) dQ Z)) (h:=?_);refine ad [[4,80,84],[14]] ?_;refine au 9 ?_;constructor<;>intro hc3
 ·refine au 3517040042 ?_;refine bB hret [] ?_ (hs:=(.none _));exact .inl ⟨9,by decide,rfl⟩
 have hlh:(z7 p.2 lo hi).flo<=(z7 p.2 lo hi).fhi:=by have:=of_decide_eq_false hc3; exact Int.not_lt.1 this
 have hnb:skB st wr (Y.set i (p.1,z7 p.2 lo hi))=narrowT (skB st wr Zq) i lo hi:=by
  unfold skB narrowT;rw [zlg hp,hYm]
 have hbo:StpOk (skB st wr (Y.set i (p.1,z7 p.2 lo hi))):=by
  rw [hnb];refine zhJ hb fun x hx=>?_;rw [<- hYm,lQ,hp] at hx;cases hx;exact hlh
 have hmk:mkK (Y.set i (p.1,z7 p.2 lo hi))=mkK Y:=zlI hp rfl rfl;refine au 2120 ?_;refine TK.unrowAt (c:=jo) (i:=2) (j:=j1) Z mQ uQ ?_;refine TK.frzRow (j:=j1) ?_;refine au 0 ?_;rw [<- hmk,show Zq.length=(Y.set i (p.1,z7 p.2 lo hi)).length by rw [List.length_set,hYl]];refine bN (K':=(jo,_)::(jr,_)::(j8,_)::(jb,_)::(g,_)::(mkK Zq++((5,_)::(j1,_)::mkK (Y.set i (p.1,z7 p.2 lo hi))))) ((List.perm_append_comm_assoc [(5,_),(j1,_)] ((g,_)::mkK Zq) (mkK (Y.set i (p.1,z7 p.2 lo hi)))).append_left [(jo,_),(jr,_),(j8,_),(jb,_)]) ?_;refine au 6804 ?_;refine bD Z Z Z Z (zgw hT (Zq:=(Y.set i (p.1,z7 p.2 lo hi))) hbo) ?_ (hs:=(.right (.right (.right (.right (.right (zaq _ _)))))));rintro r13 K14 h15;rcases h15 with ⟨⟨he,rfl⟩ | ⟨hne,rfl⟩,rfl⟩
 ·refine au 0 ?_;refine bN (K':=(jo,_)::(jr,_)::(j8,_)::(jb,_)::(5,_)::(j1,_)::(mkK (Y.set i (p.1,z7 p.2 lo hi))++((g,_)::mkK Zq))) (List.perm_append_comm_assoc ((5,_)::(j1,_)::mkK (Y.set i (p.1,z7 p.2 lo hi))) [(jo,_),(jr,_),(j8,_),(jb,_)] ((g,_)::mkK Zq)) ?_;refine au 3517066 ?_;refine bB hret [] ?_ (hs:=(.none _));exact .inl ⟨9,by decide,rfl⟩
 ·refine au 0 ?_;refine bN (K':=(jo,_)::(jr,_)::(j8,_)::(jb,_)::(5,_)::(j1,_)::(mkK (Y.set i (p.1,z7 p.2 lo hi))++((g,_)::mkK Zq))) (List.perm_append_comm_assoc ((5,_)::(j1,_)::mkK (Y.set i (p.1,z7 p.2 lo hi))) [(jo,_),(jr,_),(j8,_),(jb,_)] ((g,_)::mkK Zq)) ?_;refine au 3517066 ?_;refine bB hret (((5,_)::(j1,_)::(mkK (Y.set i (p.1,z7 p.2 lo hi))++((g,_)::mkK Zq)))) ?_ (hs:=(.right (.right (.right (.right (.all _))))));exact .inr ⟨j1,(Y.set i (p.1,z7 p.2 lo hi)),rfl,hnb,hbo,hne,rfl⟩
instance:Cal tp 73:={}
instance:Cal tp 76:={}
theorem zey {main:Bool} {T:Goroutine->Hp->Prop} (hT:zh tp main T)  {st wr:Int} {g:Nat} {Zq:List (Nat×SkT)} {i:Nat} {lo hi:Int} (hb:StpOk (skB st wr Zq)) (hi0:i<Zq.length) :
  zg tp T gmS 19 [.agg (stpC st wr g Zq),intA (i:Int),.agg [intA lo,intA hi]] ((5,spChecksG)::(g,skO Zq)::mkK Zq) (fun r K'=>(∃ n,n≠0/\r=.tup [.agg [intA 0,intA 0,.v (.slice none 0 0)],intA n])\/(∃ g2 Y2,r=.tup [.agg (stpC st wr g2 Y2),intA 0]/\skB st wr Y2=narrowT (skB st wr Zq) i lo hi/\StpOk (skB st wr Y2)/\allT (skB st wr Y2)≠[]/\K'=(5,spChecksG)::(g2,skO Y2)::(mkK Y2++((g,skO Zq)::mkK Zq)))):=by
 refine ze 17 hT Tryz.func19 fun Y hret=>?_;refine au 0 ?_;have hst:4<=st/\st<=24:=hb.st;refine au 21042 ?_;intro jb hjb;refine au 210 ?_;intro j8 hj8;refine au 220 ?_;intro jr hjr;refine au 24069067068016804235 ?_;refine bD Z Z Z Z (zgD hT (i:=i) (lo:=lo) (hi:=hi) (bhi:=st - 1) hb hi0 oQ) ?_ (hs:=(.right (.right (.right (.all _)))));rintro r1 K2 h3;rcases h3 with ⟨n,hn,rfl⟩ | ⟨g2,Y2,rfl,h1,h2,h3,rfl⟩
 ·refine au 0 ?_;refine bN (lH (l₂:=[(jr,_),(j8,_),(jb,_)])) ?_;simp only [cA];refine au 3517066 ?_;refine bB hret [] ?_ (hs:=(.none _));exact .inl ⟨n,hn,rfl⟩
 ·refine au 0 ?_;refine bN (K':=(jr,_)::(j8,_)::(jb,_)::(5,_)::(g2,_)::(mkK Y2++((g,_)::mkK Zq))) (lH (l₁:=(5,_)::(g2,_)::(mkK Y2++((g,_)::mkK Zq))) (l₂:=[(jr,_),(j8,_),(jb,_)])) ?_;refine au 3517066 ?_;refine bB hret (((5,_)::(g2,_)::(mkK Y2++((g,_)::mkK Zq)))) ?_ (hs:=(.right (.right (.right (.all _)))));exact .inr ⟨g2,Y2,rfl,h1,h2,h3,rfl⟩
theorem zgA {main T} (hT:zh tp main T) {gm} {st wr:Int} {g:Nat} {Zq:List (Nat×SkT)} {i jh:Nat} (hl:Zq.length<=1000) :
  zg tp T gm 76 [.agg (stpC st wr g Zq),.ptr jh 0] [(jh,.cells [intA (i:Int)] 3 true)] (fun r K'=>r=zm (decide ((0:Int)<=(i:Int))&&decide ((i:Int)<=(Zq.length:Int) - 1))/\K'=[(jh,.cells [intA (i:Int)] 3 true)]):=by
 refine ze 7 hT Tryz.func76 fun Y hret=>?_;refine au 21042 ?_;intro jb hjb;refine au 6906804235 ?_;refine bD Z Z Z Z (zew hT hl) ?_;rintro r1 K2 ⟨rfl,rfl⟩;refine au 35 ?_;refine bB hret [(jh,_)] ?_;exact ⟨rfl,rfl⟩
theorem zgB {main T} (hT:zh tp main T) {gm} {v:VwT} {i jh:Nat} (hi:i<4) :
  zg tp T gm 79 [.agg (vwC v),.ptr jh 0] [(jh,.cells [intA (i:Int)] 3 true)] (fun r K'=>r=intA (v.fr.getD i 0)/\K'=[(jh,.cells [intA (i:Int)] 3 true)]):=by
 refine ze 8 hT Tryz.func79 fun Y hret=>?_;refine au 21042 ?_;intro jb hjb;refine au 6706904235 ?_;refine bH Z (yC Z Z Z ArEl.h oQ oQ) ?_;refine bH Z (zp Z Z zd.h mQ (fr_at hi Z)) ?_;refine au 35 ?_;refine bB hret [(jh,_)] ?_;exact ⟨rfl,rfl⟩
theorem zjI {main:Bool} {T:Goroutine->Hp->Prop} (hT:zh tp main T)  {st wr:Int} {g:Nat} {Zq:List (Nat×SkT)} {i jh:Nat} (hb:StpOk (skB st wr Zq)) (hi0:i<Zq.length) (hne:allT (skB st wr Zq)≠[]) :
  zg tp T gmS 75 [.agg (stpC st wr g Zq),.fn 76 [] [.ptr jh 0]] ((jh,.cells [intA (i:Int)] 3 true)::(5,spChecksG)::(g,skO Zq)::mkK Zq) (fun r K'=>∃ ja,r=.tup [.agg (stpC st wr g Zq++[.row ja (allT (skB st wr Zq)).length]),intA 0]/\K'=(ja,.row ((allT (skB st wr Zq)).flatMap vwC) 175 9)::(jh,.cells [intA (i:Int)] 3 true)::(5,spChecksG)::(g,skO Zq)::mkK Zq):=by
 refine ze 33 hT Tryz.func75 fun Y hret=>?_;refine au 0 ?_;have hz:=zN hb;refine au 21042 ?_;intro jb hjb;refine au 220 ?_;intro jr hjr;refine au 68042235 ?_;refine bD Z Z Z Z (zap hT hb) ?_;rintro r1 K2 ⟨rfl,rfl⟩;refine au 0 ?_;refine bN (K':=(jr,_)::(jb,_)::(jh,_)::(5,_)::(g,_)::mkK Zq) (lH (l₁:=(5,_)::(g,_)::mkK Zq) (l₂:=[(jr,_),(jb,_),(jh,_)])) ?_;refine au 93714235 ?_;constructor<;>intro hc0
 ·exact absurd hc0 dQ
 refine au 22041040068042120 ?_;intro jk hjk;refine au 68067014223170 ?_;refine bD Z Z Z Z (zgA hT (st:=st) (wr:=wr) (g:=g) (Zq:=Zq) oQ) ?_;rintro r4 K5 ⟨rfl,rfl⟩;refine au 0 ?_;refine bN (K':=(jk,_)::(jr,_)::(jb,_)::(jh,_)::(5,_)::(g,_)::mkK Zq) ((lH (l₁:=[(jh,_)]) (l₂:=[(jk,_),(jr,_),(jb,_)])).append_right ((5,_)::(g,_)::mkK Zq)) ?_;refine au 93300 ?_;constructor<;>intro hc1
 ·simp at hc1; omega
 refine au 680670422120 ?_;refine bD Z Z Z Z (zfY hT hb) ?_;rintro r7 K8 ⟨ja,rfl,rfl⟩;refine au 0 ?_;refine bN (K':=(jk,_)::(jr,_)::(jb,_)::(jh,_)::(5,_)::(ja,_)::(g,_)::mkK Zq) (lH (l₁:=(ja,_)::(g,_)::mkK Zq) (l₂:=[(jk,_),(jr,_),(jb,_),(jh,_),(5,_)])) ?_;refine au 937280690670423170670 ?_;constructor<;>intro hc2
 ·exact absurd (lK (by simp at hc2; simpa using hc2)) hne
 refine au 3517068042120 ?_;refine bB hret (((ja,_)::(jh,_)::(5,_)::(g,_)::mkK Zq)) ?_;exact ⟨ja,rfl,rfl⟩
theorem wu {b:Bk}:∀ (rest S R:List Int),R∈loopM b S rest->∃ T,T.Sublist rest/\T≠[]/\R=S++T
 | [],S,R,h=>by cases h
 | n::rest,S,R,h=>by
  simp only [loopM] at h;split at h
  ·rcases lT.1 h with h | h
   ·rcases lT.1 h with h | h
    ·unfold ownM at h;split at h
     ·rw [lS.1 h];exact ⟨[n],.cons_cons _ (List.nil_sublist _),by simp,rfl⟩
     ·cases h
    ·obtain ⟨T,h1,_,rfl⟩:=wu rest _ R h;exact ⟨n::T,.cons_cons _ h1,by simp,by simp⟩
   ·obtain ⟨T,h1,h2,rfl⟩:=wu rest _ R h;exact ⟨T,.cons _ h1,h2,rfl⟩
  ·cases h
theorem zei (b:Bk) (S:List Int):(ownM b S).Nodup:=by
 unfold ownM;split <;> simp
theorem zab {b:Bk}:∀ (rest S:List Int),rest.Nodup->(loopM b S rest).Nodup
 | [],S,_=>by simp [loopM]
 | n::rest,S,h=>by
  have h2:=List.nodup_cons.1 h;simp only [loopM];split
  ·refine List.nodup_append.2 ⟨List.nodup_append.2 ⟨zei _ _,zab rest _ h2.2,fun x hx y hy e=>?_⟩,zab rest _ h2.2,fun x hx y hy e=>?_⟩
   ·subst e;obtain ⟨T,_,hT,rfl⟩:=wu _ _ _ hy;unfold ownM at hx;split at hx
    ·have:=lS.1 hx;exact hT (by simpa using this)
    ·cases hx
   ·subst e;obtain ⟨T,hT1,_,e2⟩:=wu _ _ _ hy;have hn:n∈T:=by
     rcases lT.1 hx with hx | hx
     ·unfold ownM at hx;split at hx
      ·have:=lS.1 hx;rw [e2] at this;have:=List.append_cancel_left this;simp [this]
      ·cases hx
     ·obtain ⟨T',_,_,e3⟩:=wu _ _ _ hx;rw [e2,List.append_assoc] at e3;have:=List.append_cancel_left e3;simp [this]
    exact h2.1 (hT1.subset hn)
  ·simp
theorem zcV (b:Bk) (i:Nat):(restM b i).Pairwise (· < ·):=by
 unfold restM;rw [List.pairwise_map];exact (List.pairwise_lt_range' (s:=i) (n:=b.steps.toNat - i)).imp fun h=>by omega
theorem zcs (b:Bk):(allM b).Nodup:=by
 have hr:(restM b 0).Nodup:=(zcV b 0).imp fun h e=>by omega
 refine List.nodup_append.2 ⟨zei _ _,zab _ _ hr,fun x hx y hy e=>?_⟩;subst e;obtain ⟨T,_,hT,rfl⟩:=wu _ _ _ hy;unfold ownM at hx;split at hx
 ·exact hT (by simpa using lS.1 hx)
 ·cases hx
theorem zdI {b:Bk} {R:List Int} (h:R∈allM b):R.Pairwise (· < ·):=by
 rcases lT.1 h with h | h
 ·unfold ownM at h;split at h
  ·rw [lS.1 h]; exact .nil
  ·cases h
 ·obtain ⟨T,h1,_,rfl⟩:=wu _ _ _ h;exact (zcV b 0).sublist h1
theorem memA {b:Bk} {xs:List Int} (hp:xs.Pairwise (· < ·)) (hr:∀ x∈xs,0<=x/\x<b.steps) (hs:seenM b xs=true):xs∈allM b:=by
 unfold allM;have hh:((xs.length:Int))<=b.high:=by
  unfold seenM at hs;simp only [mX,decide_eq_true_eq] at hs;exact hs.1.2
 by_cases h0:xs=[]
 ·subst h0;refine lT.2 (.inl ?_);unfold ownM;rw [if_pos hs];exact lS.2 rfl
 ·exact lT.2 (.inr (zaV (restM b 0) [] xs (zcp _ 0 xs rfl hp fun x hx=>by have:=hr x hx; omega) h0 hh hs))
theorem uq {most:Int}:∀ n,∀ l∈setsM most n,l.Pairwise (· < ·)
 | 0,l,hl=>by rw [lS.1 hl]; exact .nil
 | n+1,l,hl=>by
  rcases lT.1 hl with hl | hl
  ·exact uq n l hl
  ·obtain ⟨y,hy,rfl⟩:=lY.1 hl;have hy':=List.mem_reverse.1 (List.mem_filter.1 hy).1;refine List.pairwise_append.2 ⟨uq n y hy',by simp,fun a ha c hc=>?_⟩;rw [lS.1 hc];exact (wI n y hy' a ha).2
theorem ub {most:Int}:∀ (n:Nat) (l:List Int),l.Pairwise (· < ·)->(∀ x∈l,0<=x/\x<n)->(l.length:Int)<=most->l∈setsM most n
 | 0,l,_,hr,_=>by
  cases l with
  | nil=>exact lS.2 rfl
  | cons x l=>have:=hr x sQ; omega
 | n+1,l,hp,hr,hl=>by
  rcases List.eq_nil_or_concat l with rfl | ⟨y,a,rfl⟩
  ·exact lT.2 (.inl (ub n [] .nil (fun x hx=>by cases hx) hl))
  ·rw [List.concat_eq_append] at hp hr hl ⊢;have hp2:=List.pairwise_append.1 hp;have ha:=hr a sQ;have hlt:∀ x∈y,x<a:=fun x hx=>hp2.2.2 x hx a sQ;by_cases e:a=n
   ·subst e;refine lT.2 (.inr (lY.2 ⟨y,List.mem_filter.2 ⟨List.mem_reverse.2 (ub n y hp2.1 (fun x hx=>?_) ?_),?_⟩,rfl⟩))
    ·have:=hlt x hx; have:=hr x (by simp [hx]); omega
    ·simp at hl; omega
    ·unfold shortB; simp at hl ⊢; omega
   ·refine lT.2 (.inl (ub n _ hp (fun x hx=>?_) hl));have h1:=hr x hx;rcases lT.1 hx with hx | hx
    ·have:=hlt x hx; omega
    ·rw [lS.1 hx] at h1 ⊢; omega
theorem zcZ {most:Int}:∀ n,(setsM most n).Nodup
 | 0=>by simp [setsM]
 | n+1=>by
  have ih:=zcZ (most:=most) n;refine List.nodup_append.2 ⟨ih,?_,fun x hx y hy e=>?_⟩
  ·unfold moreM List.Nodup;rw [List.pairwise_map];refine List.Pairwise.filter _ ?_;exact (List.pairwise_reverse.2 (ih.imp fun {a c} h=>(fun e=>h e.symm:c≠a))).imp fun h e=>h (List.append_cancel_right e)
  ·subst e;obtain ⟨y,_,rfl⟩:=lY.1 hy;have:=wI n _ hx n sQ;omega
theorem ze3 {b:Bk} {S:List Int} (h:canM b S=true):seenM b S=true:=by
 unfold canM at h;simp only [mX] at h;exact h.2
theorem uA {b:Bk} (hb:BkOk b):(zb b).Perm (statesR b):=by
 unfold zb statesR;refine (List.perm_ext_iff_of_nodup (List.Pairwise.filter _ (zcs b)) (List.Pairwise.filter _ (zcZ _))).2 fun S=>?_;rw [List.mem_filter,List.mem_filter];constructor
 ·rintro ⟨h1,h2⟩;refine ⟨ub _ S (zdI h1) (fun x hx=>?_) ?_,h2⟩
  ·have:=(uF hb S h1).mem x hx; omega
  ·have:=ze3 h2;unfold seenM at this;simp only [mX,decide_eq_true_eq] at this;exact this.1.2
 ·rintro ⟨h1,h2⟩;refine ⟨memA (uq _ S h1) (fun x hx=>?_) (ze3 h2),h2⟩;have:=wI _ S h1 x hx;have:=hb.steps;omega
def oftR (Ls:List (List Int)) (n:Int):Int:=((Ls.filter fun S=>decide (n∈S)).length:Nat)
structure LsIn (P Q:List (Nat×List Int)) (Ls:List (List Int)):Prop where
 eq:P.map (·.2)=Ls
 mem:∀ x∈P,x∈Q
theorem LsIn.len {P Q:List (Nat×List Int)} {Ls:List (List Int)} (h:LsIn P Q Ls):P.length=Ls.length:=by rw [<- h.eq,lJ]
theorem LsIn.get {P Q:List (Nat×List Int)} {Ls:List (List Int)} (h:LsIn P Q Ls) {i:Nat} (hi:i<P.length):P[i].2=Ls[i]'(h.len ▸ hi):=by
 have e:=h.eq;subst e;simp
theorem LsIn.obj {P Q:List (Nat×List Int)} {Ls:List (List Int)} (h:LsIn P Q Ls) {i:Nat} (hi:i<P.length):(P[i].1,AObj.cells (P[i].2.map intA) 3 false)∈objsL Q:=vw (h.mem _ (List.getElem_mem hi))
theorem LsIn.split {P Q:List (Nat×List Int)} {Ls:List (List Int)} (h:LsIn P Q Ls) {i:Nat} (hi:i<P.length):∃ R,Rem (objsL Q) (P[i].1,.cells (P[i].2.map intA) 3 false) R:=zhM (h.mem _ (List.getElem_mem hi))
theorem zgV:∀ {Ls:List (List Int)} (_:∀ S∈Ls,S.Nodup) (n:Int),oftR Ls n=oftM Ls n
 | [],_,n=>rfl
 | S::Ls,h,n=>by
  have ih:=zgV (fun T hT=>h T (lL _ hT)) n;unfold oftR oftM at ih ⊢;rw [List.flatten_cons,List.count_append,List.filter_cons];have h1:=(h S List.mem_cons_self).count (a:=n);by_cases hm:n∈S
  ·rw [if_pos (by simpa using hm)];rw [if_pos hm] at h1;rw [h1,lZ];omega
  ·rw [if_neg (by simpa using hm)];rw [if_neg hm] at h1;rw [h1];omega
def stepS (x:Int) (p:List Int×Bool) (o:Int):List Int×Bool :=
 ((if (!p.2&&decide (o>=x))=true then p.1++[x] else p.1)++(if (o !=x)=true then [o] else []),p.2||decide (o>=x))
def finS (x:Int) (p:List Int×Bool):List Int:=if p.2=true then p.1 else p.1++[x]
def insS (out:List Int) (x:Int):List Int:=finS x (out.foldl (stepS x) ([],false))
def sortS (xs:List Int):List Int:=xs.foldl insS []
theorem zba {x:Int}:∀ (os:List Int) (nx:List Int),(∀ y∈os,x<y)->os.foldl (stepS x) (nx,true)=(nx++os,true)
 | [],nx,_=>by rw [List.foldl_nil,lR]
 | o::os,nx,h=>by
  have h1:x<o:=h o List.mem_cons_self;rw [List.foldl_cons,show stepS x (nx,true) o=(nx++[o],true) from by
   unfold stepS;rw [if_neg sQ,if_pos (by simp; omega)]; rfl,zba os _ fun y hy=>h y (lL _ hy),List.append_assoc]
  rfl
theorem zeA {x:Int}:∀ (os:List Int) (nx:List Int),os.Pairwise (· < ·)->finS x (os.foldl (stepS x) (nx,false))=nx++(os.filter (fun y=>decide (y<x))++x::os.filter (fun y=>decide (x<y)))
 | [],nx,_=>by simp [finS]
 | o::os,nx,h=>by
  obtain ⟨h1,h2⟩:=List.pairwise_cons.1 h;rw [List.foldl_cons];by_cases hc:o<x
  ·rw [show stepS x (nx,false) o=(nx++[o],false) from by
    unfold stepS;rw [if_neg (by simp; omega),if_pos (by simp; omega)];simp; omega,zeA os _ h2,List.filter_cons,if_pos (by simpa using hc),List.filter_cons,if_neg (by simp; omega)]
   simp
  ·have h3:∀ y∈os,x<y:=fun y hy=>by have:=h1 y hy; omega
   have h4:os.filter (fun y=>decide (y<x))=[]:=List.filter_eq_nil_iff.2 fun y hy=>by have:=h3 y hy; simp; omega
   have h5:os.filter (fun y=>decide (x<y))=os:=List.filter_eq_self.2 fun y hy=>by simpa using h3 y hy
   rw [List.filter_cons,if_neg (by simpa using hc),List.filter_cons,h4,h5];by_cases he:o=x
   ·subst he;rw [show stepS o (nx,false) o=(nx++[o],true) from by unfold stepS; simp,zba os _ h3];simp [finS]
   ·rw [show stepS x (nx,false) o=(nx++[x]++[o],true) from by
     unfold stepS;rw [if_pos (by simp; omega),if_pos (by simpa using he)];simp; omega,zba os _ h3]
    rw [if_pos (by simp; omega)];simp [finS]
theorem zlC {out:List Int} {x:Int} (h:out.Pairwise (· < ·)):insS out x=out.filter (fun y=>decide (y<x))++x::out.filter (fun y=>decide (x<y)):=by
 unfold insS; rw [zeA out [] h]; rfl
theorem zks {out:List Int} {x:Int} (h:out.Pairwise (· < ·)):(insS out x).Pairwise (· < ·)/\∀ y,y∈insS out x↔y∈out\/y=x:=by
 rw [zlC h];refine ⟨?_,fun y=>?_⟩
 ·refine List.pairwise_append.2 ⟨h.sublist List.filter_sublist,List.pairwise_cons.2 ⟨fun y hy=>by simpa using (List.mem_filter.1 hy).2,h.sublist List.filter_sublist⟩,fun a ha c hc=>?_⟩;have h1:a<x:=by simpa using (List.mem_filter.1 ha).2
  rcases lI.1 hc with rfl | hc
  ·exact h1
  ·have h2:x<c:=by simpa using (List.mem_filter.1 hc).2
   omega
 ·simp only [lT,List.mem_filter,lI,decide_eq_true_eq];constructor
  ·rintro (⟨h1,_⟩ | rfl | ⟨h1,_⟩)
   ·exact .inl h1
   ·exact .inr rfl
   ·exact .inl h1
  ·rintro (h1 | rfl)
   ·rcases Int.lt_trichotomy y x with h2 | h2 | h2
    ·exact .inl ⟨h1,h2⟩
    ·exact .inr (.inl h2)
    ·exact .inr (.inr ⟨h1,h2⟩)
   ·exact .inr (.inl rfl)
theorem za6 (xs:List Int):∀ out:List Int,out.Pairwise (· < ·)->(xs.foldl insS out).Pairwise (· < ·)/\∀ y,y∈xs.foldl insS out↔y∈out\/y∈xs:=by
 induction xs with
 | nil=>intro out h; exact ⟨h,fun y=>by simp⟩
 | cons x xs ih =>
  intro out h;obtain ⟨h1,h2⟩:=zks (x:=x) h;obtain ⟨h3,h4⟩:=ih _ h1;refine ⟨h3,fun y=>?_⟩;rw [List.foldl_cons,h4,h2,lI,or_assoc]
theorem zgK:∀ {xs ys:List Int},xs.Pairwise (· < ·)->ys.Pairwise (· < ·)->(∀ z,z∈xs↔z∈ys)->xs=ys
 | [],[],_,_,_=>rfl
 | [],y::ys,_,_,h=>absurd ((h y).2 List.mem_cons_self) sQ
 | x::xs,[],_,_,h=>absurd ((h x).1 List.mem_cons_self) sQ
 | x::xs,y::ys,h1,h2,h=>by
  obtain ⟨h3,h4⟩:=List.pairwise_cons.1 h1;obtain ⟨h5,h6⟩:=List.pairwise_cons.1 h2;have hx:=lI.1 ((h x).1 List.mem_cons_self);have hy:=lI.1 ((h y).2 List.mem_cons_self);have he:x=y:=by
   rcases hx with e | e
   ·exact e
   ·rcases hy with f | f
    ·exact f.symm
    ·have:=h5 _ e; have:=h3 _ f; omega
  subst he;congr 1;refine zgK h4 h6 fun z=>⟨fun hz=>?_,fun hz=>?_⟩
  ·rcases lI.1 ((h z).1 (lL _ hz)) with e | e
   ·have:=h3 _ hz; omega
   ·exact e
  ·rcases lI.1 ((h z).2 (lL _ hz)) with e | e
   ·have:=h5 _ hz; omega
   ·exact e
theorem ut {d:Array Int} (hs:∀ i j:Nat,i<=j->j<d.size->d[i]! <=d[j]!):∀ m:Nat,m<=d.size->(Lib.compactUpTo d m).Pairwise (· < ·)/\∀ y,y∈Lib.compactUpTo d m↔∃ i,i<m/\d[i]! =y
 | 0,_=>⟨by simp [Lib.compactUpTo],fun y=>by simp [Lib.compactUpTo]⟩
 | m+1,hm=>by
  obtain ⟨h1,h2⟩:=ut hs m oQ;rw [Lib.compactUpTo_succ];cases hk:Lib.keeps d m
  ·rw [if_neg dQ,lR];refine ⟨h1,fun y=>(h2 y).trans ⟨fun ⟨i,a,c⟩=>⟨i,oQ,c⟩,fun ⟨i,a,c⟩=>?_⟩⟩;by_cases hi:i<m
   ·exact ⟨i,hi,c⟩
   ·obtain rfl:i=m:=by omega
    simp [Lib.keeps] at hk;exact ⟨i - 1,oQ,by rw [<- c]; first | exact hk.2.symm | exact hk.2⟩
  ·rw [if_pos rfl];refine ⟨List.pairwise_append.2 ⟨h1,List.pairwise_singleton _ _,fun a ha c hc=>?_⟩,fun y=>?_⟩
   ·obtain ⟨i,hi,rfl⟩:=(h2 a).1 ha;rw [lS.1 hc];have h3:=hs i (m - 1) oQ oQ;have h4:=hs (m - 1) m oQ oQ;simp [Lib.keeps] at hk;rcases hk with hk | hk
    ·omega
    ·omega
   ·rw [lT,h2,lS];constructor
    ·rintro (⟨i,a,c⟩ | rfl)
     ·exact ⟨i,oQ,c⟩
     ·exact ⟨m,oQ,rfl⟩
    ·rintro ⟨i,a,c⟩;by_cases hi:i<m
     ·exact .inl ⟨i,hi,c⟩
     ·obtain rfl:i=m:=by omega
      exact .inr c.symm
theorem zdT {b:Bk} (hb:BkOk b):sortS ((statesR b).map fun S=>(S.length:Int))=countsM b:=by
 unfold sortS countsM Lib.compact;obtain ⟨h1,h2⟩:=za6 ((statesR b).map fun S=>(S.length:Int)) [] List.Pairwise.nil;generalize hz:sortI ((zb b).map fun S=>(S.length:Int))=zs;have hp:zs.Perm ((zb b).map fun S=>(S.length:Int)):=by rw [<- hz]; exact List.mergeSort_perm _ _
 have hso:zs.Pairwise (fun x y=>decide (x<=y)=true):=by
  rw [<- hz];exact List.pairwise_mergeSort (fun a c e h3 h4=>by simp only [decide_eq_true_eq] at *; omega) (fun a c=>by simp only [Bool.or_eq_true,decide_eq_true_eq]; omega) _
 have hs:∀ i j:Nat,i<=j->j<zs.toArray.size->zs.toArray[i]! <=zs.toArray[j]! :=fun i j hij hj=>by
  rw [List.size_toArray] at hj;rw [getElem!_pos zs.toArray i (by simp; omega),getElem!_pos zs.toArray j (by simpa using hj)];rcases Nat.lt_or_eq_of_le hij with h | rfl
  ·have:=List.pairwise_iff_getElem.1 hso i j oQ hj h;simpa using this
  ·exact Int.le_refl _
 obtain ⟨h5,h6⟩:=ut hs zs.length sQ;refine zgK h1 h5 fun z=>?_;rw [h2,h6];have h7:z∈(statesR b).map (fun S=>(S.length:Int))↔z∈zs:=by
  rw [hp.mem_iff];exact ((uA hb).map _).mem_iff.symm
 rw [h7];constructor
 ·rintro (h | h)
  ·exact absurd h sQ
  ·obtain ⟨i,hi,rfl⟩:=List.mem_iff_getElem.1 h;exact ⟨i,hi,by rw [getElem!_pos zs.toArray i (by simpa using hi)]; simp⟩
 ·rintro ⟨i,hi,rfl⟩;refine .inr ?_;rw [getElem!_pos zs.toArray i (by simpa using hi)];simp
theorem zcq:∀ (l:List SkT) (n:Int),waysI l n=n*waysI l 1
 | [],n=>by simp [waysI]
 | x::l,n=>by
  show waysI l (n*waysX x)=n*waysI l (1*waysX x);rw [zcq l (n*waysX x),zcq l (1*waysX x),Int.one_mul,Int.mul_assoc]
theorem zfB {lo hi:Int} (h:lo<=hi):((numsT lo hi).length:Int)=hi - lo+1:=by
 unfold numsT;rw [lJ,List.length_range];omega
theorem zeF {ag:VwT->Bool} {w:Nat} {st:Int}:∀ (l:List SkT) (n:Nat) (f s:List Int),(∀ x∈l,SkOk st x)->((viewT ag w l n f s).length:Int)<=waysI l 1
 | [],n,f,s,_=>by
  unfold viewT;split <;> simp [waysI]
 | x::l,n,f,s,h=>by
  have hx:=h x sQ;have hl:∀ y∈l,SkOk st y:=fun y hy=>h y (by simp [hy]);have h1:=(zdE 1 hl dQ).1;obtain ⟨B,hB⟩:∃ B:Nat,waysI l 1=B:=⟨_,(Int.toNat_of_nonneg oQ).symm⟩;have hin:∀ a c,(viewT ag w l (n+1) (f.set n a) (s.set n c)).length<=B:=fun a c=>by
   have:=zeF (ag:=ag) (w:=w) l (n+1) (f.set n a) (s.set n c) hl;omega
  have h2:(viewT ag w (x::l) n f s).length<=(numsT x.flo x.fhi).length*((numsT x.slo x.shi).length*B):=kR fun a _=>kR fun c _=>hin a c;have h3:=Int.ofNat_le.2 h2;rw [Int.natCast_mul,Int.natCast_mul,zfB hx.fr.2.1,zfB hx.se.2.1,<- Int.mul_assoc] at h3;rw [show waysI (x::l) 1=waysI l (1*waysX x) from rfl,zcq,Int.one_mul,hB];exact h3
theorem zgJ {b:StpB} (hb:StpOk b):(allT b).length<=3200:=by
 unfold allT allI;have hn:=hb.ns;have hp:=pow4 hn.2;refine mT (kR (n:=200) fun w _=>?_) ?_
 ·split
  ·have h1:=zeF (ag:=agreeT b.steps b.sks) (w:=w) b.sks 0 zero4 zero4 hb.sk;have h2:=hb.wy;unfold viewsT;omega
  ·exact mN _
 ·rw [List.length_range]; omega
def frI (vs:List VwT) (i:Nat):List Int:=vs.map fun v=>v.fr.getD i 0
def fromsT (b:StpB) (i:Nat):List Int:=Lib.compact (sortI (frI (allT b) i))
theorem zdS (xs:List Int):(Lib.compact (sortI xs)).Pairwise (· < ·)/\∀ y,y∈Lib.compact (sortI xs)↔y∈xs:=by
 unfold Lib.compact;generalize hz:sortI xs=zs;have hp:zs.Perm xs:=by rw [<- hz]; exact List.mergeSort_perm _ _
 have hso:zs.Pairwise (fun x y=>decide (x<=y)=true):=by
  rw [<- hz];exact List.pairwise_mergeSort (fun a c e h3 h4=>by simp only [decide_eq_true_eq] at *; omega) (fun a c=>by simp only [Bool.or_eq_true,decide_eq_true_eq]; omega) _
 have hs:∀ i j:Nat,i<=j->j<zs.toArray.size->zs.toArray[i]! <=zs.toArray[j]! :=fun i j hij hj=>by
  rw [List.size_toArray] at hj;rw [getElem!_pos zs.toArray i (by simp; omega),getElem!_pos zs.toArray j (by simpa using hj)];rcases Nat.lt_or_eq_of_le hij with h | rfl
  ·have:=List.pairwise_iff_getElem.1 hso i j oQ hj h;simpa using this
  ·exact Int.le_refl _
 obtain ⟨h5,h6⟩:=ut hs zs.length sQ;refine ⟨h5,fun y=>(h6 y).trans ?_⟩;rw [<- hp.mem_iff];constructor
 ·rintro ⟨i,hi,rfl⟩;rw [getElem!_pos zs.toArray i (by simpa using hi)];simp
 ·intro hy;obtain ⟨i,hi,rfl⟩:=List.getElem_of_mem hy;exact ⟨i,hi,by rw [getElem!_pos zs.toArray i (by simpa using hi)]; simp⟩
theorem zaN {b:StpB} {i:Nat} {x:Int}:x∈fromsT b i↔∃ v∈allT b,v.fr.getD i 0=x:=by
 unfold fromsT;rw [(zdS _).2];unfold frI;rw [lY]
theorem zaM (b:StpB) (i:Nat):(fromsT b i).Pairwise (· < ·):=(zdS _).1
theorem frI_S {vs:List VwT} {k i:Nat} {v:VwT} (h:vs[k]? =some v):frI (vs.take (k+1)) i=frI (vs.take k) i++[v.fr.getD i 0]:=by
 unfold frI;rw [zbd h,lM];rfl
theorem zbh (vs:List VwT) (i:Nat):(frI vs i).length=vs.length:=by unfold frI; rw [lJ]
theorem vq {b:StpB} (hb:StpOk b) (i:Nat):(fromsT b i).length<=3200:=by
 have h1:=zbx (sortI (frI (allT b) i));rw [vy,zbh] at h1;exact mT h1 (zgJ hb)
theorem vw_at {vs:List VwT} {i p:Nat} {v:VwT} {e:TypeId} {s:Nat} (h:vs[i]? =some v) (hp:p=i*9):zZ (.row (vs.flatMap vwC) e s) p 9=some (vwC v):=by
 have:=fl_at (f:=vwC) (c:=9) (fun _=>rfl) h (n:=(i:Int)) (e:=e) (rw':=false) rfl dQ;rw [mO,mZ] at this;rw [hp];exact this
instance:Cal tp 78:={}
instance:Cal tp 79:={}
theorem zjJ (tame:Tame tp) {Ψ:Goroutine->World->Prop} {vs:List VwT} {c0 c1 c2:AV} {i ja jh:Nat} (hi:i<4) (h2:vs.length<=3200):zg tp (BT tp Ψ) gmS 78 [.agg [c0,c1,c2,.row ja vs.length],.fn 79 [] [.ptr jh 0]] [(ja,.row (vs.flatMap vwC) 175 9),(jh,.cells [intA (i:Int)] 3 true)] (fun r K'=>∃ jo:Nat,r=.row jo (Lib.compact (sortI (frI vs i))).length/\K'=[(jo,.row ((Lib.compact (sortI (frI vs i))).map intA) 3 1),(ja,.row (vs.flatMap vwC) 175 9),(jh,.cells [intA (i:Int)] 3 true)]):=by
 have hT:=kX tame Ψ;refine ze 26 hT Tryz.func78 fun Y hret=>?_;refine au 21042 ?_;intro jb hjb;refine au 22354235 ?_;refine TK.virt 5 3 1 Z fun jo0 hjo0=>?_;refine au 130312806906704 ?_;refine bA [1,5,9,10,11] ?_;refine bC [(jo0,_),(ja,_),(jh,_)] ?_;refine bE (fun n1 env K=>∃ (k jo:Nat),n1=vs.length - k/\k<=vs.length/\env=zJ 26 [(1,.fn 79 [] [.ptr jh 0]),(5,.row jo k),(9,.row ja vs.length),(10,intA vs.length),(11,intA k)]/\K=[(jo,.row ((frI (vs.take k) i).map intA) 3 1),(ja,.row (vs.flatMap vwC) 175 9),(jh,.cells [intA (i:Int)] 3 true)]) vs.length ⟨0,jo0,rfl,mN _,rfl,rfl⟩ fun n1 env K hI hnext=>?_;obtain ⟨k,jo,rfl,hk,rfl,rfl⟩:=hI;have hkl2:(frI (vs.take k) i).length=k:=by rw [zbh,List.length_take]; omega
 refine au 923742 ?_;constructor<;>intro hc0
 ·have hkl:k<vs.length:=by simp at hc0; omega
  obtain ⟨v,hv⟩:∃ v,vs[k]? =some v:=⟨_,lA hkl⟩;refine au 370421302120 ?_;refine bH Z (zK Z Z zd.h mQ (vw_at hv oQ)) ?_;refine au 220 ?_;intro j7 hj7;refine au 6801143170 ?_;refine bD Z Z Z Z (zgB hT (v:=v) hi) ?_;rintro r1 K2 ⟨rfl,rfl⟩;refine au 0 ?_;refine bI Z Z Z (zG (l:=[_]) Z SlEl.h TyZ.h dQ dQ Z) (fun _=>zy rfl tQ) fun j4 hj4=>?_;refine TK.appR Z Z Z (a_app Z ApOf.h Z mQ (by rw [lJ,hkl2,Nat.mul_one]) Z (yS (ln:=[_]) mQ dQ sQ Z) oQ Z (by unfold maxLen; omega) oQ) (fun _=>uQ) (fun _=>zy rfl tQ) fun j2=>?_;refine au 31230414035 ?_;refine bA [1,5,9,10,11] ?_;refine bC [(j2,_),(ja,_),(jh,_)] ?_;exact hnext _ _ _ oQ ⟨k+1,j2,rfl,oQ,rfl,by rw [frI_S hv,lM] <;> rfl⟩
 obtain rfl:k=vs.length:=by simp at hc0; omega
 rw [lW];rw [<- zbh vs i];refine au 142160 ?_;refine bD Z Z Z Z (zg6 tame (xs:=frI vs i) (by rw [zbh]; omega)) ?_;rintro r5 K6 ⟨rfl,rfl⟩;refine au 0 ?_;rw [<- vy (frI vs i)];refine au 1423 ?_;refine bD Z Z Z Z (zcw tame (xs:=sortI (frI vs i))) ?_;rintro r8 K9 ⟨rfl,rfl⟩;refine au 35 ?_;refine bB hret [(jo,_),(ja,_),(jh,_)] ?_;exact ⟨jo,rfl,rfl⟩
theorem zc4 (tame:Tame tp) {Ψ:Goroutine->World->Prop} {st wr:Int} {g:Nat} {Zq:List (Nat×SkT)} {i:Nat} (hb:StpOk (skB st wr Zq)) (hi0:i<Zq.length) (hne:allT (skB st wr Zq)≠[]):zg tp (BT tp Ψ) gmS 20 [.agg (stpC st wr g Zq),intA (i:Int)] ((5,spChecksG)::(g,skO Zq)::mkK Zq) (fun r K'=>∃ jo:Nat,r=.tup [.row jo (fromsT (skB st wr Zq) i).length,intA 0]/\K'=(jo,.row ((fromsT (skB st wr Zq) i).map intA) 3 1)::(5,spChecksG)::(g,skO Zq)::mkK Zq):=by
 have hT:=kX tame Ψ;refine ze 20 hT Tryz.func20 fun Y hret=>?_;refine au 0 ?_;have hz:=zN hb;refine au 21042 ?_;intro jb hjb;refine au 210 ?_;intro jh hjh;refine au 32068042355 ?_;refine bD Z Z Z Z (zjI hT hb hi0 hne) ?_ (hs:=(.rem .head (.right (.all _))));rintro r1 K2 ⟨ja,rfl,rfl⟩;refine au 0 ?_;refine bN (K':=(jb,_)::(ja,_)::(jh,_)::(5,_)::(g,_)::mkK Zq) (lH (l₁:=(ja,_)::(jh,_)::(5,_)::(g,_)::mkK Zq) (l₂:=[(jb,_)])) ?_;refine au 220661 ?_;intro jk hjk;refine au 937142235170 ?_;constructor<;>intro hc0
 ·exact absurd hc0 dQ
 refine au 32068042120 ?_;refine bD Z Z Z Z (zjJ tame (vs:=allT (skB st wr Zq)) oQ (zgJ hb)) ?_ (hs:=(.right (.right (.rem .head (.rem .head (.none _))))));rintro r4 K5 ⟨jo,rfl,rfl⟩;refine au 355 ?_;refine bB hret (((jo,_)::(5,_)::(g,_)::mkK Zq)) ?_;exact ⟨jo,rfl,rfl⟩
end Go.Vel
namespace Go.Vel
open Go Go.Conc
section
variable {P:Program} {gm:Nat->Option Nat} {V:KV} {env:List AV} {o:Oper} {A:List AObj}
end
end Go.Vel
namespace Go.Vel
open Go Go.Conc Go.Proofs
def goneB (b:StB) (i:Nat):StB:={ b with groups:=b.groups.eraseIdx i }
instance:BlOf tp 31 [(0,1),(1,1),(2,1),(3,1)]:={}
instance:Cal tp 30:={}
instance:Cal tp 31:={}
instance:Cal tp 54:={}
instance:Cal tp 55:={}
instance:TyZ tp 120 [.nilFunc]:={}
instance:TyZ tp 31 [.int .i64 0,.bool false,.slice none 0 0,.slice none 0 0]:={}
end Go.Vel
end
