/- The law RollReached: each number that is told is reached, and no other. It holds of every program, tape and world that the statements name, as each theorem says. -/
import Derived.Sort.AssemblyPlain
import Derived.Sort.LotD3
import Derived.Test.YtamcohjpanjdiaaGreatDoorK5
import Derived.Test.YtamcohjpanjdiaaGreatDoorK7
import Derived.Test.YtamcohjpanjdiaaGreatDoorK8
import Derived.Test.YtamcohjpanjdiaaGreatDoorK10
section
set_option linter.all false
set_option maxRecDepth 20000
set_option maxHeartbeats 60000000
namespace Go.Vel
open Go Go.Conc
section
variable {P:Program} {gm:Nat->Option Nat} {T:Goroutine->Hp->Prop} {Y:KX P gm T} {ds:List Nat} {k:List Item} {env env':List AV} {K:KV} {ops:Array Oper} {i d id:Nat} {L':List Nat} {o:Oper} {r:AV} {pend:List Pd}
theorem TD.mv (s:List Nat) (h:TD Y ds ops k (⟨i,s,[]⟩::pend) L' env' K) (ho:ops[i]? =some o:=by rfl) (hq:∀ A,zM [] A->OpOk P gm (onl s env) A o r A:=by exact zh rfl rfl) (hd:yb o.op=false:=by rfl) (hw:zK ops (onl s env) o=some true:=by rfl) (hc:chkQ ops pend s i env.length o.dst=true:=by rfl) (hx:o.dst=some d:=by rfl) (he:env.set d r=env':=by simp only [List.set]; rfl):TD Y ds ops k pend (i::L') env K:=TD.z s ho hq h hd hw hc hx he
theorem TD.ix (s:List Nat) (h:TD Y ds ops k (⟨i,s,[]⟩::pend) L' env' K) (ho:ops[i]? =some o:=by rfl) (hq:∀ A,zM [] A->OpOk P gm (onl s env) A o r A:=by exact zQ rfl rfl rfl zF.h (by omega) (by omega)) (hd:yb o.op=false:=by rfl) (hw:zK ops (onl s env) o=some true:=by rfl) (hc:chkQ ops pend s i env.length o.dst=true:=by rfl) (hx:o.dst=some d:=by rfl) (he:env.set d r=env':=by simp only [List.set]; rfl):TD Y ds ops k pend (i::L') env K:=TD.z s ho hq h hd hw hc hx he
theorem TK.dr (L ρg:List Nat) (h:TD Y ds ops k [] L env K) (hd:drawnOk ops (List.range ops.size) ρg=true:=by kernel_rfl) (hL:(List.range ops.size).all (fun i=>L.elem i)&&L.all (fun i=>decide (i<ops.size))=true:=by kernel_rfl):TK Y ds (.code (.region id ops true)::k) env K:=TK.draw L ρg hd hL h
end
end Go.Vel
open Go.Proofs.Tryz renaming prog -> tp
open List renaming getElem?_eq_getElem -> lA, nil_append -> lC, getElem?_eq_some_iff -> lD, mem_cons -> lI, length_map -> lJ, eq_nil_of_length_eq_zero -> lK, map_append -> lM, append_nil -> lR, mem_singleton -> lS, mem_append -> lT, take_length -> lW, getElem?_set -> lX, mem_map -> lY, length_cons -> lZ
open List.Mem renaming head -> mC
open Nat renaming le_refl -> mL, zero_le -> mN, zero_add -> mO
open Bool renaming and_eq_true -> mX
namespace Go.Vel
open Go Go.Conc
theorem xh {xs:List Int} (hs:∀ i j,i<j->j<xs.length->zN xs i<=zN xs j):∀ p,p<=xs.length->(compN xs p).Pairwise (· < ·)/\(∀ z,z∈compN xs p↔z∈xs.take p)/\(∀ z∈compN xs p,0<p/\z<=zN xs (p - 1))
 | 0,_=>⟨.nil,fun z=>by simp [compN],fun z hz=>by cases hz⟩
 | 1,h=>by
  have e:xs.take 1=[zN xs 0]:=by rw [yP (z5 (l:=xs) (k:=0) oQ)]; rfl
  refine ⟨?_,fun z=>Iff.rfl,fun z hz=>?_⟩
  ·show (xs.take 1).Pairwise _;rw [e]; exact List.pairwise_singleton _ _
  ·have hz:z∈xs.take 1:=hz;rw [e] at hz;exact ⟨by omega,by rw [lS.1 hz]; exact Int.le_refl _⟩
 | p+2,h=>by
  obtain ⟨h1,h2,h3⟩:=xh hs (p+1) oQ;have hle:=hs p (p+1) oQ oQ;have ht:xs.take (p+2)=xs.take (p+1)++[zN xs (p+1)]:=yP (z5 oQ);by_cases e:zN xs p=zN xs (p+1)
  ·rw [vW e];have hm:zN xs p∈xs.take (p+1):=by rw [yP (z5 (l:=xs) (k:=p) oQ)]; simp
   refine ⟨h1,fun z=>?_,fun z hz=>⟨by omega,?_⟩⟩
   ·rw [ht,h2 z,lT,lS];exact ⟨.inl,fun hh=>hh.elim id fun hh=>by rw [hh,<- e]; exact hm⟩
   ·have:=(h3 z hz).2;rw [Nat.add_sub_cancel] at this;show z<=zN xs (p+1);omega
  ·rw [vX e];refine ⟨List.pairwise_append.2 ⟨h1,List.pairwise_singleton _ _,fun x hx y hy=>?_⟩,fun z=>?_,fun z hz=>⟨by omega,?_⟩⟩
   ·rw [lS.1 hy];have:=(h3 x hx).2;rw [Nat.add_sub_cancel] at this;omega
   ·rw [ht,lT,lT,h2 z]
   ·show z<=zN xs (p+1);rcases lT.1 hz with hz | hz
    ·have:=(h3 z hz).2;rw [Nat.add_sub_cancel] at this;omega
    ·rw [lS.1 hz]; exact Int.le_refl _
def msI (xs:List Int):List Int:=xs.mergeSort fun x y=>decide (x<=y)
theorem xF (xs:List Int):(msI xs).length=xs.length:=(List.mergeSort_perm ..).length_eq
theorem qy {xs:List Int} {z:Int}:z∈msI xs↔z∈xs:=(List.mergeSort_perm ..).mem_iff
theorem qx (xs:List Int):∀ i j,i<j->j<(msI xs).length->zN (msI xs) i<=zN (msI xs) j:=fun i j hij hj=>by
 have hp:(msI xs).Pairwise fun x y=>decide (x<=y)=true:=List.pairwise_mergeSort (le:=fun x y:Int=>decide (x<=y)) (fun a b c h1 h2=>decide_eq_true (Int.le_trans (of_decide_eq_true h1) (of_decide_eq_true h2))) (fun a b=>by rcases Int.le_total a b with h | h <;> simp [h]) xs;have h1:=z5 (l:=msI xs) (k:=i) oQ;have h2:=z5 hj;have:=List.pairwise_iff_getElem.1 hp i j oQ hj hij;rw [lA oQ] at h1;rw [lA hj] at h2;rw [Option.some.inj h1,Option.some.inj h2] at this;exact of_decide_eq_true this
def setI (xs:List Int):List Int:=compM (msI xs)
theorem qe {xs:List Int} {z:Int}:z∈setI xs↔z∈xs:=by
 have:=(xh (qx xs) _ (mL _)).2.1 z;rw [lW] at this;exact this.trans qy
theorem xu (xs:List Int):(setI xs).length<=xs.length:=by
 have h:(setI xs).length<=(msI xs).length:=zbz (msI xs) _ (mL _);rwa [xF] at h
def shrI (b:RBk) (n:Int):List Int:=setI ((zf b).map fun s=>zN s n.toNat)
theorem qg {b:RBk} {n z:Int}:z∈shrI b n↔∃ s∈zf b,zN s n.toNat=z:=by
 unfold shrI;rw [qe,lY]
theorem jZ (b:RBk) (all:List (List Int)) (l:List Int):sqOk b all l=true↔∀ s∈all,(hangM b l s).isSome=true:=by
 unfold sqOk squaresM waysM;have key:(all.filterMap (hangM b l)).length<all.length↔¬ ∀ s∈all,(hangM b l s).isSome=true:=by
  induction all with
  | nil=>simp
  | cons s r ih =>
   have hle:(r.filterMap (hangM b l)).length<=r.length:=List.length_filterMap_le _ _;cases hs:hangM b l s with
   | none =>
    rw [List.filterMap_cons_none hs];simp [hs];omega
   | some z =>
    rw [List.filterMap_cons_some hs,lZ,lZ,Nat.succ_lt_succ_iff,ih];simp [hs]
 by_cases h:(all.filterMap (hangM b l)).length<all.length
 ·rw [if_pos h];simp only [Option.isSome_none,Bool.false_eq_true,false_iff];exact key.1 h
 ·rw [if_neg h];simp only [Option.isSome_some,true_iff];exact Classical.not_not.1 fun hh=>h (key.2 hh)
theorem xZ:∀ m:Fin 6,∀ k:Fin 5,k.1<m.1->zw (2 ^ k.1) m.1=[(k.1:Int)]:=by decide
theorem xO:∀ i,zw 0 i=[]
 | 0=>rfl
 | i+1=>by unfold zw; rw [xO i,Nat.zero_div]; rfl
theorem jX (c m:Nat):∀ i,i<=m->zw (c % 2 ^ m) i=zw c i
 | 0,_=>rfl
 | i+1,h=>by
  unfold zw;rw [jX c m i oQ];have h1:=Nat.testBit_mod_two_pow c m i;rw [Nat.testBit_eq_decide_div_mod_eq,Nat.testBit_eq_decide_div_mod_eq,decide_eq_true (show i<m by omega),Bool.true_and] at h1;have h2:(c % 2 ^ m / 2 ^ i % 2=1)=(c / 2 ^ i % 2=1):=propext (by simpa using h1);simp only [h2]
def otherM (c n:Nat):List Int:=if zw c n=[] then [((c % n:Nat):Int)] else zw c n
theorem xK {c n:Nat} (h1:1<=n) (h5:n<=5):∃ d,0<d/\d<2 ^ n/\otherM c n=zw d n:=by
 unfold otherM;split
 ·have hm:=Nat.mod_lt c h1;exact ⟨2 ^ (c % n),Nat.two_pow_pos _,Nat.pow_lt_pow_right dQ hm,(xZ ⟨n,oQ⟩ ⟨c % n,oQ⟩ hm).symm⟩
 ·rename_i h;refine ⟨c % 2 ^ n,?_,Nat.mod_lt _ (Nat.two_pow_pos _),(jX c n n (mL _)).symm⟩;rcases Nat.eq_zero_or_pos (c % 2 ^ n) with h0 | h0
  ·exact absurd (by rw [<- jX c n n (mL _),h0]; exact xO n) h
  ·exact h0
theorem xt {b:RBk}:∀ (l:List RSeam) (last:Int),(∀ s∈l,seamB b s=true/\last<s.step)->(l.Pairwise fun s t=>s.step<t.step)->seamsL b last l=0
 | [],_,_,_=>rfl
 | s::r,last,h,hp=>by
  obtain ⟨p1,p2⟩:=List.pairwise_cons.1 hp;have h1:=h s sQ;unfold seamsL;rw [if_neg (by rw [h1.1]; decide),if_neg oQ];exact xt r _ (fun t ht=>⟨(h t (by simp [ht])).1,p1 t ht⟩) p2
theorem xg {b:RBk}:∀ (l:List RBand) (i:Nat),(∀ k x,l[k]? =some x->bandB x=true/\x.high<wideM b (i+k))->clothsL b i l=0
 | [],_,_=>rfl
 | x::r,i,h=>by
  have h1:=h 0 x rfl;unfold clothsL;rw [if_neg (by rw [h1.1]; decide),if_neg (by have:=h1.2; rw [Nat.add_zero] at this; omega)];exact xg r _ fun k y hy=>by
   have:=h (k+1) y (by simpa using hy);rwa [show i+(k+1)=i+1+k by omega] at this
theorem xE {b:RBk}:∀ (l:List RMeas),(∀ m∈l,0<=m.cloth/\m.cloth<b.seams.length/\1<=m.many/\m.many<=b.seams.length/\0<=m.wide/\m.wide<=24)->measL b l=0
 | [],_=>rfl
 | m::r,h=>by
  have h1:=h m sQ;have h2:thereM b m.cloth=0:=by unfold thereM; rw [if_pos (by simp [betw]; omega)]
  have h3:measB b m=true:=by simp only [measB,betw,mX,decide_eq_true_eq]; omega
  unfold measL;rw [if_neg (by rw [h2]; decide),if_neg (by rw [h3]; decide)];exact xE r fun y hy=>h y (by simp [hy])
theorem jI {b:RBk} (h:ROk b):zr b=0:=by
 have hr:=h.rnd;have h1:roundsM b=0:=by
  unfold roundsM;rw [if_pos];simp only [betw,mX,decide_eq_true_eq];exact ⟨⟨⟨hr.steps,hr.round⟩,hr.roll⟩,hr.rolls⟩
 have hs:=h.sms;have sat:∀ i,(hi:i<b.seams.length)->b.seams[i]=sm b i:=fun i hi=>by
  have:=yV hi;rw [lA hi] at this;exact Option.some.inj this
 have h2:seamsM b=0:=by
  have hbl:betw b.seams.length 1 5=true:=by
   have:=hs.len;simp only [betw,mX,decide_eq_true_eq];omega
  unfold seamsM;rw [if_neg (by rw [hbl]; decide)];refine xt _ _ (fun s hm=>?_) (List.pairwise_iff_getElem.2 fun i j hi hj hij=>by rw [sat i hi,sat j hj]; exact hs.asc i j hij hj);obtain ⟨i,hi,rfl⟩:=List.getElem_of_mem hm;rw [sat i hi];have:=hs.fld i hi;exact ⟨by simp only [seamB,betw,mX,decide_eq_true_eq]; omega,oQ⟩
 have h3:clothsM b=0:=by
  unfold clothsM;rw [if_neg (by rw [h.cls.len]; simp)];refine xg _ _ fun k x hx=>?_;have hk:k<b.shrinks.length:=by
   rcases Nat.lt_or_ge k b.shrinks.length with h | h
   ·exact h
   ·rw [List.getElem?_eq_none h] at hx; cases hx
  rw [ko hk] at hx;cases hx;have:=h.cls.bnd k (by have:=h.cls.len; omega);exact ⟨by simp only [bandB,isBd,mX,decide_eq_true_eq]; omega,by rw [mO]; exact this.2.2.2.2⟩
 have h4:measM b=0:=by
  unfold measM;have:=h.mes.len;rw [if_neg oQ];exact xE _ h.mes.bnd
 unfold zr;rw [if_neg (by rw [h1]; decide),if_neg (by rw [h2]; decide),if_neg (by rw [h3]; decide)];exact h4
def sumF (f:Nat->Int):Nat->Int
 | 0=>0
 | k+1=>sumF f k+f k
def needM (b:RBk) (l w:List Int) (k:Nat):Int:=sumF (fun i=>(cutS b l i).spoil+w.getD i 0*(cutS b l i).busy) k
def manyM (b:RBk) (l:List Int) (i:Nat):Int:=if i+1<l.length then zN l (i+1) - zN l i else zN l 0 - zN l i+b.seams.length
def nowS (b:RBk) (s:List Int) (x:Nat):Int:=sumF (nowM b s) x
def fS (f:Int->Int):List Int->Int
 | []=>0
 | k::o=>f k+fS f o
def gC (m c:Int->Int):List Int->Int->Int
 | [],_=>0
 | k::o,n=>min n (m k)*c k+gC m c o (n - min n (m k))
def pw:Nat->Int
 | 0=>10000
 | 1=>1000
 | 2=>100
 | 3=>10
 | _=>1
def wgt (b:RBk) (l:List Int) (k:Int):Int:=(cutS b l k.toNat).busy*1000000+pw k.toNat
def mostS (b:RBk) (l:List Int) (k:Nat):Int:=sumF (fun i=>(cutS b l i).most) k
def numW (x:List Int) (n:Nat):Int:=sumF (fun i=>x.getD i 0*pw i) n
theorem xD:∀ (r:List Int) (x:Int),r.foldl min x<=x/\(∀ y∈r,r.foldl min x<=y)/\(r.foldl min x=x\/r.foldl min x∈r)
 | [],x=>⟨Int.le_refl _,fun y hy=>(by cases hy),.inl rfl⟩
 | z::r,x=>by
  obtain ⟨h1,h2,h3⟩:=xD r (min x z);rw [List.foldl_cons];refine ⟨by omega,fun y hy=>?_,?_⟩
  ·rcases lI.1 hy with rfl | hy
   ·omega
   ·exact h2 y hy
  ·rcases h3 with h3 | h3
   ·rw [h3];by_cases e:x<=z
    ·left; omega
    ·right; rw [Int.min_eq_right oQ]; simp
   ·right; simp [h3]
theorem xC:∀ (r:List Int) (x:Int),x<=r.foldl max x/\(∀ y∈r,y<=r.foldl max x)/\(r.foldl max x=x\/r.foldl max x∈r)
 | [],x=>⟨Int.le_refl _,fun y hy=>(by cases hy),.inl rfl⟩
 | z::r,x=>by
  obtain ⟨h1,h2,h3⟩:=xC r (max x z);rw [List.foldl_cons];refine ⟨by omega,fun y hy=>?_,?_⟩
  ·rcases lI.1 hy with rfl | hy
   ·omega
   ·exact h2 y hy
  ·rcases h3 with h3 | h3
   ·rw [h3];by_cases e:z<=x
    ·left; omega
    ·right; rw [Int.max_eq_right oQ]; simp
   ·right; simp [h3]
theorem jF {xs:List Int} (hne:xs≠[]):(∀ y∈xs,(spreadM xs).1<=y/\y<=(spreadM xs).2)/\(spreadM xs).1∈xs/\(spreadM xs).2∈xs:=by
 cases xs with
 | nil=>exact absurd rfl hne
 | cons x r =>
  obtain ⟨a1,a2,a3⟩:=xD r x;obtain ⟨c1,c2,c3⟩:=xC r x;show (∀ y∈x::r,r.foldl min x<=y/\y<=r.foldl max x)/\r.foldl min x∈x::r/\r.foldl max x∈x::r;refine ⟨fun y hy=>?_,?_,?_⟩
  ·rcases lI.1 hy with rfl | hy
   ·exact ⟨a1,c1⟩
   ·exact ⟨a2 y hy,c2 y hy⟩
  ·rcases a3 with h | h
   ·rw [h]; simp
   ·simp [h]
  ·rcases c3 with h | h
   ·rw [h]; simp
   ·simp [h]
theorem sq_in {b:RBk} {all:List (List Int)} {l:List Int} (hne:all≠[]) (h:sqOk b all l=true):(∀ s∈all,∀ w q,hangM b l s=some (w,q)->sqLo b all l<=q/\q<=sqHi b all l)/\(∃ s∈all,∃ w,hangM b l s=some (w,sqLo b all l))/\∃ s∈all,∃ w,hangM b l s=some (w,sqHi b all l):=by
 have hall:=(jZ b all l).1 h;have hlt:¬ (waysM b all l).length<all.length:=fun hh=>by
  unfold sqOk squaresM at h;rw [if_pos hh] at h;cases h
 have e:squaresM b all l=some (spreadM ((waysM b all l).map (·.2))):=by unfold squaresM; rw [if_neg hlt]
 have hnn:(waysM b all l).map (·.2)≠[]:=fun hh=>by
  have h1:=congrArg List.length hh;rw [lJ] at h1;have h2:0<all.length:=List.length_pos_iff.2 hne;simp only [List.length_nil] at h1;omega
 obtain ⟨g1,g2,g3⟩:=jF hnn;unfold sqLo sqHi;rw [e];show (∀ s∈all,∀ w q,hangM b l s=some (w,q)->(spreadM _).1<=q/\q<=(spreadM _).2)/\(∃ s∈all,∃ w,hangM b l s=some (w,(spreadM _).1))/\∃ s∈all,∃ w,hangM b l s=some (w,(spreadM _).2);have back:∀ q,q∈(waysM b all l).map (·.2)->∃ s∈all,∃ w,hangM b l s=some (w,q):=fun q hq=>by
  obtain ⟨⟨w,q'⟩,hz,rfl⟩:=lY.1 hq;obtain ⟨s,hs,hz⟩:=List.mem_filterMap.1 hz;exact ⟨s,hs,w,hz⟩
 exact ⟨fun s hs w q hq=>g1 q (lY.2 ⟨(w,q),List.mem_filterMap.2 ⟨s,hs,hq⟩,rfl⟩),back _ g2,back _ g3⟩
structure Wider (b o:RBk):Prop where
 steps:o.steps=b.steps
 round:o.round=b.round
 roll:b.roll<=o.roll
 rolls:b.rolls<=o.rolls
 len:o.seams.length=b.seams.length
 shr:o.shrinks=b.shrinks
 mes:o.measures=b.measures
 sm:∀ i,i<b.seams.length->(sm o i).step=(sm b i).step/\(sm o i).busy=(sm b i).busy/\(sm o i).spoil=(sm b i).spoil/\(sm o i).whole=(sm b i).whole/\(sm b i).most<=(sm o i).most
theorem Wider.at {b o:RBk} (h:Wider b o) (r:Int):Wider (atRound b r) (atRound o r):=⟨h.steps,rfl,h.roll,h.rolls,h.len,h.shr,h.mes,h.sm⟩
theorem Wider.wide {b o:RBk} (h:Wider b o) {i:Nat} (hi:i<b.seams.length):wideM o i=wideM b i:=by
 unfold wideM;rw [h.len,h.steps,(h.sm i hi).1,(h.sm 0 oQ).1];by_cases e:i+1<b.seams.length
 ·rw [if_pos e,if_pos e,(h.sm _ e).1]
 ·rw [if_neg e,if_neg e]
theorem Wider.st {b o:RBk} (h:Wider b o) {s:List Int} (hs:StOk b s):StOk o s:=⟨by rw [h.len]; exact hs.len,fun i hi=>by
 rw [h.len] at hi;rw [h.wide hi];exact hs.bnd i hi⟩
def preS (b:RBk):Nat->List (List Int)
 | 0=>[[]]
 | i+1=>(preS b i).flatMap fun p=>(numsM (bd b i)).map fun n=>p++[n]
def extL:List (List Int)->List RBand->List (List Int)
 | L,[]=>L
 | L,x::r=>extL (L.flatMap fun p=>(numsM x).map fun n=>p++[n]) r
def leavesL (all:List (List Int)) (i:Nat) (low:Int):Nat->Int
 | 0=>0
 | k+1=>max (leavesL all i low k) (cntM all i (low+k))
def leavesM (b:RBk) (i:Nat):Int:=leavesL (zf b) i (bd b i).low ((bd b i).high+1 - (bd b i).low).toNat
theorem qa {φ:Nat->Loc3} {A:List AObj} {F H:Hp} (h:RelH φ A F H) {j:Nat} {l z:List AV} {e:TypeId} (hj:A[j]? =some (.cells (l++z) e false)):RelH φ (A.set j (.cells l e false)) F H:=by
 have hg:∀ t w,(A.set j (.cells l e false))[t]? =some w->(t=j/\w=.cells l e false)\/(t≠j/\A[t]? =some w):=fun t w ht=>by
  rw [lX] at ht;split at ht
  ·rename_i e';split at ht
   ·cases ht; exact .inl ⟨e'.symm,rfl⟩
   ·cases ht
  ·rename_i e';exact .inr ⟨fun h=>e' h.symm,ht⟩
 have hne:l≠[]->l++z≠[]:=fun hl he=>hl (List.append_eq_nil_iff.1 he).1;refine ⟨fun t w ht=>?_,fun t t' w w' ht ht' hn he hl s1 s2=>?_,h.fr,fun t w ht he hs=>?_⟩
 ·rw [List.length_set];rcases hg t w ht with ⟨rfl,rfl⟩ | ⟨_,h2⟩
  ·intro hl;obtain ⟨r,cur,q,h1,_,h3⟩:=h.obj t _ hj (hne hl);exact ⟨r,cur,q,h1,(fun h=>by cases h),fun i a ha=>h3 i a (by
    obtain ⟨hi,_⟩:=lD.1 ha;rw [List.getElem?_append_left hi]; exact ha)⟩
  ·exact h.obj t w h2
 ·rcases hg t w ht with ⟨rfl,rfl⟩ | ⟨_,h2⟩
  ·cases he
  ·rcases hg t' w' ht' with ⟨rfl,rfl⟩ | ⟨_,h2'⟩
   ·exact h.apart t t' w _ h2 hj hn he rfl s1 (hne s2)
   ·exact h.apart t t' w w' h2 h2' hn he hl s1 s2
 ·rcases hg t w ht with ⟨rfl,rfl⟩ | ⟨_,h2⟩
  ·cases he
  ·exact h.frx t w h2 he hs
section
variable {P:Program} {gm:Nat->Option Nat} {T:Goroutine->Hp->Prop} {Y:KX P gm T} {ds:List Nat} {k:List Item} {env:List AV} {K K':KV}
theorem TK.cutC {j:Nat} {l z:List AV} {e:TypeId} (h:TK Y ds k env K') (hu:Upd K j (.cells (l++z) e false) j (.cells l e false) K':=by repeat (first | exact Upd.head | apply Upd.tail)):TK Y ds k env K:=fun A hA φ H ts h1 h2 h3 h4 h5 h6=>by
 have hj:=hA.view.get hu.mem;have hl:(A.set j (.cells l e false)).length=A.length:=by simp
 exact h _ (hA.step (.set hA.view hA.nd hu)) φ H ts h1 (by rw [hl]; exact h2) (by rw [hl]; exact h3) (by rw [hl]; exact h4) (qa h5 hj) (by rw [hl]; exact h6)
end
def changeB (b:RBk) (sh:List RBand) (me:List RMeas):RBk:={ b with shrinks:=sh,measures:=me }
theorem xl (b:RBk) (sh:List RBand) (me:List RMeas) (l:List Int):∀ k,spoilM (changeB b sh me) l k=spoilM b l k
 | 0=>rfl
 | k+1=>by
  unfold spoilM;rw [xl b sh me l k]; rfl
theorem xA (b:RBk) (sh:List RBand) (me:List RMeas):hangM (changeB b sh me)=hangM b:=by
 funext l s;have h0:allocA (changeB b sh me) l (freshM b s)=allocA b l (freshM b s):=by
  unfold allocA alloc0;rw [xl]; rfl
 unfold hangM;rw [show fitsM (changeB b sh me) l=fitsM b l from rfl,show freshM (changeB b sh me) s=freshM b s from rfl,h0]
theorem ch_sq (b:RBk) (sh:List RBand) (me:List RMeas) (all:List (List Int)) (l:List Int):squaresM (changeB b sh me) all l=squaresM b all l:=by
 unfold squaresM waysM;rw [xA]
theorem ch_ok (b:RBk) (sh:List RBand) (me:List RMeas) (all:List (List Int)) (l:List Int):sqOk (changeB b sh me) all l=sqOk b all l:=by
 unfold sqOk;rw [ch_sq]
theorem ch_lo (b:RBk) (sh:List RBand) (me:List RMeas) (all:List (List Int)) (l:List Int):sqLo (changeB b sh me) all l=sqLo b all l:=by
 unfold sqLo;rw [ch_sq]
theorem ch_hi (b:RBk) (sh:List RBand) (me:List RMeas) (all:List (List Int)) (l:List Int):sqHi (changeB b sh me) all l=sqHi b all l:=by
 unfold sqHi;rw [ch_sq]
section
variable {b:RBk} {all al2:List (List Int)} {l:List Int}
theorem qS (hne:al2≠[]) (hsub:∀ s∈al2,s∈all) (h:sqOk b all l=true):sqOk b al2 l=true/\sqLo b all l<=sqLo b al2 l/\sqHi b al2 l<=sqHi b all l:=by
 have hn:all≠[]:=fun e=>by
  cases al2 with
  | nil=>exact hne rfl
  | cons x r=>have:=hsub x sQ; rw [e] at this; cases this
 have h1:=(jZ b all l).1 h;have h2:sqOk b al2 l=true:=(jZ b al2 l).2 fun s hs=>h1 s (hsub s hs);obtain ⟨a1,_,_⟩:=sq_in hn h;obtain ⟨_,⟨s1,m1,w1,e1⟩,s2,m2,w2,e2⟩:=sq_in hne h2;exact ⟨h2,(a1 s1 (hsub s1 m1) w1 _ e1).1,(a1 s2 (hsub s2 m2) w2 _ e2).2⟩
end
theorem qu {b:RBk} {sh:List RBand} {me:List RMeas} (hne:zf (changeB b sh me)≠[]) (hsub:∀ s∈zf (changeB b sh me),s∈zf b):(newM b).1<=(newM (changeB b sh me)).1/\(newM (changeB b sh me)).2<=(newM b).2:=by
 have hn:zf b≠[]:=fun e=>by
  cases h:zf (changeB b sh me) with
  | nil=>exact hne h
  | cons x r=>have:=hsub x (by rw [h]; simp); rw [e] at this; cases this
 obtain ⟨h1,_,_⟩:=jF (xs:=(zf b).map (freshM b)) (by simpa using hn);obtain ⟨_,h2,h3⟩:=jF (xs:=(zf (changeB b sh me)).map (freshM (changeB b sh me))) (by simpa using hne);have key:∀ y∈(zf (changeB b sh me)).map (freshM (changeB b sh me)),y∈(zf b).map (freshM b):=fun y hy=>by
  obtain ⟨s,hs,rfl⟩:=lY.1 hy;exact lY.2 ⟨s,hsub s hs,rfl⟩
 exact ⟨(h1 _ (key _ h2)).1,(h1 _ (key _ h3)).2⟩
theorem xY (b:RBk) (sh:List RBand) (me:List RMeas) (s:List Int) (c:Nat):∀ k,togM (changeB b sh me) s c k=togM b s c k
 | 0=>rfl
 | k+1=>by
  show togM (changeB b sh me) s c k+_=togM b s c k+_;rw [xY b sh me s c k]; rfl
theorem qb (b:RBk) (sh:List RBand) (me:List RMeas) (s:List Int):rightM (changeB b sh me) s=me.all fun m=>decide (togM b s m.cloth.toNat m.many.toNat=m.wide):=by
 unfold rightM;show me.all _=_;congr 1;funext m;rw [xY]
theorem xT {b:RBk} (hb:ROk b) {i:Nat} {z:RBand} (hi:i<b.shrinks.length) (h1:(bd b i).low<=z.low) (h2:z.low<=z.high) (h9:z.high<=(bd b i).high):ROk (driedB b i z):=by
 refine ⟨⟨hb.rnd.steps,hb.rnd.round,hb.rnd.roll,hb.rnd.rolls⟩,⟨hb.sms.len,hb.sms.fld,hb.sms.asc⟩,⟨?_,fun k hk=>?_⟩,⟨hb.mes.len,hb.mes.bnd⟩⟩
 ·show (b.shrinks.set i z).length=_;rw [List.length_set]; exact hb.cls.len
 ·have hk':k<b.seams.length:=hk;have hq:=hb.cls.bnd k hk';have hqi:=hb.cls.bnd i (by have:=hb.cls.len; omega);show 0<=(bd (driedB b i z) k).low/\(bd (driedB b i z) k).low<=(bd (driedB b i z) k).high/\(bd (driedB b i z) k).high<=5/\(bd (driedB b i z) k).high - (bd (driedB b i z) k).low<3/\(bd (driedB b i z) k).high<wideM b k;have e:bd (driedB b i z) k=if i=k then z else bd b k:=by
   have h3:=ko (b:=driedB b i z) (i:=k) (by show k<(b.shrinks.set i z).length; rw [List.length_set,hb.cls.len]; exact hk');have h4:(b.shrinks.set i z)[k]? =some (bd (driedB b i z) k):=h3;rw [lX] at h4;by_cases e:i=k
   ·rw [if_pos e] at h4 ⊢;rw [if_pos hi] at h4;exact (Option.some.inj h4).symm
   ·rw [if_neg e] at h4 ⊢;rw [ko (by rw [hb.cls.len]; exact hk')] at h4;exact (Option.some.inj h4).symm
  rw [e];by_cases e:i=k
  ·subst e;rw [if_pos rfl];omega
  ·rw [if_neg e];omega
def nowW (b:RBk) (s:List Int) (m:RMeas):RMeas:={ m with wide:=togM b s m.cloth.toNat m.many.toNat }
def trulyT (b:RBk) (s:List Int) (i:Nat):List RMeas:=(b.measures.take i).map (nowW b s)
def trulyB (b:RBk) (s:List Int):RBk:={ b with measures:=trulyT b s b.measures.length }
theorem xr {b:RBk}:∀ (r:List RBand) (p t:List Int),t.length=r.length->(∀ (i:Nat) (x:RBand) (y:Int),r[i]? =some x->t[i]? =some y->x.low<=y/\y<=x.high)->rightM b (p++t)=true->p++t∈fromM b p r
 | [],p,[],_,_,h=>by
  rw [lR] at h ⊢;unfold fromM;rw [if_pos h];exact lS.2 rfl
 | x::r,p,y::t,hl,hi,h=>by
  unfold fromM;have h0:=hi 0 x y rfl rfl;rw [List.mem_flatMap];refine ⟨y,(zgb oQ).2 h0,?_⟩;rw [show p++y::t=(p++[y])++t by simp] at h ⊢;exact xr r (p++[y]) t (by simpa using hl) (fun i x' y' h1 h2=>hi (i+1) x' y' h1 h2) h
theorem xU {b:RBk} {s:List Int} (h:InB b s) (hr:rightM b s=true):s∈zf b:=by
 have:=xr (b:=b) b.shrinks [] s h.1 (fun i x y hx hy=>by
  obtain ⟨hi,_⟩:=lD.1 hx;have h1:=h.2 i hi;have h2:=ko (b:=b) hi;rw [hx] at h2;cases h2;rw [List.getD_eq_getElem?_getD,hy] at h1;exact h1) (by rw [lC]; exact hr)
 rwa [lC] at this
def saidM (w:Int) (z:Bool):Bool:=decide (w=0)||((w==1)==z)
end Go.Vel
namespace Go.Vel
open Go Go.Conc Go.Proofs
instance:EqG tp 49:={}
instance:EqG tp 94:={}
instance:FlatF tp 49 [(3,0),(3,1),(3,2)]:={}
instance:FlatF tp 94 [(3,0),(3,1),(3,2),(3,3),(4,4)]:={}
instance:Und tp 4 .bool:={}
instance:Cal tp 19:={}
instance:Cal tp 44:={}
instance:Cal tp 49:={}
section
variable {P:Program} {gm:Nat->Option Nat} {V:KV} {env:List AV} {o:Oper}
theorem qY {t yt:TypeId} {x y:Operand} {k':IntKind} {a b:Nat} (ho:o.op=.binOp .shr t x y yt) (hx:zn gm env x=some (.v (.int .u8 a))) (hy:zn gm env y=some (.v (.int k' b))) (h0:b<=6):Qk P gm env V o (.v (.int .u8 ((a / 2 ^ b:Nat):Int))):=fun A _=>by
 refine vq ho (by rw [zx hx]; rfl) (by rw [zx hy]; rfl) ?_;rw [u7];show zR P (Op.shift .shr .u8 a k' b)=_;unfold Op.shift;rw [if_neg oQ];show some (Value.int .u8 ((a:Int).fdiv (2 ^ min (b:Int).toNat 8)))=_;rw [Int.toNat_natCast,Nat.min_eq_left oQ,show ((a:Int).fdiv (2 ^ b))=((a / 2 ^ b:Nat):Int) by rw [Int.fdiv_eq_ediv_of_nonneg _ (by exact_mod_cast mN (2 ^ b))]; norm_cast]
theorem qX {t yt:TypeId} {x y:Operand} {a:Nat} (ho:o.op=.binOp .and t x y yt) (hx:zn gm env x=some (.v (.int .u8 a))) (hy:zn gm env y=some (.v (.int .u8 1))) (h:a<256):Qk P gm env V o (.v (.int .u8 ((a % 2:Nat):Int))):=by
 refine wQ ho hx hy ?_;show some (Value.int .u8 (IntKind.u8.wrap ((BitVec.ofInt 8 (a:Int) &&& BitVec.ofInt 8 1).toNat:Int)))=_;have:(BitVec.ofInt 8 (a:Int) &&& BitVec.ofInt 8 1).toNat=a % 2:=by
  rw [BitVec.toNat_and];have e1:(BitVec.ofInt 8 (a:Int)).toNat=a:=by
   rw [BitVec.toNat_ofInt];omega
  rw [e1];show a &&& 1=a % 2;exact Nat.and_one_is_mod a
 rw [this];have h2:a % 2=0\/a % 2=1:=by omega
 rcases h2 with h2 | h2 <;> rw [h2] <;> rfl
end
theorem xN {c i:Nat} (h:c / 2 ^ i % 2=1):zw c (i+1)=zw c i++[(i:Int)]:=by
 show zw c i++_=_;rw [if_pos h]
theorem xM {c i:Nat} (h:¬ c / 2 ^ i % 2=1):zw c (i+1)=zw c i:=by
 show zw c i++_=_;rw [if_neg h,lR]
instance:Cal tp 62:={}
instance:Cal tp 75:={}
theorem qr {main T} (hT:zo tp main T) {gm} {b:RBk} {s h e c:Nat} (hn:1<=b.seams.length/\b.seams.length<=5) (hc:c<256) :
  zA tp T gm 50 [.agg (zE b s h e),.v (.int .u8 (c:Int))] [] (fun r K'=>∃ (jo:Nat) (eo:TypeId),r=.sl jo 0 (otherM c b.seams.length).length/\K'=[(jo,.cells ((otherM c b.seams.length).map intA) eo false)]):=by
 refine zp 34 hT Tryz.func50 fun Y hret=>?_;refine au [4,5,21] ?_;intro jb hjb;refine au [2,3,4,5,2] ?_;refine TK.virt 5 3 1 Z fun jr0 hjr0=>?_;refine au [3,4,4,5,2,3,13] ?_;refine TK.maskL [1,2,5,6] ?_;refine TK.kp [(jr0,_),(jb,_)] ?_;refine TK.loopN (fun n env K=>∃ (i jr:Nat),n=b.seams.length - i/\i<=b.seams.length/\env=.any::.v (.int .u8 (c:Int))::.ptr jb 0::naL 2 (.row jr (zw c i).length::intA i::naL 27 [])/\K=[(jr,.row ((zw c i).map intA) 3 1),(jb,.cells (zE b s h e) 26 true)]) b.seams.length ⟨0,jr0,rfl,mN _,rfl,rfl⟩ fun n env K hI hnext=>?_;obtain ⟨i,jr,rfl,hi,rfl,rfl⟩:=hI;have hbl:=wC c i;refine TK.na nQ ?_;refine au [4,4,5,1,7,9,28,6,3,20] ?_;refine ⟨fun hc0=>?_,fun hc0=>?_⟩
 ·have hil:i<b.seams.length:=by simp at hc0; omega
  refine au [12,4,13,4,5,1,1] ?_;refine TK.a Z (qY Z Z Z oQ) ?_;refine TK.a Z (qX Z Z Z (by have:=Nat.div_le_self c (2 ^ i); omega)) ?_;refine au [6,3,20] ?_;refine ⟨fun hc1=>?_,fun hc1=>?_⟩
  ·have hbit:c / 2 ^ i % 2=1:=by have h:=eq_of_beq hc1; omega
   refine au [5,1,1] ?_;refine TK.newR Z Z Z (zt (l:=[_]) Z zF.h TyZ.h dQ dQ Z) (fun _=>zu rfl tQ) fun j1 hj1=>?_;refine TK.appR Z Z Z (a_app Z ApOf.h Z mQ sQ Z (yu (ln:=[_]) mQ dQ sQ Z) oQ Z (by unfold maxLen; omega) oQ) (fun _=>uQ) (fun _=>zu rfl tQ) fun jr2=>?_;refine au [2,3,14,5,1,23,2,3] ?_;refine TK.maskL [1,2,5,6] ?_;refine TK.kp [(jr2,_),(jb,_)] ?_;exact hnext _ _ _ oQ ⟨i+1,jr2,rfl,oQ,by rw [xN hbit,List.length_append]; rfl,by rw [xN hbit,lM]; rfl⟩
  have hbit:¬ c / 2 ^ i % 2=1:=fun h=>by rw [h] at hc1; simp at hc1
  refine au [12,14,5,1,23,2,3] ?_;refine TK.maskL [1,2,5,6] ?_;refine TK.kp [(jr,_),(jb,_)] ?_;exact hnext _ _ _ oQ ⟨i+1,jr,rfl,oQ,by rw [xM hbit] <;> rfl,by rw [xM hbit] <;> rfl⟩
 obtain rfl:i=b.seams.length:=by simp at hc0; omega
 refine au [16,4,4,5,1,28,6,3,20] ?_;refine ⟨fun hc2=>?_,fun hc2=>?_⟩
 ·have hb0:zw c b.seams.length=[]:=by have h:=eq_of_beq hc2; exact lK oQ
  have hot:otherM c b.seams.length=[((c % b.seams.length:Nat):Int)]:=if_pos hb0;refine au [4,5,1] ?_;refine TK.a Z (yU Z Z Und.h Und.h (wK oQ)) ?_;refine au [7,9,28] ?_;refine TK.a Z (q_rem Z Z Z oQ oQ) ?_;refine TK.newR Z Z Z (zt (l:=[_]) Z zF.h TyZ.h dQ dQ Z) (fun _=>zu rfl tQ) fun jo hjo=>?_;refine au [2] ?_;refine TK.asSl 4 Z mQ ?_;refine TK.frzRow (j:=jo) ?_;refine au [3] ?_;refine TK.rt hret [(jo,_)] ?_;exact ⟨jo,_,by rw [hot]; rfl,by rw [hot]; rfl⟩
 have hb0:zw c b.seams.length≠[]:=fun hh=>by rw [hh] at hc2; simp at hc2
 have hot:otherM c b.seams.length=zw c b.seams.length:=if_neg hb0;refine TK.asSl 5 Z mQ ?_;refine TK.frzRow (j:=jr) ?_;refine au [12,4,5,1,2,3] ?_;refine TK.rt hret [(jr,_)] ?_;exact ⟨jr,_,by rw [hot],by rw [hot]⟩
theorem xB {b:RBk}:∀ (l:List Int) (last:Option Int),(∀ n∈l,0<=n/\n<b.seams.length/\∀ k,last=some k->k<n)->l.Pairwise (· < ·)->cutsL b last l=0
 | [],_,_,_=>rfl
 | n::r,last,h,hp=>by
  obtain ⟨h1,h2,h3⟩:=h n sQ;obtain ⟨p1,p2⟩:=List.pairwise_cons.1 hp;have ht:thereM b n=0:=by unfold thereM; rw [if_pos (by simp [betw]; omega)]
  unfold cutsL;rw [if_neg (by rw [ht]; decide),if_neg]
  ·exact xB r _ (fun m hm=>⟨(h m (by simp [hm])).1,(h m (by simp [hm])).2.1,fun k hk=>by cases hk; exact p1 m hm⟩) p2
  ·cases last with
   | none=>simp [notAft]
   | some k=>have:=h3 k rfl; simp [notAft]; omega
theorem xQ {b:RBk} {l:List Int} (h:CutsOk b l):cutsM b l=0:=by
 unfold cutsM;have:=h.pos;rw [if_neg oQ];exact xB l none (fun n hn=>⟨(h.bnd n hn).1,(h.bnd n hn).2,fun k hk=>by cases hk⟩) h.asc
section
variable {main:Bool} {T:Goroutine->Hp->Prop} {b:RBk} {s h e j:Nat} {l:List Int} {et:TypeId}
end
instance:Cal tp 50:={}
instance:Cal tp 65:={}
instance:Cal tp 76:={}
def u16A (x:Fin 65536):AV:=.v (.int .u16 (x.1:Int))
def u16O (l:List (Fin 65536)):AObj:=.cells (l.flatMap fun x=>[u16A x]) 212 false
def choM (l:List (Fin 65536)) (i:Nat):Int:=match l[i]? with | some x=>x.1 | none=>0
def chosenM (x:RBand) (n:Int):Int:=x.low+n % (x.high - x.low+1)
def realM (b:RBk) (ps:List (Fin 65536)):Nat->List Int
 | 0=>[]
 | i+1=>realM b ps i++[chosenM (bd b i) (choM ps i)]
instance:Cal tp 139:={}
instance:Cal tp 140:={}
instance:zF tp 91 212 1:={}
instance:zi tp 212 false 1:={}
instance:Und tp 212 (.int .u16):={}
instance:Und tp 91 (.slice 212):={}
section
variable {P:Program} {gm:Nat->Option Nat} {T:Goroutine->Hp->Prop} {Y:KX P gm T} {ds:List Nat} {k:List Item} {env env':List AV} {K:KV}
theorem jR:∀ R L:KV,Split (R++L) R L
 | [],L=>.none L
 | x::R,L=>.left (jR R L)
end
def objsL (P:List (Nat×List Int)):KV:=P.map fun x=>(x.1,.cells (x.2.map intA) 3 false)
def refsL (P:List (Nat×List Int)):List AV:=P.map fun x=>.sl x.1 0 x.2.length
def stepS (b:RBk) (i:Nat) (p:List Int):List (List Int):=(numsM (bd b i)).map fun n=>p++[n]
instance:Cal tp 162:={}
instance:Cal tp 73:={}
instance:ApOf tp 104 27 1 24:={}
instance:Cal tp 141:={}
instance:zF tp 104 27 1:={}
instance:TyZ tp 27 [.slice none 0 0]:={}
instance:Und tp 104 (.slice 27):={}
end Go.Vel
namespace Go.Vel
open Go Go.Conc
def lastM (l:List Int):Nat->Option Int
 | 0=>none
 | i+1=>some (zN l i)
theorem qO {b:RBk} {n:Int} (h:betw n 0 (b.seams.length - 1)=true):thereM b n=0:=if_pos h
def clM (b:RBk) (c:Nat) (m:Nat):List Int:=(List.range m).map fun i=>(((c+i) % b.seams.length:Nat):Int)
end Go.Vel
namespace Go.Vel
open Go Go.Conc Go.Proofs
instance:Cal tp 142:={}
instance:Cal tp 58:={}
instance:Cal tp 93:={}
theorem xj {main T} (hT:zo tp main T) {gm} {j:Nat} {et:TypeId} {l:List Int} {v:Int} (hl:l.length<=1000) :
  zA tp T gm 58 [.sl j 0 l.length,intA v] [(j,.cells (l.map intA) et false)] (fun r K'=>r=zP (decide (v∈l))/\K'=[(j,.cells (l.map intA) et false)]):=by
 refine zp 18 hT Tryz.func58 fun Y hret=>?_;refine au [4,5,2,3,4,4,5,2,3,13] ?_;refine TK.maskL [0,1,5] ?_;refine TK.loopN (fun n0 env K=>∃ (i:Nat),n0=l.length - i/\i<=l.length/\¬ v∈l.take i/\env=.sl j 0 l.length::intA v::naL 3 (intA i::naL 12 [])/\K=[(j,.cells (l.map intA) et false)]) l.length ⟨0,rfl,mN _,by simp,rfl,rfl⟩ fun n0 env K hI hnext=>?_;obtain ⟨i,rfl,hi,hn,rfl,rfl⟩:=hI;refine TK.na nQ ?_;refine au [4,4,5,1,1,28,6,3,20] ?_;refine ⟨fun hc0=>?_,fun hc0=>?_⟩
 ·have hil:i<l.length:=by simp at hc0; omega
  refine au [12,4,13,4,5,1,1,36] ?_;refine TK.a Z (zm Z Z zi.h mQ (yh (i:=i) (z5 hil) Z)) ?_;refine au [1,6,3,20] ?_;refine ⟨fun hc1=>?_,fun hc1=>?_⟩
  ·refine au [4,5,2,3] ?_;refine TK.rt hret [(j,_)] ?_;exact ⟨by rw [decide_eq_true (show v∈l by have h:zN l i=v:=eq_of_beq hc1; rw [<- h]; exact zgU hil)],rfl⟩
  refine au [12,14,5,1,23,2,3] ?_;refine TK.maskL [0,1,5] ?_;exact hnext _ _ _ oQ ⟨i+1,rfl,oQ,fun hh=>by
   rw [yP (z5 hil)] at hh;rcases lT.1 hh with hh | hh
   ·exact hn hh
   ·rw [lS.1 hh] at hc1; simp at hc1,rfl,rfl⟩
 obtain rfl:i=l.length:=by simp at hc0; omega
 refine au [16,4,5,2,3] ?_;refine TK.rt hret [(j,_)] ?_;exact ⟨by rw [decide_eq_false (by rwa [lW] at hn)],rfl⟩
instance:Cal tp 71:={}
instance:Cal tp 72:={}
instance:Cal tp 73:={}
instance:Cal tp 105:={}
instance:Cal tp 94:={}
def u8A (x:Fin 256):AV:=.v (.int .u8 (x.1:Int))
def u8O (l:List (Fin 256)):AObj:=.cells (l.flatMap fun x=>[u8A x]) 5 false
def Feas (b:RBk) (l x:List Int):Prop:=x.length=l.length/\∀ i,0<=x.getD i 0/\(i<l.length->x.getD i 0<=(cutS b l i).most)
instance:Cal tp 74:={}
instance:zF tp 100 5 1:={}
instance:zi tp 5 false 1:={}
instance:Und tp 100 (.slice 5):={}
end Go.Vel
namespace Go.Vel
open Go Go.Conc
def keyK (b:RBk) (l:List Int) (k:Int):Int:=(cutS b l k.toNat).busy*10 - k
def mostK (b:RBk) (l:List Int) (k:Int):Int:=(cutS b l k.toNat).most
def gO (b:RBk) (l:List Int) (o:List Int) (st:List Int) (sq u:Int):Alloc:=o.foldl (allocM b l) ⟨st,sq,u⟩
def gA (b:RBk) (l:List Int) (u:Int):Alloc:=gO b l (ordM b l) (List.replicate l.length 0) (spoilM b l l.length) u
def bestI (b:RBk) (l x:List Int):Nat->Int
 | 0 => -1
 | i+1=>if x.getD i 0<(cutS b l i).most/\(bestI b l x i<0\/(cutS b l i).busy<=(cutS b l (bestI b l x i).toNat).busy) then i else bestI b l x i
end Go.Vel
namespace Go.Vel
open Go Go.Conc Go.Proofs
instance:Cal tp 96:={}
def posM (b:RBk) (l s w:List Int):Nat->Int
 | 0=>0
 | i+1=>atM b l s w i+togM b s (zN l i).toNat (manyM b l i).toNat
instance:Cal tp 102:={}
instance:Cal tp 103:={}
instance:Cal tp 21:={}
instance:Cal tp 23:={}
instance:Cal tp 28:={}
instance:Cal tp 31:={}
instance:ApOf tp 104 27 1 24:={}
instance:Cal tp 141:={}
instance:zF tp 104 27 1:={}
instance:TyZ tp 27 [.slice none 0 0]:={}
instance:Und tp 104 (.slice 27):={}
end Go.Vel
namespace Go.Vel
open Go Go.Conc
end Go.Vel
namespace Go.Vel
open Go Go.Conc Go.Proofs
def shortB (most:Int) (l:List Int):Bool:=decide ((l.length:Int)<most)
def moreM (most n:Int) (A:List (List Int)):List (List Int):=(A.filter (shortB most)).map (· ++ [n])
def setsM (most:Int):Nat->List (List Int)
 | 0=>[[]]
 | n+1=>setsM most n++moreM most n (setsM most n).reverse
section
variable {P:Program} {T:Goroutine->Hp->Prop} {gm:Nat->Option Nat} {K:KV}
theorem zA.fr {g:FuncId} {args:List AV} {Kb R:KV} {Post Post':AV->KV->Prop} (h:zA P T gm g args K Post) (hp:Kb.Perm (K++R)) (hq:∀ r K',Post r K'->∃ K2,(K'++R).Perm K2/\Post' r K2):zA P T gm g args Kb Post':=by
 intro A hv hn;have hv2:zM (K++R) A:=hv.sub fun x hx=>hp.symm.subset hx;have hn2:=(zT hp).nodup_iff.1 hn;have hn3:=hn2;rw [ya] at hn3;refine (h A (hv2.sub fun x hx=>List.mem_append_left _ hx) (List.nodup_append.1 hn3).1).mono ?_;rintro r A' ⟨K',hk,hp'⟩;obtain ⟨K2,h1,h2⟩:=hq r K' hp';exact ⟨K2,((hk.frame (jR K R) hv2 hn2).permR h1).permL hp.symm,h2⟩
end
def sN (S:List (Nat×List Int)) (k:Nat):Nat×List Int:=S.getD k (0,[])
def sqW (b:RBk) (all:List (List Int)) (l:List Int) (i:Nat):Int×Int:=spreadM ((waysM b (all.take i) l).map (·.2))
instance:Cal tp 77:={}
end Go.Vel
namespace Go.Vel
open Go Go.Conc
def SIn (out:List Int) (x:Int) (k:Nat) (nx:List Int) (put:Bool):Prop :=
 nx.Pairwise (· < ·)/\(∀ z,z∈nx↔(z∈out.take k/\z≠x)\/(put=true/\z=x))/\(put=true↔∃ w∈out.take k,x<=w)/\nx.length<=k+(if put=true then 1 else 0)
def SMid (out:List Int) (x:Int) (k:Nat) (nx:List Int) (put:Bool):Prop :=
 nx.Pairwise (· < ·)/\(∀ z,z∈nx↔(z∈out.take k/\z≠x)\/(put=true/\z=x))/\(put=true↔∃ w∈out.take (k+1),x<=w)/\nx.length<=k+(if put=true then 1 else 0)
section
variable {out nx:List Int} {x y:Int} {k:Nat} {put:Bool}
def SOut (l:List Int) (i:Nat) (out:List Int):Prop:=out.Pairwise (· < ·)/\(∀ z,z∈out↔z∈l.take i)/\out.length<=i
end
def knB (b:RBk) (a:Int):Int:=if bar2 (zr b) a=0 then (if (zf b).isEmpty=true then 9 else 0) else bar2 (zr b) a
def newF (b:RBk):Int×Int:=if knB b 0=0 then newM b else (0,0)
def canF (b:RBk) (l:List Int):Int:=if knB b (cutsM b l)=0 then canM b l else 0
def sqF (b:RBk) (l:List Int):Int×Int:=if knB b (cutsM b l)=0 then (sqLo b (zf b) l,sqHi b (zf b) l) else (0,0)
def sqB (b:RBk) (l:List Int):Int:=if knB b (cutsM b l)=0 then (if sqOk b (zf b) l=true then 0 else 8) else knB b (cutsM b l)
def shF (b:RBk) (n:Int):List Int:=if knB b (thereM b n)=0 then shrI b n else []
def isB (b:RBk) (l:List Int):Int:=bar2 (zr b) (shM b l)
def isF (b:RBk) (l:List Int):Bool:=decide (isB b l=0)&&decide (l∈zf b)
section
variable {b:RBk} {r:AV} {K' KK:KV}
end
theorem jU {b:RBk} (hb:ROk b) {s:List Int}:s∈zf b↔InB b s/\rightM b s=true :=
 ⟨fun h=>zco hb _ [] (zdR b) rfl s h,fun h=>xU h.1 h.2⟩
def sureM (x y:Int):Int:=if x=y then 1 else if x=0 then 2 else 0
theorem qf:setI []=[]:=lK (Nat.le_zero.1 (xu []))
def colM (all:List (List Int)) (n:Int) (i:Nat):List Int:=(all.take i).map fun s=>zN s n.toNat
def newW (b:RBk) (all:List (List Int)) (i:Nat):Int×Int:=spreadM ((all.take i).map (freshM b))
def wayN (b:RBk) (all:List (List Int)) (l:List Int) (i:Nat):Nat:=(waysM b (all.take i) l).length
def dU (b:RBk) (i u:Nat):RBk:=driedB b i ⟨(bd b i).low+u,(bd b i).low+u⟩
def cntU (b:RBk) (i:Nat):Nat:=((bd b i).high+1 - (bd b i).low).toNat
section
variable {b:RBk} {i u:Nat}
theorem jT (hb:ROk b) (hi:i<b.seams.length) (hu:u<cntU b i):0<=(bd b i).low/\(bd b i).low+u<=(bd b i).high/\(bd b i).high<=5:=by
 have:=hb.cls.bnd i hi;unfold cntU at hu;omega
theorem dU_bd (k:Nat) (hi:i<b.shrinks.length) (hk:k<b.shrinks.length):bd (dU b i u) k=if i=k then ⟨(bd b i).low+u,(bd b i).low+u⟩ else bd b k:=by
 have h3:=ko (b:=dU b i u) (i:=k) (by show k<(b.shrinks.set i _).length; rw [List.length_set]; exact hk);have h4:(b.shrinks.set i ⟨(bd b i).low+u,(bd b i).low+u⟩)[k]? =some (bd (dU b i u) k):=h3;rw [lX] at h4;by_cases e:i=k
 ·rw [if_pos e] at h4 ⊢;rw [if_pos hi] at h4;exact (Option.some.inj h4).symm
 ·rw [if_neg e] at h4 ⊢;rw [ko hk] at h4;exact (Option.some.inj h4).symm
theorem dU_ok (hb:ROk b) (hi:i<b.seams.length) (hu:u<cntU b i):ROk (dU b i u):=by
 have h1:=jT hb hi hu;have h2:=hb.cls.len;exact xT hb oQ (by show (bd b i).low<=(bd b i).low+(u:Int); omega) (Int.le_refl _) h1.2.1
theorem jK (hb:ROk b) (hi:i<b.seams.length) (hu:u<cntU b i) {s:List Int}:s∈zf (dU b i u)↔s∈zf b/\zN s i=(bd b i).low+u:=by
 have h1:=jT hb hi hu;have h2:=hb.cls.len;rw [jU (dU_ok hb hi hu),jU hb];have hl:(dU b i u).shrinks.length=b.shrinks.length:=List.length_set ..;have hr:rightM (dU b i u) s=rightM b s:=qb b (b.shrinks.set i _) b.measures s;rw [hr];constructor
 ·rintro ⟨⟨g1,g2⟩,g3⟩;rw [hl] at g1 g2;have gi:=g2 i oQ;rw [dU_bd i oQ oQ,if_pos rfl] at gi;have gi:(bd b i).low+(u:Int)<=s.getD i 0/\s.getD i 0<=(bd b i).low+(u:Int):=gi;refine ⟨⟨⟨g1,fun k hk=>?_⟩,g3⟩,by unfold zN; omega⟩;have gk:=g2 k hk;rw [dU_bd k oQ hk] at gk;by_cases e:i=k
  ·subst e; omega
  ·rw [if_neg e] at gk; exact gk
 ·rintro ⟨⟨⟨g1,g2⟩,g3⟩,g4⟩;refine ⟨⟨by rw [hl]; exact g1,fun k hk=>?_⟩,g3⟩;rw [hl] at hk;rw [dU_bd k oQ hk];by_cases e:i=k
  ·subst e;rw [if_pos rfl];unfold zN at g4;show (bd b i).low+(u:Int)<=s.getD i 0/\s.getD i 0<=(bd b i).low+(u:Int);omega
  ·rw [if_neg e]; exact g2 k hk
theorem xS (hb:ROk b) (hi:i<b.seams.length) (hu:u<cntU b i):∀ s∈zf (dU b i u),s∈zf b:=fun s hs=>((jK hb hi hu).1 hs).1
theorem xR (hb:ROk b) (hi:i<b.seams.length) (hu:u<cntU b i):(bd b i).low+(u:Int)∈shrI b (i:Int)↔zf (dU b i u)≠[]:=by
 rw [qg];constructor
 ·rintro ⟨s,hs,e⟩;exact List.ne_nil_of_mem ((jK hb hi hu).2 ⟨hs,e⟩)
 ·intro h;obtain ⟨s,hs⟩:=List.exists_mem_of_ne_nil _ h;have:=(jK hb hi hu).1 hs;exact ⟨s,this.1,this.2⟩
theorem at_U (hb:ROk b) (hi:i<b.seams.length) {s:List Int} (hs:s∈zf b):∃ u,u<cntU b i/\s∈zf (dU b i u):=by
 have h2:=hb.cls.len;have h1:=((jU hb).1 hs).1.2 i oQ;have h3:(s.getD i 0 - (bd b i).low).toNat<cntU b i:=by unfold cntU; omega
 exact ⟨_,h3,(jK hb hi h3).2 ⟨hs,by unfold zN; omega⟩⟩
theorem jY:∀ (l m:List (List Int)),l.Nodup->(∀ x∈l,x∈m)->l.length<=m.length
 | [],_,_,_=>mN _
 | x::l,m,h,hm=>by
  obtain ⟨h1,h2⟩:=List.nodup_cons.1 h;have hx:=hm x sQ;have:=jY l (m.erase x) h2 fun y hy=>(List.mem_erase_of_ne (show y≠x from fun e=>by subst e; exact h1 hy)).2 (hm y (by simp [hy]));rw [List.length_erase_of_mem hx] at this;have:=List.length_pos_of_mem hx;rw [lZ];omega
def atU (b:RBk) (i u:Nat):List (List Int):=(zf b).filter fun s=>decide (zN s i=(bd b i).low+u)
theorem qQ (hb:ROk b) (hi:i<b.seams.length) (hu:u<cntU b i):(zf (dU b i u)).length=(atU b i u).length:=by
 refine Nat.le_antisymm (jY _ _ (zdd _) fun s hs=>?_) (jY _ _ ((zdd b).filter _) fun s hs=>?_)
 ·have:=(jK hb hi hu).1 hs;exact List.mem_filter.2 ⟨this.1,decide_eq_true this.2⟩
 ·have:=List.mem_filter.1 hs;exact (jK hb hi hu).2 ⟨this.1,of_decide_eq_true this.2⟩
def sumU (b:RBk) (i:Nat):Nat->Nat
 | 0=>0
 | t+1=>sumU b i t+(zf (dU b i t)).length
theorem xo {α:Type} {p q r:α->Bool}:∀ (l:List α),(∀ x,r x=(p x||q x))->(∀ x,¬ (p x=true/\q x=true))->(l.filter r).length=(l.filter p).length+(l.filter q).length
 | [],_,_=>rfl
 | x::l,h1,h2=>by
  have ih:=xo l h1 h2;rw [List.filter_cons,List.filter_cons,List.filter_cons,h1 x];cases hp:p x <;> cases hq:q x
  ·simpa using ih
  ·simp; omega
  ·simp; omega
  ·exact absurd ⟨hp,hq⟩ (h2 x)
theorem xf (hb:ROk b) (hi:i<b.seams.length):∀ t,t<=cntU b i->sumU b i t=((zf b).filter fun s=>decide ((bd b i).low<=zN s i/\zN s i<(bd b i).low+t)).length
 | 0,_=>by
  show 0=_;rw [List.filter_eq_nil_iff.2 fun s _=>by simp only [decide_eq_true_eq]; omega];rfl
 | t+1,h=>by
  show sumU b i t+_=_;rw [xf hb hi t oQ,qQ hb hi oQ];refine (xo _ (fun s=>?_) (fun s=>?_)).symm
  ·rw [<- Bool.decide_or];congr 1;simp only [eq_iff_iff];omega
  ·simp only [decide_eq_true_eq];omega
theorem qk (hb:ROk b) (hi:i<b.seams.length):sumU b i (cntU b i)=(zf b).length:=by
 rw [xf hb hi _ (mL _),List.filter_eq_self.2];intro s hs;have h2:=hb.cls.len;have h1:=((jU hb).1 hs).1.2 i oQ;unfold cntU zN;simp only [decide_eq_true_eq];omega
theorem qM (hb:ROk b) (hi:i<b.seams.length) (t:Nat) (h:t<=cntU b i):sumU b i t<=243:=by
 rw [xf hb hi t h];exact Nat.le_trans (List.length_filter_le ..) (kf hb)
def anyU (p:Nat->Bool):Nat->Bool
 | 0=>false
 | t+1=>anyU p t||p t
theorem jO {p:Nat->Bool} {u:Nat} (h:p u=true):∀ t,u<t->anyU p t=true
 | 0,hu=>by omega
 | t+1,hu=>by
  unfold anyU;by_cases e:u=t
  ·rw [<- e,h,Bool.or_true]
  ·rw [jO h t oQ,Bool.true_or]
def neU (b:RBk) (i u:Nat):Bool := !(zf (dU b i u)).isEmpty
def loU (b:RBk) (i u:Nat):Bool:=neU b i u&&((newM (dU b i u)).1==(newM b).1)
def hiU (b:RBk) (i u:Nat):Bool:=neU b i u&&((newM (dU b i u)).2==(newM b).2)
def leU (b:RBk) (l:List Int) (i u:Nat):Bool:=neU b i u&&(sqLo (dU b i u) (zf (dU b i u)) l==sqLo b (zf b) l)
def moU (b:RBk) (l:List Int) (i u:Nat):Bool:=neU b i u&&(sqHi (dU b i u) (zf (dU b i u)) l==sqHi b (zf b) l)
theorem neU_t (h:zf (dU b i u)≠[]):neU b i u=true:=by
 unfold neU;cases e:zf (dU b i u) with
 | nil=>exact absurd e h
 | cons x r=>rfl
theorem neU_f (h:zf (dU b i u)=[]):neU b i u=false:=by unfold neU; rw [h]; rfl
theorem xn (hb:ROk b) (hi:i<b.seams.length) (hu:u<cntU b i) (hne:zf (dU b i u)≠[]):(newM b).1<=(newM (dU b i u)).1/\(newM (dU b i u)).2<=(newM b).2 :=
 qu (b:=b) (sh:=b.shrinks.set i _) (me:=b.measures) hne (xS hb hi hu)
theorem dU_sq (hb:ROk b) (hi:i<b.seams.length) (hu:u<cntU b i) (hne:zf (dU b i u)≠[]) {l:List Int} (h:sqOk b (zf b) l=true):sqOk (dU b i u) (zf (dU b i u)) l=true/\sqLo b (zf b) l<=sqLo (dU b i u) (zf (dU b i u)) l/\sqHi (dU b i u) (zf (dU b i u)) l<=sqHi b (zf b) l:=by
 have e1:=ch_ok b (b.shrinks.set i ⟨(bd b i).low+u,(bd b i).low+u⟩) b.measures (zf (dU b i u)) l;have e2:=ch_lo b (b.shrinks.set i ⟨(bd b i).low+u,(bd b i).low+u⟩) b.measures (zf (dU b i u)) l;have e3:=ch_hi b (b.shrinks.set i ⟨(bd b i).low+u,(bd b i).low+u⟩) b.measures (zf (dU b i u)) l;have:=qS (b:=b) hne (xS hb hi hu) h;exact ⟨e1.trans this.1,Int.le_trans this.2.1 (Int.le_of_eq e2.symm),Int.le_trans (Int.le_of_eq e3) this.2.2⟩
theorem qz (hb:ROk b) (hi:i<b.seams.length) (hne:zf b≠[]):anyU (loU b i) (cntU b i)=true/\anyU (hiU b i) (cntU b i)=true:=by
 obtain ⟨_,h2,h3⟩:=jF (xs:=(zf b).map (freshM b)) (by simpa using hne);constructor
 ·obtain ⟨s,hs,e⟩:=lY.1 h2;obtain ⟨u,hu,hm⟩:=at_U hb hi hs;have hn:=List.ne_nil_of_mem hm;have a1:=(xn hb hi hu hn).1;have a2:=((jF (xs:=(zf (dU b i u)).map (freshM (dU b i u))) (by simpa using hn)).1 _ (lY.2 ⟨s,hm,rfl⟩)).1;have a3:(newM (dU b i u)).1<=(newM b).1:=Int.le_trans a2 (Int.le_of_eq e);refine jO (u:=u) ?_ _ hu;unfold loU;rw [neU_t hn,Bool.true_and,beq_iff_eq];omega
 ·obtain ⟨s,hs,e⟩:=lY.1 h3;obtain ⟨u,hu,hm⟩:=at_U hb hi hs;have hn:=List.ne_nil_of_mem hm;have a1:=(xn hb hi hu hn).2;have a2:=((jF (xs:=(zf (dU b i u)).map (freshM (dU b i u))) (by simpa using hn)).1 _ (lY.2 ⟨s,hm,rfl⟩)).2;have a3:(newM b).2<=(newM (dU b i u)).2:=Int.le_trans (Int.le_of_eq e.symm) a2;refine jO (u:=u) ?_ _ hu;unfold hiU;rw [neU_t hn,Bool.true_and,beq_iff_eq];omega
theorem xI (hb:ROk b) (hi:i<b.seams.length) (hne:zf b≠[]) {l:List Int} (h:sqOk b (zf b) l=true):anyU (leU b l i) (cntU b i)=true/\anyU (moU b l i) (cntU b i)=true:=by
 obtain ⟨_,⟨s1,m1,w1,q1⟩,s2,m2,w2,q2⟩:=sq_in hne h;have hh:∀ u,hangM (dU b i u)=hangM b:=fun u=>xA b (b.shrinks.set i _) b.measures;constructor
 ·obtain ⟨u,hu,hm⟩:=at_U hb hi m1;have hn:=List.ne_nil_of_mem hm;have a1:=dU_sq hb hi hu hn h;have a2:=((sq_in hn a1.1).1 s1 hm w1 _ (by rw [hh]; exact q1)).1;refine jO (u:=u) ?_ _ hu;unfold leU;rw [neU_t hn,Bool.true_and,beq_iff_eq];omega
 ·obtain ⟨u,hu,hm⟩:=at_U hb hi m2;have hn:=List.ne_nil_of_mem hm;have a1:=dU_sq hb hi hu hn h;have a2:=((sq_in hn a1.1).1 s2 hm w2 _ (by rw [hh]; exact q2)).2;refine jO (u:=u) ?_ _ hu;unfold moU;rw [neU_t hn,Bool.true_and,beq_iff_eq];omega
theorem jS {p:Nat->Bool} {t:Nat} (h:p t=false):anyU p (t+1)=anyU p t:=by show (_||_)=_; rw [h,Bool.or_false]
theorem jB {p:Nat->Bool} {t:Nat} (h:anyU p t=true):true=anyU p (t+1):=by show _=(_||_); rw [h,Bool.true_or]
theorem jA {p:Nat->Bool} {t:Nat} {x:Bool} (h:anyU p t=false) (hx:p t=x):x=anyU p (t+1):=by show _=(_||_); rw [h,hx,Bool.false_or]
theorem qm (l:List Int) (h:zf (dU b i u)=[]):loU b i u=false/\hiU b i u=false/\leU b l i u=false/\moU b l i u=false:=by
 unfold loU hiU leU moU;rw [neU_f h];exact ⟨rfl,rfl,rfl,rfl⟩
theorem ql (l:List Int) (h:zf (dU b i u)≠[]):loU b i u=((newM (dU b i u)).1==(newM b).1)/\hiU b i u=((newM (dU b i u)).2==(newM b).2)/\leU b l i u=(sqLo (dU b i u) (zf (dU b i u)) l==sqLo b (zf b) l)/\moU b l i u=(sqHi (dU b i u) (zf (dU b i u)) l==sqHi b (zf b) l):=by
 unfold loU hiU leU moU;rw [neU_t h];simp only [Bool.true_and,and_self]
def SR (b:RBk) (l:List Int) (i:Nat) (r3:Int) (sl:List Int) (x0 x1 y0 y1:Int):Prop :=
 sl=shrI b (i:Int)/\x0=(newM b).1/\x1=(newM b).2/\y0=sqLo b (zf b) l/\y1=sqHi b (zf b) l/\(r3=0->zf b≠[]/\sqOk b (zf b) l=true)
theorem jaa {l:List Int} (h:zf b=[]):SR b l i 9 [] 0 0 0 0:=by
 have h1:shrI b (i:Int)=[]:=by unfold shrI; rw [h]; exact qf
 have h2:squaresM b [] l=some (0,0):=by unfold squaresM waysM; rfl
 unfold SR newM sqLo sqHi;rw [h1,h,h2];exact ⟨rfl,rfl,rfl,rfl,rfl,fun e=>absurd e dQ⟩
theorem sr_ok {l:List Int} (h:zf b≠[]):SR b l i (if sqOk b (zf b) l=true then 0 else 8) (shrI b (i:Int)) (newM b).1 (newM b).2 (sqLo b (zf b) l) (sqHi b (zf b) l):=by
 refine ⟨rfl,rfl,rfl,rfl,rfl,fun e=>⟨h,?_⟩⟩;cases hq:sqOk b (zf b) l with
 | true=>rfl
 | false=>rw [hq] at e; exact absurd e dQ
theorem qR (hb:ROk b) (hi:i<b.seams.length) (hu:u<cntU b i):driedB b (i:Int).toNat (dryX b (i:Int) ⟨(bd b i).low+u,(bd b i).low+u⟩)=dU b i u:=by
 have h:=jT hb hi hu;have e:dryX b (i:Int) ⟨(bd b i).low+u,(bd b i).low+u⟩=⟨(bd b i).low+u,(bd b i).low+u⟩:=by
  show RBand.mk (max (bd b i).low ((bd b i).low+(u:Int))) (min (bd b i).high ((bd b i).low+(u:Int)))=_;rw [Int.max_eq_right oQ,Int.min_eq_right oQ]
 rw [e];rfl
theorem xc (hb:ROk b) (hi:i<b.seams.length) (hu:u<cntU b i) {r:AV} {K K':KV} (hth:bar2 (zr b) (thereM b (i:Int))=0)
  (h:(bar2 (zr b) (thereM b (i:Int))≠0/\r=.tup [.agg z7R,intA (bar2 (zr b) (thereM b (i:Int)))]/\K'=K)\/(bar2 (zr b) (thereM b (i:Int))=0/\isBd ⟨(bd b i).low+u,(bd b i).low+u⟩ 0 5=false/\r=.tup [.agg z7R,intA 1]/\K'=K)\/(bar2 (zr b) (thereM b (i:Int))=0/\isBd ⟨(bd b i).low+u,(bd b i).low+u⟩ 0 5=true/\(dryX b (i:Int) ⟨(bd b i).low+u,(bd b i).low+u⟩).high<(dryX b (i:Int) ⟨(bd b i).low+u,(bd b i).low+u⟩).low/\r=.tup [.agg z7R,intA 9]/\K'=K)\/(bar2 (zr b) (thereM b (i:Int))=0/\isBd ⟨(bd b i).low+u,(bd b i).low+u⟩ 0 5=true/\(dryX b (i:Int) ⟨(bd b i).low+u,(bd b i).low+u⟩).low<=(dryX b (i:Int) ⟨(bd b i).low+u,(bd b i).low+u⟩).high/\AgrR (driedB b (i:Int).toNat (dryX b (i:Int) ⟨(bd b i).low+u,(bd b i).low+u⟩)) K r K')) :
  (zf (dU b i u)=[]/\r=.tup [.agg z7R,intA 9]/\K'=K)\/(zf (dU b i u)≠[]/\∃ s2 h2 e2,r=.tup [.agg (zE (dU b i u) s2 h2 e2),intA 0]/\K'=(s2,zk (dU b i u))::(h2,zB (dU b i u))::(e2,zq (dU b i u))::K):=by
 have hc:=jT hb hi hu;rcases h with ⟨h,_⟩ | ⟨_,h,_⟩ | ⟨_,_,h,_⟩ | ⟨_,_,_,h⟩
 ·exact absurd hth h
 ·rw [show isBd ⟨(bd b i).low+u,(bd b i).low+u⟩ 0 5=true by simp only [isBd,mX,decide_eq_true_eq]; omega] at h; cases h
 ·have h:min (bd b i).high ((bd b i).low+(u:Int))<max (bd b i).low ((bd b i).low+(u:Int)):=h;rw [Int.max_eq_right oQ,Int.min_eq_right oQ] at h;omega
 ·rw [qR hb hi hu] at h;rcases h with ⟨h,_⟩ | ⟨_,h1,h2,h3⟩ | ⟨_,h1,h2⟩
  ·exact absurd (jI (dU_ok hb hi hu)) h
  ·exact .inl ⟨h1,h2,h3⟩
  ·exact .inr ⟨h1,h2⟩
theorem or3p {x:Int} {A B C P:Prop} (h:(x≠0/\A)\/(x=0/\P/\B)\/(x=0/\¬ P/\C)) (hx:x=0) (hp:P):B:=by
 rcases h with ⟨h,_⟩ | ⟨_,_,h⟩ | ⟨_,h,_⟩
 ·exact absurd hx h
 ·exact h
 ·exact absurd hp h
theorem or3q {x:Int} {A B C P:Prop} (h:(x≠0/\A)\/(x=0/\P/\B)\/(x=0/\¬ P/\C)) (hx:x=0):(P/\B)\/(¬ P/\C):=by
 rcases h with ⟨h,_⟩ | ⟨_,h⟩ | ⟨_,h⟩
 ·exact absurd hx h
 ·exact .inl h
 ·exact .inr h
end
end Go.Vel
namespace Go.Vel
open Go Go.Conc Go.Sort
theorem jJ {P:Program} {gm:Nat->Option Nat} {V:KV} {env:List AV} {o:Oper} {t yt:TypeId} {x y:Operand} {a b:Int} (ho:o.op=.binOp .quo t x y yt) (hx:zn gm env x=some (.v (.int .i64 a))) (hy:zn gm env y=some (.v (.int .i64 b))) (h0:0<=a) (h1:0<b) (h2:a<9223372036854775808):Qk P gm env V o (.v (.int .i64 (a / b))):=by
 refine wQ ho hx hy ?_;show zR P (if b=0 then _ else _)=_;rw [if_neg oQ];show some (Value.int .i64 (IntKind.i64.wrap (a.tdiv b)))=_;rw [Int.tdiv_eq_ediv_of_nonneg h0,wK ⟨Int.le_trans oQ (Int.ediv_nonneg h0 oQ),Int.lt_of_le_of_lt (Int.ediv_le_self b h0) h2⟩]
theorem TK.shr {P:Program} {gm:Nat->Option Nat} {T:Goroutine->Hp->Prop} {Y:KX P gm T} {ds:List Nat} {k k':List Item} {env:List AV} {K:KV} {X:Type} {D:X->Prop} {E:X->List AV} {KK:X->KV} (main:(∀ x,D x->TK Y ds k' (E x) (KK x))->TK Y ds k env K) (tail:∀ x,D x->TK Y ds k' (E x) (KK x)):TK Y ds k env K:=main tail
theorem qP {d:Array Int} {i:Nat} (h:i<d.size):d.toList[i]? =some d[i]! :=by
 rw [Array.getElem?_toList,Array.getElem?_eq_getElem h,getElem!_pos d i h]
theorem qN (d:Array Int) (i j:Nat):(d.toList.set i d[j]!).set j d[i]! =(swp d i j).toList:=by
 simp [swp]
theorem ji {d:Array Int} {i:Nat} {n:Int} {e:TypeId} {s:Nat} (h:i<d.size) (hn:n=(i:Int)):takeO (.row (d.toList.map intA) e s) (0+n.toNat*1) 1=some [intA d[i]!]:=kD (qP h) (by subst hn; simp)
theorem jC {d:Array Int} {k:Nat} {n v:Int} {e:TypeId} {s:Nat} (h:k<d.size) (hn:n=(k:Int)):putO (.row (d.toList.map intA) e s) (0+n.toNat*1) [intA v]=some (.row ((d.toList.set k v).map intA) e s):=zcU (by rw [Array.length_toList]; exact h) hn
theorem jD {d:Array Int} {i j:Nat} {n:Int} {e:TypeId} {s:Nat} (h:j<d.size) (hn:n=(j:Int)):putO (.row ((d.toList.set i d[j]!).map intA) e s) (0+n.toNat*1) [intA d[i]!]=some (.row ((swp d i j).toList.map intA) e s):=by
 rw [<- qN];exact zcU (by rw [List.length_set,Array.length_toList]; exact h) hn
theorem jE {d:Array Int} {i j n:Nat} (h:d.size=n):(swp d i j).size=n:=by rw [swp_size]; exact h
section
variable {a b i j q n hi F root:Nat} {d:Array Int}
theorem xy (h:i<b):insOuter ltInt a b i d=insOuter ltInt a b (i+1) (insInner ltInt a i d):=by
 conv=>lhs; unfold insOuter
 rw [if_pos h]
theorem xq (h:¬ i<b):insOuter ltInt a b i d=d:=by unfold insOuter; rw [if_neg h]
theorem xx (h:a<q+1) (hl:ltInt d[q+1]! d[q]! =true):insInner ltInt a (q+1) d=insInner ltInt a q (swp d (q+1) q):=by
 conv=>lhs; unfold insInner
 rw [if_pos (by simp only [mX,decide_eq_true_eq]; exact ⟨h,hl⟩)]
theorem xp (h:¬ a<q):insInner ltInt a q d=d:=by
 cases q with
 | zero=>rfl
 | succ q =>
  unfold insInner;rw [if_neg (by simp only [mX,decide_eq_true_eq]; exact fun hh=>h hh.1)]
theorem xk (hl:ltInt d[q+1]! d[q]! =false):insInner ltInt a (q+1) d=d:=by
 unfold insInner;rw [if_neg (by rw [hl]; simp)]
theorem qh (h:hi<=2*root+1):siftDown ltInt hi F root d=d:=by unfold siftDown; rw [dif_pos h]
def SiftC (hi F root:Nat) (d:Array Int) (c:Nat):Prop:=root<c/\c<hi/\siftDown ltInt hi F root d=if (!ltInt d[F+root]! d[F+c]!)=true then d else siftDown ltInt hi F c (swp d (F+root) (F+c))
theorem qK (h:¬ hi<=2*root+1) (h2:2*root+2<hi) (hl:ltInt d[F+(2*root+1)]! d[F+(2*root+1)+1]! =true):SiftC hi F root d (2*root+2):=by
 refine ⟨by omega,h2,?_⟩
 conv=>lhs; unfold siftDown
 rw [dif_neg h,if_pos (by rw [hl]; simp; omega),dif_pos h2]
theorem xG (h:¬ hi<=2*root+1) (hl:¬ 2*root+2<hi\/ltInt d[F+(2*root+1)]! d[F+(2*root+1)+1]! =false):SiftC hi F root d (2*root+1):=by
 refine ⟨by omega,oQ,?_⟩
 conv=>lhs; unfold siftDown
 rw [dif_neg h,if_neg (by rcases hl with hl | hl <;> simp [hl])]
theorem xH (hi F root:Nat) (d:Array Int):(siftDown ltInt hi F root d).size=d.size:=by
 fun_induction siftDown ltInt hi F root d <;> simp_all [swp_size]
end
end Go.Vel
namespace Go.Vel
open Go Go.Conc Go.Proofs
open Go.Sort
theorem qv {main T} (hT:zo tp main T) {gm} {j n a b:Nat} {d:Array Int} (hd:d.size=n) (hn:n<=1000) (hab:a<=b) (hb:b<=n) :
  zA tp T gm 188 [.sl j 0 n,intA a,intA b] [(j,.row (d.toList.map intA) 3 1)] (fun r K'=>K'=[(j,.row ((insertionSort ltInt d a b).toList.map intA) 3 1)]):=by
 refine zp 49 hT Tryz.func188 fun Y hret=>?_;refine au [4,5,1,23,2,3,13] ?_;refine TK.maskL [0,1,2,6] ?_;refine TK.loopN (fun n1 env K=>∃ (i:Nat) (d1:Array Int),n1=b - i/\a<i/\d1.size=n/\insOuter ltInt a b i d1=insertionSort ltInt d a b/\env=.sl j 0 n::intA a::intA b::naL 3 (intA i::naL 42 [])/\K=[(j,.row (d1.toList.map intA) 3 1)]) (b - (a+1)) ⟨a+1,d,rfl,oQ,hd,rfl,rfl,rfl⟩ fun n1 env K hI hnext=>?_;obtain ⟨i,d1,rfl,hai,hs1,heq,rfl,rfl⟩:=hI;refine TK.na nQ ?_;refine au [4,4,5,1,1,6,3,20] ?_;refine ⟨fun hc0=>?_,fun hc0=>?_⟩
 ·have hib:i<b:=by simp at hc0; omega
  rw [xy hib] at heq;refine au [12,4,13,4,5,1,2,3,13] ?_;refine TK.maskL [0,1,2,6,7] ?_;refine TK.loopN (fun n1 env K=>∃ (p:Nat) (d2:Array Int),n1=p/\p<=i/\d2.size=n/\insOuter ltInt a b (i+1) (insInner ltInt a p d2)=insertionSort ltInt d a b/\env=.sl j 0 n::intA a::intA b::naL 3 (intA i::intA p::naL 41 [])/\K=[(j,.row (d2.toList.map intA) 3 1)]) i ⟨i,d1,rfl,mL _,hs1,heq,rfl,rfl⟩ fun n1 env K hI hnext1=>?_;obtain ⟨p,d2,hnp,hp,hs2,heq2,rfl,rfl⟩:=hI;subst n1;refine TK.na nQ ?_;refine au [4,4] ?_;refine TK.dr [0,1,2,3,4,5,6,7,8,9,10,11,12,13,14] [0,1,2,3,4,5,6,7,8,9,10,11,12,13,14] ?_;refine TD.mv [7] ?_;refine TD.mv [1] ?_;refine TD.z [16,17] Z (q_cmp Z Z Z Z) ?_;refine TD.mv [18] ?_;refine TD.sp 19 (fun g4_4=>?_) (fun g4_4=>?_)
  ·have hpa:a<p:=by simp at g4_4; omega
   obtain ⟨q,rfl⟩:∃ q,p=q+1:=⟨p - 1,oQ⟩;refine TD.mv [0,19] ?_;refine TD.mv [7,19] ?_;refine TD.ix [19,20,21] ?_;refine TD.y [19,22] Z (hq:=zm Z Z zi.h (mC _) (ji (i:=q+1) oQ oQ)) (h:=?_);refine TD.mv [0,19] ?_;refine TD.mv [7,19] ?_;refine TD.z [19,25] Z (q_sub Z Z Z oQ) ?_;refine TD.ix [19,24,26] ?_;refine TD.y [19,27] Z (hq:=zm Z Z zi.h (mC _) (ji (i:=q) oQ oQ)) (h:=?_);refine TD.cl (pend':=[⟨11,[19,24,26],[]⟩,⟨10,[19,25],[]⟩,⟨9,[7,19],[]⟩,⟨8,[0,19],[]⟩,⟨6,[19,20,21],[]⟩,⟨5,[7,19],[]⟩,⟨4,[0,19],[]⟩,⟨2,[16,17],[]⟩,⟨1,[1],[]⟩,⟨0,[7],[]⟩]) [19,23,28] Z Z Z Z Z (zg9 hT) (fun r1 K2 h3=>⟨?_,?_⟩)
   ·rcases h3 with ⟨rfl,rfl⟩
    all_goals simp
   obtain ⟨rfl,rfl⟩:=h3;try simp only [cA]
   refine TD.norm tQ ?_;refine TD.z [19,29] Z (yE Z Z Z) ?_;refine TD.fin ?_;refine au [20] ?_;refine ⟨fun hc1=>?_,fun hc1=>?_⟩
   ·rw [xx hpa hc1] at heq2;refine au [12,4,13] ?_;refine TK.dr [0,1,2,3,4,5,6,7,8,9,10,11,12,13,14,15,16,17] [0,1,5,6,7,8,9,10,11,12,13,14,15,2,3,4,16,17] ?_;refine TD.mv [0] ?_;refine TD.mv [7] ?_;refine TD.mv [0] ?_;refine TD.mv [7] ?_;refine TD.z [36] Z (q_sub Z Z Z oQ) ?_;refine TD.mv [0] ?_;refine TD.mv [7] ?_;refine TD.z [39] Z (q_sub Z Z Z oQ) ?_;refine TD.ix [38,40] ?_;refine TD.y [41] Z (hq:=zm Z Z zi.h (mC _) (ji (i:=q) oQ oQ)) (h:=?_);refine TD.mv [0] ?_;refine TD.mv [7] ?_;refine TD.ix [43,44] ?_;refine TD.y [45] Z (hq:=zm Z Z zi.h (mC _) (ji (i:=q+1) oQ oQ)) (h:=?_);refine TD.ix [33,34] ?_;refine TD.s (pend':=[⟨12,[43,44],[]⟩,⟨11,[7],[]⟩,⟨10,[0],[]⟩,⟨4,[36],[]⟩,⟨3,[7],[]⟩,⟨2,[0],[]⟩]) [42,47] Z Z (zX Z Z zi.h Z Z mQ (jC (k:=q+1) oQ oQ)) ?_;refine TD.ix [35,37] ?_;refine TD.s (pend':=[]) [46,48] Z Z (zX Z Z zi.h Z Z mQ (jD (i:=q+1) (j:=q) oQ oQ)) ?_;refine TD.fin ?_;refine au [14,5,1,24,2,3] ?_;refine TK.maskL [0,1,2,6,7] ?_;refine TK.kp [(j,_)] ?_;exact hnext1 _ _ _ oQ ⟨q,swp d2 (q+1) q,rfl,oQ,jE hs2,heq2,by rw [show ((q+1:Nat):Int) - 1=(q:Int) by omega]; rfl,rfl⟩
   rw [xk hc1] at heq2;refine au [16,14,5,1,23,2,3] ?_;refine TK.maskL [0,1,2,6] ?_;refine TK.kp [(j,_)] ?_;exact hnext _ _ _ oQ ⟨i+1,d2,rfl,oQ,hs2,heq2,rfl,rfl⟩
  have hpa:¬ a<p:=by simp at g4_4; omega
  rw [xp hpa] at heq2;refine TD.u [0,19] Z ?_;refine TD.u [7,19] Z ?_;refine TD.u [19,20,21] Z ?_;refine TD.u [19,22] Z ?_;refine TD.u [0,19] Z ?_;refine TD.u [7,19] Z ?_;refine TD.u [19,25] Z ?_;refine TD.u [19,24,26] Z ?_;refine TD.u [19,27] Z ?_;refine TD.u [19,23,28] Z ?_;refine TD.z [19,29] Z (yf Z Z Z) ?_;refine TD.fin ?_;refine au [19,16,14,5,1,23,2,3] ?_;refine TK.maskL [0,1,2,6] ?_;refine TK.kp [(j,_)] ?_;exact hnext _ _ _ oQ ⟨i+1,d2,rfl,oQ,hs2,heq2,rfl,rfl⟩
 have hib:¬ i<b:=by simp at hc0; omega
 refine au [16] ?_;refine TK.rt0 hret [(j,_)] ?_;rw [<- heq,xq hib]
theorem xv {main T} (hT:zo tp main T) {gm} {j n lo hi F:Nat} {d:Array Int} (hd:d.size=n) (hn:n<=1000) (hlo:lo<=1000) (hF:F+hi<=n) :
  zA tp T gm 218 [.sl j 0 n,intA lo,intA hi,intA F] [(j,.row (d.toList.map intA) 3 1)] (fun r K'=>K'=[(j,.row ((siftDown ltInt hi F lo d).toList.map intA) 3 1)]):=by
 refine zp 76 hT Tryz.func218 fun Y hret=>?_;refine au [4,5,1,2,3,13] ?_;refine TK.maskL [0,2,3,8] ?_;refine TK.loopN (fun n1 env K=>∃ (root:Nat) (d1:Array Int),n1=hi - root/\root<=1000/\d1.size=n/\siftDown ltInt hi F root d1=siftDown ltInt hi F lo d/\env=.sl j 0 n::.any::intA hi::intA F::naL 4 (intA root::naL 67 [])/\K=[(j,.row (d1.toList.map intA) 3 1)]) (hi - lo) ⟨lo,d,rfl,hlo,hd,rfl,rfl,rfl⟩ fun n1 env K hI hnext=>?_;obtain ⟨root,d1,rfl,hr,hs1,heq,rfl,rfl⟩:=hI;refine TK.na nQ ?_;refine au [13,4,5,1] ?_;refine TK.a Z (q_mul Z Z Z oQ) ?_;refine au [23,2,3,4,4] ?_;rw [show 2*(root:Int)+1=((2*root+1:Nat):Int) by omega];refine au [5,1,1,6,3,20] ?_;refine ⟨fun hc0=>?_,fun hc0=>?_⟩
 ·have hch:hi<=2*root+1:=by simp at hc0; omega
  have hfin:d1=siftDown ltInt hi F lo d:=by rw [<- heq,qh hch]
  refine au [16] ?_;refine TK.rt0 hret [(j,_)] ?_;rw [<- hfin]
 have hch:¬ hi<=2*root+1:=by simp at hc0; omega
 refine au [12,4,4] ?_;refine' TK.shr (X:=Nat) (D:=fun x=>SiftC hi F root d1 x) (E:=fun x=>.sl j 0 n::.any::intA hi::intA F::naL 4 (intA root::intA x::naL 66 [])) (KK:=fun x=>[(j,.row (d1.toList.map intA) 3 1)]) ?_ ?_;rotate_left
 ·intro H;refine TK.dr [0,1,2,3,4,5,6,7,8,9,10,11,12,13,14,15,16,17,18,19] [0,1,2,3,4,5,6,7,8,9,10,11,12,13,14,15,16,17,18,19] ?_;refine TD.mv [9] ?_;refine TD.z [17] Z (q_add Z Z Z oQ) ?_;refine TD.mv [2] ?_;refine TD.z [18,19] Z (q_cmp Z Z Z Z) ?_;refine TD.mv [20] ?_;refine TD.sp 21 (fun g3_5=>?_) (fun g3_5=>?_)
  ·have hg:2*root+2<hi:=by simp at g3_5; omega
   refine TD.mv [0,21] ?_;refine TD.mv [3,21] ?_;refine TD.mv [9,21] ?_;refine TD.z [21,23,24] Z (q_add Z Z Z oQ) ?_;refine TD.ix [21,22,25] ?_;refine TD.y [21,26] Z (hq:=zm Z Z zi.h (mC _) (ji (i:=F+(2*root+1)) oQ oQ)) (h:=?_);refine TD.mv [0,21] ?_;refine TD.mv [3,21] ?_;refine TD.mv [9,21] ?_;refine TD.z [21,29,30] Z (q_add Z Z Z oQ) ?_;refine TD.z [21,31] Z (q_add Z Z Z oQ) ?_;refine TD.ix [21,28,32] ?_;refine TD.y [21,33] Z (hq:=zm Z Z zi.h (mC _) (ji (i:=F+(2*root+1)+1) oQ oQ)) (h:=?_);refine TD.cl (pend':=[⟨16,[21,28,32],[]⟩,⟨15,[21,31],[]⟩,⟨14,[21,29,30],[]⟩,⟨13,[9,21],[]⟩,⟨12,[3,21],[]⟩,⟨11,[0,21],[]⟩,⟨9,[21,22,25],[]⟩,⟨8,[21,23,24],[]⟩,⟨7,[9,21],[]⟩,⟨6,[3,21],[]⟩,⟨5,[0,21],[]⟩,⟨3,[18,19],[]⟩,⟨2,[2],[]⟩,⟨1,[17],[]⟩,⟨0,[9],[]⟩]) [21,27,34] Z Z Z Z Z (zg9 hT) (fun r1 K2 h3=>⟨?_,?_⟩)
   ·rcases h3 with ⟨rfl,rfl⟩
    all_goals simp
   obtain ⟨rfl,rfl⟩:=h3;try simp only [cA]
   refine TD.norm tQ ?_;refine TD.z [21,35] Z (yE Z Z Z) ?_;refine TD.fin ?_;refine au [20] ?_;refine ⟨fun hc1=>?_,fun hc1=>?_⟩
   ·have hc:=qK hch hg hc1;refine au [5,1,23,2] ?_;rw [show ((2*root+1:Nat):Int)+1=((2*root+2:Nat):Int) by omega];refine au [3,4,4] ?_;refine TK.maskL [0,2,3,8,9] ?_;refine TK.kp [(j,_)] ?_;exact H (2*root+2) hc
   have hc:=xG hch (.inr hc1);refine au [12,4,4] ?_;refine TK.maskL [0,2,3,8,9] ?_;refine TK.kp [(j,_)] ?_;exact H (2*root+1) hc
  have hg:¬ 2*root+2<hi:=by simp at g3_5; omega
  have hc:=xG (F:=F) (d:=d1) hch (.inl hg);refine TD.u [0,21] Z ?_;refine TD.u [3,21] Z ?_;refine TD.u [9,21] Z ?_;refine TD.u [21,23,24] Z ?_;refine TD.u [21,22,25] Z ?_;refine TD.u [21,26] Z ?_;refine TD.u [0,21] Z ?_;refine TD.u [3,21] Z ?_;refine TD.u [9,21] Z ?_;refine TD.u [21,29,30] Z ?_;refine TD.u [21,31] Z ?_;refine TD.u [21,28,32] Z ?_;refine TD.u [21,33] Z ?_;refine TD.u [21,27,34] Z ?_;refine TD.z [21,35] Z (yf Z Z Z) ?_;refine TD.fin ?_;refine au [19,12,4,4] ?_;refine TK.maskL [0,2,3,8,9] ?_;refine TK.kp [(j,_)] ?_;exact H (2*root+1) hc
 ·rintro c ⟨hrc,hcl,heqc⟩; rw [heq] at heqc;refine TK.na nQ ?_;refine TK.dr [0,1,2,3,4,5,6,7,8,9,10,11,12,13] [0,1,2,3,4,5,6,7,8,9,10,11,12,13] ?_;refine TD.mv [0] ?_;refine TD.mv [3] ?_;refine TD.mv [8] ?_;refine TD.z [40,41] Z (q_add Z Z Z oQ) ?_;refine TD.ix [39,42] ?_;refine TD.y [43] Z (hq:=zm Z Z zi.h (mC _) (ji (i:=F+root) oQ oQ)) (h:=?_);refine TD.mv [0] ?_;refine TD.mv [3] ?_;refine TD.mv [9] ?_;refine TD.z [46,47] Z (q_add Z Z Z oQ) ?_;refine TD.ix [45,48] ?_;refine TD.y [49] Z (hq:=zm Z Z zi.h (mC _) (ji (i:=F+c) oQ oQ)) (h:=?_);refine TD.cl (pend':=[⟨10,[45,48],[]⟩,⟨9,[46,47],[]⟩,⟨8,[9],[]⟩,⟨7,[3],[]⟩,⟨6,[0],[]⟩,⟨4,[39,42],[]⟩,⟨3,[40,41],[]⟩,⟨2,[8],[]⟩,⟨1,[3],[]⟩,⟨0,[0],[]⟩]) [44,50] Z Z Z Z Z (zg9 hT) (fun r10 K11 h12=>⟨?_,?_⟩)
  ·rcases h12 with ⟨rfl,rfl⟩
   all_goals simp
  obtain ⟨rfl,rfl⟩:=h12;try simp only [cA]
  refine TD.norm tQ ?_;refine TD.z [51] Z (q_not Z Z) ?_;refine TD.fin ?_;refine au [20] ?_;refine ⟨fun hc2=>?_,fun hc2=>?_⟩
  ·have hfin:d1=siftDown ltInt hi F lo d:=by rw [heqc]; exact (if_pos hc2).symm
   refine au [] ?_;refine TK.rt hret [(j,_)] ?_;rw [<- hfin]
  have hq:=heqc.trans (if_neg (fun h=>absurd (hc2.symm.trans h) dQ));refine au [12,4] ?_;refine TK.dr [0,1,2,3,4,5,6,7,8,9,10,11,12,13,14,15,16,17,18,19,20,21,22,23] [0,1,2,3,8,9,10,11,12,13,14,15,16,17,18,19,20,21,4,5,6,7,22,23] ?_;refine TD.mv [0] ?_;refine TD.mv [3] ?_;refine TD.mv [8] ?_;refine TD.z [54,55] Z (q_add Z Z Z oQ) ?_;refine TD.mv [0] ?_;refine TD.mv [3] ?_;refine TD.mv [9] ?_;refine TD.z [58,59] Z (q_add Z Z Z oQ) ?_;refine TD.mv [0] ?_;refine TD.mv [3] ?_;refine TD.mv [9] ?_;refine TD.z [62,63] Z (q_add Z Z Z oQ) ?_;refine TD.ix [61,64] ?_;refine TD.y [65] Z (hq:=zm Z Z zi.h (mC _) (ji (i:=F+c) oQ oQ)) (h:=?_);refine TD.mv [0] ?_;refine TD.mv [3] ?_;refine TD.mv [8] ?_;refine TD.z [68,69] Z (q_add Z Z Z oQ) ?_;refine TD.ix [67,70] ?_;refine TD.y [71] Z (hq:=zm Z Z zi.h (mC _) (ji (i:=F+root) oQ oQ)) (h:=?_);refine TD.ix [53,56] ?_;refine TD.s (pend':=[⟨18,[67,70],[]⟩,⟨17,[68,69],[]⟩,⟨16,[8],[]⟩,⟨15,[3],[]⟩,⟨14,[0],[]⟩,⟨7,[58,59],[]⟩,⟨6,[9],[]⟩,⟨5,[3],[]⟩,⟨4,[0],[]⟩]) [66,73] Z Z (zX Z Z zi.h Z Z mQ (jC (k:=F+root) oQ oQ)) ?_;refine TD.ix [57,60] ?_;refine TD.s (pend':=[]) [72,74] Z Z (zX Z Z zi.h Z Z mQ (jD (i:=F+root) (j:=F+c) oQ oQ)) ?_;refine TD.fin ?_;refine au [5,1,2,3,14] ?_;refine TK.maskL [0,2,3,8] ?_;refine TK.kp [(j,_)] ?_;exact hnext _ _ _ oQ ⟨c,swp d1 (F+root) (F+c),rfl,oQ,jE hs1,hq.symm,rfl,rfl⟩
instance:Cal tp 218:={}
theorem x6 {main T} (hT:zo tp main T) {gm} {j n a b:Nat} {d:Array Int} (hd:d.size=n) (hn:n<=1000) (hab:a<b) (hb:b<=n) :
  zA tp T gm 189 [.sl j 0 n,intA a,intA b] [(j,.row (d.toList.map intA) 3 1)] (fun r K'=>K'=[(j,.row ((heapSort ltInt d a b).toList.map intA) 3 1)]):=by
 refine zp 56 hT Tryz.func189 fun Y hret=>?_;refine au [4,5,1,2,3,4,5,2,3,4,5,1,1,24,2,3,4,4] ?_;rw [show (b:Int) - (a:Int)=((b - a:Nat):Int) by omega];refine au [5,1,24] ?_;refine TK.a Z (jJ Z Z Z oQ oQ oQ) ?_;refine au [2,3,13] ?_;refine TK.maskL [0,6,7,8,9] ?_;refine TK.loopN (fun n1 env K=>∃ (k:Nat) (d1:Array Int),n1=k/\k<=b - a/\d1.size=n/\heapPop ltInt a (b - a) (heapBuild ltInt (b - a) a k d1)=heapSort ltInt d a b/\env=.sl j 0 n::naL 5 (intA a::intA 0::intA (b - a:Nat)::intA ((k:Int) - 1)::naL 46 [])/\K=[(j,.row (d1.toList.map intA) 3 1)]) ((b - a - 1) / 2+1) ⟨(b - a - 1) / 2+1,d,rfl,oQ,hd,rfl,by rw [show (((b - a:Nat):Int) - 1) / 2=(((b - a - 1) / 2+1:Nat):Int) - 1 by omega] <;> rfl,rfl⟩ fun n1 env K hI hnext=>?_;obtain ⟨k,d1,hnk,hk,hs1,heq,rfl,rfl⟩:=hI;subst n1;refine TK.na nQ ?_;refine au [4,4,5,1,6,3,20] ?_;refine ⟨fun hc0=>?_,fun hc0=>?_⟩
 ·obtain ⟨q,rfl⟩:∃ q,k=q+1:=⟨k - 1,by simp at hc0; omega⟩;rw [show ((q+1:Nat):Int) - 1=(q:Int) by omega];refine au [12,4,13,5,1,1,1,1] ?_;refine TK.cl Z Z Z Z (xv hT (d:=d1) (lo:=q) (hi:=b - a) (F:=a) hs1 hn oQ oQ) ?_;rintro r1 K2 rfl;refine au [3,14,5,1,24,2,3] ?_;refine TK.maskL [0,6,7,8,9] ?_;refine TK.kp [(j,_)] ?_;exact hnext _ _ _ oQ ⟨q,siftDown ltInt (b - a) a q d1,rfl,oQ,by rw [xH]; exact hs1,heq,rfl,rfl⟩
 obtain rfl:k=0:=by simp at hc0; omega
 refine au [16,4,5,1,24,2,3,13] ?_;refine TK.maskL [0,6,7,8,10] ?_;refine TK.loopN (fun n1 env K=>∃ (k:Nat) (d2:Array Int),n1=k/\k<=b - a/\d2.size=n/\heapPop ltInt a k d2=heapSort ltInt d a b/\env=.sl j 0 n::naL 5 (intA a::intA 0::intA (b - a:Nat)::.any::intA ((k:Int) - 1)::naL 45 [])/\K=[(j,.row (d2.toList.map intA) 3 1)]) (b - a) ⟨b - a,d1,rfl,mL _,hs1,heq,rfl,rfl⟩ fun n1 env K hI hnext1=>?_;obtain ⟨k,d2,hnk2,hk2,hs2,heq2,rfl,rfl⟩:=hI;subst n1;refine TK.na nQ ?_;refine au [4,4,5,1,6,3,20] ?_;refine ⟨fun hc1=>?_,fun hc1=>?_⟩
 ·obtain ⟨q,rfl⟩:∃ q,k=q+1:=⟨k - 1,by simp at hc1; omega⟩;rw [show ((q+1:Nat):Int) - 1=(q:Int) by omega];refine au [12,4,13,4] ?_;refine TK.dr [0,1,2,3,4,5,6,7,8,9,10,11,12,13,14,15,16,17,18,19] [0,1,6,7,8,9,10,11,12,13,14,15,16,17,2,3,4,5,18,19] ?_;refine TD.mv [0] ?_;refine TD.mv [6] ?_;refine TD.mv [0] ?_;refine TD.mv [6] ?_;refine TD.mv [10] ?_;refine TD.z [36,37] Z (q_add Z Z Z oQ) ?_;refine TD.mv [0] ?_;refine TD.mv [6] ?_;refine TD.mv [10] ?_;refine TD.z [40,41] Z (q_add Z Z Z oQ) ?_;refine TD.ix [39,42] ?_;refine TD.y [43] Z (hq:=zm Z Z zi.h (mC _) (ji (i:=a+q) oQ oQ)) (h:=?_);refine TD.mv [0] ?_;refine TD.mv [6] ?_;refine TD.ix [45,46] ?_;refine TD.y [47] Z (hq:=zm Z Z zi.h (mC _) (ji (i:=a) oQ oQ)) (h:=?_);refine TD.ix [33,34] ?_;refine TD.s (pend':=[⟨14,[45,46],[]⟩,⟨13,[6],[]⟩,⟨12,[0],[]⟩,⟨5,[36,37],[]⟩,⟨4,[10],[]⟩,⟨3,[6],[]⟩,⟨2,[0],[]⟩]) [44,49] Z Z (zX Z Z zi.h Z Z mQ (jC (k:=a) oQ oQ)) ?_;refine TD.ix [35,38] ?_;refine TD.s (pend':=[]) [48,50] Z Z (zX Z Z zi.h Z Z mQ (jD (i:=a) (j:=a+q) oQ oQ)) ?_;refine TD.fin ?_;refine au [5,1,1,1,1] ?_;refine TK.cl Z Z Z Z (xv hT (d:=swp d2 a (a+q)) (lo:=0) (hi:=q) (F:=a) (jE hs2) hn oQ oQ) ?_;rintro r4 K5 rfl;refine au [3,14,5,1,24,2,3] ?_;refine TK.maskL [0,6,7,8,10] ?_;refine TK.kp [(j,_)] ?_;exact hnext1 _ _ _ oQ ⟨q,siftDown ltInt q a 0 (swp d2 a (a+q)),rfl,oQ,by rw [xH]; exact jE hs2,heq2,rfl,rfl⟩
 obtain rfl:k=0:=by simp at hc1; omega
 refine au [16] ?_;refine TK.rt0 hret [(j,_)] ?_;rw [<- heq2]; rfl
end Go.Vel
namespace Go.Vel
open Go Go.Conc Go.Sort
section
variable {p:Int->Bool} {a b i j q u v u2 v2 pv:Nat} {d d1 d2:Array Int}
theorem up_go (h:i<=j) (hp:p d[i]! =true):scanUp p d j i=scanUp p d j (i+1):=by
 conv=>lhs; unfold scanUp
 rw [if_pos (by simp [h,hp])]
theorem jL (h:¬ i<=j\/p d[i]! =false):scanUp p d j i=i:=by
 unfold scanUp;rw [if_neg (by rcases h with h | h <;> simp [h])]
theorem xb (h:i<=q+1) (hp:p d[q+1]! =true):scanDown p d i (q+1)=scanDown p d i q:=by
 conv=>lhs; unfold scanDown
 rw [if_pos (by simp [h,hp])]
theorem jG (h:¬ i<=q\/p d[q]! =false):scanDown p d i q=q:=by
 cases q with
 | zero=>rfl
 | succ q =>
  unfold scanDown;rw [if_neg (by rcases h with h | h <;> simp [h])]
theorem qT (hd:d1=swp d a pv) (hu:scanUp (fun x=>ltInt x d1[a]!) d1 (b - 1) (a+1)=u) (hv:scanDown (fun x => !ltInt x d1[a]!) d1 u (b - 1)=v) (h:v<u):partition ltInt d a b pv=(v,true,swp d1 v a):=by
 subst hd;unfold partition;simp only [];rw [hu,hv,if_pos h]
theorem qU (hd:d1=swp d a pv) (hu:scanUp (fun x=>ltInt x d1[a]!) d1 (b - 1) (a+1)=u) (hv:scanDown (fun x => !ltInt x d1[a]!) d1 u (b - 1)=v) (h:¬ v<u) (hl:partLoop ltInt a (u+1) (v - 1) (swp d1 u v)=(v2,d2)):partition ltInt d a b pv=(v2,false,swp d2 v2 a):=by
 subst hd;unfold partition;simp only [];rw [hu,hv,if_neg h,hl]
theorem qW (hu:scanUp (fun x=>ltInt x d[a]!) d v u=u2) (hv:scanDown (fun x => !ltInt x d[a]!) d u2 v=v2) (h:v2<u2):partLoop ltInt a u v d=(v2,d):=by
 rw [partLoop_eq,hu,hv];exact if_pos h
theorem pl_go (hu:scanUp (fun x=>ltInt x d[a]!) d v u=u2) (hv:scanDown (fun x => !ltInt x d[a]!) d u2 v=v2) (h:¬ v2<u2):partLoop ltInt a u v d=partLoop ltInt a (u2+1) (v2 - 1) (swp d u2 v2):=by
 conv=>lhs; rw [partLoop_eq,hu,hv]
 exact if_neg h
theorem qV (hu:scanUp (fun x => !ltInt d[a]! x) d v u=u2) (hv:scanDown (fun x=>ltInt d[a]! x) d u2 v=v2) (h:v2<u2):partEqLoop ltInt a u v d=(u2,d):=by
 rw [partEqLoop_eq,hu,hv];exact if_pos h
theorem pe_go (hu:scanUp (fun x => !ltInt d[a]! x) d v u=u2) (hv:scanDown (fun x=>ltInt d[a]! x) d u2 v=v2) (h:¬ v2<u2):partEqLoop ltInt a u v d=partEqLoop ltInt a (u2+1) (v2 - 1) (swp d u2 v2):=by
 conv=>lhs; rw [partEqLoop_eq,hu,hv]
 exact if_neg h
end
end Go.Vel
namespace Go.Vel
open Go Go.Conc Go.Proofs
open Go.Sort
theorem x9 {main T} (hT:zo tp main T) {gm} {j n a b pv:Nat} {d:Array Int} (hd:d.size=n) (hn:n<=1000) (ha:a<=pv) (hpv:pv<b) (hb:b<=n) :
  zA tp T gm 196 [.sl j 0 n,intA a,intA b,intA pv] [(j,.row (d.toList.map intA) 3 1)] (fun r K'=>∃ p,partition ltInt d a b pv=p/\r=.tup [intA p.1,zP p.2.1]/\K'=[(j,.row (p.2.2.toList.map intA) 3 1)]):=by
 refine zp 168 hT Tryz.func196 fun Y hret=>?_;refine au [4,5,2,2,3,4] ?_;refine TK.dr [0,1,2,3,4,5,6,7,8,9,10,11,12,13,14,15] [0,1,4,5,6,7,8,9,10,11,12,13,2,3,14,15] ?_;refine TD.mv [0] ?_;refine TD.mv [1] ?_;refine TD.mv [0] ?_;refine TD.mv [3] ?_;refine TD.mv [0] ?_;refine TD.mv [3] ?_;refine TD.ix [16,17] ?_;refine TD.y [18] Z (hq:=zm Z Z zi.h (mC _) (ji (i:=pv) oQ oQ)) (h:=?_);refine TD.mv [0] ?_;refine TD.mv [1] ?_;refine TD.ix [20,21] ?_;refine TD.y [22] Z (hq:=zm Z Z zi.h (mC _) (ji (i:=a) oQ oQ)) (h:=?_);refine TD.ix [12,13] ?_;refine TD.s (pend':=[⟨10,[20,21],[]⟩,⟨9,[1],[]⟩,⟨8,[0],[]⟩,⟨3,[3],[]⟩,⟨2,[0],[]⟩]) [19,24] Z Z (zX Z Z zi.h Z Z mQ (jC (k:=a) oQ oQ)) ?_;refine TD.ix [14,15] ?_;refine TD.s (pend':=[]) [23,25] Z Z (zX Z Z zi.h Z Z mQ (jD (i:=a) (j:=pv) oQ oQ)) ?_;refine TD.fin ?_;refine au [4] ?_;obtain ⟨d1,hd1⟩:∃ d1,d1=swp d a pv:=⟨_,rfl⟩;rw [<- hd1];have hs1:d1.size=n:=by rw [hd1]; exact jE hd
 refine au [5,1,23,1,24,2,2,3,4,13] ?_;refine TK.maskL [0,1,10,11] ?_;refine TK.loopN (fun n1 env K=>∃ (u:Nat),n1=b - u/\a+1<=u/\u<=b/\scanUp (fun x=>ltInt x d1[a]!) d1 (b - 1) u=scanUp (fun x=>ltInt x d1[a]!) d1 (b - 1) (a+1)/\env=.sl j 0 n::intA a::naL 8 (intA u::intA (b - 1:Nat)::naL 156 [])/\K=[(j,.row (d1.toList.map intA) 3 1)]) (b - (a+1)) ⟨a+1,rfl,mL _,oQ,rfl,by rw [show (b:Int) - 1=((b - 1:Nat):Int) by omega] <;> rfl,rfl⟩ fun n1 env K hI hnextu=>?_;obtain ⟨u,rfl,hu0,hub,heqs,rfl,rfl⟩:=hI;refine TK.na nQ ?_;refine au [4,4] ?_;refine' TK.shr (X:=Unit) (D:=fun x=>scanUp (fun x=>ltInt x d1[a]!) d1 (b - 1) (a+1)=u) (E:=fun x=>.sl j 0 n::intA a::naL 8 (intA u::intA (b - 1:Nat)::naL 156 [])) (KK:=fun x=>[(j,.row (d1.toList.map intA) 3 1)]) ?_ ?_;rotate_left
 ·intro H;refine TK.dr [0,1,2,3,4,5,6,7,8,9,10,11,12,13] [0,1,2,3,4,5,6,7,8,9,10,11,12,13] ?_;refine TD.mv [10] ?_;refine TD.mv [11] ?_;refine TD.z [30,31] Z (q_cmp Z Z Z Z) ?_;refine TD.mv [32] ?_;refine TD.sp 33 (fun g3_4=>?_) (fun g3_4=>?_)
  ·have hg:u<=b - 1:=by simp at g3_4; omega
   refine TD.mv [0,33] ?_;refine TD.mv [10,33] ?_;refine TD.ix [33,34,35] ?_;refine TD.y [33,36] Z (hq:=zm Z Z zi.h (mC _) (ji (i:=u) oQ oQ)) (h:=?_);refine TD.mv [0,33] ?_;refine TD.mv [1,33] ?_;refine TD.ix [33,38,39] ?_;refine TD.y [33,40] Z (hq:=zm Z Z zi.h (mC _) (ji (i:=a) oQ oQ)) (h:=?_);refine TD.cl (pend':=[⟨10,[33,38,39],[]⟩,⟨9,[1,33],[]⟩,⟨8,[0,33],[]⟩,⟨6,[33,34,35],[]⟩,⟨5,[10,33],[]⟩,⟨4,[0,33],[]⟩,⟨2,[30,31],[]⟩,⟨1,[11],[]⟩,⟨0,[10],[]⟩]) [33,37,41] Z Z Z Z Z (zg9 hT) (fun r1 K2 h3=>⟨?_,?_⟩)
   ·rcases h3 with ⟨rfl,rfl⟩
    all_goals simp
   obtain ⟨rfl,rfl⟩:=h3;try simp only [cA]
   refine TD.norm tQ ?_;refine TD.z [33,42] Z (yE Z Z Z) ?_;refine TD.fin ?_;refine au [20] ?_;refine ⟨fun hc0=>?_,fun hc0=>?_⟩
   ·rw [up_go (p:=(fun x=>ltInt x d1[a]!)) hg hc0] at heqs;refine au [12,13,5,1,23,2,3,14] ?_;refine TK.maskL [0,1,10,11] ?_;refine TK.kp [(j,_)] ?_;exact hnextu _ _ _ oQ ⟨u+1,rfl,oQ,oQ,heqs,rfl,rfl⟩
   have hfin:scanUp (fun x=>ltInt x d1[a]!) d1 (b - 1) (a+1)=u:=by rw [<- heqs]; exact jL (p:=(fun x=>ltInt x d1[a]!)) (.inr hc0)
   refine au [16,4,13] ?_;refine TK.maskL [0,1,10,11] ?_;refine TK.maskL [0,1,10,11] ?_;refine TK.kp [(j,_)] ?_;exact H () hfin
  have hfin:scanUp (fun x=>ltInt x d1[a]!) d1 (b - 1) (a+1)=u:=by rw [<- heqs]; exact jL (.inl (by simp at g3_4; omega))
  refine TD.u [0,33] Z ?_;refine TD.u [10,33] Z ?_;refine TD.u [33,34,35] Z ?_;refine TD.u [33,36] Z ?_;refine TD.u [0,33] Z ?_;refine TD.u [1,33] Z ?_;refine TD.u [33,38,39] Z ?_;refine TD.u [33,40] Z ?_;refine TD.u [33,37,41] Z ?_;refine TD.z [33,42] Z (yf Z Z Z) ?_;refine TD.fin ?_;refine au [19,16,4,13] ?_;refine TK.maskL [0,1,10,11] ?_;refine TK.maskL [0,1,10,11] ?_;refine TK.kp [(j,_)] ?_;exact H () hfin
 ·rintro _ hup;refine TK.na nQ ?_;refine TK.loopN (fun n1 env K=>∃ (v:Nat),n1=v/\v<=b - 1/\scanDown (fun x => !ltInt x d1[a]!) d1 u v=scanDown (fun x => !ltInt x d1[a]!) d1 u (b - 1)/\env=.sl j 0 n::intA a::naL 8 (intA u::intA v::naL 156 [])/\K=[(j,.row (d1.toList.map intA) 3 1)]) (b - 1) ⟨b - 1,rfl,mL _,rfl,rfl,rfl⟩ fun n1 env K hI hnextv=>?_;obtain ⟨v,hnv,hvb,heqs,rfl,rfl⟩:=hI;subst n1;refine TK.na nQ ?_;refine au [4,4] ?_;refine' TK.shr (X:=Unit) (D:=fun x=>scanDown (fun x => !ltInt x d1[a]!) d1 u (b - 1)=v) (E:=fun x=>.sl j 0 n::intA a::naL 8 (intA u::intA v::naL 156 [])) (KK:=fun x=>[(j,.row (d1.toList.map intA) 3 1)]) ?_ ?_;rotate_left
  ·intro H;refine TK.dr [0,1,2,3,4,5,6,7,8,9,10,11,12,13,14] [0,1,2,3,4,5,6,7,8,9,10,11,12,13,14] ?_;refine TD.mv [10] ?_;refine TD.mv [11] ?_;refine TD.z [46,47] Z (q_cmp Z Z Z Z) ?_;refine TD.mv [48] ?_;refine TD.sp 49 (fun g5_4=>?_) (fun g5_4=>?_)
   ·have hg:u<=v:=by simp at g5_4; omega
    obtain ⟨q,rfl⟩:∃ q,v=q+1:=⟨v - 1,oQ⟩;refine TD.mv [0,49] ?_;refine TD.mv [11,49] ?_;refine TD.ix [49,50,51] ?_;refine TD.y [49,52] Z (hq:=zm Z Z zi.h (mC _) (ji (i:=q+1) oQ oQ)) (h:=?_);refine TD.mv [0,49] ?_;refine TD.mv [1,49] ?_;refine TD.ix [49,54,55] ?_;refine TD.y [49,56] Z (hq:=zm Z Z zi.h (mC _) (ji (i:=a) oQ oQ)) (h:=?_);refine TD.cl (pend':=[⟨10,[49,54,55],[]⟩,⟨9,[1,49],[]⟩,⟨8,[0,49],[]⟩,⟨6,[49,50,51],[]⟩,⟨5,[11,49],[]⟩,⟨4,[0,49],[]⟩,⟨2,[46,47],[]⟩,⟨1,[11],[]⟩,⟨0,[10],[]⟩]) [49,53,57] Z Z Z Z Z (zg9 hT) (fun r25 K26 h27=>⟨?_,?_⟩)
    ·rcases h27 with ⟨rfl,rfl⟩
     all_goals simp
    obtain ⟨rfl,rfl⟩:=h27;try simp only [cA]
    refine TD.norm tQ ?_;refine TD.z [49,58] Z (q_not Z Z) ?_;refine TD.z [49,59] Z (yE Z Z Z) ?_;refine TD.fin ?_;refine au [20] ?_;refine ⟨fun hc1=>?_,fun hc1=>?_⟩
    ·rw [xb (p:=(fun x => !ltInt x d1[a]!)) hg hc1] at heqs;refine au [12,13,5,1,24,2,3,14] ?_;refine TK.maskL [0,1,10,11] ?_;refine TK.kp [(j,_)] ?_;exact hnextv _ _ _ oQ ⟨q,rfl,oQ,heqs,by rw [show ((q+1:Nat):Int) - 1=(q:Int) by omega]; rfl,rfl⟩
    have hfin:scanDown (fun x => !ltInt x d1[a]!) d1 u (b - 1)=q+1:=by rw [<- heqs]; exact jG (p:=(fun x => !ltInt x d1[a]!)) (.inr hc1)
    refine au [16,4,4] ?_;refine TK.maskL [0,1,10,11] ?_;refine TK.kp [(j,_)] ?_;exact H () hfin
   have hfin:scanDown (fun x => !ltInt x d1[a]!) d1 u (b - 1)=v:=by rw [<- heqs]; exact jG (.inl (by simp at g5_4; omega))
   refine TD.u [0,49] Z ?_;refine TD.u [11,49] Z ?_;refine TD.u [49,50,51] Z ?_;refine TD.u [49,52] Z ?_;refine TD.u [0,49] Z ?_;refine TD.u [1,49] Z ?_;refine TD.u [49,54,55] Z ?_;refine TD.u [49,56] Z ?_;refine TD.u [49,53,57] Z ?_;refine TD.u [49,58] Z ?_;refine TD.z [49,59] Z (yf Z Z Z) ?_;refine TD.fin ?_;refine au [19,16,4,4] ?_;refine TK.maskL [0,1,10,11] ?_;refine TK.kp [(j,_)] ?_;exact H () hfin
  ·rintro _ hdn;refine TK.na nQ ?_;refine au [5,1,1,6,3,20] ?_;refine ⟨fun hc2=>?_,fun hc2=>?_⟩
   ·have hlt:v<u:=by simp at hc2; omega
    refine au [4] ?_;refine TK.dr [0,1,2,3,4,5,6,7,8,9,10,11,12,13,14,15] [0,1,4,5,6,7,8,9,10,11,12,13,2,3,14,15] ?_;refine TD.mv [0] ?_;refine TD.mv [11] ?_;refine TD.mv [0] ?_;refine TD.mv [1] ?_;refine TD.mv [0] ?_;refine TD.mv [1] ?_;refine TD.ix [70,71] ?_;refine TD.y [72] Z (hq:=zm Z Z zi.h (mC _) (ji (i:=a) oQ oQ)) (h:=?_);refine TD.mv [0] ?_;refine TD.mv [11] ?_;refine TD.ix [74,75] ?_;refine TD.y [76] Z (hq:=zm Z Z zi.h (mC _) (ji (i:=v) oQ oQ)) (h:=?_);refine TD.ix [66,67] ?_;refine TD.s (pend':=[⟨10,[74,75],[]⟩,⟨9,[11],[]⟩,⟨8,[0],[]⟩,⟨3,[1],[]⟩,⟨2,[0],[]⟩]) [73,78] Z Z (zX Z Z zi.h Z Z mQ (jC (k:=v) oQ oQ)) ?_;refine TD.ix [68,69] ?_;refine TD.s (pend':=[]) [77,79] Z Z (zX Z Z zi.h Z Z mQ (jD (i:=v) (j:=a) oQ oQ)) ?_;refine TD.fin ?_;refine au [4,5,1,2,2,3] ?_;refine TK.rt hret [(j,_)] ?_;exact ⟨_,qT hd1 hup hdn hlt,rfl,rfl⟩
   have hge:¬ v<u:=by simp at hc2; omega
   refine au [12,4] ?_;refine TK.dr [0,1,2,3,4,5,6,7,8,9,10,11,12,13,14,15] [0,1,4,5,6,7,8,9,10,11,12,13,2,3,14,15] ?_;refine TD.mv [0] ?_;refine TD.mv [10] ?_;refine TD.mv [0] ?_;refine TD.mv [11] ?_;refine TD.mv [0] ?_;refine TD.mv [11] ?_;refine TD.ix [85,86] ?_;refine TD.y [87] Z (hq:=zm Z Z zi.h (mC _) (ji (i:=v) oQ oQ)) (h:=?_);refine TD.mv [0] ?_;refine TD.mv [10] ?_;refine TD.ix [89,90] ?_;refine TD.y [91] Z (hq:=zm Z Z zi.h (mC _) (ji (i:=u) oQ oQ)) (h:=?_);refine TD.ix [81,82] ?_;refine TD.s (pend':=[⟨10,[89,90],[]⟩,⟨9,[10],[]⟩,⟨8,[0],[]⟩,⟨3,[11],[]⟩,⟨2,[0],[]⟩]) [88,93] Z Z (zX Z Z zi.h Z Z mQ (jC (k:=u) oQ oQ)) ?_;refine TD.ix [83,84] ?_;refine TD.s (pend':=[]) [92,94] Z Z (zX Z Z zi.h Z Z mQ (jD (i:=u) (j:=v) oQ oQ)) ?_;refine TD.fin ?_;refine au [4,5,1,23,2,3,4,5,1,24,2,3,4,13] ?_;refine TK.maskL [0,1,10,11] ?_;obtain ⟨u0,hu0e⟩:∃ u0,u0=u:=⟨_,rfl⟩;obtain ⟨v0,hv0e⟩:∃ v0,v0=v:=⟨_,rfl⟩;have hup0:=hup;have hdn0:=hdn;have hge0:=hge;rw [<- hu0e,<- hv0e] at hdn0 hge0;rw [<- hu0e] at hup0;refine TK.loopN (fun n1 env K=>∃ (u2 v2:Nat) (d2:Array Int),n1=v2+1 - u2/\a<u2/\u2<=b/\v2<b/\d2.size=n/\partLoop ltInt a u2 v2 d2=partLoop ltInt a (u0+1) (v0 - 1) (swp d1 u0 v0)/\env=.sl j 0 n::intA a::naL 8 (intA u2::intA v2::naL 156 [])/\K=[(j,.row (d2.toList.map intA) 3 1)]) (v - 1+1 - (u+1)) ⟨u+1,v - 1,swp d1 u v,rfl,oQ,oQ,oQ,jE hs1,by rw [hu0e,hv0e],by rw [show (v:Int) - 1=((v - 1:Nat):Int) by omega] <;> rfl,rfl⟩ fun n1 env K hI hnext2=>?_;clear hup hdn hge;obtain ⟨u2,v2,d2,rfl,hau,hub2,hvb2,hs2,heq2,rfl,rfl⟩:=hI;refine TK.na nQ ?_;refine au [13,4,13] ?_;refine TK.maskL [0,1,10,11] ?_;refine TK.loopN (fun n1 env K=>∃ (u:Nat),n1=b - u/\u2<=u/\u<=b/\scanUp (fun x=>ltInt x d2[a]!) d2 (v2) u=scanUp (fun x=>ltInt x d2[a]!) d2 (v2) (u2)/\env=.sl j 0 n::intA a::naL 8 (intA u::intA v2::naL 156 [])/\K=[(j,.row (d2.toList.map intA) 3 1)]) (b - (u2)) ⟨u2,rfl,mL _,oQ,rfl,rfl,rfl⟩ fun n1 env K hI hnextu=>?_;obtain ⟨u,rfl,hu0,hub,heqs,rfl,rfl⟩:=hI;refine TK.na nQ ?_;refine au [4,4] ?_;refine' TK.shr (X:=Unit) (D:=fun x=>scanUp (fun x=>ltInt x d2[a]!) d2 (v2) (u2)=u) (E:=fun x=>.sl j 0 n::intA a::naL 8 (intA u::intA v2::naL 156 [])) (KK:=fun x=>[(j,.row (d2.toList.map intA) 3 1)]) ?_ ?_;rotate_left
   ·intro H;refine TK.dr [0,1,2,3,4,5,6,7,8,9,10,11,12,13] [0,1,2,3,4,5,6,7,8,9,10,11,12,13] ?_;refine TD.mv [10] ?_;refine TD.mv [11] ?_;refine TD.z [99,100] Z (q_cmp Z Z Z Z) ?_;refine TD.mv [101] ?_;refine TD.sp 102 (fun g13_4=>?_) (fun g13_4=>?_)
    ·have hg:u<=v2:=by simp at g13_4; omega
     refine TD.mv [0,102] ?_;refine TD.mv [10,102] ?_;refine TD.ix [102,103,104] ?_;refine TD.y [102,105] Z (hq:=zm Z Z zi.h (mC _) (ji (i:=u) oQ oQ)) (h:=?_);refine TD.mv [0,102] ?_;refine TD.mv [1,102] ?_;refine TD.ix [102,107,108] ?_;refine TD.y [102,109] Z (hq:=zm Z Z zi.h (mC _) (ji (i:=a) oQ oQ)) (h:=?_);refine TD.cl (pend':=[⟨10,[102,107,108],[]⟩,⟨9,[1,102],[]⟩,⟨8,[0,102],[]⟩,⟨6,[102,103,104],[]⟩,⟨5,[10,102],[]⟩,⟨4,[0,102],[]⟩,⟨2,[99,100],[]⟩,⟨1,[11],[]⟩,⟨0,[10],[]⟩]) [102,106,110] Z Z Z Z Z (zg9 hT) (fun r37 K38 h39=>⟨?_,?_⟩)
     ·rcases h39 with ⟨rfl,rfl⟩
      all_goals simp
     obtain ⟨rfl,rfl⟩:=h39;try simp only [cA]
     refine TD.norm tQ ?_;refine TD.z [102,111] Z (yE Z Z Z) ?_;refine TD.fin ?_;refine au [20] ?_;refine ⟨fun hc3=>?_,fun hc3=>?_⟩
     ·rw [up_go (p:=(fun x=>ltInt x d2[a]!)) hg hc3] at heqs;refine au [12,13,5,1,23,2,3,14] ?_;refine TK.maskL [0,1,10,11] ?_;refine TK.kp [(j,_)] ?_;exact hnextu _ _ _ oQ ⟨u+1,rfl,oQ,oQ,heqs,rfl,rfl⟩
     have hfin:scanUp (fun x=>ltInt x d2[a]!) d2 (v2) (u2)=u:=by rw [<- heqs]; exact jL (p:=(fun x=>ltInt x d2[a]!)) (.inr hc3)
     refine au [16,4,13] ?_;refine TK.maskL [0,1,10,11] ?_;refine TK.maskL [0,1,10,11] ?_;refine TK.kp [(j,_)] ?_;exact H () hfin
    have hfin:scanUp (fun x=>ltInt x d2[a]!) d2 (v2) (u2)=u:=by rw [<- heqs]; exact jL (.inl (by simp at g13_4; omega))
    refine TD.u [0,102] Z ?_;refine TD.u [10,102] Z ?_;refine TD.u [102,103,104] Z ?_;refine TD.u [102,105] Z ?_;refine TD.u [0,102] Z ?_;refine TD.u [1,102] Z ?_;refine TD.u [102,107,108] Z ?_;refine TD.u [102,109] Z ?_;refine TD.u [102,106,110] Z ?_;refine TD.z [102,111] Z (yf Z Z Z) ?_;refine TD.fin ?_;refine au [19,16,4,13] ?_;refine TK.maskL [0,1,10,11] ?_;refine TK.maskL [0,1,10,11] ?_;refine TK.kp [(j,_)] ?_;exact H () hfin
   ·rintro _ hup;refine TK.na nQ ?_;refine TK.loopN (fun n1 env K=>∃ (v:Nat),n1=v/\v<=v2/\scanDown (fun x => !ltInt x d2[a]!) d2 u v=scanDown (fun x => !ltInt x d2[a]!) d2 u (v2)/\env=.sl j 0 n::intA a::naL 8 (intA u::intA v::naL 156 [])/\K=[(j,.row (d2.toList.map intA) 3 1)]) (v2) ⟨v2,rfl,mL _,rfl,rfl,rfl⟩ fun n1 env K hI hnextv=>?_;obtain ⟨v,hnv,hvb,heqs,rfl,rfl⟩:=hI;subst n1;refine TK.na nQ ?_;refine au [4,4] ?_;refine' TK.shr (X:=Unit) (D:=fun x=>scanDown (fun x => !ltInt x d2[a]!) d2 u (v2)=v) (E:=fun x=>.sl j 0 n::intA a::naL 8 (intA u::intA v::naL 156 [])) (KK:=fun x=>[(j,.row (d2.toList.map intA) 3 1)]) ?_ ?_;rotate_left
    ·intro H;refine TK.dr [0,1,2,3,4,5,6,7,8,9,10,11,12,13,14] [0,1,2,3,4,5,6,7,8,9,10,11,12,13,14] ?_;refine TD.mv [10] ?_;refine TD.mv [11] ?_;refine TD.z [115,116] Z (q_cmp Z Z Z Z) ?_;refine TD.mv [117] ?_;refine TD.sp 118 (fun g15_4=>?_) (fun g15_4=>?_)
     ·have hg:u<=v:=by simp at g15_4; omega
      obtain ⟨q,rfl⟩:∃ q,v=q+1:=⟨v - 1,oQ⟩;refine TD.mv [0,118] ?_;refine TD.mv [11,118] ?_;refine TD.ix [118,119,120] ?_;refine TD.y [118,121] Z (hq:=zm Z Z zi.h (mC _) (ji (i:=q+1) oQ oQ)) (h:=?_);refine TD.mv [0,118] ?_;refine TD.mv [1,118] ?_;refine TD.ix [118,123,124] ?_;refine TD.y [118,125] Z (hq:=zm Z Z zi.h (mC _) (ji (i:=a) oQ oQ)) (h:=?_);refine TD.cl (pend':=[⟨10,[118,123,124],[]⟩,⟨9,[1,118],[]⟩,⟨8,[0,118],[]⟩,⟨6,[118,119,120],[]⟩,⟨5,[11,118],[]⟩,⟨4,[0,118],[]⟩,⟨2,[115,116],[]⟩,⟨1,[11],[]⟩,⟨0,[10],[]⟩]) [118,122,126] Z Z Z Z Z (zg9 hT) (fun r43 K44 h45=>⟨?_,?_⟩)
      ·rcases h45 with ⟨rfl,rfl⟩
       all_goals simp
      obtain ⟨rfl,rfl⟩:=h45;try simp only [cA]
      refine TD.norm tQ ?_;refine TD.z [118,127] Z (q_not Z Z) ?_;refine TD.z [118,128] Z (yE Z Z Z) ?_;refine TD.fin ?_;refine au [20] ?_;refine ⟨fun hc4=>?_,fun hc4=>?_⟩
      ·rw [xb (p:=(fun x => !ltInt x d2[a]!)) hg hc4] at heqs;refine au [12,13,5,1,24,2,3,14] ?_;refine TK.maskL [0,1,10,11] ?_;refine TK.kp [(j,_)] ?_;exact hnextv _ _ _ oQ ⟨q,rfl,oQ,heqs,by rw [show ((q+1:Nat):Int) - 1=(q:Int) by omega]; rfl,rfl⟩
      have hfin:scanDown (fun x => !ltInt x d2[a]!) d2 u (v2)=q+1:=by rw [<- heqs]; exact jG (p:=(fun x => !ltInt x d2[a]!)) (.inr hc4)
      refine au [16,4,4] ?_;refine TK.maskL [0,1,10,11] ?_;refine TK.kp [(j,_)] ?_;exact H () hfin
     have hfin:scanDown (fun x => !ltInt x d2[a]!) d2 u (v2)=v:=by rw [<- heqs]; exact jG (.inl (by simp at g15_4; omega))
     refine TD.u [0,118] Z ?_;refine TD.u [11,118] Z ?_;refine TD.u [118,119,120] Z ?_;refine TD.u [118,121] Z ?_;refine TD.u [0,118] Z ?_;refine TD.u [1,118] Z ?_;refine TD.u [118,123,124] Z ?_;refine TD.u [118,125] Z ?_;refine TD.u [118,122,126] Z ?_;refine TD.u [118,127] Z ?_;refine TD.z [118,128] Z (yf Z Z Z) ?_;refine TD.fin ?_;refine au [19,16,4,4] ?_;refine TK.maskL [0,1,10,11] ?_;refine TK.kp [(j,_)] ?_;exact H () hfin
    ·rintro _ hdn;refine TK.na nQ ?_;refine au [5,1,1,6,3,20] ?_;refine ⟨fun hc5=>?_,fun hc5=>?_⟩
     ·have hlt:v<u:=by simp at hc5; omega
      refine au [16,4] ?_;refine TK.dr [0,1,2,3,4,5,6,7,8,9,10,11,12,13,14,15] [0,1,4,5,6,7,8,9,10,11,12,13,2,3,14,15] ?_;refine TD.mv [0] ?_;refine TD.mv [11] ?_;refine TD.mv [0] ?_;refine TD.mv [1] ?_;refine TD.mv [0] ?_;refine TD.mv [1] ?_;refine TD.ix [157,158] ?_;refine TD.y [159] Z (hq:=zm Z Z zi.h (mC _) (ji (i:=a) oQ oQ)) (h:=?_);refine TD.mv [0] ?_;refine TD.mv [11] ?_;refine TD.ix [161,162] ?_;refine TD.y [163] Z (hq:=zm Z Z zi.h (mC _) (ji (i:=v) oQ oQ)) (h:=?_);refine TD.ix [153,154] ?_;refine TD.s (pend':=[⟨10,[161,162],[]⟩,⟨9,[11],[]⟩,⟨8,[0],[]⟩,⟨3,[1],[]⟩,⟨2,[0],[]⟩]) [160,165] Z Z (zX Z Z zi.h Z Z mQ (jC (k:=v) oQ oQ)) ?_;refine TD.ix [155,156] ?_;refine TD.s (pend':=[]) [164,166] Z Z (zX Z Z zi.h Z Z mQ (jD (i:=v) (j:=a) oQ oQ)) ?_;refine TD.fin ?_;refine au [4,5,1,2,2,3] ?_;refine TK.rt hret [(j,_)] ?_;exact ⟨_,qU hd1 hup0 hdn0 hge0 (heq2.symm.trans (qW hup hdn hlt)),rfl,rfl⟩
     have hge:¬ v<u:=by simp at hc5; omega
     refine au [12,4] ?_;refine TK.dr [0,1,2,3,4,5,6,7,8,9,10,11,12,13,14,15] [0,1,4,5,6,7,8,9,10,11,12,13,2,3,14,15] ?_;refine TD.mv [0] ?_;refine TD.mv [10] ?_;refine TD.mv [0] ?_;refine TD.mv [11] ?_;refine TD.mv [0] ?_;refine TD.mv [11] ?_;refine TD.ix [139,140] ?_;refine TD.y [141] Z (hq:=zm Z Z zi.h (mC _) (ji (i:=v) oQ oQ)) (h:=?_);refine TD.mv [0] ?_;refine TD.mv [10] ?_;refine TD.ix [143,144] ?_;refine TD.y [145] Z (hq:=zm Z Z zi.h (mC _) (ji (i:=u) oQ oQ)) (h:=?_);refine TD.ix [135,136] ?_;refine TD.s (pend':=[⟨10,[143,144],[]⟩,⟨9,[10],[]⟩,⟨8,[0],[]⟩,⟨3,[11],[]⟩,⟨2,[0],[]⟩]) [142,147] Z Z (zX Z Z zi.h Z Z mQ (jC (k:=u) oQ oQ)) ?_;refine TD.ix [137,138] ?_;refine TD.s (pend':=[]) [146,148] Z Z (zX Z Z zi.h Z Z mQ (jD (i:=u) (j:=v) oQ oQ)) ?_;refine TD.fin ?_;refine au [4,5,1,23,2,3,5,1,24,2,3,14] ?_;refine TK.maskL [0,1,10,11] ?_;refine TK.kp [(j,_)] ?_;exact hnext2 _ _ _ oQ ⟨u+1,v - 1,swp d2 u v,rfl,oQ,oQ,oQ,jE hs2,(pl_go hup hdn hge).symm.trans heq2,by rw [show (v:Int) - 1=((v - 1:Nat):Int) by omega] <;> rfl,rfl⟩
theorem qZ {u v:Nat} {d:Array Int} (h:u<v):reverseLoop u v d=reverseLoop (u+1) (v - 1) (swp d u v):=by
 conv=>lhs; unfold reverseLoop
 rw [if_pos h]
theorem qH {u v:Nat} {d:Array Int} (h:¬ u<v):reverseLoop u v d=d:=by unfold reverseLoop; rw [if_neg h]
theorem xL {main T} (hT:zo tp main T) {gm} {j n a b pv:Nat} {d:Array Int} (hd:d.size=n) (hn:n<=1000) (ha:a<=pv) (hpv:pv<b) (hb:b<=n) :
  zA tp T gm 195 [.sl j 0 n,intA a,intA b,intA pv] [(j,.row (d.toList.map intA) 3 1)] (fun r K'=>∃ p,partitionEqual ltInt d a b pv=p/\r=intA p.1/\K'=[(j,.row (p.2.toList.map intA) 3 1)]):=by
 refine zp 84 hT Tryz.func195 fun Y hret=>?_;refine au [4,5,2,3,4] ?_;refine TK.dr [0,1,2,3,4,5,6,7,8,9,10,11,12,13,14,15] [0,1,4,5,6,7,8,9,10,11,12,13,2,3,14,15] ?_;refine TD.mv [0] ?_;refine TD.mv [1] ?_;refine TD.mv [0] ?_;refine TD.mv [3] ?_;refine TD.mv [0] ?_;refine TD.mv [3] ?_;refine TD.ix [15,16] ?_;refine TD.y [17] Z (hq:=zm Z Z zi.h (mC _) (ji (i:=pv) oQ oQ)) (h:=?_);refine TD.mv [0] ?_;refine TD.mv [1] ?_;refine TD.ix [19,20] ?_;refine TD.y [21] Z (hq:=zm Z Z zi.h (mC _) (ji (i:=a) oQ oQ)) (h:=?_);refine TD.ix [11,12] ?_;refine TD.s (pend':=[⟨10,[19,20],[]⟩,⟨9,[1],[]⟩,⟨8,[0],[]⟩,⟨3,[3],[]⟩,⟨2,[0],[]⟩]) [18,23] Z Z (zX Z Z zi.h Z Z mQ (jC (k:=a) oQ oQ)) ?_;refine TD.ix [13,14] ?_;refine TD.s (pend':=[]) [22,24] Z Z (zX Z Z zi.h Z Z mQ (jD (i:=a) (j:=pv) oQ oQ)) ?_;refine TD.fin ?_;refine au [4,5,1,23,1,24,2,2,3,4,13] ?_;refine TK.maskL [0,1,9,10] ?_;refine TK.loopN (fun n1 env K=>∃ (u2 v2:Nat) (d2:Array Int),n1=v2+1 - u2/\a<u2/\u2<=b/\v2<b/\d2.size=n/\partEqLoop ltInt a u2 v2 d2=partitionEqual ltInt d a b pv/\env=.sl j 0 n::intA a::naL 7 (intA u2::intA v2::naL 73 [])/\K=[(j,.row (d2.toList.map intA) 3 1)]) (b - 1+1 - (a+1)) ⟨a+1,b - 1,swp d a pv,rfl,oQ,oQ,oQ,jE hd,rfl,by rw [show (b:Int) - 1=((b - 1:Nat):Int) by omega] <;> rfl,rfl⟩ fun n1 env K hI hnext2=>?_;obtain ⟨u2,v2,d2,rfl,hau,hub2,hvb2,hs2,heq2,rfl,rfl⟩:=hI;refine TK.na nQ ?_;refine au [13,4,13] ?_;refine TK.maskL [0,1,9,10] ?_;refine TK.loopN (fun n1 env K=>∃ (u:Nat),n1=b - u/\u2<=u/\u<=b/\scanUp (fun x => !ltInt d2[a]! x) d2 (v2) u=scanUp (fun x => !ltInt d2[a]! x) d2 (v2) (u2)/\env=.sl j 0 n::intA a::naL 7 (intA u::intA v2::naL 73 [])/\K=[(j,.row (d2.toList.map intA) 3 1)]) (b - (u2)) ⟨u2,rfl,mL _,oQ,rfl,rfl,rfl⟩ fun n1 env K hI hnextu=>?_;obtain ⟨u,rfl,hu0,hub,heqs,rfl,rfl⟩:=hI;refine TK.na nQ ?_;refine au [4,4] ?_;refine' TK.shr (X:=Unit) (D:=fun x=>scanUp (fun x => !ltInt d2[a]! x) d2 (v2) (u2)=u) (E:=fun x=>.sl j 0 n::intA a::naL 7 (intA u::intA v2::naL 73 [])) (KK:=fun x=>[(j,.row (d2.toList.map intA) 3 1)]) ?_ ?_;rotate_left
 ·intro H;refine TK.dr [0,1,2,3,4,5,6,7,8,9,10,11,12,13,14] [0,1,2,3,4,5,6,7,8,9,10,11,12,13,14] ?_;refine TD.mv [9] ?_;refine TD.mv [10] ?_;refine TD.z [29,30] Z (q_cmp Z Z Z Z) ?_;refine TD.mv [31] ?_;refine TD.sp 32 (fun g3_4=>?_) (fun g3_4=>?_)
  ·have hg:u<=v2:=by simp at g3_4; omega
   refine TD.mv [0,32] ?_;refine TD.mv [1,32] ?_;refine TD.ix [32,33,34] ?_;refine TD.y [32,35] Z (hq:=zm Z Z zi.h (mC _) (ji (i:=a) oQ oQ)) (h:=?_);refine TD.mv [0,32] ?_;refine TD.mv [9,32] ?_;refine TD.ix [32,37,38] ?_;refine TD.y [32,39] Z (hq:=zm Z Z zi.h (mC _) (ji (i:=u) oQ oQ)) (h:=?_);refine TD.cl (pend':=[⟨10,[32,37,38],[]⟩,⟨9,[9,32],[]⟩,⟨8,[0,32],[]⟩,⟨6,[32,33,34],[]⟩,⟨5,[1,32],[]⟩,⟨4,[0,32],[]⟩,⟨2,[29,30],[]⟩,⟨1,[10],[]⟩,⟨0,[9],[]⟩]) [32,36,40] Z Z Z Z Z (zg9 hT) (fun r1 K2 h3=>⟨?_,?_⟩)
   ·rcases h3 with ⟨rfl,rfl⟩
    all_goals simp
   obtain ⟨rfl,rfl⟩:=h3;try simp only [cA]
   refine TD.norm tQ ?_;refine TD.z [32,41] Z (q_not Z Z) ?_;refine TD.z [32,42] Z (yE Z Z Z) ?_;refine TD.fin ?_;refine au [20] ?_;refine ⟨fun hc0=>?_,fun hc0=>?_⟩
   ·rw [up_go (p:=(fun x => !ltInt d2[a]! x)) hg hc0] at heqs;refine au [12,13,5,1,23,2,3,14] ?_;refine TK.maskL [0,1,9,10] ?_;refine TK.kp [(j,_)] ?_;exact hnextu _ _ _ oQ ⟨u+1,rfl,oQ,oQ,heqs,rfl,rfl⟩
   have hfin:scanUp (fun x => !ltInt d2[a]! x) d2 (v2) (u2)=u:=by rw [<- heqs]; exact jL (p:=(fun x => !ltInt d2[a]! x)) (.inr hc0)
   refine au [16,4,13] ?_;refine TK.maskL [0,1,9,10] ?_;refine TK.maskL [0,1,9,10] ?_;refine TK.kp [(j,_)] ?_;exact H () hfin
  have hfin:scanUp (fun x => !ltInt d2[a]! x) d2 (v2) (u2)=u:=by rw [<- heqs]; exact jL (.inl (by simp at g3_4; omega))
  refine TD.u [0,32] Z ?_;refine TD.u [1,32] Z ?_;refine TD.u [32,33,34] Z ?_;refine TD.u [32,35] Z ?_;refine TD.u [0,32] Z ?_;refine TD.u [9,32] Z ?_;refine TD.u [32,37,38] Z ?_;refine TD.u [32,39] Z ?_;refine TD.u [32,36,40] Z ?_;refine TD.u [32,41] Z ?_;refine TD.z [32,42] Z (yf Z Z Z) ?_;refine TD.fin ?_;refine au [19,16,4,13] ?_;refine TK.maskL [0,1,9,10] ?_;refine TK.maskL [0,1,9,10] ?_;refine TK.kp [(j,_)] ?_;exact H () hfin
 ·rintro _ hup;refine TK.na nQ ?_;refine TK.loopN (fun n1 env K=>∃ (v:Nat),n1=v/\v<=v2/\scanDown (fun x=>ltInt d2[a]! x) d2 u v=scanDown (fun x=>ltInt d2[a]! x) d2 u (v2)/\env=.sl j 0 n::intA a::naL 7 (intA u::intA v::naL 73 [])/\K=[(j,.row (d2.toList.map intA) 3 1)]) (v2) ⟨v2,rfl,mL _,rfl,rfl,rfl⟩ fun n1 env K hI hnextv=>?_;obtain ⟨v,hnv,hvb,heqs,rfl,rfl⟩:=hI;subst n1;refine TK.na nQ ?_;refine au [4,4] ?_;refine' TK.shr (X:=Unit) (D:=fun x=>scanDown (fun x=>ltInt d2[a]! x) d2 u (v2)=v) (E:=fun x=>.sl j 0 n::intA a::naL 7 (intA u::intA v::naL 73 [])) (KK:=fun x=>[(j,.row (d2.toList.map intA) 3 1)]) ?_ ?_;rotate_left
  ·intro H;refine TK.dr [0,1,2,3,4,5,6,7,8,9,10,11,12,13] [0,1,2,3,4,5,6,7,8,9,10,11,12,13] ?_;refine TD.mv [9] ?_;refine TD.mv [10] ?_;refine TD.z [46,47] Z (q_cmp Z Z Z Z) ?_;refine TD.mv [48] ?_;refine TD.sp 49 (fun g5_4=>?_) (fun g5_4=>?_)
   ·have hg:u<=v:=by simp at g5_4; omega
    obtain ⟨q,rfl⟩:∃ q,v=q+1:=⟨v - 1,oQ⟩;refine TD.mv [0,49] ?_;refine TD.mv [1,49] ?_;refine TD.ix [49,50,51] ?_;refine TD.y [49,52] Z (hq:=zm Z Z zi.h (mC _) (ji (i:=a) oQ oQ)) (h:=?_);refine TD.mv [0,49] ?_;refine TD.mv [10,49] ?_;refine TD.ix [49,54,55] ?_;refine TD.y [49,56] Z (hq:=zm Z Z zi.h (mC _) (ji (i:=q+1) oQ oQ)) (h:=?_);refine TD.cl (pend':=[⟨10,[49,54,55],[]⟩,⟨9,[10,49],[]⟩,⟨8,[0,49],[]⟩,⟨6,[49,50,51],[]⟩,⟨5,[1,49],[]⟩,⟨4,[0,49],[]⟩,⟨2,[46,47],[]⟩,⟨1,[10],[]⟩,⟨0,[9],[]⟩]) [49,53,57] Z Z Z Z Z (zg9 hT) (fun r7 K8 h9=>⟨?_,?_⟩)
    ·rcases h9 with ⟨rfl,rfl⟩
     all_goals simp
    obtain ⟨rfl,rfl⟩:=h9;try simp only [cA]
    refine TD.norm tQ ?_;refine TD.z [49,58] Z (yE Z Z Z) ?_;refine TD.fin ?_;refine au [20] ?_;refine ⟨fun hc1=>?_,fun hc1=>?_⟩
    ·rw [xb (p:=(fun x=>ltInt d2[a]! x)) hg hc1] at heqs;refine au [12,13,5,1,24,2,3,14] ?_;refine TK.maskL [0,1,9,10] ?_;refine TK.kp [(j,_)] ?_;exact hnextv _ _ _ oQ ⟨q,rfl,oQ,heqs,by rw [show ((q+1:Nat):Int) - 1=(q:Int) by omega]; rfl,rfl⟩
    have hfin:scanDown (fun x=>ltInt d2[a]! x) d2 u (v2)=q+1:=by rw [<- heqs]; exact jG (p:=(fun x=>ltInt d2[a]! x)) (.inr hc1)
    refine au [16,4,4] ?_;refine TK.maskL [0,1,9,10] ?_;refine TK.kp [(j,_)] ?_;exact H () hfin
   have hfin:scanDown (fun x=>ltInt d2[a]! x) d2 u (v2)=v:=by rw [<- heqs]; exact jG (.inl (by simp at g5_4; omega))
   refine TD.u [0,49] Z ?_;refine TD.u [1,49] Z ?_;refine TD.u [49,50,51] Z ?_;refine TD.u [49,52] Z ?_;refine TD.u [0,49] Z ?_;refine TD.u [10,49] Z ?_;refine TD.u [49,54,55] Z ?_;refine TD.u [49,56] Z ?_;refine TD.u [49,53,57] Z ?_;refine TD.z [49,58] Z (yf Z Z Z) ?_;refine TD.fin ?_;refine au [19,16,4,4] ?_;refine TK.maskL [0,1,9,10] ?_;refine TK.kp [(j,_)] ?_;exact H () hfin
  ·rintro _ hdn;refine TK.na nQ ?_;refine au [5,1,1,6,3,20] ?_;refine ⟨fun hc2=>?_,fun hc2=>?_⟩
   ·have hlt:v<u:=by simp at hc2; omega
    refine au [16,4,5,1,2,3] ?_;refine TK.rt hret [(j,_)] ?_;exact ⟨_,heq2.symm.trans (qV hup hdn hlt),rfl,rfl⟩
   have hge:¬ v<u:=by simp at hc2; omega
   refine au [12,4] ?_;refine TK.dr [0,1,2,3,4,5,6,7,8,9,10,11,12,13,14,15] [0,1,4,5,6,7,8,9,10,11,12,13,2,3,14,15] ?_;refine TD.mv [0] ?_;refine TD.mv [9] ?_;refine TD.mv [0] ?_;refine TD.mv [10] ?_;refine TD.mv [0] ?_;refine TD.mv [10] ?_;refine TD.ix [69,70] ?_;refine TD.y [71] Z (hq:=zm Z Z zi.h (mC _) (ji (i:=v) oQ oQ)) (h:=?_);refine TD.mv [0] ?_;refine TD.mv [9] ?_;refine TD.ix [73,74] ?_;refine TD.y [75] Z (hq:=zm Z Z zi.h (mC _) (ji (i:=u) oQ oQ)) (h:=?_);refine TD.ix [65,66] ?_;refine TD.s (pend':=[⟨10,[73,74],[]⟩,⟨9,[9],[]⟩,⟨8,[0],[]⟩,⟨3,[10],[]⟩,⟨2,[0],[]⟩]) [72,77] Z Z (zX Z Z zi.h Z Z mQ (jC (k:=u) oQ oQ)) ?_;refine TD.ix [67,68] ?_;refine TD.s (pend':=[]) [76,78] Z Z (zX Z Z zi.h Z Z mQ (jD (i:=u) (j:=v) oQ oQ)) ?_;refine TD.fin ?_;refine au [4,5,1,23,2,3,5,1,24,2,3,14] ?_;refine TK.maskL [0,1,9,10] ?_;refine TK.kp [(j,_)] ?_;exact hnext2 _ _ _ oQ ⟨u+1,v - 1,swp d2 u v,rfl,oQ,oQ,oQ,jE hs2,(pe_go hup hdn hge).symm.trans heq2,by rw [show (v:Int) - 1=((v - 1:Nat):Int) by omega] <;> rfl,rfl⟩
theorem qG {main T} (hT:zo tp main T) {gm} {j n a b:Nat} {d:Array Int} (hd:d.size=n) (hn:n<=1000) (hab:a<b) (hb:b<=n) :
  zA tp T gm 192 [.sl j 0 n,intA a,intA b] [(j,.row (d.toList.map intA) 3 1)] (fun r K'=>K'=[(j,.row ((reverseRange d a b).toList.map intA) 3 1)]):=by
 refine zp 32 hT Tryz.func192 fun Y hret=>?_;refine au [4,5,1,2,3,4,5,1,24,2,3,13] ?_;refine TK.maskL [0,6,7] ?_;refine TK.loopN (fun n1 env K=>∃ (u v:Nat) (d1:Array Int),n1=v - u/\u<=b/\v<b/\d1.size=n/\reverseLoop u v d1=reverseRange d a b/\env=.sl j 0 n::naL 5 (intA u::intA v::naL 24 [])/\K=[(j,.row (d1.toList.map intA) 3 1)]) (b - 1 - a) ⟨a,b - 1,d,rfl,oQ,oQ,hd,rfl,by rw [show (b:Int) - 1=((b - 1:Nat):Int) by omega] <;> rfl,rfl⟩ fun n1 env K hI hnext=>?_;obtain ⟨u,v,d1,rfl,hub,hvb,hs1,heq,rfl,rfl⟩:=hI;refine TK.na nQ ?_;refine au [4,4,5,1,1,6,3,20] ?_;refine ⟨fun hc0=>?_,fun hc0=>?_⟩
 ·have hlt:u<v:=by simp at hc0; omega
  rw [qZ hlt] at heq;refine au [12,13,4] ?_;refine TK.dr [0,1,2,3,4,5,6,7,8,9,10,11,12,13,14,15] [0,1,4,5,6,7,8,9,10,11,12,13,2,3,14,15] ?_;refine TD.mv [0] ?_;refine TD.mv [6] ?_;refine TD.mv [0] ?_;refine TD.mv [7] ?_;refine TD.mv [0] ?_;refine TD.mv [7] ?_;refine TD.ix [18,19] ?_;refine TD.y [20] Z (hq:=zm Z Z zi.h (mC _) (ji (i:=v) oQ oQ)) (h:=?_);refine TD.mv [0] ?_;refine TD.mv [6] ?_;refine TD.ix [22,23] ?_;refine TD.y [24] Z (hq:=zm Z Z zi.h (mC _) (ji (i:=u) oQ oQ)) (h:=?_);refine TD.ix [14,15] ?_;refine TD.s (pend':=[⟨10,[22,23],[]⟩,⟨9,[6],[]⟩,⟨8,[0],[]⟩,⟨3,[7],[]⟩,⟨2,[0],[]⟩]) [21,26] Z Z (zX Z Z zi.h Z Z mQ (jC (k:=u) oQ oQ)) ?_;refine TD.ix [16,17] ?_;refine TD.s (pend':=[]) [25,27] Z Z (zX Z Z zi.h Z Z mQ (jD (i:=u) (j:=v) oQ oQ)) ?_;refine TD.fin ?_;refine au [4,5,1,23,2,3,5,1,24,2,3,14] ?_;refine TK.maskL [0,6,7] ?_;refine TK.kp [(j,_)] ?_;exact hnext _ _ _ oQ ⟨u+1,v - 1,swp d1 u v,rfl,oQ,oQ,jE hs1,heq,by rw [show (v:Int) - 1=((v - 1:Nat):Int) by omega] <;> rfl,rfl⟩
 have hlt:¬ u<v:=by simp at hc0; omega
 refine au [16] ?_;refine TK.rt0 hret [(j,_)] ?_;rw [<- heq]; rw [qH hlt]
instance:Cal tp 222:={}
instance:Cal tp 233:={}
theorem jN {main T} (hT:zo tp main T) {gm} {j js n a b:Nat} {d:Array Int} {sw:Int} (hd:d.size=n) (hn:n<=1000) (ha:a<n) (hb:b<n) (hsw:0<=sw/\sw<=1000) :
  zA tp T gm 233 [.sl j 0 n,intA a,intA b,.ptr js 0] [(j,.row (d.toList.map intA) 3 1),(js,.cells [intA sw] 3 true)] (fun r K'=>∃ (x y:Nat) (sw':Int),((x=a/\y=b)\/(x=b/\y=a))/\0<=sw'/\sw'<=sw+1/\r=.tup [intA x,intA y]/\K'=[(j,.row (d.toList.map intA) 3 1),(js,.cells [intA sw'] 3 true)]):=by
 refine zp 28 hT Tryz.func233 fun Y hret=>?_;refine au [4,5,2,2,3,4,4] ?_;refine TK.dr [0,1,2,3,4,5,6,7,8] [0,1,2,3,4,5,6,7,8] ?_;refine TD.mv [0] ?_;refine TD.mv [2] ?_;refine TD.ix [10,11] ?_;refine TD.y [12] Z (hq:=zm Z Z zi.h (mC _) (ji (i:=b) oQ oQ)) (h:=?_);refine TD.mv [0] ?_;refine TD.mv [1] ?_;refine TD.ix [14,15] ?_;refine TD.y [16] Z (hq:=zm Z Z zi.h (mC _) (ji (i:=a) oQ oQ)) (h:=?_);refine TD.cl (pend':=[⟨6,[14,15],[]⟩,⟨5,[1],[]⟩,⟨4,[0],[]⟩,⟨2,[10,11],[]⟩,⟨1,[2],[]⟩,⟨0,[0],[]⟩]) [13,17] Z Z Z Z Z (zg9 hT) (fun r1 K2 h3=>⟨?_,?_⟩)
 ·rcases h3 with ⟨rfl,rfl⟩
  all_goals simp
 obtain ⟨rfl,rfl⟩:=h3;try simp only [cA]
 refine TD.norm tQ ?_;refine TD.fin ?_;refine au [20] ?_;refine ⟨fun hc0=>?_,fun hc0=>?_⟩
 ·refine au [4,5,1] ?_;refine TK.a Z (ke Z Z) ?_;refine au [9,23] ?_;refine TK.a Z (ke Z Z) ?_;refine au [17,3,4,5,1,1,2,2,3] ?_;refine TK.rt hret [(j,_),(js,_)] ?_;exact ⟨_,_,_,.inr ⟨rfl,rfl⟩,oQ,oQ,rfl,rfl⟩
 refine au [12,4,5,1,1,2,2,3] ?_;refine TK.rt hret [(j,_),(js,_)] ?_;exact ⟨_,_,_,.inl ⟨rfl,rfl⟩,oQ,oQ,rfl,rfl⟩
theorem jM {main T} (hT:zo tp main T) {gm} {j js n a b c:Nat} {d:Array Int} {sw:Int} (hd:d.size=n) (hn:n<=1000) (ha:a<n) (hb:b<n) (hc:c<n) (hsw:0<=sw/\sw<=900) :
  zA tp T gm 222 [.sl j 0 n,intA a,intA b,intA c,.ptr js 0] [(j,.row (d.toList.map intA) 3 1),(js,.cells [intA sw] 3 true)] (fun r K'=>∃ (x:Nat) (sw':Int),(x=a\/x=b\/x=c)/\0<=sw'/\sw'<=sw+3/\r=intA x/\K'=[(j,.row (d.toList.map intA) 3 1),(js,.cells [intA sw'] 3 true)]):=by
 refine zp 36 hT Tryz.func222 fun Y hret=>?_;refine au [4,5,2,3,4,5,1,1,1,1] ?_;refine TK.cl Z Z Z Z (jN hT (sw:=sw) hd hn oQ oQ oQ) ?_;rintro r1 K2 ⟨x1,y1,q1,hx1,hq11,hq12,rfl,rfl⟩;refine au [1,10,10,2,2,3,4,5,1,1,1,1] ?_;refine TK.cl Z Z Z Z (jN hT (sw:=q1) hd hn oQ oQ oQ) ?_;rintro r4 K5 ⟨x2,y2,q2,hx2,hq21,hq22,rfl,rfl⟩;refine au [1,10,10,2,2,3,4,5,1,1,1,1] ?_;refine TK.cl Z Z Z Z (jN hT (sw:=q2) hd hn oQ oQ oQ) ?_;rintro r7 K8 ⟨x3,y3,q3,hx3,hq31,hq32,rfl,rfl⟩;refine au [1,10,10,2,2,3,4,5,1,2,3] ?_;refine TK.rt hret [(j,_),(js,_)] ?_;exact ⟨_,_,oQ,oQ,oQ,rfl,rfl⟩
theorem jH {main T} (hT:zo tp main T) {gm} {j js n a:Nat} {d:Array Int} {sw:Int} (hd:d.size=n) (hn:n<=1000) (h1:1<=a) (ha:a+1<n) (hsw:0<=sw/\sw<=900) :
  zA tp T gm 221 [.sl j 0 n,intA a,.ptr js 0] [(j,.row (d.toList.map intA) 3 1),(js,.cells [intA sw] 3 true)] (fun r K'=>∃ (x:Nat) (sw':Int),a<=x+1/\x<=a+1/\0<=sw'/\sw'<=sw+3/\r=intA x/\K'=[(j,.row (d.toList.map intA) 3 1),(js,.cells [intA sw'] 3 true)]):=by
 refine zp 15 hT Tryz.func221 fun Y hret=>?_;refine au [4,5,2,3,4] ?_;obtain ⟨p,rfl⟩:∃ p,a=p+1:=⟨a - 1,oQ⟩;refine au [5,1,1,24] ?_;rw [show ((p+1:Nat):Int) - 1=(p:Int) by omega];refine au [1,1,23,1] ?_;refine TK.cl Z Z Z Z (jM hT (sw:=sw) (a:=p) (b:=p+1) (c:=p+1+1) hd hn oQ oQ oQ oQ) ?_;rintro r1 K2 ⟨x,q,hx,hq1,hq2,rfl,rfl⟩;refine au [2,3] ?_;refine TK.rt hret [(j,_),(js,_)] ?_;exact ⟨_,_,oQ,oQ,oQ,oQ,rfl,rfl⟩
end Go.Vel
namespace Go.Vel
open Go Go.Conc Go.Proofs
theorem xw {n:Int} (h:0<=n/\n<18446744073709551616):IntKind.u64.wrap n=n:=by
 unfold IntKind.wrap;simp only [show IntKind.u64.bits=64 from rfl,show IntKind.u64.signed=false from rfl,Bool.false_and];split <;> rename_i h1 <;> first | (exact absurd h1 dQ) | omega
theorem jac (x:Int):0<=IntKind.u64.wrap x/\IntKind.u64.wrap x<18446744073709551616:=by
 unfold IntKind.wrap;simp only [show IntKind.u64.bits=64 from rfl,show IntKind.u64.signed=false from rfl,Bool.false_and];split <;> rename_i h1 <;> first | (exact absurd h1 dQ) | omega
def xorW (a b:Int):Int:=IntKind.u64.wrap ((BitVec.ofInt 64 a ^^^ BitVec.ofInt 64 b).toNat:Int)
def andW (a b:Int):Int:=IntKind.u64.wrap ((BitVec.ofInt 64 a &&& BitVec.ofInt 64 b).toNat:Int)
theorem xJ (a b:Int):0<=xorW a b/\xorW a b<18446744073709551616:=jac _
theorem qo (a:Int) {b:Nat} (hb:b<1000):0<=andW a b/\andW a b<=b:=by
 have h1:(BitVec.ofInt 64 (b:Int)).toNat=b:=by
  rw [BitVec.toNat_ofInt];omega
 have h2:(BitVec.ofInt 64 a &&& BitVec.ofInt 64 (b:Int)).toNat<=b:=by
  rw [BitVec.toNat_and,h1];exact Nat.and_le_right
 unfold andW;rw [xw oQ];omega
section
variable {P:Program} {gm:Nat->Option Nat} {V:KV} {env:List AV} {o:Oper}
theorem xe {t yt:TypeId} {x y:Operand} {a b:Int} (ho:o.op=.binOp .xor t x y yt) (hx:zn gm env x=some (.v (.int .u64 a))) (hy:zn gm env y=some (.v (.int .u64 b))):Qk P gm env V o (.v (.int .u64 (xorW a b))):=wQ ho hx hy rfl
theorem qD {t yt:TypeId} {x y:Operand} {a b:Int} (ho:o.op=.binOp .and t x y yt) (hx:zn gm env x=some (.v (.int .u64 a))) (hy:zn gm env y=some (.v (.int .u64 b))):Qk P gm env V o (.v (.int .u64 (andW a b))):=wQ ho hx hy rfl
theorem qF {t yt:TypeId} {x y:Operand} {a b:Int} (ho:o.op=.binOp .sub t x y yt) (hx:zn gm env x=some (.v (.int .u64 a))) (hy:zn gm env y=some (.v (.int .u64 b))) (h:0<=a - b/\a - b<18446744073709551616):Qk P gm env V o (.v (.int .u64 (a - b))):=by
 refine wQ ho hx hy ?_;show some (Value.int .u64 (IntKind.u64.wrap (a - b)))=_;rw [xw h]
theorem qE {t yt:TypeId} {x y:Operand} {k':IntKind} {a b:Int} (ho:o.op=.binOp .shr t x y yt) (hx:zn gm env x=some (.v (.int .u64 a))) (hy:zn gm env y=some (.v (.int k' b))) (h0:0<=b):Qk P gm env V o (.v (.int .u64 (a.fdiv (2 ^ min b.toNat 64)))):=fun A _=>by
 refine vq ho (by rw [zx hx]; rfl) (by rw [zx hy]; rfl) ?_;rw [u7];show zR P (Op.shift .shr .u64 a k' b)=_;unfold Op.shift;rw [if_neg oQ];rfl
end
theorem qw {s:ByteArray} {n:Nat} (hn:n<256) (h:n<s.size) (hall:(List.range 256).all (fun k=>match s[k]? with | some c=>decide (c.toNat<=8/\(k=0\/2 ^ c.toNat<=2*k)) | none=>true)=true):∃ m:Nat,intA (0+((s[n]'h).toNat:Int))=intA m/\m<=8/\(n=0\/2 ^ m<=2*n)/\([]:KV)=[]:=by
 have h1:=List.all_eq_true.1 hall n (List.mem_range.2 hn);rw [getElem?_pos s n h] at h1;have h2:=of_decide_eq_true h1;exact ⟨(s[n]'h).toNat,by rw [Int.zero_add],h2.1,h2.2,rfl⟩
theorem qJ {m:Nat} (hm:m<=8):IntKind.u64.wrap (1*2 ^ ((m:Nat):Int).toNat)=((2 ^ m:Nat):Int):=by
 have:m=0\/m=1\/m=2\/m=3\/m=4\/m=5\/m=6\/m=7\/m=8:=by omega
 rcases this with rfl | rfl | rfl | rfl | rfl | rfl | rfl | rfl | rfl <;> decide
end Go.Vel
namespace Go.Vel
open Go Go.Conc Go.Proofs
open Go.Sort
instance:Cal tp 221:={}
instance:zi tp 263 false 1:={}
instance:TyZA tp 3 [.v (.int .i64 0)]:={}
theorem qC {main T} (hT:zo tp main T) {gm} {j n a b:Nat} {d:Array Int} (hd:d.size=n) (hn:n<=1000) (hab:a<b) (hb:b<=n) :
  zA tp T gm 191 [.sl j 0 n,intA a,intA b] [(j,.row (d.toList.map intA) 3 1)] (fun r K'=>∃ (p:Nat) (hh:Int),a<=p/\p<b/\r=.tup [intA p,intA hh]/\K'=[(j,.row (d.toList.map intA) 3 1)]):=by
 refine zp 57 hT Tryz.func191 fun Y hret=>?_;refine au [4,5,2,2,3,4,5,1,1,24,2,3,4] ?_;rw [show (b:Int) - (a:Int)=((b - a:Nat):Int) by omega];refine au [5,22] ?_;intro js hjs;refine au [3,4,5,1,1] ?_;refine TK.a Z (jJ Z Z Z oQ oQ oQ) ?_;refine TK.a Z (q_mul Z Z Z oQ) ?_;refine au [23,2,3,4,5,1,1] ?_;refine TK.a Z (jJ Z Z Z oQ oQ oQ) ?_;refine TK.a Z (q_mul Z Z Z oQ) ?_;refine au [23,2,3,4,5,1,1] ?_;refine TK.a Z (jJ Z Z Z oQ oQ oQ) ?_;refine TK.a Z (q_mul Z Z Z oQ) ?_;refine au [23,2,3,4,4] ?_;obtain ⟨I,hI⟩:∃ I:Nat,I=a+(b - a) / 4:=⟨_,rfl⟩;obtain ⟨J,hJ⟩:∃ J:Nat,J=a+(b - a) / 4*2:=⟨_,rfl⟩;obtain ⟨L,hL⟩:∃ L:Nat,L=a+(b - a) / 4*3:=⟨_,rfl⟩;refine' TK.shr (X:=Nat×Int) (D:=fun x=>a<=x.1/\x.1<b) (E:=fun x=>naL 9 (.ptr js 0::.any::intA x.1::naL 45 [])) (KK:=fun x=>[(j,.row (d.toList.map intA) 3 1),(js,.cells [intA x.2] 3 true)]) ?_ ?_;rotate_left
 ·intro H;rw [show (a:Int)+((b - a:Nat):Int) / 4*1=(I:Int) by omega,show (a:Int)+((b - a:Nat):Int) / 4*2=(J:Int) by omega,show (a:Int)+((b - a:Nat):Int) / 4*3=(L:Int) by omega];refine au [5,1,6,3,20] ?_;refine ⟨fun hc0=>?_,fun hc0=>?_⟩
  ·have h8:8<=b - a:=by simp at hc0; omega
   refine au [4,4,5,1,6,3,20] ?_;refine ⟨fun hc1=>?_,fun hc1=>?_⟩
   ·have h50:50<=b - a:=by simp at hc1; omega
    refine au [4,5,1,1] ?_;refine TK.cl Z Z Z Z (jH hT (sw:=0) (a:=I) hd hn oQ oQ oQ) ?_;rintro r1 K2 ⟨x1,q1,hx11,hx12,hx13,hx14,rfl,rfl⟩;refine au [2,3,4,5,1,1] ?_;refine TK.cl Z Z Z Z (jH hT (sw:=q1) (a:=J) hd hn oQ oQ oQ) ?_;rintro r4 K5 ⟨x2,q2,hx21,hx22,hx23,hx24,rfl,rfl⟩;refine au [2,3,5,1,1] ?_;refine TK.cl Z Z Z Z (jH hT (sw:=q2) (a:=L) hd hn oQ oQ oQ) ?_;rintro r7 K8 ⟨x3,q3,hx31,hx32,hx33,hx34,rfl,rfl⟩;refine au [2,3,5,1,1,1,1] ?_;refine TK.cl Z Z Z Z (jM hT (sw:=q3) (a:=x1) (b:=x2) (c:=x3) hd hn oQ oQ oQ oQ) ?_;rintro r10 K11 ⟨x4,q4,hx4,hx42,hx43,rfl,rfl⟩;refine au [2,3,4] ?_;refine TK.maskL [9,11] ?_;refine TK.kp [(j,_),(js,_)] ?_;exact H (x4,q4) ⟨by omega,oQ⟩
   refine au [12,5,1,1,1,1] ?_;refine TK.cl Z Z Z Z (jM hT (sw:=0) (a:=I) (b:=J) (c:=L) hd hn oQ oQ oQ oQ) ?_;rintro r13 K14 ⟨x4,q4,hx4,hx42,hx43,rfl,rfl⟩;refine au [2,3,4] ?_;refine TK.maskL [9,11] ?_;refine TK.kp [(j,_),(js,_)] ?_;exact H (x4,q4) ⟨by omega,oQ⟩
  refine au [12,4] ?_;refine TK.maskL [9,11] ?_;refine TK.kp [(j,_),(js,_)] ?_;exact H (J,0) ⟨by omega,oQ⟩
 ·rintro ⟨p,sw⟩ ⟨hp1,hp2⟩; dsimp only at hp1 hp2 ⊢;refine TK.na nQ ?_;refine au [5,9,3,13,4,5,6,2,3,20] ?_;refine ⟨fun hc2=>?_,fun hc2=>?_⟩
  ·refine au [4,5,1,2,2,3] ?_;refine TK.rt hret [(j,_)] ?_;exact ⟨p,_,hp1,hp2,rfl,rfl⟩
  refine au [4,5,6,2,3,20] ?_;refine ⟨fun hc3=>?_,fun hc3=>?_⟩
  ·refine au [4,5,1,2,2,3] ?_;refine TK.rt hret [(j,_)] ?_;exact ⟨p,_,hp1,hp2,rfl,rfl⟩
  refine au [4,5,1,2,2,3] ?_;refine TK.rt hret [(j,_)] ?_;exact ⟨p,_,hp1,hp2,rfl,rfl⟩
theorem xV {main T} (hT:zo tp main T) {gm} {n:Nat} (hn:n<256) :
  zA tp T gm 198 [.v (.int .u64 n)] [] (fun r K'=>∃ m:Nat,r=intA m/\m<=8/\(n=0\/2 ^ m<=2*n)/\K'=[]):=by
 refine zp 25 hT Tryz.func198 fun Y hret=>?_;refine au [4,5,2,3,4,4,5,1,6,3,20] ?_;refine ⟨fun hc0=>?_,fun hc0=>?_⟩
 ·simp at hc0; omega
 refine au [12,4,4,5,1,6,3,20] ?_;refine ⟨fun hc1=>?_,fun hc1=>?_⟩
 ·simp at hc1; omega
 refine au [12,4,4,5,1,6,3,20] ?_;refine ⟨fun hc2=>?_,fun hc2=>?_⟩
 ·simp at hc2; omega
 refine au [12,4,5,1,1] ?_;refine TK.a Z (yU Z Z Und.h Und.h (zgD hn)) ?_;refine TK.a Z (zet Z Z Z Und.h oQ (zhK hn Z)) ?_;refine TK.a Z (yU Z Z Und.h Und.h (zfB _)) ?_;refine TK.a Z (q_add Z Z Z (zfG _)) ?_;refine au [2,3] ?_;refine TK.rta hret ?_;exact qw hn _ (by decide +kernel)
theorem jW {main T} (hT:zo tp main T) {gm} {n:Nat} (hn:n<256) :
  zA tp T gm 161 [.v (.int .u64 n)] [] (fun r K'=>∃ m:Nat,r=intA m/\m<=8/\(n=0\/2 ^ m<=2*n)/\K'=[]):=by
 refine zp 8 hT Tryz.func161 fun Y hret=>?_;refine au [4,5,2,3,4,19,12,4,5,1] ?_;refine TK.cl Z Z Z Z (xV hT hn) ?_;rintro r1 K2 ⟨m,rfl,hm8,hm2,rfl⟩;refine au [2,3] ?_;refine TK.rta hret ?_;exact ⟨m,rfl,hm8,hm2,rfl⟩
theorem x8 {main T} (hT:zo tp main T) {gm} {n:Nat} (hn:n<256) (h1:1<=n) :
  zA tp T gm 219 [intA n] [] (fun r K'=>∃ M:Nat,1<=M/\M<=2*n/\r=.v (.int .u64 (M:Int))/\K'=[]):=by
 refine zp 7 hT Tryz.func219 fun Y hret=>?_;refine au [4,5,2,3,4,5,1] ?_;refine TK.a Z (yU Z Z Und.h Und.h (zbZ (n:=n) oQ)) ?_;refine TK.cl Z Z Z Z (jW hT (n:=n) hn) ?_;rintro r1 K2 ⟨m,rfl,hm8,hm2,rfl⟩;refine au [] ?_;refine TK.a Z (q_shL Z Z Z ⟨by omega,by show ((m:Nat):Int)<=64; omega⟩ (r:=((2 ^ m:Nat):Int)) (qJ hm8)) ?_;refine au [2,3] ?_;refine TK.rta hret ?_;exact ⟨2 ^ m,Nat.two_pow_pos _,oQ,rfl,rfl⟩
theorem x7 {main T} (hT:zo tp main T) {gm} {jx:Nat} {x:Int} :
  zA tp T gm 220 [.ptr jx 0] [(jx,.cells [.v (.int .u64 x)] 263 true)] (fun r K'=>∃ y:Int,0<=y/\y<18446744073709551616/\r=.v (.int .u64 y)/\K'=[(jx,.cells [.v (.int .u64 y)] 263 true)]):=by
 refine zp 33 hT Tryz.func220 fun Y hret=>?_;refine au [4,5,2,3,4] ?_;refine TK.dr [0,1,2,3,4,5,6,7,8,9] [0,1,2,3,4,5,6,7,8,9] ?_;refine TD.mv [0] ?_;refine TD.z [3] Z (ke Z Z) ?_;refine TD.y [4] Z (hq:=zm Z Z zi.h (mC _) Z) (h:=?_);refine TD.mv [0] ?_;refine TD.z [6] Z (ke Z Z) ?_;refine TD.y [7] Z (hq:=zm Z Z zi.h (mC _) Z) (h:=?_);refine TD.z [8] Z (q_shL Z Z Z ⟨by decide,by decide⟩ rfl) ?_;refine TD.z [5,9] Z (xe Z Z Z) ?_;refine TD.z [3] Z (ke Z Z) ?_;refine TD.s (pend':=[]) [10,11] Z Z (zX Z Z zi.h Z Z mQ Z) ?_;refine TD.fin ?_;refine au [4] ?_;refine TK.dr [0,1,2,3,4,5,6,7,8,9] [0,1,2,3,4,5,6,7,8,9] ?_;refine TD.mv [0] ?_;refine TD.z [12] Z (ke Z Z) ?_;refine TD.y [13] Z (hq:=zm Z Z zi.h (mC _) Z) (h:=?_);refine TD.mv [0] ?_;refine TD.z [15] Z (ke Z Z) ?_;refine TD.y [16] Z (hq:=zm Z Z zi.h (mC _) Z) (h:=?_);refine TD.z [17] Z (qE Z Z Z dQ) ?_;refine TD.z [14,18] Z (xe Z Z Z) ?_;refine TD.z [12] Z (ke Z Z) ?_;refine TD.s (pend':=[]) [19,20] Z Z (zX Z Z zi.h Z Z mQ Z) ?_;refine TD.fin ?_;refine au [4] ?_;refine TK.dr [0,1,2,3,4,5,6,7,8,9] [0,1,2,3,4,5,6,7,8,9] ?_;refine TD.mv [0] ?_;refine TD.z [21] Z (ke Z Z) ?_;refine TD.y [22] Z (hq:=zm Z Z zi.h (mC _) Z) (h:=?_);refine TD.mv [0] ?_;refine TD.z [24] Z (ke Z Z) ?_;refine TD.y [25] Z (hq:=zm Z Z zi.h (mC _) Z) (h:=?_);refine TD.z [26] Z (q_shL Z Z Z ⟨by decide,by decide⟩ rfl) ?_;refine TD.z [23,27] Z (xe Z Z Z) ?_;refine TD.z [21] Z (ke Z Z) ?_;refine TD.s (pend':=[]) [28,29] Z Z (zX Z Z zi.h Z Z mQ Z) ?_;refine TD.fin ?_;refine au [4,5,1] ?_;refine TK.a Z (ke Z Z) ?_;refine au [9,2,3] ?_;refine TK.rt hret [(jx,_)] ?_;exact ⟨_,(xJ _ _).1,(xJ _ _).2,rfl,rfl⟩
end Go.Vel
namespace Go.Vel
open Go Go.Conc Go.Sort
section
variable {a b i u v q s:Nat} {d d2 d3 d4:Array Int}
theorem ss_go (h:u<b) (hl:(!ltInt d[u]! d[u - 1]!)=true):scanSorted ltInt d b u=scanSorted ltInt d b (u+1):=by
 conv=>lhs; unfold scanSorted
 rw [if_pos (by rw [hl]; simp [h])]
theorem xX (h:¬ u<b\/(!ltInt d[u]! d[u - 1]!)=false):scanSorted ltInt d b u=u:=by
 unfold scanSorted;rw [if_neg (by rcases h with h | h <;> simp [h])]
theorem sd_go (hl:(!ltInt d[q+1]! d[q]!)=false):shiftDown ltInt (q+1) d=shiftDown ltInt q (swp d (q+1) q):=by
 conv=>lhs; unfold shiftDown
 rw [if_neg (by rw [hl]; decide)]
theorem qI (hl:(!ltInt d[q+1]! d[q]!)=true):shiftDown ltInt (q+1) d=d:=by
 unfold shiftDown;rw [if_pos hl]
theorem su_go (h:v<b) (hl:(!ltInt d[v]! d[v - 1]!)=false):shiftUp ltInt b v d=shiftUp ltInt b (v+1) (swp d v (v - 1)):=by
 conv=>lhs; unfold shiftUp
 rw [if_pos h,if_neg (by rw [hl]; decide)]
theorem qL (h:v<b) (hl:(!ltInt d[v]! d[v - 1]!)=true):shiftUp ltInt b v d=d:=by
 unfold shiftUp;rw [if_pos h,if_pos hl]
theorem jab (h:¬ v<b):shiftUp ltInt b v d=d:=by
 unfold shiftUp;rw [if_neg h]
theorem pi_T (hs:scanSorted ltInt d b i=u) (h:u=b):partialIns ltInt a b (s+1) i d=(d,true):=by
 unfold partialIns;simp only [];rw [hs,if_pos h]
theorem pi_F (hs:scanSorted ltInt d b i=u) (h:¬ u=b) (h2:b - a<50):partialIns ltInt a b (s+1) i d=(d,false):=by
 unfold partialIns;simp only [];rw [hs,if_neg h,if_pos h2]
theorem pi_go (hs:scanSorted ltInt d b i=u) (h:¬ u=b) (h2:¬ b - a<50) (h3:d3=if u - a>=2 then shiftDown ltInt (u - 1) (swp d u (u - 1)) else swp d u (u - 1)) (h4:d4=if b - u>=2 then shiftUp ltInt b (u+1) d3 else d3):partialIns ltInt a b (s+1) i d=partialIns ltInt a b s u d4:=by
 conv=>lhs; unfold partialIns
 simp only [];rw [hs,if_neg h,if_neg h2,h4,h3]
end
end Go.Vel
namespace Go.Vel
open Go Go.Conc Go.Proofs
open Go.Sort
theorem qA {main T} (hT:zo tp main T) {gm} {j n a b:Nat} {d:Array Int} (hd:d.size=n) (hn:n<=1000) (hab:a<b) (hb:b<=n) :
  zA tp T gm 193 [.sl j 0 n,intA a,intA b] [(j,.row (d.toList.map intA) 3 1)] (fun r K'=>∃ q,partialInsertionSort ltInt d a b=q/\r=zP q.2/\K'=[(j,.row (q.1.toList.map intA) 3 1)]):=by
 refine zp 133 hT Tryz.func193 fun Y hret=>?_;refine au [4,5,2,3,4,5,1,23,2,3,4,4,5,2,3,13] ?_;refine TK.maskL [0,1,2,7,8] ?_;refine TK.loopN (fun n1 env K=>∃ (s i:Nat) (d1:Array Int),n1=s/\s<=5/\a<i/\i<=b/\d1.size=n/\partialIns ltInt a b s i d1=partialInsertionSort ltInt d a b/\env=.sl j 0 n::intA a::intA b::naL 4 (intA i::intA (5 - (s:Int))::naL 124 [])/\K=[(j,.row (d1.toList.map intA) 3 1)]) 5 ⟨5,a+1,d,rfl,mL _,oQ,oQ,hd,rfl,rfl,rfl⟩ fun n1 env K hI hnext=>?_;obtain ⟨s1,i,d1,hn1,hs5,hai,hib,hs1,heq,rfl,rfl⟩:=hI;subst n1;refine TK.na nQ ?_;refine au [4,4,5,1,6,3,20] ?_;refine ⟨fun hc0=>?_,fun hc0=>?_⟩
 ·obtain ⟨s,rfl⟩:∃ s,s1=s+1:=⟨s1 - 1,by simp at hc0; omega⟩;refine au [12,4,13,4,13] ?_;refine TK.maskL [0,1,2,7,8] ?_;refine TK.loopN (fun n1 env K=>∃ (u:Nat),n1=b - u/\i<=u/\u<=b/\scanSorted ltInt d1 b u=scanSorted ltInt d1 b i/\env=.sl j 0 n::intA a::intA b::naL 4 (intA u::intA (5 - ((s+1:Nat):Int))::naL 124 [])/\K=[(j,.row (d1.toList.map intA) 3 1)]) (b - i) ⟨i,rfl,mL _,hib,rfl,rfl,rfl⟩ fun n1 env K hI hnext1=>?_;obtain ⟨u,rfl,hiu,hub,heqs,rfl,rfl⟩:=hI;refine TK.na nQ ?_;refine au [4,4] ?_;refine' TK.shr (X:=Unit) (D:=fun x=>scanSorted ltInt d1 b i=u) (E:=fun x=>.sl j 0 n::intA a::intA b::naL 4 (intA u::intA (5 - ((s+1:Nat):Int))::naL 124 [])) (KK:=fun x=>[(j,.row (d1.toList.map intA) 3 1)]) ?_ ?_;rotate_left
  ·intro H;refine TK.dr [0,1,2,3,4,5,6,7,8,9,10,11,12,13,14,15] [0,1,2,3,4,5,6,7,8,9,10,11,12,13,14,15] ?_;refine TD.mv [7] ?_;refine TD.mv [2] ?_;refine TD.z [17,18] Z (q_cmp Z Z Z Z) ?_;refine TD.mv [19] ?_;refine TD.sp 20 (fun g5_4=>?_) (fun g5_4=>?_)
   ·have hg:u<b:=by simp at g5_4; omega
    refine TD.mv [0,20] ?_;refine TD.mv [7,20] ?_;refine TD.ix [20,21,22] ?_;refine TD.y [20,23] Z (hq:=zm Z Z zi.h (mC _) (ji (i:=u) oQ oQ)) (h:=?_);refine TD.mv [0,20] ?_;refine TD.mv [7,20] ?_;refine TD.z [20,26] Z (q_sub Z Z Z oQ) ?_;refine TD.ix [20,25,27] ?_;refine TD.y [20,28] Z (hq:=zm Z Z zi.h (mC _) (ji (i:=u - 1) oQ oQ)) (h:=?_);refine TD.cl (pend':=[⟨11,[20,25,27],[]⟩,⟨10,[20,26],[]⟩,⟨9,[7,20],[]⟩,⟨8,[0,20],[]⟩,⟨6,[20,21,22],[]⟩,⟨5,[7,20],[]⟩,⟨4,[0,20],[]⟩,⟨2,[17,18],[]⟩,⟨1,[2],[]⟩,⟨0,[7],[]⟩]) [20,24,29] Z Z Z Z Z (zg9 hT) (fun r1 K2 h3=>⟨?_,?_⟩)
    ·rcases h3 with ⟨rfl,rfl⟩
     all_goals simp
    obtain ⟨rfl,rfl⟩:=h3;try simp only [cA]
    refine TD.norm tQ ?_;refine TD.z [20,30] Z (q_not Z Z) ?_;refine TD.z [20,31] Z (yE Z Z Z) ?_;refine TD.fin ?_;refine au [20] ?_;refine ⟨fun hc1=>?_,fun hc1=>?_⟩
    ·rw [ss_go hg hc1] at heqs;refine au [12,13,5,1,23,2,3,14] ?_;refine TK.maskL [0,1,2,7,8] ?_;refine TK.kp [(j,_)] ?_;exact hnext1 _ _ _ oQ ⟨u+1,rfl,oQ,oQ,heqs,rfl,rfl⟩
    have hf:scanSorted ltInt d1 b i=u:=by rw [<- heqs]; exact xX (.inr hc1)
    refine au [16,4,4] ?_;refine TK.maskL [0,1,2,7,8] ?_;refine TK.kp [(j,_)] ?_;exact H () hf
   have hf:scanSorted ltInt d1 b i=u:=by rw [<- heqs]; exact xX (.inl (by simp at g5_4; omega))
   refine TD.u [0,20] Z ?_;refine TD.u [7,20] Z ?_;refine TD.u [20,21,22] Z ?_;refine TD.u [20,23] Z ?_;refine TD.u [0,20] Z ?_;refine TD.u [7,20] Z ?_;refine TD.u [20,26] Z ?_;refine TD.u [20,25,27] Z ?_;refine TD.u [20,28] Z ?_;refine TD.u [20,24,29] Z ?_;refine TD.u [20,30] Z ?_;refine TD.z [20,31] Z (yf Z Z Z) ?_;refine TD.fin ?_;refine au [19,16,4,4] ?_;refine TK.maskL [0,1,2,7,8] ?_;refine TK.kp [(j,_)] ?_;exact H () hf
  ·rintro _ hsc;refine TK.na nQ ?_;refine au [5,1,1,6,3,20] ?_;refine ⟨fun hc2=>?_,fun hc2=>?_⟩
   ·have hq1:partialInsertionSort ltInt d a b=(d1,true):=heq.symm.trans (pi_T hsc (by simp at hc2; omega));refine au [4,5,2,3] ?_;refine TK.rt hret [(j,_)] ?_;exact ⟨_,hq1,rfl,rfl⟩
   have hub2:¬ u=b:=fun h=>by rw [h] at hc2; simp at hc2
   refine au [12,4,4,5,1,1,24,6,3,20] ?_;refine ⟨fun hc3=>?_,fun hc3=>?_⟩
   ·have hq1:partialInsertionSort ltInt d a b=(d1,false):=heq.symm.trans (pi_F hsc hub2 (by simp at hc3; omega));refine au [4,5,2,3] ?_;refine TK.rt hret [(j,_)] ?_;exact ⟨_,hq1,rfl,rfl⟩
   have h50:¬ b - a<50:=by simp at hc3; omega
   refine au [12,4] ?_;refine TK.dr [0,1,2,3,4,5,6,7,8,9,10,11,12,13,14,15,16,17] [0,1,5,6,7,8,9,10,11,12,13,14,15,2,3,4,16,17] ?_;refine TD.mv [0] ?_;refine TD.mv [7] ?_;refine TD.mv [0] ?_;refine TD.mv [7] ?_;refine TD.z [45] Z (q_sub Z Z Z oQ) ?_;refine TD.mv [0] ?_;refine TD.mv [7] ?_;refine TD.z [48] Z (q_sub Z Z Z oQ) ?_;refine TD.ix [47,49] ?_;refine TD.y [50] Z (hq:=zm Z Z zi.h (mC _) (ji (i:=u - 1) oQ oQ)) (h:=?_);refine TD.mv [0] ?_;refine TD.mv [7] ?_;refine TD.ix [52,53] ?_;refine TD.y [54] Z (hq:=zm Z Z zi.h (mC _) (ji (i:=u) oQ oQ)) (h:=?_);refine TD.ix [42,43] ?_;refine TD.s (pend':=[⟨12,[52,53],[]⟩,⟨11,[7],[]⟩,⟨10,[0],[]⟩,⟨4,[45],[]⟩,⟨3,[7],[]⟩,⟨2,[0],[]⟩]) [51,56] Z Z (zX Z Z zi.h Z Z mQ (jC (k:=u) oQ oQ)) ?_;refine TD.ix [44,46] ?_;refine TD.s (pend':=[]) [55,57] Z Z (zX Z Z zi.h Z Z mQ (jD (i:=u) (j:=u - 1) oQ oQ)) ?_;refine TD.fin ?_;refine au [4,4] ?_;refine' TK.shr (X:=Array Int) (D:=fun x=>x.size=n/\x=if u - a>=2 then shiftDown ltInt (u - 1) (swp d1 u (u - 1)) else swp d1 u (u - 1)) (E:=fun x=>.sl j 0 n::intA a::intA b::naL 4 (intA u::intA (5 - ((s+1:Nat):Int))::naL 124 [])) (KK:=fun x=>[(j,.row (x.toList.map intA) 3 1)]) ?_ ?_;rotate_left
   ·intro H;obtain ⟨d2,hd2⟩:∃ d2,d2=swp d1 u (u - 1):=⟨_,rfl⟩;have hs2:d2.size=n:=by rw [hd2]; exact jE hs1
    rw [<- hd2];refine au [5,1,1,24,6,3,20] ?_;refine ⟨fun hc4=>?_,fun hc4=>?_⟩
    ·have h2:u - a>=2:=by simp at hc4; omega
     refine au [4,5,1,24,2,3,13] ?_;refine TK.maskL [0,1,2,7,8,9] ?_;refine TK.loopN (fun n1 env K=>∃ (v:Nat) (d3:Array Int),n1=v/\v<=u - 1/\d3.size=n/\shiftDown ltInt v d3=shiftDown ltInt (u - 1) d2/\env=.sl j 0 n::intA a::intA b::naL 4 (intA u::intA (5 - ((s+1:Nat):Int))::intA v::naL 123 [])/\K=[(j,.row (d3.toList.map intA) 3 1)]) (u - 1) ⟨u - 1,d2,rfl,mL _,hs2,rfl,by rw [show (u:Int) - 1=((u - 1:Nat):Int) by omega] <;> rfl,rfl⟩ fun n1 env K hI hnext2=>?_;obtain ⟨v,d3,hnv,hvu,hs3,heq3,rfl,rfl⟩:=hI;subst n1;refine TK.na nQ ?_;refine au [4,4,5,1,6,3,20] ?_;refine ⟨fun hc5=>?_,fun hc5=>?_⟩
     ·obtain ⟨q,rfl⟩:∃ q,v=q+1:=⟨v - 1,by simp at hc5; omega⟩;refine au [12,4,13,4,4] ?_;refine TK.dr [0,1,2,3,4,5,6,7,8,9,10] [0,1,2,3,4,5,6,7,8,9,10] ?_;refine TD.mv [0] ?_;refine TD.mv [9] ?_;refine TD.ix [68,69] ?_;refine TD.y [70] Z (hq:=zm Z Z zi.h (mC _) (ji (i:=q+1) oQ oQ)) (h:=?_);refine TD.mv [0] ?_;refine TD.mv [9] ?_;refine TD.z [73] Z (q_sub Z Z Z oQ) ?_;refine TD.ix [72,74] ?_;refine TD.y [75] Z (hq:=zm Z Z zi.h (mC _) (ji (i:=q) oQ oQ)) (h:=?_);refine TD.cl (pend':=[⟨7,[72,74],[]⟩,⟨6,[73],[]⟩,⟨5,[9],[]⟩,⟨4,[0],[]⟩,⟨2,[68,69],[]⟩,⟨1,[9],[]⟩,⟨0,[0],[]⟩]) [71,76] Z Z Z Z Z (zg9 hT) (fun r16 K17 h18=>⟨?_,?_⟩)
      ·rcases h18 with ⟨rfl,rfl⟩
       all_goals simp
      obtain ⟨rfl,rfl⟩:=h18;try simp only [cA]
      refine TD.norm tQ ?_;refine TD.z [77] Z (q_not Z Z) ?_;refine TD.fin ?_;refine au [20] ?_;refine ⟨fun hc6=>?_,fun hc6=>?_⟩
      ·have hx3:d3.size=n/\d3=if u - a>=2 then shiftDown ltInt (u - 1) d2 else d2:=⟨hs3,by rw [if_pos h2,<- heq3]; exact (qI hc6).symm⟩
       refine au [16,4] ?_;refine TK.maskL [0,1,2,7,8] ?_;refine TK.kp [(j,_)] ?_;exact H _ (hd2 ▸ hx3)
      refine au [12] ?_;refine TK.dr [0,1,2,3,4,5,6,7,8,9,10,11,12,13,14,15,16,17] [0,1,5,6,7,8,9,10,11,12,13,14,15,2,3,4,16,17] ?_;refine TD.mv [0] ?_;refine TD.mv [9] ?_;refine TD.mv [0] ?_;refine TD.mv [9] ?_;refine TD.z [82] Z (q_sub Z Z Z oQ) ?_;refine TD.mv [0] ?_;refine TD.mv [9] ?_;refine TD.z [85] Z (q_sub Z Z Z oQ) ?_;refine TD.ix [84,86] ?_;refine TD.y [87] Z (hq:=zm Z Z zi.h (mC _) (ji (i:=q) oQ oQ)) (h:=?_);refine TD.mv [0] ?_;refine TD.mv [9] ?_;refine TD.ix [89,90] ?_;refine TD.y [91] Z (hq:=zm Z Z zi.h (mC _) (ji (i:=q+1) oQ oQ)) (h:=?_);refine TD.ix [79,80] ?_;refine TD.s (pend':=[⟨12,[89,90],[]⟩,⟨11,[9],[]⟩,⟨10,[0],[]⟩,⟨4,[82],[]⟩,⟨3,[9],[]⟩,⟨2,[0],[]⟩]) [88,93] Z Z (zX Z Z zi.h Z Z mQ (jC (k:=q+1) oQ oQ)) ?_;refine TD.ix [81,83] ?_;refine TD.s (pend':=[]) [92,94] Z Z (zX Z Z zi.h Z Z mQ (jD (i:=q+1) (j:=q) oQ oQ)) ?_;refine TD.fin ?_;refine au [14,5,1,24,2,3] ?_;refine TK.maskL [0,1,2,7,8,9] ?_;refine TK.kp [(j,_)] ?_;exact hnext2 _ _ _ oQ ⟨q,swp d3 (q+1) q,rfl,oQ,jE hs3,(sd_go hc6).symm.trans heq3,by rw [show ((q+1:Nat):Int) - 1=(q:Int) by omega]; rfl,rfl⟩
     obtain rfl:v=0:=by simp at hc5; omega
     have hx3:d3.size=n/\d3=if u - a>=2 then shiftDown ltInt (u - 1) d2 else d2:=⟨hs3,by rw [if_pos h2,<- heq3]; rfl⟩
     refine au [16,4] ?_;refine TK.maskL [0,1,2,7,8] ?_;refine TK.kp [(j,_)] ?_;exact H _ (hd2 ▸ hx3)
    have hx3:d2.size=n/\d2=if u - a>=2 then shiftDown ltInt (u - 1) d2 else d2:=⟨hs2,(if_neg (by simp at hc4; omega)).symm⟩
    refine au [12,4] ?_;refine TK.maskL [0,1,2,7,8] ?_;refine TK.kp [(j,_)] ?_;exact H _ (hd2 ▸ hx3)
   ·rintro d3 ⟨hs3,hd3e⟩;refine TK.na nQ ?_;refine' TK.shr (X:=Array Int) (D:=fun x=>x.size=n/\x=if b - u>=2 then shiftUp ltInt b (u+1) d3 else d3) (E:=fun x=>.sl j 0 n::intA a::intA b::naL 4 (intA u::intA (5 - ((s+1:Nat):Int))::naL 124 [])) (KK:=fun x=>[(j,.row (x.toList.map intA) 3 1)]) ?_ ?_;rotate_left
    ·intro H;refine au [5,1,1,24,6,3,20] ?_;refine ⟨fun hc7=>?_,fun hc7=>?_⟩
     ·have h3:b - u>=2:=by simp at hc7; omega
      refine au [4,5,1,23,2,3,13] ?_;refine TK.maskL [0,1,2,7,8,10] ?_;refine TK.loopN (fun n1 env K=>∃ (v:Nat) (d4:Array Int),n1=b - v/\u+1<=v/\v<=b/\d4.size=n/\shiftUp ltInt b v d4=shiftUp ltInt b (u+1) d3/\env=.sl j 0 n::intA a::intA b::naL 4 (intA u::intA (5 - ((s+1:Nat):Int))::.any::intA v::naL 122 [])/\K=[(j,.row (d4.toList.map intA) 3 1)]) (b - (u+1)) ⟨u+1,d3,rfl,mL _,oQ,hs3,rfl,rfl,rfl⟩ fun n1 env K hI hnext3=>?_;obtain ⟨v,d4,rfl,huv,hvb,hs4,heq4,rfl,rfl⟩:=hI;refine TK.na nQ ?_;refine au [4,4,5,1,1,6,3,20] ?_;refine ⟨fun hc8=>?_,fun hc8=>?_⟩
      ·have hvl:v<b:=by simp at hc8; omega
       refine au [12,4,13,4,4] ?_;refine TK.dr [0,1,2,3,4,5,6,7,8,9,10] [0,1,2,3,4,5,6,7,8,9,10] ?_;refine TD.mv [0] ?_;refine TD.mv [10] ?_;refine TD.ix [106,107] ?_;refine TD.y [108] Z (hq:=zm Z Z zi.h (mC _) (ji (i:=v) oQ oQ)) (h:=?_);refine TD.mv [0] ?_;refine TD.mv [10] ?_;refine TD.z [111] Z (q_sub Z Z Z oQ) ?_;refine TD.ix [110,112] ?_;refine TD.y [113] Z (hq:=zm Z Z zi.h (mC _) (ji (i:=v - 1) oQ oQ)) (h:=?_);refine TD.cl (pend':=[⟨7,[110,112],[]⟩,⟨6,[111],[]⟩,⟨5,[10],[]⟩,⟨4,[0],[]⟩,⟨2,[106,107],[]⟩,⟨1,[10],[]⟩,⟨0,[0],[]⟩]) [109,114] Z Z Z Z Z (zg9 hT) (fun r25 K26 h27=>⟨?_,?_⟩)
       ·rcases h27 with ⟨rfl,rfl⟩
        all_goals simp
       obtain ⟨rfl,rfl⟩:=h27;try simp only [cA]
       refine TD.norm tQ ?_;refine TD.z [115] Z (q_not Z Z) ?_;refine TD.fin ?_;refine au [20] ?_;refine ⟨fun hc9=>?_,fun hc9=>?_⟩
       ·have hx4:d4.size=n/\d4=if b - u>=2 then shiftUp ltInt b (u+1) d3 else d3:=⟨hs4,by rw [if_pos h3,<- heq4]; exact (qL hvl hc9).symm⟩
        refine au [16,14] ?_;refine TK.maskL [0,1,2,7,8] ?_;refine TK.kp [(j,_)] ?_;exact H _ hx4
       refine au [12] ?_;refine TK.dr [0,1,2,3,4,5,6,7,8,9,10,11,12,13,14,15,16,17] [0,1,5,6,7,8,9,10,11,12,13,14,15,2,3,4,16,17] ?_;refine TD.mv [0] ?_;refine TD.mv [10] ?_;refine TD.mv [0] ?_;refine TD.mv [10] ?_;refine TD.z [120] Z (q_sub Z Z Z oQ) ?_;refine TD.mv [0] ?_;refine TD.mv [10] ?_;refine TD.z [123] Z (q_sub Z Z Z oQ) ?_;refine TD.ix [122,124] ?_;refine TD.y [125] Z (hq:=zm Z Z zi.h (mC _) (ji (i:=v - 1) oQ oQ)) (h:=?_);refine TD.mv [0] ?_;refine TD.mv [10] ?_;refine TD.ix [127,128] ?_;refine TD.y [129] Z (hq:=zm Z Z zi.h (mC _) (ji (i:=v) oQ oQ)) (h:=?_);refine TD.ix [117,118] ?_;refine TD.s (pend':=[⟨12,[127,128],[]⟩,⟨11,[10],[]⟩,⟨10,[0],[]⟩,⟨4,[120],[]⟩,⟨3,[10],[]⟩,⟨2,[0],[]⟩]) [126,131] Z Z (zX Z Z zi.h Z Z mQ (jC (k:=v) oQ oQ)) ?_;refine TD.ix [119,121] ?_;refine TD.s (pend':=[]) [130,132] Z Z (zX Z Z zi.h Z Z mQ (jD (i:=v) (j:=v - 1) oQ oQ)) ?_;refine TD.fin ?_;refine au [14,5,1,23,2,3] ?_;refine TK.maskL [0,1,2,7,8,10] ?_;refine TK.kp [(j,_)] ?_;exact hnext3 _ _ _ oQ ⟨v+1,swp d4 v (v - 1),rfl,oQ,oQ,jE hs4,(su_go hvl hc9).symm.trans heq4,rfl,rfl⟩
      have hx4:d4.size=n/\d4=if b - u>=2 then shiftUp ltInt b (u+1) d3 else d3:=⟨hs4,by rw [if_pos h3,<- heq4]; exact (jab (by simp at hc8; omega)).symm⟩
      refine au [16,14] ?_;refine TK.maskL [0,1,2,7,8] ?_;refine TK.kp [(j,_)] ?_;exact H _ hx4
     have hx4:d3.size=n/\d3=if b - u>=2 then shiftUp ltInt b (u+1) d3 else d3:=⟨hs3,(if_neg (by simp at hc7; omega)).symm⟩
     refine au [12,14] ?_;refine TK.maskL [0,1,2,7,8] ?_;refine TK.kp [(j,_)] ?_;exact H _ hx4
    ·rintro d4 ⟨hd4,hd4e⟩;refine TK.na nQ ?_;refine au [5,1,23,2,3] ?_;refine TK.maskL [0,1,2,7,8] ?_;refine TK.kp [(j,_)] ?_;exact hnext _ _ _ oQ ⟨s,u,d4,rfl,oQ,oQ,oQ,hd4,(pi_go hsc hub2 h50 hd3e hd4e).symm.trans heq,by rw [show (5:Int) - ((s+1:Nat):Int)+1=5 - (s:Int) by omega] <;> rfl,rfl⟩
 obtain rfl:s1=0:=by simp at hc0; omega
 have hq1:partialInsertionSort ltInt d a b=(d1,false):=heq.symm;refine au [16,4,5,2,3] ?_;refine TK.rt hret [(j,_)] ?_;exact ⟨_,hq1,rfl,rfl⟩
instance:Cal tp 219:={}
instance:Cal tp 220:={}
instance:TyZA tp 263 [.v (.int .u64 0)]:={}
instance:Und tp 263 (.int .u64):={}
theorem xP {main T} (hT:zo tp main T) {gm} {j n a b:Nat} {d:Array Int} (hd:d.size=n) (hn:n<256) (h8:a+8<=b) (hb:b<=n) :
  zA tp T gm 190 [.sl j 0 n,intA a,intA b] [(j,.row (d.toList.map intA) 3 1)] (fun r K'=>∃ d',PermIn a b d d'/\K'=[(j,.row (d'.toList.map intA) 3 1)]):=by
 refine zp 65 hT Tryz.func190 fun Y hret=>?_;refine au [4,5,1,1,24,2,3,4] ?_;rw [show (b:Int) - (a:Int)=((b - a:Nat):Int) by omega];refine au [5,1,6,3,20] ?_;refine ⟨fun hc0=>?_,fun hc0=>?_⟩
 ·refine au [4,5,1] ?_;refine TK.a Z (yU Z Z Und.h Und.h (zbZ (n:=b - a) oQ)) ?_;refine au [22] ?_;intro jx hjx;refine au [17,3,4,5,1] ?_;refine TK.cl Z Z Z Z (x8 hT (n:=b - a) oQ oQ) ?_;rintro r1 K2 ⟨M,hM1,hM2,rfl,rfl⟩;refine au [2,3,4,5,1,1] ?_;refine TK.a Z (jJ Z Z Z oQ oQ oQ) ?_;refine TK.a Z (q_mul Z Z Z oQ) ?_;refine au [23,24,2,3,13] ?_;refine TK.maskL [0,1,6,7,8,9] ?_;obtain ⟨s0,hs0⟩:∃ s0:Nat,s0=a+(b - a) / 4*2 - 1:=⟨_,rfl⟩;refine TK.kp [(j,_),(jx,_)] ?_;refine TK.loopN (fun n1 env K=>∃ (t:Nat) (x:Int) (d1:Array Int),n1=3 - t/\t<=3/\PermIn a b d d1/\d1.size=n/\env=.sl j 0 n::intA a::naL 4 (intA ((b - a:Nat):Int)::.ptr jx 0::.v (.int .u64 (M:Int))::intA (s0+t:Nat)::naL 55 [])/\K=[(j,.row (d1.toList.map intA) 3 1),(jx,.cells [.v (.int .u64 x)] 263 true)]) 3 ⟨0,_,d,rfl,oQ,permIn_refl d a b,hd,by rw [show (a:Int)+((b - a:Nat):Int) / 4*2 - 1=((s0+0:Nat):Int) by omega] <;> rfl,rfl⟩ fun n1 env K hI hnext=>?_;obtain ⟨t,x,d1,rfl,ht,hperm,hs1,rfl,rfl⟩:=hI;refine TK.na nQ ?_;refine au [4,4,5,1,1,1] ?_;refine TK.a Z (jJ Z Z Z oQ oQ oQ) ?_;refine TK.a Z (q_mul Z Z Z oQ) ?_;refine au [23,23,6,3,20] ?_;refine ⟨fun hc1=>?_,fun hc1=>?_⟩
  ·have ht3:t<3:=by simp at hc1; omega
   refine au [12,4,13,4,5] ?_;refine TK.cl Z Z Z Z (x7 hT) ?_;rintro r4 K5 ⟨y,hy0,hy1,rfl,rfl⟩;refine au [1] ?_;refine TK.a Z (qF Z Z Z oQ) ?_;rw [show (M:Int) - 1=((M - 1:Nat):Int) by omega];refine TK.a Z (qD Z Z Z) ?_;refine' TK.shr (X:=Nat) (D:=fun x=>x<b - a) (E:=fun x=>.sl j 0 n::intA a::naL 4 (intA ((b - a:Nat):Int)::.ptr jx 0::.v (.int .u64 (M:Int))::intA (s0+t:Nat)::intA x::naL 54 [])) (KK:=fun x=>[(j,.row (d1.toList.map intA) 3 1),(jx,.cells [.v (.int .u64 y)] 263 true)]) ?_ ?_;rotate_left
   ·intro H;have hw:=qo y (b:=M - 1) oQ;obtain ⟨w,hwe⟩:∃ w:Nat,andW y ((M - 1:Nat):Int)=(w:Int):=⟨(andW y ((M - 1:Nat):Int)).toNat,oQ⟩;rw [hwe] at hw ⊢;refine TK.a Z (yU Z Z Und.h Und.h (wK oQ)) ?_;refine au [2,3,4,4,5,1,1,6,3,20] ?_;refine ⟨fun hc2=>?_,fun hc2=>?_⟩
    ·have hwl:b - a<=w:=by simp at hc2; omega
     refine au [5,1,1,24] ?_;rw [show (w:Int) - ((b - a:Nat):Int)=((w - (b - a):Nat):Int) by omega];refine au [2,3] ?_;refine TK.maskL [0,1,6,7,8,9,10] ?_;refine TK.kp [(j,_),(jx,_)] ?_;exact H _ oQ
    have hwl:w<b - a:=by simp at hc2; omega
    refine au [12] ?_;refine TK.maskL [0,1,6,7,8,9,10] ?_;refine TK.kp [(j,_),(jx,_)] ?_;exact H _ oQ
   ·rintro o ho;refine TK.na nQ ?_;refine TK.dr [0,1,2,3,4,5,6,7,8,9,10,11,12,13,14,15,16,17,18,19] [0,1,6,7,8,9,10,11,12,13,14,15,16,17,2,3,4,5,18,19] ?_;refine TD.mv [0] ?_;refine TD.mv [9] ?_;refine TD.mv [0] ?_;refine TD.mv [1] ?_;refine TD.mv [10] ?_;refine TD.z [50,51] Z (q_add Z Z Z oQ) ?_;refine TD.mv [0] ?_;refine TD.mv [1] ?_;refine TD.mv [10] ?_;refine TD.z [54,55] Z (q_add Z Z Z oQ) ?_;refine TD.ix [53,56] ?_;refine TD.y [57] Z (hq:=zm Z Z zi.h (mC _) (ji (i:=a+o) oQ oQ)) (h:=?_);refine TD.mv [0] ?_;refine TD.mv [9] ?_;refine TD.ix [59,60] ?_;refine TD.y [61] Z (hq:=zm Z Z zi.h (mC _) (ji (i:=s0+t) oQ oQ)) (h:=?_);refine TD.ix [47,48] ?_;refine TD.s (pend':=[⟨14,[59,60],[]⟩,⟨13,[9],[]⟩,⟨12,[0],[]⟩,⟨5,[50,51],[]⟩,⟨4,[10],[]⟩,⟨3,[1],[]⟩,⟨2,[0],[]⟩]) [58,63] Z Z (zX Z Z zi.h Z Z mQ (jC (k:=s0+t) oQ oQ)) ?_;refine TD.ix [49,52] ?_;refine TD.s (pend':=[]) [62,64] Z Z (zX Z Z zi.h Z Z mQ (jD (i:=s0+t) (j:=a+o) oQ oQ)) ?_;refine TD.fin ?_;refine au [14,5,1,23,2,3] ?_;refine TK.maskL [0,1,6,7,8,9] ?_;refine TK.kp [(j,_),(jx,_)] ?_;exact hnext _ _ _ oQ ⟨t+1,y,swp d1 (s0+t) (a+o),rfl,oQ,permIn_trans _ _ _ a b hperm (swp_permIn d1 a b _ _ oQ oQ oQ oQ oQ),jE hs1,rfl,rfl⟩
  refine au [16] ?_;refine TK.rt0 hret [(j,_)] ?_;exact ⟨d1,hperm,rfl⟩
 simp at hc0; omega
instance:Cal tp 189:={}
instance:Cal tp 190:={}
instance:Cal tp 191:={}
instance:Cal tp 192:={}
instance:Cal tp 193:={}
instance:Cal tp 195:={}
instance:Cal tp 196:={}
theorem qB {main T} (hT:zo tp main T) {gm} {j n:Nat} (hn:n<256):∀ (m a b:Nat) (lim:Int) (d:Array Int),b - a=m->d.size=n->a<=b->b<=n->0<=lim/\lim<=1000->Below ltInt a b d ->
  zA tp T gm 160 [.sl j 0 n,intA a,intA b,intA lim] [(j,.row (d.toList.map intA) 3 1)] (fun r K'=>∃ d',PermIn a b d d'/\SortedIn ltInt a b d'/\K'=[(j,.row (d'.toList.map intA) 3 1)]):=by
 intro m
 induction m using Nat.strongRecOn with | ind m ih=>?_
 intro a b lim d hm hd hab hb hlim hB;refine zp 134 hT Tryz.func160 fun Y hret=>?_;refine au [4,5,2,3,4,5,2,3,13] ?_;refine TK.maskL [0,1,2,3,8,9] ?_;refine TK.loopN (fun n1 env K=>∃ (u v:Nat) (l:Int) (w1 w2:Bool) (d1:Array Int),n1=v - u/\v - u<=m/\u<=v/\v<=n/\(0<=l/\l<=1000)/\d1.size=n/\Below ltInt u v d1/\(∀ R,PermIn u v d1 R->SortedIn ltInt u v R->PermIn a b d R/\SortedIn ltInt a b R)/\env=.sl j 0 n::intA u::intA v::intA l::naL 4 (zP w1::zP w2::naL 124 [])/\K=[(j,.row (d1.toList.map intA) 3 1)]) (b - a) ⟨a,b,lim,true,true,d,rfl,oQ,hab,hb,hlim,hd,hB,fun R h1 h2=>⟨h1,h2⟩,rfl,rfl⟩ fun n1 env K hI hnext=>?_;obtain ⟨u,v,l,w1,w2,d1,rfl,hm1,huv,hvn,hl,hs1,hB1,hfin,rfl,rfl⟩:=hI;refine TK.na nQ ?_;refine au [13,4,5,1,1,24,2,3,4,4] ?_;rw [show (v:Int) - (u:Int)=((v - u:Nat):Int) by omega];refine au [5,1,6,3,20] ?_;refine ⟨fun hc0=>?_,fun hc0=>?_⟩
 ·have hq:=insertionSort_holds swo_ltInt d1 u v huv oQ;have hz:=hfin _ hq.1 hq.2;refine au [4,5,1,1,1] ?_;refine TK.cl Z Z Z Z (qv hT (d:=d1) hs1 oQ huv hvn) ?_;rintro r1 K2 rfl;refine au [3] ?_;refine TK.rt hret [(j,_)] ?_;exact ⟨_,hz.1,hz.2,rfl⟩
 have h12:12<v - u:=by simp at hc0; omega
 refine au [12,4,4,5,1,6,3,20] ?_;refine ⟨fun hc1=>?_,fun hc1=>?_⟩
 ·have hq:=heapSort_holds swo_ltInt d1 u v huv oQ;have hz:=hfin _ hq.1 hq.2;refine au [4,5,1,1,1] ?_;refine TK.cl Z Z Z Z (x6 hT (d:=d1) hs1 oQ oQ hvn) ?_;rintro r4 K5 rfl;refine au [3] ?_;refine TK.rt hret [(j,_)] ?_;exact ⟨_,hz.1,hz.2,rfl⟩
 refine' TK.shr (X:=Int×Array Int) (D:=fun x=>(0<=x.1/\x.1<=1000)/\PermIn u v d1 x.2) (E:=fun x=>.sl j 0 n::intA u::intA v::intA x.1::naL 4 (zP w1::zP w2::intA ((v - u:Nat):Int)::naL 123 [])) (KK:=fun x=>[(j,.row (x.2.toList.map intA) 3 1)]) ?_ ?_;rotate_left
 ·intro H;have hl0:l≠0:=fun h=>by rw [h] at hc1; simp at hc1
  refine au [12,4,4,5,1,30,3,20] ?_;refine ⟨fun hc2=>?_,fun hc2=>?_⟩
  ·refine au [4,5,1,1,1] ?_;refine TK.cl Z Z Z Z (xP hT (d:=d1) hs1 hn oQ hvn) ?_;rintro r7 K8 ⟨d2,hp2,rfl⟩;refine au [3,5,1,24,2,3,4] ?_;refine TK.maskL [0,1,2,3,8,9,10] ?_;refine TK.kp [(j,_)] ?_;exact H (l - 1,d2) ⟨by omega,hp2⟩
  have hp2:=permIn_refl d1 u v;refine au [12,4] ?_;refine TK.maskL [0,1,2,3,8,9,10] ?_;refine TK.kp [(j,_)] ?_;exact H (l,d1) ⟨by omega,hp2⟩
 ·rintro ⟨l2,d2⟩ ⟨hl2,hp2⟩; dsimp only at hl2 hp2 ⊢; have hs2:d2.size=n:=hp2.1.trans hs1; have hB2:=hB1.perm oQ hp2; have hfin2:∀ R,PermIn u v d2 R->SortedIn ltInt u v R->PermIn a b d R/\SortedIn ltInt a b R:=fun R h1 h2=>hfin R (permIn_trans _ _ _ u v hp2 h1) h2;refine TK.na nQ ?_;refine' TK.shr (X:=Nat×Int×Array Int) (D:=fun x=>(u<=x.1/\x.1<v)/\PermIn u v d2 x.2.2) (E:=fun x=>.sl j 0 n::intA u::intA v::intA l2::naL 4 (zP w1::zP w2::intA ((v - u:Nat):Int)::intA x.1::intA x.2.1::naL 121 [])) (KK:=fun x=>[(j,.row (x.2.2.toList.map intA) 3 1)]) ?_ ?_;rotate_left
  ·intro H;refine au [5,1,1,1] ?_;refine TK.cl Z Z Z Z (qC hT (d:=d2) hs2 oQ oQ hvn) ?_;rintro r214 K215 ⟨p,hh,hp1,hpv,rfl,rfl⟩;refine au [1,10,10,2,2,3,4,4,5,1,6,3,20] ?_;refine ⟨fun hc3=>?_,fun hc3=>?_⟩
   ·have hp3:=reverseRange_holds d2 u v huv oQ;refine au [4,5,1,1,1] ?_;refine TK.cl Z Z Z Z (qG hT (d:=d2) hs2 oQ oQ hvn) ?_;rintro r217 K218 rfl;refine au [3,4,5,1,24,1,1,24,24,2] ?_;rw [show (v:Int) - 1 - ((p:Int) - (u:Int))=((v - 1 - (p - u):Nat):Int) by omega];refine au [3,5,2,3,4,4] ?_;refine TK.maskL [0,1,2,3,8,9,10,11,12] ?_;refine TK.kp [(j,_)] ?_;exact H (v - 1 - (p - u),1,_) ⟨by omega,hp3⟩
   have hp3:=permIn_refl d2 u v;refine au [12,4,4] ?_;refine TK.maskL [0,1,2,3,8,9,10,11,12] ?_;refine TK.kp [(j,_)] ?_;exact H (p,hh,d2) ⟨by omega,hp3⟩
  ·rintro ⟨p,hh,d3⟩ ⟨⟨hpu,hpv⟩,hp3⟩; dsimp only at hpu hpv hp3 ⊢; have hs3:d3.size=n:=hp3.1.trans hs2; have hB3:=hB2.perm oQ hp3; have hfin3:∀ R,PermIn u v d3 R->SortedIn ltInt u v R->PermIn a b d R/\SortedIn ltInt a b R:=fun R h1 h2=>hfin2 R (permIn_trans _ _ _ u v hp3 h1) h2;refine TK.na nQ ?_;refine' TK.shr (X:=Array Int) (D:=fun x=>PermIn u v d3 x) (E:=fun x=>.sl j 0 n::intA u::intA v::intA l2::naL 4 (zP w1::zP w2::intA ((v - u:Nat):Int)::intA p::naL 122 [])) (KK:=fun x=>[(j,.row (x.toList.map intA) 3 1)]) ?_ ?_;rotate_left
   ·intro H;refine au [5,1,1] ?_;refine TK.sp 62 (fun g15_2=>?_) (fun g15_2=>?_)
    ·refine au [1,26,1] ?_;refine TK.sp 65 (fun g15_5=>?_) (fun g15_5=>?_)
     ·refine au [1,6,26,3,20] ?_;refine ⟨fun hc4=>?_,fun hc4=>?_⟩
      ·refine au [4,5,1,1,1] ?_;refine TK.cl Z Z Z Z (qA hT (d:=d3) hs3 oQ oQ hvn) ?_;rintro r319 K320 ⟨q,hqe,rfl,rfl⟩;refine au [3,20] ?_;refine ⟨fun hc5=>?_,fun hc5=>?_⟩
       ·have hpi:=partialInsertionSort_holds swo_ltInt d3 u v oQ oQ hB3;rw [hqe] at hpi;have hz:=hfin3 _ hpi.1 (hpi.2 hc5);refine au [] ?_;refine TK.rt hret [(j,_)] ?_;exact ⟨_,hz.1,hz.2,rfl⟩
       have hp4:=(partialInsertionSort_holds swo_ltInt d3 u v oQ oQ hB3).1;rw [hqe] at hp4;refine au [12,4,4] ?_;refine TK.maskL [0,1,2,3,8,9,10,11] ?_;refine TK.kp [(j,_)] ?_;exact H _ hp4
      have hp4:=permIn_refl d3 u v;refine au [12,4,4] ?_;refine TK.maskL [0,1,2,3,8,9,10,11] ?_;refine TK.kp [(j,_)] ?_;exact H _ hp4
     have hp4:=permIn_refl d3 u v;refine au [11,11,25,3,19,12,4,4] ?_;refine TK.maskL [0,1,2,3,8,9,10,11] ?_;refine TK.kp [(j,_)] ?_;exact H _ hp4
    have hp4:=permIn_refl d3 u v;refine au [11,25,1,11,11,25,3,19,12,4,4] ?_;refine TK.maskL [0,1,2,3,8,9,10,11] ?_;refine TK.kp [(j,_)] ?_;exact H _ hp4
   ·rintro d4 hp4; have hs4:d4.size=n:=hp4.1.trans hs3; have hB4:=hB3.perm oQ hp4; have hfin4:∀ R,PermIn u v d4 R->SortedIn ltInt u v R->PermIn a b d R/\SortedIn ltInt a b R:=fun R h1 h2=>hfin3 R (permIn_trans _ _ _ u v hp4 h1) h2;refine TK.na nQ ?_;refine' TK.shr (X:=Unit) (D:=fun x=>True) (E:=fun x=>.sl j 0 n::intA u::intA v::intA l2::naL 4 (zP w1::zP w2::intA ((v - u:Nat):Int)::intA p::naL 122 [])) (KK:=fun x=>[(j,.row (d4.toList.map intA) 3 1)]) ?_ ?_;rotate_left
    ·intro H;refine TK.dr [0,1,2,3,4,5,6,7,8,9,10,11,12,13,14] [0,1,2,3,4,5,6,7,8,9,10,11,12,13,14] ?_;refine TD.mv [1] ?_;refine TD.z [73] Z (q_cmp Z Z Z Z) ?_;refine TD.mv [74] ?_;refine TD.sp 75 (fun g17_3=>?_) (fun g17_3=>?_)
     ·have hu0:0<u:=by simp at g17_3; omega
      refine TD.mv [0,75] ?_;refine TD.mv [1,75] ?_;refine TD.z [75,77] Z (q_sub Z Z Z oQ) ?_;refine TD.ix [75,76,78] ?_;refine TD.y [75,79] Z (hq:=zm Z Z zi.h (mC _) (ji (i:=u - 1) oQ oQ)) (h:=?_);refine TD.mv [0,75] ?_;refine TD.mv [11,75] ?_;refine TD.ix [75,81,82] ?_;refine TD.y [75,83] Z (hq:=zm Z Z zi.h (mC _) (ji (i:=p) oQ oQ)) (h:=?_);refine TD.cl (pend':=[⟨10,[75,81,82],[]⟩,⟨9,[11,75],[]⟩,⟨8,[0,75],[]⟩,⟨6,[75,76,78],[]⟩,⟨5,[75,77],[]⟩,⟨4,[1,75],[]⟩,⟨3,[0,75],[]⟩,⟨1,[73],[]⟩,⟨0,[1],[]⟩]) [75,80,84] Z Z Z Z Z (zg9 hT) (fun r394 K395 h396=>⟨?_,?_⟩)
      ·rcases h396 with ⟨rfl,rfl⟩
       all_goals simp
      obtain ⟨rfl,rfl⟩:=h396;try simp only [cA]
      refine TD.norm tQ ?_;refine TD.z [75,85] Z (q_not Z Z) ?_;refine TD.z [75,86] Z (yE Z Z Z) ?_;refine TD.fin ?_;refine au [20] ?_;refine ⟨fun hc6=>?_,fun hc6=>?_⟩
      ·have hnl:ltInt d4[u - 1]! d4[p]! =false:=by cases hh:ltInt d4[u - 1]! d4[p]! with
        | false=>rfl
        | true=>exact absurd (show (!ltInt d4[u - 1]! d4[p]!)=true from hc6) (by rw [hh]; decide)
       refine au [4,5,1,1,1,1] ?_;refine TK.cl Z Z Z Z (xL hT (d:=d4) hs4 oQ hpu hpv hvn) ?_;rintro r397 K398 ⟨q,hqe,rfl,rfl⟩;refine au [] ?_;obtain ⟨hr1,hr2,hr3,hr4,hr5⟩:=round_eq swo_ltInt (partitionEqual_holds ltInt) hu0 hpu hpv oQ hB4 hnl (show partitionEqual ltInt d4 u v p=(q.1,q.2) from hqe);refine au [2,3,4,5,1,2,3,16] ?_;refine TK.maskL [0,1,2,3,8,9] ?_;refine TK.kp [(j,_)] ?_;exact hnext _ _ _ oQ ⟨q.1,v,l2,w1,w2,q.2,rfl,oQ,oQ,hvn,hl2,hr3.trans hs4,hr4,fun R h1 h2=>(hr5 R h1 h2).elim fun h3 h4=>hfin4 R h3 h4,rfl,rfl⟩
      refine au [12,4] ?_;refine TK.maskL [0,1,2,3,8,9,10,11] ?_;refine TK.kp [(j,_)] ?_;exact H () trivial
     refine TD.u [0,75] Z ?_;refine TD.u [1,75] Z ?_;refine TD.u [75,77] Z ?_;refine TD.u [75,76,78] Z ?_;refine TD.u [75,79] Z ?_;refine TD.u [0,75] Z ?_;refine TD.u [11,75] Z ?_;refine TD.u [75,81,82] Z ?_;refine TD.u [75,83] Z ?_;refine TD.u [75,80,84] Z ?_;refine TD.u [75,85] Z ?_;refine TD.z [75,86] Z (yf Z Z Z) ?_;refine TD.fin ?_;refine au [19,12,4] ?_;refine TK.maskL [0,1,2,3,8,9,10,11] ?_;refine TK.kp [(j,_)] ?_;exact H () trivial
    ·rintro _ _;refine TK.na nQ ?_;refine au [5,1,1,1,1] ?_;refine TK.cl Z Z Z Z (x9 hT (d:=d4) hs4 oQ hpu hpv hvn) ?_;rintro r409 K410 ⟨q,hqe,rfl,rfl⟩;refine au [] ?_;obtain ⟨hr1,hr2,hr3,hr4,hr5,hr6,hr7⟩:=round_part swo_ltInt (partition_holds ltInt) hpu hpv oQ hB4 (show partition ltInt d4 u v p=(q.1,q.2.1,q.2.2) from hqe);refine au [1,10,10,2,2,3,4,5,1,2,3,4,5,1,1,24,1,1,24,2,2,3,4] ?_;rw [show (q.1:Int) - (u:Int)=((q.1 - u:Nat):Int) by omega,show (v:Int) - (q.1:Int)=((v - q.1:Nat):Int) by omega];refine au [5,1] ?_;refine TK.a Z (jJ Z Z Z oQ oQ oQ) ?_;refine au [2,3,4,5,1,1,6,3,20] ?_;refine ⟨fun hc7=>?_,fun hc7=>?_⟩
     ·refine au [4,5,1,1,6,2,3,4,5,1,1,1,1] ?_;refine TK.cl Z Z Z Z (ih (q.1 - u) oQ u q.1 l2 q.2.2 Z (by rw [hr3]; exact hs4) hr1 oQ hl2 hr4) ?_;rintro r412 K413 ⟨L,hL1,hL2,rfl⟩;refine au [] ?_;have hbl:=hr6 L hL1 hL2;refine au [3,5,1,23,2,3,14] ?_;refine TK.maskL [0,1,2,3,8,9] ?_;refine TK.kp [(j,_)] ?_;exact hnext _ _ _ oQ ⟨q.1+1,v,l2,_,q.2.1,L,rfl,oQ,oQ,hvn,hl2,hL1.1.trans (hr3.trans hs4),hbl.1,fun R h1 h2=>(hbl.2 R h1 h2).elim fun h3 h4=>hfin4 R h3 h4,rfl,rfl⟩
     refine au [4,5,1,1,6,2,3,4,5,1,1,23,1,1] ?_;refine TK.cl Z Z Z Z (ih (v - (q.1+1)) oQ (q.1+1) v l2 q.2.2 Z (by rw [hr3]; exact hs4) oQ hvn hl2 hr5) ?_;rintro r415 K416 ⟨L,hL1,hL2,rfl⟩;refine au [] ?_;have hbl:=hr7 L hL1 hL2;refine au [3,5,1,2,3,14] ?_;refine TK.maskL [0,1,2,3,8,9] ?_;refine TK.kp [(j,_)] ?_;exact hnext _ _ _ oQ ⟨u,q.1,l2,_,q.2.1,L,rfl,oQ,oQ,oQ,hl2,hL1.1.trans (hr3.trans hs4),hbl.1,fun R h1 h2=>(hbl.2 R h1 h2).elim fun h3 h4=>hfin4 R h3 h4,rfl,rfl⟩
theorem xW {n:Nat} {xs:List Int} {d:Array Int} (hp:PermIn 0 n xs.toArray d) (hs:SortedIn ltInt 0 n d) (hn:xs.length=n):d.toList=xs.mergeSort fun x y=>decide (x<=y):=by
 subst hn;have:=sorted_unique_holds (lt:=ltInt) swo_ltInt (fun x y h1 h2=>by have h3:=of_decide_eq_false h1; have h4:=of_decide_eq_false h2; omega) xs.toArray d (by simpa using hp) (by simpa using hs);rw [this];congr 1;funext x y;unfold ltInt;by_cases h:x<=y
 ·rw [decide_eq_true h,decide_eq_false oQ]; rfl
 ·rw [decide_eq_false h,decide_eq_true oQ]; rfl
theorem qj {main T} (hT:zo tp main T) {gm} {j n:Nat} {xs:List Int} (hn:xs.length=n) (h256:n<256) :
  zA tp T gm 131 [.row j n] [(j,.row (xs.map intA) 3 1)] (fun r K'=>K'=[(j,.row ((xs.mergeSort fun x y=>decide (x<=y)).map intA) 3 1)]):=by
 refine zp 11 hT Tryz.func131 fun Y hret=>?_;refine au [4] ?_;refine TK.asSl 0 Z (mC _) ?_;refine au [5,1,28,2,3,5,1,1,1] ?_;refine TK.a Z (yU Z Z Und.h Und.h (zbZ (n:=n) oQ)) ?_;refine TK.cl Z Z Z Z (jW hT (n:=n) oQ) ?_ (hs:=(.none _));rintro r1 K2 ⟨m,rfl,hm8,hm2,rfl⟩;refine au [] ?_;refine TK.cl Z Z Z Z (qB hT (j:=j) (n:=n) h256 n 0 n (m:Int) xs.toArray (Nat.sub_zero n) (by simpa using hn) (mN _) (mL _) oQ (.inl Z)) ?_;rintro r4 K5 ⟨d2,hp,hs,rfl⟩;refine au [3] ?_;refine TK.rt0 hret [(j,_)] ?_;rw [xW hp hs hn]
end Go.Vel
namespace Go.Vel
open Go Go.Conc Go.Proofs
theorem xz {main:Bool} {T:Goroutine->Hp->Prop} (hT:zo tp main T)  {b:RBk} {s h e:Nat} (hl:b.seams.length<=100) (hm:b.measures.length<=100) {n:Int}  :
  zA tp T gmR 52 [.agg (zE b s h e),intA n] [(0,zy),(s,zk b),(h,zB b),(e,zq b)] (fun r K'=>(bar2 (zr b) (thereM b n)≠0/\r=.tup [.v (.slice none 0 0),intA (bar2 (zr b) (thereM b n))]/\K'=[(0,zy),(s,zk b),(h,zB b),(e,zq b)])\/(bar2 (zr b) (thereM b n)=0/\zf b=[]/\r=.tup [.v (.slice none 0 0),intA 9]/\K'=[(0,zy),(s,zk b),(h,zB b),(e,zq b)])\/(bar2 (zr b) (thereM b n)=0/\zf b≠[]/\∃ jr zs,r=.tup [.sl jr 0 (shrI b n).length,intA 0]/\K'=(jr,.cells ((shrI b n++zs).map intA) 3 false)::[(0,zy),(s,zk b),(h,zB b),(e,zq b)])):=by
 refine zp 40 hT Tryz.func52 fun Y hret=>?_;refine au [4,5,21] ?_;intro jb hjb;refine au [2,2,3,4,5,8,1,32] ?_;refine TK.newR Z Z Z (zt (l:=[_]) Z zF.h TyZ.h dQ dQ Z) (fun _=>zu rfl tQ) fun ja hja=>?_;refine TK.cl Z Z Z Z (uH hT (Kx:=[]) (p1:=thereM b n) (fun h0=>yw Cal.h ((ul hT (b:=b) (s:=s) (h:=h) (e:=e) (n:=n) (zZ h0).sms.len.2).frameP (R:=[(s,zk b)]) (List.Perm.refl _))) hl hm) ?_;rintro r1 K2 h3;rcases h3 with ⟨hbar,rfl,rfl⟩ | ⟨hbar,hnil,rfl,rfl⟩ | ⟨hbar,hne,a,rfl,rfl⟩
 ·refine au [1,10,10,22] ?_;intro j6 hj6;refine au [17,2,3,4,4,5,1,6,3,20] ?_;refine ⟨fun hc0=>?_,fun hc0=>?_⟩
  ·
   refine au [4,5,1,2,2,3] ?_;refine TK.rt hret [(0,_),(s,_),(h,_),(e,_)] ?_;exact .inl ⟨hbar,rfl,rfl⟩
  exact absurd hbar (by simpa using hc0)
 ·refine au [1,10,10,22] ?_;intro j6 hj6;refine au [17,2,3,4,4,5,1,6,3,20] ?_;refine ⟨fun hc0=>?_,fun hc0=>?_⟩
  ·
   refine au [4,5,1,2,2,3] ?_;refine TK.rt hret [(0,_),(s,_),(h,_),(e,_)] ?_;exact .inr (.inl ⟨hbar,hnil,rfl,rfl⟩)
  exact absurd hc0 dQ
 ·refine au [1,10,10,22] ?_;intro j6 hj6;refine au [17,2,3,4,4,5,1,6,3,20] ?_;refine ⟨fun hc0=>?_,fun hc0=>?_⟩
  ·exact absurd hc0 sQ
  have hbb:=zZ (kE hbar);have hth:=zah (kb hbar);have hs5:=hbb.sms.len;have hpos:0<(zf b).length:=List.length_pos_iff.2 hne;have hlen:=kf hbb;refine au [12,4,5,2] ?_;refine TK.virt 8 3 1 Z fun jt0 hjt0=>?_;refine au [3,4,4,5,7,9,28,1,3,13] ?_;refine TK.maskL [1,4,5,6,8,23,24,25] ?_;refine TK.kp [(a,_),(0,_),(s,_),(h,_),(e,_),(j6,_),(jt0,_)] ?_;refine TK.loopN (fun n1 env K=>∃ (i jt:Nat),n1=(zf b).length - i/\i<=(zf b).length/\env=.any::intA n::naL 2 (.v (.slice none 0 0)::intA 0::.ptr j6 0::.any::.row jt i::naL 14 (.sl a 0 (zf b).length::intA (zf b).length::intA i::naL 14 []))/\K=[(a,allO (zf b)),(0,zy),(s,zk b),(h,zB b),(e,zq b),(j6,.cells (knownC b s h e a (zf b).length) 139 true),(jt,.row ((((zf b).take i).map fun s=>zN s n.toNat).map intA) 3 1)]) (zf b).length ⟨0,jt0,rfl,mN _,rfl,rfl⟩ fun n1 env K hI hnext=>?_;obtain ⟨i,jt,rfl,hi,rfl,rfl⟩:=hI;refine TK.na nQ ?_;refine au [4,5,6,3,4,20] ?_;refine ⟨fun hc1=>?_,fun hc1=>?_⟩
  ·have hil:i<(zf b).length:=by simp at hc1; omega
   obtain ⟨st,hst⟩:∃ st,(zf b)[i]? =some st:=⟨_,lA hil⟩;refine au [12,4,13,4,5,36] ?_;refine TK.a Z (z8 Z Z zi.h mQ (zaJ (i:=i) hst Z)) ?_;refine au [22] ?_;intro j10 hj10;refine au [17,3,5,1,1] ?_;refine TK.a Z (wx Z Z Z ArEl.h oQ oQ) ?_;refine TK.a Z (zm Z Z zi.h mQ (st_at (i:=n.toNat) oQ oQ)) ?_;refine TK.newR Z Z Z (zt (l:=[_]) Z zF.h TyZ.h dQ dQ Z) (fun _=>zu rfl tQ) fun j4 hj4=>?_;refine TK.appR Z Z Z (a_app Z ApOf.h Z mQ (by simp; omega) Z (yu (ln:=[_]) mQ dQ sQ Z) oQ Z (by unfold maxLen; omega) oQ) (fun _=>uQ) (fun _=>zu rfl tQ) fun jt2=>?_;refine au [2,3,14,5,23,1,3] ?_;refine TK.maskL [1,4,5,6,8,23,24,25] ?_;refine TK.kp [(a,_),(0,_),(s,_),(h,_),(e,_),(j6,_),(jt2,_)] ?_;exact hnext _ _ _ oQ ⟨i+1,jt2,rfl,oQ,rfl,by rw [yP hst,lM,lM]; rfl⟩
  obtain rfl:i=(zf b).length:=by simp at hc1; omega
  rw [List.take_of_length_le (mL _)];have hsl2:(msI ((zf b).map fun s=>zN s n.toNat)).length=(zf b).length:=by rw [xF,lJ]
  refine au [16,4,5,1] ?_;refine TK.cl Z Z Z Z (qj hT (xs:=((zf b).map fun s=>zN s n.toNat)) sQ oQ) ?_;rintro r5 K6 rfl;refine au [3,4,5,1] ?_;refine TK.cl Z Z Z Z (zdl hT (xs:=msI ((zf b).map fun s=>zN s n.toNat)) hsl2 oQ) ?_;rintro r8 K9 h10;rcases h10 with ⟨zs,rfl,rfl⟩ | ⟨rfl,hcm,rfl⟩
  ·refine au [] ?_;refine TK.frzRow (j:=jt) ?_;refine au [2,2,3] ?_;refine TK.rt hret [(jt,_),(0,_),(s,_),(h,_),(e,_)] ?_;exact .inr (.inr ⟨hbar,hne,jt,zs,rfl,rfl⟩)
  ·refine au [] ?_;refine TK.asSl 39 Z (mC _) ?_;refine TK.frzRow (j:=jt) ?_;refine au [2,2,3] ?_;refine TK.rt hret [(jt,_),(0,_),(s,_),(h,_),(e,_)] ?_;exact .inr (.inr ⟨hbar,hne,jt,[],by unfold shrI setI; rw [hcm,hsl2],by unfold shrI setI; rw [hcm,lR]⟩)
instance:Cal tp 136:={}
instance:Cal tp 78:={}
theorem qd {main T} (hT:zo tp main T) {gm}  :
  zA tp T gm 44 [.agg z7R,.agg z7R] [] (fun r K'=>r=zP true/\K'=[]):=by
 refine zp 115 hT Tryz.func44 fun Y hret=>?_;refine au [4,5,21] ?_;intro jb hjb;refine au [21] ?_;intro jc hjc;refine au [2,3,4,4,5,7,9,7,9,6,1] ?_;refine TK.sp 13 (fun g1_6=>?_) (fun g1_6=>?_)
 ·exact absurd g1_6 dQ
 refine au [7,9,7,9,6,25,1] ?_;refine TK.sp 20 (fun g1_13=>?_) (fun g1_13=>?_)
 ·exact absurd g1_13 dQ
 refine au [7,9,7,9,6,25,1] ?_;refine TK.sp 27 (fun g1_20=>?_) (fun g1_20=>?_)
 ·exact absurd g1_20 dQ
 refine au [7,9,7,9,6,25,1] ?_;refine TK.sp 34 (fun g1_27=>?_) (fun g1_27=>?_)
 ·exact absurd g1_27 dQ
 refine au [7,9,28,7,9,28,6,25,1] ?_;refine TK.sp 43 (fun g1_36=>?_) (fun g1_36=>?_)
 ·exact absurd g1_36 dQ
 refine au [7,9,28,7,9,28,6,25,1] ?_;refine TK.sp 52 (fun g1_45=>?_) (fun g1_45=>?_)
 ·exact absurd g1_45 dQ
 refine au [7,9,28,7,9,28,6,25,3,20] ?_;refine ⟨fun hc0=>?_,fun hc0=>?_⟩
 ·exact absurd hc0 dQ
 refine au [12,4,4,5,2,3,13] ?_;refine TK.maskL [2,3,4,5] ?_;refine TK.kp [(jb,_),(jc,_)] ?_;refine TK.loopN (fun n env K=>n=0/\env=naL 2 (.ptr jb 0::.ptr jc 0::zP false::intA 0::naL 109 [])/\K=[(jb,.cells z7R 26 true),(jc,.cells z7R 26 true)]) 0 ⟨rfl,rfl,rfl⟩ fun n env K hI hnext=>?_;obtain ⟨rfl,rfl,rfl⟩:=hI;refine TK.na nQ ?_;refine au [4,4,5,1,7,9,28,6,3,20] ?_;refine ⟨fun hc1=>?_,fun hc1=>?_⟩
 ·exact absurd hc1 dQ
 refine au [16,4,4,5,2,3,13] ?_;refine TK.maskL [2,3,4,6] ?_;refine TK.kp [(jb,_),(jc,_)] ?_;refine TK.loopN (fun n env K=>n=0/\env=naL 2 (.ptr jb 0::.ptr jc 0::zP false::.any::intA 0::naL 108 [])/\K=[(jb,.cells z7R 26 true),(jc,.cells z7R 26 true)]) 0 ⟨rfl,rfl,rfl⟩ fun n env K hI hnext=>?_;obtain ⟨rfl,rfl,rfl⟩:=hI;refine TK.na nQ ?_;refine au [4,4,5,1,7,9,28,6,3,20] ?_;refine ⟨fun hc3=>?_,fun hc3=>?_⟩
 ·exact absurd hc3 dQ
 refine au [16,4,4,5,2,3,13] ?_;refine TK.maskL [2,3,4,7] ?_;refine TK.kp [(jb,_),(jc,_)] ?_;refine TK.loopN (fun n env K=>n=0/\env=naL 2 (.ptr jb 0::.ptr jc 0::zP false::naL 2 (intA 0::naL 107 []))/\K=[(jb,.cells z7R 26 true),(jc,.cells z7R 26 true)]) 0 ⟨rfl,rfl,rfl⟩ fun n env K hI hnext=>?_;obtain ⟨rfl,rfl,rfl⟩:=hI;refine TK.na nQ ?_;refine au [4,4,5,1,7,9,28,6,3,20] ?_;refine ⟨fun hc5=>?_,fun hc5=>?_⟩
 ·exact absurd hc5 dQ
 refine au [16,4,5,2,3] ?_;refine TK.rt hret [] ?_;exact ⟨rfl,rfl⟩
instance:Cal tp 57:={}
instance:Cal tp 66:={}
theorem xi {main T} (hT:zo tp main T) {gm} {b:RBk} {s h e i:Nat} {x:RBand} (hi:i<b.shrinks.length) (hl:b.shrinks.length<=100) :
  zA tp T gm 57 [.agg (zE b s h e),intA i,.agg (bandC x)] [(h,zB b)] (fun r K'=>∃ h2,r=.agg (zE (driedB b i x) s h2 e)/\K'=[(h2,zB (driedB b i x)),(h,zB b)]):=by
 refine zp 18 hT Tryz.func57 fun Y hret=>?_;refine au [] ?_;have hfl:=yy bandC 2 (fun _=>rfl) b.shrinks;refine au [4,5,21] ?_;intro jb hjb;refine au [21] ?_;intro jx hjx;refine au [22] ?_;intro jr hjr;refine au [3,4,5] ?_;refine TK.newR Z Z Z (zt (l:=[]) Z zF.h TyZ.h dQ dQ Z) (fun _=>zu rfl tQ) fun j1 hj1=>?_;refine au [7,9] ?_;refine TK.appG (ln:=b.shrinks.flatMap bandC) Z Z Z ApOf.h Z mQ Z Z Z (fun hp=>vu mQ oQ (wl hfl oQ)) (fun h=>lK oQ) (kz bandC (fun _=>rfl) _) (by unfold maxLen; omega) oQ (fun _=>uQ) (fun _=>zu rfl tQ) fun h2=>?_;simp only [lC,mO];refine au [7,17,3,4,5,7,9,1,8,37] ?_;refine TK.st Z Z Z (zX Z Z zi.h Z Z mQ (zgn (x:=x) hi Z)) uQ (putN Z) ?_;refine au [3,4] ?_;refine TK.unrowAt (c:=jb) (i:=5) (j:=h2) Z mQ uQ ?_;refine TK.frzRow (j:=h2) ?_;rw [show b.shrinks.length=(driedB b i x).shrinks.length by simp [driedB]];refine au [5,8,17,3] ?_;refine TK.rt hret [(h2,_),(h,_)] ?_;exact ⟨h2,rfl,rfl⟩
section
variable {P:Program} {gm:Nat->Option Nat} {T:Goroutine->Hp->Prop} {Y:KX P gm T} {ds:List Nat} {k:List Item} {env env':List AV} {K:KV} {ops:Array Oper} {i d:Nat} {L':List Nat} {o:Oper} {r:AV} {pend pend':List Pd}
theorem TD.at (n:Nat) (s:List Nat) (h:TD Y ds ops k pend' L' env' K) (ho:ops[i]? =some o:=by rfl) (e:pend.take n=pend':=by simp only [List.take_succ_cons,List.take_zero]; rfl) (hp':pendOf ops i pend=pend':=by rfl) (hq:Qk P gm (onl s env) K o r:=by exact zD rfl rfl) (hv:∀ p∈pend',∀ x∈p.V,x∈K:=by simp) (hd:yb o.op=false:=by rfl) (hw:zK ops (onl s env) o=some true:=by rfl) (hc:chkC ops pend' L' s i o.dst=true:=by rfl) (hx:o.dst=some d:=by rfl) (he:env.set d r=env':=by simp only [List.set]; rfl):TD Y ds ops k pend (i::L') env K:=TD.as s ho hp' hq h hv hd hw hc hx he
theorem TD.ag (a b c:Nat) (s:List Nat) (h:TD Y ds ops k pend' L' env' K) (ho:ops[i]? =some o:=by rfl) (e:pend.take a++(pend.drop b).take c=pend':=by simp only [List.take_succ_cons,List.take_zero,List.drop_succ_cons,List.drop_zero,List.cons_append,List.nil_append]; rfl) (hp':pendOf ops i pend=pend':=by rfl) (hq:Qk P gm (onl s env) K o r:=by exact zD rfl rfl) (hv:∀ p∈pend',∀ x∈p.V,x∈K:=by simp) (hd:yb o.op=false:=by rfl) (hw:zK ops (onl s env) o=some true:=by rfl) (hc:chkC ops pend' L' s i o.dst=true:=by rfl) (hx:o.dst=some d:=by rfl) (he:env.set d r=env':=by simp only [List.set]; rfl):TD Y ds ops k pend (i::L') env K:=TD.as s ho hp' hq h hv hd hw hc hx he
end
theorem xd {b:RBk} {s h e:Nat} {k1 k2:Int} (hk1:0<=k1/\k1<256) (hk2:0<=k2/\k2<256):Top tp gmR 6 [.agg (zE b s h e),.v (.int .u8 k1),.v (.int .u8 k2)] [(0,zy),(s,zk b),(h,zB b),(e,zq b)] (fun r _=>r=zP true):=by
 refine topI 272 Tryz.func6 fun R Y hret=>?_;have hT:=kH (P:=tp) (AtRet tp 6 R);refine au [4,5,21] ?_;intro jb hjb;refine au [2,3,4,4,5,8] ?_;refine TK.cl Z Z Z Z (zja hT) ?_;rintro r1 K2 ⟨rfl,rfl⟩;refine au [30,3,20] ?_;refine ⟨fun hc0=>?_,fun hc0=>?_⟩
 ·refine au [4,5] ?_;refine TK.cl Z Z Z Z (zi5) ?_;rintro r4 K5 ⟨rfl,rfl⟩;refine au [2,3] ?_;refine TK.rt hret [] ?_;rfl
 have hgr:greatM b=false/\zr b=0:=by cases hq:greatM b <;> simp [hq] at hc0; exact ⟨rfl,hc0⟩
 obtain ⟨hgr,hck⟩:=hgr;have hbb:=zZ hck;have hl:b.seams.length<=100:=by have:=hbb.sms.len; omega
 have hm:b.measures.length<=100:=by have:=hbb.mes.len; omega
 have hl2:b.shrinks.length<=100:=by have:=hbb.cls.len; omega
 have hst:=hbb.rnd.steps;obtain ⟨n1,rfl⟩:=Int.eq_ofNat_of_zero_le hk1.1;obtain ⟨n2,rfl⟩:=Int.eq_ofNat_of_zero_le hk2.1;have hsl:=hbb.sms.len;have hcl:=hbb.cls.len;refine au [12,4] ?_;refine TK.dr [0,1,2,3,4,5,6,7,8,9,10] [0,1,2,3,4,5,6,7,8,9,10] ?_;refine TD.mv [1] ?_;refine TD.z [35] Z (yU Z Z Und.h Und.h (wK oQ)) ?_;refine TD.z [3] Z (zg Z Z zl.h dQ) ?_;refine TD.y [37] Z (hq:=zm Z Z zi.h (mC _) Z) (h:=?_);refine TD.z [38] Z (q_len Z Z Z Und.h) ?_;refine TD.z [36,39] Z (q_rem Z Z Z oQ oQ) ?_;refine TD.y [3] Z (hq:=z8 Z Z zi.h (mC _) Z) (h:=?_);refine TD.mv [2] ?_;refine TD.cl (pend':=[⟨5,[36,39],[]⟩,⟨4,[38],[]⟩,⟨3,[37],[(_,_)]⟩,⟨2,[3],[]⟩,⟨1,[35],[]⟩,⟨0,[1],[]⟩]) [41,42] Z Z Z Z Z (qr hT (c:=n2) hsl oQ) (fun r7 K8 h9=>⟨?_,?_⟩)
 ·rcases h9 with ⟨jo,eo,rfl,rfl⟩
  all_goals simp
 obtain ⟨jo,eo,rfl,rfl⟩:=h9;try simp only [cA]
 refine TD.norm tQ ?_;refine TD.at 0 [40] ?_;refine TD.at 0 [43] ?_;refine TD.fin ?_;refine au [4] ?_;obtain ⟨d0,hd0,hd1,hdo⟩:=xK (c:=n2) hsl.1 hsl.2;have hcc:CutsOk b (otherM n2 b.seams.length):=hdo ▸ zeD hbb hd0 hd1;clear hdo;generalize otherM n2 b.seams.length=l at hcc ⊢;have hi0:=Nat.mod_lt n1 (show 0<b.seams.length by omega);rw [show (n1:Int) % (b.seams.length:Int)=((n1 % b.seams.length:Nat):Int) from rfl];generalize n1 % b.seams.length=i at hi0 ⊢;have hll:l.length<=1000:=by have:=hcc.len; omega
 have hbt:bar2 (zr b) (thereM b (i:Int))=0:=by rw [kF hck]; exact qO (by simp [betw]; omega)
 have hbc:bar2 (zr b) (cutsM b l)=0:=by rw [kF hck]; exact xQ hcc
 have hs1:=kf hbb;have hr1:=xu ((zf b).map fun s=>zN s (i:Int).toNat);rw [lJ] at hr1;have hbi:=hbb.cls.bnd i hi0;refine' TK.shr (X:=Nat×Nat×Nat×Int×List Int×Int×Int×Int×Int) (D:=fun x=>SR b l i x.2.2.2.1 x.2.2.2.2.1 x.2.2.2.2.2.1 x.2.2.2.2.2.2.1 x.2.2.2.2.2.2.2.1 x.2.2.2.2.2.2.2.2) (E:=fun x=>naL 3 (.ptr jb 0::naL 3 (intA (i:Int)::.sl jo 0 l.length::intA (zf b).length::.any::.sl x.1 0 x.2.2.2.2.1.length::.any::.ptr x.2.1 0::.any::.ptr x.2.2.1 0::intA x.2.2.2.1::naL 255 []))) (KK:=fun x=>[(0,zy),(s,zk b),(h,zB b),(e,zq b),(jb,.cells (zE b s h e) 26 true),(jo,.cells (l.map intA) eo false),(x.1,.cells (x.2.2.2.2.1.map intA) 3 false),(x.2.1,.cells [intA x.2.2.2.2.2.1,intA x.2.2.2.2.2.2.1] 51 true),(x.2.2.1,.cells [intA x.2.2.2.2.2.2.2.1,intA x.2.2.2.2.2.2.2.2] 51 true)]) ?_ ?_;rotate_left
 ·intro H;refine au [5,8] ?_;refine TK.cl Z Z Z Z (uS hT hl hm) ?_;rintro r10 K11 ⟨rfl,rfl⟩;refine au [] ?_;rw [hck,if_pos rfl];refine au [1,10,10,2,2,3,4,5,8,1] ?_;refine TK.cl Z Z Z Z ((xz hT hl hm).mono (fun _ _ h=>or3q h hbt)) ?_;rintro r13 K14 h15;rcases h15 with ⟨hnil,rfl,rfl⟩ | ⟨hne,j1,z1,rfl,rfl⟩
  ·refine au [1,10,10,2,2,3,4,5,8] ?_;refine TK.cl Z Z Z Z ((ze3 hT hl hm).mono (fun _ _ h=>or3p h hck hnil)) ?_;rintro r16 K17 ⟨rfl,rfl⟩;refine au [1,10,10,22] ?_;intro jx hjx;refine au [17,2,3,4,5,8,1] ?_;refine TK.cl Z Z Z Z ((uv hT hl hm hll).mono (fun _ _ h=>or3p h hbc hnil)) ?_;rintro r19 K20 ⟨rfl,rfl⟩;refine au [1,10,10,22] ?_;intro jy hjy;refine au [17,2,3,4,4] ?_;refine TK.virt 11 3 1 Z fun j1 hj1=>?_;refine au [] ?_;refine TK.asSl 11 Z mQ ?_;refine TK.frzRow (j:=j1) ?_;refine au [] ?_;refine TK.dr [0,1,2,3,4,5,6,7,8,9,10,11,12,13,14,15,16,17,18,19,20,21,22,23,24,25,26,27,28,29,30,31,32,33,34,35] [0,1,2,3,4,5,6,7,8,9,10,11,12,13,14,15,16,17,18,19,20,21,22,23,24,25,26,27,28,29,30,31,32,33,34,35] ?_;refine TD.mv [10] ?_;refine TD.z [66] Z (q_cmp Z Z Z Z) ?_;refine TD.mv [67] ?_;refine TD.mv [12,68] ?_;refine TD.z [68,69] Z (q_cmp Z Z Z Z) ?_;refine TD.mv [9,68] ?_;refine TD.z [68,71] Z (q_cmp Z Z Z Z) ?_;refine TD.z [68,70,72] Z (ziy Z Z Z Und.h Z) ?_;refine TD.z [68,73] Z (yf Z Z Z) ?_;refine TD.mv [74] ?_;refine TD.sp 75 (fun g8_10=>?_) (fun g8_10=>?_)
   ·simp [hnil] at g8_10
   refine TD.mv [12,75] ?_;refine TD.mv [14,75] ?_;refine TD.z [75,76,77] Z (q_cmp Z Z Z Z) ?_;refine TD.z [75,78] Z (yf Z Z Z) ?_;refine TD.mv [79] ?_;refine TD.mv [9,80] ?_;refine TD.z [80,81] Z (q_cmp Z Z Z Z) ?_;refine TD.mv [80,82] ?_;refine TD.sp 83 (fun g8_18=>?_) (fun g8_18=>?_)
   ·
    refine TD.mv [12,83] ?_;refine TD.z [83,84] Z (q_cmp Z Z Z Z) ?_;refine TD.mv [83,85] ?_;refine TD.mv [16,86] ?_;refine TD.z [86,87] Z (q_cmp Z Z Z Z) ?_;refine TD.z [83,86,88] Z (yf Z Z Z) ?_;refine TD.mv [83,89] ?_;refine TD.mv [11,90] ?_;refine TD.z [90,91] Z (q_len Z Z Z Und.h) ?_;refine TD.z [90,92] Z (q_cmp Z Z Z Z) ?_;refine TD.z [83,90,93] Z (yf Z Z Z) ?_;refine TD.mv [83,94] ?_;refine TD.y [13,95] Z (hq:=z8 Z Z zi.h (mC _) Z) (h:=?_);refine TD.cl (pend':=[⟨30,[13,95],[(_,_)]⟩,⟨28,[83,90,93],[]⟩,⟨27,[90,92],[]⟩,⟨26,[90,91],[]⟩,⟨25,[11,90],[]⟩,⟨24,[83,89],[]⟩,⟨23,[83,86,88],[]⟩,⟨22,[86,87],[]⟩,⟨21,[16,86],[]⟩,⟨20,[83,85],[]⟩,⟨19,[83,84],[]⟩,⟨18,[12,83],[]⟩,⟨17,[80,82],[]⟩,⟨16,[80,81],[]⟩,⟨15,[9,80],[]⟩,⟨14,[79],[]⟩,⟨13,[75,78],[]⟩,⟨12,[75,76,77],[]⟩,⟨11,[14,75],[]⟩,⟨10,[12,75],[]⟩,⟨9,[74],[]⟩,⟨8,[68,73],[]⟩,⟨7,[68,70,72],[]⟩,⟨6,[68,71],[]⟩,⟨5,[9,68],[]⟩,⟨4,[68,69],[]⟩,⟨3,[12,68],[]⟩,⟨2,[67],[]⟩,⟨1,[66],[]⟩,⟨0,[10],[]⟩]) [95] Z Z Z Z Z (to_ok hT) (fun r22 K23 h24=>⟨?_,?_⟩)
    ·rcases h24 with ⟨rfl,rfl⟩
     all_goals simp
    obtain ⟨rfl,rfl⟩:=h24;try simp only [cA]
    refine TD.norm tQ ?_;refine TD.z [95,96,97] Z (uO Z Z Z Z Z FlatF.h EqG.h) ?_;refine TD.z [83,95,98] Z (yf Z Z Z) ?_;refine TD.z [80,83,99] Z (yE Z Z Z) ?_;refine TD.z [80,100] Z (yf Z Z Z) ?_;refine TD.fin ?_;refine au [20] ?_;refine ⟨fun hc1=>?_,fun hc1=>?_⟩
    ·first | exact absurd hc1 dQ | simp at hc1
    refine au [12,4] ?_;refine TK.maskL [3,7,8,9,11,13,15,16] ?_;refine TK.kp [(0,_),(s,_),(h,_),(e,_),(jb,_),(jo,_),(j1,_),(jx,_),(jy,_)] ?_;exact H (j1,jx,jy,_,_,_,_,_,_) (jaa hnil)
   simp [hnil] at g8_18
  ·refine au [] ?_;rw [lM];refine TK.cutC (j:=j1) ?_;refine au [1,10,10,2,2,3,4,5,8] ?_;refine TK.cl Z Z Z Z ((ze3 hT hl hm).mono (fun _ _ h=>or3 h hck hne)) ?_;rintro r151 K152 ⟨rfl,rfl⟩;refine au [1,10,10,22] ?_;intro jx hjx;refine au [17,2,3,4,5,8,1] ?_;refine TK.cl Z Z Z Z ((uv hT hl hm hll).mono (fun _ _ h=>or3 h hbc hne)) ?_;rintro r154 K155 ⟨rfl,rfl⟩;refine au [1,10,10,22] ?_;intro jy hjy;refine au [17,2,3,4,4] ?_;skip;refine TK.dr [0,1,2,3,4,5,6,7,8,9,10,11,12,13,14,15,16,17,18,19,20,21,22,23,24,25,26,27,28,29,30,31,32,33,34,35] [0,1,2,3,4,5,6,7,8,9,10,11,12,13,14,15,16,17,18,19,20,21,22,23,24,25,26,27,28,29,30,31,32,33,34,35] ?_;refine TD.mv [10] ?_;refine TD.z [66] Z (q_cmp Z Z Z Z) ?_;refine TD.mv [67] ?_;refine TD.mv [12,68] ?_;refine TD.z [68,69] Z (q_cmp Z Z Z Z) ?_;refine TD.mv [9,68] ?_;refine TD.z [68,71] Z (q_cmp Z Z Z Z) ?_;refine TD.z [68,70,72] Z (ziy Z Z Z Und.h Z) ?_;refine TD.z [68,73] Z (yf Z Z Z) ?_;refine TD.mv [74] ?_;refine TD.sp 75 (fun g8_10=>?_) (fun g8_10=>?_)
   ·simp [hne] at g8_10
   refine TD.mv [12,75] ?_;refine TD.mv [14,75] ?_;refine TD.z [75,76,77] Z (q_cmp Z Z Z Z) ?_;refine TD.z [75,78] Z (yf Z Z Z) ?_;refine TD.mv [79] ?_;refine TD.mv [9,80] ?_;refine TD.z [80,81] Z (q_cmp Z Z Z Z) ?_;refine TD.mv [80,82] ?_;refine TD.sp 83 (fun g8_18=>?_) (fun g8_18=>?_)
   ·simp [hne] at g8_18
   refine TD.u [12,83] Z ?_;refine TD.u [83,84] Z ?_;refine TD.u [83,85] Z ?_;refine TD.u [16,86] Z ?_;refine TD.u [86,87] Z ?_;refine TD.u [83,86,88] Z ?_;refine TD.u [83,89] Z ?_;refine TD.u [11,90] Z ?_;refine TD.u [90,91] Z ?_;refine TD.u [90,92] Z ?_;refine TD.u [83,90,93] Z ?_;refine TD.u [83,94] Z ?_;refine TD.u [13,95] Z ?_;refine TD.u [95] Z ?_;refine TD.u [95,96,97] Z ?_;refine TD.u [83,95,98] Z ?_;refine TD.z [80,83,99] Z (yf Z Z Z) ?_;refine TD.z [80,100] Z (yf Z Z Z) ?_;refine TD.fin ?_;refine au [19,12,4] ?_;refine TK.maskL [3,7,8,9,11,13,15,16] ?_;refine TK.kp [(0,_),(s,_),(h,_),(e,_),(jb,_),(jo,_),(j1,_),(jx,_),(jy,_)] ?_;exact H (j1,jx,jy,_,_,_,_,_,_) (sr_ok hne)
 ·rintro ⟨j1,jx,jy,r3,sl,x0,x1,y0,y1⟩ ⟨rfl,rfl,rfl,rfl,rfl,hD⟩; dsimp only;refine TK.na nQ ?_;refine au [5,2,2,2,2,2,3,4,4,5,7,9,1,36,7] ?_;refine TK.a Z (zm Z Z zi.h mQ (ym (c:=0) (bd_at b (i:=i) oQ Z) dQ Z)) ?_;refine au [2,3,13] ?_;refine TK.maskL [3,7,8,9,11,13,15,16,17,18,19,20,21,22] ?_;refine TK.kp [(0,_),(s,_),(h,_),(e,_),(jb,_),(jo,_),(j1,_),(jx,_),(jy,_)] ?_;refine TK.loopN (fun n env K=>∃ (t:Nat),n=cntU b i - t/\t<=cntU b i/\env=naL 3 (.ptr jb 0::naL 3 (intA (i:Int)::.sl jo 0 l.length::intA (zf b).length::.any::.sl j1 0 (shrI b (i:Int)).length::.any::.ptr jx 0::.any::.ptr jy 0::intA r3::.v (.int .i64 ((sumU b i t:Nat):Int))::zP (anyU (loU b i) t)::zP (anyU (hiU b i) t)::zP (anyU (leU b l i) t)::zP (anyU (moU b l i) t)::intA ((bd b i).low+(t:Int))::naL 249 []))/\K=[(0,zy),(s,zk b),(h,zB b),(e,zq b),(jb,.cells (zE b s h e) 26 true),(jo,.cells (l.map intA) eo false),(j1,.cells ((shrI b (i:Int)).map intA) 3 false),(jx,.cells [intA (newM b).1,intA (newM b).2] 51 true),(jy,.cells [intA (sqLo b (zf b) l),intA (sqHi b (zf b) l)] 51 true)]) (cntU b i) ⟨0,rfl,mN _,by rw [show (bd b i).low+((0:Nat):Int)=(bd b i).low from Int.add_zero _] <;> rfl,rfl⟩ fun n env K hI hnext=>?_;obtain ⟨t,rfl,ht,rfl,rfl⟩:=hI;have hcu:(cntU b i:Int)=(bd b i).high+1 - (bd b i).low:=by unfold cntU; omega
  have hse:=qM hbb hi0 t ht;refine TK.na nQ ?_;refine au [4,4,5,1,7,9,1,36,7] ?_;refine TK.a Z (zm Z Z zi.h mQ (ym (c:=1) (bd_at b (i:=i) oQ Z) dQ Z)) ?_;refine au [6,3,20] ?_;refine ⟨fun hc2=>?_,fun hc2=>?_⟩
  ·have hu:t<cntU b i:=by simp at hc2; omega
   have hdo:=dU_ok hbb hi0 hu;have hdl:(dU b i t).seams.length<=100:=hl;have hdm:(dU b i t).measures.length<=100:=hm;have hd1:=kf hdo;have ht1:(bd b i).low+((t+1:Nat):Int)=(bd b i).low+(t:Int)+1:=by omega
   have hst1:((sumU b i (t+1):Nat):Int)=((sumU b i t:Nat):Int)+(((zf (dU b i t)).length:Nat):Int):=Int.natCast_add ..;refine au [12,4,13,4] ?_;refine' TK.shr (X:=Nat) (D:=fun x=>zf (dU b i t)=[]) (E:=fun x=>naL 3 (.ptr jb 0::naL 3 (intA (i:Int)::.sl jo 0 l.length::intA (zf b).length::.any::.sl j1 0 (shrI b (i:Int)).length::.any::.ptr jx 0::.any::.ptr jy 0::intA r3::.v (.int .i64 ((sumU b i t:Nat):Int))::zP (anyU (loU b i) t)::zP (anyU (hiU b i) t)::zP (anyU (leU b l i) t)::zP (anyU (moU b l i) t)::intA ((bd b i).low+(t:Int))::.ptr x 0::intA 9::naL 247 []))) (KK:=fun x=>[(0,zy),(s,zk b),(h,zB b),(e,zq b),(jb,.cells (zE b s h e) 26 true),(jo,.cells (l.map intA) eo false),(j1,.cells ((shrI b (i:Int)).map intA) 3 false),(jx,.cells [intA (newM b).1,intA (newM b).2] 51 true),(jy,.cells [intA (sqLo b (zf b) l),intA (sqHi b (zf b) l)] 51 true),(x,.cells z7R 26 true)]) ?_ ?_;rotate_left
   ·intro HE;refine' TK.shr (X:=Nat×Nat×Nat×Nat) (D:=fun x=>zf (dU b i t)≠[]) (E:=fun x=>naL 3 (.ptr jb 0::naL 3 (intA (i:Int)::.sl jo 0 l.length::intA (zf b).length::.any::.sl j1 0 (shrI b (i:Int)).length::.any::.ptr jx 0::.any::.ptr jy 0::intA r3::.v (.int .i64 ((sumU b i t:Nat):Int))::zP (anyU (loU b i) t)::zP (anyU (hiU b i) t)::zP (anyU (leU b l i) t)::zP (anyU (moU b l i) t)::intA ((bd b i).low+(t:Int))::.ptr x.1 0::intA 0::naL 247 []))) (KK:=fun x=>[(0,zy),(s,zk b),(h,zB b),(e,zq b),(jb,.cells (zE b s h e) 26 true),(jo,.cells (l.map intA) eo false),(j1,.cells ((shrI b (i:Int)).map intA) 3 false),(jx,.cells [intA (newM b).1,intA (newM b).2] 51 true),(jy,.cells [intA (sqLo b (zf b) l),intA (sqHi b (zf b) l)] 51 true),(x.1,.cells (zE (dU b i t) x.2.1 x.2.2.1 x.2.2.2) 26 true),(x.2.1,zk (dU b i t)),(x.2.2.1,zB (dU b i t)),(x.2.2.2,zq (dU b i t))]) ?_ ?_;rotate_left
    ·intro H;refine TK.dr [0,1,2,3,4,5,6,7,8,9,10] [0,1,2,3,4,5,6,8,9,7,10] ?_;refine TD.y [3] Z (hq:=z8 Z Z zi.h (mC _) Z) (h:=?_);refine TD.mv [7] ?_;refine TD.mv [22] ?_;refine TD.c2 (i1:=3) (i2:=8) (pend1:=[⟨1,[7],[]⟩,⟨0,[3],[(_,_)]⟩]) (pend2:=[⟨2,[22],[]⟩,⟨1,[7],[]⟩,⟨0,[3],[(_,_)]⟩]) (L1:=[4,5,6,7,8,9,10]) (L2:=[3,4,5,6,7,9,10]) [121] [] Z Z Z Z Z Z Z ?_ ?_
     ·refine we Z Z Cal.h Z (ziu hT) (by repeat (first | exact Split.none _ | exact Split.all _ | (apply Split.rem; repeat (first | exact Rem.head | apply Rem.tail)) | apply Split.right)) fun r157 K158 h159=>⟨?_,?_⟩
      ·rcases h159 with ⟨rfl,rfl⟩
       all_goals simp
      obtain ⟨rfl,rfl⟩:=h159;try simp only [cA]
      refine TD.norm (env':=[_,_,_,_,_,_,_,_,_,_,_,_,_,_,_,_,_,_,_,_,_,_,_,_,_,_,_,_,_,_,_,_,_,_,_,_,_,_,_,_,_,_,_,_,_,_,_,_,_,_,_,_,_,_,_,_,_,_,_,_,_,_,_,_,_,_,_,_,_,_,_,_,_,_,_,_,_,_,_,_,_,_,_,_,_,_,_,_,_,_,_,_,_,_,_,_,_,_,_,_,_,_,_,_,_,_,_,_,_,_,_,_,_,_,_,_,_,_,_,_,_,_,_,_,_,_,_,_,_,_,_,_,_,_,_,_,_,_,_,_,_,_,_,_,_,_,_,_,_,_,_,_,_,_,_,_,_,_,_,_,_,_,_,_,_,_,_,_,_,_,_,_,_,_,_,_,_,_,_,_,_,_,_,_,_,_,_,_,_,_,_,_,_,_,_,_,_,_,_,_,_,_,_,_,_,_,_,_,_,_,_,_,_,_,_,_,_,_,_,_,_,_,_,_,_,_,_,_,_,_,_,_,_,_,_,_,_,_,_,_,_,_,_,_,_,_,_,_,_,_,_,_,_,_,_,_,_,_,_,_,_,_,_,_,_,_,_,_,_,_,_,_]) Z ?_;refine TD.c2 (i1:=4) (i2:=8) (pend1:=[]) (pend2:=[⟨1,[7],[]⟩,⟨0,[3],[(_,_)]⟩]) (L1:=[5,6,7,8,9,10]) (L2:=[4,5,6,7,9,10]) [119,120,122] [] Z Z Z Z Z Z Z ?_ ?_
      ·refine we Z Z Cal.h Z ((zeL hT hl hm (n:=(i:Int)) (x:=⟨((bd b i).low+(t:Int)),((bd b i).low+(t:Int))⟩)).mono (fun _ _ h=>xc hbb hi0 hu hbt h)) (by repeat (first | exact Split.none _ | exact Split.all _ | (apply Split.rem; repeat (first | exact Rem.head | apply Rem.tail)) | apply Split.right)) fun r160 K161 h162=>⟨?_,?_⟩
       ·rcases h162 with ⟨hn2,rfl,rfl⟩ | ⟨hn2,s2,h2,e2,rfl,rfl⟩;all_goals simp
       rcases h162 with ⟨hn2,rfl,rfl⟩ | ⟨hn2,s2,h2,e2,rfl,rfl⟩
       ·try simp only [cA]
        refine TD.norm (env':=[_,_,_,_,_,_,_,_,_,_,_,_,_,_,_,_,_,_,_,_,_,_,_,_,_,_,_,_,_,_,_,_,_,_,_,_,_,_,_,_,_,_,_,_,_,_,_,_,_,_,_,_,_,_,_,_,_,_,_,_,_,_,_,_,_,_,_,_,_,_,_,_,_,_,_,_,_,_,_,_,_,_,_,_,_,_,_,_,_,_,_,_,_,_,_,_,_,_,_,_,_,_,_,_,_,_,_,_,_,_,_,_,_,_,_,_,_,_,_,_,_,_,_,_,_,_,_,_,_,_,_,_,_,_,_,_,_,_,_,_,_,_,_,_,_,_,_,_,_,_,_,_,_,_,_,_,_,_,_,_,_,_,_,_,_,_,_,_,_,_,_,_,_,_,_,_,_,_,_,_,_,_,_,_,_,_,_,_,_,_,_,_,_,_,_,_,_,_,_,_,_,_,_,_,_,_,_,_,_,_,_,_,_,_,_,_,_,_,_,_,_,_,_,_,_,_,_,_,_,_,_,_,_,_,_,_,_,_,_,_,_,_,_,_,_,_,_,_,_,_,_,_,_,_,_,_,_,_,_,_,_,_,_,_,_,_,_,_,_,_,_,_]) Z ?_;refine TD.mv [123] ?_;refine TD.z [118] Z (ye Z Z Z) ?_;refine TD.z [118] Z (ye Z Z Z) ?_;refine TD.cnewP (pend':=[⟨7,[118],[]⟩,⟨6,[118],[]⟩,⟨5,[123],[]⟩]) [] Z Z Z Z Z (yK Z TyZA.h) (fun _=>zu rfl tQ) sQ fun jd hjd=>?_;refine TD.s (pend':=[⟨7,[118],[]⟩]) [23,124] Z Z (zX Z Z zi.h Z Z mQ Z) ?_;refine TD.at 0 [125] ?_;refine TD.fin ?_;refine au [4] ?_;refine TK.maskL [3,7,8,9,11,13,15,16,17,18,19,20,21,22,23,24] ?_;refine TK.kp [(0,_),(s,_),(h,_),(e,_),(jb,_),(jo,_),(j1,_),(jx,_),(jy,_),(jd,_)] ?_;exact HE jd hn2
       ·try simp only [cA]
        refine TD.norm (env':=[_,_,_,_,_,_,_,_,_,_,_,_,_,_,_,_,_,_,_,_,_,_,_,_,_,_,_,_,_,_,_,_,_,_,_,_,_,_,_,_,_,_,_,_,_,_,_,_,_,_,_,_,_,_,_,_,_,_,_,_,_,_,_,_,_,_,_,_,_,_,_,_,_,_,_,_,_,_,_,_,_,_,_,_,_,_,_,_,_,_,_,_,_,_,_,_,_,_,_,_,_,_,_,_,_,_,_,_,_,_,_,_,_,_,_,_,_,_,_,_,_,_,_,_,_,_,_,_,_,_,_,_,_,_,_,_,_,_,_,_,_,_,_,_,_,_,_,_,_,_,_,_,_,_,_,_,_,_,_,_,_,_,_,_,_,_,_,_,_,_,_,_,_,_,_,_,_,_,_,_,_,_,_,_,_,_,_,_,_,_,_,_,_,_,_,_,_,_,_,_,_,_,_,_,_,_,_,_,_,_,_,_,_,_,_,_,_,_,_,_,_,_,_,_,_,_,_,_,_,_,_,_,_,_,_,_,_,_,_,_,_,_,_,_,_,_,_,_,_,_,_,_,_,_,_,_,_,_,_,_,_,_,_,_,_,_,_,_,_,_,_,_]) Z ?_;refine TD.mv [123] ?_;refine TD.z [118] Z (ye Z Z Z) ?_;refine TD.z [118] Z (ye Z Z Z) ?_;refine TD.cnewP (pend':=[⟨7,[118],[]⟩,⟨6,[118],[]⟩,⟨5,[123],[]⟩]) [] Z Z Z Z Z (yK Z TyZA.h) (fun _=>zu rfl tQ) sQ fun jd hjd=>?_;refine TD.s (pend':=[⟨7,[118],[]⟩]) [23,124] Z Z (zX Z Z zi.h Z Z mQ Z) ?_;refine TD.at 0 [125] ?_;refine TD.fin ?_;refine au [4] ?_;refine TK.maskL [3,7,8,9,11,13,15,16,17,18,19,20,21,22,23,24] ?_;refine TK.kp [(0,_),(s,_),(h,_),(e,_),(jb,_),(jo,_),(j1,_),(jx,_),(jy,_),(jd,_),(s2,_),(h2,_),(e2,_)] ?_;exact H (jd,s2,h2,e2) hn2
      ·refine vl Z (yK Z TyZA.h) (fun _=>zu rfl tQ) sQ fun jd hjd=>?_;refine TD.cl (pend':=[]) [119,120,122] Z Z Z Z Z ((zeL hT hl hm (n:=(i:Int)) (x:=⟨((bd b i).low+(t:Int)),((bd b i).low+(t:Int))⟩)).mono (fun _ _ h=>xc hbb hi0 hu hbt h)) (fun r196 K197 h198=>⟨?_,?_⟩)
       ·rcases h198 with ⟨hn2,rfl,rfl⟩ | ⟨hn2,s2,h2,e2,rfl,rfl⟩;all_goals simp
       rcases h198 with ⟨hn2,rfl,rfl⟩ | ⟨hn2,s2,h2,e2,rfl,rfl⟩
       ·try simp only [cA]
        refine TD.norm tQ ?_;refine TD.mv [123] ?_;refine TD.z [118] Z (ye Z Z Z) ?_;refine TD.z [118] Z (ye Z Z Z) ?_;refine TD.s (pend':=[⟨7,[118],[]⟩]) [23,124] Z Z (zX Z Z zi.h Z Z mQ Z) ?_;refine TD.at 0 [125] ?_;refine TD.fin ?_;refine au [4] ?_;refine TK.maskL [3,7,8,9,11,13,15,16,17,18,19,20,21,22,23,24] ?_;refine TK.kp [(0,_),(s,_),(h,_),(e,_),(jb,_),(jo,_),(j1,_),(jx,_),(jy,_),(jd,_)] ?_;exact HE jd hn2
       ·try simp only [cA]
        refine TD.norm tQ ?_;refine TD.mv [123] ?_;refine TD.z [118] Z (ye Z Z Z) ?_;refine TD.z [118] Z (ye Z Z Z) ?_;refine TD.s (pend':=[⟨7,[118],[]⟩]) [23,124] Z Z (zX Z Z zi.h Z Z mQ Z) ?_;refine TD.at 0 [125] ?_;refine TD.fin ?_;refine au [4] ?_;refine TK.maskL [3,7,8,9,11,13,15,16,17,18,19,20,21,22,23,24] ?_;refine TK.kp [(0,_),(s,_),(h,_),(e,_),(jb,_),(jo,_),(j1,_),(jx,_),(jy,_),(jd,_),(s2,_),(h2,_),(e2,_)] ?_;exact H (jd,s2,h2,e2) hn2
     ·refine vl Z (yK Z TyZA.h) (fun _=>zu rfl tQ) sQ fun jd hjd=>?_;refine TD.cl (pend':=[⟨1,[7],[]⟩,⟨0,[3],[(_,_)]⟩]) [121] Z Z Z Z Z (ziu hT) (fun r232 K233 h234=>⟨?_,?_⟩)
      ·rcases h234 with ⟨rfl,rfl⟩
       all_goals simp
      obtain ⟨rfl,rfl⟩:=h234;try simp only [cA]
      refine TD.norm tQ ?_;refine TD.cl (pend':=[]) [119,120,122] Z Z Z Z Z ((zeL hT hl hm (n:=(i:Int)) (x:=⟨((bd b i).low+(t:Int)),((bd b i).low+(t:Int))⟩)).mono (fun _ _ h=>xc hbb hi0 hu hbt h)) (fun r235 K236 h237=>⟨?_,?_⟩)
      ·rcases h237 with ⟨hn2,rfl,rfl⟩ | ⟨hn2,s2,h2,e2,rfl,rfl⟩;all_goals simp
      rcases h237 with ⟨hn2,rfl,rfl⟩ | ⟨hn2,s2,h2,e2,rfl,rfl⟩
      ·try simp only [cA]
       refine TD.norm tQ ?_;refine TD.mv [123] ?_;refine TD.z [118] Z (ye Z Z Z) ?_;refine TD.z [118] Z (ye Z Z Z) ?_;refine TD.s (pend':=[⟨7,[118],[]⟩]) [23,124] Z Z (zX Z Z zi.h Z Z mQ Z) ?_;refine TD.at 0 [125] ?_;refine TD.fin ?_;refine au [4] ?_;refine TK.maskL [3,7,8,9,11,13,15,16,17,18,19,20,21,22,23,24] ?_;refine TK.kp [(0,_),(s,_),(h,_),(e,_),(jb,_),(jo,_),(j1,_),(jx,_),(jy,_),(jd,_)] ?_;exact HE jd hn2
      ·try simp only [cA]
       refine TD.norm tQ ?_;refine TD.mv [123] ?_;refine TD.z [118] Z (ye Z Z Z) ?_;refine TD.z [118] Z (ye Z Z Z) ?_;refine TD.s (pend':=[⟨7,[118],[]⟩]) [23,124] Z Z (zX Z Z zi.h Z Z mQ Z) ?_;refine TD.at 0 [125] ?_;refine TD.fin ?_;refine au [4] ?_;refine TK.maskL [3,7,8,9,11,13,15,16,17,18,19,20,21,22,23,24] ?_;refine TK.kp [(0,_),(s,_),(h,_),(e,_),(jb,_),(jo,_),(j1,_),(jx,_),(jy,_),(jd,_),(s2,_),(h2,_),(e2,_)] ?_;exact H (jd,s2,h2,e2) hn2
    ·rintro ⟨jd,s2,h2,e2⟩ hn2; dsimp only;refine TK.na nQ ?_;obtain ⟨hn21,hn22,hn23,hn24⟩:=ql l hn2;have hdn:=xn hbb hi0 hu hn2;refine TK.dr [0,1,2,3,4,5,6,7,8,9,10] [0,1,2,3,4,5,6,7,9,8,10] ?_;refine TD.y [3] Z (hq:=z8 Z Z zi.h (mC _) Z) (h:=?_);refine TD.mv [7] ?_;refine TD.mv [22] ?_;refine TD.cl (pend':=[⟨1,[7],[]⟩,⟨0,[3],[(_,_)]⟩]) [129] Z Z Z Z Z (ziu hT) (fun r253 K254 h255=>⟨?_,?_⟩)
     ·rcases h255 with ⟨rfl,rfl⟩
      all_goals simp
     obtain ⟨rfl,rfl⟩:=h255;try simp only [cA]
     refine TD.norm tQ ?_;refine TD.cl (pend':=[]) [127,128,130] Z Z Z Z Z (xi hT (b:=b) (s:=s) (h:=h) (e:=e) (i:=i) (x:=⟨((bd b i).low+(t:Int)),((bd b i).low+(t:Int))⟩) oQ oQ) (fun r256 K257 h258=>⟨?_,?_⟩)
     ·rcases h258 with ⟨h3,rfl,rfl⟩
      all_goals simp
     obtain ⟨h3,rfl,rfl⟩:=h258;try simp only [cA]
     refine TD.norm tQ ?_;refine TD.cl (pend':=[]) [131] Z Z Z Z Z (uS hT (b:=(dU b i t)) (s:=s) (h:=h3) (e:=e) hdl hdm) (fun r259 K260 h261=>⟨?_,?_⟩)
     ·rcases h261 with ⟨rfl,rfl⟩
      all_goals simp
     obtain ⟨rfl,rfl⟩:=h261;try simp only [cA]
     refine TD.norm tQ ?_;rw [jI hdo,if_pos rfl];refine TD.mv [132] ?_;refine TD.z [126] Z (ye Z Z Z) ?_;refine TD.z [126] Z (ye Z Z Z) ?_;refine TD.at 1 [133] ?_;refine TD.at 0 [134] ?_;refine TD.fin ?_;refine au [4,4,5,1,6,1,1,6,1,1] ?_;refine TK.cl Z Z Z Z (xj hT (l:=shrI b (i:Int)) (by unfold shrI; omega)) ?_;rintro r262 K263 ⟨rfl,rfl⟩;refine au [] ?_;rw [decide_eq_true ((xR hbb hi0 hu).2 hn2)];refine au [34,25,1,1,6,1,6,34,25,3,20] ?_;refine ⟨fun hc3=>?_,fun hc3=>?_⟩
     ·simp [hn2] at hc3
     refine au [12,4,5,1,1,23,2,3,4,4,5,1,6,3,20] ?_;refine ⟨fun hc4=>?_,fun hc4=>?_⟩
     ·exact absurd hc4 dQ
     refine au [12,4,5,8] ?_;refine TK.cl Z Z Z Z ((ze3 hT (b:=(dU b i t)) (s:=s2) (h:=h2) (e:=e2) hdl hdm).mono (fun _ _ h=>or3 h (jI hdo) hn2)) ?_;rintro r265 K266 ⟨rfl,rfl⟩;refine au [1,10,10,22] ?_;intro jp hjp;refine au [17,2,3,4,5,8,1] ?_;refine TK.cl Z Z Z Z ((uv hT (b:=(dU b i t)) (s:=s2) (h:=h2) (e:=e2) hdl hdm hll).mono (fun _ _ h=>or3 h (by rw [kF (jI hdo)]; exact xQ (b:=(dU b i t)) ⟨hcc.pos,hcc.bnd,hcc.asc⟩) hn2)) ?_;rintro r268 K269 ⟨rfl,rfl⟩;refine au [1,10,10,22] ?_;intro jq hjq;refine au [17,2,3,4,4] ?_;refine' TK.shr (X:=Unit) (D:=fun x=>True) (E:=fun x=>naL 3 (.ptr jb 0::naL 3 (intA (i:Int)::.sl jo 0 l.length::intA (zf b).length::.any::.sl j1 0 (shrI b (i:Int)).length::.any::.ptr jx 0::.any::.ptr jy 0::intA r3::.v (.int .i64 (((sumU b i t:Nat):Int)+(((zf (dU b i t)).length:Nat):Int)))::zP (anyU (loU b i) t)::zP (anyU (hiU b i) t)::zP (anyU (leU b l i) t)::zP (anyU (moU b l i) t)::intA ((bd b i).low+(t:Int))::naL 4 (.ptr jp 0::.any::.ptr jq 0::naL 242 [])))) (KK:=fun x=>[(0,zy),(s,zk b),(h,zB b),(e,zq b),(jb,.cells (zE b s h e) 26 true),(jo,.cells (l.map intA) eo false),(j1,.cells ((shrI b (i:Int)).map intA) 3 false),(jx,.cells [intA (newM b).1,intA (newM b).2] 51 true),(jy,.cells [intA (sqLo b (zf b) l),intA (sqHi b (zf b) l)] 51 true),(jp,.cells [intA (newM (dU b i t)).1,intA (newM (dU b i t)).2] 51 true),(jq,.cells [intA (sqLo (dU b i t) (zf (dU b i t)) l),intA (sqHi (dU b i t) (zf (dU b i t)) l)] 51 true)]) ?_ ?_;rotate_left
     ·intro H;refine au [5,1,6,1,7,9,7,9,6,25,1] ?_;refine TK.sp 185 (fun g24_10=>?_) (fun g24_10=>?_)
      ·have:=of_decide_eq_true g24_10; omega
      refine au [7,9,7,9,6,25,1] ?_;refine TK.sp 192 (fun g24_17=>?_) (fun g24_17=>?_)
      ·have:=of_decide_eq_true g24_17; omega
      refine au [1,6,1] ?_;refine TK.sp 195 (fun g24_20=>?_) (fun g24_20=>?_)
      ·have h30:r3=0:=by simpa using g24_20
       obtain ⟨hne,hsq⟩:=hD h30;obtain ⟨q1,q2,q3⟩:=dU_sq hbb hi0 hu hn2 hsq;rw [if_pos q1];refine au [1,6,1,7,9,7,9,6,25,1] ?_;refine TK.sp 205 (fun g24_30=>?_) (fun g24_30=>?_)
       ·have:=of_decide_eq_true g24_30; omega
       refine au [7,9,7,9,6,25,26,25,3,20] ?_;refine ⟨fun hc6=>?_,fun hc6=>?_⟩
       ·first | exact absurd hc6 dQ | (have:=of_decide_eq_true hc6; omega)
       refine au [12] ?_;refine TK.maskL [3,7,8,9,11,13,15,16,17,18,19,20,21,22,27,29] ?_;refine TK.kp [(0,_),(s,_),(h,_),(e,_),(jb,_),(jo,_),(j1,_),(jx,_),(jy,_),(jp,_),(jq,_)] ?_;exact H () trivial
      refine au [11,11,11,11,11,11,11,11,11,11,11,11,11,11,11,11,25,25,3,19,12] ?_;refine TK.maskL [3,7,8,9,11,13,15,16,17,18,19,20,21,22,27,29] ?_;refine TK.kp [(0,_),(s,_),(h,_),(e,_),(jb,_),(jo,_),(j1,_),(jx,_),(jy,_),(jp,_),(jq,_)] ?_;exact H () trivial
     ·rintro _ _;refine TK.na nQ ?_;refine' TK.shr (X:=Bool×Bool×Bool×Bool) (D:=fun x=>x.1=anyU (loU b i) (t+1)/\x.2.1=anyU (hiU b i) (t+1)/\x.2.2.1=anyU (leU b l i) (t+1)/\x.2.2.2=anyU (moU b l i) (t+1)) (E:=fun x=>naL 3 (.ptr jb 0::naL 3 (intA (i:Int)::.sl jo 0 l.length::intA (zf b).length::.any::.sl j1 0 (shrI b (i:Int)).length::.any::.ptr jx 0::.any::.ptr jy 0::intA r3::.v (.int .i64 (((sumU b i t:Nat):Int)+(((zf (dU b i t)).length:Nat):Int)))::zP x.1::zP x.2.1::zP x.2.2.1::zP x.2.2.2::intA ((bd b i).low+(t:Int))::naL 249 []))) (KK:=fun x=>[(0,zy),(s,zk b),(h,zB b),(e,zq b),(jb,.cells (zE b s h e) 26 true),(jo,.cells (l.map intA) eo false),(j1,.cells ((shrI b (i:Int)).map intA) 3 false),(jx,.cells [intA (newM b).1,intA (newM b).2] 51 true),(jy,.cells [intA (sqLo b (zf b) l),intA (sqHi b (zf b) l)] 51 true)]) ?_ ?_;rotate_left
      ·intro H;refine TK.dr [0,1,2,3,4,5,6,7,8,9,10,11,12,13,14,15,16,17,18,19,20,21,22,23,24,25,26,27,28,29,30,31,32,33,34,35] [0,1,2,3,4,5,6,7,8,9,16,17,24,25,32,10,11,12,13,14,15,33,18,19,20,21,22,23,34,26,27,28,29,30,31,35] ?_;refine TD.mv [18] ?_;refine TD.mv [214] ?_;refine TD.sp 215 (fun g26_2=>?_) (fun g26_2=>?_)
       ·have q1:=jB g26_2;refine TD.u [27,215] Z ?_;refine TD.u [215,216] Z ?_;refine TD.u [13,215] Z ?_;refine TD.u [215,218] Z ?_;refine TD.u [215,217,219] Z ?_;refine TD.z [215,220] Z (yE Z Z Z) ?_;refine TD.mv [19] ?_;refine TD.mv [222] ?_;refine TD.sp 223 (fun g26_10=>?_) (fun g26_10=>?_)
        ·have q2:=jB g26_10;refine TD.u [27,223] Z ?_;refine TD.u [223,224] Z ?_;refine TD.u [13,223] Z ?_;refine TD.u [223,226] Z ?_;refine TD.u [223,225,227] Z ?_;refine TD.z [223,228] Z (yE Z Z Z) ?_;refine TD.mv [20] ?_;refine TD.mv [230] ?_;refine TD.sp 231 (fun g26_18=>?_) (fun g26_18=>?_)
         ·have q3:=jB g26_18;refine TD.u [29,231] Z ?_;refine TD.u [231,232] Z ?_;refine TD.u [15,231] Z ?_;refine TD.u [231,234] Z ?_;refine TD.u [231,233,235] Z ?_;refine TD.z [231,236] Z (yE Z Z Z) ?_;refine TD.mv [21] ?_;refine TD.mv [238] ?_;refine TD.sp 239 (fun g26_26=>?_) (fun g26_26=>?_)
          ·have q4:=jB g26_26;refine TD.u [29,239] Z ?_;refine TD.u [239,240] Z ?_;refine TD.u [15,239] Z ?_;refine TD.u [239,242] Z ?_;refine TD.u [239,241,243] Z ?_;refine TD.z [239,244] Z (yE Z Z Z) ?_;refine TD.ag 6 7 17 [221] ?_;refine TD.at 15 [229] ?_;refine TD.at 7 [237] ?_;refine TD.at 0 [245] ?_;refine TD.fin ?_;refine au [14] ?_;refine TK.maskL [3,7,8,9,11,13,15,16,17,18,19,20,21,22] ?_;refine TK.kp [(0,_),(s,_),(h,_),(e,_),(jb,_),(jo,_),(j1,_),(jx,_),(jy,_)] ?_;exact H (_,_,_,_) ⟨q1,q2,q3,q4⟩
          have q4:=jA g26_26 hn24;refine TD.z [29,239] Z (zg Z Z zl.h dQ) ?_;refine TD.y [239,240] Z (hq:=zm Z Z zi.h (mC _) Z) (h:=?_);refine TD.z [15,239] Z (zg Z Z zl.h dQ) ?_;refine TD.y [239,242] Z (hq:=zm Z Z zi.h (mC _) Z) (h:=?_);refine TD.z [239,241,243] Z (q_cmp Z Z Z Z) ?_;refine TD.z [239,244] Z (yf Z Z Z) ?_;refine TD.ag 6 7 17 [221] ?_;refine TD.at 15 [229] ?_;refine TD.at 7 [237] ?_;refine TD.at 0 [245] ?_;refine TD.fin ?_;refine au [14] ?_;refine TK.maskL [3,7,8,9,11,13,15,16,17,18,19,20,21,22] ?_;refine TK.kp [(0,_),(s,_),(h,_),(e,_),(jb,_),(jo,_),(j1,_),(jx,_),(jy,_)] ?_;exact H (_,_,_,_) ⟨q1,q2,q3,q4⟩
         have q3:=jA g26_18 hn23;refine TD.z [29,231] Z (zg Z Z zl.h dQ) ?_;refine TD.y [231,232] Z (hq:=zm Z Z zi.h (mC _) Z) (h:=?_);refine TD.z [15,231] Z (zg Z Z zl.h dQ) ?_;refine TD.y [231,234] Z (hq:=zm Z Z zi.h (mC _) Z) (h:=?_);refine TD.z [231,233,235] Z (q_cmp Z Z Z Z) ?_;refine TD.z [231,236] Z (yf Z Z Z) ?_;refine TD.mv [21] ?_;refine TD.mv [238] ?_;refine TD.sp 239 (fun g26_26=>?_) (fun g26_26=>?_)
         ·have q4:=jB g26_26;refine TD.u [29,239] Z ?_;refine TD.u [239,240] Z ?_;refine TD.u [15,239] Z ?_;refine TD.u [239,242] Z ?_;refine TD.u [239,241,243] Z ?_;refine TD.z [239,244] Z (yE Z Z Z) ?_;refine TD.ag 6 7 17 [221] ?_;refine TD.at 15 [229] ?_;refine TD.at 7 [237] ?_;refine TD.at 0 [245] ?_;refine TD.fin ?_;refine au [14] ?_;refine TK.maskL [3,7,8,9,11,13,15,16,17,18,19,20,21,22] ?_;refine TK.kp [(0,_),(s,_),(h,_),(e,_),(jb,_),(jo,_),(j1,_),(jx,_),(jy,_)] ?_;exact H (_,_,_,_) ⟨q1,q2,q3,q4⟩
         have q4:=jA g26_26 hn24;refine TD.z [29,239] Z (zg Z Z zl.h dQ) ?_;refine TD.y [239,240] Z (hq:=zm Z Z zi.h (mC _) Z) (h:=?_);refine TD.z [15,239] Z (zg Z Z zl.h dQ) ?_;refine TD.y [239,242] Z (hq:=zm Z Z zi.h (mC _) Z) (h:=?_);refine TD.z [239,241,243] Z (q_cmp Z Z Z Z) ?_;refine TD.z [239,244] Z (yf Z Z Z) ?_;refine TD.ag 6 7 17 [221] ?_;refine TD.at 15 [229] ?_;refine TD.at 7 [237] ?_;refine TD.at 0 [245] ?_;refine TD.fin ?_;refine au [14] ?_;refine TK.maskL [3,7,8,9,11,13,15,16,17,18,19,20,21,22] ?_;refine TK.kp [(0,_),(s,_),(h,_),(e,_),(jb,_),(jo,_),(j1,_),(jx,_),(jy,_)] ?_;exact H (_,_,_,_) ⟨q1,q2,q3,q4⟩
        have q2:=jA g26_10 hn22;refine TD.z [27,223] Z (zg Z Z zl.h dQ) ?_;refine TD.y [223,224] Z (hq:=zm Z Z zi.h (mC _) Z) (h:=?_);refine TD.z [13,223] Z (zg Z Z zl.h dQ) ?_;refine TD.y [223,226] Z (hq:=zm Z Z zi.h (mC _) Z) (h:=?_);refine TD.z [223,225,227] Z (q_cmp Z Z Z Z) ?_;refine TD.z [223,228] Z (yf Z Z Z) ?_;refine TD.mv [20] ?_;refine TD.mv [230] ?_;refine TD.sp 231 (fun g26_18=>?_) (fun g26_18=>?_)
        ·have q3:=jB g26_18;refine TD.u [29,231] Z ?_;refine TD.u [231,232] Z ?_;refine TD.u [15,231] Z ?_;refine TD.u [231,234] Z ?_;refine TD.u [231,233,235] Z ?_;refine TD.z [231,236] Z (yE Z Z Z) ?_;refine TD.mv [21] ?_;refine TD.mv [238] ?_;refine TD.sp 239 (fun g26_26=>?_) (fun g26_26=>?_)
         ·have q4:=jB g26_26;refine TD.u [29,239] Z ?_;refine TD.u [239,240] Z ?_;refine TD.u [15,239] Z ?_;refine TD.u [239,242] Z ?_;refine TD.u [239,241,243] Z ?_;refine TD.z [239,244] Z (yE Z Z Z) ?_;refine TD.ag 6 7 17 [221] ?_;refine TD.at 15 [229] ?_;refine TD.at 7 [237] ?_;refine TD.at 0 [245] ?_;refine TD.fin ?_;refine au [14] ?_;refine TK.maskL [3,7,8,9,11,13,15,16,17,18,19,20,21,22] ?_;refine TK.kp [(0,_),(s,_),(h,_),(e,_),(jb,_),(jo,_),(j1,_),(jx,_),(jy,_)] ?_;exact H (_,_,_,_) ⟨q1,q2,q3,q4⟩
         have q4:=jA g26_26 hn24;refine TD.z [29,239] Z (zg Z Z zl.h dQ) ?_;refine TD.y [239,240] Z (hq:=zm Z Z zi.h (mC _) Z) (h:=?_);refine TD.z [15,239] Z (zg Z Z zl.h dQ) ?_;refine TD.y [239,242] Z (hq:=zm Z Z zi.h (mC _) Z) (h:=?_);refine TD.z [239,241,243] Z (q_cmp Z Z Z Z) ?_;refine TD.z [239,244] Z (yf Z Z Z) ?_;refine TD.ag 6 7 17 [221] ?_;refine TD.at 15 [229] ?_;refine TD.at 7 [237] ?_;refine TD.at 0 [245] ?_;refine TD.fin ?_;refine au [14] ?_;refine TK.maskL [3,7,8,9,11,13,15,16,17,18,19,20,21,22] ?_;refine TK.kp [(0,_),(s,_),(h,_),(e,_),(jb,_),(jo,_),(j1,_),(jx,_),(jy,_)] ?_;exact H (_,_,_,_) ⟨q1,q2,q3,q4⟩
        have q3:=jA g26_18 hn23;refine TD.z [29,231] Z (zg Z Z zl.h dQ) ?_;refine TD.y [231,232] Z (hq:=zm Z Z zi.h (mC _) Z) (h:=?_);refine TD.z [15,231] Z (zg Z Z zl.h dQ) ?_;refine TD.y [231,234] Z (hq:=zm Z Z zi.h (mC _) Z) (h:=?_);refine TD.z [231,233,235] Z (q_cmp Z Z Z Z) ?_;refine TD.z [231,236] Z (yf Z Z Z) ?_;refine TD.mv [21] ?_;refine TD.mv [238] ?_;refine TD.sp 239 (fun g26_26=>?_) (fun g26_26=>?_)
        ·have q4:=jB g26_26;refine TD.u [29,239] Z ?_;refine TD.u [239,240] Z ?_;refine TD.u [15,239] Z ?_;refine TD.u [239,242] Z ?_;refine TD.u [239,241,243] Z ?_;refine TD.z [239,244] Z (yE Z Z Z) ?_;refine TD.ag 6 7 17 [221] ?_;refine TD.at 15 [229] ?_;refine TD.at 7 [237] ?_;refine TD.at 0 [245] ?_;refine TD.fin ?_;refine au [14] ?_;refine TK.maskL [3,7,8,9,11,13,15,16,17,18,19,20,21,22] ?_;refine TK.kp [(0,_),(s,_),(h,_),(e,_),(jb,_),(jo,_),(j1,_),(jx,_),(jy,_)] ?_;exact H (_,_,_,_) ⟨q1,q2,q3,q4⟩
        have q4:=jA g26_26 hn24;refine TD.z [29,239] Z (zg Z Z zl.h dQ) ?_;refine TD.y [239,240] Z (hq:=zm Z Z zi.h (mC _) Z) (h:=?_);refine TD.z [15,239] Z (zg Z Z zl.h dQ) ?_;refine TD.y [239,242] Z (hq:=zm Z Z zi.h (mC _) Z) (h:=?_);refine TD.z [239,241,243] Z (q_cmp Z Z Z Z) ?_;refine TD.z [239,244] Z (yf Z Z Z) ?_;refine TD.ag 6 7 17 [221] ?_;refine TD.at 15 [229] ?_;refine TD.at 7 [237] ?_;refine TD.at 0 [245] ?_;refine TD.fin ?_;refine au [14] ?_;refine TK.maskL [3,7,8,9,11,13,15,16,17,18,19,20,21,22] ?_;refine TK.kp [(0,_),(s,_),(h,_),(e,_),(jb,_),(jo,_),(j1,_),(jx,_),(jy,_)] ?_;exact H (_,_,_,_) ⟨q1,q2,q3,q4⟩
       have q1:=jA g26_2 hn21;refine TD.z [27,215] Z (zg Z Z zl.h dQ) ?_;refine TD.y [215,216] Z (hq:=zm Z Z zi.h (mC _) Z) (h:=?_);refine TD.z [13,215] Z (zg Z Z zl.h dQ) ?_;refine TD.y [215,218] Z (hq:=zm Z Z zi.h (mC _) Z) (h:=?_);refine TD.z [215,217,219] Z (q_cmp Z Z Z Z) ?_;refine TD.z [215,220] Z (yf Z Z Z) ?_;refine TD.mv [19] ?_;refine TD.mv [222] ?_;refine TD.sp 223 (fun g26_10=>?_) (fun g26_10=>?_)
       ·have q2:=jB g26_10;refine TD.u [27,223] Z ?_;refine TD.u [223,224] Z ?_;refine TD.u [13,223] Z ?_;refine TD.u [223,226] Z ?_;refine TD.u [223,225,227] Z ?_;refine TD.z [223,228] Z (yE Z Z Z) ?_;refine TD.mv [20] ?_;refine TD.mv [230] ?_;refine TD.sp 231 (fun g26_18=>?_) (fun g26_18=>?_)
        ·have q3:=jB g26_18;refine TD.u [29,231] Z ?_;refine TD.u [231,232] Z ?_;refine TD.u [15,231] Z ?_;refine TD.u [231,234] Z ?_;refine TD.u [231,233,235] Z ?_;refine TD.z [231,236] Z (yE Z Z Z) ?_;refine TD.mv [21] ?_;refine TD.mv [238] ?_;refine TD.sp 239 (fun g26_26=>?_) (fun g26_26=>?_)
         ·have q4:=jB g26_26;refine TD.u [29,239] Z ?_;refine TD.u [239,240] Z ?_;refine TD.u [15,239] Z ?_;refine TD.u [239,242] Z ?_;refine TD.u [239,241,243] Z ?_;refine TD.z [239,244] Z (yE Z Z Z) ?_;refine TD.ag 6 7 17 [221] ?_;refine TD.at 15 [229] ?_;refine TD.at 7 [237] ?_;refine TD.at 0 [245] ?_;refine TD.fin ?_;refine au [14] ?_;refine TK.maskL [3,7,8,9,11,13,15,16,17,18,19,20,21,22] ?_;refine TK.kp [(0,_),(s,_),(h,_),(e,_),(jb,_),(jo,_),(j1,_),(jx,_),(jy,_)] ?_;exact H (_,_,_,_) ⟨q1,q2,q3,q4⟩
         have q4:=jA g26_26 hn24;refine TD.z [29,239] Z (zg Z Z zl.h dQ) ?_;refine TD.y [239,240] Z (hq:=zm Z Z zi.h (mC _) Z) (h:=?_);refine TD.z [15,239] Z (zg Z Z zl.h dQ) ?_;refine TD.y [239,242] Z (hq:=zm Z Z zi.h (mC _) Z) (h:=?_);refine TD.z [239,241,243] Z (q_cmp Z Z Z Z) ?_;refine TD.z [239,244] Z (yf Z Z Z) ?_;refine TD.ag 6 7 17 [221] ?_;refine TD.at 15 [229] ?_;refine TD.at 7 [237] ?_;refine TD.at 0 [245] ?_;refine TD.fin ?_;refine au [14] ?_;refine TK.maskL [3,7,8,9,11,13,15,16,17,18,19,20,21,22] ?_;refine TK.kp [(0,_),(s,_),(h,_),(e,_),(jb,_),(jo,_),(j1,_),(jx,_),(jy,_)] ?_;exact H (_,_,_,_) ⟨q1,q2,q3,q4⟩
        have q3:=jA g26_18 hn23;refine TD.z [29,231] Z (zg Z Z zl.h dQ) ?_;refine TD.y [231,232] Z (hq:=zm Z Z zi.h (mC _) Z) (h:=?_);refine TD.z [15,231] Z (zg Z Z zl.h dQ) ?_;refine TD.y [231,234] Z (hq:=zm Z Z zi.h (mC _) Z) (h:=?_);refine TD.z [231,233,235] Z (q_cmp Z Z Z Z) ?_;refine TD.z [231,236] Z (yf Z Z Z) ?_;refine TD.mv [21] ?_;refine TD.mv [238] ?_;refine TD.sp 239 (fun g26_26=>?_) (fun g26_26=>?_)
        ·have q4:=jB g26_26;refine TD.u [29,239] Z ?_;refine TD.u [239,240] Z ?_;refine TD.u [15,239] Z ?_;refine TD.u [239,242] Z ?_;refine TD.u [239,241,243] Z ?_;refine TD.z [239,244] Z (yE Z Z Z) ?_;refine TD.ag 6 7 17 [221] ?_;refine TD.at 15 [229] ?_;refine TD.at 7 [237] ?_;refine TD.at 0 [245] ?_;refine TD.fin ?_;refine au [14] ?_;refine TK.maskL [3,7,8,9,11,13,15,16,17,18,19,20,21,22] ?_;refine TK.kp [(0,_),(s,_),(h,_),(e,_),(jb,_),(jo,_),(j1,_),(jx,_),(jy,_)] ?_;exact H (_,_,_,_) ⟨q1,q2,q3,q4⟩
        have q4:=jA g26_26 hn24;refine TD.z [29,239] Z (zg Z Z zl.h dQ) ?_;refine TD.y [239,240] Z (hq:=zm Z Z zi.h (mC _) Z) (h:=?_);refine TD.z [15,239] Z (zg Z Z zl.h dQ) ?_;refine TD.y [239,242] Z (hq:=zm Z Z zi.h (mC _) Z) (h:=?_);refine TD.z [239,241,243] Z (q_cmp Z Z Z Z) ?_;refine TD.z [239,244] Z (yf Z Z Z) ?_;refine TD.ag 6 7 17 [221] ?_;refine TD.at 15 [229] ?_;refine TD.at 7 [237] ?_;refine TD.at 0 [245] ?_;refine TD.fin ?_;refine au [14] ?_;refine TK.maskL [3,7,8,9,11,13,15,16,17,18,19,20,21,22] ?_;refine TK.kp [(0,_),(s,_),(h,_),(e,_),(jb,_),(jo,_),(j1,_),(jx,_),(jy,_)] ?_;exact H (_,_,_,_) ⟨q1,q2,q3,q4⟩
       have q2:=jA g26_10 hn22;refine TD.z [27,223] Z (zg Z Z zl.h dQ) ?_;refine TD.y [223,224] Z (hq:=zm Z Z zi.h (mC _) Z) (h:=?_);refine TD.z [13,223] Z (zg Z Z zl.h dQ) ?_;refine TD.y [223,226] Z (hq:=zm Z Z zi.h (mC _) Z) (h:=?_);refine TD.z [223,225,227] Z (q_cmp Z Z Z Z) ?_;refine TD.z [223,228] Z (yf Z Z Z) ?_;refine TD.mv [20] ?_;refine TD.mv [230] ?_;refine TD.sp 231 (fun g26_18=>?_) (fun g26_18=>?_)
       ·have q3:=jB g26_18;refine TD.u [29,231] Z ?_;refine TD.u [231,232] Z ?_;refine TD.u [15,231] Z ?_;refine TD.u [231,234] Z ?_;refine TD.u [231,233,235] Z ?_;refine TD.z [231,236] Z (yE Z Z Z) ?_;refine TD.mv [21] ?_;refine TD.mv [238] ?_;refine TD.sp 239 (fun g26_26=>?_) (fun g26_26=>?_)
        ·have q4:=jB g26_26;refine TD.u [29,239] Z ?_;refine TD.u [239,240] Z ?_;refine TD.u [15,239] Z ?_;refine TD.u [239,242] Z ?_;refine TD.u [239,241,243] Z ?_;refine TD.z [239,244] Z (yE Z Z Z) ?_;refine TD.ag 6 7 17 [221] ?_;refine TD.at 15 [229] ?_;refine TD.at 7 [237] ?_;refine TD.at 0 [245] ?_;refine TD.fin ?_;refine au [14] ?_;refine TK.maskL [3,7,8,9,11,13,15,16,17,18,19,20,21,22] ?_;refine TK.kp [(0,_),(s,_),(h,_),(e,_),(jb,_),(jo,_),(j1,_),(jx,_),(jy,_)] ?_;exact H (_,_,_,_) ⟨q1,q2,q3,q4⟩
        have q4:=jA g26_26 hn24;refine TD.z [29,239] Z (zg Z Z zl.h dQ) ?_;refine TD.y [239,240] Z (hq:=zm Z Z zi.h (mC _) Z) (h:=?_);refine TD.z [15,239] Z (zg Z Z zl.h dQ) ?_;refine TD.y [239,242] Z (hq:=zm Z Z zi.h (mC _) Z) (h:=?_);refine TD.z [239,241,243] Z (q_cmp Z Z Z Z) ?_;refine TD.z [239,244] Z (yf Z Z Z) ?_;refine TD.ag 6 7 17 [221] ?_;refine TD.at 15 [229] ?_;refine TD.at 7 [237] ?_;refine TD.at 0 [245] ?_;refine TD.fin ?_;refine au [14] ?_;refine TK.maskL [3,7,8,9,11,13,15,16,17,18,19,20,21,22] ?_;refine TK.kp [(0,_),(s,_),(h,_),(e,_),(jb,_),(jo,_),(j1,_),(jx,_),(jy,_)] ?_;exact H (_,_,_,_) ⟨q1,q2,q3,q4⟩
       have q3:=jA g26_18 hn23;refine TD.z [29,231] Z (zg Z Z zl.h dQ) ?_;refine TD.y [231,232] Z (hq:=zm Z Z zi.h (mC _) Z) (h:=?_);refine TD.z [15,231] Z (zg Z Z zl.h dQ) ?_;refine TD.y [231,234] Z (hq:=zm Z Z zi.h (mC _) Z) (h:=?_);refine TD.z [231,233,235] Z (q_cmp Z Z Z Z) ?_;refine TD.z [231,236] Z (yf Z Z Z) ?_;refine TD.mv [21] ?_;refine TD.mv [238] ?_;refine TD.sp 239 (fun g26_26=>?_) (fun g26_26=>?_)
       ·have q4:=jB g26_26;refine TD.u [29,239] Z ?_;refine TD.u [239,240] Z ?_;refine TD.u [15,239] Z ?_;refine TD.u [239,242] Z ?_;refine TD.u [239,241,243] Z ?_;refine TD.z [239,244] Z (yE Z Z Z) ?_;refine TD.ag 6 7 17 [221] ?_;refine TD.at 15 [229] ?_;refine TD.at 7 [237] ?_;refine TD.at 0 [245] ?_;refine TD.fin ?_;refine au [14] ?_;refine TK.maskL [3,7,8,9,11,13,15,16,17,18,19,20,21,22] ?_;refine TK.kp [(0,_),(s,_),(h,_),(e,_),(jb,_),(jo,_),(j1,_),(jx,_),(jy,_)] ?_;exact H (_,_,_,_) ⟨q1,q2,q3,q4⟩
       have q4:=jA g26_26 hn24;refine TD.z [29,239] Z (zg Z Z zl.h dQ) ?_;refine TD.y [239,240] Z (hq:=zm Z Z zi.h (mC _) Z) (h:=?_);refine TD.z [15,239] Z (zg Z Z zl.h dQ) ?_;refine TD.y [239,242] Z (hq:=zm Z Z zi.h (mC _) Z) (h:=?_);refine TD.z [239,241,243] Z (q_cmp Z Z Z Z) ?_;refine TD.z [239,244] Z (yf Z Z Z) ?_;refine TD.ag 6 7 17 [221] ?_;refine TD.at 15 [229] ?_;refine TD.at 7 [237] ?_;refine TD.at 0 [245] ?_;refine TD.fin ?_;refine au [14] ?_;refine TK.maskL [3,7,8,9,11,13,15,16,17,18,19,20,21,22] ?_;refine TK.kp [(0,_),(s,_),(h,_),(e,_),(jb,_),(jo,_),(j1,_),(jx,_),(jy,_)] ?_;exact H (_,_,_,_) ⟨q1,q2,q3,q4⟩
      ·rintro ⟨w1,w2,w3,w4⟩ ⟨q1,q2,q3,q4⟩; dsimp only at q1 q2 q3 q4 ⊢;refine TK.na nQ ?_;refine au [5,1,23,2,3] ?_;refine TK.maskL [3,7,8,9,11,13,15,16,17,18,19,20,21,22] ?_;refine TK.kp [(0,_),(s,_),(h,_),(e,_),(jb,_),(jo,_),(j1,_),(jx,_),(jy,_)] ?_;exact hnext _ _ _ oQ ⟨t+1,rfl,oQ,by rw [hst1,<- q1,<- q2,<- q3,<- q4,ht1] <;> rfl,rfl⟩
   ·rintro jd hn2;refine TK.na nQ ?_;obtain ⟨hz1,hz2,hz3,hz4⟩:=qm l hn2;have hl1:=jS hz1;have hl2:=jS hz2;have hl3:=jS hz3;have hl4:=jS hz4;refine TK.dr [0,1,2,3,4,5,6,7,8,9,10] [0,1,2,3,4,5,6,7,9,8,10] ?_;refine TD.y [3] Z (hq:=z8 Z Z zi.h (mC _) Z) (h:=?_);refine TD.mv [7] ?_;refine TD.mv [22] ?_;refine TD.cl (pend':=[⟨1,[7],[]⟩,⟨0,[3],[(_,_)]⟩]) [129] Z Z Z Z Z (ziu hT) (fun r238 K239 h240=>⟨?_,?_⟩)
    ·rcases h240 with ⟨rfl,rfl⟩
     all_goals simp
    obtain ⟨rfl,rfl⟩:=h240;try simp only [cA]
    refine TD.norm tQ ?_;refine TD.cl (pend':=[]) [127,128,130] Z Z Z Z Z (xi hT (b:=b) (s:=s) (h:=h) (e:=e) (i:=i) (x:=⟨((bd b i).low+(t:Int)),((bd b i).low+(t:Int))⟩) oQ oQ) (fun r241 K242 h243=>⟨?_,?_⟩)
    ·rcases h243 with ⟨h3,rfl,rfl⟩
     all_goals simp
    obtain ⟨h3,rfl,rfl⟩:=h243;try simp only [cA]
    refine TD.norm tQ ?_;refine TD.cl (pend':=[]) [131] Z Z Z Z Z (uS hT (b:=(dU b i t)) (s:=s) (h:=h3) (e:=e) hdl hdm) (fun r244 K245 h246=>⟨?_,?_⟩)
    ·rcases h246 with ⟨rfl,rfl⟩
     all_goals simp
    obtain ⟨rfl,rfl⟩:=h246;try simp only [cA]
    refine TD.norm tQ ?_;rw [jI hdo,if_pos rfl];refine TD.mv [132] ?_;refine TD.z [126] Z (ye Z Z Z) ?_;refine TD.z [126] Z (ye Z Z Z) ?_;refine TD.at 1 [133] ?_;refine TD.at 0 [134] ?_;refine TD.fin ?_;refine au [4,4,5,1,6,1,1,6,1,1] ?_;refine TK.cl Z Z Z Z (xj hT (l:=shrI b (i:Int)) (by unfold shrI; omega)) ?_;rintro r247 K248 ⟨rfl,rfl⟩;refine au [] ?_;rw [decide_eq_false (fun hz=>(xR hbb hi0 hu).1 hz hn2)];refine au [34,25,1,1,6,1,6,34,25,3,20] ?_;refine ⟨fun hc3=>?_,fun hc3=>?_⟩
    ·simp [hn2] at hc3
    refine au [12,4,5,1,1,23,2,3,4,4,5,1,6,3,20] ?_;refine ⟨fun hc4=>?_,fun hc4=>?_⟩
    ·
     refine au [4,4,5,1,6,1,8,44] ?_;refine TK.cl Z Z Z Z (qd hT) ?_;rintro r250 K251 ⟨rfl,rfl⟩;refine au [30,25,3,20] ?_;refine ⟨fun hc5=>?_,fun hc5=>?_⟩
     ·exact absurd hc5 dQ
     refine au [12,16] ?_;skip;refine au [5,1,23,2,3] ?_;refine TK.maskL [3,7,8,9,11,13,15,16,17,18,19,20,21,22] ?_;refine TK.kp [(0,_),(s,_),(h,_),(e,_),(jb,_),(jo,_),(j1,_),(jx,_),(jy,_)] ?_;exact hnext _ _ _ oQ ⟨t+1,rfl,oQ,by rw [hst1,hl1,hl2,hl3,hl4,ht1] <;> rfl,rfl⟩
    exact absurd hc4 dQ
  obtain rfl:t=cntU b i:=by simp at hc2; omega
  refine au [16,4] ?_;rw [qk hbb hi0];refine au [5,1,1,6,1] ?_;refine TK.sp 249 (fun g27_4=>?_) (fun g27_4=>?_)
  ·refine au [1,6,1] ?_;refine TK.sp 252 (fun g27_7=>?_) (fun g27_7=>?_)
   ·refine au [11,11,11,11,26,26,1,1,6,1] ?_;refine TK.sp 262 (fun g27_17=>?_) (fun g27_17=>?_)
    ·refine au [11,11,11,11,26,26,1] ?_;refine TK.cl Z Z Z Z (zi5) ?_;rintro r271 K272 ⟨rfl,rfl⟩;refine au [26,2,3] ?_;refine TK.rt hret [] ?_;rfl
    have h30:r3=0:=by simpa using g27_17
    obtain ⟨hne,hsq⟩:=hD h30;obtain ⟨z3,z4⟩:=xI hbb hi0 hne hsq;rw [z3,z4];refine au [1,1,1,26,25,26,1] ?_;refine TK.cl Z Z Z Z (zi5) ?_;rintro r274 K275 ⟨rfl,rfl⟩;refine au [26,2,3] ?_;refine TK.rt hret [] ?_;rfl
   have hne:zf b≠[]:=fun e=>by rw [e] at g27_7; simp at g27_7
   obtain ⟨z1,z2⟩:=qz hbb hi0 hne;rw [z1,z2];refine au [1,1,1,26,25,26,1,1,6,1] ?_;refine TK.sp 262 (fun g27_17=>?_) (fun g27_17=>?_)
   ·refine au [11,11,11,11,26,26,1] ?_;refine TK.cl Z Z Z Z (zi5) ?_;rintro r277 K278 ⟨rfl,rfl⟩;refine au [26,2,3] ?_;refine TK.rt hret [] ?_;rfl
   have h30:r3=0:=by simpa using g27_17
   obtain ⟨hne,hsq⟩:=hD h30;obtain ⟨z3,z4⟩:=xI hbb hi0 hne hsq;rw [z3,z4];refine au [1,1,1,26,25,26,1] ?_;refine TK.cl Z Z Z Z (zi5) ?_;rintro r280 K281 ⟨rfl,rfl⟩;refine au [26,2,3] ?_;refine TK.rt hret [] ?_;rfl
  simp at g27_4
end Go.Vel
end
