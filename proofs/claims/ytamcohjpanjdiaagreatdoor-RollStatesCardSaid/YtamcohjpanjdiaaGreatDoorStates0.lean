/- The law RollStates: what is told of the states is what the reference tells. It holds of every program, tape and world that the statements name, as each theorem says. -/
import Derived.Sort.AssemblyPlain
import Derived.Sort.LotD3
import Derived.Test.YtamcohjpanjdiaaGreatDoorJ6
import Derived.Test.YtamcohjpanjdiaaGreatDoorJ7
import Derived.Test.YtamcohjpanjdiaaGreatDoorJ8
import Derived.Test.YtamcohjpanjdiaaGreatDoorJ10
section
set_option linter.all false
set_option maxRecDepth 20000
set_option maxHeartbeats 60000000
open Go.Proofs.Tryz renaming prog -> tp
open List renaming getElem?_eq_getElem -> lA, nil_append -> lC, getElem?_eq_some_iff -> lD, getD_eq_getElem?_getD -> lE, length_append -> lF, getElem?_append_left -> lG, perm_append_comm -> lH, mem_cons -> lI, length_map -> lJ, eq_nil_of_length_eq_zero -> lK, map_append -> lM, mem_of_getElem? -> lN, getElem?_map -> lQ, append_nil -> lR, mem_singleton -> lS, mem_append -> lT, getElem?_eq_none -> lU, mem_append_left -> lV, take_length -> lW, getElem?_set -> lX, mem_map -> lY, length_cons -> lZ, replicate -> mB
open List.Mem renaming head -> mC
open Nat renaming le_refl -> mL, zero_le -> mN, lt_or_ge -> mR
open Bool renaming and_eq_true -> mX
open Int renaming toNat_natCast -> mZ
open Go.Vel.TK renaming maskL -> bA, rt -> bB, kp -> bC, cl -> bD, loopN -> bE, na -> bG, a -> bH, newR -> bI, dq -> bL, perm -> bN, appR -> bO, frzRow -> bY, asSl -> bZ
open Go.Vel.TD renaming cl -> bQ, s -> bR, norm -> bS, y -> bT, z -> bU, sp -> bW
namespace Go.Vel
open Go Go.Conc
theorem xd {xs:List Int} (hs:∀ i j,i<j->j<xs.length->zN xs i<=zN xs j):∀ p,p<=xs.length->(compN xs p).Pairwise (· < ·)/\(∀ z,z∈compN xs p↔z∈xs.take p)/\(∀ z∈compN xs p,0<p/\z<=zN xs (p - 1))
 | 0,_=>⟨.nil,fun z=>by simp [compN],fun z hz=>by cases hz⟩
 | 1,h=>by
  have e:xs.take 1=[zN xs 0]:=by rw [yQ (z6 (l:=xs) (k:=0) oQ)]; rfl
  refine ⟨?_,fun z=>Iff.rfl,fun z hz=>?_⟩
  ·show (xs.take 1).Pairwise _;rw [e]; exact List.pairwise_singleton _ _
  ·have hz:z∈xs.take 1:=hz;rw [e] at hz;exact ⟨by omega,by rw [lS.1 hz]; exact Int.le_refl _⟩
 | p+2,h=>by
  obtain ⟨h1,h2,h3⟩:=xd hs (p+1) oQ;have hle:=hs p (p+1) oQ oQ;have ht:xs.take (p+2)=xs.take (p+1)++[zN xs (p+1)]:=yQ (z6 oQ);by_cases e:zN xs p=zN xs (p+1)
  ·rw [vY e];have hm:zN xs p∈xs.take (p+1):=by rw [yQ (z6 (l:=xs) (k:=p) oQ)]; simp
   refine ⟨h1,fun z=>?_,fun z hz=>⟨by omega,?_⟩⟩
   ·rw [ht,h2 z,lT,lS];exact ⟨.inl,fun hh=>hh.elim id fun hh=>by rw [hh,<- e]; exact hm⟩
   ·have:=(h3 z hz).2;rw [Nat.add_sub_cancel] at this;show z<=zN xs (p+1);omega
  ·rw [vZ e];refine ⟨List.pairwise_append.2 ⟨h1,List.pairwise_singleton _ _,fun x hx y hy=>?_⟩,fun z=>?_,fun z hz=>⟨by omega,?_⟩⟩
   ·rw [lS.1 hy];have:=(h3 x hx).2;rw [Nat.add_sub_cancel] at this;omega
   ·rw [ht,lT,lT,h2 z]
   ·show z<=zN xs (p+1);rcases lT.1 hz with hz | hz
    ·have:=(h3 z hz).2;rw [Nat.add_sub_cancel] at this;omega
    ·rw [lS.1 hz]; exact Int.le_refl _
theorem ja9 {l m:List Int} (hl:l.Pairwise (· < ·)) (hm:m.Pairwise (· < ·)) (h:∀ z,z∈l↔z∈m):l=m:=by
 have h1:l.Perm m:=(List.perm_ext_iff_of_nodup (hl.imp fun h=>by omega) (hm.imp fun h=>by omega)).2 h;exact h1.eq_of_pairwise (le:=fun a b=>a<b) (fun a b _ _ h1 h2=>by omega) hl hm
def msI (xs:List Int):List Int:=xs.mergeSort fun x y=>decide (x<=y)
theorem qO (xs:List Int):(msI xs).length=xs.length:=(List.mergeSort_perm ..).length_eq
theorem jbl {xs:List Int} {z:Int}:z∈msI xs↔z∈xs:=(List.mergeSort_perm ..).mem_iff
theorem qN (xs:List Int):∀ i j,i<j->j<(msI xs).length->zN (msI xs) i<=zN (msI xs) j:=fun i j hij hj=>by
 have hp:(msI xs).Pairwise fun x y=>decide (x<=y)=true:=List.pairwise_mergeSort (le:=fun x y:Int=>decide (x<=y)) (fun a b c h1 h2=>decide_eq_true (Int.le_trans (of_decide_eq_true h1) (of_decide_eq_true h2))) (fun a b=>by rcases Int.le_total a b with h | h <;> simp [h]) xs;have h1:=z6 (l:=msI xs) (k:=i) oQ;have h2:=z6 hj;have:=List.pairwise_iff_getElem.1 hp i j oQ hj hij;rw [lA oQ] at h1;rw [lA hj] at h2;rw [Option.some.inj h1,Option.some.inj h2] at this;exact of_decide_eq_true this
def setI (xs:List Int):List Int:=compM (msI xs)
theorem jaQ (xs:List Int):(setI xs).Pairwise (· < ·):=(xd (qN xs) _ (mL _)).1
theorem jaR {xs:List Int} {z:Int}:z∈setI xs↔z∈xs:=by
 have:=(xd (qN xs) _ (mL _)).2.1 z;rw [lW] at this;exact this.trans jbl
theorem ql (xs:List Int):(setI xs).length<=xs.length:=by
 have h:(setI xs).length<=(msI xs).length:=zbA (msI xs) _ (mL _);rwa [qO] at h
def shrI (b:RBk) (n:Int):List Int:=setI ((zf b).map fun s=>zN s n.toNat)
theorem jaZ (b:RBk) (all:List (List Int)) (l:List Int):sqOk b all l=true↔∀ s∈all,(hangM b l s).isSome=true:=by
 unfold sqOk squaresM waysM;have key:(all.filterMap (hangM b l)).length<all.length↔¬ ∀ s∈all,(hangM b l s).isSome=true:=by
  induction all with
  | nil=>simp
  | cons s r ih =>
   have hle:(r.filterMap (hangM b l)).length<=r.length:=List.length_filterMap_le _ _;cases hs:hangM b l s with
   | none =>
    rw [List.filterMap_cons_none hs];simp [hs];omega
   | some z =>
    rw [List.filterMap_cons_some hs,lZ,lZ,Nat.succ_lt_succ_iff,ih];simp [hs]
 by_cases h:(all.filterMap (hangM b l)).length<all.length
 ·rw [if_pos h];simp only [Option.isSome_none,Bool.false_eq_true,false_iff];exact key.1 h
 ·rw [if_neg h];simp only [Option.isSome_some,true_iff];exact Classical.not_not.1 fun hh=>h (key.2 hh)
def otherM (c n:Nat):List Int:=if zw c n=[] then [((c % n:Nat):Int)] else zw c n
def sumF (f:Nat->Int):Nat->Int
 | 0=>0
 | k+1=>sumF f k+f k
theorem xB {f g:Nat->Int}:∀ n,(∀ i,i<n->f i=g i)->sumF f n=sumF g n
 | 0,_=>rfl
 | n+1,h=>by
  unfold sumF;rw [xB n (fun i hi=>h i oQ),h n oQ]
theorem xW {f:Nat->Int} {n:Nat} (h:∀ i,n<=i->f i=0):∀ k,sumF f (n+k)=sumF f n
 | 0=>rfl
 | k+1=>by
  show sumF f (n+k)+f (n+k)=_;rw [xW h k,h _ oQ,Int.add_zero]
theorem xP {lt:Int->Int->Bool} {x:Int} {S:List Int}:∀ j,j<=S.length->(insJ lt x S j).Perm (x::S)
 | 0,_=>List.Perm.refl _
 | j+1,h=>by
  unfold insJ;rw [lA oQ];dsimp only;split
  ·exact xP j oQ
  ·have h1:=List.perm_middle (a:=x) (l₁:=S.take (j+1)) (l₂:=S.drop (j+1));rwa [List.take_append_drop] at h1
theorem jJ {lt:Int->Int->Bool} {l:List Int}:∀ i,i<=l.length->(sortN lt l i).Perm (l.take i)
 | 0,_=>by rw [List.take_zero]; exact List.Perm.refl _
 | i+1,h=>by
  have hg:l[i]? =some l[i]:=lA oQ;rw [wD hg,yQ hg];exact (xP _ (mL _)).trans ((List.Perm.cons _ (jJ i oQ)).trans (List.perm_append_singleton _ _).symm)
theorem jas (b:RBk) (l:List Int):(ordM b l).Nodup:=by
 unfold ordM sortR;refine (jJ _ (mL _)).nodup_iff.2 ?_;rw [lW];unfold idxM;exact List.Pairwise.map _ (fun a b hab=>by intro h; exact hab oQ) List.nodup_range
theorem jW {L:List Int} {k i:Nat} {v:Int} (h:k<L.length):(L.set k v).getD i 0=if i=k then v else L.getD i 0:=by
 rw [lE,lX,lE];by_cases e:k=i
 ·rw [if_pos e,if_pos h,if_pos e.symm]; rfl
 ·rw [if_neg e,if_neg (fun hh=>e hh.symm)]
def needM (b:RBk) (l w:List Int) (k:Nat):Int:=sumF (fun i=>(cutS b l i).spoil+w.getD i 0*(cutS b l i).busy) k
theorem jak {b:RBk} (hb:ROk b) {s:List Int} (hs:StOk b s):freshM b s=b.round - b.steps+sumF (fun i=>s.getD i 0) b.seams.length:=by
 have hl:=hb.sms.len;have h5:sumF (fun i=>s.getD i 0) 5=sumF (fun i=>s.getD i 0) b.seams.length:=by
  have:=xW (f:=fun i=>s.getD i 0) (n:=b.seams.length) (fun i hi=>by
   show s.getD i 0=0;rw [lE,lU (by rw [hs.len]; exact hi)];rfl) (5 - b.seams.length)
  rwa [show b.seams.length+(5 - b.seams.length)=5 by omega] at this
 rw [<- h5];show freshM b s=b.round - b.steps+(0+s.getD 0 0+s.getD 1 0+s.getD 2 0+s.getD 3 0+s.getD 4 0);unfold freshM;omega
def manyM (b:RBk) (l:List Int) (i:Nat):Int:=if i+1<l.length then zN l (i+1) - zN l i else zN l 0 - zN l i+b.seams.length
theorem xG {b:RBk} {l:List Int} (hl:CutsOk b l) {i:Nat} (hi:i<l.length):1<=manyM b l i/\manyM b l i<=b.seams.length:=by
 have h1:=hl.lt hi;have h0:=hl.lt hl.pos;unfold manyM;split
 ·rename_i h;have h2:=hl.lt h;have hlt:=zhO hl h;omega
 ·have:zN l 0<=zN l i:=by
   by_cases e:i=0
   ·subst e; omega
   ·have e1:=z6 hl.pos;have e2:=z6 hi;have:=List.pairwise_iff_getElem.1 hl.asc 0 i hl.pos hi oQ;rw [lA hl.pos] at e1;rw [lA hi] at e2;rw [Option.some.inj e1,Option.some.inj e2] at this;omega
  omega
def nowS (b:RBk) (s:List Int) (x:Nat):Int:=sumF (nowM b s) x
theorem qx (b:RBk) (s:List Int) (c:Nat):∀ k,c+k<=b.seams.length->togM b s c k=nowS b s (c+k) - nowS b s c
 | 0,_=>by show (0:Int)=_; rw [Nat.add_zero]; omega
 | k+1,h=>by
  unfold togM;rw [qx b s c k oQ,Nat.mod_eq_of_lt oQ];show _=nowS b s (c+k)+nowM b s (c+k) - _;omega
theorem xC (b:RBk) (s:List Int) {c:Nat} (hc:c<=b.seams.length):∀ r,r<=b.seams.length->togM b s c (b.seams.length - c+r)=nowS b s b.seams.length - nowS b s c+nowS b s r
 | 0,_=>by
  rw [Nat.add_zero,qx b s c _ oQ,show c+(b.seams.length - c)=b.seams.length by omega];show _=_+(0:Int);omega
 | r+1,h=>by
  rw [<- Nat.add_assoc];unfold togM;rw [xC b s hc r oQ,show c+(b.seams.length - c+r)=b.seams.length+r by omega,Nat.add_mod_left,Nat.mod_eq_of_lt oQ];show _=_+(nowS b s r+nowM b s r);omega
theorem jF {b:RBk}:∀ k,k<b.seams.length->sumF (wideM b) k=(sm b k).step - (sm b 0).step
 | 0,_=>by show (0:Int)=_; omega
 | k+1,h=>by
  show sumF _ k+wideM b k=_;rw [jF k oQ];unfold wideM;rw [if_pos h];omega
theorem ja1 {b:RBk} (h:0<b.seams.length):sumF (wideM b) b.seams.length=b.steps:=by
 obtain ⟨k,hk⟩:∃ k,b.seams.length=k+1:=⟨b.seams.length - 1,oQ⟩;rw [hk];show sumF _ k+wideM b k=_;rw [jF k oQ];unfold wideM;rw [if_neg oQ];omega
def fS (f:Int->Int):List Int->Int
 | []=>0
 | k::o=>f k+fS f o
theorem xN (f:Int->Int):∀ a c,fS f (a++c)=fS f a+fS f c
 | [],c=>by show fS f c=0+fS f c; omega
 | k::a,c=>by show f k+fS f (a++c)=f k+fS f a+fS f c; rw [xN f a c]; omega
theorem jbe (f:Int->Int) {a c:List Int} (h:a.Perm c):fS f a=fS f c:=by
 induction h with
 | nil=>rfl
 | cons x _ ih=>show f x+_=f x+_; rw [ih]
 | swap x y l=>show f y+(f x+fS f l)=f x+(f y+fS f l); omega
 | trans _ _ h1 h2=>exact h1.trans h2
theorem jai (f:Int->Int):∀ n,fS f (idxM n)=sumF (fun i=>f i) n
 | 0=>rfl
 | n+1=>by
  have e:idxM (n+1)=idxM n++[(n:Int)]:=by unfold idxM; rw [List.range_succ,lM]; rfl
  rw [e,xN,jai f n];show _+(f n+0)=_+f n;omega
theorem x8 (f:Int->Int) (b:RBk) (l:List Int):fS f (ordM b l)=sumF (fun i=>f i) l.length:=by
 rw [<- jai];unfold ordM sortR;refine jbe f ?_;have h:=jJ (lt:=busyLt b l) (l:=idxM l.length) (idxM l.length).length (mL _);rwa [lW] at h
theorem fS_nn {f:Int->Int}:∀ o:List Int,(∀ k∈o,0<=f k)->0<=fS f o
 | [],_=>Int.le_refl _
 | k::o,h=>by
  have h1:=h k sQ;have h2:=fS_nn o (fun x hx=>h x (by simp [hx]));show 0<=f k+_;omega
def gC (m c:Int->Int):List Int->Int->Int
 | [],_=>0
 | k::o,n=>min n (m k)*c k+gC m c o (n - min n (m k))
theorem xq {lt:Int->Int->Bool} {K:Int->Int} {x:Int} {S:List Int} (hlt:∀ y∈S,lt x y=decide (K x<K y)) (hS:S.Pairwise fun a c=>K a<=K c):∀ j,j<=S.length->(∀ i y,j<=i->S[i]? =some y->K x<K y)->(insJ lt x S j).Pairwise fun a c=>K a<=K c
 | 0,_,h=>by
  refine List.pairwise_cons.2 ⟨fun y hy=>?_,hS⟩;obtain ⟨i,hi,rfl⟩:=List.getElem_of_mem hy;have:=h i _ (mN _) (lA hi);omega
 | j+1,hj,h=>by
  have hg:S[j]? =some S[j]:=lA oQ;have hm:S[j]∈S:=List.getElem_mem _;unfold insJ;rw [hg];dsimp only;by_cases hl:lt x S[j]=true
  ·rw [if_pos hl];rw [hlt _ hm] at hl;refine xq hlt hS j oQ fun i y hi hy=>?_;by_cases e:i=j
   ·subst e;rw [hg] at hy;cases hy;exact of_decide_eq_true hl
   ·exact h i y oQ hy
  ·rw [if_neg hl];rw [hlt _ hm] at hl;have hl:¬ K x<K S[j]:=by simpa using hl
   have hS':=hS;rw [<- List.take_append_drop (j+1) S] at hS';obtain ⟨p1,p2,p3⟩:=List.pairwise_append.1 hS';have hd:∀ y∈S.drop (j+1),K x<=K y:=fun y hy=>by
    obtain ⟨i,hi,rfl⟩:=List.getElem_of_mem hy;rw [List.getElem_drop];have:=h (j+1+i) _ oQ (lA (by rw [List.length_drop] at hi; omega));omega
   have ht:∀ a∈S.take (j+1),K a<=K x:=fun a ha=>by
    have p1':=p1;rw [yQ hg] at ha p1';rcases lT.1 ha with ha | ha
    ·have:=(List.pairwise_append.1 p1').2.2 a ha S[j] sQ;omega
    ·rw [lS.1 ha]; omega
   refine List.pairwise_append.2 ⟨p1,List.pairwise_cons.2 ⟨hd,p2⟩,fun a ha c hc=>?_⟩;rcases lI.1 hc with rfl | hc
   ·exact ht a ha
   ·exact p3 a ha c hc
theorem xj {lt:Int->Int->Bool} {K:Int->Int} {l:List Int} (hlt:∀ x∈l,∀ y∈l,lt x y=decide (K x<K y)):∀ i,i<=l.length->(sortN lt l i).Pairwise fun a c=>K a<=K c
 | 0,_=>.nil
 | i+1,h=>by
  have hg:l[i]? =some l[i]:=lA oQ;rw [wD hg];refine xq (fun y hy=>hlt _ (List.getElem_mem _) y (uU i oQ y hy)) (xj hlt i oQ) _ (mL _) fun k y hk hy=>?_;rw [lU hk] at hy;cases hy
def pw:Nat->Int
 | 0=>10000
 | 1=>1000
 | 2=>100
 | 3=>10
 | _=>1
def wgt (b:RBk) (l:List Int) (k:Int):Int:=(cutS b l k.toNat).busy*1000000+pw k.toNat
theorem xu {b:RBk} {l:List Int}:∀ (o:List Int) (z:Alloc),(∀ k∈o,0<=(cutS b l k.toNat).most)->0<=z.left->(o.foldl (allocM b l) z).left=max 0 (z.left - fS (fun k=>(cutS b l k.toNat).most) o)
 | [],z,_,h=>by show z.left=max 0 (z.left - 0); omega
 | k::o,z,hm,h=>by
  have hk:=hm k sQ;rw [List.foldl_cons,xu o _ (fun x hx=>hm x (by simp [hx])) (by show 0<=z.left - min z.left (cutS b l k.toNat).most; omega)];show max 0 (z.left - min z.left (cutS b l k.toNat).most - _)=max 0 (z.left - ((cutS b l k.toNat).most+_));have h0:=fS_nn (f:=fun k=>(cutS b l k.toNat).most) o (fun x hx=>hm x (by simp [hx]));omega
def mostS (b:RBk) (l:List Int) (k:Nat):Int:=sumF (fun i=>(cutS b l i).most) k
theorem xk {b:RBk} (hb:ROk b) {l:List Int} (hl:CutsOk b l):∀ k∈ordM b l,0<=(cutS b l k.toNat).most:=fun k hk=>by
 have:=zdP hk;exact (hb.sms.fld _ (hl.lt (k:=k.toNat) oQ).2.2).2.2.1
theorem qZ {b:RBk} (hb:ROk b) {l s:List Int} (hl:CutsOk b l) (hs:StOk b s):(hangM b l s).isSome=(fitsM b l&&decide (freshM b s<=mostS b l l.length)):=by
 have hleft:=xu (b:=b) (l:=l) (ordM b l) (alloc0 b l (freshM b s)) (xk hb hl) (zcm hb hs).1;rw [x8] at hleft;simp only [mZ] at hleft;have e:(alloc0 b l (freshM b s)).left=freshM b s:=rfl;unfold hangM;by_cases hf:fitsM b l=false
 ·rw [if_pos hf,hf]; rfl
 ·rw [if_neg hf,show fitsM b l=true by simpa using hf,Bool.true_and];dsimp only;unfold allocA mostS;by_cases h:0<((ordM b l).foldl (allocM b l) (alloc0 b l (freshM b s))).left
  ·rw [if_pos h,decide_eq_false oQ]; rfl
  ·rw [if_neg h,decide_eq_true oQ]; rfl
def numW (x:List Int) (n:Nat):Int:=sumF (fun i=>x.getD i 0*pw i) n
structure Wider (b o:RBk):Prop where
 steps:o.steps=b.steps
 round:o.round=b.round
 roll:b.roll<=o.roll
 rolls:b.rolls<=o.rolls
 len:o.seams.length=b.seams.length
 shr:o.shrinks=b.shrinks
 mes:o.measures=b.measures
 sm:∀ i,i<b.seams.length->(sm o i).step=(sm b i).step/\(sm o i).busy=(sm b i).busy/\(sm o i).spoil=(sm b i).spoil/\(sm o i).whole=(sm b i).whole/\(sm b i).most<=(sm o i).most
theorem Wider.wide {b o:RBk} (h:Wider b o) {i:Nat} (hi:i<b.seams.length):wideM o i=wideM b i:=by
 unfold wideM;rw [h.len,h.steps,(h.sm i hi).1,(h.sm 0 oQ).1];by_cases e:i+1<b.seams.length
 ·rw [if_pos e,if_pos e,(h.sm _ e).1]
 ·rw [if_neg e,if_neg e]
theorem Wider.st {b o:RBk} (h:Wider b o) {s:List Int} (hs:StOk b s):StOk o s:=⟨by rw [h.len]; exact hs.len,fun i hi=>by
 rw [h.len] at hi;rw [h.wide hi];exact hs.bnd i hi⟩
def preS (b:RBk):Nat->List (List Int)
 | 0=>[[]]
 | i+1=>(preS b i).flatMap fun p=>(numsM (bd b i)).map fun n=>p++[n]
def extL:List (List Int)->List RBand->List (List Int)
 | L,[]=>L
 | L,x::r=>extL (L.flatMap fun p=>(numsM x).map fun n=>p++[n]) r
theorem xM:∀ (r:List RBand) (L:List (List Int)) (x:RBand),extL L (r++[x])=(extL L r).flatMap fun p=>(numsM x).map fun n=>p++[n]
 | [],L,x=>rfl
 | y::r,L,x=>xM r _ x
theorem x9 (b:RBk):∀ (r:List RBand) (L:List (List Int)),(L.flatMap fun p=>fromM b p r)=(extL L r).filter (rightM b)
 | [],L=>by
  unfold extL
  induction L with
  | nil=>rfl
  | cons p L ih =>
   rw [List.flatMap_cons,ih];unfold fromM;by_cases h:rightM b p=true
   ·rw [if_pos h,List.filter_cons_of_pos h]; rfl
   ·rw [if_neg h,List.filter_cons_of_neg h]; rfl
 | x::r,L=>by
  have key:∀ p,fromM b p (x::r)=(numsM x).flatMap fun n=>fromM b (p++[n]) r:=fun p=>by
   conv=>lhs; unfold fromM
  unfold extL;rw [<- x9 b r]
  induction L with
  | nil=>rfl
  | cons p L ih=>rw [List.flatMap_cons,ih,List.flatMap_cons,List.flatMap_append,List.flatMap_map,key]
theorem qh (b:RBk):∀ i,i<=b.shrinks.length->preS b i=extL [[]] (b.shrinks.take i)
 | 0,_=>by rw [List.take_zero]; rfl
 | i+1,h=>by
  rw [yQ (kq (b:=b) (i:=i) oQ),xM,<- qh b i oQ];rfl
theorem jac (b:RBk):(preS b b.shrinks.length).filter (rightM b)=zf b:=by
 rw [qh b _ (mL _),lW,<- x9];rw [List.flatMap_cons,List.flatMap_nil,lR];rfl
theorem xr {b:RBk} (hb:ROk b):∀ i,i<=b.shrinks.length->∀ p∈preS b i,p.length=i/\PreB b p
 | 0,_,p,hp=>by rw [lS.1 hp]; exact ⟨rfl,zdS b⟩
 | i+1,h,p,hp=>by
  obtain ⟨q,hq,hp⟩:=List.mem_flatMap.1 hp;obtain ⟨n,hn,rfl⟩:=lY.1 hp;obtain ⟨h1,h2⟩:=xr hb i oQ q hq;have hbd:=hb.cls.bnd i (by have:=hb.cls.len; omega);rw [zgc hbd.2.1] at hn;exact ⟨by rw [lF,h1]; rfl,zcT h2 oQ (by rw [h1]; exact hn.1) (by rw [h1]; exact hn.2)⟩
theorem xg:∀ (k:Nat) (n:Int),(numsF n k).length=k
 | 0,_=>rfl
 | k+1,n=>by unfold numsF; rw [lZ,xg k]
theorem jL {f:List Int->List (List Int)} (hf:∀ p,(f p).length<=3):∀ L:List (List Int),(L.flatMap f).length<=L.length*3
 | []=>mN _
 | p::L=>by
  rw [List.flatMap_cons,lF,lZ];have h1:=hf p;have h2:=jL hf L;omega
theorem qj {b:RBk} (hb:ROk b):∀ i,i<=b.shrinks.length->(preS b i).length<=3 ^ i
 | 0,_=>mL _
 | i+1,h=>by
  have h1:=qj hb i oQ;have hbd:=hb.cls.bnd i (by have:=hb.cls.len; omega);have h2:=jL (f:=fun p=>(numsM (bd b i)).map fun n=>p++[n]) (fun p=>by
   rw [lJ];unfold numsM;rw [xg];omega) (preS b i)
  rw [Nat.pow_succ];show ((preS b i).flatMap _).length<=_;omega
def leavesL (all:List (List Int)) (i:Nat) (low:Int):Nat->Int
 | 0=>0
 | k+1=>max (leavesL all i low k) (cntM all i (low+k))
def leavesM (b:RBk) (i:Nat):Int:=leavesL (zf b) i (bd b i).low ((bd b i).high+1 - (bd b i).low).toNat
theorem jaO {φ:Nat->Loc3} {A:List AObj} {F H:Hp} (h:RelH φ A F H) {j:Nat} {l z:List AV} {e:TypeId} (hj:A[j]? =some (.cells (l++z) e false)):RelH φ (A.set j (.cells l e false)) F H:=by
 have hg:∀ t w,(A.set j (.cells l e false))[t]? =some w->(t=j/\w=.cells l e false)\/(t≠j/\A[t]? =some w):=fun t w ht=>by
  rw [lX] at ht;split at ht
  ·rename_i e';split at ht
   ·cases ht; exact .inl ⟨e'.symm,rfl⟩
   ·cases ht
  ·rename_i e';exact .inr ⟨fun h=>e' h.symm,ht⟩
 have hne:l≠[]->l++z≠[]:=fun hl he=>hl (List.append_eq_nil_iff.1 he).1;refine ⟨fun t w ht=>?_,fun t t' w w' ht ht' hn he hl s1 s2=>?_,h.fr,fun t w ht he hs=>?_⟩
 ·rw [List.length_set];rcases hg t w ht with ⟨rfl,rfl⟩ | ⟨_,h2⟩
  ·intro hl;obtain ⟨r,cur,q,h1,_,h3⟩:=h.obj t _ hj (hne hl);exact ⟨r,cur,q,h1,(fun h=>by cases h),fun i a ha=>h3 i a (by
    obtain ⟨hi,_⟩:=lD.1 ha;rw [lG hi]; exact ha)⟩
  ·exact h.obj t w h2
 ·rcases hg t w ht with ⟨rfl,rfl⟩ | ⟨_,h2⟩
  ·cases he
  ·rcases hg t' w' ht' with ⟨rfl,rfl⟩ | ⟨_,h2'⟩
   ·exact h.apart t t' w _ h2 hj hn he rfl s1 (hne s2)
   ·exact h.apart t t' w w' h2 h2' hn he hl s1 s2
 ·rcases hg t w ht with ⟨rfl,rfl⟩ | ⟨_,h2⟩
  ·cases he
  ·exact h.frx t w h2 he hs
section
variable {P:Program} {gm:Nat->Option Nat} {T:Goroutine->Hp->Prop} {Y:KX P gm T} {ds:List Nat} {k:List Item} {env:List AV} {K K':KV}
theorem TK.cutC {j:Nat} {l z:List AV} {e:TypeId} (h:TK Y ds k env K') (hu:Upd K j (.cells (l++z) e false) j (.cells l e false) K':=by repeat (first | exact Upd.head | apply Upd.tail)):TK Y ds k env K:=fun A hA φ H ts h1 h2 h3 h4 h5 h6=>by
 have hj:=hA.view.get hu.mem;have hl:(A.set j (.cells l e false)).length=A.length:=by simp
 exact h _ (hA.step (.set hA.view hA.nd hu)) φ H ts h1 (by rw [hl]; exact h2) (by rw [hl]; exact h3) (by rw [hl]; exact h4) (jaO h5 hj) (by rw [hl]; exact h6)
end
def changeB (b:RBk) (sh:List RBand) (me:List RMeas):RBk:={ b with shrinks:=sh,measures:=me }
section
variable {b:RBk} {all al2:List (List Int)} {l:List Int}
end
def nowW (b:RBk) (s:List Int) (m:RMeas):RMeas:={ m with wide:=togM b s m.cloth.toNat m.many.toNat }
def trulyT (b:RBk) (s:List Int) (i:Nat):List RMeas:=(b.measures.take i).map (nowW b s)
def trulyB (b:RBk) (s:List Int):RBk:={ b with measures:=trulyT b s b.measures.length }
theorem qd {b:RBk}:∀ (r:List RBand) (p t:List Int),t.length=r.length->(∀ (i:Nat) (x:RBand) (y:Int),r[i]? =some x->t[i]? =some y->x.low<=y/\y<=x.high)->rightM b (p++t)=true->p++t∈fromM b p r
 | [],p,[],_,_,h=>by
  rw [lR] at h ⊢;unfold fromM;rw [if_pos h];exact lS.2 rfl
 | x::r,p,y::t,hl,hi,h=>by
  unfold fromM;have h0:=hi 0 x y rfl rfl;rw [List.mem_flatMap];refine ⟨y,(zgc oQ).2 h0,?_⟩;rw [show p++y::t=(p++[y])++t by simp] at h ⊢;exact qd r (p++[y]) t (by simpa using hl) (fun i x' y' h1 h2=>hi (i+1) x' y' h1 h2) h
theorem jao {b:RBk} {s:List Int} (h:InB b s) (hr:rightM b s=true):s∈zf b:=by
 have:=qd (b:=b) b.shrinks [] s h.1 (fun i x y hx hy=>by
  obtain ⟨hi,_⟩:=lD.1 hx;have h1:=h.2 i hi;have h2:=kq (b:=b) hi;rw [hx] at h2;cases h2;rw [lE,hy] at h1;exact h1) (by rw [lC]; exact hr)
 rwa [lC] at this
def saidM (w:Int) (z:Bool):Bool:=decide (w=0)||((w==1)==z)
end Go.Vel
namespace Go.Vel
open Go Go.Conc Go.Proofs
instance:EqG tp 49:={}
instance:EqG tp 94:={}
instance:FlatF tp 49 [(3,0),(3,1),(3,2)]:={}
instance:FlatF tp 94 [(3,0),(3,1),(3,2),(3,3),(4,4)]:={}
instance:Und tp 4 .bool:={}
instance:Cal tp 19:={}
instance:Cal tp 44:={}
instance:Cal tp 49:={}
section
variable {P:Program} {gm:Nat->Option Nat} {V:KV} {env:List AV} {o:Oper}
end
instance:Cal tp 62:={}
instance:Cal tp 75:={}
section
variable {main:Bool} {T:Goroutine->Hp->Prop} {b:RBk} {s h e j:Nat} {l:List Int} {et:TypeId}
end
instance:Cal tp 50:={}
instance:Cal tp 65:={}
instance:Cal tp 76:={}
def u16A (x:Fin 65536):AV:=.v (.int .u16 (x.1:Int))
def u16O (l:List (Fin 65536)):AObj:=.cells (l.flatMap fun x=>[u16A x]) 212 false
def choM (l:List (Fin 65536)) (i:Nat):Int:=match l[i]? with | some x=>x.1 | none=>0
def chosenM (x:RBand) (n:Int):Int:=x.low+n % (x.high - x.low+1)
def realM (b:RBk) (ps:List (Fin 65536)):Nat->List Int
 | 0=>[]
 | i+1=>realM b ps i++[chosenM (bd b i) (choM ps i)]
instance:Cal tp 139:={}
instance:Cal tp 140:={}
instance:zF tp 91 212 1:={}
instance:zi tp 212 false 1:={}
instance:Und tp 212 (.int .u16):={}
instance:Und tp 91 (.slice 212):={}
theorem jad {main T} (hT:zo tp main T) {gm} {b:RBk} {s h e j c m:Nat} {st:List Int} {et:TypeId} (hb:ROk b) (hs:StOk b st) (hc:c<b.seams.length) (hm:m<=b.seams.length) :
  zA tp T gm 73 [.agg (zE b s h e),intA c,intA m,.sl j 0 st.length] [(s,zk b),(j,.cells (st.map intA) et false)] (fun r K'=>r=intA (togM b st c m)/\K'=[(s,zk b),(j,.cells (st.map intA) et false)]):=by
 refine zp 35 hT Tryz.func73 fun Y hret=>?_;refine au 0 ?_;have hsl:=hb.sms.len;have hst:=hs.len;refine au 21042 ?_;intro jb hjb;refine au 13035422354235 ?_;refine bA [1,2,3,4,9,10] ?_;refine bC [(s,_),(j,_),(jb,_)] ?_;refine bE (fun n env K=>∃ (i:Nat),n=m - i/\i<=m/\env=.any::intA c::intA m::.sl j 0 st.length::.ptr jb 0::naL 4 (intA (togM b st c i)::intA i::naL 24 [])/\K=[(s,zk b),(j,.cells (st.map intA) et false),(jb,.cells (zE b s h e) 26 true)]) m ⟨0,rfl,mN _,rfl,rfl⟩ fun n env K hI hnext=>?_;obtain ⟨i,rfl,hi,rfl,rfl⟩:=hI;refine bG nQ ?_;refine au 93711422 ?_;constructor<;>intro hc0
 ·have hil:i<m:=by simp at hc0; omega
  have hkl:(c+i) % b.seams.length<b.seams.length:=Nat.mod_lt _ oQ;have htb:=za9 hb hs (c:=c) i;have hwd:=hb.wide hkl;have hsb:=hs.bnd _ hkl;refine au 28069067023011421302120 ?_;refine bH Z (q_rem Z Z Z oQ oQ) ?_;refine au 35 ?_;rw [show ((c:Int)+(i:Int)) % (b.seams.length:Int)=(((c+i) % b.seams.length:Nat):Int) by rw [<- Int.natCast_add,<- Int.natCast_emod]];have htn:togM b st c i+wideM b ((c+i) % b.seams.length) - zN st ((c+i) % b.seams.length)=togM b st c (i+1):=by show _=togM b st c i+(wideM b _ - st.getD _ 0); unfold zN; omega
  have hsb2:0<=zN st ((c+i) % b.seams.length)/\zN st ((c+i) % b.seams.length)<=5:=⟨hsb.1,hsb.2.1⟩;refine TK.dr [0,1,2,5,6,7,8,3,4,9,10] [0,1,2,3,4,5,6,7,8,9,10] ?_;refine ad [[1,9],[12,4],[1,11],[1,3],[1,11],[2,29,30]] ?_;refine bT [31] Z (hq:=zm Z Z zi.h (mC _) (yi (i:=(c+i) % b.seams.length) (z6 oQ) Z)) (h:=?_);refine bQ (pend':=[⟨8,[31],[(_,_)]⟩,⟨7,[29,30],[]⟩,⟨6,[11],[]⟩,⟨5,[3],[]⟩,⟨0,[9],[]⟩]) [25,26] Z Z Z Z Z (zfy hT (i:=(c+i) % b.seams.length) hb.rnd hb.sms hkl) (fun r1 K2 h3=>⟨?_,?_⟩)
  ·rcases h3 with ⟨rfl,rfl⟩
   all_goals simp
  obtain ⟨rfl,rfl⟩:=h3;try simp only [cA]
  refine bS tQ ?_;refine ad [[8,24,27],[9,28,32],[13,33],[14]] ?_;refine au 3523014140 ?_;refine bA [1,2,3,4,9,10] ?_;refine bC [(s,_),(j,_),(jb,_)] ?_;exact hnext _ _ _ oQ ⟨i+1,rfl,oQ,by rw [htn]; rfl,rfl⟩
 obtain rfl:i=m:=by simp at hc0; omega
 refine au 35142160 ?_;refine bB hret [(s,_),(j,_)] ?_;exact ⟨rfl,rfl⟩
section
variable {P:Program} {gm:Nat->Option Nat} {T:Goroutine->Hp->Prop} {Y:KX P gm T} {ds:List Nat} {k:List Item} {env env':List AV} {K:KV}
theorem TK.nilRow {t e:TypeId} {x:Option Addr} {s j:Nat} {K':Nat->KV} (hu:∀ j',Upd K j (.row [.v (.slice x 0 0)] t s) j (.row [.sl j' 0 0] t s) (K' j')) (h:∀ j',j'∉keys K->TK Y ds k env ((j',.cells [] e false)::K' j')):TK Y ds k env K:=fun A hA φ H ts h1 h2 h3 h4 h5 h6=>by
 have hk:A.length∉keys K:=fun hm=>absurd (hA.view.lt hm) (Nat.lt_irrefl _);have hH:=h5.virtO (o:=.cells [] e false) (fun φ n hl=>absurd rfl hl) (fun hl=>hl rfl);have hag:=ym φ A.length ⟨0,0,0⟩;have hlen:(A++[AObj.cells [] e false]).length=A.length+1:=by simp
 have hds:dsC (upd3 φ A.length ⟨0,0,0⟩) ds=dsC φ ds:=by
  unfold dsC;exact List.map_congr_left fun d hd'=>by rw [hag d (h4 d hd')]
 have hj:=hA.view.get (hu A.length).mem;have hjl:j<A.length:=(lD.1 hj).1;have hj2:(A++[AObj.cells [] e false])[j]? =some (.row [.v (.slice x 0 0)] t s):=by rw [lG hjl]; exact hj
 have hstep:=hA.step (.push hA.view hA.nd (.cells [] e false));have hstep2:=hstep.step (.set hstep.view hstep.nd (Upd.tail (hu A.length)));rw [<- hds];refine h _ hk _ hstep2 _ H ts (h1.trans hag h2) (by simp; omega) (by simpa using h3.mono hag oQ) (fun d hd=>by have:=h4 d hd; simp; omega) (hH.turn hj2 (fun ho=>?_) (fun h=>h) (fun _=>rfl) (fun hs=>hs)) (by simpa using h6.mono hag oQ);obtain ⟨q0,q1,q2⟩:=ho;refine ⟨fun hc=>absurd (q0 hc) sQ,q1,fun hc=>?_⟩;obtain ⟨cur,p1,p2,p3,p4,p5⟩:=q2 hc;refine ⟨cur,p1,p2,p3,by simpa using p4,fun t' a ha=>?_⟩;cases t' with
 | zero =>
  simp only [List.getElem?_cons_zero,Option.some.injEq] at ha;subst ha;obtain ⟨y,hy,hr⟩:=p5 0 _ rfl;refine ⟨y,hy,?_⟩;rw [inv_v hr];exact .sl sQ (mN _) fun hp=>absurd hp (Nat.lt_irrefl _)
 | succ t'=>simp at ha
theorem jO:∀ R L:KV,Split (R++L) R L
 | [],L=>.none L
 | x::R,L=>.left (jO R L)
theorem TK.dropP {R L:KV} (hp:K.Perm (R++L)) (h:TK Y ds k env R):TK Y ds k env K:=bN hp (TK.keep (jO R L) h)
end
def jA (P:List (Nat×List Int)):KV:=P.map fun x=>(x.1,.cells (x.2.map intA) 3 false)
def refsL (P:List (Nat×List Int)):List AV:=P.map fun x=>.sl x.1 0 x.2.length
theorem jG {P:List (Nat×List Int)} {x:Nat×List Int} (h:x∈P):(x.1,AObj.cells (x.2.map intA) 3 false)∈jA P:=lY.2 ⟨x,h,rfl⟩
theorem xl {P:List (Nat×List Int)} {k:Nat} {n:Int} (hk:k<P.length) (h:n=(k:Int)) {e:TypeId} {sz:Nat}:takeO (.row (refsL P) e sz) (n.toNat*1) 1=some [.sl P[k].1 0 P[k].2.length]:=by
 subst h;rw [mZ,Nat.mul_one];simp only [takeO,AObj.look];rw [if_pos (by simp [refsL]; omega)];simp [List.take_one,refsL,hk]
theorem ints1 (xs:List Int):(xs.map intA).all oneA=true:=by
 rw [List.all_map]; exact List.all_eq_true.2 fun _ _=>rfl
theorem qM {P:List (Nat×List Int)} {A:List (List Int)} (h:P.map (·.2)=A) {k:Nat} (hk:k<P.length):A[k]? =some P[k].2:=by
 rw [<- h];simp [hk]
theorem jZ {K:KV} {x:Nat×AObj}:x∈K->∃ R,Rem K x R:=by
 induction K with
 | nil=>intro h; cases h
 | cons y K ih =>
  intro h;rcases lI.1 h with rfl | h
  ·exact ⟨_,.head⟩
  ·obtain ⟨R,hR⟩:=ih h;exact ⟨_,.tail hR⟩
def stepS (b:RBk) (i:Nat) (p:List Int):List (List Int):=(numsM (bd b i)).map fun n=>p++[n]
theorem jaL (x:RBand):∀ t,t<(x.high+1 - x.low).toNat->(numsM x)[t]? =some (x.low+t):=by
 have key:∀ (k:Nat) (n:Int) (t:Nat),t<k->(numsF n k)[t]? =some (n+t):=by
  intro k
  induction k with
  | zero=>intro n t h; omega
  | succ k ih =>
   intro n t h;unfold numsF;cases t with
   | zero=>simp
   | succ t =>
    rw [List.getElem?_cons_succ,ih (n+1) t oQ];congr 1;omega
 exact fun t h=>key _ _ t h
theorem xh (x:RBand):(numsM x).length=(x.high+1 - x.low).toNat:=by
 unfold numsM;rw [xg]
theorem jat {α:Type} {A:List α} {x:α} {L M:List α}:(x::(A++(L++M))).Perm (A++M++(x::L)):=by
 have h1:(A++(L++M)).Perm ((A++M)++L):=by
  rw [List.append_assoc];exact List.Perm.append_left A lH
 exact (List.Perm.cons x h1).trans (List.perm_middle (a:=x) (l₁:=A++M) (l₂:=L)).symm
instance:Cal tp 162:={}
instance:Cal tp 73:={}
theorem qE {main T} (hT:zo tp main T) {gm} {b:RBk} {s h e j:Nat} {st:List Int} {et:TypeId} {m:RMeas} (hb:ROk b) (hs:StOk b st) (hm:0<=m.cloth/\m.cloth<b.seams.length/\1<=m.many/\m.many<=b.seams.length) :
  zA tp T gm 162 [.agg (zE b s h e),.agg (measC m),.sl j 0 st.length] [(s,zk b),(j,.cells (st.map intA) et false)] (fun r K'=>r=zP (decide (togM b st m.cloth.toNat m.many.toNat=m.wide))/\K'=[(s,zk b),(j,.cells (st.map intA) et false)]):=by
 refine zp 17 hT Tryz.func162 fun Y hret=>?_;refine au 0 ?_;obtain ⟨mc,mm,mw⟩:=m;dsimp only at hm;obtain ⟨c,rfl⟩:=Int.eq_ofNat_of_zero_le hm.1;obtain ⟨k,rfl⟩:=Int.eq_ofNat_of_zero_le (show 0<=mm by omega);refine au 21042 ?_;intro jb hjb;refine au 210 ?_;intro jm hjm;refine au 235 ?_;refine TK.dr [0,1,2,3,4,5,7,8,6,9,10] [0,1,2,3,4,5,6,7,8,9,10] ?_;refine ad [[12,3],[3,4],[10,8],[3,4],[10,10],[1,2],[3,4],[10,14]] ?_;refine bQ (pend':=[⟨8,[14],[(_,_)]⟩,⟨7,[4],[]⟩,⟨3,[4],[]⟩,⟨1,[4],[]⟩]) [7,9,11,12] Z Z Z Z Z (jad hT (c:=c) (m:=k) hb hs oQ oQ) (fun r1 K2 h3=>⟨?_,?_⟩)
 ·rcases h3 with ⟨rfl,rfl⟩
  all_goals simp
 obtain ⟨rfl,rfl⟩:=h3;try simp only [cA]
 refine bS tQ ?_;refine ad [[4,13,15],[13,16],[14]] ?_;refine au 0 ?_;refine bB hret [(s,_),(j,_)] ?_;exact ⟨rfl,rfl⟩
theorem xT {main T} (hT:zo tp main T) {gm} {b:RBk} {s h e j:Nat} {st:List Int} {et:TypeId} (hb:ROk b) (hs:StOk b st) :
  zA tp T gm 141 [.agg (zE b s h e),.sl j 0 st.length] [(s,zk b),(e,zq b),(j,.cells (st.map intA) et false)] (fun r K'=>r=zP (rightM b st)/\K'=[(s,zk b),(e,zq b),(j,.cells (st.map intA) et false)]):=by
 refine zp 22 hT Tryz.func141 fun Y hret=>?_;refine au 0 ?_;have hml:=hb.mes.len;refine au 21042 ?_;intro jb hjb;refine au 1303542235 ?_;refine bA [1,2,5] ?_;refine bC [(s,_),(e,_),(j,_),(jb,_)] ?_;refine bE (fun n env K=>∃ (i:Nat),n=b.measures.length - i/\i<=b.measures.length/\(∀ m∈b.measures.take i,decide (togM b st m.cloth.toNat m.many.toNat=m.wide)=true)/\env=.any::.sl j 0 st.length::.ptr jb 0::naL 2 (intA i::naL 16 [])/\K=[(s,zk b),(e,zq b),(j,.cells (st.map intA) et false),(jb,.cells (zE b s h e) 26 true)]) b.measures.length ⟨0,rfl,mN _,fun m hm=>by simp at hm,rfl,rfl⟩ fun n env K hI hnext=>?_;obtain ⟨i,rfl,hi,hri,rfl,rfl⟩:=hI;refine bG nQ ?_;refine au 9372806906701422 ?_;constructor<;>intro hc0
 ·have hil:i<b.measures.length:=by simp at hc0; omega
  obtain ⟨x,hx⟩:∃ x,b.measures[i]? =some x:=⟨_,lA hil⟩;have hxb:=hb.mes.bnd x (lN hx);refine au 21302120 ?_;refine bL [0,1,2,3,4,5,6,7,8] ?_;refine ad [[12,2],[3,2],[10,14],[1,5],[2,15,16]] ?_;refine bT [17] Z (hq:=ya Z Z zi.h (mC _) (zcF (i:=i) hx Z)) (h:=?_);refine ad [[1,1]] ?_;refine bQ (pend':=[⟨4,[15,16],[]⟩,⟨3,[5],[]⟩,⟨2,[14],[(_,_)]⟩,⟨1,[2],[]⟩]) [13,18,19] Z Z Z Z Z (qE hT (m:=x) hb hs ⟨hxb.1,hxb.2.1,hxb.2.2.1,hxb.2.2.2.1⟩) (fun r1 K2 h3=>⟨?_,?_⟩)
  ·rcases h3 with ⟨rfl,rfl⟩
   all_goals simp
  obtain ⟨rfl,rfl⟩:=h3;try simp only [cA]
  refine bS tQ ?_;refine bU [20] Z (q_not Z Z) ?_;refine ad [[14]] ?_;refine au 9 ?_;constructor<;>intro hc1
  ·refine au 3542 ?_;refine bB hret [(s,_),(e,_),(j,_)] ?_;exact ⟨by rw [show rightM b st=false from List.all_eq_false.2 ⟨x,lN hx,by simpa using hc1⟩],rfl⟩
  refine au 3523014140120 ?_;refine bA [1,2,5] ?_;refine bC [(s,_),(e,_),(j,_),(jb,_)] ?_;exact hnext _ _ _ oQ ⟨i+1,rfl,oQ,fun m hm=>by
   rw [yQ hx] at hm;rcases lT.1 hm with hm | hm
   ·exact hri m hm
   ·rw [lS.1 hm]; simpa using hc1,rfl,rfl⟩
 obtain rfl:i=b.measures.length:=by simp at hc0; omega
 refine au 3542160 ?_;refine bB hret [(s,_),(e,_),(j,_)] ?_;exact ⟨by rw [show rightM b st=true from List.all_eq_true.2 fun m hm=>hri m (by rw [lW]; exact hm)],rfl⟩
theorem jaP {main T} (hT:zo tp main T) {gm} {b:RBk} {s h e:Nat} {P:List (Nat×List Int)} {x:Nat×List Int} (hb:ROk b) (hs:StOk b x.2) (hx:x∈P):zA tp T gm 141 [.agg (zE b s h e),.sl x.1 0 x.2.length] ((s,zk b)::(e,zq b)::jA P) (fun r K'=>r=zP (rightM b x.2)/\K'=(s,zk b)::(e,zq b)::jA P):=by
 obtain ⟨R,hR⟩:=jZ (jG hx);exact (xT hT hb hs).frameP (R:=R) (List.Perm.cons _ (List.Perm.cons _ hR.perm))
instance:ApOf tp 104 27 1 24:={}
instance:Cal tp 141:={}
instance:zF tp 104 27 1:={}
instance:TyZ tp 27 [.slice none 0 0]:={}
instance:Und tp 104 (.slice 27):={}
theorem xz {main T} (hT:zo tp main T) {gm} {b:RBk} {s h e:Nat} (hb:ROk b) :
  zA tp T gm 77 [.agg (zE b s h e)] [(s,zk b),(h,zB b),(e,zq b)] (fun r K'=>∃ (jr:Nat) (Q P:List (Nat×List Int)),(∀ x∈Q,x∈P)/\Q.map (·.2)=zf b/\r=.row jr Q.length/\K'=(jr,.row (refsL Q) 27 1)::(s,zk b)::(h,zB b)::(e,zq b)::jA P):=by
 refine zp 73 hT Tryz.func77 fun Y hret=>?_;refine au 0 ?_;have hsl:=hb.sms.len;have hcl:=hb.cls.len;have h243:∀ i,i<=5->3 ^ i<=243:=fun i hi=>Nat.le_trans (Nat.pow_le_pow_right dQ hi) dQ;refine au 21042 ?_;intro jb hjb;refine au 4235 ?_;refine bI Z Z Z (zt (l:=[_]) Z zF.h TyZ.h dQ dQ Z) (fun _=>zu rfl tQ) fun j0 hj0=>?_;refine au 5 ?_;refine TK.nilRow (e:=3) (fun _=>uQ) fun je hje=>?_;refine au 130354223 ?_;refine bA [1,3,4] ?_;refine bC [(j0,_),(h,_),(jb,_),(s,_),(e,_),(je,_)] ?_;refine bE (fun n env K=>∃ (i ja:Nat) (P:List (Nat×List Int)),n=b.shrinks.length - i/\i<=b.shrinks.length/\P.map (·.2)=preS b i/\env=.any::.ptr jb 0::.any::.row ja P.length::intA i::naL 68 []/\K=(ja,.row (refsL P) 27 1)::(h,zB b)::(jb,.cells (zE b s h e) 26 true)::(s,zk b)::(e,zq b)::jA P) b.shrinks.length ⟨0,j0,[(je,[])],rfl,mN _,rfl,rfl,rfl⟩ fun n env K hI hnext=>?_;obtain ⟨i,ja,P,rfl,hi,hP,rfl,rfl⟩:=hI;have hPl:P.length=(preS b i).length:=by rw [<- hP,lJ]
 have hPb:P.length<=243:=by have:=qj hb i hi; have:=h243 i oQ; omega
 refine bG nQ ?_;refine au 9372806906701422 ?_;constructor<;>intro hc0
 ·have hil:i<b.shrinks.length:=by simp at hc0; omega
  have hbd:=hb.cls.bnd i oQ;refine au 5421302120 ?_;refine TK.virt 5 27 1 Z fun jn0 hjn0=>?_;refine au 130354223 ?_;refine bA [1,3,4,5,6] ?_;refine bN (K':=(jn0,.row [] 27 1)::(ja,.row (refsL P) 27 1)::(h,zB b)::(jb,.cells (zE b s h e) 26 true)::(s,zk b)::(e,zq b)::(jA P++jA [])) (by simp [jA]) ?_;refine bE (fun n env K=>∃ (q jn:Nat) (Q:List (Nat×List Int)),n=P.length - q/\q<=P.length/\Q.map (·.2)=((preS b i).take q).flatMap (stepS b i)/\env=.any::.ptr jb 0::.any::.row ja P.length::intA i::.row jn Q.length::intA q::naL 66 []/\K=(jn,.row (refsL Q) 27 1)::(ja,.row (refsL P) 27 1)::(h,zB b)::(jb,.cells (zE b s h e) 26 true)::(s,zk b)::(e,zq b)::(jA P++jA Q)) P.length ⟨0,jn0,[],rfl,mN _,rfl,rfl,rfl⟩ fun n env K hI2 hnext2=>?_;obtain ⟨q,jn,Q,rfl,hq,hQ,rfl,rfl⟩:=hI2;refine bG nQ ?_;refine au 93728011422 ?_;constructor<;>intro hc1
  ·have hql:q<P.length:=by simp at hc1; omega
   have hg:(preS b i)[q]? =some P[q].2:=qM hP hql;obtain ⟨pq,hpq⟩:∃ pq,pq=P[q]:=⟨_,rfl⟩;rw [<- hpq] at hg;have hpl:=(xr hb i hi pq.2 (lN hg)).1;have hmp:pq∈P:=hpq ▸ List.getElem_mem hql;refine au 6703601690670421302120 ?_;refine bH Z (zm Z Z zi.h mQ (yn (c:=0) (bd_at b (i:=i) hil Z) dQ Z)) ?_;refine au 13035 ?_;refine bA [1,3,4,5,6,7] ?_;refine bE (fun n env K=>∃ (t jn:Nat) (Q:List (Nat×List Int)),n=((bd b i).high+1 - (bd b i).low).toNat - t/\t<=((bd b i).high+1 - (bd b i).low).toNat/\Q.map (·.2)=((preS b i).take q).flatMap (stepS b i)++((numsM (bd b i)).take t).map (fun n=>P[q].2++[n])/\env=.any::.ptr jb 0::.any::.row ja P.length::intA i::.row jn Q.length::intA q::intA ((bd b i).low+(t:Int))::naL 65 []/\K=(jn,.row (refsL Q) 27 1)::(ja,.row (refsL P) 27 1)::(h,zB b)::(jb,.cells (zE b s h e) 26 true)::(s,zk b)::(e,zq b)::(jA P++jA Q)) ((bd b i).high+1 - (bd b i).low).toNat ⟨0,jn,Q,rfl,mN _,by rw [hQ,List.take_zero,List.map_nil,lR],by rw [show (bd b i).low+((0:Nat):Int)=(bd b i).low by omega]; rfl,rfl⟩ fun n env K hI3 hnext3=>?_;obtain ⟨t,jn,Q,rfl,ht,hQ,rfl,rfl⟩:=hI3;rw [<- hpq] at hQ;have hQl:Q.length<=1000:=by
    have h1:=congrArg List.length hQ;rw [lJ,lF,lJ,List.length_take,xh] at h1;have h2:=jL (f:=stepS b i) (fun p=>by unfold stepS; rw [lJ,xh]; omega) ((preS b i).take q);rw [List.length_take] at h2;omega
   refine bG nQ ?_;refine au 67036016906701422 ?_;refine bH Z (zm Z Z zi.h mQ (yn (c:=1) (bd_at b (i:=i) hil Z) dQ Z)) ?_;refine au 937 ?_;constructor<;>intro hc2
   ·have htl:t<((bd b i).high+1 - (bd b i).low).toNat:=by simp at hc2; omega
    have hmx:(pq.1,AObj.cells (pq.2.map intA) 3 false)∈jA P++jA Q:=lV _ (jG hmp);refine au 141302120 ?_;refine bI Z Z Z (zt (l:=[]) Z zF.h TyZ.h dQ dQ Z) (fun _=>zu rfl tQ) fun j9 hj9=>?_;refine au 37011 ?_;refine bH Z (zm Z Z zi.h mQ (xl hql Z)) ?_;rw [<- hpq];refine TK.appG (ln:=pq.2.map intA) Z Z Z ApOf.h Z mQ Z Z Z (fun hp=>vv mQ oQ (wo (n:=pq.2.length) (size:=1) sQ oQ)) (fun h=>by simp [lK h]) (ints1 _) (by unfold maxLen; omega) oQ (fun _=>uQ) (fun _=>zu rfl tQ) fun j6=>?_;simp only [lC,Nat.zero_add];refine au 1 ?_;refine bI Z Z Z (zt (l:=[_]) Z zF.h TyZ.h dQ dQ Z) (fun _=>zu rfl tQ) fun j1 hj1=>?_;refine bO Z Z Z (a_app Z ApOf.h Z mQ sQ Z (yw (ln:=[_]) mQ dQ sQ Z) oQ Z (by unfold maxLen; omega) oQ) (fun _=>uQ) (fun _=>zu rfl tQ) fun j3=>?_;refine bZ 49 Z mQ ?_;refine bY (j:=j3) ?_;refine au 0 ?_;refine bI Z Z Z (zt (l:=[_]) Z zF.h TyZ.h dQ dQ Z) (fun _=>zu rfl tQ) fun j2 hj2=>?_;refine bO Z Z Z (a_app Z ApOf.h Z mQ (by simp [refsL]) Z (yw (ln:=[_]) mQ dQ sQ Z) oQ Z (by unfold maxLen; omega) oQ) (fun _=>uQ) (fun _=>zu rfl tQ) fun j4=>?_;refine au 352301414035 ?_;refine bA [1,3,4,5,6,7] ?_;refine bC (((j4,_)::(j3,_)::(ja,_)::(h,_)::(jb,_)::(s,_)::(e,_)::(jA P++jA Q))) ?_;refine bN (K':=(j4,.row (refsL Q++[.sl j3 0 (pq.2.length+1)]) 27 1)::(ja,.row (refsL P) 27 1)::(h,zB b)::(jb,.cells (zE b s h e) 26 true)::(s,zk b)::(e,zq b)::(jA P++(jA Q++[(j3,.cells (pq.2.map intA++[intA ((bd b i).low+(t:Int))]) 3 false)]))) ?_ ?_
    ·rw [<- List.append_assoc];exact List.Perm.cons _ (List.perm_append_singleton (j3,_) ((ja,.row (refsL P) 27 1)::(h,zB b)::(jb,.cells (zE b s h e) 26 true)::(s,zk b)::(e,zq b)::(jA P++jA Q))).symm
    exact hnext3 _ _ _ oQ ⟨t+1,j4,Q++[(j3,pq.2++[(bd b i).low+(t:Int)])],rfl,oQ,by rw [lM,hQ,<- hpq,yQ (jaL _ t htl),lM,List.append_assoc]; rfl,by rw [lF,show (bd b i).low+(t:Int)+1=(bd b i).low+((t+1:Nat):Int) by omega]; rfl,by simp [refsL,jA]⟩
   obtain rfl:t=((bd b i).high+1 - (bd b i).low).toNat:=by simp at hc2; omega
   refine au 3523014140160 ?_;refine bA [1,3,4,5,6] ?_;refine bC (((jn,_)::(ja,_)::(h,_)::(jb,_)::(s,_)::(e,_)::(jA P++jA Q))) ?_;exact hnext2 _ _ _ oQ ⟨q+1,jn,Q,rfl,oQ,by rw [hQ,show (numsM (bd b i)).take ((bd b i).high+1 - (bd b i).low).toNat=numsM (bd b i) from List.take_of_length_le (by rw [xh]; exact mL _),yQ hg,List.flatMap_append]; simp [stepS],rfl,rfl⟩
  obtain rfl:q=P.length:=by simp at hc1; omega
  have hQ:Q.map (·.2)=preS b (i+1):=by rw [hQ,hPl,lW]; rfl
  refine au 35230141403514160 ?_;refine bA [1,3,4] ?_;refine bC (((jn,_)::(ja,_)::(h,_)::(jb,_)::(s,_)::(e,_)::(jA P++jA Q))) ?_;refine TK.dropP (R:=(jn,.row (refsL Q) 27 1)::(h,zB b)::(jb,.cells (zE b s h e) 26 true)::(s,zk b)::(e,zq b)::jA Q) (L:=(ja,.row (refsL P) 27 1)::jA P) ?_ ?_
  ·exact List.Perm.cons _ (jat (A:=(h,zB b)::(jb,.cells (zE b s h e) 26 true)::(s,zk b)::(e,zq b)::[]) (x:=(ja,.row (refsL P) 27 1)) (L:=jA P) (M:=jA Q))
  exact hnext _ _ _ oQ ⟨i+1,jn,Q,rfl,oQ,hQ,rfl,rfl⟩
 obtain rfl:i=b.shrinks.length:=by simp at hc0; omega
 refine au 542160 ?_;refine TK.virt 8 27 1 Z fun jo0 hjo0=>?_;refine au 130354223 ?_;refine bA [1,3,8,9] ?_;refine bE (fun n env K=>∃ (q jo:Nat) (Q:List (Nat×List Int)),n=P.length - q/\q<=P.length/\(∀ x∈Q,x∈P)/\Q.map (·.2)=((preS b b.shrinks.length).take q).filter (rightM b)/\env=.any::.ptr jb 0::.any::.row ja P.length::naL 4 (.row jo Q.length::intA q::naL 63 [])/\K=(jo,.row (refsL Q) 27 1)::(ja,.row (refsL P) 27 1)::(h,zB b)::(jb,.cells (zE b s h e) 26 true)::(s,zk b)::(e,zq b)::jA P) P.length ⟨0,jo0,[],rfl,mN _,(fun x hx=>by cases hx),rfl,rfl,rfl⟩ fun n env K hI4 hnext4=>?_;obtain ⟨q,jo,Q,rfl,hq,hQP,hQ,rfl,rfl⟩:=hI4;have hQl:(Q.map (·.2)).length=Q.length:=lJ ..;have hQb:Q.length<=243:=by
  rw [<- hQl,hQ];have h1:=List.length_filter_le (rightM b) ((preS b b.shrinks.length).take q);rw [List.length_take] at h1;omega
 refine bG nQ ?_;refine au 93728011422 ?_;constructor<;>intro hc3
 ·have hql:q<P.length:=by simp at hc3; omega
  have hg:(preS b b.shrinks.length)[q]? =some P[q].2:=qM hP hql;have hmp:P[q]∈P:=List.getElem_mem hql;obtain ⟨hpl,hpb⟩:=xr hb _ (mL _) P[q].2 (lN hg);have hst:StOk b P[q].2:=zeW hb ⟨hpl,fun i hi=>hpb.2 i oQ⟩;refine au 21302120 ?_;refine bL [0,1,2,3,4,5] ?_;refine ad [[12,1],[1,3],[1,9]] ?_;refine bT [60,61] Z (hq:=kB Z Z Z zF.h (mC _) oQ oQ) (h:=?_);refine bT [62] Z (hq:=zm Z Z zi.h (mC _) (xl hql Z)) (h:=?_);refine bQ (pend':=[⟨3,[60,61],[(_,_)]⟩,⟨2,[9],[]⟩,⟨1,[3],[]⟩]) [59,63] Z Z Z Z Z (jaP hT hb hst hmp) (fun r3 K4 h5=>⟨?_,?_⟩)
  ·rcases h5 with ⟨rfl,rfl⟩
   all_goals simp
  obtain ⟨rfl,rfl⟩:=h5;try simp only [cA]
  refine bS tQ ?_;refine TD.perm (lH (l₁:=(s,_)::(e,_)::jA P)) ?_;simp only [cA];refine ad [[14]] ?_;refine au 9 ?_;constructor<;>intro hc4
  ·refine au 3701114 ?_;refine bH Z (zm Z Z zi.h mQ (xl hql Z)) ?_;refine bI Z Z Z (zt (l:=[_]) Z zF.h TyZ.h dQ dQ Z) (fun _=>zu rfl tQ) fun j6 hj6=>?_;refine bO Z Z Z (a_app Z ApOf.h Z mQ (by simp [refsL]) Z (yw (ln:=[_]) mQ dQ sQ Z) oQ Z (by unfold maxLen; omega) oQ) (fun _=>uQ) (fun _=>zu rfl tQ) fun jo2=>?_;refine au 352301414035 ?_;refine bA [1,3,8,9] ?_;refine bC (((jo2,_)::(ja,_)::(h,_)::(jb,_)::(s,_)::(e,_)::jA P)) ?_;exact hnext4 _ _ _ oQ ⟨q+1,jo2,Q++[P[q]],rfl,oQ,(fun x hx=>(lT.1 hx).elim (hQP x) fun h=>lS.1 h ▸ hmp),by rw [lM,hQ,yQ hg,List.filter_append,List.filter_cons_of_pos hc4]; rfl,by rw [lF]; rfl,by simp [refsL] <;> rfl⟩
  refine au 3523014140120 ?_;refine bA [1,3,8,9] ?_;refine bC (((jo,_)::(ja,_)::(h,_)::(jb,_)::(s,_)::(e,_)::jA P)) ?_;exact hnext4 _ _ _ oQ ⟨q+1,jo,Q,rfl,oQ,hQP,by rw [hQ,yQ hg,List.filter_append,List.filter_cons_of_neg (by rw [hc4]; decide),List.filter_nil,lR],rfl,rfl⟩
 obtain rfl:q=P.length:=by simp at hc3; omega
 rw [hPl] at hQ;refine au 35142160 ?_;refine bB hret (((jo,_)::(s,_)::(h,_)::(e,_)::jA P)) ?_;exact ⟨jo,Q,P,hQP,by rw [<- jac,hQ,lW],rfl,rfl⟩
end Go.Vel
namespace Go.Vel
open Go Go.Conc
def lastM (l:List Int):Nat->Option Int
 | 0=>none
 | i+1=>some (zN l i)
theorem qU {b:RBk} {n:Int} (h:betw n 0 (b.seams.length - 1)=true):thereM b n=0:=if_pos h
theorem qT {b:RBk} {n:Int} (h:betw n 0 (b.seams.length - 1)=false):thereM b n=6:=by unfold thereM; rw [if_neg (by rw [h]; decide)]
theorem jah {b:RBk} {last:Option Int} {x:Int} {r:List Int} (h:thereM b x=6):cutsL b last (x::r)=6:=by
 unfold cutsL;rw [if_pos (by rw [h]; decide),h]
theorem qA {b:RBk} {last:Option Int} {x:Int} {r:List Int} (h:thereM b x=0) (h2:notAft last x=true):cutsL b last (x::r)=7:=by
 unfold cutsL;rw [if_neg (by rw [h]; decide),if_pos h2]
theorem xw {b:RBk} {last:Option Int} {x:Int} {r:List Int} (h:thereM b x=0) (h2:notAft last x=false):cutsL b last (x::r)=cutsL b (some x) r:=by
 conv=>lhs; unfold cutsL
 rw [if_neg (by rw [h]; decide),if_neg (by rw [h2]; decide)]
theorem jbx {b:RBk} {i:Nat} {x:Int} {r:List Int} (h:betw x 0 5=false):shL b i (x::r)=1:=by
 unfold shL;rw [if_pos h]
theorem jau {b:RBk} {i:Nat} {x:Int} {r:List Int} (h:betw x 0 5=true) (h2:wideM b i<=x):shL b i (x::r)=8:=by
 unfold shL;rw [if_neg (by rw [h]; decide),if_pos h2]
theorem jaT {b:RBk} {i:Nat} {x:Int} {r:List Int} (h:betw x 0 5=true) (h2:¬ wideM b i<=x):shL b i (x::r)=shL b (i+1) r:=by
 conv=>lhs; unfold shL
 rw [if_neg (by rw [h]; decide),if_neg h2]
def clM (b:RBk) (c:Nat) (m:Nat):List Int:=(List.range m).map fun i=>(((c+i) % b.seams.length:Nat):Int)
theorem jaC (b:RBk) (c m:Nat):clM b c (m+1)=clM b c m++[(((c+m) % b.seams.length:Nat):Int)]:=by
 unfold clM;rw [List.range_succ,lM];rfl
theorem jbc (b:RBk) (c m:Nat):(clM b c m).length=m:=by unfold clM; rw [lJ,List.length_range]
theorem jbb {b:RBk} {c m i:Nat} (h:i<m):(clM b c m)[i]? =some (((c+i) % b.seams.length:Nat):Int):=by
 unfold clM;rw [lQ,List.getElem?_range h];rfl
theorem jR {l:List Int} (hp:l.Pairwise (· < ·)) {i j:Nat} (hij:i<=j) (hj:j<l.length):zN l i<=zN l j:=by
 rcases mR i j with h | h
 ·have e1:=z6 (l:=l) (k:=i) oQ;have e2:=z6 hj;rw [lA oQ] at e1;rw [lA hj] at e2;have:=List.pairwise_iff_getElem.1 hp i j oQ hj h;rw [Option.some.inj e1,Option.some.inj e2] at this;omega
 ·have:i=j:=by omega
  subst this;exact Int.le_refl _
theorem jbd {l:List Int} {x:Int} (h:x∈l):∃ t,t<l.length/\zN l t=x:=by
 obtain ⟨t,ht,rfl⟩:=List.getElem_of_mem h;refine ⟨t,ht,?_⟩;unfold zN;rw [lE,lA ht];rfl
theorem jbE {b:RBk} {l:List Int} (hl:CutsOk b l) {k:Nat} (hk:k<l.length) {i:Nat} (h1:1<=i) (h2:(i:Int)<manyM b l k):¬ ((((zN l k).toNat+i) % b.seams.length:Nat):Int)∈l:=fun hm=>by
 obtain ⟨t,ht,he⟩:=jbd hm;have hc:=hl.lt hk;have h0:=hl.lt hl.pos;have hct:=hl.lt ht;unfold manyM at h2;by_cases e:k+1<l.length
 ·rw [if_pos e] at h2;have hn:=hl.lt e;rw [Nat.mod_eq_of_lt oQ] at he;rcases mR k t with h | h
  ·have:=jR hl.asc (i:=k+1) (j:=t) oQ ht;omega
  ·have:=jR hl.asc h hk;omega
 ·rw [if_neg e] at h2;have ha:=jR hl.asc (mN t) ht;have hb:=jR hl.asc (i:=t) (j:=k) oQ hk;rcases mR ((zN l k).toNat+i) b.seams.length with h | h
  ·rw [Nat.mod_eq_of_lt h] at he;omega
  ·rw [Nat.mod_eq_sub_mod h,Nat.mod_eq_of_lt oQ] at he;omega
theorem cl_at {b:RBk} {l:List Int} (hl:CutsOk b l) {k:Nat} (hk:k<l.length):((((zN l k).toNat+(manyM b l k).toNat) % b.seams.length:Nat):Int)∈l:=by
 have hc:=hl.lt hk;have h0:=hl.lt hl.pos;unfold manyM;by_cases e:k+1<l.length
 ·rw [if_pos e];have hn:=hl.lt e;have hlt:=zhO hl e;rw [Nat.mod_eq_of_lt oQ,show (((zN l k).toNat+(zN l (k+1) - zN l k).toNat:Nat):Int)=zN l (k+1) by omega];exact zgV e
 ·rw [if_neg e];have hb:=jR hl.asc (i:=0) (j:=k) (mN _) hk;rw [show (zN l k).toNat+(zN l 0 - zN l k+(b.seams.length:Int)).toNat=b.seams.length+(zN l 0).toNat by omega,Nat.add_mod_left,Nat.mod_eq_of_lt oQ,show (((zN l 0).toNat:Nat):Int)=zN l 0 by omega];exact zgV hl.pos
theorem jT (b:RBk) (x:Nat):nowS b [] x=sumF (wideM b) x:=by
 unfold nowS;refine xB x fun i _=>?_;unfold nowM;show wideM b i - 0=_;omega
theorem jay {b:RBk} {l:List Int} (hl:CutsOk b l) {k:Nat} (hk:k<l.length):(stripM b l k).2=togM b [] (zN l k).toNat (manyM b l k).toNat:=by
 have hc:=hl.lt hk;have h0:=hl.lt hl.pos;have hmb:=xG hl hk;unfold stripM endM cutS;dsimp only;by_cases e:k+1<l.length
 ·have hn:=hl.lt e;have hlt:=zhO hl e;rw [if_pos e];unfold manyM;rw [if_pos e,qx b [] _ _ oQ,jT,jT,show (zN l k).toNat+(zN l (k+1) - zN l k).toNat=(zN l (k+1)).toNat by omega,jF _ hn.2.2,jF _ hc.2.2];omega
 ·rw [if_neg e];have hm:(manyM b l k).toNat=b.seams.length - (zN l k).toNat+(zN l 0).toNat:=by
   have hb:=jR hl.asc (i:=0) (j:=k) (mN _) hk;unfold manyM;rw [if_neg e];omega
  rw [hm,xC b [] oQ _ oQ,jT,jT,jT,jF _ hc.2.2,jF _ h0.2.2,ja1 oQ];omega
theorem qV {b:RBk} (hb:ROk b) (c:Nat):∀ k,0<=togM b [] c k/\togM b [] c k<=24*k
 | 0=>by show (0:Int)<=0/\(0:Int)<=_; omega
 | k+1=>by
  have h1:=qV hb c k;have h2:=hb.wide (i:=(c+k) % b.seams.length) (Nat.mod_lt _ (by have:=hb.sms.len; omega));show 0<=togM b [] c k+(wideM b _ - 0)/\togM b [] c k+(wideM b _ - 0)<=_;omega
end Go.Vel
namespace Go.Vel
open Go Go.Conc Go.Proofs
instance:Cal tp 142:={}
instance:Cal tp 58:={}
instance:Cal tp 93:={}
theorem qX {main T} (hT:zo tp main T) {gm} {b:RBk} {j:Nat} {et:TypeId} {l:List Int} (hl:l.length<=1000) (hn:b.seams.length<=100) :
  zA tp T gm 62 [.sl j 0 l.length,intA b.seams.length] [(j,.cells (l.map intA) et false)] (fun r K'=>r=intA (cutsL b none l)/\K'=[(j,.cells (l.map intA) et false)]):=by
 refine zp 34 hT Tryz.func62 fun Y hret=>?_;refine au 130354223542 ?_;refine bA [0,1,5] ?_;refine bE (fun n0 env K=>∃ (i:Nat),n0=l.length - i/\i<=l.length/\cutsL b (lastM l i) (l.drop i)=cutsL b none l/\env=.sl j 0 l.length::intA b.seams.length::naL 3 (intA i::naL 28 [])/\K=[(j,.cells (l.map intA) et false)]) l.length ⟨0,rfl,mN _,rfl,rfl,rfl⟩ fun n0 env K hI hnext=>?_;obtain ⟨i,rfl,hi,hinv,rfl,rfl⟩:=hI;refine bG nQ ?_;refine au 93728011422 ?_;constructor<;>intro hc0
 ·have hil:i<l.length:=by simp at hc0; omega
  refine au 360114221302120 ?_;refine bH Z (zm Z Z zi.h mQ (yi (i:=i) (z6 hil) Z)) ?_;refine au 2401 ?_;refine bD Z Z Z Z (yA hT) ?_;rintro r1 K2 ⟨rfl,rfl⟩;refine au 93300 ?_;constructor<;>intro hc1
  ·refine au 3542 ?_;refine bB hret [(j,_)] ?_;exact ⟨by rw [<- hinv,zH (z6 hil),jah (qT (by simpa using hc1))],rfl⟩
  have hth:thereM b (zN l i)=0:=qU (by simpa using hc1);refine au 2120 ?_;refine bL [0,1,2,3,4,5,6,7,8,9,10,11,12,13] ?_;refine ad [[1,5],[4,20],[1,21]] ?_;refine bW 22 (fun g6_3=>?_) (fun g6_3=>?_)
  ·have hgi:0<i:=by have:=of_decide_eq_true g6_3; omega
   have hla:notAft (lastM l i) (zN l i)=decide (zN l i<=zN l (i - 1)):=by obtain ⟨p,rfl⟩:∃ p,i=p+1:=⟨i - 1,oQ⟩; rfl
   refine ad [[1,0,22],[1,5,22],[2,22,23,24]] ?_;refine bT [22,25] Z (hq:=zm Z Z zi.h (mC _) (yi (i:=i) (z6 hil) Z)) (h:=?_);refine ad [[1,0,22],[1,5,22],[9,22,28],[2,22,27,29]] ?_;refine bT [22,30] Z (hq:=zm Z Z zi.h (mC _) (yi (i:=i - 1) (z6 oQ) oQ)) (h:=?_);refine ad [[4,22,26,31],[7,22,32],[14]] ?_;refine au 9 ?_;constructor<;>intro hc2
   ·refine au 3542 ?_;refine bB hret [(j,_)] ?_;exact ⟨by rw [<- hinv,zH (z6 hil),qA hth (by rw [hla]; exact hc2)],rfl⟩
   refine au 3523014140120 ?_;refine bA [0,1,5] ?_;exact hnext _ _ _ oQ ⟨i+1,rfl,oQ,by rw [<- hinv,zH (z6 hil),xw hth (by first | (rw [hla]; exact hc2) | exact hla)]; rfl,rfl,rfl⟩
  have hla:notAft (lastM l i) (zN l i)=false:=by
   have:=of_decide_eq_false g6_3;obtain rfl:i=0:=oQ;rfl
  refine ad [[11,0,22],[11,5,22],[11,22,23,24],[11,22,25],[11,0,22],[11,5,22],[11,22,28],[11,22,27,29],[11,22,30],[11,22,26,31],[6,22,32],[14]] ?_;refine au 3523014140120190 ?_;refine bA [0,1,5] ?_;exact hnext _ _ _ oQ ⟨i+1,rfl,oQ,by rw [<- hinv,zH (z6 hil),xw hth (by first | (rw [hla]; exact hc2) | exact hla)]; rfl,rfl,rfl⟩
 obtain rfl:i=l.length:=by simp at hc0; omega
 refine au 3542160 ?_;refine bB hret [(j,_)] ?_;exact ⟨by rw [<- hinv,List.drop_length]; rfl,rfl⟩
theorem xa {main T} (hT:zo tp main T) {gm} {b:RBk} {s h e j:Nat} {et:TypeId} {l:List Int} (hl:l.length<=1000) (hn:b.seams.length<=100) :
  zA tp T gm 76 [.agg (zE b s h e),.sl j 0 l.length] [(j,.cells (l.map intA) et false)] (fun r K'=>r=intA (cutsM b l)/\K'=[(j,.cells (l.map intA) et false)]):=by
 refine zp 13 hT Tryz.func76 fun Y hret=>?_;refine au 21042 ?_;intro jb hjb;refine au 937280142235 ?_;constructor<;>intro hc0
 ·refine au 3542 ?_;refine bB hret [(j,_)] ?_;exact ⟨by unfold cutsM; rw [if_pos (by have:=eq_of_beq hc0; omega)],rfl⟩
 refine au 280690670142120 ?_;refine bD Z Z Z Z (qX hT hl hn) ?_;rintro r1 K2 ⟨rfl,rfl⟩;refine au 35 ?_;refine bB hret [(j,_)] ?_;exact ⟨by unfold cutsM; rw [if_neg (fun hh=>by rw [hh] at hc0; simp at hc0)],rfl⟩
theorem xY {main T} (hT:zo tp main T) {gm} {b:RBk} {s h e j:Nat} {et:TypeId} {l:List Int} (hr:RndOk b) (hs:SmOk b) (hl:l.length<=1000) :
  zA tp T gm 142 [.agg (zE b s h e),.sl j 0 l.length] [(s,zk b),(j,.cells (l.map intA) et false)] (fun r K'=>r=intA (shM b l)/\K'=[(s,zk b),(j,.cells (l.map intA) et false)]):=by
 refine zp 32 hT Tryz.func142 fun Y hret=>?_;refine au 0 ?_;have hsl:=hs.len;refine au 21042 ?_;intro jb hjb;refine au 937280690670280142235 ?_;constructor<;>intro hc0
 ·refine au 3542 ?_;refine bB hret [(s,_),(j,_)] ?_;exact ⟨by unfold shM; rw [if_pos (fun hh=>by rw [hh] at hc0; simp at hc0)],rfl⟩
 have hlen:l.length=b.seams.length:=by simp at hc0; omega
 have hsm:shM b l=shL b 0 l:=by unfold shM; rw [if_neg (by simp [hlen])]
 refine au 13035422120 ?_;refine bA [1,2,5] ?_;refine bC [(s,_),(j,_),(jb,_)] ?_;refine bE (fun n0 env K=>∃ (i:Nat),n0=l.length - i/\i<=l.length/\shL b i (l.drop i)=shL b 0 l/\env=.any::.sl j 0 l.length::.ptr jb 0::naL 2 (intA i::naL 26 [])/\K=[(s,zk b),(j,.cells (l.map intA) et false),(jb,.cells (zE b s h e) 26 true)]) l.length ⟨0,rfl,mN _,rfl,rfl,rfl⟩ fun n0 env K hI hnext=>?_;obtain ⟨i,rfl,hi,hinv,rfl,rfl⟩:=hI;refine bG nQ ?_;refine au 93728011422 ?_;constructor<;>intro hc1
 ·have hil:i<l.length:=by simp at hc1; omega
  refine au 360114221302120 ?_;refine bH Z (zm Z Z zi.h mQ (yi (i:=i) (z6 hil) Z)) ?_;refine bD Z Z Z Z (yA hT) ?_;rintro r1 K2 ⟨rfl,rfl⟩;refine au 93300 ?_;constructor<;>intro hc2
  ·refine au 3542 ?_;refine bB hret [(s,_),(j,_)] ?_;exact ⟨by rw [hsm,<- hinv,zH (z6 hil),jbx (by simpa using hc2)],rfl⟩
  refine au 2120 ?_;refine bL [0,1,2,3,4,5,6,7] ?_;refine ad [[1,1],[1,5],[2,24,25]] ?_;refine bT [26] Z (hq:=zm Z Z zi.h (mC _) (yi (i:=i) (z6 hil) Z)) (h:=?_);refine ad [[12,2],[1,5]] ?_;refine bQ (pend':=[⟨3,[26],[(_,_)]⟩,⟨2,[24,25],[]⟩,⟨1,[5],[]⟩,⟨0,[1],[]⟩]) [28,29] Z Z Z Z Z (zfy hT (i:=i) hr hs oQ) (fun r4 K5 h6=>⟨?_,?_⟩)
  ·rcases h6 with ⟨rfl,rfl⟩
   all_goals simp
  obtain ⟨rfl,rfl⟩:=h6;try simp only [cA]
  refine bS tQ ?_;refine ad [[4,27,30],[14]] ?_;refine au 9 ?_;constructor<;>intro hc3
  ·refine au 3542 ?_;refine bB hret [(s,_),(j,_)] ?_;exact ⟨by rw [hsm,<- hinv,zH (z6 hil),jau (by simpa using hc2) (of_decide_eq_true hc3)],rfl⟩
  refine au 3523014140120 ?_;refine bA [1,2,5] ?_;refine bC [(s,_),(j,_),(jb,_)] ?_;exact hnext _ _ _ oQ ⟨i+1,rfl,oQ,by rw [<- hinv,zH (z6 hil),jaT (by simpa using hc2) (of_decide_eq_false hc3)],rfl,rfl⟩
 obtain rfl:i=l.length:=by simp at hc1; omega
 refine au 3542160 ?_;refine bB hret [(s,_),(j,_)] ?_;exact ⟨by rw [hsm,<- hinv,List.drop_length]; rfl,rfl⟩
theorem jan {main T} (hT:zo tp main T) {gm} {j:Nat} {et:TypeId} {l:List Int} {v:Int} (hl:l.length<=1000) :
  zA tp T gm 58 [.sl j 0 l.length,intA v] [(j,.cells (l.map intA) et false)] (fun r K'=>r=zP (decide (v∈l))/\K'=[(j,.cells (l.map intA) et false)]):=by
 refine zp 18 hT Tryz.func58 fun Y hret=>?_;refine au 130354223542 ?_;refine bA [0,1,5] ?_;refine bE (fun n0 env K=>∃ (i:Nat),n0=l.length - i/\i<=l.length/\¬ v∈l.take i/\env=.sl j 0 l.length::intA v::naL 3 (intA i::naL 12 [])/\K=[(j,.cells (l.map intA) et false)]) l.length ⟨0,rfl,mN _,by simp,rfl,rfl⟩ fun n0 env K hI hnext=>?_;obtain ⟨i,rfl,hi,hn,rfl,rfl⟩:=hI;refine bG nQ ?_;refine au 93728011422 ?_;constructor<;>intro hc0
 ·have hil:i<l.length:=by simp at hc0; omega
  refine au 36011421302120 ?_;refine bH Z (zm Z Z zi.h mQ (yi (i:=i) (z6 hil) Z)) ?_;refine au 9371 ?_;constructor<;>intro hc1
  ·refine au 3542 ?_;refine bB hret [(j,_)] ?_;exact ⟨by rw [decide_eq_true (show v∈l by have h:zN l i=v:=eq_of_beq hc1; rw [<- h]; exact zgV hil)],rfl⟩
  refine au 3523014140120 ?_;refine bA [0,1,5] ?_;exact hnext _ _ _ oQ ⟨i+1,rfl,oQ,fun hh=>by
   rw [yQ (z6 hil)] at hh;rcases lT.1 hh with hh | hh
   ·exact hn hh
   ·rw [lS.1 hh] at hc1; simp at hc1,rfl,rfl⟩
 obtain rfl:i=l.length:=by simp at hc0; omega
 refine au 3542160 ?_;refine bB hret [(j,_)] ?_;exact ⟨by rw [decide_eq_false (by rwa [lW] at hn)],rfl⟩
theorem qz {main T} (hT:zo tp main T) {gm} {b:RBk} {s h e j k:Nat} {et:TypeId} {l:List Int} (hb:ROk b) (hl:CutsOk b l) (hk:k<l.length) :
  zA tp T gm 105 [.agg (zE b s h e),.sl j 0 l.length,intA k] [(j,.cells (l.map intA) et false)] (fun r K'=>∃ jr,r=.row jr (manyM b l k).toNat/\K'=(jr,.row ((clM b (zN l k).toNat (manyM b l k).toNat).map intA) 3 1)::[(j,.cells (l.map intA) et false)]):=by
 refine zp 38 hT Tryz.func105 fun Y hret=>?_;refine au 0 ?_;have hsl:=hb.sms.len;have hll:=hl.len;have hq:=hl.lt hk;have hmb:=xG hl hk;obtain ⟨c,hcn⟩:∃ c:Nat,zN l k=(c:Int):=⟨(zN l k).toNat,oQ⟩;have hck:l[k]? =some (c:Int):=by rw [z6 hk,hcn]
 have hct:(zN l k).toNat=c:=by omega
 refine au 21042 ?_;intro jb hjb;refine au 360114235 ?_;refine bH Z (zm Z Z zi.h mQ (yi (i:=k) hck Z)) ?_;refine bI Z Z Z (zt (l:=[_]) Z zF.h TyZ.h dQ dQ Z) (fun _=>zu rfl tQ) fun jr0 hjr0=>?_;refine au 2235 ?_;refine bL [0,1,2,3,4,5,6,7,8,9] ?_;refine ad [[1,1],[1,2],[2,14,15]] ?_;refine bT [16] Z (hq:=zm Z Z zi.h (mC _) (yi (i:=k) hck Z)) (h:=?_);refine ad [[8,17],[3,3],[10,19]] ?_;refine bU [20] Z (q_len Z Z Z Und.h) ?_;refine bU [18,21] Z (q_rem Z Z Z oQ oQ) ?_;refine ad [[13,22],[14]] ?_;refine au 130 ?_;refine bA [1,3,7,8] ?_;refine bC [(j,_),(jr0,_),(jb,_)] ?_;refine bE (fun n0 env K=>∃ (i jr:Nat),n0=(manyM b l k).toNat - i/\1<=i/\i<=(manyM b l k).toNat/\env=.any::.sl j 0 l.length::.any::.ptr jb 0::naL 3 (.row jr i::intA ((c+i) % b.seams.length:Nat)::naL 29 [])/\K=[(j,.cells (l.map intA) et false),(jr,.row ((clM b c i).map intA) 3 1),(jb,.cells (zE b s h e) 26 true)]) ((manyM b l k).toNat - 1) ⟨1,jr0,rfl,mL _,oQ,by rw [show ((c:Int)+1) % (b.seams.length:Int)=(((c+1) % b.seams.length:Nat):Int) from rfl]; rfl,by rw [show clM b c 1=[(c:Int)] by show [(((c+0) % b.seams.length:Nat):Int)]=_; rw [Nat.add_zero,Nat.mod_eq_of_lt oQ]]; rfl⟩ fun n0 env K hI hnext=>?_;obtain ⟨i,jr,rfl,hi1,hi,rfl,rfl⟩:=hI;have hml:(c+i) % b.seams.length<b.seams.length:=Nat.mod_lt _ oQ;have hcl:=jbc b c i;refine bG nQ ?_;refine au 11422 ?_;refine bD Z Z Z Z (jan hT oQ) ?_;rintro r1 K2 ⟨rfl,rfl⟩;refine au 93300 ?_;constructor<;>intro hc0
 ·have hlt:i<(manyM b l k).toNat:=by
   rcases mR i (manyM b l k).toNat with h | h
   ·exact h
   ·have e:i=(manyM b l k).toNat:=by omega
    have:=cl_at hl hk;rw [hct,<- e] at this;rw [decide_eq_true this] at hc0;cases hc0
  refine au 1141302120 ?_;refine bI Z Z Z (zt (l:=[_]) Z zF.h TyZ.h dQ dQ Z) (fun _=>zu rfl tQ) fun j4 hj4=>?_;refine bO Z Z Z (a_app Z ApOf.h Z mQ (by simp; omega) Z (yw (ln:=[_]) mQ dQ sQ Z) oQ Z (by unfold maxLen; omega) oQ) (fun _=>uQ) (fun _=>zu rfl tQ) fun jr2=>?_;refine au 2806906702301414035 ?_;refine bH Z (q_rem Z Z Z oQ oQ) ?_;refine au 35 ?_;refine bA [1,3,7,8] ?_;refine bC [(j,_),(jr2,_),(jb,_)] ?_;exact hnext _ _ _ oQ ⟨i+1,jr2,rfl,oQ,oQ,by rw [show ((((c+i) % b.seams.length:Nat):Int)+1) % (b.seams.length:Int)=(((c+(i+1)) % b.seams.length:Nat):Int) by rw [show ((((c+i) % b.seams.length:Nat):Int)+1) % (b.seams.length:Int)=((((c+i) % b.seams.length+1) % b.seams.length:Nat):Int) from rfl,Nat.mod_add_mod]; rfl]; rfl,by rw [jaC,lM]; rfl⟩
 have hie:i=(manyM b l k).toNat:=by
  rcases mR i (manyM b l k).toNat with h | h
  ·have:=jbE hl hk hi1 oQ;rw [hct] at this;rw [decide_eq_false this] at hc0;cases hc0
  ·omega
 refine au 35142160 ?_;refine bB hret [(jr,_),(j,_)] ?_;exact ⟨jr,by rw [hie] <;> rfl,by rw [hct,hie] <;> rfl⟩
theorem xA {b:RBk} {l:List Int} {i:Nat} (h:i<l.length):(stripsM b l)[i]? =some (stripM b l i):=by
 unfold stripsM;rw [lQ,List.getElem?_range h];rfl
instance:Cal tp 71:={}
instance:Cal tp 72:={}
instance:Cal tp 73:={}
theorem qH {b:RBk} {l:List Int} {i:Nat} (hi:i<l.length) (h:¬ (stripM b l i).2<=b.roll\/(cutS b l i).whole=true):fitsM b l=false:=by
 unfold fitsM;rw [show ((List.range l.length).all fun k => !(cutS b l k).whole&&decide ((stripM b l k).2<=b.roll))=false from List.all_eq_false.2 ⟨i,List.mem_range.2 hi,by
  rcases h with h | h
  ·rw [decide_eq_false h]; simp
  ·rw [h]; simp⟩]
 exact Bool.and_false _
instance:Cal tp 105:={}
instance:Cal tp 94:={}
theorem qG {main T} (hT:zo tp main T) {gm} {b:RBk} {s h e j:Nat} {et:TypeId} {l:List Int} (hb:ROk b) (hl:CutsOk b l) :
  zA tp T gm 94 [.agg (zE b s h e),.sl j 0 l.length] [(s,zk b),(j,.cells (l.map intA) et false)] (fun r K'=>∃ jr,r=.row jr l.length/\K'=(jr,.row ((stripsM b l).flatMap pairC) 96 2)::[(s,zk b),(j,.cells (l.map intA) et false)]):=by
 refine zp 44 hT Tryz.func94 fun Y hret=>?_;refine au 0 ?_;have hsl:=hb.sms.len;have hll:=hl.len;refine au 21042 ?_;intro jb hjb;refine au 54235 ?_;refine TK.virt 5 96 2 Z fun jr0 hjr0=>?_;refine au 130354223 ?_;refine bA [1,2,5,6] ?_;refine bC [(s,_),(j,_),(jr0,_),(jb,_)] ?_;refine bE (fun n env K=>∃ (i jr:Nat),n=l.length - i/\i<=l.length/\env=.any::.sl j 0 l.length::.ptr jb 0::naL 2 (.row jr i::intA i::naL 37 [])/\K=[(s,zk b),(j,.cells (l.map intA) et false),(jr,.row (((List.range i).map (stripM b l)).flatMap pairC) 96 2),(jb,.cells (zE b s h e) 26 true)]) l.length ⟨0,jr0,rfl,mN _,rfl,rfl⟩ fun n env K hI hnext=>?_;obtain ⟨i,jr,rfl,hi,rfl,rfl⟩:=hI;have hfl:=yz pairC 2 (fun _=>rfl) ((List.range i).map (stripM b l));rw [lJ,List.length_range] at hfl;refine bG nQ ?_;refine au 93728011422 ?_;constructor<;>intro hc0
 ·have hil:i<l.length:=by simp at hc0; omega
  have hmb:=xG hl hil;refine au 11680421302120 ?_;refine bD Z Z Z Z (qz hT hb hl hil) ?_;rintro r1 K2 ⟨jc,rfl,rfl⟩;refine au 13035422355 ?_;refine bA [1,2,5,6,7,8,9] ?_;refine bC [(s,_),(j,_),(jr,_),(jb,_),(jc,_)] ?_;refine bE (fun n env K=>∃ (t:Nat),n=(manyM b l i).toNat - t/\t<=(manyM b l i).toNat/\env=.any::.sl j 0 l.length::.ptr jb 0::naL 2 (.row jr i::intA i::.row jc (manyM b l i).toNat::intA (togM b [] (zN l i).toNat t)::intA t::naL 34 [])/\K=[(s,zk b),(j,.cells (l.map intA) et false),(jr,.row (((List.range i).map (stripM b l)).flatMap pairC) 96 2),(jb,.cells (zE b s h e) 26 true),(jc,.row ((clM b (zN l i).toNat (manyM b l i).toNat).map intA) 3 1)]) (manyM b l i).toNat ⟨0,rfl,mN _,rfl,rfl⟩ fun n env K hI2 hnext2=>?_;obtain ⟨t,rfl,ht,rfl,rfl⟩:=hI2;have htb:=qV hb (zN l i).toNat t;have hml:((zN l i).toNat+t) % b.seams.length<b.seams.length:=Nat.mod_lt _ oQ;have hwb:=hb.wide hml;refine bG nQ ?_;refine au 93728011422 ?_;constructor<;>intro hc1
  ·have htl:t<(manyM b l i).toNat:=by simp at hc1; omega
   refine au 1302120 ?_;refine bL [0,1,2,3,4,5,6,7,8] ?_;refine ad [[1,8],[12,2],[1,7],[1,9]] ?_;refine bT [28,29] Z (hq:=kB Z Z Z zF.h (mC _) oQ oQ) (h:=?_);refine bT [30] Z (hq:=zm Z Z zi.h (mC _) (zaj (i:=t) (jbb htl) Z)) (h:=?_);refine bQ (pend':=[⟨4,[28,29],[(_,_)]⟩,⟨3,[9],[]⟩,⟨2,[7],[]⟩,⟨0,[8],[]⟩]) [27,31] Z Z Z Z Z (zfy hT (i:=((zN l i).toNat+t) % b.seams.length) hb.rnd hb.sms hml) (fun r4 K5 h6=>⟨?_,?_⟩)
   ·rcases h6 with ⟨rfl,rfl⟩
    all_goals simp
   obtain ⟨rfl,rfl⟩:=h6;try simp only [cA]
   refine bS tQ ?_;refine ad [[8,26,32],[13,33],[14]] ?_;refine au 3523014140 ?_;refine bA [1,2,5,6,7,8,9] ?_;refine bC [(s,_),(j,_),(jr,_),(jb,_),(jc,_)] ?_;exact hnext2 _ _ _ oQ ⟨t+1,rfl,oQ,by rw [show togM b [] (zN l i).toNat t+wideM b (((zN l i).toNat+t) % b.seams.length)=togM b [] (zN l i).toNat (t+1) by show _=_+(wideM b _ - 0); omega]; rfl,rfl⟩
  obtain rfl:t=(manyM b l i).toNat:=by simp at hc1; omega
  refine au 3601114160 ?_;refine bH Z (zm Z Z zi.h mQ (yi (i:=i) (z6 hil) Z)) ?_;refine au 3901 ?_;refine bI Z Z Z (zt (l:=[_,_]) Z zF.h TyZ.h dQ dQ Z) (fun _=>zu rfl tQ) fun j7 hj7=>?_;refine bO Z Z Z (a_app Z ApOf.h Z mQ (by rw [hfl]) Z (yw (ln:=[_,_]) mQ dQ sQ Z) oQ Z (by unfold maxLen; omega) oQ) (fun _=>uQ) (fun _=>zu rfl tQ) fun jr2=>?_;refine au 352301414035 ?_;refine bA [1,2,5,6] ?_;refine bC [(s,_),(j,_),(jr2,_),(jb,_)] ?_;exact hnext _ _ _ oQ ⟨i+1,jr2,rfl,oQ,rfl,by rw [zbQ]; unfold pairC; rw [jay hl hil]; rfl⟩
 obtain rfl:i=l.length:=by simp at hc0; omega
 refine au 35142160 ?_;refine bB hret [(jr,_),(s,_),(j,_)] ?_;exact ⟨jr,rfl,rfl⟩
theorem jaj {main T} (hT:zo tp main T) {gm} {b:RBk} {s h e j:Nat} {et:TypeId} {l:List Int} (hb:ROk b) (hl:CutsOk b l) :
  zA tp T gm 96 [.agg (zE b s h e),.sl j 0 l.length] [(s,zk b),(j,.cells (l.map intA) et false)] (fun r K'=>r=zP (fitsM b l)/\K'=[(s,zk b),(j,.cells (l.map intA) et false)]):=by
 refine zp 41 hT Tryz.func96 fun Y hret=>?_;refine au 0 ?_;have hsl:=hb.sms.len;have hll:=hl.len;refine au 21042 ?_;intro jb hjb;refine au 16804235 ?_;refine bD Z Z Z Z (qG hT hb hl) ?_;rintro r1 K2 ⟨jr,rfl,rfl⟩;refine au 937690670280142235 ?_;constructor<;>intro hc0
 ·refine au 3542 ?_;refine bB hret [(s,_),(j,_)] ?_;exact ⟨by unfold fitsM; rw [decide_eq_false (by have:=of_decide_eq_true hc0; omega)]; rfl,rfl⟩
 have hle:(l.length:Int)<=b.rolls:=by have:=of_decide_eq_false hc0; omega
 refine au 13035422120 ?_;refine bA [2,5,6] ?_;refine bC [(s,_),(j,_),(jr,_),(jb,_)] ?_;refine bE (fun n env K=>∃ (i:Nat),n=l.length - i/\i<=l.length/\(List.range i).all (fun k => !(cutS b l k).whole&&decide ((stripM b l k).2<=b.roll))=true/\env=naL 2 (.ptr jb 0::naL 2 (.row jr l.length::intA i::naL 34 []))/\K=[(s,zk b),(j,.cells (l.map intA) et false),(jr,.row ((stripsM b l).flatMap pairC) 96 2),(jb,.cells (zE b s h e) 26 true)]) l.length ⟨0,rfl,mN _,rfl,rfl,rfl⟩ fun n env K hI hnext=>?_;obtain ⟨i,rfl,hi,hal,rfl,rfl⟩:=hI;refine bG nQ ?_;refine au 93728011422 ?_;constructor<;>intro hc1
 ·have hil:i<l.length:=by simp at hc1; omega
  have hq:=hl.lt hil;refine au 21302120 ?_;have hs1:(stripM b l i).1=zN l i:=rfl;refine bL [0,1,2,3,4,5,6,7,8,9,10,11,12,13,14,15,16,17,18,19] ?_;refine ad [[1,5],[1,6]] ?_;refine bT [21,22] Z (hq:=kB Z Z Z zF.h (mC _) oQ oQ) (h:=?_);refine ad [[3,23]] ?_;refine bT [24] Z (hq:=zm Z Z zi.h (mC _) (yn (c:=1) (zbp (c:=2) (f:=pairC) (fun _=>rfl) (xA (b:=b) hil) rfl dQ) dQ rfl)) (h:=?_);refine ad [[3,2],[10,26],[4,25,27],[1,28]] ?_;refine bW 29 (fun g7_9=>?_) (fun g7_9=>?_)
  ·have hbad:¬ (stripM b l i).2<=b.roll\/(cutS b l i).whole=true:=.inl (by have:=of_decide_eq_true g7_9; omega);refine ad [[11,2,29],[11,29,30],[11,5,29],[11,6,29],[11,29,32,33],[11,29,34],[11,29,35],[11,29,31,36],[11,29,37],[11,29,38],[7,29,39],[14]] ?_;refine au 3542180 ?_;refine bB hret [(s,_),(j,_)] ?_;exact ⟨by rw [qH hil hbad],rfl⟩
  refine ad [[3,2,29],[10,29,30],[1,5,29],[1,6,29]] ?_;refine bT [29,32,33] Z (hq:=kB Z Z Z zF.h (mC _) oQ oQ) (h:=?_);refine ad [[3,29,34]] ?_;refine bT [29,35] Z (hq:=zm Z Z zi.h (mC _) (yn (c:=0) (zbp (c:=2) (f:=pairC) (fun _=>rfl) (xA (b:=b) hil) rfl dQ) dQ rfl)) (h:=?_);refine ad [[2,29,31,36],[3,29,37]] ?_;refine bT [29,38] Z (hq:=zm Z Z zi.h (mC _) (yn (c:=4) (sm_at b (i:=(zN l i).toNat) hq.2.2 oQ) dQ Z)) (h:=?_);refine ad [[6,29,39],[14]] ?_;refine au 9 ?_;constructor<;>intro hc2
  ·have hbad:¬ (stripM b l i).2<=b.roll\/(cutS b l i).whole=true:=.inr hc2;refine au 3542 ?_;refine bB hret [(s,_),(j,_)] ?_;exact ⟨by rw [qH hil hbad],rfl⟩
  have hok:(!(cutS b l i).whole&&decide ((stripM b l i).2<=b.roll))=true:=by have h1:=of_decide_eq_false g7_9; rw [show (cutS b l i).whole=false from hc2,decide_eq_true (show (stripM b l i).2<=b.roll by omega)]; rfl
  refine au 3523014140120 ?_;refine bA [2,5,6] ?_;refine bC [(s,_),(j,_),(jr,_),(jb,_)] ?_;exact hnext _ _ _ oQ ⟨i+1,rfl,oQ,by rw [List.range_succ,List.all_append,hal]; simp [hok],rfl,rfl⟩
 obtain rfl:i=l.length:=by simp at hc1; omega
 refine au 3542160 ?_;refine bB hret [(s,_),(j,_)] ?_;exact ⟨by unfold fitsM; rw [decide_eq_true hle,hal]; rfl,rfl⟩
def u8A (x:Fin 256):AV:=.v (.int .u8 (x.1:Int))
def u8O (l:List (Fin 256)):AObj:=.cells (l.flatMap fun x=>[u8A x]) 5 false
def Feas (b:RBk) (l x:List Int):Prop:=x.length=l.length/\∀ i,0<=x.getD i 0/\(i<l.length->x.getD i 0<=(cutS b l i).most)
theorem qY {b:RBk} (hb:ROk b) {s:List Int} (hs:StOk b s):b.round - b.steps+sumF (fun i=>s.getD i 0) s.length=freshM b s:=by
 rw [jak hb hs,hs.len]
theorem jax {b:RBk} {s:List Int} (hs:StOk b s):∀ k,k<=s.length->0<=sumF (fun i=>s.getD i 0) k/\sumF (fun i=>s.getD i 0) k<=5*k
 | 0,_=>by show (0:Int)<=0/\(0:Int)<=_; omega
 | k+1,h=>by
  have h1:=jax hs k oQ;have h2:=hs.bnd k (by rw [<- hs.len]; omega);show 0<=_+s.getD k 0/\_+s.getD k 0<=_;omega
instance:Cal tp 74:={}
instance:zF tp 100 5 1:={}
instance:zi tp 5 false 1:={}
instance:Und tp 100 (.slice 5):={}
theorem qg {main T} (hT:zo tp main T) {gm} {b:RBk} {s h e j:Nat} {st:List Int} {et:TypeId} (hb:ROk b) (hs:StOk b st) :
  zA tp T gm 74 [.agg (zE b s h e),.sl j 0 st.length] [(j,.cells (st.map intA) et false)] (fun r K'=>r=intA (freshM b st)/\K'=[(j,.cells (st.map intA) et false)]):=by
 refine zp 25 hT Tryz.func74 fun Y hret=>?_;refine au 0 ?_;have hsl:=hb.sms.len;have hst:=hs.len;have hrd:=hb.rnd.round;have hrs:=hb.rnd.steps;refine au 21042 ?_;intro jb hjb;refine au 13035422352406906706906704235 ?_;refine bA [1,5,6] ?_;refine bC [(j,_)] ?_;refine bE (fun n env K=>∃ (i:Nat),n=st.length - i/\i<=st.length/\env=.any::.sl j 0 st.length::naL 3 ((intA (b.round - b.steps+sumF (fun i=>st.getD i 0) i))::intA i::naL 18 [])/\K=[(j,.cells (st.map intA) et false)]) st.length ⟨0,rfl,mN _,by rw [show b.round - b.steps+sumF (fun i=>st.getD i 0) 0=b.round - b.steps from Int.add_zero _]; rfl,rfl⟩ fun n env K hI hnext=>?_;obtain ⟨i,rfl,hi,rfl,rfl⟩:=hI;have hsb:=jax hs i hi;refine bG nQ ?_;refine au 93728011422 ?_;constructor<;>intro hc0
 ·have hil:i<st.length:=by simp at hc0; omega
  have hq:=hs.bnd i oQ;have hq2:0<=zN st i/\zN st i<=5:=⟨hq.1,hq.2.1⟩;refine au 36011141302120 ?_;refine bH Z (zm Z Z zi.h mQ (yi (i:=i) (z6 hil) Z)) ?_;refine au 352301414035230 ?_;refine bA [1,5,6] ?_;refine bC [(j,_)] ?_;exact hnext _ _ _ oQ ⟨i+1,rfl,oQ,by rw [show b.round - b.steps+sumF (fun i=>st.getD i 0) i+zN st i=b.round - b.steps+sumF (fun i=>st.getD i 0) (i+1) by rw [Int.add_assoc]; rfl]; rfl,rfl⟩
 obtain rfl:i=st.length:=by simp at hc0; omega
 refine au 35142160 ?_;refine bB hret [(j,_)] ?_;exact ⟨by rw [qY hb hs] <;> rfl,rfl⟩
end Go.Vel
namespace Go.Vel
open Go Go.Conc
theorem jaS {L:List Int} {k:Nat} (h:k<L.length) {v:Int} (hv:L.getD k 0=v):L.set k v=L:=by
 refine List.ext_getElem? fun i=>?_;rw [lX];by_cases e:k=i
 ·rw [if_pos e,if_pos h,<- e,lA h];rw [lE,lA h] at hv;exact congrArg some hv.symm
 ·rw [if_neg e]
theorem xe {b:RBk} {l:List Int}:∀ (o:List Int) (z:Alloc),z.left=0->(∀ k∈o,0<=(cutS b l k.toNat).most/\k.toNat<z.steps.length/\z.steps.getD k.toNat 0=0)->o.foldl (allocM b l) z=z
 | [],z,_,_=>rfl
 | k::o,z,h0,h=>by
  have hk:=h k sQ;have e:allocM b l z k=z:=by
   obtain ⟨st,sq,lf⟩:=z;have h0:lf=0:=h0;subst h0;show (⟨st.set k.toNat (min 0 _),sq+min 0 _*_,0 - min 0 _⟩:Alloc)=_;rw [Int.min_eq_left hk.1,jaS hk.2.1 hk.2.2,Int.zero_mul,Int.add_zero,Int.sub_zero]
  rw [List.foldl_cons,e];exact xe o z h0 fun x hx=>h x (by simp [hx])
theorem xO {b:RBk} {l:List Int} {p:Nat}:∀ (o:List Int) (z:Alloc),(∀ k∈o,k.toNat≠p/\k.toNat<z.steps.length)->(o.foldl (allocM b l) z).steps.getD p 0=z.steps.getD p 0
 | [],z,_=>rfl
 | k::o,z,h=>by
  have hk:=h k sQ;rw [List.foldl_cons,xO o (allocM b l z k) (fun x hx=>⟨(h x (by simp [hx])).1,by show x.toNat<(z.steps.set _ _).length; rw [List.length_set]; exact (h x (by simp [hx])).2⟩)];show (z.steps.set k.toNat _).getD p 0=_;rw [jW hk.2,if_neg (fun e=>hk.1 e.symm)]
def keyK (b:RBk) (l:List Int) (k:Int):Int:=(cutS b l k.toNat).busy*10 - k
def mostK (b:RBk) (l:List Int) (k:Int):Int:=(cutS b l k.toNat).most
def gO (b:RBk) (l:List Int) (o:List Int) (st:List Int) (sq u:Int):Alloc:=o.foldl (allocM b l) ⟨st,sq,u⟩
theorem xX {b:RBk} {l:List Int}:∀ (o:List Int) (st:List Int) (sq u:Int),o.Nodup->(∀ k∈o,0<=k/\k.toNat<st.length/\st.getD k.toNat 0=0/\0<=mostK b l k)->(o.Pairwise fun a c=>keyK b l a<=keyK b l c)->0<=u ->
  (u<fS (mostK b l) o/\∃ k∈o,(gO b l o st sq u).steps.getD k.toNat 0<mostK b l k/\(gO b l o st sq (u+1)).steps=(gO b l o st sq u).steps.set k.toNat ((gO b l o st sq u).steps.getD k.toNat 0+1)/\(gO b l o st sq (u+1)).squares=(gO b l o st sq u).squares+(cutS b l k.toNat).busy/\∀ x∈o,(gO b l o st sq u).steps.getD x.toNat 0<mostK b l x->keyK b l k<=keyK b l x) \/
  (fS (mostK b l) o<=u/\∀ x∈o,(gO b l o st sq u).steps.getD x.toNat 0=mostK b l x)
 | [],st,sq,u,_,_,_,hu=>.inr ⟨hu,fun x hx=>by cases hx⟩
 | k::o,st,sq,u,hn,h,hp,hu=>by
  obtain ⟨n1,n2⟩:=List.nodup_cons.1 hn;obtain ⟨p1,p2⟩:=List.pairwise_cons.1 hp;have hk:=h k sQ;have hne:∀ x∈o,x.toNat≠k.toNat:=fun x hx e=>n1 (by have h9:=h x (by simp [hx]); have h8:x=k:=oQ; exact h8 ▸ hx);have hcap:=fS_nn (f:=mostK b l) o (fun x hx=>(h x (by simp [hx])).2.2.2);have hnext:∀ (v lf:Int),(∀ x∈o,0<=x/\x.toNat<(st.set k.toNat v).length/\(st.set k.toNat v).getD x.toNat 0=0/\0<=mostK b l x):=fun v lf x hx=>by
   have hx':=h x (by simp [hx]);rw [List.length_set,jW hk.2.1,if_neg (hne x hx)];exact hx'
  have hg:∀ w,gO b l (k::o) st sq w=gO b l o (st.set k.toNat (min w (mostK b l k))) (sq+min w (mostK b l k)*(cutS b l k.toNat).busy) (w - min w (mostK b l k)):=fun w=>rfl;by_cases hc:u<mostK b l k
  ·left;refine ⟨by show u<mostK b l k+_; omega,k,by simp,?_⟩;rw [hg,hg,Int.min_eq_left (show u<=mostK b l k by omega),Int.min_eq_left (show u+1<=mostK b l k by omega),Int.sub_self,Int.sub_self];have e1:∀ v q,gO b l o (st.set k.toNat v) q 0=⟨st.set k.toNat v,q,0⟩:=fun v q=>xe o _ rfl fun x hx=>by
    have:=hnext v 0 x hx;exact ⟨this.2.2.2,this.2.1,this.2.2.1⟩
   rw [e1,e1];dsimp only;rw [jW hk.2.1,if_pos rfl,List.set_set];refine ⟨hc,rfl,by rw [Int.add_mul,Int.one_mul]; omega,fun x hx _=>?_⟩;rcases lI.1 hx with rfl | hx
   ·exact Int.le_refl _
   ·exact p1 x hx
  ·rw [hg,hg,Int.min_eq_right (show mostK b l k<=u by omega),Int.min_eq_right (show mostK b l k<=u+1 by omega)];have hkeep:∀ q w,(gO b l o (st.set k.toNat (mostK b l k)) q w).steps.getD k.toNat 0=mostK b l k:=fun q w=>by
    unfold gO;rw [xO o _ (fun x hx=>⟨hne x hx,(hnext _ 0 x hx).2.1⟩)];show (st.set _ _).getD _ 0=_;rw [jW hk.2.1,if_pos rfl]
   rcases xX o (st.set k.toNat (mostK b l k)) (sq+mostK b l k*(cutS b l k.toNat).busy) (u - mostK b l k) n2 (hnext _ 0) p2 oQ with ⟨h1,x,hx,h2,h3,h4,h5⟩ | ⟨h1,h2⟩
   ·left;rw [show u - mostK b l k+1=u+1 - mostK b l k by omega] at h3 h4;refine ⟨by show u<mostK b l k+_; omega,x,by simp [hx],h2,h3,h4,fun y hy hlt=>?_⟩;rcases lI.1 hy with rfl | hy
    ·rw [hkeep] at hlt; omega
    ·exact h5 y hy hlt
   ·right;refine ⟨by show mostK b l k+_<=u; omega,fun y hy=>?_⟩;rcases lI.1 hy with rfl | hy
    ·exact hkeep _ _
    ·exact h2 y hy
def gA (b:RBk) (l:List Int) (u:Int):Alloc:=gO b l (ordM b l) (mB l.length 0) (spoilM b l l.length) u
theorem rep0 (n i:Nat):(mB n (0:Int)).getD i 0=0:=by
 rw [lE,List.getElem?_replicate];split <;> rfl
theorem jbn {b:RBk} {l:List Int} (hl:l.length<=5):(ordM b l).Pairwise fun a c=>keyK b l a<=keyK b l c:=by
 unfold ordM sortR;refine xj (K:=keyK b l) (fun x hx y hy=>?_) _ (mL _);have h1:=zbj hx;have h2:=zbj hy;unfold busyLt keyK;rw [Bool.eq_iff_iff];simp only [Bool.or_eq_true,mX,decide_eq_true_eq];omega
theorem jar {b:RBk} {l:List Int} {i:Nat} (h:i<l.length):(i:Int)∈ordM b l:=by
 unfold ordM sortR;have hp:=jJ (lt:=busyLt b l) (l:=idxM l.length) (idxM l.length).length (mL _);rw [lW] at hp;refine hp.symm.subset ?_;unfold idxM;exact lY.2 ⟨i,List.mem_range.2 h,rfl⟩
theorem xE {b:RBk} (hb:ROk b) {l:List Int} (hl:CutsOk b l):gA b l 0=⟨mB l.length 0,spoilM b l l.length,0⟩:=xe _ _ rfl fun k hk=>by
 have:=zdP hk;exact ⟨xk hb hl k hk,by show k.toNat<(mB _ _).length; rw [List.length_replicate]; omega,rep0 _ _⟩
theorem jal (b:RBk) (l:List Int) (u:Int):(gA b l u).steps.length=l.length:=by
 unfold gA gO;rw [zby];exact List.length_replicate
def bestI (b:RBk) (l x:List Int):Nat->Int
 | 0 => -1
 | i+1=>if x.getD i 0<(cutS b l i).most/\(bestI b l x i<0\/(cutS b l i).busy<=(cutS b l (bestI b l x i).toNat).busy) then i else bestI b l x i
theorem jP (b:RBk) (l x:List Int):∀ n,n<=10->(bestI b l x n = -1/\∀ j,j<n->¬ x.getD j 0<(cutS b l j).most)\/(0<=bestI b l x n/\bestI b l x n<n/\x.getD (bestI b l x n).toNat 0<(cutS b l (bestI b l x n).toNat).most/\∀ j,j<n->x.getD j 0<(cutS b l j).most->keyK b l (bestI b l x n)<=keyK b l j)
 | 0,_=>.inl ⟨rfl,fun j h=>by omega⟩
 | n+1,hn=>by
  have ih:=jP b l x n oQ;unfold bestI;by_cases hc:x.getD n 0<(cutS b l n).most/\(bestI b l x n<0\/(cutS b l n).busy<=(cutS b l (bestI b l x n).toNat).busy)
  ·rw [if_pos hc];right;refine ⟨by omega,oQ,by rw [mZ]; exact hc.1,fun j hj hlt=>?_⟩;by_cases e:j=n
   ·rw [e]; exact Int.le_refl _
   ·rcases ih with ⟨_,h2⟩ | ⟨h1,h2,_,h4⟩
    ·exact absurd hlt (h2 j oQ)
    ·have h5:=h4 j oQ hlt;have h6:=hc.2.resolve_left oQ;unfold keyK at h5 ⊢;rw [mZ] at h5 ⊢;rw [mZ];omega
  ·rw [if_neg hc];rcases ih with ⟨h1,h2⟩ | ⟨h1,h2,h3,h4⟩
   ·left;refine ⟨h1,fun j hj hlt=>?_⟩;by_cases e:j=n
    ·rw [e] at hlt; exact hc ⟨hlt,.inl oQ⟩
    ·exact h2 j oQ hlt
   ·right;refine ⟨h1,oQ,h3,fun j hj hlt=>?_⟩;by_cases e:j=n
    ·rw [e] at hlt ⊢;have h6:¬ (cutS b l n).busy<=(cutS b l (bestI b l x n).toNat).busy:=fun hh=>hc ⟨hlt,.inr hh⟩;unfold keyK;rw [mZ];omega
    ·exact h4 j oQ hlt
theorem jbf {b:RBk} (hb:ROk b) {l:List Int} (hl:CutsOk b l) {u:Int} (hu:0<=u):(u<mostS b l l.length/\0<=bestI b l (gA b l u).steps l.length/\bestI b l (gA b l u).steps l.length<l.length/\(gA b l (u+1)).steps=(gA b l u).steps.set (bestI b l (gA b l u).steps l.length).toNat ((gA b l u).steps.getD (bestI b l (gA b l u).steps l.length).toNat 0+1)/\(gA b l (u+1)).squares=(gA b l u).squares+(cutS b l (bestI b l (gA b l u).steps l.length).toNat).busy)\/(mostS b l l.length<=u/\bestI b l (gA b l u).steps l.length = -1):=by
 have hn5:l.length<=5:=by have:=hl.len; have:=hb.sms.len; omega
 have hfs:fS (mostK b l) (ordM b l)=mostS b l l.length:=by rw [x8]; rfl
 have hst:=xX (b:=b) (l:=l) (ordM b l) (mB l.length 0) (spoilM b l l.length) u (jas b l) (fun k hk=>by
  have:=zdP hk;exact ⟨this.1,by rw [List.length_replicate]; omega,rep0 _ _,xk hb hl k hk⟩) (jbn hn5) hu
 rw [hfs] at hst;have hbs:=jP b l (gA b l u).steps l.length oQ;rcases hst with ⟨h1,k,hk,h2,h3,h4,h5⟩ | ⟨h1,h2⟩
 ·left;have hkm:=zdP hk;rcases hbs with ⟨_,g2⟩ | ⟨g1,g2,g3,g4⟩
  ·exact absurd h2 (g2 k.toNat oQ)
  ·have e1:=g4 k.toNat oQ h2;have hin:bestI b l (gA b l u).steps l.length∈ordM b l:=by
    have:=jar (b:=b) (l:=l) (i:=(bestI b l (gA b l u).steps l.length).toNat) oQ;rwa [show (((bestI b l (gA b l u).steps l.length).toNat:Nat):Int)=bestI b l (gA b l u).steps l.length by omega] at this
   have e2:=h5 _ hin g3;have e:bestI b l (gA b l u).steps l.length=k:=by
    rw [show ((k.toNat:Nat):Int)=k by omega] at e1;unfold keyK at e1 e2;omega
   rw [e];exact ⟨h1,oQ,oQ,h3,h4⟩
 ·right;refine ⟨h1,?_⟩;rcases hbs with ⟨g1,_⟩ | ⟨g1,g2,g3,_⟩
  ·exact g1
  ·exfalso;have hin:=jar (b:=b) (l:=l) (i:=(bestI b l (gA b l u).steps l.length).toNat) oQ;have:=h2 _ hin;rw [mZ] at this;unfold mostK at this;rw [mZ] at this;have h6:(gA b l u).steps.getD (bestI b l (gA b l u).steps l.length).toNat 0=(cutS b l (bestI b l (gA b l u).steps l.length).toNat).most:=this;omega
theorem qI {b:RBk} (hb:ROk b) {l s:List Int} (hl:CutsOk b l) (hs:StOk b s) (hf:fitsM b l=true):hangM b l s=if freshM b s<=mostS b l l.length then some ((gA b l (freshM b s)).steps,(gA b l (freshM b s)).squares) else none:=by
 have hfo:=qZ hb hl hs;rw [hf,Bool.true_and] at hfo;by_cases h:freshM b s<=mostS b l l.length
 ·rw [if_pos h];rw [decide_eq_true h] at hfo;unfold hangM at hfo ⊢;rw [if_neg (by rw [hf]; decide)] at hfo ⊢;dsimp only at hfo ⊢;split at hfo
  ·cases hfo
  ·rename_i h2;rw [if_neg h2];rfl
 ·rw [if_neg h];rw [decide_eq_false h] at hfo;cases hz:hangM b l s with
  | none=>rfl
  | some z=>rw [hz] at hfo; cases hfo
end Go.Vel
namespace Go.Vel
open Go Go.Conc Go.Proofs
theorem jaa {b:RBk} {l s:List Int} (h:fitsM b l=false):hangM b l s=none:=by unfold hangM; rw [if_pos h]
theorem gA_nn {b:RBk} (hb:ROk b) {l:List Int} (hl:CutsOk b l) {u:Int} (hu:0<=u) (i:Nat):0<=(gA b l u).steps.getD i 0 :=
 (zb5 hb hl (ordM b l) ⟨mB l.length 0,spoilM b l l.length,u⟩ (fun k hk=>zdP hk) hu (fun k=>by
  show 0<=(mB l.length (0:Int)).getD k 0/\(mB l.length (0:Int)).getD k 0<=9;rw [rep0]
  decide) i).1
instance:Cal tp 96:={}
theorem jam {main T} (hT:zo tp main T) {gm} {b:RBk} {s h e j j2:Nat} {l st:List Int} {et et2:TypeId} (hb:ROk b) (hl:CutsOk b l) (hs:StOk b st) :
  zA tp T gm 103 [.agg (zE b s h e),.sl j 0 l.length,.sl j2 0 st.length] [(s,zk b),(j,.cells (l.map intA) et false),(j2,.cells (st.map intA) et2 false)] (fun r K'=>(hangM b l st=none/\r=.tup [.v (.slice none 0 0),intA 0,zP false]/\K'=[(s,zk b),(j,.cells (l.map intA) et false),(j2,.cells (st.map intA) et2 false)])\/(∃ w q jw,hangM b l st=some (w,q)/\r=.tup [.sl jw 0 w.length,intA q,zP true]/\K'=(jw,.cells (w.map intA) 3 false)::[(s,zk b),(j,.cells (l.map intA) et false),(j2,.cells (st.map intA) et2 false)])):=by
 refine zp 108 hT Tryz.func103 fun Y hret=>?_;refine au 0 ?_;have hsl:=hb.sms.len;have hll:=hl.len;have hlp:=hl.pos;have hfb:=zcm hb hs;refine au 21042 ?_;intro jb hjb;refine au 16804223555 ?_;refine bD Z Z Z Z (jaj hT hb hl) ?_;rintro r1 K2 ⟨rfl,rfl⟩;refine au 93300 ?_;constructor<;>intro hc0
 ·refine au 355542 ?_;refine bB hret [(s,_),(j,_),(j2,_)] ?_;exact .inl ⟨jaa (by simpa using hc0),rfl,rfl⟩
 have hfit:fitsM b l=true:=by simpa using hc0
 refine au 280142120 ?_;refine TK.newS Z Z Z (zdN Z Z Z ApOf.h TyZ.h hlp oQ) (fun _=>zu rfl tQ) fun jw hjw=>?_;refine au 13035422355 ?_;refine bA [1,2,3,9,10,11] ?_;refine bC [(jw,_),(s,_),(j,_),(j2,_),(jb,_)] ?_;refine bE (fun n env K=>∃ (i:Nat),n=l.length - i/\i<=l.length/\env=.any::.sl j 0 l.length::.sl j2 0 st.length::.ptr jb 0::naL 5 (.sl jw 0 l.length::intA (spoilM b l i)::intA i::naL 96 [])/\K=[(jw,.cells ((mB l.length (0:Int)).map intA) 3 true),(s,zk b),(j,.cells (l.map intA) et false),(j2,.cells (st.map intA) et2 false),(jb,.cells (zE b s h e) 26 true)]) l.length ⟨0,rfl,mN _,rfl,rfl⟩ fun n env K hI hnext=>?_;obtain ⟨i,rfl,hi,rfl,rfl⟩:=hI;have hsb:=zaI hb hl i hi;refine bG nQ ?_;refine au 93728011422 ?_;constructor<;>intro hc1
 ·have hil:i<l.length:=by simp at hc1; omega
  have hcu:=hl.lt hil;have hf1:=hb.sms.fld _ hcu.2.2;refine au 1302120 ?_;refine bL [0,1,2,3,4,5,6,7,8,9,10,11] ?_;refine ad [[1,10],[3,3],[10,30],[1,1],[1,11],[2,32,33]] ?_;refine bT [34] Z (hq:=zm Z Z zi.h (mC _) (yi (i:=i) (z6 hil) Z)) (h:=?_);refine ad [[2,31,35],[3,36]] ?_;refine bT [37] Z (hq:=zm Z Z zi.h (mC _) (yn (c:=3) (sm_at b (i:=(zN l i).toNat) hcu.2.2 oQ) dQ Z)) (h:=?_);refine ad [[8,29,38],[13,39],[14]] ?_;refine au 3523014140 ?_;refine bA [1,2,3,9,10,11] ?_;refine bC [(jw,_),(s,_),(j,_),(j2,_),(jb,_)] ?_;exact hnext _ _ _ oQ ⟨i+1,rfl,oQ,rfl,rfl⟩
 obtain rfl:i=l.length:=by simp at hc1; omega
 refine au 1680422160 ?_;refine bD Z Z Z Z (qg hT hb hs) ?_;rintro r4 K5 ⟨rfl,rfl⟩;refine au 13035 ?_;refine bA [1,3,9,10,12] ?_;refine bC [(jw,_),(s,_),(j,_),(j2,_),(jb,_)] ?_;refine bE (fun n env K=>∃ (u:Int),n=(freshM b st - u).toNat/\0<=u/\u<=freshM b st/\(u=0\/u<=mostS b l l.length)/\(0<=(gA b l u).squares/\(gA b l u).squares<=45+9*u)/\env=.any::.sl j 0 l.length::.any::.ptr jb 0::naL 5 (.sl jw 0 l.length::intA (gA b l u).squares::.any::intA (freshM b st - u)::naL 95 [])/\K=[(jw,.cells ((gA b l u).steps.map intA) 3 true),(s,zk b),(j,.cells (l.map intA) et false),(j2,.cells (st.map intA) et2 false),(jb,.cells (zE b s h e) 26 true)]) (freshM b st).toNat ⟨0,oQ,Int.le_refl _,hfb.1,.inl rfl,by rw [xE hb hl]; dsimp only; omega,by rw [xE hb hl,Int.sub_zero]; rfl,by rw [xE hb hl]⟩ fun n env K hI hnext=>?_;obtain ⟨u,rfl,hu0,hu1,hum,hsq,rfl,rfl⟩:=hI;have hgl:=jal b l u;refine bG nQ ?_;refine au 9371422 ?_;constructor<;>intro hc2
 ·have hlt:u<freshM b st:=by simp at hc2; omega
  refine au 1303542235421302120 ?_;refine bA [1,3,9,10,12,13,14] ?_;refine bE (fun n env K=>∃ (i:Nat),n=l.length - i/\i<=l.length/\env=.any::.sl j 0 l.length::.any::.ptr jb 0::naL 5 (.sl jw 0 l.length::intA (gA b l u).squares::.any::intA (freshM b st - u)::intA (bestI b l (gA b l u).steps i)::intA i::naL 93 [])/\K=[(jw,.cells ((gA b l u).steps.map intA) 3 true),(s,zk b),(j,.cells (l.map intA) et false),(j2,.cells (st.map intA) et2 false),(jb,.cells (zE b s h e) 26 true)]) l.length ⟨0,rfl,mN _,rfl,rfl⟩ fun n env K hI2 hnext2=>?_;obtain ⟨i,rfl,hi,rfl,rfl⟩:=hI2;have hbs:=jP b l (gA b l u).steps i oQ;refine bG nQ ?_;refine au 93728011422 ?_;constructor<;>intro hc3
  ·have hil:i<l.length:=by simp at hc3; omega
   have hcu:=hl.lt hil;have hf1:=hb.sms.fld _ hcu.2.2;refine au 21302120 ?_;refine bL [0,1,2,3,4,5,6,7,8,9] ?_;refine ad [[3,3],[10,53],[1,1],[1,14],[2,55,56]] ?_;refine bT [57] Z (hq:=zm Z Z zi.h (mC _) (yi (i:=i) (z6 hil) Z)) (h:=?_);refine ad [[2,54,58]] ?_;refine bT [59] Z (hq:=ya Z Z zi.h (mC _) (sm_at b (i:=(zN l i).toNat) hcu.2.2 oQ)) (h:=?_);refine TD.cnewP (pend':=[⟨7,[59],[(_,_)]⟩,⟨6,[54,58],[]⟩,⟨5,[57],[(_,_)]⟩,⟨4,[55,56],[]⟩,⟨3,[14],[]⟩,⟨2,[1],[]⟩,⟨1,[53],[(_,_)]⟩,⟨0,[3],[]⟩]) [] Z Z Z Z Z (yL Z TyZA.h) (fun _=>zu rfl tQ) sQ fun jm hjm=>?_;refine bR (pend':=[]) [15,60] Z Z (zX Z Z zi.h Z Z mQ Z) ?_;refine ad [[14]] ?_;refine au 2 ?_;refine bL [0,1,2,3,4,5,6,7,8,9,10,11,12,13,14,15,16,17,18,19,20,21,22,23,24] ?_;refine ad [[1,9],[1,14],[2,61,62]] ?_;refine bT [63] Z (hq:=zm Z Z zi.h (mC _) (yi (i:=i) (z6 (l:=(gA b l u).steps) oQ) Z)) (h:=?_);refine ad [[3,15],[10,65],[4,64,66],[1,67]] ?_;refine bW 68 (fun g16_8=>?_) (fun g16_8=>?_)
   ·have h8:(gA b l u).steps.getD i 0<(cutS b l i).most:=of_decide_eq_true g16_8;refine ad [[1,13,68],[4,68,69],[1,68,70]] ?_;refine bW 71 (fun g16_11=>?_) (fun g16_11=>?_)
    ·have h11:bestI b l (gA b l u).steps i<0:=of_decide_eq_true g16_11;refine ad [[11,15,71],[11,71,72],[11,3,71],[11,71,74],[11,1,71],[11,13,71],[11,71,76,77],[11,71,78],[11,71,75,79],[11,71,80],[11,71,81],[11,71,73,82],[7,68,71,83],[7,68,84],[14]] ?_;refine au 35230141403514180 ?_;refine bA [1,3,9,10,12,13,14] ?_;refine bC [(jw,_),(s,_),(j,_),(j2,_),(jb,_)] ?_;exact hnext2 _ _ _ oQ ⟨i+1,rfl,oQ,by rw [show bestI b l (gA b l u).steps (i+1)=(i:Int) from if_pos ⟨h8,.inl h11⟩]; rfl,rfl⟩
    have h11:¬ bestI b l (gA b l u).steps i<0:=of_decide_eq_false g16_11;obtain ⟨bt,hbt⟩:∃ bt:Nat,bestI b l (gA b l u).steps i=(bt:Int):=⟨(bestI b l (gA b l u).steps i).toNat,oQ⟩;have hbl:bt<l.length:=by omega
    have hcb:=hl.lt hbl;rw [hbt];refine ad [[3,15,71],[10,71,72],[3,3,71],[10,71,74],[1,1,71],[1,13,71],[2,71,76,77]] ?_;refine bT [71,78] Z (hq:=zm Z Z zi.h (mC _) (yi (i:=bt) (z6 hbl) Z)) (h:=?_);refine ad [[2,71,75,79],[3,71,80]] ?_;refine bT [71,81] Z (hq:=zm Z Z zi.h (mC _) (yn (c:=2) (sm_at b (i:=(zN l bt).toNat) hcb.2.2 oQ) dQ Z)) (h:=?_);refine ad [[4,71,73,82],[6,68,71,83],[7,68,84],[14]] ?_;refine au 9 ?_;constructor<;>intro hc4
    ·refine au 35230141403514 ?_;refine bA [1,3,9,10,12,13,14] ?_;refine bC [(jw,_),(s,_),(j,_),(j2,_),(jb,_)] ?_;exact hnext2 _ _ _ oQ ⟨i+1,rfl,oQ,by rw [show bestI b l (gA b l u).steps (i+1)=(i:Int) from if_pos ⟨h8,.inr (by rw [hbt,mZ]; exact of_decide_eq_true hc4)⟩]; rfl,rfl⟩
    have hno:bestI b l (gA b l u).steps (i+1)=bestI b l (gA b l u).steps i:=if_neg (fun hh=>by
     rcases hh.2 with h | h
     ·omega
     ·rw [hbt,mZ] at h;exact absurd h (of_decide_eq_false hc4))
    refine au 3523014140120 ?_;refine bA [1,3,9,10,12,13,14] ?_;refine bC [(jw,_),(s,_),(j,_),(j2,_),(jb,_)] ?_;exact hnext2 _ _ _ oQ ⟨i+1,rfl,oQ,by rw [hno,hbt]; rfl,rfl⟩
   have h8:¬ (gA b l u).steps.getD i 0<(cutS b l i).most:=of_decide_eq_false g16_8;refine ad [[11,13,68],[11,68,69],[11,68,70],[11,15,71],[11,71,72],[11,3,71],[11,71,74],[11,1,71],[11,13,71],[11,71,76,77],[11,71,78],[11,71,75,79],[11,71,80],[11,71,81],[11,71,73,82],[11,68,71,83],[6,68,84],[14]] ?_;refine au 3523014140120190 ?_;refine bA [1,3,9,10,12,13,14] ?_;refine bC [(jw,_),(s,_),(j,_),(j2,_),(jb,_)] ?_;exact hnext2 _ _ _ oQ ⟨i+1,rfl,oQ,by rw [show bestI b l (gA b l u).steps (i+1)=(bestI b l (gA b l u).steps i) from if_neg (fun hh=>absurd hh.1 h8)]; rfl,rfl⟩
  obtain rfl:i=l.length:=by simp at hc3; omega
  have hgs:=jbf hb hl hu0;refine au 9371422160 ?_;constructor<;>intro hc5
  ·have hneg:bestI b l (gA b l u).steps l.length<0:=of_decide_eq_true hc5;have hmu:mostS b l l.length<=u:=by
    rcases hgs with ⟨_,h,_⟩ | ⟨h,_⟩
    ·omega
    ·exact h
   refine au 355542 ?_;refine bB hret [(s,_),(j,_),(j2,_)] ?_;exact .inl ⟨by rw [qI hb hl hs hfit,if_neg oQ],rfl,rfl⟩
  have hpos:¬ bestI b l (gA b l u).steps l.length<0:=of_decide_eq_false hc5;obtain ⟨q1,q2,q2b,q3,q4⟩:=hgs.resolve_right (fun h=>hpos (by rw [h.2]; decide));obtain ⟨bt,hbt⟩:∃ bt:Nat,bestI b l (gA b l u).steps l.length=(bt:Int):=⟨(bestI b l (gA b l u).steps l.length).toNat,oQ⟩;have hbl:bt<l.length:=by omega
  have hcb:=hl.lt hbl;have hfb2:=hb.sms.fld _ hcb.2.2;have hsp:=jP b l (gA b l u).steps l.length oQ;have hstp:zN (gA b l u).steps bt<9:=by
   rcases hsp with ⟨h,_⟩ | ⟨_,_,h,_⟩
   ·omega
   ·rw [hbt,mZ] at h;unfold cutS at h;show (gA b l u).steps.getD bt 0<9;omega
  have hbus:0<=(cutS b l (bestI b l (gA b l u).steps l.length).toNat).busy/\(cutS b l (bestI b l (gA b l u).steps l.length).toNat).busy<=9:=by rw [hbt,mZ]; unfold cutS; omega
  have hst0:0<=zN (gA b l u).steps bt:=gA_nn hb hl hu0 bt;rw [hbt];refine au 3601142120 ?_;refine bH Z (zm Z Z zi.h mQ (yi (i:=bt) (z6 (l:=(gA b l u).steps) oQ) Z)) ?_;refine au 360230 ?_;refine TK.st Z Z Z (zX Z Z zi.h Z Z mQ (vU (k:=bt) oQ Z)) uQ (putN Z) ?_;refine au 3 ?_;refine bL [0,1,2,3,4,5,6,7,8,9,10,11] ?_;refine ad [[1,10],[3,3],[10,96],[1,1],[1,13],[2,98,99]] ?_;refine bT [100] Z (hq:=zm Z Z zi.h (mC _) (yi (i:=bt) (z6 hbl) Z)) (h:=?_);refine ad [[2,97,101],[3,102]] ?_;refine bT [103] Z (hq:=zm Z Z zi.h (mC _) (yn (c:=2) (sm_at b (i:=(zN l bt).toNat) hcb.2.2 oQ) dQ Z)) (h:=?_);refine ad [[8,95,104],[13,105],[14]] ?_;refine au 3524014140 ?_;refine bA [1,3,9,10,12] ?_;refine bC [(jw,_),(s,_),(j,_),(j2,_),(jb,_)] ?_;exact hnext _ _ _ oQ ⟨u+1,rfl,oQ,oQ,.inr oQ,by rw [q4]; omega,by rw [q4,hbt,mZ,show freshM b st - u - 1=freshM b st - (u+1) by omega]; rfl,by rw [q3,hbt,mZ] <;> rfl⟩
 have hue:freshM b st=u:=by simp at hc2; omega
 have hm0:0<=mostS b l l.length:=fS_nn (f:=mostK b l) (ordM b l) (xk hb hl)|>fun h=>by rw [x8] at h; exact h
 refine au 2160 ?_;refine TK.frz (j:=jw) ?_;rw [hue];refine au 3555114 ?_;refine bB hret [(jw,_),(s,_),(j,_),(j2,_)] ?_;exact .inr ⟨(gA b l u).steps,(gA b l u).squares,jw,by rw [qI hb hl hs hfit,if_pos oQ,hue],by rw [jal] <;> rfl,rfl⟩
def posM (b:RBk) (l s w:List Int):Nat->Int
 | 0=>0
 | i+1=>atM b l s w i+togM b s (zN l i).toNat (manyM b l i).toNat
instance:Cal tp 102:={}
instance:Cal tp 103:={}
theorem xi {main T} (hT:zo tp main T) {gm} {j j2:Nat} {xs ys:List Int} {e1 e2:TypeId} (hl:xs.length<=1000) :
  zA tp T gm 29 [.sl j 0 xs.length,.sl j2 0 ys.length] [(j,.cells (xs.map intA) e1 false),(j2,.cells (ys.map intA) e2 false)] (fun r K'=>r=zP (decide (xs=ys))/\K'=[(j,.cells (xs.map intA) e1 false),(j2,.cells (ys.map intA) e2 false)]):=by
 refine zp 26 hT Tryz.func29 fun Y hret=>?_;refine au 937280128014223542 ?_;constructor<;>intro hc0
 ·refine au 3542 ?_;refine bB hret [(j,_),(j2,_)] ?_;exact ⟨by rw [decide_eq_false (fun h=>by rw [h] at hc0; simp at hc0)],rfl⟩
 have hll:xs.length=ys.length:=by simp at hc0; omega
 refine au 13035422120 ?_;refine bA [0,1,4,5] ?_;refine bE (fun n env K=>∃ (i:Nat),n=xs.length - i/\i<=xs.length/\xs.take i=ys.take i/\env=.sl j 0 xs.length::.sl j2 0 ys.length::naL 2 (zP false::intA i::naL 20 [])/\K=[(j,.cells (xs.map intA) e1 false),(j2,.cells (ys.map intA) e2 false)]) xs.length ⟨0,rfl,mN _,by simp,rfl,rfl⟩ fun n env K hI2 hnext=>?_;obtain ⟨i,rfl,hi,hta,rfl,rfl⟩:=hI2;refine bG nQ ?_;refine au 93728011422 ?_;constructor<;>intro hc1
 ·have hil:i<xs.length:=by simp at hc1; omega
  obtain ⟨x,hx⟩:∃ x,xs[i]? =some x:=⟨_,lA hil⟩;obtain ⟨y,hy⟩:∃ y,ys[i]? =some y:=⟨_,lA oQ⟩;refine au 21302120 ?_;refine bL [0,1,2,3,4,5,6,7,8] ?_;refine ad [[1,0],[1,5],[2,17,18]] ?_;refine bT [19] Z (hq:=zm Z Z zi.h (mC _) (yi hx Z)) (h:=?_);refine ad [[1,1],[1,5],[2,21,22]] ?_;refine bT [23] Z (hq:=zm Z Z zi.h (mC _) (yi hy Z)) (h:=?_);refine ad [[4,20,24],[14]] ?_;refine au 9 ?_;constructor<;>intro hc2
  ·refine au 3542 ?_;refine bB hret [(j,_),(j2,_)] ?_;exact ⟨by rw [decide_eq_false (ne_at hx hy (fun h=>by rw [h] at hc2; simp at hc2))],rfl⟩
  refine au 3523014140120 ?_;refine bA [0,1,4,5] ?_;refine bC [(j,_),(j2,_)] ?_;exact hnext _ _ _ oQ ⟨i+1,rfl,oQ,uX hx hy hta (by simp at hc2; exact hc2),rfl,rfl⟩
 obtain rfl:i=xs.length:=by simp at hc1; omega
 refine au 3542160 ?_;refine bB hret [(j,_),(j2,_)] ?_;exact ⟨by rw [decide_eq_true (zan hll hta)],rfl⟩
instance:Cal tp 21:={}
instance:Cal tp 23:={}
instance:Cal tp 28:={}
instance:Cal tp 31:={}
instance:ApOf tp 104 27 1 24:={}
instance:Cal tp 141:={}
instance:zF tp 104 27 1:={}
instance:TyZ tp 27 [.slice none 0 0]:={}
instance:Und tp 104 (.slice 27):={}
end Go.Vel
namespace Go.Vel
open Go Go.Conc
end Go.Vel
namespace Go.Vel
open Go Go.Conc Go.Proofs
def shortB (most:Int) (l:List Int):Bool:=decide ((l.length:Int)<most)
def moreM (most n:Int) (A:List (List Int)):List (List Int):=(A.filter (shortB most)).map (· ++ [n])
def setsM (most:Int):Nat->List (List Int)
 | 0=>[[]]
 | n+1=>setsM most n++moreM most n (setsM most n).reverse
section
variable {P:Program} {T:Goroutine->Hp->Prop} {gm:Nat->Option Nat} {K:KV}
theorem zA.fr {g:FuncId} {args:List AV} {Kb R:KV} {Post Post':AV->KV->Prop} (h:zA P T gm g args K Post) (hp:Kb.Perm (K++R)) (hq:∀ r K',Post r K'->∃ K2,(K'++R).Perm K2/\Post' r K2):zA P T gm g args Kb Post':=by
 intro A hv hn;have hv2:zM (K++R) A:=hv.sub fun x hx=>hp.symm.subset hx;have hn2:=(zT hp).nodup_iff.1 hn;have hn3:=hn2;rw [yb] at hn3;refine (h A (hv2.sub fun x hx=>lV _ hx) (List.nodup_append.1 hn3).1).mono ?_;rintro r A' ⟨K',hk,hp'⟩;obtain ⟨K2,h1,h2⟩:=hq r K' hp';exact ⟨K2,((hk.frame (jO K R) hv2 hn2).permR h1).permL hp.symm,h2⟩
end
def sN (S:List (Nat×List Int)) (k:Nat):Nat×List Int:=S.getD k (0,[])
theorem jU {S:List (Nat×List Int)} {k:Nat} (h:k<S.length):S[k]? =some (sN S k):=by
 unfold sN;rw [lE,lA h]; rfl
theorem jN {S:List (Nat×List Int)} {k:Nat} (h:k<S.length):sN S k∈S:=lN (jU h)
theorem xx {S:List (Nat×List Int)} {k:Nat} {n:Int} (hk:k<S.length) (h:n=(k:Int)) {e:TypeId} {sz:Nat}:takeO (.row (refsL S) e sz) (n.toNat*1) 1=some [.sl (sN S k).1 0 (sN S k).2.length]:=by
 have h1:=xl (P:=S) hk h (e:=e) (sz:=sz);have h2:=jU hk;rw [lA hk] at h2;rwa [Option.some.inj h2] at h1
def sqW (b:RBk) (all:List (List Int)) (l:List Int) (i:Nat):Int×Int:=spreadM ((waysM b (all.take i) l).map (·.2))
theorem xV {x:List Int} (h:x≠[]) (q:Int):spreadM (x++[q])=(min (spreadM x).1 q,max (spreadM x).2 q):=by
 cases x with
 | nil=>exact absurd rfl h
 | cons a r=>simp [spreadM,List.foldl_append]
theorem jH {b:RBk} {all:List (List Int)} {l st w:List Int} {q:Int} {i:Nat} (hi:all[i]? =some st) (hh:hangM b l st=some (w,q)):waysM b (all.take (i+1)) l=waysM b (all.take i) l++[(w,q)]:=by
 unfold waysM;rw [yQ hi,List.filterMap_append,List.filterMap_cons_some hh];rfl
theorem sqW_0 {b:RBk} {all:List (List Int)} {l st w:List Int} {q:Int} (hi:all[0]? =some st) (hh:hangM b l st=some (w,q)):sqW b all l 1=(q,q):=by
 unfold sqW;rw [jH hi hh];rfl
theorem sqW_S {b:RBk} {all:List (List Int)} {l st w:List Int} {q:Int} {i:Nat} (hi:all[i]? =some st) (hh:hangM b l st=some (w,q)) (hl:(waysM b (all.take i) l).length=i) (h0:i≠0):sqW b all l (i+1)=(min (sqW b all l i).1 q,max (sqW b all l i).2 q):=by
 unfold sqW;rw [jH hi hh,lM];refine xV (fun h=>?_) q;have:=congrArg List.length h;rw [lJ,hl] at this;exact h0 this
theorem qu {b:RBk} {all:List (List Int)} {l:List Int} (hl:(waysM b (all.take all.length) l).length=all.length):sqOk b all l=true/\sqLo b all l=(sqW b all l all.length).1/\sqHi b all l=(sqW b all l all.length).2:=by
 unfold sqOk sqLo sqHi sqW squaresM;rw [lW] at hl ⊢;rw [if_neg oQ];exact ⟨rfl,rfl,rfl⟩
theorem qv {b:RBk} {all:List (List Int)} {l st:List Int} {i:Nat} (hi:all[i]? =some st) (hh:hangM b l st=none):sqOk b all l=false/\sqLo b all l=0/\sqHi b all l=0:=by
 have h1:sqOk b all l=false:=by
  cases h:sqOk b all l with
  | false=>rfl
  | true=>have:=(jaZ b all l).1 h st (lN hi); rw [hh] at this; cases this
 refine ⟨h1,?_⟩;unfold sqOk at h1;unfold sqLo sqHi;cases h:squaresM b all l with
 | none=>exact ⟨rfl,rfl⟩
 | some z=>rw [h] at h1; cases h1
theorem qJ {main T} (hT:zo tp main T) {gm} {b:RBk} {s h e j:Nat} {l:List Int} {et:TypeId} {P:List (Nat×List Int)} {x:Nat×List Int} (hb:ROk b) (hl:CutsOk b l) (hs:StOk b x.2) (hx:x∈P):zA tp T gm 103 [.agg (zE b s h e),.sl j 0 l.length,.sl x.1 0 x.2.length] ((s,zk b)::(j,.cells (l.map intA) et false)::jA P) (fun r K'=>(hangM b l x.2=none/\r=.tup [.v (.slice none 0 0),intA 0,zP false]/\K'=(s,zk b)::(j,.cells (l.map intA) et false)::jA P)\/(∃ w q jw,hangM b l x.2=some (w,q)/\r=.tup [.sl jw 0 w.length,intA q,zP true]/\K'=(jw,.cells (w.map intA) 3 false)::(s,zk b)::(j,.cells (l.map intA) et false)::jA P)):=by
 obtain ⟨R,hR⟩:=jZ (jG hx);refine (jam hT hb hl hs).fr (R:=R) (List.Perm.cons _ (List.Perm.cons _ hR.perm)) ?_;rintro r K' (⟨h1,rfl,rfl⟩ | ⟨w,q,jw,h1,rfl,rfl⟩)
 ·exact ⟨_,(List.Perm.cons _ (List.Perm.cons _ hR.perm)).symm,.inl ⟨h1,rfl,rfl⟩⟩
 ·exact ⟨_,(List.Perm.cons _ (List.Perm.cons _ (List.Perm.cons _ hR.perm))).symm,.inr ⟨w,q,jw,h1,rfl,rfl⟩⟩
instance:Cal tp 77:={}
theorem qw {main T} (hT:zo tp main T) {gm} {b:RBk} {s h e j jr:Nat} {l:List Int} {et:TypeId} {Q P:List (Nat×List Int)} (hb:ROk b) (hl:CutsOk b l) (hall:okAll b (Q.map (·.2))) (hQP:∀ x∈Q,x∈P) (hQl:Q.length<=1000) :
  zA tp T gm 112 [.agg (zE b s h e),.sl j 0 l.length,.row jr Q.length] ((s,zk b)::(jr,.row (refsL Q) 27 1)::(j,.cells (l.map intA) et false)::jA P) (fun r K'=>r=.tup [.agg [intA (sqLo b (Q.map (·.2)) l),intA (sqHi b (Q.map (·.2)) l)],zP (sqOk b (Q.map (·.2)) l)]/\K'=(s,zk b)::(jr,.row (refsL Q) 27 1)::(j,.cells (l.map intA) et false)::jA P):=by
 refine zp 48 hT Tryz.func112 fun Y hret=>?_;refine au 21042 ?_;intro jb hjb;refine au 220 ?_;intro j6 hj6;refine au 2204235 ?_;intro jx hjx;refine au 130354223 ?_;refine bA [1,2,3,6,8,9] ?_;refine bC ((jx,_)::(j6,_)::(jb,_)::(s,_)::(jr,_)::(j,_)::jA P) ?_;refine bE (fun n env K=>∃ (i:Nat),n=Q.length - i/\i<=Q.length/\(waysM b ((Q.map (·.2)).take i) l).length=i/\env=.any::.sl j 0 l.length::.row jr Q.length::.ptr jb 0::naL 2 (.ptr j6 0::.any::.ptr jx 0::intA i::naL 38 [])/\K=(jx,.cells [intA (sqW b (Q.map (·.2)) l i).1,intA (sqW b (Q.map (·.2)) l i).2] 51 true)::(j6,.cells [intA 0,intA 0] 51 true)::(jb,.cells (zE b s h e) 26 true)::(s,zk b)::(jr,.row (refsL Q) 27 1)::(j,.cells (l.map intA) et false)::jA P) Q.length ⟨0,rfl,mN _,rfl,rfl,rfl⟩ fun n env K hI hnext=>?_;obtain ⟨i,rfl,hi,hwl,rfl,rfl⟩:=hI;refine bG nQ ?_;refine au 93728011422 ?_;constructor<;>intro hc0
 ·have hil:i<Q.length:=by simp at hc0; omega
  have hmem:=jN hil;have hg:(Q.map (·.2))[i]? =some (sN Q i).2:=by rw [lQ,jU hil]; rfl
  have hst:StOk b (sN Q i).2:=hall _ (lY.2 ⟨_,hmem,rfl⟩);refine au 21302120 ?_;refine bL [0,1,2,3,4,5,6,7,8,11,9,12,10,13] ?_;refine ad [[12,3],[1,1],[1,2],[1,9]] ?_;refine bT [22,23] Z (hq:=kB Z Z Z zF.h (mC _) oQ oQ) (h:=?_);refine bT [24] Z (hq:=zm Z Z zi.h (mC _) (xx hil Z)) (h:=?_);refine bQ (pend':=[⟨4,[22,23],[(_,_)]⟩,⟨3,[9],[]⟩,⟨2,[2],[]⟩]) [20,21,25] Z Z Z Z Z (qJ hT hb hl hst (hQP _ hmem)) (fun r1 K2 h3=>⟨?_,?_⟩)
  ·rcases h3 with ⟨hno,rfl,rfl⟩ | ⟨w,q,jw,hso,rfl,rfl⟩;all_goals simp
  rcases h3 with ⟨hno,rfl,rfl⟩ | ⟨w,q,jw,hso,rfl,rfl⟩
  ·try simp only [cA]
   refine bS tQ ?_;refine TD.perm (lH (l₁:=(s,_)::(j,_)::jA P)) ?_;simp only [cA];refine ad [[1,26],[5,19],[5,19],[5,19]] ?_;refine TD.as (pend':=[⟨10,[19],[]⟩,⟨9,[19],[]⟩]) [27] Z Z (zD Z Z) ?_;refine TD.as (pend':=[⟨10,[19],[]⟩]) [28] Z Z (zD Z Z) ?_;refine ad [[13,29],[14]] ?_;refine au 933001422 ?_;constructor<;>intro hc1
   ·
    refine au 3517039042 ?_;refine bB hret (((s,_)::(jr,_)::(j,_)::jA P)) ?_;exact ⟨by rw [(qv hg hno).1,(qv hg hno).2.1,(qv hg hno).2.2] <;> rfl,rfl⟩
   exact absurd hc1 dQ
  ·try simp only [cA]
   refine bS tQ ?_;refine TD.perm (lH (l₁:=(jw,_)::(s,_)::(j,_)::jA P)) ?_;simp only [cA];refine ad [[1,26],[5,19],[5,19],[5,19]] ?_;refine TD.as (pend':=[⟨10,[19],[]⟩,⟨9,[19],[]⟩]) [27] Z Z (zD Z Z) ?_;refine TD.as (pend':=[⟨10,[19],[]⟩]) [28] Z Z (zD Z Z) ?_;refine ad [[13,29],[14]] ?_;refine au 933001422 ?_;constructor<;>intro hc1
   ·exact absurd hc1 dQ
   refine au 9371422120 ?_;constructor<;>intro hc2
   ·refine au 169067043170390114 ?_;refine bH Z (zc0 Z Z Z) ?_;refine au 1690670 ?_;refine bH Z (zcZ Z Z Z) ?_;refine au 35230141403170390 ?_;refine bA [1,2,3,6,8,9] ?_;refine bC (((jx,_)::(j6,_)::(jb,_)::(s,_)::(jr,_)::(j,_)::jA P)) ?_;obtain rfl:i=0:=by simpa using hc2
    exact hnext _ _ _ oQ ⟨0+1,rfl,oQ,by rw [jH hg hso,lF,hwl]; rfl,rfl,by rw [sqW_0 hg hso,Int.min_self,Int.max_self] <;> rfl⟩
   refine au 16906704120 ?_;refine bH Z (zc0 Z Z Z) ?_;refine au 1690670 ?_;refine bH Z (zcZ Z Z Z) ?_;refine au 35230141403170390 ?_;refine bA [1,2,3,6,8,9] ?_;refine bC (((jx,_)::(j6,_)::(jb,_)::(s,_)::(jr,_)::(j,_)::jA P)) ?_;exact hnext _ _ _ oQ ⟨i+1,rfl,oQ,by rw [jH hg hso,lF,hwl]; rfl,rfl,by rw [sqW_S hg hso hwl (by simpa using hc2)] <;> rfl⟩
 obtain rfl:i=Q.length:=by simp at hc0; omega
 rw [show Q.length=(Q.map (·.2)).length from (lJ ..).symm] at hwl;refine au 3517068042160 ?_;refine bB hret (((s,_)::(jr,_)::(j,_)::jA P)) ?_;exact ⟨by rw [(qu hwl).1,(qu hwl).2.1,(qu hwl).2.2,lJ] <;> rfl,rfl⟩
end Go.Vel
namespace Go.Vel
open Go Go.Conc
def SIn (out:List Int) (x:Int) (k:Nat) (nx:List Int) (put:Bool):Prop :=
 nx.Pairwise (· < ·)/\(∀ z,z∈nx↔(z∈out.take k/\z≠x)\/(put=true/\z=x))/\(put=true↔∃ w∈out.take k,x<=w)/\nx.length<=k+(if put=true then 1 else 0)
def SMid (out:List Int) (x:Int) (k:Nat) (nx:List Int) (put:Bool):Prop :=
 nx.Pairwise (· < ·)/\(∀ z,z∈nx↔(z∈out.take k/\z≠x)\/(put=true/\z=x))/\(put=true↔∃ w∈out.take (k+1),x<=w)/\nx.length<=k+(if put=true then 1 else 0)
theorem sin_0 (out:List Int) (x:Int):SIn out x 0 [] false:=⟨List.Pairwise.nil,fun z=>by simp,by simp,by simp⟩
section
variable {out nx:List Int} {x y:Int} {k:Nat} {put:Bool}
theorem jae (ho:out.Pairwise (· < ·)) (hy:out[k]? =some y) {z:Int} (h:z∈out.take k):z<y:=by
 obtain ⟨i,hi,rfl⟩:=List.mem_iff_getElem.1 h;rw [List.length_take] at hi;obtain ⟨hk,rfl⟩:=lD.1 hy;rw [List.getElem_take];exact List.pairwise_iff_getElem.1 ho i k oQ hk oQ
theorem xI {l:List Int} {z:Int} (h:l.Pairwise (· < ·)) (hz:∀ w∈l,w<z):(l++[z]).Pairwise (· < ·) :=
 List.pairwise_append.2 ⟨h,List.pairwise_singleton ..,fun a ha b hb=>by rw [lS.1 hb]; exact hz a ha⟩
theorem qS (hy:out[k]? =some y):(∃ w∈out.take (k+1),x<=w)↔(∃ w∈out.take k,x<=w)\/x<=y:=by
 rw [yQ hy];simp only [lT,lS];constructor
 ·rintro ⟨w,h | rfl,hw⟩
  ·exact .inl ⟨w,h,hw⟩
  ·exact .inr hw
 ·rintro (⟨w,h,hw⟩ | h)
  ·exact ⟨w,.inl h,hw⟩
  ·exact ⟨y,.inr rfl,h⟩
theorem jbk (ho:out.Pairwise (· < ·)) (hy:out[k]? =some y) (h:SIn out x k nx false) (hx:x<=y):SMid out x k (nx++[x]) true:=by
 obtain ⟨h1,h2,h3,h4⟩:=h;have hlt:∀ w∈nx,w<x:=fun w hw=>by
  rcases (h2 w).1 hw with ⟨g,_⟩ | ⟨g,_⟩
  ·have:¬ x<=w:=fun e=>by have:=h3.2 ⟨w,g,e⟩; cases this
   omega
  ·cases g
 refine ⟨xI h1 hlt,fun z=>?_,?_,by simpa using h4⟩
 ·rw [lT,lS,h2];simp
 ·rw [qS hy];simp [hx]
theorem qe (hy:out[k]? =some y) (h:SIn out x k nx put) (hp:put=true\/¬ x<=y):SMid out x k nx put:=by
 obtain ⟨h1,h2,h3,h4⟩:=h;refine ⟨h1,h2,?_,h4⟩;rw [qS hy,h3];constructor
 ·exact .inl
 ·rintro (g | g)
  ·exact g
  ·rcases hp with hp | hp
   ·exact h3.1 hp
   ·exact absurd g hp
theorem xH (ho:out.Pairwise (· < ·)) (hy:out[k]? =some y) (h:SMid out x k nx put) (hne:y≠x):SIn out x (k+1) (nx++[y]) put:=by
 obtain ⟨h1,h2,h3,h4⟩:=h;have hlt:∀ w∈nx,w<y:=fun w hw=>by
  rcases (h2 w).1 hw with ⟨g,_⟩ | ⟨g,rfl⟩
  ·exact jae ho hy g
  ·obtain ⟨v,hv,hwv⟩:=h3.1 g;rw [yQ hy,lT,lS] at hv;rcases hv with hv | rfl
   ·have:=jae ho hy hv; omega
   ·omega
 refine ⟨xI h1 hlt,fun z=>?_,h3,by rw [lF]; simp; omega⟩;rw [lT,lS,h2,yQ hy,lT,lS];constructor
 ·rintro ((⟨g1,g2⟩ | g) | rfl)
  ·exact .inl ⟨.inl g1,g2⟩
  ·exact .inr g
  ·exact .inl ⟨.inr rfl,hne⟩
 ·rintro (⟨g1 | g1,g2⟩ | g)
  ·exact .inl (.inl ⟨g1,g2⟩)
  ·exact .inr g1
  ·exact .inl (.inr g)
theorem qf (hy:out[k]? =some y) (h:SMid out x k nx put) (he:y=x):SIn out x (k+1) nx put:=by
 subst he;obtain ⟨h1,h2,h3,h4⟩:=h;refine ⟨h1,fun z=>?_,h3,oQ⟩;rw [h2,yQ hy,lT,lS];constructor
 ·rintro (⟨g1,g2⟩ | g)
  ·exact .inl ⟨.inl g1,g2⟩
  ·exact .inr g
 ·rintro (⟨g1 | g1,g2⟩ | g)
  ·exact .inl ⟨g1,g2⟩
  ·exact absurd g1 g2
  ·exact .inr g
def SOut (l:List Int) (i:Nat) (out:List Int):Prop:=out.Pairwise (· < ·)/\(∀ z,z∈out↔z∈l.take i)/\out.length<=i
theorem jbN (l:List Int):SOut l 0 []:=⟨List.Pairwise.nil,fun z=>by simp,mL _⟩
theorem jaY {l:List Int} {i:Nat} (hx:l[i]? =some x) (ho:SOut l i out) (h:SIn out x out.length nx true):SOut l (i+1) nx:=by
 obtain ⟨h1,h2,h3,h4⟩:=h;rw [lW] at h2;refine ⟨h1,fun z=>?_,by have:=ho.2.2; simp at h4; omega⟩;rw [h2,yQ hx,lT,lS,ho.2.1];constructor
 ·rintro (⟨g,_⟩ | ⟨_,g⟩)
  ·exact .inl g
  ·exact .inr g
 ·rintro (g | g)
  ·by_cases e:z=x
   ·exact .inr ⟨rfl,e⟩
   ·exact .inl ⟨g,e⟩
  ·exact .inr ⟨rfl,g⟩
theorem jaW {l:List Int} {i:Nat} (hx:l[i]? =some x) (ho:SOut l i out) (h:SIn out x out.length nx false):SOut l (i+1) (nx++[x]):=by
 obtain ⟨h1,h2,h3,h4⟩:=h;rw [lW] at h2 h3;have hlt:∀ w∈nx,w<x:=fun w hw=>by
  rcases (h2 w).1 hw with ⟨g,_⟩ | ⟨g,_⟩
  ·have:¬ x<=w:=fun e=>by have:=h3.2 ⟨w,g,e⟩; cases this
   omega
  ·cases g
 refine ⟨xI h1 hlt,fun z=>?_,by have:=ho.2.2; rw [lF]; simp at h4 ⊢; omega⟩;rw [lT,lS,h2,yQ hx,lT,lS,ho.2.1];constructor
 ·rintro ((⟨g,_⟩ | ⟨g,_⟩) | g)
  ·exact .inl g
  ·cases g
  ·exact .inr g
 ·rintro (g | g)
  ·refine .inl (.inl ⟨g,fun e=>?_⟩);have:=h3.2 ⟨z,(ho.2.1 z).2 g,oQ⟩;cases this
  ·exact .inr g
theorem jaX {l:List Int} (h:SOut l l.length out):out=setI l:=ja9 h.1 (jaQ l) fun z=>by rw [h.2.1,lW,jaR]
end
def knB (b:RBk) (a:Int):Int:=if bar2 (zr b) a=0 then (if (zf b).isEmpty=true then 9 else 0) else bar2 (zr b) a
theorem jK {b:RBk} {a:Int} (h:bar2 (zr b) a≠0):knB b a=bar2 (zr b) a:=if_neg h
theorem jS {b:RBk} {a:Int} (h:bar2 (zr b) a=0) (hn:zf b=[]):knB b a=9:=by unfold knB; rw [if_pos h,hn]; rfl
theorem xf {b:RBk} {a:Int} (h:bar2 (zr b) a=0) (hn:zf b≠[]):knB b a=0:=by
 unfold knB;rw [if_pos h];cases hh:zf b with
 | nil=>exact absurd hh hn
 | cons x r=>rfl
theorem jbi {b:RBk} {a:Int} (h:zr b≠0):knB b a=zr b:=by
 have e:bar2 (zr b) a=zr b:=if_pos h;rw [jK (by rw [e]; exact h),e]
theorem jbh {b:RBk} {a:Int} (h:zr b=0) (ha:a≠0):knB b a=a:=by
 have e:bar2 (zr b) a=a:=kG h;rw [jK (by rw [e]; exact ha),e]
theorem knB_0 {b:RBk} {a:Int} (h:knB b a=0):bar2 (zr b) a=0/\zf b≠[]:=by
 unfold knB at h;split at h
 ·rename_i h1;refine ⟨h1,fun e=>?_⟩;rw [e] at h; cases h
 ·rename_i h1; exact absurd h h1
def newF (b:RBk):Int×Int:=if knB b 0=0 then newM b else (0,0)
def canF (b:RBk) (l:List Int):Int:=if knB b (cutsM b l)=0 then canM b l else 0
def sqF (b:RBk) (l:List Int):Int×Int:=if knB b (cutsM b l)=0 then (sqLo b (zf b) l,sqHi b (zf b) l) else (0,0)
def sqB (b:RBk) (l:List Int):Int:=if knB b (cutsM b l)=0 then (if sqOk b (zf b) l=true then 0 else 8) else knB b (cutsM b l)
def shF (b:RBk) (n:Int):List Int:=if knB b (thereM b n)=0 then shrI b n else []
def isB (b:RBk) (l:List Int):Int:=bar2 (zr b) (shM b l)
def isF (b:RBk) (l:List Int):Bool:=decide (isB b l=0)&&decide (l∈zf b)
section
variable {b:RBk} {r:AV} {K' KK:KV}
theorem xv (x:Int):bar2 x 0=x:=by unfold bar2; split <;> simp_all
theorem new_f (h:(zr b≠0/\r=.tup [.agg [intA 0,intA 0],intA (zr b)]/\K'=KK)\/(zr b=0/\zf b=[]/\r=.tup [.agg [intA 0,intA 0],intA 9]/\K'=KK)\/(zr b=0/\zf b≠[]/\r=.tup [.agg [intA (newM b).1,intA (newM b).2],intA 0]/\K'=KK)):r=.tup [.agg [intA (newF b).1,intA (newF b).2],intA (knB b 0)]/\K'=KK:=by
 unfold newF;rcases h with ⟨h,h1,h2⟩ | ⟨h,hn,h1,h2⟩ | ⟨h,hn,h1,h2⟩
 ·have hk:knB b 0=zr b:=by rw [jK (by rw [xv]; exact h),xv]
  rw [hk,if_neg h]; exact ⟨h1,h2⟩
 ·rw [jS (by rw [xv]; exact h) hn,if_neg dQ]; exact ⟨h1,h2⟩
 ·rw [xf (by rw [xv]; exact h) hn,if_pos rfl]; exact ⟨h1,h2⟩
theorem can_f {l:List Int} (h:(bar2 (zr b) (cutsM b l)≠0/\r=.tup [intA 0,intA (bar2 (zr b) (cutsM b l))]/\K'=KK)\/(bar2 (zr b) (cutsM b l)=0/\zf b=[]/\r=.tup [intA 0,intA 9]/\K'=KK)\/(bar2 (zr b) (cutsM b l)=0/\zf b≠[]/\r=.tup [intA (canM b l),intA 0]/\K'=KK)):r=.tup [intA (canF b l),intA (knB b (cutsM b l))]/\K'=KK:=by
 unfold canF;rcases h with ⟨h,h1,h2⟩ | ⟨h,hn,h1,h2⟩ | ⟨h,hn,h1,h2⟩
 ·rw [jK h,if_neg h]; exact ⟨h1,h2⟩
 ·rw [jS h hn,if_neg dQ]; exact ⟨h1,h2⟩
 ·rw [xf h hn,if_pos rfl]; exact ⟨h1,h2⟩
theorem sq_f {l:List Int} (h:(bar2 (zr b) (cutsM b l)≠0/\r=.tup [.agg [intA 0,intA 0],intA (bar2 (zr b) (cutsM b l))]/\K'=KK)\/(bar2 (zr b) (cutsM b l)=0/\zf b=[]/\r=.tup [.agg [intA 0,intA 0],intA 9]/\K'=KK)\/(bar2 (zr b) (cutsM b l)=0/\zf b≠[]/\r=.tup [.agg [intA (sqLo b (zf b) l),intA (sqHi b (zf b) l)],intA (if sqOk b (zf b) l=true then 0 else 8)]/\K'=KK)):r=.tup [.agg [intA (sqF b l).1,intA (sqF b l).2],intA (sqB b l)]/\K'=KK:=by
 unfold sqF sqB;rcases h with ⟨h,h1,h2⟩ | ⟨h,hn,h1,h2⟩ | ⟨h,hn,h1,h2⟩
 ·rw [jK h,if_neg h,if_neg h]; exact ⟨h1,h2⟩
 ·rw [jS h hn,if_neg dQ,if_neg dQ]; exact ⟨h1,h2⟩
 ·rw [xf h hn,if_pos rfl,if_pos rfl]; exact ⟨h1,h2⟩
theorem is_f {l:List Int} (h:(bar2 (zr b) (shM b l)≠0/\r=.tup [zP false,intA (bar2 (zr b) (shM b l))]/\K'=KK)\/(bar2 (zr b) (shM b l)=0/\r=.tup [zP (decide (l∈zf b)),intA 0]/\K'=KK)):r=.tup [zP (isF b l),intA (isB b l)]/\K'=KK:=by
 unfold isF isB;rcases h with ⟨h,h1,h2⟩ | ⟨h,h1,h2⟩
 ·rw [decide_eq_false h]; exact ⟨h1,h2⟩
 ·rw [h,decide_eq_true rfl]; exact ⟨h1,h2⟩
theorem sh_f {n:Int} {B:Prop} (h:(bar2 (zr b) (thereM b n)≠0/\r=.tup [.v (.slice none 0 0),intA (bar2 (zr b) (thereM b n))]/\K'=KK)\/(bar2 (zr b) (thereM b n)=0/\zf b=[]/\r=.tup [.v (.slice none 0 0),intA 9]/\K'=KK)\/(bar2 (zr b) (thereM b n)=0/\zf b≠[]/\B)):(knB b (thereM b n)≠0/\r=.tup [.v (.slice none 0 0),intA (knB b (thereM b n))]/\K'=KK)\/(knB b (thereM b n)=0/\B):=by
 rcases h with ⟨h,h1,h2⟩ | ⟨h,hn,h1,h2⟩ | ⟨h,hn,h1⟩
 ·exact .inl (by rw [jK h]; exact ⟨h,h1,h2⟩)
 ·exact .inl (by rw [jS h hn]; exact ⟨by decide,h1,h2⟩)
 ·exact .inr ⟨xf h hn,h1⟩
end
theorem xF {b:RBk} (hb:ROk b) {s:List Int}:s∈zf b↔InB b s/\rightM b s=true :=
 ⟨fun h=>zcp hb _ [] (zdS b) rfl s h,fun h=>jao h.1 h.2⟩
def sureM (x y:Int):Int:=if x=y then 1 else if x=0 then 2 else 0
theorem jap {b:RBk} {l:List Int} (hk:zr b=0) (h:shM b l=0) (hin:InB b l):isF b l=rightM b l/\isB b l=0:=by
 have e:isB b l=0:=(kG hk).trans h;refine ⟨?_,e⟩;unfold isF;rw [e,decide_eq_true rfl,Bool.true_and];cases hr:rightM b l with
 | true=>exact decide_eq_true ((xF (zZ hk)).2 ⟨hin,hr⟩)
 | false=>exact decide_eq_false fun hm=>by have:=((xF (zZ hk)).1 hm).2; rw [hr] at this; cases this
theorem qL {b:RBk} {l:List Int} (hk:zr b=0) (h:shM b l=0) (hin:¬ InB b l):isF b l=false/\isB b l=0:=by
 have e:isB b l=0:=(kG hk).trans h;refine ⟨?_,e⟩;unfold isF;rw [decide_eq_false (fun hm=>hin ((xF (zZ hk)).1 hm).1),Bool.and_false]
theorem qK {b:RBk} {l:List Int} (h:isB b l≠0):isF b l=false:=by unfold isF; rw [decide_eq_false h]; rfl
theorem jaG {b:RBk} (h:knB b 0≠0):newF b=(0,0):=if_neg h
theorem jbm {b:RBk} (h:knB b 0=0):newF b=newM b:=if_pos h
theorem jaB {b:RBk} {l:List Int} (h:knB b (cutsM b l)≠0):canF b l=0:=if_neg h
theorem jba {b:RBk} {l:List Int} (h:knB b (cutsM b l)=0):canF b l=sureM ((waysM b (zf b) l).length:Nat) ((zf b).length:Nat):=by
 unfold canF canM sureM;rw [if_pos h];simp only [Int.natCast_inj,Int.natCast_eq_zero]
theorem qR {b:RBk} {l:List Int} (h:knB b (cutsM b l)≠0):sqF b l=(0,0)/\sqB b l=knB b (cutsM b l):=⟨if_neg h,if_neg h⟩
theorem xy {b:RBk} {l:List Int} (h:knB b (cutsM b l)=0):sqF b l=(sqLo b (zf b) l,sqHi b (zf b) l)/\sqB b l=if sqOk b (zf b) l=true then 0 else 8:=⟨if_pos h,if_pos h⟩
theorem xL {b:RBk} {n:Int} (h:knB b (thereM b n)≠0):shF b n=[]:=if_neg h
theorem qo {b:RBk} {n:Int} (h:knB b (thereM b n)=0):shF b n=shrI b n:=if_pos h
theorem qm:setI []=[]:=lK (Nat.le_zero.1 (ql []))
def colM (all:List (List Int)) (n:Int) (i:Nat):List Int:=(all.take i).map fun s=>zN s n.toNat
theorem jag {all:List (List Int)} {n:Int} {i:Nat} {st:List Int} (hi:all[i]? =some st):colM all n (i+1)=colM all n i++[zN st n.toNat]:=by unfold colM; rw [yQ hi,lM]; rfl
theorem jaE {all:List (List Int)} {n:Int} {i:Nat} (h:i<=all.length):(colM all n i).length=i:=by unfold colM; rw [lJ,List.length_take]; omega
theorem jaD (b:RBk) (n:Int):setI (colM (zf b) n (zf b).length)=shrI b n:=by unfold colM shrI; rw [lW]
def newW (b:RBk) (all:List (List Int)) (i:Nat):Int×Int:=spreadM ((all.take i).map (freshM b))
theorem jbF {b:RBk} {all:List (List Int)} {st:List Int} (hi:all[0]? =some st):newW b all 1=(freshM b st,freshM b st):=by
 unfold newW;rw [yQ hi];rfl
theorem jbG {b:RBk} {all:List (List Int)} {st:List Int} {i:Nat} (hi:all[i]? =some st) (h0:i≠0):newW b all (i+1)=(min (newW b all i).1 (freshM b st),max (newW b all i).2 (freshM b st)):=by
 unfold newW;rw [yQ hi,lM];refine xV (fun h=>?_) _;have h1:=congrArg List.length h;have hk:=(lD.1 hi).1;rw [lJ,List.length_take,List.length_nil] at h1;omega
theorem jaI (b:RBk) (all:List (List Int)):newW b all all.length=spreadM (all.map (freshM b)):=by unfold newW; rw [lW]
def wayN (b:RBk) (all:List (List Int)) (l:List Int) (i:Nat):Nat:=(waysM b (all.take i) l).length
theorem jbR {b:RBk} {all:List (List Int)} {l st w:List Int} {q:Int} {i:Nat} (hi:all[i]? =some st) (hh:hangM b l st=some (w,q)):wayN b all l (i+1)=wayN b all l i+1:=by
 unfold wayN;rw [jH hi hh,lF];rfl
theorem jbQ {b:RBk} {all:List (List Int)} {l st:List Int} {i:Nat} (hi:all[i]? =some st) (hh:hangM b l st=none):wayN b all l (i+1)=wayN b all l i:=by
 unfold wayN waysM;rw [yQ hi,List.filterMap_append,List.filterMap_cons_none hh,List.filterMap_nil,lR]
theorem jbC (b:RBk) (all:List (List Int)) (l:List Int) (i:Nat):wayN b all l i<=all.length:=by
 unfold wayN;have h1:=zd2 b (all.take i) l;have h2:=List.length_take_le' i all;omega
theorem ja0 (b:RBk) (all:List (List Int)) (l:List Int):wayN b all l all.length=(waysM b all l).length:=by unfold wayN; rw [lW]
end Go.Vel
namespace Go.Vel
open Go Go.Conc Go.Proofs
theorem jbL {gm:Nat->Option Nat} {V:KV} {env:List AV} {o:Oper} {x y:Operand} {s l:List Int} (ho:o.op=.binOp .eql 129 x y 129) (hx:zn gm env x=some (.agg (stC s))) (hy:zn gm env y=some (.agg (stC l))):Qk tp gm env V o (zP (eqSt s l)):=fun A _ =>
 vr ho (by rw [zx hx]; rfl) (by rw [zx hy]; rfl) (zaU (.inl rfl) (by kernel_rfl) (zL (eq_st s l) rfl))
instance:Cal tp 73:={}
instance:zi tp 31 false 1:={}
instance:TyZA tp 31 [.v (.int .i64 0)]:={}
theorem qD {main:Bool} {T:Goroutine->Hp->Prop} (hT:zo tp main T)  {b:RBk} {s h e j:Nat} {l:List Int} {et:TypeId} (hl:b.seams.length<=100) (hm:b.measures.length<=100) (hll:l.length<=1000) :
  zA tp T gmR 79 [.agg (zE b s h e),.sl j 0 l.length] [(0,zy),(s,zk b),(h,zB b),(e,zq b),(j,.cells (l.map intA) et false)] (fun r K'=>(bar2 (zr b) (shM b l)≠0/\r=.tup [zP false,intA (bar2 (zr b) (shM b l))]/\K'=[(0,zy),(s,zk b),(h,zB b),(e,zq b),(j,.cells (l.map intA) et false)])\/(bar2 (zr b) (shM b l)=0/\r=.tup [zP (decide (l∈zf b)),intA 0]/\K'=[(0,zy),(s,zk b),(h,zB b),(e,zq b),(j,.cells (l.map intA) et false)])):=by
 refine vx 29 hT Tryz.func79 fun Y hro hret=>?_;refine au 21042 ?_;intro jb hjb;refine au 220 ?_;intro jr hjr;refine au 220 ?_;intro jq hjq;refine au 3201680423 ?_;refine bI Z Z Z (zt (l:=[_]) Z zF.h TyZ.h dQ dQ Z) (fun _=>zu rfl tQ) fun ja hja=>?_;refine bD Z Z Z Z (w8 hT (Kx:=[(j,.cells (l.map intA) et false)]) (p1:=shM b l) hl hm (fun h0=>yx Cal.h (zdb hT (zZ h0).rnd (zZ h0).sms))) ?_;rintro r1 K2 h3;rcases h3 with ⟨⟨hbar,rfl⟩ | ⟨hbar,rfl⟩,rfl⟩
 ·refine au 220661 ?_;intro j6 hj6;refine au 937142235170 ?_;constructor<;>intro hc0
  ·exact absurd hc0 sQ
  have hbb:=zZ (kF hbar);have hss:=zfr (kc hbar);have h5:=hbb.sms.len;have hsl:=hss.len;refine au 142120 ?_;refine bD Z Z Z Z (un hT oQ oQ) ?_;rintro r4 K5 ⟨rfl,rfl⟩;refine au 220 ?_;intro jw hjw;refine au 13033206804223170 ?_;refine TK.rangeStates hT hbb (s:=s) (h:=h) (e:=e) (J:=fun pre K1=>K1=[(jw,.cells (stC l) 129 true),(jr,.cells [zP false] 4 true),(jq,.cells [intA 0] 31 true)]/\l∉pre) (D:=fun c K1=>c=.ret/\l∈zf b/\K1=[(jw,.cells (stC l) 129 true),(jr,.cells [zP true] 4 true),(jq,.cells [intA 0] 31 true)]) rfl hro rfl (by repeat (first | exact Split.none _ | exact Split.all _ | (apply Split.rem; repeat (first | exact Rem.head | apply Rem.tail)) | apply Split.right)) ⟨rfl,by simp⟩ (fun Y' l0 lo lb pre S K1 hbegin hfin hout hpre hJ=>?_) (fun d K2 hJ=>?_) (fun d c K2 hD=>?_)
  ·obtain ⟨rfl,hnp⟩:=hJ;have hS:=hpre.subset (List.mem_append_right pre (lS.2 rfl));have hSo:=(y8 hbb hS).1.len;refine au 2204 ?_;intro j9 hj9;refine au 3170 ?_;refine hbegin _ _ _ _ _ uQ ?_;refine au 68068042130 ?_;refine bH Z (jbL Z Z Z) ?_;refine au 93 ?_;constructor<;>intro hc1
   ·have heq:S=l:=zgz oQ oQ hc1;refine au 317017042 ?_;exact hout _ _ _ _ [(jw,_),(jr,_),(jq,_)] _ (.ret _) (by repeat (first | exact Split.none _ | exact Split.all _ | (apply Split.rem; repeat (first | exact Rem.head | apply Rem.tail)) | apply Split.right)) ⟨rfl,heq ▸ hS,rfl⟩
   have hne:S≠l:=fun e=>by subst e; simp [eqSt] at hc1
   refine au 140120 ?_;exact hfin _ _ [(jw,_),(jr,_),(jq,_)] _ (by repeat (first | exact Split.none _ | exact Split.all _ | (apply Split.rem; repeat (first | exact Rem.head | apply Rem.tail)) | apply Split.right)) ⟨rfl,fun h=>(lT.1 h).elim hnp fun h=>hne (lS.1 h).symm⟩
  ·obtain ⟨rfl,hnp⟩:=hJ;simp only [cA];refine au 317017042140 ?_;refine TK.leave (.ret _) fun A hA=>hret _ _ _ _ ([(0,_),(s,_),(h,_),(e,_),(j,_),(jr,_),(jq,_)]) ([(0,_),(s,_),(h,_),(e,_),(j,_)]) _ _ _ (.inr rfl) (by repeat (first | exact Split.none _ | exact Split.all _ | (apply Split.rem; repeat (first | exact Rem.head | apply Rem.tail)) | apply Split.right)) sQ sQ (by repeat (first | exact Split.none _ | exact Split.all _ | (apply Split.rem; repeat (first | exact Rem.head | apply Rem.tail)) | apply Split.right)) (wK (.cons (yN Z zi.h mQ rfl) (.cons (yN Z zi.h mQ rfl) ResKs.nil)) rfl) ?_ A hA;exact .inr ⟨hbar,by rw [decide_eq_false hnp],rfl⟩
  ·obtain ⟨rfl,hD,rfl⟩:=hD;simp only [cA];refine au 0 ?_;refine TK.leave (.ret _) fun A hA=>hret _ _ _ _ ([(0,_),(s,_),(h,_),(e,_),(j,_),(jr,_),(jq,_)]) ([(0,_),(s,_),(h,_),(e,_),(j,_)]) _ _ _ (.inr rfl) (by repeat (first | exact Split.none _ | exact Split.all _ | (apply Split.rem; repeat (first | exact Rem.head | apply Rem.tail)) | apply Split.right)) sQ sQ (by repeat (first | exact Split.none _ | exact Split.all _ | (apply Split.rem; repeat (first | exact Rem.head | apply Rem.tail)) | apply Split.right)) (wK (.cons (yN Z zi.h mQ rfl) (.cons (yN Z zi.h mQ rfl) ResKs.nil)) rfl) ?_ A hA;exact .inr ⟨hbar,by rw [decide_eq_true hD],rfl⟩
 ·refine au 220661 ?_;intro j6 hj6;refine au 937142235170 ?_;constructor<;>intro hc0
  ·
   refine au 3170170142 ?_;refine TK.leave (.ret _) fun A hA=>hret _ _ _ _ ([(0,_),(s,_),(h,_),(e,_),(j,_),(jr,_),(jq,_)]) ([(0,_),(s,_),(h,_),(e,_),(j,_)]) _ _ _ (.inr rfl) (by repeat (first | exact Split.none _ | exact Split.all _ | (apply Split.rem; repeat (first | exact Rem.head | apply Rem.tail)) | apply Split.right)) sQ sQ (by repeat (first | exact Split.none _ | exact Split.all _ | (apply Split.rem; repeat (first | exact Rem.head | apply Rem.tail)) | apply Split.right)) (wK (.cons (yN Z zi.h mQ rfl) (.cons (yN Z zi.h mQ rfl) ResKs.nil)) rfl) ?_ A hA;exact .inl ⟨hbar,rfl,rfl⟩
  exact absurd hbar (by simpa using hc0)
def BestAt (ok:List Int->Bool) (bt:List Int->List Int->Bool) (f:Nat->List Int) (i:Nat):Option Nat->Prop
 | none=>∀ k,k<i->f k=[]\/ok (f k)=false
 | some k=>k<i/\f k≠[]/\ok (f k)=true/\∀ t,t<i->f t≠[]->ok (f t)=true->f t=f k\/bt (f k) (f t)=true
section
variable {ok:List Int->Bool} {bt:List Int->List Int->Bool} {f:Nat->List Int} {i k:Nat}
end
def bvO (S:List (Nat×List Int)):Option Nat->AV
 | none=>.v (.slice none 0 0)
 | some k=>.sl (sN S k).1 0 (sN S k).2.length
def bqO (b:RBk) (all:List (List Int)) (S:List (Nat×List Int)):Option Nat->Int
 | none=>0
 | some k=>sqHi b all (sN S k).2
def chM (b:RBk) (all:List (List Int)) (x y:List Int):Bool:=cheaperM (x,sqHi b all x) (y,sqHi b all y)
instance:Cal tp 111:={}
instance:Cal tp 112:={}
instance:Cal tp 110:={}
instance:Cal tp 114:={}
instance:Cal tp 57:={}
instance:Cal tp 66:={}
def AgrE (b:RBk) (s h e:Nat) (K:KV) (r:AV) (K':KV):Prop:=(zr b≠0/\r=.tup [.agg z7R,intA (zr b)]/\K'=K)\/(zr b=0/\zf b=[]/\r=.tup [.agg z7R,intA 9]/\K'=K)\/(zr b=0/\zf b≠[]/\r=.tup [.agg (zE b s h e),intA 0]/\K'=K)
instance:Cal tp 122:={}
instance:Cal tp 126:={}
instance:Cal tp 61:={}
theorem jaA {main T} (hT:zo tp main T) {gm} {b:RBk} {s h e:Nat} {n:Int} (hl:b.seams.length<=100) :
  zA tp T gm 126 [.agg (zE b s h e),intA n] [] (fun r K'=>r=intA (thereM b n)/\K'=[]):=by
 refine zp 12 hT Tryz.func126 fun Y hret=>?_;refine au 21042 ?_;intro jb hjb;refine au 240280690670142235 ?_;refine bD Z Z Z Z (yA hT) ?_;rintro r1 K2 ⟨rfl,rfl⟩;refine au 93300 ?_;constructor<;>intro hc0
 ·refine au 3542 ?_;refine bB hret [] ?_;exact ⟨by rw [qT (by simpa using hc0)],rfl⟩
 refine au 3542120 ?_;refine bB hret [] ?_;exact ⟨by rw [qU (by simpa using hc0)],rfl⟩
theorem jQ {main T} (hT:zo tp main T) {gm} {b:RBk} {s h e:Nat} {a:Int} (hl:b.seams.length<=100) (hm:b.measures.length<=100) :
  zA tp T gm 110 [.agg (zE b s h e),intA a] [(s,zk b),(h,zB b),(e,zq b)] (fun r K'=>(knB b (a)≠0/\r=.tup [.v (.slice none 0 0),intA (knB b (a))]/\K'=[(s,zk b),(h,zB b),(e,zq b)])\/(knB b (a)=0/\∃ (jr:Nat) (Q P:List (Nat×List Int)),(∀ x∈Q,x∈P)/\Q.map (·.2)=zf b/\r=.tup [.row jr Q.length,intA 0]/\K'=(jr,.row (refsL Q) 27 1)::(s,zk b)::(h,zB b)::(e,zq b)::jA P)):=by
 refine zp 22 hT Tryz.func110 fun Y hret=>?_;refine au 21042 ?_;intro jb hjb;refine au 680422355 ?_;refine bD Z Z Z Z (zeI hT hl hm) ?_;rintro r1 K2 ⟨rfl,rfl⟩;refine au 93714235 ?_;constructor<;>intro hc0
 ·have hck:zr b≠0:=by simpa using hc0
  refine au 355142 ?_;refine bB hret [(s,_),(h,_),(e,_)] ?_;exact .inl (by rw [jbi hck]; exact ⟨hck,rfl,rfl⟩)
 have hck:zr b=0:=by simpa using hc0
 have hbb:=zZ hck;rw [hck];refine au 9371422120 ?_;constructor<;>intro hc1
 ·have ha:a≠0:=by simpa using hc1
  refine au 355142 ?_;refine bB hret [(s,_),(h,_),(e,_)] ?_;exact .inl (by rw [jbh hck ha]; exact ⟨ha,rfl,rfl⟩)
 obtain rfl:a=0:=by simpa using hc1
 refine au 68042120 ?_;refine bD Z Z Z Z (xz hT hbb) ?_;rintro r4 K5 ⟨jr,Q,P,hQP,hQ,rfl,rfl⟩;refine au 0 ?_;refine bN (lH (l₁:=(jr,_)::(s,_)::(h,_)::(e,_)::jA P)) ?_;simp only [cA];refine au 937280142235 ?_;constructor<;>intro hc2
 ·refine au 35542 ?_;refine bB hret [(s,_),(h,_),(e,_)] ?_;exact .inl (by rw [jS (by rw [kG hck]) (by rw [<- hQ,show Q=[] from lK (by have:=eq_of_beq hc2; omega)]; rfl)]; exact ⟨by decide,rfl,rfl⟩)
 refine au 355142120 ?_;refine bB hret (((jr,_)::(s,_)::(h,_)::(e,_)::jA P)) ?_;exact .inr ⟨xf (by rw [kG hck]) (fun hh=>by rw [hh,List.map_eq_nil_iff] at hQ; rw [hQ] at hc2; simp at hc2),jr,Q,P,hQP,hQ,rfl,rfl⟩
theorem qk {main T} (hT:zo tp main T) {gm} {b:RBk} {s h e:Nat} (hl:b.seams.length<=100) (hm:b.measures.length<=100) :
  zA tp T gm 81 [.agg (zE b s h e)] [(s,zk b),(h,zB b),(e,zq b)] (fun r K'=>r=.tup [intA (if zr b=0 then (zf b).length else 0),intA (zr b)]/\K'=[(s,zk b),(h,zB b),(e,zq b)]):=by
 refine zp 13 hT Tryz.func81 fun Y hret=>?_;refine au 21042 ?_;intro jb hjb;refine au 680422355 ?_;refine bD Z Z Z Z (zeI hT hl hm) ?_;rintro r1 K2 ⟨rfl,rfl⟩;refine au 93714235 ?_;constructor<;>intro hc0
 ·refine au 355142 ?_;refine bB hret [(s,_),(h,_),(e,_)] ?_;exact ⟨by rw [if_neg (by simpa using hc0)] <;> rfl,rfl⟩
 have hck:zr b=0:=by simpa using hc0
 have hbb:=zZ hck;have hsl:=kg hbb;refine au 68042120 ?_;refine bD Z Z Z Z (xz hT hbb) ?_;rintro r4 K5 ⟨jr,Q,P,hQP,hQ,rfl,rfl⟩;refine au 0 ?_;rw [show Q.length=(zf b).length by rw [<- hQ,lJ]];refine au 355280 ?_;refine bB hret [(s,_),(h,_),(e,_)] ?_;exact ⟨by rw [if_pos hck,hck] <;> rfl,rfl⟩
theorem jaN {main T} (hT:zo tp main T) {gm} {b:RBk} {s h e j:Nat} {l:List Int} {et:TypeId} (hl:b.seams.length<=100) (hm:b.measures.length<=100) (hll:l.length<=1000) :
  zA tp T gm 80 [.agg (zE b s h e),.sl j 0 l.length] [(s,zk b),(h,zB b),(e,zq b),(j,.cells (l.map intA) et false)] (fun r K'=>r=.tup [zP (isF b l),intA (isB b l)]/\K'=[(s,zk b),(h,zB b),(e,zq b),(j,.cells (l.map intA) et false)]):=by
 refine zp 47 hT Tryz.func80 fun Y hret=>?_;refine au 21042 ?_;intro jb hjb;refine au 680422355 ?_;refine bD Z Z Z Z (zeI hT hl hm) ?_;rintro r1 K2 ⟨rfl,rfl⟩;refine au 93714235 ?_;constructor<;>intro hc0
 ·have hck:zr b≠0:=by simpa using hc0
  have hib:isB b l=zr b:=if_pos hck;refine au 355142 ?_;refine bB hret [(s,_),(h,_),(e,_),(j,_)] ?_;exact ⟨by rw [qK (by rw [hib]; exact hck),hib],rfl⟩
 have hck:zr b=0:=by simpa using hc0
 have hbb:=zZ hck;have hsl:=hbb.sms.len;have hcl:=hbb.cls.len;refine au 1680422120 ?_;refine bD Z Z Z Z (xY hT hbb.rnd hbb.sms hll) ?_;rintro r4 K5 ⟨rfl,rfl⟩;refine au 93714235 ?_;constructor<;>intro hc1
 ·have hsh:shM b l≠0:=by simpa using hc1
  have hib:isB b l=shM b l:=kG hck;refine au 355142 ?_;refine bB hret [(s,_),(h,_),(e,_),(j,_)] ?_;exact ⟨by rw [qK (by rw [hib]; exact hsh),hib],rfl⟩
 have hsh:shM b l=0:=by simpa using hc1
 have hss:=zfr hsh;have hln:=hss.len;refine au 13035422120 ?_;refine bA [1,2,8] ?_;refine bC [(s,_),(h,_),(e,_),(j,_),(jb,_)] ?_;refine bE (fun n env K=>∃ (i:Nat),n=l.length - i/\i<=l.length/\(∀ k,k<i->(bd b k).low<=l.getD k 0/\l.getD k 0<=(bd b k).high)/\env=.any::.sl j 0 l.length::.ptr jb 0::naL 5 (intA i::naL 38 [])/\K=[(s,zk b),(h,zB b),(e,zq b),(j,.cells (l.map intA) et false),(jb,.cells (zE b s h e) 26 true)]) l.length ⟨0,rfl,mN _,(fun k hk=>by omega),rfl,rfl⟩ fun n env K hI hnext=>?_;obtain ⟨i,rfl,hi,hin,rfl,rfl⟩:=hI;refine bG nQ ?_;refine au 93728011422 ?_;constructor<;>intro hc2
 ·have hil:i<l.length:=by simp at hc2; omega
  refine au 21302120 ?_;refine bL [0,1,2,3,4,5,6,7,8,9,10,11,12,13,14,15,16,17] ?_;refine ad [[1,1],[1,8],[2,26,27]] ?_;refine bT [28] Z (hq:=zm Z Z zi.h (mC _) (yi (i:=i) (z6 hil) Z)) (h:=?_);refine ad [[3,2],[10,30],[1,8],[2,31,32],[3,33]] ?_;refine bT [34] Z (hq:=zm Z Z zi.h (mC _) (yn (c:=0) (bd_at b (i:=i) oQ Z) dQ Z)) (h:=?_);refine ad [[3,2],[10,36],[1,8],[2,37,38],[3,39]] ?_;refine bT [40] Z (hq:=zm Z Z zi.h (mC _) (yn (c:=1) (bd_at b (i:=i) oQ Z) dQ Z)) (h:=?_);refine bQ (pend':=[⟨14,[39],[]⟩,⟨13,[37,38],[]⟩,⟨12,[8],[]⟩,⟨11,[36],[(_,_)]⟩,⟨10,[2],[]⟩,⟨8,[33],[]⟩,⟨7,[31,32],[]⟩,⟨6,[8],[]⟩,⟨5,[30],[(_,_)]⟩,⟨4,[2],[]⟩,⟨2,[26,27],[]⟩,⟨1,[8],[]⟩,⟨0,[1],[]⟩]) [29,35,41] Z Z Z Z Z (yA hT) (fun r7 K8 h9=>⟨?_,?_⟩)
  ·rcases h9 with ⟨rfl,rfl⟩
   all_goals simp
  obtain ⟨rfl,rfl⟩:=h9;try simp only [cA]
  refine bS tQ ?_;refine bU [42] Z (q_not Z Z) ?_;refine ad [[14]] ?_;refine au 9 ?_;constructor<;>intro hc3
  ·have hni:¬ InB b l:=fun hz=>by
    have h1:=hz.2 i oQ;have hbf:betw (zN l i) (bd b i).low (bd b i).high=false:=by simpa using hc3
    have h2:betw (zN l i) (bd b i).low (bd b i).high=true:=by simp only [betw,mX,decide_eq_true_eq]; exact h1
    rw [h2] at hbf; cases hbf
   refine au 35542 ?_;refine bB hret [(s,_),(h,_),(e,_),(j,_)] ?_;exact ⟨by rw [(qL hck hsh hni).1,(qL hck hsh hni).2] <;> rfl,rfl⟩
  have hb2:=vN (show betw (zN l i) (bd b i).low (bd b i).high=true by simpa using hc3);have hin1:∀ k,k<i+1->(bd b k).low<=l.getD k 0/\l.getD k 0<=(bd b k).high:=fun k hk=>by
   by_cases e:k=i
   ·subst e; exact hb2
   ·exact hin k oQ
  refine au 3523014140120 ?_;refine bA [1,2,8] ?_;refine bC [(s,_),(h,_),(e,_),(j,_),(jb,_)] ?_;exact hnext _ _ _ oQ ⟨i+1,rfl,oQ,hin1,rfl,rfl⟩
 obtain rfl:i=l.length:=by simp at hc2; omega
 have hin2:InB b l:=⟨by omega,fun k hk=>hin k oQ⟩;refine au 168042160 ?_;refine bD Z Z Z Z (xT hT hbb hss) ?_;rintro r10 K11 ⟨rfl,rfl⟩;refine au 355 ?_;refine bB hret [(s,_),(h,_),(e,_),(j,_)] ?_;exact ⟨by rw [(jap hck hsh hin2).1,(jap hck hsh hin2).2] <;> rfl,rfl⟩
theorem xU {main T} (hT:zo tp main T) {gm} {j:Nat} {l:List Int} {et:TypeId} (hll:l.length<=1000) :
  zA tp T gm 137 [.sl j 0 l.length] [(j,.cells (l.map intA) et false)] (fun r K'=>∃ jr,r=.sl jr 0 (setI l).length/\K'=[(jr,.cells ((setI l).map intA) 3 false),(j,.cells (l.map intA) et false)]):=by
 refine zp 67 hT Tryz.func137 fun Y hret=>?_;refine au 5423542 ?_;refine TK.virt 3 3 1 Z fun jo0 hjo0=>?_;refine au 130354223 ?_;refine bA [0,3,4] ?_;refine bC [(j,_),(jo0,_)] ?_;refine bE (fun n0 env K=>∃ (i jo:Nat) (out:List Int),n0=l.length - i/\i<=l.length/\SOut l i out/\env=.sl j 0 l.length::naL 2 (.row jo out.length::intA i::naL 62 [])/\K=[(j,.cells (l.map intA) et false),(jo,.row (out.map intA) 3 1)]) l.length ⟨0,jo0,[],rfl,mN _,jbN l,rfl,rfl⟩ fun n0 env K hI hnext=>?_;obtain ⟨i,jo,out,rfl,hi,hso,rfl,rfl⟩:=hI;have hsl:=hso.2.2;refine bG nQ ?_;refine au 93728011422 ?_;constructor<;>intro hc0
 ·have hil:i<l.length:=by simp at hc0; omega
  have hx:=z6 hil;refine au 5421302120 ?_;refine TK.virt 5 3 1 Z fun jn0 hjn0=>?_;refine au 1303542235423 ?_;refine bA [0,3,4,5,6,7] ?_;refine bC [(j,_),(jo,_),(jn0,_)] ?_;refine bE (fun n0 env K=>∃ (k jn:Nat) (nx:List Int) (put:Bool),n0=out.length - k/\k<=out.length/\SIn out (zN l i) k nx put/\env=.sl j 0 l.length::naL 2 (.row jo out.length::intA i::.row jn nx.length::zP put::intA k::naL 59 [])/\K=[(j,.cells (l.map intA) et false),(jo,.row (out.map intA) 3 1),(jn,.row (nx.map intA) 3 1)]) out.length ⟨0,jn0,[],false,rfl,mN _,sin_0 out _,rfl,rfl⟩ fun n0 env K hI hnext1=>?_;obtain ⟨k,jn,nx,put,rfl,hk,hsi,rfl,rfl⟩:=hI;have hnl:nx.length<=k+1:=by have:=hsi.2.2.2; split at this <;> omega
  refine bG nQ ?_;refine au 93728011422 ?_;constructor<;>intro hc1
  ·have hkl:k<out.length:=by simp at hc1; omega
   have hy:=z6 hkl;refine au 221302120 ?_;refine bL [0,1,2,3,4,5,6,7,8,9,10,11,12] ?_;refine ad [[1,6]] ?_;refine bU [20] Z (q_not Z Z) ?_;refine ad [[1,21]] ?_;refine bW 22 (fun g10_3=>?_) (fun g10_3=>?_)
   ·obtain rfl:put=false:=by simpa using g10_3
    refine ad [[1,3,22],[1,7,22]] ?_;refine bT [22,23,24] Z (hq:=kB Z Z Z zF.h (mC _) oQ oQ) (h:=?_);refine bT [22,25] Z (hq:=zm Z Z zi.h (mC _) (zaj (i:=k) hy Z)) (h:=?_);refine ad [[1,0,22],[1,4,22],[2,22,27,28]] ?_;refine bT [22,29] Z (hq:=zm Z Z zi.h (mC _) (yi (i:=i) hx Z)) (h:=?_);refine ad [[4,22,26,30],[7,22,31],[14]] ?_;refine au 9 ?_;constructor<;>intro hc2
    ·have hxy:zN l i<=zN out k:=of_decide_eq_true hc2;have hmd:=jbk hso.1 hy hsi hxy;refine au 36011142 ?_;refine bH Z (zm Z Z zi.h mQ (yi (i:=i) hx Z)) ?_;refine bI Z Z Z (zt (l:=[_]) Z zF.h TyZ.h dQ dQ Z) (fun _=>zu rfl tQ) fun j1 hj1=>?_;refine bO Z Z Z (a_app Z ApOf.h Z mQ (by rw [lJ]; omega) Z (yw (ln:=[_]) mQ dQ sQ Z) oQ Z (by unfold maxLen; omega) oQ) (fun _=>uQ) (fun _=>zu rfl tQ) fun jm=>?_;refine au 235435 ?_;refine bL [0,1,2,3,4,5,6,7,8] ?_;refine ad [[1,3],[1,7]] ?_;refine bT [40,41] Z (hq:=kB Z Z Z zF.h (mC _) oQ oQ) (h:=?_);refine bT [42] Z (hq:=zm Z Z zi.h (mC _) (zaj (i:=k) hy Z)) (h:=?_);refine ad [[1,0],[1,4],[2,44,45]] ?_;refine bT [46] Z (hq:=zm Z Z zi.h (mC _) (yi (i:=i) hx Z)) (h:=?_);refine ad [[4,43,47],[14]] ?_;refine au 9 ?_;constructor<;>intro hc3
     ·have hne:zN out k≠zN l i:=by simpa using hc3
      refine au 3701114 ?_;refine bH Z (zm Z Z zi.h mQ (zaj (i:=k) hy Z)) ?_;refine bI Z Z Z (zt (l:=[_]) Z zF.h TyZ.h dQ dQ Z) (fun _=>zu rfl tQ) fun j2 hj2=>?_;refine bO Z Z Z (a_app Z ApOf.h Z mQ (by simp; try omega) Z (yw (ln:=[_]) mQ dQ sQ Z) oQ Z (by unfold maxLen; omega) oQ) (fun _=>uQ) (fun _=>zu rfl tQ) fun jn2=>?_;refine au 352301414035 ?_;refine bA [0,3,4,5,6,7] ?_;refine bC [(j,_),(jo,_),(jn2,_)] ?_;exact hnext1 _ _ _ oQ ⟨k+1,jn2,nx++[zN l i]++[zN out k],true,rfl,oQ,xH hso.1 hy hmd hne,by rw [lF,lF] <;> rfl,by rw [lM,lM] <;> rfl⟩
     have heq:zN out k=zN l i:=by simpa using hc3
     refine au 3523014140120 ?_;refine bA [0,3,4,5,6,7] ?_;refine bC [(j,_),(jo,_),(jm,_)] ?_;exact hnext1 _ _ _ oQ ⟨k+1,jm,nx++[zN l i],true,rfl,oQ,qf hy hmd heq,by rw [lF] <;> rfl,by rw [lM] <;> rfl⟩
    have hxy:¬ zN l i<=zN out k:=of_decide_eq_false hc2;have hmd:=qe hy hsi (.inr hxy);refine au 2120 ?_;refine bL [0,1,2,3,4,5,6,7,8] ?_;refine ad [[1,3],[1,7]] ?_;refine bT [40,41] Z (hq:=kB Z Z Z zF.h (mC _) oQ oQ) (h:=?_);refine bT [42] Z (hq:=zm Z Z zi.h (mC _) (zaj (i:=k) hy Z)) (h:=?_);refine ad [[1,0],[1,4],[2,44,45]] ?_;refine bT [46] Z (hq:=zm Z Z zi.h (mC _) (yi (i:=i) hx Z)) (h:=?_);refine ad [[4,43,47],[14]] ?_;refine au 9 ?_;constructor<;>intro hc3
    ·have hne:zN out k≠zN l i:=by simpa using hc3
     refine au 3701114 ?_;refine bH Z (zm Z Z zi.h mQ (zaj (i:=k) hy Z)) ?_;refine bI Z Z Z (zt (l:=[_]) Z zF.h TyZ.h dQ dQ Z) (fun _=>zu rfl tQ) fun j3 hj3=>?_;refine bO Z Z Z (a_app Z ApOf.h Z mQ (by simp; try omega) Z (yw (ln:=[_]) mQ dQ sQ Z) oQ Z (by unfold maxLen; omega) oQ) (fun _=>uQ) (fun _=>zu rfl tQ) fun jn2=>?_;refine au 352301414035 ?_;refine bA [0,3,4,5,6,7] ?_;refine bC [(j,_),(jo,_),(jn2,_)] ?_;exact hnext1 _ _ _ oQ ⟨k+1,jn2,nx++[zN out k],false,rfl,oQ,xH hso.1 hy hmd hne,by rw [lF] <;> rfl,by rw [lM] <;> rfl⟩
    have heq:zN out k=zN l i:=by simpa using hc3
    omega
   obtain rfl:put=true:=by simpa using g10_3
   have hmd:=qe hy hsi (.inl rfl);refine ad [[11,3,22],[11,7,22],[11,22,23,24],[11,22,25],[11,0,22],[11,4,22],[11,22,27,28],[11,22,29],[11,22,26,30],[6,22,31],[14]] ?_;refine au 2120190 ?_;refine bL [0,1,2,3,4,5,6,7,8] ?_;refine ad [[1,3],[1,7]] ?_;refine bT [40,41] Z (hq:=kB Z Z Z zF.h (mC _) oQ oQ) (h:=?_);refine bT [42] Z (hq:=zm Z Z zi.h (mC _) (zaj (i:=k) hy Z)) (h:=?_);refine ad [[1,0],[1,4],[2,44,45]] ?_;refine bT [46] Z (hq:=zm Z Z zi.h (mC _) (yi (i:=i) hx Z)) (h:=?_);refine ad [[4,43,47],[14]] ?_;refine au 9 ?_;constructor<;>intro hc3
   ·have hne:zN out k≠zN l i:=by simpa using hc3
    refine au 3701114 ?_;refine bH Z (zm Z Z zi.h mQ (zaj (i:=k) hy Z)) ?_;refine bI Z Z Z (zt (l:=[_]) Z zF.h TyZ.h dQ dQ Z) (fun _=>zu rfl tQ) fun j4 hj4=>?_;refine bO Z Z Z (a_app Z ApOf.h Z mQ (by simp; try omega) Z (yw (ln:=[_]) mQ dQ sQ Z) oQ Z (by unfold maxLen; omega) oQ) (fun _=>uQ) (fun _=>zu rfl tQ) fun jn2=>?_;refine au 352301414035 ?_;refine bA [0,3,4,5,6,7] ?_;refine bC [(j,_),(jo,_),(jn2,_)] ?_;exact hnext1 _ _ _ oQ ⟨k+1,jn2,nx++[zN out k],true,rfl,oQ,xH hso.1 hy hmd hne,by rw [lF] <;> rfl,by rw [lM] <;> rfl⟩
   have heq:zN out k=zN l i:=by simpa using hc3
   refine au 3523014140120 ?_;refine bA [0,3,4,5,6,7] ?_;refine bC [(j,_),(jo,_),(jn,_)] ?_;exact hnext1 _ _ _ oQ ⟨k+1,jn,nx,true,rfl,oQ,qf hy hmd heq,rfl,rfl⟩
  obtain rfl:k=out.length:=by simp at hc1; omega
  refine au 933001422160 ?_;constructor<;>intro hc4
  ·obtain rfl:put=false:=by simpa using hc4
   refine au 3601114 ?_;refine bH Z (zm Z Z zi.h mQ (yi (i:=i) hx Z)) ?_;refine bI Z Z Z (zt (l:=[_]) Z zF.h TyZ.h dQ dQ Z) (fun _=>zu rfl tQ) fun j5 hj5=>?_;refine bO Z Z Z (a_app Z ApOf.h Z mQ (by rw [lJ]; omega) Z (yw (ln:=[_]) mQ dQ sQ Z) oQ Z (by unfold maxLen; omega) oQ) (fun _=>uQ) (fun _=>zu rfl tQ) fun jz=>?_;refine au 3523014140351435 ?_;refine bA [0,3,4] ?_;refine bC [(j,_),(jz,_)] ?_;exact hnext _ _ _ oQ ⟨i+1,jz,nx++[zN l i],rfl,oQ,jaW hx hso hsi,by rw [lF] <;> rfl,by rw [lM] <;> rfl⟩
  obtain rfl:put=true:=by simpa using hc4
  refine au 35230141403514120 ?_;refine bA [0,3,4] ?_;refine bC [(j,_),(jn,_)] ?_;exact hnext _ _ _ oQ ⟨i+1,jn,nx,rfl,oQ,jaY hx hso hsi,rfl,rfl⟩
 obtain rfl:i=l.length:=by simp at hc0; omega
 obtain rfl:=jaX hso;refine bZ 3 Z mQ ?_;refine bY (j:=jo) ?_;refine au 35142160 ?_;refine bB hret [(jo,_),(j,_)] ?_;exact ⟨jo,rfl,rfl⟩
theorem jaH {main T} (hT:zo tp main T) {gm} {b:RBk} {s h e:Nat} {P:List (Nat×List Int)} {x:Nat×List Int} (hb:ROk b) (hs:StOk b x.2) (hx:x∈P):zA tp T gm 74 [.agg (zE b s h e),.sl x.1 0 x.2.length] (jA P) (fun r K'=>r=intA (freshM b x.2)/\K'=jA P):=by
 obtain ⟨R,hR⟩:=jZ (jG hx);refine (qg hT hb hs).fr (R:=R) hR.perm ?_;rintro r K' ⟨rfl,rfl⟩;exact ⟨_,hR.perm.symm,rfl,rfl⟩
instance:Cal tp 137:={}
instance:Cal tp 143:={}
theorem xb {main T} (hT:zo tp main T) {gm} {b:RBk} {s h e:Nat} {n:Int} (hl:b.seams.length<=100) (hm:b.measures.length<=100) :
  zA tp T gm 82 [.agg (zE b s h e),intA n] [(s,zk b),(h,zB b),(e,zq b)] (fun r K'=>∃ js,r=.tup [.sl js 0 (shF b n).length,intA (knB b (thereM b n))]/\K'=(js,.cells ((shF b n).map intA) 3 false)::[(s,zk b),(h,zB b),(e,zq b)]):=by
 refine zp 37 hT Tryz.func82 fun Y hret=>?_;refine au 21042 ?_;intro jb hjb;refine au 2355 ?_;refine bL [0,1,2,3,4,5,6,8,7,9] ?_;refine ad [[12,2],[12,2],[1,1]] ?_;refine bQ (pend':=[⟨0,[2],[(_,_)]⟩]) [12,13] Z Z Z Z Z (jaA hT hl) (fun r1 K2 h3=>⟨?_,?_⟩)
 ·rcases h3 with ⟨rfl,rfl⟩
  all_goals simp
 obtain ⟨rfl,rfl⟩:=h3;try simp only [cA]
 refine bS tQ ?_;refine bQ (pend':=[]) [11,14] Z Z Z Z Z (jQ hT hl hm) (fun r4 K5 h6=>⟨?_,?_⟩)
 ·rcases h6 with ⟨hkn,rfl,rfl⟩ | ⟨hkn,jr,Q,P,hQP,hQ,rfl,rfl⟩;all_goals simp
 rcases h6 with ⟨hkn,rfl,rfl⟩ | ⟨hkn,jr,Q,P,hQP,hQ,rfl,rfl⟩
 ·try simp only [cA]
  refine bS tQ ?_;refine ad [[1,15],[5,10],[5,10]] ?_;refine TD.as (pend':=[⟨7,[10],[]⟩]) [16] Z Z (zD Z Z) ?_;refine ad [[13,17],[14]] ?_;refine au 542 ?_;refine TK.virt 8 3 1 Z fun jo0 hjo0=>?_;refine au 130354223 ?_;refine bA [1,6,7,8,9] ?_;refine bC [(jo0,_),(s,_),(h,_),(e,_)] ?_;refine bE (fun n0 env K=>env=.any::intA n::naL 4 (.v (.slice none 0 0)::intA (knB b (thereM b n))::.row jo0 ([]:List Int).length::intA 0::naL 27 [])/\K=[(jo0,.row (([]:List Int).map intA) 3 1),(s,zk b),(h,zB b),(e,zq b)]) 0 ⟨rfl,rfl⟩ fun n0 env K hI hnext=>?_;obtain ⟨rfl,rfl⟩:=hI;refine bG nQ ?_;refine au 93728011422 ?_;constructor<;>intro hc0
  ·exact absurd hc0 dQ
  refine au 2160 ?_;refine bZ 8 Z mQ ?_;refine bY (j:=jo0) ?_;refine au 14 ?_;refine bD Z Z Z Z (xU hT (l:=[]) sQ) ?_;rintro r7 K8 ⟨js,rfl,rfl⟩;refine au 3551 ?_;refine bB hret [(js,_),(s,_),(h,_),(e,_)] ?_;exact ⟨js,by rw [xL hkn,qm] <;> rfl,by rw [xL hkn,qm] <;> rfl⟩
 ·try simp only [cA]
  refine bS tQ ?_;refine TD.perm (lH (l₁:=(jr,_)::(s,_)::(h,_)::(e,_)::jA P)) ?_;simp only [cA];refine ad [[1,15],[5,10],[5,10]] ?_;refine TD.as (pend':=[⟨7,[10],[]⟩]) [16] Z Z (zD Z Z) ?_;refine ad [[13,17],[14]] ?_;refine au 542 ?_;refine TK.virt 8 3 1 Z fun jo0 hjo0=>?_;refine au 130354223 ?_;refine bA [1,6,7,8,9] ?_;have hbb:=zZ (kF (knB_0 hkn).1);have hsl:=hbb.sms.len;have hall:okAll b (Q.map (·.2)):=fun st hst=>(y8 hbb (hQ ▸ hst)).1;have hQl:Q.length<=1000:=by have h1:=kg hbb; rw [<- hQ,lJ] at h1; omega
  have hth:=zak (kc (knB_0 hkn).1);refine bC ((jo0,_)::(jr,_)::(s,_)::(h,_)::(e,_)::jA P) ?_;refine bE (fun n0 env K=>∃ (i jo:Nat),n0=Q.length - i/\i<=Q.length/\env=.any::intA n::naL 4 (.row jr Q.length::intA 0::.row jo (colM (Q.map (·.2)) n i).length::intA i::naL 27 [])/\K=(jo,.row ((colM (Q.map (·.2)) n i).map intA) 3 1)::(jr,.row (refsL Q) 27 1)::(s,zk b)::(h,zB b)::(e,zq b)::jA P) Q.length ⟨0,jo0,rfl,mN _,rfl,rfl⟩ fun n0 env K hI hnext=>?_;obtain ⟨i,jo,rfl,hi,rfl,rfl⟩:=hI;have hcml:=jaE (all:=Q.map (·.2)) (n:=n) (i:=i) (by rw [lJ]; exact hi);refine bG nQ ?_;refine au 93728011422 ?_;constructor<;>intro hc0
  ·have hil:i<Q.length:=by simp at hc0; omega
   have hmem:=hQP _ (jN hil);have hg:(Q.map (·.2))[i]? =some (sN Q i).2:=by rw [lQ,jU hil]; rfl
   have hst:StOk b (sN Q i).2:=hall _ (lY.2 ⟨_,jN hil,rfl⟩);have hkm:=jG hmem;have hlen:=hst.len;have hcg:=z6 (l:=(sN Q i).2) (k:=n.toNat) oQ;refine au 37011141302120 ?_;refine bH Z (zm Z Z zi.h mQ (xx hil Z)) ?_;refine au 3601 ?_;refine bH Z (zm Z Z zi.h mQ (yi hcg oQ)) ?_;refine bI Z Z Z (zt (l:=[_]) Z zF.h TyZ.h dQ dQ Z) (fun _=>zu rfl tQ) fun j10 hj10=>?_;refine bO Z Z Z (a_app Z ApOf.h Z mQ (by rw [lJ]; omega) Z (yw (ln:=[_]) mQ dQ sQ Z) oQ Z (by unfold maxLen; omega) oQ) (fun _=>uQ) (fun _=>zu rfl tQ) fun jo2=>?_;refine au 352301414035 ?_;refine bA [1,6,7,8,9] ?_;refine bC (((jo2,_)::(jr,_)::(s,_)::(h,_)::(e,_)::jA P)) ?_;exact hnext _ _ _ oQ ⟨i+1,jo2,rfl,oQ,by rw [jag hg,lF] <;> rfl,by rw [jag hg,lM] <;> rfl⟩
  obtain rfl:i=Q.length:=by simp at hc0; omega
  have hce:shrI b n=setI (colM (Q.map (·.2)) n Q.length):=by rw [<- jaD,hQ,show (zf b).length=Q.length by rw [<- hQ,lJ]]
  refine au 2160 ?_;refine bZ 8 Z mQ ?_;refine bY (j:=jo) ?_;refine au 14 ?_;refine bD Z Z Z Z (xU hT oQ) ?_;rintro r11 K12 ⟨js,rfl,rfl⟩;refine au 3551 ?_;refine bB hret [(js,_),(s,_),(h,_),(e,_)] ?_;exact ⟨js,by rw [qo hkn,hce,hkn] <;> rfl,by rw [qo hkn,hce] <;> rfl⟩
theorem xS {main T} (hT:zo tp main T) {gm} {b:RBk} {s h e:Nat} (hl:b.seams.length<=100) (hm:b.measures.length<=100) :
  zA tp T gm 83 [.agg (zE b s h e)] [(s,zk b),(h,zB b),(e,zq b)] (fun r K'=>r=.tup [.agg [intA (newF b).1,intA (newF b).2],intA (knB b 0)]/\K'=[(s,zk b),(h,zB b),(e,zq b)]):=by
 refine zp 42 hT Tryz.func83 fun Y hret=>?_;refine au 21042 ?_;intro jb hjb;refine au 220 ?_;intro j2 hj2;refine au 6804235 ?_;refine bD Z Z Z Z (jQ hT (a:=0) hl hm) ?_;rintro r1 K2 h3;rcases h3 with ⟨hkn,rfl,rfl⟩ | ⟨hkn,jr,Q,P,hQP,hQ,rfl,rfl⟩
 ·refine au 22042355661 ?_;intro jx hjx;refine au 130354223 ?_;refine bA [1,2,4,5,6,7] ?_;refine bC [(jx,_),(j2,_),(jb,_),(s,_),(h,_),(e,_)] ?_;refine bE (fun n0 env K=>env=.any::.ptr jb 0::.ptr j2 0::.any::.v (.slice none 0 0)::intA (knB b 0)::.ptr jx 0::intA 0::naL 34 []/\K=[(jx,.cells [intA 0,intA 0] 51 true),(j2,.cells [intA 0,intA 0] 51 true),(jb,.cells (zE b s h e) 26 true),(s,zk b),(h,zB b),(e,zq b)]) 0 ⟨rfl,rfl⟩ fun n0 env K hI hnext=>?_;obtain ⟨rfl,rfl⟩:=hI;refine bG nQ ?_;refine au 93728011422 ?_;constructor<;>intro hc0
  ·exact absurd hc0 dQ
  refine au 35170168042160 ?_;refine bB hret [(s,_),(h,_),(e,_)] ?_;exact ⟨by rw [jaG hkn] <;> rfl,rfl⟩
 ·refine au 0 ?_;refine bN (lH (l₁:=(jr,_)::(s,_)::(h,_)::(e,_)::jA P)) ?_;simp only [cA];refine au 22042355661 ?_;intro jx hjx;refine au 130354223 ?_;refine bA [1,2,4,5,6,7] ?_;have hbb:=zZ (kF (knB_0 hkn).1);have hsl:=hbb.sms.len;have hall:okAll b (Q.map (·.2)):=fun st hst=>(y8 hbb (hQ ▸ hst)).1;have hQl:Q.length<=1000:=by have h1:=kg hbb; rw [<- hQ,lJ] at h1; omega
  refine bC ((jx,_)::(j2,_)::(jb,_)::(jr,_)::(s,_)::(h,_)::(e,_)::jA P) ?_;refine bE (fun n0 env K=>∃ (i:Nat),n0=Q.length - i/\i<=Q.length/\env=.any::.ptr jb 0::.ptr j2 0::.any::.row jr Q.length::intA 0::.ptr jx 0::intA i::naL 34 []/\K=(jx,.cells [intA (newW b (Q.map (·.2)) i).1,intA (newW b (Q.map (·.2)) i).2] 51 true)::(j2,.cells [intA 0,intA 0] 51 true)::(jb,.cells (zE b s h e) 26 true)::(jr,.row (refsL Q) 27 1)::(s,zk b)::(h,zB b)::(e,zq b)::jA P) Q.length ⟨0,rfl,mN _,rfl,rfl⟩ fun n0 env K hI hnext=>?_;obtain ⟨i,rfl,hi,rfl,rfl⟩:=hI;refine bG nQ ?_;refine au 93728011422 ?_;constructor<;>intro hc0
  ·have hil:i<Q.length:=by simp at hc0; omega
   have hmem:=hQP _ (jN hil);have hg:(Q.map (·.2))[i]? =some (sN Q i).2:=by rw [lQ,jU hil]; rfl
   have hst:StOk b (sN Q i).2:=hall _ (lY.2 ⟨_,jN hil,rfl⟩);refine au 21302120 ?_;refine bL [0,1,2,3,4,5,6] ?_;refine ad [[12,1],[1,4],[1,7]] ?_;refine bT [21,22] Z (hq:=kB Z Z Z zF.h (mC _) oQ oQ) (h:=?_);refine bT [23] Z (hq:=zm Z Z zi.h (mC _) (xx hil Z)) (h:=?_);refine bQ (pend':=[⟨3,[21,22],[(_,_)]⟩,⟨2,[7],[]⟩,⟨1,[4],[]⟩]) [20,24] Z Z Z Z Z (jaH hT hbb hst hmem) (fun r4 K5 h6=>⟨?_,?_⟩)
   ·rcases h6 with ⟨rfl,rfl⟩
    all_goals simp
   obtain ⟨rfl,rfl⟩:=h6;try simp only [cA]
   refine bS tQ ?_;refine TD.perm (lH (l₁:=jA P)) ?_;simp only [cA];refine ad [[13,25],[14]] ?_;refine au 9371422 ?_;constructor<;>intro hc1
   ·refine au 169067043170390114 ?_;refine bH Z (zc0 Z Z Z) ?_;refine au 1690670 ?_;refine bH Z (zcZ Z Z Z) ?_;refine au 35230141403170390 ?_;refine bA [1,2,4,5,6,7] ?_;refine bC (((jx,_)::(j2,_)::(jb,_)::(jr,_)::(s,_)::(h,_)::(e,_)::jA P)) ?_;obtain rfl:i=0:=by simpa using hc1
    exact hnext _ _ _ oQ ⟨0+1,rfl,oQ,rfl,by rw [jbF hg,Int.min_self,Int.max_self] <;> rfl⟩
   refine au 16906704120 ?_;refine bH Z (zc0 Z Z Z) ?_;refine au 1690670 ?_;refine bH Z (zcZ Z Z Z) ?_;refine au 35230141403170390 ?_;refine bA [1,2,4,5,6,7] ?_;refine bC (((jx,_)::(j2,_)::(jb,_)::(jr,_)::(s,_)::(h,_)::(e,_)::jA P)) ?_;exact hnext _ _ _ oQ ⟨i+1,rfl,oQ,rfl,by rw [jbG hg (by simpa using hc1)] <;> rfl⟩
  obtain rfl:i=Q.length:=by simp at hc0; omega
  have hnw:spreadM ((zf b).map (freshM b))=newW b (Q.map (·.2)) Q.length:=by rw [<- jaI,<- hQ,lJ]
  refine au 35170168042160 ?_;refine bB hret [(s,_),(h,_),(e,_)] ?_;exact ⟨by rw [jbm hkn,hkn,show newM b=newW b (Q.map (·.2)) Q.length from hnw] <;> rfl,rfl⟩
theorem jaz {main T} (hT:zo tp main T) {gm} {x y:Int} :
  zA tp T gm 143 [intA x,intA y] [] (fun r K'=>r=intA (sureM x y)/\K'=[]):=by
 refine zp 10 hT Tryz.func143 fun Y hret=>?_;refine au 937114223542 ?_;constructor<;>intro hc0
 ·refine au 3542 ?_;refine bB hret [] ?_;exact ⟨by unfold sureM; rw [if_pos (by simpa using hc0)],rfl⟩
 refine au 9371422120 ?_;constructor<;>intro hc1
 ·refine au 3542 ?_;refine bB hret [] ?_;exact ⟨by unfold sureM; rw [if_neg (by simpa using hc0),if_pos (by simpa using hc1)],rfl⟩
 refine au 3542120 ?_;refine bB hret [] ?_;exact ⟨by unfold sureM; rw [if_neg (by simpa using hc0),if_neg (by simpa using hc1)],rfl⟩
theorem xR {main T} (hT:zo tp main T) {gm} {b:RBk} {s h e j:Nat} {l:List Int} {et:TypeId} (hl:b.seams.length<=100) (hm:b.measures.length<=100) (hll:l.length<=1000) :
  zA tp T gm 84 [.agg (zE b s h e),.sl j 0 l.length] [(s,zk b),(h,zB b),(e,zq b),(j,.cells (l.map intA) et false)] (fun r K'=>r=.tup [intA (canF b l),intA (knB b (cutsM b l))]/\K'=[(s,zk b),(h,zB b),(e,zq b),(j,.cells (l.map intA) et false)]):=by
 refine zp 48 hT Tryz.func84 fun Y hret=>?_;refine au 21042 ?_;intro jb hjb;refine au 2355 ?_;refine bL [0,1,2,3,4,5,6,8,7,9] ?_;refine ad [[12,2],[12,2],[1,1]] ?_;refine bQ (pend':=[⟨0,[2],[(_,_)]⟩]) [15,16] Z Z Z Z Z (xa hT hll hl) (fun r1 K2 h3=>⟨?_,?_⟩)
 ·rcases h3 with ⟨rfl,rfl⟩
  all_goals simp
 obtain ⟨rfl,rfl⟩:=h3;try simp only [cA]
 refine bS tQ ?_;refine bQ (pend':=[]) [14,17] Z Z Z Z Z (jQ hT hl hm) (fun r4 K5 h6=>⟨?_,?_⟩)
 ·rcases h6 with ⟨hkn,rfl,rfl⟩ | ⟨hkn,jr,Q,P,hQP,hQ,rfl,rfl⟩;all_goals simp
 rcases h6 with ⟨hkn,rfl,rfl⟩ | ⟨hkn,jr,Q,P,hQP,hQ,rfl,rfl⟩
 ·try simp only [cA]
  refine bS tQ ?_;refine ad [[1,18],[5,13],[5,13]] ?_;refine TD.as (pend':=[⟨7,[13],[]⟩]) [19] Z Z (zD Z Z) ?_;refine ad [[13,20],[14]] ?_;refine au 9371422 ?_;constructor<;>intro hc0
  ·
   refine au 355142 ?_;refine bB hret [(s,_),(h,_),(e,_),(j,_)] ?_;exact ⟨by rw [jaB hkn] <;> rfl,rfl⟩
  exact absurd hkn (by simpa using hc0)
 ·try simp only [cA]
  refine bS tQ ?_;refine TD.perm (lH (l₁:=(jr,_)::(s,_)::(h,_)::(e,_)::jA P)) ?_;simp only [cA];refine ad [[1,18],[5,13],[5,13]] ?_;refine TD.as (pend':=[⟨7,[13],[]⟩]) [19] Z Z (zD Z Z) ?_;refine ad [[13,20],[14]] ?_;refine au 9371422 ?_;constructor<;>intro hc0
  ·exact absurd hc0 dQ
  have hbb:=zZ (kF (knB_0 hkn).1);have hsl:=hbb.sms.len;have hall:okAll b (Q.map (·.2)):=fun st hst=>(y8 hbb (hQ ▸ hst)).1;have hQl:Q.length<=1000:=by have h1:=kg hbb; rw [<- hQ,lJ] at h1; omega
  have hcc:=wG (kc (knB_0 hkn).1);have hcn:=hcc.len;refine au 130354223542120 ?_;refine bA [1,2,6,8,9] ?_;refine bC ((jb,_)::(jr,_)::(s,_)::(h,_)::(e,_)::(j,_)::jA P) ?_;refine bE (fun n0 env K=>∃ (i:Nat),n0=Q.length - i/\i<=Q.length/\env=.any::.sl j 0 l.length::.ptr jb 0::naL 3 (.row jr Q.length::.any::intA (wayN b (Q.map (·.2)) l i)::intA i::naL 38 [])/\K=(jb,.cells (zE b s h e) 26 true)::(jr,.row (refsL Q) 27 1)::(s,zk b)::(h,zB b)::(e,zq b)::(j,.cells (l.map intA) et false)::jA P) Q.length ⟨0,rfl,mN _,rfl,rfl⟩ fun n0 env K hI hnext=>?_;obtain ⟨i,rfl,hi,rfl,rfl⟩:=hI;have hwn:=jbC b (Q.map (·.2)) l i;rw [lJ] at hwn;refine bG nQ ?_;refine au 93728011422 ?_;constructor<;>intro hc1
  ·have hil:i<Q.length:=by simp at hc1; omega
   have hmem:=hQP _ (jN hil);have hg:(Q.map (·.2))[i]? =some (sN Q i).2:=by rw [lQ,jU hil]; rfl
   have hst:StOk b (sN Q i).2:=hall _ (lY.2 ⟨_,jN hil,rfl⟩);refine au 21302120 ?_;refine bL [0,1,2,3,4,5,6,7,8,11,9,12,10,13] ?_;refine ad [[12,2],[1,1],[1,6],[1,9]] ?_;refine bT [33,34] Z (hq:=kB Z Z Z zF.h (mC _) oQ oQ) (h:=?_);refine bT [35] Z (hq:=zm Z Z zi.h (mC _) (xx hil Z)) (h:=?_);refine bQ (pend':=[⟨4,[33,34],[(_,_)]⟩,⟨3,[9],[]⟩,⟨2,[6],[]⟩]) [31,32,36] Z Z Z Z Z (qJ hT hbb hcc hst hmem) (fun r7 K8 h9=>⟨?_,?_⟩)
   ·rcases h9 with ⟨hno,rfl,rfl⟩ | ⟨w,q,jw,hso,rfl,rfl⟩;all_goals simp
   rcases h9 with ⟨hno,rfl,rfl⟩ | ⟨w,q,jw,hso,rfl,rfl⟩
   ·try simp only [cA]
    refine bS tQ ?_;refine TD.perm (lH (l₁:=(s,_)::(j,_)::jA P)) ?_;simp only [cA];refine ad [[1,37],[5,30],[5,30],[5,30]] ?_;refine TD.as (pend':=[⟨10,[30],[]⟩,⟨9,[30],[]⟩]) [38] Z Z (zD Z Z) ?_;refine TD.as (pend':=[⟨10,[30],[]⟩]) [39] Z Z (zD Z Z) ?_;refine ad [[13,40],[14]] ?_;refine au 93142 ?_;constructor<;>intro hc2
    ·exact absurd hc2 dQ
    refine au 3523014140120 ?_;refine bA [1,2,6,8,9] ?_;refine bC (((jb,_)::(jr,_)::(s,_)::(h,_)::(e,_)::(j,_)::jA P)) ?_;exact hnext _ _ _ oQ ⟨i+1,rfl,oQ,by rw [jbQ hg hno] <;> rfl,rfl⟩
   ·try simp only [cA]
    refine bS tQ ?_;refine TD.perm (lH (l₁:=(jw,_)::(s,_)::(j,_)::jA P)) ?_;simp only [cA];refine ad [[1,37],[5,30],[5,30],[5,30]] ?_;refine TD.as (pend':=[⟨10,[30],[]⟩,⟨9,[30],[]⟩]) [38] Z Z (zD Z Z) ?_;refine TD.as (pend':=[⟨10,[30],[]⟩]) [39] Z Z (zD Z Z) ?_;refine ad [[13,40],[14]] ?_;refine au 93142 ?_;constructor<;>intro hc2
    ·
     refine au 35230141403523014 ?_;refine bA [1,2,6,8,9] ?_;refine bC (((jb,_)::(jr,_)::(s,_)::(h,_)::(e,_)::(j,_)::jA P)) ?_;exact hnext _ _ _ oQ ⟨i+1,rfl,oQ,by rw [jbR hg hso] <;> rfl,rfl⟩
    exact absurd hc2 dQ
  obtain rfl:i=Q.length:=by simp at hc1; omega
  have hQ2:Q.length=(zf b).length:=by rw [<- hQ,lJ]
  have hwe:wayN b (Q.map (·.2)) l Q.length=(waysM b (zf b) l).length:=by rw [<- ja0,<- hQ,lJ]
  refine au 2801142160 ?_;refine bD Z Z Z Z (jaz hT) ?_;rintro r10 K11 ⟨rfl,rfl⟩;refine au 355 ?_;refine bB hret [(s,_),(h,_),(e,_),(j,_)] ?_;exact ⟨by rw [jba hkn,hkn,<- hwe,<- hQ2] <;> rfl,rfl⟩
theorem xc {main T} (hT:zo tp main T) {gm} {b:RBk} {s h e j:Nat} {l:List Int} {et:TypeId} (hl:b.seams.length<=100) (hm:b.measures.length<=100) (hll:l.length<=1000) :
  zA tp T gm 85 [.agg (zE b s h e),.sl j 0 l.length] [(s,zk b),(h,zB b),(e,zq b),(j,.cells (l.map intA) et false)] (fun r K'=>r=.tup [.agg [intA (sqF b l).1,intA (sqF b l).2],intA (sqB b l)]/\K'=[(s,zk b),(h,zB b),(e,zq b),(j,.cells (l.map intA) et false)]):=by
 refine zp 33 hT Tryz.func85 fun Y hret=>?_;refine au 21042 ?_;intro jb hjb;refine au 220 ?_;intro j2 hj2;refine au 235 ?_;refine bL [0,1,2,3,4,5,6,8,7,9] ?_;refine ad [[12,2],[12,2],[1,1]] ?_;refine bQ (pend':=[⟨0,[2],[(_,_)]⟩]) [12,13] Z Z Z Z Z (xa hT hll hl) (fun r1 K2 h3=>⟨?_,?_⟩)
 ·rcases h3 with ⟨rfl,rfl⟩
  all_goals simp
 obtain ⟨rfl,rfl⟩:=h3;try simp only [cA]
 refine bS tQ ?_;refine bQ (pend':=[]) [11,14] Z Z Z Z Z (jQ hT hl hm) (fun r4 K5 h6=>⟨?_,?_⟩)
 ·rcases h6 with ⟨hkn,rfl,rfl⟩ | ⟨hkn,jr,Q,P,hQP,hQ,rfl,rfl⟩;all_goals simp
 rcases h6 with ⟨hkn,rfl,rfl⟩ | ⟨hkn,jr,Q,P,hQP,hQ,rfl,rfl⟩
 ·try simp only [cA]
  refine bS tQ ?_;refine ad [[1,15],[5,10],[5,10]] ?_;refine TD.as (pend':=[⟨7,[10],[]⟩]) [16] Z Z (zD Z Z) ?_;refine ad [[13,17],[14]] ?_;refine au 9371422 ?_;constructor<;>intro hc0
  ·
   refine au 35170139042 ?_;refine bB hret [(s,_),(h,_),(e,_),(j,_)] ?_;exact ⟨by rw [(qR hkn).1,(qR hkn).2] <;> rfl,rfl⟩
  exact absurd hkn (by simpa using hc0)
 ·try simp only [cA]
  refine bS tQ ?_;refine TD.perm (lH (l₁:=(jr,_)::(s,_)::(h,_)::(e,_)::jA P)) ?_;simp only [cA];refine ad [[1,15],[5,10],[5,10]] ?_;refine TD.as (pend':=[⟨7,[10],[]⟩]) [16] Z Z (zD Z Z) ?_;refine ad [[13,17],[14]] ?_;refine au 9371422 ?_;constructor<;>intro hc0
  ·exact absurd hc0 dQ
  have hbb:=zZ (kF (knB_0 hkn).1);have hsl:=hbb.sms.len;have hall:okAll b (Q.map (·.2)):=fun st hst=>(y8 hbb (hQ ▸ hst)).1;have hQl:Q.length<=1000:=by have h1:=kg hbb; rw [<- hQ,lJ] at h1; omega
  have hcc:=wG (kc (knB_0 hkn).1);have hcn:=hcc.len;refine au 1168042120 ?_;refine bD Z Z Z Z (qw hT hbb hcc hall hQP hQl) ?_;rintro r7 K8 ⟨rfl,rfl⟩;refine au 0 ?_;refine bN (lH (l₁:=(s,_)::(jr,_)::(j,_)::jA P)) ?_;simp only [cA];refine au 220661 ?_;intro j8 hj8;refine au 93300142235170 ?_;constructor<;>intro hc1
  ·have hq1:sqOk b (zf b) l=false:=by rw [<- hQ]; simpa using hc1
   refine au 3517039042 ?_;refine bB hret [(s,_),(h,_),(e,_),(j,_)] ?_;exact ⟨by rw [(xy hkn).1,(xy hkn).2,(zhC hq1).1,(zhC hq1).2,if_neg (by rw [hq1]; decide)] <;> rfl,rfl⟩
  have hq1:sqOk b (zf b) l=true:=by rw [<- hQ]; simpa using hc1
  refine au 3517068042120 ?_;refine bB hret [(s,_),(h,_),(e,_),(j,_)] ?_;exact ⟨by rw [(xy hkn).1,(xy hkn).2,if_pos hq1,hQ] <;> rfl,rfl⟩
end Go.Vel
namespace Go.Vel
open Go Go.Conc Go.Sort
theorem jM {P:Program} {gm:Nat->Option Nat} {V:KV} {env:List AV} {o:Oper} {t yt:TypeId} {x y:Operand} {a b:Int} (ho:o.op=.binOp .quo t x y yt) (hx:zn gm env x=some (.v (.int .i64 a))) (hy:zn gm env y=some (.v (.int .i64 b))) (h0:0<=a) (h1:0<b) (h2:a<9223372036854775808):Qk P gm env V o (.v (.int .i64 (a / b))):=by
 refine wz ho hx hy ?_;show zR P (if b=0 then _ else _)=_;rw [if_neg oQ];show some (Value.int .i64 (IntKind.i64.wrap (a.tdiv b)))=_;rw [Int.tdiv_eq_ediv_of_nonneg h0,we ⟨Int.le_trans oQ (Int.ediv_nonneg h0 oQ),Int.lt_of_le_of_lt (Int.ediv_le_self b h0) h2⟩]
theorem TK.shr {P:Program} {gm:Nat->Option Nat} {T:Goroutine->Hp->Prop} {Y:KX P gm T} {ds:List Nat} {k k':List Item} {env:List AV} {K:KV} {X:Type} {D:X->Prop} {E:X->List AV} {KK:X->KV} (main:(∀ x,D x->TK Y ds k' (E x) (KK x))->TK Y ds k env K) (tail:∀ x,D x->TK Y ds k' (E x) (KK x)):TK Y ds k env K:=main tail
theorem jbD {d:Array Int} {i:Nat} (h:i<d.size):d.toList[i]? =some d[i]! :=by
 rw [Array.getElem?_toList,Array.getElem?_eq_getElem h,getElem!_pos d i h]
theorem jbB (d:Array Int) (i j:Nat):(d.toList.set i d[j]!).set j d[i]! =(swp d i j).toList:=by
 simp [swp]
theorem ji {d:Array Int} {i:Nat} {n:Int} {e:TypeId} {s:Nat} (h:i<d.size) (hn:n=(i:Int)):takeO (.row (d.toList.map intA) e s) (0+n.toNat*1) 1=some [intA d[i]!]:=kE (jbD h) (by subst hn; simp)
theorem jB {d:Array Int} {k:Nat} {n v:Int} {e:TypeId} {s:Nat} (h:k<d.size) (hn:n=(k:Int)):putO (.row (d.toList.map intA) e s) (0+n.toNat*1) [intA v]=some (.row ((d.toList.set k v).map intA) e s):=zcV (by rw [Array.length_toList]; exact h) hn
theorem jC {d:Array Int} {i j:Nat} {n:Int} {e:TypeId} {s:Nat} (h:j<d.size) (hn:n=(j:Int)):putO (.row ((d.toList.set i d[j]!).map intA) e s) (0+n.toNat*1) [intA d[i]!]=some (.row ((swp d i j).toList.map intA) e s):=by
 rw [<- jbB];exact zcV (by rw [List.length_set,Array.length_toList]; exact h) hn
theorem jD {d:Array Int} {i j n:Nat} (h:d.size=n):(swp d i j).size=n:=by rw [swp_size]; exact h
section
variable {a b i j q n hi F root:Nat} {d:Array Int}
theorem qC (h:i<b):insOuter ltInt a b i d=insOuter ltInt a b (i+1) (insInner ltInt a i d):=by
 conv=>lhs; unfold insOuter
 rw [if_pos h]
theorem qb (h:¬ i<b):insOuter ltInt a b i d=d:=by unfold insOuter; rw [if_neg h]
theorem qB (h:a<q+1) (hl:ltInt d[q+1]! d[q]! =true):insInner ltInt a (q+1) d=insInner ltInt a q (swp d (q+1) q):=by
 conv=>lhs; unfold insInner
 rw [if_pos (by simp only [mX,decide_eq_true_eq]; exact ⟨h,hl⟩)]
theorem qa (h:¬ a<q):insInner ltInt a q d=d:=by
 cases q with
 | zero=>rfl
 | succ q =>
  unfold insInner;rw [if_neg (by simp only [mX,decide_eq_true_eq]; exact fun hh=>h hh.1)]
theorem xZ (hl:ltInt d[q+1]! d[q]! =false):insInner ltInt a (q+1) d=d:=by
 unfold insInner;rw [if_neg (by rw [hl]; simp)]
theorem jaU (h:hi<=2*root+1):siftDown ltInt hi F root d=d:=by unfold siftDown; rw [dif_pos h]
def SiftC (hi F root:Nat) (d:Array Int) (c:Nat):Prop:=root<c/\c<hi/\siftDown ltInt hi F root d=if (!ltInt d[F+root]! d[F+c]!)=true then d else siftDown ltInt hi F c (swp d (F+root) (F+c))
theorem jbz (h:¬ hi<=2*root+1) (h2:2*root+2<hi) (hl:ltInt d[F+(2*root+1)]! d[F+(2*root+1)+1]! =true):SiftC hi F root d (2*root+2):=by
 refine ⟨by omega,h2,?_⟩
 conv=>lhs; unfold siftDown
 rw [dif_neg h,if_pos (by rw [hl]; simp; omega),dif_pos h2]
theorem qP (h:¬ hi<=2*root+1) (hl:¬ 2*root+2<hi\/ltInt d[F+(2*root+1)]! d[F+(2*root+1)+1]! =false):SiftC hi F root d (2*root+1):=by
 refine ⟨by omega,oQ,?_⟩
 conv=>lhs; unfold siftDown
 rw [dif_neg h,if_neg (by rcases hl with hl | hl <;> simp [hl])]
theorem qQ (hi F root:Nat) (d:Array Int):(siftDown ltInt hi F root d).size=d.size:=by
 fun_induction siftDown ltInt hi F root d <;> simp_all [swp_size]
end
end Go.Vel
namespace Go.Vel
open Go Go.Conc Go.Proofs
open Go.Sort
theorem jbg {main T} (hT:zo tp main T) {gm} {j n a b:Nat} {d:Array Int} (hd:d.size=n) (hn:n<=1000) (hab:a<=b) (hb:b<=n) :
  zA tp T gm 188 [.sl j 0 n,intA a,intA b] [(j,.row (d.toList.map intA) 3 1)] (fun r K'=>K'=[(j,.row ((insertionSort ltInt d a b).toList.map intA) 3 1)]):=by
 refine zp 49 hT Tryz.func188 fun Y hret=>?_;refine au 13035230142 ?_;refine bA [0,1,2,6] ?_;refine bE (fun n1 env K=>∃ (i:Nat) (d1:Array Int),n1=b - i/\a<i/\d1.size=n/\insOuter ltInt a b i d1=insertionSort ltInt d a b/\env=.sl j 0 n::intA a::intA b::naL 3 (intA i::naL 42 [])/\K=[(j,.row (d1.toList.map intA) 3 1)]) (b - (a+1)) ⟨a+1,d,rfl,oQ,hd,rfl,rfl,rfl⟩ fun n1 env K hI hnext=>?_;obtain ⟨i,d1,rfl,hai,hs1,heq,rfl,rfl⟩:=hI;refine bG nQ ?_;refine au 93711422 ?_;constructor<;>intro hc0
 ·have hib:i<b:=by simp at hc0; omega
  rw [qC hib] at heq;refine au 130351421302120 ?_;refine bA [0,1,2,6,7] ?_;refine bE (fun n1 env K=>∃ (p:Nat) (d2:Array Int),n1=p/\p<=i/\d2.size=n/\insOuter ltInt a b (i+1) (insInner ltInt a p d2)=insertionSort ltInt d a b/\env=.sl j 0 n::intA a::intA b::naL 3 (intA i::intA p::naL 41 [])/\K=[(j,.row (d2.toList.map intA) 3 1)]) i ⟨i,d1,rfl,mL _,hs1,heq,rfl,rfl⟩ fun n1 env K hI hnext1=>?_;obtain ⟨p,d2,hnp,hp,hs2,heq2,rfl,rfl⟩:=hI;subst n1;refine bG nQ ?_;refine au 22 ?_;refine bL [0,1,2,3,4,5,6,7,8,9,10,11,12,13,14] ?_;refine ad [[1,7],[1,1],[4,16,17],[1,18]] ?_;refine bW 19 (fun g4_4=>?_) (fun g4_4=>?_)
  ·have hpa:a<p:=by simp at g4_4; omega
   obtain ⟨q,rfl⟩:∃ q,p=q+1:=⟨p - 1,oQ⟩;refine ad [[1,0,19],[1,7,19],[2,19,20,21]] ?_;refine bT [19,22] Z (hq:=zm Z Z zi.h (mC _) (ji (i:=q+1) oQ oQ)) (h:=?_);refine ad [[1,0,19],[1,7,19],[9,19,25],[2,19,24,26]] ?_;refine bT [19,27] Z (hq:=zm Z Z zi.h (mC _) (ji (i:=q) oQ oQ)) (h:=?_);refine bQ (pend':=[⟨11,[19,24,26],[]⟩,⟨10,[19,25],[]⟩,⟨9,[7,19],[]⟩,⟨8,[0,19],[]⟩,⟨6,[19,20,21],[]⟩,⟨5,[7,19],[]⟩,⟨4,[0,19],[]⟩,⟨2,[16,17],[]⟩,⟨1,[1],[]⟩,⟨0,[7],[]⟩]) [19,23,28] Z Z Z Z Z (zha hT) (fun r1 K2 h3=>⟨?_,?_⟩)
   ·rcases h3 with ⟨rfl,rfl⟩
    all_goals simp
   obtain ⟨rfl,rfl⟩:=h3;try simp only [cA]
   refine bS tQ ?_;refine ad [[7,19,29],[14]] ?_;refine au 9 ?_;constructor<;>intro hc1
   ·rw [qB hpa hc1] at heq2;refine au 1302120 ?_;refine bL [0,1,5,6,7,8,9,10,11,12,13,14,15,2,3,4,16,17] ?_;refine ad [[1,0],[1,7],[1,0],[1,7],[9,36],[1,0],[1,7],[9,39],[2,38,40]] ?_;refine bT [41] Z (hq:=zm Z Z zi.h (mC _) (ji (i:=q) oQ oQ)) (h:=?_);refine ad [[1,0],[1,7],[2,43,44]] ?_;refine bT [45] Z (hq:=zm Z Z zi.h (mC _) (ji (i:=q+1) oQ oQ)) (h:=?_);refine ad [[2,33,34]] ?_;refine bR (pend':=[⟨12,[43,44],[]⟩,⟨11,[7],[]⟩,⟨10,[0],[]⟩,⟨4,[36],[]⟩,⟨3,[7],[]⟩,⟨2,[0],[]⟩]) [42,47] Z Z (zX Z Z zi.h Z Z mQ (jB (k:=q+1) oQ oQ)) ?_;refine ad [[2,35,37]] ?_;refine bR (pend':=[]) [46,48] Z Z (zX Z Z zi.h Z Z mQ (jC (i:=q+1) (j:=q) oQ oQ)) ?_;refine ad [[14]] ?_;refine au 3524014140 ?_;refine bA [0,1,2,6,7] ?_;refine bC [(j,_)] ?_;exact hnext1 _ _ _ oQ ⟨q,swp d2 (q+1) q,rfl,oQ,jD hs2,heq2,by rw [show ((q+1:Nat):Int) - 1=(q:Int) by omega]; rfl,rfl⟩
   rw [xZ hc1] at heq2;refine au 3523014140160 ?_;refine bA [0,1,2,6] ?_;refine bC [(j,_)] ?_;exact hnext _ _ _ oQ ⟨i+1,d2,rfl,oQ,hs2,heq2,rfl,rfl⟩
  have hpa:¬ a<p:=by simp at g4_4; omega
  rw [qa hpa] at heq2;refine ad [[11,0,19],[11,7,19],[11,19,20,21],[11,19,22],[11,0,19],[11,7,19],[11,19,25],[11,19,24,26],[11,19,27],[11,19,23,28],[6,19,29],[14]] ?_;refine au 3523014140160190 ?_;refine bA [0,1,2,6] ?_;refine bC [(j,_)] ?_;exact hnext _ _ _ oQ ⟨i+1,d2,rfl,oQ,hs2,heq2,rfl,rfl⟩
 have hib:¬ i<b:=by simp at hc0; omega
 refine au 160 ?_;refine TK.rt0 hret [(j,_)] ?_;rw [<- heq,qb hib]
theorem qr {main T} (hT:zo tp main T) {gm} {j n lo hi F:Nat} {d:Array Int} (hd:d.size=n) (hn:n<=1000) (hlo:lo<=1000) (hF:F+hi<=n) :
  zA tp T gm 218 [.sl j 0 n,intA lo,intA hi,intA F] [(j,.row (d.toList.map intA) 3 1)] (fun r K'=>K'=[(j,.row ((siftDown ltInt hi F lo d).toList.map intA) 3 1)]):=by
 refine zp 76 hT Tryz.func218 fun Y hret=>?_;refine au 13035142 ?_;refine bA [0,2,3,8] ?_;refine bE (fun n1 env K=>∃ (root:Nat) (d1:Array Int),n1=hi - root/\root<=1000/\d1.size=n/\siftDown ltInt hi F root d1=siftDown ltInt hi F lo d/\env=.sl j 0 n::.any::intA hi::intA F::naL 4 (intA root::naL 67 [])/\K=[(j,.row (d1.toList.map intA) 3 1)]) (hi - lo) ⟨lo,d,rfl,hlo,hd,rfl,rfl,rfl⟩ fun n1 env K hI hnext=>?_;obtain ⟨root,d1,rfl,hr,hs1,heq,rfl,rfl⟩:=hI;refine bG nQ ?_;refine au 142130 ?_;refine bH Z (q_mul Z Z Z oQ) ?_;refine au 2235230 ?_;rw [show 2*(root:Int)+1=((2*root+1:Nat):Int) by omega];refine au 937114 ?_;constructor<;>intro hc0
 ·have hch:hi<=2*root+1:=by simp at hc0; omega
  have hfin:d1=siftDown ltInt hi F lo d:=by rw [<- heq,jaU hch]
  refine au 160 ?_;refine TK.rt0 hret [(j,_)] ?_;rw [<- hfin]
 have hch:¬ hi<=2*root+1:=by simp at hc0; omega
 refine au 22120 ?_;refine' TK.shr (X:=Nat) (D:=fun x=>SiftC hi F root d1 x) (E:=fun x=>.sl j 0 n::.any::intA hi::intA F::naL 4 (intA root::intA x::naL 66 [])) (KK:=fun x=>[(j,.row (d1.toList.map intA) 3 1)]) ?_ ?_;rotate_left
 ·intro H;refine bL [0,1,2,3,4,5,6,7,8,9,10,11,12,13,14,15,16,17,18,19] ?_;refine ad [[1,9],[8,17],[1,2],[4,18,19],[1,20]] ?_;refine bW 21 (fun g3_5=>?_) (fun g3_5=>?_)
  ·have hg:2*root+2<hi:=by simp at g3_5; omega
   refine ad [[1,0,21],[1,3,21],[1,9,21],[8,21,23,24],[2,21,22,25]] ?_;refine bT [21,26] Z (hq:=zm Z Z zi.h (mC _) (ji (i:=F+(2*root+1)) oQ oQ)) (h:=?_);refine ad [[1,0,21],[1,3,21],[1,9,21],[8,21,29,30],[8,21,31],[2,21,28,32]] ?_;refine bT [21,33] Z (hq:=zm Z Z zi.h (mC _) (ji (i:=F+(2*root+1)+1) oQ oQ)) (h:=?_);refine bQ (pend':=[⟨16,[21,28,32],[]⟩,⟨15,[21,31],[]⟩,⟨14,[21,29,30],[]⟩,⟨13,[9,21],[]⟩,⟨12,[3,21],[]⟩,⟨11,[0,21],[]⟩,⟨9,[21,22,25],[]⟩,⟨8,[21,23,24],[]⟩,⟨7,[9,21],[]⟩,⟨6,[3,21],[]⟩,⟨5,[0,21],[]⟩,⟨3,[18,19],[]⟩,⟨2,[2],[]⟩,⟨1,[17],[]⟩,⟨0,[9],[]⟩]) [21,27,34] Z Z Z Z Z (zha hT) (fun r1 K2 h3=>⟨?_,?_⟩)
   ·rcases h3 with ⟨rfl,rfl⟩
    all_goals simp
   obtain ⟨rfl,rfl⟩:=h3;try simp only [cA]
   refine bS tQ ?_;refine ad [[7,21,35],[14]] ?_;refine au 9 ?_;constructor<;>intro hc1
   ·have hc:=jbz hch hg hc1;refine au 523014 ?_;rw [show ((2*root+1:Nat):Int)+1=((2*root+2:Nat):Int) by omega];refine au 223 ?_;refine bA [0,2,3,8,9] ?_;refine bC [(j,_)] ?_;exact H (2*root+2) hc
   have hc:=qP hch (.inr hc1);refine au 22120 ?_;refine bA [0,2,3,8,9] ?_;refine bC [(j,_)] ?_;exact H (2*root+1) hc
  have hg:¬ 2*root+2<hi:=by simp at g3_5; omega
  have hc:=qP (F:=F) (d:=d1) hch (.inl hg);refine ad [[11,0,21],[11,3,21],[11,9,21],[11,21,23,24],[11,21,22,25],[11,21,26],[11,0,21],[11,3,21],[11,9,21],[11,21,29,30],[11,21,31],[11,21,28,32],[11,21,33],[11,21,27,34],[6,21,35],[14]] ?_;refine au 22120190 ?_;refine bA [0,2,3,8,9] ?_;refine bC [(j,_)] ?_;exact H (2*root+1) hc
 ·rintro c ⟨hrc,hcl,heqc⟩; rw [heq] at heqc;refine bG nQ ?_;refine bL [0,1,2,3,4,5,6,7,8,9,10,11,12,13] ?_;refine ad [[1,0],[1,3],[1,8],[8,40,41],[2,39,42]] ?_;refine bT [43] Z (hq:=zm Z Z zi.h (mC _) (ji (i:=F+root) oQ oQ)) (h:=?_);refine ad [[1,0],[1,3],[1,9],[8,46,47],[2,45,48]] ?_;refine bT [49] Z (hq:=zm Z Z zi.h (mC _) (ji (i:=F+c) oQ oQ)) (h:=?_);refine bQ (pend':=[⟨10,[45,48],[]⟩,⟨9,[46,47],[]⟩,⟨8,[9],[]⟩,⟨7,[3],[]⟩,⟨6,[0],[]⟩,⟨4,[39,42],[]⟩,⟨3,[40,41],[]⟩,⟨2,[8],[]⟩,⟨1,[3],[]⟩,⟨0,[0],[]⟩]) [44,50] Z Z Z Z Z (zha hT) (fun r10 K11 h12=>⟨?_,?_⟩)
  ·rcases h12 with ⟨rfl,rfl⟩
   all_goals simp
  obtain ⟨rfl,rfl⟩:=h12;try simp only [cA]
  refine bS tQ ?_;refine bU [51] Z (q_not Z Z) ?_;refine ad [[14]] ?_;refine au 9 ?_;constructor<;>intro hc2
  ·have hfin:d1=siftDown ltInt hi F lo d:=by rw [heqc]; exact (if_pos hc2).symm
   refine au 0 ?_;refine bB hret [(j,_)] ?_;rw [<- hfin]
  have hq:=heqc.trans (if_neg (fun h=>absurd (hc2.symm.trans h) dQ));refine au 2120 ?_;refine bL [0,1,2,3,8,9,10,11,12,13,14,15,16,17,18,19,20,21,4,5,6,7,22,23] ?_;refine ad [[1,0],[1,3],[1,8],[8,54,55],[1,0],[1,3],[1,9],[8,58,59],[1,0],[1,3],[1,9],[8,62,63],[2,61,64]] ?_;refine bT [65] Z (hq:=zm Z Z zi.h (mC _) (ji (i:=F+c) oQ oQ)) (h:=?_);refine ad [[1,0],[1,3],[1,8],[8,68,69],[2,67,70]] ?_;refine bT [71] Z (hq:=zm Z Z zi.h (mC _) (ji (i:=F+root) oQ oQ)) (h:=?_);refine ad [[2,53,56]] ?_;refine bR (pend':=[⟨18,[67,70],[]⟩,⟨17,[68,69],[]⟩,⟨16,[8],[]⟩,⟨15,[3],[]⟩,⟨14,[0],[]⟩,⟨7,[58,59],[]⟩,⟨6,[9],[]⟩,⟨5,[3],[]⟩,⟨4,[0],[]⟩]) [66,73] Z Z (zX Z Z zi.h Z Z mQ (jB (k:=F+root) oQ oQ)) ?_;refine ad [[2,57,60]] ?_;refine bR (pend':=[]) [72,74] Z Z (zX Z Z zi.h Z Z mQ (jC (i:=F+root) (j:=F+c) oQ oQ)) ?_;refine ad [[14]] ?_;refine au 1403514 ?_;refine bA [0,2,3,8] ?_;refine bC [(j,_)] ?_;exact hnext _ _ _ oQ ⟨c,swp d1 (F+root) (F+c),rfl,oQ,jD hs1,hq.symm,rfl,rfl⟩
instance:Cal tp 218:={}
theorem jaF {main T} (hT:zo tp main T) {gm} {j n a b:Nat} {d:Array Int} (hd:d.size=n) (hn:n<=1000) (hab:a<b) (hb:b<=n) :
  zA tp T gm 189 [.sl j 0 n,intA a,intA b] [(j,.row (d.toList.map intA) 3 1)] (fun r K'=>K'=[(j,.row ((heapSort ltInt d a b).toList.map intA) 3 1)]):=by
 refine zp 56 hT Tryz.func189 fun Y hret=>?_;refine au 22352401142354235142 ?_;rw [show (b:Int) - (a:Int)=((b - a:Nat):Int) by omega];refine au 24014 ?_;refine bH Z (jM Z Z Z oQ oQ oQ) ?_;refine au 13035 ?_;refine bA [0,6,7,8,9] ?_;refine bE (fun n1 env K=>∃ (k:Nat) (d1:Array Int),n1=k/\k<=b - a/\d1.size=n/\heapPop ltInt a (b - a) (heapBuild ltInt (b - a) a k d1)=heapSort ltInt d a b/\env=.sl j 0 n::naL 5 (intA a::intA 0::intA (b - a:Nat)::intA ((k:Int) - 1)::naL 46 [])/\K=[(j,.row (d1.toList.map intA) 3 1)]) ((b - a - 1) / 2+1) ⟨(b - a - 1) / 2+1,d,rfl,oQ,hd,rfl,by rw [show (((b - a:Nat):Int) - 1) / 2=(((b - a - 1) / 2+1:Nat):Int) - 1 by omega] <;> rfl,rfl⟩ fun n1 env K hI hnext=>?_;obtain ⟨k,d1,hnk,hk,hs1,heq,rfl,rfl⟩:=hI;subst n1;refine bG nQ ?_;refine au 9371422 ?_;constructor<;>intro hc0
 ·obtain ⟨q,rfl⟩:∃ q,k=q+1:=⟨k - 1,by simp at hc0; omega⟩;rw [show ((q+1:Nat):Int) - 1=(q:Int) by omega];refine au 111141302120 ?_;refine bD Z Z Z Z (qr hT (d:=d1) (lo:=q) (hi:=b - a) (F:=a) hs1 hn oQ oQ) ?_;rintro r1 K2 rfl;refine au 35240141403 ?_;refine bA [0,6,7,8,9] ?_;refine bC [(j,_)] ?_;exact hnext _ _ _ oQ ⟨q,siftDown ltInt (b - a) a q d1,rfl,oQ,by rw [qQ]; exact hs1,heq,rfl,rfl⟩
 obtain rfl:k=0:=by simp at hc0; omega
 refine au 13035240142160 ?_;refine bA [0,6,7,8,10] ?_;refine bE (fun n1 env K=>∃ (k:Nat) (d2:Array Int),n1=k/\k<=b - a/\d2.size=n/\heapPop ltInt a k d2=heapSort ltInt d a b/\env=.sl j 0 n::naL 5 (intA a::intA 0::intA (b - a:Nat)::.any::intA ((k:Int) - 1)::naL 45 [])/\K=[(j,.row (d2.toList.map intA) 3 1)]) (b - a) ⟨b - a,d1,rfl,mL _,hs1,heq,rfl,rfl⟩ fun n1 env K hI hnext1=>?_;obtain ⟨k,d2,hnk2,hk2,hs2,heq2,rfl,rfl⟩:=hI;subst n1;refine bG nQ ?_;refine au 9371422 ?_;constructor<;>intro hc1
 ·obtain ⟨q,rfl⟩:∃ q,k=q+1:=⟨k - 1,by simp at hc1; omega⟩;rw [show ((q+1:Nat):Int) - 1=(q:Int) by omega];refine au 21302120 ?_;refine bL [0,1,6,7,8,9,10,11,12,13,14,15,16,17,2,3,4,5,18,19] ?_;refine ad [[1,0],[1,6],[1,0],[1,6],[1,10],[8,36,37],[1,0],[1,6],[1,10],[8,40,41],[2,39,42]] ?_;refine bT [43] Z (hq:=zm Z Z zi.h (mC _) (ji (i:=a+q) oQ oQ)) (h:=?_);refine ad [[1,0],[1,6],[2,45,46]] ?_;refine bT [47] Z (hq:=zm Z Z zi.h (mC _) (ji (i:=a) oQ oQ)) (h:=?_);refine ad [[2,33,34]] ?_;refine bR (pend':=[⟨14,[45,46],[]⟩,⟨13,[6],[]⟩,⟨12,[0],[]⟩,⟨5,[36,37],[]⟩,⟨4,[10],[]⟩,⟨3,[6],[]⟩,⟨2,[0],[]⟩]) [44,49] Z Z (zX Z Z zi.h Z Z mQ (jB (k:=a) oQ oQ)) ?_;refine ad [[2,35,38]] ?_;refine bR (pend':=[]) [48,50] Z Z (zX Z Z zi.h Z Z mQ (jC (i:=a) (j:=a+q) oQ oQ)) ?_;refine ad [[14]] ?_;refine au 11114 ?_;refine bD Z Z Z Z (qr hT (d:=swp d2 a (a+q)) (lo:=0) (hi:=q) (F:=a) (jD hs2) hn oQ oQ) ?_;rintro r4 K5 rfl;refine au 35240141403 ?_;refine bA [0,6,7,8,10] ?_;refine bC [(j,_)] ?_;exact hnext1 _ _ _ oQ ⟨q,siftDown ltInt q a 0 (swp d2 a (a+q)),rfl,oQ,by rw [qQ]; exact jD hs2,heq2,rfl,rfl⟩
 obtain rfl:k=0:=by simp at hc1; omega
 refine au 160 ?_;refine TK.rt0 hret [(j,_)] ?_;rw [<- heq2]; rfl
end Go.Vel
namespace Go.Vel
open Go Go.Conc Go.Sort
section
variable {p:Int->Bool} {a b i j q u v u2 v2 pv:Nat} {d d1 d2:Array Int}
theorem up_go (h:i<=j) (hp:p d[i]! =true):scanUp p d j i=scanUp p d j (i+1):=by
 conv=>lhs; unfold scanUp
 rw [if_pos (by simp [h,hp])]
theorem jV (h:¬ i<=j\/p d[i]! =false):scanUp p d j i=i:=by
 unfold scanUp;rw [if_neg (by rcases h with h | h <;> simp [h])]
theorem xD (h:i<=q+1) (hp:p d[q+1]! =true):scanDown p d i (q+1)=scanDown p d i q:=by
 conv=>lhs; unfold scanDown
 rw [if_pos (by simp [h,hp])]
theorem jE (h:¬ i<=q\/p d[q]! =false):scanDown p d i q=q:=by
 cases q with
 | zero=>rfl
 | succ q =>
  unfold scanDown;rw [if_neg (by rcases h with h | h <;> simp [h])]
theorem jbH (hd:d1=swp d a pv) (hu:scanUp (fun x=>ltInt x d1[a]!) d1 (b - 1) (a+1)=u) (hv:scanDown (fun x => !ltInt x d1[a]!) d1 u (b - 1)=v) (h:v<u):partition ltInt d a b pv=(v,true,swp d1 v a):=by
 subst hd;unfold partition;simp only [];rw [hu,hv,if_pos h]
theorem jbI (hd:d1=swp d a pv) (hu:scanUp (fun x=>ltInt x d1[a]!) d1 (b - 1) (a+1)=u) (hv:scanDown (fun x => !ltInt x d1[a]!) d1 u (b - 1)=v) (h:¬ v<u) (hl:partLoop ltInt a (u+1) (v - 1) (swp d1 u v)=(v2,d2)):partition ltInt d a b pv=(v2,false,swp d2 v2 a):=by
 subst hd;unfold partition;simp only [];rw [hu,hv,if_neg h,hl]
theorem jbK (hu:scanUp (fun x=>ltInt x d[a]!) d v u=u2) (hv:scanDown (fun x => !ltInt x d[a]!) d u2 v=v2) (h:v2<u2):partLoop ltInt a u v d=(v2,d):=by
 rw [partLoop_eq,hu,hv];exact if_pos h
theorem pl_go (hu:scanUp (fun x=>ltInt x d[a]!) d v u=u2) (hv:scanDown (fun x => !ltInt x d[a]!) d u2 v=v2) (h:¬ v2<u2):partLoop ltInt a u v d=partLoop ltInt a (u2+1) (v2 - 1) (swp d u2 v2):=by
 conv=>lhs; rw [partLoop_eq,hu,hv]
 exact if_neg h
theorem jbJ (hu:scanUp (fun x => !ltInt d[a]! x) d v u=u2) (hv:scanDown (fun x=>ltInt d[a]! x) d u2 v=v2) (h:v2<u2):partEqLoop ltInt a u v d=(u2,d):=by
 rw [partEqLoop_eq,hu,hv];exact if_pos h
theorem pe_go (hu:scanUp (fun x => !ltInt d[a]! x) d v u=u2) (hv:scanDown (fun x=>ltInt d[a]! x) d u2 v=v2) (h:¬ v2<u2):partEqLoop ltInt a u v d=partEqLoop ltInt a (u2+1) (v2 - 1) (swp d u2 v2):=by
 conv=>lhs; rw [partEqLoop_eq,hu,hv]
 exact if_neg h
end
end Go.Vel
namespace Go.Vel
open Go Go.Conc Go.Proofs
open Go.Sort
theorem jaM {main T} (hT:zo tp main T) {gm} {j n a b pv:Nat} {d:Array Int} (hd:d.size=n) (hn:n<=1000) (ha:a<=pv) (hpv:pv<b) (hb:b<=n) :
  zA tp T gm 196 [.sl j 0 n,intA a,intA b,intA pv] [(j,.row (d.toList.map intA) 3 1)] (fun r K'=>∃ p,partition ltInt d a b pv=p/\r=.tup [intA p.1,zP p.2.1]/\K'=[(j,.row (p.2.2.toList.map intA) 3 1)]):=by
 refine zp 168 hT Tryz.func196 fun Y hret=>?_;refine au 235542 ?_;refine bL [0,1,4,5,6,7,8,9,10,11,12,13,2,3,14,15] ?_;refine ad [[1,0],[1,1],[1,0],[1,3],[1,0],[1,3],[2,16,17]] ?_;refine bT [18] Z (hq:=zm Z Z zi.h (mC _) (ji (i:=pv) oQ oQ)) (h:=?_);refine ad [[1,0],[1,1],[2,20,21]] ?_;refine bT [22] Z (hq:=zm Z Z zi.h (mC _) (ji (i:=a) oQ oQ)) (h:=?_);refine ad [[2,12,13]] ?_;refine bR (pend':=[⟨10,[20,21],[]⟩,⟨9,[1],[]⟩,⟨8,[0],[]⟩,⟨3,[3],[]⟩,⟨2,[0],[]⟩]) [19,24] Z Z (zX Z Z zi.h Z Z mQ (jB (k:=a) oQ oQ)) ?_;refine ad [[2,14,15]] ?_;refine bR (pend':=[]) [23,25] Z Z (zX Z Z zi.h Z Z mQ (jC (i:=a) (j:=pv) oQ oQ)) ?_;refine ad [[14]] ?_;refine au 2 ?_;obtain ⟨d1,hd1⟩:∃ d1,d1=swp d a pv:=⟨_,rfl⟩;rw [<- hd1];have hs1:d1.size=n:=by rw [hd1]; exact jD hd
 refine au 1302355240123014 ?_;refine bA [0,1,10,11] ?_;refine bE (fun n1 env K=>∃ (u:Nat),n1=b - u/\a+1<=u/\u<=b/\scanUp (fun x=>ltInt x d1[a]!) d1 (b - 1) u=scanUp (fun x=>ltInt x d1[a]!) d1 (b - 1) (a+1)/\env=.sl j 0 n::intA a::naL 8 (intA u::intA (b - 1:Nat)::naL 156 [])/\K=[(j,.row (d1.toList.map intA) 3 1)]) (b - (a+1)) ⟨a+1,rfl,mL _,oQ,rfl,by rw [show (b:Int) - 1=((b - 1:Nat):Int) by omega] <;> rfl,rfl⟩ fun n1 env K hI hnextu=>?_;obtain ⟨u,rfl,hu0,hub,heqs,rfl,rfl⟩:=hI;refine bG nQ ?_;refine au 22 ?_;refine' TK.shr (X:=Unit) (D:=fun x=>scanUp (fun x=>ltInt x d1[a]!) d1 (b - 1) (a+1)=u) (E:=fun x=>.sl j 0 n::intA a::naL 8 (intA u::intA (b - 1:Nat)::naL 156 [])) (KK:=fun x=>[(j,.row (d1.toList.map intA) 3 1)]) ?_ ?_;rotate_left
 ·intro H;refine bL [0,1,2,3,4,5,6,7,8,9,10,11,12,13] ?_;refine ad [[1,10],[1,11],[4,30,31],[1,32]] ?_;refine bW 33 (fun g3_4=>?_) (fun g3_4=>?_)
  ·have hg:u<=b - 1:=by simp at g3_4; omega
   refine ad [[1,0,33],[1,10,33],[2,33,34,35]] ?_;refine bT [33,36] Z (hq:=zm Z Z zi.h (mC _) (ji (i:=u) oQ oQ)) (h:=?_);refine ad [[1,0,33],[1,1,33],[2,33,38,39]] ?_;refine bT [33,40] Z (hq:=zm Z Z zi.h (mC _) (ji (i:=a) oQ oQ)) (h:=?_);refine bQ (pend':=[⟨10,[33,38,39],[]⟩,⟨9,[1,33],[]⟩,⟨8,[0,33],[]⟩,⟨6,[33,34,35],[]⟩,⟨5,[10,33],[]⟩,⟨4,[0,33],[]⟩,⟨2,[30,31],[]⟩,⟨1,[11],[]⟩,⟨0,[10],[]⟩]) [33,37,41] Z Z Z Z Z (zha hT) (fun r1 K2 h3=>⟨?_,?_⟩)
   ·rcases h3 with ⟨rfl,rfl⟩
    all_goals simp
   obtain ⟨rfl,rfl⟩:=h3;try simp only [cA]
   refine bS tQ ?_;refine ad [[7,33,42],[14]] ?_;refine au 9 ?_;constructor<;>intro hc0
   ·rw [up_go (p:=(fun x=>ltInt x d1[a]!)) hg hc0] at heqs;refine au 1403523014130120 ?_;refine bA [0,1,10,11] ?_;refine bC [(j,_)] ?_;exact hnextu _ _ _ oQ ⟨u+1,rfl,oQ,oQ,heqs,rfl,rfl⟩
   have hfin:scanUp (fun x=>ltInt x d1[a]!) d1 (b - 1) (a+1)=u:=by rw [<- heqs]; exact jV (p:=(fun x=>ltInt x d1[a]!)) (.inr hc0)
   refine au 1302160 ?_;refine bA [0,1,10,11] ?_;refine bA [0,1,10,11] ?_;refine bC [(j,_)] ?_;exact H () hfin
  have hfin:scanUp (fun x=>ltInt x d1[a]!) d1 (b - 1) (a+1)=u:=by rw [<- heqs]; exact jV (.inl (by simp at g3_4; omega))
  refine ad [[11,0,33],[11,10,33],[11,33,34,35],[11,33,36],[11,0,33],[11,1,33],[11,33,38,39],[11,33,40],[11,33,37,41],[6,33,42],[14]] ?_;refine au 1302160190 ?_;refine bA [0,1,10,11] ?_;refine bA [0,1,10,11] ?_;refine bC [(j,_)] ?_;exact H () hfin
 ·rintro _ hup;refine bG nQ ?_;refine bE (fun n1 env K=>∃ (v:Nat),n1=v/\v<=b - 1/\scanDown (fun x => !ltInt x d1[a]!) d1 u v=scanDown (fun x => !ltInt x d1[a]!) d1 u (b - 1)/\env=.sl j 0 n::intA a::naL 8 (intA u::intA v::naL 156 [])/\K=[(j,.row (d1.toList.map intA) 3 1)]) (b - 1) ⟨b - 1,rfl,mL _,rfl,rfl,rfl⟩ fun n1 env K hI hnextv=>?_;obtain ⟨v,hnv,hvb,heqs,rfl,rfl⟩:=hI;subst n1;refine bG nQ ?_;refine au 22 ?_;refine' TK.shr (X:=Unit) (D:=fun x=>scanDown (fun x => !ltInt x d1[a]!) d1 u (b - 1)=v) (E:=fun x=>.sl j 0 n::intA a::naL 8 (intA u::intA v::naL 156 [])) (KK:=fun x=>[(j,.row (d1.toList.map intA) 3 1)]) ?_ ?_;rotate_left
  ·intro H;refine bL [0,1,2,3,4,5,6,7,8,9,10,11,12,13,14] ?_;refine ad [[1,10],[1,11],[4,46,47],[1,48]] ?_;refine bW 49 (fun g5_4=>?_) (fun g5_4=>?_)
   ·have hg:u<=v:=by simp at g5_4; omega
    obtain ⟨q,rfl⟩:∃ q,v=q+1:=⟨v - 1,oQ⟩;refine ad [[1,0,49],[1,11,49],[2,49,50,51]] ?_;refine bT [49,52] Z (hq:=zm Z Z zi.h (mC _) (ji (i:=q+1) oQ oQ)) (h:=?_);refine ad [[1,0,49],[1,1,49],[2,49,54,55]] ?_;refine bT [49,56] Z (hq:=zm Z Z zi.h (mC _) (ji (i:=a) oQ oQ)) (h:=?_);refine bQ (pend':=[⟨10,[49,54,55],[]⟩,⟨9,[1,49],[]⟩,⟨8,[0,49],[]⟩,⟨6,[49,50,51],[]⟩,⟨5,[11,49],[]⟩,⟨4,[0,49],[]⟩,⟨2,[46,47],[]⟩,⟨1,[11],[]⟩,⟨0,[10],[]⟩]) [49,53,57] Z Z Z Z Z (zha hT) (fun r25 K26 h27=>⟨?_,?_⟩)
    ·rcases h27 with ⟨rfl,rfl⟩
     all_goals simp
    obtain ⟨rfl,rfl⟩:=h27;try simp only [cA]
    refine bS tQ ?_;refine bU [49,58] Z (q_not Z Z) ?_;refine ad [[7,49,59],[14]] ?_;refine au 9 ?_;constructor<;>intro hc1
    ·rw [xD (p:=(fun x => !ltInt x d1[a]!)) hg hc1] at heqs;refine au 1403524014130120 ?_;refine bA [0,1,10,11] ?_;refine bC [(j,_)] ?_;exact hnextv _ _ _ oQ ⟨q,rfl,oQ,heqs,by rw [show ((q+1:Nat):Int) - 1=(q:Int) by omega]; rfl,rfl⟩
    have hfin:scanDown (fun x => !ltInt x d1[a]!) d1 u (b - 1)=q+1:=by rw [<- heqs]; exact jE (p:=(fun x => !ltInt x d1[a]!)) (.inr hc1)
    refine au 22160 ?_;refine bA [0,1,10,11] ?_;refine bC [(j,_)] ?_;exact H () hfin
   have hfin:scanDown (fun x => !ltInt x d1[a]!) d1 u (b - 1)=v:=by rw [<- heqs]; exact jE (.inl (by simp at g5_4; omega))
   refine ad [[11,0,49],[11,11,49],[11,49,50,51],[11,49,52],[11,0,49],[11,1,49],[11,49,54,55],[11,49,56],[11,49,53,57],[11,49,58],[6,49,59],[14]] ?_;refine au 22160190 ?_;refine bA [0,1,10,11] ?_;refine bC [(j,_)] ?_;exact H () hfin
  ·rintro _ hdn;refine bG nQ ?_;refine au 937114 ?_;constructor<;>intro hc2
   ·have hlt:v<u:=by simp at hc2; omega
    refine au 2 ?_;refine bL [0,1,4,5,6,7,8,9,10,11,12,13,2,3,14,15] ?_;refine ad [[1,0],[1,11],[1,0],[1,1],[1,0],[1,1],[2,70,71]] ?_;refine bT [72] Z (hq:=zm Z Z zi.h (mC _) (ji (i:=a) oQ oQ)) (h:=?_);refine ad [[1,0],[1,11],[2,74,75]] ?_;refine bT [76] Z (hq:=zm Z Z zi.h (mC _) (ji (i:=v) oQ oQ)) (h:=?_);refine ad [[2,66,67]] ?_;refine bR (pend':=[⟨10,[74,75],[]⟩,⟨9,[11],[]⟩,⟨8,[0],[]⟩,⟨3,[1],[]⟩,⟨2,[0],[]⟩]) [73,78] Z Z (zX Z Z zi.h Z Z mQ (jB (k:=v) oQ oQ)) ?_;refine ad [[2,68,69]] ?_;refine bR (pend':=[]) [77,79] Z Z (zX Z Z zi.h Z Z mQ (jC (i:=v) (j:=a) oQ oQ)) ?_;refine ad [[14]] ?_;refine au 355142 ?_;refine bB hret [(j,_)] ?_;exact ⟨_,jbH hd1 hup hdn hlt,rfl,rfl⟩
   have hge:¬ v<u:=by simp at hc2; omega
   refine au 2120 ?_;refine bL [0,1,4,5,6,7,8,9,10,11,12,13,2,3,14,15] ?_;refine ad [[1,0],[1,10],[1,0],[1,11],[1,0],[1,11],[2,85,86]] ?_;refine bT [87] Z (hq:=zm Z Z zi.h (mC _) (ji (i:=v) oQ oQ)) (h:=?_);refine ad [[1,0],[1,10],[2,89,90]] ?_;refine bT [91] Z (hq:=zm Z Z zi.h (mC _) (ji (i:=u) oQ oQ)) (h:=?_);refine ad [[2,81,82]] ?_;refine bR (pend':=[⟨10,[89,90],[]⟩,⟨9,[10],[]⟩,⟨8,[0],[]⟩,⟨3,[11],[]⟩,⟨2,[0],[]⟩]) [88,93] Z Z (zX Z Z zi.h Z Z mQ (jB (k:=u) oQ oQ)) ?_;refine ad [[2,83,84]] ?_;refine bR (pend':=[]) [92,94] Z Z (zX Z Z zi.h Z Z mQ (jC (i:=u) (j:=v) oQ oQ)) ?_;refine ad [[14]] ?_;refine au 13023524014235230142 ?_;refine bA [0,1,10,11] ?_;obtain ⟨u0,hu0e⟩:∃ u0,u0=u:=⟨_,rfl⟩;obtain ⟨v0,hv0e⟩:∃ v0,v0=v:=⟨_,rfl⟩;have hup0:=hup;have hdn0:=hdn;have hge0:=hge;rw [<- hu0e,<- hv0e] at hdn0 hge0;rw [<- hu0e] at hup0;refine bE (fun n1 env K=>∃ (u2 v2:Nat) (d2:Array Int),n1=v2+1 - u2/\a<u2/\u2<=b/\v2<b/\d2.size=n/\partLoop ltInt a u2 v2 d2=partLoop ltInt a (u0+1) (v0 - 1) (swp d1 u0 v0)/\env=.sl j 0 n::intA a::naL 8 (intA u2::intA v2::naL 156 [])/\K=[(j,.row (d2.toList.map intA) 3 1)]) (v - 1+1 - (u+1)) ⟨u+1,v - 1,swp d1 u v,rfl,oQ,oQ,oQ,jD hs1,by rw [hu0e,hv0e],by rw [show (v:Int) - 1=((v - 1:Nat):Int) by omega] <;> rfl,rfl⟩ fun n1 env K hI hnext2=>?_;clear hup hdn hge;obtain ⟨u2,v2,d2,rfl,hau,hub2,hvb2,hs2,heq2,rfl,rfl⟩:=hI;refine bG nQ ?_;refine au 1302130 ?_;refine bA [0,1,10,11] ?_;refine bE (fun n1 env K=>∃ (u:Nat),n1=b - u/\u2<=u/\u<=b/\scanUp (fun x=>ltInt x d2[a]!) d2 (v2) u=scanUp (fun x=>ltInt x d2[a]!) d2 (v2) (u2)/\env=.sl j 0 n::intA a::naL 8 (intA u::intA v2::naL 156 [])/\K=[(j,.row (d2.toList.map intA) 3 1)]) (b - (u2)) ⟨u2,rfl,mL _,oQ,rfl,rfl,rfl⟩ fun n1 env K hI hnextu=>?_;obtain ⟨u,rfl,hu0,hub,heqs,rfl,rfl⟩:=hI;refine bG nQ ?_;refine au 22 ?_;refine' TK.shr (X:=Unit) (D:=fun x=>scanUp (fun x=>ltInt x d2[a]!) d2 (v2) (u2)=u) (E:=fun x=>.sl j 0 n::intA a::naL 8 (intA u::intA v2::naL 156 [])) (KK:=fun x=>[(j,.row (d2.toList.map intA) 3 1)]) ?_ ?_;rotate_left
   ·intro H;refine bL [0,1,2,3,4,5,6,7,8,9,10,11,12,13] ?_;refine ad [[1,10],[1,11],[4,99,100],[1,101]] ?_;refine bW 102 (fun g13_4=>?_) (fun g13_4=>?_)
    ·have hg:u<=v2:=by simp at g13_4; omega
     refine ad [[1,0,102],[1,10,102],[2,102,103,104]] ?_;refine bT [102,105] Z (hq:=zm Z Z zi.h (mC _) (ji (i:=u) oQ oQ)) (h:=?_);refine ad [[1,0,102],[1,1,102],[2,102,107,108]] ?_;refine bT [102,109] Z (hq:=zm Z Z zi.h (mC _) (ji (i:=a) oQ oQ)) (h:=?_);refine bQ (pend':=[⟨10,[102,107,108],[]⟩,⟨9,[1,102],[]⟩,⟨8,[0,102],[]⟩,⟨6,[102,103,104],[]⟩,⟨5,[10,102],[]⟩,⟨4,[0,102],[]⟩,⟨2,[99,100],[]⟩,⟨1,[11],[]⟩,⟨0,[10],[]⟩]) [102,106,110] Z Z Z Z Z (zha hT) (fun r37 K38 h39=>⟨?_,?_⟩)
     ·rcases h39 with ⟨rfl,rfl⟩
      all_goals simp
     obtain ⟨rfl,rfl⟩:=h39;try simp only [cA]
     refine bS tQ ?_;refine ad [[7,102,111],[14]] ?_;refine au 9 ?_;constructor<;>intro hc3
     ·rw [up_go (p:=(fun x=>ltInt x d2[a]!)) hg hc3] at heqs;refine au 1403523014130120 ?_;refine bA [0,1,10,11] ?_;refine bC [(j,_)] ?_;exact hnextu _ _ _ oQ ⟨u+1,rfl,oQ,oQ,heqs,rfl,rfl⟩
     have hfin:scanUp (fun x=>ltInt x d2[a]!) d2 (v2) (u2)=u:=by rw [<- heqs]; exact jV (p:=(fun x=>ltInt x d2[a]!)) (.inr hc3)
     refine au 1302160 ?_;refine bA [0,1,10,11] ?_;refine bA [0,1,10,11] ?_;refine bC [(j,_)] ?_;exact H () hfin
    have hfin:scanUp (fun x=>ltInt x d2[a]!) d2 (v2) (u2)=u:=by rw [<- heqs]; exact jV (.inl (by simp at g13_4; omega))
    refine ad [[11,0,102],[11,10,102],[11,102,103,104],[11,102,105],[11,0,102],[11,1,102],[11,102,107,108],[11,102,109],[11,102,106,110],[6,102,111],[14]] ?_;refine au 1302160190 ?_;refine bA [0,1,10,11] ?_;refine bA [0,1,10,11] ?_;refine bC [(j,_)] ?_;exact H () hfin
   ·rintro _ hup;refine bG nQ ?_;refine bE (fun n1 env K=>∃ (v:Nat),n1=v/\v<=v2/\scanDown (fun x => !ltInt x d2[a]!) d2 u v=scanDown (fun x => !ltInt x d2[a]!) d2 u (v2)/\env=.sl j 0 n::intA a::naL 8 (intA u::intA v::naL 156 [])/\K=[(j,.row (d2.toList.map intA) 3 1)]) (v2) ⟨v2,rfl,mL _,rfl,rfl,rfl⟩ fun n1 env K hI hnextv=>?_;obtain ⟨v,hnv,hvb,heqs,rfl,rfl⟩:=hI;subst n1;refine bG nQ ?_;refine au 22 ?_;refine' TK.shr (X:=Unit) (D:=fun x=>scanDown (fun x => !ltInt x d2[a]!) d2 u (v2)=v) (E:=fun x=>.sl j 0 n::intA a::naL 8 (intA u::intA v::naL 156 [])) (KK:=fun x=>[(j,.row (d2.toList.map intA) 3 1)]) ?_ ?_;rotate_left
    ·intro H;refine bL [0,1,2,3,4,5,6,7,8,9,10,11,12,13,14] ?_;refine ad [[1,10],[1,11],[4,115,116],[1,117]] ?_;refine bW 118 (fun g15_4=>?_) (fun g15_4=>?_)
     ·have hg:u<=v:=by simp at g15_4; omega
      obtain ⟨q,rfl⟩:∃ q,v=q+1:=⟨v - 1,oQ⟩;refine ad [[1,0,118],[1,11,118],[2,118,119,120]] ?_;refine bT [118,121] Z (hq:=zm Z Z zi.h (mC _) (ji (i:=q+1) oQ oQ)) (h:=?_);refine ad [[1,0,118],[1,1,118],[2,118,123,124]] ?_;refine bT [118,125] Z (hq:=zm Z Z zi.h (mC _) (ji (i:=a) oQ oQ)) (h:=?_);refine bQ (pend':=[⟨10,[118,123,124],[]⟩,⟨9,[1,118],[]⟩,⟨8,[0,118],[]⟩,⟨6,[118,119,120],[]⟩,⟨5,[11,118],[]⟩,⟨4,[0,118],[]⟩,⟨2,[115,116],[]⟩,⟨1,[11],[]⟩,⟨0,[10],[]⟩]) [118,122,126] Z Z Z Z Z (zha hT) (fun r43 K44 h45=>⟨?_,?_⟩)
      ·rcases h45 with ⟨rfl,rfl⟩
       all_goals simp
      obtain ⟨rfl,rfl⟩:=h45;try simp only [cA]
      refine bS tQ ?_;refine bU [118,127] Z (q_not Z Z) ?_;refine ad [[7,118,128],[14]] ?_;refine au 9 ?_;constructor<;>intro hc4
      ·rw [xD (p:=(fun x => !ltInt x d2[a]!)) hg hc4] at heqs;refine au 1403524014130120 ?_;refine bA [0,1,10,11] ?_;refine bC [(j,_)] ?_;exact hnextv _ _ _ oQ ⟨q,rfl,oQ,heqs,by rw [show ((q+1:Nat):Int) - 1=(q:Int) by omega]; rfl,rfl⟩
      have hfin:scanDown (fun x => !ltInt x d2[a]!) d2 u (v2)=q+1:=by rw [<- heqs]; exact jE (p:=(fun x => !ltInt x d2[a]!)) (.inr hc4)
      refine au 22160 ?_;refine bA [0,1,10,11] ?_;refine bC [(j,_)] ?_;exact H () hfin
     have hfin:scanDown (fun x => !ltInt x d2[a]!) d2 u (v2)=v:=by rw [<- heqs]; exact jE (.inl (by simp at g15_4; omega))
     refine ad [[11,0,118],[11,11,118],[11,118,119,120],[11,118,121],[11,0,118],[11,1,118],[11,118,123,124],[11,118,125],[11,118,122,126],[11,118,127],[6,118,128],[14]] ?_;refine au 22160190 ?_;refine bA [0,1,10,11] ?_;refine bC [(j,_)] ?_;exact H () hfin
    ·rintro _ hdn;refine bG nQ ?_;refine au 937114 ?_;constructor<;>intro hc5
     ·have hlt:v<u:=by simp at hc5; omega
      refine au 2160 ?_;refine bL [0,1,4,5,6,7,8,9,10,11,12,13,2,3,14,15] ?_;refine ad [[1,0],[1,11],[1,0],[1,1],[1,0],[1,1],[2,157,158]] ?_;refine bT [159] Z (hq:=zm Z Z zi.h (mC _) (ji (i:=a) oQ oQ)) (h:=?_);refine ad [[1,0],[1,11],[2,161,162]] ?_;refine bT [163] Z (hq:=zm Z Z zi.h (mC _) (ji (i:=v) oQ oQ)) (h:=?_);refine ad [[2,153,154]] ?_;refine bR (pend':=[⟨10,[161,162],[]⟩,⟨9,[11],[]⟩,⟨8,[0],[]⟩,⟨3,[1],[]⟩,⟨2,[0],[]⟩]) [160,165] Z Z (zX Z Z zi.h Z Z mQ (jB (k:=v) oQ oQ)) ?_;refine ad [[2,155,156]] ?_;refine bR (pend':=[]) [164,166] Z Z (zX Z Z zi.h Z Z mQ (jC (i:=v) (j:=a) oQ oQ)) ?_;refine ad [[14]] ?_;refine au 355142 ?_;refine bB hret [(j,_)] ?_;exact ⟨_,jbI hd1 hup0 hdn0 hge0 (heq2.symm.trans (jbK hup hdn hlt)),rfl,rfl⟩
     have hge:¬ v<u:=by simp at hc5; omega
     refine au 2120 ?_;refine bL [0,1,4,5,6,7,8,9,10,11,12,13,2,3,14,15] ?_;refine ad [[1,0],[1,10],[1,0],[1,11],[1,0],[1,11],[2,139,140]] ?_;refine bT [141] Z (hq:=zm Z Z zi.h (mC _) (ji (i:=v) oQ oQ)) (h:=?_);refine ad [[1,0],[1,10],[2,143,144]] ?_;refine bT [145] Z (hq:=zm Z Z zi.h (mC _) (ji (i:=u) oQ oQ)) (h:=?_);refine ad [[2,135,136]] ?_;refine bR (pend':=[⟨10,[143,144],[]⟩,⟨9,[10],[]⟩,⟨8,[0],[]⟩,⟨3,[11],[]⟩,⟨2,[0],[]⟩]) [142,147] Z Z (zX Z Z zi.h Z Z mQ (jB (k:=u) oQ oQ)) ?_;refine ad [[2,137,138]] ?_;refine bR (pend':=[]) [146,148] Z Z (zX Z Z zi.h Z Z mQ (jC (i:=u) (j:=v) oQ oQ)) ?_;refine ad [[14]] ?_;refine au 140352401435230142 ?_;refine bA [0,1,10,11] ?_;refine bC [(j,_)] ?_;exact hnext2 _ _ _ oQ ⟨u+1,v - 1,swp d2 u v,rfl,oQ,oQ,oQ,jD hs2,(pl_go hup hdn hge).symm.trans heq2,by rw [show (v:Int) - 1=((v - 1:Nat):Int) by omega] <;> rfl,rfl⟩
theorem jbM {u v:Nat} {d:Array Int} (h:u<v):reverseLoop u v d=reverseLoop (u+1) (v - 1) (swp d u v):=by
 conv=>lhs; unfold reverseLoop
 rw [if_pos h]
theorem jbv {u v:Nat} {d:Array Int} (h:¬ u<v):reverseLoop u v d=d:=by unfold reverseLoop; rw [if_neg h]
theorem jab {main T} (hT:zo tp main T) {gm} {j n a b pv:Nat} {d:Array Int} (hd:d.size=n) (hn:n<=1000) (ha:a<=pv) (hpv:pv<b) (hb:b<=n) :
  zA tp T gm 195 [.sl j 0 n,intA a,intA b,intA pv] [(j,.row (d.toList.map intA) 3 1)] (fun r K'=>∃ p,partitionEqual ltInt d a b pv=p/\r=intA p.1/\K'=[(j,.row (p.2.toList.map intA) 3 1)]):=by
 refine zp 84 hT Tryz.func195 fun Y hret=>?_;refine au 23542 ?_;refine bL [0,1,4,5,6,7,8,9,10,11,12,13,2,3,14,15] ?_;refine ad [[1,0],[1,1],[1,0],[1,3],[1,0],[1,3],[2,15,16]] ?_;refine bT [17] Z (hq:=zm Z Z zi.h (mC _) (ji (i:=pv) oQ oQ)) (h:=?_);refine ad [[1,0],[1,1],[2,19,20]] ?_;refine bT [21] Z (hq:=zm Z Z zi.h (mC _) (ji (i:=a) oQ oQ)) (h:=?_);refine ad [[2,11,12]] ?_;refine bR (pend':=[⟨10,[19,20],[]⟩,⟨9,[1],[]⟩,⟨8,[0],[]⟩,⟨3,[3],[]⟩,⟨2,[0],[]⟩]) [18,23] Z Z (zX Z Z zi.h Z Z mQ (jB (k:=a) oQ oQ)) ?_;refine ad [[2,13,14]] ?_;refine bR (pend':=[]) [22,24] Z Z (zX Z Z zi.h Z Z mQ (jC (i:=a) (j:=pv) oQ oQ)) ?_;refine ad [[14]] ?_;refine au 13023552401230142 ?_;refine bA [0,1,9,10] ?_;refine bE (fun n1 env K=>∃ (u2 v2:Nat) (d2:Array Int),n1=v2+1 - u2/\a<u2/\u2<=b/\v2<b/\d2.size=n/\partEqLoop ltInt a u2 v2 d2=partitionEqual ltInt d a b pv/\env=.sl j 0 n::intA a::naL 7 (intA u2::intA v2::naL 73 [])/\K=[(j,.row (d2.toList.map intA) 3 1)]) (b - 1+1 - (a+1)) ⟨a+1,b - 1,swp d a pv,rfl,oQ,oQ,oQ,jD hd,rfl,by rw [show (b:Int) - 1=((b - 1:Nat):Int) by omega] <;> rfl,rfl⟩ fun n1 env K hI hnext2=>?_;obtain ⟨u2,v2,d2,rfl,hau,hub2,hvb2,hs2,heq2,rfl,rfl⟩:=hI;refine bG nQ ?_;refine au 1302130 ?_;refine bA [0,1,9,10] ?_;refine bE (fun n1 env K=>∃ (u:Nat),n1=b - u/\u2<=u/\u<=b/\scanUp (fun x => !ltInt d2[a]! x) d2 (v2) u=scanUp (fun x => !ltInt d2[a]! x) d2 (v2) (u2)/\env=.sl j 0 n::intA a::naL 7 (intA u::intA v2::naL 73 [])/\K=[(j,.row (d2.toList.map intA) 3 1)]) (b - (u2)) ⟨u2,rfl,mL _,oQ,rfl,rfl,rfl⟩ fun n1 env K hI hnextu=>?_;obtain ⟨u,rfl,hu0,hub,heqs,rfl,rfl⟩:=hI;refine bG nQ ?_;refine au 22 ?_;refine' TK.shr (X:=Unit) (D:=fun x=>scanUp (fun x => !ltInt d2[a]! x) d2 (v2) (u2)=u) (E:=fun x=>.sl j 0 n::intA a::naL 7 (intA u::intA v2::naL 73 [])) (KK:=fun x=>[(j,.row (d2.toList.map intA) 3 1)]) ?_ ?_;rotate_left
 ·intro H;refine bL [0,1,2,3,4,5,6,7,8,9,10,11,12,13,14] ?_;refine ad [[1,9],[1,10],[4,29,30],[1,31]] ?_;refine bW 32 (fun g3_4=>?_) (fun g3_4=>?_)
  ·have hg:u<=v2:=by simp at g3_4; omega
   refine ad [[1,0,32],[1,1,32],[2,32,33,34]] ?_;refine bT [32,35] Z (hq:=zm Z Z zi.h (mC _) (ji (i:=a) oQ oQ)) (h:=?_);refine ad [[1,0,32],[1,9,32],[2,32,37,38]] ?_;refine bT [32,39] Z (hq:=zm Z Z zi.h (mC _) (ji (i:=u) oQ oQ)) (h:=?_);refine bQ (pend':=[⟨10,[32,37,38],[]⟩,⟨9,[9,32],[]⟩,⟨8,[0,32],[]⟩,⟨6,[32,33,34],[]⟩,⟨5,[1,32],[]⟩,⟨4,[0,32],[]⟩,⟨2,[29,30],[]⟩,⟨1,[10],[]⟩,⟨0,[9],[]⟩]) [32,36,40] Z Z Z Z Z (zha hT) (fun r1 K2 h3=>⟨?_,?_⟩)
   ·rcases h3 with ⟨rfl,rfl⟩
    all_goals simp
   obtain ⟨rfl,rfl⟩:=h3;try simp only [cA]
   refine bS tQ ?_;refine bU [32,41] Z (q_not Z Z) ?_;refine ad [[7,32,42],[14]] ?_;refine au 9 ?_;constructor<;>intro hc0
   ·rw [up_go (p:=(fun x => !ltInt d2[a]! x)) hg hc0] at heqs;refine au 1403523014130120 ?_;refine bA [0,1,9,10] ?_;refine bC [(j,_)] ?_;exact hnextu _ _ _ oQ ⟨u+1,rfl,oQ,oQ,heqs,rfl,rfl⟩
   have hfin:scanUp (fun x => !ltInt d2[a]! x) d2 (v2) (u2)=u:=by rw [<- heqs]; exact jV (p:=(fun x => !ltInt d2[a]! x)) (.inr hc0)
   refine au 1302160 ?_;refine bA [0,1,9,10] ?_;refine bA [0,1,9,10] ?_;refine bC [(j,_)] ?_;exact H () hfin
  have hfin:scanUp (fun x => !ltInt d2[a]! x) d2 (v2) (u2)=u:=by rw [<- heqs]; exact jV (.inl (by simp at g3_4; omega))
  refine ad [[11,0,32],[11,1,32],[11,32,33,34],[11,32,35],[11,0,32],[11,9,32],[11,32,37,38],[11,32,39],[11,32,36,40],[11,32,41],[6,32,42],[14]] ?_;refine au 1302160190 ?_;refine bA [0,1,9,10] ?_;refine bA [0,1,9,10] ?_;refine bC [(j,_)] ?_;exact H () hfin
 ·rintro _ hup;refine bG nQ ?_;refine bE (fun n1 env K=>∃ (v:Nat),n1=v/\v<=v2/\scanDown (fun x=>ltInt d2[a]! x) d2 u v=scanDown (fun x=>ltInt d2[a]! x) d2 u (v2)/\env=.sl j 0 n::intA a::naL 7 (intA u::intA v::naL 73 [])/\K=[(j,.row (d2.toList.map intA) 3 1)]) (v2) ⟨v2,rfl,mL _,rfl,rfl,rfl⟩ fun n1 env K hI hnextv=>?_;obtain ⟨v,hnv,hvb,heqs,rfl,rfl⟩:=hI;subst n1;refine bG nQ ?_;refine au 22 ?_;refine' TK.shr (X:=Unit) (D:=fun x=>scanDown (fun x=>ltInt d2[a]! x) d2 u (v2)=v) (E:=fun x=>.sl j 0 n::intA a::naL 7 (intA u::intA v::naL 73 [])) (KK:=fun x=>[(j,.row (d2.toList.map intA) 3 1)]) ?_ ?_;rotate_left
  ·intro H;refine bL [0,1,2,3,4,5,6,7,8,9,10,11,12,13] ?_;refine ad [[1,9],[1,10],[4,46,47],[1,48]] ?_;refine bW 49 (fun g5_4=>?_) (fun g5_4=>?_)
   ·have hg:u<=v:=by simp at g5_4; omega
    obtain ⟨q,rfl⟩:∃ q,v=q+1:=⟨v - 1,oQ⟩;refine ad [[1,0,49],[1,1,49],[2,49,50,51]] ?_;refine bT [49,52] Z (hq:=zm Z Z zi.h (mC _) (ji (i:=a) oQ oQ)) (h:=?_);refine ad [[1,0,49],[1,10,49],[2,49,54,55]] ?_;refine bT [49,56] Z (hq:=zm Z Z zi.h (mC _) (ji (i:=q+1) oQ oQ)) (h:=?_);refine bQ (pend':=[⟨10,[49,54,55],[]⟩,⟨9,[10,49],[]⟩,⟨8,[0,49],[]⟩,⟨6,[49,50,51],[]⟩,⟨5,[1,49],[]⟩,⟨4,[0,49],[]⟩,⟨2,[46,47],[]⟩,⟨1,[10],[]⟩,⟨0,[9],[]⟩]) [49,53,57] Z Z Z Z Z (zha hT) (fun r7 K8 h9=>⟨?_,?_⟩)
    ·rcases h9 with ⟨rfl,rfl⟩
     all_goals simp
    obtain ⟨rfl,rfl⟩:=h9;try simp only [cA]
    refine bS tQ ?_;refine ad [[7,49,58],[14]] ?_;refine au 9 ?_;constructor<;>intro hc1
    ·rw [xD (p:=(fun x=>ltInt d2[a]! x)) hg hc1] at heqs;refine au 1403524014130120 ?_;refine bA [0,1,9,10] ?_;refine bC [(j,_)] ?_;exact hnextv _ _ _ oQ ⟨q,rfl,oQ,heqs,by rw [show ((q+1:Nat):Int) - 1=(q:Int) by omega]; rfl,rfl⟩
    have hfin:scanDown (fun x=>ltInt d2[a]! x) d2 u (v2)=q+1:=by rw [<- heqs]; exact jE (p:=(fun x=>ltInt d2[a]! x)) (.inr hc1)
    refine au 22160 ?_;refine bA [0,1,9,10] ?_;refine bC [(j,_)] ?_;exact H () hfin
   have hfin:scanDown (fun x=>ltInt d2[a]! x) d2 u (v2)=v:=by rw [<- heqs]; exact jE (.inl (by simp at g5_4; omega))
   refine ad [[11,0,49],[11,1,49],[11,49,50,51],[11,49,52],[11,0,49],[11,10,49],[11,49,54,55],[11,49,56],[11,49,53,57],[6,49,58],[14]] ?_;refine au 22160190 ?_;refine bA [0,1,9,10] ?_;refine bC [(j,_)] ?_;exact H () hfin
  ·rintro _ hdn;refine bG nQ ?_;refine au 937114 ?_;constructor<;>intro hc2
   ·have hlt:v<u:=by simp at hc2; omega
    refine au 35142160 ?_;refine bB hret [(j,_)] ?_;exact ⟨_,heq2.symm.trans (jbJ hup hdn hlt),rfl,rfl⟩
   have hge:¬ v<u:=by simp at hc2; omega
   refine au 2120 ?_;refine bL [0,1,4,5,6,7,8,9,10,11,12,13,2,3,14,15] ?_;refine ad [[1,0],[1,9],[1,0],[1,10],[1,0],[1,10],[2,69,70]] ?_;refine bT [71] Z (hq:=zm Z Z zi.h (mC _) (ji (i:=v) oQ oQ)) (h:=?_);refine ad [[1,0],[1,9],[2,73,74]] ?_;refine bT [75] Z (hq:=zm Z Z zi.h (mC _) (ji (i:=u) oQ oQ)) (h:=?_);refine ad [[2,65,66]] ?_;refine bR (pend':=[⟨10,[73,74],[]⟩,⟨9,[9],[]⟩,⟨8,[0],[]⟩,⟨3,[10],[]⟩,⟨2,[0],[]⟩]) [72,77] Z Z (zX Z Z zi.h Z Z mQ (jB (k:=u) oQ oQ)) ?_;refine ad [[2,67,68]] ?_;refine bR (pend':=[]) [76,78] Z Z (zX Z Z zi.h Z Z mQ (jC (i:=u) (j:=v) oQ oQ)) ?_;refine ad [[14]] ?_;refine au 140352401435230142 ?_;refine bA [0,1,9,10] ?_;refine bC [(j,_)] ?_;exact hnext2 _ _ _ oQ ⟨u+1,v - 1,swp d2 u v,rfl,oQ,oQ,oQ,jD hs2,(pe_go hup hdn hge).symm.trans heq2,by rw [show (v:Int) - 1=((v - 1:Nat):Int) by omega] <;> rfl,rfl⟩
theorem jbu {main T} (hT:zo tp main T) {gm} {j n a b:Nat} {d:Array Int} (hd:d.size=n) (hn:n<=1000) (hab:a<b) (hb:b<=n) :
  zA tp T gm 192 [.sl j 0 n,intA a,intA b] [(j,.row (d.toList.map intA) 3 1)] (fun r K'=>K'=[(j,.row ((reverseRange d a b).toList.map intA) 3 1)]):=by
 refine zp 32 hT Tryz.func192 fun Y hret=>?_;refine au 1303524014235142 ?_;refine bA [0,6,7] ?_;refine bE (fun n1 env K=>∃ (u v:Nat) (d1:Array Int),n1=v - u/\u<=b/\v<b/\d1.size=n/\reverseLoop u v d1=reverseRange d a b/\env=.sl j 0 n::naL 5 (intA u::intA v::naL 24 [])/\K=[(j,.row (d1.toList.map intA) 3 1)]) (b - 1 - a) ⟨a,b - 1,d,rfl,oQ,oQ,hd,rfl,by rw [show (b:Int) - 1=((b - 1:Nat):Int) by omega] <;> rfl,rfl⟩ fun n1 env K hI hnext=>?_;obtain ⟨u,v,d1,rfl,hub,hvb,hs1,heq,rfl,rfl⟩:=hI;refine bG nQ ?_;refine au 93711422 ?_;constructor<;>intro hc0
 ·have hlt:u<v:=by simp at hc0; omega
  rw [jbM hlt] at heq;refine au 2130120 ?_;refine bL [0,1,4,5,6,7,8,9,10,11,12,13,2,3,14,15] ?_;refine ad [[1,0],[1,6],[1,0],[1,7],[1,0],[1,7],[2,18,19]] ?_;refine bT [20] Z (hq:=zm Z Z zi.h (mC _) (ji (i:=v) oQ oQ)) (h:=?_);refine ad [[1,0],[1,6],[2,22,23]] ?_;refine bT [24] Z (hq:=zm Z Z zi.h (mC _) (ji (i:=u) oQ oQ)) (h:=?_);refine ad [[2,14,15]] ?_;refine bR (pend':=[⟨10,[22,23],[]⟩,⟨9,[6],[]⟩,⟨8,[0],[]⟩,⟨3,[7],[]⟩,⟨2,[0],[]⟩]) [21,26] Z Z (zX Z Z zi.h Z Z mQ (jB (k:=u) oQ oQ)) ?_;refine ad [[2,16,17]] ?_;refine bR (pend':=[]) [25,27] Z Z (zX Z Z zi.h Z Z mQ (jC (i:=u) (j:=v) oQ oQ)) ?_;refine ad [[14]] ?_;refine au 140352401435230142 ?_;refine bA [0,6,7] ?_;refine bC [(j,_)] ?_;exact hnext _ _ _ oQ ⟨u+1,v - 1,swp d1 u v,rfl,oQ,oQ,jD hs1,heq,by rw [show (v:Int) - 1=((v - 1:Nat):Int) by omega] <;> rfl,rfl⟩
 have hlt:¬ u<v:=by simp at hc0; omega
 refine au 160 ?_;refine TK.rt0 hret [(j,_)] ?_;rw [<- heq]; rw [jbv hlt]
instance:Cal tp 222:={}
instance:Cal tp 233:={}
theorem jY {main T} (hT:zo tp main T) {gm} {j js n a b:Nat} {d:Array Int} {sw:Int} (hd:d.size=n) (hn:n<=1000) (ha:a<n) (hb:b<n) (hsw:0<=sw/\sw<=1000) :
  zA tp T gm 233 [.sl j 0 n,intA a,intA b,.ptr js 0] [(j,.row (d.toList.map intA) 3 1),(js,.cells [intA sw] 3 true)] (fun r K'=>∃ (x y:Nat) (sw':Int),((x=a/\y=b)\/(x=b/\y=a))/\0<=sw'/\sw'<=sw+1/\r=.tup [intA x,intA y]/\K'=[(j,.row (d.toList.map intA) 3 1),(js,.cells [intA sw'] 3 true)]):=by
 refine zp 28 hT Tryz.func233 fun Y hret=>?_;refine au 2235542 ?_;refine bL [0,1,2,3,4,5,6,7,8] ?_;refine ad [[1,0],[1,2],[2,10,11]] ?_;refine bT [12] Z (hq:=zm Z Z zi.h (mC _) (ji (i:=b) oQ oQ)) (h:=?_);refine ad [[1,0],[1,1],[2,14,15]] ?_;refine bT [16] Z (hq:=zm Z Z zi.h (mC _) (ji (i:=a) oQ oQ)) (h:=?_);refine bQ (pend':=[⟨6,[14,15],[]⟩,⟨5,[1],[]⟩,⟨4,[0],[]⟩,⟨2,[10,11],[]⟩,⟨1,[2],[]⟩,⟨0,[0],[]⟩]) [13,17] Z Z Z Z Z (zha hT) (fun r1 K2 h3=>⟨?_,?_⟩)
 ·rcases h3 with ⟨rfl,rfl⟩
  all_goals simp
 obtain ⟨rfl,rfl⟩:=h3;try simp only [cA]
 refine bS tQ ?_;refine ad [[14]] ?_;refine au 9 ?_;constructor<;>intro hc0
 ·refine au 142 ?_;refine bH Z (kf Z Z) ?_;refine au 230690 ?_;refine bH Z (kf Z Z) ?_;refine au 35511423170 ?_;refine bB hret [(j,_),(js,_)] ?_;exact ⟨_,_,_,.inr ⟨rfl,rfl⟩,oQ,oQ,rfl,rfl⟩
 refine au 3551142120 ?_;refine bB hret [(j,_),(js,_)] ?_;exact ⟨_,_,_,.inl ⟨rfl,rfl⟩,oQ,oQ,rfl,rfl⟩
theorem jX {main T} (hT:zo tp main T) {gm} {j js n a b c:Nat} {d:Array Int} {sw:Int} (hd:d.size=n) (hn:n<=1000) (ha:a<n) (hb:b<n) (hc:c<n) (hsw:0<=sw/\sw<=900) :
  zA tp T gm 222 [.sl j 0 n,intA a,intA b,intA c,.ptr js 0] [(j,.row (d.toList.map intA) 3 1),(js,.cells [intA sw] 3 true)] (fun r K'=>∃ (x:Nat) (sw':Int),(x=a\/x=b\/x=c)/\0<=sw'/\sw'<=sw+3/\r=intA x/\K'=[(j,.row (d.toList.map intA) 3 1),(js,.cells [intA sw'] 3 true)]):=by
 refine zp 36 hT Tryz.func222 fun Y hret=>?_;refine au 1111423542 ?_;refine bD Z Z Z Z (jY hT (sw:=sw) hd hn oQ oQ oQ) ?_;rintro r1 K2 ⟨x1,y1,q1,hx1,hq11,hq12,rfl,rfl⟩;refine au 111142355661 ?_;refine bD Z Z Z Z (jY hT (sw:=q1) hd hn oQ oQ oQ) ?_;rintro r4 K5 ⟨x2,y2,q2,hx2,hq21,hq22,rfl,rfl⟩;refine au 111142355661 ?_;refine bD Z Z Z Z (jY hT (sw:=q2) hd hn oQ oQ oQ) ?_;rintro r7 K8 ⟨x3,y3,q3,hx3,hq31,hq32,rfl,rfl⟩;refine au 35142355661 ?_;refine bB hret [(j,_),(js,_)] ?_;exact ⟨_,_,oQ,oQ,oQ,rfl,rfl⟩
theorem jI {main T} (hT:zo tp main T) {gm} {j js n a:Nat} {d:Array Int} {sw:Int} (hd:d.size=n) (hn:n<=1000) (h1:1<=a) (ha:a+1<n) (hsw:0<=sw/\sw<=900) :
  zA tp T gm 221 [.sl j 0 n,intA a,.ptr js 0] [(j,.row (d.toList.map intA) 3 1),(js,.cells [intA sw] 3 true)] (fun r K'=>∃ (x:Nat) (sw':Int),a<=x+1/\x<=a+1/\0<=sw'/\sw'<=sw+3/\r=intA x/\K'=[(j,.row (d.toList.map intA) 3 1),(js,.cells [intA sw'] 3 true)]):=by
 refine zp 15 hT Tryz.func221 fun Y hret=>?_;refine au 23542 ?_;obtain ⟨p,rfl⟩:∃ p,a=p+1:=⟨a - 1,oQ⟩;refine au 240114 ?_;rw [show ((p+1:Nat):Int) - 1=(p:Int) by omega];refine au 123011 ?_;refine bD Z Z Z Z (jX hT (sw:=sw) (a:=p) (b:=p+1) (c:=p+1+1) hd hn oQ oQ oQ oQ) ?_;rintro r1 K2 ⟨x,q,hx,hq1,hq2,rfl,rfl⟩;refine au 35 ?_;refine bB hret [(j,_),(js,_)] ?_;exact ⟨_,_,oQ,oQ,oQ,oQ,rfl,rfl⟩
end Go.Vel
namespace Go.Vel
open Go Go.Conc Go.Proofs
theorem qy {n:Int} (h:0<=n/\n<18446744073709551616):IntKind.u64.wrap n=n:=by
 unfold IntKind.wrap;simp only [show IntKind.u64.bits=64 from rfl,show IntKind.u64.signed=false from rfl,Bool.false_and];split <;> rename_i h1 <;> first | (exact absurd h1 dQ) | omega
theorem jbP (x:Int):0<=IntKind.u64.wrap x/\IntKind.u64.wrap x<18446744073709551616:=by
 unfold IntKind.wrap;simp only [show IntKind.u64.bits=64 from rfl,show IntKind.u64.signed=false from rfl,Bool.false_and];split <;> rename_i h1 <;> first | (exact absurd h1 dQ) | omega
def xorW (a b:Int):Int:=IntKind.u64.wrap ((BitVec.ofInt 64 a ^^^ BitVec.ofInt 64 b).toNat:Int)
def andW (a b:Int):Int:=IntKind.u64.wrap ((BitVec.ofInt 64 a &&& BitVec.ofInt 64 b).toNat:Int)
theorem qW (a b:Int):0<=xorW a b/\xorW a b<18446744073709551616:=jbP _
theorem ja8 (a:Int) {b:Nat} (hb:b<1000):0<=andW a b/\andW a b<=b:=by
 have h1:(BitVec.ofInt 64 (b:Int)).toNat=b:=by
  rw [BitVec.toNat_ofInt];omega
 have h2:(BitVec.ofInt 64 a &&& BitVec.ofInt 64 (b:Int)).toNat<=b:=by
  rw [BitVec.toNat_and,h1];exact Nat.and_le_right
 unfold andW;rw [qy oQ];omega
section
variable {P:Program} {gm:Nat->Option Nat} {V:KV} {env:List AV} {o:Oper}
theorem xJ {t yt:TypeId} {x y:Operand} {a b:Int} (ho:o.op=.binOp .xor t x y yt) (hx:zn gm env x=some (.v (.int .u64 a))) (hy:zn gm env y=some (.v (.int .u64 b))):Qk P gm env V o (.v (.int .u64 (xorW a b))):=wz ho hx hy rfl
theorem jbr {t yt:TypeId} {x y:Operand} {a b:Int} (ho:o.op=.binOp .and t x y yt) (hx:zn gm env x=some (.v (.int .u64 a))) (hy:zn gm env y=some (.v (.int .u64 b))):Qk P gm env V o (.v (.int .u64 (andW a b))):=wz ho hx hy rfl
theorem jbt {t yt:TypeId} {x y:Operand} {a b:Int} (ho:o.op=.binOp .sub t x y yt) (hx:zn gm env x=some (.v (.int .u64 a))) (hy:zn gm env y=some (.v (.int .u64 b))) (h:0<=a - b/\a - b<18446744073709551616):Qk P gm env V o (.v (.int .u64 (a - b))):=by
 refine wz ho hx hy ?_;show some (Value.int .u64 (IntKind.u64.wrap (a - b)))=_;rw [qy h]
theorem jbs {t yt:TypeId} {x y:Operand} {k':IntKind} {a b:Int} (ho:o.op=.binOp .shr t x y yt) (hx:zn gm env x=some (.v (.int .u64 a))) (hy:zn gm env y=some (.v (.int k' b))) (h0:0<=b):Qk P gm env V o (.v (.int .u64 (a.fdiv (2 ^ min b.toNat 64)))):=fun A _=>by
 refine vr ho (by rw [zx hx]; rfl) (by rw [zx hy]; rfl) ?_;rw [zab];show zR P (Op.shift .shr .u64 a k' b)=_;unfold Op.shift;rw [if_neg oQ];rfl
end
theorem jbj {s:ByteArray} {n:Nat} (hn:n<256) (h:n<s.size) (hall:(List.range 256).all (fun k=>match s[k]? with | some c=>decide (c.toNat<=8/\(k=0\/2 ^ c.toNat<=2*k)) | none=>true)=true):∃ m:Nat,intA (0+((s[n]'h).toNat:Int))=intA m/\m<=8/\(n=0\/2 ^ m<=2*n)/\([]:KV)=[]:=by
 have h1:=List.all_eq_true.1 hall n (List.mem_range.2 hn);rw [getElem?_pos s n h] at h1;have h2:=of_decide_eq_true h1;exact ⟨(s[n]'h).toNat,by rw [Int.zero_add],h2.1,h2.2,rfl⟩
theorem jby {m:Nat} (hm:m<=8):IntKind.u64.wrap (1*2 ^ ((m:Nat):Int).toNat)=((2 ^ m:Nat):Int):=by
 have:m=0\/m=1\/m=2\/m=3\/m=4\/m=5\/m=6\/m=7\/m=8:=by omega
 rcases this with rfl | rfl | rfl | rfl | rfl | rfl | rfl | rfl | rfl <;> decide
end Go.Vel
namespace Go.Vel
open Go Go.Conc Go.Proofs
open Go.Sort
instance:Cal tp 221:={}
instance:zi tp 263 false 1:={}
instance:TyZA tp 3 [.v (.int .i64 0)]:={}
theorem jbq {main T} (hT:zo tp main T) {gm} {j n a b:Nat} {d:Array Int} (hd:d.size=n) (hn:n<=1000) (hab:a<b) (hb:b<=n) :
  zA tp T gm 191 [.sl j 0 n,intA a,intA b] [(j,.row (d.toList.map intA) 3 1)] (fun r K'=>∃ (p:Nat) (hh:Int),a<=p/\p<b/\r=.tup [intA p,intA hh]/\K'=[(j,.row (d.toList.map intA) 3 1)]):=by
 refine zp 57 hT Tryz.func191 fun Y hret=>?_;refine au 235240114235542 ?_;rw [show (b:Int) - (a:Int)=((b - a:Nat):Int) by omega];refine au 2204 ?_;intro js hjs;refine au 11423 ?_;refine bH Z (jM Z Z Z oQ oQ oQ) ?_;refine bH Z (q_mul Z Z Z oQ) ?_;refine au 114235230 ?_;refine bH Z (jM Z Z Z oQ oQ oQ) ?_;refine bH Z (q_mul Z Z Z oQ) ?_;refine au 114235230 ?_;refine bH Z (jM Z Z Z oQ oQ oQ) ?_;refine bH Z (q_mul Z Z Z oQ) ?_;refine au 2235230 ?_;obtain ⟨I,hI⟩:∃ I:Nat,I=a+(b - a) / 4:=⟨_,rfl⟩;obtain ⟨J,hJ⟩:∃ J:Nat,J=a+(b - a) / 4*2:=⟨_,rfl⟩;obtain ⟨L,hL⟩:∃ L:Nat,L=a+(b - a) / 4*3:=⟨_,rfl⟩;refine' TK.shr (X:=Nat×Int) (D:=fun x=>a<=x.1/\x.1<b) (E:=fun x=>naL 9 (.ptr js 0::.any::intA x.1::naL 45 [])) (KK:=fun x=>[(j,.row (d.toList.map intA) 3 1),(js,.cells [intA x.2] 3 true)]) ?_ ?_;rotate_left
 ·intro H;rw [show (a:Int)+((b - a:Nat):Int) / 4*1=(I:Int) by omega,show (a:Int)+((b - a:Nat):Int) / 4*2=(J:Int) by omega,show (a:Int)+((b - a:Nat):Int) / 4*3=(L:Int) by omega];refine au 93714 ?_;constructor<;>intro hc0
  ·have h8:8<=b - a:=by simp at hc0; omega
   refine au 9371422 ?_;constructor<;>intro hc1
   ·have h50:50<=b - a:=by simp at hc1; omega
    refine au 1142 ?_;refine bD Z Z Z Z (jI hT (sw:=0) (a:=I) hd hn oQ oQ oQ) ?_;rintro r1 K2 ⟨x1,q1,hx11,hx12,hx13,hx14,rfl,rfl⟩;refine au 114235 ?_;refine bD Z Z Z Z (jI hT (sw:=q1) (a:=J) hd hn oQ oQ oQ) ?_;rintro r4 K5 ⟨x2,q2,hx21,hx22,hx23,hx24,rfl,rfl⟩;refine au 11435 ?_;refine bD Z Z Z Z (jI hT (sw:=q2) (a:=L) hd hn oQ oQ oQ) ?_;rintro r7 K8 ⟨x3,q3,hx31,hx32,hx33,hx34,rfl,rfl⟩;refine au 1111435 ?_;refine bD Z Z Z Z (jX hT (sw:=q3) (a:=x1) (b:=x2) (c:=x3) hd hn oQ oQ oQ oQ) ?_;rintro r10 K11 ⟨x4,q4,hx4,hx42,hx43,rfl,rfl⟩;refine au 235 ?_;refine bA [9,11] ?_;refine bC [(j,_),(js,_)] ?_;exact H (x4,q4) ⟨by omega,oQ⟩
   refine au 11114120 ?_;refine bD Z Z Z Z (jX hT (sw:=0) (a:=I) (b:=J) (c:=L) hd hn oQ oQ oQ oQ) ?_;rintro r13 K14 ⟨x4,q4,hx4,hx42,hx43,rfl,rfl⟩;refine au 235 ?_;refine bA [9,11] ?_;refine bC [(j,_),(js,_)] ?_;exact H (x4,q4) ⟨by omega,oQ⟩
  refine au 2120 ?_;refine bA [9,11] ?_;refine bC [(j,_),(js,_)] ?_;exact H (J,0) ⟨by omega,oQ⟩
 ·rintro ⟨p,sw⟩ ⟨hp1,hp2⟩; dsimp only at hp1 hp2 ⊢;refine bG nQ ?_;refine au 93574213036904 ?_;constructor<;>intro hc2
  ·refine au 355142 ?_;refine bB hret [(j,_)] ?_;exact ⟨p,_,hp1,hp2,rfl,rfl⟩
  refine au 935742 ?_;constructor<;>intro hc3
  ·refine au 355142 ?_;refine bB hret [(j,_)] ?_;exact ⟨p,_,hp1,hp2,rfl,rfl⟩
  refine au 355142 ?_;refine bB hret [(j,_)] ?_;exact ⟨p,_,hp1,hp2,rfl,rfl⟩
theorem jaq {main T} (hT:zo tp main T) {gm} {n:Nat} (hn:n<256) :
  zA tp T gm 198 [.v (.int .u64 n)] [] (fun r K'=>∃ m:Nat,r=intA m/\m<=8/\(n=0\/2 ^ m<=2*n)/\K'=[]):=by
 refine zp 25 hT Tryz.func198 fun Y hret=>?_;refine au 93714223542 ?_;constructor<;>intro hc0
 ·simp at hc0; omega
 refine au 9371422120 ?_;constructor<;>intro hc1
 ·simp at hc1; omega
 refine au 9371422120 ?_;constructor<;>intro hc2
 ·simp at hc2; omega
 refine au 1142120 ?_;refine bH Z (yV Z Z Und.h Und.h (zgE hn)) ?_;refine bH Z (zeu Z Z Z Und.h oQ (zhL hn Z)) ?_;refine bH Z (yV Z Z Und.h Und.h (zfC _)) ?_;refine bH Z (q_add Z Z Z (zfH _)) ?_;refine au 35 ?_;refine TK.rta hret ?_;exact jbj hn _ (by decide +kernel)
theorem xp {main T} (hT:zo tp main T) {gm} {n:Nat} (hn:n<256) :
  zA tp T gm 161 [.v (.int .u64 n)] [] (fun r K'=>∃ m:Nat,r=intA m/\m<=8/\(n=0\/2 ^ m<=2*n)/\K'=[]):=by
 refine zp 8 hT Tryz.func161 fun Y hret=>?_;refine au 14212019023542 ?_;refine bD Z Z Z Z (jaq hT hn) ?_;rintro r1 K2 ⟨m,rfl,hm8,hm2,rfl⟩;refine au 35 ?_;refine TK.rta hret ?_;exact ⟨m,rfl,hm8,hm2,rfl⟩
theorem jaK {main T} (hT:zo tp main T) {gm} {n:Nat} (hn:n<256) (h1:1<=n) :
  zA tp T gm 219 [intA n] [] (fun r K'=>∃ M:Nat,1<=M/\M<=2*n/\r=.v (.int .u64 (M:Int))/\K'=[]):=by
 refine zp 7 hT Tryz.func219 fun Y hret=>?_;refine au 1423542 ?_;refine bH Z (yV Z Z Und.h Und.h (zb0 (n:=n) oQ)) ?_;refine bD Z Z Z Z (xp hT (n:=n) hn) ?_;rintro r1 K2 ⟨m,rfl,hm8,hm2,rfl⟩;refine au 0 ?_;refine bH Z (q_shL Z Z Z ⟨by omega,by show ((m:Nat):Int)<=64; omega⟩ (r:=((2 ^ m:Nat):Int)) (jby hm8)) ?_;refine au 35 ?_;refine TK.rta hret ?_;exact ⟨2 ^ m,Nat.two_pow_pos _,oQ,rfl,rfl⟩
theorem jaJ {main T} (hT:zo tp main T) {gm} {jx:Nat} {x:Int} :
  zA tp T gm 220 [.ptr jx 0] [(jx,.cells [.v (.int .u64 x)] 263 true)] (fun r K'=>∃ y:Int,0<=y/\y<18446744073709551616/\r=.v (.int .u64 y)/\K'=[(jx,.cells [.v (.int .u64 y)] 263 true)]):=by
 refine zp 33 hT Tryz.func220 fun Y hret=>?_;refine au 23542 ?_;refine bL [0,1,2,3,4,5,6,7,8,9] ?_;refine ad [[1,0]] ?_;refine bU [3] Z (kf Z Z) ?_;refine ad [[10,4],[1,0]] ?_;refine bU [6] Z (kf Z Z) ?_;refine ad [[10,7]] ?_;refine bU [8] Z (q_shL Z Z Z ⟨by decide,by decide⟩ rfl) ?_;refine bU [5,9] Z (xJ Z Z Z) ?_;refine bU [3] Z (kf Z Z) ?_;refine bR (pend':=[]) [10,11] Z Z (zX Z Z zi.h Z Z mQ Z) ?_;refine ad [[14]] ?_;refine au 2 ?_;refine bL [0,1,2,3,4,5,6,7,8,9] ?_;refine ad [[1,0]] ?_;refine bU [12] Z (kf Z Z) ?_;refine ad [[10,13],[1,0]] ?_;refine bU [15] Z (kf Z Z) ?_;refine ad [[10,16]] ?_;refine bU [17] Z (jbs Z Z Z dQ) ?_;refine bU [14,18] Z (xJ Z Z Z) ?_;refine bU [12] Z (kf Z Z) ?_;refine bR (pend':=[]) [19,20] Z Z (zX Z Z zi.h Z Z mQ Z) ?_;refine ad [[14]] ?_;refine au 2 ?_;refine bL [0,1,2,3,4,5,6,7,8,9] ?_;refine ad [[1,0]] ?_;refine bU [21] Z (kf Z Z) ?_;refine ad [[10,22],[1,0]] ?_;refine bU [24] Z (kf Z Z) ?_;refine ad [[10,25]] ?_;refine bU [26] Z (q_shL Z Z Z ⟨by decide,by decide⟩ rfl) ?_;refine bU [23,27] Z (xJ Z Z Z) ?_;refine bU [21] Z (kf Z Z) ?_;refine bR (pend':=[]) [28,29] Z Z (zX Z Z zi.h Z Z mQ Z) ?_;refine ad [[14]] ?_;refine au 142 ?_;refine bH Z (kf Z Z) ?_;refine au 35690 ?_;refine bB hret [(jx,_)] ?_;exact ⟨_,(qW _ _).1,(qW _ _).2,rfl,rfl⟩
end Go.Vel
namespace Go.Vel
open Go Go.Conc Go.Sort
section
variable {a b i u v q s:Nat} {d d2 d3 d4:Array Int}
theorem ss_go (h:u<b) (hl:(!ltInt d[u]! d[u - 1]!)=true):scanSorted ltInt d b u=scanSorted ltInt d b (u+1):=by
 conv=>lhs; unfold scanSorted
 rw [if_pos (by rw [hl]; simp [h])]
theorem jaw (h:¬ u<b\/(!ltInt d[u]! d[u - 1]!)=false):scanSorted ltInt d b u=u:=by
 unfold scanSorted;rw [if_neg (by rcases h with h | h <;> simp [h])]
theorem sd_go (hl:(!ltInt d[q+1]! d[q]!)=false):shiftDown ltInt (q+1) d=shiftDown ltInt q (swp d (q+1) q):=by
 conv=>lhs; unfold shiftDown
 rw [if_neg (by rw [hl]; decide)]
theorem jbw (hl:(!ltInt d[q+1]! d[q]!)=true):shiftDown ltInt (q+1) d=d:=by
 unfold shiftDown;rw [if_pos hl]
theorem su_go (h:v<b) (hl:(!ltInt d[v]! d[v - 1]!)=false):shiftUp ltInt b v d=shiftUp ltInt b (v+1) (swp d v (v - 1)):=by
 conv=>lhs; unfold shiftUp
 rw [if_pos h,if_neg (by rw [hl]; decide)]
theorem jbA (h:v<b) (hl:(!ltInt d[v]! d[v - 1]!)=true):shiftUp ltInt b v d=d:=by
 unfold shiftUp;rw [if_pos h,if_pos hl]
theorem jbO (h:¬ v<b):shiftUp ltInt b v d=d:=by
 unfold shiftUp;rw [if_neg h]
theorem pi_T (hs:scanSorted ltInt d b i=u) (h:u=b):partialIns ltInt a b (s+1) i d=(d,true):=by
 unfold partialIns;simp only [];rw [hs,if_pos h]
theorem pi_F (hs:scanSorted ltInt d b i=u) (h:¬ u=b) (h2:b - a<50):partialIns ltInt a b (s+1) i d=(d,false):=by
 unfold partialIns;simp only [];rw [hs,if_neg h,if_pos h2]
theorem pi_go (hs:scanSorted ltInt d b i=u) (h:¬ u=b) (h2:¬ b - a<50) (h3:d3=if u - a>=2 then shiftDown ltInt (u - 1) (swp d u (u - 1)) else swp d u (u - 1)) (h4:d4=if b - u>=2 then shiftUp ltInt b (u+1) d3 else d3):partialIns ltInt a b (s+1) i d=partialIns ltInt a b s u d4:=by
 conv=>lhs; unfold partialIns
 simp only [];rw [hs,if_neg h,if_neg h2,h4,h3]
end
end Go.Vel
namespace Go.Vel
open Go Go.Conc Go.Proofs
open Go.Sort
theorem jbo {main T} (hT:zo tp main T) {gm} {j n a b:Nat} {d:Array Int} (hd:d.size=n) (hn:n<=1000) (hab:a<b) (hb:b<=n) :
  zA tp T gm 193 [.sl j 0 n,intA a,intA b] [(j,.row (d.toList.map intA) 3 1)] (fun r K'=>∃ q,partialInsertionSort ltInt d a b=q/\r=zP q.2/\K'=[(j,.row (q.1.toList.map intA) 3 1)]):=by
 refine zp 133 hT Tryz.func193 fun Y hret=>?_;refine au 13035422352301423542 ?_;refine bA [0,1,2,7,8] ?_;refine bE (fun n1 env K=>∃ (s i:Nat) (d1:Array Int),n1=s/\s<=5/\a<i/\i<=b/\d1.size=n/\partialIns ltInt a b s i d1=partialInsertionSort ltInt d a b/\env=.sl j 0 n::intA a::intA b::naL 4 (intA i::intA (5 - (s:Int))::naL 124 [])/\K=[(j,.row (d1.toList.map intA) 3 1)]) 5 ⟨5,a+1,d,rfl,mL _,oQ,oQ,hd,rfl,rfl,rfl⟩ fun n1 env K hI hnext=>?_;obtain ⟨s1,i,d1,hn1,hs5,hai,hib,hs1,heq,rfl,rfl⟩:=hI;subst n1;refine bG nQ ?_;refine au 9371422 ?_;constructor<;>intro hc0
 ·obtain ⟨s,rfl⟩:∃ s,s1=s+1:=⟨s1 - 1,by simp at hc0; omega⟩;refine au 13021302120 ?_;refine bA [0,1,2,7,8] ?_;refine bE (fun n1 env K=>∃ (u:Nat),n1=b - u/\i<=u/\u<=b/\scanSorted ltInt d1 b u=scanSorted ltInt d1 b i/\env=.sl j 0 n::intA a::intA b::naL 4 (intA u::intA (5 - ((s+1:Nat):Int))::naL 124 [])/\K=[(j,.row (d1.toList.map intA) 3 1)]) (b - i) ⟨i,rfl,mL _,hib,rfl,rfl,rfl⟩ fun n1 env K hI hnext1=>?_;obtain ⟨u,rfl,hiu,hub,heqs,rfl,rfl⟩:=hI;refine bG nQ ?_;refine au 22 ?_;refine' TK.shr (X:=Unit) (D:=fun x=>scanSorted ltInt d1 b i=u) (E:=fun x=>.sl j 0 n::intA a::intA b::naL 4 (intA u::intA (5 - ((s+1:Nat):Int))::naL 124 [])) (KK:=fun x=>[(j,.row (d1.toList.map intA) 3 1)]) ?_ ?_;rotate_left
  ·intro H;refine bL [0,1,2,3,4,5,6,7,8,9,10,11,12,13,14,15] ?_;refine ad [[1,7],[1,2],[4,17,18],[1,19]] ?_;refine bW 20 (fun g5_4=>?_) (fun g5_4=>?_)
   ·have hg:u<b:=by simp at g5_4; omega
    refine ad [[1,0,20],[1,7,20],[2,20,21,22]] ?_;refine bT [20,23] Z (hq:=zm Z Z zi.h (mC _) (ji (i:=u) oQ oQ)) (h:=?_);refine ad [[1,0,20],[1,7,20],[9,20,26],[2,20,25,27]] ?_;refine bT [20,28] Z (hq:=zm Z Z zi.h (mC _) (ji (i:=u - 1) oQ oQ)) (h:=?_);refine bQ (pend':=[⟨11,[20,25,27],[]⟩,⟨10,[20,26],[]⟩,⟨9,[7,20],[]⟩,⟨8,[0,20],[]⟩,⟨6,[20,21,22],[]⟩,⟨5,[7,20],[]⟩,⟨4,[0,20],[]⟩,⟨2,[17,18],[]⟩,⟨1,[2],[]⟩,⟨0,[7],[]⟩]) [20,24,29] Z Z Z Z Z (zha hT) (fun r1 K2 h3=>⟨?_,?_⟩)
    ·rcases h3 with ⟨rfl,rfl⟩
     all_goals simp
    obtain ⟨rfl,rfl⟩:=h3;try simp only [cA]
    refine bS tQ ?_;refine bU [20,30] Z (q_not Z Z) ?_;refine ad [[7,20,31],[14]] ?_;refine au 9 ?_;constructor<;>intro hc1
    ·rw [ss_go hg hc1] at heqs;refine au 1403523014130120 ?_;refine bA [0,1,2,7,8] ?_;refine bC [(j,_)] ?_;exact hnext1 _ _ _ oQ ⟨u+1,rfl,oQ,oQ,heqs,rfl,rfl⟩
    have hf:scanSorted ltInt d1 b i=u:=by rw [<- heqs]; exact jaw (.inr hc1)
    refine au 22160 ?_;refine bA [0,1,2,7,8] ?_;refine bC [(j,_)] ?_;exact H () hf
   have hf:scanSorted ltInt d1 b i=u:=by rw [<- heqs]; exact jaw (.inl (by simp at g5_4; omega))
   refine ad [[11,0,20],[11,7,20],[11,20,21,22],[11,20,23],[11,0,20],[11,7,20],[11,20,26],[11,20,25,27],[11,20,28],[11,20,24,29],[11,20,30],[6,20,31],[14]] ?_;refine au 22160190 ?_;refine bA [0,1,2,7,8] ?_;refine bC [(j,_)] ?_;exact H () hf
  ·rintro _ hsc;refine bG nQ ?_;refine au 937114 ?_;constructor<;>intro hc2
   ·have hq1:partialInsertionSort ltInt d a b=(d1,true):=heq.symm.trans (pi_T hsc (by simp at hc2; omega));refine au 3542 ?_;refine bB hret [(j,_)] ?_;exact ⟨_,hq1,rfl,rfl⟩
   have hub2:¬ u=b:=fun h=>by rw [h] at hc2; simp at hc2
   refine au 93724011422120 ?_;constructor<;>intro hc3
   ·have hq1:partialInsertionSort ltInt d a b=(d1,false):=heq.symm.trans (pi_F hsc hub2 (by simp at hc3; omega));refine au 3542 ?_;refine bB hret [(j,_)] ?_;exact ⟨_,hq1,rfl,rfl⟩
   have h50:¬ b - a<50:=by simp at hc3; omega
   refine au 2120 ?_;refine bL [0,1,5,6,7,8,9,10,11,12,13,14,15,2,3,4,16,17] ?_;refine ad [[1,0],[1,7],[1,0],[1,7],[9,45],[1,0],[1,7],[9,48],[2,47,49]] ?_;refine bT [50] Z (hq:=zm Z Z zi.h (mC _) (ji (i:=u - 1) oQ oQ)) (h:=?_);refine ad [[1,0],[1,7],[2,52,53]] ?_;refine bT [54] Z (hq:=zm Z Z zi.h (mC _) (ji (i:=u) oQ oQ)) (h:=?_);refine ad [[2,42,43]] ?_;refine bR (pend':=[⟨12,[52,53],[]⟩,⟨11,[7],[]⟩,⟨10,[0],[]⟩,⟨4,[45],[]⟩,⟨3,[7],[]⟩,⟨2,[0],[]⟩]) [51,56] Z Z (zX Z Z zi.h Z Z mQ (jB (k:=u) oQ oQ)) ?_;refine ad [[2,44,46]] ?_;refine bR (pend':=[]) [55,57] Z Z (zX Z Z zi.h Z Z mQ (jC (i:=u) (j:=u - 1) oQ oQ)) ?_;refine ad [[14]] ?_;refine au 22 ?_;refine' TK.shr (X:=Array Int) (D:=fun x=>x.size=n/\x=if u - a>=2 then shiftDown ltInt (u - 1) (swp d1 u (u - 1)) else swp d1 u (u - 1)) (E:=fun x=>.sl j 0 n::intA a::intA b::naL 4 (intA u::intA (5 - ((s+1:Nat):Int))::naL 124 [])) (KK:=fun x=>[(j,.row (x.toList.map intA) 3 1)]) ?_ ?_;rotate_left
   ·intro H;obtain ⟨d2,hd2⟩:∃ d2,d2=swp d1 u (u - 1):=⟨_,rfl⟩;have hs2:d2.size=n:=by rw [hd2]; exact jD hs1
    rw [<- hd2];refine au 937240114 ?_;constructor<;>intro hc4
    ·have h2:u - a>=2:=by simp at hc4; omega
     refine au 13035240142 ?_;refine bA [0,1,2,7,8,9] ?_;refine bE (fun n1 env K=>∃ (v:Nat) (d3:Array Int),n1=v/\v<=u - 1/\d3.size=n/\shiftDown ltInt v d3=shiftDown ltInt (u - 1) d2/\env=.sl j 0 n::intA a::intA b::naL 4 (intA u::intA (5 - ((s+1:Nat):Int))::intA v::naL 123 [])/\K=[(j,.row (d3.toList.map intA) 3 1)]) (u - 1) ⟨u - 1,d2,rfl,mL _,hs2,rfl,by rw [show (u:Int) - 1=((u - 1:Nat):Int) by omega] <;> rfl,rfl⟩ fun n1 env K hI hnext2=>?_;obtain ⟨v,d3,hnv,hvu,hs3,heq3,rfl,rfl⟩:=hI;subst n1;refine bG nQ ?_;refine au 9371422 ?_;constructor<;>intro hc5
     ·obtain ⟨q,rfl⟩:∃ q,v=q+1:=⟨v - 1,by simp at hc5; omega⟩;refine au 221302120 ?_;refine bL [0,1,2,3,4,5,6,7,8,9,10] ?_;refine ad [[1,0],[1,9],[2,68,69]] ?_;refine bT [70] Z (hq:=zm Z Z zi.h (mC _) (ji (i:=q+1) oQ oQ)) (h:=?_);refine ad [[1,0],[1,9],[9,73],[2,72,74]] ?_;refine bT [75] Z (hq:=zm Z Z zi.h (mC _) (ji (i:=q) oQ oQ)) (h:=?_);refine bQ (pend':=[⟨7,[72,74],[]⟩,⟨6,[73],[]⟩,⟨5,[9],[]⟩,⟨4,[0],[]⟩,⟨2,[68,69],[]⟩,⟨1,[9],[]⟩,⟨0,[0],[]⟩]) [71,76] Z Z Z Z Z (zha hT) (fun r16 K17 h18=>⟨?_,?_⟩)
      ·rcases h18 with ⟨rfl,rfl⟩
       all_goals simp
      obtain ⟨rfl,rfl⟩:=h18;try simp only [cA]
      refine bS tQ ?_;refine bU [77] Z (q_not Z Z) ?_;refine ad [[14]] ?_;refine au 9 ?_;constructor<;>intro hc6
      ·have hx3:d3.size=n/\d3=if u - a>=2 then shiftDown ltInt (u - 1) d2 else d2:=⟨hs3,by rw [if_pos h2,<- heq3]; exact (jbw hc6).symm⟩
       refine au 2160 ?_;refine bA [0,1,2,7,8] ?_;refine bC [(j,_)] ?_;exact H _ (hd2 ▸ hx3)
      refine au 120 ?_;refine bL [0,1,5,6,7,8,9,10,11,12,13,14,15,2,3,4,16,17] ?_;refine ad [[1,0],[1,9],[1,0],[1,9],[9,82],[1,0],[1,9],[9,85],[2,84,86]] ?_;refine bT [87] Z (hq:=zm Z Z zi.h (mC _) (ji (i:=q) oQ oQ)) (h:=?_);refine ad [[1,0],[1,9],[2,89,90]] ?_;refine bT [91] Z (hq:=zm Z Z zi.h (mC _) (ji (i:=q+1) oQ oQ)) (h:=?_);refine ad [[2,79,80]] ?_;refine bR (pend':=[⟨12,[89,90],[]⟩,⟨11,[9],[]⟩,⟨10,[0],[]⟩,⟨4,[82],[]⟩,⟨3,[9],[]⟩,⟨2,[0],[]⟩]) [88,93] Z Z (zX Z Z zi.h Z Z mQ (jB (k:=q+1) oQ oQ)) ?_;refine ad [[2,81,83]] ?_;refine bR (pend':=[]) [92,94] Z Z (zX Z Z zi.h Z Z mQ (jC (i:=q+1) (j:=q) oQ oQ)) ?_;refine ad [[14]] ?_;refine au 3524014140 ?_;refine bA [0,1,2,7,8,9] ?_;refine bC [(j,_)] ?_;exact hnext2 _ _ _ oQ ⟨q,swp d3 (q+1) q,rfl,oQ,jD hs3,(sd_go hc6).symm.trans heq3,by rw [show ((q+1:Nat):Int) - 1=(q:Int) by omega]; rfl,rfl⟩
     obtain rfl:v=0:=by simp at hc5; omega
     have hx3:d3.size=n/\d3=if u - a>=2 then shiftDown ltInt (u - 1) d2 else d2:=⟨hs3,by rw [if_pos h2,<- heq3]; rfl⟩
     refine au 2160 ?_;refine bA [0,1,2,7,8] ?_;refine bC [(j,_)] ?_;exact H _ (hd2 ▸ hx3)
    have hx3:d2.size=n/\d2=if u - a>=2 then shiftDown ltInt (u - 1) d2 else d2:=⟨hs2,(if_neg (by simp at hc4; omega)).symm⟩
    refine au 2120 ?_;refine bA [0,1,2,7,8] ?_;refine bC [(j,_)] ?_;exact H _ (hd2 ▸ hx3)
   ·rintro d3 ⟨hs3,hd3e⟩;refine bG nQ ?_;refine' TK.shr (X:=Array Int) (D:=fun x=>x.size=n/\x=if b - u>=2 then shiftUp ltInt b (u+1) d3 else d3) (E:=fun x=>.sl j 0 n::intA a::intA b::naL 4 (intA u::intA (5 - ((s+1:Nat):Int))::naL 124 [])) (KK:=fun x=>[(j,.row (x.toList.map intA) 3 1)]) ?_ ?_;rotate_left
    ·intro H;refine au 937240114 ?_;constructor<;>intro hc7
     ·have h3:b - u>=2:=by simp at hc7; omega
      refine au 13035230142 ?_;refine bA [0,1,2,7,8,10] ?_;refine bE (fun n1 env K=>∃ (v:Nat) (d4:Array Int),n1=b - v/\u+1<=v/\v<=b/\d4.size=n/\shiftUp ltInt b v d4=shiftUp ltInt b (u+1) d3/\env=.sl j 0 n::intA a::intA b::naL 4 (intA u::intA (5 - ((s+1:Nat):Int))::.any::intA v::naL 122 [])/\K=[(j,.row (d4.toList.map intA) 3 1)]) (b - (u+1)) ⟨u+1,d3,rfl,mL _,oQ,hs3,rfl,rfl,rfl⟩ fun n1 env K hI hnext3=>?_;obtain ⟨v,d4,rfl,huv,hvb,hs4,heq4,rfl,rfl⟩:=hI;refine bG nQ ?_;refine au 93711422 ?_;constructor<;>intro hc8
      ·have hvl:v<b:=by simp at hc8; omega
       refine au 221302120 ?_;refine bL [0,1,2,3,4,5,6,7,8,9,10] ?_;refine ad [[1,0],[1,10],[2,106,107]] ?_;refine bT [108] Z (hq:=zm Z Z zi.h (mC _) (ji (i:=v) oQ oQ)) (h:=?_);refine ad [[1,0],[1,10],[9,111],[2,110,112]] ?_;refine bT [113] Z (hq:=zm Z Z zi.h (mC _) (ji (i:=v - 1) oQ oQ)) (h:=?_);refine bQ (pend':=[⟨7,[110,112],[]⟩,⟨6,[111],[]⟩,⟨5,[10],[]⟩,⟨4,[0],[]⟩,⟨2,[106,107],[]⟩,⟨1,[10],[]⟩,⟨0,[0],[]⟩]) [109,114] Z Z Z Z Z (zha hT) (fun r25 K26 h27=>⟨?_,?_⟩)
       ·rcases h27 with ⟨rfl,rfl⟩
        all_goals simp
       obtain ⟨rfl,rfl⟩:=h27;try simp only [cA]
       refine bS tQ ?_;refine bU [115] Z (q_not Z Z) ?_;refine ad [[14]] ?_;refine au 9 ?_;constructor<;>intro hc9
       ·have hx4:d4.size=n/\d4=if b - u>=2 then shiftUp ltInt b (u+1) d3 else d3:=⟨hs4,by rw [if_pos h3,<- heq4]; exact (jbA hvl hc9).symm⟩
        refine au 140160 ?_;refine bA [0,1,2,7,8] ?_;refine bC [(j,_)] ?_;exact H _ hx4
       refine au 120 ?_;refine bL [0,1,5,6,7,8,9,10,11,12,13,14,15,2,3,4,16,17] ?_;refine ad [[1,0],[1,10],[1,0],[1,10],[9,120],[1,0],[1,10],[9,123],[2,122,124]] ?_;refine bT [125] Z (hq:=zm Z Z zi.h (mC _) (ji (i:=v - 1) oQ oQ)) (h:=?_);refine ad [[1,0],[1,10],[2,127,128]] ?_;refine bT [129] Z (hq:=zm Z Z zi.h (mC _) (ji (i:=v) oQ oQ)) (h:=?_);refine ad [[2,117,118]] ?_;refine bR (pend':=[⟨12,[127,128],[]⟩,⟨11,[10],[]⟩,⟨10,[0],[]⟩,⟨4,[120],[]⟩,⟨3,[10],[]⟩,⟨2,[0],[]⟩]) [126,131] Z Z (zX Z Z zi.h Z Z mQ (jB (k:=v) oQ oQ)) ?_;refine ad [[2,119,121]] ?_;refine bR (pend':=[]) [130,132] Z Z (zX Z Z zi.h Z Z mQ (jC (i:=v) (j:=v - 1) oQ oQ)) ?_;refine ad [[14]] ?_;refine au 3523014140 ?_;refine bA [0,1,2,7,8,10] ?_;refine bC [(j,_)] ?_;exact hnext3 _ _ _ oQ ⟨v+1,swp d4 v (v - 1),rfl,oQ,oQ,jD hs4,(su_go hvl hc9).symm.trans heq4,rfl,rfl⟩
      have hx4:d4.size=n/\d4=if b - u>=2 then shiftUp ltInt b (u+1) d3 else d3:=⟨hs4,by rw [if_pos h3,<- heq4]; exact (jbO (by simp at hc8; omega)).symm⟩
      refine au 140160 ?_;refine bA [0,1,2,7,8] ?_;refine bC [(j,_)] ?_;exact H _ hx4
     have hx4:d3.size=n/\d3=if b - u>=2 then shiftUp ltInt b (u+1) d3 else d3:=⟨hs3,(if_neg (by simp at hc7; omega)).symm⟩
     refine au 140120 ?_;refine bA [0,1,2,7,8] ?_;refine bC [(j,_)] ?_;exact H _ hx4
    ·rintro d4 ⟨hd4,hd4e⟩;refine bG nQ ?_;refine au 3523014 ?_;refine bA [0,1,2,7,8] ?_;refine bC [(j,_)] ?_;exact hnext _ _ _ oQ ⟨s,u,d4,rfl,oQ,oQ,oQ,hd4,(pi_go hsc hub2 h50 hd3e hd4e).symm.trans heq,by rw [show (5:Int) - ((s+1:Nat):Int)+1=5 - (s:Int) by omega] <;> rfl,rfl⟩
 obtain rfl:s1=0:=by simp at hc0; omega
 have hq1:partialInsertionSort ltInt d a b=(d1,false):=heq.symm;refine au 3542160 ?_;refine bB hret [(j,_)] ?_;exact ⟨_,hq1,rfl,rfl⟩
instance:Cal tp 219:={}
instance:Cal tp 220:={}
instance:TyZA tp 263 [.v (.int .u64 0)]:={}
instance:Und tp 263 (.int .u64):={}
theorem jaf {main T} (hT:zo tp main T) {gm} {j n a b:Nat} {d:Array Int} (hd:d.size=n) (hn:n<256) (h8:a+8<=b) (hb:b<=n) :
  zA tp T gm 190 [.sl j 0 n,intA a,intA b] [(j,.row (d.toList.map intA) 3 1)] (fun r K'=>∃ d',PermIn a b d d'/\K'=[(j,.row (d'.toList.map intA) 3 1)]):=by
 refine zp 65 hT Tryz.func190 fun Y hret=>?_;refine au 2352401142 ?_;rw [show (b:Int) - (a:Int)=((b - a:Nat):Int) by omega];refine au 93714 ?_;constructor<;>intro hc0
 ·refine au 142 ?_;refine bH Z (yV Z Z Und.h Und.h (zb0 (n:=b - a) oQ)) ?_;refine au 220 ?_;intro jx hjx;refine au 1423170 ?_;refine bD Z Z Z Z (jaK hT (n:=b - a) oQ oQ) ?_;rintro r1 K2 ⟨M,hM1,hM2,rfl,rfl⟩;refine au 114235 ?_;refine bH Z (jM Z Z Z oQ oQ oQ) ?_;refine bH Z (q_mul Z Z Z oQ) ?_;refine au 13035240230 ?_;refine bA [0,1,6,7,8,9] ?_;obtain ⟨s0,hs0⟩:∃ s0:Nat,s0=a+(b - a) / 4*2 - 1:=⟨_,rfl⟩;refine bC [(j,_),(jx,_)] ?_;refine bE (fun n1 env K=>∃ (t:Nat) (x:Int) (d1:Array Int),n1=3 - t/\t<=3/\PermIn a b d d1/\d1.size=n/\env=.sl j 0 n::intA a::naL 4 (intA ((b - a:Nat):Int)::.ptr jx 0::.v (.int .u64 (M:Int))::intA (s0+t:Nat)::naL 55 [])/\K=[(j,.row (d1.toList.map intA) 3 1),(jx,.cells [.v (.int .u64 x)] 263 true)]) 3 ⟨0,_,d,rfl,oQ,permIn_refl d a b,hd,by rw [show (a:Int)+((b - a:Nat):Int) / 4*2 - 1=((s0+0:Nat):Int) by omega] <;> rfl,rfl⟩ fun n1 env K hI hnext=>?_;obtain ⟨t,x,d1,rfl,ht,hperm,hs1,rfl,rfl⟩:=hI;refine bG nQ ?_;refine au 111422 ?_;refine bH Z (jM Z Z Z oQ oQ oQ) ?_;refine bH Z (q_mul Z Z Z oQ) ?_;refine au 937230230 ?_;constructor<;>intro hc1
  ·have ht3:t<3:=by simp at hc1; omega
   refine au 421302120 ?_;refine bD Z Z Z Z (jaJ hT) ?_;rintro r4 K5 ⟨y,hy0,hy1,rfl,rfl⟩;refine au 1 ?_;refine bH Z (jbt Z Z Z oQ) ?_;rw [show (M:Int) - 1=((M - 1:Nat):Int) by omega];refine bH Z (jbr Z Z Z) ?_;refine' TK.shr (X:=Nat) (D:=fun x=>x<b - a) (E:=fun x=>.sl j 0 n::intA a::naL 4 (intA ((b - a:Nat):Int)::.ptr jx 0::.v (.int .u64 (M:Int))::intA (s0+t:Nat)::intA x::naL 54 [])) (KK:=fun x=>[(j,.row (d1.toList.map intA) 3 1),(jx,.cells [.v (.int .u64 y)] 263 true)]) ?_ ?_;rotate_left
   ·intro H;have hw:=ja8 y (b:=M - 1) oQ;obtain ⟨w,hwe⟩:∃ w:Nat,andW y ((M - 1:Nat):Int)=(w:Int):=⟨(andW y ((M - 1:Nat):Int)).toNat,oQ⟩;rw [hwe] at hw ⊢;refine bH Z (yV Z Z Und.h Und.h (we oQ)) ?_;refine au 9371142235 ?_;constructor<;>intro hc2
    ·have hwl:b - a<=w:=by simp at hc2; omega
     refine au 240114 ?_;rw [show (w:Int) - ((b - a:Nat):Int)=((w - (b - a):Nat):Int) by omega];refine au 35 ?_;refine bA [0,1,6,7,8,9,10] ?_;refine bC [(j,_),(jx,_)] ?_;exact H _ oQ
    have hwl:w<b - a:=by simp at hc2; omega
    refine au 120 ?_;refine bA [0,1,6,7,8,9,10] ?_;refine bC [(j,_),(jx,_)] ?_;exact H _ oQ
   ·rintro o ho;refine bG nQ ?_;refine bL [0,1,6,7,8,9,10,11,12,13,14,15,16,17,2,3,4,5,18,19] ?_;refine ad [[1,0],[1,9],[1,0],[1,1],[1,10],[8,50,51],[1,0],[1,1],[1,10],[8,54,55],[2,53,56]] ?_;refine bT [57] Z (hq:=zm Z Z zi.h (mC _) (ji (i:=a+o) oQ oQ)) (h:=?_);refine ad [[1,0],[1,9],[2,59,60]] ?_;refine bT [61] Z (hq:=zm Z Z zi.h (mC _) (ji (i:=s0+t) oQ oQ)) (h:=?_);refine ad [[2,47,48]] ?_;refine bR (pend':=[⟨14,[59,60],[]⟩,⟨13,[9],[]⟩,⟨12,[0],[]⟩,⟨5,[50,51],[]⟩,⟨4,[10],[]⟩,⟨3,[1],[]⟩,⟨2,[0],[]⟩]) [58,63] Z Z (zX Z Z zi.h Z Z mQ (jB (k:=s0+t) oQ oQ)) ?_;refine ad [[2,49,52]] ?_;refine bR (pend':=[]) [62,64] Z Z (zX Z Z zi.h Z Z mQ (jC (i:=s0+t) (j:=a+o) oQ oQ)) ?_;refine ad [[14]] ?_;refine au 3523014140 ?_;refine bA [0,1,6,7,8,9] ?_;refine bC [(j,_),(jx,_)] ?_;exact hnext _ _ _ oQ ⟨t+1,y,swp d1 (s0+t) (a+o),rfl,oQ,permIn_trans _ _ _ a b hperm (swp_permIn d1 a b _ _ oQ oQ oQ oQ oQ),jD hs1,rfl,rfl⟩
  refine au 160 ?_;refine TK.rt0 hret [(j,_)] ?_;exact ⟨d1,hperm,rfl⟩
 simp at hc0; omega
instance:Cal tp 189:={}
instance:Cal tp 190:={}
instance:Cal tp 191:={}
instance:Cal tp 192:={}
instance:Cal tp 193:={}
instance:Cal tp 195:={}
instance:Cal tp 196:={}
theorem jbp {main T} (hT:zo tp main T) {gm} {j n:Nat} (hn:n<256):∀ (m a b:Nat) (lim:Int) (d:Array Int),b - a=m->d.size=n->a<=b->b<=n->0<=lim/\lim<=1000->Below ltInt a b d ->
  zA tp T gm 160 [.sl j 0 n,intA a,intA b,intA lim] [(j,.row (d.toList.map intA) 3 1)] (fun r K'=>∃ d',PermIn a b d d'/\SortedIn ltInt a b d'/\K'=[(j,.row (d'.toList.map intA) 3 1)]):=by
 intro m
 induction m using Nat.strongRecOn with | ind m ih=>?_
 intro a b lim d hm hd hab hb hlim hB;refine zp 134 hT Tryz.func160 fun Y hret=>?_;refine au 13035423542 ?_;refine bA [0,1,2,3,8,9] ?_;refine bE (fun n1 env K=>∃ (u v:Nat) (l:Int) (w1 w2:Bool) (d1:Array Int),n1=v - u/\v - u<=m/\u<=v/\v<=n/\(0<=l/\l<=1000)/\d1.size=n/\Below ltInt u v d1/\(∀ R,PermIn u v d1 R->SortedIn ltInt u v R->PermIn a b d R/\SortedIn ltInt a b R)/\env=.sl j 0 n::intA u::intA v::intA l::naL 4 (zP w1::zP w2::naL 124 [])/\K=[(j,.row (d1.toList.map intA) 3 1)]) (b - a) ⟨a,b,lim,true,true,d,rfl,oQ,hab,hb,hlim,hd,hB,fun R h1 h2=>⟨h1,h2⟩,rfl,rfl⟩ fun n1 env K hI hnext=>?_;obtain ⟨u,v,l,w1,w2,d1,rfl,hm1,huv,hvn,hl,hs1,hB1,hfin,rfl,rfl⟩:=hI;refine bG nQ ?_;refine au 22352401142130 ?_;rw [show (v:Int) - (u:Int)=((v - u:Nat):Int) by omega];refine au 93714 ?_;constructor<;>intro hc0
 ·have hq:=insertionSort_holds swo_ltInt d1 u v huv oQ;have hz:=hfin _ hq.1 hq.2;refine au 11142 ?_;refine bD Z Z Z Z (jbg hT (d:=d1) hs1 oQ huv hvn) ?_;rintro r1 K2 rfl;refine au 3 ?_;refine bB hret [(j,_)] ?_;exact ⟨_,hz.1,hz.2,rfl⟩
 have h12:12<v - u:=by simp at hc0; omega
 refine au 9371422120 ?_;constructor<;>intro hc1
 ·have hq:=heapSort_holds swo_ltInt d1 u v huv oQ;have hz:=hfin _ hq.1 hq.2;refine au 11142 ?_;refine bD Z Z Z Z (jaF hT (d:=d1) hs1 oQ oQ hvn) ?_;rintro r4 K5 rfl;refine au 3 ?_;refine bB hret [(j,_)] ?_;exact ⟨_,hz.1,hz.2,rfl⟩
 refine' TK.shr (X:=Int×Array Int) (D:=fun x=>(0<=x.1/\x.1<=1000)/\PermIn u v d1 x.2) (E:=fun x=>.sl j 0 n::intA u::intA v::intA x.1::naL 4 (zP w1::zP w2::intA ((v - u:Nat):Int)::naL 123 [])) (KK:=fun x=>[(j,.row (x.2.toList.map intA) 3 1)]) ?_ ?_;rotate_left
 ·intro H;have hl0:l≠0:=fun h=>by rw [h] at hc1; simp at hc1
  refine au 933001422120 ?_;constructor<;>intro hc2
  ·refine au 11142 ?_;refine bD Z Z Z Z (jaf hT (d:=d1) hs1 hn oQ hvn) ?_;rintro r7 K8 ⟨d2,hp2,rfl⟩;refine au 235240143 ?_;refine bA [0,1,2,3,8,9,10] ?_;refine bC [(j,_)] ?_;exact H (l - 1,d2) ⟨by omega,hp2⟩
  have hp2:=permIn_refl d1 u v;refine au 2120 ?_;refine bA [0,1,2,3,8,9,10] ?_;refine bC [(j,_)] ?_;exact H (l,d1) ⟨by omega,hp2⟩
 ·rintro ⟨l2,d2⟩ ⟨hl2,hp2⟩; dsimp only at hl2 hp2 ⊢; have hs2:d2.size=n:=hp2.1.trans hs1; have hB2:=hB1.perm oQ hp2; have hfin2:∀ R,PermIn u v d2 R->SortedIn ltInt u v R->PermIn a b d R/\SortedIn ltInt a b R:=fun R h1 h2=>hfin R (permIn_trans _ _ _ u v hp2 h1) h2;refine bG nQ ?_;refine' TK.shr (X:=Nat×Int×Array Int) (D:=fun x=>(u<=x.1/\x.1<v)/\PermIn u v d2 x.2.2) (E:=fun x=>.sl j 0 n::intA u::intA v::intA l2::naL 4 (zP w1::zP w2::intA ((v - u:Nat):Int)::intA x.1::intA x.2.1::naL 121 [])) (KK:=fun x=>[(j,.row (x.2.2.toList.map intA) 3 1)]) ?_ ?_;rotate_left
  ·intro H;refine au 1114 ?_;refine bD Z Z Z Z (jbq hT (d:=d2) hs2 oQ oQ hvn) ?_;rintro r214 K215 ⟨p,hh,hp1,hpv,rfl,rfl⟩;refine au 9371422355661 ?_;constructor<;>intro hc3
   ·have hp3:=reverseRange_holds d2 u v huv oQ;refine au 11142 ?_;refine bD Z Z Z Z (jbu hT (d:=d2) hs2 oQ oQ hvn) ?_;rintro r217 K218 rfl;refine au 5240240112401423 ?_;rw [show (v:Int) - 1 - ((p:Int) - (u:Int))=((v - 1 - (p - u):Nat):Int) by omega];refine au 223543 ?_;refine bA [0,1,2,3,8,9,10,11,12] ?_;refine bC [(j,_)] ?_;exact H (v - 1 - (p - u),1,_) ⟨by omega,hp3⟩
   have hp3:=permIn_refl d2 u v;refine au 22120 ?_;refine bA [0,1,2,3,8,9,10,11,12] ?_;refine bC [(j,_)] ?_;exact H (p,hh,d2) ⟨by omega,hp3⟩
  ·rintro ⟨p,hh,d3⟩ ⟨⟨hpu,hpv⟩,hp3⟩; dsimp only at hpu hpv hp3 ⊢; have hs3:d3.size=n:=hp3.1.trans hs2; have hB3:=hB2.perm oQ hp3; have hfin3:∀ R,PermIn u v d3 R->SortedIn ltInt u v R->PermIn a b d R/\SortedIn ltInt a b R:=fun R h1 h2=>hfin2 R (permIn_trans _ _ _ u v hp3 h1) h2;refine bG nQ ?_;refine' TK.shr (X:=Array Int) (D:=fun x=>PermIn u v d3 x) (E:=fun x=>.sl j 0 n::intA u::intA v::intA l2::naL 4 (zP w1::zP w2::intA ((v - u:Nat):Int)::intA p::naL 122 [])) (KK:=fun x=>[(j,.row (x.toList.map intA) 3 1)]) ?_ ?_;rotate_left
   ·intro H;refine au 114 ?_;refine TK.sp 62 (fun g15_2=>?_) (fun g15_2=>?_)
    ·refine au 12601 ?_;refine TK.sp 65 (fun g15_5=>?_) (fun g15_5=>?_)
     ·refine au 9326071 ?_;constructor<;>intro hc4
      ·refine au 11142 ?_;refine bD Z Z Z Z (jbo hT (d:=d3) hs3 oQ oQ hvn) ?_;rintro r319 K320 ⟨q,hqe,rfl,rfl⟩;refine au 93 ?_;constructor<;>intro hc5
       ·have hpi:=partialInsertionSort_holds swo_ltInt d3 u v oQ oQ hB3;rw [hqe] at hpi;have hz:=hfin3 _ hpi.1 (hpi.2 hc5);refine au 0 ?_;refine bB hret [(j,_)] ?_;exact ⟨_,hz.1,hz.2,rfl⟩
       have hp4:=(partialInsertionSort_holds swo_ltInt d3 u v oQ oQ hB3).1;rw [hqe] at hp4;refine au 22120 ?_;refine bA [0,1,2,3,8,9,10,11] ?_;refine bC [(j,_)] ?_;exact H _ hp4
      have hp4:=permIn_refl d3 u v;refine au 22120 ?_;refine bA [0,1,2,3,8,9,10,11] ?_;refine bC [(j,_)] ?_;exact H _ hp4
     have hp4:=permIn_refl d3 u v;refine au 22120190325088 ?_;refine bA [0,1,2,3,8,9,10,11] ?_;refine bC [(j,_)] ?_;exact H _ hp4
    have hp4:=permIn_refl d3 u v;refine au 2212019032508812508 ?_;refine bA [0,1,2,3,8,9,10,11] ?_;refine bC [(j,_)] ?_;exact H _ hp4
   ·rintro d4 hp4; have hs4:d4.size=n:=hp4.1.trans hs3; have hB4:=hB3.perm oQ hp4; have hfin4:∀ R,PermIn u v d4 R->SortedIn ltInt u v R->PermIn a b d R/\SortedIn ltInt a b R:=fun R h1 h2=>hfin3 R (permIn_trans _ _ _ u v hp4 h1) h2;refine bG nQ ?_;refine' TK.shr (X:=Unit) (D:=fun x=>True) (E:=fun x=>.sl j 0 n::intA u::intA v::intA l2::naL 4 (zP w1::zP w2::intA ((v - u:Nat):Int)::intA p::naL 122 [])) (KK:=fun x=>[(j,.row (d4.toList.map intA) 3 1)]) ?_ ?_;rotate_left
    ·intro H;refine bL [0,1,2,3,4,5,6,7,8,9,10,11,12,13,14] ?_;refine ad [[1,1],[4,73],[1,74]] ?_;refine bW 75 (fun g17_3=>?_) (fun g17_3=>?_)
     ·have hu0:0<u:=by simp at g17_3; omega
      refine ad [[1,0,75],[1,1,75],[9,75,77],[2,75,76,78]] ?_;refine bT [75,79] Z (hq:=zm Z Z zi.h (mC _) (ji (i:=u - 1) oQ oQ)) (h:=?_);refine ad [[1,0,75],[1,11,75],[2,75,81,82]] ?_;refine bT [75,83] Z (hq:=zm Z Z zi.h (mC _) (ji (i:=p) oQ oQ)) (h:=?_);refine bQ (pend':=[⟨10,[75,81,82],[]⟩,⟨9,[11,75],[]⟩,⟨8,[0,75],[]⟩,⟨6,[75,76,78],[]⟩,⟨5,[75,77],[]⟩,⟨4,[1,75],[]⟩,⟨3,[0,75],[]⟩,⟨1,[73],[]⟩,⟨0,[1],[]⟩]) [75,80,84] Z Z Z Z Z (zha hT) (fun r394 K395 h396=>⟨?_,?_⟩)
      ·rcases h396 with ⟨rfl,rfl⟩
       all_goals simp
      obtain ⟨rfl,rfl⟩:=h396;try simp only [cA]
      refine bS tQ ?_;refine bU [75,85] Z (q_not Z Z) ?_;refine ad [[7,75,86],[14]] ?_;refine au 9 ?_;constructor<;>intro hc6
      ·have hnl:ltInt d4[u - 1]! d4[p]! =false:=by cases hh:ltInt d4[u - 1]! d4[p]! with
        | false=>rfl
        | true=>exact absurd (show (!ltInt d4[u - 1]! d4[p]!)=true from hc6) (by rw [hh]; decide)
       refine au 111142 ?_;refine bD Z Z Z Z (jab hT (d:=d4) hs4 oQ hpu hpv hvn) ?_;rintro r397 K398 ⟨q,hqe,rfl,rfl⟩;refine au 0 ?_;obtain ⟨hr1,hr2,hr3,hr4,hr5⟩:=round_eq swo_ltInt (partitionEqual_holds ltInt) hu0 hpu hpv oQ hB4 hnl (show partitionEqual ltInt d4 u v p=(q.1,q.2) from hqe);refine au 1603514235 ?_;refine bA [0,1,2,3,8,9] ?_;refine bC [(j,_)] ?_;exact hnext _ _ _ oQ ⟨q.1,v,l2,w1,w2,q.2,rfl,oQ,oQ,hvn,hl2,hr3.trans hs4,hr4,fun R h1 h2=>(hr5 R h1 h2).elim fun h3 h4=>hfin4 R h3 h4,rfl,rfl⟩
      refine au 2120 ?_;refine bA [0,1,2,3,8,9,10,11] ?_;refine bC [(j,_)] ?_;exact H () trivial
     refine ad [[11,0,75],[11,1,75],[11,75,77],[11,75,76,78],[11,75,79],[11,0,75],[11,11,75],[11,75,81,82],[11,75,83],[11,75,80,84],[11,75,85],[6,75,86],[14]] ?_;refine au 2120190 ?_;refine bA [0,1,2,3,8,9,10,11] ?_;refine bC [(j,_)] ?_;exact H () trivial
    ·rintro _ _;refine bG nQ ?_;refine au 11114 ?_;refine bD Z Z Z Z (jaM hT (d:=d4) hs4 oQ hpu hpv hvn) ?_;rintro r409 K410 ⟨q,hqe,rfl,rfl⟩;refine au 0 ?_;obtain ⟨hr1,hr2,hr3,hr4,hr5,hr6,hr7⟩:=round_part swo_ltInt (partition_holds ltInt) hpu hpv oQ hB4 (show partition ltInt d4 u v p=(q.1,q.2.1,q.2.2) from hqe);refine au 235524011240114235142355661 ?_;rw [show (q.1:Int) - (u:Int)=((q.1 - u:Nat):Int) by omega,show (v:Int) - (q.1:Int)=((v - q.1:Nat):Int) by omega];refine au 14 ?_;refine bH Z (jM Z Z Z oQ oQ oQ) ?_;refine au 937114235 ?_;constructor<;>intro hc7
     ·refine au 1111423571142 ?_;refine bD Z Z Z Z (ih (q.1 - u) oQ u q.1 l2 q.2.2 Z (by rw [hr3]; exact hs4) hr1 oQ hl2 hr4) ?_;rintro r412 K413 ⟨L,hL1,hL2,rfl⟩;refine au 0 ?_;have hbl:=hr6 L hL1 hL2;refine au 14035230143 ?_;refine bA [0,1,2,3,8,9] ?_;refine bC [(j,_)] ?_;exact hnext _ _ _ oQ ⟨q.1+1,v,l2,_,q.2.1,L,rfl,oQ,oQ,hvn,hl2,hL1.1.trans (hr3.trans hs4),hbl.1,fun R h1 h2=>(hbl.2 R h1 h2).elim fun h3 h4=>hfin4 R h3 h4,rfl,rfl⟩
     refine au 1123011423571142 ?_;refine bD Z Z Z Z (ih (v - (q.1+1)) oQ (q.1+1) v l2 q.2.2 Z (by rw [hr3]; exact hs4) oQ hvn hl2 hr5) ?_;rintro r415 K416 ⟨L,hL1,hL2,rfl⟩;refine au 0 ?_;have hbl:=hr7 L hL1 hL2;refine au 14035143 ?_;refine bA [0,1,2,3,8,9] ?_;refine bC [(j,_)] ?_;exact hnext _ _ _ oQ ⟨u,q.1,l2,_,q.2.1,L,rfl,oQ,oQ,oQ,hl2,hL1.1.trans (hr3.trans hs4),hbl.1,fun R h1 h2=>(hbl.2 R h1 h2).elim fun h3 h4=>hfin4 R h3 h4,rfl,rfl⟩
theorem jav {n:Nat} {xs:List Int} {d:Array Int} (hp:PermIn 0 n xs.toArray d) (hs:SortedIn ltInt 0 n d) (hn:xs.length=n):d.toList=xs.mergeSort fun x y=>decide (x<=y):=by
 subst hn;have:=sorted_unique_holds (lt:=ltInt) swo_ltInt (fun x y h1 h2=>by have h3:=of_decide_eq_false h1; have h4:=of_decide_eq_false h2; omega) xs.toArray d (by simpa using hp) (by simpa using hs);rw [this];congr 1;funext x y;unfold ltInt;by_cases h:x<=y
 ·rw [decide_eq_true h,decide_eq_false oQ]; rfl
 ·rw [decide_eq_false h,decide_eq_true oQ]; rfl
theorem jaV {main T} (hT:zo tp main T) {gm} {j n:Nat} {xs:List Int} (hn:xs.length=n) (h256:n<256) :
  zA tp T gm 131 [.row j n] [(j,.row (xs.map intA) 3 1)] (fun r K'=>K'=[(j,.row ((xs.mergeSort fun x y=>decide (x<=y)).map intA) 3 1)]):=by
 refine zp 11 hT Tryz.func131 fun Y hret=>?_;refine au 2 ?_;refine bZ 0 Z (mC _) ?_;refine au 11143528014 ?_;refine bH Z (yV Z Z Und.h Und.h (zb0 (n:=n) oQ)) ?_;refine bD Z Z Z Z (xp hT (n:=n) oQ) ?_ (hs:=(.none _));rintro r1 K2 ⟨m,rfl,hm8,hm2,rfl⟩;refine au 0 ?_;refine bD Z Z Z Z (jbp hT (j:=j) (n:=n) h256 n 0 n (m:Int) xs.toArray (Nat.sub_zero n) (by simpa using hn) (mN _) (mL _) oQ (.inl Z)) ?_;rintro r4 K5 ⟨d2,hp,hs,rfl⟩;refine au 3 ?_;refine TK.rt0 hret [(j,_)] ?_;rw [jav hp hs hn]
end Go.Vel
namespace Go.Vel
open Go Go.Conc Go.Proofs
theorem qF {main:Bool} {T:Goroutine->Hp->Prop} (hT:zo tp main T)  {b:RBk} {s h e:Nat} (hl:b.seams.length<=100) (hm:b.measures.length<=100) {n:Int}  :
  zA tp T gmR 52 [.agg (zE b s h e),intA n] [(0,zy),(s,zk b),(h,zB b),(e,zq b)] (fun r K'=>(bar2 (zr b) (thereM b n)≠0/\r=.tup [.v (.slice none 0 0),intA (bar2 (zr b) (thereM b n))]/\K'=[(0,zy),(s,zk b),(h,zB b),(e,zq b)])\/(bar2 (zr b) (thereM b n)=0/\zf b=[]/\r=.tup [.v (.slice none 0 0),intA 9]/\K'=[(0,zy),(s,zk b),(h,zB b),(e,zq b)])\/(bar2 (zr b) (thereM b n)=0/\zf b≠[]/\∃ jr zs,r=.tup [.sl jr 0 (shrI b n).length,intA 0]/\K'=(jr,.cells ((shrI b n++zs).map intA) 3 false)::[(0,zy),(s,zk b),(h,zB b),(e,zq b)])):=by
 refine zp 40 hT Tryz.func52 fun Y hret=>?_;refine au 21042 ?_;intro jb hjb;refine au 320168042355 ?_;refine bI Z Z Z (zt (l:=[_]) Z zF.h TyZ.h dQ dQ Z) (fun _=>zu rfl tQ) fun ja hja=>?_;refine bD Z Z Z Z (uK hT (Kx:=[]) (p1:=thereM b n) (fun h0=>yx Cal.h ((uo hT (b:=b) (s:=s) (h:=h) (e:=e) (n:=n) (zZ h0).sms.len.2).frameP (R:=[(s,zk b)]) (List.Perm.refl _))) hl hm) ?_;rintro r1 K2 h3;rcases h3 with ⟨hbar,rfl,rfl⟩ | ⟨hbar,hnil,rfl,rfl⟩ | ⟨hbar,hne,a,rfl,rfl⟩
 ·refine au 220661 ?_;intro j6 hj6;refine au 937142235170 ?_;constructor<;>intro hc0
  ·
   refine au 355142 ?_;refine bB hret [(0,_),(s,_),(h,_),(e,_)] ?_;exact .inl ⟨hbar,rfl,rfl⟩
  exact absurd hbar (by simpa using hc0)
 ·refine au 220661 ?_;intro j6 hj6;refine au 937142235170 ?_;constructor<;>intro hc0
  ·
   refine au 355142 ?_;refine bB hret [(0,_),(s,_),(h,_),(e,_)] ?_;exact .inr (.inl ⟨hbar,hnil,rfl,rfl⟩)
  exact absurd hc0 dQ
 ·refine au 220661 ?_;intro j6 hj6;refine au 937142235170 ?_;constructor<;>intro hc0
  ·exact absurd hc0 sQ
  have hbb:=zZ (kF hbar);have hth:=zak (kc hbar);have hs5:=hbb.sms.len;have hpos:0<(zf b).length:=List.length_pos_iff.2 hne;have hlen:=kg hbb;refine au 542120 ?_;refine TK.virt 8 3 1 Z fun jt0 hjt0=>?_;refine au 130312806906704223 ?_;refine bA [1,4,5,6,8,23,24,25] ?_;refine bC [(a,_),(0,_),(s,_),(h,_),(e,_),(j6,_),(jt0,_)] ?_;refine bE (fun n1 env K=>∃ (i jt:Nat),n1=(zf b).length - i/\i<=(zf b).length/\env=.any::intA n::naL 2 (.v (.slice none 0 0)::intA 0::.ptr j6 0::.any::.row jt i::naL 14 (.sl a 0 (zf b).length::intA (zf b).length::intA i::naL 14 []))/\K=[(a,allO (zf b)),(0,zy),(s,zk b),(h,zB b),(e,zq b),(j6,.cells (knownC b s h e a (zf b).length) 139 true),(jt,.row ((((zf b).take i).map fun s=>zN s n.toNat).map intA) 3 1)]) (zf b).length ⟨0,jt0,rfl,mN _,rfl,rfl⟩ fun n1 env K hI hnext=>?_;obtain ⟨i,jt,rfl,hi,rfl,rfl⟩:=hI;refine bG nQ ?_;refine au 923742 ?_;constructor<;>intro hc1
  ·have hil:i<(zf b).length:=by simp at hc1; omega
   obtain ⟨st,hst⟩:∃ st,(zf b)[i]? =some st:=⟨_,lA hil⟩;refine au 360421302120 ?_;refine bH Z (ya Z Z zi.h mQ (zaL (i:=i) hst Z)) ?_;refine au 220 ?_;intro j10 hj10;refine au 1143170 ?_;refine bH Z (wA Z Z Z ArEl.h oQ oQ) ?_;refine bH Z (zm Z Z zi.h mQ (st_at (i:=n.toNat) oQ oQ)) ?_;refine bI Z Z Z (zt (l:=[_]) Z zF.h TyZ.h dQ dQ Z) (fun _=>zu rfl tQ) fun j4 hj4=>?_;refine bO Z Z Z (a_app Z ApOf.h Z mQ (by simp; omega) Z (yw (ln:=[_]) mQ dQ sQ Z) oQ Z (by unfold maxLen; omega) oQ) (fun _=>uQ) (fun _=>zu rfl tQ) fun jt2=>?_;refine au 31230414035 ?_;refine bA [1,4,5,6,8,23,24,25] ?_;refine bC [(a,_),(0,_),(s,_),(h,_),(e,_),(j6,_),(jt2,_)] ?_;exact hnext _ _ _ oQ ⟨i+1,jt2,rfl,oQ,rfl,by rw [yQ hst,lM,lM]; rfl⟩
  obtain rfl:i=(zf b).length:=by simp at hc1; omega
  rw [List.take_of_length_le (mL _)];have hsl2:(msI ((zf b).map fun s=>zN s n.toNat)).length=(zf b).length:=by rw [qO,lJ]
  refine au 142160 ?_;refine bD Z Z Z Z (jaV hT (xs:=((zf b).map fun s=>zN s n.toNat)) sQ oQ) ?_;rintro r5 K6 rfl;refine au 1423 ?_;refine bD Z Z Z Z (zdm hT (xs:=msI ((zf b).map fun s=>zN s n.toNat)) hsl2 oQ) ?_;rintro r8 K9 h10;rcases h10 with ⟨zs,rfl,rfl⟩ | ⟨rfl,hcm,rfl⟩
  ·refine au 0 ?_;refine bY (j:=jt) ?_;refine au 355 ?_;refine bB hret [(jt,_),(0,_),(s,_),(h,_),(e,_)] ?_;exact .inr (.inr ⟨hbar,hne,jt,zs,rfl,rfl⟩)
  ·refine au 0 ?_;refine bZ 39 Z (mC _) ?_;refine bY (j:=jt) ?_;refine au 355 ?_;refine bB hret [(jt,_),(0,_),(s,_),(h,_),(e,_)] ?_;exact .inr (.inr ⟨hbar,hne,jt,[],by unfold shrI setI; rw [hcm,hsl2],by unfold shrI setI; rw [hcm,lR]⟩)
instance:Cal tp 136:={}
instance:Cal tp 78:={}
end Go.Vel
end
