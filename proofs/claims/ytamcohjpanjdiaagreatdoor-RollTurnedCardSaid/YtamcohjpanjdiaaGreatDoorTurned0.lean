/- The law RollTurned: a book that begins at another seam tells the same at other indexes. It holds of every program, tape and world that the statements name, as each theorem says. -/
import Derived.Sort.AssemblyPlain
import Derived.Sort.LotD3
import Derived.Test.YtamcohjpanjdiaaGreatDoorJ6
import Derived.Test.YtamcohjpanjdiaaGreatDoorJ7
import Derived.Test.YtamcohjpanjdiaaGreatDoorJ8
import Derived.Test.YtamcohjpanjdiaaGreatDoorJ10
section
set_option linter.all false
set_option maxRecDepth 20000
set_option maxHeartbeats 60000000
open Go.Proofs.Tryz renaming prog -> tp
open List renaming getElem?_eq_getElem -> lA, nil_append -> lC, getElem?_eq_some_iff -> lD, getD_eq_getElem?_getD -> lE, length_append -> lF, mem_cons -> lI, length_map -> lJ, map_append -> lM, mem_of_getElem? -> lN, getElem?_map -> lQ, append_nil -> lR, mem_singleton -> lS, mem_append -> lT, getElem?_eq_none -> lU, take_length -> lW, getElem?_set -> lX, mem_map -> lY, length_cons -> lZ, replicate -> mB
open List.Mem renaming head -> mC
open Nat renaming le_refl -> mL, zero_le -> mN, zero_add -> mO, eq_zero_or_pos -> mP, lt_or_ge -> mR
open Bool renaming and_eq_true -> mX
open Int renaming toNat_natCast -> mZ
open Go.Vel.TK renaming maskL -> bA, rt -> bB, kp -> bC, cl -> bD, loopN -> bE, na -> bG, a -> bH, newR -> bI, dq -> bL, appR -> bO, frzRow -> bY, asSl -> bZ
open Go.Vel.TD renaming cl -> bQ, s -> bR, norm -> bS, y -> bT, z -> bU, sp -> bW
namespace Go.Vel
open Go Go.Conc
theorem xq {xs:List Int} (hs:∀ i j,i<j->j<xs.length->zN xs i<=zN xs j):∀ p,p<=xs.length->(compN xs p).Pairwise (· < ·)/\(∀ z,z∈compN xs p↔z∈xs.take p)/\(∀ z∈compN xs p,0<p/\z<=zN xs (p - 1))
 | 0,_=>⟨.nil,fun z=>by simp [compN],fun z hz=>by cases hz⟩
 | 1,h=>by
  have e:xs.take 1=[zN xs 0]:=by rw [yQ (z6 (l:=xs) (k:=0) oQ)]; rfl
  refine ⟨?_,fun z=>Iff.rfl,fun z hz=>?_⟩
  ·show (xs.take 1).Pairwise _;rw [e]; exact List.pairwise_singleton _ _
  ·have hz:z∈xs.take 1:=hz;rw [e] at hz;exact ⟨by omega,by rw [lS.1 hz]; exact Int.le_refl _⟩
 | p+2,h=>by
  obtain ⟨h1,h2,h3⟩:=xq hs (p+1) oQ;have hle:=hs p (p+1) oQ oQ;have ht:xs.take (p+2)=xs.take (p+1)++[zN xs (p+1)]:=yQ (z6 oQ);by_cases e:zN xs p=zN xs (p+1)
  ·rw [vY e];have hm:zN xs p∈xs.take (p+1):=by rw [yQ (z6 (l:=xs) (k:=p) oQ)]; simp
   refine ⟨h1,fun z=>?_,fun z hz=>⟨by omega,?_⟩⟩
   ·rw [ht,h2 z,lT,lS];exact ⟨.inl,fun hh=>hh.elim id fun hh=>by rw [hh,<- e]; exact hm⟩
   ·have:=(h3 z hz).2;rw [Nat.add_sub_cancel] at this;show z<=zN xs (p+1);omega
  ·rw [vZ e];refine ⟨List.pairwise_append.2 ⟨h1,List.pairwise_singleton _ _,fun x hx y hy=>?_⟩,fun z=>?_,fun z hz=>⟨by omega,?_⟩⟩
   ·rw [lS.1 hy];have:=(h3 x hx).2;rw [Nat.add_sub_cancel] at this;omega
   ·rw [ht,lT,lT,h2 z]
   ·show z<=zN xs (p+1);rcases lT.1 hz with hz | hz
    ·have:=(h3 z hz).2;rw [Nat.add_sub_cancel] at this;omega
    ·rw [lS.1 hz]; exact Int.le_refl _
theorem xV {l m:List Int} (hl:l.Pairwise (· < ·)) (hm:m.Pairwise (· < ·)) (h:∀ z,z∈l↔z∈m):l=m:=by
 have h1:l.Perm m:=(List.perm_ext_iff_of_nodup (hl.imp fun h=>by omega) (hm.imp fun h=>by omega)).2 h;exact h1.eq_of_pairwise (le:=fun a b=>a<b) (fun a b _ _ h1 h2=>by omega) hl hm
def msI (xs:List Int):List Int:=xs.mergeSort fun x y=>decide (x<=y)
theorem jag (xs:List Int):(msI xs).length=xs.length:=(List.mergeSort_perm ..).length_eq
theorem jbs {xs:List Int} {z:Int}:z∈msI xs↔z∈xs:=(List.mergeSort_perm ..).mem_iff
theorem jaf (xs:List Int):∀ i j,i<j->j<(msI xs).length->zN (msI xs) i<=zN (msI xs) j:=fun i j hij hj=>by
 have hp:(msI xs).Pairwise fun x y=>decide (x<=y)=true:=List.pairwise_mergeSort (le:=fun x y:Int=>decide (x<=y)) (fun a b c h1 h2=>decide_eq_true (Int.le_trans (of_decide_eq_true h1) (of_decide_eq_true h2))) (fun a b=>by rcases Int.le_total a b with h | h <;> simp [h]) xs;have h1:=z6 (l:=msI xs) (k:=i) oQ;have h2:=z6 hj;have:=List.pairwise_iff_getElem.1 hp i j oQ hj hij;rw [lA oQ] at h1;rw [lA hj] at h2;rw [Option.some.inj h1,Option.some.inj h2] at this;exact of_decide_eq_true this
def setI (xs:List Int):List Int:=compM (msI xs)
theorem jO (xs:List Int):(setI xs).Pairwise (· < ·):=(xq (jaf xs) _ (mL _)).1
theorem jV {xs:List Int} {z:Int}:z∈setI xs↔z∈xs:=by
 have:=(xq (jaf xs) _ (mL _)).2.1 z;rw [lW] at this;exact this.trans jbs
theorem ja7 {xs ys:List Int} (h:∀ z,z∈xs↔z∈ys):setI xs=setI ys:=xV (jO _) (jO _) fun z=>by rw [jV,jV]; exact h z
theorem ja8 (xs:List Int):(setI xs).length<=xs.length:=by
 have h:(setI xs).length<=(msI xs).length:=zbA (msI xs) _ (mL _);rwa [jag] at h
def shrI (b:RBk) (n:Int):List Int:=setI ((zf b).map fun s=>zN s n.toNat)
theorem xl (b:RBk) (all:List (List Int)) (l:List Int):sqOk b all l=true↔∀ s∈all,(hangM b l s).isSome=true:=by
 unfold sqOk squaresM waysM;have key:(all.filterMap (hangM b l)).length<all.length↔¬ ∀ s∈all,(hangM b l s).isSome=true:=by
  induction all with
  | nil=>simp
  | cons s r ih =>
   have hle:(r.filterMap (hangM b l)).length<=r.length:=List.length_filterMap_le _ _;cases hs:hangM b l s with
   | none =>
    rw [List.filterMap_cons_none hs];simp [hs];omega
   | some z =>
    rw [List.filterMap_cons_some hs,lZ,lZ,Nat.succ_lt_succ_iff,ih];simp [hs]
 by_cases h:(all.filterMap (hangM b l)).length<all.length
 ·rw [if_pos h];simp only [Option.isSome_none,Bool.false_eq_true,false_iff];exact key.1 h
 ·rw [if_neg h];simp only [Option.isSome_some,true_iff];exact Classical.not_not.1 fun hh=>h (key.2 hh)
theorem qr (b:RBk) (r:Int) (s:List Int) (c:Nat):∀ k,togM (atRound b r) s c k=togM b s c k
 | 0=>rfl
 | k+1=>by
  unfold togM;rw [qr b r s c k];rfl
theorem qV (b:RBk) (r:Int) (s:List Int):rightM (atRound b r) s=rightM b s:=by
 unfold rightM;congr 1;funext m;rw [qr]
theorem xR (b:RBk) (r:Int):∀ (l:List RBand) (p:List Int),fromM (atRound b r) p l=fromM b p l
 | [],p=>by unfold fromM; rw [qV]
 | x::l,p=>by
  unfold fromM;congr 1;funext n;exact xR b r l _
theorem xy (b:RBk) (r:Int):zf (atRound b r)=zf b:=xR b r _ _
theorem jaP:∀ m:Fin 6,∀ k:Fin 5,k.1<m.1->zw (2 ^ k.1) m.1=[(k.1:Int)]:=by decide
theorem qy:∀ i,zw 0 i=[]
 | 0=>rfl
 | i+1=>by unfold zw; rw [qy i,Nat.zero_div]; rfl
theorem xf (c m:Nat):∀ i,i<=m->zw (c % 2 ^ m) i=zw c i
 | 0,_=>rfl
 | i+1,h=>by
  unfold zw;rw [xf c m i oQ];have h1:=Nat.testBit_mod_two_pow c m i;rw [Nat.testBit_eq_decide_div_mod_eq,Nat.testBit_eq_decide_div_mod_eq,decide_eq_true (show i<m by omega),Bool.true_and] at h1;have h2:(c % 2 ^ m / 2 ^ i % 2=1)=(c / 2 ^ i % 2=1):=propext (by simpa using h1);simp only [h2]
def otherM (c n:Nat):List Int:=if zw c n=[] then [((c % n:Nat):Int)] else zw c n
theorem jap {c n:Nat} (h1:1<=n) (h5:n<=5):∃ d,0<d/\d<2 ^ n/\otherM c n=zw d n:=by
 unfold otherM;split
 ·have hm:=Nat.mod_lt c h1;exact ⟨2 ^ (c % n),Nat.two_pow_pos _,Nat.pow_lt_pow_right dQ hm,(jaP ⟨n,oQ⟩ ⟨c % n,oQ⟩ hm).symm⟩
 ·rename_i h;refine ⟨c % 2 ^ n,?_,Nat.mod_lt _ (Nat.two_pow_pos _),(xf c n n (mL _)).symm⟩;rcases mP (c % 2 ^ n) with h0 | h0
  ·exact absurd (by rw [<- xf c n n (mL _),h0]; exact qy n) h
  ·exact h0
theorem xF (x:List Int):smallerM x x=false:=by
 cases h:smallerM x x with
 | false=>rfl
 | true=>rw [kK,zf5] at h; omega
theorem jaO {b:RBk} {all:List (List Int)} {c d:Nat} (h:PlanA b all cheaperM c) (h0:0<d) (h1:d<2 ^ b.seams.length) (hs:sqOk b all (zw d b.seams.length)=true):sqHi b all (zw c b.seams.length)<=sqHi b all (zw d b.seams.length)/\(sqHi b all (zw c b.seams.length)<sqHi b all (zw d b.seams.length)\/smallerM (zw d b.seams.length) (zw c b.seams.length)=false):=by
 rcases h.2.2.2 d h0 h1 hs with e | e
 ·obtain ⟨e1,e2⟩:=Prod.mk.inj e;exact ⟨by omega,.inr (by rw [e1]; exact xF _)⟩
 ·rw [kU] at e;dsimp only at e;rcases e with e | ⟨e,e2⟩
  ·exact ⟨by omega,.inl e⟩
  ·exact ⟨by omega,.inr (ziF e2)⟩
theorem jbl {b:RBk} {all:List (List Int)} {c d:Nat} (h:PlanA b all shorterM c) (h0:0<d) (h1:d<2 ^ b.seams.length) (hs:sqOk b all (zw d b.seams.length)=true):smallerM (zw d b.seams.length) (zw c b.seams.length)=false:=by
 rcases h.2.2.2 d h0 h1 hs with e | e
 ·rw [(Prod.mk.inj e).1]; exact xF _
 ·exact ziF e
theorem x8 {b:RBk} {all:List (List Int)} {c:Nat} {bt:List Int×Int->List Int×Int->Bool} (h:PlanA b all bt c) (hn:NoPlan b all):False:=by
 have:=hn c h.1 h.2.1;rw [h.2.2.1] at this;cases this
theorem qO {b:RBk}:∀ (l:List RSeam) (last:Int),(∀ s∈l,seamB b s=true/\last<s.step)->(l.Pairwise fun s t=>s.step<t.step)->seamsL b last l=0
 | [],_,_,_=>rfl
 | s::r,last,h,hp=>by
  obtain ⟨p1,p2⟩:=List.pairwise_cons.1 hp;have h1:=h s sQ;unfold seamsL;rw [if_neg (by rw [h1.1]; decide),if_neg oQ];exact qO r _ (fun t ht=>⟨(h t (by simp [ht])).1,p1 t ht⟩) p2
theorem qe {b:RBk}:∀ (l:List RBand) (i:Nat),(∀ k x,l[k]? =some x->bandB x=true/\x.high<wideM b (i+k))->clothsL b i l=0
 | [],_,_=>rfl
 | x::r,i,h=>by
  have h1:=h 0 x rfl;unfold clothsL;rw [if_neg (by rw [h1.1]; decide),if_neg (by have:=h1.2; rw [Nat.add_zero] at this; omega)];exact qe r _ fun k y hy=>by
   have:=h (k+1) y (by simpa using hy);rwa [show i+(k+1)=i+1+k by omega] at this
theorem jae {b:RBk}:∀ (l:List RMeas),(∀ m∈l,0<=m.cloth/\m.cloth<b.seams.length/\1<=m.many/\m.many<=b.seams.length/\0<=m.wide/\m.wide<=24)->measL b l=0
 | [],_=>rfl
 | m::r,h=>by
  have h1:=h m sQ;have h2:thereM b m.cloth=0:=by unfold thereM; rw [if_pos (by simp [betw]; omega)]
  have h3:measB b m=true:=by simp only [measB,betw,mX,decide_eq_true_eq]; omega
  unfold measL;rw [if_neg (by rw [h2]; decide),if_neg (by rw [h3]; decide)];exact jae r fun y hy=>h y (by simp [hy])
theorem xJ {b:RBk} (h:ROk b):zr b=0:=by
 have hr:=h.rnd;have h1:roundsM b=0:=by
  unfold roundsM;rw [if_pos];simp only [betw,mX,decide_eq_true_eq];exact ⟨⟨⟨hr.steps,hr.round⟩,hr.roll⟩,hr.rolls⟩
 have hs:=h.sms;have sat:∀ i,(hi:i<b.seams.length)->b.seams[i]=sm b i:=fun i hi=>by
  have:=yW hi;rw [lA hi] at this;exact Option.some.inj this
 have h2:seamsM b=0:=by
  have hbl:betw b.seams.length 1 5=true:=by
   have:=hs.len;simp only [betw,mX,decide_eq_true_eq];omega
  unfold seamsM;rw [if_neg (by rw [hbl]; decide)];refine qO _ _ (fun s hm=>?_) (List.pairwise_iff_getElem.2 fun i j hi hj hij=>by rw [sat i hi,sat j hj]; exact hs.asc i j hij hj);obtain ⟨i,hi,rfl⟩:=List.getElem_of_mem hm;rw [sat i hi];have:=hs.fld i hi;exact ⟨by simp only [seamB,betw,mX,decide_eq_true_eq]; omega,oQ⟩
 have h3:clothsM b=0:=by
  unfold clothsM;rw [if_neg (by rw [h.cls.len]; simp)];refine qe _ _ fun k x hx=>?_;have hk:k<b.shrinks.length:=by
   rcases mR k b.shrinks.length with h | h
   ·exact h
   ·rw [lU h] at hx; cases hx
  rw [kq hk] at hx;cases hx;have:=h.cls.bnd k (by have:=h.cls.len; omega);exact ⟨by simp only [bandB,isBd,mX,decide_eq_true_eq]; omega,by rw [mO]; exact this.2.2.2.2⟩
 have h4:measM b=0:=by
  unfold measM;have:=h.mes.len;rw [if_neg oQ];exact jae _ h.mes.bnd
 unfold zr;rw [if_neg (by rw [h1]; decide),if_neg (by rw [h2]; decide),if_neg (by rw [h3]; decide)];exact h4
def jA (f:Nat->Int):Nat->Int
 | 0=>0
 | k+1=>jA f k+f k
theorem jB {f g:Nat->Int}:∀ n,(∀ i,i<n->f i=g i)->jA f n=jA g n
 | 0,_=>rfl
 | n+1,h=>by
  unfold jA;rw [jB n (fun i hi=>h i oQ),h n oQ]
theorem xp {f g:Nat->Int} {k:Nat}:∀ n,k<n->(∀ i,i≠k->g i=f i)->jA g n=jA f n - f k+g k
 | 0,h,_=>by omega
 | n+1,h,he=>by
  unfold jA;by_cases e:k=n
  ·subst e;rw [jB k (fun i hi=>he i oQ)];omega
  ·rw [xp n oQ he,he n (fun h=>e h.symm)];omega
theorem jR {f:Nat->Int} {n:Nat} (h:∀ i,n<=i->f i=0):∀ k,jA f (n+k)=jA f n
 | 0=>rfl
 | k+1=>by
  show jA f (n+k)+f (n+k)=_;rw [jR h k,h _ oQ,Int.add_zero]
theorem xn (f g:Nat->Int):∀ n,jA (fun i=>f i+g i) n=jA f n+jA g n
 | 0=>rfl
 | n+1=>by
  show jA (fun i=>f i+g i) n+(f n+g n)=jA f n+f n+(jA g n+g n);rw [xn f g n];omega
theorem qg {lt:Int->Int->Bool} {x:Int} {S:List Int}:∀ j,j<=S.length->(insJ lt x S j).Perm (x::S)
 | 0,_=>List.Perm.refl _
 | j+1,h=>by
  unfold insJ;rw [lA oQ];dsimp only;split
  ·exact qg j oQ
  ·have h1:=List.perm_middle (a:=x) (l₁:=S.take (j+1)) (l₂:=S.drop (j+1));rwa [List.take_append_drop] at h1
theorem xk {lt:Int->Int->Bool} {l:List Int}:∀ i,i<=l.length->(sortN lt l i).Perm (l.take i)
 | 0,_=>by rw [List.take_zero]; exact List.Perm.refl _
 | i+1,h=>by
  have hg:l[i]? =some l[i]:=lA oQ;rw [wD hg,yQ hg];exact (qg _ (mL _)).trans ((List.Perm.cons _ (xk i oQ)).trans (List.perm_append_singleton _ _).symm)
theorem qk (b:RBk) (l:List Int):(ordM b l).Nodup:=by
 unfold ordM sortR;refine (xk _ (mL _)).nodup_iff.2 ?_;rw [lW];unfold idxM;exact List.Pairwise.map _ (fun a b hab=>by intro h; exact hab oQ) List.nodup_range
theorem qD {L:List Int} {k i:Nat} {v:Int} (h:k<L.length):(L.set k v).getD i 0=if i=k then v else L.getD i 0:=by
 rw [lE,lX,lE];by_cases e:k=i
 ·rw [if_pos e,if_pos h,if_pos e.symm]; rfl
 ·rw [if_neg e,if_neg (fun hh=>e hh.symm)]
theorem qc {b:RBk} {l:List Int}:∀ (o:List Int) (z:Alloc),o.Nodup->(∀ k∈o,0<=k/\k<l.length)->(∀ k∈o,z.steps.getD k.toNat 0=0)->z.steps.length=l.length->0<=z.left->(∀ k∈o,0<=(cutS b l k.toNat).most)->(∀ i,0<=z.steps.getD i 0/\(i<l.length->z.steps.getD i 0<=(cutS b l i).most\/(i:Int)∈o)) ->
  jA (fun i=>(o.foldl (allocM b l) z).steps.getD i 0) l.length+(o.foldl (allocM b l) z).left=jA (fun i=>z.steps.getD i 0) l.length+z.left /\
  (o.foldl (allocM b l) z).squares - jA (fun i=>(o.foldl (allocM b l) z).steps.getD i 0*(cutS b l i).busy) l.length=z.squares - jA (fun i=>z.steps.getD i 0*(cutS b l i).busy) l.length /\
  0<=(o.foldl (allocM b l) z).left/\∀ i,0<=(o.foldl (allocM b l) z).steps.getD i 0/\(i<l.length->(o.foldl (allocM b l) z).steps.getD i 0<=(cutS b l i).most)
 | [],z,_,_,_,_,hz,_,hm=>⟨rfl,rfl,hz,fun i=>⟨(hm i).1,fun hi=>by
  rcases (hm i).2 hi with h | h
  ·exact h
  ·cases h⟩⟩
 | k::o,z,hn,ho,h0,hlen,hz,hmo,hm=>by
  obtain ⟨n1,n2⟩:=List.nodup_cons.1 hn;have hk:=ho k sQ;have hkl:k.toNat<z.steps.length:=by omega
  have hk0:=h0 k sQ;have hmk:=hmo k sQ;rw [List.foldl_cons];obtain ⟨v,hv⟩:∃ v,v=min z.left (cutS b l k.toNat).most:=⟨_,rfl⟩;have hz':allocM b l z k=⟨z.steps.set k.toNat v,z.squares+v*(cutS b l k.toNat).busy,z.left - v⟩:=by rw [hv]; rfl
  have hs:∀ i,(z.steps.set k.toNat v).getD i 0=if i=k.toNat then v else z.steps.getD i 0:=fun i=>qD hkl
  obtain ⟨r1,r2,r3,r4⟩:=qc o (allocM b l z k) n2 (fun x hx=>ho x (by simp [hx])) (fun x hx=>by
   rw [hz'];show (z.steps.set k.toNat v).getD x.toNat 0=0;have hx0:=ho x (by simp [hx]);have hne:x≠k:=fun e=>n1 (e ▸ hx);rw [hs,if_neg oQ];exact h0 x (by simp [hx])) (by rw [hz']; show (z.steps.set k.toNat v).length=_; rw [List.length_set]; exact hlen) (by rw [hz']; show 0<=z.left - v; omega) (fun x hx=>hmo x (by simp [hx])) (fun i=>by
   rw [hz'];show 0<=(z.steps.set k.toNat v).getD i 0/\(i<l.length->(z.steps.set k.toNat v).getD i 0<=_\/_);rw [hs];by_cases e:i=k.toNat
   ·rw [if_pos e];exact ⟨by omega,fun _=>.inl (by rw [e]; omega)⟩
   ·rw [if_neg e];refine ⟨(hm i).1,fun hi=>?_⟩;rcases (hm i).2 hi with h | h
    ·exact .inl h
    ·rcases lI.1 h with h | h
     ·omega
     ·exact .inr h)
  have e1:jA (fun i=>(allocM b l z k).steps.getD i 0) l.length=jA (fun i=>z.steps.getD i 0) l.length+v:=by
   rw [hz'];rw [xp (f:=fun i=>z.steps.getD i 0) (k:=k.toNat) l.length oQ (fun i hi=>by show (z.steps.set k.toNat v).getD i 0=_; rw [hs,if_neg hi])];show _ - z.steps.getD k.toNat 0+(z.steps.set k.toNat v).getD k.toNat 0=_;rw [hs,if_pos rfl,hk0];omega
  have e2:jA (fun i=>(allocM b l z k).steps.getD i 0*(cutS b l i).busy) l.length=jA (fun i=>z.steps.getD i 0*(cutS b l i).busy) l.length+v*(cutS b l k.toNat).busy:=by
   rw [hz'];rw [xp (f:=fun i=>z.steps.getD i 0*(cutS b l i).busy) (k:=k.toNat) l.length oQ (fun i hi=>by show (z.steps.set k.toNat v).getD i 0*_=_; rw [hs,if_neg hi])];show _ - z.steps.getD k.toNat 0*_+(z.steps.set k.toNat v).getD k.toNat 0*_=_;rw [hs,if_pos rfl,hk0,Int.zero_mul];omega
  rw [e1] at r1;rw [e2] at r2;rw [hz'] at r1 r2 r3 r4 ⊢;dsimp only at r1 r2;refine ⟨by omega,oQ,r3,r4⟩
theorem ql (b:RBk) (l:List Int):∀ k,spoilM b l k=jA (fun i=>(cutS b l i).spoil) k
 | 0=>rfl
 | k+1=>by
  show spoilM b l k+_=jA _ k+_;rw [ql b l k]
def needM (b:RBk) (l w:List Int) (k:Nat):Int:=jA (fun i=>(cutS b l i).spoil+w.getD i 0*(cutS b l i).busy) k
theorem qf {b:RBk} (hb:ROk b) {s:List Int} (hs:StOk b s):freshM b s=b.round - b.steps+jA (fun i=>s.getD i 0) b.seams.length:=by
 have hl:=hb.sms.len;have h5:jA (fun i=>s.getD i 0) 5=jA (fun i=>s.getD i 0) b.seams.length:=by
  have:=jR (f:=fun i=>s.getD i 0) (n:=b.seams.length) (fun i hi=>by
   show s.getD i 0=0;rw [lE,lU (by rw [hs.len]; exact hi)];rfl) (5 - b.seams.length)
  rwa [show b.seams.length+(5 - b.seams.length)=5 by omega] at this
 rw [<- h5];show freshM b s=b.round - b.steps+(0+s.getD 0 0+s.getD 1 0+s.getD 2 0+s.getD 3 0+s.getD 4 0);unfold freshM;omega
theorem xg {b:RBk} (hb:ROk b) {l s w:List Int} {q:Int} (hl:CutsOk b l) (hs:StOk b s) (h:hangM b l s=some (w,q)):fitsM b l=true/\w.length=l.length/\jA (fun i=>w.getD i 0) l.length=freshM b s/\q=needM b l w l.length/\∀ i,0<=w.getD i 0/\(i<l.length->w.getD i 0<=(cutS b l i).most):=by
 obtain ⟨hwl,_⟩:=zhU hb hl hs h;unfold hangM at h;split at h
 ·cases h
 ·rename_i hf;dsimp only at h;split at h
  ·cases h
  ·rename_i hle;have hr:∀ i,(alloc0 b l (freshM b s)).steps.getD i 0=0:=fun i=>by
    show (mB l.length (0:Int)).getD i 0=0;rw [lE,List.getElem?_replicate];split <;> rfl
   obtain ⟨r1,r2,r3,r4⟩:=qc (b:=b) (l:=l) (ordM b l) (alloc0 b l (freshM b s)) (qk b l) (fun k hk=>zdP hk) (fun k _=>hr _) (by show (mB l.length (0:Int)).length=_; rw [List.length_replicate]) (zcm hb hs).1 (fun k hk=>by
    have:=zdP hk;exact (hb.sms.fld _ (hl.lt (k:=k.toNat) oQ).2.2).2.2.1) (fun i=>by
    rw [hr];refine ⟨Int.le_refl _,fun hi=>.inl ?_⟩;exact (hb.sms.fld _ (hl.lt hi).2.2).2.2.1)
   have z1:jA (fun i=>(alloc0 b l (freshM b s)).steps.getD i 0) l.length=0:=by
    rw [jB (g:=fun _=>0) l.length (fun i _=>hr i)];have:=jR (f:=fun _=>0) (n:=0) (fun _ _=>rfl) l.length;rwa [mO] at this
   have z2:jA (fun i=>(alloc0 b l (freshM b s)).steps.getD i 0*(cutS b l i).busy) l.length=0:=by
    rw [jB (g:=fun _=>0) l.length (fun i _=>by rw [hr i,Int.zero_mul])];have:=jR (f:=fun _=>0) (n:=0) (fun _ _=>rfl) l.length;rwa [mO] at this
   rw [z1] at r1;rw [z2] at r2;have q1:(alloc0 b l (freshM b s)).left=freshM b s:=rfl;have q2:(alloc0 b l (freshM b s)).squares=spoilM b l l.length:=rfl;cases h;refine ⟨by simpa using hf,hwl,?_,?_,r4⟩
   ·unfold allocA at hle ⊢;omega
   ·unfold needM;rw [xn,<- ql];unfold allocA;omega
def manyM (b:RBk) (l:List Int) (i:Nat):Int:=if i+1<l.length then zN l (i+1) - zN l i else zN l 0 - zN l i+b.seams.length
theorem x6 {b:RBk} {l:List Int} (hl:CutsOk b l) {i:Nat} (hi:i<l.length):1<=manyM b l i/\manyM b l i<=b.seams.length:=by
 have h1:=hl.lt hi;have h0:=hl.lt hl.pos;unfold manyM;split
 ·rename_i h;have h2:=hl.lt h;have hlt:=zhO hl h;omega
 ·have:zN l 0<=zN l i:=by
   by_cases e:i=0
   ·subst e; omega
   ·have e1:=z6 hl.pos;have e2:=z6 hi;have:=List.pairwise_iff_getElem.1 hl.asc 0 i hl.pos hi oQ;rw [lA hl.pos] at e1;rw [lA hi] at e2;rw [Option.some.inj e1,Option.some.inj e2] at this;omega
  omega
def nowS (b:RBk) (s:List Int) (x:Nat):Int:=jA (nowM b s) x
theorem qR (b:RBk) (s:List Int) (c:Nat):∀ k,c+k<=b.seams.length->togM b s c k=nowS b s (c+k) - nowS b s c
 | 0,_=>by show (0:Int)=_; rw [Nat.add_zero]; omega
 | k+1,h=>by
  unfold togM;rw [qR b s c k oQ,Nat.mod_eq_of_lt oQ];show _=nowS b s (c+k)+nowM b s (c+k) - _;omega
theorem xU (b:RBk) (s:List Int) {c:Nat} (hc:c<=b.seams.length):∀ r,r<=b.seams.length->togM b s c (b.seams.length - c+r)=nowS b s b.seams.length - nowS b s c+nowS b s r
 | 0,_=>by
  rw [Nat.add_zero,qR b s c _ oQ,show c+(b.seams.length - c)=b.seams.length by omega];show _=_+(0:Int);omega
 | r+1,h=>by
  rw [<- Nat.add_assoc];unfold togM;rw [xU b s hc r oQ,show c+(b.seams.length - c+r)=b.seams.length+r by omega,Nat.add_mod_left,Nat.mod_eq_of_lt oQ];show _=_+(nowS b s r+nowM b s r);omega
theorem jQ {b:RBk}:∀ k,k<b.seams.length->jA (wideM b) k=(sm b k).step - (sm b 0).step
 | 0,_=>by show (0:Int)=_; omega
 | k+1,h=>by
  show jA _ k+wideM b k=_;rw [jQ k oQ];unfold wideM;rw [if_pos h];omega
theorem jbg {b:RBk} (h:0<b.seams.length):jA (wideM b) b.seams.length=b.steps:=by
 obtain ⟨k,hk⟩:∃ k,b.seams.length=k+1:=⟨b.seams.length - 1,oQ⟩;rw [hk];show jA _ k+wideM b k=_;rw [jQ k oQ];unfold wideM;rw [if_neg oQ];omega
def fS (f:Int->Int):List Int->Int
 | []=>0
 | k::o=>f k+fS f o
theorem xt (f:Int->Int):∀ a c,fS f (a++c)=fS f a+fS f c
 | [],c=>by show fS f c=0+fS f c; omega
 | k::a,c=>by show f k+fS f (a++c)=f k+fS f a+fS f c; rw [xt f a c]; omega
theorem qZ (f:Int->Int) {a c:List Int} (h:a.Perm c):fS f a=fS f c:=by
 induction h with
 | nil=>rfl
 | cons x _ ih=>show f x+_=f x+_; rw [ih]
 | swap x y l=>show f y+(f x+fS f l)=f x+(f y+fS f l); omega
 | trans _ _ h1 h2=>exact h1.trans h2
theorem jaz (f:Int->Int):∀ n,fS f (idxM n)=jA (fun i=>f i) n
 | 0=>rfl
 | n+1=>by
  have e:idxM (n+1)=idxM n++[(n:Int)]:=by unfold idxM; rw [List.range_succ,lM]; rfl
  rw [e,xt,jaz f n];show _+(f n+0)=_+f n;omega
theorem qA (f:Int->Int) (b:RBk) (l:List Int):fS f (ordM b l)=jA (fun i=>f i) l.length:=by
 rw [<- jaz];unfold ordM sortR;refine qZ f ?_;have h:=xk (lt:=busyLt b l) (l:=idxM l.length) (idxM l.length).length (mL _);rwa [lW] at h
theorem fS_le {f g:Int->Int}:∀ o:List Int,(∀ k∈o,f k<=g k)->fS f o<=fS g o
 | [],_=>Int.le_refl _
 | k::o,h=>by
  have h1:=h k sQ;have h2:=fS_le o (fun x hx=>h x (by simp [hx]));show f k+_<=g k+_;omega
theorem fS_nn {f:Int->Int}:∀ o:List Int,(∀ k∈o,0<=f k)->0<=fS f o
 | [],_=>Int.le_refl _
 | k::o,h=>by
  have h1:=h k sQ;have h2:=fS_nn o (fun x hx=>h x (by simp [hx]));show 0<=f k+_;omega
def gC (m c:Int->Int):List Int->Int->Int
 | [],_=>0
 | k::o,n=>min n (m k)*c k+gC m c o (n - min n (m k))
theorem jac {m c:Int->Int}:∀ o:List Int,(∀ k∈o,0<=m k)->gC m c o 0=0
 | [],_=>rfl
 | k::o,h=>by
  have h1:=h k sQ;show min 0 (m k)*c k+gC m c o (0 - min 0 (m k))=0;rw [Int.min_eq_left h1,Int.zero_mul,Int.sub_zero,jac o (fun x hx=>h x (by simp [hx]))];rfl
theorem xH {m c:Int->Int} {c0:Int}:∀ (o:List Int) (n d:Int),(∀ k∈o,c0<=c k/\0<=m k)->0<=d->d<=n->n<=fS m o->gC m c o (n - d)+d*c0<=gC m c o n
 | [],n,d,_,h1,h2,h3=>by
  have h3:n<=0:=h3;have:d=0:=by omega
  subst this;show (0:Int)+0*c0<=0;rw [Int.zero_mul]; decide
 | k::o,n,d,h,h1,h2,h3=>by
  have hk:=h k sQ;have ho:∀ x∈o,c0<=c x/\0<=m x:=fun x hx=>h x (by simp [hx]);have h3:n<=m k+fS m o:=h3;have hz:gC m c o 0=0:=jac o (fun x hx=>(ho x hx).2);show min (n - d) (m k)*c k+gC m c o (n - d - min (n - d) (m k))+d*c0<=min n (m k)*c k+gC m c o (n - min n (m k));by_cases hA:m k<=n - d
  ·rw [Int.min_eq_right hA,Int.min_eq_right oQ];have:=xH o (n - m k) d ho h1 oQ oQ;rw [show n - d - m k=n - m k - d by omega];omega
  ·rw [Int.min_eq_left (show n - d<=m k by omega),Int.sub_self,hz];by_cases hB:n<=m k
   ·rw [Int.min_eq_left hB,Int.sub_self,hz];have e:n*c k=(n - d)*c k+d*c k:=by rw [<- Int.add_mul]; congr 1; omega
    have q:=Int.mul_le_mul_of_nonneg_left hk.1 h1;omega
   ·rw [Int.min_eq_right oQ];have ih:=xH o (n - m k) (n - m k) ho oQ oQ oQ;rw [Int.sub_self,hz] at ih;obtain ⟨e,he⟩:∃ e,e=m k - (n - d):=⟨_,rfl⟩;have e1:m k*c k=(n - d)*c k+e*c k:=by rw [<- Int.add_mul]; congr 1; omega
    have e2:d*c0=e*c0+(n - m k)*c0:=by rw [<- Int.add_mul]; congr 1; omega
    have q:=Int.mul_le_mul_of_nonneg_left hk.1 (show 0<=e by omega);omega
theorem jaB {m c x:Int->Int}:∀ (o:List Int) (n:Int),o.Pairwise (fun a d=>c a<=c d)->(∀ k∈o,0<=x k/\x k<=m k)->n=fS x o->gC m c o n<=fS (fun k=>x k*c k) o
 | [],n,_,_,_=>Int.le_refl _
 | k::o,n,hp,h,hn=>by
  obtain ⟨p1,p2⟩:=List.pairwise_cons.1 hp;have hk:=h k sQ;have ho:∀ y∈o,0<=x y/\x y<=m y:=fun y hy=>h y (by simp [hy]);have hn:n=x k+fS x o:=hn;have h0:=fS_nn o (fun y hy=>(ho y hy).1);have hcap:=fS_le o (fun y hy=>(ho y hy).2);have ih:=jaB o (fS x o) p2 ho rfl;obtain ⟨a,ha⟩:∃ a,a=min n (m k):=⟨_,rfl⟩;have sh:=xH (m:=m) (c:=c) (c0:=c k) o (fS x o) (a - x k) (fun y hy=>⟨p1 y hy,by have:=ho y hy; omega⟩) oQ oQ hcap;show min n (m k)*c k+gC m c o (n - min n (m k))<=x k*c k+_;rw [<- ha,show n - a=fS x o - (a - x k) by omega];have e:a*c k=x k*c k+(a - x k)*c k:=by rw [<- Int.add_mul]; congr 1; omega
  omega
theorem xE {lt:Int->Int->Bool} {K:Int->Int} {x:Int} {S:List Int} (hlt:∀ y∈S,lt x y=decide (K x<K y)) (hS:S.Pairwise fun a c=>K a<=K c):∀ j,j<=S.length->(∀ i y,j<=i->S[i]? =some y->K x<K y)->(insJ lt x S j).Pairwise fun a c=>K a<=K c
 | 0,_,h=>by
  refine List.pairwise_cons.2 ⟨fun y hy=>?_,hS⟩;obtain ⟨i,hi,rfl⟩:=List.getElem_of_mem hy;have:=h i _ (mN _) (lA hi);omega
 | j+1,hj,h=>by
  have hg:S[j]? =some S[j]:=lA oQ;have hm:S[j]∈S:=List.getElem_mem _;unfold insJ;rw [hg];dsimp only;by_cases hl:lt x S[j]=true
  ·rw [if_pos hl];rw [hlt _ hm] at hl;refine xE hlt hS j oQ fun i y hi hy=>?_;by_cases e:i=j
   ·subst e;rw [hg] at hy;cases hy;exact of_decide_eq_true hl
   ·exact h i y oQ hy
  ·rw [if_neg hl];rw [hlt _ hm] at hl;have hl:¬ K x<K S[j]:=by simpa using hl
   have hS':=hS;rw [<- List.take_append_drop (j+1) S] at hS';obtain ⟨p1,p2,p3⟩:=List.pairwise_append.1 hS';have hd:∀ y∈S.drop (j+1),K x<=K y:=fun y hy=>by
    obtain ⟨i,hi,rfl⟩:=List.getElem_of_mem hy;rw [List.getElem_drop];have:=h (j+1+i) _ oQ (lA (by rw [List.length_drop] at hi; omega));omega
   have ht:∀ a∈S.take (j+1),K a<=K x:=fun a ha=>by
    have p1':=p1;rw [yQ hg] at ha p1';rcases lT.1 ha with ha | ha
    ·have:=(List.pairwise_append.1 p1').2.2 a ha S[j] sQ;omega
    ·rw [lS.1 ha]; omega
   refine List.pairwise_append.2 ⟨p1,List.pairwise_cons.2 ⟨hd,p2⟩,fun a ha c hc=>?_⟩;rcases lI.1 hc with rfl | hc
   ·exact ht a ha
   ·exact p3 a ha c hc
theorem xv {lt:Int->Int->Bool} {K:Int->Int} {l:List Int} (hlt:∀ x∈l,∀ y∈l,lt x y=decide (K x<K y)):∀ i,i<=l.length->(sortN lt l i).Pairwise fun a c=>K a<=K c
 | 0,_=>.nil
 | i+1,h=>by
  have hg:l[i]? =some l[i]:=lA oQ;rw [wD hg];refine xE (fun y hy=>hlt _ (List.getElem_mem _) y (uU i oQ y hy)) (xv hlt i oQ) _ (mL _) fun k y hk hy=>?_;rw [lU hk] at hy;cases hy
def pw:Nat->Int
 | 0=>10000
 | 1=>1000
 | 2=>100
 | 3=>10
 | _=>1
def wgt (b:RBk) (l:List Int) (k:Int):Int:=(cutS b l k.toNat).busy*1000000+pw k.toNat
theorem jbu {b:RBk} {l:List Int} (hl:l.length<=5):(ordM b l).Pairwise fun a c=>wgt b l a<=wgt b l c:=by
 have hs:(ordM b l).Pairwise fun a c=>(cutS b l a.toNat).busy*10 - a<=(cutS b l c.toNat).busy*10 - c:=by
  unfold ordM sortR;refine xv (K:=fun a=>(cutS b l a.toNat).busy*10 - a) (fun x hx y hy=>?_) _ (mL _);have h1:=zbj hx;have h2:=zbj hy;unfold busyLt;rw [Bool.eq_iff_iff];simp only [Bool.or_eq_true,mX,decide_eq_true_eq];omega
 refine hs.imp_of_mem ?_;intro a c ha hc h;have h1:=zdP ha;have h2:=zdP hc;unfold wgt;obtain ⟨i,rfl⟩:=Int.eq_ofNat_of_zero_le h1.1;obtain ⟨j,rfl⟩:=Int.eq_ofNat_of_zero_le h2.1;simp only [mZ] at h ⊢;have hi:i=0\/i=1\/i=2\/i=3\/i=4:=by omega
 have hj:j=0\/j=1\/j=2\/j=3\/j=4:=by omega
 rcases hi with rfl | rfl | rfl | rfl | rfl <;> rcases hj with rfl | rfl | rfl | rfl | rfl <;> simp only [pw] <;> omega
theorem xO {b:RBk} {l:List Int} (C:Nat->Int):∀ (o:List Int) (z:Alloc),o.Nodup->(∀ k∈o,0<=k/\k<l.length)->(∀ k∈o,z.steps.getD k.toNat 0=0)->z.steps.length=l.length ->
  jA (fun i=>(o.foldl (allocM b l) z).steps.getD i 0*C i) l.length=jA (fun i=>z.steps.getD i 0*C i) l.length+gC (fun k=>(cutS b l k.toNat).most) (fun k=>C k.toNat) o z.left
 | [],z,_,_,_,_=>by show _=_+(0:Int); rw [Int.add_zero]; rfl
 | k::o,z,hn,ho,h0,hlen=>by
  obtain ⟨n1,n2⟩:=List.nodup_cons.1 hn;have hk:=ho k sQ;have hkl:k.toNat<z.steps.length:=by omega
  have hk0:=h0 k sQ;rw [List.foldl_cons];obtain ⟨v,hv⟩:∃ v,v=min z.left (cutS b l k.toNat).most:=⟨_,rfl⟩;have hz':allocM b l z k=⟨z.steps.set k.toNat v,z.squares+v*(cutS b l k.toNat).busy,z.left - v⟩:=by rw [hv]; rfl
  have hs:∀ i,(z.steps.set k.toNat v).getD i 0=if i=k.toNat then v else z.steps.getD i 0:=fun i=>qD hkl
  have r:=xO (b:=b) (l:=l) C o (allocM b l z k) n2 (fun x hx=>ho x (by simp [hx])) (fun x hx=>by
   rw [hz'];show (z.steps.set k.toNat v).getD x.toNat 0=0;have hx0:=ho x (by simp [hx]);have hne:x≠k:=fun e=>n1 (e ▸ hx);rw [hs,if_neg oQ];exact h0 x (by simp [hx])) (by rw [hz']; show (z.steps.set k.toNat v).length=_; rw [List.length_set]; exact hlen)
  have e2:jA (fun i=>(allocM b l z k).steps.getD i 0*C i) l.length=jA (fun i=>z.steps.getD i 0*C i) l.length+v*C k.toNat:=by
   rw [hz'];rw [xp (f:=fun i=>z.steps.getD i 0*C i) (k:=k.toNat) l.length oQ (fun i hi=>by show (z.steps.set k.toNat v).getD i 0*_=_; rw [hs,if_neg hi])];show _ - z.steps.getD k.toNat 0*_+(z.steps.set k.toNat v).getD k.toNat 0*_=_;rw [hs,if_pos rfl,hk0,Int.zero_mul];omega
  rw [r,e2,hz'];show _+gC _ _ o (z.left - v)=_+(min z.left (cutS b l k.toNat).most*C k.toNat+gC _ _ o (z.left - min z.left (cutS b l k.toNat).most));rw [<- hv];omega
theorem xP {b:RBk} {l:List Int}:∀ (o:List Int) (z:Alloc),(∀ k∈o,0<=(cutS b l k.toNat).most)->0<=z.left->(o.foldl (allocM b l) z).left=max 0 (z.left - fS (fun k=>(cutS b l k.toNat).most) o)
 | [],z,_,h=>by show z.left=max 0 (z.left - 0); omega
 | k::o,z,hm,h=>by
  have hk:=hm k sQ;rw [List.foldl_cons,xP o _ (fun x hx=>hm x (by simp [hx])) (by show 0<=z.left - min z.left (cutS b l k.toNat).most; omega)];show max 0 (z.left - min z.left (cutS b l k.toNat).most - _)=max 0 (z.left - ((cutS b l k.toNat).most+_));have h0:=fS_nn (f:=fun k=>(cutS b l k.toNat).most) o (fun x hx=>hm x (by simp [hx]));omega
def mostS (b:RBk) (l:List Int) (k:Nat):Int:=jA (fun i=>(cutS b l i).most) k
theorem jbr {b:RBk} (hb:ROk b) {l:List Int} (hl:CutsOk b l):∀ k∈ordM b l,0<=(cutS b l k.toNat).most:=fun k hk=>by
 have:=zdP hk;exact (hb.sms.fld _ (hl.lt (k:=k.toNat) oQ).2.2).2.2.1
theorem xS {b:RBk} (hb:ROk b) {l s:List Int} (hl:CutsOk b l) (hs:StOk b s):(hangM b l s).isSome=(fitsM b l&&decide (freshM b s<=mostS b l l.length)):=by
 have hleft:=xP (b:=b) (l:=l) (ordM b l) (alloc0 b l (freshM b s)) (jbr hb hl) (zcm hb hs).1;rw [qA] at hleft;simp only [mZ] at hleft;have e:(alloc0 b l (freshM b s)).left=freshM b s:=rfl;unfold hangM;by_cases hf:fitsM b l=false
 ·rw [if_pos hf,hf]; rfl
 ·rw [if_neg hf,show fitsM b l=true by simpa using hf,Bool.true_and];dsimp only;unfold allocA mostS;by_cases h:0<((ordM b l).foldl (allocM b l) (alloc0 b l (freshM b s))).left
  ·rw [if_pos h,decide_eq_false oQ]; rfl
  ·rw [if_neg h,decide_eq_true oQ]; rfl
theorem qQ (f g:Nat->Int) (c:Int):∀ n,jA (fun i=>f i*c+g i) n=jA f n*c+jA g n
 | 0=>by show (0:Int)=0*c+0; rw [Int.zero_mul]; rfl
 | n+1=>by
  show jA (fun i=>f i*c+g i) n+(f n*c+g n)=(jA f n+f n)*c+(jA g n+g n);rw [qQ f g c n,Int.add_mul];omega
def numW (x:List Int) (n:Nat):Int:=jA (fun i=>x.getD i 0*pw i) n
theorem jbp:∀ (n:Nat) (x y:List Int),n<=5->x.length=n->y.length=n->(∀ i,0<=x.getD i 0/\x.getD i 0<=9)->(∀ i,0<=y.getD i 0/\y.getD i 0<=9)->lexM x y<0->numW x n<numW y n
 | 0,[],[],_,_,_,_,_,h=>by simp [lexM] at h
 | 1,[a],[p],_,_,_,hx,hy,h=>by
  simp only [lexM] at h;show 0+a*10000<0+p*10000;split at h
  ·omega
  ·split at h <;> omega
 | 2,[a,c],[p,q],_,_,_,hx,hy,h=>by
  have a0:=hx 0; have a1:=hx 1; have b0:=hy 0; have b1:=hy 1;simp only [List.getD_cons_zero,List.getD_cons_succ] at a0 a1 b0 b1;simp only [lexM] at h;show 0+a*10000+c*1000<0+p*10000+q*1000
  repeat' (split at h)
  all_goals omega
 | 3,[a,c,d],[p,q,r],_,_,_,hx,hy,h=>by
  have a0:=hx 0; have a1:=hx 1; have a2:=hx 2; have b0:=hy 0; have b1:=hy 1; have b2:=hy 2;simp only [List.getD_cons_zero,List.getD_cons_succ] at a0 a1 a2 b0 b1 b2;simp only [lexM] at h;show 0+a*10000+c*1000+d*100<0+p*10000+q*1000+r*100
  repeat' (split at h)
  all_goals omega
 | 4,[a,c,d,e],[p,q,r,s],_,_,_,hx,hy,h=>by
  have a0:=hx 0; have a1:=hx 1; have a2:=hx 2; have a3:=hx 3; have b0:=hy 0; have b1:=hy 1; have b2:=hy 2; have b3:=hy 3;simp only [List.getD_cons_zero,List.getD_cons_succ] at a0 a1 a2 a3 b0 b1 b2 b3;simp only [lexM] at h;show 0+a*10000+c*1000+d*100+e*10<0+p*10000+q*1000+r*100+s*10
  repeat' (split at h)
  all_goals omega
 | 5,[a,c,d,e,f],[p,q,r,s,t],_,_,_,hx,hy,h=>by
  have a0:=hx 0; have a1:=hx 1; have a2:=hx 2; have a3:=hx 3; have a4:=hx 4; have b0:=hy 0; have b1:=hy 1; have b2:=hy 2; have b3:=hy 3; have b4:=hy 4;simp only [List.getD_cons_zero,List.getD_cons_succ] at a0 a1 a2 a3 a4 b0 b1 b2 b3 b4;simp only [lexM] at h;show 0+a*10000+c*1000+d*100+e*10+f*1<0+p*10000+q*1000+r*100+s*10+t*1
  repeat' (split at h)
  all_goals omega
 | n+6,_,_,h5,_,_,_,_,_=>by omega
theorem jaG {x:List Int} {n:Nat} (h5:n<=5) (hx:∀ i,0<=x.getD i 0/\x.getD i 0<=9):0<=numW x n/\numW x n<100000:=by
 have a0:=hx 0; have a1:=hx 1; have a2:=hx 2; have a3:=hx 3; have a4:=hx 4;have h:n=0\/n=1\/n=2\/n=3\/n=4\/n=5:=by omega
 rcases h with rfl | rfl | rfl | rfl | rfl | rfl <;> simp only [numW,jA,pw] <;> omega
theorem xQ (b:RBk) (l x:List Int):jA (fun i=>x.getD i 0*wgt b l i) l.length=jA (fun i=>x.getD i 0*(cutS b l i).busy) l.length*1000000+numW x l.length:=by
 unfold numW;rw [<- qQ];refine jB _ fun i _=>?_;unfold wgt;rw [mZ,Int.mul_add,Int.mul_assoc]
theorem cheapest {b:RBk} (hb:ROk b) {l s w:List Int} {q:Int} (hl:CutsOk b l) (hs:StOk b s) (h:hangM b l s=some (w,q)) {x:List Int} (hxl:x.length=l.length) (hx:∀ i,0<=x.getD i 0/\(i<l.length->x.getD i 0<=(cutS b l i).most)) (hsum:jA (fun i=>x.getD i 0) l.length=freshM b s):needM b l w l.length<=needM b l x l.length/\(needM b l w l.length<needM b l x l.length\/decide (lexM x w<0)=false):=by
 have hn5:l.length<=5:=by have:=hl.len; have:=hb.sms.len; omega
 obtain ⟨hfit,hwl,hws,hq,hwb⟩:=xg hb hl hs h;have nine:∀ {y:List Int},y.length=l.length->(∀ i,0<=y.getD i 0/\(i<l.length->y.getD i 0<=(cutS b l i).most))->∀ i,0<=y.getD i 0/\y.getD i 0<=9:=fun {y} hyl hy i=>by
  refine ⟨(hy i).1,?_⟩;by_cases hi:i<l.length
  ·have h1:=(hy i).2 hi;have h2:=(hb.sms.fld _ (hl.lt hi).2.2).2.2.2.1;unfold cutS at h1;omega
  ·rw [lE,lU oQ]
   decide
 have key:jA (fun i=>w.getD i 0*wgt b l i) l.length<=jA (fun i=>x.getD i 0*wgt b l i) l.length:=by
  have hr:∀ i,(alloc0 b l (freshM b s)).steps.getD i 0=0:=fun i=>by
   show (mB l.length (0:Int)).getD i 0=0;rw [lE,List.getElem?_replicate];split <;> rfl
  have hc:=xO (b:=b) (l:=l) (fun i=>wgt b l i) (ordM b l) (alloc0 b l (freshM b s)) (qk b l) (fun k hk=>zdP hk) (fun k _=>hr _) (by show (mB l.length (0:Int)).length=_; rw [List.length_replicate]);have hw:w=((ordM b l).foldl (allocM b l) (alloc0 b l (freshM b s))).steps:=by
   unfold hangM at h;split at h
   ·cases h
   ·dsimp only at h;split at h
    ·cases h
    ·cases h; rfl
  have z2:jA (fun i=>(alloc0 b l (freshM b s)).steps.getD i 0*wgt b l i) l.length=0:=by
   rw [jB (g:=fun _=>0) l.length (fun i _=>by rw [hr i,Int.zero_mul])];have:=jR (f:=fun _=>0) (n:=0) (fun _ _=>rfl) l.length;rwa [mO] at this
  rw [<- hw,z2,Int.zero_add] at hc;rw [hc];have ho:=jaB (m:=fun k=>(cutS b l k.toNat).most) (c:=wgt b l) (x:=fun k=>x.getD k.toNat 0) (ordM b l) (freshM b s) (jbu hn5) (fun k hk=>by
   have:=zdP hk;exact ⟨(hx _).1,(hx _).2 oQ⟩) (by rw [qA]; simp only [mZ]; exact hsum.symm)
  rw [qA] at ho;simp only [mZ] at ho;refine Int.le_trans (Int.le_of_eq ?_) ho;show gC _ _ _ (freshM b s)=_;congr 1
 rw [xQ,xQ] at key;have n1:=jaG hn5 (nine hwl hwb);have n2:=jaG hn5 (nine hxl hx);unfold needM;rw [xn,xn];refine ⟨by omega,?_⟩;by_cases hlt:jA (fun i=>w.getD i 0*(cutS b l i).busy) l.length<jA (fun i=>x.getD i 0*(cutS b l i).busy) l.length
 ·exact .inl oQ
 ·right;refine decide_eq_false fun hlex=>?_;have:=jbp l.length x w hn5 hxl hwl (nine hxl hx) (nine hwl hwb) hlex;omega
theorem jab:∀ (r:List Int) (x:Int),r.foldl min x<=x/\(∀ y∈r,r.foldl min x<=y)/\(r.foldl min x=x\/r.foldl min x∈r)
 | [],x=>⟨Int.le_refl _,fun y hy=>(by cases hy),.inl rfl⟩
 | z::r,x=>by
  obtain ⟨h1,h2,h3⟩:=jab r (min x z);rw [List.foldl_cons];refine ⟨by omega,fun y hy=>?_,?_⟩
  ·rcases lI.1 hy with rfl | hy
   ·omega
   ·exact h2 y hy
  ·rcases h3 with h3 | h3
   ·rw [h3];by_cases e:x<=z
    ·left; omega
    ·right; rw [Int.min_eq_right oQ]; simp
   ·right; simp [h3]
theorem jaa:∀ (r:List Int) (x:Int),x<=r.foldl max x/\(∀ y∈r,y<=r.foldl max x)/\(r.foldl max x=x\/r.foldl max x∈r)
 | [],x=>⟨Int.le_refl _,fun y hy=>(by cases hy),.inl rfl⟩
 | z::r,x=>by
  obtain ⟨h1,h2,h3⟩:=jaa r (max x z);rw [List.foldl_cons];refine ⟨by omega,fun y hy=>?_,?_⟩
  ·rcases lI.1 hy with rfl | hy
   ·omega
   ·exact h2 y hy
  ·rcases h3 with h3 | h3
   ·rw [h3];by_cases e:z<=x
    ·left; omega
    ·right; rw [Int.max_eq_right oQ]; simp
   ·right; simp [h3]
theorem qm {xs:List Int} (hne:xs≠[]):(∀ y∈xs,(spreadM xs).1<=y/\y<=(spreadM xs).2)/\(spreadM xs).1∈xs/\(spreadM xs).2∈xs:=by
 cases xs with
 | nil=>exact absurd rfl hne
 | cons x r =>
  obtain ⟨a1,a2,a3⟩:=jab r x;obtain ⟨c1,c2,c3⟩:=jaa r x;show (∀ y∈x::r,r.foldl min x<=y/\y<=r.foldl max x)/\r.foldl min x∈x::r/\r.foldl max x∈x::r;refine ⟨fun y hy=>?_,?_,?_⟩
  ·rcases lI.1 hy with rfl | hy
   ·exact ⟨a1,c1⟩
   ·exact ⟨a2 y hy,c2 y hy⟩
  ·rcases a3 with h | h
   ·rw [h]; simp
   ·simp [h]
  ·rcases c3 with h | h
   ·rw [h]; simp
   ·simp [h]
structure Wider (b o:RBk):Prop where
 steps:o.steps=b.steps
 round:o.round=b.round
 roll:b.roll<=o.roll
 rolls:b.rolls<=o.rolls
 len:o.seams.length=b.seams.length
 shr:o.shrinks=b.shrinks
 mes:o.measures=b.measures
 sm:∀ i,i<b.seams.length->(sm o i).step=(sm b i).step/\(sm o i).busy=(sm b i).busy/\(sm o i).spoil=(sm b i).spoil/\(sm o i).whole=(sm b i).whole/\(sm b i).most<=(sm o i).most
theorem Wider.at {b o:RBk} (h:Wider b o) (r:Int):Wider (atRound b r) (atRound o r):=⟨h.steps,rfl,h.roll,h.rolls,h.len,h.shr,h.mes,h.sm⟩
theorem Wider.wide {b o:RBk} (h:Wider b o) {i:Nat} (hi:i<b.seams.length):wideM o i=wideM b i:=by
 unfold wideM;rw [h.len,h.steps,(h.sm i hi).1,(h.sm 0 oQ).1];by_cases e:i+1<b.seams.length
 ·rw [if_pos e,if_pos e,(h.sm _ e).1]
 ·rw [if_neg e,if_neg e]
theorem Wider.cut {b o:RBk} (h:Wider b o) {l:List Int} (hl:CutsOk b l) {k:Nat} (hk:k<l.length):(cutS o l k).step=(cutS b l k).step/\(cutS o l k).busy=(cutS b l k).busy/\(cutS o l k).spoil=(cutS b l k).spoil/\(cutS o l k).whole=(cutS b l k).whole/\(cutS b l k).most<=(cutS o l k).most:=h.sm _ (hl.lt hk).2.2
theorem jbj {b:RBk} {l:List Int} (hne:zf b≠[]):(canM b l=1↔∀ s∈zf b,(hangM b l s).isSome=true)/\(canM b l=2↔∀ s∈zf b,hangM b l s=none):=by
 have hpos:0<(zf b).length:=List.length_pos_iff.2 hne;have hle:=zd2 b (zf b) l;have k1:(waysM b (zf b) l).length=(zf b).length↔∀ s∈zf b,(hangM b l s).isSome=true:=by
  rw [<- xl];unfold sqOk squaresM;by_cases h:(waysM b (zf b) l).length<(zf b).length
  ·rw [if_pos h]; simp; omega
  ·rw [if_neg h]; simp; omega
 have k2:(waysM b (zf b) l).length=0↔∀ s∈zf b,hangM b l s=none:=by
  rw [List.length_eq_zero_iff];unfold waysM;rw [List.filterMap_eq_nil_iff]
 unfold canM;by_cases e1:(waysM b (zf b) l).length=(zf b).length
 ·rw [if_pos e1];refine ⟨⟨fun _=>k1.1 e1,fun _=>rfl⟩,⟨fun h=>(by cases h),fun h=>?_⟩⟩;have:=k2.2 h;omega
 ·rw [if_neg e1];by_cases e2:(waysM b (zf b) l).length=0
  ·rw [if_pos e2];exact ⟨⟨fun h=>(by cases h),fun h=>absurd (k1.2 h) e1⟩,⟨fun _=>k2.1 e2,fun _=>rfl⟩⟩
  ·rw [if_neg e2];exact ⟨⟨fun h=>(by cases h),fun h=>absurd (k1.2 h) e1⟩,⟨fun h=>(by cases h),fun h=>absurd (k2.2 h) e2⟩⟩
def preS (b:RBk):Nat->List (List Int)
 | 0=>[[]]
 | i+1=>(preS b i).flatMap fun p=>(numsM (bd b i)).map fun n=>p++[n]
def extL:List (List Int)->List RBand->List (List Int)
 | L,[]=>L
 | L,x::r=>extL (L.flatMap fun p=>(numsM x).map fun n=>p++[n]) r
def leavesL (all:List (List Int)) (i:Nat) (low:Int):Nat->Int
 | 0=>0
 | k+1=>max (leavesL all i low k) (cntM all i (low+k))
def leavesM (b:RBk) (i:Nat):Int:=leavesL (zf b) i (bd b i).low ((bd b i).high+1 - (bd b i).low).toNat
theorem jaY {φ:Nat->Loc3} {A:List AObj} {F H:Hp} (h:RelH φ A F H) {j:Nat} {l z:List AV} {e:TypeId} (hj:A[j]? =some (.cells (l++z) e false)):RelH φ (A.set j (.cells l e false)) F H:=by
 have hg:∀ t w,(A.set j (.cells l e false))[t]? =some w->(t=j/\w=.cells l e false)\/(t≠j/\A[t]? =some w):=fun t w ht=>by
  rw [lX] at ht;split at ht
  ·rename_i e';split at ht
   ·cases ht; exact .inl ⟨e'.symm,rfl⟩
   ·cases ht
  ·rename_i e';exact .inr ⟨fun h=>e' h.symm,ht⟩
 have hne:l≠[]->l++z≠[]:=fun hl he=>hl (List.append_eq_nil_iff.1 he).1;refine ⟨fun t w ht=>?_,fun t t' w w' ht ht' hn he hl s1 s2=>?_,h.fr,fun t w ht he hs=>?_⟩
 ·rw [List.length_set];rcases hg t w ht with ⟨rfl,rfl⟩ | ⟨_,h2⟩
  ·intro hl;obtain ⟨r,cur,q,h1,_,h3⟩:=h.obj t _ hj (hne hl);exact ⟨r,cur,q,h1,(fun h=>by cases h),fun i a ha=>h3 i a (by
    obtain ⟨hi,_⟩:=lD.1 ha;rw [List.getElem?_append_left hi]; exact ha)⟩
  ·exact h.obj t w h2
 ·rcases hg t w ht with ⟨rfl,rfl⟩ | ⟨_,h2⟩
  ·cases he
  ·rcases hg t' w' ht' with ⟨rfl,rfl⟩ | ⟨_,h2'⟩
   ·exact h.apart t t' w _ h2 hj hn he rfl s1 (hne s2)
   ·exact h.apart t t' w w' h2 h2' hn he hl s1 s2
 ·rcases hg t w ht with ⟨rfl,rfl⟩ | ⟨_,h2⟩
  ·cases he
  ·exact h.frx t w h2 he hs
section
variable {P:Program} {gm:Nat->Option Nat} {T:Goroutine->Hp->Prop} {Y:KX P gm T} {ds:List Nat} {k:List Item} {env:List AV} {K K':KV}
theorem TK.cutC {j:Nat} {l z:List AV} {e:TypeId} (h:TK Y ds k env K') (hu:Upd K j (.cells (l++z) e false) j (.cells l e false) K':=by repeat (first | exact Upd.head | apply Upd.tail)):TK Y ds k env K:=fun A hA φ H ts h1 h2 h3 h4 h5 h6=>by
 have hj:=hA.view.get hu.mem;have hl:(A.set j (.cells l e false)).length=A.length:=by simp
 exact h _ (hA.step (.set hA.view hA.nd hu)) φ H ts h1 (by rw [hl]; exact h2) (by rw [hl]; exact h3) (by rw [hl]; exact h4) (jaY h5 hj) (by rw [hl]; exact h6)
end
def changeB (b:RBk) (sh:List RBand) (me:List RMeas):RBk:={ b with shrinks:=sh,measures:=me }
section
variable {b:RBk} {all al2:List (List Int)} {l:List Int}
end
theorem xG (b:RBk) (l:List Int) (hne:zf b≠[]):(canM b l=1↔∀ s∈zf b,(hangM b l s).isSome=true)/\(canM b l=2↔∀ s∈zf b,hangM b l s=none):=jbj hne
theorem qd (b:RBk) (l:List Int):canM b l=0\/canM b l=1\/canM b l=2:=by
 unfold canM;split
 ·exact .inr (.inl rfl)
 ·split
  ·exact .inr (.inr rfl)
  ·exact .inl rfl
def nowW (b:RBk) (s:List Int) (m:RMeas):RMeas:={ m with wide:=togM b s m.cloth.toNat m.many.toNat }
def trulyT (b:RBk) (s:List Int) (i:Nat):List RMeas:=(b.measures.take i).map (nowW b s)
def trulyB (b:RBk) (s:List Int):RBk:={ b with measures:=trulyT b s b.measures.length }
theorem qH {b:RBk}:∀ (r:List RBand) (p t:List Int),t.length=r.length->(∀ (i:Nat) (x:RBand) (y:Int),r[i]? =some x->t[i]? =some y->x.low<=y/\y<=x.high)->rightM b (p++t)=true->p++t∈fromM b p r
 | [],p,[],_,_,h=>by
  rw [lR] at h ⊢;unfold fromM;rw [if_pos h];exact lS.2 rfl
 | x::r,p,y::t,hl,hi,h=>by
  unfold fromM;have h0:=hi 0 x y rfl rfl;rw [List.mem_flatMap];refine ⟨y,(zgc oQ).2 h0,?_⟩;rw [show p++y::t=(p++[y])++t by simp] at h ⊢;exact qH r (p++[y]) t (by simpa using hl) (fun i x' y' h1 h2=>hi (i+1) x' y' h1 h2) h
theorem jaC {b:RBk} {s:List Int} (h:InB b s) (hr:rightM b s=true):s∈zf b:=by
 have:=qH (b:=b) b.shrinks [] s h.1 (fun i x y hx hy=>by
  obtain ⟨hi,_⟩:=lD.1 hx;have h1:=h.2 i hi;have h2:=kq (b:=b) hi;rw [hx] at h2;cases h2;rw [lE,hy] at h1;exact h1) (by rw [lC]; exact hr)
 rwa [lC] at this
theorem jaK {b:RBk} {l:List Int} (hne:zf b≠[]):sqOk b (zf b) l=true↔canM b l=1:=by
 rw [(xG b l hne).1,xl]
def saidM (w:Int) (z:Bool):Bool:=decide (w=0)||((w==1)==z)
end Go.Vel
namespace Go.Vel
open Go Go.Conc Go.Proofs
instance:EqG tp 49:={}
instance:EqG tp 94:={}
instance:FlatF tp 49 [(3,0),(3,1),(3,2)]:={}
instance:FlatF tp 94 [(3,0),(3,1),(3,2),(3,3),(4,4)]:={}
instance:Und tp 4 .bool:={}
instance:Cal tp 19:={}
instance:Cal tp 44:={}
instance:Cal tp 49:={}
section
variable {P:Program} {gm:Nat->Option Nat} {V:KV} {env:List AV} {o:Oper}
theorem jbR {t yt:TypeId} {x y:Operand} {k':IntKind} {a b:Nat} (ho:o.op=.binOp .shr t x y yt) (hx:zn gm env x=some (.v (.int .u8 a))) (hy:zn gm env y=some (.v (.int k' b))) (h0:b<=6):Qk P gm env V o (.v (.int .u8 ((a / 2 ^ b:Nat):Int))):=fun A _=>by
 refine vr ho (by rw [zx hx]; rfl) (by rw [zx hy]; rfl) ?_;rw [zab];show zR P (Op.shift .shr .u8 a k' b)=_;unfold Op.shift;rw [if_neg oQ];show some (Value.int .u8 ((a:Int).fdiv (2 ^ min (b:Int).toNat 8)))=_;rw [mZ,Nat.min_eq_left oQ,show ((a:Int).fdiv (2 ^ b))=((a / 2 ^ b:Nat):Int) by rw [Int.fdiv_eq_ediv_of_nonneg _ (by exact_mod_cast mN (2 ^ b))]; norm_cast]
theorem jbQ {t yt:TypeId} {x y:Operand} {a:Nat} (ho:o.op=.binOp .and t x y yt) (hx:zn gm env x=some (.v (.int .u8 a))) (hy:zn gm env y=some (.v (.int .u8 1))) (h:a<256):Qk P gm env V o (.v (.int .u8 ((a % 2:Nat):Int))):=by
 refine wz ho hx hy ?_;show some (Value.int .u8 (IntKind.u8.wrap ((BitVec.ofInt 8 (a:Int) &&& BitVec.ofInt 8 1).toNat:Int)))=_;have:(BitVec.ofInt 8 (a:Int) &&& BitVec.ofInt 8 1).toNat=a % 2:=by
  rw [BitVec.toNat_and];have e1:(BitVec.ofInt 8 (a:Int)).toNat=a:=by
   rw [BitVec.toNat_ofInt];omega
  rw [e1];show a &&& 1=a % 2;exact Nat.and_one_is_mod a
 rw [this];have h2:a % 2=0\/a % 2=1:=by omega
 rcases h2 with h2 | h2 <;> rw [h2] <;> rfl
end
theorem jav {c i:Nat} (h:c / 2 ^ i % 2=1):zw c (i+1)=zw c i++[(i:Int)]:=by
 show zw c i++_=_;rw [if_pos h]
theorem jau {c i:Nat} (h:¬ c / 2 ^ i % 2=1):zw c (i+1)=zw c i:=by
 show zw c i++_=_;rw [if_neg h,lR]
instance:Cal tp 62:={}
instance:Cal tp 75:={}
theorem jbk {main T} (hT:zo tp main T) {gm} {b:RBk} {s h e c:Nat} (hn:1<=b.seams.length/\b.seams.length<=5) (hc:c<256) :
  zA tp T gm 50 [.agg (zE b s h e),.v (.int .u8 (c:Int))] [] (fun r K'=>∃ (jo:Nat) (eo:TypeId),r=.sl jo 0 (otherM c b.seams.length).length/\K'=[(jo,.cells ((otherM c b.seams.length).map intA) eo false)]):=by
 refine zp 34 hT Tryz.func50 fun Y hret=>?_;refine au 21042 ?_;intro jb hjb;refine au 54235 ?_;refine TK.virt 5 3 1 Z fun jr0 hjr0=>?_;refine au 130354223 ?_;refine bA [1,2,5,6] ?_;refine bC [(jr0,_),(jb,_)] ?_;refine bE (fun n env K=>∃ (i jr:Nat),n=b.seams.length - i/\i<=b.seams.length/\env=.any::.v (.int .u8 (c:Int))::.ptr jb 0::naL 2 (.row jr (zw c i).length::intA i::naL 27 [])/\K=[(jr,.row ((zw c i).map intA) 3 1),(jb,.cells (zE b s h e) 26 true)]) b.seams.length ⟨0,jr0,rfl,mN _,rfl,rfl⟩ fun n env K hI hnext=>?_;obtain ⟨i,jr,rfl,hi,rfl,rfl⟩:=hI;have hbl:=wF c i;refine bG nQ ?_;refine au 9372806906701422 ?_;constructor<;>intro hc0
 ·have hil:i<b.seams.length:=by simp at hc0; omega
  refine au 11421302120 ?_;refine bH Z (jbR Z Z Z oQ) ?_;refine bH Z (jbQ Z Z Z (by have:=Nat.div_le_self c (2 ^ i); omega)) ?_;refine au 937 ?_;constructor<;>intro hc1
  ·have hbit:c / 2 ^ i % 2=1:=by have h:=eq_of_beq hc1; omega
   refine au 114 ?_;refine bI Z Z Z (zt (l:=[_]) Z zF.h TyZ.h dQ dQ Z) (fun _=>zu rfl tQ) fun j1 hj1=>?_;refine bO Z Z Z (a_app Z ApOf.h Z mQ sQ Z (yw (ln:=[_]) mQ dQ sQ Z) oQ Z (by unfold maxLen; omega) oQ) (fun _=>uQ) (fun _=>zu rfl tQ) fun jr2=>?_;refine au 352301414035 ?_;refine bA [1,2,5,6] ?_;refine bC [(jr2,_),(jb,_)] ?_;exact hnext _ _ _ oQ ⟨i+1,jr2,rfl,oQ,by rw [jav hbit,lF]; rfl,by rw [jav hbit,lM]; rfl⟩
  have hbit:¬ c / 2 ^ i % 2=1:=fun h=>by rw [h] at hc1; simp at hc1
  refine au 3523014140120 ?_;refine bA [1,2,5,6] ?_;refine bC [(jr,_),(jb,_)] ?_;exact hnext _ _ _ oQ ⟨i+1,jr,rfl,oQ,by rw [jau hbit] <;> rfl,by rw [jau hbit] <;> rfl⟩
 obtain rfl:i=b.seams.length:=by simp at hc0; omega
 refine au 9372801422160 ?_;constructor<;>intro hc2
 ·have hb0:zw c b.seams.length=[]:=by have h:=eq_of_beq hc2; exact List.eq_nil_of_length_eq_zero oQ
  have hot:otherM c b.seams.length=[((c % b.seams.length:Nat):Int)]:=if_pos hb0;refine au 142 ?_;refine bH Z (yV Z Z Und.h Und.h (we oQ)) ?_;refine au 280690670 ?_;refine bH Z (q_rem Z Z Z oQ oQ) ?_;refine bI Z Z Z (zt (l:=[_]) Z zF.h TyZ.h dQ dQ Z) (fun _=>zu rfl tQ) fun jo hjo=>?_;refine au 5 ?_;refine bZ 4 Z mQ ?_;refine bY (j:=jo) ?_;refine au 3 ?_;refine bB hret [(jo,_)] ?_;exact ⟨jo,_,by rw [hot]; rfl,by rw [hot]; rfl⟩
 have hb0:zw c b.seams.length≠[]:=fun hh=>by rw [hh] at hc2; simp at hc2
 have hot:otherM c b.seams.length=zw c b.seams.length:=if_neg hb0;refine bZ 5 Z mQ ?_;refine bY (j:=jr) ?_;refine au 35142120 ?_;refine bB hret [(jr,_)] ?_;exact ⟨jr,_,by rw [hot],by rw [hot]⟩
theorem qY {b:RBk}:∀ (l:List Int) (last:Option Int),(∀ n∈l,0<=n/\n<b.seams.length/\∀ k,last=some k->k<n)->l.Pairwise (· < ·)->cutsL b last l=0
 | [],_,_,_=>rfl
 | n::r,last,h,hp=>by
  obtain ⟨h1,h2,h3⟩:=h n sQ;obtain ⟨p1,p2⟩:=List.pairwise_cons.1 hp;have ht:thereM b n=0:=by unfold thereM; rw [if_pos (by simp [betw]; omega)]
  unfold cutsL;rw [if_neg (by rw [ht]; decide),if_neg]
  ·exact qY r _ (fun m hm=>⟨(h m (by simp [hm])).1,(h m (by simp [hm])).2.1,fun k hk=>by cases hk; exact p1 m hm⟩) p2
  ·cases last with
   | none=>simp [notAft]
   | some k=>have:=h3 k rfl; simp [notAft]; omega
theorem qz {b:RBk} {l:List Int} (h:CutsOk b l):cutsM b l=0:=by
 unfold cutsM;have:=h.pos;rw [if_neg oQ];exact qY l none (fun n hn=>⟨(h.bnd n hn).1,(h.bnd n hn).2,fun k hk=>by cases hk⟩) h.asc
section
variable {main:Bool} {T:Goroutine->Hp->Prop} {b:RBk} {s h e j:Nat} {l:List Int} {et:TypeId}
end
instance:Cal tp 50:={}
instance:Cal tp 65:={}
instance:Cal tp 76:={}
def u16A (x:Fin 65536):AV:=.v (.int .u16 (x.1:Int))
def u16O (l:List (Fin 65536)):AObj:=.cells (l.flatMap fun x=>[u16A x]) 212 false
def choM (l:List (Fin 65536)) (i:Nat):Int:=match l[i]? with | some x=>x.1 | none=>0
def chosenM (x:RBand) (n:Int):Int:=x.low+n % (x.high - x.low+1)
def realM (b:RBk) (ps:List (Fin 65536)):Nat->List Int
 | 0=>[]
 | i+1=>realM b ps i++[chosenM (bd b i) (choM ps i)]
instance:Cal tp 139:={}
instance:Cal tp 140:={}
instance:zF tp 91 212 1:={}
instance:zi tp 212 false 1:={}
instance:Und tp 212 (.int .u16):={}
instance:Und tp 91 (.slice 212):={}
section
variable {P:Program} {gm:Nat->Option Nat} {T:Goroutine->Hp->Prop} {Y:KX P gm T} {ds:List Nat} {k:List Item} {env env':List AV} {K:KV}
theorem xw:∀ R L:KV,Split (R++L) R L
 | [],L=>.none L
 | x::R,L=>.left (xw R L)
end
def objsL (P:List (Nat×List Int)):KV:=P.map fun x=>(x.1,.cells (x.2.map intA) 3 false)
def refsL (P:List (Nat×List Int)):List AV:=P.map fun x=>.sl x.1 0 x.2.length
def stepS (b:RBk) (i:Nat) (p:List Int):List (List Int):=(numsM (bd b i)).map fun n=>p++[n]
instance:Cal tp 162:={}
instance:Cal tp 73:={}
instance:ApOf tp 104 27 1 24:={}
instance:Cal tp 141:={}
instance:zF tp 104 27 1:={}
instance:TyZ tp 27 [.slice none 0 0]:={}
instance:Und tp 104 (.slice 27):={}
end Go.Vel
namespace Go.Vel
open Go Go.Conc
def lastM (l:List Int):Nat->Option Int
 | 0=>none
 | i+1=>some (zN l i)
theorem jan {b:RBk} {n:Int} (h:betw n 0 (b.seams.length - 1)=true):thereM b n=0:=if_pos h
def clM (b:RBk) (c:Nat) (m:Nat):List Int:=(List.range m).map fun i=>(((c+i) % b.seams.length:Nat):Int)
theorem jX {l:List Int} (hp:l.Pairwise (· < ·)) {i j:Nat} (hij:i<=j) (hj:j<l.length):zN l i<=zN l j:=by
 rcases mR i j with h | h
 ·have e1:=z6 (l:=l) (k:=i) oQ;have e2:=z6 hj;rw [lA oQ] at e1;rw [lA hj] at e2;have:=List.pairwise_iff_getElem.1 hp i j oQ hj h;rw [Option.some.inj e1,Option.some.inj e2] at this;omega
 ·have:i=j:=by omega
  subst this;exact Int.le_refl _
theorem xX {l:List Int} {x:Int} (h:x∈l):∃ t,t<l.length/\zN l t=x:=by
 obtain ⟨t,ht,rfl⟩:=List.getElem_of_mem h;refine ⟨t,ht,?_⟩;unfold zN;rw [lE,lA ht];rfl
theorem jax {b:RBk} {l:List Int} (hl:CutsOk b l) {k:Nat} (hk:k<l.length) {i:Nat} (h1:1<=i) (h2:(i:Int)<manyM b l k):¬ ((((zN l k).toNat+i) % b.seams.length:Nat):Int)∈l:=fun hm=>by
 obtain ⟨t,ht,he⟩:=xX hm;have hc:=hl.lt hk;have h0:=hl.lt hl.pos;have hct:=hl.lt ht;unfold manyM at h2;by_cases e:k+1<l.length
 ·rw [if_pos e] at h2;have hn:=hl.lt e;rw [Nat.mod_eq_of_lt oQ] at he;rcases mR k t with h | h
  ·have:=jX hl.asc (i:=k+1) (j:=t) oQ ht;omega
  ·have:=jX hl.asc h hk;omega
 ·rw [if_neg e] at h2;have ha:=jX hl.asc (mN t) ht;have hb:=jX hl.asc (i:=t) (j:=k) oQ hk;rcases mR ((zN l k).toNat+i) b.seams.length with h | h
  ·rw [Nat.mod_eq_of_lt h] at he;omega
  ·rw [Nat.mod_eq_sub_mod h,Nat.mod_eq_of_lt oQ] at he;omega
theorem cl_at {b:RBk} {l:List Int} (hl:CutsOk b l) {k:Nat} (hk:k<l.length):((((zN l k).toNat+(manyM b l k).toNat) % b.seams.length:Nat):Int)∈l:=by
 have hc:=hl.lt hk;have h0:=hl.lt hl.pos;unfold manyM;by_cases e:k+1<l.length
 ·rw [if_pos e];have hn:=hl.lt e;have hlt:=zhO hl e;rw [Nat.mod_eq_of_lt oQ,show (((zN l k).toNat+(zN l (k+1) - zN l k).toNat:Nat):Int)=zN l (k+1) by omega];exact zgV e
 ·rw [if_neg e];have hb:=jX hl.asc (i:=0) (j:=k) (mN _) hk;rw [show (zN l k).toNat+(zN l 0 - zN l k+(b.seams.length:Int)).toNat=b.seams.length+(zN l 0).toNat by omega,Nat.add_mod_left,Nat.mod_eq_of_lt oQ,show (((zN l 0).toNat:Nat):Int)=zN l 0 by omega];exact zgV hl.pos
theorem xa (b:RBk) (x:Nat):nowS b [] x=jA (wideM b) x:=by
 unfold nowS;refine jB x fun i _=>?_;unfold nowM;show wideM b i - 0=_;omega
theorem qo {b:RBk} {l:List Int} (hl:CutsOk b l) {k:Nat} (hk:k<l.length):(stripM b l k).2=togM b [] (zN l k).toNat (manyM b l k).toNat:=by
 have hc:=hl.lt hk;have h0:=hl.lt hl.pos;have hmb:=x6 hl hk;unfold stripM endM cutS;dsimp only;by_cases e:k+1<l.length
 ·have hn:=hl.lt e;have hlt:=zhO hl e;rw [if_pos e];unfold manyM;rw [if_pos e,qR b [] _ _ oQ,xa,xa,show (zN l k).toNat+(zN l (k+1) - zN l k).toNat=(zN l (k+1)).toNat by omega,jQ _ hn.2.2,jQ _ hc.2.2];omega
 ·rw [if_neg e];have hm:(manyM b l k).toNat=b.seams.length - (zN l k).toNat+(zN l 0).toNat:=by
   have hb:=jX hl.asc (i:=0) (j:=k) (mN _) hk;unfold manyM;rw [if_neg e];omega
  rw [hm,xU b [] oQ _ oQ,xa,xa,xa,jQ _ hc.2.2,jQ _ h0.2.2,jbg oQ];omega
end Go.Vel
namespace Go.Vel
open Go Go.Conc Go.Proofs
instance:Cal tp 142:={}
instance:Cal tp 58:={}
instance:Cal tp 93:={}
instance:Cal tp 71:={}
instance:Cal tp 72:={}
instance:Cal tp 73:={}
instance:Cal tp 105:={}
instance:Cal tp 94:={}
def u8A (x:Fin 256):AV:=.v (.int .u8 (x.1:Int))
def u8O (l:List (Fin 256)):AObj:=.cells (l.flatMap fun x=>[u8A x]) 5 false
def Feas (b:RBk) (l x:List Int):Prop:=x.length=l.length/\∀ i,0<=x.getD i 0/\(i<l.length->x.getD i 0<=(cutS b l i).most)
instance:Cal tp 74:={}
instance:zF tp 100 5 1:={}
instance:zi tp 5 false 1:={}
instance:Und tp 100 (.slice 5):={}
end Go.Vel
namespace Go.Vel
open Go Go.Conc
def keyK (b:RBk) (l:List Int) (k:Int):Int:=(cutS b l k.toNat).busy*10 - k
def mostK (b:RBk) (l:List Int) (k:Int):Int:=(cutS b l k.toNat).most
def gO (b:RBk) (l:List Int) (o:List Int) (st:List Int) (sq u:Int):Alloc:=o.foldl (allocM b l) ⟨st,sq,u⟩
def gA (b:RBk) (l:List Int) (u:Int):Alloc:=gO b l (ordM b l) (mB l.length 0) (spoilM b l l.length) u
def bestI (b:RBk) (l x:List Int):Nat->Int
 | 0 => -1
 | i+1=>if x.getD i 0<(cutS b l i).most/\(bestI b l x i<0\/(cutS b l i).busy<=(cutS b l (bestI b l x i).toNat).busy) then i else bestI b l x i
end Go.Vel
namespace Go.Vel
open Go Go.Conc Go.Proofs
instance:Cal tp 96:={}
def posM (b:RBk) (l s w:List Int):Nat->Int
 | 0=>0
 | i+1=>atM b l s w i+togM b s (zN l i).toNat (manyM b l i).toNat
instance:Cal tp 102:={}
instance:Cal tp 103:={}
theorem qN {main T} (hT:zo tp main T) {gm} {j j2:Nat} {xs ys:List Int} {e1 e2:TypeId} (hl:xs.length<=1000) :
  zA tp T gm 29 [.sl j 0 xs.length,.sl j2 0 ys.length] [(j,.cells (xs.map intA) e1 false),(j2,.cells (ys.map intA) e2 false)] (fun r K'=>r=zP (decide (xs=ys))/\K'=[(j,.cells (xs.map intA) e1 false),(j2,.cells (ys.map intA) e2 false)]):=by
 refine zp 26 hT Tryz.func29 fun Y hret=>?_;refine au 937280128014223542 ?_;constructor<;>intro hc0
 ·refine au 3542 ?_;refine bB hret [(j,_),(j2,_)] ?_;exact ⟨by rw [decide_eq_false (fun h=>by rw [h] at hc0; simp at hc0)],rfl⟩
 have hll:xs.length=ys.length:=by simp at hc0; omega
 refine au 13035422120 ?_;refine bA [0,1,4,5] ?_;refine bE (fun n env K=>∃ (i:Nat),n=xs.length - i/\i<=xs.length/\xs.take i=ys.take i/\env=.sl j 0 xs.length::.sl j2 0 ys.length::naL 2 (zP false::intA i::naL 20 [])/\K=[(j,.cells (xs.map intA) e1 false),(j2,.cells (ys.map intA) e2 false)]) xs.length ⟨0,rfl,mN _,by simp,rfl,rfl⟩ fun n env K hI2 hnext=>?_;obtain ⟨i,rfl,hi,hta,rfl,rfl⟩:=hI2;refine bG nQ ?_;refine au 93728011422 ?_;constructor<;>intro hc1
 ·have hil:i<xs.length:=by simp at hc1; omega
  obtain ⟨x,hx⟩:∃ x,xs[i]? =some x:=⟨_,lA hil⟩;obtain ⟨y,hy⟩:∃ y,ys[i]? =some y:=⟨_,lA oQ⟩;refine au 21302120 ?_;refine bL [0,1,2,3,4,5,6,7,8] ?_;refine ad [[1,0],[1,5],[2,17,18]] ?_;refine bT [19] Z (hq:=zm Z Z zi.h (mC _) (yi hx Z)) (h:=?_);refine ad [[1,1],[1,5],[2,21,22]] ?_;refine bT [23] Z (hq:=zm Z Z zi.h (mC _) (yi hy Z)) (h:=?_);refine ad [[4,20,24],[14]] ?_;refine au 9 ?_;constructor<;>intro hc2
  ·refine au 3542 ?_;refine bB hret [(j,_),(j2,_)] ?_;exact ⟨by rw [decide_eq_false (ne_at hx hy (fun h=>by rw [h] at hc2; simp at hc2))],rfl⟩
  refine au 3523014140120 ?_;refine bA [0,1,4,5] ?_;refine bC [(j,_),(j2,_)] ?_;exact hnext _ _ _ oQ ⟨i+1,rfl,oQ,uX hx hy hta (by simp at hc2; exact hc2),rfl,rfl⟩
 obtain rfl:i=xs.length:=by simp at hc1; omega
 refine au 3542160 ?_;refine bB hret [(j,_),(j2,_)] ?_;exact ⟨by rw [decide_eq_true (zan hll hta)],rfl⟩
instance:Cal tp 21:={}
instance:Cal tp 23:={}
instance:Cal tp 28:={}
instance:Cal tp 31:={}
instance:ApOf tp 104 27 1 24:={}
instance:Cal tp 141:={}
instance:zF tp 104 27 1:={}
instance:TyZ tp 27 [.slice none 0 0]:={}
instance:Und tp 104 (.slice 27):={}
end Go.Vel
namespace Go.Vel
open Go Go.Conc
theorem xe:∀ (m:Nat) (l:List Int),l.Pairwise (· < ·)->(∀ x∈l,0<=x/\x<m)->∃ d,d<2 ^ m/\l=zw d m
 | 0,l,_,h=>⟨0,by decide,by
  cases l with
  | nil=>rfl
  | cons x r=>have:=h x sQ; omega⟩
 | m+1,l,hp,h=>by
  by_cases hm:(m:Int)∈l
  ·obtain ⟨l1,l2,rfl⟩:=List.append_of_mem hm;obtain ⟨p1,p2,p3⟩:=List.pairwise_append.1 hp;have e2:l2=[]:=by
    cases l2 with
    | nil=>rfl
    | cons y r =>
     have h1:=(List.pairwise_cons.1 p2).1 y sQ;have h2:=h y sQ;omega
   subst e2;obtain ⟨d,hd,rfl⟩:=xe m l1 p1 (fun x hx=>⟨(h x (by simp [hx])).1,p3 x hx m sQ⟩);refine ⟨d+2 ^ m,by rw [Nat.pow_succ]; omega,?_⟩;show _=zw (d+2 ^ m) m++_;rw [<- xf (d+2 ^ m) m m (mL _),Nat.add_mod_right,Nat.mod_eq_of_lt hd,Nat.add_div_right _ (Nat.two_pow_pos _),Nat.div_eq_of_lt hd];rfl
  ·obtain ⟨d,hd,rfl⟩:=xe m l hp (fun x hx=>⟨(h x hx).1,by
    have h1:=h x hx;have h2:x≠m:=fun e=>hm (e ▸ hx);omega⟩)
   refine ⟨d,by rw [Nat.pow_succ]; omega,?_⟩;show _=zw d m++_;rw [Nat.div_eq_of_lt hd];simp
theorem jK (b:RBk):∀ k,(clashL b k=none->∀ d,d<k->badM b d=false)/\(∀ l,clashL b k=some l->∃ c,c<k/\badM b c=true/\l=zw c b.measures.length/\∀ d,d<k->badM b d=true->zw d b.measures.length=l\/smallerM l (zw d b.measures.length)=true)
 | 0=>⟨fun _ d h=>by omega,fun l h=>by cases h⟩
 | k+1=>by
  obtain ⟨i1,i2⟩:=jK b k;unfold clashL;by_cases hb:badM b k=true
  ·rw [if_pos hb];cases hc:clashL b k with
   | none =>
    refine ⟨fun h=>(by cases h),fun l h=>?_⟩;cases h;refine ⟨k,oQ,hb,rfl,fun d hd hbd=>?_⟩;by_cases e:d=k
    ·left; rw [e]
    ·have:=i1 hc d oQ;rw [hbd] at this;cases this
   | some l0 =>
    obtain ⟨c,q1,q2,q3,q4⟩:=i2 l0 hc;dsimp only;by_cases hs:smallerM (zw k b.measures.length) l0=true
    ·rw [if_pos hs];refine ⟨fun h=>(by cases h),fun l h=>?_⟩;cases h;refine ⟨k,oQ,hb,rfl,fun d hd hbd=>?_⟩;by_cases e:d=k
     ·left; rw [e]
     ·rcases q4 d oQ hbd with h | h
      ·right; rw [h]; exact hs
      ·right; exact uy hs h
    ·rw [if_neg hs];refine ⟨fun h=>(by cases h),fun l h=>?_⟩;cases h;refine ⟨c,oQ,q2,q3,fun d hd hbd=>?_⟩;by_cases e:d=k
     ·rw [e];rcases zau (zw k b.measures.length) l0 with h | h | h
      ·exact .inl h
      ·exact absurd h hs
      ·exact .inr h
     ·exact q4 d oQ hbd
  ·rw [if_neg hb];refine ⟨fun h d hd=>?_,fun l h=>?_⟩
   ·by_cases e:d=k
    ·rw [e]; simpa using hb
    ·exact i1 h d oQ
   ·obtain ⟨c,q1,q2,q3,q4⟩:=i2 l h;refine ⟨c,oQ,q2,q3,fun d hd hbd=>?_⟩;by_cases e:d=k
    ·rw [e] at hbd; exact absurd hbd hb
    ·exact q4 d oQ hbd
end Go.Vel
namespace Go.Vel
open Go Go.Conc Go.Proofs
def shortB (most:Int) (l:List Int):Bool:=decide ((l.length:Int)<most)
def moreM (most n:Int) (A:List (List Int)):List (List Int):=(A.filter (shortB most)).map (· ++ [n])
def setsM (most:Int):Nat->List (List Int)
 | 0=>[[]]
 | n+1=>setsM most n++moreM most n (setsM most n).reverse
section
variable {P:Program} {T:Goroutine->Hp->Prop} {gm:Nat->Option Nat} {K:KV}
theorem zA.fr {g:FuncId} {args:List AV} {Kb R:KV} {Post Post':AV->KV->Prop} (h:zA P T gm g args K Post) (hp:Kb.Perm (K++R)) (hq:∀ r K',Post r K'->∃ K2,(K'++R).Perm K2/\Post' r K2):zA P T gm g args Kb Post':=by
 intro A hv hn;have hv2:zM (K++R) A:=hv.sub fun x hx=>hp.symm.subset hx;have hn2:=(zT hp).nodup_iff.1 hn;have hn3:=hn2;rw [yb] at hn3;refine (h A (hv2.sub fun x hx=>List.mem_append_left _ hx) (List.nodup_append.1 hn3).1).mono ?_;rintro r A' ⟨K',hk,hp'⟩;obtain ⟨K2,h1,h2⟩:=hq r K' hp';exact ⟨K2,((hk.frame (xw K R) hv2 hn2).permR h1).permL hp.symm,h2⟩
end
def sN (S:List (Nat×List Int)) (k:Nat):Nat×List Int:=S.getD k (0,[])
def sqW (b:RBk) (all:List (List Int)) (l:List Int) (i:Nat):Int×Int:=spreadM ((waysM b (all.take i) l).map (·.2))
instance:Cal tp 77:={}
end Go.Vel
namespace Go.Vel
open Go Go.Conc
def SIn (out:List Int) (x:Int) (k:Nat) (nx:List Int) (put:Bool):Prop :=
 nx.Pairwise (· < ·)/\(∀ z,z∈nx↔(z∈out.take k/\z≠x)\/(put=true/\z=x))/\(put=true↔∃ w∈out.take k,x<=w)/\nx.length<=k+(if put=true then 1 else 0)
def SMid (out:List Int) (x:Int) (k:Nat) (nx:List Int) (put:Bool):Prop :=
 nx.Pairwise (· < ·)/\(∀ z,z∈nx↔(z∈out.take k/\z≠x)\/(put=true/\z=x))/\(put=true↔∃ w∈out.take (k+1),x<=w)/\nx.length<=k+(if put=true then 1 else 0)
theorem sin_0 (out:List Int) (x:Int):SIn out x 0 [] false:=⟨List.Pairwise.nil,fun z=>by simp,by simp,by simp⟩
section
variable {out nx:List Int} {x y:Int} {k:Nat} {put:Bool}
theorem jas (ho:out.Pairwise (· < ·)) (hy:out[k]? =some y) {z:Int} (h:z∈out.take k):z<y:=by
 obtain ⟨i,hi,rfl⟩:=List.mem_iff_getElem.1 h;rw [List.length_take] at hi;obtain ⟨hk,rfl⟩:=lD.1 hy;rw [List.getElem_take];exact List.pairwise_iff_getElem.1 ho i k oQ hk oQ
theorem x9 {l:List Int} {z:Int} (h:l.Pairwise (· < ·)) (hz:∀ w∈l,w<z):(l++[z]).Pairwise (· < ·) :=
 List.pairwise_append.2 ⟨h,List.pairwise_singleton ..,fun a ha b hb=>by rw [lS.1 hb]; exact hz a ha⟩
theorem jam (hy:out[k]? =some y):(∃ w∈out.take (k+1),x<=w)↔(∃ w∈out.take k,x<=w)\/x<=y:=by
 rw [yQ hy];simp only [lT,lS];constructor
 ·rintro ⟨w,h | rfl,hw⟩
  ·exact .inl ⟨w,h,hw⟩
  ·exact .inr hw
 ·rintro (⟨w,h,hw⟩ | h)
  ·exact ⟨w,.inl h,hw⟩
  ·exact ⟨y,.inr rfl,h⟩
theorem jbq (ho:out.Pairwise (· < ·)) (hy:out[k]? =some y) (h:SIn out x k nx false) (hx:x<=y):SMid out x k (nx++[x]) true:=by
 obtain ⟨h1,h2,h3,h4⟩:=h;have hlt:∀ w∈nx,w<x:=fun w hw=>by
  rcases (h2 w).1 hw with ⟨g,_⟩ | ⟨g,_⟩
  ·have:¬ x<=w:=fun e=>by have:=h3.2 ⟨w,g,e⟩; cases this
   omega
  ·cases g
 refine ⟨x9 h1 hlt,fun z=>?_,?_,by simpa using h4⟩
 ·rw [lT,lS,h2];simp
 ·rw [jam hy];simp [hx]
theorem qI (hy:out[k]? =some y) (h:SIn out x k nx put) (hp:put=true\/¬ x<=y):SMid out x k nx put:=by
 obtain ⟨h1,h2,h3,h4⟩:=h;refine ⟨h1,h2,?_,h4⟩;rw [jam hy,h3];constructor
 ·exact .inl
 ·rintro (g | g)
  ·exact g
  ·rcases hp with hp | hp
   ·exact h3.1 hp
   ·exact absurd g hp
theorem x7 (ho:out.Pairwise (· < ·)) (hy:out[k]? =some y) (h:SMid out x k nx put) (hne:y≠x):SIn out x (k+1) (nx++[y]) put:=by
 obtain ⟨h1,h2,h3,h4⟩:=h;have hlt:∀ w∈nx,w<y:=fun w hw=>by
  rcases (h2 w).1 hw with ⟨g,_⟩ | ⟨g,rfl⟩
  ·exact jas ho hy g
  ·obtain ⟨v,hv,hwv⟩:=h3.1 g;rw [yQ hy,lT,lS] at hv;rcases hv with hv | rfl
   ·have:=jas ho hy hv; omega
   ·omega
 refine ⟨x9 h1 hlt,fun z=>?_,h3,by rw [lF]; simp; omega⟩;rw [lT,lS,h2,yQ hy,lT,lS];constructor
 ·rintro ((⟨g1,g2⟩ | g) | rfl)
  ·exact .inl ⟨.inl g1,g2⟩
  ·exact .inr g
  ·exact .inl ⟨.inr rfl,hne⟩
 ·rintro (⟨g1 | g1,g2⟩ | g)
  ·exact .inl (.inl ⟨g1,g2⟩)
  ·exact .inr g1
  ·exact .inl (.inr g)
theorem qJ (hy:out[k]? =some y) (h:SMid out x k nx put) (he:y=x):SIn out x (k+1) nx put:=by
 subst he;obtain ⟨h1,h2,h3,h4⟩:=h;refine ⟨h1,fun z=>?_,h3,oQ⟩;rw [h2,yQ hy,lT,lS];constructor
 ·rintro (⟨g1,g2⟩ | g)
  ·exact .inl ⟨.inl g1,g2⟩
  ·exact .inr g
 ·rintro (⟨g1 | g1,g2⟩ | g)
  ·exact .inl ⟨g1,g2⟩
  ·exact absurd g1 g2
  ·exact .inr g
def SOut (l:List Int) (i:Nat) (out:List Int):Prop:=out.Pairwise (· < ·)/\(∀ z,z∈out↔z∈l.take i)/\out.length<=i
theorem jbT (l:List Int):SOut l 0 []:=⟨List.Pairwise.nil,fun z=>by simp,mL _⟩
theorem jbd {l:List Int} {i:Nat} (hx:l[i]? =some x) (ho:SOut l i out) (h:SIn out x out.length nx true):SOut l (i+1) nx:=by
 obtain ⟨h1,h2,h3,h4⟩:=h;rw [lW] at h2;refine ⟨h1,fun z=>?_,by have:=ho.2.2; simp at h4; omega⟩;rw [h2,yQ hx,lT,lS,ho.2.1];constructor
 ·rintro (⟨g,_⟩ | ⟨_,g⟩)
  ·exact .inl g
  ·exact .inr g
 ·rintro (g | g)
  ·by_cases e:z=x
   ·exact .inr ⟨rfl,e⟩
   ·exact .inl ⟨g,e⟩
  ·exact .inr ⟨rfl,g⟩
theorem jbb {l:List Int} {i:Nat} (hx:l[i]? =some x) (ho:SOut l i out) (h:SIn out x out.length nx false):SOut l (i+1) (nx++[x]):=by
 obtain ⟨h1,h2,h3,h4⟩:=h;rw [lW] at h2 h3;have hlt:∀ w∈nx,w<x:=fun w hw=>by
  rcases (h2 w).1 hw with ⟨g,_⟩ | ⟨g,_⟩
  ·have:¬ x<=w:=fun e=>by have:=h3.2 ⟨w,g,e⟩; cases this
   omega
  ·cases g
 refine ⟨x9 h1 hlt,fun z=>?_,by have:=ho.2.2; rw [lF]; simp at h4 ⊢; omega⟩;rw [lT,lS,h2,yQ hx,lT,lS,ho.2.1];constructor
 ·rintro ((⟨g,_⟩ | ⟨g,_⟩) | g)
  ·exact .inl g
  ·cases g
  ·exact .inr g
 ·rintro (g | g)
  ·refine .inl (.inl ⟨g,fun e=>?_⟩);have:=h3.2 ⟨z,(ho.2.1 z).2 g,oQ⟩;cases this
  ·exact .inr g
theorem jbc {l:List Int} (h:SOut l l.length out):out=setI l:=xV h.1 (jO l) fun z=>by rw [h.2.1,lW,jV]
end
def knB (b:RBk) (a:Int):Int:=if bar2 (zr b) a=0 then (if (zf b).isEmpty=true then 9 else 0) else bar2 (zr b) a
theorem xZ {b:RBk} {a:Int} (h:bar2 (zr b) a≠0):knB b a=bar2 (zr b) a:=if_neg h
theorem xz {b:RBk} {a:Int} (h:bar2 (zr b) a=0) (hn:zf b=[]):knB b a=9:=by unfold knB; rw [if_pos h,hn]; rfl
theorem xT {b:RBk} {a:Int} (h:bar2 (zr b) a=0) (hn:zf b≠[]):knB b a=0:=by
 unfold knB;rw [if_pos h];cases hh:zf b with
 | nil=>exact absurd hh hn
 | cons x r=>rfl
theorem knB_0 {b:RBk} {a:Int} (h:knB b a=0):bar2 (zr b) a=0/\zf b≠[]:=by
 unfold knB at h;split at h
 ·rename_i h1;refine ⟨h1,fun e=>?_⟩;rw [e] at h; cases h
 ·rename_i h1; exact absurd h h1
def newF (b:RBk):Int×Int:=if knB b 0=0 then newM b else (0,0)
def canF (b:RBk) (l:List Int):Int:=if knB b (cutsM b l)=0 then canM b l else 0
def sqF (b:RBk) (l:List Int):Int×Int:=if knB b (cutsM b l)=0 then (sqLo b (zf b) l,sqHi b (zf b) l) else (0,0)
def sqB (b:RBk) (l:List Int):Int:=if knB b (cutsM b l)=0 then (if sqOk b (zf b) l=true then 0 else 8) else knB b (cutsM b l)
def shF (b:RBk) (n:Int):List Int:=if knB b (thereM b n)=0 then shrI b n else []
def isB (b:RBk) (l:List Int):Int:=bar2 (zr b) (shM b l)
def isF (b:RBk) (l:List Int):Bool:=decide (isB b l=0)&&decide (l∈zf b)
section
variable {b:RBk} {r:AV} {K' KK:KV}
theorem jY (x:Int):bar2 x 0=x:=by unfold bar2; split <;> simp_all
theorem new_f (h:(zr b≠0/\r=.tup [.agg [intA 0,intA 0],intA (zr b)]/\K'=KK)\/(zr b=0/\zf b=[]/\r=.tup [.agg [intA 0,intA 0],intA 9]/\K'=KK)\/(zr b=0/\zf b≠[]/\r=.tup [.agg [intA (newM b).1,intA (newM b).2],intA 0]/\K'=KK)):r=.tup [.agg [intA (newF b).1,intA (newF b).2],intA (knB b 0)]/\K'=KK:=by
 unfold newF;rcases h with ⟨h,h1,h2⟩ | ⟨h,hn,h1,h2⟩ | ⟨h,hn,h1,h2⟩
 ·have hk:knB b 0=zr b:=by rw [xZ (by rw [jY]; exact h),jY]
  rw [hk,if_neg h]; exact ⟨h1,h2⟩
 ·rw [xz (by rw [jY]; exact h) hn,if_neg dQ]; exact ⟨h1,h2⟩
 ·rw [xT (by rw [jY]; exact h) hn,if_pos rfl]; exact ⟨h1,h2⟩
theorem can_f {l:List Int} (h:(bar2 (zr b) (cutsM b l)≠0/\r=.tup [intA 0,intA (bar2 (zr b) (cutsM b l))]/\K'=KK)\/(bar2 (zr b) (cutsM b l)=0/\zf b=[]/\r=.tup [intA 0,intA 9]/\K'=KK)\/(bar2 (zr b) (cutsM b l)=0/\zf b≠[]/\r=.tup [intA (canM b l),intA 0]/\K'=KK)):r=.tup [intA (canF b l),intA (knB b (cutsM b l))]/\K'=KK:=by
 unfold canF;rcases h with ⟨h,h1,h2⟩ | ⟨h,hn,h1,h2⟩ | ⟨h,hn,h1,h2⟩
 ·rw [xZ h,if_neg h]; exact ⟨h1,h2⟩
 ·rw [xz h hn,if_neg dQ]; exact ⟨h1,h2⟩
 ·rw [xT h hn,if_pos rfl]; exact ⟨h1,h2⟩
theorem sq_f {l:List Int} (h:(bar2 (zr b) (cutsM b l)≠0/\r=.tup [.agg [intA 0,intA 0],intA (bar2 (zr b) (cutsM b l))]/\K'=KK)\/(bar2 (zr b) (cutsM b l)=0/\zf b=[]/\r=.tup [.agg [intA 0,intA 0],intA 9]/\K'=KK)\/(bar2 (zr b) (cutsM b l)=0/\zf b≠[]/\r=.tup [.agg [intA (sqLo b (zf b) l),intA (sqHi b (zf b) l)],intA (if sqOk b (zf b) l=true then 0 else 8)]/\K'=KK)):r=.tup [.agg [intA (sqF b l).1,intA (sqF b l).2],intA (sqB b l)]/\K'=KK:=by
 unfold sqF sqB;rcases h with ⟨h,h1,h2⟩ | ⟨h,hn,h1,h2⟩ | ⟨h,hn,h1,h2⟩
 ·rw [xZ h,if_neg h,if_neg h]; exact ⟨h1,h2⟩
 ·rw [xz h hn,if_neg dQ,if_neg dQ]; exact ⟨h1,h2⟩
 ·rw [xT h hn,if_pos rfl,if_pos rfl]; exact ⟨h1,h2⟩
end
theorem jad {b:RBk} (hb:ROk b) {s:List Int}:s∈zf b↔InB b s/\rightM b s=true :=
 ⟨fun h=>zcp hb _ [] (zdS b) rfl s h,fun h=>jaC h.1 h.2⟩
def sureM (x y:Int):Int:=if x=y then 1 else if x=0 then 2 else 0
def colM (all:List (List Int)) (n:Int) (i:Nat):List Int:=(all.take i).map fun s=>zN s n.toNat
def newW (b:RBk) (all:List (List Int)) (i:Nat):Int×Int:=spreadM ((all.take i).map (freshM b))
def wayN (b:RBk) (all:List (List Int)) (l:List Int) (i:Nat):Nat:=(waysM b (all.take i) l).length
end Go.Vel
namespace Go.Vel
open Go Go.Conc Go.Proofs
def BestAt (ok:List Int->Bool) (bt:List Int->List Int->Bool) (f:Nat->List Int) (i:Nat):Option Nat->Prop
 | none=>∀ k,k<i->f k=[]\/ok (f k)=false
 | some k=>k<i/\f k≠[]/\ok (f k)=true/\∀ t,t<i->f t≠[]->ok (f t)=true->f t=f k\/bt (f k) (f t)=true
section
variable {ok:List Int->Bool} {bt:List Int->List Int->Bool} {f:Nat->List Int} {i k:Nat}
end
def bvO (S:List (Nat×List Int)):Option Nat->AV
 | none=>.v (.slice none 0 0)
 | some k=>.sl (sN S k).1 0 (sN S k).2.length
def bqO (b:RBk) (all:List (List Int)) (S:List (Nat×List Int)):Option Nat->Int
 | none=>0
 | some k=>sqHi b all (sN S k).2
def chM (b:RBk) (all:List (List Int)) (x y:List Int):Bool:=cheaperM (x,sqHi b all x) (y,sqHi b all y)
instance:Cal tp 111:={}
instance:Cal tp 112:={}
def msX (b:RBk) (n:Int):RMeas:=b.measures.getD n.toNat ⟨0,0,0⟩
def onlyT (b:RBk) (l:List Int) (i:Nat):List RMeas:=(l.take i).map (msX b)
def onlyX (b:RBk) (l:List Int):RBk:={ b with measures:=onlyT b l l.length }
theorem jZ {b:RBk} {n:Int} (h:0<=n/\n<b.measures.length):b.measures[n.toNat]? =some (msX b n):=by
 unfold msX;rw [lE,lA oQ];rfl
theorem qj (b:RBk) (c:Nat):onlyX b (zw c b.measures.length)=onlyB b c:=by
 have key:∀ i,i<=b.measures.length->(zw c i).map (msX b)=onlyL b.measures c i:=by
  intro i
  induction i with
  | zero=>intro _; rfl
  | succ i ih =>
   intro hi;unfold zw onlyL;rw [lM,ih oQ];congr 1;split
   ·have h1:=jZ (b:=b) (n:=(i:Int)) oQ;rw [mZ] at h1;rw [h1];rfl
   ·rfl
 unfold onlyX onlyB onlyT;rw [lW,key _ (mL _)]
instance:Cal tp 63:={}
instance:Cal tp 64:={}
instance:Cal tp 65:={}
def mostR (all:List (List Int)) (n:Nat):Nat->Int
 | 0=>0
 | k+1=>max (mostR all n k) (cntM all n (zN (all.getD k []) n))
def badX (b:RBk) (l:List Int):Bool:=(zf (onlyX b l)).isEmpty
def ClsAt (b:RBk) (full:List Int) (f:Nat->List Int) (i:Nat) (o:Option Nat):Prop :=
 (∀ k,o=some k->k<i/\badX b (f k)=true)/\∀ t,t<i->badX b (f t)=true->f t=(o.elim full f)\/smallerM (o.elim full f) (f t)=true
end Go.Vel
namespace Go.Vel
open Go Go.Conc
def onM (n t i:Nat):Nat:=(i+t) % n
def rotL (t:Nat) (s:List Int):List Int:=(List.range s.length).map fun i=>s.getD (onM s.length t i) 0
theorem jC (t:Nat) (s:List Int):(rotL t s).length=s.length:=by unfold rotL; rw [lJ,List.length_range]
theorem ja1 {t:Nat} {s:List Int} {i:Nat} (h:i<s.length):(rotL t s).getD i 0=s.getD (onM s.length t i) 0:=by
 unfold rotL;rw [lE,lQ,List.getElem?_range h];rfl
theorem on_lt {n t i:Nat} (h:0<n):onM n t i<n:=Nat.mod_lt _ h
theorem jD {n t i:Nat} (ht:t<=n) (hi:i<n):onM n t (onM n (n - t) i)=i/\onM n (n - t) (onM n t i)=i:=by
 unfold onM;constructor
 ·rw [Nat.mod_add_mod,show i+(n - t)+t=i+n by omega,Nat.add_mod_right,Nat.mod_eq_of_lt hi]
 ·rw [Nat.mod_add_mod,show i+t+(n - t)=i+n by omega,Nat.add_mod_right,Nat.mod_eq_of_lt hi]
theorem xo (f:Nat->Int) (a:Nat):∀ k,jA (fun i=>f (i+a)) k=jA f (k+a) - jA f a
 | 0=>by rw [mO]; show (0:Int)=_; omega
 | k+1=>by
  show jA (fun i=>f (i+a)) k+f (k+a)=_;rw [xo f a k,show k+1+a=(k+a)+1 by omega];show _=jA f (k+a)+f (k+a) - _;omega
theorem jar (f:Nat->Int) (a b:Nat):jA f (a+b)=jA f a+jA (fun i=>f (i+a)) b:=by
 have:=xo f a b;rw [Nat.add_comm b a] at this;omega
theorem jbe (f:Nat->Int) {n t:Nat} (ht:t<=n):jA (fun i=>f (onM n t i)) n=jA f n:=by
 have e1:jA (fun i=>f (onM n t i)) n=jA (fun i=>f (onM n t i)) ((n - t)+t):=by rw [show n - t+t=n by omega]
 rw [e1,jar];have e2:jA (fun i=>f (onM n t i)) (n - t)=jA (fun i=>f (i+t)) (n - t):=jB _ fun i hi=>by unfold onM; rw [Nat.mod_eq_of_lt oQ]
 have e3:jA (fun i=>f (onM n t (i+(n - t)))) t=jA f t:=jB _ fun i hi=>by unfold onM; rw [show i+(n - t)+t=i+n by omega,Nat.add_mod_right,Nat.mod_eq_of_lt oQ]
 rw [e2,e3,xo,show n - t+t=n by omega];omega
theorem qC {l m:List Int} (h:l.length=m.length) (hh:∀ i,i<l.length->l.getD i 0=m.getD i 0):l=m:=by
 refine List.ext_getElem h fun i h1 h2=>?_;have:=hh i h1;rw [lE,lE,lA h1,lA h2] at this;exact this
theorem jI {n t:Nat} {s:List Int} (hs:s.length=n):∀ i,i<n->(rotL t s).getD i 0=s.getD (onM n t i) 0:=fun i hi=>by subst hs; exact ja1 hi
theorem xj {n t:Nat} {s:List Int} (hs:s.length=n) (ht:t<=n):rotL (n - t) (rotL t s)=s/\rotL t (rotL (n - t) s)=s:=by
 constructor
 ·refine qC (by rw [jC,jC]) fun i hi=>?_;rw [jC,jC] at hi;have h1:=on_lt (t:=n - t) (i:=i) (show 0<n by omega);rw [jI (n:=n) (by rw [jC]; exact hs) i oQ,jI hs _ h1,(jD ht oQ).1]
 ·refine qC (by rw [jC,jC]) fun i hi=>?_;rw [jC,jC] at hi;have h1:=on_lt (t:=t) (i:=i) (show 0<n by omega);rw [jI (n:=n) (by rw [jC]; exact hs) i oQ,jI hs _ h1,(jD ht oQ).2]
def MRot (n t:Nat) (x m:RMeas):Prop:=m.many=x.many/\m.wide=x.wide/\x.cloth.toNat=onM n t m.cloth.toNat
structure RotB (b o:RBk) (t:Nat):Prop where
 le:t<=b.seams.length
 steps:o.steps=b.steps
 round:o.round=b.round
 roll:o.roll=b.roll
 rolls:o.rolls=b.rolls
 len:o.seams.length=b.seams.length
 sms:∀ i,i<b.seams.length->(sm o i).most=(sm b (onM b.seams.length t i)).most/\(sm o i).busy=(sm b (onM b.seams.length t i)).busy/\(sm o i).spoil=(sm b (onM b.seams.length t i)).spoil/\(sm o i).whole=(sm b (onM b.seams.length t i)).whole
 wide:∀ i,i<b.seams.length->wideM o i=wideM b (onM b.seams.length t i)
 shr:∀ i,i<b.seams.length->bd o i=bd b (onM b.seams.length t i)
 me1:∀ x∈b.measures,∃ m∈o.measures,MRot b.seams.length t x m
 me2:∀ m∈o.measures,∃ x∈b.measures,MRot b.seams.length t x m
theorem MRot.symm {n t:Nat} {x m:RMeas} (h:MRot n t x m) (ht:t<=n) (hm:m.cloth.toNat<n):MRot n (n - t) m x:=⟨h.1.symm,h.2.1.symm,by rw [h.2.2,(jD ht hm).2]⟩
section
variable {b o:RBk} {t:Nat}
theorem RotB.symm (h:RotB b o t) (ho:ROk o):RotB o b (b.seams.length - t):=by
 have hl:=h.len;have hle:=h.le;refine ⟨by omega,h.steps.symm,h.round.symm,h.roll.symm,h.rolls.symm,hl.symm,fun i hi=>?_,fun i hi=>?_,fun i hi=>?_,fun m hm=>?_,fun x hx=>?_⟩
 ·rw [hl] at hi ⊢;have h1:=h.sms (onM b.seams.length (b.seams.length - t) i) (on_lt oQ);rw [(jD hle hi).1] at h1;exact ⟨h1.1.symm,h1.2.1.symm,h1.2.2.1.symm,h1.2.2.2.symm⟩
 ·rw [hl] at hi ⊢;have h1:=h.wide (onM b.seams.length (b.seams.length - t) i) (on_lt oQ);rw [(jD hle hi).1] at h1;exact h1.symm
 ·rw [hl] at hi ⊢;have h1:=h.shr (onM b.seams.length (b.seams.length - t) i) (on_lt oQ);rw [(jD hle hi).1] at h1;exact h1.symm
 ·obtain ⟨x,hx,hr⟩:=h.me2 m hm;have:=ho.mes.bnd m hm;exact ⟨x,hx,by rw [hl]; exact hr.symm hle oQ⟩
 ·obtain ⟨m,hm,hr⟩:=h.me1 x hx;have:=ho.mes.bnd m hm;exact ⟨m,hm,by rw [hl]; exact hr.symm hle oQ⟩
theorem RotB.atE (h:RotB b o t) (r:Int):RotB (atRound b r) (atRound o r) t:=⟨h.le,h.steps,rfl,h.roll,h.rolls,h.len,h.sms,h.wide,h.shr,h.me1,h.me2⟩
theorem RotB.togE (h:RotB b o t) (h0:0<b.seams.length) {s z:List Int} (hz:∀ i,i<b.seams.length->z.getD i 0=s.getD (onM b.seams.length t i) 0) (c:Nat):∀ k,togM o z c k=togM b s (onM b.seams.length t c) k
 | 0=>rfl
 | k+1=>by
  unfold togM;rw [h.togE h0 hz c k];congr 1;unfold nowM;have hi:(c+k) % o.seams.length<b.seams.length:=by rw [h.len]; exact Nat.mod_lt _ h0
  rw [h.wide _ hi,hz _ hi];have e:onM b.seams.length t ((c+k) % o.seams.length)=(onM b.seams.length t c+k) % b.seams.length:=by
   rw [h.len]; unfold onM;rw [Nat.mod_add_mod,Nat.mod_add_mod,Nat.add_right_comm]
  rw [e]
theorem RotB.rightE (h:RotB b o t) (h0:0<b.seams.length) {s:List Int} (hs:s.length=b.seams.length) (hr:rightM b s=true):rightM o (rotL t s)=true:=by
 unfold rightM at hr ⊢;rw [List.all_eq_true] at hr ⊢;intro m hm;obtain ⟨x,hx,h1,h2,h3⟩:=h.me2 m hm;have:=of_decide_eq_true (hr x hx);refine decide_eq_true ?_;rw [h.togE h0 (jI hs),<- h3,h1,h2];exact this
theorem RotB.inbE (h:RotB b o t) (hb:ROk b) (ho:ROk o) {s:List Int} (hs:InB b s):InB o (rotL t s):=by
 have hl:=hb.cls.len;have hl2:=ho.cls.len;have hlo:=h.len;have hsl:=hs.1;refine ⟨by rw [jC]; omega,fun i hi=>?_⟩;have hi':i<b.seams.length:=by omega
 rw [h.shr i hi',jI (n:=b.seams.length) oQ i hi'];exact hs.2 _ (by have:=on_lt (n:=b.seams.length) (t:=t) (i:=i) oQ; omega)
theorem RotB.statesE (h:RotB b o t) (hb:ROk b) (ho:ROk o) {s:List Int} (hs:s∈zf b):rotL t s∈zf o:=by
 have hl:=hb.cls.len;have h1:=hb.sms.len;rw [jad hb] at hs;exact (jad ho).2 ⟨h.inbE hb ho hs.1,h.rightE oQ (by rw [hs.1.1]; exact hl) hs.2⟩
theorem RotB.nilE (h:RotB b o t) (hb:ROk b) (ho:ROk o):zf b=[]↔zf o=[]:=by
 constructor
 ·intro e;refine List.eq_nil_iff_forall_not_mem.2 fun s hs=>?_;have:=(h.symm ho).statesE ho hb hs;rw [e] at this;cases this
 ·intro e;refine List.eq_nil_iff_forall_not_mem.2 fun s hs=>?_;have:=h.statesE hb ho hs;rw [e] at this;cases this
theorem RotB.stE (h:RotB b o t) {s:List Int} (hs:StOk b s):StOk o (rotL t s):=⟨by rw [jC,h.len]; exact hs.len,fun i hi=>by
 rw [h.len] at hi;rw [jI hs.len i hi,h.wide i hi];exact hs.bnd _ (on_lt oQ)⟩
theorem RotB.freshE (h:RotB b o t) (hb:ROk b) (ho:ROk o) {s:List Int} (hs:StOk b s):freshM o (rotL t s)=freshM b s:=by
 rw [qf hb hs,qf ho (h.stE hs),h.round,h.steps,h.len];congr 1;rw [<- jbe (fun i=>s.getD i 0) h.le];exact jB _ fun i hi=>jI hs.len i hi
end
def mvN (n t:Nat) (x:Int):Int:=((onM n (n - t) x.toNat:Nat):Int)
def mvM (n t:Nat) (l:List Int):List Int:=setI (l.map (mvN n t))
theorem jT {n t:Nat} {l:List Int} {y:Int}:y∈mvM n t l↔∃ x∈l,mvN n t x=y:=by unfold mvM; rw [jV,lY]
theorem jaE {n t:Nat} (ht:t<=n) {x y:Int} (hx:0<=x/\x<n) (hy:0<=y/\y<n) (h:mvN n t x=mvN n t y):x=y:=by
 have h1:=(jD (t:=t) ht (i:=x.toNat) oQ).1;have h2:=(jD (t:=t) ht (i:=y.toNat) oQ).1;have h3:onM n (n - t) x.toNat=onM n (n - t) y.toNat:=by unfold mvN at h; omega
 rw [h3,h2] at h1;omega
theorem jat {l:List Int} (h:l.Pairwise (· < ·)):l.Nodup:=h.imp fun h=>by omega
theorem jaH {xs:List Int} (h:xs.Nodup):(setI xs).Perm xs:=(List.perm_ext_iff_of_nodup (jat (jO xs)) h).2 fun z=>jV
section
variable {b o:RBk} {t:Nat} {l:List Int}
theorem jaU (ht:t<=b.seams.length) (hl:CutsOk b l):(l.map (mvN b.seams.length t)).Nodup:=by
 unfold List.Nodup;rw [List.pairwise_map];refine hl.asc.imp_of_mem fun {x y} hx hy hxy=>fun e=>?_;have:=jaE ht (hl.bnd x hx) (hl.bnd y hy) e;omega
theorem jai (ht:t<=b.seams.length) (hl:CutsOk b l):(mvM b.seams.length t l).Perm (l.map (mvN b.seams.length t)):=jaH (jaU ht hl)
theorem qL (ht:t<=b.seams.length) (hl:CutsOk b l):(mvM b.seams.length t l).length=l.length:=by rw [(jai ht hl).length_eq,List.length_map]
theorem RotB.cutsE (h:RotB b o t) (hl:CutsOk b l):CutsOk o (mvM b.seams.length t l):=by
 have h0:=hl.lt hl.pos;refine ⟨List.length_pos_of_mem (jT.2 ⟨zN l 0,zgV hl.pos,rfl⟩),fun y hy=>?_,jO _⟩;obtain ⟨x,hx,rfl⟩:=jT.1 hy;have:=on_lt (t:=b.seams.length - t) (i:=x.toNat) (show 0<b.seams.length by omega);rw [h.len];unfold mvN;omega
theorem xA (ht:t<=b.seams.length) (hl:CutsOk b l):mvM b.seams.length (b.seams.length - t) (mvM b.seams.length t l)=l:=by
 have key:∀ x∈l,mvN b.seams.length (b.seams.length - t) (mvN b.seams.length t x)=x:=fun x hx=>by
  have hx:=hl.bnd x hx;unfold mvN;rw [mZ,Nat.sub_sub_self ht,(jD ht oQ).1];omega
 refine xV (jO _) hl.asc fun z=>?_;rw [jT];constructor
 ·rintro ⟨y,hy,rfl⟩;obtain ⟨x,hx,rfl⟩:=jT.1 hy;rw [key x hx]; exact hx
 ·intro hz;exact ⟨_,jT.2 ⟨z,hz,rfl⟩,key z hz⟩
theorem mv_in (ht:t<=b.seams.length) (hl:CutsOk b l) {y:Nat} (hy:y<b.seams.length):((y:Nat):Int)∈mvM b.seams.length t l↔((onM b.seams.length t y:Nat):Int)∈l:=by
 have h0:=on_lt (t:=t) (i:=y) (show 0<b.seams.length by omega);have e:mvN b.seams.length t ((onM b.seams.length t y:Nat):Int)=(y:Int):=by
  unfold mvN;rw [mZ,(jD ht hy).2]
 rw [jT];constructor
 ·rintro ⟨x,hx,hxy⟩;rw [<- e] at hxy;rw [<- jaE ht (hl.bnd x hx) oQ hxy];exact hx
 ·intro hx;exact ⟨_,hx,e⟩
theorem qB (hl:CutsOk b l):fitsM b l=true↔(l.length:Int)<=b.rolls/\∀ x:Nat,(x:Int)∈l->(sm b x).whole=false/\∀ d:Nat,0<d->d<=b.seams.length->(((x+d) % b.seams.length:Nat):Int)∈l->(∀ e:Nat,0<e->e<d->¬ (((x+e) % b.seams.length:Nat):Int)∈l)->togM b [] x d<=b.roll:=by
 unfold fitsM;rw [mX,decide_eq_true_eq,List.all_eq_true];constructor
 ·rintro ⟨h1,h2⟩;refine ⟨h1,fun x hx=>?_⟩;obtain ⟨k,hk,hkx⟩:=xX hx;have hmb:=x6 hl hk;have h3:=h2 k (List.mem_range.2 hk);rw [mX,qo hl hk] at h3;have hsm:cutS b l k=sm b x:=by unfold cutS; rw [hkx]; rfl
  rw [hsm,hkx] at h3;refine ⟨by simpa using h3.1,fun d d0 d1 hd hn=>?_⟩;have e:d=(manyM b l k).toNat:=by
   rcases Nat.lt_trichotomy d (manyM b l k).toNat with h | h | h
   ·have:=jax hl hk (i:=d) d0 oQ;rw [hkx] at this;exact absurd hd this
   ·exact h
   ·have:=cl_at hl hk;rw [hkx] at this;exact absurd this (hn _ oQ h)
  rw [e];exact of_decide_eq_true h3.2
 ·rintro ⟨h1,h2⟩;refine ⟨h1,fun k hk=>?_⟩;have hk:=List.mem_range.1 hk;have hmb:=x6 hl hk;have hc:=hl.lt hk;have hx:(((zN l k).toNat:Nat):Int)=zN l k:=by omega
  obtain ⟨h3,h4⟩:=h2 (zN l k).toNat (by rw [hx]; exact zgV hk);rw [mX,qo hl hk];refine ⟨by unfold cutS; rw [h3]; rfl,decide_eq_true (h4 _ oQ oQ (cl_at hl hk) fun e e0 e1=>jax hl hk e0 oQ)⟩
theorem RotB.fitsE (h:RotB b o t) (hl:CutsOk b l) (hf:fitsM b l=true):fitsM o (mvM b.seams.length t l)=true:=by
 have hlo:=h.cutsE hl;have hc0:=hl.lt hl.pos;have h0:0<b.seams.length:=by omega
 rw [qB hl] at hf;rw [qB hlo,h.len];refine ⟨by rw [qL h.le hl,h.rolls]; exact hf.1,fun y hy=>?_⟩;have hyn:y<b.seams.length:=by have:=hlo.bnd _ hy; rw [h.len] at this; omega
 obtain ⟨q1,q2⟩:=hf.2 _ ((mv_in h.le hl hyn).1 hy);refine ⟨by rw [(h.sms y hyn).2.2.2]; exact q1,fun d d0 d1 hd hn=>?_⟩;have on_add:∀ d,onM b.seams.length t ((y+d) % b.seams.length)=(onM b.seams.length t y+d) % b.seams.length:=fun d=>by
  unfold onM;rw [Nat.mod_add_mod,Nat.mod_add_mod,Nat.add_right_comm]
 rw [h.togE h0 (s:=[]) (z:=[]) (fun i _=>rfl),h.roll];refine q2 d d0 d1 ?_ fun e e0 e1 he=>hn e e0 e1 ?_
 ·rw [<- on_add]; exact (mv_in h.le hl (Nat.mod_lt _ h0)).1 hd
 ·rw [<- on_add] at he; exact (mv_in h.le hl (Nat.mod_lt _ h0)).2 he
end
theorem jay (g:Int->Int) (l:List Int):∀ k,k<=l.length->jA (fun i=>g (zN l i)) k=fS g (l.take k)
 | 0,_=>by rw [List.take_zero]; rfl
 | k+1,hk=>by
  rw [yQ (z6 oQ),xt];show jA (fun i=>g (zN l i)) k+g (zN l k)=_+(g (zN l k)+0);rw [jay g l k oQ]; omega
theorem xr (g:Int->Int) (l:List Int):jA (fun i=>g (zN l i)) l.length=fS g l:=by rw [jay g l _ (Nat.le_refl _),List.take_length]
theorem jaA {F G:Int->Int} {g:Int->Int}:∀ l:List Int,(∀ v∈l,G (g v)=F v)->fS G (l.map g)=fS F l
 | [],_=>rfl
 | x::l,h=>by
  show G (g x)+fS G (l.map g)=F x+fS F l;rw [h x sQ,jaA l fun v hv=>h v (by simp [hv])]
def valN:List Int->List Int->Int->Int
 | x::l,y::w,v=>if x=v then y else valN l w v
 | _,_,_=>0
theorem jaN:∀ (l w:List Int),l.Pairwise (· < ·)->w.length=l.length->∀ i,i<l.length->valN l w (zN l i)=w.getD i 0
 | [],_,_,_,i,hi=>absurd hi (Nat.not_lt_zero i)
 | x::l,[],_,h,_,_=>by cases h
 | x::l,y::w,hp,h,0,_=>by show (if x=x then y else _)=y; rw [if_pos rfl]
 | x::l,y::w,hp,h,i+1,hi=>by
  obtain ⟨h1,h2⟩:=List.pairwise_cons.1 hp;have hi:i<l.length:=by simpa using hi
  have:=h1 _ (zgV hi);show (if x=zN l i then y else valN l w (zN l i))=w.getD i 0;rw [if_neg oQ];exact jaN l w h2 (by simpa using h) i hi
def costF (b:RBk) (f:Int->Int) (v:Int):Int:=(sm b v.toNat).spoil+f v*(sm b v.toNat).busy
section
variable {b o:RBk} {t:Nat} {l s w:List Int} {q:Int}
theorem jaQ (hb:ROk b) (hl:CutsOk b l) (hs:StOk b s) (h:hangM b l s=some (w,q)):∃ f:Int->Int,(∀ v∈l,0<=f v/\f v<=(sm b v.toNat).most)/\fS f l=freshM b s/\q=fS (costF b f) l:=by
 obtain ⟨h1,h2,h3,h4,h5⟩:=xg hb hl hs h;have hv:=jaN l w hl.asc h2;refine ⟨valN l w,fun v hv'=>?_,?_,?_⟩
 ·obtain ⟨k,hk,rfl⟩:=xX hv';rw [hv k hk];exact ⟨(h5 k).1,(h5 k).2 hk⟩
 ·rw [<- xr,<- h3];exact jB _ fun i hi=>hv i hi
 ·rw [<- xr,h4];refine jB _ fun i hi=>?_;unfold costF;rw [hv i hi];rfl
theorem qG {f:Int->Int} {i:Nat} (hi:i<l.length):(l.map f).getD i 0=f (zN l i):=by
 rw [lE,lQ,z6 hi]; rfl
theorem jbm (hb:ROk b) (hl:CutsOk b l) (hs:StOk b s) (h:hangM b l s=some (w,q)) {f:Int->Int} (hf:∀ v∈l,0<=f v/\f v<=(sm b v.toNat).most) (hsum:fS f l=freshM b s):q<=fS (costF b f) l:=by
 obtain ⟨h1,h2,h3,h4,h5⟩:=xg hb hl hs h;have k1:∀ i,0<=(l.map f).getD i 0/\(i<l.length->(l.map f).getD i 0<=(cutS b l i).most):=fun i=>by
  by_cases hi:i<l.length
  ·rw [qG hi];exact ⟨(hf _ (zgV hi)).1,fun _=>(hf _ (zgV hi)).2⟩
  ·rw [lE,lU (by rw [lJ]; omega)];exact ⟨Int.le_refl _,fun h=>absurd h hi⟩
 have k2:jA (fun i=>(l.map f).getD i 0) l.length=freshM b s:=by
  rw [<- hsum,<- xr];exact jB _ fun i hi=>qG hi
 have key:=(cheapest hb hl hs h (x:=l.map f) (by rw [lJ]) k1 k2).1;rw [h4];refine Int.le_trans key (Int.le_of_eq ?_);rw [<- xr];refine jB _ fun i hi=>?_;unfold costF;rw [qG hi];rfl
theorem RotB.sumE (h:RotB b o t) (hl:CutsOk b l) {F G:Int->Int} (hFG:∀ v∈l,G (mvN b.seams.length t v)=F v):fS G (mvM b.seams.length t l)=fS F l:=by
 rw [qZ G (jai h.le hl)];exact jaA l hFG
theorem RotB.seamE (h:RotB b o t) (hl:CutsOk b l) {v:Int} (hv:v∈l):(sm o (mvN b.seams.length t v).toNat).most=(sm b v.toNat).most/\(sm o (mvN b.seams.length t v).toNat).busy=(sm b v.toNat).busy/\(sm o (mvN b.seams.length t v).toNat).spoil=(sm b v.toNat).spoil/\onM b.seams.length t (mvN b.seams.length t v).toNat=v.toNat:=by
 have hb:=hl.bnd v hv;have h1:=(jD h.le (i:=v.toNat) oQ).1;have h2:=h.sms (onM b.seams.length (b.seams.length - t) v.toNat) (on_lt oQ);rw [h1] at h2;unfold mvN;rw [mZ];exact ⟨h2.1,h2.2.1,h2.2.2.1,h1⟩
theorem qK (b:RBk) (l:List Int):mostS b l l.length=fS (fun v=>(sm b v.toNat).most) l:=by rw [<- xr]; rfl
theorem RotB.hangL (h:RotB b o t) (hb:ROk b) (ho:ROk o) (hl:CutsOk b l) (hs:StOk b s) (hh:hangM b l s=some (w,q)):∃ w' q',hangM o (mvM b.seams.length t l) (rotL t s)=some (w',q')/\q'<=q:=by
 have hlo:=h.cutsE hl;have hso:=h.stE hs;have hfit:=(xg hb hl hs hh).1;have hfd:=xS hb hl hs;rw [hh,hfit,Bool.true_and] at hfd;have hle:freshM b s<=mostS b l l.length:=of_decide_eq_true hfd.symm;have hfo:(hangM o (mvM b.seams.length t l) (rotL t s)).isSome=true:=by
  rw [xS ho hlo hso,h.fitsE hl hfit,h.freshE hb ho hs,qK,h.sumE hl (F:=fun v=>(sm b v.toNat).most) (fun v hv=>(h.seamE hl hv).1),<- qK,decide_eq_true hle];rfl
 obtain ⟨f,f1,f2,f3⟩:=jaQ hb hl hs hh;cases hz:hangM o (mvM b.seams.length t l) (rotL t s) with
 | none=>rw [hz] at hfo; cases hfo
 | some z =>
  obtain ⟨w',q'⟩:=z;have hvv:∀ v∈l,((onM b.seams.length t (mvN b.seams.length t v).toNat:Nat):Int)=v:=fun v hv=>by
   rw [(h.seamE hl hv).2.2.2];have:=hl.bnd v hv;omega
  refine ⟨w',q',rfl,?_⟩;have k1:∀ y∈mvM b.seams.length t l,0<=f ((onM b.seams.length t y.toNat:Nat):Int)/\f ((onM b.seams.length t y.toNat:Nat):Int)<=(sm o y.toNat).most:=fun y hy=>by
   obtain ⟨v,hv,rfl⟩:=jT.1 hy;rw [(h.seamE hl hv).1,hvv v hv];exact f1 v hv
  have k2:fS (fun y=>f ((onM b.seams.length t y.toNat:Nat):Int)) (mvM b.seams.length t l)=freshM o (rotL t s):=by
   rw [h.freshE hb ho hs,<- f2];exact h.sumE hl fun v hv=>by rw [hvv v hv]
  have key:=jbm ho hlo hso hz (f:=fun y=>f ((onM b.seams.length t y.toNat:Nat):Int)) k1 k2;rw [f3];refine Int.le_trans key (Int.le_of_eq (h.sumE hl fun v hv=>?_));unfold costF;dsimp only;rw [hvv v hv,(h.seamE hl hv).2.1,(h.seamE hl hv).2.2.1]
theorem RotB.hangE (h:RotB b o t) (hb:ROk b) (ho:ROk o) (hl:CutsOk b l) (hs:StOk b s) (hh:hangM b l s=some (w,q)):∃ w',hangM o (mvM b.seams.length t l) (rotL t s)=some (w',q):=by
 obtain ⟨w',q',h1,h2⟩:=h.hangL hb ho hl hs hh;obtain ⟨w2,q2,h3,h4⟩:=(h.symm ho).hangL ho hb (h.cutsE hl) (h.stE hs) h1;rw [h.len,xA h.le hl,(xj hs.len h.le).1,hh] at h3;cases h3;exact ⟨w',by rw [h1,show q'=q by omega]⟩
end
theorem xx {xs ys:List Int} (h:∀ y,y∈xs↔y∈ys):spreadM xs=spreadM ys:=by
 by_cases hx:xs=[]
 ·have hy:ys=[]:=List.eq_nil_iff_forall_not_mem.2 fun y hy=>by
   have:=(h y).2 hy;rw [hx] at this;cases this
  rw [hx,hy]
 ·have hy:ys≠[]:=fun e=>by
   refine hx (List.eq_nil_iff_forall_not_mem.2 fun y hy=>?_);have:=(h y).1 hy;rw [e] at this;cases this
  obtain ⟨a1,a2,a3⟩:=qm hx;obtain ⟨c1,c2,c3⟩:=qm hy;have h1:=a1 _ ((h _).2 c2);have h2:=a1 _ ((h _).2 c3);have h3:=c1 _ ((h _).1 a2);have h4:=c1 _ ((h _).1 a3);exact Prod.ext oQ oQ
section
variable {b o:RBk} {t:Nat} {l:List Int}
theorem RotB.allE (h:RotB b o t) (hb:ROk b) (ho:ROk o) {z:List Int} (hz:z∈zf o):∃ s∈zf b,StOk b s/\rotL t s=z:=by
 have h1:=(h.symm ho).statesE ho hb hz;have h2:=(y8 ho hz).1.len;rw [h.len] at h2;exact ⟨_,h1,(y8 hb h1).1,(xj h2 h.le).2⟩
theorem RotB.newE (h:RotB b o t) (hb:ROk b) (ho:ROk o):newM o=newM b:=by
 refine xx fun y=>?_;rw [lY,lY];constructor
 ·rintro ⟨z,hz,rfl⟩;obtain ⟨s,hs,hst,rfl⟩:=h.allE hb ho hz;exact ⟨s,hs,(h.freshE hb ho hst).symm⟩
 ·rintro ⟨s,hs,rfl⟩;exact ⟨_,h.statesE hb ho hs,h.freshE hb ho (y8 hb hs).1⟩
theorem RotB.shrk (h:RotB b o t) (hb:ROk b) (ho:ROk o) {i:Nat} (hi:i<b.seams.length):shrI o ((onM b.seams.length (b.seams.length - t) i:Nat):Int)=shrI b (i:Int):=by
 refine ja7 fun z=>?_;rw [lY,lY,mZ,mZ];have key:∀ s,StOk b s->zN (rotL t s) (onM b.seams.length (b.seams.length - t) i)=zN s i:=fun s hs=>by
  unfold zN;rw [jI hs.len _ (on_lt oQ),(jD h.le hi).1]
 constructor
 ·rintro ⟨z,hz,rfl⟩;obtain ⟨s,hs,hst,rfl⟩:=h.allE hb ho hz;exact ⟨s,hs,(key s hst).symm⟩
 ·rintro ⟨s,hs,rfl⟩;exact ⟨_,h.statesE hb ho hs,key s (y8 hb hs).1⟩
theorem RotB.isomE (h:RotB b o t) (hb:ROk b) (ho:ROk o) (hl:CutsOk b l) {s:List Int} (hs:StOk b s):(hangM o (mvM b.seams.length t l) (rotL t s)).isSome=(hangM b l s).isSome:=by
 cases hh:hangM b l s with
 | some z =>
  obtain ⟨w,q⟩:=z;obtain ⟨w',h1⟩:=h.hangE hb ho hl hs hh;rw [h1]; rfl
 | none =>
  cases hz:hangM o (mvM b.seams.length t l) (rotL t s) with
  | none=>rfl
  | some z =>
   obtain ⟨w,q⟩:=z;obtain ⟨w',h1⟩:=(h.symm ho).hangE ho hb (h.cutsE hl) (h.stE hs) hz;rw [h.len,xA h.le hl,(xj hs.len h.le).1,hh] at h1;cases h1
theorem RotB.sqOkE (h:RotB b o t) (hb:ROk b) (ho:ROk o) (hl:CutsOk b l):sqOk o (zf o) (mvM b.seams.length t l)=sqOk b (zf b) l:=by
 rw [Bool.eq_iff_iff,xl,xl];constructor
 ·intro hh s hs;rw [<- h.isomE hb ho hl (y8 hb hs).1];exact hh _ (h.statesE hb ho hs)
 ·intro hh z hz;obtain ⟨s,hs,hst,rfl⟩:=h.allE hb ho hz;rw [h.isomE hb ho hl hst];exact hh s hs
theorem RotB.waysE (h:RotB b o t) (hb:ROk b) (ho:ROk o) (hl:CutsOk b l) (y:Int):y∈(waysM o (zf o) (mvM b.seams.length t l)).map (·.2)↔y∈(waysM b (zf b) l).map (·.2):=by
 unfold waysM;rw [lY,lY];constructor
 ·rintro ⟨z,hz,rfl⟩;obtain ⟨s',hs',h1⟩:=List.mem_filterMap.1 hz;obtain ⟨s,hs,hst,rfl⟩:=h.allE hb ho hs';obtain ⟨w,q⟩:=z;obtain ⟨w2,h2⟩:=(h.symm ho).hangE ho hb (h.cutsE hl) (h.stE hst) h1;rw [h.len,xA h.le hl,(xj hst.len h.le).1] at h2;exact ⟨(w2,q),List.mem_filterMap.2 ⟨s,hs,h2⟩,rfl⟩
 ·rintro ⟨z,hz,rfl⟩;obtain ⟨s,hs,h1⟩:=List.mem_filterMap.1 hz;obtain ⟨w,q⟩:=z;obtain ⟨w2,h2⟩:=h.hangE hb ho hl (y8 hb hs).1 h1;exact ⟨(w2,q),List.mem_filterMap.2 ⟨_,h.statesE hb ho hs,h2⟩,rfl⟩
theorem jal {b:RBk} {all:List (List Int)} {l:List Int} (h:sqOk b all l=true):squaresM b all l=some (spreadM ((waysM b all l).map (·.2))):=by
 unfold sqOk squaresM at h;unfold squaresM;split at h
 ·cases h
 ·rename_i h1;rw [if_neg h1]
theorem RotB.sqE (h:RotB b o t) (hb:ROk b) (ho:ROk o) (hl:CutsOk b l):sqLo o (zf o) (mvM b.seams.length t l)=sqLo b (zf b) l/\sqHi o (zf o) (mvM b.seams.length t l)=sqHi b (zf b) l:=by
 have h1:=h.sqOkE hb ho hl;cases h2:sqOk b (zf b) l with
 | false =>
  rw [h2] at h1;have h3:=zhC h1;have h4:=zhC h2;omega
 | true =>
  rw [h2] at h1;unfold sqLo sqHi;rw [jal h1,jal h2,xx (h.waysE hb ho hl)];exact ⟨rfl,rfl⟩
theorem RotB.can2 (h:RotB b o t) (hb:ROk b) (ho:ROk o) (hl:CutsOk b l) (hne:zf b≠[]):canM o (mvM b.seams.length t l)=canM b l:=by
 have hno:zf o≠[]:=fun e=>hne ((h.nilE hb ho).2 e);have h1:canM o (mvM b.seams.length t l)=1↔canM b l=1:=by rw [<- jaK hno,<- jaK hne,h.sqOkE hb ho hl]
 have h2:canM o (mvM b.seams.length t l)=2↔canM b l=2:=by
  rw [(xG _ _ hno).2,(xG _ _ hne).2];constructor
  ·intro hh s hs;have e:=h.isomE hb ho hl (y8 hb hs).1;rw [hh _ (h.statesE hb ho hs)] at e;exact Option.isNone_iff_eq_none.1 (by rw [<- Option.not_isSome,<- e]; rfl)
  ·intro hh z hz;obtain ⟨s,hs,hst,rfl⟩:=h.allE hb ho hz;have e:=h.isomE hb ho hl hst;rw [hh _ hs] at e;exact Option.isNone_iff_eq_none.1 (by rw [<- Option.not_isSome,e]; rfl)
 rcases qd o (mvM b.seams.length t l) with e1 | e1 | e1 <;> rcases qd b l with e2 | e2 | e2 <;> omega
theorem RotB.bitsE (h:RotB b o t) (hb:ROk b) (ho:ROk o) {c:Nat} (h0:0<c) (h1:c<2 ^ b.seams.length):∃ d,0<d/\d<2 ^ o.seams.length/\zw d o.seams.length=mvM b.seams.length t (zw c b.seams.length):=by
 have hl:=zeE hb h0 h1;have hlo:=h.cutsE hl;obtain ⟨d,hd,e⟩:=xe o.seams.length _ hlo.asc hlo.bnd;refine ⟨d,?_,hd,e.symm⟩;rcases mP d with rfl | h
 ·have:=hlo.pos;rw [e,qy] at this;cases this
 ·exact h
theorem RotB.noPlan (h:RotB b o t) (hb:ROk b) (ho:ROk o) (hn:NoPlan b (zf b)):NoPlan o (zf o):=fun d h0 h1=>by
 obtain ⟨c,c0,c1,e⟩:=(h.symm ho).bitsE ho hb h0 h1;have h2:=(h.symm ho).sqOkE ho hb (zeE ho h0 h1);rw [<- e,hn c c0 c1] at h2;exact h2.symm
theorem RotB.half (h:RotB b o t) (hb:ROk b) (ho:ROk o) {c d:Nat} (hp:PlanA b (zf b) cheaperM c) (hq:PlanA o (zf o) cheaperM d):sqHi o (zf o) (zw d o.seams.length)<=sqHi b (zf b) (zw c b.seams.length)/\(sqHi o (zf o) (zw d o.seams.length)=sqHi b (zf b) (zw c b.seams.length)->(zw d o.seams.length).length<=(zw c b.seams.length).length):=by
 obtain ⟨e,e0,e1,ee⟩:=h.bitsE hb ho hp.1 hp.2.1;have hl:=zeE hb hp.1 hp.2.1;have hs:=h.sqOkE hb ho hl;rw [hp.2.2.1,<- ee] at hs;have hhi:=(h.sqE hb ho hl).2;rw [<- ee] at hhi;obtain ⟨k1,k2⟩:=jaO hq e0 e1 hs;refine ⟨by omega,fun he=>?_⟩;have hle:=qL h.le hl;rw [<- ee] at hle;rcases k2 with k2 | k2
 ·omega
 ·rcases mR (zw e o.seams.length).length (zw d o.seams.length).length with hlt | hge
  ·rw [(kK _ _).2 (.inl hlt)] at k2;cases k2
  ·omega
theorem RotB.bestE (h:RotB b o t) (hb:ROk b) (ho:ROk o) {c d:Nat} (hp:PlanA b (zf b) cheaperM c) (hq:PlanA o (zf o) cheaperM d):sqHi o (zf o) (zw d o.seams.length)=sqHi b (zf b) (zw c b.seams.length)/\(zw d o.seams.length).length=(zw c b.seams.length).length:=by
 obtain ⟨h1,h2⟩:=h.half hb ho hp hq;obtain ⟨h3,h4⟩:=(h.symm ho).half ho hb hq hp;have e:sqHi o (zf o) (zw d o.seams.length)=sqHi b (zf b) (zw c b.seams.length):=by omega
 have:=h2 e;have:=h4 e.symm;exact ⟨e,oQ⟩
theorem RotB.few1 (h:RotB b o t) (hb:ROk b) (ho:ROk o) {c d:Nat} (hp:PlanA b (zf b) shorterM c) (hq:PlanA o (zf o) shorterM d):(zw d o.seams.length).length<=(zw c b.seams.length).length:=by
 obtain ⟨e,e0,e1,ee⟩:=h.bitsE hb ho hp.1 hp.2.1;have hl:=zeE hb hp.1 hp.2.1;have hs:=h.sqOkE hb ho hl;rw [hp.2.2.1,<- ee] at hs;have k2:=jbl hq e0 e1 hs;have hle:=qL h.le hl;rw [<- ee] at hle;rcases mR (zw e o.seams.length).length (zw d o.seams.length).length with hlt | hge
 ·rw [(kK _ _).2 (.inl hlt)] at k2;cases k2
 ·omega
theorem RotB.fewE (h:RotB b o t) (hb:ROk b) (ho:ROk o) {c d:Nat} (hp:PlanA b (zf b) shorterM c) (hq:PlanA o (zf o) shorterM d):(zw d o.seams.length).length=(zw c b.seams.length).length:=by
 have h1:=h.few1 hb ho hp hq;have h2:=(h.symm ho).few1 ho hb hq hp;omega
theorem RotB.planNo (h:RotB b o t) (hb:ROk b) (ho:ROk o) {c:Nat} {bt:List Int×Int->List Int×Int->Bool} (hp:PlanA b (zf b) bt c):¬ NoPlan o (zf o):=fun hn=>by
 have:=(h.symm ho).noPlan ho hb hn;exact x8 hp this
theorem RotB.noNo (h:RotB b o t) (hb:ROk b) (ho:ROk o) {d:Nat} {bt:List Int×Int->List Int×Int->Bool} (hn:NoPlan b (zf b)):¬ PlanA o (zf o) bt d:=fun hp=>x8 hp (h.noPlan hb ho hn)
theorem RotB.canAt1 (h:RotB b o t) (hb:ROk b) (ho:ROk o) {r:Int} (h1:b.steps<=r) (h2:r<=40) (hc:canAt b (zf b) r=true):canAt o (zf o) r=true:=by
 unfold canAt at hc;rw [List.any_eq_true] at hc;obtain ⟨c,hc,hcs⟩:=hc;rw [mX,decide_eq_true_eq] at hcs;have hbr:=zca hb h1 h2;have hor:=zca ho (by rw [h.steps]; exact h1) h2;have hr:=h.atE r;obtain ⟨d,d0,d1,e⟩:=hr.bitsE hbr hor hcs.1 (List.mem_range.1 hc);refine zgT d0 d1 ?_;have hl:=zeE hbr hcs.1 (List.mem_range.1 hc);have hs:=hr.sqOkE hbr hor hl;rw [xy,xy,<- e] at hs;exact hs.trans hcs.2
theorem RotB.widL (h:RotB b o t) (hb:ROk b) (ho:ROk o):∀ k:Nat,b.steps+k<=41->widestL o (zf o) k=widestL b (zf b) k
 | 0,_=>rfl
 | k+1,hk=>by
  have e:canAt o (zf o) (b.steps+k)=canAt b (zf b) (b.steps+k):=by
   rw [Bool.eq_iff_iff];exact ⟨(h.symm ho).canAt1 ho hb (by rw [h.steps]; omega) oQ,h.canAt1 hb ho oQ oQ⟩
  unfold widestL;rw [h.steps,e,h.widL hb ho k oQ]
theorem RotB.widestE (h:RotB b o t) (hb:ROk b) (ho:ROk o):widestM o (zf o)=widestM b (zf b):=by
 have:=hb.rnd.steps;unfold widestM;rw [h.steps];exact h.widL hb ho _ oQ
structure RevM (b o:RBk) (t:Nat):Prop where
 len:o.measures.length=b.measures.length
 ms:∀ i,i<b.measures.length->MRot b.seams.length t (msX b (i:Int)) (msX o ((b.measures.length - 1 - i:Nat):Int))
theorem RevM.symm (hm:RevM b o t) (h:RotB b o t) (ho:ROk o):RevM o b (b.seams.length - t):=by
 refine ⟨hm.len.symm,fun i hi=>?_⟩;have hl:=hm.len;rw [hl] at hi ⊢;rw [h.len];have h1:=hm.ms (b.measures.length - 1 - i) oQ;rw [show b.measures.length - 1 - (b.measures.length - 1 - i)=i by omega] at h1;refine h1.symm h.le ?_;have h2:=ho.mes.bnd (msX o (i:Int)) (lN (jZ (n:=(i:Int)) oQ));have:=h.len;omega
def revL (m:Nat) (l:List Int):List Int:=(l.map fun x=>((m - 1 - x.toNat:Nat):Int)).reverse
theorem ja0 (m:Nat) (l:List Int):(revL m l).length=l.length:=by unfold revL; rw [List.length_reverse,lJ]
theorem xL {m:Nat} {l:List Int} {y:Int}:y∈revL m l↔∃ x∈l,((m - 1 - x.toNat:Nat):Int)=y:=by unfold revL; rw [List.mem_reverse,lY]
theorem jaZ {m:Nat} {l:List Int} (hb:∀ x∈l,0<=x/\x<m) (h:l.Pairwise (· < ·)):(revL m l).Pairwise (· < ·):=by
 unfold revL;rw [List.pairwise_reverse,List.pairwise_map];refine h.imp_of_mem fun {x y} hx hy hxy=>?_;have:=hb x hx;have:=hb y hy;omega
theorem qM (b:RBk) (l:List Int):(onlyX b l).measures=l.map (msX b):=by unfold onlyX onlyT; rw [lW]
theorem xW (c:Nat):∀ m:Nat,∀ x∈zw c m,0<=x/\x<m
 | 0,x,h=>by cases h
 | m+1,x,h=>by
  unfold zw at h;rcases lT.1 h with h | h
  ·have:=xW c m x h; omega
  ·split at h
   ·rw [lS.1 h]; omega
   ·cases h
theorem qX (c:Nat):∀ m:Nat,(zw c m).Pairwise (· < ·)
 | 0=>List.Pairwise.nil
 | m+1=>by
  unfold zw;rw [List.pairwise_append];refine ⟨qX c m,?_,fun x hx y hy=>?_⟩
  ·split
   ·exact List.pairwise_singleton _ _
   ·exact List.Pairwise.nil
  ·have:=xW c m x hx;split at hy
   ·rw [lS.1 hy]; omega
   ·cases hy
theorem RotB.onlyE (h:RotB b o t) (hm:RevM b o t) {l:List Int} (hl:∀ x∈l,0<=x/\x<b.measures.length):RotB (onlyX b l) (onlyX o (revL b.measures.length l)) t:=by
 refine ⟨h.le,h.steps,h.round,h.roll,h.rolls,h.len,h.sms,h.wide,h.shr,fun x hx=>?_,fun m hm'=>?_⟩
 ·rw [qM] at hx ⊢;obtain ⟨i,hi,rfl⟩:=lY.1 hx;have hi2:=hl i hi;refine ⟨_,lY.2 ⟨_,xL.2 ⟨i,hi,rfl⟩,rfl⟩,?_⟩;have:=hm.ms i.toNat oQ;rw [show ((i.toNat:Nat):Int)=i by omega] at this;exact this
 ·rw [qM] at hm' ⊢;obtain ⟨y,hy,rfl⟩:=lY.1 hm';obtain ⟨i,hi,rfl⟩:=xL.1 hy;have hi2:=hl i hi;refine ⟨_,lY.2 ⟨i,hi,rfl⟩,?_⟩;have:=hm.ms i.toNat oQ;rw [show ((i.toNat:Nat):Int)=i by omega] at this;exact this
theorem RotB.badE (h:RotB b o t) (hb:ROk b) (ho:ROk o) (hm:RevM b o t) (c:Nat):∃ d,d<2 ^ o.measures.length/\badM o d=badM b c/\(zw d o.measures.length).length=(zw c b.measures.length).length:=by
 have hbd:=xW c b.measures.length;have hr:=h.onlyE hm hbd;have hlo:∀ x∈revL b.measures.length (zw c b.measures.length),0<=x/\x<o.measures.length:=fun y hy=>by
  obtain ⟨x,hx,rfl⟩:=xL.1 hy;have:=hbd x hx;rw [hm.len];omega
 obtain ⟨d,hd,e⟩:=xe o.measures.length _ (jaZ hbd (qX c _)) hlo;refine ⟨d,hd,?_,by rw [<- e,ja0]⟩;have hbo:=zgl hb c;have hoo:=zgl ho d;rw [e] at hr;rw [qj,qj] at hr;have hn:=hr.nilE hbo hoo;unfold badM;rw [Bool.eq_iff_iff,List.isEmpty_iff,List.isEmpty_iff];exact hn.symm
theorem RotB.cls1 (h:RotB b o t) (hb:ROk b) (ho:ROk o) (hm:RevM b o t) {g a:List Int} (hg:clashM b=some g) (ha:clashM o=some a):a.length<=g.length:=by
 obtain ⟨c,c1,c2,rfl,c4⟩:=(jK b _).2 g hg;obtain ⟨d,d1,d2,rfl,d4⟩:=(jK o _).2 a ha;obtain ⟨e,e1,e2,e3⟩:=h.badE hb ho hm c;rcases d4 e e1 (e2.trans c2) with k | k
 ·rw [<- k,e3]; exact mL _
 ·rw [kK] at k;omega
theorem RotB.cls0 (h:RotB b o t) (hb:ROk b) (ho:ROk o) (hm:RevM b o t) (ha:clashM o=none):clashM b=none:=by
 cases hg:clashM b with
 | none=>rfl
 | some g =>
  obtain ⟨c,c1,c2,_⟩:=(jK b _).2 g hg;obtain ⟨e,e1,e2,e3⟩:=h.badE hb ho hm c;have:=(jK o _).1 ha e e1;rw [e2,c2] at this;cases this
theorem RotB.clashE (h:RotB b o t) (hb:ROk b) (ho:ROk o) (hm:RevM b o t):(clashM o=none↔clashM b=none)/\∀ g a,clashM b=some g->clashM o=some a->a.length=g.length:=by
 have hs:=hm.symm h ho;refine ⟨⟨h.cls0 hb ho hm,(h.symm ho).cls0 ho hb hs⟩,fun g a hg ha=>?_⟩;have h1:=h.cls1 hb ho hm hg ha;have h2:=(h.symm ho).cls1 ho hb hs ha hg;omega
end
def stepT (b:RBk) (t i:Nat):Int:=((sm b (onM b.seams.length t i)).step - (sm b t).step+b.steps) % b.steps
def seamT (b:RBk) (t i:Nat):RSeam:={ sm b (onM b.seams.length t i) with step:=stepT b t i }
def clothT (n t:Nat) (c:Int):Int:=(c - t+n) % n
def measT (b:RBk) (t:Nat) (m:RMeas):RMeas:={ m with cloth:=clothT b.seams.length t m.cloth }
def measI (b:RBk) (t i:Nat):RMeas:=measT b t (msX b ((b.measures.length - 1 - i:Nat):Int))
def shrT (b:RBk) (t i:Nat):RBand:=bd b (onM b.seams.length t i)
def turnTo (b:RBk) (t i k:Nat):RBk:={ b with seams:=(List.range i).map (seamT b t),shrinks:=(List.range i).map (shrT b t),measures:=(List.range k).map (measI b t) }
def turnRB (b:RBk) (t:Nat):RBk:=turnTo b t b.seams.length b.measures.length
theorem xK {α:Type} {f:Nat->α} {n i:Nat} (d:α) (h:i<n):((List.range n).map f).getD i d=f i:=by
 rw [lE,lQ,List.getElem?_range h]; rfl
theorem jH {α:Type} (f:Nat->α) (n:Nat):(List.range (n+1)).map f=(List.range n).map f++[f n]:=by rw [List.range_succ,lM]; rfl
section
variable {b:RBk} {t:Nat}
theorem jL:(turnRB b t).seams.length=b.seams.length:=by
 show ((List.range b.seams.length).map (seamT b t)).length=_;rw [lJ,List.length_range]
theorem jaM:(turnRB b t).shrinks.length=b.seams.length:=by
 show ((List.range b.seams.length).map (shrT b t)).length=_;rw [lJ,List.length_range]
theorem xc:(turnRB b t).measures.length=b.measures.length:=by
 show ((List.range b.measures.length).map (measI b t)).length=_;rw [lJ,List.length_range]
theorem xb {i:Nat} (h:i<b.seams.length):sm (turnRB b t) i=seamT b t i:=xK _ h
theorem qW {i:Nat} (h:i<b.seams.length):bd (turnRB b t) i=shrT b t i:=xK _ h
theorem jah {i:Nat} (h:i<b.measures.length):msX (turnRB b t) (i:Int)=measI b t i:=xK _ h
theorem jJ (hb:ROk b) {i:Nat} (h:i+t<b.seams.length):stepT b t i=(sm b (i+t)).step - (sm b t).step:=by
 have h1:=hb.sms.fld (i+t) h;have h2:=hb.sms.fld t oQ;have h3:(sm b t).step<=(sm b (i+t)).step:=by
  rcases mP i with rfl | hp
  ·rw [mO]; exact Int.le_refl _
  ·have:=hb.sms.asc t (i+t) oQ h; omega
 unfold stepT onM;rw [Nat.mod_eq_of_lt h,Int.add_emod_right,Int.emod_eq_of_lt oQ oQ]
theorem jP (hb:ROk b) {i:Nat} (ht:t<b.seams.length) (hi:i<b.seams.length) (h:b.seams.length<=i+t):stepT b t i=(sm b (i+t - b.seams.length)).step - (sm b t).step+b.steps:=by
 have h1:=hb.sms.fld (i+t - b.seams.length) oQ;have h2:=hb.sms.fld t ht;have h3:=hb.sms.asc (i+t - b.seams.length) t oQ ht;unfold stepT onM;rw [Nat.mod_eq_sub_mod h,Nat.mod_eq_of_lt oQ,Int.emod_eq_of_lt oQ oQ]
theorem qu (hb:ROk b) (ht:t<b.seams.length) {i:Nat} (hi:i<b.seams.length):wideM (turnRB b t) i=wideM b (onM b.seams.length t i):=by
 have e:∀ k,k<b.seams.length->(sm (turnRB b t) k).step=stepT b t k:=fun k hk=>by rw [xb hk]; rfl
 have e0:stepT b t 0=0:=by
  rw [jJ hb oQ,mO]; omega
 unfold wideM;rw [jL,e i hi];by_cases h1:i+1<b.seams.length
 ·rw [if_pos h1,e _ h1];rcases mR (i+1+t) b.seams.length with h2 | h2
  ·rw [jJ hb (i:=i+1) h2,jJ hb (i:=i) oQ];have e2:onM b.seams.length t i=i+t:=Nat.mod_eq_of_lt oQ;rw [e2,if_pos oQ,show i+t+1=i+1+t by omega];omega
  ·rcases mR (i+t) b.seams.length with h3 | h3
   ·rw [jP hb ht h1 h2,jJ hb h3];have e2:onM b.seams.length t i=i+t:=Nat.mod_eq_of_lt oQ;rw [e2,if_neg oQ,show i+1+t - b.seams.length=0 by omega];omega
   ·rw [jP hb ht h1 h2,jP hb ht hi h3];have e2:onM b.seams.length t i=i+t - b.seams.length:=by
     unfold onM;rw [Nat.mod_eq_sub_mod h3,Nat.mod_eq_of_lt oQ]
    rw [e2,if_pos oQ,show i+t - b.seams.length+1=i+1+t - b.seams.length by omega];omega
 ·rw [if_neg h1,e 0 oQ,e0];show _+b.steps - _=_;rcases mP t with rfl | hp
  ·rw [jJ hb oQ];have e2:onM b.seams.length 0 i=i:=Nat.mod_eq_of_lt oQ;rw [e2,if_neg h1,Nat.add_zero];omega
  ·rw [jP hb ht hi oQ];have e2:onM b.seams.length t i=t - 1:=by
    unfold onM;rw [Nat.mod_eq_sub_mod oQ,Nat.mod_eq_of_lt oQ];omega
   rw [e2,if_pos oQ,show t - 1+1=t by omega,show i+t - b.seams.length=t - 1 by omega];omega
theorem jM {n t:Nat} {c:Int} (ht:t<=n) (h0:0<=c):clothT n t c=((onM n (n - t) c.toNat:Nat):Int):=by
 unfold clothT onM;rw [show c - (t:Int)+(n:Int)=((c.toNat+(n - t):Nat):Int) by omega];rfl
theorem xu {i:Nat} (h:i<b.measures.length):msX b (i:Int)∈b.measures:=lN (jZ (n:=(i:Int)) oQ)
theorem me_at {x:RMeas} (h:x∈b.measures):∃ i,i<b.measures.length/\msX b (i:Int)=x:=by
 obtain ⟨i,hi,rfl⟩:=List.getElem_of_mem h;refine ⟨i,hi,?_⟩;have h1:=jZ (b:=b) (n:=(i:Int)) oQ;rw [mZ,lA hi] at h1;exact (Option.some.inj h1).symm
theorem jbJ (hb:ROk b) (ht:t<b.seams.length):ROk (turnRB b t):=by
 have h5:=hb.sms.len;have hst:=hb.rnd.steps;refine ⟨⟨hb.rnd.steps,hb.rnd.round,hb.rnd.roll,hb.rnd.rolls⟩,⟨by rw [jL]; exact hb.sms.len,fun i hi=>?_,fun i j hij hj=>?_⟩,⟨by rw [jaM,jL],fun i hi=>?_⟩,⟨by rw [xc]; exact hb.mes.len,fun m hm=>?_⟩⟩
 ·rw [jL] at hi;have h1:=hb.sms.fld _ (on_lt (t:=t) (i:=i) (show 0<b.seams.length by omega));rw [xb hi];exact ⟨Int.emod_nonneg _ oQ,Int.emod_lt_of_pos _ oQ,h1.2.2⟩
 ·rw [jL] at hj;rw [xb (show i<b.seams.length by omega),xb hj];show stepT b t i<stepT b t j;rcases mR (j+t) b.seams.length with h1 | h1
  ·rw [jJ hb h1,jJ hb (i:=i) oQ];have:=hb.sms.asc (i+t) (j+t) oQ h1;omega
  ·rcases mR (i+t) b.seams.length with h2 | h2
   ·rw [jP hb ht hj h1,jJ hb h2];have:=hb.sms.fld (i+t) h2;have:=hb.sms.fld (j+t - b.seams.length) oQ;omega
   ·rw [jP hb ht hj h1,jP hb ht oQ h2];have:=hb.sms.asc (i+t - b.seams.length) (j+t - b.seams.length) oQ oQ;omega
 ·rw [jL] at hi;have:=hb.cls.bnd _ (on_lt (t:=t) (i:=i) (show 0<b.seams.length by omega));rw [qW hi,qu hb ht hi];exact this
 ·obtain ⟨i,hi,rfl⟩:=me_at hm;rw [xc] at hi;rw [jah hi,jL];have h1:=hb.mes.bnd _ (xu (b:=b) (i:=b.measures.length - 1 - i) oQ);have h2:(measI b t i).cloth=((onM b.seams.length (b.seams.length - t) (msX b ((b.measures.length - 1 - i:Nat):Int)).cloth.toNat:Nat):Int):=jM oQ h1.1;have h3:=on_lt (t:=b.seams.length - t) (i:=(msX b ((b.measures.length - 1 - i:Nat):Int)).cloth.toNat) (show 0<b.seams.length by omega);refine ⟨by rw [h2]; omega,by rw [h2]; omega,h1.2.2⟩
theorem jbI (hb:ROk b) (ht:t<b.seams.length) {x:RMeas} (hx:x∈b.measures):MRot b.seams.length t x (measT b t x):=by
 have h1:=hb.mes.bnd x hx;refine ⟨rfl,rfl,?_⟩;show _=onM _ t (clothT b.seams.length t x.cloth).toNat;rw [jM oQ h1.1,mZ,(jD oQ oQ).1]
theorem xN (hb:ROk b) (ht:t<b.seams.length):RevM b (turnRB b t) t:=by
 refine ⟨xc,fun i hi=>?_⟩;rw [jah oQ];unfold measI;rw [show b.measures.length - 1 - (b.measures.length - 1 - i)=i by omega];exact jbI hb ht (xu hi)
theorem jbf (hb:ROk b) (ht:t<b.seams.length):RotB b (turnRB b t) t:=by
 refine ⟨by omega,rfl,rfl,rfl,rfl,jL,fun i hi=>?_,fun i hi=>qu hb ht hi,fun i hi=>qW hi,fun x hx=>?_,fun m hm=>?_⟩
 ·rw [xb hi];exact ⟨rfl,rfl,rfl,rfl⟩
 ·obtain ⟨i,hi,rfl⟩:=me_at hx;have:=(xN hb ht).ms i hi;exact ⟨_,xu (b:=turnRB b t) (by rw [xc]; omega),this⟩
 ·obtain ⟨i,hi,rfl⟩:=me_at hm;rw [xc] at hi;have:=(xN hb ht).ms (b.measures.length - 1 - i) oQ;rw [show b.measures.length - 1 - (b.measures.length - 1 - i)=i by omega] at this;exact ⟨_,xu oQ,this⟩
theorem jbL {o:RBk} (h:RotB b o t) (hb:ROk b) (ho:ROk o) {x y:Int} (hx:x=0) (hy:y=0):knB o y=knB b x:=by
 subst hx hy;unfold knB;rw [xJ hb,xJ ho,show (zf o).isEmpty=(zf b).isEmpty by rw [Bool.eq_iff_iff,List.isEmpty_iff,List.isEmpty_iff]; exact (h.nilE hb ho).symm]
end
end Go.Vel
namespace Go.Vel
open Go Go.Conc Go.Proofs
instance:Cal tp 73:={}
instance:zi tp 31 false 1:={}
instance:TyZA tp 31 [.v (.int .i64 0)]:={}
instance:Cal tp 110:={}
instance:Cal tp 114:={}
instance:Cal tp 57:={}
instance:Cal tp 66:={}
def AgrE (b:RBk) (s h e:Nat) (K:KV) (r:AV) (K':KV):Prop:=(zr b≠0/\r=.tup [.agg z7R,intA (zr b)]/\K'=K)\/(zr b=0/\zf b=[]/\r=.tup [.agg z7R,intA 9]/\K'=K)\/(zr b=0/\zf b≠[]/\r=.tup [.agg (zE b s h e),intA 0]/\K'=K)
instance:Cal tp 122:={}
instance:Cal tp 126:={}
instance:Cal tp 61:={}
theorem jaJ {main T} (hT:zo tp main T) {gm} {j:Nat} {l:List Int} {et:TypeId} (hll:l.length<=1000) :
  zA tp T gm 137 [.sl j 0 l.length] [(j,.cells (l.map intA) et false)] (fun r K'=>∃ jr,r=.sl jr 0 (setI l).length/\K'=[(jr,.cells ((setI l).map intA) 3 false),(j,.cells (l.map intA) et false)]):=by
 refine zp 67 hT Tryz.func137 fun Y hret=>?_;refine au 5423542 ?_;refine TK.virt 3 3 1 Z fun jo0 hjo0=>?_;refine au 130354223 ?_;refine bA [0,3,4] ?_;refine bC [(j,_),(jo0,_)] ?_;refine bE (fun n0 env K=>∃ (i jo:Nat) (out:List Int),n0=l.length - i/\i<=l.length/\SOut l i out/\env=.sl j 0 l.length::naL 2 (.row jo out.length::intA i::naL 62 [])/\K=[(j,.cells (l.map intA) et false),(jo,.row (out.map intA) 3 1)]) l.length ⟨0,jo0,[],rfl,mN _,jbT l,rfl,rfl⟩ fun n0 env K hI hnext=>?_;obtain ⟨i,jo,out,rfl,hi,hso,rfl,rfl⟩:=hI;have hsl:=hso.2.2;refine bG nQ ?_;refine au 93728011422 ?_;constructor<;>intro hc0
 ·have hil:i<l.length:=by simp at hc0; omega
  have hx:=z6 hil;refine au 5421302120 ?_;refine TK.virt 5 3 1 Z fun jn0 hjn0=>?_;refine au 1303542235423 ?_;refine bA [0,3,4,5,6,7] ?_;refine bC [(j,_),(jo,_),(jn0,_)] ?_;refine bE (fun n0 env K=>∃ (k jn:Nat) (nx:List Int) (put:Bool),n0=out.length - k/\k<=out.length/\SIn out (zN l i) k nx put/\env=.sl j 0 l.length::naL 2 (.row jo out.length::intA i::.row jn nx.length::zP put::intA k::naL 59 [])/\K=[(j,.cells (l.map intA) et false),(jo,.row (out.map intA) 3 1),(jn,.row (nx.map intA) 3 1)]) out.length ⟨0,jn0,[],false,rfl,mN _,sin_0 out _,rfl,rfl⟩ fun n0 env K hI hnext1=>?_;obtain ⟨k,jn,nx,put,rfl,hk,hsi,rfl,rfl⟩:=hI;have hnl:nx.length<=k+1:=by have:=hsi.2.2.2; split at this <;> omega
  refine bG nQ ?_;refine au 93728011422 ?_;constructor<;>intro hc1
  ·have hkl:k<out.length:=by simp at hc1; omega
   have hy:=z6 hkl;refine au 221302120 ?_;refine bL [0,1,2,3,4,5,6,7,8,9,10,11,12] ?_;refine ad [[1,6]] ?_;refine bU [20] Z (q_not Z Z) ?_;refine ad [[1,21]] ?_;refine bW 22 (fun g10_3=>?_) (fun g10_3=>?_)
   ·obtain rfl:put=false:=by simpa using g10_3
    refine ad [[1,3,22],[1,7,22]] ?_;refine bT [22,23,24] Z (hq:=kB Z Z Z zF.h (mC _) oQ oQ) (h:=?_);refine bT [22,25] Z (hq:=zm Z Z zi.h (mC _) (zaj (i:=k) hy Z)) (h:=?_);refine ad [[1,0,22],[1,4,22],[2,22,27,28]] ?_;refine bT [22,29] Z (hq:=zm Z Z zi.h (mC _) (yi (i:=i) hx Z)) (h:=?_);refine ad [[4,22,26,30],[7,22,31],[14]] ?_;refine au 9 ?_;constructor<;>intro hc2
    ·have hxy:zN l i<=zN out k:=of_decide_eq_true hc2;have hmd:=jbq hso.1 hy hsi hxy;refine au 36011142 ?_;refine bH Z (zm Z Z zi.h mQ (yi (i:=i) hx Z)) ?_;refine bI Z Z Z (zt (l:=[_]) Z zF.h TyZ.h dQ dQ Z) (fun _=>zu rfl tQ) fun j1 hj1=>?_;refine bO Z Z Z (a_app Z ApOf.h Z mQ (by rw [lJ]; omega) Z (yw (ln:=[_]) mQ dQ sQ Z) oQ Z (by unfold maxLen; omega) oQ) (fun _=>uQ) (fun _=>zu rfl tQ) fun jm=>?_;refine au 235435 ?_;refine bL [0,1,2,3,4,5,6,7,8] ?_;refine ad [[1,3],[1,7]] ?_;refine bT [40,41] Z (hq:=kB Z Z Z zF.h (mC _) oQ oQ) (h:=?_);refine bT [42] Z (hq:=zm Z Z zi.h (mC _) (zaj (i:=k) hy Z)) (h:=?_);refine ad [[1,0],[1,4],[2,44,45]] ?_;refine bT [46] Z (hq:=zm Z Z zi.h (mC _) (yi (i:=i) hx Z)) (h:=?_);refine ad [[4,43,47],[14]] ?_;refine au 9 ?_;constructor<;>intro hc3
     ·have hne:zN out k≠zN l i:=by simpa using hc3
      refine au 3701114 ?_;refine bH Z (zm Z Z zi.h mQ (zaj (i:=k) hy Z)) ?_;refine bI Z Z Z (zt (l:=[_]) Z zF.h TyZ.h dQ dQ Z) (fun _=>zu rfl tQ) fun j2 hj2=>?_;refine bO Z Z Z (a_app Z ApOf.h Z mQ (by simp; try omega) Z (yw (ln:=[_]) mQ dQ sQ Z) oQ Z (by unfold maxLen; omega) oQ) (fun _=>uQ) (fun _=>zu rfl tQ) fun jn2=>?_;refine au 352301414035 ?_;refine bA [0,3,4,5,6,7] ?_;refine bC [(j,_),(jo,_),(jn2,_)] ?_;exact hnext1 _ _ _ oQ ⟨k+1,jn2,nx++[zN l i]++[zN out k],true,rfl,oQ,x7 hso.1 hy hmd hne,by rw [lF,lF] <;> rfl,by rw [lM,lM] <;> rfl⟩
     have heq:zN out k=zN l i:=by simpa using hc3
     refine au 3523014140120 ?_;refine bA [0,3,4,5,6,7] ?_;refine bC [(j,_),(jo,_),(jm,_)] ?_;exact hnext1 _ _ _ oQ ⟨k+1,jm,nx++[zN l i],true,rfl,oQ,qJ hy hmd heq,by rw [lF] <;> rfl,by rw [lM] <;> rfl⟩
    have hxy:¬ zN l i<=zN out k:=of_decide_eq_false hc2;have hmd:=qI hy hsi (.inr hxy);refine au 2120 ?_;refine bL [0,1,2,3,4,5,6,7,8] ?_;refine ad [[1,3],[1,7]] ?_;refine bT [40,41] Z (hq:=kB Z Z Z zF.h (mC _) oQ oQ) (h:=?_);refine bT [42] Z (hq:=zm Z Z zi.h (mC _) (zaj (i:=k) hy Z)) (h:=?_);refine ad [[1,0],[1,4],[2,44,45]] ?_;refine bT [46] Z (hq:=zm Z Z zi.h (mC _) (yi (i:=i) hx Z)) (h:=?_);refine ad [[4,43,47],[14]] ?_;refine au 9 ?_;constructor<;>intro hc3
    ·have hne:zN out k≠zN l i:=by simpa using hc3
     refine au 3701114 ?_;refine bH Z (zm Z Z zi.h mQ (zaj (i:=k) hy Z)) ?_;refine bI Z Z Z (zt (l:=[_]) Z zF.h TyZ.h dQ dQ Z) (fun _=>zu rfl tQ) fun j3 hj3=>?_;refine bO Z Z Z (a_app Z ApOf.h Z mQ (by simp; try omega) Z (yw (ln:=[_]) mQ dQ sQ Z) oQ Z (by unfold maxLen; omega) oQ) (fun _=>uQ) (fun _=>zu rfl tQ) fun jn2=>?_;refine au 352301414035 ?_;refine bA [0,3,4,5,6,7] ?_;refine bC [(j,_),(jo,_),(jn2,_)] ?_;exact hnext1 _ _ _ oQ ⟨k+1,jn2,nx++[zN out k],false,rfl,oQ,x7 hso.1 hy hmd hne,by rw [lF] <;> rfl,by rw [lM] <;> rfl⟩
    have heq:zN out k=zN l i:=by simpa using hc3
    omega
   obtain rfl:put=true:=by simpa using g10_3
   have hmd:=qI hy hsi (.inl rfl);refine ad [[11,3,22],[11,7,22],[11,22,23,24],[11,22,25],[11,0,22],[11,4,22],[11,22,27,28],[11,22,29],[11,22,26,30],[6,22,31],[14]] ?_;refine au 2120190 ?_;refine bL [0,1,2,3,4,5,6,7,8] ?_;refine ad [[1,3],[1,7]] ?_;refine bT [40,41] Z (hq:=kB Z Z Z zF.h (mC _) oQ oQ) (h:=?_);refine bT [42] Z (hq:=zm Z Z zi.h (mC _) (zaj (i:=k) hy Z)) (h:=?_);refine ad [[1,0],[1,4],[2,44,45]] ?_;refine bT [46] Z (hq:=zm Z Z zi.h (mC _) (yi (i:=i) hx Z)) (h:=?_);refine ad [[4,43,47],[14]] ?_;refine au 9 ?_;constructor<;>intro hc3
   ·have hne:zN out k≠zN l i:=by simpa using hc3
    refine au 3701114 ?_;refine bH Z (zm Z Z zi.h mQ (zaj (i:=k) hy Z)) ?_;refine bI Z Z Z (zt (l:=[_]) Z zF.h TyZ.h dQ dQ Z) (fun _=>zu rfl tQ) fun j4 hj4=>?_;refine bO Z Z Z (a_app Z ApOf.h Z mQ (by simp; try omega) Z (yw (ln:=[_]) mQ dQ sQ Z) oQ Z (by unfold maxLen; omega) oQ) (fun _=>uQ) (fun _=>zu rfl tQ) fun jn2=>?_;refine au 352301414035 ?_;refine bA [0,3,4,5,6,7] ?_;refine bC [(j,_),(jo,_),(jn2,_)] ?_;exact hnext1 _ _ _ oQ ⟨k+1,jn2,nx++[zN out k],true,rfl,oQ,x7 hso.1 hy hmd hne,by rw [lF] <;> rfl,by rw [lM] <;> rfl⟩
   have heq:zN out k=zN l i:=by simpa using hc3
   refine au 3523014140120 ?_;refine bA [0,3,4,5,6,7] ?_;refine bC [(j,_),(jo,_),(jn,_)] ?_;exact hnext1 _ _ _ oQ ⟨k+1,jn,nx,true,rfl,oQ,qJ hy hmd heq,rfl,rfl⟩
  obtain rfl:k=out.length:=by simp at hc1; omega
  refine au 933001422160 ?_;constructor<;>intro hc4
  ·obtain rfl:put=false:=by simpa using hc4
   refine au 3601114 ?_;refine bH Z (zm Z Z zi.h mQ (yi (i:=i) hx Z)) ?_;refine bI Z Z Z (zt (l:=[_]) Z zF.h TyZ.h dQ dQ Z) (fun _=>zu rfl tQ) fun j5 hj5=>?_;refine bO Z Z Z (a_app Z ApOf.h Z mQ (by rw [lJ]; omega) Z (yw (ln:=[_]) mQ dQ sQ Z) oQ Z (by unfold maxLen; omega) oQ) (fun _=>uQ) (fun _=>zu rfl tQ) fun jz=>?_;refine au 3523014140351435 ?_;refine bA [0,3,4] ?_;refine bC [(j,_),(jz,_)] ?_;exact hnext _ _ _ oQ ⟨i+1,jz,nx++[zN l i],rfl,oQ,jbb hx hso hsi,by rw [lF] <;> rfl,by rw [lM] <;> rfl⟩
  obtain rfl:put=true:=by simpa using hc4
  refine au 35230141403514120 ?_;refine bA [0,3,4] ?_;refine bC [(j,_),(jn,_)] ?_;exact hnext _ _ _ oQ ⟨i+1,jn,nx,rfl,oQ,jbd hx hso hsi,rfl,rfl⟩
 obtain rfl:i=l.length:=by simp at hc0; omega
 obtain rfl:=jbc hso;refine bZ 3 Z mQ ?_;refine bY (j:=jo) ?_;refine au 35142160 ?_;refine bB hret [(jo,_),(j,_)] ?_;exact ⟨jo,rfl,rfl⟩
def movT (b:RBk) (t:Nat) (l:List Int) (i:Nat):List Int:=(l.take i).map (clothT b.seams.length t)
theorem jaT {b:RBk} {t:Nat} {l:List Int} {i:Nat} (h:i<=l.length):(movT b t l i).length=i:=by unfold movT; rw [lJ,List.length_take]; omega
theorem qh {b:RBk} {t:Nat} {l:List Int} {i:Nat} (h:i<l.length):movT b t l (i+1)=movT b t l i++[clothT b.seams.length t (zN l i)]:=by unfold movT; rw [yQ (z6 h),List.map_append]; rfl
theorem jaS {b:RBk} {t:Nat} {l:List Int} (ht:t<b.seams.length) (hl:CutsOk b l):setI (movT b t l l.length)=mvM b.seams.length t l:=by
 unfold movT mvM;rw [lW];congr 1;refine List.map_congr_left fun x hx=>?_;exact jM oQ (hl.bnd x hx).1
instance:Cal tp 137:={}
theorem xI {main T} (hT:zo tp main T) {gm} {b:RBk} {j t:Nat} {l:List Int} {et:TypeId} (hl:CutsOk b l) (ht:t<b.seams.length) (h5:b.seams.length<=5) :
  zA tp T gm 69 [.sl j 0 l.length,intA (t:Int),intA (b.seams.length:Int)] [(j,.cells (l.map intA) et false)] (fun r K'=>∃ jr,r=.sl jr 0 (mvM b.seams.length t l).length/\K'=[(jr,.cells ((mvM b.seams.length t l).map intA) 3 false),(j,.cells (l.map intA) et false)]):=by
 refine zp 30 hT Tryz.func69 fun Y hret=>?_;refine au 0 ?_;have hln:=hl.len;refine au 5423542 ?_;refine TK.virt 7 3 1 Z fun j0 hj0=>?_;refine au 130354223 ?_;refine bA [0,1,2,7,8] ?_;refine bC [(j,_),(j0,_)] ?_;refine bE (fun n env K=>∃ (i jr:Nat),n=l.length - i/\i<=l.length/\env=.sl j 0 l.length::intA (t:Int)::intA (b.seams.length:Int)::naL 4 (.row jr (movT b t l i).length::intA (i:Int)::naL 21 [])/\K=[(j,.cells (l.map intA) et false),(jr,.row ((movT b t l i).map intA) 3 1)]) l.length ⟨0,j0,rfl,mN _,rfl,rfl⟩ fun n env K hI hnext=>?_;obtain ⟨i,jr,rfl,hi,rfl,rfl⟩:=hI;have hol:(movT b t l i).length=i:=jaT hi;refine bG nQ ?_;refine au 93728011422 ?_;constructor<;>intro hc0
 ·have hil:i<l.length:=by simp at hc0; omega
  have hcb:=hl.lt hil;refine au 36011141302120 ?_;refine bH Z (zm Z Z zi.h mQ (yi (i:=i) (z6 hil) Z)) ?_;refine au 123012401 ?_;refine bH Z (q_rem Z Z Z oQ oQ) ?_;refine bI Z Z Z (zt (l:=[_]) Z zF.h TyZ.h dQ dQ Z) (fun _=>zu rfl tQ) fun j1 hj1=>?_;refine bO Z Z Z (a_app Z ApOf.h Z mQ sQ Z (yw (ln:=[_]) mQ dQ sQ Z) oQ Z (by unfold maxLen; omega) oQ) (fun _=>uQ) (fun _=>zu rfl tQ) fun jr2=>?_;refine au 352301414035 ?_;refine bA [0,1,2,7,8] ?_;refine bC [(j,_),(jr2,_)] ?_;exact hnext _ _ _ oQ ⟨i+1,jr2,rfl,oQ,by rw [qh hil,lF]; rfl,by rw [qh hil,lM]; rfl⟩
 obtain rfl:i=l.length:=by simp at hc0; omega
 refine au 2160 ?_;refine bZ 7 Z mQ ?_;refine bY (j:=jr) ?_;refine au 14 ?_;refine bD Z Z Z Z ((jaJ hT (l:=movT b t l l.length) oQ).mono (fun _ _ h=>by rw [jaS ht hl] at h; exact h)) ?_;rintro r2 K3 ⟨js,rfl,rfl⟩;refine au 35 ?_;refine bB hret [(js,_),(j,_)] ?_;exact ⟨js,rfl,rfl⟩
theorem qv {main T} (hT:zo tp main T) {gm} {b:RBk} {s h e t:Nat} (hb:ROk b) (ht:t<b.seams.length) :
  zA tp T gm 68 [.agg (zE b s h e),intA (t:Int)] [(s,zk b),(h,zB b),(e,zq b)] (fun r K'=>∃ s2 h2 e2,r=.agg (zE (turnRB b t) s2 h2 e2)/\K'=[(s2,zk (turnRB b t)),(h2,zB (turnRB b t)),(e2,zq (turnRB b t)),(s,zk b),(h,zB b),(e,zq b)]):=by
 refine zp 101 hT Tryz.func68 fun Y hret=>?_;refine au 0 ?_;have hsl:=hb.sms.len;have hcl:=hb.cls.len;have hml:=hb.mes.len;have hst:=hb.rnd.steps;refine au 21042 ?_;intro jb hjb;refine au 220 ?_;intro jr hjr;refine au 23 ?_;refine bL [0,1,2,3,4,5,6] ?_;refine ad [[12,2],[3,2],[10,12]] ?_;refine bU [13] Z (q_len Z Z Z Und.h) ?_;refine TD.cnewP (pend':=[⟨3,[13],[]⟩,⟨2,[12],[(_,_)]⟩,⟨1,[2],[]⟩,⟨0,[2],[(_,_)]⟩]) [] Z Z Z Z Z (yL Z TyZA.h) (fun _=>zu rfl tQ) sQ fun jo hjo=>?_;refine bR (pend':=[⟨3,[13],[]⟩,⟨2,[12],[(_,_)]⟩,⟨1,[2],[]⟩]) [5,11] Z Z (zX Z Z zi.h Z Z mQ Z) ?_;refine ad [[13,14],[14]] ?_;refine au 17067017067017067042 ?_;refine TK.normK (K':=[(jo,.cells [intA b.steps,intA b.round,intA b.roll,intA b.rolls,.v (.slice none 0 0),.v (.slice none 0 0),.v (.slice none 0 0)] 26 true),_,_,_,_,_]) (by simp only [setL,zE,List.drop_zero,List.take,List.set]; rfl) ?_;refine TK.virtAt (j:=jo) (i:=4) (e:=94) (size:=5) (l:=[intA b.steps,intA b.round,intA b.roll,intA b.rolls,.v (.slice none 0 0),.v (.slice none 0 0),.v (.slice none 0 0)]) Z (fun _=>uQ) fun js0 hjs0=>?_;refine au 0 ?_;refine TK.virtAt (j:=jo) (i:=5) (e:=51) (size:=2) (l:=[intA b.steps,intA b.round,intA b.roll,intA b.rolls,.row js0 0,.v (.slice none 0 0),.v (.slice none 0 0)]) Z (fun _=>uQ) fun jh0 hjh0=>?_;refine au 130354223 ?_;refine bA [1,2,4,5,6,7] ?_;refine bC [(s,_),(h,_),(e,_),(js0,_),(jh0,_),(jo,_),(jr,_),(jb,_)] ?_;refine bE (fun n env K=>∃ (i js jh:Nat),n=b.seams.length - i/\i<=b.seams.length/\env=.any::intA (t:Int)::.ptr jb 0::.any::.ptr jr 0::.ptr jo 0::intA b.seams.length::intA (i:Int)::naL 93 []/\K=[(s,zk b),(h,zB b),(e,zq b),(js,.row (((List.range i).map (seamT b t)).flatMap seamC) 94 5),(jh,.row (((List.range i).map (shrT b t)).flatMap bandC) 51 2),(jo,.cells [intA b.steps,intA b.round,intA b.roll,intA b.rolls,.row js i,.row jh i,.v (.slice none 0 0)] 26 true),(jr,.cells z7R 26 true),(jb,.cells (zE b s h e) 26 true)]) b.seams.length ⟨0,js0,jh0,rfl,mN _,rfl,rfl⟩ fun n env K hI hnext=>?_;obtain ⟨i,js,jh,rfl,hi,rfl,rfl⟩:=hI;have hfl:=yz seamC 5 (fun _=>rfl) ((List.range i).map (seamT b t));have hfh:=yz bandC 2 (fun _=>rfl) ((List.range i).map (shrT b t));have hol:((List.range i).map (seamT b t)).length=i:=by rw [lJ,List.length_range]
 have hoh:((List.range i).map (shrT b t)).length=i:=by rw [lJ,List.length_range]
 refine bG nQ ?_;refine au 93711422 ?_;constructor<;>intro hc0
 ·have hil:i<b.seams.length:=by simp at hc0; omega
  have hon:=on_lt (t:=t) (i:=i) (show 0<b.seams.length by omega);have hf1:=hb.sms.fld _ hon;have hf2:=hb.sms.fld _ ht;refine au 21302120 ?_;refine bL [0,1,2,3,4,5,6,7,8,9,10] ?_;refine ad [[3,2],[10,23],[1,7],[1,1],[8,25,26],[1,6]] ?_;refine bU [27,28] Z (q_rem Z Z Z oQ oQ) ?_;refine bU [24,29] Z (zQ Z Z Z zF.h (Int.emod_nonneg _ oQ) (Int.emod_lt_of_pos _ oQ)) ?_;refine bT [30] Z (hq:=ya Z Z zi.h (mC _) (sm_at b (i:=onM b.seams.length t i) hon Z)) (h:=?_);refine TD.cnewP (pend':=[⟨8,[30],[(_,_)]⟩,⟨7,[24,29],[]⟩,⟨6,[27,28],[]⟩,⟨5,[6],[]⟩,⟨4,[25,26],[]⟩,⟨3,[1],[]⟩,⟨2,[7],[]⟩,⟨1,[23],[(_,_)]⟩,⟨0,[2],[]⟩]) [] Z Z Z Z Z (yL Z TyZA.h) (fun _=>zu rfl tQ) sQ fun jm hjm=>?_;refine bR (pend':=[]) [8,31] Z Z (zX Z Z zi.h Z Z mQ Z) ?_;refine ad [[14]] ?_;refine au 2 ?_;refine bL [0,1,2,3,4,5,6,7,8,9,10,11,12,13,14,15,16] ?_;refine ad [[3,8],[10,32],[3,2],[10,34],[1,1],[2,35,36],[3,37]] ?_;refine bT [38] Z (hq:=zm Z Z zi.h (mC _) (yn (c:=0) (sm_at b (i:=t) ht Z) dQ Z)) (h:=?_);refine ad [[9,33,39],[3,2],[10,41],[8,40,42],[3,2],[10,44]] ?_;refine bU [43,45] Z (q_rem Z Z Z oQ oQ) ?_;refine ad [[3,8]] ?_;refine bR (pend':=[]) [46,47] Z Z (zX Z Z zi.h Z Z mQ Z) ?_;refine ad [[14]] ?_;refine TK.dr [0,1,2,5,6,7,8,9,10,11,12,13,14,15,3,4,18,16,17,19,20,21] [0,1,2,3,4,5,6,7,8,9,10,11,12,13,14,15,16,17,18,19,20,21] ?_;refine ad [[3,5],[10,48],[12,8],[3,5],[10,53],[3,2],[10,55],[1,7],[1,1],[8,57,58],[1,6]] ?_;refine bU [59,60] Z (q_rem Z Z Z oQ oQ) ?_;refine bU [56,61] Z (zQ Z Z Z zF.h (Int.emod_nonneg _ oQ) (by have:=Int.emod_lt_of_pos ((i:Int)+(t:Int)) (show (0:Int)<(b.seams.length:Int) by omega); omega)) ?_;refine bT [62] Z (hq:=ya Z Z zi.h (mC _) (bd_at b (i:=onM b.seams.length t i) oQ Z)) (h:=?_);refine TD.c2 (i1:=3) (i2:=16) (pend1:=[⟨15,[62],[(_,_)]⟩,⟨14,[56,61],[]⟩,⟨13,[59,60],[]⟩,⟨12,[6],[]⟩,⟨11,[57,58],[]⟩,⟨10,[1],[]⟩,⟨9,[7],[]⟩,⟨8,[55],[(_,_)]⟩,⟨7,[2],[]⟩,⟨6,[53],[(_,_)]⟩,⟨5,[5],[]⟩,⟨1,[48],[(_,_)]⟩,⟨0,[5],[]⟩]) (pend2:=[⟨14,[56,61],[]⟩,⟨13,[59,60],[]⟩,⟨12,[6],[]⟩,⟨11,[57,58],[]⟩,⟨10,[1],[]⟩,⟨9,[7],[]⟩,⟨8,[55],[(_,_)]⟩,⟨7,[2],[]⟩,⟨6,[53],[(_,_)]⟩,⟨5,[5],[]⟩,⟨2,[8],[(_,_)]⟩,⟨1,[48],[(_,_)]⟩,⟨0,[5],[]⟩]) (L1:=[4,18,16,17,19,20,21]) (L2:=[3,4,18,17,19,20,21]) [50] [63] Z Z Z Z Z Z Z ?_ ?_
  ·refine wb Z (zt (l:=[_,_,_,_,_]) Z zF.h TyZ.h dQ dQ Z) (fun _=>zu rfl tQ) sQ fun j1 hj1=>?_;refine TD.c2 (i1:=4) (i2:=16) (pend1:=[⟨15,[62],[(_,_)]⟩,⟨14,[56,61],[]⟩,⟨13,[59,60],[]⟩,⟨12,[6],[]⟩,⟨11,[57,58],[]⟩,⟨10,[1],[]⟩,⟨9,[7],[]⟩,⟨8,[55],[(_,_)]⟩,⟨7,[2],[]⟩,⟨6,[53],[(_,_)]⟩,⟨5,[5],[]⟩,⟨0,[5],[]⟩]) (pend2:=[⟨14,[56,61],[]⟩,⟨13,[59,60],[]⟩,⟨12,[6],[]⟩,⟨11,[57,58],[]⟩,⟨10,[1],[]⟩,⟨9,[7],[]⟩,⟨8,[55],[(_,_)]⟩,⟨7,[2],[]⟩,⟨6,[53],[(_,_)]⟩,⟨5,[5],[]⟩,⟨1,[48],[(_,_)]⟩,⟨0,[5],[]⟩]) (L1:=[18,16,17,19,20,21]) (L2:=[4,18,17,19,20,21]) [49,51] [63] Z Z Z Z Z Z Z ?_ ?_
   ·refine zdF Z (a_app Z ApOf.h Z mQ oQ Z (yw (ln:=[_,_,_,_,_]) mQ dQ sQ Z) oQ Z (by unfold maxLen; omega) oQ) (fun _=>uQ) (fun _=>zu rfl tQ) (fun _=>sQ) fun j1=>?_;refine ad [[3,5]] ?_;refine TD.cnewR (pend':=[⟨18,[5],[]⟩,⟨14,[56,61],[]⟩,⟨13,[59,60],[]⟩,⟨12,[6],[]⟩,⟨11,[57,58],[]⟩,⟨10,[1],[]⟩,⟨9,[7],[]⟩,⟨8,[55],[(_,_)]⟩,⟨7,[2],[]⟩,⟨6,[53],[(_,_)]⟩,⟨5,[5],[]⟩,⟨0,[5],[]⟩]) [63] Z Z Z Z Z (zt (l:=[_,_]) Z zF.h TyZ.h dQ dQ Z) (fun _=>zu rfl tQ) sQ fun j2 hj2=>?_;refine TD.capp (pend':=[⟨18,[5],[]⟩,⟨14,[56,61],[]⟩,⟨13,[59,60],[]⟩,⟨12,[6],[]⟩,⟨11,[57,58],[]⟩,⟨10,[1],[]⟩,⟨9,[7],[]⟩,⟨8,[55],[(_,_)]⟩,⟨7,[2],[]⟩,⟨5,[5],[]⟩,⟨0,[5],[]⟩]) [54,64] Z Z Z Z Z (a_app Z ApOf.h Z mQ oQ Z (yw (ln:=[_,_]) mQ dQ sQ Z) oQ Z (by unfold maxLen; omega) oQ) (fun _=>uQ) (fun _=>zu rfl tQ) (fun _=>sQ) fun j2=>?_;refine bR (pend':=[⟨14,[56,61],[]⟩,⟨13,[59,60],[]⟩,⟨12,[6],[]⟩,⟨11,[57,58],[]⟩,⟨10,[1],[]⟩,⟨9,[7],[]⟩,⟨8,[55],[(_,_)]⟩,⟨7,[2],[]⟩]) [52,66] Z Z (zX Z Z zi.h Z Z mQ Z) ?_;refine ad [[3,5]] ?_;refine bR (pend':=[]) [65,67] Z Z (zX Z Z zi.h Z Z mQ Z) ?_;refine ad [[14]] ?_;refine au 3523014140 ?_;refine bA [1,2,4,5,6,7] ?_;refine bC [(s,_),(h,_),(e,_),(j1,_),(j2,_),(jo,_),(jr,_),(jb,_)] ?_;exact hnext _ _ _ oQ ⟨i+1,j1,j2,rfl,oQ,rfl,by rw [jH,jH,yT,yT]; rfl⟩
   ·refine wb Z (zt (l:=[_,_]) Z zF.h TyZ.h dQ dQ Z) (fun _=>zu rfl tQ) sQ fun j3 hj3=>?_;refine TD.capp (pend':=[⟨14,[56,61],[]⟩,⟨13,[59,60],[]⟩,⟨12,[6],[]⟩,⟨11,[57,58],[]⟩,⟨10,[1],[]⟩,⟨9,[7],[]⟩,⟨8,[55],[(_,_)]⟩,⟨7,[2],[]⟩,⟨6,[53],[(_,_)]⟩,⟨5,[5],[]⟩,⟨0,[5],[]⟩]) [49,51] Z Z Z Z Z (a_app Z ApOf.h Z mQ oQ Z (yw (ln:=[_,_,_,_,_]) mQ dQ sQ Z) oQ Z (by unfold maxLen; omega) oQ) (fun _=>uQ) (fun _=>zu rfl tQ) (fun _=>sQ) fun j1=>?_;refine ad [[3,5]] ?_;refine TD.capp (pend':=[⟨18,[5],[]⟩,⟨14,[56,61],[]⟩,⟨13,[59,60],[]⟩,⟨12,[6],[]⟩,⟨11,[57,58],[]⟩,⟨10,[1],[]⟩,⟨9,[7],[]⟩,⟨8,[55],[(_,_)]⟩,⟨7,[2],[]⟩,⟨5,[5],[]⟩,⟨0,[5],[]⟩]) [54,64] Z Z Z Z Z (a_app Z ApOf.h Z mQ oQ Z (yw (ln:=[_,_]) mQ dQ sQ Z) oQ Z (by unfold maxLen; omega) oQ) (fun _=>uQ) (fun _=>zu rfl tQ) (fun _=>sQ) fun j2=>?_;refine bR (pend':=[⟨14,[56,61],[]⟩,⟨13,[59,60],[]⟩,⟨12,[6],[]⟩,⟨11,[57,58],[]⟩,⟨10,[1],[]⟩,⟨9,[7],[]⟩,⟨8,[55],[(_,_)]⟩,⟨7,[2],[]⟩]) [52,66] Z Z (zX Z Z zi.h Z Z mQ Z) ?_;refine ad [[3,5]] ?_;refine bR (pend':=[]) [65,67] Z Z (zX Z Z zi.h Z Z mQ Z) ?_;refine ad [[14]] ?_;refine au 3523014140 ?_;refine bA [1,2,4,5,6,7] ?_;refine bC [(s,_),(h,_),(e,_),(j1,_),(j2,_),(jo,_),(jr,_),(jb,_)] ?_;exact hnext _ _ _ oQ ⟨i+1,j1,j2,rfl,oQ,rfl,by rw [jH,jH,yT,yT]; rfl⟩
  ·refine wb Z (zt (l:=[_,_]) Z zF.h TyZ.h dQ dQ Z) (fun _=>zu rfl tQ) sQ fun j4 hj4=>?_;refine TD.cnewR (pend':=[⟨14,[56,61],[]⟩,⟨13,[59,60],[]⟩,⟨12,[6],[]⟩,⟨11,[57,58],[]⟩,⟨10,[1],[]⟩,⟨9,[7],[]⟩,⟨8,[55],[(_,_)]⟩,⟨7,[2],[]⟩,⟨6,[53],[(_,_)]⟩,⟨5,[5],[]⟩,⟨1,[48],[(_,_)]⟩,⟨0,[5],[]⟩]) [50] Z Z Z Z Z (zt (l:=[_,_,_,_,_]) Z zF.h TyZ.h dQ dQ Z) (fun _=>zu rfl tQ) sQ fun j5 hj5=>?_;refine TD.capp (pend':=[⟨14,[56,61],[]⟩,⟨13,[59,60],[]⟩,⟨12,[6],[]⟩,⟨11,[57,58],[]⟩,⟨10,[1],[]⟩,⟨9,[7],[]⟩,⟨8,[55],[(_,_)]⟩,⟨7,[2],[]⟩,⟨6,[53],[(_,_)]⟩,⟨5,[5],[]⟩,⟨0,[5],[]⟩]) [49,51] Z Z Z Z Z (a_app Z ApOf.h Z mQ oQ Z (yw (ln:=[_,_,_,_,_]) mQ dQ sQ Z) oQ Z (by unfold maxLen; omega) oQ) (fun _=>uQ) (fun _=>zu rfl tQ) (fun _=>sQ) fun j1=>?_;refine ad [[3,5]] ?_;refine TD.capp (pend':=[⟨18,[5],[]⟩,⟨14,[56,61],[]⟩,⟨13,[59,60],[]⟩,⟨12,[6],[]⟩,⟨11,[57,58],[]⟩,⟨10,[1],[]⟩,⟨9,[7],[]⟩,⟨8,[55],[(_,_)]⟩,⟨7,[2],[]⟩,⟨5,[5],[]⟩,⟨0,[5],[]⟩]) [54,64] Z Z Z Z Z (a_app Z ApOf.h Z mQ oQ Z (yw (ln:=[_,_]) mQ dQ sQ Z) oQ Z (by unfold maxLen; omega) oQ) (fun _=>uQ) (fun _=>zu rfl tQ) (fun _=>sQ) fun j2=>?_;refine bR (pend':=[⟨14,[56,61],[]⟩,⟨13,[59,60],[]⟩,⟨12,[6],[]⟩,⟨11,[57,58],[]⟩,⟨10,[1],[]⟩,⟨9,[7],[]⟩,⟨8,[55],[(_,_)]⟩,⟨7,[2],[]⟩]) [52,66] Z Z (zX Z Z zi.h Z Z mQ Z) ?_;refine ad [[3,5]] ?_;refine bR (pend':=[]) [65,67] Z Z (zX Z Z zi.h Z Z mQ Z) ?_;refine ad [[14]] ?_;refine au 3523014140 ?_;refine bA [1,2,4,5,6,7] ?_;refine bC [(s,_),(h,_),(e,_),(j1,_),(j2,_),(jo,_),(jr,_),(jb,_)] ?_;exact hnext _ _ _ oQ ⟨i+1,j1,j2,rfl,oQ,rfl,by rw [jH,jH,yT,yT]; rfl⟩
 obtain rfl:i=b.seams.length:=by simp at hc0; omega
 refine au 22160 ?_;refine TK.unrowAt (c:=jo) (i:=4) (j:=js) Z mQ uQ ?_;refine bY (j:=js) ?_;refine TK.unrowAt (c:=jo) (i:=5) (j:=jh) Z mQ uQ ?_;refine bY (j:=jh) ?_;refine TK.virtAt (j:=jo) (i:=6) (e:=49) (size:=3) (l:=[intA b.steps,intA b.round,intA b.roll,intA b.rolls,.sl js 0 b.seams.length,.sl jh 0 b.seams.length,.v (.slice none 0 0)]) Z (fun _=>uQ) fun je0 hje0=>?_;refine au 130354 ?_;refine bA [1,2,4,5,6,9] ?_;refine bC [(s,_),(h,_),(e,_),(js,_),(jh,_),(je0,_),(jo,_),(jr,_),(jb,_)] ?_;refine bE (fun n env K=>∃ (i je:Nat),n=b.measures.length - i/\i<=b.measures.length/\env=.any::intA (t:Int)::.ptr jb 0::.any::.ptr jr 0::.ptr jo 0::intA b.seams.length::naL 2 (intA (i:Int)::naL 91 [])/\K=[(s,zk b),(h,zB b),(e,zq b),(js,.cells (((List.range b.seams.length).map (seamT b t)).flatMap seamC) 94 false),(jh,.cells (((List.range b.seams.length).map (shrT b t)).flatMap bandC) 51 false),(je,.row (((List.range i).map (measI b t)).flatMap measC) 49 3),(jo,.cells [intA b.steps,intA b.round,intA b.roll,intA b.rolls,.sl js 0 b.seams.length,.sl jh 0 b.seams.length,.row je i] 26 true),(jr,.cells z7R 26 true),(jb,.cells (zE b s h e) 26 true)]) b.measures.length ⟨0,je0,rfl,mN _,rfl,rfl⟩ fun n env K hI hnext=>?_;obtain ⟨i,je,rfl,hi,rfl,rfl⟩:=hI;have hfm:=yz measC 3 (fun _=>rfl) ((List.range i).map (measI b t));have hom:((List.range i).map (measI b t)).length=i:=by rw [lJ,List.length_range]
 refine bG nQ ?_;refine au 9372806906701422 ?_;constructor<;>intro hc1
 ·have hil:i<b.measures.length:=by simp at hc1; omega
  have hqm:=hb.mes.bnd _ (xu (b:=b) (i:=b.measures.length - 1 - i) oQ);have hqx:=jZ (b:=b) (n:=((b.measures.length - 1 - i:Nat):Int)) oQ;refine au 3602401240280690670690670421302120 ?_;refine bH Z (ya Z Z zi.h mQ (zcF (i:=b.measures.length - 1 - i) hqx oQ)) ?_;refine au 220 ?_;intro jm hjm;refine au 123012401690670423170 ?_;refine bH Z (q_rem Z Z Z oQ oQ) ?_;refine au 68069067043170670 ?_;refine bI Z Z Z (zt (l:=[_,_,_]) Z zF.h TyZ.h dQ dQ Z) (fun _=>zu rfl tQ) fun j6 hj6=>?_;refine bO Z Z Z (a_app Z ApOf.h Z mQ oQ Z (yw (ln:=[_,_,_]) mQ dQ sQ Z) oQ Z (by unfold maxLen; omega) oQ) (fun _=>uQ) (fun _=>zu rfl tQ) fun je2=>?_;refine au 35230141403170670 ?_;refine bA [1,2,4,5,6,9] ?_;refine bC [(s,_),(h,_),(e,_),(js,_),(jh,_),(je2,_),(jo,_),(jr,_),(jb,_)] ?_;exact hnext _ _ _ oQ ⟨i+1,je2,rfl,oQ,rfl,by rw [jH,yT]; rfl⟩
 obtain rfl:i=b.measures.length:=by simp at hc1; omega
 refine au 2160 ?_;refine TK.unrowAt (c:=jo) (i:=6) (j:=je) Z mQ uQ ?_;refine bY (j:=je) ?_;refine au 31706804 ?_;refine bB hret [(js,_),(jh,_),(je,_),(s,_),(h,_),(e,_)] ?_;exact ⟨js,jh,je,by unfold zE; rw [jL,jaM,xc]; rfl,rfl⟩
end Go.Vel
namespace Go.Vel
open Go Go.Conc
def dU (b:RBk) (i u:Nat):RBk:=driedB b i ⟨(bd b i).low+u,(bd b i).low+u⟩
def cntU (b:RBk) (i:Nat):Nat:=((bd b i).high+1 - (bd b i).low).toNat
section
variable {b:RBk} {i u:Nat}
def atU (b:RBk) (i u:Nat):List (List Int):=(zf b).filter fun s=>decide (zN s i=(bd b i).low+u)
def sumU (b:RBk) (i:Nat):Nat->Nat
 | 0=>0
 | t+1=>sumU b i t+(zf (dU b i t)).length
def anyU (p:Nat->Bool):Nat->Bool
 | 0=>false
 | t+1=>anyU p t||p t
def neU (b:RBk) (i u:Nat):Bool := !(zf (dU b i u)).isEmpty
def loU (b:RBk) (i u:Nat):Bool:=neU b i u&&((newM (dU b i u)).1==(newM b).1)
def hiU (b:RBk) (i u:Nat):Bool:=neU b i u&&((newM (dU b i u)).2==(newM b).2)
def leU (b:RBk) (l:List Int) (i u:Nat):Bool:=neU b i u&&(sqLo (dU b i u) (zf (dU b i u)) l==sqLo b (zf b) l)
def moU (b:RBk) (l:List Int) (i u:Nat):Bool:=neU b i u&&(sqHi (dU b i u) (zf (dU b i u)) l==sqHi b (zf b) l)
def SR (b:RBk) (l:List Int) (i:Nat) (r3:Int) (sl:List Int) (x0 x1 y0 y1:Int):Prop :=
 sl=shrI b (i:Int)/\x0=(newM b).1/\x1=(newM b).2/\y0=sqLo b (zf b) l/\y1=sqHi b (zf b) l/\(r3=0->zf b≠[]/\sqOk b (zf b) l=true)
theorem or3p {x:Int} {A B C P:Prop} (h:(x≠0/\A)\/(x=0/\P/\B)\/(x=0/\¬ P/\C)) (hx:x=0) (hp:P):B:=by
 rcases h with ⟨h,_⟩ | ⟨_,_,h⟩ | ⟨_,h,_⟩
 ·exact absurd hx h
 ·exact h
 ·exact absurd hp h
theorem or3q {x:Int} {A B C P:Prop} (h:(x≠0/\A)\/(x=0/\P/\B)\/(x=0/\¬ P/\C)) (hx:x=0):(P/\B)\/(¬ P/\C):=by
 rcases h with ⟨h,_⟩ | ⟨_,h⟩ | ⟨_,h⟩
 ·exact absurd hx h
 ·exact .inl h
 ·exact .inr h
end
end Go.Vel
namespace Go.Vel
open Go Go.Conc Go.Sort
theorem jU {P:Program} {gm:Nat->Option Nat} {V:KV} {env:List AV} {o:Oper} {t yt:TypeId} {x y:Operand} {a b:Int} (ho:o.op=.binOp .quo t x y yt) (hx:zn gm env x=some (.v (.int .i64 a))) (hy:zn gm env y=some (.v (.int .i64 b))) (h0:0<=a) (h1:0<b) (h2:a<9223372036854775808):Qk P gm env V o (.v (.int .i64 (a / b))):=by
 refine wz ho hx hy ?_;show zR P (if b=0 then _ else _)=_;rw [if_neg oQ];show some (Value.int .i64 (IntKind.i64.wrap (a.tdiv b)))=_;rw [Int.tdiv_eq_ediv_of_nonneg h0,we ⟨Int.le_trans oQ (Int.ediv_nonneg h0 oQ),Int.lt_of_le_of_lt (Int.ediv_le_self b h0) h2⟩]
theorem TK.shr {P:Program} {gm:Nat->Option Nat} {T:Goroutine->Hp->Prop} {Y:KX P gm T} {ds:List Nat} {k k':List Item} {env:List AV} {K:KV} {X:Type} {D:X->Prop} {E:X->List AV} {KK:X->KV} (main:(∀ x,D x->TK Y ds k' (E x) (KK x))->TK Y ds k env K) (tail:∀ x,D x->TK Y ds k' (E x) (KK x)):TK Y ds k env K:=main tail
theorem jbK {d:Array Int} {i:Nat} (h:i<d.size):d.toList[i]? =some d[i]! :=by
 rw [Array.getElem?_toList,Array.getElem?_eq_getElem h,getElem!_pos d i h]
theorem jbH (d:Array Int) (i j:Nat):(d.toList.set i d[j]!).set j d[i]! =(swp d i j).toList:=by
 simp [swp]
theorem ji {d:Array Int} {i:Nat} {n:Int} {e:TypeId} {s:Nat} (h:i<d.size) (hn:n=(i:Int)):takeO (.row (d.toList.map intA) e s) (0+n.toNat*1) 1=some [intA d[i]!]:=kE (jbK h) (by subst hn; simp)
theorem jE {d:Array Int} {k:Nat} {n v:Int} {e:TypeId} {s:Nat} (h:k<d.size) (hn:n=(k:Int)):putO (.row (d.toList.map intA) e s) (0+n.toNat*1) [intA v]=some (.row ((d.toList.set k v).map intA) e s):=zcV (by rw [Array.length_toList]; exact h) hn
theorem jF {d:Array Int} {i j:Nat} {n:Int} {e:TypeId} {s:Nat} (h:j<d.size) (hn:n=(j:Int)):putO (.row ((d.toList.set i d[j]!).map intA) e s) (0+n.toNat*1) [intA d[i]!]=some (.row ((swp d i j).toList.map intA) e s):=by
 rw [<- jbH];exact zcV (by rw [List.length_set,Array.length_toList]; exact h) hn
theorem jG {d:Array Int} {i j n:Nat} (h:d.size=n):(swp d i j).size=n:=by rw [swp_size]; exact h
section
variable {a b i j q n hi F root:Nat} {d:Array Int}
theorem qU (h:i<b):insOuter ltInt a b i d=insOuter ltInt a b (i+1) (insInner ltInt a i d):=by
 conv=>lhs; unfold insOuter
 rw [if_pos h]
theorem qF (h:¬ i<b):insOuter ltInt a b i d=d:=by unfold insOuter; rw [if_neg h]
theorem qT (h:a<q+1) (hl:ltInt d[q+1]! d[q]! =true):insInner ltInt a (q+1) d=insInner ltInt a q (swp d (q+1) q):=by
 conv=>lhs; unfold insInner
 rw [if_pos (by simp only [mX,decide_eq_true_eq]; exact ⟨h,hl⟩)]
theorem qE (h:¬ a<q):insInner ltInt a q d=d:=by
 cases q with
 | zero=>rfl
 | succ q =>
  unfold insInner;rw [if_neg (by simp only [mX,decide_eq_true_eq]; exact fun hh=>h hh.1)]
theorem qw (hl:ltInt d[q+1]! d[q]! =false):insInner ltInt a (q+1) d=d:=by
 unfold insInner;rw [if_neg (by rw [hl]; simp)]
theorem ja9 (h:hi<=2*root+1):siftDown ltInt hi F root d=d:=by unfold siftDown; rw [dif_pos h]
def SiftC (hi F root:Nat) (d:Array Int) (c:Nat):Prop:=root<c/\c<hi/\siftDown ltInt hi F root d=if (!ltInt d[F+root]! d[F+c]!)=true then d else siftDown ltInt hi F c (swp d (F+root) (F+c))
theorem jbF (h:¬ hi<=2*root+1) (h2:2*root+2<hi) (hl:ltInt d[F+(2*root+1)]! d[F+(2*root+1)+1]! =true):SiftC hi F root d (2*root+2):=by
 refine ⟨by omega,h2,?_⟩
 conv=>lhs; unfold siftDown
 rw [dif_neg h,if_pos (by rw [hl]; simp; omega),dif_pos h2]
theorem jaj (h:¬ hi<=2*root+1) (hl:¬ 2*root+2<hi\/ltInt d[F+(2*root+1)]! d[F+(2*root+1)+1]! =false):SiftC hi F root d (2*root+1):=by
 refine ⟨by omega,oQ,?_⟩
 conv=>lhs; unfold siftDown
 rw [dif_neg h,if_neg (by rcases hl with hl | hl <;> simp [hl])]
theorem jak (hi F root:Nat) (d:Array Int):(siftDown ltInt hi F root d).size=d.size:=by
 fun_induction siftDown ltInt hi F root d <;> simp_all [swp_size]
end
end Go.Vel
namespace Go.Vel
open Go Go.Conc Go.Proofs
open Go.Sort
theorem jbn {main T} (hT:zo tp main T) {gm} {j n a b:Nat} {d:Array Int} (hd:d.size=n) (hn:n<=1000) (hab:a<=b) (hb:b<=n) :
  zA tp T gm 188 [.sl j 0 n,intA a,intA b] [(j,.row (d.toList.map intA) 3 1)] (fun r K'=>K'=[(j,.row ((insertionSort ltInt d a b).toList.map intA) 3 1)]):=by
 refine zp 49 hT Tryz.func188 fun Y hret=>?_;refine au 13035230142 ?_;refine bA [0,1,2,6] ?_;refine bE (fun n1 env K=>∃ (i:Nat) (d1:Array Int),n1=b - i/\a<i/\d1.size=n/\insOuter ltInt a b i d1=insertionSort ltInt d a b/\env=.sl j 0 n::intA a::intA b::naL 3 (intA i::naL 42 [])/\K=[(j,.row (d1.toList.map intA) 3 1)]) (b - (a+1)) ⟨a+1,d,rfl,oQ,hd,rfl,rfl,rfl⟩ fun n1 env K hI hnext=>?_;obtain ⟨i,d1,rfl,hai,hs1,heq,rfl,rfl⟩:=hI;refine bG nQ ?_;refine au 93711422 ?_;constructor<;>intro hc0
 ·have hib:i<b:=by simp at hc0; omega
  rw [qU hib] at heq;refine au 130351421302120 ?_;refine bA [0,1,2,6,7] ?_;refine bE (fun n1 env K=>∃ (p:Nat) (d2:Array Int),n1=p/\p<=i/\d2.size=n/\insOuter ltInt a b (i+1) (insInner ltInt a p d2)=insertionSort ltInt d a b/\env=.sl j 0 n::intA a::intA b::naL 3 (intA i::intA p::naL 41 [])/\K=[(j,.row (d2.toList.map intA) 3 1)]) i ⟨i,d1,rfl,mL _,hs1,heq,rfl,rfl⟩ fun n1 env K hI hnext1=>?_;obtain ⟨p,d2,hnp,hp,hs2,heq2,rfl,rfl⟩:=hI;subst n1;refine bG nQ ?_;refine au 22 ?_;refine bL [0,1,2,3,4,5,6,7,8,9,10,11,12,13,14] ?_;refine ad [[1,7],[1,1],[4,16,17],[1,18]] ?_;refine bW 19 (fun g4_4=>?_) (fun g4_4=>?_)
  ·have hpa:a<p:=by simp at g4_4; omega
   obtain ⟨q,rfl⟩:∃ q,p=q+1:=⟨p - 1,oQ⟩;refine ad [[1,0,19],[1,7,19],[2,19,20,21]] ?_;refine bT [19,22] Z (hq:=zm Z Z zi.h (mC _) (ji (i:=q+1) oQ oQ)) (h:=?_);refine ad [[1,0,19],[1,7,19],[9,19,25],[2,19,24,26]] ?_;refine bT [19,27] Z (hq:=zm Z Z zi.h (mC _) (ji (i:=q) oQ oQ)) (h:=?_);refine bQ (pend':=[⟨11,[19,24,26],[]⟩,⟨10,[19,25],[]⟩,⟨9,[7,19],[]⟩,⟨8,[0,19],[]⟩,⟨6,[19,20,21],[]⟩,⟨5,[7,19],[]⟩,⟨4,[0,19],[]⟩,⟨2,[16,17],[]⟩,⟨1,[1],[]⟩,⟨0,[7],[]⟩]) [19,23,28] Z Z Z Z Z (zha hT) (fun r1 K2 h3=>⟨?_,?_⟩)
   ·rcases h3 with ⟨rfl,rfl⟩
    all_goals simp
   obtain ⟨rfl,rfl⟩:=h3;try simp only [cA]
   refine bS tQ ?_;refine ad [[7,19,29],[14]] ?_;refine au 9 ?_;constructor<;>intro hc1
   ·rw [qT hpa hc1] at heq2;refine au 1302120 ?_;refine bL [0,1,5,6,7,8,9,10,11,12,13,14,15,2,3,4,16,17] ?_;refine ad [[1,0],[1,7],[1,0],[1,7],[9,36],[1,0],[1,7],[9,39],[2,38,40]] ?_;refine bT [41] Z (hq:=zm Z Z zi.h (mC _) (ji (i:=q) oQ oQ)) (h:=?_);refine ad [[1,0],[1,7],[2,43,44]] ?_;refine bT [45] Z (hq:=zm Z Z zi.h (mC _) (ji (i:=q+1) oQ oQ)) (h:=?_);refine ad [[2,33,34]] ?_;refine bR (pend':=[⟨12,[43,44],[]⟩,⟨11,[7],[]⟩,⟨10,[0],[]⟩,⟨4,[36],[]⟩,⟨3,[7],[]⟩,⟨2,[0],[]⟩]) [42,47] Z Z (zX Z Z zi.h Z Z mQ (jE (k:=q+1) oQ oQ)) ?_;refine ad [[2,35,37]] ?_;refine bR (pend':=[]) [46,48] Z Z (zX Z Z zi.h Z Z mQ (jF (i:=q+1) (j:=q) oQ oQ)) ?_;refine ad [[14]] ?_;refine au 3524014140 ?_;refine bA [0,1,2,6,7] ?_;refine bC [(j,_)] ?_;exact hnext1 _ _ _ oQ ⟨q,swp d2 (q+1) q,rfl,oQ,jG hs2,heq2,by rw [show ((q+1:Nat):Int) - 1=(q:Int) by omega]; rfl,rfl⟩
   rw [qw hc1] at heq2;refine au 3523014140160 ?_;refine bA [0,1,2,6] ?_;refine bC [(j,_)] ?_;exact hnext _ _ _ oQ ⟨i+1,d2,rfl,oQ,hs2,heq2,rfl,rfl⟩
  have hpa:¬ a<p:=by simp at g4_4; omega
  rw [qE hpa] at heq2;refine ad [[11,0,19],[11,7,19],[11,19,20,21],[11,19,22],[11,0,19],[11,7,19],[11,19,25],[11,19,24,26],[11,19,27],[11,19,23,28],[6,19,29],[14]] ?_;refine au 3523014140160190 ?_;refine bA [0,1,2,6] ?_;refine bC [(j,_)] ?_;exact hnext _ _ _ oQ ⟨i+1,d2,rfl,oQ,hs2,heq2,rfl,rfl⟩
 have hib:¬ i<b:=by simp at hc0; omega
 refine au 160 ?_;refine TK.rt0 hret [(j,_)] ?_;rw [<- heq,qF hib]
theorem qP {main T} (hT:zo tp main T) {gm} {j n lo hi F:Nat} {d:Array Int} (hd:d.size=n) (hn:n<=1000) (hlo:lo<=1000) (hF:F+hi<=n) :
  zA tp T gm 218 [.sl j 0 n,intA lo,intA hi,intA F] [(j,.row (d.toList.map intA) 3 1)] (fun r K'=>K'=[(j,.row ((siftDown ltInt hi F lo d).toList.map intA) 3 1)]):=by
 refine zp 76 hT Tryz.func218 fun Y hret=>?_;refine au 13035142 ?_;refine bA [0,2,3,8] ?_;refine bE (fun n1 env K=>∃ (root:Nat) (d1:Array Int),n1=hi - root/\root<=1000/\d1.size=n/\siftDown ltInt hi F root d1=siftDown ltInt hi F lo d/\env=.sl j 0 n::.any::intA hi::intA F::naL 4 (intA root::naL 67 [])/\K=[(j,.row (d1.toList.map intA) 3 1)]) (hi - lo) ⟨lo,d,rfl,hlo,hd,rfl,rfl,rfl⟩ fun n1 env K hI hnext=>?_;obtain ⟨root,d1,rfl,hr,hs1,heq,rfl,rfl⟩:=hI;refine bG nQ ?_;refine au 142130 ?_;refine bH Z (q_mul Z Z Z oQ) ?_;refine au 2235230 ?_;rw [show 2*(root:Int)+1=((2*root+1:Nat):Int) by omega];refine au 937114 ?_;constructor<;>intro hc0
 ·have hch:hi<=2*root+1:=by simp at hc0; omega
  have hfin:d1=siftDown ltInt hi F lo d:=by rw [<- heq,ja9 hch]
  refine au 160 ?_;refine TK.rt0 hret [(j,_)] ?_;rw [<- hfin]
 have hch:¬ hi<=2*root+1:=by simp at hc0; omega
 refine au 22120 ?_;refine' TK.shr (X:=Nat) (D:=fun x=>SiftC hi F root d1 x) (E:=fun x=>.sl j 0 n::.any::intA hi::intA F::naL 4 (intA root::intA x::naL 66 [])) (KK:=fun x=>[(j,.row (d1.toList.map intA) 3 1)]) ?_ ?_;rotate_left
 ·intro H;refine bL [0,1,2,3,4,5,6,7,8,9,10,11,12,13,14,15,16,17,18,19] ?_;refine ad [[1,9],[8,17],[1,2],[4,18,19],[1,20]] ?_;refine bW 21 (fun g3_5=>?_) (fun g3_5=>?_)
  ·have hg:2*root+2<hi:=by simp at g3_5; omega
   refine ad [[1,0,21],[1,3,21],[1,9,21],[8,21,23,24],[2,21,22,25]] ?_;refine bT [21,26] Z (hq:=zm Z Z zi.h (mC _) (ji (i:=F+(2*root+1)) oQ oQ)) (h:=?_);refine ad [[1,0,21],[1,3,21],[1,9,21],[8,21,29,30],[8,21,31],[2,21,28,32]] ?_;refine bT [21,33] Z (hq:=zm Z Z zi.h (mC _) (ji (i:=F+(2*root+1)+1) oQ oQ)) (h:=?_);refine bQ (pend':=[⟨16,[21,28,32],[]⟩,⟨15,[21,31],[]⟩,⟨14,[21,29,30],[]⟩,⟨13,[9,21],[]⟩,⟨12,[3,21],[]⟩,⟨11,[0,21],[]⟩,⟨9,[21,22,25],[]⟩,⟨8,[21,23,24],[]⟩,⟨7,[9,21],[]⟩,⟨6,[3,21],[]⟩,⟨5,[0,21],[]⟩,⟨3,[18,19],[]⟩,⟨2,[2],[]⟩,⟨1,[17],[]⟩,⟨0,[9],[]⟩]) [21,27,34] Z Z Z Z Z (zha hT) (fun r1 K2 h3=>⟨?_,?_⟩)
   ·rcases h3 with ⟨rfl,rfl⟩
    all_goals simp
   obtain ⟨rfl,rfl⟩:=h3;try simp only [cA]
   refine bS tQ ?_;refine ad [[7,21,35],[14]] ?_;refine au 9 ?_;constructor<;>intro hc1
   ·have hc:=jbF hch hg hc1;refine au 523014 ?_;rw [show ((2*root+1:Nat):Int)+1=((2*root+2:Nat):Int) by omega];refine au 223 ?_;refine bA [0,2,3,8,9] ?_;refine bC [(j,_)] ?_;exact H (2*root+2) hc
   have hc:=jaj hch (.inr hc1);refine au 22120 ?_;refine bA [0,2,3,8,9] ?_;refine bC [(j,_)] ?_;exact H (2*root+1) hc
  have hg:¬ 2*root+2<hi:=by simp at g3_5; omega
  have hc:=jaj (F:=F) (d:=d1) hch (.inl hg);refine ad [[11,0,21],[11,3,21],[11,9,21],[11,21,23,24],[11,21,22,25],[11,21,26],[11,0,21],[11,3,21],[11,9,21],[11,21,29,30],[11,21,31],[11,21,28,32],[11,21,33],[11,21,27,34],[6,21,35],[14]] ?_;refine au 22120190 ?_;refine bA [0,2,3,8,9] ?_;refine bC [(j,_)] ?_;exact H (2*root+1) hc
 ·rintro c ⟨hrc,hcl,heqc⟩; rw [heq] at heqc;refine bG nQ ?_;refine bL [0,1,2,3,4,5,6,7,8,9,10,11,12,13] ?_;refine ad [[1,0],[1,3],[1,8],[8,40,41],[2,39,42]] ?_;refine bT [43] Z (hq:=zm Z Z zi.h (mC _) (ji (i:=F+root) oQ oQ)) (h:=?_);refine ad [[1,0],[1,3],[1,9],[8,46,47],[2,45,48]] ?_;refine bT [49] Z (hq:=zm Z Z zi.h (mC _) (ji (i:=F+c) oQ oQ)) (h:=?_);refine bQ (pend':=[⟨10,[45,48],[]⟩,⟨9,[46,47],[]⟩,⟨8,[9],[]⟩,⟨7,[3],[]⟩,⟨6,[0],[]⟩,⟨4,[39,42],[]⟩,⟨3,[40,41],[]⟩,⟨2,[8],[]⟩,⟨1,[3],[]⟩,⟨0,[0],[]⟩]) [44,50] Z Z Z Z Z (zha hT) (fun r10 K11 h12=>⟨?_,?_⟩)
  ·rcases h12 with ⟨rfl,rfl⟩
   all_goals simp
  obtain ⟨rfl,rfl⟩:=h12;try simp only [cA]
  refine bS tQ ?_;refine bU [51] Z (q_not Z Z) ?_;refine ad [[14]] ?_;refine au 9 ?_;constructor<;>intro hc2
  ·have hfin:d1=siftDown ltInt hi F lo d:=by rw [heqc]; exact (if_pos hc2).symm
   refine au 0 ?_;refine bB hret [(j,_)] ?_;rw [<- hfin]
  have hq:=heqc.trans (if_neg (fun h=>absurd (hc2.symm.trans h) dQ));refine au 2120 ?_;refine bL [0,1,2,3,8,9,10,11,12,13,14,15,16,17,18,19,20,21,4,5,6,7,22,23] ?_;refine ad [[1,0],[1,3],[1,8],[8,54,55],[1,0],[1,3],[1,9],[8,58,59],[1,0],[1,3],[1,9],[8,62,63],[2,61,64]] ?_;refine bT [65] Z (hq:=zm Z Z zi.h (mC _) (ji (i:=F+c) oQ oQ)) (h:=?_);refine ad [[1,0],[1,3],[1,8],[8,68,69],[2,67,70]] ?_;refine bT [71] Z (hq:=zm Z Z zi.h (mC _) (ji (i:=F+root) oQ oQ)) (h:=?_);refine ad [[2,53,56]] ?_;refine bR (pend':=[⟨18,[67,70],[]⟩,⟨17,[68,69],[]⟩,⟨16,[8],[]⟩,⟨15,[3],[]⟩,⟨14,[0],[]⟩,⟨7,[58,59],[]⟩,⟨6,[9],[]⟩,⟨5,[3],[]⟩,⟨4,[0],[]⟩]) [66,73] Z Z (zX Z Z zi.h Z Z mQ (jE (k:=F+root) oQ oQ)) ?_;refine ad [[2,57,60]] ?_;refine bR (pend':=[]) [72,74] Z Z (zX Z Z zi.h Z Z mQ (jF (i:=F+root) (j:=F+c) oQ oQ)) ?_;refine ad [[14]] ?_;refine au 1403514 ?_;refine bA [0,2,3,8] ?_;refine bC [(j,_)] ?_;exact hnext _ _ _ oQ ⟨c,swp d1 (F+root) (F+c),rfl,oQ,jG hs1,hq.symm,rfl,rfl⟩
instance:Cal tp 218:={}
theorem jaR {main T} (hT:zo tp main T) {gm} {j n a b:Nat} {d:Array Int} (hd:d.size=n) (hn:n<=1000) (hab:a<b) (hb:b<=n) :
  zA tp T gm 189 [.sl j 0 n,intA a,intA b] [(j,.row (d.toList.map intA) 3 1)] (fun r K'=>K'=[(j,.row ((heapSort ltInt d a b).toList.map intA) 3 1)]):=by
 refine zp 56 hT Tryz.func189 fun Y hret=>?_;refine au 22352401142354235142 ?_;rw [show (b:Int) - (a:Int)=((b - a:Nat):Int) by omega];refine au 24014 ?_;refine bH Z (jU Z Z Z oQ oQ oQ) ?_;refine au 13035 ?_;refine bA [0,6,7,8,9] ?_;refine bE (fun n1 env K=>∃ (k:Nat) (d1:Array Int),n1=k/\k<=b - a/\d1.size=n/\heapPop ltInt a (b - a) (heapBuild ltInt (b - a) a k d1)=heapSort ltInt d a b/\env=.sl j 0 n::naL 5 (intA a::intA 0::intA (b - a:Nat)::intA ((k:Int) - 1)::naL 46 [])/\K=[(j,.row (d1.toList.map intA) 3 1)]) ((b - a - 1) / 2+1) ⟨(b - a - 1) / 2+1,d,rfl,oQ,hd,rfl,by rw [show (((b - a:Nat):Int) - 1) / 2=(((b - a - 1) / 2+1:Nat):Int) - 1 by omega] <;> rfl,rfl⟩ fun n1 env K hI hnext=>?_;obtain ⟨k,d1,hnk,hk,hs1,heq,rfl,rfl⟩:=hI;subst n1;refine bG nQ ?_;refine au 9371422 ?_;constructor<;>intro hc0
 ·obtain ⟨q,rfl⟩:∃ q,k=q+1:=⟨k - 1,by simp at hc0; omega⟩;rw [show ((q+1:Nat):Int) - 1=(q:Int) by omega];refine au 111141302120 ?_;refine bD Z Z Z Z (qP hT (d:=d1) (lo:=q) (hi:=b - a) (F:=a) hs1 hn oQ oQ) ?_;rintro r1 K2 rfl;refine au 35240141403 ?_;refine bA [0,6,7,8,9] ?_;refine bC [(j,_)] ?_;exact hnext _ _ _ oQ ⟨q,siftDown ltInt (b - a) a q d1,rfl,oQ,by rw [jak]; exact hs1,heq,rfl,rfl⟩
 obtain rfl:k=0:=by simp at hc0; omega
 refine au 13035240142160 ?_;refine bA [0,6,7,8,10] ?_;refine bE (fun n1 env K=>∃ (k:Nat) (d2:Array Int),n1=k/\k<=b - a/\d2.size=n/\heapPop ltInt a k d2=heapSort ltInt d a b/\env=.sl j 0 n::naL 5 (intA a::intA 0::intA (b - a:Nat)::.any::intA ((k:Int) - 1)::naL 45 [])/\K=[(j,.row (d2.toList.map intA) 3 1)]) (b - a) ⟨b - a,d1,rfl,mL _,hs1,heq,rfl,rfl⟩ fun n1 env K hI hnext1=>?_;obtain ⟨k,d2,hnk2,hk2,hs2,heq2,rfl,rfl⟩:=hI;subst n1;refine bG nQ ?_;refine au 9371422 ?_;constructor<;>intro hc1
 ·obtain ⟨q,rfl⟩:∃ q,k=q+1:=⟨k - 1,by simp at hc1; omega⟩;rw [show ((q+1:Nat):Int) - 1=(q:Int) by omega];refine au 21302120 ?_;refine bL [0,1,6,7,8,9,10,11,12,13,14,15,16,17,2,3,4,5,18,19] ?_;refine ad [[1,0],[1,6],[1,0],[1,6],[1,10],[8,36,37],[1,0],[1,6],[1,10],[8,40,41],[2,39,42]] ?_;refine bT [43] Z (hq:=zm Z Z zi.h (mC _) (ji (i:=a+q) oQ oQ)) (h:=?_);refine ad [[1,0],[1,6],[2,45,46]] ?_;refine bT [47] Z (hq:=zm Z Z zi.h (mC _) (ji (i:=a) oQ oQ)) (h:=?_);refine ad [[2,33,34]] ?_;refine bR (pend':=[⟨14,[45,46],[]⟩,⟨13,[6],[]⟩,⟨12,[0],[]⟩,⟨5,[36,37],[]⟩,⟨4,[10],[]⟩,⟨3,[6],[]⟩,⟨2,[0],[]⟩]) [44,49] Z Z (zX Z Z zi.h Z Z mQ (jE (k:=a) oQ oQ)) ?_;refine ad [[2,35,38]] ?_;refine bR (pend':=[]) [48,50] Z Z (zX Z Z zi.h Z Z mQ (jF (i:=a) (j:=a+q) oQ oQ)) ?_;refine ad [[14]] ?_;refine au 11114 ?_;refine bD Z Z Z Z (qP hT (d:=swp d2 a (a+q)) (lo:=0) (hi:=q) (F:=a) (jG hs2) hn oQ oQ) ?_;rintro r4 K5 rfl;refine au 35240141403 ?_;refine bA [0,6,7,8,10] ?_;refine bC [(j,_)] ?_;exact hnext1 _ _ _ oQ ⟨q,siftDown ltInt q a 0 (swp d2 a (a+q)),rfl,oQ,by rw [jak]; exact jG hs2,heq2,rfl,rfl⟩
 obtain rfl:k=0:=by simp at hc1; omega
 refine au 160 ?_;refine TK.rt0 hret [(j,_)] ?_;rw [<- heq2]; rfl
end Go.Vel
namespace Go.Vel
open Go Go.Conc Go.Sort
section
variable {p:Int->Bool} {a b i j q u v u2 v2 pv:Nat} {d d1 d2:Array Int}
theorem up_go (h:i<=j) (hp:p d[i]! =true):scanUp p d j i=scanUp p d j (i+1):=by
 conv=>lhs; unfold scanUp
 rw [if_pos (by simp [h,hp])]
theorem xd (h:¬ i<=j\/p d[i]! =false):scanUp p d j i=i:=by
 unfold scanUp;rw [if_neg (by rcases h with h | h <;> simp [h])]
theorem xY (h:i<=q+1) (hp:p d[q+1]! =true):scanDown p d i (q+1)=scanDown p d i q:=by
 conv=>lhs; unfold scanDown
 rw [if_pos (by simp [h,hp])]
theorem jN (h:¬ i<=q\/p d[q]! =false):scanDown p d i q=q:=by
 cases q with
 | zero=>rfl
 | succ q =>
  unfold scanDown;rw [if_neg (by rcases h with h | h <;> simp [h])]
theorem jbM (hd:d1=swp d a pv) (hu:scanUp (fun x=>ltInt x d1[a]!) d1 (b - 1) (a+1)=u) (hv:scanDown (fun x => !ltInt x d1[a]!) d1 u (b - 1)=v) (h:v<u):partition ltInt d a b pv=(v,true,swp d1 v a):=by
 subst hd;unfold partition;simp only [];rw [hu,hv,if_pos h]
theorem jbN (hd:d1=swp d a pv) (hu:scanUp (fun x=>ltInt x d1[a]!) d1 (b - 1) (a+1)=u) (hv:scanDown (fun x => !ltInt x d1[a]!) d1 u (b - 1)=v) (h:¬ v<u) (hl:partLoop ltInt a (u+1) (v - 1) (swp d1 u v)=(v2,d2)):partition ltInt d a b pv=(v2,false,swp d2 v2 a):=by
 subst hd;unfold partition;simp only [];rw [hu,hv,if_neg h,hl]
theorem jbP (hu:scanUp (fun x=>ltInt x d[a]!) d v u=u2) (hv:scanDown (fun x => !ltInt x d[a]!) d u2 v=v2) (h:v2<u2):partLoop ltInt a u v d=(v2,d):=by
 rw [partLoop_eq,hu,hv];exact if_pos h
theorem pl_go (hu:scanUp (fun x=>ltInt x d[a]!) d v u=u2) (hv:scanDown (fun x => !ltInt x d[a]!) d u2 v=v2) (h:¬ v2<u2):partLoop ltInt a u v d=partLoop ltInt a (u2+1) (v2 - 1) (swp d u2 v2):=by
 conv=>lhs; rw [partLoop_eq,hu,hv]
 exact if_neg h
theorem jbO (hu:scanUp (fun x => !ltInt d[a]! x) d v u=u2) (hv:scanDown (fun x=>ltInt d[a]! x) d u2 v=v2) (h:v2<u2):partEqLoop ltInt a u v d=(u2,d):=by
 rw [partEqLoop_eq,hu,hv];exact if_pos h
theorem pe_go (hu:scanUp (fun x => !ltInt d[a]! x) d v u=u2) (hv:scanDown (fun x=>ltInt d[a]! x) d u2 v=v2) (h:¬ v2<u2):partEqLoop ltInt a u v d=partEqLoop ltInt a (u2+1) (v2 - 1) (swp d u2 v2):=by
 conv=>lhs; rw [partEqLoop_eq,hu,hv]
 exact if_neg h
end
end Go.Vel
namespace Go.Vel
open Go Go.Conc Go.Proofs
open Go.Sort
theorem jaX {main T} (hT:zo tp main T) {gm} {j n a b pv:Nat} {d:Array Int} (hd:d.size=n) (hn:n<=1000) (ha:a<=pv) (hpv:pv<b) (hb:b<=n) :
  zA tp T gm 196 [.sl j 0 n,intA a,intA b,intA pv] [(j,.row (d.toList.map intA) 3 1)] (fun r K'=>∃ p,partition ltInt d a b pv=p/\r=.tup [intA p.1,zP p.2.1]/\K'=[(j,.row (p.2.2.toList.map intA) 3 1)]):=by
 refine zp 168 hT Tryz.func196 fun Y hret=>?_;refine au 235542 ?_;refine bL [0,1,4,5,6,7,8,9,10,11,12,13,2,3,14,15] ?_;refine ad [[1,0],[1,1],[1,0],[1,3],[1,0],[1,3],[2,16,17]] ?_;refine bT [18] Z (hq:=zm Z Z zi.h (mC _) (ji (i:=pv) oQ oQ)) (h:=?_);refine ad [[1,0],[1,1],[2,20,21]] ?_;refine bT [22] Z (hq:=zm Z Z zi.h (mC _) (ji (i:=a) oQ oQ)) (h:=?_);refine ad [[2,12,13]] ?_;refine bR (pend':=[⟨10,[20,21],[]⟩,⟨9,[1],[]⟩,⟨8,[0],[]⟩,⟨3,[3],[]⟩,⟨2,[0],[]⟩]) [19,24] Z Z (zX Z Z zi.h Z Z mQ (jE (k:=a) oQ oQ)) ?_;refine ad [[2,14,15]] ?_;refine bR (pend':=[]) [23,25] Z Z (zX Z Z zi.h Z Z mQ (jF (i:=a) (j:=pv) oQ oQ)) ?_;refine ad [[14]] ?_;refine au 2 ?_;obtain ⟨d1,hd1⟩:∃ d1,d1=swp d a pv:=⟨_,rfl⟩;rw [<- hd1];have hs1:d1.size=n:=by rw [hd1]; exact jG hd
 refine au 1302355240123014 ?_;refine bA [0,1,10,11] ?_;refine bE (fun n1 env K=>∃ (u:Nat),n1=b - u/\a+1<=u/\u<=b/\scanUp (fun x=>ltInt x d1[a]!) d1 (b - 1) u=scanUp (fun x=>ltInt x d1[a]!) d1 (b - 1) (a+1)/\env=.sl j 0 n::intA a::naL 8 (intA u::intA (b - 1:Nat)::naL 156 [])/\K=[(j,.row (d1.toList.map intA) 3 1)]) (b - (a+1)) ⟨a+1,rfl,mL _,oQ,rfl,by rw [show (b:Int) - 1=((b - 1:Nat):Int) by omega] <;> rfl,rfl⟩ fun n1 env K hI hnextu=>?_;obtain ⟨u,rfl,hu0,hub,heqs,rfl,rfl⟩:=hI;refine bG nQ ?_;refine au 22 ?_;refine' TK.shr (X:=Unit) (D:=fun x=>scanUp (fun x=>ltInt x d1[a]!) d1 (b - 1) (a+1)=u) (E:=fun x=>.sl j 0 n::intA a::naL 8 (intA u::intA (b - 1:Nat)::naL 156 [])) (KK:=fun x=>[(j,.row (d1.toList.map intA) 3 1)]) ?_ ?_;rotate_left
 ·intro H;refine bL [0,1,2,3,4,5,6,7,8,9,10,11,12,13] ?_;refine ad [[1,10],[1,11],[4,30,31],[1,32]] ?_;refine bW 33 (fun g3_4=>?_) (fun g3_4=>?_)
  ·have hg:u<=b - 1:=by simp at g3_4; omega
   refine ad [[1,0,33],[1,10,33],[2,33,34,35]] ?_;refine bT [33,36] Z (hq:=zm Z Z zi.h (mC _) (ji (i:=u) oQ oQ)) (h:=?_);refine ad [[1,0,33],[1,1,33],[2,33,38,39]] ?_;refine bT [33,40] Z (hq:=zm Z Z zi.h (mC _) (ji (i:=a) oQ oQ)) (h:=?_);refine bQ (pend':=[⟨10,[33,38,39],[]⟩,⟨9,[1,33],[]⟩,⟨8,[0,33],[]⟩,⟨6,[33,34,35],[]⟩,⟨5,[10,33],[]⟩,⟨4,[0,33],[]⟩,⟨2,[30,31],[]⟩,⟨1,[11],[]⟩,⟨0,[10],[]⟩]) [33,37,41] Z Z Z Z Z (zha hT) (fun r1 K2 h3=>⟨?_,?_⟩)
   ·rcases h3 with ⟨rfl,rfl⟩
    all_goals simp
   obtain ⟨rfl,rfl⟩:=h3;try simp only [cA]
   refine bS tQ ?_;refine ad [[7,33,42],[14]] ?_;refine au 9 ?_;constructor<;>intro hc0
   ·rw [up_go (p:=(fun x=>ltInt x d1[a]!)) hg hc0] at heqs;refine au 1403523014130120 ?_;refine bA [0,1,10,11] ?_;refine bC [(j,_)] ?_;exact hnextu _ _ _ oQ ⟨u+1,rfl,oQ,oQ,heqs,rfl,rfl⟩
   have hfin:scanUp (fun x=>ltInt x d1[a]!) d1 (b - 1) (a+1)=u:=by rw [<- heqs]; exact xd (p:=(fun x=>ltInt x d1[a]!)) (.inr hc0)
   refine au 1302160 ?_;refine bA [0,1,10,11] ?_;refine bA [0,1,10,11] ?_;refine bC [(j,_)] ?_;exact H () hfin
  have hfin:scanUp (fun x=>ltInt x d1[a]!) d1 (b - 1) (a+1)=u:=by rw [<- heqs]; exact xd (.inl (by simp at g3_4; omega))
  refine ad [[11,0,33],[11,10,33],[11,33,34,35],[11,33,36],[11,0,33],[11,1,33],[11,33,38,39],[11,33,40],[11,33,37,41],[6,33,42],[14]] ?_;refine au 1302160190 ?_;refine bA [0,1,10,11] ?_;refine bA [0,1,10,11] ?_;refine bC [(j,_)] ?_;exact H () hfin
 ·rintro _ hup;refine bG nQ ?_;refine bE (fun n1 env K=>∃ (v:Nat),n1=v/\v<=b - 1/\scanDown (fun x => !ltInt x d1[a]!) d1 u v=scanDown (fun x => !ltInt x d1[a]!) d1 u (b - 1)/\env=.sl j 0 n::intA a::naL 8 (intA u::intA v::naL 156 [])/\K=[(j,.row (d1.toList.map intA) 3 1)]) (b - 1) ⟨b - 1,rfl,mL _,rfl,rfl,rfl⟩ fun n1 env K hI hnextv=>?_;obtain ⟨v,hnv,hvb,heqs,rfl,rfl⟩:=hI;subst n1;refine bG nQ ?_;refine au 22 ?_;refine' TK.shr (X:=Unit) (D:=fun x=>scanDown (fun x => !ltInt x d1[a]!) d1 u (b - 1)=v) (E:=fun x=>.sl j 0 n::intA a::naL 8 (intA u::intA v::naL 156 [])) (KK:=fun x=>[(j,.row (d1.toList.map intA) 3 1)]) ?_ ?_;rotate_left
  ·intro H;refine bL [0,1,2,3,4,5,6,7,8,9,10,11,12,13,14] ?_;refine ad [[1,10],[1,11],[4,46,47],[1,48]] ?_;refine bW 49 (fun g5_4=>?_) (fun g5_4=>?_)
   ·have hg:u<=v:=by simp at g5_4; omega
    obtain ⟨q,rfl⟩:∃ q,v=q+1:=⟨v - 1,oQ⟩;refine ad [[1,0,49],[1,11,49],[2,49,50,51]] ?_;refine bT [49,52] Z (hq:=zm Z Z zi.h (mC _) (ji (i:=q+1) oQ oQ)) (h:=?_);refine ad [[1,0,49],[1,1,49],[2,49,54,55]] ?_;refine bT [49,56] Z (hq:=zm Z Z zi.h (mC _) (ji (i:=a) oQ oQ)) (h:=?_);refine bQ (pend':=[⟨10,[49,54,55],[]⟩,⟨9,[1,49],[]⟩,⟨8,[0,49],[]⟩,⟨6,[49,50,51],[]⟩,⟨5,[11,49],[]⟩,⟨4,[0,49],[]⟩,⟨2,[46,47],[]⟩,⟨1,[11],[]⟩,⟨0,[10],[]⟩]) [49,53,57] Z Z Z Z Z (zha hT) (fun r25 K26 h27=>⟨?_,?_⟩)
    ·rcases h27 with ⟨rfl,rfl⟩
     all_goals simp
    obtain ⟨rfl,rfl⟩:=h27;try simp only [cA]
    refine bS tQ ?_;refine bU [49,58] Z (q_not Z Z) ?_;refine ad [[7,49,59],[14]] ?_;refine au 9 ?_;constructor<;>intro hc1
    ·rw [xY (p:=(fun x => !ltInt x d1[a]!)) hg hc1] at heqs;refine au 1403524014130120 ?_;refine bA [0,1,10,11] ?_;refine bC [(j,_)] ?_;exact hnextv _ _ _ oQ ⟨q,rfl,oQ,heqs,by rw [show ((q+1:Nat):Int) - 1=(q:Int) by omega]; rfl,rfl⟩
    have hfin:scanDown (fun x => !ltInt x d1[a]!) d1 u (b - 1)=q+1:=by rw [<- heqs]; exact jN (p:=(fun x => !ltInt x d1[a]!)) (.inr hc1)
    refine au 22160 ?_;refine bA [0,1,10,11] ?_;refine bC [(j,_)] ?_;exact H () hfin
   have hfin:scanDown (fun x => !ltInt x d1[a]!) d1 u (b - 1)=v:=by rw [<- heqs]; exact jN (.inl (by simp at g5_4; omega))
   refine ad [[11,0,49],[11,11,49],[11,49,50,51],[11,49,52],[11,0,49],[11,1,49],[11,49,54,55],[11,49,56],[11,49,53,57],[11,49,58],[6,49,59],[14]] ?_;refine au 22160190 ?_;refine bA [0,1,10,11] ?_;refine bC [(j,_)] ?_;exact H () hfin
  ·rintro _ hdn;refine bG nQ ?_;refine au 937114 ?_;constructor<;>intro hc2
   ·have hlt:v<u:=by simp at hc2; omega
    refine au 2 ?_;refine bL [0,1,4,5,6,7,8,9,10,11,12,13,2,3,14,15] ?_;refine ad [[1,0],[1,11],[1,0],[1,1],[1,0],[1,1],[2,70,71]] ?_;refine bT [72] Z (hq:=zm Z Z zi.h (mC _) (ji (i:=a) oQ oQ)) (h:=?_);refine ad [[1,0],[1,11],[2,74,75]] ?_;refine bT [76] Z (hq:=zm Z Z zi.h (mC _) (ji (i:=v) oQ oQ)) (h:=?_);refine ad [[2,66,67]] ?_;refine bR (pend':=[⟨10,[74,75],[]⟩,⟨9,[11],[]⟩,⟨8,[0],[]⟩,⟨3,[1],[]⟩,⟨2,[0],[]⟩]) [73,78] Z Z (zX Z Z zi.h Z Z mQ (jE (k:=v) oQ oQ)) ?_;refine ad [[2,68,69]] ?_;refine bR (pend':=[]) [77,79] Z Z (zX Z Z zi.h Z Z mQ (jF (i:=v) (j:=a) oQ oQ)) ?_;refine ad [[14]] ?_;refine au 355142 ?_;refine bB hret [(j,_)] ?_;exact ⟨_,jbM hd1 hup hdn hlt,rfl,rfl⟩
   have hge:¬ v<u:=by simp at hc2; omega
   refine au 2120 ?_;refine bL [0,1,4,5,6,7,8,9,10,11,12,13,2,3,14,15] ?_;refine ad [[1,0],[1,10],[1,0],[1,11],[1,0],[1,11],[2,85,86]] ?_;refine bT [87] Z (hq:=zm Z Z zi.h (mC _) (ji (i:=v) oQ oQ)) (h:=?_);refine ad [[1,0],[1,10],[2,89,90]] ?_;refine bT [91] Z (hq:=zm Z Z zi.h (mC _) (ji (i:=u) oQ oQ)) (h:=?_);refine ad [[2,81,82]] ?_;refine bR (pend':=[⟨10,[89,90],[]⟩,⟨9,[10],[]⟩,⟨8,[0],[]⟩,⟨3,[11],[]⟩,⟨2,[0],[]⟩]) [88,93] Z Z (zX Z Z zi.h Z Z mQ (jE (k:=u) oQ oQ)) ?_;refine ad [[2,83,84]] ?_;refine bR (pend':=[]) [92,94] Z Z (zX Z Z zi.h Z Z mQ (jF (i:=u) (j:=v) oQ oQ)) ?_;refine ad [[14]] ?_;refine au 13023524014235230142 ?_;refine bA [0,1,10,11] ?_;obtain ⟨u0,hu0e⟩:∃ u0,u0=u:=⟨_,rfl⟩;obtain ⟨v0,hv0e⟩:∃ v0,v0=v:=⟨_,rfl⟩;have hup0:=hup;have hdn0:=hdn;have hge0:=hge;rw [<- hu0e,<- hv0e] at hdn0 hge0;rw [<- hu0e] at hup0;refine bE (fun n1 env K=>∃ (u2 v2:Nat) (d2:Array Int),n1=v2+1 - u2/\a<u2/\u2<=b/\v2<b/\d2.size=n/\partLoop ltInt a u2 v2 d2=partLoop ltInt a (u0+1) (v0 - 1) (swp d1 u0 v0)/\env=.sl j 0 n::intA a::naL 8 (intA u2::intA v2::naL 156 [])/\K=[(j,.row (d2.toList.map intA) 3 1)]) (v - 1+1 - (u+1)) ⟨u+1,v - 1,swp d1 u v,rfl,oQ,oQ,oQ,jG hs1,by rw [hu0e,hv0e],by rw [show (v:Int) - 1=((v - 1:Nat):Int) by omega] <;> rfl,rfl⟩ fun n1 env K hI hnext2=>?_;clear hup hdn hge;obtain ⟨u2,v2,d2,rfl,hau,hub2,hvb2,hs2,heq2,rfl,rfl⟩:=hI;refine bG nQ ?_;refine au 1302130 ?_;refine bA [0,1,10,11] ?_;refine bE (fun n1 env K=>∃ (u:Nat),n1=b - u/\u2<=u/\u<=b/\scanUp (fun x=>ltInt x d2[a]!) d2 (v2) u=scanUp (fun x=>ltInt x d2[a]!) d2 (v2) (u2)/\env=.sl j 0 n::intA a::naL 8 (intA u::intA v2::naL 156 [])/\K=[(j,.row (d2.toList.map intA) 3 1)]) (b - (u2)) ⟨u2,rfl,mL _,oQ,rfl,rfl,rfl⟩ fun n1 env K hI hnextu=>?_;obtain ⟨u,rfl,hu0,hub,heqs,rfl,rfl⟩:=hI;refine bG nQ ?_;refine au 22 ?_;refine' TK.shr (X:=Unit) (D:=fun x=>scanUp (fun x=>ltInt x d2[a]!) d2 (v2) (u2)=u) (E:=fun x=>.sl j 0 n::intA a::naL 8 (intA u::intA v2::naL 156 [])) (KK:=fun x=>[(j,.row (d2.toList.map intA) 3 1)]) ?_ ?_;rotate_left
   ·intro H;refine bL [0,1,2,3,4,5,6,7,8,9,10,11,12,13] ?_;refine ad [[1,10],[1,11],[4,99,100],[1,101]] ?_;refine bW 102 (fun g13_4=>?_) (fun g13_4=>?_)
    ·have hg:u<=v2:=by simp at g13_4; omega
     refine ad [[1,0,102],[1,10,102],[2,102,103,104]] ?_;refine bT [102,105] Z (hq:=zm Z Z zi.h (mC _) (ji (i:=u) oQ oQ)) (h:=?_);refine ad [[1,0,102],[1,1,102],[2,102,107,108]] ?_;refine bT [102,109] Z (hq:=zm Z Z zi.h (mC _) (ji (i:=a) oQ oQ)) (h:=?_);refine bQ (pend':=[⟨10,[102,107,108],[]⟩,⟨9,[1,102],[]⟩,⟨8,[0,102],[]⟩,⟨6,[102,103,104],[]⟩,⟨5,[10,102],[]⟩,⟨4,[0,102],[]⟩,⟨2,[99,100],[]⟩,⟨1,[11],[]⟩,⟨0,[10],[]⟩]) [102,106,110] Z Z Z Z Z (zha hT) (fun r37 K38 h39=>⟨?_,?_⟩)
     ·rcases h39 with ⟨rfl,rfl⟩
      all_goals simp
     obtain ⟨rfl,rfl⟩:=h39;try simp only [cA]
     refine bS tQ ?_;refine ad [[7,102,111],[14]] ?_;refine au 9 ?_;constructor<;>intro hc3
     ·rw [up_go (p:=(fun x=>ltInt x d2[a]!)) hg hc3] at heqs;refine au 1403523014130120 ?_;refine bA [0,1,10,11] ?_;refine bC [(j,_)] ?_;exact hnextu _ _ _ oQ ⟨u+1,rfl,oQ,oQ,heqs,rfl,rfl⟩
     have hfin:scanUp (fun x=>ltInt x d2[a]!) d2 (v2) (u2)=u:=by rw [<- heqs]; exact xd (p:=(fun x=>ltInt x d2[a]!)) (.inr hc3)
     refine au 1302160 ?_;refine bA [0,1,10,11] ?_;refine bA [0,1,10,11] ?_;refine bC [(j,_)] ?_;exact H () hfin
    have hfin:scanUp (fun x=>ltInt x d2[a]!) d2 (v2) (u2)=u:=by rw [<- heqs]; exact xd (.inl (by simp at g13_4; omega))
    refine ad [[11,0,102],[11,10,102],[11,102,103,104],[11,102,105],[11,0,102],[11,1,102],[11,102,107,108],[11,102,109],[11,102,106,110],[6,102,111],[14]] ?_;refine au 1302160190 ?_;refine bA [0,1,10,11] ?_;refine bA [0,1,10,11] ?_;refine bC [(j,_)] ?_;exact H () hfin
   ·rintro _ hup;refine bG nQ ?_;refine bE (fun n1 env K=>∃ (v:Nat),n1=v/\v<=v2/\scanDown (fun x => !ltInt x d2[a]!) d2 u v=scanDown (fun x => !ltInt x d2[a]!) d2 u (v2)/\env=.sl j 0 n::intA a::naL 8 (intA u::intA v::naL 156 [])/\K=[(j,.row (d2.toList.map intA) 3 1)]) (v2) ⟨v2,rfl,mL _,rfl,rfl,rfl⟩ fun n1 env K hI hnextv=>?_;obtain ⟨v,hnv,hvb,heqs,rfl,rfl⟩:=hI;subst n1;refine bG nQ ?_;refine au 22 ?_;refine' TK.shr (X:=Unit) (D:=fun x=>scanDown (fun x => !ltInt x d2[a]!) d2 u (v2)=v) (E:=fun x=>.sl j 0 n::intA a::naL 8 (intA u::intA v::naL 156 [])) (KK:=fun x=>[(j,.row (d2.toList.map intA) 3 1)]) ?_ ?_;rotate_left
    ·intro H;refine bL [0,1,2,3,4,5,6,7,8,9,10,11,12,13,14] ?_;refine ad [[1,10],[1,11],[4,115,116],[1,117]] ?_;refine bW 118 (fun g15_4=>?_) (fun g15_4=>?_)
     ·have hg:u<=v:=by simp at g15_4; omega
      obtain ⟨q,rfl⟩:∃ q,v=q+1:=⟨v - 1,oQ⟩;refine ad [[1,0,118],[1,11,118],[2,118,119,120]] ?_;refine bT [118,121] Z (hq:=zm Z Z zi.h (mC _) (ji (i:=q+1) oQ oQ)) (h:=?_);refine ad [[1,0,118],[1,1,118],[2,118,123,124]] ?_;refine bT [118,125] Z (hq:=zm Z Z zi.h (mC _) (ji (i:=a) oQ oQ)) (h:=?_);refine bQ (pend':=[⟨10,[118,123,124],[]⟩,⟨9,[1,118],[]⟩,⟨8,[0,118],[]⟩,⟨6,[118,119,120],[]⟩,⟨5,[11,118],[]⟩,⟨4,[0,118],[]⟩,⟨2,[115,116],[]⟩,⟨1,[11],[]⟩,⟨0,[10],[]⟩]) [118,122,126] Z Z Z Z Z (zha hT) (fun r43 K44 h45=>⟨?_,?_⟩)
      ·rcases h45 with ⟨rfl,rfl⟩
       all_goals simp
      obtain ⟨rfl,rfl⟩:=h45;try simp only [cA]
      refine bS tQ ?_;refine bU [118,127] Z (q_not Z Z) ?_;refine ad [[7,118,128],[14]] ?_;refine au 9 ?_;constructor<;>intro hc4
      ·rw [xY (p:=(fun x => !ltInt x d2[a]!)) hg hc4] at heqs;refine au 1403524014130120 ?_;refine bA [0,1,10,11] ?_;refine bC [(j,_)] ?_;exact hnextv _ _ _ oQ ⟨q,rfl,oQ,heqs,by rw [show ((q+1:Nat):Int) - 1=(q:Int) by omega]; rfl,rfl⟩
      have hfin:scanDown (fun x => !ltInt x d2[a]!) d2 u (v2)=q+1:=by rw [<- heqs]; exact jN (p:=(fun x => !ltInt x d2[a]!)) (.inr hc4)
      refine au 22160 ?_;refine bA [0,1,10,11] ?_;refine bC [(j,_)] ?_;exact H () hfin
     have hfin:scanDown (fun x => !ltInt x d2[a]!) d2 u (v2)=v:=by rw [<- heqs]; exact jN (.inl (by simp at g15_4; omega))
     refine ad [[11,0,118],[11,11,118],[11,118,119,120],[11,118,121],[11,0,118],[11,1,118],[11,118,123,124],[11,118,125],[11,118,122,126],[11,118,127],[6,118,128],[14]] ?_;refine au 22160190 ?_;refine bA [0,1,10,11] ?_;refine bC [(j,_)] ?_;exact H () hfin
    ·rintro _ hdn;refine bG nQ ?_;refine au 937114 ?_;constructor<;>intro hc5
     ·have hlt:v<u:=by simp at hc5; omega
      refine au 2160 ?_;refine bL [0,1,4,5,6,7,8,9,10,11,12,13,2,3,14,15] ?_;refine ad [[1,0],[1,11],[1,0],[1,1],[1,0],[1,1],[2,157,158]] ?_;refine bT [159] Z (hq:=zm Z Z zi.h (mC _) (ji (i:=a) oQ oQ)) (h:=?_);refine ad [[1,0],[1,11],[2,161,162]] ?_;refine bT [163] Z (hq:=zm Z Z zi.h (mC _) (ji (i:=v) oQ oQ)) (h:=?_);refine ad [[2,153,154]] ?_;refine bR (pend':=[⟨10,[161,162],[]⟩,⟨9,[11],[]⟩,⟨8,[0],[]⟩,⟨3,[1],[]⟩,⟨2,[0],[]⟩]) [160,165] Z Z (zX Z Z zi.h Z Z mQ (jE (k:=v) oQ oQ)) ?_;refine ad [[2,155,156]] ?_;refine bR (pend':=[]) [164,166] Z Z (zX Z Z zi.h Z Z mQ (jF (i:=v) (j:=a) oQ oQ)) ?_;refine ad [[14]] ?_;refine au 355142 ?_;refine bB hret [(j,_)] ?_;exact ⟨_,jbN hd1 hup0 hdn0 hge0 (heq2.symm.trans (jbP hup hdn hlt)),rfl,rfl⟩
     have hge:¬ v<u:=by simp at hc5; omega
     refine au 2120 ?_;refine bL [0,1,4,5,6,7,8,9,10,11,12,13,2,3,14,15] ?_;refine ad [[1,0],[1,10],[1,0],[1,11],[1,0],[1,11],[2,139,140]] ?_;refine bT [141] Z (hq:=zm Z Z zi.h (mC _) (ji (i:=v) oQ oQ)) (h:=?_);refine ad [[1,0],[1,10],[2,143,144]] ?_;refine bT [145] Z (hq:=zm Z Z zi.h (mC _) (ji (i:=u) oQ oQ)) (h:=?_);refine ad [[2,135,136]] ?_;refine bR (pend':=[⟨10,[143,144],[]⟩,⟨9,[10],[]⟩,⟨8,[0],[]⟩,⟨3,[11],[]⟩,⟨2,[0],[]⟩]) [142,147] Z Z (zX Z Z zi.h Z Z mQ (jE (k:=u) oQ oQ)) ?_;refine ad [[2,137,138]] ?_;refine bR (pend':=[]) [146,148] Z Z (zX Z Z zi.h Z Z mQ (jF (i:=u) (j:=v) oQ oQ)) ?_;refine ad [[14]] ?_;refine au 140352401435230142 ?_;refine bA [0,1,10,11] ?_;refine bC [(j,_)] ?_;exact hnext2 _ _ _ oQ ⟨u+1,v - 1,swp d2 u v,rfl,oQ,oQ,oQ,jG hs2,(pl_go hup hdn hge).symm.trans heq2,by rw [show (v:Int) - 1=((v - 1:Nat):Int) by omega] <;> rfl,rfl⟩
theorem jbS {u v:Nat} {d:Array Int} (h:u<v):reverseLoop u v d=reverseLoop (u+1) (v - 1) (swp d u v):=by
 conv=>lhs; unfold reverseLoop
 rw [if_pos h]
theorem jbC {u v:Nat} {d:Array Int} (h:¬ u<v):reverseLoop u v d=d:=by unfold reverseLoop; rw [if_neg h]
theorem jaq {main T} (hT:zo tp main T) {gm} {j n a b pv:Nat} {d:Array Int} (hd:d.size=n) (hn:n<=1000) (ha:a<=pv) (hpv:pv<b) (hb:b<=n) :
  zA tp T gm 195 [.sl j 0 n,intA a,intA b,intA pv] [(j,.row (d.toList.map intA) 3 1)] (fun r K'=>∃ p,partitionEqual ltInt d a b pv=p/\r=intA p.1/\K'=[(j,.row (p.2.toList.map intA) 3 1)]):=by
 refine zp 84 hT Tryz.func195 fun Y hret=>?_;refine au 23542 ?_;refine bL [0,1,4,5,6,7,8,9,10,11,12,13,2,3,14,15] ?_;refine ad [[1,0],[1,1],[1,0],[1,3],[1,0],[1,3],[2,15,16]] ?_;refine bT [17] Z (hq:=zm Z Z zi.h (mC _) (ji (i:=pv) oQ oQ)) (h:=?_);refine ad [[1,0],[1,1],[2,19,20]] ?_;refine bT [21] Z (hq:=zm Z Z zi.h (mC _) (ji (i:=a) oQ oQ)) (h:=?_);refine ad [[2,11,12]] ?_;refine bR (pend':=[⟨10,[19,20],[]⟩,⟨9,[1],[]⟩,⟨8,[0],[]⟩,⟨3,[3],[]⟩,⟨2,[0],[]⟩]) [18,23] Z Z (zX Z Z zi.h Z Z mQ (jE (k:=a) oQ oQ)) ?_;refine ad [[2,13,14]] ?_;refine bR (pend':=[]) [22,24] Z Z (zX Z Z zi.h Z Z mQ (jF (i:=a) (j:=pv) oQ oQ)) ?_;refine ad [[14]] ?_;refine au 13023552401230142 ?_;refine bA [0,1,9,10] ?_;refine bE (fun n1 env K=>∃ (u2 v2:Nat) (d2:Array Int),n1=v2+1 - u2/\a<u2/\u2<=b/\v2<b/\d2.size=n/\partEqLoop ltInt a u2 v2 d2=partitionEqual ltInt d a b pv/\env=.sl j 0 n::intA a::naL 7 (intA u2::intA v2::naL 73 [])/\K=[(j,.row (d2.toList.map intA) 3 1)]) (b - 1+1 - (a+1)) ⟨a+1,b - 1,swp d a pv,rfl,oQ,oQ,oQ,jG hd,rfl,by rw [show (b:Int) - 1=((b - 1:Nat):Int) by omega] <;> rfl,rfl⟩ fun n1 env K hI hnext2=>?_;obtain ⟨u2,v2,d2,rfl,hau,hub2,hvb2,hs2,heq2,rfl,rfl⟩:=hI;refine bG nQ ?_;refine au 1302130 ?_;refine bA [0,1,9,10] ?_;refine bE (fun n1 env K=>∃ (u:Nat),n1=b - u/\u2<=u/\u<=b/\scanUp (fun x => !ltInt d2[a]! x) d2 (v2) u=scanUp (fun x => !ltInt d2[a]! x) d2 (v2) (u2)/\env=.sl j 0 n::intA a::naL 7 (intA u::intA v2::naL 73 [])/\K=[(j,.row (d2.toList.map intA) 3 1)]) (b - (u2)) ⟨u2,rfl,mL _,oQ,rfl,rfl,rfl⟩ fun n1 env K hI hnextu=>?_;obtain ⟨u,rfl,hu0,hub,heqs,rfl,rfl⟩:=hI;refine bG nQ ?_;refine au 22 ?_;refine' TK.shr (X:=Unit) (D:=fun x=>scanUp (fun x => !ltInt d2[a]! x) d2 (v2) (u2)=u) (E:=fun x=>.sl j 0 n::intA a::naL 7 (intA u::intA v2::naL 73 [])) (KK:=fun x=>[(j,.row (d2.toList.map intA) 3 1)]) ?_ ?_;rotate_left
 ·intro H;refine bL [0,1,2,3,4,5,6,7,8,9,10,11,12,13,14] ?_;refine ad [[1,9],[1,10],[4,29,30],[1,31]] ?_;refine bW 32 (fun g3_4=>?_) (fun g3_4=>?_)
  ·have hg:u<=v2:=by simp at g3_4; omega
   refine ad [[1,0,32],[1,1,32],[2,32,33,34]] ?_;refine bT [32,35] Z (hq:=zm Z Z zi.h (mC _) (ji (i:=a) oQ oQ)) (h:=?_);refine ad [[1,0,32],[1,9,32],[2,32,37,38]] ?_;refine bT [32,39] Z (hq:=zm Z Z zi.h (mC _) (ji (i:=u) oQ oQ)) (h:=?_);refine bQ (pend':=[⟨10,[32,37,38],[]⟩,⟨9,[9,32],[]⟩,⟨8,[0,32],[]⟩,⟨6,[32,33,34],[]⟩,⟨5,[1,32],[]⟩,⟨4,[0,32],[]⟩,⟨2,[29,30],[]⟩,⟨1,[10],[]⟩,⟨0,[9],[]⟩]) [32,36,40] Z Z Z Z Z (zha hT) (fun r1 K2 h3=>⟨?_,?_⟩)
   ·rcases h3 with ⟨rfl,rfl⟩
    all_goals simp
   obtain ⟨rfl,rfl⟩:=h3;try simp only [cA]
   refine bS tQ ?_;refine bU [32,41] Z (q_not Z Z) ?_;refine ad [[7,32,42],[14]] ?_;refine au 9 ?_;constructor<;>intro hc0
   ·rw [up_go (p:=(fun x => !ltInt d2[a]! x)) hg hc0] at heqs;refine au 1403523014130120 ?_;refine bA [0,1,9,10] ?_;refine bC [(j,_)] ?_;exact hnextu _ _ _ oQ ⟨u+1,rfl,oQ,oQ,heqs,rfl,rfl⟩
   have hfin:scanUp (fun x => !ltInt d2[a]! x) d2 (v2) (u2)=u:=by rw [<- heqs]; exact xd (p:=(fun x => !ltInt d2[a]! x)) (.inr hc0)
   refine au 1302160 ?_;refine bA [0,1,9,10] ?_;refine bA [0,1,9,10] ?_;refine bC [(j,_)] ?_;exact H () hfin
  have hfin:scanUp (fun x => !ltInt d2[a]! x) d2 (v2) (u2)=u:=by rw [<- heqs]; exact xd (.inl (by simp at g3_4; omega))
  refine ad [[11,0,32],[11,1,32],[11,32,33,34],[11,32,35],[11,0,32],[11,9,32],[11,32,37,38],[11,32,39],[11,32,36,40],[11,32,41],[6,32,42],[14]] ?_;refine au 1302160190 ?_;refine bA [0,1,9,10] ?_;refine bA [0,1,9,10] ?_;refine bC [(j,_)] ?_;exact H () hfin
 ·rintro _ hup;refine bG nQ ?_;refine bE (fun n1 env K=>∃ (v:Nat),n1=v/\v<=v2/\scanDown (fun x=>ltInt d2[a]! x) d2 u v=scanDown (fun x=>ltInt d2[a]! x) d2 u (v2)/\env=.sl j 0 n::intA a::naL 7 (intA u::intA v::naL 73 [])/\K=[(j,.row (d2.toList.map intA) 3 1)]) (v2) ⟨v2,rfl,mL _,rfl,rfl,rfl⟩ fun n1 env K hI hnextv=>?_;obtain ⟨v,hnv,hvb,heqs,rfl,rfl⟩:=hI;subst n1;refine bG nQ ?_;refine au 22 ?_;refine' TK.shr (X:=Unit) (D:=fun x=>scanDown (fun x=>ltInt d2[a]! x) d2 u (v2)=v) (E:=fun x=>.sl j 0 n::intA a::naL 7 (intA u::intA v::naL 73 [])) (KK:=fun x=>[(j,.row (d2.toList.map intA) 3 1)]) ?_ ?_;rotate_left
  ·intro H;refine bL [0,1,2,3,4,5,6,7,8,9,10,11,12,13] ?_;refine ad [[1,9],[1,10],[4,46,47],[1,48]] ?_;refine bW 49 (fun g5_4=>?_) (fun g5_4=>?_)
   ·have hg:u<=v:=by simp at g5_4; omega
    obtain ⟨q,rfl⟩:∃ q,v=q+1:=⟨v - 1,oQ⟩;refine ad [[1,0,49],[1,1,49],[2,49,50,51]] ?_;refine bT [49,52] Z (hq:=zm Z Z zi.h (mC _) (ji (i:=a) oQ oQ)) (h:=?_);refine ad [[1,0,49],[1,10,49],[2,49,54,55]] ?_;refine bT [49,56] Z (hq:=zm Z Z zi.h (mC _) (ji (i:=q+1) oQ oQ)) (h:=?_);refine bQ (pend':=[⟨10,[49,54,55],[]⟩,⟨9,[10,49],[]⟩,⟨8,[0,49],[]⟩,⟨6,[49,50,51],[]⟩,⟨5,[1,49],[]⟩,⟨4,[0,49],[]⟩,⟨2,[46,47],[]⟩,⟨1,[10],[]⟩,⟨0,[9],[]⟩]) [49,53,57] Z Z Z Z Z (zha hT) (fun r7 K8 h9=>⟨?_,?_⟩)
    ·rcases h9 with ⟨rfl,rfl⟩
     all_goals simp
    obtain ⟨rfl,rfl⟩:=h9;try simp only [cA]
    refine bS tQ ?_;refine ad [[7,49,58],[14]] ?_;refine au 9 ?_;constructor<;>intro hc1
    ·rw [xY (p:=(fun x=>ltInt d2[a]! x)) hg hc1] at heqs;refine au 1403524014130120 ?_;refine bA [0,1,9,10] ?_;refine bC [(j,_)] ?_;exact hnextv _ _ _ oQ ⟨q,rfl,oQ,heqs,by rw [show ((q+1:Nat):Int) - 1=(q:Int) by omega]; rfl,rfl⟩
    have hfin:scanDown (fun x=>ltInt d2[a]! x) d2 u (v2)=q+1:=by rw [<- heqs]; exact jN (p:=(fun x=>ltInt d2[a]! x)) (.inr hc1)
    refine au 22160 ?_;refine bA [0,1,9,10] ?_;refine bC [(j,_)] ?_;exact H () hfin
   have hfin:scanDown (fun x=>ltInt d2[a]! x) d2 u (v2)=v:=by rw [<- heqs]; exact jN (.inl (by simp at g5_4; omega))
   refine ad [[11,0,49],[11,1,49],[11,49,50,51],[11,49,52],[11,0,49],[11,10,49],[11,49,54,55],[11,49,56],[11,49,53,57],[6,49,58],[14]] ?_;refine au 22160190 ?_;refine bA [0,1,9,10] ?_;refine bC [(j,_)] ?_;exact H () hfin
  ·rintro _ hdn;refine bG nQ ?_;refine au 937114 ?_;constructor<;>intro hc2
   ·have hlt:v<u:=by simp at hc2; omega
    refine au 35142160 ?_;refine bB hret [(j,_)] ?_;exact ⟨_,heq2.symm.trans (jbO hup hdn hlt),rfl,rfl⟩
   have hge:¬ v<u:=by simp at hc2; omega
   refine au 2120 ?_;refine bL [0,1,4,5,6,7,8,9,10,11,12,13,2,3,14,15] ?_;refine ad [[1,0],[1,9],[1,0],[1,10],[1,0],[1,10],[2,69,70]] ?_;refine bT [71] Z (hq:=zm Z Z zi.h (mC _) (ji (i:=v) oQ oQ)) (h:=?_);refine ad [[1,0],[1,9],[2,73,74]] ?_;refine bT [75] Z (hq:=zm Z Z zi.h (mC _) (ji (i:=u) oQ oQ)) (h:=?_);refine ad [[2,65,66]] ?_;refine bR (pend':=[⟨10,[73,74],[]⟩,⟨9,[9],[]⟩,⟨8,[0],[]⟩,⟨3,[10],[]⟩,⟨2,[0],[]⟩]) [72,77] Z Z (zX Z Z zi.h Z Z mQ (jE (k:=u) oQ oQ)) ?_;refine ad [[2,67,68]] ?_;refine bR (pend':=[]) [76,78] Z Z (zX Z Z zi.h Z Z mQ (jF (i:=u) (j:=v) oQ oQ)) ?_;refine ad [[14]] ?_;refine au 140352401435230142 ?_;refine bA [0,1,9,10] ?_;refine bC [(j,_)] ?_;exact hnext2 _ _ _ oQ ⟨u+1,v - 1,swp d2 u v,rfl,oQ,oQ,oQ,jG hs2,(pe_go hup hdn hge).symm.trans heq2,by rw [show (v:Int) - 1=((v - 1:Nat):Int) by omega] <;> rfl,rfl⟩
theorem jbB {main T} (hT:zo tp main T) {gm} {j n a b:Nat} {d:Array Int} (hd:d.size=n) (hn:n<=1000) (hab:a<b) (hb:b<=n) :
  zA tp T gm 192 [.sl j 0 n,intA a,intA b] [(j,.row (d.toList.map intA) 3 1)] (fun r K'=>K'=[(j,.row ((reverseRange d a b).toList.map intA) 3 1)]):=by
 refine zp 32 hT Tryz.func192 fun Y hret=>?_;refine au 1303524014235142 ?_;refine bA [0,6,7] ?_;refine bE (fun n1 env K=>∃ (u v:Nat) (d1:Array Int),n1=v - u/\u<=b/\v<b/\d1.size=n/\reverseLoop u v d1=reverseRange d a b/\env=.sl j 0 n::naL 5 (intA u::intA v::naL 24 [])/\K=[(j,.row (d1.toList.map intA) 3 1)]) (b - 1 - a) ⟨a,b - 1,d,rfl,oQ,oQ,hd,rfl,by rw [show (b:Int) - 1=((b - 1:Nat):Int) by omega] <;> rfl,rfl⟩ fun n1 env K hI hnext=>?_;obtain ⟨u,v,d1,rfl,hub,hvb,hs1,heq,rfl,rfl⟩:=hI;refine bG nQ ?_;refine au 93711422 ?_;constructor<;>intro hc0
 ·have hlt:u<v:=by simp at hc0; omega
  rw [jbS hlt] at heq;refine au 2130120 ?_;refine bL [0,1,4,5,6,7,8,9,10,11,12,13,2,3,14,15] ?_;refine ad [[1,0],[1,6],[1,0],[1,7],[1,0],[1,7],[2,18,19]] ?_;refine bT [20] Z (hq:=zm Z Z zi.h (mC _) (ji (i:=v) oQ oQ)) (h:=?_);refine ad [[1,0],[1,6],[2,22,23]] ?_;refine bT [24] Z (hq:=zm Z Z zi.h (mC _) (ji (i:=u) oQ oQ)) (h:=?_);refine ad [[2,14,15]] ?_;refine bR (pend':=[⟨10,[22,23],[]⟩,⟨9,[6],[]⟩,⟨8,[0],[]⟩,⟨3,[7],[]⟩,⟨2,[0],[]⟩]) [21,26] Z Z (zX Z Z zi.h Z Z mQ (jE (k:=u) oQ oQ)) ?_;refine ad [[2,16,17]] ?_;refine bR (pend':=[]) [25,27] Z Z (zX Z Z zi.h Z Z mQ (jF (i:=u) (j:=v) oQ oQ)) ?_;refine ad [[14]] ?_;refine au 140352401435230142 ?_;refine bA [0,6,7] ?_;refine bC [(j,_)] ?_;exact hnext _ _ _ oQ ⟨u+1,v - 1,swp d1 u v,rfl,oQ,oQ,jG hs1,heq,by rw [show (v:Int) - 1=((v - 1:Nat):Int) by omega] <;> rfl,rfl⟩
 have hlt:¬ u<v:=by simp at hc0; omega
 refine au 160 ?_;refine TK.rt0 hret [(j,_)] ?_;rw [<- heq]; rw [jbC hlt]
instance:Cal tp 222:={}
instance:Cal tp 233:={}
theorem xi {main T} (hT:zo tp main T) {gm} {j js n a b:Nat} {d:Array Int} {sw:Int} (hd:d.size=n) (hn:n<=1000) (ha:a<n) (hb:b<n) (hsw:0<=sw/\sw<=1000) :
  zA tp T gm 233 [.sl j 0 n,intA a,intA b,.ptr js 0] [(j,.row (d.toList.map intA) 3 1),(js,.cells [intA sw] 3 true)] (fun r K'=>∃ (x y:Nat) (sw':Int),((x=a/\y=b)\/(x=b/\y=a))/\0<=sw'/\sw'<=sw+1/\r=.tup [intA x,intA y]/\K'=[(j,.row (d.toList.map intA) 3 1),(js,.cells [intA sw'] 3 true)]):=by
 refine zp 28 hT Tryz.func233 fun Y hret=>?_;refine au 2235542 ?_;refine bL [0,1,2,3,4,5,6,7,8] ?_;refine ad [[1,0],[1,2],[2,10,11]] ?_;refine bT [12] Z (hq:=zm Z Z zi.h (mC _) (ji (i:=b) oQ oQ)) (h:=?_);refine ad [[1,0],[1,1],[2,14,15]] ?_;refine bT [16] Z (hq:=zm Z Z zi.h (mC _) (ji (i:=a) oQ oQ)) (h:=?_);refine bQ (pend':=[⟨6,[14,15],[]⟩,⟨5,[1],[]⟩,⟨4,[0],[]⟩,⟨2,[10,11],[]⟩,⟨1,[2],[]⟩,⟨0,[0],[]⟩]) [13,17] Z Z Z Z Z (zha hT) (fun r1 K2 h3=>⟨?_,?_⟩)
 ·rcases h3 with ⟨rfl,rfl⟩
  all_goals simp
 obtain ⟨rfl,rfl⟩:=h3;try simp only [cA]
 refine bS tQ ?_;refine ad [[14]] ?_;refine au 9 ?_;constructor<;>intro hc0
 ·refine au 142 ?_;refine bH Z (kf Z Z) ?_;refine au 230690 ?_;refine bH Z (kf Z Z) ?_;refine au 35511423170 ?_;refine bB hret [(j,_),(js,_)] ?_;exact ⟨_,_,_,.inr ⟨rfl,rfl⟩,oQ,oQ,rfl,rfl⟩
 refine au 3551142120 ?_;refine bB hret [(j,_),(js,_)] ?_;exact ⟨_,_,_,.inl ⟨rfl,rfl⟩,oQ,oQ,rfl,rfl⟩
theorem xh {main T} (hT:zo tp main T) {gm} {j js n a b c:Nat} {d:Array Int} {sw:Int} (hd:d.size=n) (hn:n<=1000) (ha:a<n) (hb:b<n) (hc:c<n) (hsw:0<=sw/\sw<=900) :
  zA tp T gm 222 [.sl j 0 n,intA a,intA b,intA c,.ptr js 0] [(j,.row (d.toList.map intA) 3 1),(js,.cells [intA sw] 3 true)] (fun r K'=>∃ (x:Nat) (sw':Int),(x=a\/x=b\/x=c)/\0<=sw'/\sw'<=sw+3/\r=intA x/\K'=[(j,.row (d.toList.map intA) 3 1),(js,.cells [intA sw'] 3 true)]):=by
 refine zp 36 hT Tryz.func222 fun Y hret=>?_;refine au 1111423542 ?_;refine bD Z Z Z Z (xi hT (sw:=sw) hd hn oQ oQ oQ) ?_;rintro r1 K2 ⟨x1,y1,q1,hx1,hq11,hq12,rfl,rfl⟩;refine au 111142355661 ?_;refine bD Z Z Z Z (xi hT (sw:=q1) hd hn oQ oQ oQ) ?_;rintro r4 K5 ⟨x2,y2,q2,hx2,hq21,hq22,rfl,rfl⟩;refine au 111142355661 ?_;refine bD Z Z Z Z (xi hT (sw:=q2) hd hn oQ oQ oQ) ?_;rintro r7 K8 ⟨x3,y3,q3,hx3,hq31,hq32,rfl,rfl⟩;refine au 35142355661 ?_;refine bB hret [(j,_),(js,_)] ?_;exact ⟨_,_,oQ,oQ,oQ,rfl,rfl⟩
theorem jS {main T} (hT:zo tp main T) {gm} {j js n a:Nat} {d:Array Int} {sw:Int} (hd:d.size=n) (hn:n<=1000) (h1:1<=a) (ha:a+1<n) (hsw:0<=sw/\sw<=900) :
  zA tp T gm 221 [.sl j 0 n,intA a,.ptr js 0] [(j,.row (d.toList.map intA) 3 1),(js,.cells [intA sw] 3 true)] (fun r K'=>∃ (x:Nat) (sw':Int),a<=x+1/\x<=a+1/\0<=sw'/\sw'<=sw+3/\r=intA x/\K'=[(j,.row (d.toList.map intA) 3 1),(js,.cells [intA sw'] 3 true)]):=by
 refine zp 15 hT Tryz.func221 fun Y hret=>?_;refine au 23542 ?_;obtain ⟨p,rfl⟩:∃ p,a=p+1:=⟨a - 1,oQ⟩;refine au 240114 ?_;rw [show ((p+1:Nat):Int) - 1=(p:Int) by omega];refine au 123011 ?_;refine bD Z Z Z Z (xh hT (sw:=sw) (a:=p) (b:=p+1) (c:=p+1+1) hd hn oQ oQ oQ oQ) ?_;rintro r1 K2 ⟨x,q,hx,hq1,hq2,rfl,rfl⟩;refine au 35 ?_;refine bB hret [(j,_),(js,_)] ?_;exact ⟨_,_,oQ,oQ,oQ,oQ,rfl,rfl⟩
end Go.Vel
namespace Go.Vel
open Go Go.Conc Go.Proofs
theorem qS {n:Int} (h:0<=n/\n<18446744073709551616):IntKind.u64.wrap n=n:=by
 unfold IntKind.wrap;simp only [show IntKind.u64.bits=64 from rfl,show IntKind.u64.signed=false from rfl,Bool.false_and];split <;> rename_i h1 <;> first | (exact absurd h1 dQ) | omega
theorem jbV (x:Int):0<=IntKind.u64.wrap x/\IntKind.u64.wrap x<18446744073709551616:=by
 unfold IntKind.wrap;simp only [show IntKind.u64.bits=64 from rfl,show IntKind.u64.signed=false from rfl,Bool.false_and];split <;> rename_i h1 <;> first | (exact absurd h1 dQ) | omega
def xorW (a b:Int):Int:=IntKind.u64.wrap ((BitVec.ofInt 64 a ^^^ BitVec.ofInt 64 b).toNat:Int)
def andW (a b:Int):Int:=IntKind.u64.wrap ((BitVec.ofInt 64 a &&& BitVec.ofInt 64 b).toNat:Int)
theorem jao (a b:Int):0<=xorW a b/\xorW a b<18446744073709551616:=jbV _
theorem jbi (a:Int) {b:Nat} (hb:b<1000):0<=andW a b/\andW a b<=b:=by
 have h1:(BitVec.ofInt 64 (b:Int)).toNat=b:=by
  rw [BitVec.toNat_ofInt];omega
 have h2:(BitVec.ofInt 64 a &&& BitVec.ofInt 64 (b:Int)).toNat<=b:=by
  rw [BitVec.toNat_and,h1];exact Nat.and_le_right
 unfold andW;rw [qS oQ];omega
section
variable {P:Program} {gm:Nat->Option Nat} {V:KV} {env:List AV} {o:Oper}
theorem qa {t yt:TypeId} {x y:Operand} {a b:Int} (ho:o.op=.binOp .xor t x y yt) (hx:zn gm env x=some (.v (.int .u64 a))) (hy:zn gm env y=some (.v (.int .u64 b))):Qk P gm env V o (.v (.int .u64 (xorW a b))):=wz ho hx hy rfl
theorem jby {t yt:TypeId} {x y:Operand} {a b:Int} (ho:o.op=.binOp .and t x y yt) (hx:zn gm env x=some (.v (.int .u64 a))) (hy:zn gm env y=some (.v (.int .u64 b))):Qk P gm env V o (.v (.int .u64 (andW a b))):=wz ho hx hy rfl
theorem jbA {t yt:TypeId} {x y:Operand} {a b:Int} (ho:o.op=.binOp .sub t x y yt) (hx:zn gm env x=some (.v (.int .u64 a))) (hy:zn gm env y=some (.v (.int .u64 b))) (h:0<=a - b/\a - b<18446744073709551616):Qk P gm env V o (.v (.int .u64 (a - b))):=by
 refine wz ho hx hy ?_;show some (Value.int .u64 (IntKind.u64.wrap (a - b)))=_;rw [qS h]
theorem jbz {t yt:TypeId} {x y:Operand} {k':IntKind} {a b:Int} (ho:o.op=.binOp .shr t x y yt) (hx:zn gm env x=some (.v (.int .u64 a))) (hy:zn gm env y=some (.v (.int k' b))) (h0:0<=b):Qk P gm env V o (.v (.int .u64 (a.fdiv (2 ^ min b.toNat 64)))):=fun A _=>by
 refine vr ho (by rw [zx hx]; rfl) (by rw [zx hy]; rfl) ?_;rw [zab];show zR P (Op.shift .shr .u64 a k' b)=_;unfold Op.shift;rw [if_neg oQ];rfl
end
theorem jbo {s:ByteArray} {n:Nat} (hn:n<256) (h:n<s.size) (hall:(List.range 256).all (fun k=>match s[k]? with | some c=>decide (c.toNat<=8/\(k=0\/2 ^ c.toNat<=2*k)) | none=>true)=true):∃ m:Nat,intA (0+((s[n]'h).toNat:Int))=intA m/\m<=8/\(n=0\/2 ^ m<=2*n)/\([]:KV)=[]:=by
 have h1:=List.all_eq_true.1 hall n (List.mem_range.2 hn);rw [getElem?_pos s n h] at h1;have h2:=of_decide_eq_true h1;exact ⟨(s[n]'h).toNat,by rw [Int.zero_add],h2.1,h2.2,rfl⟩
theorem jbE {m:Nat} (hm:m<=8):IntKind.u64.wrap (1*2 ^ ((m:Nat):Int).toNat)=((2 ^ m:Nat):Int):=by
 have:m=0\/m=1\/m=2\/m=3\/m=4\/m=5\/m=6\/m=7\/m=8:=by omega
 rcases this with rfl | rfl | rfl | rfl | rfl | rfl | rfl | rfl | rfl <;> decide
end Go.Vel
namespace Go.Vel
open Go Go.Conc Go.Proofs
open Go.Sort
instance:Cal tp 221:={}
instance:zi tp 263 false 1:={}
instance:TyZA tp 3 [.v (.int .i64 0)]:={}
theorem jbx {main T} (hT:zo tp main T) {gm} {j n a b:Nat} {d:Array Int} (hd:d.size=n) (hn:n<=1000) (hab:a<b) (hb:b<=n) :
  zA tp T gm 191 [.sl j 0 n,intA a,intA b] [(j,.row (d.toList.map intA) 3 1)] (fun r K'=>∃ (p:Nat) (hh:Int),a<=p/\p<b/\r=.tup [intA p,intA hh]/\K'=[(j,.row (d.toList.map intA) 3 1)]):=by
 refine zp 57 hT Tryz.func191 fun Y hret=>?_;refine au 235240114235542 ?_;rw [show (b:Int) - (a:Int)=((b - a:Nat):Int) by omega];refine au 2204 ?_;intro js hjs;refine au 11423 ?_;refine bH Z (jU Z Z Z oQ oQ oQ) ?_;refine bH Z (q_mul Z Z Z oQ) ?_;refine au 114235230 ?_;refine bH Z (jU Z Z Z oQ oQ oQ) ?_;refine bH Z (q_mul Z Z Z oQ) ?_;refine au 114235230 ?_;refine bH Z (jU Z Z Z oQ oQ oQ) ?_;refine bH Z (q_mul Z Z Z oQ) ?_;refine au 2235230 ?_;obtain ⟨I,hI⟩:∃ I:Nat,I=a+(b - a) / 4:=⟨_,rfl⟩;obtain ⟨J,hJ⟩:∃ J:Nat,J=a+(b - a) / 4*2:=⟨_,rfl⟩;obtain ⟨L,hL⟩:∃ L:Nat,L=a+(b - a) / 4*3:=⟨_,rfl⟩;refine' TK.shr (X:=Nat×Int) (D:=fun x=>a<=x.1/\x.1<b) (E:=fun x=>naL 9 (.ptr js 0::.any::intA x.1::naL 45 [])) (KK:=fun x=>[(j,.row (d.toList.map intA) 3 1),(js,.cells [intA x.2] 3 true)]) ?_ ?_;rotate_left
 ·intro H;rw [show (a:Int)+((b - a:Nat):Int) / 4*1=(I:Int) by omega,show (a:Int)+((b - a:Nat):Int) / 4*2=(J:Int) by omega,show (a:Int)+((b - a:Nat):Int) / 4*3=(L:Int) by omega];refine au 93714 ?_;constructor<;>intro hc0
  ·have h8:8<=b - a:=by simp at hc0; omega
   refine au 9371422 ?_;constructor<;>intro hc1
   ·have h50:50<=b - a:=by simp at hc1; omega
    refine au 1142 ?_;refine bD Z Z Z Z (jS hT (sw:=0) (a:=I) hd hn oQ oQ oQ) ?_;rintro r1 K2 ⟨x1,q1,hx11,hx12,hx13,hx14,rfl,rfl⟩;refine au 114235 ?_;refine bD Z Z Z Z (jS hT (sw:=q1) (a:=J) hd hn oQ oQ oQ) ?_;rintro r4 K5 ⟨x2,q2,hx21,hx22,hx23,hx24,rfl,rfl⟩;refine au 11435 ?_;refine bD Z Z Z Z (jS hT (sw:=q2) (a:=L) hd hn oQ oQ oQ) ?_;rintro r7 K8 ⟨x3,q3,hx31,hx32,hx33,hx34,rfl,rfl⟩;refine au 1111435 ?_;refine bD Z Z Z Z (xh hT (sw:=q3) (a:=x1) (b:=x2) (c:=x3) hd hn oQ oQ oQ oQ) ?_;rintro r10 K11 ⟨x4,q4,hx4,hx42,hx43,rfl,rfl⟩;refine au 235 ?_;refine bA [9,11] ?_;refine bC [(j,_),(js,_)] ?_;exact H (x4,q4) ⟨by omega,oQ⟩
   refine au 11114120 ?_;refine bD Z Z Z Z (xh hT (sw:=0) (a:=I) (b:=J) (c:=L) hd hn oQ oQ oQ oQ) ?_;rintro r13 K14 ⟨x4,q4,hx4,hx42,hx43,rfl,rfl⟩;refine au 235 ?_;refine bA [9,11] ?_;refine bC [(j,_),(js,_)] ?_;exact H (x4,q4) ⟨by omega,oQ⟩
  refine au 2120 ?_;refine bA [9,11] ?_;refine bC [(j,_),(js,_)] ?_;exact H (J,0) ⟨by omega,oQ⟩
 ·rintro ⟨p,sw⟩ ⟨hp1,hp2⟩; dsimp only at hp1 hp2 ⊢;refine bG nQ ?_;refine au 93574213036904 ?_;constructor<;>intro hc2
  ·refine au 355142 ?_;refine bB hret [(j,_)] ?_;exact ⟨p,_,hp1,hp2,rfl,rfl⟩
  refine au 935742 ?_;constructor<;>intro hc3
  ·refine au 355142 ?_;refine bB hret [(j,_)] ?_;exact ⟨p,_,hp1,hp2,rfl,rfl⟩
  refine au 355142 ?_;refine bB hret [(j,_)] ?_;exact ⟨p,_,hp1,hp2,rfl,rfl⟩
theorem jaD {main T} (hT:zo tp main T) {gm} {n:Nat} (hn:n<256) :
  zA tp T gm 198 [.v (.int .u64 n)] [] (fun r K'=>∃ m:Nat,r=intA m/\m<=8/\(n=0\/2 ^ m<=2*n)/\K'=[]):=by
 refine zp 25 hT Tryz.func198 fun Y hret=>?_;refine au 93714223542 ?_;constructor<;>intro hc0
 ·simp at hc0; omega
 refine au 9371422120 ?_;constructor<;>intro hc1
 ·simp at hc1; omega
 refine au 9371422120 ?_;constructor<;>intro hc2
 ·simp at hc2; omega
 refine au 1142120 ?_;refine bH Z (yV Z Z Und.h Und.h (zgE hn)) ?_;refine bH Z (zeu Z Z Z Und.h oQ (zhL hn Z)) ?_;refine bH Z (yV Z Z Und.h Und.h (zfC _)) ?_;refine bH Z (q_add Z Z Z (zfH _)) ?_;refine au 35 ?_;refine TK.rta hret ?_;exact jbo hn _ (by decide +kernel)
theorem xD {main T} (hT:zo tp main T) {gm} {n:Nat} (hn:n<256) :
  zA tp T gm 161 [.v (.int .u64 n)] [] (fun r K'=>∃ m:Nat,r=intA m/\m<=8/\(n=0\/2 ^ m<=2*n)/\K'=[]):=by
 refine zp 8 hT Tryz.func161 fun Y hret=>?_;refine au 14212019023542 ?_;refine bD Z Z Z Z (jaD hT hn) ?_;rintro r1 K2 ⟨m,rfl,hm8,hm2,rfl⟩;refine au 35 ?_;refine TK.rta hret ?_;exact ⟨m,rfl,hm8,hm2,rfl⟩
theorem jaW {main T} (hT:zo tp main T) {gm} {n:Nat} (hn:n<256) (h1:1<=n) :
  zA tp T gm 219 [intA n] [] (fun r K'=>∃ M:Nat,1<=M/\M<=2*n/\r=.v (.int .u64 (M:Int))/\K'=[]):=by
 refine zp 7 hT Tryz.func219 fun Y hret=>?_;refine au 1423542 ?_;refine bH Z (yV Z Z Und.h Und.h (zb0 (n:=n) oQ)) ?_;refine bD Z Z Z Z (xD hT (n:=n) hn) ?_;rintro r1 K2 ⟨m,rfl,hm8,hm2,rfl⟩;refine au 0 ?_;refine bH Z (q_shL Z Z Z ⟨by omega,by show ((m:Nat):Int)<=64; omega⟩ (r:=((2 ^ m:Nat):Int)) (jbE hm8)) ?_;refine au 35 ?_;refine TK.rta hret ?_;exact ⟨2 ^ m,Nat.two_pow_pos _,oQ,rfl,rfl⟩
theorem jaV {main T} (hT:zo tp main T) {gm} {jx:Nat} {x:Int} :
  zA tp T gm 220 [.ptr jx 0] [(jx,.cells [.v (.int .u64 x)] 263 true)] (fun r K'=>∃ y:Int,0<=y/\y<18446744073709551616/\r=.v (.int .u64 y)/\K'=[(jx,.cells [.v (.int .u64 y)] 263 true)]):=by
 refine zp 33 hT Tryz.func220 fun Y hret=>?_;refine au 23542 ?_;refine bL [0,1,2,3,4,5,6,7,8,9] ?_;refine ad [[1,0]] ?_;refine bU [3] Z (kf Z Z) ?_;refine ad [[10,4],[1,0]] ?_;refine bU [6] Z (kf Z Z) ?_;refine ad [[10,7]] ?_;refine bU [8] Z (q_shL Z Z Z ⟨by decide,by decide⟩ rfl) ?_;refine bU [5,9] Z (qa Z Z Z) ?_;refine bU [3] Z (kf Z Z) ?_;refine bR (pend':=[]) [10,11] Z Z (zX Z Z zi.h Z Z mQ Z) ?_;refine ad [[14]] ?_;refine au 2 ?_;refine bL [0,1,2,3,4,5,6,7,8,9] ?_;refine ad [[1,0]] ?_;refine bU [12] Z (kf Z Z) ?_;refine ad [[10,13],[1,0]] ?_;refine bU [15] Z (kf Z Z) ?_;refine ad [[10,16]] ?_;refine bU [17] Z (jbz Z Z Z dQ) ?_;refine bU [14,18] Z (qa Z Z Z) ?_;refine bU [12] Z (kf Z Z) ?_;refine bR (pend':=[]) [19,20] Z Z (zX Z Z zi.h Z Z mQ Z) ?_;refine ad [[14]] ?_;refine au 2 ?_;refine bL [0,1,2,3,4,5,6,7,8,9] ?_;refine ad [[1,0]] ?_;refine bU [21] Z (kf Z Z) ?_;refine ad [[10,22],[1,0]] ?_;refine bU [24] Z (kf Z Z) ?_;refine ad [[10,25]] ?_;refine bU [26] Z (q_shL Z Z Z ⟨by decide,by decide⟩ rfl) ?_;refine bU [23,27] Z (qa Z Z Z) ?_;refine bU [21] Z (kf Z Z) ?_;refine bR (pend':=[]) [28,29] Z Z (zX Z Z zi.h Z Z mQ Z) ?_;refine ad [[14]] ?_;refine au 142 ?_;refine bH Z (kf Z Z) ?_;refine au 35690 ?_;refine bB hret [(jx,_)] ?_;exact ⟨_,(jao _ _).1,(jao _ _).2,rfl,rfl⟩
end Go.Vel
namespace Go.Vel
open Go Go.Conc Go.Sort
section
variable {a b i u v q s:Nat} {d d2 d3 d4:Array Int}
theorem ss_go (h:u<b) (hl:(!ltInt d[u]! d[u - 1]!)=true):scanSorted ltInt d b u=scanSorted ltInt d b (u+1):=by
 conv=>lhs; unfold scanSorted
 rw [if_pos (by rw [hl]; simp [h])]
theorem jaL (h:¬ u<b\/(!ltInt d[u]! d[u - 1]!)=false):scanSorted ltInt d b u=u:=by
 unfold scanSorted;rw [if_neg (by rcases h with h | h <;> simp [h])]
theorem sd_go (hl:(!ltInt d[q+1]! d[q]!)=false):shiftDown ltInt (q+1) d=shiftDown ltInt q (swp d (q+1) q):=by
 conv=>lhs; unfold shiftDown
 rw [if_neg (by rw [hl]; decide)]
theorem jbD (hl:(!ltInt d[q+1]! d[q]!)=true):shiftDown ltInt (q+1) d=d:=by
 unfold shiftDown;rw [if_pos hl]
theorem su_go (h:v<b) (hl:(!ltInt d[v]! d[v - 1]!)=false):shiftUp ltInt b v d=shiftUp ltInt b (v+1) (swp d v (v - 1)):=by
 conv=>lhs; unfold shiftUp
 rw [if_pos h,if_neg (by rw [hl]; decide)]
theorem jbG (h:v<b) (hl:(!ltInt d[v]! d[v - 1]!)=true):shiftUp ltInt b v d=d:=by
 unfold shiftUp;rw [if_pos h,if_pos hl]
theorem jbU (h:¬ v<b):shiftUp ltInt b v d=d:=by
 unfold shiftUp;rw [if_neg h]
theorem pi_T (hs:scanSorted ltInt d b i=u) (h:u=b):partialIns ltInt a b (s+1) i d=(d,true):=by
 unfold partialIns;simp only [];rw [hs,if_pos h]
theorem pi_F (hs:scanSorted ltInt d b i=u) (h:¬ u=b) (h2:b - a<50):partialIns ltInt a b (s+1) i d=(d,false):=by
 unfold partialIns;simp only [];rw [hs,if_neg h,if_pos h2]
theorem pi_go (hs:scanSorted ltInt d b i=u) (h:¬ u=b) (h2:¬ b - a<50) (h3:d3=if u - a>=2 then shiftDown ltInt (u - 1) (swp d u (u - 1)) else swp d u (u - 1)) (h4:d4=if b - u>=2 then shiftUp ltInt b (u+1) d3 else d3):partialIns ltInt a b (s+1) i d=partialIns ltInt a b s u d4:=by
 conv=>lhs; unfold partialIns
 simp only [];rw [hs,if_neg h,if_neg h2,h4,h3]
end
end Go.Vel
namespace Go.Vel
open Go Go.Conc Go.Proofs
open Go.Sort
theorem jbv {main T} (hT:zo tp main T) {gm} {j n a b:Nat} {d:Array Int} (hd:d.size=n) (hn:n<=1000) (hab:a<b) (hb:b<=n) :
  zA tp T gm 193 [.sl j 0 n,intA a,intA b] [(j,.row (d.toList.map intA) 3 1)] (fun r K'=>∃ q,partialInsertionSort ltInt d a b=q/\r=zP q.2/\K'=[(j,.row (q.1.toList.map intA) 3 1)]):=by
 refine zp 133 hT Tryz.func193 fun Y hret=>?_;refine au 13035422352301423542 ?_;refine bA [0,1,2,7,8] ?_;refine bE (fun n1 env K=>∃ (s i:Nat) (d1:Array Int),n1=s/\s<=5/\a<i/\i<=b/\d1.size=n/\partialIns ltInt a b s i d1=partialInsertionSort ltInt d a b/\env=.sl j 0 n::intA a::intA b::naL 4 (intA i::intA (5 - (s:Int))::naL 124 [])/\K=[(j,.row (d1.toList.map intA) 3 1)]) 5 ⟨5,a+1,d,rfl,mL _,oQ,oQ,hd,rfl,rfl,rfl⟩ fun n1 env K hI hnext=>?_;obtain ⟨s1,i,d1,hn1,hs5,hai,hib,hs1,heq,rfl,rfl⟩:=hI;subst n1;refine bG nQ ?_;refine au 9371422 ?_;constructor<;>intro hc0
 ·obtain ⟨s,rfl⟩:∃ s,s1=s+1:=⟨s1 - 1,by simp at hc0; omega⟩;refine au 13021302120 ?_;refine bA [0,1,2,7,8] ?_;refine bE (fun n1 env K=>∃ (u:Nat),n1=b - u/\i<=u/\u<=b/\scanSorted ltInt d1 b u=scanSorted ltInt d1 b i/\env=.sl j 0 n::intA a::intA b::naL 4 (intA u::intA (5 - ((s+1:Nat):Int))::naL 124 [])/\K=[(j,.row (d1.toList.map intA) 3 1)]) (b - i) ⟨i,rfl,mL _,hib,rfl,rfl,rfl⟩ fun n1 env K hI hnext1=>?_;obtain ⟨u,rfl,hiu,hub,heqs,rfl,rfl⟩:=hI;refine bG nQ ?_;refine au 22 ?_;refine' TK.shr (X:=Unit) (D:=fun x=>scanSorted ltInt d1 b i=u) (E:=fun x=>.sl j 0 n::intA a::intA b::naL 4 (intA u::intA (5 - ((s+1:Nat):Int))::naL 124 [])) (KK:=fun x=>[(j,.row (d1.toList.map intA) 3 1)]) ?_ ?_;rotate_left
  ·intro H;refine bL [0,1,2,3,4,5,6,7,8,9,10,11,12,13,14,15] ?_;refine ad [[1,7],[1,2],[4,17,18],[1,19]] ?_;refine bW 20 (fun g5_4=>?_) (fun g5_4=>?_)
   ·have hg:u<b:=by simp at g5_4; omega
    refine ad [[1,0,20],[1,7,20],[2,20,21,22]] ?_;refine bT [20,23] Z (hq:=zm Z Z zi.h (mC _) (ji (i:=u) oQ oQ)) (h:=?_);refine ad [[1,0,20],[1,7,20],[9,20,26],[2,20,25,27]] ?_;refine bT [20,28] Z (hq:=zm Z Z zi.h (mC _) (ji (i:=u - 1) oQ oQ)) (h:=?_);refine bQ (pend':=[⟨11,[20,25,27],[]⟩,⟨10,[20,26],[]⟩,⟨9,[7,20],[]⟩,⟨8,[0,20],[]⟩,⟨6,[20,21,22],[]⟩,⟨5,[7,20],[]⟩,⟨4,[0,20],[]⟩,⟨2,[17,18],[]⟩,⟨1,[2],[]⟩,⟨0,[7],[]⟩]) [20,24,29] Z Z Z Z Z (zha hT) (fun r1 K2 h3=>⟨?_,?_⟩)
    ·rcases h3 with ⟨rfl,rfl⟩
     all_goals simp
    obtain ⟨rfl,rfl⟩:=h3;try simp only [cA]
    refine bS tQ ?_;refine bU [20,30] Z (q_not Z Z) ?_;refine ad [[7,20,31],[14]] ?_;refine au 9 ?_;constructor<;>intro hc1
    ·rw [ss_go hg hc1] at heqs;refine au 1403523014130120 ?_;refine bA [0,1,2,7,8] ?_;refine bC [(j,_)] ?_;exact hnext1 _ _ _ oQ ⟨u+1,rfl,oQ,oQ,heqs,rfl,rfl⟩
    have hf:scanSorted ltInt d1 b i=u:=by rw [<- heqs]; exact jaL (.inr hc1)
    refine au 22160 ?_;refine bA [0,1,2,7,8] ?_;refine bC [(j,_)] ?_;exact H () hf
   have hf:scanSorted ltInt d1 b i=u:=by rw [<- heqs]; exact jaL (.inl (by simp at g5_4; omega))
   refine ad [[11,0,20],[11,7,20],[11,20,21,22],[11,20,23],[11,0,20],[11,7,20],[11,20,26],[11,20,25,27],[11,20,28],[11,20,24,29],[11,20,30],[6,20,31],[14]] ?_;refine au 22160190 ?_;refine bA [0,1,2,7,8] ?_;refine bC [(j,_)] ?_;exact H () hf
  ·rintro _ hsc;refine bG nQ ?_;refine au 937114 ?_;constructor<;>intro hc2
   ·have hq1:partialInsertionSort ltInt d a b=(d1,true):=heq.symm.trans (pi_T hsc (by simp at hc2; omega));refine au 3542 ?_;refine bB hret [(j,_)] ?_;exact ⟨_,hq1,rfl,rfl⟩
   have hub2:¬ u=b:=fun h=>by rw [h] at hc2; simp at hc2
   refine au 93724011422120 ?_;constructor<;>intro hc3
   ·have hq1:partialInsertionSort ltInt d a b=(d1,false):=heq.symm.trans (pi_F hsc hub2 (by simp at hc3; omega));refine au 3542 ?_;refine bB hret [(j,_)] ?_;exact ⟨_,hq1,rfl,rfl⟩
   have h50:¬ b - a<50:=by simp at hc3; omega
   refine au 2120 ?_;refine bL [0,1,5,6,7,8,9,10,11,12,13,14,15,2,3,4,16,17] ?_;refine ad [[1,0],[1,7],[1,0],[1,7],[9,45],[1,0],[1,7],[9,48],[2,47,49]] ?_;refine bT [50] Z (hq:=zm Z Z zi.h (mC _) (ji (i:=u - 1) oQ oQ)) (h:=?_);refine ad [[1,0],[1,7],[2,52,53]] ?_;refine bT [54] Z (hq:=zm Z Z zi.h (mC _) (ji (i:=u) oQ oQ)) (h:=?_);refine ad [[2,42,43]] ?_;refine bR (pend':=[⟨12,[52,53],[]⟩,⟨11,[7],[]⟩,⟨10,[0],[]⟩,⟨4,[45],[]⟩,⟨3,[7],[]⟩,⟨2,[0],[]⟩]) [51,56] Z Z (zX Z Z zi.h Z Z mQ (jE (k:=u) oQ oQ)) ?_;refine ad [[2,44,46]] ?_;refine bR (pend':=[]) [55,57] Z Z (zX Z Z zi.h Z Z mQ (jF (i:=u) (j:=u - 1) oQ oQ)) ?_;refine ad [[14]] ?_;refine au 22 ?_;refine' TK.shr (X:=Array Int) (D:=fun x=>x.size=n/\x=if u - a>=2 then shiftDown ltInt (u - 1) (swp d1 u (u - 1)) else swp d1 u (u - 1)) (E:=fun x=>.sl j 0 n::intA a::intA b::naL 4 (intA u::intA (5 - ((s+1:Nat):Int))::naL 124 [])) (KK:=fun x=>[(j,.row (x.toList.map intA) 3 1)]) ?_ ?_;rotate_left
   ·intro H;obtain ⟨d2,hd2⟩:∃ d2,d2=swp d1 u (u - 1):=⟨_,rfl⟩;have hs2:d2.size=n:=by rw [hd2]; exact jG hs1
    rw [<- hd2];refine au 937240114 ?_;constructor<;>intro hc4
    ·have h2:u - a>=2:=by simp at hc4; omega
     refine au 13035240142 ?_;refine bA [0,1,2,7,8,9] ?_;refine bE (fun n1 env K=>∃ (v:Nat) (d3:Array Int),n1=v/\v<=u - 1/\d3.size=n/\shiftDown ltInt v d3=shiftDown ltInt (u - 1) d2/\env=.sl j 0 n::intA a::intA b::naL 4 (intA u::intA (5 - ((s+1:Nat):Int))::intA v::naL 123 [])/\K=[(j,.row (d3.toList.map intA) 3 1)]) (u - 1) ⟨u - 1,d2,rfl,mL _,hs2,rfl,by rw [show (u:Int) - 1=((u - 1:Nat):Int) by omega] <;> rfl,rfl⟩ fun n1 env K hI hnext2=>?_;obtain ⟨v,d3,hnv,hvu,hs3,heq3,rfl,rfl⟩:=hI;subst n1;refine bG nQ ?_;refine au 9371422 ?_;constructor<;>intro hc5
     ·obtain ⟨q,rfl⟩:∃ q,v=q+1:=⟨v - 1,by simp at hc5; omega⟩;refine au 221302120 ?_;refine bL [0,1,2,3,4,5,6,7,8,9,10] ?_;refine ad [[1,0],[1,9],[2,68,69]] ?_;refine bT [70] Z (hq:=zm Z Z zi.h (mC _) (ji (i:=q+1) oQ oQ)) (h:=?_);refine ad [[1,0],[1,9],[9,73],[2,72,74]] ?_;refine bT [75] Z (hq:=zm Z Z zi.h (mC _) (ji (i:=q) oQ oQ)) (h:=?_);refine bQ (pend':=[⟨7,[72,74],[]⟩,⟨6,[73],[]⟩,⟨5,[9],[]⟩,⟨4,[0],[]⟩,⟨2,[68,69],[]⟩,⟨1,[9],[]⟩,⟨0,[0],[]⟩]) [71,76] Z Z Z Z Z (zha hT) (fun r16 K17 h18=>⟨?_,?_⟩)
      ·rcases h18 with ⟨rfl,rfl⟩
       all_goals simp
      obtain ⟨rfl,rfl⟩:=h18;try simp only [cA]
      refine bS tQ ?_;refine bU [77] Z (q_not Z Z) ?_;refine ad [[14]] ?_;refine au 9 ?_;constructor<;>intro hc6
      ·have hx3:d3.size=n/\d3=if u - a>=2 then shiftDown ltInt (u - 1) d2 else d2:=⟨hs3,by rw [if_pos h2,<- heq3]; exact (jbD hc6).symm⟩
       refine au 2160 ?_;refine bA [0,1,2,7,8] ?_;refine bC [(j,_)] ?_;exact H _ (hd2 ▸ hx3)
      refine au 120 ?_;refine bL [0,1,5,6,7,8,9,10,11,12,13,14,15,2,3,4,16,17] ?_;refine ad [[1,0],[1,9],[1,0],[1,9],[9,82],[1,0],[1,9],[9,85],[2,84,86]] ?_;refine bT [87] Z (hq:=zm Z Z zi.h (mC _) (ji (i:=q) oQ oQ)) (h:=?_);refine ad [[1,0],[1,9],[2,89,90]] ?_;refine bT [91] Z (hq:=zm Z Z zi.h (mC _) (ji (i:=q+1) oQ oQ)) (h:=?_);refine ad [[2,79,80]] ?_;refine bR (pend':=[⟨12,[89,90],[]⟩,⟨11,[9],[]⟩,⟨10,[0],[]⟩,⟨4,[82],[]⟩,⟨3,[9],[]⟩,⟨2,[0],[]⟩]) [88,93] Z Z (zX Z Z zi.h Z Z mQ (jE (k:=q+1) oQ oQ)) ?_;refine ad [[2,81,83]] ?_;refine bR (pend':=[]) [92,94] Z Z (zX Z Z zi.h Z Z mQ (jF (i:=q+1) (j:=q) oQ oQ)) ?_;refine ad [[14]] ?_;refine au 3524014140 ?_;refine bA [0,1,2,7,8,9] ?_;refine bC [(j,_)] ?_;exact hnext2 _ _ _ oQ ⟨q,swp d3 (q+1) q,rfl,oQ,jG hs3,(sd_go hc6).symm.trans heq3,by rw [show ((q+1:Nat):Int) - 1=(q:Int) by omega]; rfl,rfl⟩
     obtain rfl:v=0:=by simp at hc5; omega
     have hx3:d3.size=n/\d3=if u - a>=2 then shiftDown ltInt (u - 1) d2 else d2:=⟨hs3,by rw [if_pos h2,<- heq3]; rfl⟩
     refine au 2160 ?_;refine bA [0,1,2,7,8] ?_;refine bC [(j,_)] ?_;exact H _ (hd2 ▸ hx3)
    have hx3:d2.size=n/\d2=if u - a>=2 then shiftDown ltInt (u - 1) d2 else d2:=⟨hs2,(if_neg (by simp at hc4; omega)).symm⟩
    refine au 2120 ?_;refine bA [0,1,2,7,8] ?_;refine bC [(j,_)] ?_;exact H _ (hd2 ▸ hx3)
   ·rintro d3 ⟨hs3,hd3e⟩;refine bG nQ ?_;refine' TK.shr (X:=Array Int) (D:=fun x=>x.size=n/\x=if b - u>=2 then shiftUp ltInt b (u+1) d3 else d3) (E:=fun x=>.sl j 0 n::intA a::intA b::naL 4 (intA u::intA (5 - ((s+1:Nat):Int))::naL 124 [])) (KK:=fun x=>[(j,.row (x.toList.map intA) 3 1)]) ?_ ?_;rotate_left
    ·intro H;refine au 937240114 ?_;constructor<;>intro hc7
     ·have h3:b - u>=2:=by simp at hc7; omega
      refine au 13035230142 ?_;refine bA [0,1,2,7,8,10] ?_;refine bE (fun n1 env K=>∃ (v:Nat) (d4:Array Int),n1=b - v/\u+1<=v/\v<=b/\d4.size=n/\shiftUp ltInt b v d4=shiftUp ltInt b (u+1) d3/\env=.sl j 0 n::intA a::intA b::naL 4 (intA u::intA (5 - ((s+1:Nat):Int))::.any::intA v::naL 122 [])/\K=[(j,.row (d4.toList.map intA) 3 1)]) (b - (u+1)) ⟨u+1,d3,rfl,mL _,oQ,hs3,rfl,rfl,rfl⟩ fun n1 env K hI hnext3=>?_;obtain ⟨v,d4,rfl,huv,hvb,hs4,heq4,rfl,rfl⟩:=hI;refine bG nQ ?_;refine au 93711422 ?_;constructor<;>intro hc8
      ·have hvl:v<b:=by simp at hc8; omega
       refine au 221302120 ?_;refine bL [0,1,2,3,4,5,6,7,8,9,10] ?_;refine ad [[1,0],[1,10],[2,106,107]] ?_;refine bT [108] Z (hq:=zm Z Z zi.h (mC _) (ji (i:=v) oQ oQ)) (h:=?_);refine ad [[1,0],[1,10],[9,111],[2,110,112]] ?_;refine bT [113] Z (hq:=zm Z Z zi.h (mC _) (ji (i:=v - 1) oQ oQ)) (h:=?_);refine bQ (pend':=[⟨7,[110,112],[]⟩,⟨6,[111],[]⟩,⟨5,[10],[]⟩,⟨4,[0],[]⟩,⟨2,[106,107],[]⟩,⟨1,[10],[]⟩,⟨0,[0],[]⟩]) [109,114] Z Z Z Z Z (zha hT) (fun r25 K26 h27=>⟨?_,?_⟩)
       ·rcases h27 with ⟨rfl,rfl⟩
        all_goals simp
       obtain ⟨rfl,rfl⟩:=h27;try simp only [cA]
       refine bS tQ ?_;refine bU [115] Z (q_not Z Z) ?_;refine ad [[14]] ?_;refine au 9 ?_;constructor<;>intro hc9
       ·have hx4:d4.size=n/\d4=if b - u>=2 then shiftUp ltInt b (u+1) d3 else d3:=⟨hs4,by rw [if_pos h3,<- heq4]; exact (jbG hvl hc9).symm⟩
        refine au 140160 ?_;refine bA [0,1,2,7,8] ?_;refine bC [(j,_)] ?_;exact H _ hx4
       refine au 120 ?_;refine bL [0,1,5,6,7,8,9,10,11,12,13,14,15,2,3,4,16,17] ?_;refine ad [[1,0],[1,10],[1,0],[1,10],[9,120],[1,0],[1,10],[9,123],[2,122,124]] ?_;refine bT [125] Z (hq:=zm Z Z zi.h (mC _) (ji (i:=v - 1) oQ oQ)) (h:=?_);refine ad [[1,0],[1,10],[2,127,128]] ?_;refine bT [129] Z (hq:=zm Z Z zi.h (mC _) (ji (i:=v) oQ oQ)) (h:=?_);refine ad [[2,117,118]] ?_;refine bR (pend':=[⟨12,[127,128],[]⟩,⟨11,[10],[]⟩,⟨10,[0],[]⟩,⟨4,[120],[]⟩,⟨3,[10],[]⟩,⟨2,[0],[]⟩]) [126,131] Z Z (zX Z Z zi.h Z Z mQ (jE (k:=v) oQ oQ)) ?_;refine ad [[2,119,121]] ?_;refine bR (pend':=[]) [130,132] Z Z (zX Z Z zi.h Z Z mQ (jF (i:=v) (j:=v - 1) oQ oQ)) ?_;refine ad [[14]] ?_;refine au 3523014140 ?_;refine bA [0,1,2,7,8,10] ?_;refine bC [(j,_)] ?_;exact hnext3 _ _ _ oQ ⟨v+1,swp d4 v (v - 1),rfl,oQ,oQ,jG hs4,(su_go hvl hc9).symm.trans heq4,rfl,rfl⟩
      have hx4:d4.size=n/\d4=if b - u>=2 then shiftUp ltInt b (u+1) d3 else d3:=⟨hs4,by rw [if_pos h3,<- heq4]; exact (jbU (by simp at hc8; omega)).symm⟩
      refine au 140160 ?_;refine bA [0,1,2,7,8] ?_;refine bC [(j,_)] ?_;exact H _ hx4
     have hx4:d3.size=n/\d3=if b - u>=2 then shiftUp ltInt b (u+1) d3 else d3:=⟨hs3,(if_neg (by simp at hc7; omega)).symm⟩
     refine au 140120 ?_;refine bA [0,1,2,7,8] ?_;refine bC [(j,_)] ?_;exact H _ hx4
    ·rintro d4 ⟨hd4,hd4e⟩;refine bG nQ ?_;refine au 3523014 ?_;refine bA [0,1,2,7,8] ?_;refine bC [(j,_)] ?_;exact hnext _ _ _ oQ ⟨s,u,d4,rfl,oQ,oQ,oQ,hd4,(pi_go hsc hub2 h50 hd3e hd4e).symm.trans heq,by rw [show (5:Int) - ((s+1:Nat):Int)+1=5 - (s:Int) by omega] <;> rfl,rfl⟩
 obtain rfl:s1=0:=by simp at hc0; omega
 have hq1:partialInsertionSort ltInt d a b=(d1,false):=heq.symm;refine au 3542160 ?_;refine bB hret [(j,_)] ?_;exact ⟨_,hq1,rfl,rfl⟩
instance:Cal tp 219:={}
instance:Cal tp 220:={}
instance:TyZA tp 263 [.v (.int .u64 0)]:={}
instance:Und tp 263 (.int .u64):={}
theorem jaw {main T} (hT:zo tp main T) {gm} {j n a b:Nat} {d:Array Int} (hd:d.size=n) (hn:n<256) (h8:a+8<=b) (hb:b<=n) :
  zA tp T gm 190 [.sl j 0 n,intA a,intA b] [(j,.row (d.toList.map intA) 3 1)] (fun r K'=>∃ d',PermIn a b d d'/\K'=[(j,.row (d'.toList.map intA) 3 1)]):=by
 refine zp 65 hT Tryz.func190 fun Y hret=>?_;refine au 2352401142 ?_;rw [show (b:Int) - (a:Int)=((b - a:Nat):Int) by omega];refine au 93714 ?_;constructor<;>intro hc0
 ·refine au 142 ?_;refine bH Z (yV Z Z Und.h Und.h (zb0 (n:=b - a) oQ)) ?_;refine au 220 ?_;intro jx hjx;refine au 1423170 ?_;refine bD Z Z Z Z (jaW hT (n:=b - a) oQ oQ) ?_;rintro r1 K2 ⟨M,hM1,hM2,rfl,rfl⟩;refine au 114235 ?_;refine bH Z (jU Z Z Z oQ oQ oQ) ?_;refine bH Z (q_mul Z Z Z oQ) ?_;refine au 13035240230 ?_;refine bA [0,1,6,7,8,9] ?_;obtain ⟨s0,hs0⟩:∃ s0:Nat,s0=a+(b - a) / 4*2 - 1:=⟨_,rfl⟩;refine bC [(j,_),(jx,_)] ?_;refine bE (fun n1 env K=>∃ (t:Nat) (x:Int) (d1:Array Int),n1=3 - t/\t<=3/\PermIn a b d d1/\d1.size=n/\env=.sl j 0 n::intA a::naL 4 (intA ((b - a:Nat):Int)::.ptr jx 0::.v (.int .u64 (M:Int))::intA (s0+t:Nat)::naL 55 [])/\K=[(j,.row (d1.toList.map intA) 3 1),(jx,.cells [.v (.int .u64 x)] 263 true)]) 3 ⟨0,_,d,rfl,oQ,permIn_refl d a b,hd,by rw [show (a:Int)+((b - a:Nat):Int) / 4*2 - 1=((s0+0:Nat):Int) by omega] <;> rfl,rfl⟩ fun n1 env K hI hnext=>?_;obtain ⟨t,x,d1,rfl,ht,hperm,hs1,rfl,rfl⟩:=hI;refine bG nQ ?_;refine au 111422 ?_;refine bH Z (jU Z Z Z oQ oQ oQ) ?_;refine bH Z (q_mul Z Z Z oQ) ?_;refine au 937230230 ?_;constructor<;>intro hc1
  ·have ht3:t<3:=by simp at hc1; omega
   refine au 421302120 ?_;refine bD Z Z Z Z (jaV hT) ?_;rintro r4 K5 ⟨y,hy0,hy1,rfl,rfl⟩;refine au 1 ?_;refine bH Z (jbA Z Z Z oQ) ?_;rw [show (M:Int) - 1=((M - 1:Nat):Int) by omega];refine bH Z (jby Z Z Z) ?_;refine' TK.shr (X:=Nat) (D:=fun x=>x<b - a) (E:=fun x=>.sl j 0 n::intA a::naL 4 (intA ((b - a:Nat):Int)::.ptr jx 0::.v (.int .u64 (M:Int))::intA (s0+t:Nat)::intA x::naL 54 [])) (KK:=fun x=>[(j,.row (d1.toList.map intA) 3 1),(jx,.cells [.v (.int .u64 y)] 263 true)]) ?_ ?_;rotate_left
   ·intro H;have hw:=jbi y (b:=M - 1) oQ;obtain ⟨w,hwe⟩:∃ w:Nat,andW y ((M - 1:Nat):Int)=(w:Int):=⟨(andW y ((M - 1:Nat):Int)).toNat,oQ⟩;rw [hwe] at hw ⊢;refine bH Z (yV Z Z Und.h Und.h (we oQ)) ?_;refine au 9371142235 ?_;constructor<;>intro hc2
    ·have hwl:b - a<=w:=by simp at hc2; omega
     refine au 240114 ?_;rw [show (w:Int) - ((b - a:Nat):Int)=((w - (b - a):Nat):Int) by omega];refine au 35 ?_;refine bA [0,1,6,7,8,9,10] ?_;refine bC [(j,_),(jx,_)] ?_;exact H _ oQ
    have hwl:w<b - a:=by simp at hc2; omega
    refine au 120 ?_;refine bA [0,1,6,7,8,9,10] ?_;refine bC [(j,_),(jx,_)] ?_;exact H _ oQ
   ·rintro o ho;refine bG nQ ?_;refine bL [0,1,6,7,8,9,10,11,12,13,14,15,16,17,2,3,4,5,18,19] ?_;refine ad [[1,0],[1,9],[1,0],[1,1],[1,10],[8,50,51],[1,0],[1,1],[1,10],[8,54,55],[2,53,56]] ?_;refine bT [57] Z (hq:=zm Z Z zi.h (mC _) (ji (i:=a+o) oQ oQ)) (h:=?_);refine ad [[1,0],[1,9],[2,59,60]] ?_;refine bT [61] Z (hq:=zm Z Z zi.h (mC _) (ji (i:=s0+t) oQ oQ)) (h:=?_);refine ad [[2,47,48]] ?_;refine bR (pend':=[⟨14,[59,60],[]⟩,⟨13,[9],[]⟩,⟨12,[0],[]⟩,⟨5,[50,51],[]⟩,⟨4,[10],[]⟩,⟨3,[1],[]⟩,⟨2,[0],[]⟩]) [58,63] Z Z (zX Z Z zi.h Z Z mQ (jE (k:=s0+t) oQ oQ)) ?_;refine ad [[2,49,52]] ?_;refine bR (pend':=[]) [62,64] Z Z (zX Z Z zi.h Z Z mQ (jF (i:=s0+t) (j:=a+o) oQ oQ)) ?_;refine ad [[14]] ?_;refine au 3523014140 ?_;refine bA [0,1,6,7,8,9] ?_;refine bC [(j,_),(jx,_)] ?_;exact hnext _ _ _ oQ ⟨t+1,y,swp d1 (s0+t) (a+o),rfl,oQ,permIn_trans _ _ _ a b hperm (swp_permIn d1 a b _ _ oQ oQ oQ oQ oQ),jG hs1,rfl,rfl⟩
  refine au 160 ?_;refine TK.rt0 hret [(j,_)] ?_;exact ⟨d1,hperm,rfl⟩
 simp at hc0; omega
instance:Cal tp 189:={}
instance:Cal tp 190:={}
instance:Cal tp 191:={}
instance:Cal tp 192:={}
instance:Cal tp 193:={}
instance:Cal tp 195:={}
instance:Cal tp 196:={}
theorem jbw {main T} (hT:zo tp main T) {gm} {j n:Nat} (hn:n<256):∀ (m a b:Nat) (lim:Int) (d:Array Int),b - a=m->d.size=n->a<=b->b<=n->0<=lim/\lim<=1000->Below ltInt a b d ->
  zA tp T gm 160 [.sl j 0 n,intA a,intA b,intA lim] [(j,.row (d.toList.map intA) 3 1)] (fun r K'=>∃ d',PermIn a b d d'/\SortedIn ltInt a b d'/\K'=[(j,.row (d'.toList.map intA) 3 1)]):=by
 intro m
 induction m using Nat.strongRecOn with | ind m ih=>?_
 intro a b lim d hm hd hab hb hlim hB;refine zp 134 hT Tryz.func160 fun Y hret=>?_;refine au 13035423542 ?_;refine bA [0,1,2,3,8,9] ?_;refine bE (fun n1 env K=>∃ (u v:Nat) (l:Int) (w1 w2:Bool) (d1:Array Int),n1=v - u/\v - u<=m/\u<=v/\v<=n/\(0<=l/\l<=1000)/\d1.size=n/\Below ltInt u v d1/\(∀ R,PermIn u v d1 R->SortedIn ltInt u v R->PermIn a b d R/\SortedIn ltInt a b R)/\env=.sl j 0 n::intA u::intA v::intA l::naL 4 (zP w1::zP w2::naL 124 [])/\K=[(j,.row (d1.toList.map intA) 3 1)]) (b - a) ⟨a,b,lim,true,true,d,rfl,oQ,hab,hb,hlim,hd,hB,fun R h1 h2=>⟨h1,h2⟩,rfl,rfl⟩ fun n1 env K hI hnext=>?_;obtain ⟨u,v,l,w1,w2,d1,rfl,hm1,huv,hvn,hl,hs1,hB1,hfin,rfl,rfl⟩:=hI;refine bG nQ ?_;refine au 22352401142130 ?_;rw [show (v:Int) - (u:Int)=((v - u:Nat):Int) by omega];refine au 93714 ?_;constructor<;>intro hc0
 ·have hq:=insertionSort_holds swo_ltInt d1 u v huv oQ;have hz:=hfin _ hq.1 hq.2;refine au 11142 ?_;refine bD Z Z Z Z (jbn hT (d:=d1) hs1 oQ huv hvn) ?_;rintro r1 K2 rfl;refine au 3 ?_;refine bB hret [(j,_)] ?_;exact ⟨_,hz.1,hz.2,rfl⟩
 have h12:12<v - u:=by simp at hc0; omega
 refine au 9371422120 ?_;constructor<;>intro hc1
 ·have hq:=heapSort_holds swo_ltInt d1 u v huv oQ;have hz:=hfin _ hq.1 hq.2;refine au 11142 ?_;refine bD Z Z Z Z (jaR hT (d:=d1) hs1 oQ oQ hvn) ?_;rintro r4 K5 rfl;refine au 3 ?_;refine bB hret [(j,_)] ?_;exact ⟨_,hz.1,hz.2,rfl⟩
 refine' TK.shr (X:=Int×Array Int) (D:=fun x=>(0<=x.1/\x.1<=1000)/\PermIn u v d1 x.2) (E:=fun x=>.sl j 0 n::intA u::intA v::intA x.1::naL 4 (zP w1::zP w2::intA ((v - u:Nat):Int)::naL 123 [])) (KK:=fun x=>[(j,.row (x.2.toList.map intA) 3 1)]) ?_ ?_;rotate_left
 ·intro H;have hl0:l≠0:=fun h=>by rw [h] at hc1; simp at hc1
  refine au 933001422120 ?_;constructor<;>intro hc2
  ·refine au 11142 ?_;refine bD Z Z Z Z (jaw hT (d:=d1) hs1 hn oQ hvn) ?_;rintro r7 K8 ⟨d2,hp2,rfl⟩;refine au 235240143 ?_;refine bA [0,1,2,3,8,9,10] ?_;refine bC [(j,_)] ?_;exact H (l - 1,d2) ⟨by omega,hp2⟩
  have hp2:=permIn_refl d1 u v;refine au 2120 ?_;refine bA [0,1,2,3,8,9,10] ?_;refine bC [(j,_)] ?_;exact H (l,d1) ⟨by omega,hp2⟩
 ·rintro ⟨l2,d2⟩ ⟨hl2,hp2⟩; dsimp only at hl2 hp2 ⊢; have hs2:d2.size=n:=hp2.1.trans hs1; have hB2:=hB1.perm oQ hp2; have hfin2:∀ R,PermIn u v d2 R->SortedIn ltInt u v R->PermIn a b d R/\SortedIn ltInt a b R:=fun R h1 h2=>hfin R (permIn_trans _ _ _ u v hp2 h1) h2;refine bG nQ ?_;refine' TK.shr (X:=Nat×Int×Array Int) (D:=fun x=>(u<=x.1/\x.1<v)/\PermIn u v d2 x.2.2) (E:=fun x=>.sl j 0 n::intA u::intA v::intA l2::naL 4 (zP w1::zP w2::intA ((v - u:Nat):Int)::intA x.1::intA x.2.1::naL 121 [])) (KK:=fun x=>[(j,.row (x.2.2.toList.map intA) 3 1)]) ?_ ?_;rotate_left
  ·intro H;refine au 1114 ?_;refine bD Z Z Z Z (jbx hT (d:=d2) hs2 oQ oQ hvn) ?_;rintro r214 K215 ⟨p,hh,hp1,hpv,rfl,rfl⟩;refine au 9371422355661 ?_;constructor<;>intro hc3
   ·have hp3:=reverseRange_holds d2 u v huv oQ;refine au 11142 ?_;refine bD Z Z Z Z (jbB hT (d:=d2) hs2 oQ oQ hvn) ?_;rintro r217 K218 rfl;refine au 5240240112401423 ?_;rw [show (v:Int) - 1 - ((p:Int) - (u:Int))=((v - 1 - (p - u):Nat):Int) by omega];refine au 223543 ?_;refine bA [0,1,2,3,8,9,10,11,12] ?_;refine bC [(j,_)] ?_;exact H (v - 1 - (p - u),1,_) ⟨by omega,hp3⟩
   have hp3:=permIn_refl d2 u v;refine au 22120 ?_;refine bA [0,1,2,3,8,9,10,11,12] ?_;refine bC [(j,_)] ?_;exact H (p,hh,d2) ⟨by omega,hp3⟩
  ·rintro ⟨p,hh,d3⟩ ⟨⟨hpu,hpv⟩,hp3⟩; dsimp only at hpu hpv hp3 ⊢; have hs3:d3.size=n:=hp3.1.trans hs2; have hB3:=hB2.perm oQ hp3; have hfin3:∀ R,PermIn u v d3 R->SortedIn ltInt u v R->PermIn a b d R/\SortedIn ltInt a b R:=fun R h1 h2=>hfin2 R (permIn_trans _ _ _ u v hp3 h1) h2;refine bG nQ ?_;refine' TK.shr (X:=Array Int) (D:=fun x=>PermIn u v d3 x) (E:=fun x=>.sl j 0 n::intA u::intA v::intA l2::naL 4 (zP w1::zP w2::intA ((v - u:Nat):Int)::intA p::naL 122 [])) (KK:=fun x=>[(j,.row (x.toList.map intA) 3 1)]) ?_ ?_;rotate_left
   ·intro H;refine au 114 ?_;refine TK.sp 62 (fun g15_2=>?_) (fun g15_2=>?_)
    ·refine au 12601 ?_;refine TK.sp 65 (fun g15_5=>?_) (fun g15_5=>?_)
     ·refine au 9326071 ?_;constructor<;>intro hc4
      ·refine au 11142 ?_;refine bD Z Z Z Z (jbv hT (d:=d3) hs3 oQ oQ hvn) ?_;rintro r319 K320 ⟨q,hqe,rfl,rfl⟩;refine au 93 ?_;constructor<;>intro hc5
       ·have hpi:=partialInsertionSort_holds swo_ltInt d3 u v oQ oQ hB3;rw [hqe] at hpi;have hz:=hfin3 _ hpi.1 (hpi.2 hc5);refine au 0 ?_;refine bB hret [(j,_)] ?_;exact ⟨_,hz.1,hz.2,rfl⟩
       have hp4:=(partialInsertionSort_holds swo_ltInt d3 u v oQ oQ hB3).1;rw [hqe] at hp4;refine au 22120 ?_;refine bA [0,1,2,3,8,9,10,11] ?_;refine bC [(j,_)] ?_;exact H _ hp4
      have hp4:=permIn_refl d3 u v;refine au 22120 ?_;refine bA [0,1,2,3,8,9,10,11] ?_;refine bC [(j,_)] ?_;exact H _ hp4
     have hp4:=permIn_refl d3 u v;refine au 22120190325088 ?_;refine bA [0,1,2,3,8,9,10,11] ?_;refine bC [(j,_)] ?_;exact H _ hp4
    have hp4:=permIn_refl d3 u v;refine au 2212019032508812508 ?_;refine bA [0,1,2,3,8,9,10,11] ?_;refine bC [(j,_)] ?_;exact H _ hp4
   ·rintro d4 hp4; have hs4:d4.size=n:=hp4.1.trans hs3; have hB4:=hB3.perm oQ hp4; have hfin4:∀ R,PermIn u v d4 R->SortedIn ltInt u v R->PermIn a b d R/\SortedIn ltInt a b R:=fun R h1 h2=>hfin3 R (permIn_trans _ _ _ u v hp4 h1) h2;refine bG nQ ?_;refine' TK.shr (X:=Unit) (D:=fun x=>True) (E:=fun x=>.sl j 0 n::intA u::intA v::intA l2::naL 4 (zP w1::zP w2::intA ((v - u:Nat):Int)::intA p::naL 122 [])) (KK:=fun x=>[(j,.row (d4.toList.map intA) 3 1)]) ?_ ?_;rotate_left
    ·intro H;refine bL [0,1,2,3,4,5,6,7,8,9,10,11,12,13,14] ?_;refine ad [[1,1],[4,73],[1,74]] ?_;refine bW 75 (fun g17_3=>?_) (fun g17_3=>?_)
     ·have hu0:0<u:=by simp at g17_3; omega
      refine ad [[1,0,75],[1,1,75],[9,75,77],[2,75,76,78]] ?_;refine bT [75,79] Z (hq:=zm Z Z zi.h (mC _) (ji (i:=u - 1) oQ oQ)) (h:=?_);refine ad [[1,0,75],[1,11,75],[2,75,81,82]] ?_;refine bT [75,83] Z (hq:=zm Z Z zi.h (mC _) (ji (i:=p) oQ oQ)) (h:=?_);refine bQ (pend':=[⟨10,[75,81,82],[]⟩,⟨9,[11,75],[]⟩,⟨8,[0,75],[]⟩,⟨6,[75,76,78],[]⟩,⟨5,[75,77],[]⟩,⟨4,[1,75],[]⟩,⟨3,[0,75],[]⟩,⟨1,[73],[]⟩,⟨0,[1],[]⟩]) [75,80,84] Z Z Z Z Z (zha hT) (fun r394 K395 h396=>⟨?_,?_⟩)
      ·rcases h396 with ⟨rfl,rfl⟩
       all_goals simp
      obtain ⟨rfl,rfl⟩:=h396;try simp only [cA]
      refine bS tQ ?_;refine bU [75,85] Z (q_not Z Z) ?_;refine ad [[7,75,86],[14]] ?_;refine au 9 ?_;constructor<;>intro hc6
      ·have hnl:ltInt d4[u - 1]! d4[p]! =false:=by cases hh:ltInt d4[u - 1]! d4[p]! with
        | false=>rfl
        | true=>exact absurd (show (!ltInt d4[u - 1]! d4[p]!)=true from hc6) (by rw [hh]; decide)
       refine au 111142 ?_;refine bD Z Z Z Z (jaq hT (d:=d4) hs4 oQ hpu hpv hvn) ?_;rintro r397 K398 ⟨q,hqe,rfl,rfl⟩;refine au 0 ?_;obtain ⟨hr1,hr2,hr3,hr4,hr5⟩:=round_eq swo_ltInt (partitionEqual_holds ltInt) hu0 hpu hpv oQ hB4 hnl (show partitionEqual ltInt d4 u v p=(q.1,q.2) from hqe);refine au 1603514235 ?_;refine bA [0,1,2,3,8,9] ?_;refine bC [(j,_)] ?_;exact hnext _ _ _ oQ ⟨q.1,v,l2,w1,w2,q.2,rfl,oQ,oQ,hvn,hl2,hr3.trans hs4,hr4,fun R h1 h2=>(hr5 R h1 h2).elim fun h3 h4=>hfin4 R h3 h4,rfl,rfl⟩
      refine au 2120 ?_;refine bA [0,1,2,3,8,9,10,11] ?_;refine bC [(j,_)] ?_;exact H () trivial
     refine ad [[11,0,75],[11,1,75],[11,75,77],[11,75,76,78],[11,75,79],[11,0,75],[11,11,75],[11,75,81,82],[11,75,83],[11,75,80,84],[11,75,85],[6,75,86],[14]] ?_;refine au 2120190 ?_;refine bA [0,1,2,3,8,9,10,11] ?_;refine bC [(j,_)] ?_;exact H () trivial
    ·rintro _ _;refine bG nQ ?_;refine au 11114 ?_;refine bD Z Z Z Z (jaX hT (d:=d4) hs4 oQ hpu hpv hvn) ?_;rintro r409 K410 ⟨q,hqe,rfl,rfl⟩;refine au 0 ?_;obtain ⟨hr1,hr2,hr3,hr4,hr5,hr6,hr7⟩:=round_part swo_ltInt (partition_holds ltInt) hpu hpv oQ hB4 (show partition ltInt d4 u v p=(q.1,q.2.1,q.2.2) from hqe);refine au 235524011240114235142355661 ?_;rw [show (q.1:Int) - (u:Int)=((q.1 - u:Nat):Int) by omega,show (v:Int) - (q.1:Int)=((v - q.1:Nat):Int) by omega];refine au 14 ?_;refine bH Z (jU Z Z Z oQ oQ oQ) ?_;refine au 937114235 ?_;constructor<;>intro hc7
     ·refine au 1111423571142 ?_;refine bD Z Z Z Z (ih (q.1 - u) oQ u q.1 l2 q.2.2 Z (by rw [hr3]; exact hs4) hr1 oQ hl2 hr4) ?_;rintro r412 K413 ⟨L,hL1,hL2,rfl⟩;refine au 0 ?_;have hbl:=hr6 L hL1 hL2;refine au 14035230143 ?_;refine bA [0,1,2,3,8,9] ?_;refine bC [(j,_)] ?_;exact hnext _ _ _ oQ ⟨q.1+1,v,l2,_,q.2.1,L,rfl,oQ,oQ,hvn,hl2,hL1.1.trans (hr3.trans hs4),hbl.1,fun R h1 h2=>(hbl.2 R h1 h2).elim fun h3 h4=>hfin4 R h3 h4,rfl,rfl⟩
     refine au 1123011423571142 ?_;refine bD Z Z Z Z (ih (v - (q.1+1)) oQ (q.1+1) v l2 q.2.2 Z (by rw [hr3]; exact hs4) oQ hvn hl2 hr5) ?_;rintro r415 K416 ⟨L,hL1,hL2,rfl⟩;refine au 0 ?_;have hbl:=hr7 L hL1 hL2;refine au 14035143 ?_;refine bA [0,1,2,3,8,9] ?_;refine bC [(j,_)] ?_;exact hnext _ _ _ oQ ⟨u,q.1,l2,_,q.2.1,L,rfl,oQ,oQ,oQ,hl2,hL1.1.trans (hr3.trans hs4),hbl.1,fun R h1 h2=>(hbl.2 R h1 h2).elim fun h3 h4=>hfin4 R h3 h4,rfl,rfl⟩
theorem jaI {n:Nat} {xs:List Int} {d:Array Int} (hp:PermIn 0 n xs.toArray d) (hs:SortedIn ltInt 0 n d) (hn:xs.length=n):d.toList=xs.mergeSort fun x y=>decide (x<=y):=by
 subst hn;have:=sorted_unique_holds (lt:=ltInt) swo_ltInt (fun x y h1 h2=>by have h3:=of_decide_eq_false h1; have h4:=of_decide_eq_false h2; omega) xs.toArray d (by simpa using hp) (by simpa using hs);rw [this];congr 1;funext x y;unfold ltInt;by_cases h:x<=y
 ·rw [decide_eq_true h,decide_eq_false oQ]; rfl
 ·rw [decide_eq_false h,decide_eq_true oQ]; rfl
theorem jba {main T} (hT:zo tp main T) {gm} {j n:Nat} {xs:List Int} (hn:xs.length=n) (h256:n<256) :
  zA tp T gm 131 [.row j n] [(j,.row (xs.map intA) 3 1)] (fun r K'=>K'=[(j,.row ((xs.mergeSort fun x y=>decide (x<=y)).map intA) 3 1)]):=by
 refine zp 11 hT Tryz.func131 fun Y hret=>?_;refine au 2 ?_;refine bZ 0 Z (mC _) ?_;refine au 11143528014 ?_;refine bH Z (yV Z Z Und.h Und.h (zb0 (n:=n) oQ)) ?_;refine bD Z Z Z Z (xD hT (n:=n) oQ) ?_ (hs:=(.none _));rintro r1 K2 ⟨m,rfl,hm8,hm2,rfl⟩;refine au 0 ?_;refine bD Z Z Z Z (jbw hT (j:=j) (n:=n) h256 n 0 n (m:Int) xs.toArray (Nat.sub_zero n) (by simpa using hn) (mN _) (mL _) oQ (.inl Z)) ?_;rintro r4 K5 ⟨d2,hp,hs,rfl⟩;refine au 3 ?_;refine TK.rt0 hret [(j,_)] ?_;rw [jaI hp hs hn]
end Go.Vel
namespace Go.Vel
open Go Go.Conc Go.Proofs
theorem jW {main:Bool} {T:Goroutine->Hp->Prop} (hT:zo tp main T)  {b:RBk} {s h e:Nat} (hl:b.seams.length<=100) (hm:b.measures.length<=100) {n:Int}  :
  zA tp T gmR 52 [.agg (zE b s h e),intA n] [(0,zy),(s,zk b),(h,zB b),(e,zq b)] (fun r K'=>(bar2 (zr b) (thereM b n)≠0/\r=.tup [.v (.slice none 0 0),intA (bar2 (zr b) (thereM b n))]/\K'=[(0,zy),(s,zk b),(h,zB b),(e,zq b)])\/(bar2 (zr b) (thereM b n)=0/\zf b=[]/\r=.tup [.v (.slice none 0 0),intA 9]/\K'=[(0,zy),(s,zk b),(h,zB b),(e,zq b)])\/(bar2 (zr b) (thereM b n)=0/\zf b≠[]/\∃ jr zs,r=.tup [.sl jr 0 (shrI b n).length,intA 0]/\K'=(jr,.cells ((shrI b n++zs).map intA) 3 false)::[(0,zy),(s,zk b),(h,zB b),(e,zq b)])):=by
 refine zp 40 hT Tryz.func52 fun Y hret=>?_;refine au 21042 ?_;intro jb hjb;refine au 320168042355 ?_;refine bI Z Z Z (zt (l:=[_]) Z zF.h TyZ.h dQ dQ Z) (fun _=>zu rfl tQ) fun ja hja=>?_;refine bD Z Z Z Z (uK hT (Kx:=[]) (p1:=thereM b n) (fun h0=>yx Cal.h ((uo hT (b:=b) (s:=s) (h:=h) (e:=e) (n:=n) (zZ h0).sms.len.2).frameP (R:=[(s,zk b)]) (List.Perm.refl _))) hl hm) ?_;rintro r1 K2 h3;rcases h3 with ⟨hbar,rfl,rfl⟩ | ⟨hbar,hnil,rfl,rfl⟩ | ⟨hbar,hne,a,rfl,rfl⟩
 ·refine au 220661 ?_;intro j6 hj6;refine au 937142235170 ?_;constructor<;>intro hc0
  ·
   refine au 355142 ?_;refine bB hret [(0,_),(s,_),(h,_),(e,_)] ?_;exact .inl ⟨hbar,rfl,rfl⟩
  exact absurd hbar (by simpa using hc0)
 ·refine au 220661 ?_;intro j6 hj6;refine au 937142235170 ?_;constructor<;>intro hc0
  ·
   refine au 355142 ?_;refine bB hret [(0,_),(s,_),(h,_),(e,_)] ?_;exact .inr (.inl ⟨hbar,hnil,rfl,rfl⟩)
  exact absurd hc0 dQ
 ·refine au 220661 ?_;intro j6 hj6;refine au 937142235170 ?_;constructor<;>intro hc0
  ·exact absurd hc0 sQ
  have hbb:=zZ (kF hbar);have hth:=zak (kc hbar);have hs5:=hbb.sms.len;have hpos:0<(zf b).length:=List.length_pos_iff.2 hne;have hlen:=kg hbb;refine au 542120 ?_;refine TK.virt 8 3 1 Z fun jt0 hjt0=>?_;refine au 130312806906704223 ?_;refine bA [1,4,5,6,8,23,24,25] ?_;refine bC [(a,_),(0,_),(s,_),(h,_),(e,_),(j6,_),(jt0,_)] ?_;refine bE (fun n1 env K=>∃ (i jt:Nat),n1=(zf b).length - i/\i<=(zf b).length/\env=.any::intA n::naL 2 (.v (.slice none 0 0)::intA 0::.ptr j6 0::.any::.row jt i::naL 14 (.sl a 0 (zf b).length::intA (zf b).length::intA i::naL 14 []))/\K=[(a,allO (zf b)),(0,zy),(s,zk b),(h,zB b),(e,zq b),(j6,.cells (knownC b s h e a (zf b).length) 139 true),(jt,.row ((((zf b).take i).map fun s=>zN s n.toNat).map intA) 3 1)]) (zf b).length ⟨0,jt0,rfl,mN _,rfl,rfl⟩ fun n1 env K hI hnext=>?_;obtain ⟨i,jt,rfl,hi,rfl,rfl⟩:=hI;refine bG nQ ?_;refine au 923742 ?_;constructor<;>intro hc1
  ·have hil:i<(zf b).length:=by simp at hc1; omega
   obtain ⟨st,hst⟩:∃ st,(zf b)[i]? =some st:=⟨_,lA hil⟩;refine au 360421302120 ?_;refine bH Z (ya Z Z zi.h mQ (zaL (i:=i) hst Z)) ?_;refine au 220 ?_;intro j10 hj10;refine au 1143170 ?_;refine bH Z (wA Z Z Z ArEl.h oQ oQ) ?_;refine bH Z (zm Z Z zi.h mQ (st_at (i:=n.toNat) oQ oQ)) ?_;refine bI Z Z Z (zt (l:=[_]) Z zF.h TyZ.h dQ dQ Z) (fun _=>zu rfl tQ) fun j4 hj4=>?_;refine bO Z Z Z (a_app Z ApOf.h Z mQ (by simp; omega) Z (yw (ln:=[_]) mQ dQ sQ Z) oQ Z (by unfold maxLen; omega) oQ) (fun _=>uQ) (fun _=>zu rfl tQ) fun jt2=>?_;refine au 31230414035 ?_;refine bA [1,4,5,6,8,23,24,25] ?_;refine bC [(a,_),(0,_),(s,_),(h,_),(e,_),(j6,_),(jt2,_)] ?_;exact hnext _ _ _ oQ ⟨i+1,jt2,rfl,oQ,rfl,by rw [yQ hst,lM,lM]; rfl⟩
  obtain rfl:i=(zf b).length:=by simp at hc1; omega
  rw [List.take_of_length_le (mL _)];have hsl2:(msI ((zf b).map fun s=>zN s n.toNat)).length=(zf b).length:=by rw [jag,lJ]
  refine au 142160 ?_;refine bD Z Z Z Z (jba hT (xs:=((zf b).map fun s=>zN s n.toNat)) sQ oQ) ?_;rintro r5 K6 rfl;refine au 1423 ?_;refine bD Z Z Z Z (zdm hT (xs:=msI ((zf b).map fun s=>zN s n.toNat)) hsl2 oQ) ?_;rintro r8 K9 h10;rcases h10 with ⟨zs,rfl,rfl⟩ | ⟨rfl,hcm,rfl⟩
  ·refine au 0 ?_;refine bY (j:=jt) ?_;refine au 355 ?_;refine bB hret [(jt,_),(0,_),(s,_),(h,_),(e,_)] ?_;exact .inr (.inr ⟨hbar,hne,jt,zs,rfl,rfl⟩)
  ·refine au 0 ?_;refine bZ 39 Z (mC _) ?_;refine bY (j:=jt) ?_;refine au 355 ?_;refine bB hret [(jt,_),(0,_),(s,_),(h,_),(e,_)] ?_;exact .inr (.inr ⟨hbar,hne,jt,[],by unfold shrI setI; rw [hcm,hsl2],by unfold shrI setI; rw [hcm,lR]⟩)
instance:Cal tp 136:={}
instance:Cal tp 78:={}
instance:Cal tp 60:={}
end Go.Vel
end
