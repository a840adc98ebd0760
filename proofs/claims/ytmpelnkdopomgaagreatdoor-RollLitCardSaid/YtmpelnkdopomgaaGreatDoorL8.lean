/- Texts for the statements of chapter 8: what all of them need, part 9. It holds of every program, tape and world that the statements name, as each theorem says. -/
import Derived.Test.YtmpelnkdopomgaaGreatDoorL3
import Derived.Test.YtmpelnkdopomgaaGreatDoorL7
section
set_option linter.all false
set_option maxRecDepth 20000
set_option maxHeartbeats 60000000
open Go.Proofs.Tryz renaming prog -> tp
open List renaming getElem?_eq_getElem -> lA, nil_append -> lC, getElem?_eq_some_iff -> lD, getD_eq_getElem?_getD -> lE, length_append -> lF, perm_append_comm -> lH, mem_cons -> lI, length_map -> lJ, eq_nil_of_length_eq_zero -> lK, map_append -> lM, mem_of_getElem? -> lN, append_nil -> lR, mem_singleton -> lS, mem_append -> lT, getElem?_eq_none -> lU, take_length -> lW, mem_map -> lY, length_cons -> lZ, map_congr_left -> mA, replicate -> mB
open List.Mem renaming head -> mC
open Nat renaming le_refl -> mL, zero_le -> mN, zero_add -> mO, lt_or_ge -> mR, le_trans -> mT
open Bool renaming and_eq_true -> mX
open Int renaming toNat_natCast -> mZ
open Go.Vel.TK renaming maskL -> bA, rt -> bB, kp -> bC, cl -> bD, loopN -> bE, sp -> bF, na -> bG, a -> bH, newR -> bI, dq -> bL, perm -> bN
open Go.Vel.TD renaming cl -> bQ, norm -> bS, y -> bT, z -> bU
namespace Go.Vel
open Go Go.Conc
def fS (f:Int->Int):List Int->Int
 | []=>0
 | k::o=>f k+fS f o
theorem zdf (f:Int->Int):∀ a c,fS f (a++c)=fS f a+fS f c
 | [],c=>by show fS f c=0+fS f c; omega
 | k::a,c=>by show f k+fS f (a++c)=f k+fS f a+fS f c; rw [zdf f a c]; omega
theorem zlk (f:Int->Int) {a c:List Int} (h:a.Perm c):fS f a=fS f c:=by
 induction h with
 | nil=>rfl
 | cons x _ ih=>show f x+_=f x+_; rw [ih]
 | swap x y l=>show f y+(f x+fS f l)=f x+(f y+fS f l); omega
 | trans _ _ h1 h2=>exact h1.trans h2
theorem zhW (f:Int->Int):∀ n,fS f (idxM n)=sumF (fun i=>f i) n
 | 0=>rfl
 | n+1=>by
  have e:idxM (n+1)=idxM n++[(n:Int)]:=by unfold idxM; rw [List.range_succ,lM]; rfl
  rw [e,zdf,zhW f n];show _+(f n+0)=_+f n;omega
theorem zeb (f:Int->Int) (b:RBk) (l:List Int):fS f (ordM b l)=sumF (fun i=>f i) l.length:=by
 rw [<- zhW];unfold ordM sortR;refine zlk f ?_;have h:=zaa (lt:=busyLt b l) (l:=idxM l.length) (idxM l.length).length (mL _);rwa [lW] at h
theorem fS_le {f g:Int->Int}:∀ o:List Int,(∀ k∈o,f k<=g k)->fS f o<=fS g o
 | [],_=>Int.le_refl _
 | k::o,h=>by
  have h1:=h k sQ;have h2:=fS_le o (fun x hx=>h x (by simp [hx]));show f k+_<=g k+_;omega
theorem fS_nn {f:Int->Int}:∀ o:List Int,(∀ k∈o,0<=f k)->0<=fS f o
 | [],_=>Int.le_refl _
 | k::o,h=>by
  have h1:=h k sQ;have h2:=fS_nn o (fun x hx=>h x (by simp [hx]));show 0<=f k+_;omega
def gC (m c:Int->Int):List Int->Int->Int
 | [],_=>0
 | k::o,n=>min n (m k)*c k+gC m c o (n - min n (m k))
theorem zgh {m c:Int->Int}:∀ o:List Int,(∀ k∈o,0<=m k)->gC m c o 0=0
 | [],_=>rfl
 | k::o,h=>by
  have h1:=h k sQ;show min 0 (m k)*c k+gC m c o (0 - min 0 (m k))=0;rw [Int.min_eq_left h1,Int.zero_mul,Int.sub_zero,zgh o (fun x hx=>h x (by simp [hx]))];rfl
theorem zbB {m c:Int->Int} {c0:Int}:∀ (o:List Int) (n d:Int),(∀ k∈o,c0<=c k/\0<=m k)->0<=d->d<=n->n<=fS m o->gC m c o (n - d)+d*c0<=gC m c o n
 | [],n,d,_,h1,h2,h3=>by
  have h3:n<=0:=h3;have:d=0:=by omega
  subst this;show (0:Int)+0*c0<=0;rw [Int.zero_mul]; decide
 | k::o,n,d,h,h1,h2,h3=>by
  have hk:=h k sQ;have ho:∀ x∈o,c0<=c x/\0<=m x:=fun x hx=>h x (by simp [hx]);have h3:n<=m k+fS m o:=h3;have hz:gC m c o 0=0:=zgh o (fun x hx=>(ho x hx).2);show min (n - d) (m k)*c k+gC m c o (n - d - min (n - d) (m k))+d*c0<=min n (m k)*c k+gC m c o (n - min n (m k));by_cases hA:m k<=n - d
  ·rw [Int.min_eq_right hA,Int.min_eq_right oQ];have:=zbB o (n - m k) d ho h1 oQ oQ;rw [show n - d - m k=n - m k - d by omega];omega
  ·rw [Int.min_eq_left (show n - d<=m k by omega),Int.sub_self,hz];by_cases hB:n<=m k
   ·rw [Int.min_eq_left hB,Int.sub_self,hz];have e:n*c k=(n - d)*c k+d*c k:=by rw [<- Int.add_mul]; congr 1; omega
    have q:=Int.mul_le_mul_of_nonneg_left hk.1 h1;omega
   ·rw [Int.min_eq_right oQ];have ih:=zbB o (n - m k) (n - m k) ho oQ oQ oQ;rw [Int.sub_self,hz] at ih;obtain ⟨e,he⟩:∃ e,e=m k - (n - d):=⟨_,rfl⟩;have e1:m k*c k=(n - d)*c k+e*c k:=by rw [<- Int.add_mul]; congr 1; omega
    have e2:d*c0=e*c0+(n - m k)*c0:=by rw [<- Int.add_mul]; congr 1; omega
    have q:=Int.mul_le_mul_of_nonneg_left hk.1 (show 0<=e by omega);omega
theorem zhX {m c x:Int->Int}:∀ (o:List Int) (n:Int),o.Pairwise (fun a d=>c a<=c d)->(∀ k∈o,0<=x k/\x k<=m k)->n=fS x o->gC m c o n<=fS (fun k=>x k*c k) o
 | [],n,_,_,_=>Int.le_refl _
 | k::o,n,hp,h,hn=>by
  obtain ⟨p1,p2⟩:=List.pairwise_cons.1 hp;have hk:=h k sQ;have ho:∀ y∈o,0<=x y/\x y<=m y:=fun y hy=>h y (by simp [hy]);have hn:n=x k+fS x o:=hn;have h0:=fS_nn o (fun y hy=>(ho y hy).1);have hcap:=fS_le o (fun y hy=>(ho y hy).2);have ih:=zhX o (fS x o) p2 ho rfl;obtain ⟨a,ha⟩:∃ a,a=min n (m k):=⟨_,rfl⟩;have sh:=zbB (m:=m) (c:=c) (c0:=c k) o (fS x o) (a - x k) (fun y hy=>⟨p1 y hy,by have:=ho y hy; omega⟩) oQ oQ hcap;show min n (m k)*c k+gC m c o (n - min n (m k))<=x k*c k+_;rw [<- ha,show n - a=fS x o - (a - x k) by omega];have e:a*c k=x k*c k+(a - x k)*c k:=by rw [<- Int.add_mul]; congr 1; omega
  omega
theorem zbm {lt:Int->Int->Bool} {K:Int->Int} {x:Int} {S:List Int} (hlt:∀ y∈S,lt x y=decide (K x<K y)) (hS:S.Pairwise fun a c=>K a<=K c):∀ j,j<=S.length->(∀ i y,j<=i->S[i]? =some y->K x<K y)->(insJ lt x S j).Pairwise fun a c=>K a<=K c
 | 0,_,h=>by
  refine List.pairwise_cons.2 ⟨fun y hy=>?_,hS⟩;obtain ⟨i,hi,rfl⟩:=List.getElem_of_mem hy;have:=h i _ (mN _) (lA hi);omega
 | j+1,hj,h=>by
  have hg:S[j]? =some S[j]:=lA oQ;have hm:S[j]∈S:=List.getElem_mem _;unfold insJ;rw [hg];dsimp only;by_cases hl:lt x S[j]=true
  ·rw [if_pos hl];rw [hlt _ hm] at hl;refine zbm hlt hS j oQ fun i y hi hy=>?_;by_cases e:i=j
   ·subst e;rw [hg] at hy;cases hy;exact of_decide_eq_true hl
   ·exact h i y oQ hy
  ·rw [if_neg hl];rw [hlt _ hm] at hl;have hl:¬ K x<K S[j]:=by simpa using hl
   have hS':=hS;rw [<- List.take_append_drop (j+1) S] at hS';obtain ⟨p1,p2,p3⟩:=List.pairwise_append.1 hS';have hd:∀ y∈S.drop (j+1),K x<=K y:=fun y hy=>by
    obtain ⟨i,hi,rfl⟩:=List.getElem_of_mem hy;rw [List.getElem_drop];have:=h (j+1+i) _ oQ (lA (by rw [List.length_drop] at hi; omega));omega
   have ht:∀ a∈S.take (j+1),K a<=K x:=fun a ha=>by
    have p1':=p1;rw [yA hg] at ha p1';rcases lT.1 ha with ha | ha
    ·have:=(List.pairwise_append.1 p1').2.2 a ha S[j] sQ;omega
    ·rw [lS.1 ha]; omega
   refine List.pairwise_append.2 ⟨p1,List.pairwise_cons.2 ⟨hd,p2⟩,fun a ha c hc=>?_⟩;rcases lI.1 hc with rfl | hc
   ·exact ht a ha
   ·exact p3 a ha c hc
theorem zaS {lt:Int->Int->Bool} {K:Int->Int} {l:List Int} (hlt:∀ x∈l,∀ y∈l,lt x y=decide (K x<K y)):∀ i,i<=l.length->(sortN lt l i).Pairwise fun a c=>K a<=K c
 | 0,_=>.nil
 | i+1,h=>by
  have hg:l[i]? =some l[i]:=lA oQ;rw [kZ hg];refine zbm (fun y hy=>hlt _ (List.getElem_mem _) y (ui i oQ y hy)) (zaS hlt i oQ) _ (mL _) fun k y hk hy=>?_;rw [lU hk] at hy;cases hy
def pw:Nat->Int
 | 0=>10000
 | 1=>1000
 | 2=>100
 | 3=>10
 | _=>1
def wgt (b:RBk) (l:List Int) (k:Int):Int:=(cutS b l k.toNat).busy*1000000+pw k.toNat
theorem zlX {b:RBk} {l:List Int} (hl:l.length<=5):(ordM b l).Pairwise fun a c=>wgt b l a<=wgt b l c:=by
 have hs:(ordM b l).Pairwise fun a c=>(cutS b l a.toNat).busy*10 - a<=(cutS b l c.toNat).busy*10 - c:=by
  unfold ordM sortR;refine zaS (K:=fun a=>(cutS b l a.toNat).busy*10 - a) (fun x hx y hy=>?_) _ (mL _);have h1:=uD hx;have h2:=uD hy;unfold busyLt;rw [Bool.eq_iff_iff];simp only [Bool.or_eq_true,mX,decide_eq_true_eq];omega
 refine hs.imp_of_mem ?_;intro a c ha hc h;have h1:=ww ha;have h2:=ww hc;unfold wgt;obtain ⟨i,rfl⟩:=Int.eq_ofNat_of_zero_le h1.1;obtain ⟨j,rfl⟩:=Int.eq_ofNat_of_zero_le h2.1;simp only [mZ] at h ⊢;have hi:i=0\/i=1\/i=2\/i=3\/i=4:=by omega
 have hj:j=0\/j=1\/j=2\/j=3\/j=4:=by omega
 rcases hi with rfl | rfl | rfl | rfl | rfl <;> rcases hj with rfl | rfl | rfl | rfl | rfl <;> simp only [pw] <;> omega
theorem zbR {b:RBk} {l:List Int} (C:Nat->Int):∀ (o:List Int) (z:Alloc),o.Nodup->(∀ k∈o,0<=k/\k<l.length)->(∀ k∈o,z.steps.getD k.toNat 0=0)->z.steps.length=l.length ->
  sumF (fun i=>(o.foldl (allocM b l) z).steps.getD i 0*C i) l.length=sumF (fun i=>z.steps.getD i 0*C i) l.length+gC (fun k=>(cutS b l k.toNat).most) (fun k=>C k.toNat) o z.left
 | [],z,_,_,_,_=>by show _=_+(0:Int); rw [Int.add_zero]; rfl
 | k::o,z,hn,ho,h0,hlen=>by
  obtain ⟨n1,n2⟩:=List.nodup_cons.1 hn;have hk:=ho k sQ;have hkl:k.toNat<z.steps.length:=by omega
  have hk0:=h0 k sQ;rw [List.foldl_cons];obtain ⟨v,hv⟩:∃ v,v=min z.left (cutS b l k.toNat).most:=⟨_,rfl⟩;have hz':allocM b l z k=⟨z.steps.set k.toNat v,z.squares+v*(cutS b l k.toNat).busy,z.left - v⟩:=by rw [hv]; rfl
  have hs:∀ i,(z.steps.set k.toNat v).getD i 0=if i=k.toNat then v else z.steps.getD i 0:=fun i=>zeh hkl
  have r:=zbR (b:=b) (l:=l) C o (allocM b l z k) n2 (fun x hx=>ho x (by simp [hx])) (fun x hx=>by
   rw [hz'];show (z.steps.set k.toNat v).getD x.toNat 0=0;have hx0:=ho x (by simp [hx]);have hne:x≠k:=fun e=>n1 (e ▸ hx);rw [hs,if_neg oQ];exact h0 x (by simp [hx])) (by rw [hz']; show (z.steps.set k.toNat v).length=_; rw [List.length_set]; exact hlen)
  have e2:sumF (fun i=>(allocM b l z k).steps.getD i 0*C i) l.length=sumF (fun i=>z.steps.getD i 0*C i) l.length+v*C k.toNat:=by
   rw [hz'];rw [zae (f:=fun i=>z.steps.getD i 0*C i) (k:=k.toNat) l.length oQ (fun i hi=>by show (z.steps.set k.toNat v).getD i 0*_=_; rw [hs,if_neg hi])];show _ - z.steps.getD k.toNat 0*_+(z.steps.set k.toNat v).getD k.toNat 0*_=_;rw [hs,if_pos rfl,hk0,Int.zero_mul];omega
  rw [r,e2,hz'];show _+gC _ _ o (z.left - v)=_+(min z.left (cutS b l k.toNat).most*C k.toNat+gC _ _ o (z.left - min z.left (cutS b l k.toNat).most));rw [<- hv];omega
theorem zbS {b:RBk} {l:List Int}:∀ (o:List Int) (z:Alloc),(∀ k∈o,0<=(cutS b l k.toNat).most)->0<=z.left->(o.foldl (allocM b l) z).left=max 0 (z.left - fS (fun k=>(cutS b l k.toNat).most) o)
 | [],z,_,h=>by show z.left=max 0 (z.left - 0); omega
 | k::o,z,hm,h=>by
  have hk:=hm k sQ;rw [List.foldl_cons,zbS o _ (fun x hx=>hm x (by simp [hx])) (by show 0<=z.left - min z.left (cutS b l k.toNat).most; omega)];show max 0 (z.left - min z.left (cutS b l k.toNat).most - _)=max 0 (z.left - ((cutS b l k.toNat).most+_));have h0:=fS_nn (f:=fun k=>(cutS b l k.toNat).most) o (fun x hx=>hm x (by simp [hx]));omega
def mostS (b:RBk) (l:List Int) (k:Nat):Int:=sumF (fun i=>(cutS b l i).most) k
theorem zlF {b:RBk} (hb:ROk b) {l:List Int} (hl:CutsOk b l):∀ k∈ordM b l,0<=(cutS b l k.toNat).most:=fun k hk=>by
 have:=ww hk;exact (hb.sms.fld _ (hl.lt (k:=k.toNat) oQ).2.2).2.2.1
theorem zb7 {b:RBk} (hb:ROk b) {l s:List Int} (hl:CutsOk b l) (hs:StOk b s):(hangM b l s).isSome=(fitsM b l&&decide (yn b s<=mostS b l l.length)):=by
 have hleft:=zbS (b:=b) (l:=l) (ordM b l) (alloc0 b l (yn b s)) (zlF hb hl) (uS hb hs).1;rw [zeb] at hleft;simp only [mZ] at hleft;have e:(alloc0 b l (yn b s)).left=yn b s:=rfl;unfold hangM;by_cases hf:fitsM b l=false
 ·rw [if_pos hf,hf]; rfl
 ·rw [if_neg hf,show fitsM b l=true by simpa using hf,Bool.true_and];dsimp only;unfold allocA mostS;by_cases h:0<((ordM b l).foldl (allocM b l) (alloc0 b l (yn b s))).left
  ·rw [if_pos h,decide_eq_false oQ]; rfl
  ·rw [if_neg h,decide_eq_true oQ]; rfl
theorem zfr (f g:Nat->Int) (c:Int):∀ n,sumF (fun i=>f i*c+g i) n=sumF f n*c+sumF g n
 | 0=>by show (0:Int)=0*c+0; rw [Int.zero_mul]; rfl
 | n+1=>by
  show sumF (fun i=>f i*c+g i) n+(f n*c+g n)=(sumF f n+f n)*c+(sumF g n+g n);rw [zfr f g c n,Int.add_mul];omega
def numW (x:List Int) (n:Nat):Int:=sumF (fun i=>x.getD i 0*pw i) n
theorem zlz:∀ (n:Nat) (x y:List Int),n<=5->x.length=n->y.length=n->(∀ i,0<=x.getD i 0/\x.getD i 0<=9)->(∀ i,0<=y.getD i 0/\y.getD i 0<=9)->lexM x y<0->numW x n<numW y n
 | 0,[],[],_,_,_,_,_,h=>by simp [lexM] at h
 | 1,[a],[p],_,_,_,hx,hy,h=>by
  simp only [lexM] at h;show 0+a*10000<0+p*10000;split at h
  ·omega
  ·split at h <;> omega
 | 2,[a,c],[p,q],_,_,_,hx,hy,h=>by
  have a0:=hx 0; have a1:=hx 1; have b0:=hy 0; have b1:=hy 1;simp only [List.getD_cons_zero,List.getD_cons_succ] at a0 a1 b0 b1;simp only [lexM] at h;show 0+a*10000+c*1000<0+p*10000+q*1000
  repeat' (split at h)
  all_goals omega
 | 3,[a,c,d],[p,q,r],_,_,_,hx,hy,h=>by
  have a0:=hx 0; have a1:=hx 1; have a2:=hx 2; have b0:=hy 0; have b1:=hy 1; have b2:=hy 2;simp only [List.getD_cons_zero,List.getD_cons_succ] at a0 a1 a2 b0 b1 b2;simp only [lexM] at h;show 0+a*10000+c*1000+d*100<0+p*10000+q*1000+r*100
  repeat' (split at h)
  all_goals omega
 | 4,[a,c,d,e],[p,q,r,s],_,_,_,hx,hy,h=>by
  have a0:=hx 0; have a1:=hx 1; have a2:=hx 2; have a3:=hx 3; have b0:=hy 0; have b1:=hy 1; have b2:=hy 2; have b3:=hy 3;simp only [List.getD_cons_zero,List.getD_cons_succ] at a0 a1 a2 a3 b0 b1 b2 b3;simp only [lexM] at h;show 0+a*10000+c*1000+d*100+e*10<0+p*10000+q*1000+r*100+s*10
  repeat' (split at h)
  all_goals omega
 | 5,[a,c,d,e,f],[p,q,r,s,t],_,_,_,hx,hy,h=>by
  have a0:=hx 0; have a1:=hx 1; have a2:=hx 2; have a3:=hx 3; have a4:=hx 4; have b0:=hy 0; have b1:=hy 1; have b2:=hy 2; have b3:=hy 3; have b4:=hy 4;simp only [List.getD_cons_zero,List.getD_cons_succ] at a0 a1 a2 a3 a4 b0 b1 b2 b3 b4;simp only [lexM] at h;show 0+a*10000+c*1000+d*100+e*10+f*1<0+p*10000+q*1000+r*100+s*10+t*1
  repeat' (split at h)
  all_goals omega
 | n+6,_,_,h5,_,_,_,_,_=>by omega
theorem zir {x:List Int} {n:Nat} (h5:n<=5) (hx:∀ i,0<=x.getD i 0/\x.getD i 0<=9):0<=numW x n/\numW x n<100000:=by
 have a0:=hx 0; have a1:=hx 1; have a2:=hx 2; have a3:=hx 3; have a4:=hx 4;have h:n=0\/n=1\/n=2\/n=3\/n=4\/n=5:=by omega
 rcases h with rfl | rfl | rfl | rfl | rfl | rfl <;> simp only [numW,sumF,pw] <;> omega
theorem zbX (b:RBk) (l x:List Int):sumF (fun i=>x.getD i 0*wgt b l i) l.length=sumF (fun i=>x.getD i 0*(cutS b l i).busy) l.length*1000000+numW x l.length:=by
 unfold numW;rw [<- zfr];refine wy _ fun i _=>?_;unfold wgt;rw [mZ,Int.mul_add,Int.mul_assoc]
theorem cheapest {b:RBk} (hb:ROk b) {l s w:List Int} {q:Int} (hl:CutsOk b l) (hs:StOk b s) (h:hangM b l s=some (w,q)) {x:List Int} (hxl:x.length=l.length) (hx:∀ i,0<=x.getD i 0/\(i<l.length->x.getD i 0<=(cutS b l i).most)) (hsum:sumF (fun i=>x.getD i 0) l.length=yn b s):needM b l w l.length<=needM b l x l.length/\(needM b l w l.length<needM b l x l.length\/decide (lexM x w<0)=false):=by
 have hn5:l.length<=5:=by have:=hl.len; have:=hb.sms.len; omega
 obtain ⟨hfit,hwl,hws,hq,hwb⟩:=zbC hb hl hs h;have nine:∀ {y:List Int},y.length=l.length->(∀ i,0<=y.getD i 0/\(i<l.length->y.getD i 0<=(cutS b l i).most))->∀ i,0<=y.getD i 0/\y.getD i 0<=9:=fun {y} hyl hy i=>by
  refine ⟨(hy i).1,?_⟩;by_cases hi:i<l.length
  ·have h1:=(hy i).2 hi;have h2:=(hb.sms.fld _ (hl.lt hi).2.2).2.2.2.1;unfold cutS at h1;omega
  ·rw [lE,lU oQ]
   decide
 have key:sumF (fun i=>w.getD i 0*wgt b l i) l.length<=sumF (fun i=>x.getD i 0*wgt b l i) l.length:=by
  have hr:∀ i,(alloc0 b l (yn b s)).steps.getD i 0=0:=fun i=>by
   show (mB l.length (0:Int)).getD i 0=0;rw [lE,List.getElem?_replicate];split <;> rfl
  have hc:=zbR (b:=b) (l:=l) (fun i=>wgt b l i) (ordM b l) (alloc0 b l (yn b s)) (zdx b l) (fun k hk=>ww hk) (fun k _=>hr _) (by show (mB l.length (0:Int)).length=_; rw [List.length_replicate]);have hw:w=((ordM b l).foldl (allocM b l) (alloc0 b l (yn b s))).steps:=by
   unfold hangM at h;split at h
   ·cases h
   ·dsimp only at h;split at h
    ·cases h
    ·cases h; rfl
  have z2:sumF (fun i=>(alloc0 b l (yn b s)).steps.getD i 0*wgt b l i) l.length=0:=by
   rw [wy (g:=fun _=>0) l.length (fun i _=>by rw [hr i,Int.zero_mul])];have:=uj (f:=fun _=>0) (n:=0) (fun _ _=>rfl) l.length;rwa [mO] at this
  rw [<- hw,z2,Int.zero_add] at hc;rw [hc];have ho:=zhX (m:=fun k=>(cutS b l k.toNat).most) (c:=wgt b l) (x:=fun k=>x.getD k.toNat 0) (ordM b l) (yn b s) (zlX hn5) (fun k hk=>by
   have:=ww hk;exact ⟨(hx _).1,(hx _).2 oQ⟩) (by rw [zeb]; simp only [mZ]; exact hsum.symm)
  rw [zeb] at ho;simp only [mZ] at ho;refine Int.le_trans (Int.le_of_eq ?_) ho;show gC _ _ _ (yn b s)=_;congr 1
 rw [zbX,zbX] at key;have n1:=zir hn5 (nine hwl hwb);have n2:=zir hn5 (nine hxl hx);unfold needM;rw [zad,zad];refine ⟨by omega,?_⟩;by_cases hlt:sumF (fun i=>w.getD i 0*(cutS b l i).busy) l.length<sumF (fun i=>x.getD i 0*(cutS b l i).busy) l.length
 ·exact .inl oQ
 ·right;refine decide_eq_false fun hlex=>?_;have:=zlz l.length x w hn5 hxl hwl (nine hxl hx) (nine hwl hwb) hlex;omega
theorem zgg:∀ (r:List Int) (x:Int),r.foldl min x<=x/\(∀ y∈r,r.foldl min x<=y)/\(r.foldl min x=x\/r.foldl min x∈r)
 | [],x=>⟨Int.le_refl _,fun y hy=>(by cases hy),.inl rfl⟩
 | z::r,x=>by
  obtain ⟨h1,h2,h3⟩:=zgg r (min x z);rw [List.foldl_cons];refine ⟨by omega,fun y hy=>?_,?_⟩
  ·rcases lI.1 hy with rfl | hy
   ·omega
   ·exact h2 y hy
  ·rcases h3 with h3 | h3
   ·rw [h3];by_cases e:x<=z
    ·left; omega
    ·right; rw [Int.min_eq_right oQ]; simp
   ·right; simp [h3]
theorem zgf:∀ (r:List Int) (x:Int),x<=r.foldl max x/\(∀ y∈r,y<=r.foldl max x)/\(r.foldl max x=x\/r.foldl max x∈r)
 | [],x=>⟨Int.le_refl _,fun y hy=>(by cases hy),.inl rfl⟩
 | z::r,x=>by
  obtain ⟨h1,h2,h3⟩:=zgf r (max x z);rw [List.foldl_cons];refine ⟨by omega,fun y hy=>?_,?_⟩
  ·rcases lI.1 hy with rfl | hy
   ·omega
   ·exact h2 y hy
  ·rcases h3 with h3 | h3
   ·rw [h3];by_cases e:z<=x
    ·left; omega
    ·right; rw [Int.max_eq_right oQ]; simp
   ·right; simp [h3]
theorem zi2 {xs:List Int} (hne:xs≠[]):(∀ y∈xs,(spreadM xs).1<=y/\y<=(spreadM xs).2)/\(spreadM xs).1∈xs/\(spreadM xs).2∈xs:=by
 cases xs with
 | nil=>exact absurd rfl hne
 | cons x r =>
  obtain ⟨a1,a2,a3⟩:=zgg r x;obtain ⟨c1,c2,c3⟩:=zgf r x;show (∀ y∈x::r,r.foldl min x<=y/\y<=r.foldl max x)/\r.foldl min x∈x::r/\r.foldl max x∈x::r;refine ⟨fun y hy=>?_,?_,?_⟩
  ·rcases lI.1 hy with rfl | hy
   ·exact ⟨a1,c1⟩
   ·exact ⟨a2 y hy,c2 y hy⟩
  ·rcases a3 with h | h
   ·rw [h]; simp
   ·simp [h]
  ·rcases c3 with h | h
   ·rw [h]; simp
   ·simp [h]
theorem sq_in {b:RBk} {all:List (List Int)} {l:List Int} (hne:all≠[]) (h:sqOk b all l=true):(∀ s∈all,∀ w q,hangM b l s=some (w,q)->sqLo b all l<=q/\q<=sqHi b all l)/\(∃ s∈all,∃ w,hangM b l s=some (w,sqLo b all l))/\∃ s∈all,∃ w,hangM b l s=some (w,sqHi b all l):=by
 have hall:=(zab b all l).1 h;have hlt:¬ (waysM b all l).length<all.length:=fun hh=>by
  unfold sqOk squaresM at h;rw [if_pos hh] at h;cases h
 have e:squaresM b all l=some (spreadM ((waysM b all l).map (·.2))):=by unfold squaresM; rw [if_neg hlt]
 have hnn:(waysM b all l).map (·.2)≠[]:=fun hh=>by
  have h1:=congrArg List.length hh;rw [lJ] at h1;have h2:0<all.length:=List.length_pos_iff.2 hne;simp only [List.length_nil] at h1;omega
 obtain ⟨g1,g2,g3⟩:=zi2 hnn;unfold sqLo sqHi;rw [e];show (∀ s∈all,∀ w q,hangM b l s=some (w,q)->(spreadM _).1<=q/\q<=(spreadM _).2)/\(∃ s∈all,∃ w,hangM b l s=some (w,(spreadM _).1))/\∃ s∈all,∃ w,hangM b l s=some (w,(spreadM _).2);have back:∀ q,q∈(waysM b all l).map (·.2)->∃ s∈all,∃ w,hangM b l s=some (w,q):=fun q hq=>by
  obtain ⟨⟨w,q'⟩,hz,rfl⟩:=lY.1 hq;obtain ⟨s,hs,hz⟩:=List.mem_filterMap.1 hz;exact ⟨s,hs,w,hz⟩
 exact ⟨fun s hs w q hq=>g1 q (lY.2 ⟨(w,q),List.mem_filterMap.2 ⟨s,hs,hq⟩,rfl⟩),back _ g2,back _ g3⟩
theorem zmd {b o:RBk} {all:List (List Int)} {l:List Int} (hne:all≠[]) (hb:sqOk b all l=true) (h:∀ s∈all,∀ w q,hangM b l s=some (w,q)->∃ w' q',hangM o l s=some (w',q')/\q'<=q):sqOk o all l=true/\sqLo o all l<=sqLo b all l/\sqHi o all l<=sqHi b all l:=by
 have hall:=(zab b all l).1 hb;have ho:sqOk o all l=true:=(zab o all l).2 fun s hs=>by
  obtain ⟨⟨w,q⟩,hz⟩:=Option.isSome_iff_exists.1 (hall s hs);obtain ⟨w',q',h1,_⟩:=h s hs w q hz;rw [h1]; rfl
 obtain ⟨b1,⟨s1,hs1,w1,e1⟩,_⟩:=sq_in hne hb;obtain ⟨o1,_,s2,hs2,w2,e2⟩:=sq_in hne ho;refine ⟨ho,?_,?_⟩
 ·obtain ⟨w',q',g1,g2⟩:=h s1 hs1 w1 _ e1;have:=(o1 s1 hs1 w' q' g1).1;omega
 ·obtain ⟨⟨w,q⟩,hz⟩:=Option.isSome_iff_exists.1 (hall s2 hs2);obtain ⟨w',q',g1,g2⟩:=h s2 hs2 w q hz;rw [e2] at g1;cases g1;have:=(b1 s2 hs2 w q hz).2;omega
theorem zgI {f g:Nat->Int}:∀ n,(∀ i,i<n->f i<=g i)->sumF f n<=sumF g n
 | 0,_=>Int.le_refl _
 | n+1,h=>by
  have h1:=zgI n fun i hi=>h i oQ;have h2:=h n oQ;show sumF f n+f n<=sumF g n+g n;omega
structure Wider (b o:RBk):Prop where
 steps:o.steps=b.steps
 round:o.round=b.round
 roll:b.roll<=o.roll
 rolls:b.rolls<=o.rolls
 len:o.seams.length=b.seams.length
 shr:o.shrinks=b.shrinks
 mes:o.measures=b.measures
 sm:∀ i,i<b.seams.length->(sm o i).step=(sm b i).step/\(sm o i).busy<=(sm b i).busy/\(sm o i).spoil<=(sm b i).spoil/\(sm o i).whole=(sm b i).whole/\(sm b i).most<=(sm o i).most
theorem Wider.at {b o:RBk} (h:Wider b o) (r:Int):Wider (atRound b r) (atRound o r):=⟨h.steps,rfl,h.roll,h.rolls,h.len,h.shr,h.mes,h.sm⟩
theorem Wider.wide {b o:RBk} (h:Wider b o) {i:Nat} (hi:i<b.seams.length):wideM o i=wideM b i:=by
 unfold wideM;rw [h.len,h.steps,(h.sm i hi).1,(h.sm 0 oQ).1];by_cases e:i+1<b.seams.length
 ·rw [if_pos e,if_pos e,(h.sm _ e).1]
 ·rw [if_neg e,if_neg e]
theorem Wider.tog {b o:RBk} (h:Wider b o) (h0:0<b.seams.length) (s:List Int) (c:Nat):∀ k,togM o s c k=togM b s c k
 | 0=>rfl
 | k+1=>by
  unfold togM nowM;rw [h.tog h0 s c k,h.len,h.wide (Nat.mod_lt _ h0)]
theorem Wider.from {b o:RBk} (h:Wider b o) (h0:0<b.seams.length):∀ (r:List RBand) (p:List Int),fromM o p r=fromM b p r
 | [],p=>by
  unfold fromM rightM;rw [h.mes];simp only [h.tog h0]
 | x::r,p=>by
  unfold fromM;congr 1;funext n;exact h.from h0 r _
theorem Wider.states {b o:RBk} (h:Wider b o) (h0:0<b.seams.length):zh o=zh b:=by
 unfold zh;rw [h.shr];exact h.from h0 _ _
theorem Wider.cuts {b o:RBk} (h:Wider b o) {l:List Int} (hl:CutsOk b l):CutsOk o l:=⟨hl.pos,fun n hn=>by rw [h.len]; exact hl.bnd n hn,hl.asc⟩
theorem Wider.cut {b o:RBk} (h:Wider b o) {l:List Int} (hl:CutsOk b l) {k:Nat} (hk:k<l.length):(cutS o l k).step=(cutS b l k).step/\(cutS o l k).busy<=(cutS b l k).busy/\(cutS o l k).spoil<=(cutS b l k).spoil/\(cutS o l k).whole=(cutS b l k).whole/\(cutS b l k).most<=(cutS o l k).most:=h.sm _ (hl.lt hk).2.2
theorem Wider.st {b o:RBk} (h:Wider b o) {s:List Int} (hs:StOk b s):StOk o s:=⟨by rw [h.len]; exact hs.len,fun i hi=>by
 rw [h.len] at hi;rw [h.wide hi];exact hs.bnd i hi⟩
theorem Wider.fits {b o:RBk} (h:Wider b o) {l:List Int} (hl:CutsOk b l) (hf:fitsM b l=true):fitsM o l=true:=by
 unfold fitsM at hf ⊢;rw [mX,decide_eq_true_eq,List.all_eq_true] at hf ⊢;refine ⟨by have:=h.rolls; omega,fun k hk=>?_⟩;have h1:=hf.2 k hk;have hkl:=List.mem_range.1 hk;rw [mX,decide_eq_true_eq] at h1 ⊢;rw [(h.cut hl hkl).2.2.2.1];refine ⟨h1.1,?_⟩;have e:(stripM o l k).2=(stripM b l k).2:=by
  unfold stripM endM;dsimp only;rw [h.steps,(h.cut hl hkl).1,(h.cut hl hl.pos).1];by_cases e:k+1<l.length
  ·rw [if_pos e,if_pos e,(h.cut hl e).1]
  ·rw [if_neg e,if_neg e]
 rw [e];have:=h.roll;omega
theorem Wider.hang {b o:RBk} (h:Wider b o) (hb:ROk b) (ho:ROk o) {l s w:List Int} {q:Int} (hl:CutsOk b l) (hs:StOk b s) (hz:hangM b l s=some (w,q)):∃ w' q',hangM o l s=some (w',q')/\q'<=q:=by
 obtain ⟨hfit,hwl,hsum,hq,hws⟩:=zbC hb hl hs hz;have hfo:=zb7 hb hl hs;rw [hz,hfit,Bool.true_and] at hfo;have hle:yn b s<=mostS b l l.length:=of_decide_eq_true hfo.symm;have hfr:yn o s=yn b s:=by unfold yn; rw [h.round,h.steps]
 have hms:∀ n,n<=l.length->mostS b l n<=mostS o l n:=by
  intro n
  induction n with
  | zero=>intro _; exact Int.le_refl _
  | succ n ih =>
   intro hn;have h1:=ih oQ;have h2:=(h.cut hl (k:=n) oQ).2.2.2.2;show mostS b l n+(cutS b l n).most<=mostS o l n+(cutS o l n).most;omega
 have hfo2:=zb7 ho (h.cuts hl) (h.st hs);have hms:=hms l.length (mL _);rw [h.fits hl hfit,Bool.true_and,decide_eq_true (show yn o s<=mostS o l l.length by omega)] at hfo2;obtain ⟨⟨w',q'⟩,hz2⟩:=Option.isSome_iff_exists.1 hfo2;refine ⟨w',q',hz2,?_⟩;obtain ⟨_,_,_,hq2,_⟩:=zbC ho (h.cuts hl) (h.st hs) hz2;have:=(cheapest ho (h.cuts hl) (h.st hs) hz2 (x:=w) hwl (fun i=>⟨(hws i).1,fun hi=>by have h1:=(hws i).2 hi; have h2:=(h.cut hl hi).2.2.2.2; omega⟩) (by rw [hsum,hfr])).1;have e:needM o l w l.length<=needM b l w l.length:=by
  unfold needM;refine zgI _ fun i hi=>?_;have h1:=(h.cut hl hi).2.1;have h2:=(h.cut hl hi).2.2.1;have h3:=Int.mul_le_mul_of_nonneg_left h1 (hws i).1;omega
 omega
theorem Wider.sq {b o:RBk} (h:Wider b o) (hb:ROk b) (ho:ROk o) {all:List (List Int)} (hne:all≠[]) (hall:okAll b all) {l:List Int} (hl:CutsOk b l) (hs:sqOk b all l=true):sqOk o all l=true/\sqHi o all l<=sqHi b all l:=by
 obtain ⟨h1,_,h3⟩:=zmd (o:=o) hne hs fun s hs w q hz=>h.hang hb ho hl (hall s hs) hz;exact ⟨h1,h3⟩
theorem Wider.best {b o:RBk} (h:Wider b o) (hb:ROk b) (ho:ROk o) {all:List (List Int)} (hne:all≠[]) (hall:okAll b all) {c:Nat} {bt:List Int×Int->List Int×Int->Bool} (hp:PlanA b all bt c):¬ NoPlan o all:=fun hn=>by
 have h1:=(h.sq hb ho hne hall (vo hb hp.1 hp.2.1) hp.2.2.1).1;have h2:=hn c hp.1 (by rw [h.len]; exact hp.2.1);rw [h.len,h1] at h2;cases h2
theorem Wider.bestLe {b o:RBk} (h:Wider b o) (hb:ROk b) (ho:ROk o) {all:List (List Int)} (hne:all≠[]) (hall:okAll b all) {c d:Nat} (hp:PlanA b all cheaperM c) (hq:PlanA o all cheaperM d):sqHi o all (zu d o.seams.length)<=sqHi b all (zu c b.seams.length):=by
 obtain ⟨h1,h2⟩:=h.sq hb ho hne hall (vo hb hp.1 hp.2.1) hp.2.2.1;have h3:=(zjn (d:=c) hq hp.1 (by rw [h.len]; exact hp.2.1) (by rw [h.len]; exact h1)).1;rw [h.len] at h3 ⊢;omega
theorem Wider.fewLe {b o:RBk} (h:Wider b o) (hb:ROk b) (ho:ROk o) {all:List (List Int)} (hne:all≠[]) (hall:okAll b all) {c d:Nat} (hp:PlanA b all shorterM c) (hq:PlanA o all shorterM d):(zu d o.seams.length).length<=(zu c b.seams.length).length:=by
 obtain ⟨h1,h2⟩:=h.sq hb ho hne hall (vo hb hp.1 hp.2.1) hp.2.2.1;have h3:=zll (d:=c) hq hp.1 (by rw [h.len]; exact hp.2.1) (by rw [h.len]; exact h1);rw [h.len] at h3 ⊢;rcases mR (zu c b.seams.length).length (zu d b.seams.length).length with hlt | hge
 ·have:yz (zu c b.seams.length) (zu d b.seams.length)=true:=(kx _ _).2 (.inl hlt);rw [h3] at this;cases this
 ·exact hge
theorem Wider.canAt {b o:RBk} (h:Wider b o) (hb:ROk b) (ho:ROk o) {all:List (List Int)} (hne:all≠[]) (hall:okAll b all) {r:Int} (h1:b.steps<=r) (h2:r<=40) (hc:canAt b all r=true):canAt o all r=true:=by
 unfold Go.Vel.canAt at hc ⊢;rw [List.any_eq_true] at hc ⊢;obtain ⟨c,c1,c2⟩:=hc;rw [mX,decide_eq_true_eq] at c2;have hcl:=List.mem_range.1 c1;have hbr:=zar hb (r:=r) h1 h2;have hor:=zar ho (r:=r) (by rw [h.steps]; exact h1) h2;refine ⟨c,by rw [h.len]; exact c1,?_⟩;rw [mX,decide_eq_true_eq,h.len];exact ⟨c2.1,((h.at r).sq hbr hor hne (zf3 hall r) (vo hbr c2.1 hcl) c2.2).1⟩
theorem Wider.widest {b o:RBk} (h:Wider b o) (hb:ROk b) (ho:ROk o) {all:List (List Int)} (hne:all≠[]) (hall:okAll b all) (hs:(widestM b all).isSome=true):(widestM o all).isSome=true/\(widestM b all).getD 0<=(widestM o all).getD 0:=by
 have hst:=hb.rnd.steps;obtain ⟨n,hn⟩:=Option.isSome_iff_exists.1 hs;have hbd:=zje oQ hn;have hc:=zcy (b:=b) (all:=all) oQ hbd.1 hbd.2;rw [hn] at hc;simp only [Option.isSome_some,Option.getD_some,Int.le_refl,decide_true,Bool.and_true] at hc;have hco:=h.canAt hb ho hne hall hbd.1 hbd.2 hc;rw [zcy (b:=o) (by rw [h.steps]; omega) (by rw [h.steps]; exact hbd.1) hbd.2,mX,decide_eq_true_eq] at hco;rw [hn];exact hco
def preS (b:RBk):Nat->List (List Int)
 | 0=>[[]]
 | i+1=>(preS b i).flatMap fun p=>(numsM (bd b i)).map fun n=>p++[n]
def extL:List (List Int)->List RBand->List (List Int)
 | L,[]=>L
 | L,x::r=>extL (L.flatMap fun p=>(numsM x).map fun n=>p++[n]) r
theorem zde:∀ (r:List RBand) (L:List (List Int)) (x:RBand),extL L (r++[x])=(extL L r).flatMap fun p=>(numsM x).map fun n=>p++[n]
 | [],L,x=>rfl
 | y::r,L,x=>zde r _ x
theorem zee (b:RBk):∀ (r:List RBand) (L:List (List Int)),(L.flatMap fun p=>fromM b p r)=(extL L r).filter (rightM b)
 | [],L=>by
  unfold extL
  induction L with
  | nil=>rfl
  | cons p L ih =>
   rw [List.flatMap_cons,ih];unfold fromM;by_cases h:rightM b p=true
   ·rw [if_pos h,List.filter_cons_of_pos h]; rfl
   ·rw [if_neg h,List.filter_cons_of_neg h]; rfl
 | x::r,L=>by
  have key:∀ p,fromM b p (x::r)=(numsM x).flatMap fun n=>fromM b (p++[n]) r:=fun p=>by
   conv=>lhs; unfold fromM
  unfold extL;rw [<- zee b r]
  induction L with
  | nil=>rfl
  | cons p L ih=>rw [List.flatMap_cons,ih,List.flatMap_cons,List.flatMap_append,List.flatMap_map,key]
theorem zeR (b:RBk):∀ i,i<=b.shrinks.length->preS b i=extL [[]] (b.shrinks.take i)
 | 0,_=>by rw [List.take_zero]; rfl
 | i+1,h=>by
  rw [yA (kA (b:=b) (i:=i) oQ),zde,<- zeR b i oQ];rfl
theorem zhp (b:RBk):(preS b b.shrinks.length).filter (rightM b)=zh b:=by
 rw [zeR b _ (mL _),lW,<- zee];rw [List.flatMap_cons,List.flatMap_nil,lR];rfl
theorem zbF {b:RBk} (hb:ROk b):∀ i,i<=b.shrinks.length->∀ p∈preS b i,p.length=i/\PreB b p
 | 0,_,p,hp=>by rw [lS.1 hp]; exact ⟨rfl,zcN b⟩
 | i+1,h,p,hp=>by
  obtain ⟨q,hq,hp⟩:=List.mem_flatMap.1 hp;obtain ⟨n,hn,rfl⟩:=lY.1 hp;obtain ⟨h1,h2⟩:=zbF hb i oQ q hq;have hbd:=hb.cls.bnd i (by have:=hb.cls.len; omega);rw [zeE hbd.2.1] at hn;exact ⟨by rw [lF,h1]; rfl,zbG h2 oQ (by rw [h1]; exact hn.1) (by rw [h1]; exact hn.2)⟩
theorem zaI:∀ (k:Nat) (n:Int),(numsF n k).length=k
 | 0,_=>rfl
 | k+1,n=>by unfold numsF; rw [lZ,zaI k]
theorem vP {f:List Int->List (List Int)} (hf:∀ p,(f p).length<=3):∀ L:List (List Int),(L.flatMap f).length<=L.length*3
 | []=>mN _
 | p::L=>by
  rw [List.flatMap_cons,lF,lZ];have h1:=hf p;have h2:=vP hf L;omega
theorem zeS {b:RBk} (hb:ROk b):∀ i,i<=b.shrinks.length->(preS b i).length<=3 ^ i
 | 0,_=>mL _
 | i+1,h=>by
  have h1:=zeS hb i oQ;have hbd:=hb.cls.bnd i (by have:=hb.cls.len; omega);have h2:=vP (f:=fun p=>(numsM (bd b i)).map fun n=>p++[n]) (fun p=>by
   rw [lJ];unfold numsM;rw [zaI];omega) (preS b i)
  rw [Nat.pow_succ];show ((preS b i).flatMap _).length<=_;omega
end Go.Vel
namespace Go.Vel
open Go Go.Conc Go.Proofs
section
variable {P:Program} {gm:Nat->Option Nat} {T:Goroutine->Hp->Prop} {Y:KX P gm T} {ds:List Nat} {k:List Item} {env env':List AV} {K:KV}
theorem TK.nilRow {t e:TypeId} {x:Option Addr} {s j:Nat} {K':Nat->KV} (hu:∀ j',Upd K j (.row [.v (.slice x 0 0)] t s) j (.row [.sl j' 0 0] t s) (K' j')) (h:∀ j',j'∉keys K->TK Y ds k env ((j',.cells [] e false)::K' j')):TK Y ds k env K:=fun A hA φ H ts h1 h2 h3 h4 h5 h6=>by
 have hk:A.length∉keys K:=fun hm=>absurd (hA.view.lt hm) (Nat.lt_irrefl _);have hH:=h5.virtO (o:=.cells [] e false) (fun φ n hl=>absurd rfl hl) (fun hl=>hl rfl);have hag:=yw φ A.length ⟨0,0,0⟩;have hlen:(A++[AObj.cells [] e false]).length=A.length+1:=by simp
 have hds:dsC (upd3 φ A.length ⟨0,0,0⟩) ds=dsC φ ds:=by
  unfold dsC;exact mA fun d hd'=>by rw [hag d (h4 d hd')]
 have hj:=hA.view.get (hu A.length).mem;have hjl:j<A.length:=(lD.1 hj).1;have hj2:(A++[AObj.cells [] e false])[j]? =some (.row [.v (.slice x 0 0)] t s):=by rw [List.getElem?_append_left hjl]; exact hj
 have hstep:=hA.step (.push hA.view hA.nd (.cells [] e false));have hstep2:=hstep.step (.set hstep.view hstep.nd (Upd.tail (hu A.length)));rw [<- hds];refine h _ hk _ hstep2 _ H ts (h1.trans hag h2) (by simp; omega) (by simpa using h3.mono hag oQ) (fun d hd=>by have:=h4 d hd; simp; omega) (hH.turn hj2 (fun ho=>?_) (fun h=>h) (fun _=>rfl) (fun hs=>hs)) (by simpa using h6.mono hag oQ);obtain ⟨q0,q1,q2⟩:=ho;refine ⟨fun hc=>absurd (q0 hc) sQ,q1,fun hc=>?_⟩;obtain ⟨cur,p1,p2,p3,p4,p5⟩:=q2 hc;refine ⟨cur,p1,p2,p3,by simpa using p4,fun t' a ha=>?_⟩;cases t' with
 | zero =>
  simp only [List.getElem?_cons_zero,Option.some.injEq] at ha;subst ha;obtain ⟨y,hy,hr⟩:=p5 0 _ rfl;refine ⟨y,hy,?_⟩;rw [inv_v hr];exact .sl sQ (mN _) fun hp=>absurd hp (Nat.lt_irrefl _)
 | succ t'=>simp at ha
theorem zaT:∀ R L:KV,Split (R++L) R L
 | [],L=>.none L
 | x::R,L=>.left (zaT R L)
theorem TK.dropP {R L:KV} (hp:K.Perm (R++L)) (h:TK Y ds k env R):TK Y ds k env K:=bN hp (TK.keep (zaT R L) h)
end
def objsL (P:List (Nat×List Int)):KV:=P.map fun x=>(x.1,.cells (x.2.map intA) 3 false)
def refsL (P:List (Nat×List Int)):List AV:=P.map fun x=>.sl x.1 0 x.2.length
theorem zdu {P:List (Nat×List Int)} {x:Nat×List Int} (h:x∈P):(x.1,AObj.cells (x.2.map intA) 3 false)∈objsL P:=lY.2 ⟨x,h,rfl⟩
theorem zcR {P:List (Nat×List Int)} {k:Nat} {n:Int} (hk:k<P.length) (h:n=(k:Int)) {e:TypeId} {sz:Nat}:takeO (.row (refsL P) e sz) (n.toNat*1) 1=some [.sl P[k].1 0 P[k].2.length]:=by
 subst h;rw [mZ,Nat.mul_one];simp only [takeO,AObj.look];rw [if_pos (by simp [refsL]; omega)];simp [List.take_one,refsL,hk]
theorem ints1 (xs:List Int):(xs.map intA).all oneA=true:=by
 rw [List.all_map]; exact List.all_eq_true.2 fun _ _=>rfl
theorem zgo {P:List (Nat×List Int)} {A:List (List Int)} (h:P.map (·.2)=A) {k:Nat} (hk:k<P.length):A[k]? =some P[k].2:=by
 rw [<- h];simp [hk]
theorem zht {K:KV} {x:Nat×AObj}:x∈K->∃ R,Rem K x R:=by
 induction K with
 | nil=>intro h; cases h
 | cons y K ih =>
  intro h;rcases lI.1 h with rfl | h
  ·exact ⟨_,.head⟩
  ·obtain ⟨R,hR⟩:=ih h;exact ⟨_,.tail hR⟩
def stepS (b:RBk) (i:Nat) (p:List Int):List (List Int):=(numsM (bd b i)).map fun n=>p++[n]
theorem zkb (x:RBand):∀ t,t<(x.high+1 - x.low).toNat->(numsM x)[t]? =some (x.low+t):=by
 have key:∀ (k:Nat) (n:Int) (t:Nat),t<k->(numsF n k)[t]? =some (n+t):=by
  intro k
  induction k with
  | zero=>intro n t h; omega
  | succ k ih =>
   intro n t h;unfold numsF;cases t with
   | zero=>simp
   | succ t =>
    rw [List.getElem?_cons_succ,ih (n+1) t oQ];congr 1;omega
 exact fun t h=>key _ _ t h
theorem zaK (x:RBand):(numsM x).length=(x.high+1 - x.low).toNat:=by
 unfold numsM;rw [zaI]
theorem ziB {α:Type} {A:List α} {x:α} {L M:List α}:(x::(A++(L++M))).Perm (A++M++(x::L)):=by
 have h1:(A++(L++M)).Perm ((A++M)++L):=by
  rw [List.append_assoc];exact List.Perm.append_left A lH
 exact (List.Perm.cons x h1).trans (List.perm_middle (a:=x) (l₁:=A++M) (l₂:=L)).symm
theorem zfN {main T} (hT:zn tp main T) {gm} {b:RBk} {s h e j:Nat} {st:List Int} {et:TypeId} {m:RMeas} (hb:ROk b) (hs:StOk b st) (hm:0<=m.cloth/\m.cloth<b.seams.length/\1<=m.many/\m.many<=b.seams.length) :
  zq tp T gm 123 [.agg (zD b s h e),.agg (yk m),.sl j 0 st.length] [(s,zl b),(j,.cells (st.map intA) et false)] (fun r K'=>r=zw (decide (togM b st m.cloth.toNat m.many.toNat=m.wide))/\K'=[(s,zl b),(j,.cells (st.map intA) et false)]):=by
 refine zm 17 hT Tryz.func123 fun Y hret=>?_;refine au 0 ?_;obtain ⟨mc,mm,mw⟩:=m;dsimp only at hm;obtain ⟨c,rfl⟩:=Int.eq_ofNat_of_zero_le hm.1;obtain ⟨k,rfl⟩:=Int.eq_ofNat_of_zero_le (show 0<=mm by omega);refine au 21042 ?_;intro jb hjb;refine au 210 ?_;intro jm hjm;refine au 235 ?_;refine TK.dr [0,1,2,3,4,5,7,8,6,9,10] [0,1,2,3,4,5,6,7,8,9,10] ?_;refine ad [[12,3],[3,4],[10,8],[3,4],[10,10],[1,2],[3,4],[10,14]] ?_;refine bQ (pend':=[⟨8,[14],[(_,_)]⟩,⟨7,[4],[]⟩,⟨3,[4],[]⟩,⟨1,[4],[]⟩]) [7,9,11,12] Z Z Z Z Z (zhG hT (c:=c) (m:=k) hb hs oQ oQ) (fun r1 K2 h3=>⟨?_,?_⟩)
 ·rcases h3 with ⟨rfl,rfl⟩
  all_goals simp
 obtain ⟨rfl,rfl⟩:=h3;try simp only [cA]
 refine bS tQ ?_;refine ad [[4,13,15],[13,16],[14]] ?_;refine au 0 ?_;refine bB hret [(s,_),(j,_)] ?_;exact ⟨rfl,rfl⟩
theorem ziN {main T} (hT:zn tp main T) {gm} {b:RBk} {s h e j:Nat} {st:List Int} {et:TypeId} (hb:ROk b) (hs:StOk b st) :
  zq tp T gm 99 [.agg (zD b s h e),.sl j 0 st.length] [(s,zl b),(e,zt b),(j,.cells (st.map intA) et false)] (fun r K'=>r=zw (rightM b st)/\K'=[(s,zl b),(e,zt b),(j,.cells (st.map intA) et false)]):=by
 refine zm 22 hT Tryz.func99 fun Y hret=>?_;refine au 0 ?_;have hml:=hb.mes.len;refine au 21042 ?_;intro jb hjb;refine au 1303542235 ?_;refine bA [1,2,5] ?_;refine bC [(s,_),(e,_),(j,_),(jb,_)] ?_;refine bE (fun n env K=>∃ (i:Nat),n=b.measures.length - i/\i<=b.measures.length/\(∀ m∈b.measures.take i,decide (togM b st m.cloth.toNat m.many.toNat=m.wide)=true)/\env=.any::.sl j 0 st.length::.ptr jb 0::naL 2 (intA i::naL 16 [])/\K=[(s,zl b),(e,zt b),(j,.cells (st.map intA) et false),(jb,.cells (zD b s h e) 26 true)]) b.measures.length ⟨0,rfl,mN _,fun m hm=>by simp at hm,rfl,rfl⟩ fun n env K hI hnext=>?_;obtain ⟨i,rfl,hi,hri,rfl,rfl⟩:=hI;refine bG nQ ?_;refine au 9372806906701422 ?_;constructor<;>intro hc0
 ·have hil:i<b.measures.length:=by simp at hc0; omega
  obtain ⟨x,hx⟩:∃ x,b.measures[i]? =some x:=⟨_,lA hil⟩;have hxb:=hb.mes.bnd x (lN hx);refine au 21302120 ?_;refine bL [0,1,2,3,4,5,6,7,8] ?_;refine ad [[12,2],[3,2],[10,14],[1,5],[2,15,16]] ?_;refine bT [17] Z (hq:=zK Z Z ze.h (mC _) (zcd (i:=i) hx Z)) (h:=?_);refine ad [[1,1]] ?_;refine bQ (pend':=[⟨4,[15,16],[]⟩,⟨3,[5],[]⟩,⟨2,[14],[(_,_)]⟩,⟨1,[2],[]⟩]) [13,18,19] Z Z Z Z Z (zfN hT (m:=x) hb hs ⟨hxb.1,hxb.2.1,hxb.2.2.1,hxb.2.2.2.1⟩) (fun r1 K2 h3=>⟨?_,?_⟩)
  ·rcases h3 with ⟨rfl,rfl⟩
   all_goals simp
  obtain ⟨rfl,rfl⟩:=h3;try simp only [cA]
  refine bS tQ ?_;refine bU [20] Z (q_not Z Z) ?_;refine ad [[14]] ?_;refine au 9 ?_;constructor<;>intro hc1
  ·refine au 3542 ?_;refine bB hret [(s,_),(e,_),(j,_)] ?_;exact ⟨by rw [show rightM b st=false from List.all_eq_false.2 ⟨x,lN hx,by simpa using hc1⟩],rfl⟩
  refine au 3523014140120 ?_;refine bA [1,2,5] ?_;refine bC [(s,_),(e,_),(j,_),(jb,_)] ?_;exact hnext _ _ _ oQ ⟨i+1,rfl,oQ,fun m hm=>by
   rw [yA hx] at hm;rcases lT.1 hm with hm | hm
   ·exact hri m hm
   ·rw [lS.1 hm]; simpa using hc1,rfl,rfl⟩
 obtain rfl:i=b.measures.length:=by simp at hc0; omega
 refine au 3542160 ?_;refine bB hret [(s,_),(e,_),(j,_)] ?_;exact ⟨by rw [show rightM b st=true from List.all_eq_true.2 fun m hm=>hri m (by rw [lW]; exact hm)],rfl⟩
theorem zky {main T} (hT:zn tp main T) {gm} {b:RBk} {s h e:Nat} {P:List (Nat×List Int)} {x:Nat×List Int} (hb:ROk b) (hs:StOk b x.2) (hx:x∈P):zq tp T gm 99 [.agg (zD b s h e),.sl x.1 0 x.2.length] ((s,zl b)::(e,zt b)::objsL P) (fun r K'=>r=zw (rightM b x.2)/\K'=(s,zl b)::(e,zt b)::objsL P):=by
 obtain ⟨R,hR⟩:=zht (zdu hx);exact (ziN hT hb hs).frameP (R:=R) (List.Perm.cons _ (List.Perm.cons _ hR.perm))
instance:ApOf tp 121 29 1 24:={}
instance:zE tp 121 29 1:={}
instance:TyZ tp 29 [.slice none 0 0]:={}
instance:Und tp 121 (.slice 29):={}
theorem zhA {main T} (hT:zn tp main T) {gm} {b:RBk} {s h e:Nat} (hb:ROk b) :
  zq tp T gm 51 [.agg (zD b s h e)] [(s,zl b),(h,zF b),(e,zt b)] (fun r K'=>∃ (jr:Nat) (Q:List (Nat×List Int)),r=.row jr (zh b).length/\K'=(jr,.row (refsL Q) 29 1)::[(s,zl b),(h,zF b),(e,zt b)]):=by
 refine zm 73 hT Tryz.func51 fun Y hret=>?_;refine au 0 ?_;have hsl:=hb.sms.len;have hcl:=hb.cls.len;have h243:∀ i,i<=5->3 ^ i<=243:=fun i hi=>mT (Nat.pow_le_pow_right dQ hi) dQ;refine au 21042 ?_;intro jb hjb;refine au 4235 ?_;refine bI Z Z Z (zp (l:=[_]) Z zE.h TyZ.h dQ dQ Z) (fun _=>zr rfl tQ) fun j0 hj0=>?_;refine au 5 ?_;refine TK.nilRow (e:=3) (fun _=>uQ) fun je hje=>?_;refine au 130354223 ?_;refine bA [1,3,4] ?_;refine bC [(j0,_),(h,_),(jb,_),(s,_),(e,_),(je,_)] ?_;refine bE (fun n env K=>∃ (i ja:Nat) (P:List (Nat×List Int)),n=b.shrinks.length - i/\i<=b.shrinks.length/\P.map (·.2)=preS b i/\env=.any::.ptr jb 0::.any::.row ja P.length::intA i::naL 68 []/\K=(ja,.row (refsL P) 29 1)::(h,zF b)::(jb,.cells (zD b s h e) 26 true)::(s,zl b)::(e,zt b)::objsL P) b.shrinks.length ⟨0,j0,[(je,[])],rfl,mN _,rfl,rfl,rfl⟩ fun n env K hI hnext=>?_;obtain ⟨i,ja,P,rfl,hi,hP,rfl,rfl⟩:=hI;have hPl:P.length=(preS b i).length:=by rw [<- hP,lJ]
 have hPb:P.length<=243:=by have:=zeS hb i hi; have:=h243 i oQ; omega
 refine bG nQ ?_;refine au 9372806906701422 ?_;constructor<;>intro hc0
 ·have hil:i<b.shrinks.length:=by simp at hc0; omega
  have hbd:=hb.cls.bnd i oQ;refine au 5421302120 ?_;refine TK.virt 5 29 1 Z fun jn0 hjn0=>?_;refine au 130354223 ?_;refine bA [1,3,4,5,6] ?_;refine bN (K':=(jn0,.row [] 29 1)::(ja,.row (refsL P) 29 1)::(h,zF b)::(jb,.cells (zD b s h e) 26 true)::(s,zl b)::(e,zt b)::(objsL P++objsL [])) (by simp [objsL]) ?_;refine bE (fun n env K=>∃ (q jn:Nat) (Q:List (Nat×List Int)),n=P.length - q/\q<=P.length/\Q.map (·.2)=((preS b i).take q).flatMap (stepS b i)/\env=.any::.ptr jb 0::.any::.row ja P.length::intA i::.row jn Q.length::intA q::naL 66 []/\K=(jn,.row (refsL Q) 29 1)::(ja,.row (refsL P) 29 1)::(h,zF b)::(jb,.cells (zD b s h e) 26 true)::(s,zl b)::(e,zt b)::(objsL P++objsL Q)) P.length ⟨0,jn0,[],rfl,mN _,rfl,rfl,rfl⟩ fun n env K hI2 hnext2=>?_;obtain ⟨q,jn,Q,rfl,hq,hQ,rfl,rfl⟩:=hI2;refine bG nQ ?_;refine au 93728011422 ?_;constructor<;>intro hc1
  ·have hql:q<P.length:=by simp at hc1; omega
   have hg:(preS b i)[q]? =some P[q].2:=zgo hP hql;obtain ⟨pq,hpq⟩:∃ pq,pq=P[q]:=⟨_,rfl⟩;rw [<- hpq] at hg;have hpl:=(zbF hb i hi pq.2 (lN hg)).1;have hmp:pq∈P:=hpq ▸ List.getElem_mem hql;refine au 6703601690670421302120 ?_;refine bH Z (zk Z Z ze.h mQ (yd (c:=0) (bd_at b (i:=i) hil Z) dQ Z)) ?_;refine au 13035 ?_;refine bA [1,3,4,5,6,7] ?_;refine bE (fun n env K=>∃ (t jn:Nat) (Q:List (Nat×List Int)),n=((bd b i).high+1 - (bd b i).low).toNat - t/\t<=((bd b i).high+1 - (bd b i).low).toNat/\Q.map (·.2)=((preS b i).take q).flatMap (stepS b i)++((numsM (bd b i)).take t).map (fun n=>P[q].2++[n])/\env=.any::.ptr jb 0::.any::.row ja P.length::intA i::.row jn Q.length::intA q::intA ((bd b i).low+(t:Int))::naL 65 []/\K=(jn,.row (refsL Q) 29 1)::(ja,.row (refsL P) 29 1)::(h,zF b)::(jb,.cells (zD b s h e) 26 true)::(s,zl b)::(e,zt b)::(objsL P++objsL Q)) ((bd b i).high+1 - (bd b i).low).toNat ⟨0,jn,Q,rfl,mN _,by rw [hQ,List.take_zero,List.map_nil,lR],by rw [show (bd b i).low+((0:Nat):Int)=(bd b i).low by omega]; rfl,rfl⟩ fun n env K hI3 hnext3=>?_;obtain ⟨t,jn,Q,rfl,ht,hQ,rfl,rfl⟩:=hI3;rw [<- hpq] at hQ;have hQl:Q.length<=1000:=by
    have h1:=congrArg List.length hQ;rw [lJ,lF,lJ,List.length_take,zaK] at h1;have h2:=vP (f:=stepS b i) (fun p=>by unfold stepS; rw [lJ,zaK]; omega) ((preS b i).take q);rw [List.length_take] at h2;omega
   refine bG nQ ?_;refine au 67036016906701422 ?_;refine bH Z (zk Z Z ze.h mQ (yd (c:=1) (bd_at b (i:=i) hil Z) dQ Z)) ?_;refine au 937 ?_;constructor<;>intro hc2
   ·have htl:t<((bd b i).high+1 - (bd b i).low).toNat:=by simp at hc2; omega
    have hmx:(pq.1,AObj.cells (pq.2.map intA) 3 false)∈objsL P++objsL Q:=List.mem_append_left _ (zdu hmp);refine au 141302120 ?_;refine bI Z Z Z (zp (l:=[]) Z zE.h TyZ.h dQ dQ Z) (fun _=>zr rfl tQ) fun j9 hj9=>?_;refine au 37011 ?_;refine bH Z (zk Z Z ze.h mQ (zcR hql Z)) ?_;rw [<- hpq];refine TK.appG (ln:=pq.2.map intA) Z Z Z ApOf.h Z mQ Z Z Z (fun hp=>kR mQ oQ (ke (n:=pq.2.length) (size:=1) sQ oQ)) (fun h=>by simp [lK h]) (ints1 _) (by unfold maxLen; omega) oQ (fun _=>uQ) (fun _=>zr rfl tQ) fun j6=>?_;simp only [lC,mO];refine au 1 ?_;refine bI Z Z Z (zp (l:=[_]) Z zE.h TyZ.h dQ dQ Z) (fun _=>zr rfl tQ) fun j1 hj1=>?_;refine TK.appR Z Z Z (a_app Z ApOf.h Z mQ sQ Z (yg (ln:=[_]) mQ dQ sQ Z) oQ Z (by unfold maxLen; omega) oQ) (fun _=>uQ) (fun _=>zr rfl tQ) fun j3=>?_;refine TK.asSl 49 Z mQ ?_;refine TK.frzRow (j:=j3) ?_;refine au 0 ?_;refine bI Z Z Z (zp (l:=[_]) Z zE.h TyZ.h dQ dQ Z) (fun _=>zr rfl tQ) fun j2 hj2=>?_;refine TK.appR Z Z Z (a_app Z ApOf.h Z mQ (by simp [refsL]) Z (yg (ln:=[_]) mQ dQ sQ Z) oQ Z (by unfold maxLen; omega) oQ) (fun _=>uQ) (fun _=>zr rfl tQ) fun j4=>?_;refine au 352301414035 ?_;refine bA [1,3,4,5,6,7] ?_;refine bC (((j4,_)::(j3,_)::(ja,_)::(h,_)::(jb,_)::(s,_)::(e,_)::(objsL P++objsL Q))) ?_;refine bN (K':=(j4,.row (refsL Q++[.sl j3 0 (pq.2.length+1)]) 29 1)::(ja,.row (refsL P) 29 1)::(h,zF b)::(jb,.cells (zD b s h e) 26 true)::(s,zl b)::(e,zt b)::(objsL P++(objsL Q++[(j3,.cells (pq.2.map intA++[intA ((bd b i).low+(t:Int))]) 3 false)]))) ?_ ?_
    ·rw [<- List.append_assoc];exact List.Perm.cons _ (List.perm_append_singleton (j3,_) ((ja,.row (refsL P) 29 1)::(h,zF b)::(jb,.cells (zD b s h e) 26 true)::(s,zl b)::(e,zt b)::(objsL P++objsL Q))).symm
    exact hnext3 _ _ _ oQ ⟨t+1,j4,Q++[(j3,pq.2++[(bd b i).low+(t:Int)])],rfl,oQ,by rw [lM,hQ,<- hpq,yA (zkb _ t htl),lM,List.append_assoc]; rfl,by rw [lF,show (bd b i).low+(t:Int)+1=(bd b i).low+((t+1:Nat):Int) by omega]; rfl,by simp [refsL,objsL]⟩
   obtain rfl:t=((bd b i).high+1 - (bd b i).low).toNat:=by simp at hc2; omega
   refine au 3523014140160 ?_;refine bA [1,3,4,5,6] ?_;refine bC (((jn,_)::(ja,_)::(h,_)::(jb,_)::(s,_)::(e,_)::(objsL P++objsL Q))) ?_;exact hnext2 _ _ _ oQ ⟨q+1,jn,Q,rfl,oQ,by rw [hQ,show (numsM (bd b i)).take ((bd b i).high+1 - (bd b i).low).toNat=numsM (bd b i) from List.take_of_length_le (by rw [zaK]; exact mL _),yA hg,List.flatMap_append]; simp [stepS],rfl,rfl⟩
  obtain rfl:q=P.length:=by simp at hc1; omega
  have hQ:Q.map (·.2)=preS b (i+1):=by rw [hQ,hPl,lW]; rfl
  refine au 35230141403514160 ?_;refine bA [1,3,4] ?_;refine bC (((jn,_)::(ja,_)::(h,_)::(jb,_)::(s,_)::(e,_)::(objsL P++objsL Q))) ?_;refine TK.dropP (R:=(jn,.row (refsL Q) 29 1)::(h,zF b)::(jb,.cells (zD b s h e) 26 true)::(s,zl b)::(e,zt b)::objsL Q) (L:=(ja,.row (refsL P) 29 1)::objsL P) ?_ ?_
  ·exact List.Perm.cons _ (ziB (A:=(h,zF b)::(jb,.cells (zD b s h e) 26 true)::(s,zl b)::(e,zt b)::[]) (x:=(ja,.row (refsL P) 29 1)) (L:=objsL P) (M:=objsL Q))
  exact hnext _ _ _ oQ ⟨i+1,jn,Q,rfl,oQ,hQ,rfl,rfl⟩
 obtain rfl:i=b.shrinks.length:=by simp at hc0; omega
 refine au 542160 ?_;refine TK.virt 8 29 1 Z fun jo0 hjo0=>?_;refine au 130354223 ?_;refine bA [1,3,8,9] ?_;refine bE (fun n env K=>∃ (q jo:Nat) (Q:List (Nat×List Int)),n=P.length - q/\q<=P.length/\Q.map (·.2)=((preS b b.shrinks.length).take q).filter (rightM b)/\env=.any::.ptr jb 0::.any::.row ja P.length::naL 4 (.row jo Q.length::intA q::naL 63 [])/\K=(jo,.row (refsL Q) 29 1)::(ja,.row (refsL P) 29 1)::(h,zF b)::(jb,.cells (zD b s h e) 26 true)::(s,zl b)::(e,zt b)::objsL P) P.length ⟨0,jo0,[],rfl,mN _,rfl,rfl,rfl⟩ fun n env K hI4 hnext4=>?_;obtain ⟨q,jo,Q,rfl,hq,hQ,rfl,rfl⟩:=hI4;have hQl:(Q.map (·.2)).length=Q.length:=lJ ..;have hQb:Q.length<=243:=by
  rw [<- hQl,hQ];have h1:=List.length_filter_le (rightM b) ((preS b b.shrinks.length).take q);rw [List.length_take] at h1;omega
 refine bG nQ ?_;refine au 93728011422 ?_;constructor<;>intro hc3
 ·have hql:q<P.length:=by simp at hc3; omega
  have hg:(preS b b.shrinks.length)[q]? =some P[q].2:=zgo hP hql;have hmp:P[q]∈P:=List.getElem_mem hql;obtain ⟨hpl,hpb⟩:=zbF hb _ (mL _) P[q].2 (lN hg);have hst:StOk b P[q].2:=zes hb ⟨hpl,fun i hi=>hpb.2 i oQ⟩;refine au 21302120 ?_;refine bL [0,1,2,3,4,5] ?_;refine ad [[12,1],[1,3],[1,9]] ?_;refine bT [60,61] Z (hq:=kq Z Z Z zE.h (mC _) oQ oQ) (h:=?_);refine bT [62] Z (hq:=zk Z Z ze.h (mC _) (zcR hql Z)) (h:=?_);refine bQ (pend':=[⟨3,[60,61],[(_,_)]⟩,⟨2,[9],[]⟩,⟨1,[3],[]⟩]) [59,63] Z Z Z Z Z (zky hT hb hst hmp) (fun r3 K4 h5=>⟨?_,?_⟩)
  ·rcases h5 with ⟨rfl,rfl⟩
   all_goals simp
  obtain ⟨rfl,rfl⟩:=h5;try simp only [cA]
  refine bS tQ ?_;refine TD.perm (lH (l₁:=(s,_)::(e,_)::objsL P)) ?_;simp only [cA];refine ad [[14]] ?_;refine au 9 ?_;constructor<;>intro hc4
  ·refine au 3701114 ?_;refine bH Z (zk Z Z ze.h mQ (zcR hql Z)) ?_;refine bI Z Z Z (zp (l:=[_]) Z zE.h TyZ.h dQ dQ Z) (fun _=>zr rfl tQ) fun j6 hj6=>?_;refine TK.appR Z Z Z (a_app Z ApOf.h Z mQ (by simp [refsL]) Z (yg (ln:=[_]) mQ dQ sQ Z) oQ Z (by unfold maxLen; omega) oQ) (fun _=>uQ) (fun _=>zr rfl tQ) fun jo2=>?_;refine au 352301414035 ?_;refine bA [1,3,8,9] ?_;refine bC (((jo2,_)::(ja,_)::(h,_)::(jb,_)::(s,_)::(e,_)::objsL P)) ?_;exact hnext4 _ _ _ oQ ⟨q+1,jo2,Q++[P[q]],rfl,oQ,by rw [lM,hQ,yA hg,List.filter_append,List.filter_cons_of_pos hc4]; rfl,by rw [lF]; rfl,by simp [refsL] <;> rfl⟩
  refine au 3523014140120 ?_;refine bA [1,3,8,9] ?_;refine bC (((jo,_)::(ja,_)::(h,_)::(jb,_)::(s,_)::(e,_)::objsL P)) ?_;exact hnext4 _ _ _ oQ ⟨q+1,jo,Q,rfl,oQ,by rw [hQ,yA hg,List.filter_append,List.filter_cons_of_neg (by rw [hc4]; decide),List.filter_nil,lR],rfl,rfl⟩
 obtain rfl:q=P.length:=by simp at hc3; omega
 rw [hPl] at hQ;refine au 35142160 ?_;refine bB hret [(jo,_),(s,_),(h,_),(e,_)] ?_;exact ⟨jo,Q,by rw [<- zhp,<- hQl,hQ,lW] <;> rfl,rfl⟩
end Go.Vel
namespace Go.Vel
open Go Go.Conc
def moreB (b:RBk) (ro ra:Int) (sms:List RSeam):RBk:={ b with rolls:=ro,roll:=ra,seams:=sms }
def busyX (x:RSeam) (v:Int):RSeam:={ x with busy:=v }
def spoilX (x:RSeam) (v:Int):RSeam:={ x with spoil:=v }
def setS (f:RSeam->Int->RSeam):List RSeam->List Int->List RSeam
 | x::xs,v::vs=>f x v::setS f xs vs
 | xs,_=>xs
def setB (f:RSeam->Int->RSeam) (b:RBk) (l:List Int):RBk:=moreB b b.rolls b.roll (setS f b.seams l)
theorem zfb (f:RSeam->Int->RSeam) (xs:List RSeam):setS f xs []=xs:=by cases xs <;> rfl
theorem wq (f:RSeam->Int->RSeam):∀ (xs:List RSeam) (l:List Int),(setS f xs l).length=xs.length
 | [],_=>rfl
 | x::xs,[]=>rfl
 | x::xs,v::vs=>congrArg (· + 1) (wq f xs vs)
theorem zfa (f:RSeam->Int->RSeam):∀ (xs:List RSeam) (l:List Int) (i:Nat) (x:RSeam) (v:Int),xs[i]? =some x->l[i]? =some v->(setS f xs l)[i]? =some (f x v)
 | [],_,i,x,v,h,_=>by cases h
 | y::xs,[],i,x,v,_,h=>by cases h
 | y::xs,u::vs,0,x,v,h,h2=>by cases h; cases h2; rfl
 | y::xs,u::vs,i+1,x,v,h,h2=>zfa f xs vs i x v h h2
theorem zfc (f:RSeam->Int->RSeam):∀ (xs:List RSeam) (l:List Int) (i:Nat),l.length<=i->(setS f xs l)[i]? =xs[i]?
 | [],_,i,_=>rfl
 | y::xs,[],i,_=>rfl
 | y::xs,u::vs,0,h=>by simp at h
 | y::xs,u::vs,i+1,h=>zfc f xs vs i (by simpa using h)
theorem zfd (f:RSeam->Int->RSeam):∀ (xs:List RSeam) (l:List Int) (i:Nat) (x:RSeam) (v:Int),xs[i]? =some x->l[i]? =some v->(setS f xs (l.take i)).set i (f x v)=setS f xs (l.take (i+1))
 | [],_,i,x,v,h,_=>by cases h
 | y::xs,[],i,x,v,_,h=>by cases h
 | y::xs,u::vs,0,x,v,h,h2=>by cases h; cases h2; show f y u::xs=f y u::setS f xs []; rw [zfb]
 | y::xs,u::vs,i+1,x,v,h,h2=>by
  show f y u::(setS f xs (vs.take i)).set i (f x v)=f y u::setS f xs (vs.take (i+1));rw [zfd f xs vs i x v h h2]
theorem vu {f:RSeam->Int->RSeam} {b:RBk} {l:List Int} (hl:l.length=b.seams.length) {i:Nat} (hi:i<b.seams.length):sm (setB f b l) i=f (sm b i) (l.getD i 0):=by
 have h1:(setS f b.seams l)[i]? =some (sm (setB f b l) i):=yL (b:=setB f b l) (by show i<(setS f b.seams l).length; rw [wq]; exact hi);have h2:l[i]? =some (l.getD i 0):=by rw [lE,lA oQ]; rfl
 rw [zfa f _ _ i _ _ (yL hi) h2] at h1;exact (Option.some.inj h1).symm
structure KeepX (f:RSeam->Int->RSeam):Prop where
 step:∀ x v,(f x v).step=x.step
 most:∀ x v,(f x v).most=x.most
 whole:∀ x v,(f x v).whole=x.whole
theorem zdl:KeepX busyX:=⟨fun _ _=>rfl,fun _ _=>rfl,fun _ _=>rfl⟩
theorem zkE {f:RSeam->Int->RSeam} (hf:KeepX f) {b:RBk} {l:List Int} (hl:l.length=b.seams.length) {i:Nat} (hi:i<b.seams.length):wideM (setB f b l) i=wideM b i:=by
 have hn:(setB f b l).seams.length=b.seams.length:=wq f _ _;unfold wideM;rw [hn,vu hl hi,vu hl (show 0<b.seams.length by omega),hf.step,hf.step];by_cases e:i+1<b.seams.length
 ·rw [if_pos e,if_pos e,vu hl e,hf.step]
 ·rw [if_neg e,if_neg e]; rfl
theorem znt {f:RSeam->Int->RSeam} (hf:KeepX f) {b:RBk} (hb:ROk b) {l:List Int} (hl:l.length=b.seams.length) (hv:∀ i,i<b.seams.length->(0<=(f (sm b i) (l.getD i 0)).busy/\(f (sm b i) (l.getD i 0)).busy<=9)/\0<=(f (sm b i) (l.getD i 0)).spoil/\(f (sm b i) (l.getD i 0)).spoil<=9):ROk (setB f b l):=by
 have hr:=hb.rnd;have hlen:(setB f b l).seams.length=b.seams.length:=wq f _ _;refine ⟨⟨hr.steps,hr.round,hr.roll,hr.rolls⟩,⟨by rw [hlen]; exact hb.sms.len,fun k hk=>?_,fun k j hkj hj=>?_⟩,⟨by rw [hlen]; exact hb.cls.len,fun k hk=>?_⟩,⟨hb.mes.len,fun m hm=>?_⟩⟩
 ·rw [hlen] at hk;have h1:=hb.sms.fld k hk;have h2:=hv k hk;rw [vu hl hk,hf.step,hf.most];show _/\_<b.steps/\_;omega
 ·rw [hlen] at hj;rw [vu hl (show k<b.seams.length by omega),vu hl hj,hf.step,hf.step];exact hb.sms.asc k j hkj hj
 ·rw [hlen] at hk;rw [zkE hf hl hk];exact hb.cls.bnd k hk
 ·rw [hlen];exact hb.mes.bnd m hm
theorem ziR {f:RSeam->Int->RSeam} (hf:KeepX f) {b:RBk} {l m:List Int} (hl:l.length=b.seams.length) (hm:m.length=b.seams.length) (hv:∀ i,i<b.seams.length->(f (sm b i) (m.getD i 0)).busy<=(f (sm b i) (l.getD i 0)).busy/\(f (sm b i) (m.getD i 0)).spoil<=(f (sm b i) (l.getD i 0)).spoil):Wider (setB f b l) (setB f b m):=by
 have hn:(setB f b l).seams.length=b.seams.length:=wq f _ _;have hn2:(setB f b m).seams.length=b.seams.length:=wq f _ _;refine ⟨rfl,rfl,Int.le_refl _,Int.le_refl _,hn2.trans hn.symm,rfl,rfl,fun i hi=>?_⟩;rw [hn] at hi;rw [vu hl hi,vu hm hi,hf.step,hf.step,hf.most,hf.most,hf.whole,hf.whole];exact ⟨rfl,(hv i hi).1,(hv i hi).2,rfl,Int.le_refl _⟩
theorem zf4 {b:RBk} (hb:ROk b) {l:List Int} (hl:l.length=b.seams.length) (hv:∀ v∈l,0<=v/\v<=9):zx (setB busyX b l)=0:=zkf (znt zdl hb hl fun i hi=>by
 have h1:=hb.sms.fld i hi;have h2:=hv _ (lN (show l[i]? =some (l.getD i 0) by rw [lE,lA oQ]; rfl));show (0<=l.getD i 0/\l.getD i 0<=9)/\0<=(sm b i).spoil/\(sm b i).spoil<=9;omega)
theorem zgT {b:RBk} {l m:List Int} (hl:l.length=b.seams.length) (hm:m.length=b.seams.length) (hv:∀ i,i<b.seams.length->m.getD i 0<=l.getD i 0):Wider (setB busyX b l) (setB busyX b m):=ziR zdl hl hm fun i hi=>⟨hv i hi,Int.le_refl _⟩
end Go.Vel
namespace Go.Vel
open Go Go.Conc Go.Proofs
theorem zkq {xs:List RSeam} {i:Nat} {n:Int} {x:RSeam} {v:Int} {e:TypeId} (h:xs[i]? =some x) (hn:n=(i:Int)):putO (.row (xs.flatMap seamC) e 5) (n.toNat*5+2) [intA v]=some (.row ((xs.set i (busyX x v)).flatMap seamC) e 5):=by
 subst hn;unfold putO;dsimp only;have hl:=yy seamC 5 (fun _=>rfl) xs;obtain ⟨hi,_⟩:=lD.1 h;rw [if_pos ⟨by rw [hl]; simp; omega,by simp,rfl⟩];have key:∀ (xs:List RSeam) (i:Nat),xs[i]? =some x->setL (xs.flatMap seamC) (i*5+2) [intA v]=(xs.set i (busyX x v)).flatMap seamC:=by
  intro xs
  induction xs with
  | nil=>intro i hi; simp at hi
  | cons y r ih =>
   intro i hi;cases i with
   | zero=>cases hi; rfl
   | succ i =>
    rw [List.set_cons_succ,List.flatMap_cons,List.flatMap_cons,<- ih i (by simpa using hi)];rw [show (i+1)*5+2=(seamC y).length+(i*5+2) by show _=5+_; omega];show (seamC y++r.flatMap seamC).set ((seamC y).length+(i*5+2)) (intA v)=seamC y++(r.flatMap seamC).set (i*5+2) (intA v);rw [List.set_append_right _ _ oQ];congr 2;omega
 rw [show (i:Int).toNat*5+2=i*5+2 by rw [mZ],key xs i h]
theorem zio {Ψ:Goroutine->World->Prop} {b:RBk} {s h e s2:Nat} {ro ra:Int} {sms:List RSeam} (hck:zx b=0) (hok:zx (moreB b ro ra sms)=0) (hne:zh b≠[]) (hw:Wider b (moreB b ro ra sms)) :
  zq tp (BT tp Ψ) gmR 52 [.agg (zD b s h e),.agg (zD (moreB b ro ra sms) s2 h e)] [(0,zB),(s,zl b),(h,zF b),(e,zt b),(s2,zl (moreB b ro ra sms))] (fun r K'=>r=zw true/\K'=[(0,zB),(s,zl b),(h,zF b),(e,zt b),(s2,zl (moreB b ro ra sms))]):=by
 have hT:=kz (P:=tp) Ψ;refine zm 123 hT Tryz.func52 fun Y hret=>?_;refine au 0 ?_;have hbb:=zZ hck;have hob:=zZ hok;have hl:b.seams.length<=100:=by have:=hbb.sms.len; omega
 have hm:b.measures.length<=100:=by have:=hbb.mes.len; omega
 have hl2:(moreB b ro ra sms).seams.length<=100:=by have:=hob.sms.len; omega
 have hm2:(moreB b ro ra sms).measures.length<=100:=hm;have hpos:0<b.seams.length:=by have:=hbb.sms.len; omega
 have hst:=hw.states hpos;have hne2:zh (moreB b ro ra sms)≠[]:=by rw [hst]; exact hne
 have hall:okAll b (zh b):=fun s hs=>(ki hbb hs).1;refine au 21042 ?_;intro jb hjb;refine au 210 ?_;intro jb2 hjb2;refine au 6804235 ?_;refine bD Z Z Z Z ((za3 hl hm).mono (fun _ _ h=>or3 h hck hne)) ?_;rintro r1 K2 h3;rcases h3 with ⟨hno,rfl,rfl⟩ | ⟨c,jc,ec,hp,rfl,rfl⟩
 ·refine au 680423555566661 ?_;refine bD Z Z Z Z ((za3 (b:=(moreB b ro ra sms)) (s:=s2) (h:=h) (e:=e) hl2 hm2).mono (fun _ _ h=>or3 h hok hne2)) ?_;rintro r4 K5 h6;rcases h6 with ⟨hno2,rfl,rfl⟩ | ⟨d,jd,ed,hq,rfl,rfl⟩
  ·refine au 0 ?_;refine au 680423555566661 ?_;refine bD Z Z Z Z ((wj hl hm).mono (fun _ _ h=>or3 h hck hne)) ?_;rintro r7 K8 h9;rcases h9 with ⟨hnf,rfl,rfl⟩ | ⟨f,jf,ef,hf,rfl,rfl⟩
   ·refine au 0 ?_;refine au 6804235556661 ?_;refine bD Z Z Z Z ((wj (b:=(moreB b ro ra sms)) (s:=s2) (h:=h) (e:=e) hl2 hm2).mono (fun _ _ h=>or3 h hok hne2)) ?_;rintro r10 K11 h12;rcases h12 with ⟨hnf2,rfl,rfl⟩ | ⟨g,jg,eg,hg,rfl,rfl⟩
    ·refine au 0 ?_;refine au 6804235556661 ?_;refine bD Z Z Z Z ((wu hl hm).mono (fun _ _ h=>or3 h hck hne)) ?_;rintro r13 K14 ⟨rfl,rfl⟩;refine au 6804235556661 ?_;refine bD Z Z Z Z ((wu (b:=(moreB b ro ra sms)) (s:=s2) (h:=h) (e:=e) hl2 hm2).mono (fun _ _ h=>or3 h hok hne2)) ?_;rintro r16 K17 ⟨rfl,rfl⟩;refine au 0 ?_;rw [hst];refine au 13001126026088888888130011260260888888130011260711260711260711260711260711714235556661 ?_;refine bF 114 (fun g7_52=>?_) (fun g7_52=>?_)
     ·refine au 35260260888888 ?_;refine bB hret [(0,_),(s,_),(h,_),(e,_),(s2,_)] ?_;exact ⟨by first | rfl | simp [w2],rfl⟩
     have hws:(widestM b (zh b)).isSome=true:=by simpa using g7_52
     obtain ⟨w1,w2⟩:=hw.widest hbb hob hne hall hws;rw [w1];refine au 3526025026071111 ?_;refine bB hret [(0,_),(s,_),(h,_),(e,_),(s2,_)] ?_;exact ⟨by first | rfl | simp [w2],rfl⟩
    ·refine au 0 ?_;exact (vI hg hno2).elim
   ·refine au 0 ?_;exact (vI hf hno).elim
  ·refine au 0 ?_;refine au 680423555566661 ?_;refine bD Z Z Z Z ((wj hl hm).mono (fun _ _ h=>or3 h hck hne)) ?_;rintro r19 K20 h21;rcases h21 with ⟨hnf,rfl,rfl⟩ | ⟨f,jf,ef,hf,rfl,rfl⟩
   ·refine au 0 ?_;refine au 6804235556661 ?_;refine bD Z Z Z Z ((wj (b:=(moreB b ro ra sms)) (s:=s2) (h:=h) (e:=e) hl2 hm2).mono (fun _ _ h=>or3 h hok hne2)) ?_;rintro r22 K23 h24;rcases h24 with ⟨hnf2,rfl,rfl⟩ | ⟨g,jg,eg,hg,rfl,rfl⟩
    ·refine au 0 ?_;exact (vI hq hnf2).elim
    ·refine au 0 ?_;refine au 6804235556661 ?_;refine bD Z Z Z Z ((wu hl hm).mono (fun _ _ h=>or3 h hck hne)) ?_;rintro r25 K26 ⟨rfl,rfl⟩;refine au 6804235556661 ?_;refine bD Z Z Z Z ((wu (b:=(moreB b ro ra sms)) (s:=s2) (h:=h) (e:=e) hl2 hm2).mono (fun _ _ h=>or3 h hok hne2)) ?_;rintro r28 K29 ⟨rfl,rfl⟩;refine au 0 ?_;rw [hst];refine au 13001126026088888888130011260260888888130011260711260711260711260711260711714235556661 ?_;refine bF 114 (fun g7_52=>?_) (fun g7_52=>?_)
     ·refine au 35260260888888 ?_;refine bB hret [(0,_),(s,_),(h,_),(e,_),(s2,_)] ?_;exact ⟨by first | rfl | simp [w2],rfl⟩
     have hws:(widestM b (zh b)).isSome=true:=by simpa using g7_52
     obtain ⟨w1,w2⟩:=hw.widest hbb hob hne hall hws;rw [w1];refine au 3526025026071111 ?_;refine bB hret [(0,_),(s,_),(h,_),(e,_),(s2,_)] ?_;exact ⟨by first | rfl | simp [w2],rfl⟩
   ·refine au 0 ?_;exact (vI hf hno).elim
 ·refine au 680423555566661 ?_;refine bD Z Z Z Z ((za3 (b:=(moreB b ro ra sms)) (s:=s2) (h:=h) (e:=e) hl2 hm2).mono (fun _ _ h=>or3 h hok hne2)) ?_;rintro r31 K32 h33;rcases h33 with ⟨hno2,rfl,rfl⟩ | ⟨d,jd,ed,hq,rfl,rfl⟩
  ·refine au 0 ?_;rw [hst] at hno2; exact (hw.best hbb hob hne hall hp hno2).elim
  ·refine au 0 ?_;have hle:=hw.bestLe hbb hob hne hall hp (hst ▸ hq);refine au 680423555566661 ?_;refine bD Z Z Z Z ((wj hl hm).mono (fun _ _ h=>or3 h hck hne)) ?_;rintro r34 K35 h36;rcases h36 with ⟨hnf,rfl,rfl⟩ | ⟨f,jf,ef,hf,rfl,rfl⟩
   ·refine au 0 ?_;exact (vI hp hnf).elim
   ·refine au 0 ?_;refine au 6804235556661 ?_;refine bD Z Z Z Z ((wj (b:=(moreB b ro ra sms)) (s:=s2) (h:=h) (e:=e) hl2 hm2).mono (fun _ _ h=>or3 h hok hne2)) ?_;rintro r37 K38 h39;rcases h39 with ⟨hnf2,rfl,rfl⟩ | ⟨g,jg,eg,hg,rfl,rfl⟩
    ·refine au 0 ?_;exact (vI hq hnf2).elim
    ·refine au 0 ?_;have hfl:=hw.fewLe hbb hob hne hall hf (hst ▸ hg);refine au 6804235556661 ?_;refine bD Z Z Z Z ((wu hl hm).mono (fun _ _ h=>or3 h hck hne)) ?_;rintro r40 K41 ⟨rfl,rfl⟩;refine au 6804235556661 ?_;refine bD Z Z Z Z ((wu (b:=(moreB b ro ra sms)) (s:=s2) (h:=h) (e:=e) hl2 hm2).mono (fun _ _ h=>or3 h hok hne2)) ?_;rintro r43 K44 ⟨rfl,rfl⟩;refine au 0 ?_;rw [hst];refine au 126025026071111130011260711260711260711260711260711714235556661 ?_;refine bF 97 (fun g7_35=>?_) (fun g7_35=>?_)
     ·refine au 12602502607280128011113001 ?_;refine bF 111 (fun g7_49=>?_) (fun g7_49=>?_)
      ·refine au 13001 ?_;refine bF 114 (fun g7_52=>?_) (fun g7_52=>?_)
       ·refine au 35260260888888 ?_;refine bB hret [(0,_),(s,_),(h,_),(e,_),(s2,_)] ?_;exact ⟨by first | rfl | simp [w2],rfl⟩
       have hws:(widestM b (zh b)).isSome=true:=by simpa using g7_52
       obtain ⟨w1,w2⟩:=hw.widest hbb hob hne hall hws;rw [w1];refine au 3526025026071111 ?_;refine bB hret [(0,_),(s,_),(h,_),(e,_),(s2,_)] ?_;exact ⟨by first | rfl | simp [w2],rfl⟩
      simp at g7_49; omega
     simp [hst] at g7_35; omega
theorem zd1 {main T} (hT:zn tp main T) {gm} {b:RBk} {s h e j:Nat} {l:List Int} (hb:ROk b) (hl:l.length=b.seams.length) :
  zq tp T gm 14 [.agg (zD b s h e),.sl j 0 b.seams.length] [(s,zl b),(j,.cells (l.map intA) 3 false)] (fun r K'=>∃ js,r=.agg (zD (setB busyX b l) js h e)/\K'=[(js,zl (setB busyX b l)),(s,zl b),(j,.cells (l.map intA) 3 false)]):=by
 refine zm 34 hT Tryz.func14 fun Y hret=>?_;refine au 0 ?_;have hfl:=yy seamC 5 (fun _=>rfl) b.seams;have hls:=hb.sms.len;refine au 21042 ?_;intro jb hjb;refine au 220 ?_;intro jr hjr;refine au 23 ?_;refine bC [(jb,.cells [intA b.steps,intA b.round,intA b.roll,intA b.rolls,.sl s 0 b.seams.length,.sl h 0 b.shrinks.length,.sl e 0 b.measures.length] 26 true),(jr,.cells [intA 0,intA 0,intA 0,intA 0,.v (.slice none 0 0),.v (.slice none 0 0),.v (.slice none 0 0)] 26 true),(s,_),(j,_)] ?_;refine au 4 ?_;refine bI Z Z Z (zp (l:=[]) Z zE.h TyZ.h dQ dQ Z) (fun _=>zr rfl tQ) fun j1 hj1=>?_;refine au 690670 ?_;refine TK.appG (ln:=b.seams.flatMap seamC) Z Z Z ApOf.h Z mQ Z Z Z (fun hp=>kR mQ oQ (ke hfl oQ)) (fun h=>lK oQ) (kK seamC (fun _=>rfl) _) (by unfold maxLen; omega) oQ (fun _=>uQ) (fun _=>zr rfl tQ) fun js0=>?_;simp only [lC,mO];refine au 223170670 ?_;refine TK.normK (K':=[(js0,.row (b.seams.flatMap seamC) 54 5),(jb,.cells [intA b.steps,intA b.round,intA b.roll,intA b.rolls,.row js0 b.seams.length,.sl h 0 b.shrinks.length,.sl e 0 b.measures.length] 26 true),(jr,.cells [intA 0,intA 0,intA 0,intA 0,.v (.slice none 0 0),.v (.slice none 0 0),.v (.slice none 0 0)] 26 true),(s,zl b),(j,.cells (l.map intA) 3 false)]) (by simp only [setL,List.drop_zero,List.take,List.set,List.drop,List.cons_append,lC,List.length]; rfl) ?_;refine au 130354 ?_;refine bA [1,2,4,5] ?_;refine bC [(jb,_),(js0,_),(jr,_),(s,_),(j,_)] ?_;refine bE (fun m env K=>∃ (i js:Nat),m=b.seams.length - i/\i<=b.seams.length/\env=.any::.sl j 0 b.seams.length::.ptr jb 0::.any::.ptr jr 0::intA i::naL 28 []/\K=[(jb,.cells [intA b.steps,intA b.round,intA b.roll,intA b.rolls,.row js b.seams.length,.sl h 0 b.shrinks.length,.sl e 0 b.measures.length] 26 true),(js,.row ((setS busyX b.seams (l.take i)).flatMap seamC) 54 5),(jr,.cells [intA 0,intA 0,intA 0,intA 0,.v (.slice none 0 0),.v (.slice none 0 0),.v (.slice none 0 0)] 26 true),(s,zl b),(j,.cells (l.map intA) 3 false)]) b.seams.length ⟨0,js0,rfl,mN _,rfl,by rw [List.take_zero,zfb]⟩ fun m env K hI hnext=>?_;obtain ⟨i,js,rfl,hi,rfl,rfl⟩:=hI;have hsl:=wq busyX b.seams (l.take i);refine bG nQ ?_;refine au 172806906701422 ?_;refine bF 16 (fun g3_6=>?_) (fun g3_6=>?_)
 ·refine au 93260728011 ?_;constructor<;>intro hc0
  ·have hil:i<b.seams.length:=by simp at g3_6; omega
   obtain ⟨x,hlx⟩:∃ x,l[i]? =some x:=⟨_,lA oQ⟩;have hsx:(setS busyX b.seams (l.take i))[i]? =some (sm b i):=by rw [zfc _ _ _ _ (by rw [List.length_take]; omega)]; exact yL hil
   refine au 1302120 ?_;refine bL [0,1,2,3,4,5,6,7,8,9] ?_;refine ad [[3,2],[10,24],[1,5],[1,1],[1,5],[2,27,28]] ?_;refine bT [29] Z (hq:=zk Z Z ze.h (mC _) (yr hlx Z)) (h:=?_);refine bT [25,26] Z (hq:=kq Z Z Z zE.h (mC _) oQ oQ) (h:=?_);refine TD.as (pend':=[]) [31] Z Z (zd Z Z zj.h dQ) ?_;refine TD.s (pend':=[]) [30,32] Z Z (zM Z Z ze.h Z Z mQ (zkq (i:=i) hsx Z)) ?_;refine ad [[14]] ?_;refine au 3523014140 ?_;refine bA [1,2,4,5] ?_;refine bC [(jb,_),(js,_),(jr,_),(s,_),(j,_)] ?_;exact hnext _ _ _ oQ ⟨i+1,js,rfl,oQ,rfl,by rw [<- zfd busyX b.seams l i _ _ (yL hil) hlx]⟩
  simp at hc0 g3_6; omega
 obtain rfl:i=b.seams.length:=by simp at g3_6; omega
 refine au 216019032508888 ?_;refine TK.unrowAt (c:=jb) (i:=4) (j:=js) Z mQ uQ ?_;refine TK.frzRow (j:=js) ?_;refine au 31706804 ?_;refine bB hret [(js,_),(s,_),(j,_)] ?_;exact ⟨js,by unfold setB moreB zD; simp only [wq] <;> rfl,by rw [show l.take b.seams.length=l by rw [<- hl,lW]] <;> rfl⟩
theorem zhT {Ψ:Goroutine->World->Prop} {b:RBk} {s h e s2:Nat} {l m:List Int} (hk1:zx (setB busyX b l)=0) (hk2:zx (setB busyX b m)=0) (hw:Wider (setB busyX b l) (setB busyX b m)) :
  zq tp (BT tp Ψ) gmR 13 [.agg (zD (setB busyX b l) s h e),.agg (zD (setB busyX b m) s2 h e)] [(0,zB),(s,zl (setB busyX b l)),(h,zF b),(e,zt b),(s2,zl (setB busyX b m))] (fun r K'=>r=zw true/\K'=[(0,zB),(s,zl (setB busyX b l)),(h,zF b),(e,zt b),(s2,zl (setB busyX b m))]):=by
 have hT:=kz (P:=tp) Ψ;refine zm 22 hT Tryz.func13 fun Y hret=>?_;refine au 0 ?_;have hb1:=zZ hk1;have hb2:=zZ hk2;have hl1:(setB busyX b l).seams.length<=100:=by have:=hb1.sms.len; omega
 have hl2:(setB busyX b m).seams.length<=100:=by have:=hb2.sms.len; omega
 have hm1:(setB busyX b l).measures.length<=100:=by have:=hb1.mes.len; omega
 refine au 21042 ?_;intro jb hjb;refine au 210 ?_;intro jb2 hjb2;refine au 68042235 ?_;refine TK.clE Z Z Z Z (zas hT (b:=(setB busyX b l)) (s:=s) (h:=h) (e:=e) hl1 hm1) ?_;refine au 0 ?_;rw [hk1];refine au 17 ?_;refine bF 8 (fun g1_4=>?_) (fun g1_4=>?_)
 ·exact absurd g1_4 dQ
 refine au 680 ?_;refine TK.clE Z Z Z Z (zas hT (b:=(setB busyX b m)) (s:=s2) (h:=h) (e:=e) hl2 hm1) ?_;refine au 0 ?_;rw [hk2];refine au 932507 ?_;constructor<;>intro hc0
 ·exact absurd hc0 dQ
 refine au 68042120 ?_;refine bD Z Z Z Z (zhA hT (b:=(setB busyX b l)) (s:=s) (h:=h) (e:=e) hb1) ?_;rintro r7 K8 ⟨jq,Q,rfl,rfl⟩;refine au 17280 ?_;refine bF 17 (fun g3_5=>?_) (fun g3_5=>?_)
 ·refine au 35260888 ?_;refine bB hret [(0,_),(s,_),(h,_),(e,_),(s2,_)] ?_;exact ⟨rfl,rfl⟩
 have hne:zh (setB busyX b l)≠[]:=fun hh=>by rw [hh] at g3_5; exact absurd g3_5 dQ
 refine au 680680 ?_;refine TK.clE Z Z Z Z (zio (b:=(setB busyX b l)) (s:=s) (h:=h) (e:=e) (s2:=s2) (ro:=b.rolls) (ra:=b.roll) (sms:=setS busyX b.seams m) hk1 hk2 hne hw) ?_;refine au 35250 ?_;refine bB hret [(0,_),(s,_),(h,_),(e,_),(s2,_)] ?_;exact ⟨rfl,rfl⟩
end Go.Vel
namespace Go.Vel
structure SunR where
 step:Int
 high:Int
 deriving Inhabited
structure EyeR where
 at0:Int
 high:Int
 deriving Inhabited
structure WatR where
 hour:Int
 step:Int
 lit:Bool
 deriving Inhabited
structure SlB where
 steps:Int
 dirty:Int
 slope:Int
 lo:Int
 hi:Int
 clean:List Int
 rf:Int
 rh:Int
 cf:Int
 ch:Int
 suns:List SunR
 eyes:List EyeR
 watches:List WatR
structure SlBase (b:SlB):Prop where
 st:4<=b.steps/\b.steps<=12
 di:0<=b.dirty/\b.dirty<=2
 sp:1<=b.slope/\b.slope<=4
 sh : -3<=b.lo/\b.lo<=b.hi/\b.hi<=3
 wd:b.hi - b.lo<3
 cl:∀ i (h:i<b.clean.length),0<=b.clean[i]/\b.clean[i]<b.steps/\∀ h0:0<i,b.clean[i - 1]'oQ<b.clean[i]
 rg:2<=b.rf/\b.rf<=30/\2<=b.rh/\b.rh<=60/\0<=b.cf/\b.cf<=b.rf/\1<=b.ch/\b.ch<=60/\b.ch<b.rh
 nsu:1<=b.suns.length/\b.suns.length<=4
 sun:∀ x∈b.suns,0<=x.step/\x.step<b.steps /\ -9<=x.high/\x.high<=9
 ney:b.eyes.length<=3
 eye:∀ x∈b.eyes,1 - b.rf<=x.at0/\x.at0<=b.rf - 1/\0<=x.high/\x.high<=60/\x.high<b.ch
def watOk (b:SlB) (x:WatR):Bool:=(decide (0<=x.hour)&&decide (x.hour<=(b.suns.length:Int) - 1))&&(decide (0<=x.step)&&decide (x.step<=b.steps - 1))
structure SlWat (b:SlB):Prop where
 len:b.watches.length<=4
 all:∀ x∈b.watches,watOk b x=true
structure SkyR where
 shift:Int
 dirty:List Bool
def sunI (b:SlB) (h:Int):SunR:=b.suns.getD h.toNat default
theorem zbg {b:SlB} {h:Nat} (hh:h<b.suns.length):b.suns[h]? =some (sunI b h):=by
 unfold sunI;rw [mZ,lE,lA hh]; rfl
def darkS (b:SlB) (s:SkyR) (h:Int):Bool:=decide ((sunI b h).high+s.shift<=0)||s.dirty.getD (sunI b h).step.toNat false
def onL (b:SlB) (h:Int) (n:Int):Int:=(n - ((sunI b h).step+b.steps / 2) % b.steps+b.steps) % b.steps
def litN (b:SlB) (s:SkyR) (h:Int) (n:Int):Bool:=decide (min (onL b h n) (b.steps - onL b h n)<=((sunI b h).high+s.shift) / b.slope)
def fallsI (b:SlB) (s:SkyR) (h:Int) (i:Int):List Bool:=(List.range 12).map fun (n:Nat)=>decide ((n:Int)<i)&&litN b s h n
def fallsM (b:SlB) (s:SkyR) (h:Int):List Bool:=if darkS b s h=true then mB 12 false else fallsI b s h b.steps
theorem zg8 (b:SlB) (s:SkyR) (h i:Int):(fallsI b s h i).length=12:=by simp [fallsI]
theorem zjK (b:SlB) (s:SkyR) (h:Int):fallsI b s h 0=mB 12 false:=by
 refine List.ext_getElem (by simp [fallsI]) fun n h1 h2=>?_;simp only [fallsI,List.getElem_map,List.getElem_range,List.getElem_replicate];rw [decide_eq_false oQ]; rfl
theorem zjL {b:SlB} {s:SkyR} {h:Int} {i:Nat} (hi:i<12):(fallsI b s h i).set i (litN b s h i)=fallsI b s h ((i:Int)+1):=by
 refine List.ext_getElem (by simp [fallsI]) fun n h1 h2=>?_;rw [List.getElem_set];simp only [fallsI,List.getElem_map,List.getElem_range];by_cases hn:i=n
 ·subst hn;rw [if_pos rfl,decide_eq_true oQ]; rfl
 ·rw [if_neg hn];congr 1;exact decide_eq_decide.2 oQ
def rightS (b:SlB) (s:SkyR) (w:WatR):Bool:=(fallsM b s w.hour).getD w.step.toNat false==w.lit
def allRight (b:SlB) (s:SkyR):Bool:=b.watches.all (rightS b s)
def shiftsI (b:SlB) (d:List Bool) (n:Int):List SkyR:=(List.range (b.hi+1 - n).toNat).map fun (k:Nat)=>⟨n+k,d⟩
theorem zfh {b:SlB} {d:List Bool} {n:Int} (h:n<=b.hi):shiftsI b d n=⟨n,d⟩::shiftsI b d (n+1):=by
 unfold shiftsI;rw [show (b.hi+1 - n).toNat=(b.hi+1 - (n+1)).toNat+1 by omega,List.range_succ_eq_map,List.map_cons,List.map_map];congr 1
 ·simp
 ·refine mA fun k _=>?_;simp only [Function.comp];congr 1;omega
theorem zhw {b:SlB} {d:List Bool} {n:Int} (h:¬ n<=b.hi):shiftsI b d n=[]:=by
 unfold shiftsI;rw [show (b.hi+1 - n).toNat=0 by omega]; rfl
def skyM (b:SlB):Nat->Int->List Bool->List SkyR
 | 0,_,d=>shiftsI b d b.lo
 | left+1,step,d=>(List.range (b.steps - step).toNat).flatMap fun (k:Nat)=>if b.clean.contains (step+k) then [] else skyM b left (step+k+1) (d.set (step+k).toNat true)
def skyR (b:SlB) (left:Nat) (step:Int) (d:List Bool):List SkyR:=skyM b (left+1) step d
theorem zfj {b:SlB} {left:Nat} {n:Int} {d:List Bool} (h:n<b.steps):skyM b (left+1) n d=(if b.clean.contains n then [] else skyM b left (n+1) (d.set n.toNat true))++skyM b (left+1) (n+1) d:=by
 conv=>lhs; unfold skyM
 conv=>rhs; rhs; unfold skyM
 rw [show (b.steps - n).toNat=(b.steps - (n+1)).toNat+1 by omega,List.range_succ_eq_map,List.flatMap_cons,List.flatMap_map];congr 1
 ·simp
 ·congr 1;funext k;rw [show n+((k+1:Nat):Int)=n+1+(k:Int) by omega]
theorem zkI {b:SlB} {left:Nat} {n:Int} {d:List Bool} (h:¬ n<b.steps):skyM b (left+1) n d=[]:=by
 unfold skyM;rw [show (b.steps - n).toNat=0 by omega]; rfl
def zero12:List Bool:=mB 12 false
def skiesI (b:SlB) (n:Nat):List SkyR:=(List.range n).flatMap fun many=>skyM b many 0 zero12
theorem zbM (b:SlB) (n:Nat):skiesI b (n+1)=skiesI b n++skyM b n 0 zero12:=by
 unfold skiesI;rw [List.range_succ,List.flatMap_append,List.flatMap_cons,List.flatMap_nil,lR]
theorem zhx (b:SlB) {n m:Nat} (h:n<=m):skiesI b n <+: skiesI b m:=by
 induction m with
 | zero=>rw [Nat.le_zero.1 h]; exact List.prefix_refl _
 | succ m ih =>
  rcases Nat.eq_or_lt_of_le h with rfl | h
  ·exact List.prefix_refl _
  ·exact (ih oQ).trans ⟨_,(zbM b m).symm⟩
def skiesM (b:SlB):List SkyR:=skiesI b (b.dirty+1).toNat
def zz (b:SlB):List SkyR:=(skiesM b).filter (allRight b)
theorem ziW {b:SlB} (hb:SlBase b):∀ (left:Nat) (step:Int) (d:List Bool),d.length=12->∀ s∈skyM b left step d,s.dirty.length=12/\b.lo<=s.shift/\s.shift<=b.hi
 | 0,step,d,hd,s,h=>by
  unfold skyM shiftsI at h;obtain ⟨k,hk,rfl⟩:=lY.1 h;have:=List.mem_range.1 hk;exact ⟨hd,by simp; omega,by simp; omega⟩
 | left+1,step,d,hd,s,h=>by
  unfold skyM at h;obtain ⟨k,hk,h⟩:=List.mem_flatMap.1 h;split at h
  ·cases h
  ·exact ziW hb left _ _ (by simpa using hd) s h
theorem zfi {b:SlB} (hb:SlBase b) {n:Nat} {s:SkyR} (h:s∈skiesI b n):s.dirty.length=12/\b.lo<=s.shift/\s.shift<=b.hi:=by
 obtain ⟨k,_,h⟩:=List.mem_flatMap.1 h;exact ziW hb k 0 zero12 (by simp [zero12]) s h
theorem wT {α β:Type} {f:α->List β} {n:Nat}:∀ {l:List α},(∀ x∈l,(f x).length<=n)->(l.flatMap f).length<=l.length*n
 | [],_=>by simp
 | x::l,h=>by
  rw [List.flatMap_cons,lF,lZ,Nat.succ_mul];have h1:=h x sQ;have h2:=wT (l:=l) fun y hy=>h y (by simp [hy]);omega
theorem zgF {b:SlB} (hb:SlBase b):∀ (left:Nat) (step:Int) (d:List Bool),0<=step->(skyM b left step d).length<=12 ^ left*3
 | 0,step,d,h0=>by
  unfold skyM shiftsI;have:=hb.wd;rw [lJ,List.length_range]; omega
 | left+1,step,d,h0=>by
  unfold skyM;refine mT (wT (n:=12 ^ left*3) fun k _=>?_) ?_
  ·split
   ·simp
   ·exact zgF hb left _ _ oQ
  ·have:=hb.st;rw [List.length_range,Nat.pow_succ,Nat.mul_comm (12 ^ left) 12,Nat.mul_assoc];exact Nat.mul_le_mul_right _ oQ
theorem zdF {b:SlB} (hb:SlBase b) {n:Nat} (h:n<=3):(skiesI b n).length<=3000:=by
 refine mT (wT (n:=12 ^ 2*3) fun k hk=>?_) ?_
 ·have:=List.mem_range.1 hk;exact mT (zgF hb k 0 _ (Int.le_refl _)) (Nat.mul_le_mul_right _ (Nat.pow_le_pow_right dQ oQ))
 ·rw [List.length_range]; omega
theorem zcX {b:SlB} (hb:SlBase b):(zz b).length<=3000:=mT (List.length_filter_le _ _) (zdF hb (by have:=hb.di; omega))
def listM (l:List Bool):List Int:=((List.range 12).filter fun n=>l.getD n false).map fun (n:Nat)=>(n:Int)
def listI (l:List Bool) (i:Nat):List Int:=((List.range i).filter fun n=>l.getD n false).map fun (n:Nat)=>(n:Int)
theorem zgn (l:List Bool) (i:Nat):listI l (i+1)=listI l i++if l.getD i false=true then [(i:Int)] else []:=by
 unfold listI;rw [List.range_succ,List.filter_append,lM];congr 1;by_cases h:l.getD i false=true
 ·rw [if_pos h,List.filter_cons,if_pos h]; rfl
 ·rw [if_neg h,List.filter_cons,if_neg h]; rfl
def keysH (b:SlB) (s:SkyR) (h:Nat):List (Int×Int):=(listM (fallsM b s h)).map fun n=>((h:Int),n)
def keysI (b:SlB) (s:SkyR) (h:Nat):List (Int×Int):=(List.range h).flatMap (keysH b s)
def keysS (b:SlB) (l:List SkyR):List (Int×Int):=l.flatMap fun s=>keysI b s b.suns.length
theorem zlw (b:SlB) (s:SkyR) (h:Nat):keysI b s (h+1)=keysI b s h++keysH b s h:=by
 unfold keysI;rw [List.range_succ,List.flatMap_append,List.flatMap_cons,List.flatMap_nil,lR]
theorem zlx (b:SlB) (l:List SkyR) (s:SkyR):keysS b (l++[s])=keysS b l++keysI b s b.suns.length:=by
 unfold keysS;rw [List.flatMap_append,List.flatMap_cons,List.flatMap_nil,lR]
theorem zdm (b:SlB) (s:SkyR) (h:Nat):(keysH b s h).length<=12:=by
 unfold keysH listM;rw [lJ,lJ];exact mT (List.length_filter_le _ _) sQ
theorem zdn (b:SlB) (s:SkyR) (h:Nat):(keysI b s h).length<=h*12:=by
 have:=wT (f:=keysH b s) (l:=List.range h) fun k _=>zdm b s k;rwa [List.length_range] at this
theorem zib {b:SlB} (hb:SlBase b) (l:List SkyR):(keysS b l).length<=l.length*48:=wT fun s _=>mT (zdn b s _) (by have:=hb.nsu; omega)
def litK (b:SlB) (s:SkyR) (h n:Nat):Bool:=(fallsM b s h).getD n false
def oftenS (b:SlB) (h:Nat) (n:Nat):Nat:=(keysS b (zz b)).count ((h:Int),(n:Int))
def sureI (b:SlB) (h:Nat) (i:Nat):List Int:=((List.range i).filter fun n=>oftenS b h n==(zz b).length).map fun (n:Nat)=>(n:Int)
def sureM (b:SlB) (h:Nat):List Int:=sureI b h b.steps.toNat
def ya (b:SlB) (w:WatR):SlB:={ b with watches:=b.watches++[w] }
theorem zag {b:SlB} (hb:SlBase b) (w:WatR):SlBase (ya b w):=⟨hb.st,hb.di,hb.sp,hb.sh,hb.wd,hb.cl,hb.rg,hb.nsu,hb.sun,hb.ney,hb.eye⟩
theorem sky_w (b:SlB) (w:WatR):∀ (left:Nat) (step:Int) (d:List Bool),skyM (ya b w) left step d=skyM b left step d
 | 0,_,_=>rfl
 | left+1,step,d=>by
  unfold skyM;show List.flatMap _ (List.range (b.steps - step).toNat)=_;congr 1;funext k;rw [sky_w b w left];rfl
theorem zmb (b:SlB) (w:WatR):skiesM (ya b w)=skiesM b:=by
 unfold skiesM skiesI;show List.flatMap _ (List.range (b.dirty+1).toNat)=_;congr 1;funext k;exact sky_w b w k 0 zero12
theorem zbO {b:SlB} {w:WatR} {s:SkyR} (h:s∈zz (ya b w)):s∈zz b:=by
 unfold zz at h ⊢;rw [zmb] at h;obtain ⟨h1,h2⟩:=List.mem_filter.1 h;refine List.mem_filter.2 ⟨h1,?_⟩;have:allRight (ya b w) s=(allRight b s&&(rightS b s w&&true)):=by
  unfold allRight ya;rw [List.all_append];rfl
 rw [this] at h2;exact (Bool.and_eq_true_iff.1 h2).1
theorem zi3 {b:SlB} {w:WatR} (h:zz (ya b w)≠[]):zz b≠[]:=by
 obtain ⟨s,hs⟩:=List.exists_mem_of_ne_nil _ h;exact List.ne_nil_of_mem (zbO hs)
end Go.Vel
namespace Go.Vel
open Go Go.Conc Go.Proofs
theorem zcA {α:Type} {xs:List α} {p:α->Bool} {i:Nat} (h:i<xs.length) (hn:(xs.take i).any p=false) (he:p xs[i]=false):(xs.take (i+1)).any p=false:=by
 rw [List.take_add_one,lA h,List.any_append,hn];simp [he]
theorem zaC {α:Type} (f:α->List AV) (hf:∀ x,(f x).all oneA=true) (xs:List α):(xs.flatMap f).all oneA=true:=by
 induction xs with
 | nil=>rfl
 | cons x xs ih=>rw [List.flatMap_cons,List.all_append,hf,ih]; rfl
def stepC (n x:Int):Bool:=decide (0<=x)&&decide (x<=n - 1)
def firstNZ (f:Nat->Int):Nat->Int
 | 0=>0
 | n+1=>if firstNZ f n=0 then f n else firstNZ f n
theorem uP {f:Nat->Int} {i:Nat} {c:Int} (h0:firstNZ f i=0) (h1:f i=c) (hc:c≠0):∀ {n:Nat},i<n->firstNZ f n=c
 | 0,h=>absurd h (Nat.not_lt_zero _)
 | n+1,h=>by
  rcases mR i n with hlt | hge
  ·have:=uP h0 h1 hc hlt;unfold firstNZ;rw [this,if_neg hc]
  ·obtain rfl:i=n:=by omega
   unfold firstNZ;rw [if_pos h0,h1]
theorem zaB {f:Nat->Int}:∀ {n:Nat},firstNZ f n=0->∀ i,i<n->f i=0
 | 0,_,i,h=>absurd h (Nat.not_lt_zero _)
 | n+1,h,i,hi=>by
  unfold firstNZ at h;split at h
  ·rename_i h0;rcases mR i n with hlt | hge
   ·exact zaB h0 i hlt
   ·obtain rfl:i=n:=by omega
    exact h
  ·rename_i h0; exact absurd h h0
def barC (n:Int) (xs:List Int) (i:Nat):Int:=match xs[i]? with
 | some x=>if (!stepC n x)=true then 6 else if (decide ((i:Int)>0)&&decide (x<=(xs[i - 1]?).getD 0))=true then 7 else 0
 | none=>0
def IntsAt (ob:AObj) (off:Nat) (xs:List Int):Prop:=∀ (i:Nat) (h:i<xs.length),takeO ob (off+(i:Int).toNat*1) 1=some [intA xs[i]]
theorem zaj {xs:List Int} {v:Int} {i:Nat} (h:i<xs.length) (hn:v∉xs.take i) (he:v≠xs[i]):v∉xs.take (i+1):=by
 rw [List.take_add_one,lA h];simp only [Option.toList,lT,lS,not_or];exact ⟨hn,he⟩
theorem zgv {ob:AObj} {off:Nat} {xs:List Int} (hI:IntsAt ob off xs) {i:Nat} (hi:i<xs.length) (h0:0<i):takeO ob (off+((i:Int) - 1).toNat*1) 1=some [intA xs[i - 1]]:=by
 have h:=hI (i - 1) oQ;rw [show ((i - 1:Nat):Int).toNat=((i:Int) - 1).toNat by omega] at h;exact h
theorem zk4 {n:Int} {xs:List Int} {i:Nat} {x:Int} (hx:xs[i]? =some x) (h:(!stepC n x)=true):barC n xs i=6:=by unfold barC; rw [hx]; dsimp only; rw [if_pos h]
theorem zhJ {n:Int} {xs:List Int} {i:Nat} {x:Int} (hx:xs[i]? =some x) (h:(!stepC n x)=false) (h1:decide ((i:Int)>0)=true) (h2:decide (x<=(xs[i - 1]?).getD 0)=true):barC n xs i=7:=by
 unfold barC; rw [hx]; dsimp only; rw [if_neg (by rw [h]; decide),if_pos (by rw [h1,h2]; rfl)]
theorem zjm {n:Int} {xs:List Int} {i:Nat} {x:Int} (hx:xs[i]? =some x) (h:(!stepC n x)=false) (h1:decide ((i:Int)>0)=true) (h2:decide (x<=(xs[i - 1]?).getD 0)=false):barC n xs i=0:=by
 unfold barC; rw [hx]; dsimp only; rw [if_neg (by rw [h]; decide),if_neg (by rw [h1,h2]; decide)]
theorem zhI {n:Int} {xs:List Int} {i:Nat} {x:Int} (hx:xs[i]? =some x) (h:(!stepC n x)=false) (h1:decide ((i:Int)>0)=false):barC n xs i=0:=by
 unfold barC; rw [hx]; dsimp only; rw [if_neg (by rw [h]; decide),if_neg (by rw [h1]; simp)]
theorem zc6 {n:Int} {xs:List Int} {i:Nat} (h0:firstNZ (barC n xs) i=0) (h:barC n xs i=0):firstNZ (barC n xs) (i+1)=0:=by unfold firstNZ; rw [if_pos h0,h]
theorem intsA (xs:List Int) (e:TypeId) (rw':Bool):IntsAt (.cells (xs.map intA) e rw') 0 xs:=fun i h=>yr (lA h) rfl
theorem stepP {xs:List Int} {i:Nat} (h:i<xs.length):xs[i]?.getD 0=xs[i]:=by rw [lA h] <;> rfl
theorem zjU {main T} (hT:zn tp main T) {gm} {j off:Nat} {ob:AObj} {xs:List Int} {v:Int} (hI:IntsAt ob off xs) (hl:xs.length<=1000) :
  zq tp T gm 190 [.sl j off xs.length,intA v] [(j,ob)] (fun r K'=>(∃ n:Int,r=intA n/\decide (n>=0)=decide (v∈xs))/\K'=[(j,ob)]):=by
 refine zm 19 hT Tryz.func190 fun Y hret=>?_;refine au 1303128014223542 ?_;refine bA [0,1,7,8] ?_;refine bE (fun n env K=>∃ (i:Nat),n=xs.length - i/\i<=xs.length/\v∉xs.take i/\env=.sl j off xs.length::intA v::naL 5 (intA xs.length::intA i::naL 10 [])/\K=[(j,ob)]) xs.length ⟨0,rfl,mN _,by simp,rfl,rfl⟩ fun n env K hI' hnext=>?_;obtain ⟨i,rfl,hi,hn,rfl,rfl⟩:=hI';refine bG nQ ?_;refine au 923742 ?_;refine ⟨fun hc=>?_,fun hc=>?_⟩
 ·simp only [decide_eq_true_eq] at hc;have hil:i<xs.length:=by omega
  refine au 36011142351421302120 ?_;refine bH Z (zk Z Z ze.h mQ (hI i hil)) ?_;refine au 937 ?_;constructor<;>intro hc1
  ·simp only [beq_iff_eq] at hc1;refine au 35142 ?_;refine TK.rta hret ?_;exact ⟨⟨i,rfl,by rw [decide_eq_true (Int.natCast_nonneg i),decide_eq_true (by rw [hc1]; exact List.getElem_mem _)]⟩,rfl⟩
  simp only [beq_eq_false_iff_ne] at hc1;refine au 312304140120 ?_;refine bA [0,1,7,8] ?_;exact hnext _ _ _ oQ ⟨i+1,rfl,oQ,zaj hil hn hc1,rfl,rfl⟩
 simp only [decide_eq_false_iff_not] at hc;obtain rfl:i=xs.length:=by omega
 refine au 3542160 ?_;refine TK.rta hret ?_;rw [lW] at hn;exact ⟨⟨-1,rfl,by rw [decide_eq_false hn] <;> rfl⟩,rfl⟩
theorem zfD {main T} (hT:zn tp main T) {gm} {j off:Nat} {ob:AObj} {xs:List Int} {v:Int} (hI:IntsAt ob off xs) (hl:xs.length<=1000) :
  zq tp T gm 162 [.sl j off xs.length,intA v] [(j,ob)] (fun r K'=>r=zw (decide (v∈xs))/\K'=[(j,ob)]):=by
 refine zm 9 hT Tryz.func162 fun Y hret=>?_;refine au 11423542 ?_;refine bD Z Z Z Z (zjU hT hI hl) ?_;rintro r1 K2 ⟨⟨m,rfl,hm⟩,rfl⟩;refine au 357 ?_;refine TK.rta hret ?_;exact ⟨by rw [<- hm] <;> rfl,rfl⟩
theorem zhP {main T} (hT:zn tp main T) {gm} {j off:Nat} {ob:AObj} {xs:List Int} {n:Int} (hs:0<=n/\n<=16) (hI:IntsAt ob off xs) (hlx:xs.length<=1000) :
  zq tp T gm 102 [.sl j off xs.length,intA n] [(j,ob)] (fun r K'=>r=intA (firstNZ (barC n xs) xs.length)/\K'=[(j,ob)]):=by
 refine zm 34 hT Tryz.func102 fun Y hret=>?_;refine au 130354223542 ?_;refine bA [0,1,5] ?_;refine bE (fun m env K=>∃ (i:Nat),m=xs.length - i/\i<=xs.length/\firstNZ (barC n xs) i=0/\env=.sl j off xs.length::intA n::naL 3 (intA i::naL 28 [])/\K=[(j,ob)]) xs.length ⟨0,rfl,mN _,rfl,rfl,rfl⟩ fun m env K hI' hnext=>?_;obtain ⟨i,rfl,hi,h0,rfl,rfl⟩:=hI';refine bG nQ ?_;refine au 93728011422 ?_;refine ⟨fun hc=>?_,fun hc=>?_⟩
 ·simp only [decide_eq_true_eq] at hc;have hil:i<xs.length:=by omega
  have hx:=lA hil;refine au 360114221302120 ?_;refine bH Z (zk Z Z ze.h mQ (hI i hil)) ?_;refine au 2401 ?_;refine TK.clE Z Z Z Z (z7 hT) ?_;refine au 93300 ?_;constructor<;>intro hc1
  ·refine au 3542 ?_;refine bB hret [(j,_)] ?_;exact ⟨by rw [uP h0 (zk4 hx hc1) dQ hil] <;> rfl,rfl⟩
  refine au 2120 ?_;refine bL [0,1,2,3,4,5,6,7,8,9,10,11,12,13] ?_;refine ad [[1,5],[4,20],[1,21]] ?_;refine TD.sp 22 (fun g6_3=>?_) (fun g6_3=>?_)
  ·have hgi:0<i:=by have:=of_decide_eq_true g6_3; omega
   refine ad [[1,0,22],[1,5,22],[2,22,23,24]] ?_;refine bT [22,25] Z (hq:=zk Z Z ze.h (mC _) (hI i hil)) (h:=?_);refine ad [[1,0,22],[1,5,22],[9,22,28],[2,22,27,29]] ?_;refine bT [22,30] Z (hq:=zk Z Z ze.h (mC _) (zgv hI hil hgi)) (h:=?_);refine ad [[4,22,26,31],[7,22,32],[14]] ?_;refine au 9 ?_;constructor<;>intro hc2
   ·refine au 3542 ?_;refine bB hret [(j,_)] ?_;exact ⟨by rw [uP h0 (zhJ hx hc1 g6_3 (by rw [stepP (show i - 1<xs.length by omega)]; exact hc2)) dQ hil] <;> rfl,rfl⟩
   refine au 3523014140120 ?_;refine bA [0,1,5] ?_;exact hnext _ _ _ oQ ⟨i+1,rfl,oQ,zc6 h0 (zjm hx hc1 g6_3 (by rw [stepP (show i - 1<xs.length by omega)]; exact hc2)),rfl,rfl⟩
  refine ad [[11,0,22],[11,5,22],[11,22,23,24],[11,22,25],[11,0,22],[11,5,22],[11,22,28],[11,22,27,29],[11,22,30],[11,22,26,31],[6,22,32],[14]] ?_;refine au 3523014140120190 ?_;refine bA [0,1,5] ?_;exact hnext _ _ _ oQ ⟨i+1,rfl,oQ,zc6 h0 (zhI hx hc1 g6_3),rfl,rfl⟩
 simp only [decide_eq_false_iff_not] at hc;obtain rfl:i=xs.length:=by omega
 refine au 3542160 ?_;refine bB hret [(j,_)] ?_;exact ⟨by rw [h0] <;> rfl,rfl⟩
theorem zer {main T} (hT:zn tp main T) {gm} {j off:Nat} {ob:AObj} {xs:List Int} {v:Int} (hI:IntsAt ob off xs) (hlx:xs.length<=1000) :
  zq tp T gm 43 [.sl j off xs.length,intA v] [(j,ob)] (fun r K'=>r=zw (decide (v∈xs))/\K'=[(j,ob)]):=by
 refine zm 18 hT Tryz.func43 fun Y hret=>?_;refine au 130354223542 ?_;refine bA [0,1,5] ?_;refine bE (fun n env K=>∃ (i:Nat),n=xs.length - i/\i<=xs.length/\v∉xs.take i/\env=.sl j off xs.length::intA v::naL 3 (intA i::naL 12 [])/\K=[(j,ob)]) xs.length ⟨0,rfl,mN _,by simp,rfl,rfl⟩ fun n env K hI' hnext=>?_;obtain ⟨i,rfl,hi,hn,rfl,rfl⟩:=hI';refine bG nQ ?_;refine au 93728011422 ?_;refine ⟨fun hc=>?_,fun hc=>?_⟩
 ·simp only [decide_eq_true_eq] at hc;have hil:i<xs.length:=by omega
  refine au 36011421302120 ?_;refine bH Z (zk Z Z ze.h mQ (hI i hil)) ?_;refine au 9371 ?_;constructor<;>intro hc1
  ·refine au 3542 ?_;refine bB hret [(j,_)] ?_;exact ⟨by rw [decide_eq_true (show v∈xs by have h:xs[i]=v:=(by simpa using hc1); rw [<- h]; exact List.getElem_mem hil)] <;> rfl,rfl⟩
  refine au 3523014140120 ?_;refine bA [0,1,5] ?_;exact hnext _ _ _ oQ ⟨i+1,rfl,oQ,zaj hil hn (fun h=>by rw [h] at hc1; simp at hc1),rfl,rfl⟩
 simp only [decide_eq_false_iff_not] at hc;obtain rfl:i=xs.length:=by omega
 refine au 3542160 ?_;refine bB hret [(j,_)] ?_;exact ⟨by rw [decide_eq_false (by rwa [lW] at hn)] <;> rfl,rfl⟩
def sunC (x:SunR):List AV:=[intA x.step,intA x.high]
def eyeC (x:EyeR):List AV:=[intA x.at0,intA x.high]
def watC (x:WatR):List AV:=[intA x.hour,intA x.step,zw x.lit]
def slC (b:SlB) (c s e w:Nat):List AV:=[intA b.steps,intA b.dirty,intA b.slope,intA b.lo,intA b.hi,.sl c 0 b.clean.length,intA b.rf,intA b.rh,intA b.cf,intA b.ch,.sl s 0 b.suns.length,.sl e 0 b.eyes.length,.sl w 0 b.watches.length]
abbrev clO (b:SlB):AObj:=.cells (b.clean.map intA) 3 false
abbrev suO (b:SlB):AObj:=.cells (b.suns.flatMap sunC) 105 false
abbrev eyO (b:SlB):AObj:=.cells (b.eyes.flatMap eyeC) 125 false
abbrev waO (b:SlB):AObj:=.cells (b.watches.flatMap watC) 50 false
def eyeI (b:SlB) (i:Nat):EyeR:=b.eyes.getD i default
def watI (b:SlB) (i:Nat):WatR:=b.watches.getD i default
theorem zcF {b:SlB} {i:Nat} (h:i<b.eyes.length):b.eyes[i]? =some (eyeI b i):=by
 unfold eyeI;rw [lE,lA h] <;> rfl
theorem vL {b:SlB} {i:Nat} (h:i<b.watches.length):b.watches[i]? =some (watI b i):=by
 unfold watI;rw [lE,lA h] <;> rfl
theorem zaW {b:SlB} {i:Nat} {n:Int} {e:TypeId} {rw':Bool} (h:i<b.suns.length) (hn:n=(i:Int)):takeO (.cells (b.suns.flatMap sunC) e rw') (0+n.toNat*2) 2=some (sunC (sunI b i)):=ky (c:=2) (fun _=>rfl) (zbg h) hn dQ
theorem zbZ {b:SlB} {i:Nat} {n:Int} {e:TypeId} {rw':Bool} (h:i<b.eyes.length) (hn:n=(i:Int)):takeO (.cells (b.eyes.flatMap eyeC) e rw') (0+n.toNat*2) 2=some (eyeC (eyeI b i)):=ky (c:=2) (fun _=>rfl) (zcF h) hn dQ
theorem zcw {b:SlB} {i:Nat} {n:Int} {e:TypeId} {rw':Bool} (h:i<b.watches.length) (hn:n=(i:Int)):takeO (.cells (b.watches.flatMap watC) e rw') (0+n.toNat*3) 3=some (watC (watI b i)):=ky (c:=3) (fun _=>rfl) (vL h) hn dQ
theorem zfs {b:SlB} (hb:SlBase b) {i:Nat} (h:i<b.suns.length):0<=(sunI b i).step/\(sunI b i).step<b.steps /\ -9<=(sunI b i).high/\(sunI b i).high<=9:=hb.sun _ (lN (zbg h))
theorem zmC {b:SlB} (hb:SlBase b) {i:Nat} (h:i<b.eyes.length):1 - b.rf<=(eyeI b i).at0/\(eyeI b i).at0<=b.rf - 1/\0<=(eyeI b i).high/\(eyeI b i).high<=60/\(eyeI b i).high<b.ch:=hb.eye _ (lN (zcF h))
def badBand (x y lo hi:Int):Bool := !(decide (lo<=x)&&decide (x<=y)&&decide (y<=hi))
def watBar (b:SlB):Int:=if b.watches.length>4 then 2 else if b.watches.all (watOk b)=true then 0 else 6
theorem za0 {b:SlB} (h:SlWat b):watBar b=0:=by
 unfold watBar;rw [if_neg (by have:=h.len; omega),if_pos (List.all_eq_true.2 h.all)]
theorem zfv {b:SlB} (h4:¬ b.watches.length>4) {i:Nat} (hi:i<b.watches.length) (h:watOk b (watI b i)=false):watBar b=6:=by
 unfold watBar;rw [if_neg h4,if_neg];intro ha;rw [List.all_eq_true.1 ha _ (lN (vL hi))] at h;cases h
theorem zdO {α:Type} {xs:List α} {p:α->Bool} {i:Nat} {x:α} (hx:xs[i]? =some x) (hn:(xs.take i).all p=true) (he:p x=true):(xs.take (i+1)).all p=true:=by
 rw [List.take_add_one,hx,List.all_append,hn];simp [he]
theorem zmk {b:SlB} {x:WatR} (h:x.hour<0\/(b.suns.length:Int) - 1<x.hour):watOk b x=false:=by
 have:(decide (0<=x.hour)&&decide (x.hour<=(b.suns.length:Int) - 1))=false:=by simp; omega
 unfold watOk;rw [this] <;> rfl
theorem zml {b:SlB} {x:WatR} (h:x.step<0\/b.steps - 1<x.step):watOk b x=false:=by
 have:(decide (0<=x.step)&&decide (x.step<=b.steps - 1))=false:=by simp; omega
 unfold watOk;rw [this,Bool.and_false]
def yq:AObj:=.cells [.fn 220 [] [],.fn 221 [] [],.fn 222 [] [],.fn 223 [] [],.fn 224 [] []] 179 false
instance:ArEl tp 179 5 178 false 1:={}
instance:BlOf tp 107 [(0,13)]:={}
instance:zj tp 105 0 0 false 1:={}
instance:zj tp 105 1 1 false 1:={}
instance:zj tp 107 0 0 true 13:={}
instance:zj tp 125 0 0 false 1:={}
instance:zj tp 125 1 1 false 1:={}
instance:zj tp 31 0 0 false 1:={}
instance:zj tp 31 1 1 false 1:={}
instance:zj tp 36 0 0 false 1:={}
instance:zj tp 36 1 1 false 1:={}
instance:zj tp 36 2 2 false 1:={}
instance:zj tp 36 3 3 true 2:={}
instance:zj tp 36 4 5 false 1:={}
instance:zj tp 36 5 6 true 2:={}
instance:zj tp 36 6 8 true 2:={}
instance:zj tp 36 7 10 false 1:={}
instance:zj tp 36 8 11 false 1:={}
instance:zj tp 36 9 12 false 1:={}
instance:zj tp 50 0 0 false 1:={}
instance:zj tp 50 1 1 false 1:={}
instance:zE tp 32 105 2:={}
instance:zE tp 33 125 2:={}
instance:zE tp 34 50 3:={}
instance:ze tp 105 true 2:={}
instance:ze tp 107 true 13:={}
instance:ze tp 125 true 2:={}
instance:ze tp 179 true 5:={}
instance:ze tp 32 false 1:={}
instance:ze tp 33 false 1:={}
instance:ze tp 34 false 1:={}
instance:ze tp 36 true 13:={}
instance:ze tp 50 true 3:={}
instance:TyZ tp 107 [.int .i64 0,.int .i64 0,.int .i64 0,.int .i64 0,.int .i64 0,.slice none 0 0,.int .i64 0,.int .i64 0,.int .i64 0,.int .i64 0,.slice none 0 0,.slice none 0 0,.slice none 0 0]:={}
instance:TyZA tp 105 [.v (.int .i64 0),.v (.int .i64 0)]:={}
instance:TyZA tp 125 [.v (.int .i64 0),.v (.int .i64 0)]:={}
instance:TyZA tp 50 [.v (.int .i64 0),.v (.int .i64 0),.v (.bool false)]:={}
instance:Und tp 32 (.slice 105):={}
instance:Und tp 33 (.slice 125):={}
instance:Und tp 34 (.slice 50):={}
theorem yX {main T} (hT:zn tp main T) {gm} {n lo hi:Int} :
  zq tp T gm 98 [intA n,intA lo,intA hi] [] (fun r K'=>r=zw (decide (lo<=n)&&decide (n<=hi))/\K'=[]):=by
 refine zm 15 hT Tryz.func98 fun Y hret=>?_;refine au 1711423542 ?_;refine bF 10 (fun g1_4=>?_) (fun g1_4=>?_)
 ·refine au 35260711 ?_;refine TK.rta hret ?_;exact ⟨by simp [zw, *],rfl⟩
 refine au 35250888 ?_;refine TK.rta hret ?_;exact ⟨by simp [zw, *],rfl⟩
theorem ziX {main T} (hT:zn tp main T) {gm} {x y lo hi:Int} :
  zq tp T gm 225 [.agg [intA x,intA y],intA lo,intA hi] [] (fun r K'=>r=zw (decide (lo<=x)&&decide (x<=y)&&decide (y<=hi))/\K'=[]):=by
 refine zm 24 hT Tryz.func225 fun Y hret=>?_;refine au 21042 ?_;intro j1 hj1;refine au 1769067014235 ?_;refine bF 11 (fun g1_5=>?_) (fun g1_5=>?_)
 ·refine au 12607690670690670 ?_;refine bF 18 (fun g1_12=>?_) (fun g1_12=>?_)
  ·refine au 3526071690670 ?_;refine bB hret [] ?_;exact ⟨by simp [zw, *],rfl⟩
  refine au 352508888 ?_;refine bB hret [] ?_;exact ⟨by simp [zw, *],rfl⟩
 refine au 352508888125088888 ?_;refine bB hret [] ?_;exact ⟨by simp [zw, *],rfl⟩
theorem vm {main T} (hT:zn tp main T) {gm} {b:SlB} {c s e w:Nat} {n:Int} (hs:0<=b.steps/\b.steps<=100) :
  zq tp T gm 49 [.agg (slC b c s e w),intA n] [] (fun r K'=>r=zw (decide (0<=n)&&decide (n<=b.steps - 1))/\K'=[]):=by
 refine zm 11 hT Tryz.func49 fun Y hret=>?_;refine au 21042 ?_;intro jb hjb;refine au 24069067067014235 ?_;refine TK.clE Z Z Z Z (yX hT) ?_;refine au 35 ?_;refine bB hret [] ?_;exact ⟨rfl,rfl⟩
theorem zfV {main T} (hT:zn tp main T) {gm} {b:SlB} {c s e w:Nat} {n:Int} (hs:b.suns.length<=100) :
  zq tp T gm 227 [.agg (slC b c s e w),intA n] [] (fun r K'=>r=zw (decide (0<=n)&&decide (n<=(b.suns.length:Int) - 1))/\K'=[]):=by
 refine zm 12 hT Tryz.func227 fun Y hret=>?_;refine au 21042 ?_;intro jb hjb;refine au 24028069067067014235 ?_;refine TK.clE Z Z Z Z (yX hT) ?_;refine au 35 ?_;refine bB hret [] ?_;exact ⟨rfl,rfl⟩
theorem zfS {main T} (hT:zn tp main T) {gm} {b:SlB} {c s e w:Nat} (hb:SlBase b) (hl:b.clean.length<=1000) :
  zq tp T gm 226 [.agg (slC b c s e w),.sl c 0 b.clean.length] [(c,clO b)] (fun r K'=>r=intA 0/\K'=[(c,clO b)]):=by
 refine zm 30 hT Tryz.func226 fun Y hret=>?_;refine au 0 ?_;have hst:=hb.st;have hI:=intsA b.clean 3 false;refine au 21042 ?_;intro jb hjb;refine au 13031280142235 ?_;refine bA [1,2,7,8,9] ?_;refine bE (fun n env K=>∃ (i:Nat),n=b.clean.length - i/\i<=b.clean.length/\env=.any::.sl c 0 b.clean.length::.ptr jb 0::naL 4 (.sl c 0 b.clean.length::intA b.clean.length::intA i::naL 20 [])/\K=[(jb,.cells (slC b c s e w) 107 true),(c,clO b)]) (b.clean.length) ⟨0,rfl,mN _,rfl,rfl⟩ fun n env K hJ hnext=>?_;obtain ⟨i,rfl,hi,rfl,rfl⟩:=hJ;refine bG nQ ?_;refine au 923742 ?_;constructor<;>intro hc0
 ·have hil:i<b.clean.length:=by simp at hc0; omega
  obtain ⟨q1,q2,q3⟩:=hb.cl i hil;refine au 3601421302120 ?_;refine bH Z (zk Z Z ze.h mQ (hI i hil)) ?_;refine au 1680422355 ?_;refine TK.clE Z Z Z Z (vm hT oQ) ?_;refine au 93300 ?_;constructor<;>intro hc1
  ·simp at hc1; omega
  refine au 17142120 ?_;refine bF 20 (fun g6_3=>?_) (fun g6_3=>?_)
  ·have h0:0<i:=by simp at g6_3; omega
   refine au 360240111 ?_;refine bH Z (zk Z Z ze.h mQ (zgv hI hil h0)) ?_;refine au 932607 ?_;constructor<;>intro hc2
   ·have:=q3 h0; simp at hc2; omega
   refine au 312304140120 ?_;refine bA [1,2,7,8,9] ?_;refine bC [(jb,_),(c,_)] ?_;exact hnext _ _ _ oQ ⟨i+1,rfl,oQ,rfl,rfl⟩
  refine au 31230414012019032508888888 ?_;refine bA [1,2,7,8,9] ?_;refine bC [(jb,_),(c,_)] ?_;exact hnext _ _ _ oQ ⟨i+1,rfl,oQ,rfl,rfl⟩
 skip;refine au 3542160 ?_;refine bB hret [(c,_)] ?_;exact ⟨rfl,rfl⟩
theorem zhz {main T} (hT:zn tp main T) {gm} {b:SlB} {c s e w:Nat} (hb:SlBase b) (hl:b.clean.length<=1000) :
  zq tp T gm 220 [.agg (slC b c s e w)] [(c,clO b)] (fun r K'=>r=intA 0/\K'=[(c,clO b)]):=by
 refine zm 46 hT Tryz.func220 fun Y hret=>?_;refine au 0 ?_;have h1:=hb.st;have h2:=hb.di;have h3:=hb.sp;have h4:=hb.sh;have h5:=hb.wd;refine au 21042 ?_;intro jb hjb;refine au 69067067042235 ?_;refine TK.clE Z Z Z Z (yX hT) ?_;refine au 1300 ?_;refine bF 8 (fun g1_6=>?_) (fun g1_6=>?_)
 ·simp at g1_6; omega
 refine au 690670670 ?_;refine TK.clE Z Z Z Z (yX hT) ?_;refine au 1250300 ?_;refine bF 15 (fun g1_13=>?_) (fun g1_13=>?_)
 ·simp at g1_13; omega
 refine au 690670670 ?_;refine TK.clE Z Z Z Z (yX hT) ?_;refine au 1250300 ?_;refine bF 22 (fun g1_20=>?_) (fun g1_20=>?_)
 ·simp at g1_20; omega
 refine au 680670670 ?_;refine TK.clE Z Z Z Z (ziX hT) ?_;refine au 1250300 ?_;refine bF 29 (fun g1_27=>?_) (fun g1_27=>?_)
 ·simp at g1_27; omega
 refine au 932507240690670670670690670670670 ?_;constructor<;>intro hc0
 ·simp at hc0; omega
 refine au 69067067068042120 ?_;refine TK.clE Z Z Z Z (zfS hT hb hl) ?_;refine au 35 ?_;refine bB hret [(c,_)] ?_;exact ⟨rfl,rfl⟩
theorem zfT {main T} (hT:zn tp main T) {gm} {b:SlB} {c s e w:Nat} (hb:SlBase b) :
  zq tp T gm 221 [.agg (slC b c s e w)] [] (fun r K'=>r=intA 0/\K'=[]):=by
 refine zm 46 hT Tryz.func221 fun Y hret=>?_;refine au 0 ?_;have h1:=hb.rg;refine au 21042 ?_;intro jb hjb;refine au 69067067067042235 ?_;refine TK.clE Z Z Z Z (yX hT) ?_;refine au 1300 ?_;refine bF 9 (fun g1_7=>?_) (fun g1_7=>?_)
 ·simp at g1_7; omega
 refine au 690670670670 ?_;refine TK.clE Z Z Z Z (yX hT) ?_;refine au 1250300 ?_;refine bF 17 (fun g1_15=>?_) (fun g1_15=>?_)
 ·simp at g1_15; omega
 refine au 690670670670690670670670 ?_;refine TK.clE Z Z Z Z (yX hT) ?_;refine au 1250300 ?_;refine bF 29 (fun g1_27=>?_) (fun g1_27=>?_)
 ·simp at g1_27; omega
 refine au 690670670670 ?_;refine TK.clE Z Z Z Z (yX hT) ?_;refine au 93250300 ?_;constructor<;>intro hc0
 ·simp at hc0; omega
 refine au 937690670670670690670670670422120 ?_;constructor<;>intro hc1
 ·simp at hc1; omega
 refine au 3542120 ?_;refine bB hret [] ?_;exact ⟨rfl,rfl⟩
theorem zi1 {main T} (hT:zn tp main T) {gm} {b:SlB} {c s e w:Nat} (hb:SlBase b) :
  zq tp T gm 222 [.agg (slC b c s e w)] [(s,suO b)] (fun r K'=>r=intA 0/\K'=[(s,suO b)]):=by
 refine zm 31 hT Tryz.func222 fun Y hret=>?_;refine au 0 ?_;have h1:=hb.nsu;have hst:=hb.st;refine au 21042 ?_;intro jb hjb;refine au 28069067067042235 ?_;refine TK.clE Z Z Z Z (yX hT) ?_;refine au 93300 ?_;constructor<;>intro hc0
 ·simp at hc0; omega
 refine au 13031280690670670422120 ?_;refine bA [1,13,14,15] ?_;refine bE (fun n env K=>∃ (i:Nat),n=b.suns.length - i/\i<=b.suns.length/\env=.any::.ptr jb 0::naL 11 (.sl s 0 b.suns.length::intA b.suns.length::intA i::naL 15 [])/\K=[(jb,.cells (slC b c s e w) 107 true),(s,suO b)]) (b.suns.length) ⟨0,rfl,mN _,rfl,rfl⟩ fun n env K hI hnext=>?_;obtain ⟨i,rfl,hi,rfl,rfl⟩:=hI;refine bG nQ ?_;refine au 923742 ?_;constructor<;>intro hc1
 ·have hil:i<b.suns.length:=by simp at hc1; omega
  have hq:=zfs hb hil;refine au 360421302120 ?_;refine bH Z (zK Z Z ze.h mQ (zaW hil Z)) ?_;refine au 220 ?_;intro jx hjx;refine au 690670680421303170 ?_;refine TK.clE Z Z Z Z (vm hT oQ) ?_;refine au 935300 ?_;constructor<;>intro hc2
  ·simp at hc2; omega
  refine au 69067042 ?_;refine TK.clE Z Z Z Z (yX hT) ?_;refine au 935300 ?_;constructor<;>intro hc3
  ·simp at hc3; omega
  refine au 312304140140120 ?_;refine bA [1,13,14,15] ?_;refine bC [(jb,_),(s,_)] ?_;exact hnext _ _ _ oQ ⟨i+1,rfl,oQ,rfl,rfl⟩
 refine au 3542160 ?_;refine bB hret [(s,_)] ?_;exact ⟨rfl,rfl⟩
theorem ziY {main T} (hT:zn tp main T) {gm} {b:SlB} {c s e w:Nat} (hb:SlBase b) :
  zq tp T gm 223 [.agg (slC b c s e w)] [(e,eyO b)] (fun r K'=>r=intA 0/\K'=[(e,eyO b)]):=by
 refine zm 48 hT Tryz.func223 fun Y hret=>?_;refine au 0 ?_;have h1:=hb.ney;have hst:=hb.st;have hrg:=hb.rg;refine au 21042 ?_;intro jb hjb;refine au 93728069067067042235 ?_;constructor<;>intro hc0
 ·simp at hc0; omega
 refine au 13031280690670670422120 ?_;refine bA [1,12,13,14] ?_;refine bE (fun n env K=>∃ (i:Nat),n=b.eyes.length - i/\i<=b.eyes.length/\env=.any::.ptr jb 0::naL 10 (.sl e 0 b.eyes.length::intA b.eyes.length::intA i::naL 33 [])/\K=[(jb,.cells (slC b c s e w) 107 true),(e,eyO b)]) (b.eyes.length) ⟨0,rfl,mN _,rfl,rfl⟩ fun n env K hI hnext=>?_;obtain ⟨i,rfl,hi,rfl,rfl⟩:=hI;refine bG nQ ?_;refine au 923742 ?_;constructor<;>intro hc1
 ·have hil:i<b.eyes.length:=by simp at hc1; omega
  have hq:=zmC hb hil;refine au 360421302120 ?_;refine bH Z (zK Z Z ze.h mQ (zbZ hil Z)) ?_;refine au 220 ?_;intro jx hjx;refine au 240690670670670240690670670670690670421303170 ?_;refine TK.clE Z Z Z Z (yX hT) ?_;refine au 1300 ?_;refine bF 33 (fun g6_15=>?_) (fun g6_15=>?_)
  ·simp at g6_15; omega
  refine au 690670 ?_;refine TK.clE Z Z Z Z (yX hT) ?_;refine au 935250300 ?_;constructor<;>intro hc2
  ·simp at hc2; omega
  refine au 935769067067067069067042 ?_;constructor<;>intro hc3
  ·simp at hc3; omega
  refine au 312304140140120 ?_;refine bA [1,12,13,14] ?_;refine bC [(jb,_),(e,_)] ?_;exact hnext _ _ _ oQ ⟨i+1,rfl,oQ,rfl,rfl⟩
 refine au 3542160 ?_;refine bB hret [(e,_)] ?_;exact ⟨rfl,rfl⟩
theorem zfl {main T} (hT:zn tp main T) {gm} {b:SlB} {c s e w:Nat} (hb:SlBase b) :
  zq tp T gm 224 [.agg (slC b c s e w)] [(w,waO b)] (fun r K'=>r=intA (watBar b)/\K'=[(w,waO b)]):=by
 refine zm 31 hT Tryz.func224 fun Y hret=>?_;refine au 0 ?_;have h1:=hb.nsu;have hst:=hb.st;refine au 21042 ?_;intro jb hjb;refine au 93728069067067042235 ?_;constructor<;>intro hc0
 ·refine au 3542 ?_;refine bB hret [(w,_)] ?_;exact ⟨by unfold watBar; rw [if_pos (by simp at hc0; omega)] <;> rfl,rfl⟩
 have hl4:¬ b.watches.length>4:=by simp at hc0; omega
 refine au 13031280690670670422120 ?_;refine bA [1,12,13,14] ?_;refine bE (fun n env K=>∃ (i:Nat),n=b.watches.length - i/\i<=b.watches.length/\(b.watches.take i).all (watOk b)=true/\env=.any::.ptr jb 0::naL 10 (.sl w 0 b.watches.length::intA b.watches.length::intA i::naL 16 [])/\K=[(jb,.cells (slC b c s e w) 107 true),(w,waO b)]) (b.watches.length) ⟨0,rfl,mN _,rfl,rfl,rfl⟩ fun n env K hI hnext=>?_;obtain ⟨i,rfl,hi,hall,rfl,rfl⟩:=hI;refine bG nQ ?_;refine au 923742 ?_;constructor<;>intro hc1
 ·have hil:i<b.watches.length:=by simp at hc1; omega
  refine au 360421302120 ?_;refine bH Z (zK Z Z ze.h mQ (zcw hil Z)) ?_;refine au 220 ?_;intro jx hjx;refine au 690670680423170 ?_;refine TK.clE Z Z Z Z (zfV hT oQ) ?_;refine au 1300 ?_;refine bF 23 (fun g6_6=>?_) (fun g6_6=>?_)
  ·refine au 3542180326088888 ?_;refine bB hret [(w,_)] ?_;exact ⟨by rw [zfv hl4 hil (zmk (by simpa using g6_6))] <;> rfl,rfl⟩
  refine au 690670680 ?_;refine TK.clE Z Z Z Z (vm hT oQ) ?_;refine au 93250300 ?_;constructor<;>intro hc2
  ·refine au 3542 ?_;refine bB hret [(w,_)] ?_;exact ⟨by rw [zfv hl4 hil (zml (by simpa using hc2))] <;> rfl,rfl⟩
  refine au 312304140120 ?_;refine bA [1,12,13,14] ?_;refine bC [(jb,_),(w,_)] ?_;exact hnext _ _ _ oQ ⟨i+1,rfl,oQ,zdO (vL hil) hall (by unfold watOk; simp_all),rfl,rfl⟩
 obtain rfl:i=b.watches.length:=by simp at hc1; omega
 refine au 3542160 ?_;refine bB hret [(w,_)] ?_;rw [lW] at hall;exact ⟨by unfold watBar; rw [if_neg hl4,if_pos hall] <;> rfl,rfl⟩
theorem u5 {main:Bool} {T:Goroutine->Hp->Prop} (hT:zn tp main T)  {b:SlB} {c s e w:Nat} (hb:SlBase b) (hl:b.clean.length<=1000) :
  zq tp T gmR 44 [.agg (slC b c s e w)] [(1,yq),(c,clO b),(s,suO b),(e,eyO b),(w,waO b)] (fun r K'=>r=intA (watBar b)/\K'=[(1,yq),(c,clO b),(s,suO b),(e,eyO b),(w,waO b)]):=by
 refine zm 18 hT Tryz.func44 fun Y hret=>?_;refine au 21042 ?_;intro jb hjb;refine au 1303168042235 ?_;refine TK.loop ?_;refine au 923742 ?_;refine ⟨fun k0=>?_,fun k0=>?_⟩
 ·
  refine au 421302120 ?_;refine bH Z (yW Z Z Z ArEl.h oQ oQ Z) ?_;refine au 68014235 ?_;refine bH Z (yi (l:=[_,_,_,_,_,_,_,_,_,_,_,_,_]) Z TyZ.h BlOf.h Z) ?_;refine TK.clE Z Z Z Z (zhz hT hb hl) ?_;refine au 93714235 ?_;refine ⟨fun k1=>?_,fun k1=>?_⟩
  ·exact absurd k1 dQ
  skip;refine au 312304140120 ?_;refine TK.inLoop ?_;refine au 923742 ?_;refine ⟨fun k0=>?_,fun k0=>?_⟩
  ·
   refine au 421302120 ?_;refine bH Z (yW Z Z Z ArEl.h oQ oQ Z) ?_;refine au 68014235 ?_;refine bH Z (yi (l:=[_,_,_,_,_,_,_,_,_,_,_,_,_]) Z TyZ.h BlOf.h Z) ?_;refine TK.clE Z Z Z Z (zfT hT (c:=c) (s:=s) (e:=e) (w:=w) hb) ?_;refine au 93714235 ?_;refine ⟨fun k1=>?_,fun k1=>?_⟩
   ·exact absurd k1 dQ
   skip;refine au 312304140120 ?_;refine TK.inLoop ?_;refine au 923742 ?_;refine ⟨fun k0=>?_,fun k0=>?_⟩
   ·
    refine au 421302120 ?_;refine bH Z (yW Z Z Z ArEl.h oQ oQ Z) ?_;refine au 68014235 ?_;refine bH Z (yi (l:=[_,_,_,_,_,_,_,_,_,_,_,_,_]) Z TyZ.h BlOf.h Z) ?_;refine TK.clE Z Z Z Z (zi1 hT hb) ?_;refine au 93714235 ?_;refine ⟨fun k1=>?_,fun k1=>?_⟩
    ·exact absurd k1 dQ
    skip;refine au 312304140120 ?_;refine TK.inLoop ?_;refine au 923742 ?_;refine ⟨fun k0=>?_,fun k0=>?_⟩
    ·
     refine au 421302120 ?_;refine bH Z (yW Z Z Z ArEl.h oQ oQ Z) ?_;refine au 68014235 ?_;refine bH Z (yi (l:=[_,_,_,_,_,_,_,_,_,_,_,_,_]) Z TyZ.h BlOf.h Z) ?_;refine TK.clE Z Z Z Z (ziY hT hb) ?_;refine au 93714235 ?_;refine ⟨fun k1=>?_,fun k1=>?_⟩
     ·exact absurd k1 dQ
     skip;refine au 312304140120 ?_;refine TK.inLoop ?_;refine au 923742 ?_;refine ⟨fun k0=>?_,fun k0=>?_⟩
     ·
      refine au 421302120 ?_;refine bH Z (yW Z Z Z ArEl.h oQ oQ Z) ?_;refine au 68014235 ?_;refine bH Z (yi (l:=[_,_,_,_,_,_,_,_,_,_,_,_,_]) Z TyZ.h BlOf.h Z) ?_;refine TK.clE Z Z Z Z (zfl hT hb) ?_;refine au 93714235 ?_;refine ⟨fun k1=>?_,fun k1=>?_⟩
      ·
       refine au 35142 ?_;refine bB hret [(1,_),(c,_),(s,_),(e,_),(w,_)] ?_;exact ⟨rfl,rfl⟩
      have hw0:watBar b=0:=by simpa using k1
      refine au 312304140120 ?_;refine TK.inLoop ?_;refine au 923742 ?_;refine ⟨fun k0=>?_,fun k0=>?_⟩
      ·exact absurd k0 dQ
      refine au 3542160 ?_;refine bB hret [(1,_),(c,_),(s,_),(e,_),(w,_)] ?_;exact ⟨by rw [hw0] <;> rfl,rfl⟩
     exact absurd k0 dQ
    exact absurd k0 dQ
   exact absurd k0 dQ
  exact absurd k0 dQ
 exact absurd k0 dQ
structure SlRound (b:SlB):Prop where
 st:4<=b.steps/\b.steps<=12
 di:0<=b.dirty/\b.dirty<=2
 sp:1<=b.slope/\b.slope<=4
 sh : -3<=b.lo/\b.lo<=b.hi/\b.hi<=3
 wd:b.hi - b.lo<3
 cl:∀ i (h:i<b.clean.length),0<=b.clean[i]/\b.clean[i]<b.steps/\∀ h0:0<i,b.clean[i - 1]'oQ<b.clean[i]
 rg:2<=b.rf/\b.rf<=30/\2<=b.rh/\b.rh<=60/\0<=b.cf/\b.cf<=b.rf/\1<=b.ch/\b.ch<=60/\b.ch<b.rh
theorem zjv {n:Int} {xs:List Int} (h:firstNZ (barC n xs) xs.length=0) (i:Nat) (hi:i<xs.length):0<=xs[i]/\xs[i]<n/\∀ h0:0<i,xs[i - 1]'oQ<xs[i]:=by
 have h1:=zaB h i hi;unfold barC at h1;rw [lA hi] at h1;dsimp only at h1;split at h1
 ·cases h1
 ·rename_i h2;have h3:stepC n xs[i]=true:=by simpa using h2
  unfold stepC at h3;simp [betw] at h3;split at h1
  ·cases h1
  ·rename_i h4;refine ⟨h3.1,oQ,fun h0=>?_⟩;rw [lA (show i - 1<xs.length by omega)] at h4;simp [betw] at h4;have:=h4 h0;omega
theorem zfX {main T} (hT:zn tp main T) {gm} {b:SlB} {c s e w:Nat} (hl:b.clean.length<=1000) :
  zq tp T gm 55 [.agg (slC b c s e w)] [(c,clO b)] (fun r K'=>(∃ z,r=intA z/\(z=0->SlRound b))/\K'=[(c,clO b)]):=by
 refine zm 80 hT Tryz.func55 fun Y hret=>?_;refine au 21042 ?_;intro jb hjb;refine au 69067042235 ?_;refine TK.clE Z Z Z Z (z7 hT) ?_;refine au 1300 ?_;refine bF 8 (fun g1_5=>?_) (fun g1_5=>?_)
 ·refine au 3542180326088888888126088881260888812608888 ?_;refine bB hret [(c,_)] ?_;exact ⟨⟨1,rfl,fun h=>by cases h⟩,rfl⟩
 refine au 690670 ?_;refine TK.clE Z Z Z Z (z7 hT) ?_;refine au 1250300 ?_;refine bF 14 (fun g1_11=>?_) (fun g1_11=>?_)
 ·refine au 35421803260888888881260888812608888 ?_;refine bB hret [(c,_)] ?_;exact ⟨⟨1,rfl,fun h=>by cases h⟩,rfl⟩
 refine au 690670 ?_;refine TK.clE Z Z Z Z (z7 hT) ?_;refine au 1250300 ?_;refine bF 20 (fun g1_17=>?_) (fun g1_17=>?_)
 ·refine au 354218032608888888812608888 ?_;refine bB hret [(c,_)] ?_;exact ⟨⟨1,rfl,fun h=>by cases h⟩,rfl⟩
 refine au 680670 ?_;refine TK.clE Z Z Z Z (zb8 hT (x:=⟨b.lo,b.hi⟩)) ?_;refine au 1250300 ?_;refine bF 26 (fun g1_23=>?_) (fun g1_23=>?_)
 ·refine au 3542180326088888888 ?_;refine bB hret [(c,_)] ?_;exact ⟨⟨1,rfl,fun h=>by cases h⟩,rfl⟩
 refine au 690670670690670670 ?_;refine bH Z (q_sub Z Z Z (by simp [isBd,betw] at g1_23; omega)) ?_;refine au 932507 ?_;constructor<;>intro hc0
 ·refine au 3542 ?_;refine bB hret [(c,_)] ?_;exact ⟨⟨1,rfl,fun h=>by cases h⟩,rfl⟩
 refine au 690670690670422120 ?_;refine TK.clE Z Z Z Z (zhP hT (n:=b.steps) (by simp [betw] at g1_5; omega) (intsA b.clean 3 false) hl) ?_;refine au 93714235 ?_;constructor<;>intro hc1
 ·refine au 35142 ?_;refine bB hret [(c,_)] ?_;exact ⟨⟨_,rfl,fun h=>absurd h (by simpa using hc1)⟩,rfl⟩
 refine au 690670670422120 ?_;refine TK.clE Z Z Z Z (z7 hT) ?_;refine au 1300 ?_;refine bF 49 (fun g6_6=>?_) (fun g6_6=>?_)
 ·refine au 3542180326088888126088888888126088888 ?_;refine bB hret [(c,_)] ?_;exact ⟨⟨1,rfl,fun h=>by cases h⟩,rfl⟩
 refine au 690670670 ?_;refine TK.clE Z Z Z Z (z7 hT) ?_;refine au 1250300 ?_;refine bF 56 (fun g6_13=>?_) (fun g6_13=>?_)
 ·refine au 3542180326088888126088888888 ?_;refine bB hret [(c,_)] ?_;exact ⟨⟨1,rfl,fun h=>by cases h⟩,rfl⟩
 refine au 690670670 ?_;refine bH Z (zd Z Z zj.h dQ) ?_;refine au 690670 ?_;refine TK.clE Z Z Z Z (z7 hT) ?_;refine au 1250300 ?_;refine bF 66 (fun g6_23=>?_) (fun g6_23=>?_)
 ·refine au 3542180326088888 ?_;refine bB hret [(c,_)] ?_;exact ⟨⟨1,rfl,fun h=>by cases h⟩,rfl⟩
 refine au 690670670 ?_;refine TK.clE Z Z Z Z (z7 hT) ?_;refine au 93250300 ?_;constructor<;>intro hc2
 ·refine au 3542 ?_;refine bB hret [(c,_)] ?_;exact ⟨⟨1,rfl,fun h=>by cases h⟩,rfl⟩
 refine au 937690670670690670670422120 ?_;constructor<;>intro hc3
 ·refine au 3542 ?_;refine bB hret [(c,_)] ?_;exact ⟨⟨7,rfl,fun h=>by cases h⟩,rfl⟩
 refine au 3542120 ?_;refine bB hret [(c,_)] ?_;exact ⟨⟨0,rfl,fun _=>⟨by simp [betw] at g1_5; omega,by simp [betw] at g1_11; omega,by simp [betw] at g1_17; omega,by simp [isBd,betw] at g1_23; omega,by simp [betw] at hc0; omega,zjv (by simpa using hc1),by simp [betw] at g6_6 g6_13 g6_23 hc2 hc3; omega⟩⟩,rfl⟩
theorem zaQ {main T} (hT:zn tp main T) {gm} {b:SlB} {c s e w:Nat} {n:Int} (hs:0<=b.steps/\b.steps<=100) :
  zq tp T gm 56 [.agg (slC b c s e w),intA n] [] (fun r K'=>r=zw (decide (0<=n)&&decide (n<=b.steps - 1))/\K'=[]):=by
 refine zm 10 hT Tryz.func56 fun Y hret=>?_;refine au 21042 ?_;intro jb hjb;refine au 24069067014235 ?_;refine TK.clE Z Z Z Z (z7 hT) ?_;refine au 35 ?_;refine bB hret [] ?_;exact ⟨rfl,rfl⟩
theorem zfk {main T} (hT:zn tp main T) {gm} {b:SlB} {c s e w:Nat} {n:Int} (hs:b.suns.length<=100) :
  zq tp T gm 57 [.agg (slC b c s e w),intA n] [] (fun r K'=>r=zw (decide (0<=n)&&decide (n<=(b.suns.length:Int) - 1))/\K'=[]):=by
 refine zm 11 hT Tryz.func57 fun Y hret=>?_;refine au 21042 ?_;intro jb hjb;refine au 24028069067014235 ?_;refine TK.clE Z Z Z Z (z7 hT) ?_;refine au 35 ?_;refine bB hret [] ?_;exact ⟨rfl,rfl⟩
theorem zfR {main T} (hT:zn tp main T) {gm} {b:SlB} {c s e w:Nat} (hl:b.clean.length<=20) (hl2:b.suns.length<=20) (hl3:b.eyes.length<=20) (hl4:b.watches.length<=20) :
  zq tp T gm 18 [.agg (slC b c s e w)] [(c,clO b),(s,suO b),(e,eyO b),(w,waO b)] (fun r K'=>(∃ z,r=intA z/\(z=0->SlBase b/\SlWat b))/\K'=[(c,clO b),(s,suO b),(e,eyO b),(w,waO b)]):=by
 refine zm 119 hT Tryz.func18 fun Y hret=>?_;refine au 21042 ?_;intro jb hjb;refine au 68042235 ?_;refine bD Z Z Z Z (zfX hT oQ) ?_;rintro r1 K2 ⟨⟨z,rfl,hz⟩,rfl⟩;refine au 0 ?_;refine bN (K':=[(jb,_),(c,_),(s,_),(e,_),(w,_)]) (List.Perm.swap _ _ _) ?_;refine au 93714235 ?_;constructor<;>intro hc0
 ·refine au 35142 ?_;refine bB hret [(c,_),(s,_),(e,_),(w,_)] ?_;exact ⟨⟨_,rfl,fun h=>absurd h (by simpa using hc0)⟩,rfl⟩
 have hrr:=hz (by simpa using hc0);have hst:=hrr.st;have hrg:=hrr.rg;refine au 280690670422120 ?_;refine TK.clE Z Z Z Z (z7 hT) ?_;refine au 93300 ?_;constructor<;>intro hc1
 ·refine au 3542 ?_;refine bB hret [(c,_),(s,_),(e,_),(w,_)] ?_;exact ⟨⟨2,rfl,fun h=>by cases h⟩,rfl⟩
 have hn1:1<=b.suns.length/\b.suns.length<=4:=by simp [betw] at hc1; omega
 refine au 13035422120 ?_;refine bA [1,4] ?_;refine bE (fun n env K=>∃ (i:Nat),n=b.suns.length - i/\i<=b.suns.length/\(∀ x∈b.suns.take i,0<=x.step/\x.step<b.steps /\ -9<=x.high/\x.high<=9)/\env=.any::.ptr jb 0::naL 2 (intA i::naL 114 [])/\K=[(jb,.cells (slC b c s e w) 36 true),(c,clO b),(s,suO b),(e,eyO b),(w,waO b)]) (b.suns.length) ⟨0,rfl,mN _,fun x hx=>by simp [betw] at hx,rfl,rfl⟩ fun n env K hI hnext=>?_;obtain ⟨i,rfl,hi,hsu,rfl,rfl⟩:=hI;refine bG nQ ?_;refine au 9372806906701422 ?_;constructor<;>intro hc2
 ·have hil:i<b.suns.length:=by simp [betw] at hc2; omega
  refine au 221302120 ?_;refine bL [0,1,2,3,4,5,6,7,8] ?_;refine ad [[12,1],[3,1],[10,25],[1,4],[2,26,27],[3,28]] ?_;refine bT [29] Z (hq:=zk Z Z ze.h (mC _) (yd (c:=0) (zaW hil Z) dQ Z)) (h:=?_);refine bQ (pend':=[⟨5,[28],[]⟩,⟨4,[26,27],[]⟩,⟨3,[4],[]⟩,⟨2,[25],[(_,_)]⟩,⟨1,[1],[]⟩]) [24,30] Z Z Z Z Z (zaQ hT oQ) (fun r7 K8 h9=>⟨?_,?_⟩)
  ·rcases h9 with ⟨rfl,rfl⟩
   all_goals simp
  obtain ⟨rfl,rfl⟩:=h9;try simp only [cA]
  refine bS tQ ?_;refine bU [31] Z (q_not Z Z) ?_;refine ad [[14]] ?_;refine au 9 ?_;constructor<;>intro hc3
  ·refine au 3542 ?_;refine bB hret [(c,_),(s,_),(e,_),(w,_)] ?_;exact ⟨⟨6,rfl,fun h=>by cases h⟩,rfl⟩
  refine au 670360169067042120 ?_;refine bH Z (zk Z Z ze.h mQ (yd (c:=1) (zaW hil Z) dQ Z)) ?_;refine TK.clE Z Z Z Z (z7 hT) ?_;refine au 93300 ?_;constructor<;>intro hc4
  ·refine au 3542 ?_;refine bB hret [(c,_),(s,_),(e,_),(w,_)] ?_;exact ⟨⟨1,rfl,fun h=>by cases h⟩,rfl⟩
  refine au 3523014140120 ?_;refine bA [1,4] ?_;refine bC [(jb,_),(c,_),(s,_),(e,_),(w,_)] ?_;exact hnext _ _ _ oQ ⟨i+1,rfl,oQ,fun x hx=>by
   rw [List.take_add_one,zbg hil] at hx;rcases lT.1 hx with hx | hx
   ·exact hsu x hx
   ·simp [betw] at hx; subst hx; simp [betw] at hc3 hc4; omega,rfl,rfl⟩
 obtain rfl:i=b.suns.length:=by simp [betw] at hc2; omega
 refine au 937280690670422160 ?_;constructor<;>intro hc5
 ·refine au 3542 ?_;refine bB hret [(c,_),(s,_),(e,_),(w,_)] ?_;exact ⟨⟨2,rfl,fun h=>by cases h⟩,rfl⟩
 have hn2:b.eyes.length<=3:=by simp [betw] at hc5; omega
 refine au 13035422120 ?_;refine bA [1,5] ?_;refine bE (fun n env K=>∃ (i:Nat),n=b.eyes.length - i/\i<=b.eyes.length/\(∀ x∈b.eyes.take i,1 - b.rf<=x.at0/\x.at0<=b.rf - 1/\0<=x.high/\x.high<=60/\x.high<b.ch)/\env=.any::.ptr jb 0::naL 3 (intA i::naL 113 [])/\K=[(jb,.cells (slC b c s e w) 36 true),(c,clO b),(s,suO b),(e,eyO b),(w,waO b)]) (b.eyes.length) ⟨0,rfl,mN _,fun x hx=>by simp [betw] at hx,rfl,rfl⟩ fun n env K hI hnext1=>?_;obtain ⟨i,rfl,hi,hey,rfl,rfl⟩:=hI;refine bG nQ ?_;refine au 9372806906701422 ?_;constructor<;>intro hc6
 ·have hil:i<b.eyes.length:=by simp [betw] at hc6; omega
  refine au 221302120 ?_;refine bL [0,1,2,3,4,5,6,7,8,9,10,11,12,13,14,15,16,17,18,19,20,21,22,23,24,25] ?_;refine ad [[3,1],[10,52],[1,5],[2,53,54],[3,55]] ?_;refine bT [56] Z (hq:=zk Z Z ze.h (mC _) (yd (c:=0) (zbZ hil Z) dQ Z)) (h:=?_);refine ad [[3,1],[3,58],[10,59],[9,60],[3,1],[3,62],[10,63],[9,64]] ?_;refine bQ (pend':=[⟨12,[63],[(_,_)]⟩,⟨11,[62],[]⟩,⟨10,[1],[]⟩,⟨8,[59],[(_,_)]⟩,⟨7,[58],[]⟩,⟨6,[1],[]⟩,⟨4,[55],[]⟩,⟨3,[53,54],[]⟩,⟨2,[5],[]⟩,⟨1,[52],[(_,_)]⟩,⟨0,[1],[]⟩]) [57,61,65] Z Z Z Z Z (z7 hT) (fun r13 K14 h15=>⟨?_,?_⟩)
  ·rcases h15 with ⟨rfl,rfl⟩
   all_goals simp
  obtain ⟨rfl,rfl⟩:=h15;try simp only [cA]
  refine bS tQ ?_;refine bU [66] Z (q_not Z Z) ?_;refine ad [[1,67]] ?_;refine TD.sp 68 (fun g18_17=>?_) (fun g18_17=>?_)
  ·refine ad [[11,1,68],[11,68,69],[11,5,68],[11,68,70,71],[11,68,72],[11,68,73],[11,68,74],[11,68,75],[7,68,76],[14]] ?_;refine au 3542180 ?_;refine bB hret [(c,_),(s,_),(e,_),(w,_)] ?_;exact ⟨⟨1,rfl,fun h=>by cases h⟩,rfl⟩
  refine ad [[3,1,68],[10,68,69],[1,5,68],[2,68,70,71],[3,68,72]] ?_;refine bT [68,73] Z (hq:=zk Z Z ze.h (mC _) (yd (c:=1) (zbZ hil Z) dQ Z)) (h:=?_);refine bQ (pend':=[⟨21,[68,72],[]⟩,⟨20,[68,70,71],[]⟩,⟨19,[5,68],[]⟩,⟨18,[68,69],[(_,_)]⟩,⟨17,[1,68],[]⟩,⟨15,[66],[]⟩,⟨12,[63],[(_,_)]⟩,⟨11,[62],[]⟩,⟨10,[1],[]⟩,⟨8,[59],[(_,_)]⟩,⟨7,[58],[]⟩,⟨6,[1],[]⟩,⟨4,[55],[]⟩,⟨3,[53,54],[]⟩,⟨2,[5],[]⟩,⟨1,[52],[(_,_)]⟩,⟨0,[1],[]⟩]) [68,74] Z Z Z Z Z (z7 hT) (fun r16 K17 h18=>⟨?_,?_⟩)
  ·rcases h18 with ⟨rfl,rfl⟩
   all_goals simp
  obtain ⟨rfl,rfl⟩:=h18;try simp only [cA]
  refine bS tQ ?_;refine bU [68,75] Z (q_not Z Z) ?_;refine ad [[6,68,76],[14]] ?_;refine au 9 ?_;constructor<;>intro hc7
  ·refine au 3542 ?_;refine bB hret [(c,_),(s,_),(e,_),(w,_)] ?_;exact ⟨⟨1,rfl,fun h=>by cases h⟩,rfl⟩
  refine au 2120 ?_;refine bL [0,1,2,3,4,5,6,7,8,9] ?_;refine ad [[3,1],[10,78],[1,5],[2,79,80],[3,81]] ?_;refine bT [82] Z (hq:=zk Z Z ze.h (mC _) (yd (c:=1) (zbZ hil Z) dQ Z)) (h:=?_);refine ad [[3,1],[3,84],[10,85],[4,83,86],[14]] ?_;refine au 9 ?_;constructor<;>intro hc8
  ·refine au 3542 ?_;refine bB hret [(c,_),(s,_),(e,_),(w,_)] ?_;exact ⟨⟨7,rfl,fun h=>by cases h⟩,rfl⟩
  refine au 3523014140120 ?_;refine bA [1,5] ?_;refine bC [(jb,_),(c,_),(s,_),(e,_),(w,_)] ?_;exact hnext1 _ _ _ oQ ⟨i+1,rfl,oQ,fun x hx=>by
   rw [List.take_add_one,zcF hil] at hx;rcases lT.1 hx with hx | hx
   ·exact hey x hx
   ·simp [betw] at hx; subst hx; simp [betw] at g18_17 hc7 hc8; omega,rfl,rfl⟩
 obtain rfl:i=b.eyes.length:=by simp [betw] at hc6; omega
 refine au 937280690670422160 ?_;constructor<;>intro hc9
 ·refine au 3542 ?_;refine bB hret [(c,_),(s,_),(e,_),(w,_)] ?_;exact ⟨⟨2,rfl,fun h=>by cases h⟩,rfl⟩
 have hn3:b.watches.length<=4:=by simp [betw] at hc9; omega
 refine au 13035422120 ?_;refine bA [1,6] ?_;refine bE (fun n env K=>∃ (i:Nat),n=b.watches.length - i/\i<=b.watches.length/\(∀ x∈b.watches.take i,watOk b x=true)/\env=.any::.ptr jb 0::naL 4 (intA i::naL 112 [])/\K=[(jb,.cells (slC b c s e w) 36 true),(c,clO b),(s,suO b),(e,eyO b),(w,waO b)]) (b.watches.length) ⟨0,rfl,mN _,fun x hx=>by simp [betw] at hx,rfl,rfl⟩ fun n env K hI hnext2=>?_;obtain ⟨i,rfl,hi,hwa,rfl,rfl⟩:=hI;refine bG nQ ?_;refine au 9372806906701422 ?_;constructor<;>intro hc10
 ·have hil:i<b.watches.length:=by simp [betw] at hc10; omega
  refine au 21302120 ?_;refine bL [0,1,2,3,4,5,6,7,8,9,10,11,12,13,14,15,16,17,18,19] ?_;refine ad [[12,1],[3,1],[10,100],[1,6],[2,101,102],[3,103]] ?_;refine bT [104] Z (hq:=zk Z Z ze.h (mC _) (yd (c:=0) (zcw hil Z) dQ Z)) (h:=?_);refine bQ (pend':=[⟨5,[103],[]⟩,⟨4,[101,102],[]⟩,⟨3,[6],[]⟩,⟨2,[100],[(_,_)]⟩,⟨1,[1],[]⟩]) [99,105] Z Z Z Z Z (zfk hT oQ) (fun r19 K20 h21=>⟨?_,?_⟩)
  ·rcases h21 with ⟨rfl,rfl⟩
   all_goals simp
  obtain ⟨rfl,rfl⟩:=h21;try simp only [cA]
  refine bS tQ ?_;refine bU [106] Z (q_not Z Z) ?_;refine ad [[1,107]] ?_;refine TD.sp 108 (fun g27_10=>?_) (fun g27_10=>?_)
  ·refine ad [[11,1,108],[11,1,108],[11,108,110],[11,6,108],[11,108,111,112],[11,108,113],[11,108,114],[11,108,109,115],[11,108,116],[7,108,117],[14]] ?_;refine au 3542180 ?_;refine bB hret [(c,_),(s,_),(e,_),(w,_)] ?_;exact ⟨⟨6,rfl,fun h=>by cases h⟩,rfl⟩
  refine ad [[12,1,108],[3,1,108],[10,108,110],[1,6,108],[2,108,111,112],[3,108,113]] ?_;refine bT [108,114] Z (hq:=zk Z Z ze.h (mC _) (yd (c:=1) (zcw hil Z) dQ Z)) (h:=?_);refine bQ (pend':=[⟨15,[108,113],[]⟩,⟨14,[108,111,112],[]⟩,⟨13,[6,108],[]⟩,⟨12,[108,110],[(_,_)]⟩,⟨11,[1,108],[]⟩,⟨8,[106],[]⟩,⟨5,[103],[]⟩,⟨4,[101,102],[]⟩,⟨3,[6],[]⟩,⟨2,[100],[(_,_)]⟩,⟨1,[1],[]⟩]) [108,109,115] Z Z Z Z Z (zaQ hT oQ) (fun r22 K23 h24=>⟨?_,?_⟩)
  ·rcases h24 with ⟨rfl,rfl⟩
   all_goals simp
  obtain ⟨rfl,rfl⟩:=h24;try simp only [cA]
  refine bS tQ ?_;refine bU [108,116] Z (q_not Z Z) ?_;refine ad [[6,108,117],[14]] ?_;refine au 9 ?_;constructor<;>intro hc11
  ·refine au 3542 ?_;refine bB hret [(c,_),(s,_),(e,_),(w,_)] ?_;exact ⟨⟨6,rfl,fun h=>by cases h⟩,rfl⟩
  refine au 3523014140120 ?_;refine bA [1,6] ?_;refine bC [(jb,_),(c,_),(s,_),(e,_),(w,_)] ?_;exact hnext2 _ _ _ oQ ⟨i+1,rfl,oQ,fun x hx=>by
   rw [List.take_add_one,vL hil] at hx;rcases lT.1 hx with hx | hx
   ·exact hwa x hx
   ·simp [betw] at hx; subst hx; unfold watOk; simp_all,rfl,rfl⟩
 obtain rfl:i=b.watches.length:=by simp [betw] at hc10; omega
 refine au 3542160 ?_;refine bB hret [(c,_),(s,_),(e,_),(w,_)] ?_;rw [lW] at hsu hey hwa;exact ⟨⟨0,rfl,fun _=>⟨⟨hrr.st,hrr.di,hrr.sp,hrr.sh,hrr.wd,hrr.cl,hrr.rg,hn1,hsu,hn2,hey⟩,⟨hn3,hwa⟩⟩⟩,rfl⟩
theorem zha {main T} (hT:zn tp main T) {gm} {b:SlB} {c s e w:Nat} :
  zq tp T gm 17 [.agg (slC b c s e w)] [] (fun r K'=>(∃ z,r=zw z/\(z=false->b.clean.length<=20/\b.suns.length<=20/\b.eyes.length<=20/\b.watches.length<=20))/\K'=[]):=by
 refine zm 25 hT Tryz.func17 fun Y hret=>?_;refine au 21042 ?_;intro jb hjb;refine au 172806906704235 ?_;refine bF 7 (fun g1_5=>?_) (fun g1_5=>?_)
 ·refine au 3526088881260888812608888 ?_;refine bB hret [] ?_;exact ⟨⟨_,rfl,fun h=>by cases h⟩,rfl⟩
 refine au 12507280690670 ?_;refine bF 13 (fun g1_11=>?_) (fun g1_11=>?_)
 ·refine au 35260888812608888 ?_;refine bB hret [] ?_;exact ⟨⟨_,rfl,fun h=>by cases h⟩,rfl⟩
 refine au 12507280690670 ?_;refine bF 19 (fun g1_17=>?_) (fun g1_17=>?_)
 ·refine au 352608888 ?_;refine bB hret [] ?_;exact ⟨⟨_,rfl,fun h=>by cases h⟩,rfl⟩
 refine au 352507280690670 ?_;refine bB hret [] ?_;exact ⟨⟨_,rfl,fun h=>by simp [betw] at g1_5 g1_11 g1_17 h; omega⟩,rfl⟩
theorem zjM {main T} (hT:zn tp main T) {gm} {b:SlB} {c s e w:Nat} :
  zq tp T gm 5 [.agg (slC b c s e w)] [(c,clO b),(s,suO b),(e,eyO b),(w,waO b)] (fun r K'=>(∃ z,r=zw z/\(z=true->SlBase b/\SlWat b/\b.clean.length<=20))/\K'=[(c,clO b),(s,suO b),(e,eyO b),(w,waO b)]):=by
 refine zm 11 hT Tryz.func5 fun Y hret=>?_;refine au 21042 ?_;intro jb hjb;refine au 6804235 ?_;refine bD Z Z Z Z (zha hT) ?_;rintro r1 K2 ⟨⟨z,rfl,hz⟩,rfl⟩;refine au 1300 ?_;refine bF 6 (fun g1_4=>?_) (fun g1_4=>?_)
 ·obtain ⟨hl1,hl2,hl3,hl4⟩:=hz (by simpa using g1_4);refine au 680 ?_;refine bD Z Z Z Z (zfR hT hl1 hl2 hl3 hl4) ?_;rintro r4 K5 ⟨⟨c0,rfl,hck⟩,rfl⟩;refine au 352607 ?_;refine bB hret [(c,_),(s,_),(e,_),(w,_)] ?_;exact ⟨⟨_,rfl,fun h=>have hh:=hck (by simpa using h); ⟨hh.1,hh.2,hl1⟩⟩,rfl⟩
 refine au 35250888 ?_;refine bB hret [(c,_),(s,_),(e,_),(w,_)] ?_;exact ⟨⟨_,rfl,fun h=>by cases h⟩,rfl⟩
end Go.Vel
namespace Go.Vel
def oppN (b:SlB) (h n:Int):Int:=(n - (sunI b h).step - b.steps / 2+2*b.steps) % b.steps
def litQ (b:SlB) (sh:Int) (dl:List Int) (h n:Int):Bool:=if (decide ((sunI b h).high+sh<=0)||dl.contains (sunI b h).step)=true then false else decide (min (oppN b h n) (b.steps - oppN b h n)<=((sunI b h).high+sh) / b.slope)
def setD (d:List Bool) (dl:List Int):List Bool:=dl.foldl (fun d n=>d.set n.toNat true) d
def skyT (sh:Int) (dl:List Int):SkyR:=⟨sh,setD zero12 dl⟩
theorem ze7:∀ (dl:List Int) (d:List Bool) (k:Int),d.length=12->(∀ n∈dl,0<=n/\n<12)->0<=k/\k<12->(setD d dl).length=12/\(setD d dl).getD k.toNat false=(dl.contains k||d.getD k.toNat false)
 | [],d,k,hd,_,_=>⟨hd,rfl⟩
 | n::r,d,k,hd,h,hk=>by
  have hn:=h n (.head _);obtain ⟨h1,h2⟩:=ze7 r (d.set n.toNat true) k (by rw [List.length_set]; exact hd) (fun m hm=>h m (.tail _ hm)) hk;refine ⟨h1,h2.trans ?_⟩;rw [List.contains_cons];by_cases e:k=n
  ·subst e;have:(d.set k.toNat true).getD k.toNat false=true:=by rw [lE,List.getElem?_set_self oQ]; rfl
   rw [this]; simp
  ·have:(d.set n.toNat true).getD k.toNat false=d.getD k.toNat false:=by rw [lE,List.getElem?_set_ne oQ,<- lE]
   rw [this];have e2:(k==n)=false:=by simpa using e
   rw [e2,Bool.false_or]
theorem zkJ {sh:Int} {dl:List Int} {k:Int} (h:∀ n∈dl,0<=n/\n<12) (hk:0<=k/\k<12):(skyT sh dl).dirty.getD k.toNat false=dl.contains k:=by
 refine (ze7 dl zero12 k (by simp [zero12]) h hk).2.trans ?_;have:zero12.getD k.toNat false=false:=by
  unfold zero12;rw [lE,List.getElem?_replicate];split <;> rfl
 rw [this,Bool.or_false]
theorem znk {b:SlB} (hb:SlBase b) {h n:Int} (hn:0<=n/\n<b.steps):oppN b h n=onL b h n:=by
 unfold oppN onL;have h0:=hb.st;have e:n - (sunI b h).step - b.steps / 2+2*b.steps=(n - ((sunI b h).step+b.steps / 2) % b.steps+b.steps)+(1 - ((sunI b h).step+b.steps / 2) / b.steps)*b.steps:=by
  have:=Int.emod_add_mul_ediv ((sunI b h).step+b.steps / 2) b.steps;rw [Int.mul_comm] at this;rw [Int.sub_mul,Int.one_mul];omega
 rw [e,Int.add_mul_emod_self_right]
theorem zjJ {b:SlB} (hb:SlBase b) {sh:Int} {dl:List Int} {h:Nat} {n:Int} (hd:∀ n∈dl,0<=n/\n<12) (hh:h<b.suns.length) (hn:0<=n/\n<b.steps):(fallsM b (skyT sh dl) h).getD n.toNat false=litQ b sh dl h n:=by
 have hq:=hb.sun _ (lN (zbg hh));have h0:=hb.st;have hdk:darkS b (skyT sh dl) h=(decide ((sunI b h).high+sh<=0)||dl.contains (sunI b h).step):=by
  unfold darkS;rw [zkJ hd oQ];rfl
 unfold fallsM litQ;rw [hdk];by_cases e:(decide ((sunI b h).high+sh<=0)||dl.contains (sunI b h).step)=true
 ·rw [if_pos e,if_pos e,lE,List.getElem?_replicate];split <;> rfl
 ·rw [if_neg e,if_neg e];unfold fallsI;rw [lE,List.getElem?_map,List.getElem?_range oQ];show (decide (((n.toNat:Nat):Int)<b.steps)&&litN b (skyT sh dl) h ((n.toNat:Nat):Int))=_;rw [Int.toNat_of_nonneg hn.1,decide_eq_true hn.2,Bool.true_and];unfold litN;rw [znk hb hn];rfl
theorem ziV {b:SlB} {sh:Int} (hs:b.lo<=sh/\sh<=b.hi):∀ (dl:List Int) (step:Int) (d:List Bool),dl.Pairwise (· < ·)->(∀ n∈dl,step<=n/\n<b.steps/\b.clean.contains n=false)->(⟨sh,setD d dl⟩:SkyR)∈skyM b dl.length step d
 | [],step,d,_,_=>by
  unfold skyM shiftsI;refine lY.2 ⟨(sh - b.lo).toNat,List.mem_range.2 oQ,?_⟩;rw [show b.lo+((sh - b.lo).toNat:Int)=sh by omega];rfl
 | n::r,step,d,hp,h=>by
  obtain ⟨h1,h2,h3⟩:=h n (.head _);obtain ⟨hp1,hp2⟩:=List.pairwise_cons.1 hp;show _∈skyM b (r.length+1) step d;unfold skyM;refine List.mem_flatMap.2 ⟨(n - step).toNat,List.mem_range.2 oQ,?_⟩;rw [show step+((n - step).toNat:Int)=n by omega,h3,if_neg dQ];exact ziV hs r (n+1) _ hp2 fun m hm=>⟨by have:=hp1 m hm; omega,(h m (.tail _ hm)).2.1,(h m (.tail _ hm)).2.2⟩
def chM (p:List Int) (k:Nat):Int:=p.getD k 0
def realD (b:SlB) (p:List Int):Nat->List Int
 | 0=>[]
 | i+1=>if chM p (1+i) % 3=1/\((realD b p i).length:Int)<b.dirty/\b.clean.contains (i:Int)=false then realD b p i++[(i:Int)] else realD b p i
def realS (b:SlB) (p:List Int):Int:=b.lo+chM p 0 % (b.hi - b.lo+1)
theorem zbH {b:SlB} (h0:0<=b.dirty) (p:List Int):∀ i,(realD b p i).Pairwise (· < ·)/\(∀ n∈realD b p i,0<=n/\n<i/\b.clean.contains n=false)/\((realD b p i).length:Int)<=b.dirty
 | 0=>⟨.nil,fun n hn=>(by cases hn),h0⟩
 | i+1=>by
  obtain ⟨h1,h2,h3⟩:=zbH h0 p i;unfold realD;split
  ·next hc =>
   refine ⟨List.pairwise_append.2 ⟨h1,.cons (fun _ h=>(by cases h)) .nil,fun a ha c hc'=>?_⟩,fun n hn=>?_,?_⟩
   ·rw [lS] at hc'; have:=h2 a ha; omega
   ·rcases lT.1 hn with hn | hn
    ·have:=h2 n hn; exact ⟨this.1,oQ,this.2.2⟩
    ·rw [lS] at hn; subst hn; exact ⟨by omega,oQ,hc.2.2⟩
   ·rw [lF,List.length_singleton]; have:=hc.2.1; omega
  ·exact ⟨h1,fun n hn=>by have:=h2 n hn; exact ⟨this.1,oQ,this.2.2⟩,h3⟩
theorem zkv {b:SlB} (hb:SlBase b) (p:List Int):b.lo<=realS b p/\realS b p<=b.hi:=by
 unfold realS;have:=hb.sh;have h1:=Int.emod_nonneg (chM p 0) (b:=b.hi - b.lo+1) oQ;have h2:=Int.emod_lt_of_pos (chM p 0) (b:=b.hi - b.lo+1) oQ;omega
structure RealOk (b:SlB) (sh:Int) (dl:List Int):Prop where
 sh:b.lo<=sh/\sh<=b.hi
 pw:dl.Pairwise (· < ·)
 el:∀ n∈dl,0<=n/\n<b.steps/\b.clean.contains n=false
 len:(dl.length:Int)<=b.dirty
theorem zl5 {b:SlB} (hb:SlBase b) (p:List Int):RealOk b (realS b p) (realD b p b.steps.toNat):=by
 obtain ⟨h1,h2,h3⟩:=zbH hb.di.1 p b.steps.toNat;have:=hb.st;exact ⟨zkv hb p,h1,fun n hn=>by have:=h2 n hn; exact ⟨this.1,oQ,this.2.2⟩,h3⟩
theorem zkw {b:SlB} {sh:Int} {dl:List Int} (h:RealOk b sh dl):skyT sh dl∈skiesM b:=by
 unfold skiesM skiesI;exact List.mem_flatMap.2 ⟨dl.length,List.mem_range.2 (by have:=h.len; omega),ziV h.sh dl 0 zero12 h.pw h.el⟩
def othW (b:SlB) (ws:List WatR):SlB:={ b with watches:=ws }
theorem zkn {b:SlB} (hb:SlBase b) (ws:List WatR):SlBase (othW b ws):=⟨hb.st,hb.di,hb.sp,hb.sh,hb.wd,hb.cl,hb.rg,hb.nsu,hb.sun,hb.ney,hb.eye⟩
theorem sky_o (b:SlB) (ws:List WatR):∀ (left:Nat) (step:Int) (d:List Bool),skyM (othW b ws) left step d=skyM b left step d
 | 0,_,_=>rfl
 | left+1,step,d=>by
  unfold skyM;show List.flatMap _ (List.range (b.steps - step).toNat)=_;congr 1;funext k;rw [sky_o b ws left];rfl
theorem zma (b:SlB) (ws:List WatR):skiesM (othW b ws)=skiesM b:=by
 unfold skiesM skiesI;show List.flatMap _ (List.range (b.dirty+1).toNat)=_;congr 1;funext k;exact sky_o b ws k 0 zero12
def truW (b:SlB) (sh:Int) (dl:List Int) (w:WatR):WatR:=⟨w.hour,w.step,litQ b sh dl w.hour w.step⟩
def trulyS (b:SlB) (sh:Int) (dl:List Int):SlB:=othW b (b.watches.map (truW b sh dl))
theorem zjc {b:SlB} {sh:Int} {dl:List Int} (hw:SlWat b):SlWat (trulyS b sh dl):=⟨by unfold trulyS othW; rw [lJ]; exact hw.len,fun x hx=>by
 obtain ⟨y,hy,rfl⟩:=lY.1 hx;exact hw.all y hy⟩
theorem zdA {b:SlB} (hb:SlBase b) {sh:Int} {dl:List Int} (h:RealOk b sh dl) {hr n:Int} (hh:0<=hr/\hr<b.suns.length) (hn:0<=n/\n<b.steps):rightS b (skyT sh dl) ⟨hr,n,litQ b sh dl hr n⟩=true:=by
 obtain ⟨k,rfl⟩:=Int.eq_ofNat_of_zero_le hh.1;unfold rightS;have h0:=hb.st;rw [show ((⟨(k:Int),n,litQ b sh dl k n⟩:WatR).hour)=(k:Int) from rfl,zjJ hb (fun m hm=>by have:=h.el m hm; omega) oQ hn];simp
theorem zgK {b:SlB} {x:WatR} (h:watOk b x=true):(0<=x.hour/\x.hour<b.suns.length)/\0<=x.step/\x.step<b.steps:=by
 unfold watOk at h;simp at h;omega
theorem zja {b:SlB} (hb:SlBase b) (hw:SlWat b) {sh:Int} {dl:List Int} (h:RealOk b sh dl) {hr n:Int} (hh:0<=hr/\hr<b.suns.length) (hn:0<=n/\n<b.steps):zz (ya (trulyS b sh dl) ⟨hr,n,litQ b sh dl hr n⟩)≠[]:=by
 refine List.ne_nil_of_mem (a:=skyT sh dl) (List.mem_filter.2 ⟨?_,?_⟩)
 ·rw [show ya (trulyS b sh dl) ⟨hr,n,litQ b sh dl hr n⟩=othW b (b.watches.map (truW b sh dl)++[⟨hr,n,litQ b sh dl hr n⟩]) from rfl,zma];exact zkw h
 ·show List.all (b.watches.map (truW b sh dl)++[⟨hr,n,litQ b sh dl hr n⟩]) (rightS b (skyT sh dl))=true;rw [List.all_append,List.all_map];refine Bool.and_eq_true_iff.2 ⟨List.all_eq_true.2 fun w hm=>?_,?_⟩
  ·obtain ⟨h1,h2⟩:=zgK (hw.all w hm);exact zdA hb h h1 h2
  ·show (rightS b (skyT sh dl) _&&true)=true;rw [zdA hb h hh hn]; rfl
def hrsI (b:SlB) (y:SkyR) (n:Int):Nat->Nat
 | 0=>0
 | k+1=>hrsI b y n k+if (fallsM b y k).getD n.toNat false=true then 1 else 0
def hrsM (b:SlB) (y:SkyR) (n:Int):Nat:=hrsI b y n b.suns.length
theorem zgj (b:SlB) (y:SkyR) (n:Int):∀ k,hrsI b y n k<=k
 | 0=>mL _
 | k+1=>by unfold hrsI; have:=zgj b y n k; split <;> omega
def loH (b:SlB) (n:Int) (l:List SkyR):Int:=l.foldl (fun a y=>min a (hrsM b y n:Int)) b.suns.length
def hiH (b:SlB) (n:Int) (l:List SkyR):Int:=l.foldl (fun a y=>max a (hrsM b y n:Int)) 0
theorem zcc (b:SlB) (n:Int):∀ (l:List SkyR) (a:Int),l.foldl (fun a y=>min a (hrsM b y n:Int)) a<=a/\(∀ y∈l,l.foldl (fun a y=>min a (hrsM b y n:Int)) a<=hrsM b y n)/\∀ v,v<=a->(∀ y∈l,v<=hrsM b y n)->v<=l.foldl (fun a y=>min a (hrsM b y n:Int)) a
 | [],a=>⟨Int.le_refl _,fun y hy=>(by cases hy),fun v h _=>h⟩
 | x::r,a=>by
  obtain ⟨h1,h2,h3⟩:=zcc b n r (min a (hrsM b x n:Int));rw [List.foldl_cons];refine ⟨by omega,fun y hy=>?_,fun v h h'=>h3 v (by have:=h' x (.head _); omega) fun y hy=>h' y (.tail _ hy)⟩;rcases lI.1 hy with rfl | hy
  ·omega
  ·exact h2 y hy
theorem zep (b:SlB) (n:Int):∀ (l:List SkyR) (a:Int),a<=l.foldl (fun a y=>max a (hrsM b y n:Int)) a/\(∀ y∈l,(hrsM b y n:Int)<=l.foldl (fun a y=>max a (hrsM b y n:Int)) a)/\∀ v,a<=v->(∀ y∈l,(hrsM b y n:Int)<=v)->l.foldl (fun a y=>max a (hrsM b y n:Int)) a<=v
 | [],a=>⟨Int.le_refl _,fun y hy=>(by cases hy),fun v h _=>h⟩
 | x::r,a=>by
  obtain ⟨h1,h2,h3⟩:=zep b n r (max a (hrsM b x n:Int));rw [List.foldl_cons];refine ⟨by omega,fun y hy=>?_,fun v h h'=>h3 v (by have:=h' x (.head _); omega) fun y hy=>h' y (.tail _ hy)⟩;rcases lI.1 hy with rfl | hy
  ·omega
  ·exact h2 y hy
theorem hrs_w (b:SlB) (w:WatR) (y:SkyR) (n:Int):hrsM (ya b w) y n=hrsM b y n:=by
 unfold hrsM;show hrsI (ya b w) y n b.suns.length=_;have:∀ k,hrsI (ya b w) y n k=hrsI b y n k:=by
  intro k
  induction k with
  | zero=>rfl
  | succ k ih=>unfold hrsI; rw [ih]; rfl
 exact this _
theorem zgi {b:SlB} {w:WatR} {n:Int}:(0<=loH b n (zz b)/\loH b n (zz b)<=b.suns.length)/\loH b n (zz b)<=loH (ya b w) n (zz (ya b w))/\loH (ya b w) n (zz (ya b w))<=b.suns.length/\hiH (ya b w) n (zz (ya b w))<=hiH b n (zz b):=by
 obtain ⟨a1,a2,a3⟩:=zcc b n (zz b) b.suns.length;obtain ⟨c1,c2,c3⟩:=zcc (ya b w) n (zz (ya b w)) b.suns.length;obtain ⟨d1,d2,d3⟩:=zep b n (zz b) 0;obtain ⟨e1,e2,e3⟩:=zep (ya b w) n (zz (ya b w)) 0;refine ⟨⟨a3 0 oQ fun y _=>by omega,a1⟩,c3 _ a1 fun y hy=>?_,c1,e3 _ d1 fun y hy=>?_⟩
 ·rw [hrs_w]; exact a2 y (zbO hy)
 ·rw [hrs_w]; exact d2 y (zbO hy)
end Go.Vel
namespace Go.Vel
open Go Go.Conc Go.Proofs
theorem uF (a:Int) {n:Int} (h:0<n):0<=a % n/\a % n<n:=⟨Int.emod_nonneg _ oQ,Int.emod_lt_of_pos _ h⟩
theorem zmK {b:SlB} {sh:Int} {xs:List Int} {i n:Int} (h:decide ((sunI b i).high+sh<=0)=true):litQ b sh xs i n=false:=by unfold litQ; rw [h] <;> rfl
theorem zmL {b:SlB} {sh:Int} {xs:List Int} {i n:Int} (h:(sunI b i).step∈xs):litQ b sh xs i n=false:=by unfold litQ; rw [show xs.contains (sunI b i).step=true by simpa using h,Bool.or_true] <;> rfl
theorem zmM {b:SlB} {sh:Int} {xs:List Int} {i n:Int} (h1:0<(sunI b i).high+sh) (h:(sunI b i).step∉xs):decide ((if b.steps - oppN b i n<oppN b i n then b.steps - oppN b i n else oppN b i n)<=((sunI b i).high+sh) / b.slope)=litQ b sh xs i n:=by
 have e:(decide ((sunI b i).high+sh<=0)||xs.contains (sunI b i).step)=false:=by rw [show xs.contains (sunI b i).step=false by simpa using h,decide_eq_false (show ¬ ((sunI b i).high+sh<=0) by omega)]; rfl
 have:(if b.steps - oppN b i n<oppN b i n then b.steps - oppN b i n else oppN b i n)=min (oppN b i n) (b.steps - oppN b i n):=by split <;> omega
 rw [this];unfold litQ;rw [e,if_neg dQ]
instance:zj tp 42 0 0 false 1:={}
instance:zj tp 42 1 1 false 1:={}
theorem zcL {main T} (hT:zn tp main T) {gm} {b:SlB} {c s e w:Nat} {j off:Nat} {ob:AObj} {xs:List Int} {sh:Int} {h n:Int} (hb:SlBase b) (hI:IntsAt ob off xs) (hl:xs.length<=1000) (hsh : -3<=sh/\sh<=3) (hh:0<=h/\h<b.suns.length) (hn:0<=n/\n<b.steps) :
  zq tp T gm 10 [.agg (slC b c s e w),.agg [intA sh,.sl j off xs.length],intA h,intA n] [(s,suO b),(j,ob)] (fun r K'=>r=zw (litQ b sh xs h n)/\K'=[(s,suO b),(j,ob)]):=by
 refine zm 57 hT Tryz.func10 fun Y hret=>?_;refine au 0 ?_;obtain ⟨i,rfl⟩:=Int.eq_ofNat_of_zero_le hh.1;have hil:i<b.suns.length:=by omega
 have hq:=zfs hb hil;have hst:=hb.st;have hsp:=hb.sp;refine au 21042 ?_;intro jb hjb;refine au 210 ?_;intro jz hjz;refine au 36016906704235 ?_;refine bH Z (zK Z Z ze.h mQ (zaW hil Z)) ?_;refine au 220 ?_;intro jx hjx;refine au 17142235230690670690670423170 ?_;refine bF 24 (fun g3_3=>?_) (fun g3_3=>?_)
 ·refine au 3542180326088888 ?_;refine bB hret [(s,_),(j,_)] ?_;exact ⟨by rw [zmK g3_3] <;> rfl,rfl⟩
 have hpos:0<(sunI b i).high+sh:=by simp at g3_3; omega
 refine au 690670690670 ?_;refine TK.clE Z Z Z Z (zer hT hI hl) ?_;refine au 93250 ?_;constructor<;>intro hc0
 ·refine au 3542 ?_;refine bB hret [(s,_),(j,_)] ?_;exact ⟨by rw [zmL (by simpa using hc0)] <;> rfl,rfl⟩
 refine au 690670240690670142120 ?_;refine bH Z (q_quo Z Z Z oQ oQ oQ) ?_;refine au 690670240 ?_;refine bH Z (q_mul Z Z Z oQ) ?_;refine au 690670230 ?_;refine bH Z (q_rem Z Z Z oQ oQ) ?_;refine au 235 ?_;have hmb:=uF (n - (sunI b i).step - b.steps / 2+2*b.steps) (n:=b.steps) oQ;refine bL [0,1,2,3,4,5,6,7,8,9,10,11] ?_;refine ad [[1,11],[3,4],[10,47],[1,11],[9,48,49]] ?_;refine bU [46,50] Z (q_min Z Z Z) ?_;refine ad [[1,10],[3,4],[10,53]] ?_;refine bU [52,54] Z (q_quo Z Z Z oQ oQ oQ) ?_;refine ad [[4,51,55],[13,56],[14]] ?_;refine au 0 ?_;refine bB hret [(s,_),(j,_)] ?_;exact ⟨by rw [<- zmM hpos (by simpa using hc0)] <;> rfl,rfl⟩
def fcC (f:Int×Int):List AV:=[intA f.1,intA f.2]
def mv (a:Int):Value:=.int .i64 a
def fcV (f:Int×Int):Value:=.agg #[mv f.1,mv f.2]
theorem uI3:tp.underlying 3=some (.int .i64):=by kernel_rfl
theorem zhL {α β:Type} {P:Program} (s:Sem α) (f:α->Sem β):zJ P (s >>= f)=(zJ P s).bind fun a=>zJ P (f a):=by
 show zJ P (s.bind f)=_
 induction s with
 | pure a=>rfl
 | program k ih=>exact ih P
 | _=>rfl
theorem ziD {α:Type} {P:Program} (a:α):zJ P (pure a)=some a:=rfl
theorem zjC {P:Program} {d:Nat} {t:TypeId} {l:List (TypeId×Nat)} {xs ys:Array Value} {bs:List Bool} (hl:flatF P t=some l) (h:EqL P xs ys l bs):zJ P (Op.equalIn (d+2) t (.agg xs) (.agg ys))=some (bs.all id):=by
 unfold flatF at hl;split at hl
 ·rename_i fs hu;split at hl
  ·rename_i hc;simp only [mX,List.all_eq_true,Bool.not_eq_true'] at hc;obtain ⟨hall,hst⟩:=hc;show zJ _ (Op.equalIn ((d+1)+1) t _ _)=_;unfold Op.equalIn;refine zH (z6 hu) ?_;dsimp only;refine zH (a:=P) Z ?_;rw [hst];simp only [Bool.false_eq_true,if_false];refine zH (a:=(if bs.all id=true then none else some false,())) ?_ (by cases bs.all id <;> rfl);rw [<- Array.forIn_toList];refine zga _ fs.toList (fun f hf v w b hv hw h1 h2 he=>?_) (Option.some.inj hl) h
   have hn:f.name ≠ "_" := by have:=(hall f hf).1; simpa using this
   have hs:=(hall f hf).2;rw [if_pos hn];refine zH (wN hs hv) (zH (wN hs hw) (zH (zgb (d:=d) h1 h2 he) ?_));cases b <;> rfl
  ·cases hl
 ·cases hl
theorem zf5 {d:Nat} {e:Bool} {a:Int} {t:TypeId} (h:tp.underlying t=some (.int .i64)):zJ tp (Instr.checkKey e (d+1) t (mv a))=some ():=by
 unfold Instr.checkKey;exact zH (z6 h) rfl
theorem zie {P:Program} {F:Field->PUnit->Sem (ForInStep PUnit)}:∀ fl:List Field,(∀ f∈fl,zJ P (F f PUnit.unit)=some (.yield PUnit.unit))->zJ P (forIn fl PUnit.unit F)=some PUnit.unit
 | [],_=>rfl
 | f::fl,h=>by
  rw [List.forIn_cons];exact zH (h f sQ) (zie fl fun f hf=>h f (by simp [hf]))
theorem zi8 (f:Int×Int):toV (.agg (fcC f))=some (fcV f):=rfl
end Go.Vel
end
