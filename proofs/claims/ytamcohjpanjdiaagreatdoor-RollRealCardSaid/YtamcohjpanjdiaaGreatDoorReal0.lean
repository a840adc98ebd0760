/- The law RollReal: what is told holds of what really is. It holds of every program, tape and world that the statements name, as each theorem says. -/
import Derived.Sort.AssemblyPlain
import Derived.Sort.LotD3
import Derived.Test.YtamcohjpanjdiaaGreatDoorK5
import Derived.Test.YtamcohjpanjdiaaGreatDoorK7
import Derived.Test.YtamcohjpanjdiaaGreatDoorK8
import Derived.Test.YtamcohjpanjdiaaGreatDoorK10
section
set_option linter.all false
set_option maxRecDepth 20000
set_option maxHeartbeats 60000000
namespace Go.Vel
open Go Go.Conc
section
variable {P:Program} {gm:Nat->Option Nat} {T:Goroutine->Hp->Prop} {Y:KX P gm T} {ds:List Nat} {k:List Item} {env env':List AV} {K:KV} {ops:Array Oper} {i d id:Nat} {L':List Nat} {o:Oper} {r:AV} {pend:List Pd}
theorem TD.mv (s:List Nat) (h:TD Y ds ops k (⟨i,s,[]⟩::pend) L' env' K) (ho:ops[i]? =some o:=by rfl) (hq:∀ A,zM [] A->OpOk P gm (onl s env) A o r A:=by exact zh rfl rfl) (hd:yb o.op=false:=by rfl) (hw:zK ops (onl s env) o=some true:=by rfl) (hc:chkQ ops pend s i env.length o.dst=true:=by rfl) (hx:o.dst=some d:=by rfl) (he:env.set d r=env':=by simp only [List.set]; rfl):TD Y ds ops k pend (i::L') env K:=TD.z s ho hq h hd hw hc hx he
theorem TD.ix (s:List Nat) (h:TD Y ds ops k (⟨i,s,[]⟩::pend) L' env' K) (ho:ops[i]? =some o:=by rfl) (hq:∀ A,zM [] A->OpOk P gm (onl s env) A o r A:=by exact zQ rfl rfl rfl zF.h (by omega) (by omega)) (hd:yb o.op=false:=by rfl) (hw:zK ops (onl s env) o=some true:=by rfl) (hc:chkQ ops pend s i env.length o.dst=true:=by rfl) (hx:o.dst=some d:=by rfl) (he:env.set d r=env':=by simp only [List.set]; rfl):TD Y ds ops k pend (i::L') env K:=TD.z s ho hq h hd hw hc hx he
theorem TK.dr (L ρg:List Nat) (h:TD Y ds ops k [] L env K) (hd:drawnOk ops (List.range ops.size) ρg=true:=by kernel_rfl) (hL:(List.range ops.size).all (fun i=>L.elem i)&&L.all (fun i=>decide (i<ops.size))=true:=by kernel_rfl):TK Y ds (.code (.region id ops true)::k) env K:=TK.draw L ρg hd hL h
end
end Go.Vel
open Go.Proofs.Tryz renaming prog -> tp
open List renaming getElem?_eq_getElem -> lA, nil_append -> lC, getElem?_eq_some_iff -> lD, getD_eq_getElem?_getD -> lE, length_append -> lF, mem_cons -> lI, length_map -> lJ, map_append -> lM, append_nil -> lR, mem_singleton -> lS, mem_append -> lT, getElem?_eq_none -> lU, take_length -> lW, getElem?_set -> lX, mem_map -> lY, length_cons -> lZ, replicate -> mB
open List.Mem renaming head -> mC
open Nat renaming le_refl -> mL, zero_le -> mN, zero_add -> mO
open Bool renaming and_eq_true -> mX
namespace Go.Vel
open Go Go.Conc
theorem xh {xs:List Int} (hs:∀ i j,i<j->j<xs.length->zN xs i<=zN xs j):∀ p,p<=xs.length->(compN xs p).Pairwise (· < ·)/\(∀ z,z∈compN xs p↔z∈xs.take p)/\(∀ z∈compN xs p,0<p/\z<=zN xs (p - 1))
 | 0,_=>⟨.nil,fun z=>by simp [compN],fun z hz=>by cases hz⟩
 | 1,h=>by
  have e:xs.take 1=[zN xs 0]:=by rw [yP (z5 (l:=xs) (k:=0) oQ)]; rfl
  refine ⟨?_,fun z=>Iff.rfl,fun z hz=>?_⟩
  ·show (xs.take 1).Pairwise _
   rw [e]; exact List.pairwise_singleton _ _
  ·have hz:z∈xs.take 1:=hz
   rw [e] at hz
   exact ⟨by omega,by rw [lS.1 hz]; exact Int.le_refl _⟩
 | p+2,h=>by
  obtain ⟨h1,h2,h3⟩:=xh hs (p+1) oQ
  have hle:=hs p (p+1) oQ oQ
  have ht:xs.take (p+2)=xs.take (p+1)++[zN xs (p+1)]:=yP (z5 oQ)
  by_cases e:zN xs p=zN xs (p+1)
  ·rw [vW e]
   have hm:zN xs p∈xs.take (p+1):=by rw [yP (z5 (l:=xs) (k:=p) oQ)]; simp
   refine ⟨h1,fun z=>?_,fun z hz=>⟨by omega,?_⟩⟩
   ·rw [ht,h2 z,lT,lS]
    exact ⟨.inl,fun hh=>hh.elim id fun hh=>by rw [hh,<- e]; exact hm⟩
   ·have:=(h3 z hz).2
    rw [Nat.add_sub_cancel] at this
    show z<=zN xs (p+1)
    omega
  ·rw [vX e]
   refine ⟨List.pairwise_append.2 ⟨h1,List.pairwise_singleton _ _,fun x hx y hy=>?_⟩,fun z=>?_,fun z hz=>⟨by omega,?_⟩⟩
   ·rw [lS.1 hy]
    have:=(h3 x hx).2
    rw [Nat.add_sub_cancel] at this
    omega
   ·rw [ht,lT,lT,h2 z]
   ·show z<=zN xs (p+1)
    rcases lT.1 hz with hz | hz
    ·have:=(h3 z hz).2
     rw [Nat.add_sub_cancel] at this
     omega
    ·rw [lS.1 hz]; exact Int.le_refl _
def msI (xs:List Int):List Int:=xs.mergeSort fun x y=>decide (x<=y)
theorem xN (xs:List Int):(msI xs).length=xs.length:=(List.mergeSort_perm ..).length_eq
theorem qS {xs:List Int} {z:Int}:z∈msI xs↔z∈xs:=(List.mergeSort_perm ..).mem_iff
theorem qR (xs:List Int):∀ i j,i<j->j<(msI xs).length->zN (msI xs) i<=zN (msI xs) j:=fun i j hij hj=>by
 have hp:(msI xs).Pairwise fun x y=>decide (x<=y)=true:=List.pairwise_mergeSort (le:=fun x y:Int=>decide (x<=y)) (fun a b c h1 h2=>decide_eq_true (Int.le_trans (of_decide_eq_true h1) (of_decide_eq_true h2))) (fun a b=>by rcases Int.le_total a b with h | h <;> simp [h]) xs
 have h1:=z5 (l:=msI xs) (k:=i) oQ
 have h2:=z5 hj
 have:=List.pairwise_iff_getElem.1 hp i j oQ hj hij
 rw [lA oQ] at h1
 rw [lA hj] at h2
 rw [Option.some.inj h1,Option.some.inj h2] at this
 exact of_decide_eq_true this
def setI (xs:List Int):List Int:=compM (msI xs)
theorem qC {xs:List Int} {z:Int}:z∈setI xs↔z∈xs:=by
 have:=(xh (qR xs) _ (mL _)).2.1 z
 rw [lW] at this
 exact this.trans qS
theorem qB (xs:List Int):(setI xs).length<=xs.length:=by
 have h:(setI xs).length<=(msI xs).length:=zbz (msI xs) _ (mL _)
 rwa [xN] at h
def shrI (b:RBk) (n:Int):List Int:=setI ((zf b).map fun s=>zN s n.toNat)
theorem qD {b:RBk} {n z:Int}:z∈shrI b n↔∃ s∈zf b,zN s n.toNat=z:=by
 unfold shrI
 rw [qC,lY]
theorem jT (b:RBk) (all:List (List Int)) (l:List Int):sqOk b all l=true↔∀ s∈all,(hangM b l s).isSome=true:=by
 unfold sqOk squaresM waysM
 have key:(all.filterMap (hangM b l)).length<all.length↔¬ ∀ s∈all,(hangM b l s).isSome=true:=by
  induction all with
  | nil=>simp
  | cons s r ih =>
   have hle:(r.filterMap (hangM b l)).length<=r.length:=List.length_filterMap_le _ _
   cases hs:hangM b l s with
   | none =>
    rw [List.filterMap_cons_none hs]
    simp [hs]
    omega
   | some z =>
    rw [List.filterMap_cons_some hs,lZ,lZ,Nat.succ_lt_succ_iff,ih]
    simp [hs]
 by_cases h:(all.filterMap (hangM b l)).length<all.length
 ·rw [if_pos h]
  simp only [Option.isSome_none,Bool.false_eq_true,false_iff]
  exact key.1 h
 ·rw [if_neg h]
  simp only [Option.isSome_some,true_iff]
  exact Classical.not_not.1 fun hh=>h (key.2 hh)
theorem ql:∀ m:Fin 6,∀ k:Fin 5,k.1<m.1->zw (2 ^ k.1) m.1=[(k.1:Int)]:=by decide
theorem xX:∀ i,zw 0 i=[]
 | 0=>rfl
 | i+1=>by unfold zw; rw [xX i,Nat.zero_div]; rfl
theorem jS (c m:Nat):∀ i,i<=m->zw (c % 2 ^ m) i=zw c i
 | 0,_=>rfl
 | i+1,h=>by
  unfold zw
  rw [jS c m i oQ]
  have h1:=Nat.testBit_mod_two_pow c m i
  rw [Nat.testBit_eq_decide_div_mod_eq,Nat.testBit_eq_decide_div_mod_eq,decide_eq_true (show i<m by omega),Bool.true_and] at h1
  have h2:(c % 2 ^ m / 2 ^ i % 2=1)=(c / 2 ^ i % 2=1):=propext (by simpa using h1)
  simp only [h2]
def otherM (c n:Nat):List Int:=if zw c n=[] then [((c % n:Nat):Int)] else zw c n
theorem xS {c n:Nat} (h1:1<=n) (h5:n<=5):∃ d,0<d/\d<2 ^ n/\otherM c n=zw d n:=by
 unfold otherM
 split
 ·have hm:=Nat.mod_lt c h1
  exact ⟨2 ^ (c % n),Nat.two_pow_pos _,Nat.pow_lt_pow_right dQ hm,(ql ⟨n,oQ⟩ ⟨c % n,oQ⟩ hm).symm⟩
 ·rename_i h
  refine ⟨c % 2 ^ n,?_,Nat.mod_lt _ (Nat.two_pow_pos _),(jS c n n (mL _)).symm⟩
  rcases Nat.eq_zero_or_pos (c % 2 ^ n) with h0 | h0
  ·exact absurd (by rw [<- jS c n n (mL _),h0]; exact xX n) h
  ·exact h0
theorem xv {b:RBk}:∀ (l:List RSeam) (last:Int),(∀ s∈l,seamB b s=true/\last<s.step)->(l.Pairwise fun s t=>s.step<t.step)->seamsL b last l=0
 | [],_,_,_=>rfl
 | s::r,last,h,hp=>by
  obtain ⟨p1,p2⟩:=List.pairwise_cons.1 hp
  have h1:=h s sQ
  unfold seamsL
  rw [if_neg (by rw [h1.1]; decide),if_neg oQ]
  exact xv r _ (fun t ht=>⟨(h t (by simp [ht])).1,p1 t ht⟩) p2
theorem xg {b:RBk}:∀ (l:List RBand) (i:Nat),(∀ k x,l[k]? =some x->bandB x=true/\x.high<wideM b (i+k))->clothsL b i l=0
 | [],_,_=>rfl
 | x::r,i,h=>by
  have h1:=h 0 x rfl
  unfold clothsL
  rw [if_neg (by rw [h1.1]; decide),if_neg (by have:=h1.2; rw [Nat.add_zero] at this; omega)]
  exact xg r _ fun k y hy=>by
   have:=h (k+1) y (by simpa using hy)
   rwa [show i+(k+1)=i+1+k by omega] at this
theorem xM {b:RBk}:∀ (l:List RMeas),(∀ m∈l,0<=m.cloth/\m.cloth<b.seams.length/\1<=m.many/\m.many<=b.seams.length/\0<=m.wide/\m.wide<=24)->measL b l=0
 | [],_=>rfl
 | m::r,h=>by
  have h1:=h m sQ
  have h2:thereM b m.cloth=0:=by unfold thereM; rw [if_pos (by simp [betw]; omega)]
  have h3:measB b m=true:=by simp only [measB,betw,mX,decide_eq_true_eq]; omega
  unfold measL
  rw [if_neg (by rw [h2]; decide),if_neg (by rw [h3]; decide)]
  exact xM r fun y hy=>h y (by simp [hy])
theorem qw {b:RBk} (h:ROk b):zr b=0:=by
 have hr:=h.rnd
 have h1:roundsM b=0:=by
  unfold roundsM
  rw [if_pos]
  simp only [betw,mX,decide_eq_true_eq]
  exact ⟨⟨⟨hr.steps,hr.round⟩,hr.roll⟩,hr.rolls⟩
 have hs:=h.sms
 have sat:∀ i,(hi:i<b.seams.length)->b.seams[i]=sm b i:=fun i hi=>by
  have:=yV hi
  rw [lA hi] at this
  exact Option.some.inj this
 have h2:seamsM b=0:=by
  have hbl:betw b.seams.length 1 5=true:=by
   have:=hs.len
   simp only [betw,mX,decide_eq_true_eq]
   omega
  unfold seamsM
  rw [if_neg (by rw [hbl]; decide)]
  refine xv _ _ (fun s hm=>?_) (List.pairwise_iff_getElem.2 fun i j hi hj hij=>by rw [sat i hi,sat j hj]; exact hs.asc i j hij hj)
  obtain ⟨i,hi,rfl⟩:=List.getElem_of_mem hm
  rw [sat i hi]
  have:=hs.fld i hi
  exact ⟨by simp only [seamB,betw,mX,decide_eq_true_eq]; omega,oQ⟩
 have h3:clothsM b=0:=by
  unfold clothsM
  rw [if_neg (by rw [h.cls.len]; simp)]
  refine xg _ _ fun k x hx=>?_
  have hk:k<b.shrinks.length:=by
   rcases Nat.lt_or_ge k b.shrinks.length with h | h
   ·exact h
   ·rw [lU h] at hx; cases hx
  rw [ko hk] at hx
  cases hx
  have:=h.cls.bnd k (by have:=h.cls.len; omega)
  exact ⟨by simp only [bandB,isBd,mX,decide_eq_true_eq]; omega,by rw [mO]; exact this.2.2.2.2⟩
 have h4:measM b=0:=by
  unfold measM
  have:=h.mes.len
  rw [if_neg oQ]
  exact xM _ h.mes.bnd
 unfold zr
 rw [if_neg (by rw [h1]; decide),if_neg (by rw [h2]; decide),if_neg (by rw [h3]; decide)]
 exact h4
def sumF (f:Nat->Int):Nat->Int
 | 0=>0
 | k+1=>sumF f k+f k
theorem jH {f g:Nat->Int}:∀ n,(∀ i,i<n->f i=g i)->sumF f n=sumF g n
 | 0,_=>rfl
 | n+1,h=>by
  unfold sumF
  rw [jH n (fun i hi=>h i oQ),h n oQ]
theorem jU {f g:Nat->Int} {k:Nat}:∀ n,k<n->(∀ i,i≠k->g i=f i)->sumF g n=sumF f n - f k+g k
 | 0,h,_=>by omega
 | n+1,h,he=>by
  unfold sumF
  by_cases e:k=n
  ·subst e
   rw [jH k (fun i hi=>he i oQ)]
   omega
  ·rw [jU n oQ he,he n (fun h=>e h.symm)]
   omega
theorem jJ {f:Nat->Int} {n:Nat} (h:∀ i,n<=i->f i=0):∀ k,sumF f (n+k)=sumF f n
 | 0=>rfl
 | k+1=>by
  show sumF f (n+k)+f (n+k)=_
  rw [jJ h k,h _ oQ,Int.add_zero]
theorem xx (f g:Nat->Int):∀ n,sumF (fun i=>f i+g i) n=sumF f n+sumF g n
 | 0=>rfl
 | n+1=>by
  show sumF (fun i=>f i+g i) n+(f n+g n)=sumF f n+f n+(sumF g n+g n)
  rw [xx f g n]
  omega
theorem xy (f g:Nat->Int):∀ n,sumF (fun i=>f i - g i) n=sumF f n - sumF g n
 | 0=>rfl
 | n+1=>by
  show sumF (fun i=>f i - g i) n+(f n - g n)=sumF f n+f n - (sumF g n+g n)
  rw [xy f g n]
  omega
theorem xi {lt:Int->Int->Bool} {x:Int} {S:List Int}:∀ j,j<=S.length->(insJ lt x S j).Perm (x::S)
 | 0,_=>List.Perm.refl _
 | j+1,h=>by
  unfold insJ
  rw [lA oQ]
  dsimp only
  split
  ·exact xi j oQ
  ·have h1:=List.perm_middle (a:=x) (l₁:=S.take (j+1)) (l₂:=S.drop (j+1))
   rwa [List.take_append_drop] at h1
theorem jY {lt:Int->Int->Bool} {l:List Int}:∀ i,i<=l.length->(sortN lt l i).Perm (l.take i)
 | 0,_=>by rw [List.take_zero]; exact List.Perm.refl _
 | i+1,h=>by
  have hg:l[i]? =some l[i]:=lA oQ
  rw [wA hg,yP hg]
  exact (xi _ (mL _)).trans ((List.Perm.cons _ (jY i oQ)).trans (List.perm_append_singleton _ _).symm)
theorem qc (b:RBk) (l:List Int):(ordM b l).Nodup:=by
 unfold ordM sortR
 refine (jY _ (mL _)).nodup_iff.2 ?_
 rw [lW]
 unfold idxM
 exact List.Pairwise.map _ (fun a b hab=>by intro h; exact hab oQ) List.nodup_range
theorem qm {L:List Int} {k i:Nat} {v:Int} (h:k<L.length):(L.set k v).getD i 0=if i=k then v else L.getD i 0:=by
 rw [lE,lX,lE]
 by_cases e:k=i
 ·rw [if_pos e,if_pos h,if_pos e.symm]; rfl
 ·rw [if_neg e,if_neg (fun hh=>e hh.symm)]
theorem xe {b:RBk} {l:List Int}:∀ (o:List Int) (z:Alloc),o.Nodup->(∀ k∈o,0<=k/\k<l.length)->(∀ k∈o,z.steps.getD k.toNat 0=0)->z.steps.length=l.length->0<=z.left->(∀ k∈o,0<=(cutS b l k.toNat).most)->(∀ i,0<=z.steps.getD i 0/\(i<l.length->z.steps.getD i 0<=(cutS b l i).most\/(i:Int)∈o)) ->
  sumF (fun i=>(o.foldl (allocM b l) z).steps.getD i 0) l.length+(o.foldl (allocM b l) z).left=sumF (fun i=>z.steps.getD i 0) l.length+z.left /\
  (o.foldl (allocM b l) z).squares - sumF (fun i=>(o.foldl (allocM b l) z).steps.getD i 0*(cutS b l i).busy) l.length=z.squares - sumF (fun i=>z.steps.getD i 0*(cutS b l i).busy) l.length /\
  0<=(o.foldl (allocM b l) z).left/\∀ i,0<=(o.foldl (allocM b l) z).steps.getD i 0/\(i<l.length->(o.foldl (allocM b l) z).steps.getD i 0<=(cutS b l i).most)
 | [],z,_,_,_,_,hz,_,hm=>⟨rfl,rfl,hz,fun i=>⟨(hm i).1,fun hi=>by
  rcases (hm i).2 hi with h | h
  ·exact h
  ·cases h⟩⟩
 | k::o,z,hn,ho,h0,hlen,hz,hmo,hm=>by
  obtain ⟨n1,n2⟩:=List.nodup_cons.1 hn
  have hk:=ho k sQ
  have hkl:k.toNat<z.steps.length:=by omega
  have hk0:=h0 k sQ
  have hmk:=hmo k sQ
  rw [List.foldl_cons]
  obtain ⟨v,hv⟩:∃ v,v=min z.left (cutS b l k.toNat).most:=⟨_,rfl⟩
  have hz':allocM b l z k=⟨z.steps.set k.toNat v,z.squares+v*(cutS b l k.toNat).busy,z.left - v⟩:=by rw [hv]; rfl
  have hs:∀ i,(z.steps.set k.toNat v).getD i 0=if i=k.toNat then v else z.steps.getD i 0:=fun i=>qm hkl
  obtain ⟨r1,r2,r3,r4⟩:=xe o (allocM b l z k) n2 (fun x hx=>ho x (by simp [hx])) (fun x hx=>by
   rw [hz']
   show (z.steps.set k.toNat v).getD x.toNat 0=0
   have hx0:=ho x (by simp [hx])
   have hne:x≠k:=fun e=>n1 (e ▸ hx)
   rw [hs,if_neg oQ]
   exact h0 x (by simp [hx])) (by rw [hz']; show (z.steps.set k.toNat v).length=_; rw [List.length_set]; exact hlen) (by rw [hz']; show 0<=z.left - v; omega) (fun x hx=>hmo x (by simp [hx])) (fun i=>by
   rw [hz']
   show 0<=(z.steps.set k.toNat v).getD i 0/\(i<l.length->(z.steps.set k.toNat v).getD i 0<=_\/_)
   rw [hs]
   by_cases e:i=k.toNat
   ·rw [if_pos e]
    exact ⟨by omega,fun _=>.inl (by rw [e]; omega)⟩
   ·rw [if_neg e]
    refine ⟨(hm i).1,fun hi=>?_⟩
    rcases (hm i).2 hi with h | h
    ·exact .inl h
    ·rcases lI.1 h with h | h
     ·omega
     ·exact .inr h)
  have e1:sumF (fun i=>(allocM b l z k).steps.getD i 0) l.length=sumF (fun i=>z.steps.getD i 0) l.length+v:=by
   rw [hz']
   rw [jU (f:=fun i=>z.steps.getD i 0) (k:=k.toNat) l.length oQ (fun i hi=>by show (z.steps.set k.toNat v).getD i 0=_; rw [hs,if_neg hi])]
   show _ - z.steps.getD k.toNat 0+(z.steps.set k.toNat v).getD k.toNat 0=_
   rw [hs,if_pos rfl,hk0]
   omega
  have e2:sumF (fun i=>(allocM b l z k).steps.getD i 0*(cutS b l i).busy) l.length=sumF (fun i=>z.steps.getD i 0*(cutS b l i).busy) l.length+v*(cutS b l k.toNat).busy:=by
   rw [hz']
   rw [jU (f:=fun i=>z.steps.getD i 0*(cutS b l i).busy) (k:=k.toNat) l.length oQ (fun i hi=>by show (z.steps.set k.toNat v).getD i 0*_=_; rw [hs,if_neg hi])]
   show _ - z.steps.getD k.toNat 0*_+(z.steps.set k.toNat v).getD k.toNat 0*_=_
   rw [hs,if_pos rfl,hk0,Int.zero_mul]
   omega
  rw [e1] at r1
  rw [e2] at r2
  rw [hz'] at r1 r2 r3 r4 ⊢
  dsimp only at r1 r2
  refine ⟨by omega,oQ,r3,r4⟩
theorem xl (b:RBk) (l:List Int):∀ k,spoilM b l k=sumF (fun i=>(cutS b l i).spoil) k
 | 0=>rfl
 | k+1=>by
  show spoilM b l k+_=sumF _ k+_
  rw [xl b l k]
def needM (b:RBk) (l w:List Int) (k:Nat):Int:=sumF (fun i=>(cutS b l i).spoil+w.getD i 0*(cutS b l i).busy) k
theorem x9 {b:RBk} (hb:ROk b) {s:List Int} (hs:StOk b s):freshM b s=b.round - b.steps+sumF (fun i=>s.getD i 0) b.seams.length:=by
 have hl:=hb.sms.len
 have h5:sumF (fun i=>s.getD i 0) 5=sumF (fun i=>s.getD i 0) b.seams.length:=by
  have:=jJ (f:=fun i=>s.getD i 0) (n:=b.seams.length) (fun i hi=>by
   show s.getD i 0=0
   rw [lE,lU (by rw [hs.len]; exact hi)]
   rfl) (5 - b.seams.length)
  rwa [show b.seams.length+(5 - b.seams.length)=5 by omega] at this
 rw [<- h5]
 show freshM b s=b.round - b.steps+(0+s.getD 0 0+s.getD 1 0+s.getD 2 0+s.getD 3 0+s.getD 4 0)
 unfold freshM
 omega
theorem qo {b:RBk} (hb:ROk b) {l s w:List Int} {q:Int} (hl:CutsOk b l) (hs:StOk b s) (h:hangM b l s=some (w,q)):fitsM b l=true/\w.length=l.length/\sumF (fun i=>w.getD i 0) l.length=freshM b s/\q=needM b l w l.length/\∀ i,0<=w.getD i 0/\(i<l.length->w.getD i 0<=(cutS b l i).most):=by
 obtain ⟨hwl,_⟩:=zhT hb hl hs h
 unfold hangM at h
 split at h
 ·cases h
 ·rename_i hf
  dsimp only at h
  split at h
  ·cases h
  ·rename_i hle
   have hr:∀ i,(alloc0 b l (freshM b s)).steps.getD i 0=0:=fun i=>by
    show (mB l.length (0:Int)).getD i 0=0
    rw [lE,List.getElem?_replicate]
    split <;> rfl
   obtain ⟨r1,r2,r3,r4⟩:=xe (b:=b) (l:=l) (ordM b l) (alloc0 b l (freshM b s)) (qc b l) (fun k hk=>zdO hk) (fun k _=>hr _) (by show (mB l.length (0:Int)).length=_; rw [List.length_replicate]) (zcl hb hs).1 (fun k hk=>by
    have:=zdO hk
    exact (hb.sms.fld _ (hl.lt (k:=k.toNat) oQ).2.2).2.2.1) (fun i=>by
    rw [hr]
    refine ⟨Int.le_refl _,fun hi=>.inl ?_⟩
    exact (hb.sms.fld _ (hl.lt hi).2.2).2.2.1)
   have z1:sumF (fun i=>(alloc0 b l (freshM b s)).steps.getD i 0) l.length=0:=by
    rw [jH (g:=fun _=>0) l.length (fun i _=>hr i)]
    have:=jJ (f:=fun _=>0) (n:=0) (fun _ _=>rfl) l.length
    rwa [mO] at this
   have z2:sumF (fun i=>(alloc0 b l (freshM b s)).steps.getD i 0*(cutS b l i).busy) l.length=0:=by
    rw [jH (g:=fun _=>0) l.length (fun i _=>by rw [hr i,Int.zero_mul])]
    have:=jJ (f:=fun _=>0) (n:=0) (fun _ _=>rfl) l.length
    rwa [mO] at this
   rw [z1] at r1
   rw [z2] at r2
   have q1:(alloc0 b l (freshM b s)).left=freshM b s:=rfl
   have q2:(alloc0 b l (freshM b s)).squares=spoilM b l l.length:=rfl
   cases h
   refine ⟨by simpa using hf,hwl,?_,?_,r4⟩
   ·unfold allocA at hle ⊢
    omega
   ·unfold needM
    rw [xx,<- xl]
    unfold allocA
    omega
def manyM (b:RBk) (l:List Int) (i:Nat):Int:=if i+1<l.length then zN l (i+1) - zN l i else zN l 0 - zN l i+b.seams.length
def nowS (b:RBk) (s:List Int) (x:Nat):Int:=sumF (nowM b s) x
theorem qj (b:RBk) (s:List Int) (c:Nat):∀ k,c+k<=b.seams.length->togM b s c k=nowS b s (c+k) - nowS b s c
 | 0,_=>by show (0:Int)=_; rw [Nat.add_zero]; omega
 | k+1,h=>by
  unfold togM
  rw [qj b s c k oQ,Nat.mod_eq_of_lt oQ]
  show _=nowS b s (c+k)+nowM b s (c+k) - _
  omega
theorem jZ (b:RBk) (s:List Int) {c:Nat} (hc:c<=b.seams.length):∀ r,r<=b.seams.length->togM b s c (b.seams.length - c+r)=nowS b s b.seams.length - nowS b s c+nowS b s r
 | 0,_=>by
  rw [Nat.add_zero,qj b s c _ oQ,show c+(b.seams.length - c)=b.seams.length by omega]
  show _=_+(0:Int)
  omega
 | r+1,h=>by
  rw [<- Nat.add_assoc]
  unfold togM
  rw [jZ b s hc r oQ,show c+(b.seams.length - c+r)=b.seams.length+r by omega,Nat.add_mod_left,Nat.mod_eq_of_lt oQ]
  show _=_+(nowS b s r+nowM b s r)
  omega
theorem xA {b:RBk}:∀ k,k<b.seams.length->sumF (wideM b) k=(sm b k).step - (sm b 0).step
 | 0,_=>by show (0:Int)=_; omega
 | k+1,h=>by
  show sumF _ k+wideM b k=_
  rw [xA k oQ]
  unfold wideM
  rw [if_pos h]
  omega
theorem qI {b:RBk} (h:0<b.seams.length):sumF (wideM b) b.seams.length=b.steps:=by
 obtain ⟨k,hk⟩:∃ k,b.seams.length=k+1:=⟨b.seams.length - 1,oQ⟩
 rw [hk]
 show sumF _ k+wideM b k=_
 rw [xA k oQ]
 unfold wideM
 rw [if_neg oQ]
 omega
theorem qT {b:RBk} (h:0<b.seams.length) (s:List Int):nowS b s b.seams.length=b.steps - sumF (fun i=>s.getD i 0) b.seams.length:=by
 unfold nowS
 rw [show nowM b s=fun i=>wideM b i - s.getD i 0 from rfl,xy]
 rw [show sumF (fun i=>wideM b i) b.seams.length=b.steps from qI h]
def fS (f:Int->Int):List Int->Int
 | []=>0
 | k::o=>f k+fS f o
def gC (m c:Int->Int):List Int->Int->Int
 | [],_=>0
 | k::o,n=>min n (m k)*c k+gC m c o (n - min n (m k))
def pw:Nat->Int
 | 0=>10000
 | 1=>1000
 | 2=>100
 | 3=>10
 | _=>1
def wgt (b:RBk) (l:List Int) (k:Int):Int:=(cutS b l k.toNat).busy*1000000+pw k.toNat
def mostS (b:RBk) (l:List Int) (k:Nat):Int:=sumF (fun i=>(cutS b l i).most) k
def numW (x:List Int) (n:Nat):Int:=sumF (fun i=>x.getD i 0*pw i) n
theorem xL:∀ (r:List Int) (x:Int),r.foldl min x<=x/\(∀ y∈r,r.foldl min x<=y)/\(r.foldl min x=x\/r.foldl min x∈r)
 | [],x=>⟨Int.le_refl _,fun y hy=>(by cases hy),.inl rfl⟩
 | z::r,x=>by
  obtain ⟨h1,h2,h3⟩:=xL r (min x z)
  rw [List.foldl_cons]
  refine ⟨by omega,fun y hy=>?_,?_⟩
  ·rcases lI.1 hy with rfl | hy
   ·omega
   ·exact h2 y hy
  ·rcases h3 with h3 | h3
   ·rw [h3]
    by_cases e:x<=z
    ·left; omega
    ·right; rw [Int.min_eq_right oQ]; simp
   ·right; simp [h3]
theorem xK:∀ (r:List Int) (x:Int),x<=r.foldl max x/\(∀ y∈r,y<=r.foldl max x)/\(r.foldl max x=x\/r.foldl max x∈r)
 | [],x=>⟨Int.le_refl _,fun y hy=>(by cases hy),.inl rfl⟩
 | z::r,x=>by
  obtain ⟨h1,h2,h3⟩:=xK r (max x z)
  rw [List.foldl_cons]
  refine ⟨by omega,fun y hy=>?_,?_⟩
  ·rcases lI.1 hy with rfl | hy
   ·omega
   ·exact h2 y hy
  ·rcases h3 with h3 | h3
   ·rw [h3]
    by_cases e:z<=x
    ·left; omega
    ·right; rw [Int.max_eq_right oQ]; simp
   ·right; simp [h3]
theorem xn {xs:List Int} (hne:xs≠[]):(∀ y∈xs,(spreadM xs).1<=y/\y<=(spreadM xs).2)/\(spreadM xs).1∈xs/\(spreadM xs).2∈xs:=by
 cases xs with
 | nil=>exact absurd rfl hne
 | cons x r =>
  obtain ⟨a1,a2,a3⟩:=xL r x
  obtain ⟨c1,c2,c3⟩:=xK r x
  show (∀ y∈x::r,r.foldl min x<=y/\y<=r.foldl max x)/\r.foldl min x∈x::r/\r.foldl max x∈x::r
  refine ⟨fun y hy=>?_,?_,?_⟩
  ·rcases lI.1 hy with rfl | hy
   ·exact ⟨a1,c1⟩
   ·exact ⟨a2 y hy,c2 y hy⟩
  ·rcases a3 with h | h
   ·rw [h]; simp
   ·simp [h]
  ·rcases c3 with h | h
   ·rw [h]; simp
   ·simp [h]
theorem sq_in {b:RBk} {all:List (List Int)} {l:List Int} (hne:all≠[]) (h:sqOk b all l=true):(∀ s∈all,∀ w q,hangM b l s=some (w,q)->sqLo b all l<=q/\q<=sqHi b all l)/\(∃ s∈all,∃ w,hangM b l s=some (w,sqLo b all l))/\∃ s∈all,∃ w,hangM b l s=some (w,sqHi b all l):=by
 have hall:=(jT b all l).1 h
 have hlt:¬ (waysM b all l).length<all.length:=fun hh=>by
  unfold sqOk squaresM at h
  rw [if_pos hh] at h
  cases h
 have e:squaresM b all l=some (spreadM ((waysM b all l).map (·.2))):=by unfold squaresM; rw [if_neg hlt]
 have hnn:(waysM b all l).map (·.2)≠[]:=fun hh=>by
  have h1:=congrArg List.length hh
  rw [lJ] at h1
  have h2:0<all.length:=List.length_pos_iff.2 hne
  simp only [List.length_nil] at h1
  omega
 obtain ⟨g1,g2,g3⟩:=xn hnn
 unfold sqLo sqHi
 rw [e]
 show (∀ s∈all,∀ w q,hangM b l s=some (w,q)->(spreadM _).1<=q/\q<=(spreadM _).2)/\(∃ s∈all,∃ w,hangM b l s=some (w,(spreadM _).1))/\∃ s∈all,∃ w,hangM b l s=some (w,(spreadM _).2)
 have back:∀ q,q∈(waysM b all l).map (·.2)->∃ s∈all,∃ w,hangM b l s=some (w,q):=fun q hq=>by
  obtain ⟨⟨w,q'⟩,hz,rfl⟩:=lY.1 hq
  obtain ⟨s,hs,hz⟩:=List.mem_filterMap.1 hz
  exact ⟨s,hs,w,hz⟩
 exact ⟨fun s hs w q hq=>g1 q (lY.2 ⟨(w,q),List.mem_filterMap.2 ⟨s,hs,hq⟩,rfl⟩),back _ g2,back _ g3⟩
structure Wider (b o:RBk):Prop where
 steps:o.steps=b.steps
 round:o.round=b.round
 roll:b.roll<=o.roll
 rolls:b.rolls<=o.rolls
 len:o.seams.length=b.seams.length
 shr:o.shrinks=b.shrinks
 mes:o.measures=b.measures
 sm:∀ i,i<b.seams.length->(sm o i).step=(sm b i).step/\(sm o i).busy=(sm b i).busy/\(sm o i).spoil=(sm b i).spoil/\(sm o i).whole=(sm b i).whole/\(sm b i).most<=(sm o i).most
theorem Wider.wide {b o:RBk} (h:Wider b o) {i:Nat} (hi:i<b.seams.length):wideM o i=wideM b i:=by
 unfold wideM
 rw [h.len,h.steps,(h.sm i hi).1,(h.sm 0 oQ).1]
 by_cases e:i+1<b.seams.length
 ·rw [if_pos e,if_pos e,(h.sm _ e).1]
 ·rw [if_neg e,if_neg e]
theorem qL {b:RBk} {l:List Int} (hne:zf b≠[]):(canM b l=1↔∀ s∈zf b,(hangM b l s).isSome=true)/\(canM b l=2↔∀ s∈zf b,hangM b l s=none):=by
 have hpos:0<(zf b).length:=List.length_pos_iff.2 hne
 have hle:=zd1 b (zf b) l
 have k1:(waysM b (zf b) l).length=(zf b).length↔∀ s∈zf b,(hangM b l s).isSome=true:=by
  rw [<- jT]
  unfold sqOk squaresM
  by_cases h:(waysM b (zf b) l).length<(zf b).length
  ·rw [if_pos h]; simp; omega
  ·rw [if_neg h]; simp; omega
 have k2:(waysM b (zf b) l).length=0↔∀ s∈zf b,hangM b l s=none:=by
  rw [List.length_eq_zero_iff]
  unfold waysM
  rw [List.filterMap_eq_nil_iff]
 unfold canM
 by_cases e1:(waysM b (zf b) l).length=(zf b).length
 ·rw [if_pos e1]
  refine ⟨⟨fun _=>k1.1 e1,fun _=>rfl⟩,⟨fun h=>(by cases h),fun h=>?_⟩⟩
  have:=k2.2 h
  omega
 ·rw [if_neg e1]
  by_cases e2:(waysM b (zf b) l).length=0
  ·rw [if_pos e2]
   exact ⟨⟨fun h=>(by cases h),fun h=>absurd (k1.2 h) e1⟩,⟨fun _=>k2.1 e2,fun _=>rfl⟩⟩
  ·rw [if_neg e2]
   exact ⟨⟨fun h=>(by cases h),fun h=>absurd (k1.2 h) e1⟩,⟨fun h=>(by cases h),fun h=>absurd (k2.2 h) e2⟩⟩
def preS (b:RBk):Nat->List (List Int)
 | 0=>[[]]
 | i+1=>(preS b i).flatMap fun p=>(numsM (bd b i)).map fun n=>p++[n]
def extL:List (List Int)->List RBand->List (List Int)
 | L,[]=>L
 | L,x::r=>extL (L.flatMap fun p=>(numsM x).map fun n=>p++[n]) r
def leavesL (all:List (List Int)) (i:Nat) (low:Int):Nat->Int
 | 0=>0
 | k+1=>max (leavesL all i low k) (cntM all i (low+k))
def leavesM (b:RBk) (i:Nat):Int:=leavesL (zf b) i (bd b i).low ((bd b i).high+1 - (bd b i).low).toNat
theorem qz {φ:Nat->Loc3} {A:List AObj} {F H:Hp} (h:RelH φ A F H) {j:Nat} {l z:List AV} {e:TypeId} (hj:A[j]? =some (.cells (l++z) e false)):RelH φ (A.set j (.cells l e false)) F H:=by
 have hg:∀ t w,(A.set j (.cells l e false))[t]? =some w->(t=j/\w=.cells l e false)\/(t≠j/\A[t]? =some w):=fun t w ht=>by
  rw [lX] at ht
  split at ht
  ·rename_i e'
   split at ht
   ·cases ht; exact .inl ⟨e'.symm,rfl⟩
   ·cases ht
  ·rename_i e'
   exact .inr ⟨fun h=>e' h.symm,ht⟩
 have hne:l≠[]->l++z≠[]:=fun hl he=>hl (List.append_eq_nil_iff.1 he).1
 refine ⟨fun t w ht=>?_,fun t t' w w' ht ht' hn he hl s1 s2=>?_,h.fr,fun t w ht he hs=>?_⟩
 ·rw [List.length_set]
  rcases hg t w ht with ⟨rfl,rfl⟩ | ⟨_,h2⟩
  ·intro hl
   obtain ⟨r,cur,q,h1,_,h3⟩:=h.obj t _ hj (hne hl)
   exact ⟨r,cur,q,h1,(fun h=>by cases h),fun i a ha=>h3 i a (by
    obtain ⟨hi,_⟩:=lD.1 ha
    rw [List.getElem?_append_left hi]; exact ha)⟩
  ·exact h.obj t w h2
 ·rcases hg t w ht with ⟨rfl,rfl⟩ | ⟨_,h2⟩
  ·cases he
  ·rcases hg t' w' ht' with ⟨rfl,rfl⟩ | ⟨_,h2'⟩
   ·exact h.apart t t' w _ h2 hj hn he rfl s1 (hne s2)
   ·exact h.apart t t' w w' h2 h2' hn he hl s1 s2
 ·rcases hg t w ht with ⟨rfl,rfl⟩ | ⟨_,h2⟩
  ·cases he
  ·exact h.frx t w h2 he hs
section
variable {P:Program} {gm:Nat->Option Nat} {T:Goroutine->Hp->Prop} {Y:KX P gm T} {ds:List Nat} {k:List Item} {env:List AV} {K K':KV}
theorem TK.cutC {j:Nat} {l z:List AV} {e:TypeId} (h:TK Y ds k env K') (hu:Upd K j (.cells (l++z) e false) j (.cells l e false) K':=by repeat (first | exact Upd.head | apply Upd.tail)):TK Y ds k env K:=fun A hA φ H ts h1 h2 h3 h4 h5 h6=>by
 have hj:=hA.view.get hu.mem
 have hl:(A.set j (.cells l e false)).length=A.length:=by simp
 exact h _ (hA.step (.set hA.view hA.nd hu)) φ H ts h1 (by rw [hl]; exact h2) (by rw [hl]; exact h3) (by rw [hl]; exact h4) (qz h5 hj) (by rw [hl]; exact h6)
end
def changeB (b:RBk) (sh:List RBand) (me:List RMeas):RBk:={ b with shrinks:=sh,measures:=me }
section
variable {b:RBk} {all al2:List (List Int)} {l:List Int}
end
theorem jL (b:RBk) (l:List Int) (hne:zf b≠[]):(canM b l=1↔∀ s∈zf b,(hangM b l s).isSome=true)/\(canM b l=2↔∀ s∈zf b,hangM b l s=none):=qL hne
theorem xf (b:RBk) (l:List Int):canM b l=0\/canM b l=1\/canM b l=2:=by
 unfold canM
 split
 ·exact .inr (.inl rfl)
 ·split
  ·exact .inr (.inr rfl)
  ·exact .inl rfl
theorem qh (b:RBk) (sh:List RBand) (me:List RMeas) (s:List Int) (c:Nat):∀ k,togM (changeB b sh me) s c k=togM b s c k
 | 0=>rfl
 | k+1=>by
  show togM (changeB b sh me) s c k+_=togM b s c k+_
  rw [qh b sh me s c k]; rfl
theorem qA (b:RBk) (sh:List RBand) (me:List RMeas) (s:List Int):rightM (changeB b sh me) s=me.all fun m=>decide (togM b s m.cloth.toNat m.many.toNat=m.wide):=by
 unfold rightM
 show me.all _=_
 congr 1
 funext m
 rw [qh]
def nowW (b:RBk) (s:List Int) (m:RMeas):RMeas:={ m with wide:=togM b s m.cloth.toNat m.many.toNat }
def trulyT (b:RBk) (s:List Int) (i:Nat):List RMeas:=(b.measures.take i).map (nowW b s)
def ji (b:RBk) (s:List Int):RBk:={ b with measures:=trulyT b s b.measures.length }
theorem xH {b:RBk} {s:List Int} {i:Nat} {x:RMeas} (h:b.measures[i]? =some x):trulyT b s (i+1)=trulyT b s i++[nowW b s x]:=by
 unfold trulyT
 rw [List.take_add_one,h,lM]
 rfl
theorem jV (b:RBk) (s:List Int):trulyT b s b.measures.length=b.measures.map (nowW b s):=by unfold trulyT; rw [lW]
theorem xz {b:RBk} {s:List Int} (hs:StOk b s) (h0:0<b.seams.length) (c k:Nat):∀ j,togM b s c k<=togM b s c (k+j)
 | 0=>Int.le_refl _
 | j+1=>by
  have h1:=xz hs h0 c k j
  have h2:=hs.bnd _ (Nat.mod_lt (c+(k+j)) h0)
  show _<=togM b s c (k+j)+(wideM b ((c+(k+j)) % b.seams.length) - s.getD ((c+(k+j)) % b.seams.length) 0)
  omega
theorem xQ {b:RBk} {s:List Int} (hs:StOk b s):∀ k,k<=b.seams.length->0<=sumF (fun i=>s.getD i 0) k
 | 0,_=>Int.le_refl _
 | k+1,h=>by
  have h1:=xQ hs k oQ
  have h2:=hs.bnd k oQ
  show 0<=sumF _ k+s.getD k 0
  omega
theorem jaw {b:RBk} {s:List Int} (hs:StOk b s) {c k:Nat} (hc:c<b.seams.length) (hk:k<=b.seams.length):togM b s c k<=b.steps:=by
 have h1:=xz hs oQ c k (b.seams.length - k)
 have h2:=jZ b s (c:=c) oQ c oQ
 have h3:=qT (b:=b) oQ s
 have h4:=xQ hs _ (mL _)
 rw [show k+(b.seams.length - k)=b.seams.length by omega] at h1
 rw [show b.seams.length - c+c=b.seams.length by omega] at h2
 omega
theorem qH {b:RBk} (hb:ROk b) {s:List Int} (hs:StOk b s):ROk (ji b s):=by
 refine ⟨⟨hb.rnd.steps,hb.rnd.round,hb.rnd.roll,hb.rnd.rolls⟩,⟨hb.sms.len,hb.sms.fld,hb.sms.asc⟩,⟨hb.cls.len,hb.cls.bnd⟩,⟨?_,fun m hm=>?_⟩⟩
 ·show (trulyT b s b.measures.length).length<=3
  rw [jV,lJ]
  exact hb.mes.len
 ·have hm:m∈trulyT b s b.measures.length:=hm
  rw [jV,lY] at hm
  obtain ⟨x,hx,rfl⟩:=hm
  have h1:=hb.mes.bnd x hx
  have h2:=za8 hb hs (c:=x.cloth.toNat) x.many.toNat
  have h3:=jaw hs (c:=x.cloth.toNat) (k:=x.many.toNat) oQ oQ
  have h4:=hb.rnd.steps
  show 0<=x.cloth/\x.cloth<b.seams.length/\1<=x.many/\x.many<=b.seams.length/\0<=togM b s x.cloth.toNat x.many.toNat/\togM b s x.cloth.toNat x.many.toNat<=24
  omega
theorem xI (b:RBk) (s:List Int):rightM (ji b s) s=true:=by
 rw [show ji b s=changeB b b.shrinks (trulyT b s b.measures.length) from rfl,qA,jV,List.all_map,List.all_eq_true]
 exact fun m _=>decide_eq_true rfl
theorem xr {b:RBk}:∀ (r:List RBand) (p t:List Int),t.length=r.length->(∀ (i:Nat) (x:RBand) (y:Int),r[i]? =some x->t[i]? =some y->x.low<=y/\y<=x.high)->rightM b (p++t)=true->p++t∈fromM b p r
 | [],p,[],_,_,h=>by
  rw [lR] at h ⊢
  unfold fromM
  rw [if_pos h]
  exact lS.2 rfl
 | x::r,p,y::t,hl,hi,h=>by
  unfold fromM
  have h0:=hi 0 x y rfl rfl
  rw [List.mem_flatMap]
  refine ⟨y,(zgb oQ).2 h0,?_⟩
  rw [show p++y::t=(p++[y])++t by simp] at h ⊢
  exact xr r (p++[y]) t (by simpa using hl) (fun i x' y' h1 h2=>hi (i+1) x' y' h1 h2) h
theorem qa {b:RBk} {s:List Int} (h:InB b s) (hr:rightM b s=true):s∈zf b:=by
 have:=xr (b:=b) b.shrinks [] s h.1 (fun i x y hx hy=>by
  obtain ⟨hi,_⟩:=lD.1 hx
  have h1:=h.2 i hi
  have h2:=ko (b:=b) hi
  rw [hx] at h2
  cases h2
  rw [lE,hy] at h1
  exact h1) (by rw [lC]; exact hr)
 rwa [lC] at this
theorem qG {b:RBk} {s:List Int} (h:InB b s):s∈zf (ji b s):=qa (b:=ji b s) h (xI b s)
theorem jau {b:RBk} {l:List Int} (hne:zf b≠[]):sqOk b (zf b) l=true↔canM b l=1:=by
 rw [(jL b l hne).1,jT]
theorem qf {b:RBk} {l:List Int} {x u v:Int} {A B:Prop} {r:AV} {K' KK:KV} (h:(x≠0/\A)\/(x=0/\zf b=[]/\B)\/(x=0/\zf b≠[]/\r=.tup [.agg [intA u,intA v],intA (if sqOk b (zf b) l=true then 0 else 8)]/\K'=KK)) (hx:x=0) (hne:zf b≠[]):(sqOk b (zf b) l=true/\canM b l=1/\r=.tup [.agg [intA u,intA v],intA 0]/\K'=KK)\/(sqOk b (zf b) l=false/\canM b l≠1/\r=.tup [.agg [intA u,intA v],intA 8]/\K'=KK):=by
 rcases h with ⟨h,_⟩ | ⟨_,h,_⟩ | ⟨_,_,h1,h2⟩
 ·exact absurd hx h
 ·exact absurd h hne
 ·have hc:=jau (l:=l) hne
  cases hq:sqOk b (zf b) l with
  | true=>rw [hq,if_pos rfl] at h1; exact .inl ⟨rfl,hc.1 hq,h1,h2⟩
  | false=>rw [hq,if_neg dQ] at h1; exact .inr ⟨rfl,(fun h=>by rw [hc.2 h] at hq; cases hq),h1,h2⟩
def saidM (w:Int) (z:Bool):Bool:=decide (w=0)||((w==1)==z)
theorem qd {b:RBk} {l s:List Int} (hs:s∈zf b) (h:hangM b l s=none):saidM (canM b l) false=true:=by
 have hc:=jL b l (List.ne_nil_of_mem hs)
 rcases xf b l with e | e | e
 ·rw [e]; rfl
 ·have:=hc.1.1 e s hs; rw [h] at this; cases this
 ·rw [e]; rfl
theorem xk {b:RBk} {l s:List Int} {z:List Int×Int} (hs:s∈zf b) (h:hangM b l s=some z):saidM (canM b l) true=true:=by
 have hc:=jL b l (List.ne_nil_of_mem hs)
 rcases xf b l with e | e | e
 ·rw [e]; rfl
 ·rw [e]; rfl
 ·have:=hc.2.1 e s hs; rw [h] at this; cases this
theorem real_holds {b:RBk} {s:List Int} (h:s∈zf b) (i:Nat):zN s i∈shrI b (i:Int):=qD.2 ⟨s,h,rfl⟩
theorem xt {b:RBk} {s:List Int} (h:s∈zf b):betw (freshM b s) (newM b).1 (newM b).2=true:=by
 have hm:freshM b s∈(zf b).map (freshM b):=lY.2 ⟨s,h,rfl⟩
 have:=(xn (xs:=(zf b).map (freshM b)) (List.ne_nil_of_mem hm)).1 _ hm
 simp only [betw,mX,decide_eq_true_eq]
 exact this
end Go.Vel
namespace Go.Vel
open Go Go.Conc Go.Proofs
instance:EqG tp 49:={}
instance:EqG tp 94:={}
instance:FlatF tp 49 [(3,0),(3,1),(3,2)]:={}
instance:FlatF tp 94 [(3,0),(3,1),(3,2),(3,3),(4,4)]:={}
instance:Und tp 4 .bool:={}
instance:Cal tp 19:={}
instance:Cal tp 44:={}
instance:Cal tp 49:={}
section
variable {P:Program} {gm:Nat->Option Nat} {V:KV} {env:List AV} {o:Oper}
theorem jas {t yt:TypeId} {x y:Operand} {k':IntKind} {a b:Nat} (ho:o.op=.binOp .shr t x y yt) (hx:zn gm env x=some (.v (.int .u8 a))) (hy:zn gm env y=some (.v (.int k' b))) (h0:b<=6):Qk P gm env V o (.v (.int .u8 ((a / 2 ^ b:Nat):Int))):=fun A _=>by
 refine vq ho (by rw [zx hx]; rfl) (by rw [zx hy]; rfl) ?_
 rw [u7]
 show zR P (Op.shift .shr .u8 a k' b)=_
 unfold Op.shift
 rw [if_neg oQ]
 show some (Value.int .u8 ((a:Int).fdiv (2 ^ min (b:Int).toNat 8)))=_
 rw [Int.toNat_natCast,Nat.min_eq_left oQ,show ((a:Int).fdiv (2 ^ b))=((a / 2 ^ b:Nat):Int) by rw [Int.fdiv_eq_ediv_of_nonneg _ (by exact_mod_cast mN (2 ^ b))]; norm_cast]
theorem jaq {t yt:TypeId} {x y:Operand} {a:Nat} (ho:o.op=.binOp .and t x y yt) (hx:zn gm env x=some (.v (.int .u8 a))) (hy:zn gm env y=some (.v (.int .u8 1))) (h:a<256):Qk P gm env V o (.v (.int .u8 ((a % 2:Nat):Int))):=by
 refine wQ ho hx hy ?_
 show some (Value.int .u8 (IntKind.u8.wrap ((BitVec.ofInt 8 (a:Int) &&& BitVec.ofInt 8 1).toNat:Int)))=_
 have:(BitVec.ofInt 8 (a:Int) &&& BitVec.ofInt 8 1).toNat=a % 2:=by
  rw [BitVec.toNat_and]
  have e1:(BitVec.ofInt 8 (a:Int)).toNat=a:=by
   rw [BitVec.toNat_ofInt]
   omega
  rw [e1]
  show a &&& 1=a % 2
  exact Nat.and_one_is_mod a
 rw [this]
 have h2:a % 2=0\/a % 2=1:=by omega
 rcases h2 with h2 | h2 <;> rw [h2] <;> rfl
end
theorem xW {c i:Nat} (h:c / 2 ^ i % 2=1):zw c (i+1)=zw c i++[(i:Int)]:=by
 show zw c i++_=_
 rw [if_pos h]
theorem xV {c i:Nat} (h:¬ c / 2 ^ i % 2=1):zw c (i+1)=zw c i:=by
 show zw c i++_=_
 rw [if_neg h,lR]
instance:Cal tp 62:={}
instance:Cal tp 75:={}
theorem qN {main T} (hT:zo tp main T) {gm} {b:RBk} {s h e c:Nat} (hn:1<=b.seams.length/\b.seams.length<=5) (hc:c<256) :
  zA tp T gm 50 [.agg (zE b s h e),.v (.int .u8 (c:Int))] [] (fun r K'=>∃ (jo:Nat) (eo:TypeId),r=.sl jo 0 (otherM c b.seams.length).length/\K'=[(jo,.cells ((otherM c b.seams.length).map intA) eo false)]):=by
 refine zp 34 hT Tryz.func50 fun Y hret=>?_
 refine au [4,5,21] ?_
 intro jb hjb
 refine au [2,3,4,5,2] ?_
 refine TK.virt 5 3 1 Z fun jr0 hjr0=>?_
 refine au [3,4,4,5,2,3,13] ?_
 refine TK.maskL [1,2,5,6] ?_
 refine TK.kp [(jr0,_),(jb,_)] ?_
 refine TK.loopN (fun n env K=>∃ (i jr:Nat),n=b.seams.length - i/\i<=b.seams.length/\env=.any::.v (.int .u8 (c:Int))::.ptr jb 0::naL 2 (.row jr (zw c i).length::intA i::naL 27 [])/\K=[(jr,.row ((zw c i).map intA) 3 1),(jb,.cells (zE b s h e) 26 true)]) b.seams.length ⟨0,jr0,rfl,mN _,rfl,rfl⟩ fun n env K hI hnext=>?_
 obtain ⟨i,jr,rfl,hi,rfl,rfl⟩:=hI
 have hbl:=wC c i
 refine TK.na nQ ?_
 refine au [4,4,5,1,7,9,28,6,3,20] ?_
 refine ⟨fun hc0=>?_,fun hc0=>?_⟩
 ·have hil:i<b.seams.length:=by simp at hc0; omega
  refine au [12,4,13,4,5,1,1] ?_
  refine TK.a Z (jas Z Z Z oQ) ?_
  refine TK.a Z (jaq Z Z Z (by have:=Nat.div_le_self c (2 ^ i); omega)) ?_
  refine au [6,3,20] ?_
  refine ⟨fun hc1=>?_,fun hc1=>?_⟩
  ·have hbit:c / 2 ^ i % 2=1:=by have h:=eq_of_beq hc1; omega
   refine au [5,1,1] ?_
   refine TK.newR Z Z Z (zt (l:=[_]) Z zF.h TyZ.h dQ dQ Z) (fun _=>zu rfl tQ) fun j1 hj1=>?_
   refine TK.appR Z Z Z (a_app Z ApOf.h Z mQ sQ Z (yu (ln:=[_]) mQ dQ sQ Z) oQ Z (by unfold maxLen; omega) oQ) (fun _=>uQ) (fun _=>zu rfl tQ) fun jr2=>?_
   refine au [2,3,14,5,1,23,2,3] ?_
   refine TK.maskL [1,2,5,6] ?_
   refine TK.kp [(jr2,_),(jb,_)] ?_
   exact hnext _ _ _ oQ ⟨i+1,jr2,rfl,oQ,by rw [xW hbit,lF]; rfl,by rw [xW hbit,lM]; rfl⟩
  have hbit:¬ c / 2 ^ i % 2=1:=fun h=>by rw [h] at hc1; simp at hc1
  refine au [12,14,5,1,23,2,3] ?_
  refine TK.maskL [1,2,5,6] ?_
  refine TK.kp [(jr,_),(jb,_)] ?_
  exact hnext _ _ _ oQ ⟨i+1,jr,rfl,oQ,by rw [xV hbit] <;> rfl,by rw [xV hbit] <;> rfl⟩
 obtain rfl:i=b.seams.length:=by simp at hc0; omega
 refine au [16,4,4,5,1,28,6,3,20] ?_
 refine ⟨fun hc2=>?_,fun hc2=>?_⟩
 ·have hb0:zw c b.seams.length=[]:=by have h:=eq_of_beq hc2; exact List.eq_nil_of_length_eq_zero oQ
  have hot:otherM c b.seams.length=[((c % b.seams.length:Nat):Int)]:=if_pos hb0
  refine au [4,5,1] ?_
  refine TK.a Z (yU Z Z Und.h Und.h (wK oQ)) ?_
  refine au [7,9,28] ?_
  refine TK.a Z (q_rem Z Z Z oQ oQ) ?_
  refine TK.newR Z Z Z (zt (l:=[_]) Z zF.h TyZ.h dQ dQ Z) (fun _=>zu rfl tQ) fun jo hjo=>?_
  refine au [2] ?_
  refine TK.asSl 4 Z mQ ?_
  refine TK.frzRow (j:=jo) ?_
  refine au [3] ?_
  refine TK.rt hret [(jo,_)] ?_
  exact ⟨jo,_,by rw [hot]; rfl,by rw [hot]; rfl⟩
 have hb0:zw c b.seams.length≠[]:=fun hh=>by rw [hh] at hc2; simp at hc2
 have hot:otherM c b.seams.length=zw c b.seams.length:=if_neg hb0
 refine TK.asSl 5 Z mQ ?_
 refine TK.frzRow (j:=jr) ?_
 refine au [12,4,5,1,2,3] ?_
 refine TK.rt hret [(jr,_)] ?_
 exact ⟨jr,_,by rw [hot],by rw [hot]⟩
theorem xJ {b:RBk}:∀ (l:List Int) (last:Option Int),(∀ n∈l,0<=n/\n<b.seams.length/\∀ k,last=some k->k<n)->l.Pairwise (· < ·)->cutsL b last l=0
 | [],_,_,_=>rfl
 | n::r,last,h,hp=>by
  obtain ⟨h1,h2,h3⟩:=h n sQ
  obtain ⟨p1,p2⟩:=List.pairwise_cons.1 hp
  have ht:thereM b n=0:=by unfold thereM; rw [if_pos (by simp [betw]; omega)]
  unfold cutsL
  rw [if_neg (by rw [ht]; decide),if_neg]
  ·exact xJ r _ (fun m hm=>⟨(h m (by simp [hm])).1,(h m (by simp [hm])).2.1,fun k hk=>by cases hk; exact p1 m hm⟩) p2
  ·cases last with
   | none=>simp [notAft]
   | some k=>have:=h3 k rfl; simp [notAft]; omega
theorem x8 {b:RBk} {l:List Int} (h:CutsOk b l):cutsM b l=0:=by
 unfold cutsM
 have:=h.pos
 rw [if_neg oQ]
 exact xJ l none (fun n hn=>⟨(h.bnd n hn).1,(h.bnd n hn).2,fun k hk=>by cases hk⟩) h.asc
section
variable {main:Bool} {T:Goroutine->Hp->Prop} {b:RBk} {s h e j:Nat} {l:List Int} {et:TypeId}
end
instance:Cal tp 50:={}
instance:Cal tp 65:={}
instance:Cal tp 76:={}
def u16A (x:Fin 65536):AV:=.v (.int .u16 (x.1:Int))
def u16O (l:List (Fin 65536)):AObj:=.cells (l.flatMap fun x=>[u16A x]) 212 false
def choM (l:List (Fin 65536)) (i:Nat):Int:=match l[i]? with | some x=>x.1 | none=>0
def chosenM (x:RBand) (n:Int):Int:=x.low+n % (x.high - x.low+1)
def realM (b:RBk) (ps:List (Fin 65536)):Nat->List Int
 | 0=>[]
 | i+1=>realM b ps i++[chosenM (bd b i) (choM ps i)]
theorem jE (b:RBk) (ps:List (Fin 65536)):∀ i,(realM b ps i).length=i
 | 0=>rfl
 | i+1=>by unfold realM; rw [lF,jE b ps i]; rfl
theorem xj (b:RBk) (ps:List (Fin 65536)):∀ n i,i<n->(realM b ps n).getD i 0=chosenM (bd b i) (choM ps i)
 | 0,i,h=>by omega
 | n+1,i,h=>by
  unfold realM
  by_cases e:i<n
  ·rw [zeh (by rw [jE]; exact e)]
   exact xj b ps n i e
  ·have:i=n:=by omega
   subst this
   have:=zdo (p:=realM b ps i) (n:=chosenM (bd b i) (choM ps i))
   rwa [jE] at this
theorem qM (l:List (Fin 65536)) (i:Nat):0<=choM l i/\choM l i<65536:=by
 unfold choM
 cases l[i]? with
 | none=>exact ⟨Int.le_refl _,by decide⟩
 | some x=>exact ⟨by show (0:Int)<=(x.1:Int); omega,by show (x.1:Int)<65536; have:=x.2; omega⟩
theorem x6 {x:RBand} (h:x.low<=x.high) (n:Int):x.low<=chosenM x n/\chosenM x n<=x.high:=by
 unfold chosenM
 have h0:=Int.emod_nonneg n (show x.high - x.low+1≠0 by omega)
 have h1:=Int.emod_lt_of_pos n (show 0<x.high - x.low+1 by omega)
 omega
theorem sh_1 {b:RBk} {l:List Int} (h:StOk b l):shM b l=0:=by
 have key:∀ (r:List Int) (i:Nat),(∀ k x,r[k]? =some x->0<=x/\x<=5/\x<wideM b (i+k))->shL b i r=0:=by
  intro r
  induction r with
  | nil=>intro i _; rfl
  | cons x r ih =>
   intro i hh
   have h1:=hh 0 x rfl
   rw [Nat.add_zero] at h1
   have hb:betw x 0 5=true:=by simp only [betw,mX,decide_eq_true_eq]; omega
   unfold shL
   rw [if_neg (by rw [hb]; decide),if_neg oQ]
   exact ih (i+1) fun k y hy=>by
    have:=hh (k+1) y (by simpa using hy)
    rwa [show i+(k+1)=i+1+k by omega] at this
 unfold shM
 rw [if_neg (by rw [h.len]; simp)]
 refine key l 0 fun k x hx=>?_
 obtain ⟨hk,e⟩:=lD.1 hx
 have:=h.bnd k (by rw [<- h.len]; exact hk)
 rw [lE,hx] at this
 rw [mO]
 exact this
theorem qK {b:RBk} {l s:List Int} (hc:zr b=0) (h:CutsOk b l) (hs:StOk b s):bar2 (zr b) (bar2 (cutsM b l) (shM b s))=0:=by
 rw [kF hc,kF (x8 h),sh_1 hs]
instance:Cal tp 139:={}
instance:Cal tp 140:={}
instance:zF tp 91 212 1:={}
instance:zi tp 212 false 1:={}
instance:Und tp 212 (.int .u16):={}
instance:Und tp 91 (.slice 212):={}
theorem xZ {main T} (hT:zo tp main T) {gm} {j i:Nat} {ps:List (Fin 65536)} (hi:i<=1000) :
  zA tp T gm 140 [.sl j 0 ps.length,intA i] [(j,u16O ps)] (fun r K'=>r=intA (choM ps i)/\K'=[(j,u16O ps)]):=by
 refine zp 18 hT Tryz.func140 fun Y hret=>?_
 refine au [4,5,2,3,4,4,5,1,6,1,1,1,28,6,25,3,20] ?_
 refine ⟨fun hc0=>?_,fun hc0=>?_⟩
 ·have hge:ps.length<=i:=by simp at hc0; omega
  refine au [4,5,2,3] ?_
  refine TK.rt hret [(j,_)] ?_
  exact ⟨by unfold choM; rw [lU hge],rfl⟩
 have hlt:i<ps.length:=by simp at hc0; omega
 obtain ⟨x,hx⟩:∃ x,ps[i]? =some x:=⟨_,lA hlt⟩
 have hx2:=x.2
 refine au [12,4,5,1,1,36] ?_
 refine TK.a Z (zm Z Z zi.h mQ (w9 (c:=1) (f:=fun x=>[u16A x]) (fun _=>rfl) hx rfl dQ)) ?_
 refine TK.a Z (yU Z Z Und.h Und.h (wK oQ)) ?_
 refine au [2,3] ?_
 refine TK.rt hret [(j,_)] ?_
 exact ⟨by unfold choM; rw [hx],rfl⟩
theorem x7 {main T} (hT:zo tp main T) {gm} {x:RBand} {n:Int} (h:0<=x.low/\x.low<=x.high/\x.high<=5) (hn:0<=n/\n<65536) :
  zA tp T gm 139 [.agg (bandC x),intA n] [] (fun r K'=>r=intA (chosenM x n)/\K'=[]):=by
 refine zp 16 hT Tryz.func139 fun Y hret=>?_
 refine au [] ?_
 have h0:=Int.emod_nonneg n (show x.high - x.low+1≠0 by omega)
 have h1:=Int.emod_lt_of_pos n (show 0<x.high - x.low+1 by omega)
 refine au [4,5,21] ?_
 intro jx hjx
 refine au [2,3,4] ?_
 refine TK.dr [0,1,2,3,4,5,6,7,8,9,10,11] [0,1,2,3,4,5,6,7,8,9,10,11] ?_
 refine TD.z [2] Z (zg Z Z zl.h dQ) ?_
 refine TD.y [5] Z (hq:=zm Z Z zi.h (mC _) Z) (h:=?_)
 refine TD.mv [1] ?_
 refine TD.z [2] Z (zg Z Z zl.h dQ) ?_
 refine TD.y [8] Z (hq:=zm Z Z zi.h (mC _) Z) (h:=?_)
 refine TD.z [2] Z (zg Z Z zl.h dQ) ?_
 refine TD.y [10] Z (hq:=zm Z Z zi.h (mC _) Z) (h:=?_)
 refine TD.z [9,11] Z (q_sub Z Z Z oQ) ?_
 refine TD.z [12] Z (q_add Z Z Z oQ) ?_
 refine TD.z [7,13] Z (q_rem Z Z Z oQ oQ) ?_
 refine TD.z [6,14] Z (q_add Z Z Z oQ) ?_
 refine TD.as (pend':=[]) [15] Z Z (zD Z Z) ?_
 refine TD.fin ?_
 refine au [] ?_
 refine TK.rt hret [] ?_
 exact ⟨rfl,rfl⟩
theorem jaa {main T} (hT:zo tp main T) {gm} {b:RBk} {s h e j:Nat} {ps:List (Fin 65536)} (hb:ROk b) :
  zA tp T gm 71 [.agg (zE b s h e),.sl j 0 ps.length] [(h,zB b),(j,u16O ps)] (fun r K'=>∃ jr,r=.sl jr 0 (realM b ps b.shrinks.length).length/\K'=(jr,.cells ((realM b ps b.shrinks.length).map intA) 3 false)::[(h,zB b),(j,u16O ps)]):=by
 refine zp 27 hT Tryz.func71 fun Y hret=>?_
 refine au [] ?_
 have hsl:=hb.sms.len
 have hcl:=hb.cls.len
 refine au [4,5,21] ?_
 intro jb hjb
 refine au [2,3,4,5,2] ?_
 refine TK.virt 5 3 1 Z fun jr0 hjr0=>?_
 refine au [3,4,4,5,2,3,13] ?_
 refine TK.maskL [1,2,5,6] ?_
 refine TK.kp [(h,_),(j,_),(jr0,_),(jb,_)] ?_
 refine TK.loopN (fun n env K=>∃ (i jr:Nat),n=b.shrinks.length - i/\i<=b.shrinks.length/\env=.any::.sl j 0 ps.length::.ptr jb 0::naL 2 (.row jr i::intA i::naL 20 [])/\K=[(h,zB b),(j,u16O ps),(jr,.row ((realM b ps i).map intA) 3 1),(jb,.cells (zE b s h e) 26 true)]) b.shrinks.length ⟨0,jr0,rfl,mN _,rfl,rfl⟩ fun n env K hI hnext=>?_
 obtain ⟨i,jr,rfl,hi,rfl,rfl⟩:=hI
 have hrl:=jE b ps i
 refine TK.na nQ ?_
 refine au [4,4,5,1,7,9,28,6,3,20] ?_
 refine ⟨fun hc0=>?_,fun hc0=>?_⟩
 ·have hil:i<b.shrinks.length:=by simp at hc0; omega
  have hq:=hb.cls.bnd i oQ
  have hcb:=qM ps i
  refine au [12,4,13] ?_
  refine TK.dr [0,1,2,3,4,5,6,7,8,9,10,11,12] [0,1,2,3,4,5,6,7,8,9,10,11,12] ?_
  refine TD.mv [5] ?_
  refine TD.z [2] Z (zg Z Z zl.h dQ) ?_
  refine TD.y [15] Z (hq:=zm Z Z zi.h (mC _) Z) (h:=?_)
  refine TD.mv [6] ?_
  refine TD.ix [16,17] ?_
  refine TD.y [18] Z (hq:=z8 Z Z zi.h (mC _) (bd_at b (i:=i) hil Z)) (h:=?_)
  refine TD.mv [1] ?_
  refine TD.mv [6] ?_
  refine TD.cl (pend':=[⟨5,[18],[(_,_)]⟩,⟨4,[16,17],[]⟩,⟨3,[6],[]⟩,⟨2,[15],[(_,_)]⟩,⟨1,[2],[]⟩,⟨0,[5],[]⟩]) [20,21] Z Z Z Z Z (xZ hT (i:=i) oQ) (fun r1 K2 h3=>⟨?_,?_⟩)
  ·rcases h3 with ⟨rfl,rfl⟩
   all_goals simp
  obtain ⟨rfl,rfl⟩:=h3
  try simp only [cA]
  refine TD.norm tQ ?_
  refine TD.cl (pend':=[⟨4,[16,17],[]⟩,⟨3,[6],[]⟩,⟨2,[15],[(_,_)]⟩,⟨1,[2],[]⟩,⟨0,[5],[]⟩]) [19,22] Z Z Z Z Z (x7 hT oQ hcb) (fun r4 K5 h6=>⟨?_,?_⟩)
  ·rcases h6 with ⟨rfl,rfl⟩
   all_goals simp
  obtain ⟨rfl,rfl⟩:=h6
  try simp only [cA]
  refine TD.norm tQ ?_
  refine TD.cnewR (pend':=[⟨4,[16,17],[]⟩,⟨3,[6],[]⟩,⟨2,[15],[(_,_)]⟩,⟨1,[2],[]⟩,⟨0,[5],[]⟩]) [23] Z Z Z Z Z (zt (l:=[_]) Z zF.h TyZ.h dQ dQ Z) (fun _=>zu rfl tQ) sQ fun j7 hj7=>?_
  refine TD.capp (pend':=[⟨4,[16,17],[]⟩,⟨3,[6],[]⟩,⟨2,[15],[(_,_)]⟩,⟨1,[2],[]⟩]) [14,24] Z Z Z Z Z (a_app Z ApOf.h Z mQ (by rw [lJ]; omega) Z (yu (ln:=[_]) mQ dQ sQ Z) oQ Z (by unfold maxLen; omega) oQ) (fun _=>uQ) (fun _=>zu rfl tQ) (fun _=>sQ) fun jr2=>?_
  refine TD.as (pend':=[]) [25] Z Z (zD Z Z) ?_
  refine TD.fin ?_
  refine au [14,5,1,23,2,3] ?_
  refine TK.maskL [1,2,5,6] ?_
  refine TK.kp [(h,_),(j,_),(jr2,_),(jb,_)] ?_
  exact hnext _ _ _ oQ ⟨i+1,jr2,rfl,oQ,rfl,by rw [show realM b ps (i+1)=realM b ps i++[chosenM (bd b i) (choM ps i)] from rfl,lM]; rfl⟩
 obtain rfl:i=b.shrinks.length:=by simp at hc0; omega
 refine TK.asSl 5 Z mQ ?_
 refine TK.frzRow (j:=jr) ?_
 refine au [16,4,5,1,2,3] ?_
 refine TK.rt hret [(jr,_),(h,_),(j,_)] ?_
 exact ⟨jr,by rw [jE] <;> rfl,rfl⟩
theorem xU {main T} (hT:zo tp main T) {gm} {b:RBk} {s h e j c m:Nat} {st:List Int} {et:TypeId} (hb:ROk b) (hs:StOk b st) (hc:c<b.seams.length) (hm:m<=b.seams.length) :
  zA tp T gm 73 [.agg (zE b s h e),intA c,intA m,.sl j 0 st.length] [(s,zk b),(j,.cells (st.map intA) et false)] (fun r K'=>r=intA (togM b st c m)/\K'=[(s,zk b),(j,.cells (st.map intA) et false)]):=by
 refine zp 35 hT Tryz.func73 fun Y hret=>?_
 refine au [] ?_
 have hsl:=hb.sms.len
 have hst:=hs.len
 refine au [4,5,21] ?_
 intro jb hjb
 refine au [2,3,4,5,2,3,4,4,5,2,3,13] ?_
 refine TK.maskL [1,2,3,4,9,10] ?_
 refine TK.kp [(s,_),(j,_),(jb,_)] ?_
 refine TK.loopN (fun n env K=>∃ (i:Nat),n=m - i/\i<=m/\env=.any::intA c::intA m::.sl j 0 st.length::.ptr jb 0::naL 4 (intA (togM b st c i)::intA i::naL 24 [])/\K=[(s,zk b),(j,.cells (st.map intA) et false),(jb,.cells (zE b s h e) 26 true)]) m ⟨0,rfl,mN _,rfl,rfl⟩ fun n env K hI hnext=>?_
 obtain ⟨i,rfl,hi,rfl,rfl⟩:=hI
 refine TK.na nQ ?_
 refine au [4,4,5,1,1,6,3,20] ?_
 refine ⟨fun hc0=>?_,fun hc0=>?_⟩
 ·have hil:i<m:=by simp at hc0; omega
  have hkl:(c+i) % b.seams.length<b.seams.length:=Nat.mod_lt _ oQ
  have htb:=za8 hb hs (c:=c) i
  have hwd:=hb.wide hkl
  have hsb:=hs.bnd _ hkl
  refine au [12,4,13,4,5,1,1,23,7,9,28] ?_
  refine TK.a Z (q_rem Z Z Z oQ oQ) ?_
  refine au [2,3] ?_
  rw [show ((c:Int)+(i:Int)) % (b.seams.length:Int)=(((c+i) % b.seams.length:Nat):Int) by rw [<- Int.natCast_add,<- Int.natCast_emod]]
  have htn:togM b st c i+wideM b ((c+i) % b.seams.length) - zN st ((c+i) % b.seams.length)=togM b st c (i+1):=by show _=togM b st c i+(wideM b _ - st.getD _ 0); unfold zN; omega
  have hsb2:0<=zN st ((c+i) % b.seams.length)/\zN st ((c+i) % b.seams.length)<=5:=⟨hsb.1,hsb.2.1⟩
  refine TK.dr [0,1,2,5,6,7,8,3,4,9,10] [0,1,2,3,4,5,6,7,8,9,10] ?_
  refine TD.mv [9] ?_
  refine TD.y [4] Z (hq:=z8 Z Z zi.h (mC _) Z) (h:=?_)
  refine TD.mv [11] ?_
  refine TD.mv [3] ?_
  refine TD.mv [11] ?_
  refine TD.ix [29,30] ?_
  refine TD.y [31] Z (hq:=zm Z Z zi.h (mC _) (yh (i:=(c+i) % b.seams.length) (z5 oQ) Z)) (h:=?_)
  refine TD.cl (pend':=[⟨8,[31],[(_,_)]⟩,⟨7,[29,30],[]⟩,⟨6,[11],[]⟩,⟨5,[3],[]⟩,⟨0,[9],[]⟩]) [25,26] Z Z Z Z Z (zfx hT (i:=(c+i) % b.seams.length) hb.rnd hb.sms hkl) (fun r1 K2 h3=>⟨?_,?_⟩)
  ·rcases h3 with ⟨rfl,rfl⟩
   all_goals simp
  obtain ⟨rfl,rfl⟩:=h3
  try simp only [cA]
  refine TD.norm tQ ?_
  refine TD.z [24,27] Z (q_add Z Z Z oQ) ?_
  refine TD.z [28,32] Z (q_sub Z Z Z oQ) ?_
  refine TD.as (pend':=[]) [33] Z Z (zD Z Z) ?_
  refine TD.fin ?_
  refine au [14,5,1,23,2,3] ?_
  refine TK.maskL [1,2,3,4,9,10] ?_
  refine TK.kp [(s,_),(j,_),(jb,_)] ?_
  exact hnext _ _ _ oQ ⟨i+1,rfl,oQ,by rw [htn]; rfl,rfl⟩
 obtain rfl:i=m:=by simp at hc0; omega
 refine au [16,4,5,1,2,3] ?_
 refine TK.rt hret [(s,_),(j,_)] ?_
 exact ⟨rfl,rfl⟩
theorem qy {b:RBk} (hb:ROk b) (ps:List (Fin 65536)):InB b (realM b ps b.shrinks.length):=⟨jE _ _ _,fun i hi=>by
 rw [xj _ _ _ _ hi]
 exact x6 (hb.cls.bnd i (by have:=hb.cls.len; omega)).2.1 _⟩
theorem jar {gm:Nat->Option Nat} {V:KV} {env:List AV} {o:Oper} {x y:Operand} {s l:List Int} (ho:o.op=.binOp .eql 129 x y 129) (hx:zn gm env x=some (.agg (stC s))) (hy:zn gm env y=some (.agg (stC l))):Qk tp gm env V o (zP (eqSt s l)):=fun A _ =>
 vq ho (by rw [zx hx]; rfl) (by rw [zx hy]; rfl) (zaS (.inl rfl) (by kernel_rfl) (zL (eq_st s l) rfl))
instance:Cal tp 73:={}
instance:zi tp 31 false 1:={}
instance:TyZA tp 31 [.v (.int .i64 0)]:={}
theorem qk {main T} (hT:zo tp main T) {gm} {b:RBk} {s h e j:Nat} {et:TypeId} {st:List Int} (hb:ROk b) (hs:StOk b st) :
  zA tp T gm 86 [.agg (zE b s h e),.sl j 0 st.length] [(s,zk b),(e,zq b),(j,.cells (st.map intA) et false)] (fun r K'=>∃ je,r=.agg (zE (ji b st) s h je)/\K'=(je,zq (ji b st))::[(s,zk b),(e,zq b),(j,.cells (st.map intA) et false)]):=by
 refine zp 37 hT Tryz.func86 fun Y hret=>?_
 refine au [4,5,21] ?_
 intro jb hjb
 refine au [22] ?_
 intro jr hjr
 refine au [3,4,5,8,22] ?_
 intro jo hjo
 refine au [17,3,4,5,7,17] ?_
 refine TK.normK (K':=[(jo,.cells [intA b.steps,intA b.round,intA b.roll,intA b.rolls,.sl s 0 b.seams.length,.sl h 0 b.shrinks.length,.v (.slice none 0 0)] 26 true),_,_,_,_,_]) (by simp only [setL,zE,List.drop_zero,List.take,List.set]; rfl) ?_
 refine TK.virtAt (j:=jo) (i:=6) (e:=49) (size:=3) (l:=[intA b.steps,intA b.round,intA b.roll,intA b.rolls,.sl s 0 b.seams.length,.sl h 0 b.shrinks.length,.v (.slice none 0 0)]) Z (fun _=>uQ) fun je0 hje0=>?_
 refine au [3,4,4,5,2,3,13] ?_
 refine TK.maskL [1,2,4,5,6] ?_
 refine TK.kp [(s,_),(e,_),(j,_),(je0,_),(jo,_),(jr,_),(jb,_)] ?_
 refine TK.loopN (fun n env K=>∃ (i je:Nat),n=b.measures.length - i/\i<=b.measures.length/\env=.any::.sl j 0 st.length::.ptr jb 0::.any::.ptr jr 0::.ptr jo 0::intA i::naL 30 []/\K=[(s,zk b),(e,zq b),(j,.cells (st.map intA) et false),(je,.row ((trulyT b st i).flatMap measC) 49 3),(jo,.cells [intA b.steps,intA b.round,intA b.roll,intA b.rolls,.sl s 0 b.seams.length,.sl h 0 b.shrinks.length,.row je (trulyT b st i).length] 26 true),(jr,.cells z7R 26 true),(jb,.cells (zE b s h e) 26 true)]) b.measures.length ⟨0,je0,rfl,mN _,rfl,rfl⟩ fun n env K hI hnext=>?_
 obtain ⟨i,je,rfl,hi,rfl,rfl⟩:=hI
 have hfl:=yy measC 3 (fun _=>rfl) (trulyT b st i)
 have hol:(trulyT b st i).length=i:=by unfold trulyT; rw [lJ,List.length_take,Nat.min_eq_left hi]
 have hml:=hb.mes.len
 refine TK.na nQ ?_
 refine au [4,4,5,1,7,9,28,6,3,20] ?_
 refine ⟨fun hc0=>?_,fun hc0=>?_⟩
 ·have hil:i<b.measures.length:=by simp at hc0; omega
  obtain ⟨x,hx⟩:∃ x,b.measures[i]? =some x:=⟨_,lA hil⟩
  have hq:=hb.mes.bnd x (List.mem_of_getElem? hx)
  obtain ⟨mc,mm,mw⟩:=x
  obtain ⟨mc,rfl⟩:=Int.eq_ofNat_of_zero_le hq.1
  obtain ⟨mm,rfl⟩:=Int.eq_ofNat_of_zero_le (show 0<=mm by have:=hq.2.2.1; dsimp only at this; omega)
  have hq1:mc<b.seams.length:=by have:=hq.2.1; dsimp only at this; omega
  have hq2:mm<=b.seams.length:=by have:=hq.2.2.2.1; dsimp only at this; omega
  refine au [12,4,13,4,5,7,9,1,36] ?_
  refine TK.a Z (z8 Z Z zi.h mQ (zcE (i:=i) hx Z)) ?_
  refine au [22] ?_
  intro jm hjm
  refine au [17,3,4,5,8,7,9,7,9,1] ?_
  refine TK.cl Z Z Z Z (xU hT hb hs hq1 hq2) ?_
  rintro r1 K2 ⟨rfl,rfl⟩
  refine au [7,17,3,5,7,9,8] ?_
  refine TK.newR Z Z Z (zt (l:=[_,_,_]) Z zF.h TyZ.h dQ dQ Z) (fun _=>zu rfl tQ) fun j4 hj4=>?_
  refine TK.appR Z Z Z (a_app Z ApOf.h Z mQ oQ Z (yu (ln:=[_,_,_]) mQ dQ sQ Z) oQ Z (by unfold maxLen; omega) oQ) (fun _=>uQ) (fun _=>zu rfl tQ) fun je2=>?_
  refine au [7,17,3,14,5,1,23,2,3] ?_
  refine TK.maskL [1,2,4,5,6] ?_
  refine TK.kp [(s,_),(e,_),(j,_),(je2,_),(jo,_),(jr,_),(jb,_)] ?_
  exact hnext _ _ _ oQ ⟨i+1,je2,rfl,oQ,rfl,by rw [xH hx,yS,lF]; rfl⟩
 obtain rfl:i=b.measures.length:=by simp at hc0; omega
 refine au [16,4] ?_
 refine TK.unrowAt (c:=jo) (i:=6) (j:=je) Z mQ uQ ?_
 refine TK.frzRow (j:=je) ?_
 refine au [5,8,17,3] ?_
 refine TK.rt hret [(je,_),(s,_),(e,_),(j,_)] ?_
 exact ⟨je,rfl,rfl⟩
theorem xE {main:Bool} {T:Goroutine->Hp->Prop} (hT:zo tp main T)  {b:RBk} {s h e j:Nat} {l:List Int} {et:TypeId} (hl:b.seams.length<=100) (hm:b.measures.length<=100) (hll:l.length<=1000) :
  zA tp T gmR 79 [.agg (zE b s h e),.sl j 0 l.length] [(0,zy),(s,zk b),(h,zB b),(e,zq b),(j,.cells (l.map intA) et false)] (fun r K'=>(bar2 (zr b) (shM b l)≠0/\r=.tup [zP false,intA (bar2 (zr b) (shM b l))]/\K'=[(0,zy),(s,zk b),(h,zB b),(e,zq b),(j,.cells (l.map intA) et false)])\/(bar2 (zr b) (shM b l)=0/\r=.tup [zP (decide (l∈zf b)),intA 0]/\K'=[(0,zy),(s,zk b),(h,zB b),(e,zq b),(j,.cells (l.map intA) et false)])):=by
 refine vw 29 hT Tryz.func79 fun Y hro hret=>?_
 refine au [4,5,21] ?_
 intro jb hjb
 refine au [22] ?_
 intro jr hjr
 refine au [22] ?_
 intro jq hjq
 refine au [3,4,5,8,1,32] ?_
 refine TK.newR Z Z Z (zt (l:=[_]) Z zF.h TyZ.h dQ dQ Z) (fun _=>zu rfl tQ) fun ja hja=>?_
 refine TK.cl Z Z Z Z (wZ hT (Kx:=[(j,.cells (l.map intA) et false)]) (p1:=shM b l) hl hm (fun h0=>yw Cal.h (zda hT (zZ h0).rnd (zZ h0).sms))) ?_
 rintro r1 K2 h3
 rcases h3 with ⟨⟨hbar,rfl⟩ | ⟨hbar,rfl⟩,rfl⟩
 ·refine au [1,10,10,22] ?_
  intro j6 hj6
  refine au [17,2,3,4,4,5,1,6,3,20] ?_
  refine ⟨fun hc0=>?_,fun hc0=>?_⟩
  ·exact absurd hc0 sQ
  have hbb:=zZ (kE hbar)
  have hss:=zfq (kb hbar)
  have h5:=hbb.sms.len
  have hsl:=hss.len
  refine au [12,4,5,1] ?_
  refine TK.cl Z Z Z Z (uk hT oQ oQ) ?_
  rintro r4 K5 ⟨rfl,rfl⟩
  refine au [22] ?_
  intro jw hjw
  refine au [17,3,4,4,5,8,32,3,13] ?_
  refine TK.rangeStates hT hbb (s:=s) (h:=h) (e:=e) (J:=fun pre K1=>K1=[(jw,.cells (stC l) 129 true),(jr,.cells [zP false] 4 true),(jq,.cells [intA 0] 31 true)]/\l∉pre) (D:=fun c K1=>c=.ret/\l∈zf b/\K1=[(jw,.cells (stC l) 129 true),(jr,.cells [zP true] 4 true),(jq,.cells [intA 0] 31 true)]) rfl hro rfl (by repeat (first | exact Split.none _ | exact Split.all _ | (apply Split.rem; repeat (first | exact Rem.head | apply Rem.tail)) | apply Split.right)) ⟨rfl,by simp⟩ (fun Y' l0 lo lb pre S K1 hbegin hfin hout hpre hJ=>?_) (fun d K2 hJ=>?_) (fun d c K2 hD=>?_)
  ·obtain ⟨rfl,hnp⟩:=hJ
   have hS:=hpre.subset (List.mem_append_right pre (lS.2 rfl))
   have hSo:=(y7 hbb hS).1.len
   refine au [5,22] ?_
   intro j9 hj9
   refine au [17,3] ?_
   refine hbegin _ _ _ _ _ uQ ?_
   refine au [13,4,5,8,8] ?_
   refine TK.a Z (jar Z Z Z) ?_
   refine au [3,20] ?_
   refine ⟨fun hc1=>?_,fun hc1=>?_⟩
   ·have heq:S=l:=zgy oQ oQ hc1
    refine au [4,5,17,17,3] ?_
    exact hout _ _ _ _ [(jw,_),(jr,_),(jq,_)] _ (.ret _) (by repeat (first | exact Split.none _ | exact Split.all _ | (apply Split.rem; repeat (first | exact Rem.head | apply Rem.tail)) | apply Split.right)) ⟨rfl,heq ▸ hS,rfl⟩
   have hne:S≠l:=fun e=>by subst e; simp [eqSt] at hc1
   refine au [12,14] ?_
   exact hfin _ _ [(jw,_),(jr,_),(jq,_)] _ (by repeat (first | exact Split.none _ | exact Split.all _ | (apply Split.rem; repeat (first | exact Rem.head | apply Rem.tail)) | apply Split.right)) ⟨rfl,fun h=>(lT.1 h).elim hnp fun h=>hne (lS.1 h).symm⟩
  ·obtain ⟨rfl,hnp⟩:=hJ
   simp only [cA]
   refine au [14,4,5,17,17,3] ?_
   refine TK.leave (.ret _) fun A hA=>hret _ _ _ _ ([(0,_),(s,_),(h,_),(e,_),(j,_),(jr,_),(jq,_)]) ([(0,_),(s,_),(h,_),(e,_),(j,_)]) _ _ _ (.inr rfl) (by repeat (first | exact Split.none _ | exact Split.all _ | (apply Split.rem; repeat (first | exact Rem.head | apply Rem.tail)) | apply Split.right)) sQ sQ (by repeat (first | exact Split.none _ | exact Split.all _ | (apply Split.rem; repeat (first | exact Rem.head | apply Rem.tail)) | apply Split.right)) (wH (.cons (yM Z zi.h mQ rfl) (.cons (yM Z zi.h mQ rfl) ResKs.nil)) rfl) ?_ A hA
   exact .inr ⟨hbar,by rw [decide_eq_false hnp],rfl⟩
  ·obtain ⟨rfl,hD,rfl⟩:=hD
   simp only [cA]
   refine au [] ?_
   refine TK.leave (.ret _) fun A hA=>hret _ _ _ _ ([(0,_),(s,_),(h,_),(e,_),(j,_),(jr,_),(jq,_)]) ([(0,_),(s,_),(h,_),(e,_),(j,_)]) _ _ _ (.inr rfl) (by repeat (first | exact Split.none _ | exact Split.all _ | (apply Split.rem; repeat (first | exact Rem.head | apply Rem.tail)) | apply Split.right)) sQ sQ (by repeat (first | exact Split.none _ | exact Split.all _ | (apply Split.rem; repeat (first | exact Rem.head | apply Rem.tail)) | apply Split.right)) (wH (.cons (yM Z zi.h mQ rfl) (.cons (yM Z zi.h mQ rfl) ResKs.nil)) rfl) ?_ A hA
   exact .inr ⟨hbar,by rw [decide_eq_true hD],rfl⟩
 ·refine au [1,10,10,22] ?_
  intro j6 hj6
  refine au [17,2,3,4,4,5,1,6,3,20] ?_
  refine ⟨fun hc0=>?_,fun hc0=>?_⟩
  ·
   refine au [4,5,1,17,17,3] ?_
   refine TK.leave (.ret _) fun A hA=>hret _ _ _ _ ([(0,_),(s,_),(h,_),(e,_),(j,_),(jr,_),(jq,_)]) ([(0,_),(s,_),(h,_),(e,_),(j,_)]) _ _ _ (.inr rfl) (by repeat (first | exact Split.none _ | exact Split.all _ | (apply Split.rem; repeat (first | exact Rem.head | apply Rem.tail)) | apply Split.right)) sQ sQ (by repeat (first | exact Split.none _ | exact Split.all _ | (apply Split.rem; repeat (first | exact Rem.head | apply Rem.tail)) | apply Split.right)) (wH (.cons (yM Z zi.h mQ rfl) (.cons (yM Z zi.h mQ rfl) ResKs.nil)) rfl) ?_ A hA
   exact .inl ⟨hbar,rfl,rfl⟩
  exact absurd hbar (by simpa using hc0)
theorem xd {main T} (hT:zo tp main T) {gm} {w:Int} {z:Bool} :
  zA tp T gm 87 [intA w,zP z] [] (fun r K'=>r=zP (saidM w z)/\K'=[]):=by
 refine zp 13 hT Tryz.func87 fun Y hret=>?_
 refine au [4,5,2,3,4,5,1,6,1] ?_
 refine TK.sp 7 (fun g1_3=>?_) (fun g1_3=>?_)
 ·refine au [11,11,11,11,26,2,3] ?_
  refine TK.rt hret [] ?_
  exact ⟨by simp_all [saidM],rfl⟩
 refine au [1,6,1,34,25,2,3] ?_
 refine TK.rt hret [] ?_
 exact ⟨by simp_all [saidM],rfl⟩
end Go.Vel
namespace Go.Vel
open Go Go.Conc Go.Sort
theorem jI {P:Program} {gm:Nat->Option Nat} {V:KV} {env:List AV} {o:Oper} {t yt:TypeId} {x y:Operand} {a b:Int} (ho:o.op=.binOp .quo t x y yt) (hx:zn gm env x=some (.v (.int .i64 a))) (hy:zn gm env y=some (.v (.int .i64 b))) (h0:0<=a) (h1:0<b) (h2:a<9223372036854775808):Qk P gm env V o (.v (.int .i64 (a / b))):=by
 refine wQ ho hx hy ?_
 show zR P (if b=0 then _ else _)=_
 rw [if_neg oQ]
 show some (Value.int .i64 (IntKind.i64.wrap (a.tdiv b)))=_
 rw [Int.tdiv_eq_ediv_of_nonneg h0,wK ⟨Int.le_trans oQ (Int.ediv_nonneg h0 oQ),Int.lt_of_le_of_lt (Int.ediv_le_self b h0) h2⟩]
theorem TK.shr {P:Program} {gm:Nat->Option Nat} {T:Goroutine->Hp->Prop} {Y:KX P gm T} {ds:List Nat} {k k':List Item} {env:List AV} {K:KV} {X:Type} {D:X->Prop} {E:X->List AV} {KK:X->KV} (main:(∀ x,D x->TK Y ds k' (E x) (KK x))->TK Y ds k env K) (tail:∀ x,D x->TK Y ds k' (E x) (KK x)):TK Y ds k env K:=main tail
theorem jal {d:Array Int} {i:Nat} (h:i<d.size):d.toList[i]? =some d[i]! :=by
 rw [Array.getElem?_toList,Array.getElem?_eq_getElem h,getElem!_pos d i h]
theorem jah (d:Array Int) (i j:Nat):(d.toList.set i d[j]!).set j d[i]! =(swp d i j).toList:=by
 simp [swp]
theorem jA {d:Array Int} {i:Nat} {n:Int} {e:TypeId} {s:Nat} (h:i<d.size) (hn:n=(i:Int)):takeO (.row (d.toList.map intA) e s) (0+n.toNat*1) 1=some [intA d[i]!]:=kD (jal h) (by subst hn; simp)
theorem jB {d:Array Int} {k:Nat} {n v:Int} {e:TypeId} {s:Nat} (h:k<d.size) (hn:n=(k:Int)):putO (.row (d.toList.map intA) e s) (0+n.toNat*1) [intA v]=some (.row ((d.toList.set k v).map intA) e s):=zcU (by rw [Array.length_toList]; exact h) hn
theorem jC {d:Array Int} {i j:Nat} {n:Int} {e:TypeId} {s:Nat} (h:j<d.size) (hn:n=(j:Int)):putO (.row ((d.toList.set i d[j]!).map intA) e s) (0+n.toNat*1) [intA d[i]!]=some (.row ((swp d i j).toList.map intA) e s):=by
 rw [<- jah]
 exact zcU (by rw [List.length_set,Array.length_toList]; exact h) hn
theorem jD {d:Array Int} {i j n:Nat} (h:d.size=n):(swp d i j).size=n:=by rw [swp_size]; exact h
section
variable {a b i j q n hi F root:Nat} {d:Array Int}
theorem xD (h:i<b):insOuter ltInt a b i d=insOuter ltInt a b (i+1) (insInner ltInt a i d):=by
 conv=>lhs; unfold insOuter
 rw [if_pos h]
theorem xq (h:¬ i<b):insOuter ltInt a b i d=d:=by unfold insOuter; rw [if_neg h]
theorem xC (h:a<q+1) (hl:ltInt d[q+1]! d[q]! =true):insInner ltInt a (q+1) d=insInner ltInt a q (swp d (q+1) q):=by
 conv=>lhs; unfold insInner
 rw [if_pos (by simp only [mX,decide_eq_true_eq]; exact ⟨h,hl⟩)]
theorem xp (h:¬ a<q):insInner ltInt a q d=d:=by
 cases q with
 | zero=>rfl
 | succ q =>
  unfold insInner
  rw [if_neg (by simp only [mX,decide_eq_true_eq]; exact fun hh=>h hh.1)]
theorem xo (hl:ltInt d[q+1]! d[q]! =false):insInner ltInt a (q+1) d=d:=by
 unfold insInner
 rw [if_neg (by rw [hl]; simp)]
theorem qE (h:hi<=2*root+1):siftDown ltInt hi F root d=d:=by unfold siftDown; rw [dif_pos h]
def SiftC (hi F root:Nat) (d:Array Int) (c:Nat):Prop:=root<c/\c<hi/\siftDown ltInt hi F root d=if (!ltInt d[F+root]! d[F+c]!)=true then d else siftDown ltInt hi F c (swp d (F+root) (F+c))
theorem jaf (h:¬ hi<=2*root+1) (h2:2*root+2<hi) (hl:ltInt d[F+(2*root+1)]! d[F+(2*root+1)+1]! =true):SiftC hi F root d (2*root+2):=by
 refine ⟨by omega,h2,?_⟩
 conv=>lhs; unfold siftDown
 rw [dif_neg h,if_pos (by rw [hl]; simp; omega),dif_pos h2]
theorem xO (h:¬ hi<=2*root+1) (hl:¬ 2*root+2<hi\/ltInt d[F+(2*root+1)]! d[F+(2*root+1)+1]! =false):SiftC hi F root d (2*root+1):=by
 refine ⟨by omega,oQ,?_⟩
 conv=>lhs; unfold siftDown
 rw [dif_neg h,if_neg (by rcases hl with hl | hl <;> simp [hl])]
theorem xP (hi F root:Nat) (d:Array Int):(siftDown ltInt hi F root d).size=d.size:=by
 fun_induction siftDown ltInt hi F root d <;> simp_all [swp_size]
end
end Go.Vel
namespace Go.Vel
open Go Go.Conc Go.Proofs
open Go.Sort
theorem qP {main T} (hT:zo tp main T) {gm} {j n a b:Nat} {d:Array Int} (hd:d.size=n) (hn:n<=1000) (hab:a<=b) (hb:b<=n) :
  zA tp T gm 188 [.sl j 0 n,intA a,intA b] [(j,.row (d.toList.map intA) 3 1)] (fun r K'=>K'=[(j,.row ((insertionSort ltInt d a b).toList.map intA) 3 1)]):=by
 refine zp 49 hT Tryz.func188 fun Y hret=>?_
 refine au [4,5,1,23,2,3,13] ?_
 refine TK.maskL [0,1,2,6] ?_
 refine TK.loopN (fun n1 env K=>∃ (i:Nat) (d1:Array Int),n1=b - i/\a<i/\d1.size=n/\insOuter ltInt a b i d1=insertionSort ltInt d a b/\env=.sl j 0 n::intA a::intA b::naL 3 (intA i::naL 42 [])/\K=[(j,.row (d1.toList.map intA) 3 1)]) (b - (a+1)) ⟨a+1,d,rfl,oQ,hd,rfl,rfl,rfl⟩ fun n1 env K hI hnext=>?_
 obtain ⟨i,d1,rfl,hai,hs1,heq,rfl,rfl⟩:=hI
 refine TK.na nQ ?_
 refine au [4,4,5,1,1,6,3,20] ?_
 refine ⟨fun hc0=>?_,fun hc0=>?_⟩
 ·have hib:i<b:=by simp at hc0; omega
  rw [xD hib] at heq
  refine au [12,4,13,4,5,1,2,3,13] ?_
  refine TK.maskL [0,1,2,6,7] ?_
  refine TK.loopN (fun n1 env K=>∃ (p:Nat) (d2:Array Int),n1=p/\p<=i/\d2.size=n/\insOuter ltInt a b (i+1) (insInner ltInt a p d2)=insertionSort ltInt d a b/\env=.sl j 0 n::intA a::intA b::naL 3 (intA i::intA p::naL 41 [])/\K=[(j,.row (d2.toList.map intA) 3 1)]) i ⟨i,d1,rfl,mL _,hs1,heq,rfl,rfl⟩ fun n1 env K hI hnext1=>?_
  obtain ⟨p,d2,hnp,hp,hs2,heq2,rfl,rfl⟩:=hI
  subst n1
  refine TK.na nQ ?_
  refine au [4,4] ?_
  refine TK.dr [0,1,2,3,4,5,6,7,8,9,10,11,12,13,14] [0,1,2,3,4,5,6,7,8,9,10,11,12,13,14] ?_
  refine TD.mv [7] ?_
  refine TD.mv [1] ?_
  refine TD.z [16,17] Z (q_cmp Z Z Z Z) ?_
  refine TD.mv [18] ?_
  refine TD.sp 19 (fun g4_4=>?_) (fun g4_4=>?_)
  ·have hpa:a<p:=by simp at g4_4; omega
   obtain ⟨q,rfl⟩:∃ q,p=q+1:=⟨p - 1,oQ⟩
   refine TD.mv [0,19] ?_
   refine TD.mv [7,19] ?_
   refine TD.ix [19,20,21] ?_
   refine TD.y [19,22] Z (hq:=zm Z Z zi.h (mC _) (jA (i:=q+1) oQ oQ)) (h:=?_)
   refine TD.mv [0,19] ?_
   refine TD.mv [7,19] ?_
   refine TD.z [19,25] Z (q_sub Z Z Z oQ) ?_
   refine TD.ix [19,24,26] ?_
   refine TD.y [19,27] Z (hq:=zm Z Z zi.h (mC _) (jA (i:=q) oQ oQ)) (h:=?_)
   refine TD.cl (pend':=[⟨11,[19,24,26],[]⟩,⟨10,[19,25],[]⟩,⟨9,[7,19],[]⟩,⟨8,[0,19],[]⟩,⟨6,[19,20,21],[]⟩,⟨5,[7,19],[]⟩,⟨4,[0,19],[]⟩,⟨2,[16,17],[]⟩,⟨1,[1],[]⟩,⟨0,[7],[]⟩]) [19,23,28] Z Z Z Z Z (zg9 hT) (fun r1 K2 h3=>⟨?_,?_⟩)
   ·rcases h3 with ⟨rfl,rfl⟩
    all_goals simp
   obtain ⟨rfl,rfl⟩:=h3
   try simp only [cA]
   refine TD.norm tQ ?_
   refine TD.z [19,29] Z (yE Z Z Z) ?_
   refine TD.fin ?_
   refine au [20] ?_
   refine ⟨fun hc1=>?_,fun hc1=>?_⟩
   ·rw [xC hpa hc1] at heq2
    refine au [12,4,13] ?_
    refine TK.dr [0,1,2,3,4,5,6,7,8,9,10,11,12,13,14,15,16,17] [0,1,5,6,7,8,9,10,11,12,13,14,15,2,3,4,16,17] ?_
    refine TD.mv [0] ?_
    refine TD.mv [7] ?_
    refine TD.mv [0] ?_
    refine TD.mv [7] ?_
    refine TD.z [36] Z (q_sub Z Z Z oQ) ?_
    refine TD.mv [0] ?_
    refine TD.mv [7] ?_
    refine TD.z [39] Z (q_sub Z Z Z oQ) ?_
    refine TD.ix [38,40] ?_
    refine TD.y [41] Z (hq:=zm Z Z zi.h (mC _) (jA (i:=q) oQ oQ)) (h:=?_)
    refine TD.mv [0] ?_
    refine TD.mv [7] ?_
    refine TD.ix [43,44] ?_
    refine TD.y [45] Z (hq:=zm Z Z zi.h (mC _) (jA (i:=q+1) oQ oQ)) (h:=?_)
    refine TD.ix [33,34] ?_
    refine TD.s (pend':=[⟨12,[43,44],[]⟩,⟨11,[7],[]⟩,⟨10,[0],[]⟩,⟨4,[36],[]⟩,⟨3,[7],[]⟩,⟨2,[0],[]⟩]) [42,47] Z Z (zX Z Z zi.h Z Z mQ (jB (k:=q+1) oQ oQ)) ?_
    refine TD.ix [35,37] ?_
    refine TD.s (pend':=[]) [46,48] Z Z (zX Z Z zi.h Z Z mQ (jC (i:=q+1) (j:=q) oQ oQ)) ?_
    refine TD.fin ?_
    refine au [14,5,1,24,2,3] ?_
    refine TK.maskL [0,1,2,6,7] ?_
    refine TK.kp [(j,_)] ?_
    exact hnext1 _ _ _ oQ ⟨q,swp d2 (q+1) q,rfl,oQ,jD hs2,heq2,by rw [show ((q+1:Nat):Int) - 1=(q:Int) by omega]; rfl,rfl⟩
   rw [xo hc1] at heq2
   refine au [16,14,5,1,23,2,3] ?_
   refine TK.maskL [0,1,2,6] ?_
   refine TK.kp [(j,_)] ?_
   exact hnext _ _ _ oQ ⟨i+1,d2,rfl,oQ,hs2,heq2,rfl,rfl⟩
  have hpa:¬ a<p:=by simp at g4_4; omega
  rw [xp hpa] at heq2
  refine TD.u [0,19] Z ?_
  refine TD.u [7,19] Z ?_
  refine TD.u [19,20,21] Z ?_
  refine TD.u [19,22] Z ?_
  refine TD.u [0,19] Z ?_
  refine TD.u [7,19] Z ?_
  refine TD.u [19,25] Z ?_
  refine TD.u [19,24,26] Z ?_
  refine TD.u [19,27] Z ?_
  refine TD.u [19,23,28] Z ?_
  refine TD.z [19,29] Z (yf Z Z Z) ?_
  refine TD.fin ?_
  refine au [19,16,14,5,1,23,2,3] ?_
  refine TK.maskL [0,1,2,6] ?_
  refine TK.kp [(j,_)] ?_
  exact hnext _ _ _ oQ ⟨i+1,d2,rfl,oQ,hs2,heq2,rfl,rfl⟩
 have hib:¬ i<b:=by simp at hc0; omega
 refine au [16] ?_
 refine TK.rt0 hret [(j,_)] ?_
 rw [<- heq,xq hib]
theorem xw {main T} (hT:zo tp main T) {gm} {j n lo hi F:Nat} {d:Array Int} (hd:d.size=n) (hn:n<=1000) (hlo:lo<=1000) (hF:F+hi<=n) :
  zA tp T gm 218 [.sl j 0 n,intA lo,intA hi,intA F] [(j,.row (d.toList.map intA) 3 1)] (fun r K'=>K'=[(j,.row ((siftDown ltInt hi F lo d).toList.map intA) 3 1)]):=by
 refine zp 76 hT Tryz.func218 fun Y hret=>?_
 refine au [4,5,1,2,3,13] ?_
 refine TK.maskL [0,2,3,8] ?_
 refine TK.loopN (fun n1 env K=>∃ (root:Nat) (d1:Array Int),n1=hi - root/\root<=1000/\d1.size=n/\siftDown ltInt hi F root d1=siftDown ltInt hi F lo d/\env=.sl j 0 n::.any::intA hi::intA F::naL 4 (intA root::naL 67 [])/\K=[(j,.row (d1.toList.map intA) 3 1)]) (hi - lo) ⟨lo,d,rfl,hlo,hd,rfl,rfl,rfl⟩ fun n1 env K hI hnext=>?_
 obtain ⟨root,d1,rfl,hr,hs1,heq,rfl,rfl⟩:=hI
 refine TK.na nQ ?_
 refine au [13,4,5,1] ?_
 refine TK.a Z (q_mul Z Z Z oQ) ?_
 refine au [23,2,3,4,4] ?_
 rw [show 2*(root:Int)+1=((2*root+1:Nat):Int) by omega]
 refine au [5,1,1,6,3,20] ?_
 refine ⟨fun hc0=>?_,fun hc0=>?_⟩
 ·have hch:hi<=2*root+1:=by simp at hc0; omega
  have hfin:d1=siftDown ltInt hi F lo d:=by rw [<- heq,qE hch]
  refine au [16] ?_
  refine TK.rt0 hret [(j,_)] ?_
  rw [<- hfin]
 have hch:¬ hi<=2*root+1:=by simp at hc0; omega
 refine au [12,4,4] ?_
 refine' TK.shr (X:=Nat) (D:=fun x=>SiftC hi F root d1 x) (E:=fun x=>.sl j 0 n::.any::intA hi::intA F::naL 4 (intA root::intA x::naL 66 [])) (KK:=fun x=>[(j,.row (d1.toList.map intA) 3 1)]) ?_ ?_
 rotate_left
 ·intro H
  refine TK.dr [0,1,2,3,4,5,6,7,8,9,10,11,12,13,14,15,16,17,18,19] [0,1,2,3,4,5,6,7,8,9,10,11,12,13,14,15,16,17,18,19] ?_
  refine TD.mv [9] ?_
  refine TD.z [17] Z (q_add Z Z Z oQ) ?_
  refine TD.mv [2] ?_
  refine TD.z [18,19] Z (q_cmp Z Z Z Z) ?_
  refine TD.mv [20] ?_
  refine TD.sp 21 (fun g3_5=>?_) (fun g3_5=>?_)
  ·have hg:2*root+2<hi:=by simp at g3_5; omega
   refine TD.mv [0,21] ?_
   refine TD.mv [3,21] ?_
   refine TD.mv [9,21] ?_
   refine TD.z [21,23,24] Z (q_add Z Z Z oQ) ?_
   refine TD.ix [21,22,25] ?_
   refine TD.y [21,26] Z (hq:=zm Z Z zi.h (mC _) (jA (i:=F+(2*root+1)) oQ oQ)) (h:=?_)
   refine TD.mv [0,21] ?_
   refine TD.mv [3,21] ?_
   refine TD.mv [9,21] ?_
   refine TD.z [21,29,30] Z (q_add Z Z Z oQ) ?_
   refine TD.z [21,31] Z (q_add Z Z Z oQ) ?_
   refine TD.ix [21,28,32] ?_
   refine TD.y [21,33] Z (hq:=zm Z Z zi.h (mC _) (jA (i:=F+(2*root+1)+1) oQ oQ)) (h:=?_)
   refine TD.cl (pend':=[⟨16,[21,28,32],[]⟩,⟨15,[21,31],[]⟩,⟨14,[21,29,30],[]⟩,⟨13,[9,21],[]⟩,⟨12,[3,21],[]⟩,⟨11,[0,21],[]⟩,⟨9,[21,22,25],[]⟩,⟨8,[21,23,24],[]⟩,⟨7,[9,21],[]⟩,⟨6,[3,21],[]⟩,⟨5,[0,21],[]⟩,⟨3,[18,19],[]⟩,⟨2,[2],[]⟩,⟨1,[17],[]⟩,⟨0,[9],[]⟩]) [21,27,34] Z Z Z Z Z (zg9 hT) (fun r1 K2 h3=>⟨?_,?_⟩)
   ·rcases h3 with ⟨rfl,rfl⟩
    all_goals simp
   obtain ⟨rfl,rfl⟩:=h3
   try simp only [cA]
   refine TD.norm tQ ?_
   refine TD.z [21,35] Z (yE Z Z Z) ?_
   refine TD.fin ?_
   refine au [20] ?_
   refine ⟨fun hc1=>?_,fun hc1=>?_⟩
   ·have hc:=jaf hch hg hc1
    refine au [5,1,23,2] ?_
    rw [show ((2*root+1:Nat):Int)+1=((2*root+2:Nat):Int) by omega]
    refine au [3,4,4] ?_
    refine TK.maskL [0,2,3,8,9] ?_
    refine TK.kp [(j,_)] ?_
    exact H (2*root+2) hc
   have hc:=xO hch (.inr hc1)
   refine au [12,4,4] ?_
   refine TK.maskL [0,2,3,8,9] ?_
   refine TK.kp [(j,_)] ?_
   exact H (2*root+1) hc
  have hg:¬ 2*root+2<hi:=by simp at g3_5; omega
  have hc:=xO (F:=F) (d:=d1) hch (.inl hg)
  refine TD.u [0,21] Z ?_
  refine TD.u [3,21] Z ?_
  refine TD.u [9,21] Z ?_
  refine TD.u [21,23,24] Z ?_
  refine TD.u [21,22,25] Z ?_
  refine TD.u [21,26] Z ?_
  refine TD.u [0,21] Z ?_
  refine TD.u [3,21] Z ?_
  refine TD.u [9,21] Z ?_
  refine TD.u [21,29,30] Z ?_
  refine TD.u [21,31] Z ?_
  refine TD.u [21,28,32] Z ?_
  refine TD.u [21,33] Z ?_
  refine TD.u [21,27,34] Z ?_
  refine TD.z [21,35] Z (yf Z Z Z) ?_
  refine TD.fin ?_
  refine au [19,12,4,4] ?_
  refine TK.maskL [0,2,3,8,9] ?_
  refine TK.kp [(j,_)] ?_
  exact H (2*root+1) hc
 ·rintro c ⟨hrc,hcl,heqc⟩; rw [heq] at heqc
  refine TK.na nQ ?_
  refine TK.dr [0,1,2,3,4,5,6,7,8,9,10,11,12,13] [0,1,2,3,4,5,6,7,8,9,10,11,12,13] ?_
  refine TD.mv [0] ?_
  refine TD.mv [3] ?_
  refine TD.mv [8] ?_
  refine TD.z [40,41] Z (q_add Z Z Z oQ) ?_
  refine TD.ix [39,42] ?_
  refine TD.y [43] Z (hq:=zm Z Z zi.h (mC _) (jA (i:=F+root) oQ oQ)) (h:=?_)
  refine TD.mv [0] ?_
  refine TD.mv [3] ?_
  refine TD.mv [9] ?_
  refine TD.z [46,47] Z (q_add Z Z Z oQ) ?_
  refine TD.ix [45,48] ?_
  refine TD.y [49] Z (hq:=zm Z Z zi.h (mC _) (jA (i:=F+c) oQ oQ)) (h:=?_)
  refine TD.cl (pend':=[⟨10,[45,48],[]⟩,⟨9,[46,47],[]⟩,⟨8,[9],[]⟩,⟨7,[3],[]⟩,⟨6,[0],[]⟩,⟨4,[39,42],[]⟩,⟨3,[40,41],[]⟩,⟨2,[8],[]⟩,⟨1,[3],[]⟩,⟨0,[0],[]⟩]) [44,50] Z Z Z Z Z (zg9 hT) (fun r10 K11 h12=>⟨?_,?_⟩)
  ·rcases h12 with ⟨rfl,rfl⟩
   all_goals simp
  obtain ⟨rfl,rfl⟩:=h12
  try simp only [cA]
  refine TD.norm tQ ?_
  refine TD.z [51] Z (q_not Z Z) ?_
  refine TD.fin ?_
  refine au [20] ?_
  refine ⟨fun hc2=>?_,fun hc2=>?_⟩
  ·have hfin:d1=siftDown ltInt hi F lo d:=by rw [heqc]; exact (if_pos hc2).symm
   refine au [] ?_
   refine TK.rt hret [(j,_)] ?_
   rw [<- hfin]
  have hq:=heqc.trans (if_neg (fun h=>absurd (hc2.symm.trans h) dQ))
  refine au [12,4] ?_
  refine TK.dr [0,1,2,3,4,5,6,7,8,9,10,11,12,13,14,15,16,17,18,19,20,21,22,23] [0,1,2,3,8,9,10,11,12,13,14,15,16,17,18,19,20,21,4,5,6,7,22,23] ?_
  refine TD.mv [0] ?_
  refine TD.mv [3] ?_
  refine TD.mv [8] ?_
  refine TD.z [54,55] Z (q_add Z Z Z oQ) ?_
  refine TD.mv [0] ?_
  refine TD.mv [3] ?_
  refine TD.mv [9] ?_
  refine TD.z [58,59] Z (q_add Z Z Z oQ) ?_
  refine TD.mv [0] ?_
  refine TD.mv [3] ?_
  refine TD.mv [9] ?_
  refine TD.z [62,63] Z (q_add Z Z Z oQ) ?_
  refine TD.ix [61,64] ?_
  refine TD.y [65] Z (hq:=zm Z Z zi.h (mC _) (jA (i:=F+c) oQ oQ)) (h:=?_)
  refine TD.mv [0] ?_
  refine TD.mv [3] ?_
  refine TD.mv [8] ?_
  refine TD.z [68,69] Z (q_add Z Z Z oQ) ?_
  refine TD.ix [67,70] ?_
  refine TD.y [71] Z (hq:=zm Z Z zi.h (mC _) (jA (i:=F+root) oQ oQ)) (h:=?_)
  refine TD.ix [53,56] ?_
  refine TD.s (pend':=[⟨18,[67,70],[]⟩,⟨17,[68,69],[]⟩,⟨16,[8],[]⟩,⟨15,[3],[]⟩,⟨14,[0],[]⟩,⟨7,[58,59],[]⟩,⟨6,[9],[]⟩,⟨5,[3],[]⟩,⟨4,[0],[]⟩]) [66,73] Z Z (zX Z Z zi.h Z Z mQ (jB (k:=F+root) oQ oQ)) ?_
  refine TD.ix [57,60] ?_
  refine TD.s (pend':=[]) [72,74] Z Z (zX Z Z zi.h Z Z mQ (jC (i:=F+root) (j:=F+c) oQ oQ)) ?_
  refine TD.fin ?_
  refine au [5,1,2,3,14] ?_
  refine TK.maskL [0,2,3,8] ?_
  refine TK.kp [(j,_)] ?_
  exact hnext _ _ _ oQ ⟨c,swp d1 (F+root) (F+c),rfl,oQ,jD hs1,hq.symm,rfl,rfl⟩
instance:Cal tp 218:={}
theorem qr {main T} (hT:zo tp main T) {gm} {j n a b:Nat} {d:Array Int} (hd:d.size=n) (hn:n<=1000) (hab:a<b) (hb:b<=n) :
  zA tp T gm 189 [.sl j 0 n,intA a,intA b] [(j,.row (d.toList.map intA) 3 1)] (fun r K'=>K'=[(j,.row ((heapSort ltInt d a b).toList.map intA) 3 1)]):=by
 refine zp 56 hT Tryz.func189 fun Y hret=>?_
 refine au [4,5,1,2,3,4,5,2,3,4,5,1,1,24,2,3,4,4] ?_
 rw [show (b:Int) - (a:Int)=((b - a:Nat):Int) by omega]
 refine au [5,1,24] ?_
 refine TK.a Z (jI Z Z Z oQ oQ oQ) ?_
 refine au [2,3,13] ?_
 refine TK.maskL [0,6,7,8,9] ?_
 refine TK.loopN (fun n1 env K=>∃ (k:Nat) (d1:Array Int),n1=k/\k<=b - a/\d1.size=n/\heapPop ltInt a (b - a) (heapBuild ltInt (b - a) a k d1)=heapSort ltInt d a b/\env=.sl j 0 n::naL 5 (intA a::intA 0::intA (b - a:Nat)::intA ((k:Int) - 1)::naL 46 [])/\K=[(j,.row (d1.toList.map intA) 3 1)]) ((b - a - 1) / 2+1) ⟨(b - a - 1) / 2+1,d,rfl,oQ,hd,rfl,by rw [show (((b - a:Nat):Int) - 1) / 2=(((b - a - 1) / 2+1:Nat):Int) - 1 by omega] <;> rfl,rfl⟩ fun n1 env K hI hnext=>?_
 obtain ⟨k,d1,hnk,hk,hs1,heq,rfl,rfl⟩:=hI
 subst n1
 refine TK.na nQ ?_
 refine au [4,4,5,1,6,3,20] ?_
 refine ⟨fun hc0=>?_,fun hc0=>?_⟩
 ·obtain ⟨q,rfl⟩:∃ q,k=q+1:=⟨k - 1,by simp at hc0; omega⟩
  rw [show ((q+1:Nat):Int) - 1=(q:Int) by omega]
  refine au [12,4,13,5,1,1,1,1] ?_
  refine TK.cl Z Z Z Z (xw hT (d:=d1) (lo:=q) (hi:=b - a) (F:=a) hs1 hn oQ oQ) ?_
  rintro r1 K2 rfl
  refine au [3,14,5,1,24,2,3] ?_
  refine TK.maskL [0,6,7,8,9] ?_
  refine TK.kp [(j,_)] ?_
  exact hnext _ _ _ oQ ⟨q,siftDown ltInt (b - a) a q d1,rfl,oQ,by rw [xP]; exact hs1,heq,rfl,rfl⟩
 obtain rfl:k=0:=by simp at hc0; omega
 refine au [16,4,5,1,24,2,3,13] ?_
 refine TK.maskL [0,6,7,8,10] ?_
 refine TK.loopN (fun n1 env K=>∃ (k:Nat) (d2:Array Int),n1=k/\k<=b - a/\d2.size=n/\heapPop ltInt a k d2=heapSort ltInt d a b/\env=.sl j 0 n::naL 5 (intA a::intA 0::intA (b - a:Nat)::.any::intA ((k:Int) - 1)::naL 45 [])/\K=[(j,.row (d2.toList.map intA) 3 1)]) (b - a) ⟨b - a,d1,rfl,mL _,hs1,heq,rfl,rfl⟩ fun n1 env K hI hnext1=>?_
 obtain ⟨k,d2,hnk2,hk2,hs2,heq2,rfl,rfl⟩:=hI
 subst n1
 refine TK.na nQ ?_
 refine au [4,4,5,1,6,3,20] ?_
 refine ⟨fun hc1=>?_,fun hc1=>?_⟩
 ·obtain ⟨q,rfl⟩:∃ q,k=q+1:=⟨k - 1,by simp at hc1; omega⟩
  rw [show ((q+1:Nat):Int) - 1=(q:Int) by omega]
  refine au [12,4,13,4] ?_
  refine TK.dr [0,1,2,3,4,5,6,7,8,9,10,11,12,13,14,15,16,17,18,19] [0,1,6,7,8,9,10,11,12,13,14,15,16,17,2,3,4,5,18,19] ?_
  refine TD.mv [0] ?_
  refine TD.mv [6] ?_
  refine TD.mv [0] ?_
  refine TD.mv [6] ?_
  refine TD.mv [10] ?_
  refine TD.z [36,37] Z (q_add Z Z Z oQ) ?_
  refine TD.mv [0] ?_
  refine TD.mv [6] ?_
  refine TD.mv [10] ?_
  refine TD.z [40,41] Z (q_add Z Z Z oQ) ?_
  refine TD.ix [39,42] ?_
  refine TD.y [43] Z (hq:=zm Z Z zi.h (mC _) (jA (i:=a+q) oQ oQ)) (h:=?_)
  refine TD.mv [0] ?_
  refine TD.mv [6] ?_
  refine TD.ix [45,46] ?_
  refine TD.y [47] Z (hq:=zm Z Z zi.h (mC _) (jA (i:=a) oQ oQ)) (h:=?_)
  refine TD.ix [33,34] ?_
  refine TD.s (pend':=[⟨14,[45,46],[]⟩,⟨13,[6],[]⟩,⟨12,[0],[]⟩,⟨5,[36,37],[]⟩,⟨4,[10],[]⟩,⟨3,[6],[]⟩,⟨2,[0],[]⟩]) [44,49] Z Z (zX Z Z zi.h Z Z mQ (jB (k:=a) oQ oQ)) ?_
  refine TD.ix [35,38] ?_
  refine TD.s (pend':=[]) [48,50] Z Z (zX Z Z zi.h Z Z mQ (jC (i:=a) (j:=a+q) oQ oQ)) ?_
  refine TD.fin ?_
  refine au [5,1,1,1,1] ?_
  refine TK.cl Z Z Z Z (xw hT (d:=swp d2 a (a+q)) (lo:=0) (hi:=q) (F:=a) (jD hs2) hn oQ oQ) ?_
  rintro r4 K5 rfl
  refine au [3,14,5,1,24,2,3] ?_
  refine TK.maskL [0,6,7,8,10] ?_
  refine TK.kp [(j,_)] ?_
  exact hnext1 _ _ _ oQ ⟨q,siftDown ltInt q a 0 (swp d2 a (a+q)),rfl,oQ,by rw [xP]; exact jD hs2,heq2,rfl,rfl⟩
 obtain rfl:k=0:=by simp at hc1; omega
 refine au [16] ?_
 refine TK.rt0 hret [(j,_)] ?_
 rw [<- heq2]; rfl
end Go.Vel
namespace Go.Vel
open Go Go.Conc Go.Sort
section
variable {p:Int->Bool} {a b i j q u v u2 v2 pv:Nat} {d d1 d2:Array Int}
theorem up_go (h:i<=j) (hp:p d[i]! =true):scanUp p d j i=scanUp p d j (i+1):=by
 conv=>lhs; unfold scanUp
 rw [if_pos (by simp [h,hp])]
theorem jK (h:¬ i<=j\/p d[i]! =false):scanUp p d j i=i:=by
 unfold scanUp
 rw [if_neg (by rcases h with h | h <;> simp [h])]
theorem xa (h:i<=q+1) (hp:p d[q+1]! =true):scanDown p d i (q+1)=scanDown p d i q:=by
 conv=>lhs; unfold scanDown
 rw [if_pos (by simp [h,hp])]
theorem jF (h:¬ i<=q\/p d[q]! =false):scanDown p d i q=q:=by
 cases q with
 | zero=>rfl
 | succ q =>
  unfold scanDown
  rw [if_neg (by rcases h with h | h <;> simp [h])]
theorem jam (hd:d1=swp d a pv) (hu:scanUp (fun x=>ltInt x d1[a]!) d1 (b - 1) (a+1)=u) (hv:scanDown (fun x => !ltInt x d1[a]!) d1 u (b - 1)=v) (h:v<u):partition ltInt d a b pv=(v,true,swp d1 v a):=by
 subst hd
 unfold partition
 simp only []
 rw [hu,hv,if_pos h]
theorem jan (hd:d1=swp d a pv) (hu:scanUp (fun x=>ltInt x d1[a]!) d1 (b - 1) (a+1)=u) (hv:scanDown (fun x => !ltInt x d1[a]!) d1 u (b - 1)=v) (h:¬ v<u) (hl:partLoop ltInt a (u+1) (v - 1) (swp d1 u v)=(v2,d2)):partition ltInt d a b pv=(v2,false,swp d2 v2 a):=by
 subst hd
 unfold partition
 simp only []
 rw [hu,hv,if_neg h,hl]
theorem jap (hu:scanUp (fun x=>ltInt x d[a]!) d v u=u2) (hv:scanDown (fun x => !ltInt x d[a]!) d u2 v=v2) (h:v2<u2):partLoop ltInt a u v d=(v2,d):=by
 rw [partLoop_eq,hu,hv]
 exact if_pos h
theorem pl_go (hu:scanUp (fun x=>ltInt x d[a]!) d v u=u2) (hv:scanDown (fun x => !ltInt x d[a]!) d u2 v=v2) (h:¬ v2<u2):partLoop ltInt a u v d=partLoop ltInt a (u2+1) (v2 - 1) (swp d u2 v2):=by
 conv=>lhs; rw [partLoop_eq,hu,hv]
 exact if_neg h
theorem jao (hu:scanUp (fun x => !ltInt d[a]! x) d v u=u2) (hv:scanDown (fun x=>ltInt d[a]! x) d u2 v=v2) (h:v2<u2):partEqLoop ltInt a u v d=(u2,d):=by
 rw [partEqLoop_eq,hu,hv]
 exact if_pos h
theorem pe_go (hu:scanUp (fun x => !ltInt d[a]! x) d v u=u2) (hv:scanDown (fun x=>ltInt d[a]! x) d u2 v=v2) (h:¬ v2<u2):partEqLoop ltInt a u v d=partEqLoop ltInt a (u2+1) (v2 - 1) (swp d u2 v2):=by
 conv=>lhs; rw [partEqLoop_eq,hu,hv]
 exact if_neg h
end
end Go.Vel
namespace Go.Vel
open Go Go.Conc Go.Proofs
open Go.Sort
theorem qx {main T} (hT:zo tp main T) {gm} {j n a b pv:Nat} {d:Array Int} (hd:d.size=n) (hn:n<=1000) (ha:a<=pv) (hpv:pv<b) (hb:b<=n) :
  zA tp T gm 196 [.sl j 0 n,intA a,intA b,intA pv] [(j,.row (d.toList.map intA) 3 1)] (fun r K'=>∃ p,partition ltInt d a b pv=p/\r=.tup [intA p.1,zP p.2.1]/\K'=[(j,.row (p.2.2.toList.map intA) 3 1)]):=by
 refine zp 168 hT Tryz.func196 fun Y hret=>?_
 refine au [4,5,2,2,3,4] ?_
 refine TK.dr [0,1,2,3,4,5,6,7,8,9,10,11,12,13,14,15] [0,1,4,5,6,7,8,9,10,11,12,13,2,3,14,15] ?_
 refine TD.mv [0] ?_
 refine TD.mv [1] ?_
 refine TD.mv [0] ?_
 refine TD.mv [3] ?_
 refine TD.mv [0] ?_
 refine TD.mv [3] ?_
 refine TD.ix [16,17] ?_
 refine TD.y [18] Z (hq:=zm Z Z zi.h (mC _) (jA (i:=pv) oQ oQ)) (h:=?_)
 refine TD.mv [0] ?_
 refine TD.mv [1] ?_
 refine TD.ix [20,21] ?_
 refine TD.y [22] Z (hq:=zm Z Z zi.h (mC _) (jA (i:=a) oQ oQ)) (h:=?_)
 refine TD.ix [12,13] ?_
 refine TD.s (pend':=[⟨10,[20,21],[]⟩,⟨9,[1],[]⟩,⟨8,[0],[]⟩,⟨3,[3],[]⟩,⟨2,[0],[]⟩]) [19,24] Z Z (zX Z Z zi.h Z Z mQ (jB (k:=a) oQ oQ)) ?_
 refine TD.ix [14,15] ?_
 refine TD.s (pend':=[]) [23,25] Z Z (zX Z Z zi.h Z Z mQ (jC (i:=a) (j:=pv) oQ oQ)) ?_
 refine TD.fin ?_
 refine au [4] ?_
 obtain ⟨d1,hd1⟩:∃ d1,d1=swp d a pv:=⟨_,rfl⟩
 rw [<- hd1]
 have hs1:d1.size=n:=by rw [hd1]; exact jD hd
 refine au [5,1,23,1,24,2,2,3,4,13] ?_
 refine TK.maskL [0,1,10,11] ?_
 refine TK.loopN (fun n1 env K=>∃ (u:Nat),n1=b - u/\a+1<=u/\u<=b/\scanUp (fun x=>ltInt x d1[a]!) d1 (b - 1) u=scanUp (fun x=>ltInt x d1[a]!) d1 (b - 1) (a+1)/\env=.sl j 0 n::intA a::naL 8 (intA u::intA (b - 1:Nat)::naL 156 [])/\K=[(j,.row (d1.toList.map intA) 3 1)]) (b - (a+1)) ⟨a+1,rfl,mL _,oQ,rfl,by rw [show (b:Int) - 1=((b - 1:Nat):Int) by omega] <;> rfl,rfl⟩ fun n1 env K hI hnextu=>?_
 obtain ⟨u,rfl,hu0,hub,heqs,rfl,rfl⟩:=hI
 refine TK.na nQ ?_
 refine au [4,4] ?_
 refine' TK.shr (X:=Unit) (D:=fun x=>scanUp (fun x=>ltInt x d1[a]!) d1 (b - 1) (a+1)=u) (E:=fun x=>.sl j 0 n::intA a::naL 8 (intA u::intA (b - 1:Nat)::naL 156 [])) (KK:=fun x=>[(j,.row (d1.toList.map intA) 3 1)]) ?_ ?_
 rotate_left
 ·intro H
  refine TK.dr [0,1,2,3,4,5,6,7,8,9,10,11,12,13] [0,1,2,3,4,5,6,7,8,9,10,11,12,13] ?_
  refine TD.mv [10] ?_
  refine TD.mv [11] ?_
  refine TD.z [30,31] Z (q_cmp Z Z Z Z) ?_
  refine TD.mv [32] ?_
  refine TD.sp 33 (fun g3_4=>?_) (fun g3_4=>?_)
  ·have hg:u<=b - 1:=by simp at g3_4; omega
   refine TD.mv [0,33] ?_
   refine TD.mv [10,33] ?_
   refine TD.ix [33,34,35] ?_
   refine TD.y [33,36] Z (hq:=zm Z Z zi.h (mC _) (jA (i:=u) oQ oQ)) (h:=?_)
   refine TD.mv [0,33] ?_
   refine TD.mv [1,33] ?_
   refine TD.ix [33,38,39] ?_
   refine TD.y [33,40] Z (hq:=zm Z Z zi.h (mC _) (jA (i:=a) oQ oQ)) (h:=?_)
   refine TD.cl (pend':=[⟨10,[33,38,39],[]⟩,⟨9,[1,33],[]⟩,⟨8,[0,33],[]⟩,⟨6,[33,34,35],[]⟩,⟨5,[10,33],[]⟩,⟨4,[0,33],[]⟩,⟨2,[30,31],[]⟩,⟨1,[11],[]⟩,⟨0,[10],[]⟩]) [33,37,41] Z Z Z Z Z (zg9 hT) (fun r1 K2 h3=>⟨?_,?_⟩)
   ·rcases h3 with ⟨rfl,rfl⟩
    all_goals simp
   obtain ⟨rfl,rfl⟩:=h3
   try simp only [cA]
   refine TD.norm tQ ?_
   refine TD.z [33,42] Z (yE Z Z Z) ?_
   refine TD.fin ?_
   refine au [20] ?_
   refine ⟨fun hc0=>?_,fun hc0=>?_⟩
   ·rw [up_go (p:=(fun x=>ltInt x d1[a]!)) hg hc0] at heqs
    refine au [12,13,5,1,23,2,3,14] ?_
    refine TK.maskL [0,1,10,11] ?_
    refine TK.kp [(j,_)] ?_
    exact hnextu _ _ _ oQ ⟨u+1,rfl,oQ,oQ,heqs,rfl,rfl⟩
   have hfin:scanUp (fun x=>ltInt x d1[a]!) d1 (b - 1) (a+1)=u:=by rw [<- heqs]; exact jK (p:=(fun x=>ltInt x d1[a]!)) (.inr hc0)
   refine au [16,4,13] ?_
   refine TK.maskL [0,1,10,11] ?_
   refine TK.maskL [0,1,10,11] ?_
   refine TK.kp [(j,_)] ?_
   exact H () hfin
  have hfin:scanUp (fun x=>ltInt x d1[a]!) d1 (b - 1) (a+1)=u:=by rw [<- heqs]; exact jK (.inl (by simp at g3_4; omega))
  refine TD.u [0,33] Z ?_
  refine TD.u [10,33] Z ?_
  refine TD.u [33,34,35] Z ?_
  refine TD.u [33,36] Z ?_
  refine TD.u [0,33] Z ?_
  refine TD.u [1,33] Z ?_
  refine TD.u [33,38,39] Z ?_
  refine TD.u [33,40] Z ?_
  refine TD.u [33,37,41] Z ?_
  refine TD.z [33,42] Z (yf Z Z Z) ?_
  refine TD.fin ?_
  refine au [19,16,4,13] ?_
  refine TK.maskL [0,1,10,11] ?_
  refine TK.maskL [0,1,10,11] ?_
  refine TK.kp [(j,_)] ?_
  exact H () hfin
 ·rintro _ hup
  refine TK.na nQ ?_
  refine TK.loopN (fun n1 env K=>∃ (v:Nat),n1=v/\v<=b - 1/\scanDown (fun x => !ltInt x d1[a]!) d1 u v=scanDown (fun x => !ltInt x d1[a]!) d1 u (b - 1)/\env=.sl j 0 n::intA a::naL 8 (intA u::intA v::naL 156 [])/\K=[(j,.row (d1.toList.map intA) 3 1)]) (b - 1) ⟨b - 1,rfl,mL _,rfl,rfl,rfl⟩ fun n1 env K hI hnextv=>?_
  obtain ⟨v,hnv,hvb,heqs,rfl,rfl⟩:=hI
  subst n1
  refine TK.na nQ ?_
  refine au [4,4] ?_
  refine' TK.shr (X:=Unit) (D:=fun x=>scanDown (fun x => !ltInt x d1[a]!) d1 u (b - 1)=v) (E:=fun x=>.sl j 0 n::intA a::naL 8 (intA u::intA v::naL 156 [])) (KK:=fun x=>[(j,.row (d1.toList.map intA) 3 1)]) ?_ ?_
  rotate_left
  ·intro H
   refine TK.dr [0,1,2,3,4,5,6,7,8,9,10,11,12,13,14] [0,1,2,3,4,5,6,7,8,9,10,11,12,13,14] ?_
   refine TD.mv [10] ?_
   refine TD.mv [11] ?_
   refine TD.z [46,47] Z (q_cmp Z Z Z Z) ?_
   refine TD.mv [48] ?_
   refine TD.sp 49 (fun g5_4=>?_) (fun g5_4=>?_)
   ·have hg:u<=v:=by simp at g5_4; omega
    obtain ⟨q,rfl⟩:∃ q,v=q+1:=⟨v - 1,oQ⟩
    refine TD.mv [0,49] ?_
    refine TD.mv [11,49] ?_
    refine TD.ix [49,50,51] ?_
    refine TD.y [49,52] Z (hq:=zm Z Z zi.h (mC _) (jA (i:=q+1) oQ oQ)) (h:=?_)
    refine TD.mv [0,49] ?_
    refine TD.mv [1,49] ?_
    refine TD.ix [49,54,55] ?_
    refine TD.y [49,56] Z (hq:=zm Z Z zi.h (mC _) (jA (i:=a) oQ oQ)) (h:=?_)
    refine TD.cl (pend':=[⟨10,[49,54,55],[]⟩,⟨9,[1,49],[]⟩,⟨8,[0,49],[]⟩,⟨6,[49,50,51],[]⟩,⟨5,[11,49],[]⟩,⟨4,[0,49],[]⟩,⟨2,[46,47],[]⟩,⟨1,[11],[]⟩,⟨0,[10],[]⟩]) [49,53,57] Z Z Z Z Z (zg9 hT) (fun r25 K26 h27=>⟨?_,?_⟩)
    ·rcases h27 with ⟨rfl,rfl⟩
     all_goals simp
    obtain ⟨rfl,rfl⟩:=h27
    try simp only [cA]
    refine TD.norm tQ ?_
    refine TD.z [49,58] Z (q_not Z Z) ?_
    refine TD.z [49,59] Z (yE Z Z Z) ?_
    refine TD.fin ?_
    refine au [20] ?_
    refine ⟨fun hc1=>?_,fun hc1=>?_⟩
    ·rw [xa (p:=(fun x => !ltInt x d1[a]!)) hg hc1] at heqs
     refine au [12,13,5,1,24,2,3,14] ?_
     refine TK.maskL [0,1,10,11] ?_
     refine TK.kp [(j,_)] ?_
     exact hnextv _ _ _ oQ ⟨q,rfl,oQ,heqs,by rw [show ((q+1:Nat):Int) - 1=(q:Int) by omega]; rfl,rfl⟩
    have hfin:scanDown (fun x => !ltInt x d1[a]!) d1 u (b - 1)=q+1:=by rw [<- heqs]; exact jF (p:=(fun x => !ltInt x d1[a]!)) (.inr hc1)
    refine au [16,4,4] ?_
    refine TK.maskL [0,1,10,11] ?_
    refine TK.kp [(j,_)] ?_
    exact H () hfin
   have hfin:scanDown (fun x => !ltInt x d1[a]!) d1 u (b - 1)=v:=by rw [<- heqs]; exact jF (.inl (by simp at g5_4; omega))
   refine TD.u [0,49] Z ?_
   refine TD.u [11,49] Z ?_
   refine TD.u [49,50,51] Z ?_
   refine TD.u [49,52] Z ?_
   refine TD.u [0,49] Z ?_
   refine TD.u [1,49] Z ?_
   refine TD.u [49,54,55] Z ?_
   refine TD.u [49,56] Z ?_
   refine TD.u [49,53,57] Z ?_
   refine TD.u [49,58] Z ?_
   refine TD.z [49,59] Z (yf Z Z Z) ?_
   refine TD.fin ?_
   refine au [19,16,4,4] ?_
   refine TK.maskL [0,1,10,11] ?_
   refine TK.kp [(j,_)] ?_
   exact H () hfin
  ·rintro _ hdn
   refine TK.na nQ ?_
   refine au [5,1,1,6,3,20] ?_
   refine ⟨fun hc2=>?_,fun hc2=>?_⟩
   ·have hlt:v<u:=by simp at hc2; omega
    refine au [4] ?_
    refine TK.dr [0,1,2,3,4,5,6,7,8,9,10,11,12,13,14,15] [0,1,4,5,6,7,8,9,10,11,12,13,2,3,14,15] ?_
    refine TD.mv [0] ?_
    refine TD.mv [11] ?_
    refine TD.mv [0] ?_
    refine TD.mv [1] ?_
    refine TD.mv [0] ?_
    refine TD.mv [1] ?_
    refine TD.ix [70,71] ?_
    refine TD.y [72] Z (hq:=zm Z Z zi.h (mC _) (jA (i:=a) oQ oQ)) (h:=?_)
    refine TD.mv [0] ?_
    refine TD.mv [11] ?_
    refine TD.ix [74,75] ?_
    refine TD.y [76] Z (hq:=zm Z Z zi.h (mC _) (jA (i:=v) oQ oQ)) (h:=?_)
    refine TD.ix [66,67] ?_
    refine TD.s (pend':=[⟨10,[74,75],[]⟩,⟨9,[11],[]⟩,⟨8,[0],[]⟩,⟨3,[1],[]⟩,⟨2,[0],[]⟩]) [73,78] Z Z (zX Z Z zi.h Z Z mQ (jB (k:=v) oQ oQ)) ?_
    refine TD.ix [68,69] ?_
    refine TD.s (pend':=[]) [77,79] Z Z (zX Z Z zi.h Z Z mQ (jC (i:=v) (j:=a) oQ oQ)) ?_
    refine TD.fin ?_
    refine au [4,5,1,2,2,3] ?_
    refine TK.rt hret [(j,_)] ?_
    exact ⟨_,jam hd1 hup hdn hlt,rfl,rfl⟩
   have hge:¬ v<u:=by simp at hc2; omega
   refine au [12,4] ?_
   refine TK.dr [0,1,2,3,4,5,6,7,8,9,10,11,12,13,14,15] [0,1,4,5,6,7,8,9,10,11,12,13,2,3,14,15] ?_
   refine TD.mv [0] ?_
   refine TD.mv [10] ?_
   refine TD.mv [0] ?_
   refine TD.mv [11] ?_
   refine TD.mv [0] ?_
   refine TD.mv [11] ?_
   refine TD.ix [85,86] ?_
   refine TD.y [87] Z (hq:=zm Z Z zi.h (mC _) (jA (i:=v) oQ oQ)) (h:=?_)
   refine TD.mv [0] ?_
   refine TD.mv [10] ?_
   refine TD.ix [89,90] ?_
   refine TD.y [91] Z (hq:=zm Z Z zi.h (mC _) (jA (i:=u) oQ oQ)) (h:=?_)
   refine TD.ix [81,82] ?_
   refine TD.s (pend':=[⟨10,[89,90],[]⟩,⟨9,[10],[]⟩,⟨8,[0],[]⟩,⟨3,[11],[]⟩,⟨2,[0],[]⟩]) [88,93] Z Z (zX Z Z zi.h Z Z mQ (jB (k:=u) oQ oQ)) ?_
   refine TD.ix [83,84] ?_
   refine TD.s (pend':=[]) [92,94] Z Z (zX Z Z zi.h Z Z mQ (jC (i:=u) (j:=v) oQ oQ)) ?_
   refine TD.fin ?_
   refine au [4,5,1,23,2,3,4,5,1,24,2,3,4,13] ?_
   refine TK.maskL [0,1,10,11] ?_
   obtain ⟨u0,hu0e⟩:∃ u0,u0=u:=⟨_,rfl⟩
   obtain ⟨v0,hv0e⟩:∃ v0,v0=v:=⟨_,rfl⟩
   have hup0:=hup
   have hdn0:=hdn
   have hge0:=hge
   rw [<- hu0e,<- hv0e] at hdn0 hge0
   rw [<- hu0e] at hup0
   refine TK.loopN (fun n1 env K=>∃ (u2 v2:Nat) (d2:Array Int),n1=v2+1 - u2/\a<u2/\u2<=b/\v2<b/\d2.size=n/\partLoop ltInt a u2 v2 d2=partLoop ltInt a (u0+1) (v0 - 1) (swp d1 u0 v0)/\env=.sl j 0 n::intA a::naL 8 (intA u2::intA v2::naL 156 [])/\K=[(j,.row (d2.toList.map intA) 3 1)]) (v - 1+1 - (u+1)) ⟨u+1,v - 1,swp d1 u v,rfl,oQ,oQ,oQ,jD hs1,by rw [hu0e,hv0e],by rw [show (v:Int) - 1=((v - 1:Nat):Int) by omega] <;> rfl,rfl⟩ fun n1 env K hI hnext2=>?_
   clear hup hdn hge
   obtain ⟨u2,v2,d2,rfl,hau,hub2,hvb2,hs2,heq2,rfl,rfl⟩:=hI
   refine TK.na nQ ?_
   refine au [13,4,13] ?_
   refine TK.maskL [0,1,10,11] ?_
   refine TK.loopN (fun n1 env K=>∃ (u:Nat),n1=b - u/\u2<=u/\u<=b/\scanUp (fun x=>ltInt x d2[a]!) d2 (v2) u=scanUp (fun x=>ltInt x d2[a]!) d2 (v2) (u2)/\env=.sl j 0 n::intA a::naL 8 (intA u::intA v2::naL 156 [])/\K=[(j,.row (d2.toList.map intA) 3 1)]) (b - (u2)) ⟨u2,rfl,mL _,oQ,rfl,rfl,rfl⟩ fun n1 env K hI hnextu=>?_
   obtain ⟨u,rfl,hu0,hub,heqs,rfl,rfl⟩:=hI
   refine TK.na nQ ?_
   refine au [4,4] ?_
   refine' TK.shr (X:=Unit) (D:=fun x=>scanUp (fun x=>ltInt x d2[a]!) d2 (v2) (u2)=u) (E:=fun x=>.sl j 0 n::intA a::naL 8 (intA u::intA v2::naL 156 [])) (KK:=fun x=>[(j,.row (d2.toList.map intA) 3 1)]) ?_ ?_
   rotate_left
   ·intro H
    refine TK.dr [0,1,2,3,4,5,6,7,8,9,10,11,12,13] [0,1,2,3,4,5,6,7,8,9,10,11,12,13] ?_
    refine TD.mv [10] ?_
    refine TD.mv [11] ?_
    refine TD.z [99,100] Z (q_cmp Z Z Z Z) ?_
    refine TD.mv [101] ?_
    refine TD.sp 102 (fun g13_4=>?_) (fun g13_4=>?_)
    ·have hg:u<=v2:=by simp at g13_4; omega
     refine TD.mv [0,102] ?_
     refine TD.mv [10,102] ?_
     refine TD.ix [102,103,104] ?_
     refine TD.y [102,105] Z (hq:=zm Z Z zi.h (mC _) (jA (i:=u) oQ oQ)) (h:=?_)
     refine TD.mv [0,102] ?_
     refine TD.mv [1,102] ?_
     refine TD.ix [102,107,108] ?_
     refine TD.y [102,109] Z (hq:=zm Z Z zi.h (mC _) (jA (i:=a) oQ oQ)) (h:=?_)
     refine TD.cl (pend':=[⟨10,[102,107,108],[]⟩,⟨9,[1,102],[]⟩,⟨8,[0,102],[]⟩,⟨6,[102,103,104],[]⟩,⟨5,[10,102],[]⟩,⟨4,[0,102],[]⟩,⟨2,[99,100],[]⟩,⟨1,[11],[]⟩,⟨0,[10],[]⟩]) [102,106,110] Z Z Z Z Z (zg9 hT) (fun r37 K38 h39=>⟨?_,?_⟩)
     ·rcases h39 with ⟨rfl,rfl⟩
      all_goals simp
     obtain ⟨rfl,rfl⟩:=h39
     try simp only [cA]
     refine TD.norm tQ ?_
     refine TD.z [102,111] Z (yE Z Z Z) ?_
     refine TD.fin ?_
     refine au [20] ?_
     refine ⟨fun hc3=>?_,fun hc3=>?_⟩
     ·rw [up_go (p:=(fun x=>ltInt x d2[a]!)) hg hc3] at heqs
      refine au [12,13,5,1,23,2,3,14] ?_
      refine TK.maskL [0,1,10,11] ?_
      refine TK.kp [(j,_)] ?_
      exact hnextu _ _ _ oQ ⟨u+1,rfl,oQ,oQ,heqs,rfl,rfl⟩
     have hfin:scanUp (fun x=>ltInt x d2[a]!) d2 (v2) (u2)=u:=by rw [<- heqs]; exact jK (p:=(fun x=>ltInt x d2[a]!)) (.inr hc3)
     refine au [16,4,13] ?_
     refine TK.maskL [0,1,10,11] ?_
     refine TK.maskL [0,1,10,11] ?_
     refine TK.kp [(j,_)] ?_
     exact H () hfin
    have hfin:scanUp (fun x=>ltInt x d2[a]!) d2 (v2) (u2)=u:=by rw [<- heqs]; exact jK (.inl (by simp at g13_4; omega))
    refine TD.u [0,102] Z ?_
    refine TD.u [10,102] Z ?_
    refine TD.u [102,103,104] Z ?_
    refine TD.u [102,105] Z ?_
    refine TD.u [0,102] Z ?_
    refine TD.u [1,102] Z ?_
    refine TD.u [102,107,108] Z ?_
    refine TD.u [102,109] Z ?_
    refine TD.u [102,106,110] Z ?_
    refine TD.z [102,111] Z (yf Z Z Z) ?_
    refine TD.fin ?_
    refine au [19,16,4,13] ?_
    refine TK.maskL [0,1,10,11] ?_
    refine TK.maskL [0,1,10,11] ?_
    refine TK.kp [(j,_)] ?_
    exact H () hfin
   ·rintro _ hup
    refine TK.na nQ ?_
    refine TK.loopN (fun n1 env K=>∃ (v:Nat),n1=v/\v<=v2/\scanDown (fun x => !ltInt x d2[a]!) d2 u v=scanDown (fun x => !ltInt x d2[a]!) d2 u (v2)/\env=.sl j 0 n::intA a::naL 8 (intA u::intA v::naL 156 [])/\K=[(j,.row (d2.toList.map intA) 3 1)]) (v2) ⟨v2,rfl,mL _,rfl,rfl,rfl⟩ fun n1 env K hI hnextv=>?_
    obtain ⟨v,hnv,hvb,heqs,rfl,rfl⟩:=hI
    subst n1
    refine TK.na nQ ?_
    refine au [4,4] ?_
    refine' TK.shr (X:=Unit) (D:=fun x=>scanDown (fun x => !ltInt x d2[a]!) d2 u (v2)=v) (E:=fun x=>.sl j 0 n::intA a::naL 8 (intA u::intA v::naL 156 [])) (KK:=fun x=>[(j,.row (d2.toList.map intA) 3 1)]) ?_ ?_
    rotate_left
    ·intro H
     refine TK.dr [0,1,2,3,4,5,6,7,8,9,10,11,12,13,14] [0,1,2,3,4,5,6,7,8,9,10,11,12,13,14] ?_
     refine TD.mv [10] ?_
     refine TD.mv [11] ?_
     refine TD.z [115,116] Z (q_cmp Z Z Z Z) ?_
     refine TD.mv [117] ?_
     refine TD.sp 118 (fun g15_4=>?_) (fun g15_4=>?_)
     ·have hg:u<=v:=by simp at g15_4; omega
      obtain ⟨q,rfl⟩:∃ q,v=q+1:=⟨v - 1,oQ⟩
      refine TD.mv [0,118] ?_
      refine TD.mv [11,118] ?_
      refine TD.ix [118,119,120] ?_
      refine TD.y [118,121] Z (hq:=zm Z Z zi.h (mC _) (jA (i:=q+1) oQ oQ)) (h:=?_)
      refine TD.mv [0,118] ?_
      refine TD.mv [1,118] ?_
      refine TD.ix [118,123,124] ?_
      refine TD.y [118,125] Z (hq:=zm Z Z zi.h (mC _) (jA (i:=a) oQ oQ)) (h:=?_)
      refine TD.cl (pend':=[⟨10,[118,123,124],[]⟩,⟨9,[1,118],[]⟩,⟨8,[0,118],[]⟩,⟨6,[118,119,120],[]⟩,⟨5,[11,118],[]⟩,⟨4,[0,118],[]⟩,⟨2,[115,116],[]⟩,⟨1,[11],[]⟩,⟨0,[10],[]⟩]) [118,122,126] Z Z Z Z Z (zg9 hT) (fun r43 K44 h45=>⟨?_,?_⟩)
      ·rcases h45 with ⟨rfl,rfl⟩
       all_goals simp
      obtain ⟨rfl,rfl⟩:=h45
      try simp only [cA]
      refine TD.norm tQ ?_
      refine TD.z [118,127] Z (q_not Z Z) ?_
      refine TD.z [118,128] Z (yE Z Z Z) ?_
      refine TD.fin ?_
      refine au [20] ?_
      refine ⟨fun hc4=>?_,fun hc4=>?_⟩
      ·rw [xa (p:=(fun x => !ltInt x d2[a]!)) hg hc4] at heqs
       refine au [12,13,5,1,24,2,3,14] ?_
       refine TK.maskL [0,1,10,11] ?_
       refine TK.kp [(j,_)] ?_
       exact hnextv _ _ _ oQ ⟨q,rfl,oQ,heqs,by rw [show ((q+1:Nat):Int) - 1=(q:Int) by omega]; rfl,rfl⟩
      have hfin:scanDown (fun x => !ltInt x d2[a]!) d2 u (v2)=q+1:=by rw [<- heqs]; exact jF (p:=(fun x => !ltInt x d2[a]!)) (.inr hc4)
      refine au [16,4,4] ?_
      refine TK.maskL [0,1,10,11] ?_
      refine TK.kp [(j,_)] ?_
      exact H () hfin
     have hfin:scanDown (fun x => !ltInt x d2[a]!) d2 u (v2)=v:=by rw [<- heqs]; exact jF (.inl (by simp at g15_4; omega))
     refine TD.u [0,118] Z ?_
     refine TD.u [11,118] Z ?_
     refine TD.u [118,119,120] Z ?_
     refine TD.u [118,121] Z ?_
     refine TD.u [0,118] Z ?_
     refine TD.u [1,118] Z ?_
     refine TD.u [118,123,124] Z ?_
     refine TD.u [118,125] Z ?_
     refine TD.u [118,122,126] Z ?_
     refine TD.u [118,127] Z ?_
     refine TD.z [118,128] Z (yf Z Z Z) ?_
     refine TD.fin ?_
     refine au [19,16,4,4] ?_
     refine TK.maskL [0,1,10,11] ?_
     refine TK.kp [(j,_)] ?_
     exact H () hfin
    ·rintro _ hdn
     refine TK.na nQ ?_
     refine au [5,1,1,6,3,20] ?_
     refine ⟨fun hc5=>?_,fun hc5=>?_⟩
     ·have hlt:v<u:=by simp at hc5; omega
      refine au [16,4] ?_
      refine TK.dr [0,1,2,3,4,5,6,7,8,9,10,11,12,13,14,15] [0,1,4,5,6,7,8,9,10,11,12,13,2,3,14,15] ?_
      refine TD.mv [0] ?_
      refine TD.mv [11] ?_
      refine TD.mv [0] ?_
      refine TD.mv [1] ?_
      refine TD.mv [0] ?_
      refine TD.mv [1] ?_
      refine TD.ix [157,158] ?_
      refine TD.y [159] Z (hq:=zm Z Z zi.h (mC _) (jA (i:=a) oQ oQ)) (h:=?_)
      refine TD.mv [0] ?_
      refine TD.mv [11] ?_
      refine TD.ix [161,162] ?_
      refine TD.y [163] Z (hq:=zm Z Z zi.h (mC _) (jA (i:=v) oQ oQ)) (h:=?_)
      refine TD.ix [153,154] ?_
      refine TD.s (pend':=[⟨10,[161,162],[]⟩,⟨9,[11],[]⟩,⟨8,[0],[]⟩,⟨3,[1],[]⟩,⟨2,[0],[]⟩]) [160,165] Z Z (zX Z Z zi.h Z Z mQ (jB (k:=v) oQ oQ)) ?_
      refine TD.ix [155,156] ?_
      refine TD.s (pend':=[]) [164,166] Z Z (zX Z Z zi.h Z Z mQ (jC (i:=v) (j:=a) oQ oQ)) ?_
      refine TD.fin ?_
      refine au [4,5,1,2,2,3] ?_
      refine TK.rt hret [(j,_)] ?_
      exact ⟨_,jan hd1 hup0 hdn0 hge0 (heq2.symm.trans (jap hup hdn hlt)),rfl,rfl⟩
     have hge:¬ v<u:=by simp at hc5; omega
     refine au [12,4] ?_
     refine TK.dr [0,1,2,3,4,5,6,7,8,9,10,11,12,13,14,15] [0,1,4,5,6,7,8,9,10,11,12,13,2,3,14,15] ?_
     refine TD.mv [0] ?_
     refine TD.mv [10] ?_
     refine TD.mv [0] ?_
     refine TD.mv [11] ?_
     refine TD.mv [0] ?_
     refine TD.mv [11] ?_
     refine TD.ix [139,140] ?_
     refine TD.y [141] Z (hq:=zm Z Z zi.h (mC _) (jA (i:=v) oQ oQ)) (h:=?_)
     refine TD.mv [0] ?_
     refine TD.mv [10] ?_
     refine TD.ix [143,144] ?_
     refine TD.y [145] Z (hq:=zm Z Z zi.h (mC _) (jA (i:=u) oQ oQ)) (h:=?_)
     refine TD.ix [135,136] ?_
     refine TD.s (pend':=[⟨10,[143,144],[]⟩,⟨9,[10],[]⟩,⟨8,[0],[]⟩,⟨3,[11],[]⟩,⟨2,[0],[]⟩]) [142,147] Z Z (zX Z Z zi.h Z Z mQ (jB (k:=u) oQ oQ)) ?_
     refine TD.ix [137,138] ?_
     refine TD.s (pend':=[]) [146,148] Z Z (zX Z Z zi.h Z Z mQ (jC (i:=u) (j:=v) oQ oQ)) ?_
     refine TD.fin ?_
     refine au [4,5,1,23,2,3,5,1,24,2,3,14] ?_
     refine TK.maskL [0,1,10,11] ?_
     refine TK.kp [(j,_)] ?_
     exact hnext2 _ _ _ oQ ⟨u+1,v - 1,swp d2 u v,rfl,oQ,oQ,oQ,jD hs2,(pl_go hup hdn hge).symm.trans heq2,by rw [show (v:Int) - 1=((v - 1:Nat):Int) by omega] <;> rfl,rfl⟩
theorem jat {u v:Nat} {d:Array Int} (h:u<v):reverseLoop u v d=reverseLoop (u+1) (v - 1) (swp d u v):=by
 conv=>lhs; unfold reverseLoop
 rw [if_pos h]
theorem jac {u v:Nat} {d:Array Int} (h:¬ u<v):reverseLoop u v d=d:=by unfold reverseLoop; rw [if_neg h]
theorem xT {main T} (hT:zo tp main T) {gm} {j n a b pv:Nat} {d:Array Int} (hd:d.size=n) (hn:n<=1000) (ha:a<=pv) (hpv:pv<b) (hb:b<=n) :
  zA tp T gm 195 [.sl j 0 n,intA a,intA b,intA pv] [(j,.row (d.toList.map intA) 3 1)] (fun r K'=>∃ p,partitionEqual ltInt d a b pv=p/\r=intA p.1/\K'=[(j,.row (p.2.toList.map intA) 3 1)]):=by
 refine zp 84 hT Tryz.func195 fun Y hret=>?_
 refine au [4,5,2,3,4] ?_
 refine TK.dr [0,1,2,3,4,5,6,7,8,9,10,11,12,13,14,15] [0,1,4,5,6,7,8,9,10,11,12,13,2,3,14,15] ?_
 refine TD.mv [0] ?_
 refine TD.mv [1] ?_
 refine TD.mv [0] ?_
 refine TD.mv [3] ?_
 refine TD.mv [0] ?_
 refine TD.mv [3] ?_
 refine TD.ix [15,16] ?_
 refine TD.y [17] Z (hq:=zm Z Z zi.h (mC _) (jA (i:=pv) oQ oQ)) (h:=?_)
 refine TD.mv [0] ?_
 refine TD.mv [1] ?_
 refine TD.ix [19,20] ?_
 refine TD.y [21] Z (hq:=zm Z Z zi.h (mC _) (jA (i:=a) oQ oQ)) (h:=?_)
 refine TD.ix [11,12] ?_
 refine TD.s (pend':=[⟨10,[19,20],[]⟩,⟨9,[1],[]⟩,⟨8,[0],[]⟩,⟨3,[3],[]⟩,⟨2,[0],[]⟩]) [18,23] Z Z (zX Z Z zi.h Z Z mQ (jB (k:=a) oQ oQ)) ?_
 refine TD.ix [13,14] ?_
 refine TD.s (pend':=[]) [22,24] Z Z (zX Z Z zi.h Z Z mQ (jC (i:=a) (j:=pv) oQ oQ)) ?_
 refine TD.fin ?_
 refine au [4,5,1,23,1,24,2,2,3,4,13] ?_
 refine TK.maskL [0,1,9,10] ?_
 refine TK.loopN (fun n1 env K=>∃ (u2 v2:Nat) (d2:Array Int),n1=v2+1 - u2/\a<u2/\u2<=b/\v2<b/\d2.size=n/\partEqLoop ltInt a u2 v2 d2=partitionEqual ltInt d a b pv/\env=.sl j 0 n::intA a::naL 7 (intA u2::intA v2::naL 73 [])/\K=[(j,.row (d2.toList.map intA) 3 1)]) (b - 1+1 - (a+1)) ⟨a+1,b - 1,swp d a pv,rfl,oQ,oQ,oQ,jD hd,rfl,by rw [show (b:Int) - 1=((b - 1:Nat):Int) by omega] <;> rfl,rfl⟩ fun n1 env K hI hnext2=>?_
 obtain ⟨u2,v2,d2,rfl,hau,hub2,hvb2,hs2,heq2,rfl,rfl⟩:=hI
 refine TK.na nQ ?_
 refine au [13,4,13] ?_
 refine TK.maskL [0,1,9,10] ?_
 refine TK.loopN (fun n1 env K=>∃ (u:Nat),n1=b - u/\u2<=u/\u<=b/\scanUp (fun x => !ltInt d2[a]! x) d2 (v2) u=scanUp (fun x => !ltInt d2[a]! x) d2 (v2) (u2)/\env=.sl j 0 n::intA a::naL 7 (intA u::intA v2::naL 73 [])/\K=[(j,.row (d2.toList.map intA) 3 1)]) (b - (u2)) ⟨u2,rfl,mL _,oQ,rfl,rfl,rfl⟩ fun n1 env K hI hnextu=>?_
 obtain ⟨u,rfl,hu0,hub,heqs,rfl,rfl⟩:=hI
 refine TK.na nQ ?_
 refine au [4,4] ?_
 refine' TK.shr (X:=Unit) (D:=fun x=>scanUp (fun x => !ltInt d2[a]! x) d2 (v2) (u2)=u) (E:=fun x=>.sl j 0 n::intA a::naL 7 (intA u::intA v2::naL 73 [])) (KK:=fun x=>[(j,.row (d2.toList.map intA) 3 1)]) ?_ ?_
 rotate_left
 ·intro H
  refine TK.dr [0,1,2,3,4,5,6,7,8,9,10,11,12,13,14] [0,1,2,3,4,5,6,7,8,9,10,11,12,13,14] ?_
  refine TD.mv [9] ?_
  refine TD.mv [10] ?_
  refine TD.z [29,30] Z (q_cmp Z Z Z Z) ?_
  refine TD.mv [31] ?_
  refine TD.sp 32 (fun g3_4=>?_) (fun g3_4=>?_)
  ·have hg:u<=v2:=by simp at g3_4; omega
   refine TD.mv [0,32] ?_
   refine TD.mv [1,32] ?_
   refine TD.ix [32,33,34] ?_
   refine TD.y [32,35] Z (hq:=zm Z Z zi.h (mC _) (jA (i:=a) oQ oQ)) (h:=?_)
   refine TD.mv [0,32] ?_
   refine TD.mv [9,32] ?_
   refine TD.ix [32,37,38] ?_
   refine TD.y [32,39] Z (hq:=zm Z Z zi.h (mC _) (jA (i:=u) oQ oQ)) (h:=?_)
   refine TD.cl (pend':=[⟨10,[32,37,38],[]⟩,⟨9,[9,32],[]⟩,⟨8,[0,32],[]⟩,⟨6,[32,33,34],[]⟩,⟨5,[1,32],[]⟩,⟨4,[0,32],[]⟩,⟨2,[29,30],[]⟩,⟨1,[10],[]⟩,⟨0,[9],[]⟩]) [32,36,40] Z Z Z Z Z (zg9 hT) (fun r1 K2 h3=>⟨?_,?_⟩)
   ·rcases h3 with ⟨rfl,rfl⟩
    all_goals simp
   obtain ⟨rfl,rfl⟩:=h3
   try simp only [cA]
   refine TD.norm tQ ?_
   refine TD.z [32,41] Z (q_not Z Z) ?_
   refine TD.z [32,42] Z (yE Z Z Z) ?_
   refine TD.fin ?_
   refine au [20] ?_
   refine ⟨fun hc0=>?_,fun hc0=>?_⟩
   ·rw [up_go (p:=(fun x => !ltInt d2[a]! x)) hg hc0] at heqs
    refine au [12,13,5,1,23,2,3,14] ?_
    refine TK.maskL [0,1,9,10] ?_
    refine TK.kp [(j,_)] ?_
    exact hnextu _ _ _ oQ ⟨u+1,rfl,oQ,oQ,heqs,rfl,rfl⟩
   have hfin:scanUp (fun x => !ltInt d2[a]! x) d2 (v2) (u2)=u:=by rw [<- heqs]; exact jK (p:=(fun x => !ltInt d2[a]! x)) (.inr hc0)
   refine au [16,4,13] ?_
   refine TK.maskL [0,1,9,10] ?_
   refine TK.maskL [0,1,9,10] ?_
   refine TK.kp [(j,_)] ?_
   exact H () hfin
  have hfin:scanUp (fun x => !ltInt d2[a]! x) d2 (v2) (u2)=u:=by rw [<- heqs]; exact jK (.inl (by simp at g3_4; omega))
  refine TD.u [0,32] Z ?_
  refine TD.u [1,32] Z ?_
  refine TD.u [32,33,34] Z ?_
  refine TD.u [32,35] Z ?_
  refine TD.u [0,32] Z ?_
  refine TD.u [9,32] Z ?_
  refine TD.u [32,37,38] Z ?_
  refine TD.u [32,39] Z ?_
  refine TD.u [32,36,40] Z ?_
  refine TD.u [32,41] Z ?_
  refine TD.z [32,42] Z (yf Z Z Z) ?_
  refine TD.fin ?_
  refine au [19,16,4,13] ?_
  refine TK.maskL [0,1,9,10] ?_
  refine TK.maskL [0,1,9,10] ?_
  refine TK.kp [(j,_)] ?_
  exact H () hfin
 ·rintro _ hup
  refine TK.na nQ ?_
  refine TK.loopN (fun n1 env K=>∃ (v:Nat),n1=v/\v<=v2/\scanDown (fun x=>ltInt d2[a]! x) d2 u v=scanDown (fun x=>ltInt d2[a]! x) d2 u (v2)/\env=.sl j 0 n::intA a::naL 7 (intA u::intA v::naL 73 [])/\K=[(j,.row (d2.toList.map intA) 3 1)]) (v2) ⟨v2,rfl,mL _,rfl,rfl,rfl⟩ fun n1 env K hI hnextv=>?_
  obtain ⟨v,hnv,hvb,heqs,rfl,rfl⟩:=hI
  subst n1
  refine TK.na nQ ?_
  refine au [4,4] ?_
  refine' TK.shr (X:=Unit) (D:=fun x=>scanDown (fun x=>ltInt d2[a]! x) d2 u (v2)=v) (E:=fun x=>.sl j 0 n::intA a::naL 7 (intA u::intA v::naL 73 [])) (KK:=fun x=>[(j,.row (d2.toList.map intA) 3 1)]) ?_ ?_
  rotate_left
  ·intro H
   refine TK.dr [0,1,2,3,4,5,6,7,8,9,10,11,12,13] [0,1,2,3,4,5,6,7,8,9,10,11,12,13] ?_
   refine TD.mv [9] ?_
   refine TD.mv [10] ?_
   refine TD.z [46,47] Z (q_cmp Z Z Z Z) ?_
   refine TD.mv [48] ?_
   refine TD.sp 49 (fun g5_4=>?_) (fun g5_4=>?_)
   ·have hg:u<=v:=by simp at g5_4; omega
    obtain ⟨q,rfl⟩:∃ q,v=q+1:=⟨v - 1,oQ⟩
    refine TD.mv [0,49] ?_
    refine TD.mv [1,49] ?_
    refine TD.ix [49,50,51] ?_
    refine TD.y [49,52] Z (hq:=zm Z Z zi.h (mC _) (jA (i:=a) oQ oQ)) (h:=?_)
    refine TD.mv [0,49] ?_
    refine TD.mv [10,49] ?_
    refine TD.ix [49,54,55] ?_
    refine TD.y [49,56] Z (hq:=zm Z Z zi.h (mC _) (jA (i:=q+1) oQ oQ)) (h:=?_)
    refine TD.cl (pend':=[⟨10,[49,54,55],[]⟩,⟨9,[10,49],[]⟩,⟨8,[0,49],[]⟩,⟨6,[49,50,51],[]⟩,⟨5,[1,49],[]⟩,⟨4,[0,49],[]⟩,⟨2,[46,47],[]⟩,⟨1,[10],[]⟩,⟨0,[9],[]⟩]) [49,53,57] Z Z Z Z Z (zg9 hT) (fun r7 K8 h9=>⟨?_,?_⟩)
    ·rcases h9 with ⟨rfl,rfl⟩
     all_goals simp
    obtain ⟨rfl,rfl⟩:=h9
    try simp only [cA]
    refine TD.norm tQ ?_
    refine TD.z [49,58] Z (yE Z Z Z) ?_
    refine TD.fin ?_
    refine au [20] ?_
    refine ⟨fun hc1=>?_,fun hc1=>?_⟩
    ·rw [xa (p:=(fun x=>ltInt d2[a]! x)) hg hc1] at heqs
     refine au [12,13,5,1,24,2,3,14] ?_
     refine TK.maskL [0,1,9,10] ?_
     refine TK.kp [(j,_)] ?_
     exact hnextv _ _ _ oQ ⟨q,rfl,oQ,heqs,by rw [show ((q+1:Nat):Int) - 1=(q:Int) by omega]; rfl,rfl⟩
    have hfin:scanDown (fun x=>ltInt d2[a]! x) d2 u (v2)=q+1:=by rw [<- heqs]; exact jF (p:=(fun x=>ltInt d2[a]! x)) (.inr hc1)
    refine au [16,4,4] ?_
    refine TK.maskL [0,1,9,10] ?_
    refine TK.kp [(j,_)] ?_
    exact H () hfin
   have hfin:scanDown (fun x=>ltInt d2[a]! x) d2 u (v2)=v:=by rw [<- heqs]; exact jF (.inl (by simp at g5_4; omega))
   refine TD.u [0,49] Z ?_
   refine TD.u [1,49] Z ?_
   refine TD.u [49,50,51] Z ?_
   refine TD.u [49,52] Z ?_
   refine TD.u [0,49] Z ?_
   refine TD.u [10,49] Z ?_
   refine TD.u [49,54,55] Z ?_
   refine TD.u [49,56] Z ?_
   refine TD.u [49,53,57] Z ?_
   refine TD.z [49,58] Z (yf Z Z Z) ?_
   refine TD.fin ?_
   refine au [19,16,4,4] ?_
   refine TK.maskL [0,1,9,10] ?_
   refine TK.kp [(j,_)] ?_
   exact H () hfin
  ·rintro _ hdn
   refine TK.na nQ ?_
   refine au [5,1,1,6,3,20] ?_
   refine ⟨fun hc2=>?_,fun hc2=>?_⟩
   ·have hlt:v<u:=by simp at hc2; omega
    refine au [16,4,5,1,2,3] ?_
    refine TK.rt hret [(j,_)] ?_
    exact ⟨_,heq2.symm.trans (jao hup hdn hlt),rfl,rfl⟩
   have hge:¬ v<u:=by simp at hc2; omega
   refine au [12,4] ?_
   refine TK.dr [0,1,2,3,4,5,6,7,8,9,10,11,12,13,14,15] [0,1,4,5,6,7,8,9,10,11,12,13,2,3,14,15] ?_
   refine TD.mv [0] ?_
   refine TD.mv [9] ?_
   refine TD.mv [0] ?_
   refine TD.mv [10] ?_
   refine TD.mv [0] ?_
   refine TD.mv [10] ?_
   refine TD.ix [69,70] ?_
   refine TD.y [71] Z (hq:=zm Z Z zi.h (mC _) (jA (i:=v) oQ oQ)) (h:=?_)
   refine TD.mv [0] ?_
   refine TD.mv [9] ?_
   refine TD.ix [73,74] ?_
   refine TD.y [75] Z (hq:=zm Z Z zi.h (mC _) (jA (i:=u) oQ oQ)) (h:=?_)
   refine TD.ix [65,66] ?_
   refine TD.s (pend':=[⟨10,[73,74],[]⟩,⟨9,[9],[]⟩,⟨8,[0],[]⟩,⟨3,[10],[]⟩,⟨2,[0],[]⟩]) [72,77] Z Z (zX Z Z zi.h Z Z mQ (jB (k:=u) oQ oQ)) ?_
   refine TD.ix [67,68] ?_
   refine TD.s (pend':=[]) [76,78] Z Z (zX Z Z zi.h Z Z mQ (jC (i:=u) (j:=v) oQ oQ)) ?_
   refine TD.fin ?_
   refine au [4,5,1,23,2,3,5,1,24,2,3,14] ?_
   refine TK.maskL [0,1,9,10] ?_
   refine TK.kp [(j,_)] ?_
   exact hnext2 _ _ _ oQ ⟨u+1,v - 1,swp d2 u v,rfl,oQ,oQ,oQ,jD hs2,(pe_go hup hdn hge).symm.trans heq2,by rw [show (v:Int) - 1=((v - 1:Nat):Int) by omega] <;> rfl,rfl⟩
theorem jab {main T} (hT:zo tp main T) {gm} {j n a b:Nat} {d:Array Int} (hd:d.size=n) (hn:n<=1000) (hab:a<b) (hb:b<=n) :
  zA tp T gm 192 [.sl j 0 n,intA a,intA b] [(j,.row (d.toList.map intA) 3 1)] (fun r K'=>K'=[(j,.row ((reverseRange d a b).toList.map intA) 3 1)]):=by
 refine zp 32 hT Tryz.func192 fun Y hret=>?_
 refine au [4,5,1,2,3,4,5,1,24,2,3,13] ?_
 refine TK.maskL [0,6,7] ?_
 refine TK.loopN (fun n1 env K=>∃ (u v:Nat) (d1:Array Int),n1=v - u/\u<=b/\v<b/\d1.size=n/\reverseLoop u v d1=reverseRange d a b/\env=.sl j 0 n::naL 5 (intA u::intA v::naL 24 [])/\K=[(j,.row (d1.toList.map intA) 3 1)]) (b - 1 - a) ⟨a,b - 1,d,rfl,oQ,oQ,hd,rfl,by rw [show (b:Int) - 1=((b - 1:Nat):Int) by omega] <;> rfl,rfl⟩ fun n1 env K hI hnext=>?_
 obtain ⟨u,v,d1,rfl,hub,hvb,hs1,heq,rfl,rfl⟩:=hI
 refine TK.na nQ ?_
 refine au [4,4,5,1,1,6,3,20] ?_
 refine ⟨fun hc0=>?_,fun hc0=>?_⟩
 ·have hlt:u<v:=by simp at hc0; omega
  rw [jat hlt] at heq
  refine au [12,13,4] ?_
  refine TK.dr [0,1,2,3,4,5,6,7,8,9,10,11,12,13,14,15] [0,1,4,5,6,7,8,9,10,11,12,13,2,3,14,15] ?_
  refine TD.mv [0] ?_
  refine TD.mv [6] ?_
  refine TD.mv [0] ?_
  refine TD.mv [7] ?_
  refine TD.mv [0] ?_
  refine TD.mv [7] ?_
  refine TD.ix [18,19] ?_
  refine TD.y [20] Z (hq:=zm Z Z zi.h (mC _) (jA (i:=v) oQ oQ)) (h:=?_)
  refine TD.mv [0] ?_
  refine TD.mv [6] ?_
  refine TD.ix [22,23] ?_
  refine TD.y [24] Z (hq:=zm Z Z zi.h (mC _) (jA (i:=u) oQ oQ)) (h:=?_)
  refine TD.ix [14,15] ?_
  refine TD.s (pend':=[⟨10,[22,23],[]⟩,⟨9,[6],[]⟩,⟨8,[0],[]⟩,⟨3,[7],[]⟩,⟨2,[0],[]⟩]) [21,26] Z Z (zX Z Z zi.h Z Z mQ (jB (k:=u) oQ oQ)) ?_
  refine TD.ix [16,17] ?_
  refine TD.s (pend':=[]) [25,27] Z Z (zX Z Z zi.h Z Z mQ (jC (i:=u) (j:=v) oQ oQ)) ?_
  refine TD.fin ?_
  refine au [4,5,1,23,2,3,5,1,24,2,3,14] ?_
  refine TK.maskL [0,6,7] ?_
  refine TK.kp [(j,_)] ?_
  exact hnext _ _ _ oQ ⟨u+1,v - 1,swp d1 u v,rfl,oQ,oQ,jD hs1,heq,by rw [show (v:Int) - 1=((v - 1:Nat):Int) by omega] <;> rfl,rfl⟩
 have hlt:¬ u<v:=by simp at hc0; omega
 refine au [16] ?_
 refine TK.rt0 hret [(j,_)] ?_
 rw [<- heq]; rw [jac hlt]
instance:Cal tp 222:={}
instance:Cal tp 233:={}
theorem jO {main T} (hT:zo tp main T) {gm} {j js n a b:Nat} {d:Array Int} {sw:Int} (hd:d.size=n) (hn:n<=1000) (ha:a<n) (hb:b<n) (hsw:0<=sw/\sw<=1000) :
  zA tp T gm 233 [.sl j 0 n,intA a,intA b,.ptr js 0] [(j,.row (d.toList.map intA) 3 1),(js,.cells [intA sw] 3 true)] (fun r K'=>∃ (x y:Nat) (sw':Int),((x=a/\y=b)\/(x=b/\y=a))/\0<=sw'/\sw'<=sw+1/\r=.tup [intA x,intA y]/\K'=[(j,.row (d.toList.map intA) 3 1),(js,.cells [intA sw'] 3 true)]):=by
 refine zp 28 hT Tryz.func233 fun Y hret=>?_
 refine au [4,5,2,2,3,4,4] ?_
 refine TK.dr [0,1,2,3,4,5,6,7,8] [0,1,2,3,4,5,6,7,8] ?_
 refine TD.mv [0] ?_
 refine TD.mv [2] ?_
 refine TD.ix [10,11] ?_
 refine TD.y [12] Z (hq:=zm Z Z zi.h (mC _) (jA (i:=b) oQ oQ)) (h:=?_)
 refine TD.mv [0] ?_
 refine TD.mv [1] ?_
 refine TD.ix [14,15] ?_
 refine TD.y [16] Z (hq:=zm Z Z zi.h (mC _) (jA (i:=a) oQ oQ)) (h:=?_)
 refine TD.cl (pend':=[⟨6,[14,15],[]⟩,⟨5,[1],[]⟩,⟨4,[0],[]⟩,⟨2,[10,11],[]⟩,⟨1,[2],[]⟩,⟨0,[0],[]⟩]) [13,17] Z Z Z Z Z (zg9 hT) (fun r1 K2 h3=>⟨?_,?_⟩)
 ·rcases h3 with ⟨rfl,rfl⟩
  all_goals simp
 obtain ⟨rfl,rfl⟩:=h3
 try simp only [cA]
 refine TD.norm tQ ?_
 refine TD.fin ?_
 refine au [20] ?_
 refine ⟨fun hc0=>?_,fun hc0=>?_⟩
 ·refine au [4,5,1] ?_
  refine TK.a Z (ke Z Z) ?_
  refine au [9,23] ?_
  refine TK.a Z (ke Z Z) ?_
  refine au [17,3,4,5,1,1,2,2,3] ?_
  refine TK.rt hret [(j,_),(js,_)] ?_
  exact ⟨_,_,_,.inr ⟨rfl,rfl⟩,oQ,oQ,rfl,rfl⟩
 refine au [12,4,5,1,1,2,2,3] ?_
 refine TK.rt hret [(j,_),(js,_)] ?_
 exact ⟨_,_,_,.inl ⟨rfl,rfl⟩,oQ,oQ,rfl,rfl⟩
theorem jN {main T} (hT:zo tp main T) {gm} {j js n a b c:Nat} {d:Array Int} {sw:Int} (hd:d.size=n) (hn:n<=1000) (ha:a<n) (hb:b<n) (hc:c<n) (hsw:0<=sw/\sw<=900) :
  zA tp T gm 222 [.sl j 0 n,intA a,intA b,intA c,.ptr js 0] [(j,.row (d.toList.map intA) 3 1),(js,.cells [intA sw] 3 true)] (fun r K'=>∃ (x:Nat) (sw':Int),(x=a\/x=b\/x=c)/\0<=sw'/\sw'<=sw+3/\r=intA x/\K'=[(j,.row (d.toList.map intA) 3 1),(js,.cells [intA sw'] 3 true)]):=by
 refine zp 36 hT Tryz.func222 fun Y hret=>?_
 refine au [4,5,2,3,4,5,1,1,1,1] ?_
 refine TK.cl Z Z Z Z (jO hT (sw:=sw) hd hn oQ oQ oQ) ?_
 rintro r1 K2 ⟨x1,y1,q1,hx1,hq11,hq12,rfl,rfl⟩
 refine au [1,10,10,2,2,3,4,5,1,1,1,1] ?_
 refine TK.cl Z Z Z Z (jO hT (sw:=q1) hd hn oQ oQ oQ) ?_
 rintro r4 K5 ⟨x2,y2,q2,hx2,hq21,hq22,rfl,rfl⟩
 refine au [1,10,10,2,2,3,4,5,1,1,1,1] ?_
 refine TK.cl Z Z Z Z (jO hT (sw:=q2) hd hn oQ oQ oQ) ?_
 rintro r7 K8 ⟨x3,y3,q3,hx3,hq31,hq32,rfl,rfl⟩
 refine au [1,10,10,2,2,3,4,5,1,2,3] ?_
 refine TK.rt hret [(j,_),(js,_)] ?_
 exact ⟨_,_,oQ,oQ,oQ,rfl,rfl⟩
theorem jG {main T} (hT:zo tp main T) {gm} {j js n a:Nat} {d:Array Int} {sw:Int} (hd:d.size=n) (hn:n<=1000) (h1:1<=a) (ha:a+1<n) (hsw:0<=sw/\sw<=900) :
  zA tp T gm 221 [.sl j 0 n,intA a,.ptr js 0] [(j,.row (d.toList.map intA) 3 1),(js,.cells [intA sw] 3 true)] (fun r K'=>∃ (x:Nat) (sw':Int),a<=x+1/\x<=a+1/\0<=sw'/\sw'<=sw+3/\r=intA x/\K'=[(j,.row (d.toList.map intA) 3 1),(js,.cells [intA sw'] 3 true)]):=by
 refine zp 15 hT Tryz.func221 fun Y hret=>?_
 refine au [4,5,2,3,4] ?_
 obtain ⟨p,rfl⟩:∃ p,a=p+1:=⟨a - 1,oQ⟩
 refine au [5,1,1,24] ?_
 rw [show ((p+1:Nat):Int) - 1=(p:Int) by omega]
 refine au [1,1,23,1] ?_
 refine TK.cl Z Z Z Z (jN hT (sw:=sw) (a:=p) (b:=p+1) (c:=p+1+1) hd hn oQ oQ oQ oQ) ?_
 rintro r1 K2 ⟨x,q,hx,hq1,hq2,rfl,rfl⟩
 refine au [2,3] ?_
 refine TK.rt hret [(j,_),(js,_)] ?_
 exact ⟨_,_,oQ,oQ,oQ,oQ,rfl,rfl⟩
end Go.Vel
namespace Go.Vel
open Go Go.Conc Go.Proofs
theorem xB {n:Int} (h:0<=n/\n<18446744073709551616):IntKind.u64.wrap n=n:=by
 unfold IntKind.wrap
 simp only [show IntKind.u64.bits=64 from rfl,show IntKind.u64.signed=false from rfl,Bool.false_and]
 split <;> rename_i h1 <;> first | (exact absurd h1 dQ) | omega
theorem jax (x:Int):0<=IntKind.u64.wrap x/\IntKind.u64.wrap x<18446744073709551616:=by
 unfold IntKind.wrap
 simp only [show IntKind.u64.bits=64 from rfl,show IntKind.u64.signed=false from rfl,Bool.false_and]
 split <;> rename_i h1 <;> first | (exact absurd h1 dQ) | omega
def xorW (a b:Int):Int:=IntKind.u64.wrap ((BitVec.ofInt 64 a ^^^ BitVec.ofInt 64 b).toNat:Int)
def andW (a b:Int):Int:=IntKind.u64.wrap ((BitVec.ofInt 64 a &&& BitVec.ofInt 64 b).toNat:Int)
theorem xR (a b:Int):0<=xorW a b/\xorW a b<18446744073709551616:=jax _
theorem qJ (a:Int) {b:Nat} (hb:b<1000):0<=andW a b/\andW a b<=b:=by
 have h1:(BitVec.ofInt 64 (b:Int)).toNat=b:=by
  rw [BitVec.toNat_ofInt]
  omega
 have h2:(BitVec.ofInt 64 a &&& BitVec.ofInt 64 (b:Int)).toNat<=b:=by
  rw [BitVec.toNat_and,h1]
  exact Nat.and_le_right
 unfold andW
 rw [xB oQ]
 omega
section
variable {P:Program} {gm:Nat->Option Nat} {V:KV} {env:List AV} {o:Oper}
theorem xb {t yt:TypeId} {x y:Operand} {a b:Int} (ho:o.op=.binOp .xor t x y yt) (hx:zn gm env x=some (.v (.int .u64 a))) (hy:zn gm env y=some (.v (.int .u64 b))):Qk P gm env V o (.v (.int .u64 (xorW a b))):=wQ ho hx hy rfl
theorem qX {t yt:TypeId} {x y:Operand} {a b:Int} (ho:o.op=.binOp .and t x y yt) (hx:zn gm env x=some (.v (.int .u64 a))) (hy:zn gm env y=some (.v (.int .u64 b))):Qk P gm env V o (.v (.int .u64 (andW a b))):=wQ ho hx hy rfl
theorem qZ {t yt:TypeId} {x y:Operand} {a b:Int} (ho:o.op=.binOp .sub t x y yt) (hx:zn gm env x=some (.v (.int .u64 a))) (hy:zn gm env y=some (.v (.int .u64 b))) (h:0<=a - b/\a - b<18446744073709551616):Qk P gm env V o (.v (.int .u64 (a - b))):=by
 refine wQ ho hx hy ?_
 show some (Value.int .u64 (IntKind.u64.wrap (a - b)))=_
 rw [xB h]
theorem qY {t yt:TypeId} {x y:Operand} {k':IntKind} {a b:Int} (ho:o.op=.binOp .shr t x y yt) (hx:zn gm env x=some (.v (.int .u64 a))) (hy:zn gm env y=some (.v (.int k' b))) (h0:0<=b):Qk P gm env V o (.v (.int .u64 (a.fdiv (2 ^ min b.toNat 64)))):=fun A _=>by
 refine vq ho (by rw [zx hx]; rfl) (by rw [zx hy]; rfl) ?_
 rw [u7]
 show zR P (Op.shift .shr .u64 a k' b)=_
 unfold Op.shift
 rw [if_neg oQ]
 rfl
end
theorem qQ {s:ByteArray} {n:Nat} (hn:n<256) (h:n<s.size) (hall:(List.range 256).all (fun k=>match s[k]? with | some c=>decide (c.toNat<=8/\(k=0\/2 ^ c.toNat<=2*k)) | none=>true)=true):∃ m:Nat,intA (0+((s[n]'h).toNat:Int))=intA m/\m<=8/\(n=0\/2 ^ m<=2*n)/\([]:KV)=[]:=by
 have h1:=List.all_eq_true.1 hall n (List.mem_range.2 hn)
 rw [getElem?_pos s n h] at h1
 have h2:=of_decide_eq_true h1
 exact ⟨(s[n]'h).toNat,by rw [Int.zero_add],h2.1,h2.2,rfl⟩
theorem jae {m:Nat} (hm:m<=8):IntKind.u64.wrap (1*2 ^ ((m:Nat):Int).toNat)=((2 ^ m:Nat):Int):=by
 have:m=0\/m=1\/m=2\/m=3\/m=4\/m=5\/m=6\/m=7\/m=8:=by omega
 rcases this with rfl | rfl | rfl | rfl | rfl | rfl | rfl | rfl | rfl <;> decide
end Go.Vel
namespace Go.Vel
open Go Go.Conc Go.Proofs
open Go.Sort
instance:Cal tp 221:={}
instance:zi tp 263 false 1:={}
instance:TyZA tp 3 [.v (.int .i64 0)]:={}
theorem qW {main T} (hT:zo tp main T) {gm} {j n a b:Nat} {d:Array Int} (hd:d.size=n) (hn:n<=1000) (hab:a<b) (hb:b<=n) :
  zA tp T gm 191 [.sl j 0 n,intA a,intA b] [(j,.row (d.toList.map intA) 3 1)] (fun r K'=>∃ (p:Nat) (hh:Int),a<=p/\p<b/\r=.tup [intA p,intA hh]/\K'=[(j,.row (d.toList.map intA) 3 1)]):=by
 refine zp 57 hT Tryz.func191 fun Y hret=>?_
 refine au [4,5,2,2,3,4,5,1,1,24,2,3,4] ?_
 rw [show (b:Int) - (a:Int)=((b - a:Nat):Int) by omega]
 refine au [5,22] ?_
 intro js hjs
 refine au [3,4,5,1,1] ?_
 refine TK.a Z (jI Z Z Z oQ oQ oQ) ?_
 refine TK.a Z (q_mul Z Z Z oQ) ?_
 refine au [23,2,3,4,5,1,1] ?_
 refine TK.a Z (jI Z Z Z oQ oQ oQ) ?_
 refine TK.a Z (q_mul Z Z Z oQ) ?_
 refine au [23,2,3,4,5,1,1] ?_
 refine TK.a Z (jI Z Z Z oQ oQ oQ) ?_
 refine TK.a Z (q_mul Z Z Z oQ) ?_
 refine au [23,2,3,4,4] ?_
 obtain ⟨I,hI⟩:∃ I:Nat,I=a+(b - a) / 4:=⟨_,rfl⟩
 obtain ⟨J,hJ⟩:∃ J:Nat,J=a+(b - a) / 4*2:=⟨_,rfl⟩
 obtain ⟨L,hL⟩:∃ L:Nat,L=a+(b - a) / 4*3:=⟨_,rfl⟩
 refine' TK.shr (X:=Nat×Int) (D:=fun x=>a<=x.1/\x.1<b) (E:=fun x=>naL 9 (.ptr js 0::.any::intA x.1::naL 45 [])) (KK:=fun x=>[(j,.row (d.toList.map intA) 3 1),(js,.cells [intA x.2] 3 true)]) ?_ ?_
 rotate_left
 ·intro H
  rw [show (a:Int)+((b - a:Nat):Int) / 4*1=(I:Int) by omega,show (a:Int)+((b - a:Nat):Int) / 4*2=(J:Int) by omega,show (a:Int)+((b - a:Nat):Int) / 4*3=(L:Int) by omega]
  refine au [5,1,6,3,20] ?_
  refine ⟨fun hc0=>?_,fun hc0=>?_⟩
  ·have h8:8<=b - a:=by simp at hc0; omega
   refine au [4,4,5,1,6,3,20] ?_
   refine ⟨fun hc1=>?_,fun hc1=>?_⟩
   ·have h50:50<=b - a:=by simp at hc1; omega
    refine au [4,5,1,1] ?_
    refine TK.cl Z Z Z Z (jG hT (sw:=0) (a:=I) hd hn oQ oQ oQ) ?_
    rintro r1 K2 ⟨x1,q1,hx11,hx12,hx13,hx14,rfl,rfl⟩
    refine au [2,3,4,5,1,1] ?_
    refine TK.cl Z Z Z Z (jG hT (sw:=q1) (a:=J) hd hn oQ oQ oQ) ?_
    rintro r4 K5 ⟨x2,q2,hx21,hx22,hx23,hx24,rfl,rfl⟩
    refine au [2,3,5,1,1] ?_
    refine TK.cl Z Z Z Z (jG hT (sw:=q2) (a:=L) hd hn oQ oQ oQ) ?_
    rintro r7 K8 ⟨x3,q3,hx31,hx32,hx33,hx34,rfl,rfl⟩
    refine au [2,3,5,1,1,1,1] ?_
    refine TK.cl Z Z Z Z (jN hT (sw:=q3) (a:=x1) (b:=x2) (c:=x3) hd hn oQ oQ oQ oQ) ?_
    rintro r10 K11 ⟨x4,q4,hx4,hx42,hx43,rfl,rfl⟩
    refine au [2,3,4] ?_
    refine TK.maskL [9,11] ?_
    refine TK.kp [(j,_),(js,_)] ?_
    exact H (x4,q4) ⟨by omega,oQ⟩
   refine au [12,5,1,1,1,1] ?_
   refine TK.cl Z Z Z Z (jN hT (sw:=0) (a:=I) (b:=J) (c:=L) hd hn oQ oQ oQ oQ) ?_
   rintro r13 K14 ⟨x4,q4,hx4,hx42,hx43,rfl,rfl⟩
   refine au [2,3,4] ?_
   refine TK.maskL [9,11] ?_
   refine TK.kp [(j,_),(js,_)] ?_
   exact H (x4,q4) ⟨by omega,oQ⟩
  refine au [12,4] ?_
  refine TK.maskL [9,11] ?_
  refine TK.kp [(j,_),(js,_)] ?_
  exact H (J,0) ⟨by omega,oQ⟩
 ·rintro ⟨p,sw⟩ ⟨hp1,hp2⟩; dsimp only at hp1 hp2 ⊢
  refine TK.na nQ ?_
  refine au [5,9,3,13,4,5,6,2,3,20] ?_
  refine ⟨fun hc2=>?_,fun hc2=>?_⟩
  ·refine au [4,5,1,2,2,3] ?_
   refine TK.rt hret [(j,_)] ?_
   exact ⟨p,_,hp1,hp2,rfl,rfl⟩
  refine au [4,5,6,2,3,20] ?_
  refine ⟨fun hc3=>?_,fun hc3=>?_⟩
  ·refine au [4,5,1,2,2,3] ?_
   refine TK.rt hret [(j,_)] ?_
   exact ⟨p,_,hp1,hp2,rfl,rfl⟩
  refine au [4,5,1,2,2,3] ?_
  refine TK.rt hret [(j,_)] ?_
  exact ⟨p,_,hp1,hp2,rfl,rfl⟩
theorem qb {main T} (hT:zo tp main T) {gm} {n:Nat} (hn:n<256) :
  zA tp T gm 198 [.v (.int .u64 n)] [] (fun r K'=>∃ m:Nat,r=intA m/\m<=8/\(n=0\/2 ^ m<=2*n)/\K'=[]):=by
 refine zp 25 hT Tryz.func198 fun Y hret=>?_
 refine au [4,5,2,3,4,4,5,1,6,3,20] ?_
 refine ⟨fun hc0=>?_,fun hc0=>?_⟩
 ·simp at hc0; omega
 refine au [12,4,4,5,1,6,3,20] ?_
 refine ⟨fun hc1=>?_,fun hc1=>?_⟩
 ·simp at hc1; omega
 refine au [12,4,4,5,1,6,3,20] ?_
 refine ⟨fun hc2=>?_,fun hc2=>?_⟩
 ·simp at hc2; omega
 refine au [12,4,5,1,1] ?_
 refine TK.a Z (yU Z Z Und.h Und.h (zgD hn)) ?_
 refine TK.a Z (zet Z Z Z Und.h oQ (zhK hn Z)) ?_
 refine TK.a Z (yU Z Z Und.h Und.h (zfB _)) ?_
 refine TK.a Z (q_add Z Z Z (zfG _)) ?_
 refine au [2,3] ?_
 refine TK.rta hret ?_
 exact qQ hn _ (by decide +kernel)
theorem jR {main T} (hT:zo tp main T) {gm} {n:Nat} (hn:n<256) :
  zA tp T gm 161 [.v (.int .u64 n)] [] (fun r K'=>∃ m:Nat,r=intA m/\m<=8/\(n=0\/2 ^ m<=2*n)/\K'=[]):=by
 refine zp 8 hT Tryz.func161 fun Y hret=>?_
 refine au [4,5,2,3,4,19,12,4,5,1] ?_
 refine TK.cl Z Z Z Z (qb hT hn) ?_
 rintro r1 K2 ⟨m,rfl,hm8,hm2,rfl⟩
 refine au [2,3] ?_
 refine TK.rta hret ?_
 exact ⟨m,rfl,hm8,hm2,rfl⟩
theorem qv {main T} (hT:zo tp main T) {gm} {n:Nat} (hn:n<256) (h1:1<=n) :
  zA tp T gm 219 [intA n] [] (fun r K'=>∃ M:Nat,1<=M/\M<=2*n/\r=.v (.int .u64 (M:Int))/\K'=[]):=by
 refine zp 7 hT Tryz.func219 fun Y hret=>?_
 refine au [4,5,2,3,4,5,1] ?_
 refine TK.a Z (yU Z Z Und.h Und.h (zbZ (n:=n) oQ)) ?_
 refine TK.cl Z Z Z Z (jR hT (n:=n) hn) ?_
 rintro r1 K2 ⟨m,rfl,hm8,hm2,rfl⟩
 refine au [] ?_
 refine TK.a Z (q_shL Z Z Z ⟨by omega,by show ((m:Nat):Int)<=64; omega⟩ (r:=((2 ^ m:Nat):Int)) (jae hm8)) ?_
 refine au [2,3] ?_
 refine TK.rta hret ?_
 exact ⟨2 ^ m,Nat.two_pow_pos _,oQ,rfl,rfl⟩
theorem qu {main T} (hT:zo tp main T) {gm} {jx:Nat} {x:Int} :
  zA tp T gm 220 [.ptr jx 0] [(jx,.cells [.v (.int .u64 x)] 263 true)] (fun r K'=>∃ y:Int,0<=y/\y<18446744073709551616/\r=.v (.int .u64 y)/\K'=[(jx,.cells [.v (.int .u64 y)] 263 true)]):=by
 refine zp 33 hT Tryz.func220 fun Y hret=>?_
 refine au [4,5,2,3,4] ?_
 refine TK.dr [0,1,2,3,4,5,6,7,8,9] [0,1,2,3,4,5,6,7,8,9] ?_
 refine TD.mv [0] ?_
 refine TD.z [3] Z (ke Z Z) ?_
 refine TD.y [4] Z (hq:=zm Z Z zi.h (mC _) Z) (h:=?_)
 refine TD.mv [0] ?_
 refine TD.z [6] Z (ke Z Z) ?_
 refine TD.y [7] Z (hq:=zm Z Z zi.h (mC _) Z) (h:=?_)
 refine TD.z [8] Z (q_shL Z Z Z ⟨by decide,by decide⟩ rfl) ?_
 refine TD.z [5,9] Z (xb Z Z Z) ?_
 refine TD.z [3] Z (ke Z Z) ?_
 refine TD.s (pend':=[]) [10,11] Z Z (zX Z Z zi.h Z Z mQ Z) ?_
 refine TD.fin ?_
 refine au [4] ?_
 refine TK.dr [0,1,2,3,4,5,6,7,8,9] [0,1,2,3,4,5,6,7,8,9] ?_
 refine TD.mv [0] ?_
 refine TD.z [12] Z (ke Z Z) ?_
 refine TD.y [13] Z (hq:=zm Z Z zi.h (mC _) Z) (h:=?_)
 refine TD.mv [0] ?_
 refine TD.z [15] Z (ke Z Z) ?_
 refine TD.y [16] Z (hq:=zm Z Z zi.h (mC _) Z) (h:=?_)
 refine TD.z [17] Z (qY Z Z Z dQ) ?_
 refine TD.z [14,18] Z (xb Z Z Z) ?_
 refine TD.z [12] Z (ke Z Z) ?_
 refine TD.s (pend':=[]) [19,20] Z Z (zX Z Z zi.h Z Z mQ Z) ?_
 refine TD.fin ?_
 refine au [4] ?_
 refine TK.dr [0,1,2,3,4,5,6,7,8,9] [0,1,2,3,4,5,6,7,8,9] ?_
 refine TD.mv [0] ?_
 refine TD.z [21] Z (ke Z Z) ?_
 refine TD.y [22] Z (hq:=zm Z Z zi.h (mC _) Z) (h:=?_)
 refine TD.mv [0] ?_
 refine TD.z [24] Z (ke Z Z) ?_
 refine TD.y [25] Z (hq:=zm Z Z zi.h (mC _) Z) (h:=?_)
 refine TD.z [26] Z (q_shL Z Z Z ⟨by decide,by decide⟩ rfl) ?_
 refine TD.z [23,27] Z (xb Z Z Z) ?_
 refine TD.z [21] Z (ke Z Z) ?_
 refine TD.s (pend':=[]) [28,29] Z Z (zX Z Z zi.h Z Z mQ Z) ?_
 refine TD.fin ?_
 refine au [4,5,1] ?_
 refine TK.a Z (ke Z Z) ?_
 refine au [9,2,3] ?_
 refine TK.rt hret [(jx,_)] ?_
 exact ⟨_,(xR _ _).1,(xR _ _).2,rfl,rfl⟩
end Go.Vel
namespace Go.Vel
open Go Go.Conc Go.Sort
section
variable {a b i u v q s:Nat} {d d2 d3 d4:Array Int}
theorem ss_go (h:u<b) (hl:(!ltInt d[u]! d[u - 1]!)=true):scanSorted ltInt d b u=scanSorted ltInt d b (u+1):=by
 conv=>lhs; unfold scanSorted
 rw [if_pos (by rw [hl]; simp [h])]
theorem qg (h:¬ u<b\/(!ltInt d[u]! d[u - 1]!)=false):scanSorted ltInt d b u=u:=by
 unfold scanSorted
 rw [if_neg (by rcases h with h | h <;> simp [h])]
theorem sd_go (hl:(!ltInt d[q+1]! d[q]!)=false):shiftDown ltInt (q+1) d=shiftDown ltInt q (swp d (q+1) q):=by
 conv=>lhs; unfold shiftDown
 rw [if_neg (by rw [hl]; decide)]
theorem jad (hl:(!ltInt d[q+1]! d[q]!)=true):shiftDown ltInt (q+1) d=d:=by
 unfold shiftDown
 rw [if_pos hl]
theorem su_go (h:v<b) (hl:(!ltInt d[v]! d[v - 1]!)=false):shiftUp ltInt b v d=shiftUp ltInt b (v+1) (swp d v (v - 1)):=by
 conv=>lhs; unfold shiftUp
 rw [if_pos h,if_neg (by rw [hl]; decide)]
theorem jag (h:v<b) (hl:(!ltInt d[v]! d[v - 1]!)=true):shiftUp ltInt b v d=d:=by
 unfold shiftUp
 rw [if_pos h,if_pos hl]
theorem jav (h:¬ v<b):shiftUp ltInt b v d=d:=by
 unfold shiftUp
 rw [if_neg h]
theorem pi_T (hs:scanSorted ltInt d b i=u) (h:u=b):partialIns ltInt a b (s+1) i d=(d,true):=by
 unfold partialIns
 simp only []
 rw [hs,if_pos h]
theorem pi_F (hs:scanSorted ltInt d b i=u) (h:¬ u=b) (h2:b - a<50):partialIns ltInt a b (s+1) i d=(d,false):=by
 unfold partialIns
 simp only []
 rw [hs,if_neg h,if_pos h2]
theorem pi_go (hs:scanSorted ltInt d b i=u) (h:¬ u=b) (h2:¬ b - a<50) (h3:d3=if u - a>=2 then shiftDown ltInt (u - 1) (swp d u (u - 1)) else swp d u (u - 1)) (h4:d4=if b - u>=2 then shiftUp ltInt b (u+1) d3 else d3):partialIns ltInt a b (s+1) i d=partialIns ltInt a b s u d4:=by
 conv=>lhs; unfold partialIns
 simp only []
 rw [hs,if_neg h,if_neg h2,h4,h3]
end
end Go.Vel
namespace Go.Vel
open Go Go.Conc Go.Proofs
open Go.Sort
theorem qU {main T} (hT:zo tp main T) {gm} {j n a b:Nat} {d:Array Int} (hd:d.size=n) (hn:n<=1000) (hab:a<b) (hb:b<=n) :
  zA tp T gm 193 [.sl j 0 n,intA a,intA b] [(j,.row (d.toList.map intA) 3 1)] (fun r K'=>∃ q,partialInsertionSort ltInt d a b=q/\r=zP q.2/\K'=[(j,.row (q.1.toList.map intA) 3 1)]):=by
 refine zp 133 hT Tryz.func193 fun Y hret=>?_
 refine au [4,5,2,3,4,5,1,23,2,3,4,4,5,2,3,13] ?_
 refine TK.maskL [0,1,2,7,8] ?_
 refine TK.loopN (fun n1 env K=>∃ (s i:Nat) (d1:Array Int),n1=s/\s<=5/\a<i/\i<=b/\d1.size=n/\partialIns ltInt a b s i d1=partialInsertionSort ltInt d a b/\env=.sl j 0 n::intA a::intA b::naL 4 (intA i::intA (5 - (s:Int))::naL 124 [])/\K=[(j,.row (d1.toList.map intA) 3 1)]) 5 ⟨5,a+1,d,rfl,mL _,oQ,oQ,hd,rfl,rfl,rfl⟩ fun n1 env K hI hnext=>?_
 obtain ⟨s1,i,d1,hn1,hs5,hai,hib,hs1,heq,rfl,rfl⟩:=hI
 subst n1
 refine TK.na nQ ?_
 refine au [4,4,5,1,6,3,20] ?_
 refine ⟨fun hc0=>?_,fun hc0=>?_⟩
 ·obtain ⟨s,rfl⟩:∃ s,s1=s+1:=⟨s1 - 1,by simp at hc0; omega⟩
  refine au [12,4,13,4,13] ?_
  refine TK.maskL [0,1,2,7,8] ?_
  refine TK.loopN (fun n1 env K=>∃ (u:Nat),n1=b - u/\i<=u/\u<=b/\scanSorted ltInt d1 b u=scanSorted ltInt d1 b i/\env=.sl j 0 n::intA a::intA b::naL 4 (intA u::intA (5 - ((s+1:Nat):Int))::naL 124 [])/\K=[(j,.row (d1.toList.map intA) 3 1)]) (b - i) ⟨i,rfl,mL _,hib,rfl,rfl,rfl⟩ fun n1 env K hI hnext1=>?_
  obtain ⟨u,rfl,hiu,hub,heqs,rfl,rfl⟩:=hI
  refine TK.na nQ ?_
  refine au [4,4] ?_
  refine' TK.shr (X:=Unit) (D:=fun x=>scanSorted ltInt d1 b i=u) (E:=fun x=>.sl j 0 n::intA a::intA b::naL 4 (intA u::intA (5 - ((s+1:Nat):Int))::naL 124 [])) (KK:=fun x=>[(j,.row (d1.toList.map intA) 3 1)]) ?_ ?_
  rotate_left
  ·intro H
   refine TK.dr [0,1,2,3,4,5,6,7,8,9,10,11,12,13,14,15] [0,1,2,3,4,5,6,7,8,9,10,11,12,13,14,15] ?_
   refine TD.mv [7] ?_
   refine TD.mv [2] ?_
   refine TD.z [17,18] Z (q_cmp Z Z Z Z) ?_
   refine TD.mv [19] ?_
   refine TD.sp 20 (fun g5_4=>?_) (fun g5_4=>?_)
   ·have hg:u<b:=by simp at g5_4; omega
    refine TD.mv [0,20] ?_
    refine TD.mv [7,20] ?_
    refine TD.ix [20,21,22] ?_
    refine TD.y [20,23] Z (hq:=zm Z Z zi.h (mC _) (jA (i:=u) oQ oQ)) (h:=?_)
    refine TD.mv [0,20] ?_
    refine TD.mv [7,20] ?_
    refine TD.z [20,26] Z (q_sub Z Z Z oQ) ?_
    refine TD.ix [20,25,27] ?_
    refine TD.y [20,28] Z (hq:=zm Z Z zi.h (mC _) (jA (i:=u - 1) oQ oQ)) (h:=?_)
    refine TD.cl (pend':=[⟨11,[20,25,27],[]⟩,⟨10,[20,26],[]⟩,⟨9,[7,20],[]⟩,⟨8,[0,20],[]⟩,⟨6,[20,21,22],[]⟩,⟨5,[7,20],[]⟩,⟨4,[0,20],[]⟩,⟨2,[17,18],[]⟩,⟨1,[2],[]⟩,⟨0,[7],[]⟩]) [20,24,29] Z Z Z Z Z (zg9 hT) (fun r1 K2 h3=>⟨?_,?_⟩)
    ·rcases h3 with ⟨rfl,rfl⟩
     all_goals simp
    obtain ⟨rfl,rfl⟩:=h3
    try simp only [cA]
    refine TD.norm tQ ?_
    refine TD.z [20,30] Z (q_not Z Z) ?_
    refine TD.z [20,31] Z (yE Z Z Z) ?_
    refine TD.fin ?_
    refine au [20] ?_
    refine ⟨fun hc1=>?_,fun hc1=>?_⟩
    ·rw [ss_go hg hc1] at heqs
     refine au [12,13,5,1,23,2,3,14] ?_
     refine TK.maskL [0,1,2,7,8] ?_
     refine TK.kp [(j,_)] ?_
     exact hnext1 _ _ _ oQ ⟨u+1,rfl,oQ,oQ,heqs,rfl,rfl⟩
    have hf:scanSorted ltInt d1 b i=u:=by rw [<- heqs]; exact qg (.inr hc1)
    refine au [16,4,4] ?_
    refine TK.maskL [0,1,2,7,8] ?_
    refine TK.kp [(j,_)] ?_
    exact H () hf
   have hf:scanSorted ltInt d1 b i=u:=by rw [<- heqs]; exact qg (.inl (by simp at g5_4; omega))
   refine TD.u [0,20] Z ?_
   refine TD.u [7,20] Z ?_
   refine TD.u [20,21,22] Z ?_
   refine TD.u [20,23] Z ?_
   refine TD.u [0,20] Z ?_
   refine TD.u [7,20] Z ?_
   refine TD.u [20,26] Z ?_
   refine TD.u [20,25,27] Z ?_
   refine TD.u [20,28] Z ?_
   refine TD.u [20,24,29] Z ?_
   refine TD.u [20,30] Z ?_
   refine TD.z [20,31] Z (yf Z Z Z) ?_
   refine TD.fin ?_
   refine au [19,16,4,4] ?_
   refine TK.maskL [0,1,2,7,8] ?_
   refine TK.kp [(j,_)] ?_
   exact H () hf
  ·rintro _ hsc
   refine TK.na nQ ?_
   refine au [5,1,1,6,3,20] ?_
   refine ⟨fun hc2=>?_,fun hc2=>?_⟩
   ·have hq1:partialInsertionSort ltInt d a b=(d1,true):=heq.symm.trans (pi_T hsc (by simp at hc2; omega))
    refine au [4,5,2,3] ?_
    refine TK.rt hret [(j,_)] ?_
    exact ⟨_,hq1,rfl,rfl⟩
   have hub2:¬ u=b:=fun h=>by rw [h] at hc2; simp at hc2
   refine au [12,4,4,5,1,1,24,6,3,20] ?_
   refine ⟨fun hc3=>?_,fun hc3=>?_⟩
   ·have hq1:partialInsertionSort ltInt d a b=(d1,false):=heq.symm.trans (pi_F hsc hub2 (by simp at hc3; omega))
    refine au [4,5,2,3] ?_
    refine TK.rt hret [(j,_)] ?_
    exact ⟨_,hq1,rfl,rfl⟩
   have h50:¬ b - a<50:=by simp at hc3; omega
   refine au [12,4] ?_
   refine TK.dr [0,1,2,3,4,5,6,7,8,9,10,11,12,13,14,15,16,17] [0,1,5,6,7,8,9,10,11,12,13,14,15,2,3,4,16,17] ?_
   refine TD.mv [0] ?_
   refine TD.mv [7] ?_
   refine TD.mv [0] ?_
   refine TD.mv [7] ?_
   refine TD.z [45] Z (q_sub Z Z Z oQ) ?_
   refine TD.mv [0] ?_
   refine TD.mv [7] ?_
   refine TD.z [48] Z (q_sub Z Z Z oQ) ?_
   refine TD.ix [47,49] ?_
   refine TD.y [50] Z (hq:=zm Z Z zi.h (mC _) (jA (i:=u - 1) oQ oQ)) (h:=?_)
   refine TD.mv [0] ?_
   refine TD.mv [7] ?_
   refine TD.ix [52,53] ?_
   refine TD.y [54] Z (hq:=zm Z Z zi.h (mC _) (jA (i:=u) oQ oQ)) (h:=?_)
   refine TD.ix [42,43] ?_
   refine TD.s (pend':=[⟨12,[52,53],[]⟩,⟨11,[7],[]⟩,⟨10,[0],[]⟩,⟨4,[45],[]⟩,⟨3,[7],[]⟩,⟨2,[0],[]⟩]) [51,56] Z Z (zX Z Z zi.h Z Z mQ (jB (k:=u) oQ oQ)) ?_
   refine TD.ix [44,46] ?_
   refine TD.s (pend':=[]) [55,57] Z Z (zX Z Z zi.h Z Z mQ (jC (i:=u) (j:=u - 1) oQ oQ)) ?_
   refine TD.fin ?_
   refine au [4,4] ?_
   refine' TK.shr (X:=Array Int) (D:=fun x=>x.size=n/\x=if u - a>=2 then shiftDown ltInt (u - 1) (swp d1 u (u - 1)) else swp d1 u (u - 1)) (E:=fun x=>.sl j 0 n::intA a::intA b::naL 4 (intA u::intA (5 - ((s+1:Nat):Int))::naL 124 [])) (KK:=fun x=>[(j,.row (x.toList.map intA) 3 1)]) ?_ ?_
   rotate_left
   ·intro H
    obtain ⟨d2,hd2⟩:∃ d2,d2=swp d1 u (u - 1):=⟨_,rfl⟩
    have hs2:d2.size=n:=by rw [hd2]; exact jD hs1
    rw [<- hd2]
    refine au [5,1,1,24,6,3,20] ?_
    refine ⟨fun hc4=>?_,fun hc4=>?_⟩
    ·have h2:u - a>=2:=by simp at hc4; omega
     refine au [4,5,1,24,2,3,13] ?_
     refine TK.maskL [0,1,2,7,8,9] ?_
     refine TK.loopN (fun n1 env K=>∃ (v:Nat) (d3:Array Int),n1=v/\v<=u - 1/\d3.size=n/\shiftDown ltInt v d3=shiftDown ltInt (u - 1) d2/\env=.sl j 0 n::intA a::intA b::naL 4 (intA u::intA (5 - ((s+1:Nat):Int))::intA v::naL 123 [])/\K=[(j,.row (d3.toList.map intA) 3 1)]) (u - 1) ⟨u - 1,d2,rfl,mL _,hs2,rfl,by rw [show (u:Int) - 1=((u - 1:Nat):Int) by omega] <;> rfl,rfl⟩ fun n1 env K hI hnext2=>?_
     obtain ⟨v,d3,hnv,hvu,hs3,heq3,rfl,rfl⟩:=hI
     subst n1
     refine TK.na nQ ?_
     refine au [4,4,5,1,6,3,20] ?_
     refine ⟨fun hc5=>?_,fun hc5=>?_⟩
     ·obtain ⟨q,rfl⟩:∃ q,v=q+1:=⟨v - 1,by simp at hc5; omega⟩
      refine au [12,4,13,4,4] ?_
      refine TK.dr [0,1,2,3,4,5,6,7,8,9,10] [0,1,2,3,4,5,6,7,8,9,10] ?_
      refine TD.mv [0] ?_
      refine TD.mv [9] ?_
      refine TD.ix [68,69] ?_
      refine TD.y [70] Z (hq:=zm Z Z zi.h (mC _) (jA (i:=q+1) oQ oQ)) (h:=?_)
      refine TD.mv [0] ?_
      refine TD.mv [9] ?_
      refine TD.z [73] Z (q_sub Z Z Z oQ) ?_
      refine TD.ix [72,74] ?_
      refine TD.y [75] Z (hq:=zm Z Z zi.h (mC _) (jA (i:=q) oQ oQ)) (h:=?_)
      refine TD.cl (pend':=[⟨7,[72,74],[]⟩,⟨6,[73],[]⟩,⟨5,[9],[]⟩,⟨4,[0],[]⟩,⟨2,[68,69],[]⟩,⟨1,[9],[]⟩,⟨0,[0],[]⟩]) [71,76] Z Z Z Z Z (zg9 hT) (fun r16 K17 h18=>⟨?_,?_⟩)
      ·rcases h18 with ⟨rfl,rfl⟩
       all_goals simp
      obtain ⟨rfl,rfl⟩:=h18
      try simp only [cA]
      refine TD.norm tQ ?_
      refine TD.z [77] Z (q_not Z Z) ?_
      refine TD.fin ?_
      refine au [20] ?_
      refine ⟨fun hc6=>?_,fun hc6=>?_⟩
      ·have hx3:d3.size=n/\d3=if u - a>=2 then shiftDown ltInt (u - 1) d2 else d2:=⟨hs3,by rw [if_pos h2,<- heq3]; exact (jad hc6).symm⟩
       refine au [16,4] ?_
       refine TK.maskL [0,1,2,7,8] ?_
       refine TK.kp [(j,_)] ?_
       exact H _ (hd2 ▸ hx3)
      refine au [12] ?_
      refine TK.dr [0,1,2,3,4,5,6,7,8,9,10,11,12,13,14,15,16,17] [0,1,5,6,7,8,9,10,11,12,13,14,15,2,3,4,16,17] ?_
      refine TD.mv [0] ?_
      refine TD.mv [9] ?_
      refine TD.mv [0] ?_
      refine TD.mv [9] ?_
      refine TD.z [82] Z (q_sub Z Z Z oQ) ?_
      refine TD.mv [0] ?_
      refine TD.mv [9] ?_
      refine TD.z [85] Z (q_sub Z Z Z oQ) ?_
      refine TD.ix [84,86] ?_
      refine TD.y [87] Z (hq:=zm Z Z zi.h (mC _) (jA (i:=q) oQ oQ)) (h:=?_)
      refine TD.mv [0] ?_
      refine TD.mv [9] ?_
      refine TD.ix [89,90] ?_
      refine TD.y [91] Z (hq:=zm Z Z zi.h (mC _) (jA (i:=q+1) oQ oQ)) (h:=?_)
      refine TD.ix [79,80] ?_
      refine TD.s (pend':=[⟨12,[89,90],[]⟩,⟨11,[9],[]⟩,⟨10,[0],[]⟩,⟨4,[82],[]⟩,⟨3,[9],[]⟩,⟨2,[0],[]⟩]) [88,93] Z Z (zX Z Z zi.h Z Z mQ (jB (k:=q+1) oQ oQ)) ?_
      refine TD.ix [81,83] ?_
      refine TD.s (pend':=[]) [92,94] Z Z (zX Z Z zi.h Z Z mQ (jC (i:=q+1) (j:=q) oQ oQ)) ?_
      refine TD.fin ?_
      refine au [14,5,1,24,2,3] ?_
      refine TK.maskL [0,1,2,7,8,9] ?_
      refine TK.kp [(j,_)] ?_
      exact hnext2 _ _ _ oQ ⟨q,swp d3 (q+1) q,rfl,oQ,jD hs3,(sd_go hc6).symm.trans heq3,by rw [show ((q+1:Nat):Int) - 1=(q:Int) by omega]; rfl,rfl⟩
     obtain rfl:v=0:=by simp at hc5; omega
     have hx3:d3.size=n/\d3=if u - a>=2 then shiftDown ltInt (u - 1) d2 else d2:=⟨hs3,by rw [if_pos h2,<- heq3]; rfl⟩
     refine au [16,4] ?_
     refine TK.maskL [0,1,2,7,8] ?_
     refine TK.kp [(j,_)] ?_
     exact H _ (hd2 ▸ hx3)
    have hx3:d2.size=n/\d2=if u - a>=2 then shiftDown ltInt (u - 1) d2 else d2:=⟨hs2,(if_neg (by simp at hc4; omega)).symm⟩
    refine au [12,4] ?_
    refine TK.maskL [0,1,2,7,8] ?_
    refine TK.kp [(j,_)] ?_
    exact H _ (hd2 ▸ hx3)
   ·rintro d3 ⟨hs3,hd3e⟩
    refine TK.na nQ ?_
    refine' TK.shr (X:=Array Int) (D:=fun x=>x.size=n/\x=if b - u>=2 then shiftUp ltInt b (u+1) d3 else d3) (E:=fun x=>.sl j 0 n::intA a::intA b::naL 4 (intA u::intA (5 - ((s+1:Nat):Int))::naL 124 [])) (KK:=fun x=>[(j,.row (x.toList.map intA) 3 1)]) ?_ ?_
    rotate_left
    ·intro H
     refine au [5,1,1,24,6,3,20] ?_
     refine ⟨fun hc7=>?_,fun hc7=>?_⟩
     ·have h3:b - u>=2:=by simp at hc7; omega
      refine au [4,5,1,23,2,3,13] ?_
      refine TK.maskL [0,1,2,7,8,10] ?_
      refine TK.loopN (fun n1 env K=>∃ (v:Nat) (d4:Array Int),n1=b - v/\u+1<=v/\v<=b/\d4.size=n/\shiftUp ltInt b v d4=shiftUp ltInt b (u+1) d3/\env=.sl j 0 n::intA a::intA b::naL 4 (intA u::intA (5 - ((s+1:Nat):Int))::.any::intA v::naL 122 [])/\K=[(j,.row (d4.toList.map intA) 3 1)]) (b - (u+1)) ⟨u+1,d3,rfl,mL _,oQ,hs3,rfl,rfl,rfl⟩ fun n1 env K hI hnext3=>?_
      obtain ⟨v,d4,rfl,huv,hvb,hs4,heq4,rfl,rfl⟩:=hI
      refine TK.na nQ ?_
      refine au [4,4,5,1,1,6,3,20] ?_
      refine ⟨fun hc8=>?_,fun hc8=>?_⟩
      ·have hvl:v<b:=by simp at hc8; omega
       refine au [12,4,13,4,4] ?_
       refine TK.dr [0,1,2,3,4,5,6,7,8,9,10] [0,1,2,3,4,5,6,7,8,9,10] ?_
       refine TD.mv [0] ?_
       refine TD.mv [10] ?_
       refine TD.ix [106,107] ?_
       refine TD.y [108] Z (hq:=zm Z Z zi.h (mC _) (jA (i:=v) oQ oQ)) (h:=?_)
       refine TD.mv [0] ?_
       refine TD.mv [10] ?_
       refine TD.z [111] Z (q_sub Z Z Z oQ) ?_
       refine TD.ix [110,112] ?_
       refine TD.y [113] Z (hq:=zm Z Z zi.h (mC _) (jA (i:=v - 1) oQ oQ)) (h:=?_)
       refine TD.cl (pend':=[⟨7,[110,112],[]⟩,⟨6,[111],[]⟩,⟨5,[10],[]⟩,⟨4,[0],[]⟩,⟨2,[106,107],[]⟩,⟨1,[10],[]⟩,⟨0,[0],[]⟩]) [109,114] Z Z Z Z Z (zg9 hT) (fun r25 K26 h27=>⟨?_,?_⟩)
       ·rcases h27 with ⟨rfl,rfl⟩
        all_goals simp
       obtain ⟨rfl,rfl⟩:=h27
       try simp only [cA]
       refine TD.norm tQ ?_
       refine TD.z [115] Z (q_not Z Z) ?_
       refine TD.fin ?_
       refine au [20] ?_
       refine ⟨fun hc9=>?_,fun hc9=>?_⟩
       ·have hx4:d4.size=n/\d4=if b - u>=2 then shiftUp ltInt b (u+1) d3 else d3:=⟨hs4,by rw [if_pos h3,<- heq4]; exact (jag hvl hc9).symm⟩
        refine au [16,14] ?_
        refine TK.maskL [0,1,2,7,8] ?_
        refine TK.kp [(j,_)] ?_
        exact H _ hx4
       refine au [12] ?_
       refine TK.dr [0,1,2,3,4,5,6,7,8,9,10,11,12,13,14,15,16,17] [0,1,5,6,7,8,9,10,11,12,13,14,15,2,3,4,16,17] ?_
       refine TD.mv [0] ?_
       refine TD.mv [10] ?_
       refine TD.mv [0] ?_
       refine TD.mv [10] ?_
       refine TD.z [120] Z (q_sub Z Z Z oQ) ?_
       refine TD.mv [0] ?_
       refine TD.mv [10] ?_
       refine TD.z [123] Z (q_sub Z Z Z oQ) ?_
       refine TD.ix [122,124] ?_
       refine TD.y [125] Z (hq:=zm Z Z zi.h (mC _) (jA (i:=v - 1) oQ oQ)) (h:=?_)
       refine TD.mv [0] ?_
       refine TD.mv [10] ?_
       refine TD.ix [127,128] ?_
       refine TD.y [129] Z (hq:=zm Z Z zi.h (mC _) (jA (i:=v) oQ oQ)) (h:=?_)
       refine TD.ix [117,118] ?_
       refine TD.s (pend':=[⟨12,[127,128],[]⟩,⟨11,[10],[]⟩,⟨10,[0],[]⟩,⟨4,[120],[]⟩,⟨3,[10],[]⟩,⟨2,[0],[]⟩]) [126,131] Z Z (zX Z Z zi.h Z Z mQ (jB (k:=v) oQ oQ)) ?_
       refine TD.ix [119,121] ?_
       refine TD.s (pend':=[]) [130,132] Z Z (zX Z Z zi.h Z Z mQ (jC (i:=v) (j:=v - 1) oQ oQ)) ?_
       refine TD.fin ?_
       refine au [14,5,1,23,2,3] ?_
       refine TK.maskL [0,1,2,7,8,10] ?_
       refine TK.kp [(j,_)] ?_
       exact hnext3 _ _ _ oQ ⟨v+1,swp d4 v (v - 1),rfl,oQ,oQ,jD hs4,(su_go hvl hc9).symm.trans heq4,rfl,rfl⟩
      have hx4:d4.size=n/\d4=if b - u>=2 then shiftUp ltInt b (u+1) d3 else d3:=⟨hs4,by rw [if_pos h3,<- heq4]; exact (jav (by simp at hc8; omega)).symm⟩
      refine au [16,14] ?_
      refine TK.maskL [0,1,2,7,8] ?_
      refine TK.kp [(j,_)] ?_
      exact H _ hx4
     have hx4:d3.size=n/\d3=if b - u>=2 then shiftUp ltInt b (u+1) d3 else d3:=⟨hs3,(if_neg (by simp at hc7; omega)).symm⟩
     refine au [12,14] ?_
     refine TK.maskL [0,1,2,7,8] ?_
     refine TK.kp [(j,_)] ?_
     exact H _ hx4
    ·rintro d4 ⟨hd4,hd4e⟩
     refine TK.na nQ ?_
     refine au [5,1,23,2,3] ?_
     refine TK.maskL [0,1,2,7,8] ?_
     refine TK.kp [(j,_)] ?_
     exact hnext _ _ _ oQ ⟨s,u,d4,rfl,oQ,oQ,oQ,hd4,(pi_go hsc hub2 h50 hd3e hd4e).symm.trans heq,by rw [show (5:Int) - ((s+1:Nat):Int)+1=5 - (s:Int) by omega] <;> rfl,rfl⟩
 obtain rfl:s1=0:=by simp at hc0; omega
 have hq1:partialInsertionSort ltInt d a b=(d1,false):=heq.symm
 refine au [16,4,5,2,3] ?_
 refine TK.rt hret [(j,_)] ?_
 exact ⟨_,hq1,rfl,rfl⟩
instance:Cal tp 219:={}
instance:Cal tp 220:={}
instance:TyZA tp 263 [.v (.int .u64 0)]:={}
instance:Und tp 263 (.int .u64):={}
theorem xY {main T} (hT:zo tp main T) {gm} {j n a b:Nat} {d:Array Int} (hd:d.size=n) (hn:n<256) (h8:a+8<=b) (hb:b<=n) :
  zA tp T gm 190 [.sl j 0 n,intA a,intA b] [(j,.row (d.toList.map intA) 3 1)] (fun r K'=>∃ d',PermIn a b d d'/\K'=[(j,.row (d'.toList.map intA) 3 1)]):=by
 refine zp 65 hT Tryz.func190 fun Y hret=>?_
 refine au [4,5,1,1,24,2,3,4] ?_
 rw [show (b:Int) - (a:Int)=((b - a:Nat):Int) by omega]
 refine au [5,1,6,3,20] ?_
 refine ⟨fun hc0=>?_,fun hc0=>?_⟩
 ·refine au [4,5,1] ?_
  refine TK.a Z (yU Z Z Und.h Und.h (zbZ (n:=b - a) oQ)) ?_
  refine au [22] ?_
  intro jx hjx
  refine au [17,3,4,5,1] ?_
  refine TK.cl Z Z Z Z (qv hT (n:=b - a) oQ oQ) ?_
  rintro r1 K2 ⟨M,hM1,hM2,rfl,rfl⟩
  refine au [2,3,4,5,1,1] ?_
  refine TK.a Z (jI Z Z Z oQ oQ oQ) ?_
  refine TK.a Z (q_mul Z Z Z oQ) ?_
  refine au [23,24,2,3,13] ?_
  refine TK.maskL [0,1,6,7,8,9] ?_
  obtain ⟨s0,hs0⟩:∃ s0:Nat,s0=a+(b - a) / 4*2 - 1:=⟨_,rfl⟩
  refine TK.kp [(j,_),(jx,_)] ?_
  refine TK.loopN (fun n1 env K=>∃ (t:Nat) (x:Int) (d1:Array Int),n1=3 - t/\t<=3/\PermIn a b d d1/\d1.size=n/\env=.sl j 0 n::intA a::naL 4 (intA ((b - a:Nat):Int)::.ptr jx 0::.v (.int .u64 (M:Int))::intA (s0+t:Nat)::naL 55 [])/\K=[(j,.row (d1.toList.map intA) 3 1),(jx,.cells [.v (.int .u64 x)] 263 true)]) 3 ⟨0,_,d,rfl,oQ,permIn_refl d a b,hd,by rw [show (a:Int)+((b - a:Nat):Int) / 4*2 - 1=((s0+0:Nat):Int) by omega] <;> rfl,rfl⟩ fun n1 env K hI hnext=>?_
  obtain ⟨t,x,d1,rfl,ht,hperm,hs1,rfl,rfl⟩:=hI
  refine TK.na nQ ?_
  refine au [4,4,5,1,1,1] ?_
  refine TK.a Z (jI Z Z Z oQ oQ oQ) ?_
  refine TK.a Z (q_mul Z Z Z oQ) ?_
  refine au [23,23,6,3,20] ?_
  refine ⟨fun hc1=>?_,fun hc1=>?_⟩
  ·have ht3:t<3:=by simp at hc1; omega
   refine au [12,4,13,4,5] ?_
   refine TK.cl Z Z Z Z (qu hT) ?_
   rintro r4 K5 ⟨y,hy0,hy1,rfl,rfl⟩
   refine au [1] ?_
   refine TK.a Z (qZ Z Z Z oQ) ?_
   rw [show (M:Int) - 1=((M - 1:Nat):Int) by omega]
   refine TK.a Z (qX Z Z Z) ?_
   refine' TK.shr (X:=Nat) (D:=fun x=>x<b - a) (E:=fun x=>.sl j 0 n::intA a::naL 4 (intA ((b - a:Nat):Int)::.ptr jx 0::.v (.int .u64 (M:Int))::intA (s0+t:Nat)::intA x::naL 54 [])) (KK:=fun x=>[(j,.row (d1.toList.map intA) 3 1),(jx,.cells [.v (.int .u64 y)] 263 true)]) ?_ ?_
   rotate_left
   ·intro H
    have hw:=qJ y (b:=M - 1) oQ
    obtain ⟨w,hwe⟩:∃ w:Nat,andW y ((M - 1:Nat):Int)=(w:Int):=⟨(andW y ((M - 1:Nat):Int)).toNat,oQ⟩
    rw [hwe] at hw ⊢
    refine TK.a Z (yU Z Z Und.h Und.h (wK oQ)) ?_
    refine au [2,3,4,4,5,1,1,6,3,20] ?_
    refine ⟨fun hc2=>?_,fun hc2=>?_⟩
    ·have hwl:b - a<=w:=by simp at hc2; omega
     refine au [5,1,1,24] ?_
     rw [show (w:Int) - ((b - a:Nat):Int)=((w - (b - a):Nat):Int) by omega]
     refine au [2,3] ?_
     refine TK.maskL [0,1,6,7,8,9,10] ?_
     refine TK.kp [(j,_),(jx,_)] ?_
     exact H _ oQ
    have hwl:w<b - a:=by simp at hc2; omega
    refine au [12] ?_
    refine TK.maskL [0,1,6,7,8,9,10] ?_
    refine TK.kp [(j,_),(jx,_)] ?_
    exact H _ oQ
   ·rintro o ho
    refine TK.na nQ ?_
    refine TK.dr [0,1,2,3,4,5,6,7,8,9,10,11,12,13,14,15,16,17,18,19] [0,1,6,7,8,9,10,11,12,13,14,15,16,17,2,3,4,5,18,19] ?_
    refine TD.mv [0] ?_
    refine TD.mv [9] ?_
    refine TD.mv [0] ?_
    refine TD.mv [1] ?_
    refine TD.mv [10] ?_
    refine TD.z [50,51] Z (q_add Z Z Z oQ) ?_
    refine TD.mv [0] ?_
    refine TD.mv [1] ?_
    refine TD.mv [10] ?_
    refine TD.z [54,55] Z (q_add Z Z Z oQ) ?_
    refine TD.ix [53,56] ?_
    refine TD.y [57] Z (hq:=zm Z Z zi.h (mC _) (jA (i:=a+o) oQ oQ)) (h:=?_)
    refine TD.mv [0] ?_
    refine TD.mv [9] ?_
    refine TD.ix [59,60] ?_
    refine TD.y [61] Z (hq:=zm Z Z zi.h (mC _) (jA (i:=s0+t) oQ oQ)) (h:=?_)
    refine TD.ix [47,48] ?_
    refine TD.s (pend':=[⟨14,[59,60],[]⟩,⟨13,[9],[]⟩,⟨12,[0],[]⟩,⟨5,[50,51],[]⟩,⟨4,[10],[]⟩,⟨3,[1],[]⟩,⟨2,[0],[]⟩]) [58,63] Z Z (zX Z Z zi.h Z Z mQ (jB (k:=s0+t) oQ oQ)) ?_
    refine TD.ix [49,52] ?_
    refine TD.s (pend':=[]) [62,64] Z Z (zX Z Z zi.h Z Z mQ (jC (i:=s0+t) (j:=a+o) oQ oQ)) ?_
    refine TD.fin ?_
    refine au [14,5,1,23,2,3] ?_
    refine TK.maskL [0,1,6,7,8,9] ?_
    refine TK.kp [(j,_),(jx,_)] ?_
    exact hnext _ _ _ oQ ⟨t+1,y,swp d1 (s0+t) (a+o),rfl,oQ,permIn_trans _ _ _ a b hperm (swp_permIn d1 a b _ _ oQ oQ oQ oQ oQ),jD hs1,rfl,rfl⟩
  refine au [16] ?_
  refine TK.rt0 hret [(j,_)] ?_
  exact ⟨d1,hperm,rfl⟩
 simp at hc0; omega
instance:Cal tp 189:={}
instance:Cal tp 190:={}
instance:Cal tp 191:={}
instance:Cal tp 192:={}
instance:Cal tp 193:={}
instance:Cal tp 195:={}
instance:Cal tp 196:={}
theorem qV {main T} (hT:zo tp main T) {gm} {j n:Nat} (hn:n<256):∀ (m a b:Nat) (lim:Int) (d:Array Int),b - a=m->d.size=n->a<=b->b<=n->0<=lim/\lim<=1000->Below ltInt a b d ->
  zA tp T gm 160 [.sl j 0 n,intA a,intA b,intA lim] [(j,.row (d.toList.map intA) 3 1)] (fun r K'=>∃ d',PermIn a b d d'/\SortedIn ltInt a b d'/\K'=[(j,.row (d'.toList.map intA) 3 1)]):=by
 intro m
 induction m using Nat.strongRecOn with | ind m ih=>?_
 intro a b lim d hm hd hab hb hlim hB
 refine zp 134 hT Tryz.func160 fun Y hret=>?_
 refine au [4,5,2,3,4,5,2,3,13] ?_
 refine TK.maskL [0,1,2,3,8,9] ?_
 refine TK.loopN (fun n1 env K=>∃ (u v:Nat) (l:Int) (w1 w2:Bool) (d1:Array Int),n1=v - u/\v - u<=m/\u<=v/\v<=n/\(0<=l/\l<=1000)/\d1.size=n/\Below ltInt u v d1/\(∀ R,PermIn u v d1 R->SortedIn ltInt u v R->PermIn a b d R/\SortedIn ltInt a b R)/\env=.sl j 0 n::intA u::intA v::intA l::naL 4 (zP w1::zP w2::naL 124 [])/\K=[(j,.row (d1.toList.map intA) 3 1)]) (b - a) ⟨a,b,lim,true,true,d,rfl,oQ,hab,hb,hlim,hd,hB,fun R h1 h2=>⟨h1,h2⟩,rfl,rfl⟩ fun n1 env K hI hnext=>?_
 obtain ⟨u,v,l,w1,w2,d1,rfl,hm1,huv,hvn,hl,hs1,hB1,hfin,rfl,rfl⟩:=hI
 refine TK.na nQ ?_
 refine au [13,4,5,1,1,24,2,3,4,4] ?_
 rw [show (v:Int) - (u:Int)=((v - u:Nat):Int) by omega]
 refine au [5,1,6,3,20] ?_
 refine ⟨fun hc0=>?_,fun hc0=>?_⟩
 ·have hq:=insertionSort_holds swo_ltInt d1 u v huv oQ
  have hz:=hfin _ hq.1 hq.2
  refine au [4,5,1,1,1] ?_
  refine TK.cl Z Z Z Z (qP hT (d:=d1) hs1 oQ huv hvn) ?_
  rintro r1 K2 rfl
  refine au [3] ?_
  refine TK.rt hret [(j,_)] ?_
  exact ⟨_,hz.1,hz.2,rfl⟩
 have h12:12<v - u:=by simp at hc0; omega
 refine au [12,4,4,5,1,6,3,20] ?_
 refine ⟨fun hc1=>?_,fun hc1=>?_⟩
 ·have hq:=heapSort_holds swo_ltInt d1 u v huv oQ
  have hz:=hfin _ hq.1 hq.2
  refine au [4,5,1,1,1] ?_
  refine TK.cl Z Z Z Z (qr hT (d:=d1) hs1 oQ oQ hvn) ?_
  rintro r4 K5 rfl
  refine au [3] ?_
  refine TK.rt hret [(j,_)] ?_
  exact ⟨_,hz.1,hz.2,rfl⟩
 refine' TK.shr (X:=Int×Array Int) (D:=fun x=>(0<=x.1/\x.1<=1000)/\PermIn u v d1 x.2) (E:=fun x=>.sl j 0 n::intA u::intA v::intA x.1::naL 4 (zP w1::zP w2::intA ((v - u:Nat):Int)::naL 123 [])) (KK:=fun x=>[(j,.row (x.2.toList.map intA) 3 1)]) ?_ ?_
 rotate_left
 ·intro H
  have hl0:l≠0:=fun h=>by rw [h] at hc1; simp at hc1
  refine au [12,4,4,5,1,30,3,20] ?_
  refine ⟨fun hc2=>?_,fun hc2=>?_⟩
  ·refine au [4,5,1,1,1] ?_
   refine TK.cl Z Z Z Z (xY hT (d:=d1) hs1 hn oQ hvn) ?_
   rintro r7 K8 ⟨d2,hp2,rfl⟩
   refine au [3,5,1,24,2,3,4] ?_
   refine TK.maskL [0,1,2,3,8,9,10] ?_
   refine TK.kp [(j,_)] ?_
   exact H (l - 1,d2) ⟨by omega,hp2⟩
  have hp2:=permIn_refl d1 u v
  refine au [12,4] ?_
  refine TK.maskL [0,1,2,3,8,9,10] ?_
  refine TK.kp [(j,_)] ?_
  exact H (l,d1) ⟨by omega,hp2⟩
 ·rintro ⟨l2,d2⟩ ⟨hl2,hp2⟩; dsimp only at hl2 hp2 ⊢; have hs2:d2.size=n:=hp2.1.trans hs1; have hB2:=hB1.perm oQ hp2; have hfin2:∀ R,PermIn u v d2 R->SortedIn ltInt u v R->PermIn a b d R/\SortedIn ltInt a b R:=fun R h1 h2=>hfin R (permIn_trans _ _ _ u v hp2 h1) h2
  refine TK.na nQ ?_
  refine' TK.shr (X:=Nat×Int×Array Int) (D:=fun x=>(u<=x.1/\x.1<v)/\PermIn u v d2 x.2.2) (E:=fun x=>.sl j 0 n::intA u::intA v::intA l2::naL 4 (zP w1::zP w2::intA ((v - u:Nat):Int)::intA x.1::intA x.2.1::naL 121 [])) (KK:=fun x=>[(j,.row (x.2.2.toList.map intA) 3 1)]) ?_ ?_
  rotate_left
  ·intro H
   refine au [5,1,1,1] ?_
   refine TK.cl Z Z Z Z (qW hT (d:=d2) hs2 oQ oQ hvn) ?_
   rintro r214 K215 ⟨p,hh,hp1,hpv,rfl,rfl⟩
   refine au [1,10,10,2,2,3,4,4,5,1,6,3,20] ?_
   refine ⟨fun hc3=>?_,fun hc3=>?_⟩
   ·have hp3:=reverseRange_holds d2 u v huv oQ
    refine au [4,5,1,1,1] ?_
    refine TK.cl Z Z Z Z (jab hT (d:=d2) hs2 oQ oQ hvn) ?_
    rintro r217 K218 rfl
    refine au [3,4,5,1,24,1,1,24,24,2] ?_
    rw [show (v:Int) - 1 - ((p:Int) - (u:Int))=((v - 1 - (p - u):Nat):Int) by omega]
    refine au [3,5,2,3,4,4] ?_
    refine TK.maskL [0,1,2,3,8,9,10,11,12] ?_
    refine TK.kp [(j,_)] ?_
    exact H (v - 1 - (p - u),1,_) ⟨by omega,hp3⟩
   have hp3:=permIn_refl d2 u v
   refine au [12,4,4] ?_
   refine TK.maskL [0,1,2,3,8,9,10,11,12] ?_
   refine TK.kp [(j,_)] ?_
   exact H (p,hh,d2) ⟨by omega,hp3⟩
  ·rintro ⟨p,hh,d3⟩ ⟨⟨hpu,hpv⟩,hp3⟩; dsimp only at hpu hpv hp3 ⊢; have hs3:d3.size=n:=hp3.1.trans hs2; have hB3:=hB2.perm oQ hp3; have hfin3:∀ R,PermIn u v d3 R->SortedIn ltInt u v R->PermIn a b d R/\SortedIn ltInt a b R:=fun R h1 h2=>hfin2 R (permIn_trans _ _ _ u v hp3 h1) h2
   refine TK.na nQ ?_
   refine' TK.shr (X:=Array Int) (D:=fun x=>PermIn u v d3 x) (E:=fun x=>.sl j 0 n::intA u::intA v::intA l2::naL 4 (zP w1::zP w2::intA ((v - u:Nat):Int)::intA p::naL 122 [])) (KK:=fun x=>[(j,.row (x.toList.map intA) 3 1)]) ?_ ?_
   rotate_left
   ·intro H
    refine au [5,1,1] ?_
    refine TK.sp 62 (fun g15_2=>?_) (fun g15_2=>?_)
    ·refine au [1,26,1] ?_
     refine TK.sp 65 (fun g15_5=>?_) (fun g15_5=>?_)
     ·refine au [1,6,26,3,20] ?_
      refine ⟨fun hc4=>?_,fun hc4=>?_⟩
      ·refine au [4,5,1,1,1] ?_
       refine TK.cl Z Z Z Z (qU hT (d:=d3) hs3 oQ oQ hvn) ?_
       rintro r319 K320 ⟨q,hqe,rfl,rfl⟩
       refine au [3,20] ?_
       refine ⟨fun hc5=>?_,fun hc5=>?_⟩
       ·have hpi:=partialInsertionSort_holds swo_ltInt d3 u v oQ oQ hB3
        rw [hqe] at hpi
        have hz:=hfin3 _ hpi.1 (hpi.2 hc5)
        refine au [] ?_
        refine TK.rt hret [(j,_)] ?_
        exact ⟨_,hz.1,hz.2,rfl⟩
       have hp4:=(partialInsertionSort_holds swo_ltInt d3 u v oQ oQ hB3).1
       rw [hqe] at hp4
       refine au [12,4,4] ?_
       refine TK.maskL [0,1,2,3,8,9,10,11] ?_
       refine TK.kp [(j,_)] ?_
       exact H _ hp4
      have hp4:=permIn_refl d3 u v
      refine au [12,4,4] ?_
      refine TK.maskL [0,1,2,3,8,9,10,11] ?_
      refine TK.kp [(j,_)] ?_
      exact H _ hp4
     have hp4:=permIn_refl d3 u v
     refine au [11,11,25,3,19,12,4,4] ?_
     refine TK.maskL [0,1,2,3,8,9,10,11] ?_
     refine TK.kp [(j,_)] ?_
     exact H _ hp4
    have hp4:=permIn_refl d3 u v
    refine au [11,25,1,11,11,25,3,19,12,4,4] ?_
    refine TK.maskL [0,1,2,3,8,9,10,11] ?_
    refine TK.kp [(j,_)] ?_
    exact H _ hp4
   ·rintro d4 hp4; have hs4:d4.size=n:=hp4.1.trans hs3; have hB4:=hB3.perm oQ hp4; have hfin4:∀ R,PermIn u v d4 R->SortedIn ltInt u v R->PermIn a b d R/\SortedIn ltInt a b R:=fun R h1 h2=>hfin3 R (permIn_trans _ _ _ u v hp4 h1) h2
    refine TK.na nQ ?_
    refine' TK.shr (X:=Unit) (D:=fun x=>True) (E:=fun x=>.sl j 0 n::intA u::intA v::intA l2::naL 4 (zP w1::zP w2::intA ((v - u:Nat):Int)::intA p::naL 122 [])) (KK:=fun x=>[(j,.row (d4.toList.map intA) 3 1)]) ?_ ?_
    rotate_left
    ·intro H
     refine TK.dr [0,1,2,3,4,5,6,7,8,9,10,11,12,13,14] [0,1,2,3,4,5,6,7,8,9,10,11,12,13,14] ?_
     refine TD.mv [1] ?_
     refine TD.z [73] Z (q_cmp Z Z Z Z) ?_
     refine TD.mv [74] ?_
     refine TD.sp 75 (fun g17_3=>?_) (fun g17_3=>?_)
     ·have hu0:0<u:=by simp at g17_3; omega
      refine TD.mv [0,75] ?_
      refine TD.mv [1,75] ?_
      refine TD.z [75,77] Z (q_sub Z Z Z oQ) ?_
      refine TD.ix [75,76,78] ?_
      refine TD.y [75,79] Z (hq:=zm Z Z zi.h (mC _) (jA (i:=u - 1) oQ oQ)) (h:=?_)
      refine TD.mv [0,75] ?_
      refine TD.mv [11,75] ?_
      refine TD.ix [75,81,82] ?_
      refine TD.y [75,83] Z (hq:=zm Z Z zi.h (mC _) (jA (i:=p) oQ oQ)) (h:=?_)
      refine TD.cl (pend':=[⟨10,[75,81,82],[]⟩,⟨9,[11,75],[]⟩,⟨8,[0,75],[]⟩,⟨6,[75,76,78],[]⟩,⟨5,[75,77],[]⟩,⟨4,[1,75],[]⟩,⟨3,[0,75],[]⟩,⟨1,[73],[]⟩,⟨0,[1],[]⟩]) [75,80,84] Z Z Z Z Z (zg9 hT) (fun r394 K395 h396=>⟨?_,?_⟩)
      ·rcases h396 with ⟨rfl,rfl⟩
       all_goals simp
      obtain ⟨rfl,rfl⟩:=h396
      try simp only [cA]
      refine TD.norm tQ ?_
      refine TD.z [75,85] Z (q_not Z Z) ?_
      refine TD.z [75,86] Z (yE Z Z Z) ?_
      refine TD.fin ?_
      refine au [20] ?_
      refine ⟨fun hc6=>?_,fun hc6=>?_⟩
      ·have hnl:ltInt d4[u - 1]! d4[p]! =false:=by cases hh:ltInt d4[u - 1]! d4[p]! with
        | false=>rfl
        | true=>exact absurd (show (!ltInt d4[u - 1]! d4[p]!)=true from hc6) (by rw [hh]; decide)
       refine au [4,5,1,1,1,1] ?_
       refine TK.cl Z Z Z Z (xT hT (d:=d4) hs4 oQ hpu hpv hvn) ?_
       rintro r397 K398 ⟨q,hqe,rfl,rfl⟩
       refine au [] ?_
       obtain ⟨hr1,hr2,hr3,hr4,hr5⟩:=round_eq swo_ltInt (partitionEqual_holds ltInt) hu0 hpu hpv oQ hB4 hnl (show partitionEqual ltInt d4 u v p=(q.1,q.2) from hqe)
       refine au [2,3,4,5,1,2,3,16] ?_
       refine TK.maskL [0,1,2,3,8,9] ?_
       refine TK.kp [(j,_)] ?_
       exact hnext _ _ _ oQ ⟨q.1,v,l2,w1,w2,q.2,rfl,oQ,oQ,hvn,hl2,hr3.trans hs4,hr4,fun R h1 h2=>(hr5 R h1 h2).elim fun h3 h4=>hfin4 R h3 h4,rfl,rfl⟩
      refine au [12,4] ?_
      refine TK.maskL [0,1,2,3,8,9,10,11] ?_
      refine TK.kp [(j,_)] ?_
      exact H () trivial
     refine TD.u [0,75] Z ?_
     refine TD.u [1,75] Z ?_
     refine TD.u [75,77] Z ?_
     refine TD.u [75,76,78] Z ?_
     refine TD.u [75,79] Z ?_
     refine TD.u [0,75] Z ?_
     refine TD.u [11,75] Z ?_
     refine TD.u [75,81,82] Z ?_
     refine TD.u [75,83] Z ?_
     refine TD.u [75,80,84] Z ?_
     refine TD.u [75,85] Z ?_
     refine TD.z [75,86] Z (yf Z Z Z) ?_
     refine TD.fin ?_
     refine au [19,12,4] ?_
     refine TK.maskL [0,1,2,3,8,9,10,11] ?_
     refine TK.kp [(j,_)] ?_
     exact H () trivial
    ·rintro _ _
     refine TK.na nQ ?_
     refine au [5,1,1,1,1] ?_
     refine TK.cl Z Z Z Z (qx hT (d:=d4) hs4 oQ hpu hpv hvn) ?_
     rintro r409 K410 ⟨q,hqe,rfl,rfl⟩
     refine au [] ?_
     obtain ⟨hr1,hr2,hr3,hr4,hr5,hr6,hr7⟩:=round_part swo_ltInt (partition_holds ltInt) hpu hpv oQ hB4 (show partition ltInt d4 u v p=(q.1,q.2.1,q.2.2) from hqe)
     refine au [1,10,10,2,2,3,4,5,1,2,3,4,5,1,1,24,1,1,24,2,2,3,4] ?_
     rw [show (q.1:Int) - (u:Int)=((q.1 - u:Nat):Int) by omega,show (v:Int) - (q.1:Int)=((v - q.1:Nat):Int) by omega]
     refine au [5,1] ?_
     refine TK.a Z (jI Z Z Z oQ oQ oQ) ?_
     refine au [2,3,4,5,1,1,6,3,20] ?_
     refine ⟨fun hc7=>?_,fun hc7=>?_⟩
     ·refine au [4,5,1,1,6,2,3,4,5,1,1,1,1] ?_
      refine TK.cl Z Z Z Z (ih (q.1 - u) oQ u q.1 l2 q.2.2 Z (by rw [hr3]; exact hs4) hr1 oQ hl2 hr4) ?_
      rintro r412 K413 ⟨L,hL1,hL2,rfl⟩
      refine au [] ?_
      have hbl:=hr6 L hL1 hL2
      refine au [3,5,1,23,2,3,14] ?_
      refine TK.maskL [0,1,2,3,8,9] ?_
      refine TK.kp [(j,_)] ?_
      exact hnext _ _ _ oQ ⟨q.1+1,v,l2,_,q.2.1,L,rfl,oQ,oQ,hvn,hl2,hL1.1.trans (hr3.trans hs4),hbl.1,fun R h1 h2=>(hbl.2 R h1 h2).elim fun h3 h4=>hfin4 R h3 h4,rfl,rfl⟩
     refine au [4,5,1,1,6,2,3,4,5,1,1,23,1,1] ?_
     refine TK.cl Z Z Z Z (ih (v - (q.1+1)) oQ (q.1+1) v l2 q.2.2 Z (by rw [hr3]; exact hs4) oQ hvn hl2 hr5) ?_
     rintro r415 K416 ⟨L,hL1,hL2,rfl⟩
     refine au [] ?_
     have hbl:=hr7 L hL1 hL2
     refine au [3,5,1,2,3,14] ?_
     refine TK.maskL [0,1,2,3,8,9] ?_
     refine TK.kp [(j,_)] ?_
     exact hnext _ _ _ oQ ⟨u,q.1,l2,_,q.2.1,L,rfl,oQ,oQ,oQ,hl2,hL1.1.trans (hr3.trans hs4),hbl.1,fun R h1 h2=>(hbl.2 R h1 h2).elim fun h3 h4=>hfin4 R h3 h4,rfl,rfl⟩
theorem qe {n:Nat} {xs:List Int} {d:Array Int} (hp:PermIn 0 n xs.toArray d) (hs:SortedIn ltInt 0 n d) (hn:xs.length=n):d.toList=xs.mergeSort fun x y=>decide (x<=y):=by
 subst hn
 have:=sorted_unique_holds (lt:=ltInt) swo_ltInt (fun x y h1 h2=>by have h3:=of_decide_eq_false h1; have h4:=of_decide_eq_false h2; omega) xs.toArray d (by simpa using hp) (by simpa using hs)
 rw [this]
 congr 1
 funext x y
 unfold ltInt
 by_cases h:x<=y
 ·rw [decide_eq_true h,decide_eq_false oQ]; rfl
 ·rw [decide_eq_false h,decide_eq_true oQ]; rfl
theorem qF {main T} (hT:zo tp main T) {gm} {j n:Nat} {xs:List Int} (hn:xs.length=n) (h256:n<256) :
  zA tp T gm 131 [.row j n] [(j,.row (xs.map intA) 3 1)] (fun r K'=>K'=[(j,.row ((xs.mergeSort fun x y=>decide (x<=y)).map intA) 3 1)]):=by
 refine zp 11 hT Tryz.func131 fun Y hret=>?_
 refine au [4] ?_
 refine TK.asSl 0 Z (mC _) ?_
 refine au [5,1,28,2,3,5,1,1,1] ?_
 refine TK.a Z (yU Z Z Und.h Und.h (zbZ (n:=n) oQ)) ?_
 refine TK.cl Z Z Z Z (jR hT (n:=n) oQ) ?_ (hs:=(.none _))
 rintro r1 K2 ⟨m,rfl,hm8,hm2,rfl⟩
 refine au [] ?_
 refine TK.cl Z Z Z Z (qV hT (j:=j) (n:=n) h256 n 0 n (m:Int) xs.toArray (Nat.sub_zero n) (by simpa using hn) (mN _) (mL _) oQ (.inl Z)) ?_
 rintro r4 K5 ⟨d2,hp,hs,rfl⟩
 refine au [3] ?_
 refine TK.rt0 hret [(j,_)] ?_
 rw [qe hp hs hn]
end Go.Vel
namespace Go.Vel
open Go Go.Conc Go.Proofs
theorem xG {main:Bool} {T:Goroutine->Hp->Prop} (hT:zo tp main T)  {b:RBk} {s h e:Nat} (hl:b.seams.length<=100) (hm:b.measures.length<=100) {n:Int}  :
  zA tp T gmR 52 [.agg (zE b s h e),intA n] [(0,zy),(s,zk b),(h,zB b),(e,zq b)] (fun r K'=>(bar2 (zr b) (thereM b n)≠0/\r=.tup [.v (.slice none 0 0),intA (bar2 (zr b) (thereM b n))]/\K'=[(0,zy),(s,zk b),(h,zB b),(e,zq b)])\/(bar2 (zr b) (thereM b n)=0/\zf b=[]/\r=.tup [.v (.slice none 0 0),intA 9]/\K'=[(0,zy),(s,zk b),(h,zB b),(e,zq b)])\/(bar2 (zr b) (thereM b n)=0/\zf b≠[]/\∃ jr zs,r=.tup [.sl jr 0 (shrI b n).length,intA 0]/\K'=(jr,.cells ((shrI b n++zs).map intA) 3 false)::[(0,zy),(s,zk b),(h,zB b),(e,zq b)])):=by
 refine zp 40 hT Tryz.func52 fun Y hret=>?_
 refine au [4,5,21] ?_
 intro jb hjb
 refine au [2,2,3,4,5,8,1,32] ?_
 refine TK.newR Z Z Z (zt (l:=[_]) Z zF.h TyZ.h dQ dQ Z) (fun _=>zu rfl tQ) fun ja hja=>?_
 refine TK.cl Z Z Z Z (uH hT (Kx:=[]) (p1:=thereM b n) (fun h0=>yw Cal.h ((ul hT (b:=b) (s:=s) (h:=h) (e:=e) (n:=n) (zZ h0).sms.len.2).frameP (R:=[(s,zk b)]) (List.Perm.refl _))) hl hm) ?_
 rintro r1 K2 h3
 rcases h3 with ⟨hbar,rfl,rfl⟩ | ⟨hbar,hnil,rfl,rfl⟩ | ⟨hbar,hne,a,rfl,rfl⟩
 ·refine au [1,10,10,22] ?_
  intro j6 hj6
  refine au [17,2,3,4,4,5,1,6,3,20] ?_
  refine ⟨fun hc0=>?_,fun hc0=>?_⟩
  ·
   refine au [4,5,1,2,2,3] ?_
   refine TK.rt hret [(0,_),(s,_),(h,_),(e,_)] ?_
   exact .inl ⟨hbar,rfl,rfl⟩
  exact absurd hbar (by simpa using hc0)
 ·refine au [1,10,10,22] ?_
  intro j6 hj6
  refine au [17,2,3,4,4,5,1,6,3,20] ?_
  refine ⟨fun hc0=>?_,fun hc0=>?_⟩
  ·
   refine au [4,5,1,2,2,3] ?_
   refine TK.rt hret [(0,_),(s,_),(h,_),(e,_)] ?_
   exact .inr (.inl ⟨hbar,hnil,rfl,rfl⟩)
  exact absurd hc0 dQ
 ·refine au [1,10,10,22] ?_
  intro j6 hj6
  refine au [17,2,3,4,4,5,1,6,3,20] ?_
  refine ⟨fun hc0=>?_,fun hc0=>?_⟩
  ·exact absurd hc0 sQ
  have hbb:=zZ (kE hbar)
  have hth:=zah (kb hbar)
  have hs5:=hbb.sms.len
  have hpos:0<(zf b).length:=List.length_pos_iff.2 hne
  have hlen:=kf hbb
  refine au [12,4,5,2] ?_
  refine TK.virt 8 3 1 Z fun jt0 hjt0=>?_
  refine au [3,4,4,5,7,9,28,1,3,13] ?_
  refine TK.maskL [1,4,5,6,8,23,24,25] ?_
  refine TK.kp [(a,_),(0,_),(s,_),(h,_),(e,_),(j6,_),(jt0,_)] ?_
  refine TK.loopN (fun n1 env K=>∃ (i jt:Nat),n1=(zf b).length - i/\i<=(zf b).length/\env=.any::intA n::naL 2 (.v (.slice none 0 0)::intA 0::.ptr j6 0::.any::.row jt i::naL 14 (.sl a 0 (zf b).length::intA (zf b).length::intA i::naL 14 []))/\K=[(a,allO (zf b)),(0,zy),(s,zk b),(h,zB b),(e,zq b),(j6,.cells (knownC b s h e a (zf b).length) 139 true),(jt,.row ((((zf b).take i).map fun s=>zN s n.toNat).map intA) 3 1)]) (zf b).length ⟨0,jt0,rfl,mN _,rfl,rfl⟩ fun n1 env K hI hnext=>?_
  obtain ⟨i,jt,rfl,hi,rfl,rfl⟩:=hI
  refine TK.na nQ ?_
  refine au [4,5,6,3,4,20] ?_
  refine ⟨fun hc1=>?_,fun hc1=>?_⟩
  ·have hil:i<(zf b).length:=by simp at hc1; omega
   obtain ⟨st,hst⟩:∃ st,(zf b)[i]? =some st:=⟨_,lA hil⟩
   refine au [12,4,13,4,5,36] ?_
   refine TK.a Z (z8 Z Z zi.h mQ (zaJ (i:=i) hst Z)) ?_
   refine au [22] ?_
   intro j10 hj10
   refine au [17,3,5,1,1] ?_
   refine TK.a Z (wx Z Z Z ArEl.h oQ oQ) ?_
   refine TK.a Z (zm Z Z zi.h mQ (st_at (i:=n.toNat) oQ oQ)) ?_
   refine TK.newR Z Z Z (zt (l:=[_]) Z zF.h TyZ.h dQ dQ Z) (fun _=>zu rfl tQ) fun j4 hj4=>?_
   refine TK.appR Z Z Z (a_app Z ApOf.h Z mQ (by simp; omega) Z (yu (ln:=[_]) mQ dQ sQ Z) oQ Z (by unfold maxLen; omega) oQ) (fun _=>uQ) (fun _=>zu rfl tQ) fun jt2=>?_
   refine au [2,3,14,5,23,1,3] ?_
   refine TK.maskL [1,4,5,6,8,23,24,25] ?_
   refine TK.kp [(a,_),(0,_),(s,_),(h,_),(e,_),(j6,_),(jt2,_)] ?_
   exact hnext _ _ _ oQ ⟨i+1,jt2,rfl,oQ,rfl,by rw [yP hst,lM,lM]; rfl⟩
  obtain rfl:i=(zf b).length:=by simp at hc1; omega
  rw [List.take_of_length_le (mL _)]
  have hsl2:(msI ((zf b).map fun s=>zN s n.toNat)).length=(zf b).length:=by rw [xN,lJ]
  refine au [16,4,5,1] ?_
  refine TK.cl Z Z Z Z (qF hT (xs:=((zf b).map fun s=>zN s n.toNat)) sQ oQ) ?_
  rintro r5 K6 rfl
  refine au [3,4,5,1] ?_
  refine TK.cl Z Z Z Z (zdl hT (xs:=msI ((zf b).map fun s=>zN s n.toNat)) hsl2 oQ) ?_
  rintro r8 K9 h10
  rcases h10 with ⟨zs,rfl,rfl⟩ | ⟨rfl,hcm,rfl⟩
  ·refine au [] ?_
   refine TK.frzRow (j:=jt) ?_
   refine au [2,2,3] ?_
   refine TK.rt hret [(jt,_),(0,_),(s,_),(h,_),(e,_)] ?_
   exact .inr (.inr ⟨hbar,hne,jt,zs,rfl,rfl⟩)
  ·refine au [] ?_
   refine TK.asSl 39 Z (mC _) ?_
   refine TK.frzRow (j:=jt) ?_
   refine au [2,2,3] ?_
   refine TK.rt hret [(jt,_),(0,_),(s,_),(h,_),(e,_)] ?_
   exact .inr (.inr ⟨hbar,hne,jt,[],by unfold shrI setI; rw [hcm,hsl2],by unfold shrI setI; rw [hcm,lR]⟩)
end Go.Vel
namespace Go.Vel
open Go Go.Conc
def lastM (l:List Int):Nat->Option Int
 | 0=>none
 | i+1=>some (zN l i)
theorem jai {b:RBk} {n:Int} (h:betw n 0 (b.seams.length - 1)=true):thereM b n=0:=if_pos h
def clM (b:RBk) (c:Nat) (m:Nat):List Int:=(List.range m).map fun i=>(((c+i) % b.seams.length:Nat):Int)
end Go.Vel
namespace Go.Vel
open Go Go.Conc Go.Proofs
instance:Cal tp 142:={}
instance:Cal tp 58:={}
instance:Cal tp 93:={}
theorem jQ {main T} (hT:zo tp main T) {gm} {j:Nat} {et:TypeId} {l:List Int} {v:Int} (hl:l.length<=1000) :
  zA tp T gm 58 [.sl j 0 l.length,intA v] [(j,.cells (l.map intA) et false)] (fun r K'=>r=zP (decide (v∈l))/\K'=[(j,.cells (l.map intA) et false)]):=by
 refine zp 18 hT Tryz.func58 fun Y hret=>?_
 refine au [4,5,2,3,4,4,5,2,3,13] ?_
 refine TK.maskL [0,1,5] ?_
 refine TK.loopN (fun n0 env K=>∃ (i:Nat),n0=l.length - i/\i<=l.length/\¬ v∈l.take i/\env=.sl j 0 l.length::intA v::naL 3 (intA i::naL 12 [])/\K=[(j,.cells (l.map intA) et false)]) l.length ⟨0,rfl,mN _,by simp,rfl,rfl⟩ fun n0 env K hI hnext=>?_
 obtain ⟨i,rfl,hi,hn,rfl,rfl⟩:=hI
 refine TK.na nQ ?_
 refine au [4,4,5,1,1,28,6,3,20] ?_
 refine ⟨fun hc0=>?_,fun hc0=>?_⟩
 ·have hil:i<l.length:=by simp at hc0; omega
  refine au [12,4,13,4,5,1,1,36] ?_
  refine TK.a Z (zm Z Z zi.h mQ (yh (i:=i) (z5 hil) Z)) ?_
  refine au [1,6,3,20] ?_
  refine ⟨fun hc1=>?_,fun hc1=>?_⟩
  ·refine au [4,5,2,3] ?_
   refine TK.rt hret [(j,_)] ?_
   exact ⟨by rw [decide_eq_true (show v∈l by have h:zN l i=v:=eq_of_beq hc1; rw [<- h]; exact zgU hil)],rfl⟩
  refine au [12,14,5,1,23,2,3] ?_
  refine TK.maskL [0,1,5] ?_
  exact hnext _ _ _ oQ ⟨i+1,rfl,oQ,fun hh=>by
   rw [yP (z5 hil)] at hh
   rcases lT.1 hh with hh | hh
   ·exact hn hh
   ·rw [lS.1 hh] at hc1; simp at hc1,rfl,rfl⟩
 obtain rfl:i=l.length:=by simp at hc0; omega
 refine au [16,4,5,2,3] ?_
 refine TK.rt hret [(j,_)] ?_
 exact ⟨by rw [decide_eq_false (by rwa [lW] at hn)],rfl⟩
instance:Cal tp 136:={}
instance:Cal tp 78:={}
theorem or2r {x:Int} {A B:Prop} (h:(x≠0/\A)\/(x=0/\B)) (hx:x=0):B:=by
 rcases h with ⟨h,_⟩ | ⟨_,h⟩
 ·exact absurd hx h
 ·exact h
instance:Cal tp 71:={}
instance:Cal tp 72:={}
instance:Cal tp 73:={}
def u8A (x:Fin 256):AV:=.v (.int .u8 (x.1:Int))
def u8O (l:List (Fin 256)):AObj:=.cells (l.flatMap fun x=>[u8A x]) 5 false
def Feas (b:RBk) (l x:List Int):Prop:=x.length=l.length/\∀ i,0<=x.getD i 0/\(i<l.length->x.getD i 0<=(cutS b l i).most)
theorem jM {b:RBk} (hb:ROk b) {s:List Int} (hs:StOk b s):b.round - b.steps+sumF (fun i=>s.getD i 0) s.length=freshM b s:=by
 rw [x9 hb hs,hs.len]
instance:Cal tp 74:={}
instance:zF tp 100 5 1:={}
instance:zi tp 5 false 1:={}
instance:Und tp 100 (.slice 5):={}
theorem sum9 {w:List Int} (h:∀ k,0<=w.getD k 0/\w.getD k 0<=9):∀ k,0<=sumF (fun i=>w.getD i 0) k/\sumF (fun i=>w.getD i 0) k<=9*k
 | 0=>⟨Int.le_refl _,Int.le_refl _⟩
 | k+1=>by
  have h1:=sum9 h k
  have h2:=h k
  show 0<=sumF _ k+w.getD k 0/\sumF _ k+w.getD k 0<=_
  omega
theorem jP {x:Int} {A B C D P:Prop} (h:(x≠0/\A)\/(x=0/\¬ P/\B)\/(x=0/\P/\C)\/(x=0/\P/\D)) (hx:x=0) (hd:¬ P):B:=by
 rcases h with ⟨h,_⟩ | ⟨_,_,h⟩ | ⟨_,h,_⟩ | ⟨_,h,_⟩
 ·exact absurd hx h
 ·exact h
 ·exact absurd h hd
 ·exact absurd h hd
theorem or3y {x:Int} {A B C P:Prop} (h:(x≠0/\A)\/(x=0/\P/\B)\/(x=0/\C)) (hx:x=0):(P/\B)\/C:=by
 rcases h with ⟨h,_⟩ | ⟨_,h⟩ | ⟨_,h⟩
 ·exact absurd hx h
 ·exact .inl h
 ·exact .inr h
instance:Cal tp 79:={}
instance:Cal tp 86:={}
instance:Cal tp 87:={}
theorem xF {b:RBk} {s h e:Nat} {j:Nat} {ps:List (Fin 65536)} {k2 k3:Int} (hk2:0<=k2/\k2<256) (hk3:0<=k3/\k3<256):Top tp gmR 17 [.agg (zE b s h e),.sl j 0 ps.length,.v (.int .u8 k2),.v (.int .u8 k3)] [(0,zy),(s,zk b),(h,zB b),(e,zq b),(j,u16O ps)] (fun r _=>r=zP true):=by
 refine topI 215 Tryz.func17 fun R Y hret=>?_
 have hT:=kH (P:=tp) (AtRet tp 17 R)
 refine au [4,5,21] ?_
 intro jb hjb
 refine au [2,3,4,4,5,8] ?_
 refine TK.cl Z Z Z Z (zja hT) ?_
 rintro r1 K2 ⟨rfl,rfl⟩
 refine au [30,3,20] ?_
 refine ⟨fun hc0=>?_,fun hc0=>?_⟩
 ·refine au [4,5] ?_
  refine TK.cl Z Z Z Z (zi5) ?_
  rintro r4 K5 ⟨rfl,rfl⟩
  refine au [2,3] ?_
  refine TK.rt hret [] ?_
  rfl
 have hgr:greatM b=false/\zr b=0:=by cases hq:greatM b <;> simp [hq] at hc0; exact ⟨rfl,hc0⟩
 obtain ⟨hgr,hck⟩:=hgr
 have hbb:=zZ hck
 have hl:b.seams.length<=100:=by have:=hbb.sms.len; omega
 have hm:b.measures.length<=100:=by have:=hbb.mes.len; omega
 have hl2:b.shrinks.length<=100:=by have:=hbb.cls.len; omega
 have hst:=hbb.rnd.steps
 obtain ⟨n2,rfl⟩:=Int.eq_ofNat_of_zero_le hk2.1
 obtain ⟨n3,rfl⟩:=Int.eq_ofNat_of_zero_le hk3.1
 have hrr:=hbb.rnd.round
 have hsl:=hbb.sms.len
 have hcl:=hbb.cls.len
 refine au [12,4] ?_
 refine TK.dr [0,1,3,4,6,7,8,9,10,11,2,5,12,13,14] [0,1,2,3,4,5,8,9,10,12,13,6,7,11,14] ?_
 refine TD.y [4] Z (hq:=z8 Z Z zi.h (mC _) Z) (h:=?_)
 refine TD.mv [1] ?_
 refine TD.y [4] Z (hq:=z8 Z Z zi.h (mC _) Z) (h:=?_)
 refine TD.mv [2] ?_
 refine TD.mv [3] ?_
 refine TD.z [42] Z (yU Z Z Und.h Und.h (wK oQ)) ?_
 refine TD.z [4] Z (zg Z Z zl.h dQ) ?_
 refine TD.y [44] Z (hq:=zm Z Z zi.h (mC _) Z) (h:=?_)
 refine TD.z [45] Z (q_len Z Z Z Und.h) ?_
 refine TD.z [43,46] Z (q_rem Z Z Z oQ oQ) ?_
 refine TD.cl (pend':=[⟨11,[43,46],[]⟩,⟨10,[45],[]⟩,⟨9,[44],[(_,_)]⟩,⟨8,[4],[]⟩,⟨7,[42],[]⟩,⟨6,[3],[]⟩,⟨4,[2],[]⟩,⟨3,[4],[(_,_)]⟩]) [36,37] Z Z Z Z Z (jaa hT hbb) (fun r7 K8 h9=>⟨?_,?_⟩)
 ·rcases h9 with ⟨jr,rfl,rfl⟩
  all_goals simp
 obtain ⟨jr,rfl,rfl⟩:=h9
 try simp only [cA]
 refine TD.norm tQ ?_
 refine TD.cl (pend':=[⟨11,[43,46],[]⟩,⟨10,[45],[]⟩,⟨9,[44],[(_,_)]⟩,⟨8,[4],[]⟩,⟨7,[42],[]⟩,⟨6,[3],[]⟩]) [39,40] Z Z Z Z Z (qN hT (c:=n2) hsl oQ) (fun r10 K11 h12=>⟨?_,?_⟩)
 ·rcases h12 with ⟨jo,eo,rfl,rfl⟩
  all_goals simp
 obtain ⟨jo,eo,rfl,rfl⟩:=h12
 try simp only [cA]
 refine TD.norm tQ ?_
 refine TD.as (pend':=[⟨11,[43,46],[]⟩,⟨10,[45],[]⟩,⟨9,[44],[(_,_)]⟩,⟨8,[4],[]⟩,⟨7,[42],[]⟩,⟨6,[3],[]⟩]) [38] Z Z (zD Z Z) ?_
 refine TD.as (pend':=[⟨11,[43,46],[]⟩,⟨10,[45],[]⟩,⟨9,[44],[(_,_)]⟩,⟨8,[4],[]⟩,⟨7,[42],[]⟩,⟨6,[3],[]⟩]) [41] Z Z (zD Z Z) ?_
 refine TD.as (pend':=[]) [47] Z Z (zD Z Z) ?_
 refine TD.fin ?_
 refine au [4] ?_
 obtain ⟨d0,hd0,hd1,hdo⟩:=xS (c:=n2) hsl.1 hsl.2
 have hcc:CutsOk b (otherM n2 b.seams.length):=hdo ▸ zeD hbb hd0 hd1
 have hib:=qy hbb ps
 clear hdo
 generalize otherM n2 b.seams.length=l at hcc ⊢
 generalize realM b ps b.shrinks.length=st at hib ⊢
 have hss:=zeV hbb hib
 have hi3:=Nat.mod_lt n3 (show 0<b.seams.length by omega)
 rw [show (n3:Int) % (b.seams.length:Int)=((n3 % b.seams.length:Nat):Int) from rfl]
 generalize n3 % b.seams.length=i at hi3 ⊢
 have hto:=qH hbb hss
 have hin:=qG hib
 have hne2:=List.ne_nil_of_mem hin
 have hck2:=qw hto
 have hrr2:=hto.rnd.round
 have hst3:=hto.rnd.steps
 have hcc2:CutsOk (ji b st) l:=⟨hcc.pos,hcc.bnd,hcc.asc⟩
 have hss2:StOk (ji b st) st:=⟨hss.len,hss.bnd⟩
 have hl3:(ji b st).seams.length<=100:=hl
 have hm3:(ji b st).measures.length<=100:=by have:=hto.mes.len; omega
 have hll:l.length<=1000:=by have:=hcc.len; omega
 have hth:thereM (ji b st) (i:Int)=0:=jai (by show betw (i:Int) 0 (b.seams.length - 1)=true; simp [betw]; omega)
 have hbt:bar2 (zr (ji b st)) (thereM (ji b st) (i:Int))=0:=by rw [kF hck2]; exact hth
 have hbs:bar2 (zr (ji b st)) (shM (ji b st) st)=0:=by rw [kF hck2]; exact sh_1 hss2
 have hbc:bar2 (zr (ji b st)) (cutsM (ji b st) l)=0:=by rw [kF hck2]; exact x8 hcc2
 have hba:=qK hck2 hcc2 hss2
 have hstl:=hss.len
 have hs9:∀ k,0<=st.getD k 0/\st.getD k 0<=9:=fun k=>by have:=hss.slot hbb k; omega
 have hs1:=kf hto
 have hr1:=qB ((zf (ji b st)).map fun s=>zN s (i:Int).toNat)
 rw [lJ] at hr1
 refine au [5,8,1] ?_
 refine TK.cl Z Z Z Z (qk hT hbb hss) ?_
 rintro r13 K14 ⟨je,rfl,rfl⟩
 refine au [17,3,4,5,8,1] ?_
 refine TK.cl Z Z Z Z ((xE hT (b:=(ji b st)) (s:=s) (h:=h) (e:=je) hl3 hm3 oQ).mono (fun _ _ h=>or2r h hbs)) ?_
 rintro r16 K17 ⟨rfl,rfl⟩
 refine au [] ?_
 rw [decide_eq_true hin]
 refine au [1,10,10,2,2,3,4,5,8,1] ?_
 refine TK.cl Z Z Z Z ((xG hT (b:=(ji b st)) (s:=s) (h:=h) (e:=je) hl3 hm3).mono (fun _ _ h=>or3 h hbt hne2)) ?_
 rintro r19 K20 ⟨j1,z1,rfl,rfl⟩
 refine au [] ?_
 rw [lM]
 refine TK.cutC (j:=j1) ?_
 refine au [1,10,10,2,2,3,4,5,8] ?_
 refine TK.cl Z Z Z Z ((ze3 hT (b:=(ji b st)) (s:=s) (h:=h) (e:=je) hl3 hm3).mono (fun _ _ h=>or3 h hck2 hne2)) ?_
 rintro r22 K23 ⟨rfl,rfl⟩
 refine au [1,10,10,22] ?_
 intro jx hjx
 refine au [17,2,3,4,5,8,1] ?_
 refine TK.cl Z Z Z Z ((zcg hT (b:=(ji b st)) (s:=s) (h:=h) (e:=je) hl3 hm3 hll).mono (fun _ _ h=>or3 h hbc hne2)) ?_
 rintro r25 K26 ⟨rfl,rfl⟩
 refine au [1,10,10,2,2,3,4,5,8,1,1] ?_
 refine TK.cl Z Z Z Z ((zei hT (b:=(ji b st)) (s:=s) (h:=h) (e:=je) hl3 hm3 hll).mono (fun _ _ h=>or3y h hba)) ?_
 rintro r28 K29 h30
 rcases h30 with ⟨hno,rfl,rfl⟩ | ⟨w,q,jw,hso,rfl,rfl⟩
 ·refine au [1,10,10,10,10,2,2,2,2,3,4,5,8,1] ?_
  refine TK.cl Z Z Z Z ((uv hT (b:=(ji b st)) (s:=s) (h:=h) (e:=je) hl3 hm3 hll).mono (fun _ _ h=>qf h hbc hne2)) ?_
  rintro r31 K32 h33
  rcases h33 with ⟨hsq,hcn,rfl,rfl⟩ | ⟨hsq,hcn,rfl,rfl⟩
  ·refine au [] ?_
   have hz:=(jL _ l hne2).1.1 hcn st hin; rw [hno] at hz; cases hz
  ·refine au [1,10,10,22] ?_
   intro jy hjy
   refine au [17,2,3,4,5,8] ?_
   refine TK.cl Z Z Z Z ((zfJ hT (b:=(ji b st)) (s:=s) (h:=h) (e:=je) hl3 hm3).mono (fun _ _ h=>jP h hck2 hne2)) ?_
   rintro r34 K35 ⟨rfl,rfl⟩
   refine au [1,10,10,2,2,3,4,4,5,1,6,1,1,6,25,1,1,6,25,1,1,6,25,1,1,6,25,1,1,6,25,1,1,6,1,6,34,25,1] ?_
   refine TK.sp 123 (fun g12_30=>?_) (fun g12_30=>?_)
   ·simp [hcn] at g12_30
   refine au [1,6,1,1,6,26,25,3,20] ?_
   refine ⟨fun hc1=>?_,fun hc1=>?_⟩
   ·first | exact absurd hc1 dQ | simp [hcn] at hc1
   refine au [12,4] ?_
   refine TK.dr [0,1,2,3,4,5,6] [5,0,1,2,3,4,6] ?_
   refine TD.z [4] Z (zg Z Z zl.h dQ) ?_
   refine TD.y [131] Z (hq:=zm Z Z zi.h (mC _) Z) (h:=?_)
   refine TD.z [4] Z (zg Z Z zl.h dQ) ?_
   refine TD.y [133] Z (hq:=zm Z Z zi.h (mC _) Z) (h:=?_)
   refine TD.z [132,134] Z (q_sub Z Z Z oQ) ?_
   refine TD.as (pend':=[⟨4,[132,134],[]⟩,⟨3,[133],[(_,_)]⟩,⟨2,[4],[]⟩,⟨1,[131],[(_,_)]⟩,⟨0,[4],[]⟩]) [] Z Z (zD Z Z) ?_
   refine TD.as (pend':=[]) [135] Z Z (zD Z Z) ?_
   refine TD.fin ?_
   refine au [4,4,5,2,3,13] ?_
   refine TK.maskL [9,11,12,14,16,18,20,21,22,24,25,26,28,29,30] ?_
   refine TK.kp [(0,_),(jr,_),(j1,_),(jx,_),(jy,_)] ?_
   refine TK.loopN (fun n env K=>env=naL 9 (.sl jr 0 st.length::.any::intA (i:Int)::zP true::.any::.sl j1 0 (shrI (ji b st) (i:Int)).length::.any::.ptr jx 0::.any::intA (canM (ji b st) l)::.any::.v (.slice none 0 0)::intA 0::zP false::.any::.ptr jy 0::intA 8::.v (.slice none 0 0)::.any::intA 0::intA (b.round - b.steps)::intA 0::naL 184 [])/\K=[(0,zy),(jr,.cells (st.map intA) 3 false),(j1,.cells ((shrI (ji b st) (i:Int)).map intA) 3 false),(jx,.cells [intA (newM (ji b st)).1,intA (newM (ji b st)).2] 51 true),(jy,.cells [intA (sqLo (ji b st) (zf (ji b st)) l),intA (sqHi (ji b st) (zf (ji b st)) l)] 51 true)]) 0 ⟨rfl,rfl⟩ fun n env K hI hnext=>?_
   obtain ⟨rfl,rfl⟩:=hI
   refine TK.na nQ ?_
   refine au [4,4,5,1,1,28,6,3,20] ?_
   refine ⟨fun hc2=>?_,fun hc2=>?_⟩
   ·exact absurd hc2 dQ
   refine au [16,4,4,5,2,3,13] ?_
   refine TK.maskL [9,11,12,14,16,18,21,22,24,25,26,28,29,31] ?_
   refine TK.kp [(0,_),(jr,_),(j1,_),(jx,_),(jy,_)] ?_
   refine TK.loopN (fun n env K=>∃ (k:Nat),n=st.length - k/\k<=st.length/\env=naL 9 (.sl jr 0 st.length::.any::intA (i:Int)::zP true::.any::.sl j1 0 (shrI (ji b st) (i:Int)).length::.any::.ptr jx 0::.any::intA (canM (ji b st) l)::naL 2 (intA 0::zP false::.any::.ptr jy 0::intA 8::.v (.slice none 0 0)::.any::intA 0::(intA (b.round - b.steps+sumF (fun t=>st.getD t 0) k))::.any::intA k::naL 183 []))/\K=[(0,zy),(jr,.cells (st.map intA) 3 false),(j1,.cells ((shrI (ji b st) (i:Int)).map intA) 3 false),(jx,.cells [intA (newM (ji b st)).1,intA (newM (ji b st)).2] 51 true),(jy,.cells [intA (sqLo (ji b st) (zf (ji b st)) l),intA (sqHi (ji b st) (zf (ji b st)) l)] 51 true)]) st.length ⟨0,rfl,mN _,by rw [show (b.round - b.steps+sumF (fun t=>st.getD t 0) 0)=b.round - b.steps from Int.add_zero _]; rfl,rfl⟩ fun n env K hI hnext=>?_
   obtain ⟨k,rfl,hk,rfl,rfl⟩:=hI
   have hsk:=sum9 hs9 k
   refine TK.na nQ ?_
   refine au [4,4,5,1,1,28,6,3,20] ?_
   refine ⟨fun hc3=>?_,fun hc3=>?_⟩
   ·have hkl:k<st.length:=by simp at hc3; omega
    have hsb:0<=zN st k/\zN st k<=9:=hs9 k
    refine au [12,4,13,5,1,1,1,36] ?_
    refine TK.a Z (zm Z Z zi.h mQ (yh (i:=k) (z5 hkl) Z)) ?_
    refine au [23,2,3,14,5,1,23,2,3] ?_
    refine TK.maskL [9,11,12,14,16,18,21,22,24,25,26,28,29,31] ?_
    refine TK.kp [(0,_),(jr,_),(j1,_),(jx,_),(jy,_)] ?_
    exact hnext _ _ _ oQ ⟨k+1,rfl,oQ,by rw [show sumF (fun t=>st.getD t 0) (k+1)=sumF (fun t=>st.getD t 0) k+zN st k from rfl,<- Int.add_assoc]; rfl,rfl⟩
   obtain rfl:k=st.length:=by simp at hc3; omega
   rw [jM hbb hss]
   refine au [16,4,4,5,1,30,1,1,1,1,36] ?_
   refine TK.a Z (zm Z Z zi.h mQ (yh (i:=i) (z5 oQ) Z)) ?_
   refine TK.cl Z Z Z Z (jQ hT (l:=shrI (ji b st) (i:Int)) (by unfold shrI; omega)) ?_
   rintro r37 K38 ⟨rfl,rfl⟩
   refine au [] ?_
   rw [decide_eq_true (real_holds hin i)]
   refine au [30,25,1,1,7,9,7,9] ?_
   refine TK.cl Z Z Z Z (yz hT) ?_
   rintro r40 K41 ⟨rfl,rfl⟩
   refine au [] ?_
   rw [show betw (freshM b st) (newM (ji b st)).1 (newM (ji b st)).2=true from xt hin]
   refine au [30,25,1,1,28,6,25,1,1,1] ?_
   refine TK.cl Z Z Z Z (xd hT) ?_
   rintro r43 K44 ⟨rfl,rfl⟩
   refine au [] ?_
   rw [qd hin hno]
   refine au [30,25,1,1,1,11,11,11,25,25,3,19,12,4,5,1,6,1,11,11,11,11,11,11,11,11,11,26,1] ?_
   refine TK.cl Z Z Z Z (zi5) ?_
   rintro r46 K47 ⟨rfl,rfl⟩
   refine au [26,2,3] ?_
   refine TK.rt hret [] ?_
   rfl
 ·refine au [] ?_
  obtain ⟨hfit,hwl,hsum,hq,hws⟩:=qo hto hcc2 hss2 hso
  have hw9:=(zhT hto hcc2 hss2 hso).2
  have hsum2:sumF (fun t=>w.getD t 0) w.length=freshM b st:=by rw [hwl]; exact hsum
  refine au [1,10,10,10,10,2,2,2,2,3,4,5,8,1] ?_
  refine TK.cl Z Z Z Z ((uv hT (b:=(ji b st)) (s:=s) (h:=h) (e:=je) hl3 hm3 hll).mono (fun _ _ h=>qf h hbc hne2)) ?_
  rintro r49 K50 h51
  rcases h51 with ⟨hsq,hcn,rfl,rfl⟩ | ⟨hsq,hcn,rfl,rfl⟩
  ·refine au [] ?_
   refine au [1,10,10,22] ?_
   intro jy hjy
   refine au [17,2,3,4,5,8] ?_
   refine TK.cl Z Z Z Z ((zfJ hT (b:=(ji b st)) (s:=s) (h:=h) (e:=je) hl3 hm3).mono (fun _ _ h=>jP h hck2 hne2)) ?_
   rintro r52 K53 ⟨rfl,rfl⟩
   refine au [1,10,10,2,2,3,4,4,5,1,6,1,1,6,25,1,1,6,25,1,1,6,25,1,1,6,25,1,1,6,25,1,1,6,1,6,34,25,1] ?_
   refine TK.sp 123 (fun g12_30=>?_) (fun g12_30=>?_)
   ·simp [hcn] at g12_30
   refine au [1,6,1,11,11,25,25,3,19,12,4] ?_
   refine TK.dr [0,1,2,3,4,5,6] [5,0,1,2,3,4,6] ?_
   refine TD.z [4] Z (zg Z Z zl.h dQ) ?_
   refine TD.y [131] Z (hq:=zm Z Z zi.h (mC _) Z) (h:=?_)
   refine TD.z [4] Z (zg Z Z zl.h dQ) ?_
   refine TD.y [133] Z (hq:=zm Z Z zi.h (mC _) Z) (h:=?_)
   refine TD.z [132,134] Z (q_sub Z Z Z oQ) ?_
   refine TD.as (pend':=[⟨4,[132,134],[]⟩,⟨3,[133],[(_,_)]⟩,⟨2,[4],[]⟩,⟨1,[131],[(_,_)]⟩,⟨0,[4],[]⟩]) [] Z Z (zD Z Z) ?_
   refine TD.as (pend':=[]) [135] Z Z (zD Z Z) ?_
   refine TD.fin ?_
   refine au [4,4,5,2,3,13] ?_
   refine TK.maskL [9,11,12,14,16,18,20,21,22,24,25,26,28,29,30] ?_
   refine TK.kp [(0,_),(jr,_),(j1,_),(jx,_),(jy,_),(jw,_)] ?_
   refine TK.loopN (fun n env K=>∃ (k:Nat),n=w.length - k/\k<=w.length/\env=naL 9 (.sl jr 0 st.length::.any::intA (i:Int)::zP true::.any::.sl j1 0 (shrI (ji b st) (i:Int)).length::.any::.ptr jx 0::.any::intA (canM (ji b st) l)::.any::.sl jw 0 w.length::intA q::zP true::.any::.ptr jy 0::intA 0::.v (.slice none 0 0)::.any::(intA (sumF (fun t=>w.getD t 0) k))::intA (b.round - b.steps)::intA k::naL 184 [])/\K=[(0,zy),(jr,.cells (st.map intA) 3 false),(j1,.cells ((shrI (ji b st) (i:Int)).map intA) 3 false),(jx,.cells [intA (newM (ji b st)).1,intA (newM (ji b st)).2] 51 true),(jy,.cells [intA (sqLo (ji b st) (zf (ji b st)) l),intA (sqHi (ji b st) (zf (ji b st)) l)] 51 true),(jw,.cells (w.map intA) 3 false)]) w.length ⟨0,rfl,mN _,rfl,rfl⟩ fun n env K hI hnext=>?_
   obtain ⟨k,rfl,hk,rfl,rfl⟩:=hI
   have hsk:=sum9 hw9 k
   refine TK.na nQ ?_
   refine au [4,4,5,1,1,28,6,3,20] ?_
   refine ⟨fun hc2=>?_,fun hc2=>?_⟩
   ·have hkl:k<w.length:=by simp at hc2; omega
    have hwb:0<=zN w k/\zN w k<=9:=hw9 k
    refine au [12,4,13,5,1,1,1,36] ?_
    refine TK.a Z (zm Z Z zi.h mQ (yh (i:=k) (z5 hkl) Z)) ?_
    refine au [23,2,3,14,5,1,23,2,3] ?_
    refine TK.maskL [9,11,12,14,16,18,20,21,22,24,25,26,28,29,30] ?_
    refine TK.kp [(0,_),(jr,_),(j1,_),(jx,_),(jy,_),(jw,_)] ?_
    exact hnext _ _ _ oQ ⟨k+1,rfl,oQ,rfl,rfl⟩
   obtain rfl:k=w.length:=by simp at hc2; omega
   rw [hsum2]
   refine au [16,4,4,5,2,3,13] ?_
   refine TK.maskL [9,11,12,14,16,18,21,22,24,25,26,28,29,31] ?_
   refine TK.kp [(0,_),(jr,_),(j1,_),(jx,_),(jy,_),(jw,_)] ?_
   refine TK.loopN (fun n env K=>∃ (k:Nat),n=st.length - k/\k<=st.length/\env=naL 9 (.sl jr 0 st.length::.any::intA (i:Int)::zP true::.any::.sl j1 0 (shrI (ji b st) (i:Int)).length::.any::.ptr jx 0::.any::intA (canM (ji b st) l)::naL 2 (intA q::zP true::.any::.ptr jy 0::intA 0::.v (.slice none 0 0)::.any::intA (freshM b st)::(intA (b.round - b.steps+sumF (fun t=>st.getD t 0) k))::.any::intA k::naL 183 []))/\K=[(0,zy),(jr,.cells (st.map intA) 3 false),(j1,.cells ((shrI (ji b st) (i:Int)).map intA) 3 false),(jx,.cells [intA (newM (ji b st)).1,intA (newM (ji b st)).2] 51 true),(jy,.cells [intA (sqLo (ji b st) (zf (ji b st)) l),intA (sqHi (ji b st) (zf (ji b st)) l)] 51 true),(jw,.cells (w.map intA) 3 false)]) st.length ⟨0,rfl,mN _,by rw [show (b.round - b.steps+sumF (fun t=>st.getD t 0) 0)=b.round - b.steps from Int.add_zero _]; rfl,rfl⟩ fun n env K hI hnext=>?_
   obtain ⟨k,rfl,hk,rfl,rfl⟩:=hI
   have hsk:=sum9 hs9 k
   refine TK.na nQ ?_
   refine au [4,4,5,1,1,28,6,3,20] ?_
   refine ⟨fun hc3=>?_,fun hc3=>?_⟩
   ·have hkl:k<st.length:=by simp at hc3; omega
    have hsb:0<=zN st k/\zN st k<=9:=hs9 k
    refine au [12,4,13,5,1,1,1,36] ?_
    refine TK.a Z (zm Z Z zi.h mQ (yh (i:=k) (z5 hkl) Z)) ?_
    refine au [23,2,3,14,5,1,23,2,3] ?_
    refine TK.maskL [9,11,12,14,16,18,21,22,24,25,26,28,29,31] ?_
    refine TK.kp [(0,_),(jr,_),(j1,_),(jx,_),(jy,_),(jw,_)] ?_
    exact hnext _ _ _ oQ ⟨k+1,rfl,oQ,by rw [show sumF (fun t=>st.getD t 0) (k+1)=sumF (fun t=>st.getD t 0) k+zN st k from rfl,<- Int.add_assoc]; rfl,rfl⟩
   obtain rfl:k=st.length:=by simp at hc3; omega
   rw [jM hbb hss]
   refine au [16,4,4,5,1,30,1,1,1,1,36] ?_
   refine TK.a Z (zm Z Z zi.h mQ (yh (i:=i) (z5 oQ) Z)) ?_
   refine TK.cl Z Z Z Z (jQ hT (l:=shrI (ji b st) (i:Int)) (by unfold shrI; omega)) ?_
   rintro r55 K56 ⟨rfl,rfl⟩
   refine au [] ?_
   rw [decide_eq_true (real_holds hin i)]
   refine au [30,25,1,1,7,9,7,9] ?_
   refine TK.cl Z Z Z Z (yz hT) ?_
   rintro r58 K59 ⟨rfl,rfl⟩
   refine au [] ?_
   rw [show betw (freshM b st) (newM (ji b st)).1 (newM (ji b st)).2=true from xt hin]
   refine au [30,25,1,1,28,6,25,1,1,1] ?_
   refine TK.cl Z Z Z Z (xd hT) ?_
   rintro r61 K62 ⟨rfl,rfl⟩
   refine au [] ?_
   rw [xk hin hso]
   refine au [30,25,1,1,1,1,1,6,26,25,3,20] ?_
   refine ⟨fun hc4=>?_,fun hc4=>?_⟩
   ·simp at hc4
   refine au [12,4,5,1,6,1,1,1,1,7,9,7,9] ?_
   refine TK.cl Z Z Z Z (yz hT) ?_
   rintro r64 K65 ⟨rfl,rfl⟩
   refine au [] ?_
   rw [show betw q (sqLo (ji b st) (zf (ji b st)) l) (sqHi (ji b st) (zf (ji b st)) l)=true by have:=(sq_in hne2 hsq).1 st hin w q hso; simp only [betw,mX,decide_eq_true_eq]; exact this]
   refine au [26,25,1] ?_
   refine TK.cl Z Z Z Z (zi5) ?_
   rintro r67 K68 ⟨rfl,rfl⟩
   refine au [26,2,3] ?_
   refine TK.rt hret [] ?_
   rfl
  ·refine au [1,10,10,22] ?_
   intro jy hjy
   refine au [17,2,3,4,5,8] ?_
   refine TK.cl Z Z Z Z ((zfJ hT (b:=(ji b st)) (s:=s) (h:=h) (e:=je) hl3 hm3).mono (fun _ _ h=>jP h hck2 hne2)) ?_
   rintro r70 K71 ⟨rfl,rfl⟩
   refine au [1,10,10,2,2,3,4,4,5,1,6,1,1,6,25,1,1,6,25,1,1,6,25,1,1,6,25,1,1,6,25,1,1,6,1,6,34,25,1] ?_
   refine TK.sp 123 (fun g12_30=>?_) (fun g12_30=>?_)
   ·simp [hcn] at g12_30
   refine au [1,6,1,1,6,26,25,3,20] ?_
   refine ⟨fun hc1=>?_,fun hc1=>?_⟩
   ·first | exact absurd hc1 dQ | simp [hcn] at hc1
   refine au [12,4] ?_
   refine TK.dr [0,1,2,3,4,5,6] [5,0,1,2,3,4,6] ?_
   refine TD.z [4] Z (zg Z Z zl.h dQ) ?_
   refine TD.y [131] Z (hq:=zm Z Z zi.h (mC _) Z) (h:=?_)
   refine TD.z [4] Z (zg Z Z zl.h dQ) ?_
   refine TD.y [133] Z (hq:=zm Z Z zi.h (mC _) Z) (h:=?_)
   refine TD.z [132,134] Z (q_sub Z Z Z oQ) ?_
   refine TD.as (pend':=[⟨4,[132,134],[]⟩,⟨3,[133],[(_,_)]⟩,⟨2,[4],[]⟩,⟨1,[131],[(_,_)]⟩,⟨0,[4],[]⟩]) [] Z Z (zD Z Z) ?_
   refine TD.as (pend':=[]) [135] Z Z (zD Z Z) ?_
   refine TD.fin ?_
   refine au [4,4,5,2,3,13] ?_
   refine TK.maskL [9,11,12,14,16,18,20,21,22,24,25,26,28,29,30] ?_
   refine TK.kp [(0,_),(jr,_),(j1,_),(jx,_),(jy,_),(jw,_)] ?_
   refine TK.loopN (fun n env K=>∃ (k:Nat),n=w.length - k/\k<=w.length/\env=naL 9 (.sl jr 0 st.length::.any::intA (i:Int)::zP true::.any::.sl j1 0 (shrI (ji b st) (i:Int)).length::.any::.ptr jx 0::.any::intA (canM (ji b st) l)::.any::.sl jw 0 w.length::intA q::zP true::.any::.ptr jy 0::intA 8::.v (.slice none 0 0)::.any::(intA (sumF (fun t=>w.getD t 0) k))::intA (b.round - b.steps)::intA k::naL 184 [])/\K=[(0,zy),(jr,.cells (st.map intA) 3 false),(j1,.cells ((shrI (ji b st) (i:Int)).map intA) 3 false),(jx,.cells [intA (newM (ji b st)).1,intA (newM (ji b st)).2] 51 true),(jy,.cells [intA (sqLo (ji b st) (zf (ji b st)) l),intA (sqHi (ji b st) (zf (ji b st)) l)] 51 true),(jw,.cells (w.map intA) 3 false)]) w.length ⟨0,rfl,mN _,rfl,rfl⟩ fun n env K hI hnext=>?_
   obtain ⟨k,rfl,hk,rfl,rfl⟩:=hI
   have hsk:=sum9 hw9 k
   refine TK.na nQ ?_
   refine au [4,4,5,1,1,28,6,3,20] ?_
   refine ⟨fun hc2=>?_,fun hc2=>?_⟩
   ·have hkl:k<w.length:=by simp at hc2; omega
    have hwb:0<=zN w k/\zN w k<=9:=hw9 k
    refine au [12,4,13,5,1,1,1,36] ?_
    refine TK.a Z (zm Z Z zi.h mQ (yh (i:=k) (z5 hkl) Z)) ?_
    refine au [23,2,3,14,5,1,23,2,3] ?_
    refine TK.maskL [9,11,12,14,16,18,20,21,22,24,25,26,28,29,30] ?_
    refine TK.kp [(0,_),(jr,_),(j1,_),(jx,_),(jy,_),(jw,_)] ?_
    exact hnext _ _ _ oQ ⟨k+1,rfl,oQ,rfl,rfl⟩
   obtain rfl:k=w.length:=by simp at hc2; omega
   rw [hsum2]
   refine au [16,4,4,5,2,3,13] ?_
   refine TK.maskL [9,11,12,14,16,18,21,22,24,25,26,28,29,31] ?_
   refine TK.kp [(0,_),(jr,_),(j1,_),(jx,_),(jy,_),(jw,_)] ?_
   refine TK.loopN (fun n env K=>∃ (k:Nat),n=st.length - k/\k<=st.length/\env=naL 9 (.sl jr 0 st.length::.any::intA (i:Int)::zP true::.any::.sl j1 0 (shrI (ji b st) (i:Int)).length::.any::.ptr jx 0::.any::intA (canM (ji b st) l)::naL 2 (intA q::zP true::.any::.ptr jy 0::intA 8::.v (.slice none 0 0)::.any::intA (freshM b st)::(intA (b.round - b.steps+sumF (fun t=>st.getD t 0) k))::.any::intA k::naL 183 []))/\K=[(0,zy),(jr,.cells (st.map intA) 3 false),(j1,.cells ((shrI (ji b st) (i:Int)).map intA) 3 false),(jx,.cells [intA (newM (ji b st)).1,intA (newM (ji b st)).2] 51 true),(jy,.cells [intA (sqLo (ji b st) (zf (ji b st)) l),intA (sqHi (ji b st) (zf (ji b st)) l)] 51 true),(jw,.cells (w.map intA) 3 false)]) st.length ⟨0,rfl,mN _,by rw [show (b.round - b.steps+sumF (fun t=>st.getD t 0) 0)=b.round - b.steps from Int.add_zero _]; rfl,rfl⟩ fun n env K hI hnext=>?_
   obtain ⟨k,rfl,hk,rfl,rfl⟩:=hI
   have hsk:=sum9 hs9 k
   refine TK.na nQ ?_
   refine au [4,4,5,1,1,28,6,3,20] ?_
   refine ⟨fun hc3=>?_,fun hc3=>?_⟩
   ·have hkl:k<st.length:=by simp at hc3; omega
    have hsb:0<=zN st k/\zN st k<=9:=hs9 k
    refine au [12,4,13,5,1,1,1,36] ?_
    refine TK.a Z (zm Z Z zi.h mQ (yh (i:=k) (z5 hkl) Z)) ?_
    refine au [23,2,3,14,5,1,23,2,3] ?_
    refine TK.maskL [9,11,12,14,16,18,21,22,24,25,26,28,29,31] ?_
    refine TK.kp [(0,_),(jr,_),(j1,_),(jx,_),(jy,_),(jw,_)] ?_
    exact hnext _ _ _ oQ ⟨k+1,rfl,oQ,by rw [show sumF (fun t=>st.getD t 0) (k+1)=sumF (fun t=>st.getD t 0) k+zN st k from rfl,<- Int.add_assoc]; rfl,rfl⟩
   obtain rfl:k=st.length:=by simp at hc3; omega
   rw [jM hbb hss]
   refine au [16,4,4,5,1,30,1,1,1,1,36] ?_
   refine TK.a Z (zm Z Z zi.h mQ (yh (i:=i) (z5 oQ) Z)) ?_
   refine TK.cl Z Z Z Z (jQ hT (l:=shrI (ji b st) (i:Int)) (by unfold shrI; omega)) ?_
   rintro r73 K74 ⟨rfl,rfl⟩
   refine au [] ?_
   rw [decide_eq_true (real_holds hin i)]
   refine au [30,25,1,1,7,9,7,9] ?_
   refine TK.cl Z Z Z Z (yz hT) ?_
   rintro r76 K77 ⟨rfl,rfl⟩
   refine au [] ?_
   rw [show betw (freshM b st) (newM (ji b st)).1 (newM (ji b st)).2=true from xt hin]
   refine au [30,25,1,1,28,6,25,1,1,1] ?_
   refine TK.cl Z Z Z Z (xd hT) ?_
   rintro r79 K80 ⟨rfl,rfl⟩
   refine au [] ?_
   rw [xk hin hso]
   refine au [30,25,1,1,1,1,1,6,26,25,3,20] ?_
   refine ⟨fun hc4=>?_,fun hc4=>?_⟩
   ·simp at hc4
   refine au [12,4,5,1,6,1,11,11,11,11,11,11,11,11,11,26,1] ?_
   refine TK.cl Z Z Z Z (zi5) ?_
   rintro r82 K83 ⟨rfl,rfl⟩
   refine au [26,2,3] ?_
   refine TK.rt hret [] ?_
   rfl
end Go.Vel
end
