/- The law RollFull: all strips together have all cloths; hung by Hang, each begins behind the one before it and the new steps there; no more are put in than a seam's Most; Hang and Places tell alike whether it can be done. It holds of every program, tape and world that the statements name, as each theorem says. -/
import Derived.Test.YtamcohjpanjdiaaGreatDoorK5
import Derived.Test.YtamcohjpanjdiaaGreatDoorK7
import Derived.Test.YtamcohjpanjdiaaGreatDoorK8
import Derived.Test.YtamcohjpanjdiaaGreatDoorK10
section
set_option linter.all false
set_option maxRecDepth 20000
set_option maxHeartbeats 60000000
open Go.Proofs.Tryz renaming prog -> tp
open List renaming getElem?_eq_getElem -> lA, getD_eq_getElem?_getD -> lE, length_append -> lF, map_append -> lM, getElem?_map -> lQ, getElem?_eq_none -> lU, replicate -> mB
open List.Mem renaming head -> mC
open Nat renaming le_refl -> mL, zero_le -> mN, zero_add -> mO
namespace Go.Vel
open Go Go.Conc Go.Proofs
instance:EqG tp 49:={}
instance:EqG tp 94:={}
instance:FlatF tp 49 [(3,0),(3,1),(3,2)]:={}
instance:FlatF tp 94 [(3,0),(3,1),(3,2),(3,3),(4,4)]:={}
instance:Und tp 4 .bool:={}
end Go.Vel
namespace Go.Vel
open Go Go.Conc
end Go.Vel
namespace Go.Vel
open Go Go.Conc Go.Proofs
instance:Cal tp 19:={}
instance:Cal tp 44:={}
instance:Cal tp 49:={}
end Go.Vel
namespace Go.Vel
open Go Go.Conc
theorem xt:∀ m:Fin 6,∀ k:Fin 5,k.1<m.1->zw (2 ^ k.1) m.1=[(k.1:Int)]:=by decide
theorem xk:∀ i,zw 0 i=[]
 | 0=>rfl
 | i+1=>by unfold zw; rw [xk i,Nat.zero_div]; rfl
theorem jG (c m:Nat):∀ i,i<=m->zw (c % 2 ^ m) i=zw c i
 | 0,_=>rfl
 | i+1,h=>by
  unfold zw
  rw [jG c m i oQ]
  have h1:=Nat.testBit_mod_two_pow c m i
  rw [Nat.testBit_eq_decide_div_mod_eq,Nat.testBit_eq_decide_div_mod_eq,decide_eq_true (show i<m by omega),Bool.true_and] at h1
  have h2:(c % 2 ^ m / 2 ^ i % 2=1)=(c / 2 ^ i % 2=1):=propext (by simpa using h1)
  simp only [h2]
def otherM (c n:Nat):List Int:=if zw c n=[] then [((c % n:Nat):Int)] else zw c n
theorem xg {c n:Nat} (h1:1<=n) (h5:n<=5):∃ d,0<d/\d<2 ^ n/\otherM c n=zw d n:=by
 unfold otherM
 split
 ·have hm:=Nat.mod_lt c h1
  exact ⟨2 ^ (c % n),Nat.two_pow_pos _,Nat.pow_lt_pow_right dQ hm,(xt ⟨n,by omega⟩ ⟨c % n,by omega⟩ hm).symm⟩
 ·rename_i h
  refine ⟨c % 2 ^ n,?_,Nat.mod_lt _ (Nat.two_pow_pos _),(jG c n n (mL _)).symm⟩
  rcases Nat.eq_zero_or_pos (c % 2 ^ n) with h0 | h0
  ·exact absurd (by rw [<- jG c n n (mL _),h0]; exact xk n) h
  ·exact h0
end Go.Vel
namespace Go.Vel
open Go Go.Conc Go.Proofs
section
variable {P:Program} {gm:Nat->Option Nat} {V:KV} {env:List AV} {o:Oper}
theorem xI {t yt:TypeId} {x y:Operand} {k':IntKind} {a b:Nat} (ho:o.op=.binOp .shr t x y yt) (hx:zn gm env x=some (.v (.int .u8 a))) (hy:zn gm env y=some (.v (.int k' b))) (h0:b<=6):Qk P gm env V o (.v (.int .u8 ((a / 2 ^ b:Nat):Int))):=fun A _=>by
 refine vq ho (by rw [zx hx]; rfl) (by rw [zx hy]; rfl) ?_
 rw [u7]
 show zR P (Op.shift .shr .u8 a k' b)=_
 unfold Op.shift
 rw [if_neg oQ]
 show some (Value.int .u8 ((a:Int).fdiv (2 ^ min (b:Int).toNat 8)))=_
 rw [Int.toNat_natCast,Nat.min_eq_left oQ,show ((a:Int).fdiv (2 ^ b))=((a / 2 ^ b:Nat):Int) by rw [Int.fdiv_eq_ediv_of_nonneg _ (by exact_mod_cast mN (2 ^ b))]; norm_cast]
theorem xH {t yt:TypeId} {x y:Operand} {a:Nat} (ho:o.op=.binOp .and t x y yt) (hx:zn gm env x=some (.v (.int .u8 a))) (hy:zn gm env y=some (.v (.int .u8 1))) (h:a<256):Qk P gm env V o (.v (.int .u8 ((a % 2:Nat):Int))):=by
 refine wQ ho hx hy ?_
 show some (Value.int .u8 (IntKind.u8.wrap ((BitVec.ofInt 8 (a:Int) &&& BitVec.ofInt 8 1).toNat:Int)))=_
 have:(BitVec.ofInt 8 (a:Int) &&& BitVec.ofInt 8 1).toNat=a % 2:=by
  rw [BitVec.toNat_and]
  have e1:(BitVec.ofInt 8 (a:Int)).toNat=a:=by
   rw [BitVec.toNat_ofInt]
   omega
  rw [e1]
  show a &&& 1=a % 2
  exact Nat.and_one_is_mod a
 rw [this]
 have h2:a % 2=0\/a % 2=1:=by omega
 rcases h2 with h2 | h2 <;> rw [h2] <;> rfl
end
theorem xj {c i:Nat} (h:c / 2 ^ i % 2=1):zw c (i+1)=zw c i++[(i:Int)]:=by
 show zw c i++_=_
 rw [if_pos h]
theorem xi {c i:Nat} (h:¬ c / 2 ^ i % 2=1):zw c (i+1)=zw c i:=by
 show zw c i++_=_
 rw [if_neg h,List.append_nil]
instance:Cal tp 62:={}
instance:Cal tp 75:={}
theorem xx {main T} (hT:zo tp main T) {gm} {b:RBk} {s h e c:Nat} (hn:1<=b.seams.length/\b.seams.length<=5) (hc:c<256) :
  zA tp T gm 50 [.agg (zE b s h e),.v (.int .u8 (c:Int))] [] (fun r K'=>∃ (jo:Nat) (eo:TypeId),r=.sl jo 0 (otherM c b.seams.length).length/\K'=[(jo,.cells ((otherM c b.seams.length).map intA) eo false)]):=by
 refine zp 34 hT Tryz.func50 fun Y hret=>?_
 refine au [4,5,21] ?_
 intro jb hjb
 refine au [2,3,4,5,2] ?_
 refine TK.virt 5 3 1 Z fun jr0 hjr0=>?_
 refine au [3,4,4,5,2,3,13] ?_
 refine TK.maskL [1,2,5,6] ?_
 refine TK.kp [(jr0,_),(jb,_)] ?_
 refine TK.loopN (fun n env K=>∃ (i jr:Nat),n=b.seams.length - i/\i<=b.seams.length/\env=.any::.v (.int .u8 (c:Int))::.ptr jb 0::naL 2 (.row jr (zw c i).length::intA i::naL 27 [])/\K=[(jr,.row ((zw c i).map intA) 3 1),(jb,.cells (zE b s h e) 26 true)]) b.seams.length ⟨0,jr0,rfl,mN _,rfl,rfl⟩ fun n env K hI hnext=>?_
 obtain ⟨i,jr,rfl,hi,rfl,rfl⟩:=hI
 have hbl:=wC c i
 refine TK.na nQ ?_
 refine au [4,4,5,1,7,9,28,6,3,20] ?_
 refine ⟨fun hc0=>?_,fun hc0=>?_⟩
 ·have hil:i<b.seams.length:=by simp at hc0; omega
  refine au [12,4,13,4,5,1,1] ?_
  refine TK.a Z (xI Z Z Z oQ) ?_
  refine TK.a Z (xH Z Z Z (by have:=Nat.div_le_self c (2 ^ i); omega)) ?_
  refine au [6,3,20] ?_
  refine ⟨fun hc1=>?_,fun hc1=>?_⟩
  ·have hbit:c / 2 ^ i % 2=1:=by have h:=eq_of_beq hc1; omega
   refine au [5,1,1] ?_
   refine TK.newR Z Z Z (zt (l:=[_]) Z zF.h TyZ.h dQ dQ Z) (fun _=>zu rfl tQ) fun j1 hj1=>?_
   refine TK.appR Z Z Z (a_app Z ApOf.h Z mQ sQ Z (yu (ln:=[_]) mQ dQ sQ Z) oQ Z (by unfold maxLen; omega) oQ) (fun _=>uQ) (fun _=>zu rfl tQ) fun jr2=>?_
   refine au [2,3,14,5,1,23,2,3] ?_
   refine TK.maskL [1,2,5,6] ?_
   refine TK.kp [(jr2,_),(jb,_)] ?_
   exact hnext _ _ _ oQ ⟨i+1,jr2,rfl,by omega,by rw [xj hbit,lF]; rfl,by rw [xj hbit,lM]; rfl⟩
  have hbit:¬ c / 2 ^ i % 2=1:=fun h=>by rw [h] at hc1; simp at hc1
  refine au [12,14,5,1,23,2,3] ?_
  refine TK.maskL [1,2,5,6] ?_
  refine TK.kp [(jr,_),(jb,_)] ?_
  exact hnext _ _ _ oQ ⟨i+1,jr,rfl,by omega,by rw [xi hbit] <;> rfl,by rw [xi hbit] <;> rfl⟩
 obtain rfl:i=b.seams.length:=by simp at hc0; omega
 refine au [16,4,4,5,1,28,6,3,20] ?_
 refine ⟨fun hc2=>?_,fun hc2=>?_⟩
 ·have hb0:zw c b.seams.length=[]:=by have h:=eq_of_beq hc2; exact List.eq_nil_of_length_eq_zero oQ
  have hot:otherM c b.seams.length=[((c % b.seams.length:Nat):Int)]:=if_pos hb0
  refine au [4,5,1] ?_
  refine TK.a Z (yU Z Z Und.h Und.h (wK oQ)) ?_
  refine au [7,9,28] ?_
  refine TK.a Z (q_rem Z Z Z oQ oQ) ?_
  refine TK.newR Z Z Z (zt (l:=[_]) Z zF.h TyZ.h dQ dQ Z) (fun _=>zu rfl tQ) fun jo hjo=>?_
  refine au [2] ?_
  refine TK.asSl 4 Z mQ ?_
  refine TK.frzRow (j:=jo) ?_
  refine au [3] ?_
  refine TK.rt hret [(jo,_)] ?_
  exact ⟨jo,_,by rw [hot]; rfl,by rw [hot]; rfl⟩
 have hb0:zw c b.seams.length≠[]:=fun hh=>by rw [hh] at hc2; simp at hc2
 have hot:otherM c b.seams.length=zw c b.seams.length:=if_neg hb0
 refine TK.asSl 5 Z mQ ?_
 refine TK.frzRow (j:=jr) ?_
 refine au [12,4,5,1,2,3] ?_
 refine TK.rt hret [(jr,_)] ?_
 exact ⟨jr,_,by rw [hot],by rw [hot]⟩
theorem xf {b:RBk}:∀ (l:List Int) (last:Option Int),(∀ n∈l,0<=n/\n<b.seams.length/\∀ k,last=some k->k<n)->l.Pairwise (· < ·)->cutsL b last l=0
 | [],_,_,_=>rfl
 | n::r,last,h,hp=>by
  obtain ⟨h1,h2,h3⟩:=h n sQ
  obtain ⟨p1,p2⟩:=List.pairwise_cons.1 hp
  have ht:thereM b n=0:=by unfold thereM; rw [if_pos (by simp [betw]; omega)]
  unfold cutsL
  rw [if_neg (by rw [ht]; decide),if_neg]
  ·exact xf r _ (fun m hm=>⟨(h m (by simp [hm])).1,(h m (by simp [hm])).2.1,fun k hk=>by cases hk; exact p1 m hm⟩) p2
  ·cases last with
   | none=>simp [notAft]
   | some k=>have:=h3 k rfl; simp [notAft]; omega
theorem xp {b:RBk} {l:List Int} (h:CutsOk b l):cutsM b l=0:=by
 unfold cutsM
 have:=h.pos
 rw [if_neg oQ]
 exact xf l none (fun n hn=>⟨(h.bnd n hn).1,(h.bnd n hn).2,fun k hk=>by cases hk⟩) h.asc
theorem jF {b:RBk} {l:List Int} (hc:zr b=0) (h:CutsOk b l):bar2 (zr b) (cutsM b l)=0:=by
 rw [kF hc,xp h]
section
variable {main:Bool} {T:Goroutine->Hp->Prop} {b:RBk} {s h e j:Nat} {l:List Int} {et:TypeId}
end
instance:Cal tp 50:={}
instance:Cal tp 65:={}
instance:Cal tp 76:={}
end Go.Vel
namespace Go.Vel
open Go Go.Conc
def sumF (f:Nat->Int):Nat->Int
 | 0=>0
 | k+1=>sumF f k+f k
theorem jC {f g:Nat->Int}:∀ n,(∀ i,i<n->f i=g i)->sumF f n=sumF g n
 | 0,_=>rfl
 | n+1,h=>by
  unfold sumF
  rw [jC n (fun i hi=>h i oQ),h n oQ]
theorem jH {f g:Nat->Int} {k:Nat}:∀ n,k<n->(∀ i,i≠k->g i=f i)->sumF g n=sumF f n - f k+g k
 | 0,h,_=>by omega
 | n+1,h,he=>by
  unfold sumF
  by_cases e:k=n
  ·subst e
   rw [jC k (fun i hi=>he i oQ)]
   omega
  ·rw [jH n oQ he,he n (fun h=>e h.symm)]
   omega
theorem jE {f:Nat->Int} {n:Nat} (h:∀ i,n<=i->f i=0):∀ k,sumF f (n+k)=sumF f n
 | 0=>rfl
 | k+1=>by
  show sumF f (n+k)+f (n+k)=_
  rw [jE h k,h _ oQ,Int.add_zero]
theorem jZ (f g:Nat->Int):∀ n,sumF (fun i=>f i+g i) n=sumF f n+sumF g n
 | 0=>rfl
 | n+1=>by
  show sumF (fun i=>f i+g i) n+(f n+g n)=sumF f n+f n+(sumF g n+g n)
  rw [jZ f g n]
  omega
theorem xa (f g:Nat->Int):∀ n,sumF (fun i=>f i - g i) n=sumF f n - sumF g n
 | 0=>rfl
 | n+1=>by
  show sumF (fun i=>f i - g i) n+(f n - g n)=sumF f n+f n - (sumF g n+g n)
  rw [xa f g n]
  omega
theorem jR {lt:Int->Int->Bool} {x:Int} {S:List Int}:∀ j,j<=S.length->(insJ lt x S j).Perm (x::S)
 | 0,_=>List.Perm.refl _
 | j+1,h=>by
  unfold insJ
  rw [lA oQ]
  dsimp only
  split
  ·exact jR j oQ
  ·have h1:=List.perm_middle (a:=x) (l₁:=S.take (j+1)) (l₂:=S.drop (j+1))
   rwa [List.take_append_drop] at h1
theorem jK {lt:Int->Int->Bool} {l:List Int}:∀ i,i<=l.length->(sortN lt l i).Perm (l.take i)
 | 0,_=>by rw [List.take_zero]; exact List.Perm.refl _
 | i+1,h=>by
  have hg:l[i]? =some l[i]:=lA oQ
  rw [wA hg,yP hg]
  exact (jR _ (mL _)).trans ((List.Perm.cons _ (jK i oQ)).trans (List.perm_append_singleton _ _).symm)
theorem xr (b:RBk) (l:List Int):(ordM b l).Nodup:=by
 unfold ordM sortR
 refine (jK _ (mL _)).nodup_iff.2 ?_
 rw [List.take_length]
 unfold idxM
 exact List.Pairwise.map _ (fun a b hab=>by intro h; exact hab oQ) List.nodup_range
theorem xu {L:List Int} {k i:Nat} {v:Int} (h:k<L.length):(L.set k v).getD i 0=if i=k then v else L.getD i 0:=by
 rw [lE,List.getElem?_set,lE]
 by_cases e:k=i
 ·rw [if_pos e,if_pos h,if_pos e.symm]; rfl
 ·rw [if_neg e,if_neg (fun hh=>e hh.symm)]
theorem jQ {b:RBk} {l:List Int}:∀ (o:List Int) (z:Alloc),o.Nodup->(∀ k∈o,0<=k/\k<l.length)->(∀ k∈o,z.steps.getD k.toNat 0=0)->z.steps.length=l.length->0<=z.left->(∀ k∈o,0<=(cutS b l k.toNat).most)->(∀ i,0<=z.steps.getD i 0/\(i<l.length->z.steps.getD i 0<=(cutS b l i).most\/(i:Int)∈o)) ->
  sumF (fun i=>(o.foldl (allocM b l) z).steps.getD i 0) l.length+(o.foldl (allocM b l) z).left=sumF (fun i=>z.steps.getD i 0) l.length+z.left /\
  (o.foldl (allocM b l) z).squares - sumF (fun i=>(o.foldl (allocM b l) z).steps.getD i 0*(cutS b l i).busy) l.length=z.squares - sumF (fun i=>z.steps.getD i 0*(cutS b l i).busy) l.length /\
  0<=(o.foldl (allocM b l) z).left/\∀ i,0<=(o.foldl (allocM b l) z).steps.getD i 0/\(i<l.length->(o.foldl (allocM b l) z).steps.getD i 0<=(cutS b l i).most)
 | [],z,_,_,_,_,hz,_,hm=>⟨rfl,rfl,hz,fun i=>⟨(hm i).1,fun hi=>by
  rcases (hm i).2 hi with h | h
  ·exact h
  ·cases h⟩⟩
 | k::o,z,hn,ho,h0,hlen,hz,hmo,hm=>by
  obtain ⟨n1,n2⟩:=List.nodup_cons.1 hn
  have hk:=ho k sQ
  have hkl:k.toNat<z.steps.length:=by omega
  have hk0:=h0 k sQ
  have hmk:=hmo k sQ
  rw [List.foldl_cons]
  obtain ⟨v,hv⟩:∃ v,v=min z.left (cutS b l k.toNat).most:=⟨_,rfl⟩
  have hz':allocM b l z k=⟨z.steps.set k.toNat v,z.squares+v*(cutS b l k.toNat).busy,z.left - v⟩:=by rw [hv]; rfl
  have hs:∀ i,(z.steps.set k.toNat v).getD i 0=if i=k.toNat then v else z.steps.getD i 0:=fun i=>xu hkl
  obtain ⟨r1,r2,r3,r4⟩:=jQ o (allocM b l z k) n2 (fun x hx=>ho x (by simp [hx])) (fun x hx=>by
   rw [hz']
   show (z.steps.set k.toNat v).getD x.toNat 0=0
   have hx0:=ho x (by simp [hx])
   have hne:x≠k:=fun e=>n1 (e ▸ hx)
   rw [hs,if_neg oQ]
   exact h0 x (by simp [hx])) (by rw [hz']; show (z.steps.set k.toNat v).length=_; rw [List.length_set]; exact hlen) (by rw [hz']; show 0<=z.left - v; omega) (fun x hx=>hmo x (by simp [hx])) (fun i=>by
   rw [hz']
   show 0<=(z.steps.set k.toNat v).getD i 0/\(i<l.length->(z.steps.set k.toNat v).getD i 0<=_\/_)
   rw [hs]
   by_cases e:i=k.toNat
   ·rw [if_pos e]
    exact ⟨by omega,fun _=>.inl (by rw [e]; omega)⟩
   ·rw [if_neg e]
    refine ⟨(hm i).1,fun hi=>?_⟩
    rcases (hm i).2 hi with h | h
    ·exact .inl h
    ·rcases List.mem_cons.1 h with h | h
     ·omega
     ·exact .inr h)
  have e1:sumF (fun i=>(allocM b l z k).steps.getD i 0) l.length=sumF (fun i=>z.steps.getD i 0) l.length+v:=by
   rw [hz']
   rw [jH (f:=fun i=>z.steps.getD i 0) (k:=k.toNat) l.length oQ (fun i hi=>by show (z.steps.set k.toNat v).getD i 0=_; rw [hs,if_neg hi])]
   show _ - z.steps.getD k.toNat 0+(z.steps.set k.toNat v).getD k.toNat 0=_
   rw [hs,if_pos rfl,hk0]
   omega
  have e2:sumF (fun i=>(allocM b l z k).steps.getD i 0*(cutS b l i).busy) l.length=sumF (fun i=>z.steps.getD i 0*(cutS b l i).busy) l.length+v*(cutS b l k.toNat).busy:=by
   rw [hz']
   rw [jH (f:=fun i=>z.steps.getD i 0*(cutS b l i).busy) (k:=k.toNat) l.length oQ (fun i hi=>by show (z.steps.set k.toNat v).getD i 0*_=_; rw [hs,if_neg hi])]
   show _ - z.steps.getD k.toNat 0*_+(z.steps.set k.toNat v).getD k.toNat 0*_=_
   rw [hs,if_pos rfl,hk0,Int.zero_mul]
   omega
  rw [e1] at r1
  rw [e2] at r2
  rw [hz'] at r1 r2 r3 r4 ⊢
  dsimp only at r1 r2
  refine ⟨by omega,by omega,r3,r4⟩
theorem jT (b:RBk) (l:List Int):∀ k,spoilM b l k=sumF (fun i=>(cutS b l i).spoil) k
 | 0=>rfl
 | k+1=>by
  show spoilM b l k+_=sumF _ k+_
  rw [jT b l k]
def needM (b:RBk) (l w:List Int) (k:Nat):Int:=sumF (fun i=>(cutS b l i).spoil+w.getD i 0*(cutS b l i).busy) k
theorem xq {b:RBk} (hb:ROk b) {s:List Int} (hs:StOk b s):freshM b s=b.round - b.steps+sumF (fun i=>s.getD i 0) b.seams.length:=by
 have hl:=hb.sms.len
 have h5:sumF (fun i=>s.getD i 0) 5=sumF (fun i=>s.getD i 0) b.seams.length:=by
  have:=jE (f:=fun i=>s.getD i 0) (n:=b.seams.length) (fun i hi=>by
   show s.getD i 0=0
   rw [lE,lU (by rw [hs.len]; exact hi)]
   rfl) (5 - b.seams.length)
  rwa [show b.seams.length+(5 - b.seams.length)=5 by omega] at this
 rw [<- h5]
 show freshM b s=b.round - b.steps+(0+s.getD 0 0+s.getD 1 0+s.getD 2 0+s.getD 3 0+s.getD 4 0)
 unfold freshM
 omega
theorem jW {b:RBk} (hb:ROk b) {l s w:List Int} {q:Int} (hl:CutsOk b l) (hs:StOk b s) (h:hangM b l s=some (w,q)):fitsM b l=true/\w.length=l.length/\sumF (fun i=>w.getD i 0) l.length=freshM b s/\q=needM b l w l.length/\∀ i,0<=w.getD i 0/\(i<l.length->w.getD i 0<=(cutS b l i).most):=by
 obtain ⟨hwl,_⟩:=zhT hb hl hs h
 unfold hangM at h
 split at h
 ·cases h
 ·rename_i hf
  dsimp only at h
  split at h
  ·cases h
  ·rename_i hle
   have hr:∀ i,(alloc0 b l (freshM b s)).steps.getD i 0=0:=fun i=>by
    show (mB l.length (0:Int)).getD i 0=0
    rw [lE,List.getElem?_replicate]
    split <;> rfl
   obtain ⟨r1,r2,r3,r4⟩:=jQ (b:=b) (l:=l) (ordM b l) (alloc0 b l (freshM b s)) (xr b l) (fun k hk=>zdO hk) (fun k _=>hr _) (by show (mB l.length (0:Int)).length=_; rw [List.length_replicate]) (zcl hb hs).1 (fun k hk=>by
    have:=zdO hk
    exact (hb.sms.fld _ (hl.lt (k:=k.toNat) oQ).2.2).2.2.1) (fun i=>by
    rw [hr]
    refine ⟨Int.le_refl _,fun hi=>.inl ?_⟩
    exact (hb.sms.fld _ (hl.lt hi).2.2).2.2.1)
   have z1:sumF (fun i=>(alloc0 b l (freshM b s)).steps.getD i 0) l.length=0:=by
    rw [jC (g:=fun _=>0) l.length (fun i _=>hr i)]
    have:=jE (f:=fun _=>0) (n:=0) (fun _ _=>rfl) l.length
    rwa [mO] at this
   have z2:sumF (fun i=>(alloc0 b l (freshM b s)).steps.getD i 0*(cutS b l i).busy) l.length=0:=by
    rw [jC (g:=fun _=>0) l.length (fun i _=>by rw [hr i,Int.zero_mul])]
    have:=jE (f:=fun _=>0) (n:=0) (fun _ _=>rfl) l.length
    rwa [mO] at this
   rw [z1] at r1
   rw [z2] at r2
   have q1:(alloc0 b l (freshM b s)).left=freshM b s:=rfl
   have q2:(alloc0 b l (freshM b s)).squares=spoilM b l l.length:=rfl
   cases h
   refine ⟨by simpa using hf,hwl,?_,?_,r4⟩
   ·unfold allocA at hle ⊢
    omega
   ·unfold needM
    rw [jZ,<- jT]
    unfold allocA
    omega
theorem jL {b:RBk} (hb:ROk b) {l:List Int} (hl:CutsOk b l) {i:Nat} (hi:i<l.length):(stripM b l i).2=if ((cutS b l ((i+1) % l.length)).step - (cutS b l i).step+b.steps) % b.steps=0 then b.steps else ((cutS b l ((i+1) % l.length)).step - (cutS b l i).step+b.steps) % b.steps:=by
 have hst:=hb.rnd.steps
 have h1:=hb.sms.fld _ (hl.lt hi).2.2
 have h0:=hb.sms.fld _ (hl.lt hl.pos).2.2
 by_cases h:i+1<l.length
 ·have h2:=hb.sms.fld _ (hl.lt h).2.2
  have hlt:=zhN hl h
  have ha:=hb.sms.asc (zN l i).toNat (zN l (i+1)).toNat (by have:=hl.lt hi; omega) (hl.lt h).2.2
  rw [Nat.mod_eq_of_lt h]
  unfold stripM endM
  dsimp only
  rw [if_pos h]
  unfold cutS at *
  rw [Int.add_emod_right,Int.emod_eq_of_lt oQ oQ,if_neg oQ]
 ·have hn:i+1=l.length:=by omega
  rw [hn,Nat.mod_self]
  unfold stripM endM
  dsimp only
  rw [if_neg h]
  unfold cutS at *
  by_cases e:i=0
  ·subst e
   rw [Int.sub_self,Int.zero_add,Int.emod_self,if_pos rfl]
   omega
  ·have hlt:zN l 0<zN l i:=by
    have e1:=z5 hl.pos
    have e2:=z5 hi
    have:=List.pairwise_iff_getElem.1 hl.asc 0 i hl.pos hi oQ
    rw [lA hl.pos] at e1
    rw [lA hi] at e2
    rwa [Option.some.inj e1,Option.some.inj e2] at this
   have ha:=hb.sms.asc (zN l 0).toNat (zN l i).toNat (by have:=hl.lt hi; have:=hl.lt hl.pos; omega) (hl.lt hi).2.2
   rw [Int.emod_eq_of_lt oQ oQ,if_neg oQ]
   omega
theorem jD {b:RBk} (l:List Int):∀ k,k<l.length->sumF (fun i=>(stripM b l i).2) k=(cutS b l k).step - (cutS b l 0).step
 | 0,_=>by show (0:Int)=_; omega
 | k+1,h=>by
  show sumF _ k+(stripM b l k).2=_
  rw [jD l k oQ]
  unfold stripM endM
  dsimp only
  rw [if_pos h]
  omega
theorem jU {b:RBk} {l:List Int} (h:0<l.length):sumF (fun i=>(stripM b l i).2) l.length=b.steps:=by
 obtain ⟨k,hk⟩:∃ k,l.length=k+1:=⟨l.length - 1,by omega⟩
 rw [hk]
 show sumF _ k+(stripM b l k).2=_
 rw [jD l k oQ]
 unfold stripM endM
 dsimp only
 rw [if_neg oQ]
 omega
def manyM (b:RBk) (l:List Int) (i:Nat):Int:=if i+1<l.length then zN l (i+1) - zN l i else zN l 0 - zN l i+b.seams.length
theorem xA {b:RBk} {l:List Int} (hl:CutsOk b l) {i:Nat} (hi:i<l.length):manyM b l i=if (zN l ((i+1) % l.length) - zN l i+b.seams.length) % b.seams.length=0 then (b.seams.length:Int) else (zN l ((i+1) % l.length) - zN l i+b.seams.length) % b.seams.length:=by
 have h1:=hl.lt hi
 have h0:=hl.lt hl.pos
 unfold manyM
 by_cases h:i+1<l.length
 ·have h2:=hl.lt h
  have hlt:=zhN hl h
  rw [if_pos h,Nat.mod_eq_of_lt h,Int.add_emod_right,Int.emod_eq_of_lt oQ oQ,if_neg oQ]
 ·have hn:i+1=l.length:=by omega
  rw [if_neg h,hn,Nat.mod_self]
  by_cases e:i=0
  ·subst e
   rw [Int.sub_self,Int.zero_add,Int.emod_self,if_pos rfl]
  ·have hlt:zN l 0<zN l i:=by
    have e1:=z5 hl.pos
    have e2:=z5 hi
    have:=List.pairwise_iff_getElem.1 hl.asc 0 i hl.pos hi oQ
    rw [lA hl.pos] at e1
    rw [lA hi] at e2
    rwa [Option.some.inj e1,Option.some.inj e2] at this
   rw [Int.emod_eq_of_lt oQ oQ,if_neg oQ]
theorem xz {b:RBk} {l:List Int} (hl:CutsOk b l) {i:Nat} (hi:i<l.length):1<=manyM b l i/\manyM b l i<=b.seams.length:=by
 have h1:=hl.lt hi
 have h0:=hl.lt hl.pos
 unfold manyM
 split
 ·rename_i h
  have h2:=hl.lt h
  have hlt:=zhN hl h
  omega
 ·have:zN l 0<=zN l i:=by
   by_cases e:i=0
   ·subst e; omega
   ·have e1:=z5 hl.pos
    have e2:=z5 hi
    have:=List.pairwise_iff_getElem.1 hl.asc 0 i hl.pos hi oQ
    rw [lA hl.pos] at e1
    rw [lA hi] at e2
    rw [Option.some.inj e1,Option.some.inj e2] at this
    omega
  omega
def nowS (b:RBk) (s:List Int) (x:Nat):Int:=sumF (nowM b s) x
theorem xb (b:RBk) (s:List Int) (c:Nat):∀ k,c+k<=b.seams.length->togM b s c k=nowS b s (c+k) - nowS b s c
 | 0,_=>by show (0:Int)=_; rw [Nat.add_zero]; omega
 | k+1,h=>by
  unfold togM
  rw [xb b s c k oQ,Nat.mod_eq_of_lt oQ]
  show _=nowS b s (c+k)+nowM b s (c+k) - _
  omega
theorem jM (b:RBk) (s:List Int) {c:Nat} (hc:c<=b.seams.length):∀ r,r<=b.seams.length->togM b s c (b.seams.length - c+r)=nowS b s b.seams.length - nowS b s c+nowS b s r
 | 0,_=>by
  rw [Nat.add_zero,xb b s c _ oQ,show c+(b.seams.length - c)=b.seams.length by omega]
  show _=_+(0:Int)
  omega
 | r+1,h=>by
  rw [<- Nat.add_assoc]
  unfold togM
  rw [jM b s hc r oQ,show c+(b.seams.length - c+r)=b.seams.length+r by omega,Nat.add_mod_left,Nat.mod_eq_of_lt oQ]
  show _=_+(nowS b s r+nowM b s r)
  omega
theorem xc {b:RBk}:∀ k,k<b.seams.length->sumF (wideM b) k=(sm b k).step - (sm b 0).step
 | 0,_=>by show (0:Int)=_; omega
 | k+1,h=>by
  show sumF _ k+wideM b k=_
  rw [xc k oQ]
  unfold wideM
  rw [if_pos h]
  omega
theorem xv {b:RBk} (h:0<b.seams.length):sumF (wideM b) b.seams.length=b.steps:=by
 obtain ⟨k,hk⟩:∃ k,b.seams.length=k+1:=⟨b.seams.length - 1,by omega⟩
 rw [hk]
 show sumF _ k+wideM b k=_
 rw [xc k oQ]
 unfold wideM
 rw [if_neg oQ]
 omega
theorem xC {b:RBk} (h:0<b.seams.length) (s:List Int):nowS b s b.seams.length=b.steps - sumF (fun i=>s.getD i 0) b.seams.length:=by
 unfold nowS
 rw [show nowM b s=fun i=>wideM b i - s.getD i 0 from rfl,xa]
 rw [show sumF (fun i=>wideM b i) b.seams.length=b.steps from xv h]
theorem xh {b:RBk} {l:List Int} (hl:CutsOk b l) (s w:List Int):∀ k,k<l.length->atM b l s w k=nowS b s (zN l k).toNat - nowS b s (zN l 0).toNat+sumF (fun i=>w.getD i 0) (k+1) - w.getD 0 0
 | 0,_=>by show (0:Int)=_ - _+(0+w.getD 0 0) - w.getD 0 0; omega
 | k+1,h=>by
  have h1:=hl.lt (k:=k) oQ
  have h2:=hl.lt h
  have hlt:=zhN hl h
  unfold atM
  rw [xh hl s w k oQ,xb b s _ _ oQ,show (zN l k).toNat+(zN l (k+1) - zN l k).toNat=(zN l (k+1)).toNat by omega]
  show _=_ - _+(sumF (fun i=>w.getD i 0) (k+1)+w.getD (k+1) 0) - _
  omega
theorem jV {b:RBk} (hb:ROk b) {l s w:List Int} {q:Int} (hl:CutsOk b l) (hs:StOk b s) (h:hangM b l s=some (w,q)) {i:Nat} (hi:i+1=l.length):atM b l s w i+togM b s (zN l i).toNat (manyM b l i).toNat+w.getD 0 0=b.round:=by
 obtain ⟨_,_,hsum,_⟩:=jW hb hl hs h
 have h0:=hl.lt hl.pos
 have h1:=hl.lt (k:=i) oQ
 have hsl:=hb.sms.len
 rw [xh hl s w i oQ,hi,hsum,xq hb hs]
 have hm:(manyM b l i).toNat=b.seams.length - (zN l i).toNat+(zN l 0).toNat:=by
  unfold manyM
  rw [if_neg oQ]
  omega
 rw [hm,jM b s oQ _ oQ,xC oQ]
 omega
theorem xe {b:RBk} {l s w:List Int} {i:Nat} (h:i+1<l.length):atM b l s w (i+1)=atM b l s w i+togM b s (zN l i).toNat (manyM b l i).toNat+w.getD (i+1) 0:=by
 unfold manyM
 rw [if_pos h]
 show _+(_+_)=_
 omega
end Go.Vel
namespace Go.Vel
open Go Go.Conc Go.Proofs
def u16A (x:Fin 65536):AV:=.v (.int .u16 (x.1:Int))
def u16O (l:List (Fin 65536)):AObj:=.cells (l.flatMap fun x=>[u16A x]) 212 false
def choM (l:List (Fin 65536)) (i:Nat):Int:=match l[i]? with | some x=>x.1 | none=>0
def chosenM (x:RBand) (n:Int):Int:=x.low+n % (x.high - x.low+1)
def realM (b:RBk) (ps:List (Fin 65536)):Nat->List Int
 | 0=>[]
 | i+1=>realM b ps i++[chosenM (bd b i) (choM ps i)]
theorem jA (b:RBk) (ps:List (Fin 65536)):∀ i,(realM b ps i).length=i
 | 0=>rfl
 | i+1=>by unfold realM; rw [lF,jA b ps i]; rfl
theorem jS (b:RBk) (ps:List (Fin 65536)):∀ n i,i<n->(realM b ps n).getD i 0=chosenM (bd b i) (choM ps i)
 | 0,i,h=>by omega
 | n+1,i,h=>by
  unfold realM
  by_cases e:i<n
  ·rw [zeh (by rw [jA]; exact e)]
   exact jS b ps n i e
  ·have:i=n:=by omega
   subst this
   have:=zdo (p:=realM b ps i) (n:=chosenM (bd b i) (choM ps i))
   rwa [jA] at this
theorem xw (l:List (Fin 65536)) (i:Nat):0<=choM l i/\choM l i<65536:=by
 unfold choM
 cases l[i]? with
 | none=>exact ⟨Int.le_refl _,by decide⟩
 | some x=>exact ⟨by show (0:Int)<=(x.1:Int); omega,by show (x.1:Int)<65536; have:=x.2; omega⟩
theorem xn {x:RBand} (h:x.low<=x.high) (n:Int):x.low<=chosenM x n/\chosenM x n<=x.high:=by
 unfold chosenM
 have h0:=Int.emod_nonneg n (show x.high - x.low+1≠0 by omega)
 have h1:=Int.emod_lt_of_pos n (show 0<x.high - x.low+1 by omega)
 omega
theorem xE {b:RBk} (hb:ROk b) (ps:List (Fin 65536)):StOk b (realM b ps b.shrinks.length):=by
 have hl:=hb.cls.len
 refine zeV hb ⟨jA _ _ _,fun i hi=>?_⟩
 rw [jS _ _ _ _ hi]
 exact xn (hb.cls.bnd i oQ).2.1 _
theorem jX {b:RBk} (hb:ROk b) {l w:List Int} (hl:CutsOk b l) (hw:∀ i,0<=w.getD i 0/\w.getD i 0<=9):∀ k,k<=l.length->0<=needM b l w k/\needM b l w k<=90*k
 | 0,_=>by show (0:Int)<=0/\(0:Int)<=_; omega
 | k+1,h=>by
  have h1:=jX hb hl hw k oQ
  have h2:=hb.sms.fld _ (hl.lt (k:=k) oQ).2.2
  have h3:=hw k
  have p1:0<=w.getD k 0*(cutS b l k).busy:=Int.mul_nonneg h3.1 h2.2.2.2.2.1
  have p2:w.getD k 0*(cutS b l k).busy<=9*9:=Int.mul_le_mul h3.2 h2.2.2.2.2.2.1 h2.2.2.2.2.1 dQ
  show 0<=needM b l w k+((cutS b l k).spoil+_)/\needM b l w k+((cutS b l k).spoil+_)<=_
  unfold cutS at *
  omega
theorem sh_1 {b:RBk} {l:List Int} (h:StOk b l):shM b l=0:=by
 have key:∀ (r:List Int) (i:Nat),(∀ k x,r[k]? =some x->0<=x/\x<=5/\x<wideM b (i+k))->shL b i r=0:=by
  intro r
  induction r with
  | nil=>intro i _; rfl
  | cons x r ih =>
   intro i hh
   have h1:=hh 0 x rfl
   rw [Nat.add_zero] at h1
   have hb:betw x 0 5=true:=by simp only [betw,Bool.and_eq_true,decide_eq_true_eq]; omega
   unfold shL
   rw [if_neg (by rw [hb]; decide),if_neg oQ]
   exact ih (i+1) fun k y hy=>by
    have:=hh (k+1) y (by simpa using hy)
    rwa [show i+(k+1)=i+1+k by omega] at this
 unfold shM
 rw [if_neg (by rw [h.len]; simp)]
 refine key l 0 fun k x hx=>?_
 obtain ⟨hk,e⟩:=List.getElem?_eq_some_iff.1 hx
 have:=h.bnd k (by rw [<- h.len]; exact hk)
 rw [lE,hx] at this
 rw [mO]
 exact this
theorem jO {b:RBk} {l s:List Int} (hc:zr b=0) (h:CutsOk b l) (hs:StOk b s):bar2 (zr b) (bar2 (cutsM b l) (shM b s))=0:=by
 rw [kF hc,kF (xp h),sh_1 hs]
instance:Cal tp 139:={}
instance:Cal tp 140:={}
instance:zF tp 91 212 1:={}
instance:zi tp 212 false 1:={}
instance:Und tp 212 (.int .u16):={}
instance:Und tp 91 (.slice 212):={}
theorem xl {main T} (hT:zo tp main T) {gm} {j i:Nat} {ps:List (Fin 65536)} (hi:i<=1000) :
  zA tp T gm 140 [.sl j 0 ps.length,intA i] [(j,u16O ps)] (fun r K'=>r=intA (choM ps i)/\K'=[(j,u16O ps)]):=by
 refine zp 18 hT Tryz.func140 fun Y hret=>?_
 refine au [4,5,2,3,4,4,5,1,6,1,1,1,28,6,25,3,20] ?_
 refine ⟨fun hc0=>?_,fun hc0=>?_⟩
 ·have hge:ps.length<=i:=by simp at hc0; omega
  refine au [4,5,2,3] ?_
  refine TK.rt hret [(j,_)] ?_
  exact ⟨by unfold choM; rw [lU hge],rfl⟩
 have hlt:i<ps.length:=by simp at hc0; omega
 obtain ⟨x,hx⟩:∃ x,ps[i]? =some x:=⟨_,lA hlt⟩
 have hx2:=x.2
 refine au [12,4,5,1,1,36] ?_
 refine TK.a Z (zm Z Z zi.h mQ (w9 (c:=1) (f:=fun x=>[u16A x]) (fun _=>rfl) hx rfl dQ)) ?_
 refine TK.a Z (yU Z Z Und.h Und.h (wK oQ)) ?_
 refine au [2,3] ?_
 refine TK.rt hret [(j,_)] ?_
 exact ⟨by unfold choM; rw [hx],rfl⟩
theorem xo {main T} (hT:zo tp main T) {gm} {x:RBand} {n:Int} (h:0<=x.low/\x.low<=x.high/\x.high<=5) (hn:0<=n/\n<65536) :
  zA tp T gm 139 [.agg (bandC x),intA n] [] (fun r K'=>r=intA (chosenM x n)/\K'=[]):=by
 refine zp 16 hT Tryz.func139 fun Y hret=>?_
 refine au [] ?_
 have h0:=Int.emod_nonneg n (show x.high - x.low+1≠0 by omega)
 have h1:=Int.emod_lt_of_pos n (show 0<x.high - x.low+1 by omega)
 refine au [4,5,21] ?_
 intro jx hjx
 refine au [2,3,4] ?_
 refine TK.draw [0,1,2,3,4,5,6,7,8,9,10,11] [0,1,2,3,4,5,6,7,8,9,10,11] (by kernel_rfl) (by kernel_rfl) ?_
 refine TD.z [2] Z (zg Z Z zl.h dQ) ?_
 refine TD.y [5] Z (hq:=zm Z Z zi.h (mC _) Z) (h:=?_)
 refine TD.z [1] Z (zh Z Z) ?_
 refine TD.z [2] Z (zg Z Z zl.h dQ) ?_
 refine TD.y [8] Z (hq:=zm Z Z zi.h (mC _) Z) (h:=?_)
 refine TD.z [2] Z (zg Z Z zl.h dQ) ?_
 refine TD.y [10] Z (hq:=zm Z Z zi.h (mC _) Z) (h:=?_)
 refine TD.z [9,11] Z (q_sub Z Z Z oQ) ?_
 refine TD.z [12] Z (q_add Z Z Z oQ) ?_
 refine TD.z [7,13] Z (q_rem Z Z Z oQ oQ) ?_
 refine TD.z [6,14] Z (q_add Z Z Z oQ) ?_
 refine TD.as (pend':=[]) [15] Z Z (zD Z Z) ?_
 refine TD.fin ?_
 refine au [] ?_
 refine TK.rt hret [] ?_
 exact ⟨rfl,rfl⟩
theorem xD {main T} (hT:zo tp main T) {gm} {b:RBk} {s h e j:Nat} {ps:List (Fin 65536)} (hb:ROk b) :
  zA tp T gm 71 [.agg (zE b s h e),.sl j 0 ps.length] [(h,zB b),(j,u16O ps)] (fun r K'=>∃ jr,r=.sl jr 0 (realM b ps b.shrinks.length).length/\K'=(jr,.cells ((realM b ps b.shrinks.length).map intA) 3 false)::[(h,zB b),(j,u16O ps)]):=by
 refine zp 27 hT Tryz.func71 fun Y hret=>?_
 refine au [] ?_
 have hsl:=hb.sms.len
 have hcl:=hb.cls.len
 refine au [4,5,21] ?_
 intro jb hjb
 refine au [2,3,4,5,2] ?_
 refine TK.virt 5 3 1 Z fun jr0 hjr0=>?_
 refine au [3,4,4,5,2,3,13] ?_
 refine TK.maskL [1,2,5,6] ?_
 refine TK.kp [(h,_),(j,_),(jr0,_),(jb,_)] ?_
 refine TK.loopN (fun n env K=>∃ (i jr:Nat),n=b.shrinks.length - i/\i<=b.shrinks.length/\env=.any::.sl j 0 ps.length::.ptr jb 0::naL 2 (.row jr i::intA i::naL 20 [])/\K=[(h,zB b),(j,u16O ps),(jr,.row ((realM b ps i).map intA) 3 1),(jb,.cells (zE b s h e) 26 true)]) b.shrinks.length ⟨0,jr0,rfl,mN _,rfl,rfl⟩ fun n env K hI hnext=>?_
 obtain ⟨i,jr,rfl,hi,rfl,rfl⟩:=hI
 have hrl:=jA b ps i
 refine TK.na nQ ?_
 refine au [4,4,5,1,7,9,28,6,3,20] ?_
 refine ⟨fun hc0=>?_,fun hc0=>?_⟩
 ·have hil:i<b.shrinks.length:=by simp at hc0; omega
  have hq:=hb.cls.bnd i oQ
  have hcb:=xw ps i
  refine au [12,4,13] ?_
  refine TK.draw [0,1,2,3,4,5,6,7,8,9,10,11,12] [0,1,2,3,4,5,6,7,8,9,10,11,12] (by kernel_rfl) (by kernel_rfl) ?_
  refine TD.z [5] Z (zh Z Z) ?_
  refine TD.z [2] Z (zg Z Z zl.h dQ) ?_
  refine TD.y [15] Z (hq:=zm Z Z zi.h (mC _) Z) (h:=?_)
  refine TD.z [6] Z (zh Z Z) ?_
  refine TD.z [16,17] Z (zQ Z Z Z zF.h oQ oQ) ?_
  refine TD.y [18] Z (hq:=z8 Z Z zi.h (mC _) (bd_at b (i:=i) hil Z)) (h:=?_)
  refine TD.z [1] Z (zh Z Z) ?_
  refine TD.z [6] Z (zh Z Z) ?_
  refine TD.cl (pend':=[⟨5,[18],[(_,_)]⟩,⟨4,[16,17],[]⟩,⟨3,[6],[]⟩,⟨2,[15],[(_,_)]⟩,⟨1,[2],[]⟩,⟨0,[5],[]⟩]) [20,21] Z Z Z Z Z (xl hT (i:=i) oQ) (fun r1 K2 h3=>⟨?_,?_⟩)
  ·rcases h3 with ⟨rfl,rfl⟩
   all_goals simp
  obtain ⟨rfl,rfl⟩:=h3
  try simp only [cA]
  refine TD.norm tQ ?_
  refine TD.cl (pend':=[⟨4,[16,17],[]⟩,⟨3,[6],[]⟩,⟨2,[15],[(_,_)]⟩,⟨1,[2],[]⟩,⟨0,[5],[]⟩]) [19,22] Z Z Z Z Z (xo hT oQ hcb) (fun r4 K5 h6=>⟨?_,?_⟩)
  ·rcases h6 with ⟨rfl,rfl⟩
   all_goals simp
  obtain ⟨rfl,rfl⟩:=h6
  try simp only [cA]
  refine TD.norm tQ ?_
  refine TD.cnewR (pend':=[⟨4,[16,17],[]⟩,⟨3,[6],[]⟩,⟨2,[15],[(_,_)]⟩,⟨1,[2],[]⟩,⟨0,[5],[]⟩]) [23] Z Z Z Z Z (zt (l:=[_]) Z zF.h TyZ.h dQ dQ Z) (fun _=>zu rfl tQ) sQ fun j7 hj7=>?_
  refine TD.capp (pend':=[⟨4,[16,17],[]⟩,⟨3,[6],[]⟩,⟨2,[15],[(_,_)]⟩,⟨1,[2],[]⟩]) [14,24] Z Z Z Z Z (a_app Z ApOf.h Z mQ (by rw [List.length_map]; omega) Z (yu (ln:=[_]) mQ dQ sQ Z) oQ Z (by unfold maxLen; omega) oQ) (fun _=>uQ) (fun _=>zu rfl tQ) (fun _=>sQ) fun jr2=>?_
  refine TD.as (pend':=[]) [25] Z Z (zD Z Z) ?_
  refine TD.fin ?_
  refine au [14,5,1,23,2,3] ?_
  refine TK.maskL [1,2,5,6] ?_
  refine TK.kp [(h,_),(j,_),(jr2,_),(jb,_)] ?_
  exact hnext _ _ _ oQ ⟨i+1,jr2,rfl,by omega,rfl,by rw [show realM b ps (i+1)=realM b ps i++[chosenM (bd b i) (choM ps i)] from rfl,lM]; rfl⟩
 obtain rfl:i=b.shrinks.length:=by simp at hc0; omega
 refine TK.asSl 5 Z mQ ?_
 refine TK.frzRow (j:=jr) ?_
 refine au [16,4,5,1,2,3] ?_
 refine TK.rt hret [(jr,_),(h,_),(j,_)] ?_
 exact ⟨jr,by rw [jA] <;> rfl,rfl⟩
theorem xB {main T} (hT:zo tp main T) {gm} {b:RBk} {s h e j j2:Nat} {l w:List Int} {et et2:TypeId} (hb:ROk b) (hl:CutsOk b l) (hwl:w.length=l.length) (hw:∀ i,0<=w.getD i 0/\w.getD i 0<=9) :
  zA tp T gm 72 [.agg (zE b s h e),.sl j 0 l.length,.sl j2 0 w.length] [(s,zk b),(j,.cells (l.map intA) et false),(j2,.cells (w.map intA) et2 false)] (fun r K'=>r=intA (needM b l w l.length)/\K'=[(s,zk b),(j,.cells (l.map intA) et false),(j2,.cells (w.map intA) et2 false)]):=by
 refine zp 42 hT Tryz.func72 fun Y hret=>?_
 refine au [] ?_
 have hsl:=hb.sms.len
 have hll:=hl.len
 refine au [4,5,21] ?_
 intro jb hjb
 refine au [2,3,4,5,2,3,4,4,5,2,3,13] ?_
 refine TK.maskL [1,2,3,7,8] ?_
 refine TK.kp [(s,_),(j,_),(j2,_),(jb,_)] ?_
 refine TK.loopN (fun n env K=>∃ (i:Nat),n=l.length - i/\i<=l.length/\env=.any::.sl j 0 l.length::.sl j2 0 w.length::.ptr jb 0::naL 3 (intA (needM b l w i)::intA i::naL 33 [])/\K=[(s,zk b),(j,.cells (l.map intA) et false),(j2,.cells (w.map intA) et2 false),(jb,.cells (zE b s h e) 26 true)]) l.length ⟨0,rfl,mN _,rfl,rfl⟩ fun n env K hI hnext=>?_
 obtain ⟨i,rfl,hi,rfl,rfl⟩:=hI
 refine TK.na nQ ?_
 refine au [4,4,5,1,1,28,6,3,20] ?_
 refine ⟨fun hc0=>?_,fun hc0=>?_⟩
 ·have hil:i<l.length:=by simp at hc0; omega
  have hq:=hl.lt hil
  have hnb:=jX hb hl hw i oQ
  have hf:=hb.sms.fld _ hq.2.2
  have hwi:0<=zN w i/\zN w i<=9:=hw i
  have p1:0<=zN w i*(sm b (zN l i).toNat).busy:=Int.mul_nonneg hwi.1 hf.2.2.2.2.1
  have p2:zN w i*(sm b (zN l i).toNat).busy<=9*9:=Int.mul_le_mul hwi.2 hf.2.2.2.2.2.1 hf.2.2.2.2.1 dQ
  refine au [12,4,13] ?_
  refine TK.draw [0,1,2,3,4,5,6,7,8,9,10,11,12,13,14,15,16,17,18,19,20,21,22,23,24,25,26] [0,1,2,3,4,5,6,7,8,9,10,11,12,13,14,15,16,17,18,19,20,21,22,23,24,25,26] (by kernel_rfl) (by kernel_rfl) ?_
  refine TD.z [7] Z (zh Z Z) ?_
  refine TD.z [3] Z (zg Z Z zl.h dQ) ?_
  refine TD.y [16] Z (hq:=zm Z Z zi.h (mC _) Z) (h:=?_)
  refine TD.z [1] Z (zh Z Z) ?_
  refine TD.z [8] Z (zh Z Z) ?_
  refine TD.z [18,19] Z (zQ Z Z Z zF.h oQ oQ) ?_
  refine TD.y [20] Z (hq:=zm Z Z zi.h (mC _) (yh (i:=i) (z5 hil) Z)) (h:=?_)
  refine TD.z [17,21] Z (zQ Z Z Z zF.h oQ oQ) ?_
  refine TD.z [22] Z (zg Z Z zl.h dQ) ?_
  refine TD.y [23] Z (hq:=zm Z Z zi.h (mC _) (ym (c:=3) (sm_at b (i:=(zN l i).toNat) (hl.lt hil).2.2 oQ) dQ Z)) (h:=?_)
  refine TD.z [15,24] Z (q_add Z Z Z oQ) ?_
  refine TD.z [2] Z (zh Z Z) ?_
  refine TD.z [8] Z (zh Z Z) ?_
  refine TD.z [26,27] Z (zQ Z Z Z zF.h oQ oQ) ?_
  refine TD.y [28] Z (hq:=zm Z Z zi.h (mC _) (yh (i:=i) (z5 (l:=w) oQ) Z)) (h:=?_)
  refine TD.z [3] Z (zg Z Z zl.h dQ) ?_
  refine TD.y [30] Z (hq:=zm Z Z zi.h (mC _) Z) (h:=?_)
  refine TD.z [1] Z (zh Z Z) ?_
  refine TD.z [8] Z (zh Z Z) ?_
  refine TD.z [32,33] Z (zQ Z Z Z zF.h oQ oQ) ?_
  refine TD.y [34] Z (hq:=zm Z Z zi.h (mC _) (yh (i:=i) (z5 hil) Z)) (h:=?_)
  refine TD.z [31,35] Z (zQ Z Z Z zF.h oQ oQ) ?_
  refine TD.z [36] Z (zg Z Z zl.h dQ) ?_
  refine TD.y [37] Z (hq:=zm Z Z zi.h (mC _) (ym (c:=2) (sm_at b (i:=(zN l i).toNat) (hl.lt hil).2.2 oQ) dQ Z)) (h:=?_)
  refine TD.z [29,38] Z (q_mul Z Z Z oQ) ?_
  refine TD.z [25,39] Z (q_add Z Z Z oQ) ?_
  refine TD.as (pend':=[]) [40] Z Z (zD Z Z) ?_
  refine TD.fin ?_
  refine au [14,5,1,23,2,3] ?_
  refine TK.maskL [1,2,3,7,8] ?_
  refine TK.kp [(s,_),(j,_),(j2,_),(jb,_)] ?_
  exact hnext _ _ _ oQ ⟨i+1,rfl,by omega,by rw [show needM b l w i+(sm b (zN l i).toNat).spoil+zN w i*(sm b (zN l i).toNat).busy=needM b l w (i+1) by show _=needM b l w i+(_+_); rw [Int.add_assoc]; rfl]; rfl,rfl⟩
 obtain rfl:i=l.length:=by simp at hc0; omega
 refine au [16,4,5,1,2,3] ?_
 refine TK.rt hret [(s,_),(j,_),(j2,_)] ?_
 exact ⟨rfl,rfl⟩
theorem jN {main T} (hT:zo tp main T) {gm} {b:RBk} {s h e j c m:Nat} {st:List Int} {et:TypeId} (hb:ROk b) (hs:StOk b st) (hc:c<b.seams.length) (hm:m<=b.seams.length) :
  zA tp T gm 73 [.agg (zE b s h e),intA c,intA m,.sl j 0 st.length] [(s,zk b),(j,.cells (st.map intA) et false)] (fun r K'=>r=intA (togM b st c m)/\K'=[(s,zk b),(j,.cells (st.map intA) et false)]):=by
 refine zp 35 hT Tryz.func73 fun Y hret=>?_
 refine au [] ?_
 have hsl:=hb.sms.len
 have hst:=hs.len
 refine au [4,5,21] ?_
 intro jb hjb
 refine au [2,3,4,5,2,3,4,4,5,2,3,13] ?_
 refine TK.maskL [1,2,3,4,9,10] ?_
 refine TK.kp [(s,_),(j,_),(jb,_)] ?_
 refine TK.loopN (fun n env K=>∃ (i:Nat),n=m - i/\i<=m/\env=.any::intA c::intA m::.sl j 0 st.length::.ptr jb 0::naL 4 (intA (togM b st c i)::intA i::naL 24 [])/\K=[(s,zk b),(j,.cells (st.map intA) et false),(jb,.cells (zE b s h e) 26 true)]) m ⟨0,rfl,mN _,rfl,rfl⟩ fun n env K hI hnext=>?_
 obtain ⟨i,rfl,hi,rfl,rfl⟩:=hI
 refine TK.na nQ ?_
 refine au [4,4,5,1,1,6,3,20] ?_
 refine ⟨fun hc0=>?_,fun hc0=>?_⟩
 ·have hil:i<m:=by simp at hc0; omega
  have hkl:(c+i) % b.seams.length<b.seams.length:=Nat.mod_lt _ oQ
  have htb:=za8 hb hs (c:=c) i
  have hwd:=hb.wide hkl
  have hsb:=hs.bnd _ hkl
  refine au [12,4,13,4,5,1,1,23,7,9,28] ?_
  refine TK.a Z (q_rem Z Z Z oQ oQ) ?_
  refine au [2,3] ?_
  rw [show ((c:Int)+(i:Int)) % (b.seams.length:Int)=(((c+i) % b.seams.length:Nat):Int) by rw [<- Int.natCast_add,<- Int.natCast_emod]]
  have htn:togM b st c i+wideM b ((c+i) % b.seams.length) - zN st ((c+i) % b.seams.length)=togM b st c (i+1):=by show _=togM b st c i+(wideM b _ - st.getD _ 0); unfold zN; omega
  have hsb2:0<=zN st ((c+i) % b.seams.length)/\zN st ((c+i) % b.seams.length)<=5:=⟨hsb.1,hsb.2.1⟩
  refine TK.draw [0,1,2,5,6,7,8,3,4,9,10] [0,1,2,3,4,5,6,7,8,9,10] (by kernel_rfl) (by kernel_rfl) ?_
  refine TD.z [9] Z (zh Z Z) ?_
  refine TD.y [4] Z (hq:=z8 Z Z zi.h (mC _) Z) (h:=?_)
  refine TD.z [11] Z (zh Z Z) ?_
  refine TD.z [3] Z (zh Z Z) ?_
  refine TD.z [11] Z (zh Z Z) ?_
  refine TD.z [29,30] Z (zQ Z Z Z zF.h oQ oQ) ?_
  refine TD.y [31] Z (hq:=zm Z Z zi.h (mC _) (yh (i:=(c+i) % b.seams.length) (z5 oQ) Z)) (h:=?_)
  refine TD.cl (pend':=[⟨8,[31],[(_,_)]⟩,⟨7,[29,30],[]⟩,⟨6,[11],[]⟩,⟨5,[3],[]⟩,⟨0,[9],[]⟩]) [25,26] Z Z Z Z Z (zfx hT (i:=(c+i) % b.seams.length) hb.rnd hb.sms hkl) (fun r1 K2 h3=>⟨?_,?_⟩)
  ·rcases h3 with ⟨rfl,rfl⟩
   all_goals simp
  obtain ⟨rfl,rfl⟩:=h3
  try simp only [cA]
  refine TD.norm tQ ?_
  refine TD.z [24,27] Z (q_add Z Z Z oQ) ?_
  refine TD.z [28,32] Z (q_sub Z Z Z oQ) ?_
  refine TD.as (pend':=[]) [33] Z Z (zD Z Z) ?_
  refine TD.fin ?_
  refine au [14,5,1,23,2,3] ?_
  refine TK.maskL [1,2,3,4,9,10] ?_
  refine TK.kp [(s,_),(j,_),(jb,_)] ?_
  exact hnext _ _ _ oQ ⟨i+1,rfl,by omega,by rw [htn]; rfl,rfl⟩
 obtain rfl:i=m:=by simp at hc0; omega
 refine au [16,4,5,1,2,3] ?_
 refine TK.rt hret [(s,_),(j,_)] ?_
 exact ⟨rfl,rfl⟩
theorem or2r {x:Int} {A B:Prop} (h:(x≠0/\A)\/(x=0/\B)) (hx:x=0):B:=by
 rcases h with ⟨h,_⟩ | ⟨_,h⟩
 ·exact absurd hx h
 ·exact h
theorem or3x {x:Int} {A B C P:Prop} (h:(x≠0/\A)\/(x=0/\P/\B)\/(x=0/\C)) (hx:x=0):(P/\B)\/C:=by
 rcases h with ⟨h,_⟩ | ⟨_,h⟩ | ⟨_,h⟩
 ·exact absurd hx h
 ·exact .inl h
 ·exact .inr h
theorem ji {b:RBk} {l:List Int} {i:Nat} (h:i<l.length):(stripsM b l)[i]? =some (stripM b l i):=by
 unfold stripsM
 rw [lQ,List.getElem?_range h]
 rfl
theorem jB {b:RBk} {l s w:List Int} {i:Nat} (h:i<l.length):(placesM b l s w)[i]? =some (atM b l s w i):=by
 unfold placesM
 rw [lQ,List.getElem?_range h]
 rfl
instance:Cal tp 71:={}
instance:Cal tp 72:={}
instance:Cal tp 73:={}
theorem xd {b:RBk} {s h e:Nat} {j:Nat} {ps:List (Fin 65536)} {k:Int} (hk:0<=k/\k<256):Top tp gmR 11 [.agg (zE b s h e),.sl j 0 ps.length,.v (.int .u8 k)] [(0,zy),(s,zk b),(h,zB b),(e,zq b),(j,u16O ps)] (fun r _=>r=zP true):=by
 refine topI 302 Tryz.func11 fun R Y hret=>?_
 have hT:=kH (P:=tp) (AtRet tp 11 R)
 refine au [4,5,21] ?_
 intro jb hjb
 refine au [2,3,4,4,5,8] ?_
 refine TK.cl Z Z Z Z (zja hT) ?_
 rintro r1 K2 ⟨rfl,rfl⟩
 refine au [30,3,20] ?_
 refine ⟨fun hc0=>?_,fun hc0=>?_⟩
 ·refine au [4,5] ?_
  refine TK.cl Z Z Z Z (zi5) ?_
  rintro r4 K5 ⟨rfl,rfl⟩
  refine au [2,3] ?_
  refine TK.rt hret [] ?_
  rfl
 have hgr:greatM b=false/\zr b=0:=by cases hq:greatM b <;> simp [hq] at hc0; exact ⟨rfl,hc0⟩
 obtain ⟨hgr,hck⟩:=hgr
 have hbb:=zZ hck
 have hl:b.seams.length<=100:=by have:=hbb.sms.len; omega
 have hm:b.measures.length<=100:=by have:=hbb.mes.len; omega
 have hl2:b.shrinks.length<=100:=by have:=hbb.cls.len; omega
 have hst:=hbb.rnd.steps
 obtain ⟨kn,rfl⟩:=Int.eq_ofNat_of_zero_le hk.1
 have hsl:=hbb.sms.len
 have hcl:=hbb.cls.len
 refine au [12,4] ?_
 refine TK.draw [0,1,3,4,2,5,6,7] [0,1,2,3,4,5,6,7] (by kernel_rfl) (by kernel_rfl) ?_
 refine TD.y [3] Z (hq:=z8 Z Z zi.h (mC _) Z) (h:=?_)
 refine TD.z [1] Z (zh Z Z) ?_
 refine TD.y [3] Z (hq:=z8 Z Z zi.h (mC _) Z) (h:=?_)
 refine TD.z [2] Z (zh Z Z) ?_
 refine TD.cl (pend':=[⟨4,[2],[]⟩,⟨3,[3],[(_,_)]⟩]) [31,32] Z Z Z Z Z (xD hT hbb) (fun r7 K8 h9=>⟨?_,?_⟩)
 ·rcases h9 with ⟨jr,rfl,rfl⟩
  all_goals simp
 obtain ⟨jr,rfl,rfl⟩:=h9
 try simp only [cA]
 refine TD.norm tQ ?_
 refine TD.cl (pend':=[]) [34,35] Z Z Z Z Z (xx hT hsl oQ) (fun r10 K11 h12=>⟨?_,?_⟩)
 ·rcases h12 with ⟨jo,eo,rfl,rfl⟩
  all_goals simp
 obtain ⟨jo,eo,rfl,rfl⟩:=h12
 try simp only [cA]
 refine TD.norm tQ ?_
 obtain ⟨d,hd0,hd1,hdo⟩:=xg (c:=kn) hsl.1 hsl.2
 have hcc:CutsOk b (otherM kn b.seams.length):=hdo ▸ zeD hbb hd0 hd1
 have hss:=xE hbb ps
 clear hdo
 generalize otherM kn b.seams.length=l at hcc ⊢
 generalize realM b ps b.shrinks.length=st at hss ⊢
 have hll:=hcc.len
 have hlp:=hcc.pos
 have hsk:=hss.len
 refine TD.as (pend':=[]) [33] Z Z (zD Z Z) ?_
 refine TD.as (pend':=[]) [36] Z Z (zD Z Z) ?_
 refine TD.fin ?_
 refine au [4,5,8,1] ?_
 refine TK.cl Z Z Z Z ((zhO hT hl hm oQ).mono (fun _ _ h=>or2r h (jF hck hcc))) ?_
 rintro r13 K14 ⟨jl,rfl,rfl⟩
 refine au [1,10,10,2,2,3,4,5,8,1,1] ?_
 refine TK.cl Z Z Z Z ((zei hT hl hm oQ).mono (fun _ _ h=>or3x h (jO hck hcc hss))) ?_
 rintro r16 K17 h18
 rcases h18 with ⟨hno,rfl,rfl⟩ | ⟨w,q,jw,hso,rfl,rfl⟩
 ·refine au [1,10,10,10,10,2,2,2,2,3,4,5,8,1,1] ?_
  refine TK.cl Z Z Z Z ((zcR hT hl hm oQ).mono (fun _ _ h=>or3x h (jO hck hcc hss))) ?_
  rintro r19 K20 h21
  rcases h21 with ⟨hno2,rfl,rfl⟩ | ⟨w2,q2,jq,hso2,rfl,rfl⟩
  ·refine au [] ?_
   refine au [1,10,10,10,2,2,2,3,4,5,8,1] ?_
   refine TK.cl Z Z Z Z (zaN hT hl hm oQ) ?_
   rintro r22 K23 ⟨rfl,rfl⟩
   refine au [] ?_
   rw [jF hck hcc]
   refine au [1,10,10,2,2,3,4,4,5,1,6,1,1,6,25,1,1,6,25,1,1,6,25,1] ?_
   refine TK.sp 80 (fun g8_15=>?_) (fun g8_15=>?_)
   ·simp at g8_15
   refine au [1,28,1,28,6,25,1] ?_
   refine TK.sp 87 (fun g8_22=>?_) (fun g8_22=>?_)
   ·simp at g8_22
   refine au [1,1,34,25,1] ?_
   refine TK.sp 92 (fun g8_27=>?_) (fun g8_27=>?_)
   ·simp at g8_27
   refine au [1,1,11,11,25,25,3,19,12,4,5,2,3,4,4,5,2,3,13] ?_
   refine TK.maskL [3,7,8,9,11,12,13,15,20,21] ?_
   refine TK.kp [(0,_),(s,_),(h,_),(e,_),(j,_),(jb,_),(jl,_),(jo,_),(jr,_)] ?_
   refine TK.loopN (fun n env K=>∃ (i:Nat),n=l.length - i/\i<=l.length/\env=naL 3 (.ptr jb 0::naL 3 (.sl jr 0 st.length::.sl jo 0 l.length::.row jl l.length::.any::.v (.slice none 0 0)::intA 0::zP false::.any::.v (.slice none 0 0)::naL 4 ((intA (sumF (fun i=>(stripM b l i).2) i))::intA i::naL 280 [])))/\K=[(0,zy),(s,zk b),(h,zB b),(e,zq b),(j,u16O ps),(jb,.cells (zE b s h e) 26 true),(jl,.row ((stripsM b l).flatMap pairC) 96 2),(jo,.cells (l.map intA) eo false),(jr,.cells (st.map intA) 3 false)]) l.length ⟨0,rfl,mN _,rfl,rfl⟩ fun n env K hI hnext=>?_
   obtain ⟨i,rfl,hi,rfl,rfl⟩:=hI
   refine TK.na nQ ?_
   refine au [4,4,5,1,1,28,6,3,20] ?_
   refine ⟨fun hc2=>?_,fun hc2=>?_⟩
   ·have hil:i<l.length:=by simp at hc2; omega
    have hmi:((i:Int)+1) % (l.length:Int)=(((i+1) % l.length:Nat):Int):=rfl
    have hmi0:=Int.emod_nonneg ((i:Int)+1) (show (l.length:Int)≠0 by omega)
    have hmi1:=Int.emod_lt_of_pos ((i:Int)+1) (show 0<(l.length:Int) by omega)
    have hcu:=hcc.lt hil
    have hnx:=hcc.lt (k:=(i+1) % l.length) (Nat.mod_lt _ hcc.pos)
    have hf1:=hbb.sms.fld _ hcu.2.2
    have hf2:=hbb.sms.fld _ hnx.2.2
    have hf0:=hbb.sms.fld _ (hcc.lt hcc.pos).2.2
    have hsw:=jL hbb hcc hil
    have hsi:=jD (b:=b) l i hil
    unfold cutS at hsw hsi
    have hr0:=Int.emod_nonneg ((sm b (zN l ((i+1) % l.length)).toNat).step - (sm b (zN l i).toNat).step+b.steps) (show b.steps≠0 by omega)
    have hr1:=Int.emod_lt_of_pos ((sm b (zN l ((i+1) % l.length)).toNat).step - (sm b (zN l i).toNat).step+b.steps) (show 0<b.steps by omega)
    refine au [12,4,13,4] ?_
    refine TK.draw [0,1,2,3,4,5,6,7,8,9,10,11,12,13] [0,1,2,3,4,5,6,7,8,9,10,11,12,13] (by kernel_rfl) (by kernel_rfl) ?_
    refine TD.z [3] Z (zg Z Z zl.h dQ) ?_
    refine TD.y [105] Z (hq:=zm Z Z zi.h (mC _) Z) (h:=?_)
    refine TD.z [8] Z (zh Z Z) ?_
    refine TD.z [21] Z (zh Z Z) ?_
    refine TD.z [108] Z (q_add Z Z Z oQ) ?_
    refine TD.z [8] Z (zh Z Z) ?_
    refine TD.z [110] Z (q_len Z Z Z Und.h) ?_
    refine TD.z [109,111] Z (q_rem Z Z Z oQ oQ) ?_
    refine TD.z [107,112] Z (zQ Z Z Z zF.h oQ oQ) ?_
    refine TD.y [113] Z (hq:=zm Z Z zi.h (mC _) (yh (i:=(i+1) % l.length) (z5 (Nat.mod_lt _ hcc.pos)) hmi)) (h:=?_)
    refine TD.z [106,114] Z (zQ Z Z Z zF.h oQ oQ) ?_
    refine TD.z [115] Z (zg Z Z zl.h dQ) ?_
    refine TD.y [116] Z (hq:=zm Z Z zi.h (mC _) (ym (c:=0) (sm_at b (i:=(zN l ((i+1) % l.length)).toNat) hnx.2.2 oQ) dQ Z)) (h:=?_)
    refine TD.as (pend':=[]) [117] Z Z (zD Z Z) ?_
    refine TD.fin ?_
    refine au [4] ?_
    refine TK.draw [0,1,2,3,4,5,6,7,8,9,10,11,12,13,14,15,16,17] [0,1,2,3,4,5,6,7,8,9,10,11,12,13,14,15,16,17] (by kernel_rfl) (by kernel_rfl) ?_
    refine TD.z [22] Z (zh Z Z) ?_
    refine TD.z [3] Z (zg Z Z zl.h dQ) ?_
    refine TD.y [119] Z (hq:=zm Z Z zi.h (mC _) Z) (h:=?_)
    refine TD.z [8] Z (zh Z Z) ?_
    refine TD.z [21] Z (zh Z Z) ?_
    refine TD.z [121,122] Z (zQ Z Z Z zF.h oQ oQ) ?_
    refine TD.y [123] Z (hq:=zm Z Z zi.h (mC _) (yh (i:=i) (z5 hil) Z)) (h:=?_)
    refine TD.z [120,124] Z (zQ Z Z Z zF.h oQ oQ) ?_
    refine TD.z [125] Z (zg Z Z zl.h dQ) ?_
    refine TD.y [126] Z (hq:=zm Z Z zi.h (mC _) (ym (c:=0) (sm_at b (i:=(zN l i).toNat) hcu.2.2 oQ) dQ Z)) (h:=?_)
    refine TD.z [118,127] Z (q_sub Z Z Z oQ) ?_
    refine TD.z [3] Z (zg Z Z zl.h dQ) ?_
    refine TD.y [129] Z (hq:=zm Z Z zi.h (mC _) Z) (h:=?_)
    refine TD.z [128,130] Z (q_add Z Z Z oQ) ?_
    refine TD.z [3] Z (zg Z Z zl.h dQ) ?_
    refine TD.y [132] Z (hq:=zm Z Z zi.h (mC _) Z) (h:=?_)
    refine TD.z [131,133] Z (q_rem Z Z Z oQ oQ) ?_
    refine TD.as (pend':=[]) [134] Z Z (zD Z Z) ?_
    refine TD.fin ?_
    refine au [4,4,5,1,6,3,20] ?_
    refine ⟨fun hc3=>?_,fun hc3=>?_⟩
    ·have hwd:(stripM b l i).2=b.steps:=by rw [hsw,if_pos (eq_of_beq hc3)]
     refine au [5,7,9,2,3,4,4] ?_
     refine TK.draw [0,1,2,3,4,5,6,7,8,9,10,11,12,13,14,15,16,17,18] [0,1,2,3,4,5,6,7,8,9,10,11,12,13,14,15,16,17,18] (by kernel_rfl) (by kernel_rfl) ?_
     refine TD.z [9] Z (zh Z Z) ?_
     refine TD.z [21] Z (zh Z Z) ?_
     refine TD.y [139,140] Z (hq:=kA Z Z Z zF.h (mC _) oQ oQ) (h:=?_)
     refine TD.z [141] Z (zg Z Z zl.h dQ) ?_
     refine TD.y [142] Z (hq:=zm Z Z zi.h (mC _) (ym (c:=0) (zbo (c:=2) (f:=pairC) (fun _=>rfl) (ji (b:=b) hil) rfl dQ) dQ rfl)) (h:=?_)
     refine TD.z [8] Z (zh Z Z) ?_
     refine TD.z [21] Z (zh Z Z) ?_
     refine TD.z [144,145] Z (zQ Z Z Z zF.h oQ oQ) ?_
     refine TD.y [146] Z (hq:=zm Z Z zi.h (mC _) (yh (i:=i) (z5 hil) Z)) (h:=?_)
     refine TD.z [143,147] Z (q_cmp Z Z Z Z) ?_
     refine TD.z [148] Z (zh Z Z) ?_
     refine TD.sp 149 (fun g18_11=>?_) (fun g18_11=>?_)
     ·simp [stripM] at g18_11
     refine TD.z [9,149] Z (zh Z Z) ?_
     refine TD.z [21,149] Z (zh Z Z) ?_
     refine TD.y [149,150,151] Z (hq:=kA Z Z Z zF.h (mC _) oQ oQ) (h:=?_)
     refine TD.z [149,152] Z (zg Z Z zl.h dQ) ?_
     refine TD.y [149,153] Z (hq:=zm Z Z zi.h (mC _) (ym (c:=1) (zbo (c:=2) (f:=pairC) (fun _=>rfl) (ji (b:=b) hil) rfl dQ) dQ rfl)) (h:=?_)
     refine TD.z [23,149] Z (zh Z Z) ?_
     refine TD.z [149,154,155] Z (q_cmp Z Z Z Z) ?_
     refine TD.z [149,156] Z (yf Z Z Z) ?_
     refine TD.fin ?_
     refine au [20] ?_
     refine ⟨fun hc4=>?_,fun hc4=>?_⟩
     ·first | exact absurd hc4 dQ | (rw [hwd] at hc4; simp at hc4)
     refine au [12,5,1,1,23,2,3,14,5,1,23,2,3] ?_
     refine TK.maskL [3,7,8,9,11,12,13,15,20,21] ?_
     refine TK.kp [(0,_),(s,_),(h,_),(e,_),(j,_),(jb,_),(jl,_),(jo,_),(jr,_)] ?_
     exact hnext _ _ _ oQ ⟨i+1,rfl,by omega,by rw [show sumF (fun i=>(stripM b l i).2) i+b.steps=sumF (fun i=>(stripM b l i).2) (i+1) by show _=_+(stripM b l i).2; rw [hwd]]; rfl,rfl⟩
    have hwd:(stripM b l i).2=((sm b (zN l ((i+1) % l.length)).toNat).step - (sm b (zN l i).toNat).step+b.steps) % b.steps:=by rw [hsw,if_neg (fun hh=>by rw [hh] at hc3; simp at hc3)]
    refine au [12,4,4] ?_
    refine TK.draw [0,1,2,3,4,5,6,7,8,9,10,11,12,13,14,15,16,17,18] [0,1,2,3,4,5,6,7,8,9,10,11,12,13,14,15,16,17,18] (by kernel_rfl) (by kernel_rfl) ?_
    refine TD.z [9] Z (zh Z Z) ?_
    refine TD.z [21] Z (zh Z Z) ?_
    refine TD.y [139,140] Z (hq:=kA Z Z Z zF.h (mC _) oQ oQ) (h:=?_)
    refine TD.z [141] Z (zg Z Z zl.h dQ) ?_
    refine TD.y [142] Z (hq:=zm Z Z zi.h (mC _) (ym (c:=0) (zbo (c:=2) (f:=pairC) (fun _=>rfl) (ji (b:=b) hil) rfl dQ) dQ rfl)) (h:=?_)
    refine TD.z [8] Z (zh Z Z) ?_
    refine TD.z [21] Z (zh Z Z) ?_
    refine TD.z [144,145] Z (zQ Z Z Z zF.h oQ oQ) ?_
    refine TD.y [146] Z (hq:=zm Z Z zi.h (mC _) (yh (i:=i) (z5 hil) Z)) (h:=?_)
    refine TD.z [143,147] Z (q_cmp Z Z Z Z) ?_
    refine TD.z [148] Z (zh Z Z) ?_
    refine TD.sp 149 (fun g18_11=>?_) (fun g18_11=>?_)
    ·simp [stripM] at g18_11
    refine TD.z [9,149] Z (zh Z Z) ?_
    refine TD.z [21,149] Z (zh Z Z) ?_
    refine TD.y [149,150,151] Z (hq:=kA Z Z Z zF.h (mC _) oQ oQ) (h:=?_)
    refine TD.z [149,152] Z (zg Z Z zl.h dQ) ?_
    refine TD.y [149,153] Z (hq:=zm Z Z zi.h (mC _) (ym (c:=1) (zbo (c:=2) (f:=pairC) (fun _=>rfl) (ji (b:=b) hil) rfl dQ) dQ rfl)) (h:=?_)
    refine TD.z [23,149] Z (zh Z Z) ?_
    refine TD.z [149,154,155] Z (q_cmp Z Z Z Z) ?_
    refine TD.z [149,156] Z (yf Z Z Z) ?_
    refine TD.fin ?_
    refine au [20] ?_
    refine ⟨fun hc4=>?_,fun hc4=>?_⟩
    ·first | exact absurd hc4 dQ | (rw [hwd] at hc4; simp at hc4)
    refine au [12,5,1,1,23,2,3,14,5,1,23,2,3] ?_
    refine TK.maskL [3,7,8,9,11,12,13,15,20,21] ?_
    refine TK.kp [(0,_),(s,_),(h,_),(e,_),(j,_),(jb,_),(jl,_),(jo,_),(jr,_)] ?_
    exact hnext _ _ _ oQ ⟨i+1,rfl,by omega,by rw [show sumF (fun i=>(stripM b l i).2) i+(((sm b (zN l ((i+1) % l.length)).toNat).step - (sm b (zN l i).toNat).step+b.steps) % b.steps)=sumF (fun i=>(stripM b l i).2) (i+1) by show _=_+(stripM b l i).2; rw [hwd]]; rfl,rfl⟩
   obtain rfl:i=l.length:=by simp at hc2; omega
   refine au [16,4,4,5,1,7,9,6,3,20] ?_
   refine ⟨fun hc5=>?_,fun hc5=>?_⟩
   ·rw [jU hcc.pos] at hc5; simp at hc5
   refine au [12,4,4,5,1,30,3,20] ?_
   refine ⟨fun hc6=>?_,fun hc6=>?_⟩
   ·
    refine au [4,5,1,28,1,28,23,1,23,6,1] ?_
    refine TK.cl Z Z Z Z (zi5) ?_
    rintro r25 K26 ⟨rfl,rfl⟩
    refine au [26,2,3] ?_
    refine TK.rt hret [] ?_
    rfl
   exact absurd hc6 dQ
  ·refine au [] ?_
   rw [hno] at hso2; cases hso2
 ·refine au [1,10,10,10,10,2,2,2,2,3,4,5,8,1,1] ?_
  refine TK.cl Z Z Z Z ((zcR hT hl hm oQ).mono (fun _ _ h=>or3x h (jO hck hcc hss))) ?_
  rintro r28 K29 h30
  rcases h30 with ⟨hno2,rfl,rfl⟩ | ⟨w2,q2,jq,hso2,rfl,rfl⟩
  ·refine au [] ?_
   rw [hso] at hno2; cases hno2
  ·refine au [] ?_
   obtain ⟨rfl,rfl⟩:w=w2/\q=q2:=by rw [hso] at hso2; cases hso2; exact ⟨rfl,rfl⟩
   obtain ⟨hfit,hwl,hsum,hq,hws⟩:=jW hbb hcc hss hso
   have hw9:=(zhT hbb hcc hss hso).2
   subst hq
   refine au [1,10,10,10,2,2,2,3,4,5,8,1] ?_
   refine TK.cl Z Z Z Z (zaN hT hl hm oQ) ?_
   rintro r31 K32 ⟨rfl,rfl⟩
   refine au [] ?_
   rw [jF hck hcc,hfit]
   refine au [1,10,10,2,2,3,4,4,5,1,6,1,1,6,25,1,1,6,25,1,1,6,25,1] ?_
   refine TK.sp 80 (fun g8_15=>?_) (fun g8_15=>?_)
   ·simp at g8_15
   refine au [1,28,1,28,6,25,1] ?_
   refine TK.sp 87 (fun g8_22=>?_) (fun g8_22=>?_)
   ·simp at g8_22
   refine au [1,1,34,25,1] ?_
   refine TK.sp 92 (fun g8_27=>?_) (fun g8_27=>?_)
   ·simp at g8_27
   refine au [1,1,1,30,26,25,3,20] ?_
   refine ⟨fun hc1=>?_,fun hc1=>?_⟩
   ·exact absurd hc1 dQ
   refine au [12,4,5,2,3,4,4,5,2,3,13] ?_
   refine TK.maskL [3,7,8,9,11,12,13,15,20,21] ?_
   refine TK.kp [(0,_),(s,_),(h,_),(e,_),(j,_),(jb,_),(jl,_),(jo,_),(jr,_),(jw,_),(jq,_)] ?_
   refine TK.loopN (fun n env K=>∃ (i:Nat),n=l.length - i/\i<=l.length/\env=naL 3 (.ptr jb 0::naL 3 (.sl jr 0 st.length::.sl jo 0 l.length::.row jl l.length::.any::.sl jw 0 w.length::intA (needM b l w l.length)::zP true::.any::.row jq l.length::naL 4 ((intA (sumF (fun i=>(stripM b l i).2) i))::intA i::naL 280 [])))/\K=[(0,zy),(s,zk b),(h,zB b),(e,zq b),(j,u16O ps),(jb,.cells (zE b s h e) 26 true),(jl,.row ((stripsM b l).flatMap pairC) 96 2),(jo,.cells (l.map intA) eo false),(jr,.cells (st.map intA) 3 false),(jw,.cells (w.map intA) 3 false),(jq,.row ((placesM b l st w).map intA) 3 1)]) l.length ⟨0,rfl,mN _,rfl,rfl⟩ fun n env K hI hnext=>?_
   obtain ⟨i,rfl,hi,rfl,rfl⟩:=hI
   refine TK.na nQ ?_
   refine au [4,4,5,1,1,28,6,3,20] ?_
   refine ⟨fun hc2=>?_,fun hc2=>?_⟩
   ·have hil:i<l.length:=by simp at hc2; omega
    have hmi:((i:Int)+1) % (l.length:Int)=(((i+1) % l.length:Nat):Int):=rfl
    have hmi0:=Int.emod_nonneg ((i:Int)+1) (show (l.length:Int)≠0 by omega)
    have hmi1:=Int.emod_lt_of_pos ((i:Int)+1) (show 0<(l.length:Int) by omega)
    have hcu:=hcc.lt hil
    have hnx:=hcc.lt (k:=(i+1) % l.length) (Nat.mod_lt _ hcc.pos)
    have hf1:=hbb.sms.fld _ hcu.2.2
    have hf2:=hbb.sms.fld _ hnx.2.2
    have hf0:=hbb.sms.fld _ (hcc.lt hcc.pos).2.2
    have hsw:=jL hbb hcc hil
    have hsi:=jD (b:=b) l i hil
    unfold cutS at hsw hsi
    have hr0:=Int.emod_nonneg ((sm b (zN l ((i+1) % l.length)).toNat).step - (sm b (zN l i).toNat).step+b.steps) (show b.steps≠0 by omega)
    have hr1:=Int.emod_lt_of_pos ((sm b (zN l ((i+1) % l.length)).toNat).step - (sm b (zN l i).toNat).step+b.steps) (show 0<b.steps by omega)
    refine au [12,4,13,4] ?_
    refine TK.draw [0,1,2,3,4,5,6,7,8,9,10,11,12,13] [0,1,2,3,4,5,6,7,8,9,10,11,12,13] (by kernel_rfl) (by kernel_rfl) ?_
    refine TD.z [3] Z (zg Z Z zl.h dQ) ?_
    refine TD.y [105] Z (hq:=zm Z Z zi.h (mC _) Z) (h:=?_)
    refine TD.z [8] Z (zh Z Z) ?_
    refine TD.z [21] Z (zh Z Z) ?_
    refine TD.z [108] Z (q_add Z Z Z oQ) ?_
    refine TD.z [8] Z (zh Z Z) ?_
    refine TD.z [110] Z (q_len Z Z Z Und.h) ?_
    refine TD.z [109,111] Z (q_rem Z Z Z oQ oQ) ?_
    refine TD.z [107,112] Z (zQ Z Z Z zF.h oQ oQ) ?_
    refine TD.y [113] Z (hq:=zm Z Z zi.h (mC _) (yh (i:=(i+1) % l.length) (z5 (Nat.mod_lt _ hcc.pos)) hmi)) (h:=?_)
    refine TD.z [106,114] Z (zQ Z Z Z zF.h oQ oQ) ?_
    refine TD.z [115] Z (zg Z Z zl.h dQ) ?_
    refine TD.y [116] Z (hq:=zm Z Z zi.h (mC _) (ym (c:=0) (sm_at b (i:=(zN l ((i+1) % l.length)).toNat) hnx.2.2 oQ) dQ Z)) (h:=?_)
    refine TD.as (pend':=[]) [117] Z Z (zD Z Z) ?_
    refine TD.fin ?_
    refine au [4] ?_
    refine TK.draw [0,1,2,3,4,5,6,7,8,9,10,11,12,13,14,15,16,17] [0,1,2,3,4,5,6,7,8,9,10,11,12,13,14,15,16,17] (by kernel_rfl) (by kernel_rfl) ?_
    refine TD.z [22] Z (zh Z Z) ?_
    refine TD.z [3] Z (zg Z Z zl.h dQ) ?_
    refine TD.y [119] Z (hq:=zm Z Z zi.h (mC _) Z) (h:=?_)
    refine TD.z [8] Z (zh Z Z) ?_
    refine TD.z [21] Z (zh Z Z) ?_
    refine TD.z [121,122] Z (zQ Z Z Z zF.h oQ oQ) ?_
    refine TD.y [123] Z (hq:=zm Z Z zi.h (mC _) (yh (i:=i) (z5 hil) Z)) (h:=?_)
    refine TD.z [120,124] Z (zQ Z Z Z zF.h oQ oQ) ?_
    refine TD.z [125] Z (zg Z Z zl.h dQ) ?_
    refine TD.y [126] Z (hq:=zm Z Z zi.h (mC _) (ym (c:=0) (sm_at b (i:=(zN l i).toNat) hcu.2.2 oQ) dQ Z)) (h:=?_)
    refine TD.z [118,127] Z (q_sub Z Z Z oQ) ?_
    refine TD.z [3] Z (zg Z Z zl.h dQ) ?_
    refine TD.y [129] Z (hq:=zm Z Z zi.h (mC _) Z) (h:=?_)
    refine TD.z [128,130] Z (q_add Z Z Z oQ) ?_
    refine TD.z [3] Z (zg Z Z zl.h dQ) ?_
    refine TD.y [132] Z (hq:=zm Z Z zi.h (mC _) Z) (h:=?_)
    refine TD.z [131,133] Z (q_rem Z Z Z oQ oQ) ?_
    refine TD.as (pend':=[]) [134] Z Z (zD Z Z) ?_
    refine TD.fin ?_
    refine au [4,4,5,1,6,3,20] ?_
    refine ⟨fun hc3=>?_,fun hc3=>?_⟩
    ·have hwd:(stripM b l i).2=b.steps:=by rw [hsw,if_pos (eq_of_beq hc3)]
     refine au [5,7,9,2,3,4,4] ?_
     refine TK.draw [0,1,2,3,4,5,6,7,8,9,10,11,12,13,14,15,16,17,18] [0,1,2,3,4,5,6,7,8,9,10,11,12,13,14,15,16,17,18] (by kernel_rfl) (by kernel_rfl) ?_
     refine TD.z [9] Z (zh Z Z) ?_
     refine TD.z [21] Z (zh Z Z) ?_
     refine TD.y [139,140] Z (hq:=kA Z Z Z zF.h (mC _) oQ oQ) (h:=?_)
     refine TD.z [141] Z (zg Z Z zl.h dQ) ?_
     refine TD.y [142] Z (hq:=zm Z Z zi.h (mC _) (ym (c:=0) (zbo (c:=2) (f:=pairC) (fun _=>rfl) (ji (b:=b) hil) rfl dQ) dQ rfl)) (h:=?_)
     refine TD.z [8] Z (zh Z Z) ?_
     refine TD.z [21] Z (zh Z Z) ?_
     refine TD.z [144,145] Z (zQ Z Z Z zF.h oQ oQ) ?_
     refine TD.y [146] Z (hq:=zm Z Z zi.h (mC _) (yh (i:=i) (z5 hil) Z)) (h:=?_)
     refine TD.z [143,147] Z (q_cmp Z Z Z Z) ?_
     refine TD.z [148] Z (zh Z Z) ?_
     refine TD.sp 149 (fun g18_11=>?_) (fun g18_11=>?_)
     ·simp [stripM] at g18_11
     refine TD.z [9,149] Z (zh Z Z) ?_
     refine TD.z [21,149] Z (zh Z Z) ?_
     refine TD.y [149,150,151] Z (hq:=kA Z Z Z zF.h (mC _) oQ oQ) (h:=?_)
     refine TD.z [149,152] Z (zg Z Z zl.h dQ) ?_
     refine TD.y [149,153] Z (hq:=zm Z Z zi.h (mC _) (ym (c:=1) (zbo (c:=2) (f:=pairC) (fun _=>rfl) (ji (b:=b) hil) rfl dQ) dQ rfl)) (h:=?_)
     refine TD.z [23,149] Z (zh Z Z) ?_
     refine TD.z [149,154,155] Z (q_cmp Z Z Z Z) ?_
     refine TD.z [149,156] Z (yf Z Z Z) ?_
     refine TD.fin ?_
     refine au [20] ?_
     refine ⟨fun hc4=>?_,fun hc4=>?_⟩
     ·first | exact absurd hc4 dQ | (rw [hwd] at hc4; simp at hc4)
     refine au [12,5,1,1,23,2,3,14,5,1,23,2,3] ?_
     refine TK.maskL [3,7,8,9,11,12,13,15,20,21] ?_
     refine TK.kp [(0,_),(s,_),(h,_),(e,_),(j,_),(jb,_),(jl,_),(jo,_),(jr,_),(jw,_),(jq,_)] ?_
     exact hnext _ _ _ oQ ⟨i+1,rfl,by omega,by rw [show sumF (fun i=>(stripM b l i).2) i+b.steps=sumF (fun i=>(stripM b l i).2) (i+1) by show _=_+(stripM b l i).2; rw [hwd]]; rfl,rfl⟩
    have hwd:(stripM b l i).2=((sm b (zN l ((i+1) % l.length)).toNat).step - (sm b (zN l i).toNat).step+b.steps) % b.steps:=by rw [hsw,if_neg (fun hh=>by rw [hh] at hc3; simp at hc3)]
    refine au [12,4,4] ?_
    refine TK.draw [0,1,2,3,4,5,6,7,8,9,10,11,12,13,14,15,16,17,18] [0,1,2,3,4,5,6,7,8,9,10,11,12,13,14,15,16,17,18] (by kernel_rfl) (by kernel_rfl) ?_
    refine TD.z [9] Z (zh Z Z) ?_
    refine TD.z [21] Z (zh Z Z) ?_
    refine TD.y [139,140] Z (hq:=kA Z Z Z zF.h (mC _) oQ oQ) (h:=?_)
    refine TD.z [141] Z (zg Z Z zl.h dQ) ?_
    refine TD.y [142] Z (hq:=zm Z Z zi.h (mC _) (ym (c:=0) (zbo (c:=2) (f:=pairC) (fun _=>rfl) (ji (b:=b) hil) rfl dQ) dQ rfl)) (h:=?_)
    refine TD.z [8] Z (zh Z Z) ?_
    refine TD.z [21] Z (zh Z Z) ?_
    refine TD.z [144,145] Z (zQ Z Z Z zF.h oQ oQ) ?_
    refine TD.y [146] Z (hq:=zm Z Z zi.h (mC _) (yh (i:=i) (z5 hil) Z)) (h:=?_)
    refine TD.z [143,147] Z (q_cmp Z Z Z Z) ?_
    refine TD.z [148] Z (zh Z Z) ?_
    refine TD.sp 149 (fun g18_11=>?_) (fun g18_11=>?_)
    ·simp [stripM] at g18_11
    refine TD.z [9,149] Z (zh Z Z) ?_
    refine TD.z [21,149] Z (zh Z Z) ?_
    refine TD.y [149,150,151] Z (hq:=kA Z Z Z zF.h (mC _) oQ oQ) (h:=?_)
    refine TD.z [149,152] Z (zg Z Z zl.h dQ) ?_
    refine TD.y [149,153] Z (hq:=zm Z Z zi.h (mC _) (ym (c:=1) (zbo (c:=2) (f:=pairC) (fun _=>rfl) (ji (b:=b) hil) rfl dQ) dQ rfl)) (h:=?_)
    refine TD.z [23,149] Z (zh Z Z) ?_
    refine TD.z [149,154,155] Z (q_cmp Z Z Z Z) ?_
    refine TD.z [149,156] Z (yf Z Z Z) ?_
    refine TD.fin ?_
    refine au [20] ?_
    refine ⟨fun hc4=>?_,fun hc4=>?_⟩
    ·first | exact absurd hc4 dQ | (rw [hwd] at hc4; simp at hc4)
    refine au [12,5,1,1,23,2,3,14,5,1,23,2,3] ?_
    refine TK.maskL [3,7,8,9,11,12,13,15,20,21] ?_
    refine TK.kp [(0,_),(s,_),(h,_),(e,_),(j,_),(jb,_),(jl,_),(jo,_),(jr,_),(jw,_),(jq,_)] ?_
    exact hnext _ _ _ oQ ⟨i+1,rfl,by omega,by rw [show sumF (fun i=>(stripM b l i).2) i+(((sm b (zN l ((i+1) % l.length)).toNat).step - (sm b (zN l i).toNat).step+b.steps) % b.steps)=sumF (fun i=>(stripM b l i).2) (i+1) by show _=_+(stripM b l i).2; rw [hwd]]; rfl,rfl⟩
   obtain rfl:i=l.length:=by simp at hc2; omega
   refine au [16,4,4,5,1,7,9,6,3,20] ?_
   refine ⟨fun hc5=>?_,fun hc5=>?_⟩
   ·rw [jU hcc.pos] at hc5; simp at hc5
   refine au [12,4,4,5,1,30,3,20] ?_
   refine ⟨fun hc6=>?_,fun hc6=>?_⟩
   ·exact absurd hc6 dQ
   refine au [12,4,4,5,1,28,1,28,6,1] ?_
   refine TK.sp 183 (fun g25_6=>?_) (fun g25_6=>?_)
   ·rw [hwl] at g25_6; simp at g25_6
   refine au [1,28,1,28,6,25,1] ?_
   refine TK.sp 190 (fun g25_13=>?_) (fun g25_13=>?_)
   ·simp at g25_13
   refine au [1,37] ?_
   refine TK.a Z (zm Z Z zi.h mQ (zag (i:=0) (jB (b:=b) (s:=st) (w:=w) hcc.pos) Z)) ?_
   refine au [6,25,1,1,8,1,1] ?_
   refine TK.cl Z Z Z Z (xB hT hbb hcc hwl hw9) ?_
   rintro r34 K35 ⟨rfl,rfl⟩
   refine au [6,25,3,20] ?_
   refine ⟨fun hc7=>?_,fun hc7=>?_⟩
   ·simp at hc7
   refine au [12,4,4,5,2,3,13] ?_
   refine TK.maskL [3,7,8,11,15,24] ?_
   refine TK.kp [(0,_),(s,_),(h,_),(e,_),(j,_),(jb,_),(jl,_),(jo,_),(jr,_),(jw,_),(jq,_)] ?_
   refine TK.loopN (fun n env K=>∃ (i:Nat),n=l.length - i/\i<=l.length/\env=naL 3 (.ptr jb 0::naL 3 (.sl jr 0 st.length::.sl jo 0 l.length::naL 2 (.sl jw 0 w.length::naL 3 (.row jq l.length::naL 8 (intA i::naL 277 [])))))/\K=[(0,zy),(s,zk b),(h,zB b),(e,zq b),(j,u16O ps),(jb,.cells (zE b s h e) 26 true),(jl,.row ((stripsM b l).flatMap pairC) 96 2),(jo,.cells (l.map intA) eo false),(jr,.cells (st.map intA) 3 false),(jw,.cells (w.map intA) 3 false),(jq,.row ((placesM b l st w).map intA) 3 1)]) l.length ⟨0,rfl,mN _,rfl,rfl⟩ fun n env K hI hnext2=>?_
   obtain ⟨i,rfl,hi,rfl,rfl⟩:=hI
   refine TK.na nQ ?_
   refine au [4,4,5,1,1,28,6,3,20] ?_
   refine ⟨fun hc8=>?_,fun hc8=>?_⟩
   ·have hil:i<l.length:=by simp at hc8; omega
    have hmi:((i:Int)+1) % (l.length:Int)=(((i+1) % l.length:Nat):Int):=rfl
    have hmi0:=Int.emod_nonneg ((i:Int)+1) (show (l.length:Int)≠0 by omega)
    have hmi1:=Int.emod_lt_of_pos ((i:Int)+1) (show 0<(l.length:Int) by omega)
    have hcu:=hcc.lt hil
    have hnx:=hcc.lt (k:=(i+1) % l.length) (Nat.mod_lt _ hcc.pos)
    have hwi:=hws i
    have hwm:=hwi.2 hil
    unfold cutS at hwm
    have hwi0:0<=zN w i:=hwi.1
    have hwm0:zN w i<=(sm b (zN l i).toNat).most:=hwm
    have hmn:=xA hcc hil
    have hmb:=xz hcc hil
    have hr0:=Int.emod_nonneg (zN l ((i+1) % l.length) - zN l i+(b.seams.length:Int)) (show (b.seams.length:Int)≠0 by omega)
    have hr1:=Int.emod_lt_of_pos (zN l ((i+1) % l.length) - zN l i+(b.seams.length:Int)) (show 0<(b.seams.length:Int) by omega)
    refine au [12,4,13,4,4] ?_
    refine TK.draw [0,1,2,3,4,5,6,7,8,9,10,11,12,13,14] [0,1,2,3,4,5,6,7,8,9,10,11,12,13,14] (by kernel_rfl) (by kernel_rfl) ?_
    refine TD.z [11] Z (zh Z Z) ?_
    refine TD.z [24] Z (zh Z Z) ?_
    refine TD.z [210,211] Z (zQ Z Z Z zF.h oQ oQ) ?_
    refine TD.y [212] Z (hq:=zm Z Z zi.h (mC _) (yh (i:=i) (z5 (l:=w) oQ) Z)) (h:=?_)
    refine TD.z [3] Z (zg Z Z zl.h dQ) ?_
    refine TD.y [214] Z (hq:=zm Z Z zi.h (mC _) Z) (h:=?_)
    refine TD.z [8] Z (zh Z Z) ?_
    refine TD.z [24] Z (zh Z Z) ?_
    refine TD.z [216,217] Z (zQ Z Z Z zF.h oQ oQ) ?_
    refine TD.y [218] Z (hq:=zm Z Z zi.h (mC _) (yh (i:=i) (z5 hil) Z)) (h:=?_)
    refine TD.z [215,219] Z (zQ Z Z Z zF.h oQ oQ) ?_
    refine TD.z [220] Z (zg Z Z zl.h dQ) ?_
    refine TD.y [221] Z (hq:=zm Z Z zi.h (mC _) (ym (c:=1) (sm_at b (i:=(zN l i).toNat) hcu.2.2 oQ) dQ Z)) (h:=?_)
    refine TD.cl (pend':=[⟨11,[220],[]⟩,⟨10,[215,219],[]⟩,⟨9,[218],[(_,_)]⟩,⟨8,[216,217],[]⟩,⟨7,[24],[]⟩,⟨6,[8],[]⟩,⟨5,[214],[(_,_)]⟩,⟨4,[3],[]⟩,⟨2,[210,211],[]⟩,⟨1,[24],[]⟩,⟨0,[11],[]⟩]) [213,222] Z Z Z Z Z (yz hT) (fun r37 K38 h39=>⟨?_,?_⟩)
    ·rcases h39 with ⟨rfl,rfl⟩
     all_goals simp
    obtain ⟨rfl,rfl⟩:=h39
    try simp only [cA]
    refine TD.norm tQ ?_
    refine TD.z [223] Z (q_not Z Z) ?_
    refine TD.fin ?_
    refine au [20] ?_
    refine ⟨fun hc9=>?_,fun hc9=>?_⟩
    ·simp [betw] at hc9; omega
    refine au [12,4] ?_
    refine TK.draw [0,1,2,3,4,5,6,7,8,9,10,11,12,13,14,15,16,17,18,19,20,21] [0,1,2,3,4,5,6,7,8,9,10,11,12,13,14,15,16,17,18,19,20,21] (by kernel_rfl) (by kernel_rfl) ?_
    refine TD.z [8] Z (zh Z Z) ?_
    refine TD.z [24] Z (zh Z Z) ?_
    refine TD.z [226] Z (q_add Z Z Z oQ) ?_
    refine TD.z [8] Z (zh Z Z) ?_
    refine TD.z [228] Z (q_len Z Z Z Und.h) ?_
    refine TD.z [227,229] Z (q_rem Z Z Z oQ oQ) ?_
    refine TD.z [225,230] Z (zQ Z Z Z zF.h oQ oQ) ?_
    refine TD.y [231] Z (hq:=zm Z Z zi.h (mC _) (yh (i:=(i+1) % l.length) (z5 (Nat.mod_lt _ hcc.pos)) hmi)) (h:=?_)
    refine TD.z [8] Z (zh Z Z) ?_
    refine TD.z [24] Z (zh Z Z) ?_
    refine TD.z [233,234] Z (zQ Z Z Z zF.h oQ oQ) ?_
    refine TD.y [235] Z (hq:=zm Z Z zi.h (mC _) (yh (i:=i) (z5 hil) Z)) (h:=?_)
    refine TD.z [232,236] Z (q_sub Z Z Z oQ) ?_
    refine TD.z [3] Z (zg Z Z zl.h dQ) ?_
    refine TD.y [238] Z (hq:=zm Z Z zi.h (mC _) Z) (h:=?_)
    refine TD.z [239] Z (q_len Z Z Z Und.h) ?_
    refine TD.z [237,240] Z (q_add Z Z Z oQ) ?_
    refine TD.z [3] Z (zg Z Z zl.h dQ) ?_
    refine TD.y [242] Z (hq:=zm Z Z zi.h (mC _) Z) (h:=?_)
    refine TD.z [243] Z (q_len Z Z Z Und.h) ?_
    refine TD.z [241,244] Z (q_rem Z Z Z oQ oQ) ?_
    refine TD.as (pend':=[]) [245] Z Z (zD Z Z) ?_
    refine TD.fin ?_
    refine au [4,4,5,1,6,3,20] ?_
    refine ⟨fun hc10=>?_,fun hc10=>?_⟩
    ·have hmy:manyM b l i=(b.seams.length:Int):=by rw [hmn,if_pos (eq_of_beq hc10)]
     obtain ⟨m,hmm⟩:∃ m:Nat,m=b.seams.length:=⟨_,rfl⟩
     refine au [5,7,9,28,2,3,4] ?_
     obtain ⟨c,hcn⟩:∃ c:Nat,zN l i=(c:Int):=⟨(zN l i).toNat,by omega⟩
     have hci:l[i]? =some (c:Int):=by rw [z5 hil,hcn]
     have hmt:(manyM b l i).toNat=b.seams.length:=by omega
     have hct:(zN l i).toNat=c:=by omega
     have htb:=za8 hbb hss (c:=c) b.seams.length
     have hab:=at_bd hbb hcc hss hw9 i hil
     refine TK.draw [0,1,2,3,4,5,6,7,8,9,10,11,12,13] [0,1,2,3,4,5,6,7,8,9,10,11,12,13] (by kernel_rfl) (by kernel_rfl) ?_
     refine TD.z [15] Z (zh Z Z) ?_
     refine TD.z [24] Z (zh Z Z) ?_
     refine TD.y [251,252] Z (hq:=kA Z Z Z zF.h (mC _) oQ oQ) (h:=?_)
     refine TD.y [253] Z (hq:=zm Z Z zi.h (mC _) (zag (i:=i) (jB (b:=b) (s:=st) (w:=w) hil) Z)) (h:=?_)
     refine TD.y [3] Z (hq:=z8 Z Z zi.h (mC _) Z) (h:=?_)
     refine TD.z [8] Z (zh Z Z) ?_
     refine TD.z [24] Z (zh Z Z) ?_
     refine TD.z [256,257] Z (zQ Z Z Z zF.h oQ oQ) ?_
     refine TD.y [258] Z (hq:=zm Z Z zi.h (mC _) (yh (i:=i) hci Z)) (h:=?_)
     refine TD.z [25] Z (zh Z Z) ?_
     refine TD.z [7] Z (zh Z Z) ?_
     refine TD.cl (pend':=[⟨7,[256,257],[]⟩,⟨6,[24],[]⟩,⟨5,[8],[]⟩,⟨3,[253],[(_,_)]⟩,⟨2,[251,252],[(_,_)]⟩,⟨1,[24],[]⟩,⟨0,[15],[]⟩]) [255,259,260,261] Z Z Z Z Z (jN hT (c:=c) (m:=b.seams.length) hbb hss oQ oQ) (fun r40 K41 h42=>⟨?_,?_⟩)
     ·rcases h42 with ⟨rfl,rfl⟩
      all_goals simp
     obtain ⟨rfl,rfl⟩:=h42
     try simp only [cA]
     refine TD.norm tQ ?_
     refine TD.z [254,262] Z (q_add Z Z Z oQ) ?_
     refine TD.as (pend':=[]) [263] Z Z (zD Z Z) ?_
     refine TD.fin ?_
     refine au [4] ?_
     refine TK.draw [0,1,2,3,4,5,6,7,8,9,10,11,12,13,14,15,16,17,18,19,20,21,22,23,24,25,26,27,28,29,30,31,32,33,34,35,36] [0,1,2,3,4,5,6,7,8,9,10,11,12,13,14,15,16,17,18,19,20,21,22,23,24,25,26,27,28,29,30,31,32,33,34,35,36] (by kernel_rfl) (by kernel_rfl) ?_
     refine TD.z [24] Z (zh Z Z) ?_
     refine TD.z [264] Z (q_add Z Z Z oQ) ?_
     refine TD.z [8] Z (zh Z Z) ?_
     refine TD.z [266] Z (q_len Z Z Z Und.h) ?_
     refine TD.z [265,267] Z (q_cmp Z Z Z Z) ?_
     refine TD.z [268] Z (zh Z Z) ?_
     refine TD.sp 269 (fun g36_6=>?_) (fun g36_6=>?_)
     ·have hin:i+1<l.length:=by have:=of_decide_eq_true g36_6; omega
      have hnew:=xe (b:=b) (s:=st) (w:=w) hin
      rw [hmt,hct] at hnew
      have hw1:0<=zN w (i+1)/\zN w (i+1)<=9:=hw9 (i+1)
      have hnew2:atM b l st w (i+1)=atM b l st w i+togM b st c _+zN w (i+1):=hnew
      refine TD.z [15,269] Z (zh Z Z) ?_
      refine TD.z [24,269] Z (zh Z Z) ?_
      refine TD.z [269,271] Z (q_add Z Z Z oQ) ?_
      refine TD.y [269,270,272] Z (hq:=kA Z Z Z zF.h (mC _) oQ oQ) (h:=?_)
      refine TD.y [269,273] Z (hq:=zm Z Z zi.h (mC _) (zag (i:=i+1) (jB (b:=b) (s:=st) (w:=w) hin) Z)) (h:=?_)
      refine TD.z [26,269] Z (zh Z Z) ?_
      refine TD.z [11,269] Z (zh Z Z) ?_
      refine TD.z [24,269] Z (zh Z Z) ?_
      refine TD.z [269,277] Z (q_add Z Z Z oQ) ?_
      refine TD.z [269,276,278] Z (zQ Z Z Z zF.h oQ oQ) ?_
      refine TD.y [269,279] Z (hq:=zm Z Z zi.h (mC _) (yh (i:=i+1) (z5 (l:=w) oQ) Z)) (h:=?_)
      refine TD.z [269,275,280] Z (q_add Z Z Z oQ) ?_
      refine TD.z [269,274,281] Z (q_cmp Z Z Z Z) ?_
      refine TD.z [269,282] Z (yE Z Z Z) ?_
      refine TD.z [283] Z (zh Z Z) ?_
      refine TD.sp 284 (fun g36_21=>?_) (fun g36_21=>?_)
      ·first | exact absurd g36_21 dQ | (rw [hnew2] at g36_21; simp at g36_21)
      refine TD.z [24,284] Z (zh Z Z) ?_
      refine TD.z [284,285] Z (q_add Z Z Z oQ) ?_
      refine TD.z [8,284] Z (zh Z Z) ?_
      refine TD.z [284,287] Z (q_len Z Z Z Und.h) ?_
      refine TD.z [284,286,288] Z (q_cmp Z Z Z Z) ?_
      refine TD.z [284,289] Z (zh Z Z) ?_
      refine TD.sp 290 (fun g36_27=>?_) (fun g36_27=>?_)
      ·simp at g36_27; omega
      refine TD.u [26,290] Z ?_
      refine TD.u [11,290] Z ?_
      refine TD.u [290,292] Z ?_
      refine TD.u [290,293] Z ?_
      refine TD.u [290,291,294] Z ?_
      refine TD.u [3,290] Z ?_
      refine TD.u [290,296] Z ?_
      refine TD.u [290,295,297] Z ?_
      refine TD.z [284,290,298] Z (yf Z Z Z) ?_
      refine TD.z [284,299] Z (yf Z Z Z) ?_
      refine TD.fin ?_
      refine au [19,12,14,5,1,23,2,3] ?_
      refine TK.maskL [3,7,8,11,15,24] ?_
      refine TK.kp [(0,_),(s,_),(h,_),(e,_),(j,_),(jb,_),(jl,_),(jo,_),(jr,_),(jw,_),(jq,_)] ?_
      exact hnext2 _ _ _ oQ ⟨i+1,rfl,by omega,rfl,rfl⟩
     have hin:i+1=l.length:=by have:=of_decide_eq_false g36_6; omega
     have hnew:=jV hbb hcc hss hso hin
     rw [hmt,hct] at hnew
     have hw1:0<=zN w 0/\zN w 0<=9:=hw9 0
     have hnew2:atM b l st w i+togM b st c _+zN w 0=b.round:=hnew
     refine TD.u [15,269] Z ?_
     refine TD.u [24,269] Z ?_
     refine TD.u [269,271] Z ?_
     refine TD.u [269,270,272] Z ?_
     refine TD.u [269,273] Z ?_
     refine TD.u [26,269] Z ?_
     refine TD.u [11,269] Z ?_
     refine TD.u [24,269] Z ?_
     refine TD.u [269,277] Z ?_
     refine TD.u [269,276,278] Z ?_
     refine TD.u [269,279] Z ?_
     refine TD.u [269,275,280] Z ?_
     refine TD.u [269,274,281] Z ?_
     refine TD.z [269,282] Z (yf Z Z Z) ?_
     refine TD.z [283] Z (zh Z Z) ?_
     refine TD.z [24,284] Z (zh Z Z) ?_
     refine TD.z [284,285] Z (q_add Z Z Z oQ) ?_
     refine TD.z [8,284] Z (zh Z Z) ?_
     refine TD.z [284,287] Z (q_len Z Z Z Und.h) ?_
     refine TD.z [284,286,288] Z (q_cmp Z Z Z Z) ?_
     refine TD.z [284,289] Z (zh Z Z) ?_
     refine TD.sp 290 (fun g36_27=>?_) (fun g36_27=>?_)
     ·
      refine TD.z [26,290] Z (zh Z Z) ?_
      refine TD.z [11,290] Z (zh Z Z) ?_
      refine TD.z [290,292] Z (zQ Z Z Z zF.h oQ oQ) ?_
      refine TD.y [290,293] Z (hq:=zm Z Z zi.h (mC _) (yh (i:=0) (z5 (l:=w) oQ) Z)) (h:=?_)
      refine TD.z [290,291,294] Z (q_add Z Z Z oQ) ?_
      refine TD.z [3,290] Z (zg Z Z zl.h dQ) ?_
      refine TD.y [290,296] Z (hq:=zm Z Z zi.h (mC _) Z) (h:=?_)
      refine TD.z [290,295,297] Z (q_cmp Z Z Z Z) ?_
      refine TD.z [284,290,298] Z (yE Z Z Z) ?_
      refine TD.z [284,299] Z (yf Z Z Z) ?_
      refine TD.fin ?_
      refine au [20] ?_
      refine ⟨fun hc11=>?_,fun hc11=>?_⟩
      ·first | exact absurd hc11 dQ | (rw [hnew2] at hc11; simp at hc11)
      refine au [12,14,5,1,23,2,3] ?_
      refine TK.maskL [3,7,8,11,15,24] ?_
      refine TK.kp [(0,_),(s,_),(h,_),(e,_),(j,_),(jb,_),(jl,_),(jo,_),(jr,_),(jw,_),(jq,_)] ?_
      exact hnext2 _ _ _ oQ ⟨i+1,rfl,by omega,rfl,rfl⟩
     simp at g36_27; omega
    have hmy:manyM b l i=(zN l ((i+1) % l.length) - zN l i+(b.seams.length:Int)) % (b.seams.length:Int):=by rw [hmn,if_neg (fun hh=>by rw [hh] at hc10; simp at hc10)]
    obtain ⟨m,hmm⟩:∃ m:Nat,(zN l ((i+1) % l.length) - zN l i+(b.seams.length:Int)) % (b.seams.length:Int)=(m:Int):=⟨((zN l ((i+1) % l.length) - zN l i+(b.seams.length:Int)) % (b.seams.length:Int)).toNat,by omega⟩
    rw [hmm]
    refine au [12,4] ?_
    obtain ⟨c,hcn⟩:∃ c:Nat,zN l i=(c:Int):=⟨(zN l i).toNat,by omega⟩
    have hci:l[i]? =some (c:Int):=by rw [z5 hil,hcn]
    have hmt:(manyM b l i).toNat=m:=by omega
    have hct:(zN l i).toNat=c:=by omega
    have htb:=za8 hbb hss (c:=c) m
    have hab:=at_bd hbb hcc hss hw9 i hil
    refine TK.draw [0,1,2,3,4,5,6,7,8,9,10,11,12,13] [0,1,2,3,4,5,6,7,8,9,10,11,12,13] (by kernel_rfl) (by kernel_rfl) ?_
    refine TD.z [15] Z (zh Z Z) ?_
    refine TD.z [24] Z (zh Z Z) ?_
    refine TD.y [251,252] Z (hq:=kA Z Z Z zF.h (mC _) oQ oQ) (h:=?_)
    refine TD.y [253] Z (hq:=zm Z Z zi.h (mC _) (zag (i:=i) (jB (b:=b) (s:=st) (w:=w) hil) Z)) (h:=?_)
    refine TD.y [3] Z (hq:=z8 Z Z zi.h (mC _) Z) (h:=?_)
    refine TD.z [8] Z (zh Z Z) ?_
    refine TD.z [24] Z (zh Z Z) ?_
    refine TD.z [256,257] Z (zQ Z Z Z zF.h oQ oQ) ?_
    refine TD.y [258] Z (hq:=zm Z Z zi.h (mC _) (yh (i:=i) hci Z)) (h:=?_)
    refine TD.z [25] Z (zh Z Z) ?_
    refine TD.z [7] Z (zh Z Z) ?_
    refine TD.cl (pend':=[⟨7,[256,257],[]⟩,⟨6,[24],[]⟩,⟨5,[8],[]⟩,⟨3,[253],[(_,_)]⟩,⟨2,[251,252],[(_,_)]⟩,⟨1,[24],[]⟩,⟨0,[15],[]⟩]) [255,259,260,261] Z Z Z Z Z (jN hT (c:=c) (m:=m) hbb hss oQ oQ) (fun r43 K44 h45=>⟨?_,?_⟩)
    ·rcases h45 with ⟨rfl,rfl⟩
     all_goals simp
    obtain ⟨rfl,rfl⟩:=h45
    try simp only [cA]
    refine TD.norm tQ ?_
    refine TD.z [254,262] Z (q_add Z Z Z oQ) ?_
    refine TD.as (pend':=[]) [263] Z Z (zD Z Z) ?_
    refine TD.fin ?_
    refine au [4] ?_
    refine TK.draw [0,1,2,3,4,5,6,7,8,9,10,11,12,13,14,15,16,17,18,19,20,21,22,23,24,25,26,27,28,29,30,31,32,33,34,35,36] [0,1,2,3,4,5,6,7,8,9,10,11,12,13,14,15,16,17,18,19,20,21,22,23,24,25,26,27,28,29,30,31,32,33,34,35,36] (by kernel_rfl) (by kernel_rfl) ?_
    refine TD.z [24] Z (zh Z Z) ?_
    refine TD.z [264] Z (q_add Z Z Z oQ) ?_
    refine TD.z [8] Z (zh Z Z) ?_
    refine TD.z [266] Z (q_len Z Z Z Und.h) ?_
    refine TD.z [265,267] Z (q_cmp Z Z Z Z) ?_
    refine TD.z [268] Z (zh Z Z) ?_
    refine TD.sp 269 (fun g36_6=>?_) (fun g36_6=>?_)
    ·have hin:i+1<l.length:=by have:=of_decide_eq_true g36_6; omega
     have hnew:=xe (b:=b) (s:=st) (w:=w) hin
     rw [hmt,hct] at hnew
     have hw1:0<=zN w (i+1)/\zN w (i+1)<=9:=hw9 (i+1)
     have hnew2:atM b l st w (i+1)=atM b l st w i+togM b st c _+zN w (i+1):=hnew
     refine TD.z [15,269] Z (zh Z Z) ?_
     refine TD.z [24,269] Z (zh Z Z) ?_
     refine TD.z [269,271] Z (q_add Z Z Z oQ) ?_
     refine TD.y [269,270,272] Z (hq:=kA Z Z Z zF.h (mC _) oQ oQ) (h:=?_)
     refine TD.y [269,273] Z (hq:=zm Z Z zi.h (mC _) (zag (i:=i+1) (jB (b:=b) (s:=st) (w:=w) hin) Z)) (h:=?_)
     refine TD.z [26,269] Z (zh Z Z) ?_
     refine TD.z [11,269] Z (zh Z Z) ?_
     refine TD.z [24,269] Z (zh Z Z) ?_
     refine TD.z [269,277] Z (q_add Z Z Z oQ) ?_
     refine TD.z [269,276,278] Z (zQ Z Z Z zF.h oQ oQ) ?_
     refine TD.y [269,279] Z (hq:=zm Z Z zi.h (mC _) (yh (i:=i+1) (z5 (l:=w) oQ) Z)) (h:=?_)
     refine TD.z [269,275,280] Z (q_add Z Z Z oQ) ?_
     refine TD.z [269,274,281] Z (q_cmp Z Z Z Z) ?_
     refine TD.z [269,282] Z (yE Z Z Z) ?_
     refine TD.z [283] Z (zh Z Z) ?_
     refine TD.sp 284 (fun g36_21=>?_) (fun g36_21=>?_)
     ·first | exact absurd g36_21 dQ | (rw [hnew2] at g36_21; simp at g36_21)
     refine TD.z [24,284] Z (zh Z Z) ?_
     refine TD.z [284,285] Z (q_add Z Z Z oQ) ?_
     refine TD.z [8,284] Z (zh Z Z) ?_
     refine TD.z [284,287] Z (q_len Z Z Z Und.h) ?_
     refine TD.z [284,286,288] Z (q_cmp Z Z Z Z) ?_
     refine TD.z [284,289] Z (zh Z Z) ?_
     refine TD.sp 290 (fun g36_27=>?_) (fun g36_27=>?_)
     ·simp at g36_27; omega
     refine TD.u [26,290] Z ?_
     refine TD.u [11,290] Z ?_
     refine TD.u [290,292] Z ?_
     refine TD.u [290,293] Z ?_
     refine TD.u [290,291,294] Z ?_
     refine TD.u [3,290] Z ?_
     refine TD.u [290,296] Z ?_
     refine TD.u [290,295,297] Z ?_
     refine TD.z [284,290,298] Z (yf Z Z Z) ?_
     refine TD.z [284,299] Z (yf Z Z Z) ?_
     refine TD.fin ?_
     refine au [19,12,14,5,1,23,2,3] ?_
     refine TK.maskL [3,7,8,11,15,24] ?_
     refine TK.kp [(0,_),(s,_),(h,_),(e,_),(j,_),(jb,_),(jl,_),(jo,_),(jr,_),(jw,_),(jq,_)] ?_
     exact hnext2 _ _ _ oQ ⟨i+1,rfl,by omega,rfl,rfl⟩
    have hin:i+1=l.length:=by have:=of_decide_eq_false g36_6; omega
    have hnew:=jV hbb hcc hss hso hin
    rw [hmt,hct] at hnew
    have hw1:0<=zN w 0/\zN w 0<=9:=hw9 0
    have hnew2:atM b l st w i+togM b st c _+zN w 0=b.round:=hnew
    refine TD.u [15,269] Z ?_
    refine TD.u [24,269] Z ?_
    refine TD.u [269,271] Z ?_
    refine TD.u [269,270,272] Z ?_
    refine TD.u [269,273] Z ?_
    refine TD.u [26,269] Z ?_
    refine TD.u [11,269] Z ?_
    refine TD.u [24,269] Z ?_
    refine TD.u [269,277] Z ?_
    refine TD.u [269,276,278] Z ?_
    refine TD.u [269,279] Z ?_
    refine TD.u [269,275,280] Z ?_
    refine TD.u [269,274,281] Z ?_
    refine TD.z [269,282] Z (yf Z Z Z) ?_
    refine TD.z [283] Z (zh Z Z) ?_
    refine TD.z [24,284] Z (zh Z Z) ?_
    refine TD.z [284,285] Z (q_add Z Z Z oQ) ?_
    refine TD.z [8,284] Z (zh Z Z) ?_
    refine TD.z [284,287] Z (q_len Z Z Z Und.h) ?_
    refine TD.z [284,286,288] Z (q_cmp Z Z Z Z) ?_
    refine TD.z [284,289] Z (zh Z Z) ?_
    refine TD.sp 290 (fun g36_27=>?_) (fun g36_27=>?_)
    ·
     refine TD.z [26,290] Z (zh Z Z) ?_
     refine TD.z [11,290] Z (zh Z Z) ?_
     refine TD.z [290,292] Z (zQ Z Z Z zF.h oQ oQ) ?_
     refine TD.y [290,293] Z (hq:=zm Z Z zi.h (mC _) (yh (i:=0) (z5 (l:=w) oQ) Z)) (h:=?_)
     refine TD.z [290,291,294] Z (q_add Z Z Z oQ) ?_
     refine TD.z [3,290] Z (zg Z Z zl.h dQ) ?_
     refine TD.y [290,296] Z (hq:=zm Z Z zi.h (mC _) Z) (h:=?_)
     refine TD.z [290,295,297] Z (q_cmp Z Z Z Z) ?_
     refine TD.z [284,290,298] Z (yE Z Z Z) ?_
     refine TD.z [284,299] Z (yf Z Z Z) ?_
     refine TD.fin ?_
     refine au [20] ?_
     refine ⟨fun hc11=>?_,fun hc11=>?_⟩
     ·first | exact absurd hc11 dQ | (rw [hnew2] at hc11; simp at hc11)
     refine au [12,14,5,1,23,2,3] ?_
     refine TK.maskL [3,7,8,11,15,24] ?_
     refine TK.kp [(0,_),(s,_),(h,_),(e,_),(j,_),(jb,_),(jl,_),(jo,_),(jr,_),(jw,_),(jq,_)] ?_
     exact hnext2 _ _ _ oQ ⟨i+1,rfl,by omega,rfl,rfl⟩
    simp at g36_27; omega
   obtain rfl:i=l.length:=by simp at hc8; omega
   refine au [16,4,5] ?_
   refine TK.cl Z Z Z Z (zi5) ?_
   rintro r46 K47 ⟨rfl,rfl⟩
   refine au [2,3] ?_
   refine TK.rt hret [] ?_
   rfl
end Go.Vel
end
