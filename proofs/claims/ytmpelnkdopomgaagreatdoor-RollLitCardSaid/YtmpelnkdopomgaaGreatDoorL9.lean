/- Texts for the statements of chapter 8: what all of them need, part 10. It holds of every program, tape and world that the statements name, as each theorem says. -/
import Derived.Test.YtmpelnkdopomgaaGreatDoorL7
import Derived.Test.YtmpelnkdopomgaaGreatDoorL8
section
set_option linter.all false
set_option maxRecDepth 20000
set_option maxHeartbeats 60000000
open Go.Proofs.Tryz renaming prog -> tp
open List renaming getElem?_eq_getElem -> lA, nil_append -> lC, getElem?_eq_some_iff -> lD, length_append -> lF, getElem?_append_left -> lG, perm_append_comm -> lH, length_map -> lJ, eq_nil_of_length_eq_zero -> lK, map_append -> lM, mem_of_getElem? -> lN, getElem?_append_right -> lO, getElem?_map -> lQ, append_nil -> lR, take_length -> lW, replicate -> mB
open Array renaming getElem?_eq_some_iff -> mG, getElem?_toList -> mI
open Nat renaming le_refl -> mL, zero_le -> mN, zero_add -> mO, le_trans -> mT
open Int renaming toNat_natCast -> mZ
open Go.Vel.TK renaming maskL -> bA, rt -> bB, kp -> bC, cl -> bD, loopN -> bE, na -> bG, a -> bH, newR -> bI, dq -> bL, perm -> bN, appR -> bO, frzRow -> bY, asSl -> bZ
open Go.Vel.TD renaming cl -> bQ, s -> bR, norm -> bS, z -> bU, cnewR -> bV
namespace Go.Vel
open Go Go.Conc Go.Proofs
theorem fPo:flatF tp 186=some [(3,0),(3,1)]:=by kernel_rfl
def eqP (a b:Int×Int):Bool:=(a.1==b.1)&&(a.2==b.2)
theorem eqP_t {a b:Int×Int} (h:eqP a b=true):a=b:=by
 obtain ⟨x,y⟩:=a;obtain ⟨z,w⟩:=b;simp [eqP] at h;rw [h.1,h.2]
theorem eqP_s (a:Int×Int):eqP a a=true:=by simp [eqP]
theorem eq_po (a b:Int×Int):zJ tp (Op.equal 186 (fcV a) (fcV b))=some (eqP a b):=by
 show zJ _ (Op.equalIn (9998+2) 186 _ _)=_;have h:=zjC (P:=tp) (d:=9998) fPo (EqL.consI uI3 (xs:=#[mv a.1,mv a.2]) (ys:=#[mv b.1,mv b.2]) (off:=0) rfl rfl (EqL.consI uI3 (off:=1) rfl rfl EqL.nil));exact h.trans (by simp [eqP])
theorem uPo:∃ fs,tp.underlying 186=some (.struct fs)/\fs.toList.map (fun f=>(f.type,f.offset))=[(3,0),(3,1)]:=by
 have h:=fPo;unfold flatF at h;split at h
 ·rename_i fs hu;split at h
  ·exact ⟨fs,hu,Option.some.inj h⟩
  ·cases h
 ·cases h
theorem zjs {e:Bool} (a:Int×Int):zJ tp (Instr.checkKey e 10000 186 (fcV a))=some ():=by
 obtain ⟨fs,hu,hm⟩:=uPo;show zJ _ (Instr.checkKey e (9999+1) 186 _)=_;unfold Instr.checkKey;refine zH (z6 hu) ?_;dsimp only [fcV];rw [<- Array.forIn_toList];refine zH (a:=PUnit.unit) (zie fs.toList fun f hf=>?_) rfl;have h2:(f.type,f.offset)∈fs.toList.map (fun f=>(f.type,f.offset)):=List.mem_map.2 ⟨f,hf,rfl⟩;rw [hm] at h2;have h3:∃ v,zJ tp (part f.type #[mv a.1,mv a.2] f.offset)=some v/\zJ tp (Instr.checkKey e (9998+1) f.type v)=some ():=by
  simp only [List.mem_cons,Prod.mk.injEq,List.not_mem_nil,or_false] at h2;rcases h2 with ⟨h1,h2⟩ | ⟨h1,h2⟩
  ·rw [h1,h2];exact ⟨mv a.1,wN (by unfold scalT; rw [uI3]) rfl,zf5 uI3⟩
  ·rw [h1,h2];exact ⟨mv a.2,wN (by unfold scalT; rw [uI3]) rfl,zf5 uI3⟩
 obtain ⟨v,h3,h4⟩:=h3
 by_cases hn:f.name ≠ "_"
 ·rw [if_pos hn];simp [zhL,ziD,h3];exact zH (s:=Instr.checkKey e (9998+1) f.type v) h4 rfl
 ·rw [if_neg hn];simp [zhL,ziD]
structure MapI (es:Array MapEntry) (clock:Nat) (ks L:List (Int×Int)):Prop where
 key:∀ (j:Nat) (en:MapEntry),es[j]? =some en->∃ k,ks[j]? =some k/\en.key=fcV k/\en.val=mv (L.count k)
 len:es.size=ks.length
 nd:∀ (i j:Nat) k,ks[i]? =some k->ks[j]? =some k->i=j
 all:∀ k∈L,k∈ks
 bn:∀ (i j:Nat) (a b:MapEntry),es[i]? =some a->es[j]? =some b->a.born=b.born->i=j
 lt:∀ (j:Nat) (en:MapEntry),es[j]? =some en->en.born<clock
def MapN (ob:Obj) (L:List (Int×Int)):Prop:=∃ es clock ks,ob=.map es clock/\MapI es clock ks L
theorem zj3:MapN (.map #[] 0) []:=⟨#[],0,[],rfl,⟨fun j en h=>by simp at h,rfl,fun i j k h=>by simp at h,fun k h=>h,fun i j a b h=>by simp at h,fun j en h=>by simp at h⟩⟩
def MapE (ob:Obj) (L:List (Int×Int)) (k:Int×Int) (born:Nat):Prop:=∃ es clock ks,ob=.map es clock/\MapI es clock ks L/\∃ (i:Nat) (en:MapEntry),es[i]? =some en/\ks[i]? =some k/\en.born=born
theorem zmN {ob:Obj} {L:List (Int×Int)} {k:Int×Int} {born:Nat} (h:MapE ob L k born):MapN ob L:=by
 obtain ⟨es,c,ks,h1,h2,_⟩:=h;exact ⟨es,c,ks,h1,h2⟩
def FoundP (k:Int×Int) (es:List MapEntry) (ks:List (Int×Int)) (i:Nat):Option (Nat×Value)->Prop
 | none=>∀ j,j<es.length->ks[j]? ≠some k
 | some (q,v)=>∃ j en,q=i+j/\es[j]? =some en/\ks[j]? =some k/\v=en.val
theorem zhH {k:Int×Int}:∀ (es:List MapEntry) (ks:List (Int×Int)) (i:Nat),(∀ (j:Nat) en,es[j]? =some en->∃ k,ks[j]? =some k/\en.key=fcV k)->∃ r,zJ tp (Instr.findAsking 186 (fcV k) es i)=some r/\FoundP k es ks i r
 | [],ks,i,_=>⟨none,rfl,fun j h=>by simp at h⟩
 | en::es,ks,i,h=>by
  obtain ⟨k',h1,h2⟩:=h 0 en rfl
  match ks,h1 with
  | k0::ks,h1 =>
  cases h1;unfold Instr.findAsking;by_cases he:eqP k k'=true
  ·have:=eqP_t he;subst this;exact ⟨some (i,en.val),zH (a:=true) (by rw [h2,eq_po,he]) rfl,0,en,rfl,rfl,rfl,rfl⟩
  ·obtain ⟨r,h3,h4⟩:=zhH es ks (i+1) fun j en hj=>h (j+1) en hj;refine ⟨r,zH (a:=false) (by rw [h2,eq_po]; simpa using he) (by simp only [Bool.false_eq_true,if_false]; exact h3),?_⟩;cases r with
   | none =>
    intro j hj;cases j with
    | zero =>
     intro hk;rw [List.getElem?_cons_zero] at hk;exact he (by rw [Option.some.inj hk]; exact eqP_s k)
    | succ j=>rw [List.getElem?_cons_succ]; exact h4 j (by simpa using hj)
   | some z =>
    obtain ⟨q,v⟩:=z;obtain ⟨j,en2,q1,q2,q3,q4⟩:=h4;exact ⟨j+1,en2,oQ,q2,q3,q4⟩
theorem zlm {k:Int×Int} {es:Array MapEntry} {c:Nat} {ks L:List (Int×Int)} (h:MapI es c ks L):∃ r,zJ tp (Instr.findKey 186 (fcV k) es.toList)=some r/\FoundP k es.toList ks 0 r:=by
 obtain ⟨fs,hu,_⟩:=uPo;obtain ⟨r,h1,h2⟩:=zhH (k:=k) es.toList ks 0 fun j en hj=>by
  rw [mI] at hj;obtain ⟨k',q1,q2,_⟩:=h.key j en hj;exact ⟨k',q1,q2⟩
 refine ⟨r,?_,h2⟩;unfold Instr.findKey;refine zH (z6 hu) ?_;cases hl:es.toList with
 | nil =>
  rw [hl] at h1;have:some none=some r:=h1;cases this;rfl
 | cons en l =>
  rw [hl] at h1;have:Instr.findNow (.struct fs) (fcV k) (en::l) 0=none:=rfl;rw [this];exact h1
theorem zdh {k:Int×Int} {es:Array MapEntry} {c:Nat} {ks L:List (Int×Int)} (h:MapI es c ks L) {q:Nat} {v:Value} (hf:FoundP k es.toList ks 0 (some (q,v))):v=mv (L.count k)/\∃ en,es[q]? =some en/\ks[q]? =some k/\en.key=fcV k:=by
 obtain ⟨j,en,rfl,q2,q3,rfl⟩:=hf;rw [mI] at q2;obtain ⟨k',r1,r2,r3⟩:=h.key j en q2;rw [q3] at r1;cases r1;exact ⟨r3,en,by rw [mO]; exact q2,by rw [mO]; exact q3,r2⟩
theorem zb3 {k:Int×Int} {es:Array MapEntry} {c:Nat} {ks L:List (Int×Int)} (h:MapI es c ks L) (hf:FoundP k es.toList ks 0 none):k∉ks/\L.count k=0:=by
 have:k∉ks:=fun hm=>by
  obtain ⟨j,hj⟩:=List.getElem?_of_mem hm;have hl:=(lD.1 hj).1;exact hf j (by rw [Array.length_toList,h.len]; exact hl) hj
 exact ⟨this,List.count_eq_zero.2 fun hm=>this (h.all k hm)⟩
theorem zih {k:Int×Int} {es:Array MapEntry} {c:Nat} {ks L:List (Int×Int)} (h:MapI es c ks L) {q:Nat} {f:MapEntry->MapEntry} (hk:ks[q]? =some k) (h1:∀ e,(f e).key=fcV k) (h2:∀ e,(f e).val=e.val) (h3:∀ e,(f e).born=e.born):MapI (es.modify q f) c ks L:=by
 have key:∀ (j:Nat) en,(es.modify q f)[j]? =some en->∃ en0,es[j]? =some en0/\(en=en0\/(j=q/\en=f en0)):=fun j en hj=>by
  rw [Array.getElem?_modify] at hj;split at hj
  ·rename_i e;cases hx:es[j]? with
   | none=>rw [hx] at hj; cases hj
   | some en0=>rw [hx] at hj; cases hj; exact ⟨en0,rfl,.inr ⟨e.symm,rfl⟩⟩
  ·exact ⟨en,hj,.inl rfl⟩
 have hb:∀ (j:Nat) en,(es.modify q f)[j]? =some en->∃ en0,es[j]? =some en0/\en.born=en0.born:=fun j en hj=>by
  obtain ⟨en0,q1,rfl | ⟨_,rfl⟩⟩:=key j en hj
  ·exact ⟨_,q1,rfl⟩
  ·exact ⟨_,q1,h3 _⟩
 refine ⟨fun j en hj=>?_,by rw [Array.size_modify]; exact h.len,h.nd,h.all,fun i j a b ha hb' e=>?_,fun j en hj=>?_⟩
 ·obtain ⟨en0,q1,rfl | ⟨rfl,rfl⟩⟩:=key j en hj
  ·exact h.key j _ q1
  ·obtain ⟨k',r1,r2,r3⟩:=h.key j _ q1;rw [hk] at r1;cases r1;exact ⟨k,hk,h1 _,by rw [h2]; exact r3⟩
 ·obtain ⟨a0,q1,q2⟩:=hb i a ha;obtain ⟨b0,q3,q4⟩:=hb j b hb';exact h.bn i j a0 b0 q1 q3 (by rw [<- q2,<- q4,e])
 ·obtain ⟨a0,q1,q2⟩:=hb j en hj;rw [q2]; exact h.lt j a0 q1
theorem zig {k:Int×Int} {es:Array MapEntry} {c:Nat} {ks L:List (Int×Int)} (h:MapI es c ks L) (hk:k∉ks):MapI (es.push { key:=fcV k,val:=mv 0,born:=c }) (c+1) (ks++[k]) L:=by
 have key:∀ (j:Nat) en,(es.push { key:=fcV k,val:=mv 0,born:=c })[j]? =some en->(j=es.size/\en={ key:=fcV k,val:=mv 0,born:=c })\/es[j]? =some en:=fun j en hj=>by
  rw [Array.getElem?_push] at hj;split at hj
  ·rename_i e; cases hj; exact .inl ⟨e,rfl⟩
  ·exact .inr hj
 have lt:∀ (j:Nat) en,es[j]? =some en->j<ks.length:=fun j en hj=>by rw [<- h.len]; exact (mG.1 hj).1
 refine ⟨fun j en hj=>?_,by rw [Array.size_push,lF,h.len] <;> rfl,fun i j k' h1 h2=>?_,fun k' hm=>List.mem_append_left _ (h.all k' hm),fun i j a b ha hb e=>?_,fun j en hj=>?_⟩
 ·rcases key j en hj with ⟨rfl,rfl⟩ | hj
  ·exact ⟨k,by rw [h.len,lO (mL _),Nat.sub_self] <;> rfl,rfl,by rw [List.count_eq_zero.2 fun hm=>hk (h.all k hm)] <;> rfl⟩
  ·obtain ⟨k',r1,r2⟩:=h.key j en hj;exact ⟨k',by rw [lG (lt j en hj)]; exact r1,r2⟩
 ·have key2:∀ (i:Nat),(ks++[k])[i]? =some k'->(i<ks.length/\ks[i]? =some k')\/(i=ks.length/\k'=k):=fun i hi=>by
   rcases Nat.lt_or_ge i ks.length with hl | hl
   ·exact .inl ⟨hl,by rwa [lG hl] at hi⟩
   ·rw [lO hl] at hi;have hz:i - ks.length<1:=by have:=(lD.1 hi).1; simpa using this
    rw [show i - ks.length=0 by omega] at hi;cases hi;exact .inr ⟨by omega,rfl⟩
  rcases key2 i h1 with ⟨a1,a2⟩ | ⟨a1,a2⟩ <;> rcases key2 j h2 with ⟨b1,b2⟩ | ⟨b1,b2⟩
  ·exact h.nd i j k' a2 b2
  ·subst b2; exact absurd (lN a2) hk
  ·subst a2; exact absurd (lN b2) hk
  ·omega
 ·rcases key i a ha with ⟨rfl,rfl⟩ | ha <;> rcases key j b hb with ⟨rfl,rfl⟩ | hb
  ·rfl
  ·have:=h.lt j b hb; have e:c=b.born:=e; omega
  ·have:=h.lt i a ha; have e:a.born=c:=e; omega
  ·exact h.bn i j a b ha hb e
 ·rcases key j en hj with ⟨rfl,rfl⟩ | hj
  ·exact Nat.lt_succ_self _
  ·exact Nat.lt_succ_of_lt (h.lt j en hj)
theorem zj2 {k:Int×Int} {es:Array MapEntry} {c:Nat} {ks L:List (Int×Int)} (h:MapI es c ks L) {q:Nat} (hk:ks[q]? =some k):MapI (es.modify q fun e=>{ e with val:=mv (L.count k+1:Nat) }) c ks (L++[k]):=by
 have key:∀ (j:Nat) en,(es.modify q fun e=>{ e with val:=mv (L.count k+1:Nat) })[j]? =some en->∃ en0,es[j]? =some en0/\((j≠q/\en=en0)\/(j=q/\en={ en0 with val:=mv (L.count k+1:Nat) })):=fun j en hj=>by
  rw [Array.getElem?_modify] at hj;split at hj
  ·rename_i e;cases hx:es[j]? with
   | none=>rw [hx] at hj; cases hj
   | some en0=>rw [hx] at hj; cases hj; exact ⟨en0,rfl,.inr ⟨e.symm,rfl⟩⟩
  ·rename_i e; exact ⟨en,hj,.inl ⟨fun h=>e h.symm,rfl⟩⟩
 refine ⟨fun j en hj=>?_,by rw [Array.size_modify]; exact h.len,h.nd,fun k' hm=>?_,fun i j a b ha hb e=>?_,fun j en hj=>?_⟩
 ·obtain ⟨en0,q1,⟨hne,rfl⟩ | ⟨rfl,rfl⟩⟩:=key j en hj
  ·obtain ⟨k',r1,r2,r3⟩:=h.key j _ q1;refine ⟨k',r1,r2,?_⟩;have:k'≠k:=fun e=>by subst e; exact hne (h.nd j q k' r1 hk)
   have hz:List.count k' [k]=0:=List.count_eq_zero.2 (by simpa using this);rw [List.count_append,hz,Nat.add_zero];exact r3
  ·obtain ⟨k',r1,r2,r3⟩:=h.key j _ q1;rw [hk] at r1;cases r1;refine ⟨k,hk,r2,?_⟩;rw [List.count_append,List.count_singleton_self]
 ·rcases List.mem_append.1 hm with hm | hm
  ·exact h.all k' hm
  ·rw [List.mem_singleton.1 hm]; exact lN hk
 ·obtain ⟨a0,q1,ha'⟩:=key i a ha;obtain ⟨b0,q2,hb'⟩:=key j b hb;have e1:a.born=a0.born:=by rcases ha' with ⟨_,rfl⟩ | ⟨_,rfl⟩ <;> rfl
  have e2:b.born=b0.born:=by rcases hb' with ⟨_,rfl⟩ | ⟨_,rfl⟩ <;> rfl
  exact h.bn i j a0 b0 q1 q2 (by rw [<- e1,<- e2,e])
 ·obtain ⟨a0,q1,ha'⟩:=key j en hj;have e1:en.born=a0.born:=by rcases ha' with ⟨_,rfl⟩ | ⟨_,rfl⟩ <;> rfl
  rw [e1]; exact h.lt j a0 q1
theorem uMpN:tp.underlying 109=some (.map 186 3):=by kernel_rfl
theorem iInt:tp.info? 3=some Tryz.t3:=by kernel_rfl
theorem zInt:Tryz.t3.zero=some (mv 0):=by kernel_rfl
theorem zl9 (k:Int×Int):Instr.sameBits 10000 (fcV k) (fcV k)=true:=by
 show Instr.sameBits (9999+1) (fcV k) (fcV k)=true;unfold fcV;simp [Instr.sameBits,mv]
structure KeyP (P:Program):Prop where
 um:P.underlying 109=some (.map 186 3)
 ck:∀ e k,zJ P (Instr.checkKey e 10000 186 (fcV k))=some ()
 fd:∀ (k:Int×Int) (es:Array MapEntry) (c:Nat) (ks L:List (Int×Int)),MapI es c ks L->∃ r,zJ P (Instr.findKey 186 (fcV k) es.toList)=some r/\FoundP k es.toList ks 0 r
 zi:∃ ti,P.info? 3=some ti/\ti.zero=some (mv 0)
theorem keyP:KeyP tp:=⟨uMpN,fun _ k=>zjs k,fun k es c ks L h=>zlm h,_,iInt,zInt⟩
section
variable {P:Program} {gm:Nat->Option Nat} {V:KV} {env:List AV} {o:Oper}
theorem zgx (hP:KeyP P) {x y:Operand} {j:Nat} {k:Int×Int} {ob:Obj} {L:List (Int×Int)} (ho:o.op=.lookup 109 x y false) (hx:zo gm env x=some (.map j)) (hy:zo gm env y=some (.agg (fcC k))) (hm:(j,.raw ob)∈V) (hf:MapN ob L):Qk P gm env V o (intA (L.count k)):=fun A hA φ F H a hg hH hE=>by
 obtain ⟨es,c,ks,rfl,hI⟩:=hf;obtain ⟨r,h1,h2⟩:=hP.fd k es c ks L hI;unfold execOp; rw [ho];refine wpS_v ?_;have e1:=zC hg hE x;rw [zA hx] at e1;obtain ⟨hj,e1⟩:=vd e1;have e2:=zC hg hE y;rw [zA hy] at e2;rw [e1,vK (zi8 k) e2];have hb:H (φ j).blk=some (true,.map es c):=hH.obj j _ (hA.get hm);unfold Instr.lookup;refine zc _ _ _ (zG hP.um ?_);dsimp only;refine zc _ _ _ ?_;refine ⟨true,_,hb,rfl,rfl,?_⟩;refine zc _ _ _ ?_;rw [yS];refine zc _ _ _ (kE _ (hP.ck _ k) ?_);refine zc _ _ _ (kE _ h1 ?_);cases r with
 | none =>
  obtain ⟨_,hc⟩:=zb3 hI h2;obtain ⟨ti,hti,hz⟩:=hP.zi;refine zc _ _ _ (yR hti hz ?_);rw [hc];exact zY.quiet hH (.v _)
 | some z =>
  obtain ⟨q,v⟩:=z;obtain ⟨rfl,_⟩:=zdh hI h2;exact zY.quiet hH (.v _)
theorem ze1 (hP:KeyP P) {x y:Operand} {j:Nat} {k:Int×Int} {ob:Obj} {L:List (Int×Int)} (ho:o.op=.mapEntry 109 x y) (hx:zo gm env x=some (.map j)) (hy:zo gm env y=some (.agg (fcC k))) (hm:(j,.raw ob)∈V) (hf:MapN ob L) :
  ∃ ob' born,MapE ob' L k born/\∀ A,zR V A->OpOk P gm env A o (.tup [intA (L.count k),intA born]) (A.set j (.raw ob')):=by
 obtain ⟨es,c,ks,rfl,hI⟩:=hf;obtain ⟨r,h1,h2⟩:=hP.fd k es c ks L hI;have key:∀ ob' (born:Nat),MapE ob' L k born->(∀ (H:Hp) (b:Nat) (Q:Value->Hp->Prop),H b=some (true,.map es c)->Q (.tuple #[mv (L.count k),mv born]) (H.put b (true,ob'))->wpS P (match r with | some (i,v)=>Instr.keyThatStays (((es[i]?).map (·.key)).getD (fcV k)) (fcV k) >>= fun key=>setObj b (.map (es.modify i fun e=>{ e with key:=key }) c) >>= fun _=>pure (.tuple #[v,goInt (((es[i]?).map (·.born)).getD 0)]) | none=>zeroValue 3 >>= fun zero=>setObj b (.map (es.push { key:=fcV k,val:=zero,born:=c }) (c+1)) >>= fun _=>pure (.tuple #[zero,goInt c])) H Q)->∃ ob' born,MapE ob' L k born/\∀ A,zR V A->OpOk P gm env A o (.tup [intA (L.count k),intA born]) (A.set j (.raw ob')):=fun ob' born hob hq=>by
  refine ⟨ob',born,hob,fun A hA φ F H a hg hH hE=>?_⟩;unfold execOp; rw [ho];refine wpS_v ?_;have e1:=zC hg hE x;rw [zA hx] at e1;obtain ⟨hj,e1⟩:=vd e1;have e2:=zC hg hE y;rw [zA hy] at e2;rw [e1,vK (zi8 k) e2];have hb:H (φ j).blk=some (true,.map es c):=hH.obj j _ (hA.get hm);unfold Instr.mapEntry;refine zc _ _ _ (zG hP.um ?_);dsimp only;refine zc _ _ _ ?_;refine ⟨true,_,hb,rfl,rfl,?_⟩;refine zc _ _ _ (kE _ (hP.ck _ k) ?_);refine zc _ _ _ (kE _ h1 ?_);refine hq H _ _ hb ⟨_,φ,.inl rfl,Agr.refl _ _,by simp,hH.set (hA.get hm) Z trivial (Hp.put_same _ _ _),.tup (ys:=#[mv (L.count k),mv born]) Z fun q u v hu hv=>?_⟩
  match q,hu,hv with
  | 0,hu,hv=>cases hu; cases hv; exact .v _
  | 1,hu,hv=>cases hu; cases hv; exact .v _
  | q+2,hu,hv=>cases hu
 cases r with
 | none =>
  obtain ⟨hk,hc⟩:=zb3 hI h2;refine key (.map (es.push { key:=fcV k,val:=mv 0,born:=c }) (c+1)) c ⟨_,_,_,rfl,zig hI hk,es.size,_,by rw [Array.getElem?_push,if_pos rfl],by rw [hI.len,lO (mL _),Nat.sub_self] <;> rfl,rfl⟩ fun H b Q hb hq=>?_;obtain ⟨ti,hti,hz⟩:=hP.zi;refine zc _ _ _ (yR hti hz ?_);rw [hc] at hq;exact zc _ _ _ ⟨_,hb,rfl,rfl,hq⟩
 | some z =>
  obtain ⟨q,v⟩:=z;obtain ⟨rfl,en,q2,q3,q4⟩:=zdh hI h2;refine key (.map (es.modify q fun e=>{ e with key:=fcV k }) c) en.born ⟨_,_,_,rfl,zih hI q3 (fun _=>rfl) (fun _=>rfl) (fun _=>rfl),q,{ en with key:=fcV k },by rw [Array.getElem?_modify,if_pos rfl,q2] <;> rfl,q3,rfl⟩ fun H b Q hb hq=>?_;dsimp only;rw [q2];have hks:Instr.keyThatStays (((some en).map (·.key)).getD (fcV k)) (fcV k)=(pure (fcV k):Sem Value):=by
   show Instr.keyThatStays en.key (fcV k)=_;rw [q4];unfold Instr.keyThatStays;rw [zl9];rfl
  rw [hks];refine zc _ _ _ ?_;rw [yS];exact zc _ _ _ ⟨_,hb,rfl,rfl,hq⟩
theorem zns {x y z:Operand} {j born:Nat} {k:Int×Int} {ob:Obj} {L:List (Int×Int)} {t:TypeId} (ho:o.op=.entryStore t x y z) (hx:zo gm env x=some (.map j)) (hy:zo gm env y=some (intA born)) (hz:zo gm env z=some (intA (L.count k+1:Nat))) (hm:(j,.raw ob)∈V) (hf:MapE ob L k born) :
  ∃ ob',MapN ob' (L++[k])/\∀ A,zR V A->OpOk P gm env A o .any (A.set j (.raw ob')):=by
 obtain ⟨es,c,ks,rfl,hI,i,en,h1,h2,h3⟩:=hf;refine ⟨_,⟨_,c,ks,rfl,zj2 hI h2⟩,fun A hA φ F H a hg hH hE=>?_⟩;unfold execOp; rw [ho];refine wpS_u ?_;have e1:=zC hg hE x;rw [zA hx] at e1;obtain ⟨hj,e1⟩:=vd e1;have e2:=zC hg hE y;rw [zA hy] at e2;have e3:=zC hg hE z;rw [zA hz] at e3;rw [e1,inv_v e2,inv_v e3];have hb:H (φ j).blk=some (true,.map es c):=hH.obj j _ (hA.get hm);have hfi:es.findIdx? (fun e=>(e.born:Int)==(born:Int))=some i:=by
  obtain ⟨hi,hi2⟩:=mG.1 h1;rw [Array.findIdx?_eq_some_iff_getElem];refine ⟨hi,by rw [hi2,h3]; simp,fun q hq=>?_⟩;have hqs:q<es.size:=by omega
  intro he;have he:es[q].born=born:=Int.ofNat.inj (by simpa using he);have:=hI.bn q i es[q] en (Array.getElem?_eq_getElem hqs) h1 (by rw [he,h3]);omega
 unfold Instr.entryStore;refine zc _ _ _ ?_;refine ⟨true,_,hb,rfl,rfl,?_⟩;refine zc _ _ _ ?_;show wpS P (pure (born:Int)) H _;rw [yS];rw [hfi];exact ⟨_,hb,rfl,rfl,undef,φ,.inr ⟨rfl,rfl⟩,Agr.refl _ _,by simp,hH.set (hA.get hm) rfl trivial (Hp.put_same _ _ _),.any _⟩
end
def stepsC (l:List Bool):List AV:=[zw (l.getD 0 false),zw (l.getD 1 false),zw (l.getD 2 false),zw (l.getD 3 false),zw (l.getD 4 false),zw (l.getD 5 false),zw (l.getD 6 false),zw (l.getD 7 false),zw (l.getD 8 false),zw (l.getD 9 false),zw (l.getD 10 false),zw (l.getD 11 false)]
def skyC (y:SkyR):List AV:=[intA y.shift,zw (y.dirty.getD 0 false),zw (y.dirty.getD 1 false),zw (y.dirty.getD 2 false),zw (y.dirty.getD 3 false),zw (y.dirty.getD 4 false),zw (y.dirty.getD 5 false),zw (y.dirty.getD 6 false),zw (y.dirty.getD 7 false),zw (y.dirty.getD 8 false),zw (y.dirty.getD 9 false),zw (y.dirty.getD 10 false),zw (y.dirty.getD 11 false)]
theorem lt12 {n:Int} (h:0<=n/\n<12):n=0\/n=1\/n=2\/n=3\/n=4\/n=5\/n=6\/n=7\/n=8\/n=9\/n=10\/n=11:=by omega
theorem uW {l:List Bool} {n:Int} (h:0<=n/\n<12) {g:Bool}:partA false (stepsC l) (n.toNat*1) 1=some (zw (l.getD n.toNat false)):=by
 rcases lt12 h with rfl | rfl | rfl | rfl | rfl | rfl | rfl | rfl | rfl | rfl | rfl | rfl <;> rfl
theorem znv {y:SkyR} {n:Int} {e:TypeId} {rw':Bool} (h:0<=n/\n<12):takeO (.cells (skyC y) e rw') (1+n.toNat*1) 1=some [zw (y.dirty.getD n.toNat false)]:=by
 rcases lt12 h with rfl | rfl | rfl | rfl | rfl | rfl | rfl | rfl | rfl | rfl | rfl | rfl <;> rfl
theorem list12 {l:List Bool} (h:l.length=12):∃ a0 a1 a2 a3 a4 a5 a6 a7 a8 a9 a10 a11,l=[a0,a1,a2,a3,a4,a5,a6,a7,a8,a9,a10,a11]:=by
 match l,h with
 | [a0,a1,a2,a3,a4,a5,a6,a7,a8,a9,a10,a11],_=>exact ⟨a0,a1,a2,a3,a4,a5,a6,a7,a8,a9,a10,a11,rfl⟩
theorem zl0 {sh:Int} {d:List Bool} {n:Int} {e:TypeId} {v:Bool} (hd:d.length=12) (h:0<=n/\n<12):putO (.cells (skyC ⟨sh,d⟩) e true) (1+n.toNat*1) [zw v]=some (.cells (skyC ⟨sh,d.set n.toNat v⟩) e true):=by
 obtain ⟨a0,a1,a2,a3,a4,a5,a6,a7,a8,a9,a10,a11,rfl⟩:=list12 hd;rcases lt12 h with rfl | rfl | rfl | rfl | rfl | rfl | rfl | rfl | rfl | rfl | rfl | rfl <;> rfl
theorem ziE {d:List Bool} {n:Int} {e:TypeId} {v:Bool} (hd:d.length=12) (h:0<=n/\n<12):putO (.cells (stepsC d) e true) (0+n.toNat*1) [zw v]=some (.cells (stepsC (d.set n.toNat v)) e true):=by
 obtain ⟨a0,a1,a2,a3,a4,a5,a6,a7,a8,a9,a10,a11,rfl⟩:=list12 hd;rcases lt12 h with rfl | rfl | rfl | rfl | rfl | rfl | rfl | rfl | rfl | rfl | rfl | rfl <;> rfl
theorem zb0 {b:SlB} {y:SkyR} {h:Int} (hd:darkS b y h=true):fallsM b y h=mB 12 false:=by unfold fallsM; rw [if_pos hd]
theorem zlA {b:SlB} {y:SkyR} {h n:Int}:decide ((if b.steps - onL b h n<onL b h n then b.steps - onL b h n else onL b h n)<=((sunI b h).high+y.shift) / b.slope)=litN b y h n:=by
 unfold litN;congr 2;rw [Int.min_def];split <;> split <;> omega
def WasAt (ob:AObj) (off:Nat) (xs:List WatR):Prop:=∀ (i:Nat) (h:i<xs.length),takeO ob (off+(i:Int).toNat*3) 3=some (watC xs[i])
theorem znB (b:SlB):WasAt (waO b) 0 b.watches:=fun i h=>ky (c:=3) (fun _=>rfl) (lA h) rfl dQ
theorem ziq (b:SlB) (y:SkyR):b.watches.any (fun x => !rightS b y x) = !allRight b y:=by
 unfold allRight
 induction b.watches with
 | nil=>rfl
 | cons x l ih=>rw [List.any_cons,List.all_cons,ih]; cases rightS b y x <;> rfl
instance:ArEl tp 117 12 4 false 1:={}
instance:BlOf tp 117 [(0,1),(1,1),(2,1),(3,1),(4,1),(5,1),(6,1),(7,1),(8,1),(9,1),(10,1),(11,1)]:={}
instance:zj tp 119 0 0 false 1:={}
instance:zj tp 119 1 1 true 12:={}
instance:zj tp 50 2 2 false 1:={}
instance:ze tp 117 true 12:={}
instance:ze tp 119 true 13:={}
instance:TyZ tp 117 [.bool false,.bool false,.bool false,.bool false,.bool false,.bool false,.bool false,.bool false,.bool false,.bool false,.bool false,.bool false]:={}
instance:TyZA tp 117 [.v (.bool false),.v (.bool false),.v (.bool false),.v (.bool false),.v (.bool false),.v (.bool false),.v (.bool false),.v (.bool false),.v (.bool false),.v (.bool false),.v (.bool false),.v (.bool false)]:={}
instance:Und tp 4 .bool:={}
theorem u6 {main T} (hT:zn tp main T) {gm} {b:SlB} {c s e w:Nat} {y:SkyR} {h:Int} (hb:SlBase b) (hy:y.dirty.length=12 /\ -3<=y.shift/\y.shift<=3) (hh:0<=h/\h<b.suns.length) :
  zq tp T gm 50 [.agg (slC b c s e w),.agg (skyC y),intA h] [(s,suO b)] (fun r K'=>r=.agg (stepsC (fallsM b y h))/\K'=[(s,suO b)]):=by
 refine zm 80 hT Tryz.func50 fun Y hret=>?_;refine au 0 ?_;obtain ⟨i0,rfl⟩:=Int.eq_ofNat_of_zero_le hh.1;have hil:i0<b.suns.length:=by omega
 have hq:=zfs hb hil;have hst:=hb.st;have hsp:=hb.sp;refine au 21042 ?_;intro jb hjb;refine au 210 ?_;intro jz hjz;refine au 220 ?_;intro jo hjo;refine au 3601690670670423 ?_;refine bH Z (zK Z Z ze.h mQ (zaW hil Z)) ?_;refine au 220 ?_;intro jx hjx;refine au 17142235230690670690670423170 ?_;refine TK.sp 26 (fun g3_3=>?_) (fun g3_3=>?_)
 ·refine au 42180326088888 ?_;refine bH Z (yi (l:=[_,_,_,_,_,_,_,_,_,_,_,_]) Z TyZ.h BlOf.h Z) ?_;refine au 3170 ?_;refine bB hret [(s,_)] ?_;exact ⟨by rw [zb0 (by unfold darkS; rw [g3_3] <;> rfl)] <;> rfl,rfl⟩
 have hpos:0<(sunI b i0).high+y.shift:=by simp at g3_3; omega
 refine au 670690670 ?_;refine bH Z (kF Z Z Z ArEl.h oQ oQ) ?_;refine bH Z (zk Z Z ze.h mQ (znv oQ)) ?_;refine au 93250 ?_;constructor<;>intro hc0
 ·refine au 42 ?_;refine bH Z (yi (l:=[_,_,_,_,_,_,_,_,_,_,_,_]) Z TyZ.h BlOf.h Z) ?_;refine au 3170 ?_;refine bB hret [(s,_)] ?_;exact ⟨by rw [zb0 (by unfold darkS; rw [hc0,Bool.or_true])] <;> rfl,rfl⟩
 refine au 2120 ?_;refine bL [0,1,2,3,4,5,6,7,8,9,10,16,11,12,13,14,15,17] ?_;refine ad [[3,7],[10,34],[3,3],[3,36],[10,37]] ?_;refine bU [38] Z (q_quo Z Z Z oQ oQ oQ) ?_;refine ad [[8,35,39],[3,3],[3,41],[10,42]] ?_;refine bU [40,43] Z (q_rem Z Z Z oQ oQ) ?_;refine ad [[1,8],[3,3],[3,46],[10,47]] ?_;refine bU [45,48] Z (q_quo Z Z Z oQ oQ oQ) ?_;refine TD.as (pend':=[⟨15,[45,48],[]⟩,⟨14,[47],[(_,_)]⟩,⟨13,[46],[]⟩,⟨12,[3],[]⟩,⟨11,[8],[]⟩]) [44] Z Z (zy Z Z) ?_;refine ad [[13,49],[14]] ?_;refine au 22 ?_;have hmb:=uF ((sunI b i0).step+b.steps / 2) (n:=b.steps) oQ;refine au 130316906706704 ?_;refine bA [3,6,9,10,52,53] ?_;refine bC [(jo,_),(jb,_),(s,_)] ?_;refine bE (fun n env K=>∃ (i:Nat),n=b.steps.toNat - i/\(i:Int)<=b.steps/\env=naL 3 (.ptr jb 0::naL 2 (.ptr jo 0::naL 2 (intA (((sunI b i0).step+b.steps / 2) % b.steps)::intA (((sunI b i0).high+y.shift) / b.slope)::naL 41 (intA b.steps::intA i::naL 26 []))))/\K=[(jo,.cells (stepsC (fallsI b y i0 i)) 117 true),(jb,.cells (slC b c s e w) 107 true),(s,suO b)]) b.steps.toNat ⟨0,rfl,oQ,rfl,by rw [show fallsI b y i0 ((0:Nat):Int)=mB 12 false from zjK b y i0] <;> rfl⟩ fun n env K hI hnext=>?_;obtain ⟨i,rfl,hi,rfl,rfl⟩:=hI;refine bG nQ ?_;refine au 923742 ?_;constructor<;>intro hc1
 ·have hib:(i:Int)<b.steps:=of_decide_eq_true hc1;refine au 6906706702306906706702401142351421302120 ?_;refine bH Z (q_rem Z Z Z oQ oQ) ?_;refine au 35 ?_;have hon:=uF ((i:Int) - ((sunI b i0).step+b.steps / 2) % b.steps+b.steps) (n:=b.steps) oQ;refine au 2401690670670114 ?_;refine bH Z (q_min Z Z Z) ?_;refine au 71 ?_;refine bH Z (kF Z Z Z ArEl.h oQ oQ) ?_;refine TK.st Z Z Z (zM Z Z ze.h Z Z mQ (ziE (zg8 b y i0 i) oQ)) uQ (putN Z) ?_;refine au 3123041403 ?_;refine bA [3,6,9,10,52,53] ?_;refine bC [(jo,_),(jb,_),(s,_)] ?_;exact hnext _ _ _ oQ ⟨i+1,rfl,oQ,rfl,by rw [show (((i+1:Nat):Int))=(i:Int)+1 from rfl,<- zjL oQ,<- zlA] <;> rfl⟩
 have hie:(i:Int)=b.steps:=by simp at hc1; omega
 refine au 317068042160 ?_;refine bB hret [(s,_)] ?_;exact ⟨by rw [show fallsM b y i0=fallsI b y i0 i by unfold fallsM; rw [if_neg (by unfold darkS; rw [g3_3,hc0]; decide),hie]] <;> rfl,rfl⟩
theorem ziZ {main T} (hT:zn tp main T) {gm} {l:List Bool} :
  zq tp T gm 97 [.agg (stepsC l)] [] (fun r K'=>∃ jo,r=.row jo (listM l).length/\K'=[(jo,.row ((listM l).map intA) 3 1)]):=by
 refine zm 18 hT Tryz.func97 fun Y hret=>?_;refine au 21042 ?_;intro jb hjb;refine au 22354235 ?_;refine TK.virt 3 3 1 Z fun jo0 hjo0=>?_;refine TK.norm (by simp only [List.set] <;> rfl) ?_;refine au 130316804 ?_;refine bA [3,6,7] ?_;refine bC [(jo0,_),(jb,_)] ?_;refine bE (fun n env K=>∃ (i jo:Nat),n=12 - i/\i<=12/\env=naL 3 (.row jo (listI l i).length::naL 2 (.agg (stepsC l)::intA i::naL 10 []))/\K=[(jo,.row ((listI l i).map intA) 3 1),(jb,.cells (stepsC l) 117 true)]) 12 ⟨0,jo0,rfl,oQ,rfl,rfl⟩ fun n env K hI hnext=>?_;obtain ⟨i,jo,rfl,hi,rfl,rfl⟩:=hI;have hlen:(listI l i).length<=12:=by
  unfold listI;rw [lJ];exact mT (List.length_filter_le _ _) (by rw [List.length_range]; exact hi)
 refine bG nQ ?_;refine au 923742 ?_;constructor<;>intro hc0
 ·have hil:i<12:=by simp at hc0; omega
  refine au 1421302120 ?_;refine bH Z (yW Z Z Z ArEl.h oQ oQ (uW (g:=false) oQ)) ?_;refine au 93142355 ?_;constructor<;>intro hc1
  ·simp only [mZ] at hc1;refine au 114 ?_;refine bI Z Z Z (zp (l:=[_]) Z zE.h TyZ.h dQ dQ Z) (fun _=>zr rfl tQ) fun j1 hj1=>?_;refine bO Z Z Z (a_app Z ApOf.h Z mQ sQ Z (yg (ln:=[_]) mQ dQ sQ Z) oQ Z (by unfold maxLen; omega) oQ) (fun _=>uQ) (fun _=>zr rfl tQ) fun j2=>?_;refine au 31230414035 ?_;refine bA [3,6,7] ?_;refine bC [(j2,_),(jb,_)] ?_;have e:listI l (i+1)=listI l i++[(i:Int)]:=by rw [zgn,if_pos hc1]
   exact hnext _ _ _ oQ ⟨i+1,j2,rfl,oQ,by rw [e,lF] <;> rfl,by rw [e,lM] <;> rfl⟩
  simp only [mZ] at hc1;refine au 312304140120 ?_;refine bA [3,6,7] ?_;refine bC [(jo,_),(jb,_)] ?_;have e:listI l (i+1)=listI l i:=by rw [zgn,if_neg (by rw [hc1]; decide),lR]
  exact hnext _ _ _ oQ ⟨i+1,jo,rfl,oQ,by rw [e] <;> rfl,by rw [e] <;> rfl⟩
 obtain rfl:i=12:=by simp at hc0; omega
 refine au 35142160 ?_;refine bB hret [(jo,_)] ?_;exact ⟨jo,rfl,rfl⟩
theorem zfW {main T} (hT:zn tp main T) {gm} {b:SlB} {c s e w:Nat} {y:SkyR} {jb jz:Nat} {x:WatR} (hb:SlBase b) (hy:y.dirty.length=12 /\ -3<=y.shift/\y.shift<=3) (hx:watOk b x=true) :
  zq tp T gm 164 [.agg (watC x),.ptr jb 0,.ptr jz 0] [(jb,.cells (slC b c s e w) 107 true),(jz,.cells (skyC y) 119 true),(s,suO b)] (fun r K'=>r=zw (!rightS b y x)/\K'=[(jb,.cells (slC b c s e w) 107 true),(jz,.cells (skyC y) 119 true),(s,suO b)]):=by
 refine zm 16 hT Tryz.func164 fun Y hret=>?_;refine au 0 ?_;unfold watOk at hx;simp at hx;have hst:=hb.st;refine au 21042 ?_;intro jw hjw;refine au 235 ?_;refine TK.dr [0,1,2,3,5,6,8,9,4,7,10,11] [0,1,2,3,4,5,6,7,8,9,10,11] ?_;refine ad [[12,1],[12,2],[3,3],[10,7],[3,3],[10,10],[3,3],[10,13]] ?_;refine bQ (pend':=[⟨9,[13],[(_,_)]⟩,⟨8,[3],[]⟩,⟨6,[10],[(_,_)]⟩,⟨5,[3],[]⟩,⟨2,[3],[]⟩]) [5,6,8] Z Z Z Z Z (u6 hT hb hy oQ) (fun r1 K2 h3=>⟨?_,?_⟩)
 ·rcases h3 with ⟨rfl,rfl⟩
  all_goals simp
 obtain ⟨rfl,rfl⟩:=h3;try simp only [cA]
 refine bS tQ ?_;refine bU [9,11] Z (yW Z Z Z ArEl.h oQ oQ (uW (g:=false) oQ)) ?_;refine bU [12,14] Z (ziI Z Z Z Und.h Z) ?_;refine ad [[13,15],[14]] ?_;refine au 0 ?_;refine bB hret [(jb,_),(jz,_),(s,_)] ?_;exact ⟨rfl,rfl⟩
theorem zhd {main T} (hT:zn tp main T) {gm} {j off:Nat} {ob:AObj} {xs:List WatR} {p:WatR->Bool} {g:FuncId} {cp:List AV} {Kc:KV} (hg:ym tp g=true) (hp:∀ x∈xs,zq tp T gm g ([.agg (watC x)]++cp) Kc (fun r K'=>r=zw (p x)/\K'=Kc)) (hI:WasAt ob off xs) (hl:xs.length<=1000) :
  zq tp T gm 191 [.sl j off xs.length,.fn g [] cp] ((j,ob)::Kc) (fun r K'=>(∃ n:Int,r=intA n/\decide (n>=0)=xs.any p)/\K'=(j,ob)::Kc):=by
 refine zm 19 hT Tryz.func191 fun Y hret=>?_;refine au 1303128014223542 ?_;refine bA [0,1,7,8] ?_;refine bE (fun n env K=>∃ (i:Nat),n=xs.length - i/\i<=xs.length/\(xs.take i).any p=false/\env=.sl j off xs.length::.fn g [] cp::naL 5 (intA xs.length::intA i::naL 10 [])/\K=(j,ob)::Kc) xs.length ⟨0,rfl,mN _,by simp,rfl,rfl⟩ fun n env K hI' hnext=>?_;obtain ⟨i,rfl,hi,hn,rfl,rfl⟩:=hI';refine bG nQ ?_;refine au 923742 ?_;refine ⟨fun hc=>?_,fun hc=>?_⟩
 ·simp only [decide_eq_true_eq] at hc;have hil:i<xs.length:=by omega
  refine au 36011142351421302120 ?_;refine bH Z (zK Z Z ze.h mQ (hI i hil)) ?_;refine bD Z Z Z Z (hp xs[i] (List.getElem_mem _)) ?_ (hs:=(.right (.all _))) (hg:=hg);rintro r1 K2 ⟨rfl,hK⟩;refine au 0 ?_;rw [hK];refine bN (K':=(j,ob)::Kc) (List.perm_append_singleton _ _) ?_;refine au 93 ?_;constructor<;>intro hc1
  ·refine au 35142 ?_;refine TK.rta hret ?_;exact ⟨⟨i,rfl,by rw [decide_eq_true (Int.natCast_nonneg i),List.any_eq_true.2 ⟨xs[i],List.getElem_mem _,hc1⟩]⟩,rfl⟩
  refine au 312304140120 ?_;refine bA [0,1,7,8] ?_;exact hnext _ _ _ oQ ⟨i+1,rfl,oQ,zcA hil hn hc1,rfl,rfl⟩
 simp only [decide_eq_false_iff_not] at hc;obtain rfl:i=xs.length:=by omega
 refine au 3542160 ?_;refine TK.rta hret ?_;rw [lW] at hn;exact ⟨⟨-1,rfl,by rw [hn] <;> rfl⟩,rfl⟩
theorem zdQ {main T} (hT:zn tp main T) {gm} {j off:Nat} {ob:AObj} {xs:List WatR} {p:WatR->Bool} {g:FuncId} {cp:List AV} {Kc:KV} (hg:ym tp g=true) (hp:∀ x∈xs,zq tp T gm g ([.agg (watC x)]++cp) Kc (fun r K'=>r=zw (p x)/\K'=Kc)) (hI:WasAt ob off xs) (hl:xs.length<=1000) :
  zq tp T gm 163 [.sl j off xs.length,.fn g [] cp] ((j,ob)::Kc) (fun r K'=>r=zw (xs.any p)/\K'=(j,ob)::Kc):=by
 refine zm 9 hT Tryz.func163 fun Y hret=>?_;refine au 11423542 ?_;refine bD Z Z Z Z (zhd hT hg hp hI hl) ?_ (hs:=(.all _));rintro r1 K2 ⟨⟨m,rfl,hm⟩,hK⟩;refine au 0 ?_;rw [hK,lR];refine au 357 ?_;refine TK.rta hret ?_;exact ⟨by rw [<- hm] <;> rfl,rfl⟩
theorem zcs {main T} (hT:zn tp main T) {gm} {b:SlB} {c s e w:Nat} {y:SkyR} (hb:SlBase b) (hw:SlWat b) (hy:y.dirty.length=12 /\ -3<=y.shift/\y.shift<=3) :
  zq tp T gm 122 [.agg (slC b c s e w),.agg (skyC y)] [(s,suO b),(w,waO b)] (fun r K'=>r=zw (allRight b y)/\K'=[(s,suO b),(w,waO b)]):=by
 refine zm 11 hT Tryz.func122 fun Y hret=>?_;refine au 21042 ?_;intro jb hjb;refine au 210 ?_;intro jz hjz;refine au 3206906706704235 ?_;refine TK.clE Z Z Z Z (zdQ hT (cp:=[.ptr jb 0,.ptr jz 0]) (Kc:=[(jb,.cells (slC b c s e w) 107 true),(jz,.cells (skyC y) 119 true),(s,suO b)]) (p:=fun x => !rightS b y x) Cal.h (fun x hx=>zfW hT hb hy (hw.all x hx)) (znB b) (by have:=hw.len; omega)) ?_;refine au 35300 ?_;refine bB hret [(s,_),(w,_)] ?_;exact ⟨by rw [ziq,Bool.not_not] <;> rfl,rfl⟩
def YieldG (P:Program) (T:Goroutine->Hp->Prop) (gm:Nat->Option Nat) {α:Type} (Fx:KV) (ar:α->AV) (l:Nat) (J:List α->KV->Prop) (D:KV->Prop) (tot:List α):Prop:=∀ (pre:List α) (x:α) (K1:KV),pre++[x] <+: tot->J pre K1 ->
 CallFK P T gm (.yl l) [ar x] (Fx++K1) fun r K'=>∃ K2,K'=Fx++K2/\((r=zw true/\J (pre++[x]) K2)\/(r=zw false/\D K2))
section
variable {P:Program} {main:Bool} {T:Goroutine->Hp->Prop} {gm:Nat->Option Nat} {Y:KX P gm T} {ds:List Nat} {k:List Item} {env:List AV} {K K0 R:KV} {ops:Array Oper} {i:Nat} {rest:List Nat} {o:Oper}
theorem TK.rangeG {α:Type} (hT:zn P main T) {fo:Operand} {ps:Array Tmp} {x y:Code} {g:FuncId} {fs cp:List AV} {Fx:KV} {ar:α->AV} {tot:List α} {J:List α->KV->Prop} {D:Code->KV->Prop} (hps:ps.size=1) (hro:Y.X.ro=none) (hf:zo gm env fo=some (.fn g fs cp)) (hg:ym P g=true) (hs:Split K (Fx++K0) R) (hJ0:J [] K0)
  (hit:∀ (l:Nat) (J':List α->KV->Prop) (D':KV->Prop) (K1:KV),YieldG P T gm Fx ar l J' D' tot->J' [] K1->zq P T gm g (fs++[.yl l]++cp) (Fx++K1) (fun _ K'=>∃ K2,K'=Fx++K2/\(J' tot K2\/D' K2)))
  (round:∀ (Y':KX P gm T) (l:Nat) (lo lb:AObj) (pre:List α) (S:α) (K1:KV),(∀ ds k env' K K',Upd K l lo l lb K'->TK Y' ds k env' K'->TK Y' ds (.beginRound::k) env' K) ->
   (∀ env' K' K2 D',Split K' ((l,lb)::(Fx++K2)) D'->J (pre++[S]) K2->TK Y' [] [] env' K') ->
   (∀ c k env' K' K2 D',Leave (some c) k->Split K' ((l,lb)::(Fx++K2)) D'->D c K2->TK Y' [] k env' K') ->
   pre++[S] <+: tot->J pre K1->TK Y' [] [.code x,.beginRound,.code y] (putAll env (ps.toList.zip [ar S])) ((l,lo)::(Fx++K1)))
  (hend:∀ d K2,J tot K2->TK Y (d::ds) k env ((d,.raw (.deferred (some [])))::(Fx++(K2++R))))
  (hstop:∀ d c K2,D c K2->TK Y (d::ds) (.code c::k) env ((d,.raw (.deferred (some [])))::(Fx++(K2++R)))):TK Y ds (.code (.rangeFunc fo ps x y)::k) env K:=by
 refine TK.rangeFunc (Post:=fun l _ K'=>∃ st pj K2,K'=(l,.loop Y.X.f env ps x y st pj)::(Fx++K2)/\((st=.ready/\pj=none/\J tot K2)\/∃ c,st=.done/\pj=some c/\D c K2))
  (Q:=fun pj K'=>∃ K2,K'=Fx++K2/\((pj=none/\J tot K2)\/∃ c,pj=some c/\D c K2)) hro hf hg hs (fun l hl=>?_) ?_ ?_
 ·intro A hv hn;have hp:((l,AObj.loop Y.X.f env ps x y .ready none)::(Fx++K0)).Perm (Fx++(l,.loop Y.X.f env ps x y .ready none)::K0):=List.perm_middle.symm;refine CallT.mono (hit l (fun pre K=>∃ K3,K=(l,.loop Y.X.f env ps x y .ready none)::K3/\J pre K3) (fun K=>∃ c K3,K=(l,.loop Y.X.f env ps x y .done (some c))::K3/\D c K3) _ ?_ ⟨K0,rfl,hJ0⟩ A (hv.sub fun x hx=>hp.symm.subset hx) ((zU hp).nodup_iff.1 hn)) ?_
  ·rintro pre S K1 hpre ⟨K3,rfl,hJ⟩;refine CallFK.perm (Post:=fun r K'=>(r=zw true/\∃ K2,K'=(l,.loop Y.X.f env ps x y .ready none)::(Fx++K2)/\J (pre++[S]) K2)\/(r=zw false/\∃ c K2,K'=(l,.loop Y.X.f env ps x y .done (some c))::(Fx++K2)/\D c K2)) ?_ ?_
   ·refine zc7 hT (i:=l) (f:=Y.X.f) (env:=env) (ps:=ps) (x:=x) (y:=y) sQ hps.symm fun Y' hro' hl' hret=>?_;refine bN List.perm_middle ?_;refine round Y' l (.loop Y.X.f env ps x y .ready none) (.loop Y.X.f env ps x y .busy none) pre S K3 (fun ds k env' K K' hu h=>TK.beginRound hro' hl' hu h) (fun env' K' K2 D' hsp hJ'=>?_) (fun c k env' K' K2 D' hlv hsp hD=>?_) hpre hJ
    ·exact TK.leave .fin fun A hA=>hret none env' K' (Fx++K2) D' .busy none hsp (.inl ⟨rfl,K2,rfl,hJ'⟩) A hA
    ·exact TK.leave hlv fun A hA=>hret (some c) env' K' (Fx++K2) D' .busy none hsp (.inr ⟨rfl,c,K2,rfl,hD⟩) A hA
   ·rintro r K' (⟨rfl,K2,rfl,h⟩ | ⟨rfl,c,K2,rfl,h⟩)
    ·exact ⟨_,List.perm_middle.symm,_,rfl,.inl ⟨rfl,K2,rfl,h⟩⟩
    ·exact ⟨_,List.perm_middle.symm,_,rfl,.inr ⟨rfl,c,K2,rfl,h⟩⟩
  ·rintro r A' ⟨K',hk,K2,rfl,h⟩;have hk2:∀ K'',(Fx++K2).Perm K''->Kstep ((l,AObj.loop Y.X.f env ps x y .ready none)::(Fx++K0)) A K'' A':=fun K'' hp2 =>
    Kstep.perm ⟨hk.view,hk.nd,fun i hi=>(hk.own i hi).imp_left fun h=>(zU hp).symm.subset h,fun j h1 h2=>hk.kept j h1 fun h=>h2 ((zU hp).symm.subset h),hk.len⟩ hp2
   rcases h with ⟨K3,rfl,h⟩ | ⟨c,K3,rfl,h⟩
   ·exact ⟨_,hk2 _ List.perm_middle,.ready,none,K3,rfl,.inl ⟨rfl,rfl,h⟩⟩
   ·exact ⟨_,hk2 _ List.perm_middle,.done,some c,K3,rfl,.inr ⟨c,rfl,rfl,h⟩⟩
 ·rintro l r K' ⟨st,pj,K2,rfl,h⟩;refine ⟨st,pj,_,rfl,?_,K2,rfl,?_⟩
  ·rcases h with ⟨rfl,_⟩ | ⟨c,rfl,_⟩ <;> rfl
  ·rcases h with ⟨_,rfl,h⟩ | ⟨c,_,rfl,h⟩
   ·exact .inl ⟨rfl,h⟩
   ·exact .inr ⟨c,rfl,h⟩
 ·rintro d pj K' ⟨K2,rfl,⟨rfl,h⟩ | ⟨c,rfl,h⟩⟩
  ·rw [List.append_assoc]; exact hend d K2 h
  ·rw [List.append_assoc]; exact hstop d c K2 h
end
abbrev skyA (y:SkyR):AV:=.agg (skyC y)
theorem zkK {b:SlB} {d:List Bool} {n:Int} {pre pre1 t tot:List SkyR} (h:pre++t <+: tot) (hE:pre1++shiftsI b d n=pre++t) (hn:n<=b.hi):pre1++[⟨n,d⟩] <+: tot:=by
 refine List.IsPrefix.trans ⟨shiftsI b d (n+1),?_⟩ h;rw [<- hE,zfh hn,List.append_assoc] <;> rfl
instance:ze tp 224 false 1:={}
instance:ze tp 259 false 1:={}
instance:TyZA tp 119 [.v (.int .i64 0),.v (.bool false),.v (.bool false),.v (.bool false),.v (.bool false),.v (.bool false),.v (.bool false),.v (.bool false),.v (.bool false),.v (.bool false),.v (.bool false),.v (.bool false),.v (.bool false)]:={}
theorem skyNext0 {main T} (hT:zn tp main T) {gm} {b:SlB} {c s e w l jb jm jy jn:Nat} {mo:Int} (hb:SlBase b) (hcl:b.clean.length<=1000) {J:List SkyR->KV->Prop} {D:KV->Prop} {tot:List SkyR} (hy:YieldG tp T gm [(jb,.cells (slC b c s e w) 107 true),(jm,.cells [intA mo] 3 true),(c,clO b)] skyA l J D tot)  (step:Int) (d:List Bool) (pre:List SkyR) (K1:KV) (hd:d.length=12) (hst0:0<=step/\step<=100) (hpre:pre++skyM b 0 step d <+: tot) (hJ:J pre K1) :
  zq tp T gm 161 [.agg (skyC ⟨0,d⟩),intA step,intA (0:Nat),.ptr jb 0,.ptr jy 0,.ptr jn 0] ((jy,.cells [.yl l] 224 true)::(jn,.cells [.fn 161 [] [.ptr jb 0,.ptr jy 0,.ptr jn 0]] 259 true)::(jb,.cells (slC b c s e w) 107 true)::(jm,.cells [intA mo] 3 true)::(c,clO b)::K1) (fun r K'=>∃ K2,K'=(jy,.cells [.yl l] 224 true)::(jn,.cells [.fn 161 [] [.ptr jb 0,.ptr jy 0,.ptr jn 0]] 259 true)::(jb,.cells (slC b c s e w) 107 true)::(jm,.cells [intA mo] 3 true)::(c,clO b)::K2/\((r=zw true/\J (pre++skyM b 0 step d) K2)\/(r=zw false/\D K2))):=by
 refine zm 59 hT Tryz.func161 fun Y hret=>?_;have hst:=hb.st;have hsh:=hb.sh;refine au 21042 ?_;intro jz hjz;refine au 937142235 ?_;constructor<;>intro hc0
 ·refine au 690670670670422 ?_;refine bH Z (zd Z Z zj.h dQ) ?_;refine au 1303170 ?_;refine bA [3,4,5,6] ?_;refine bE (fun n1 env K=>∃ (n:Int) (pre1:List SkyR) (K2:KV),n1=(b.hi+1 - n).toNat/\(b.lo<=n/\n<=b.hi+1)/\J pre1 K2/\pre1++shiftsI b d n=pre++skyM b 0 step d/\env=naL 3 (.ptr jb 0::.ptr jy 0::.ptr jn 0::.ptr jz 0::naL 52 [])/\K=(jz,.cells (skyC ⟨n,d⟩) 119 true)::(jy,.cells [.yl l] 224 true)::(jn,.cells [.fn 161 [] [.ptr jb 0,.ptr jy 0,.ptr jn 0]] 259 true)::(jb,.cells (slC b c s e w) 107 true)::(jm,.cells [intA mo] 3 true)::(c,clO b)::K2) _ ⟨b.lo,pre,K1,rfl,oQ,hJ,rfl,rfl,rfl⟩ fun n1 env K hI hnext=>?_;obtain ⟨n,pre1,K2,rfl,hn,hJ1,hE,rfl,rfl⟩:=hI;refine bG nQ ?_;refine au 937690670670670690670422 ?_;constructor<;>intro hc1
  ·have hnh:n<=b.hi:=of_decide_eq_true hc1;refine au 680690421302120 ?_;refine TK.callF' Z Z Z Z Z (hy pre1 ⟨n,d⟩ K2 (zkK hpre hE hnh) hJ1) (.right (.right (.right (.all _)))) fun r1 K2 h3=>?_;rcases h3 with ⟨K3,rfl,⟨rfl,hJ3⟩ | ⟨rfl,hD⟩⟩
   ·refine au 0 ?_;refine bN (K':=(jz,_)::(jy,_)::(jn,_)::(jb,_)::(jm,_)::(c,_)::K3) (lH (l₁:=(jb,_)::(jm,_)::(c,_)::K3)) ?_;refine au 317067023069067041401201903300 ?_;refine bA [3,4,5,6] ?_;exact hnext _ _ _ oQ ⟨n+1,pre1++[⟨n,d⟩],K3,rfl,oQ,hJ3,by rw [<- hE,zfh hnh,List.append_assoc] <;> rfl,rfl,rfl⟩
   ·refine au 0 ?_;refine bN (K':=(jz,_)::(jy,_)::(jn,_)::(jb,_)::(jm,_)::(c,_)::K3) (lH (l₁:=(jb,_)::(jm,_)::(c,_)::K3)) ?_;refine au 35421803300 ?_;refine bB hret (_) ?_ (hs:=(.right (.all _)));exact ⟨K3,rfl,.inr ⟨rfl,hD⟩⟩
  refine au 3542160 ?_;refine bB hret (_) ?_ (hs:=(.right (.all _)));exact ⟨K2,rfl,.inl ⟨rfl,by rw [<- hE,zhw (of_decide_eq_false hc1),lR]; exact hJ1⟩⟩
 exact absurd hc0 dQ
theorem skyNextS {main T} (hT:zn tp main T) {gm} {b:SlB} {c s e w l jb jm jy jn:Nat} {mo:Int} (hb:SlBase b) (hcl:b.clean.length<=1000) {J:List SkyR->KV->Prop} {D:KV->Prop} {tot:List SkyR} (hy:YieldG tp T gm [(jb,.cells (slC b c s e w) 107 true),(jm,.cells [intA mo] 3 true),(c,clO b)] skyA l J D tot) {left:Nat} (ih:∀ (step:Int) (d:List Bool) (pre:List SkyR) (K1:KV),d.length=12->(0<=step/\step<=100)->pre++skyM b left step d <+: tot->J pre K1 ->
  zq tp T gm 161 [.agg (skyC ⟨0,d⟩),intA step,intA left,.ptr jb 0,.ptr jy 0,.ptr jn 0] ((jy,.cells [.yl l] 224 true)::(jn,.cells [.fn 161 [] [.ptr jb 0,.ptr jy 0,.ptr jn 0]] 259 true)::(jb,.cells (slC b c s e w) 107 true)::(jm,.cells [intA mo] 3 true)::(c,clO b)::K1) (fun r K'=>∃ K2,K'=(jy,.cells [.yl l] 224 true)::(jn,.cells [.fn 161 [] [.ptr jb 0,.ptr jy 0,.ptr jn 0]] 259 true)::(jb,.cells (slC b c s e w) 107 true)::(jm,.cells [intA mo] 3 true)::(c,clO b)::K2/\((r=zw true/\J (pre++skyM b left step d) K2)\/(r=zw false/\D K2)))) (step:Int) (d:List Bool) (pre:List SkyR) (K1:KV) (hd:d.length=12) (hst0:0<=step/\step<=100) (hl2:left<=1) (hpre:pre++skyM b (left+1) step d <+: tot) (hJ:J pre K1) :
  zq tp T gm 161 [.agg (skyC ⟨0,d⟩),intA step,intA ((left+1):Nat),.ptr jb 0,.ptr jy 0,.ptr jn 0] ((jy,.cells [.yl l] 224 true)::(jn,.cells [.fn 161 [] [.ptr jb 0,.ptr jy 0,.ptr jn 0]] 259 true)::(jb,.cells (slC b c s e w) 107 true)::(jm,.cells [intA mo] 3 true)::(c,clO b)::K1) (fun r K'=>∃ K2,K'=(jy,.cells [.yl l] 224 true)::(jn,.cells [.fn 161 [] [.ptr jb 0,.ptr jy 0,.ptr jn 0]] 259 true)::(jb,.cells (slC b c s e w) 107 true)::(jm,.cells [intA mo] 3 true)::(c,clO b)::K2/\((r=zw true/\J (pre++skyM b (left+1) step d) K2)\/(r=zw false/\D K2))):=by
 refine zm 59 hT Tryz.func161 fun Y hret=>?_;have hst:=hb.st;have hsh:=hb.sh;refine au 21042 ?_;intro jz hjz;refine au 937142235 ?_;constructor<;>intro hc0
 ·have:=of_decide_eq_true hc0; omega
 refine au 130351422120 ?_;refine bA [2,3,4,5,6,10] ?_;refine bE (fun n1 env K=>∃ (n:Int) (pre1:List SkyR) (K2:KV),n1=(b.steps - n).toNat/\(0<=n/\n<=100)/\J pre1 K2/\pre1++skyM b (left+1) n d=pre++skyM b (left+1) step d/\env=naL 2 (intA (left+1:Nat)::.ptr jb 0::.ptr jy 0::.ptr jn 0::.ptr jz 0::naL 3 (intA n::naL 48 []))/\K=(jz,.cells (skyC ⟨0,d⟩) 119 true)::(jy,.cells [.yl l] 224 true)::(jn,.cells [.fn 161 [] [.ptr jb 0,.ptr jy 0,.ptr jn 0]] 259 true)::(jb,.cells (slC b c s e w) 107 true)::(jm,.cells [intA mo] 3 true)::(c,clO b)::K2) _ ⟨step,pre,K1,rfl,hst0,hJ,rfl,rfl,rfl⟩ fun n1 env K hI hnext=>?_;obtain ⟨n,pre1,K2,rfl,hn,hJ1,hE,rfl,rfl⟩:=hI;refine bG nQ ?_;refine au 9376906706701422 ?_;constructor<;>intro hc3
 ·have hns:n<b.steps:=of_decide_eq_true hc3;refine au 16906706704221302120 ?_;refine bD Z Z Z Z (zfD hT (intsA b.clean 3 false) hcl) ?_ (hs:=(.right (.right (.right (.right (.right (.left (.none _))))))));rintro r1 K2 ⟨rfl,rfl⟩;refine au 0 ?_;refine bN (K':=(jz,_)::(jy,_)::(jn,_)::(jb,_)::(jm,_)::(c,_)::K2) (List.perm_middle (l₁:=[(jz,_),(jy,_),(jn,_),(jb,_),(jm,_)])).symm ?_;refine au 93 ?_;constructor<;>intro hc4
  ·have hin:b.clean.contains n=true:=by simpa using hc4
   refine au 3523014160 ?_;refine bA [2,3,4,5,6,10] ?_;refine bC (((jz,_)::(jy,_)::(jn,_)::(jb,_)::(jm,_)::(c,_)::K2)) ?_;exact hnext _ _ _ oQ ⟨n+1,pre1,K2,rfl,oQ,hJ1,by rw [<- hE,zfj hns,if_pos hin,lC],rfl,rfl⟩
  have hin:¬ b.clean.contains n=true:=by simpa using hc4
  refine au 22068042120 ?_;intro jo hjo;refine au 6701423170 ?_;refine bH Z (kF Z Z Z ArEl.h oQ oQ) ?_;refine TK.st Z Z Z (zM Z Z ze.h Z Z mQ (zl0 (sh:=0) hd oQ)) uQ (putN Z) ?_;refine au 24012301680690423 ?_;refine bD Z Z Z Z ((by have:=ih (n+1) (d.set n.toNat true) pre1 K2 (by simpa using hd) oQ (List.IsPrefix.trans ⟨skyM b (left+1) (n+1) d,by rw [List.append_assoc,<- hE,zfj hns,if_neg hin]⟩ hpre) hJ1; rw [show (left:Int)=((left+1:Nat):Int) - 1 by omega] at this; exact this)) ?_ (hs:=(.right (.right (.all _))));rintro r4 K5 h6;rcases h6 with ⟨K3,rfl,⟨rfl,hJ3⟩ | ⟨rfl,hD⟩⟩
  ·refine au 0 ?_;refine bN (K':=(jo,_)::(jz,_)::(jy,_)::(jn,_)::(jb,_)::(jm,_)::(c,_)::K3) (lH (l₁:=(jy,_)::(jn,_)::(jb,_)::(jm,_)::(c,_)::K3)) ?_;refine au 35230141401201903300 ?_;refine bA [2,3,4,5,6,10] ?_;refine bC (((jz,_)::(jy,_)::(jn,_)::(jb,_)::(jm,_)::(c,_)::K3)) ?_;exact hnext _ _ _ oQ ⟨n+1,_,K3,rfl,oQ,hJ3,by rw [<- hE,zfj hns,if_neg hin,List.append_assoc],rfl,rfl⟩
  ·refine au 0 ?_;refine bN (K':=(jo,_)::(jz,_)::(jy,_)::(jn,_)::(jb,_)::(jm,_)::(c,_)::K3) (lH (l₁:=(jy,_)::(jn,_)::(jb,_)::(jm,_)::(c,_)::K3)) ?_;refine au 35421803300 ?_;refine bB hret (_) ?_ (hs:=(.right (.right (.all _))));exact ⟨K3,rfl,.inr ⟨rfl,hD⟩⟩
 refine au 3542160 ?_;refine bB hret (_) ?_ (hs:=(.right (.all _)));exact ⟨K2,rfl,.inl ⟨rfl,by rw [<- hE,zkI (of_decide_eq_false hc3),lR]; exact hJ1⟩⟩
theorem zcr {main T} (hT:zn tp main T) {gm} {b:SlB} {c s e w l jb jm jy jn:Nat} {mo:Int} (hb:SlBase b) (hcl:b.clean.length<=1000) {J:List SkyR->KV->Prop} {D:KV->Prop} {tot:List SkyR} (hy:YieldG tp T gm [(jb,.cells (slC b c s e w) 107 true),(jm,.cells [intA mo] 3 true),(c,clO b)] skyA l J D tot):∀ (left:Nat),left<=2->∀ (step:Int) (d:List Bool) (pre:List SkyR) (K1:KV),d.length=12->(0<=step/\step<=100)->pre++skyM b left step d <+: tot->J pre K1 ->
  zq tp T gm 161 [.agg (skyC ⟨0,d⟩),intA step,intA left,.ptr jb 0,.ptr jy 0,.ptr jn 0] ((jy,.cells [.yl l] 224 true)::(jn,.cells [.fn 161 [] [.ptr jb 0,.ptr jy 0,.ptr jn 0]] 259 true)::(jb,.cells (slC b c s e w) 107 true)::(jm,.cells [intA mo] 3 true)::(c,clO b)::K1) (fun r K'=>∃ K2,K'=(jy,.cells [.yl l] 224 true)::(jn,.cells [.fn 161 [] [.ptr jb 0,.ptr jy 0,.ptr jn 0]] 259 true)::(jb,.cells (slC b c s e w) 107 true)::(jm,.cells [intA mo] 3 true)::(c,clO b)::K2/\((r=zw true/\J (pre++skyM b left step d) K2)\/(r=zw false/\D K2)))
 | 0,_,step,d,pre,K1,h1,h2,h3,h4=>skyNext0 hT hb hcl hy step d pre K1 h1 h2 h3 h4
 | left+1,hl,step,d,pre,K1,h1,h2,h3,h4=>skyNextS hT hb hcl hy (zcr hT hb hcl hy left oQ) step d pre K1 h1 h2 oQ h3 h4
theorem zgE {b:SlB} (hb:SlBase b) {pre:List SkyR} {y:SkyR} (h:pre++[y] <+: skiesM b):y.dirty.length=12 /\ -3<=y.shift/\y.shift<=3:=by
 have h1:=zfi hb (n:=(b.dirty+1).toNat) (s:=y) (h.subset sQ);have h2:=hb.sh;exact ⟨h1.1,oQ,oQ⟩
theorem filtT {pre:List SkyR} {y:SkyR} {p:SkyR->Bool} (h:p y=true):(pre++[y]).filter p=pre.filter p++[y]:=by rw [List.filter_append]; simp [h]
theorem filtF {pre:List SkyR} {y:SkyR} {p:SkyR->Bool} (h:p y=false):(pre++[y]).filter p=pre.filter p:=by rw [List.filter_append]; simp [h]
theorem zhy {b:SlB} (hb:SlBase b) {pre:List SkyR} {y:SkyR} (h:pre++[y] <+: skiesM b) (p:SkyR->Bool):(pre.filter p).length<=3000:=by
 have h1:=h.length_le;have h2:=zdF hb (n:=(b.dirty+1).toNat) (by have:=hb.di; omega);have h3:=List.length_filter_le p pre;rw [lF] at h1;unfold skiesM at h1;omega
theorem zhB (b:SlB):((skiesM b).any (allRight b)=true)=(zz b≠[]):=by
 refine propext ⟨fun h=>?_,fun h=>?_⟩
 ·obtain ⟨x,h1,h2⟩:=List.any_eq_true.1 h;exact List.ne_nil_of_mem (List.mem_filter.2 ⟨h1,h2⟩)
 ·obtain ⟨x,hx⟩:=List.exists_mem_of_ne_nil _ h;obtain ⟨h1,h2⟩:=List.mem_filter.1 hx;exact List.any_eq_true.2 ⟨x,h1,h2⟩
instance:ApOf tp 108 119 13 24:={}
instance:BlOf tp 119 [(0,1),(1,12)]:={}
instance:zE tp 108 119 13:={}
instance:ze tp 108 false 1:={}
instance:TyZ tp 119 [.int .i64 0,.bool false,.bool false,.bool false,.bool false,.bool false,.bool false,.bool false,.bool false,.bool false,.bool false,.bool false,.bool false]:={}
instance:TyZA tp 108 [.v (.slice none 0 0)]:={}
instance:TyZA tp 259 [.v (.nilFunc)]:={}
theorem zdE {main T} (hT:zn tp main T) {gm} {b:SlB} {c s e w l jb jm:Nat} (hb:SlBase b) (hcl:b.clean.length<=1000) {J:List SkyR->KV->Prop} {D:KV->Prop} {K1:KV} (hy:YieldG tp T gm [(jb,.cells (slC b c s e w) 107 true),(jm,.cells [intA b.dirty] 3 true),(c,clO b)] skyA l J D (skiesM b)) (hJ:J [] K1) :
  zq tp T gm 160 [.yl l,.ptr jb 0,.ptr jm 0] ((jb,.cells (slC b c s e w) 107 true)::(jm,.cells [intA b.dirty] 3 true)::(c,clO b)::K1) (fun _ K'=>∃ K2,K'=(jb,.cells (slC b c s e w) 107 true)::(jm,.cells [intA b.dirty] 3 true)::(c,clO b)::K2/\(J (skiesM b) K2\/D K2)):=by
 refine zm 18 hT Tryz.func160 fun Y hret=>?_;refine au 0 ?_;have hdi:=hb.di;refine au 21042 ?_;intro jy hjy;refine au 220423 ?_;intro jn hjn;refine au 23170320423 ?_;refine bN (K':=(jy,_)::(jn,_)::(jb,_)::(jm,_)::(c,_)::K1) (List.Perm.swap _ _ _) ?_;refine au 130312306904 ?_;refine bA [4,8,9] ?_;refine bE (fun n env K=>∃ (i:Nat) (K2:KV),n=(b.dirty+1).toNat - i/\(i:Int)<=b.dirty+1/\J (skiesI b i) K2/\env=naL 4 (.ptr jn 0::naL 3 (intA (b.dirty+1)::intA i::naL 8 []))/\K=(jy,.cells [.yl l] 224 true)::(jn,.cells [.fn 161 [] [.ptr jb 0,.ptr jy 0,.ptr jn 0]] 259 true)::(jb,.cells (slC b c s e w) 107 true)::(jm,.cells [intA b.dirty] 3 true)::(c,clO b)::K2) (b.dirty+1).toNat ⟨0,K1,rfl,oQ,hJ,rfl,rfl⟩ fun n env K hI hnext=>?_;obtain ⟨i,K2,rfl,hi,hJ2,rfl,rfl⟩:=hI;refine bG nQ ?_;refine au 923742 ?_;constructor<;>intro hc0
 ·have hil:(i:Int)<b.dirty+1:=of_decide_eq_true hc0;refine au 69042351421302120 ?_;refine bH Z (yi (l:=[_,_,_,_,_,_,_,_,_,_,_,_,_]) Z TyZ.h BlOf.h Z) ?_;refine au 1 ?_;refine bD Z Z Z Z (zcr hT hb hcl hy i oQ 0 zero12 (skiesI b i) K2 Z oQ (by rw [<- zbM]; exact zhx b oQ) hJ2) ?_ (hs:=(.all _));rintro r1 K2 h3;rcases h3 with ⟨K3,rfl,⟨rfl,hJ3⟩ | ⟨rfl,hD⟩⟩
  ·refine au 0 ?_;refine bN (K':=(jy,_)::(jn,_)::(jb,_)::(jm,_)::(c,_)::K3) (by rw [lR]) ?_;refine au 3123041401201903300 ?_;refine bA [4,8,9] ?_;exact hnext _ _ _ oQ ⟨i+1,K3,rfl,oQ,by rw [zbM]; exact hJ3,rfl,rfl⟩
  ·refine au 0 ?_;refine bN (K':=(jy,_)::(jn,_)::(jb,_)::(jm,_)::(c,_)::K3) (by rw [lR]) ?_;refine au 1803300 ?_;refine bB hret (_) ?_ (hs:=(.right (.right (.all _))));exact ⟨K3,rfl,.inr hD⟩
 have hie:(i:Int)=b.dirty+1:=by simp at hc0; omega
 have hJ2:J (skiesM b) K2:=by unfold skiesM; rw [<- hie]; exact hJ2
 refine au 160 ?_;refine TK.rt0 hret (_) ?_ (hs:=(.right (.right (.all _))));exact ⟨K2,rfl,.inl hJ2⟩
theorem zdG {main T} (hT:zn tp main T) {gm} {b:SlB} {c s e w:Nat} :
  zq tp T gm 121 [.agg (slC b c s e w),intA b.dirty] [] (fun r K'=>∃ jb jm,r=.fn 160 [] [.ptr jb 0,.ptr jm 0]/\K'=[(jb,.cells (slC b c s e w) 107 true),(jm,.cells [intA b.dirty] 3 true)]):=by
 refine zm 6 hT Tryz.func121 fun Y hret=>?_;refine au 21042 ?_;intro jb hjb;refine au 210 ?_;intro jm hjm;refine au 353204235 ?_;refine bB hret [(jb,_),(jm,_)] ?_;exact ⟨jb,jm,rfl,rfl⟩
theorem zi0 {main T} (hT:zn tp main T) {gm} {b:SlB} {c s e w:Nat} (hb:SlBase b) (hw:SlWat b) (hcl:b.clean.length<=1000) :
  zq tp T gm 95 [.agg (slC b c s e w)] [(c,clO b),(s,suO b),(w,waO b)] (fun r K'=>r=zw ((skiesM b).any (allRight b))/\K'=[(c,clO b),(s,suO b),(w,waO b)]):=by
 refine wJ 13 hT Tryz.func95 fun Y hro hret=>?_;refine au 21042 ?_;intro jb hjb;refine au 220 ?_;intro jr hjr;refine au 6906706706804223 ?_;refine bD Z Z Z Z (zdG hT (b:=b) (c:=c) (s:=s) (e:=e) (w:=w)) ?_;rintro r1 K2 ⟨jb2,jm,rfl,rfl⟩;refine au 1303 ?_;refine TK.rangeG hT (Fx:=[(jb2,.cells (slC b c s e w) 107 true),(jm,.cells [intA b.dirty] 3 true),(c,clO b)]) (ar:=skyA) (tot:=skiesM b) (J:=fun pre K1=>K1=[(jr,.cells [zw false] 4 true),(jb,.cells (slC b c s e w) 107 true),(s,suO b),(w,waO b)]/\pre.any (allRight b)=false) (D:=fun cc K1=>cc=.ret/\K1=[(jr,.cells [zw true] 4 true),(jb,.cells (slC b c s e w) 107 true),(s,suO b),(w,waO b)]/\(skiesM b).any (allRight b)=true) rfl hro rfl Cal.h (by repeat (first | exact Split.none _ | exact Split.all _ | (apply Split.rem; repeat (first | exact Rem.head | apply Rem.tail)) | apply Split.right)) ⟨rfl,rfl⟩ (fun l J' D' K1 hy hJ'=>zdE hT hb hcl hy hJ') (fun Y' l lo lb pre y K1 hbegin hfin hout hpre hJ=>?_) (fun d K2 hJ=>?_) (fun d cc K2 hD=>?_)
 ·obtain ⟨rfl,hni⟩:=hJ;have hy:=zgE hb hpre;simp only [cA];refine au 2204 ?_;intro jt hjt;refine au 3170 ?_;refine hbegin _ _ _ _ _ uQ ?_;refine au 68068042130 ?_;refine TK.clE Z Z Z Z (zcs hT hb hw hy) ?_;refine au 93 ?_;constructor<;>intro hc0
  ·refine au 317042 ?_;exact hout _ _ _ _ [(jr,_),(jb,_),(s,_),(w,_)] _ (.ret _) (by repeat (first | exact Split.none _ | exact Split.all _ | (apply Split.rem; repeat (first | exact Rem.head | apply Rem.tail)) | apply Split.right)) ⟨rfl,rfl,List.any_eq_true.2 ⟨y,hpre.subset sQ,hc0⟩⟩
  refine au 140120 ?_;exact hfin _ _ [(jr,_),(jb,_),(s,_),(w,_)] _ (by repeat (first | exact Split.none _ | exact Split.all _ | (apply Split.rem; repeat (first | exact Rem.head | apply Rem.tail)) | apply Split.right)) ⟨rfl,by rw [List.any_append,hni]; simp [hc0]⟩
 ·obtain ⟨rfl,hni⟩:=hJ;simp only [cA];refine au 317042140 ?_;refine TK.leave (.ret _) fun A hA=>hret _ _ _ _ ([(c,_),(s,_),(w,_),(jr,_)]) ([(c,_),(s,_),(w,_)]) _ _ _ (.inr rfl) (by repeat (first | exact Split.none _ | exact Split.all _ | (apply Split.rem; repeat (first | exact Rem.head | apply Rem.tail)) | apply Split.right)) sQ sQ (by repeat (first | exact Split.none _ | exact Split.all _ | (apply Split.rem; repeat (first | exact Rem.head | apply Rem.tail)) | apply Split.right)) (yI (yO Z ze.h mQ rfl)) ?_ A hA;exact ⟨by rw [hni] <;> rfl,rfl⟩
 ·obtain ⟨rfl,rfl,htg⟩:=hD;simp only [cA];refine au 0 ?_;refine TK.leave (.ret _) fun A hA=>hret _ _ _ _ ([(c,_),(s,_),(w,_),(jr,_)]) ([(c,_),(s,_),(w,_)]) _ _ _ (.inr rfl) (by repeat (first | exact Split.none _ | exact Split.all _ | (apply Split.rem; repeat (first | exact Rem.head | apply Rem.tail)) | apply Split.right)) sQ sQ (by repeat (first | exact Split.none _ | exact Split.all _ | (apply Split.rem; repeat (first | exact Rem.head | apply Rem.tail)) | apply Split.right)) (yI (yO Z ze.h mQ rfl)) ?_ A hA;exact ⟨by rw [htg] <;> rfl,rfl⟩
theorem zfY {main T} (hT:zn tp main T) {gm} {b:SlB} {c s e w:Nat} (hb:SlBase b) (hw:SlWat b) (hcl:b.clean.length<=1000) :
  zq tp T gm 96 [.agg (slC b c s e w)] [(c,clO b),(s,suO b),(w,waO b)] (fun r K'=>∃ j,r=.row j (zz b).length/\K'=[(c,clO b),(s,suO b),(w,waO b),(j,.row ((zz b).flatMap skyC) 119 13)]):=by
 refine wJ 19 hT Tryz.func96 fun Y hro hret=>?_;refine au 21042 ?_;intro jb hjb;refine au 2204235 ?_;intro jl hjl;refine TK.virtC (t:=108) (e:=119) (size:=13) (fun _=>uQ) fun j0 hj0=>?_;refine au 6906706706804223 ?_;refine bD Z Z Z Z (zdG hT (b:=b) (c:=c) (s:=s) (e:=e) (w:=w)) ?_;rintro r1 K2 ⟨jb2,jm,rfl,rfl⟩;refine au 1303 ?_;refine TK.rangeG hT (Fx:=[(jb2,.cells (slC b c s e w) 107 true),(jm,.cells [intA b.dirty] 3 true),(c,clO b)]) (ar:=skyA) (tot:=skiesM b) (J:=fun pre K1=>∃ j,K1=[(jl,.cells [.row j (pre.filter (allRight b)).length] 108 true),(j,.row ((pre.filter (allRight b)).flatMap skyC) 119 13),(jb,.cells (slC b c s e w) 107 true),(s,suO b),(w,waO b)]) (D:=fun _ _=>False) rfl hro rfl Cal.h (by repeat (first | exact Split.none _ | exact Split.all _ | (apply Split.rem; repeat (first | exact Rem.head | apply Rem.tail)) | apply Split.right)) ⟨j0,rfl⟩ (fun l J' D' K1 hy hJ'=>zdE hT hb hcl hy hJ') (fun Y' l lo lb pre y K1 hbegin hfin hout hpre hJ=>?_) (fun d K2 hJ=>?_) (fun d cc K2 hD=>?_)
 ·obtain ⟨j,rfl⟩:=hJ;have hy:=zgE hb hpre;have hpl:=zhy hb hpre (allRight b);simp only [cA];refine au 2204 ?_;intro jt hjt;refine au 3170 ?_;refine hbegin _ _ _ _ _ uQ ?_;refine au 68068042130 ?_;refine TK.clE Z Z Z Z (zcs hT hb hw hy) ?_;refine au 93 ?_;constructor<;>intro hc0
  ·refine au 6806904 ?_;refine bI Z Z Z (zp (l:=[_,_,_,_,_,_,_,_,_,_,_,_,_]) Z zE.h TyZ.h dQ dQ Z) (fun _=>zr rfl tQ) fun j7 hj7=>?_;refine bO Z Z Z (a_app Z ApOf.h Z mQ (yy skyC 13 (fun _=>rfl) _) rfl (yg (ln:=[_,_,_,_,_,_,_,_,_,_,_,_,_]) mQ dQ sQ rfl) oQ rfl (by unfold maxLen; omega) oQ) (fun _=>uQ) (fun _=>zr rfl tQ) fun j2=>?_;refine au 1403170 ?_;exact hfin _ _ [(jl,_),(j2,_),(jb,_),(s,_),(w,_)] _ (by repeat (first | exact Split.none _ | exact Split.all _ | (apply Split.rem; repeat (first | exact Rem.head | apply Rem.tail)) | apply Split.right)) ⟨j2,by rw [filtT hc0,List.flatMap_append,lF] <;> rfl⟩
  refine au 140120 ?_;exact hfin _ _ [(jl,_),(j,_),(jb,_),(s,_),(w,_)] _ (by repeat (first | exact Split.none _ | exact Split.all _ | (apply Split.rem; repeat (first | exact Rem.head | apply Rem.tail)) | apply Split.right)) ⟨j,by rw [filtF hc0] <;> rfl⟩
 ·obtain ⟨j,rfl⟩:=hJ;simp only [cA];refine au 3569042140 ?_;refine TK.leave (.ret _) fun A hA=>hret _ _ _ _ ([(c,_),(s,_),(w,_),(j,_)]) ([(c,_),(s,_),(w,_),(j,_)]) _ _ _ (.inr rfl) (by repeat (first | exact Split.none _ | exact Split.all _ | (apply Split.rem; repeat (first | exact Rem.head | apply Rem.tail)) | apply Split.right)) sQ sQ (by repeat (first | exact Split.none _ | exact Split.all _ | (apply Split.rem; repeat (first | exact Rem.head | apply Rem.tail)) | apply Split.right)) (yI (zX Z)) ?_ A hA;exact ⟨j,rfl,rfl⟩
 ·exact hD.elim
def zSl:List AV:=[intA 0,intA 0,intA 0,intA 0,intA 0,.v (.slice none 0 0),intA 0,intA 0,intA 0,intA 0,.v (.slice none 0 0),.v (.slice none 0 0),.v (.slice none 0 0)]
theorem zh7 (xs:List Int):(xs.map intA).all oneA=true:=by
 rw [List.all_map]; exact List.all_eq_true.2 fun _ _=>rfl
instance:ApOf tp 32 105 2 16:={}
instance:ApOf tp 33 125 2 16:={}
instance:ApOf tp 34 50 3 24:={}
instance:TyZ tp 105 [.int .i64 0,.int .i64 0]:={}
instance:TyZ tp 125 [.int .i64 0,.int .i64 0]:={}
instance:TyZ tp 50 [.int .i64 0,.int .i64 0,.bool false]:={}
instance:TyZA tp 36 [.v (.int .i64 0),.v (.int .i64 0),.v (.int .i64 0),.v (.int .i64 0),.v (.int .i64 0),.v (.slice none 0 0),.v (.int .i64 0),.v (.int .i64 0),.v (.int .i64 0),.v (.int .i64 0),.v (.slice none 0 0),.v (.slice none 0 0),.v (.slice none 0 0)]:={}
theorem zgY {main T} (hT:zn tp main T) {gm} {j n:Nat} {l:List AV} {rw':Bool} (hl:l.length=n*1) (hone:l.all oneA=true) (hn:n<=100000) :
  zq tp T gm 91 [.sl j 0 n] [(j,.cells l 3 rw')] (fun r K'=>∃ j2,r=.row j2 n/\K'=[(j,.cells l 3 rw'),(j2,.row l 3 1)]):=by
 refine zm 8 hT Tryz.func91 fun Y hret=>?_;refine au 14223542 ?_;refine TK.nilT Z Z Z Z Und.h fun tz hz=>?_;refine au 93 ?_;constructor<;>intro hc0
 ·refine au 542 ?_;refine TK.virt 2 3 1 Z fun j0 hj0=>?_;refine au 3 ?_;refine bB hret [(j,_),(j0,_)] ?_;obtain rfl:=hz hc0;obtain rfl:=lK (by simpa using hl);exact ⟨_,rfl,rfl⟩
 refine au 42120 ?_;refine bI Z Z Z (zp (l:=[]) Z zE.h TyZ.h dQ dQ Z) (fun _=>zr rfl tQ) fun j1 hj1=>?_;refine au 1 ?_;refine TK.appG (envf:=fun _=>[_,_,_,_,_,_,_,_]) (ln:=l) rfl rfl rfl ApOf.h rfl mQ rfl rfl rfl (fun hp=>kR mQ oQ (ke hl oQ)) (fun h=>by subst h; exact lK (by simpa using hl)) hone (by unfold maxLen; omega) oQ (fun _=>uQ) (fun _=>rfl) fun j2=>?_;simp only [lC,mO];refine au 35 ?_;refine bB hret [(j,_),(j2,_)] ?_;exact ⟨_,rfl,rfl⟩
theorem zg0 {main T} (hT:zn tp main T) {gm} {j n:Nat} {l:List AV} {rw':Bool} (hl:l.length=n*2) (hone:l.all oneA=true) (hn:n<=100000) :
  zq tp T gm 92 [.sl j 0 n] [(j,.cells l 105 rw')] (fun r K'=>∃ j2,r=.row j2 n/\K'=[(j,.cells l 105 rw'),(j2,.row l 105 2)]):=by
 refine zm 8 hT Tryz.func92 fun Y hret=>?_;refine au 14223542 ?_;refine TK.nilT Z Z Z Z Und.h fun tz hz=>?_;refine au 93 ?_;constructor<;>intro hc0
 ·refine au 542 ?_;refine TK.virt 2 105 2 Z fun j0 hj0=>?_;refine au 3 ?_;refine bB hret [(j,_),(j0,_)] ?_;obtain rfl:=hz hc0;obtain rfl:=lK (by simpa using hl);exact ⟨_,rfl,rfl⟩
 refine au 42120 ?_;refine bI Z Z Z (zp (l:=[]) Z zE.h TyZ.h dQ dQ Z) (fun _=>zr rfl tQ) fun j1 hj1=>?_;refine au 1 ?_;refine TK.appG (envf:=fun _=>[_,_,_,_,_,_,_,_]) (ln:=l) rfl rfl rfl ApOf.h rfl mQ rfl rfl rfl (fun hp=>kR mQ oQ (ke hl oQ)) (fun h=>by subst h; exact lK (by simpa using hl)) hone (by unfold maxLen; omega) oQ (fun _=>uQ) (fun _=>rfl) fun j2=>?_;simp only [lC,mO];refine au 35 ?_;refine bB hret [(j,_),(j2,_)] ?_;exact ⟨_,rfl,rfl⟩
theorem zgX {main T} (hT:zn tp main T) {gm} {j n:Nat} {l:List AV} {rw':Bool} (hl:l.length=n*2) (hone:l.all oneA=true) (hn:n<=100000) :
  zq tp T gm 93 [.sl j 0 n] [(j,.cells l 125 rw')] (fun r K'=>∃ j2,r=.row j2 n/\K'=[(j,.cells l 125 rw'),(j2,.row l 125 2)]):=by
 refine zm 8 hT Tryz.func93 fun Y hret=>?_;refine au 14223542 ?_;refine TK.nilT Z Z Z Z Und.h fun tz hz=>?_;refine au 93 ?_;constructor<;>intro hc0
 ·refine au 542 ?_;refine TK.virt 2 125 2 Z fun j0 hj0=>?_;refine au 3 ?_;refine bB hret [(j,_),(j0,_)] ?_;obtain rfl:=hz hc0;obtain rfl:=lK (by simpa using hl);exact ⟨_,rfl,rfl⟩
 refine au 42120 ?_;refine bI Z Z Z (zp (l:=[]) Z zE.h TyZ.h dQ dQ Z) (fun _=>zr rfl tQ) fun j1 hj1=>?_;refine au 1 ?_;refine TK.appG (envf:=fun _=>[_,_,_,_,_,_,_,_]) (ln:=l) rfl rfl rfl ApOf.h rfl mQ rfl rfl rfl (fun hp=>kR mQ oQ (ke hl oQ)) (fun h=>by subst h; exact lK (by simpa using hl)) hone (by unfold maxLen; omega) oQ (fun _=>uQ) (fun _=>rfl) fun j2=>?_;simp only [lC,mO];refine au 35 ?_;refine bB hret [(j,_),(j2,_)] ?_;exact ⟨_,rfl,rfl⟩
theorem zg1 {main T} (hT:zn tp main T) {gm} {j n:Nat} {l:List AV} {rw':Bool} (hl:l.length=n*3) (hone:l.all oneA=true) (hn:n<=100000) :
  zq tp T gm 94 [.sl j 0 n] [(j,.cells l 50 rw')] (fun r K'=>∃ j2,r=.row j2 n/\K'=[(j,.cells l 50 rw'),(j2,.row l 50 3)]):=by
 refine zm 8 hT Tryz.func94 fun Y hret=>?_;refine au 14223542 ?_;refine TK.nilT Z Z Z Z Und.h fun tz hz=>?_;refine au 93 ?_;constructor<;>intro hc0
 ·refine au 542 ?_;refine TK.virt 2 50 3 Z fun j0 hj0=>?_;refine au 3 ?_;refine bB hret [(j,_),(j0,_)] ?_;obtain rfl:=hz hc0;obtain rfl:=lK (by simpa using hl);exact ⟨_,rfl,rfl⟩
 refine au 42120 ?_;refine bI Z Z Z (zp (l:=[]) Z zE.h TyZ.h dQ dQ Z) (fun _=>zr rfl tQ) fun j1 hj1=>?_;refine au 1 ?_;refine TK.appG (envf:=fun _=>[_,_,_,_,_,_,_,_]) (ln:=l) rfl rfl rfl ApOf.h rfl mQ rfl rfl rfl (fun hp=>kR mQ oQ (ke hl oQ)) (fun h=>by subst h; exact lK (by simpa using hl)) hone (by unfold maxLen; omega) oQ (fun _=>uQ) (fun _=>rfl) fun j2=>?_;simp only [lC,mO];refine au 35 ?_;refine bB hret [(j,_),(j2,_)] ?_;exact ⟨_,rfl,rfl⟩
theorem zkM {main T} (hT:zn tp main T) {gm} {b:SlB} {c s e w:Nat} (hb:SlBase b) (hcl:b.clean.length<=1000) (hwl:b.watches.length<=1000) :
  zq tp T gm 45 [.agg (slC b c s e w)] [(c,clO b),(s,suO b),(e,eyO b),(w,waO b)] (fun r K'=>∃ j1 j2 j3 j4,r=.agg [intA b.steps,intA b.dirty,intA b.slope,intA b.lo,intA b.hi,.row j1 b.clean.length,intA b.rf,intA b.rh,intA b.cf,intA b.ch,.row j2 b.suns.length,.row j3 b.eyes.length,.row j4 b.watches.length]/\K'=[(c,clO b),(s,suO b),(e,eyO b),(w,waO b),(j1,.row (b.clean.map intA) 3 1),(j2,.row (b.suns.flatMap sunC) 105 2),(j3,.row (b.eyes.flatMap eyeC) 125 2),(j4,.row (b.watches.flatMap watC) 50 3)]):=by
 refine zm 20 hT Tryz.func45 fun Y hret=>?_;refine au 0 ?_;have hns:=hb.nsu;have hne:=hb.ney;refine au 21042 ?_;intro jb hjb;refine au 220 ?_;intro jr hjr;refine au 23 ?_;refine TK.dr [0,1,3,4,6,7,9,10,2,12,5,8,11,13,14,15,16,17,18,19] [0,1,2,3,4,5,6,7,8,9,10,11,12,13,14,15,16,17,18,19] ?_;refine ad [[3,1],[10,3],[3,1],[10,6],[3,1],[10,9],[3,1],[10,12]] ?_;refine bQ (pend':=[⟨10,[12],[(_,_)]⟩,⟨9,[1],[]⟩,⟨7,[9],[(_,_)]⟩,⟨6,[1],[]⟩,⟨4,[6],[(_,_)]⟩,⟨3,[1],[]⟩,⟨0,[1],[]⟩]) [4] Z Z Z Z Z (zgY hT (l:=b.clean.map intA) sQ (zh7 _) oQ) (fun r1 K2 h3=>⟨?_,?_⟩)
 ·rcases h3 with ⟨j1,rfl,rfl⟩
  all_goals simp
 obtain ⟨j1,rfl,rfl⟩:=h3;try simp only [cA]
 refine bS tQ ?_;refine ad [[3,1]] ?_;refine bQ (pend':=[⟨12,[1],[]⟩,⟨10,[12],[(_,_)]⟩,⟨9,[1],[]⟩,⟨7,[9],[(_,_)]⟩,⟨6,[1],[]⟩,⟨3,[1],[]⟩,⟨0,[1],[]⟩]) [7] Z Z Z Z Z (zg0 hT (yy sunC 2 (fun _=>rfl) b.suns) (zaC sunC (fun _=>rfl) _) oQ) (fun r4 K5 h6=>⟨?_,?_⟩)
 ·rcases h6 with ⟨j2,rfl,rfl⟩
  all_goals simp
 obtain ⟨j2,rfl,rfl⟩:=h6;try simp only [cA]
 refine bS tQ ?_;refine bQ (pend':=[⟨12,[1],[]⟩,⟨10,[12],[(_,_)]⟩,⟨9,[1],[]⟩,⟨6,[1],[]⟩,⟨3,[1],[]⟩,⟨0,[1],[]⟩]) [10] Z Z Z Z Z (zgX hT (yy eyeC 2 (fun _=>rfl) b.eyes) (zaC eyeC (fun _=>rfl) _) oQ) (fun r7 K8 h9=>⟨?_,?_⟩)
 ·rcases h9 with ⟨j3,rfl,rfl⟩
  all_goals simp
 obtain ⟨j3,rfl,rfl⟩:=h9;try simp only [cA]
 refine bS tQ ?_;refine bQ (pend':=[⟨12,[1],[]⟩,⟨9,[1],[]⟩,⟨6,[1],[]⟩,⟨3,[1],[]⟩,⟨0,[1],[]⟩]) [13] Z Z Z Z Z (zg1 hT (yy watC 3 (fun _=>rfl) b.watches) (zaC watC (fun _=>rfl) _) oQ) (fun r10 K11 h12=>⟨?_,?_⟩)
 ·rcases h12 with ⟨j4,rfl,rfl⟩
  all_goals simp
 obtain ⟨j4,rfl,rfl⟩:=h12;try simp only [cA]
 refine bS tQ ?_;refine bR (pend':=[]) [5,15] Z Z (zM Z Z ze.h Z Z mQ Z) ?_;refine ad [[3,1]] ?_;refine bR (pend':=[]) [8,16] Z Z (zM Z Z ze.h Z Z mQ Z) ?_;refine ad [[3,1]] ?_;refine bR (pend':=[]) [11,17] Z Z (zM Z Z ze.h Z Z mQ Z) ?_;refine ad [[3,1]] ?_;refine bR (pend':=[]) [14,18] Z Z (zM Z Z ze.h Z Z mQ Z) ?_;refine ad [[14]] ?_;refine au 317068042 ?_;refine bB hret [(c,_),(s,_),(e,_),(w,_),(j1,_),(j2,_),(j3,_),(j4,_)] ?_;exact ⟨j1,j2,j3,j4,rfl,rfl⟩
theorem zfQ {main:Bool} {T:Goroutine->Hp->Prop} (hT:zn tp main T)  {b:SlB} {c s e w:Nat} (hb:SlBase b) (hcl:b.clean.length<=1000) (hw:SlWat b) (hne:zz b≠[]) :
  zq tp T gmR 46 [.agg (slC b c s e w)] [(1,yq),(c,clO b),(s,suO b),(e,eyO b),(w,waO b)] (fun r K'=>r=.tup [.agg (slC b c s e w),intA 0]/\K'=[(1,yq),(c,clO b),(s,suO b),(e,eyO b),(w,waO b)]):=by
 refine zm 17 hT Tryz.func46 fun Y hret=>?_;refine au 21042 ?_;intro jb hjb;refine au 220 ?_;intro jr hjr;refine au 68042235 ?_;refine TK.clE Z Z Z Z (u5 hT hb hcl) ?_;refine au 0 ?_;rw [za0 hw];refine au 93714235 ?_;constructor<;>intro hc0
 ·exact absurd hc0 dQ
 refine au 680422120 ?_;refine bH Z (yi (l:=[_,_,_,_,_,_,_,_,_,_,_,_,_]) Z TyZ.h BlOf.h Z) ?_;refine TK.clE Z Z Z Z (zi0 hT hb hw hcl) ?_;refine au 0 ?_;rw [show (skiesM b).any (allRight b)=true by rw [zhB]; exact hne];refine au 93300 ?_;constructor<;>intro hc1
 ·exact absurd hc1 dQ
 refine au 3517068042120 ?_;refine bB hret [(1,_),(c,_),(s,_),(e,_),(w,_)] ?_;exact ⟨rfl,rfl⟩
theorem u7 {main:Bool} {T:Goroutine->Hp->Prop} (hT:zn tp main T)  {b:SlB} {c s e w:Nat} {x:WatR} (hb:SlBase b) (hw:SlWat b) (hcl:b.clean.length<=1000) (hw2:SlWat (ya b x)) (hne2:zz (ya b x)≠[]) :
  zq tp T gmR 9 [.agg (slC b c s e w),.agg (watC x)] [(1,yq),(c,clO b),(s,suO b),(e,eyO b),(w,waO b)] (fun r K'=>∃ c2 s2 e2 w2,r=.tup [.agg (slC (ya b x) c2 s2 e2 w2),intA 0]/\K'=[(1,yq),(c,clO b),(s,suO b),(e,eyO b),(w,waO b),(c2,clO (ya b x)),(s2,suO (ya b x)),(e2,eyO (ya b x)),(w2,waO (ya b x))]):=by
 refine zm 26 hT Tryz.func9 fun Y hret=>?_;refine au 0 ?_;have hwl:=hw.len;refine au 21042 ?_;intro jb hjb;refine au 210 ?_;intro jx hjx;refine au 220 ?_;intro jr hjr;refine au 68042235 ?_;refine TK.clE Z Z Z Z (u5 hT hb hcl) ?_;refine au 0 ?_;rw [za0 hw];refine au 93714235 ?_;constructor<;>intro hc0
 ·exact absurd hc0 dQ
 refine au 68042120 ?_;refine bD Z Z Z Z (zkM hT hb hcl oQ) ?_;rintro r4 K5 ⟨j1,j2,j3,j4,rfl,rfl⟩;refine au 220 ?_;intro jo hjo;refine au 23170 ?_;refine bC [(jo,.cells [intA b.steps,intA b.dirty,intA b.slope,intA b.lo,intA b.hi,.row j1 b.clean.length,intA b.rf,intA b.rh,intA b.cf,intA b.ch,.row j2 b.suns.length,.row j3 b.eyes.length,.row j4 b.watches.length] 36 true),(j1,_),(j2,_),(j3,_),(j4,_),(1,_),(jx,_),(jr,_),(c,_),(s,_),(e,_),(w,_)] ?_;refine au 6806906704 ?_;refine bI Z Z Z (zp (l:=[_,_,_]) Z zE.h TyZ.h dQ dQ Z) (fun _=>zr rfl tQ) fun j7 hj7=>?_;refine bO Z Z Z (a_app Z ApOf.h Z mQ (yy watC 3 (fun _=>rfl) _) rfl (yg (ln:=[_,_,_]) mQ dQ sQ rfl) oQ rfl (by unfold maxLen; omega) oQ) (fun _=>uQ) (fun _=>zr rfl tQ) fun j5=>?_;refine au 23170670 ?_;refine bC [(jo,.cells [intA b.steps,intA b.dirty,intA b.slope,intA b.lo,intA b.hi,.row j1 b.clean.length,intA b.rf,intA b.rh,intA b.cf,intA b.ch,.row j2 b.suns.length,.row j3 b.eyes.length,.row j5 (b.watches.length+1)] 36 true),(j5,.row (b.watches.flatMap watC++[intA x.hour,intA x.step,zw x.lit]) 50 3),(j1,_),(j2,_),(j3,_),(1,_),(jr,_),(c,_),(s,_),(e,_),(w,_)] ?_;refine TK.unrowAt (c:=jo) (i:=5) (j:=j1) Z mQ uQ ?_;refine bY (j:=j1) ?_;refine TK.unrowAt (c:=jo) (i:=10) (j:=j2) Z mQ uQ ?_;refine bY (j:=j2) ?_;refine TK.unrowAt (c:=jo) (i:=11) (j:=j3) Z mQ uQ ?_;refine bY (j:=j3) ?_;refine TK.unrowAt (c:=jo) (i:=12) (j:=j5) Z mQ uQ ?_;refine bY (j:=j5) ?_;refine bC [(jo,.cells [intA b.steps,intA b.dirty,intA b.slope,intA b.lo,intA b.hi,.sl j1 0 b.clean.length,intA b.rf,intA b.rh,intA b.cf,intA b.ch,.sl j2 0 b.suns.length,.sl j3 0 b.eyes.length,.sl j5 0 (b.watches.length+1)] 36 true),(j5,.cells (b.watches.flatMap watC++[intA x.hour,intA x.step,zw x.lit]) 50 false),(j1,_),(j2,_),(j3,_),(1,_),(jr,_),(c,_),(s,_),(e,_),(w,_)] ?_;rw [show b.watches.length+1=(ya b x).watches.length by simp [ya],show b.watches.flatMap watC++[intA x.hour,intA x.step,zw x.lit]=(ya b x).watches.flatMap watC by simp [ya,watC]];refine bC [(jo,.cells (slC (ya b x) j1 j2 j3 j5) 36 true),(j5,waO (ya b x)),(j1,clO (ya b x)),(j2,suO (ya b x)),(j3,eyO (ya b x)),(1,yq),(jr,_),(c,_),(s,_),(e,_),(w,_)] ?_;refine au 6804 ?_;refine TK.clE Z Z Z Z (zfQ hT (zag hb x) hcl hw2 hne2) ?_;refine au 3517066 ?_;refine bB hret [(1,_),(c,_),(s,_),(e,_),(w,_),(j1,_),(j2,_),(j3,_),(j5,_)] ?_;exact ⟨_,_,_,_,rfl,rfl⟩
theorem TK.shareX {P:Program} {gm:Nat->Option Nat} {T:Goroutine->Hp->Prop} {Y:KX P gm T} {ds:List Nat} {k k':List Item} {env:List AV} {K:KV} {X:Type} {D:X->Prop} {E:X->List AV} {KK:X->KV} (main:(∀ x,D x->TK Y ds k' (E x) (KK x))->TK Y ds k env K) (tail:∀ x,D x->TK Y ds k' (E x) (KK x)):TK Y ds k env K:=main tail
section
variable {P:Program} {gm:Nat->Option Nat} {T:Goroutine->Hp->Prop} {Y:KX P gm T} {ds:List Nat} {kk:List Item} {env env':List AV} {K:KV} {ops:Array Oper} {i:Nat} {o:Oper} {pend pend':List Pd} {L':List Nat} {r:AV}
theorem exK_q {s:List Nat} (hd:yc o.op=false) (hq:Qk P gm (onl s env) K o r) (he:zP env o.dst r=env') (hv:∀ p∈pend',∀ x∈p.V,x∈K) (h:TD Y ds ops kk pend' L' env' K):ExK Y (onl s env) K o fun r K'=>(∀ p∈pend',∀ x∈p.V,x∈K')/\TD Y ds ops kk pend' L' (zP env o.dst r) K' :=
 wi hd fun A hv' hn=>⟨r,A,K,hq A hv',.same hv' hn,hv,by rw [he]; exact h⟩
theorem TD.entN (hP:KeyP P) {x y:Operand} {j:Nat} {k:Int×Int} {ob:Obj} {L:List (Int×Int)} {K':Obj->KV} {envf:Nat->List AV} (s:List Nat) (ho:ops[i]? =some o) (hop:o.op=.mapEntry 109 x y) (hd:yc o.op=false) (hw:zQ ops (onl s env) o=some true) (hp':pendOf ops i pend=pend') (hc:chkC ops pend' L' s i o.dst=true) (hx:zo gm (onl s env) x=some (.map j)) (hy:zo gm (onl s env) y=some (.agg (fcC k))) (hm:(j,.raw ob)∈K) (hf:MapN ob L) (hu:∀ ob',Upd K j (.raw ob) j (.raw ob') (K' ob')) (he:∀ born:Nat,zP env o.dst (.tup [intA (L.count k),intA born])=envf born) (hv:∀ ob',∀ p∈pend',∀ x∈p.V,x∈K' ob')
  (h:∀ ob' born,MapE ob' L k born->TD Y ds ops kk pend' L' (envf born) (K' ob')):TD Y ds ops kk pend (i::L') env K:=by
 obtain ⟨ob',born,h1,h2⟩:=ze1 hP hop hx hy hm hf;exact TD.cst s ho hd hw hp' hc h2 (hu ob') (he born) (hv ob') (h ob' born h1)
theorem zjH (hP:KeyP P) {x y:Operand} {j:Nat} {k:Int×Int} {ob:Obj} {L:List (Int×Int)} {K':Obj->KV} {envf:Nat->List AV} {s:List Nat} (hop:o.op=.mapEntry 109 x y) (hd:yc o.op=false) (hx:zo gm (onl s env) x=some (.map j)) (hy:zo gm (onl s env) y=some (.agg (fcC k))) (hm:(j,.raw ob)∈K) (hf:MapN ob L) (hu:∀ ob',Upd K j (.raw ob) j (.raw ob') (K' ob')) (he:∀ born:Nat,zP env o.dst (.tup [intA (L.count k),intA born])=envf born) (hv:∀ ob',∀ p∈pend',∀ x∈p.V,x∈K' ob')
  (h:∀ ob' born,MapE ob' L k born->TD Y ds ops kk pend' L' (envf born) (K' ob')):ExK Y (onl s env) K o fun r K'=>(∀ p∈pend',∀ x∈p.V,x∈K')/\TD Y ds ops kk pend' L' (zP env o.dst r) K':=by
 obtain ⟨ob',born,h1,h2⟩:=ze1 hP hop hx hy hm hf;exact zmB hd h2 (hu ob') (he born) (hv ob') (h ob' born h1)
theorem TD.putN {t:TypeId} {x y z:Operand} {j born:Nat} {k:Int×Int} {ob:Obj} {L:List (Int×Int)} {K':Obj->KV} (s:List Nat) (ho:ops[i]? =some o) (hop:o.op=.entryStore t x y z) (hd:yc o.op=false) (hdst:o.dst=none) (hw:zQ ops (onl s env) o=some true) (hp':pendOf ops i pend=pend') (hc:chkC ops pend' L' s i o.dst=true) (hx:zo gm (onl s env) x=some (.map j)) (hy:zo gm (onl s env) y=some (intA born)) (hz:zo gm (onl s env) z=some (intA (L.count k+1:Nat))) (hm:(j,.raw ob)∈K) (hf:MapE ob L k born) (hu:∀ ob',Upd K j (.raw ob) j (.raw ob') (K' ob')) (hv:∀ ob',∀ p∈pend',∀ x∈p.V,x∈K' ob')
  (h:∀ ob',MapN ob' (L++[k])->TD Y ds ops kk pend' L' env (K' ob')):TD Y ds ops kk pend (i::L') env K:=by
 obtain ⟨ob',h1,h2⟩:=zns hop hx hy hz hm hf;exact TD.cst s ho hd hw hp' hc h2 (hu ob') (by rw [hdst] <;> rfl) (hv ob') (h ob' h1)
end
theorem zgG {l:List SkyR} {i:Nat} {n:Int} {y:SkyR} {e:TypeId} {sz:Nat} (h:l[i]? =some y) (hn:n=(i:Int)):takeO (.row (l.flatMap skyC) e sz) (n.toNat*13) 13=some (skyC y):=by
 have h1:=ky (c:=13) (f:=skyC) (e:=e) (rw':=true) (fun _=>rfl) h hn dQ;simpa [takeO,AObj.look] using h1
theorem zjV {xs:List Int} {i:Nat} {n v:Int} {e:TypeId} {sz:Nat} (h:xs[i]? =some v) (hn:n=(i:Int)):takeO (.row (xs.map intA) e sz) (n.toNat*1) 1=some [intA v]:=by
 have hf:xs.map intA=xs.flatMap fun x=>[intA x]:=by
  clear h
  induction xs with
  | nil=>rfl
  | cons x xs ih=>rw [List.map_cons,List.flatMap_cons,ih] <;> rfl
 rw [hf];have h1:=ky (c:=1) (f:=fun x=>[intA x]) (e:=e) (rw':=true) (fun _=>rfl) h hn dQ;simpa [takeO,AObj.look] using h1
theorem zic (l:List Bool):(listM l).length<=12:=by
 unfold listM;rw [lJ];exact mT (List.length_filter_le _ _) sQ
theorem zcv {α:Type} {l:List α} {i:Nat} {y:α} (h:l[i]? =some y):l.take (i+1)=l.take i++[y]:=by rw [List.take_add_one,h] <;> rfl
theorem zhf {b:SlB} {y:SkyR} {h q:Nat} {v:Int} (hv:(listM (fallsM b y h))[q]? =some v):(keysH b y h).take (q+1)=(keysH b y h).take q++[((h:Int),v)]:=by
 refine zcv ?_;unfold keysH;rw [lQ,hv] <;> rfl
theorem zia (b:SlB) (y:SkyR) (h:Nat):(keysH b y h).take (listM (fallsM b y h)).length=keysH b y h:=by
 refine List.take_of_length_le ?_;unfold keysH;rw [lJ]; exact mL _
theorem zjY {b:SlB} (hb:SlBase b) {i h q:Nat} {y:SkyR} (hh:h<b.suns.length) (k:Int×Int):(keysS b ((zz b).take i)++(keysI b y h++(keysH b y h).take q)).count k<=1000000:=by
 refine mT (List.count_le_length ..) ?_;have h1:=zib hb ((zz b).take i);have h2:=zdn b y h;have h3:=zdm b y h;have h4:=zcX hb;have h5:=hb.nsu;rw [lF,lF,List.length_take];rw [List.length_take] at h1;have h6:min i (zz b).length<=3000:=by omega
 omega
theorem zfp {b:SlB} (hb:SlBase b) {y:SkyR} (h:y∈zz b):y.dirty.length=12 /\ -3<=y.shift/\y.shift<=3:=by
 have h1:=zfi hb (n:=(b.dirty+1).toNat) (s:=y) (List.mem_filter.1 h).1;have h2:=hb.sh;exact ⟨h1.1,oQ,oQ⟩
def wordI (n m:Int):Int:=if n=m then 1 else if n=0 then 2 else 0
def zKn:List AV:=[intA 0,intA 0,intA 0,intA 0,intA 0,.v (.slice none 0 0),intA 0,intA 0,intA 0,intA 0,.v (.slice none 0 0),.v (.slice none 0 0),.v (.slice none 0 0)]++[.v (.slice none 0 0),.v (.map none)]
instance:BlOf tp 111 [(0,13),(13,1),(14,1)]:={}
instance:BlOf tp 186 [(0,1),(1,1)]:={}
instance:zj tp 111 0 0 true 13:={}
instance:zj tp 111 1 13 false 1:={}
instance:zj tp 111 2 14 false 1:={}
instance:ze tp 109 false 1:={}
instance:ze tp 111 true 15:={}
instance:TyZ tp 111 [.int .i64 0,.int .i64 0,.int .i64 0,.int .i64 0,.int .i64 0,.slice none 0 0,.int .i64 0,.int .i64 0,.int .i64 0,.int .i64 0,.slice none 0 0,.slice none 0 0,.slice none 0 0,.slice none 0 0,.map none]:={}
instance:TyZ tp 186 [.int .i64 0,.int .i64 0]:={}
instance:TyZA tp 111 [.v (.int .i64 0),.v (.int .i64 0),.v (.int .i64 0),.v (.int .i64 0),.v (.int .i64 0),.v (.slice none 0 0),.v (.int .i64 0),.v (.int .i64 0),.v (.int .i64 0),.v (.int .i64 0),.v (.slice none 0 0),.v (.slice none 0 0),.v (.slice none 0 0),.v (.slice none 0 0),.v (.map none)]:={}
instance:Und tp 108 (.slice 119):={}
theorem zfU {main T} (hT:zn tp main T) {gm} {b:SlB} {c s e w:Nat} {h:Int} {jh:Nat} (hl:0<=b.steps/\b.steps<=100) :
  zq tp T gm 48 [.agg (slC b c s e w),.ptr jh 0] [(jh,.cells [intA h] 3 true)] (fun r K'=>r=zw (decide (0<=h)&&decide (h<=b.steps - 1))/\K'=[(jh,.cells [intA h] 3 true)]):=by
 refine zm 7 hT Tryz.func48 fun Y hret=>?_;refine au 21042 ?_;intro jb hjb;refine au 6906804235 ?_;refine TK.clE Z Z Z Z (vm hT hl) ?_;refine au 35 ?_;refine bB hret [(jh,_)] ?_;exact ⟨rfl,rfl⟩
theorem zkL {main:Bool} {T:Goroutine->Hp->Prop} (hT:zn tp main T)  {b:SlB} {c s e w:Nat} {h:Int} {jh:Nat} (hb:SlBase b) (hw:SlWat b) (hcl:b.clean.length<=1000) (hh:0<=h/\h<b.steps) (hne:zz b≠[]) :
  zq tp T gmR 47 [.agg (slC b c s e w),.fn 48 [] [.ptr jh 0]] [(1,yq),(c,clO b),(s,suO b),(e,eyO b),(w,waO b),(jh,.cells [intA h] 3 true)] (fun r K'=>∃ ja jm ob,r=.tup [.agg (slC b c s e w++[.row ja (zz b).length,.map jm]),intA 0]/\MapN ob (keysS b (zz b))/\K'=[(jm,.raw ob),(ja,.row ((zz b).flatMap skyC) 119 13),(1,yq),(c,clO b),(s,suO b),(e,eyO b),(w,waO b),(jh,.cells [intA h] 3 true)]):=by
 refine zm 75 hT Tryz.func47 fun Y hret=>?_;refine au 0 ?_;have hnsu:=hb.nsu;have hst:=hb.st;have hsl:=zcX hb;refine au 21042 ?_;intro jb hjb;refine au 220 ?_;intro jr hjr;refine au 68042235 ?_;refine TK.clE Z Z Z Z (u5 hT hb hcl) ?_;refine au 0 ?_;rw [za0 hw];refine au 93714235 ?_;constructor<;>intro hc0
 ·exact absurd hc0 dQ
 refine au 68042120 ?_;refine bH Z (yi (l:=[_,_,_,_,_,_,_,_,_,_,_,_,_]) Z TyZ.h BlOf.h Z) ?_;refine TK.newM Z Z Z (zaG Z) (fun _=>zr rfl tQ) fun jm hjm=>?_;refine bH Z (yi (l:=[_,_,_,_,_,_,_,_,_,_,_,_,_,_,_]) Z TyZ.h BlOf.h Z) ?_;refine au 220 ?_;intro jk hjk;refine au 68067014223170 ?_;refine TK.clE Z Z Z Z (zfU hT (h:=h) oQ) ?_;refine au 93300 ?_;constructor<;>intro hc1
 ·simp at hc1; omega
 refine au 680670422120 ?_;refine bD Z Z Z Z (zfY hT hb hw hcl) ?_;rintro r7 K8 ⟨ja,rfl,rfl⟩;refine au 937280690670423170670 ?_;constructor<;>intro hc2
 ·exact absurd (lK (by simp at hc2; simpa using hc2)) hne
 refine au 22120 ?_;refine bC [(jk,.cells (slC b c s e w++[.row ja (zz b).length,.map jm]) 111 true),(jm,.raw (.map #[] 0)),(ja,.row ((zz b).flatMap skyC) 119 13),(jb,.cells (slC b c s e w) 36 true),(jr,.cells zKn 111 true),(1,yq),(c,clO b),(s,suO b),(e,eyO b),(w,waO b),(jh,.cells [intA h] 3 true)] ?_;refine au 130312806906704 ?_;refine bA [2,4,7,39,40,41] ?_;refine bE (fun n env K=>∃ (i:Nat) (ob:Obj),n=(zz b).length - i/\i<=(zz b).length/\MapN ob (keysS b ((zz b).take i))/\env=naL 2 (.ptr jb 0::.any::.ptr jr 0::naL 2 (.ptr jk 0::naL 31 (.row ja (zz b).length::intA (zz b).length::intA i::naL 33 [])))/\K=[(jk,.cells (slC b c s e w++[.row ja (zz b).length,.map jm]) 111 true),(jm,.raw ob),(ja,.row ((zz b).flatMap skyC) 119 13),(jb,.cells (slC b c s e w) 36 true),(jr,.cells zKn 111 true),(1,yq),(c,clO b),(s,suO b),(e,eyO b),(w,waO b),(jh,.cells [intA h] 3 true)]) (zz b).length ⟨0,_,rfl,mN _,zj3,rfl,rfl⟩ fun n env K hI hnext=>?_;obtain ⟨i,ob,rfl,hi,hob,rfl,rfl⟩:=hI;refine bG nQ ?_;refine au 923742 ?_;constructor<;>intro hc3
 ·have hil:i<(zz b).length:=by simp at hc3; omega
  obtain ⟨y,hyq⟩:∃ y,(zz b)[i]? =some y:=⟨_,lA hil⟩;have hy:=zfp hb (lN hyq);refine au 370421302120 ?_;refine bH Z (zK Z Z ze.h mQ (zgG hyq Z)) ?_;refine au 220 ?_;intro jt hjt;refine au 13031280690670423170 ?_;refine bA [2,4,7,9,39,40,41,47,48] ?_;refine bC [(jt,_),(jk,_),(jm,_),(ja,_),(jb,_),(jr,_),(1,_),(c,_),(s,_),(e,_),(w,_),(jh,_)] ?_;refine bE (fun n env K=>∃ (h1:Nat) (ob:Obj),n=b.suns.length - h1/\h1<=b.suns.length/\MapN ob (keysS b ((zz b).take i)++keysI b y h1)/\env=naL 2 (.ptr jb 0::.any::.ptr jr 0::naL 2 (.ptr jk 0::.any::.ptr jt 0::naL 29 (.row ja (zz b).length::intA (zz b).length::intA i::naL 5 (intA b.suns.length::intA h1::naL 26 []))))/\K=[(jt,.cells (skyC y) 119 true),(jk,.cells (slC b c s e w++[.row ja (zz b).length,.map jm]) 111 true),(jm,.raw ob),(ja,.row ((zz b).flatMap skyC) 119 13),(jb,.cells (slC b c s e w) 36 true),(jr,.cells zKn 111 true),(1,yq),(c,clO b),(s,suO b),(e,eyO b),(w,waO b),(jh,.cells [intA h] 3 true)]) b.suns.length ⟨0,ob,rfl,mN _,by rw [show keysI b y 0=[] from rfl,lR]; exact hob,rfl,rfl⟩ fun n env K hI hnext1=>?_;obtain ⟨h1,ob,rfl,hh1,hob,rfl,rfl⟩:=hI;refine bG nQ ?_;refine au 923742 ?_;constructor<;>intro hc4
  ·have hhl:h1<b.suns.length:=by simp at hc4; omega
   refine au 168068067042351421302120 ?_;refine TK.clE Z Z Z Z (u6 hT hb hy (h:=(h1:Int)) oQ) ?_;refine au 0 ?_;refine bD Z Z Z Z (ziZ hT) ?_;rintro r13 K14 ⟨jl,rfl,rfl⟩;refine au 13031280 ?_;refine bA [2,4,7,9,10,39,40,41,47,48,56,57,58] ?_;refine bC [(jl,_),(jt,_),(jk,_),(jm,_),(ja,_),(jb,_),(jr,_),(1,_),(c,_),(s,_),(e,_),(w,_),(jh,_)] ?_;refine bE (fun n env K=>∃ (q:Nat) (ob:Obj),n=(listM (fallsM b y h1)).length - q/\q<=(listM (fallsM b y h1)).length/\MapN ob (keysS b ((zz b).take i)++(keysI b y h1++(keysH b y h1).take q))/\env=naL 2 (.ptr jb 0::.any::.ptr jr 0::naL 2 (.ptr jk 0::.any::.ptr jt 0::intA h1::naL 28 (.row ja (zz b).length::intA (zz b).length::intA i::naL 5 (intA b.suns.length::intA h1::naL 7 (.row jl (listM (fallsM b y h1)).length::intA (listM (fallsM b y h1)).length::intA q::naL 16 [])))))/\K=[(jl,.row ((listM (fallsM b y h1)).map intA) 3 1),(jt,.cells (skyC y) 119 true),(jk,.cells (slC b c s e w++[.row ja (zz b).length,.map jm]) 111 true),(jm,.raw ob),(ja,.row ((zz b).flatMap skyC) 119 13),(jb,.cells (slC b c s e w) 36 true),(jr,.cells zKn 111 true),(1,yq),(c,clO b),(s,suO b),(e,eyO b),(w,waO b),(jh,.cells [intA h] 3 true)]) (listM (fallsM b y h1)).length ⟨0,ob,rfl,mN _,by rw [List.take_zero,lR]; exact hob,rfl,rfl⟩ fun n env K hI hnext2=>?_;obtain ⟨q,ob,rfl,hq,hob,rfl,rfl⟩:=hI;refine bG nQ ?_;refine au 923742 ?_;constructor<;>intro hc5
   ·have hlm:=zic (fallsM b y h1);have hql:q<(listM (fallsM b y h1)).length:=by simp at hc5; omega
    obtain ⟨v,hvq⟩:∃ v,(listM (fallsM b y h1))[q]? =some v:=⟨_,lA hql⟩;have hcn:=zjY hb (i:=i) (q:=q) (y:=y) hhl ((h1:Int),v);refine au 370421302120 ?_;refine bH Z (zk Z Z ze.h mQ (zjV hvq Z)) ?_;refine au 35 ?_;refine' TK.shareX (X:=Obj) (D:=fun x=>MapN x ((keysS b ((zz b).take i)++(keysI b y h1++(keysH b y h1).take q))++[((h1:Int),v)])) (E:=fun _=>naL 2 (.ptr jb 0::.any::.ptr jr 0::naL 2 (.ptr jk 0::.any::.ptr jt 0::intA h1::naL 28 (.row ja (zz b).length::intA (zz b).length::intA i::naL 5 (intA b.suns.length::intA h1::naL 7 (.row jl (listM (fallsM b y h1)).length::intA (listM (fallsM b y h1)).length::intA q::naL 16 [])))))) (KK:=fun x=>[(jl,.row ((listM (fallsM b y h1)).map intA) 3 1),(jt,.cells (skyC y) 119 true),(jk,.cells (slC b c s e w++[.row ja (zz b).length,.map jm]) 111 true),(jm,.raw x),(ja,.row ((zz b).flatMap skyC) 119 13),(jb,.cells (slC b c s e w) 36 true),(jr,.cells zKn 111 true),(1,yq),(c,clO b),(s,suO b),(e,eyO b),(w,waO b),(jh,.cells [intA h] 3 true)]) (fun H=>?_) ?_;rotate_left
    ·refine bL [0,1,2,3,4,5,6,7,8,9] ?_;refine ad [[3,7],[10,62],[1,10],[1,12]] ?_;refine bU [64,65] Z (yi (l:=[_,_]) Z TyZ.h BlOf.h Z) ?_;refine TD.c2 (i1:=5) (i2:=7) (pend1:=[⟨3,[12],[]⟩,⟨2,[10],[]⟩,⟨0,[7],[]⟩]) (pend2:=[]) (L1:=[6,7,8,9]) (L2:=[5,6,8,9]) [63,66] [63,66] Z Z Z Z Z Z Z ?_ ?_
     ·refine exK_q Z (zgx keyP (k:=((h1:Int),v)) Z Z Z mQ hob) (zr Z (by simp only [List.set] <;> rfl)) sQ ?_;refine ad [[8,67]] ?_;refine TD.entN keyP (k:=((h1:Int),v)) (pend':=[⟨6,[67],[]⟩]) [63,66] Z Z Z Z Z Z Z Z mQ hob (fun _=>uQ) (fun _=>(zr Z (by simp only [List.set] <;> rfl))) (fun _=>by simp) fun ob2 born he2=>?_;refine ad [[5,69]] ?_;refine TD.putN (k:=((h1:Int),v)) (pend':=[]) [63,68,70] Z Z Z Z Z Z Z Z Z Z mQ he2 (fun _=>uQ) (fun _=>by simp) fun ob3 hob3=>?_;refine ad [[14]] ?_;refine bA [2,4,7,9,10,39,40,41,47,48,56,57,58] ?_;refine bC [(jl,_),(jt,_),(jk,_),(jm,_),(ja,_),(jb,_),(jr,_),(1,_),(c,_),(s,_),(e,_),(w,_),(jh,_)] ?_;exact H ob3 hob3
     ·refine zjH keyP (k:=((h1:Int),v)) Z Z Z Z mQ hob (fun _=>uQ) (fun _=>(zr Z (by simp only [List.set] <;> rfl))) (fun _=>by simp) fun ob2 born he2=>?_;refine TD.y [63,66] Z (hq:=zgx keyP (k:=((h1:Int),v)) Z Z Z (List.Mem.head _) (zmN he2)) (h:=?_);refine ad [[8,67],[5,69]] ?_;refine TD.putN (k:=((h1:Int),v)) (pend':=[]) [63,68,70] Z Z Z Z Z Z Z Z Z Z mQ he2 (fun _=>uQ) (fun _=>by simp) fun ob3 hob3=>?_;refine ad [[14]] ?_;refine bA [2,4,7,9,10,39,40,41,47,48,56,57,58] ?_;refine bC [(jl,_),(jt,_),(jk,_),(jm,_),(ja,_),(jb,_),(jr,_),(1,_),(c,_),(s,_),(e,_),(w,_),(jh,_)] ?_;exact H ob3 hob3
    ·intro ob3 hob3;refine bG nQ ?_;(try dsimp only);refine au 312304140 ?_;refine bA [2,4,7,9,10,39,40,41,47,48,56,57,58] ?_;refine bC [(jl,_),(jt,_),(jk,_),(jm,_),(ja,_),(jb,_),(jr,_),(1,_),(c,_),(s,_),(e,_),(w,_),(jh,_)] ?_;exact hnext2 _ _ _ oQ ⟨q+1,ob3,rfl,oQ,by rw [zhf hvq,<- List.append_assoc (keysI b y h1),<- List.append_assoc]; exact hob3,rfl,rfl⟩
   obtain rfl:q=(listM (fallsM b y h1)).length:=by simp at hc5; omega
   rw [zia] at hob;refine au 312304140160 ?_;refine bA [2,4,7,9,39,40,41,47,48] ?_;refine bC [(jt,_),(jk,_),(jm,_),(ja,_),(jb,_),(jr,_),(1,_),(c,_),(s,_),(e,_),(w,_),(jh,_)] ?_;exact hnext1 _ _ _ oQ ⟨h1+1,ob,rfl,oQ,by rw [zlw]; exact hob,rfl,rfl⟩
  obtain rfl:h1=b.suns.length:=by simp at hc4; omega
  refine au 312304140160 ?_;refine bA [2,4,7,39,40,41] ?_;refine bC [(jk,_),(jm,_),(ja,_),(jb,_),(jr,_),(1,_),(c,_),(s,_),(e,_),(w,_),(jh,_)] ?_;exact hnext _ _ _ oQ ⟨i+1,ob,rfl,oQ,by rw [zcv hyq,zlx]; exact hob,rfl,rfl⟩
 obtain rfl:i=(zz b).length:=by simp at hc3; omega
 rw [lW] at hob;refine au 3517068042160 ?_;refine bB hret [(jm,_),(ja,_),(1,_),(c,_),(s,_),(e,_),(w,_),(jh,_)] ?_;exact ⟨ja,jm,ob,rfl,hob,rfl⟩
theorem lo_S {b:SlB} {n:Int} {i:Nat} {y:SkyR} (h:(zz b)[i]? =some y):loH b n ((zz b).take (i+1))=min (loH b n ((zz b).take i)) (hrsM b y n):=by
 unfold loH;rw [zcv h,List.foldl_append] <;> rfl
theorem hi_S {b:SlB} {n:Int} {i:Nat} {y:SkyR} (h:(zz b)[i]? =some y):hiH b n ((zz b).take (i+1))=max (hiH b n ((zz b).take i)) (hrsM b y n):=by
 unfold hiH;rw [zcv h,List.foldl_append] <;> rfl
theorem hrs_T {b:SlB} {y:SkyR} {n:Int} {k:Nat} (h:(fallsM b y k).getD n.toNat false=true):hrsI b y n (k+1)=hrsI b y n k+1:=by
 show hrsI b y n k+(if (fallsM b y k).getD n.toNat false=true then 1 else 0)=_;rw [if_pos h]
theorem hrs_F {b:SlB} {y:SkyR} {n:Int} {k:Nat} (h:(fallsM b y k).getD n.toNat false=false):hrsI b y n (k+1)=hrsI b y n k:=by
 show hrsI b y n k+(if (fallsM b y k).getD n.toNat false=true then 1 else 0)=_;rw [if_neg (by rw [h]; decide)];rfl
theorem vC {main:Bool} {T:Goroutine->Hp->Prop} (hT:zn tp main T)  {b:SlB} {c s e w:Nat} {n:Int} (hb:SlBase b) (hw:SlWat b) (hcl:b.clean.length<=1000) (hn:0<=n/\n<b.steps) (hne:zz b≠[]) :
  zq tp T gmR 11 [.agg (slC b c s e w),intA n] [(1,yq),(c,clO b),(s,suO b),(e,eyO b),(w,waO b)] (fun r K'=>r=.tup [.agg [intA (loH b n (zz b)),intA (hiH b n (zz b))],intA 0]/\K'=[(1,yq),(c,clO b),(s,suO b),(e,eyO b),(w,waO b)]):=by
 refine zm 61 hT Tryz.func11 fun Y hret=>?_;refine au 0 ?_;have hnsu:=hb.nsu;have hst:=hb.st;have hsl:=zcX hb;refine au 21042 ?_;intro jb hjb;refine au 210 ?_;intro jh hjh;refine au 220 ?_;intro jr hjr;refine au 3206804235 ?_;refine bD Z Z Z Z (zkL hT hb hw hcl hn hne) ?_;rintro r1 K2 ⟨ja,jm,ob,rfl,hob,rfl⟩;refine au 220661 ?_;intro jk hjk;refine au 937142235170 ?_;constructor<;>intro hc0
 ·exact absurd hc0 dQ
 refine au 22039028069067042120 ?_;intro jo hjo;refine au 130312806906704223170 ?_;refine bA [2,3,4,6,8,28,29,30] ?_;refine bC [(jo,_),(jk,_),(jm,_),(ja,_),(jb,_),(jr,_),(1,_),(c,_),(s,_),(e,_),(w,_),(jh,_)] ?_;refine bE (fun m env K=>∃ (i:Nat),m=(zz b).length - i/\i<=(zz b).length/\env=naL 2 (.ptr jb 0::.ptr jh 0::.ptr jr 0::.any::.ptr jk 0::.any::.ptr jo 0::naL 19 (.row ja (zz b).length::intA (zz b).length::intA i::naL 30 []))/\K=[(jo,.cells [intA (loH b n ((zz b).take i)),intA (hiH b n ((zz b).take i))] 28 true),(jk,.cells (slC b c s e w++[.row ja (zz b).length,.map jm]) 111 true),(jm,.raw ob),(ja,.row ((zz b).flatMap skyC) 119 13),(jb,.cells (slC b c s e w) 36 true),(jr,.cells [intA 0,intA 0] 28 true),(1,yq),(c,clO b),(s,suO b),(e,eyO b),(w,waO b),(jh,.cells [intA n] 3 true)]) (zz b).length ⟨0,rfl,mN _,rfl,rfl⟩ fun m env K hI hnext=>?_;obtain ⟨i,rfl,hi,rfl,rfl⟩:=hI;refine bG nQ ?_;refine au 923742 ?_;constructor<;>intro hc1
 ·have hil:i<(zz b).length:=by simp at hc1; omega
  obtain ⟨y,hyq⟩:∃ y,(zz b)[i]? =some y:=⟨_,lA hil⟩;have hy:=zfp hb (lN hyq);refine au 370421302120 ?_;refine bH Z (zK Z Z ze.h mQ (zgG hyq Z)) ?_;refine au 220 ?_;intro jt hjt;refine au 1303128069067042235423170 ?_;refine bA [2,3,4,6,8,10,11,28,29,30,36,37] ?_;refine bC [(jt,_),(jo,_),(jk,_),(jm,_),(ja,_),(jb,_),(jr,_),(1,_),(c,_),(s,_),(e,_),(w,_),(jh,_)] ?_;refine bE (fun m env K=>∃ (h1:Nat),m=b.suns.length - h1/\h1<=b.suns.length/\env=naL 2 (.ptr jb 0::.ptr jh 0::.ptr jr 0::.any::.ptr jk 0::.any::.ptr jo 0::.any::.ptr jt 0::intA (hrsI b y n h1)::naL 16 (.row ja (zz b).length::intA (zz b).length::intA i::naL 5 (intA b.suns.length::intA h1::naL 23 [])))/\K=[(jt,.cells (skyC y) 119 true),(jo,.cells [intA (loH b n ((zz b).take i)),intA (hiH b n ((zz b).take i))] 28 true),(jk,.cells (slC b c s e w++[.row ja (zz b).length,.map jm]) 111 true),(jm,.raw ob),(ja,.row ((zz b).flatMap skyC) 119 13),(jb,.cells (slC b c s e w) 36 true),(jr,.cells [intA 0,intA 0] 28 true),(1,yq),(c,clO b),(s,suO b),(e,eyO b),(w,waO b),(jh,.cells [intA n] 3 true)]) b.suns.length ⟨0,rfl,mN _,rfl,rfl⟩ fun m env K hI hnext1=>?_;obtain ⟨h1,rfl,hh1,rfl,rfl⟩:=hI;have hhr:=zgj b y n h1;refine bG nQ ?_;refine au 923742 ?_;constructor<;>intro hc2
  ·have hhl:h1<b.suns.length:=by simp at hc2; omega
   refine au 2351421302120 ?_;refine TK.dr [0,1,2,3,5,4,6] [0,1,2,3,4,5,6] ?_;refine ad [[3,6],[12,40],[12,10],[1,12],[10,3]] ?_;refine bQ (pend':=[⟨5,[3],[(_,_)]⟩,⟨0,[6],[]⟩]) [41,42,43] Z Z Z Z Z (u6 hT hb hy (h:=(h1:Int)) oQ) (fun r4 K5 h6=>⟨?_,?_⟩)
   ·rcases h6 with ⟨rfl,rfl⟩
    all_goals simp
   obtain ⟨rfl,rfl⟩:=h6;try simp only [cA]
   refine bS tQ ?_;refine bU [44,45] Z (yW Z Z Z ArEl.h oQ oQ (uW (g:=false) oQ)) ?_;refine ad [[14]] ?_;refine au 9 ?_;constructor<;>intro hc3
   ·refine au 3123041403523014 ?_;refine bA [2,3,4,6,8,10,11,28,29,30,36,37] ?_;refine bC [(jt,_),(jo,_),(jk,_),(jm,_),(ja,_),(jb,_),(jr,_),(1,_),(c,_),(s,_),(e,_),(w,_),(jh,_)] ?_;exact hnext1 _ _ _ oQ ⟨h1+1,rfl,oQ,by rw [hrs_T hc3] <;> rfl,rfl⟩
   refine au 312304140120 ?_;refine bA [2,3,4,6,8,10,11,28,29,30,36,37] ?_;refine bC [(jt,_),(jo,_),(jk,_),(jm,_),(ja,_),(jb,_),(jr,_),(1,_),(c,_),(s,_),(e,_),(w,_),(jh,_)] ?_;exact hnext1 _ _ _ oQ ⟨h1+1,rfl,oQ,by rw [hrs_F hc3] <;> rfl,rfl⟩
  obtain rfl:h1=b.suns.length:=by simp at hc2; omega
  refine au 16906704160 ?_;refine bH Z (zcm Z Z Z) ?_;refine au 1690670 ?_;refine bH Z (zcl Z Z Z) ?_;refine au 3123041403170390 ?_;refine bA [2,3,4,6,8,28,29,30] ?_;refine bC [(jo,_),(jk,_),(jm,_),(ja,_),(jb,_),(jr,_),(1,_),(c,_),(s,_),(e,_),(w,_),(jh,_)] ?_;exact hnext _ _ _ oQ ⟨i+1,rfl,oQ,rfl,by rw [lo_S hyq,hi_S hyq] <;> rfl⟩
 obtain rfl:i=(zz b).length:=by simp at hc1; omega
 refine au 3517068042160 ?_;refine bB hret [(1,_),(c,_),(s,_),(e,_),(w,_)] ?_;exact ⟨by rw [lW] <;> rfl,rfl⟩
def chL (ps:List (Fin 65536)):List Int:=ps.map fun x=>(x.1:Int)
theorem chM_L (ps:List (Fin 65536)) (k:Nat):chM (chL ps) k=choM ps k:=by
 unfold chM chL choM;rw [List.getD_eq_getElem?_getD,lQ];cases ps[k]? <;> rfl
theorem zeY (b:SlB) (ps:List (Fin 65536)):chosenM ⟨b.lo,b.hi⟩ (choM ps 0)=realS b (chL ps):=by unfold realS; rw [chM_L] <;> rfl
theorem zl4 {b:SlB} {ps:List (Fin 65536)} {i:Nat} (h1:choM ps (1+i) % 3=1) (h2:((realD b (chL ps) i).length:Int)<b.dirty) (h3:(i:Int)∉b.clean):realD b (chL ps) (i+1)=realD b (chL ps) i++[(i:Int)]:=by
 show (if _ then _ else _)=_;rw [if_pos ⟨by rw [chM_L]; exact h1,h2,by simpa using h3⟩]
theorem zcQ {b:SlB} {ps:List (Fin 65536)} {i:Nat} (h:¬ (choM ps (1+i) % 3=1/\((realD b (chL ps) i).length:Int)<b.dirty/\(i:Int)∉b.clean)):realD b (chL ps) (i+1)=realD b (chL ps) i:=by
 show (if _ then _ else _)=_;rw [if_neg fun hh=>h ⟨by rw [<- chM_L]; exact hh.1,hh.2.1,by simpa using hh.2.2⟩]
theorem tru_S {b:SlB} {sh:Int} {dl:List Int} {i:Nat} {x:WatR} (h:b.watches[i]? =some x):((b.watches.take (i+1)).map (truW b sh dl)).flatMap watC=((b.watches.take i).map (truW b sh dl)).flatMap watC++watC (truW b sh dl x):=by
 rw [yA h,lM,List.flatMap_append]; simp
instance:BlOf tp 42 [(0,1),(1,1)]:={}
instance:ze tp 42 true 2:={}
instance:TyZ tp 42 [.int .i64 0,.slice none 0 0]:={}
instance:TyZA tp 42 [.v (.int .i64 0),.v (.slice none 0 0)]:={}
theorem zku {main T} (hT:zn tp main T) {gm} {b:SlB} {c s e w:Nat} {j:Nat} {ps:List (Fin 65536)} (hb:SlBase b) (hcl:b.clean.length<=1000) :
  zq tp T gm 7 [.agg (slC b c s e w),.sl j 0 ps.length] [(c,clO b),(j,u16O ps)] (fun r K'=>∃ jd,r=.agg [intA (realS b (chL ps)),.sl jd 0 (realD b (chL ps) b.steps.toNat).length]/\K'=[(jd,.cells ((realD b (chL ps) b.steps.toNat).map intA) 3 false),(c,clO b),(j,u16O ps)]):=by
 refine zm 47 hT Tryz.func7 fun Y hret=>?_;refine au 0 ?_;have hst:=hb.st;have hsh:=hb.sh;have hch:=zf6 ps 0;refine au 21042 ?_;intro jb hjb;refine au 220 ?_;intro jr hjr;refine au 23 ?_;refine' TK.shareX (X:=Nat) (D:=fun _=>True) (E:=fun jz=>.any::.sl j 0 ps.length::.ptr jb 0::.any::.ptr jr 0::.ptr jz 0::naL 41 []) (KK:=fun jz=>[(jz,.cells [intA (realS b (chL ps)),.v (.slice none 0 0)] 42 true),(jr,.cells [intA 0,.v (.slice none 0 0)] 42 true),(jb,.cells (slC b c s e w) 36 true),(c,clO b),(j,u16O ps)]) (fun H=>?_) ?_;rotate_left
 ·refine bL [0,1,2,3,4,5,6,7] ?_;refine ad [[3,2],[12,7],[1,1]] ?_;refine TD.c2 (i1:=3) (i2:=6) (pend1:=[⟨1,[7],[(_,_)]⟩,⟨0,[2],[]⟩]) (pend2:=[⟨2,[1],[]⟩,⟨1,[7],[(_,_)]⟩,⟨0,[2],[]⟩]) (L1:=[4,5,6,7]) (L2:=[3,4,5,7]) [9] [] Z Z Z Z Z Z Z ?_ ?_
  ·refine kc Z Z Cal.h Z (zat hT (i:=0) oQ) (by repeat (first | exact Split.none _ | exact Split.all _ | (apply Split.rem; repeat (first | exact Rem.head | apply Rem.tail)) | apply Split.right)) fun r1 K2 h3=>⟨?_,?_⟩
   ·rcases h3 with ⟨rfl,rfl⟩
    all_goals simp
   obtain ⟨rfl,rfl⟩:=h3;try simp only [cA]
   refine bS (env':=[_,_,_,_,_,_,_,_,_,_,_,_,_,_,_,_,_,_,_,_,_,_,_,_,_,_,_,_,_,_,_,_,_,_,_,_,_,_,_,_,_,_,_,_,_,_,_]) Z ?_;refine TD.c2 (i1:=4) (i2:=6) (pend1:=[⟨0,[2],[]⟩]) (pend2:=[⟨1,[7],[(_,_)]⟩,⟨0,[2],[]⟩]) (L1:=[5,6,7]) (L2:=[4,5,7]) [8,10] [] Z Z Z Z Z Z Z ?_ ?_
   ·refine kc Z Z Cal.h Z (zau hT (x:=⟨b.lo,b.hi⟩) (by show -100<=b.lo/\b.lo<=b.hi/\b.hi<=100; omega) hch) (by repeat (first | exact Split.none _ | exact Split.all _ | (apply Split.rem; repeat (first | exact Rem.head | apply Rem.tail)) | apply Split.right)) fun r4 K5 h6=>⟨?_,?_⟩
    ·rcases h6 with ⟨rfl,rfl⟩
     all_goals simp
    obtain ⟨rfl,rfl⟩:=h6;try simp only [cA]
    refine bS (env':=[_,_,_,_,_,_,_,_,_,_,_,_,_,_,_,_,_,_,_,_,_,_,_,_,_,_,_,_,_,_,_,_,_,_,_,_,_,_,_,_,_,_,_,_,_,_,_]) Z ?_;refine bU [11] Z (yi (l:=[_,_]) Z TyZ.h BlOf.h Z) ?_;refine TD.cnewP (pend':=[⟨5,[11],[]⟩,⟨0,[2],[]⟩]) [] Z Z Z Z Z (yC Z TyZA.h) (fun _=>zr rfl tQ) sQ fun jz hjz=>?_;refine bR (pend':=[]) [5,12] Z Z (zM Z Z ze.h Z Z mQ Z) ?_;refine ad [[14]] ?_;rw [zeY];refine bA [1,2,4,5] ?_;refine bC [(jz,_),(jr,_),(jb,_),(c,_),(j,_)] ?_;exact H jz trivial
   ·refine kB Z (yC Z TyZA.h) (fun _=>zr rfl tQ) sQ fun jz hjz=>?_;refine bQ (pend':=[⟨0,[2],[]⟩]) [8,10] Z Z Z Z Z (zau hT (x:=⟨b.lo,b.hi⟩) (by show -100<=b.lo/\b.lo<=b.hi/\b.hi<=100; omega) hch) (fun r7 K8 h9=>⟨?_,?_⟩)
    ·rcases h9 with ⟨rfl,rfl⟩
     all_goals simp
    obtain ⟨rfl,rfl⟩:=h9;try simp only [cA]
    refine bS tQ ?_;refine bU [11] Z (yi (l:=[_,_]) Z TyZ.h BlOf.h Z) ?_;refine bR (pend':=[]) [5,12] Z Z (zM Z Z ze.h Z Z mQ Z) ?_;refine ad [[14]] ?_;rw [zeY];refine bA [1,2,4,5] ?_;refine bC [(jz,_),(jr,_),(jb,_),(c,_),(j,_)] ?_;exact H jz trivial
  ·refine kB Z (yC Z TyZA.h) (fun _=>zr rfl tQ) sQ fun jz hjz=>?_;refine bQ (pend':=[⟨1,[7],[(_,_)]⟩,⟨0,[2],[]⟩]) [9] Z Z Z Z Z (zat hT (i:=0) oQ) (fun r10 K11 h12=>⟨?_,?_⟩)
   ·rcases h12 with ⟨rfl,rfl⟩
    all_goals simp
   obtain ⟨rfl,rfl⟩:=h12;try simp only [cA]
   refine bS tQ ?_;refine bQ (pend':=[⟨0,[2],[]⟩]) [8,10] Z Z Z Z Z (zau hT (x:=⟨b.lo,b.hi⟩) (by show -100<=b.lo/\b.lo<=b.hi/\b.hi<=100; omega) hch) (fun r13 K14 h15=>⟨?_,?_⟩)
   ·rcases h15 with ⟨rfl,rfl⟩
    all_goals simp
   obtain ⟨rfl,rfl⟩:=h15;try simp only [cA]
   refine bS tQ ?_;refine bU [11] Z (yi (l:=[_,_]) Z TyZ.h BlOf.h Z) ?_;refine bR (pend':=[]) [5,12] Z Z (zM Z Z ze.h Z Z mQ Z) ?_;refine ad [[14]] ?_;rw [zeY];refine bA [1,2,4,5] ?_;refine bC [(jz,_),(jr,_),(jb,_),(c,_),(j,_)] ?_;exact H jz trivial
 ·intro jz _;refine bG nQ ?_;(try dsimp only);refine au 22 ?_;refine TK.virtAt (i:=1) (e:=3) (size:=1) Z (fun _=>uQ) fun jd0 hjd0=>?_;simp only [List.set];refine au 130354 ?_;refine bA [1,2,4,5,6] ?_;refine bC [(jz,_),(jd0,_),(jr,_),(jb,_),(c,_),(j,_)] ?_;refine bE (fun m env K=>∃ (i jd:Nat),m=b.steps.toNat - i/\i<=b.steps.toNat/\env=.any::.sl j 0 ps.length::.ptr jb 0::.any::.ptr jr 0::.ptr jz 0::intA i::naL 40 []/\K=[(jz,.cells [intA (realS b (chL ps)),.row jd (realD b (chL ps) i).length] 42 true),(jd,.row ((realD b (chL ps) i).map intA) 3 1),(jr,.cells [intA 0,.v (.slice none 0 0)] 42 true),(jb,.cells (slC b c s e w) 36 true),(c,clO b),(j,u16O ps)]) b.steps.toNat ⟨0,jd0,rfl,mN _,rfl,rfl⟩ fun m env K hI hnext=>?_;obtain ⟨i,jd,rfl,hi,rfl,rfl⟩:=hI;have hcb:=zf6 ps (1+i);have hrl:=(zbH hb.di.1 (chL ps) i).2.2;have hdi:=hb.di;refine bG nQ ?_;refine au 9376906701422 ?_;constructor<;>intro hc0
  ·have hil:(i:Int)<b.steps:=of_decide_eq_true hc0;refine au 23011421302120 ?_;refine TK.clE Z Z Z Z (zat hT (i:=1+i) oQ) ?_;refine au 0 ?_;refine bH Z (q_rem Z Z Z oQ oQ) ?_;refine au 17 ?_;refine TK.sp 25 (fun g5_7=>?_) (fun g5_7=>?_)
   ·refine au 12607690670280690670 ?_;refine TK.sp 33 (fun g5_15=>?_) (fun g5_15=>?_)
    ·refine au 1690670 ?_;refine TK.clE Z Z Z Z (zer hT (intsA b.clean 3 false) hcl) ?_;refine au 93260300 ?_;constructor<;>intro hc1
     ·refine au 16906704 ?_;refine bI Z Z Z (zp (l:=[_]) Z zE.h TyZ.h dQ dQ Z) (fun _=>zr rfl tQ) fun j22 hj22=>?_;refine bO Z Z Z (a_app Z ApOf.h Z mQ sQ Z (yg (ln:=[_]) mQ dQ sQ Z) oQ Z (by unfold maxLen; omega) oQ) (fun _=>uQ) (fun _=>zr rfl tQ) fun jd2=>?_;refine au 35230141403170670 ?_;refine bA [1,2,4,5,6] ?_;refine bC [(jz,_),(jd2,_),(jr,_),(jb,_),(c,_),(j,_)] ?_;exact hnext _ _ _ oQ ⟨i+1,jd2,rfl,oQ,rfl,by rw [zl4 (by simp_all) (by simp_all) (by simp_all),lM,lF] <;> rfl⟩
     refine au 3523014140120 ?_;refine bA [1,2,4,5,6] ?_;refine bC [(jz,_),(jd,_),(jr,_),(jb,_),(c,_),(j,_)] ?_;exact hnext _ _ _ oQ ⟨i+1,jd,rfl,oQ,rfl,by rw [zcQ (fun hh=>by simp_all)]⟩
    refine au 3523014140120190325088888 ?_;refine bA [1,2,4,5,6] ?_;refine bC [(jz,_),(jd,_),(jr,_),(jb,_),(c,_),(j,_)] ?_;exact hnext _ _ _ oQ ⟨i+1,jd,rfl,oQ,rfl,by rw [zcQ (fun hh=>by simp_all)]⟩
   refine au 35230141401201903250888881250888888 ?_;refine bA [1,2,4,5,6] ?_;refine bC [(jz,_),(jd,_),(jr,_),(jb,_),(c,_),(j,_)] ?_;exact hnext _ _ _ oQ ⟨i+1,jd,rfl,oQ,rfl,by rw [zcQ (fun hh=>by simp_all)]⟩
  obtain rfl:i=b.steps.toNat:=by have:=of_decide_eq_false hc0; omega
  refine au 2160 ?_;refine TK.unrowAt (c:=jz) (i:=1) (j:=jd) Z mQ uQ ?_;refine bY (j:=jd) ?_;refine au 31706804 ?_;refine bB hret [(jd,_),(c,_),(j,_)] ?_;exact ⟨jd,rfl,rfl⟩
theorem zjb {main T} (hT:zn tp main T) {gm} {b:SlB} {c s e w:Nat} {j:Nat} {sh:Int} {xs:List Int} (hb:SlBase b) (hw:SlWat b) (hl:xs.length<=1000) (hsh : -3<=sh/\sh<=3) :
  zq tp T gm 8 [.agg (slC b c s e w),.agg [intA sh,.sl j 0 xs.length]] [(s,suO b),(w,waO b),(j,.cells (xs.map intA) 3 false)] (fun r K'=>∃ jw,r=.agg (slC (trulyS b sh xs) c s e jw)/\K'=[(jw,waO (trulyS b sh xs)),(s,suO b),(w,waO b),(j,.cells (xs.map intA) 3 false)]):=by
 refine zm 37 hT Tryz.func8 fun Y hret=>?_;refine au 0 ?_;have hwl:=hw.len;refine au 21042 ?_;intro jb hjb;refine au 210 ?_;intro jz hjz;refine au 220 ?_;intro jr hjr;refine au 220680423 ?_;intro jo hjo;refine au 23170 ?_;refine bC [(jo,.cells [intA b.steps,intA b.dirty,intA b.slope,intA b.lo,intA b.hi,.sl c 0 b.clean.length,intA b.rf,intA b.rh,intA b.cf,intA b.ch,.sl s 0 b.suns.length,.sl e 0 b.eyes.length,.sl w 0 b.watches.length] 36 true),(jr,.cells [intA 0,intA 0,intA 0,intA 0,intA 0,.v (.slice none 0 0),intA 0,intA 0,intA 0,intA 0,.v (.slice none 0 0),.v (.slice none 0 0),.v (.slice none 0 0)] 36 true),(jz,_),(jb,_),(s,_),(w,_),(j,_)] ?_;refine au 2231706704 ?_;refine TK.virtAt (i:=12) (e:=50) (size:=3) Z (fun _=>uQ) fun jw0 hjw0=>?_;refine au 130354 ?_;refine bA [2,3,4,5,6] ?_;refine bC [(jo,_),(jw0,_),(jz,_),(jr,_),(jb,_),(s,_),(w,_),(j,_)] ?_;refine bE (fun m env K=>∃ (i jw:Nat),m=b.watches.length - i/\i<=b.watches.length/\env=naL 2 (.ptr jb 0::.ptr jz 0::.ptr jr 0::.ptr jo 0::intA i::naL 30 [])/\K=[(jo,.cells [intA b.steps,intA b.dirty,intA b.slope,intA b.lo,intA b.hi,.sl c 0 b.clean.length,intA b.rf,intA b.rh,intA b.cf,intA b.ch,.sl s 0 b.suns.length,.sl e 0 b.eyes.length,.row jw i] 36 true),(jw,.row (((b.watches.take i).map (truW b sh xs)).flatMap watC) 50 3),(jz,.cells [intA sh,.sl j 0 xs.length] 42 true),(jr,.cells [intA 0,intA 0,intA 0,intA 0,intA 0,.v (.slice none 0 0),intA 0,intA 0,intA 0,intA 0,.v (.slice none 0 0),.v (.slice none 0 0),.v (.slice none 0 0)] 36 true),(jb,.cells (slC b c s e w) 36 true),(s,suO b),(w,waO b),(j,.cells (xs.map intA) 3 false)]) b.watches.length ⟨0,jw0,rfl,mN _,rfl,rfl⟩ fun m env K hI hnext=>?_;obtain ⟨i,jw,rfl,hi,rfl,rfl⟩:=hI;refine bG nQ ?_;refine au 9372806906701422 ?_;constructor<;>intro hc0
 ·have hil:i<b.watches.length:=by simp at hc0; omega
  have hwo:=zgK (hw.all _ (lN (vL hil)));refine au 3601690670421302120 ?_;refine bH Z (zK Z Z ze.h mQ (zcw hil Z)) ?_;refine au 220 ?_;intro jt hjt;refine au 690670690670680680423170 ?_;refine TK.clE Z Z Z Z (zcL hT hb (intsA xs 3 false) hl hsh hwo.1 hwo.2) ?_;refine au 68069067043170670 ?_;refine bI Z Z Z (zp (l:=[_,_,_]) Z zE.h TyZ.h dQ dQ Z) (fun _=>zr rfl tQ) fun j4 hj4=>?_;refine bO Z Z Z (a_app Z ApOf.h Z mQ (by rw [yy watC 3 (fun _=>rfl),lJ,List.length_take,Nat.min_eq_left hi]) rfl (yg (ln:=[_,_,_]) mQ dQ sQ rfl) oQ rfl (by unfold maxLen; omega) oQ) (fun _=>uQ) (fun _=>zr rfl tQ) fun jw2=>?_;refine au 35230141403170670 ?_;refine bA [2,3,4,5,6] ?_;refine bC [(jo,_),(jw2,_),(jz,_),(jr,_),(jb,_),(s,_),(w,_),(j,_)] ?_;exact hnext _ _ _ oQ ⟨i+1,jw2,rfl,oQ,rfl,by rw [tru_S (vL hil)] <;> rfl⟩
 obtain rfl:i=b.watches.length:=by simp at hc0; omega
 refine au 2160 ?_;refine TK.unrowAt (c:=jo) (i:=12) (j:=jw) Z mQ uQ ?_;refine bY (j:=jw) ?_;refine au 31706804 ?_;refine bB hret [(jw,_),(s,_),(w,_),(j,_)] ?_;exact ⟨jw,by unfold slC trulyS othW; simp only [lJ] <;> rfl,by rw [lW] <;> rfl⟩
instance:BlOf tp 95 [(0,1),(1,1),(2,1)]:={}
instance:EqG tp 28:={}
instance:FlatF tp 28 [(3,0),(3,1)]:={}
theorem zba {Ψ:Goroutine->World->Prop}  :
  zq tp (BT tp Ψ) gmR 6 [] [(0,zB)] (fun r K'=>r=zw true/\K'=[(0,zB)]):=by
 have hT:=kz (P:=tp) Ψ;refine zm 407 hT Tryz.func6 fun Y hret=>?_;refine au 423542 ?_;refine bD Z Z Z Z (zg7 hT) ?_;rintro r1 K2 ⟨s,h,e,rfl,rfl⟩;refine au 220 ?_;intro j1 hj1;refine au 23170 ?_;refine bC [(0,_),(s,_),(h,_),(e,_),(j1,_)] ?_;refine au 6804 ?_;refine bI Z Z Z (zp (l:=[_,_]) Z zE.h TyZ.h dQ dQ Z) (fun _=>zr rfl tQ) fun ja2 hja2=>?_;refine bZ 35 Z mQ ?_;refine bY (j:=ja2) ?_;refine au 0 ?_;refine bD Z Z Z Z ((zmy hT (b:=exB) (l:=[1,2]) x_len.1 x_len.2 dQ).mono (fun _ _ h=>or2 h zgQ)) ?_;rintro r4 K5 ⟨jr,rfl,rfl⟩;refine au 0 ?_;rw [zkX];refine au 2355661 ?_;refine bZ 2 Z mQ ?_;refine bY (j:=jr) ?_;refine au 0 ?_;refine bC [(0,_),(s,_),(h,_),(e,_),(j1,_),(jr,_)] ?_;refine au 6804 ?_;refine bI Z Z Z (zp (l:=[_,_]) Z zE.h TyZ.h dQ dQ Z) (fun _=>zr rfl tQ) fun ja3 hja3=>?_;refine bZ 41 Z mQ ?_;refine bY (j:=ja3) ?_;refine au 0 ?_;refine TK.clE Z Z Z Z (zb1 hT (b:=exB) (l:=[0,1]) x_len.1 x_len.2 dQ) ?_;refine au 0 ?_;rw [zgP,zkU];refine au 2355661 ?_;refine bC [(0,_),(s,_),(h,_),(e,_),(j1,_),(jr,_)] ?_;refine au 6804 ?_;refine bI Z Z Z (zp (l:=[_,_]) Z zE.h TyZ.h dQ dQ Z) (fun _=>zr rfl tQ) fun ja4 hja4=>?_;refine bZ 47 Z mQ ?_;refine bY (j:=ja4) ?_;refine au 0 ?_;refine TK.clE Z Z Z Z (zb1 hT (b:=exB) (l:=[0,2]) x_len.1 x_len.2 dQ) ?_;refine au 0 ?_;rw [zc3,zkV];refine au 2355661 ?_;refine bC [(0,_),(s,_),(h,_),(e,_),(j1,_),(jr,_)] ?_;refine au 6804 ?_;refine bI Z Z Z (zp (l:=[_,_]) Z zE.h TyZ.h dQ dQ Z) (fun _=>zr rfl tQ) fun ja5 hja5=>?_;refine bI Z Z Z (zp (l:=[_,_,_]) Z zE.h TyZ.h dQ dQ Z) (fun _=>zr rfl tQ) fun jb5 hjb5=>?_;refine bZ 53 Z mQ ?_;refine bY (j:=ja5) ?_;refine au 0 ?_;refine bZ 54 Z mQ ?_;refine bY (j:=jb5) ?_;refine au 0 ?_;refine bD Z Z Z Z ((zhb hT (b:=exB) (l:=[0,1]) (st:=[1,0,1]) x_len.1 x_len.2 dQ).mono (fun _ _ h=>or3b h x_h1 (by rw [zgR]; exact fun h=>nomatch h))) ?_;rintro r13 K14 ⟨w5,q5,jw,hw,rfl,rfl⟩;refine au 0 ?_;rw [zgR] at hw;cases hw;refine au 23555566661 ?_;refine bC [(0,_),(s,_),(h,_),(e,_),(j1,_),(jr,_),(jw,_)] ?_;refine au 6804 ?_;refine bI Z Z Z (zp (l:=[_,_]) Z zE.h TyZ.h dQ dQ Z) (fun _=>zr rfl tQ) fun ja6 hja6=>?_;refine bI Z Z Z (zp (l:=[_,_,_]) Z zE.h TyZ.h dQ dQ Z) (fun _=>zr rfl tQ) fun jb6 hjb6=>?_;refine bZ 62 Z mQ ?_;refine bY (j:=ja6) ?_;refine au 0 ?_;refine bZ 63 Z mQ ?_;refine bY (j:=jb6) ?_;refine au 0 ?_;refine bD Z Z Z Z ((zeQ hT (b:=exB) (l:=[0,1]) (st:=[0,0,1]) x_len.1 x_len.2 dQ).mono (fun _ _ h=>or3b h x_h2 (by rw [zgS]; exact fun h=>nomatch h))) ?_;rintro r16 K17 ⟨w6,q6,jp,hw,rfl,rfl⟩;refine au 0 ?_;rw [zgS] at hw;cases hw;rw [zkW];refine au 235556661 ?_;refine bZ 12 Z mQ ?_;refine bY (j:=jp) ?_;refine au 0 ?_;refine bC [(0,_),(s,_),(h,_),(e,_),(j1,_),(jr,_),(jw,_),(jp,_)] ?_;refine au 6804 ?_;refine TK.clE Z Z Z Z (zaU hT (b:=exB) x_len.1 x_len.2) ?_;refine au 0 ?_;rw [wR,if_pos rfl,zbP];refine au 2355661 ?_;refine bC [(0,_),(s,_),(h,_),(e,_),(j1,_),(jr,_),(jw,_),(jp,_)] ?_;refine au 6804 ?_;refine bD Z Z Z Z ((zcq hT (b:=exB) (n:=2) x_len.1 x_len.2 (by rw [zbP]; decide)).mono (fun _ _ h=>or3 h x_th2 x_ne)) ?_;rintro r22 K23 ⟨js8,zs8,rfl,rfl⟩;refine au 0 ?_;rw [znI];refine au 2355661 ?_;refine bC [(0,_),(s,_),(h,_),(e,_),(j1,_),(jr,_),(jw,_),(jp,_),(js8,_)] ?_;refine au 6804 ?_;refine bD Z Z Z Z ((zil hT (b:=exB) x_len.1 x_len.2).mono (fun _ _ h=>or3 h wR x_ne)) ?_;rintro r25 K26 ⟨rfl,rfl⟩;refine au 0 ?_;rw [x_new];refine au 220661 ?_;intro j19 hj19;refine au 235170 ?_;refine bC [(0,_),(s,_),(h,_),(e,_),(j1,_),(jr,_),(jw,_),(jp,_),(js8,_),(j19,_)] ?_;refine au 6804 ?_;refine bI Z Z Z (zp (l:=[_,_]) Z zE.h TyZ.h dQ dQ Z) (fun _=>zr rfl tQ) fun ja10 hja10=>?_;refine bZ 85 Z mQ ?_;refine bY (j:=ja10) ?_;refine au 0 ?_;refine bD Z Z Z Z ((zd7 hT (b:=exB) (l:=[0,1]) x_len.1 x_len.2 dQ).mono (fun _ _ h=>or3 h zgP x_ne)) ?_;rintro r28 K29 ⟨rfl,rfl⟩;refine au 0 ?_;rw [zmp];refine au 2355661 ?_;refine bC [(0,_),(s,_),(h,_),(e,_),(j1,_),(jr,_),(jw,_),(jp,_),(js8,_),(j19,_)] ?_;refine au 6804 ?_;refine bI Z Z Z (zp (l:=[_,_]) Z zE.h TyZ.h dQ dQ Z) (fun _=>zr rfl tQ) fun ja11 hja11=>?_;refine bZ 91 Z mQ ?_;refine bY (j:=ja11) ?_;refine au 0 ?_;refine bD Z Z Z Z ((zd7 hT (b:=exB) (l:=[0,2]) x_len.1 x_len.2 dQ).mono (fun _ _ h=>or3 h zc3 x_ne)) ?_;rintro r31 K32 ⟨rfl,rfl⟩;refine au 0 ?_;rw [zmq];refine au 22355661 ?_;refine bC [(0,_),(s,_),(h,_),(e,_),(j1,_),(jr,_),(jw,_),(jp,_),(js8,_),(j19,_)] ?_;refine au 221201903250711250711250711250711250711250711250711250711250711714 ?_;refine bC [(0,_),(s,_),(h,_),(e,_),(j1,_),(jr,_),(jw,_),(jp,_),(js8,_),(j19,_)] ?_;refine bL [0,1,2,3,4,5,6,7,8,9,10,11,12,13,14,15,16,17,18,19,20,21,22,23,24,25,26,27,28,29,30,31,32,33,34,35,36,37,38,39,40,41,42,43,44,45,46,47,48,49,50,51,52,53,54,55,56,57,58,59] ?_;refine ad [[1,2]] ?_;refine bU [] Z (yi (l:=[_,_]) Z TyZ.h BlOf.h Z) ?_;refine bU [] Z (yi (l:=[_,_]) Z TyZ.h BlOf.h Z) ?_;refine bV (pend':=[Pd.mk 0 [2] []]) [134,135] Z Z Z (pendS (es:=[1,2]) Z Z) Z (zp (l:=[_,_,_,_]) Z zE.h TyZ.h dQ dQ Z) (fun _=>zr rfl tQ) sQ fun jy1 hjy1=>?_;refine bQ (pend':=[]) [133,136] Z (pendS (es:=[0,3]) Z Z) Z Z Z ((zcV hT (xs:=[(1,4),(2,8)]) (ys:=[(1,4),(2,8)]) (off:=0) (ob:=.cells (([(1,4),(2,8)]:List (Int×Int)).flatMap pairC) 81 false) (fun i x hx=>ky (c:=2) (f:=pairC) (fun _=>rfl) hx rfl dQ) dQ).mono (fun _ _ h=>trT h rfl)) (fun r34 K35 h36=>⟨?_,?_⟩)
 ·rcases h36 with ⟨rfl,rfl⟩
  all_goals simp
 obtain ⟨rfl,rfl⟩:=h36;try simp only [cA]
 refine bS tQ ?_;refine bU [137] Z (q_not Z Z) ?_;refine ad [[1,138],[1,4,139]] ?_;refine bU [139,140] Z (q_not Z Z) ?_;refine ad [[6,139,141],[1,142],[1,6,143],[6,143,144],[1,145],[1,8,146]] ?_;refine bV (pend':=[Pd.mk 14 [8,146] [],Pd.mk 12 [143,144] [],Pd.mk 11 [6,143] [],Pd.mk 10 [142] [],Pd.mk 9 [139,141] [],Pd.mk 8 [139,140] [],Pd.mk 7 [4,139] [],Pd.mk 6 [138] [],Pd.mk 5 [137] []]) [146] Z Z Z (pendS (es:=[13]) Z Z) Z (zp (l:=[_,_]) Z zE.h TyZ.h dQ dQ Z) (fun _=>zr rfl tQ) sQ fun jy2 hjy2=>?_;refine bQ (pend':=[Pd.mk 12 [143,144] [],Pd.mk 11 [6,143] [],Pd.mk 10 [142] [],Pd.mk 9 [139,141] [],Pd.mk 8 [139,140] [],Pd.mk 7 [4,139] [],Pd.mk 6 [138] [],Pd.mk 5 [137] []]) [146,147,148] Z (pendS (es:=[14,15,13,13]) Z Z) Z Z Z ((vf hT (xs:=[3,2]) (ys:=[3,2]) (off:=0) (ob:=.cells (([3,2]:List Int).map intA) 3 false) (fun i x hx=>yr hx rfl) dQ).mono (fun _ _ h=>trT h rfl)) (fun r37 K38 h39=>⟨?_,?_⟩)
 ·rcases h39 with ⟨rfl,rfl⟩
  all_goals simp
 obtain ⟨rfl,rfl⟩:=h39;try simp only [cA]
 refine bS tQ ?_;refine bU [146,149] Z (q_not Z Z) ?_;refine ad [[6,146,150],[1,151],[1,9,152],[4,152,153],[6,152,154],[1,155],[1,10,156]] ?_;refine bU [156,157] Z (q_not Z Z) ?_;refine ad [[6,156,158],[1,159],[1,12,160]] ?_;refine bV (pend':=[Pd.mk 28 [12,160] [],Pd.mk 26 [156,158] [],Pd.mk 25 [156,157] [],Pd.mk 24 [10,156] [],Pd.mk 23 [155] [],Pd.mk 22 [152,154] [],Pd.mk 21 [152,153] [],Pd.mk 20 [9,152] [],Pd.mk 19 [151] [],Pd.mk 18 [146,150] [],Pd.mk 17 [146,149] [],Pd.mk 12 [143,144] [],Pd.mk 11 [6,143] [],Pd.mk 10 [142] [],Pd.mk 9 [139,141] [],Pd.mk 8 [139,140] [],Pd.mk 7 [4,139] [],Pd.mk 6 [138] [],Pd.mk 5 [137] []]) [160] Z Z Z (pendS (es:=[27]) Z Z) Z (zp (l:=[_,_]) Z zE.h TyZ.h dQ dQ Z) (fun _=>zr rfl tQ) sQ fun jy3 hjy3=>?_;refine bQ (pend':=[Pd.mk 26 [156,158] [],Pd.mk 25 [156,157] [],Pd.mk 24 [10,156] [],Pd.mk 23 [155] [],Pd.mk 22 [152,154] [],Pd.mk 21 [152,153] [],Pd.mk 20 [9,152] [],Pd.mk 19 [151] [],Pd.mk 18 [146,150] [],Pd.mk 17 [146,149] [],Pd.mk 12 [143,144] [],Pd.mk 11 [6,143] [],Pd.mk 10 [142] [],Pd.mk 9 [139,141] [],Pd.mk 8 [139,140] [],Pd.mk 7 [4,139] [],Pd.mk 6 [138] [],Pd.mk 5 [137] []]) [160,161,162] Z (pendS (es:=[28,29,27,27]) Z Z) Z Z Z ((vf hT (xs:=[0,7]) (ys:=[0,7]) (off:=0) (ob:=.cells (([0,7]:List Int).map intA) 3 false) (fun i x hx=>yr hx rfl) dQ).mono (fun _ _ h=>trT h rfl)) (fun r40 K41 h42=>⟨?_,?_⟩)
 ·rcases h42 with ⟨rfl,rfl⟩
  all_goals simp
 obtain ⟨rfl,rfl⟩:=h42;try simp only [cA]
 refine bS tQ ?_;refine bU [160,163] Z (q_not Z Z) ?_;refine ad [[6,160,164],[1,165],[1,13,166]] ?_;refine bU [166,167] Z (q_not Z Z) ?_;refine ad [[6,166,168],[1,169],[1,15,170],[4,170,171],[6,170,172],[1,173],[1,17,174]] ?_;refine bV (pend':=[Pd.mk 42 [17,174] [],Pd.mk 40 [170,172] [],Pd.mk 39 [170,171] [],Pd.mk 38 [15,170] [],Pd.mk 37 [169] [],Pd.mk 36 [166,168] [],Pd.mk 35 [166,167] [],Pd.mk 34 [13,166] [],Pd.mk 33 [165] [],Pd.mk 32 [160,164] [],Pd.mk 31 [160,163] [],Pd.mk 26 [156,158] [],Pd.mk 25 [156,157] [],Pd.mk 24 [10,156] [],Pd.mk 23 [155] [],Pd.mk 22 [152,154] [],Pd.mk 21 [152,153] [],Pd.mk 20 [9,152] [],Pd.mk 19 [151] [],Pd.mk 18 [146,150] [],Pd.mk 17 [146,149] [],Pd.mk 12 [143,144] [],Pd.mk 11 [6,143] [],Pd.mk 10 [142] [],Pd.mk 9 [139,141] [],Pd.mk 8 [139,140] [],Pd.mk 7 [4,139] [],Pd.mk 6 [138] [],Pd.mk 5 [137] []]) [174] Z Z Z (pendS (es:=[41]) Z Z) Z (zp (l:=[_,_]) Z zE.h TyZ.h dQ dQ Z) (fun _=>zr rfl tQ) sQ fun jy4 hjy4=>?_;refine bQ (pend':=[Pd.mk 40 [170,172] [],Pd.mk 39 [170,171] [],Pd.mk 38 [15,170] [],Pd.mk 37 [169] [],Pd.mk 36 [166,168] [],Pd.mk 35 [166,167] [],Pd.mk 34 [13,166] [],Pd.mk 33 [165] [],Pd.mk 32 [160,164] [],Pd.mk 31 [160,163] [],Pd.mk 26 [156,158] [],Pd.mk 25 [156,157] [],Pd.mk 24 [10,156] [],Pd.mk 23 [155] [],Pd.mk 22 [152,154] [],Pd.mk 21 [152,153] [],Pd.mk 20 [9,152] [],Pd.mk 19 [151] [],Pd.mk 18 [146,150] [],Pd.mk 17 [146,149] [],Pd.mk 12 [143,144] [],Pd.mk 11 [6,143] [],Pd.mk 10 [142] [],Pd.mk 9 [139,141] [],Pd.mk 8 [139,140] [],Pd.mk 7 [4,139] [],Pd.mk 6 [138] [],Pd.mk 5 [137] []]) [174,175,176] Z (pendS (es:=[42,43,41,41]) Z Z) Z Z Z ((vf hT (xs:=[0,1]) (ys:=[0,1]) (off:=0) (ob:=.cells (([0,1]++zs8).map intA) 3 false) (fun i x hx=>zev hx) dQ).mono (fun _ _ h=>trT h rfl)) (fun r43 K44 h45=>⟨?_,?_⟩)
 ·rcases h45 with ⟨rfl,rfl⟩
  all_goals simp
 obtain ⟨rfl,rfl⟩:=h45;try simp only [cA]
 refine bS tQ ?_;refine bU [174,177] Z (q_not Z Z) ?_;refine ad [[6,174,178],[1,179],[12,19,180]] ?_;refine bQ (pend':=[Pd.mk 48 [19,180] [(_,_)],Pd.mk 46 [174,178] [],Pd.mk 45 [174,177] [],Pd.mk 40 [170,172] [],Pd.mk 39 [170,171] [],Pd.mk 38 [15,170] [],Pd.mk 37 [169] [],Pd.mk 36 [166,168] [],Pd.mk 35 [166,167] [],Pd.mk 34 [13,166] [],Pd.mk 33 [165] [],Pd.mk 32 [160,164] [],Pd.mk 31 [160,163] [],Pd.mk 26 [156,158] [],Pd.mk 25 [156,157] [],Pd.mk 24 [10,156] [],Pd.mk 23 [155] [],Pd.mk 22 [152,154] [],Pd.mk 21 [152,153] [],Pd.mk 20 [9,152] [],Pd.mk 19 [151] [],Pd.mk 18 [146,150] [],Pd.mk 17 [146,149] [],Pd.mk 12 [143,144] [],Pd.mk 11 [6,143] [],Pd.mk 10 [142] [],Pd.mk 9 [139,141] [],Pd.mk 8 [139,140] [],Pd.mk 7 [4,139] [],Pd.mk 6 [138] [],Pd.mk 5 [137] []]) [180] Z (pendS (es:=[47,47]) Z Z) Z Z Z (to_ok hT) (fun r46 K47 h48=>⟨?_,?_⟩)
 ·rcases h48 with ⟨rfl,rfl⟩
  all_goals simp
 obtain ⟨rfl,rfl⟩:=h48;try simp only [cA]
 refine bS tQ ?_;refine bU [180,181,182] Z (zaO Z Z Z Z Z FlatF.h EqG.h) ?_;refine ad [[6,180,183],[1,184],[1,21,185],[4,185,186],[6,185,187],[1,188],[1,23,189],[4,189,190],[6,189,191],[14]] ?_;refine au 2120190 ?_;refine bC [(0,_),(s,_),(h,_),(e,_),(j1,_),(j19,_)] ?_;refine au 6804 ?_;refine bD Z Z Z Z ((zls hT (b:=exB) (r0:=16) x_len.1 x_len.2).mono (fun _ _ h=>or3c h wR znF)) ?_;rintro r49 K50 ⟨s6,h6,e6,rfl,rfl⟩;refine au 220661 ?_;intro j25 hj25;refine au 235170 ?_;refine bC [(0,_),(s,_),(h,_),(e,_),(j1,_),(j19,_),(s6,_),(h6,_),(e6,_),(j25,_)] ?_;refine au 6804 ?_;refine bI Z Z Z (zp (l:=[_,_]) Z zE.h TyZ.h dQ dQ Z) (fun _=>zr rfl tQ) fun ja17 hja17=>?_;refine bZ 200 Z mQ ?_;refine bY (j:=ja17) ?_;refine au 0 ?_;refine bD Z Z Z Z ((zd7 hT (b:=atRound exB 16) (s:=s6) (h:=h6) (e:=e6) (l:=[0,1]) dQ dQ dQ).mono (fun _ _ h=>or3 h znD znH)) ?_;rintro r52 K53 ⟨rfl,rfl⟩;refine au 0 ?_;rw [zmr];refine au 2355661 ?_;refine bC [(0,_),(s,_),(h,_),(e,_),(j1,_),(j19,_)] ?_;refine au 6804 ?_;refine bI Z Z Z (zp (l:=[_,_]) Z zE.h TyZ.h dQ dQ Z) (fun _=>zr rfl tQ) fun ja18 hja18=>?_;refine bZ 206 Z mQ ?_;refine bY (j:=ja18) ?_;refine au 0 ?_;refine bD Z Z Z Z ((zao hT (b:=exB) (l:=[1,2]) x_len.1 x_len.2 dQ).mono (fun _ _ h=>or3 h zgQ x_ne)) ?_;rintro r55 K56 ⟨rfl,rfl⟩;refine au 0 ?_;rw [x_v12.1,x_v12.2.1,x_v12.2.2,show (if true=true then (0:Int) else 8)=0 from rfl];refine au 235170661 ?_;refine bC [(0,_),(s,_),(h,_),(e,_),(j1,_),(j19,_)] ?_;refine au 6804 ?_;refine bI Z Z Z (zp (l:=[_,_]) Z zE.h TyZ.h dQ dQ Z) (fun _=>zr rfl tQ) fun ja19 hja19=>?_;refine bZ 212 Z mQ ?_;refine bY (j:=ja19) ?_;refine au 0 ?_;refine bD Z Z Z Z ((zao hT (b:=exB) (l:=[0,2]) x_len.1 x_len.2 dQ).mono (fun _ _ h=>or3 h zc3 x_ne)) ?_;rintro r58 K59 ⟨rfl,rfl⟩;refine au 0 ?_;rw [x_v02.1,x_v02.2.1,x_v02.2.2,show (if false=true then (0:Int) else 8)=8 from rfl];refine au 235661 ?_;refine bC [(0,_),(s,_),(h,_),(e,_),(j1,_),(j19,_)] ?_;refine au 6804 ?_;refine bD Z Z Z Z ((za3 (b:=exB) x_len.1 x_len.2).mono (fun _ _ h=>or3 h wR x_ne)) ?_;rintro r61 K62 h63;rcases h63 with ⟨hno,rfl,rfl⟩ | ⟨c,jc,ec,hpl,rfl,rfl⟩
 ·refine au 0 ?_;exact (zfy hno).elim
 ·refine au 0 ?_;obtain ⟨hq1,hq2⟩:=zji (.inl rfl) hpl;rw [hq2,hq1];refine au 23555566661 ?_;refine bC [(0,_),(s,_),(h,_),(e,_),(j1,_),(j19,_),(jc,_)] ?_;refine au 6804 ?_;refine bD Z Z Z Z ((wj (b:=exB) x_len.1 x_len.2).mono (fun _ _ h=>or3 h wR x_ne)) ?_;rintro r64 K65 h66;rcases h66 with ⟨hno,rfl,rfl⟩ | ⟨c2,jf,ef,hpl2,rfl,rfl⟩
  ·refine au 0 ?_;exact (zfy hno).elim
  ·refine au 0 ?_;obtain ⟨hq3,hq4⟩:=zji (.inr rfl) hpl2;rw [hq3];refine au 235556661 ?_;refine bC [(0,_),(s,_),(h,_),(e,_),(j1,_),(j19,_),(jc,_),(jf,_)] ?_;refine au 6804 ?_;refine bD Z Z Z Z ((wu (b:=exB) x_len.1 x_len.2).mono (fun _ _ h=>or3 h wR x_ne)) ?_;rintro r67 K68 ⟨rfl,rfl⟩;refine au 0 ?_;rw [zkY];refine au 2235556661 ?_;refine bC [(0,_),(s,_),(h,_),(e,_),(j1,_),(j19,_),(jc,_),(jf,_)] ?_;refine TK.dr [0,1,2,3,4,5,6,7,8,9,10,11,12,13,14,15,16,17,18,19,20,21,22,23,24,25,26,27,28,29,30,31,32,33,34,35,36,37,38,39,40,41,42,43,44,45,46,47,48,49,50,51,52,53,54,55,56,57,58,59,60,61,62,63,64,65,66] [0,1,2,3,4,5,6,7,8,9,10,11,12,13,14,15,16,17,18,19,20,21,22,23,24,25,26,27,28,29,30,31,32,33,34,35,36,37,38,39,40,41,42,43,44,45,46,47,48,49,50,51,52,53,54,55,56,57,58,59,60,61,62,63,64,65,66] ?_;refine ad [[1,3],[4,235],[1,236],[1,5,237],[4,237,238],[6,237,239],[1,240],[1,7,241],[4,241,242],[6,241,243],[1,244],[1,11,245],[4,245,246],[6,245,247],[1,248],[1,14,249],[4,249,250],[6,249,251],[1,252],[1,16,253],[4,253,254],[6,253,255],[1,256],[1,18,257],[4,257,258],[6,257,259],[1,260],[1,21,261],[4,261,262],[6,261,263],[1,264],[12,19,265]] ?_;refine bQ (pend':=[Pd.mk 31 [19,265] [(_,_)],Pd.mk 29 [261,263] [],Pd.mk 28 [261,262] [],Pd.mk 27 [21,261] [],Pd.mk 26 [260] [],Pd.mk 25 [257,259] [],Pd.mk 24 [257,258] [],Pd.mk 23 [18,257] [],Pd.mk 22 [256] [],Pd.mk 21 [253,255] [],Pd.mk 20 [253,254] [],Pd.mk 19 [16,253] [],Pd.mk 18 [252] [],Pd.mk 17 [249,251] [],Pd.mk 16 [249,250] [],Pd.mk 15 [14,249] [],Pd.mk 14 [248] [],Pd.mk 13 [245,247] [],Pd.mk 12 [245,246] [],Pd.mk 11 [11,245] [],Pd.mk 10 [244] [],Pd.mk 9 [241,243] [],Pd.mk 8 [241,242] [],Pd.mk 7 [7,241] [],Pd.mk 6 [240] [],Pd.mk 5 [237,239] [],Pd.mk 4 [237,238] [],Pd.mk 3 [5,237] [],Pd.mk 2 [236] [],Pd.mk 1 [235] [],Pd.mk 0 [3] []]) [265] Z (pendS (es:=[30,30]) Z Z) Z Z Z (to_ok hT) (fun r70 K71 h72=>⟨?_,?_⟩)
   ·rcases h72 with ⟨rfl,rfl⟩
    all_goals simp
   obtain ⟨rfl,rfl⟩:=h72;try simp only [cA]
   refine bS tQ ?_;refine bU [265,266,267] Z (zaO Z Z Z Z Z FlatF.h EqG.h) ?_;refine ad [[6,265,268],[1,269],[1,26,270]] ?_;refine bV (pend':=[Pd.mk 36 [26,270] [],Pd.mk 34 [265,268] [],Pd.mk 33 [265,266,267] [],Pd.mk 31 [19,265] [(_,_)],Pd.mk 29 [261,263] [],Pd.mk 28 [261,262] [],Pd.mk 27 [21,261] [],Pd.mk 26 [260] [],Pd.mk 25 [257,259] [],Pd.mk 24 [257,258] [],Pd.mk 23 [18,257] [],Pd.mk 22 [256] [],Pd.mk 21 [253,255] [],Pd.mk 20 [253,254] [],Pd.mk 19 [16,253] [],Pd.mk 18 [252] [],Pd.mk 17 [249,251] [],Pd.mk 16 [249,250] [],Pd.mk 15 [14,249] [],Pd.mk 14 [248] [],Pd.mk 13 [245,247] [],Pd.mk 12 [245,246] [],Pd.mk 11 [11,245] [],Pd.mk 10 [244] [],Pd.mk 9 [241,243] [],Pd.mk 8 [241,242] [],Pd.mk 7 [7,241] [],Pd.mk 6 [240] [],Pd.mk 5 [237,239] [],Pd.mk 4 [237,238] [],Pd.mk 3 [5,237] [],Pd.mk 2 [236] [],Pd.mk 1 [235] [],Pd.mk 0 [3] []]) [270] Z Z Z (pendS (es:=[35]) Z Z) Z (zp (l:=[_,_]) Z zE.h TyZ.h dQ dQ Z) (fun _=>zr rfl tQ) sQ fun jz1 hjz1=>?_;refine bQ (pend':=[Pd.mk 34 [265,268] [],Pd.mk 33 [265,266,267] [],Pd.mk 31 [19,265] [(_,_)],Pd.mk 29 [261,263] [],Pd.mk 28 [261,262] [],Pd.mk 27 [21,261] [],Pd.mk 26 [260] [],Pd.mk 25 [257,259] [],Pd.mk 24 [257,258] [],Pd.mk 23 [18,257] [],Pd.mk 22 [256] [],Pd.mk 21 [253,255] [],Pd.mk 20 [253,254] [],Pd.mk 19 [16,253] [],Pd.mk 18 [252] [],Pd.mk 17 [249,251] [],Pd.mk 16 [249,250] [],Pd.mk 15 [14,249] [],Pd.mk 14 [248] [],Pd.mk 13 [245,247] [],Pd.mk 12 [245,246] [],Pd.mk 11 [11,245] [],Pd.mk 10 [244] [],Pd.mk 9 [241,243] [],Pd.mk 8 [241,242] [],Pd.mk 7 [7,241] [],Pd.mk 6 [240] [],Pd.mk 5 [237,239] [],Pd.mk 4 [237,238] [],Pd.mk 3 [5,237] [],Pd.mk 2 [236] [],Pd.mk 1 [235] [],Pd.mk 0 [3] []]) [270,271,272] Z (pendS (es:=[36,37,35,35]) Z Z) Z Z Z ((vf hT (xs:=[0,1]) (ys:=[0,1]) (off:=0) (ob:=.cells (([0,1]:List Int).map intA) ec false) (fun i x hx=>yr hx rfl) dQ).mono (fun _ _ h=>trT h rfl)) (fun r73 K74 h75=>⟨?_,?_⟩)
   ·rcases h75 with ⟨rfl,rfl⟩
    all_goals simp
   obtain ⟨rfl,rfl⟩:=h75;try simp only [cA]
   refine bS tQ ?_;refine bU [270,273] Z (q_not Z Z) ?_;refine ad [[6,270,274],[1,275],[1,9,276],[4,276,277],[6,276,278],[1,279],[1,10,280]] ?_;refine bU [280,281] Z (q_not Z Z) ?_;refine ad [[6,280,282],[1,283],[1,27,284]] ?_;refine bV (pend':=[Pd.mk 50 [27,284] [],Pd.mk 48 [280,282] [],Pd.mk 47 [280,281] [],Pd.mk 46 [10,280] [],Pd.mk 45 [279] [],Pd.mk 44 [276,278] [],Pd.mk 43 [276,277] [],Pd.mk 42 [9,276] [],Pd.mk 41 [275] [],Pd.mk 40 [270,274] [],Pd.mk 39 [270,273] [],Pd.mk 34 [265,268] [],Pd.mk 33 [265,266,267] [],Pd.mk 31 [19,265] [(_,_)],Pd.mk 29 [261,263] [],Pd.mk 28 [261,262] [],Pd.mk 27 [21,261] [],Pd.mk 26 [260] [],Pd.mk 25 [257,259] [],Pd.mk 24 [257,258] [],Pd.mk 23 [18,257] [],Pd.mk 22 [256] [],Pd.mk 21 [253,255] [],Pd.mk 20 [253,254] [],Pd.mk 19 [16,253] [],Pd.mk 18 [252] [],Pd.mk 17 [249,251] [],Pd.mk 16 [249,250] [],Pd.mk 15 [14,249] [],Pd.mk 14 [248] [],Pd.mk 13 [245,247] [],Pd.mk 12 [245,246] [],Pd.mk 11 [11,245] [],Pd.mk 10 [244] [],Pd.mk 9 [241,243] [],Pd.mk 8 [241,242] [],Pd.mk 7 [7,241] [],Pd.mk 6 [240] [],Pd.mk 5 [237,239] [],Pd.mk 4 [237,238] [],Pd.mk 3 [5,237] [],Pd.mk 2 [236] [],Pd.mk 1 [235] [],Pd.mk 0 [3] []]) [284] Z Z Z (pendS (es:=[49]) Z Z) Z (zp (l:=[_,_]) Z zE.h TyZ.h dQ dQ Z) (fun _=>zr rfl tQ) sQ fun jz2 hjz2=>?_;refine bQ (pend':=[Pd.mk 48 [280,282] [],Pd.mk 47 [280,281] [],Pd.mk 46 [10,280] [],Pd.mk 45 [279] [],Pd.mk 44 [276,278] [],Pd.mk 43 [276,277] [],Pd.mk 42 [9,276] [],Pd.mk 41 [275] [],Pd.mk 40 [270,274] [],Pd.mk 39 [270,273] [],Pd.mk 34 [265,268] [],Pd.mk 33 [265,266,267] [],Pd.mk 31 [19,265] [(_,_)],Pd.mk 29 [261,263] [],Pd.mk 28 [261,262] [],Pd.mk 27 [21,261] [],Pd.mk 26 [260] [],Pd.mk 25 [257,259] [],Pd.mk 24 [257,258] [],Pd.mk 23 [18,257] [],Pd.mk 22 [256] [],Pd.mk 21 [253,255] [],Pd.mk 20 [253,254] [],Pd.mk 19 [16,253] [],Pd.mk 18 [252] [],Pd.mk 17 [249,251] [],Pd.mk 16 [249,250] [],Pd.mk 15 [14,249] [],Pd.mk 14 [248] [],Pd.mk 13 [245,247] [],Pd.mk 12 [245,246] [],Pd.mk 11 [11,245] [],Pd.mk 10 [244] [],Pd.mk 9 [241,243] [],Pd.mk 8 [241,242] [],Pd.mk 7 [7,241] [],Pd.mk 6 [240] [],Pd.mk 5 [237,239] [],Pd.mk 4 [237,238] [],Pd.mk 3 [5,237] [],Pd.mk 2 [236] [],Pd.mk 1 [235] [],Pd.mk 0 [3] []]) [284,285,286] Z (pendS (es:=[50,51,49,49]) Z Z) Z Z Z ((vf hT (xs:=[0,1]) (ys:=[0,1]) (off:=0) (ob:=.cells (([0,1]:List Int).map intA) ef false) (fun i x hx=>yr hx rfl) dQ).mono (fun _ _ h=>trT h rfl)) (fun r76 K77 h78=>⟨?_,?_⟩)
   ·rcases h78 with ⟨rfl,rfl⟩
    all_goals simp
   obtain ⟨rfl,rfl⟩:=h78;try simp only [cA]
   refine bS tQ ?_;refine bU [284,287] Z (q_not Z Z) ?_;refine ad [[6,284,288],[1,289],[1,13,290]] ?_;refine bU [290,291] Z (q_not Z Z) ?_;refine ad [[6,290,292],[1,293],[1,15,294],[4,294,295],[6,294,296],[1,297],[1,4,298]] ?_;refine bU [298,299] Z (q_not Z Z) ?_;refine ad [[6,298,300],[14]] ?_;refine au 2120190 ?_;refine bC [(0,_),(s,_),(h,_),(e,_),(j1,_),(j19,_)] ?_;refine au 6804 ?_;refine bD Z Z Z Z ((zmt hT (b:=exB) x_len.1 x_len.2).mono (fun _ _ h=>or3 h wR x_ne)) ?_;rintro r79 K80 ⟨rfl,rfl⟩;refine au 0 ?_;rw [x_ask];refine au 235556661 ?_;refine bC [(0,_),(s,_),(h,_),(e,_),(j1,_),(j19,_)] ?_;refine au 4006804 ?_;refine bD Z Z Z Z ((zhh hT (b:=exB) (m:=⟨2,2,7⟩) x_len.1 x_len.2).mono (fun _ _ h=>agr3 (or2 h wR) x_mc x_mne)) ?_;rintro r82 K83 ⟨s7,h7,e7,rfl,rfl⟩;refine au 220661 ?_;intro j30 hj30;refine au 235170 ?_;refine bC [(0,_),(s,_),(h,_),(e,_),(j1,_),(j19,_),(s7,_),(h7,_),(e7,_),(j30,_)] ?_;refine au 6804 ?_;refine TK.clE Z Z Z Z (zaU hT (b:=exM) (s:=s7) (h:=h7) (e:=e7) dQ dQ) ?_;refine au 0 ?_;rw [x_mc,if_pos rfl,x_mst];refine au 2355661 ?_;refine bC [(0,_),(s,_),(h,_),(e,_),(j1,_),(j19,_),(s7,_),(h7,_),(e7,_),(j30,_)] ?_;refine au 6804 ?_;refine bD Z Z Z Z ((zil hT (b:=exM) (s:=s7) (h:=h7) (e:=e7) dQ dQ).mono (fun _ _ h=>or3 h x_mc x_mne)) ?_;rintro r88 K89 ⟨rfl,rfl⟩;refine au 0 ?_;rw [znG];refine au 235170661 ?_;refine bC [(0,_),(s,_),(h,_),(e,_),(j1,_),(j19,_),(j30,_)] ?_;refine bL [0,1,2,3,4,6,5,7] ?_;refine ad [[12,1]] ?_;refine bQ (pend':=[⟨0,[1],[(_,_)]⟩]) [] Z Z Z Z Z (to_ok hT) (fun r91 K92 h93=>⟨?_,?_⟩)
   ·rcases h93 with ⟨rfl,rfl⟩
    all_goals simp
   obtain ⟨rfl,rfl⟩:=h93;try simp only [cA]
   refine bS tQ ?_;refine bQ (pend':=[]) [325,326] Z Z Z Z Z ((zhS hT (b:=exB) (n:=0) (x:=⟨1,5⟩) x_len.1 x_len.2).mono (fun _ _ h=>agr3 (or4 h x_d1) x_dc x_dne)) (fun r94 K95 h96=>⟨?_,?_⟩)
   ·rcases h96 with ⟨s8,h8,e8,rfl,rfl⟩
    all_goals simp
   obtain ⟨s8,h8,e8,rfl,rfl⟩:=h96;try simp only [cA]
   refine bS tQ ?_;refine ad [[1,327],[5,324],[5,324]] ?_;refine bR (pend':=[⟨5,[324],[]⟩]) [30,328] Z Z (zM Z Z ze.h Z Z mQ Z) ?_;refine ad [[13,329],[14]] ?_;refine au 2 ?_;refine bC [(0,_),(s,_),(h,_),(e,_),(j1,_),(j19,_),(j30,_),(s8,_),(h8,_),(e8,_)] ?_;refine au 6804 ?_;refine bD Z Z Z Z ((zcq hT (b:=exD) (s:=s8) (h:=h8) (e:=e8) (n:=0) dQ dQ (by rw [x_dst]; decide)).mono (fun _ _ h=>or3 h x_dth x_dne)) ?_;rintro r97 K98 ⟨js9,zs9,rfl,rfl⟩;refine au 0 ?_;rw [znE];refine au 2355661 ?_;refine bC [(0,_),(s,_),(h,_),(e,_),(j1,_),(j19,_),(js9,_)] ?_;refine bL [0,1,2,3,4,5,6] ?_;refine ad [[12,1]] ?_;refine bQ (pend':=[⟨0,[1],[(_,_)]⟩]) [] Z Z Z Z Z (to_ok hT) (fun r100 K101 h102=>⟨?_,?_⟩)
   ·rcases h102 with ⟨rfl,rfl⟩
    all_goals simp
   obtain ⟨rfl,rfl⟩:=h102;try simp only [cA]
   refine bS tQ ?_;refine bQ (pend':=[]) [336,337] Z Z Z Z Z ((zhS hT (b:=exB) (n:=1) (x:=⟨1,2⟩) x_len.1 x_len.2).mono (fun _ _ h=>or4c h x_d2)) (fun r103 K104 h105=>⟨?_,?_⟩)
   ·rcases h105 with ⟨rfl,rfl⟩
    all_goals simp
   obtain ⟨rfl,rfl⟩:=h105;try simp only [cA]
   refine bS tQ ?_;refine ad [[1,338],[5,335],[5,335],[13,340],[14]] ?_;refine au 2 ?_;refine bC [(0,_),(s,_),(h,_),(e,_),(j1,_),(j19,_),(js9,_)] ?_;refine au 4006804 ?_;refine bD Z Z Z Z (zbp hT (b:=exB) (m:=⟨0,1,5⟩) dQ) ?_;rintro r106 K107 ⟨e9,rfl,rfl⟩;refine au 400 ?_;refine bD Z Z Z Z (zbp hT (b:=exC1) (m:=⟨2,2,6⟩) dQ) ?_;rintro r109 K110 ⟨e10,rfl,rfl⟩;refine au 0 ?_;refine bD Z Z Z Z ((zju hT (b:=exC) (s:=s) (h:=h) (e:=e10) dQ dQ).mono (fun _ _ h=>orCl h x_cc x_cst (by rw [zgO]; exact fun h=>nomatch h))) ?_;rintro r112 K113 ⟨l0,j10,e11,hcl,rfl,rfl⟩;refine au 0 ?_;rw [zgO] at hcl;cases hcl;refine au 2355661 ?_;refine bC [(0,_),(j19,_),(js9,_),(j10,_)] ?_;refine bL [0,1,2,3,4,5,6,7,8,9,10,11,12,13,14,15,16,17,18,19,20,21,22,23,24,25,26,27,28,29,30,31,32,33,34,35,36,37,38,39,40,41,42,43,44,45,46,47,48,49,50,51,52,53,54,55,56,57] ?_;refine ad [[1,3],[4,350],[1,351],[1,5,352],[4,352,353],[7,352,354],[1,355],[1,7,356],[4,356,357],[7,356,358],[1,359],[1,11,360],[4,360,361],[7,360,362],[1,363],[1,14,364],[4,364,365],[7,364,366],[1,367],[1,16,368],[4,368,369],[7,368,370],[1,371],[1,18,372],[4,372,373],[7,372,374],[1,375],[1,20,376],[4,376,377],[7,376,378],[1,379],[1,28,380],[4,380,381],[7,380,382],[1,383],[1,29,384],[4,384,385],[7,384,386],[1,387],[1,15,388],[4,388,389],[7,388,390],[1,391],[12,19,392]] ?_;refine bQ (pend':=[⟨43,[19,392],[(_,_)]⟩,⟨41,[388,390],[]⟩,⟨40,[388,389],[]⟩,⟨39,[15,388],[]⟩,⟨38,[387],[]⟩,⟨37,[384,386],[]⟩,⟨36,[384,385],[]⟩,⟨35,[29,384],[]⟩,⟨34,[383],[]⟩,⟨33,[380,382],[]⟩,⟨32,[380,381],[]⟩,⟨31,[28,380],[]⟩,⟨30,[379],[]⟩,⟨29,[376,378],[]⟩,⟨28,[376,377],[]⟩,⟨27,[20,376],[]⟩,⟨26,[375],[]⟩,⟨25,[372,374],[]⟩,⟨24,[372,373],[]⟩,⟨23,[18,372],[]⟩,⟨22,[371],[]⟩,⟨21,[368,370],[]⟩,⟨20,[368,369],[]⟩,⟨19,[16,368],[]⟩,⟨18,[367],[]⟩,⟨17,[364,366],[]⟩,⟨16,[364,365],[]⟩,⟨15,[14,364],[]⟩,⟨14,[363],[]⟩,⟨13,[360,362],[]⟩,⟨12,[360,361],[]⟩,⟨11,[11,360],[]⟩,⟨10,[359],[]⟩,⟨9,[356,358],[]⟩,⟨8,[356,357],[]⟩,⟨7,[7,356],[]⟩,⟨6,[355],[]⟩,⟨5,[352,354],[]⟩,⟨4,[352,353],[]⟩,⟨3,[5,352],[]⟩,⟨2,[351],[]⟩,⟨1,[350],[]⟩,⟨0,[3],[]⟩]) [392] Z Z Z Z Z (to_ok hT) (fun r115 K116 h117=>⟨?_,?_⟩)
   ·rcases h117 with ⟨rfl,rfl⟩
    all_goals simp
   obtain ⟨rfl,rfl⟩:=h117;try simp only [cA]
   refine bS tQ ?_;refine bU [392,393,394] Z (zeW Z Z Z Z Z FlatF.h EqG.h) ?_;refine ad [[7,392,395],[1,396],[1,17,397]] ?_;refine bV (pend':=[⟨48,[17,397],[]⟩,⟨46,[392,395],[]⟩,⟨45,[392,393,394],[]⟩,⟨43,[19,392],[(_,_)]⟩,⟨41,[388,390],[]⟩,⟨40,[388,389],[]⟩,⟨39,[15,388],[]⟩,⟨38,[387],[]⟩,⟨37,[384,386],[]⟩,⟨36,[384,385],[]⟩,⟨35,[29,384],[]⟩,⟨34,[383],[]⟩,⟨33,[380,382],[]⟩,⟨32,[380,381],[]⟩,⟨31,[28,380],[]⟩,⟨30,[379],[]⟩,⟨29,[376,378],[]⟩,⟨28,[376,377],[]⟩,⟨27,[20,376],[]⟩,⟨26,[375],[]⟩,⟨25,[372,374],[]⟩,⟨24,[372,373],[]⟩,⟨23,[18,372],[]⟩,⟨22,[371],[]⟩,⟨21,[368,370],[]⟩,⟨20,[368,369],[]⟩,⟨19,[16,368],[]⟩,⟨18,[367],[]⟩,⟨17,[364,366],[]⟩,⟨16,[364,365],[]⟩,⟨15,[14,364],[]⟩,⟨14,[363],[]⟩,⟨13,[360,362],[]⟩,⟨12,[360,361],[]⟩,⟨11,[11,360],[]⟩,⟨10,[359],[]⟩,⟨9,[356,358],[]⟩,⟨8,[356,357],[]⟩,⟨7,[7,356],[]⟩,⟨6,[355],[]⟩,⟨5,[352,354],[]⟩,⟨4,[352,353],[]⟩,⟨3,[5,352],[]⟩,⟨2,[351],[]⟩,⟨1,[350],[]⟩,⟨0,[3],[]⟩]) [397] Z Z Z Z Z (zp (l:=[_]) Z zE.h TyZ.h dQ dQ Z) (fun _=>zr rfl tQ) sQ fun jq1 hjq1=>?_;refine bQ (pend':=[⟨46,[392,395],[]⟩,⟨45,[392,393,394],[]⟩,⟨43,[19,392],[(_,_)]⟩,⟨41,[388,390],[]⟩,⟨40,[388,389],[]⟩,⟨39,[15,388],[]⟩,⟨38,[387],[]⟩,⟨37,[384,386],[]⟩,⟨36,[384,385],[]⟩,⟨35,[29,384],[]⟩,⟨34,[383],[]⟩,⟨33,[380,382],[]⟩,⟨32,[380,381],[]⟩,⟨31,[28,380],[]⟩,⟨30,[379],[]⟩,⟨29,[376,378],[]⟩,⟨28,[376,377],[]⟩,⟨27,[20,376],[]⟩,⟨26,[375],[]⟩,⟨25,[372,374],[]⟩,⟨24,[372,373],[]⟩,⟨23,[18,372],[]⟩,⟨22,[371],[]⟩,⟨21,[368,370],[]⟩,⟨20,[368,369],[]⟩,⟨19,[16,368],[]⟩,⟨18,[367],[]⟩,⟨17,[364,366],[]⟩,⟨16,[364,365],[]⟩,⟨15,[14,364],[]⟩,⟨14,[363],[]⟩,⟨13,[360,362],[]⟩,⟨12,[360,361],[]⟩,⟨11,[11,360],[]⟩,⟨10,[359],[]⟩,⟨9,[356,358],[]⟩,⟨8,[356,357],[]⟩,⟨7,[7,356],[]⟩,⟨6,[355],[]⟩,⟨5,[352,354],[]⟩,⟨4,[352,353],[]⟩,⟨3,[5,352],[]⟩,⟨2,[351],[]⟩,⟨1,[350],[]⟩,⟨0,[3],[]⟩]) [397,398,399] Z Z Z Z Z ((vf hT (xs:=[1]) (ys:=[1]) (off:=0) (ob:=.cells (([1]++zs9).map intA) 3 false) (fun i x hx=>zev hx) dQ).mono (fun _ _ h=>trT h rfl)) (fun r118 K119 h120=>⟨?_,?_⟩)
   ·rcases h120 with ⟨rfl,rfl⟩
    all_goals simp
   obtain ⟨rfl,rfl⟩:=h120;try simp only [cA]
   refine bS tQ ?_;refine ad [[7,397,400],[1,401],[1,31,402]] ?_;refine bV (pend':=[⟨53,[31,402],[]⟩,⟨51,[397,400],[]⟩,⟨46,[392,395],[]⟩,⟨45,[392,393,394],[]⟩,⟨43,[19,392],[(_,_)]⟩,⟨41,[388,390],[]⟩,⟨40,[388,389],[]⟩,⟨39,[15,388],[]⟩,⟨38,[387],[]⟩,⟨37,[384,386],[]⟩,⟨36,[384,385],[]⟩,⟨35,[29,384],[]⟩,⟨34,[383],[]⟩,⟨33,[380,382],[]⟩,⟨32,[380,381],[]⟩,⟨31,[28,380],[]⟩,⟨30,[379],[]⟩,⟨29,[376,378],[]⟩,⟨28,[376,377],[]⟩,⟨27,[20,376],[]⟩,⟨26,[375],[]⟩,⟨25,[372,374],[]⟩,⟨24,[372,373],[]⟩,⟨23,[18,372],[]⟩,⟨22,[371],[]⟩,⟨21,[368,370],[]⟩,⟨20,[368,369],[]⟩,⟨19,[16,368],[]⟩,⟨18,[367],[]⟩,⟨17,[364,366],[]⟩,⟨16,[364,365],[]⟩,⟨15,[14,364],[]⟩,⟨14,[363],[]⟩,⟨13,[360,362],[]⟩,⟨12,[360,361],[]⟩,⟨11,[11,360],[]⟩,⟨10,[359],[]⟩,⟨9,[356,358],[]⟩,⟨8,[356,357],[]⟩,⟨7,[7,356],[]⟩,⟨6,[355],[]⟩,⟨5,[352,354],[]⟩,⟨4,[352,353],[]⟩,⟨3,[5,352],[]⟩,⟨2,[351],[]⟩,⟨1,[350],[]⟩,⟨0,[3],[]⟩]) [402] Z Z Z Z Z (zp (l:=[_,_]) Z zE.h TyZ.h dQ dQ Z) (fun _=>zr rfl tQ) sQ fun jq2 hjq2=>?_;refine bQ (pend':=[⟨51,[397,400],[]⟩,⟨46,[392,395],[]⟩,⟨45,[392,393,394],[]⟩,⟨43,[19,392],[(_,_)]⟩,⟨41,[388,390],[]⟩,⟨40,[388,389],[]⟩,⟨39,[15,388],[]⟩,⟨38,[387],[]⟩,⟨37,[384,386],[]⟩,⟨36,[384,385],[]⟩,⟨35,[29,384],[]⟩,⟨34,[383],[]⟩,⟨33,[380,382],[]⟩,⟨32,[380,381],[]⟩,⟨31,[28,380],[]⟩,⟨30,[379],[]⟩,⟨29,[376,378],[]⟩,⟨28,[376,377],[]⟩,⟨27,[20,376],[]⟩,⟨26,[375],[]⟩,⟨25,[372,374],[]⟩,⟨24,[372,373],[]⟩,⟨23,[18,372],[]⟩,⟨22,[371],[]⟩,⟨21,[368,370],[]⟩,⟨20,[368,369],[]⟩,⟨19,[16,368],[]⟩,⟨18,[367],[]⟩,⟨17,[364,366],[]⟩,⟨16,[364,365],[]⟩,⟨15,[14,364],[]⟩,⟨14,[363],[]⟩,⟨13,[360,362],[]⟩,⟨12,[360,361],[]⟩,⟨11,[11,360],[]⟩,⟨10,[359],[]⟩,⟨9,[356,358],[]⟩,⟨8,[356,357],[]⟩,⟨7,[7,356],[]⟩,⟨6,[355],[]⟩,⟨5,[352,354],[]⟩,⟨4,[352,353],[]⟩,⟨3,[5,352],[]⟩,⟨2,[351],[]⟩,⟨1,[350],[]⟩,⟨0,[3],[]⟩]) [402,403,404] Z Z Z Z Z ((vf hT (xs:=[0,1]) (ys:=[0,1]) (off:=0) (ob:=.cells (([0,1]:List Int).map intA) e11 false) (fun i x hx=>yr hx rfl) dQ).mono (fun _ _ h=>trT h rfl)) (fun r121 K122 h123=>⟨?_,?_⟩)
   ·rcases h123 with ⟨rfl,rfl⟩
    all_goals simp
   obtain ⟨rfl,rfl⟩:=h123;try simp only [cA]
   refine bS tQ ?_;refine ad [[7,402,405],[13,406],[14]] ?_;refine au 0 ?_;refine bB hret [(0,_)] ?_;exact ⟨rfl,rfl⟩
end Go.Vel
end
