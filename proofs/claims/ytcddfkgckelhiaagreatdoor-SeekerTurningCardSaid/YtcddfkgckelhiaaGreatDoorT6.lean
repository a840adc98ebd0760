/- Texts for the statements of chapter 9: what all of them need, part 7. It holds of every program, tape and world that the statements name, as each theorem says. -/
import Derived.Shelf.Sort.Plain
import Derived.Shelf.Slices.CompactI
import Derived.Shelf.Slices.In.SortNone
import Derived.Sort.OwnSortedInts
import Derived.Test.YtcddfkgckelhiaaGreatDoorT3
import Derived.Test.YtcddfkgckelhiaaGreatDoorT4
import Derived.Test.YtcddfkgckelhiaaGreatDoorT5
section
set_option linter.all false
set_option maxRecDepth 20000
set_option maxHeartbeats 60000000
open Go.Proofs.Tryz renaming prog -> tp
open List renaming getElem?_eq_getElem -> lA, getElem?_eq_some_iff -> lD, length_append -> lF, perm_append_comm -> lH, mem_cons -> lI, length_map -> lJ, eq_nil_of_length_eq_zero -> lK, mem_cons_of_mem -> lL, map_append -> lM, mem_of_getElem? -> lN, getElem?_set_ne -> lP, getElem?_map -> lQ, mem_singleton -> lS, mem_append -> lT, take_length -> lW, getElem?_set -> lX, mem_map -> lY, length_cons -> lZ, replicate -> mB
open List.Mem renaming head -> mC
open Array renaming getElem?_eq_some_iff -> mG, getElem?_toList -> mI
open Nat renaming le_refl -> mL, zero_le -> mN, zero_add -> mO, eq_zero_or_pos -> mP, le_trans -> mT
open Option renaming map_eq_some_iff -> mY
open Int renaming toNat_natCast -> mZ
open Go.Vel.TK renaming maskL -> bA, rt -> bB, kp -> bC, cl -> bD, loopN -> bE, a -> bH, newR -> bI, dq -> bL, perm -> bN, appR -> bO
open Go.Vel.TD renaming s -> bR, norm -> bS, y -> bT, cnewP -> bX
namespace Go.Vel
open Go Go.Conc Go.Proofs
theorem uStr:tp.underlying 9=some .string:=by kernel_rfl
theorem zin {e:Bool} (s:ByteArray):zO tp (Instr.checkKey e 10000 9 (.string s))=some ():=by
 show zO _ (Instr.checkKey e (9999+1) 9 _)=_;unfold Instr.checkKey;exact zM (ye uStr) rfl
def EnB (es:List MapEntry) (l:List (ByteArray×Value)):Prop:=es.map (fun e=>(e.key,e.val))=l.map fun p=>(Value.string p.1,p.2)
def MapB (ob:Obj) (l:List (ByteArray×Value)):Prop:=∃ es clock,ob=.map es clock/\EnB es.toList l
theorem zfz:MapB (.map #[] 0) []:=⟨#[],0,rfl,rfl⟩
def FoundB (s:ByteArray) (l:List (ByteArray×Value)) (i:Nat):Option (Nat×Value)->Prop
 | none=>∀ p∈l,p.1≠s
 | some (q,v)=>∃ j,q=i+j/\l[j]? =some (s,v)
theorem zeZ (a b:ByteArray):(a==b)=decide (a=b):=by
 obtain ⟨x⟩:=a;obtain ⟨y⟩:=b;have h:((ByteArray.mk x)==(ByteArray.mk y))=(x==y):=rfl;rw [h];by_cases e:x=y
 ·subst e; simp
 ·rw [beq_eq_false_iff_ne.2 e,decide_eq_false];intro h2;exact e (congrArg ByteArray.data h2)
theorem zfd {s:ByteArray}:∀ (es:List MapEntry) (l:List (ByteArray×Value)) (i:Nat),EnB es l->∃ r,Instr.findNow .string (.string s) es i=some r/\FoundB s l i r
 | [],[],_,_=>⟨none,rfl,fun p h=>by cases h⟩
 | [],_::_,_,h=>by simp [EnB] at h
 | _::_,[],_,h=>by simp [EnB] at h
 | e::es,p::l,i,h=>by
  simp only [EnB,List.map_cons,List.cons.injEq,Prod.mk.injEq] at h;obtain ⟨⟨h1,h2⟩,h3⟩:=h;unfold Instr.findNow;rw [h1];show ∃ r,(match some (s==p.1) with | some true=>some (some (i,e.val)) | some false=>Instr.findNow .string (.string s) es (i+1) | none=>none)=some r/\_;by_cases hs:s=p.1
  ·rw [show (s==p.1)=true by rw [zeZ]; exact decide_eq_true hs];exact ⟨_,rfl,0,rfl,by rw [h2,List.getElem?_cons_zero,hs]⟩
  ·rw [show (s==p.1)=false by rw [zeZ]; exact decide_eq_false hs];obtain ⟨r,q1,q2⟩:=zfd (s:=s) es l (i+1) h3;refine ⟨r,q1,?_⟩;cases r with
   | none =>
    intro p' hp';rcases lI.1 hp' with rfl | hp'
    ·exact fun e=>hs e.symm
    ·exact q2 p' hp'
   | some z =>
    obtain ⟨q,v⟩:=z;obtain ⟨j,q3,q4⟩:=q2;exact ⟨j+1,oQ,by rw [List.getElem?_cons_succ]; exact q4⟩
theorem ziA {s:ByteArray} {es:Array MapEntry} {l:List (ByteArray×Value)} (h:EnB es.toList l):∃ r,zO tp (Instr.findKey 9 (.string s) es.toList)=some r/\FoundB s l 0 r:=by
 obtain ⟨r,h1,h2⟩:=zfd (s:=s) es.toList l 0 h;refine ⟨r,?_,h2⟩;unfold Instr.findKey;refine zM (ye uStr) ?_;rw [h1];rfl
def setB (l:List (ByteArray×Value)) (s:ByteArray) (v:Value):Option (Nat×Value)->List (ByteArray×Value)
 | none=>l++[(s,v)]
 | some (q,_)=>l.set q (s,v)
theorem zk0 (s:ByteArray):Instr.sameBits 10000 (.string s) (.string s)=true:=by
 show Instr.sameBits (9999+1) (.string s) (.string s)=true;simp [Instr.sameBits,zeZ]
structure KeyB (P:Program):Prop where
 ck:∀ e s,zO P (Instr.checkKey e 10000 9 (.string s))=some ()
 fd:∀ (s:ByteArray) (es:Array MapEntry) (l:List (ByteArray×Value)),EnB es.toList l->∃ r,zO P (Instr.findKey 9 (.string s) es.toList)=some r/\FoundB s l 0 r
theorem keyB:KeyB tp:=⟨fun _ s=>zin s,fun s es l h=>ziA h⟩
section
variable {P:Program} {gm:Nat->Option Nat} {V:KV} {env:List AV} {o:Oper}
theorem zkW (hP:KeyB P) {t et:TypeId} {x y:Operand} {j:Nat} {s:ByteArray} {ob:Obj} {l:List (ByteArray×Value)} {ti:TypeInfo} {z:Value} {av:Value->AV} (ho:o.op=.lookup t x y true) (hx:zr gm env x=some (.map j)) (hy:zr gm env y=some (.v (.string s))) (ht:P.underlying t=some (.map 9 et)) (hi:P.info? et=some ti) (hz:ti.zero=some z) (hm:(j,.raw ob)∈V) (hf:MapB ob l) (hav:∀ φ n v,v=z\/(∃ p∈l,v=p.2)->RelV φ n (av v) v) :
  ∃ v ok,((ok=false/\(∀ p∈l,p.1≠s)/\v=z)\/(ok=true/\(s,v)∈l))/\Qk P gm env V o (.tup [av v,zm ok]):=by
 obtain ⟨es,c,rfl,hE⟩:=hf;obtain ⟨r,h1,h2⟩:=hP.fd s es l hE;have key:∀ v ok,((r=none/\v=z/\ok=false)\/∃ q,r=some (q,v)/\ok=true)->(v=z\/∃ p∈l,v=p.2)->Qk P gm env V o (.tup [av v,zm ok]):=fun v ok hq hv A hA φ F H a hg hH hE=>by
  unfold execOp; rw [ho];refine wpS_v ?_;have e1:=zu hg hE x;rw [zq hx] at e1;obtain ⟨hj,e1⟩:=vM e1;have e2:=zu hg hE y;rw [zq hy] at e2;rw [e1,inv_v e2];have hb:H (φ j).blk=some (true,.map es c):=hH.obj j _ (hA.get hm);unfold Instr.lookup;refine za _ _ _ (zz ht ?_);dsimp only;refine za _ _ _ ?_;refine ⟨true,_,hb,rfl,rfl,?_⟩;refine za _ _ _ ?_;rw [kb];refine za _ _ _ (kv _ (hP.ck _ _) ?_);refine za _ _ _ (kv _ h1 ?_);have hend:RelV φ A.length (.tup [av v,zm ok]) (.tuple #[v,.bool ok]):=.tup rfl fun k u w hu hw=>by
   match k,hu,hw with
   | 0,hu,hw=>cases hu; cases hw; exact hav _ _ _ hv
   | 1,hu,hw=>cases hu; cases hw; exact .v _
   | k+2,hu,hw=>cases hu
  rcases hq with ⟨rfl,rfl,rfl⟩ | ⟨q,rfl,rfl⟩
  ·exact za _ _ _ (kc hi hz (zW.quiet hH hend))
  ·exact zW.quiet hH hend
 cases r with
 | none=>exact ⟨z,false,.inl ⟨rfl,h2,rfl⟩,key z false (.inl ⟨rfl,rfl,rfl⟩) (.inl rfl)⟩
 | some w =>
  obtain ⟨q,v⟩:=w;obtain ⟨i,_,h3⟩:=h2;have hm':=lN h3;exact ⟨v,true,.inr ⟨rfl,hm'⟩,key v true (.inr ⟨q,rfl,rfl⟩) (.inr ⟨_,hm',rfl⟩)⟩
theorem zm1 (hP:KeyB P) {t et:TypeId} {x y w:Operand} {j:Nat} {s:ByteArray} {ob:Obj} {l:List (ByteArray×Value)} {aw:AV} {v:Value} (ho:o.op=.mapUpdate t x y w) (hx:zr gm env x=some (.map j)) (hy:zr gm env y=some (.v (.string s))) (hw:zr gm env w=some aw) (haw:toV aw=some v) (ht:P.underlying t=some (.map 9 et)) (hm:(j,.raw ob)∈V) (hf:MapB ob l) :
  ∃ ob' r,FoundB s l 0 r/\MapB ob' (setB l s v r)/\∀ A,zP V A->OpOk P gm env A o .any (A.set j (.raw ob')):=by
 obtain ⟨es,c,rfl,hE⟩:=hf;obtain ⟨r,h1,h2⟩:=hP.fd s es l hE;have key:∀ ob',MapB ob' (setB l s v r)->(∀ (H:Hp) (b:Nat) (Q:Unit->Hp->Prop),H b=some (true,.map es c)->Q () (H.put b (true,ob'))->wpS P (match r with | some (i,_)=>Instr.keyThatStays (((es[i]?).map (·.key)).getD (.string s)) (.string s) >>= fun key=>setObj b (.map (es.modify i fun e=>{ e with key:=key,val:=v }) c) | none=>setObj b (.map (es.push { key:=.string s,val:=v,born:=c }) (c+1))) H Q)->∃ ob' r,FoundB s l 0 r/\MapB ob' (setB l s v r)/\∀ A,zP V A->OpOk P gm env A o .any (A.set j (.raw ob')):=fun ob' hob hq=>by
  refine ⟨ob',r,h2,hob,fun A hA φ F H a hg hH hE=>?_⟩;unfold execOp; rw [ho];refine wpS_u ?_;have e1:=zu hg hE x;rw [zq hx] at e1;obtain ⟨hj,e1⟩:=vM e1;have e2:=zu hg hE y;rw [zq hy] at e2;have e3:=zu hg hE w;rw [zq hw] at e3;rw [e1,inv_v e2,vP haw e3];have hb:H (φ j).blk=some (true,.map es c):=hH.obj j _ (hA.get hm);unfold Instr.mapUpdate;refine za _ _ _ (zz ht ?_);dsimp only;refine za _ _ _ ?_;refine ⟨true,_,hb,rfl,rfl,?_⟩;refine za _ _ _ (kv _ (hP.ck _ _) ?_);refine za _ _ _ (kv _ h1 ?_);exact hq H _ _ hb ⟨undef,φ,.inr ⟨rfl,rfl⟩,Agr.refl _ _,by simp,hH.set (hA.get hm) rfl trivial (Hp.put_same _ _ _),.any _⟩
 cases r with
 | none =>
  refine key (.map (es.push { key:=.string s,val:=v,born:=c }) (c+1)) ⟨_,_,rfl,?_⟩ fun H b Q hb hq=>⟨_,hb,rfl,rfl,hq⟩;show EnB (es.push _).toList (l++[(s,v)]);unfold EnB at hE ⊢;rw [Array.toList_push,lM,lM,hE];rfl
 | some z =>
  obtain ⟨q,v0⟩:=z;obtain ⟨i,hqi,h3⟩:=h2;obtain rfl:q=i:=by omega
  have hq2:∃ en,es[q]? =some en/\en.key=.string s:=by
   unfold EnB at hE;have h4:=congrArg (fun l=>l[q]?) hE;simp only [lQ,h3,Option.map_some,mI] at h4;cases hes:es[q]? with
   | none=>rw [hes] at h4; cases h4
   | some en =>
    rw [hes] at h4;simp only [Option.map_some,Option.some.injEq,Prod.mk.injEq] at h4;exact ⟨en,rfl,h4.1⟩
  obtain ⟨en,he1,he2⟩:=hq2;refine key (.map (es.modify q fun e=>{ e with key:=.string s,val:=v }) c) ⟨_,_,rfl,?_⟩ fun H b Q hb hq=>?_
  ·show EnB (es.modify q _).toList (l.set q (s,v));unfold EnB at hE ⊢;rw [Array.toList_modify,List.map_set,<- hE];refine List.ext_getElem? fun k=>?_;rw [lQ,List.getElem?_modify,lX,lQ];by_cases hk:q=k
   ·subst hk;have hl:q<es.toList.length:=by
     have:=(mG.1 he1).1;simpa using this
    rw [if_pos rfl,lJ,if_pos hl,mI,he1];simp
   ·rw [if_neg hk];cases es.toList[k]? with
    | none=>rfl
    | some e=>simp [hk]
  ·dsimp only;rw [he1];have hks:Instr.keyThatStays (((some en).map (·.key)).getD (.string s)) (.string s)=(pure (.string s):Sem Value):=by
    show Instr.keyThatStays en.key (.string s)=_;rw [he2];unfold Instr.keyThatStays;rw [zk0];rfl
   rw [hks];refine za _ _ _ ?_;rw [kb];exact ⟨_,hb,rfl,rfl,hq⟩
theorem zkX (hP:KeyB P) {t et:TypeId} {x y:Operand} {j:Nat} {s:ByteArray} {ob:Obj} {l:List (ByteArray×Value)} {ti:TypeInfo} {z:Value} {az:AV} (ho:o.op=.lookup t x y false) (hx:zr gm env x=some (.map j)) (hy:zr gm env y=some (.v (.string s))) (ht:P.underlying t=some (.map 9 et)) (hi:P.info? et=some ti) (hz:ti.zero=some z) (haz:∀ φ n,RelV φ n az z) (hm:(j,.raw ob)∈V) (hf:MapB ob l) (hno:∀ v,(s,v)∉l):Qk P gm env V o az:=by
 obtain ⟨es,c,rfl,hE⟩:=hf;obtain ⟨r,h1,h2⟩:=hP.fd s es l hE;intro A hA φ F H a hg hH hE;unfold execOp; rw [ho];refine wpS_v ?_;have e1:=zu hg hE x;rw [zq hx] at e1;obtain ⟨hj,e1⟩:=vM e1;have e2:=zu hg hE y;rw [zq hy] at e2;rw [e1,inv_v e2];have hb:H (φ j).blk=some (true,.map es c):=hH.obj j _ (hA.get hm);unfold Instr.lookup;refine za _ _ _ (zz ht ?_);dsimp only;refine za _ _ _ ?_;refine ⟨true,_,hb,rfl,rfl,?_⟩;refine za _ _ _ ?_;rw [kb];refine za _ _ _ (kv _ (hP.ck _ _) ?_);refine za _ _ _ (kv _ h1 ?_);cases r with
 | none=>exact za _ _ _ (kc hi hz (zW.quiet hH (haz _ _)))
 | some w =>
  obtain ⟨q,v⟩:=w;obtain ⟨i,_,h3⟩:=h2;exact absurd (lN h3) (hno v)
end
section
variable {P:Program} {gm:Nat->Option Nat} {T:Goroutine->Hp->Prop} {Y:KX P gm T} {ds:List Nat} {k:List Item} {env:List AV} {K:KV} {ops:Array Oper} {i:Nat} {rest:List Nat} {o:Oper}
theorem TK.updB (hP:KeyB P) {t et:TypeId} {x y w:Operand} {j:Nat} {s:ByteArray} {ob:Obj} {l:List (ByteArray×Value)} {aw:AV} {v:Value} {K':Obj->KV} (ho:ops[i]? =some o) (hop:o.op=.mapUpdate t x y w) (hd:yc o.op=false) (hwa:yd ops env o=some true) (hdst:o.dst=none) (hx:zr gm env x=some (.map j)) (hy:zr gm env y=some (.v (.string s))) (hw:zr gm env w=some aw) (haw:toV aw=some v) (ht:P.underlying t=some (.map 9 et)) (hm:(j,.raw ob)∈K) (hf:MapB ob l)
  (hu:∀ ob',Upd K j (.raw ob) j (.raw ob') (K' ob')) (h:∀ ob' r,FoundB s l 0 r->MapB ob' (setB l s v r)->TK Y ds (.inRegion ops rest::k) env (K' ob')):TK Y ds (.inRegion ops (i::rest)::k) env K:=by
 obtain ⟨ob',r,h0,h1,h2⟩:=zm1 (V:=K) hP hop hx hy hw haw ht hm hf;exact TK.st ho hd hwa h2 (hu ob') (by rw [hdst]; rfl) (h ob' r h0 h1)
theorem TK.lookB2 (hP:KeyB P) {t et:TypeId} {x y:Operand} {j:Nat} {s:ByteArray} {ob:Obj} {l:List (ByteArray×Value)} {ti:TypeInfo} {z:Value} {av:Value->AV} (ho:ops[i]? =some o) (hop:o.op=.lookup t x y true) (hd:yc o.op=false) (hwa:yd ops env o=some true) (hx:zr gm env x=some (.map j)) (hy:zr gm env y=some (.v (.string s))) (ht:P.underlying t=some (.map 9 et)) (hi:P.info? et=some ti) (hz:ti.zero=some z) (hm:(j,.raw ob)∈K) (hf:MapB ob l) (hav:∀ φ n v,v=z\/(∃ p∈l,v=p.2)->RelV φ n (av v) v)
  (h:∀ v ok,((ok=false/\(∀ p∈l,p.1≠s)/\v=z)\/(ok=true/\(s,v)∈l))->TK Y ds (.inRegion ops rest::k) (putA env o.dst (.tup [av v,zm ok])) K):TK Y ds (.inRegion ops (i::rest)::k) env K:=by
 obtain ⟨v,ok,h1,h2⟩:=zkW (V:=K) hP hop hx hy ht hi hz hm hf hav;exact TK.q ho hd hwa h2 rfl (h v ok h1)
end
def bkS (n:Int):Bk:=⟨n,0,0,0,[],[]⟩
structure SlRound (b:SlB):Prop where
 st:4<=b.steps/\b.steps<=12
 di:0<=b.dirty/\b.dirty<=2
 sp:1<=b.slope/\b.slope<=4
 sh : -3<=b.lo/\b.lo<=b.hi/\b.hi<=3
 wd:b.hi - b.lo<3
 cl:∀ i (h:i<b.clean.length),0<=b.clean[i]/\b.clean[i]<b.steps/\∀ h0:0<i,b.clean[i - 1]'oQ<b.clean[i]
 rg:2<=b.rf/\b.rf<=30/\2<=b.rh/\b.rh<=60/\0<=b.cf/\b.cf<=b.rf/\1<=b.ch/\b.ch<=60/\b.ch<b.rh
instance:Cal tp 158:={}
instance:Cal tp 159:={}
instance:Cal tp 160:={}
instance:Cal tp 198:={}
instance:Cal tp 82:={}
instance:Cal tp 83:={}
theorem zaV {b:Bk}:∀ (rest S T:List Int),T.Sublist rest->T≠[]->((S++T).length:Int)<=b.high->seenM b (S++T)=true->S++T∈loopM b S rest
 | [],S,T,hs,hne,_,_=>absurd (List.sublist_nil.1 hs) hne
 | n::rest,S,T,hs,hne,hl,hsn=>by
  have hlt:(S.length:Int)<b.high:=by
   have:0<T.length:=List.length_pos_iff.2 hne;rw [lF] at hl;omega
  unfold loopM;rw [if_pos hlt];cases hs with
  | cons _ h=>exact lT.2 (.inr (zaV rest S T h hne hl hsn))
  | cons_cons _ h =>
   rename_i T';refine lT.2 (.inl ?_);rw [show S++n::T'=(S++[n])++T' by simp] at hl hsn ⊢;by_cases h0:T'=[]
   ·subst h0;rw [List.append_nil] at hl hsn ⊢;refine lT.2 (.inl ?_);unfold ownM;rw [if_pos hsn];exact lS.2 rfl
   ·exact lT.2 (.inr (zaV rest (S++[n]) T' h h0 hl hsn))
theorem zcp {b:Bk}:∀ (m i:Nat) (xs:List Int),b.steps.toNat - i=m->xs.Pairwise (· < ·)->(∀ x∈xs,(i:Int)<=x/\x<b.steps)->xs.Sublist (restM b i)
 | _,_,[],_,_,_=>List.nil_sublist _
 | 0,i,x::xs,hm,_,hb=>by have:=hb x sQ; omega
 | m+1,i,x::xs,hm,hp,hb=>by
  rw [zcU oQ];have h2:=List.pairwise_cons.1 hp;by_cases hx:x=i
  ·subst hx;refine .cons_cons _ (zcp m (i+1) xs oQ h2.2 fun y hy=>?_);have:=h2.1 y hy;have:=hb y (by simp [hy]);omega
  ·refine .cons _ (zcp m (i+1) (x::xs) oQ hp fun y hy=>?_);have h3:=hb x sQ;have h4:=hb y hy;rcases lI.1 hy with rfl | hy
   ·omega
   ·have:=h2.1 y hy; omega
def objsL (P:List (Nat×List Int)):KV:=P.map fun x=>(x.1,.cells (x.2.map intA) 3 false)
def refsL (P:List (Nat×List Int)):List AV:=P.map fun x=>.sl x.1 0 x.2.length
theorem zi0 (P:List (Nat×List Int)) (x:Nat×List Int):objsL (P++[x])=objsL P++[(x.1,.cells (x.2.map intA) 3 false)]:=by simp [objsL]
theorem zjp (P:List (Nat×List Int)) (x:Nat×List Int):refsL (P++[x])=refsL P++[.sl x.1 0 x.2.length]:=by simp [refsL]
theorem vw {P:List (Nat×List Int)} {x:Nat×List Int} (h:x∈P):(x.1,AObj.cells (x.2.map intA) 3 false)∈objsL P:=lY.2 ⟨x,h,rfl⟩
theorem zeo {P:List (Nat×List Int)} {k:Nat} (h:k<P.length) {e:TypeId} {sz:Nat}:zZ (.row (refsL P) e sz) k 1=some [.sl P[k].1 0 P[k].2.length]:=by
 simp only [zZ,AObj.look];rw [if_pos (by simp [refsL]; omega)];simp [List.take_one,refsL,h]
abbrev Gs:=Nat×List Int×Int
def objsG (P:List Gs):KV:=P.map fun x=>(x.1,.cells (x.2.1.map intA) 3 false)
def refsG (P:List Gs):List AV:=P.flatMap fun x=>[.sl x.1 0 x.2.1.length,intA x.2.2]
theorem ziZ (P:List Gs) (x:Gs):objsG (P++[x])=objsG P++[(x.1,.cells (x.2.1.map intA) 3 false)]:=by simp [objsG]
theorem zjo (P:List Gs) (x:Gs):refsG (P++[x])=refsG P++[.sl x.1 0 x.2.1.length,intA x.2.2]:=by simp [refsG]
theorem wE {P:List Gs} {x:Gs} (h:x∈P):(x.1,AObj.cells (x.2.1.map intA) 3 false)∈objsG P:=lY.2 ⟨x,h,rfl⟩
theorem zen (P:List Gs):(refsG P).length=P.length*2:=yk _ 2 (fun _=>rfl) P
theorem zaj {P:List Gs} {k:Nat} (h:k<P.length) {e:TypeId} {sz:Nat}:zZ (.row (refsG P) e sz) (k*2) 2=some [.sl P[k].1 0 P[k].2.1.length,intA P[k].2.2]:=by
 have hle:(k+1)*2<=P.length*2:=Nat.mul_le_mul_right _ h;have hl:=zen P;simp only [zZ,AObj.look];rw [if_pos ⟨by omega,oQ⟩];unfold refsG;rw [kC _ 2 (fun _=>rfl) _ _ h]
theorem uT {α β:Type} (f:α->β) (lt:β->β->Bool) (o:α) (xs:List α):f (zR (fun a c=>lt (f a) (f c)) o xs)=zR lt (f o) (xs.map f):=by
 induction xs generalizing o with
 | nil=>rfl
 | cons x xs ih =>
  show f (zR _ (if lt (f x) (f o)=true then x else o) xs)=zR lt (if lt (f x) (f o)=true then f x else f o) (xs.map f);rw [ih];split <;> rfl
def bitsM (n bits:Nat):List Int:=((List.range n).filter (bitB bits)).map fun k:Nat=>(k:Int)
theorem zgP {n bits:Nat} (h:bitB bits n=true):bitsM (n+1) bits=bitsM n bits++[(n:Int)]:=by
 unfold bitsM; rw [List.range_succ,List.filter_append]; simp [h]
theorem zgO {n bits:Nat} (h:bitB bits n=false):bitsM (n+1) bits=bitsM n bits:=by
 unfold bitsM; rw [List.range_succ,List.filter_append]; simp [h]
theorem zdN (n bits:Nat):(bitsM n bits).length<=n:=by
 unfold bitsM; rw [lJ]; exact mT (List.length_filter_le _ _) sQ
def oddM (b:Bk) (k:Nat):List (List Int):=((List.range k).filter fun bits => !togM b bits).map (bitsM b.seekers.length)
theorem zmM {b:Bk} {k:Nat} (h:togM b k=true):oddM b (k+1)=oddM b k:=by
 unfold oddM; rw [List.range_succ,List.filter_append]; simp [h]
theorem zi1 {b:Bk} {k:Nat} (h:togM b k=false):oddM b (k+1)=oddM b k++[bitsM b.seekers.length k]:=by
 unfold oddM; rw [List.range_succ,List.filter_append]; simp [h]
theorem zkH (b:Bk) (k:Nat):(oddM b k).length<=k:=by
 unfold oddM; rw [lJ]; exact mT (List.length_filter_le _ _) sQ
theorem zkG {b:Bk} {k:Nat}:∀ L∈oddM b k,L.length<=b.seekers.length:=fun L hL=>by
 obtain ⟨q,_,rfl⟩:=lY.1 hL;exact zdN _ _
def everyM (b:Bk):Nat:=2 ^ b.seekers.length - 1
def clashM (b:Bk):List Int:=zR ltLists ((oddM b (everyM b+1)).headD []) ((oddM b (everyM b+1)).drop 1)
def guessM (b:Bk) (pre:List (List Int)):List (List Int×Int):=(pre.filter fun S => !badM b S b.seekers.length).map fun S=>(S,wrongM b S)
theorem zko {b:Bk} {pre:List (List Int)} {S:List Int} (h:badM b S b.seekers.length=false):guessM b (pre++[S])=guessM b pre++[(S,wrongM b S)]:=by
 unfold guessM; rw [List.filter_append]; simp [h]
theorem zkn {b:Bk} {pre:List (List Int)} {S:List Int} (h:badM b S b.seekers.length=true):guessM b (pre++[S])=guessM b pre:=by
 unfold guessM; rw [List.filter_append]; simp [h]
def likelyM (b:Bk):List Int×Int:=zR ltGuess ((guessM b (allM b)).headD ([],0)) ((guessM b (allM b)).drop 1)
theorem ze4 {main:Bool} {T:Goroutine->Hp->Prop} (hT:zh tp main T)  {b:Bk} {s e:Nat} (hse:s≠e) (hn:∀ x∈b.seekers,x.name.size<=1000) (hl:b.seen.length<=1000) :
  zg tp T gmS 44 [.agg (zx b s e)] [(0,zw),(1,zA),(s,zn b),(e,zo b)] (fun r K'=>(checkM b≠0/\r=.tup [.v (.slice none 0 0),intA (checkM b)]/\K'=[(0,zw),(1,zA),(s,zn b),(e,zo b)])\/(checkM b=0/\togM b (everyM b)=true/\r=.tup [.v (.slice none 0 0),intA 0]/\K'=[(0,zw),(1,zA),(s,zn b),(e,zo b)])\/(checkM b=0/\togM b (everyM b)=false/\∃ j,r=.tup [.sl j 0 (clashM b).length,intA 0]/\K'=[(0,zw),(1,zA),(s,zn b),(e,zo b),(j,.cells ((clashM b).map intA) 3 false)])):=by
 refine ze 60 hT Tryz.func44 fun Y hret=>?_;refine au 21042 ?_;intro jb hjb;refine au 680422355 ?_;refine bD Z Z Z Z (kP hT (b:=b) (s:=s) (e:=e) hn hl) ?_;rintro r1 K2 ⟨rfl,rfl⟩;refine au 93714235 ?_;constructor<;>intro hc0
 ·refine au 355142 ?_;refine bB hret [(0,_),(1,_),(s,_),(e,_)] ?_;exact .inl ⟨by simpa using hc0,rfl,rfl⟩
 have hck:checkM b=0:=by simpa using hc0
 have hb:=yo hck;have hn5:=hb.ns;have hp32:2 ^ b.seekers.length<=32:=mT (Nat.pow_le_pow_right oQ hn5) dQ;have hp1:1<=2 ^ b.seekers.length:=Nat.one_le_two_pow;have hev:(((2 ^ b.seekers.length:Nat):Int) - 1)=((everyM b:Nat):Int):=by unfold everyM; omega
 have hel:everyM b<=31:=by unfold everyM; omega
 refine au 28069067042120 ?_;refine bH Z (zmV Z Z Z oQ) ?_;refine bH Z (q_sub Z Z Z (by rw [hev]; omega)) ?_;rw [hev];refine au 143068042235 ?_;refine bD Z Z Z Z (zbQ hT (bits:=everyM b) hse hb oQ) ?_;rintro r4 K5 ⟨rfl,rfl⟩;refine au 93 ?_;constructor<;>intro hc1
 ·refine au 35542 ?_;refine bB hret [(0,_),(1,_),(s,_),(e,_)] ?_;exact .inr (.inl ⟨hck,hc1,rfl,rfl⟩)
 refine au 542120 ?_;refine TK.virt 6 61 1 Z fun jo0 hjo0=>?_;refine au 1303123014223 ?_;refine bA [1,6,25,26] ?_;refine bC [(jo0,_),(jb,_),(0,_),(1,_),(s,_),(e,_)] ?_;refine bE (fun n env K=>∃ (i jo:Nat) (P:List (Nat×List Int)),n=everyM b+1 - i/\i<=everyM b+1/\P.map (·.2)=oddM b i/\env=zJ 60 [(1,.ptr jb 0),(6,.row jo P.length),(25,intA (everyM b+1)),(26,intA i)]/\K=(jo,.row (refsL P) 61 1)::(jb,.cells (zx b s e) 27 true)::(0,zw)::(1,zA)::(s,zn b)::(e,zo b)::objsL P) (everyM b+1) ⟨0,jo0,[],rfl,mN _,rfl,rfl,rfl⟩ fun n env K hI' hnext=>?_;obtain ⟨i,jo,P,rfl,hi,hP,rfl,rfl⟩:=hI';have hPl:P.length<=i:=by have:=zkH b i; rw [<- hP,lJ] at this; exact this
 refine au 923742 ?_;constructor<;>intro hc2
 ·simp only [decide_eq_true_eq] at hc2;have hil:i<everyM b+1:=by omega
  refine au 1430680422351421302120 ?_;refine bD Z Z Z Z (zbQ hT (bits:=i) hse hb oQ) ?_;rintro r7 K8 ⟨rfl,rfl⟩;refine au 93 ?_;constructor<;>intro hc3
  ·refine au 160 ?_;refine au 312304 ?_;refine bA [1,6,25,26] ?_;refine bC (((jo,_)::(jb,_)::(0,_)::(1,_)::(s,_)::(e,_)::objsL P)) ?_;exact hnext _ _ _ oQ ⟨i+1,jo,P,rfl,oQ,by rw [zmM hc3]; exact hP,rfl,rfl⟩
  refine au 542120 ?_;refine TK.virt 8 3 1 Z fun j80 hj80=>?_;refine au 130312806906704223 ?_;refine bA [1,6,7,8,25,26,35,36] ?_;refine bC ((j80,_)::(jo,_)::(jb,_)::(0,_)::(1,_)::(s,_)::(e,_)::objsL P) ?_;refine bE (fun n env K=>∃ (q j8:Nat),n=b.seekers.length - q/\q<=b.seekers.length/\env=zJ 60 [(1,.ptr jb 0),(6,.row jo P.length),(7,intA i),(8,.row j8 (bitsM q i).length),(25,intA (everyM b+1)),(26,intA i),(35,intA b.seekers.length),(36,intA q)]/\K=(j8,.row ((bitsM q i).map intA) 3 1)::(jo,.row (refsL P) 61 1)::(jb,.cells (zx b s e) 27 true)::(0,zw)::(1,zA)::(s,zn b)::(e,zo b)::objsL P) b.seekers.length ⟨0,j80,rfl,mN _,rfl,rfl⟩ fun n env K hI' hnext2=>?_;obtain ⟨q,j8,rfl,hq,rfl,rfl⟩:=hI';have hql2:=zdN q i;refine au 923742 ?_;constructor<;>intro hc4
  ·simp only [decide_eq_true_eq] at hc4;have hql:q<b.seekers.length:=by omega
   refine au 1142351421302120 ?_;refine bH Z (zjl Z Z Z oQ) ?_;refine bH Z (zjg Z Z Z (by have:=Nat.div_le_self i (2 ^ q); omega)) ?_;refine au 937 ?_;constructor<;>intro hc5
   ·have hc5:bitB i q=true:=hc5;refine au 114 ?_;refine bI Z Z Z (zG (l:=[_]) Z SlEl.h TyZ.h dQ dQ Z) (fun _=>zy rfl tQ) fun j10 hj10=>?_;refine bO Z Z Z (a_app Z ApOf.h Z mQ (by simp <;> omega) Z (yS (ln:=[_]) mQ dQ sQ Z) oQ Z (by unfold maxLen; omega) oQ) (fun _=>uQ) (fun _=>zy rfl tQ) fun j82=>?_;refine au 31230414035 ?_;refine bA [1,6,7,8,25,26,35,36] ?_;refine bC (((j82,_)::(jo,_)::(jb,_)::(0,_)::(1,_)::(s,_)::(e,_)::objsL P)) ?_;exact hnext2 _ _ _ oQ ⟨q+1,j82,rfl,oQ,by rw [zgP hc5,lF]; rfl,by rw [zgP hc5,lM]; rfl⟩
   have hc5:bitB i q=false:=hc5;refine au 312304140120 ?_;refine bA [1,6,7,8,25,26,35,36] ?_;refine bC (((j8,_)::(jo,_)::(jb,_)::(0,_)::(1,_)::(s,_)::(e,_)::objsL P)) ?_;exact hnext2 _ _ _ oQ ⟨q+1,j8,rfl,oQ,by rw [zgO hc5] <;> rfl,by rw [zgO hc5] <;> rfl⟩
  simp only [decide_eq_false_iff_not] at hc4;obtain rfl:q=b.seekers.length:=by omega
  refine au 160 ?_;refine TK.freezeR 8 Z uQ Z ?_;refine au 114 ?_;refine bI Z Z Z (zG (l:=[_]) Z SlEl.h TyZ.h dQ dQ Z) (fun _=>zy rfl tQ) fun j19 hj19=>?_;refine bO Z Z Z (a_app Z ApOf.h Z mQ (by simp [refsL]) Z (yS (ln:=[_]) mQ dQ sQ Z) oQ Z (by unfold maxLen; omega) oQ) (fun _=>uQ) (fun _=>zy rfl tQ) fun jo2=>?_;refine au 14035 ?_;refine au 312304 ?_;refine bA [1,6,25,26] ?_;refine bC (((j8,_)::(jo2,_)::(jb,_)::(0,_)::(1,_)::(s,_)::(e,_)::objsL P)) ?_;refine bN (K':=(jo2,.row (refsL (P++[(j8,bitsM b.seekers.length i)])) 61 1)::(jb,.cells (zx b s e) 27 true)::(0,zw)::(1,zA)::(s,zn b)::(e,zo b)::objsL (P++[(j8,bitsM b.seekers.length i)])) (by rw [zi0,zjp]; exact (List.perm_append_singleton _ ((jo2,_)::(jb,_)::(0,_)::(1,_)::(s,_)::(e,_)::objsL P)).symm) ?_;exact hnext _ _ _ oQ ⟨i+1,jo2,P++[(j8,bitsM b.seekers.length i)],rfl,oQ,by rw [zi1 hc3,lM,hP]; rfl,by rw [lF]; rfl,rfl⟩
 simp only [decide_eq_false_iff_not] at hc2;obtain rfl:i=everyM b+1:=by omega
 obtain ⟨p,ps,rfl⟩:∃ p ps,P=p::ps:=by
  cases P with
  | nil =>
   rw [zi1 hc1] at hP;have:=congrArg List.length hP;simp at this
  | cons p ps=>exact ⟨p,ps,rfl⟩
 have hlen:∀ x∈p::ps,x.2.length<=1000:=fun x hx=>by
  have:=zkG (b:=b) (k:=everyM b+1) x.2 (by rw [<- hP]; exact List.mem_map_of_mem (f:=fun x:Nat×List Int=>x.2) hx);omega
 refine au 2160 ?_;refine bL [0,1,2,3,4,5,6,7] ?_;refine ad [[1,6]] ?_;refine bT [54] Z (hq:=wR Z Z Z SlEl.h (mC _) (by first | omega | (simp only [lZ]; omega)) (by first | omega | (simp only [lZ]; omega))) (h:=?_);refine bT [55] Z (hq:=zp Z Z zd.h (mC _) (zeo (k:=0) sQ)) (h:=?_);refine ad [[1,6]] ?_;refine bT [57] Z (hq:=zai Z Z SlEl.h (mC _) Z Z (by first | omega | (simp only [lZ]; omega)) (by first | omega | (simp only [lZ]; omega)) Z) (h:=?_);refine TD.cl (pend':=[⟨3,[6],[]⟩,⟨1,[54],[(_,_)]⟩,⟨0,[6],[]⟩]) [56,58] Z Z Z Z Z (zfg hT (o:=p) (xs:=ps) (lt:=fun a c=>ltLists a.2 c.2) (fv:=.fn 125 [] []) (jo:=jo) (off:=1) (obo:=.row (refsL (p::ps)) 61 1) (K:=(jo,.row (refsL (p::ps)) 61 1)::objsL (p::ps)) (by simp at hPl; omega) sQ (fun k hk=>by rw [show 1+((k:Int)).toNat*1=k+1 by rw [mZ]; omega]; exact zeo (P:=p::ps) (k:=k+1) (by simpa using hk)) (fun x hx y hy=>yz Cal.h (zio hT (lL _ (vw hx)) (lL _ (vw hy)) (yp _ _ _) (yp _ _ _) (hlen x hx) (hlen y hy)))) (fun r11 K12 h13=>⟨?_,?_⟩)
 ·rcases h13 with ⟨rfl,rfl⟩
  all_goals simp
 obtain ⟨rfl,rfl⟩:=h13;try simp only [cA]
 refine bS tQ ?_;refine TD.perm (List.Perm.cons _ lH) ?_;simp only [cA];generalize hres0:zR (fun (a c:Nat×List Int)=>ltLists a.2 c.2) p ps=res;have hmem:res∈p::ps:=hres0 ▸ ke;obtain ⟨R1,hR1⟩:=kf (vw hmem);have hcl:res.2=clashM b:=by
  rw [<- hres0,uT (fun x:Nat×List Int=>x.2)];unfold clashM;rw [<- hP]; rfl
 refine ad [[13,59],[13],[14]] ?_;refine au 0 ?_;refine bB hret [(0,_),(1,_),(s,_),(e,_),(res.1,.cells (res.2.map intA) 3 false)] ?_ (hs:=(by repeat (first | exact Split.none _ | exact Split.all _ | (apply Split.rem; repeat (first | exact Rem.head | exact hR1 | apply Rem.tail)) | apply Split.right)));refine .inr (.inr ⟨hck,hc1,res.1,?_,?_⟩)
 ·rw [<- hcl]; rfl
 ·rw [<- hcl]
theorem zd7 {main:Bool} {T:Goroutine->Hp->Prop} (hT:zh tp main T)  {b:Bk} {s e:Nat} (hse:s≠e) (hn:∀ x∈b.seekers,x.name.size<=1000) (hl:b.seen.length<=1000) :
  zg tp T gmS 43 [.agg (zx b s e)] [(0,zw),(1,zA),(s,zn b),(e,zo b)] (fun r K'=>(checkM b≠0/\r=.tup [.v (.slice none 0 0),intA 0,zm false,intA (checkM b)]/\K'=[(0,zw),(1,zA),(s,zn b),(e,zo b)])\/(checkM b=0/\guessM b (allM b)=[]/\r=.tup [.v (.slice none 0 0),intA 0,zm false,intA 0]/\K'=[(0,zw),(1,zA),(s,zn b),(e,zo b)])\/(checkM b=0/\guessM b (allM b)≠[]/\∃ j,r=.tup [.sl j 0 (likelyM b).1.length,intA (likelyM b).2,zm true,intA 0]/\K'=[(0,zw),(1,zA),(s,zn b),(e,zo b),(j,.cells ((likelyM b).1.map intA) 3 false)])):=by
 refine vo 50 hT Tryz.func43 fun Y hro hret=>?_;refine au 21042 ?_;intro jb hjb;refine au 68042235555 ?_;refine bD Z Z Z Z (kP hT (b:=b) (s:=s) (e:=e) hn hl) ?_;rintro r1 K2 ⟨rfl,rfl⟩;refine au 93714235 ?_;constructor<;>intro hc0
 ·refine au 35555142 ?_;refine TK.leave (.ret _) fun A hA=>hret _ _ _ _ ([(0,_),(1,_),(s,_),(e,_)]) ([(0,_),(1,_),(s,_),(e,_)]) _ _ _ (.inr rfl) (by repeat (first | exact Split.none _ | exact Split.all _ | (apply Split.rem; repeat (first | exact Rem.head | apply Rem.tail)) | apply Split.right)) sQ sQ (by repeat (first | exact Split.none _ | exact Split.all _ | (apply Split.rem; repeat (first | exact Rem.head | apply Rem.tail)) | apply Split.right)) (y7 (.cons (zS Z) (.cons (zS Z) (.cons (zS Z) (.cons (zS Z) ResKs.nil)))) rfl) ?_ A hA;exact .inl ⟨by simpa using hc0,rfl,rfl⟩
 have hck:checkM b=0:=by simpa using hc0
 have hb:=yo hck;refine au 22043068042120 ?_;intro jx hjx;refine au 220423170 ?_;intro jl hjl;refine TK.virtC (t:=234) (e:=238) (size:=2) (fun _=>uQ) fun jo0 hjo0=>?_;refine au 13033206804223 ?_;refine TK.rangeAll hT hb (s:=s) (e:=e) (K0:=(jl,.cells [.row jo0 0] 234 true)::(jo0,.row [] 238 2)::(jx,.cells (zx b s e) 205 true)::(1,zA)::(s,zn b)::[]) (J:=fun pre K1=>∃ (jo:Nat) (P:List Gs),P.map (·.2)=guessM b pre/\K1=(jl,.cells [.row jo P.length] 234 true)::(jo,.row (refsG P) 238 2)::(jx,.cells (zx b s e) 205 true)::(1,zA)::(s,zn b)::objsG P) (D:=fun _ _=>False) rfl hro rfl (by repeat (first | exact Split.none _ | exact Split.all _ | (apply Split.rem; repeat (first | exact Rem.head | apply Rem.tail)) | apply Split.right)) ⟨jo0,[],rfl,rfl⟩ (fun Y' l lo lb pre S K1 hbegin hfin hout hpre hJ=>?_) (fun d K2 hJ=>?_) (fun d c K2 hD=>?_)
 ·obtain ⟨jo,P,hP,rfl⟩:=hJ;have hSm:=uL hb hpre;have hpl:=zgZ hb hpre (fun S => !badM b S b.seekers.length);have hPl:P.length<=65536:=by have:=congrArg List.length hP; unfold guessM at this; simp only [lJ] at this; omega
  refine au 2204 ?_;intro j4 hj4;refine au 3170 ?_;refine hbegin _ _ _ _ _ uQ ?_;refine au 68068042130 ?_;refine bD Z Z Z Z (zgf hT (s:=s) (e:=e) hb hSm) ?_;rintro r5 K6 ⟨rfl,rfl⟩;refine au 93142355661 ?_;constructor<;>intro hc1
  ·have hwr:0<=wrongM b S/\wrongM b S<=100:=by unfold wrongM; have:=zeN b S b.seekers.length; have:=hb.ns; split <;> omega
   refine TK.dr [0,1,3,2,4,5,6,7] [0,1,2,3,4,5,6,7] ?_;refine ad [[10,8],[12,9],[1,10]] ?_;refine TD.cl (pend':=[⟨3,[10],[]⟩,⟨0,[8],[(_,_)]⟩]) [31] Z Z Z Z Z (zkw hT hSm.len fun x hx=>⟨(hSm.mem x hx).1,by have:=(hSm.mem x hx).2; have:=hb.steps; omega⟩) (fun r8 K9 h10=>⟨?_,?_⟩)
   ·rcases h10 with ⟨jr,rfl,rfl⟩
    all_goals simp
   obtain ⟨jr,rfl,rfl⟩:=h10;try simp only [cA]
   refine bS tQ ?_;refine TD.z [32,33] Z (y5 (l:=[_,_]) Z TyZ.h BlOf.h Z) ?_;refine TD.cnewR (pend':=[⟨3,[10],[]⟩,⟨0,[8],[(_,_)]⟩]) [34] Z Z Z Z Z (zG (l:=[_,_]) Z SlEl.h TyZ.h dQ dQ Z) (fun _=>zy rfl tQ) sQ fun j11 hj11=>?_;refine TD.capp (pend':=[⟨3,[10],[]⟩]) [30,35] Z Z Z Z Z (a_app Z ApOf.h Z mQ (zen P) Z (yS (ln:=[_,_]) mQ dQ sQ Z) oQ Z (by unfold maxLen; omega) oQ) (fun _=>uQ) (fun _=>zy rfl tQ) (fun _=>sQ) fun jo2=>?_;refine bR (pend':=[]) [8,36] Z Z (zt Z Z zd.h Z Z mQ Z) ?_;refine ad [[14]] ?_;refine au 140 ?_;refine bC ((l,lb)::(e,zo b)::(jr,_)::(jl,_)::(jo2,_)::(jx,_)::(1,_)::(s,_)::objsG P) ?_;refine bN (K':=(l,lb)::(e,zo b)::(jl,_)::(jo2,_)::(jx,_)::(1,_)::(s,_)::objsG (P++[(jr,S,wrongM b S)])) (by rw [ziZ]; exact (List.Perm.cons _ (List.Perm.cons _ (List.perm_append_singleton _ ((jl,_)::(jo2,_)::(jx,_)::(1,_)::(s,_)::objsG P)).symm))) ?_;exact hfin _ _ ((jl,_)::(jo2,_)::(jx,_)::(1,_)::(s,_)::objsG (P++[(jr,S,wrongM b S)])) _ (.all _) ⟨jo2,P++[(jr,S,wrongM b S)],by rw [zko (by simpa using hc1),lM,hP]; rfl,by rw [zjo,lF] <;> rfl⟩
  refine au 140120 ?_;exact hfin _ _ ((jl,_)::(jo,_)::(jx,_)::(1,_)::(s,_)::objsG P) _ (by repeat (first | exact Split.none _ | exact Split.all _ | (apply Split.rem; repeat (first | exact Rem.head | apply Rem.tail)) | apply Split.right)) ⟨jo,P,by rw [zkn (by simpa using hc1)]; exact hP,rfl⟩
 ·obtain ⟨jo,P,hP,rfl⟩:=hJ;have hPl:P.length<=65536:=by
   have h1:=congrArg List.length hP;have h2:=zbV hb;have h3:=List.length_filter_le (fun S => !badM b S b.seekers.length) (allM b);unfold guessM at h1;simp only [lJ] at h1;omega
  simp only [cA];refine bN (List.Perm.cons _ (List.Perm.cons _ (List.Perm.cons _ (List.Perm.cons _ (List.Perm.cons _ (List.Perm.cons _ (List.Perm.cons _ lH))))))) ?_;simp only [cA];refine au 937280690422140 ?_;constructor<;>intro hc2
  ·have hPn:P=[]:=lK (by have h:(P.length:Int)=0:=(by simpa using hc2); omega);refine au 3555542 ?_;refine TK.leave (.ret _) fun A hA=>hret _ _ _ _ ([(0,_),(1,_),(s,_),(e,_)]) ([(0,_),(1,_),(s,_),(e,_)]) _ _ _ (.inr rfl) (by repeat (first | exact Split.none _ | exact Split.all _ | (apply Split.rem; repeat (first | exact Rem.head | apply Rem.tail)) | apply Split.right)) sQ sQ (by repeat (first | exact Split.none _ | exact Split.all _ | (apply Split.rem; repeat (first | exact Rem.head | apply Rem.tail)) | apply Split.right)) (y7 (.cons (zS Z) (.cons (zS Z) (.cons (zS Z) (.cons (zS Z) ResKs.nil)))) rfl) ?_ A hA;exact .inr (.inl ⟨hck,by rw [<- hP,hPn]; rfl,rfl,rfl⟩)
  obtain ⟨p,ps,rfl⟩:∃ p ps,P=p::ps:=by
   cases P with
   | nil=>exact absurd hc2 dQ
   | cons p ps=>exact ⟨p,ps,rfl⟩
  have hlen:∀ x∈p::ps,x.2.1.length<=1000:=fun x hx=>by
   have h1:x.2∈guessM b (allM b):=by rw [<- hP]; exact List.mem_map_of_mem (f:=fun x:Gs=>x.2) hx
   obtain ⟨S,hS,h2⟩:=lY.1 h1;have:=(uF hb S (List.mem_filter.1 hS).1).len;rw [<- h2]; dsimp only; omega
  refine au 2120 ?_;refine bL [0,1,2,3,4,5,6,7] ?_;refine ad [[10,8]] ?_;refine bT [40] Z (hq:=wR Z Z Z SlEl.h (mC _) (by first | omega | (simp only [lZ]; omega)) (by first | omega | (simp only [lZ]; omega))) (h:=?_);refine bT [41] Z (hq:=zK Z Z zd.h (mC _) (zaj (k:=0) sQ)) (h:=?_);refine ad [[10,8]] ?_;refine bT [43] Z (hq:=zai Z Z SlEl.h (mC _) Z Z (by first | omega | (simp only [lZ]; omega)) (by first | omega | (simp only [lZ]; omega)) Z) (h:=?_);refine TD.c2 (i1:=5) (i2:=6) (pend1:=[⟨3,[8],[(_,_)]⟩,⟨1,[40],[(_,_)]⟩,⟨0,[8],[(_,_)]⟩]) (pend2:=[⟨4,[43],[(_,_)]⟩,⟨3,[8],[(_,_)]⟩,⟨2,[41],[(_,_)]⟩,⟨1,[40],[(_,_)]⟩,⟨0,[8],[(_,_)]⟩]) (L1:=[6,7]) (L2:=[5,7]) [42,44] [] Z Z Z Z Z Z Z ?_ ?_
  ·refine zaK Z Z Cal.h Z (zaz hT (o:=p) (xs:=ps) (lt:=fun a c=>ltGuess a.2 c.2) (fv:=.fn 121 [] []) (jo:=jo) (off:=2) (obo:=.row (refsG (p::ps)) 238 2) (K:=(jo,.row (refsG (p::ps)) 238 2)::objsG (p::ps)) (by simp at hPl; omega) sQ (fun k hk=>by rw [show 2+((k:Int)).toNat*2=(k+1)*2 by rw [mZ]; omega]; exact zaj (P:=p::ps) (k:=k+1) (by simpa using hk)) (fun x hx y hy=>yz Cal.h (zcF hT (lL _ (wE hx)) (lL _ (wE hy)) (yp _ _ _) (yp _ _ _) (hlen x hx) (hlen y hy)))) (by repeat (first | exact Split.none _ | exact Split.all _ | (apply Split.rem; repeat (first | exact Rem.head | apply Rem.tail)) | apply Split.right)) fun r12 K13 h14=>⟨?_,?_⟩
   ·rcases h14 with ⟨rfl,rfl⟩
    all_goals simp
   obtain ⟨rfl,rfl⟩:=h14;try simp only [cA]
   refine bS (env':=[_,_,_,_,_,_,_,_,_,_,_,_,_,_,_,_,_,_,_,_,_,_,_,_,_,_,_,_,_,_,_,_,_,_,_,_,_,_,_,_,_,_,_,_,_,_,_,_,_,_]) Z ?_;refine TD.perm (List.Perm.cons _ lH) ?_;simp only [cA];generalize hres0:zR (fun (a c:Gs)=>ltGuess a.2 c.2) p ps=res;have hmem:res∈p::ps:=hres0 ▸ ke;obtain ⟨R1,hR1⟩:=kf (wE hmem);have hcl:res.2=likelyM b:=by
    rw [<- hres0,uT (fun x:Gs=>x.2)];unfold likelyM;rw [<- hP]; rfl
   refine bX (pend':=[⟨3,[8],[(_,_)]⟩,⟨1,[40],[(_,_)]⟩,⟨0,[8],[(_,_)]⟩]) [] Z Z Z Z Z (zU Z TyZA.h) (fun _=>zy rfl tQ) sQ fun jg hjg=>?_;refine bR (pend':=[]) [12,45] Z Z (zt Z Z zd.h Z Z mQ Z) ?_;refine ad [[14]] ?_;refine au 2 ?_;refine bL [0,1,4,2,3,5,6,7] ?_;refine ad [[3,12],[10,46],[3,12],[10,48]] ?_;refine TD.as (pend':=[⟨3,[48],[(_,_)]⟩,⟨2,[12],[]⟩]) [47] Z Z (zV Z Z) ?_;refine ad [[13,49],[13],[13],[14]] ?_;refine TK.leave (.ret _) fun A hA=>hret _ _ _ _ ([(0,_),(1,_),(s,_),(e,_),(res.1,.cells (res.2.1.map intA) 3 false)]) ([(0,_),(1,_),(s,_),(e,_),(res.1,.cells (res.2.1.map intA) 3 false)]) _ _ _ (.inr rfl) (by repeat (first | exact Split.none _ | exact Split.all _ | (apply Split.rem; repeat (first | exact Rem.head | exact hR1 | apply Rem.tail)) | apply Split.right)) sQ sQ (by repeat (first | exact Split.none _ | exact Split.all _ | (apply Split.rem; repeat (first | exact Rem.head | exact hR1 | apply Rem.tail)) | apply Split.right)) (y7 (.cons (zS Z) (.cons (zS Z) (.cons (zS Z) (.cons (zS Z) ResKs.nil)))) rfl) ?_ A hA;refine .inr (.inr ⟨hck,by rw [<- hP]; simp,res.1,?_,?_⟩)
   ·rw [<- hcl]; rfl
   ·rw [<- hcl]
  ·refine yr Z (zU Z TyZA.h) (fun _=>zy rfl tQ) sQ fun jg hjg=>?_;refine TD.cl (pend':=[⟨3,[8],[(_,_)]⟩,⟨1,[40],[(_,_)]⟩,⟨0,[8],[(_,_)]⟩]) [42,44] Z Z Z Z Z (zaz hT (o:=p) (xs:=ps) (lt:=fun a c=>ltGuess a.2 c.2) (fv:=.fn 121 [] []) (jo:=jo) (off:=2) (obo:=.row (refsG (p::ps)) 238 2) (K:=(jo,.row (refsG (p::ps)) 238 2)::objsG (p::ps)) (by simp at hPl; omega) sQ (fun k hk=>by rw [show 2+((k:Int)).toNat*2=(k+1)*2 by rw [mZ]; omega]; exact zaj (P:=p::ps) (k:=k+1) (by simpa using hk)) (fun x hx y hy=>yz Cal.h (zcF hT (lL _ (wE hx)) (lL _ (wE hy)) (yp _ _ _) (yp _ _ _) (hlen x hx) (hlen y hy)))) (fun r15 K16 h17=>⟨?_,?_⟩)
   ·rcases h17 with ⟨rfl,rfl⟩
    all_goals simp
   obtain ⟨rfl,rfl⟩:=h17;try simp only [cA]
   refine bS tQ ?_;refine TD.perm (List.Perm.cons _ lH) ?_;simp only [cA];generalize hres0:zR (fun (a c:Gs)=>ltGuess a.2 c.2) p ps=res;have hmem:res∈p::ps:=hres0 ▸ ke;obtain ⟨R1,hR1⟩:=kf (wE hmem);have hcl:res.2=likelyM b:=by
    rw [<- hres0,uT (fun x:Gs=>x.2)];unfold likelyM;rw [<- hP]; rfl
   refine bR (pend':=[]) [12,45] Z Z (zt Z Z zd.h Z Z mQ Z) ?_;refine ad [[14]] ?_;refine au 2 ?_;refine bL [0,1,4,2,3,5,6,7] ?_;refine ad [[3,12],[10,46],[3,12],[10,48]] ?_;refine TD.as (pend':=[⟨3,[48],[(_,_)]⟩,⟨2,[12],[]⟩]) [47] Z Z (zV Z Z) ?_;refine ad [[13,49],[13],[13],[14]] ?_;refine TK.leave (.ret _) fun A hA=>hret _ _ _ _ ([(0,_),(1,_),(s,_),(e,_),(res.1,.cells (res.2.1.map intA) 3 false)]) ([(0,_),(1,_),(s,_),(e,_),(res.1,.cells (res.2.1.map intA) 3 false)]) _ _ _ (.inr rfl) (by repeat (first | exact Split.none _ | exact Split.all _ | (apply Split.rem; repeat (first | exact Rem.head | exact hR1 | apply Rem.tail)) | apply Split.right)) sQ sQ (by repeat (first | exact Split.none _ | exact Split.all _ | (apply Split.rem; repeat (first | exact Rem.head | exact hR1 | apply Rem.tail)) | apply Split.right)) (y7 (.cons (zS Z) (.cons (zS Z) (.cons (zS Z) (.cons (zS Z) ResKs.nil)))) rfl) ?_ A hA;refine .inr (.inr ⟨hck,by rw [<- hP]; simp,res.1,?_,?_⟩)
   ·rw [<- hcl]; rfl
   ·rw [<- hcl]
 ·exact hD.elim
end Go.Vel
namespace Go.Vel
open Go Go.Conc
open Go.ConcN (upd)
theorem zcQ {α:Type} {P:Program}:∀ (s:Sem α) {a:α},zO P s=some a->∀ (w:World) (es:Array Event),s.runT P w es=(.ok a w,es):=by
 intro s
 induction s with
 | pure b=>intro a h w es; cases h; rfl
 | program k ih=>intro a h w es; exact ih P h w es
 | _=>intro a h; cases h
theorem pureS_pure' {α:Type} {P:Program} (a:α):zO P (pure a)=some a:=rfl
def lend (Bs del:List Nat) (H:Hp):Hp:=fun b=>if del.elem b then none else if Bs.elem b then (H b).map fun x=>(false,x.2) else H b
theorem zfw {Bs del:List Nat} {H:Hp} {b:Nat} {rw':Bool} {o:Obj} (h:lend Bs del H b=some (rw',o)):∃ r,H b=some (r,o)/\(rw'=true->r=true):=by
 unfold lend at h;split at h
 ·cases h
 ·split at h
  ·obtain ⟨x,hx,e⟩:=mY.1 h;cases e;exact ⟨x.1,hx,fun h=>by cases h⟩
  ·exact ⟨rw',h,id⟩
theorem wN {Bs del:List Nat} {H:Hp} {b:Nat} (h1:b∉Bs) (h2:b∉del):lend Bs del H b=H b:=by
 unfold lend;rw [if_neg (by simpa using h2),if_neg (by simpa using h1)]
theorem zlF {Bs del:List Nat} {H:Hp} {b:Nat} {r:Bool} {o:Obj} (h2:b∉del) (h:H b=some (r,o)):∃ r',lend Bs del H b=some (r',o):=by
 unfold lend;rw [if_neg (by simpa using h2)];split
 ·exact ⟨false,by rw [h]; rfl⟩
 ·exact ⟨r,h⟩
theorem RelH.lend {φ:Nat->Loc3} {A:List AObj} {F H:Hp} (h:RelH φ A F H) (Bs del:List Nat) (hB:∀ (t:Nat) o,A[t]? =some o->o.live=true->sol (φ t) o->(φ t).blk∉del/\(o.excl=true->(φ t).blk∉Bs)) (hF:∀ b,b∈Bs\/b∈del->F b=none):RelH φ A F (Go.Vel.lend Bs del H):=by
 refine ⟨fun t o ht=>?_,h.apart,fun b x hx=>?_,h.frx⟩
 ·have ho:=h.obj t o ht;cases o with
  | cells l e rw' =>
   intro hl;obtain ⟨r,cur,fz,q1,q2,q3⟩:=ho hl;obtain ⟨d1,d2⟩:=hB t _ ht rfl hl;cases rw' with
   | false =>
    obtain ⟨r',hr'⟩:=zlF (Bs:=Bs) d1 q1;exact ⟨r',cur,fz,hr',(fun h=>by cases h),q3⟩
   | true=>exact ⟨r,cur,fz,(wN (d2 rfl) d1).trans q1,q2,q3⟩
  | row l e size =>
   obtain ⟨h0,h2,hh⟩:=ho;refine ⟨h0,h2,fun hc=>?_⟩;obtain ⟨cur,q1,q2⟩:=hh hc;obtain ⟨d1,d2⟩:=hB t _ ht rfl hc;exact ⟨cur,(wN (d2 rfl) d1).trans q1,q2⟩
  | raw o =>
   obtain ⟨d1,d2⟩:=hB t _ ht rfl trivial;exact (wN (d2 rfl) d1).trans ho
  | loop f env ps x y st pj =>
   obtain ⟨ts,d,q1,q2⟩:=ho;obtain ⟨d1,d2⟩:=hB t _ ht rfl trivial;exact ⟨ts,d,(wN (d2 rfl) d1).trans q1,q2⟩
  | gone=>trivial
 ·have hn:¬ (b∈Bs\/b∈del):=fun hm=>by rw [hF b hm] at hx; cases hx
  rw [wN (fun hm=>hn (.inl hm)) (fun hm=>hn (.inr hm))];exact h.fr b x hx
section
variable {P:Program} {gm:Nat->Option Nat} {T:Goroutine->Hp->Prop} {cg cn:Nat} {msg:Nat->Nat×Value} {Stop:Goroutine->Hp->Prop} {Y:KX P gm T} {ds:List Nat} {k:List Item} {env env':List AV} {K K':KV} {ops:Array Oper} {i:Nat} {rest:List Nat} {o:Oper} {φ0:Nat->Loc3} {n0 j:Nat} {R:Nat->Bool}
def phX (Y:KX P gm T) (cg cn:Nat) (msg:Nat->Nat×Value) (Stop:Goroutine->Hp->Prop) (j:Nat) (R:Nat->Bool) (φ0:Nat->Loc3) (n0:Nat):KX P gm (MainT P cg cn msg Stop j R) :=
 ⟨{ main:=true,hT:=zh0 P cg cn msg Stop j R,φ0,n0,F:=Y.X.F,kd:=Y.X.kd,hkd:=Y.X.hkd,f:=Y.X.f,ro:=Y.X.ro,cs:=Y.X.cs,L:=fun _ _ _ _=>False,hL:=fun _ _ _ _ _ _ _ _ _ h=>h.elim },Y.A0,Y.K0⟩
theorem kn_ph {j':Nat} {R':Nat->Bool} {A:List AObj} (h:Kn (phX Y cg cn msg Stop j R φ0 n0) K A):Kn (phX Y cg cn msg Stop j' R' φ0 n0) K A:=⟨h.view,h.nd,h.own,h.kept,h.len⟩
theorem TK.recv {c1 c2:Operand} {e1 e2:TypeId} {t1 t2:TypeInfo} {z1 z2:Value} (ho:ops[i]? =some o) (hop:o.op=.select #[{ chan:=c1,send:=none,elem:=e1 },{ chan:=c2,send:=none,elem:=e2 }] true) (hw:yd ops env o=some true) (hc1:zr gm env c1=some (.v (.chan (some cg)))) (hc2:zr gm env c2=some (.v (.chan (some cn))))
  (hi1:P.info? e1=some t1) (hz1:t1.zero=some z1) (hi2:P.info? e2=some t2) (hz2:t2.zero=some z2) (hex:∃ q,q<j/\R q=false)
  (h:∀ q,q<j->R q=false->TK (phX Y cg cn msg Stop j (upd R q true) φ0 n0) ds (.inRegion ops rest::k) (putA env o.dst (.tup (if (msg q).1=cg then [.v (.int .i64 0),.v (.bool true),.v (msg q).2,.v z2] else [.v (.int .i64 1),.v (.bool true),.v z1,.v (msg q).2]))) K) :
  TK (phX Y cg cn msg Stop j R φ0 n0) ds (.inRegion ops (i::rest)::k) env K:=fun A hA φ H ts h1 h2 h3 h4 h5 h6=>by
 have q1:=zu (a:=⟨ts,[]⟩) h3 h6 c1;rw [zq hc1] at q1;have q2:=zu (a:=⟨ts,[]⟩) h3 h6 c2;rw [zq hc2] at q2;have q1':evT ts c1=.chan (some cg):=inv_v q1;have q2':evT ts c2=.chan (some cn):=inv_v q2;have hz:∀ {t:TypeId} {ti:TypeInfo} {z:Value},P.info? t=some ti->ti.zero=some z->zO P (zeroValue t)=some z:=fun {t ti z} hi hz=>by
  unfold zeroValue typeInfo
  show zO P ((match P.info? t with | some i=>pure i | none=>stuck "no such type") >>= _)=_
  rw [hi];show zO P (match ti.zero with | some z=>_ | none=>_)=_;rw [hz]; rfl
 have hpure:zO P (execOp (evT ts) o)=some (.comm (sel2 cg cn z1 z2) true .select):=by
  unfold execOp;rw [hop];dsimp only;rw [Array.mapM_eq_mapM_toList];simp only [List.mapM_cons,List.mapM_nil];have b1:∀ {α β:Type} {s:Sem α} {f:α->Sem β} {a:α} {b:β},zO P s=some a->zO P (f a)=some b->zO P (s >>= f)=some b:=fun h1 h2=>zM h1 h2;rw [q1',q2'];refine b1 (a:=sel2 cg cn z1 z2) ?_ rfl;refine b1 (a:=[rcase cg z1,rcase cn z2]) ?_ rfl;refine b1 (a:=rcase cg z1) (b1 (hz hi1 hz1) Z) ?_;refine b1 (a:=[rcase cn z2]) ?_ rfl;exact b1 (a:=rcase cn z2) (b1 (hz hi2 hz2) rfl) rfl
 refine .recv (G (fr Y.X.kd Y.X.f Y.X.ro ts (dsC φ ds) (.inRegion ops (i::rest)::k)) Y.X.cs) z1 z2 Z hex (fun w hf=>⟨#[],?_,fun e he=>by simp at he⟩) fun q hq hR p hp=>?_
 ·show stepG P true (G (fr Y.X.kd Y.X.f Y.X.ro ts (dsC φ ds) (.inRegion ops (i::rest)::k)) Y.X.cs) w=_;rw [vb Y.X.hkd ho (y9 h6 hw) (by rw [hop]; rfl)];obtain ⟨r1,r2⟩:=yU (zcQ _ hpure w #[]);simp [stepG.apply,Sem.runT_eq,r1,r2,fr,GStep.after,seen];rfl
 ·have hfin:=kD Y.X.kd Y.X.f Y.X.ro ts (dsC φ ds) ops i rest k (commResult (sel2 cg cn z1 z2) .select p (msg q).2 true);simp only [ho,Option.bind_some] at hfin;show MainT P cg cn msg Stop j (upd R q true) (G ((fr Y.X.kd Y.X.f Y.X.ro ts (dsC φ ds) (.inRegion ops (i::rest)::k)).finish (commResult (sel2 cg cn z1 z2) .select p (msg q).2 true)) Y.X.cs) H;rw [hfin];refine h q hq hR A (kn_ph hA) φ H _ h1 h2 h3 h4 h5 (wG (a:=⟨ts,[]⟩) h6 ?_ o.dst);have htup:∀ (a b c d:Value),RelV φ A.length (.tup [.v a,.v b,.v c,.v d]) (.tuple #[a,b,c,d]):=fun a b c d=>.tup rfl fun t x y hx hy=>by
   rcases t with _ | _ | _ | _ | t <;> simp at hx hy <;> subst hx hy <;> exact .v _
  have c0:∀ v,commResult (sel2 cg cn z1 z2) .select ((0:Nat):Int) v true=.tuple #[.int .i64 0,.bool true,v,z2]:=fun v=>by
   simp [commResult,sel2,rcase,goInt,Array.zipIdx]
  have c1:∀ v,commResult (sel2 cg cn z1 z2) .select ((1:Nat):Int) v true=.tuple #[.int .i64 1,.bool true,z1,v]:=fun v=>by
   simp [commResult,sel2,rcase,goInt,Array.zipIdx]
  by_cases e:(msg q).1=cg
  ·rw [if_pos e] at hp ⊢;subst hp;rw [c0];exact htup (.int .i64 0) (.bool true) (msg q).2 z2
  ·rw [if_neg e] at hp ⊢;subst hp;rw [c1];exact htup (.int .i64 1) (.bool true) z1 (msg q).2
theorem TK.stopM {Ψ:Goroutine->World->Prop} {Y:KX P gm (BT P Ψ)} (hR:∀ q,q<j->R q=true) (hk:∀ x∈k,okI x) (hcs:∀ f∈Y.X.cs,okF f) (hag:Agr Y.X.φ0 φ0 Y.X.n0) (hn:Y.X.n0<=n0) (h:TK Y ds k env K) :
  TK (phX Y cg cn msg (fun a Hs=>okG a/\BT P Ψ a Hs) j R φ0 n0) ds k env K:=fun A hA φ H ts h1 h2 h3 h4 h5 h6 =>
 .stop rfl hR ⟨⟨hk,hcs,fun t h=>by cases h⟩,h A ⟨hA.view,hA.nd,hA.own,hA.kept,hA.len⟩ φ H ts (hag.trans h1 hn) (mT hn h2) h3 h4 h5 h6⟩
theorem TK.spawn {fo:Operand} {at_:Array TypeId} {g:FuncId} {cp:List AV} {S:KV} {j9:Nat} {l9:List AV} {e9:TypeId} (ho:ops[i]? =some o) (hop:o.op=.go { callee:=.value fo,args:=#[],argTypes:=at_ }) (hw:yd ops env o=some true) (hf:zr gm env fo=some (.fn g [] cp)) (hR:R j=false)
  (hS:∀ x∈S,x∈K/\x.1<n0/\Y.X.F (φ0 x.1).blk=none/\∃ l e,l≠[]/\x.2=.cells l e false) (hu:Rem K (j9,.cells l9 e9 true) K') (hl9:l9≠[])
  (hchild:∀ (φ:Nat->Loc3) (A:List AObj) (Hc:Hp) (vs:Array Value),zP ((j9,.cells l9 e9 false)::S) A->RelG gm φ A.length->RelH φ A (fun _=>none) Hc->zT φ A.length cp vs->TreeW P (AtSend P (msg j)) (born P { target:=.fn (.func g) vs,args:=#[] }) Hc)
  (h:TK (phX Y cg cn msg Stop (j+1) R φ0 n0) ds (.inRegion ops rest::k) (putA env o.dst (.v undef)) K') :
  TK (phX Y cg cn msg Stop j R φ0 n0) ds (.inRegion ops (i::rest)::k) env K:=fun A hA φ H ts h1 h2 h3 h4 h5 h6=>by
 have hperm:=hu.perm;have hmem9:(j9,AObj.cells l9 e9 true)∈K:=hperm.symm.subset sQ;have hj9:=hA.view.get hmem9;have hj9l:j9<A.length:=(lD.1 hj9).1;have hne9:∀ x∈S,x.1≠j9:=fun x hx e=>by
  obtain ⟨hxK,_,_,l,e',_,hx2⟩:=hS x hx;have h9:=hA.view x hxK;rw [e,hj9,hx2] at h9;cases h9
 obtain ⟨rw9,cur9,fz9,hb9,hfz9,hc9⟩:=h5.obj j9 _ hj9 hl9;have hfo:=zu (a:=⟨ts,[]⟩) h3 h6 fo;rw [zq hf] at hfo;obtain ⟨xs,ys,ev,hr1,hr2⟩:=zaQ hfo;have hxs:xs=#[]:=by
  have:=hr1.1;exact Array.eq_empty_of_size_eq_zero this.symm
 subst hxs
 let Bs:List Nat:=(φ j9).blk::S.map fun x=>(φ x.1).blk
 have hφS:∀ x∈S,φ x.1=φ0 x.1:=fun x hx=>h1 x.1 (hS x hx).2.1;have hFB:∀ b,b∈Bs->Y.X.F b=none:=fun b hb=>by
  rcases lI.1 hb with rfl | hb
  ·exact h5.frx j9 _ hj9 rfl hl9
  ·obtain ⟨x,hx,rfl⟩:=lY.1 hb;rw [hφS x hx]; exact (hS x hx).2.2.1
 have hdrop:=h5.drop j9;have hcaller:RelH φ (A.set j9 .gone) Y.X.F (lend Bs [] H):=by
  refine hdrop.lend Bs [] (fun t q ht hl hs=>⟨by simp,fun hx hm=>?_⟩) fun b hb=>hFB b (hb.resolve_right sQ);by_cases htj:j9=t
  ·subst htj;rw [List.getElem?_set_self hj9l] at ht;cases ht; cases hl
  ·rw [lP htj] at ht;rcases lI.1 hm with hm | hm
   ·exact h5.apart t j9 q _ ht hj9 (fun e=>htj e.symm) hx rfl hs hl9 hm
   ·obtain ⟨x,hx',hm⟩:=lY.1 hm;obtain ⟨hxK,_,_,l,e',hl0,hx2⟩:=hS x hx';have hax:=hA.view x hxK;rw [hx2] at hax;by_cases htx:t=x.1
    ·subst htx; rw [ht] at hax; cases hax; cases hx
    ·exact h5.apart t x.1 q _ ht hax htx hx rfl hs hl0 hm.symm
 have hkn:Kn (phX Y cg cn msg Stop (j+1) R φ0 n0) K' (A.set j9 .gone):=by
  have hnd:=(zL hperm).nodup_iff.1 hA.nd;rw [zd6,List.nodup_cons] at hnd;refine ⟨fun x hx=>?_,hnd.2,fun t ht=>hA.own t ((zL hperm).symm.subset (lL _ ht)),fun t ht1 ht2=>?_,by rw [List.length_set]; exact hA.len⟩
  ·have hne:j9≠x.1:=fun e=>hnd.1 (by show j9∈keys K'; rw [e]; exact yB hx);rw [lP hne];exact hA.view x (hperm.symm.subset (lL _ hx))
  ·have hne:j9≠t:=fun e=>by
    subst e;rcases hA.own j9 (mem_keys' hmem9) with h | h
    ·exact ht2 h
    ·exact absurd ht1 (Nat.not_lt.2 h)
   rw [lP hne];exact hA.kept t ht1 ht2
 let Ac:List AObj:=(List.range A.length).map fun t=>if t=j9 then .cells l9 e9 false else if (S.map (·.1)).elem t then (A[t]?).getD .gone else .gone
 have hAcl:Ac.length=A.length:=by simp [Ac]
 have hAc:∀ (t:Nat) (q:AObj),Ac[t]? =some q->q.live=true->(t=j9/\q=.cells l9 e9 false)\/∃ x∈S,x.1=t/\x.2=q:=fun t q ht hl=>by
  have hlt:t<A.length:=by rw [<- hAcl]; exact (lD.1 ht).1
  simp only [Ac,lQ,List.getElem?_range hlt,Option.map_some,Option.some.injEq] at ht;split at ht
  ·rename_i e; exact .inl ⟨e,ht.symm⟩
  ·split at ht
   ·rename_i hm;simp only [List.elem_eq_mem,decide_eq_true_eq] at hm;obtain ⟨x,hx,e⟩:=lY.1 hm;have hax:=hA.view x (hS x hx).1;rw [e] at hax;rw [hax] at ht;exact .inr ⟨x,hx,e,ht⟩
   ·subst ht; cases hl
 let Hc:Hp:=fun b=>if Bs.elem b then (H b).map fun x=>(false,x.2) else none
 have hHc:∀ b r o,b∈Bs->H b=some (r,o)->Hc b=some (false,o):=fun b r o hb hx=>by
  simp only [Hc];rw [if_pos (by simpa using hb),hx]; rfl
 have hRc:RelH φ Ac (fun _=>none) Hc:=by
  have hne:∀ (t:Nat) (q:AObj),Ac[t]? =some q->q.excl=false:=fun t q ht=>by
   cases hl:q.live with
   | false=>cases q <;> first | rfl | cases hl
   | true =>
    rcases hAc t q ht hl with ⟨_,rfl⟩ | ⟨x,hx,_,hq⟩
    ·rfl
    ·obtain ⟨_,_,_,l,e',_,hx2⟩:=hS x hx;rw [<- hq,hx2]; rfl
  refine ⟨fun t q ht=>?_,fun t t' q q' ht _ _ he=>absurd he (by rw [hne t q ht]; decide),(fun b x hx=>by cases hx),fun t q ht he=>absurd he (by rw [hne t q ht]; decide)⟩;rw [hAcl];cases hl:q.live with
  | false=>cases q <;> first | trivial | cases hl
  | true =>
   rcases hAc t q ht hl with ⟨rfl,rfl⟩ | ⟨x,hx,rfl,rfl⟩
   ·intro _;exact ⟨false,cur9,fz9,hHc _ _ _ List.mem_cons_self hb9,(fun h=>by cases h),hc9⟩
   ·obtain ⟨hxK,_,_,l,e',hl0,hx2⟩:=hS x hx;have hax:=hA.view x hxK;rw [hx2] at hax ⊢;intro _;obtain ⟨r,cur,fz,p1,_,p3⟩:=h5.obj x.1 _ hax hl0;exact ⟨false,cur,fz,hHc _ _ _ (lL _ (List.mem_map_of_mem hx)) p1,(fun h=>by cases h),p3⟩
 have hVc:zP ((j9,.cells l9 e9 false)::S) Ac:=fun x hx=>by
  rcases lI.1 hx with rfl | hx
  ·simp [Ac,hj9l]
  ·have hax:=hA.view x (hS x hx).1;have hlt:x.1<A.length:=(lD.1 hax).1;simp only [Ac,lQ,List.getElem?_range hlt,Option.map_some];rw [if_neg (hne9 x hx),if_pos (by simpa using ⟨x.2,hx⟩),hax]; rfl
 have hch:=hchild φ Ac Hc ys hVc (by rw [hAcl]; exact h3) hRc (by rw [hAcl]; exact hr2);have hfin:=kD Y.X.kd Y.X.f Y.X.ro ts (dsC φ ds) ops i rest k undef;simp only [ho,Option.bind_some] at hfin;refine .spawn (G (fr Y.X.kd Y.X.f Y.X.ro (putT ts o.dst undef) (dsC φ ds) (.inRegion ops rest::k)) Y.X.cs) (born P { target:=.fn (.func g) ys,args:=#[] }) (Go.Vel.lend Bs [] H) Hc Z (fun w hf=>⟨#[],?_,fun e he=>by simp at he⟩) rfl rfl hR (fun b r q hb=>zfw hb) (fun b r q hb=>?_) (fun b q hb=>?_) hch ?_
 ·show stepG P true (G (fr Y.X.kd Y.X.f Y.X.ro ts (dsC φ ds) (.inRegion ops (i::rest)::k)) Y.X.cs) w=_;rw [vb Y.X.hkd ho (y9 h6 hw) (by rw [hop]; rfl)];have hpure:zO P (execOp (evT ts) o)=some (.spawn { target:=.fn (.func g) ys,args:=#[] }):=by
   unfold execOp;rw [hop];dsimp only;have ev':evT ts fo=.func (.func g) #[] ys:=ev;refine zM (a:={ target:=.fn (.func g) ys,args:=#[] }) ?_ rfl;show zO P (Deferred.ofValue (evT ts fo) ((#[]:Array Operand).map (evT ts)))=_;rw [ev'];simp [Deferred.ofValue,pureS_pure']
  obtain ⟨r1,r2⟩:=yU (zcQ _ hpure w #[]);simp only [fr] at hfin;simp [stepG.apply,Sem.runT_eq,r1,r2,fr,GStep.after,seen,hfin,born];rfl
 ·simp only [Hc] at hb;split at hb
  ·obtain ⟨x,hx,e⟩:=mY.1 hb;cases e;exact ⟨rfl,x.1,hx⟩
  ·cases hb
 ·simp only [Hc];split
  ·rename_i hm;exfalso;unfold Go.Vel.lend at hb;rw [if_neg sQ,if_pos hm] at hb;obtain ⟨x,_,e⟩:=mY.1 hb;cases e
  ·rfl
 ·have hA9l:(A.set j9 .gone).length=A.length:=by simp
  refine h (A.set j9 .gone) hkn φ _ _ h1 (by rw [hA9l]; exact h2) (by rw [hA9l]; exact h3) (by rw [hA9l]; exact h4) hcaller ?_;rw [hA9l];exact wG (a:=⟨ts,[]⟩) h6 (.v undef) o.dst
end
end Go.Vel
namespace Go.Vel
open Go Go.Conc
def Turned (φ:Nat->Loc3) (A A':List AObj):Prop:=∀ (t:Nat) (o:AObj),A'[t]? =some o->∃ o',A[t]? =some o'/\(o.excl=true->o'.excl=true)/\(o.live=true->o'.live=true)/\(sol (φ t) o->sol (φ t) o')
theorem Turned.refl (φ:Nat->Loc3) (A:List AObj):Turned φ A A:=fun _ o h=>⟨o,h,id,id,id⟩
theorem Turned.trans {φ:Nat->Loc3} {A B C:List AObj} (h:Turned φ A B) (k:Turned φ B C):Turned φ A C:=fun t o ht=>by
 obtain ⟨o1,h1,a1,a2,a3⟩:=k t o ht;obtain ⟨o2,h2,b1,b2,b3⟩:=h t o1 h1;exact ⟨o2,h2,fun x=>b1 (a1 x),fun x=>b2 (a2 x),fun x=>b3 (a3 x)⟩
section
variable {P:Program} {gm:Nat->Option Nat} {T:Goroutine->Hp->Prop} {Y:KX P gm T} {ds:List Nat} {k:List Item} {env env':List AV} {K K':KV}
theorem ww {φ:Nat->Loc3} {A A0:List AObj} {F H:Hp} {j:Nat} {o o':AObj} (hA:Kn Y K A) (hH:RelH φ A F H) (hT:Turned φ A0 A) (hl0:A.length=A0.length) (hu:Upd K j o j o' K') (ho:RelO φ A0.length (φ j) H o->RelO φ A0.length (φ j) H o') (hx:o'.excl=true->o.excl=true) (hl:o'.live=true->o.live=true) (hs:sol (φ j) o'->sol (φ j) o) :
  ∃ A',Kn Y K' A'/\RelH φ A' F H/\Turned φ A0 A'/\A'.length=A0.length:=by
 have hj:=hA.view.get hu.mem;refine ⟨A.set j o',hA.step (.set hA.view hA.nd hu),hH.turn hj (by rw [hl0]; exact ho) hx hl hs,hT.trans fun t q ht=>?_,by rw [List.length_set,hl0]⟩;by_cases e:j=t
 ·subst e;rw [List.getElem?_set_self (lD.1 hj).1] at ht;cases ht;exact ⟨o,hj,hx,hl,hs⟩
 ·rw [lP e] at ht;exact ⟨q,ht,id,id,id⟩
theorem TK.phase {Ψ:Goroutine->World->Prop} {Y:KX P gm (BT P Ψ)} {jc1 jc2 j7 j8 jx jb jl:Nat} {e7 e8 ex eb el:TypeId} {sl:Nat} {lx lb l:List AV} {Kr:KV} (msgf:Nat->Nat->Nat->Nat×Value) (hmsg:∀ cg cn i,(msgf cg cn i).1=cg\/(msgf cg cn i).1=cn) (hlx:lx≠[]) (hlb:lb≠[]) (hl:l≠[])
  (h:∀ (φ0:Nat->Loc3) (n0 cg cn:Nat),cg≠cn->Agr Y.X.φ0 φ0 Y.X.n0->Y.X.n0<=n0->(∀ t∈[j7,j8,jx,jb,jl],t<n0/\Y.X.F (φ0 t).blk=none)->(∀ f∈Y.X.cs,okF f) ->
   TK (phX Y cg cn (msgf cg cn) (fun a Hs=>okG a/\BT P Ψ a Hs) 0 (fun _=>false) φ0 n0) ds k env ((jc1,.gone)::(jc2,.gone)::(j7,.cells [.v (.chan (some cg))] e7 false)::(j8,.cells [.v (.chan (some cn))] e8 false)::(jx,.cells (lx.map (unrow jl)) ex false)::(jb,.cells lb eb false)::(jl,.cells l el false)::Kr)) :
  TK Y ds k env ((jc1,.raw (.chan 0 #[] false 0 0 false))::(jc2,.raw (.chan 0 #[] false 0 0 false))::(j7,.cells [.chan jc1] e7 true)::(j8,.cells [.chan jc2] e8 true)::(jx,.cells lx ex true)::(jb,.cells lb eb true)::(jl,.row l el sl)::Kr):=fun A hA φ H ts h1 h2 h3 h4 h5 h6=>by
 have g1:=hA.view.get (show (jc1,AObj.raw (.chan 0 #[] false 0 0 false))∈_ from .head _);have g2:=hA.view.get (show (jc2,AObj.raw (.chan 0 #[] false 0 0 false))∈_ from .tail _ (.head _));have g3:=hA.view.get (show (j7,AObj.cells [.chan jc1] e7 true)∈_ from .tail _ (.tail _ (.head _)));have g4:=hA.view.get (show (j8,AObj.cells [.chan jc2] e8 true)∈_ from .tail _ (.tail _ (.tail _ (.head _))));have g5:=hA.view.get (show (jx,AObj.cells lx ex true)∈_ from .tail _ (.tail _ (.tail _ (.tail _ (.head _)))));have g6:=hA.view.get (show (jb,AObj.cells lb eb true)∈_ from .tail _ (.tail _ (.tail _ (.tail _ (.tail _ (.head _))))));have g7:=hA.view.get (show (jl,AObj.row l el sl)∈_ from .tail _ (.tail _ (.tail _ (.tail _ (.tail _ (.tail _ (.head _)))))));have hnd:=hA.nd;have hsl:sol (φ jl) (.row l el sl):=by
  show 0<(φ jl).cap;rcases mP (φ jl).cap with e | e
  ·exact absurd ((h5.obj jl _ g7).1 e) hl
  ·exact e
 have hbase:(φ jl).base=0:=(h5.obj jl _ g7).2.1;have hfalse:∀ {l':List AV} {e':TypeId} {jt:Nat},RelO φ A.length (φ jt) H (.cells l' e' true)->RelO φ A.length (φ jt) H (.cells l' e' false):=fun ho hl0=>by
  obtain ⟨r,cur,fz,p1,_,p3⟩:=ho hl0;exact ⟨r,cur,fz,p1,(fun h=>by cases h),p3⟩
 have hone:∀ {jt jc:Nat} {e':TypeId},RelO φ A.length (φ jt) H (.cells [.chan jc] e' true)->RelO φ A.length (φ jt) H (.cells [.v (.chan (some (φ jc).blk))] e' false):=fun ho hl0=>by
  obtain ⟨r,cur,fz,p1,_,p3⟩:=ho sQ;refine ⟨r,cur,fz,p1,(fun h=>by cases h),fun t a ha=>?_⟩;cases t with
  | zero =>
   simp at ha; subst ha;obtain ⟨y,hy,hr⟩:=p3 0 _ rfl;exact ⟨y,hy,by rw [(zkt hr).2]; exact .v _⟩
  | succ t=>simp at ha
 obtain ⟨A1,k1,r1,t1,n1⟩:=ww (o':=.gone) hA h5 (Turned.refl φ A) rfl .head (fun _=>trivial) (fun h=>by cases h) (fun h=>by cases h) (fun _=>trivial);obtain ⟨A2,k2,r2,t2,n2⟩:=ww (o':=.gone) k1 r1 t1 n1 (.tail .head) (fun _=>trivial) (fun h=>by cases h) (fun h=>by cases h) (fun _=>trivial);obtain ⟨A3,k3,r3,t3,n3⟩:=ww (o':=.cells [.v (.chan (some (φ jc1).blk))] e7 false) k2 r2 t2 n2 (.tail (.tail .head)) hone (fun h=>by cases h) (fun _=>rfl) (fun _=>by simp [sol]);obtain ⟨A4,k4,r4,t4,n4⟩:=ww (o':=.cells [.v (.chan (some (φ jc2).blk))] e8 false) k3 r3 t3 n3 (.tail (.tail (.tail .head))) hone (fun h=>by cases h) (fun _=>rfl) (fun _=>by simp [sol]);obtain ⟨A5,k5,r5,t5,n5⟩:=ww (o':=.cells (lx.map (unrow jl)) ex false) k4 r4 t4 n4 (.tail (.tail (.tail (.tail .head)))) (fun ho hl0=>by
  obtain ⟨r,cur,fz,p1,_,p3⟩:=ho hlx;refine ⟨r,cur,fz,p1,(fun h=>by cases h),fun t a ha=>?_⟩;rw [lQ] at ha;cases e:lx[t]? with
  | none=>rw [e] at ha; cases ha
  | some a0 =>
   rw [e] at ha;cases ha;obtain ⟨y,hy,hr⟩:=p3 t a0 e;exact ⟨y,hy,wJ hbase hr⟩) (fun h=>by cases h) (fun _=>rfl) (fun _=>hlx)
 obtain ⟨A6,k6,r6,t6,n6⟩:=ww (o':=.cells lb eb false) k5 r5 t5 n5 (.tail (.tail (.tail (.tail (.tail .head))))) hfalse (fun h=>by cases h) (fun _=>rfl) (fun h=>h);obtain ⟨A7,k7,r7,t7,n7⟩:=ww (o':=.cells l el false) k6 r6 t6 n6 (.tail (.tail (.tail (.tail (.tail (.tail .head)))))) (fun ho hl0=>by
  obtain ⟨cur,q1,q2,q3,q4,q5⟩:=ho.2.2 hsl;exact ⟨true,cur,(_,0,0),q1,(fun h=>by cases h),fun t u hu=>by rw [hbase,mO]; exact q5 t u hu⟩) (fun h=>by cases h) (fun _=>rfl) (fun _=>hsl)
 have v7:=k7.view;have w1:=v7.get (show (jc1,AObj.gone)∈_ from .head _);have w2:=v7.get (show (jc2,AObj.gone)∈_ from .tail _ (.head _));have w3:=v7.get (show (j7,AObj.cells [.v (.chan (some (φ jc1).blk))] e7 false)∈_ from .tail _ (.tail _ (.head _)));have w4:=v7.get (show (j8,AObj.cells [.v (.chan (some (φ jc2).blk))] e8 false)∈_ from .tail _ (.tail _ (.tail _ (.head _))));have w5:=v7.get (show (jx,AObj.cells (lx.map (unrow jl)) ex false)∈_ from .tail _ (.tail _ (.tail _ (.tail _ (.head _)))));have w6:=v7.get (show (jb,AObj.cells lb eb false)∈_ from .tail _ (.tail _ (.tail _ (.tail _ (.tail _ (.head _))))));have w7:=v7.get (show (jl,AObj.cells l el false)∈_ from .tail _ (.tail _ (.tail _ (.tail _ (.tail _ (.tail _ (.head _)))))))
 let Bs:List Nat:=[(φ j7).blk,(φ j8).blk,(φ jx).blk,(φ jb).blk,(φ jl).blk]
 have f1:=h5.frx jc1 _ g1 rfl trivial;have f2:=h5.frx jc2 _ g2 rfl trivial;have f3:=h5.frx j7 _ g3 rfl (by simp [sol]);have f4:=h5.frx j8 _ g4 rfl (by simp [sol]);have f5:=h5.frx jx _ g5 rfl hlx;have f6:=h5.frx jb _ g6 rfl hlb;have f7:=h5.frx jl _ g7 rfl hsl;have hF:∀ b,b∈Bs\/b∈[(φ jc1).blk,(φ jc2).blk]->Y.X.F b=none:=fun b hb=>by
  simp only [Bs,lI,List.not_mem_nil,or_false] at hb;rcases hb with (rfl | rfl | rfl | rfl | rfl) | (rfl | rfl) <;> assumption
 have hne12:(φ jc1).blk≠(φ jc2).blk:=by
  refine h5.apart jc1 jc2 _ _ g1 g2 (fun e=>?_) rfl rfl trivial trivial;subst e;simp [keys] at hnd
 have hrel:=r7.lend Bs [(φ jc1).blk,(φ jc2).blk] (fun t o ht hlv hs=>by
  obtain ⟨o',ho',x1,x2,x3⟩:=t7 t o ht;have y2:=x2 hlv;have y3:=x3 hs;have d1:jc1≠t:=fun e=>by subst e; rw [w1] at ht; cases ht; cases hlv
  have d2:jc2≠t:=fun e=>by subst e; rw [w2] at ht; cases ht; cases hlv
  refine ⟨?_,fun hx=>?_⟩
  ·simp only [lI,List.not_mem_nil,or_false,not_or];exact ⟨fun e=>h5.apart jc1 t _ o' g1 ho' d1 rfl y2 trivial y3 e.symm,fun e=>h5.apart jc2 t _ o' g2 ho' d2 rfl y2 trivial y3 e.symm⟩
  ·have y1:=x1 hx;simp only [Bs,lI,List.not_mem_nil,or_false,not_or];have dd:∀ {jt:Nat} {lt:List AV} {et:TypeId},A7[jt]? =some (.cells lt et false)->t≠jt:=fun hw e=>by subst e; rw [hw] at ht; cases ht; cases hx
   exact ⟨h5.apart t j7 o' _ ho' g3 (dd w3) y1 rfl y3 (by simp [sol]),h5.apart t j8 o' _ ho' g4 (dd w4) y1 rfl y3 (by simp [sol]),h5.apart t jx o' _ ho' g5 (dd w5) y1 rfl y3 hlx,h5.apart t jb o' _ ho' g6 (dd w6) y1 rfl y3 hlb,h5.apart t jl o' _ ho' g7 (dd w7) y1 rfl y3 hsl⟩) hF
 have lt:=fun {t:Nat} {q:AObj} (hq:A[t]? =some q)=>(lD.1 hq).1;refine zhi (cg:=(φ jc1).blk) (cn:=(φ jc2).blk) (msg:=msgf _ _) (H':=Go.Vel.lend Bs [(φ jc1).blk,(φ jc2).blk] H) (hmsg _ _) hne12 (h5.obj jc1 _ g1) (h5.obj jc2 _ g2) (fun b rw' o hb=>let ⟨r,hr,_⟩:=zfw hb; ⟨r,hr⟩) ⟨by simp [Go.Vel.lend],by simp [Go.Vel.lend]⟩ fun hok=>?_;refine h φ A.length _ _ hne12 h1 h2 (fun t ht=>?_) hok.2.1 A7 ⟨k7.view,k7.nd,k7.own,k7.kept,k7.len⟩ φ _ ts (Agr.refl _ _) (by show A.length<=A7.length; omega) (by rw [n7]; exact h3) (by rw [n7]; exact h4) hrel (by rw [n7]; exact h6);simp only [lI,List.not_mem_nil,or_false] at ht;rcases ht with rfl | rfl | rfl | rfl | rfl
 ·exact ⟨lt g3,f3⟩
 ·exact ⟨lt g4,f4⟩
 ·exact ⟨lt g5,f5⟩
 ·exact ⟨lt g6,f6⟩
 ·exact ⟨lt g7,f7⟩
end
end Go.Vel
namespace Go.Vel
open Go Go.Conc Go.Proofs
def rowO (Ls:List (List Int)):AObj:=.row (Ls.flatMap zY) 209 4
theorem zkx (Ls:List (List Int)) (i:Nat) (h:i<Ls.length):zZ (rowO Ls) ((i:Int).toNat*4) 4=some (zY Ls[i]):=by
 have hle:(i+1)*4<=Ls.length*4:=Nat.mul_le_mul_right _ h;simp only [zZ,AObj.look,rowO,mZ];rw [if_pos ⟨by omega,by rw [yk zY 4 (fun _=>rfl)]; omega⟩,kC zY 4 (fun _=>rfl) _ _ h]
def arcK (b:Bk) (low:Nat):Option Nat:=(List.range b.steps.toNat).find? fun k=>decide ((withinM b (zb b) low ((k:Int)+1)).1>0)
def arcA (b:Bk) (low:Nat):Option (Int×Int):=(arcK b low).map fun k=>((low:Int),(k:Int)+1)
def msgN (b:Bk) (cg cn low:Nat):Nat×Value:=match arcK b low with
 | some k=>(cg,.agg #[.int .i64 low,.int .i64 ((k:Int)+1)])
 | none=>(cn,.bool true)
def arcsOf (b:Bk) (rec:List Nat):List (Int×Int):=rec.filterMap (arcA b)
def arcC (x:Int×Int):List AV:=[intA x.1,intA x.2]
def narrowM (b:Bk):Int×Int:=zR ltArc ((arcsOf b (List.range b.steps.toNat)).headD (0,0)) ((arcsOf b (List.range b.steps.toNat)).drop 1)
theorem ui (a c:Int×Int):ltArc a c=true↔a.2<c.2\/(a.2=c.2/\a.1<c.1):=by
 unfold ltArc; simp
theorem uU {o:Int×Int} {xs:List (Int×Int)}:∀ y∈o::xs,ltArc y (zR ltArc o xs)=false:=by
 induction xs generalizing o with
 | nil =>
  intro y hy;simp only [lS] at hy;subst hy;unfold zR ltArc; simp
 | cons x xs ih =>
  intro y hy;show ltArc y (zR ltArc (if ltArc x o=true then x else o) xs)=false;have h0:=ih (o:=if ltArc x o=true then x else o);generalize zR ltArc (if ltArc x o=true then x else o) xs=m at h0;rcases lI.1 hy with rfl | hy
  ·by_cases hc:ltArc x y=true
   ·rw [if_pos hc] at h0;have h1:=h0 x List.mem_cons_self;rw [Bool.eq_false_iff] at h1 ⊢;intro h2;apply h1;rw [ui] at hc h2 ⊢;omega
   ·rw [if_neg hc] at h0;exact h0 y List.mem_cons_self
  ·rcases lI.1 hy with rfl | hy
   ·by_cases hc:ltArc y o=true
    ·rw [if_pos hc] at h0; exact h0 y List.mem_cons_self
    ·rw [if_neg hc] at h0;have h1:=h0 o List.mem_cons_self;rw [Bool.eq_false_iff] at h1 ⊢;intro h2;apply h1;rw [ui] at hc h2 ⊢;omega
   ·exact h0 y (lL _ hy)
theorem zgm {o o':Int×Int} {xs xs':List (Int×Int)} (h:∀ y,y∈o::xs↔y∈o'::xs'):zR ltArc o xs=zR ltArc o' xs':=by
 have h1:=uU (o:=o) (xs:=xs) _ ((h _).2 (ke (lt:=ltArc) (o:=o') (xs:=xs')));have h2:=uU (o:=o') (xs:=xs') _ ((h _).1 (ke (lt:=ltArc) (o:=o) (xs:=xs)));rw [Bool.eq_false_iff,ne_eq,ui] at h1 h2;exact Prod.ext oQ oQ
theorem uk:∀ {l1 l2:List Nat},l1.Nodup->(∀ x∈l1,x∈l2)->l1.length<=l2.length
 | [],_,_,_=>mN _
 | x::l1,l2,hn,hs=>by
  obtain ⟨h1,h2⟩:=List.nodup_cons.1 hn;have hx:x∈l2:=hs x sQ;have:=uk (l1:=l1) (l2:=l2.erase x) h2 fun y hy=>by
   have hne:y≠x:=fun e=>h1 (e ▸ hy);exact (List.mem_erase_of_ne hne).2 (hs y (by simp [hy]))
  rw [List.length_erase_of_mem hx] at this;have:0<l2.length:=List.length_pos_of_mem hx;simp; omega
theorem zkZ {N:Nat} {rec:List Nat} (hn:rec.Nodup) (hlt:rec.length<N):∃ q,q<N/\q∉rec:=by
 refine Classical.byContradiction fun h=>?_;have hall:∀ q∈List.range N,q∈rec:=fun q hq=>Classical.byContradiction fun hm=>h ⟨q,List.mem_range.1 hq,hm⟩;have:=uk (List.nodup_range (n:=N)) hall;rw [List.length_range] at this;omega
theorem zl2 {N:Nat} {rec:List Nat} (hn:rec.Nodup) (hs:∀ q∈rec,q<N) (hl:rec.length=N):∀ q,q<N->q∈rec:=fun q hq=>Classical.byContradiction fun hm=>by
 have:=uk (l1:=q::rec) (l2:=List.range N) (List.nodup_cons.2 ⟨hm,hn⟩) fun x hx=>by
  rcases lI.1 hx with rfl | hx
  ·exact List.mem_range.2 hq
  ·exact List.mem_range.2 (hs x hx)
 rw [List.length_range] at this;simp at this;omega
theorem zgg {b:Bk} {rec:List Nat} {N:Nat} (h:∀ q,q∈rec↔q<N) (y:Int×Int):y∈arcsOf b rec↔y∈arcsOf b (List.range N):=by
 unfold arcsOf;simp only [List.mem_filterMap,List.mem_range,h]
theorem zhf (b:Bk) (rec:List Nat):(arcsOf b rec).length<=rec.length:=List.length_filterMap_le _ _
theorem zeX {b:Bk} {rec:List Nat} {q:Nat} {x:Int×Int} (h:arcA b q=some x):arcsOf b (rec++[q])=arcsOf b rec++[x]:=by
 unfold arcsOf; rw [List.filterMap_append]; simp [h]
theorem zeW {b:Bk} {rec:List Nat} {q:Nat} (h:arcA b q=none):arcsOf b (rec++[q])=arcsOf b rec:=by
 unfold arcsOf; rw [List.filterMap_append]; simp [h]
theorem zbW {xs:List (Int×Int)} {k:Nat} (h:k<xs.length) {e:TypeId} {sz:Nat}:zZ (.row (xs.flatMap arcC) e sz) (k*2) 2=some [intA xs[k].1,intA xs[k].2]:=by
 have hle:(k+1)*2<=xs.length*2:=Nat.mul_le_mul_right _ h;have hl:=yk arcC 2 (fun _=>rfl) xs;simp only [zZ,AObj.look];rw [if_pos ⟨by omega,oQ⟩,kC arcC 2 (fun _=>rfl) _ _ h];rfl
section
variable {P:Program} {gm:Nat->Option Nat} {T:Goroutine->Hp->Prop} {cg cn:Nat} {msg:Nat->Nat×Value} {Stop:Goroutine->Hp->Prop} {Y:KX P gm T} {ds:List Nat} {k:List Item} {env:List AV} {K:KV} {φ0:Nat->Loc3} {n0:Nat}
theorem TK.loopJ {R:Nat->Bool} {c:Code} (I:Nat->List AV->KV->Prop) (N:Nat) (h0:I 0 env K) (round:∀ j env K,j<=N->I j env K->(∀ env' K',j<N->I (j+1) env' K'->TK (phX Y cg cn msg Stop (j+1) R φ0 n0) ds (.inLoop c::k) env' K')->TK (phX Y cg cn msg Stop j R φ0 n0) ds (.code c::.inLoop c::k) env K) :
  TK (phX Y cg cn msg Stop 0 R φ0 n0) ds (.code (.loop c)::k) env K:=by
 have key:∀ q j env K,N - j=q->j<=N->I j env K->TK (phX Y cg cn msg Stop j R φ0 n0) ds (.code c::.inLoop c::k) env K:=by
  intro q
  induction q with
  | zero=>exact fun j env K hq hj hI=>round j env K hj hI fun env' K' hlt=>absurd hlt oQ
  | succ q ih=>exact fun j env K hq hj hI=>round j env K hj hI fun env' K' hlt hI'=>TK.inLoop (ih (j+1) env' K' oQ oQ hI')
 exact TK.loop (key N 0 env K rfl (mN _) h0)
theorem TK.loopR {j:Nat} {R:Nat->Bool} {c:Code} (I:Nat->(Nat->Bool)->List AV->KV->Prop) (n:Nat) (h0:I n R env K) (round:∀ n R env K,I n R env K->(∀ n' R' env' K',n'<n->I n' R' env' K'->TK (phX Y cg cn msg Stop j R' φ0 n0) ds (.inLoop c::k) env' K')->TK (phX Y cg cn msg Stop j R φ0 n0) ds (.code c::.inLoop c::k) env K) :
  TK (phX Y cg cn msg Stop j R φ0 n0) ds (.code (.loop c)::k) env K:=by
 have key:∀ n R env K,I n R env K->TK (phX Y cg cn msg Stop j R φ0 n0) ds (.code c::.inLoop c::k) env K:=by
  intro n
  induction n using Nat.strongRecOn with
  | _ n ih=>exact fun R env K hI=>round n R env K hI fun n' R' env' K' hlt hI'=>TK.inLoop (ih n' hlt R' env' K' hI')
 exact TK.loop (key n R env K h0)
theorem ziD {f:FuncId} {fn:Func} {c:Code} (args:Array Value) (hf:P.funcs[f]? =some fn) (hb:fn.body=some c):Frame.enter P f args .deferred=fr .deferred f none (args++Array.replicate (fn.ntmps - args.size) undef) [] [.code c]:=by
 simp [Frame.enter,hf,hb,fr]
theorem zmf {m:Nat×Value} {g:FuncId} {fn:Func} {c:Code} {cp:List AV} {K:KV} {φ:Nat->Loc3} {A:List AObj} {Hc:Hp} {vs:Array Value} (hg:ym P g=true) (hf:P.funcs[g]? =some fn) (hb:fn.body=some c) (hv:zP K A) (hn:(keys K).Nodup) (h3:RelG gm φ A.length) (h5:RelH φ A (fun _=>none) Hc) (h6:zT φ A.length cp vs)
  (h:∀ Y:KX P gm (TreeW P (AtSend P m)),Y.X.kd=.deferred->Y.X.ro=none->Y.X.cs=[bot P]->Y.X.f=g->TK Y [] [.code c] (cp++mB (fn.ntmps - cp.length) .any) K):TreeW P (AtSend P m) (born P { target:=.fn (.func g) vs,args:=#[] }) Hc:=by
 have hT:=zc2 P (AtSend P m);refine hT.ctl Z (fun w=>birth hg #[] vs w) rfl ?_;rw [Array.empty_append,ziD vs hf hb]
 let X:Cx P gm (TreeW P (AtSend P m)):={ main:=false,hT,φ0:=φ,n0:=A.length,F:=fun _=>none,kd:=.deferred,hkd:=(fun h=>by cases h),f:=g,ro:=none,cs:=[bot P],L:=fun _ _ _ _=>False,hL:=fun _ _ _ _ _ _ _ _ _ h=>h.elim }
 exact h ⟨X,A,keys K⟩ rfl rfl rfl rfl A ⟨hv,hn,fun i hi=>.inl hi,fun _ _ _=>rfl,mL _⟩ φ Hc _ (Agr.refl _ _) (mL _) h3 (fun d hd=>by cases hd) h5 (vI h6 _)
end
theorem zll {main:Bool} {T:Goroutine->Hp->Prop} (hT:zh tp main T)  {b:Bk} {s e:Nat} {yv:AV} {t:Bool} {Kt:KV} (hse:s≠e) (hn:∀ x∈b.seekers,x.name.size<=1000) (hl:b.seen.length<=1000) (hy1:oneA yv=true) (hth:BkOk b->CallFK tp T gmS yv [.agg (zx b s e)] Kt (fun r K'=>r=zm t/\K'=Kt)) :
  zg tp T gmS 102 [.agg (zx b s e),yv] ((0,zw)::(1,zA)::(s,zn b)::(e,zo b)::Kt) (fun r K'=>(askM b t≠0/\r=.tup [.agg zeroKn,intA (askM b t)]/\K'=(0,zw)::(1,zA)::(s,zn b)::(e,zo b)::Kt)\/(∃ jl m om,askM b t=0/\MapOk om (oftM (zb b))/\r=.tup [.agg (knownC b s e (.row jl (zb b).length) m),intA 0]/\K'=(jl,rowO (zb b))::(m,.raw om)::(0,zw)::(1,zA)::(s,zn b)::(e,zo b)::Kt)):=by
 refine ze 59 hT Tryz.func102 fun Y hret=>?_;refine au 21042 ?_;intro jb hjb;refine au 220 ?_;intro jk hjk;refine au 68042235 ?_;refine bD Z Z Z Z (kP hT (b:=b) (s:=s) (e:=e) hn hl) ?_;rintro r1 K2 ⟨rfl,rfl⟩;refine au 93714235 ?_;constructor<;>intro hc0
 ·refine au 35170145042 ?_;refine bB hret (((0,zw)::(1,zA)::(s,zn b)::(e,zo b)::Kt)) ?_;have ha:askM b t=checkM b:=if_pos (by simpa using hc0);exact .inl ⟨by rw [ha]; simpa using hc0,by rw [ha]; rfl,rfl⟩
 have hc1:checkM b=0:=by simpa using hc0
 have hb:=yo hc1;refine au 43068042120 ?_;refine TK.newM Z Z Z (uj Z) (fun _=>zy rfl tQ) fun jm hjm=>?_;refine au 220450 ?_;intro jx hjx;refine au 68067014223170 ?_;refine TK.callF' Z Z Z Z Z (hth hb) (.right (.right (.right (.right (.right (.right (.right (.right (.all _))))))))) fun r4 K5 h6=>?_;obtain ⟨rfl,hK⟩:=h6;refine au 0 ?_;rw [hK];refine bN (K':=(jx,_)::(jm,_)::(0,_)::(s,_)::(e,_)::(jk,_)::(jb,_)::(1,_)::Kt) (lH (l₁:=Kt)) ?_;refine au 93300 ?_;constructor<;>intro hc2
 ·have ht:t=false:=by simpa using hc2
  refine au 3517045042 ?_;refine bB hret (((0,zw)::(1,zA)::(s,zn b)::(e,zo b)::Kt)) ?_;have ha:askM b t=6:=by unfold askM; rw [if_neg (by simpa using hc1),ht,if_pos rfl]
  exact .inl ⟨by rw [ha]; decide,by rw [ha]; rfl,rfl⟩
 have ht:t=true:=by simpa using hc2
 refine au 680670422120 ?_;refine bD Z Z Z Z (za9 hT hse hb) ?_;rintro r7 K8 ⟨jl,rfl,rfl⟩;refine au 937280690670423170670 ?_;constructor<;>intro hc3
 ·have hst:zb b=[]:=lK (by have h:((zb b).length:Int)=0:=(by simpa using hc3); omega);refine au 3517045042 ?_;refine bB hret (((0,zw)::(1,zA)::(s,zn b)::(e,zo b)::Kt)) ?_;have ha:askM b t=9:=by unfold askM; rw [if_neg (by simpa using hc1),ht,if_neg dQ,if_pos hst]
  exact .inl ⟨by rw [ha]; decide,by rw [ha]; rfl,rfl⟩
 have hst:zb b≠[]:=fun h=>by rw [h] at hc3; exact absurd hc3 dQ
 have hLo:=yL hb;have hLn:=yE hb;refine au 13031280690670422120 ?_;refine bA [4,7,38,39,40] ?_;refine bC (((jx,_)::(jm,_)::(jl,_)::(jk,_)::(0,_)::(1,_)::(s,_)::(e,_)::Kt)) ?_;refine bE (fun n env K=>∃ (i:Nat) (om:Obj),n=(zb b).length - i/\i<=(zb b).length/\MapOk om (fun q=>(((zb b).take i).flatten.count q:Nat))/\env=zJ 59 [(4,.ptr jk 0),(7,.ptr jx 0),(38,.row jl (zb b).length),(39,intA (zb b).length),(40,intA i)]/\K=(jx,.cells (knownC b s e (.row jl (zb b).length) jm) 219 true)::(jm,.raw om)::(jl,rowO (zb b))::(jk,.cells zeroKn 219 true)::(0,zw)::(1,zA)::(s,zn b)::(e,zo b)::Kt) (zb b).length ⟨0,_,rfl,mN _,zd8,rfl,rfl⟩ fun n env K hI' hnext=>?_;obtain ⟨i,om,rfl,hi,hom,rfl,rfl⟩:=hI';refine au 923742 ?_;refine ⟨fun hc=>?_,fun hc=>?_⟩
 ·simp only [decide_eq_true_eq] at hc;have hil:i<(zb b).length:=by omega
  have hSm:=hLo _ (List.getElem_mem hil);refine au 370421302120 ?_;refine bH Z (zK Z Z zd.h mQ (zkx (zb b) i hil)) ?_;refine au 220 ?_;intro j9 hj9;refine au 680423170 ?_;refine bD Z Z Z Z (zbk hT hSm.len fun x hx=>⟨(hSm.mem x hx).1,by have:=(hSm.mem x hx).2; have:=hb.steps; omega⟩) ?_;rintro r10 K11 ⟨jr,rfl,rfl⟩;refine au 13031280 ?_;refine bA [4,7,38,39,40,45,46,47] ?_;refine bC (((jr,_)::(jx,_)::(jm,_)::(jl,_)::(jk,_)::(0,_)::(1,_)::(s,_)::(e,_)::Kt)) ?_;refine bE (fun n env K=>∃ (q:Nat) (om2:Obj),n=(zb b)[i].length - q/\q<=(zb b)[i].length/\MapOk om2 (fun z=>(((((zb b).take i).flatten++(zb b)[i].take q).count z:Nat):Int))/\env=zJ 59 [(4,.ptr jk 0),(7,.ptr jx 0),(38,.row jl (zb b).length),(39,intA (zb b).length),(40,intA i),(45,.row jr (zb b)[i].length),(46,intA (zb b)[i].length),(47,intA q)]/\K=(jr,.row ((zb b)[i].map intA) 3 1)::(jx,.cells (knownC b s e (.row jl (zb b).length) jm) 219 true)::(jm,.raw om2)::(jl,rowO (zb b))::(jk,.cells zeroKn 219 true)::(0,zw)::(1,zA)::(s,zn b)::(e,zo b)::Kt) (zb b)[i].length ⟨0,om,rfl,mN _,by simpa using hom,rfl,rfl⟩ fun n env K hI' hnext2=>?_;obtain ⟨q,om2,rfl,hq,hom2,rfl,rfl⟩:=hI';refine au 923742 ?_;refine ⟨fun hcq=>?_,fun hcq=>?_⟩
  ·simp only [decide_eq_true_eq] at hcq;have hlen3:=hSm.len;have hql:q<(zb b)[i].length:=by omega
   have hcnt:(((zb b).take i).flatten++(zb b)[i].take q).count (zb b)[i][q]<=200000:=mT List.count_le_length (by
    have h1:=uv (Ls:=(zb b).take i) (fun R hR=>(hLo R (List.mem_of_mem_take hR)).len);have h2:((zb b).take i).length<=65536:=by rw [List.length_take]; omega
    have h3:=hSm.len;rw [lF,List.length_take]; omega)
   refine au 370421302120 ?_;refine bH Z (zp Z Z zd.h mQ (zci (i:=q) hql Z)) ?_;refine au 1690670435 ?_;refine bH Z (vZ Z Z Z Und.h Und.h InfO.h Z mQ hom2) ?_;refine au 230 ?_;refine TK.st Z Z Z (zbG Z Z Z Z Und.h Und.h mQ hom2) uQ (putN Z) ?_;refine au 3123041403 ?_;refine bA [4,7,38,39,40,45,46,47] ?_;refine bC (((jr,_)::(jx,_)::(jm,_)::(jl,_)::(jk,_)::(0,_)::(1,_)::(s,_)::(e,_)::Kt)) ?_;exact hnext2 _ _ _ oQ ⟨q+1,_,rfl,oQ,vg (zjQ hom2) (fun z=>(zfD hil hql z).symm),rfl,rfl⟩
  simp only [decide_eq_false_iff_not] at hcq;obtain rfl:q=(zb b)[i].length:=by omega
  refine au 312304140160 ?_;refine bA [4,7,38,39,40] ?_;refine bC (((jx,_)::(jm,_)::(jl,_)::(jk,_)::(0,_)::(1,_)::(s,_)::(e,_)::Kt)) ?_;exact hnext _ _ _ oQ ⟨i+1,om2,rfl,oQ,vg hom2 (fun q=>by rw [zfC hil]),rfl,rfl⟩
 simp only [decide_eq_false_iff_not] at hc;obtain rfl:i=(zb b).length:=by omega
 refine au 3517068042160 ?_;refine bB hret (((jl,_)::(jm,_)::(0,zw)::(1,zA)::(s,zn b)::(e,zo b)::Kt)) ?_;have ha:askM b t=0:=by unfold askM; rw [if_neg (by simpa using hc1),ht,if_neg dQ,if_neg hst]
 rw [lW] at hom;exact .inr ⟨jl,jm,_,ha,hom,rfl,rfl⟩
theorem zjV {gm:Nat->Option Nat} {m:Nat×Value} {b:Bk} {s e j9 j7 j8 jx jb jl jm low cg cn:Nat} (hb:BkOk b) (hlow:low<b.steps.toNat) (hm:m=msgN b cg cn low) (Y:KX tp gm (TreeW tp (AtSend tp m))) (hkd:Y.X.kd=.deferred) (hro:Y.X.ro=none) (hcs:Y.X.cs=[bot tp]) (hf:Y.X.f=113) :
  TK Y [] [.code ((Tryz.f113.body).getD .skip)] ([.ptr jb 0,.ptr jx 0,.ptr j9 0,.ptr j7 0,.ptr j8 0]++mB (Tryz.f113.ntmps - 5) .any) [(j9,.cells [intA low] 3 false),(j7,.cells [.v (.chan (some cg))] 226 false),(j8,.cells [.v (.chan (some cn))] 227 false),(jx,.cells (knownC b s e (.sl jl 0 (zb b).length) jm) 219 false),(jb,.cells (zx b s e) 27 false),(jl,listO (zb b))]:=by
 have hT:=zc2 tp (AtSend tp m);have hLo:=yL hb;have hLn:=yE hb;have hst16:=hb.steps;refine TK.norm (he:=rfl) (env':=[_,_,_,_,_,_,_,_,_,_,_,_,_,_,_,_,_,_,_,_,_,_,_]) ?_;refine au 13035422 ?_;refine bA [0,1,2,3,4,5] ?_;refine bE (fun n env K=>∃ (i:Nat),n=b.steps.toNat - i/\i<=b.steps.toNat/\(∀ q,q<i->¬ (withinM b (zb b) low ((q:Int)+1)).1>0)/\env=zJ 23 [(0,.ptr jb 0),(1,.ptr jx 0),(2,.ptr j9 0),(3,.ptr j7 0),(4,.ptr j8 0),(5,intA ((i:Int)+1))]/\K=[(j9,.cells [intA low] 3 false),(j7,.cells [.v (.chan (some cg))] 226 false),(j8,.cells [.v (.chan (some cn))] 227 false),(jx,.cells (knownC b s e (.sl jl 0 (zb b).length) jm) 219 false),(jb,.cells (zx b s e) 27 false),(jl,listO (zb b))]) b.steps.toNat ⟨0,rfl,mN _,fun q hq=>absurd hq (Nat.not_lt_zero _),rfl,rfl⟩ fun n env K hI' hnext=>?_;obtain ⟨i,rfl,hi,hno,rfl,rfl⟩:=hI';refine au 9376906701422 ?_;refine ⟨fun hc=>?_,fun hc=>?_⟩
 ·simp only [decide_eq_true_eq] at hc;have hil:i<b.steps.toNat:=by omega
  refine au 1690680421302120 ?_;refine bD Z Z Z Z (zeL hT (b:=b) (s:=s) (e:=e) (lo:=low) (w:=(i:Int)+1) hb.steps hLo hLn oQ) ?_;rintro r1 K2 ⟨rfl,rfl⟩;refine au 937310 ?_;constructor<;>intro hc1
  ·have hak:arcK b low=some i:=List.find?_range_eq_some.2 ⟨by simpa using hc1,List.mem_range.2 hil,fun q hq=>by have:=hno q hq; simpa using this⟩;obtain rfl:m=(cg,.agg #[.int .i64 low,.int .i64 ((i:Int)+1)]):=by rw [hm]; unfold msgN; rw [hak]
   refine au 390169069042 ?_;exact TK.sendW rfl rfl rfl rfl rfl rfl hkd hro hcs fun ts=>by rw [hf]; exact zjn Tryz.func113 rfl
  refine au 3523014140120 ?_;refine bA [0,1,2,3,4,5] ?_;refine bC [(j9,_),(j7,_),(j8,_),(jx,_),(jb,_),(jl,_)] ?_;exact hnext _ _ _ oQ ⟨i+1,rfl,oQ,fun q hq=>by
   rcases Nat.lt_or_ge q i with h | h
   ·exact hno q h
   ·obtain rfl:q=i:=by omega
    simpa using hc1,rfl,rfl⟩
 simp only [decide_eq_false_iff_not] at hc;obtain rfl:i=b.steps.toNat:=by omega
 have hak:arcK b low=none:=List.find?_eq_none.2 fun q hq=>by have:=hno q (List.mem_range.1 hq); simpa using this
 obtain rfl:m=(cn,.bool true):=by rw [hm]; unfold msgN; rw [hak]
 refine au 6904160 ?_;exact TK.sendW rfl rfl rfl rfl rfl rfl hkd hro hcs fun ts=>by rw [hf]; exact zjm Tryz.func113 rfl
section
variable {P:Program} {gm:Nat->Option Nat} {T:Goroutine->Hp->Prop} {Y:KX P gm T} {ds:List Nat} {k:List Item} {env:List AV} {K:KV}
theorem TK.share {c:Code} (E:Nat->Nat->Nat->Nat->List AV) (KK:Nat->Nat->Nat->Nat->KV) (h:(∀ a b c d,TK Y ds k (E a b c d) (KK a b c d))->TK Y ds (.code c::k) env K) (hc:∀ a b c d,TK Y ds k (E a b c d) (KK a b c d)):TK Y ds (.code c::k) env K:=h hc
end
def narrowApi (b:Bk):(Int×Int)×Bool×Int:=if askM b true≠0 then ((0,0),false,askM b true) else if arcsOf b (List.range b.steps.toNat)=[] then ((0,0),false,0) else (narrowM b,true,0)
theorem zgS {Ls:List (List Int)} (h:Ls≠[]):Ls.flatMap zY≠[]:=by
 cases Ls with
 | nil=>exact absurd rfl h
 | cons S Ls=>rw [List.flatMap_cons]; unfold zY; simp
theorem zlK (b:Bk) (cg cn i:Nat):(msgN b cg cn i).1=cg\/(msgN b cg cn i).1=cn:=by
 unfold msgN; split
 ·exact .inl rfl
 ·exact .inr rfl
theorem zmL {b:Bk} {cg cn q w:Nat} (h:arcK b q=some w):msgN b cg cn q=(cg,.agg #[.int .i64 q,.int .i64 ((w:Int)+1)])/\arcA b q=some ((q:Int),(w:Int)+1):=by
 unfold msgN arcA; rw [h]; exact ⟨rfl,rfl⟩
theorem zmK {b:Bk} {cg cn q:Nat} (h:arcK b q=none):msgN b cg cn q=(cn,.bool true)/\arcA b q=none:=by
 unfold msgN arcA; rw [h]; exact ⟨rfl,rfl⟩
theorem vu (tame:Tame tp) {Ψ:Goroutine->World->Prop} {b:Bk} {s e:Nat} (hse:s≠e) (hn:∀ x∈b.seekers,x.name.size<=1000) (hl:b.seen.length<=1000):zg tp (BT tp Ψ) gmS 41 [.agg (zx b s e)] [(0,zw),(1,zA),(s,zn b),(e,zo b)] (fun r K'=>r=.tup [intA (narrowApi b).1.1,intA (narrowApi b).1.2,zm (narrowApi b).2.1,intA (narrowApi b).2.2]/\K'=[(0,zw),(1,zA),(s,zn b),(e,zo b)]):=by
 have hT:=kX tame Ψ;refine ze 59 hT Tryz.func41 fun Y hret=>?_;refine au 21042 ?_;intro jb hjb;refine au 6804235555 ?_;refine bD Z Z Z Z (zll hT (b:=b) (s:=s) (e:=e) (t:=true) hse hn hl Z (fun hb=>yz Cal.h (wA hT))) ?_;rintro r1 K2 h3;rcases h3 with ⟨hb0,rfl,rfl⟩ | ⟨jl,jm,om,hb0,hom,rfl,rfl⟩
 ·refine au 220661 ?_;intro jx hjx;refine au 937142235170 ?_;constructor<;>intro hc0
  ·
   refine au 35555142 ?_;refine bB hret [(0,_),(1,_),(s,_),(e,_)] ?_;exact ⟨by unfold narrowApi; rw [if_pos hb0]; rfl,rfl⟩
  exact absurd (by simpa using hc0) hb0
 ·refine au 220661 ?_;intro jx hjx;refine au 937142235170 ?_;constructor<;>intro hc0
  ·exact absurd hc0 dQ
  obtain ⟨hck,hth,hne⟩:=kO hb0;have hb:=yo hck;have hLo:=yL hb;have hLn:=yE hb;refine au 2120 ?_;refine TK.share (fun jc1 jc2 j7 j8=>zJ 59 [(1,.ptr jb 0),(6,.ptr jx 0),(7,.ptr j7 0),(8,.ptr j8 0)]) (fun jc1 jc2 j7 j8=>(jc1,.raw (.chan 0 #[] false 0 0 false))::(jc2,.raw (.chan 0 #[] false 0 0 false))::(j7,.cells [.chan jc1] 226 true)::(j8,.cells [.chan jc2] 227 true)::(jx,.cells (knownC b s e (.row jl (zb b).length) jm) 219 true)::(jb,.cells (zx b s e) 27 true)::(jl,rowO (zb b))::(0,zw)::(1,zA)::(s,zn b)::(e,zo b)::[]) (fun hcont=>?_) (fun jc1 jc2 j7 j8=>?_)
  ·refine bL [0,1,2,3,4,5] ?_;refine TD.cM [0,1,2,3] Z ?_;intro mm hmm;simp only [lI,List.not_mem_nil,or_false] at hmm;rcases hmm with rfl | rfl | rfl | rfl
   ·refine ⟨[],_,[],[1,2,3,4,5],rfl,rfl,rfl,rfl,?_⟩;refine zX Z (zH Z Und.h InfO.h) (fun _=>zy rfl tQ) sQ fun jc1 hjc1=>?_;refine TD.cM [1,2,3] Z ?_;intro mm hmm;simp only [lI,List.not_mem_nil,or_false] at hmm;rcases hmm with rfl | rfl | rfl
    ·refine ⟨[],_,[],[2,3,4,5],rfl,rfl,rfl,rfl,?_⟩;refine zX Z (zH Z Und.h InfO.h) (fun _=>zy rfl tQ) sQ fun jc2 hjc2=>?_;refine TD.c2 (i1:=2) (i2:=3) (pend1:=[]) (pend2:=[]) (L1:=[3,4,5]) (L2:=[2,4,5]) [] [] Z Z Z Z Z Z Z ?_ ?_
     ·refine yr Z (zU Z TyZA.h) (fun _=>zy rfl tQ) sQ fun j7 hj7=>?_;refine bX (pend':=[]) [] Z Z Z Z Z (zU Z TyZA.h) (fun _=>zy rfl tQ) sQ fun j8 hj8=>?_;refine bR (pend':=[]) [7,21] Z Z (zt Z Z zd.h Z Z mQ Z) ?_;refine bR (pend':=[]) [8,22] Z Z (zt Z Z zd.h Z Z mQ Z) ?_;refine ad [[14]] ?_;refine bA [1,6,7,8] ?_;refine bC ((jc1,_)::(jc2,_)::(j7,_)::(j8,_)::(jx,_)::(jb,_)::(jl,_)::(0,_)::(1,_)::(s,_)::(e,_)::[]) ?_;exact hcont jc1 jc2 j7 j8
     ·refine yr Z (zU Z TyZA.h) (fun _=>zy rfl tQ) sQ fun j8 hj8=>?_;refine bX (pend':=[]) [] Z Z Z Z Z (zU Z TyZA.h) (fun _=>zy rfl tQ) sQ fun j7 hj7=>?_;refine bR (pend':=[]) [7,21] Z Z (zt Z Z zd.h Z Z mQ Z) ?_;refine bR (pend':=[]) [8,22] Z Z (zt Z Z zd.h Z Z mQ Z) ?_;refine ad [[14]] ?_;refine bA [1,6,7,8] ?_;refine bC ((jc1,_)::(jc2,_)::(j7,_)::(j8,_)::(jx,_)::(jb,_)::(jl,_)::(0,_)::(1,_)::(s,_)::(e,_)::[]) ?_;exact hcont jc1 jc2 j7 j8
    ·refine ⟨[],_,[],[1,3,4,5],rfl,rfl,rfl,rfl,?_⟩;refine yr Z (zU Z TyZA.h) (fun _=>zy rfl tQ) sQ fun j7 hj7=>?_;refine TD.c2 (i1:=1) (i2:=3) (pend1:=[]) (pend2:=[]) (L1:=[3,4,5]) (L2:=[1,4,5]) [] [] Z Z Z Z Z Z Z ?_ ?_
     ·refine zX Z (zH Z Und.h InfO.h) (fun _=>zy rfl tQ) sQ fun jc2 hjc2=>?_;refine bX (pend':=[]) [] Z Z Z Z Z (zU Z TyZA.h) (fun _=>zy rfl tQ) sQ fun j8 hj8=>?_;refine bR (pend':=[]) [7,21] Z Z (zt Z Z zd.h Z Z mQ Z) ?_;refine bR (pend':=[]) [8,22] Z Z (zt Z Z zd.h Z Z mQ Z) ?_;refine ad [[14]] ?_;refine bA [1,6,7,8] ?_;refine bC ((jc1,_)::(jc2,_)::(j7,_)::(j8,_)::(jx,_)::(jb,_)::(jl,_)::(0,_)::(1,_)::(s,_)::(e,_)::[]) ?_;exact hcont jc1 jc2 j7 j8
     ·refine yr Z (zU Z TyZA.h) (fun _=>zy rfl tQ) sQ fun j8 hj8=>?_;refine TD.c2 (i1:=1) (i2:=4) (pend1:=[]) (pend2:=[]) (L1:=[4,5]) (L2:=[1,5]) [] [7,21] Z Z Z Z Z Z Z ?_ ?_
      ·refine zX Z (zH Z Und.h InfO.h) (fun _=>zy rfl tQ) sQ fun jc2 hjc2=>?_;refine bR (pend':=[]) [7,21] Z Z (zt Z Z zd.h Z Z mQ Z) ?_;refine bR (pend':=[]) [8,22] Z Z (zt Z Z zd.h Z Z mQ Z) ?_;refine ad [[14]] ?_;refine bA [1,6,7,8] ?_;refine bC ((jc1,_)::(jc2,_)::(j7,_)::(j8,_)::(jx,_)::(jb,_)::(jl,_)::(0,_)::(1,_)::(s,_)::(e,_)::[]) ?_;exact hcont jc1 jc2 j7 j8
      ·refine uH Z (zt Z Z zd.h Z Z mQ Z) uQ (putN Z) sQ ?_;refine TD.c (pend':=[]) [] Z Z Z Z (zX Z (zH Z Und.h InfO.h) (fun _=>zy rfl tQ) sQ fun jc2 hjc2=>?_);refine bR (pend':=[]) [8,22] Z Z (zt Z Z zd.h Z Z mQ Z) ?_;refine ad [[14]] ?_;refine bA [1,6,7,8] ?_;refine bC ((jc1,_)::(jc2,_)::(j7,_)::(j8,_)::(jx,_)::(jb,_)::(jl,_)::(0,_)::(1,_)::(s,_)::(e,_)::[]) ?_;exact hcont jc1 jc2 j7 j8
    ·refine ⟨[],_,[],[1,2,4,5],rfl,rfl,rfl,rfl,?_⟩;refine yr Z (zU Z TyZA.h) (fun _=>zy rfl tQ) sQ fun j8 hj8=>?_;refine TD.c2 (i1:=1) (i2:=2) (pend1:=[]) (pend2:=[]) (L1:=[2,4,5]) (L2:=[1,4,5]) [] [] Z Z Z Z Z Z Z ?_ ?_
     ·refine zX Z (zH Z Und.h InfO.h) (fun _=>zy rfl tQ) sQ fun jc2 hjc2=>?_;refine bX (pend':=[]) [] Z Z Z Z Z (zU Z TyZA.h) (fun _=>zy rfl tQ) sQ fun j7 hj7=>?_;refine bR (pend':=[]) [7,21] Z Z (zt Z Z zd.h Z Z mQ Z) ?_;refine bR (pend':=[]) [8,22] Z Z (zt Z Z zd.h Z Z mQ Z) ?_;refine ad [[14]] ?_;refine bA [1,6,7,8] ?_;refine bC ((jc1,_)::(jc2,_)::(j7,_)::(j8,_)::(jx,_)::(jb,_)::(jl,_)::(0,_)::(1,_)::(s,_)::(e,_)::[]) ?_;exact hcont jc1 jc2 j7 j8
     ·refine yr Z (zU Z TyZA.h) (fun _=>zy rfl tQ) sQ fun j7 hj7=>?_;refine TD.c2 (i1:=1) (i2:=4) (pend1:=[]) (pend2:=[]) (L1:=[4,5]) (L2:=[1,5]) [] [7,21] Z Z Z Z Z Z Z ?_ ?_
      ·refine zX Z (zH Z Und.h InfO.h) (fun _=>zy rfl tQ) sQ fun jc2 hjc2=>?_;refine bR (pend':=[]) [7,21] Z Z (zt Z Z zd.h Z Z mQ Z) ?_;refine bR (pend':=[]) [8,22] Z Z (zt Z Z zd.h Z Z mQ Z) ?_;refine ad [[14]] ?_;refine bA [1,6,7,8] ?_;refine bC ((jc1,_)::(jc2,_)::(j7,_)::(j8,_)::(jx,_)::(jb,_)::(jl,_)::(0,_)::(1,_)::(s,_)::(e,_)::[]) ?_;exact hcont jc1 jc2 j7 j8
      ·refine uH Z (zt Z Z zd.h Z Z mQ Z) uQ (putN Z) sQ ?_;refine TD.c (pend':=[]) [] Z Z Z Z (zX Z (zH Z Und.h InfO.h) (fun _=>zy rfl tQ) sQ fun jc2 hjc2=>?_);refine bR (pend':=[]) [8,22] Z Z (zt Z Z zd.h Z Z mQ Z) ?_;refine ad [[14]] ?_;refine bA [1,6,7,8] ?_;refine bC ((jc1,_)::(jc2,_)::(j7,_)::(j8,_)::(jx,_)::(jb,_)::(jl,_)::(0,_)::(1,_)::(s,_)::(e,_)::[]) ?_;exact hcont jc1 jc2 j7 j8
   ·refine ⟨[],_,[],[0,2,3,4,5],rfl,rfl,rfl,rfl,?_⟩;refine zX Z (zH Z Und.h InfO.h) (fun _=>zy rfl tQ) sQ fun jc2 hjc2=>?_;refine TD.cM [0,2,3] Z ?_;intro mm hmm;simp only [lI,List.not_mem_nil,or_false] at hmm;rcases hmm with rfl | rfl | rfl
    ·refine ⟨[],_,[],[2,3,4,5],rfl,rfl,rfl,rfl,?_⟩;refine zX Z (zH Z Und.h InfO.h) (fun _=>zy rfl tQ) sQ fun jc1 hjc1=>?_;refine TD.c2 (i1:=2) (i2:=3) (pend1:=[]) (pend2:=[]) (L1:=[3,4,5]) (L2:=[2,4,5]) [] [] Z Z Z Z Z Z Z ?_ ?_
     ·refine yr Z (zU Z TyZA.h) (fun _=>zy rfl tQ) sQ fun j7 hj7=>?_;refine bX (pend':=[]) [] Z Z Z Z Z (zU Z TyZA.h) (fun _=>zy rfl tQ) sQ fun j8 hj8=>?_;refine bR (pend':=[]) [7,21] Z Z (zt Z Z zd.h Z Z mQ Z) ?_;refine bR (pend':=[]) [8,22] Z Z (zt Z Z zd.h Z Z mQ Z) ?_;refine ad [[14]] ?_;refine bA [1,6,7,8] ?_;refine bC ((jc1,_)::(jc2,_)::(j7,_)::(j8,_)::(jx,_)::(jb,_)::(jl,_)::(0,_)::(1,_)::(s,_)::(e,_)::[]) ?_;exact hcont jc1 jc2 j7 j8
     ·refine yr Z (zU Z TyZA.h) (fun _=>zy rfl tQ) sQ fun j8 hj8=>?_;refine bX (pend':=[]) [] Z Z Z Z Z (zU Z TyZA.h) (fun _=>zy rfl tQ) sQ fun j7 hj7=>?_;refine bR (pend':=[]) [7,21] Z Z (zt Z Z zd.h Z Z mQ Z) ?_;refine bR (pend':=[]) [8,22] Z Z (zt Z Z zd.h Z Z mQ Z) ?_;refine ad [[14]] ?_;refine bA [1,6,7,8] ?_;refine bC ((jc1,_)::(jc2,_)::(j7,_)::(j8,_)::(jx,_)::(jb,_)::(jl,_)::(0,_)::(1,_)::(s,_)::(e,_)::[]) ?_;exact hcont jc1 jc2 j7 j8
    ·refine ⟨[],_,[],[0,3,4,5],rfl,rfl,rfl,rfl,?_⟩;refine yr Z (zU Z TyZA.h) (fun _=>zy rfl tQ) sQ fun j7 hj7=>?_;refine TD.c2 (i1:=0) (i2:=3) (pend1:=[]) (pend2:=[]) (L1:=[3,4,5]) (L2:=[0,4,5]) [] [] Z Z Z Z Z Z Z ?_ ?_
     ·refine zX Z (zH Z Und.h InfO.h) (fun _=>zy rfl tQ) sQ fun jc1 hjc1=>?_;refine bX (pend':=[]) [] Z Z Z Z Z (zU Z TyZA.h) (fun _=>zy rfl tQ) sQ fun j8 hj8=>?_;refine bR (pend':=[]) [7,21] Z Z (zt Z Z zd.h Z Z mQ Z) ?_;refine bR (pend':=[]) [8,22] Z Z (zt Z Z zd.h Z Z mQ Z) ?_;refine ad [[14]] ?_;refine bA [1,6,7,8] ?_;refine bC ((jc1,_)::(jc2,_)::(j7,_)::(j8,_)::(jx,_)::(jb,_)::(jl,_)::(0,_)::(1,_)::(s,_)::(e,_)::[]) ?_;exact hcont jc1 jc2 j7 j8
     ·refine yr Z (zU Z TyZA.h) (fun _=>zy rfl tQ) sQ fun j8 hj8=>?_;refine TD.c (pend':=[]) [] Z Z Z Z (zX Z (zH Z Und.h InfO.h) (fun _=>zy rfl tQ) sQ fun jc1 hjc1=>?_);refine bR (pend':=[]) [7,21] Z Z (zt Z Z zd.h Z Z mQ Z) ?_;refine bR (pend':=[]) [8,22] Z Z (zt Z Z zd.h Z Z mQ Z) ?_;refine ad [[14]] ?_;refine bA [1,6,7,8] ?_;refine bC ((jc1,_)::(jc2,_)::(j7,_)::(j8,_)::(jx,_)::(jb,_)::(jl,_)::(0,_)::(1,_)::(s,_)::(e,_)::[]) ?_;exact hcont jc1 jc2 j7 j8
    ·refine ⟨[],_,[],[0,2,4,5],rfl,rfl,rfl,rfl,?_⟩;refine yr Z (zU Z TyZA.h) (fun _=>zy rfl tQ) sQ fun j8 hj8=>?_;refine TD.c2 (i1:=0) (i2:=2) (pend1:=[]) (pend2:=[]) (L1:=[2,4,5]) (L2:=[0,4,5]) [] [] Z Z Z Z Z Z Z ?_ ?_
     ·refine zX Z (zH Z Und.h InfO.h) (fun _=>zy rfl tQ) sQ fun jc1 hjc1=>?_;refine bX (pend':=[]) [] Z Z Z Z Z (zU Z TyZA.h) (fun _=>zy rfl tQ) sQ fun j7 hj7=>?_;refine bR (pend':=[]) [7,21] Z Z (zt Z Z zd.h Z Z mQ Z) ?_;refine bR (pend':=[]) [8,22] Z Z (zt Z Z zd.h Z Z mQ Z) ?_;refine ad [[14]] ?_;refine bA [1,6,7,8] ?_;refine bC ((jc1,_)::(jc2,_)::(j7,_)::(j8,_)::(jx,_)::(jb,_)::(jl,_)::(0,_)::(1,_)::(s,_)::(e,_)::[]) ?_;exact hcont jc1 jc2 j7 j8
     ·refine yr Z (zU Z TyZA.h) (fun _=>zy rfl tQ) sQ fun j7 hj7=>?_;refine TD.c (pend':=[]) [] Z Z Z Z (zX Z (zH Z Und.h InfO.h) (fun _=>zy rfl tQ) sQ fun jc1 hjc1=>?_);refine bR (pend':=[]) [7,21] Z Z (zt Z Z zd.h Z Z mQ Z) ?_;refine bR (pend':=[]) [8,22] Z Z (zt Z Z zd.h Z Z mQ Z) ?_;refine ad [[14]] ?_;refine bA [1,6,7,8] ?_;refine bC ((jc1,_)::(jc2,_)::(j7,_)::(j8,_)::(jx,_)::(jb,_)::(jl,_)::(0,_)::(1,_)::(s,_)::(e,_)::[]) ?_;exact hcont jc1 jc2 j7 j8
   ·refine ⟨[],_,[],[0,1,3,4,5],rfl,rfl,rfl,rfl,?_⟩;refine yr Z (zU Z TyZA.h) (fun _=>zy rfl tQ) sQ fun j7 hj7=>?_;refine TD.cM [0,1,3] Z ?_;intro mm hmm;simp only [lI,List.not_mem_nil,or_false] at hmm;rcases hmm with rfl | rfl | rfl
    ·refine ⟨[],_,[],[1,3,4,5],rfl,rfl,rfl,rfl,?_⟩;refine zX Z (zH Z Und.h InfO.h) (fun _=>zy rfl tQ) sQ fun jc1 hjc1=>?_;refine TD.c2 (i1:=1) (i2:=3) (pend1:=[]) (pend2:=[]) (L1:=[3,4,5]) (L2:=[1,4,5]) [] [] Z Z Z Z Z Z Z ?_ ?_
     ·refine zX Z (zH Z Und.h InfO.h) (fun _=>zy rfl tQ) sQ fun jc2 hjc2=>?_;refine bX (pend':=[]) [] Z Z Z Z Z (zU Z TyZA.h) (fun _=>zy rfl tQ) sQ fun j8 hj8=>?_;refine bR (pend':=[]) [7,21] Z Z (zt Z Z zd.h Z Z mQ Z) ?_;refine bR (pend':=[]) [8,22] Z Z (zt Z Z zd.h Z Z mQ Z) ?_;refine ad [[14]] ?_;refine bA [1,6,7,8] ?_;refine bC ((jc1,_)::(jc2,_)::(j7,_)::(j8,_)::(jx,_)::(jb,_)::(jl,_)::(0,_)::(1,_)::(s,_)::(e,_)::[]) ?_;exact hcont jc1 jc2 j7 j8
     ·refine yr Z (zU Z TyZA.h) (fun _=>zy rfl tQ) sQ fun j8 hj8=>?_;refine TD.c2 (i1:=1) (i2:=4) (pend1:=[]) (pend2:=[]) (L1:=[4,5]) (L2:=[1,5]) [] [7,21] Z Z Z Z Z Z Z ?_ ?_
      ·refine zX Z (zH Z Und.h InfO.h) (fun _=>zy rfl tQ) sQ fun jc2 hjc2=>?_;refine bR (pend':=[]) [7,21] Z Z (zt Z Z zd.h Z Z mQ Z) ?_;refine bR (pend':=[]) [8,22] Z Z (zt Z Z zd.h Z Z mQ Z) ?_;refine ad [[14]] ?_;refine bA [1,6,7,8] ?_;refine bC ((jc1,_)::(jc2,_)::(j7,_)::(j8,_)::(jx,_)::(jb,_)::(jl,_)::(0,_)::(1,_)::(s,_)::(e,_)::[]) ?_;exact hcont jc1 jc2 j7 j8
      ·refine uH Z (zt Z Z zd.h Z Z mQ Z) uQ (putN Z) sQ ?_;refine TD.c (pend':=[]) [] Z Z Z Z (zX Z (zH Z Und.h InfO.h) (fun _=>zy rfl tQ) sQ fun jc2 hjc2=>?_);refine bR (pend':=[]) [8,22] Z Z (zt Z Z zd.h Z Z mQ Z) ?_;refine ad [[14]] ?_;refine bA [1,6,7,8] ?_;refine bC ((jc1,_)::(jc2,_)::(j7,_)::(j8,_)::(jx,_)::(jb,_)::(jl,_)::(0,_)::(1,_)::(s,_)::(e,_)::[]) ?_;exact hcont jc1 jc2 j7 j8
    ·refine ⟨[],_,[],[0,3,4,5],rfl,rfl,rfl,rfl,?_⟩;refine zX Z (zH Z Und.h InfO.h) (fun _=>zy rfl tQ) sQ fun jc2 hjc2=>?_;refine TD.c2 (i1:=0) (i2:=3) (pend1:=[]) (pend2:=[]) (L1:=[3,4,5]) (L2:=[0,4,5]) [] [] Z Z Z Z Z Z Z ?_ ?_
     ·refine zX Z (zH Z Und.h InfO.h) (fun _=>zy rfl tQ) sQ fun jc1 hjc1=>?_;refine bX (pend':=[]) [] Z Z Z Z Z (zU Z TyZA.h) (fun _=>zy rfl tQ) sQ fun j8 hj8=>?_;refine bR (pend':=[]) [7,21] Z Z (zt Z Z zd.h Z Z mQ Z) ?_;refine bR (pend':=[]) [8,22] Z Z (zt Z Z zd.h Z Z mQ Z) ?_;refine ad [[14]] ?_;refine bA [1,6,7,8] ?_;refine bC ((jc1,_)::(jc2,_)::(j7,_)::(j8,_)::(jx,_)::(jb,_)::(jl,_)::(0,_)::(1,_)::(s,_)::(e,_)::[]) ?_;exact hcont jc1 jc2 j7 j8
     ·refine yr Z (zU Z TyZA.h) (fun _=>zy rfl tQ) sQ fun j8 hj8=>?_;refine TD.c (pend':=[]) [] Z Z Z Z (zX Z (zH Z Und.h InfO.h) (fun _=>zy rfl tQ) sQ fun jc1 hjc1=>?_);refine bR (pend':=[]) [7,21] Z Z (zt Z Z zd.h Z Z mQ Z) ?_;refine bR (pend':=[]) [8,22] Z Z (zt Z Z zd.h Z Z mQ Z) ?_;refine ad [[14]] ?_;refine bA [1,6,7,8] ?_;refine bC ((jc1,_)::(jc2,_)::(j7,_)::(j8,_)::(jx,_)::(jb,_)::(jl,_)::(0,_)::(1,_)::(s,_)::(e,_)::[]) ?_;exact hcont jc1 jc2 j7 j8
    ·refine ⟨[],_,[],[0,1,4,5],rfl,rfl,rfl,rfl,?_⟩;refine yr Z (zU Z TyZA.h) (fun _=>zy rfl tQ) sQ fun j8 hj8=>?_;refine TD.c2 (i1:=0) (i2:=1) (pend1:=[]) (pend2:=[]) (L1:=[1,4,5]) (L2:=[0,4,5]) [] [] Z Z Z Z Z Z Z ?_ ?_
     ·refine zX Z (zH Z Und.h InfO.h) (fun _=>zy rfl tQ) sQ fun jc1 hjc1=>?_;refine TD.c2 (i1:=1) (i2:=4) (pend1:=[]) (pend2:=[]) (L1:=[4,5]) (L2:=[1,5]) [] [7,21] Z Z Z Z Z Z Z ?_ ?_
      ·refine zX Z (zH Z Und.h InfO.h) (fun _=>zy rfl tQ) sQ fun jc2 hjc2=>?_;refine bR (pend':=[]) [7,21] Z Z (zt Z Z zd.h Z Z mQ Z) ?_;refine bR (pend':=[]) [8,22] Z Z (zt Z Z zd.h Z Z mQ Z) ?_;refine ad [[14]] ?_;refine bA [1,6,7,8] ?_;refine bC ((jc1,_)::(jc2,_)::(j7,_)::(j8,_)::(jx,_)::(jb,_)::(jl,_)::(0,_)::(1,_)::(s,_)::(e,_)::[]) ?_;exact hcont jc1 jc2 j7 j8
      ·refine uH Z (zt Z Z zd.h Z Z mQ Z) uQ (putN Z) sQ ?_;refine TD.c (pend':=[]) [] Z Z Z Z (zX Z (zH Z Und.h InfO.h) (fun _=>zy rfl tQ) sQ fun jc2 hjc2=>?_);refine bR (pend':=[]) [8,22] Z Z (zt Z Z zd.h Z Z mQ Z) ?_;refine ad [[14]] ?_;refine bA [1,6,7,8] ?_;refine bC ((jc1,_)::(jc2,_)::(j7,_)::(j8,_)::(jx,_)::(jb,_)::(jl,_)::(0,_)::(1,_)::(s,_)::(e,_)::[]) ?_;exact hcont jc1 jc2 j7 j8
     ·refine zX Z (zH Z Und.h InfO.h) (fun _=>zy rfl tQ) sQ fun jc2 hjc2=>?_;refine TD.c (pend':=[]) [] Z Z Z Z (zX Z (zH Z Und.h InfO.h) (fun _=>zy rfl tQ) sQ fun jc1 hjc1=>?_);refine bR (pend':=[]) [7,21] Z Z (zt Z Z zd.h Z Z mQ Z) ?_;refine bR (pend':=[]) [8,22] Z Z (zt Z Z zd.h Z Z mQ Z) ?_;refine ad [[14]] ?_;refine bA [1,6,7,8] ?_;refine bC ((jc1,_)::(jc2,_)::(j7,_)::(j8,_)::(jx,_)::(jb,_)::(jl,_)::(0,_)::(1,_)::(s,_)::(e,_)::[]) ?_;exact hcont jc1 jc2 j7 j8
   ·refine ⟨[],_,[],[0,1,2,4,5],rfl,rfl,rfl,rfl,?_⟩;refine yr Z (zU Z TyZA.h) (fun _=>zy rfl tQ) sQ fun j8 hj8=>?_;refine TD.cM [0,1,2] Z ?_;intro mm hmm;simp only [lI,List.not_mem_nil,or_false] at hmm;rcases hmm with rfl | rfl | rfl
    ·refine ⟨[],_,[],[1,2,4,5],rfl,rfl,rfl,rfl,?_⟩;refine zX Z (zH Z Und.h InfO.h) (fun _=>zy rfl tQ) sQ fun jc1 hjc1=>?_;refine TD.c2 (i1:=1) (i2:=2) (pend1:=[]) (pend2:=[]) (L1:=[2,4,5]) (L2:=[1,4,5]) [] [] Z Z Z Z Z Z Z ?_ ?_
     ·refine zX Z (zH Z Und.h InfO.h) (fun _=>zy rfl tQ) sQ fun jc2 hjc2=>?_;refine bX (pend':=[]) [] Z Z Z Z Z (zU Z TyZA.h) (fun _=>zy rfl tQ) sQ fun j7 hj7=>?_;refine bR (pend':=[]) [7,21] Z Z (zt Z Z zd.h Z Z mQ Z) ?_;refine bR (pend':=[]) [8,22] Z Z (zt Z Z zd.h Z Z mQ Z) ?_;refine ad [[14]] ?_;refine bA [1,6,7,8] ?_;refine bC ((jc1,_)::(jc2,_)::(j7,_)::(j8,_)::(jx,_)::(jb,_)::(jl,_)::(0,_)::(1,_)::(s,_)::(e,_)::[]) ?_;exact hcont jc1 jc2 j7 j8
     ·refine yr Z (zU Z TyZA.h) (fun _=>zy rfl tQ) sQ fun j7 hj7=>?_;refine TD.c2 (i1:=1) (i2:=4) (pend1:=[]) (pend2:=[]) (L1:=[4,5]) (L2:=[1,5]) [] [7,21] Z Z Z Z Z Z Z ?_ ?_
      ·refine zX Z (zH Z Und.h InfO.h) (fun _=>zy rfl tQ) sQ fun jc2 hjc2=>?_;refine bR (pend':=[]) [7,21] Z Z (zt Z Z zd.h Z Z mQ Z) ?_;refine bR (pend':=[]) [8,22] Z Z (zt Z Z zd.h Z Z mQ Z) ?_;refine ad [[14]] ?_;refine bA [1,6,7,8] ?_;refine bC ((jc1,_)::(jc2,_)::(j7,_)::(j8,_)::(jx,_)::(jb,_)::(jl,_)::(0,_)::(1,_)::(s,_)::(e,_)::[]) ?_;exact hcont jc1 jc2 j7 j8
      ·refine uH Z (zt Z Z zd.h Z Z mQ Z) uQ (putN Z) sQ ?_;refine TD.c (pend':=[]) [] Z Z Z Z (zX Z (zH Z Und.h InfO.h) (fun _=>zy rfl tQ) sQ fun jc2 hjc2=>?_);refine bR (pend':=[]) [8,22] Z Z (zt Z Z zd.h Z Z mQ Z) ?_;refine ad [[14]] ?_;refine bA [1,6,7,8] ?_;refine bC ((jc1,_)::(jc2,_)::(j7,_)::(j8,_)::(jx,_)::(jb,_)::(jl,_)::(0,_)::(1,_)::(s,_)::(e,_)::[]) ?_;exact hcont jc1 jc2 j7 j8
    ·refine ⟨[],_,[],[0,2,4,5],rfl,rfl,rfl,rfl,?_⟩;refine zX Z (zH Z Und.h InfO.h) (fun _=>zy rfl tQ) sQ fun jc2 hjc2=>?_;refine TD.c2 (i1:=0) (i2:=2) (pend1:=[]) (pend2:=[]) (L1:=[2,4,5]) (L2:=[0,4,5]) [] [] Z Z Z Z Z Z Z ?_ ?_
     ·refine zX Z (zH Z Und.h InfO.h) (fun _=>zy rfl tQ) sQ fun jc1 hjc1=>?_;refine bX (pend':=[]) [] Z Z Z Z Z (zU Z TyZA.h) (fun _=>zy rfl tQ) sQ fun j7 hj7=>?_;refine bR (pend':=[]) [7,21] Z Z (zt Z Z zd.h Z Z mQ Z) ?_;refine bR (pend':=[]) [8,22] Z Z (zt Z Z zd.h Z Z mQ Z) ?_;refine ad [[14]] ?_;refine bA [1,6,7,8] ?_;refine bC ((jc1,_)::(jc2,_)::(j7,_)::(j8,_)::(jx,_)::(jb,_)::(jl,_)::(0,_)::(1,_)::(s,_)::(e,_)::[]) ?_;exact hcont jc1 jc2 j7 j8
     ·refine yr Z (zU Z TyZA.h) (fun _=>zy rfl tQ) sQ fun j7 hj7=>?_;refine TD.c (pend':=[]) [] Z Z Z Z (zX Z (zH Z Und.h InfO.h) (fun _=>zy rfl tQ) sQ fun jc1 hjc1=>?_);refine bR (pend':=[]) [7,21] Z Z (zt Z Z zd.h Z Z mQ Z) ?_;refine bR (pend':=[]) [8,22] Z Z (zt Z Z zd.h Z Z mQ Z) ?_;refine ad [[14]] ?_;refine bA [1,6,7,8] ?_;refine bC ((jc1,_)::(jc2,_)::(j7,_)::(j8,_)::(jx,_)::(jb,_)::(jl,_)::(0,_)::(1,_)::(s,_)::(e,_)::[]) ?_;exact hcont jc1 jc2 j7 j8
    ·refine ⟨[],_,[],[0,1,4,5],rfl,rfl,rfl,rfl,?_⟩;refine yr Z (zU Z TyZA.h) (fun _=>zy rfl tQ) sQ fun j7 hj7=>?_;refine TD.c2 (i1:=0) (i2:=1) (pend1:=[]) (pend2:=[]) (L1:=[1,4,5]) (L2:=[0,4,5]) [] [] Z Z Z Z Z Z Z ?_ ?_
     ·refine zX Z (zH Z Und.h InfO.h) (fun _=>zy rfl tQ) sQ fun jc1 hjc1=>?_;refine TD.c2 (i1:=1) (i2:=4) (pend1:=[]) (pend2:=[]) (L1:=[4,5]) (L2:=[1,5]) [] [7,21] Z Z Z Z Z Z Z ?_ ?_
      ·refine zX Z (zH Z Und.h InfO.h) (fun _=>zy rfl tQ) sQ fun jc2 hjc2=>?_;refine bR (pend':=[]) [7,21] Z Z (zt Z Z zd.h Z Z mQ Z) ?_;refine bR (pend':=[]) [8,22] Z Z (zt Z Z zd.h Z Z mQ Z) ?_;refine ad [[14]] ?_;refine bA [1,6,7,8] ?_;refine bC ((jc1,_)::(jc2,_)::(j7,_)::(j8,_)::(jx,_)::(jb,_)::(jl,_)::(0,_)::(1,_)::(s,_)::(e,_)::[]) ?_;exact hcont jc1 jc2 j7 j8
      ·refine uH Z (zt Z Z zd.h Z Z mQ Z) uQ (putN Z) sQ ?_;refine TD.c (pend':=[]) [] Z Z Z Z (zX Z (zH Z Und.h InfO.h) (fun _=>zy rfl tQ) sQ fun jc2 hjc2=>?_);refine bR (pend':=[]) [8,22] Z Z (zt Z Z zd.h Z Z mQ Z) ?_;refine ad [[14]] ?_;refine bA [1,6,7,8] ?_;refine bC ((jc1,_)::(jc2,_)::(j7,_)::(j8,_)::(jx,_)::(jb,_)::(jl,_)::(0,_)::(1,_)::(s,_)::(e,_)::[]) ?_;exact hcont jc1 jc2 j7 j8
     ·refine zX Z (zH Z Und.h InfO.h) (fun _=>zy rfl tQ) sQ fun jc2 hjc2=>?_;refine TD.c (pend':=[]) [] Z Z Z Z (zX Z (zH Z Und.h InfO.h) (fun _=>zy rfl tQ) sQ fun jc1 hjc1=>?_);refine bR (pend':=[]) [7,21] Z Z (zt Z Z zd.h Z Z mQ Z) ?_;refine bR (pend':=[]) [8,22] Z Z (zt Z Z zd.h Z Z mQ Z) ?_;refine ad [[14]] ?_;refine bA [1,6,7,8] ?_;refine bC ((jc1,_)::(jc2,_)::(j7,_)::(j8,_)::(jx,_)::(jb,_)::(jl,_)::(0,_)::(1,_)::(s,_)::(e,_)::[]) ?_;exact hcont jc1 jc2 j7 j8
  ·refine TK.phase (fun cg cn=>msgN b cg cn) (zlK b) (by simp [knownC]) (by simp [zx]) (zgS hne) fun φ0 n0 cg cn hcc hag hn0 hsh hcs=>?_;refine bC ((j7,_)::(j8,_)::(jx,_)::(jb,_)::(jl,_)::(0,_)::(1,_)::(s,_)::(e,_)::[]) ?_;refine TK.normK (K':=(j7,.cells [.v (.chan (some cg))] 226 false)::(j8,.cells [.v (.chan (some cn))] 227 false)::(jx,.cells (knownC b s e (.sl jl 0 (zb b).length) jm) 219 false)::(jb,.cells (zx b s e) 27 false)::(jl,listO (zb b))::(0,zw)::(1,zA)::(s,zn b)::(e,zo b)::[]) (by simp [knownC,unrow,intA]; rfl) ?_;refine au 13031690670422 ?_;refine bA [1,6,7,8,24,25] ?_;refine TK.loopJ (fun q env K=>env=zJ 59 [(1,.ptr jb 0),(6,.ptr jx 0),(7,.ptr j7 0),(8,.ptr j8 0),(24,intA b.steps),(25,intA q)]/\K=(j7,.cells [.v (.chan (some cg))] 226 false)::(j8,.cells [.v (.chan (some cn))] 227 false)::(jx,.cells (knownC b s e (.sl jl 0 (zb b).length) jm) 219 false)::(jb,.cells (zx b s e) 27 false)::(jl,listO (zb b))::(0,zw)::(1,zA)::(s,zn b)::(e,zo b)::[]) b.steps.toNat ⟨rfl,rfl⟩ fun q env K hq hI' hnext=>?_;obtain ⟨rfl,rfl⟩:=hI';refine au 923742 ?_;constructor<;>intro hc1
   ·simp only [decide_eq_true_eq] at hc1;have hql:q<b.steps.toNat:=by omega
    have hst16:=hb.steps;refine au 2201421302120 ?_;intro j9 hj9;refine au 32043170 ?_;refine TK.nd fun hnd=>?_;refine TK.spawn (j9:=j9) (l9:=[intA (q:Int)]) (e9:=3) (K':=(j7,.cells [.v (.chan (some cg))] 226 false)::(j8,.cells [.v (.chan (some cn))] 227 false)::(jx,.cells (knownC b s e (.sl jl 0 (zb b).length) jm) 219 false)::(jb,.cells (zx b s e) 27 false)::(jl,listO (zb b))::(0,zw)::(1,zA)::(s,zn b)::(e,zo b)::[]) Z Z Z Z Z (S:=[(j7,.cells [.v (.chan (some cg))] 226 false),(j8,.cells [.v (.chan (some cn))] 227 false),(jx,.cells (knownC b s e (.sl jl 0 (zb b).length) jm) 219 false),(jb,.cells (zx b s e) 27 false),(jl,listO (zb b))]) (fun x hx=>?_) .head sQ (fun φ A Hc vs hv hg hr hrel=>?_) ?_;rotate_left 2
    ·refine au 3123041403 ?_;refine bA [1,6,7,8,24,25] ?_;refine bC (((j7,_)::(j8,_)::(jx,_)::(jb,_)::(jl,_)::(0,_)::(1,_)::(s,_)::(e,_)::[])) ?_;exact hnext _ _ hql ⟨rfl,rfl⟩
    ·simp only [lI,List.not_mem_nil,or_false] at hx;rcases hx with rfl | rfl | rfl | rfl | rfl
     ·exact ⟨by simp,(hsh j7 sQ).1,(hsh j7 sQ).2,_,_,by simp,rfl⟩
     ·exact ⟨by simp,(hsh j8 sQ).1,(hsh j8 sQ).2,_,_,by simp,rfl⟩
     ·exact ⟨by simp,(hsh jx sQ).1,(hsh jx sQ).2,_,_,by simp [knownC],rfl⟩
     ·exact ⟨by simp,(hsh jb sQ).1,(hsh jb sQ).2,_,_,by simp [zx],rfl⟩
     ·exact ⟨by simp,(hsh jl sQ).1,(hsh jl sQ).2,_,_,zgS hne,rfl⟩
    ·refine zmf (K:=(j9,.cells [intA (q:Int)] 3 false)::[(j7,.cells [.v (.chan (some cg))] 226 false),(j8,.cells [.v (.chan (some cn))] 227 false),(jx,.cells (knownC b s e (.sl jl 0 (zb b).length) jm) 219 false),(jb,.cells (zx b s e) 27 false),(jl,listO (zb b))]) Cal.h Tryz.func113 Z hv ?_ hg hr hrel fun Y2 k1 k2 k3 k4=>zjV hb hql rfl Y2 k1 k2 k3 k4;simp only [keys,List.map_cons,List.map_nil,List.nodup_cons,lI,List.not_mem_nil,or_false,not_or] at hnd ⊢;obtain ⟨⟨a1,a2,a3,a4,a5,_⟩,⟨b1,b2,b3,b4,_⟩,⟨c1,c2,c3,_⟩,⟨d1,d2,_⟩,⟨g1,_⟩,_⟩:=hnd;exact ⟨⟨a1,a2,a3,a4,a5⟩,⟨b1,b2,b3,b4⟩,⟨c1,c2,c3⟩,⟨d1,d2⟩,g1,not_false,List.nodup_nil⟩
   simp only [decide_eq_false_iff_not] at hc1;obtain rfl:q=b.steps.toNat:=by omega
   refine au 542160 ?_;refine TK.virt 10 229 2 Z fun ja0 hja0=>?_;refine au 130316906704223 ?_;refine bA [1,6,7,8,10,31,32] ?_;refine TK.loopR (fun n R env K=>∃ (rec:List Nat) (ja:Nat),n=b.steps.toNat - rec.length/\rec.Nodup/\(∀ q,R q=true↔q∈rec)/\(∀ q∈rec,q<b.steps.toNat)/\env=zJ 59 [(1,.ptr jb 0),(6,.ptr jx 0),(7,.ptr j7 0),(8,.ptr j8 0),(10,.row ja (arcsOf b rec).length),(31,intA b.steps),(32,intA rec.length)]/\K=(ja,.row ((arcsOf b rec).flatMap arcC) 229 2)::(j7,.cells [.v (.chan (some cg))] 226 false)::(j8,.cells [.v (.chan (some cn))] 227 false)::(jx,.cells (knownC b s e (.sl jl 0 (zb b).length) jm) 219 false)::(jb,.cells (zx b s e) 27 false)::(jl,listO (zb b))::(0,zw)::(1,zA)::(s,zn b)::(e,zo b)::[]) b.steps.toNat ⟨[],ja0,rfl,List.nodup_nil,by simp,by simp,rfl,rfl⟩ fun n R env K hI' hnext=>?_;obtain ⟨rec,ja,rfl,hrn,hRr,hrl,rfl,rfl⟩:=hI';have hal:=zhf b rec;refine au 923742 ?_;constructor<;>intro hc2
   ·simp only [decide_eq_true_eq] at hc2;have hrlt:rec.length<b.steps.toNat:=by omega
    have hst16b:=hb.steps;refine au 423690436904221302120 ?_;refine TK.recv Z Z Z Z Z InfO.h Z InfO.h Z (by obtain ⟨q,h1,h2⟩:=zkZ hrn hrlt; exact ⟨q,h1,by rw [Bool.eq_false_iff]; exact fun h=>h2 ((hRr q).1 h)⟩) fun q hq hRq=>?_;have hqr:q∉rec:=fun h=>by rw [(hRr q).2 h] at hRq; cases hRq
    have hrn2:(rec++[q]).Nodup:=List.nodup_append.2 ⟨hrn,by simp,fun x hx y hy=>by rw [lS.1 hy]; exact fun h=>hqr (h ▸ hx)⟩;have hR2:∀ x,Go.ConcN.upd R q true x=true↔x∈rec++[q]:=fun x=>by
     by_cases hx:x=q
     ·subst hx; simp [Go.ConcN.upd]
     ·simp [Go.ConcN.upd,hx,hRr]
    have hrl2:∀ x∈rec++[q],x<b.steps.toNat:=fun x hx=>by
     rcases lT.1 hx with hx | hx
     ·exact hrl x hx
     ·rw [lS.1 hx]; exact hq
    rcases hak:arcK b q with _ | wq;rotate_left
    ·have hma:=zmL (cg:=cg) (cn:=cn) hak;rw [hma.1,if_pos rfl];refine au 91303776 ?_;constructor<;>intro hc3
     ·
      refine au 220642 ?_;intro j11 hj11;refine au 680143170 ?_;refine bI Z Z Z (zG (l:=[_,_]) Z SlEl.h TyZ.h dQ dQ Z) (fun _=>zy rfl tQ) fun j4 hj4=>?_;refine bO Z Z Z (a_app Z ApOf.h Z mQ (yk arcC 2 (fun _=>rfl) _) rfl (yS (ln:=[_,_]) mQ dQ sQ rfl) oQ rfl (by unfold maxLen; omega) oQ) (fun _=>uQ) (fun _=>zy rfl tQ) fun ja2=>?_;refine au 31230414014035 ?_;refine bA [1,6,7,8,10,31,32] ?_;refine bC (((ja2,_)::(j7,_)::(j8,_)::(jx,_)::(jb,_)::(jl,_)::(0,_)::(1,_)::(s,_)::(e,_)::[])) ?_;exact hnext _ _ _ _ (by rw [lF]; simp; omega) ⟨rec++[q],ja2,rfl,hrn2,hR2,hrl2,by rw [zeX hma.2,lF,lF]; rfl,by rw [zeX hma.2,List.flatMap_append]; rfl⟩
     exact absurd hc3 dQ
    ·have hma:=zmK (cg:=cg) (cn:=cn) hak;rw [hma.1,if_neg (fun h=>hcc h.symm)];refine au 91303776 ?_;constructor<;>intro hc3
     ·exact absurd hc3 dQ
     refine au 9 ?_;constructor<;>intro hc4
     ·
      refine au 312304140140120 ?_;refine bA [1,6,7,8,10,31,32] ?_;refine bC (((ja,_)::(j7,_)::(j8,_)::(jx,_)::(jb,_)::(jl,_)::(0,_)::(1,_)::(s,_)::(e,_)::[])) ?_;exact hnext _ _ _ _ (by rw [lF]; simp; omega) ⟨rec++[q],ja,rfl,hrn2,hR2,hrl2,by rw [zeW hma.2,lF]; rfl,by rw [zeW hma.2]⟩
     exact absurd hc4 dQ
   simp only [decide_eq_false_iff_not] at hc2;have hrle:rec.length<=b.steps.toNat:=by have:=uk (l2:=List.range b.steps.toNat) hrn (fun x hx=>List.mem_range.2 (hrl x hx)); rwa [List.length_range] at this
   have hrall:=zl2 hrn hrl oQ;refine TK.stopM (fun q hq=>(hRr q).2 (hrall q hq)) (by intro x hx; repeat (first | (cases hx; done) | (rcases lI.1 hx with rfl | hx; · trivial))) hcs hag hn0 ?_;have hsame:=zgg (b:=b) (rec:=rec) (N:=b.steps.toNat) fun q=>⟨hrl q,hrall q⟩;have hst16c:=hb.steps;refine au 9372801422160 ?_;constructor<;>intro hc5
   ·have hnone:arcsOf b (List.range b.steps.toNat)=[]:=List.eq_nil_iff_forall_not_mem.2 fun y hy=>by
     have h0:arcsOf b rec=[]:=lK (by have h:((arcsOf b rec).length:Int)=0:=(by simpa using hc5); omega);have:=(hsame y).2 hy;rw [h0] at this;cases this
    refine au 3555542 ?_;refine bB hret [(0,_),(1,_),(s,_),(e,_)] ?_;exact ⟨by unfold narrowApi; rw [if_neg (show ¬ (askM b true≠0) by rw [hb0]; decide),if_pos hnone]; rfl,rfl⟩
   obtain ⟨p,ps,hps⟩:∃ p ps,arcsOf b rec=p::ps:=by
    cases h:arcsOf b rec with
    | nil=>rw [h] at hc5; exact absurd hc5 dQ
    | cons p ps=>exact ⟨p,ps,rfl⟩
   obtain ⟨p2,ps2,hps2⟩:∃ p ps,arcsOf b (List.range b.steps.toNat)=p::ps:=by
    cases h:arcsOf b (List.range b.steps.toNat) with
    | nil =>
     have:=(hsame p).1 (by rw [hps]; simp);rw [h] at this; cases this
    | cons p ps=>exact ⟨p,ps,rfl⟩
   have hsome:arcsOf b (List.range b.steps.toNat)≠[]:=by rw [hps2]; simp
   have hres:zR ltArc p ps=narrowM b:=by
    unfold narrowM;rw [hps2];show zR ltArc p ps=zR ltArc p2 ps2;exact zgm fun y=>by rw [<- hps,<- hps2]; exact hsame y
   rw [hps] at hal ⊢;refine au 2120 ?_;refine bL [0,1,2,3,4,5,6,7] ?_;refine ad [[1,10]] ?_;refine bT [49] Z (hq:=wR Z Z Z SlEl.h (mC _) (by first | omega | (simp only [lZ]; omega)) (by first | omega | (simp only [lZ]; omega))) (h:=?_);refine bT [50] Z (hq:=zK Z Z zd.h (mC _) (zbW (k:=0) sQ)) (h:=?_);refine ad [[1,10]] ?_;refine bT [52] Z (hq:=zai Z Z SlEl.h (mC _) Z Z (by first | omega | (simp only [lZ]; omega)) (by first | omega | (simp only [lZ]; omega)) Z) (h:=?_);refine TD.c2 (i1:=5) (i2:=6) (pend1:=[⟨3,[10],[]⟩,⟨1,[49],[(_,_)]⟩,⟨0,[10],[]⟩]) (pend2:=[⟨4,[52],[(_,_)]⟩,⟨3,[10],[]⟩,⟨2,[50],[(_,_)]⟩,⟨1,[49],[(_,_)]⟩,⟨0,[10],[]⟩]) (L1:=[6,7]) (L2:=[5,7]) [51,53] [] Z Z Z Z Z Z Z ?_ ?_
   ·refine zaK Z Z Cal.h Z (zbz hT (o:=p) (xs:=ps) (lt:=ltArc) (fv:=.fn 115 [] []) (jo:=ja) (off:=2) (obo:=.row ((p::ps).flatMap arcC) 229 2) (K:=[(ja,.row ((p::ps).flatMap arcC) 229 2)]) (by simp at hal; omega) sQ (fun k hk=>by rw [show 2+((k:Int)).toNat*2=(k+1)*2 by rw [mZ]; omega]; exact zbW (xs:=p::ps) (k:=k+1) (by simpa using hk)) (fun x hx y hy=>CallFK.frame (.none _) (yz Cal.h (zcJ hT)))) (by repeat (first | exact Split.none _ | exact Split.all _ | (apply Split.rem; repeat (first | exact Rem.head | apply Rem.tail)) | apply Split.right)) fun r5 K6 h7=>⟨?_,?_⟩
    ·rcases h7 with ⟨rfl,rfl⟩
     all_goals simp
    obtain ⟨rfl,rfl⟩:=h7;try simp only [cA]
    refine bS (env':=[_,_,_,_,_,_,_,_,_,_,_,_,_,_,_,_,_,_,_,_,_,_,_,_,_,_,_,_,_,_,_,_,_,_,_,_,_,_,_,_,_,_,_,_,_,_,_,_,_,_,_,_,_,_,_,_,_,_,_]) Z ?_;refine bX (pend':=[⟨3,[10],[]⟩,⟨1,[49],[(_,_)]⟩,⟨0,[10],[]⟩]) [] Z Z Z Z Z (zU Z TyZA.h) (fun _=>zy rfl tQ) sQ fun j12 hj12=>?_;refine bR (pend':=[]) [12,54] Z Z (zt Z Z zd.h Z Z mQ Z) ?_;refine ad [[14]] ?_;refine au 2 ?_;refine bL [0,1,4,2,3,5,6,7] ?_;refine ad [[3,12],[10,55],[3,12],[10,57]] ?_;refine TD.as (pend':=[⟨3,[57],[(_,_)]⟩,⟨2,[12],[]⟩]) [56] Z Z (zV Z Z) ?_;refine ad [[13,58],[13],[13],[14]] ?_;refine au 0 ?_;refine bB hret [(0,_),(1,_),(s,_),(e,_)] ?_;exact ⟨by unfold narrowApi; rw [if_neg (show ¬ (askM b true≠0) by rw [hb0]; decide),if_neg hsome,<- hres]; rfl,rfl⟩
   ·refine yr Z (zU Z TyZA.h) (fun _=>zy rfl tQ) sQ fun j12 hj12=>?_;refine TD.cl (pend':=[⟨3,[10],[]⟩,⟨1,[49],[(_,_)]⟩,⟨0,[10],[]⟩]) [51,53] Z Z Z Z Z (zbz hT (o:=p) (xs:=ps) (lt:=ltArc) (fv:=.fn 115 [] []) (jo:=ja) (off:=2) (obo:=.row ((p::ps).flatMap arcC) 229 2) (K:=[(ja,.row ((p::ps).flatMap arcC) 229 2)]) (by simp at hal; omega) sQ (fun k hk=>by rw [show 2+((k:Int)).toNat*2=(k+1)*2 by rw [mZ]; omega]; exact zbW (xs:=p::ps) (k:=k+1) (by simpa using hk)) (fun x hx y hy=>CallFK.frame (.none _) (yz Cal.h (zcJ hT)))) (fun r8 K9 h10=>⟨?_,?_⟩)
    ·rcases h10 with ⟨rfl,rfl⟩
     all_goals simp
    obtain ⟨rfl,rfl⟩:=h10;try simp only [cA]
    refine bS tQ ?_;refine bR (pend':=[]) [12,54] Z Z (zt Z Z zd.h Z Z mQ Z) ?_;refine ad [[14]] ?_;refine au 2 ?_;refine bL [0,1,4,2,3,5,6,7] ?_;refine ad [[3,12],[10,55],[3,12],[10,57]] ?_;refine TD.as (pend':=[⟨3,[57],[(_,_)]⟩,⟨2,[12],[]⟩]) [56] Z Z (zV Z Z) ?_;refine ad [[13,58],[13],[13],[14]] ?_;refine au 0 ?_;refine bB hret [(0,_),(1,_),(s,_),(e,_)] ?_;exact ⟨by unfold narrowApi; rw [if_neg (show ¬ (askM b true≠0) by rw [hb0]; decide),if_neg hsome,<- hres]; rfl,rfl⟩
end Go.Vel
namespace Go.Proofs
open Go.Shelf
def Tryz.lays189_ren:Go.Shelf.Ren:=⟨fun | 189=>104 | 125=>178 | 257=>177 | 128=>214 | 129=>215 | 294=>205 | 295=>206 | 296=>207 | 297=>208 | 298=>209 | 299=>210 | 216=>211 | 300=>212 | 301=>213 | 328=>230 | 329=>231 | 330=>232 | 331=>233 | 332=>234 | 215=>216 | 343=>243 | n=>n,fun | 28=>61 | 3=>3 | 46=>173 | 0=>0 | 51=>352 | 53=>354 | 4=>4 | 183=>345 | 182=>344 | 131=>52 | 5=>5 | 9=>9 | 218=>368 | 222=>372 | 228=>385 | 229=>243 | n=>n,fun n=>n⟩
theorem Tryz.lays189:Lays.n189 tp Tryz.lays189_ren where
 mixed:=by kernel_rfl
 f125:=Tryz.func178.trans (congrArg some (by kernel_rfl))
 f128:=Tryz.func214.trans (congrArg some (by kernel_rfl))
 f129:=Tryz.func215.trans (congrArg some (by kernel_rfl))
 f189:=Tryz.func104.trans (congrArg some (by kernel_rfl))
 f215:=Tryz.func216.trans (congrArg some (by kernel_rfl))
 f216:=Tryz.func211.trans (congrArg some (by kernel_rfl))
 f257:=Tryz.func177.trans (congrArg some (by kernel_rfl))
 f294:=Tryz.func205.trans (congrArg some (by kernel_rfl))
 f295:=Tryz.func206.trans (congrArg some (by kernel_rfl))
 f296:=Tryz.func207.trans (congrArg some (by kernel_rfl))
 f297:=Tryz.func208.trans (congrArg some (by kernel_rfl))
 f298:=Tryz.func209.trans (congrArg some (by kernel_rfl))
 f299:=Tryz.func210.trans (congrArg some (by kernel_rfl))
 f300:=Tryz.func212.trans (congrArg some (by kernel_rfl))
 f301:=Tryz.func213.trans (congrArg some (by kernel_rfl))
 f328:=Tryz.func230.trans (congrArg some (by kernel_rfl))
 f329:=Tryz.func231.trans (congrArg some (by kernel_rfl))
 f330:=Tryz.func232.trans (congrArg some (by kernel_rfl))
 f331:=Tryz.func233.trans (congrArg some (by kernel_rfl))
 f332:=Tryz.func234.trans (congrArg some (by kernel_rfl))
 f343:=Tryz.func243.trans (congrArg some (by kernel_rfl))
 t0:=Tryz.underlying0
 a0:=Tryz.isAgg0
 z0:=Tryz.sizeOf0
 v0:=Tryz.zeroValue0
 t3:=Tryz.underlying3
 a3:=Tryz.isAgg3
 z3:=Tryz.sizeOf3
 v3:=Tryz.zeroValue3
 t4:=Tryz.underlying4
 a4:=Tryz.isAgg4
 z4:=Tryz.sizeOf4
 v4:=Tryz.zeroValue4
 t5:=Tryz.underlying5
 a5:=Tryz.isAgg5
 z5:=Tryz.sizeOf5
 v5:=Tryz.zeroValue5
 t9:=Tryz.underlying9
 a9:=Tryz.isAgg9
 z9:=Tryz.sizeOf9
 v9:=Tryz.zeroValue9
 t28:=Tryz.underlying61
 a28:=Tryz.isAgg61
 z28:=Tryz.sizeOf61
 v28:=Tryz.zeroValue61
 t46:=Tryz.underlying173
 a46:=Tryz.isAgg173
 z46:=Tryz.sizeOf173
 v46:=Tryz.zeroValue173
 t51:=Tryz.underlying352
 a51:=Tryz.isAgg352
 z51:=Tryz.sizeOf352
 v51:=Tryz.zeroValue352
 t53:=Tryz.underlying354
 a53:=Tryz.isAgg354
 z53:=Tryz.sizeOf354
 v53:=Tryz.zeroValue354
 t131:=Tryz.underlying52
 a131:=Tryz.isAgg52
 z131:=Tryz.sizeOf52
 v131:=Tryz.zeroValue52
 t182:=Tryz.underlying344
 a182:=Tryz.isAgg344
 z182:=Tryz.sizeOf344
 v182:=Tryz.zeroValue344
 t183:=Tryz.underlying345
 a183:=Tryz.isAgg345
 z183:=Tryz.sizeOf345
 v183:=Tryz.zeroValue345
 t218:=Tryz.underlying368
 a218:=Tryz.isAgg368
 z218:=Tryz.sizeOf368
 v218:=Tryz.zeroValue368
 t222:=Tryz.underlying372
 a222:=Tryz.isAgg372
 z222:=Tryz.sizeOf372
 v222:=Tryz.zeroValue372
 t228:=Tryz.underlying385
 a228:=Tryz.isAgg385
 z228:=Tryz.sizeOf385
 v228:=Tryz.zeroValue385
 t229:=Tryz.underlying243
 a229:=Tryz.isAgg243
 z229:=Tryz.sizeOf243
 v229:=Tryz.zeroValue243
def Tryz.lays20_ren:Go.Shelf.Ren:=⟨fun | 20=>105 | n=>n,fun | 22=>61 | 3=>3 | 4=>4 | 0=>0 | n=>n,fun n=>n⟩
theorem Tryz.lays20:Lays2.n20 tp Tryz.lays20_ren where
 mixed:=by kernel_rfl
 f20:=Tryz.func105.trans (congrArg some (by kernel_rfl))
 t0:=Tryz.underlying0
 a0:=Tryz.isAgg0
 z0:=Tryz.sizeOf0
 v0:=Tryz.zeroValue0
 t3:=Tryz.underlying3
 a3:=Tryz.isAgg3
 z3:=Tryz.sizeOf3
 v3:=Tryz.zeroValue3
 t4:=Tryz.underlying4
 a4:=Tryz.isAgg4
 z4:=Tryz.sizeOf4
 v4:=Tryz.zeroValue4
 t22:=Tryz.underlying61
 a22:=Tryz.isAgg61
 z22:=Tryz.sizeOf61
 v22:=Tryz.zeroValue61
 i3:=by kernel_rfl
end Go.Proofs
namespace Go.Vel
open Go Go.Conc Go.Proofs
theorem ziL {xs:List Int} {cur:Array Value} {φ:Nat->Loc3} {n:Nat} (h:∀ (j:Nat) a,(xs.map intA)[j]? =some a->∃ y,cur[j]? =some y/\RelV φ n a y) {j:Nat} (hj:j<xs.length):cur[j]? =some (.int .i64 xs[j]):=by
 obtain ⟨y,h1,h2⟩:=h j (intA xs[j]) (by rw [lQ,lA hj]; rfl);cases h2;exact h1
theorem zhG {xs:List Int} {cur:Array Value} {φ:Nat->Loc3} {n:Nat} (h:∀ (j:Nat) a,(xs.map intA)[j]? =some a->∃ y,cur[j]? =some y/\RelV φ n a y):cur.toList.take xs.length=xs.map (Value.int .i64):=by
 apply List.ext_getElem?;intro j;by_cases hj:j<xs.length
 ·rw [List.getElem?_take_of_lt hj,mI,ziL h hj,lQ,lA hj]; rfl
 ·rw [List.getElem?_take_eq_none oQ,List.getElem?_eq_none (by simp; omega)]
theorem zlY {xs:List Int} {cur:Array Value} (h:xs.length<=cur.size) {j:Nat} (hj:j<xs.length):(Go.Sort.putCells (Value.int .i64) 0 xs.toArray cur)[j]? =some (.int .i64 xs[j]):=by
 have:=Go.take_putCellsI cur xs h;have h2:((Go.Sort.putCells (Value.int .i64) 0 xs.toArray cur).toList.take xs.length)[j]? =some (.int .i64 xs[j]):=by rw [this,lQ,lA hj]; rfl
 rwa [List.getElem?_take_of_lt hj,mI] at h2
theorem zfQ {d:Array Int} {cur:Array Value}:(Go.Sort.putCells (Value.int .i64) 0 d cur).size=cur.size:=by simp [Go.Sort.putCells]
theorem zkg {H:Hp} {w w':World} {g:Nat} {o:Obj} (hf:z6 H w) (hg:w'.heap[g]? =some o) (hk:∀ k,k<w.heap.size->k≠g->w'.heap[k]? =w.heap[k]?):z6 (H.put g (true,o)) w':=by
 intro b rw' x hb;by_cases he:b=g
 ·subst he; rw [Hp.put_same] at hb; cases hb; exact hg
 ·rw [Hp.put_other H _ he] at hb;rw [hk b (hf.lt hb) he];exact hf b _ _ hb
section
variable {Ψ:Goroutine->World->Prop} {gm:Nat->Option Nat}
theorem zdP (tame:Tame tp) {g:FuncId} {j m:Nat} {xs zs:List Int} {r:AV} {rv:Option Addr->Nat->Value} (hz:zs.length=xs.length) (hm:m<=xs.length)
  (hc:∀ (b cap:Nat) (w:World),Go.Sort.Holds (Value.int .i64) w b 0 xs.toArray->b<w.heap.size->xs.length<=cap->cap<=maxLen->Calls tp g #[.slice (some ⟨b,0,none⟩) xs.length cap] w fun e w'=>e=.returned (rv (some ⟨b,0,none⟩) cap)/\∃ n os,w'=Go.Sort.grow (Go.Sort.putRow (Value.int .i64) (Go.Sort.ahead w n) b 0 zs.toArray) os)
  (h0:xs=[]->∀ (p:Option Addr) (cap:Nat) (w:World),Calls tp g #[.slice p 0 cap] w fun e w'=>e=.returned (rv p cap)/\w'=w)
  (hr:∀ (φ:Nat->Loc3) (n cap:Nat) (p:Option Addr),j<n->xs.length<=(φ j).cap->rowV (φ j) xs.length (.slice p xs.length cap)->RelV φ n r (rv p cap)) :
  zg tp (BT tp Ψ) gm g [.row j xs.length] [(j,.row (xs.map intA) 3 1)] (fun r' K'=>r'=r/\K'=[(j,.row ((zs.take m).map intA) 3 1)]):=by
 intro A hv hn φ F H vs c cs h1 h2 h3 k;have hj:=hv.get (.head _);obtain ⟨y,rfl⟩:∃ y,vs=#[y]:=by
  have hs:vs.size=1:=h3.1.symm;exact ⟨vs[0],by apply Array.ext (by simpa using hs); intro i h1 h2; simp at h2; subst h2; rfl⟩
 have hy:=h3.2 0 _ _ rfl rfl;obtain ⟨hO0,hO1,hO2⟩:=h2.obj j _ hj;cases hy with
 | row hi hle hrow =>
 have hup:Upd [(j,AObj.row (xs.map intA) 3 1)] j (.row (xs.map intA) 3 1) j (.row ((zs.take m).map intA) 3 1) [(j,.row ((zs.take m).map intA) 3 1)]:=.head;by_cases hx:xs=[]
 ·obtain ⟨p,cap,rfl⟩:∃ p cap,y=.slice p xs.length cap:=by
   unfold rowV at hrow;split at hrow
   ·obtain ⟨p,rfl⟩:=hrow; exact ⟨p,0,by rw [hx]; rfl⟩
   ·exact ⟨_,_,hrow⟩
  have hzz:zs.take m=xs:=by rw [hx] at hz hm ⊢; rw [lK hz]; simp
  refine zbv tame (Post:=fun v H'=>v=rv p cap/\H'=H) (fun w hf=>?_) Ψ c cs fun v H' hp=>?_
  ·have:=h0 hx p cap w;rw [show xs.length=0 by rw [hx]; rfl];exact this.mono fun e w' ⟨a,b⟩=>⟨_,a,by rw [b]; exact ⟨rfl,rfl⟩,H,by rw [b]; exact hf,rfl,rfl⟩
  ·obtain ⟨rfl,rfl⟩:=hp;refine k r A φ H' _ ⟨_,?_,rfl,rfl⟩ (Agr.refl _ _) (mL _) h2 (hr φ _ cap p hi hle hrow);rw [hzz];exact Kstep.same hv hn
 ·have hcap:0<(φ j).cap:=by
   rcases mP (φ j).cap with h | h
   ·exact absurd (hO0 h) (by simpa using hx)
   ·exact h
  obtain ⟨cur,q1,q2,q3,q4,q5⟩:=hO2 hcap;have hrow':=hrow;unfold rowV at hrow;rw [if_neg oQ] at hrow;subst hrow;rw [lJ] at q4;have hput:zs.length<=cur.size:=by omega
  refine zbv tame (Post:=fun v H'=>v=rv (some ⟨(φ j).blk,0,none⟩) (φ j).cap/\H'=H.put (φ j).blk (true,.cells (Go.Sort.putCells (Value.int .i64) 0 zs.toArray cur) 3 (0,0))) (fun w hf=>?_) Ψ c cs fun v H' hp=>?_
  ·have hb:=hf _ _ _ q1;refine (hc (φ j).blk (φ j).cap w (Go.holds_of_blockI hb (zhG q5)) (mG.1 hb).1 hle q3).mono fun e w' ⟨a,n,os,b⟩=>⟨_,a,by rw [b]; exact ⟨rfl,rfl⟩,_,?_,rfl,rfl⟩;subst b;obtain ⟨_,_,_,_,hg⟩:=Go.grownBy_sortedI (w:=w) (g:=(φ j).blk) (n:=n) (os:=os) zs.toArray;exact zkg hf (Go.heap_sortedI zs.toArray hb) fun k' h1 h2=>hg k' h1 (fun e=>h2 (by cases e; rfl))
  ·obtain ⟨rfl,rfl⟩:=hp;refine k r (A.set j (.row ((zs.take m).map intA) 3 1)) φ _ _ ⟨_,Kstep.set hv hn hup,rfl,rfl⟩ (Agr.refl _ _) sQ (h2.set hj Z hcap ?_) (by simpa using hr φ A.length _ _ hi hle hrow');refine ⟨fun h=>by omega,hO1,fun _=>⟨_,Hp.put_same _ _ _,by rw [zfQ]; exact q2,q3,by rw [lJ,List.length_take,zfQ]; omega,fun i a ha=>?_⟩⟩;rw [lQ,mY] at ha;obtain ⟨z,hz1,rfl⟩:=ha;rw [List.getElem?_take] at hz1;split at hz1
   ·obtain ⟨hz2,rfl⟩:=lD.1 hz1;exact ⟨_,zlY hput hz2,.v _⟩
   ·cases hz1
theorem zbx (xs:List Int):(Lib.compact xs).length<=xs.length:=by
 unfold Lib.compact Lib.compactUpTo;rw [lJ];exact mT (List.length_filter_le _ _) sQ
def sortI (xs:List Int):List Int:=xs.mergeSort fun x y=>decide (x<=y)
theorem vy (xs:List Int):(sortI xs).length=xs.length:=List.length_mergeSort _
theorem zg6 (tame:Tame tp) {j:Nat} {xs:List Int} (hlen:xs.length<=100000):zg tp (BT tp Ψ) gm 104 [.row j xs.length] [(j,.row (xs.map intA) 3 1)] (fun r K'=>r=.tup []/\K'=[(j,.row ((sortI xs).map intA) 3 1)]):=by
 have h:=zdP (gm:=gm) (Ψ:=Ψ) tame (g:=104) (j:=j) (m:=xs.length) (xs:=xs) (zs:=sortI xs) (r:=.tup []) (rv:=fun _ _=>.tuple #[]) (vy xs) (mL _)
  (fun b cap w hH hb h1 h2=>Any.slices_Sort_int Tryz.lays189 b 0 cap xs w hH hb oQ)
  (fun _ p cap w=>Any.slices_Sort_int_none Tryz.lays189 p cap w)
  (fun φ n cap p _ _ _=>.tup rfl (fun j a y ha=>by simp at ha))
 rw [show (sortI xs).take xs.length=sortI xs by rw [<- vy xs]; exact lW] at h;exact h
theorem zcw (tame:Tame tp) {j:Nat} {xs:List Int}:zg tp (BT tp Ψ) gm 105 [.row j xs.length] [(j,.row (xs.map intA) 3 1)] (fun r K'=>r=.row j (Lib.compact xs).length/\K'=[(j,.row ((Lib.compact xs).map intA) 3 1)]):=by
 have hl:=zbx xs;have h:=zdP (gm:=gm) (Ψ:=Ψ) tame (g:=105) (j:=j) (m:=(Lib.compact xs).length) (xs:=xs) (zs:=Lib.compact xs++mB (xs.length - (Lib.compact xs).length) 0) (r:=.row j (Lib.compact xs).length) (rv:=fun p cap=>.slice p (Lib.compact xs).length cap) (by simp; omega) hl
  (fun b cap w hH hb h1 h2=>(Any.slices_Compact_int Tryz.lays20 b 0 cap xs w hH (by unfold maxLen at h2; omega) h1).mono fun e w' ⟨a,q,b⟩=>⟨a,q,#[],by rw [b,Go.Sort.grow_empty]⟩)
  (fun hx p cap w=>(Any.slices_Compact_int_empty Tryz.lays20 p cap w).mono fun e w' ⟨a,b⟩=>⟨by rw [a,show (Lib.compact xs).length=0 by subst hx; simpa using hl],b⟩)
  (fun φ n cap p hn hle hrow=>by
   refine .row hn oQ ?_;unfold rowV at hrow ⊢;split at hrow
   ·rename_i h;obtain ⟨q,hq⟩:=hrow;rw [if_pos h]
    injection hq with h1 h2 h3
    exact ⟨q,by rw [h1,h3,show (Lib.compact xs).length=0 by omega]⟩
   ·rename_i h;rw [if_neg h]
    injection hrow with h1 h2 h3
    rw [h1,h3])
 rw [List.take_left' rfl] at h;exact h
end
def countsM (b:Bk):List Int:=Lib.compact (sortI ((zb b).map fun S=>(S.length:Int)))
theorem zaJ (tame:Tame tp) {Ψ:Goroutine->World->Prop} {b:Bk} {s e:Nat} (hse:s≠e) (hn:∀ x∈b.seekers,x.name.size<=1000) (hl:b.seen.length<=1000):zg tp (BT tp Ψ) gmS 36 [.agg (zx b s e)] [(0,zw),(1,zA),(s,zn b),(e,zo b)] (fun r K'=>(askM b true≠0/\r=.tup [.v (.slice none 0 0),intA (askM b true)]/\K'=[(0,zw),(1,zA),(s,zn b),(e,zo b)])\/(askM b true=0/\∃ j,r=.tup [.row j (countsM b).length,intA 0]/\K'=[(0,zw),(1,zA),(s,zn b),(e,zo b),(j,.row ((countsM b).map intA) 3 1)])):=by
 have hT:=kX tame Ψ;refine ze 34 hT Tryz.func36 fun Y hret=>?_;refine au 21042 ?_;intro jb hjb;refine au 68042355 ?_;refine bD Z Z Z Z (vm hT (b:=b) (s:=s) (e:=e) (t:=true) hse hn hl Z (fun hb=>yz Cal.h (wA hT))) ?_;rintro r1 K2 h3;rcases h3 with ⟨hb0,rfl,rfl⟩ | ⟨jl,jm,om,hb0,hom,rfl,rfl⟩
 ·refine au 220661 ?_;intro jx hjx;refine au 937142235170 ?_;constructor<;>intro hc0
  ·
   refine au 355142 ?_;refine bB hret [(0,_),(1,_),(s,_),(e,_)] ?_;exact .inl ⟨hb0,rfl,rfl⟩
  exact absurd (by simpa using hc0) hb0
 ·refine au 220661 ?_;intro jx hjx;refine au 937142235170 ?_;constructor<;>intro hc0
  ·exact absurd hc0 dQ
  obtain ⟨hck,hth,hne⟩:=kO hb0;have hb:=yo hck;have hLo:=yL hb;have hLn:=yE hb;refine au 542120 ?_;refine TK.virt 6 3 1 Z fun j01 hj01=>?_;refine au 130312806906704223 ?_;refine bA [6,18,19,20] ?_;refine bC [(jx,_),(jm,_),(jl,_),(jb,_),(0,_),(1,_),(s,_),(e,_),(j01,_)] ?_;refine bE (fun n env K=>∃ (i j1:Nat),n=(zb b).length - i/\i<=(zb b).length/\env=zJ 34 [(6,.row j1 (((zb b).take i).map fun S=>(S.length:Int)).length),(18,.sl jl 0 (zb b).length),(19,intA (zb b).length),(20,intA i)]/\K=[(jx,.cells (knownC b s e (.sl jl 0 (zb b).length) jm) 219 true),(jm,.raw om),(jl,listO (zb b)),(jb,.cells (zx b s e) 27 true),(0,zw),(1,zA),(s,zn b),(e,zo b),(j1,.row ((((zb b).take i).map fun S=>(S.length:Int)).map intA) 3 1)]) (zb b).length ⟨0,j01,rfl,mN _,rfl,rfl⟩ fun n env K hI' hnext=>?_;obtain ⟨i,j1,rfl,hi,rfl,rfl⟩:=hI';refine au 923742 ?_;constructor<;>intro hc1
  ·simp only [decide_eq_true_eq] at hc1;have hil:i<(zb b).length:=by omega
   have htl:(((zb b).take i).map fun S=>(S.length:Int)).length<=65536:=by rw [lJ,List.length_take]; omega
   refine au 360421302120 ?_;refine bH Z (zK Z Z zd.h mQ (zbj (zb b) i hil)) ?_;refine au 220 ?_;intro j9 hj9;refine au 690670143170 ?_;refine bI Z Z Z (zG (l:=[_]) Z SlEl.h TyZ.h dQ dQ Z) (fun _=>zy rfl tQ) fun j4 hj4=>?_;refine bO Z Z Z (a_app Z ApOf.h Z mQ (by simp <;> omega) Z (yS (ln:=[_]) mQ dQ sQ Z) oQ Z (by unfold maxLen; omega) oQ) (fun _=>uQ) (fun _=>zy rfl tQ) fun j3=>?_;refine au 31230414035 ?_;refine bA [6,18,19,20] ?_;refine bC [(jx,_),(jm,_),(jl,_),(jb,_),(0,_),(1,_),(s,_),(e,_),(j3,_)] ?_;have e1:((zb b).take (i+1)).map (fun S=>(S.length:Int))=((zb b).take i).map (fun S=>(S.length:Int))++[((zb b)[i].length:Int)]:=by rw [List.take_add_one,lA hil,lM]; rfl
   exact hnext _ _ _ oQ ⟨i+1,j3,rfl,oQ,by rw [e1,lF]; rfl,by rw [e1,lM]; rfl⟩
  simp only [decide_eq_false_iff_not] at hc1;obtain rfl:i=(zb b).length:=by omega
  rw [lW];refine au 142160 ?_;refine bD Z Z Z Z (zg6 tame (by rw [lJ]; omega)) ?_;rintro r5 K6 ⟨rfl,rfl⟩;refine au 0 ?_;rw [<- vy ((zb b).map fun S=>(S.length:Int))];refine au 1423 ?_;refine bD Z Z Z Z (zcw tame) ?_;rintro r8 K9 ⟨rfl,rfl⟩;refine au 355 ?_;refine bB hret [(0,_),(1,_),(s,_),(e,_),(j1,_)] ?_;exact .inr ⟨hb0,j1,rfl,rfl⟩
end Go.Vel
namespace Go.Vel
open Go Go.Conc Go.Proofs
section
variable {P:Program} {gm:Nat->Option Nat} {T:Goroutine->Hp->Prop} {Y:KX P gm T} {ds:List Nat} {k:List Item} {env env':List AV} {K:KV}
end
def shortB (most:Int) (l:List Int):Bool:=decide ((l.length:Int)<most)
def moreM (most n:Int) (A:List (List Int)):List (List Int):=(A.filter (shortB most)).map (· ++ [n])
def setsM (most:Int):Nat->List (List Int)
 | 0=>[[]]
 | n+1=>setsM most n++moreM most n (setsM most n).reverse
theorem zbI {most:Int} (hm:0<=most):∀ n,∀ l∈setsM most n,(l.length:Int)<=most
 | 0,l,hl=>by rw [lS.1 hl]; simpa using hm
 | n+1,l,hl=>by
  rcases lT.1 hl with hl | hl
  ·exact zbI hm n l hl
  ·obtain ⟨x,hx,rfl⟩:=lY.1 hl;have:=of_decide_eq_true (List.mem_filter.1 hx).2;simp; omega
section
variable {P:Program} {gm:Nat->Option Nat} {T:Goroutine->Hp->Prop}
theorem Kstep.permR {K K' K2:KV} {A A':List AObj} (h:Kstep K A K' A') (hp:K'.Perm K2):Kstep K A K2 A' :=
 ⟨h.view.sub fun x hx=>hp.symm.subset hx,(zL hp).nodup_iff.1 h.nd,fun i hi=>h.own i ((zL hp).symm.subset hi),h.kept,h.len⟩
theorem Kstep.permL {K K' K2:KV} {A A':List AObj} (h:Kstep K A K' A') (hp:K.Perm K2):Kstep K2 A K' A' :=
 ⟨h.view,h.nd,fun i hi=>(h.own i hi).imp (fun h=>(zL hp).subset h) id,fun j hj hn=>h.kept j hj fun hm=>hn ((zL hp).subset hm),h.len⟩
theorem zg.frameP {g:FuncId} {args:List AV} {K Kb R:KV} {Q:AV->Prop} (h:zg P T gm g args K (fun r K'=>Q r/\K'=K)) (hp:Kb.Perm (K++R)):zg P T gm g args Kb (fun r K'=>Q r/\K'=Kb):=by
 intro A hv hn;have hv2:zP (K++R) A:=hv.sub fun x hx=>hp.symm.subset hx;have hn2:=(zL hp).nodup_iff.1 hn;have hn3:=hn2;rw [yn] at hn3;refine (h A (hv2.sub fun x hx=>List.mem_append_left _ hx) (List.nodup_append.1 hn3).1).mono ?_;rintro r A' ⟨K',hk,hq,rfl⟩;refine ⟨Kb,?_,hq,rfl⟩;have hs:Split (K'++R) K' R:=by
  have key:∀ (K:KV),Split (K++R) K R:=fun K=>by
   induction K with
   | nil=>exact .none _
   | cons x K ih=>exact .left ih
  exact key K'
 exact ((hk.frame hs hv2 hn2).permR hp.symm).permL hp.symm
end
theorem zgT {b:Bk} (h:checkM b=0):0<=b.high:=by
 unfold checkM at h;split at h
 ·rename_i h1; rw [h] at h1; cases h1
 ·rename_i h1;obtain ⟨q1,q2,q3,q4,q5,q6,q7⟩:=ko (b:=b) (by simpa using h1);omega
theorem wI {most:Int}:∀ n,∀ l∈setsM most n,∀ x∈l,0<=x/\x<n
 | 0,l,hl,x,hx=>by rw [lS.1 hl] at hx; cases hx
 | n+1,l,hl,x,hx=>by
  rcases lT.1 hl with hl | hl
  ·have:=wI n l hl x hx; omega
  ·obtain ⟨y,hy,rfl⟩:=lY.1 hl;rcases lT.1 hx with hx | hx
   ·have:=wI n y (List.mem_reverse.1 (List.mem_filter.1 hy).1) x hx; omega
   ·rw [lS.1 hx]; omega
def setsB (b:Bk):List (List Int):=setsM b.high b.steps.toNat
def statesR (b:Bk):List (List Int):=(setsB b).filter (canM b)
theorem zhM {Q:List (Nat×List Int)} {x:Nat×List Int} (hx:x∈Q):∃ R,Rem (objsL Q) (x.1,.cells (x.2.map intA) 3 false) R:=kf (vw hx)
def knownBar (b:Bk) (t:Bool):Int:=if checkM b=0 then if t=false then 6 else if statesR b=[] then 9 else 0 else checkM b
instance:ApOf tp 78 181 2 32:={}
instance:BlOf tp 181 [(0,1),(1,1)]:={}
instance:Cal tp 161:={}
instance:Cal tp 199:={}
instance:Cal tp 62:={}
instance:Cal tp 80:={}
instance:Cal tp 84:={}
instance:zl tp 181 0 0 false 1:={}
instance:zl tp 181 1 1 false 1:={}
instance:zl tp 76 2 2 false 1:={}
instance:SlEl tp 78 181 2:={}
instance:zd tp 181 true 2:={}
instance:TyZ tp 181 [.int .i64 0,.slice none 0 0]:={}
instance:TyZA tp 181 [.v (.int .i64 0),.v (.slice none 0 0)]:={}
def stepsC (l:List Bool):List AV:=[zm (l.getD 0 false),zm (l.getD 1 false),zm (l.getD 2 false),zm (l.getD 3 false),zm (l.getD 4 false),zm (l.getD 5 false),zm (l.getD 6 false),zm (l.getD 7 false),zm (l.getD 8 false),zm (l.getD 9 false),zm (l.getD 10 false),zm (l.getD 11 false)]
def skyC (y:SkyR):List AV:=[intA y.shift,zm (y.dirty.getD 0 false),zm (y.dirty.getD 1 false),zm (y.dirty.getD 2 false),zm (y.dirty.getD 3 false),zm (y.dirty.getD 4 false),zm (y.dirty.getD 5 false),zm (y.dirty.getD 6 false),zm (y.dirty.getD 7 false),zm (y.dirty.getD 8 false),zm (y.dirty.getD 9 false),zm (y.dirty.getD 10 false),zm (y.dirty.getD 11 false)]
def WasAt (ob:AObj) (off:Nat) (xs:List WatR):Prop:=∀ (i:Nat) (h:i<xs.length),zZ ob (off+(i:Int).toNat*3) 3=some (watC xs[i])
instance:ArEl tp 301 12 4 false 1:={}
instance:BlOf tp 301 [(0,1),(1,1),(2,1),(3,1),(4,1),(5,1),(6,1),(7,1),(8,1),(9,1),(10,1),(11,1)]:={}
instance:Cal tp 168:={}
instance:Cal tp 227:={}
instance:Cal tp 228:={}
instance:Cal tp 242:={}
instance:zl tp 303 0 0 false 1:={}
instance:zl tp 303 1 1 true 12:={}
instance:zd tp 301 true 12:={}
instance:zd tp 303 true 13:={}
instance:TyZ tp 301 [.bool false,.bool false,.bool false,.bool false,.bool false,.bool false,.bool false,.bool false,.bool false,.bool false,.bool false,.bool false]:={}
instance:TyZA tp 301 [.v (.bool false),.v (.bool false),.v (.bool false),.v (.bool false),.v (.bool false),.v (.bool false),.v (.bool false),.v (.bool false),.v (.bool false),.v (.bool false),.v (.bool false),.v (.bool false)]:={}
def onA (a:StA):Bool:=(a.stage==1)||(a.stage==3)
def allowsG:AObj:=.cells [.fn 313 [] [],.fn 314 [] [],.fn 315 [] [],.fn 316 [] []] 355 false
instance:ArEl tp 133 4 131 true 2:={}
instance:ArEl tp 356 4 355 false 1:={}
instance:BlOf tp 131 [(0,1),(1,1)]:={}
instance:Cal tp 132:={}
instance:Cal tp 135:={}
instance:Cal tp 183:={}
instance:Cal tp 184:={}
instance:Cal tp 187:={}
instance:Cal tp 313:={}
instance:Cal tp 314:={}
instance:Cal tp 315:={}
instance:Cal tp 316:={}
instance:Cal tp 317:={}
instance:Cal tp 318:={}
instance:EqG tp 131:={}
instance:FlatF tp 131 [(129,0),(3,1)]:={}
instance:zl tp 131 0 0 false 1:={}
instance:zl tp 131 1 1 false 1:={}
instance:zl tp 203 2 2 false 1:={}
instance:zl tp 256 0 0 false 1:={}
instance:zl tp 256 1 1 false 1:={}
instance:zl tp 31 1 1 false 1:={}
instance:zd tp 117 true 4:={}
instance:zd tp 129 false 1:={}
instance:zd tp 131 true 2:={}
instance:zd tp 133 true 8:={}
instance:zd tp 256 true 2:={}
instance:zd tp 355 false 1:={}
instance:TyZ tp 131 [.int .i64 0,.int .i64 0]:={}
instance:TyZA tp 131 [.v (.int .i64 0),.v (.int .i64 0)]:={}
instance:TyZA tp 133 [.v (.int .i64 0),.v (.int .i64 0),.v (.int .i64 0),.v (.int .i64 0),.v (.int .i64 0),.v (.int .i64 0),.v (.int .i64 0),.v (.int .i64 0)]:={}
instance:TyZA tp 203 [.v (.int .i64 0),.v (.int .i64 0),.v (.bool false)]:={}
instance:Und tp 129 (.int .i64):={}
def YieldG (P:Program) (T:Goroutine->Hp->Prop) (gm:Nat->Option Nat) {α:Type} (Fx:KV) (ar:α->AV) (l:Nat) (J:List α->KV->Prop) (D:KV->Prop) (tot:List α):Prop:=∀ (pre:List α) (x:α) (K1:KV),pre++[x] <+: tot->J pre K1 ->
 CallFK P T gm (.yl l) [ar x] (Fx++K1) fun r K'=>∃ K2,K'=Fx++K2/\((r=zm true/\J (pre++[x]) K2)\/(r=zm false/\D K2))
section
variable {P:Program} {main:Bool} {T:Goroutine->Hp->Prop} {gm:Nat->Option Nat} {Y:KX P gm T} {ds:List Nat} {k:List Item} {env:List AV} {K K0 R:KV} {ops:Array Oper} {i:Nat} {rest:List Nat} {o:Oper}
theorem TK.rangeG {α:Type} (hT:zh P main T) {fo:Operand} {ps:Array Tmp} {x y:Code} {g:FuncId} {fs cp:List AV} {Fx:KV} {ar:α->AV} {tot:List α} {J:List α->KV->Prop} {D:Code->KV->Prop} (hps:ps.size=1) (hro:Y.X.ro=none) (hf:zr gm env fo=some (.fn g fs cp)) (hg:ym P g=true) (hs:Split K (Fx++K0) R) (hJ0:J [] K0)
  (hit:∀ (l:Nat) (J':List α->KV->Prop) (D':KV->Prop) (K1:KV),YieldG P T gm Fx ar l J' D' tot->J' [] K1->zg P T gm g (fs++[.yl l]++cp) (Fx++K1) (fun _ K'=>∃ K2,K'=Fx++K2/\(J' tot K2\/D' K2)))
  (round:∀ (Y':KX P gm T) (l:Nat) (lo lb:AObj) (pre:List α) (S:α) (K1:KV),(∀ ds k env' K K',Upd K l lo l lb K'->TK Y' ds k env' K'->TK Y' ds (.beginRound::k) env' K) ->
   (∀ env' K' K2 D',Split K' ((l,lb)::(Fx++K2)) D'->J (pre++[S]) K2->TK Y' [] [] env' K') ->
   (∀ c k env' K' K2 D',Leave (some c) k->Split K' ((l,lb)::(Fx++K2)) D'->D c K2->TK Y' [] k env' K') ->
   pre++[S] <+: tot->J pre K1->TK Y' [] [.code x,.beginRound,.code y] (putAll env (ps.toList.zip [ar S])) ((l,lo)::(Fx++K1)))
  (hend:∀ d K2,J tot K2->TK Y (d::ds) k env ((d,.raw (.deferred (some [])))::(Fx++(K2++R))))
  (hstop:∀ d c K2,D c K2->TK Y (d::ds) (.code c::k) env ((d,.raw (.deferred (some [])))::(Fx++(K2++R)))):TK Y ds (.code (.rangeFunc fo ps x y)::k) env K:=by
 refine TK.rangeFunc (Post:=fun l _ K'=>∃ st pj K2,K'=(l,.loop Y.X.f env ps x y st pj)::(Fx++K2)/\((st=.ready/\pj=none/\J tot K2)\/∃ c,st=.done/\pj=some c/\D c K2))
  (Q:=fun pj K'=>∃ K2,K'=Fx++K2/\((pj=none/\J tot K2)\/∃ c,pj=some c/\D c K2)) hro hf hg hs (fun l hl=>?_) ?_ ?_
 ·intro A hv hn;have hp:((l,AObj.loop Y.X.f env ps x y .ready none)::(Fx++K0)).Perm (Fx++(l,.loop Y.X.f env ps x y .ready none)::K0):=List.perm_middle.symm;refine CallT.mono (hit l (fun pre K=>∃ K3,K=(l,.loop Y.X.f env ps x y .ready none)::K3/\J pre K3) (fun K=>∃ c K3,K=(l,.loop Y.X.f env ps x y .done (some c))::K3/\D c K3) _ ?_ ⟨K0,rfl,hJ0⟩ A (hv.sub fun x hx=>hp.symm.subset hx) ((zL hp).nodup_iff.1 hn)) ?_
  ·rintro pre S K1 hpre ⟨K3,rfl,hJ⟩;refine CallFK.perm (Post:=fun r K'=>(r=zm true/\∃ K2,K'=(l,.loop Y.X.f env ps x y .ready none)::(Fx++K2)/\J (pre++[S]) K2)\/(r=zm false/\∃ c K2,K'=(l,.loop Y.X.f env ps x y .done (some c))::(Fx++K2)/\D c K2)) ?_ ?_
   ·refine zdO hT (i:=l) (f:=Y.X.f) (env:=env) (ps:=ps) (x:=x) (y:=y) sQ hps.symm fun Y' hro' hl' hret=>?_;refine bN List.perm_middle ?_;refine round Y' l (.loop Y.X.f env ps x y .ready none) (.loop Y.X.f env ps x y .busy none) pre S K3 (fun ds k env' K K' hu h=>TK.beginRound hro' hl' hu h) (fun env' K' K2 D' hsp hJ'=>?_) (fun c k env' K' K2 D' hlv hsp hD=>?_) hpre hJ
    ·exact TK.leave .fin fun A hA=>hret none env' K' (Fx++K2) D' .busy none hsp (.inl ⟨rfl,K2,rfl,hJ'⟩) A hA
    ·exact TK.leave hlv fun A hA=>hret (some c) env' K' (Fx++K2) D' .busy none hsp (.inr ⟨rfl,c,K2,rfl,hD⟩) A hA
   ·rintro r K' (⟨rfl,K2,rfl,h⟩ | ⟨rfl,c,K2,rfl,h⟩)
    ·exact ⟨_,List.perm_middle.symm,_,rfl,.inl ⟨rfl,K2,rfl,h⟩⟩
    ·exact ⟨_,List.perm_middle.symm,_,rfl,.inr ⟨rfl,c,K2,rfl,h⟩⟩
  ·rintro r A' ⟨K',hk,K2,rfl,h⟩;have hk2:∀ K'',(Fx++K2).Perm K''->Kstep ((l,AObj.loop Y.X.f env ps x y .ready none)::(Fx++K0)) A K'' A':=fun K'' hp2 =>
    Kstep.perm ⟨hk.view,hk.nd,fun i hi=>(hk.own i hi).imp_left fun h=>(zL hp).symm.subset h,fun j h1 h2=>hk.kept j h1 fun h=>h2 ((zL hp).symm.subset h),hk.len⟩ hp2
   rcases h with ⟨K3,rfl,h⟩ | ⟨c,K3,rfl,h⟩
   ·exact ⟨_,hk2 _ List.perm_middle,.ready,none,K3,rfl,.inl ⟨rfl,rfl,h⟩⟩
   ·exact ⟨_,hk2 _ List.perm_middle,.done,some c,K3,rfl,.inr ⟨c,rfl,rfl,h⟩⟩
 ·rintro l r K' ⟨st,pj,K2,rfl,h⟩;refine ⟨st,pj,_,rfl,?_,K2,rfl,?_⟩
  ·rcases h with ⟨rfl,_⟩ | ⟨c,rfl,_⟩ <;> rfl
  ·rcases h with ⟨_,rfl,h⟩ | ⟨c,_,rfl,h⟩
   ·exact .inl ⟨rfl,h⟩
   ·exact .inr ⟨c,rfl,h⟩
 ·rintro d pj K' ⟨K2,rfl,⟨rfl,h⟩ | ⟨c,rfl,h⟩⟩
  ·rw [List.append_assoc]; exact hend d K2 h
  ·rw [List.append_assoc]; exact hstop d c K2 h
end
def movesK (b:StB) (s:List StA) (i k:Nat):List (Nat×Nat):=((List.range k).filter fun k=>mayS b s i k).map fun k=>(i,k)
def movesP (b:StB) (s:List StA) (i:Nat):List (Nat×Nat):=(List.range i).flatMap (movesI b s)
abbrev mvA (x:Nat×Nat):AV:=.agg [intA x.1,intA x.2]
instance:BlOf tp 256 [(0,1),(1,1)]:={}
instance:Cal tp 186:={}
instance:TyZ tp 256 [.int .i64 0,.int .i64 0]:={}
instance:TyZA tp 256 [.v (.int .i64 0),.v (.int .i64 0)]:={}
abbrev skyA (y:SkyR):AV:=.agg (skyC y)
instance:Cal tp 225:={}
instance:zd tp 340 false 1:={}
instance:zd tp 364 false 1:={}
instance:TyZA tp 303 [.v (.int .i64 0),.v (.bool false),.v (.bool false),.v (.bool false),.v (.bool false),.v (.bool false),.v (.bool false),.v (.bool false),.v (.bool false),.v (.bool false),.v (.bool false),.v (.bool false),.v (.bool false)]:={}
instance:ApOf tp 187 303 13 24:={}
instance:BlOf tp 303 [(0,1),(1,12)]:={}
instance:Cal tp 200:={}
instance:Cal tp 201:={}
instance:Cal tp 224:={}
instance:SlEl tp 187 303 13:={}
instance:zd tp 187 false 1:={}
instance:TyZ tp 303 [.int .i64 0,.bool false,.bool false,.bool false,.bool false,.bool false,.bool false,.bool false,.bool false,.bool false,.bool false,.bool false,.bool false]:={}
instance:TyZA tp 187 [.v (.slice none 0 0)]:={}
instance:TyZA tp 364 [.v (.nilFunc)]:={}
def fogG:AObj:=.cells [intA (-1),intA 0] 127 false
def GoodF (b:StB) (s:List StA) (f:Int×Int):Prop:=f=(-1,0)\/f.2=mostA b s
def foldM (b:StB) (sp:List StA) (l:List (Nat×Nat)):Int:=l.foldl (fun m x=>max m (mostA b (behindS sp x.1 x.2))) (atS b sp 2)
section
variable {P:Program} {gm:Nat->Option Nat} {V:KV} {env:List AV} {o:Oper}
end
instance:BlOf tp 127 [(0,1),(1,1)]:={}
instance:Cal tp 136:={}
instance:Cal tp 137:={}
instance:Cal tp 185:={}
instance:Cal tp 56:={}
instance:EqG tp 127:={}
instance:FlatF tp 127 [(3,0),(3,1)]:={}
instance:zl tp 127 0 0 false 1:={}
instance:zl tp 127 1 1 false 1:={}
instance:zd tp 127 true 2:={}
instance:zd tp 134 false 1:={}
instance:TyZ tp 127 [.int .i64 0,.int .i64 0]:={}
instance:TyZA tp 127 [.v (.int .i64 0),.v (.int .i64 0)]:={}
theorem zdZ {α:Type} (f:α->List AV) (hf:∀ x,(f x).all oneA=true) (xs:List α):(xs.flatMap f).all oneA=true:=by
 induction xs with
 | nil=>rfl
 | cons x xs ih=>rw [List.flatMap_cons,List.all_append,hf,ih]; rfl
instance:ApOf tp 28 203 3 24:={}
instance:ApOf tp 29 125 2 24:={}
instance:BlOf tp 133 [(0,2),(2,2),(4,2),(6,2)]:={}
instance:Cal tp 131:={}
instance:Cal tp 133:={}
instance:Cal tp 134:={}
instance:Cal tp 52:={}
instance:Cal tp 53:={}
instance:SlEl tp 247 120 1:={}
instance:TyZ tp 125 [.string ⟨#[]⟩,.int .i64 0]:={}
instance:TyZ tp 133 [.int .i64 0,.int .i64 0,.int .i64 0,.int .i64 0,.int .i64 0,.int .i64 0,.int .i64 0,.int .i64 0]:={}
instance:TyZ tp 203 [.int .i64 0,.int .i64 0,.bool false]:={}
instance:TyZA tp 117 [.v (.int .i64 0),.v (.bool false),.v (.slice none 0 0),.v (.slice none 0 0)]:={}
instance:TyZA tp 31 [.v (.int .i64 0),.v (.bool false),.v (.slice none 0 0),.v (.slice none 0 0)]:={}
instance:Und tp 247 (.slice 120):={}
end Go.Vel
namespace Go.Vel
open Go Go.Conc
section
variable {P:Program} {gm:Nat->Option Nat} {T:Goroutine->Hp->Prop} {Y:KX P gm T} {ds:List Nat} {k:List Item} {env:List AV} {K K':KV}
theorem TK.unrowAt {c i j n:Nat} {l l1:List AV} {t e1:TypeId} {s1:Nat} {rw':Bool} (hi:l[i]? =some (.row j n)) (hm:(j,.row l1 e1 s1)∈K) (hu:Upd K c (.cells l t rw') c (.cells (l.set i (.sl j 0 n)) t rw') K') (h:TK Y ds k env K'):TK Y ds k env K:=fun A hA φ H ts h1 h2 h3 h4 h5 h6=>by
 have hj:=hA.view.get hu.mem;have hb:(φ j).base=0:=(h5.obj j _ (hA.view.get hm)).2.1;have hil:i<l.length:=(lD.1 hi).1;have hne:l≠[]:=fun e=>by rw [e] at hil; exact absurd hil (Nat.not_lt_zero _)
 refine h _ (hA.step (.set hA.view hA.nd hu)) φ H ts h1 (by simpa using h2) (by simpa using h3) (by simpa using h4) (h5.turn hj (fun ho hl=>?_) (fun h=>h) (fun _=>rfl) (fun hs=>by simpa [sol] using hne)) (by simpa using h6);obtain ⟨rw2,cur,fz,q1,q2,q3⟩:=ho hne;refine ⟨rw2,cur,fz,q1,q2,fun t' a ha=>?_⟩;by_cases e:t'=i
 ·subst e;rw [List.getElem?_set_self hil] at ha;cases ha;obtain ⟨y,hy,hr⟩:=q3 t' _ hi;exact ⟨y,hy,by have:=wJ (j:=j) hb hr; simpa [unrow] using this⟩
 ·rw [lP (fun h=>e h.symm)] at ha;exact q3 t' a ha
theorem zgt {φ:Nat->Loc3} {A:List AObj} {F H:Hp} (h:RelH φ A F H) {j:Nat} {l:List AV} {e:TypeId} {sz:Nat} (hj:A[j]? =some (.row l e sz)):RelH φ (A.set j (.cells l e false)) F H:=by
 have hg:∀ t w,(A.set j (.cells l e false))[t]? =some w->(t=j/\w=.cells l e false)\/(t≠j/\A[t]? =some w):=fun t w ht=>by
  rw [lX] at ht;split at ht
  ·rename_i e';split at ht
   ·cases ht; exact .inl ⟨e'.symm,rfl⟩
   ·cases ht
  ·rename_i e';exact .inr ⟨fun h=>e' h.symm,ht⟩
 have hcap:l≠[]->0<(φ j).cap:=fun hl=>by
  rcases mP (φ j).cap with e | e
  ·exact absurd ((h.obj j _ hj).1 e) hl
  ·exact e
 refine ⟨fun t w ht=>?_,fun t t' w w' ht ht' hn he hl s1 s2=>?_,h.fr,fun t w ht he hs=>?_⟩
 ·rw [List.length_set];rcases hg t w ht with ⟨rfl,rfl⟩ | ⟨_,h2⟩
  ·intro hl;obtain ⟨_,hb,hc⟩:=h.obj t _ hj;obtain ⟨cur,h1,_,_,_,h3⟩:=hc (hcap hl);exact ⟨true,cur,(e,0,0),h1,(fun h=>by cases h),fun i a ha=>by rw [hb,mO]; exact h3 i a ha⟩
  ·exact h.obj t w h2
 ·rcases hg t w ht with ⟨rfl,rfl⟩ | ⟨_,h2⟩
  ·cases he
  ·rcases hg t' w' ht' with ⟨rfl,rfl⟩ | ⟨_,h2'⟩
   ·exact h.apart t t' w _ h2 hj hn he rfl s1 (hcap s2)
   ·exact h.apart t t' w w' h2 h2' hn he hl s1 s2
 ·rcases hg t w ht with ⟨rfl,rfl⟩ | ⟨_,h2⟩
  ·cases he
  ·exact h.frx t w h2 he hs
theorem TK.frzRow {j:Nat} {l:List AV} {e:TypeId} {sz:Nat} (h:TK Y ds k env K') (hu:Upd K j (.row l e sz) j (.cells l e false) K':=by repeat (first | exact Upd.head | apply Upd.tail)):TK Y ds k env K:=fun A hA φ H ts h1 h2 h3 h4 h5 h6=>by
 have hj:=hA.view.get hu.mem;have hl:(A.set j (.cells l e false)).length=A.length:=by simp
 exact h _ (hA.step (.set hA.view hA.nd hu)) φ H ts h1 (by rw [hl]; exact h2) (by rw [hl]; exact h3) (by rw [hl]; exact h4) (zgt h5 hj) (by rw [hl]; exact h6)
end
end Go.Vel
end
